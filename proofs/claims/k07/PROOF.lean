import PyProof.Rows.All
import Wide.All
import OpenK.AllK
import Wide.FinOn
import HandS.ForMost
import HandS.ForExc
import HandS.TupAny
import HandS.TupMul
import HandS.Wide
import HandS.Deep
import HandS.IsInst
import HandS.SortInts
import HandS.More
import HandS.MakeKwOnly
import HandS.Style
import HandS.Property
import HandS.CallRecv
import HandS.Zip
import HandS.Comp
import HandS.SetFor
import HandS.Strs
import HandS.TryMany
import HandS.Ends
import PyProof.Rows.ReprShort
import PySem.Challenge.RW_skidblame_k07_sources_refused
set_option Elab.async false
set_option linter.all false
set_option maxRecDepth 100000
set_option maxHeartbeats 4000000
/-! Mp, part 1: plain values for Python's data, how they stand in the heap, environments. -/
namespace Mp
open PySem PySem.Spec PyProof.Rows L2
abbrev Fg := PySem.W.Frag
abbrev Mg := Str → Option Value
/-- plain values -/
inductive D where
  | non | bl (b : Bool) | int (i : Int) | str (x : Str)
  | tup (ds : List D) | lst (ds : List D)
  | dK (ks : List Key) (ds : List D) | dT (ks : List (List Key)) (ds : List D)
  | obj (c : Str) (fs : List Str) (ds : List D)
  | scr (ns : List Int)

/-- names that stand for classes -/
structure Wd where
  K : Fg
  mg : Mg

/-- an own class, as the text has it; fs: names of fields -/
structure CO (U : Wd) (c : Str) (C : Addr) (fs : List Str) : Prop where
  m : U.mg c = some (.ref C)
  c : Cls U.K C
  ha : PySem.W.findIn U.K (.ref C) "__class__" = some (some (.builtin "object.__class__"))
  hn : PySem.W.specialIn U.K (.builtin "object.__class__") "__get__" = some (some (.builtin "getset_descriptor.__get__"))
  htk : PySem.W.takesIn U.K (.builtin "object.__class__") = some true
  hm : PySem.W.mroIn U.K C (.type "object") = some true
  n : ∀ f ∈ fs, NoAttr U.K C f
mutual
inductive Rep (U : Wd) (G : Hp) : V → D → Prop
  | non : Rep U G .non .non
  | bl (b : Bool) : Rep U G (.bl b) (.bl b)
  | int (i : Int) : Rep U G (.int i) (.int i)
  | str (x : Str) : Rep U G (.str x) (.str x)
  | tup {a : Addr} {xs : List V} {ds : List D} : SqT U.K G a xs → Reps U G xs ds → Rep U G (.ref a) (.tup ds)
  | lst {a : Addr} {xs : List V} {ds : List D} : G a = some (.lst xs) → Reps U G xs ds → Rep U G (.ref a) (.lst ds)
  | dK {a : Addr} {ks : List Key} {xs : List V} {ds : List D} : G a = some (.dK (ks.zip xs)) → ks.length = xs.length → Reps U G xs ds → Rep U G (.ref a) (.dK ks ds)
  | dT {a : Addr} {ks : List (List Key)} {xs : List V} {ds : List D} : G a = some (.dT (ks.zip xs)) → ks.length = xs.length → Reps U G xs ds → Rep U G (.ref a) (.dT ks ds)
  | obj {a C dx : Addr} {c : Str} {fs : List Str} {xs : List V} {ds : List D} : G a = some (.ins C dx (fs.zip xs)) → fs.length = xs.length → CO U c C fs → Reps U G xs ds → Rep U G (.ref a) (.obj c fs ds)
  | scr {a : Addr} {ns : List Int} : SqL U.K G a (ns.map V.int) → Rep U G (.ref a) (.scr ns)
inductive Reps (U : Wd) (G : Hp) : List V → List D → Prop
  | nil : Reps U G [] []
  | cons {v : V} {vs : List V} {d : D} {ds : List D} : Rep U G v d → Reps U G vs ds → Reps U G (v :: vs) (d :: ds)
end

/-- a dict that a loop walks is locked -/
def isDct : HO → Bool
  | .dK _ => true
  | .dT _ => true
  | _ => false
/-- the frozen part of a heap -/
def Sub (G H : Hp) : Prop := ∀ a o, G a = some o → H a = some o ∨ (isDct o = true ∧ ∃ ob, H a = some (.frz ob o))
theorem Sub.refl (G : Hp) : Sub G G := fun _ _ h => .inl h
theorem Sub.same {G H H' : Hp} (s : Sub G H) (t : Same H H') : Sub G H' := fun a o h => by
  rcases s a o h with e | ⟨d, ob, e⟩
  · exact .inl (t _ _ e)
  · exact .inr ⟨d, ob, t _ _ e⟩
theorem Sub.of {G G' H : Hp} (s : Sub G' H) (t : Same G G') : Sub G H := fun a o h => s a o (t _ _ h)
theorem Sub.none {G H : Hp} (s : Sub G H) {a : Addr} (h : H a = none) : G a = none := by
  cases e : G a with
  | none => rfl
  | some o =>
    rcases s a o e with z | ⟨_, _, z⟩
    · rw [h] at z; cases z
    · rw [h] at z; cases z
theorem Sub.some {G H : Hp} (s : Sub G H) {a : Addr} {o : HO} (h : G a = some o) : ∃ o', H a = some o' := by
  rcases s a o h with z | ⟨_, _, z⟩
  · exact ⟨_, z⟩
  · exact ⟨_, z⟩

theorem same_sqT {K : Fg} {H H' : Hp} {a : Addr} {xs : List V} (e : Same H H') (h : SqT K H a xs) : SqT K H' a xs := by
  rcases h with (h | ⟨o, h⟩) | h
  · exact .inl (.inl (e _ _ h))
  · exact .inl (.inr ⟨o, e _ _ h⟩)
  · exact .inr h
mutual
theorem Rep.mono {U : Wd} {G G' : Hp} (e : Same G G') : ∀ {v : V} {d : D}, Rep U G v d → Rep U G' v d
  | _, _, .non => .non
  | _, _, .bl b => .bl b
  | _, _, .int b => .int b
  | _, _, .str b => .str b
  | _, _, .tup h r => .tup (same_sqT e h) (Reps.mono e r)
  | _, _, .lst h r => .lst (e _ _ h) (Reps.mono e r)
  | _, _, .dK h l r => .dK (e _ _ h) l (Reps.mono e r)
  | _, _, .dT h l r => .dT (e _ _ h) l (Reps.mono e r)
  | _, _, .obj h l m r => .obj (e _ _ h) l m (Reps.mono e r)
  | _, _, .scr h => .scr (e.seq h)
theorem Reps.mono {U : Wd} {G G' : Hp} (e : Same G G') : ∀ {v : List V} {d : List D}, Reps U G v d → Reps U G' v d
  | _, _, .nil => .nil
  | _, _, .cons h r => .cons (Rep.mono e h) (Reps.mono e r)
end

section
variable {U : Wd} {G H : Hp}
theorem Reps.length : ∀ {xs : List V} {ds : List D}, Reps U G xs ds → xs.length = ds.length
  | _, _, .nil => rfl
  | _, _, .cons _ r => congrArg (· + 1) r.length
theorem Reps.append : ∀ {xs ys : List V} {ds es : List D}, Reps U G xs ds → Reps U G ys es → Reps U G (xs ++ ys) (ds ++ es)
  | _, _, _, _, .nil, h => h
  | _, _, _, _, .cons a r, h => .cons a (r.append h)
theorem Reps.get : ∀ {xs : List V} {ds : List D} {i : Nat} {d : D}, Reps U G xs ds → ds[i]? = some d → ∃ v, xs[i]? = some v ∧ Rep U G v d
  | _, _, _, _, .nil, h => by simp at h
  | _, _, 0, _, .cons a r, h => by
    simp at h; subst h
    exact ⟨_, rfl, a⟩
  | _, _, i + 1, _, .cons a r, h => by
    obtain ⟨v, e, q⟩ := r.get (i := i) (by simpa using h)
    exact ⟨v, by simpa using e, q⟩
theorem Reps.got : ∀ {xs : List V} {ds : List D} {i : Nat} {v : V}, Reps U G xs ds → xs[i]? = some v → ∃ d, ds[i]? = some d ∧ Rep U G v d
  | _, _, _, _, .nil, h => by simp at h
  | _, _, 0, _, .cons a r, h => by
    simp at h; subst h
    exact ⟨_, rfl, a⟩
  | _, _, i + 1, _, .cons a r, h => by
    obtain ⟨v, e, q⟩ := r.got (i := i) (by simpa using h)
    exact ⟨v, by simpa using e, q⟩
theorem Reps.take : ∀ {xs : List V} {ds : List D} (n : Nat), Reps U G xs ds → Reps U G (xs.take n) (ds.take n)
  | _, _, 0, _ => .nil
  | _, _, _ + 1, .nil => .nil
  | _, _, n + 1, .cons a r => .cons a (r.take n)
theorem Reps.drop : ∀ {xs : List V} {ds : List D} (n : Nat), Reps U G xs ds → Reps U G (xs.drop n) (ds.drop n)
  | _, _, 0, r => r
  | _, _, _ + 1, .nil => .nil
  | _, _, n + 1, .cons _ r => r.drop n
theorem Reps.set {v : V} {d : D} (h : Rep U G v d) : ∀ {xs : List V} {ds : List D} (i : Nat), Reps U G xs ds → Reps U G (xs.set i v) (ds.set i d)
  | _, _, _, .nil => .nil
  | _, _, 0, .cons _ r => .cons h r
  | _, _, i + 1, .cons a r => .cons a (Reps.set h i r)
theorem Reps.rev : ∀ {xs : List V} {ds : List D}, Reps U G xs ds → Reps U G xs.reverse ds.reverse
  | _, _, .nil => .nil
  | _, _, .cons a r => by
    rw [List.reverse_cons, List.reverse_cons]
    exact r.rev.append (.cons a .nil)
theorem Reps.one {v : V} {d : D} (h : Rep U G v d) : Reps U G [v] [d] := .cons h .nil
theorem Reps.rep {xs : List V} {ds : List D} (r : Reps U G xs ds) : ∀ n : Nat, Reps U G (List.replicate n xs).flatten (List.replicate n ds).flatten
  | 0 => .nil
  | n + 1 => by
    rw [List.replicate_succ, List.replicate_succ, List.flatten_cons, List.flatten_cons]
    exact r.append (r.rep n)
theorem Reps.ints : ∀ (ns : List Int), Reps U G (ns.map V.int) (ns.map D.int)
  | [] => .nil
  | n :: ns => .cons (.int n) (Reps.ints ns)
theorem Reps.strs : ∀ (ns : List Str), Reps U G (ns.map V.str) (ns.map D.str)
  | [] => .nil
  | n :: ns => .cons (.str n) (Reps.strs ns)
theorem Reps.bls : ∀ (ns : List Bool), Reps U G (ns.map V.bl) (ns.map D.bl)
  | [] => .nil
  | n :: ns => .cons (.bl n) (Reps.bls ns)
theorem Reps.of_ints : ∀ {ns : List Int} {xs : List V}, Reps U G xs (ns.map D.int) → xs = ns.map V.int
  | [], _, .nil => rfl
  | n :: ns, _, .cons a r => by
    cases a
    rw [Reps.of_ints r]
    rfl
theorem Reps.of_strs : ∀ {ns : List Str} {xs : List V}, Reps U G xs (ns.map D.str) → xs = ns.map V.str
  | [], _, .nil => rfl
  | n :: ns, _, .cons a r => by
    cases a
    rw [Reps.of_strs r]
    rfl
theorem Reps.of_bls : ∀ {ns : List Bool} {xs : List V}, Reps U G xs (ns.map D.bl) → xs = ns.map V.bl
  | [], _, .nil => rfl
  | n :: ns, _, .cons a r => by
    cases a
    rw [Reps.of_bls r]
    rfl
theorem SqT.sub {K : Fg} (s : Sub G H) {a : Addr} {xs : List V} (h : SqT K G a xs) : SqT K H a xs := by
  rcases h with (h | ⟨o, h⟩) | h
  · rcases s _ _ h with e | ⟨d, _⟩
    · exact .inl (.inl e)
    · cases d
  · rcases s _ _ h with e | ⟨d, _⟩
    · exact .inl (.inr ⟨o, e⟩)
    · cases d
  · exact .inr h
theorem SqL.sub {K : Fg} (s : Sub G H) {a : Addr} {xs : List V} (h : SqL K G a xs) : SqL K H a xs := by
  rcases h with (h | ⟨o, h⟩) | h
  · rcases s _ _ h with e | ⟨d, _⟩
    · exact .inl (.inl e)
    · cases d
  · rcases s _ _ h with e | ⟨d, _⟩
    · exact .inl (.inr ⟨o, e⟩)
    · cases d
  · exact .inr h
theorem lst_sub (s : Sub G H) {a : Addr} {xs : List V} (h : G a = some (.lst xs)) : H a = some (.lst xs) := by
  rcases s _ _ h with e | ⟨d, _⟩
  · exact e
  · cases d
theorem ins_sub (s : Sub G H) {a C dx : Addr} {fs} (h : G a = some (.ins C dx fs)) : H a = some (.ins C dx fs) := by
  rcases s _ _ h with e | ⟨d, _⟩
  · exact e
  · cases d
theorem dK_sub (s : Sub G H) {a : Addr} {ks} (h : G a = some (.dK ks)) : Rd H a (.dK ks) := by
  rcases s _ _ h with e | ⟨_, ob, e⟩
  · exact .inl e
  · exact .inr ⟨ob, e⟩
theorem dT_sub (s : Sub G H) {a : Addr} {ks} (h : G a = some (.dT ks)) : Rd H a (.dT ks) := by
  rcases s _ _ h with e | ⟨_, ob, e⟩
  · exact .inl e
  · exact .inr ⟨ob, e⟩
end

/-! ### what is owned: its top may change, the parts are frozen -/
def Node (U : Wd) (H G : Hp) (a : Addr) : D → Prop
  | .lst ds => ∃ xs, H a = some (.lst xs) ∧ Reps U G xs ds
  | .dK ks ds => ∃ xs, H a = some (.dK (ks.zip xs)) ∧ ks.length = xs.length ∧ Reps U G xs ds
  | .dT ks ds => ∃ xs, H a = some (.dT (ks.zip xs)) ∧ ks.length = xs.length ∧ Reps U G xs ds
  | .obj c fs ds => ∃ C dx xs, H a = some (.ins C dx (fs.zip xs)) ∧ fs.length = xs.length ∧ CO U c C fs ∧ Reps U G xs ds
  | _ => False
theorem Node.mono {U : Wd} {H H' G G' : Hp} {a : Addr} (e : Same G G') (h : H' a = H a) : ∀ {d : D}, Node U H G a d → Node U H' G' a d
  | .lst ds, ⟨xs, h1, h2⟩ => ⟨xs, h.trans h1, h2.mono e⟩
  | .dK ks ds, ⟨xs, h1, l, h2⟩ => ⟨xs, h.trans h1, l, h2.mono e⟩
  | .dT ks ds, ⟨xs, h1, l, h2⟩ => ⟨xs, h.trans h1, l, h2.mono e⟩
  | .obj c fs ds, ⟨C, dx, xs, h1, l, m, h2⟩ => ⟨C, dx, xs, h.trans h1, l, m, h2.mono e⟩
theorem Node.there {U : Wd} {H G : Hp} {a : Addr} : ∀ {d : D}, Node U H G a d → ∃ o, H a = some o
  | .lst ds, ⟨xs, h1, h2⟩ => ⟨_, h1⟩
  | .dK ks ds, ⟨xs, h1, l, h2⟩ => ⟨_, h1⟩
  | .dT ks ds, ⟨xs, h1, l, h2⟩ => ⟨_, h1⟩
  | .obj c fs ds, ⟨C, dx, xs, h1, l, m, h2⟩ => ⟨_, h1⟩
/-- freezing: the address goes to the frozen part -/
theorem Node.freeze {U : Wd} {H G : Hp} {a : Addr} (hg : G a = none) : ∀ {d : D}, Node U H G a d → ∃ o, H a = some o ∧ Same G (upd G a o) ∧ Rep U (upd G a o) (.ref a) d := by
  have sm : ∀ o, Same G (upd G a o) := fun o b u e => by
    rw [upd_ne (ne_of_none e hg)]
    exact e
  intro d n
  cases d with
  | lst ds => obtain ⟨xs, h1, h2⟩ := n; exact ⟨_, h1, sm _, .lst upd_same (h2.mono (sm _))⟩
  | dK ks ds => obtain ⟨xs, h1, l, h2⟩ := n; exact ⟨_, h1, sm _, .dK upd_same l (h2.mono (sm _))⟩
  | dT ks ds => obtain ⟨xs, h1, l, h2⟩ := n; exact ⟨_, h1, sm _, .dT upd_same l (h2.mono (sm _))⟩
  | obj c fs ds => obtain ⟨C, dx, xs, h1, l, m, h2⟩ := n; exact ⟨_, h1, sm _, .obj upd_same l m (h2.mono (sm _))⟩
  | _ => exact False.elim n

/-- a value that is read: frozen, or the top of an owned one -/
def Rd1 (U : Wd) (G H : Hp) (v : V) (d : D) : Prop := Rep U G v d ∨ ∃ a, v = .ref a ∧ Node U H G a d

inductive Slot where
  | un | fz (d : D) | ow (d : D)
abbrev En := List Slot
/-- a result: frozen, or new and owned -/
inductive Val where
  | fz (d : D) | ow (d : D)
def Val.d : Val → D
  | .fz d => d
  | .ow d => d

def SRel (U : Wd) (G H : Hp) : Slot → Option V → Prop
  | .un, _ => True
  | .fz d, o => ∃ v, o = some v ∧ Rep U G v d
  | .ow d, o => ∃ a, o = some (.ref a) ∧ G a = none ∧ Node U H G a d
def OwnAt (r : En) (σ : L2.St) (a : Addr) : Prop := ∃ (i : Nat) (d : D), r[i]? = some (Slot.ow d) ∧ σ[i]? = some (some (V.ref a))

structure Rl (U : Wd) (r : En) (σ : L2.St) (H G : Hp) : Prop where
  sub : Sub G H
  len : r.length = σ.length
  at_ : ∀ (i : Nat) (s : Slot) (o : Option V), r[i]? = some s → σ[i]? = some o → SRel U G H s o
  ap : ∀ (i j : Nat) (a : Addr) (d e : D), i ≠ j → r[i]? = some (Slot.ow d) → r[j]? = some (Slot.ow e) → σ[i]? = some (some (V.ref a)) → σ[j]? ≠ some (some (V.ref a))

/-- what a piece of code does to the heap -/
structure Tr (r : En) (σ : L2.St) (H G : Hp) (r' : En) (σ' : L2.St) (H' G' : Hp) : Prop where
  g : Same G G'
  h : ∀ b o, H b = some o → ¬ OwnAt r σ b → H' b = some o
  t : ∀ b o, H b = some o → ∃ o', H' b = some o'
  o : ∀ b, OwnAt r' σ' b → OwnAt r σ b ∨ H b = none
  f : ∀ b o, G' b = some o → G b = some o ∨ H b = none ∨ OwnAt r σ b
theorem Tr.refl {r : En} {σ : L2.St} {H G : Hp} : Tr r σ H G r σ H G := ⟨Same.refl _, fun _ _ h _ => h, fun _ o h => ⟨o, h⟩, fun _ h => .inl h, fun _ _ h => .inl h⟩
theorem Tr.trans {r r1 r2 : En} {σ σ1 σ2 : L2.St} {H H1 H2 G G1 G2 : Hp} (a : Tr r σ H G r1 σ1 H1 G1) (b : Tr r1 σ1 H1 G1 r2 σ2 H2 G2) : Tr r σ H G r2 σ2 H2 G2 := by
  have up : ∀ {c}, H1 c = none → H c = none := fun {c} e => by
    cases q : H c with
    | none => rfl
    | some o =>
      obtain ⟨o', z⟩ := a.t c o q
      rw [e] at z; cases z
  refine ⟨a.g.trans b.g, fun c o e n => b.h c o (a.h c o e n) fun z => ?_, fun c o e => ?_, fun c z => ?_, fun c o z => ?_⟩
  · rcases a.o c z with q | q
    · exact n q
    · rw [e] at q; cases q
  · obtain ⟨o', z⟩ := a.t c o e
    exact b.t c o' z
  · rcases b.o c z with q | q
    · exact a.o c q
    · exact .inr (up q)
  · rcases b.f c o z with q | q | q
    · exact a.f c o q
    · exact .inr (.inl (up q))
    · rcases a.o c q with w | w
      · exact .inr (.inr w)
      · exact .inr (.inl w)
end Mp

set_option Elab.async false
set_option linter.all false
set_option maxRecDepth 100000
set_option maxHeartbeats 4000000
/-! Mp, part 2: the small language and what it means. -/
namespace Mp
open PySem PySem.Spec L2

/-! ### data as PyData, for == and repr -/
mutual
def D.py : D → PyData
  | .non => .none
  | .bl b => .bool b
  | .int i => .int i
  | .str x => .str x
  | .tup ds => .tuple (D.pys ds)
  | .lst ds => .list (D.pys ds)
  | .dK ks ds => .dict ((ks.map fun k => match k with | .inl i => PyData.int i | .inr x => PyData.str x).zip (D.pys ds))
  | .dT ks ds => .dict ((ks.map fun k => PyData.tuple (k.map fun k => match k with | .inl i => PyData.int i | .inr x => PyData.str x)).zip (D.pys ds))
  | .obj _ _ _ => .none
  | .scr ns => .list (ns.map PyData.int)
def D.pys : List D → List PyData
  | [] => []
  | d :: ds => D.py d :: D.pys ds
end
mutual
/-- data without dicts and objects -/
def D.flt : D → Bool
  | .non | .bl _ | .int _ | .str _ => true
  | .tup ds | .lst ds => D.flts ds
  | _ => false
def D.flts : List D → Bool
  | [] => true
  | d :: ds => D.flt d && D.flts ds
end
mutual
/-- data whose text is shown: no objects -/
def D.shw : D → Bool
  | .non | .bl _ | .int _ | .str _ => true
  | .tup ds | .lst ds | .dK _ ds => D.shws ds
  | _ => false
def D.shws : List D → Bool
  | [] => true
  | d :: ds => D.shw d && D.shws ds
end
/-- data that == is asked of -/
def D.eok (d : D) : Bool := d.flt && SeqAt.shaped d.py
def deq : D → D → Option Bool
  | .str x, .str y => some (decide (x = y))
  | a, b => if a.eok && b.eok then some (PyData.eqv a.py b.py) else none
/-- data that is shown -/
def D.rok (d : D) : Bool := d.shw && d.py.showable && d.py.leavesShort 110 && decide (d.py.weight ≤ 100000) && decide (d.py.depth ≤ 60)
def D.rpr (d : D) : Str := d.py.shown

/-! ### built-ins -/
inductive BI where
  | add | sub | mul | mod | fdiv | pow | neg
  | eq | ne | lt | le | gt | ge | isN | notN | in_ | notin
  | isF | notF | isT | notT
  | item | rev
  | len | abs | int | list | tuple | all | any | sum | repr
  | isi (T : String)
  | fld (f : Str)
  | isc (c : Str)
  | cmp (k : Nat)
  deriving DecidableEq

def cut {α : Type} (xs : List α) (lo hi : Option Int) : List α := (xs.drop (HT.sIx xs.length 0 lo)).take (HT.sIx xs.length xs.length hi - HT.sIx xs.length 0 lo)
def tyN : D → String
  | .non => "NoneType"
  | .bl _ => "bool"
  | .int _ => "int"
  | .str _ => "str"
  | .tup _ => "tuple"
  | .lst _ | .scr _ => "list"
  | .dK _ _ | .dT _ _ => "dict"
  | .obj _ _ _ => ""
/-- data of a built-in class -/
def plainD : D → Bool
  | .obj _ _ _ => false
  | .dT _ _ => false
  | _ => true
def isiB (T : String) (d : D) : Option Bool := if plainD d ∧ (T = "int" ∨ T = "bool" ∨ T = "str" ∨ T = "tuple" ∨ T = "list" ∨ T = "dict") then some (tyN d == T || (T == "int" && tyN d == "bool")) else none
def flatD : D → Bool
  | .non | .bl _ | .int _ | .str _ => true
  | _ => false
def eqF : D → D → Bool
  | .non, .non => true
  | .bl a, .bl b => a == b
  | .bl a, .int b => (if a then 1 else 0) == b
  | .int a, .bl b => a == (if b then 1 else 0)
  | .int a, .int b => a == b
  | .str a, .str b => a == b
  | _, _ => false
def seqD : D → Option (List D)
  | .tup ds => some ds
  | .lst ds => some ds
  | _ => none
def inS (x y : D) : Option Bool :=
  match x, y with
  | .str i, .str j => some (!(Builtin.Str.occurrences j i 0 j.length 1).isEmpty)
  | x, .tup ds => if flatD x && ds.all flatD then some (ds.any fun z => eqF z x) else none
  | x, .lst ds => if flatD x && ds.all flatD then some (ds.any fun z => eqF z x) else if x.eok && (D.lst ds).eok then some (ds.any fun z => PyData.eqv z.py x.py) else none
  | _, _ => none
def intsOf : List D → Option (List Int)
  | [] => some []
  | .int i :: r => (intsOf r).map (i :: ·)
  | _ => none
def blsOf : List D → Option (List Bool)
  | [] => some []
  | .bl i :: r => (blsOf r).map (i :: ·)
  | _ => none
def strsOf : List D → Option (List Str)
  | [] => some []
  | .str i :: r => (strsOf r).map (i :: ·)
  | _ => none
def fzb (b : Bool) : Option Val := some (.fz (.bl b))
def fzi (i : Int) : Option Val := some (.fz (.int i))
def lexLt : List Int → List Int → Bool := HT.lexLt

def bAdd : D → D → Option Val
  | .int i, .int j => fzi (i + j)
  | .str x, .str y => if x.length + y.length ≤ sizeLine then some (.fz (.str (x ++ y))) else none
  | .tup xs, .tup ys => if xs.length + ys.length ≤ sizeLine then some (.fz (.tup (xs ++ ys))) else none
  | .lst xs, .lst ys => if xs.length + ys.length ≤ sizeLine then some (.ow (.lst (xs ++ ys))) else none
  | _, _ => none
def bSub : D → D → Option Val
  | .int i, .int j => fzi (i - j)
  | _, _ => none
def bMul : D → D → Option Val
  | .int i, .int j => if i.natAbs < 2 ^ 400 ∧ j.natAbs < 2 ^ 400 then fzi (i * j) else none
  | .tup xs, .int k => if xs ≠ [] ∧ 2 ≤ k ∧ k ≤ 1000 ∧ xs.length ≤ 1000 then some (.fz (.tup (List.replicate k.toNat xs).flatten)) else none
  | .lst xs, .int k => if -(2 ^ 63) ≤ k ∧ k < 2 ^ 63 ∧ xs.length * k.toNat ≤ sizeLine then some (.ow (.lst (List.replicate k.toNat xs).flatten)) else none
  | _, _ => none
def bMod : D → D → Option Val
  | .int i, .int j => if 0 < j then fzi (i % j) else none
  | _, _ => none
def bFdiv : D → D → Option Val
  | .int i, .int j => if 0 < j ∧ j < 2 ^ 400 then fzi (i / j) else none
  | _, _ => none
def bPow : D → D → Option Val
  | .int i, .int j => if 0 ≤ j ∧ j ≤ 1000 ∧ i.natAbs < 2 ^ 64 then fzi (i ^ j.toNat) else none
  | _, _ => none
def bNeg : D → Option Val
  | .int i => fzi (-i)
  | _ => none
def bLt : D → D → Option Val
  | .int i, .int j => fzb (decide (i < j))
  | _, _ => none
def bLe : D → D → Option Val
  | .int i, .int j => fzb (decide (i ≤ j))
  | _, _ => none
def bGt : D → D → Option Val
  | .int i, .int j => fzb (decide (j < i))
  | _, _ => none
def bGe : D → D → Option Val
  | .int i, .int j => fzb (decide (j ≤ i))
  | _, _ => none
def isNon : D → Bool
  | .non => true
  | _ => false
def bItem : D → D → Option Val
  | .tup xs, .int i => (atI xs i).map .fz
  | .lst xs, .int i => (atI xs i).map .fz
  | .scr xs, .int i => (atI xs i).map fun n => .fz (.int n)
  | .str z, .int i => if z.length ≤ sizeLine then (atI z.cps.toList i).map fun c => .fz (.str ⟨#[c]⟩) else none
  | _, _ => none
def bSlc (lo hi : Option Int) : D → Option Val
  | .tup xs => some (.fz (.tup (cut xs lo hi)))
  | .lst xs => some (.ow (.lst (cut xs lo hi)))
  | .scr xs => some (.ow (.lst ((cut xs lo hi).map .int)))
  | _ => none
def bRev : D → Option Val
  | .lst xs => some (.ow (.lst xs.reverse))
  | .tup xs => some (.fz (.tup xs.reverse))
  | _ => none
def bLen : D → Option Val
  | .tup xs => fzi xs.length
  | .lst xs => fzi xs.length
  | .scr xs => fzi xs.length
  | .str z => if z.length ≤ sizeLine then fzi z.length else none
  | _ => none
def bAbs : D → Option Val
  | .int i => fzi (if i < 0 then -i else i)
  | _ => none
def bInt : D → Option Val
  | .int i => fzi i
  | .bl b => fzi (if b then 1 else 0)
  | _ => none
def bList : D → Option Val
  | .tup xs => some (.ow (.lst xs))
  | .lst xs => some (.ow (.lst xs))
  | .scr xs => some (.ow (.lst (xs.map .int)))
  | _ => none
def bTuple : D → Option Val
  | .tup xs => some (.fz (.tup xs))
  | .lst xs => some (.fz (.tup xs))
  | _ => none
def bAll : D → Option Val
  | .lst xs => (blsOf xs).map fun bs => .fz (.bl (bs.all id))
  | _ => none
def bAny : D → Option Val
  | .lst xs => (blsOf xs).map fun bs => .fz (.bl (bs.any id))
  | _ => none
def bSum : D → Option Val
  | .lst xs => (intsOf xs).map fun ns => .fz (.int ns.sum)
  | _ => none
def bBl (neg : Bool) : D → Option Val
  | .bl b => fzb (if neg then !b else b)
  | _ => none
def bRepr (x : D) : Option Val := if x.rok then some (.fz (.str x.rpr)) else none

/-- the ascending list of what is in a list of ints -/
def sdist (ns : List Int) : List Int := (ns.eraseDups).mergeSort (fun a b => decide (a ≤ b))
def msort (ns : List Int) : List Int := ns.mergeSort (fun a b => decide (a ≤ b))
def bSset : D → Option Val
  | .lst xs => (intsOf xs).bind fun ns => if ns.length ≤ 4000 ∧ (sdist ns).length < 64 then some (.ow (.lst ((sdist ns).map .int))) else none
  | .tup xs => (intsOf xs).bind fun ns => if ns.length ≤ 4000 ∧ (sdist ns).length < 64 then some (.ow (.lst ((sdist ns).map .int))) else none
  | _ => none
def bMax2 : D → D → Option Val
  | .int i, .int j => fzi (if j > i then j else i)
  | _, _ => none
def bMin2 : D → D → Option Val
  | .int i, .int j => fzi (if j < i then j else i)
  | _, _ => none
def bMaxL : D → Option Val
  | .lst xs => (match intsOf xs with | some (n :: ns) => fzi (ns.foldl max n) | _ => none)
  | _ => none
def bMinL : D → Option Val
  | .lst xs => (match intsOf xs with | some (n :: ns) => fzi (ns.foldl min n) | _ => none)
  | _ => none
def bSort : D → Option Val
  | .lst xs => (intsOf xs).map fun ns => .ow (.lst ((msort ns).map .int))
  | _ => none
/-- built-ins by their numbers: 0 sorted(set(xs)), 1 max(a, b), 2 min(a, b), 3 max(xs), 4 min(xs), 5 sorted(xs) -/
def csem (k : Nat) (ds : List D) : Option Val := match k, ds with
  | 0, [x] => bSset x
  | 1, [x, y] => bMax2 x y
  | 2, [x, y] => bMin2 x y
  | 3, [x] => bMaxL x
  | 4, [x] => bMinL x
  | 5, [x] => bSort x
  | _, _ => none
/-- a field -/
def fldD (f : Str) : List Str → List D → Option D
  | g :: fs, d :: ds => if f = g then some d else fldD f fs ds
  | _, _ => none
def bFld (f : Str) : D → Option Val
  | .obj _ fs ds => (fldD f fs ds).map .fz
  | _ => none
def bIsc (c : Str) : D → Option Val
  | .obj c' _ _ => if c' = c then fzb true else none
  | .dT _ _ => none
  | _ => fzb false
def bsem : BI → List D → Option Val
  | .cmp k, ds => csem k ds
  | .add, [x, y] => bAdd x y
  | .sub, [x, y] => bSub x y
  | .mul, [x, y] => bMul x y
  | .mod, [x, y] => bMod x y
  | .fdiv, [x, y] => bFdiv x y
  | .pow, [x, y] => bPow x y
  | .neg, [x] => bNeg x
  | .eq, [x, y] => (deq x y).map fun b => .fz (.bl b)
  | .ne, [x, y] => (deq x y).map fun b => .fz (.bl (!b))
  | .lt, [x, y] => bLt x y
  | .le, [x, y] => bLe x y
  | .gt, [x, y] => bGt x y
  | .ge, [x, y] => bGe x y
  | .isN, [x] => fzb (isNon x)
  | .notN, [x] => fzb (!isNon x)
  | .isF, [x] => bBl true x
  | .notF, [x] => bBl false x
  | .isT, [x] => bBl false x
  | .notT, [x] => bBl true x
  | .in_, [x, y] => (inS x y).map fun b => .fz (.bl b)
  | .notin, [x, y] => (inS x y).map fun b => .fz (.bl (!b))
  | .item, [x, y] => bItem x y
  | .rev, [x] => bRev x
  | .len, [x] => bLen x
  | .abs, [x] => bAbs x
  | .int, [x] => bInt x
  | .list, [x] => bList x
  | .tuple, [x] => bTuple x
  | .all, [x] => bAll x
  | .any, [x] => bAny x
  | .sum, [x] => bSum x
  | .repr, [x] => bRepr x
  | .isi T, [x] => (isiB T x).map fun b => .fz (.bl b)
  | .fld f, [x] => bFld f x
  | .isc c, [x] => bIsc c x
  | _, _ => none

/-! ### syntax -/
/-- targets -/
inductive Tg where
  | nm (i : Nat)
  | tp (is : List Nat)
inductive ME where
  | var (i : Nat)
  | cst (d : D)
  | glo (x : Str)
  | bi (b : BI) (es : List ME)
  | chain (o1 o2 : BI) (a b c : ME)
  | slc (a : ME) (lo hi : Option ME)
  | and_ (a b : ME) | or_ (a b : ME) | not_ (a : ME)
  | ife (c a b : ME)
  | call (f : Str) (es : List ME)
  | tup (es : List ME) | lst (es : List ME)
  | dct0 (t : Bool)
  | comp (tg : Tg) (elt : ME) (ik : Nat) (its : List ME) (cs : List ME)
  | sset (ik : Nat) (e : ME)
  | dcomp (tg : Tg) (k v : ME) (ik : Nat) (its : List ME) (cs : List ME)
  | callk (f : Str) (ks : List Str) (es : List ME)
  | compn (cl : List (Tg × Nat × List ME × List ME)) (elt : ME)
  | mth (c m : Str) (es : List ME)
  | prp (c m : Str) (e : ME)
  | new (c : Str) (es : List ME)
  | inn (neg : Bool) (c : Str) (a b : ME)
  | leno (c : Str) (e : ME)
  | eqo (c : Str) (a b : ME)
  | tapp (a e : ME)
inductive MS where
  | set (i : Nat) (e : ME)
  | sett (is : List Nat) (e : ME)
  | par (i j : Nat) (a b : ME)
  | expr (e : ME)
  | ret (e : ME)
  | iff (c : ME) (a b : List MS)
  | forr (tg : Tg) (ik : Nat) (its : List ME) (b : List MS)
  | whl (c : ME) (b : List MS)
  | app (i : Nat) (e : ME)
  | seti (i : Nat) (k e : ME)
  | pass | brk | cont
  | never
  | raise (c : Str)
  | tryx (b : List MS) (c : Str) (i : Option Nat) (s : List MS)
  | setf (i : Nat) (f : Str) (e : ME)

/-! ### meaning -/
structure Ex where
  c : Str
  fs : List Str
  ds : List D
inductive R (α : Type) where
  | bad
  | exn (e : Ex) (r : En)
  | ok (a : α) (r : En)
def R.bind {α β : Type} : R α → (α → En → R β) → R β
  | .bad, _ => .bad
  | .exn e r, _ => .exn e r
  | .ok a r, f => f a r
inductive RC where
  | bad
  | exn (e : Ex) (outs : List D)
  | ok (v : Val) (outs : List D)
inductive Opn where
  | d (d : D) | loc (i : Nat)
def rsv (r : En) : Opn → Option D
  | .d x => some x
  | .loc i => match r[i]? with
    | some (.fz d) => some d
    | some (.ow d) => some d
    | _ => none
def rsvs (r : En) : List Opn → Option (List D)
  | [] => some []
  | o :: os => match rsv r o, rsvs r os with
    | some d, some ds => some (d :: ds)
    | _, _ => none
def ofOpt {α : Type} (o : Option α) (r : En) : R α := match o with
  | some a => .ok a r
  | none => .bad
/-- a name as a value: what was owned is frozen -/
def frz (i : Nat) (r : En) : R D := match r[i]? with
  | some (.fz d) => .ok d r
  | some (.ow d) => .ok d (r.set i (.fz d))
  | _ => .bad
/-- own classes: the defs of methods and of properties, the fields, those that are made -/
structure CT where
  mt : Str → Str → Option Str
  pr : Str → Str → Option Str
  fld : Str → Str → Bool
  nw : Str → Bool
structure Tbl where
  sem : Str → List D → RC
  md : Str → List Bool
  gl : Str → Option D
  isx : Str → Str → Option Bool
  kw : Str → List Str → Option (List D → List D)
  ct : CT
def put (tg : Tg) (d : D) (r : En) : Option En := match tg, d with
  | .nm i, d => if i < r.length then some (r.set i (.fz d)) else none
  | .tp is, .tup ds => if is.length = ds.length ∧ is.all (· < r.length) ∧ is.Nodup then some ((is.zip ds).foldl (fun r p => r.set p.1 (.fz p.2)) r) else none
  | _, _ => none
def Tg.slots : Tg → List Nat
  | .nm i => [i]
  | .tp is => is
def wipeE (r : En) : List Nat → En
  | [] => r
  | v :: vs => (wipeE r vs).set v .un
def backE (r0 : En) (r : En) : List Nat → En
  | [] => r
  | v :: vs => match r0[v]? with
    | some s => (backE r0 r vs).set v s
    | none => backE r0 r vs
/-- what is walked: 0 a list or tuple, 1 range(n), 2 range(a, b), 3 enumerate, 4 zip, 5 the signs of a text -/
def walkD (ik : Nat) (ds : List D) : Option (List D) := match ik, ds with
  | 0, [.lst xs] => if xs.length ≤ sizeLine then some xs else none
  | 0, [.tup xs] => if xs.length ≤ sizeLine then some xs else none
  | 0, [.scr ns] => if ns.length ≤ sizeLine then some (ns.map .int) else none
  | 0, [.str z] => if z.length ≤ sizeLine then some (z.cps.toList.map fun c => .str ⟨#[c]⟩) else none
  | 1, [.int n] => if -(2 ^ 62) ≤ n ∧ n ≤ sizeLine then some ((List.range n.toNat).map fun (k : Nat) => .int ((0 : Int) + k)) else none
  | 2, [.int a, .int b] => if -(2 ^ 62) ≤ a ∧ a < 2 ^ 62 ∧ -(2 ^ 62) ≤ b ∧ b < 2 ^ 62 ∧ (b - a).toNat ≤ sizeLine then some ((List.range (b - a).toNat).map fun (k : Nat) => .int (a + k)) else none
  | 3, [.lst xs] => if xs.length ≤ sizeLine then some (xs.zipIdx.map fun p => .tup [.int (p.2 : Nat), p.1]) else none
  | 4, [.lst xs, .lst ys] => if xs.length ≤ sizeLine then some (List.zipWith (fun x y => .tup [x, y]) xs ys) else none
  | 4, [.tup xs, .tup ys] => if xs.length ≤ sizeLine then some (List.zipWith (fun x y => .tup [x, y]) xs ys) else none
  | _, _ => none
/-- a comprehension's turns -/
def compL (cond : En → R Bool) (elt : En → R D) (tg : Tg) : List D → En → R (List D)
  | [], r => .ok [] r
  | x :: xs, r => match put tg x r with
    | none => .bad
    | some r1 => match cond r1 with
      | .bad => .bad
      | .exn _ _ => .bad
      | .ok false r2 => compL cond elt tg xs (wipeE r2 tg.slots)
      | .ok true r2 => match elt r2 with
        | .bad => .bad
        | .exn _ _ => .bad
        | .ok d r3 => match compL cond elt tg xs (wipeE r3 tg.slots) with
          | .bad => .bad
          | .exn _ _ => .bad
          | .ok ds r4 => .ok (d :: ds) r4

/-- one after the other -/
def mapR {α β : Type} (f : α → En → R β) : List α → En → R (List β)
  | [], r => .ok [] r
  | e :: es, r => (f e r).bind fun o r1 => (mapR f es r1).bind fun os r2 => .ok (o :: os) r2
/-- as an operand -/
def evO (f : ME → En → R Val) (m : ME) (r : En) : R Opn := match m with
  | .var i => (match r[i]? with
    | some (.fz _) => .ok (.loc i) r
    | some (.ow _) => .ok (.loc i) r
    | _ => .bad)
  | m => (f m r).bind fun v r1 => .ok (.d v.d) r1
/-- frozen -/
def evF (f : ME → En → R Val) (m : ME) (r : En) : R D := (f m r).bind fun v r1 => .ok v.d r1
/-- arguments, some to be changed -/
def evA1 (f : ME → En → R Val) (p : Bool × ME) (r : En) : R Opn := if p.1 = true then (match p.2 with
    | .var i => (match r[i]? with
      | some (.ow _) => .ok (.loc i) r
      | _ => .bad)
    | _ => .bad) else (f p.2 r).bind fun v r1 => .ok (.d v.d) r1
def evAs (f : ME → En → R Val) (md : List Bool) (es : List ME) (r : En) : R (List Opn) := if md.length = es.length then mapR (evA1 f) (md.zip es) r else .bad
def shp : List Bool → List Opn → Bool
  | [], [] => true
  | true :: md, .loc _ :: os => shp md os
  | false :: md, .d _ :: os => shp md os
  | _, _ => false
def asB (v : Val) (r : En) : R Bool := match v with
  | .fz (.bl b) => .ok b r
  | _ => .bad
def evB (f : ME → En → R Val) (m : ME) (r : En) : R Bool := (f m r).bind asB
def asI (v : Val) (r : En) : R (Option Int) := match v with
  | .fz (.int i) => .ok (some i) r
  | _ => .bad
/-- a slice's part -/
def evP (f : ME → En → R Val) (m : Option ME) (r : En) : R (Option Int) := match m with
  | none => .ok none r
  | some m => (f m r).bind asI
/-- a clause's tests: none or one -/
def evCs (f : ME → En → R Val) (cs : List ME) (r : En) : R Bool := match cs with
  | [] => .ok true r
  | [c] => evB f c r
  | _ => .bad
/-- a clause of many: its loop; body: what comes behind its tests -/
def loopC (f : ME → En → R Val) (cs : List ME) (tg : Tg) (vs : List Nat) (body : En → R (List D)) : List D → En → R (List D)
  | [], r => .ok [] r
  | x :: xs, r => match put tg x r with
    | none => .bad
    | some r1 => match evCs f cs r1 with
      | .ok false r2 => loopC f cs tg vs body xs (wipeE r2 vs)
      | .ok true r2 => (match body r2 with
        | .ok ds r3 => (match loopC f cs tg vs body xs (wipeE r3 vs) with
          | .ok es r4 => .ok (ds ++ es) r4
          | _ => .bad)
        | _ => .bad)
      | _ => .bad
abbrev MCl := Tg × Nat × List ME × List ME
def slotsN (cl : List MCl) : List Nat := cl.flatMap (·.1.slots)
def evN (f : ME → En → R Val) (elt : ME) : List MCl → En → R (List D)
  | [], r => (match evF f elt r with
    | .ok d r1 => .ok [d] r1
    | _ => .bad)
  | (tg, ik, its, cs) :: rest, r => (match mapR (evF f) its r with
    | .ok ds r1 => (match walkD ik ds with
      | some xs => loopC f cs tg (slotsN ((tg, ik, its, cs) :: rest)) (evN f elt rest) xs (wipeE r1 (slotsN ((tg, ik, its, cs) :: rest)))
      | none => .bad)
    | _ => .bad)
def putOuts : List Opn → List D → En → En
  | .loc i :: os, d :: ds, r => putOuts os ds (r.set i (.ow d))
  | .d _ :: os, ds, r => putOuts os ds r
  | _, _, r => r
def locs : List Opn → List Nat
  | [] => []
  | .loc i :: os => i :: locs os
  | .d _ :: os => locs os
def isOw (r : En) (i : Nat) : Bool := match r[i]? with
  | some (.ow _) => true
  | _ => false
def runCall (md : List Bool) (sem : List D → RC) (os : List Opn) (r : En) : R Val := match rsvs r os with
  | none => .bad
  | some ds => if shp md os = true ∧ (locs os).Nodup ∧ (locs os).all (isOw r) = true then
      (match sem ds with
      | .bad => .bad
      | .exn e outs => if outs.length = (locs os).length then .exn e (putOuts os outs r) else .bad
      | .ok v outs => if outs.length = (locs os).length then .ok v (putOuts os outs r) else .bad)
    else .bad
def isObj (c : Str) (m : Option Str) (r : En) (o : Opn) : Bool := match rsv r o with
  | some (.obj c' fs _) => decide (c' = c) && (match m with | some m => !fs.any (· == m) | none => true)
  | _ => false
def noX : R Val → R Val
  | .ok v r => .ok v r
  | _ => .bad
def inR (neg : Bool) : R Val → R Val
  | .ok (.fz (.bl b)) r => .ok (.fz (.bl (if neg then !b else b))) r
  | _ => .bad
def lenR : R Val → R Val
  | .ok (.fz (.int n)) r => if 0 ≤ n ∧ n < 2 ^ 63 then .ok (.fz (.int n)) r else .bad
  | _ => .bad
def eqR : R Val → R Val
  | .ok (.fz (.bl b)) r => .ok (.fz (.bl b)) r
  | _ => .bad
/-- C(..): the new object behind all slots, then its __init__ -/
def newR (n : Nat) : R Val → R Val
  | .ok (.fz .non) r => (match r[n]? with
    | some (.ow o) => .ok (.ow o) (r.take n)
    | _ => .bad)
  | .exn e r => .exn e (r.take n)
  | _ => .bad
def newObj (c : Str) (md : List Bool) (sem : List D → RC) (os : List Opn) (r : En) : R Val := newR r.length (runCall md sem (.loc r.length :: os) (r ++ [.ow (.obj c [] [])]))
/-- an expression's value -/
def ev (T : Tbl) : Nat → ME → En → R Val
  | 0, _, _ => .bad
  | n + 1, m, r => match m with
    | .var i => (frz i r).bind fun d r1 => .ok (.fz d) r1
    | .cst d => .ok (.fz d) r
    | .glo x => ofOpt ((T.gl x).map .fz) r
    | .bi b es => (mapR (evO (ev T n)) es r).bind fun os r1 => ofOpt ((rsvs r1 os).bind (bsem b)) r1
    | .chain o1 o2 a b c => (evO (ev T n) a r).bind fun x r1 => (evO (ev T n) b r1).bind fun y r2 =>
        match (rsvs r2 [x, y]).bind (bsem o1) with
        | some (.fz (.bl false)) => .ok (.fz (.bl false)) r2
        | some (.fz (.bl true)) => (evO (ev T n) c r2).bind fun z r3 => ofOpt ((rsvs r3 [y, z]).bind (bsem o2)) r3
        | _ => .bad
    | .slc a lo hi => (evO (ev T n) a r).bind fun x r1 => (evP (ev T n) lo r1).bind fun l r2 => (evP (ev T n) hi r2).bind fun h r3 => ofOpt ((rsv r3 x).bind (bSlc l h)) r3
    | .and_ a b => (evB (ev T n) a r).bind fun v r1 => if v = true then ev T n b r1 else .ok (.fz (.bl false)) r1
    | .or_ a b => (evB (ev T n) a r).bind fun v r1 => if v = true then .ok (.fz (.bl true)) r1 else ev T n b r1
    | .not_ a => (evB (ev T n) a r).bind fun v r1 => .ok (.fz (.bl (!v))) r1
    | .ife c a b => (evB (ev T n) c r).bind fun v r1 => if v = true then ev T n a r1 else ev T n b r1
    | .call f es => (evAs (ev T n) (T.md f) es r).bind (runCall (T.md f) (T.sem f))
    | .tup es => (mapR (evF (ev T n)) es r).bind fun ds r1 => if ds.length ≤ sizeLine then .ok (.fz (.tup ds)) r1 else .bad
    | .lst es => (mapR (evF (ev T n)) es r).bind fun ds r1 => if ds.length ≤ sizeLine then .ok (.ow (.lst ds)) r1 else .bad
    | .dct0 t => .ok (.ow (if t then .dT [] [] else .dK [] [])) r
    | .comp tg elt ik its cs => (mapR (evF (ev T n)) its r).bind fun ds r1 => match walkD ik ds with
      | none => .bad
      | some xs => (compL (evCs (ev T n) cs) (evF (ev T n) elt) tg xs (wipeE r1 tg.slots)).bind fun ds r2 => .ok (.ow (.lst ds)) (backE r1 r2 tg.slots)
    | .compn cl elt => (match cl with
      | [] => .bad
      | (tg, ik, its, cs) :: rest => (mapR (evF (ev T n)) its r).bind fun ds r1 => match walkD ik ds with
        | none => .bad
        | some xs => (loopC (ev T n) cs tg (slotsN ((tg, ik, its, cs) :: rest)) (evN (ev T n) elt rest) xs (wipeE r1 (slotsN ((tg, ik, its, cs) :: rest)))).bind fun ds r2 => if ds.length ≤ sizeLine then .ok (.ow (.lst ds)) (backE r1 r2 (slotsN ((tg, ik, its, cs) :: rest))) else .bad)
    | .mth c m es => (match T.ct.mt c m, es with
      | some q, e :: es => if (T.md q).tail.length = es.length then (evA1 (ev T n) ((T.md q).headD false, e) r).bind fun o r1 => if isObj c (some m) r1 o = true then (mapR (evA1 (ev T n)) ((T.md q).tail.zip es) r1).bind fun os r2 => runCall (T.md q) (T.sem q) (o :: os) r2 else .bad else .bad
      | _, _ => .bad)
    | .prp c m e => (match T.ct.pr c m with
      | some q => (evA1 (ev T n) ((T.md q).headD false, e) r).bind fun o r1 => if isObj c none r1 o = true then noX (runCall (T.md q) (T.sem q) [o] r1) else .bad
      | none => .bad)
    | .new c es => (match T.ct.mt c "__init__" with
      | some q => if T.ct.nw c = true ∧ (T.md q).tail.length = es.length then (mapR (evA1 (ev T n)) ((T.md q).tail.zip es) r).bind fun os r1 => newObj c (T.md q) (T.sem q) os r1 else .bad
      | none => .bad)
    | .inn neg c a b => (match T.ct.mt c "__contains__" with
      | some q => (evA1 (ev T n) (false, a) r).bind fun y r1 => (evA1 (ev T n) ((T.md q).headD false, b) r1).bind fun o r2 => if isObj c none r2 o = true then inR neg (runCall (T.md q) (T.sem q) [o, y] r2) else .bad
      | none => .bad)
    | .leno c e => (match T.ct.mt c "__len__" with
      | some q => (evA1 (ev T n) ((T.md q).headD false, e) r).bind fun o r1 => if isObj c none r1 o = true then lenR (runCall (T.md q) (T.sem q) [o] r1) else .bad
      | none => .bad)
    | .eqo c a b => (match T.ct.mt c "__eq__" with
      | some q => (evA1 (ev T n) (false, a) r).bind fun x r1 => (evA1 (ev T n) (false, b) r1).bind fun y r2 => if isObj c none r2 x = true ∧ isObj c none r2 y = true then eqR (runCall (T.md q) (T.sem q) [x, y] r2) else .bad
      | none => .bad)
    | .tapp a e => (ev T n a r).bind fun v r1 => (match v with
      | .ow (.lst ds) => (evF (ev T n) e r1).bind fun _ r2 => if ds.length < sizeLine then .ok (.fz .non) r2 else .bad
      | _ => .bad)
    | .sset _ _ => .bad
    | .dcomp _ _ _ _ _ _ => .bad
    | .callk f ks es => match T.kw f ks with
      | some g => (mapR (evF (ev T n)) es r).bind fun ds r1 => runCall (T.md f) (T.sem f) ((g ds).map .d) r1
      | none => .bad

/-! ### statements -/
inductive Fl where
  | bad
  | exn (e : Ex) (r : En)
  | nx (r : En) | rt (v : Val) (r : En) | bk (r : En) | ct (r : En)
def R.fl {α : Type} : R α → (α → En → Fl) → Fl
  | .bad, _ => .bad
  | .exn e r, _ => .exn e r
  | .ok a r, f => f a r
/-- a loop over what is known -/
def forL (body : En → Fl) (tg : Tg) : List D → En → Fl
  | [], r => .nx r
  | x :: xs, r => match put tg x r with
    | none => .bad
    | some r1 => match body r1 with
      | .nx r2 => forL body tg xs r2
      | .ct r2 => forL body tg xs r2
      | .bk r2 => .nx r2
      | f => f
def whlL (c : En → R Bool) (body : En → Fl) : Nat → En → Fl
  | 0, _ => .bad
  | n + 1, r => (c r).fl fun b r1 => if b = true then (match body r1 with
      | .nx r2 => whlL c body n r2
      | .ct r2 => whlL c body n r2
      | .bk r2 => .nx r2
      | f => f) else .nx r1
def whileMost : Nat := 1000000
def slotOf : Val → Slot
  | .fz d => .fz d
  | .ow d => .ow d
/-- stored at a name (lk: the parameters that are changed are not stored at) -/
def store (lk : List Nat) (i : Nat) (s : Slot) (r : En) : Fl := if i < r.length ∧ ¬ i ∈ lk then .nx (r.set i s) else .bad
def apnd (d : D) : D → Option D
  | .lst xs => if xs.length < sizeLine then some (.lst (xs ++ [d])) else none
  | _ => none
def setAt (k v : D) : D → Option D
  | .lst xs => match k with
    | .int i => (ixN xs.length i).map fun j => .lst (xs.set j v)
    | _ => none
  | _ => none
def putN (f : Str) : List Str → List Str
  | [] => [f]
  | g :: fs => if g = f then g :: fs else g :: putN f fs
def putV {α : Type} (f : Str) (d : α) : List Str → List α → List α
  | [], _ => [d]
  | _ :: _, [] => []
  | g :: fs, x :: xs => if g = f then d :: xs else x :: putV f d fs xs
def setFld (ct : CT) (f : Str) (d : D) : D → Option D
  | .obj c fs ds => if ct.fld c f = true ∧ fs.length < 999 then some (.obj c (putN f fs) (putV f d fs ds)) else none
  | _ => none
def onOwn (i : Nat) (f : D → Option D) (r : En) : Fl := match r[i]? with
  | some (.ow d) => (match f d with
    | some d' => .nx (r.set i (.ow d'))
    | none => .bad)
  | _ => .bad
def isLs (r : En) (i : Nat) : Bool := match r[i]? with
  | some (.ow (.lst _)) => true
  | _ => false
def clr (i : Option Nat) (r : En) : En := match i with
  | none => r
  | some i => r.set i .un
def suiteEnd (i : Option Nat) : Fl → Fl
  | .nx r => .nx (clr i r)
  | .bk r => .bk (clr i r)
  | .ct r => .ct (clr i r)
  | .rt v r => .rt v r
  | _ => .bad
def freeO (lk : List Nat) : Option Nat → Bool
  | none => true
  | some i => !decide (i ∈ lk)
def Tg.free (lk : List Nat) (t : Tg) : Bool := t.slots.all fun i => !decide (i ∈ lk)
mutual
def exs (T : Tbl) (lk : List Nat) : Nat → List MS → En → Fl
  | 0, _, _ => .bad
  | n + 1, ss, r => match ss with
    | [] => .nx r
    | s :: ss => match ex T lk n s r with
      | .nx r1 => exs T lk n ss r1
      | f => f
def ex (T : Tbl) (lk : List Nat) : Nat → MS → En → Fl
  | 0, _, _ => .bad
  | n + 1, s, r => match s with
    | .set i e => (ev T n e r).fl fun v r1 => store lk i (slotOf v) r1
    | .sett is e => (evF (ev T n) e r).fl fun d r1 => if (Tg.tp is).free lk then (match put (.tp is) d r1 with
        | some r2 => .nx r2
        | none => .bad) else .bad
    | .par i j a b => (ev T n a r).fl fun v r1 => (ev T n b r1).fl fun w r2 => if i < r2.length ∧ j < r2.length ∧ i ≠ j ∧ ¬ i ∈ lk ∧ ¬ j ∈ lk then .nx ((r2.set i (slotOf v)).set j (slotOf w)) else .bad
    | .expr e => (ev T n e r).fl fun _ r1 => .nx r1
    | .ret e => (match e with
      | .var i => (match r[i]? with
        | some (.fz d) => .rt (.fz d) r
        | some (.ow d) => if i ∈ lk then .bad else .rt (.ow d) (r.set i .un)
        | _ => .bad)
      | e => (ev T n e r).fl fun v r1 => .rt v r1)
    | .iff c a b => (evB (ev T n) c r).fl fun v r1 => if v = true then exs T lk n a r1 else exs T lk n b r1
    | .forr tg ik its b => (mapR (evF (ev T n)) its r).fl fun ds r1 => if tg.free lk then (match walkD ik ds with
      | none => .bad
      | some xs => forL (fun r => exs T lk n b r) tg xs r1) else .bad
    | .whl c b => whlL (fun r => evB (ev T n) c r) (fun r => exs T lk n b r) whileMost r
    | .app i e => if isLs r i = true then (evF (ev T n) e r).fl fun d r1 => onOwn i (apnd d) r1 else .bad
    | .seti i k e => (evF (ev T n) e r).fl fun v r1 => if isOw r1 i = true then (evF (ev T n) k r1).fl fun k r2 => onOwn i (setAt k v) r2 else .bad
    | .setf i f e => (evF (ev T n) e r).fl fun d r1 => if isOw r1 i = true then onOwn i (setFld T.ct f d) r1 else .bad
    | .pass => .nx r
    | .brk => .bk r
    | .cont => .ct r
    | .never => .bad
    | .raise c => .exn ⟨c, [], []⟩ r
    | .tryx b c i s => (match exs T lk n b r with
      | .exn e r1 => if freeO lk i = true then (match T.isx e.c c with
        | some true => suiteEnd i (exs T lk n s (clr i r1))
        | some false => .exn e r1
        | none => .bad) else .bad
      | f => f)
end

/-! ### defs -/
structure Fn where
  md : List Bool
  n : Nat
  body : List MS
/-- the entry -/
def entry (md : List Bool) (n : Nat) (ds : List D) : En := (md.zip ds).map (fun p => if p.1 = true then Slot.ow p.2 else .fz p.2) ++ List.replicate (n - ds.length) .un
def lkOf (md : List Bool) : List Nat := (md.zipIdx.filter (·.1)).map (·.2)
def outsOf (r : En) : List Nat → Option (List D)
  | [] => some []
  | i :: is => match r[i]?, outsOf r is with
    | some (.ow d), some ds => some (d :: ds)
    | _, _ => none
def finish (lk : List Nat) : Fl → RC
  | .nx r => (match outsOf r lk with | some os => .ok (.fz .non) os | none => .bad)
  | .rt v r => (match outsOf r lk with | some os => .ok v os | none => .bad)
  | .exn e r => (match outsOf r lk with | some os => .exn e os | none => .bad)
  | _ => .bad
def fuel : Nat := 60
def runFn (T : Tbl) (f : Fn) (ds : List D) : RC := if ds.length = f.md.length ∧ f.md.length ≤ f.n then finish (lkOf f.md) (exs T (lkOf f.md) fuel f.body (entry f.md f.n ds)) else .bad
/-- the program: its defs by name; by the depth of calls -/
def tbl (P : Str → Option Fn) (gl : Str → Option D) (isx : Str → Str → Option Bool) (kw : Str → List Str → Option (List D → List D)) (ct : CT) : Nat → Tbl
  | 0 => ⟨fun _ _ => .bad, fun f => match P f with | some g => g.md | none => [], gl, isx, kw, ct⟩
  | n + 1 => ⟨fun f ds => match P f with
    | some g => runFn (tbl P gl isx kw ct n) g ds
    | none => .bad, fun f => match P f with | some g => g.md | none => [], gl, isx, kw, ct⟩
end Mp

set_option Elab.async false
set_option linter.all false
set_option maxRecDepth 100000
set_option maxHeartbeats 4000000
/-! Mp, part 3: defs that are called where no text is being shown (guards), their calls. -/
namespace Mp
open PySem PySem.Spec PyProof.Rows L2

/-- as FnOk, but only where the guards are none -/
structure FnG (P : Program) (w : World) (K : Fg) (mg : Mg) (base : Heap) (k : Nat) (f : Addr) (fd : FuncData) (ps : List Str) (sp : Sp) : Prop where
  ln : ∀ vs H Q E, sp vs H Q E → vs.length = ps.length
  go : ∀ (A : Around) (outer : List Env) (s : Shared) (H : Hp) (args : Args) (us : List Value) (vs : List V) (Q : VK) (E : XK), A.guards = some [] → Room k A → Env0 P w K mg base A outer s H →
    BindsTo s fd args (ps.zip us) → Vals vs us → sp vs H Q E → codeAny (model P w) A (.call (.ref f) args) (CR (L2.CX P w) outer P w H s Q E) s
theorem FnG.mono {P : Program} {w : World} {K : Fg} {mg : Mg} {base : Heap} {j k : Nat} {f : Addr} {fd : FuncData} {ps : List Str} {sp : Sp} (F : FnG P w K mg base j f fd ps sp) (h : j ≤ k) : FnG P w K mg base k f fd ps sp :=
  ⟨F.ln, fun A outer s H args us vs Q E hg hr => F.go A outer s H args us vs Q E hg (Room.mono hr h)⟩

section
variable {X : Cx} {k : Nat} {f : Addr} {fd : FuncData} {ps : List Str} {sp : Sp} {E : L2.St → XK} {x : Str} {p pos : Pos} {e : Expr} {es : List Expr} {t : TA}
theorem runG {pins : List (Addr × Obj)} {σ : L2.St} {H : Hp} {s : Shared} {Q : VK} {us : List Value} {vs : List V} (F : FnG X.prog X.w X.K X.mg X.base k f fd ps sp) (hg : X.A.guards = some []) (hr : Room k X.A)
    (hb : Binds X.K fd ps []) (hx : PassesAt (L2.CX X.prog X.w) X σ (E σ)) (I : Inv X pins σ H s) (r : Vals vs us) (h : sp vs H Q (E σ)) :
    wpAny (model X.prog X.w) X.A (PySem.call (.ref f) us) (EP X pins σ Q) X.xe s := by
  have hl : (us ++ []).length = ps.length := by
    have h1 := F.ln _ _ _ _ h
    have h2 := Vals.length r
    simp
    omega
  have bd := hb s us I.kIn hl
  simp only [List.append_nil] at bd
  have all := F.go X.A X.stack s H ⟨us, []⟩ us vs Q (E σ) hg hr I.env0 bd r h
  apply wpAny_call
  apply codeAny_mono all
  intro res s' hres
  match res, hres with
  | .error er, hres => exact hx pins H s er s' I hres
  | .ok (.ret u), hres => exact I.after hres
def tCallG (sp : Sp) (E : L2.St → XK) (t : TA) : TE := fun σ H Q => t σ H fun vs H1 => sp vs H1 Q (E σ)
theorem pe_callG (F : FnG X.prog X.w X.K X.mg X.base k f fd ps sp) (hgd : X.A.guards = some []) (hr : Room k X.A) (hg : Gl X x) (hm : X.mg x = some (.ref f)) (hk : PySem.W.keepIn X.K (.ref f) = true) (hb : Binds X.K fd ps [])
    (hx : ∀ σ, PassesAt (L2.CX X.prog X.w) X σ (E σ)) (ha : PA X (e :: es) t) (hdb : (x == ("__debug__" : Str)) = false) (he : starEach (e :: es) X.env = (false, eval e X.env) :: starEach es X.env)
    (hpl : (backTo pos (starEach es X.env)).any (fun z => z.1) = false) : PE X (.Call (.Name x p) (e :: es) [] pos) (tCallG sp E t) := by
  constructor
  intro pins s σ H Q I h
  apply wpAny_Call_Name_kw
  apply ld_glob I hg hm _ hdb
  apply PySem.W.callWith_K (h₀ := X.base) I.ok.mod.kin hk _ he hpl
  apply thn (ha.run pos pins s σ H _ I h)
  rintro us s1 ⟨vs, H1, I1, r, q⟩
  exact ⟨I1.kIn, runG F hgd hr hb (hx σ) I1 r q⟩
theorem pe_callG0 (F : FnG X.prog X.w X.K X.mg X.base k f fd ps sp) (hgd : X.A.guards = some []) (hr : Room k X.A) (hg : Gl X x) (hm : X.mg x = some (.ref f)) (hk : PySem.W.keepIn X.K (.ref f) = true) (hb : Binds X.K fd ps [])
    (hx : ∀ σ, PassesAt (L2.CX X.prog X.w) X σ (E σ)) (hdb : (x == ("__debug__" : Str)) = false) : PE X (.Call (.Name x p) [] [] pos) (tCallG sp E tNil) := by
  constructor
  intro pins s σ H Q I h
  apply wpAny_Call_Name_kw
  apply ld_glob I hg hm _ hdb
  exact PySem.W.callWith_K0 I.kIn hk (runG (us := []) F hgd hr hb (hx σ) I .nil h)
end

theorem runGK {X : Cx} {k : Nat} {f : Addr} {fd : FuncData} {ps ks : List Str} {sp : Sp} {E : L2.St → XK} {g : List Value → List Value → List Value} {gV : List V → List V → List V} {pins : List (Addr × Obj)} {σ : L2.St} {H : Hp} {s : Shared} {Q : VK} {ws : List Value} {zs : List V} (F : FnG X.prog X.w X.K X.mg X.base k f fd ps sp) (hg : X.A.guards = some []) (hr : Room k X.A)
    (hb : KBn X.K fd ps 0 ks g gV) (hx : PassesAt (L2.CX X.prog X.w) X σ (E σ)) (I : Inv X pins σ H s) (r : Vals zs ws) (hl : zs.length = ks.length) (h : sp (gV [] zs) H Q (E σ)) :
    wpAny (model X.prog X.w) X.A (PySem.call (.ref f) [] (ks.zip ws)) (EP X pins σ Q) X.xe s := by
  have hw : ws.length = ks.length := by rw [← hl, Vals.length r]
  have bd := hb.to s [] ws I.kIn rfl hw
  have rr := hb.rel (vs := []) (us := []) .nil r
  have all := F.go X.A X.stack s H ⟨[], ks.zip ws⟩ (g [] ws) (gV [] zs) Q (E σ) hg hr I.env0 bd rr h
  apply wpAny_call
  apply codeAny_mono all
  intro res s' hres
  match res, hres with
  | .error er, hres => exact hx pins H s er s' I hres
  | .ok (.ret u), hres => exact I.after hres
theorem kw_names {pos : Pos} {env : Env} : ∀ {kws : List Keyword} {ks : List Str}, kws.map (·.arg) = ks.map some → (backToKw pos (keywordEach kws env)).all (fun z => z.1.isSome) = true ∧ (backToKw pos (keywordEach kws env)).filterMap (fun z => z.1) = ks ∧ (backToKw pos (keywordEach kws env)).any (fun z => z.1.isNone) = false
  | [], [], _ => ⟨rfl, rfl, rfl⟩
  | ⟨nm, v, p⟩ :: kws, k :: ks, h => by
    rw [List.map_cons, List.map_cons] at h
    injection h with h1 h2
    have h1' : nm = some k := h1
    subst h1'
    obtain ⟨a, b, c⟩ := kw_names (pos := pos) (env := env) h2
    refine ⟨?_, ?_, ?_⟩
    · show (true && (backToKw pos (keywordEach kws env)).all (fun z => z.1.isSome)) = true
      rw [a]
      rfl
    · show k :: (backToKw pos (keywordEach kws env)).filterMap (fun z => z.1) = k :: ks
      rw [b]
    · show (false || (backToKw pos (keywordEach kws env)).any (fun z => z.1.isNone)) = false
      rw [c]
      rfl
  | [], _ :: _, h => by simp at h
  | _ :: _, [], h => by simp at h
/-- f(k = v, ..) -/
theorem pe_callKG {X : Cx} {k : Nat} {f : Addr} {fd : FuncData} {ps ks : List Str} {sp : Sp} {E : L2.St → XK} {x : Str} {p pos : Pos} {kws : List Keyword} {tk : TA} {g : List Value → List Value → List Value} {gV : List V → List V → List V} (F : FnG X.prog X.w X.K X.mg X.base k f fd ps sp) (hgd : X.A.guards = some []) (hr : Room k X.A) (hg : Gl X x) (hm : X.mg x = some (.ref f)) (hk : PySem.W.keepIn X.K (.ref f) = true)
    (hb : KBn X.K fd ps 0 ks g gV) (hx : ∀ σ, PassesAt (L2.CX X.prog X.w) X σ (E σ)) (ha : PK X kws tk) (hn : kws.map (·.arg) = ks.map some) (hdb : (x == ("__debug__" : Str)) = false) :
    PE X (.Call (.Name x p) [] kws pos) (fun σ H Q => tk σ H fun zs H1 => zs.length = ks.length ∧ sp (gV [] zs) H1 Q (E σ)) := by
  constructor
  intro pins s σ H Q I h
  obtain ⟨n1, n2, n3⟩ := kw_names (pos := pos) (env := X.env) hn
  apply wpAny_Call_Name_kw
  apply ld_glob I hg hm _ hdb
  refine PySem.W.callWith_KW0 (h₀ := X.base) I.ok.mod.kin hk n1 ?_ (by show (false || _) = false; rw [n3]; rfl)
  apply thn (ha.run pos pins s σ H _ I h)
  rintro ws s1 ⟨zs, H1, I1, r, hl, q⟩
  refine ⟨I1.kIn, ?_⟩
  rw [n2]
  exact runGK F hgd hr hb (hx σ) I1 r hl q

theorem guards_deeper (A : Around) (e : Env) : (A.deeper e).guards = A.guards := by
  first | rfl | (simp [Around.deeper])

/-- a def by its body -/
theorem fng_of {P : Program} {w : World} {K : Fg} {mg : Mg} {base : Heap} {x qual : Str} {st : Stmt} {f : Addr} {fd : FuncData} {N ps : List Str} {k : Nat} {sp : Sp} (F : Fun K x qual st f fd) (S : FnScope N ps (defScope st))
    (len : ∀ vs H Q E, sp vs H Q E → vs.length = ps.length)
    (hbody : ∀ (cdv : Value) (A : Around) (outer : List Env) (s : Shared) (H : Hp) (vs : List V) (Q : VK) (E : XK), (A.deeper (envOfC qual (defScope st) s.heap.objs.size f cdv)).guards = some [] →
      Room k (A.deeper (envOfC qual (defScope st) s.heap.objs.size f cdv)) → sp vs H Q E →
      ∃ t, PSs (cxOf (L2.CX P w) P w K mg base N qual (defScope st) f cdv A outer s H E) (defBody st) t ∧ t { nx := fun _ H' => Q .non H', rt := Q } (start N vs) H) : FnG P w K mg base (k + 1) f fd ps sp := by
  obtain ⟨oc, od, kV, doc, pm, an, cdv, ct, osl, rfl, lk, hcd⟩ := F.ex
  constructor
  · exact len
  intro A outer s H args us vs Q E hg hr e0 hb r hsp
  have hl := len _ _ _ _ hsp
  have hin : K.In s.heap := e0.mod.kin.keeps (fun b o e => And.left (e0.bs b o e))
  have lim : s.heap.NoLimit := e0.mod.nolimit.keeps (fun b o e => And.left (e0.bs b o e))
  have kinds : ∀ y ∈ ps.zip us, (defScope st).names.lookup y.1 = some .local ∨ ((defScope st).names.lookup y.1 = some .cell ∧ ((cellsFrom (s.heap.objs.size + 1) (defScope st).names []).lookup y.1).isSome = true) := by
    rintro ⟨n, v⟩ hy
    have hn := S.par n (List.of_mem_zip hy).1
    cases hn with
    | inl q => left; exact q
    | inr q => right; exact And.intro q (PySem.W.cellsFrom_some _ _ _ (Or.inl q))
  apply codeAny_call_function hr.depth (hin _ _ lk) rfl S.co S.gen rfl (PySem.W.codeRec_of hin hcd) (hb _ _ _ _ ?_)
  apply wpAny_newFunctionEnv_cells S.kind kinds
  intro env he s1 inc
  subst he
  constructor
  · exact lim.keeps inc.toInCall.keep
  apply codeAny_func
  obtain ⟨t, ht, hq⟩ := hbody cdv A outer s H vs Q E ((guards_deeper _ _).trans hg) (hr.deeper _) hsp
  have I0 := inv_start (CX := L2.CX P w) (N := N) (E := E) S hr.hd e0 hl r inc
  apply wpAny_mono (ht.run [] s1 (start N vs) H _ I0 hq)
  · intro fl s' hs
    have done : ∀ {σ' : L2.St} {H' : Hp} {v : V} {u : Value}, Inv (cxOf (L2.CX P w) P w K mg base N qual (defScope st) f cdv A outer s H E) [] σ' H' s' → RelV v u → Q v H' → CE outer P w H s Q u s' := by
      intro σ' H' v u J rv q
      exact ⟨v, H', J.os, J.bare, J.base, J.hok, rv, q⟩
    cases fl with
    | next =>
      obtain ⟨σ', H', J, q⟩ := hs
      exact done (v := V.non) (u := Value.none) J rfl q
    | ret u =>
      obtain ⟨v, σ', H', J, rv, q⟩ := hs
      exact done J rv q
    | brk => exact False.elim hs.choose_spec.choose_spec.2
    | cont => exact False.elim hs.choose_spec.choose_spec.2
  · intro er s' hs
    exact hs
end Mp

set_option Elab.async false
set_option linter.all false
set_option maxRecDepth 100000
set_option maxHeartbeats 4000000
/-! Mp, part 4: readings of results; the built-ins' values. -/
namespace Mp
open PySem PySem.Spec PyProof.Rows L2

def ExR (U : Wd) (H' G' : Hp) (cls : Value) (d : Option Addr) (e : Ex) : Prop :=
  ∃ C, cls = .ref C ∧ U.mg e.c = some (.ref C) ∧ ((e.fs = [] ∧ d = none) ∨ ∃ a xs, d = some a ∧ H' a = some (.xd (e.fs.zip xs)) ∧ e.fs.length = xs.length ∧ Reps U G' xs e.ds)
abbrev Rel (α β : Type) := α → En → L2.St → Hp → Hp → Hp → β → Prop
/-- what must be wanted of a result -/
def Cont {α β : Type} (U : Wd) (W : WX) (rel : Rel α β) (res : R α) (r : En) (σ : L2.St) (H G : Hp) (Q : β → Hp → Prop) : Prop := match res with
  | .bad => False
  | .exn e r' => ∀ cls d H' G', Rl U r' σ H' G' → Tr r σ H G r' σ H' G' → ExR U H' G' cls d e → W cls d σ H'
  | .ok a r' => ∀ x H' G', Rl U r' σ H' G' → Tr r σ H G r' σ H' G' → rel a r' σ H G' H' x → Q x H'
def Rg {α β : Type} (U : Wd) (W : WX) (rel : Rel α β) (f : En → R α) : L2.St → Hp → (β → Hp → Prop) → Prop := fun σ H Q => ∃ r G, Rl U r σ H G ∧ Cont U W rel (f r) r σ H G Q
/-- a new value -/
def NV (U : Wd) (H G' H' : Hp) (x : V) : Val → Prop
  | .fz d => Rep U G' x d
  | .ow d => ∃ a, x = .ref a ∧ H a = none ∧ G' a = none ∧ Node U H' G' a d
def relV (U : Wd) : Rel Val V := fun v r' σ H G' H' x => match v with
  | .fz d => Rep U G' x d
  | .ow d => ∃ a, x = .ref a ∧ H a = none ∧ G' a = none ∧ Node U H' G' a d ∧ ¬ OwnAt r' σ a
def relO (U : Wd) : Rel Opn V := fun o r' σ H G' H' x => match o with
  | .d d => Rep U G' x d
  | .loc i => σ[i]? = some (some x)
def relF (U : Wd) : Rel D V := fun d r' σ H G' H' x => Rep U G' x d
def relB : Rel Bool Bool := fun b _ _ _ _ _ x => x = b
/-- lists of results -/
def relL {α : Type} (rel : Rel α V) : Rel (List α) (List V) := fun os r' σ H G' H' xs => Paired (fun o x => rel o r' σ H G' H' x) os xs

/-- a result stays what it is -/
structure Pst {α β : Type} (rel : Rel α β) : Prop where
  up : ∀ {a r' σ H0 H1 G' H' x}, rel a r' σ H1 G' H' x → (∀ b, H1 b = none → H0 b = none) → rel a r' σ H0 G' H' x
/-- .. behind what comes later -/
structure Pss {α β : Type} (U : Wd) (rel : Rel α β) : Prop extends Pst rel where
  go : ∀ {a r1 σ H0 G1 H1 x r2 G2 H2}, rel a r1 σ H0 G1 H1 x → Rl U r1 σ H1 G1 → Tr r1 σ H1 G1 r2 σ H2 G2 → rel a r2 σ H0 G2 H2 x
theorem Tr.un {r r1 : En} {σ σ1 : L2.St} {H H1 G G1 : Hp} (a : Tr r σ H G r1 σ1 H1 G1) : ∀ b, H1 b = none → H b = none := fun c e => by
  cases q : H c with
  | none => rfl
  | some o =>
    obtain ⟨o', z⟩ := a.t c o q
    rw [e] at z; cases z
theorem pst_V (U : Wd) : Pst (relV U) := ⟨fun {a r' σ H0 H1 G' H' x} h u => by
  cases a with
  | fz d => exact h
  | ow d =>
    obtain ⟨a, e, h1, h2, h3, h4⟩ := h
    exact ⟨a, e, u _ h1, h2, h3, h4⟩⟩
theorem pss_V (U : Wd) : Pss U (relV U) := ⟨pst_V U, fun {a r1 σ H0 G1 H1 x r2 G2 H2} h rl t => by
  cases a with
  | fz d => exact Rep.mono t.g h
  | ow d =>
    obtain ⟨a, e, h1, h2, h3, h4⟩ := h
    obtain ⟨o, ho⟩ := h3.there
    have e1 : H2 a = H1 a := by rw [ho]; exact t.h a o ho h4
    refine ⟨a, e, h1, ?_, h3.mono t.g e1, fun z => ?_⟩
    · cases q : G2 a with
      | none => rfl
      | some o' =>
        rcases t.f a o' q with z | z | z
        · rw [h2] at z; cases z
        · rw [ho] at z; cases z
        · exact absurd z h4
    · rcases t.o a z with w | w
      · exact h4 w
      · rw [ho] at w; cases w⟩
theorem pss_O (U : Wd) : Pss U (relO U) := ⟨⟨fun {a r' σ H0 H1 G' H' x} h u => by cases a <;> exact h⟩, fun {a r1 σ H0 G1 H1 x r2 G2 H2} h rl t => by
  cases a with
  | d d => exact Rep.mono t.g h
  | loc i => exact h⟩
theorem pss_F (U : Wd) : Pss U (relF U) := ⟨⟨fun h u => h⟩, fun h rl t => Rep.mono t.g h⟩
theorem pss_B (U : Wd) : Pss U relB := ⟨⟨fun h u => h⟩, fun h rl t => h⟩
theorem pss_L {α : Type} {U : Wd} {rel : Rel α V} (p : Pss U rel) : Pss U (relL rel) := ⟨⟨fun h u => Paired.mapP h fun a b z => p.up z u⟩, fun h rl t => Paired.mapP h fun a b z => p.go z rl t⟩
theorem Reps.of_paired {U : Wd} {G : Hp} : ∀ {ds : List D} {xs : List V}, Paired (fun d x => Rep U G x d) ds xs → Reps U G xs ds
  | _, _, .nil => .nil
  | _, _, .cons h r => .cons h (Reps.of_paired r)

section
variable {U : Wd} {W : WX} {α β γ δ : Type} {σ : L2.St}
theorem Cont.imp {rel : Rel α β} {res : R α} {r : En} {H G : Hp} {Q Q' : β → Hp → Prop} (h : Cont U W rel res r σ H G Q) (i : ∀ x H', Q x H' → Q' x H') : Cont U W rel res r σ H G Q' := by
  cases res with
  | bad => exact h
  | exn e r' => exact h
  | ok a r' => exact fun x H' G' a b c => i _ _ (h x H' G' a b c)
/-- THE STEP: the first part's reading, then the rest's -/
theorem Cont.bind {rel1 : Rel α β} {rel2 : Rel γ δ} (p2 : Pst rel2) {m : R α} {g : α → En → R γ} {r : En} {H G : Hp} {Q : δ → Hp → Prop} (h : Cont U W rel2 (m.bind g) r σ H G Q) :
    Cont U W rel1 m r σ H G fun x H1 => ∃ a r1 G1, Rl U r1 σ H1 G1 ∧ Tr r σ H G r1 σ H1 G1 ∧ rel1 a r1 σ H G1 H1 x ∧ Cont U W rel2 (g a r1) r1 σ H1 G1 Q := by
  cases m with
  | bad => exact h
  | exn e r' => exact h
  | ok a r1 =>
    intro x H1 G1 rl tr rx
    refine ⟨a, r1, G1, rl, tr, rx, ?_⟩
    have h' : Cont U W rel2 (g a r1) r σ H G Q := h
    cases e : g a r1 with
    | bad => rw [e] at h'; exact h'
    | exn ee r' =>
      rw [e] at h'
      exact fun cls d H' G' a b c => h' cls d H' G' a (tr.trans b) c
    | ok b r' =>
      rw [e] at h'
      exact fun y H' G' a t c => h' y H' G' a (tr.trans t) (p2.up c tr.un)
theorem Cont.ok {rel : Rel α β} {a : α} {r : En} {H G : Hp} {Q : β → Hp → Prop} (h : Cont U W rel (.ok a r) r σ H G Q) (rl : Rl U r σ H G) {x : β} (rx : rel a r σ H G H x) : Q x H := h x H G rl .refl rx
theorem Rg.of {rel : Rel α β} {f : En → R α} {r : En} {H G : Hp} {Q : β → Hp → Prop} (rl : Rl U r σ H G) (h : Cont U W rel (f r) r σ H G Q) : Rg U W rel f σ H Q := ⟨r, G, rl, h⟩
end
theorem pe_imp {X : Cx} {e : Expr} {t t' : TE} (h : PE X e t) (i : ∀ σ H Q, t' σ H Q → t σ H Q) : PE X e t' := ⟨fun pins s σ H Q I q => h.run pins s σ H Q I (i _ _ _ q)⟩
theorem pt_imp {X : Cx} {e : Expr} {t t' : TT} (h : PT X e t) (i : ∀ σ H Q, t' σ H Q → t σ H Q) : PT X e t' := ⟨fun pins s σ H Q I q => h.run pins s σ H Q I (i _ _ _ q)⟩
theorem pw_imp {X : Cx} {e : Expr} {t t' : TT} (h : PW X e t) (i : ∀ σ H Q, t' σ H Q → t σ H Q) : PW X e t' := ⟨fun wh pins s σ H Q I q => h.run wh pins s σ H Q I (i _ _ _ q)⟩
theorem pa_imp {X : Cx} {e : List Expr} {t t' : TA} (h : PA X e t) (i : ∀ σ H Q, t' σ H Q → t σ H Q) : PA X e t' := ⟨fun pos pins s σ H Q I q => h.run pos pins s σ H Q I (i _ _ _ q)⟩
theorem ps_imp {X : Cx} {e : Stmt} {t t' : TS} (h : PS X e t) (i : ∀ D σ H, t' D σ H → t D σ H) : PS X e t' := ⟨fun pins s σ H D I q => h.run pins s σ H D I (i _ _ _ q)⟩
theorem pss_imp {X : Cx} {e : List Stmt} {t t' : TS} (h : PSs X e t) (i : ∀ D σ H, t' D σ H → t D σ H) : PSs X e t' := ⟨fun pins s σ H D I q => h.run pins s σ H D I (i _ _ _ q)⟩

/-- lists, one after the other -/
def tMany {ι α : Type} (U : Wd) (W : WX) (rel : Rel α V) (p : ι → En → R α) : List ι → TA
  | [] => tNil
  | m :: ms => tCons (Rg U W rel (p m)) (tMany U W rel p ms)
theorem tmono {ι α : Type} {U : Wd} {W : WX} {rel : Rel α V} {p : ι → En → R α} {σ : L2.St} {Q Q' : List V → Hp → Prop} (i : ∀ xs H', Q xs H' → Q' xs H') : ∀ (es : List ι) {H : Hp}, tMany U W rel p es σ H Q → tMany U W rel p es σ H Q'
  | [], H, h => i _ _ h
  | e :: es, H, h => by
    obtain ⟨r, G, rl, c⟩ := h
    exact ⟨r, G, rl, c.imp fun x H1 z => tmono (fun xs H2 w => i _ _ w) es z⟩
theorem many {U : Wd} {W : WX} {ι α γ δ : Type} {σ : L2.St} {rel1 : Rel α V} {rel2 : Rel γ δ} (p1 : Pss U rel1) (p2 : Pst rel2) {p : ι → En → R α} : ∀ {es : List ι} {g : List α → En → R γ} {r : En} {H G : Hp} {Q : δ → Hp → Prop}, Rl U r σ H G →
    Cont U W rel2 ((mapR p es r).bind g) r σ H G Q → tMany U W rel1 p es σ H fun xs H1 => ∃ as r1 G1, Rl U r1 σ H1 G1 ∧ Tr r σ H G r1 σ H1 G1 ∧ relL rel1 as r1 σ H G1 H1 xs ∧ Cont U W rel2 (g as r1) r1 σ H1 G1 Q
  | [], g, r, H, G, Q, rl, h => ⟨[], r, G, rl, .refl, .nil, h⟩
  | e :: es, g, r, H, G, Q, rl, h => by
    have h' : Cont U W rel2 ((p e r).bind fun o r1 => (mapR p es r1).bind fun os r2 => g (o :: os) r2) r σ H G Q := by
      have e1 : ((mapR p (e :: es) r).bind g) = ((p e r).bind fun o r1 => (mapR p es r1).bind fun os r2 => g (o :: os) r2) := by
        show (((p e r).bind fun o r1 => (mapR p es r1).bind fun os r2 => .ok (o :: os) r2).bind g) = _
        cases p e r with
        | bad => rfl
        | exn _ _ => rfl
        | ok a r1 =>
          show ((mapR p es r1).bind fun os r2 => .ok (a :: os) r2).bind g = (mapR p es r1).bind fun os r2 => g (a :: os) r2
          cases mapR p es r1 <;> rfl
      rw [← e1]
      exact h
    refine Rg.of rl ((Cont.bind (rel1 := rel1) p2 h').imp fun x H1 q => ?_)
    obtain ⟨a, r1, G1, rl1, t1, rx, h1⟩ := q
    have := many (rel1 := rel1) p1 p2 (es := es) (g := fun os r2 => g (a :: os) r2) rl1 h1
    refine tmono ?_ es this
    rintro xs H2 ⟨as, r2, G2, rl2, t2, rxs, h2⟩
    refine ⟨a :: as, r2, G2, rl2, t1.trans t2, .cons (p1.go rx rl1 t2) ?_, h2⟩
    exact Paired.mapP rxs fun _ _ z => p1.up z t1.un
/-! ### the heap goes on -/
structure Adv (G H G' H' : Hp) : Prop where
  sub : Sub G' H'
  g : Same G G'
  h : Same H H'
  f : ∀ b o, G' b = some o → G b = some o ∨ H b = none
theorem Adv.refl {G H : Hp} (s : Sub G H) : Adv G H G H := ⟨s, Same.refl _, Same.refl _, fun _ _ h => .inl h⟩
theorem same_new {H : Hp} {p : Addr} {o : HO} (h : H p = none) : Same H (upd H p o) := fun b x e => by
  rw [upd_ne (ne_of_none e h)]
  exact e
theorem Adv.own {G H : Hp} (s : Sub G H) {p : Addr} {o : HO} (h : H p = none) : Adv G H G (upd H p o) := ⟨s.same (same_new h), Same.refl _, same_new h, fun _ _ h => .inl h⟩
theorem Adv.frz {G H : Hp} (s : Sub G H) {p : Addr} {o : HO} (h : H p = none) : Adv G H (upd G p o) (upd H p o) := ⟨fun a u e => by
  by_cases q : a = p
  · subst q
    rw [upd_same] at e ⊢
    exact .inl e
  · rw [upd_ne q] at e ⊢
    exact s a u e, same_new (s.none h), same_new h, fun b u e => by
  by_cases q : b = p
  · subst q
    exact .inr h
  · rw [upd_ne q] at e
    exact .inl e⟩
theorem Rl.own {U : Wd} {r : En} {σ : L2.St} {H G : Hp} (rl : Rl U r σ H G) {a : Addr} (h : OwnAt r σ a) : G a = none ∧ ∃ d, Node U H G a d := by
  obtain ⟨i, d, h1, h2⟩ := h
  obtain ⟨b, e, hg, n⟩ := rl.at_ i _ _ h1 h2
  cases e
  exact ⟨hg, d, n⟩
theorem Rl.own_some {U : Wd} {r : En} {σ : L2.St} {H G : Hp} (rl : Rl U r σ H G) {a : Addr} (h : OwnAt r σ a) : ∃ o, H a = some o := (rl.own h).2.choose_spec.there
theorem Adv.rl {U : Wd} {r : En} {σ : L2.St} {H G H' G' : Hp} (a : Adv G H G' H') (rl : Rl U r σ H G) : Rl U r σ H' G' := by
  refine ⟨a.sub, rl.len, fun i s o h1 h2 => ?_, rl.ap⟩
  have q := rl.at_ i s o h1 h2
  cases s with
  | un => trivial
  | fz d =>
    obtain ⟨v, e, h⟩ := q
    exact ⟨v, e, h.mono a.g⟩
  | ow d =>
    obtain ⟨b, e, hg, n⟩ := q
    obtain ⟨u, hu⟩ := n.there
    refine ⟨b, e, ?_, n.mono a.g ((a.h _ _ hu).trans hu.symm)⟩
    cases z : G' b with
    | none => rfl
    | some w =>
      rcases a.f b w z with k | k
      · rw [hg] at k; cases k
      · rw [hu] at k; cases k
theorem Adv.tr {r : En} {σ : L2.St} {H G H' G' : Hp} (a : Adv G H G' H') : Tr r σ H G r σ H' G' := ⟨a.g, fun b o e _ => a.h b o e, fun b o e => ⟨o, a.h b o e⟩, fun b z => .inl z, fun b o e => (a.f b o e).elim .inl fun z => .inr (.inl z)⟩
theorem NV.rel {U : Wd} {r : En} {σ : L2.St} {H G H' G' : Hp} {x : V} {v : Val} (rl : Rl U r σ H G) (h : NV U H G' H' x v) : relV U v r σ H G' H' x := by
  cases v with
  | fz d => exact h
  | ow d =>
    obtain ⟨a, e, h1, h2, h3⟩ := h
    refine ⟨a, e, h1, h2, h3, fun z => ?_⟩
    obtain ⟨o, w⟩ := rl.own_some z
    rw [h1] at w; cases w
/-- .. so a built-in's value is handed on -/
theorem Cont.adv {U : Wd} {W : WX} {r : En} {σ : L2.St} {H G : Hp} {Q : V → Hp → Prop} {v : Val} (rl : Rl U r σ H G) (h : Cont U W (relV U) (.ok v r) r σ H G Q) : ∀ z H' G', Adv G H G' H' → NV U H G' H' z v → Q z H' :=
  fun z H' G' a n => h z H' G' (a.rl rl) a.tr (n.rel rl)

/-! ### operands are read -/
def Rd1s (U : Wd) (G H : Hp) (xs : List V) (ds : List D) : Prop := Paired (fun x d => Rd1 U G H x d) xs ds
theorem rsv_rd {U : Wd} {r : En} {σ : L2.St} {H H0 G : Hp} (rl : Rl U r σ H G) {o : Opn} {x : V} {d : D} (h : relO U o r σ H0 G H x) (e : rsv r o = some d) : Rd1 U G H x d := by
  cases o with
  | d d' =>
    cases e
    exact .inl h
  | loc i =>
    have h' : σ[i]? = some (some x) := h
    have e' : (match r[i]? with
      | some (.fz d) => some d
      | some (.ow d) => some d
      | _ => none) = some d := e
    cases q : r[i]? with
    | none => rw [q] at e'; cases e'
    | some sl =>
      rw [q] at e'
      cases sl with
      | un => cases e'
      | fz d1 =>
        cases e'
        obtain ⟨v, w, hr⟩ := rl.at_ i _ _ q h'
        cases w
        exact .inl hr
      | ow d1 =>
        cases e'
        obtain ⟨a, w, hg, n⟩ := rl.at_ i _ _ q h'
        cases w
        exact .inr ⟨a, rfl, n⟩
theorem rsvs_rd {U : Wd} {r : En} {σ : L2.St} {H H0 G : Hp} (rl : Rl U r σ H G) : ∀ {os : List Opn} {xs : List V} {ds : List D}, relL (relO U) os r σ H0 G H xs → rsvs r os = some ds → Rd1s U G H xs ds
  | [], _, _, .nil, e => by
    cases e
    exact .nil
  | o :: os, _, _, .cons h t, e => by
    unfold rsvs at e
    split at e
    · rename_i d ds e1 e2
      cases e
      exact .cons (rsv_rd rl h e1) (rsvs_rd rl t e2)
    · cases e
end Mp

set_option Elab.async false
set_option linter.all false
set_option maxRecDepth 100000
set_option maxHeartbeats 4000000
/-! Mp, part 5: the built-ins' values are what the rules hand on. -/
namespace Mp
open PySem PySem.Spec PyProof.Rows L2

section
variable {U : Wd} {G H : Hp} {x y : V} {Q : V → Hp → Prop}
theorem rd_int {i : Int} (h : Rd1 U G H x (.int i)) : x = .int i := by
  rcases h with h | ⟨a, rfl, n⟩
  · cases h; rfl
  · exact n.elim
theorem rd_bl {i : Bool} (h : Rd1 U G H x (.bl i)) : x = .bl i := by
  rcases h with h | ⟨a, rfl, n⟩
  · cases h; rfl
  · exact n.elim
theorem rd_str {i : Str} (h : Rd1 U G H x (.str i)) : x = .str i := by
  rcases h with h | ⟨a, rfl, n⟩
  · cases h; rfl
  · exact n.elim
theorem rd_non (h : Rd1 U G H x .non) : x = .non := by
  rcases h with h | ⟨a, rfl, n⟩
  · cases h; rfl
  · exact n.elim
theorem rd_tup (s : Sub G H) {ds : List D} (h : Rd1 U G H x (.tup ds)) : ∃ a xs, x = .ref a ∧ SqT U.K H a xs ∧ Reps U G xs ds := by
  rcases h with h | ⟨a, rfl, n⟩
  · cases h with
    | tup h r => exact ⟨_, _, rfl, SqT.sub s h, r⟩
  · exact n.elim
theorem rd_tupG {ds : List D} (h : Rd1 U G H x (.tup ds)) : ∃ a xs, x = .ref a ∧ SqT U.K G a xs ∧ Reps U G xs ds := by
  rcases h with h | ⟨a, rfl, n⟩
  · cases h with
    | tup h r => exact ⟨_, _, rfl, h, r⟩
  · exact n.elim
theorem rd_lst (s : Sub G H) {ds : List D} (h : Rd1 U G H x (.lst ds)) : ∃ a xs, x = .ref a ∧ H a = some (.lst xs) ∧ Reps U G xs ds := by
  rcases h with h | ⟨a, rfl, n⟩
  · cases h with
    | lst h r => exact ⟨_, _, rfl, lst_sub s h, r⟩
  · obtain ⟨xs, h1, h2⟩ := n
    exact ⟨a, xs, rfl, h1, h2⟩
theorem rd_scr (s : Sub G H) {ns : List Int} (h : Rd1 U G H x (.scr ns)) : ∃ a, x = .ref a ∧ SqL U.K H a (ns.map V.int) := by
  rcases h with h | ⟨a, rfl, n⟩
  · cases h with
    | scr h => exact ⟨_, rfl, SqL.sub s h⟩
  · exact n.elim
theorem rd_dK (s : Sub G H) {ks : List Key} {ds : List D} (h : Rd1 U G H x (.dK ks ds)) : ∃ a xs, x = .ref a ∧ Rd H a (.dK (ks.zip xs)) ∧ ks.length = xs.length ∧ Reps U G xs ds := by
  rcases h with h | ⟨a, rfl, n⟩
  · cases h with
    | dK h l r => exact ⟨_, _, rfl, dK_sub s h, l, r⟩
  · obtain ⟨xs, h1, l, h2⟩ := n
    exact ⟨a, xs, rfl, .inl h1, l, h2⟩
theorem rd_dT (s : Sub G H) {ks : List (List Key)} {ds : List D} (h : Rd1 U G H x (.dT ks ds)) : ∃ a xs, x = .ref a ∧ Rd H a (.dT (ks.zip xs)) ∧ ks.length = xs.length ∧ Reps U G xs ds := by
  rcases h with h | ⟨a, rfl, n⟩
  · cases h with
    | dT h l r => exact ⟨_, _, rfl, dT_sub s h, l, r⟩
  · obtain ⟨xs, h1, l, h2⟩ := n
    exact ⟨a, xs, rfl, .inl h1, l, h2⟩
mutual
theorem dp_rep (s : Sub G H) : ∀ (d : D) {v : V}, Rep U G v d → d.flt = true → Dp U.K H v d.py
  | .non, _, h, _ => by cases h; exact .non
  | .bl b, _, h, _ => by cases h; exact .bl b
  | .int b, _, h, _ => by cases h; exact .int b
  | .str b, _, h, _ => by cases h; exact .str b
  | .tup ds, _, h, f => by
    cases h with
    | tup h r => exact .tup (SqT.sub s h) (dp_reps s ds r f)
  | .lst ds, _, h, f => by
    cases h with
    | lst h r => exact .lst (SqL.of (lst_sub s h)) (dp_reps s ds r f)
  | .dK _ _, _, _, f => by cases f
  | .dT _ _, _, _, f => by cases f
  | .obj _ _ _, _, _, f => by cases f
  | .scr _, _, _, f => by cases f
theorem dp_reps (s : Sub G H) : ∀ (ds : List D) {v : List V}, Reps U G v ds → D.flts ds = true → DpAll U.K H v (D.pys ds)
  | [], _, h, _ => by cases h; exact .nil
  | d :: ds, _, h, f => by
    cases h with
    | cons h r =>
      have f' : (D.flt d && D.flts ds) = true := f
      rw [Bool.and_eq_true] at f'
      exact .cons (dp_rep s d h f'.1) (dp_reps s ds r f'.2)
end
theorem dp_rd (s : Sub G H) {d : D} (h : Rd1 U G H x d) (f : d.flt = true) : Dp U.K H x d.py := by
  rcases h with h | ⟨a, rfl, n⟩
  · exact dp_rep s d h f
  · cases d with
    | lst ds =>
      obtain ⟨xs, h1, h2⟩ := n
      exact .lst (SqL.of h1) (dp_reps s ds h2 f)
    | dK _ _ => cases f
    | dT _ _ => cases f
    | obj _ _ _ => cases f
    | _ => exact n.elim

/-- what is handed on -/
abbrev KQ (U : Wd) (G H : Hp) (v : Val) (Q : V → Hp → Prop) : Prop := ∀ z H' G', Adv G H G' H' → NV U H G' H' z v → Q z H'
theorem KQ.int (s : Sub G H) {i : Int} (k : KQ U G H (.fz (.int i)) Q) : Q (.int i) H := k _ _ _ (.refl s) (.int i)
theorem KQ.str (s : Sub G H) {i : Str} (k : KQ U G H (.fz (.str i)) Q) : Q (.str i) H := k _ _ _ (.refl s) (.str i)
theorem KQ.bl (s : Sub G H) {i : Bool} (k : KQ U G H (.fz (.bl i)) Q) : Q (.bl i) H := k _ _ _ (.refl s) (.bl i)
theorem KQ.old (s : Sub G H) {d : D} {v : V} (k : KQ U G H (.fz d) Q) (r : Rep U G v d) : Q v H := k _ _ _ (.refl s) r
theorem KQ.lst (s : Sub G H) {ds : List D} {xs : List V} (k : KQ U G H (.ow (.lst ds)) Q) (r : Reps U G xs ds) : ∀ p, H p = none → Q (.ref p) (upd H p (.lst xs)) := fun p np =>
  k _ _ _ (.own s np) ⟨p, rfl, np, s.none np, xs, upd_same, r⟩
theorem KQ.tup (s : Sub G H) {ds : List D} {xs : List V} (k : KQ U G H (.fz (.tup ds)) Q) (r : Reps U G xs ds) : ∀ p, H p = none → Q (.ref p) (upd H p (.tup xs)) := fun p np =>
  k _ _ _ (.frz s np) (.tup (SqT.of upd_same) (r.mono (same_new (s.none np))))

/-! ### + - * // % ** -/
def rPlus (K : Fg) : R2 := fun x y H Q => (rI0 (fun i j => V.int (i + j)) x y H Q) ∨ ((∃ i j, x = .str i ∧ y = .str j ∧ i.length + j.length ≤ sizeLine ∧ Q (.str (i ++ j)) H) ∨ (rCatA K x y H Q ∨ rCat x y H Q))
theorem or_plus {X : Cx} : OpR X (binaryOp .Add) (rPlus X.K) := OpR.or op_add (OpR.or op_add_str (OpR.or op_catA op_cat))
theorem b_add {d1 d2 : D} {v : Val} (e : bAdd d1 d2 = some v) (s : Sub G H) (h1 : Rd1 U G H x d1) (h2 : Rd1 U G H y d2) (k : KQ U G H v Q) : rPlus U.K x y H Q := by
  unfold bAdd at e
  split at e
  · cases e
    rw [rd_int h1, rd_int h2]
    exact .inl ⟨_, _, rfl, rfl, k.int s⟩
  · split at e
    · rename_i hl
      cases e
      rw [rd_str h1, rd_str h2]
      exact .inr (.inl ⟨_, _, rfl, rfl, hl, k.str s⟩)
    · cases e
  · split at e
    · rename_i xs ys hl
      cases e
      obtain ⟨a, us, rfl, ha, ra⟩ := rd_tup s h1
      obtain ⟨b, ws, rfl, hb, rb⟩ := rd_tup s h2
      obtain ⟨a2, us2, ea, ha2, ra2⟩ := rd_tupG h1
      cases ea
      obtain ⟨b2, ws2, eb, hb2, rb2⟩ := rd_tupG h2
      cases eb
      refine .inr (.inr (.inl ⟨a, b, us, ws, rfl, rfl, ha, hb, by rw [ra.length, rb.length]; exact hl, fun z => ?_, fun _ z => ?_, fun _ _ => k.tup s (ra.append rb)⟩))
      · subst z
        cases ra
        rw [List.nil_append] at k
        exact k.old s (.tup hb2 rb2)
      · subst z
        cases rb
        rw [List.append_nil] at k
        exact k.old s (.tup ha2 ra2)
    · cases e
  · split at e
    · rename_i xs ys hl
      cases e
      obtain ⟨a, us, rfl, ha, ra⟩ := rd_lst s h1
      obtain ⟨b, ws, rfl, hb, rb⟩ := rd_lst s h2
      exact .inr (.inr (.inr ⟨a, b, us, ws, rfl, rfl, ha, hb, by rw [ra.length, rb.length]; exact hl, k.lst s (ra.append rb)⟩))
    · cases e
  · cases e
abbrev rMinus : R2 := rI0 fun i j => V.int (i - j)
theorem b_sub {d1 d2 : D} {v : Val} (e : bSub d1 d2 = some v) (s : Sub G H) (h1 : Rd1 U G H x d1) (h2 : Rd1 U G H y d2) (k : KQ U G H v Q) : rMinus x y H Q := by
  unfold bSub at e
  split at e
  · cases e
    rw [rd_int h1, rd_int h2]
    exact ⟨_, _, rfl, rfl, k.int s⟩
  · cases e
def rTimes (K : Fg) : R2 := fun x y H Q => (rI CMulW (fun i j => V.int (i * j)) x y H Q) ∨ (rRepT K x y H Q ∨ rRep x y H Q)
theorem or_times {X : Cx} : OpR X (binaryOp .Mult) (rTimes X.K) := OpR.or op_mulW (OpR.or op_repT op_rep)
theorem b_mul {d1 d2 : D} {v : Val} (e : bMul d1 d2 = some v) (s : Sub G H) (h1 : Rd1 U G H x d1) (h2 : Rd1 U G H y d2) (k : KQ U G H v Q) : rTimes U.K x y H Q := by
  unfold bMul at e
  split at e
  · split at e
    · rename_i hl
      cases e
      rw [rd_int h1, rd_int h2]
      exact .inl ⟨_, _, rfl, rfl, wide_mul hl.1 hl.2 (by omega) (by omega) (by omega), k.int s⟩
    · cases e
  · split at e
    · rename_i xs n hl
      cases e
      obtain ⟨a, us, rfl, ha, ra⟩ := rd_tup s h1
      rw [rd_int h2]
      refine .inr (.inl ⟨a, n, us, rfl, rfl, ha, fun z => ?_, hl.2.1, hl.2.2.1, by rw [ra.length]; exact hl.2.2.2, k.tup s (ra.rep _)⟩)
      subst z
      cases ra
      exact hl.1 rfl
    · cases e
  · split at e
    · rename_i xs n hl
      cases e
      obtain ⟨a, us, rfl, ha, ra⟩ := rd_lst s h1
      rw [rd_int h2]
      exact .inr (.inr ⟨a, n, us, rfl, rfl, ha, hl.1, hl.2.1, by rw [ra.length]; exact hl.2.2, k.lst s (ra.rep _)⟩)
    · cases e
  · cases e
abbrev rRem : R2 := rI (fun _ j => 0 < j) fun i j => V.int (i % j)
theorem b_mod {d1 d2 : D} {v : Val} (e : bMod d1 d2 = some v) (s : Sub G H) (h1 : Rd1 U G H x d1) (h2 : Rd1 U G H y d2) (k : KQ U G H v Q) : rRem x y H Q := by
  unfold bMod at e
  split at e
  · split at e
    · rename_i hl
      cases e
      rw [rd_int h1, rd_int h2]
      exact ⟨_, _, rfl, rfl, hl, k.int s⟩
    · cases e
  · cases e
abbrev rQuo : R2 := rI CDivW fun i j => V.int (i / j)
theorem b_fdiv {d1 d2 : D} {v : Val} (e : bFdiv d1 d2 = some v) (s : Sub G H) (h1 : Rd1 U G H x d1) (h2 : Rd1 U G H y d2) (k : KQ U G H v Q) : rQuo x y H Q := by
  unfold bFdiv at e
  split at e
  · split at e
    · rename_i hl
      cases e
      rw [rd_int h1, rd_int h2]
      exact ⟨_, _, rfl, rfl, wide_div (b := 400) hl.1 (by have := hl.2; have := hl.1; omega) (by omega) (by omega), k.int s⟩
    · cases e
  · cases e
abbrev rPower : R2 := rI CPow fun i j => V.int (i ^ j.toNat)
theorem b_pow {d1 d2 : D} {v : Val} (e : bPow d1 d2 = some v) (s : Sub G H) (h1 : Rd1 U G H x d1) (h2 : Rd1 U G H y d2) (k : KQ U G H v Q) : rPower x y H Q := by
  unfold bPow at e
  split at e
  · split at e
    · rename_i hl
      cases e
      rw [rd_int h1, rd_int h2]
      exact ⟨_, _, rfl, rfl, ⟨hl.1, by omega, hl.2.2⟩, k.int s⟩
    · cases e
  · cases e
theorem b_neg {d1 : D} {v : Val} (e : bNeg d1 = some v) (s : Sub G H) (h1 : Rd1 U G H x d1) (k : KQ U G H v Q) : rU (fun i => V.int (-i)) x H Q := by
  unfold bNeg at e
  split at e
  · cases e
    rw [rd_int h1]
    exact ⟨_, rfl, k.int s⟩
  · cases e

/-! ### comparisons -/
theorem deq_some {d1 d2 : D} {b : Bool} (e : deq d1 d2 = some b) : (∃ x y, d1 = .str x ∧ d2 = .str y ∧ b = decide (x = y)) ∨ ((d1.flt = true ∧ SeqAt.shaped d1.py = true) ∧ (d2.flt = true ∧ SeqAt.shaped d2.py = true) ∧ b = PyData.eqv d1.py d2.py) := by
  unfold deq at e
  split at e
  · cases e
    exact .inl ⟨_, _, rfl, rfl, rfl⟩
  · split at e
    · rename_i h
      cases e
      unfold D.eok at h
      simp only [Bool.and_eq_true] at h
      exact .inr ⟨h.1, h.2, rfl⟩
    · cases e
/-- == of texts of any kind, of data -/
def rEq2 (K : Fg) : R2 := fun x y H Q => rEqD K x y H Q ∨ rEq x y H Q
def rNe2 (K : Fg) : R2 := fun x y H Q => rNeD K x y H Q ∨ rNe x y H Q
theorem or_eq2 {X : Cx} (hu : X.A.units + 64 < cLine) : OpR X (compareOp .Eq) (rEq2 X.K) := by
  intro pins s σ H x y v u Q I rx ry h
  rcases h with h | h
  · exact op_eqD hu pins s σ H x y v u Q I rx ry h
  · exact op_eq pins s σ H x y v u Q I rx ry h
theorem or_ne2 {X : Cx} (hu : X.A.units + 64 < cLine) : OpR X (compareOp .NotEq) (rNe2 X.K) := by
  intro pins s σ H x y v u Q I rx ry h
  rcases h with h | h
  · exact op_neD hu pins s σ H x y v u Q I rx ry h
  · exact op_ne pins s σ H x y v u Q I rx ry h
theorem dec_str {a b : Str} : decide (V.str a = V.str b) = decide (a = b) := by
  by_cases h : a = b
  · subst h; simp
  · have : ¬ V.str a = V.str b := fun z => h (by injection z)
    simp [h]
theorem b_eq {d1 d2 : D} {v : Val} (e : ((deq d1 d2).map fun b => Val.fz (.bl b)) = some v) (s : Sub G H) (h1 : Rd1 U G H x d1) (h2 : Rd1 U G H y d2) (k : KQ U G H v Q) : rEq2 U.K x y H Q := by
  cases q : deq d1 d2 with
  | none => rw [q] at e; cases e
  | some b =>
    rw [q] at e
    cases e
    rcases deq_some q with ⟨a, b, rfl, rfl, rfl⟩ | ⟨⟨f1, g1⟩, ⟨f2, g2⟩, rfl⟩
    · rw [rd_str h1, rd_str h2]
      exact .inr ⟨rfl, by rw [dec_str]; exact k.bl s⟩
    · exact .inl ⟨_, _, dp_rd s h1 f1, dp_rd s h2 f2, g1, g2, k.bl s⟩
theorem b_ne {d1 d2 : D} {v : Val} (e : ((deq d1 d2).map fun b => Val.fz (.bl (!b))) = some v) (s : Sub G H) (h1 : Rd1 U G H x d1) (h2 : Rd1 U G H y d2) (k : KQ U G H v Q) : rNe2 U.K x y H Q := by
  cases q : deq d1 d2 with
  | none => rw [q] at e; cases e
  | some b =>
    rw [q] at e
    cases e
    rcases deq_some q with ⟨a, b, rfl, rfl, rfl⟩ | ⟨⟨f1, g1⟩, ⟨f2, g2⟩, rfl⟩
    · rw [rd_str h1, rd_str h2]
      exact .inr ⟨rfl, by rw [dec_str]; exact k.bl s⟩
    · exact .inl ⟨_, _, dp_rd s h1 f1, dp_rd s h2 f2, g1, g2, k.bl s⟩
abbrev rLT : R2 := rI0 fun i j => V.bl (decide (i < j))
abbrev rLE : R2 := rI0 fun i j => V.bl (decide (i ≤ j))
abbrev rGT : R2 := rI0 fun i j => V.bl (decide (j < i))
abbrev rGE : R2 := rI0 fun i j => V.bl (decide (j ≤ i))
theorem b_lt {d1 d2 : D} {v : Val} (e : bLt d1 d2 = some v) (s : Sub G H) (h1 : Rd1 U G H x d1) (h2 : Rd1 U G H y d2) (k : KQ U G H v Q) : rLT x y H Q := by
  unfold bLt at e
  split at e
  · cases e
    rw [rd_int h1, rd_int h2]
    exact ⟨_, _, rfl, rfl, k.bl s⟩
  · cases e
theorem b_le {d1 d2 : D} {v : Val} (e : bLe d1 d2 = some v) (s : Sub G H) (h1 : Rd1 U G H x d1) (h2 : Rd1 U G H y d2) (k : KQ U G H v Q) : rLE x y H Q := by
  unfold bLe at e
  split at e
  · cases e
    rw [rd_int h1, rd_int h2]
    exact ⟨_, _, rfl, rfl, k.bl s⟩
  · cases e
theorem b_gt {d1 d2 : D} {v : Val} (e : bGt d1 d2 = some v) (s : Sub G H) (h1 : Rd1 U G H x d1) (h2 : Rd1 U G H y d2) (k : KQ U G H v Q) : rGT x y H Q := by
  unfold bGt at e
  split at e
  · cases e
    rw [rd_int h1, rd_int h2]
    exact ⟨_, _, rfl, rfl, k.bl s⟩
  · cases e
theorem b_ge {d1 d2 : D} {v : Val} (e : bGe d1 d2 = some v) (s : Sub G H) (h1 : Rd1 U G H x d1) (h2 : Rd1 U G H y d2) (k : KQ U G H v Q) : rGE x y H Q := by
  unfold bGe at e
  split at e
  · cases e
    rw [rd_int h1, rd_int h2]
    exact ⟨_, _, rfl, rfl, k.bl s⟩
  · cases e
theorem isNon_of {d : D} (h : Rd1 U G H x d) : isNon d = decide (x = .non) := by
  rcases h with h | ⟨a, rfl, n⟩
  · cases h <;> first | rfl | exact (decide_eq_false (by intro z; cases z)).symm
  · cases d <;> first | exact n.elim | exact (decide_eq_false (by intro z; cases z)).symm
theorem b_isN {d1 : D} {v : Val} (e : fzb (isNon d1) = some v) (s : Sub G H) (h1 : Rd1 U G H x d1) (k : KQ U G H v Q) : Q (.bl (decide (x = .non))) H := by
  cases e
  rw [← isNon_of h1]
  exact k.bl s
theorem b_notN {d1 : D} {v : Val} (e : fzb (!isNon d1) = some v) (s : Sub G H) (h1 : Rd1 U G H x d1) (k : KQ U G H v Q) : Q (.bl (!decide (x = .non))) H := by
  cases e
  rw [← isNon_of h1]
  exact k.bl s
theorem b_bl {d1 : D} {v : Val} {ng : Bool} (e : bBl ng d1 = some v) (s : Sub G H) (h1 : Rd1 U G H x d1) (k : KQ U G H v Q) : ∃ b, x = .bl b ∧ Q (.bl (if ng then !b else b)) H := by
  unfold bBl at e
  split at e
  · cases e
    rw [rd_bl h1]
    exact ⟨_, rfl, k.bl s⟩
  · cases e
theorem flatV_of {d : D} (h : Rep U G x d) (f : flatD d = true) : flatV x = true := by
  cases h <;> first | rfl | cases f
theorem flats_of : ∀ {xs : List V} {ds : List D}, Reps U G xs ds → ds.all flatD = true → xs.all flatV = true
  | _, _, .nil, _ => rfl
  | _, _, .cons h r, f => by
    rw [List.all_cons, Bool.and_eq_true] at f ⊢
    exact ⟨flatV_of h f.1, flats_of r f.2⟩
theorem eqF_of {d e : D} (h : Rep U G x d) (h2 : Rep U G y e) (f : flatD d = true) (f2 : flatD e = true) : eqV x y = eqF d e := by
  cases h <;> cases h2 <;> first | rfl | cases f | cases f2
theorem inV_of {d : D} (h : Rep U G x d) (f : flatD d = true) : ∀ {xs : List V} {ds : List D}, Reps U G xs ds → ds.all flatD = true → inV x xs = ds.any fun z => eqF z d
  | _, _, .nil, _ => rfl
  | _, _, .cons h2 r, g => by
    rw [List.all_cons, Bool.and_eq_true] at g
    unfold inV
    rw [List.any_cons, List.any_cons, eqF_of h2 h g.1 f]
    have := inV_of h f r g.2
    unfold inV at this
    rw [this]
theorem rd_flat {d : D} (h : Rd1 U G H x d) (f : flatD d = true) : Rep U G x d := by
  rcases h with h | ⟨a, rfl, n⟩
  · exact h
  · cases d <;> first | exact n.elim | cases f
theorem pys_any {p : PyData → Bool} : ∀ ds : List D, (D.pys ds).any p = ds.any fun z => p z.py
  | [] => rfl
  | d :: ds => by
    show (D.py d :: D.pys ds).any p = _
    rw [List.any_cons, List.any_cons, pys_any ds]
def rMem (K : Fg) (ng : Bool) : R2 := fun x y H Q => (∃ i j, x = .str i ∧ y = .str j ∧ Q (.bl (if ng then !(!(Builtin.Str.occurrences j i 0 j.length 1).isEmpty) else (!(Builtin.Str.occurrences j i 0 j.length 1).isEmpty))) H) ∨
  (rIn K ng x y H Q ∨ (if ng then rNotInD K x y H Q else rInD K x y H Q))
theorem or_in {X : Cx} (hu : X.A.units + 65 < cLine) : OpR X (compareOp .In) (rMem X.K false) := OpR.or op_in_str (OpR.or op_in_seq (op_inD hu))
theorem or_notin {X : Cx} (hu : X.A.units + 65 < cLine) : OpR X (compareOp .NotIn) (rMem X.K true) := OpR.or op_notin_str (OpR.or op_notIn_seq (op_notInD hu))
theorem b_in {d1 d2 : D} {b : Bool} {ng : Bool} (e : inS d1 d2 = some b) (s : Sub G H) (h1 : Rd1 U G H x d1) (h2 : Rd1 U G H y d2) (k : KQ U G H (.fz (.bl (if ng then !b else b))) Q) : rMem U.K ng x y H Q := by
  unfold inS at e
  split at e
  · cases e
    rw [rd_str h1, rd_str h2]
    exact .inl ⟨_, _, rfl, rfl, k.bl s⟩
  · split at e
    · rename_i ds f
      cases e
      rw [Bool.and_eq_true] at f
      obtain ⟨a, xs, rfl, ha, ra⟩ := rd_tup s h2
      have r1 := rd_flat h1 f.1
      refine .inr (.inl ⟨a, xs, rfl, .inr ha, flatV_of r1 f.1, flats_of ra f.2, ?_⟩)
      rw [inV_of r1 f.1 ra f.2]
      exact k.bl s
    · cases e
  · split at e
    · rename_i ds f
      cases e
      rw [Bool.and_eq_true] at f
      obtain ⟨a, xs, rfl, ha, ra⟩ := rd_lst s h2
      have r1 := rd_flat h1 f.1
      refine .inr (.inl ⟨a, xs, rfl, .inl (SqL.of ha), flatV_of r1 f.1, flats_of ra f.2, ?_⟩)
      rw [inV_of r1 f.1 ra f.2]
      exact k.bl s
    · split at e
      · rename_i ds _ f
        cases e
        rw [Bool.and_eq_true] at f
        have f1 := f.1
        have f2 := f.2
        unfold D.eok at f1 f2
        rw [Bool.and_eq_true] at f1 f2
        have q := k.bl s
        have hd : Dp U.K H y (.list (D.pys ds)) := dp_rd s h2 f2.1
        refine .inr (.inr ?_)
        cases ng with
        | true => exact ⟨_, _, dp_rd s h1 f1.1, hd, f1.2, f2.2, by rw [pys_any]; exact q⟩
        | false => exact ⟨_, _, dp_rd s h1 f1.1, hd, f1.2, f2.2, by rw [pys_any]; exact q⟩
      · cases e
  · cases e
end
end Mp

set_option Elab.async false
set_option linter.all false
set_option maxRecDepth 100000
set_option maxHeartbeats 4000000
/-! Mp, part 6: subscripts, slices, built-in functions. -/
namespace Mp
open PySem PySem.Spec PyProof.Rows L2

section
variable {U : Wd} {G H : Hp} {x y : V} {Q : V → Hp → Prop}
theorem Reps.atI {xs : List V} {ds : List D} (r : Reps U G xs ds) {i : Int} {d : D} (h : L2.atI ds i = some d) : ∃ v, L2.atI xs i = some v ∧ Rep U G v d := by
  unfold L2.atI at h ⊢
  rw [r.length]
  cases e : ixN ds.length i with
  | none => rw [e] at h; cases h
  | some j =>
    rw [e] at h
    have h' : ds[j]? = some d := h
    obtain ⟨v, q, w⟩ := r.get h'
    exact ⟨v, q, w⟩
theorem atI_map {α β : Type} (f : α → β) (xs : List α) (i : Int) : L2.atI (xs.map f) i = (L2.atI xs i).map f := by
  unfold L2.atI
  rw [List.length_map]
  cases e : ixN xs.length i with
  | none => rfl
  | some j =>
    show (xs.map f)[j]? = (xs[j]?).map f
    rw [List.getElem?_map]
theorem b_item {d1 d2 : D} {v : Val} (e : bItem d1 d2 = some v) (s : Sub G H) (h1 : Rd1 U G H x d1) (h2 : Rd1 U G H y d2) (k : KQ U G H v Q) : rIx U.K x y H Q := by
  unfold bItem at e
  split at e
  · rename_i xs i
    cases q : L2.atI xs i with
    | none => rw [q] at e; cases e
    | some d =>
      rw [q] at e
      cases e
      obtain ⟨a, us, rfl, ha, ra⟩ := rd_tup s h1
      rw [rd_int h2]
      obtain ⟨w, hw, rw'⟩ := ra.atI q
      exact .inr (.inl ⟨a, us, i, w, rfl, rfl, ha, hw, k.old s rw'⟩)
  · rename_i xs i
    cases q : L2.atI xs i with
    | none => rw [q] at e; cases e
    | some d =>
      rw [q] at e
      cases e
      obtain ⟨a, us, rfl, ha, ra⟩ := rd_lst s h1
      rw [rd_int h2]
      obtain ⟨w, hw, rw'⟩ := ra.atI q
      exact .inl ⟨a, us, i, w, rfl, rfl, SqL.of ha, hw, k.old s rw'⟩
  · rename_i xs i
    cases q : L2.atI xs i with
    | none => rw [q] at e; cases e
    | some d =>
      rw [q] at e
      cases e
      obtain ⟨a, rfl, ha⟩ := rd_scr s h1
      rw [rd_int h2]
      refine .inl ⟨a, _, i, .int d, rfl, rfl, ha, by rw [atI_map, q]; rfl, k.int s⟩
  · split at e
    · rename_i z i hz
      cases q : L2.atI z.cps.toList i with
      | none => rw [q] at e; cases e
      | some c =>
        rw [q] at e
        cases e
        rw [rd_str h1, rd_int h2]
        exact .inr (.inr ⟨z, i, c, rfl, rfl, hz, q, k.str s⟩)
    · cases e
  · cases e
theorem Reps.cut {xs : List V} {ds : List D} (r : Reps U G xs ds) (lo hi : Option Int) : Reps U G (cutV xs lo hi) (Mp.cut ds lo hi) := by
  unfold cutV Mp.cut
  rw [r.length]
  exact (r.drop _).take _
theorem cutV_map {α : Type} (f : α → V) (xs : List α) (lo hi : Option Int) : cutV (xs.map f) lo hi = (Mp.cut xs lo hi).map f := by
  unfold cutV Mp.cut
  rw [List.length_map, List.map_take, List.map_drop]
theorem cut_all {α : Type} (xs : List α) (lo hi : Option Int) (h : HT.sIx xs.length 0 lo = 0 ∧ HT.sIx xs.length xs.length hi = xs.length) : Mp.cut xs lo hi = xs := by
  unfold Mp.cut
  rw [h.1, h.2]
  simp
def rCut (K : Fg) : V → Option Int → Option Int → Hp → VK → Prop := fun x lo hi H Q => rSlL K x lo hi H Q ∨ rSlA K x lo hi H Q
theorem sl_cut {X : Cx} : SlR X (rCut X.K) := SlR.or sl_list sl_tupA
theorem b_slc {d1 : D} {lo hi : Option Int} {v : Val} (e : bSlc lo hi d1 = some v) (s : Sub G H) (h1 : Rd1 U G H x d1) (k : KQ U G H v Q) : rCut U.K x lo hi H Q := by
  unfold bSlc at e
  split at e
  · cases e
    obtain ⟨a, us, rfl, ha, ra⟩ := rd_tup s h1
    obtain ⟨a2, us2, ea, ha2, ra2⟩ := rd_tupG h1
    cases ea
    refine .inr ⟨a, us, rfl, ha, fun z => ?_, fun _ => k.tup s (ra.cut lo hi)⟩
    rw [ra.length] at z
    rw [cut_all _ lo hi z] at k
    exact k.old s (.tup ha2 ra2)
  · cases e
    obtain ⟨a, us, rfl, ha, ra⟩ := rd_lst s h1
    exact .inl ⟨a, us, rfl, SqL.of ha, k.lst s (ra.cut lo hi)⟩
  · cases e
    obtain ⟨a, rfl, ha⟩ := rd_scr s h1
    refine .inl ⟨a, _, rfl, ha, ?_⟩
    rw [cutV_map]
    exact k.lst s (Reps.ints _)
  · cases e

/-! ### functions -/
theorem SqTL {K : Fg} {H : Hp} {a : Addr} {xs : List V} (h : H a = some (.lst xs)) : SqL K H a xs ∨ SqT K H a xs := .inl (SqL.of h)
def rLen (K : Fg) : List V → Hp → VK → Prop := fun vs H Q => (∃ p ys, vs = [V.ref p] ∧ (SqL K H p ys ∨ SqT K H p ys) ∧ Q (.int ys.length) H) ∨ (∃ z, vs = [V.str z] ∧ z.length ≤ sizeLine ∧ Q (.int z.length) H)
theorem cr_len {X : Cx} : CallR X (.builtin "len") (rLen X.K) := CallR.or call_len_seq call_len_str
theorem b_len {d1 : D} {v : Val} (e : bLen d1 = some v) (s : Sub G H) (h1 : Rd1 U G H x d1) (k : KQ U G H v Q) : rLen U.K [x] H Q := by
  unfold bLen at e
  split at e
  · cases e
    obtain ⟨a, us, rfl, ha, ra⟩ := rd_tup s h1
    refine .inl ⟨a, us, rfl, .inr ha, ?_⟩
    rw [ra.length]
    exact k.int s
  · cases e
    obtain ⟨a, us, rfl, ha, ra⟩ := rd_lst s h1
    refine .inl ⟨a, us, rfl, SqTL ha, ?_⟩
    rw [ra.length]
    exact k.int s
  · cases e
    obtain ⟨a, rfl, ha⟩ := rd_scr s h1
    refine .inl ⟨a, _, rfl, .inl ha, ?_⟩
    rw [List.length_map]
    exact k.int s
  · split at e
    · rename_i hz
      cases e
      rw [rd_str h1]
      exact .inr ⟨_, rfl, hz, k.int s⟩
    · cases e
  · cases e
theorem b_abs {d1 : D} {v : Val} (e : bAbs d1 = some v) (s : Sub G H) (h1 : Rd1 U G H x d1) (k : KQ U G H v Q) : ∃ i, [x] = [V.int i] ∧ Q (.int (if i < 0 then -i else i)) H := by
  unfold bAbs at e
  split at e
  · cases e
    rw [rd_int h1]
    exact ⟨_, rfl, k.int s⟩
  · cases e
theorem b_int {d1 : D} {v : Val} (e : bInt d1 = some v) (s : Sub G H) (h1 : Rd1 U G H x d1) (k : KQ U G H v Q) : (∃ i, [x] = [V.int i] ∧ Q (.int i) H) ∨ ∃ c, [x] = [V.bl c] ∧ Q (.int (if c then 1 else 0)) H := by
  unfold bInt at e
  split at e
  · cases e
    rw [rd_int h1]
    exact .inl ⟨_, rfl, k.int s⟩
  · cases e
    rw [rd_bl h1]
    exact .inr ⟨_, rfl, k.int s⟩
  · cases e
theorem b_list {d1 : D} {v : Val} (e : bList d1 = some v) (s : Sub G H) (h1 : Rd1 U G H x d1) (k : KQ U G H v Q) : ∃ p ys, [x] = [V.ref p] ∧ (SqL U.K H p ys ∨ SqT U.K H p ys) ∧ ∀ l, H l = none → Q (.ref l) (upd H l (.lst ys)) := by
  unfold bList at e
  split at e
  · cases e
    obtain ⟨a, us, rfl, ha, ra⟩ := rd_tup s h1
    exact ⟨a, us, rfl, .inr ha, k.lst s ra⟩
  · cases e
    obtain ⟨a, us, rfl, ha, ra⟩ := rd_lst s h1
    exact ⟨a, us, rfl, SqTL ha, k.lst s ra⟩
  · cases e
    obtain ⟨a, rfl, ha⟩ := rd_scr s h1
    exact ⟨a, _, rfl, .inl ha, k.lst s (Reps.ints _)⟩
  · cases e
theorem b_tuple {d1 : D} {v : Val} (e : bTuple d1 = some v) (s : Sub G H) (h1 : Rd1 U G H x d1) (k : KQ U G H v Q) :
    ∃ p ys, [x] = [V.ref p] ∧ ((SqL U.K H p ys ∧ ∀ l, H l = none → Q (.ref l) (upd H l (.tup ys))) ∨ (SqT U.K H p ys ∧ Q (.ref p) H)) := by
  unfold bTuple at e
  split at e
  · cases e
    obtain ⟨a, us, rfl, ha, ra⟩ := rd_tup s h1
    obtain ⟨a2, us2, ea, ha2, ra2⟩ := rd_tupG h1
    cases ea
    exact ⟨a, us, rfl, .inr ⟨ha, k.old s (.tup ha2 ra2)⟩⟩
  · cases e
    obtain ⟨a, us, rfl, ha, ra⟩ := rd_lst s h1
    exact ⟨a, us, rfl, .inl ⟨SqL.of ha, k.tup s ra⟩⟩
  · cases e
theorem blsOf_some : ∀ {ds : List D} {bs : List Bool}, blsOf ds = some bs → ds = bs.map D.bl
  | [], _, h => by cases h; rfl
  | d :: ds, bs, h => by
    unfold blsOf at h
    split at h
    · rename_i z; cases z
    · rename_i i r z
      cases z
      cases q : blsOf ds with
      | none => rw [q] at h; cases h
      | some cs =>
        rw [q] at h
        cases h
        rw [blsOf_some q]
        rfl
    · cases h
theorem intsOf_some : ∀ {ds : List D} {bs : List Int}, intsOf ds = some bs → ds = bs.map D.int
  | [], _, h => by cases h; rfl
  | d :: ds, bs, h => by
    unfold intsOf at h
    split at h
    · rename_i z; cases z
    · rename_i i r z
      cases z
      cases q : intsOf ds with
      | none => rw [q] at h; cases h
      | some cs =>
        rw [q] at h
        cases h
        rw [intsOf_some q]
        rfl
    · cases h
theorem strsOf_some : ∀ {ds : List D} {bs : List Str}, strsOf ds = some bs → ds = bs.map D.str
  | [], _, h => by cases h; rfl
  | d :: ds, bs, h => by
    unfold strsOf at h
    split at h
    · rename_i z; cases z
    · rename_i i r z
      cases z
      cases q : strsOf ds with
      | none => rw [q] at h; cases h
      | some cs =>
        rw [q] at h
        cases h
        rw [strsOf_some q]
        rfl
    · cases h
theorem b_all {d1 : D} {v : Val} (e : bAll d1 = some v) (s : Sub G H) (h1 : Rd1 U G H x d1) (k : KQ U G H v Q) : rAll U.K [x] H Q := by
  unfold bAll at e
  split at e
  · rename_i ds
    cases q : blsOf ds with
    | none => rw [q] at e; cases e
    | some bs =>
      rw [q] at e
      cases e
      have := blsOf_some q
      subst this
      obtain ⟨a, us, rfl, ha, ra⟩ := rd_lst s h1
      rw [ra.of_bls] at ha
      exact ⟨a, bs, rfl, SqL.of ha, k.bl s⟩
  · cases e
theorem b_any {d1 : D} {v : Val} (e : bAny d1 = some v) (s : Sub G H) (h1 : Rd1 U G H x d1) (k : KQ U G H v Q) : rAny U.K [x] H Q := by
  unfold bAny at e
  split at e
  · rename_i ds
    cases q : blsOf ds with
    | none => rw [q] at e; cases e
    | some bs =>
      rw [q] at e
      cases e
      have := blsOf_some q
      subst this
      obtain ⟨a, us, rfl, ha, ra⟩ := rd_lst s h1
      rw [ra.of_bls] at ha
      exact ⟨a, bs, rfl, SqL.of ha, k.bl s⟩
  · cases e
theorem b_sum {d1 : D} {v : Val} (e : bSum d1 = some v) (s : Sub G H) (h1 : Rd1 U G H x d1) (k : KQ U G H v Q) : rSum U.K [x] H Q := by
  unfold bSum at e
  split at e
  · rename_i ds
    cases q : intsOf ds with
    | none => rw [q] at e; cases e
    | some bs =>
      rw [q] at e
      cases e
      have := intsOf_some q
      subst this
      obtain ⟨a, us, rfl, ha, ra⟩ := rd_lst s h1
      rw [ra.of_ints] at ha
      exact ⟨a, bs, rfl, SqL.of ha, k.int s⟩
  · cases e

/-! ### isinstance -/
theorem ty_of {d : D} (s : Sub G H) (h1 : Rd1 U G H x d) (no : plainD d = true) : TyX U.K H x (.type (tyN d)) := by
  cases d with
  | non => rw [rd_non h1]; exact .base .non
  | bl b => rw [rd_bl h1]; exact .base (.bl b)
  | int b => rw [rd_int h1]; exact .base (.int b)
  | str b => rw [rd_str h1]; exact .base (.str b)
  | tup ds =>
    obtain ⟨a, us, rfl, ha, ra⟩ := rd_tup s h1
    rcases ha with (ha | ⟨o, ha⟩) | ⟨o, its, n, hk, hc, _⟩
    · exact .base (.tup ha)
    · exact .fTuple ha
    · exact .kTuple hk hc
  | lst ds =>
    obtain ⟨a, us, rfl, ha, ra⟩ := rd_lst s h1
    exact .base (.lst ha)
  | scr ns =>
    obtain ⟨a, rfl, ha⟩ := rd_scr s h1
    rcases ha with (ha | ⟨o, ha⟩) | ⟨o, its, n, hk, hc, _⟩
    · exact .base (.lst ha)
    · exact .base (.frz ha)
    · exact .kList hk hc
  | dK ks ds =>
    obtain ⟨a, us, rfl, ha, _⟩ := rd_dK s h1
    rcases ha with ha | ⟨o, ha⟩
    · exact .base (.dK ha)
    · exact .fDict ha
  | dT ks ds => cases no
  | obj c fs ds => cases no
theorem kit_tab {K : Fg} : ∀ a ∈ ["NoneType", "bool", "int", "str", "tuple", "list", "dict"], ∀ T ∈ ["int", "bool", "str", "tuple", "list", "dict"], PySem.W.kitOne K (.type a) (.type T) = some (a == T || (T == "int" && a == "bool")) := by
  have h : ∀ a ∈ ["NoneType", "bool", "int", "str", "tuple", "list", "dict"], ∀ T ∈ ["int", "bool", "str", "tuple", "list", "dict"], kitB a T = some (a == T || (T == "int" && a == "bool")) := by decide +kernel
  intro a ha T hT
  exact kit_ty (h a ha T hT)
theorem b_isi {T : String} {d1 : D} {v : Val} (e : ((isiB T d1).map fun b => Val.fz (.bl b)) = some v) (s : Sub G H) (h1 : Rd1 U G H x d1) (k : KQ U G H v Q) : rIsi U.K [x, .ty T] H Q := by
  unfold isiB at e
  split at e
  · rename_i h
    cases e
    refine ⟨x, .ty T, .type (tyN d1), .type T, _, rfl, .ty T, ty_of s h1 h.1, kit_tab _ ?_ _ ?_, k.bl s⟩
    · cases d1 <;> simp [tyN] at * <;> cases h.1
    · simpa using h.2
  · cases e
end
end Mp

set_option Elab.async false
set_option linter.all false
set_option maxRecDepth 100000
set_option maxHeartbeats 4000000
/-! Mp, part 7: repr. -/
namespace Mp
open PySem PySem.Spec PyProof.Rows L2

abbrev keyPy : Key → PyData := fun k => match k with
  | .inl i => PyData.int i
  | .inr x => PyData.str x
theorem Vals.of_cons {x : V} {xs : List V} {us : List Value} (r : Vals (x :: xs) us) : ∃ u ws, us = u :: ws ∧ RelV x u ∧ Vals xs ws := by
  cases r with
  | cons a b => exact ⟨_, _, rfl, a, b⟩
/-- a dict's entries: keys and values -/
theorem pairs_keys {P : Program} {w : World} {h : Heap} : ∀ {es : List DictEntry} {kvs : List (Key × Value)}, Pairs (mixKind P w) es kvs → ∃ as, ReadsAll h (es.map (fun e => e.key)) (kvs.map fun p => keyPy p.1) as
  | _, _, .nil => ⟨[], .nil⟩
  | _, _, .cons (e := e) (kv := kv) h1 h2 t => by
    obtain ⟨as, q⟩ := pairs_keys (h := h) t
    rcases keyIs_shape h1 with ⟨i, u, e1, e2⟩ | ⟨x, u, e1, e2⟩
    · refine ⟨[] ++ as, ?_⟩
      show ReadsAll h (e.key :: _) (keyPy kv.1 :: _) ([] ++ as)
      rw [e2, e1]
      exact .cons (.int i u) q
    · refine ⟨[] ++ as, ?_⟩
      show ReadsAll h (e.key :: _) (keyPy kv.1 :: _) ([] ++ as)
      rw [e2, e1]
      exact .cons (.str x u) q
theorem pairs_vals {P : Program} {w : World} : ∀ {es : List DictEntry} {kvs : List (Key × Value)}, Pairs (mixKind P w) es kvs → es.map (fun e => e.val) = kvs.map fun p => p.2
  | _, _, .nil => rfl
  | _, _, .cons h1 h2 t => by
    rw [List.map_cons, List.map_cons, pairs_vals t, h2]
theorem kv_zip : ∀ {ks : List Key} {xs : List V} {vs : List (Key × Value)}, KV (ks.zip xs) vs → ks.length = xs.length → vs.map (fun p => p.1) = ks ∧ Vals xs (vs.map fun p => p.2)
  | [], [], _, .nil, _ => ⟨rfl, .nil⟩
  | k :: ks, x :: xs, _, .cons h t, l => by
    obtain ⟨e1, e2⟩ := kv_zip t (by simpa using l)
    obtain ⟨h1, h2⟩ := h
    refine ⟨?_, .cons h2 e2⟩
    rw [List.map_cons, e1]
    exact congrArg (· :: ks) h1.symm
  | [], _ :: _, _, _, l => by simp at l
  | _ :: _, [], _, _, l => by simp at l
theorem zip_fst {α β : Type} : ∀ (xs : List α) (ys : List β), xs.length = ys.length → (xs.zip ys).map (fun p => p.1) = xs
  | [], [], _ => rfl
  | x :: xs, y :: ys, h => by
    rw [List.zip_cons_cons, List.map_cons, zip_fst xs ys (by simpa using h)]
  | [], _ :: _, h => by simp at h
  | _ :: _, [], h => by simp at h
theorem zip_snd {α β : Type} : ∀ (xs : List α) (ys : List β), xs.length = ys.length → (xs.zip ys).map (fun p => p.2) = ys
  | [], [], _ => rfl
  | x :: xs, y :: ys, h => by
    rw [List.zip_cons_cons, List.map_cons, zip_snd xs ys (by simpa using h)]
  | [], _ :: _, h => by simp at h
  | _ :: _, [], h => by simp at h
theorem pys_len : ∀ ds : List D, (D.pys ds).length = ds.length
  | [] => rfl
  | d :: ds => by
    show (D.pys ds).length + 1 = _
    rw [pys_len ds]
    rfl

section
variable {X : Cx} {pins : List (Addr × Obj)} {σ : L2.St} {H G : Hp} {s : Shared} {U : Wd}
/-- how data is shown: its parts, level by level -/
def Shn (X : Cx) (h : Heap) (u : Value) (d : PyData) : Prop := (∃ as, Reads h u d as) ∧ ∃ bs, ReadAtMost h d.depth bs ∧ ReprK X.prog X.w bs h d.depth u d.shown
def Shns (X : Cx) (h : Heap) (us : List Value) (ds : List PyData) : Prop := (∃ as, ReadsAll h us ds as) ∧ ∃ bs, ReadAtMost h (PyData.depthAll ds) bs ∧ ReprAllK X.prog X.w bs h (PyData.depthAll ds) us (PyData.shownAll ds)
theorem shn_flat {h : Heap} {u : Value} {d : PyData} {t : Str} (r : Reads h u d []) (e : d.shown = t) (k : ReprIs X.prog X.w u t) : Shn X h u d := ⟨⟨_, r⟩, [], (fun _ z => nomatch z), by rw [e]; exact .of_is k _ _ _⟩
theorem len_listText {t : Str} {ds : List PyData} (h : t ∈ PyData.shownAll ds) (hz : (listText (PyData.shownAll ds)).length ≤ sizeLine) : t.length ≤ sizeLine := Nat.le_trans (listText_mem_le h) hz
theorem shn_list {h : Heap} {a : Addr} {o : Obj} {us : List Value} {n : Nat} {ds : List PyData} (h1 : h.get? a = some o) (h2 : o.cls = .type "list") (h3 : o.data = .seq us.toArray n) (k : Shns X h us ds) :
    Shn X h (.ref a) (.list ds) ∧ ∃ bs, ReadAtMost h (PyData.depthAll ds) bs ∧ a ∉ bs ∧ ReprAllK X.prog X.w bs h (PyData.depthAll ds) us (PyData.shownAll ds) := by
  obtain ⟨⟨as, ra⟩, bs, hb, hk⟩ := k
  have r : Reads h (.ref a) (.list ds) (a :: as) := .list h1 h2 h3 (by simpa using ra)
  have hn : a ∉ bs := not_mem_of_deeper r (by simp only [PyData.depth]; omega) hb
  refine ⟨⟨⟨_, r⟩, a :: bs, ReadAtMost.cons r (by simp only [PyData.depth]; omega) hb, ?_⟩, bs, hb, hn, hk⟩
  simp only [PyData.depth, PyData.shown]
  cases us with
  | nil =>
    cases ra
    simp only [PyData.shownAll, listText_nil]
    exact ReprK.listEmpty h1 h2 h3
  | cons x l => exact ReprK.list h1 h2 h3 hn (by simpa using hk.length_eq) (fun i y e => hk.item i y (by simpa using e))
theorem shn_tup {h : Heap} {a : Addr} {o : Obj} {us : List Value} {n : Nat} {ds : List PyData} (h1 : h.get? a = some o) (h2 : o.cls = .type "tuple") (h3 : o.data = .seq us.toArray n) (k : Shns X h us ds) :
    Shn X h (.ref a) (.tuple ds) ∧ ∃ bs, ReadAtMost h (PyData.depthAll ds) bs ∧ a ∉ bs ∧ ReprAllK X.prog X.w bs h (PyData.depthAll ds) us (PyData.shownAll ds) := by
  obtain ⟨⟨as, ra⟩, bs, hb, hk⟩ := k
  have r : Reads h (.ref a) (.tuple ds) as := .tuple h1 h2 h3 (by simpa using ra)
  have hn : a ∉ bs := not_mem_of_deeper r (by simp only [PyData.depth]; omega) hb
  refine ⟨⟨⟨_, r⟩, a :: bs, ReadAtMost.cons r (by simp only [PyData.depth]; omega) hb, ?_⟩, bs, hb, hn, hk⟩
  simp only [PyData.depth, PyData.shown]
  exact ReprK.tuple h1 h2 h3 hn (by simpa using hk)
theorem shn_dict {h : Heap} {a : Addr} {o : Obj} {es : Array DictEntry} {n : Nat} {kvs : List (PyData × PyData)} (h1 : h.get? a = some o) (h2 : o.cls = .type "dict") (h3 : o.data = .dict es n) (hs : (a == sysModules) = false)
    (k1 : Shns X h (es.toList.map (fun e => e.key)) (kvs.map (fun p => p.1))) (k2 : Shns X h (es.toList.map (fun e => e.val)) (kvs.map (fun p => p.2))) :
    Shn X h (.ref a) (.dict kvs) ∧ ∃ bs, ReadAtMost h (PyData.depthKv kvs) bs ∧ a ∉ bs ∧ ReprEntriesK X.prog X.w bs h (PyData.depthKv kvs) es.toList (PyData.shownKv kvs) := by
  obtain ⟨⟨as, ra⟩, bs, hb, hk⟩ := k1
  obtain ⟨⟨as2, ra2⟩, bs2, hb2, hk2⟩ := k2
  have r : Reads h (.ref a) (.dict kvs) (a :: as ++ as2) := .dict h1 h2 h3 ra ra2
  have hm : ReadAtMost h (PyData.depthKv kvs) (bs ++ bs2) := (hb.mono (PyData.depthAll_keys_le kvs)).append (hb2.mono (PyData.depthAll_vals_le kvs))
  have hn : a ∉ bs ++ bs2 := not_mem_of_deeper r (by simp only [PyData.depth]; omega) hm
  have he : ReprEntriesK X.prog X.w (bs ++ bs2) h (PyData.depthKv kvs) es.toList (PyData.shownKv kvs) := by
    rw [PyData.shownKv_eq]
    exact ReprEntriesK.of_two es.toList _ _ (hk.more_le (fun b z => List.mem_append_left _ z) (PyData.depthAll_keys_le kvs)) (hk2.more_le (fun b z => List.mem_append_right _ z) (PyData.depthAll_vals_le kvs))
  refine ⟨⟨⟨_, r⟩, a :: (bs ++ bs2), ReadAtMost.cons r (by simp only [PyData.depth]; omega) hm, ?_⟩, _, hm, hn, he⟩
  simp only [PyData.depth, PyData.shown]
  exact ReprK.dict h1 h2 h3 hs hn he
theorem shns_nil {h : Heap} : Shns X h [] [] := ⟨⟨_, .nil⟩, [], (fun _ z => nomatch z), .nil⟩
theorem shns_cons {h : Heap} {u : Value} {us : List Value} {d : PyData} {ds : List PyData} (k1 : Shn X h u d) (k2 : Shns X h us ds) : Shns X h (u :: us) (d :: ds) := by
  obtain ⟨⟨as, ra⟩, bs, hb, hk⟩ := k1
  obtain ⟨⟨as2, ra2⟩, bs2, hb2, hk2⟩ := k2
  refine ⟨⟨_, .cons ra ra2⟩, bs ++ bs2, ?_, ?_⟩
  · simp only [PyData.depthAll]
    exact (hb.mono (Nat.le_max_left _ _)).append (hb2.mono (Nat.le_max_right _ _))
  · simp only [PyData.depthAll, PyData.shownAll]
    exact .cons ((hk.more fun b z => List.mem_append_left _ z).level_le (Nat.le_max_left _ _)) (hk2.more_le (fun b z => List.mem_append_right _ z) (Nat.le_max_right _ _))
/-- the limits, going down -/
def lim (d : PyData) : Prop := d.showable = true ∧ d.shown.length ≤ sizeLine
def lims (ds : List PyData) : Prop := ∀ d ∈ ds, lim d
theorem mem_shownAll {ds : List PyData} : ∀ {d : PyData}, d ∈ ds → d.shown ∈ PyData.shownAll ds := by
  induction ds with
  | nil => intro d h; cases h
  | cons e ds ih =>
    intro d h
    simp only [PyData.shownAll]
    rcases List.mem_cons.mp h with rfl | h
    · exact List.mem_cons_self
    · exact List.mem_cons_of_mem _ (ih h)
theorem mem_showable {ds : List PyData} : ∀ {d : PyData}, d ∈ ds → PyData.showableAll ds = true → d.showable = true := by
  induction ds with
  | nil => intro d h; cases h
  | cons e ds ih =>
    intro d h z
    simp only [PyData.showableAll, Bool.and_eq_true] at z
    rcases List.mem_cons.mp h with rfl | h
    · exact z.1
    · exact ih h z.2
theorem lims_list {ds : List PyData} (h : lim (.list ds)) : lims ds := fun d m => by
  obtain ⟨h1, h2⟩ := h
  simp only [PyData.showable, PyData.shown] at h1 h2
  exact ⟨mem_showable m h1, Nat.le_trans (listText_mem_le (mem_shownAll m)) h2⟩
theorem lims_tup {ds : List PyData} (h : lim (.tuple ds)) : lims ds := fun d m => by
  obtain ⟨h1, h2⟩ := h
  simp only [PyData.showable, PyData.shown] at h1 h2
  exact ⟨mem_showable m h1, Nat.le_trans (tupleText_mem_le (mem_shownAll m)) h2⟩
theorem lims_dict {kvs : List (PyData × PyData)} (h : lim (.dict kvs)) : lims (kvs.map (fun p => p.1)) ∧ lims (kvs.map (fun p => p.2)) := by
  obtain ⟨h1, h2⟩ := h
  simp only [PyData.showable, PyData.shown] at h1 h2
  obtain ⟨s1, s2⟩ := PyData.showableKv_split kvs h1
  refine ⟨fun d m => ⟨mem_showable m s1, ?_⟩, fun d m => ⟨mem_showable m s2, ?_⟩⟩
  · obtain ⟨p, hp, hl⟩ := PyData.shownKv_key_le kvs _ (mem_shownAll m)
    exact Nat.le_trans hl (Nat.le_trans (dictText_mem_le hp) h2)
  · obtain ⟨p, hp, hl⟩ := PyData.shownKv_val_le kvs _ (mem_shownAll m)
    exact Nat.le_trans hl (Nat.le_trans (dictText_mem_le hp) h2)
theorem keys_shn {P : Program} {w : World} {h : Heap} : ∀ {es : List DictEntry} {kvs : List (Key × Value)}, Pairs (mixKind P w) es kvs → lims (kvs.map fun p => keyPy p.1) → Shns X h (es.map (fun e => e.key)) (kvs.map fun p => keyPy p.1)
  | _, _, .nil, _ => shns_nil
  | _, _, .cons (e := e) (kv := kv) h1 h2 t, l => by
    have q := keys_shn (h := h) t fun d m => l d (List.mem_cons_of_mem _ m)
    have l0 := l (keyPy kv.1) List.mem_cons_self
    refine shns_cons ?_ q
    show Shn X h e.key (keyPy kv.1)
    rcases keyIs_shape h1 with ⟨i, u, e1, e2⟩ | ⟨x, u, e1, e2⟩
    · rw [e2]
      rw [e1] at l0 ⊢
      exact shn_flat (.int i u) (by simp only [PyData.shown]) (ReprIs.int u (by simpa [PyData.showable] using l0.1))
    · rw [e2]
      rw [e1] at l0 ⊢
      exact shn_flat (.str x u) (by simp only [PyData.shown]) (ReprIs.str x u (by simpa only [PyData.shown] using l0.2))

/-- where a value is shown at the top -/
def Top (X : Cx) (h : Heap) (u : Value) (d : PyData) : Prop := Shn X h u d ∧ ∀ (A : Around) (E : Value → Shared → Prop) (s : Shared) (Q : Value → Shared → Prop), A.guards = some [] → A.units + (d.depth + 2) < cLine → s.heap = h →
  (∀ h' k tk, (∀ b o, s.heap.get? b = some o → h'.get? b = some o) → Q (.str d.shown k) { s with heap := h', toks := tk }) → wpAny (model X.prog X.w) A (PySem.call (.builtin "repr") [u]) Q E s
theorem top_list {h : Heap} {a : Addr} {o : Obj} {us : List Value} {n : Nat} {ds : List PyData} (h1 : h.get? a = some o) (h2 : o.cls = .type "list") (h3 : o.data = .seq us.toArray n) (k : Shns X h us ds) (l : lim (.list ds)) : Top X h (.ref a) (.list ds) := by
  obtain ⟨sh, bs, hb, hn, hk⟩ := shn_list h1 h2 h3 k
  refine ⟨sh, fun A E s Q hg hu e hQ => ?_⟩
  subst e
  have hz : (listText (PyData.shownAll ds)).length ≤ sizeLine := by simpa only [PyData.shown] using l.2
  simp only [PyData.depth] at hu
  simp only [PyData.shown] at hQ
  refine call_repr_slot (by omega) ⟨o, h1, h2⟩ F.slot_list_repr.toG ?_
  cases us with
  | nil =>
    have e2 : ds = [] := by
      obtain ⟨⟨as, ra⟩, _⟩ := k
      cases ra
      rfl
    subst e2
    simp only [PyData.shownAll, listText_nil] at hQ
    exact call_list_repr_empty ⟨o, h1, h2⟩ h1 h3 ⟨_, _, rfl, hQ s.heap _ _ fun _ _ e => e⟩
  | cons x l =>
    exact call_list_reprK h1 h2 h3 hn (by simpa using hk.length_eq) (fun i y e => hk.item i y (by simpa using e)) (A := A.in1) hg (fun b _ => Clear.nil b) (by show A.units + 1 + _ < cLine; omega) (fun _ _ e => e) (fun h' u tk hk => ⟨_, _, rfl, hQ h' u tk hk⟩) hz
theorem top_tup {h : Heap} {a : Addr} {o : Obj} {us : List Value} {n : Nat} {ds : List PyData} (h1 : h.get? a = some o) (h2 : o.cls = .type "tuple") (h3 : o.data = .seq us.toArray n) (k : Shns X h us ds) (l : lim (.tuple ds)) : Top X h (.ref a) (.tuple ds) := by
  obtain ⟨sh, bs, hb, hn, hk⟩ := shn_tup h1 h2 h3 k
  refine ⟨sh, fun A E s Q hg hu e hQ => ?_⟩
  subst e
  have hz : (tupleText (PyData.shownAll ds)).length ≤ sizeLine := by simpa only [PyData.shown] using l.2
  simp only [PyData.depth] at hu
  simp only [PyData.shown] at hQ
  refine call_repr_slot (by omega) ⟨o, h1, h2⟩ F.slot_tuple_repr ?_
  exact call_tuple_reprK h1 h2 h3 hn (by simpa using hk) (A := A.in1) hg (fun b _ => Clear.nil b) (by show A.units + 1 + _ < cLine; omega) (fun _ _ e => e) (fun h' u tk hk => ⟨_, _, rfl, hQ h' u tk hk⟩) hz
theorem top_dict {h : Heap} {a : Addr} {o : Obj} {es : Array DictEntry} {n : Nat} {kvs : List (PyData × PyData)} (h1 : h.get? a = some o) (h2 : o.cls = .type "dict") (h3 : o.data = .dict es n) (hs : (a == sysModules) = false)
    (k1 : Shns X h (es.toList.map (fun e => e.key)) (kvs.map (fun p => p.1))) (k2 : Shns X h (es.toList.map (fun e => e.val)) (kvs.map (fun p => p.2))) (l : lim (.dict kvs)) : Top X h (.ref a) (.dict kvs) := by
  obtain ⟨sh, bs, hb, hn, hk⟩ := shn_dict h1 h2 h3 hs k1 k2
  refine ⟨sh, fun A E s Q hg hu e hQ => ?_⟩
  subst e
  have hz : (dictText (PyData.shownKv kvs)).length ≤ sizeLine := by simpa only [PyData.shown] using l.2
  simp only [PyData.depth] at hu
  simp only [PyData.shown] at hQ
  refine call_repr_slot (by omega) ⟨o, h1, h2⟩ F.slot_dict_repr ?_
  exact call_dict_reprK h1 h2 h3 hs hn hk (A := A.in1) hg (fun b _ => Clear.nil b) (by show A.units + 1 + _ < cLine; omega) (fun _ _ e => e) (fun h' u tk hk => ⟨_, _, rfl, hQ h' u tk hk⟩) hz
theorem top_flat {h : Heap} {u : Value} {d : PyData} (sh : Shn X h u d) (c : ∀ (A : Around) (E : Value → Shared → Prop) (s : Shared) (Q : Value → Shared → Prop), (∀ k tk, Q (.str d.shown k) { s with toks := tk }) → wpAny (model X.prog X.w) A (PySem.call (.builtin "repr") [u]) Q E s) : Top X h u d :=
  ⟨sh, fun A E s Q _ _ e hQ => c A E s Q fun k tk => hQ s.heap k tk fun _ _ z => z⟩
/-- what stands where a read value stands -/
def Std (U : Wd) (G H : Hp) (v : V) (d : D) : Prop := match d with
  | .lst ds => ∃ a xs, v = .ref a ∧ H a = some (.lst xs) ∧ Reps U G xs ds
  | .dK ks ds => ∃ a xs, v = .ref a ∧ Rd H a (.dK (ks.zip xs)) ∧ ks.length = xs.length ∧ Reps U G xs ds
  | d => Rep U G v d
theorem Rd1.std (sub : Sub G H) {v : V} {d : D} (h : Rd1 U G H v d) (f : d.shw = true) : Std U G H v d := by
  cases d with
  | lst ds => exact rd_lst sub h
  | dK ks ds => exact rd_dK sub h
  | dT _ _ => cases f
  | obj _ _ _ => cases f
  | scr _ => cases f
  | _ =>
    rcases h with h | ⟨a, rfl, n⟩
    · exact h
    · exact n.elim
theorem mem_py {ds : List D} (h : lims (D.pys ds)) {d : D} {es : List D} (e : ds = d :: es) : lim d.py ∧ lims (D.pys es) := by
  subst e
  exact ⟨h _ List.mem_cons_self, fun x m => h x (List.mem_cons_of_mem _ m)⟩
mutual
theorem top_of (I : Inv X pins σ H s) (sub : Sub G H) (eU : U.K = X.K) : ∀ (d : D) (v : V) (u : Value), Std U G H v d → d.shw = true → lim d.py → RelV v u → Top X s.heap u d.py
  | .non, v, u, h, _, _, r => by
    cases (show Rep U G v .non from h)
    cases r
    exact top_flat (shn_flat .none (by simp only [D.py, PyData.shown]) ReprIs.none) fun A E s Q k => PySem.P.repr_of_none (by simpa only [D.py, PyData.shown] using k _ _)
  | .bl b, v, u, h, _, _, r => by
    cases (show Rep U G v (.bl b) from h)
    cases r
    exact top_flat (shn_flat (.bool b) (by simp only [D.py, PyData.shown]) (ReprIs.bool b)) fun A E s Q k => PySem.P.repr_of_bool (by simpa only [D.py, PyData.shown] using k _ _)
  | .int b, v, u, h, _, l, r => by
    cases (show Rep U G v (.int b) from h)
    obtain ⟨t, rfl⟩ := r
    have h1 : b.natAbs.log2 < 1920 := by simpa [D.py, PyData.showable] using l.1
    exact top_flat (shn_flat (.int b t) (by simp only [D.py, PyData.shown]) (ReprIs.int t h1)) fun A E s Q k => PySem.P.repr_of_int h1 (by simpa only [D.py, PyData.shown] using k _ _)
  | .str b, v, u, h, _, l, r => by
    cases (show Rep U G v (.str b) from h)
    obtain ⟨t, rfl⟩ := r
    have h1 : (reprText b).length ≤ sizeLine := by simpa only [D.py, PyData.shown] using l.2
    exact top_flat (shn_flat (.str b t) (by simp only [D.py, PyData.shown]) (ReprIs.str b t h1)) fun A E s Q k => PySem.P.repr_of_str (by simpa only [D.py, PyData.shown] using k _ _) h1
  | .tup ds, v, u, h, f, l, r => by
    cases (show Rep U G v (.tup ds) from h) with
    | tup hs hr =>
      cases r
      rw [eU] at hs
      obtain ⟨its, rv, ⟨o, ho, hc, n, hd⟩, _⟩ := I.tuple (SqT.sub sub hs)
      exact top_tup ho hc hd (shns_of I sub eU ds _ its hr f (lims_tup l) rv) l
  | .lst ds, v, u, h, f, l, r => by
    obtain ⟨a, xs, rfl, hs, hr⟩ := (show ∃ a xs, v = .ref a ∧ H a = some (.lst xs) ∧ Reps U G xs ds from h)
    cases r
    obtain ⟨its, n, rv, ho, _⟩ := I.lst hs
    exact top_list ho rfl rfl (shns_of I sub eU ds _ its hr f (lims_list l) rv) l
  | .dK ks ds, v, u, h, f, l, r => by
    obtain ⟨a, xs, rfl, hs, hl, hr⟩ := (show ∃ a xs, v = .ref a ∧ Rd H a (.dK (ks.zip xs)) ∧ ks.length = xs.length ∧ Reps U G xs ds from h)
    cases r
    obtain ⟨_, hsys, vs, kv, o, es, ep, ho, ex, hd, _, hp, _⟩ := (show ObjOk X.prog X.w H s.heap a (.dK (ks.zip xs)) from hs.ok I.hok)
    obtain ⟨e1, rv⟩ := kv_zip kv hl
    have ld := lims_dict (kvs := (ks.map keyPy).zip (D.pys ds)) l
    have lz : (ks.map keyPy).length = (D.pys ds).length := by rw [List.length_map, pys_len, ← hr.length, hl]
    rw [zip_fst _ _ lz, zip_snd _ _ lz] at ld
    have ek : vs.map (fun p => keyPy p.1) = ks.map keyPy := by
      rw [← e1, List.map_map]
      rfl
    have k1 := keys_shn (X := X) (h := s.heap) hp (by rw [ek]; exact ld.1)
    have k2 := shns_of I sub eU ds _ _ hr f ld.2 rv
    refine top_dict (kvs := (ks.map keyPy).zip (D.pys ds)) ho ex.1 hd hsys ?_ ?_ l
    · rw [zip_fst _ _ lz, ← ek]
      exact k1
    · rw [zip_snd _ _ lz, pairs_vals hp]
      exact k2
  | .dT _ _, _, _, _, f, _, _ => by cases f
  | .obj _ _ _, _, _, _, f, _, _ => by cases f
  | .scr _, _, _, _, f, _, _ => by cases f
theorem shns_of (I : Inv X pins σ H s) (sub : Sub G H) (eU : U.K = X.K) : ∀ (ds : List D) (vs : List V) (us : List Value), Reps U G vs ds → D.shws ds = true → lims (D.pys ds) → Vals vs us → Shns X s.heap us (D.pys ds)
  | [], _, _, h, _, _, r => by
    cases h
    cases r
    exact shns_nil
  | d :: ds, _, _, h, f, l, r => by
    cases h with
    | cons h hs =>
      obtain ⟨u, us, rfl, ru, rs⟩ := Vals.of_cons r
      have f' : (d.shw && D.shws ds) = true := f
      rw [Bool.and_eq_true] at f'
      obtain ⟨l1, l2⟩ := mem_py l rfl
      exact shns_cons (top_of I sub eU d _ _ (Rd1.std sub (.inl h) f'.1) f'.1 l1 ru).1 (shns_of I sub eU ds _ us hs f'.2 l2 rs)
end
theorem rok_lim {d : D} (h : d.rok = true) : d.shw = true ∧ lim d.py ∧ d.py.depth ≤ 60 := by
  unfold D.rok at h
  simp only [Bool.and_eq_true, decide_eq_true_eq] at h
  obtain ⟨⟨⟨⟨h1, h2⟩, h3⟩, h4⟩, h5⟩ := h
  refine ⟨h1, ⟨h2, ?_⟩, h5⟩
  have e := PyData.shown_le 110 (by omega) _ h3
  have e2 : (110 + 2) * d.py.weight ≤ 112 * 100000 := Nat.mul_le_mul (by omega) h4
  rw [sizeLine_eq]
  omega
end
def rRepr (U : Wd) : List V → Hp → VK → Prop := fun vs H Q => ∃ (x : V) (d : D) (G : Hp), vs = [x] ∧ Sub G H ∧ Rd1 U G H x d ∧ d.rok = true ∧ Q (.str d.rpr) H
theorem cr_repr {X : Cx} {U : Wd} (eU : U.K = X.K) (hg : X.A.guards = some []) (hu : X.A.units + 64 < cLine) : CallR X (.builtin "repr") (rRepr U) := by
  intro pins s σ H xs us Q I r h
  obtain ⟨x, d, G, rfl, sub, h1, h2, q⟩ := h
  obtain ⟨u, us, rfl, ru, rs⟩ := Vals.of_cons r
  cases rs
  obtain ⟨f, l, dp⟩ := rok_lim h2
  refine (top_of I sub eU d x u (Rd1.std sub h1 f) f l ru).2 X.A _ s _ hg (by omega) rfl fun h' k tk hk => ?_
  exact ⟨.str d.rpr, H, I.kept hk, ⟨k, rfl⟩, q⟩
theorem b_repr {U : Wd} {G H : Hp} {x : V} {d1 : D} {v : Val} {Q : V → Hp → Prop} (e : bRepr d1 = some v) (s : Sub G H) (h1 : Rd1 U G H x d1) (k : KQ U G H v Q) : rRepr U [x] H Q := by
  unfold bRepr at e
  split at e
  · rename_i h
    cases e
    exact ⟨x, d1, G, rfl, s, h1, h, k.str s⟩
  · cases e
end Mp

set_option Elab.async false
set_option linter.all false
set_option maxRecDepth 100000
set_option maxHeartbeats 4000000
/-! Mp, part 8: when a text of Python is one of the small language; what is known where it runs. -/
namespace Mp
open PySem PySem.Spec PyProof.Rows L2

/-- the def's names by slot; the names that are defs; the built-in names that nothing hides -/
structure Gd where
  N : List Str
  fns : Str → Bool
  bn : List Str
  exs : Str → Bool
  cm : Bool
  own : Str → Bool

def rcvB : Expr → Bool
  | .Name .. => true
  | .Attribute .. => true
  | .Subscript .. => true
  | .Call _ (_ :: _) _ _ => true
  | _ => false
def inB : Bool → CmpOp → Bool
  | true, .NotIn => true
  | false, .In => true
  | _, _ => false
def nostar : Expr → Bool
  | .Starred .. => false
  | _ => true
def noifx : Expr → Bool
  | .IfExp .. => false
  | _ => true
def noset : Expr → Bool
  | .Set .. => false
  | _ => true
def plainI : Expr → Bool
  | .Slice .. => false
  | _ => true
def nocomp : Expr → Bool
  | .ListComp .. => false
  | .SetComp .. => false
  | .DictComp .. => false
  | _ => true
def glB (sc : Scope) (x : Str) : Bool := decide (sc.names.lookup x = some .globalImplicit) && !(x == "__debug__") && !(x == "__name__")
def visB (sc : Scope) (x : Str) : Bool := (decide (sc.names.lookup x = some .local) || decide (sc.names.lookup x = some .cell) || decide (sc.names.lookup x = some .free)) && !(x == "__debug__") && !(x == "__classdict__")
def locB (sc : Scope) (x : Str) : Bool := decide (sc.names.lookup x = some .local) || decide (sc.names.lookup x = some .cell)
def biN (gd : Gd) (sc : Scope) (x y : Str) : Bool := decide (x = y) && glB sc x && gd.bn.any (· == x)

def all2 {α β : Type} (c : α → β → Bool) : List α → List β → Bool
  | [], [] => true
  | a :: as, b :: bs => c a b && all2 c as bs
  | _, _ => false

def cmpB : BI → CmpOp → Bool
  | .eq, .Eq => true
  | .ne, .NotEq => true
  | .lt, .Lt => true
  | .le, .LtE => true
  | .gt, .Gt => true
  | .ge, .GtE => true
  | .in_, .In => true
  | .notin, .NotIn => true
  | _, _ => false
def binB : BI → Operator → Bool
  | .add, .Add => true
  | .sub, .Sub => true
  | .mul, .Mult => true
  | .mod, .Mod => true
  | .fdiv, .FloorDiv => true
  | .pow, .Pow => true
  | _, _ => false
/-- built-in functions and classes of one argument, by their names -/
def fn1 : BI → Option (Str × Bool)
  | .len => some ("len", false)
  | .abs => some ("abs", false)
  | .int => some ("int", true)
  | .list => some ("list", true)
  | .tuple => some ("tuple", true)
  | .all => some ("all", false)
  | .any => some ("any", false)
  | .sum => some ("sum", false)
  | .repr => some ("repr", false)
  | _ => none
def isOpB : BI → CmpOp → Expr → Bool
  | .isN, .Is, .Constant .none _ _ => true
  | .notN, .IsNot, .Constant .none _ _ => true
  | .isF, .Is, .Constant (.bool false) _ _ => true
  | .notF, .IsNot, .Constant (.bool false) _ _ => true
  | .isT, .Is, .Constant (.bool true) _ _ => true
  | .notT, .IsNot, .Constant (.bool true) _ _ => true
  | _, _, _ => false
def chkBI0 (gd : Gd) (sc : Scope) (c : ME → Expr → Bool) (b : BI) (ms : List ME) (e : Expr) : Bool := match ms, e with
  | [m1, m2], .BinOp x op y _ => binB b op && c m1 x && c m2 y
  | [m1], .UnaryOp .USub x _ => decide (b = .neg) && c m1 x
  | [m1, m2], .Compare x [op] [y] _ => cmpB b op && noset y && c m1 x && c m2 y
  | [m1], .Compare x [op] [y] _ => isOpB b op y && c m1 x
  | [m1], .Subscript x (.Slice none none (some (.UnaryOp .USub (.Constant (.int i) _ _) _)) _) _ => decide (b = .rev) && decide (i = 1) && c m1 x
  | [m1, m2], .Subscript x y _ => decide (b = .item) && plainI y && c m1 x && c m2 y
  | [m1], .Call (.Name f _) [x] [] _ => nostar x && gd.cm && c m1 x && (match fn1 b with
    | some (g, _) => biN gd sc f g
    | none => false)
  | [m1], .Call (.Name f _) [x, .Name T _] [] _ => nostar x && c m1 x && biN gd sc f "isinstance" && glB sc T && gd.bn.any (· == T) && (match b with
    | .isi t => decide (T = Str.ofString t) && ["int", "bool", "str", "tuple", "list", "dict"].any (· == t)
    | _ => false)
  | _, _ => false
/-- the built-ins by their numbers -/
def chkC (gd : Gd) (sc : Scope) (c : ME → Expr → Bool) (k : Nat) (ms : List ME) (e : Expr) : Bool := match k, ms, e with
  | 0, [m], .Call (.Name f _) [.Call (.Name g _) [x] [] _] [] _ => gd.cm && biN gd sc f "sorted" && biN gd sc g "set" && nostar x && c m x
  | 1, [m, m2], .Call (.Name f _) [x, y] [] _ => gd.cm && biN gd sc f "max" && nostar x && nostar y && c m x && c m2 y
  | 2, [m, m2], .Call (.Name f _) [x, y] [] _ => gd.cm && biN gd sc f "min" && nostar x && nostar y && c m x && c m2 y
  | 3, [m], .Call (.Name f _) [x] [] _ => gd.cm && biN gd sc f "max" && nostar x && c m x
  | 4, [m], .Call (.Name f _) [x] [] _ => gd.cm && biN gd sc f "min" && nostar x && c m x
  | 5, [m], .Call (.Name f _) [x] [] _ => gd.cm && biN gd sc f "sorted" && nostar x && c m x
  | _, _, _ => false
def chkFld (c : ME → Expr → Bool) (f : Str) (ms : List ME) (e : Expr) : Bool := match ms, e with
  | [m], .Attribute x g _ => decide (f = g) && rcvB x && c m x
  | _, _ => false
def chkIsc (gd : Gd) (sc : Scope) (c : ME → Expr → Bool) (C : Str) (ms : List ME) (e : Expr) : Bool := match ms, e with
  | [m], .Call (.Name f _) [x, .Name T _] [] _ => decide (T = C) && gd.own C && glB sc T && biN gd sc f "isinstance" && nostar x && c m x
  | _, _ => false
def chkBI (gd : Gd) (sc : Scope) (c : ME → Expr → Bool) (b : BI) (ms : List ME) (e : Expr) : Bool := match b with
  | .cmp k => chkC gd sc c k ms e
  | .fld f => chkFld c f ms e
  | .isc C => chkIsc gd sc c C ms e
  | b => chkBI0 gd sc c b ms e
def nmB (p : Bool) (gd : Gd) (sc : Scope) (i : Nat) : Expr → Bool
  | .Name x _ => decide (gd.N[i]? = some x) && (decide (sc.names.lookup x = some .local) || (p && decide (sc.names.lookup x = some .cell)))
  | _ => false
def chkTg (p : Bool) (gd : Gd) (sc : Scope) : Tg → Expr → Bool
  | .nm i, e => nmB p gd sc i e
  | .tp is, .Tuple es _ _ => all2 (nmB p gd sc) is es
  | _, _ => false
/-- what is walked -/
def chkIt (gd : Gd) (sc : Scope) (c : ME → Expr → Bool) (ik : Nat) (ms : List ME) (tg e : Expr) : Bool := match ik, ms, e with
  | 0, [m], e => c m e && noset e
  | 1, [m], .Call (.Name f _) [x] [] _ => biN gd sc f "range" && nostar x && c m x
  | 2, [m, m2], .Call (.Name f _) [x, y] [] _ => biN gd sc f "range" && nostar x && nostar y && c m x && c m2 y
  | 3, [m], .Call (.Name f _) [x] [] _ => biN gd sc f "enumerate" && nostar x && c m x && (match tg with | .Tuple .. => true | _ => false)
  | 4, [m, m2], .Call (.Name f _) [x, y] [] _ => biN gd sc f "zip" && nostar x && nostar y && c m x && c m2 y && (match tg with | .Tuple .. => true | _ => false)
  | _, _, _ => false
/-- a block's own names with their slots -/
def ownN (N : List Str) (is : List Nat) : List (Str × Nat) := is.filterMap fun i => (N[i]?).map fun x => (x, i)

def chkO (c : ME → Expr → Bool) : Option ME → Option Expr → Bool
  | none, none => true
  | some m, some e => c m e
  | _, _ => false
def chkCs (c : ME → Expr → Bool) : List ME → List Expr → Bool
  | [], [] => true
  | [m], [y] => noifx y && c m y
  | _, _ => false
/-- a later clause -/
def clB (gd : Gd) (sc : Scope) (c : ME → Expr → Bool) (m : MCl) (g : Comprehension) : Bool := decide (g.is_async = 0) && chkTg false gd sc m.1 g.target && chkIt gd sc c m.2.1 m.2.2.1 g.target g.iter && chkCs c m.2.2.2 g.ifs
def chkN (gd : Gd) (sc : Scope) (c : Scope → ME → Expr → Bool) (cl : List MCl) (elt : ME) (e : Expr) : Bool := match cl, e with
  | (tg, ik, its, cs) :: rest, .ListComp x (⟨t, it, ifs, 0⟩ :: gs) scope _ => gd.cm && chkTg false gd (relS scope sc) tg t && chkIt gd sc (c sc) ik its t it && blkC gd.N sc scope (ownN gd.N (slotsN cl)) && decide ((ownN gd.N (slotsN cl)).map (·.2) = slotsN cl) &&
        chkCs (c (relS scope sc)) cs ifs && all2 (clB gd (relS scope sc) (c (relS scope sc))) rest gs && c (relS scope sc) elt x
  | _, _ => false
def chkE (gd : Gd) : Nat → Scope → ME → Expr → Bool
  | 0, _, _, _ => false
  | n + 1, sc, m, e => match m, e with
    | .var i, .Name x _ => decide (gd.N[i]? = some x) && visB sc x
    | .cst d, .Constant c _ _ => (match d, c with
      | .int i, .int j => decide (i = j)
      | .str x, .str y => decide (x = y)
      | .bl x, .bool y => x == y
      | .non, .none => true
      | _, _ => false)
    | .glo x, .Name y _ => decide (x = y) && glB sc x
    | .bi b ms, e => chkBI gd sc (chkE gd n sc) b ms e
    | .chain o1 o2 a b c, .Compare x [p, q] [y, z] _ => cmpB o1 p && cmpB o2 q && noset y && noset z && chkE gd n sc a x && chkE gd n sc b y && chkE gd n sc c z
    | .slc a lo hi, .Subscript x (.Slice l h none _) _ => chkE gd n sc a x && chkO (chkE gd n sc) lo l && chkO (chkE gd n sc) hi h
    | .and_ a b, .BoolOp .And (x :: y :: r) pos => noifx x && chkE gd n sc a x && (match r with
      | [] => noifx y && chkE gd n sc b y
      | z :: r => chkE gd n sc b (.BoolOp .And (y :: z :: r) pos))
    | .or_ a b, .BoolOp .Or (x :: y :: r) pos => noifx x && chkE gd n sc a x && (match r with
      | [] => noifx y && chkE gd n sc b y
      | z :: r => chkE gd n sc b (.BoolOp .Or (y :: z :: r) pos))
    | .not_ a, .UnaryOp .Not x _ => noifx x && chkE gd n sc a x
    | .ife c a b, .IfExp x y z _ => noifx x && chkE gd n sc c x && chkE gd n sc a y && chkE gd n sc b z
    | .call f ms, .Call (.Name x _) es [] _ => decide (f = x) && gd.cm && glB sc x && gd.fns x && es.all nostar && all2 (chkE gd n sc) ms es
    | .callk f ks ms, .Call (.Name x _) [] kws _ => decide (f = x) && gd.cm && glB sc x && decide (kws.map (·.arg) = ks.map some) && all2 (chkE gd n sc) ms (kws.map (·.value))
    | .tup ms, .Tuple es _ _ => es.all nostar && all2 (chkE gd n sc) ms es
    | .lst ms, .List es _ => es.all nostar && all2 (chkE gd n sc) ms es
    | .dct0 _, .Dict [] [] _ => true
    | .comp tg elt ik its cs, .ListComp x [⟨t, it, ifs, 0⟩] scope _ => gd.cm && chkTg false gd (relS scope sc) tg t && chkIt gd sc (chkE gd n sc) ik its t it && blkC gd.N sc scope (ownN gd.N tg.slots) && decide ((ownN gd.N tg.slots).map (·.2) = tg.slots) && decide (tg.slots.Nodup) &&
        chkCs (chkE gd n (relS scope sc)) cs ifs && chkE gd n (relS scope sc) elt x
    | .compn cl elt, e => chkN gd sc (chkE gd n) cl elt e
    | .mth c m (m0 :: ms), .Call (.Attribute o g apos) es [] pos => decide (m = g) && gd.cm && rcvB o && es.all nostar && decide (es.length < 30) && (apos.endLine == pos.line) && chkE gd n sc m0 o && all2 (chkE gd n sc) ms es
    | .tapp a m0, .Call (.Attribute o g apos) [x] [] pos => decide (g = "append") && rcvB o && nostar x && (apos.endLine == pos.line) && chkE gd n sc a o && chkE gd n sc m0 x
    | .prp c m m0, .Attribute o g _ => decide (m = g) && gd.cm && rcvB o && chkE gd n sc m0 o
    | .new c ms, .Call (.Name x _) es [] _ => decide (c = x) && gd.cm && glB sc x && es.all nostar && all2 (chkE gd n sc) ms es
    | .inn neg c a b, .Compare x [op] [y] _ => gd.cm && inB neg op && noset y && chkE gd n sc a x && chkE gd n sc b y
    | .leno c m0, .Call (.Name f _) [x] [] _ => gd.cm && biN gd sc f "len" && nostar x && chkE gd n sc m0 x
    | .eqo c a b, .Compare x [.Eq] [y] _ => gd.cm && noset y && chkE gd n sc a x && chkE gd n sc b y
    | _, _ => false

/-! ### what is known -/
def argE (md : List Bool) (ds : List D) : En := List.zipWith (fun b d => if b = true then Slot.ow d else .fz d) md ds
/-- the changed parameters' new contents -/
def newD : List Bool → List D → List D → List D
  | true :: md, _ :: ds, o :: os => o :: newD md ds os
  | false :: md, d :: ds, os => d :: newD md ds os
  | _, _, _ => []
def nref (md : List Bool) : Nat := (md.filter id).length
/-- a def's promise, by its meaning -/
def spT (U : Wd) (md : List Bool) (sem : List D → RC) : Sp := fun vs H Q E => ∃ (G : Hp) (ds : List D), vs.length = md.length ∧ ds.length = md.length ∧ Rl U (argE md ds) (vs.map some) H G ∧
  match sem ds with
  | .bad => False
  | .exn e os => os.length = nref md ∧ ∀ cls d H' G', Rl U (argE md (newD md ds os)) (vs.map some) H' G' → Tr (argE md ds) (vs.map some) H G (argE md (newD md ds os)) (vs.map some) H' G' → ExR U H' G' cls d e → E cls d H'
  | .ok v os => os.length = nref md ∧ ∀ x H' G', Rl U (argE md (newD md ds os)) (vs.map some) H' G' → Tr (argE md ds) (vs.map some) H G (argE md (newD md ds os)) (vs.map some) H' G' →
      relV U v (argE md (newD md ds os)) (vs.map some) H G' H' x → Q x H'
structure FnE (X : Cx) (U : Wd) (T : Tbl) (k : Nat) (f : Str) : Prop where
  ex : ∃ (a : Addr) (fd : FuncData) (ps : List Str), X.mg f = some (.ref a) ∧ PySem.W.keepIn X.K (.ref a) = true ∧ Binds X.K fd ps [] ∧ ps.length = (T.md f).length ∧ FnG X.prog X.w X.K X.mg X.base k a fd ps (spT U (T.md f) (T.sem f))
/-- a call by keywords -/
structure KwE (X : Cx) (U : Wd) (T : Tbl) (k : Nat) (f : Str) (ks : List Str) (fill : List D → List D) : Prop where
  ex : ∃ (a : Addr) (fd : FuncData) (ps : List Str) (g : List Value → List Value → List Value) (gV : List V → List V → List V), X.mg f = some (.ref a) ∧ PySem.W.keepIn X.K (.ref a) = true ∧ KBn X.K fd ps 0 ks g gV ∧ (∀ (G : Hp) (zs : List V) (ds : List D), zs.length = ks.length → Reps U G zs ds → Reps U G (gV [] zs) (fill ds)) ∧ FnG X.prog X.w X.K X.mg X.base k a fd ps (spT U (T.md f) (T.sem f))
/-- a class of exceptions that is raised with a text -/
structure RaiseOk (K : Fg) (mg : Mg) (x : Str) : Prop where
  ex : ∃ (B newId initId : String) (bm : List Value) (C : Addr), ExcBaseFacts B newId initId bm ∧ PySem.W.excIn K C bm newId = true ∧ mg x = some (.ref C) ∧ PySem.W.keepIn K (.ref C) = true ∧ PySem.W.subIn K (.ref C) (.type "BaseException") = some true ∧ PySem.W.typeIn K (.ref C) = some (.type "type")
/-- a method, by its own class -/
structure MthE (X : Cx) (U : Wd) (T : Tbl) (k : Nat) (c m q : Str) : Prop where
  ex : ∃ (C a : Addr) (fd : FuncData) (ps : List Str), X.mg c = some (.ref C) ∧ Meth X.K C m a ∧ Binds X.K fd ps [] ∧ ps.length = (T.md q).length ∧ FnG X.prog X.w X.K X.mg X.base k a fd ps (spT U (T.md q) (T.sem q))
structure PrpE (X : Cx) (U : Wd) (T : Tbl) (k : Nat) (c m q : Str) : Prop where
  ex : ∃ (C p a : Addr) (fd : FuncData) (ps : List Str), X.mg c = some (.ref C) ∧ PropOf X.K C m p a ∧ Binds X.K fd ps [] ∧ ps.length = (T.md q).length ∧ FnG X.prog X.w X.K X.mg X.base k a fd ps (spT U (T.md q) (T.sem q))
def seven : List String := ["NoneType", "bool", "int", "str", "tuple", "list", "dict"]
structure OwnK (K : Fg) (mg : Mg) (c : Str) : Prop where
  ex : ∃ C : Addr, mg c = some (.ref C) ∧ (∀ t ∈ seven, PySem.W.kitOne K (.type t) (.ref C) = some false) ∧ PySem.W.kitOne K (.ref C) (.ref C) = some true
structure Cok (X : Cx) (U : Wd) (T : Tbl) (W : WX) (k : Nat) (gd : Gd) (sc : Scope) : Prop where
  eK : U.K = X.K
  em : U.mg = X.mg
  calm : gd.cm = true → X.calm = true
  nd : X.N.Nodup
  eN : X.N = gd.N
  gu : X.A.guards = some []
  room : gd.cm = true → Room (k + 1) X.A
  un : X.A.units + 200 < cLine
  tk : Takes X W
  sc : X.env.scope = sc
  fn : ∀ f, gd.fns f = true → FnE X U T k f
  bn : ∀ x ∈ gd.bn, X.mg x = none
  kw : ∀ f ks g, T.kw f ks = some g → KwE X U T k f ks g
  ix : ∀ c1 c2 b, T.isx c1 c2 = some b → ∃ C1 C2, X.mg c1 = some (.ref C1) ∧ X.mg c2 = some (.ref C2) ∧ PySem.W.exmOne X.K (.ref C1) (.ref C2) = some b
  rs : ∀ x, gd.exs x = true → RaiseOk X.K X.mg x
  gl : ∀ x d, T.gl x = some d → ∃ u v, X.mg x = some u ∧ RelV v u ∧ ∀ G, Rep U G v d
  mt : ∀ c m q, T.ct.mt c m = some q → MthE X U T k c m q
  pr : ∀ c m q, T.ct.pr c m = some q → PrpE X U T k c m q
  nw : ∀ c, T.ct.nw c = true → ∃ C, CO U c C [] ∧ PySem.W.makesIn X.K C = true ∧ PySem.W.keepIn X.K (.ref C) = true
  fl : ∀ c f C, T.ct.fld c f = true → X.mg c = some (.ref C) → NoAttr X.K C f
  ow : ∀ c, gd.own c = true → OwnK X.K X.mg c

section
variable {X : Cx} {U : Wd} {T : Tbl} {W : WX} {k : Nat} {gd : Gd} {sc : Scope}
theorem Cok.rm (c : Cok X U T W k gd sc) (h : gd.cm = true) : Room k X.A := (c.room h).mono (Nat.le_succ k)
theorem Cok.gl_ (c : Cok X U T W k gd sc) {x : Str} (h : glB sc x = true) : Gl X x ∧ (x == ("__debug__" : Str)) = false ∧ x ≠ "__name__" := by
  unfold glB at h
  simp only [Bool.and_eq_true, decide_eq_true_eq, Bool.not_eq_true', beq_eq_false_iff_ne] at h
  obtain ⟨⟨h1, h2⟩, h3⟩ := h
  refine ⟨?_, beq_eq_false_iff_ne.mpr h2, h3⟩
  show X.env.kindOf x = some .globalImplicit
  show X.env.scope.names.lookup x = some .globalImplicit
  rw [c.sc]
  exact h1
theorem Cok.vis (c : Cok X U T W k gd sc) {x : Str} (h : visB sc x = true) : Vis X.env.scope x ∧ (x == ("__debug__" : Str)) = false ∧ (x == ("__classdict__" : Str)) = false := by
  unfold visB at h
  simp only [Bool.and_eq_true, Bool.or_eq_true, decide_eq_true_eq, Bool.not_eq_true', beq_eq_false_iff_ne] at h
  obtain ⟨⟨h1, h2⟩, h3⟩ := h
  refine ⟨?_, beq_eq_false_iff_ne.mpr h2, beq_eq_false_iff_ne.mpr h3⟩
  rw [c.sc]
  rcases h1 with (h1 | h1) | h1
  · exact .inl h1
  · exact .inr (.inl h1)
  · exact .inr (.inr h1)
theorem Cok.bi (c : Cok X U T W k gd sc) {x y : Str} (h : biN gd sc x y = true) : x = y ∧ Gl X x ∧ X.mg x = none ∧ (x == ("__debug__" : Str)) = false ∧ x ≠ "__name__" := by
  unfold biN at h
  simp only [Bool.and_eq_true, decide_eq_true_eq, List.any_eq_true, beq_iff_eq] at h
  obtain ⟨⟨h1, h2⟩, z, h3, h4⟩ := h
  obtain ⟨g1, g2, g3⟩ := c.gl_ h2
  subst h4
  exact ⟨h1, g1, c.bn _ h3, g2, g3⟩
theorem star_cons {e : Expr} {es : List Expr} (env : Env) (h : nostar e = true) : starEach (e :: es) env = (false, eval e env) :: starEach es env := by
  cases e <;> first | rfl | cases h
theorem star_any {es : List Expr} (env : Env) (pos : Pos) (h : es.all nostar = true) : (backTo pos (starEach es env)).any (fun z => z.1) = false := by
  induction es with
  | nil => rfl
  | cons e es ih =>
    rw [List.all_cons, Bool.and_eq_true] at h
    rw [star_cons env h.1]
    show (false || (backTo pos (starEach es env)).any (fun z => z.1)) = false
    rw [ih h.2]
    rfl
end
end Mp

set_option Elab.async false
set_option linter.all false
set_option maxRecDepth 100000
set_option maxHeartbeats 4000000
/-! Mp, part C1: own classes over the abstract heap, where no text is being shown: properties, methods, making, in, len. -/
namespace Mp
open PySem PySem.Spec PyProof.Rows L2

theorem guards_in1 (A : Around) : A.in1.guards = A.guards := by
  first | rfl | (simp [Around.in1])
theorem guards_make (A : Around) (C : Addr) (us : List Value) (kw : List (Str × Value)) : (A.under (.builtin "type.__call__" ⟨.ref C :: us, kw⟩)).guards = A.guards := by
  first
    | rfl
    | (simp [Around.under, pushGuards, Code.guards, Code.isGuard]; cases A.guards <;> rfl)
    | (unfold Around.under; simp [pushGuards, Code.guards, Code.isGuard]; cases A.guards <;> simp)

section
variable {X : Cx} {k : Nat} {f C p g : Addr} {fd : FuncData} {ps : List Str} {sp : Sp} {E : L2.St → XK} {x m : Str} {np pos apos : Pos} {e o : Expr} {es : List Expr} {ta tb : TE} {t : TA}

theorem rcv_ok {o : Expr} {m : Str} {env : Env} {whole : Sem Value} (h : rcvB o = true) : attributeBase o m env whole = whole := by
  unfold rcvB at h
  split at h
  · rfl
  · rfl
  · rfl
  · unfold attributeBase
    split
    · rename_i q
      cases q
    · rfl
  · cases h
theorem mform {n : Nat} {env : Env} (h : es.all nostar = true) (hl : n < 30) : methodCallForm n (backTo pos (starEach es env)) (backToKw pos (keywordEach [] env)) = true := by
  have h1 : (backTo pos (starEach es env)).all (fun z => !z.1) = true := by
    have := star_any env pos h
    rw [List.any_eq_false] at this
    rw [List.all_eq_true]
    intro z hz
    have q := this z hz
    simpa using q
  have h2 : backToKw pos (keywordEach [] env) = [] := rfl
  unfold methodCallForm
  rw [h1, h2]
  simp
  exact hl
theorem mcall_any {env : Env} (hr : rcvB o = true) (h : es.all nostar = true) (hl : es.length < 30) (hp : (apos.endLine == pos.line) = true) :
    eval (.Call (.Attribute o m apos) es [] pos) env = (do
      let ov ← eval o env
      standAt apos.atName
      let (f, first) ← holding [ov] (getMethod ov m (do return (← importBound o env).getD true))
      callWith pos f first (backTo pos (starEach es env)) (backToKw pos (keywordEach [] env))) := by
  refine mcall_of (rcv_ok hr) fun ov => ?_
  unfold methodCall
  have h1 : methodCallForm (es.length + ([] : List Keyword).length) (backTo pos (starEach es env)) (backToKw pos (keywordEach [] env)) = true := mform h (by simpa using hl)
  have h2 : methodCallPos true o env apos pos = pure pos := by
    unfold methodCallPos
    rw [hp]
    rfl
  rw [h1, h2]
  simp only [pure_bind]
  rfl

/-! ### methods -/
def tMethG (X : Cx) (C : Addr) (m : Str) (sp : Sp) (E : L2.St → XK) (ta : TE) (t : TA) : TE := fun σ H Q => ta σ H fun x H1 => ∃ a dx fs, x = .ref a ∧ H1 a = some (.ins C dx fs) ∧ Cls X.K C ∧ fs.lookup m = none ∧ t σ H1 fun vs H2 => sp (x :: vs) H2 Q (E σ)
theorem pe_methG (he : PE X o ta) (hm : Meth X.K C m f) (F : FnG X.prog X.w X.K X.mg X.base k f fd ps sp) (hgd : X.A.guards = some []) (hr : Room k X.A) (hb : Binds X.K fd ps []) (hx : ∀ σ, PassesAt (L2.CX X.prog X.w) X σ (E σ)) (ha : PA X (e :: es) t)
    (hrc : rcvB o = true) (hs : (e :: es).all nostar = true) (hl : (e :: es).length < 30) (hp : (apos.endLine == pos.line) = true) : PE X (.Call (.Attribute o m apos) (e :: es) [] pos) (tMethG X C m sp E ta t) := by
  constructor
  intro pins s σ H Q I h
  refine PySem.W.methodCall_KW (pl := (do return (← importBound o X.env).getD true)) (thn (he.run pins s σ H _ I h) fun u s1 ⟨x, H1, I1, rx, a, dx, fs, ex, ea, c, l, q⟩ => ?_) (mcall_any hrc hs hl hp)
  subst ex
  cases rx
  refine getmeth_ok I1 ea c hm l ?_
  rw [List.all_cons, Bool.and_eq_true] at hs
  refine PySem.W.callWith_K (first := [.ref a]) (h₀ := X.base) I1.ok.mod.kin hm.kp (thn (ha.run pos pins s1 σ H1 _ I1 q) fun us s2 ⟨vs, H2, I2, r, q2⟩ => ⟨I2.kIn, ?_⟩) (star_cons _ hs.1) (star_any _ _ hs.2)
  exact runG (us := .ref a :: us) (vs := .ref a :: vs) F hgd hr hb (hx σ) I2 (.cons rfl r) q2
theorem pe_methG0 (he : PE X o ta) (hm : Meth X.K C m f) (F : FnG X.prog X.w X.K X.mg X.base k f fd ps sp) (hgd : X.A.guards = some []) (hr : Room k X.A) (hb : Binds X.K fd ps []) (hx : ∀ σ, PassesAt (L2.CX X.prog X.w) X σ (E σ))
    (hrc : rcvB o = true) (hp : (apos.endLine == pos.line) = true) : PE X (.Call (.Attribute o m apos) [] [] pos) (tMethG X C m sp E ta tNil) := by
  constructor
  intro pins s σ H Q I h
  refine PySem.W.methodCall_KW (pl := (do return (← importBound o X.env).getD true)) (thn (he.run pins s σ H _ I h) fun u s1 ⟨x, H1, I1, rx, a, dx, fs, ex, ea, c, l, q⟩ => ?_) (mcall_any hrc rfl (by simp) hp)
  subst ex
  cases rx
  refine getmeth_ok I1 ea c hm l ?_
  exact PySem.W.callWith_K0 (first := [.ref a]) I1.kIn hm.kp (runG (us := [.ref a]) (vs := [.ref a]) F hgd hr hb (hx σ) I1 (.cons rfl .nil) q)

/-! ### properties: their getters do not raise -/
def E0 : XK := fun _ _ _ => False
theorem passes0 {P : Program} {w : World} {outer : List Env} {H : Hp} {s s' : Shared} {e : Value} (h : L2.CX P w outer H s E0 e s') : False := by
  obtain ⟨_, _, _, _, _, _, _, _, _, _, _, _, z⟩ := h
  exact z
def tPropG (X : Cx) (C : Addr) (sp : Sp) (ta : TE) : TE := fun σ H Q => ta σ H fun x H1 => ∃ a dx fs, x = .ref a ∧ H1 a = some (.ins C dx fs) ∧ Cls X.K C ∧ sp [.ref a] H1 Q E0
theorem pe_propG (he : PE X e ta) (hp : PropOf X.K C m p g) (F : FnG X.prog X.w X.K X.mg X.base k g fd ps sp) (hgd : X.A.guards = some []) (hr : Room (k + 1) X.A) (hb : Binds X.K fd ps [])
    (hrc : rcvB e = true) : PE X (.Attribute e m pos) (tPropG X C sp ta) := by
  constructor
  intro pins s σ H Q I h
  refine attr_of (rcv_ok hrc) (thn (he.run pins s σ H _ I h) fun u s1 ⟨x, H1, I1, rx, a, dx, fs, ex, ea, c, q⟩ => ?_)
  subst ex
  cases rx
  obtain ⟨mA, O, _, _, _, _⟩ := ins_get I1.hok ea
  obtain ⟨od, J, _⟩ := O.look
  obtain ⟨rest, hrec⟩ := hp.rec_
  have I2 := I1.tok (s1.toks + 1)
  have hl : ([Value.ref a] ++ []).length = ps.length := by
    rw [← F.ln _ _ _ _ q]
    rfl
  have hc : (PySem.W.clsIn X.K C).isSome = true := by
    obtain ⟨cd, hc, _⟩ := PySem.W.any_some c.hd
    rw [hc]
    rfl
  refine PySem.W.get_bind I1.kIn J (PySem.W.plainGet_of (c.get m)).1 (PySem.W.findObj_data hc hp.at_ hp.get hp.tak) (PySem.W.plainGet_of (c.get m)).2 (wpAny_call (PySem.W.prop_get (s := { s1 with toks := s1.toks + 1 }) I1.kIn hrec ?_))
  refine codeAny_mono (F.go X.A.in1 X.stack { s1 with toks := s1.toks + 1 } H1 ⟨[.ref a], []⟩ [.ref a] [.ref a] Q E0 ((guards_in1 _).trans hgd) hr.in1 I2.env0.in1 (hb _ [.ref a] I2.kIn hl) (.cons rfl .nil) q) fun r s' hq => ?_
  cases r with
  | error er => exact False.elim (passes0 hq)
  | ok fl =>
    cases fl with
    | ret u =>
      obtain ⟨v, H', I3, rv, q3⟩ := I2.after hq
      show wpAny _ _ (handedOut u) _ _ _
      rw [PySem.W.handedOut_of (handed_of rv)]
      exact wpAny_pure ⟨v, H', I3, rv, q3⟩
    | next => exact False.elim hq
    | brk => exact False.elim hq
    | cont => exact False.elim hq

/-! ### making -/
def tMakeG (C : Addr) (sp : Sp) (E : L2.St → XK) (t : TA) : TE := fun σ H Q => t σ H fun vs H1 => ∀ x dx, H1 x = none → H1 dx = none → dx ≠ x →
  sp (.ref x :: vs) (upd (upd H1 dx (.own x)) x (.ins C dx [])) (fun v H2 => v = .non ∧ Q (.ref x) H2) (E σ)
theorem run_makeG {pins : List (Addr × Obj)} {σ : L2.St} {H : Hp} {s : Shared} {Q : VK} {us : List Value} {vs : List V} (M : Mk X.K C f) (F : FnG X.prog X.w X.K X.mg X.base k f fd ps sp) (hgd : X.A.guards = some []) (hr : Room (k + 1) X.A) (hb : Binds X.K fd ps [])
    (hx : PassesAt (L2.CX X.prog X.w) X σ (E σ)) (I : Inv X pins σ H s) (r : Vals vs us)
    (h : ∀ x dx, H x = none → H dx = none → dx ≠ x → sp (.ref x :: vs) (upd (upd H dx (.own x)) x (.ins C dx [])) (fun v H2 => v = .non ∧ Q (.ref x) H2) (E σ)) :
    wpAny (model X.prog X.w) X.A (PySem.call (.ref C) us) (EP X pins σ Q) X.xe s := by
  have hq := h (s.heap.objs.size + 1) s.heap.objs.size (I.hok.fresh (Nat.le_succ _)) (I.hok.fresh (Nat.le_refl _)) (Nat.ne_of_lt (Nat.lt_succ_self _))
  have I2 := Inv.made (C := C) I
  have r2 : Vals (V.ref (s.heap.objs.size + 1) :: vs) (Value.ref (s.heap.objs.size + 1) :: us) := .cons rfl r
  have hl : (Value.ref (s.heap.objs.size + 1) :: us ++ []).length = ps.length := by
    have e := r2.length
    rw [F.ln _ _ _ _ hq] at e
    rw [List.append_nil]
    exact e.symm
  have bd := hb { s with heap := (s.heap.push PySem.W.emptyDict).push (PySem.W.instObj C s.heap.objs.size) } (Value.ref (s.heap.objs.size + 1) :: us) I2.kIn hl
  rw [List.append_nil] at bd
  refine wpAny_call (make_map (f := f) I.kIn M.makes M.init (beq_iff_eq.mp M.fn) (codeAny_mono (F.go _ X.stack _ _ ⟨Value.ref (s.heap.objs.size + 1) :: us, []⟩ (Value.ref (s.heap.objs.size + 1) :: us) _ _ (E σ) ((guards_make _ _ _ _).trans hgd) (hr.make C us [])
    (I2.env0.make C us []) bd r2 hq) fun r s' hq' => ?_))
  cases r with
  | error e => exact hx pins _ _ e s' I2 hq'
  | ok fl =>
    cases fl with
    | ret u =>
      obtain ⟨v, H', I3, rv, ev, q3⟩ := I2.after hq'
      subst ev
      exact ⟨rv, ⟨V.ref (s.heap.objs.size + 1), H', I3, rfl, q3⟩⟩
    | next => exact False.elim hq'
    | brk => exact False.elim hq'
    | cont => exact False.elim hq'
theorem pe_makeG (M : Mk X.K C f) (F : FnG X.prog X.w X.K X.mg X.base k f fd ps sp) (hgd : X.A.guards = some []) (hr : Room (k + 1) X.A) (hg : Gl X x) (hm : X.mg x = some (.ref C)) (hb : Binds X.K fd ps []) (hx : ∀ σ, PassesAt (L2.CX X.prog X.w) X σ (E σ))
    (ha : PA X (e :: es) t) (hdb : (x == ("__debug__" : Str)) = false) (hs : (e :: es).all nostar = true) :
    PE X (.Call (.Name x np) (e :: es) [] pos) (tMakeG C sp E t) := by
  rw [List.all_cons, Bool.and_eq_true] at hs
  constructor
  intro pins s σ H Q I h
  refine wpAny_Call_Name_kw (ld_glob I hg hm ?_ hdb)
  refine PySem.W.callWith_K (h₀ := X.base) I.ok.mod.kin M.kp (thn (ha.run pos pins s σ H _ I h) fun us s1 ⟨vs, H1, I1, r, q⟩ => ⟨I1.kIn, ?_⟩) (star_cons _ hs.1) (star_any _ _ hs.2)
  exact run_makeG M F hgd hr hb (hx σ) I1 r q
theorem pe_makeG0 (M : Mk X.K C f) (F : FnG X.prog X.w X.K X.mg X.base k f fd ps sp) (hgd : X.A.guards = some []) (hr : Room (k + 1) X.A) (hg : Gl X x) (hm : X.mg x = some (.ref C)) (hb : Binds X.K fd ps []) (hx : ∀ σ, PassesAt (L2.CX X.prog X.w) X σ (E σ))
    (hdb : (x == ("__debug__" : Str)) = false) : PE X (.Call (.Name x np) [] [] pos) (tMakeG C sp E tNil) := by
  constructor
  intro pins s σ H Q I h
  refine wpAny_Call_Name_kw (ld_glob I hg hm ?_ hdb)
  exact PySem.W.callWith_K0 I.kIn M.kp (run_makeG (us := []) M F hgd hr hb (hx σ) I .nil h)

/-! ### x in o, x not in o, ==, len: they do not raise -/
theorem passesAt0 {Y : Cx} {σ : L2.St} : PassesAt (L2.CX X.prog X.w) Y σ E0 := fun pins H s e s' I h => False.elim (passes0 h)
def inOp (neg : Bool) : CmpOp := if neg then .NotIn else .In
def rInG (C : Addr) (neg : Bool) (sp : Sp) : R2 := fun y x H Q => ∃ a dx fs, x = .ref a ∧ H a = some (.ins C dx fs) ∧ sp [.ref a, y] H (fun v H3 => ∃ b, v = .bl b ∧ Q (.bl (if neg then !b else b)) H3) E0
theorem op_inG {neg : Bool} (hm : Meth X.K C "__contains__" f) (F : FnG X.prog X.w X.K X.mg X.base k f fd ps sp) (hgd : X.A.guards = some []) (hr : Room k X.A) (hb : Binds X.K fd ps []) : OpR X (compareOp (inOp neg)) (rInG C neg sp) := by
  intro pins s2 σ H2 y x v u Q I2 ry rx q
  obtain ⟨a, dx, fs, ex, ea, q⟩ := q
  subst ex
  cases rx
  obtain ⟨mA, O, _, _, _, _⟩ := ins_get I2.hok ea
  obtain ⟨od, J, _⟩ := O.look
  obtain ⟨m, hF⟩ := I2.fr
  have go := runG (E := fun _ => E0) (us := [.ref a, v]) (vs := [.ref a, y]) F hgd hr hb passesAt0 I2 (.cons rfl (.cons ry .nil)) q
  cases neg with
  | false =>
    refine PySem.W.in_K hF I2.ok.mod.kin J hm.at_ hm.fn (wpAny_mono go (fun r s' z => ?_) fun _ _ z => z)
    obtain ⟨w, H3, I3, rw_, b, eb, q3⟩ := z
    subst eb
    cases rw_
    exact wpAny_truthy_bool ⟨.bl b, H3, I3, rfl, q3⟩
  | true =>
    refine PySem.W.notIn_K hF I2.ok.mod.kin J hm.at_ hm.fn (wpAny_mono go (fun r s' z => ?_) fun _ _ z => z)
    obtain ⟨w, H3, I3, rw_, b, eb, q3⟩ := z
    subst eb
    cases rw_
    exact wpAny_truthy_bool ⟨.bl (!b), H3, I3, rfl, q3⟩
def rEqo (C : Addr) (sp : Sp) : R2 := fun x y H Q => ∃ a b dx dy fs gs, x = .ref a ∧ y = .ref b ∧ H a = some (.ins C dx fs) ∧ H b = some (.ins C dy gs) ∧ sp [.ref a, .ref b] H (fun v H3 => ∃ t, v = .bl t ∧ Q (.bl t) H3) E0
theorem op_eqo (hm : Meth X.K C "__eq__" f) (F : FnG X.prog X.w X.K X.mg X.base k f fd ps sp) (hgd : X.A.guards = some []) (hr : Room k X.A) (hb : Binds X.K fd ps []) : OpR X (compareOp .Eq) (rEqo C sp) := by
  intro pins s2 σ H2 x y v u Q I rx ry q
  obtain ⟨a, b, dx, dy, fs, gs, ex, ey, ea, eb, q⟩ := q
  subst ex ey
  cases rx
  cases ry
  obtain ⟨mA, O, _, _, _, _⟩ := ins_get I.hok ea
  obtain ⟨od, J, _⟩ := O.look
  obtain ⟨mB, O', _, _, _, _⟩ := ins_get I.hok eb
  obtain ⟨od', J', _⟩ := O'.look
  obtain ⟨m, hF⟩ := I.fr
  have go := runG (E := fun _ => E0) (us := [.ref a, .ref b]) (vs := [.ref a, .ref b]) F hgd hr hb passesAt0 I (.cons rfl (.cons rfl .nil)) q
  show wpAny _ _ (richCompare .Eq (.ref a) (.ref b)) _ _ _
  refine PySem.W.cmp_K (op := .Eq) (tb := .ref C) hr.units0 hF I.ok.mod.kin J J'.type (by simp [PySem.W.notFirst]) hm.at_ hm.fn (wpAny_mono go (fun r s' z => ?_) fun _ _ z => z)
  obtain ⟨w, H3, I3, rw_, t, et, q3⟩ := z
  subst et
  cases rw_
  exact ⟨.bl t, H3, I3, rfl, q3⟩
theorem cr_leno (hm : Meth X.K C "__len__" f) (F : FnG X.prog X.w X.K X.mg X.base k f fd ps sp) (hgd : X.A.guards = some []) (hr : Room (k + 1) X.A) (hb : Binds X.K fd ps []) :
    CallR X (.builtin "len") (fun xs H Q => ∃ a dx fs, xs = [.ref a] ∧ H a = some (.ins C dx fs) ∧ sp [.ref a] H (fun v H3 => ∃ n, v = .int n ∧ 0 ≤ n ∧ n < 2 ^ 63 ∧ Q (.int n) H3) E0) := by
  intro pins s σ H xs us Q I r h
  obtain ⟨a, dx, fs, rfl, ea, q⟩ := h
  obtain ⟨u, rfl, rx⟩ := vals1 r
  cases rx
  obtain ⟨mA, O, _, _, _, _⟩ := ins_get I.hok ea
  obtain ⟨od, J, _⟩ := O.look
  obtain ⟨m, hF⟩ := I.fr
  have hl : ([Value.ref a] ++ []).length = ps.length := by
    rw [← F.ln _ _ _ _ q]
    rfl
  refine PySem.W.len_K hF I.ok.mod.kin J hm.at_ hm.fn (wpAny_call ?_)
  refine codeAny_mono (F.go X.A.in1 X.stack s H ⟨[.ref a], []⟩ [.ref a] [.ref a] _ E0 ((guards_in1 _).trans hgd) hr.in1 I.env0.in1 (hb _ [.ref a] I.kIn hl) (.cons rfl .nil) q) fun r s' hq => ?_
  cases r with
  | error er => exact False.elim (passes0 hq)
  | ok fl =>
    cases fl with
    | ret u =>
      obtain ⟨v, H', I3, rv, n, ev, h0, h1, q3⟩ := I.after hq
      subst ev
      obtain ⟨t, rfl⟩ := rv
      exact ⟨⟨h0, h1⟩, .int n, H', I3.tok _, ⟨_, rfl⟩, q3⟩
    | next => exact False.elim hq
    | brk => exact False.elim hq
    | cont => exact False.elim hq
end
end Mp

set_option Elab.async false
set_option linter.all false
set_option maxRecDepth 100000
set_option maxHeartbeats 4000000
/-! Mp, part 9: freezing; names, operands, lists of them; the built-ins. -/
namespace Mp
open PySem PySem.Spec PyProof.Rows L2

section
variable {U : Wd} {σ : L2.St}
/-- what is not a slot's own goes to the frozen part -/
theorem Rl.freeze {r : En} {H G : Hp} {a : Addr} {o : HO} (rl : Rl U r σ H G) (hg : G a = none) (ho : H a = some o) (no : ¬ OwnAt r σ a) : Rl U r σ H (upd G a o) := by
  have sm : Same G (upd G a o) := same_new hg
  refine ⟨fun b u e => ?_, rl.len, fun i s q h1 h2 => ?_, rl.ap⟩
  · by_cases z : b = a
    · subst z
      rw [upd_same] at e
      cases e
      exact .inl ho
    · rw [upd_ne z] at e
      exact rl.sub b u e
  · have w := rl.at_ i s q h1 h2
    cases s with
    | un => trivial
    | fz d =>
      obtain ⟨v, e, h⟩ := w
      exact ⟨v, e, h.mono sm⟩
    | ow d =>
      obtain ⟨b, e, hb, n⟩ := w
      subst e
      have z : b ≠ a := fun z => no ⟨i, d, h1, by rw [← z]; exact h2⟩
      exact ⟨b, rfl, by rw [upd_ne z]; exact hb, n.mono sm rfl⟩
theorem relV_frz {r : En} {H H' G' : Hp} {v : Val} {x : V} (rl : Rl U r σ H' G') (h : relV U v r σ H G' H' x) :
    ∃ G2, Rl U r σ H' G2 ∧ Same G' G2 ∧ Rep U G2 x v.d ∧ ∀ b o, G2 b = some o → G' b = some o ∨ H b = none := by
  cases v with
  | fz d => exact ⟨G', rl, Same.refl _, h, fun _ _ e => .inl e⟩
  | ow d =>
    obtain ⟨a, rfl, h1, h2, h3, h4⟩ := h
    obtain ⟨o, ho, sm, rp⟩ := h3.freeze h2
    refine ⟨upd G' a o, rl.freeze h2 ho h4, sm, rp, fun b u e => ?_⟩
    by_cases z : b = a
    · subst z
      exact .inr h1
    · rw [upd_ne z] at e
      exact .inl e
theorem Tr.grow {r r' : En} {σ' : L2.St} {H G H' G' G2 : Hp} (t : Tr r σ H G r' σ' H' G') (sm : Same G' G2) (f : ∀ b o, G2 b = some o → G' b = some o ∨ H b = none) : Tr r σ H G r' σ' H' G2 :=
  ⟨t.g.trans sm, t.h, t.t, t.o, fun b o e => (f b o e).elim (fun z => t.f b o z) fun z => .inr (.inl z)⟩
theorem set_get {r : En} {i j : Nat} {s s' : Slot} (h : (r.set i s)[j]? = some s') : (j = i ∧ s' = s) ∨ (j ≠ i ∧ r[j]? = some s') := by
  rw [List.getElem?_set] at h
  by_cases e : i = j
  · subst e
    rw [if_pos rfl] at h
    by_cases l : i < r.length
    · rw [if_pos l] at h
      exact .inl ⟨rfl, (Option.some.inj h).symm⟩
    · rw [if_neg l] at h
      cases h
  · rw [if_neg e] at h
    exact .inr ⟨fun z => e z.symm, h⟩
theorem own_set {r : En} {i : Nat} {d : D} {a : Addr} (h : OwnAt (r.set i (.fz d)) σ a) : OwnAt r σ a := by
  obtain ⟨j, e, h1, h2⟩ := h
  rcases set_get h1 with ⟨_, z⟩ | ⟨_, z⟩
  · cases z
  · exact ⟨j, e, z, h2⟩
/-- an owned slot is frozen -/
theorem Rl.frzSlot {r : En} {H G : Hp} {i : Nat} {d : D} {a : Addr} (rl : Rl U r σ H G) (h1 : r[i]? = some (.ow d)) (h2 : σ[i]? = some (some (.ref a))) :
    ∃ G2, Rl U (r.set i (.fz d)) σ H G2 ∧ Tr r σ H G (r.set i (.fz d)) σ H G2 ∧ Rep U G2 (.ref a) d := by
  obtain ⟨b, e, hg, n⟩ := rl.at_ i _ _ h1 h2
  cases e
  obtain ⟨o, ho, sm, rp⟩ := n.freeze hg
  refine ⟨upd G a o, ⟨fun b u e => ?_, by rw [List.length_set]; exact rl.len, fun j s q g1 g2 => ?_, fun j l b d1 d2 ne g1 g2 g3 => ?_⟩, ⟨sm, fun _ _ h _ => h, fun _ o h => ⟨o, h⟩, fun b h => .inl (own_set h), fun b u e => ?_⟩, rp⟩
  · by_cases z : b = a
    · subst z
      rw [upd_same] at e
      cases e
      exact .inl ho
    · rw [upd_ne z] at e
      exact rl.sub b u e
  · rcases set_get g1 with ⟨rfl, rfl⟩ | ⟨ne, g1⟩
    · rw [h2] at g2
      cases g2
      exact ⟨_, rfl, rp⟩
    · have w := rl.at_ j s q g1 g2
      cases s with
      | un => trivial
      | fz e =>
        obtain ⟨v, e, h⟩ := w
        exact ⟨v, e, h.mono sm⟩
      | ow e =>
        obtain ⟨b, eb, hb, nb⟩ := w
        subst eb
        have z : b ≠ a := fun z => rl.ap j i b e d ne g1 h1 g2 (by rw [z]; exact h2)
        exact ⟨b, rfl, by rw [upd_ne z]; exact hb, nb.mono sm rfl⟩
  · rcases set_get g1 with ⟨_, z⟩ | ⟨_, g1⟩
    · cases z
    rcases set_get g2 with ⟨_, z⟩ | ⟨_, g2⟩
    · cases z
    exact rl.ap j l b d1 d2 ne g1 g2 g3
  · by_cases z : b = a
    · subst z
      exact .inr (.inr ⟨i, d, h1, h2⟩)
    · rw [upd_ne z] at e
      exact .inl e
end

section
variable {X : Cx} {U : Wd} {T : Tbl} {W : WX} {k : Nat} {gd : Gd} {sc : Scope} {f : ME → En → R Val}
theorem Rl.val {r : En} {σ : L2.St} {H G : Hp} (rl : Rl U r σ H G) {i : Nat} {s : Slot} (h : r[i]? = some s) : ∃ o, σ[i]? = some o := by
  have l : i < σ.length := by
    rw [← rl.len]
    exact (List.getElem?_eq_some_iff.mp h).1
  exact ⟨_, List.getElem?_eq_getElem l⟩
theorem snd_var (n : Nat) {i : Nat} {x : Str} {pos : Pos} (c : Cok X U T W k gd sc) (h : (decide (gd.N[i]? = some x) && visB sc x) = true) : PE X (.Name x pos) (Rg U W (relV U) (ev T (n + 1) (.var i))) := by
  rw [Bool.and_eq_true] at h
  obtain ⟨v1, v2, v3⟩ := c.vis h.2
  have hN : X.N[i]? = some x := by
    rw [c.eN]
    exact of_decide_eq_true h.1
  refine pe_imp (pe_var hN v1 v2 v3) fun σ H Q q => ?_
  obtain ⟨r, G, rl, q⟩ := q
  have q' : Cont U W (relV U) ((frz i r).bind fun d r1 => .ok (.fz d) r1) r σ H G Q := q
  unfold frz at q'
  cases e : r[i]? with
  | none => rw [e] at q'; exact q'.elim
  | some s =>
    rw [e] at q'
    obtain ⟨o, ho⟩ := rl.val e
    cases s with
    | un => exact False.elim q'
    | fz d =>
      obtain ⟨v, ev, rp⟩ := rl.at_ i _ _ e ho
      subst ev
      exact ⟨v, ho, q' v H G rl .refl rp⟩
    | ow d =>
      obtain ⟨a, ea, _⟩ := rl.at_ i _ _ e ho
      subst ea
      obtain ⟨G2, rl2, t2, rp⟩ := rl.frzSlot e ho
      exact ⟨_, ho, q' _ H G2 rl2 t2 rp⟩
theorem frzRg {m : ME} {σ : L2.St} {H : Hp} {Q : V → Hp → Prop} (q : Rg U W (relF U) (evF f m) σ H Q) : Rg U W (relV U) (f m) σ H Q := by
  obtain ⟨r, G, rl, q⟩ := q
  refine ⟨r, G, rl, ?_⟩
  have q' : Cont U W (relF U) ((f m r).bind fun v r1 => .ok v.d r1) r σ H G Q := q
  cases e : f m r with
  | bad => rw [e] at q'; exact q'
  | exn ex r' => rw [e] at q'; exact q'
  | ok v r' =>
    rw [e] at q'
    intro x H' G' rl' t rx
    obtain ⟨G2, rl2, sm, rp, ff⟩ := relV_frz rl' rx
    exact q' x H' G2 rl2 (t.grow sm ff) rp
theorem snd_F {m : ME} {e : Expr} (h : PE X e (Rg U W (relV U) (f m))) : PE X e (Rg U W (relF U) (evF f m)) := pe_imp h fun _ _ _ q => frzRg q
theorem evO_var {i : Nat} {r : En} : evO f (.var i) r = (match r[i]? with
    | some (.fz _) => .ok (.loc i) r
    | some (.ow _) => .ok (.loc i) r
    | _ => .bad) := rfl
/-- operands -/
theorem snd_O {n : Nat} {m : ME} {e : Expr} (c : Cok X U T W k gd sc) (h : PE X e (Rg U W (relV U) (f m))) (hc : chkE gd n sc m e = true) : PE X e (Rg U W (relO U) (evO f m)) := by
  by_cases hv : ∃ i, m = .var i
  · obtain ⟨i, rfl⟩ := hv
    cases n with
    | zero => cases hc
    | succ n =>
      cases e <;> first | cases hc; done | skip
      rename_i x pos
      have hc' : (decide (gd.N[i]? = some x) && visB sc x) = true := hc
      rw [Bool.and_eq_true] at hc'
      obtain ⟨v1, v2, v3⟩ := c.vis hc'.2
      have hN : X.N[i]? = some x := by
        rw [c.eN]
        exact of_decide_eq_true hc'.1
      refine pe_imp (pe_var hN v1 v2 v3) fun σ H Q q => ?_
      obtain ⟨r, G, rl, q⟩ := q
      rw [evO_var] at q
      cases e : r[i]? with
      | none => rw [e] at q; exact q.elim
      | some s =>
        rw [e] at q
        obtain ⟨o, ho⟩ := rl.val e
        cases s with
        | un => exact False.elim q
        | fz d =>
          obtain ⟨v, ev, rp⟩ := rl.at_ i _ _ e ho
          subst ev
          exact ⟨v, ho, q v H G rl .refl ho⟩
        | ow d =>
          obtain ⟨a, ea, _⟩ := rl.at_ i _ _ e ho
          subst ea
          exact ⟨_, ho, q _ H G rl .refl ho⟩
  · have e1 : ∀ r, evO f m r = (f m r).bind fun v r1 => .ok (.d v.d) r1 := fun r => by
      cases m <;> first | rfl | exact absurd ⟨_, rfl⟩ hv
    refine pe_imp h fun σ H Q q => ?_
    obtain ⟨r, G, rl, q⟩ := q
    rw [e1] at q
    refine ⟨r, G, rl, ?_⟩
    cases e : f m r with
    | bad => rw [e] at q; exact q
    | exn ex r' => rw [e] at q; exact q
    | ok v r' =>
      rw [e] at q
      intro x H' G' rl' t rx
      obtain ⟨G2, rl2, sm, rp, ff⟩ := relV_frz rl' rx
      exact q x H' G2 rl2 (t.grow sm ff) rp
theorem all2_len {α β : Type} {c : α → β → Bool} : ∀ {as : List α} {bs : List β}, all2 c as bs = true → as.length = bs.length
  | [], [], _ => rfl
  | a :: as, b :: bs, h => by
    have h' : (c a b && all2 c as bs) = true := h
    rw [Bool.and_eq_true] at h'
    exact congrArg (· + 1) (all2_len h'.2)
/-- lists of parts, as arguments -/
theorem snd_many {ι α : Type} {rel : Rel α V} {p : ι → En → R α} {ch : ι → Expr → Bool} (hp : ∀ m e, ch m e = true → PE X e (Rg U W rel (p m))) : ∀ {ms : List ι} {es : List Expr}, all2 ch ms es = true → es.all nostar = true → PA X es (tMany U W rel p ms)
  | [], [], _, _ => pa_nil
  | m :: ms, e :: es, h, s => by
    have h' : (ch m e && all2 ch ms es) = true := h
    rw [Bool.and_eq_true] at h'
    rw [List.all_cons, Bool.and_eq_true] at s
    exact pa_cons (hp m e h'.1) (snd_many hp h'.2 s.2) (star_cons _ s.1)

/-- the end of a built-in -/
theorem fin_bi {b : BI} {os : List Opn} {r : En} {σ : L2.St} {H0 H G : Hp} {xs : List V} {Q : V → Hp → Prop} (rl : Rl U r σ H G) (ro : relL (relO U) os r σ H0 G H xs) (q : Cont U W (relV U) (ofOpt ((rsvs r os).bind (bsem b)) r) r σ H G Q) :
    ∃ ds v, bsem b ds = some v ∧ Rd1s U G H xs ds ∧ KQ U G H v Q := by
  cases e : rsvs r os with
  | none => rw [e] at q; exact q.elim
  | some ds =>
    rw [e] at q
    have q' : Cont U W (relV U) (ofOpt (bsem b ds) r) r σ H G Q := q
    cases e2 : bsem b ds with
    | none => rw [e2] at q'; exact q'.elim
    | some v =>
      rw [e2] at q'
      exact ⟨ds, v, e2, rsvs_rd rl ro e, Cont.adv rl q'⟩
/-- two operands, then an operator -/
theorem two {n : Nat} {b : BI} {m1 m2 : ME} {σ : L2.St} {H : Hp} {Q : V → Hp → Prop} (q : Rg U W (relV U) (ev T (n + 1) (.bi b [m1, m2])) σ H Q) :
    Rg U W (relO U) (evO (ev T n) m1) σ H fun x H1 => Rg U W (relO U) (evO (ev T n) m2) σ H1 fun y H2 => ∃ G d1 d2 v, bsem b [d1, d2] = some v ∧ Sub G H2 ∧ Rd1 U G H2 x d1 ∧ Rd1 U G H2 y d2 ∧ KQ U G H2 v Q := by
  obtain ⟨r, G, rl, q⟩ := q
  have := many (rel1 := relO U) (p := evO (ev T n)) (pss_O U) (pst_V U) rl (show Cont U W (relV U) ((mapR (evO (ev T n)) [m1, m2] r).bind fun os r1 => ofOpt ((rsvs r1 os).bind (bsem b)) r1) r σ H G Q from q)
  obtain ⟨r1, G1, rl1, h1⟩ := this
  refine ⟨r1, G1, rl1, h1.imp fun x H1 h2 => ?_⟩
  obtain ⟨r2, G2, rl2, h3⟩ := h2
  refine ⟨r2, G2, rl2, h3.imp fun y H2 h4 => ?_⟩
  obtain ⟨as, r3, G3, rl3, t3, ro, h5⟩ := h4
  obtain ⟨ds, v, e, rd, kq⟩ := fin_bi rl3 ro h5
  cases rd with
  | cons a1 t1 =>
    cases t1 with
    | cons a2 t2 =>
      cases t2
      exact ⟨G3, _, _, v, e, rl3.sub, a1, a2, kq⟩
theorem one {n : Nat} {b : BI} {m1 : ME} {σ : L2.St} {H : Hp} {Q : V → Hp → Prop} (q : Rg U W (relV U) (ev T (n + 1) (.bi b [m1])) σ H Q) :
    Rg U W (relO U) (evO (ev T n) m1) σ H fun x H1 => ∃ G d1 v, bsem b [d1] = some v ∧ Sub G H1 ∧ Rd1 U G H1 x d1 ∧ KQ U G H1 v Q := by
  obtain ⟨r, G, rl, q⟩ := q
  have := many (rel1 := relO U) (p := evO (ev T n)) (pss_O U) (pst_V U) rl (show Cont U W (relV U) ((mapR (evO (ev T n)) [m1] r).bind fun os r1 => ofOpt ((rsvs r1 os).bind (bsem b)) r1) r σ H G Q from q)
  obtain ⟨r1, G1, rl1, h1⟩ := this
  refine ⟨r1, G1, rl1, h1.imp fun x H1 h4 => ?_⟩
  obtain ⟨as, r3, G3, rl3, t3, ro, h5⟩ := h4
  obtain ⟨ds, v, e, rd, kq⟩ := fin_bi rl3 ro h5
  cases rd with
  | cons a1 t1 =>
    cases t1
    exact ⟨G3, _, v, e, rl3.sub, a1, kq⟩
end
end Mp

set_option Elab.async false
set_option linter.all false
set_option maxRecDepth 100000
set_option maxHeartbeats 4000000
/-! Mp, part 10: xs[::-1] of a tuple. -/
namespace Mp
open PySem PySem.Spec PyProof.Rows L2
section
variable {prog : Program} {w : World} {A : Around} {E : Value → Shared → Prop} {s : Shared}
theorem applied_rev {sl : Addr} {vl vu vs : Value} {n : Nat} {Q : Int × Int × Nat → Shared → Prop} (hs : s.heap.IsSliceOf sl vl vu vs) (pl : IsPart vl none) (pu : IsPart vu none) (ps : IsPart vs (some (-1)))
    (h : Q ((n : Int) - 1, -1, n) s) : wpAny (model prog w) A (Builtin.Slice.sliceApplied (.ref sl) (pure (n : Int))) Q E s := by
  obtain ⟨os, ho, hc, hd⟩ := id hs
  cases pl
  cases pu
  unfold Builtin.Slice.sliceApplied Builtin.Slice.sliceFields
  apply wpAny_bind
  apply wpAny_bind
  apply wpAny_field ho hd (x := .none) rfl
  apply wpAny_bind
  apply wpAny_field ho hd (x := .none) rfl
  apply wpAny_bind
  apply wpAny_field ho hd (x := vs) rfl
  apply wpAny_pure
  apply wpAny_bind
  apply HT.slicePart_ ps
  show wpAny _ _ (if ((-1 : Int) == 0) = true then _ else _) _ _ s
  rw [if_neg (by decide)]
  apply wpAny_bind
  apply HT.slicePart_ .none
  apply wpAny_bind
  apply HT.slicePart_ .none
  apply wpAny_bind
  apply wpAny_pure
  have e : Builtin.Slice.sliceAdjust none none (-1) (n : Int) = ((n : Int) - 1, -1) := by
    unfold Builtin.Slice.sliceAdjust
    simp
  show wpAny _ _ (match Builtin.Slice.sliceAdjust none none (-1) (n : Int) with | (a, b) => pure (a, (-1 : Int), Builtin.Slice.slicePlaces a b (-1))) _ _ s
  rw [e]
  have e2 : Builtin.Slice.slicePlaces ((n : Int) - 1) (-1) (-1) = n := by
    unfold Builtin.Slice.slicePlaces
    simp
    split <;> omega
  show wpAny _ _ (pure ((n : Int) - 1, (-1 : Int), Builtin.Slice.slicePlaces ((n : Int) - 1) (-1) (-1))) _ _ s
  rw [e2]
  exact wpAny_pure h
theorem pick_rev (xs : Array Value) : ((List.range xs.size).filterMap fun (k : Nat) => xs[((xs.size : Int) - 1 + (k : Int) * (-1)).toNat]?).toArray = xs.toList.reverse.toArray := by
  have e : (List.range xs.size).filterMap (fun (k : Nat) => xs[((xs.size : Int) - 1 + (k : Int) * (-1)).toNat]?) = ((List.range xs.size).map fun k => xs.size - 1 - k).filterMap (fun j => xs[j]?) := by
    rw [List.filterMap_map]
    have all : ∀ (l : List Nat), (∀ k ∈ l, k < xs.size) → l.filterMap (fun (k : Nat) => xs[((xs.size : Int) - 1 + (k : Int) * (-1)).toNat]?) = l.filterMap ((fun (j : Nat) => xs[j]?) ∘ fun k => xs.size - 1 - k) := by
      intro l
      induction l with
      | nil => intro _; rfl
      | cons k l ih =>
        intro hk
        have k1 := hk k List.mem_cons_self
        have e0 : ((xs.size : Int) - 1 + (k : Int) * (-1)).toNat = xs.size - 1 - k := by omega
        have e1 : ((fun (j : Nat) => xs[j]?) ∘ fun k => xs.size - 1 - k) k = xs[((xs.size : Int) - 1 + (k : Int) * (-1)).toNat]? := by
          rw [e0]
          rfl
        rw [List.filterMap_cons, List.filterMap_cons, e1, ih fun z hz => hk z (List.mem_cons_of_mem _ hz)]
    exact all _ fun k hk => List.mem_range.mp hk
  rw [e, PySem.W.krv_range, List.filterMap_reverse, PySem.W.krv_all]
theorem item_tup_rev {t sl : Addr} {items : Array Value} {vl vu vs : Value} {Q : Value → Shared → Prop} (ht : IsTup s.heap t items) (hs : s.heap.IsSliceOf sl vl vu vs) (pl : IsPart vl none) (pu : IsPart vu none) (ps : IsPart vs (some (-1)))
    (h : Q (.ref s.heap.objs.size) { s with heap := s.heap.push { cls := .type "tuple", data := .seq items.toList.reverse.toArray } }) (hz : items.size ≤ sizeLine) : wpAny (model prog w) A (getItem (.ref t) (.ref sl)) Q E s := by
  have small : sizeOk (.seq items.toList.reverse.toArray) := by
    show items.toList.reverse.toArray.size ≤ sizeLine
    simp
    exact hz
  obtain ⟨os, ho, hc, hd⟩ := id hs
  have hT : s.TypeIs (.ref sl) "slice" := Exists.intro os (And.intro ho hc)
  unfold getItem
  try with_reducible refine wpAny_holding ?_
  first | refine wpAny_bind (wpAny_pure ?_) | skip
  apply wpAny_bind
  apply wpAny_sequenceKey ht.typeIs (by decide)
  apply wpAny_bind
  apply wpAny_callSpecial?_slot (name := Str.ofString "__getitem__") ht.typeIs PyProof.Rows.slot_tuple_getitem
  refine wpAny_call_entry PyProof.Rows.slot_tuple_getitem ht.typeIs entry_tuple_getitem ?_ (args_tuple_getitem _ _)
  show wpAny _ _ (Builtin.Tuple.tupleItemsOf (.ref t) >>= _) _ _ s
  apply wpAny_bind
  apply tupleItemsOf_ ht
  apply wpAny_bind
  apply wpAny_typeOf hT
  rw [if_pos (by decide)]
  apply wpAny_bind
  apply applied_rev hs pl pu ps
  show wpAny _ _ (if (((items.size : Int) - 1 == 0) && ((-1 : Int) == 1) && (items.size == items.size)) = true then _ else _) _ _ s
  rw [if_neg (by simp), pick_rev]
  first
    | exact wpAny_bind (m := Builtin.Tuple.tupleExact _) (wpAny_newObj_type (wpAny_pure (Exists.intro _ (And.intro rfl (wpAny_pure h)))) small)
    | exact wpAny_bind (m := Builtin.Tuple.tupleExact _) (wpAny_newObj_type (wpAny_bind (wpAny_pure (wpAny_pure (Exists.intro _ (And.intro rfl (wpAny_pure h)))))) small)
    | exact wpAny_bind (wpAny_bind (m := Builtin.Tuple.tupleExact _) (wpAny_newObj_type (wpAny_pure (wpAny_pure (Exists.intro _ (And.intro rfl (wpAny_pure h))))) small))
    | exact wpAny_bind (wpAny_bind (m := Builtin.Tuple.tupleExact _) (wpAny_newObj_type (wpAny_pure (Exists.intro _ (And.intro rfl (wpAny_pure h)))) small))
end
/-- the reversed row, of a list or a tuple -/
def tRev (K : Fg) (te : TE) : TE := fun σ H Q => te σ H fun x H1 => ∃ a xs, x = .ref a ∧ ((SqL K H1 a xs ∧ ∀ p, H1 p = none → Q (.ref p) (upd H1 p (.lst xs.reverse))) ∨ (SqT K H1 a xs ∧ ∀ p, H1 p = none → Q (.ref p) (upd H1 p (.tup xs.reverse))))
section
variable {X : Cx}
theorem pe_rev {e : Expr} {te : TE} {j : Nat} {p1 p2 p3 pos : Pos} (he : PE X e te) : PE X (.Subscript e (.Slice none none (some (.UnaryOp .USub (.Constant (.int 1) j p1) p2)) p3) pos) (tRev X.K te) := by
  constructor
  intro pins s σ H Q I h
  refine Subscript_ (thn (he.run pins s σ H _ I h) ?_)
  rintro v s1 ⟨x, H1, I1, r1, a, xs, rfl, q⟩
  cases r1
  have hst : PO X (some (.UnaryOp .USub (.Constant (.int 1) j p1) p2)) (tPart (tUn (rU fun i => .int (-i)) (tC (.int 1)))) := po_some (pe_un un_neg pe_int)
  refine wpAny_Slice (thn (po_none.run pins s1 σ H1 (fun o H2 => o = none ∧ H2 = H1) I1 (And.intro rfl rfl)) ?_)
  rintro vl s2 ⟨_, _, I2, pl, rfl, rfl⟩
  refine thn (po_none.run pins s2 σ _ (fun o H3 => o = none ∧ H3 = _) I2 (And.intro rfl rfl)) ?_
  rintro vu s3 ⟨_, _, I3, pu, rfl, rfl⟩
  refine thn (hst.run pins s3 σ _ (fun o H4 => o = some (-1) ∧ H4 = _) I3 ⟨1, rfl, -1, rfl, rfl, rfl⟩) ?_
  rintro vs s4 ⟨_, _, I4, ps, rfl, rfl⟩
  have I5 := Inv.kept (h' := s4.heap.push { cls := .type "slice", data := .fields #[vl, vu, vs] }) (t' := s4.toks) I4 (fun b ob q => Heap.get?_push_of_some _ q)
  show wpAny (model X.prog X.w) X.A (subscriptTail e (.Slice none none (some (.UnaryOp .USub (.Constant (.int 1) j p1) p2)) p3) (.ref a) (.ref s4.heap.objs.size)) (EP X pins σ Q) X.xe _
  rcases q with ⟨hx, q⟩ | ⟨hx, q⟩
  · obtain ⟨its, r, ht, hz⟩ := I5.list hx
    have hl := Vals.length r
    refine tail_any (ops := [.ref a, .ref s4.heap.objs.size]) ht.isList.typeIs (PySem.slot_list_getitem.lookup) ?_ (by with_unfolding_all rfl)
    refine wpAny_getItem_list_slice ht.isList (Heap.IsSliceOf.new _ vl vu vs) pl pu ps (by decide) ?_ (by rw [List.size_toArray]; omega)
    rw [PySem.W.krv_pick]
    refine ⟨.ref _, _, I5.laid (t' := s4.toks) (o := .lst xs.reverse) (fun b ob q => Heap.get?_push_of_some _ q) (Nat.le_refl _) ?_, rfl, q _ (I5.hok.fresh (Nat.le_refl _))⟩
    exact ⟨by simp; exact hz, _, 0, r.reverse, Heap.get?_push_size _ rfl⟩
  · obtain ⟨its, r, ht, hz⟩ := I5.tuple hx
    have hl := Vals.length r
    refine tail_any (ops := [.ref a, .ref s4.heap.objs.size]) ht.typeIs PyProof.Rows.slot_tuple_getitem.lookup ?_ (by with_unfolding_all rfl)
    refine item_tup_rev ht (Heap.IsSliceOf.new _ vl vu vs) pl pu ps ?_ (by rw [List.size_toArray]; omega)
    refine ⟨.ref _, _, I5.laid (t' := s4.toks) (o := .tup xs.reverse) (fun b ob q => Heap.get?_push_of_some _ q) (Nat.le_refl _) ?_, rfl, q _ (I5.hok.fresh (Nat.le_refl _))⟩
    exact ⟨by simp; exact hz, _, r.reverse, IsTup.new _ _⟩
end
section
variable {U : Wd} {G H : Hp} {x : V} {Q : V → Hp → Prop}
theorem b_rev {d1 : D} {v : Val} (e : bRev d1 = some v) (s : Sub G H) (h1 : Rd1 U G H x d1) (k : KQ U G H v Q) :
    ∃ a xs, x = .ref a ∧ ((SqL U.K H a xs ∧ ∀ p, H p = none → Q (.ref p) (upd H p (.lst xs.reverse))) ∨ (SqT U.K H a xs ∧ ∀ p, H p = none → Q (.ref p) (upd H p (.tup xs.reverse)))) := by
  unfold bRev at e
  split at e
  · cases e
    obtain ⟨a, us, rfl, ha, ra⟩ := rd_lst s h1
    exact ⟨a, us, rfl, .inl ⟨SqL.of ha, k.lst s ra.rev⟩⟩
  · cases e
    obtain ⟨a, us, rfl, ha, ra⟩ := rd_tup s h1
    exact ⟨a, us, rfl, .inr ⟨ha, k.tup s ra.rev⟩⟩
  · cases e
end
end Mp

set_option Elab.async false
set_option linter.all false
set_option maxRecDepth 100000
set_option maxHeartbeats 8000000
/-! Mp, part 11: expressions but calls and comprehensions. -/
namespace Mp
open PySem PySem.Spec PyProof.Rows L2

section
variable {U : Wd} {W : WX} {α β γ δ : Type} {σ : L2.St}
theorem Rg.mono {rel : Rel α β} {f : En → R α} {H : Hp} {Q Q' : β → Hp → Prop} (h : Rg U W rel f σ H Q) (i : ∀ x H', Q x H' → Q' x H') : Rg U W rel f σ H Q' := by
  obtain ⟨r, G, rl, c⟩ := h
  exact ⟨r, G, rl, c.imp i⟩
theorem Cont.later {rel : Rel α β} (p : Pst rel) {res : R α} {r r1 : En} {H G H1 G1 : Hp} {Q : β → Hp → Prop} (h : Cont U W rel res r σ H G Q) (t : Tr r σ H G r1 σ H1 G1) : Cont U W rel res r1 σ H1 G1 Q := by
  cases res with
  | bad => exact h
  | exn e r' => exact fun cls d H' G' a b c => h cls d H' G' a (t.trans b) c
  | ok b r' => exact fun y H' G' a b c => h y H' G' a (t.trans b) (p.up c t.un)
theorem evB_V {f : ME → En → R Val} {m : ME} {H : Hp} {Q : Bool → Hp → Prop} (q : Rg U W relB (evB f m) σ H Q) : Rg U W (relV U) (f m) σ H fun x H' => ∃ k, x = .bl k ∧ Q k H' := by
  obtain ⟨r, G, rl, q⟩ := q
  refine ⟨r, G, rl, ?_⟩
  have q' : Cont U W relB ((f m r).bind asB) r σ H G Q := q
  cases e : f m r with
  | bad => rw [e] at q'; exact q'
  | exn ex r' => rw [e] at q'; exact q'
  | ok v r' =>
    rw [e] at q'
    have q2 : Cont U W relB (asB v r') r σ H G Q := q'
    intro x H' G' rl' t rx
    cases v with
    | ow d => exact q2.elim
    | fz d =>
      cases d with
      | bl b =>
        cases rx
        exact ⟨b, rfl, q2 b H' G' rl' t rfl⟩
      | _ => exact q2.elim
end
theorem tTest_mono {X : Cx} {e : Expr} {t t' : TE} (h : PT X e (tTest t)) (i : ∀ σ H Q, t' σ H Q → t σ H Q) : PT X e (tTest t') := pt_imp h fun σ H Q q => i _ _ _ q
/-- as a value, and as a test -/
structure PX (X : Cx) (e : Expr) (t : TE) : Prop where
  v : PE X e t
  b : noifx e = true → PT X e (tTest t)
theorem px_imp {X : Cx} {e : Expr} {t t' : TE} (h : PX X e t) (i : ∀ σ H Q, t' σ H Q → t σ H Q) : PX X e t' := ⟨pe_imp h.v i, fun n => tTest_mono (h.b n) i⟩
theorem px_of {X : Cx} {e : Expr} {t : TE} (h : PE X e t) (he : ∀ whole, isTrue e X.env whole = (do let v ← whole; standAt e.pos; holding [v] (truthy v))) : PX X e t := ⟨h, fun _ => pt_val h he⟩
structure SX (X : Cx) (U : Wd) (W : WX) (f : ME → En → R Val) (m : ME) (e : Expr) : Prop where
  v : PE X e (Rg U W (relV U) (f m))
  b : noifx e = true → PT X e (Rg U W relB (evB f m))
theorem PX.sx {X : Cx} {U : Wd} {W : WX} {f : ME → En → R Val} {m : ME} {e : Expr} (h : PX X e (Rg U W (relV U) (f m))) : SX X U W f m e := ⟨h.v, fun n => pt_imp (h.b n) fun σ H Q q => evB_V q⟩

section
variable {X : Cx} {U : Wd} {T : Tbl} {W : WX} {k : Nat} {gd : Gd} {sc : Scope}
/-! ### operators -/
theorem px_bin {n : Nat} {b : BI} {op : Operator} {m1 m2 : ME} {x y : Expr} {pos : Pos} (c : Cok X U T W k gd sc) (hb : binB b op = true) (hx : PE X x (Rg U W (relO U) (evO (ev T n) m1))) (hy : PE X y (Rg U W (relO U) (evO (ev T n) m2))) :
    PX X (.BinOp x op y pos) (Rg U W (relV U) (ev T (n + 1) (.bi b [m1, m2]))) := by
  have go : ∀ {r : R2}, OpR X (binaryOp op) r → (∀ x y G H Q d1 d2 v, bsem b [d1, d2] = some v → Sub G H → Rd1 U G H x d1 → Rd1 U G H y d2 → KQ U G H v Q → r x y H Q) → PX X (.BinOp x op y pos) (Rg U W (relV U) (ev T (n + 1) (.bi b [m1, m2]))) := fun {r} ho hr =>
    px_of (pe_imp (pe_op ho hx hy) fun σ H Q q => (two q).mono fun x H1 q1 => q1.mono fun y H2 ⟨G, d1, d2, v, e, s, a1, a2, kq⟩ => hr x y G H2 Q d1 d2 v e s a1 a2 kq) fun _ => rfl
  cases b <;> cases op <;> first | (cases hb; done) | skip
  · exact go or_plus fun x y G H Q d1 d2 v e s a1 a2 kq => by rw [← c.eK]; exact b_add e s a1 a2 kq
  · exact go op_sub fun x y G H Q d1 d2 v e s a1 a2 kq => b_sub e s a1 a2 kq
  · exact go or_times fun x y G H Q d1 d2 v e s a1 a2 kq => by rw [← c.eK]; exact b_mul e s a1 a2 kq
  · exact go op_mod fun x y G H Q d1 d2 v e s a1 a2 kq => b_mod e s a1 a2 kq
  · exact go op_fdivW fun x y G H Q d1 d2 v e s a1 a2 kq => b_fdiv e s a1 a2 kq
  · exact go op_pow fun x y G H Q d1 d2 v e s a1 a2 kq => b_pow e s a1 a2 kq
/-- comparisons by their operators -/
def cmpRd (K : Fg) : BI → R2
  | .eq => rEq2 K
  | .ne => rNe2 K
  | .lt => rLT
  | .le => rLE
  | .gt => rGT
  | .ge => rGE
  | .in_ => rMem K false
  | .notin => rMem K true
  | _ => fun _ _ _ _ => False
theorem or_cmp {b : BI} {op : CmpOp} (hu : X.A.units + 65 < cLine) (h : cmpB b op = true) : OpR X (compareOp op) (cmpRd X.K b) := by
  cases b <;> cases op <;> first | (cases h; done) | skip
  · exact or_eq2 (by omega)
  · exact or_ne2 (by omega)
  · exact op_lt
  · exact op_le
  · exact op_gt
  · exact op_ge
  · exact or_in hu
  · exact or_notin hu
theorem b_cmp {b : BI} {op : CmpOp} {G H : Hp} {x y : V} {Q : V → Hp → Prop} {d1 d2 : D} {v : Val} (h : cmpB b op = true) (e : bsem b [d1, d2] = some v) (s : Sub G H) (a1 : Rd1 U G H x d1) (a2 : Rd1 U G H y d2) (kq : KQ U G H v Q) : cmpRd U.K b x y H Q := by
  cases b <;> cases op <;> first | (cases h; done) | skip
  · exact b_eq e s a1 a2 kq
  · exact b_ne e s a1 a2 kq
  · exact b_lt e s a1 a2 kq
  · exact b_le e s a1 a2 kq
  · exact b_gt e s a1 a2 kq
  · exact b_ge e s a1 a2 kq
  · have e' : ((inS d1 d2).map fun b => Val.fz (.bl b)) = some v := e
    cases q : inS d1 d2 with
    | none => rw [q] at e'; cases e'
    | some b =>
      rw [q] at e'
      cases e'
      exact b_in q s a1 a2 kq
  · have e' : ((inS d1 d2).map fun b => Val.fz (.bl (!b))) = some v := e
    cases q : inS d1 d2 with
    | none => rw [q] at e'; cases e'
    | some b =>
      rw [q] at e'
      cases e'
      exact b_in (ng := true) q s a1 a2 kq
theorem b_cmp_bl {b : BI} {op : CmpOp} {d1 d2 : D} {v : Val} (h : cmpB b op = true) (e : bsem b [d1, d2] = some v) : ∃ t, v = .fz (.bl t) := by
  have lt : ∀ {f : D → D → Option Val}, (∀ d1 d2 v, f d1 d2 = some v → ∃ t, v = .fz (.bl t)) → f d1 d2 = some v → ∃ t, v = .fz (.bl t) := fun h e => h _ _ _ e
  cases b <;> cases op <;> first | (cases h; done) | skip
  · have e' : ((deq d1 d2).map fun b => Val.fz (.bl b)) = some v := e
    cases q : deq d1 d2 <;> rw [q] at e' <;> cases e'
    exact ⟨_, rfl⟩
  · have e' : ((deq d1 d2).map fun b => Val.fz (.bl (!b))) = some v := e
    cases q : deq d1 d2 <;> rw [q] at e' <;> cases e'
    exact ⟨_, rfl⟩
  · have e' : bLt d1 d2 = some v := e
    unfold bLt at e'
    split at e' <;> cases e'
    exact ⟨_, rfl⟩
  · have e' : bLe d1 d2 = some v := e
    unfold bLe at e'
    split at e' <;> cases e'
    exact ⟨_, rfl⟩
  · have e' : bGt d1 d2 = some v := e
    unfold bGt at e'
    split at e' <;> cases e'
    exact ⟨_, rfl⟩
  · have e' : bGe d1 d2 = some v := e
    unfold bGe at e'
    split at e' <;> cases e'
    exact ⟨_, rfl⟩
  · have e' : ((inS d1 d2).map fun b => Val.fz (.bl b)) = some v := e
    cases q : inS d1 d2 <;> rw [q] at e' <;> cases e'
    exact ⟨_, rfl⟩
  · have e' : ((inS d1 d2).map fun b => Val.fz (.bl (!b))) = some v := e
    cases q : inS d1 d2 <;> rw [q] at e' <;> cases e'
    exact ⟨_, rfl⟩
theorem noset_mark {e : Expr} {op : CmpOp} (h : noset e = true) : behindInMarks op e = false := by
  cases e <;> first | rfl | cases h
theorem Cok.units (c : Cok X U T W k gd sc) : X.A.units + 65 < cLine := by
  have := c.un
  omega
theorem px_cmp {n : Nat} {b : BI} {op : CmpOp} {m1 m2 : ME} {x y : Expr} {pos : Pos} (c : Cok X U T W k gd sc) (hb : cmpB b op = true) (hs : noset y = true) (hx : PE X x (Rg U W (relO U) (evO (ev T n) m1))) (hy : PE X y (Rg U W (relO U) (evO (ev T n) m2))) :
    PX X (.Compare x [op] [y] pos) (Rg U W (relV U) (ev T (n + 1) (.bi b [m1, m2]))) := by
  have ho := or_cmp (X := X) c.units hb
  have i : ∀ σ H Q, Rg U W (relV U) (ev T (n + 1) (.bi b [m1, m2])) σ H Q → tOp (cmpRd X.K b) (Rg U W (relO U) (evO (ev T n) m1)) (Rg U W (relO U) (evO (ev T n) m2)) σ H Q := fun σ H Q q =>
    (two q).mono fun x H1 q1 => q1.mono fun y H2 ⟨G, d1, d2, v, e, s, a1, a2, kq⟩ => by rw [← c.eK]; exact b_cmp hb e s a1 a2 kq
  exact ⟨pe_imp (pe_cmpR ho hx hy (noset_mark hs)) i, fun _ => tTest_mono (pt_cmpR ho hx hy (noset_mark hs)) i⟩
theorem px_is {n : Nat} {b : BI} {op : CmpOp} {m1 : ME} {x y : Expr} {pos : Pos} (hb : isOpB b op y = true) (hx : PE X x (Rg U W (relO U) (evO (ev T n) m1))) : PX X (.Compare x [op] [y] pos) (Rg U W (relV U) (ev T (n + 1) (.bi b [m1]))) := by
  have go : ∀ {r : R2} {c : V}, OpR X (compareOp op) r → PE X y (tC c) → behindInMarks op y = false → (∀ x G H Q d1 v, bsem b [d1] = some v → Sub G H → Rd1 U G H x d1 → KQ U G H v Q → r x c H Q) → PX X (.Compare x [op] [y] pos) (Rg U W (relV U) (ev T (n + 1) (.bi b [m1]))) := fun {r c} ho hy hm hr => by
    have i : ∀ σ H Q, Rg U W (relV U) (ev T (n + 1) (.bi b [m1])) σ H Q → tOp r (Rg U W (relO U) (evO (ev T n) m1)) (tC c) σ H Q := fun σ H Q q => (one q).mono fun x H1 ⟨G, d1, v, e, s, a1, kq⟩ => hr x G H1 Q d1 v e s a1 kq
    exact ⟨pe_imp (pe_cmpR ho hx hy hm) i, fun _ => tTest_mono (pt_cmpR ho hx hy hm) i⟩
  cases y <;> first | (cases b <;> cases op <;> cases hb; done) | skip
  rename_i cc kk pp
  cases cc with
  | none =>
    cases b <;> cases op <;> first | (cases hb; done) | skip
    · exact go op_isN pe_non rfl fun x G H Q d1 v e s a1 kq => ⟨rfl, b_isN e s a1 kq⟩
    · exact go op_notN pe_non rfl fun x G H Q d1 v e s a1 kq => ⟨rfl, b_notN e s a1 kq⟩
  | bool t =>
    cases t <;> cases b <;> cases op <;> first | (cases hb; done) | skip
    · refine go op_isBl pe_bl rfl fun x G H Q d1 v e s a1 kq => ?_
      obtain ⟨t, rfl, q⟩ := b_bl (ng := true) e s a1 kq
      exact ⟨t, false, rfl, rfl, by cases t <;> exact q⟩
    · refine go op_notBl pe_bl rfl fun x G H Q d1 v e s a1 kq => ?_
      obtain ⟨t, rfl, q⟩ := b_bl (ng := false) e s a1 kq
      exact ⟨t, false, rfl, rfl, by cases t <;> exact q⟩
    · refine go op_isBl pe_bl rfl fun x G H Q d1 v e s a1 kq => ?_
      obtain ⟨t, rfl, q⟩ := b_bl (ng := false) e s a1 kq
      exact ⟨t, true, rfl, rfl, by cases t <;> exact q⟩
    · refine go op_notBl pe_bl rfl fun x G H Q d1 v e s a1 kq => ?_
      obtain ⟨t, rfl, q⟩ := b_bl (ng := true) e s a1 kq
      exact ⟨t, true, rfl, rfl, by cases t <;> exact q⟩
  | _ => cases b <;> cases op <;> cases hb
/-! ### subscripts -/
theorem px_item {n : Nat} {m1 m2 : ME} {x y : Expr} {pos : Pos} (c : Cok X U T W k gd sc) (hp : plainI y = true) (hx : PE X x (Rg U W (relO U) (evO (ev T n) m1))) (hy : PE X y (Rg U W (relO U) (evO (ev T n) m2))) : PX X (.Subscript x y pos) (Rg U W (relV U) (ev T (n + 1) (.bi .item [m1, m2]))) := by
  have pl : PlainIx y := by
    cases y <;> first | (intro o i; rfl) | cases hp
  exact px_of (pe_imp (pe_ix ix_seq hx hy pl) fun σ H Q q => (two q).mono fun x H1 q1 => q1.mono fun y H2 ⟨G, d1, d2, v, e, s, a1, a2, kq⟩ => by rw [← c.eK]; exact b_item e s a1 a2 kq) fun _ => rfl
def relP : Rel (Option Int) (Option Int) := fun b _ _ _ _ _ x => x = b
theorem pst_P : Pst relP := ⟨fun h _ => h⟩
theorem snd_P {f : ME → En → R Val} {m : Option ME} {e : Option Expr} {ch : ME → Expr → Bool} (hp : ∀ m e, ch m e = true → PE X e (Rg U W (relV U) (f m))) (h : chkO ch m e = true) : PO X e (fun σ H Q => Rg U W relP (evP f m) σ H Q) := by
  cases m <;> cases e <;> first | (cases h; done) | skip
  · constructor
    intro pins s σ H Q I q
    obtain ⟨r, G, rl, q⟩ := q
    exact po_none.run pins s σ H Q I (q none H G rl .refl rfl)
  · rename_i m e
    have base := po_some (hp m e h)
    constructor
    intro pins s σ H Q I q
    refine base.run pins s σ H Q I ?_
    obtain ⟨r, G, rl, q⟩ := q
    refine ⟨r, G, rl, ?_⟩
    have q' : Cont U W relP ((f m r).bind asI) r σ H G Q := q
    cases e : f m r with
    | bad => rw [e] at q'; exact q'
    | exn ex r' => rw [e] at q'; exact q'
    | ok v r' =>
      rw [e] at q'
      have q2 : Cont U W relP (asI v r') r σ H G Q := q'
      intro x H' G' rl' t rx
      cases v with
      | ow d => exact q2.elim
      | fz d =>
        cases d with
        | int b =>
          cases rx
          exact ⟨b, rfl, q2 (some b) H' G' rl' t rfl⟩
        | _ => exact q2.elim
theorem px_slc {n : Nat} {a : ME} {lo hi : Option ME} {x : Expr} {l h : Option Expr} {p2 pos : Pos} (c : Cok X U T W k gd sc) (hx : PE X x (Rg U W (relO U) (evO (ev T n) a))) (hp : ∀ m e, chkE gd n sc m e = true → PE X e (Rg U W (relV U) (ev T n m)))
    (hl : chkO (chkE gd n sc) lo l = true) (hh : chkO (chkE gd n sc) hi h = true) : PX X (.Subscript x (.Slice l h none p2) pos) (Rg U W (relV U) (ev T (n + 1) (.slc a lo hi))) := by
  refine px_of (pe_imp (pe_slice sl_cut hx (snd_P hp hl) (snd_P hp hh)) fun σ H Q q => ?_) fun _ => rfl
  obtain ⟨r, G, rl, q⟩ := q
  have q1 := Cont.bind (rel1 := relO U) (pst_V U) (show Cont U W (relV U) ((evO (ev T n) a r).bind fun x r1 => (evP (ev T n) lo r1).bind fun l r2 => (evP (ev T n) hi r2).bind fun h r3 => ofOpt ((rsv r3 x).bind (bSlc l h)) r3) r σ H G Q from q)
  refine ⟨r, G, rl, q1.imp fun x H1 ⟨o, r1, G1, rl1, t1, ro, q2⟩ => ?_⟩
  have q3 := Cont.bind (rel1 := relP) (pst_V U) q2
  refine ⟨r1, G1, rl1, q3.imp fun y H2 ⟨l', r2, G2, rl2, t2, ey, q4⟩ => ?_⟩
  have q5 := Cont.bind (rel1 := relP) (pst_V U) q4
  refine ⟨r2, G2, rl2, q5.imp fun z H3 ⟨h', r3, G3, rl3, t3, ez, q6⟩ => ?_⟩
  have ey' : y = l' := ey
  have ez' : z = h' := ez
  subst ey' ez'
  have ro3 := (pss_O U).go ((pss_O U).go ro rl1 t2) rl2 t3
  rw [← c.eK]
  cases e1 : rsv r3 o with
  | none => rw [e1] at q6; exact q6.elim
  | some d =>
    rw [e1] at q6
    have q7 : Cont U W (relV U) (ofOpt (bSlc y z d) r3) r3 σ H3 G3 Q := q6
    cases e2 : bSlc y z d with
    | none => rw [e2] at q7; exact q7.elim
    | some v =>
      rw [e2] at q7
      exact b_slc e2 rl3.sub (rsv_rd rl3 ro3 e1) (Cont.adv rl3 q7)
theorem px_rev {n : Nat} {m1 : ME} {x : Expr} {j : Nat} {p1 p2 p3 pos : Pos} (c : Cok X U T W k gd sc) (hx : PE X x (Rg U W (relO U) (evO (ev T n) m1))) :
    PX X (.Subscript x (.Slice none none (some (.UnaryOp .USub (.Constant (.int 1) j p1) p2)) p3) pos) (Rg U W (relV U) (ev T (n + 1) (.bi .rev [m1]))) :=
  px_of (pe_imp (pe_rev hx) fun σ H Q q => (one q).mono fun x H1 ⟨G, d1, v, e, s, a1, kq⟩ => by rw [← c.eK]; exact b_rev e s a1 kq) fun _ => rfl
theorem px_neg {n : Nat} {m1 : ME} {x : Expr} {pos : Pos} (hx : PE X x (Rg U W (relO U) (evO (ev T n) m1))) : PX X (.UnaryOp .USub x pos) (Rg U W (relV U) (ev T (n + 1) (.bi .neg [m1]))) :=
  px_of (pe_imp (pe_un un_neg hx) fun σ H Q q => (one q).mono fun x H1 ⟨G, d1, v, e, s, a1, kq⟩ => b_neg e s a1 kq) fun _ => rfl

/-! ### functions of one argument -/
theorem tcons_one {ta : TE} {r : List V → Hp → VK → Prop} {σ : L2.St} {H : Hp} {Q : VK} (h : ta σ H fun x H1 => r [x] H1 Q) : tCB r (tCons ta tNil) σ H Q := h
theorem px_fn1 {n : Nat} {b : BI} {g f : Str} {ty : Bool} {m1 : ME} {x : Expr} {p pos : Pos} (c : Cok X U T W k gd sc) (hcm : gd.cm = true) (hf : fn1 b = some (g, ty)) (hn : biN gd sc f g = true) (hs : nostar x = true) (hx : PE X x (Rg U W (relO U) (evO (ev T n) m1))) :
    PX X (.Call (.Name f p) [x] [] pos) (Rg U W (relV U) (ev T (n + 1) (.bi b [m1]))) := by
  obtain ⟨rfl, gl, mn, db, nn⟩ := c.bi hn
  have ha := pa_cons hx pa_nil (star_cons X.env hs)
  have st := star_cons (es := []) X.env hs
  have goB : ∀ {id : String} {r : List V → Hp → VK → Prop}, CallR X (.builtin id) r → bootBuiltins f = some (.builtin id) → (∀ x G H Q d1 v, bsem b [d1] = some v → Sub G H → Rd1 U G H x d1 → KQ U G H v Q → r [x] H Q) →
      PX X (.Call (.Name f p) [x] [] pos) (Rg U W (relV U) (ev T (n + 1) (.bi b [m1]))) := fun {id r} hc hv hr =>
    px_of (pe_imp (pe_callB hc gl mn hv ha nn db st rfl) fun σ H Q q => tcons_one ((one q).mono fun x H1 ⟨G, d1, v, e, s, a1, kq⟩ => hr x G H1 Q d1 v e s a1 kq)) fun _ => rfl
  have goT : ∀ {id : String} {r : List V → Hp → VK → Prop}, CallR X (.type id) r → bootBuiltins f = some (.type id) → (∀ x G H Q d1 v, bsem b [d1] = some v → Sub G H → Rd1 U G H x d1 → KQ U G H v Q → r [x] H Q) →
      PX X (.Call (.Name f p) [x] [] pos) (Rg U W (relV U) (ev T (n + 1) (.bi b [m1]))) := fun {id r} hc hv hr =>
    px_of (pe_imp (pe_callTy hc gl mn hv ha nn db st rfl) fun σ H Q q => tcons_one ((one q).mono fun x H1 ⟨G, d1, v, e, s, a1, kq⟩ => hr x G H1 Q d1 v e s a1 kq)) fun _ => rfl
  cases b <;> first | (cases hf; done) | skip
  · cases hf
    exact goB cr_len (by decide +kernel) fun x G H Q d1 v e s a1 kq => by rw [← c.eK]; exact b_len e s a1 kq
  · cases hf
    exact goB call_abs (by decide +kernel) fun x G H Q d1 v e s a1 kq => b_abs e s a1 kq
  · cases hf
    exact goT call_int1 (by decide +kernel) fun x G H Q d1 v e s a1 kq => b_int e s a1 kq
  · cases hf
    exact goT call_list_of (by decide +kernel) fun x G H Q d1 v e s a1 kq => by rw [← c.eK]; exact b_list e s a1 kq
  · cases hf
    exact goT call_tuple_of (by decide +kernel) fun x G H Q d1 v e s a1 kq => by rw [← c.eK]; exact b_tuple e s a1 kq
  · cases hf
    exact goB (cr_all (c.calm hcm)) (by decide +kernel) fun x G H Q d1 v e s a1 kq => by rw [← c.eK]; exact b_all e s a1 kq
  · cases hf
    exact goB (cr_any (c.calm hcm)) (by decide +kernel) fun x G H Q d1 v e s a1 kq => by rw [← c.eK]; exact b_any e s a1 kq
  · cases hf
    exact goB (cr_sum (c.calm hcm)) (by decide +kernel) fun x G H Q d1 v e s a1 kq => by rw [← c.eK]; exact b_sum e s a1 kq
  · cases hf
    exact goB (cr_repr c.eK c.gu (by have := c.units; omega)) (by decide +kernel) fun x G H Q d1 v e s a1 kq => b_repr e s a1 kq
theorem boot_ty {t : String} (h : t ∈ ["int", "bool", "str", "tuple", "list", "dict"]) : bootBuiltins (Str.ofString t) = some (.type t) := by
  have : ∀ t ∈ ["int", "bool", "str", "tuple", "list", "dict"], bootBuiltins (Str.ofString t) = some (.type t) := by decide +kernel
  exact this t h
theorem px_isi {n : Nat} {t : String} {f Tn : Str} {m1 : ME} {x : Expr} {p p2 pos : Pos} (c : Cok X U T W k gd sc) (hn : biN gd sc f "isinstance" = true) (hs : nostar x = true) (ht : glB sc Tn = true) (hb : gd.bn.any (· == Tn) = true) (et : Tn = Str.ofString t)
    (hm : t ∈ ["int", "bool", "str", "tuple", "list", "dict"]) (hx : PE X x (Rg U W (relO U) (evO (ev T n) m1))) : PX X (.Call (.Name f p) [x, .Name Tn p2] [] pos) (Rg U W (relV U) (ev T (n + 1) (.bi (.isi t) [m1]))) := by
  obtain ⟨rfl, gl, mn, db, nn⟩ := c.bi hn
  obtain ⟨g1, g2, g3⟩ := c.gl_ ht
  have mT : X.mg Tn = none := by
    obtain ⟨z, h1, h2⟩ := List.any_eq_true.mp hb
    rw [← eq_of_beq h2]
    exact c.bn _ h1
  have pT : PE X (.Name Tn p2) (tC (.ty t)) := pe_bltn g1 mT (u := .type t) (by rw [et]; exact boot_ty hm) rfl g3 g2
  have ha := pa_cons hx (pa_cons pT pa_nil) (star_cons X.env hs)
  refine px_of (pe_imp (pe_callB call_isi gl mn (by decide +kernel) ha nn db (star_cons X.env hs) rfl) fun σ H Q q => ?_) fun _ => rfl
  exact (one q).mono fun x H1 ⟨G, d1, v, e, s, a1, kq⟩ => by
    show rIsi X.K [x, .ty t] H1 Q
    rw [← c.eK]
    exact b_isi e s a1 kq
end
end Mp

set_option Elab.async false
set_option linter.all false
set_option maxRecDepth 100000
set_option maxHeartbeats 8000000
/-! Mp, part 12: and, or, not, if else, chains, displays; calls of defs. -/
namespace Mp
open PySem PySem.Spec PyProof.Rows L2

section
variable {X : Cx} {U : Wd} {T : Tbl} {W : WX} {k : Nat} {gd : Gd} {sc : Scope} {f : ME → En → R Val}
theorem pw_of {op : BoolOp} {vs : List Expr} {pos : Pos} {t : TT} (h : PT X (.BoolOp op vs pos) t) : PW X (.BoolOp op vs pos) t := ⟨fun wh pins s σ H Q I q => h.run pins s σ H Q I q⟩
theorem bindB {α : Type} {m : ME} {g : Bool → En → R α} {β : Type} {rel : Rel α β} (p : Pst rel) {σ : L2.St} {H : Hp} {Q : β → Hp → Prop} (q : Rg U W rel (fun r => (evB f m r).bind g) σ H Q) :
    Rg U W relB (evB f m) σ H fun b H1 => Rg U W rel (g b) σ H1 Q := by
  obtain ⟨r, G, rl, q⟩ := q
  refine ⟨r, G, rl, (Cont.bind (rel1 := relB) p q).imp fun b H1 ⟨b', r1, G1, rl1, t1, e, q1⟩ => ?_⟩
  have e' : b = b' := e
  subst e'
  exact ⟨r1, G1, rl1, q1⟩
theorem sx_and {n : Nat} {a b : ME} {x y : Expr} {r : List Expr} {pos : Pos} (hx : SX X U W (ev T n) a x) (nx : noifx x = true) (hr : SX X U W (ev T n) b (.BoolOp .And (y :: r) pos)) : SX X U W (ev T (n + 1)) (.and_ a b) (.BoolOp .And (x :: y :: r) pos) := by
  constructor
  · refine pe_imp (pe_and hx.v hr.v) fun σ H Q q => ?_
    exact (evB_V (bindB (pst_V U) (show Rg U W (relV U) (fun r => (evB (ev T n) a r).bind fun v r1 => if v = true then ev T n b r1 else .ok (.fz (.bl false)) r1) σ H Q from q))).mono fun z H1 ⟨c, e, q1⟩ => ⟨c, e, by
      cases c with
      | true => exact iteT q1
      | false =>
        refine iteF ?_
        obtain ⟨r1, G1, rl1, q2⟩ := q1
        exact q2 (.bl false) H1 G1 rl1 .refl (.bl false)⟩
  · intro _
    refine (pw_imp (pw_and (hx.b nx) (pw_of (hr.b rfl))) fun σ H Q q => ?_).pt
    have q' : Rg U W relB (fun r => (evB (ev T n) a r).bind fun v r1 => (if v = true then ev T n b r1 else .ok (.fz (.bl false)) r1).bind asB) σ H Q := by
      obtain ⟨r, G, rl, q⟩ := q
      refine ⟨r, G, rl, ?_⟩
      have e : evB (ev T (n + 1)) (.and_ a b) r = (evB (ev T n) a r).bind fun v r1 => (if v = true then ev T n b r1 else .ok (.fz (.bl false)) r1).bind asB := by
        show ((evB (ev T n) a r).bind fun v r1 => if v = true then ev T n b r1 else .ok (.fz (.bl false)) r1).bind asB = _
        cases evB (ev T n) a r <;> rfl
      rw [e] at q
      exact q
    exact (bindB (pss_B U).toPst q').mono fun c H1 q1 => by
      cases c with
      | true => exact iteT q1
      | false =>
        refine iteF ?_
        obtain ⟨r1, G1, rl1, q2⟩ := q1
        exact q2 false H1 G1 rl1 .refl rfl
theorem sx_or {n : Nat} {a b : ME} {x y : Expr} {r : List Expr} {pos : Pos} (hx : SX X U W (ev T n) a x) (nx : noifx x = true) (hr : SX X U W (ev T n) b (.BoolOp .Or (y :: r) pos)) : SX X U W (ev T (n + 1)) (.or_ a b) (.BoolOp .Or (x :: y :: r) pos) := by
  constructor
  · refine pe_imp (pe_or hx.v hr.v) fun σ H Q q => ?_
    exact (evB_V (bindB (pst_V U) (show Rg U W (relV U) (fun r => (evB (ev T n) a r).bind fun v r1 => if v = true then .ok (.fz (.bl true)) r1 else ev T n b r1) σ H Q from q))).mono fun z H1 ⟨c, e, q1⟩ => ⟨c, e, by
      cases c with
      | false => exact iteF q1
      | true =>
        refine iteT ?_
        obtain ⟨r1, G1, rl1, q2⟩ := q1
        exact q2 (.bl true) H1 G1 rl1 .refl (.bl true)⟩
  · intro _
    refine (pw_imp (pw_or (hx.b nx) (pw_of (hr.b rfl))) fun σ H Q q => ?_).pt
    have q' : Rg U W relB (fun r => (evB (ev T n) a r).bind fun v r1 => (if v = true then .ok (.fz (.bl true)) r1 else ev T n b r1).bind asB) σ H Q := by
      obtain ⟨r, G, rl, q⟩ := q
      refine ⟨r, G, rl, ?_⟩
      have e : evB (ev T (n + 1)) (.or_ a b) r = (evB (ev T n) a r).bind fun v r1 => (if v = true then .ok (.fz (.bl true)) r1 else ev T n b r1).bind asB := by
        show ((evB (ev T n) a r).bind fun v r1 => if v = true then .ok (.fz (.bl true)) r1 else ev T n b r1).bind asB = _
        cases evB (ev T n) a r <;> rfl
      rw [e] at q
      exact q
    exact (bindB (pss_B U).toPst q').mono fun c H1 q1 => by
      cases c with
      | false => exact iteF q1
      | true =>
        refine iteT ?_
        obtain ⟨r1, G1, rl1, q2⟩ := q1
        exact q2 true H1 G1 rl1 .refl rfl
/-- a bool operator's last part stands alone -/
theorem sx_one {op : BoolOp} {m : ME} {x : Expr} {pos : Pos} (hx : SX X U W f m x) (nx : noifx x = true) : SX X U W f m (.BoolOp op [x] pos) := ⟨pe_one hx.v, fun _ => by
  cases op with
  | And => exact (pw_and1 (hx.b nx)).pt
  | Or => exact (pw_or1 (hx.b nx)).pt⟩
theorem sx_not {n : Nat} {a : ME} {x : Expr} {pos : Pos} (hx : SX X U W (ev T n) a x) (nx : noifx x = true) : SX X U W (ev T (n + 1)) (.not_ a) (.UnaryOp .Not x pos) := by
  constructor
  · refine pe_imp (pe_not hx.v) fun σ H Q q => ?_
    exact (evB_V (bindB (pst_V U) (show Rg U W (relV U) (fun r => (evB (ev T n) a r).bind fun v r1 => .ok (.fz (.bl (!v))) r1) σ H Q from q))).mono fun z H1 ⟨c, e, r1, G1, rl1, q2⟩ => ⟨c, e, q2 (.bl (!c)) H1 G1 rl1 .refl (.bl (!c))⟩
  · intro _
    refine pt_imp (pt_not (hx.b nx)) fun σ H Q q => ?_
    have q' : Rg U W relB (fun r => (evB (ev T n) a r).bind fun v r1 => .ok (!v) r1) σ H Q := by
      obtain ⟨r, G, rl, q⟩ := q
      refine ⟨r, G, rl, ?_⟩
      have e : evB (ev T (n + 1)) (.not_ a) r = (evB (ev T n) a r).bind fun v r1 => .ok (!v) r1 := by
        show ((evB (ev T n) a r).bind fun v r1 => .ok (.fz (.bl (!v))) r1).bind asB = _
        cases evB (ev T n) a r <;> rfl
      rw [e] at q
      exact q
    exact (bindB (pss_B U).toPst q').mono fun c H1 ⟨r1, G1, rl1, q2⟩ => q2 (!c) H1 G1 rl1 .refl rfl
theorem sx_ife {n : Nat} {c a b : ME} {x y z : Expr} {pos : Pos} (hc : SX X U W (ev T n) c x) (nx : noifx x = true) (ha : SX X U W (ev T n) a y) (hb : SX X U W (ev T n) b z) : SX X U W (ev T (n + 1)) (.ife c a b) (.IfExp x y z pos) := by
  constructor
  · refine pe_imp (pe_ifExp (hc.b nx) ha.v hb.v) fun σ H Q q => ?_
    exact (bindB (pst_V U) (show Rg U W (relV U) (fun r => (evB (ev T n) c r).bind fun v r1 => if v = true then ev T n a r1 else ev T n b r1) σ H Q from q)).mono fun v H1 q1 => by
      cases v with
      | true => exact iteT q1
      | false => exact iteF q1
  · intro h
    cases h
theorem sx_chain {n : Nat} {o1 o2 : BI} {p q : CmpOp} {a b c : ME} {x y z : Expr} {pos : Pos} (ck : Cok X U T W k gd sc) (h1 : cmpB o1 p = true) (h2 : cmpB o2 q = true) (ny : noset y = true) (nz : noset z = true)
    (hx : PE X x (Rg U W (relO U) (evO (ev T n) a))) (hy : PE X y (Rg U W (relO U) (evO (ev T n) b))) (hz : PE X z (Rg U W (relO U) (evO (ev T n) c))) : SX X U W (ev T (n + 1)) (.chain o1 o2 a b c) (.Compare x [p, q] [y, z] pos) := by
  have ho1 := or_cmp (X := X) ck.units h1
  have ho2 := or_cmp (X := X) ck.units h2
  have hm : lastMarks [p, q] [y, z] = false := noset_mark nz
  have i : ∀ σ H Q, Rg U W (relV U) (ev T (n + 1) (.chain o1 o2 a b c)) σ H Q → tChain (cmpRd X.K o1) (cmpRd X.K o2) (Rg U W (relO U) (evO (ev T n) a)) (Rg U W (relO U) (evO (ev T n) b)) (Rg U W (relO U) (evO (ev T n) c)) σ H Q := by
    intro σ H Q qq
    rw [← ck.eK]
    obtain ⟨r, G, rl, qq⟩ := qq
    have q1 := Cont.bind (rel1 := relO U) (pst_V U) (show Cont U W (relV U) ((evO (ev T n) a r).bind fun x r1 => (evO (ev T n) b r1).bind fun y r2 =>
        match (rsvs r2 [x, y]).bind (bsem o1) with
        | some (.fz (.bl false)) => .ok (.fz (.bl false)) r2
        | some (.fz (.bl true)) => (evO (ev T n) c r2).bind fun z r3 => ofOpt ((rsvs r3 [y, z]).bind (bsem o2)) r3
        | _ => .bad) r σ H G Q from qq)
    refine ⟨r, G, rl, q1.imp fun vx H1 ⟨ox, r1, G1, rl1, t1, rx, q2⟩ => ?_⟩
    have q3 := Cont.bind (rel1 := relO U) (pst_V U) q2
    refine ⟨r1, G1, rl1, q3.imp fun vy H2 ⟨oy, r2, G2, rl2, t2, ry, q4⟩ => ?_⟩
    have rx2 := (pss_O U).go rx rl1 t2
    cases e1 : rsvs r2 [ox, oy] with
    | none => rw [e1] at q4; exact q4.elim
    | some ds =>
      rw [e1] at q4
      have rds := rsvs_rd (xs := [vx, vy]) (H0 := H) rl2 (.cons rx2 (.cons ((pss_O U).up ry t1.un) .nil)) e1
      have q5 : Cont U W (relV U) (match bsem o1 ds with
        | some (.fz (.bl false)) => .ok (.fz (.bl false)) r2
        | some (.fz (.bl true)) => (evO (ev T n) c r2).bind fun z r3 => ofOpt ((rsvs r3 [oy, z]).bind (bsem o2)) r3
        | _ => .bad) r2 σ H2 G2 Q := q4
      cases rds with
      | cons a1 tl =>
        cases tl with
        | cons a2 tl =>
          cases tl
          rename_i d1 d2
          cases e2 : bsem o1 [d1, d2] with
          | none => rw [e2] at q5; exact q5.elim
          | some v =>
            obtain ⟨t, rfl⟩ := b_cmp_bl h1 e2
            rw [e2] at q5
            refine b_cmp h1 e2 rl2.sub a1 a2 fun w H3 G3 ad nv => ?_
            cases nv
            refine ⟨t, rfl, ?_⟩
            have rl3 := ad.rl rl2
            cases t with
            | false =>
              refine iteF ?_
              have q6 : Cont U W (relV U) (.ok (.fz (.bl false)) r2) r2 σ H2 G2 Q := q5
              exact q6 (.bl false) H3 G3 rl3 ad.tr (.bl false)
            | true =>
              refine iteT ?_
              have q6 : Cont U W (relV U) ((evO (ev T n) c r2).bind fun z r3 => ofOpt ((rsvs r3 [oy, z]).bind (bsem o2)) r3) r2 σ H2 G2 Q := q5
              have q7 := Cont.bind (rel1 := relO U) (pst_V U) (q6.later (pst_V U) ad.tr)
              refine ⟨r2, G3, rl3, q7.imp fun vz H4 ⟨oz, r4, G4, rl4, t4, rz, q8⟩ => ?_⟩
              have ry4 := (pss_O U).go ((pss_O U).go ry rl2 ad.tr) rl3 t4
              obtain ⟨ds, v, e3, rd, kq⟩ := fin_bi (xs := [vy, vz]) (H0 := H3) rl4 (.cons ((pss_O U).go (H0 := H3) (show relO U oy r2 σ H3 G3 H3 vy from by cases oy <;> exact (pss_O U).go ry rl2 ad.tr) rl3 t4) (.cons rz .nil)) q8
              cases rd with
              | cons a1 tl =>
                cases tl with
                | cons a2 tl =>
                  cases tl
                  exact b_cmp h2 e3 rl4.sub a1 a2 kq
  exact PX.sx ⟨pe_imp (pe_chain ho1 ho2 hx hy hz hm) i, fun _ => tTest_mono (pt_chain ho1 ho2 hx hy hz hm) i⟩

/-! ### displays -/
theorem sx_tup {n : Nat} {ms : List ME} {es : List Expr} {j : Nat} {pos : Pos} (ha : PA X es (tMany U W (relF U) (evF (ev T n)) ms)) : SX X U W (ev T (n + 1)) (.tup ms) (.Tuple es j pos) := by
  refine PX.sx (px_of (pe_imp (pe_tup ha) fun σ H Q q => ?_) fun _ => rfl)
  obtain ⟨r, G, rl, q⟩ := q
  refine tmono (fun xs H1 z => ?_) ms (many (rel1 := relF U) (p := evF (ev T n)) (pss_F U) (pst_V U) rl (show Cont U W (relV U) ((mapR (evF (ev T n)) ms r).bind fun ds r1 => if ds.length ≤ sizeLine then .ok (.fz (.tup ds)) r1 else .bad) r σ H G Q from q))
  obtain ⟨ds, r1, G1, rl1, t1, rx, q1⟩ := z
  have rs := Reps.of_paired rx
  by_cases hl : ds.length ≤ sizeLine
  · rw [if_pos hl] at q1
    exact ⟨by rw [rs.length]; exact hl, fun p np => Cont.adv rl1 q1 _ _ _ (.frz rl1.sub np) (.tup (SqT.of upd_same) (rs.mono (same_new (rl1.sub.none np))))⟩
  · rw [if_neg hl] at q1
    exact q1.elim
theorem sx_lst {n : Nat} {ms : List ME} {es : List Expr} {pos : Pos} (ha : PA X es (tMany U W (relF U) (evF (ev T n)) ms)) : SX X U W (ev T (n + 1)) (.lst ms) (.List es pos) := by
  refine PX.sx (px_of (pe_imp (pe_lst ha) fun σ H Q q => ?_) fun _ => rfl)
  obtain ⟨r, G, rl, q⟩ := q
  refine tmono (fun xs H1 z => ?_) ms (many (rel1 := relF U) (p := evF (ev T n)) (pss_F U) (pst_V U) rl (show Cont U W (relV U) ((mapR (evF (ev T n)) ms r).bind fun ds r1 => if ds.length ≤ sizeLine then .ok (.ow (.lst ds)) r1 else .bad) r σ H G Q from q))
  obtain ⟨ds, r1, G1, rl1, t1, rx, q1⟩ := z
  have rs := Reps.of_paired rx
  by_cases hl : ds.length ≤ sizeLine
  · rw [if_pos hl] at q1
    exact ⟨by rw [rs.length]; exact hl, fun p np => Cont.adv rl1 q1 _ _ _ (.own rl1.sub np) ⟨p, rfl, np, rl1.sub.none np, xs, upd_same, rs⟩⟩
  · rw [if_neg hl] at q1
    exact q1.elim
end
end Mp

set_option Elab.async false
set_option linter.all false
set_option maxRecDepth 100000
set_option maxHeartbeats 8000000
/-! Mp, part 13: calls of defs. -/
namespace Mp
open PySem PySem.Spec PyProof.Rows L2

/-- the arguments of a call: frozen values, and names whose own object is handed on -/
inductive ArgsR (U : Wd) (r : En) (σ : L2.St) (G : Hp) : List Bool → List Opn → List V → List D → Prop
  | nil : ArgsR U r σ G [] [] [] []
  | val {md os xs ds d x} : Rep U G x d → ArgsR U r σ G md os xs ds → ArgsR U r σ G (false :: md) (.d d :: os) (x :: xs) (d :: ds)
  | ref {md os xs ds} {i : Nat} {a : Addr} {d : D} : r[i]? = some (.ow d) → σ[i]? = some (some (.ref a)) → ArgsR U r σ G md os xs ds → ArgsR U r σ G (true :: md) (.loc i :: os) (.ref a :: xs) (d :: ds)
section
variable {U : Wd} {r : En} {σ : L2.St} {H G H0 : Hp}
theorem args_of (rl : Rl U r σ H G) : ∀ {md : List Bool} {os : List Opn} {xs : List V} {ds : List D}, relL (relO U) os r σ H0 G H xs → shp md os = true → rsvs r os = some ds → (locs os).all (isOw r) = true → ArgsR U r σ G md os xs ds
  | [], [], _, _, .nil, _, e, _ => by
    cases e
    exact .nil
  | true :: md, .loc i :: os, _, _, .cons h t, s, e, o => by
    rename_i ds x xs
    have h' : σ[i]? = some (some x) := h
    have o' : (isOw r i && (locs os).all (isOw r)) = true := o
    rw [Bool.and_eq_true] at o'
    have e' : (match rsv r (.loc i), rsvs r os with
      | some d, some ds => some (d :: ds)
      | _, _ => none) = some ds := e
    have o1 := o'.1
    unfold isOw at o1
    cases q : r[i]? with
    | none => rw [q] at o1; cases o1
    | some sl =>
      rw [q] at o1
      cases sl with
      | un => cases o1
      | fz d => cases o1
      | ow d =>
        have er : rsv r (.loc i) = some d := by
          show (match r[i]? with
            | some (.fz d) => some d
            | some (.ow d) => some d
            | _ => none) = some d
          rw [q]
        rw [er] at e'
        cases q2 : rsvs r os with
        | none => rw [q2] at e'; cases e'
        | some es =>
          rw [q2] at e'
          cases e'
          obtain ⟨a, ea, _⟩ := rl.at_ i _ _ q h'
          cases ea
          exact .ref q h' (args_of rl t s q2 o'.2)
  | false :: md, .d d :: os, _, _, .cons h t, s, e, o => by
    rename_i ds x xs
    have e' : (match rsv r (.d d), rsvs r os with
      | some d, some ds => some (d :: ds)
      | _, _ => none) = some ds := e
    have er : rsv r (.d d) = some d := rfl
    rw [er] at e'
    cases q2 : rsvs r os with
    | none => rw [q2] at e'; cases e'
    | some es =>
      rw [q2] at e'
      cases e'
      exact .val h (args_of rl t s q2 o)
  | true :: _, .d _ :: _, _, _, _, s, _, _ => by cases s
  | false :: _, .loc _ :: _, _, _, _, s, _, _ => by cases s
  | [], _ :: _, _, _, _, s, _, _ => by cases s
  | b :: _, [], _, _, _, s, _, _ => by cases b <;> cases s
theorem ArgsR.len : ∀ {md : List Bool} {os : List Opn} {xs : List V} {ds : List D}, ArgsR U r σ G md os xs ds → xs.length = md.length ∧ ds.length = md.length
  | _, _, _, _, .nil => ⟨rfl, rfl⟩
  | _, _, _, _, .val _ t => ⟨congrArg (· + 1) t.len.1, congrArg (· + 1) t.len.2⟩
  | _, _, _, _, .ref _ _ t => ⟨congrArg (· + 1) t.len.1, congrArg (· + 1) t.len.2⟩
/-- an owned parameter is a slot's own -/
theorem ArgsR.own : ∀ {md : List Bool} {os : List Opn} {xs : List V} {ds : List D}, ArgsR U r σ G md os xs ds → ∀ {j : Nat} {d : D}, (argE md ds)[j]? = some (.ow d) → ∃ i a, os[j]? = some (.loc i) ∧ r[i]? = some (.ow d) ∧ σ[i]? = some (some (.ref a)) ∧ (xs.map some)[j]? = some (some (.ref a))
  | _, _, _, _, .nil, j, d, h => by simp [argE] at h
  | _, _, _, _, .val (md := md) (os := os) (xs := xs) (ds := ds) h t, 0, d, e => by
    simp [argE] at e
  | _, _, _, _, .val (md := md) (os := os) (xs := xs) (ds := ds) h t, j + 1, d, e => by
    have e' : (argE md ds)[j]? = some (.ow d) := by simpa [argE] using e
    obtain ⟨i, a, h1, h2, h3, h4⟩ := t.own e'
    exact ⟨i, a, by simpa using h1, h2, h3, by simpa using h4⟩
  | _, _, _, _, .ref (md := md) (os := os) (xs := xs) (ds := ds) (i := i) (a := a) h1 h2 t, 0, d, e => by
    simp [argE] at e
    subst e
    exact ⟨i, a, rfl, h1, h2, rfl⟩
  | _, _, _, _, .ref (md := md) (os := os) (xs := xs) (ds := ds) h1 h2 t, j + 1, d, e => by
    have e' : (argE md ds)[j]? = some (.ow d) := by simpa [argE] using e
    obtain ⟨i, a, h1, h2, h3, h4⟩ := t.own e'
    exact ⟨i, a, by simpa using h1, h2, h3, by simpa using h4⟩
theorem ArgsR.at_ (rl : Rl U r σ H G) : ∀ {md : List Bool} {os : List Opn} {xs : List V} {ds : List D}, ArgsR U r σ G md os xs ds → ∀ {j : Nat} {s : Slot} {o : Option V}, (argE md ds)[j]? = some s → (xs.map some)[j]? = some o → SRel U G H s o
  | _, _, _, _, .nil, j, d, _, h, _ => by simp [argE] at h
  | _, _, _, _, .val (md := md) (os := os) (xs := xs) (ds := ds) h t, 0, _, _, e, e2 => by
    simp [argE] at e e2
    subst e e2
    exact ⟨_, rfl, h⟩
  | _, _, _, _, .val (md := md) (os := os) (xs := xs) (ds := ds) h t, j + 1, _, _, e, e2 => t.at_ rl (j := j) (by simpa [argE] using e) (by simpa using e2)
  | _, _, _, _, .ref (md := md) (os := os) (xs := xs) (ds := ds) (i := i) (a := a) h1 h2 t, 0, _, _, e, e2 => by
    simp [argE] at e e2
    subst e e2
    exact rl.at_ i _ _ h1 h2
  | _, _, _, _, .ref (md := md) (os := os) (xs := xs) (ds := ds) h1 h2 t, j + 1, _, _, e, e2 => t.at_ rl (j := j) (by simpa [argE] using e) (by simpa using e2)
theorem argE_len {md : List Bool} {ds : List D} (h : ds.length = md.length) : (argE md ds).length = md.length := by
  unfold argE
  rw [List.length_zipWith]
  omega
theorem locs_get : ∀ {os : List Opn} {j i : Nat}, os[j]? = some (.loc i) → i ∈ locs os
  | [], _, _, h => by simp at h
  | .loc k :: os, 0, i, h => by
    simp at h
    subst h
    exact List.mem_cons_self
  | .loc k :: os, j + 1, i, h => List.mem_cons_of_mem _ (locs_get (j := j) (by simpa using h))
  | .d _ :: os, 0, i, h => by simp at h
  | .d _ :: os, j + 1, i, h => locs_get (os := os) (j := j) (by simpa using h)
theorem locs_inj : ∀ {os : List Opn} {j l i : Nat}, (locs os).Nodup → os[j]? = some (.loc i) → os[l]? = some (.loc i) → j = l
  | [], _, _, _, _, h, _ => by simp at h
  | .d _ :: os, 0, _, i, _, h, _ => by simp at h
  | .d _ :: os, j + 1, 0, i, _, _, h => by simp at h
  | .d _ :: os, j + 1, l + 1, i, nd, h, h2 => congrArg (· + 1) (locs_inj (os := os) nd (by simpa using h) (by simpa using h2))
  | .loc k :: os, 0, 0, i, _, _, _ => rfl
  | .loc k :: os, 0, l + 1, i, nd, h, h2 => by
    simp at h
    subst h
    have := locs_get (os := os) (j := l) (by simpa using h2)
    exact absurd this (List.nodup_cons.mp (show (k :: locs os).Nodup from nd)).1
  | .loc k :: os, j + 1, 0, i, nd, h, h2 => by
    simp at h2
    subst h2
    have := locs_get (os := os) (j := j) (by simpa using h)
    exact absurd this (List.nodup_cons.mp (show (k :: locs os).Nodup from nd)).1
  | .loc k :: os, j + 1, l + 1, i, nd, h, h2 => congrArg (· + 1) (locs_inj (os := os) (List.nodup_cons.mp (show (k :: locs os).Nodup from nd)).2 (by simpa using h) (by simpa using h2))
/-- the callee's own environment stands -/
theorem ArgsR.rl (rl : Rl U r σ H G) {md : List Bool} {os : List Opn} {xs : List V} {ds : List D} (h : ArgsR U r σ G md os xs ds) (nd : (locs os).Nodup) : Rl U (argE md ds) (xs.map some) H G := by
  refine ⟨rl.sub, by rw [argE_len h.len.2, List.length_map, h.len.1], fun i s o => h.at_ rl, fun i j a d e ne h1 h2 h3 h4 => ?_⟩
  obtain ⟨p, b, p1, p2, p3, p4⟩ := h.own h1
  obtain ⟨q, c, q1, q2, q3, q4⟩ := h.own h2
  rw [h3] at p4
  cases p4
  rw [h4] at q4
  cases q4
  by_cases e : p = q
  · subst e
    exact ne (locs_inj nd p1 q1)
  · exact rl.ap p q _ _ _ e p2 q2 p3 q3
theorem ArgsR.ownAt {md : List Bool} {os : List Opn} {xs : List V} {ds : List D} (h : ArgsR U r σ G md os xs ds) {a : Addr} (o : OwnAt (argE md ds) (xs.map some) a) : OwnAt r σ a := by
  obtain ⟨j, d, h1, h2⟩ := o
  obtain ⟨p, b, p1, p2, p3, p4⟩ := h.own h1
  rw [h2] at p4
  cases p4
  exact ⟨p, d, p2, p3⟩
theorem putOuts_out : ∀ {os : List Opn} {outs : List D} {r0 : En} {j : Nat}, j ∉ locs os → (putOuts os outs r0)[j]? = r0[j]?
  | [], _, _, _, _ => by unfold putOuts; rfl
  | .d _ :: os, outs, r0, j, h => by
    unfold putOuts
    exact putOuts_out (os := os) h
  | .loc i :: os, [], r0, j, h => by unfold putOuts; rfl
  | .loc i :: os, o :: outs, r0, j, h => by
    have h' : j ∉ i :: locs os := h
    unfold putOuts
    rw [putOuts_out (os := os) fun z => h' (List.mem_cons_of_mem _ z), List.getElem?_set_ne fun e => h' (by rw [e]; exact List.mem_cons_self)]
theorem putOuts_len : ∀ {os : List Opn} {outs : List D} {r0 : En}, (putOuts os outs r0).length = r0.length
  | [], _, _ => by unfold putOuts; rfl
  | .d _ :: os, outs, r0 => by
    unfold putOuts
    exact putOuts_len (os := os)
  | .loc i :: os, [], r0 => by unfold putOuts; rfl
  | .loc i :: os, o :: outs, r0 => by
    unfold putOuts
    rw [putOuts_len (os := os), List.length_set]
theorem nref_locs : ∀ {md : List Bool} {os : List Opn}, shp md os = true → (locs os).length = nref md
  | [], [], _ => rfl
  | true :: md, .loc _ :: os, h => by
    have := nref_locs (md := md) (os := os) h
    show (locs os).length + 1 = nref (true :: md)
    rw [this]
    rfl
  | false :: md, .d _ :: os, h => by
    have := nref_locs (md := md) (os := os) h
    show (locs os).length = nref (false :: md)
    rw [this]
    rfl
  | true :: _, .d _ :: _, s => by cases s
  | false :: _, .loc _ :: _, s => by cases s
  | [], _ :: _, s => by cases s
  | true :: _, [], s => by cases s
  | false :: _, [], s => by cases s
/-- what was handed on has its new content -/
theorem putOuts_in : ∀ {md : List Bool} {os : List Opn} {xs : List V} {ds outs : List D} {r0 : En}, ArgsR U r σ G md os xs ds → outs.length = nref md → (locs os).Nodup → (∀ j ∈ locs os, j < r0.length) → ∀ j ∈ locs os,
    ∃ (d : D) (a : Addr) (p : Nat), (putOuts os outs r0)[j]? = some (.ow d) ∧ σ[j]? = some (some (.ref a)) ∧ (argE md (newD md ds outs))[p]? = some (.ow d) ∧ (xs.map some)[p]? = some (some (.ref a))
  | _, _, _, _, _, _, .nil, _, _, _, j, hj => by cases hj
  | _, _, _, _, outs, r0, .val (md := md) (os := os) (xs := xs) (ds := ds) (d := d0) h t, l, nd, hl, j, hj => by
    have l' : outs.length = nref md := l
    obtain ⟨d, a, p, h1, h2, h3, h4⟩ := putOuts_in (r0 := r0) t l' nd hl j hj
    refine ⟨d, a, p + 1, ?_, h2, ?_, by simpa using h4⟩
    · unfold putOuts
      exact h1
    · show (argE (false :: md) (newD (false :: md) (d0 :: ds) outs))[p + 1]? = _
      unfold newD
      simpa [argE] using h3
  | _, _, _, _, [], r0, .ref (md := md) (os := os) (i := i) (a := a) g1 g2 t, l, nd, hl, j, hj => by
    have l' : 0 = nref md + 1 := l
    omega
  | _, _, _, _, o :: outs, r0, .ref (md := md) (os := os) (xs := xs) (ds := ds) (i := i) (a := a) (d := d0) g1 g2 t, l, nd, hl, j, hj => by
    have l' : outs.length + 1 = nref md + 1 := l
    have nd' := List.nodup_cons.mp (show (i :: locs os).Nodup from nd)
    have hj' : j ∈ i :: locs os := hj
    have e1 : (putOuts (.loc i :: os) (o :: outs) r0) = putOuts os outs (r0.set i (.ow o)) := by
      show putOuts (.loc i :: os) (o :: outs) r0 = _
      conv => lhs; unfold putOuts
    have e2 : newD (true :: md) (d0 :: ds) (o :: outs) = o :: newD md ds outs := by
      conv => lhs; unfold newD
    rcases List.mem_cons.mp hj' with rfl | hj'
    · refine ⟨o, a, 0, ?_, g2, ?_, rfl⟩
      · rw [e1, putOuts_out nd'.1, List.getElem?_set_self (hl _ (show j ∈ j :: locs os from List.mem_cons_self))]
      · rw [e2]
        rfl
    · obtain ⟨d, b, p, h1, h2, h3, h4⟩ := putOuts_in (outs := outs) (r0 := r0.set i (.ow o)) t (by omega) nd'.2 (fun z hz => by rw [List.length_set]; exact hl z (show z ∈ i :: locs os from List.mem_cons_of_mem _ hz)) j hj'
      refine ⟨d, b, p + 1, by rw [e1]; exact h1, h2, ?_, by simpa using h4⟩
      rw [e2]
      simpa [argE] using h3
/-- behind the call: the caller's environment -/
theorem call_back {md : List Bool} {os : List Opn} {xs : List V} {ds outs : List D} {H' G' : Hp} (rl : Rl U r σ H G) (h : ArgsR U r σ G md os xs ds) (sh : shp md os = true) (nd : (locs os).Nodup) (ow : (locs os).all (isOw r) = true) (l : outs.length = nref md)
    (rl' : Rl U (argE md (newD md ds outs)) (xs.map some) H' G') (t : Tr (argE md ds) (xs.map some) H G (argE md (newD md ds outs)) (xs.map some) H' G') :
    Rl U (putOuts os outs r) σ H' G' ∧ Tr r σ H G (putOuts os outs r) σ H' G' := by
  have hl : ∀ j ∈ locs os, j < r.length := fun j hj => by
    have := List.all_eq_true.mp ow j hj
    unfold isOw at this
    cases q : r[j]? with
    | none => rw [q] at this; cases this
    | some s => exact (List.getElem?_eq_some_iff.mp q).1
  have hw : ∀ j ∈ locs os, ∃ d : D, r[j]? = some (Slot.ow d) := fun j hj => by
    have := List.all_eq_true.mp ow j hj
    unfold isOw at this
    cases q : r[j]? with
    | none => rw [q] at this; cases this
    | some s =>
      rw [q] at this
      cases s with
      | ow d => exact ⟨d, rfl⟩
      | _ => cases this
  have all := putOuts_in (r0 := r) h l nd hl
  have back : ∀ (j : Nat) (d : D), (putOuts os outs r)[j]? = some (Slot.ow d) → ∃ d' : D, r[j]? = some (Slot.ow d') := fun j d e => by
    by_cases hj : j ∈ locs os
    · exact hw j hj
    · rw [putOuts_out hj] at e
      exact ⟨d, e⟩
  have ownB : ∀ a, OwnAt (putOuts os outs r) σ a → OwnAt r σ a := fun a ⟨j, d, h1, h2⟩ => by
    obtain ⟨d', e⟩ := back j d h1
    exact ⟨j, d', e, h2⟩
  refine ⟨⟨rl'.sub, by rw [putOuts_len]; exact rl.len, fun j s o h1 h2 => ?_, fun i j a d e ne h1 h2 => ?_⟩, ⟨t.g, fun b o e n => t.h b o e fun z => n (h.ownAt z), t.t, fun b z => .inl (ownB b z), fun b o e => ?_⟩⟩
  · by_cases hj : j ∈ locs os
    · obtain ⟨d, a, p, p1, p2, p3, p4⟩ := all j hj
      rw [h1] at p1
      cases p1
      rw [h2] at p2
      cases p2
      exact rl'.at_ p _ _ p3 p4
    · rw [putOuts_out hj] at h1
      have q := rl.at_ j s o h1 h2
      cases s with
      | un => trivial
      | fz d =>
        obtain ⟨v, e, q⟩ := q
        exact ⟨v, e, q.mono t.g⟩
      | ow d =>
        obtain ⟨a, e, hg, n⟩ := q
        subst e
        obtain ⟨u, hu⟩ := n.there
        have no : ¬ OwnAt (argE md ds) (xs.map some) a := fun ⟨p, d', h3, h4⟩ => by
          obtain ⟨i, b, i1, i2, i3, i4⟩ := h.own h3
          rw [h4] at i4
          cases i4
          have hi : i ∈ locs os := locs_get i1
          have ne : i ≠ j := fun z => hj (z ▸ hi)
          exact rl.ap i j _ _ _ ne i2 h1 i3 h2
        refine ⟨a, rfl, ?_, n.mono t.g ((t.h a u hu no).trans hu.symm)⟩
        cases z : G' a with
        | none => rfl
        | some w =>
          rcases t.f a w z with y | y | y
          · rw [hg] at y; cases y
          · rw [hu] at y; cases y
          · exact absurd y no
  · obtain ⟨d1, e1⟩ := back i d h1
    obtain ⟨d2, e2⟩ := back j e h2
    exact rl.ap i j a d1 d2 ne e1 e2
  · rcases t.f b o e with z | z | z
    · exact .inl z
    · exact .inr (.inl z)
    · exact .inr (.inr (h.ownAt z))
end

section
variable {X : Cx} {U : Wd} {T : Tbl} {W : WX} {k : Nat} {gd : Gd} {sc : Scope}
/-- the call's end: the def's promise -/
theorem fin_call {md : List Bool} {sem : List D → RC} {os : List Opn} {r : En} {σ : L2.St} {H0 H G : Hp} {xs : List V} {Q : V → Hp → Prop} (rl : Rl U r σ H G) (ro : relL (relO U) os r σ H0 G H xs)
    (q : Cont U W (relV U) (runCall md sem os r) r σ H G Q) : spT U md sem xs H Q (WE W σ) := by
  unfold runCall at q
  cases e : rsvs r os with
  | none => rw [e] at q; exact q.elim
  | some ds =>
    rw [e] at q
    by_cases hc : shp md os = true ∧ (locs os).Nodup ∧ (locs os).all (isOw r) = true
    · simp only [if_pos hc] at q
      obtain ⟨sh, nd, ow⟩ := hc
      have ar := args_of rl ro sh e ow
      refine ⟨G, ds, ar.len.1, ar.len.2, ar.rl rl nd, ?_⟩
      cases e2 : sem ds with
      | bad => rw [e2] at q; exact q.elim
      | exn ex outs =>
        simp only [e2] at q ⊢
        by_cases hl : outs.length = (locs os).length
        · rw [if_pos hl] at q
          have hl' : outs.length = nref md := hl.trans (nref_locs sh)
          refine ⟨hl', fun cls d H' G' rl' t' x => ?_⟩
          obtain ⟨rl2, t2⟩ := call_back rl ar sh nd ow hl' rl' t'
          exact q cls d H' G' rl2 t2 x
        · rw [if_neg hl] at q
          exact q.elim
      | ok v outs =>
        simp only [e2] at q ⊢
        by_cases hl : outs.length = (locs os).length
        · rw [if_pos hl] at q
          have hl' : outs.length = nref md := hl.trans (nref_locs sh)
          refine ⟨hl', fun x H' G' rl' t' rx => ?_⟩
          obtain ⟨rl2, t2⟩ := call_back rl ar sh nd ow hl' rl' t'
          refine q x H' G' rl2 t2 ?_
          cases v with
          | fz d => exact rx
          | ow d =>
            obtain ⟨a, ea, h1, h2, h3, h4⟩ := rx
            refine ⟨a, ea, h1, h2, h3, fun z => ?_⟩
            rcases t2.o a z with y | y
            · obtain ⟨o, w⟩ := rl.own_some y
              rw [h1] at w; cases w
            · obtain ⟨j, d', g1, g2⟩ := z
              by_cases hj : j ∈ locs os
              · have hl2 : ∀ j ∈ locs os, j < r.length := fun j hj => by
                  have := List.all_eq_true.mp ow j hj
                  unfold isOw at this
                  cases q : r[j]? with
                  | none => rw [q] at this; cases this
                  | some s => exact (List.getElem?_eq_some_iff.mp q).1
                obtain ⟨d2, b, p, p1, p2, p3, p4⟩ := putOuts_in (r0 := r) ar hl' nd hl2 j hj
                rw [g2] at p2
                cases p2
                exact h4 ⟨p, d2, p3, p4⟩
              · rw [putOuts_out hj] at g1
                obtain ⟨o, w⟩ := rl.own_some ⟨j, d', g1, g2⟩
                rw [h1] at w; cases w
        · rw [if_neg hl] at q
          exact q.elim
    · simp only [if_neg hc] at q
      exact q.elim
theorem snd_A1 {n : Nat} (c : Cok X U T W k gd sc) (hp : ∀ m e, chkE gd n sc m e = true → PE X e (Rg U W (relV U) (ev T n m))) (p : Bool × ME) (e : Expr) (h : chkE gd n sc p.2 e = true) : PE X e (Rg U W (relO U) (evA1 (ev T n) p)) := by
  obtain ⟨b, m⟩ := p
  cases b with
  | false =>
    refine pe_imp (hp m e h) fun σ H Q q => ?_
    obtain ⟨r, G, rl, q⟩ := q
    refine ⟨r, G, rl, ?_⟩
    have q' : Cont U W (relO U) ((ev T n m r).bind fun v r1 => .ok (.d v.d) r1) r σ H G Q := q
    cases e1 : ev T n m r with
    | bad => rw [e1] at q'; exact q'
    | exn ex r' => rw [e1] at q'; exact q'
    | ok v r' =>
      rw [e1] at q'
      intro x H' G' rl' t rx
      obtain ⟨G2, rl2, sm, rp, ff⟩ := relV_frz rl' rx
      exact q' x H' G2 rl2 (t.grow sm ff) rp
  | true =>
    by_cases hv : ∃ i, m = .var i
    · obtain ⟨i, rfl⟩ := hv
      cases n with
      | zero => cases h
      | succ n =>
        cases e <;> first | cases h; done | skip
        rename_i x pos
        have h' : (decide (gd.N[i]? = some x) && visB sc x) = true := h
        rw [Bool.and_eq_true] at h'
        obtain ⟨v1, v2, v3⟩ := c.vis h'.2
        have hN : X.N[i]? = some x := by
          rw [c.eN]
          exact of_decide_eq_true h'.1
        refine pe_imp (pe_var hN v1 v2 v3) fun σ H Q q => ?_
        obtain ⟨r, G, rl, q⟩ := q
        have q' : Cont U W (relO U) (match r[i]? with
          | some (.ow _) => .ok (.loc i) r
          | _ => .bad) r σ H G Q := q
        cases e : r[i]? with
        | none => rw [e] at q'; exact q'.elim
        | some s =>
          rw [e] at q'
          obtain ⟨o, ho⟩ := rl.val e
          cases s with
          | un => exact False.elim q'
          | fz d => exact False.elim q'
          | ow d =>
            obtain ⟨a, ea, _⟩ := rl.at_ i _ _ e ho
            subst ea
            exact ⟨_, ho, q' _ H G rl .refl ho⟩
    · have e1 : ∀ r, evA1 (ev T n) (true, m) r = .bad := fun r => by
        cases m <;> first | rfl | exact absurd ⟨_, rfl⟩ hv
      refine pe_imp (hp m e h) fun σ H Q q => ?_
      obtain ⟨r, G, rl, q⟩ := q
      rw [e1] at q
      exact q.elim
theorem all2_zip {n : Nat} {T' : Scope} : ∀ {md : List Bool} {ms : List ME} {es : List Expr}, md.length = ms.length → all2 (chkE gd n T') ms es = true → all2 (fun (p : Bool × ME) e => chkE gd n T' p.2 e) (md.zip ms) es = true
  | [], [], [], _, _ => rfl
  | b :: md, m :: ms, e :: es, l, h => by
    have h' : (chkE gd n T' m e && all2 (chkE gd n T') ms es) = true := h
    rw [Bool.and_eq_true] at h'
    show (chkE gd n T' m e && all2 _ (md.zip ms) es) = true
    rw [Bool.and_eq_true]
    exact ⟨h'.1, all2_zip (by simpa using l) h'.2⟩
  | [], _ :: _, _, l, _ => by simp at l
  | _ :: _, [], _, l, _ => by simp at l
  | _, [], _ :: _, _, h => by cases h
  | _, _ :: _, [], _, h => by cases h
theorem sx_call {n : Nat} {f x : Str} {ms : List ME} {es : List Expr} {p pos : Pos} (c : Cok X U T W k gd sc) (hp : ∀ m e, chkE gd n sc m e = true → PE X e (Rg U W (relV U) (ev T n m))) (ef : f = x) (hcm : gd.cm = true) (hg : glB sc x = true) (hf : gd.fns x = true) (hs : es.all nostar = true)
    (ha : all2 (chkE gd n sc) ms es = true) : SX X U W (ev T (n + 1)) (.call f ms) (.Call (.Name x p) es [] pos) := by
  subst ef
  obtain ⟨gl, db, nn⟩ := c.gl_ hg
  obtain ⟨a, fd, ps, m1, m2, m3, m4, F⟩ := (c.fn f hf).ex
  refine PX.sx (px_of ?_ fun _ => rfl)
  by_cases hl : (T.md f).length = ms.length
  · have e1 : ∀ r, ev T (n + 1) (.call f ms) r = (mapR (evA1 (ev T n)) ((T.md f).zip ms) r).bind (runCall (T.md f) (T.sem f)) := fun r => by
      show (evAs (ev T n) (T.md f) ms r).bind _ = _
      unfold evAs
      rw [if_pos hl]
    have go : ∀ σ H Q, Rg U W (relV U) (ev T (n + 1) (.call f ms)) σ H Q → tMany U W (relO U) (evA1 (ev T n)) ((T.md f).zip ms) σ H fun xs H1 => spT U (T.md f) (T.sem f) xs H1 Q (WE W σ) := fun σ H Q q => by
      obtain ⟨r, G, rl, q⟩ := q
      rw [e1] at q
      refine tmono (fun xs H1 z => ?_) _ (many (rel1 := relO U) (pss_O U) (pst_V U) rl q)
      obtain ⟨os, r1, G1, rl1, t1, ro, q1⟩ := z
      exact fin_call rl1 ro q1
    have pa := snd_many (rel := relO U) (snd_A1 c hp) (all2_zip (T' := sc) hl ha) hs
    cases es with
    | nil =>
      cases ms with
      | cons _ _ => cases ha
      | nil =>
        have e0 : (T.md f).zip ([] : List ME) = [] := by cases T.md f <;> rfl
        refine pe_imp (pe_callG0 F c.gu (c.rm hcm) gl m1 m2 m3 (E := WE W) (fun σ => passAt c.tk σ) db) fun σ H Q q => ?_
        have := go σ H Q q
        rw [e0] at this
        exact this
    | cons e es =>
      rw [List.all_cons, Bool.and_eq_true] at hs
      exact pe_imp (pe_callG F c.gu (c.rm hcm) gl m1 m2 m3 (E := WE W) (fun σ => passAt c.tk σ) pa db (star_cons _ hs.1) (star_any _ _ hs.2)) fun σ H Q q => go σ H Q q
  · refine ⟨fun pins s σ H Q I q => ?_⟩
    obtain ⟨r, G, rl, q⟩ := q
    have q' : Cont U W (relV U) ((evAs (ev T n) (T.md f) ms r).bind (runCall (T.md f) (T.sem f))) r σ H G Q := q
    unfold evAs at q'
    rw [if_neg hl] at q'
    exact q'.elim
theorem Reps.paired {G : Hp} : ∀ {xs : List V} {ds : List D}, Reps U G xs ds → Paired (fun d x => Rep U G x d) ds xs
  | _, _, .nil => .nil
  | _, _, .cons a t => .cons a t.paired
theorem reps_ops {r : En} {σ : L2.St} {H0 G H : Hp} : ∀ {xs : List V} {ds : List D}, Reps U G xs ds → relL (relO U) (ds.map .d) r σ H0 G H xs
  | _, _, .nil => .nil
  | _, _, .cons a t => .cons a (reps_ops t)
theorem pk_many {ι α : Type} {rel : Rel α V} {p : ι → En → R α} {ch : ι → Expr → Bool} (hp : ∀ m e, ch m e = true → PE X e (Rg U W rel (p m))) : ∀ {ms : List ι} {kws : List Keyword}, all2 ch ms (kws.map (·.value)) = true → PK X kws (tMany U W rel p ms)
  | [], [], _ => pk_nil
  | m :: ms, ⟨nm, e, kp⟩ :: kws, h => by
    have h' : (ch m e && all2 ch ms (kws.map (·.value))) = true := h
    rw [Bool.and_eq_true] at h'
    exact pk_cons (hp m e h'.1) (pk_many hp h'.2)
theorem tmany_len {ι α : Type} {rel : Rel α V} {p : ι → En → R α} {σ : L2.St} {Q : List V → Hp → Prop} : ∀ (es : List ι) {H : Hp}, tMany U W rel p es σ H Q → tMany U W rel p es σ H fun xs H' => xs.length = es.length ∧ Q xs H'
  | [], H, h => ⟨rfl, h⟩
  | e :: es, H, h => by
    obtain ⟨r, G, rl, c⟩ := h
    exact ⟨r, G, rl, c.imp fun x H1 z => tmono (fun xs H2 w => ⟨congrArg (· + 1) w.1, w.2⟩) es (tmany_len es z)⟩
theorem sx_callK {n : Nat} {f x : Str} {ks : List Str} {ms : List ME} {kws : List Keyword} {p pos : Pos} (c : Cok X U T W k gd sc) (hp : ∀ m e, chkE gd n sc m e = true → PE X e (Rg U W (relF U) (evF (ev T n) m))) (ef : f = x) (hcm : gd.cm = true) (hg : glB sc x = true) (hn : kws.map (·.arg) = ks.map some)
    (ha : all2 (chkE gd n sc) ms (kws.map (·.value)) = true) : SX X U W (ev T (n + 1)) (.callk f ks ms) (.Call (.Name x p) [] kws pos) := by
  subst ef
  obtain ⟨gl, db, nn⟩ := c.gl_ hg
  refine PX.sx (px_of ?_ fun _ => rfl)
  have hl : ms.length = ks.length := by
    have h1 := all2_len ha
    have h2 := congrArg List.length hn
    simp at h1 h2
    omega
  cases e0 : T.kw f ks with
  | none =>
    refine pe_imp (t := fun σ H Q => False) ⟨fun pins s σ H Q I q => False.elim q⟩ fun σ H Q q => ?_
    obtain ⟨r, G, rl, q⟩ := q
    have q' : Cont U W (relV U) (match T.kw f ks with
      | some g => (mapR (evF (ev T n)) ms r).bind fun ds r1 => runCall (T.md f) (T.sem f) ((g ds).map .d) r1
      | none => .bad) r σ H G Q := q
    rw [e0] at q'
    exact q'
  | some g0 =>
    obtain ⟨a, fd, ps, g, gV, m1, m2, m3, m4, F⟩ := (c.kw f ks g0 e0).ex
    refine pe_imp (pe_callKG F c.gu (c.rm hcm) gl m1 m2 m3 (E := WE W) (fun σ => passAt c.tk σ) (pk_many hp ha) hn db) fun σ H Q q => ?_
    obtain ⟨r, G, rl, q⟩ := q
    have q' : Cont U W (relV U) ((mapR (evF (ev T n)) ms r).bind fun ds r1 => runCall (T.md f) (T.sem f) ((g0 ds).map .d) r1) r σ H G Q := by
      have e2 : ev T (n + 1) (.callk f ks ms) r = (mapR (evF (ev T n)) ms r).bind fun ds r1 => runCall (T.md f) (T.sem f) ((g0 ds).map .d) r1 := by
        show (match T.kw f ks with
          | some g => (mapR (evF (ev T n)) ms r).bind fun ds r1 => runCall (T.md f) (T.sem f) ((g ds).map .d) r1
          | none => .bad) = _
        rw [e0]
      rw [← e2]
      exact q
    refine tmono (fun xs H1 z => ?_) _ (tmany_len _ (many (rel1 := relF U) (pss_F U) (pst_V U) rl q'))
    obtain ⟨zl, ds, r1, G1, rl1, t1, ro, q1⟩ := z
    have hz : xs.length = ks.length := zl.trans hl
    exact ⟨hz, fin_call (H0 := H1) rl1 (reps_ops (m4 G1 xs ds hz (Reps.of_paired ro))) q1⟩
end
end Mp

set_option Elab.async false
set_option linter.all false
set_option maxRecDepth 100000
set_option maxHeartbeats 8000000
/-! Mp, part 14: targets, what is walked. -/
namespace Mp
open PySem PySem.Spec PyProof.Rows L2

def gNames : List Nat → TGs
  | [] => gNil
  | i :: is => gCons (gName i) (gNames is)
def tgG (K : Fg) : Tg → TG
  | .nm i => gName i
  | .tp is => gTup K is.length (gNames is)
section
variable {X : Cx} {gd : Gd} {sc : Scope}
theorem pg_nm {p : Bool} {i : Nat} {e : Expr} (nd : X.N.Nodup) (eN : X.N = gd.N) (es : X.env.scope = sc) (fc : p = true → ∀ x, sc.names.lookup x = some .cell → X.fn x = true) (h : nmB p gd sc i e = true) : PG X e (gName i) ∧ nostar e = true ∧ ∃ x p, e = .Name x p := by
  cases e <;> first | (cases h; done) | skip
  rename_i x q
  have h' : (decide (gd.N[i]? = some x) && (decide (sc.names.lookup x = some .local) || (p && decide (sc.names.lookup x = some .cell)))) = true := h
  simp only [Bool.and_eq_true, Bool.or_eq_true, decide_eq_true_eq] at h'
  refine ⟨?_, rfl, x, q, rfl⟩
  rcases h'.2 with hl | ⟨hp, hl⟩
  · have hl : X.env.scope.names.lookup x = some .local := by rw [es]; exact hl
    exact pg_name nd (by rw [eN]; exact h'.1) (.inl hl) (.inr hl)
  · have fx := fc hp x hl
    have hl : X.env.scope.names.lookup x = some .cell := by rw [es]; exact hl
    exact pg_name nd (by rw [eN]; exact h'.1) (.inr hl) (.inl fx)
theorem pgs_nms {p : Bool} (nd : X.N.Nodup) (eN : X.N = gd.N) (e0 : X.env.scope = sc) (fc : p = true → ∀ x, sc.names.lookup x = some .cell → X.fn x = true) : ∀ {is : List Nat} {es : List Expr}, all2 (nmB p gd sc) is es = true → PGs X es (gNames is) ∧ (assignEach es X.env).length = is.length ∧ (assignEach es X.env).findIdx? (fun z => z.1) = none
  | [], [], _ => ⟨pgs_nil, rfl, rfl⟩
  | i :: is, e :: es, h => by
    have h' : (nmB p gd sc i e && all2 (nmB p gd sc) is es) = true := h
    rw [Bool.and_eq_true] at h'
    obtain ⟨g1, g2, x, q, rfl⟩ := pg_nm nd eN e0 fc h'.1
    obtain ⟨t1, t2, t3⟩ := pgs_nms nd eN e0 fc h'.2
    refine ⟨pgs_cons g1 t1 rfl, ?_, ?_⟩
    · show (assignEach es X.env).length + 1 = is.length + 1
      rw [t2]
    · show List.findIdx? (fun z => z.1) ((false, assign (Expr.Name x q) X.env) :: assignEach es X.env) = none
      rw [List.findIdx?_cons, t3]
      rfl
  | [], _ :: _, h => by cases h
  | _ :: _, [], h => by cases h
theorem snd_tgP {p : Bool} {tg : Tg} {e : Expr} (nd : X.N.Nodup) (eN : X.N = gd.N) (e0 : X.env.scope = sc) (calm : X.calm = true) (fc : p = true → ∀ x, sc.names.lookup x = some .cell → X.fn x = true) (h : chkTg p gd sc tg e = true) : PG X e (tgG X.K tg) := by
  cases tg with
  | nm i => exact (pg_nm nd eN e0 fc h).1
  | tp is =>
    cases e <;> first | (cases h; done) | skip
    obtain ⟨t1, t2, t3⟩ := pgs_nms nd eN e0 fc h
    exact pg_tup calm t1 t2 t3
theorem snd_tg {tg : Tg} {e : Expr} (nd : X.N.Nodup) (eN : X.N = gd.N) (e0 : X.env.scope = sc) (calm : X.calm = true) (h : chkTg false gd sc tg e = true) : PG X e (tgG X.K tg) := snd_tgP nd eN e0 calm (fun h => by cases h) h
end

/-! ### stores -/
section
variable {U : Wd}
/-- a slot is stored at: frozen -/
theorem Rl.setFz {r : En} {σ : L2.St} {H G : Hp} (rl : Rl U r σ H G) {i : Nat} {v : V} {d : D} (h : Rep U G v d) : Rl U (r.set i (.fz d)) (σ.set i (some v)) H G := by
  refine ⟨rl.sub, by rw [List.length_set, List.length_set]; exact rl.len, fun j s o g1 g2 => ?_, fun j l a d1 d2 ne g1 g2 g3 g4 => ?_⟩
  · rcases set_get g1 with ⟨rfl, rfl⟩ | ⟨ne, g1⟩
    · have l : j < σ.length := by
        have := (List.getElem?_eq_some_iff.mp g2).1
        rwa [List.length_set] at this
      rw [List.getElem?_set_self l] at g2
      cases g2
      exact ⟨v, rfl, h⟩
    · rw [List.getElem?_set_ne (Ne.symm ne)] at g2
      exact rl.at_ j s o g1 g2
  · rcases set_get g1 with ⟨_, z⟩ | ⟨n1, g1⟩
    · cases z
    rcases set_get g2 with ⟨_, z⟩ | ⟨n2, g2⟩
    · cases z
    rw [List.getElem?_set_ne (Ne.symm n1)] at g3
    rw [List.getElem?_set_ne (Ne.symm n2)] at g4
    exact rl.ap j l a d1 d2 ne g1 g2 g3 g4
theorem own_setFz {r : En} {σ : L2.St} {i : Nat} {v : V} {d : D} {a : Addr} (h : OwnAt (r.set i (.fz d)) (σ.set i (some v)) a) : OwnAt r σ a := by
  obtain ⟨j, e, h1, h2⟩ := h
  rcases set_get h1 with ⟨_, z⟩ | ⟨n, z⟩
  · cases z
  · rw [List.getElem?_set_ne (Ne.symm n)] at h2
    exact ⟨j, e, z, h2⟩
/-- only slots change, no new own ones -/
theorem Tr.slots {r r' : En} {σ σ' : L2.St} {H G : Hp} (h : ∀ a, OwnAt r' σ' a → OwnAt r σ a) : Tr r σ H G r' σ' H G := ⟨Same.refl _, fun _ _ e _ => e, fun _ o e => ⟨o, e⟩, fun b z => .inl (h b z), fun _ _ e => .inl e⟩
def setS (σ : L2.St) : List Nat → List V → L2.St
  | i :: is, v :: vs => setS (σ.set i (some v)) is vs
  | _, _ => σ
def putL (r : En) : List Nat → List D → En
  | i :: is, d :: ds => putL (r.set i (.fz d)) is ds
  | _, _ => r
theorem putL_foldl : ∀ (is : List Nat) (ds : List D) (r : En), (is.zip ds).foldl (fun r p => r.set p.1 (Slot.fz p.2)) r = putL r is ds
  | [], _, _ => by cases ‹List D› <;> rfl
  | _ :: _, [], _ => rfl
  | i :: is, d :: ds, r => putL_foldl is ds (r.set i (.fz d))
theorem Rl.setL : ∀ {is : List Nat} {vs : List V} {ds : List D} {r : En} {σ : L2.St} {H G : Hp}, Rl U r σ H G → Reps U G vs ds → Rl U (putL r is ds) (setS σ is vs) H G ∧ ∀ a, OwnAt (putL r is ds) (setS σ is vs) a → OwnAt r σ a
  | [], _, _, _, _, _, _, rl, h => by cases h <;> exact ⟨rl, fun _ z => z⟩
  | _ :: _, _, _, _, _, _, _, rl, .nil => ⟨rl, fun _ z => z⟩
  | i :: is, _, _, _, _, _, _, rl, .cons h t => by
    obtain ⟨a1, a2⟩ := (rl.setFz (i := i) h).setL (is := is) t
    exact ⟨a1, fun a z => own_setFz (a2 a z)⟩
theorem gNames_set : ∀ {is : List Nat} {vs : List V} {σ : L2.St} {H : Hp} {Q : L2.St → Hp → Prop}, vs.length = is.length → Q (setS σ is vs) H → gNames is vs σ H Q
  | [], [], _, _, _, _, q => ⟨rfl, q⟩
  | i :: is, v :: vs, _, _, _, l, q => ⟨v, vs, rfl, gNames_set (is := is) (by simpa using l) q⟩
  | [], _ :: _, _, _, _, l, _ => by simp at l
  | _ :: _, [], _, _, _, l, _ => by simp at l
theorem setS_get : ∀ {is : List Nat} {vs : List V} {σ : L2.St} {j : Nat}, j ∉ is → (setS σ is vs)[j]? = σ[j]?
  | [], _, _, _, _ => by cases ‹List V› <;> rfl
  | _ :: _, [], _, _, _ => rfl
  | i :: is, v :: vs, σ, j, h => by
    show (setS (σ.set i (some v)) is vs)[j]? = _
    rw [setS_get fun z => h (List.mem_cons_of_mem _ z), List.getElem?_set_ne fun e => h (by rw [e]; exact List.mem_cons_self)]
theorem setS_len : ∀ {is : List Nat} {vs : List V} {σ : L2.St}, (setS σ is vs).length = σ.length
  | [], _, _ => by cases ‹List V› <;> rfl
  | _ :: _, [], _ => rfl
  | i :: is, v :: vs, σ => by
    show (setS (σ.set i (some v)) is vs).length = _
    rw [setS_len, List.length_set]
/-- a target is stored at -/
theorem put_ok {tg : Tg} {d : D} {r r' : En} {σ : L2.St} {H G : Hp} {x : V} {K : Fg} (eK : U.K = K) (h : put tg d r = some r') (rl : Rl U r σ H G) (rx : Rep U G x d) {Q : L2.St → Hp → Prop}
    (q : ∀ σ', Rl U r' σ' H G → (∀ a, OwnAt r' σ' a → OwnAt r σ a) → (∀ j, j ∉ tg.slots → σ'[j]? = σ[j]?) → σ'.length = σ.length → Q σ' H) : tgG K tg x σ H Q := by
  cases tg with
  | nm i =>
    have h' : (if i < r.length then some (r.set i (.fz d)) else none) = some r' := h
    split at h'
    · cases h'
      exact q _ (rl.setFz rx) (fun a z => own_setFz z) (fun j hj => List.getElem?_set_ne fun e => hj (by rw [← e]; exact List.mem_cons_self)) (List.length_set ..)
    · cases h'
  | tp is =>
    cases d <;> first | (cases h; done) | skip
    rename_i ds
    have h' : (if is.length = ds.length ∧ is.all (· < r.length) ∧ is.Nodup then some ((is.zip ds).foldl (fun r p => r.set p.1 (.fz p.2)) r) else none) = some r' := h
    split at h'
    · rename_i hc
      cases h'
      rw [putL_foldl] at q
      cases rx with
      | tup hs hr =>
        rename_i a vs
        obtain ⟨a1, a2⟩ := rl.setL (is := is) hr
        refine ⟨a, vs, rfl, by rw [← eK]; exact SqT.sub rl.sub hs, by rw [hr.length, hc.1], gNames_set (by rw [hr.length, hc.1]) ?_⟩
        exact q _ a1 a2 (fun j hj => setS_get hj) setS_len
    · cases h'
end

/-! ### walks -/
/-- an iterator gives these, one after the other -/
def ItOk (U : Wd) (J : It) (xs : List D) (G0 : Hp) : Prop := ∀ (i : Nat) (G H : Hp), Same G0 G → Sub G H →
  (∀ d, xs[i]? = some d → J.go i H ∧ ∀ x H', J.yld i H x H' → ∃ G', Adv G H G' H' ∧ Rep U G' x d) ∧ (xs.length ≤ i → J.stop i H)
theorem ItOk.mono {U : Wd} {J : It} {xs : List D} {G G' : Hp} (h : ItOk U J xs G) (s : Same G G') : ItOk U J xs G' := fun i G2 H a b => h i G2 H (s.trans a) b
def relI (U : Wd) : Rel (List D) It := fun xs _ _ _ G' _ J => ItOk U J xs G'
theorem pst_I (U : Wd) : Pst (relI U) := ⟨fun h _ => h⟩
def evI (f : ME → En → R Val) (ik : Nat) (its : List ME) (r : En) : R (List D) := (mapR (evF f) its r).bind fun ds r1 => ofOpt (walkD ik ds) r1
section
variable {U : Wd} {G : Hp}
theorem it_lst {K : Fg} (eK : U.K = K) {a : Addr} {vs : List V} {ds : List D} (h : G a = some (.lst vs)) (r : Reps U G vs ds) : ItOk U (Itl K a) ds G := by
  intro i G' H sm sb
  have hs : SqL K H a vs := SqL.of (lst_sub sb (sm _ _ h))
  refine ⟨fun d e => ?_, fun l => ⟨vs, hs, by rw [r.length]; exact l⟩⟩
  obtain ⟨v, ev, rv⟩ := r.get e
  refine ⟨⟨vs, v, hs, ev⟩, fun x H' ⟨e1, e2⟩ => ?_⟩
  subst e1
  have := (e2 vs hs).symm.trans ev
  cases this
  exact ⟨G', .refl sb, rv.mono sm⟩
theorem it_tup {K : Fg} (eK : U.K = K) {a : Addr} {vs : List V} {ds : List D} (h : SqT U.K G a vs) (r : Reps U G vs ds) : ItOk U (Itt K a) ds G := by
  intro i G' H sm sb
  have hs : SqT K H a vs := by rw [← eK]; exact SqT.sub sb (same_sqT sm h)
  refine ⟨fun d e => ?_, fun l => ⟨vs, hs, by rw [r.length]; exact l⟩⟩
  obtain ⟨v, ev, rv⟩ := r.get e
  refine ⟨⟨vs, v, hs, ev⟩, fun x H' ⟨e1, e2⟩ => ?_⟩
  subst e1
  have := (e2 vs hs).symm.trans ev
  cases this
  exact ⟨G', .refl sb, rv.mono sm⟩
theorem it_scr {K : Fg} (eK : U.K = K) {a : Addr} {ns : List Int} (h : SqL U.K G a (ns.map V.int)) : ItOk U (Itl K a) (ns.map .int) G := by
  intro i G' H sm sb
  have hs : SqL K H a (ns.map V.int) := by rw [← eK]; exact SqL.sub sb (sm.seq h)
  refine ⟨fun d e => ?_, fun l => ⟨_, hs, by simpa using l⟩⟩
  rw [List.getElem?_map] at e
  cases q : ns[i]? with
  | none => rw [q] at e; cases e
  | some n =>
    rw [q] at e
    cases e
    refine ⟨⟨_, .int n, hs, by rw [List.getElem?_map, q]; rfl⟩, fun x H' ⟨e1, e2⟩ => ?_⟩
    subst e1
    have := e2 _ hs
    rw [List.getElem?_map, q] at this
    cases this
    exact ⟨G', .refl sb, .int n⟩
theorem it_rng (lo : Int) (n : Nat) : ItOk U (Itr lo n) ((List.range n).map fun (k : Nat) => .int (lo + k)) G := by
  intro i G' H sm sb
  refine ⟨fun d e => ?_, fun l => (show n ≤ i by simpa using l)⟩
  rw [List.getElem?_map] at e
  cases q : (List.range n)[i]? with
  | none => rw [q] at e; cases e
  | some m =>
    rw [q] at e
    cases e
    obtain ⟨h1, h2⟩ := List.getElem?_eq_some_iff.mp q
    simp at h1 h2
    subst h2
    refine ⟨h1, fun x H' ⟨e1, e2⟩ => ?_⟩
    subst e1 e2
    exact ⟨G', .refl sb, .int _⟩
theorem it_str (z : Str) : ItOk U (Its z) (z.cps.toList.map fun c => .str ⟨#[c]⟩) G := by
  intro i G' H sm sb
  refine ⟨fun d e => ?_, fun l => by simpa [Its] using l⟩
  rw [List.getElem?_map] at e
  cases q : z.cps.toList[i]? with
  | none => rw [q] at e; cases e
  | some m =>
    rw [q] at e
    cases e
    have q' : z.cps[i]? = some m := by simpa using q
    refine ⟨(Array.getElem?_eq_some_iff.mp q').1, fun x H' ⟨e1, c, e2, e3⟩ => ?_⟩
    subst e1 e3
    rw [q'] at e2
    cases e2
    exact ⟨G', .refl sb, .str _⟩
theorem it_enum {K : Fg} (eK : U.K = K) {a : Addr} {vs : List V} {ds : List D} (h : G a = some (.lst vs)) (r : Reps U G vs ds) : ItOk U (Ite K a) (ds.zipIdx.map fun p => .tup [.int (p.2 : Nat), p.1]) G := by
  intro i G' H sm sb
  have hs : SqL K H a vs := SqL.of (lst_sub sb (sm _ _ h))
  refine ⟨fun d e => ?_, fun l => ⟨vs, hs, by rw [r.length]; simpa using l⟩⟩
  rw [List.getElem?_map, List.getElem?_zipIdx] at e
  cases q : ds[i]? with
  | none => rw [q] at e; cases e
  | some d0 =>
    rw [q] at e
    cases e
    obtain ⟨v, ev, rv⟩ := r.get q
    refine ⟨⟨vs, v, hs, ev⟩, fun x H' ⟨t, x1, e1, nt, e2, e3⟩ => ?_⟩
    have := (e3 vs hs).symm.trans ev
    cases this
    subst e1 e2
    refine ⟨upd G' t (.tup [.int (i : Nat), v]), .frz sb nt, .tup (SqT.of upd_same) ?_⟩
    have e4 : ((0 + i : Nat) : Int) = ((i : Nat) : Int) := by simp
    show Reps U _ [V.int (i : Nat), v] [D.int ((0 + i : Nat) : Int), d0]
    rw [e4]
    exact .cons (.int _) (.cons ((rv.mono sm).mono (same_new (sb.none nt))) .nil)
theorem it_zipL {K : Fg} (eK : U.K = K) {a b : Addr} {vs ws : List V} {ds es : List D} (h : G a = some (.lst vs)) (r : Reps U G vs ds) (h2 : G b = some (.lst ws)) (r2 : Reps U G ws es) : ItOk U (Itz K a b) (List.zipWith (fun x y => .tup [x, y]) ds es) G := by
  intro i G' H sm sb
  have hs : SqL K H a vs := SqL.of (lst_sub sb (sm _ _ h))
  have hs2 : SqL K H b ws := SqL.of (lst_sub sb (sm _ _ h2))
  refine ⟨fun d e => ?_, fun l => ⟨vs, ws, hs, hs2, by rw [r.length, r2.length]; rw [List.length_zipWith] at l; omega⟩⟩
  rw [List.getElem?_zipWith] at e
  cases q : ds[i]? with
  | none => rw [q] at e; cases e
  | some d0 =>
    rw [q] at e
    cases q2 : es[i]? with
    | none => rw [q2] at e; cases e
    | some e0 =>
      rw [q2] at e
      cases e
      obtain ⟨v, ev, rv⟩ := r.get q
      obtain ⟨w, ew, rw'⟩ := r2.get q2
      refine ⟨⟨vs, ws, v, w, hs, hs2, ev, ew⟩, fun x H' ⟨t, x1, y1, e1, nt, e2, e3, e4⟩ => ?_⟩
      have := (e3 vs hs).symm.trans ev
      cases this
      have := (e4 ws hs2).symm.trans ew
      cases this
      subst e1 e2
      exact ⟨upd G' t (.tup [v, w]), .frz sb nt, .tup (SqT.of upd_same) (.cons ((rv.mono sm).mono (same_new (sb.none nt))) (.cons ((rw'.mono sm).mono (same_new (sb.none nt))) .nil))⟩
theorem it_zipT {K : Fg} (eK : U.K = K) {a b : Addr} {vs ws : List V} {ds es : List D} (h : SqT U.K G a vs) (r : Reps U G vs ds) (h2 : SqT U.K G b ws) (r2 : Reps U G ws es) : ItOk U (RZ.ItzT K a b) (List.zipWith (fun x y => .tup [x, y]) ds es) G := by
  intro i G' H sm sb
  have hs : SqT K H a vs := by rw [← eK]; exact SqT.sub sb (same_sqT sm h)
  have hs2 : SqT K H b ws := by rw [← eK]; exact SqT.sub sb (same_sqT sm h2)
  refine ⟨fun d e => ?_, fun l => ⟨vs, ws, hs, hs2, by rw [r.length, r2.length]; rw [List.length_zipWith] at l; omega⟩⟩
  rw [List.getElem?_zipWith] at e
  cases q : ds[i]? with
  | none => rw [q] at e; cases e
  | some d0 =>
    rw [q] at e
    cases q2 : es[i]? with
    | none => rw [q2] at e; cases e
    | some e0 =>
      rw [q2] at e
      cases e
      obtain ⟨v, ev, rv⟩ := r.get q
      obtain ⟨w, ew, rw'⟩ := r2.get q2
      refine ⟨⟨vs, ws, v, w, hs, hs2, ev, ew⟩, fun x H' ⟨t, x1, y1, e1, nt, e2, e3, e4⟩ => ?_⟩
      have := (e3 vs hs).symm.trans ev
      cases this
      have := (e4 ws hs2).symm.trans ew
      cases this
      subst e1 e2
      exact ⟨upd G' t (.tup [v, w]), .frz sb nt, .tup (SqT.of upd_same) (.cons ((rv.mono sm).mono (same_new (sb.none nt))) (.cons ((rw'.mono sm).mono (same_new (sb.none nt))) .nil))⟩
end
theorem pi_imp {X : Cx} {tg e : Expr} {t t' : TI} (h : PI X tg e t) (i : ∀ σ H R, t' σ H R → t σ H R) : PI X tg e t' := ⟨fun pins s σ H R I q => h.run pins s σ H R I (i _ _ _ q)⟩
theorem pi_or {X : Cx} {tg e : Expr} {t t' : TI} (h : PI X tg e t) (h' : PI X tg e t') : PI X tg e (fun σ H R => t σ H R ∨ t' σ H R) := ⟨fun pins s σ H R I q => q.elim (h.run pins s σ H R I) (h'.run pins s σ H R I)⟩
end Mp

set_option Elab.async false
set_option linter.all false
set_option maxRecDepth 100000
set_option maxHeartbeats 8000000
/-! Mp, part 15: walks and comprehensions; every expression. -/
namespace Mp
open PySem PySem.Spec PyProof.Rows L2

section
variable {X : Cx} {U : Wd} {T : Tbl} {W : WX} {k : Nat} {gd : Gd} {sc : Scope} {f : ME → En → R Val}
theorem evI_one {ik : Nat} {m : ME} {r : En} : evI f ik [m] r = (evF f m r).bind fun d r1 => ofOpt (walkD ik [d]) r1 := by
  show (((evF f m r).bind fun o r1 => (R.ok ([] : List D) r1).bind fun os r2 => .ok (o :: os) r2).bind fun ds r1 => ofOpt (walkD ik ds) r1) = _
  cases evF f m r <;> rfl
theorem evI_two {ik : Nat} {m m2 : ME} {r : En} : evI f ik [m, m2] r = (evF f m r).bind fun d r1 => (evF f m2 r1).bind fun d2 r2 => ofOpt (walkD ik [d, d2]) r2 := by
  show (((evF f m r).bind fun o r1 => ((evF f m2 r1).bind fun o2 r2 => (R.ok ([] : List D) r2).bind fun os r3 => .ok (o2 :: os) r3).bind fun os r2 => .ok (o :: os) r2).bind fun ds r1 => ofOpt (walkD ik ds) r1) = _
  cases evF f m r with
  | bad => rfl
  | exn _ _ => rfl
  | ok d r1 =>
    show ((((evF f m2 r1).bind fun o2 r2 => (R.ok ([] : List D) r2).bind fun os r3 => .ok (o2 :: os) r3).bind fun os r2 => .ok (d :: os) r2).bind fun ds r1 => ofOpt (walkD ik ds) r1) = (evF f m2 r1).bind fun d2 r2 => ofOpt (walkD ik [d, d2]) r2
    cases evF f m2 r1 <;> rfl
theorem walk_fin {ik : Nat} {ds : List D} {r : En} {σ : L2.St} {H G : Hp} {R : It → Hp → Prop} (rl : Rl U r σ H G) (q : Cont U W (relI U) (ofOpt (walkD ik ds) r) r σ H G R) : ∃ xs, walkD ik ds = some xs ∧ ∀ J, ItOk U J xs G → R J H := by
  cases e : walkD ik ds with
  | none => rw [e] at q; exact q.elim
  | some xs =>
    rw [e] at q
    exact ⟨xs, rfl, fun J h => q J H G rl .refl h⟩
theorem one_walk {ik : Nat} {m : ME} {σ : L2.St} {H : Hp} {R : It → Hp → Prop} (q : Rg U W (relI U) (evI f ik [m]) σ H R) : Rg U W (relF U) (evF f m) σ H fun x H1 => ∃ d G xs, Sub G H1 ∧ Rep U G x d ∧ walkD ik [d] = some xs ∧ ∀ J, ItOk U J xs G → R J H1 := by
  obtain ⟨r, G, rl, q⟩ := q
  rw [evI_one] at q
  refine ⟨r, G, rl, (Cont.bind (rel1 := relF U) (pst_I U) q).imp fun x H1 ⟨d, r1, G1, rl1, t1, rx, q1⟩ => ?_⟩
  obtain ⟨xs, e, h⟩ := walk_fin rl1 q1
  exact ⟨d, G1, xs, rl1.sub, rx, e, h⟩
theorem two_walk {ik : Nat} {m m2 : ME} {σ : L2.St} {H : Hp} {R : It → Hp → Prop} (q : Rg U W (relI U) (evI f ik [m, m2]) σ H R) :
    Rg U W (relF U) (evF f m) σ H fun x H1 => Rg U W (relF U) (evF f m2) σ H1 fun y H2 => ∃ d d2 G xs, Sub G H2 ∧ Rep U G x d ∧ Rep U G y d2 ∧ walkD ik [d, d2] = some xs ∧ ∀ J, ItOk U J xs G → R J H2 := by
  obtain ⟨r, G, rl, q⟩ := q
  rw [evI_two] at q
  refine ⟨r, G, rl, (Cont.bind (rel1 := relF U) (pst_I U) q).imp fun x H1 ⟨d, r1, G1, rl1, t1, rx, q1⟩ => ?_⟩
  refine ⟨r1, G1, rl1, (Cont.bind (rel1 := relF U) (pst_I U) q1).imp fun y H2 ⟨d2, r2, G2, rl2, t2, ry, q2⟩ => ?_⟩
  obtain ⟨xs, e, h⟩ := walk_fin rl2 q2
  exact ⟨d, d2, G2, xs, rl2.sub, Rep.mono t2.g rx, ry, e, h⟩
/-- the case is known ahead -/
theorem case_walk {m : ME} {σ : L2.St} {H : Hp} {R : It → Hp → Prop} {P1 P2 P3 : V → Hp → Prop} (q : Rg U W (relI U) (evI f 0 [m]) σ H R)
    (h1 : ∀ x d G xs H1, Sub G H1 → Rep U G x d → (∃ ds, d = .lst ds ∨ ∃ ns, d = .scr ns) → walkD 0 [d] = some xs → (∀ J, ItOk U J xs G → R J H1) → P1 x H1)
    (h2 : ∀ x ds G xs H1, Sub G H1 → Rep U G x (.tup ds) → walkD 0 [.tup ds] = some xs → (∀ J, ItOk U J xs G → R J H1) → P2 x H1)
    (h3 : ∀ x z G xs H1, Sub G H1 → Rep U G x (.str z) → walkD 0 [.str z] = some xs → (∀ J, ItOk U J xs G → R J H1) → P3 x H1) :
    Rg U W (relF U) (evF f m) σ H P1 ∨ Rg U W (relF U) (evF f m) σ H P2 ∨ Rg U W (relF U) (evF f m) σ H P3 := by
  obtain ⟨r, G, rl, q⟩ := q
  rw [evI_one] at q
  cases e : evF f m r with
  | bad => rw [e] at q; exact q.elim
  | exn ex r' =>
    rw [e] at q
    exact .inl ⟨r, G, rl, by rw [e]; exact q⟩
  | ok d r1 =>
    rw [e] at q
    have q' : Cont U W (relI U) (ofOpt (walkD 0 [d]) r1) r σ H G R := q
    cases e2 : walkD 0 [d] with
    | none => rw [e2] at q'; exact q'.elim
    | some xs =>
      rw [e2] at q'
      have go : ∀ H' G', Rl U r1 σ H' G' → Tr r σ H G r1 σ H' G' → ∀ J, ItOk U J xs G' → R J H' := fun H' G' a b J c => q' J H' G' a b c
      cases d with
      | lst ds => exact .inl ⟨r, G, rl, by rw [e]; exact fun x H' G' a b c => h1 x _ G' xs H' a.sub c ⟨ds, .inl rfl⟩ e2 (go H' G' a b)⟩
      | scr ns => exact .inl ⟨r, G, rl, by rw [e]; exact fun x H' G' a b c => h1 x _ G' xs H' a.sub c ⟨[], .inr ⟨ns, rfl⟩⟩ e2 (go H' G' a b)⟩
      | tup ds => exact .inr (.inl ⟨r, G, rl, by rw [e]; exact fun x H' G' a b c => h2 x _ G' xs H' a.sub c e2 (go H' G' a b)⟩)
      | str z => exact .inr (.inr ⟨r, G, rl, by rw [e]; exact fun x H' G' a b c => h3 x _ G' xs H' a.sub c e2 (go H' G' a b)⟩)
      | _ => cases e2
theorem snd_it {n : Nat} {ik : Nat} {ms : List ME} {tg e : Expr} (c : Cok X U T W k gd sc) (hp : ∀ m e, chkE gd n sc m e = true → PE X e (Rg U W (relV U) (ev T n m))) (h : chkIt gd sc (chkE gd n sc) ik ms tg e = true) : PI X tg e (Rg U W (relI U) (evI (ev T n) ik ms)) := by
  have hF : ∀ m e, chkE gd n sc m e = true → PE X e (Rg U W (relF U) (evF (ev T n) m)) := fun m e q => snd_F (hp m e q)
  unfold chkIt at h
  split at h
  · rename_i m
    rw [Bool.and_eq_true] at h
    have h1 := hF _ _ h.1
    refine pi_imp (pi_or (pi_list h1) (pi_or (pi_tup h1) (pi_str h1))) fun σ H R q => ?_
    refine case_walk q (fun x d G xs H1 sb rx hd ew go => ?_) (fun x ds G xs H1 sb rx ew go => ?_) fun x z G xs H1 sb rx ew go => ?_
    · obtain ⟨ds, rfl | ⟨ns, rfl⟩⟩ := hd
      · have ew' : (if ds.length ≤ sizeLine then some ds else none) = some xs := ew
        split at ew' <;> cases ew'
        cases rx with
        | lst hg hr => exact ⟨_, rfl, ⟨_, SqL.of (lst_sub sb hg)⟩, go _ (it_lst c.eK hg hr)⟩
      · have ew' : (if ns.length ≤ sizeLine then some (ns.map D.int) else none) = some xs := ew
        split at ew' <;> cases ew'
        cases rx with
        | scr hs => exact ⟨_, rfl, ⟨_, by rw [← c.eK]; exact SqL.sub sb hs⟩, go _ (it_scr c.eK hs)⟩
    · have ew' : (if ds.length ≤ sizeLine then some ds else none) = some xs := ew
      split at ew' <;> cases ew'
      cases rx with
      | tup hs hr => exact ⟨_, rfl, ⟨_, by rw [← c.eK]; exact SqT.sub sb hs⟩, go _ (it_tup c.eK hs hr)⟩
    · have ew' : (if z.length ≤ sizeLine then some (z.cps.toList.map fun c => D.str ⟨#[c]⟩) else none) = some xs := ew
      split at ew' <;> cases ew'
      cases rx
      exact ⟨z, rfl, go _ (it_str z)⟩
  · simp only [Bool.and_eq_true] at h
    obtain ⟨⟨h1, h2⟩, h3⟩ := h
    obtain ⟨rfl, gl, mn, _, _⟩ := c.bi h1
    refine pi_imp (pi_range1 gl mn (pa_cons (hF _ _ h3) pa_nil (star_cons _ h2)) (star_cons _ h2)) fun σ H R q => ?_
    refine (one_walk q).mono fun x H1 ⟨d, G, xs, sb, rx, ew, go⟩ => ?_
    cases d <;> first | (cases ew; done) | skip
    rename_i i
    have ew' : (if -(2 ^ 62) ≤ i ∧ i ≤ sizeLine then some ((List.range i.toNat).map fun (k : Nat) => D.int ((0 : Int) + k)) else none) = some xs := ew
    split at ew'
    · rename_i hl
      cases ew'
      cases rx
      refine ⟨i, rfl, hl.1, ?_, go _ (it_rng 0 i.toNat)⟩
      have : (sizeLine : Int) < 2 ^ 62 := by rw [sizeLine_eq]; decide
      omega
    · cases ew'
  · simp only [Bool.and_eq_true] at h
    obtain ⟨⟨⟨⟨h1, h2⟩, h3⟩, h4⟩, h5⟩ := h
    obtain ⟨rfl, gl, mn, _, _⟩ := c.bi h1
    refine pi_imp (pi_range2 gl mn (pa_cons (hF _ _ h4) (pa_cons (hF _ _ h5) pa_nil (star_cons _ h3)) (star_cons _ h2)) (by rw [star_cons _ h2, star_cons _ h3]; rfl) (star_cons _ h3)) fun σ H R q => ?_
    refine (two_walk q).mono fun x H1 q1 => q1.mono fun y H2 ⟨d, d2, G, xs, sb, rx, ry, ew, go⟩ => ?_
    cases d <;> first | (cases ew; done) | skip
    cases d2 <;> first | (cases ew; done) | skip
    rename_i a b
    have ew' : (if -(2 ^ 62) ≤ a ∧ a < 2 ^ 62 ∧ -(2 ^ 62) ≤ b ∧ b < 2 ^ 62 ∧ (b - a).toNat ≤ sizeLine then some ((List.range (b - a).toNat).map fun (k : Nat) => D.int (a + k)) else none) = some xs := ew
    split at ew'
    · rename_i hl
      cases ew'
      cases rx
      cases ry
      exact ⟨a, b, rfl, ⟨hl.1, hl.2.1, hl.2.2.1, hl.2.2.2.1⟩, go _ (it_rng a (b - a).toNat)⟩
    · cases ew'
  · simp only [Bool.and_eq_true] at h
    obtain ⟨⟨⟨h1, h2⟩, h3⟩, h4⟩ := h
    obtain ⟨rfl, gl, mn, _, _⟩ := c.bi h1
    cases tg <;> first | (cases h4; done) | skip
    refine pi_imp (pi_enum gl mn (pa_cons (hF _ _ h3) pa_nil (star_cons _ h2)) (star_cons _ h2)) fun σ H R q => ?_
    refine (one_walk q).mono fun x H1 ⟨d, G, xs, sb, rx, ew, go⟩ => ?_
    cases d <;> first | (cases ew; done) | skip
    rename_i ds
    have ew' : (if ds.length ≤ sizeLine then some (ds.zipIdx.map fun p => D.tup [.int (p.2 : Nat), p.1]) else none) = some xs := ew
    split at ew' <;> cases ew'
    cases rx with
    | lst hg hr => exact ⟨_, _, rfl, SqL.of (lst_sub sb hg), go _ (it_enum c.eK hg hr)⟩
  · simp only [Bool.and_eq_true] at h
    obtain ⟨⟨⟨⟨⟨h1, h2⟩, h3⟩, h4⟩, h5⟩, h6⟩ := h
    obtain ⟨rfl, gl, mn, _, _⟩ := c.bi h1
    cases tg <;> first | (cases h6; done) | skip
    refine pi_imp (RZ.pi_zipA gl mn (pa_cons (hF _ _ h4) (pa_cons (hF _ _ h5) pa_nil (star_cons _ h3)) (star_cons _ h2)) (star_cons _ h2) (by rw [star_cons _ h3]; rfl)) fun σ H R q => ?_
    refine (two_walk q).mono fun x H1 q1 => q1.mono fun y H2 ⟨d, d2, G, xs, sb, rx, ry, ew, go⟩ => ?_
    cases d <;> first | (cases ew; done) | skip
    · cases d2 <;> first | (cases ew; done) | skip
      rename_i ds es
      have ew' : (if ds.length ≤ sizeLine then some (List.zipWith (fun x y => D.tup [x, y]) ds es) else none) = some xs := ew
      split at ew' <;> cases ew'
      cases rx with
      | tup hs hr =>
        cases ry with
        | tup hs2 hr2 => exact ⟨_, _, _, _, rfl, .inr ⟨by rw [← c.eK]; exact SqT.sub sb hs, by rw [← c.eK]; exact SqT.sub sb hs2, go _ (it_zipT c.eK hs hr hs2 hr2)⟩⟩
    · cases d2 <;> first | (cases ew; done) | skip
      rename_i ds es
      have ew' : (if ds.length ≤ sizeLine then some (List.zipWith (fun x y => D.tup [x, y]) ds es) else none) = some xs := ew
      split at ew' <;> cases ew'
      cases rx with
      | lst hg hr =>
        cases ry with
        | lst hg2 hr2 => exact ⟨_, _, _, _, rfl, .inl ⟨SqL.of (lst_sub sb hg), SqL.of (lst_sub sb hg2), go _ (it_zipL c.eK hg hr hg2 hr2)⟩⟩
  · cases h
end
end Mp

set_option Elab.async false
set_option linter.all false
set_option maxRecDepth 100000
set_option maxHeartbeats 8000000
/-! Mp, part 16: comprehensions. -/
namespace Mp
open PySem PySem.Spec PyProof.Rows L2

theorem wipe_get (σ : L2.St) : ∀ (vs : List Nat) (j : Nat), (wipe σ vs)[j]? = if j ∈ vs then (σ[j]?).map fun _ => none else σ[j]?
  | [], j => by rw [if_neg (by simp)]; rfl
  | v :: vs, j => by
    show ((wipe σ vs).set v none)[j]? = _
    by_cases e : v = j
    · subst e
      rw [if_pos List.mem_cons_self]
      by_cases l : v < σ.length
      · rw [List.getElem?_set_self (by rw [wipe_length]; exact l), List.getElem?_eq_getElem l]
        rfl
      · rw [List.getElem?_eq_none (by rw [List.length_set, wipe_length]; omega), List.getElem?_eq_none (by omega)]
        rfl
    · rw [List.getElem?_set_ne e, wipe_get σ vs j]
      by_cases m : j ∈ vs
      · rw [if_pos m, if_pos (List.mem_cons_of_mem _ m)]
      · rw [if_neg m, if_neg fun z => by
          rcases List.mem_cons.mp z with w | w
          · exact e w.symm
          · exact m w]
theorem wipeE_len (r : En) : ∀ vs : List Nat, (wipeE r vs).length = r.length
  | [] => rfl
  | v :: vs => by
    show ((wipeE r vs).set v .un).length = _
    rw [List.length_set, wipeE_len r vs]
theorem wipeE_get (r : En) : ∀ (vs : List Nat) (j : Nat), (wipeE r vs)[j]? = if j ∈ vs then (r[j]?).map fun _ => Slot.un else r[j]?
  | [], j => by rw [if_neg (by simp)]; rfl
  | v :: vs, j => by
    show ((wipeE r vs).set v .un)[j]? = _
    by_cases e : v = j
    · subst e
      rw [if_pos List.mem_cons_self]
      by_cases l : v < r.length
      · rw [List.getElem?_set_self (by rw [wipeE_len]; exact l), List.getElem?_eq_getElem l]
        rfl
      · rw [List.getElem?_eq_none (by rw [List.length_set, wipeE_len]; omega), List.getElem?_eq_none (by omega)]
        rfl
    · rw [List.getElem?_set_ne e, wipeE_get r vs j]
      by_cases m : j ∈ vs
      · rw [if_pos m, if_pos (List.mem_cons_of_mem _ m)]
      · rw [if_neg m, if_neg fun z => by
          rcases List.mem_cons.mp z with w | w
          · exact e w.symm
          · exact m w]
theorem backE_len (r0 r : En) : ∀ vs : List Nat, (backE r0 r vs).length = r.length
  | [] => rfl
  | v :: vs => by
    have e : backE r0 r (v :: vs) = match r0[v]? with
      | some s => (backE r0 r vs).set v s
      | none => backE r0 r vs := rfl
    rw [e]
    split
    · rw [List.length_set, backE_len r0 r vs]
    · exact backE_len r0 r vs
theorem backE_get (r0 r : En) (hl : r.length = r0.length) : ∀ (vs : List Nat) (j : Nat), (backE r0 r vs)[j]? = if j ∈ vs then r0[j]? else r[j]?
  | [], j => by rw [if_neg (by simp)]; rfl
  | v :: vs, j => by
    have e : backE r0 r (v :: vs) = match r0[v]? with
      | some s => (backE r0 r vs).set v s
      | none => backE r0 r vs := rfl
    rw [e]
    have ih := backE_get r0 r hl vs j
    by_cases e2 : v = j
    · subst e2
      rw [if_pos List.mem_cons_self]
      cases q : r0[v]? with
      | none =>
        have l : r0.length ≤ v := List.getElem?_eq_none_iff.mp q
        show (backE r0 r vs)[v]? = none
        exact List.getElem?_eq_none (by rw [backE_len]; omega)
      | some s =>
        have l := (List.getElem?_eq_some_iff.mp q).1
        show ((backE r0 r vs).set v s)[v]? = some s
        exact List.getElem?_set_self (by rw [backE_len]; omega)
    · have e3 : (match r0[v]? with
        | some s => (backE r0 r vs).set v s
        | none => backE r0 r vs)[j]? = (backE r0 r vs)[j]? := by
        split
        · rw [List.getElem?_set_ne e2]
        · rfl
      rw [e3, ih]
      by_cases m : j ∈ vs
      · rw [if_pos m, if_pos (List.mem_cons_of_mem _ m)]
      · rw [if_neg m, if_neg fun z => by
          rcases List.mem_cons.mp z with w | w
          · exact e2 w.symm
          · exact m w]
section
variable {U : Wd} {r : En} {σ σ' : L2.St} {H G : Hp} {vs : List Nat}
theorem own_wipe {a : Addr} (h : OwnAt (wipeE r vs) (wipe σ vs) a) : OwnAt r σ a := by
  obtain ⟨i, d, h1, h2⟩ := h
  rw [wipeE_get] at h1
  rw [wipe_get] at h2
  by_cases m : i ∈ vs
  · rw [if_pos m] at h1
    cases q : r[i]? <;> rw [q] at h1 <;> cases h1
  · rw [if_neg m] at h1 h2
    exact ⟨i, d, h1, h2⟩
theorem Rl.wiped (rl : Rl U r σ H G) (vs : List Nat) : Rl U (wipeE r vs) (wipe σ vs) H G := by
  refine ⟨rl.sub, by rw [wipeE_len, wipe_length]; exact rl.len, fun i s o h1 h2 => ?_, fun i j a d e ne h1 h2 h3 h4 => ?_⟩
  · rw [wipeE_get] at h1
    rw [wipe_get] at h2
    by_cases m : i ∈ vs
    · rw [if_pos m] at h1
      cases q : r[i]? <;> rw [q] at h1 <;> cases h1
      trivial
    · rw [if_neg m] at h1 h2
      exact rl.at_ i s o h1 h2
  · rw [wipeE_get] at h1 h2
    rw [wipe_get] at h3 h4
    by_cases m : i ∈ vs
    · rw [if_pos m] at h1
      cases q : r[i]? <;> rw [q] at h1 <;> cases h1
    by_cases m2 : j ∈ vs
    · rw [if_pos m2] at h2
      cases q : r[j]? <;> rw [q] at h2 <;> cases h2
    rw [if_neg m] at h1 h3
    rw [if_neg m2] at h2 h4
    exact rl.ap i j a d e ne h1 h2 h3 h4
theorem Rl.updN {D : Addr} {o : HO} (rl : Rl U r σ H G) (g : G D = none) (no : ¬ OwnAt r σ D) : Rl U r σ (upd H D o) G := by
  refine ⟨fun a u e => ?_, rl.len, fun i s q h1 h2 => ?_, rl.ap⟩
  · rw [upd_ne (ne_of_none e g)]
    exact rl.sub a u e
  · have w := rl.at_ i s q h1 h2
    cases s with
    | un => trivial
    | fz d => exact w
    | ow d =>
      obtain ⟨b, e, hb, n⟩ := w
      subst e
      have z : b ≠ D := fun z => no ⟨i, d, h1, by rw [← z]; exact h2⟩
      exact ⟨b, rfl, hb, n.mono (Same.refl _) (upd_ne z)⟩
theorem Tr.updN {r0 : En} {σ0 : L2.St} {H0 G0 : Hp} {D : Addr} {o : HO} (t : Tr r0 σ0 H0 G0 r σ H G) (n : H0 D = none) : Tr r0 σ0 H0 G0 r σ (upd H D o) G := by
  refine ⟨t.g, fun b u e no => ?_, fun b u e => ?_, t.o, t.f⟩
  · rw [upd_ne (ne_of_none e n)]
    exact t.h b u e no
  · rw [upd_ne (ne_of_none e n)]
    exact t.t b u e
/-- an address of nobody stays nobody's -/
structure Kp (D : Addr) (o : HO) (r : En) (σ : L2.St) (H G : Hp) : Prop where
  g : G D = none
  n : ¬ OwnAt r σ D
  h : H D = some o
theorem Kp.tr {D : Addr} {o : HO} {r2 : En} {σ2 : L2.St} {H2 G2 : Hp} (k : Kp D o r σ H G) (t : Tr r σ H G r2 σ2 H2 G2) : Kp D o r2 σ2 H2 G2 := by
  refine ⟨?_, fun z => ?_, t.h D o k.h k.n⟩
  · cases q : G2 D with
    | none => rfl
    | some u =>
      rcases t.f D u q with z | z | z
      · rw [k.g] at z; cases z
      · rw [k.h] at z; cases z
      · exact absurd z k.n
  · rcases t.o D z with w | w
    · exact k.n w
    · rw [k.h] at w; cases w
/-- behind a block -/
theorem Rl.back {r0 r2 : En} {H0 G0 H2 G2 : Hp} (rl0 : Rl U r0 σ H0 G0) (rl : Rl U r2 (wipe σ vs) H2 G2) (t : Tr (wipeE r0 vs) (wipe σ vs) H0 G0 r2 (wipe σ vs) H2 G2) :
    Rl U (backE r0 r2 vs) σ H2 G2 ∧ Tr r0 σ H0 G0 (backE r0 r2 vs) σ H2 G2 := by
  have hl : r2.length = r0.length := by rw [rl.len, wipe_length, rl0.len]
  have gt := backE_get r0 r2 hl vs
  -- a hidden own slot's address is no other's
  have far : ∀ {i : Nat} {d : D} {a : Addr}, i ∈ vs → r0[i]? = some (.ow d) → σ[i]? = some (some (.ref a)) → ¬ OwnAt (wipeE r0 vs) (wipe σ vs) a := fun {i d a} m h1 h2 ⟨j, e, g1, g2⟩ => by
    rw [wipeE_get] at g1
    rw [wipe_get] at g2
    by_cases m2 : j ∈ vs
    · rw [if_pos m2] at g1
      cases q : r0[j]? <;> rw [q] at g1 <;> cases g1
    · rw [if_neg m2] at g1 g2
      exact rl0.ap i j a d e (fun z => m2 (by rw [← z]; exact m)) h1 g1 h2 g2
  have key : ∀ {i : Nat} {d : D} {a : Addr}, i ∈ vs → r0[i]? = some (.ow d) → σ[i]? = some (some (.ref a)) → ¬ OwnAt r2 (wipe σ vs) a := fun {i d a} m h1 h2 z => by
    rcases t.o a z with w | w
    · exact far m h1 h2 w
    · obtain ⟨b, e, hg, nd⟩ := rl0.at_ i _ _ h1 h2
      cases e
      obtain ⟨o, ho⟩ := nd.there
      rw [w] at ho
      cases ho
  have ow : ∀ {a : Addr}, OwnAt (backE r0 r2 vs) σ a → OwnAt r0 σ a ∨ OwnAt r2 (wipe σ vs) a := fun {a} ⟨i, d, h1, h2⟩ => by
    rw [gt] at h1
    by_cases m : i ∈ vs
    · rw [if_pos m] at h1
      exact .inl ⟨i, d, h1, h2⟩
    · rw [if_neg m] at h1
      exact .inr ⟨i, d, h1, by rw [wipe_get, if_neg m]; exact h2⟩
  refine ⟨⟨rl.sub, by rw [backE_len, hl]; exact rl0.len, fun i s o h1 h2 => ?_, fun i j a d e ne h1 h2 h3 h4 => ?_⟩, t.g, fun b o e no => t.h b o e fun z => no (own_wipe z), t.t, fun b z => ?_, fun b o e => ?_⟩
  · rw [gt] at h1
    by_cases m : i ∈ vs
    · rw [if_pos m] at h1
      have w := rl0.at_ i s o h1 h2
      cases s with
      | un => trivial
      | fz d =>
        obtain ⟨v, e, rp⟩ := w
        exact ⟨v, e, rp.mono t.g⟩
      | ow d =>
        obtain ⟨a, e, hg, nd⟩ := w
        subst e
        obtain ⟨u, hu⟩ := nd.there
        have kp : Kp a u (wipeE r0 vs) (L2.wipe σ vs) H0 G0 := ⟨hg, far m h1 h2, hu⟩
        have kp2 := kp.tr t
        exact ⟨a, rfl, kp2.g, nd.mono t.g (kp2.h.trans hu.symm)⟩
    · rw [if_neg m] at h1
      exact rl.at_ i s o h1 (by rw [wipe_get, if_neg m]; exact h2)
  · rw [gt] at h1 h2
    by_cases m : i ∈ vs
    · rw [if_pos m] at h1
      by_cases m2 : j ∈ vs
      · rw [if_pos m2] at h2
        exact rl0.ap i j a d e ne h1 h2 h3 h4
      · rw [if_neg m2] at h2
        exact key m h1 h3 ⟨j, e, h2, by rw [wipe_get, if_neg m2]; exact h4⟩
    · rw [if_neg m] at h1
      by_cases m2 : j ∈ vs
      · rw [if_pos m2] at h2
        exact key m2 h2 h4 ⟨i, d, h1, by rw [wipe_get, if_neg m]; exact h3⟩
      · rw [if_neg m2] at h2
        exact rl.ap i j a d e ne h1 h2 (by rw [wipe_get, if_neg m]; exact h3) (by rw [wipe_get, if_neg m2]; exact h4)
  · rcases ow z with w | w
    · exact .inl w
    · rcases t.o b w with y | y
      · exact .inl (own_wipe y)
      · exact .inr y
  · rcases t.f b o e with z | z | z
    · exact .inl z
    · exact .inr (.inl z)
    · exact .inr (.inr (own_wipe z))
end
theorem walkD_len {ik : Nat} {ds xs : List D} (h : walkD ik ds = some xs) : xs.length ≤ sizeLine := by
  unfold walkD at h
  split at h
  · split at h <;> cases h
    assumption
  · split at h <;> cases h
    assumption
  · split at h <;> cases h
    rwa [List.length_map]
  · split at h
    · cases h
      rw [List.length_map]
      simpa using ‹_ ≤ sizeLine›
    · cases h
  · split at h
    · cases h
      rw [List.length_map, List.length_range]
      omega
    · cases h
  · split at h
    · cases h
      rw [List.length_map, List.length_range]
      omega
    · cases h
  · split at h <;> cases h
    rwa [List.length_map, List.length_zipIdx]
  · split at h <;> cases h
    rw [List.length_zipWith]
    omega
  · split at h <;> cases h
    rw [List.length_zipWith]
    omega
  · cases h
end Mp

set_option Elab.async false
set_option linter.all false
set_option maxRecDepth 100000
set_option maxHeartbeats 8000000
/-! Mp, part 17: comprehensions, their meaning. -/
namespace Mp
open PySem PySem.Spec PyProof.Rows L2

abbrev W0 : WX := fun _ _ _ _ => False
section
variable {X : Cx} {U : Wd} {T : Tbl} {W : WX} {k : Nat} {gd : Gd} {sc : Scope}
theorem Cok.blk (c : Cok X U T W k gd sc) (s : Shared) (H : Hp) (scope : Scope) (C : Addr) (cl : List (Str × Addr)) (fp : List Addr) : Cok (X.blk s H scope (compEnvC scope cl C X.env) fp) U T W0 k gd (relS scope sc) :=
  ⟨c.eK, c.em, c.calm, c.nd, c.eN, c.gu, c.room, c.un, fun u s' ⟨_, _, _, _, _, _, _, _, _, _, _, _, _, _, _, _, w⟩ => False.elim w, by rw [← c.sc]; rfl, fun f h => ⟨(c.fn f h).ex⟩, c.bn, fun f ks g h => ⟨(c.kw f ks g h).ex⟩, c.ix, c.rs, c.gl, fun a b q h => ⟨(c.mt a b q h).ex⟩, fun a b q h => ⟨(c.pr a b q h).ex⟩, c.nw, c.fl, c.ow⟩
/-- a turn's test -/
def tCs (U : Wd) (f : ME → En → R Val) (cs : List ME) : TT := match cs with
  | [] => tYes
  | cs => Rg U W0 relB (evCs f cs)
theorem tCs_of {f : ME → En → R Val} {cs : List ME} {r r2 : En} {b : Bool} {σ : L2.St} {H G : Hp} {Q : Bool → Hp → Prop} (rl : Rl U r σ H G) (e : evCs f cs r = .ok b r2) (q : ∀ H' G', Rl U r2 σ H' G' → Tr r σ H G r2 σ H' G' → Q b H') : tCs U f cs σ H Q := by
  cases cs with
  | nil =>
    have e' : R.ok true r = .ok b r2 := e
    cases e'
    exact q H G rl .refl
  | cons c cs =>
    refine ⟨r, G, rl, ?_⟩
    rw [e]
    intro x H' G' rl' t hx
    have hx' : x = b := hx
    subst hx'
    exact q H' G' rl' t
def compF (f : ME → En → R Val) (tg : Tg) (elt : ME) (ik : Nat) (its cs : List ME) (r : En) : R Val := (mapR (evF f) its r).bind fun ds r1 => match walkD ik ds with
      | none => .bad
      | some xs => (compL (evCs f cs) (evF f elt) tg xs (wipeE r1 tg.slots)).bind fun ds r2 => .ok (.ow (.lst ds)) (backE r1 r2 tg.slots)
theorem comp_rd {f : ME → En → R Val} {tg : Tg} {elt : ME} {ik : Nat} {its cs : List ME} {K : Fg} (eK : U.K = K) {σ : L2.St} {H : Hp} {Q : V → Hp → Prop}
    (q : Rg U W (relV U) (compF f tg elt ik its cs) σ H Q) :
    tLc (Rg U W (relI U) (evI f ik its)) (tgG K tg) (tCs U f cs) (Rg U W0 (relF U) (evF f elt)) tg.slots σ H Q := by
  obtain ⟨r, G, rl, q⟩ := q
  have e1 : compF f tg elt ik its cs r =
      (evI f ik its r).bind fun xs r1 => if xs.length ≤ sizeLine then (compL (evCs f cs) (evF f elt) tg xs (wipeE r1 tg.slots)).bind fun ds r2 => .ok (Val.ow (.lst ds)) (backE r1 r2 tg.slots) else .bad := by
    unfold evI compF
    cases mapR (evF f) its r with
    | bad => rfl
    | exn _ _ => rfl
    | ok ds r1 =>
      show (match walkD ik ds with
        | none => R.bad
        | some xs => (compL (evCs f cs) (evF f elt) tg xs (wipeE r1 tg.slots)).bind fun ds r2 => .ok (Val.ow (.lst ds)) (backE r1 r2 tg.slots)) = (ofOpt (walkD ik ds) r1).bind _
      cases e : walkD ik ds with
      | none => rfl
      | some xs =>
        show _ = if xs.length ≤ sizeLine then _ else _
        rw [if_pos (walkD_len e)]
  rw [e1] at q
  refine ⟨r, G, rl, (Cont.bind (rel1 := relI U) (pst_V U) q).imp fun J H1 ⟨xs, r1, G1, rl1, t1, hJ, q1⟩ Da hD => ?_⟩
  split at q1
  case isFalse => exact False.elim q1
  rename_i hlen
  cases e2 : compL (evCs f cs) (evF f elt) tg xs (wipeE r1 tg.slots) with
  | bad => rw [e2] at q1; exact False.elim q1
  | exn ex r' =>
    exfalso
    -- a turn never lets one out
    have : ∀ (xs : List D) (r : En) (ex : Ex) (r' : En), compL (evCs f cs) (evF f elt) tg xs r ≠ .exn ex r' := by
      intro xs
      induction xs with
      | nil => intro r ex r' h; cases h
      | cons x xs ih =>
        intro r ex r' h
        unfold compL at h
        repeat' split at h
        all_goals first | (cases h; done) | exact ih _ _ _ h
    exact this _ _ _ _ e2
  | ok ds rE =>
  rw [e2] at q1
  have gD : G1 Da = none := rl1.sub.none hD
  have nD : ¬ OwnAt (wipeE r1 tg.slots) (wipe σ tg.slots) Da := fun z => by
    obtain ⟨o, w⟩ := rl1.own_some (own_wipe z)
    rw [hD] at w
    cases w
  refine ⟨fun i m H => i ≤ xs.length ∧ m = xs.length - i ∧ ∃ ri Gi acc dacc, Rl U ri (wipe σ tg.slots) H Gi ∧ Tr (wipeE r1 tg.slots) (wipe σ tg.slots) H1 G1 ri (wipe σ tg.slots) H Gi ∧ Kp Da (.lst acc) ri (wipe σ tg.slots) H Gi ∧ Reps U Gi acc dacc ∧ acc.length ≤ i ∧
    ∃ dsi, compL (evCs f cs) (evF f elt) tg (xs.drop i) ri = .ok dsi rE ∧ dacc ++ dsi = ds, ⟨xs.length, Nat.zero_le _, rfl, _, G1, [], [], (rl1.wiped _).updN gD nD, Tr.refl.updN hD, ⟨gD, nD, upd_same⟩, .nil, Nat.le_refl _, ds, e2, rfl⟩, ?_⟩
  rintro i m H2 ⟨hi, rfl, ri, Gi, acc, dacc, rli, ti, ki, ra, la, dsi, ec, ed⟩
  obtain ⟨jy, js⟩ := hJ i Gi H2 ti.g rli.sub
  by_cases lt : i < xs.length
  case neg =>
    left
    have e3 : xs.drop i = [] := List.drop_eq_nil_of_le (by omega)
    rw [e3] at ec
    have ec' : R.ok [] ri = .ok dsi rE := ec
    cases ec'
    rw [List.append_nil] at ed
    subst ed
    refine ⟨js (by omega), ?_⟩
    obtain ⟨rb, tb⟩ := rl1.back rli ti
    refine q1 (.ref Da) H2 Gi rb tb ⟨Da, rfl, hD, ki.g, ⟨acc, ki.h, ra⟩, fun ⟨j, d, h1, h2⟩ => ?_⟩
    rw [backE_get _ _ (by rw [rli.len, wipe_length, rl1.len])] at h1
    by_cases m : j ∈ tg.slots
    · rw [if_pos m] at h1
      obtain ⟨o, w⟩ := rl1.own_some ⟨j, d, h1, h2⟩
      rw [hD] at w
      cases w
    · rw [if_neg m] at h1
      exact ki.n ⟨j, d, h1, by rw [wipe_get, if_neg m]; exact h2⟩
  case pos =>
    right
    have e3 : xs.drop i = xs[i] :: xs.drop (i + 1) := List.drop_eq_getElem_cons lt
    obtain ⟨jg, jx⟩ := jy xs[i] (List.getElem?_eq_getElem lt)
    rw [e3] at ec
    unfold compL at ec
    cases ep : put tg xs[i] ri with
    | none => rw [ep] at ec; cases ec
    | some rp =>
    rw [ep] at ec
    replace ec : (match evCs f cs rp with
      | .bad => .bad
      | .exn _ _ => .bad
      | .ok false r2 => compL (evCs f cs) (evF f elt) tg (xs.drop (i + 1)) (wipeE r2 tg.slots)
      | .ok true r2 => match evF f elt r2 with
        | .bad => .bad
        | .exn _ _ => .bad
        | .ok d r3 => match compL (evCs f cs) (evF f elt) tg (xs.drop (i + 1)) (wipeE r3 tg.slots) with
          | .bad => .bad
          | .exn _ _ => .bad
          | .ok ds r4 => .ok (d :: ds) r4) = R.ok dsi rE := ec
    cases eq : evCs f cs rp with
    | bad => rw [eq] at ec; cases ec
    | exn _ _ => rw [eq] at ec; cases ec
    | ok bq rq =>
    rw [eq] at ec
    refine ⟨jg, fun H' => i + 1 ≤ xs.length ∧ ∃ ri Gi acc dacc, Rl U ri (wipe σ tg.slots) H' Gi ∧ Tr (wipeE r1 tg.slots) (wipe σ tg.slots) H1 G1 ri (wipe σ tg.slots) H' Gi ∧ Kp Da (.lst acc) ri (wipe σ tg.slots) H' Gi ∧ Reps U Gi acc dacc ∧ acc.length ≤ i + 1 ∧
      ∃ dsi, compL (evCs f cs) (evF f elt) tg (xs.drop (i + 1)) ri = .ok dsi rE ∧ dacc ++ dsi = ds, fun H' h => ⟨xs.length - (i + 1), by omega, h.1, rfl, h.2⟩, fun x H' hy => ?_⟩
    obtain ⟨G', ad, rx⟩ := jx x H' hy
    refine put_ok eK ep (ad.rl rli) rx fun σ' rlp op sp lp => ?_
    have ew : wipe σ' tg.slots = wipe σ tg.slots := List.ext_getElem? fun j => by
      rw [wipe_get, wipe_get]
      by_cases m : j ∈ tg.slots
      · rw [if_pos m, if_pos m]
        have : σ'.length = σ.length := by rw [lp, wipe_length]
        by_cases l : j < σ.length
        · rw [List.getElem?_eq_getElem l, List.getElem?_eq_getElem (by rw [this]; exact l)]
          rfl
        · rw [List.getElem?_eq_none (by omega), List.getElem?_eq_none (by omega)]
      · rw [if_neg m, if_neg m, sp j m, wipe_get, if_neg m]
    refine ⟨ew, ?_⟩
    have tp := (ti.trans ad.tr).trans (Tr.slots (H := H') (G := G') op)
    have kp := (ki.tr ad.tr).tr (Tr.slots (H := H') (G := G') op)
    refine tCs_of rlp eq fun H3 G3 rl3 t3 => ?_
    have kp3 := kp.tr t3
    have tp3 := tp.trans t3
    cases bq with
    | false =>
      rw [if_neg (by decide)]
      have rw3 := rl3.wiped tg.slots
      rw [ew] at rw3
      have tw : Tr rq σ' H3 G3 (wipeE rq tg.slots) (wipe σ tg.slots) H3 G3 := Tr.slots fun a z => by rw [← ew] at z; exact own_wipe z
      exact ⟨lt, _, G3, acc, dacc, rw3, tp3.trans tw, kp3.tr tw, ra.mono (ad.g.trans t3.g), by omega, dsi, ec, ed⟩
    | true =>
      rw [if_pos rfl]
      replace ec : (match evF f elt rq with
        | .bad => .bad
        | .exn _ _ => .bad
        | .ok d r3 => match compL (evCs f cs) (evF f elt) tg (xs.drop (i + 1)) (wipeE r3 tg.slots) with
          | .bad => .bad
          | .exn _ _ => .bad
          | .ok ds r4 => .ok (d :: ds) r4) = R.ok dsi rE := ec
      cases e3' : evF f elt rq with
      | bad => rw [e3'] at ec; cases ec
      | exn _ _ => rw [e3'] at ec; cases ec
      | ok d3 r3 =>
      rw [e3'] at ec
      replace ec : (match compL (evCs f cs) (evF f elt) tg (xs.drop (i + 1)) (wipeE r3 tg.slots) with
          | .bad => .bad
          | .exn _ _ => .bad
          | .ok ds r4 => .ok (d3 :: ds) r4) = R.ok dsi rE := ec
      cases e4 : compL (evCs f cs) (evF f elt) tg (xs.drop (i + 1)) (wipeE r3 tg.slots) with
      | bad => rw [e4] at ec; cases ec
      | exn _ _ => rw [e4] at ec; cases ec
      | ok ds4 r4 =>
      rw [e4] at ec
      cases ec
      refine ⟨rq, G3, rl3, ?_⟩
      rw [e3']
      intro y H4 G4 rl4 t4 ry
      have ry' : Rep U G4 y d3 := ry
      have kp4 := kp3.tr t4
      have tp4 := tp3.trans t4
      refine ⟨acc, kp4.h, by omega, ?_⟩
      have rw4 := rl4.wiped tg.slots
      rw [ew] at rw4
      have tw : Tr r3 σ' H4 G4 (wipeE r3 tg.slots) (wipe σ tg.slots) H4 G4 := Tr.slots fun a z => by rw [← ew] at z; exact own_wipe z
      have kp5 := kp4.tr tw
      refine ⟨lt, _, G4, acc ++ [y], dacc ++ [d3], rw4.updN kp5.g kp5.n, (tp4.trans tw).updN hD, ⟨kp5.g, kp5.n, upd_same⟩, (ra.mono ((ad.g.trans t3.g).trans t4.g)).append (.one ry'), by rw [List.length_append]; show acc.length + 1 ≤ i + 1; omega, ds4, e4, by rw [List.append_assoc]; exact ed⟩
end
end Mp

set_option Elab.async false
set_option linter.all false
set_option maxRecDepth 100000
set_option maxHeartbeats 8000000
/-! N1: comprehensions of any number of clauses, over the hand layer. -/
namespace Mp
open PySem PySem.Spec PyProof.Rows L2

theorem turn_eq {elt tg it : Expr} {gs : List Comprehension} {ifs : List Expr} {sc : Scope} {pos : Pos} {k : Nat} {i acc : Value} {env : Env} (h : gs[k]? = some ⟨tg, it, ifs, 0⟩) :
    compTurn (.ListComp elt gs sc pos) k i acc env = (do
      standAt it.pos
      match ← pyNext i with
      | none => pure (.done .next)
      | some v =>
        letOwnedTupleGo tg i v
        assign tg env v
        let mut ok := true
        for c in ifs do
          if ok then ok ← isTrue c env (eval c env)
        if ok then
          match gs[k + 1]? with
          | some g' =>
            let x ← eval g'.iter env
            standAt g'.iter.pos
            let x ← if g'.is_async != 0 then foldedIterable g'.iter x else foldedSetIterable g'.iter env x
            let _ ← runOwn (.compStart (.ListComp elt gs sc pos) (k + 1) (← holding [x] (if g'.is_async != 0 then asyncIter x else pyIter x)) acc env) env
          | none => (do let _ ← call (.builtin "list.append") [acc, ← eval elt env])
        again (.compLoop (.ListComp elt gs sc pos) k i acc env)) := by
  unfold compTurn
  simp only [h]
  rfl
abbrev seeTests (ifs : List Expr) (env : Env) : Sem Bool := forIn ifs true fun c r => if r = true then do let ok ← isTrue c env (eval c env); pure (ForInStep.yield ok) else pure (ForInStep.yield r)
/-- what comes behind a turn's tests -/
def Behind (prog : Program) (w : World) (A : Around) (elt : Expr) (gs : List Comprehension) (sc : Scope) (pos : Pos) (k : Nat) (acc : Value) (env : Env) (P : Shared → Prop) (E : Value → Shared → Prop) (t : Shared) : Prop := match gs[k + 1]? with
  | some g => wpAny (model prog w) A (eval g.iter env) (fun x t₁ => wpAny (model prog w) A (pyIter x) (fun i t₂ => codeAny (model prog w) A (.compStart (.ListComp elt gs sc pos) (k + 1) i acc env) (fun r t' => match r with
      | .ok _ => P t'
      | .error _ => False) t₂) E t₁) E t
  | none => wpAny (model prog w) A (eval elt env) (fun x t₁ => wpAny (model prog w) A (call (.builtin "list.append") [acc, x]) (fun _ t₂ => P t₂) E t₁) E t
section
variable {prog : Program} {w : World} {A : Around} {R : Result → Shared → Prop} {s : Shared} {elt tg itr : Expr} {gs : List Comprehension} {ifs : List Expr} {sc : Scope} {pos : Pos} {it acc : Value} {env : Env} {k : Nat}
theorem loopN_any (hg : gs[k]? = some ⟨tg, itr, ifs, 0⟩) (hn : ∀ g, gs[k + 1]? = some g → g.is_async = 0 ∧ ∀ x, foldedSetIterable g.iter env x = pure x) (I : Nat → Shared → Prop)
    (turn : ∀ n t, I n t → wpAny (model prog w) A (pyNext it) (fun r t₁ => match r with
      | none => R (.ok .next) t₁
      | some v => wpAny (model prog w) A (letOwnedTupleGo tg it v) (fun _ t₂ => wpAny (model prog w) A (assign tg env v) (fun _ t₃ => wpAny (model prog w) A (seeTests ifs env) (fun ok t₄ =>
            if ok = true then Behind prog w A elt gs sc pos k acc env (fun t₅ => ∃ m, m < n ∧ I m t₅) (notedBy (model prog w) A env fun e t' => R (.error e) t') t₄
            else ∃ m, m < n ∧ I m t₄) (notedBy (model prog w) A env fun e t' => R (.error e) t') t₃) (notedBy (model prog w) A env fun e t' => R (.error e) t') t₂) (notedBy (model prog w) A env fun e t' => R (.error e) t') t₁) (notedBy (model prog w) A env fun e t' => R (.error e) t') t)
    (n : Nat) (h : I n s) : codeAny (model prog w) A (.compLoop (.ListComp elt gs sc pos) k it acc env) R s := by
  refine codeAny_loop rfl I (fun n t hI => ?_) n h
  show wpAny _ A ((compTurn (.ListComp elt gs sc pos) k it acc env).onRaise (fun x => do noteFrame x env; theTreesLotGoes x)) _ _ t
  refine wpAny_noted ?_
  rw [turn_eq hg]
  refine wpAny_bind (wpAny_standAt (wpAny_bind (wpAny_mono (turn n t hI) (fun r t₁ h₁ => ?_) fun _ _ z => z)))
  cases r with
  | none => exact wpAny_pure h₁
  | some v =>
    refine wpAny_bind (wpAny_mono h₁ (fun _ t₂ h₂ => ?_) fun _ _ z => z)
    refine wpAny_bind (wpAny_mono h₂ (fun _ t₃ h₃ => wpAny_bind (wpAny_mono h₃ (fun ok t₄ h₄ => ?_) fun _ _ z => z)) fun _ _ z => z)
    cases ok with
    | false => exact wpAny_pure ⟨rfl, h₄⟩
    | true =>
      have h₄ : Behind prog w A elt gs sc pos k acc env _ _ t₄ := h₄
      unfold Behind at h₄
      cases e : gs[k + 1]? with
      | none =>
        rw [e] at h₄
        simp only [if_true]
        exact wpAny_bind (wpAny_bind (wpAny_mono h₄ (fun x t₅ h₅ => wpAny_bind (wpAny_mono h₅ (fun _ t₆ h₆ => wpAny_pure (wpAny_pure ⟨rfl, h₆⟩)) fun _ _ z => z)) fun _ _ z => z))
      | some g =>
        rw [e] at h₄
        obtain ⟨a0, hs⟩ := hn g e
        obtain ⟨g1, g2, g3, g4⟩ := g
        have a0 : g4 = 0 := a0
        subst a0
        simp only [if_true]
        refine wpAny_bind (wpAny_mono h₄ (fun x t₅ h₅ => ?_) fun _ _ z => z)
        refine wpAny_bind (wpAny_standAt (wpAny_bind (wpAny_of_eq (hs x) (wpAny_bind (wpAny_holding (wpAny_mono h₅ (fun i t₆ h₆ => ?_) fun _ _ z => z))))))
        refine wpAny_bind (wpAny_runOwn ?_)
        rw [Around.mark_none]
        refine codeAny_mono h₆ fun r t' hr => ?_
        cases r with
        | ok f => first
          | exact wpAny_pure ⟨rfl, hr⟩
          | exact wpAny_bind (wpAny_pure (wpAny_pure ⟨rfl, hr⟩))
        | error e => exact hr.elim
end
section
variable {prog : Program} {w : World} {A : Around} {R : Result → Shared → Prop} {s : Shared} {elt tg itr : Expr} {gs : List Comprehension} {ifs : List Expr} {sc : Scope} {pos : Pos} {it acc : Value} {env : Env} {k : Nat}
theorem startN (hg : gs[k]? = some ⟨tg, itr, ifs, 0⟩) (h0 : codeAny (model prog w) A (.compLoop (.ListComp elt gs sc pos) k it acc env) R s)
    (h : wpAny (model prog w) A (pyIter it) (fun i t => codeAny (model prog w) A (.compLoop (.ListComp elt gs sc pos) k i acc env) R t) (notedBy (model prog w) A env fun x t => R (.error x) t) s) :
    codeAny (model prog w) A (.compStart (.ListComp elt gs sc pos) k it acc env) R s := by
  have q : (Code.compStart (.ListComp elt gs sc pos) k it acc env).isFrame = false := by cases k <;> rfl
  have tree : (model prog w).den (.compStart (.ListComp elt gs sc pos) k it acc env) = (compStart (.ListComp elt gs sc pos) k it acc env).onRaise (fun x => do noteFrame x env; standAt theWindowsPlace) := by
    cases k <;> rfl
  refine codeAny_of_tree ?_
  rw [tree]
  refine wpAny_notedAt ?_
  unfold compStart
  have cl : clausesOf (.ListComp elt gs sc pos) = gs := rfl
  rw [cl, hg]
  show wpAny _ _ (ask >>= _) _ _ s
  refine wpAny_bind (wpAny_askSetting (wpAny_ite ?_))
  have qt : ∀ i, (Code.compLoop (.ListComp elt gs sc pos) k i acc env).quiet = true := fun i => by cases k <;> rfl
  split
  · first
    | exact wpAny_bind (wpAny_pure (wpAny_pure ⟨qt _, h0⟩))
    | exact wpAny_pure ⟨qt _, h0⟩
  · first
    | exact wpAny_bind (wpAny_rule (wpAny_bind (wpAny_standAt (wpAny_bind (wpAny_mono h (fun i t h' => wpAny_pure ⟨qt _, h'⟩) fun _ _ x => x)))))
    | (refine wpAny_bind (wpAny_rule ?_); show wpAny _ _ (standAt itr.pos >>= _) _ _ s; exact wpAny_bind (wpAny_standAt (wpAny_bind (wpAny_mono h (fun i t h' => wpAny_pure ⟨qt _, h'⟩) fun _ _ x => x))))
end
/-- a clause: what it walks, where it stores, its tests; the block's names from this clause on -/
structure Cl where
  wi : TI
  g : TG
  tt : TT
  vs : List Nat
def tLoop (c : Cl) (tb : L2.St → Hp → (Hp → Prop) → Prop) (J : It) (σ : L2.St) (H1 : Hp) (Nx : Hp → Prop) : Prop :=
  ∃ W : Nat → Nat → Hp → Prop, (∃ m, W 0 m H1) ∧ ∀ i m H, W i m H → (J.stop i H ∧ Nx H) ∨ (J.go i H ∧ ∃ Nx1 : Hp → Prop, (∀ H', Nx1 H' → ∃ m', m' < m ∧ W (i + 1) m' H') ∧
    ∀ x H', J.yld i H x H' → c.g x (wipe σ c.vs) H' fun σ2 H2 => wipe σ2 c.vs = wipe σ c.vs ∧ c.tt σ2 H2 fun b H3 => if b = true then tb σ2 H3 Nx1 else Nx1 H3)
def tBody (te : L2.St → Hp → (Hp → Prop) → Prop) : List Cl → L2.St → Hp → (Hp → Prop) → Prop
  | [] => te
  | c :: cs => fun σ H Nx => c.wi σ H fun J H1 => tLoop c (tBody te cs) J σ H1 Nx
/-- the element, appended -/
def tElt (te : TE) (D : Addr) : L2.St → Hp → (Hp → Prop) → Prop := fun σ H Nx => te σ H fun y H' => ∃ acc, H' D = some (.lst acc) ∧ acc.length < sizeLine ∧ Nx (upd H' D (.lst (acc ++ [y])))
/-- [elt for .. in .. ..] -/
def tLcN (c : Cl) (cs : List Cl) (te : TE) : TE := fun σ H Q => c.wi σ H fun J H1 => ∀ D, H1 D = none → tLoop c (tBody (tElt te D) cs) J σ (upd H1 D (.lst [])) fun H' => Q (.ref D) H'
structure ClOk (Y : Cx) (c : Cl) (g : Comprehension) : Prop where
  as : g.is_async = 0
  pi : PI Y g.target g.iter c.wi
  pg : PG Y g.target c.g
  pt : PTs Y g.ifs c.tt
  fs : ∀ x, foldedSetIterable g.iter Y.env x = pure x
def wipes : List Cl → L2.St → L2.St
  | [], σ => σ
  | c :: _, σ => wipe σ c.vs
def Down : List Nat → List Cl → Prop
  | _, [] => True
  | vs, c :: cs => (∀ i ∈ c.vs, i ∈ vs) ∧ Down c.vs cs
def Dn : List Cl → Prop
  | [] => True
  | c :: cs => Down c.vs cs
theorem Down.dn {vs : List Nat} {cs : List Cl} (h : Down vs cs) : Dn cs := by
  cases cs with
  | nil => trivial
  | cons c cs => exact h.2
theorem wipes_keep {vs : List Nat} {cs : List Cl} {σ2 : L2.St} (d : Down vs cs) {j : Nat} {v : V} (e : (wipe σ2 vs)[j]? = some (some v)) : (wipes cs σ2)[j]? = some (some v) := by
  obtain ⟨e1, e2⟩ := wipe_some e
  cases cs with
  | nil => exact e1
  | cons c cs =>
    show (wipe σ2 c.vs)[j]? = _
    rw [wipe_out fun z => e2 (d.1 j z)]
    exact e1
theorem wipes_len {cs : List Cl} {σ : L2.St} : (wipes cs σ).length = σ.length := by
  cases cs with
  | nil => rfl
  | cons c cs => exact wipe_length _ _
theorem Behind.mono {prog : Program} {w : World} {A : Around} {elt : Expr} {gs : List Comprehension} {sc : Scope} {pos : Pos} {k : Nat} {acc : Value} {env : Env} {P P' : Shared → Prop} {E : Value → Shared → Prop} {t : Shared}
    (h : Behind prog w A elt gs sc pos k acc env P (fun _ _ => False) t) (i : ∀ s, P s → P' s) : Behind prog w A elt gs sc pos k acc env P' E t := by
  unfold Behind at h ⊢
  split
  · rename_i g e
    rw [e] at h
    exact thnF h fun x t1 h1 => thnF h1 fun y t2 h2 => codeAny_mono h2 fun r t' hr => by
      cases r with
      | ok _ => exact i _ hr
      | error _ => exact hr
  · rename_i e
    rw [e] at h
    exact thnF h fun x t1 h1 => thnF h1 fun y t2 h2 => i _ h2
section
variable {Y : Cx} {elt : Expr} {gs : List Comprehension} {sc : Scope} {pos : Pos} {te : TE} {D : Addr}
/-- a turn of one clause -/
theorem turn_ok (hx : Y.xe = fun _ _ => False) (hc : Y.calm = true) {c : Cl} {cs : List Cl} {g : Comprehension} {k : Nat} (hpg : PG Y g.target c.g) (hpt : PTs Y g.ifs c.tt) (dn : Down c.vs cs)
    (ih : ∀ pins s σ H Nx, Inv Y pins σ H s → tBody (tElt te D) cs σ H Nx → Behind Y.prog Y.w Y.A elt gs sc pos k (.ref D) Y.env (fun s' => ∃ H', Inv Y pins (wipes cs σ) H' s' ∧ Nx H') (fun _ _ => False) s)
    {it : Addr} {fp : List Addr} {tn : Nat → Heap → Prop} {J : It} (T : Turn Y.prog Y.w Y.K g.target J fp it tn) {pins : List (Addr × Obj)} {σ : L2.St} {W : Nat → Nat → Hp → Prop} {Nx1 : Hp → Prop} {n i : Nat} {H5 : Hp} {s5 : Shared} {E : Value → Shared → Prop}
    (I5 : Inv Y pins (wipe σ c.vs) H5 s5) (fr : ∀ H, (∀ b ∈ fp, H b = none) → ∀ b ∈ fp, FpOk Y pins H b) (st5 : tn i s5.heap) (n5 : ∀ b ∈ fp, H5 b = none) (go : J.go i H5) (hNx : ∀ H', Nx1 H' → ∃ m', m' < n ∧ W (i + 1) m' H')
    (step : ∀ x H', J.yld i H5 x H' → c.g x (wipe σ c.vs) H' fun σ2 H2 => wipe σ2 c.vs = wipe σ c.vs ∧ c.tt σ2 H2 fun b H3 => if b = true then tBody (tElt te D) cs σ2 H3 Nx1 else Nx1 H3) :
    wpAny (model Y.prog Y.w) Y.A (pyNext (.ref it)) (fun r t₁ => ∃ v, r = some v ∧ wpAny (model Y.prog Y.w) Y.A (letOwnedTupleGo g.target (.ref it) v) (fun _ t₂ => wpAny (model Y.prog Y.w) Y.A (assign g.target Y.env v) (fun _ t₃ => wpAny (model Y.prog Y.w) Y.A (seeTests g.ifs Y.env) (fun ok t₄ =>
      if ok = true then Behind Y.prog Y.w Y.A elt gs sc pos k (.ref D) Y.env (fun s' => ∃ m, m < n ∧ ∃ j H', Inv Y pins (wipe σ c.vs) H' s' ∧ tn j s'.heap ∧ (∀ b ∈ fp, H' b = none) ∧ W j m H') E t₄
      else ∃ m, m < n ∧ ∃ j H', Inv Y pins (wipe σ c.vs) H' t₄ ∧ tn j t₄.heap ∧ (∀ b ∈ fp, H' b = none) ∧ W j m H') E t₃) E t₂) E t₁) E s5 := by
  have ti := T.item Y rfl rfl rfl hc i pins s5 _ H5 (fun _ _ => False) I5 (fr H5 n5) st5 go
  refine thnF ti fun r s6 ⟨u, hr, h6⟩ => ⟨u, hr, ?_⟩
  refine thnF h6 fun _ s7 ⟨x, H7, I7, r7, y7, st7, n7⟩ => ?_
  have I7' := I7.pinned (fr H7 n7) (T.obj _ _ st7)
  have pg := hpg.run _ s7 _ H7 x u _ I7' r7 (step x H7 y7)
  rw [hx] at pg
  refine thnF pg fun _ s8 ⟨σ8, H8, I8, hw8, q8⟩ => ?_
  have pt := hpt.run _ s8 σ8 H8 _ I8 q8
  rw [hx] at pt
  refine thnF pt fun b s9 ⟨H9, I9, q9⟩ => ?_
  have fin : ∀ {σ9 : L2.St} {s' : Shared} {H' : Hp}, Inv Y (pins ++ pinsAt fp s7.heap) σ9 H' s' → (wipe σ c.vs).length = σ9.length → (∀ (j : Nat) v, (wipe σ c.vs)[j]? = some (some v) → σ9[j]? = some (some v)) → Nx1 H' →
      ∃ m, m < n ∧ ∃ j H', Inv Y pins (wipe σ c.vs) H' s' ∧ tn j s'.heap ∧ (∀ b ∈ fp, H' b = none) ∧ W j m H' := fun {σ9 s' H'} I' hl hk nx => by
    obtain ⟨m', hm, w'⟩ := hNx H' nx
    have pin' : ∀ b ∈ fp, ∀ o, s7.heap.get? b = some o → s'.heap.get? b = some o ∧ H' b = none := fun b hb o e => by
      have z := I'.pin (b, o) (List.mem_append_right _ (List.mem_append_right _ (mem_pinsAt hb e)))
      exact ⟨z.1, z.2.1⟩
    refine ⟨m', hm, i + 1, H', (I'.unpinned (pins := pins)).weak hl hk, T.keep _ _ _ st7 (fun b hb o e => (pin' b hb o e).1), fun b hb => ?_, w'⟩
    obtain ⟨o, e, _⟩ := T.obj _ _ st7 b hb
    exact (pin' b hb o e).2
  have len8 : (wipe σ c.vs).length = σ8.length := by rw [← hw8, wipe_length]
  cases b with
  | false =>
    simp only [Bool.false_eq_true, if_false] at q9 ⊢
    exact fin I9 len8 (fun j v e => by rw [← hw8] at e; exact (wipe_some e).1) q9
  | true =>
    simp only [if_true] at q9 ⊢
    refine (ih _ s9 σ8 H9 Nx1 I9 q9).mono fun s' ⟨H', I', nx⟩ => fin I' (len8.trans wipes_len.symm) (fun j v e => ?_) nx
    rw [← hw8] at e
    exact wipes_keep dn e
theorem body_ok (hx : Y.xe = fun _ _ => False) (hc : Y.calm = true) (pe : PE Y elt te) : ∀ (cs : List Cl) (k : Nat), Paired (ClOk Y) cs (gs.drop (k + 1)) → Dn cs →
    ∀ pins s σ H Nx, Inv Y pins σ H s → tBody (tElt te D) cs σ H Nx → Behind Y.prog Y.w Y.A elt gs sc pos k (.ref D) Y.env (fun s' => ∃ H', Inv Y pins (wipes cs σ) H' s' ∧ Nx H') (fun _ _ => False) s := by
  intro cs
  induction cs with
  | nil =>
    intro k hp _ pins s σ H Nx I h
    have e : gs[k + 1]? = none := by
      generalize hq : gs.drop (k + 1) = q at hp
      cases hp
      have := List.drop_eq_nil_iff.mp hq
      exact List.getElem?_eq_none this
    unfold Behind
    rw [e]
    have r := pe.run pins s σ H _ I h
    rw [hx] at r
    exact thnF r fun z s1 ⟨yv, H1, I1, r1, acc, hD, hz, nx⟩ => app_ok I1 hD hz r1 fun s2 I2 => ⟨_, I2, nx⟩
  | cons c cs ih =>
    intro k hp dn pins s σ H Nx I h
    obtain ⟨g, e, hg, hr⟩ : ∃ g, gs[k + 1]? = some g ∧ ClOk Y c g ∧ Paired (ClOk Y) cs (gs.drop (k + 2)) := by
      generalize hq : gs.drop (k + 1) = q at hp
      cases hp with
      | @cons _ g _ r a b =>
        have e0 : gs[k + 1]? = some g := by
          have : (gs.drop (k + 1))[0]? = some g := by rw [hq]; rfl
          rw [List.getElem?_drop] at this
          exact this
        refine ⟨g, e0, a, ?_⟩
        have : gs.drop (k + 2) = r := by
          rw [show k + 2 = (k + 1) + 1 by omega, ← List.drop_drop, hq]
          rfl
        rw [this]
        exact b
    have dn : Down c.vs cs := dn
    unfold Behind
    rw [e]
    have r := hg.pi.run pins s σ H _ I h
    rw [hx] at r
    refine thnF r fun xv s1 r1 => thnF r1 fun itv s2 h2 => ?_
    obtain ⟨it, fp, tn, J, H2, e2, I2, T, st2, f2, W, ⟨m1, w1⟩, turn⟩ := h2
    subst e2
    have fr : ∀ H, (∀ b ∈ fp, H b = none) → ∀ b ∈ fp, FpOk Y pins H b := fun H hn b hb => ⟨hn b hb, (f2 b hb).2⟩
    obtain ⟨gt, gi, gf, ga⟩ := g
    have a0 : ga = 0 := hg.as
    subst a0
    have loop : codeAny (model Y.prog Y.w) Y.A (.compLoop (.ListComp elt gs sc pos) (k + 1) (.ref it) (.ref D) Y.env) (fun r s' => match r with
        | .ok _ => ∃ H', Inv Y pins (wipe σ c.vs) H' s' ∧ Nx H'
        | .error _ => False) s2 := by
      refine loopN_any e (fun g' e' => ?_) (fun n s' => ∃ j H', Inv Y pins (wipe σ c.vs) H' s' ∧ tn j s'.heap ∧ (∀ b ∈ fp, H' b = none) ∧ W j n H') ?_ m1 ⟨0, H2, I2.weak (wipe_length _ _) (fun j v z => (wipe_some z).1), st2, fun b hb => (f2 b hb).1, w1⟩
      · generalize hq : gs.drop (k + 2) = q at hr
        have e0 : (gs.drop (k + 2))[0]? = some g' := by rw [List.getElem?_drop]; exact e'
        rw [hq] at e0
        cases hr with
        | nil => cases e0
        | cons a b =>
          cases e0
          exact ⟨a.as, a.fs⟩
      · rintro n s5 ⟨i, H5, I5, st5, n5, w5⟩
        rcases turn i n H5 w5 with ⟨stop, nx⟩ | ⟨go, Nx1, hNx, step⟩
        · refine thnF (T.done Y rfl rfl rfl hc i pins s5 _ H5 (fun _ _ => False) I5 (fr H5 n5) st5 stop) fun r s6 ⟨hr, I6⟩ => ?_
          subst hr
          exact ⟨_, I6, nx⟩
        · refine wpAny_mono (turn_ok (g := ⟨gt, gi, gf, 0⟩) hx hc hg.pg hg.pt dn (fun pins s σ H Nx I h => ih (k + 1) hr dn.dn pins s σ H Nx I h) T I5 fr st5 n5 go hNx step) (fun r s6 ⟨v, hr, h6⟩ => ?_) fun _ _ z => z
          subst hr
          exact h6
    exact startN e loop (T.self Y.A 0 _ _ _ st2 loop)
end
section
variable {X : Cx}
/-- [elt for .. in .. if .. for .. in .. ..]: any number of clauses -/
theorem coreN {pins : List (Addr × Obj)} {s : Shared} {σ : L2.St} {H : Hp} {Q : VK} {pos' : Pos} {use : Option (Value → Sem Unit)} {Qf : Value → Shared → Prop} {elt tg iter : Expr} {ifs : List Expr} {gs : List Comprehension} {scope : Scope} {own : List (Str × Nat)} {pos : Pos} {c : Cl} {cs : List Cl} {te : TE} (hc : X.calm = true) (hN : X.N.Nodup) (I : Inv X pins σ H s) (hi : PI X tg iter c.wi) (ok : BlkOk X.N X.env.scope scope own) (hvs : c.vs = own.map (·.2)) (dn : Down c.vs cs)
    (hg : ∀ (t : Shared) (H : Hp) (C : Addr) (cl : List (Str × Addr)) (fp : List Addr), PG (X.blk t H scope (compEnvC scope cl C X.env) fp) tg c.g ∧ PTs (X.blk t H scope (compEnvC scope cl C X.env) fp) ifs c.tt ∧ PE (X.blk t H scope (compEnvC scope cl C X.env) fp) elt te ∧ Paired (ClOk (X.blk t H scope (compEnvC scope cl C X.env) fp)) cs gs)
    (hs : ∀ x, foldedSetIterable iter X.env x = pure x) (h : tLcN c cs te σ H Q)
    (hRR : ∀ D C s' m H', Inv X pins σ H' s' → Q (.ref D) H' → s'.heap.Ns C m → FpOk X pins H' C → compPost (model X.prog X.w) X.A X.xe use Qf (.ref D) C (.ok .next) s') :
    wpAny (model X.prog X.w) X.A (comprehension (.ListComp elt (⟨tg, iter, ifs, 0⟩ :: gs) scope pos) scope X.env pos' (newList []) false (eval iter X.env) use) Qf X.xe s := by
  have frees : ∀ y ∈ scope.names, y.2 = .free → ∃ c, X.env.cells.lookup y.1 = some c := fun y hy e => (ok.free y hy e).elim (fun k => I.ok.has _ (.inl k)) fun k => I.ok.has _ (.inr k)
  refine wpAny_comprehension_free (use := use) rfl hs (closure_ok frees) ok.kind (fun y hy e => by rw [ok.uniq y hy, e]) (thn (hi.run pins s σ H _ I h) fun xv s1 hx => thn hx fun itv s2 h2 => ?_)
  obtain ⟨it, fp, tn, J, H2, e, I2, T, st2, f2, q⟩ := h2
  subst e
  refine wpAny_newObj_type (newEnv_comp ?_) (by show 0 ≤ sizeLine; decide)
  generalize eD : s2.heap.objs.size = D
  have nD : H2 D = none := I2.hok.fresh (Nat.le_of_eq eD)
  obtain ⟨W, ⟨m0, w0⟩, turn⟩ := q D nD
  generalize e3 : ({ s2 with heap := s2.heap.push { cls := .type "list", data := .seq ([] : List Value).toArray } } : Shared) = s3
  have I3 : Inv X pins σ (upd H2 D (.lst [])) s3 := by
    rw [← e3]
    exact I2.laid (t' := s2.toks) (fun b o z => Heap.get?_push_of_some _ z) (Nat.le_of_eq eD) ⟨Nat.zero_le _, [], 0, .nil, by rw [← eD]; exact Heap.get?_push_size _ rfl⟩
  have p3 : s3.heap = s2.heap.push { cls := .type "list", data := .seq ([] : List Value).toArray } := by rw [← e3]
  have small : ∀ b ∈ fp, b < s2.heap.objs.size := fun b hb => Heap.lt_size (T.obj _ _ st2 b hb).choose_spec.1
  have f3 : ∀ b ∈ fp, FpOk X pins (upd H2 D (.lst [])) b ∧ b < s3.heap.objs.size := fun b hb => by
    have lt := small b hb
    refine ⟨⟨?_, (f2 b hb).2⟩, by rw [p3, Heap.size_push]; exact Nat.lt_succ_of_lt lt⟩
    rw [upd_ne (by rw [← eD]; exact Nat.ne_of_lt lt)]
    exact (f2 b hb).1
  have st3 : tn 0 s3.heap := T.keep _ _ _ st2 fun b _ o z => by rw [p3]; exact Heap.get?_push_of_some _ z
  have I4 := block_start I3 ok hN f3
  obtain ⟨pg, pt, pe, pr⟩ := hg s3 (upd H2 D (.lst [])) s3.heap.objs.size (cellsFrom (s3.heap.objs.size + 1) scope.names (cloFrom X.env.cells scope.names [])) fp
  have nfp : ∀ b ∈ fp, (upd H2 D (.lst [])) b = none := fun b hb => (f3 b hb).1.1
  show codeAny _ _ (.compStart (.ListComp elt (⟨tg, iter, ifs, 0⟩ :: gs) scope pos) 0 (.ref it) (.ref D) (compEnvC scope (cellsFrom (s3.heap.objs.size + 1) scope.names (cloFrom X.env.cells scope.names [])) s3.heap.objs.size X.env)) (compPost (model X.prog X.w) X.A X.xe use Qf (.ref D) s3.heap.objs.size) { s3 with heap := pushCells (s3.heap.push { cls := .type "dict", data := .dict #[] }) scope.names }
  generalize ece : compEnvC scope (cellsFrom (s3.heap.objs.size + 1) scope.names (cloFrom X.env.cells scope.names [])) s3.heap.objs.size X.env = ce at I4 pg pt pe pr ⊢
  have eL : ce.locals = s3.heap.objs.size := by subst ece; rfl
  generalize eH : upd H2 D (.lst []) = H3 at I3 I4 pg pt pe pr w0 nfp f3
  generalize e4 : ({ s3 with heap := pushCells (s3.heap.push { cls := .type "dict", data := .dict #[] }) scope.names } : Shared) = s4 at I4 ⊢
  have st4 : tn 0 s4.heap := T.keep _ _ _ st3 fun b _ o z => by rw [← e4]; exact pushCells_keeps _ _ _ _ (Heap.get?_push_of_some _ z)
  rw [← hvs] at I4
  let Y : Cx := X.blk s3 H3 scope ce fp
  have loop : codeAny (model X.prog X.w) X.A (.compLoop (.ListComp elt (⟨tg, iter, ifs, 0⟩ :: gs) scope pos) 0 (.ref it) (.ref D) ce) (compPost (model X.prog X.w) X.A X.xe use Qf (.ref D) s3.heap.objs.size) s4 := by
    refine loopN_any (k := 0) rfl (fun g' e' => ?_) (fun n s' => ∃ i H', Inv Y [] (wipe σ c.vs) H' s' ∧ tn i s'.heap ∧ (∀ b ∈ fp, H' b = none) ∧ W i n H') ?_ m0 ⟨0, H3, I4, st4, nfp, w0⟩
    · cases pr with
      | nil => cases e'
      | cons a b =>
        cases e'
        exact ⟨a.as, a.fs⟩
    rintro n s5 ⟨i, H5, I5, st5, n5, w5⟩
    have fr : ∀ H, Inv Y [] (wipe σ c.vs) H5 s5 → (∀ b ∈ fp, H b = none) → ∀ b ∈ fp, FpOk Y [] H b := fun H I' hn b hb =>
      ⟨hn b hb, (I'.ok.exf b hb).1, I'.ok.exfs b hb, .inl hb, fun x c z => (I'.ok.exf b hb).2 x c z, fun p hp => absurd (show p ∈ ([] : List (Addr × Obj)) ++ [] from hp) (by simp)⟩
    rcases turn i n H5 w5 with ⟨stop, qq⟩ | ⟨go, Nx, hNx, step⟩
    · refine thnF (T.done Y rfl rfl rfl hc i [] s5 _ H5 (fun _ _ => False) I5 (fr _ I5 n5) st5 stop) fun r s6 ⟨hr, I6⟩ => ?_
      subst hr
      have I7 : Inv X pins σ H5 s6 := I3.call' (ch := fp) I6.os I6.base I6.hok I6.bare fun b hb => ⟨(f3 b hb).1.2.2.2.1, (f3 b hb).1.2.1, (f3 b hb).1.2.2.2.2.1, (f3 b hb).1.2.2.2.2.2⟩
      have nC : H5 s3.heap.objs.size = none := by
        have z : H5 ce.locals = none := I6.free
        rw [eL] at z
        exact z
      obtain ⟨m, hn, _⟩ := I6.loc
      have hn : s6.heap.Ns ce.locals m := hn
      rw [eL] at hn
      exact hRR D s3.heap.objs.size s6 m H5 I7 qq hn (I3.fpOk (Nat.le_refl _) nC)
    · refine wpAny_mono (turn_ok (Y := Y) (g := ⟨tg, iter, ifs, 0⟩) (sc := scope) (pos := pos) rfl hc pg pt dn (fun pins s σ H Nx I h => body_ok (Y := Y) (gs := ⟨tg, iter, ifs, 0⟩ :: gs) (sc := scope) (pos := pos) rfl hc pe cs 0 pr dn.dn pins s σ H Nx I h) T I5 (fun H => fr H I5) st5 n5 go hNx step) (fun r s6 ⟨v, hr, h6⟩ => ?_) fun _ _ z => z
      subst hr
      exact h6
  exact codeAny_compStart_list loop (T.self X.A 0 _ _ _ st4 loop)
theorem pe_lcN {elt tg iter : Expr} {ifs : List Expr} {gs : List Comprehension} {scope : Scope} {own : List (Str × Nat)} {pos : Pos} {c : Cl} {cs : List Cl} {te : TE} (hc : X.calm = true) (hN : X.N.Nodup) (hi : PI X tg iter c.wi) (ok : BlkOk X.N X.env.scope scope own) (hvs : c.vs = own.map (·.2)) (dn : Down c.vs cs)
    (hg : ∀ (t : Shared) (H : Hp) (C : Addr) (cl : List (Str × Addr)) (fp : List Addr), PG (X.blk t H scope (compEnvC scope cl C X.env) fp) tg c.g ∧ PTs (X.blk t H scope (compEnvC scope cl C X.env) fp) ifs c.tt ∧ PE (X.blk t H scope (compEnvC scope cl C X.env) fp) elt te ∧ Paired (ClOk (X.blk t H scope (compEnvC scope cl C X.env) fp)) cs gs)
    (hs : ∀ x, foldedSetIterable iter X.env x = pure x) : PE X (.ListComp elt (⟨tg, iter, ifs, 0⟩ :: gs) scope pos) (tLcN c cs te) := by
  refine ⟨fun pins s σ H Q I h => ?_⟩
  rw [eval_ListComp]
  refine coreN hc hN I hi ok hvs dn hg hs h fun D C s' m H' I' q hn f => ⟨m, hn, fun h'' sb => ?_⟩
  obtain ⟨a0, a1, a2, a3, a4, a5⟩ := f
  exact ⟨.ref D, H', I'.turned (t' := s'.toks) (fun b o hb z => (sb.2 b hb).trans z) a0 a1 a3 a4 a5, rfl, q⟩
/-- name = [..] on one line -/
theorem ps_setLcN {i : Nat} {y : Str} {py spos : Pos} {elt tg iter : Expr} {ifs : List Expr} {gs : List Comprehension} {scope : Scope} {own : List (Str × Nat)} {pos : Pos} {c : Cl} {cs : List Cl} {te : TE} (hc : X.calm = true) (hN : X.N.Nodup) (hy : X.N[i]? = some y) (hyl : X.env.scope.names.lookup y = some .local)
    (hsw : swapsWith (.ListComp elt (⟨tg, iter, ifs, 0⟩ :: gs) scope pos) (some (.Name y py)) spos.line X.env = pure true) (hi : PI X tg iter c.wi) (ok : BlkOk X.N X.env.scope scope own) (hvs : c.vs = own.map (·.2)) (dn : Down c.vs cs)
    (hg : ∀ (t : Shared) (H : Hp) (C : Addr) (cl : List (Str × Addr)) (fp : List Addr), PG (X.blk t H scope (compEnvC scope cl C X.env) fp) tg c.g ∧ PTs (X.blk t H scope (compEnvC scope cl C X.env) fp) ifs c.tt ∧ PE (X.blk t H scope (compEnvC scope cl C X.env) fp) elt te ∧ Paired (ClOk (X.blk t H scope (compEnvC scope cl C X.env) fp)) cs gs)
    (hs : ∀ x, foldedSetIterable iter X.env x = pure x) :
    PS X (.Assign [.Name y py] (.ListComp elt (⟨tg, iter, ifs, 0⟩ :: gs) scope pos) spos) (tAsg (tLcN c cs te) (gName i)) := by
  refine ⟨fun pins s σ H D I h => ?_⟩
  rw [exec_Assign_Name_used _ _ _ _ hsw]
  refine wpAny_bind (wpAny_standAt (wpAny_bind ?_))
  show wpAny _ X.A (do let _ ← comprehension (.ListComp elt (⟨tg, iter, ifs, 0⟩ :: gs) scope pos) scope X.env (firstIterPos (⟨tg, iter, ifs, 0⟩ :: gs) pos) (newList []) false (eval iter X.env) (some (assign (.Name y py) X.env))) _ _ s
  have h : tLcN c cs te σ H (fun x H1 => gName i x σ H1 D.nx) := h
  refine wpAny_bind (thn (coreN (Qf := fun _ s' => SP X pins D .next s') hc hN I hi ok hvs dn hg hs h fun L C s' m H' I' q hn f => ?_) fun _ s' hq => wpAny_pure (wpAny_pure hq))
  show wpAny _ _ (assign (.Name y py) X.env (.ref L)) _ _ _
  refine wpAny_assign_Name (store_ok2 (v := V.ref L) I' hN hy (.inl hyl) rfl (fun s2 I2 ⟨a, sb, ha⟩ => ?_) (.inr hyl))
  obtain ⟨a0, a1, a2, a3, a4, a5⟩ := f
  have ne : C ≠ a := ha.elim (fun z => by rw [z]; exact a1) fun z e => a4 y a z e.symm
  exact ⟨m, hn.sameBut sb ne, fun h3 sb3 => ⟨_, H', I2.turned (t' := s2.toks) (fun b o hb z => (sb3.2 b hb).trans z) a0 a1 a3 a4 a5, q⟩⟩
end
end Mp

set_option Elab.async false
set_option linter.all false
set_option maxRecDepth 100000
set_option maxHeartbeats 8000000
/-! N2: comprehensions of many clauses, their meaning. -/
namespace Mp
open PySem PySem.Spec PyProof.Rows L2
section
variable {U : Wd} {f : ME → En → R Val} {K : Fg}
theorem wipe_wipe {σ1 σ2 : L2.St} {vs : List Nat} (hl : σ1.length = σ2.length) (h : ∀ j, j ∉ vs → σ1[j]? = σ2[j]?) : wipe σ1 vs = wipe σ2 vs := List.ext_getElem? fun j => by
  rw [wipe_get, wipe_get]
  by_cases m : j ∈ vs
  · rw [if_pos m, if_pos m]
    by_cases l : j < σ1.length
    · rw [List.getElem?_eq_getElem l, List.getElem?_eq_getElem (by omega)]
      rfl
    · rw [List.getElem?_eq_none (by omega), List.getElem?_eq_none (by omega)]
  · rw [if_neg m, if_neg m, h j m]
/-- a clause's loop -/
theorem loop_rd (eK : U.K = K) {Da : Addr} {rb : En} {σb : L2.St} {Hb Gb : Hp} (nb : Hb Da = none) {wi : TI} {tb : L2.St → Hp → (Hp → Prop) → Prop} {body : En → R (List D)} {tg : Tg} {cs : List ME} {vs : List Nat} {wp : L2.St → L2.St} (hv : ∀ i ∈ tg.slots, i ∈ vs) (hw : ∀ σ, wipe (wp σ) vs = wipe σ vs)
    (hb : ∀ {rq r3 : En} {ds dacc : List D} {acc : List V} {σ : L2.St} {H G : Hp} {Nx : Hp → Prop}, Rl U rq σ H G → Tr rb σb Hb Gb rq σ H G → Kp Da (.lst acc) rq σ H G → Reps U G acc dacc → acc.length + ds.length ≤ sizeLine → body rq = .ok ds r3 →
      (∀ H' G' acc', Rl U r3 (wp σ) H' G' → Tr rb σb Hb Gb r3 (wp σ) H' G' → Same G G' → Kp Da (.lst acc') r3 (wp σ) H' G' → Reps U G' acc' (dacc ++ ds) → Nx H') → tb σ H Nx)
    {J : It} {xs ds dacc : List D} {acc : List V} {r0 rE : En} {σ : L2.St} {H0 G0 : Hp} {Nx : Hp → Prop} (rl : Rl U r0 (wipe σ vs) H0 G0) (t0 : Tr rb σb Hb Gb r0 (wipe σ vs) H0 G0) (hJ : ItOk U J xs G0) (hx : xs.length ≤ sizeLine) (kp : Kp Da (.lst acc) r0 (wipe σ vs) H0 G0) (ra : Reps U G0 acc dacc) (len : acc.length + ds.length ≤ sizeLine)
    (e : loopC f cs tg vs body xs r0 = .ok ds rE)
    (fin : ∀ H' G' acc', Rl U rE (wipe σ vs) H' G' → Tr rb σb Hb Gb rE (wipe σ vs) H' G' → Same G0 G' → Kp Da (.lst acc') rE (wipe σ vs) H' G' → Reps U G' acc' (dacc ++ ds) → Nx H') :
    tLoop ⟨wi, tgG K tg, tCs U f cs, vs⟩ tb J σ H0 Nx := by
  let Inv0 := fun (i : Nat) (H : Hp) => i ≤ xs.length ∧ ∃ ri Gi acci dacci dsi, Rl U ri (wipe σ vs) H Gi ∧ Tr rb σb Hb Gb ri (wipe σ vs) H Gi ∧ Same G0 Gi ∧ Kp Da (.lst acci) ri (wipe σ vs) H Gi ∧ Reps U Gi acci dacci ∧ loopC f cs tg vs body (xs.drop i) ri = .ok dsi rE ∧ dacci ++ dsi = dacc ++ ds ∧ acci.length + dsi.length ≤ sizeLine
  refine ⟨fun i m H => m = xs.length - i ∧ Inv0 i H, ⟨xs.length, rfl, Nat.zero_le _, _, G0, acc, dacc, ds, rl, t0, Same.refl _, kp, ra, e, rfl, len⟩, ?_⟩
  rintro i m H ⟨rfl, hi, ri, Gi, acci, dacci, dsi, rli, ti, si, ki, rai, ec, ed, el⟩
  obtain ⟨jy, js⟩ := hJ i Gi H si rli.sub
  by_cases lt : i < xs.length
  case neg =>
    left
    have e3 : xs.drop i = [] := List.drop_eq_nil_of_le (by omega)
    rw [e3] at ec
    have ec' : R.ok [] ri = .ok dsi rE := ec
    cases ec'
    rw [List.append_nil] at ed
    rw [ed] at rai
    exact ⟨js (by omega), fin H Gi acci rli ti si ki rai⟩
  case pos =>
    right
    have e3 : xs.drop i = xs[i] :: xs.drop (i + 1) := List.drop_eq_getElem_cons lt
    obtain ⟨jg, jx⟩ := jy xs[i] (List.getElem?_eq_getElem lt)
    rw [e3] at ec
    unfold loopC at ec
    cases ep : put tg xs[i] ri with
    | none => rw [ep] at ec; cases ec
    | some rp =>
    rw [ep] at ec
    replace ec : (match evCs f cs rp with
      | .ok false r2 => loopC f cs tg vs body (xs.drop (i + 1)) (wipeE r2 vs)
      | .ok true r2 => (match body r2 with
        | .ok ds r3 => (match loopC f cs tg vs body (xs.drop (i + 1)) (wipeE r3 vs) with
          | .ok es r4 => .ok (ds ++ es) r4
          | _ => .bad)
        | _ => .bad)
      | _ => .bad) = R.ok dsi rE := ec
    cases eq : evCs f cs rp with
    | bad => rw [eq] at ec; cases ec
    | exn _ _ => rw [eq] at ec; cases ec
    | ok bq rq =>
    rw [eq] at ec
    refine ⟨jg, fun H' => Inv0 (i + 1) H', fun H' h => ⟨xs.length - (i + 1), by omega, rfl, h⟩, fun x H' hy => ?_⟩
    obtain ⟨G', ad, rx⟩ := jx x H' hy
    refine put_ok eK ep (ad.rl rli) rx fun σ' rlp op sp lp => ?_
    have ew : wipe σ' vs = wipe σ vs := by
      refine (wipe_wipe (by rw [lp]) fun j m => sp j fun z => m (hv j z)).trans ?_
      refine List.ext_getElem? fun j => ?_
      rw [wipe_get, wipe_get]
      by_cases m : j ∈ vs
      · rw [if_pos m, if_pos m]
        cases σ[j]? <;> rfl
      · rw [if_neg m, if_neg m]
    refine ⟨ew, ?_⟩
    have tp := (ti.trans ad.tr).trans (Tr.slots (H := H') (G := G') op)
    have kp1 := (ki.tr ad.tr).tr (Tr.slots (H := H') (G := G') op)
    refine tCs_of rlp eq fun H3 G3 rl3 t3 => ?_
    have kp3 := kp1.tr t3
    have tp3 := tp.trans t3
    have ra3 := rai.mono (ad.g.trans t3.g)
    cases bq with
    | false =>
      rw [if_neg (by decide)]
      have rw3 := rl3.wiped vs
      rw [ew] at rw3
      have tw : Tr rq σ' H3 G3 (wipeE rq vs) (wipe σ vs) H3 G3 := Tr.slots fun a z => by rw [← ew] at z; exact own_wipe z
      exact ⟨lt, _, G3, acci, dacci, dsi, rw3, tp3.trans tw, (si.trans ad.g).trans t3.g, kp3.tr tw, ra3, ec, ed, el⟩
    | true =>
      rw [if_pos rfl]
      replace ec : (match body rq with
        | .ok ds r3 => (match loopC f cs tg vs body (xs.drop (i + 1)) (wipeE r3 vs) with
          | .ok es r4 => .ok (ds ++ es) r4
          | _ => .bad)
        | _ => .bad) = R.ok dsi rE := ec
      cases eb : body rq with
      | bad => rw [eb] at ec; cases ec
      | exn _ _ => rw [eb] at ec; cases ec
      | ok ds1 r3 =>
      rw [eb] at ec
      replace ec : (match loopC f cs tg vs body (xs.drop (i + 1)) (wipeE r3 vs) with
          | .ok es r4 => .ok (ds1 ++ es) r4
          | _ => .bad) = R.ok dsi rE := ec
      cases e4 : loopC f cs tg vs body (xs.drop (i + 1)) (wipeE r3 vs) with
      | bad => rw [e4] at ec; cases ec
      | exn _ _ => rw [e4] at ec; cases ec
      | ok ds2 r4 =>
      rw [e4] at ec
      cases ec
      rw [List.length_append] at el
      refine hb rl3 tp3 kp3 ra3 (by omega) eb fun H4 G4 acc4 rl4 t4 s4 kp4 ra4 => ?_
      have rw4 := rl4.wiped vs
      rw [hw, ew] at rw4
      have tw : Tr r3 (wp σ') H4 G4 (wipeE r3 vs) (wipe σ vs) H4 G4 := Tr.slots fun a z => by rw [← ew, ← hw] at z; exact own_wipe z
      have l4 : acc4.length = acci.length + ds1.length := by
        have h1 := ra4.length
        have h2 := rai.length
        rw [List.length_append] at h1
        omega
      exact ⟨lt, _, G4, acc4, dacci ++ ds1, ds2, rw4, t4.trans tw, ((si.trans ad.g).trans t3.g).trans s4, (kp4).tr tw, ra4, e4, by rw [List.append_assoc]; exact ed, by omega⟩
def rdCls (U : Wd) (f : ME → En → R Val) (K : Fg) : List MCl → List Cl
  | [] => []
  | (tg, ik, its, cs) :: rest => ⟨Rg U W0 (relI U) (evI f ik its), tgG K tg, tCs U f cs, slotsN ((tg, ik, its, cs) :: rest)⟩ :: rdCls U f K rest
theorem wipe_idem {σ : L2.St} {vs ws : List Nat} (h : ∀ i ∈ ws, i ∈ vs) : wipe (wipe σ ws) vs = wipe σ vs := wipe_wipe (wipe_length _ _) fun j m => by
  rw [wipe_get, if_neg fun z => m (h j z)]
theorem slots_head {tg : Tg} {ik : Nat} {its cs : List ME} {rest : List MCl} : ∀ i ∈ tg.slots, i ∈ slotsN ((tg, ik, its, cs) :: rest) := fun i h => by
  unfold slotsN
  rw [List.flatMap_cons]
  exact List.mem_append_left _ h
theorem slots_tail {c : MCl} {rest : List MCl} : ∀ i ∈ slotsN rest, i ∈ slotsN (c :: rest) := fun i h => by
  unfold slotsN at h ⊢
  rw [List.flatMap_cons]
  exact List.mem_append_right _ h
theorem wipes_rd {c : MCl} {rest : List MCl} (σ : L2.St) : wipe (wipes (rdCls U f K rest) σ) (slotsN (c :: rest)) = wipe σ (slotsN (c :: rest)) := by
  match rest with
  | [] => rfl
  | (tg, ik, its, cs) :: rest => exact wipe_idem slots_tail
theorem evI_of {ik : Nat} {its : List ME} {r r1 : En} {ds xs : List D} (e1 : mapR (evF f) its r = .ok ds r1) (e2 : walkD ik ds = some xs) : evI f ik its r = .ok xs r1 := by
  show (mapR (evF f) its r).bind _ = _
  rw [e1]
  show ofOpt (walkD ik ds) r1 = _
  rw [e2]
  rfl
/-- what stands behind a clause's tests -/
theorem evN_rd (eK : U.K = K) {elt : ME} {Da : Addr} {rb : En} {σb : L2.St} {Hb Gb : Hp} (nb : Hb Da = none) : ∀ (cls : List MCl) {rq r3 : En} {ds dacc : List D} {acc : List V} {σ : L2.St} {H G : Hp} {Nx : Hp → Prop}, Rl U rq σ H G → Tr rb σb Hb Gb rq σ H G → Kp Da (.lst acc) rq σ H G → Reps U G acc dacc → acc.length + ds.length ≤ sizeLine → evN f elt cls rq = .ok ds r3 →
      (∀ H' G' acc', Rl U r3 (wipes (rdCls U f K cls) σ) H' G' → Tr rb σb Hb Gb r3 (wipes (rdCls U f K cls) σ) H' G' → Same G G' → Kp Da (.lst acc') r3 (wipes (rdCls U f K cls) σ) H' G' → Reps U G' acc' (dacc ++ ds) → Nx H') →
      tBody (tElt (Rg U W0 (relF U) (evF f elt)) Da) (rdCls U f K cls) σ H Nx
  | [], rq, r3, ds, dacc, acc, σ, H, G, Nx, rl, tb, kp, ra, len, e, fin => by
    have e : (match evF f elt rq with
      | .ok d r1 => R.ok [d] r1
      | _ => .bad) = .ok ds r3 := e
    cases e1 : evF f elt rq with
    | bad => rw [e1] at e; cases e
    | exn _ _ => rw [e1] at e; cases e
    | ok d r1 =>
      rw [e1] at e
      cases e
      refine ⟨rq, G, rl, ?_⟩
      rw [e1]
      intro y H' G' rl' t ry
      have ry : Rep U G' y d := ry
      have kp' := kp.tr t
      exact ⟨acc, kp'.h, by simp at len; omega, fin _ G' (acc ++ [y]) (rl'.updN kp'.g kp'.n) ((tb.trans t).updN nb) t.g ⟨kp'.g, kp'.n, upd_same⟩ ((ra.mono t.g).append (.one ry))⟩
  | (tg, ik, its, cs) :: rest, rq, r3, ds, dacc, acc, σ, H, G, Nx, rl, tb, kp, ra, len, e, fin => by
    unfold evN at e
    cases e1 : mapR (evF f) its rq with
    | bad => rw [e1] at e; cases e
    | exn _ _ => rw [e1] at e; cases e
    | ok ds0 r1 =>
    rw [e1] at e
    simp only [] at e
    cases e2 : walkD ik ds0 with
    | none => rw [e2] at e; cases e
    | some xs =>
    rw [e2] at e
    simp only [] at e
    refine ⟨rq, G, rl, ?_⟩
    rw [evI_of e1 e2]
    intro J H1 G1 rl1 t1 hJ
    have tw : Tr r1 σ H1 G1 (wipeE r1 (slotsN ((tg, ik, its, cs) :: rest))) (wipe σ (slotsN ((tg, ik, its, cs) :: rest))) H1 G1 := Tr.slots fun a z => own_wipe z
    have kp1 := (kp.tr t1).tr tw
    refine loop_rd eK nb (body := evN f elt rest) (wp := wipes (rdCls U f K rest)) slots_head wipes_rd (fun rl tb kp ra len e fin => evN_rd eK nb rest rl tb kp ra len e fin) (rl1.wiped _) ((tb.trans t1).trans tw) hJ (walkD_len e2) kp1 (ra.mono t1.g) len e fun H' G' acc' rl' t' s' kp' ra' => ?_
    exact fin H' G' acc' rl' t' (t1.g.trans s') kp' ra'
theorem loopC_noexn {cs : List ME} {tg : Tg} {vs : List Nat} {body : En → R (List D)} : ∀ (xs : List D) (r : En) (ex : Ex) (r' : En), loopC f cs tg vs body xs r ≠ .exn ex r'
  | [], r, ex, r', h => by cases h
  | x :: xs, r, ex, r', h => by
    unfold loopC at h
    repeat' split at h
    all_goals first | (cases h; done) | exact loopC_noexn _ _ _ _ h
def compnF (f : ME → En → R Val) (tg : Tg) (ik : Nat) (its cs : List ME) (rest : List MCl) (elt : ME) (r : En) : R Val := (mapR (evF f) its r).bind fun ds r1 => match walkD ik ds with
        | none => .bad
        | some xs => (loopC f cs tg (slotsN ((tg, ik, its, cs) :: rest)) (evN f elt rest) xs (wipeE r1 (slotsN ((tg, ik, its, cs) :: rest)))).bind fun ds r2 => if ds.length ≤ sizeLine then .ok (.ow (.lst ds)) (backE r1 r2 (slotsN ((tg, ik, its, cs) :: rest))) else .bad
theorem compn_rd (eK : U.K = K) {W : WX} {tg : Tg} {ik : Nat} {its cs : List ME} {rest : List MCl} {elt : ME} {σ : L2.St} {H : Hp} {Q : V → Hp → Prop} (q : Rg U W (relV U) (compnF f tg ik its cs rest elt) σ H Q) :
    tLcN ⟨Rg U W (relI U) (evI f ik its), tgG K tg, tCs U f cs, slotsN ((tg, ik, its, cs) :: rest)⟩ (rdCls U f K rest) (Rg U W0 (relF U) (evF f elt)) σ H Q := by
  obtain ⟨r, G, rl, q⟩ := q
  generalize hV : slotsN ((tg, ik, its, cs) :: rest) = vs at *
  have e1 : compnF f tg ik its cs rest elt r = (evI f ik its r).bind fun xs r1 => if xs.length ≤ sizeLine then (loopC f cs tg vs (evN f elt rest) xs (wipeE r1 vs)).bind fun ds r2 => if ds.length ≤ sizeLine then .ok (Val.ow (.lst ds)) (backE r1 r2 vs) else .bad else .bad := by
    unfold evI compnF
    rw [hV]
    cases mapR (evF f) its r with
    | bad => rfl
    | exn _ _ => rfl
    | ok ds r1 =>
      show (match walkD ik ds with
        | none => R.bad
        | some xs => (loopC f cs tg vs (evN f elt rest) xs (wipeE r1 vs)).bind fun ds r2 => if ds.length ≤ sizeLine then .ok (Val.ow (.lst ds)) (backE r1 r2 vs) else .bad) = (ofOpt (walkD ik ds) r1).bind _
      cases e : walkD ik ds with
      | none => rfl
      | some xs =>
        show _ = if xs.length ≤ sizeLine then _ else _
        rw [if_pos (walkD_len e)]
  rw [e1] at q
  refine ⟨r, G, rl, (Cont.bind (rel1 := relI U) (pst_V U) q).imp fun J H1 ⟨xs, r1, G1, rl1, t1, hJ, q1⟩ Da hD => ?_⟩
  split at q1
  case isFalse => exact False.elim q1
  rename_i hlen
  cases e2 : loopC f cs tg vs (evN f elt rest) xs (wipeE r1 vs) with
  | bad => rw [e2] at q1; exact False.elim q1
  | exn ex r' => exact absurd e2 (loopC_noexn _ _ _ _)
  | ok ds rE =>
  rw [e2] at q1
  have q1 : Cont U W (relV U) (if ds.length ≤ sizeLine then .ok (Val.ow (.lst ds)) (backE r1 rE vs) else .bad) r1 σ H1 G1 Q := q1
  split at q1
  case isFalse => exact False.elim q1
  rename_i hds
  have gD : G1 Da = none := rl1.sub.none hD
  have nD : ¬ OwnAt (wipeE r1 vs) (wipe σ vs) Da := fun z => by
    obtain ⟨o, w⟩ := rl1.own_some (own_wipe z)
    rw [hD] at w
    cases w
  subst hV
  refine loop_rd eK hD (rb := wipeE r1 _) (σb := wipe σ _) (Gb := G1) (body := evN f elt rest) (wp := wipes (rdCls U f K rest)) slots_head wipes_rd (fun rl tb kp ra len e fin => evN_rd eK hD rest rl tb kp ra len e fin)
    (acc := []) (dacc := []) ((rl1.wiped _).updN gD nD) (Tr.refl.updN hD) (hJ) hlen ⟨gD, nD, upd_same⟩ .nil (by simpa using hds) e2 fun H' G' acc' rl' t' s' kp' ra' => ?_
  rw [List.nil_append] at ra'
  obtain ⟨rb, tb⟩ := rl1.back rl' t'
  refine q1 (.ref Da) H' G' rb tb ⟨Da, rfl, hD, kp'.g, ⟨acc', kp'.h, ra'⟩, fun ⟨j, d, h1, h2⟩ => ?_⟩
  rw [backE_get _ _ (by rw [rl'.len, wipe_length, rl1.len])] at h1
  by_cases m : j ∈ slotsN ((tg, ik, its, cs) :: rest)
  · rw [if_pos m] at h1
    obtain ⟨o, w⟩ := rl1.own_some ⟨j, d, h1, h2⟩
    rw [hD] at w
    cases w
  · rw [if_neg m] at h1
    exact kp'.n ⟨j, d, h1, by rw [wipe_get, if_neg m]; exact h2⟩
end
end Mp

set_option Elab.async false
set_option linter.all false
set_option maxRecDepth 100000
set_option maxHeartbeats 8000000
/-! N3: set(list of ints), sorted of it, over the hand layer. -/
namespace Mp
open PySem PySem.Spec PyProof.Rows L2
section
variable {P : Program} {w : World} {A : Around} {E : Value → Shared → Prop} {s : Shared}
abbrev noSet (w : World) : Obj := { cls := .type "set", dict := none, data := .set #[] 0 (.fresh 0 0 (!w.params.followText "set-order")) }
abbrev withSet (w : World) (s : Shared) : Shared := { s with heap := s.heap.push (noSet w) }
theorem set_of_list {l : Addr} {items : Array Value} (ns : List Int) {Q : Value → Shared → Prop} (hh : A.handled = none) (hl : s.heap.IsList l items) (hit : IntsAre items.toList ns) (hb : ns.length + 1 < scanBound)
    (h : ∀ (h' : Heap) (tk c : Nat), SetR w h' s.heap.objs.size (fun j => decide (j ∈ ns)) c → c ≤ ns.length → (∀ b o, s.heap.get? b = some o → h'.get? b = some o) → Q (.ref s.heap.objs.size) { s with heap := h', toks := tk }) :
    wpAny (model P w) A (call (.type "set") [.ref l]) Q E s := by
  have size : items.size = ns.length := by
    have q := IntsAre.length hit
    rwa [Array.length_toList] at q
  obtain ⟨c, tl, hmro⟩ := F.called_set.mro
  have made := F.called_set.made; have under := F.called_set.sub
  refine wpAny_call (codeAny_of_tree ?_)
  show wpAny _ _ (callAny (.type "set") _) _ _ _
  refine wpAny_pure ⟨Code.quiet_builtin _ (by decide +kernel), codeAny_builtin F.entry_type_call ?_⟩
  rw [Around.under_plain (weight_type_call_type "set" [.ref l] []) rfl]
  have n1 := F.called_set.notType; have n2 := F.called_set.canCreate; have n3 := F.typeCall_set_1 (.ref l)
  repeat (any_goals (first | assumption | wp_step))
  refine codeAny_mono (code_set_led1 (.ref l) (E := E) (Q₁ := fun obj t => obj = .ref s.heap.objs.size ∧ t = withSet w s) ⟨rfl, rfl⟩) fun r t hr => ?_
  cases r with
  | error e => exact hr
  | ok fl =>
    cases fl with
    | ret obj =>
      obtain ⟨rfl, rfl⟩ := hr
      have at0 : (s.heap.push (noSet w)).get? s.heap.objs.size = some (noSet w) := Heap.get?_push_size _ rfl
      have ty0 : Shared.TypeIs (withSet w s) (.ref s.heap.objs.size) "set" := ⟨_, at0, rfl⟩
      have i1 := F.called_set.init.lookup; have i2 := F.called_set.init.bind (.ref s.heap.objs.size)
      repeat (any_goals (first | assumption | wp_step))
      refine codeAny_mono (codeAny_call_builtin (R := wants (fun r t => r = .none ∧ ∃ h' tk c, t = { s with heap := h', toks := tk } ∧ SetR w h' s.heap.objs.size (fun j => decide (j ∈ ns)) c ∧ c ≤ ns.length ∧ ∀ b o, s.heap.get? b = some o → h'.get? b = some o) E) F.called_set.init.plain F.entry_set_init (check_set_init_1 ty0 ?_)) fun r2 t2 hr2 => ?_
      · obtain ⟨ol, hol, hcl, nl, hdl⟩ := hl
        obtain ⟨ocls, odict, odata, oslots⟩ := ol
        simp only at hcl hdl
        subst hcl; subst hdl
        have hol' : (s.heap.push (noSet w)).get? l = some { cls := .type "list", dict := odict, data := .seq items nl, slots := oslots } := Heap.get?_push_of_some _ hol
        have s1 := F.sub_list_set; have s2 := F.sub_list_frozenset
        have ne : (Value.type "list" == Value.type "dict") = false := by decide
        have lst1 : (s.heap.push (noSet w)).IsList l items := ⟨_, hol', rfl, nl, rfl⟩
        unfold Builtin.«set.__init__» noKeywords Builtin.Frozenset.updateFrom
        generalize hPI : pyIter = PI
        wp_walk
        subst hPI
        refine wpAny_pyIter_list lst1 ?_
        refine wpAny_bind (wpAny_runValue ?_)
        have lS : l < s.heap.objs.size := Heap.lt_size hol
        have hd3 : A.in1.in1.in1.handled = none := by simp [hh]
        have neI : l ≠ (s.heap.push (noSet w)).objs.size := by rw [Heap.size_push]; exact Nat.ne_of_lt (Nat.lt_succ_of_lt lS)
        have away : s.heap.objs.size ∉ [(s.heap.push (noSet w)).objs.size, l] := by
          rw [Heap.size_push]; simp only [List.mem_cons, List.mem_singleton, List.not_mem_nil, or_false, not_or]
          exact And.intro (Nat.ne_of_lt (Nat.lt_succ_self _)) (Nat.ne_of_gt lS)
        have vals : ∀ (i : Nat) (v : Value), items[i]? = some v → ∃ k t, ns[i]? = some k ∧ v = .int k t := fun i v hv => by
          have hi : i < ns.length := by rw [← size]; exact (Array.getElem?_eq_some_iff.mp hv).1
          obtain ⟨t, e⟩ := IntsAre.int_at hit i v (by rw [Array.getElem?_toList]; exact hv)
          exact ⟨ns[i], t, List.getElem?_eq_getElem hi, by rw [e, List.getD_eq_getElem?_getD, List.getElem?_eq_getElem hi] <;> rfl⟩
        refine set_update_ints ((Walks.list hd3 _ l neI items).toS) s.heap.objs.size away ns size hb vals (items.size - 0) 0 _ (by omega) (Nat.zero_le _) ⟨⟨_, Heap.get?_push_size _ rfl, rfl, rfl⟩, (lst1.push _)⟩ ?start ?done
        case start =>
          exact ⟨0, Nat.le_refl 0, setR_new_at (Heap.get?_push_of_some _ at0)⟩
        case done =>
          intro s' c' hm hc' hS'
          obtain ⟨h', g2, d', tk', os'⟩ := s'
          have eg : g2 = s.gens := hm.gens; have ed : d' = s.drawn := hm.drawn; have eo : os' = s.os := hm.os
          subst eg; subst ed; subst eo
          show wpAny _ _ _ _ _ _
          refine wpAny_pure ?_
          show wpAny _ _ (ret Value.none) _ _ _
          rw [size] at hc'
          refine wpAny_pure ⟨rfl, h', tk', c', rfl, hS', hc', fun b o e => ?_⟩
          have lt : b < s.heap.objs.size := Heap.lt_size e
          have b2 : b ≠ (s.heap.push (noSet w)).objs.size := by rw [Heap.size_push]; exact Nat.ne_of_lt (Nat.lt_succ_of_lt lt)
          exact hm.heap b o (by simp only [List.mem_cons, List.mem_singleton, List.not_mem_nil, or_false, not_or]; exact And.intro (Nat.ne_of_lt lt) b2) (Heap.get?_push_of_some _ (Heap.get?_push_of_some _ e))
      · cases r2 with
        | error e => exact hr2
        | ok fl2 =>
          cases fl2 with
          | ret r =>
            obtain ⟨rfl, h', tk, c', rfl, hS', hc', hk'⟩ := hr2
            repeat (any_goals (first | assumption | wp_step))
            exact h _ _ _ hS' hc' hk'
          | _ => exact hr2.elim
    | _ => exact hr.elim
end
theorem setR_keys {w : World} {h : Heap} {a : Addr} {S : Int → Bool} {n : Nat} (R : SetR w h a S n) : ∃ L : List Int, L.Nodup ∧ (∀ k, S k = true ↔ k ∈ L) ∧ L.length = n := by
  obtain ⟨o, es, ep, t, ho, hex, hd, g, nd, hm, hb, hf, hn, _⟩ := R
  exact ⟨es.toList.map keyOf, nd, hm, by rw [List.length_map, Array.length_toList]; exact hn⟩
/-- set(xs), xs ints -/
def rSetI (K : Fg) (w : World) : List V → Hp → VK → Prop := fun xs H Q => ∃ (a : Addr) (ns : List Int), xs = [.ref a] ∧ (SqL K H a (ns.map V.int) ∨ SqT K H a (ns.map V.int)) ∧ ns.length ≤ 4000 ∧
  ∀ (p : Addr) (S : Int → Bool) (L : List Int), H p = none → L.Nodup → (∀ k, S k = true ↔ k ∈ ns) → (∀ k, k ∈ L ↔ k ∈ ns) → Q (.ref p) (upd H p (SetO w p S L.length))
theorem cr_setI {X : Cx} (hc : X.calm = true) : CallR X (.type "set") (rSetI X.K X.w) := by
  intro pins s σ H xs us Q I r h
  obtain ⟨a, ns, rfl, hq, hl, q⟩ := h
  obtain ⟨u, rfl, rx⟩ := vals1 r
  cases rx
  have hd := I.ok.hd hc
  have fin : ∀ (h' : Heap) (tk c : Nat), SetR X.w h' s.heap.objs.size (fun j => decide (j ∈ ns)) c → c ≤ ns.length → (∀ b o, s.heap.get? b = some o → h'.get? b = some o) → EP X pins σ Q (.ref s.heap.objs.size) { s with heap := h', toks := tk } := fun h' tk c R _ k => by
    obtain ⟨L, nd, hm, e⟩ := setR_keys R
    subst e
    exact ⟨.ref _, upd H s.heap.objs.size (SetO X.w s.heap.objs.size (fun j => decide (j ∈ ns)) L.length), I.laid (t' := tk) k (Nat.le_refl _) (setO_new R), rfl, q _ _ L (I.hok.fresh (Nat.le_refl _)) nd (fun k => by simp) fun k => by rw [← hm k]; simp⟩
  have big : ns.length + 1 < scanBound := by unfold scanBound; omega
  rcases hq with hq | hq
  · obtain ⟨its, rv, pl, _⟩ := I.list hq
    exact set_of_list ns hd pl.isList (ints_of_vals rv) big fin
  · obtain ⟨its, rv, pt, _⟩ := I.tuple hq
    exact call_set_tupI ns hd (show s.heap.IsTuple a its.toArray from pt) (ints_of_vals rv) big fin
/-! ### the ascending list of what is in a list of ints -/
theorem sdist_mem {ns : List Int} {k : Int} : k ∈ sdist ns ↔ k ∈ ns := by
  unfold sdist
  rw [List.mem_mergeSort, List.mem_eraseDups]
theorem eraseDups_nodup : ∀ (n : Nat) (ns : List Int), ns.length ≤ n → ns.eraseDups.Nodup
  | _, [], _ => by simp
  | n + 1, x :: xs, h => by
    rw [List.eraseDups_cons, List.nodup_cons]
    refine ⟨fun m => ?_, eraseDups_nodup n _ ?_⟩
    · rw [List.mem_eraseDups, List.mem_filter] at m
      simp at m
    · have := List.length_filter_le (fun b => !b == x) xs
      simp only [List.length_cons] at h
      omega
theorem sdist_perm (ns : List Int) : (sdist ns).Perm ns.eraseDups := List.mergeSort_perm _ _
theorem sdist_nodup (ns : List Int) : (sdist ns).Nodup := (sdist_perm ns).nodup_iff.mpr (eraseDups_nodup _ ns (Nat.le_refl _))
theorem sdist_le (ns : List Int) : (sdist ns).Pairwise (· ≤ ·) := by
  have := List.pairwise_mergeSort (le := fun (a b : Int) => decide (a ≤ b)) (fun a b c h1 h2 => by simp only [decide_eq_true_eq] at *; omega) (fun a b => by simp only [Bool.or_eq_true, decide_eq_true_eq]; omega) ns.eraseDups
  exact this.imp fun h => by simpa using h
theorem sdist_lt (ns : List Int) : (sdist ns).Pairwise (· < ·) := by
  have h1 := sdist_le ns
  have h2 : (sdist ns).Pairwise (· ≠ ·) := sdist_nodup ns
  exact List.Pairwise.imp₂ (fun a b (x : a ≤ b) (y : a ≠ b) => by omega) h1 h2
/-- such a list is told by what is in it -/
theorem asc_one : ∀ {xs ys : List Int}, xs.Pairwise (· < ·) → ys.Pairwise (· < ·) → (∀ k, k ∈ xs ↔ k ∈ ys) → xs = ys
  | [], [], _, _, _ => rfl
  | [], y :: ys, _, _, h => absurd ((h y).mpr List.mem_cons_self) (by simp)
  | x :: xs, [], _, _, h => absurd ((h x).mp List.mem_cons_self) (by simp)
  | x :: xs, y :: ys, h1, h2, h => by
    have a1 := List.pairwise_cons.mp h1
    have a2 := List.pairwise_cons.mp h2
    have e : x = y := by
      rcases List.mem_cons.mp ((h x).mp List.mem_cons_self) with e | e
      · exact e
      rcases List.mem_cons.mp ((h y).mpr List.mem_cons_self) with e' | e'
      · exact e'.symm
      have := a1.1 y e'
      have := a2.1 x e
      omega
    subst e
    congr 1
    refine asc_one a1.2 a2.2 fun k => ⟨fun m => ?_, fun m => ?_⟩
    · rcases List.mem_cons.mp ((h k).mp (List.mem_cons_of_mem _ m)) with e | e
      · have := a1.1 k m
        omega
      · exact e
    · rcases List.mem_cons.mp ((h k).mpr (List.mem_cons_of_mem _ m)) with e | e
      · have := a2.1 k m
        omega
      · exact e
theorem nodup_len {xs ys : List Int} (h1 : xs.Nodup) (h2 : ys.Nodup) (h : ∀ k, k ∈ xs ↔ k ∈ ys) : xs.length = ys.length := ((List.perm_ext_iff_of_nodup h1 h2).mpr h).length_eq
end Mp

set_option Elab.async false
set_option linter.all false
set_option maxRecDepth 100000
set_option maxHeartbeats 8000000
/-! N4: built-ins by their numbers. -/
namespace Mp
open PySem PySem.Spec PyProof.Rows L2
section
variable {U : Wd} {G H : Hp} {Q : VK} {x y : V}
theorem Adv.own2 (s : Sub G H) {p p2 : Addr} {o o2 : HO} (h : H p = none) (h2 : upd H p o p2 = none) : Adv G H G (upd (upd H p o) p2 o2) :=
  ⟨(s.same (same_new h)).same (same_new h2), Same.refl _, (same_new h).trans (same_new h2), fun _ _ z => .inl z⟩
theorem upd_none {p p2 : Addr} {o : HO} (h2 : upd H p o p2 = none) : p2 ≠ p ∧ H p2 = none := by
  by_cases e : p2 = p
  · subst e
    rw [upd_same] at h2
    cases h2
  · exact ⟨e, by rwa [upd_ne e] at h2⟩
theorem sset_fin {w : World} {a : Addr} {ns : List Int} {v : Val} (s : Sub G H) (ha : SqL U.K H a (ns.map V.int) ∨ SqT U.K H a (ns.map V.int)) (e : (if ns.length ≤ 4000 ∧ (sdist ns).length < 64 then some (Val.ow (.lst ((sdist ns).map .int))) else none) = some v) (k : KQ U G H v Q) :
    rSetI U.K w [.ref a] H fun y H2 => rSortedSet w [y] H2 Q := by
  split at e
  · rename_i hl
    cases e
    refine ⟨a, ns, rfl, ha, hl.1, fun p S L np nd hS hL => ⟨p, S, L.length, rfl, upd_same, ?_, fun ns' p2 asc mem len np2 => ?_⟩⟩
    · rw [nodup_len nd (sdist_nodup ns) fun k => by rw [hL k, sdist_mem]]
      exact hl.2
    · have e1 : ns' = sdist ns := asc_one asc (sdist_lt ns) fun k => by rw [mem k, hS k, sdist_mem]
      subst e1
      obtain ⟨ne, n2⟩ := upd_none np2
      exact k _ _ _ (Adv.own2 s np np2) ⟨p2, rfl, n2, s.none n2, _, upd_same, Reps.ints _⟩
  · cases e
theorem b_sset {w : World} {d1 : D} {v : Val} (e : bSset d1 = some v) (s : Sub G H) (h1 : Rd1 U G H x d1) (k : KQ U G H v Q) : rSetI U.K w [x] H fun y H2 => rSortedSet w [y] H2 Q := by
  unfold bSset at e
  split at e
  · rename_i xs
    cases q : intsOf xs with
    | none => rw [q] at e; cases e
    | some ns =>
      rw [q] at e
      cases intsOf_some q
      obtain ⟨a, us, rfl, ha, ra⟩ := rd_lst s h1
      rw [ra.of_ints] at ha
      exact sset_fin s (SqTL ha) e k
  · rename_i xs
    cases q : intsOf xs with
    | none => rw [q] at e; cases e
    | some ns =>
      rw [q] at e
      cases intsOf_some q
      obtain ⟨a, us, rfl, ha, ra⟩ := rd_tup s h1
      rw [ra.of_ints] at ha
      exact sset_fin s (.inr ha) e k
  · cases e
theorem foldl_max : ∀ (ns : List Int) (n : Int), (ns.foldl max n ∈ n :: ns) ∧ ∀ y ∈ n :: ns, y ≤ ns.foldl max n
  | [], n => ⟨List.mem_cons_self, fun y hy => by rcases List.mem_singleton.mp hy with rfl; exact Int.le_refl _⟩
  | m :: ns, n => by
    obtain ⟨h1, h2⟩ := foldl_max ns (max n m)
    refine ⟨?_, fun y hy => ?_⟩
    · show ns.foldl max (max n m) ∈ _
      rcases List.mem_cons.mp h1 with e | e
      · rw [e]
        rcases Int.le_total n m with l | l
        · rw [Int.max_eq_right l]; simp
        · rw [Int.max_eq_left l]; simp
      · exact List.mem_cons_of_mem _ (List.mem_cons_of_mem _ e)
    · show y ≤ ns.foldl max (max n m)
      have h0 := h2 (max n m) List.mem_cons_self
      rcases List.mem_cons.mp hy with rfl | hy
      · exact Int.le_trans (Int.le_max_left _ _) h0
      · rcases List.mem_cons.mp hy with rfl | hy
        · exact Int.le_trans (Int.le_max_right _ _) h0
        · exact h2 y (List.mem_cons_of_mem _ hy)
theorem foldl_min : ∀ (ns : List Int) (n : Int), (ns.foldl min n ∈ n :: ns) ∧ ∀ y ∈ n :: ns, ns.foldl min n ≤ y
  | [], n => ⟨List.mem_cons_self, fun y hy => by rcases List.mem_singleton.mp hy with rfl; exact Int.le_refl _⟩
  | m :: ns, n => by
    obtain ⟨h1, h2⟩ := foldl_min ns (min n m)
    refine ⟨?_, fun y hy => ?_⟩
    · show ns.foldl min (min n m) ∈ _
      rcases List.mem_cons.mp h1 with e | e
      · rw [e]
        rcases Int.le_total n m with l | l
        · rw [Int.min_eq_left l]; simp
        · rw [Int.min_eq_right l]; simp
      · exact List.mem_cons_of_mem _ (List.mem_cons_of_mem _ e)
    · show ns.foldl min (min n m) ≤ y
      have h0 := h2 (min n m) List.mem_cons_self
      rcases List.mem_cons.mp hy with rfl | hy
      · exact Int.le_trans h0 (Int.min_le_left _ _)
      · rcases List.mem_cons.mp hy with rfl | hy
        · exact Int.le_trans h0 (Int.min_le_right _ _)
        · exact h2 y (List.mem_cons_of_mem _ hy)
theorem b_max2 {d1 d2 : D} {v : Val} (e : bMax2 d1 d2 = some v) (s : Sub G H) (h1 : Rd1 U G H x d1) (h2 : Rd1 U G H y d2) (k : KQ U G H v Q) : ∃ i j, [x, y] = [V.int i, .int j] ∧ Q (.int (if j > i then j else i)) H := by
  unfold bMax2 at e
  split at e
  · cases e
    rw [rd_int h1, rd_int h2]
    exact ⟨_, _, rfl, k.int s⟩
  · cases e
theorem b_min2 {d1 d2 : D} {v : Val} (e : bMin2 d1 d2 = some v) (s : Sub G H) (h1 : Rd1 U G H x d1) (h2 : Rd1 U G H y d2) (k : KQ U G H v Q) : ∃ i j, [x, y] = [V.int i, .int j] ∧ Q (.int (if j < i then j else i)) H := by
  unfold bMin2 at e
  split at e
  · cases e
    rw [rd_int h1, rd_int h2]
    exact ⟨_, _, rfl, k.int s⟩
  · cases e
theorem b_maxL {d1 : D} {v : Val} (e : bMaxL d1 = some v) (s : Sub G H) (h1 : Rd1 U G H x d1) (k : KQ U G H v Q) : rMax U.K [x] H Q := by
  unfold bMaxL at e
  split at e
  · rename_i xs
    split at e
    · rename_i n ns q
      cases e
      cases intsOf_some q
      obtain ⟨a, us, rfl, ha, ra⟩ := rd_lst s h1
      rw [ra.of_ints] at ha
      refine ⟨a, n :: ns, rfl, SqL.of ha, by simp, fun m hm hle => ?_⟩
      obtain ⟨f1, f2⟩ := foldl_max ns n
      have : m = ns.foldl max n := Int.le_antisymm (f2 m hm) (hle _ f1)
      subst this
      exact k.int s
    · cases e
  · cases e
theorem b_minL {d1 : D} {v : Val} (e : bMinL d1 = some v) (s : Sub G H) (h1 : Rd1 U G H x d1) (k : KQ U G H v Q) : rMin U.K [x] H Q := by
  unfold bMinL at e
  split at e
  · rename_i xs
    split at e
    · rename_i n ns q
      cases e
      cases intsOf_some q
      obtain ⟨a, us, rfl, ha, ra⟩ := rd_lst s h1
      rw [ra.of_ints] at ha
      refine ⟨a, n :: ns, rfl, SqL.of ha, by simp, fun m hm hle => ?_⟩
      obtain ⟨f1, f2⟩ := foldl_min ns n
      have : m = ns.foldl min n := Int.le_antisymm (hle _ f1) (f2 m hm)
      subst this
      exact k.int s
    · cases e
  · cases e
theorem msort_le (ns : List Int) : (msort ns).Pairwise (· ≤ ·) := by
  have := List.pairwise_mergeSort (le := fun (a b : Int) => decide (a ≤ b)) (fun a b c h1 h2 => by simp only [decide_eq_true_eq] at *; omega) (fun a b => by simp only [Bool.or_eq_true, decide_eq_true_eq]; omega) ns
  exact this.imp fun h => by simpa using h
theorem b_sort {d1 : D} {v : Val} (e : bSort d1 = some v) (s : Sub G H) (h1 : Rd1 U G H x d1) (k : KQ U G H v Q) : rSortedI U.K [x] H Q := by
  unfold bSort at e
  split at e
  · rename_i xs
    cases q : intsOf xs with
    | none => rw [q] at e; cases e
    | some ns =>
      rw [q] at e
      cases e
      cases intsOf_some q
      obtain ⟨a, us, rfl, ha, ra⟩ := rd_lst s h1
      rw [ra.of_ints] at ha
      refine ⟨a, ns, rfl, SqL.of ha, fun ns' p perm asc np => ?_⟩
      have : ns' = msort ns := (perm.trans (List.mergeSort_perm _ _).symm).eq_of_pairwise (fun x y _ _ a b => Int.le_antisymm a b) asc (msort_le ns)
      subst this
      exact k.lst s (Reps.ints _) p np
  · cases e
end
section
variable {X : Cx} {U : Wd} {T : Tbl} {W : WX} {k : Nat} {gd : Gd} {sc : Scope}
theorem tcons_two {ta tb : TE} {r : List V → Hp → VK → Prop} {σ : L2.St} {H : Hp} {Q : VK} (h : ta σ H fun x H1 => tb σ H1 fun y H2 => r [x, y] H2 Q) : tCB r (tCons ta (tCons tb tNil)) σ H Q := h
theorem px_cmpN {n j : Nat} {ms : List ME} {e : Expr} (c : Cok X U T W k gd sc) (hO : ∀ m e, chkE gd n sc m e = true → PE X e (Rg U W (relO U) (evO (ev T n) m))) (h : chkC gd sc (chkE gd n sc) j ms e = true) : PX X e (Rg U W (relV U) (ev T (n + 1) (.bi (.cmp j) ms))) := by
  unfold chkC at h
  split at h
  · simp only [Bool.and_eq_true] at h
    obtain ⟨⟨⟨⟨hcm, h1⟩, h2⟩, h3⟩, h4⟩ := h
    obtain ⟨rfl, gl, mn, db, nn⟩ := c.bi h1
    obtain ⟨rfl, gl2, mn2, db2, nn2⟩ := c.bi h2
    have inner := fun p p2 => pe_callTy (p := p) (pos := p2) (cr_setI (c.calm hcm)) gl2 mn2 (by decide +kernel) (pa_cons (hO _ _ h4) pa_nil (star_cons X.env h3)) nn2 db2 (star_cons (es := []) X.env h3) rfl
    refine px_of (pe_imp (pe_callB (cr_sortedSet (c.calm hcm)) gl mn (by decide +kernel) (pa_cons (inner _ _) pa_nil (star_cons X.env rfl)) nn db (star_cons (es := []) X.env rfl) rfl) fun σ H Q q => ?_) fun _ => rfl
    refine tcons_one (tcons_one ((one q).mono fun x H1 ⟨G, d1, v, e, s, a1, kq⟩ => ?_))
    rw [← c.eK]
    exact b_sset e s a1 kq
  · simp only [Bool.and_eq_true] at h
    obtain ⟨⟨⟨⟨⟨hcm, h1⟩, h2⟩, h3⟩, h4⟩, h5⟩ := h
    obtain ⟨rfl, gl, mn, db, nn⟩ := c.bi h1
    refine px_of (pe_imp (pe_callB (call_max2 (c.calm hcm)) gl mn (by decide +kernel) (pa_cons (hO _ _ h4) (pa_cons (hO _ _ h5) pa_nil (star_cons X.env h3)) (star_cons X.env h2)) nn db (star_cons X.env h2) (star_any X.env _ (by simp [h2, h3]))) fun σ H Q q => ?_) fun _ => rfl
    exact tcons_two ((two q).mono fun x H1 q1 => q1.mono fun y H2 ⟨G, d1, d2, v, e, s, a1, a2, kq⟩ => b_max2 e s a1 a2 kq)
  · simp only [Bool.and_eq_true] at h
    obtain ⟨⟨⟨⟨⟨hcm, h1⟩, h2⟩, h3⟩, h4⟩, h5⟩ := h
    obtain ⟨rfl, gl, mn, db, nn⟩ := c.bi h1
    refine px_of (pe_imp (pe_callB (call_min2 (c.calm hcm)) gl mn (by decide +kernel) (pa_cons (hO _ _ h4) (pa_cons (hO _ _ h5) pa_nil (star_cons X.env h3)) (star_cons X.env h2)) nn db (star_cons X.env h2) (star_any X.env _ (by simp [h2, h3]))) fun σ H Q q => ?_) fun _ => rfl
    exact tcons_two ((two q).mono fun x H1 q1 => q1.mono fun y H2 ⟨G, d1, d2, v, e, s, a1, a2, kq⟩ => b_min2 e s a1 a2 kq)
  · simp only [Bool.and_eq_true] at h
    obtain ⟨⟨⟨hcm, h1⟩, h2⟩, h3⟩ := h
    obtain ⟨rfl, gl, mn, db, nn⟩ := c.bi h1
    refine px_of (pe_imp (pe_callB (cr_max (c.calm hcm)) gl mn (by decide +kernel) (pa_cons (hO _ _ h3) pa_nil (star_cons X.env h2)) nn db (star_cons (es := []) X.env h2) rfl) fun σ H Q q => ?_) fun _ => rfl
    refine tcons_one ((one q).mono fun x H1 ⟨G, d1, v, e, s, a1, kq⟩ => ?_)
    rw [← c.eK]
    exact b_maxL e s a1 kq
  · simp only [Bool.and_eq_true] at h
    obtain ⟨⟨⟨hcm, h1⟩, h2⟩, h3⟩ := h
    obtain ⟨rfl, gl, mn, db, nn⟩ := c.bi h1
    refine px_of (pe_imp (pe_callB (cr_min (c.calm hcm)) gl mn (by decide +kernel) (pa_cons (hO _ _ h3) pa_nil (star_cons X.env h2)) nn db (star_cons (es := []) X.env h2) rfl) fun σ H Q q => ?_) fun _ => rfl
    refine tcons_one ((one q).mono fun x H1 ⟨G, d1, v, e, s, a1, kq⟩ => ?_)
    rw [← c.eK]
    exact b_minL e s a1 kq
  · simp only [Bool.and_eq_true] at h
    obtain ⟨⟨⟨hcm, h1⟩, h2⟩, h3⟩ := h
    obtain ⟨rfl, gl, mn, db, nn⟩ := c.bi h1
    refine px_of (pe_imp (pe_callB cr_sortedI gl mn (by decide +kernel) (pa_cons (hO _ _ h3) pa_nil (star_cons X.env h2)) nn db (star_cons (es := []) X.env h2) rfl) fun σ H Q q => ?_) fun _ => rfl
    refine tcons_one ((one q).mono fun x H1 ⟨G, d1, v, e, s, a1, kq⟩ => ?_)
    rw [← c.eK]
    exact b_sort e s a1 kq
  · cases h
end
end Mp

set_option Elab.async false
set_option linter.all false
set_option maxRecDepth 100000
set_option maxHeartbeats 8000000
/-! Mp, part C2: own classes in the small language are what the text does. -/
namespace Mp
open PySem PySem.Spec PyProof.Rows L2

section
variable {U : Wd} {σ : L2.St} {H G H0 : Hp} {x : V} {r : En}
theorem rd_obj (s : Sub G H) {c : Str} {fs : List Str} {ds : List D} (h : Rd1 U G H x (.obj c fs ds)) : ∃ a C dx xs, x = .ref a ∧ H a = some (.ins C dx (fs.zip xs)) ∧ fs.length = xs.length ∧ CO U c C fs ∧ Reps U G xs ds := by
  rcases h with h | ⟨a, rfl, n⟩
  · cases h with
    | obj h1 h2 h3 h4 => exact ⟨_, _, _, _, rfl, ins_sub s h1, h2, h3, h4⟩
  · obtain ⟨C, dx, xs, h1, h2, h3, h4⟩ := n
    exact ⟨a, C, dx, xs, rfl, h1, h2, h3, h4⟩
theorem zip_none {f : Str} : ∀ {fs : List Str} {xs : List V}, f ∉ fs → (fs.zip xs).lookup f = none
  | [], _, _ => rfl
  | _ :: _, [], _ => rfl
  | g :: fs, x :: xs, h => by
    have h1 : (f == g) = false := beq_eq_false_iff_ne.mpr fun e => h (by rw [e]; exact List.mem_cons_self)
    show (((g, x) :: fs.zip xs).lookup f) = none
    rw [List.lookup_cons, h1]
    exact zip_none fun z => h (List.mem_cons_of_mem _ z)
theorem zip_fld {f : Str} : ∀ {fs : List Str} {xs : List V} {ds : List D}, Reps U G xs ds → ∀ {d : D}, fldD f fs ds = some d → f ∈ fs ∧ ∃ v, (fs.zip xs).lookup f = some v ∧ Rep U G v d
  | [], _, _, _, d, h => by cases h
  | _ :: _, _, _, .nil, d, h => by cases h
  | g :: fs, _, _, .cons (v := v) (vs := xs) (d := d0) (ds := ds) a t, d, h => by
    have h' : (if f = g then some d0 else fldD f fs ds) = some d := h
    by_cases e : f = g
    · subst e
      rw [if_pos rfl] at h'
      cases h'
      exact ⟨List.mem_cons_self, v, by show (((f, v) :: fs.zip xs).lookup f) = some v; rw [List.lookup_cons, beq_self_eq_true], a⟩
    · rw [if_neg e] at h'
      obtain ⟨m, w, e1, e2⟩ := zip_fld t h'
      refine ⟨List.mem_cons_of_mem _ m, w, ?_, e2⟩
      show (((g, v) :: fs.zip xs).lookup f) = some w
      rw [List.lookup_cons, beq_eq_false_iff_ne.mpr e]
      exact e1
theorem isObj_of {c : Str} {m : Option Str} {o : Opn} (h : isObj c m r o = true) : ∃ fs ds, rsv r o = some (.obj c fs ds) ∧ ∀ m', m = some m' → m' ∉ fs := by
  unfold isObj at h
  split at h
  · rename_i c' fs ds e
    rw [Bool.and_eq_true, decide_eq_true_eq] at h
    obtain ⟨rfl, h2⟩ := h
    refine ⟨fs, ds, e, fun m' em hm => ?_⟩
    subst em
    have h3 : (!fs.any (· == m')) = true := h2
    rw [Bool.not_eq_true', List.any_eq_false] at h3
    exact h3 m' hm (beq_self_eq_true _)
  · cases h
theorem relO_any {o : Opn} {H1 : Hp} (h : relO U o r σ H0 G H x) : relO U o r σ H1 G H x := by
  cases o <;> exact h
/-- the receiver -/
theorem recv {c : Str} {m : Option Str} {o : Opn} (rl : Rl U r σ H G) (ro : relO U o r σ H0 G H x) (h : isObj c m r o = true) : ∃ a C dx fs xs ds, x = .ref a ∧ H a = some (.ins C dx (fs.zip xs)) ∧ CO U c C fs ∧ Reps U G xs ds ∧ ∀ m', m = some m' → (fs.zip xs).lookup m' = none := by
  obtain ⟨fs, ds, e, hm⟩ := isObj_of h
  obtain ⟨a, C, dx, xs, e1, e2, e3, e4, e5⟩ := rd_obj rl.sub (rsv_rd rl ro e)
  exact ⟨a, C, dx, fs, xs, ds, e1, e2, e4, e5, fun m' em => zip_none (hm m' em)⟩
end
section
variable {X : Cx} {U : Wd} {T : Tbl} {W : WX} {k : Nat} {gd : Gd} {sc : Scope}
theorem px_fld {n : Nat} {f : Str} {ms : List ME} {e : Expr} (c : Cok X U T W k gd sc) (hO : ∀ m e, chkE gd n sc m e = true → PE X e (Rg U W (relO U) (evO (ev T n) m))) (h : chkFld (chkE gd n sc) f ms e = true) : PX X e (Rg U W (relV U) (ev T (n + 1) (.bi (.fld f) ms))) := by
  unfold chkFld at h
  split at h
  · simp only [Bool.and_eq_true, decide_eq_true_eq] at h
    obtain ⟨⟨rfl, h1⟩, h2⟩ := h
    refine px_of (pe_imp (pe_fld (hO _ _ h2) (rcv_ok h1)) fun σ H Q q => (one q).mono fun x H1 ⟨G, d1, v, e, s, a1, kq⟩ => ?_) fun _ => rfl
    have e' : bFld f d1 = some v := e
    unfold bFld at e'
    split at e'
    · rename_i c' fs ds
      cases q : fldD f fs ds with
      | none => rw [q] at e'; cases e'
      | some d =>
        rw [q] at e'
        cases e'
        obtain ⟨a, C, dx, xs, e1, e2, e3, e4, e5⟩ := rd_obj s a1
        obtain ⟨m, w, e6, e7⟩ := zip_fld e5 q
        refine ⟨a, C, dx, _, w, e1, e2, ?_, ?_, e6, kq.old s e7⟩
        · rw [← c.eK]
          exact e4.c
        · rw [← c.eK]
          exact e4.n f m
    · cases e'
  · cases h
theorem px_isc {n : Nat} {C : Str} {ms : List ME} {e : Expr} (c : Cok X U T W k gd sc) (hO : ∀ m e, chkE gd n sc m e = true → PE X e (Rg U W (relO U) (evO (ev T n) m))) (h : chkIsc gd sc (chkE gd n sc) C ms e = true) : PX X e (Rg U W (relV U) (ev T (n + 1) (.bi (.isc C) ms))) := by
  unfold chkIsc at h
  split at h
  · simp only [Bool.and_eq_true, decide_eq_true_eq] at h
    obtain ⟨⟨⟨⟨⟨rfl, h1⟩, h2⟩, h3⟩, h4⟩, h5⟩ := h
    obtain ⟨rfl, gl, mn, db, nn⟩ := c.bi h3
    obtain ⟨g1, g2, g3⟩ := c.gl_ h2
    obtain ⟨A, hA, k7, kS⟩ := (c.ow _ h1).ex
    rename_i m f p x Tn p2 pos
    have pT : PE X (.Name Tn p2) (tC (.ref A)) := pe_glob g1 hA rfl g2
    have ha := pa_cons (hO _ _ h5) (pa_cons pT pa_nil) (star_cons X.env h4)
    refine px_of (pe_imp (pe_callB call_isi gl mn (by decide +kernel) ha nn db (star_cons X.env h4) rfl) fun σ H Q q => ?_) fun _ => rfl
    exact (one q).mono fun x H1 ⟨G, d1, v, e, s, a1, kq⟩ => by
      show rIsi X.K [x, .ref A] H1 Q
      have e' : bIsc Tn d1 = some v := e
      have plain : plainD d1 = true → bIsc Tn d1 = fzb false → rIsi X.K [x, .ref A] H1 Q := fun hp hb => by
        rw [hb] at e'
        cases e'
        refine ⟨x, .ref A, .type (tyN d1), .ref A, false, rfl, .own A, by rw [← c.eK]; exact ty_of s a1 hp, k7 _ ?_, kq.bl s⟩
        cases d1 <;> simp [tyN, seven] <;> cases hp
      cases d1 with
      | dT ks ds => cases e'
      | obj c' fs ds =>
        have e2 : (if c' = Tn then fzb true else none) = some v := e'
        split at e2
        · rename_i ec
          subst ec
          cases e2
          obtain ⟨a, C', dx, xs, f1, f2, f3, f4, f5⟩ := rd_obj s a1
          subst f1
          have eC : C' = A := by
            have := f4.m
            rw [c.em, hA] at this
            cases this
            rfl
          subst eC
          have f4' := f4
          rw [show U = ⟨X.K, X.mg⟩ from by rw [← c.eK, ← c.em]] at f4'
          exact ⟨.ref a, .ref C', .ref C', .ref C', true, rfl, .own _, .base (.ins f2 f4'.c f4'.ha f4'.hn f4'.htk f4'.hm), kS, kq.bl s⟩
        · cases e2
      | _ => exact plain rfl rfl
  · cases h
end
end Mp

set_option Elab.async false
set_option linter.all false
set_option maxRecDepth 100000
set_option maxHeartbeats 8000000
/-! Mp, part C3: methods, properties, making, in, len, == of own classes. -/
namespace Mp
open PySem PySem.Spec PyProof.Rows L2

section
variable {U : Wd} {W : WX} {σ : L2.St} {H G : Hp} {r : En} {res : R Val} {Q : V → Hp → Prop}
theorem cont_noX (h : Cont U W (relV U) (noX res) r σ H G Q) : Cont U W0 (relV U) res r σ H G Q := by
  cases res with
  | bad => exact h
  | exn e r' => exact False.elim h
  | ok v r' => exact h
theorem cont_inR {neg : Bool} (h : Cont U W (relV U) (inR neg res) r σ H G Q) : Cont U W0 (relV U) res r σ H G fun v H2 => ∃ b, v = .bl b ∧ Q (.bl (if neg then !b else b)) H2 := by
  cases res with
  | bad => exact h
  | exn e r' => exact False.elim h
  | ok v r' =>
    cases v with
    | ow d => exact False.elim h
    | fz d =>
      cases d <;> first | exact False.elim h | skip
      rename_i b
      intro x H' G' rl t rx
      cases rx
      exact ⟨b, rfl, h _ H' G' rl t (.bl _)⟩
theorem cont_lenR (h : Cont U W (relV U) (lenR res) r σ H G Q) : Cont U W0 (relV U) res r σ H G fun v H2 => ∃ n, v = .int n ∧ 0 ≤ n ∧ n < 2 ^ 63 ∧ Q (.int n) H2 := by
  cases res with
  | bad => exact h
  | exn e r' => exact False.elim h
  | ok v r' =>
    cases v with
    | ow d => exact False.elim h
    | fz d =>
      cases d <;> first | exact False.elim h | skip
      rename_i n
      replace h : Cont U W (relV U) (if 0 ≤ n ∧ n < 2 ^ 63 then .ok (.fz (.int n)) r' else .bad) r σ H G Q := h
      by_cases hn : 0 ≤ n ∧ n < 2 ^ 63
      · rw [if_pos hn] at h
        intro x H' G' rl t rx
        cases rx
        exact ⟨n, rfl, hn.1, hn.2, h _ H' G' rl t (.int _)⟩
      · rw [if_neg hn] at h
        exact False.elim h
theorem cont_eqR (h : Cont U W (relV U) (eqR res) r σ H G Q) : Cont U W0 (relV U) res r σ H G fun v H2 => ∃ b, v = .bl b ∧ Q (.bl b) H2 := by
  cases res with
  | bad => exact h
  | exn e r' => exact False.elim h
  | ok v r' =>
    cases v with
    | ow d => exact False.elim h
    | fz d =>
      cases d <;> first | exact False.elim h | skip
      rename_i b
      intro x H' G' rl t rx
      cases rx
      exact ⟨b, rfl, h _ H' G' rl t (.bl _)⟩
end
section
variable {X : Cx} {U : Wd} {T : Tbl} {W : WX} {k : Nat} {gd : Gd} {sc : Scope}
theorem CO.K {c : Str} {C A : Addr} {fs : List Str} (f4 : CO U c C fs) (eK : U.K = X.K) (em : U.mg = X.mg) (hA : X.mg c = some (.ref A)) : C = A ∧ Cls X.K C := by
  have := f4.m
  rw [em, hA] at this
  cases this
  exact ⟨rfl, by rw [← eK]; exact f4.c⟩
/-- nothing is wanted of what stops -/
theorem pe_none {e : Expr} {f : En → R Val} (h : ∀ r, f r = .bad) : PE X e (Rg U W (relV U) f) := ⟨fun pins s σ H Q I q => by
  obtain ⟨r, G, rl, q⟩ := q
  rw [h] at q
  exact False.elim q⟩
theorem own_of {c : Str} (hC : ∃ C, CO U c C [] ∧ PySem.W.makesIn X.K C = true ∧ PySem.W.keepIn X.K (.ref C) = true) (eK : U.K = X.K) (em : U.mg = X.mg) {A : Addr} (hA : X.mg c = some (.ref A)) : CO U c A [] ∧ PySem.W.makesIn X.K A = true ∧ PySem.W.keepIn X.K (.ref A) = true ∧ Cls X.K A := by
  obtain ⟨C, h1, h2, h3⟩ := hC
  obtain ⟨rfl, h4⟩ := h1.K eK em hA
  exact ⟨h1, h2, h3, h4⟩
theorem snd_R1 {n : Nat} {b : Bool} (c : Cok X U T W k gd sc) (hp : ∀ m e, chkE gd n sc m e = true → PE X e (Rg U W (relV U) (ev T n m))) {m : ME} {e : Expr} (h : chkE gd n sc m e = true) : PE X e (Rg U W (relO U) (evA1 (ev T n) (b, m))) := snd_A1 c hp (b, m) e h
theorem sx_mth {n : Nat} {C m g : Str} {m0 : ME} {ms : List ME} {o : Expr} {es : List Expr} {apos pos : Pos} (c : Cok X U T W k gd sc) (hp : ∀ m e, chkE gd n sc m e = true → PE X e (Rg U W (relV U) (ev T n m))) (eg : m = g) (hcm : gd.cm = true) (hr : rcvB o = true) (hs : es.all nostar = true) (hl : es.length < 30)
    (hpos : (apos.endLine == pos.line) = true) (h0 : chkE gd n sc m0 o = true) (ha : all2 (chkE gd n sc) ms es = true) : SX X U W (ev T (n + 1)) (.mth C m (m0 :: ms)) (.Call (.Attribute o g apos) es [] pos) := by
  subst eg
  refine PX.sx (px_of ?_ fun _ => rfl)
  cases eq : T.ct.mt C m with
  | none => exact pe_none fun r => by simp only [ev, eq]
  | some q =>
    obtain ⟨A, a, fd, ps, m1, m2, m3, m4, F⟩ := (c.mt _ _ _ eq).ex
    by_cases hn : (T.md q).tail.length = ms.length
    · have e1 : ∀ r, ev T (n + 1) (.mth C m (m0 :: ms)) r = (evA1 (ev T n) ((T.md q).headD false, m0) r).bind fun o r1 => if isObj C (some m) r1 o = true then (mapR (evA1 (ev T n)) ((T.md q).tail.zip ms) r1).bind fun os r2 => runCall (T.md q) (T.sem q) (o :: os) r2 else .bad := fun r => by
        simp only [ev, eq, if_pos hn]
      have go : ∀ σ H Q, Rg U W (relV U) (ev T (n + 1) (.mth C m (m0 :: ms))) σ H Q → tMethG X A m (spT U (T.md q) (T.sem q)) (WE W) (Rg U W (relO U) (evA1 (ev T n) ((T.md q).headD false, m0))) (tMany U W (relO U) (evA1 (ev T n)) ((T.md q).tail.zip ms)) σ H Q := fun σ H Q q => by
        obtain ⟨r, G, rl, q⟩ := q
        rw [e1] at q
        refine ⟨r, G, rl, (Cont.bind (rel1 := relO U) (pst_V U) q).imp fun x H1 z => ?_⟩
        obtain ⟨o, r1, G1, rl1, t1, ro, q1⟩ := z
        by_cases ho : isObj C (some m) r1 o = true
        · rw [if_pos ho] at q1
          obtain ⟨a, C', dx, fs, xs, ds, f1, f2, f3, f4, f5⟩ := recv rl1 ro ho
          obtain ⟨eC, hc⟩ := f3.K c.eK c.em m1
          subst eC
          refine ⟨a, dx, _, f1, f2, hc, f5 m rfl, tmono (fun vs H2 z => ?_) _ (many (rel1 := relO U) (pss_O U) (pst_V U) rl1 q1)⟩
          obtain ⟨os, r2, G2, rl2, t2, ros, q2⟩ := z
          exact fin_call (H0 := H1) rl2 (.cons (relO_any ((pss_O U).go ro rl1 t2)) ros) q2
        · rw [if_neg ho] at q1
          exact False.elim q1
      have pa := snd_many (rel := relO U) (snd_A1 c hp) (all2_zip (T' := sc) hn ha) hs
      have pr := snd_R1 (b := (T.md q).headD false) c hp h0
      cases es with
      | nil =>
        cases ms with
        | cons _ _ => cases ha
        | nil =>
          have e0 : (T.md q).tail.zip ([] : List ME) = [] := by cases (T.md q).tail <;> rfl
          refine pe_imp (pe_methG0 pr m2 F c.gu (c.rm hcm) m3 (E := WE W) (fun σ => passAt c.tk σ) hr hpos) fun σ H Q q => ?_
          have := go σ H Q q
          rw [e0] at this
          exact this
      | cons e es => exact pe_imp (pe_methG pr m2 F c.gu (c.rm hcm) m3 (E := WE W) (fun σ => passAt c.tk σ) pa hr hs hl hpos) go
    · exact pe_none fun r => by
        simp only [ev, eq, if_neg hn]
theorem sx_prp {n : Nat} {C m g : Str} {m0 : ME} {o : Expr} {pos : Pos} (c : Cok X U T W k gd sc) (hp : ∀ m e, chkE gd n sc m e = true → PE X e (Rg U W (relV U) (ev T n m))) (eg : m = g) (hcm : gd.cm = true) (hr : rcvB o = true) (h0 : chkE gd n sc m0 o = true) :
    SX X U W (ev T (n + 1)) (.prp C m m0) (.Attribute o g pos) := by
  subst eg
  refine PX.sx (px_of ?_ fun _ => rfl)
  cases eq : T.ct.pr C m with
  | none => exact pe_none fun r => by simp only [ev, eq]
  | some q =>
    obtain ⟨A, p, a, fd, ps, m1, m2, m3, m4, F⟩ := (c.pr _ _ _ eq).ex
    have pr := snd_R1 (b := (T.md q).headD false) c hp h0
    refine pe_imp (pe_propG pr m2 F c.gu (c.room hcm) m3 hr) fun σ H Q q0 => ?_
    obtain ⟨r, G, rl, q1⟩ := q0
    have q2 : Cont U W (relV U) ((evA1 (ev T n) ((T.md q).headD false, m0) r).bind fun o r1 => if isObj C none r1 o = true then noX (runCall (T.md q) (T.sem q) [o] r1) else .bad) r σ H G Q := by
      have e1 : ev T (n + 1) (.prp C m m0) r = (evA1 (ev T n) ((T.md q).headD false, m0) r).bind fun o r1 => if isObj C none r1 o = true then noX (runCall (T.md q) (T.sem q) [o] r1) else .bad := by
        simp only [ev, eq]
      rw [← e1]
      exact q1
    refine ⟨r, G, rl, (Cont.bind (rel1 := relO U) (pst_V U) q2).imp fun x H1 z => ?_⟩
    obtain ⟨o, r1, G1, rl1, t1, ro, q3⟩ := z
    by_cases ho : isObj C none r1 o = true
    · rw [if_pos ho] at q3
      obtain ⟨a, C', dx, fs, xs, ds, f1, f2, f3, f4, f5⟩ := recv rl1 ro ho
      obtain ⟨eC, hc⟩ := f3.K c.eK c.em m1
      subst eC
      subst f1
      exact ⟨a, dx, _, rfl, f2, hc, fin_call (W := W0) (H0 := H1) rl1 (.cons (relO_any ro) .nil) (cont_noX q3)⟩
    · rw [if_neg ho] at q3
      exact False.elim q3
theorem sx_inn {n : Nat} {neg : Bool} {C : Str} {a b : ME} {x y : Expr} {op : CmpOp} {pos : Pos} (c : Cok X U T W k gd sc) (hp : ∀ m e, chkE gd n sc m e = true → PE X e (Rg U W (relV U) (ev T n m))) (hcm : gd.cm = true) (hb : inB neg op = true) (hy : noset y = true) (h1 : chkE gd n sc a x = true) (h2 : chkE gd n sc b y = true) :
    SX X U W (ev T (n + 1)) (.inn neg C a b) (.Compare x [op] [y] pos) := by
  refine PX.sx ?_
  have eo : op = inOp neg := by
    cases neg <;> cases op <;> first | rfl | cases hb
  subst eo
  cases eq : T.ct.mt C "__contains__" with
  | none =>
    have bad : ∀ r, ev T (n + 1) (.inn neg C a b) r = .bad := fun r => by simp only [ev, eq]
    exact ⟨pe_none bad, fun _ => ⟨fun pins s σ H Q I q => by
      obtain ⟨r, G, rl, q⟩ := q
      rw [bad] at q
      exact False.elim q⟩⟩
  | some q =>
    obtain ⟨A, ad, fd, ps, m1, m2, m3, m4, F⟩ := (c.mt _ _ _ eq).ex
    have ho := op_inG (neg := neg) m2 F c.gu (c.rm hcm) m3
    have i : ∀ σ H Q, Rg U W (relV U) (ev T (n + 1) (.inn neg C a b)) σ H Q → tOp (rInG A neg (spT U (T.md q) (T.sem q))) (Rg U W (relO U) (evA1 (ev T n) (false, a))) (Rg U W (relO U) (evA1 (ev T n) ((T.md q).headD false, b))) σ H Q := fun σ H Q q0 => by
      obtain ⟨r, G, rl, q1⟩ := q0
      have q2 : Cont U W (relV U) ((evA1 (ev T n) (false, a) r).bind fun y r1 => (evA1 (ev T n) ((T.md q).headD false, b) r1).bind fun o r2 => if isObj C none r2 o = true then inR neg (runCall (T.md q) (T.sem q) [o, y] r2) else .bad) r σ H G Q := by
        have e1 : ev T (n + 1) (.inn neg C a b) r = (evA1 (ev T n) (false, a) r).bind fun y r1 => (evA1 (ev T n) ((T.md q).headD false, b) r1).bind fun o r2 => if isObj C none r2 o = true then inR neg (runCall (T.md q) (T.sem q) [o, y] r2) else .bad := by
          simp only [ev, eq]
        rw [← e1]
        exact q1
      refine ⟨r, G, rl, (Cont.bind (rel1 := relO U) (pst_V U) q2).imp fun x H1 z => ?_⟩
      obtain ⟨ox, r1, G1, rl1, t1, rx, q3⟩ := z
      refine ⟨r1, G1, rl1, (Cont.bind (rel1 := relO U) (pst_V U) q3).imp fun y H2 z => ?_⟩
      obtain ⟨oy, r2, G2, rl2, t2, ry, q4⟩ := z
      by_cases hob : isObj C none r2 oy = true
      · rw [if_pos hob] at q4
        obtain ⟨a, C', dx, fs, xs, ds, f1, f2, f3, f4, f5⟩ := recv rl2 ry hob
        obtain ⟨eC, hc⟩ := f3.K c.eK c.em m1
        subst eC
        subst f1
        exact ⟨a, dx, _, rfl, f2, fin_call (W := W0) (H0 := H2) rl2 (.cons (relO_any ry) (.cons (relO_any ((pss_O U).go rx rl1 t2)) .nil)) (cont_inR q4)⟩
      · rw [if_neg hob] at q4
        exact False.elim q4
    have hx := snd_R1 (b := false) c hp h1
    have hyy := snd_R1 (b := (T.md q).headD false) c hp h2
    exact ⟨pe_imp (pe_cmpR ho hx hyy (noset_mark hy)) i, fun _ => tTest_mono (pt_cmpR ho hx hyy (noset_mark hy)) i⟩
theorem sx_eqo {n : Nat} {C : Str} {a b : ME} {x y : Expr} {pos : Pos} (c : Cok X U T W k gd sc) (hp : ∀ m e, chkE gd n sc m e = true → PE X e (Rg U W (relV U) (ev T n m))) (hcm : gd.cm = true) (hy : noset y = true) (h1 : chkE gd n sc a x = true) (h2 : chkE gd n sc b y = true) :
    SX X U W (ev T (n + 1)) (.eqo C a b) (.Compare x [.Eq] [y] pos) := by
  refine PX.sx ?_
  cases eq : T.ct.mt C "__eq__" with
  | none =>
    have bad : ∀ r, ev T (n + 1) (.eqo C a b) r = .bad := fun r => by simp only [ev, eq]
    exact ⟨pe_none bad, fun _ => ⟨fun pins s σ H Q I q => by
      obtain ⟨r, G, rl, q⟩ := q
      rw [bad] at q
      exact False.elim q⟩⟩
  | some q =>
    obtain ⟨A, ad, fd, ps, m1, m2, m3, m4, F⟩ := (c.mt _ _ _ eq).ex
    have ho := op_eqo m2 F c.gu (c.rm hcm) m3
    have i : ∀ σ H Q, Rg U W (relV U) (ev T (n + 1) (.eqo C a b)) σ H Q → tOp (rEqo A (spT U (T.md q) (T.sem q))) (Rg U W (relO U) (evA1 (ev T n) (false, a))) (Rg U W (relO U) (evA1 (ev T n) (false, b))) σ H Q := fun σ H Q q0 => by
      obtain ⟨r, G, rl, q1⟩ := q0
      have q2 : Cont U W (relV U) ((evA1 (ev T n) (false, a) r).bind fun x r1 => (evA1 (ev T n) (false, b) r1).bind fun y r2 => if isObj C none r2 x = true ∧ isObj C none r2 y = true then eqR (runCall (T.md q) (T.sem q) [x, y] r2) else .bad) r σ H G Q := by
        have e1 : ev T (n + 1) (.eqo C a b) r = (evA1 (ev T n) (false, a) r).bind fun x r1 => (evA1 (ev T n) (false, b) r1).bind fun y r2 => if isObj C none r2 x = true ∧ isObj C none r2 y = true then eqR (runCall (T.md q) (T.sem q) [x, y] r2) else .bad := by
          simp only [ev, eq]
        rw [← e1]
        exact q1
      refine ⟨r, G, rl, (Cont.bind (rel1 := relO U) (pst_V U) q2).imp fun x H1 z => ?_⟩
      obtain ⟨ox, r1, G1, rl1, t1, rx, q3⟩ := z
      refine ⟨r1, G1, rl1, (Cont.bind (rel1 := relO U) (pst_V U) q3).imp fun y H2 z => ?_⟩
      obtain ⟨oy, r2, G2, rl2, t2, ry, q4⟩ := z
      by_cases hob : isObj C none r2 ox = true ∧ isObj C none r2 oy = true
      · rw [if_pos hob] at q4
        have rx2 := (pss_O U).go rx rl1 t2
        obtain ⟨a, C', dx, fs, xs, ds, f1, f2, f3, f4, f5⟩ := recv rl2 rx2 hob.1
        obtain ⟨b, C2, dy, gs, ys, es, g1, g2, g3, g4, g5⟩ := recv rl2 ry hob.2
        obtain ⟨eC, hc⟩ := f3.K c.eK c.em m1
        subst eC
        obtain ⟨eC2, hc2⟩ := g3.K c.eK c.em m1
        subst eC2
        subst f1 g1
        exact ⟨a, b, dx, dy, _, _, rfl, rfl, f2, g2, fin_call (W := W0) (H0 := H2) rl2 (.cons (relO_any rx2) (.cons (relO_any ry) .nil)) (cont_eqR q4)⟩
      · rw [if_neg hob] at q4
        exact False.elim q4
    have hx := snd_R1 (b := false) c hp h1
    have hyy := snd_R1 (b := false) c hp h2
    exact ⟨pe_imp (pe_cmpR ho hx hyy (noset_mark hy)) i, fun _ => tTest_mono (pt_cmpR ho hx hyy (noset_mark hy)) i⟩
theorem sx_leno {n : Nat} {C f : Str} {m0 : ME} {x : Expr} {p pos : Pos} (c : Cok X U T W k gd sc) (hp : ∀ m e, chkE gd n sc m e = true → PE X e (Rg U W (relV U) (ev T n m))) (hcm : gd.cm = true) (hn : biN gd sc f "len" = true) (hs : nostar x = true) (h0 : chkE gd n sc m0 x = true) :
    SX X U W (ev T (n + 1)) (.leno C m0) (.Call (.Name f p) [x] [] pos) := by
  obtain ⟨rfl, gl, mn, db, nn⟩ := c.bi hn
  refine PX.sx (px_of ?_ fun _ => rfl)
  cases eq : T.ct.mt C "__len__" with
  | none => exact pe_none fun r => by simp only [ev, eq]
  | some q =>
    obtain ⟨A, ad, fd, ps, m1, m2, m3, m4, F⟩ := (c.mt _ _ _ eq).ex
    have hx := snd_R1 (b := (T.md q).headD false) c hp h0
    refine pe_imp (pe_callB (cr_leno m2 F c.gu (c.room hcm) m3) gl mn (by decide +kernel) (pa_cons hx pa_nil (star_cons X.env hs)) nn db (star_cons (es := []) X.env hs) rfl) fun σ H Q q0 => ?_
    obtain ⟨r, G, rl, q1⟩ := q0
    have q2 : Cont U W (relV U) ((evA1 (ev T n) ((T.md q).headD false, m0) r).bind fun o r1 => if isObj C none r1 o = true then lenR (runCall (T.md q) (T.sem q) [o] r1) else .bad) r σ H G Q := by
      have e1 : ev T (n + 1) (.leno C m0) r = (evA1 (ev T n) ((T.md q).headD false, m0) r).bind fun o r1 => if isObj C none r1 o = true then lenR (runCall (T.md q) (T.sem q) [o] r1) else .bad := by
        simp only [ev, eq]
      rw [← e1]
      exact q1
    refine tcons_one ⟨r, G, rl, (Cont.bind (rel1 := relO U) (pst_V U) q2).imp fun x H1 z => ?_⟩
    obtain ⟨o, r1, G1, rl1, t1, ro, q3⟩ := z
    by_cases ho : isObj C none r1 o = true
    · rw [if_pos ho] at q3
      obtain ⟨a, C', dx, fs, xs, ds, f1, f2, f3, f4, f5⟩ := recv rl1 ro ho
      obtain ⟨eC, hc⟩ := f3.K c.eK c.em m1
      subst eC
      subst f1
      exact ⟨a, dx, _, rfl, f2, fin_call (W := W0) (H0 := H1) rl1 (.cons (relO_any ro) .nil) (cont_lenR q3)⟩
    · rw [if_neg ho] at q3
      exact False.elim q3
end
end Mp

set_option Elab.async false
set_option linter.all false
set_option maxRecDepth 100000
set_option maxHeartbeats 8000000
/-! Mp, part C4: making. -/
namespace Mp
open PySem PySem.Spec PyProof.Rows L2

section
variable {U : Wd} {σ : L2.St} {H G : Hp} {r : En} {x dx C : Addr} {c : Str}
theorem snoc_get {α : Type} {xs : List α} {a s : α} {i : Nat} (h : (xs ++ [a])[i]? = some s) : (i < xs.length ∧ xs[i]? = some s) ∨ (i = xs.length ∧ s = a) := by
  by_cases l : i < xs.length
  · rw [List.getElem?_append_left l] at h
    exact .inl ⟨l, h⟩
  · rw [List.getElem?_append_right (by omega)] at h
    cases e : i - xs.length with
    | zero =>
      rw [e] at h
      simp at h
      exact .inr ⟨by omega, h.symm⟩
    | succ j =>
      rw [e] at h
      simp at h
/-- the heap with a new instance -/
def H2of (H : Hp) (C x dx : Addr) : Hp := upd (upd H dx (.own x)) x (.ins C dx [])
theorem h2_old (hx : H x = none) (hd : H dx = none) {b : Addr} {o : HO} (h : H b = some o) : H2of H C x dx b = some o := by
  unfold H2of
  rw [upd_ne (ne_of_none h hx), upd_ne (ne_of_none h hd)]
  exact h
theorem h2_none {b : Addr} (hx : H x = none) (hd : H dx = none) (h : H2of H C x dx b = none) : H b = none := by
  cases e : H b with
  | none => rfl
  | some o =>
    rw [h2_old hx hd e] at h
    cases h
theorem new_rl (rl : Rl U r σ H G) (hx : H x = none) (hd : H dx = none) (ne : dx ≠ x) (co : CO U c C []) : Rl U (r ++ [.ow (.obj c [] [])]) (σ ++ [some (.ref x)]) (H2of H C x dx) G := by
  have up : ∀ {b o}, H b = some o → H2of H C x dx b = some o := fun h => h2_old hx hd h
  refine ⟨fun a o h => ?_, by simp [rl.len], fun i s o h1 h2 => ?_, fun i j a d e nij h1 h2 h3 h4 => ?_⟩
  · rcases rl.sub a o h with z | ⟨y, ob, z⟩
    · exact .inl (up z)
    · exact .inr ⟨y, ob, up z⟩
  · rcases snoc_get h1 with ⟨l1, h1⟩ | ⟨l1, rfl⟩
    · rcases snoc_get h2 with ⟨l2, h2⟩ | ⟨l2, rfl⟩
      · have q := rl.at_ i s o h1 h2
        cases s with
        | un => trivial
        | fz d => exact q
        | ow d =>
          obtain ⟨a, e, g, n⟩ := q
          obtain ⟨u, hu⟩ := n.there
          exact ⟨a, e, g, n.mono (Same.refl _) ((up hu).trans hu.symm)⟩
      · have := rl.len
        omega
    · rcases snoc_get h2 with ⟨l2, h2⟩ | ⟨l2, rfl⟩
      · have := rl.len
        omega
      · exact ⟨x, rfl, rl.sub.none hx, C, dx, [], upd_same, rfl, co, .nil⟩
  · rcases snoc_get h1 with ⟨l1, h1⟩ | ⟨l1, e1⟩
    · rcases snoc_get h3 with ⟨l3, h3⟩ | ⟨l3, e3⟩
      · rcases snoc_get h2 with ⟨l2, h2⟩ | ⟨l2, e2⟩
        · rcases snoc_get h4 with ⟨l4, h4⟩ | ⟨l4, e4⟩
          · exact rl.ap i j a d e nij h1 h2 h3 h4
          · have := rl.len
            omega
        · rcases snoc_get h4 with ⟨l4, h4⟩ | ⟨l4, e4⟩
          · have := rl.len
            omega
          · cases e4
            obtain ⟨o, w⟩ := rl.own_some ⟨i, d, h1, h3⟩
            rw [hx] at w
            cases w
      · have := rl.len
        omega
    · rcases snoc_get h3 with ⟨l3, h3⟩ | ⟨l3, e3⟩
      · have := rl.len
        omega
      · cases e3
        rcases snoc_get h2 with ⟨l2, h2⟩ | ⟨l2, e2⟩
        · rcases snoc_get h4 with ⟨l4, h4⟩ | ⟨l4, e4⟩
          · obtain ⟨o, w⟩ := rl.own_some ⟨j, e, h2, h4⟩
            rw [hx] at w
            cases w
          · have := rl.len
            omega
        · omega
theorem take_get {α : Type} {xs : List α} {i n : Nat} {s : α} (h : (xs.take n)[i]? = some s) : i < n ∧ xs[i]? = some s := by
  rw [List.getElem?_take] at h
  split at h
  · rename_i l
    exact ⟨l, h⟩
  · cases h
/-- without the new one -/
theorem new_back {r2 : En} {H' G' : Hp} (rl : Rl U r σ H G) (hx : H x = none) (hd : H dx = none) (rl2 : Rl U r2 (σ ++ [some (.ref x)]) H' G') (t : Tr (r ++ [.ow (.obj c [] [])]) (σ ++ [some (.ref x)]) (H2of H C x dx) G r2 (σ ++ [some (.ref x)]) H' G') :
    Rl U (r2.take r.length) σ H' G' ∧ Tr r σ H G (r2.take r.length) σ H' G' := by
  have ln := rl.len
  have l2 : r2.length = r.length + 1 := by
    rw [rl2.len]
    simp [ln]
  have sg : ∀ {i : Nat} {o : Option V}, σ[i]? = some o → (σ ++ [some (V.ref x)])[i]? = some o := fun {i o} h => by
    rw [List.getElem?_append_left (List.getElem?_eq_some_iff.mp h).1]
    exact h
  have ownU : ∀ {b}, OwnAt (r2.take r.length) σ b → OwnAt r2 (σ ++ [some (.ref x)]) b := fun {b} ⟨i, d, h1, h2⟩ => ⟨i, d, (take_get h1).2, sg h2⟩
  have ownD : ∀ {b}, OwnAt (r ++ [.ow (.obj c [] [])]) (σ ++ [some (.ref x)]) b → OwnAt r σ b ∨ b = x := fun {b} ⟨i, d, h1, h2⟩ => by
    rcases snoc_get h1 with ⟨l1, h1⟩ | ⟨l1, e1⟩
    · rcases snoc_get h2 with ⟨l3, h2⟩ | ⟨l3, e2⟩
      · exact .inl ⟨i, d, h1, h2⟩
      · omega
    · rcases snoc_get h2 with ⟨l3, h2⟩ | ⟨l3, e2⟩
      · omega
      · cases e2
        exact .inr rfl
  have notx : ∀ {b o}, H b = some o → ¬ OwnAt r σ b → ¬ OwnAt (r ++ [.ow (.obj c [] [])]) (σ ++ [some (.ref x)]) b := fun {b o} h n z => by
    rcases ownD z with z | rfl
    · exact n z
    · rw [hx] at h
      cases h
  refine ⟨⟨rl2.sub, by rw [List.length_take]; omega, fun i s o h1 h2 => rl2.at_ i s o (take_get h1).2 (sg h2), fun i j a d e ne h1 h2 h3 h4 => rl2.ap i j a d e ne (take_get h1).2 (take_get h2).2 (sg h3) (sg h4)⟩,
    ⟨t.g, fun b o h n => t.h b o (h2_old hx hd h) (notx h n), fun b o h => t.t b o (h2_old hx hd h), fun b z => ?_, fun b o h => ?_⟩⟩
  · rcases t.o b (ownU z) with w | w
    · rcases ownD w with w | rfl
      · exact .inl w
      · exact .inr hx
    · exact .inr (h2_none hx hd w)
  · rcases t.f b o h with w | w | w
    · exact .inl w
    · exact .inr (.inl (h2_none hx hd w))
    · rcases ownD w with w | rfl
      · exact .inr (.inr w)
      · exact .inr (.inl hx)
theorem relO_app {o : Opn} {H0 H1 : Hp} {y : V} {s : Slot} {v : Option V} (h : relO U o r σ H0 G H y) : relO U o (r ++ [s]) (σ ++ [v]) H1 G H1 y := by
  cases o with
  | d d => exact h
  | loc i =>
    have h' : σ[i]? = some (some y) := h
    show (σ ++ [v])[i]? = some (some y)
    rw [List.getElem?_append_left (List.getElem?_eq_some_iff.mp h').1]
    exact h'
theorem fin_new {W : WX} {md : List Bool} {sem : List D → RC} {os : List Opn} {xs : List V} {Q : V → Hp → Prop} {H0 : Hp} (rl : Rl U r σ H G) (hx : H x = none) (hd : H dx = none) (ne : dx ≠ x) (co : CO U c C []) (ro : relL (relO U) os r σ H0 G H xs)
    (q : Cont U W (relV U) (newObj c md sem os r) r σ H G Q) : spT U md sem (.ref x :: xs) (upd (upd H dx (.own x)) x (.ins C dx [])) (fun v H2 => v = .non ∧ Q (.ref x) H2) (WE W σ) := by
  have rl1 := new_rl rl hx hd ne co
  have ln := rl.len
  have slot : (r ++ [Slot.ow (.obj c [] [])])[r.length]? = some (.ow (.obj c [] [])) := by simp
  have sig : (σ ++ [some (V.ref x)])[r.length]? = some (some (.ref x)) := by rw [ln]; simp
  refine fin_call (W := fun cls d _ H => W cls d σ H) (σ := σ ++ [some (.ref x)]) (H0 := H2of H C x dx) (os := .loc r.length :: os) rl1 (.cons (show relO U (.loc r.length) (r ++ [Slot.ow (.obj c [] [])]) (σ ++ [some (V.ref x)]) (H2of H C x dx) G (H2of H C x dx) (.ref x) from sig) (Paired.mapP ro fun a b z => relO_app (H1 := H2of H C x dx) z)) ?_
  unfold newObj at q
  cases e : runCall md sem (.loc r.length :: os) (r ++ [.ow (.obj c [] [])]) with
  | bad => rw [e] at q; exact q
  | exn ex r2 =>
    rw [e] at q
    intro cls d H' G' rl2 t2 er
    obtain ⟨a1, a2⟩ := new_back rl hx hd rl2 t2
    exact q cls d H' G' a1 a2 er
  | ok v r2 =>
    rw [e] at q
    cases v with
    | ow d => exact False.elim q
    | fz d =>
      cases d <;> first | exact False.elim q | skip
      intro y H' G' rl2 t2 ry
      cases ry
      refine ⟨rfl, ?_⟩
      replace q : Cont U W (relV U) (match r2[r.length]? with
        | some (.ow o) => .ok (.ow o) (r2.take r.length)
        | _ => .bad) r σ H G Q := q
      cases e2 : r2[r.length]? with
      | none => rw [e2] at q; exact False.elim q
      | some sl =>
        rw [e2] at q
        cases sl with
        | un => exact False.elim q
        | fz d => exact False.elim q
        | ow o =>
          obtain ⟨a1, a2⟩ := new_back rl hx hd rl2 t2
          obtain ⟨a, ea, g, n⟩ := rl2.at_ _ _ _ e2 sig
          cases ea
          refine q (.ref x) H' G' a1 a2 ⟨x, rfl, hx, g, n, fun ⟨i, d', h1, h2⟩ => ?_⟩
          obtain ⟨l1, h1⟩ := take_get h1
          refine rl2.ap i r.length x d' o (by omega) h1 e2 ?_ sig
          rw [List.getElem?_append_left (List.getElem?_eq_some_iff.mp h2).1]
          exact h2
end
section
variable {X : Cx} {U : Wd} {T : Tbl} {W : WX} {k : Nat} {gd : Gd} {sc : Scope}
theorem sx_new {n : Nat} {C x : Str} {ms : List ME} {es : List Expr} {p pos : Pos} (c : Cok X U T W k gd sc) (hp : ∀ m e, chkE gd n sc m e = true → PE X e (Rg U W (relV U) (ev T n m))) (ec : C = x) (hcm : gd.cm = true) (hg : glB sc x = true) (hs : es.all nostar = true) (ha : all2 (chkE gd n sc) ms es = true) :
    SX X U W (ev T (n + 1)) (.new C ms) (.Call (.Name x p) es [] pos) := by
  subst ec
  obtain ⟨gl, db, nn⟩ := c.gl_ hg
  refine PX.sx (px_of ?_ fun _ => rfl)
  cases eq : T.ct.mt C "__init__" with
  | none => exact pe_none fun r => by simp only [ev, eq]
  | some q =>
    obtain ⟨A, a, fd, ps, m1, m2, m3, m4, F⟩ := (c.mt _ _ _ eq).ex
    by_cases hn : T.ct.nw C = true ∧ (T.md q).tail.length = ms.length
    · have e1 : ∀ r, ev T (n + 1) (.new C ms) r = (mapR (evA1 (ev T n)) ((T.md q).tail.zip ms) r).bind fun os r1 => newObj C (T.md q) (T.sem q) os r1 := fun r => by
        simp only [ev, eq, if_pos hn]
      obtain ⟨co, k1, k2, hc⟩ := own_of (c.nw _ hn.1) c.eK c.em m1
      have M : Mk X.K A a := ⟨k1, m2.at_, m2.fn, k2⟩
      have go : ∀ σ H Q, Rg U W (relV U) (ev T (n + 1) (.new C ms)) σ H Q → tMakeG A (spT U (T.md q) (T.sem q)) (WE W) (tMany U W (relO U) (evA1 (ev T n)) ((T.md q).tail.zip ms)) σ H Q := fun σ H Q q => by
        obtain ⟨r, G, rl, q⟩ := q
        rw [e1] at q
        refine tmono (fun vs H2 z => ?_) _ (many (rel1 := relO U) (pss_O U) (pst_V U) rl q)
        obtain ⟨os, r2, G2, rl2, t2, ros, q2⟩ := z
        exact fun x dx hx hd ne => fin_new rl2 hx hd ne co ros q2
      have pa := snd_many (rel := relO U) (snd_A1 c hp) (all2_zip (T' := sc) hn.2 ha) hs
      cases es with
      | nil =>
        cases ms with
        | cons _ _ => cases ha
        | nil =>
          have e0 : (T.md q).tail.zip ([] : List ME) = [] := by cases (T.md q).tail <;> rfl
          refine pe_imp (pe_makeG0 M F c.gu (c.room hcm) gl m1 m3 (E := WE W) (fun σ => passAt c.tk σ) db) fun σ H Q q => ?_
          have := go σ H Q q
          rw [e0] at this
          exact this
      | cons e es => exact pe_imp (pe_makeG M F c.gu (c.room hcm) gl m1 m3 (E := WE W) (fun σ => passAt c.tk σ) pa db hs) go
    · exact pe_none fun r => by simp only [ev, eq, if_neg hn]
end
end Mp

set_option Elab.async false
set_option linter.all false
set_option maxRecDepth 100000
set_option maxHeartbeats 8000000
/-! Mp, part C5: append on a new list that no name holds. -/
namespace Mp
open PySem PySem.Spec PyProof.Rows L2
section
variable {X : Cx} {U : Wd} {T : Tbl} {W : WX} {k : Nat} {gd : Gd} {sc : Scope}
theorem Rl.free {r : En} {σ : L2.St} {H G : Hp} {a : Addr} {o : HO} (rl : Rl U r σ H G) (hg : G a = none) (no : ¬ OwnAt r σ a) : Rl U r σ (upd H a o) G := by
  refine ⟨fun b u e => ?_, rl.len, fun i s q h1 h2 => ?_, rl.ap⟩
  · have z : b ≠ a := ne_of_none e hg
    rw [upd_ne z]
    exact rl.sub b u e
  · have w := rl.at_ i s q h1 h2
    cases s with
    | un => trivial
    | fz d => exact w
    | ow d =>
      obtain ⟨b, e, hb, n⟩ := w
      subst e
      have z : b ≠ a := fun z => no ⟨i, d, h1, by rw [← z]; exact h2⟩
      exact ⟨b, rfl, hb, n.mono (Same.refl _) (upd_ne z)⟩
theorem Tr.free {r r' : En} {σ σ' : L2.St} {H G H' G' : Hp} {a : Addr} {o : HO} (t : Tr r σ H G r' σ' H' G') (hn : H a = none) : Tr r σ H G r' σ' (upd H' a o) G' := by
  refine ⟨t.g, fun b u e n => ?_, fun b u e => ?_, t.o, t.f⟩
  · rw [upd_ne (ne_of_none e hn)]
    exact t.h b u e n
  · rw [upd_ne (ne_of_none e hn)]
    exact t.t b u e
theorem sx_tapp {n : Nat} {a e : ME} {o v : Expr} {ap cp : Pos} (c : Cok X U T W k gd sc) (hr : rcvB o = true) (ns : nostar v = true) (hl : (ap.endLine == cp.line) = true) (hV : PE X o (Rg U W (relV U) (ev T n a))) (hF : PE X v (Rg U W (relF U) (evF (ev T n) e))) :
    SX X U W (ev T (n + 1)) (.tapp a e) (.Call (.Attribute o "append" ap) [v] [] cp) := by
  have hs : starEach [v] X.env = (false, eval v X.env) :: starEach [] X.env := star_cons _ ns
  refine PX.sx (px_of (pe_imp (pe_bm PySem.F.plainAttrs_list PySem.F.slot_list_append PySem.F.type_list_append mt_append hV (pa_cons hF pa_nil hs) (rcv_ok hr) (by rw [hs]; rfl) hl hs rfl) fun σ H Q q => ?_) fun _ => rfl)
  obtain ⟨r, G, rl, q⟩ := q
  have q' : Cont U W (relV U) ((ev T n a r).bind fun v r1 => (match v with
      | .ow (.lst ds) => (evF (ev T n) e r1).bind fun _ r2 => if ds.length < sizeLine then .ok (.fz .non) r2 else .bad
      | _ => .bad)) r σ H G Q := q
  refine ⟨r, G, rl, ?_⟩
  cases e1 : ev T n a r with
  | bad => rw [e1] at q'; exact q'
  | exn ex r1 => rw [e1] at q'; exact q'
  | ok v1 r1 =>
    rw [e1] at q'
    intro x H1 G1 rl1 t1 rx
    have rx0 := rx
    cases v1 with
    | fz d => exact False.elim q'
    | ow d =>
      cases d <;> first | exact False.elim q' | skip
      rename_i ds
      obtain ⟨p, rfl, p1, p2, ⟨xs, hx, rr⟩, p4⟩ := rx
      refine ⟨.inl ⟨rfl, xs, SqL.of hx⟩, r1, G1, rl1, ?_⟩
      replace q' : Cont U W (relV U) ((evF (ev T n) e r1).bind fun _ r2 => if ds.length < sizeLine then .ok (.fz .non) r2 else .bad) r σ H G Q := q'
      cases e2 : evF (ev T n) e r1 with
      | bad => rw [e2] at q'; exact q'
      | exn ex r2 =>
        rw [e2] at q'
        exact fun cls d H' G' rl' t' er => q' cls d H' G' rl' (t1.trans t') er
      | ok d r2 =>
        rw [e2] at q'
        replace q' : Cont U W (relV U) (if ds.length < sizeLine then .ok (.fz .non) r2 else .bad) r σ H G Q := q'
        intro y H2 G2 rl2 t2 ry
        by_cases hlen : ds.length < sizeLine
        · rw [if_pos hlen] at q'
          obtain ⟨p', e', p1, p2, ⟨xs2, hx2, rr2⟩, p4⟩ := (pss_V U).go rx0 rl1 t2
          cases e'
          exact ⟨p, xs2, y, rfl, rfl, hx2, by rw [rr2.length]; exact hlen, q' .non _ G2 (Rl.free rl2 p2 p4) (Tr.free (t1.trans t2) p1) .non⟩
        · rw [if_neg hlen] at q'
          exact False.elim q'
end
end Mp

set_option Elab.async false
set_option linter.all false
set_option maxRecDepth 100000
set_option maxHeartbeats 8000000
/-! Mp, part C6: several except clauses, each with or without a name (L2.ps_try_many, with names). -/
namespace Mp
open PySem PySem.Spec PyProof.Rows L2
def endsO (o : Option Nat) (D : Ends) : Ends := { nx := fun σ' H' => D.nx (match o with | some i => σ'.set i none | none => σ') H', rt := D.rt, bk := fun σ' H' => D.bk (match o with | some i => σ'.set i none | none => σ') H', ct := fun σ' H' => D.ct (match o with | some i => σ'.set i none | none => σ') H' }
def stO (o : Option Nat) (a : Addr) (σ : L2.St) : L2.St := match o with | some i => σ.set i (some (.ref a)) | none => σ
abbrev HdT := Value × Option Nat × (Addr → Value → Option Addr → TS)
def wManyA (K : PySem.W.Frag) (Wout : WX) (D : Ends) : List HdT → WX
  | [] => Wout
  | (c, o, ts) :: r => fun cls d σ H => ∃ b, PySem.W.exmOne K cls c = some b ∧ (b = true → ∀ a, H a = none → ts a cls d (endsO o D) (stO o a σ) H) ∧ (b = false → wManyA K Wout D r cls d σ H)
inductive HdsA (X : Cx) : List ExceptHandler → List HdT → Prop
  | nil : HdsA X [] []
  | cons {x : Str} {c : Value} {ts : Addr → Value → Option Addr → TS} {b₀ : Stmt} {suite : List Stmt} {np pos' : Pos} {hds : List ExceptHandler} {l : List HdT} (hc : Names X x c)
      (hsu : ∀ (a : Addr) (oe : Obj) (cls : Value) (d : Option Addr) (pn : List (Addr × Obj)), Zc cls d oe → (∃ vs, oe.data = .fields vs) → PSs (X.suite a ((a, oe) :: pn)) (b₀ :: suite) (ts a cls d)) (r : HdsA X hds l) :
      HdsA X (.ExceptHandler (some (.Name x np)) none (b₀ :: suite) pos' :: hds) ((c, none, ts) :: l)
  | consA {x n : Str} {i : Nat} {c : Value} {ts : Addr → Value → Option Addr → TS} {b₀ : Stmt} {suite : List Stmt} {np pos' : Pos} {hds : List ExceptHandler} {l : List HdT} (hi : X.N[i]? = some n) (hln : X.env.kindOf n = some .local) (hc : Names X x c)
      (hsu : ∀ (a : Addr) (oe : Obj) (cls : Value) (d : Option Addr) (pn : List (Addr × Obj)), Zc cls d oe → (∃ vs, oe.data = .fields vs) → PSs (X.suite a ((a, oe) :: pn)) (b₀ :: suite) (ts a cls d)) (r : HdsA X hds l) :
      HdsA X (.ExceptHandler (some (.Name x np)) (some n) (b₀ :: suite) pos' :: hds) ((c, some i, ts) :: l)
section
variable {X : Cx} {body : List Stmt} {h₀ : ExceptHandler} {hds : List ExceptHandler} {l : List HdT} {pos : Pos} {tb : WX → TS} {Wout : WX}
theorem ps_try_manyA (hs : X.stack = X.env :: X.outer) (hf : X.env.frame = some X.env.locals) (hN : X.N.Nodup) (tk : Takes X Wout)
    (hb : ∀ (W : WX) (pn : List (Addr × Obj)) (xe : Value → Shared → Prop), Takes (X.tr pn xe) W → PassesOwn (model X.prog X.w) X.A X.env xe → PSs (X.tr pn xe) body (tb W))
    (hh : HdsA X (h₀ :: hds) l) : PS X (.Try body (h₀ :: hds) [] [] pos) (fun D σ H => tb (wManyA X.K Wout D l) D σ H) := by
  refine ⟨fun pins s σ H D I h => ?_⟩
  have ok := I.ok
  have hfr : X.A.frames = some (X.env :: X.outer) := by rw [ok.frames, hs]
  refine wpAny_Try_except ?_
  refine wpAny_mono ((hb (wManyA X.K Wout D l) (X.pn ++ pins) (fun e s₁ => wpAny (model X.prog X.w) X.A (noteFrame e X.env) (fun _ s₂ => wpAny (model X.prog X.w) X.A (setFlight e none) (fun _ s₃ =>
    wpAny (model X.prog X.w) X.A (handleBy e X.env (h₀ :: hds)) (SP X pins D) X.xe s₃) X.xe s₂) X.xe s₁) (fun u s' xx => ?_) PassesOwn.looking).run [] s σ H D (I.toTry _) h) (fun f s1 hsp => ?_) (fun e s1 he => he)
  · obtain ⟨a, B, sI, pins', σ', H', cls, d, rfl, J', nb, up, sky, na, os, ag, w⟩ := xx
    have J : Inv X pins σ' H' sI := J'.ofTry ok
    have sky' : Sky B (X.env :: X.outer) a (Zc cls d) X.env.locals s'.heap := by rw [← hs]; exact sky
    show wpAny (model X.prog X.w) X.A (noteFrame (.ref a) X.env) _ _ _
    refine Sky.land Zc.steady hfr hf sky' fun h3 fl3 up3 => ?_
    have J3 : Inv X pins σ' H' { s' with heap := h3 } := J.landed nb fl3.1 (up.trans up3) os ag
    obtain ⟨oe3, vs3, he3, hz3, hd3⟩ := fl3.there
    have notFr : ∀ {h : Heap} {o : Obj} {vs : Array Value}, h.FunFrames B (X.env :: X.outer) → h.get? a = some o → o.data = .fields vs → a ∉ frs (X.env :: X.outer) := fun {h o vs} ff e dd hm => by
      obtain ⟨_, o', e', hnf⟩ := ff.mem hm
      rw [e] at e'; cases e'
      exact hnf _ dd
    have nfr := notFr fl3.2.2.1 he3 hd3
    have nL : a ≠ X.env.locals := fun z => nfr (List.mem_filterMap.mpr ⟨X.env, List.mem_cons_self, by rw [hf, z]⟩)
    have nF : a ∉ X.fs := fun hm => by
      obtain ⟨e, he, q⟩ := List.mem_filterMap.mp hm
      exact nfr (List.mem_filterMap.mpr ⟨e, List.mem_cons_of_mem _ he, q⟩)
    have S3 := J3.suite he3 hd3 na nL nF
    have LT : PySem.W.Looks (model X.prog X.w) h3 (typeOf (.ref a)) cls := fun A Q E s k q => wpAny_typeOf_ref (k _ _ he3) (by rw [hz3.1]; exact q)
    have test : ∀ {x : Str} {c : Value} {np : Pos} {Q : Value → Shared → Prop} {E : Value → Shared → Prop}, Names X x c → Q c { s' with heap := h3 } → wpAny (model X.prog X.w) (X.A.mark (some (.ref a))) (eval (.Name x np) X.env) Q E { s' with heap := h3 } := fun {x c np Q E} hc q => by
      obtain ⟨hg, hdbg, hm | ⟨hm, hv, hnn⟩⟩ := hc
      · exact ld_glob (X := X.suite a ((a, oe3) :: (X.pn ++ pins))) S3 hg hm q hdbg
      · exact ld_blt (X := X.suite a ((a, oe3) :: (X.pn ++ pins))) S3 hg hm hv q hnn hdbg
    have go : ∀ {hds' : List ExceptHandler} {l' : List HdT}, HdsA X hds' l' → wManyA X.K Wout D l' cls d σ' H' →
        wpAny (model X.prog X.w) X.A (handleBy (.ref a) X.env hds') (SP X pins D) X.xe { s' with heap := h3 } := by
      intro hds' l' hk
      induction hk with
      | nil =>
        intro w
        refine wpAny_handleBy_nil ?_
        obtain ⟨k1, k2, k3, oe, vs, T, oT, ts', he, hz, hd, h1, hr⟩ := id fl3
        unfold PySem.passOn
        refine wpAny_bind (wpAny_field he hd h1 ?_)
        rw [if_neg (show ¬ ((Value.ref T == Value.none) = true) from by simp)]
        have fin : wpAny (model X.prog X.w) X.A (setFlight (.ref a) X.env.frame) (fun _ s4 => wpAny (model X.prog X.w) X.A (throw (.ref a) : Sem Flow) (SP X pins D) X.xe s4) X.xe { s' with heap := h3 } := by
          rw [hf]
          refine HandSPX.setFlight_upZ fl3 fun h4 hh4 up4 => wpAny_throw (tk _ _ ?_)
          exact ⟨a, B, sI, pins, σ', H', cls, d, rfl, J, nb, (up.trans up3).trans up4, .inr (.inr (by rw [hs]; exact hh4)), na, os, ag, w⟩
        first
          | exact wpAny_bind (wpAny_pure (wpAny_bind fin))
          | exact wpAny_bind fin
      | @cons x c ts b₀ suite np pos' hds2 l2 hc hsu r ih =>
        intro w
        obtain ⟨b, hb1, hyes, hno⟩ := w
        refine wpAny_handleBy_cons (codeAny_handlers_test ?_) (by intro q; cases q)
        have LM := PySem.W.exm_one (M := model X.prog X.w) (J3.kIn) LT hb1
        refine test hc (LM.here ?_)
        cases b with
        | true =>
          refine codeAny_handlers_suite ?_
          refine HandSPX.lands_againZ fl3 fun h4 fl4 up4 => ?_
          have J4 : Inv X pins σ' H' { s' with heap := h4 } := J.landed nb fl4.1 ((up.trans up3).trans up4) os ag
          obtain ⟨oe4, vs4, he4, hz4, hd4⟩ := fl4.there
          have S4 := J4.suite he4 hd4 na nL nF
          refine wpAny_mono ((hsu a oe4 cls d (X.pn ++ pins) hz4 ⟨_, hd4⟩).run [] _ _ H' _ S4 (hyes rfl a na)) (fun f s6 hsp => ?_) (fun _ _ z => False.elim z)
          cases f with
          | next =>
            obtain ⟨σ6, H6, S6, q6⟩ := hsp
            exact ⟨_, _, S6.unsuite ok, q6⟩
          | brk =>
            obtain ⟨σ6, H6, S6, q6⟩ := hsp
            exact ⟨_, _, S6.unsuite ok, q6⟩
          | cont =>
            obtain ⟨σ6, H6, S6, q6⟩ := hsp
            exact ⟨_, _, S6.unsuite ok, q6⟩
          | ret u =>
            obtain ⟨v6, σ6, H6, S6, r6, q6⟩ := hsp
            exact ⟨_, _, _, S6.unsuite ok, r6, q6⟩
        | false =>
          show wpAny _ X.A (handleBy (.ref a) X.env hds2) _ _ _
          exact ih (hno rfl)
      | @consA x n i c ts b₀ suite np pos' hds2 l2 hi hln hc hsu r ih =>
        intro w
        obtain ⟨b, hb1, hyes, hno⟩ := w
        have hloc : Loc X.env.scope n := .inl hln
        refine wpAny_handleBy_cons (codeAny_handlers_test ?_) (by intro q; cases q)
        have LM := PySem.W.exm_one (M := model X.prog X.w) (J3.kIn) LT hb1
        refine test hc (LM.here ?_)
        cases b with
        | true =>
          refine codeAny_handlers_suite_as ?_
          refine HandSPX.lands_againZ fl3 fun h4 fl4 up4 => ?_
          have J4 : Inv X pins σ' H' { s' with heap := h4 } := J.landed nb fl4.1 ((up.trans up3).trans up4) os ag
          obtain ⟨oe4, vs4, he4, hz4, hd4⟩ := fl4.there
          have S4 := J4.suite he4 hd4 na nL nF
          refine store_ok (X := X.suite a ((a, oe4) :: (X.pn ++ pins))) (v := .ref a) S4 hN hi hloc rfl (fun s5 S5 => ?_) (.inr hln)
          refine wpAny_mono ((hsu a oe4 cls d (X.pn ++ pins) hz4 ⟨_, hd4⟩).run [] s5 _ H' _ S5 (hyes rfl a na)) (fun f s6 hsp => ?_) (fun _ _ z => False.elim z)
          have end_ : ∀ {σ6 : L2.St} {H6 : Hp} {Q : Shared → Prop}, Inv (X.suite a ((a, oe4) :: (X.pn ++ pins))) [] σ6 H6 s6 → (∀ s7, Inv X pins (σ6.set i none) H6 s7 → Q s7) →
              wpAny (model X.prog X.w) X.A (do bindName X.env n .none; unbindBehindTheSuite X.env n pos') (fun _ s7 => Q s7) X.xe s6 := fun {σ6 H6 Q} S6 hq => gone_ok (S6.unsuite ok) hN hi hln hq
          cases f with
          | next =>
            obtain ⟨σ6, H6, S6, q6⟩ := hsp
            exact end_ S6 fun s7 J7 => ⟨_, _, J7, q6⟩
          | brk =>
            obtain ⟨σ6, H6, S6, q6⟩ := hsp
            exact end_ S6 fun s7 J7 => ⟨_, _, J7, q6⟩
          | cont =>
            obtain ⟨σ6, H6, S6, q6⟩ := hsp
            exact end_ S6 fun s7 J7 => ⟨_, _, J7, q6⟩
          | ret u =>
            obtain ⟨v6, σ6, H6, S6, r6, q6⟩ := hsp
            exact end_ S6 fun s7 J7 => ⟨_, _, _, J7, r6, q6⟩
        | false =>
          show wpAny _ X.A (handleBy (.ref a) X.env hds2) _ _ _
          exact ih (hno rfl)
    exact go hh w
  · cases f with
    | next =>
      obtain ⟨σ', H', J', q⟩ := hsp
      exact wpAny_execs_nil ⟨σ', H', J'.ofTry ok, q⟩
    | brk =>
      obtain ⟨σ', H', J', q⟩ := hsp
      exact ⟨σ', H', J'.ofTry ok, q⟩
    | cont =>
      obtain ⟨σ', H', J', q⟩ := hsp
      exact ⟨σ', H', J'.ofTry ok, q⟩
    | ret u =>
      obtain ⟨v, σ', H', J', r, q⟩ := hsp
      exact ⟨v, σ', H', J'.ofTry ok, r, q⟩
end
end Mp

set_option Elab.async false
set_option linter.all false
set_option maxRecDepth 100000
set_option maxHeartbeats 8000000
/-! Mp, part 18: every expression. -/
namespace Mp
open PySem PySem.Spec PyProof.Rows L2

section
variable {X : Cx} {U : Wd} {T : Tbl} {W : WX} {k : Nat} {gd : Gd} {sc : Scope}
/-- what a def's expressions are proved of, wherever they stand -/
def AllE (U : Wd) (T : Tbl) (k : Nat) (gd : Gd) (n : Nat) : Prop := ∀ (X : Cx) (W : WX) (sc : Scope), Cok X U T W k gd sc → ∀ m e, chkE gd n sc m e = true → SX X U W (ev T n) m e
theorem sx_cst {n : Nat} {d : D} {e : Expr} {v : V} (h : PX X e (tC v)) (r : ∀ G, Rep U G v d) : SX X U W (ev T (n + 1)) (.cst d) e := by
  refine PX.sx (px_imp h fun σ H Q q => ?_)
  obtain ⟨rr, G, rl, q⟩ := q
  exact q v H G rl .refl (r G)
theorem sx_dct {n : Nat} {t : Bool} {pos : Pos} : SX X U W (ev T (n + 1)) (.dct0 t) (.Dict [] [] pos) := by
  cases t with
  | false =>
    refine PX.sx (px_of (pe_imp pe_dnewK fun σ H Q q => ?_) fun _ => rfl)
    obtain ⟨r, G, rl, q⟩ := q
    exact fun p hp => Cont.adv rl q (.ref p) _ G (.own rl.sub hp) ⟨p, rfl, hp, rl.sub.none hp, ⟨[], upd_same, rfl, .nil⟩⟩
  | true =>
    refine PX.sx (px_of (pe_imp pe_dnewT fun σ H Q q => ?_) fun _ => rfl)
    obtain ⟨r, G, rl, q⟩ := q
    exact fun p hp => Cont.adv rl q (.ref p) _ G (.own rl.sub hp) ⟨p, rfl, hp, rl.sub.none hp, ⟨[], upd_same, rfl, .nil⟩⟩
theorem sx_glo {n : Nat} {x : Str} {pos : Pos} (c : Cok X U T W k gd sc) (h : glB sc x = true) : SX X U W (ev T (n + 1)) (.glo x) (.Name x pos) := by
  obtain ⟨gl, db, nn⟩ := c.gl_ h
  cases e : T.gl x with
  | none =>
    refine PX.sx (px_of ⟨fun pins s σ H Q I q => ?_⟩ fun _ => rfl)
    obtain ⟨r, G, rl, q⟩ := q
    have q' : Cont U W (relV U) (ofOpt ((T.gl x).map .fz) r) r σ H G Q := q
    rw [e] at q'
    exact False.elim q'
  | some d =>
    obtain ⟨u, v, hm, rv, rp⟩ := c.gl x d e
    refine PX.sx (px_of (pe_imp (pe_glob gl hm rv db) fun σ H Q q => ?_) fun _ => rfl)
    obtain ⟨r, G, rl, q⟩ := q
    have q' : Cont U W (relV U) (ofOpt ((T.gl x).map .fz) r) r σ H G Q := q
    rw [e] at q'
    exact q' v H G rl .refl (rp G)
theorem snd_bi0 {n : Nat} {b : BI} {ms : List ME} {e : Expr} (c : Cok X U T W k gd sc) (hS : ∀ m e, chkE gd n sc m e = true → SX X U W (ev T n) m e) (h : chkBI0 gd sc (chkE gd n sc) b ms e = true) : SX X U W (ev T (n + 1)) (.bi b ms) e := by
  have hO : ∀ m e, chkE gd n sc m e = true → PE X e (Rg U W (relO U) (evO (ev T n) m)) := fun m e q => snd_O c (hS m e q).v q
  unfold chkBI0 at h
  split at h
  · simp only [Bool.and_eq_true] at h
    exact (px_bin c h.1.1 (hO _ _ h.1.2) (hO _ _ h.2)).sx
  · simp only [Bool.and_eq_true, decide_eq_true_eq] at h
    obtain ⟨rfl, h⟩ := h
    exact (px_neg (hO _ _ h)).sx
  · simp only [Bool.and_eq_true] at h
    exact (px_cmp c h.1.1.1 h.1.1.2 (hO _ _ h.1.2) (hO _ _ h.2)).sx
  · simp only [Bool.and_eq_true] at h
    exact (px_is h.1 (hO _ _ h.2)).sx
  · simp only [Bool.and_eq_true, decide_eq_true_eq] at h
    obtain ⟨⟨rfl, rfl⟩, h⟩ := h
    exact (px_rev c (hO _ _ h)).sx
  · simp only [Bool.and_eq_true, decide_eq_true_eq] at h
    obtain ⟨⟨⟨rfl, h1⟩, h2⟩, h3⟩ := h
    exact (px_item c h1 (hO _ _ h2) (hO _ _ h3)).sx
  · simp only [Bool.and_eq_true] at h
    obtain ⟨⟨⟨h1, hcm⟩, h2⟩, h3⟩ := h
    split at h3
    · rename_i g ty e1
      exact (px_fn1 c hcm e1 h3 h1 (hO _ _ h2)).sx
    · cases h3
  · simp only [Bool.and_eq_true] at h
    obtain ⟨⟨⟨⟨⟨h1, h2⟩, h3⟩, h4⟩, h5⟩, h6⟩ := h
    split at h6
    · simp only [Bool.and_eq_true, decide_eq_true_eq, List.any_eq_true, beq_iff_eq] at h6
      obtain ⟨e1, z, hz, rfl⟩ := h6
      exact (px_isi c h3 h1 h4 h5 e1 hz (hO _ _ h2)).sx
    · cases h6
  · cases h
theorem snd_bi {n : Nat} {b : BI} {ms : List ME} {e : Expr} (c : Cok X U T W k gd sc) (hS : ∀ m e, chkE gd n sc m e = true → SX X U W (ev T n) m e) (h : chkBI gd sc (chkE gd n sc) b ms e = true) : SX X U W (ev T (n + 1)) (.bi b ms) e := by
  cases b <;> first | exact snd_bi0 c hS h | exact (px_cmpN c (fun m e q => snd_O c (hS m e q).v q) h).sx | exact (px_fld c (fun m e q => snd_O c (hS m e q).v q) h).sx | exact (px_isc c (fun m e q => snd_O c (hS m e q).v q) h).sx
/-- a comprehension's parts -/
theorem comp_parts {n : Nat} {tg : Tg} {elt : ME} {ik : Nat} {its cs : List ME} {x t it : Expr} {ifs : List Expr} {scope : Scope} (c : Cok X U T W k gd sc) (hcm : gd.cm = true) (hS : AllE U T k gd n)
    (h1 : chkTg false gd (relS scope sc) tg t = true) (h2 : chkIt gd sc (chkE gd n sc) ik its t it = true) (h3 : blkC gd.N sc scope (ownN gd.N tg.slots) = true) (h5 : chkCs (chkE gd n (relS scope sc)) cs ifs = true) (h6 : chkE gd n (relS scope sc) elt x = true) :
    PI X t it (Rg U W (relI U) (evI (ev T n) ik its)) ∧ BlkOk X.N X.env.scope scope (ownN gd.N tg.slots) ∧
    (∀ (s : Shared) (H : Hp) (C : Addr) (cl : List (Str × Addr)) (fp : List Addr), PG (X.blk s H scope (compEnvC scope cl C X.env) fp) t (tgG X.K tg)) ∧
    (∀ (s : Shared) (H : Hp) (C : Addr) (cl : List (Str × Addr)) (fp : List Addr), PTs (X.blk s H scope (compEnvC scope cl C X.env) fp) ifs (tCs U (ev T n) cs)) ∧
    (∀ (s : Shared) (H : Hp) (C : Addr) (cl : List (Str × Addr)) (fp : List Addr), PE (X.blk s H scope (compEnvC scope cl C X.env) fp) x (Rg U W0 (relF U) (evF (ev T n) elt))) ∧ (∀ z, foldedSetIterable it X.env z = pure z) := by
  refine ⟨snd_it c (fun m e q => (hS _ _ _ c m e q).v) h2, by rw [c.eN, c.sc]; exact blkOk_by h3, fun s H C cl fp => ?_, fun s H C cl fp => ?_, fun s H C cl fp => snd_F (hS _ _ _ (c.blk s H scope C cl fp) _ _ h6).v, fun z => ?_⟩
  · have cb := c.blk s H scope C cl fp
    exact snd_tg cb.nd cb.eN cb.sc (cb.calm hcm) h1
  · have cb := c.blk s H scope C cl fp
    unfold chkCs at h5
    split at h5
    · exact pts_nil
    · rename_i m y
      rw [Bool.and_eq_true] at h5
      exact pts_one ((hS _ _ _ cb _ _ h5.2).b h5.1)
    · cases h5
  · unfold chkIt at h2
    split at h2
    · rw [Bool.and_eq_true] at h2
      have h := h2.2
      cases it <;> first | rfl | cases h
    all_goals first | rfl | cases h2
theorem chkIt_fs {n : Nat} {sc : Scope} {ik : Nat} {its : List ME} {t it : Expr} (h2 : chkIt gd sc (chkE gd n sc) ik its t it = true) (env : Env) (z : Value) : foldedSetIterable it env z = pure z := by
  unfold chkIt at h2
  split at h2
  · rw [Bool.and_eq_true] at h2
    have h := h2.2
    cases it <;> first | rfl | cases h
  all_goals first | rfl | cases h2
theorem snd_cs {Y : Cx} {W' : WX} {sc' : Scope} {n : Nat} (cb : Cok Y U T W' k gd sc') (hw : W' = W0) (hS : AllE U T k gd n) {cs : List ME} {ifs : List Expr} (h5 : chkCs (chkE gd n sc') cs ifs = true) : PTs Y ifs (tCs U (ev T n) cs) := by
  subst hw
  unfold chkCs at h5
  split at h5
  · exact pts_nil
  · rename_i m y
    rw [Bool.and_eq_true] at h5
    exact pts_one ((hS _ _ _ cb _ _ h5.2).b h5.1)
  · cases h5
theorem cls_ok {Y : Cx} {sc' : Scope} {n : Nat} (cb : Cok Y U T W0 k gd sc') (hcm : gd.cm = true) (hS : AllE U T k gd n) : ∀ {rest : List MCl} {gs : List Comprehension}, all2 (clB gd sc' (chkE gd n sc')) rest gs = true → Paired (ClOk Y) (rdCls U (ev T n) Y.K rest) gs
  | [], [], _ => .nil
  | (tg, ik, its, cs) :: rest, g :: gs, h => by
    have h : (clB gd sc' (chkE gd n sc') (tg, ik, its, cs) g && all2 (clB gd sc' (chkE gd n sc')) rest gs) = true := h
    rw [Bool.and_eq_true] at h
    obtain ⟨h1, h2⟩ := h
    unfold clB at h1
    simp only [Bool.and_eq_true, decide_eq_true_eq] at h1
    obtain ⟨⟨⟨a0, a1⟩, a2⟩, a3⟩ := h1
    exact .cons ⟨a0, snd_it cb (fun m e q => (hS _ _ _ cb m e q).v) a2, snd_tg cb.nd cb.eN cb.sc (cb.calm hcm) a1, snd_cs cb rfl hS a3, fun x => chkIt_fs a2 _ x⟩ (cls_ok cb hcm hS h2)
  | [], _ :: _, h => by cases h
  | _ :: _, [], h => by cases h
theorem down_rd {f : ME → En → R Val} {K : Fg} : ∀ (rest : List MCl) (vs : List Nat), (∀ i ∈ slotsN rest, i ∈ vs) → Down vs (rdCls U f K rest)
  | [], _, _ => trivial
  | (tg, ik, its, cs) :: rest, vs, h => ⟨h, down_rd rest _ slots_tail⟩
/-- the parts of a comprehension of many clauses -/
theorem compn_parts {n : Nat} {tg : Tg} {elt : ME} {ik : Nat} {its cs : List ME} {rest : List MCl} {x t it : Expr} {ifs : List Expr} {gs : List Comprehension} {scope : Scope} {pos : Pos} (c : Cok X U T W k gd sc) (hS : AllE U T k gd n)
    (h : chkN gd sc (chkE gd n) ((tg, ik, its, cs) :: rest) elt (.ListComp x (⟨t, it, ifs, 0⟩ :: gs) scope pos) = true) :
    gd.cm = true ∧ PI X t it (Rg U W (relI U) (evI (ev T n) ik its)) ∧ BlkOk X.N X.env.scope scope (ownN gd.N (slotsN ((tg, ik, its, cs) :: rest))) ∧ slotsN ((tg, ik, its, cs) :: rest) = (ownN gd.N (slotsN ((tg, ik, its, cs) :: rest))).map (·.2) ∧ Down (slotsN ((tg, ik, its, cs) :: rest)) (rdCls U (ev T n) X.K rest) ∧
    (∀ (s : Shared) (H : Hp) (C : Addr) (cl : List (Str × Addr)) (fp : List Addr), PG (X.blk s H scope (compEnvC scope cl C X.env) fp) t (tgG X.K tg) ∧ PTs (X.blk s H scope (compEnvC scope cl C X.env) fp) ifs (tCs U (ev T n) cs) ∧
      PE (X.blk s H scope (compEnvC scope cl C X.env) fp) x (Rg U W0 (relF U) (evF (ev T n) elt)) ∧ Paired (ClOk (X.blk s H scope (compEnvC scope cl C X.env) fp)) (rdCls U (ev T n) X.K rest) gs) ∧ (∀ z, foldedSetIterable it X.env z = pure z) := by
  unfold chkN at h
  simp only [Bool.and_eq_true, decide_eq_true_eq] at h
  obtain ⟨⟨⟨⟨⟨⟨⟨hcm, h1⟩, h2⟩, h3⟩, h4⟩, h5⟩, h6⟩, h7⟩ := h
  refine ⟨hcm, snd_it c (fun m e q => (hS _ _ _ c m e q).v) h2, by rw [c.eN, c.sc]; exact blkOk_by h3, h4.symm, down_rd _ _ slots_tail, fun s H C cl fp => ?_, chkIt_fs h2 _⟩
  have cb := c.blk s H scope C cl fp
  exact ⟨snd_tg cb.nd cb.eN cb.sc (cb.calm hcm) h1, snd_cs cb rfl hS h5, snd_F (hS _ _ _ cb _ _ h7).v, cls_ok cb hcm hS h6⟩
theorem compn_case {gd : Gd} {sc : Scope} {c : Scope → ME → Expr → Bool} {cl : List MCl} {elt : ME} {e : Expr} (h : chkN gd sc c cl elt e = true) : ∃ tg ik its cs rest x t it ifs gs scope pos, cl = (tg, ik, its, cs) :: rest ∧ e = .ListComp x (⟨t, it, ifs, 0⟩ :: gs) scope pos := by
  unfold chkN at h
  split at h
  · exact ⟨_, _, _, _, _, _, _, _, _, _, _, _, rfl, rfl⟩
  · cases h
theorem snd_all : ∀ n : Nat, AllE U T k gd n
  | 0 => fun X W sc c m e h => by cases h
  | n + 1 => fun X W sc c m e h => by
    have ih : AllE U T k gd n := snd_all n
    have hS := fun m e q => ih _ _ _ c m e q
    have hV : ∀ m e, chkE gd n sc m e = true → PE X e (Rg U W (relV U) (ev T n m)) := fun m e q => (hS m e q).v
    have hO : ∀ m e, chkE gd n sc m e = true → PE X e (Rg U W (relO U) (evO (ev T n) m)) := fun m e q => snd_O c (hV m e q) q
    have hF : ∀ m e, chkE gd n sc m e = true → PE X e (Rg U W (relF U) (evF (ev T n) m)) := fun m e q => snd_F (hV m e q)
    unfold chkE at h
    split at h
    · exact (px_of (snd_var n c h) fun _ => rfl).sx
    · split at h
      · cases of_decide_eq_true h
        exact sx_cst (px_of pe_int fun _ => rfl) fun G => .int _
      · cases of_decide_eq_true h
        exact sx_cst (px_of pe_str fun _ => rfl) fun G => .str _
      · rw [beq_iff_eq] at h
        subst h
        exact sx_cst (px_of pe_bl fun _ => rfl) fun G => .bl _
      · exact sx_cst (px_of pe_non fun _ => rfl) fun G => .non
      · cases h
    · simp only [Bool.and_eq_true, decide_eq_true_eq] at h
      obtain ⟨rfl, h⟩ := h
      exact sx_glo c h
    · exact snd_bi c hS h
    · simp only [Bool.and_eq_true] at h
      obtain ⟨⟨⟨⟨⟨⟨h1, h2⟩, h3⟩, h4⟩, h5⟩, h6⟩, h7⟩ := h
      exact sx_chain c h1 h2 h3 h4 (hO _ _ h5) (hO _ _ h6) (hO _ _ h7)
    · simp only [Bool.and_eq_true] at h
      exact (px_slc c (hO _ _ h.1.1) hV h.1.2 h.2).sx
    · simp only [Bool.and_eq_true] at h
      obtain ⟨⟨h1, h2⟩, h3⟩ := h
      split at h3
      · rw [Bool.and_eq_true] at h3
        exact sx_and (hS _ _ h2) h1 (sx_one (hS _ _ h3.2) h3.1)
      · exact sx_and (hS _ _ h2) h1 (hS _ _ h3)
    · simp only [Bool.and_eq_true] at h
      obtain ⟨⟨h1, h2⟩, h3⟩ := h
      split at h3
      · rw [Bool.and_eq_true] at h3
        exact sx_or (hS _ _ h2) h1 (sx_one (hS _ _ h3.2) h3.1)
      · exact sx_or (hS _ _ h2) h1 (hS _ _ h3)
    · simp only [Bool.and_eq_true] at h
      exact sx_not (hS _ _ h.2) h.1
    · simp only [Bool.and_eq_true] at h
      exact sx_ife (hS _ _ h.1.1.2) h.1.1.1 (hS _ _ h.1.2) (hS _ _ h.2)
    · simp only [Bool.and_eq_true, decide_eq_true_eq] at h
      obtain ⟨⟨⟨⟨⟨h1, hcm⟩, h2⟩, h3⟩, h4⟩, h5⟩ := h
      exact sx_call c hV h1 hcm h2 h3 h4 h5
    · simp only [Bool.and_eq_true, decide_eq_true_eq] at h
      obtain ⟨⟨⟨⟨h1, hcm⟩, h2⟩, h3⟩, h4⟩ := h
      exact sx_callK c hF h1 hcm h2 h3 h4
    · rw [Bool.and_eq_true] at h
      exact sx_tup (snd_many hF h.2 h.1)
    · rw [Bool.and_eq_true] at h
      exact sx_lst (snd_many hF h.2 h.1)
    · exact sx_dct
    · simp only [Bool.and_eq_true, decide_eq_true_eq] at h
      obtain ⟨⟨⟨⟨⟨⟨⟨hcm, h1⟩, h2⟩, h3⟩, h4⟩, h5⟩, h6⟩, h7⟩ := h
      obtain ⟨p1, p2, p3, p4, p5, p6⟩ := comp_parts c hcm ih h1 h2 h3 h6 h7
      refine (px_of (pe_imp (pe_lc (c.calm hcm) c.nd p1 p2 p3 p4 p5 p6) fun σ H Q q => ?_) fun _ => rfl).sx
      rw [h4]
      exact comp_rd c.eK q
    · obtain ⟨tg, ik, its, cs, rest, x, t, it, ifs, gs, scope, pos, rfl, rfl⟩ := compn_case h
      obtain ⟨hcm, p1, p2, p3, p4, p5, p6⟩ := compn_parts c ih h
      refine (px_of (pe_imp (pe_lcN (c := ⟨Rg U W (relI U) (evI (ev T n) ik its), tgG X.K tg, tCs U (ev T n) cs, slotsN ((tg, ik, its, cs) :: rest)⟩) (cs := rdCls U (ev T n) X.K rest) (te := Rg U W0 (relF U) (evF (ev T n) _)) (c.calm hcm) c.nd p1 p2 p3 p4 p5 p6) fun σ H Q q => ?_) fun _ => rfl).sx
      exact compn_rd c.eK q
    · simp only [Bool.and_eq_true, decide_eq_true_eq] at h
      obtain ⟨⟨⟨⟨⟨⟨⟨h1, h2⟩, h3⟩, h4⟩, h5⟩, h6⟩, h7⟩, h8⟩ := h
      exact sx_mth c hV h1 h2 h3 h4 h5 h6 h7 h8
    · simp only [Bool.and_eq_true, decide_eq_true_eq] at h
      obtain ⟨⟨⟨⟨⟨rfl, h2⟩, h3⟩, h4⟩, h5⟩, h6⟩ := h
      exact sx_tapp c h2 h3 h4 (hV _ _ h5) (hF _ _ h6)
    · simp only [Bool.and_eq_true, decide_eq_true_eq] at h
      obtain ⟨⟨⟨h1, h2⟩, h3⟩, h4⟩ := h
      exact sx_prp c hV h1 h2 h3 h4
    · simp only [Bool.and_eq_true, decide_eq_true_eq] at h
      obtain ⟨⟨⟨⟨h1, h2⟩, h3⟩, h4⟩, h5⟩ := h
      exact sx_new c hV h1 h2 h3 h4 h5
    · simp only [Bool.and_eq_true] at h
      obtain ⟨⟨⟨⟨h1, h2⟩, h3⟩, h4⟩, h5⟩ := h
      exact sx_inn c hV h1 h2 h3 h4 h5
    · simp only [Bool.and_eq_true] at h
      obtain ⟨⟨⟨h1, h2⟩, h3⟩, h4⟩ := h
      exact sx_leno c hV h1 h2 h3 h4
    · simp only [Bool.and_eq_true] at h
      obtain ⟨⟨⟨h1, h2⟩, h3⟩, h4⟩ := h
      exact sx_eqo c hV h1 h2 h3 h4
    · cases h
end
end Mp

set_option Elab.async false
set_option linter.all false
set_option maxRecDepth 100000
set_option maxHeartbeats 8000000
/-! Mp, part 19: statements. -/
namespace Mp
open PySem PySem.Spec PyProof.Rows L2

/-! ### the checker -/
def noseq : Expr → Bool
  | .Tuple .. => false
  | .List .. => false
  | _ => true
/-- a tuple that is not stored the other way round -/
def ssNames (sc : Scope) (line : Nat) (ts : List Expr) : List Str := ts.filterMap fun
  | .Name id pos => if (sc.names.lookup id == some .local) && pos.line == line then some id else none
  | _ => none
def ssB (sc : Scope) : Expr → Expr → Bool
  | .Tuple ts _ _, .Tuple vs _ _ => !(ts.length == 2 || ts.length == 3) || (ssNames sc ((ts.head?.map (·.pos.line)).getD 0) ts).length != ts.length
  | _, _ => false
def endsOn (a : Pos) (c : Pos) : Bool := a.endLine == c.line
/-- a comprehension on the name's own line goes to the name another way -/
def swapB (sc : Scope) (x : Str) (py : Pos) : Expr → Bool
  | .ListComp _ _ s p => decide (sc.names.lookup x = some .local) && py.line == p.line && !(s.names.any fun (n, k) => n == x && (k == .local || k == .cell))
  | _ => false
def lcB : Expr → Bool
  | .ListComp .. => true
  | _ => false
/-- an except clause -/
def hdB (gd : Gd) (sc : Scope) (c : Str) (i : Option Nat) : ExceptHandler → Bool
  | .ExceptHandler (some (.Name x _)) none (_ :: _) _ => decide (i = none) && decide (c = x) && glB sc x && gd.exs x
  | .ExceptHandler (some (.Name x _)) (some z) (_ :: _) _ => decide (c = x) && glB sc x && gd.exs x && (match i with
    | some i => decide (gd.N[i]? = some z) && decide (sc.names.lookup z = some .local)
    | none => false)
  | _ => false
def hdSuite : ExceptHandler → List Stmt
  | .ExceptHandler _ _ s _ => s
mutual
def chkSs (gd : Gd) (sc : Scope) : Nat → List MS → List Stmt → Bool
  | 0, _, _ => false
  | n + 1, ss, sts => match ss, sts with
    | [], [] => true
    | s :: ss, st :: sts => chkS gd sc n s st && chkSs gd sc n ss sts
    | _, _ => false
def chkS (gd : Gd) (sc : Scope) : Nat → MS → Stmt → Bool
  | 0, _, _ => false
  | n + 1, s, st => match s, st with
    | .set i e, .Assign [.Name x py] v _ => nmB true gd sc i (.Name x py) && (nocomp v || lcB v) && chkE gd n sc e v
    | .sett is e, .Assign [.Tuple es j p] v _ => gd.cm && chkTg true gd sc (.tp is) (.Tuple es j p) && nocomp v && (noseq v || ssB sc (.Tuple es j p) v) && chkE gd n sc e v
    | .par i j a b, .Assign [.Tuple [.Name x px, .Name y py] kt pt] (.Tuple [u, v] k2 pt2) _ => gd.cm && decide (gd.N[i]? = some x) && decide (gd.N[j]? = some y) && decide (i ≠ j) && decide (x ≠ y) && decide (sc.names.lookup x = some .local) && decide (sc.names.lookup y = some .local) &&
        px.line == py.line && nostar u && nostar v && !(foldedForSure 8 u && foldedForSure 8 v) && !(constantsAlone 8 u && constantsAlone 8 v) && chkE gd n sc a u && chkE gd n sc b v
    | .expr e, .Expr v _ => nocomp v && chkE gd n sc e v
    | .ret e, .Return (some v) _ => chkE gd n sc e v
    | .ret (.cst .non), .Return none _ => true
    | .iff c a b, .If x ss ts _ => noifx x && chkE gd n sc c x && chkSs gd sc n a ss && chkSs gd sc n b ts
    | .forr tg ik its b, .For t it ss [] _ => gd.cm && chkTg true gd sc tg t && chkIt gd sc (chkE gd n sc) ik its t it && chkSs gd sc n b ss
    | .whl c b, .While x ss [] _ => noifx x && chkE gd n sc c x && chkSs gd sc n b ss
    | .app i e, .Expr (.Call (.Attribute (.Name x _) m ap) [v] [] cp) _ => decide (m = "append") && decide (gd.N[i]? = some x) && visB sc x && nostar v && endsOn ap cp && chkE gd n sc e v
    | .seti i k e, .Assign [.Subscript (.Name x _) kx _] v _ => decide (gd.N[i]? = some x) && visB sc x && plainI kx && nocomp v && noseq v && chkE gd n sc k kx && chkE gd n sc e v
    | .setf i f e, .Assign [.Attribute (.Name x _) g _] v _ => decide (f = g) && decide (gd.N[i]? = some x) && visB sc x && nocomp v && chkE gd n sc e v
    | .pass, .Pass _ => true
    | .pass, .Expr (.Constant (.str _) _ _) _ => true
    | .brk, .Break _ => true
    | .cont, .Continue _ => true
    | .never, _ => true
    | .raise c, .Raise (some (.Call (.Name x _) [.Constant (.str _) _ _] [] _)) none _ => gd.cm && decide (c = x) && glB sc x && gd.exs x
    | .tryx b c none s, .Try bb [.ExceptHandler (some (.Name x _)) none (y :: ys) _] [] [] _ => gd.cm && decide (c = x) && glB sc x && gd.exs x && chkSs gd sc n b bb && chkSs { gd with cm := false } sc n s (y :: ys)
    | .tryx b c (some i) s, .Try bb [.ExceptHandler (some (.Name x _)) (some z) (y :: ys) _] [] [] _ => gd.cm && decide (c = x) && glB sc x && gd.exs x && decide (gd.N[i]? = some z) && decide (sc.names.lookup z = some .local) && chkSs gd sc n b bb && chkSs { gd with cm := false } sc n s (y :: ys)
    | .tryx [.tryx b c1 i1 s1] c2 i2 s2, .Try bb [h1, h2] [] [] _ => match n with
      | p + 2 => gd.cm && hdB gd sc c1 i1 h1 && hdB gd sc c2 i2 h2 && chkSs gd sc p b bb && chkSs { gd with cm := false } sc p s1 (hdSuite h1) && chkSs { gd with cm := false } sc (p + 2) s2 (hdSuite h2)
      | _ => false
    | _, _ => false
end

/-! ### readings -/
structure TrS (lk : List Nat) (r : En) (σ : L2.St) (H G : Hp) (r' : En) (σ' : L2.St) (H' G' : Hp) : Prop where
  t : Tr r σ H G r' σ' H' G'
  k : ∀ i ∈ lk, σ'[i]? = σ[i]?
theorem TrS.refl {lk : List Nat} {r : En} {σ : L2.St} {H G : Hp} : TrS lk r σ H G r σ H G := ⟨.refl, fun _ _ => rfl⟩
theorem TrS.trans {lk : List Nat} {r r1 r2 : En} {σ σ1 σ2 : L2.St} {H H1 H2 G G1 G2 : Hp} (a : TrS lk r σ H G r1 σ1 H1 G1) (b : TrS lk r1 σ1 H1 G1 r2 σ2 H2 G2) : TrS lk r σ H G r2 σ2 H2 G2 :=
  ⟨a.t.trans b.t, fun i h => (b.k i h).trans (a.k i h)⟩
theorem Tr.s {lk : List Nat} {r r' : En} {σ : L2.St} {H H' G G' : Hp} (t : Tr r σ H G r' σ H' G') : TrS lk r σ H G r' σ H' G' := ⟨t, fun _ _ => rfl⟩
/-- what a def gives back -/
def relR (U : Wd) (r : En) (σ : L2.St) (H : Hp) (r' : En) (σ' : L2.St) (H' G' : Hp) (x : V) : Val → Prop
  | .fz d => Rep U G' x d
  | .ow d => ∃ a, x = .ref a ∧ (H a = none ∨ OwnAt r σ a) ∧ G' a = none ∧ Node U H' G' a d ∧ ¬ OwnAt r' σ' a
def ContS (U : Wd) (W : WX) (lk : List Nat) (res : Fl) (r : En) (σ : L2.St) (H G : Hp) (D : Ends) : Prop := match res with
  | .bad => False
  | .exn e r' => ∀ cls d σ' H' G', Rl U r' σ' H' G' → TrS lk r σ H G r' σ' H' G' → ExR U H' G' cls d e → W cls d σ' H'
  | .nx r' => ∀ σ' H' G', Rl U r' σ' H' G' → TrS lk r σ H G r' σ' H' G' → D.nx σ' H'
  | .bk r' => ∀ σ' H' G', Rl U r' σ' H' G' → TrS lk r σ H G r' σ' H' G' → D.bk σ' H'
  | .ct r' => ∀ σ' H' G', Rl U r' σ' H' G' → TrS lk r σ H G r' σ' H' G' → D.ct σ' H'
  | .rt v r' => ∀ x σ' H' G', Rl U r' σ' H' G' → TrS lk r σ H G r' σ' H' G' → relR U r σ H r' σ' H' G' x v → D.rt x H'
def Rs (U : Wd) (W : WX) (lk : List Nat) (f : En → Fl) : TS := fun D σ H => ∃ r G, Rl U r σ H G ∧ ContS U W lk (f r) r σ H G D

section
variable {U : Wd} {W : WX} {lk : List Nat}
theorem ContS.later {res : Fl} {r r1 : En} {σ σ1 : L2.St} {H G H1 G1 : Hp} {D : Ends} (h : ContS U W lk res r σ H G D) (t : TrS lk r σ H G r1 σ1 H1 G1) : ContS U W lk res r1 σ1 H1 G1 D := by
  cases res with
  | bad => exact h
  | exn e r' => exact fun cls d σ' H' G' a b c => h cls d σ' H' G' a (t.trans b) c
  | nx r' => exact fun σ' H' G' a b => h σ' H' G' a (t.trans b)
  | bk r' => exact fun σ' H' G' a b => h σ' H' G' a (t.trans b)
  | ct r' => exact fun σ' H' G' a b => h σ' H' G' a (t.trans b)
  | rt v r' =>
    intro x σ' H' G' a b c
    refine h x σ' H' G' a (t.trans b) ?_
    cases v with
    | fz d => exact c
    | ow d =>
      obtain ⟨p, e, h1, h2, h3, h4⟩ := c
      refine ⟨p, e, ?_, h2, h3, h4⟩
      rcases h1 with z | z
      · exact .inl (t.t.un _ z)
      · exact (t.t.o _ z).symm
theorem ContS.fl {α β : Type} (rel : Rel α β) {m : R α} {g : α → En → Fl} {r : En} {σ : L2.St} {H G : Hp} {D : Ends} (h : ContS U W lk (m.fl g) r σ H G D) :
    Cont U W rel m r σ H G fun x H1 => ∃ a r1 G1, Rl U r1 σ H1 G1 ∧ Tr r σ H G r1 σ H1 G1 ∧ rel a r1 σ H G1 H1 x ∧ ContS U W lk (g a r1) r σ H G D := by
  cases m with
  | bad => exact h
  | exn e r' => exact fun cls d H' G' a b c => h cls d σ H' G' a b.s c
  | ok a r1 => exact fun x H1 G1 rl t rx => ⟨a, r1, G1, rl, t, rx, h⟩
/-- one statement, then the rest -/
theorem ContS.seq {res : Fl} {g : En → Fl} {r : En} {σ : L2.St} {H G : Hp} {D : Ends} (h : ContS U W lk (match res with
      | .nx r1 => g r1
      | f => f) r σ H G D) : ContS U W lk res r σ H G { D with nx := Rs U W lk g D } := by
  cases res with
  | bad => exact h
  | exn e r' => exact h
  | nx r' => exact fun σ' H' G' a b => ⟨r', G', a, ContS.later h b⟩
  | bk r' => exact h
  | ct r' => exact h
  | rt v r' => exact h
/-- a loop's body -/
theorem ContS.loop {res : Fl} {g : En → Fl} {r : En} {σ : L2.St} {H G : Hp} {D : Ends} {N : L2.St → Hp → Prop} (hN : ∀ r' σ' H' G', Rl U r' σ' H' G' → TrS lk r σ H G r' σ' H' G' → ContS U W lk (g r') r' σ' H' G' D → N σ' H') (h : ContS U W lk (match res with
      | .nx r2 => g r2
      | .ct r2 => g r2
      | .bk r2 => .nx r2
      | f => f) r σ H G D) : ContS U W lk res r σ H G { D with nx := N, ct := N, bk := D.nx } := by
  cases res with
  | bad => exact h
  | exn e r' => exact h
  | nx r' => exact fun σ' H' G' a b => hN r' σ' H' G' a b (ContS.later h b)
  | bk r' => exact h
  | ct r' => exact fun σ' H' G' a b => hN r' σ' H' G' a b (ContS.later h b)
  | rt v r' => exact h

/-! ### stores -/
/-- a value that may be stored -/
def NewV (U : Wd) (r : En) (σ : L2.St) (H G : Hp) (x : V) : Val → Prop
  | .fz d => Rep U G x d
  | .ow d => ∃ a, x = .ref a ∧ G a = none ∧ Node U H G a d ∧ ¬ OwnAt r σ a
theorem own_setV {r : En} {σ : L2.St} {i : Nat} {v : Val} {x : V} {b : Addr} (h : OwnAt (r.set i (slotOf v)) (σ.set i (some x)) b) : OwnAt r σ b ∨ (x = .ref b ∧ ∃ d, v = .ow d) := by
  obtain ⟨j, e, h1, h2⟩ := h
  rcases set_get h1 with ⟨rfl, z⟩ | ⟨n, z⟩
  · cases v with
    | fz d => cases z
    | ow d =>
      have l : j < σ.length := by
        have := (List.getElem?_eq_some_iff.mp h2).1
        rwa [List.length_set] at this
      rw [List.getElem?_set_self l] at h2
      cases h2
      exact .inr ⟨rfl, d, rfl⟩
  · rw [List.getElem?_set_ne (Ne.symm n)] at h2
    exact .inl ⟨j, e, z, h2⟩
theorem Rl.setV {r : En} {σ : L2.St} {H G : Hp} (rl : Rl U r σ H G) {i : Nat} {v : Val} {x : V} (h : NewV U r σ H G x v) : Rl U (r.set i (slotOf v)) (σ.set i (some x)) H G := by
  cases v with
  | fz d => exact rl.setFz h
  | ow d =>
    obtain ⟨p, rfl, hg, nd, no⟩ := h
    refine ⟨rl.sub, by rw [List.length_set, List.length_set]; exact rl.len, fun j s o g1 g2 => ?_, fun j l a d1 d2 ne g1 g2 g3 g4 => ?_⟩
    · rcases set_get g1 with ⟨rfl, rfl⟩ | ⟨ne, g1⟩
      · have l : j < σ.length := by
          have := (List.getElem?_eq_some_iff.mp g2).1
          rwa [List.length_set] at this
        rw [List.getElem?_set_self l] at g2
        cases g2
        exact ⟨p, rfl, hg, nd⟩
      · rw [List.getElem?_set_ne (Ne.symm ne)] at g2
        exact rl.at_ j s o g1 g2
    · rcases set_get g1 with ⟨rfl, z1⟩ | ⟨n1, k1⟩
      · have l1 : j < σ.length := by
          have := (List.getElem?_eq_some_iff.mp g3).1
          rwa [List.length_set] at this
        rw [List.getElem?_set_self l1] at g3
        cases g3
        rcases set_get g2 with ⟨e, _⟩ | ⟨n2, g2⟩
        · exact ne e.symm
        · rw [List.getElem?_set_ne (Ne.symm n2)] at g4
          exact no ⟨l, d2, g2, g4⟩
      · rw [List.getElem?_set_ne (Ne.symm n1)] at g3
        rcases set_get g2 with ⟨rfl, _⟩ | ⟨n2, g2⟩
        · have l1 : l < σ.length := by
            have := (List.getElem?_eq_some_iff.mp g4).1
            rwa [List.length_set] at this
          rw [List.getElem?_set_self l1] at g4
          cases g4
          exact no ⟨j, d1, k1, g3⟩
        · rw [List.getElem?_set_ne (Ne.symm n2)] at g4
          exact rl.ap j l a d1 d2 ne k1 g2 g3 g4
theorem relV.new {r : En} {σ : L2.St} {H H' G' : Hp} {v : Val} {x : V} (h : relV U v r σ H G' H' x) : NewV U r σ H' G' x v ∧ ((∃ d, v = .ow d) → ∀ b, x = .ref b → H b = none) := by
  cases v with
  | fz d => exact ⟨h, fun ⟨_, e⟩ => by cases e⟩
  | ow d =>
    obtain ⟨p, rfl, h1, h2, h3, h4⟩ := h
    exact ⟨⟨p, rfl, h2, h3, h4⟩, fun _ b e => by cases e; exact h1⟩
/-- a new value is stored -/
theorem TrS.setV {r r1 : En} {σ σ1 : L2.St} {H G H1 G1 : Hp} {i : Nat} {v : Val} {x : V} (t : TrS lk r σ H G r1 σ1 H1 G1) (hn : (∃ d, v = .ow d) → ∀ b, x = .ref b → H b = none) (hi : ¬ i ∈ lk) : TrS lk r σ H G (r1.set i (slotOf v)) (σ1.set i (some x)) H1 G1 := by
  refine ⟨⟨t.t.g, t.t.h, t.t.t, fun b z => ?_, t.t.f⟩, fun j hj => ?_⟩
  · rcases own_setV z with w | ⟨e, w⟩
    · exact t.t.o b w
    · exact .inr (hn w b e)
  · rw [List.getElem?_set_ne fun e => hi (by rw [e]; exact hj)]
    exact t.k j hj
/-- an own object's contents are changed -/
theorem Rl.setOwn {r : En} {σ : L2.St} {H G : Hp} (rl : Rl U r σ H G) {i : Nat} {a : Addr} {d d' : D} {o : HO} (h1 : r[i]? = some (.ow d)) (h2 : σ[i]? = some (some (.ref a))) (hn : Node U (upd H a o) G a d') :
    Rl U (r.set i (.ow d')) σ (upd H a o) G ∧ Tr r σ H G (r.set i (.ow d')) σ (upd H a o) G := by
  obtain ⟨b, e, hg, nd⟩ := rl.at_ i _ _ h1 h2
  cases e
  have far : ∀ {j : Nat} {e : D} {b : Addr}, j ≠ i → r[j]? = some (.ow e) → σ[j]? = some (some (.ref b)) → b ≠ a := fun {j e b} ne g1 g2 z => rl.ap j i b e d ne g1 h1 g2 (by rw [z]; exact h2)
  refine ⟨⟨fun b u e => ?_, by rw [List.length_set]; exact rl.len, fun j s q g1 g2 => ?_, fun j l b d1 d2 ne g1 g2 g3 g4 => ?_⟩, Same.refl _, fun b u e no => ?_, fun b u e => ?_, fun b z => ?_, fun b u e => .inl e⟩
  · rw [upd_ne (ne_of_none e hg)]
    exact rl.sub b u e
  · rcases set_get g1 with ⟨rfl, rfl⟩ | ⟨ne, g1⟩
    · rw [h2] at g2
      cases g2
      exact ⟨a, rfl, hg, hn⟩
    · have w := rl.at_ j s q g1 g2
      cases s with
      | un => trivial
      | fz e => exact w
      | ow e =>
        obtain ⟨b, eb, hb, nb⟩ := w
        subst eb
        exact ⟨b, rfl, hb, nb.mono (Same.refl _) (upd_ne (far ne g1 g2))⟩
  · rcases set_get g1 with ⟨rfl, _⟩ | ⟨n1, k1⟩
    · rcases set_get g2 with ⟨e, _⟩ | ⟨n2, k2⟩
      · exact ne e.symm
      · exact rl.ap _ l b d d2 ne h1 k2 g3 g4
    · rcases set_get g2 with ⟨rfl, _⟩ | ⟨n2, k2⟩
      · exact rl.ap j _ b d1 d ne k1 h1 g3 g4
      · exact rl.ap j l b d1 d2 ne k1 k2 g3 g4
  · rw [upd_ne fun z => no (by rw [z]; exact ⟨i, d, h1, h2⟩)]
    exact e
  · by_cases z : b = a
    · subst z
      exact ⟨_, upd_same⟩
    · exact ⟨u, by rw [upd_ne z]; exact e⟩
  · obtain ⟨j, e, g1, g2⟩ := z
    rcases set_get g1 with ⟨rfl, _⟩ | ⟨ne, g1⟩
    · exact .inl ⟨_, d, h1, g2⟩
    · exact .inl ⟨j, e, g1, g2⟩
end
end Mp

set_option Elab.async false
set_option linter.all false
set_option maxRecDepth 100000
set_option maxHeartbeats 8000000
/-! Mp, part 20: every statement. -/
namespace Mp
open PySem PySem.Spec PyProof.Rows L2

/-- what is known where a def's body runs -/
structure Sok (X : Cx) (U : Wd) (T : Tbl) (W : WX) (k : Nat) (gd : Gd) (sc : Scope) : Prop where
  co : Cok X U T W k gd sc
  po : PassesOwn (model X.prog X.w) X.A X.env X.xe
  fc : ∀ x, sc.names.lookup x = some .cell → X.fn x = true
  kd : sc.kind = .function
  sk : X.stack = X.env :: X.outer
  fr : X.env.frame = some X.env.locals
theorem ContS.fl2 {U : Wd} {W : WX} {lk : List Nat} {α β : Type} (rel : Rel α β) {m : R α} {g : α → En → Fl} {r0 r : En} {σ : L2.St} {H0 G0 H G : Hp} {D : Ends} (h : ContS U W lk (m.fl g) r0 σ H0 G0 D) (t : Tr r0 σ H0 G0 r σ H G) :
    Cont U W rel m r σ H G fun x H1 => ∃ a r1 G1, Rl U r1 σ H1 G1 ∧ Tr r σ H G r1 σ H1 G1 ∧ rel a r1 σ H G1 H1 x ∧ ContS U W lk (g a r1) r0 σ H0 G0 D := by
  cases m with
  | bad => exact h
  | exn e r' => exact fun cls d H' G' a b c => h cls d σ H' G' a (t.trans b).s c
  | ok a r1 => exact fun x H1 G1 rl t2 rx => ⟨a, r1, G1, rl, t2, rx, h⟩
theorem sw_false {elt : Expr} {gs : List Comprehension} {scope : Scope} {pos py : Pos} {y : Str} {l : Nat} {env : Env} (hk : env.scope.kind = .function) (h : (decide (env.scope.names.lookup y = some .local) && py.line == pos.line && !(scope.names.any fun (n, k) => n == y && (k == .local || k == .cell))) = false) :
    swapsWith (.ListComp elt gs scope pos) (some (.Name y py)) l env = pure false := by
  have hb : env.blockKind = .function := by unfold Env.blockKind; rw [hk]; rfl
  have hd : (env.kindOf y == some NameKind.local) = decide (env.scope.names.lookup y = some .local) := by
    show (env.scope.names.lookup y == some NameKind.local) = _
    cases e : env.scope.names.lookup y with
    | none => rfl
    | some q => cases q <;> rfl
  unfold swapsWith
  show (pure (env.blockKind == .function && env.kindOf y == some .local && py.line == pos.line && !(scope.names.any fun (n, k) => n == y && (k == .local || k == .cell))) : Sem Bool) = pure false
  rw [hd, hb]
  have : (ScopeKind.function == ScopeKind.function) = true := rfl
  rw [this, Bool.true_and, h]
theorem sw_no {v : Expr} {t : Option Expr} {l : Nat} {env : Env} (h : nocomp v = true) : swapsWith v t l env = pure false := by
  cases v <;> first | rfl | cases h
theorem ss_no {t v : Expr} {env : Env} (h : noseq v = true) : swappedStores [t] v env = pure none := by
  cases v <;> first | (cases h; done) | skip
  all_goals (cases t <;> rfl)
theorem ss_ok {t v : Expr} {env : Env} {sc : Scope} (hs : env.scope = sc) (h : ssB sc t v = true) : swappedStores [t] v env = pure none := by
  cases t <;> first | (cases h; done) | skip
  cases v <;> first | (cases h; done) | skip
  rename_i ts k1 p1 vs k2 p2
  subst hs
  have h' : (!(ts.length == 2 || ts.length == 3) || (ssNames env.scope ((ts.head?.map (·.pos.line)).getD 0) ts).length != ts.length) = true := h
  unfold swappedStores
  simp only [pure_bind]
  by_cases a : (!(ts.length == 2 || ts.length == 3) || vs.length != ts.length || env.blockKind != .function) = true
  · rw [if_pos a]
  · rw [if_neg a]
    have a1 : (!(ts.length == 2 || ts.length == 3)) = false := by
      simp only [Bool.or_eq_true, not_or, Bool.not_eq_true] at a
      exact a.1.1
    rw [a1, Bool.false_or] at h'
    split
    · rfl
    · exact if_pos (by rw [Bool.or_eq_true]; exact .inl h')
theorem ss_nok {t v : Expr} {env : Env} {sc : Scope} (hs : env.scope = sc) (h : (noseq v || ssB sc t v) = true) : swappedStores [t] v env = pure none := by
  rcases Bool.or_eq_true_iff.mp h with h | h
  · exact ss_no h
  · exact ss_ok hs h
theorem ss_two {x y : Str} {px py pt pt2 : Pos} {kt k2 : Nat} {u v : Expr} {env : Env} (hk : env.scope.kind = .function) (hx : env.scope.names.lookup x = some .local) (hy : env.scope.names.lookup y = some .local) (hl : (px.line == py.line) = true) (ne : x ≠ y)
    (su : nostar u = true) (sv : nostar v = true) (hf : (foldedForSure 8 u && foldedForSure 8 v) = false) (hc : (constantsAlone 8 u && constantsAlone 8 v) = false) :
    swappedStores [.Tuple [.Name x px, .Name y py] kt pt] (.Tuple [u, v] k2 pt2) env = pure (some [x, y]) := by
  have hb : env.blockKind = .function := by unfold Env.blockKind; rw [hk]; rfl
  have kx : env.kindOf x = some .local := hx
  have ky : env.kindOf y = some .local := hy
  have hl' : px.line = py.line := by simpa using hl
  have s1 : ([u, v].any fun | .Starred .. => true | _ => false) = false := by
    cases u <;> first | (cases su; done) | skip
    all_goals (cases v <;> first | (cases sv; done) | rfl)
  have f1 : [u, v].all (foldedForSure 8) = false := by simpa using hf
  have c1 : [u, v].all (constantsAlone 8) = false := by simpa using hc
  have er : [x, y].eraseDups.length = 2 := by
    simp [List.eraseDups_cons, ne, Ne.symm ne]
  unfold swappedStores
  simp [hb, kx, ky, hl', s1, f1, c1, er, Expr.pos]
  intro h
  rcases h with h | h
  · cases u <;> first | (cases su; done) | (cases h; done)
  · cases v <;> first | (cases sv; done) | (cases h; done)

section
variable {X : Cx} {U : Wd} {T : Tbl} {W : WX} {k : Nat} {gd : Gd} {sc : Scope} {lk : List Nat}
theorem st_set {n : Nat} {i : Nat} {e : ME} {te : TE} {st : Stmt} (h : PS X st (tAsg te (gName i))) (hq : ∀ σ H Q, Rg U W (relV U) (ev T n e) σ H Q → te σ H Q) : PS X st (Rs U W lk (ex T lk (n + 1) (.set i e))) := by
  refine ps_imp h fun D σ H q => ?_
  obtain ⟨r, G, rl, q⟩ := q
  have q' : ContS U W lk ((ev T n e r).fl fun v r1 => store lk i (slotOf v) r1) r σ H G D := q
  refine hq _ _ _ ⟨r, G, rl, (q'.fl (relV U)).imp fun x H1 ⟨v, r1, G1, rl1, t1, rx, q1⟩ => ?_⟩
  unfold store at q1
  split at q1
  · rename_i hc
    obtain ⟨a1, a2⟩ := rx.new
    exact q1 _ H1 G1 (rl1.setV a1) (t1.s.setV a2 hc.2)
  · exact False.elim q1
theorem st_sett {n : Nat} {is : List Nat} {e : ME} {te : TE} {st : Stmt} (eK : U.K = X.K) (h : PS X st (tAsg te (tgG X.K (.tp is)))) (hq : ∀ σ H Q, Rg U W (relF U) (evF (ev T n) e) σ H Q → te σ H Q) : PS X st (Rs U W lk (ex T lk (n + 1) (.sett is e))) := by
  refine ps_imp h fun D σ H q => ?_
  obtain ⟨r, G, rl, q⟩ := q
  have q' : ContS U W lk ((evF (ev T n) e r).fl fun d r1 => if (Tg.tp is).free lk then (match put (.tp is) d r1 with
        | some r2 => .nx r2
        | none => .bad) else .bad) r σ H G D := q
  refine hq _ _ _ ⟨r, G, rl, (q'.fl (relF U)).imp fun x H1 ⟨d, r1, G1, rl1, t1, rx, q1⟩ => ?_⟩
  split at q1
  · rename_i hf
    cases e1 : put (.tp is) d r1 with
    | none => rw [e1] at q1; exact False.elim q1
    | some r2 =>
      rw [e1] at q1
      refine put_ok eK e1 rl1 rx fun σ' rl2 ho hs hl => ?_
      refine q1 σ' H1 G1 rl2 (t1.s.trans ⟨Tr.slots ho, fun j hj => hs j fun m => ?_⟩)
      have := List.all_eq_true.mp hf j m
      simp only [Bool.not_eq_true', decide_eq_false_iff_not] at this
      exact this hj
  · exact False.elim q1
theorem st_par {n : Nat} {i j : Nat} {a b : ME} {st : Stmt} (h : PS X st (tPar i j (tCons (Rg U W (relV U) (ev T n a)) (tCons (Rg U W (relV U) (ev T n b)) tNil)))) : PS X st (Rs U W lk (ex T lk (n + 1) (.par i j a b))) := by
  refine ps_imp h fun D σ H q => ?_
  obtain ⟨r, G, rl, q⟩ := q
  have q' : ContS U W lk ((ev T n a r).fl fun v r1 => (ev T n b r1).fl fun w r2 => if i < r2.length ∧ j < r2.length ∧ i ≠ j ∧ ¬ i ∈ lk ∧ ¬ j ∈ lk then .nx ((r2.set i (slotOf v)).set j (slotOf w)) else .bad) r σ H G D := q
  refine ⟨r, G, rl, (q'.fl (relV U)).imp fun x H1 ⟨v, r1, G1, rl1, t1, rx, q1⟩ => ?_⟩
  refine ⟨r1, G1, rl1, (q1.fl2 (relV U) t1).imp fun y H2 ⟨w, r2, G2, rl2, t2, ry, q2⟩ => ?_⟩
  refine ⟨x, y, rfl, ?_⟩
  split at q2
  · rename_i hc
    obtain ⟨c1, c2, c3, c4, c5⟩ := hc
    have rx2 := (pss_V U).go rx rl1 t2
    obtain ⟨a1, a2⟩ := rx2.new
    obtain ⟨b1, b2⟩ := ry.new
    have rl3 := rl2.setV (i := i) a1
    have b1' : NewV U (r2.set i (slotOf v)) (σ.set i (some x)) H2 G2 y w := by
      cases w with
      | fz d => exact b1
      | ow d =>
        obtain ⟨p, rfl, g1, g2, g3⟩ := b1
        refine ⟨p, rfl, g1, g2, fun z => ?_⟩
        rcases own_setV z with z | ⟨e, d', e'⟩
        · exact g3 z
        · subst e e'
          have hp := b2 ⟨_, rfl⟩ p rfl
          obtain ⟨p', ep, _, _, nd, _⟩ := rx
          cases ep
          obtain ⟨o, ho⟩ := nd.there
          rw [hp] at ho
          cases ho
    have t3 : TrS lk r σ H G r2 σ H2 G2 := (t1.trans t2).s
    have t4 := t3.setV (i := i) (v := v) (x := x) a2 c4
    have t5 := t4.setV (i := j) (v := w) (x := y) (fun e b eb => by
      cases q : H b with
      | none => rfl
      | some o =>
        obtain ⟨o', z⟩ := t1.t b o q
        rw [b2 e b eb] at z
        cases z) c5
    exact q2 _ H2 G2 (rl3.setV b1') t5
  · exact False.elim q2
end
end Mp

set_option Elab.async false
set_option linter.all false
set_option maxRecDepth 100000
set_option maxHeartbeats 8000000
/-! Mp, part 21: every statement, on. -/
namespace Mp
open PySem PySem.Spec PyProof.Rows L2

section
variable {X : Cx} {U : Wd} {T : Tbl} {W : WX} {k : Nat} {gd : Gd} {sc : Scope} {lk : List Nat}
theorem sw_sole {t v : Expr} {l : Nat} {env : Env} (h : nocomp v = true) : swapsWithSole [t] v l env = pure false := (show swapsWith v (some t) l env = pure false from sw_no h)
theorem st_expr {n : Nat} {e : ME} {te : TE} {st : Stmt} (h : PS X st (tDrop te)) (hq : ∀ σ H Q, Rg U W (relV U) (ev T n e) σ H Q → te σ H Q) : PS X st (Rs U W lk (ex T lk (n + 1) (.expr e))) := by
  refine ps_imp h fun D σ H q => ?_
  obtain ⟨r, G, rl, q⟩ := q
  have q' : ContS U W lk ((ev T n e r).fl fun _ r1 => .nx r1) r σ H G D := q
  refine hq _ _ _ ⟨r, G, rl, (q'.fl (relV U)).imp fun x H1 ⟨v, r1, G1, rl1, t1, rx, q1⟩ => ?_⟩
  exact q1 σ H1 G1 rl1 t1.s
theorem st_ret {n : Nat} {e : ME} {v : Expr} {pos : Pos} (c : Cok X U T W k gd sc) (hS : ∀ m e, chkE gd n sc m e = true → SX X U W (ev T n) m e) (hc : chkE gd n sc e v = true) : PS X (.Return (some v) pos) (Rs U W lk (ex T lk (n + 1) (.ret e))) := by
  by_cases hv : ∃ i, e = .var i
  · obtain ⟨i, rfl⟩ := hv
    cases n with
    | zero => cases hc
    | succ n =>
      cases v <;> first | (cases hc; done) | skip
      rename_i x p
      have hc' : (decide (gd.N[i]? = some x) && visB sc x) = true := hc
      rw [Bool.and_eq_true] at hc'
      obtain ⟨v1, v2, v3⟩ := c.vis hc'.2
      have hN : X.N[i]? = some x := by
        rw [c.eN]
        exact of_decide_eq_true hc'.1
      refine ps_imp (ps_ret (pe_var hN v1 v2 v3)) fun Dn σ H q => ?_
      obtain ⟨r, G, rl, q⟩ := q
      have q' : ContS U W lk (match r[i]? with
        | some (.fz d) => .rt (.fz d) r
        | some (.ow d) => if i ∈ lk then .bad else .rt (.ow d) (r.set i .un)
        | _ => .bad) r σ H G Dn := q
      cases e : r[i]? with
      | none => rw [e] at q'; exact False.elim q'
      | some s =>
        rw [e] at q'
        obtain ⟨o, ho⟩ := rl.val e
        cases s with
        | un => exact False.elim q'
        | fz d =>
          obtain ⟨v, ev, rp⟩ := rl.at_ i _ _ e ho
          subst ev
          exact ⟨v, ho, q' v σ H G rl .refl rp⟩
        | ow d =>
          obtain ⟨a, ea, hg, nd⟩ := rl.at_ i _ _ e ho
          subst ea
          refine ⟨_, ho, ?_⟩
          replace q' : ContS U W lk (if i ∈ lk then .bad else .rt (.ow d) (r.set i .un)) r σ H G Dn := q'
          split at q'
          · exact False.elim q'
          · have hx : ∀ {j : Nat} {d' : D}, (r.set i .un)[j]? = some (.ow d') → j ≠ i ∧ r[j]? = some (.ow d') := fun {j d'} z => by
              rcases set_get z with ⟨_, y⟩ | ⟨ne, y⟩
              · cases y
              · exact ⟨ne, y⟩
            have rl2 : Rl U (r.set i .un) σ H G := ⟨rl.sub, by rw [List.length_set]; exact rl.len, fun j s o g1 g2 => by
              rcases set_get g1 with ⟨_, rfl⟩ | ⟨ne, g1⟩
              · trivial
              · exact rl.at_ j s o g1 g2, fun j l b d1 d2 ne g1 g2 => rl.ap j l b d1 d2 ne (hx g1).2 (hx g2).2⟩
            have ho' : ∀ b, OwnAt (r.set i .un) σ b → OwnAt r σ b := fun b ⟨j, d', g1, g2⟩ => ⟨j, d', (hx g1).2, g2⟩
            exact q' _ σ H G rl2 (Tr.slots ho').s ⟨a, rfl, .inr ⟨i, d, e, ho⟩, hg, nd, fun ⟨j, d', g1, g2⟩ => rl.ap i j a d d' (hx g1).1.symm e (hx g1).2 ho g2⟩
  · have e1 : ∀ r, ex T lk (n + 1) (.ret e) r = (ev T n e r).fl fun v r1 => .rt v r1 := fun r => by
      cases e <;> first | rfl | exact absurd ⟨_, rfl⟩ hv
    refine ps_imp (ps_ret (hS _ _ hc).v) fun Dn σ H q => ?_
    obtain ⟨r, G, rl, q⟩ := q
    rw [e1] at q
    refine ⟨r, G, rl, (q.fl (relV U)).imp fun x H1 ⟨v, r1, G1, rl1, t1, rx, q1⟩ => ?_⟩
    refine q1 x σ H1 G1 rl1 t1.s ?_
    cases v with
    | fz d => exact rx
    | ow d =>
      obtain ⟨a, ea, h1, h2, h3, h4⟩ := rx
      exact ⟨a, ea, .inl h1, h2, h3, h4⟩
theorem st_retN {n : Nat} {pos : Pos} : PS X (.Return none pos) (Rs U W lk (ex T lk (n + 2) (.ret (.cst .non)))) := by
  refine ps_imp ps_retN fun D σ H q => ?_
  obtain ⟨r, G, rl, q⟩ := q
  exact q .non σ H G rl .refl .non
theorem st_if {n : Nat} {cm : ME} {a b : List MS} {x : Expr} {ss ts : List Stmt} {pos : Pos} (hx : PT X x (Rg U W relB (evB (ev T n) cm))) (ha : PSs X ss (Rs U W lk (exs T lk n a))) (hb : PSs X ts (Rs U W lk (exs T lk n b))) :
    PS X (.If x ss ts pos) (Rs U W lk (ex T lk (n + 1) (.iff cm a b))) := by
  refine ps_imp (ps_if hx ha hb) fun D σ H q => ?_
  obtain ⟨r, G, rl, q⟩ := q
  have q' : ContS U W lk ((evB (ev T n) cm r).fl fun v r1 => if v = true then exs T lk n a r1 else exs T lk n b r1) r σ H G D := q
  refine ⟨r, G, rl, (q'.fl relB).imp fun v H1 ⟨v', r1, G1, rl1, t1, rx, q1⟩ => ?_⟩
  have rx' : v = v' := rx
  subst rx'
  have q2 := ContS.later q1 t1.s
  cases v with
  | true => exact iteT ⟨r1, G1, rl1, q2⟩
  | false => exact iteF ⟨r1, G1, rl1, q2⟩
theorem st_for {n : Nat} {tg : Tg} {ik : Nat} {its : List ME} {b : List MS} {t it : Expr} {ss : List Stmt} {pos : Pos} (s : Sok X U T W k gd sc) (hcm : gd.cm = true) (hi : PI X t it (Rg U W (relI U) (evI (ev T n) ik its))) (hg : PG X t (tgG X.K tg)) (hb : PSs X ss (Rs U W lk (exs T lk n b)))
    (hs : ∀ x, foldedSetIterable it X.env x = pure x) : PS X (.For t it ss [] pos) (Rs U W lk (ex T lk (n + 1) (.forr tg ik its b))) := by
  refine ps_imp (ps_for s.po (s.co.calm hcm) hi hg hb hs) fun Dn σ H q => ?_
  obtain ⟨r, G, rl, q⟩ := q
  have e1 : ex T lk (n + 1) (.forr tg ik its b) r = (evI (ev T n) ik its r).fl fun xs r1 => if tg.free lk then forL (fun r => exs T lk n b r) tg xs r1 else .bad := by
    show ((mapR (evF (ev T n)) its r).fl fun ds r1 => if tg.free lk then (match walkD ik ds with
      | none => .bad
      | some xs => forL (fun r => exs T lk n b r) tg xs r1) else .bad) = _
    unfold evI
    cases mapR (evF (ev T n)) its r with
    | bad => rfl
    | exn _ _ => rfl
    | ok ds r1 =>
      show (if tg.free lk then (match walkD ik ds with
      | none => .bad
      | some xs => forL (fun r => exs T lk n b r) tg xs r1) else .bad) = (ofOpt (walkD ik ds) r1).fl fun xs r1 => if tg.free lk then forL (fun r => exs T lk n b r) tg xs r1 else .bad
      cases walkD ik ds with
      | none =>
        show (if tg.free lk then Fl.bad else .bad) = .bad
        split <;> rfl
      | some xs => rfl
  rw [e1] at q
  refine ⟨r, G, rl, (q.fl (relI U)).imp fun J H1 ⟨xs, r1, G1, rl1, t1, hJ, q1⟩ => ?_⟩
  split at q1
  case isFalse => exact False.elim q1
  rename_i hf
  have q2 := ContS.later q1 t1.s
  refine ⟨fun i m σ H => i ≤ xs.length ∧ m = xs.length - i ∧ ∃ ri Gi, Rl U ri σ H Gi ∧ Same G1 Gi ∧ ContS U W lk (forL (fun r => exs T lk n b r) tg (xs.drop i) ri) ri σ H Gi Dn, ⟨xs.length, Nat.zero_le _, rfl, r1, G1, rl1, Same.refl _, q2⟩, ?_⟩
  rintro i m σ2 H2 ⟨hi, rfl, ri, Gi, rli, sm, qi⟩
  obtain ⟨jy, js⟩ := hJ i Gi H2 sm rli.sub
  by_cases lt : i < xs.length
  case neg =>
    left
    have e3 : xs.drop i = [] := List.drop_eq_nil_of_le (by omega)
    rw [e3] at qi
    exact ⟨js (by omega), qi σ2 H2 Gi rli .refl⟩
  case pos =>
    right
    have e3 : xs.drop i = xs[i] :: xs.drop (i + 1) := List.drop_eq_getElem_cons lt
    obtain ⟨jg, jx⟩ := jy xs[i] (List.getElem?_eq_getElem lt)
    rw [e3] at qi
    replace qi : ContS U W lk (match put tg xs[i] ri with
      | none => .bad
      | some r1 => match exs T lk n b r1 with
        | .nx r2 => forL (fun r => exs T lk n b r) tg (xs.drop (i + 1)) r2
        | .ct r2 => forL (fun r => exs T lk n b r) tg (xs.drop (i + 1)) r2
        | .bk r2 => .nx r2
        | f => f) ri σ2 H2 Gi Dn := qi
    refine ⟨jg, fun σ' H' => i + 1 ≤ xs.length ∧ ∃ ri Gi, Rl U ri σ' H' Gi ∧ Same G1 Gi ∧ ContS U W lk (forL (fun r => exs T lk n b r) tg (xs.drop (i + 1)) ri) ri σ' H' Gi Dn, fun σ' H' h => ⟨xs.length - (i + 1), by omega, h.1, rfl, h.2⟩, fun x H' hy => ?_⟩
    obtain ⟨G', ad, rx⟩ := jx x H' hy
    cases ep : put tg xs[i] ri with
    | none => rw [ep] at qi; exact False.elim qi
    | some rp =>
      rw [ep] at qi
      refine put_ok s.co.eK ep (ad.rl rli) rx fun σ' rlp op sp lp => ?_
      have tp : TrS lk ri σ2 H2 Gi rp σ' H' G' := (ad.tr.s).trans ⟨Tr.slots op, fun j hj => sp j fun m => by
        have := List.all_eq_true.mp hf j m
        simp only [Bool.not_eq_true', decide_eq_false_iff_not] at this
        exact this hj⟩
      refine ⟨rp, G', rlp, ContS.loop (g := forL (fun r => exs T lk n b r) tg (xs.drop (i + 1))) (fun r' σ3 H3 G3 a1 a2 a3 => ⟨lt, r', G3, a1, (sm.trans ad.g).trans a2.t.g, a3⟩) (ContS.later qi tp)⟩
theorem st_while {n : Nat} {cm : ME} {b : List MS} {x : Expr} {ss : List Stmt} {pos : Pos} (s : Sok X U T W k gd sc) (hx : PT X x (Rg U W relB (evB (ev T n) cm))) (hb : PSs X ss (Rs U W lk (exs T lk n b))) : PS X (.While x ss [] pos) (Rs U W lk (ex T lk (n + 1) (.whl cm b))) := by
  refine ps_imp (ps_while s.po hx hb) fun Dn σ H q => ?_
  obtain ⟨r, G, rl, q⟩ := q
  refine ⟨fun m σ H => ∃ r G, Rl U r σ H G ∧ ContS U W lk (whlL (fun r => evB (ev T n) cm r) (fun r => exs T lk n b r) m r) r σ H G Dn, ⟨whileMost, r, G, rl, q⟩, ?_⟩
  rintro m σ2 H2 ⟨ri, Gi, rli, qi⟩
  cases m with
  | zero => exact False.elim qi
  | succ m =>
    have qi' : ContS U W lk ((evB (ev T n) cm ri).fl fun v r1 => if v = true then (match exs T lk n b r1 with
      | .nx r2 => whlL (fun r => evB (ev T n) cm r) (fun r => exs T lk n b r) m r2
      | .ct r2 => whlL (fun r => evB (ev T n) cm r) (fun r => exs T lk n b r) m r2
      | .bk r2 => .nx r2
      | f => f) else .nx r1) ri σ2 H2 Gi Dn := qi
    refine ⟨ri, Gi, rli, (qi'.fl relB).imp fun v H1 ⟨v', r1, G1, rl1, t1, rx, q1⟩ => ?_⟩
    have rx' : v = v' := rx
    subst rx'
    cases v with
    | false =>
      rw [if_neg (by decide)]
      exact q1 σ2 H1 G1 rl1 t1.s
    | true =>
      rw [if_pos rfl]
      refine ⟨fun σ' H' => ∃ r G, Rl U r σ' H' G ∧ ContS U W lk (whlL (fun r => evB (ev T n) cm r) (fun r => exs T lk n b r) m r) r σ' H' G Dn, fun σ' H' h => ⟨m, Nat.lt_succ_self m, h⟩, r1, G1, rl1, ?_⟩
      exact ContS.loop (g := whlL (fun r => evB (ev T n) cm r) (fun r => exs T lk n b r) m) (fun r' σ3 H3 G3 a1 a2 a3 => ⟨r', G3, a1, a3⟩) (ContS.later q1 t1.s)
theorem st_app {n : Nat} {i : Nat} {e : ME} {x : Str} {v : Expr} {p ap cp pos : Pos} (c : Cok X U T W k gd sc) (hN : gd.N[i]? = some x) (hv : visB sc x = true) (ns : nostar v = true) (hl : endsOn ap cp = true) (hF : PE X v (Rg U W (relF U) (evF (ev T n) e))) :
    PS X (.Expr (.Call (.Attribute (.Name x p) "append" ap) [v] [] cp) pos) (Rs U W lk (ex T lk (n + 1) (.app i e))) := by
  obtain ⟨v1, v2, v3⟩ := c.vis hv
  have hN' : X.N[i]? = some x := by rw [c.eN]; exact hN
  have hs : starEach [v] X.env = (false, eval v X.env) :: starEach [] X.env := star_cons _ ns
  refine ps_imp (ps_expr (pe_bm PySem.F.plainAttrs_list PySem.F.slot_list_append PySem.F.type_list_append mt_append (pe_var hN' v1 v2 v3) (pa_cons hF pa_nil hs) rfl (by rw [hs]; rfl) hl hs rfl)) fun Dn σ H q => ?_
  obtain ⟨r, G, rl, q⟩ := q
  have q' : ContS U W lk (if isLs r i = true then (evF (ev T n) e r).fl fun d r1 => onOwn i (apnd d) r1 else .bad) r σ H G Dn := q
  split at q'
  case isFalse => exact False.elim q'
  rename_i hi
  unfold isLs at hi
  cases e0 : r[i]? with
  | none => rw [e0] at hi; cases hi
  | some sl =>
    rw [e0] at hi
    obtain ⟨o, ho⟩ := rl.val e0
    cases sl <;> first | (cases hi; done) | skip
    rename_i d0
    cases d0 <;> first | (cases hi; done) | skip
    rename_i ds0
    obtain ⟨a, ea, hg, xs0, hx0, rx0⟩ := rl.at_ i _ _ e0 ho
    subst ea
    refine ⟨_, ho, .inl ⟨rfl, xs0, SqL.of hx0⟩, r, G, rl, (q'.fl (relF U)).imp fun y H1 ⟨d, r1, G1, rl1, t1, ry, q1⟩ => ?_⟩
    unfold onOwn at q1
    cases e1 : r1[i]? with
    | none => rw [e1] at q1; exact False.elim q1
    | some sl =>
      rw [e1] at q1
      cases sl <;> first | (exact False.elim q1; done) | skip
      rename_i d1
      replace q1 : ContS U W lk (match apnd d d1 with
        | some d' => .nx (r1.set i (.ow d'))
        | none => .bad) r σ H G Dn := q1
      cases d1 <;> first | (exact False.elim q1; done) | skip
      rename_i ds1
      replace q1 : ContS U W lk (match (if ds1.length < sizeLine then some (D.lst (ds1 ++ [d])) else none) with
        | some d' => .nx (r1.set i (.ow d'))
        | none => .bad) r σ H G Dn := q1
      split at q1
      case h_2 => exact False.elim q1
      rename_i d' e2
      split at e2
      case isFalse => cases e2
      rename_i hlen
      cases e2
      obtain ⟨a1, ea1, hg1, xs1, hx1, rx1⟩ := rl1.at_ i _ _ e1 ho
      cases ea1
      refine ⟨a, xs1, y, rfl, rfl, hx1, by rw [rx1.length]; exact hlen, ?_⟩
      obtain ⟨rl2, t2⟩ := rl1.setOwn (d' := .lst (ds1 ++ [d])) (o := .lst (xs1 ++ [y])) e1 ho ⟨_, upd_same, rx1.append (.one ry)⟩
      exact q1 σ _ G1 rl2 (t1.trans t2).s
theorem st_seti {n : Nat} {i : Nat} {ke e : ME} {x : Str} {kx v : Expr} {p sp pos : Pos} (c : Cok X U T W k gd sc) (hN : gd.N[i]? = some x) (hv : visB sc x = true) (pk : plainI kx = true) (nc : nocomp v = true) (nq : noseq v = true) (hF : PE X v (Rg U W (relF U) (evF (ev T n) e))) (hK : PE X kx (Rg U W (relF U) (evF (ev T n) ke))) :
    PS X (.Assign [.Subscript (.Name x p) kx sp] v pos) (Rs U W lk (ex T lk (n + 1) (.seti i ke e))) := by
  obtain ⟨v1, v2, v3⟩ := c.vis hv
  have hN' : X.N[i]? = some x := by rw [c.eN]; exact hN
  have ha : ∀ v, assign (.Subscript (.Name x p) kx sp) X.env v = (do
      let ov ← holding [v] (eval (.Name x p) X.env)
      let iv ← holding [v, ov] (eval kx X.env)
      standAt sp
      holding [v, ov, iv] (setItem ov iv v)
      release [v, ov, iv] []) := fun v => by
    cases kx <;> first | rfl | cases pk
  refine ps_imp (ps_asg hF (pg_sub (pe_var hN' v1 v2 v3) hK set_list ha) (sw_sole nc) (ss_no nq) rfl) fun Dn σ H q => ?_
  obtain ⟨r, G, rl, q⟩ := q
  have q' : ContS U W lk ((evF (ev T n) e r).fl fun v r1 => if isOw r1 i = true then (evF (ev T n) ke r1).fl fun k r2 => onOwn i (setAt k v) r2 else .bad) r σ H G Dn := q
  refine ⟨r, G, rl, (q'.fl (relF U)).imp fun y H1 ⟨d, r1, G1, rl1, t1, ry, q1⟩ => ?_⟩
  split at q1
  case isFalse => exact False.elim q1
  rename_i hi
  unfold isOw at hi
  cases e0 : r1[i]? with
  | none => rw [e0] at hi; cases hi
  | some sl =>
    rw [e0] at hi
    obtain ⟨o, ho⟩ := rl1.val e0
    cases sl <;> first | (cases hi; done) | skip
    obtain ⟨a, ea, _⟩ := rl1.at_ i _ _ e0 ho
    subst ea
    refine ⟨_, ho, r1, G1, rl1, (q1.fl2 (relF U) t1).imp fun z H2 ⟨dk, r2, G2, rl2, t2, rz, q2⟩ => ?_⟩
    unfold onOwn at q2
    cases e1 : r2[i]? with
    | none => rw [e1] at q2; exact False.elim q2
    | some sl =>
      rw [e1] at q2
      cases sl <;> first | (exact False.elim q2; done) | skip
      rename_i d1
      replace q2 : ContS U W lk (match setAt dk d d1 with
        | some d' => .nx (r2.set i (.ow d'))
        | none => .bad) r σ H G Dn := q2
      cases d1 <;> first | (exact False.elim q2; done) | skip
      rename_i ds1
      cases dk <;> first | (exact False.elim q2; done) | skip
      rename_i ki
      replace q2 : ContS U W lk (match ((ixN ds1.length ki).map fun j => D.lst (ds1.set j d)) with
        | some d' => .nx (r2.set i (.ow d'))
        | none => .bad) r σ H G Dn := q2
      cases e2 : ixN ds1.length ki with
      | none => rw [e2] at q2; exact False.elim q2
      | some j =>
        rw [e2] at q2
        obtain ⟨a1, ea1, hg1, xs1, hx1, rx1⟩ := rl2.at_ i _ _ e1 ho
        cases ea1
        cases rz
        refine ⟨a, xs1, ki, j, rfl, rfl, hx1, by rw [rx1.length]; exact e2, ?_⟩
        obtain ⟨rl3, t3⟩ := rl2.setOwn (d' := .lst (ds1.set j d)) (o := .lst (xs1.set j y)) e1 ho ⟨_, upd_same, Reps.set (ry.mono t2.g) j rx1⟩
        exact q2 σ _ G2 rl3 ((t1.trans t2).trans t3).s
theorem putF_zip {f : Str} {y : V} : ∀ {fs : List Str} {xs : List V}, fs.length = xs.length → putF f y (fs.zip xs) = (putN f fs).zip (putV f y fs xs) ∧ (putN f fs).length = (putV f y fs xs).length
  | [], [], _ => ⟨rfl, rfl⟩
  | [], _ :: _, h => by simp at h
  | _ :: _, [], h => by simp at h
  | g :: fs, x :: xs, h => by
    have ih := putF_zip (f := f) (y := y) (fs := fs) (xs := xs) (by simpa using h)
    have e1 : putF f y ((g :: fs).zip (x :: xs)) = if g = f then (g, y) :: fs.zip xs else (g, x) :: putF f y (fs.zip xs) := rfl
    have e2 : putN f (g :: fs) = if g = f then g :: fs else g :: putN f fs := rfl
    have e3 : putV f y (g :: fs) (x :: xs) = if g = f then y :: xs else x :: putV f y fs xs := rfl
    rw [e1, e2, e3]
    by_cases hg : g = f
    · rw [if_pos hg, if_pos hg, if_pos hg]
      exact ⟨rfl, by simpa using h⟩
    · rw [if_neg hg, if_neg hg, if_neg hg, ih.1]
      exact ⟨rfl, by simpa using ih.2⟩
theorem mem_putN {f g : Str} : ∀ {fs : List Str}, g ∈ putN f fs → g = f ∨ g ∈ fs
  | [], h => by
    have h' : g ∈ [f] := h
    exact .inl (List.mem_singleton.mp h')
  | a :: fs, h => by
    have h' : g ∈ (if a = f then a :: fs else a :: putN f fs) := h
    split at h'
    · exact .inr h'
    · rcases List.mem_cons.mp h' with e | m
      · exact .inr (by rw [e]; exact List.mem_cons_self)
      · rcases mem_putN m with e | m
        · exact .inl e
        · exact .inr (List.mem_cons_of_mem _ m)
theorem Reps.putV {U : Wd} {G : Hp} {f : Str} {y : V} {d : D} (h : Rep U G y d) : ∀ {fs : List Str} {xs : List V} {ds : List D}, fs.length = xs.length → Reps U G xs ds → Reps U G (Mp.putV f y fs xs) (Mp.putV f d fs ds)
  | [], [], _, _, .nil => .cons h .nil
  | [], _ :: _, _, l, _ => by simp at l
  | _ :: _, [], _, l, _ => by simp at l
  | g :: fs, x :: xs, _, l, .cons (d := d0) (ds := ds) a t => by
    have e2 : Mp.putV f d (g :: fs) (d0 :: ds) = if g = f then d :: ds else d0 :: Mp.putV f d fs ds := rfl
    have e3 : Mp.putV f y (g :: fs) (x :: xs) = if g = f then y :: xs else x :: Mp.putV f y fs xs := rfl
    rw [e2, e3]
    by_cases hg : g = f
    · rw [if_pos hg, if_pos hg]
      exact .cons h t
    · rw [if_neg hg, if_neg hg]
      exact .cons a (Reps.putV h (by simpa using l) t)
theorem st_setf {n : Nat} {i : Nat} {e : ME} {x f : Str} {v : Expr} {p ap pos : Pos} (c : Cok X U T W k gd sc) (hN : gd.N[i]? = some x) (hv : visB sc x = true) (nc : nocomp v = true) (hF : PE X v (Rg U W (relF U) (evF (ev T n) e))) :
    PS X (.Assign [.Attribute (.Name x p) f ap] v pos) (Rs U W lk (ex T lk (n + 1) (.setf i f e))) := by
  obtain ⟨v1, v2, v3⟩ := c.vis hv
  have hN' : X.N[i]? = some x := by rw [c.eN]; exact hN
  refine ps_imp (ps_fld (pe_var hN' v1 v2 v3) hF (sw_no nc)) fun Dn σ H q => ?_
  obtain ⟨r, G, rl, q⟩ := q
  have q' : ContS U W lk ((evF (ev T n) e r).fl fun d r1 => if isOw r1 i = true then onOwn i (setFld T.ct f d) r1 else .bad) r σ H G Dn := q
  refine ⟨r, G, rl, (q'.fl (relF U)).imp fun y H1 ⟨d, r1, G1, rl1, t1, ry, q1⟩ => ?_⟩
  split at q1
  case isFalse => exact False.elim q1
  rename_i hi
  unfold isOw at hi
  cases e0 : r1[i]? with
  | none => rw [e0] at hi; cases hi
  | some sl =>
    rw [e0] at hi
    obtain ⟨o, ho⟩ := rl1.val e0
    cases sl <;> first | (cases hi; done) | skip
    rename_i d1
    obtain ⟨a, ea, hg, nd⟩ := rl1.at_ i _ _ e0 ho
    subst ea
    refine ⟨_, ho, ?_⟩
    unfold onOwn at q1
    rw [e0] at q1
    replace q1 : ContS U W lk (match setFld T.ct f d d1 with
      | some d' => .nx (r1.set i (.ow d'))
      | none => .bad) r σ H G Dn := q1
    cases d1 <;> first | (exact False.elim q1; done) | skip
    rename_i c' fs ds
    replace q1 : ContS U W lk (match (if T.ct.fld c' f = true ∧ fs.length < 999 then some (D.obj c' (putN f fs) (putV f d fs ds)) else none) with
      | some d' => .nx (r1.set i (.ow d'))
      | none => .bad) r σ H G Dn := q1
    by_cases hc : T.ct.fld c' f = true ∧ fs.length < 999
    · rw [if_pos hc] at q1
      obtain ⟨C, dx, xs, h1, h2, h3, h4⟩ := nd
      have hm := h3.m
      rw [c.em] at hm
      have na := c.fl _ _ _ hc.1 hm
      obtain ⟨z1, z2⟩ := putF_zip (f := f) (y := y) h2
      refine ⟨a, C, dx, _, rfl, h1, by rw [← c.eK]; exact h3.c, na, by rw [List.length_zip]; omega, ?_⟩
      have co : CO U c' C (putN f fs) := ⟨h3.m, h3.c, h3.ha, h3.hn, h3.htk, h3.hm, fun g hg => by
        rcases mem_putN hg with rfl | m
        · rw [c.eK]
          exact na
        · exact h3.n g m⟩
      obtain ⟨rl2, t2⟩ := rl1.setOwn (d' := .obj c' (putN f fs) (putV f d fs ds)) (o := .ins C dx (putF f y (fs.zip xs))) e0 ho ⟨C, dx, putV f y fs xs, by rw [upd_same, z1], z2, co, Reps.putV ry h2 h4⟩
      exact q1 σ _ G1 rl2 (t1.trans t2).s
    · rw [if_neg hc] at q1
      exact False.elim q1
end
end Mp

set_option Elab.async false
set_option linter.all false
set_option maxRecDepth 100000
set_option maxHeartbeats 8000000
/-! Mp, part 22: all statements. -/
namespace Mp
open PySem PySem.Spec PyProof.Rows L2

section
variable {X : Cx} {U : Wd} {T : Tbl} {W : WX} {k : Nat} {gd : Gd} {sc : Scope} {lk : List Nat}
theorem nm_loc {i : Nat} {x : Str} {py : Pos} (s : Sok X U T W k gd sc) (h : nmB true gd sc i (.Name x py) = true) : X.N[i]? = some x ∧ Loc X.env.scope x ∧ (X.fn x = true ∨ X.env.scope.names.lookup x = some .local) := by
  have h' : (decide (gd.N[i]? = some x) && (decide (sc.names.lookup x = some .local) || (true && decide (sc.names.lookup x = some .cell)))) = true := h
  simp only [Bool.and_eq_true, Bool.or_eq_true, decide_eq_true_eq, Bool.true_and] at h'
  refine ⟨by rw [s.co.eN]; exact h'.1, ?_, ?_⟩
  · rw [s.co.sc]
    exact h'.2
  · rw [s.co.sc]
    rcases h'.2 with q | q
    · exact .inr q
    · exact .inl (s.fc x q)
theorem st_setAll {n : Nat} {i : Nat} {e : ME} {x : Str} {py pos : Pos} {v : Expr} (s : Sok X U T W k gd sc) (hA : AllE U T k gd n) (h1 : nmB true gd sc i (.Name x py) = true) (h2 : (nocomp v || lcB v) = true) (h3 : chkE gd n sc e v = true) :
    PS X (.Assign [.Name x py] v pos) (Rs U W lk (ex T lk (n + 1) (.set i e))) := by
  obtain ⟨n1, n2, n3⟩ := nm_loc s h1
  have hV := (hA X W sc s.co e v h3).v
  cases hn : nocomp v with
  | true => exact st_set (ps_set s.co.nd n1 n2 hV (sw_no hn) n3) fun σ H Q q => q
  | false =>
    rw [hn, Bool.false_or] at h2
    cases v <;> first | (cases h2; done) | skip
    rename_i elt gs scope p
    cases hq : (decide (X.env.scope.names.lookup x = some .local) && py.line == p.line && !(scope.names.any fun (n, k) => n == x && (k == .local || k == .cell))) with
    | false => exact st_set (ps_set s.co.nd n1 n2 hV (sw_false (by rw [s.co.sc]; exact s.kd) hq) n3) fun σ H Q q => q
    | true =>
      simp only [Bool.and_eq_true, decide_eq_true_eq, Bool.not_eq_true'] at hq
      obtain ⟨⟨q1, q2⟩, q3⟩ := hq
      cases n with
      | zero => cases h3
      | succ n =>
        cases e <;> first | (cases h3; done) | skip
        rotate_right
        · rename_i c0 m0 es0
          cases es0 <;> cases h3
        · exfalso
          rename_i b ms
          replace h3 : chkBI gd sc (chkE gd n sc) b ms (.ListComp elt gs scope p) = true := h3
          unfold chkBI at h3
          split at h3
          · unfold chkC at h3
            split at h3 <;> first | cases h3 | (rename_i q; cases q)
          · unfold chkFld at h3
            split at h3 <;> first | cases h3 | (rename_i q; cases q)
          · unfold chkIsc at h3
            split at h3 <;> first | cases h3 | (rename_i q; cases q)
          · unfold chkBI0 at h3
            split at h3 <;> first | cases h3 | (rename_i q; cases q)
        · rename_i tg elt' ik its cs
          obtain ⟨t, it, ifs, rfl, h4⟩ : ∃ t it ifs, gs = [⟨t, it, ifs, 0⟩] ∧ (gd.cm && chkTg false gd (relS scope sc) tg t && chkIt gd sc (chkE gd n sc) ik its t it && blkC gd.N sc scope (ownN gd.N tg.slots) && decide ((ownN gd.N tg.slots).map (·.2) = tg.slots) && decide (tg.slots.Nodup) &&
        chkCs (chkE gd n (relS scope sc)) cs ifs && chkE gd n (relS scope sc) elt' elt) = true := by
            unfold chkE at h3
            split at h3
            all_goals first | (cases h3; done) | skip
            all_goals first | (rename_i q; cases q; done) | skip
            all_goals rename_i q1 q2
            all_goals first | (cases q1; done) | (cases q2; done) | skip
            all_goals (injection q1; injection q2; subst_vars; exact ⟨_, _, _, rfl, h3⟩)
          simp only [Bool.and_eq_true, decide_eq_true_eq] at h4
          obtain ⟨⟨⟨⟨⟨⟨⟨hcm, h1⟩, h2⟩, h3'⟩, h4⟩, h5⟩, h6⟩, h7⟩ := h4
          obtain ⟨p1, p2, p3, p4, p5, p6⟩ := comp_parts s.co hcm (snd_all n) h1 h2 h3' h6 h7
          refine st_set (ps_setLc (s.co.calm hcm) s.co.nd n1 q1 (sw_true (by rw [s.co.sc]; exact s.kd) q1 q2 q3) p1 p2 p3 p4 p5 p6) fun σ H Q q => ?_
          rw [h4]
          exact comp_rd s.co.eK q
        · rename_i cl0 elt0
          replace h3 : chkN gd sc (chkE gd n) cl0 elt0 (.ListComp elt gs scope p) = true := h3
          obtain ⟨tg, ik, its, cs, rest, x, t, it, ifs, gs', scope', pos', rfl, e2⟩ := compn_case h3
          cases e2
          obtain ⟨hcm, p1, p2, p3, p4, p5, p6⟩ := compn_parts s.co (snd_all n) h3
          refine st_set (ps_setLcN (c := ⟨Rg U W (relI U) (evI (ev T n) ik its), tgG X.K tg, tCs U (ev T n) cs, slotsN ((tg, ik, its, cs) :: rest)⟩) (cs := rdCls U (ev T n) X.K rest) (te := Rg U W0 (relF U) (evF (ev T n) elt0)) (s.co.calm hcm) s.co.nd n1 q1 (sw_true (by rw [s.co.sc]; exact s.kd) q1 q2 q3) p1 p2 p3 p4 p5 p6) fun σ H Q q => ?_
          exact compn_rd s.co.eK q
def AllS (U : Wd) (T : Tbl) (k : Nat) (lk : List Nat) (n : Nat) : Prop := ∀ (X : Cx) (W : WX) (gd : Gd) (sc : Scope), Sok X U T W k gd sc → (∀ s st, chkS gd sc n s st = true → PS X st (Rs U W lk (ex T lk n s))) ∧ ∀ ss sts, chkSs gd sc n ss sts = true → PSs X sts (Rs U W lk (exs T lk n ss))
theorem ss_nil {n : Nat} : PSs X [] (Rs U W lk (exs T lk (n + 1) [])) := pss_imp pss_nil fun D σ H q => by
  obtain ⟨r, G, rl, q⟩ := q
  exact q σ H G rl .refl
theorem ss_cons {n : Nat} {s : MS} {ss : List MS} {st : Stmt} {sts : List Stmt} (h1 : PS X st (Rs U W lk (ex T lk n s))) (h2 : PSs X sts (Rs U W lk (exs T lk n ss))) : PSs X (st :: sts) (Rs U W lk (exs T lk (n + 1) (s :: ss))) :=
  pss_imp (pss_cons h1 h2) fun D σ H q => by
    obtain ⟨r, G, rl, q⟩ := q
    have q' : ContS U W lk (match ex T lk n s r with
      | .nx r1 => exs T lk n ss r1
      | f => f) r σ H G D := q
    exact ⟨r, G, rl, ContS.seq q'⟩
theorem it_noset {n ik : Nat} {its : List ME} {t it : Expr} {z : Value} (h : chkIt gd sc (chkE gd n sc) ik its t it = true) : foldedSetIterable it X.env z = pure z := by
  unfold chkIt at h
  split at h
  · rw [Bool.and_eq_true] at h
    have h2 := h.2
    cases it <;> first | rfl | cases h2
  all_goals first | rfl | cases h
theorem Sok.tr (so : Sok X U T W k gd sc) {W' : WX} {pn : List (Addr × Obj)} {xe : Value → Shared → Prop} (tk : Takes (X.tr pn xe) W') (po : PassesOwn (model X.prog X.w) X.A X.env xe) : Sok (X.tr pn xe) U T W' k gd sc := by
  have c := so.co
  exact ⟨⟨c.eK, c.em, c.calm, c.nd, c.eN, c.gu, c.room, c.un, tk, c.sc, fun f h => ⟨(c.fn f h).ex⟩, c.bn, fun f ks g h => ⟨(c.kw f ks g h).ex⟩, c.ix, c.rs, c.gl, fun a b q h => ⟨(c.mt a b q h).ex⟩, fun a b q h => ⟨(c.pr a b q h).ex⟩, c.nw, c.fl, c.ow⟩, po, so.fc, so.kd, so.sk, so.fr⟩
theorem Sok.suite (so : Sok X U T W k gd sc) (a : Addr) (pn : List (Addr × Obj)) : Sok (X.suite a pn) U T W0 k { gd with cm := false } sc := by
  have c := so.co
  have no : ∀ {p : Prop}, ({ gd with cm := false } : Gd).cm = true → p := fun z => absurd (show false = true from z) Bool.false_ne_true
  exact ⟨⟨c.eK, c.em, fun z => no z, c.nd, c.eN, c.gu, fun z => no z, c.un, fun u s' ⟨_, _, _, _, _, _, _, _, _, _, _, _, _, _, _, _, w⟩ => False.elim w, c.sc, fun f h => ⟨(c.fn f h).ex⟩, c.bn, fun f ks g h => ⟨(c.kw f ks g h).ex⟩, c.ix, c.rs, c.gl, fun a b q h => ⟨(c.mt a b q h).ex⟩, fun a b q h => ⟨(c.pr a b q h).ex⟩, c.nw, c.fl, c.ow⟩, PassesOwn.never, so.fc, so.kd, so.sk, so.fr⟩
theorem Rl.clr {r : En} {σ : L2.St} {H G : Hp} (rl : Rl U r σ H G) (i : Nat) (x : Option V) : Rl U (r.set i .un) (σ.set i x) H G ∧ ∀ b, OwnAt (r.set i .un) (σ.set i x) b → OwnAt r σ b := by
  have hx : ∀ {j : Nat} {d' : D}, (r.set i .un)[j]? = some (.ow d') → j ≠ i ∧ r[j]? = some (.ow d') := fun {j d'} z => by
    rcases set_get z with ⟨_, y⟩ | ⟨ne, y⟩
    · cases y
    · exact ⟨ne, y⟩
  have hs : ∀ {j : Nat}, j ≠ i → (σ.set i x)[j]? = σ[j]? := fun ne => List.getElem?_set_ne (Ne.symm ne)
  refine ⟨⟨rl.sub, by rw [List.length_set, List.length_set]; exact rl.len, fun j s o g1 g2 => ?_, fun j l b d1 d2 ne g1 g2 g3 g4 => ?_⟩, fun b ⟨j, d', g1, g2⟩ => ⟨j, d', (hx g1).2, by rw [← hs (hx g1).1]; exact g2⟩⟩
  · rcases set_get g1 with ⟨_, rfl⟩ | ⟨ne, g1⟩
    · trivial
    · rw [hs ne] at g2
      exact rl.at_ j s o g1 g2
  · rw [hs (hx g1).1] at g3
    rw [hs (hx g2).1] at g4
    exact rl.ap j l b d1 d2 ne (hx g1).2 (hx g2).2 g3 g4
theorem Names_of (c : Cok X U T W k gd sc) {x : Str} {C : Addr} (h : glB sc x = true) (hm : X.mg x = some (.ref C)) : Names X x (.ref C) := by
  obtain ⟨gl, db, nn⟩ := c.gl_ h
  exact ⟨gl, db, .inl hm⟩
/-- the try's own reading, from the small language's -/
theorem try_rd {i : Option Nat} {b s : List MS} {c : Str} {n : Nat} {r : En} {σ : L2.St} {H G : Hp} {D : Ends} {cv : Value} {W1 : WX} (ck : Cok X U T W1 k gd sc) (hcv : X.mg c = some cv) (rl : Rl U r σ H G) (q : ContS U W lk (ex T lk (n + 1) (.tryx b c i s) r) r σ H G D) {W' : WX}
    (hW : ∀ cls d σ' H', (∃ t, PySem.W.exmOne X.K cls cv = some t ∧ (t = true → ∀ a, H' a = none → Rs U W0 lk (fun r => exs T lk n s r) { nx := fun σ' H' => D.nx (match i with | some i => σ'.set i none | none => σ') H', rt := D.rt, bk := fun σ' H' => D.bk (match i with | some i => σ'.set i none | none => σ') H', ct := fun σ' H' => D.ct (match i with | some i => σ'.set i none | none => σ') H' } (match i with | some i => σ'.set i (some (.ref a)) | none => σ') H') ∧ (t = false → W cls d σ' H')) → W' cls d σ' H') :
    Rs U W' lk (fun r => exs T lk n b r) D σ H := by
  refine ⟨r, G, rl, ?_⟩
  have q' : ContS U W lk (match exs T lk n b r with
      | .exn e r1 => if freeO lk i = true then (match T.isx e.c c with
        | some true => suiteEnd i (exs T lk n s (clr i r1))
        | some false => .exn e r1
        | none => .bad) else .bad
      | f => f) r σ H G D := q
  cases e0 : exs T lk n b r with
  | bad => rw [e0] at q'; exact False.elim q'
  | nx r1 =>
    rw [e0] at q'
    show ContS U W' lk (exs T lk n b r) r σ H G D
    rw [e0]
    exact q'
  | bk r1 =>
    rw [e0] at q'
    show ContS U W' lk (exs T lk n b r) r σ H G D
    rw [e0]
    exact q'
  | ct r1 =>
    rw [e0] at q'
    show ContS U W' lk (exs T lk n b r) r σ H G D
    rw [e0]
    exact q'
  | rt v r1 =>
    rw [e0] at q'
    show ContS U W' lk (exs T lk n b r) r σ H G D
    rw [e0]
    exact q'
  | exn ee r1 =>
    rw [e0] at q'
    show ContS U W' lk (exs T lk n b r) r σ H G D
    rw [e0]
    intro cls d σ' H' G' rl' t ex
    replace q' : ContS U W lk (if freeO lk i = true then (match T.isx ee.c c with
        | some true => suiteEnd i (exs T lk n s (clr i r1))
        | some false => .exn ee r1
        | none => .bad) else .bad) r σ H G D := q'
    split at q'
    case isFalse => exact False.elim q'
    rename_i hfree
    have ex' := ex
    obtain ⟨C, rfl, hC, _⟩ := ex'
    cases e1 : T.isx ee.c c with
    | none => rw [e1] at q'; exact False.elim q'
    | some t0 =>
      rw [e1] at q'
      obtain ⟨C1, C2, i1, i2, i3⟩ := ck.ix _ _ _ e1
      rw [ck.em] at hC
      rw [i1] at hC
      cases hC
      rw [i2] at hcv
      cases hcv
      refine hW _ _ _ _ ⟨t0, i3, fun ht a ha => ?_, fun ht => ?_⟩
      · subst ht
        replace q' : ContS U W lk (suiteEnd i (exs T lk n s (clr i r1))) r σ H G D := q'
        cases i with
        | none =>
          refine ⟨r1, G', rl', ?_⟩
          have q2 := ContS.later q' t
          have q3 : ContS U W lk (suiteEnd none (exs T lk n s r1)) r1 σ' H' G' D := q2
          cases e2 : exs T lk n s r1 with
          | bad => rw [e2] at q3; exact False.elim q3
          | exn _ _ => rw [e2] at q3; exact False.elim q3
          | nx r2 =>
            rw [e2] at q3
            show ContS U W0 lk (exs T lk n s r1) r1 σ' H' G' _
            rw [e2]
            exact q3
          | bk r2 =>
            rw [e2] at q3
            show ContS U W0 lk (exs T lk n s r1) r1 σ' H' G' _
            rw [e2]
            exact q3
          | ct r2 =>
            rw [e2] at q3
            show ContS U W0 lk (exs T lk n s r1) r1 σ' H' G' _
            rw [e2]
            exact q3
          | rt v r2 =>
            rw [e2] at q3
            show ContS U W0 lk (exs T lk n s r1) r1 σ' H' G' _
            rw [e2]
            exact q3
        | some i =>
          obtain ⟨rl2, ow2⟩ := rl'.clr i (some (.ref a))
          have ni : ¬ i ∈ lk := by
            have : (!decide (i ∈ lk)) = true := hfree
            simpa using this
          have tk : ∀ {r : En} {σ : L2.St} {H G : Hp} (x : Option V), Rl U r σ H G → TrS lk r σ H G (r.set i .un) (σ.set i x) H G := fun {r σ H G} x rl => ⟨Tr.slots (rl.clr i x).2, fun j hj => List.getElem?_set_ne fun e => ni (by rw [e]; exact hj)⟩
          refine ⟨r1.set i .un, G', rl2, ?_⟩
          have q2 := ContS.later q' (t.trans (tk (some (.ref a)) rl'))
          have q3 : ContS U W lk (suiteEnd (some i) (exs T lk n s (r1.set i .un))) (r1.set i .un) (σ'.set i (some (.ref a))) H' G' D := q2
          cases e2 : exs T lk n s (r1.set i .un) with
          | bad => rw [e2] at q3; exact False.elim q3
          | exn _ _ => rw [e2] at q3; exact False.elim q3
          | nx r2 =>
            rw [e2] at q3
            show ContS U W0 lk (exs T lk n s (r1.set i .un)) (r1.set i .un) (σ'.set i (some (.ref a))) H' G' _
            rw [e2]
            exact fun σ2 H2 G2 a1 a2 => q3 _ H2 G2 (a1.clr i none).1 (a2.trans (tk none a1))
          | bk r2 =>
            rw [e2] at q3
            show ContS U W0 lk (exs T lk n s (r1.set i .un)) (r1.set i .un) (σ'.set i (some (.ref a))) H' G' _
            rw [e2]
            exact fun σ2 H2 G2 a1 a2 => q3 _ H2 G2 (a1.clr i none).1 (a2.trans (tk none a1))
          | ct r2 =>
            rw [e2] at q3
            show ContS U W0 lk (exs T lk n s (r1.set i .un)) (r1.set i .un) (σ'.set i (some (.ref a))) H' G' _
            rw [e2]
            exact fun σ2 H2 G2 a1 a2 => q3 _ H2 G2 (a1.clr i none).1 (a2.trans (tk none a1))
          | rt v r2 =>
            rw [e2] at q3
            show ContS U W0 lk (exs T lk n s (r1.set i .un)) (r1.set i .un) (σ'.set i (some (.ref a))) H' G' _
            rw [e2]
            exact q3
      · subst ht
        exact q' _ _ _ _ _ rl' t ex
theorem st_try {n : Nat} {b s : List MS} {x : Str} {bb : List Stmt} {y : Stmt} {ys : List Stmt} {np p2 pos : Pos} (so : Sok X U T W k gd sc) (hcm : gd.cm = true) (ihA : AllS U T k lk n) (hg : glB sc x = true) (hx : gd.exs x = true) (hb : chkSs gd sc n b bb = true) (hs : chkSs { gd with cm := false } sc n s (y :: ys) = true) :
    PS X (.Try bb [.ExceptHandler (some (.Name x np)) none (y :: ys) p2] [] [] pos) (Rs U W lk (ex T lk (n + 1) (.tryx b x none s))) := by
  obtain ⟨_, _, _, _, C, _, _, hC, _⟩ := (so.co.rs _ hx).ex
  · refine ps_imp (ps_try_only (tb := fun W => Rs U W lk (fun r => exs T lk n b r)) (ts := fun _ _ _ => Rs U W0 lk (fun r => exs T lk n s r)) so.sk so.fr (Names_of so.co hg hC) so.co.tk (fun W' pn xe tk po => (ihA _ _ _ _ (so.tr tk po)).2 _ _ hb) fun a oe cls d pn _ _ => (ihA _ _ _ _ (so.suite a _)).2 _ _ hs) fun D σ H q => ?_
    obtain ⟨r, G, rl, q⟩ := q
    exact try_rd (i := none) so.co hC rl q fun cls d σ' H' h => h
theorem st_tryAs {n : Nat} {i : Nat} {b s : List MS} {x z : Str} {bb : List Stmt} {y : Stmt} {ys : List Stmt} {np p2 pos : Pos} (so : Sok X U T W k gd sc) (hcm : gd.cm = true) (ihA : AllS U T k lk n) (hg : glB sc x = true) (hx : gd.exs x = true) (hN : gd.N[i]? = some z) (hz : sc.names.lookup z = some .local) (hb : chkSs gd sc n b bb = true) (hs : chkSs { gd with cm := false } sc n s (y :: ys) = true) :
    PS X (.Try bb [.ExceptHandler (some (.Name x np)) (some z) (y :: ys) p2] [] [] pos) (Rs U W lk (ex T lk (n + 1) (.tryx b x (some i) s))) := by
  obtain ⟨_, _, _, _, C, _, _, hC, _⟩ := (so.co.rs _ hx).ex
  · refine ps_imp (ps_try_as (i := i) (tb := fun W => Rs U W lk (fun r => exs T lk n b r)) (ts := fun _ _ _ => Rs U W0 lk (fun r => exs T lk n s r)) so.sk so.fr so.co.nd (by rw [so.co.eN]; exact hN) (show X.env.scope.names.lookup z = some .local by rw [so.co.sc]; exact hz) (Names_of so.co hg hC) so.co.tk (fun W' pn xe tk po => (ihA _ _ _ _ (so.tr tk po)).2 _ _ hb) fun a oe cls d pn _ _ => (ihA _ _ _ _ (so.suite a _)).2 _ _ hs) fun D σ H q => ?_
    obtain ⟨r, G, rl, q⟩ := q
    exact try_rd (i := some i) so.co hC rl q fun cls d σ' H' h => h
theorem hd_inv {c : Str} {i : Option Nat} {h : ExceptHandler} (q : hdB gd sc c i h = true) : glB sc c = true ∧ gd.exs c = true ∧ ∃ np y ys pos, (i = none ∧ h = .ExceptHandler (some (.Name c np)) none (y :: ys) pos) ∨ (∃ j z, i = some j ∧ gd.N[j]? = some z ∧ sc.names.lookup z = some .local ∧ h = .ExceptHandler (some (.Name c np)) (some z) (y :: ys) pos) := by
  unfold hdB at q
  split at q
  · simp only [Bool.and_eq_true, decide_eq_true_eq] at q
    obtain ⟨⟨⟨rfl, rfl⟩, q3⟩, q4⟩ := q
    exact ⟨q3, q4, _, _, _, _, .inl ⟨rfl, rfl⟩⟩
  · simp only [Bool.and_eq_true, decide_eq_true_eq] at q
    obtain ⟨⟨⟨rfl, q3⟩, q4⟩, q5⟩ := q
    split at q5
    · simp only [Bool.and_eq_true, decide_eq_true_eq] at q5
      exact ⟨q3, q4, _, _, _, _, .inr ⟨_, _, rfl, q5.1, q5.2, rfl⟩⟩
    · cases q5
  · cases q
theorem exs_one {n : Nat} {s : MS} {r : En} : exs T lk (n + 2) [s] r = ex T lk (n + 1) s r := by
  show (match ex T lk (n + 1) s r with
      | .nx r1 => exs T lk (n + 1) [] r1
      | f => f) = _
  cases ex T lk (n + 1) s r <;> rfl
theorem hd_ok {c : Str} {i : Option Nat} {h : ExceptHandler} {n : Nat} {s : List MS} {W' : WX} (so : Sok X U T W k gd sc) (ihA : AllS U T k lk n) (q : hdB gd sc c i h = true) (hs : chkSs { gd with cm := false } sc n s (hdSuite h) = true) : ∃ C : Addr, X.mg c = some (.ref C) ∧
    ∀ hds l, HdsA X hds l → HdsA X (h :: hds) ((.ref C, i, fun _ _ _ => Rs U W0 lk (fun r => exs T lk n s r)) :: l) := by
  obtain ⟨hg, hx, np, y, ys, pos, ⟨rfl, rfl⟩ | ⟨j, z, rfl, h1, h2, rfl⟩⟩ := hd_inv q
  · obtain ⟨_, _, _, _, C, _, _, hC, _⟩ := (so.co.rs _ hx).ex
    exact ⟨C, hC, fun hds l r => .cons (Names_of so.co hg hC) (fun a oe cls d pn _ _ => (ihA _ _ _ _ (so.suite a _)).2 _ _ hs) r⟩
  · obtain ⟨_, _, _, _, C, _, _, hC, _⟩ := (so.co.rs _ hx).ex
    exact ⟨C, hC, fun hds l r => .consA (by rw [so.co.eN]; exact h1) (show X.env.scope.names.lookup z = some .local by rw [so.co.sc]; exact h2) (Names_of so.co hg hC) (fun a oe cls d pn _ _ => (ihA _ _ _ _ (so.suite a _)).2 _ _ hs) r⟩
theorem st_try2 {p : Nat} {b s1 s2 : List MS} {c1 c2 : Str} {i1 i2 : Option Nat} {bb : List Stmt} {h1 h2 : ExceptHandler} {pos : Pos} (so : Sok X U T W k gd sc) (ih1 : AllS U T k lk p) (ih2 : AllS U T k lk (p + 2)) (q1 : hdB gd sc c1 i1 h1 = true) (q2 : hdB gd sc c2 i2 h2 = true) (hb : chkSs gd sc p b bb = true) (hs1 : chkSs { gd with cm := false } sc p s1 (hdSuite h1) = true) (hs2 : chkSs { gd with cm := false } sc (p + 2) s2 (hdSuite h2) = true) :
    PS X (.Try bb [h1, h2] [] [] pos) (Rs U W lk (ex T lk (p + 3) (.tryx [.tryx b c1 i1 s1] c2 i2 s2))) := by
  obtain ⟨C1, m1, k1⟩ := hd_ok (W' := W) so ih1 q1 hs1
  obtain ⟨C2, m2, k2⟩ := hd_ok (W' := W) so ih2 q2 hs2
  refine ps_imp (ps_try_manyA (tb := fun W => Rs U W lk (fun r => exs T lk p b r)) so.sk so.fr so.co.nd so.co.tk (fun W' pn xe tk po => (ih1 _ _ _ _ (so.tr tk po)).2 _ _ hb) (k1 _ _ (k2 _ _ .nil))) fun D σ H q => ?_
  obtain ⟨r, G, rl, q⟩ := q
  have a1 := try_rd so.co m2 rl q (W' := wManyA X.K W D [(.ref C2, i2, fun _ _ _ => Rs U W0 lk (fun r => exs T lk (p + 2) s2 r))]) fun cls d σ' H' h => h
  obtain ⟨r, G, rl, q⟩ := a1
  simp only [exs_one] at q
  exact try_rd so.co m1 rl q fun cls d σ' H' h => h
theorem st_one {n : Nat} (so : Sok X U T W k gd sc) (hA : AllE U T k gd n) (ihA : AllS U T k lk n) (ihL : ∀ m, m ≤ n → AllS U T k lk m) (s : MS) (st : Stmt) (h : chkS gd sc (n + 1) s st = true) : PS X st (Rs U W lk (ex T lk (n + 1) s)) := by
  have c := so.co
  have ih := ihA X W gd sc so
  have hS := hA X W sc c
  have hV : ∀ m e, chkE gd n sc m e = true → PE X e (Rg U W (relV U) (ev T n m)) := fun m e q => (hS m e q).v
  have hF : ∀ m e, chkE gd n sc m e = true → PE X e (Rg U W (relF U) (evF (ev T n) m)) := fun m e q => snd_F (hV m e q)
  unfold chkS at h
  split at h
  · simp only [Bool.and_eq_true] at h
    exact st_setAll so hA h.1.1 h.1.2 h.2
  · simp only [Bool.and_eq_true] at h
    obtain ⟨⟨⟨⟨hcm, h1⟩, h2⟩, h3⟩, h4⟩ := h
    have hg := snd_tgP c.nd c.eN c.sc (c.calm hcm) (fun _ => so.fc) h1
    refine st_sett c.eK (ps_asg (hF _ _ h4) hg (sw_sole h2) (ss_nok c.sc h3) ?_) fun σ H Q q => q
    rfl
  · simp only [Bool.and_eq_true, Bool.not_eq_true', decide_eq_true_eq] at h
    obtain ⟨⟨⟨⟨⟨⟨⟨⟨⟨⟨⟨⟨⟨hcm, h1⟩, h2⟩, h3⟩, h4⟩, h5⟩, h6⟩, h7⟩, h8⟩, h9⟩, h10⟩, h11⟩, h12⟩, h13⟩ := h
    have kd : X.env.scope.kind = .function := by rw [c.sc]; exact so.kd
    have l1 := h5
    have l2 := h6
    rw [← c.sc] at l1 l2
    exact st_par (ps_par (c.calm hcm) c.nd (by rw [c.eN]; exact h1) (by rw [c.eN]; exact h2) h3 l1 l2 (pa_cons (hV _ _ h12) (pa_cons (hV _ _ h13) pa_nil (star_cons _ h9)) (star_cons _ h8)) (ss_two kd l1 l2 h7 h4 h8 h9 h10 h11))
  · simp only [Bool.and_eq_true] at h
    exact st_expr (ps_expr (hV _ _ h.2) (sw_no h.1)) fun σ H Q q => q
  · exact st_ret c hS h
  · cases n with
    | zero =>
      refine ps_imp ps_never fun D σ H q => ?_
      obtain ⟨r, G, rl, q⟩ := q
      exact q
    | succ n => exact st_retN
  · simp only [Bool.and_eq_true] at h
    exact st_if ((hS _ _ h.1.1.2).b h.1.1.1) (ih.2 _ _ h.1.2) (ih.2 _ _ h.2)
  · simp only [Bool.and_eq_true] at h
    exact st_for so h.1.1.1 (snd_it c hV h.1.2) (snd_tgP c.nd c.eN c.sc (c.calm h.1.1.1) (fun _ => so.fc) h.1.1.2) (ih.2 _ _ h.2) fun z => it_noset h.1.2
  · simp only [Bool.and_eq_true] at h
    exact st_while so ((hS _ _ h.1.2).b h.1.1) (ih.2 _ _ h.2)
  · simp only [Bool.and_eq_true, decide_eq_true_eq] at h
    obtain ⟨⟨⟨⟨⟨rfl, h2⟩, h3⟩, h4⟩, h5⟩, h6⟩ := h
    exact st_app c h2 h3 h4 h5 (hF _ _ h6)
  · simp only [Bool.and_eq_true, decide_eq_true_eq] at h
    obtain ⟨⟨⟨⟨⟨⟨h1, h2⟩, h3⟩, h4⟩, h5⟩, h6⟩, h7⟩ := h
    exact st_seti c h1 h2 h3 h4 h5 (hF _ _ h7) (hF _ _ h6)
  · simp only [Bool.and_eq_true, decide_eq_true_eq] at h
    obtain ⟨⟨⟨⟨rfl, h2⟩, h3⟩, h4⟩, h5⟩ := h
    exact st_setf c h2 h3 h4 (hF _ _ h5)
  · refine ps_imp ps_pass fun D σ H q => ?_
    obtain ⟨r, G, rl, q⟩ := q
    exact q σ H G rl .refl
  · refine ps_imp ps_doc fun D σ H q => ?_
    obtain ⟨r, G, rl, q⟩ := q
    exact q σ H G rl .refl
  · refine ps_imp ps_break fun D σ H q => ?_
    obtain ⟨r, G, rl, q⟩ := q
    exact q σ H G rl .refl
  · refine ps_imp ps_continue fun D σ H q => ?_
    obtain ⟨r, G, rl, q⟩ := q
    exact q σ H G rl .refl
  · refine ps_imp ps_never fun D σ H q => ?_
    obtain ⟨r, G, rl, q⟩ := q
    exact q
  · simp only [Bool.and_eq_true, decide_eq_true_eq] at h
    obtain ⟨⟨⟨hcm, rfl⟩, h2⟩, h3⟩ := h
    obtain ⟨B, newId, initId, bm, C, f1, f2, f3, f4, f5, f6⟩ := (c.rs _ h3).ex
    obtain ⟨gl, db, nn⟩ := c.gl_ h2
    refine ps_imp (ps_raise (c.calm hcm) c.tk (pmk_own f1 f2 f3 f4 (raises_own f5 f6) gl db)) fun D σ H q => ?_
    obtain ⟨r, G, rl, q⟩ := q
    exact q (.ref C) none σ H G rl .refl ⟨C, rfl, by rw [c.em]; exact f3, .inl ⟨rfl, rfl⟩⟩
  · simp only [Bool.and_eq_true, decide_eq_true_eq] at h
    obtain ⟨⟨⟨⟨⟨hcm, rfl⟩, h2⟩, hx⟩, h3⟩, h4⟩ := h
    exact st_try so hcm ihA h2 hx h3 h4
  · simp only [Bool.and_eq_true, decide_eq_true_eq] at h
    obtain ⟨⟨⟨⟨⟨⟨⟨hcm, rfl⟩, h2⟩, hx⟩, h5⟩, h6⟩, h3⟩, h4⟩ := h
    exact st_tryAs so hcm ihA h2 hx h5 h6 h3 h4
  · split at h
    · rename_i p
      simp only [Bool.and_eq_true] at h
      obtain ⟨⟨⟨⟨⟨hcm, q1⟩, q2⟩, h3⟩, h4⟩, h5⟩ := h
      exact st_try2 so (ihL p (by omega)) (ihL (p + 2) (by omega)) q1 q2 h3 h4 h5
    · cases h
  · cases h
theorem snd_SL : ∀ n m : Nat, m ≤ n → AllS U T k lk m
  | 0, m, h => fun X W gd sc so => by
    have : m = 0 := by omega
    subst this
    exact ⟨fun s st h => (by cases h), fun ss sts h => (by cases h)⟩
  | n + 1, m, h => fun X W gd sc so => by
    rcases Nat.lt_or_ge m (n + 1) with l | l
    · exact snd_SL n m (by omega) X W gd sc so
    have : m = n + 1 := by omega
    subst this
    have ihL := snd_SL n
    have ihA : AllS U T k lk n := ihL n (Nat.le_refl _)
    have ih := ihA X W gd sc so
    refine ⟨st_one so (snd_all n) ihA ihL, fun ss sts h => ?_⟩
    unfold chkSs at h
    split at h
    · exact ss_nil
    · rw [Bool.and_eq_true] at h
      exact ss_cons (ih.1 _ _ h.1) (ih.2 _ _ h.2)
    · cases h
theorem snd_S (n : Nat) : AllS U T k lk n := snd_SL n n (Nat.le_refl _)
end
end Mp

set_option Elab.async false
set_option linter.all false
set_option maxRecDepth 100000
set_option maxHeartbeats 8000000
/-! Mp, part 23: defs. -/
namespace Mp
open PySem PySem.Spec PyProof.Rows L2

def lkF (k : Nat) (md : List Bool) : List Nat := ((md.zipIdx k).filter (·.1)).map (·.2)
theorem lkF_t (k : Nat) (md : List Bool) : lkF k (true :: md) = k :: lkF (k + 1) md := rfl
theorem lkF_f (k : Nat) (md : List Bool) : lkF k (false :: md) = lkF (k + 1) md := rfl
theorem argE_t {md : List Bool} {ds : List D} {d : D} : argE (true :: md) (d :: ds) = .ow d :: argE md ds := rfl
theorem argE_f {md : List Bool} {ds : List D} {d : D} : argE (false :: md) (d :: ds) = .fz d :: argE md ds := rfl
theorem argE_ow_lk : ∀ {md : List Bool} {ds : List D} {k j : Nat} {d : D}, (argE md ds)[j]? = some (.ow d) → k + j ∈ lkF k md
  | [], _, _, _, _, h => by simp [argE] at h
  | _ :: _, [], _, _, _, h => by simp [argE] at h
  | true :: md, d0 :: ds, k, 0, d, h => by
    rw [lkF_t]
    exact List.mem_cons_self
  | true :: md, d0 :: ds, k, j + 1, d, h => by
    rw [lkF_t]
    have := argE_ow_lk (md := md) (ds := ds) (k := k + 1) (j := j) (d := d) (by rw [argE_t] at h; simpa using h)
    have e : k + 1 + j = k + (j + 1) := by omega
    rw [e] at this
    exact List.mem_cons_of_mem _ this
  | false :: md, d0 :: ds, k, 0, d, h => by rw [argE_f] at h; simp at h
  | false :: md, d0 :: ds, k, j + 1, d, h => by
    rw [lkF_f]
    have := argE_ow_lk (md := md) (ds := ds) (k := k + 1) (j := j) (d := d) (by rw [argE_f] at h; simpa using h)
    have e : k + 1 + j = k + (j + 1) := by omega
    rw [e] at this
    exact this
theorem outs_cons {r : En} {i : Nat} {is : List Nat} {os : List D} (h : outsOf r (i :: is) = some os) : ∃ d ds, os = d :: ds ∧ r[i]? = some (.ow d) ∧ outsOf r is = some ds := by
  have h' : (match r[i]?, outsOf r is with
    | some (.ow d), some ds => some (d :: ds)
    | _, _ => none) = some os := h
  cases e : r[i]? with
  | none => rw [e] at h'; cases h'
  | some s =>
    rw [e] at h'
    cases s <;> first | (cases h'; done) | skip
    cases e2 : outsOf r is with
    | none => rw [e2] at h'; cases h'
    | some ds =>
      rw [e2] at h'
      cases h'
      exact ⟨_, ds, rfl, rfl, rfl⟩
theorem outs_len {r : En} : ∀ {is : List Nat} {os : List D}, outsOf r is = some os → os.length = is.length
  | [], _, h => by cases h; rfl
  | i :: is, os, h => by
    obtain ⟨d, ds, rfl, _, h2⟩ := outs_cons h
    exact congrArg (· + 1) (outs_len h2)
theorem lkF_len : ∀ (md : List Bool) (k : Nat), (lkF k md).length = nref md
  | [], _ => rfl
  | true :: md, k => by
    rw [lkF_t]
    exact congrArg (· + 1) (lkF_len md (k + 1))
  | false :: md, k => by
    rw [lkF_f]
    exact lkF_len md (k + 1)
theorem outs_get {r : En} : ∀ {md : List Bool} {ds os : List D} {k j : Nat} {d : D}, outsOf r (lkF k md) = some os → (argE md (newD md ds os))[j]? = some (.ow d) → r[k + j]? = some (.ow d)
  | [], _, _, _, _, _, _, h => by simp [argE] at h
  | true :: md, [], os, k, j, d, _, h => by
    have : newD (true :: md) [] os = [] := by cases os <;> rfl
    rw [this] at h
    simp [argE] at h
  | false :: md, [], os, k, j, d, _, h => by
    have : newD (false :: md) [] os = [] := by cases os <;> rfl
    rw [this] at h
    simp [argE] at h
  | true :: md, d0 :: ds, os, k, j, d, ho, h => by
    rw [lkF_t] at ho
    obtain ⟨d1, os1, rfl, h1, h2⟩ := outs_cons ho
    have e : newD (true :: md) (d0 :: ds) (d1 :: os1) = d1 :: newD md ds os1 := rfl
    rw [e, argE_t] at h
    cases j with
    | zero =>
      simp at h
      subst h
      exact h1
    | succ j =>
      have := outs_get (md := md) (ds := ds) (k := k + 1) (j := j) h2 (by simpa using h)
      have e : k + 1 + j = k + (j + 1) := by omega
      rw [e] at this
      exact this
  | false :: md, d0 :: ds, os, k, j, d, ho, h => by
    rw [lkF_f] at ho
    have e : newD (false :: md) (d0 :: ds) os = d0 :: newD md ds os := by cases os <;> rfl
    rw [e, argE_f] at h
    cases j with
    | zero => simp at h
    | succ j =>
      have := outs_get (md := md) (ds := ds) (k := k + 1) (j := j) ho (by simpa using h)
      have e : k + 1 + j = k + (j + 1) := by omega
      rw [e] at this
      exact this
/-- the other parameters are what they were -/
theorem newD_fz : ∀ {md : List Bool} {ds os : List D} {j : Nat} {d : D}, (argE md (newD md ds os))[j]? = some (.fz d) → (argE md ds)[j]? = some (.fz d)
  | [], _, _, _, _, h => by simp [argE] at h
  | true :: md, [], os, j, d, h => by
    have : newD (true :: md) [] os = [] := by cases os <;> rfl
    rw [this] at h
    simp [argE] at h
  | false :: md, [], os, j, d, h => by
    have : newD (false :: md) [] os = [] := by cases os <;> rfl
    rw [this] at h
    simp [argE] at h
  | true :: md, d0 :: ds, [], j, d, h => by
    have : newD (true :: md) (d0 :: ds) [] = [] := rfl
    rw [this] at h
    simp [argE] at h
  | true :: md, d0 :: ds, o :: os, j, d, h => by
    have e : newD (true :: md) (d0 :: ds) (o :: os) = o :: newD md ds os := rfl
    rw [e, argE_t] at h
    rw [argE_t]
    cases j with
    | zero => simp at h
    | succ j => simpa using newD_fz (md := md) (ds := ds) (os := os) (j := j) (d := d) (by simpa using h)
  | false :: md, d0 :: ds, os, j, d, h => by
    have e : newD (false :: md) (d0 :: ds) os = d0 :: newD md ds os := by cases os <;> rfl
    rw [e, argE_f] at h
    rw [argE_f]
    cases j with
    | zero => simpa using h
    | succ j => simpa using newD_fz (md := md) (ds := ds) (os := os) (j := j) (d := d) (by simpa using h)
theorem newD_len : ∀ {md : List Bool} {ds os : List D}, ds.length = md.length → os.length = nref md → (newD md ds os).length = md.length
  | [], _, _, _, _ => by simp [newD]
  | true :: md, [], os, h, _ => by simp at h
  | false :: md, [], os, h, _ => by simp at h
  | true :: md, d0 :: ds, [], h, h2 => by simp [nref] at h2
  | true :: md, d0 :: ds, o :: os, h, h2 => by
    have e : newD (true :: md) (d0 :: ds) (o :: os) = o :: newD md ds os := rfl
    rw [e]
    exact congrArg (· + 1) (newD_len (md := md) (ds := ds) (os := os) (by simpa using h) (by simpa [nref] using h2))
  | false :: md, d0 :: ds, os, h, h2 => by
    have e : newD (false :: md) (d0 :: ds) os = d0 :: newD md ds os := by cases os <;> rfl
    rw [e]
    exact congrArg (· + 1) (newD_len (md := md) (ds := ds) (os := os) (by simpa using h) (by simpa [nref] using h2))
theorem argE_un {md : List Bool} : ∀ {ds : List D} {j : Nat}, (argE md ds)[j]? ≠ some .un := by
  induction md with
  | nil => intro ds j h; simp [argE] at h
  | cons b md ih =>
    intro ds j h
    cases ds with
    | nil => simp [argE] at h
    | cons d ds =>
      cases b with
      | true =>
        rw [argE_t] at h
        cases j with
        | zero => simp at h
        | succ j => exact ih (by simpa using h)
      | false =>
        rw [argE_f] at h
        cases j with
        | zero => simp at h
        | succ j => exact ih (by simpa using h)
theorem entry_eq {md : List Bool} {n : Nat} {ds : List D} : entry md n ds = argE md ds ++ List.replicate (n - ds.length) .un := by
  unfold entry argE
  rw [List.zip, List.map_zipWith]
section
variable {U : Wd} {r : En} {σ : L2.St} {H G : Hp} {n m : Nat}
theorem get_app {α : Type} {xs : List α} {x s : α} {i n : Nat} (h : (xs ++ List.replicate n x)[i]? = some s) : xs[i]? = some s ∨ (xs.length ≤ i ∧ s = x) := by
  by_cases l : i < xs.length
  · rw [List.getElem?_append_left l] at h
    exact .inl h
  · rw [List.getElem?_append_right (by omega), List.getElem?_replicate] at h
    split at h
    · cases h
      exact .inr ⟨by omega, rfl⟩
    · cases h
theorem own_app (hl : r.length = σ.length) {a : Addr} : OwnAt (r ++ List.replicate n .un) (σ ++ List.replicate n none) a ↔ OwnAt r σ a := by
  constructor
  · rintro ⟨i, d, h1, h2⟩
    rcases get_app h1 with h1 | ⟨_, z⟩
    · rcases get_app h2 with h2 | ⟨_, z⟩
      · exact ⟨i, d, h1, h2⟩
      · cases z
    · cases z
  · rintro ⟨i, d, h1, h2⟩
    refine ⟨i, d, ?_, ?_⟩
    · rw [List.getElem?_append_left (List.getElem?_eq_some_iff.mp h1).1]
      exact h1
    · rw [List.getElem?_append_left (List.getElem?_eq_some_iff.mp h2).1]
      exact h2
theorem Rl.app (rl : Rl U r σ H G) : Rl U (r ++ List.replicate n .un) (σ ++ List.replicate n none) H G := by
  refine ⟨rl.sub, by rw [List.length_append, List.length_append, List.length_replicate, List.length_replicate, rl.len], fun i s o h1 h2 => ?_, fun i j a d e ne h1 h2 h3 h4 => ?_⟩
  · rcases get_app h1 with h1 | ⟨_, rfl⟩
    · have l := (List.getElem?_eq_some_iff.mp h1).1
      rw [List.getElem?_append_left (by rw [← rl.len]; exact l)] at h2
      exact rl.at_ i s o h1 h2
    · trivial
  · rcases get_app h1 with h1 | ⟨_, z⟩
    · rcases get_app h2 with h2 | ⟨_, z⟩
      · have l1 := (List.getElem?_eq_some_iff.mp h1).1
        have l2 := (List.getElem?_eq_some_iff.mp h2).1
        rw [List.getElem?_append_left (by rw [← rl.len]; exact l1)] at h3
        rw [List.getElem?_append_left (by rw [← rl.len]; exact l2)] at h4
        exact rl.ap i j a d e ne h1 h2 h3 h4
      · cases z
    · cases z
theorem outs_mem {r : En} : ∀ {is : List Nat} {os : List D} {i : Nat}, outsOf r is = some os → i ∈ is → ∃ d, r[i]? = some (.ow d)
  | [], _, _, _, h => by simp at h
  | j :: is, os, i, h, m => by
    obtain ⟨d, ds, rfl, h1, h2⟩ := outs_cons h
    rcases List.mem_cons.mp m with e | m
    · subst e
      exact ⟨d, h1⟩
    · exact outs_mem h2 m
theorem fin_def {md : List Bool} {N : List Str} {vs : List V} {ds os : List D} {H' G' : Hp} {σ' : L2.St} (l1 : vs.length = md.length) (l2 : ds.length = md.length) (rl0 : Rl U (argE md ds) (vs.map some) H G)
    (rl : Rl U r σ' H' G') (t : TrS (lkF 0 md) (entry md N.length ds) (L2.start N vs) H G r σ' H' G') (ho : outsOf r (lkF 0 md) = some os) :
    Rl U (argE md (newD md ds os)) (vs.map some) H' G' ∧ Tr (argE md ds) (vs.map some) H G (argE md (newD md ds os)) (vs.map some) H' G' ∧ (∀ a, OwnAt (argE md (newD md ds os)) (vs.map some) a → OwnAt r σ' a) ∧ ∀ a, OwnAt (entry md N.length ds) (L2.start N vs) a → OwnAt r σ' a := by
  have e1 : entry md N.length ds = argE md ds ++ List.replicate (N.length - ds.length) .un := entry_eq
  have e2 : L2.start N vs = vs.map some ++ List.replicate (N.length - ds.length) none := by
    unfold L2.start
    rw [l1, l2]
  have lo := outs_len ho
  rw [lkF_len] at lo
  have ln := newD_len (md := md) (ds := ds) (os := os) l2 lo
  have lr : (argE md ds).length = (vs.map some).length := rl0.len
  -- an owned parameter's slot at the end
  have key : ∀ {j : Nat} {o : Option V}, j ∈ lkF 0 md → (vs.map some)[j]? = some o → σ'[j]? = some o := fun {j o} m h => by
    rw [t.k j m, e2, List.getElem?_append_left (List.getElem?_eq_some_iff.mp h).1]
    exact h
  have own1 : ∀ a, OwnAt (argE md (newD md ds os)) (vs.map some) a → OwnAt r σ' a := fun a ⟨j, d, h1, h2⟩ => by
    have m := argE_ow_lk (k := 0) h1
    rw [Nat.zero_add] at m
    have g := outs_get ho h1
    rw [Nat.zero_add] at g
    exact ⟨j, d, g, key m h2⟩
  have own2 : ∀ a, OwnAt (argE md ds) (vs.map some) a → OwnAt r σ' a := fun a ⟨j, d, h1, h2⟩ => by
    have m := argE_ow_lk (k := 0) h1
    rw [Nat.zero_add] at m
    obtain ⟨d', g⟩ := outs_mem ho m
    exact ⟨j, d', g, key m h2⟩
  have own0 : ∀ a, OwnAt (entry md N.length ds) (L2.start N vs) a → OwnAt (argE md ds) (vs.map some) a := fun a z => by
    rw [e1, e2] at z
    exact (own_app lr).mp z
  have own0' : ∀ a, OwnAt (argE md ds) (vs.map some) a → OwnAt (entry md N.length ds) (L2.start N vs) a := fun a z => by
    rw [e1, e2]
    exact (own_app lr).mpr z
  refine ⟨⟨rl.sub, by rw [argE_len ln, List.length_map, l1], fun i s o h1 h2 => ?_, fun i j a d e ne h1 h2 h3 h4 => ?_⟩, ⟨t.t.g, fun b o e no => t.t.h b o e fun z => no (own0 b z), t.t.t, fun b z => ?_, fun b o e => ?_⟩, own1, fun a z => own2 a (own0 a z)⟩
  · cases s with
    | un => trivial
    | fz d =>
      obtain ⟨v, e, rp⟩ := rl0.at_ i _ o (newD_fz h1) h2
      exact ⟨v, e, rp.mono t.t.g⟩
    | ow d =>
      have m := argE_ow_lk (k := 0) h1
      rw [Nat.zero_add] at m
      have g := outs_get ho h1
      rw [Nat.zero_add] at g
      exact rl.at_ i _ o g (key m h2)
  · have m := argE_ow_lk (k := 0) h1
    rw [Nat.zero_add] at m
    have g := outs_get ho h1
    rw [Nat.zero_add] at g
    have m' := argE_ow_lk (k := 0) h2
    rw [Nat.zero_add] at m'
    have g' := outs_get ho h2
    rw [Nat.zero_add] at g'
    exact rl.ap i j a d e ne g g' (key m h3) (key m' h4)
  · rcases t.t.o b (own1 b z) with w | w
    · exact .inl (own0 b w)
    · exact .inr w
  · rcases t.t.f b o e with z | z | z
    · exact .inl z
    · exact .inr (.inl z)
    · exact .inr (.inr (own0 b z))
end
/-- A DEF'S BODY: what the small language says is what it does -/
structure DefOk (K : Fg) (mg : Mg) (gd : Gd) (x : Str) (f : Fn) (st : Stmt) : Prop where
  chk : chkSs gd (defScope st) fuel f.body (defBody st) = true
  scope : FnScope gd.N (gd.N.take f.md.length) (defScope st)
  n : f.n = gd.N.length
  len : f.md.length ≤ gd.N.length
  bn : ∀ x ∈ gd.bn, mg x = none
  rs : ∀ x, gd.exs x = true → RaiseOk K mg x
  ow : ∀ c, gd.own c = true → OwnK K mg c
structure Facts (P : Program) (w : World) (K : Fg) (mg : Mg) (base : Heap) (U : Wd) (T : Tbl) (k : Nat) (fns : Str → Bool) : Prop where
  eK : U.K = K
  em : U.mg = mg
  fn : ∀ f, fns f = true → ∃ (a : Addr) (fd : FuncData) (ps : List Str), mg f = some (.ref a) ∧ PySem.W.keepIn K (.ref a) = true ∧ Binds K fd ps [] ∧ ps.length = (T.md f).length ∧ FnG P w K mg base k a fd ps (spT U (T.md f) (T.sem f))
  kw : ∀ f ks g, T.kw f ks = some g → ∃ (a : Addr) (fd : FuncData) (ps : List Str) (g' : List Value → List Value → List Value) (gV : List V → List V → List V), mg f = some (.ref a) ∧ PySem.W.keepIn K (.ref a) = true ∧ KBn K fd ps 0 ks g' gV ∧ (∀ (G : Hp) (zs : List V) (ds : List D), zs.length = ks.length → Reps U G zs ds → Reps U G (gV [] zs) (g ds)) ∧ FnG P w K mg base k a fd ps (spT U (T.md f) (T.sem f))
  ix : ∀ c1 c2 b, T.isx c1 c2 = some b → ∃ C1 C2, mg c1 = some (.ref C1) ∧ mg c2 = some (.ref C2) ∧ PySem.W.exmOne K (.ref C1) (.ref C2) = some b
  gl : ∀ x d, T.gl x = some d → ∃ u v, mg x = some u ∧ RelV v u ∧ ∀ G, Rep U G v d
  mt : ∀ c m q, T.ct.mt c m = some q → ∃ (C a : Addr) (fd : FuncData) (ps : List Str), mg c = some (.ref C) ∧ Meth K C m a ∧ Binds K fd ps [] ∧ ps.length = (T.md q).length ∧ FnG P w K mg base k a fd ps (spT U (T.md q) (T.sem q))
  pr : ∀ c m q, T.ct.pr c m = some q → ∃ (C p a : Addr) (fd : FuncData) (ps : List Str), mg c = some (.ref C) ∧ PropOf K C m p a ∧ Binds K fd ps [] ∧ ps.length = (T.md q).length ∧ FnG P w K mg base k a fd ps (spT U (T.md q) (T.sem q))
  nw : ∀ c, T.ct.nw c = true → ∃ C, CO U c C [] ∧ PySem.W.makesIn K C = true ∧ PySem.W.keepIn K (.ref C) = true
  fl : ∀ c f C, T.ct.fld c f = true → mg c = some (.ref C) → NoAttr K C f
theorem def_ok {P : Program} {w : World} {K : Fg} {mg : Mg} {base : Heap} {U : Wd} {T : Tbl} {k : Nat} {gd : Gd} {x qual : Str} {st : Stmt} {a : Addr} {fd : FuncData} {f : Fn} (F : L2.Fun K x qual st a fd) (d : DefOk K mg gd x f st) (fa : Facts P w K mg base U T k gd.fns) :
    FnG P w K mg base (k + 2) a fd (gd.N.take f.md.length) (spT U f.md (runFn T f)) := by
  have lp : (gd.N.take f.md.length).length = f.md.length := by
    rw [List.length_take]
    have := d.len
    omega
  refine fng_of F d.scope (fun vs H Q E ⟨G, ds, h1, _⟩ => by rw [h1, lp]) fun cdv A outer s H vs Q E hg hr hsp => ?_
  obtain ⟨G, ds, l1, l2, rl0, hm⟩ := hsp
  have so : Sok (cxOf (L2.CX P w) P w K mg base gd.N qual (defScope st) a cdv A outer s H E) U T (fun cls d _ H => E cls d H) k gd (defScope st) := by
    refine ⟨⟨fa.eK, fa.em, fun _ => rfl, d.scope.nd, rfl, hg, fun _ => hr, by have := hr.un; show (A.deeper (envOfC qual (defScope st) s.heap.objs.size a cdv)).units + 200 < cLine; omega, ?_, rfl, fun f h => ⟨fa.fn f h⟩, d.bn, fun f ks g h => ⟨fa.kw f ks g h⟩, fa.ix, d.rs, fa.gl, fun c m q h => ⟨fa.mt c m q h⟩, fun c m q h => ⟨fa.pr c m q h⟩, fa.nw, fa.fl, d.ow⟩, ?_, fun _ _ => rfl, d.scope.kind, rfl, rfl⟩
    · exact takes_of (X := cxOf (L2.CX P w) P w K mg base gd.N qual (defScope st) a cdv A outer s H E) rfl rfl rfl rfl
    · exact passes_of (X := cxOf (L2.CX P w) P w K mg base gd.N qual (defScope st) a cdv A outer s H E) rfl
  refine ⟨_, (snd_S (lk := lkOf f.md) fuel _ _ _ _ so).2 _ _ d.chk, entry f.md f.n ds, G, ?_, ?_⟩
  · rw [d.n, entry_eq]
    have e2 : L2.start gd.N vs = vs.map some ++ List.replicate (gd.N.length - ds.length) none := by
      unfold L2.start
      rw [l1, l2]
    rw [e2]
    exact rl0.app
  · rw [d.n]
    have e0 : runFn T f ds = finish (lkOf f.md) (exs T (lkOf f.md) fuel f.body (entry f.md gd.N.length ds)) := by
      unfold runFn
      rw [d.n, if_pos ⟨l2, d.len⟩]
    rw [e0] at hm
    cases e : exs T (lkOf f.md) fuel f.body (entry f.md gd.N.length ds) with
    | bad => rw [e] at hm; exact False.elim hm
    | bk r' => rw [e] at hm; exact False.elim hm
    | ct r' => rw [e] at hm; exact False.elim hm
    | nx r' =>
      rw [e] at hm
      intro σ' H' G' rl t
      replace hm : match (match outsOf r' (lkF 0 f.md) with | some os => RC.ok (.fz .non) os | none => .bad) with
        | .bad => False
        | .exn e os => os.length = nref f.md ∧ ∀ cls d H' G', Rl U (argE f.md (newD f.md ds os)) (vs.map some) H' G' → Tr (argE f.md ds) (vs.map some) H G (argE f.md (newD f.md ds os)) (vs.map some) H' G' → ExR U H' G' cls d e → E cls d H'
        | .ok v os => os.length = nref f.md ∧ ∀ x H' G', Rl U (argE f.md (newD f.md ds os)) (vs.map some) H' G' → Tr (argE f.md ds) (vs.map some) H G (argE f.md (newD f.md ds os)) (vs.map some) H' G' →
            relV U v (argE f.md (newD f.md ds os)) (vs.map some) H G' H' x → Q x H' := hm
      cases eo : outsOf r' (lkF 0 f.md) with
      | none => rw [eo] at hm; exact False.elim hm
      | some os =>
        rw [eo] at hm
        obtain ⟨a1, a2, a3, a4⟩ := fin_def (N := gd.N) l1 l2 rl0 rl t eo
        exact hm.2 .non H' G' a1 a2 .non
    | rt v r' =>
      rw [e] at hm
      intro x σ' H' G' rl t rx
      replace hm : match (match outsOf r' (lkF 0 f.md) with | some os => RC.ok v os | none => .bad) with
        | .bad => False
        | .exn e os => os.length = nref f.md ∧ ∀ cls d H' G', Rl U (argE f.md (newD f.md ds os)) (vs.map some) H' G' → Tr (argE f.md ds) (vs.map some) H G (argE f.md (newD f.md ds os)) (vs.map some) H' G' → ExR U H' G' cls d e → E cls d H'
        | .ok v os => os.length = nref f.md ∧ ∀ x H' G', Rl U (argE f.md (newD f.md ds os)) (vs.map some) H' G' → Tr (argE f.md ds) (vs.map some) H G (argE f.md (newD f.md ds os)) (vs.map some) H' G' →
            relV U v (argE f.md (newD f.md ds os)) (vs.map some) H G' H' x → Q x H' := hm
      cases eo : outsOf r' (lkF 0 f.md) with
      | none => rw [eo] at hm; exact False.elim hm
      | some os =>
        rw [eo] at hm
        obtain ⟨a1, a2, a3, a4⟩ := fin_def (N := gd.N) l1 l2 rl0 rl t eo
        refine hm.2 x H' G' a1 a2 ?_
        cases v with
        | fz dv => exact rx
        | ow dv =>
          obtain ⟨p, ep, h1, h2, h3, h4⟩ := rx
          refine ⟨p, ep, ?_, h2, h3, fun z => h4 (a3 p z)⟩
          rcases h1 with h1 | h1
          · exact h1
          · exact absurd (a4 p h1) h4
    | exn ee r' =>
      rw [e] at hm
      intro cls dd σ' H' G' rl t rx
      replace hm : match (match outsOf r' (lkF 0 f.md) with | some os => RC.exn ee os | none => .bad) with
        | .bad => False
        | .exn e os => os.length = nref f.md ∧ ∀ cls d H' G', Rl U (argE f.md (newD f.md ds os)) (vs.map some) H' G' → Tr (argE f.md ds) (vs.map some) H G (argE f.md (newD f.md ds os)) (vs.map some) H' G' → ExR U H' G' cls d e → E cls d H'
        | .ok v os => os.length = nref f.md ∧ ∀ x H' G', Rl U (argE f.md (newD f.md ds os)) (vs.map some) H' G' → Tr (argE f.md ds) (vs.map some) H G (argE f.md (newD f.md ds os)) (vs.map some) H' G' →
            relV U v (argE f.md (newD f.md ds os)) (vs.map some) H G' H' x → Q x H' := hm
      cases eo : outsOf r' (lkF 0 f.md) with
      | none => rw [eo] at hm; exact False.elim hm
      | some os =>
        rw [eo] at hm
        obtain ⟨a1, a2, a3, a4⟩ := fin_def (N := gd.N) l1 l2 rl0 rl t eo
        exact hm.2 cls dd H' G' a1 a2 rx
end Mp

set_option Elab.async false
set_option linter.all false
set_option maxRecDepth 100000
set_option maxHeartbeats 8000000
/-! Mp, part 24: the program's defs together; a law's end. -/
namespace Mp
open PySem PySem.Spec PyProof.Rows L2

theorem mem_lk {α β : Type} [BEq α] [LawfulBEq α] {a : α} {b : β} : ∀ {xs : List (α × β)}, xs.lookup a = some b → (a, b) ∈ xs
  | [], h => by cases h
  | (c, d) :: xs, h => by
    rw [List.lookup_cons] at h
    cases e : a == c with
    | true =>
      rw [e] at h
      cases h
      cases eq_of_beq e
      exact List.mem_cons_self
    | false =>
      rw [e] at h
      exact List.mem_cons_of_mem _ (mem_lk h)
/-- the defs of the small program and the defs of the text they stand for; fns: those that are called by places -/
structure Lib (K : Fg) (mg : Mg) (P : Str → Option Fn) (kw : Str → List Str → Option (List D → List D)) (ct : CT) (fns : Str → Bool) : Prop where
  all : ∀ f g, P f = some g → ∃ (x : Str) (gd : Gd) (qual : Str) (st : Stmt) (a : Addr) (fd : FuncData), L2.Fun K x qual st a fd ∧ DefOk K mg gd x g st ∧ (∀ x, gd.fns x = true → fns x = true) ∧ (fns f = true → mg f = some (.ref a) ∧ Binds K fd (gd.N.take g.md.length) []) ∧
    (∀ ks fill, kw f ks = some fill → mg f = some (.ref a) ∧ ∃ (g' : List Value → List Value → List Value) (gV : List V → List V → List V), KBn K fd (gd.N.take g.md.length) 0 ks g' gV ∧ ∀ (U : Wd) (G : Hp) (zs : List V) (ds : List D), U.K = K → zs.length = ks.length → Reps U G zs ds → Reps U G (gV [] zs) (fill ds)) ∧
    (∀ c m, ct.mt c m = some f → ∃ C : Addr, mg c = some (.ref C) ∧ Meth K C m a ∧ Binds K fd (gd.N.take g.md.length) []) ∧ (∀ c m, ct.pr c m = some f → ∃ C p : Addr, mg c = some (.ref C) ∧ PropOf K C m p a ∧ Binds K fd (gd.N.take g.md.length) [])
  fns : ∀ f, fns f = true → ∃ g, P f = some g
  kws : ∀ f ks fill, kw f ks = some fill → ∃ g, P f = some g
  mts : ∀ c m q, ct.mt c m = some q → ∃ g, P q = some g
  prs : ∀ c m q, ct.pr c m = some q → ∃ g, P q = some g
  nw : ∀ c, ct.nw c = true → ∃ C, CO ⟨K, mg⟩ c C [] ∧ PySem.W.makesIn K C = true ∧ PySem.W.keepIn K (.ref C) = true
  fl : ∀ c f C, ct.fld c f = true → mg c = some (.ref C) → NoAttr K C f
section
variable {P : Str → Option Fn} {gl : Str → Option D} {isx : Str → Str → Option Bool} {kw : Str → List Str → Option (List D → List D)} {ct : CT} {n : Nat} {f : Str} {g : Fn}
theorem md_tbl (h : P f = some g) : (tbl P gl isx kw ct n).md f = g.md := by
  cases n with
  | zero =>
    show (match P f with | some g => g.md | none => []) = g.md
    rw [h]
  | succ n =>
    show (match P f with | some g => g.md | none => []) = g.md
    rw [h]
theorem sem_tbl (h : P f = some g) : (tbl P gl isx kw ct (n + 1)).sem f = runFn (tbl P gl isx kw ct n) g := by
  funext ds
  show (match P f with
    | some g => runFn (tbl P gl isx kw ct n) g ds
    | none => .bad) = _
  rw [h]
theorem gl_tbl : (tbl P gl isx kw ct n).gl = gl := by cases n <;> rfl
theorem isx_tbl : (tbl P gl isx kw ct n).isx = isx := by cases n <;> rfl
theorem ct_tbl : (tbl P gl isx kw ct n).ct = ct := by cases n <;> rfl
theorem kw_tbl : (tbl P gl isx kw ct n).kw = kw := by cases n <;> rfl
end
theorem facts_of {P : Program} {w : World} {K : Fg} {mg : Mg} {base : Heap} {U : Wd} {Pm : Str → Option Fn} {gl : Str → Option D} {isx : Str → Str → Option Bool} {kw : Str → List Str → Option (List D → List D)} {ct : CT} {fns : Str → Bool} {n : Nat} (L : Lib K mg Pm kw ct fns) (eK : U.K = K) (em : U.mg = mg)
    (hix : ∀ c1 c2 b, isx c1 c2 = some b → ∃ C1 C2, mg c1 = some (.ref C1) ∧ mg c2 = some (.ref C2) ∧ PySem.W.exmOne K (.ref C1) (.ref C2) = some b) (hgl : ∀ x d, gl x = some d → ∃ u v, mg x = some u ∧ RelV v u ∧ ∀ G, Rep U G v d)
    (key : ∀ f g x gd qual st a fd, Pm f = some g → L2.Fun K x qual st a fd → DefOk K mg gd x g st → (∀ x, gd.fns x = true → fns x = true) → FnG P w K mg base (2 * n) a fd (gd.N.take g.md.length) (spT U ((tbl Pm gl isx kw ct n).md f) ((tbl Pm gl isx kw ct n).sem f))) : Facts P w K mg base U (tbl Pm gl isx kw ct n) (2 * n) fns := by
  have ln : ∀ {f : Str} {g : Fn} {x : Str} {gd : Gd} {st : Stmt}, Pm f = some g → DefOk K mg gd x g st → (gd.N.take g.md.length).length = ((tbl Pm gl isx kw ct n).md f).length := fun {f g x gd st} hg h3 => by
    rw [md_tbl hg, List.length_take]
    have := h3.len
    omega
  refine ⟨eK, em, fun f hf => ?_, fun f ks fill hk => ?_, fun c1 c2 b h => hix c1 c2 b (by rw [isx_tbl] at h; exact h), fun x d h => hgl x d (by rw [gl_tbl] at h; exact h), fun c m q hq => ?_, fun c m q hq => ?_, fun c hc => ?_, fun c f C hc => ?_⟩
  · obtain ⟨g, hg⟩ := L.fns f hf
    obtain ⟨x, gd, qual, st, a, fd, h2, h3, h4, h5, h6, h7, h8⟩ := L.all f g hg
    obtain ⟨i1, i2⟩ := h5 hf
    exact ⟨a, fd, _, i1, h2.kp, i2, ln hg h3, key f g _ _ qual st a fd hg h2 h3 h4⟩
  · rw [kw_tbl] at hk
    obtain ⟨g, hg⟩ := L.kws f ks fill hk
    obtain ⟨x, gd, qual, st, a, fd, h2, h3, h4, h5, h6, h7, h8⟩ := L.all f g hg
    obtain ⟨i1, g', gV, b1, b2⟩ := h6 ks fill hk
    exact ⟨a, fd, _, g', gV, i1, h2.kp, b1, fun G zs ds l r => b2 U G zs ds eK l r, key f g _ _ qual st a fd hg h2 h3 h4⟩
  · rw [ct_tbl] at hq
    obtain ⟨g, hg⟩ := L.mts c m q hq
    obtain ⟨x, gd, qual, st, a, fd, h2, h3, h4, h5, h6, h7, h8⟩ := L.all q g hg
    obtain ⟨C, i1, i2, i3⟩ := h7 c m hq
    exact ⟨C, a, fd, _, i1, i2, i3, ln hg h3, key q g _ _ qual st a fd hg h2 h3 h4⟩
  · rw [ct_tbl] at hq
    obtain ⟨g, hg⟩ := L.prs c m q hq
    obtain ⟨x, gd, qual, st, a, fd, h2, h3, h4, h5, h6, h7, h8⟩ := L.all q g hg
    obtain ⟨C, p, i1, i2, i3⟩ := h8 c m hq
    exact ⟨C, p, a, fd, _, i1, i2, i3, ln hg h3, key q g _ _ qual st a fd hg h2 h3 h4⟩
  · rw [ct_tbl] at hc
    obtain ⟨UK, Um⟩ := U
    cases eK
    cases em
    exact L.nw c hc
  · rw [ct_tbl] at hc
    exact L.fl c f C hc
theorem lib_ok {P : Program} {w : World} {K : Fg} {mg : Mg} {base : Heap} {U : Wd} {Pm : Str → Option Fn} {gl : Str → Option D} {isx : Str → Str → Option Bool} {kw : Str → List Str → Option (List D → List D)} {ct : CT} {fns : Str → Bool} (L : Lib K mg Pm kw ct fns) (eK : U.K = K) (em : U.mg = mg)
    (hix : ∀ c1 c2 b, isx c1 c2 = some b → ∃ C1 C2, mg c1 = some (.ref C1) ∧ mg c2 = some (.ref C2) ∧ PySem.W.exmOne K (.ref C1) (.ref C2) = some b) (hgl : ∀ x d, gl x = some d → ∃ u v, mg x = some u ∧ RelV v u ∧ ∀ G, Rep U G v d) :
    ∀ n : Nat, Facts P w K mg base U (tbl Pm gl isx kw ct n) (2 * n) fns ∧ ∀ f g x gd qual st a fd, Pm f = some g → L2.Fun K x qual st a fd → DefOk K mg gd x g st → (∀ x, gd.fns x = true → fns x = true) → FnG P w K mg base (2 * n) a fd (gd.N.take g.md.length) (spT U ((tbl Pm gl isx kw ct n).md f) ((tbl Pm gl isx kw ct n).sem f))
  | 0 => by
    have key : ∀ f g x gd qual st a fd, Pm f = some g → L2.Fun K x qual st a fd → DefOk K mg gd x g st → (∀ x, gd.fns x = true → fns x = true) → FnG P w K mg base (2 * 0) a fd (gd.N.take g.md.length) (spT U ((tbl Pm gl isx kw ct 0).md f) ((tbl Pm gl isx kw ct 0).sem f)) := fun f g x gd qual st a fd _ _ _ _ => by
      have no : ∀ vs H Q E, ¬ spT U ((tbl Pm gl isx kw ct 0).md f) ((tbl Pm gl isx kw ct 0).sem f) vs H Q E := fun vs H Q E ⟨G, ds, _, _, _, z⟩ => z
      exact ⟨fun vs H Q E z => absurd z (no vs H Q E), fun A outer s H args us vs Q E _ _ _ _ _ z => absurd z (no vs H Q E)⟩
    exact ⟨facts_of L eK em hix hgl key, key⟩
  | n + 1 => by
    obtain ⟨ih, _⟩ := lib_ok (P := P) (w := w) (base := base) L eK em hix hgl n
    have key : ∀ f g x gd qual st a fd, Pm f = some g → L2.Fun K x qual st a fd → DefOk K mg gd x g st → (∀ x, gd.fns x = true → fns x = true) → FnG P w K mg base (2 * (n + 1)) a fd (gd.N.take g.md.length) (spT U ((tbl Pm gl isx kw ct (n + 1)).md f) ((tbl Pm gl isx kw ct (n + 1)).sem f)) := fun f g x gd qual st a fd h1 h2 h3 h4 => by
      rw [md_tbl h1, sem_tbl h1]
      exact def_ok h2 h3 ⟨ih.eK, ih.em, fun x hx => ih.fn x (h4 x hx), ih.kw, ih.ix, ih.gl, ih.mt, ih.pr, ih.nw, ih.fl⟩
    exact ⟨facts_of L eK em hix hgl key, key⟩

/-! ### a law is called at the top -/
section
variable {w : World} {K : Fg} {mg : Mg} {s : Shared} {p : Addr} {us : List Value} {ns : List Int}
theorem hid_dict {H : Hp} (hp : s.heap.get? p = some { cls := .type "list", data := .seq us.toArray }) (only : ∀ b, H b ≠ none → b = p) {b : Addr} {f : Str → Option Value} : s.heap.Ns b f → (hidT s.heap H).Ns b f := by
  rintro ⟨ob, tab, cnt, g1, g2, g3⟩
  refine ⟨ob, tab, cnt, hidT_get g1 ?_, g2, g3⟩
  apply Decidable.byContradiction
  intro hne
  cases only b hne
  cases hp.symm.trans g1
  cases g2
theorem hid_frag {H : Hp} (kin : K.In s.heap) (only : ∀ b, H b ≠ none → b = p) (away : H p ≠ none → K.lookup p = none) : K.In (hidT s.heap H) := by
  intro b ob g
  refine hidT_get (kin b ob g) ?_
  apply Decidable.byContradiction
  intro hne
  cases only b hne
  rw [away hne] at g
  cases g
/-- the promise of a def at the top -/
def TopOk (w : World) (s : Shared) : Result → Shared → Prop := fun res s' => res = .ok (.ret (.bool true)) ∧ OldK s.heap s'.heap ∧ s'.os = s.os ∧ AllBare s'.gens
theorem top_core {P : Program} {k : Nat} {fa : Addr} {fd : FuncData} {x : Str} {sp : Sp} {H : Hp} {mb : Mg} (kin : K.In s.heap) (nsm : s.heap.Ns mainGlobals mg) (nsb : s.heap.Ns builtinsNs mb) (boot : ∀ x : Str, x ≠ "__name__" → mb x = bootBuiltins x) (lim : s.heap.NoLimit) (gens : s.gens = #[])
    (hp : s.heap.get? p = some { cls := .type "list", data := .seq us.toArray }) (room : Room k callerA) (F : FnG P w K mg (hidT s.heap H) k fa fd [x] sp) (hb : ∀ (u : Value), BindsTo s fd ⟨[u], []⟩ [(x, u)])
    (promise : sp [.ref p] H (fun v _ => v = .bl true) fun _ _ _ => False) (frozen : Only H) (ok : HOk P w H s.heap) (only : ∀ b, H b ≠ none → b = p) (away : H p ≠ none → K.lookup p = none) :
    codeAny (model P w) callerA (.call (.ref fa) ⟨[.ref p], []⟩) (TopOk w s) s := by
  have kin' := hid_frag kin only away
  obtain ⟨ml, q1, q2⟩ := lim
  have md : Mod K mg (hidT s.heap H) := ⟨kin', hid_dict hp only nsm, ⟨mb, hid_dict hp only nsb, boot⟩, ⟨ml, hid_dict hp only q1, q2⟩⟩
  have start0 : Env0 P w K mg (hidT s.heap H) callerA [] s H := by
    refine ⟨rfl, md, fun b ob g => of_hidT g, Nat.le_of_eq (hidT_size _ _), trivial, ?_, ok, .of_eq gens⟩
    intro b z
    exact absurd (show b ∈ ([] : List Addr) from z) (by simp)
  have run := F.go callerA [] s H ⟨[.ref p], []⟩ [.ref p] [.ref p] _ _ rfl room start0 (hb (.ref p)) (.cons rfl .nil) promise
  apply codeAny_mono run
  intro res s' post
  cases res with
  | error er =>
    obtain ⟨_, _, _, _, _, _, _, _, _, _, _, _, z⟩ := post
    exact False.elim z
  | ok fl =>
    cases fl <;> first | (exact False.elim post) | skip
    obtain ⟨v, H', os, bare, un, ok', rv, ev⟩ := post
    have ev' : v = .bl true := ev
    subst ev'
    cases (show _ = Value.bool true from rv)
    refine ⟨rfl, OldK.of_keep ?_, os, bare⟩
    intro b ob g
    rcases frozen b with z | ⟨ob2, xs, z⟩
    · exact un.keep b ob g z (by intro z; exact absurd (show b ∈ ([] : List Addr) from z) (by simp)) (by simp)
    · have z' := un.frzs b ob2 _ z
      have same := (ok b _ z).1
      rw [g] at same
      cases same
      exact (ok' b _ z').1
theorem top_call {P : Program} {k : Nat} {fa : Addr} {sp : Sp} {mb : Mg} (kin : K.In s.heap) (nsm : s.heap.Ns mainGlobals mg) (nsb : s.heap.Ns builtinsNs mb) (boot : ∀ x : Str, x ≠ "__name__" → mb x = bootBuiltins x) (lim : s.heap.NoLimit) (gens : s.gens = #[])
    (hp : s.heap.get? p = some { cls := .type "list", data := .seq us.toArray }) (whole : IntsAre us ns) (few : ns.length ≤ sizeLine) (room : Room k callerA) (F : ∀ base : Heap, K.In base → base.Ns mainGlobals mg → ∃ (fd : FuncData) (x : Str), FnG P w K mg base k fa fd [x] sp ∧ ∀ u : Value, BindsTo s fd ⟨[u], []⟩ [(x, u)])
    (promise : ∀ H : Hp, SqL K H p (ns.map V.int) → sp [.ref p] H (fun v _ => v = .bl true) fun _ _ _ => False) : codeAny (model P w) callerA (.call (.ref fa) ⟨[.ref p], []⟩) (TopOk w s) s := by
  have vals := vals_ints whole
  have go : ∀ H : Hp, Only H → SqL K H p (ns.map V.int) → HOk P w H s.heap → (∀ b, H b ≠ none → b = p) → (H p ≠ none → K.lookup p = none) → codeAny (model P w) callerA (.call (.ref fa) ⟨[.ref p], []⟩) (TopOk w s) s :=
    fun H a1 a2 a3 a4 a5 => by
      obtain ⟨fd, x, f1, f2⟩ := F _ (hid_frag kin a4 a5) (hid_dict hp a4 nsm)
      exact top_core kin nsm nsb boot lim gens hp room f1 f2 (promise H a2) a1 a3 a4 a5
  cases known : K.lookup p with
  | some ob =>
    have same := kin p ob known
    rw [hp] at same
    cases same
    have size : us.toArray.size ≤ sizeLine := by
      rw [List.size_toArray, whole.length]
      exact few
    apply go fun _ => none
    · exact fun b => .inl rfl
    · exact .inr ⟨_, us.toArray, _, known, rfl, rfl, rfl, size, by simpa using vals⟩
    · intro b u z
      exact absurd (show (none : Option HO) = some u from z) (by simp)
    · exact fun b z => absurd rfl z
    · exact fun z => absurd rfl z
  | none =>
    let rec_ : Obj := { cls := .type "list", data := .seq us.toArray }
    let H1 : Hp := fun b => if b = p then some (.frz rec_ (.lst (ns.map V.int))) else none
    have at_p : H1 p = some (.frz rec_ (.lst (ns.map V.int))) := if_pos rfl
    have off : ∀ {b}, b ≠ p → H1 b = none := fun {b} z => if_neg z
    apply go H1
    · intro b
      rcases Decidable.em (b = p) with rfl | z
      · exact .inr ⟨_, _, at_p⟩
      · exact .inl (off z)
    · exact .inl (.inr ⟨rec_, at_p⟩)
    · intro b u z
      rcases Decidable.em (b = p) with rfl | y
      · cases at_p.symm.trans z
        refine ⟨hp, ?_, us, _, vals, hp⟩
        rw [List.length_map]
        exact few
      · cases (off y).symm.trans z
    · intro b z
      exact Decidable.byContradiction fun y => z (off y)
    · exact fun _ => known
end
/-- THE END of a law: what the small language says of it is True -/
theorem law_end {l : PySem.W.OpenLaw} {n k : Nat} {q : Program} {loose : List Str} {XP : (Str → Option Value) → Heap → Prop} {YP : World → Heap → Prop} {d : DefRec} {K : Params → Fg} {Pm : Str → Option Fn} {gl : Str → Option D} {isx : Str → Str → Option Bool} {kw : Str → List Str → Option (List D → List D)} {ct : CT} {fns : Str → Bool} {g : Fn}
    (most : l.most = some n) (few : n ≤ sizeLine) (plain : d.params.defaults = []) (room : Room (2 * (k + 1)) callerA) (kin : ∀ (w : World) (h : Heap), YP w h → (K w.params).In h) (isf : fns d.name = true) (isg : Pm d.name = some g) (one : g.md = [false])
    (F : ∀ (w : World) (mg : Mg) (h : Heap), (K w.params).In h → h.Ns mainGlobals mg → Lib (K w.params) mg Pm kw ct fns ∧ (∀ c1 c2 b, isx c1 c2 = some b → ∃ C1 C2, mg c1 = some (.ref C1) ∧ mg c2 = some (.ref C2) ∧ PySem.W.exmOne (K w.params) (.ref C1) (.ref C2) = some b) ∧ (∀ x d, gl x = some d → ∃ u v, mg x = some u ∧ RelV v u ∧ ∀ U G, U.K = K w.params → U.mg = mg → Rep U G v d))
    (law : ∀ ns : List Int, ns.length ≤ n → runFn (tbl Pm gl isx kw ct k) g [.scr ns] = .ok (.fz (.bl true)) []) : PySem.W.WalkO q loose XP YP l.row.toRowW d [] (fun f vs => PySem.call f vs) := by
  refine Att.attach_call most plain fun w s₀ s₁ mg mb fa o pm cd doc a vs ns G Y ho hd hcd hmg hobj hints hlen hg => ?_
  have KX := kin w _ Y
  obtain ⟨L, hix, hgl⟩ := F w mg _ KX G.T.g
  have fact : ∀ base : Heap, Facts l.prog w (K w.params) mg base ⟨K w.params, mg⟩ (tbl Pm gl isx kw ct (k + 1)) (2 * (k + 1)) fns := fun base => (lib_ok L rfl rfl hix (fun x d e => by
    obtain ⟨u, v, h1, h2, h3⟩ := hgl x d e
    exact ⟨u, v, h1, h2, fun G => h3 _ G rfl rfl⟩) (k + 1)).1
  refine top_call KX G.T.g G.T.b G.T.builtins G.T.nolimit hg hobj hints (Nat.le_trans hlen few) room (sp := spT ⟨K w.params, mg⟩ [false] (runFn (tbl Pm gl isx kw ct k) g)) (fun base h1 h2 => ?_) fun H hS => ?_
  · obtain ⟨a', fd, ps, e1, e2, e3, e4, e5⟩ := (fact base).fn d.name isf
    cases e1.symm.trans hmg
    rw [md_tbl isg, one] at e4 e5
    rw [sem_tbl isg] at e5
    obtain ⟨x, rfl⟩ : ∃ x, ps = [x] := by
      match ps, e4 with
      | [x], _ => exact ⟨x, rfl⟩
    exact ⟨fd, x, e5, fun u => e3 s₁ [u] KX rfl⟩
  · refine ⟨H, [.scr ns], rfl, rfl, ⟨Sub.refl H, rfl, fun i s o g1 g2 => ?_, fun i j b d1 d2 ne g1 => ?_⟩, ?_⟩
    · match i, g1, g2 with
      | 0, g1, g2 =>
        cases g1
        cases g2
        exact ⟨_, rfl, .scr hS⟩
      | i + 1, g1, _ => exact absurd g1 (by simp [argE])
    · match i, g1 with
      | 0, g1 => cases g1
      | i + 1, g1 => exact absurd g1 (by simp [argE])
    · rw [law ns hlen]
      refine ⟨rfl, fun x H' G' _ _ rx => ?_⟩
      cases rx
      rfl
end Mp

set_option Elab.async false
set_option linter.all false
set_option maxRecDepth 100000
set_option maxHeartbeats 4000000
/-! W1: what is wanted of a piece of the small language (for the plain laws), run by simp. What comes later stands in closures (k..), which simp leaves alone until they are applied. -/
namespace Mw
open PySem Mp
abbrev XW := Ex → En → Prop
abbrev QW := Val → En → Prop
def RQ {α : Type} (Q : α → En → Prop) (X : XW) : R α → Prop
  | .ok a r => Q a r
  | .exn e r => X e r
  | .bad => False
structure Kt where
  nx : En → Prop
  rt : Val → En → Prop
  bk : En → Prop
  ct : En → Prop
  xn : XW
def FQ (K : Kt) : Fl → Prop
  | .nx r => K.nx r
  | .rt v r => K.rt v r
  | .bk r => K.bk r
  | .ct r => K.ct r
  | .exn e r => K.xn e r
  | .bad => False
def EW (T : Tbl) (n : Nat) (m : ME) (r : En) (Q : QW) (X : XW) : Prop := RQ Q X (ev T n m r)
def OW (T : Tbl) (n : Nat) (m : ME) (r : En) (Q : Opn → En → Prop) (X : XW) : Prop := RQ Q X (evO (ev T n) m r)
def OsW (T : Tbl) (n : Nat) (m : List ME) (r : En) (Q : List Opn → En → Prop) (X : XW) : Prop := RQ Q X (mapR (evO (ev T n)) m r)
def FsW (T : Tbl) (n : Nat) (m : List ME) (r : En) (Q : List D → En → Prop) (X : XW) : Prop := RQ Q X (mapR (evF (ev T n)) m r)
def AsW (T : Tbl) (n : Nat) (m : List (Bool × ME)) (r : En) (Q : List Opn → En → Prop) (X : XW) : Prop := RQ Q X (mapR (evA1 (ev T n)) m r)
def A1W (T : Tbl) (n : Nat) (m : Bool × ME) (r : En) (Q : Opn → En → Prop) (X : XW) : Prop := RQ Q X (evA1 (ev T n) m r)
def PW (T : Tbl) (n : Nat) (m : Option ME) (r : En) (Q : Option Int → En → Prop) (X : XW) : Prop := RQ Q X (evP (ev T n) m r)
def BW (T : Tbl) (n : Nat) (m : ME) (r : En) (Q : Bool → En → Prop) (X : XW) : Prop := RQ Q X (evB (ev T n) m r)
def CsW (T : Tbl) (n : Nat) (m : List ME) (r : En) (Q : Bool → En → Prop) (X : XW) : Prop := RQ Q X (evCs (ev T n) m r)
def SX (T : Tbl) (lk : List Nat) (n : Nat) (ss : List MS) (r : En) (K : Kt) : Prop := FQ K (exs T lk n ss r)
def S1 (T : Tbl) (lk : List Nat) (n : Nat) (s : MS) (r : En) (K : Kt) : Prop := FQ K (ex T lk n s r)

/-! ### stops -/
/-- a slot that is read as a value -/
def VaW (s : Option Slot) (i : Nat) (r : En) (Q : QW) : Prop := match s with
  | some (.fz d) => Q (.fz d) r
  | some (.ow d) => Q (.fz d) (r.set i (.fz d))
  | _ => False
/-- a slot that is read as an operand -/
def VoW (s : Option Slot) (i : Nat) (r : En) (Q : Opn → En → Prop) : Prop := match s with
  | some (.fz _) => Q (.loc i) r
  | some (.ow _) => Q (.loc i) r
  | _ => False
def VwW (s : Option Slot) (i : Nat) (r : En) (Q : Opn → En → Prop) : Prop := match s with
  | some (.ow _) => Q (.loc i) r
  | _ => False
/-- a value is handed on -/
def NeW (r : En) (N : En → Prop) : Prop := N r
def OpW {α : Type} (o : Option α) (Q : α → Prop) : Prop := match o with
  | some a => Q a
  | none => False
/-- a built-in's answer -/
def BiW (b : BI) (ds : Option (List D)) (Q : Val → Prop) : Prop := OpW (ds.bind (bsem b)) Q
def IfW (b : Bool) (A B : Unit → Prop) : Prop := if b = true then A () else B ()
def AndW (b : Bool) (A : Unit → Prop) : Prop := b = true ∧ A ()
def asBW (v : Val) (Q : Bool → Prop) : Prop := match v with
  | .fz (.bl b) => Q b
  | _ => False
def asIW (v : Val) (Q : Int → Prop) : Prop := match v with
  | .fz (.int b) => Q b
  | _ => False
/-- a call's answer -/
def CW (c : RC) (Q : Val → List D → Prop) (X : Ex → List D → Prop) : Prop := match c with
  | .bad => False
  | .exn e os => X e os
  | .ok v os => Q v os
def CQ (c : RC) (os : List Opn) (r : En) (Q : QW) (X : XW) : Prop := CW c (fun v outs => outs.length = (locs os).length ∧ Q v (putOuts os outs r)) (fun e outs => outs.length = (locs os).length ∧ X e (putOuts os outs r))
def okCall (md : List Bool) (os : List Opn) (r : En) : Bool := shp md os && decide ((locs os).Nodup) && (locs os).all (isOw r)
def kCq (sem : List D → RC) (ds : List D) (os : List Opn) (r : En) (Q : QW) (X : XW) : Unit → Prop := fun _ => CQ (sem ds) os r Q X
def ClW (sem : List D → RC) (ds : Option (List D)) (ok : Bool) (os : List Opn) (r : En) (Q : QW) (X : XW) : Prop := match ds with
  | some ds => AndW ok (kCq sem ds os r Q X)
  | none => False
def CaW (T : Tbl) (n : Nat) (f : Str) (md : List Bool) (es : List ME) (r : En) (Q : QW) (X : XW) : Prop := RQ Q X ((evAs (ev T n) md es r).bind (runCall md (T.sem f)))
def RcW (sem : List D → RC) (md : List Bool) (os : List Opn) (r : En) (Q : QW) (X : XW) : Prop := RQ Q X (runCall md sem os r)
def kCk (T : Tbl) (f : Str) (md : List Bool) (g : List D → List D) (Q : QW) (X : XW) : List D → En → Prop := fun ds r1 => RcW (T.sem f) md ((g ds).map .d) r1 Q X
def CkW (T : Tbl) (n : Nat) (f : Str) (md : List Bool) (g : Option (List D → List D)) (es : List ME) (r : En) (Q : QW) (X : XW) : Prop := match g with
  | some g => FsW T n es r (kCk T f md g Q X) X
  | none => False
/-- a loop, a comprehension, a while -/
def LpW (f : En → Fl) (tg : Tg) (xs : List D) (r : En) (K : Kt) : Prop := FQ K (forL f tg xs r)
def kBody (T : Tbl) (lk : List Nat) (n : Nat) (b : List MS) : En → Fl := fun r => exs T lk n b r
def kCond (T : Tbl) (n : Nat) (c : ME) : En → R Bool := fun r => evB (ev T n) c r
def kConds (T : Tbl) (n : Nat) (c : List ME) : En → R Bool := fun r => evCs (ev T n) c r
def kElt (T : Tbl) (n : Nat) (c : ME) : En → R D := fun r => evF (ev T n) c r
def WlW (c : En → R Bool) (b : En → Fl) (n : Nat) (r : En) (K : Kt) : Prop := FQ K (whlL c b n r)
def CpW (cond : En → R Bool) (elt : En → R D) (tg : Tg) (xs : List D) (r : En) (Q : List D → En → Prop) (X : XW) : Prop := RQ Q X (compL cond elt tg xs r)
def WkW (o : Option (List D)) (Q : List D → Prop) : Prop := OpW o Q
def RtW (m : Option Nat) (T : Tbl) (lk : List Nat) (n : Nat) (e : ME) (r : En) (K : Kt) : Prop := match m with
  | some i => (match r[i]? with
    | some (.fz d) => K.rt (.fz d) r
    | some (.ow d) => if i ∈ lk then False else K.rt (.ow d) (r.set i .un)
    | _ => False)
  | none => EW T n e r K.rt K.xn
def kNe (r : En) (N : En → Prop) : Unit → Prop := fun _ => NeW r N
def kV (Q : QW) (v : Val) (r : En) : Unit → Prop := fun _ => Q v r
def kE (T : Tbl) (n : Nat) (m : ME) (r : En) (Q : QW) (X : XW) : Unit → Prop := fun _ => EW T n m r Q X
def kS (T : Tbl) (lk : List Nat) (n : Nat) (ss : List MS) (r : En) (K : Kt) : Unit → Prop := fun _ => SX T lk n ss r K
def kX (X : XW) (e : Ex) (r : En) : Unit → Prop := fun _ => X e r
def RvW (s : Option Slot) (l : Bool) (i : Nat) (r : En) (K : Kt) : Prop := match s with
    | some (.fz d) => K.rt (.fz d) r
    | some (.ow d) => AndW (!l) (kNe (r.set i .un) (K.rt (.ow d)))
    | _ => False
def isVar : ME → Option Nat
  | .var i => some i
  | _ => none
def HnW (o : Option Bool) (A B : Unit → Prop) : Prop := match o with
  | some true => A ()
  | some false => B ()
  | none => False

section
variable {T : Tbl} {n i j : Nat} {r : En} {Q : QW} {X : XW} {lk : List Nat} {K : Kt} {α β : Type}
theorem kCq_ {sem : List D → RC} {ds : List D} {os : List Opn} {u : Unit} : kCq sem ds os r Q X u = CQ (sem ds) os r Q X := rfl
theorem kCk_ {f : Str} {md : List Bool} {g : List D → List D} {ds : List D} : kCk T f md g Q X ds r = RcW (T.sem f) md ((g ds).map .d) r Q X := rfl
theorem kNe_ {N : En → Prop} {u : Unit} : kNe r N u = NeW r N := rfl
theorem kV_ {v : Val} {u : Unit} : kV Q v r u = Q v r := rfl
theorem kE_ {m : ME} {u : Unit} : kE T n m r Q X u = EW T n m r Q X := rfl
theorem kS_ {m : List MS} {u : Unit} : kS T lk n m r K u = SX T lk n m r K := rfl
theorem kX_ {e : Ex} {u : Unit} : kX X e r u = X e r := rfl
theorem rq_bind {m : R α} {g : α → En → R β} {Q : β → En → Prop} : RQ Q X (m.bind g) = RQ (fun a r1 => RQ Q X (g a r1)) X m := by cases m <;> rfl
theorem fq_fl {m : R α} {g : α → En → Fl} : FQ K (m.fl g) = RQ (fun a r1 => FQ K (g a r1)) K.xn m := by cases m <;> rfl
theorem rq_opt {o : Option α} {Q : α → En → Prop} : RQ Q X (ofOpt o r) = OpW o fun a => Q a r := by cases o <;> rfl
theorem rq_ext {m : R α} {Q Q' : α → En → Prop} (h : ∀ a r, Q a r = Q' a r) : RQ Q X m = RQ Q' X m := by
  have : Q = Q' := funext fun a => funext fun r => h a r
  rw [this]

theorem vaW_fz {d : D} : VaW (some (.fz d)) i r Q = Q (.fz d) r := rfl
theorem vaW_ow {d : D} : VaW (some (.ow d)) i r Q = NeW (r.set i (.fz d)) (Q (.fz d)) := rfl
theorem voW_fz {d : D} {Q : Opn → En → Prop} : VoW (some (.fz d)) i r Q = Q (.loc i) r := rfl
theorem voW_ow {d : D} {Q : Opn → En → Prop} : VoW (some (.ow d)) i r Q = Q (.loc i) r := rfl
theorem vwW_ow {d : D} {Q : Opn → En → Prop} : VwW (some (.ow d)) i r Q = Q (.loc i) r := rfl
theorem neW_ {N : En → Prop} : NeW r N = N r := rfl
theorem opW_some {a : α} {Q : α → Prop} : OpW (some a) Q = Q a := rfl
theorem biW_some {b : BI} {ds : List D} {Q : Val → Prop} : BiW b (some ds) Q = OpW (bsem b ds) Q := rfl
theorem wkW_some {xs : List D} {Q : List D → Prop} : WkW (some xs) Q = Q xs := rfl
theorem ifW_t {A B : Unit → Prop} : IfW true A B = A () := by simp [IfW]
theorem ifW_f {A B : Unit → Prop} : IfW false A B = B () := by simp [IfW]
theorem andW_t {A : Unit → Prop} : AndW true A = A () := by simp [AndW]
theorem asBW_ {b : Bool} {Q : Bool → Prop} : asBW (.fz (.bl b)) Q = Q b := rfl
theorem asIW_ {b : Int} {Q : Int → Prop} : asIW (.fz (.int b)) Q = Q b := rfl
theorem cq_ok0 {v : Val} {ds : List Opn} (h : (locs ds).length = 0) : CQ (.ok v []) ds r Q X = Q v (putOuts ds [] r) := by
  show (_ ∧ _) = _
  simp [h]
theorem clW_ {sem : List D → RC} {ds : List D} {os : List Opn} : ClW sem (some ds) true os r Q X = CQ (sem ds) os r Q X := by
  show AndW true _ = _
  rw [andW_t]
  rfl
theorem hnW_t {A B : Unit → Prop} : HnW (some true) A B = A () := rfl
theorem hnW_f {A B : Unit → Prop} : HnW (some false) A B = B () := rfl
theorem rtW_s {e : ME} : RtW (some i) T lk n e r K = RvW r[i]? (lk.contains i) i r K := by
  show (match r[i]? with
    | some (.fz d) => K.rt (.fz d) r
    | some (.ow d) => if i ∈ lk then False else K.rt (.ow d) (r.set i .un)
    | _ => False) = _
  cases r[i]? with
  | none => rfl
  | some s =>
    cases s with
    | un => rfl
    | fz d => rfl
    | ow d =>
      show (if i ∈ lk then False else K.rt (.ow d) (r.set i .un)) = AndW (!(lk.contains i)) (kNe (r.set i .un) (K.rt (.ow d)))
      by_cases h : i ∈ lk <;> simp [h, AndW, NeW, kNe]
theorem rtW_n {e : ME} : RtW none T lk n e r K = EW T n e r K.rt K.xn := rfl
theorem rvW_fz {d : D} {l : Bool} : RvW (some (.fz d)) l i r K = K.rt (.fz d) r := rfl
theorem rvW_ow {d : D} : RvW (some (.ow d)) false i r K = NeW (r.set i .un) (K.rt (.ow d)) := by
  show AndW (!false) _ = _
  rw [Bool.not_false, andW_t]
  rfl

/-! ### expressions -/
theorem ew_var : EW T (n + 1) (.var i) r Q X = VaW r[i]? i r Q := by
  show RQ Q X ((frz i r).bind fun d r1 => .ok (.fz d) r1) = _
  unfold frz
  cases r[i]? with
  | none => rfl
  | some s => cases s <;> rfl
theorem ew_cst {d : D} : EW T (n + 1) (.cst d) r Q X = Q (.fz d) r := rfl
def kFz (Q : QW) (r : En) : D → Prop := fun d => Q (.fz d) r
theorem kFz_ {d : D} : kFz Q r d = Q (.fz d) r := rfl
theorem ew_glo {x : Str} : EW T (n + 1) (.glo x) r Q X = OpW (T.gl x) (kFz Q r) := by
  show RQ Q X (ofOpt ((T.gl x).map .fz) r) = _
  rw [rq_opt]
  cases T.gl x <;> rfl
def kQv (Q : QW) (r : En) : Val → Prop := fun v => Q v r
theorem kQv_ {v : Val} : kQv Q r v = Q v r := rfl
def kBi (b : BI) (Q : QW) : List Opn → En → Prop := fun os r1 => BiW b (rsvs r1 os) (kQv Q r1)
theorem kBi_ {b : BI} {os : List Opn} : kBi b Q os r = BiW b (rsvs r os) (kQv Q r) := rfl
theorem ew_bi {b : BI} {es : List ME} : EW T (n + 1) (.bi b es) r Q X = OsW T n es r (kBi b Q) X := by
  show RQ Q X ((mapR (evO (ev T n)) es r).bind fun os r1 => ofOpt ((rsvs r1 os).bind (bsem b)) r1) = _
  rw [rq_bind]
  exact rq_ext fun os r1 => rq_opt
def kBi2 (b : BI) (x : Opn) (Q : QW) : Opn → En → Prop := fun y r => BiW b (rsvs r [x, y]) (kQv Q r)
theorem kBi2_ {b : BI} {x y : Opn} : kBi2 b x Q y r = BiW b (rsvs r [x, y]) (kQv Q r) := rfl
def kOw (T : Tbl) (n : Nat) (m : ME) (r : En) (Q : Opn → En → Prop) (X : XW) : Unit → Prop := fun _ => OW T n m r Q X
theorem kOw_ {m : ME} {Q : Opn → En → Prop} {u : Unit} : kOw T n m r Q X u = OW T n m r Q X := rfl
def kCh4 (T : Tbl) (n : Nat) (o2 : BI) (c : ME) (Q : QW) (X : XW) (y : Opn) (r2 : En) : Bool → Prop := fun v => IfW v (kOw T n c r2 (kBi2 o2 y Q) X) (kV Q (.fz (.bl false)) r2)
theorem kCh4_ {o2 : BI} {c : ME} {y : Opn} {v : Bool} : kCh4 T n o2 c Q X y r v = IfW v (kOw T n c r (kBi2 o2 y Q) X) (kV Q (.fz (.bl false)) r) := rfl
def kCh3 (T : Tbl) (n : Nat) (o2 : BI) (c : ME) (Q : QW) (X : XW) (y : Opn) (r2 : En) : Val → Prop := fun v => asBW v (kCh4 T n o2 c Q X y r2)
theorem kCh3_ {o2 : BI} {c : ME} {y : Opn} {v : Val} : kCh3 T n o2 c Q X y r v = asBW v (kCh4 T n o2 c Q X y r) := rfl
def kCh2 (T : Tbl) (n : Nat) (o1 o2 : BI) (c : ME) (Q : QW) (X : XW) (x : Opn) : Opn → En → Prop := fun y r2 => BiW o1 (rsvs r2 [x, y]) (kCh3 T n o2 c Q X y r2)
theorem kCh2_ {o1 o2 : BI} {c : ME} {x y : Opn} : kCh2 T n o1 o2 c Q X x y r = BiW o1 (rsvs r [x, y]) (kCh3 T n o2 c Q X y r) := rfl
def kCh1 (T : Tbl) (n : Nat) (o1 o2 : BI) (b c : ME) (Q : QW) (X : XW) : Opn → En → Prop := fun x r1 => OW T n b r1 (kCh2 T n o1 o2 c Q X x) X
theorem kCh1_ {o1 o2 : BI} {b c : ME} {x : Opn} : kCh1 T n o1 o2 b c Q X x r = OW T n b r (kCh2 T n o1 o2 c Q X x) X := rfl
theorem ew_chain {o1 o2 : BI} {a b c : ME} : EW T (n + 1) (.chain o1 o2 a b c) r Q X = OW T n a r (kCh1 T n o1 o2 b c Q X) X := by
  show RQ Q X ((evO (ev T n) a r).bind fun x r1 => (evO (ev T n) b r1).bind fun y r2 =>
        match (rsvs r2 [x, y]).bind (bsem o1) with
        | some (.fz (.bl false)) => .ok (.fz (.bl false)) r2
        | some (.fz (.bl true)) => (evO (ev T n) c r2).bind fun z r3 => ofOpt ((rsvs r3 [y, z]).bind (bsem o2)) r3
        | _ => .bad) = _
  rw [rq_bind]
  refine rq_ext fun x r1 => ?_
  rw [rq_bind]
  refine rq_ext fun y r2 => ?_
  unfold kCh2 BiW
  cases (rsvs r2 [x, y]).bind (bsem o1) with
  | none => rfl
  | some v =>
    cases v with
    | ow d => rfl
    | fz d =>
      cases d with
      | bl q =>
        cases q with
        | false => rfl
        | true =>
          show RQ Q X ((evO (ev T n) c r2).bind fun z r3 => ofOpt ((rsvs r3 [y, z]).bind (bsem o2)) r3) = OW T n c r2 (kBi2 o2 y Q) X
          rw [rq_bind]
          exact rq_ext fun z r3 => rq_opt
      | _ => rfl
def kB (Q : Bool → En → Prop) (r : En) : Bool → Prop := fun b => Q b r
theorem kB_ {Q : Bool → En → Prop} {b : Bool} : kB Q r b = Q b r := rfl
def kBw (Q : Bool → En → Prop) : QW := fun v r => asBW v (kB Q r)
theorem kBw_ {Q : Bool → En → Prop} {v : Val} : kBw Q v r = asBW v (kB Q r) := rfl
def kI (Q : Option Int → En → Prop) (r : En) : Int → Prop := fun b => Q (some b) r
theorem kI_ {Q : Option Int → En → Prop} {b : Int} : kI Q r b = Q (some b) r := rfl
def kPw (Q : Option Int → En → Prop) : QW := fun v r => asIW v (kI Q r)
theorem kPw_ {Q : Option Int → En → Prop} {v : Val} : kPw Q v r = asIW v (kI Q r) := rfl
theorem rq_asB {v : Val} {Q : Bool → En → Prop} : RQ Q X (asB v r) = kBw Q v r := by
  cases v with
  | ow d => rfl
  | fz d => cases d <;> rfl
theorem rq_asI {v : Val} {Q : Option Int → En → Prop} : RQ Q X (asI v r) = kPw Q v r := by
  cases v with
  | ow d => rfl
  | fz d => cases d <;> rfl
theorem bw_ {m : ME} {Q : Bool → En → Prop} : BW T n m r Q X = EW T n m r (kBw Q) X := by
  show RQ Q X ((ev T n m r).bind asB) = _
  rw [rq_bind]
  exact rq_ext fun v r1 => rq_asB
theorem pw_n {Q : Option Int → En → Prop} : PW T n none r Q X = Q none r := rfl
theorem pw_s {m : ME} {Q : Option Int → En → Prop} : PW T n (some m) r Q X = EW T n m r (kPw Q) X := by
  show RQ Q X ((ev T n m r).bind asI) = _
  rw [rq_bind]
  exact rq_ext fun v r1 => rq_asI
def kSl3 (x : Opn) (l : Option Int) (Q : QW) : Option Int → En → Prop := fun h r3 => OpW ((rsv r3 x).bind (bSlc l h)) (kQv Q r3)
theorem kSl3_ {x : Opn} {l h : Option Int} : kSl3 x l Q h r = OpW ((rsv r x).bind (bSlc l h)) (kQv Q r) := rfl
def kSl2 (T : Tbl) (n : Nat) (hi : Option ME) (X : XW) (x : Opn) (Q : QW) : Option Int → En → Prop := fun l r2 => PW T n hi r2 (kSl3 x l Q) X
theorem kSl2_ {hi : Option ME} {x : Opn} {l : Option Int} : kSl2 T n hi X x Q l r = PW T n hi r (kSl3 x l Q) X := rfl
def kSl1 (T : Tbl) (n : Nat) (lo hi : Option ME) (X : XW) (Q : QW) : Opn → En → Prop := fun x r1 => PW T n lo r1 (kSl2 T n hi X x Q) X
theorem kSl1_ {lo hi : Option ME} {x : Opn} : kSl1 T n lo hi X Q x r = PW T n lo r (kSl2 T n hi X x Q) X := rfl
theorem ew_slc {a : ME} {lo hi : Option ME} : EW T (n + 1) (.slc a lo hi) r Q X = OW T n a r (kSl1 T n lo hi X Q) X := by
  show RQ Q X ((evO (ev T n) a r).bind fun x r1 => (evP (ev T n) lo r1).bind fun l r2 => (evP (ev T n) hi r2).bind fun h r3 => ofOpt ((rsv r3 x).bind (bSlc l h)) r3) = _
  rw [rq_bind]
  refine rq_ext fun x r1 => ?_
  rw [rq_bind]
  refine rq_ext fun l r2 => ?_
  rw [rq_bind]
  exact rq_ext fun h r3 => rq_opt
def kAn (T : Tbl) (n : Nat) (b : ME) (Q : QW) (X : XW) : Bool → En → Prop := fun v r1 => IfW v (kE T n b r1 Q X) (kV Q (.fz (.bl false)) r1)
theorem kAn_ {b : ME} {v : Bool} : kAn T n b Q X v r = IfW v (kE T n b r Q X) (kV Q (.fz (.bl false)) r) := rfl
theorem ew_and {a b : ME} : EW T (n + 1) (.and_ a b) r Q X = BW T n a r (kAn T n b Q X) X := by
  show RQ Q X ((evB (ev T n) a r).bind fun v r1 => if v = true then ev T n b r1 else .ok (.fz (.bl false)) r1) = _
  rw [rq_bind]
  refine rq_ext fun v r1 => ?_
  cases v <;> rfl
def kOr (T : Tbl) (n : Nat) (b : ME) (Q : QW) (X : XW) : Bool → En → Prop := fun v r1 => IfW v (kV Q (.fz (.bl true)) r1) (kE T n b r1 Q X)
theorem kOr_ {b : ME} {v : Bool} : kOr T n b Q X v r = IfW v (kV Q (.fz (.bl true)) r) (kE T n b r Q X) := rfl
theorem ew_or {a b : ME} : EW T (n + 1) (.or_ a b) r Q X = BW T n a r (kOr T n b Q X) X := by
  show RQ Q X ((evB (ev T n) a r).bind fun v r1 => if v = true then .ok (.fz (.bl true)) r1 else ev T n b r1) = _
  rw [rq_bind]
  refine rq_ext fun v r1 => ?_
  cases v <;> rfl
def kNt (Q : QW) : Bool → En → Prop := fun v r1 => Q (.fz (.bl (!v))) r1
theorem kNt_ {v : Bool} : kNt Q v r = Q (.fz (.bl (!v))) r := rfl
theorem ew_not {a : ME} : EW T (n + 1) (.not_ a) r Q X = BW T n a r (kNt Q) X := by
  show RQ Q X ((evB (ev T n) a r).bind fun v r1 => .ok (.fz (.bl (!v))) r1) = _
  rw [rq_bind]
  rfl
def kIe (T : Tbl) (n : Nat) (a b : ME) (Q : QW) (X : XW) : Bool → En → Prop := fun v r1 => IfW v (kE T n a r1 Q X) (kE T n b r1 Q X)
theorem kIe_ {a b : ME} {v : Bool} : kIe T n a b Q X v r = IfW v (kE T n a r Q X) (kE T n b r Q X) := rfl
theorem ew_ife {c a b : ME} : EW T (n + 1) (.ife c a b) r Q X = BW T n c r (kIe T n a b Q X) X := by
  show RQ Q X ((evB (ev T n) c r).bind fun v r1 => if v = true then ev T n a r1 else ev T n b r1) = _
  rw [rq_bind]
  refine rq_ext fun v r1 => ?_
  cases v <;> rfl
def kCons {α : Type} (a : α) (Q : List α → En → Prop) : List α → En → Prop := fun as r => Q (a :: as) r
theorem kCons_ {a : α} {as : List α} {Q : List α → En → Prop} : kCons a Q as r = Q (a :: as) r := rfl
def kFs (T : Tbl) (n : Nat) (ms : List ME) (Q : List D → En → Prop) (X : XW) : QW := fun v r1 => FsW T n ms r1 (kCons v.d Q) X
theorem kFs_ {ms : List ME} {Q : List D → En → Prop} {v : Val} : kFs T n ms Q X v r = FsW T n ms r (kCons v.d Q) X := rfl
theorem fsW_nil {Q : List D → En → Prop} : FsW T n [] r Q X = Q [] r := rfl
theorem fsW_cons {m : ME} {ms : List ME} {Q : List D → En → Prop} : FsW T n (m :: ms) r Q X = EW T n m r (kFs T n ms Q X) X := by
  show RQ Q X (((ev T n m r).bind fun v r1 => .ok v.d r1).bind fun o r1 => (mapR (evF (ev T n)) ms r1).bind fun os r2 => .ok (o :: os) r2) = _
  rw [rq_bind, rq_bind]
  refine rq_ext fun v r1 => ?_
  show RQ Q X ((mapR (evF (ev T n)) ms r1).bind fun os r2 => .ok (v.d :: os) r2) = _
  rw [rq_bind]
  rfl
def kOs (T : Tbl) (n : Nat) (ms : List ME) (Q : List Opn → En → Prop) (X : XW) : Opn → En → Prop := fun o r1 => OsW T n ms r1 (kCons o Q) X
theorem kOs_ {ms : List ME} {Q : List Opn → En → Prop} {o : Opn} : kOs T n ms Q X o r = OsW T n ms r (kCons o Q) X := rfl
theorem osW_nil {Q : List Opn → En → Prop} : OsW T n [] r Q X = Q [] r := rfl
theorem osW_cons {m : ME} {ms : List ME} {Q : List Opn → En → Prop} : OsW T n (m :: ms) r Q X = OW T n m r (kOs T n ms Q X) X := by
  show RQ Q X ((evO (ev T n) m r).bind fun o r1 => (mapR (evO (ev T n)) ms r1).bind fun os r2 => .ok (o :: os) r2) = _
  rw [rq_bind]
  refine rq_ext fun o r1 => ?_
  rw [rq_bind]
  rfl
def kAs (T : Tbl) (n : Nat) (ms : List (Bool × ME)) (Q : List Opn → En → Prop) (X : XW) : Opn → En → Prop := fun o r1 => AsW T n ms r1 (kCons o Q) X
theorem kAs_ {ms : List (Bool × ME)} {Q : List Opn → En → Prop} {o : Opn} : kAs T n ms Q X o r = AsW T n ms r (kCons o Q) X := rfl
theorem asW_nil {Q : List Opn → En → Prop} : AsW T n [] r Q X = Q [] r := rfl
theorem asW_cons {m : Bool × ME} {ms : List (Bool × ME)} {Q : List Opn → En → Prop} : AsW T n (m :: ms) r Q X = A1W T n m r (kAs T n ms Q X) X := by
  show RQ Q X ((evA1 (ev T n) m r).bind fun o r1 => (mapR (evA1 (ev T n)) ms r1).bind fun os r2 => .ok (o :: os) r2) = _
  rw [rq_bind]
  refine rq_ext fun o r1 => ?_
  rw [rq_bind]
  rfl
theorem a1W_t {Q : Opn → En → Prop} : A1W T n (true, .var i) r Q X = VwW r[i]? i r Q := by
  show RQ Q X (match r[i]? with
      | some (.ow _) => .ok (.loc i) r
      | _ => .bad) = _
  cases r[i]? with
  | none => rfl
  | some s => cases s <;> rfl
def kD (Q : Opn → En → Prop) : QW := fun v r => Q (.d v.d) r
theorem kD_ {Q : Opn → En → Prop} {v : Val} : kD Q v r = Q (.d v.d) r := rfl
theorem a1W_f {m : ME} {Q : Opn → En → Prop} : A1W T n (false, m) r Q X = EW T n m r (kD Q) X := by
  show RQ Q X ((ev T n m r).bind fun v r1 => .ok (.d v.d) r1) = _
  rw [rq_bind]
  rfl
theorem ow_var {Q : Opn → En → Prop} : OW T n (.var i) r Q X = VoW r[i]? i r Q := by
  show RQ Q X (match r[i]? with
    | some (.fz _) => .ok (.loc i) r
    | some (.ow _) => .ok (.loc i) r
    | _ => .bad) = _
  cases r[i]? with
  | none => rfl
  | some s => cases s <;> rfl
theorem ow_of {m : ME} {Q : Opn → En → Prop} (h : ∀ i, m ≠ .var i) : OW T n m r Q X = EW T n m r (kD Q) X := by
  have : evO (ev T n) m r = (ev T n m r).bind fun v r1 => .ok (.d v.d) r1 := by
    cases m <;> first | rfl | exact absurd rfl (h _)
  show RQ Q X (evO (ev T n) m r) = _
  rw [this, rq_bind]
  rfl
section
variable {Q : Opn → En → Prop}
theorem ow_cst {d : D} : OW T n (.cst d) r Q X = EW T n (.cst d) r (kD Q) X := ow_of fun i z => by cases z
theorem ow_glo {d : Str} : OW T n (.glo d) r Q X = EW T n (.glo d) r (kD Q) X := ow_of fun i z => by cases z
theorem ow_bi {b : BI} {es : List ME} : OW T n (.bi b es) r Q X = EW T n (.bi b es) r (kD Q) X := ow_of fun i z => by cases z
theorem ow_chain {o1 o2 : BI} {a b c : ME} : OW T n (.chain o1 o2 a b c) r Q X = EW T n (.chain o1 o2 a b c) r (kD Q) X := ow_of fun i z => by cases z
theorem ow_slc {a : ME} {lo hi : Option ME} : OW T n (.slc a lo hi) r Q X = EW T n (.slc a lo hi) r (kD Q) X := ow_of fun i z => by cases z
theorem ow_and {a b : ME} : OW T n (.and_ a b) r Q X = EW T n (.and_ a b) r (kD Q) X := ow_of fun i z => by cases z
theorem ow_or {a b : ME} : OW T n (.or_ a b) r Q X = EW T n (.or_ a b) r (kD Q) X := ow_of fun i z => by cases z
theorem ow_not {a : ME} : OW T n (.not_ a) r Q X = EW T n (.not_ a) r (kD Q) X := ow_of fun i z => by cases z
theorem ow_ife {c a b : ME} : OW T n (.ife c a b) r Q X = EW T n (.ife c a b) r (kD Q) X := ow_of fun i z => by cases z
theorem ow_call {f : Str} {es : List ME} : OW T n (.call f es) r Q X = EW T n (.call f es) r (kD Q) X := ow_of fun i z => by cases z
theorem ow_callk {f : Str} {ks : List Str} {es : List ME} : OW T n (.callk f ks es) r Q X = EW T n (.callk f ks es) r (kD Q) X := ow_of fun i z => by cases z
theorem ow_tup {es : List ME} : OW T n (.tup es) r Q X = EW T n (.tup es) r (kD Q) X := ow_of fun i z => by cases z
theorem ow_lst {es : List ME} : OW T n (.lst es) r Q X = EW T n (.lst es) r (kD Q) X := ow_of fun i z => by cases z
theorem ow_dct0 {t : Bool} : OW T n (.dct0 t) r Q X = EW T n (.dct0 t) r (kD Q) X := ow_of fun i z => by cases z
theorem ow_comp {tg : Tg} {elt : ME} {ik : Nat} {its cs : List ME} : OW T n (.comp tg elt ik its cs) r Q X = EW T n (.comp tg elt ik its cs) r (kD Q) X := ow_of fun i z => by cases z
end
def kTup (Q : QW) : List D → En → Prop := fun ds r1 => AndW (decide (ds.length ≤ PySem.sizeLine)) (kV Q (.fz (.tup ds)) r1)
theorem kTup_ {ds : List D} : kTup Q ds r = AndW (decide (ds.length ≤ PySem.sizeLine)) (kV Q (.fz (.tup ds)) r) := rfl
theorem ew_tup {es : List ME} : EW T (n + 1) (.tup es) r Q X = FsW T n es r (kTup Q) X := by
  show RQ Q X ((mapR (evF (ev T n)) es r).bind fun ds r1 => if ds.length ≤ PySem.sizeLine then .ok (.fz (.tup ds)) r1 else .bad) = _
  rw [rq_bind]
  refine rq_ext fun ds r1 => ?_
  by_cases h : ds.length ≤ PySem.sizeLine <;> simp [h, AndW, RQ, kTup, kV]
def kLst (Q : QW) : List D → En → Prop := fun ds r1 => AndW (decide (ds.length ≤ PySem.sizeLine)) (kV Q (.ow (.lst ds)) r1)
theorem kLst_ {ds : List D} : kLst Q ds r = AndW (decide (ds.length ≤ PySem.sizeLine)) (kV Q (.ow (.lst ds)) r) := rfl
theorem ew_lst {es : List ME} : EW T (n + 1) (.lst es) r Q X = FsW T n es r (kLst Q) X := by
  show RQ Q X ((mapR (evF (ev T n)) es r).bind fun ds r1 => if ds.length ≤ PySem.sizeLine then .ok (.ow (.lst ds)) r1 else .bad) = _
  rw [rq_bind]
  refine rq_ext fun ds r1 => ?_
  by_cases h : ds.length ≤ PySem.sizeLine <;> simp [h, AndW, RQ, kLst, kV]
theorem ew_dct0 {t : Bool} : EW T (n + 1) (.dct0 t) r Q X = Q (.ow (if t then .dT [] [] else .dK [] [])) r := rfl
theorem rcW_ {sem : List D → RC} {md : List Bool} {os : List Opn} : RcW sem md os r Q X = ClW sem (rsvs r os) (okCall md os r) os r Q X := by
  unfold RcW runCall ClW okCall
  cases rsvs r os with
  | none => rfl
  | some ds =>
    show RQ Q X (if shp md os = true ∧ (locs os).Nodup ∧ (locs os).all (isOw r) = true then _ else _) = AndW (shp md os && decide (locs os).Nodup && (locs os).all (isOw r)) (kCq sem ds os r Q X)
    by_cases h : shp md os = true ∧ (locs os).Nodup ∧ (locs os).all (isOw r) = true
    · rw [if_pos h]
      have h' : (shp md os && decide (locs os).Nodup && (locs os).all (isOw r)) = true := by simp [h]
      rw [h', andW_t]
      show _ = CQ (sem ds) os r Q X
      cases sem ds with
      | bad => rfl
      | ok v outs =>
        show RQ Q X (if outs.length = (locs os).length then R.ok v (putOuts os outs r) else .bad) = (outs.length = (locs os).length ∧ Q v (putOuts os outs r))
        by_cases g : outs.length = (locs os).length <;> simp [g, RQ]
      | exn v outs =>
        show RQ Q X (if outs.length = (locs os).length then R.exn v (putOuts os outs r) else .bad) = (outs.length = (locs os).length ∧ X v (putOuts os outs r))
        by_cases g : outs.length = (locs os).length <;> simp [g, RQ]
    · rw [if_neg h]
      have h' : ¬ (shp md os && decide (locs os).Nodup && (locs os).all (isOw r)) = true := by
        simp only [Bool.and_eq_true, decide_eq_true_eq]
        exact fun q => h ⟨q.1.1, q.1.2, q.2⟩
      show False = (_ ∧ _)
      exact (eq_false fun q => h' q.1).symm
theorem ew_call {f : Str} {es : List ME} : EW T (n + 1) (.call f es) r Q X = CaW T n f (T.md f) es r Q X := rfl
def kRc (sem : List D → RC) (md : List Bool) (Q : QW) (X : XW) : List Opn → En → Prop := fun os r => RcW sem md os r Q X
theorem kRc_ {sem : List D → RC} {md : List Bool} {os : List Opn} : kRc sem md Q X os r = RcW sem md os r Q X := rfl
def kAl (T : Tbl) (n : Nat) (f : Str) (md : List Bool) (es : List ME) (r : En) (Q : QW) (X : XW) : Unit → Prop := fun _ => AsW T n (md.zip es) r (kRc (T.sem f) md Q X) X
theorem kAl_ {f : Str} {md : List Bool} {es : List ME} {u : Unit} : kAl T n f md es r Q X u = AsW T n (md.zip es) r (kRc (T.sem f) md Q X) X := rfl
theorem caW_ {f : Str} {md : List Bool} {es : List ME} : CaW T n f md es r Q X = AndW (decide (md.length = es.length)) (kAl T n f md es r Q X) := by
  unfold CaW evAs
  by_cases h : md.length = es.length
  · rw [if_pos h, rq_bind]
    simp [AndW, h]
    rfl
  · rw [if_neg h]
    simp [AndW, h, R.bind, RQ]
theorem ew_callk {f : Str} {ks : List Str} {es : List ME} : EW T (n + 1) (.callk f ks es) r Q X = CkW T n f (T.md f) (T.kw f ks) es r Q X := by
  show RQ Q X (match T.kw f ks with
      | some g => (mapR (evF (ev T n)) es r).bind fun ds r1 => runCall (T.md f) (T.sem f) ((g ds).map .d) r1
      | none => .bad) = _
  unfold CkW
  cases T.kw f ks with
  | none => rfl
  | some g =>
    show RQ Q X ((mapR (evF (ev T n)) es r).bind fun ds r1 => runCall (T.md f) (T.sem f) ((g ds).map .d) r1) = _
    rw [rq_bind]
    rfl
theorem ckW_ {f : Str} {md : List Bool} {g : List D → List D} {es : List ME} : CkW T n f md (some g) es r Q X = FsW T n es r (kCk T f md g Q X) X := rfl
theorem csW_nil {Q : Bool → En → Prop} : CsW T n [] r Q X = Q true r := rfl
theorem csW_one {m : ME} {Q : Bool → En → Prop} : CsW T n [m] r Q X = BW T n m r Q X := rfl
def kCp2 (tg : Tg) (r1 : En) (Q : QW) : List D → En → Prop := fun ds r2 => NeW (backE r1 r2 tg.slots) (Q (.ow (.lst ds)))
theorem kCp2_ {tg : Tg} {r1 : En} {ds : List D} : kCp2 tg r1 Q ds r = NeW (backE r1 r tg.slots) (Q (.ow (.lst ds))) := rfl
def kCp1 (T : Tbl) (n : Nat) (cs : List ME) (elt : ME) (tg : Tg) (r1 : En) (Q : QW) (X : XW) : List D → Prop := fun xs => CpW (kConds T n cs) (kElt T n elt) tg xs (wipeE r1 tg.slots) (kCp2 tg r1 Q) X
theorem kCp1_ {cs : List ME} {elt : ME} {tg : Tg} {xs : List D} : kCp1 T n cs elt tg r Q X xs = CpW (kConds T n cs) (kElt T n elt) tg xs (wipeE r tg.slots) (kCp2 tg r Q) X := rfl
def kCp (T : Tbl) (n : Nat) (ik : Nat) (cs : List ME) (elt : ME) (tg : Tg) (Q : QW) (X : XW) : List D → En → Prop := fun ds r1 => WkW (walkD ik ds) (kCp1 T n cs elt tg r1 Q X)
theorem kCp_ {ik : Nat} {cs : List ME} {elt : ME} {tg : Tg} {ds : List D} : kCp T n ik cs elt tg Q X ds r = WkW (walkD ik ds) (kCp1 T n cs elt tg r Q X) := rfl
theorem ew_comp {tg : Tg} {elt : ME} {ik : Nat} {its cs : List ME} : EW T (n + 1) (.comp tg elt ik its cs) r Q X = FsW T n its r (kCp T n ik cs elt tg Q X) X := by
  show RQ Q X ((mapR (evF (ev T n)) its r).bind fun ds r1 => match walkD ik ds with
      | none => .bad
      | some xs => (compL (evCs (ev T n) cs) (evF (ev T n) elt) tg xs (wipeE r1 tg.slots)).bind fun ds r2 => .ok (.ow (.lst ds)) (backE r1 r2 tg.slots)) = _
  rw [rq_bind]
  refine rq_ext fun ds r1 => ?_
  unfold kCp
  cases walkD ik ds with
  | none => rfl
  | some xs =>
    show RQ Q X ((compL (evCs (ev T n) cs) (evF (ev T n) elt) tg xs (wipeE r1 tg.slots)).bind fun ds r2 => .ok (.ow (.lst ds)) (backE r1 r2 tg.slots)) = CpW _ _ _ _ _ _ _
    rw [rq_bind]
    rfl
/-! the parts of a comprehension -/
theorem rq_conds {cs : List ME} {Q : Bool → En → Prop} : RQ Q X (kConds T n cs r) = CsW T n cs r Q X := rfl
def kEl (Q : D → En → Prop) : QW := fun v r => Q v.d r
theorem kEl_ {Q : D → En → Prop} {v : Val} : kEl Q v r = Q v.d r := rfl
theorem rq_elt {e : ME} {Q : D → En → Prop} : RQ Q X (kElt T n e r) = EW T n e r (kEl Q) X := by
  show RQ Q X ((ev T n e r).bind fun v r1 => .ok v.d r1) = _
  rw [rq_bind]
  rfl
theorem fq_body {b : List MS} : FQ K (kBody T lk n b r) = SX T lk n b r K := rfl
theorem rq_cond {m : ME} {Q : Bool → En → Prop} : RQ Q X (kCond T n m r) = BW T n m r Q X := rfl

/-! ### statements -/
def kSq (T : Tbl) (lk : List Nat) (n : Nat) (ss : List MS) (K : Kt) : En → Prop := fun r1 => SX T lk n ss r1 K
theorem kSq_ {ss : List MS} : kSq T lk n ss K r = SX T lk n ss r K := rfl
theorem sx_nil : SX T lk (n + 1) [] r K = K.nx r := rfl
theorem sx_cons {s : MS} {ss : List MS} : SX T lk (n + 1) (s :: ss) r K = S1 T lk n s r ⟨kSq T lk n ss K, K.rt, K.bk, K.ct, K.xn⟩ := by
  show FQ K (match ex T lk n s r with
      | .nx r1 => exs T lk n ss r1
      | f => f) = FQ _ (ex T lk n s r)
  cases ex T lk n s r <;> rfl
def kSt (lk : List Nat) (i : Nat) (K : Kt) : QW := fun v r1 => AndW (decide (i < r1.length) && !(lk.contains i)) (kNe (r1.set i (slotOf v)) K.nx)
theorem kSt_ {v : Val} : kSt lk i K v r = AndW (decide (i < r.length) && !(lk.contains i)) (kNe (r.set i (slotOf v)) K.nx) := rfl
theorem s1_set {e : ME} : S1 T lk (n + 1) (.set i e) r K = EW T n e r (kSt lk i K) K.xn := by
  show FQ K ((ev T n e r).fl fun v r1 => store lk i (slotOf v) r1) = _
  rw [fq_fl]
  refine rq_ext fun v r1 => ?_
  unfold store
  by_cases h : i < r1.length ∧ ¬ i ∈ lk
  · rw [if_pos h]; simp [AndW, h, NeW, FQ, kSt, kNe]
  · rw [if_neg h]
    have : ¬ (decide (i < r1.length) && !(lk.contains i)) = true := by simpa using h
    show False = (_ ∧ _)
    exact (eq_false fun q => this q.1).symm
def kPt (is : List Nat) (d : D) (r : En) (K : Kt) : Unit → Prop := fun _ => OpW (put (.tp is) d r) K.nx
theorem kPt_ {is : List Nat} {d : D} {u : Unit} : kPt is d r K u = OpW (put (.tp is) d r) K.nx := rfl
def kSet (lk : List Nat) (is : List Nat) (K : Kt) : QW := fun v r1 => AndW ((Tg.tp is).free lk) (kPt is v.d r1 K)
theorem kSet_ {is : List Nat} {v : Val} : kSet lk is K v r = AndW ((Tg.tp is).free lk) (kPt is v.d r K) := rfl
theorem s1_sett {is : List Nat} {e : ME} : S1 T lk (n + 1) (.sett is e) r K = EW T n e r (kSet lk is K) K.xn := by
  show FQ K (((ev T n e r).bind fun v r1 => .ok v.d r1).fl fun d r1 => if (Tg.tp is).free lk then (match put (.tp is) d r1 with
        | some r2 => .nx r2
        | none => .bad) else .bad) = _
  rw [fq_fl, rq_bind]
  refine rq_ext fun v r1 => ?_
  show FQ K (if (Tg.tp is).free lk then (match put (.tp is) v.d r1 with
        | some r2 => Fl.nx r2
        | none => .bad) else .bad) = _
  unfold kSet
  cases (Tg.tp is).free lk with
  | false => simp [AndW, FQ]
  | true =>
    rw [andW_t, if_pos rfl]
    unfold kPt
    cases put (.tp is) v.d r1 <;> rfl
def kPr2 (lk : List Nat) (i j : Nat) (v : Val) (K : Kt) : QW := fun w r2 => AndW (decide (i < r2.length) && decide (j < r2.length) && decide (i ≠ j) && !(lk.contains i) && !(lk.contains j)) (kNe ((r2.set i (slotOf v)).set j (slotOf w)) K.nx)
theorem kPr2_ {v w : Val} : kPr2 lk i j v K w r = AndW (decide (i < r.length) && decide (j < r.length) && decide (i ≠ j) && !(lk.contains i) && !(lk.contains j)) (kNe ((r.set i (slotOf v)).set j (slotOf w)) K.nx) := rfl
def kPr1 (T : Tbl) (lk : List Nat) (n i j : Nat) (b : ME) (K : Kt) : QW := fun v r1 => EW T n b r1 (kPr2 lk i j v K) K.xn
theorem kPr1_ {b : ME} {v : Val} : kPr1 T lk n i j b K v r = EW T n b r (kPr2 lk i j v K) K.xn := rfl
theorem s1_par {a b : ME} : S1 T lk (n + 1) (.par i j a b) r K = EW T n a r (kPr1 T lk n i j b K) K.xn := by
  show FQ K ((ev T n a r).fl fun v r1 => (ev T n b r1).fl fun w r2 => if i < r2.length ∧ j < r2.length ∧ i ≠ j ∧ ¬ i ∈ lk ∧ ¬ j ∈ lk then .nx ((r2.set i (slotOf v)).set j (slotOf w)) else .bad) = _
  rw [fq_fl]
  refine rq_ext fun v r1 => ?_
  rw [fq_fl]
  refine rq_ext fun w r2 => ?_
  by_cases h : i < r2.length ∧ j < r2.length ∧ i ≠ j ∧ ¬ i ∈ lk ∧ ¬ j ∈ lk
  · rw [if_pos h]; simp [AndW, h, NeW, FQ, kPr2, kNe]
  · rw [if_neg h]
    have : ¬ (decide (i < r2.length) && decide (j < r2.length) && decide (i ≠ j) && !(lk.contains i) && !(lk.contains j)) = true := by
      intro q
      simp only [Bool.and_eq_true, decide_eq_true_eq, Bool.not_eq_true', List.contains_eq_mem, decide_eq_false_iff_not] at q
      exact h ⟨q.1.1.1.1, q.1.1.1.2, q.1.1.2, q.1.2, q.2⟩
    show False = (_ ∧ _)
    exact (eq_false fun q => this q.1).symm
def kNx (K : Kt) : QW := fun _ r => K.nx r
theorem kNx_ {v : Val} : kNx K v r = K.nx r := rfl
theorem s1_expr {e : ME} : S1 T lk (n + 1) (.expr e) r K = EW T n e r (kNx K) K.xn := by
  show FQ K ((ev T n e r).fl fun _ r1 => .nx r1) = _
  rw [fq_fl]
  rfl
theorem s1_ret {e : ME} : S1 T lk (n + 1) (.ret e) r K = RtW (isVar e) T lk n e r K := by
  cases e with
  | var i =>
    show FQ K (match r[i]? with
        | some (.fz d) => .rt (.fz d) r
        | some (.ow d) => if i ∈ lk then .bad else .rt (.ow d) (r.set i .un)
        | _ => .bad) = (match r[i]? with
    | some (.fz d) => K.rt (.fz d) r
    | some (.ow d) => if i ∈ lk then False else K.rt (.ow d) (r.set i .un)
    | _ => False)
    cases r[i]? with
    | none => rfl
    | some s =>
      cases s with
      | un => rfl
      | fz d => rfl
      | ow d =>
        show FQ K (if i ∈ lk then .bad else .rt (.ow d) (r.set i .un)) = if i ∈ lk then False else K.rt (.ow d) (r.set i .un)
        by_cases h : i ∈ lk <;> simp [h, FQ]
  | _ =>
    show FQ K ((ev T n _ r).fl fun v r1 => .rt v r1) = _
    rw [fq_fl]
    rfl
def kIf (T : Tbl) (lk : List Nat) (n : Nat) (a b : List MS) (K : Kt) : Bool → En → Prop := fun v r1 => IfW v (kS T lk n a r1 K) (kS T lk n b r1 K)
theorem kIf_ {a b : List MS} {v : Bool} : kIf T lk n a b K v r = IfW v (kS T lk n a r K) (kS T lk n b r K) := rfl
theorem s1_iff {c : ME} {a b : List MS} : S1 T lk (n + 1) (.iff c a b) r K = BW T n c r (kIf T lk n a b K) K.xn := by
  show FQ K ((evB (ev T n) c r).fl fun v r1 => if v = true then exs T lk n a r1 else exs T lk n b r1) = _
  rw [fq_fl]
  refine rq_ext fun v r1 => ?_
  cases v <;> rfl
def kFo2 (T : Tbl) (lk : List Nat) (n : Nat) (b : List MS) (tg : Tg) (r : En) (K : Kt) : List D → Prop := fun xs => LpW (kBody T lk n b) tg xs r K
theorem kFo2_ {b : List MS} {tg : Tg} {xs : List D} : kFo2 T lk n b tg r K xs = LpW (kBody T lk n b) tg xs r K := rfl
def kFo1 (T : Tbl) (lk : List Nat) (n : Nat) (b : List MS) (tg : Tg) (ik : Nat) (ds : List D) (r : En) (K : Kt) : Unit → Prop := fun _ => WkW (walkD ik ds) (kFo2 T lk n b tg r K)
theorem kFo1_ {b : List MS} {tg : Tg} {ik : Nat} {ds : List D} {u : Unit} : kFo1 T lk n b tg ik ds r K u = WkW (walkD ik ds) (kFo2 T lk n b tg r K) := rfl
def kFo (T : Tbl) (lk : List Nat) (n : Nat) (b : List MS) (tg : Tg) (ik : Nat) (K : Kt) : List D → En → Prop := fun ds r1 => AndW (tg.free lk) (kFo1 T lk n b tg ik ds r1 K)
theorem kFo_ {b : List MS} {tg : Tg} {ik : Nat} {ds : List D} : kFo T lk n b tg ik K ds r = AndW (tg.free lk) (kFo1 T lk n b tg ik ds r K) := rfl
theorem s1_forr {tg : Tg} {ik : Nat} {its : List ME} {b : List MS} : S1 T lk (n + 1) (.forr tg ik its b) r K = FsW T n its r (kFo T lk n b tg ik K) K.xn := by
  show FQ K ((mapR (evF (ev T n)) its r).fl fun ds r1 => if tg.free lk then (match walkD ik ds with
      | none => .bad
      | some xs => forL (fun r => exs T lk n b r) tg xs r1) else .bad) = _
  rw [fq_fl]
  refine rq_ext fun ds r1 => ?_
  unfold kFo
  cases tg.free lk with
  | false => simp [AndW, FQ]
  | true =>
    rw [andW_t, if_pos rfl]
    unfold kFo1
    cases walkD ik ds <;> rfl
theorem s1_whl {c : ME} {b : List MS} : S1 T lk (n + 1) (.whl c b) r K = WlW (kCond T n c) (kBody T lk n b) whileMost r K := rfl
def ownD (s : Option Slot) : Option D := match s with
  | some (.ow d) => some d
  | _ => none
theorem ownD_ {d : D} : ownD (some (.ow d)) = some d := rfl
def kPut (i : Nat) (r : En) (K : Kt) : D → Prop := fun d => NeW (r.set i (.ow d)) K.nx
theorem kPut_ {d : D} : kPut i r K d = NeW (r.set i (.ow d)) K.nx := rfl
def kOwn (f : D → Option D) (i : Nat) (r : En) (K : Kt) : D → Prop := fun d => OpW (f d) (kPut i r K)
theorem kOwn_ {f : D → Option D} {d : D} : kOwn f i r K d = OpW (f d) (kPut i r K) := rfl
theorem fq_own {f : D → Option D} : FQ K (onOwn i f r) = OpW (ownD r[i]?) (kOwn f i r K) := by
  unfold onOwn
  cases r[i]? with
  | none => rfl
  | some s =>
    cases s with
    | un => rfl
    | fz d => rfl
    | ow d =>
      show FQ K (match f d with
        | some d' => .nx (r.set i (.ow d'))
        | none => .bad) = OpW (f d) _
      cases f d <;> rfl
def lsB (s : Option Slot) : Bool := match s with
  | some (.ow (.lst _)) => true
  | _ => false
def owB (s : Option Slot) : Bool := match s with
  | some (.ow _) => true
  | _ => false
theorem lsB_ {ds : List D} : lsB (some (.ow (.lst ds))) = true := rfl
theorem owB_ {d : D} : owB (some (.ow d)) = true := rfl
def kAp (i : Nat) (K : Kt) : QW := fun v r1 => OpW (ownD r1[i]?) (kOwn (apnd v.d) i r1 K)
theorem kAp_ {v : Val} : kAp i K v r = OpW (ownD r[i]?) (kOwn (apnd v.d) i r K) := rfl
theorem s1_app {e : ME} : S1 T lk (n + 1) (.app i e) r K = AndW (lsB r[i]?) (kE T n e r (kAp i K) K.xn) := by
  show FQ K (if isLs r i = true then (evF (ev T n) e r).fl (fun d r1 => onOwn i (apnd d) r1) else .bad) = _
  have e1 : lsB r[i]? = isLs r i := rfl
  rw [e1]
  cases isLs r i with
  | false => simp [AndW, FQ]
  | true =>
    rw [andW_t, if_pos rfl, fq_fl]
    show RQ _ K.xn ((ev T n e r).bind fun v r1 => .ok v.d r1) = _
    rw [rq_bind]
    exact rq_ext fun v r1 => fq_own
def kSe2 (i : Nat) (v : D) (K : Kt) : QW := fun k r2 => OpW (ownD r2[i]?) (kOwn (setAt k.d v) i r2 K)
theorem kSe2_ {v : D} {k : Val} : kSe2 i v K k r = OpW (ownD r[i]?) (kOwn (setAt k.d v) i r K) := rfl
def kSe1 (T : Tbl) (n i : Nat) (k : ME) (K : Kt) : QW := fun v r1 => AndW (owB r1[i]?) (kE T n k r1 (kSe2 i v.d K) K.xn)
theorem kSe1_ {k : ME} {v : Val} : kSe1 T n i k K v r = AndW (owB r[i]?) (kE T n k r (kSe2 i v.d K) K.xn) := rfl
theorem s1_seti {k e : ME} : S1 T lk (n + 1) (.seti i k e) r K = EW T n e r (kSe1 T n i k K) K.xn := by
  show FQ K ((evF (ev T n) e r).fl fun v r1 => if isOw r1 i = true then (evF (ev T n) k r1).fl fun k r2 => onOwn i (setAt k v) r2 else .bad) = _
  rw [fq_fl]
  show RQ _ K.xn ((ev T n e r).bind fun v r1 => .ok v.d r1) = _
  rw [rq_bind]
  refine rq_ext fun v r1 => ?_
  show FQ K (if isOw r1 i = true then (evF (ev T n) k r1).fl (fun k r2 => onOwn i (setAt k v.d) r2) else .bad) = AndW (owB r1[i]?) _
  have e1 : owB r1[i]? = isOw r1 i := rfl
  rw [e1]
  cases isOw r1 i with
  | false => simp [AndW, FQ]
  | true =>
    rw [andW_t, if_pos rfl, fq_fl]
    show RQ _ K.xn ((ev T n k r1).bind fun v r1 => .ok v.d r1) = _
    rw [rq_bind]
    exact rq_ext fun v r1 => fq_own
theorem s1_pass : S1 T lk (n + 1) .pass r K = K.nx r := rfl
theorem s1_brk : S1 T lk (n + 1) .brk r K = K.bk r := rfl
theorem s1_cont : S1 T lk (n + 1) .cont r K = K.ct r := rfl
theorem s1_raise {c : Str} : S1 T lk (n + 1) (.raise c) r K = K.xn ⟨c, [], []⟩ r := rfl
/-- a suite behind a raise -/
def kCl (i : Option Nat) (N : En → Prop) : En → Prop := fun r => NeW (clr i r) N
theorem kCl_ {o : Option Nat} {N : En → Prop} : kCl o N r = NeW (clr o r) N := rfl
def sutK (i : Option Nat) (K : Kt) : Kt := ⟨kCl i K.nx, K.rt, kCl i K.bk, kCl i K.ct, fun _ _ => False⟩
theorem fq_suite {o : Option Nat} {f : Fl} : FQ K (suiteEnd o f) = FQ (sutK o K) f := by cases f <;> rfl
def kTr1 (T : Tbl) (lk : List Nat) (n : Nat) (c : Str) (o : Option Nat) (s : List MS) (K : Kt) (e : Ex) (r1 : En) : Unit → Prop := fun _ => HnW (T.isx e.c c) (kNe (clr o r1) (kSq T lk n s (sutK o K))) (kX K.xn e r1)
theorem kTr1_ {c : Str} {o : Option Nat} {s : List MS} {e : Ex} {u : Unit} : kTr1 T lk n c o s K e r u = HnW (T.isx e.c c) (kNe (clr o r) (kSq T lk n s (sutK o K))) (kX K.xn e r) := rfl
def kTr (T : Tbl) (lk : List Nat) (n : Nat) (c : Str) (o : Option Nat) (s : List MS) (K : Kt) : XW := fun e r1 => AndW (freeO lk o) (kTr1 T lk n c o s K e r1)
theorem kTr_ {c : Str} {o : Option Nat} {s : List MS} {e : Ex} : kTr T lk n c o s K e r = AndW (freeO lk o) (kTr1 T lk n c o s K e r) := rfl
theorem s1_try {b s : List MS} {c : Str} {o : Option Nat} : S1 T lk (n + 1) (.tryx b c o s) r K = SX T lk n b r ⟨K.nx, K.rt, K.bk, K.ct, kTr T lk n c o s K⟩ := by
  show FQ K (match exs T lk n b r with
      | .exn e r1 => if freeO lk o = true then (match T.isx e.c c with
        | some true => suiteEnd o (exs T lk n s (clr o r1))
        | some false => .exn e r1
        | none => .bad) else .bad
      | f => f) = FQ _ (exs T lk n b r)
  cases exs T lk n b r with
  | exn e r1 =>
    show FQ K (if freeO lk o = true then (match T.isx e.c c with
        | some true => suiteEnd o (exs T lk n s (clr o r1))
        | some false => .exn e r1
        | none => .bad) else .bad) = AndW (freeO lk o) (kTr1 T lk n c o s K e r1)
    cases freeO lk o with
    | false => simp [AndW, FQ]
    | true =>
      rw [andW_t, if_pos rfl]
      unfold kTr1
      cases T.isx e.c c with
      | none => rfl
      | some b =>
        cases b with
        | false => rfl
        | true => exact fq_suite
  | _ => rfl
end
/-! ### reading the environment -/
section
variable {r : En} {i : Nat} {o : Opn} {os : List Opn} {md : List Bool}
def slD (s : Option Slot) : Option D := match s with
  | some (.fz d) => some d
  | some (.ow d) => some d
  | _ => none
theorem slD_fz {d : D} : slD (some (.fz d)) = some d := rfl
theorem slD_ow {d : D} : slD (some (.ow d)) = some d := rfl
theorem rsv_loc : rsv r (.loc i) = slD r[i]? := rfl
theorem rsv_d {d : D} : rsv r (.d d) = some d := rfl
theorem rsvs_nil : rsvs r [] = some [] := rfl
theorem rsvs_cons : rsvs r (o :: os) = (rsv r o).bind fun d => (rsvs r os).map (d :: ·) := by
  show (match rsv r o, rsvs r os with
    | some d, some ds => some (d :: ds)
    | _, _ => none) = _
  cases rsv r o with
  | none => rfl
  | some d => cases rsvs r os <;> rfl
theorem shp_nil : shp [] [] = true := rfl
theorem shp_t : shp (true :: md) (.loc i :: os) = shp md os := rfl
theorem shp_f {d : D} : shp (false :: md) (.d d :: os) = shp md os := rfl
theorem locs_nil : locs [] = [] := rfl
theorem locs_l : locs (.loc i :: os) = i :: locs os := rfl
theorem locs_d' {d : D} : locs (.d d :: os) = locs os := rfl
theorem isOw_ : isOw r i = owB r[i]? := rfl
theorem putOuts_l {d : D} {ds : List D} : putOuts (.loc i :: os) (d :: ds) r = putOuts os ds (r.set i (.ow d)) := rfl
theorem putOuts_d' {d : D} {ds : List D} : putOuts (.d d :: os) ds r = putOuts os ds r := rfl
theorem putOuts_n {ds : List D} : putOuts [] ds r = r := by cases ds <;> rfl
end
/-! ### own classes -/
section
variable {T : Tbl} {n : Nat} {r : En} {Q : QW} {X : XW} {lk : List Nat} {K : Kt} {c m q f : Str} {e : ME} {es : List ME} {o : Opn} {os : List Opn} {v : Val} {i : Nat}
def xF : XW := fun _ _ => False
def kMc (T : Tbl) (q : Str) (o : Opn) (Q : QW) (X : XW) : List Opn → En → Prop := fun os r2 => RcW (T.sem q) (T.md q) (o :: os) r2 Q X
theorem kMc_ : kMc T q o Q X os r = RcW (T.sem q) (T.md q) (o :: os) r Q X := rfl
def kMb (T : Tbl) (n : Nat) (q : Str) (es : List ME) (o : Opn) (r1 : En) (Q : QW) (X : XW) : Unit → Prop := fun _ => AsW T n ((T.md q).tail.zip es) r1 (kMc T q o Q X) X
theorem kMb_ {u : Unit} : kMb T n q es o r Q X u = AsW T n ((T.md q).tail.zip es) r (kMc T q o Q X) X := rfl
def kMa (T : Tbl) (n : Nat) (c m q : Str) (es : List ME) (Q : QW) (X : XW) : Opn → En → Prop := fun o r1 => AndW (isObj c (some m) r1 o) (kMb T n q es o r1 Q X)
theorem kMa_ : kMa T n c m q es Q X o r = AndW (isObj c (some m) r o) (kMb T n q es o r Q X) := rfl
def kMd (T : Tbl) (n : Nat) (c m q : Str) (e : ME) (es : List ME) (r : En) (Q : QW) (X : XW) : Unit → Prop := fun _ => A1W T n ((T.md q).headD false, e) r (kMa T n c m q es Q X) X
theorem kMd_ {u : Unit} : kMd T n c m q e es r Q X u = A1W T n ((T.md q).headD false, e) r (kMa T n c m q es Q X) X := rfl
def kMe (T : Tbl) (n : Nat) (c m : Str) (e : ME) (es : List ME) (r : En) (Q : QW) (X : XW) : Str → Prop := fun q => AndW (decide ((T.md q).tail.length = es.length)) (kMd T n c m q e es r Q X)
theorem kMe_ : kMe T n c m e es r Q X q = AndW (decide ((T.md q).tail.length = es.length)) (kMd T n c m q e es r Q X) := rfl
theorem ew_mth : EW T (n + 1) (.mth c m (e :: es)) r Q X = OpW (T.ct.mt c m) (kMe T n c m e es r Q X) := by
  unfold EW
  cases h : T.ct.mt c m with
  | none => simp only [ev, h]; rfl
  | some q =>
    by_cases hl : (T.md q).tail.length = es.length
    · simp only [ev, h, if_pos hl, rq_bind, OpW, kMe, AndW, decide_eq_true hl, true_and, kMd]
      unfold A1W
      refine rq_ext fun o r1 => ?_
      cases ho : isObj c (some m) r1 o with
      | false => simp [RQ, kMa, AndW, ho]
      | true =>
        simp only [if_true, rq_bind, kMa, AndW, ho, true_and, kMb]
        rfl
    · simp only [ev, h, if_neg hl, OpW, kMe, AndW, decide_eq_false hl]
      simp [RQ]
theorem rq_noX {res : R Val} : RQ Q X (noX res) = RQ Q xF res := by cases res <;> rfl
def kPb (T : Tbl) (q : Str) (o : Opn) (r1 : En) (Q : QW) : Unit → Prop := fun _ => RcW (T.sem q) (T.md q) [o] r1 Q xF
theorem kPb_ {u : Unit} : kPb T q o r Q u = RcW (T.sem q) (T.md q) [o] r Q xF := rfl
def kPa (T : Tbl) (c q : Str) (Q : QW) : Opn → En → Prop := fun o r1 => AndW (isObj c none r1 o) (kPb T q o r1 Q)
theorem kPa_ : kPa T c q Q o r = AndW (isObj c none r o) (kPb T q o r Q) := rfl
def kPo (T : Tbl) (n : Nat) (c : Str) (e : ME) (r : En) (Q : QW) (X : XW) : Str → Prop := fun q => A1W T n ((T.md q).headD false, e) r (kPa T c q Q) X
theorem kPo_ : kPo T n c e r Q X q = A1W T n ((T.md q).headD false, e) r (kPa T c q Q) X := rfl
theorem ew_prp : EW T (n + 1) (.prp c m e) r Q X = OpW (T.ct.pr c m) (kPo T n c e r Q X) := by
  unfold EW
  cases h : T.ct.pr c m with
  | none => simp only [ev, h]; rfl
  | some q =>
    simp only [ev, h, rq_bind, OpW, kPo]
    unfold A1W
    refine rq_ext fun o r1 => ?_
    cases ho : isObj c none r1 o with
    | false => simp [RQ, kPa, AndW, ho]
    | true =>
      simp only [if_true, rq_noX, kPa, AndW, ho, true_and, kPb]
      rfl
def kLn3 (Q : QW) (k : Int) (r : En) : Unit → Prop := fun _ => Q (.fz (.int k)) r
theorem kLn3_ {k : Int} {u : Unit} : kLn3 Q k r u = Q (.fz (.int k)) r := rfl
def kLn2 (Q : QW) (r : En) : Int → Prop := fun k => AndW (decide (0 ≤ k ∧ k < 2 ^ 63)) (kLn3 Q k r)
theorem kLn2_ {k : Int} : kLn2 Q r k = AndW (decide (0 ≤ k ∧ k < 2 ^ 63)) (kLn3 Q k r) := rfl
def kLn (Q : QW) : QW := fun v r => asIW v (kLn2 Q r)
theorem kLn_ : kLn Q v r = asIW v (kLn2 Q r) := rfl
theorem rq_lenR {res : R Val} : RQ Q X (lenR res) = RQ (kLn Q) xF res := by
  cases res with
  | bad => rfl
  | exn e r => rfl
  | ok v r =>
    cases v with
    | ow d => rfl
    | fz d =>
      cases d <;> first | rfl | skip
      rename_i k
      show RQ Q X (if 0 ≤ k ∧ k < 2 ^ 63 then .ok (.fz (.int k)) r else .bad) = AndW (decide (0 ≤ k ∧ k < 2 ^ 63)) (kLn3 Q k r)
      by_cases h : 0 ≤ k ∧ k < 2 ^ 63
      · rw [if_pos h, decide_eq_true h]
        simp [AndW, kLn3, RQ]
      · rw [if_neg h, decide_eq_false h]
        simp [AndW, RQ]
theorem ew_leno : EW T (n + 1) (.leno c e) r Q X = OpW (T.ct.mt c "__len__") (kPo T n c e r (kLn Q) X) := by
  unfold EW
  cases h : T.ct.mt c "__len__" with
  | none => simp only [ev, h]; rfl
  | some q =>
    simp only [ev, h, rq_bind, OpW, kPo]
    unfold A1W
    refine rq_ext fun o r1 => ?_
    cases ho : isObj c none r1 o with
    | false => simp [RQ, kPa, AndW, ho]
    | true =>
      simp only [if_true, rq_lenR, kPa, AndW, ho, true_and, kPb]
      rfl
def kIn2 (neg : Bool) (Q : QW) (r : En) : Bool → Prop := fun b => Q (.fz (.bl (if neg then !b else b))) r
theorem kIn2_t {b : Bool} : kIn2 true Q r b = Q (.fz (.bl (!b))) r := rfl
theorem kIn2_f {b : Bool} : kIn2 false Q r b = Q (.fz (.bl b)) r := rfl
def kIn (neg : Bool) (Q : QW) : QW := fun v r => asBW v (kIn2 neg Q r)
theorem kIn_ {neg : Bool} : kIn neg Q v r = asBW v (kIn2 neg Q r) := rfl
theorem rq_inR {neg : Bool} {res : R Val} : RQ Q X (inR neg res) = RQ (kIn neg Q) xF res := by
  cases res with
  | bad => rfl
  | exn e r => rfl
  | ok v r =>
    cases v with
    | ow d => rfl
    | fz d => cases d <;> rfl
theorem rq_eqR {res : R Val} : RQ Q X (eqR res) = RQ (kIn false Q) xF res := by
  cases res with
  | bad => rfl
  | exn e r => rfl
  | ok v r =>
    cases v with
    | ow d => rfl
    | fz d => cases d <;> rfl
def kIc (T : Tbl) (q : Str) (o y : Opn) (r1 : En) (Q : QW) : Unit → Prop := fun _ => RcW (T.sem q) (T.md q) [o, y] r1 Q xF
theorem kIc_ {y : Opn} {u : Unit} : kIc T q o y r Q u = RcW (T.sem q) (T.md q) [o, y] r Q xF := rfl
def kIb (T : Tbl) (c q : Str) (y : Opn) (Q : QW) : Opn → En → Prop := fun o r1 => AndW (isObj c none r1 o) (kIc T q o y r1 Q)
theorem kIb_ {y : Opn} : kIb T c q y Q o r = AndW (isObj c none r o) (kIc T q o y r Q) := rfl
def kIa (T : Tbl) (n : Nat) (c q : Str) (b : ME) (Q : QW) (X : XW) : Opn → En → Prop := fun y r1 => A1W T n ((T.md q).headD false, b) r1 (kIb T c q y Q) X
theorem kIa_ {b : ME} : kIa T n c q b Q X o r = A1W T n ((T.md q).headD false, b) r (kIb T c q o Q) X := rfl
def kIo (T : Tbl) (n : Nat) (c : Str) (a b : ME) (r : En) (Q : QW) (X : XW) : Str → Prop := fun q => A1W T n (false, a) r (kIa T n c q b Q X) X
theorem kIo_ {a b : ME} : kIo T n c a b r Q X q = A1W T n (false, a) r (kIa T n c q b Q X) X := rfl
theorem ew_inn {neg : Bool} {a b : ME} : EW T (n + 1) (.inn neg c a b) r Q X = OpW (T.ct.mt c "__contains__") (kIo T n c a b r (kIn neg Q) X) := by
  unfold EW
  cases h : T.ct.mt c "__contains__" with
  | none => simp only [ev, h]; rfl
  | some q =>
    simp only [ev, h, rq_bind, OpW, kIo]
    unfold A1W
    refine rq_ext fun y r1 => ?_
    simp only [kIa, A1W]
    refine rq_ext fun o r2 => ?_
    cases ho : isObj c none r2 o with
    | false => simp [RQ, kIb, AndW, ho]
    | true =>
      simp only [if_true, rq_inR, kIb, AndW, ho, true_and, kIc]
      rfl
def kQc (T : Tbl) (q : Str) (x y : Opn) (r1 : En) (Q : QW) : Unit → Prop := fun _ => RcW (T.sem q) (T.md q) [x, y] r1 Q xF
theorem kQc_ {x y : Opn} {u : Unit} : kQc T q x y r Q u = RcW (T.sem q) (T.md q) [x, y] r Q xF := rfl
def kQb (T : Tbl) (c q : Str) (x : Opn) (Q : QW) : Opn → En → Prop := fun y r1 => AndW (isObj c none r1 x && isObj c none r1 y) (kQc T q x y r1 Q)
theorem kQb_ {x : Opn} : kQb T c q x Q o r = AndW (isObj c none r x && isObj c none r o) (kQc T q x o r Q) := rfl
def kQa (T : Tbl) (n : Nat) (c q : Str) (b : ME) (Q : QW) (X : XW) : Opn → En → Prop := fun x r1 => A1W T n (false, b) r1 (kQb T c q x Q) X
theorem kQa_ {b : ME} : kQa T n c q b Q X o r = A1W T n (false, b) r (kQb T c q o Q) X := rfl
def kQo (T : Tbl) (n : Nat) (c : Str) (a b : ME) (r : En) (Q : QW) (X : XW) : Str → Prop := fun q => A1W T n (false, a) r (kQa T n c q b Q X) X
theorem kQo_ {a b : ME} : kQo T n c a b r Q X q = A1W T n (false, a) r (kQa T n c q b Q X) X := rfl
theorem ew_eqo {a b : ME} : EW T (n + 1) (.eqo c a b) r Q X = OpW (T.ct.mt c "__eq__") (kQo T n c a b r (kIn false Q) X) := by
  unfold EW
  cases h : T.ct.mt c "__eq__" with
  | none => simp only [ev, h]; rfl
  | some q =>
    simp only [ev, h, rq_bind, OpW, kQo]
    unfold A1W
    refine rq_ext fun x r1 => ?_
    simp only [kQa, A1W]
    refine rq_ext fun y r2 => ?_
    cases hx : isObj c none r2 x with
    | false => simp [RQ, kQb, AndW, hx]
    | true =>
      cases hy : isObj c none r2 y with
      | false => simp [RQ, kQb, AndW, hy]
      | true =>
        simp only [kQb, AndW, hx, hy, Bool.and_self, true_and, kQc, RcW, and_self, if_true, rq_eqR]
def NwW (v : Val) (P : Prop) : Prop := match v with
  | .fz .non => P
  | _ => False
theorem nwW_ {P : Prop} : NwW (.fz .non) P = P := rfl
def kNq (Q : QW) (r : En) : D → Prop := fun o => Q (.ow o) r
theorem kNq_ {d : D} : kNq Q r d = Q (.ow d) r := rfl
def kNw (L : Nat) (Q : QW) : QW := fun v r => NwW v (OpW (ownD r[L]?) (kNq Q (r.take L)))
theorem kNw_ {L : Nat} : kNw L Q v r = NwW v (OpW (ownD r[L]?) (kNq Q (r.take L))) := rfl
def kNz (L : Nat) (X : XW) : XW := fun e r => X e (r.take L)
theorem kNz_ {L : Nat} {e : Ex} : kNz L X e r = X e (r.take L) := rfl
theorem rq_newR {L : Nat} {res : R Val} : RQ Q X (newR L res) = RQ (kNw L Q) (kNz L X) res := by
  cases res with
  | bad => rfl
  | exn e r => rfl
  | ok v r =>
    cases v with
    | ow d => rfl
    | fz d =>
      cases d <;> first | rfl | skip
      show RQ Q X (match r[L]? with
        | some (.ow o) => .ok (.ow o) (r.take L)
        | _ => .bad) = OpW (ownD r[L]?) (kNq Q (r.take L))
      cases r[L]? with
      | none => rfl
      | some s => cases s <;> rfl
def kNb (T : Tbl) (c q : Str) (Q : QW) (X : XW) : List Opn → En → Prop := fun os r => RcW (T.sem q) (T.md q) (.loc r.length :: os) (r ++ [.ow (.obj c [] [])]) (kNw r.length Q) (kNz r.length X)
theorem kNb_ : kNb T c q Q X os r = RcW (T.sem q) (T.md q) (.loc r.length :: os) (r ++ [.ow (.obj c [] [])]) (kNw r.length Q) (kNz r.length X) := rfl
def kNa (T : Tbl) (n : Nat) (c q : Str) (es : List ME) (r : En) (Q : QW) (X : XW) : Unit → Prop := fun _ => AsW T n ((T.md q).tail.zip es) r (kNb T c q Q X) X
theorem kNa_ {u : Unit} : kNa T n c q es r Q X u = AsW T n ((T.md q).tail.zip es) r (kNb T c q Q X) X := rfl
def kNo (T : Tbl) (n : Nat) (c : Str) (es : List ME) (r : En) (Q : QW) (X : XW) : Str → Prop := fun q => AndW (T.ct.nw c && decide ((T.md q).tail.length = es.length)) (kNa T n c q es r Q X)
theorem kNo_ : kNo T n c es r Q X q = AndW (T.ct.nw c && decide ((T.md q).tail.length = es.length)) (kNa T n c q es r Q X) := rfl
theorem ew_new : EW T (n + 1) (.new c es) r Q X = OpW (T.ct.mt c "__init__") (kNo T n c es r Q X) := by
  unfold EW
  cases h : T.ct.mt c "__init__" with
  | none => simp only [ev, h]; rfl
  | some q =>
    by_cases hl : T.ct.nw c = true ∧ (T.md q).tail.length = es.length
    · simp only [ev, h, if_pos hl, rq_bind]
      simp only [OpW, kNo, AndW, hl.1, decide_eq_true hl.2, Bool.and_self, true_and, kNa]
      unfold AsW
      refine rq_ext fun os r1 => ?_
      unfold Mp.newObj
      rw [rq_newR]
      rfl
    · simp only [ev, h, if_neg hl, OpW, kNo, AndW]
      simp [RQ]
      intro h1 h2
      exact absurd ⟨h1, by simpa using h2⟩ hl
def kSf (T : Tbl) (i : Nat) (f : Str) (K : Kt) : QW := fun v r1 => AndW (owB r1[i]?) (kSg T i f v.d r1 K)
where kSg (T : Tbl) (i : Nat) (f : Str) (d : D) (r1 : En) (K : Kt) : Unit → Prop := fun _ => OpW (ownD r1[i]?) (kOwn (setFld T.ct f d) i r1 K)
theorem kSf_ : kSf T i f K v r = AndW (owB r[i]?) (kSf.kSg T i f v.d r K) := rfl
theorem kSg_ {d : D} {u : Unit} : kSf.kSg T i f d r K u = OpW (ownD r[i]?) (kOwn (setFld T.ct f d) i r K) := rfl
theorem s1_setf {e : ME} : S1 T lk (n + 1) (.setf i f e) r K = EW T n e r (kSf T i f K) K.xn := by
  show FQ K ((evF (ev T n) e r).fl fun v r1 => if isOw r1 i = true then onOwn i (setFld T.ct f v) r1 else .bad) = _
  rw [fq_fl]
  show RQ _ K.xn ((ev T n e r).bind fun v r1 => .ok v.d r1) = _
  rw [rq_bind]
  refine rq_ext fun v r1 => ?_
  show FQ K (if isOw r1 i = true then onOwn i (setFld T.ct f v.d) r1 else .bad) = AndW (owB r1[i]?) _
  have e1 : owB r1[i]? = isOw r1 i := rfl
  rw [e1]
  cases isOw r1 i with
  | false => simp [AndW, FQ]
  | true =>
    rw [andW_t, if_pos rfl]
    exact fq_own
variable {Q' : Opn → En → Prop}
theorem ow_mth : OW T n (.mth c m es) r Q' X = EW T n (.mth c m es) r (kD Q') X := ow_of fun i z => by cases z
theorem ow_prp : OW T n (.prp c m e) r Q' X = EW T n (.prp c m e) r (kD Q') X := ow_of fun i z => by cases z
theorem ow_new : OW T n (.new c es) r Q' X = EW T n (.new c es) r (kD Q') X := ow_of fun i z => by cases z
theorem ow_inn {neg : Bool} {a b : ME} : OW T n (.inn neg c a b) r Q' X = EW T n (.inn neg c a b) r (kD Q') X := ow_of fun i z => by cases z
theorem ow_leno : OW T n (.leno c e) r Q' X = EW T n (.leno c e) r (kD Q') X := ow_of fun i z => by cases z
theorem ow_eqo {a b : ME} : OW T n (.eqo c a b) r Q' X = EW T n (.eqo c a b) r (kD Q') X := ow_of fun i z => by cases z
theorem ow_compn {cl : List MCl} : OW T n (.compn cl e) r Q' X = EW T n (.compn cl e) r (kD Q') X := ow_of fun i z => by cases z
def TaW (v : Val) (P : List D → Prop) : Prop := match v with
  | .ow (.lst ds) => P ds
  | _ => False
theorem taW_ {ds : List D} {P : List D → Prop} : TaW (.ow (.lst ds)) P = P ds := rfl
def kTd (Q : QW) (r : En) : Unit → Prop := fun _ => Q (.fz .non) r
theorem kTd_ {Q : QW} {u : Unit} : kTd Q r u = Q (.fz .non) r := rfl
def kTc (ds : List D) (Q : QW) : QW := fun _ r2 => AndW (decide (ds.length < PySem.sizeLine)) (kTd Q r2)
theorem kTc_ {ds : List D} {Q : QW} : kTc ds Q v r = AndW (decide (ds.length < PySem.sizeLine)) (kTd Q r) := rfl
def kTb (T : Tbl) (n : Nat) (e : ME) (r1 : En) (Q : QW) (X : XW) : List D → Prop := fun ds => EW T n e r1 (kTc ds Q) X
theorem kTb_ {ds : List D} {Q : QW} : kTb T n e r Q X ds = EW T n e r (kTc ds Q) X := rfl
def kTa (T : Tbl) (n : Nat) (e : ME) (Q : QW) (X : XW) : QW := fun v r1 => TaW v (kTb T n e r1 Q X)
theorem kTa_ {Q : QW} : kTa T n e Q X v r = TaW v (kTb T n e r Q X) := rfl
theorem ew_tapp {a : ME} {Q : QW} : EW T (n + 1) (.tapp a e) r Q X = EW T n a r (kTa T n e Q X) X := by
  unfold EW
  simp only [ev, rq_bind]
  refine rq_ext fun v r1 => ?_
  cases v with
  | fz d => rfl
  | ow d =>
    cases d <;> first | rfl | skip
    rename_i ds
    show RQ Q X ((evF (ev T n) e r1).bind fun _ r2 => if ds.length < PySem.sizeLine then .ok (.fz .non) r2 else .bad) = RQ (kTc ds Q) X (ev T n e r1)
    rw [rq_bind]
    show RQ _ X ((ev T n e r1).bind fun v r1 => .ok v.d r1) = _
    rw [rq_bind]
    refine rq_ext fun v r2 => ?_
    show RQ Q X (if ds.length < PySem.sizeLine then .ok (.fz .non) r2 else .bad) = _
    by_cases h : ds.length < PySem.sizeLine <;> simp [h, AndW, RQ, kTc, kTd]
theorem ow_tapp {a : ME} : OW T n (.tapp a e) r Q' X = EW T n (.tapp a e) r (kD Q') X := ow_of fun i z => by cases z
theorem y_isObj {c' : Str} {fs : List Str} {ds : List D} {i : Nat} (h : rsv r o = some (.obj c' fs ds)) : isObj c none r o = decide (c' = c) := by
  unfold isObj
  rw [h]
  simp
theorem isObj_d {c' : Str} {fs : List Str} {ds : List D} {m : Option Str} : isObj c m r (.d (.obj c' fs ds)) = (decide (c' = c) && (match m with | some m => !fs.any (· == m) | none => true)) := rfl
end
end Mw

set_option Elab.async false
set_option linter.all false
set_option maxRecDepth 100000
set_option maxHeartbeats 4000000
/-! W2: the run of simp; calls, loops, comprehensions. -/
namespace Mw
open PySem Mp
section
variable {P : Str → Option Fn} {gl : Str → Option D} {isx : Str → Str → Option Bool} {kw : Str → List Str → Option (List D → List D)} {ct : CT} {n : Nat}
def mdO : Option Fn → List Bool
  | some g => g.md
  | none => []
theorem mdO_ {g : Fn} : mdO (some g) = g.md := rfl
theorem tbl_md {f : Str} : (tbl P gl isx kw ct n).md f = mdO (P f) := by
  cases n <;> (show (match P f with | some g => g.md | none => []) = _; cases P f <;> rfl)
theorem tbl_gl {f : Str} : (tbl P gl isx kw ct n).gl f = gl f := by cases n <;> rfl
theorem tbl_isx {f g : Str} : (tbl P gl isx kw ct n).isx f g = isx f g := by cases n <;> rfl
theorem tbl_ct : (tbl P gl isx kw ct n).ct = ct := by cases n <;> rfl
theorem tbl_kw {f : Str} {ks : List Str} : (tbl P gl isx kw ct n).kw f ks = kw f ks := by cases n <;> rfl
theorem tbl_sem {f : Str} {ds : List D} {g : Fn} (h : P f = some g) : (tbl P gl isx kw ct (n + 1)).sem f ds = runFn (tbl P gl isx kw ct n) g ds := by
  show (match P f with
    | some g => runFn (tbl P gl isx kw ct n) g ds
    | none => .bad) = _
  rw [h]
end
/-- the end of a def -/
def EnW (r : En) (lk : List Nat) (Q : List D → Prop) : Prop := OpW (outsOf r lk) Q
theorem enW_nil {r : En} {Q : List D → Prop} : EnW r [] Q = Q [] := rfl
def kOu (d : D) (Q : List D → Prop) : List D → Prop := fun ds => Q (d :: ds)
theorem kOu_ {d : D} {Q : List D → Prop} {ds : List D} : kOu d Q ds = Q (d :: ds) := rfl
def ouW (s : Option Slot) (r : En) (lk : List Nat) (Q : List D → Prop) : Prop := match s with
  | some (.ow d) => EnW r lk (kOu d Q)
  | _ => False
theorem ouW_ {d : D} {r : En} {lk : List Nat} {Q : List D → Prop} : ouW (some (.ow d)) r lk Q = EnW r lk (kOu d Q) := rfl
theorem enW_cons {r : En} {i : Nat} {lk : List Nat} {Q : List D → Prop} : EnW r (i :: lk) Q = ouW r[i]? r lk Q := by
  show OpW (match r[i]?, outsOf r lk with
    | some (.ow d), some ds => some (d :: ds)
    | _, _ => none) Q = _
  cases r[i]? with
  | none => rfl
  | some s =>
    cases s with
    | un => rfl
    | fz d => rfl
    | ow d =>
      show _ = OpW (outsOf r lk) _
      cases outsOf r lk <;> rfl
def kEn (lk : List Nat) (Q : List D → Prop) : En → Prop := fun r => EnW r lk Q
theorem kEn_ {lk : List Nat} {Q : List D → Prop} {r : En} : kEn lk Q r = EnW r lk Q := rfl
def kEv (lk : List Nat) (Q : Val → List D → Prop) : QW := fun v r => EnW r lk (Q v)
theorem kEv_ {lk : List Nat} {Q : Val → List D → Prop} {v : Val} {r : En} : kEv lk Q v r = EnW r lk (Q v) := rfl
def kEx (lk : List Nat) (X : Ex → List D → Prop) : XW := fun v r => EnW r lk (X v)
theorem kEx_ {lk : List Nat} {Q : Ex → List D → Prop} {v : Ex} {r : En} : kEx lk Q v r = EnW r lk (Q v) := rfl
/-- a def's run -/
theorem cw_def0 {P : Str → Option Fn} {gl : Str → Option D} {isx : Str → Str → Option Bool} {kw : Str → List Str → Option (List D → List D)} {ct : CT} {n : Nat} {f : Str} {ds : List D} {g : Fn} {Q : Val → List D → Prop} {X : Ex → List D → Prop} (h : P f = some g)
    (l : ds.length = g.md.length ∧ g.md.length ≤ g.n)
    (hb : SX (tbl P gl isx kw ct n) (lkOf g.md) 60 g.body (entry g.md g.n ds) ⟨kEn (lkOf g.md) (Q (.fz .non)), kEv (lkOf g.md) Q, fun _ => False, fun _ => False, kEx (lkOf g.md) X⟩) :
    CW ((tbl P gl isx kw ct (n + 1)).sem f ds) Q X := by
  rw [tbl_sem h]
  unfold runFn
  rw [if_pos l]
  have hb' : FQ _ (exs (tbl P gl isx kw ct n) (lkOf g.md) fuel g.body (entry g.md g.n ds)) := hb
  revert hb'
  cases exs (tbl P gl isx kw ct n) (lkOf g.md) fuel g.body (entry g.md g.n ds) with
  | bad => exact fun h => h
  | bk r => exact fun h => h
  | ct r => exact fun h => h
  | nx r =>
    intro (h : OpW (outsOf r _) _)
    show CW (match outsOf r _ with | some os => .ok (.fz .non) os | none => .bad) Q X
    cases e : outsOf r (lkOf g.md) with
    | none => rw [e] at h; exact h
    | some os => rw [e] at h; exact h
  | rt v r =>
    intro (h : OpW (outsOf r _) _)
    show CW (match outsOf r _ with | some os => .ok v os | none => .bad) Q X
    cases e : outsOf r (lkOf g.md) with
    | none => rw [e] at h; exact h
    | some os => rw [e] at h; exact h
  | exn v r =>
    intro (h : OpW (outsOf r _) _)
    show CW (match outsOf r _ with | some os => .exn v os | none => .bad) Q X
    cases e : outsOf r (lkOf g.md) with
    | none => rw [e] at h; exact h
    | some os => rw [e] at h; exact h
theorem cw_def {P : Str → Option Fn} {gl : Str → Option D} {isx : Str → Str → Option Bool} {kw : Str → List Str → Option (List D → List D)} {ct : CT} {n : Nat} {f : Str} {ds : List D} {md : List Bool} {k : Nat} {b : List MS} {Q : Val → List D → Prop} {X : Ex → List D → Prop} (lk : List Nat) (r : En) (h : P f = some ⟨md, k, b⟩)
    (l : ds.length = md.length ∧ md.length ≤ k) (e1 : lkOf md = lk) (e2 : entry md k ds = r)
    (hb : SX (tbl P gl isx kw ct n) lk 60 b r ⟨kEn lk (Q (.fz .non)), kEv lk Q, fun _ => False, fun _ => False, kEx lk X⟩) :
    CW ((tbl P gl isx kw ct (n + 1)).sem f ds) Q X := by
  subst e1 e2
  exact cw_def0 h l hb
theorem fq_mono {K K' : Kt} {f : Fl} (h : FQ K f) (h1 : ∀ r, K.nx r → K'.nx r) (h2 : ∀ v r, K.rt v r → K'.rt v r) (h3 : ∀ r, K.bk r → K'.bk r) (h4 : ∀ r, K.ct r → K'.ct r) (h5 : ∀ e r, K.xn e r → K'.xn e r) : FQ K' f := by
  cases f with
  | bad => exact h
  | nx r => exact h1 _ h
  | rt v r => exact h2 _ _ h
  | bk r => exact h3 _ h
  | ct r => exact h4 _ h
  | exn e r => exact h5 _ _ h
/-- what holds behind a piece -/
theorem sx_cut {T : Tbl} {lk : List Nat} {n : Nat} {b : List MS} {r : En} {K : Kt} (J : En → Prop) (h : SX T lk n b r ⟨J, K.rt, K.bk, K.ct, K.xn⟩) (i : ∀ r, J r → K.nx r) : SX T lk n b r K :=
  fq_mono h i (fun _ _ h => h) (fun _ h => h) (fun _ h => h) (fun _ _ h => h)
theorem s1_cut {T : Tbl} {lk : List Nat} {n : Nat} {b : MS} {r : En} {K : Kt} (J : En → Prop) (h : S1 T lk n b r ⟨J, K.rt, K.bk, K.ct, K.xn⟩) (i : ∀ r, J r → K.nx r) : S1 T lk n b r K :=
  fq_mono h i (fun _ _ h => h) (fun _ h => h) (fun _ h => h) (fun _ _ h => h)
theorem if_cut {T : Tbl} {lk : List Nat} {n m : Nat} {a b : List MS} {r r' : En} {K : Kt} {q : Bool} (J : En → Prop) (h1 : q = true → SX T lk n a r ⟨J, K.rt, K.bk, K.ct, K.xn⟩) (h2 : q = false → SX T lk m b r' ⟨J, K.rt, K.bk, K.ct, K.xn⟩) (i : ∀ r, J r → K.nx r) : IfW q (kS T lk n a r K) (kS T lk m b r' K) := by
  cases q with
  | true => exact sx_cut J (h1 rfl) i
  | false => exact sx_cut J (h2 rfl) i
theorem ife_cut0 {A B : Unit → Prop} {P : Prop} {q : Bool} (h : (q = true → A ()) ∧ (q = false → B ())) : IfW q A B := by
  cases q with
  | true => exact h.1 rfl
  | false => exact h.2 rfl
theorem rq_mono {α : Type} {Q Q' : α → En → Prop} {X X' : XW} {m : R α} (h : RQ Q X m) (h1 : ∀ v r, Q v r → Q' v r) (h2 : ∀ e r, X e r → X' e r) : RQ Q' X' m := by
  cases m with
  | bad => exact h
  | ok v r => exact h1 _ _ h
  | exn e r => exact h2 _ _ h
theorem ew_cut {T : Tbl} {n : Nat} {m : ME} {r : En} {Q : QW} {X : XW} (J : QW) (h : EW T n m r J X) (i : ∀ v r, J v r → Q v r) : EW T n m r Q X := rq_mono h i fun _ _ h => h
theorem ife_cut {T : Tbl} {n m : Nat} {a b : ME} {r r' : En} {Q : QW} {X : XW} {q : Bool} (J : QW) (h1 : q = true → EW T n a r J X) (h2 : q = false → EW T m b r' J X) (i : ∀ v r, J v r → Q v r) : IfW q (kE T n a r Q X) (kE T m b r' Q X) := by
  cases q with
  | true => exact ew_cut J (h1 rfl) i
  | false => exact ew_cut J (h2 rfl) i
theorem cw_mono {c : RC} {Q Q' : Val → List D → Prop} {X X' : Ex → List D → Prop} (h : CW c Q X) (i : ∀ v os, Q v os → Q' v os) (j : ∀ e os, X e os → X' e os) : CW c Q' X' := by
  cases c with
  | bad => exact h
  | ok v os => exact i _ _ h
  | exn e os => exact j _ _ h
/-- a call by what is known of it -/
theorem cq_of {c : RC} {os : List Opn} {r : En} {P : Val → List D → Prop} {X0 : Ex → List D → Prop} {Q : Val → En → Prop} {X : XW} (h : CW c P X0) (i : ∀ v outs, P v outs → outs.length = (locs os).length ∧ Q v (putOuts os outs r)) (j : ∀ e outs, X0 e outs → outs.length = (locs os).length ∧ X e (putOuts os outs r)) : CQ c os r Q X :=
  cw_mono h i j
abbrev noX : Ex → List D → Prop := fun _ _ => False
/-- .. that raises nothing -/
theorem cq_ok {c : RC} {os : List Opn} {r : En} {P : Val → List D → Prop} {Q : Val → En → Prop} {X : XW} (h : CW c P noX) (i : ∀ v outs, P v outs → outs.length = (locs os).length ∧ Q v (putOuts os outs r)) : CQ c os r Q X :=
  cw_mono h i fun _ _ z => z.elim
theorem cw_ok {c : RC} {v : Val} {os : List D} : CW c (fun v' os' => v' = v ∧ os' = os) noX ↔ c = .ok v os := by
  cases c with
  | bad => exact ⟨fun h => h.elim, fun h => by cases h⟩
  | exn e o => exact ⟨fun h => h.elim, fun h => by cases h⟩
  | ok w o => exact ⟨fun h => by rw [h.1, h.2], fun h => by cases h; exact ⟨rfl, rfl⟩⟩
theorem cw_exn {c : RC} {e : Ex} {os : List D} : CW c (fun _ _ => False) (fun e' os' => e' = e ∧ os' = os) ↔ c = .exn e os := by
  cases c with
  | bad => exact ⟨fun h => h.elim, fun h => by cases h⟩
  | ok w o => exact ⟨fun h => h.elim, fun h => by cases h⟩
  | exn e o => exact ⟨fun h => by rw [h.1, h.2], fun h => by cases h; exact ⟨rfl, rfl⟩⟩
theorem cq_exn0 {r : En} {Q : QW} {X : XW} {e : Ex} {ds : List Opn} (h : (locs ds).length = 0) : CQ (.exn e []) ds r Q X = X e (putOuts ds [] r) := by
  show (_ ∧ _) = _
  simp [h]
theorem ifW_of {b : Bool} {A B : Unit → Prop} (h1 : b = true → A ()) (h2 : b = false → B ()) : IfW b A B := by
  cases b with
  | true => rw [ifW_t]; exact h1 rfl
  | false => rw [ifW_f]; exact h2 rfl
theorem ifW_dec {p : Prop} [Decidable p] {A B : Unit → Prop} (h1 : p → A ()) (h2 : ¬ p → B ()) : IfW (decide p) A B := ifW_of (fun h => h1 (of_decide_eq_true h)) fun h => h2 (of_decide_eq_false h)
theorem andW_of {b : Bool} {A : Unit → Prop} (h : b = true) (a : A ()) : AndW b A := ⟨h, a⟩
def kLb (f : En → Fl) (K : Kt) : En → Prop := fun r1 => FQ K (f r1)
theorem kLb_ {f : En → Fl} {K : Kt} {r : En} : kLb f K r = FQ K (f r) := rfl
def kCb (cond : En → R Bool) (Q : Bool → En → Prop) : En → Prop := fun r1 => RQ Q (fun _ _ => False) (cond r1)
theorem kCb_ {cond : En → R Bool} {Q : Bool → En → Prop} {r : En} : kCb cond Q r = RQ Q (fun _ _ => False) (cond r) := rfl
/-- a loop that keeps I; j counts the turns -/
theorem lp_inv {f : En → Fl} {tg : Tg} {K : Kt} (I : Nat → En → Prop) : ∀ {xs : List D} {r : En} (j : Nat), I j r → (∀ i x r, xs[i]? = some x → I (j + i) r → OpW (put tg x r) (kLb f ⟨I (j + i + 1), K.rt, K.nx, I (j + i + 1), K.xn⟩)) → (∀ r, I (j + xs.length) r → K.nx r) → LpW f tg xs r K
  | [], r, j, h0, _, hd => hd r h0
  | x :: xs, r, j, h0, hs, hd => by
    have h := hs 0 x r rfl h0
    show FQ K (match put tg x r with
    | none => .bad
    | some r1 => match f r1 with
      | .nx r2 => forL f tg xs r2
      | .ct r2 => forL f tg xs r2
      | .bk r2 => .nx r2
      | f => f)
    cases e : put tg x r with
    | none => rw [e] at h; exact h
    | some r1 =>
      rw [e] at h
      have h : FQ ⟨I (j + 0 + 1), K.rt, K.nx, I (j + 0 + 1), K.xn⟩ (f r1) := h
      have go : ∀ r2, I (j + 0 + 1) r2 → LpW f tg xs r2 K := fun r2 h2 => lp_inv I (j + 1) h2 (fun i x r hx hi => by
        have hi : I (j + (i + 1)) r := by rw [show j + (i + 1) = j + 1 + i by omega]; exact hi
        have := hs (i + 1) x r hx hi
        rw [show j + (i + 1) = j + 1 + i by omega] at this
        exact this) (fun r h => hd r (by rw [List.length_cons, show j + (xs.length + 1) = j + 1 + xs.length by omega]; exact h))
      show FQ K (match f r1 with
        | .nx r2 => forL f tg xs r2
        | .ct r2 => forL f tg xs r2
        | .bk r2 => .nx r2
        | f => f)
      cases e2 : f r1 with
      | nx r2 => rw [e2] at h; exact go r2 h
      | ct r2 => rw [e2] at h; exact go r2 h
      | bk r2 => rw [e2] at h; exact h
      | bad => rw [e2] at h; exact h
      | exn a b => rw [e2] at h; exact h
      | rt a b => rw [e2] at h; exact h
theorem compL_noexn {cond : En → R Bool} {elt : En → R D} {tg : Tg} : ∀ (xs : List D) (r : En) {e : Ex} {r' : En}, compL cond elt tg xs r = .exn e r' → False
  | [], r, _, _, h => by cases h
  | x :: xs, r, e, r', h => by
    have h : (match put tg x r with
    | none => .bad
    | some r1 => match cond r1 with
      | .bad => .bad
      | .exn _ _ => .bad
      | .ok false r2 => compL cond elt tg xs (wipeE r2 tg.slots)
      | .ok true r2 => match elt r2 with
        | .bad => .bad
        | .exn _ _ => .bad
        | .ok d r3 => match compL cond elt tg xs (wipeE r3 tg.slots) with
          | .bad => .bad
          | .exn _ _ => .bad
          | .ok ds r4 => .ok (d :: ds) r4) = R.exn e r' := h
    split at h
    · cases h
    · split at h
      · cases h
      · cases h
      · exact compL_noexn _ _ h
      · split at h
        · cases h
        · cases h
        · split at h
          · cases h
          · cases h
          · cases h
def kC1 (I : Nat → List D → En → Prop) (j : Nat) (tg : Tg) (acc : List D) : D → En → Prop := fun d r => NeW (wipeE r tg.slots) (I j (acc ++ [d]))
def kC0 (I : Nat → List D → En → Prop) (j : Nat) (tg : Tg) (acc : List D) : En → Prop := fun r => NeW (wipeE r tg.slots) (I j acc)
theorem kC1_ {I : Nat → List D → En → Prop} {j : Nat} {tg : Tg} {acc : List D} {d : D} {r : En} : kC1 I j tg acc d r = NeW (wipeE r tg.slots) (I j (acc ++ [d])) := rfl
theorem kC0_ {I : Nat → List D → En → Prop} {j : Nat} {tg : Tg} {acc : List D} {r : En} : kC0 I j tg acc r = NeW (wipeE r tg.slots) (I j acc) := rfl
def kEt (elt : En → R D) (A : D → En → Prop) (r : En) : Unit → Prop := fun _ => RQ A (fun _ _ => False) (elt r)
theorem kEt_ {elt : En → R D} {A : D → En → Prop} {r : En} {u : Unit} : kEt elt A r u = RQ A (fun _ _ => False) (elt r) := rfl
def kN0 (B : En → Prop) (r : En) : Unit → Prop := fun _ => B r
theorem kN0_ {B : En → Prop} {r : En} {u : Unit} : kN0 B r u = B r := rfl
def kCi (elt : En → R D) (A : D → En → Prop) (B : En → Prop) : Bool → En → Prop := fun b r2 => IfW b (kEt elt A r2) (kN0 B r2)
theorem kCi_ {elt : En → R D} {A : D → En → Prop} {B : En → Prop} {b : Bool} {r : En} : kCi elt A B b r = IfW b (kEt elt A r) (kN0 B r) := rfl
/-- a comprehension that keeps I; what is made stands in I -/
theorem cp_inv {cond : En → R Bool} {elt : En → R D} {tg : Tg} {Q : List D → En → Prop} {X : XW} (I : Nat → List D → En → Prop) : ∀ {xs : List D} {r : En} (j : Nat) (acc : List D), I j acc r →
    (∀ i x acc r, xs[i]? = some x → I (j + i) acc r → OpW (put tg x r) (kCb cond (kCi elt (kC1 I (j + i + 1) tg acc) (kC0 I (j + i + 1) tg acc)))) →
    (∀ acc' r, I (j + xs.length) (acc ++ acc') r → Q acc' r) → CpW cond elt tg xs r Q X
  | [], r, j, acc, h0, _, hd => hd [] r (by rw [List.append_nil]; exact h0)
  | x :: xs, r, j, acc, h0, hs, hd => by
    have h := hs 0 x acc r rfl h0
    have ih : ∀ acc1 r2 Q', I (j + 1) acc1 r2 → (∀ acc' r, I (j + 1 + xs.length) (acc1 ++ acc') r → Q' acc' r) → RQ Q' X (compL cond elt tg xs r2) := fun acc1 r2 Q' h2 hq => cp_inv (Q := Q') (X := X) I (j + 1) acc1 h2 (fun i x acc r hx hi => by
        have hi : I (j + (i + 1)) acc r := by rw [show j + (i + 1) = j + 1 + i by omega]; exact hi
        have := hs (i + 1) x acc r hx hi
        rw [show j + (i + 1) = j + 1 + i by omega] at this
        exact this) hq
    have hd' : ∀ acc' r, I (j + 1 + xs.length) (acc ++ acc') r → Q acc' r := fun acc' r h => hd acc' r (by rw [List.length_cons, show j + (xs.length + 1) = j + 1 + xs.length by omega]; exact h)
    show RQ Q X (match put tg x r with
    | none => .bad
    | some r1 => match cond r1 with
      | .bad => .bad
      | .exn _ _ => .bad
      | .ok false r2 => compL cond elt tg xs (wipeE r2 tg.slots)
      | .ok true r2 => match elt r2 with
        | .bad => .bad
        | .exn _ _ => .bad
        | .ok d r3 => match compL cond elt tg xs (wipeE r3 tg.slots) with
          | .bad => .bad
          | .exn _ _ => .bad
          | .ok ds r4 => .ok (d :: ds) r4)
    cases e : put tg x r with
    | none => rw [e] at h; exact h.elim
    | some r1 =>
      rw [e] at h
      have h : RQ (kCi elt (kC1 I (j + 0 + 1) tg acc) (kC0 I (j + 0 + 1) tg acc)) (fun _ _ => False) (cond r1) := h
      simp only []
      cases e2 : cond r1 with
      | bad => rw [e2] at h; exact h.elim
      | exn _ _ => rw [e2] at h; exact h.elim
      | ok b r2 =>
        rw [e2] at h
        have h : IfW b (kEt elt (kC1 I (j + 0 + 1) tg acc) r2) (kN0 (kC0 I (j + 0 + 1) tg acc) r2) := h
        cases b with
        | false =>
          rw [ifW_f] at h
          exact ih acc _ Q h hd'
        | true =>
          rw [ifW_t] at h
          have h : RQ (kC1 I (j + 0 + 1) tg acc) (fun _ _ => False) (elt r2) := h
          simp only []
          cases e3 : elt r2 with
          | bad => rw [e3] at h; exact h.elim
          | exn _ _ => rw [e3] at h; exact h.elim
          | ok d r3 =>
            rw [e3] at h
            have h : I (j + 0 + 1) (acc ++ [d]) (wipeE r3 tg.slots) := h
            have k := ih (acc ++ [d]) _ (fun ds r => Q (d :: ds) r) h (fun acc' r h => hd' (d :: acc') r (by rw [List.append_assoc] at h; exact h))
            simp only []
            cases e4 : compL cond elt tg xs (wipeE r3 tg.slots) with
            | bad => rw [e4] at k; exact k.elim
            | ok ds r4 => rw [e4] at k; exact k
            | exn a b =>
              exfalso
              have k0 := ih (acc ++ [d]) _ (fun ds r => True) h (fun _ _ _ => trivial)
              exact compL_noexn _ _ e4
end Mw

set_option Elab.async false
set_option linter.all false
set_option maxRecDepth 100000
set_option maxHeartbeats 4000000
/-! W3: built-ins at values. -/
namespace Mw
open PySem Mp
theorem sizeL : PySem.sizeLine = 16777216 := by decide
section
variable {i j : Int} {xs ys : List D} {x y : D}
theorem y_add : bsem .add [.int i, .int j] = some (.fz (.int (i + j))) := rfl
theorem y_sub : bsem .sub [.int i, .int j] = some (.fz (.int (i - j))) := rfl
theorem y_neg : bsem .neg [.int i] = some (.fz (.int (-i))) := rfl
theorem lt400 {i : Int} (h : i.natAbs < 1267650600228229401496703205376) : i.natAbs < 2 ^ 400 := Nat.lt_trans h (by decide +kernel)
theorem y_mul (h : i.natAbs < 1267650600228229401496703205376) (h2 : j.natAbs < 1267650600228229401496703205376) : bsem .mul [.int i, .int j] = some (.fz (.int (i * j))) := if_pos ⟨lt400 h, lt400 h2⟩
theorem y_mod (h : 0 < j) : bsem .mod [.int i, .int j] = some (.fz (.int (i % j))) := if_pos h
theorem y_fdiv (h : 0 < j) (h2 : j < 1267650600228229401496703205376) : bsem .fdiv [.int i, .int j] = some (.fz (.int (i / j))) := if_pos ⟨h, Int.lt_trans h2 (by decide +kernel)⟩
theorem y_addT (h : xs.length + ys.length ≤ 16777216) : bsem .add [.tup xs, .tup ys] = some (.fz (.tup (xs ++ ys))) := if_pos (by rw [sizeL]; exact h)
theorem y_addL (h : xs.length + ys.length ≤ 16777216) : bsem .add [.lst xs, .lst ys] = some (.ow (.lst (xs ++ ys))) := if_pos (by rw [sizeL]; exact h)
theorem y_lt : bsem .lt [.int i, .int j] = some (.fz (.bl (decide (i < j)))) := rfl
theorem y_le : bsem .le [.int i, .int j] = some (.fz (.bl (decide (i ≤ j)))) := rfl
theorem y_gt : bsem .gt [.int i, .int j] = some (.fz (.bl (decide (j < i)))) := rfl
theorem y_ge : bsem .ge [.int i, .int j] = some (.fz (.bl (decide (j ≤ i)))) := rfl
theorem y_isN : bsem .isN [x] = some (.fz (.bl (isNon x))) := rfl
theorem y_notN : bsem .notN [x] = some (.fz (.bl (!isNon x))) := rfl
theorem y_lenT : bsem .len [.tup xs] = some (.fz (.int xs.length)) := rfl
theorem y_lenL : bsem .len [.lst xs] = some (.fz (.int xs.length)) := rfl
theorem y_abs : bsem .abs [.int i] = some (.fz (.int (if i < 0 then -i else i))) := rfl
theorem y_int : bsem .int [.int i] = some (.fz (.int i)) := rfl
theorem y_intB {b : Bool} : bsem .int [.bl b] = some (.fz (.int (if b then 1 else 0))) := rfl
theorem y_listT : bsem .list [.tup xs] = some (.ow (.lst xs)) := rfl
theorem y_listL : bsem .list [.lst xs] = some (.ow (.lst xs)) := rfl
theorem y_tupT : bsem .tuple [.tup xs] = some (.fz (.tup xs)) := rfl
theorem y_tupL : bsem .tuple [.lst xs] = some (.fz (.tup xs)) := rfl
theorem y_revT : bsem .rev [.tup xs] = some (.fz (.tup xs.reverse)) := rfl
theorem y_revL : bsem .rev [.lst xs] = some (.ow (.lst xs.reverse)) := rfl
theorem y_repr : bsem .repr [x] = bRepr x := rfl
theorem y_isi {T : String} : bsem (.isi T) [x] = (isiB T x).map fun b => .fz (.bl b) := rfl
theorem y_all : bsem .all [.lst xs] = (blsOf xs).map fun bs => .fz (.bl (bs.all id)) := rfl
theorem y_any : bsem .any [.lst xs] = (blsOf xs).map fun bs => .fz (.bl (bs.any id)) := rfl
theorem y_itemT : bsem .item [.tup xs, .int i] = (L2.atI xs i).map .fz := rfl
theorem y_itemL : bsem .item [.lst xs, .int i] = (L2.atI xs i).map .fz := rfl
theorem y_slcT {lo hi : Option Int} : bSlc lo hi (.tup xs) = some (.fz (.tup (cut xs lo hi))) := rfl
theorem y_slcL {lo hi : Option Int} : bSlc lo hi (.lst xs) = some (.ow (.lst (cut xs lo hi))) := rfl
theorem y_pow {i j : Int} (h : 0 ≤ j) (h2 : j ≤ 1000) (h3 : i.natAbs < 2 ^ 64) : bsem .pow [.int i, .int j] = some (.fz (.int (i ^ j.toNat))) := if_pos ⟨h, h2, h3⟩
theorem seti_l {l : List D} {j : Nat} (h : L2.ixN l.length i = some j) : setAt (.int i) x (.lst l) = some (.lst (l.set j x)) := by
  show ((L2.ixN l.length i).map fun j => D.lst (l.set j x)) = _
  rw [h]
  rfl
theorem apnd_l {l : List D} (h : l.length < 16777216) : apnd x (.lst l) = some (.lst (l ++ [x])) := if_pos (by rw [sizeL]; exact h)
end
theorem atI_0 {α : Type} {x : α} {xs : List α} : L2.atI (x :: xs) 0 = some x := L2.atI_nat (j := 0) rfl
theorem atI_1 {α : Type} {x y : α} {xs : List α} : L2.atI (x :: y :: xs) 1 = some y := L2.atI_nat (j := 1) rfl
theorem atI_2 {α : Type} {x y z : α} {xs : List α} : L2.atI (x :: y :: z :: xs) 2 = some z := L2.atI_nat (j := 2) rfl
theorem atI_3 {α : Type} {x y z u : α} {xs : List α} : L2.atI (x :: y :: z :: u :: xs) 3 = some u := L2.atI_nat (j := 3) rfl
theorem atI_4 {α : Type} {x y z u v : α} {xs : List α} : L2.atI (x :: y :: z :: u :: v :: xs) 4 = some v := L2.atI_nat (j := 4) rfl
end Mw
namespace Mw
open PySem Mp
def rng (n : Nat) : List D := (List.range n).map fun (k : Nat) => D.int k
theorem rng_get {n i : Nat} {x : D} (h : (rng n)[i]? = some x) : i < n ∧ x = .int i := by
  unfold rng at h
  rw [List.getElem?_map] at h
  by_cases q : i < n
  · rw [List.getElem?_range q] at h
    cases h
    exact ⟨q, rfl⟩
  · rw [List.getElem?_eq_none (by rw [List.length_range]; omega)] at h
    cases h
theorem rng_len {n : Nat} : (rng n).length = n := by simp [rng]
theorem y_range {n : Int} (h : -4611686018427387904 ≤ n) (h2 : n ≤ 16777216) : walkD 1 [.int n] = some (rng n.toNat) := by
  show (if -(2 ^ 62) ≤ n ∧ n ≤ sizeLine then some ((List.range n.toNat).map fun (k : Nat) => D.int ((0 : Int) + k)) else none) = _
  rw [if_pos ⟨by omega, by rw [sizeL]; exact h2⟩]
  unfold rng
  simp only [Int.zero_add]
theorem y_rangeN {n : Nat} (h2 : n ≤ 16777216) : walkD 1 [.int (n : Nat)] = some (rng n) := y_range (by omega) (by omega)
theorem y_wL {xs : List D} (h : xs.length ≤ 16777216) : walkD 0 [.lst xs] = some xs := if_pos (by rw [sizeL]; exact h)
theorem y_wT {xs : List D} (h : xs.length ≤ 16777216) : walkD 0 [.tup xs] = some xs := if_pos (by rw [sizeL]; exact h)
theorem y_wE {xs : List D} (h : xs.length ≤ 16777216) : walkD 3 [.lst xs] = some (xs.zipIdx.map fun p => .tup [.int (p.2 : Nat), p.1]) := if_pos (by rw [sizeL]; exact h)
theorem y_wZ {xs ys : List D} (h : xs.length ≤ 16777216) : walkD 4 [.lst xs, .lst ys] = some (List.zipWith (fun x y => .tup [x, y]) xs ys) := if_pos (by rw [sizeL]; exact h)
theorem y_wZT {xs ys : List D} (h : xs.length ≤ 16777216) : walkD 4 [.tup xs, .tup ys] = some (List.zipWith (fun x y => .tup [x, y]) xs ys) := if_pos (by rw [sizeL]; exact h)
/-- range(n) -/
theorem lp_rng {f : En → Fl} {tg : Tg} {K : Kt} (I : Nat → En → Prop) {n : Nat} {r : En} (h0 : I 0 r) (hs : ∀ i r, i < n → I i r → OpW (put tg (.int (i : Nat)) r) (kLb f ⟨I (i + 1), K.rt, K.nx, I (i + 1), K.xn⟩)) (hd : ∀ r, I n r → K.nx r) : LpW f tg (rng n) r K :=
  lp_inv I 0 h0 (fun i x r hx hi => by
    obtain ⟨a, rfl⟩ := rng_get hx
    have hi : I i r := by rw [Nat.zero_add] at hi; exact hi
    have := hs i r a hi
    rw [Nat.zero_add]
    exact this) (fun r h => hd r (by rw [rng_len, Nat.zero_add] at h; exact h))
theorem lp_all {f : En → Fl} {tg : Tg} {K : Kt} (I : Nat → En → Prop) {xs : List D} {r : En} (h0 : I 0 r) (hs : ∀ i x r, xs[i]? = some x → I i r → OpW (put tg x r) (kLb f ⟨I (i + 1), K.rt, K.nx, I (i + 1), K.xn⟩)) (hd : ∀ r, I xs.length r → K.nx r) : LpW f tg xs r K :=
  lp_inv I 0 h0 (fun i x r hx hi => by
    have hi : I i r := by rw [Nat.zero_add] at hi; exact hi
    have := hs i x r hx hi
    rw [Nat.zero_add]
    exact this) (fun r h => hd r (by rw [Nat.zero_add] at h; exact h))
theorem cp_rng {cond : En → R Bool} {elt : En → R D} {tg : Tg} {Q : List D → En → Prop} {X : XW} (I : Nat → List D → En → Prop) {n : Nat} {r : En} (h0 : I 0 [] r)
    (hs : ∀ i acc r, i < n → I i acc r → OpW (put tg (.int (i : Nat)) r) (kCb cond (kCi elt (kC1 I (i + 1) tg acc) (kC0 I (i + 1) tg acc)))) (hd : ∀ acc r, I n acc r → Q acc r) : CpW cond elt tg (rng n) r Q X :=
  cp_inv I 0 [] h0 (fun i x acc r hx hi => by
    obtain ⟨a, rfl⟩ := rng_get hx
    have hi : I i acc r := by rw [Nat.zero_add] at hi; exact hi
    have := hs i acc r a hi
    rw [Nat.zero_add]
    exact this) (fun acc r h => hd acc r (by rw [rng_len, Nat.zero_add] at h; exact h))
theorem cp_all {cond : En → R Bool} {elt : En → R D} {tg : Tg} {Q : List D → En → Prop} {X : XW} (I : Nat → List D → En → Prop) {xs : List D} {r : En} (h0 : I 0 [] r)
    (hs : ∀ i x acc r, xs[i]? = some x → I i acc r → OpW (put tg x r) (kCb cond (kCi elt (kC1 I (i + 1) tg acc) (kC0 I (i + 1) tg acc)))) (hd : ∀ acc r, I xs.length acc r → Q acc r) : CpW cond elt tg xs r Q X :=
  cp_inv I 0 [] h0 (fun i x acc r hx hi => by
    have hi : I i acc r := by rw [Nat.zero_add] at hi; exact hi
    have := hs i x acc r hx hi
    rw [Nat.zero_add]
    exact this) (fun acc r h => hd acc r (by rw [Nat.zero_add] at h; exact h))
theorem ofNat_get {α : Type} {xs : List α} {i : Nat} {v : α} (h : xs[i]? = some v) : L2.atI xs (i : Nat) = some v := L2.atI_nat h
theorem ixN_nat {n i : Nat} (h : i < n) : L2.ixN n ((i : Nat) : Int) = some i := by
  unfold L2.ixN
  rw [if_pos (by omega), if_pos (by omega)]
  rfl
theorem flts_ints : ∀ cs : List Int, D.flts (cs.map .int) = true
  | [] => rfl
  | _ :: cs => flts_ints cs
theorem pys_ints : ∀ cs : List Int, D.pys (cs.map .int) = cs.map PyData.int
  | [] => rfl
  | c :: cs => congrArg (PyData.int c :: ·) (pys_ints cs)
theorem lay_ints : ∀ cs : List Int, PyData.canLayAll0 (cs.map PyData.int) = true
  | [] => rfl
  | c :: cs => lay_ints cs
theorem dep_ints : ∀ cs : List Int, PyData.depthAll (cs.map PyData.int) ≤ 1
  | [] => by decide
  | c :: cs => by
    have := dep_ints cs
    show max (PyData.depth (.int c)) (PyData.depthAll (cs.map PyData.int)) ≤ 1
    have e : PyData.depth (.int c) = 0 := rfl
    omega
theorem shaped_ints (cs : List Int) : SeqAt.shaped (D.lst (cs.map .int)).py = true := by
  show SeqAt.shaped (PyData.list (D.pys (cs.map .int))) = true
  rw [pys_ints]
  show (PyData.canLayAll0 (cs.map PyData.int) && decide (PyData.depth (.list (cs.map PyData.int)) ≤ 64)) = true
  rw [lay_ints]
  have h := dep_ints cs
  have e : PyData.depth (.list (cs.map PyData.int)) = PyData.depthAll (cs.map PyData.int) + 1 := rfl
  rw [e]
  simp
  omega
theorem y_neNil {cs : List Int} : bsem .ne [.lst (cs.map .int), .lst []] = some (.fz (.bl (!cs.isEmpty))) := by
  have e : (D.lst (cs.map .int)).eok = true := by
    show ((D.flts (cs.map .int)) && SeqAt.shaped (D.lst (cs.map .int)).py) = true
    rw [flts_ints, shaped_ints]
    rfl
  show ((if (D.lst (cs.map .int)).eok && (D.lst []).eok then some (PyData.eqv (D.lst (cs.map .int)).py (D.lst []).py) else none).map fun b => Val.fz (.bl (!b))) = _
  rw [e]
  cases cs <;> rfl
theorem seti_0 {x a : D} {l : List D} : setAt (.int 0) x (.lst (a :: l)) = some (.lst (x :: l)) := seti_l (j := 0) (ixN_nat (i := 0) (by simp))
theorem seti_1 {x a b : D} {l : List D} : setAt (.int 1) x (.lst (a :: b :: l)) = some (.lst (a :: x :: l)) := seti_l (j := 1) (ixN_nat (i := 1) (by simp))
theorem seti_2 {x a b c : D} {l : List D} : setAt (.int 2) x (.lst (a :: b :: c :: l)) = some (.lst (a :: b :: x :: l)) := seti_l (j := 2) (ixN_nat (i := 2) (by simp))
theorem seti_3 {x a b c d : D} {l : List D} : setAt (.int 3) x (.lst (a :: b :: c :: d :: l)) = some (.lst (a :: b :: c :: x :: l)) := seti_l (j := 3) (ixN_nat (i := 3) (by simp))
theorem p1016 : (10 : Int) ^ (16 : Int).toNat = 10000000000000000 := by decide
theorem sIx_pos {n d : Nat} {v : Int} (h : 0 ≤ v) : HT.sIx n d (some v) = min v.toNat n := by
  show (if v < 0 then (v + (n : Int)).toNat else min v.toNat n) = _
  rw [if_neg (by omega)]
theorem cut_to {α : Type} {xs : List α} {k : Int} (h : 0 ≤ k) : cut xs none (some k) = xs.take k.toNat := by
  unfold cut
  rw [sIx_pos h]
  show (xs.drop 0).take (min k.toNat xs.length - 0) = _
  rw [List.drop_zero, Nat.sub_zero]
  by_cases q : k.toNat ≤ xs.length
  · rw [Nat.min_eq_left q]
  · rw [Nat.min_eq_right (by omega), List.take_length, List.take_of_length_le (by omega)]
theorem cut_from {α : Type} {xs : List α} {k : Int} (h : 0 ≤ k) : cut xs (some k) none = xs.drop k.toNat := by
  unfold cut
  rw [sIx_pos h]
  show (xs.drop (min k.toNat xs.length)).take (xs.length - min k.toNat xs.length) = _
  by_cases q : k.toNat ≤ xs.length
  · rw [Nat.min_eq_left q, List.take_of_length_le (by simp)]
  · rw [Nat.min_eq_right (by omega), List.drop_length, List.drop_of_length_le (by omega), List.take_nil]
theorem cut_mid {α : Type} {xs : List α} {j k : Int} (h : 0 ≤ j) (h2 : 0 ≤ k) : cut xs (some j) (some k) = (xs.drop j.toNat).take (k.toNat - j.toNat) := by
  unfold cut
  rw [sIx_pos h, sIx_pos h2]
  by_cases q : j.toNat ≤ xs.length
  · rw [Nat.min_eq_left q]
    by_cases q2 : k.toNat ≤ xs.length
    · rw [Nat.min_eq_left q2]
    · rw [Nat.min_eq_right (by omega), List.take_of_length_le (by simp), List.take_of_length_le (by simp; omega)]
  · rw [Nat.min_eq_right (a := j.toNat) (by omega), List.drop_length, List.drop_of_length_le (i := j.toNat) (by omega), List.take_nil, List.take_nil]
theorem cut_neg1 {α : Type} {xs : List α} : cut xs none (some (-1)) = xs.dropLast := by
  unfold cut
  show (xs.drop 0).take ((-1 + (xs.length : Int)).toNat - 0) = _
  rw [List.drop_zero, Nat.sub_zero, List.dropLast_eq_take]
  congr 1
  omega
theorem y_slcS {lo hi : Option Int} {ns : List Int} : bSlc lo hi (.scr ns) = some (.ow (.lst ((cut ns lo hi).map .int))) := rfl
theorem y_mul_of {i j : Int} : True := trivial
def kM1 (tg : Tg) (g : D) (r : En) : D → En → Prop := fun d r3 => d = g ∧ wipeE r3 tg.slots = r
theorem kM1_ {tg : Tg} {g d : D} {r r3 : En} : kM1 tg g r d r3 = (d = g ∧ wipeE r3 tg.slots = r) := rfl
def kM0 (tg : Tg) (r r2 : En) : Unit → Prop := fun _ => wipeE r2 tg.slots = r
theorem kM0_ {tg : Tg} {r r2 : En} {u : Unit} : kM0 tg r r2 u = (wipeE r2 tg.slots = r) := rfl
def kMp (elt : En → R D) (tg : Tg) (c : Bool) (g : D) (r : En) : Bool → En → Prop := fun b r2 => b = c ∧ IfW b (kEt elt (kM1 tg g r) r2) (kM0 tg r r2)
theorem kMp_ {elt : En → R D} {tg : Tg} {c b : Bool} {g : D} {r r2 : En} : kMp elt tg c g r b r2 = (b = c ∧ IfW b (kEt elt (kM1 tg g r) r2) (kM0 tg r r2)) := rfl
/-- a comprehension whose turns leave all as it was -/
theorem cp_map {cond : En → R Bool} {elt : En → R D} {tg : Tg} {Q : List D → En → Prop} {X : XW} {r : En} (c : D → Bool) (g : D → D) {xs : List D}
    (hs : ∀ x, x ∈ xs → OpW (put tg x r) (kCb cond (kMp elt tg (c x) (g x) r))) (hd : Q ((xs.filter c).map g) r) : CpW cond elt tg xs r Q X := by
  have : ∀ ys, (∀ x, x ∈ ys → x ∈ xs) → compL cond elt tg ys r = .ok ((ys.filter c).map g) r := by
    intro ys
    induction ys with
    | nil => exact fun _ => rfl
    | cons y ys ih =>
      intro hy
      have ih := ih fun x hx => hy x (List.mem_cons_of_mem _ hx)
      have h := hs y (hy y List.mem_cons_self)
      show (match put tg y r with
      | none => R.bad
      | some r1 => match cond r1 with
        | .bad => .bad
        | .exn _ _ => .bad
        | .ok false r2 => compL cond elt tg ys (wipeE r2 tg.slots)
        | .ok true r2 => match elt r2 with
          | .bad => .bad
          | .exn _ _ => .bad
          | .ok d r3 => match compL cond elt tg ys (wipeE r3 tg.slots) with
            | .bad => .bad
            | .exn _ _ => .bad
            | .ok ds r4 => .ok (d :: ds) r4) = _
      cases e1 : put tg y r with
      | none => rw [e1] at h; exact h.elim
      | some r1 =>
        rw [e1] at h
        have h : RQ _ _ (cond r1) := h
        simp only []
        cases e2 : cond r1 with
        | bad => rw [e2] at h; exact h.elim
        | exn _ _ => rw [e2] at h; exact h.elim
        | ok b r2 =>
          rw [e2] at h
          obtain ⟨hb, h⟩ := h
          cases b with
          | false =>
            rw [ifW_f] at h
            have h : wipeE r2 tg.slots = r := h
            rw [List.filter_cons_of_neg (by rw [← hb]; decide)]
            simp only []
            rw [h, ih]
          | true =>
            rw [ifW_t] at h
            have h : RQ _ _ (elt r2) := h
            rw [List.filter_cons_of_pos (by rw [← hb])]
            simp only []
            cases e3 : elt r2 with
            | bad => rw [e3] at h; exact h.elim
            | exn _ _ => rw [e3] at h; exact h.elim
            | ok d r3 =>
              rw [e3] at h
              obtain ⟨hd, h⟩ := h
              simp only []
              rw [h, ih, hd]
              rfl
  show RQ Q X (compL cond elt tg xs r)
  rw [this xs fun _ h => h]
  exact hd
theorem bGetLast {b : Bool} (h : b = true) : b = true := h
end Mw

set_option Elab.async false
set_option linter.all false
set_option maxRecDepth 100000
set_option maxHeartbeats 4000000
/-! W4: tests of types, small data (for repr), == . -/
namespace Mw
open PySem Mp
def isTup : D → Bool | .tup _ => true | _ => false
def isInB : D → Bool | .int _ => true | .bl _ => true | _ => false
def isBo : D → Bool | .bl _ => true | _ => false
def isSt : D → Bool | .str _ => true | _ => false
def isLi : D → Bool | .lst _ => true | .scr _ => true | _ => false
def isDi : D → Bool | .dK _ _ => true | _ => false
theorem plain_of {d : D} (h : d.shw = true) : plainD d = true := by cases d <;> first | rfl | exact h
theorem y_isTup {d : D} (h : plainD d = true) : isiB "tuple" d = some (isTup d) := by cases d <;> first | rfl | (exact Bool.noConfusion h)
theorem y_isInt {d : D} (h : plainD d = true) : isiB "int" d = some (isInB d) := by cases d <;> first | rfl | (exact Bool.noConfusion h)
theorem y_isBool {d : D} (h : plainD d = true) : isiB "bool" d = some (isBo d) := by cases d <;> first | rfl | (exact Bool.noConfusion h)
theorem y_isStr {d : D} (h : plainD d = true) : isiB "str" d = some (isSt d) := by cases d <;> first | rfl | (exact Bool.noConfusion h)
theorem y_isList {d : D} (h : plainD d = true) : isiB "list" d = some (isLi d) := by cases d <;> first | rfl | (exact Bool.noConfusion h)
theorem y_isDict {d : D} (h : plainD d = true) : isiB "dict" d = some (isDi d) := by cases d <;> first | rfl | (exact Bool.noConfusion h)

section
variable {b : Bool} {i : Int} {z : Str} {ds : List D} {ks : List L2.Key} {kt : List (List L2.Key)} {c : Str} {fs : List Str} {ns : List Int}
theorem t_isTup_non : isTup .non = false := rfl
theorem t_isTup_bl : isTup (.bl b) = false := rfl
theorem t_isTup_int : isTup (.int i) = false := rfl
theorem t_isTup_str : isTup (.str z) = false := rfl
theorem t_isTup_tup : isTup (.tup ds) = true := rfl
theorem t_isTup_lst : isTup (.lst ds) = false := rfl
theorem t_isTup_dK : isTup (.dK ks ds) = false := rfl
theorem t_isTup_dT : isTup (.dT kt ds) = false := rfl
theorem t_isTup_obj : isTup (.obj c fs ds) = false := rfl
theorem t_isTup_scr : isTup (.scr ns) = false := rfl
theorem t_isInB_non : isInB .non = false := rfl
theorem t_isInB_bl : isInB (.bl b) = true := rfl
theorem t_isInB_int : isInB (.int i) = true := rfl
theorem t_isInB_str : isInB (.str z) = false := rfl
theorem t_isInB_tup : isInB (.tup ds) = false := rfl
theorem t_isInB_lst : isInB (.lst ds) = false := rfl
theorem t_isInB_dK : isInB (.dK ks ds) = false := rfl
theorem t_isInB_dT : isInB (.dT kt ds) = false := rfl
theorem t_isInB_obj : isInB (.obj c fs ds) = false := rfl
theorem t_isInB_scr : isInB (.scr ns) = false := rfl
theorem t_isBo_non : isBo .non = false := rfl
theorem t_isBo_bl : isBo (.bl b) = true := rfl
theorem t_isBo_int : isBo (.int i) = false := rfl
theorem t_isBo_str : isBo (.str z) = false := rfl
theorem t_isBo_tup : isBo (.tup ds) = false := rfl
theorem t_isBo_lst : isBo (.lst ds) = false := rfl
theorem t_isBo_dK : isBo (.dK ks ds) = false := rfl
theorem t_isBo_dT : isBo (.dT kt ds) = false := rfl
theorem t_isBo_obj : isBo (.obj c fs ds) = false := rfl
theorem t_isBo_scr : isBo (.scr ns) = false := rfl
theorem t_isSt_non : isSt .non = false := rfl
theorem t_isSt_bl : isSt (.bl b) = false := rfl
theorem t_isSt_int : isSt (.int i) = false := rfl
theorem t_isSt_str : isSt (.str z) = true := rfl
theorem t_isSt_tup : isSt (.tup ds) = false := rfl
theorem t_isSt_lst : isSt (.lst ds) = false := rfl
theorem t_isSt_dK : isSt (.dK ks ds) = false := rfl
theorem t_isSt_dT : isSt (.dT kt ds) = false := rfl
theorem t_isSt_obj : isSt (.obj c fs ds) = false := rfl
theorem t_isSt_scr : isSt (.scr ns) = false := rfl
theorem t_isLi_non : isLi .non = false := rfl
theorem t_isLi_bl : isLi (.bl b) = false := rfl
theorem t_isLi_int : isLi (.int i) = false := rfl
theorem t_isLi_str : isLi (.str z) = false := rfl
theorem t_isLi_tup : isLi (.tup ds) = false := rfl
theorem t_isLi_lst : isLi (.lst ds) = true := rfl
theorem t_isLi_dK : isLi (.dK ks ds) = false := rfl
theorem t_isLi_dT : isLi (.dT kt ds) = false := rfl
theorem t_isLi_obj : isLi (.obj c fs ds) = false := rfl
theorem t_isLi_scr : isLi (.scr ns) = true := rfl
theorem t_isDi_non : isDi .non = false := rfl
theorem t_isDi_bl : isDi (.bl b) = false := rfl
theorem t_isDi_int : isDi (.int i) = false := rfl
theorem t_isDi_str : isDi (.str z) = false := rfl
theorem t_isDi_tup : isDi (.tup ds) = false := rfl
theorem t_isDi_lst : isDi (.lst ds) = false := rfl
theorem t_isDi_dK : isDi (.dK ks ds) = true := rfl
theorem t_isDi_dT : isDi (.dT kt ds) = false := rfl
theorem t_isDi_obj : isDi (.obj c fs ds) = false := rfl
theorem t_isDi_scr : isDi (.scr ns) = false := rfl
theorem t_isNon_non : isNon .non = true := rfl
theorem t_isNon_bl : isNon (.bl b) = false := rfl
theorem t_isNon_int : isNon (.int i) = false := rfl
theorem t_isNon_str : isNon (.str z) = false := rfl
theorem t_isNon_tup : isNon (.tup ds) = false := rfl
theorem t_isNon_lst : isNon (.lst ds) = false := rfl
theorem t_isNon_dK : isNon (.dK ks ds) = false := rfl
theorem t_isNon_dT : isNon (.dT kt ds) = false := rfl
theorem t_isNon_obj : isNon (.obj c fs ds) = false := rfl
theorem t_isNon_scr : isNon (.scr ns) = false := rfl
theorem t_plainD_non : plainD .non = true := rfl
theorem t_plainD_bl : plainD (.bl b) = true := rfl
theorem t_plainD_int : plainD (.int i) = true := rfl
theorem t_plainD_str : plainD (.str z) = true := rfl
theorem t_plainD_tup : plainD (.tup ds) = true := rfl
theorem t_plainD_lst : plainD (.lst ds) = true := rfl
theorem t_plainD_dK : plainD (.dK ks ds) = true := rfl
theorem t_plainD_dT : plainD (.dT kt ds) = false := rfl
theorem t_plainD_obj : plainD (.obj c fs ds) = false := rfl
theorem t_plainD_scr : plainD (.scr ns) = true := rfl
end
/-! ### small data -/
structure Sm (w k : Nat) (d : D) : Prop where
  shw : d.shw = true
  shb : d.py.showable = true
  lvs : d.py.leavesShort 110 = true
  wt : d.py.weight ≤ w
  dp : d.py.depth ≤ k
structure Sms (w k : Nat) (ds : List D) : Prop where
  shw : D.shws ds = true
  shb : PyData.showableAll (D.pys ds) = true
  lvs : PyData.leavesShortAll 110 (D.pys ds) = true
  wt : PyData.weightAll (D.pys ds) ≤ w
  dp : PyData.depthAll (D.pys ds) ≤ k
theorem Sm.mono {w k w' k' : Nat} {d : D} (h : Sm w k d) (a : w ≤ w') (b : k ≤ k') : Sm w' k' d := ⟨h.shw, h.shb, h.lvs, Nat.le_trans h.wt a, Nat.le_trans h.dp b⟩
theorem Sm.rok {w k : Nat} {d : D} (h : Sm w k d) (a : w ≤ 100000) (b : k ≤ 60) : d.rok = true := by
  unfold D.rok
  rw [h.shw, h.shb, h.lvs, decide_eq_true (Nat.le_trans h.wt a), decide_eq_true (Nat.le_trans h.dp b)]
  rfl
theorem sms_of {w k : Nat} : ∀ {ds : List D}, (∀ d ∈ ds, Sm w k d) → Sms ((w + 1) * ds.length) k ds
  | [], _ => ⟨rfl, rfl, rfl, Nat.le_refl _, Nat.zero_le _⟩
  | d :: ds, h => by
    have h1 := h d List.mem_cons_self
    have h2 := sms_of (ds := ds) fun x hx => h x (List.mem_cons_of_mem _ hx)
    refine ⟨?_, ?_, ?_, ?_, ?_⟩
    · show (d.shw && D.shws ds) = true
      rw [h1.shw, h2.shw]; rfl
    · show (PyData.showable d.py && PyData.showableAll (D.pys ds)) = true
      rw [h1.shb, h2.shb]; rfl
    · show (PyData.leavesShort 110 d.py && PyData.leavesShortAll 110 (D.pys ds)) = true
      rw [h1.lvs, h2.lvs]; rfl
    · show PyData.weight d.py + 1 + PyData.weightAll (D.pys ds) ≤ (w + 1) * (ds.length + 1)
      have := h1.wt
      have := h2.wt
      rw [Nat.mul_succ]
      omega
    · show max (PyData.depth d.py) (PyData.depthAll (D.pys ds)) ≤ k
      have := h1.dp
      have := h2.dp
      omega
theorem sm_tup {w k L : Nat} {ds : List D} (h : ∀ d ∈ ds, Sm w k d) (l : ds.length ≤ L) : Sm ((w + 1) * L) (k + 1) (.tup ds) := by
  have h := sms_of h
  exact ⟨h.shw, h.shb, h.lvs, Nat.le_trans h.wt (Nat.mul_le_mul_left _ l), by
    show PyData.depthAll (D.pys ds) + 1 ≤ k + 1
    have := h.dp
    omega⟩
theorem sm_lst {w k L : Nat} {ds : List D} (h : ∀ d ∈ ds, Sm w k d) (l : ds.length ≤ L) : Sm ((w + 1) * L) (k + 1) (.lst ds) := by
  have h := sms_of h
  exact ⟨h.shw, h.shb, h.lvs, Nat.le_trans h.wt (Nat.mul_le_mul_left _ l), by
    show PyData.depthAll (D.pys ds) + 1 ≤ k + 1
    have := h.dp
    omega⟩
theorem Sms.len {w k : Nat} : ∀ {ds : List D}, Sms w k ds → ds.length ≤ w
  | [], _ => Nat.zero_le _
  | d :: ds, h => by
    have e : PyData.weight d.py + 1 + PyData.weightAll (D.pys ds) ≤ w := h.wt
    have h2 : Sms (PyData.weightAll (D.pys ds)) k ds := by
      refine ⟨?_, ?_, ?_, Nat.le_refl _, ?_⟩
      · have := h.shw
        exact (Bool.and_eq_true_iff.mp (show (d.shw && D.shws ds) = true from this)).2
      · exact (Bool.and_eq_true_iff.mp (show (PyData.showable d.py && PyData.showableAll (D.pys ds)) = true from h.shb)).2
      · exact (Bool.and_eq_true_iff.mp (show (PyData.leavesShort 110 d.py && PyData.leavesShortAll 110 (D.pys ds)) = true from h.lvs)).2
      · have : max (PyData.depth d.py) (PyData.depthAll (D.pys ds)) ≤ k := h.dp
        omega
    have := h2.len
    rw [List.length_cons]
    omega
theorem Sms.mem {w k : Nat} : ∀ {ds : List D}, Sms w k ds → ∀ {d : D}, d ∈ ds → Sm w k d
  | d :: ds, h, x, hx => by
    have a1 := Bool.and_eq_true_iff.mp (show (d.shw && D.shws ds) = true from h.shw)
    have a2 := Bool.and_eq_true_iff.mp (show (PyData.showable d.py && PyData.showableAll (D.pys ds)) = true from h.shb)
    have a3 := Bool.and_eq_true_iff.mp (show (PyData.leavesShort 110 d.py && PyData.leavesShortAll 110 (D.pys ds)) = true from h.lvs)
    have a4 : PyData.weight d.py + 1 + PyData.weightAll (D.pys ds) ≤ w := h.wt
    have a5 : max (PyData.depth d.py) (PyData.depthAll (D.pys ds)) ≤ k := h.dp
    rcases List.mem_cons.mp hx with rfl | hx
    · exact ⟨a1.1, a2.1, a3.1, by omega, by omega⟩
    · exact Sms.mem ⟨a1.2, a2.2, a3.2, by omega, by omega⟩ hx
theorem Sm.tup {w k : Nat} {ds : List D} (h : Sm w k (.tup ds)) : Sms w k ds := ⟨h.shw, h.shb, h.lvs, h.wt, by
  have : PyData.depthAll (D.pys ds) + 1 ≤ k := h.dp
  omega⟩
theorem Sm.lst {w k : Nat} {ds : List D} (h : Sm w k (.lst ds)) : Sms w k ds := ⟨h.shw, h.shb, h.lvs, h.wt, by
  have : PyData.depthAll (D.pys ds) + 1 ≤ k := h.dp
  omega⟩
abbrev Dok := Sm 100000 60
theorem Sm.ok {w k : Nat} {d : D} (h : Sm w k d) (a : w ≤ 100000) (b : k ≤ 60) : Dok d := h.mono a b
theorem Sm.pl {w k : Nat} {d : D} (h : Sm w k d) : plainD d = true := plain_of h.shw
theorem sm_non : Sm 0 0 .non := ⟨rfl, rfl, rfl, Nat.le_refl _, Nat.le_refl _⟩
theorem sm_bl {b : Bool} : Sm 0 0 (.bl b) := ⟨rfl, rfl, rfl, Nat.le_refl _, Nat.le_refl _⟩
theorem log2_lt {n k : Nat} (h : n < 2 ^ k) (hk : 0 < k) : n.log2 < k := by
  by_cases z : n = 0
  · subst z; exact hk
  · exact (Nat.log2_lt z).mpr h
theorem sm_int {i : Int} (h1 : -999999999999 ≤ i) (h2 : i ≤ 999999999999) : Sm 40 0 (.int i) := by
  have lg : i.natAbs.log2 < 40 := log2_lt (Nat.lt_of_le_of_lt (m := 999999999999) (by omega) (by decide)) (by decide)
  refine ⟨rfl, ?_, ?_, ?_, Nat.le_refl _⟩
  · show decide (i.natAbs.log2 < 1920) = true
    exact decide_eq_true (by omega)
  · show decide ((PyData.shown (.int i)).length ≤ 110) = true
    have := PyData.shown_int_le2 h1 h2
    exact decide_eq_true (by omega)
  · show (if i == 0 then 0 else i.natAbs.log2 + 1) ≤ 40
    split <;> omega
theorem sm_str {x : Str} {w : Nat} (h : (x.cps.toList.all fun c => decide (c < 16 ^ 8)) = true) (l : x.cps.size ≤ w) : Sm w 0 (.str x) := ⟨rfl, rfl, h, l, Nat.le_refl _⟩
theorem sm_d0 : Sm 0 1 (.dK [] []) := ⟨rfl, rfl, rfl, Nat.le_refl _, Nat.le_refl _⟩
theorem y_repr' {d : D} (h : d.rok = true) : bsem .repr [d] = some (.fz (.str d.rpr)) := if_pos h
/-! ### == -/
theorem y_eqS {x y : Str} : bsem .eq [.str x, .str y] = some (.fz (.bl (decide (x = y)))) := rfl
theorem y_neS {x y : Str} : bsem .ne [.str x, .str y] = some (.fz (.bl (!decide (x = y)))) := rfl
theorem y_eqI {i j : Int} : bsem .eq [.int i, .int j] = some (.fz (.bl (i == j))) := rfl
theorem y_neI {i j : Int} : bsem .ne [.int i, .int j] = some (.fz (.bl (!(i == j)))) := rfl
theorem deq_self {d : D} (h : d.eok = true) : deq d d = some true := by
  have go : (if d.eok && d.eok then some (PyData.eqv d.py d.py) else none) = some true := by
    have hc : d.py.canLay0 = true := by
      unfold D.eok SeqAt.shaped at h
      simp only [Bool.and_eq_true] at h
      exact h.2.1
    rw [h, SeqAt.eqv_refl _ hc]
    rfl
  cases d with
  | str x => show some (decide (x = x)) = _; simp
  | _ => exact go
theorem y_eqSelf {d : D} (h : d.eok = true) : bsem .eq [d, d] = some (.fz (.bl true)) := by
  show (deq d d).map _ = _
  rw [deq_self h]
  rfl
theorem y_neSelf {d : D} (h : d.eok = true) : bsem .ne [d, d] = some (.fz (.bl false)) := by
  show (deq d d).map _ = _
  rw [deq_self h]
  rfl
theorem flat_rep {α : Type} {a : α} : ∀ n : Nat, (List.replicate n [a]).flatten = List.replicate n a
  | 0 => rfl
  | n + 1 => by
    rw [List.replicate_succ, List.flatten_cons, flat_rep n]
    rfl
theorem y_mulL1 {a : D} {k : Int} (h1 : 0 ≤ k) (h2 : k ≤ 1000) : bsem .mul [.lst [a], .int k] = some (.ow (.lst (List.replicate k.toNat a))) := by
  show (if -(2 ^ 63) ≤ k ∧ k < 2 ^ 63 ∧ [a].length * k.toNat ≤ sizeLine then some (Val.ow (.lst (List.replicate k.toNat [a]).flatten)) else none) = _
  rw [if_pos ⟨by omega, by omega, by rw [sizeL, List.length_singleton]; omega⟩, flat_rep]
/-! ### data that == takes -/
structure Eo (k : Nat) (d : D) : Prop where
  flt : d.flt = true
  lay : d.py.canLay0 = true
  dp : d.py.depth ≤ k
theorem Eo.mono {k k' : Nat} {d : D} (h : Eo k d) (l : k ≤ k') : Eo k' d := ⟨h.flt, h.lay, Nat.le_trans h.dp l⟩
theorem Eo.eok {k : Nat} {d : D} (h : Eo k d) (l : k ≤ 64) : d.eok = true := by
  unfold D.eok SeqAt.shaped
  rw [h.flt, h.lay, decide_eq_true (Nat.le_trans h.dp l)]
  rfl
theorem eo_list {k : Nat} : ∀ {ds : List D}, (∀ d ∈ ds, Eo k d) → D.flts ds = true ∧ PyData.canLayAll0 (D.pys ds) = true ∧ PyData.depthAll (D.pys ds) ≤ k
  | [], _ => ⟨rfl, rfl, Nat.zero_le _⟩
  | d :: ds, h => by
    have h1 := h d List.mem_cons_self
    obtain ⟨a, b, c⟩ := eo_list (ds := ds) fun x hx => h x (List.mem_cons_of_mem _ hx)
    refine ⟨?_, ?_, ?_⟩
    · show (d.flt && D.flts ds) = true
      rw [h1.flt, a]; rfl
    · show (d.py.canLay0 && PyData.canLayAll0 (D.pys ds)) = true
      rw [h1.lay, b]; rfl
    · show max d.py.depth (PyData.depthAll (D.pys ds)) ≤ k
      have := h1.dp
      omega
theorem eo_tup {k : Nat} {ds : List D} (h : ∀ d ∈ ds, Eo k d) : Eo (k + 1) (.tup ds) := by
  obtain ⟨a, b, c⟩ := eo_list h
  exact ⟨a, b, by show PyData.depthAll (D.pys ds) + 1 ≤ k + 1; omega⟩
theorem eo_lst {k : Nat} {ds : List D} (h : ∀ d ∈ ds, Eo k d) : Eo (k + 1) (.lst ds) := by
  obtain ⟨a, b, c⟩ := eo_list h
  exact ⟨a, b, by show PyData.depthAll (D.pys ds) + 1 ≤ k + 1; omega⟩
theorem eo_int {i : Int} : Eo 0 (.int i) := ⟨rfl, rfl, Nat.le_refl _⟩
theorem eo_non : Eo 0 .non := ⟨rfl, rfl, Nat.le_refl _⟩
theorem eo_bl {b : Bool} : Eo 0 (.bl b) := ⟨rfl, rfl, Nat.le_refl _⟩
theorem eo_str {x : Str} (h : (PyData.str x).canLay0 = true) : Eo 0 (.str x) := ⟨rfl, h, Nat.le_refl _⟩
theorem ints_of {ms : List D} (h : ∀ x ∈ ms, ∃ a, x = .int a) : ∃ bs : List Int, ms = bs.map .int := by
  induction ms with
  | nil => exact ⟨[], rfl⟩
  | cons x r ih =>
    obtain ⟨a, rfl⟩ := h x List.mem_cons_self
    obtain ⟨bs, rfl⟩ := ih fun y hy => h y (List.mem_cons_of_mem _ hy)
    exact ⟨a :: bs, rfl⟩
/-! ### lists of truth values -/
theorem blsOf_map {α : Type} {g : α → Bool} : ∀ {xs : List α}, blsOf (xs.map fun x => D.bl (g x)) = some (xs.map g)
  | [] => rfl
  | x :: xs => by
    show (blsOf (xs.map fun x => D.bl (g x))).map (g x :: ·) = _
    rw [blsOf_map]
    rfl
theorem y_allM {α : Type} {g : α → Bool} {xs : List α} : bsem .all [.lst (xs.map fun x => D.bl (g x))] = some (.fz (.bl (xs.all g))) := by
  show (blsOf (xs.map fun x => D.bl (g x))).map _ = _
  rw [blsOf_map]
  show some (Val.fz (.bl ((xs.map g).all id))) = _
  rw [List.all_map]
  rfl
theorem y_anyM {α : Type} {g : α → Bool} {xs : List α} : bsem .any [.lst (xs.map fun x => D.bl (g x))] = some (.fz (.bl (xs.any g))) := by
  show (blsOf (xs.map fun x => D.bl (g x))).map _ = _
  rw [blsOf_map]
  show some (Val.fz (.bl ((xs.map g).any id))) = _
  rw [List.any_map]
  rfl
/-- without tests -/
theorem cp_mapT {T : Tbl} {n : Nat} {elt : ME} {tg : Tg} {Q : List D → En → Prop} {X : XW} {r : En} (g : D → D) {xs : List D}
    (hs : ∀ x, x ∈ xs → OpW (put tg x r) (kCb (kConds T n []) (kMp (kElt T n elt) tg true (g x) r))) (hd : Q (xs.map g) r) : CpW (kConds T n []) (kElt T n elt) tg xs r Q X :=
  cp_map (fun _ => true) g hs (by rw [List.filter_eq_self.mpr (fun _ _ => rfl)]; exact hd)
end Mw

set_option Elab.async false
set_option linter.all false
set_option maxRecDepth 100000
set_option maxHeartbeats 4000000
/-! W5: comprehensions of many clauses; sorted(set(ints)). -/
namespace Mw
open PySem Mp
abbrev nX : XW := fun _ _ => False
def NcW (T : Tbl) (n : Nat) (elt : ME) (cl : List MCl) (r : En) (Q : List D → En → Prop) : Prop := RQ Q nX (evN (ev T n) elt cl r)
def LcW (T : Tbl) (n : Nat) (elt : ME) (cs : List ME) (tg : Tg) (vs : List Nat) (rest : List MCl) (xs : List D) (r : En) (Q : List D → En → Prop) : Prop := RQ Q nX (loopC (ev T n) cs tg vs (evN (ev T n) elt rest) xs r)
section
variable {T : Tbl} {n : Nat} {r : En} {X : XW}
def kEnd (Q : List D → En → Prop) : QW := fun v r => Q [v.d] r
theorem kEnd_ {Q : List D → En → Prop} {v : Val} : kEnd Q v r = Q [v.d] r := rfl
theorem enN_nil {elt : ME} {Q : List D → En → Prop} : NcW T n elt [] r Q = EW T n elt r (kEnd Q) nX := by
  show RQ Q nX (match (ev T n elt r).bind fun v r1 => R.ok v.d r1 with
    | .ok d r1 => .ok [d] r1
    | _ => .bad) = RQ (kEnd Q) nX (ev T n elt r)
  cases ev T n elt r <;> rfl
def kEn0 (T : Tbl) (n : Nat) (elt : ME) (cs : List ME) (tg : Tg) (vs : List Nat) (rest : List MCl) (xs : List D) (Q : List D → En → Prop) : En → Prop := fun r => LcW T n elt cs tg vs rest xs r Q
theorem kEn0_ {elt : ME} {cs : List ME} {tg : Tg} {vs : List Nat} {rest : List MCl} {xs : List D} {Q : List D → En → Prop} : kEn0 T n elt cs tg vs rest xs Q r = LcW T n elt cs tg vs rest xs r Q := rfl
def kEn1 (T : Tbl) (n : Nat) (elt : ME) (cs : List ME) (tg : Tg) (vs : List Nat) (rest : List MCl) (r1 : En) (Q : List D → En → Prop) : List D → Prop := fun xs => NeW (wipeE r1 vs) (kEn0 T n elt cs tg vs rest xs Q)
theorem kEn1_ {elt : ME} {cs : List ME} {tg : Tg} {vs : List Nat} {rest : List MCl} {xs : List D} {Q : List D → En → Prop} : kEn1 T n elt cs tg vs rest r Q xs = NeW (wipeE r vs) (kEn0 T n elt cs tg vs rest xs Q) := rfl
def kEn2 (T : Tbl) (n : Nat) (ik : Nat) (elt : ME) (cs : List ME) (tg : Tg) (vs : List Nat) (rest : List MCl) (Q : List D → En → Prop) : List D → En → Prop := fun ds r1 => WkW (walkD ik ds) (kEn1 T n elt cs tg vs rest r1 Q)
theorem kEn2_ {ik : Nat} {elt : ME} {cs : List ME} {tg : Tg} {vs : List Nat} {rest : List MCl} {ds : List D} {Q : List D → En → Prop} : kEn2 T n ik elt cs tg vs rest Q ds r = WkW (walkD ik ds) (kEn1 T n elt cs tg vs rest r Q) := rfl
theorem enN_cons {ik : Nat} {elt : ME} {its cs : List ME} {tg : Tg} {rest : List MCl} {Q : List D → En → Prop} : NcW T n elt ((tg, ik, its, cs) :: rest) r Q = FsW T n its r (kEn2 T n ik elt cs tg (slotsN ((tg, ik, its, cs) :: rest)) rest Q) nX := by
  show RQ Q nX (match mapR (evF (ev T n)) its r with
    | .ok ds r1 => (match walkD ik ds with
      | some xs => loopC (ev T n) cs tg (slotsN ((tg, ik, its, cs) :: rest)) (evN (ev T n) elt rest) xs (wipeE r1 (slotsN ((tg, ik, its, cs) :: rest)))
      | none => .bad)
    | _ => .bad) = RQ _ nX (mapR (evF (ev T n)) its r)
  cases mapR (evF (ev T n)) its r with
  | bad => rfl
  | exn e r1 => rfl
  | ok ds r1 =>
    show RQ Q nX (match walkD ik ds with
      | some xs => loopC (ev T n) cs tg (slotsN ((tg, ik, its, cs) :: rest)) (evN (ev T n) elt rest) xs (wipeE r1 (slotsN ((tg, ik, its, cs) :: rest)))
      | none => .bad) = OpW (walkD ik ds) _
    cases walkD ik ds <;> rfl
theorem loopC_noexn {cs : List ME} {tg : Tg} {vs : List Nat} {body : En → R (List D)} : ∀ (xs : List D) (r : En) {e : Mp.Ex} {r' : En}, loopC (ev T n) cs tg vs body xs r = .exn e r' → False
  | [], r, _, _, h => by cases h
  | x :: xs, r, e, r', h => by
    unfold loopC at h
    split at h
    · cases h
    · split at h
      · exact loopC_noexn _ _ h
      · split at h
        · split at h
          · cases h
          · cases h
        · cases h
      · cases h
def kCo0 (vs : List Nat) (r1 : En) (Q : QW) (ds : List D) (r2 : En) : Unit → Prop := fun _ => NeW (backE r1 r2 vs) (Q (.ow (.lst ds)))
theorem kCo0_ {vs : List Nat} {r2 : En} {Q : QW} {ds : List D} {u : Unit} : kCo0 vs r Q ds r2 u = NeW (backE r r2 vs) (Q (.ow (.lst ds))) := rfl
def kCo1 (vs : List Nat) (r1 : En) (Q : QW) : List D → En → Prop := fun ds r2 => AndW (decide (ds.length ≤ sizeLine)) (kCo0 vs r1 Q ds r2)
theorem kCo1_ {vs : List Nat} {r2 : En} {Q : QW} {ds : List D} : kCo1 vs r Q ds r2 = AndW (decide (ds.length ≤ sizeLine)) (kCo0 vs r Q ds r2) := rfl
def kCo2 (T : Tbl) (n : Nat) (elt : ME) (cs : List ME) (tg : Tg) (vs : List Nat) (rest : List MCl) (r1 : En) (Q : QW) : List D → Prop := fun xs => NeW (wipeE r1 vs) (kEn0 T n elt cs tg vs rest xs (kCo1 vs r1 Q))
theorem kCo2_ {elt : ME} {cs : List ME} {tg : Tg} {vs : List Nat} {rest : List MCl} {xs : List D} {Q : QW} : kCo2 T n elt cs tg vs rest r Q xs = NeW (wipeE r vs) (kEn0 T n elt cs tg vs rest xs (kCo1 vs r Q)) := rfl
def kCo3 (T : Tbl) (n : Nat) (ik : Nat) (elt : ME) (cs : List ME) (tg : Tg) (vs : List Nat) (rest : List MCl) (Q : QW) : List D → En → Prop := fun ds r1 => WkW (walkD ik ds) (kCo2 T n elt cs tg vs rest r1 Q)
theorem kCo3_ {ik : Nat} {elt : ME} {cs : List ME} {tg : Tg} {vs : List Nat} {rest : List MCl} {ds : List D} {Q : QW} : kCo3 T n ik elt cs tg vs rest Q ds r = WkW (walkD ik ds) (kCo2 T n elt cs tg vs rest r Q) := rfl
theorem ew_compn {ik : Nat} {elt : ME} {its cs : List ME} {tg : Tg} {rest : List MCl} {Q : QW} : EW T (n + 1) (.compn ((tg, ik, its, cs) :: rest) elt) r Q X = FsW T n its r (kCo3 T n ik elt cs tg (slotsN ((tg, ik, its, cs) :: rest)) rest Q) X := by
  show RQ Q X ((mapR (evF (ev T n)) its r).bind fun ds r1 => match walkD ik ds with
        | none => .bad
        | some xs => (loopC (ev T n) cs tg (slotsN ((tg, ik, its, cs) :: rest)) (evN (ev T n) elt rest) xs (wipeE r1 (slotsN ((tg, ik, its, cs) :: rest)))).bind fun ds r2 => if ds.length ≤ sizeLine then .ok (.ow (.lst ds)) (backE r1 r2 (slotsN ((tg, ik, its, cs) :: rest))) else .bad) = _
  rw [rq_bind]
  refine rq_ext fun ds r1 => ?_
  unfold kCo3
  cases walkD ik ds with
  | none => rfl
  | some xs =>
    show RQ Q X ((loopC (ev T n) cs tg (slotsN ((tg, ik, its, cs) :: rest)) (evN (ev T n) elt rest) xs (wipeE r1 (slotsN ((tg, ik, its, cs) :: rest)))).bind fun ds r2 => if ds.length ≤ sizeLine then .ok (.ow (.lst ds)) (backE r1 r2 (slotsN ((tg, ik, its, cs) :: rest))) else .bad) =
      RQ _ nX (loopC (ev T n) cs tg (slotsN ((tg, ik, its, cs) :: rest)) (evN (ev T n) elt rest) xs (wipeE r1 (slotsN ((tg, ik, its, cs) :: rest))))
    cases e : loopC (ev T n) cs tg (slotsN ((tg, ik, its, cs) :: rest)) (evN (ev T n) elt rest) xs (wipeE r1 (slotsN ((tg, ik, its, cs) :: rest))) with
    | bad => rfl
    | exn a b => exact (loopC_noexn _ _ e).elim
    | ok ds r2 =>
      show RQ Q X (if ds.length ≤ sizeLine then .ok (.ow (.lst ds)) (backE r1 r2 (slotsN ((tg, ik, its, cs) :: rest))) else .bad) = AndW (decide (ds.length ≤ sizeLine)) _
      by_cases h : ds.length ≤ sizeLine
      · rw [if_pos h, decide_eq_true h, andW_t]; rfl
      · rw [if_neg h, decide_eq_false h]
        show False = (false = true ∧ _)
        simp
theorem slN_nil : slotsN [] = [] := rfl
theorem slN_nm {i ik : Nat} {its cs : List ME} {rest : List MCl} : slotsN ((.nm i, ik, its, cs) :: rest) = i :: slotsN rest := rfl
theorem slN_tp {is : List Nat} {ik : Nat} {its cs : List ME} {rest : List MCl} : slotsN ((.tp is, ik, its, cs) :: rest) = is ++ slotsN rest := rfl
theorem lenok {α : Type} {xs : List α} (h : xs.length ≤ 16777216) : decide (xs.length ≤ sizeLine) = true := decide_eq_true (by rw [sizeL]; exact h)
theorem lenok2 {α : Type} {xs : List α} (h : xs.length ≤ 16777216) : decide (xs.length ≤ 16777216) = true := decide_eq_true h
/-! a clause whose turns leave all as it was -/
def kLc3 (g : List D) (vs : List Nat) (r : En) : List D → En → Prop := fun ds r3 => ds = g ∧ wipeE r3 vs = r
theorem kLc3_ {g ds : List D} {vs : List Nat} {r3 : En} : kLc3 g vs r ds r3 = (ds = g ∧ wipeE r3 vs = r) := rfl
def kLc2 (T : Tbl) (n : Nat) (elt : ME) (vs : List Nat) (rest : List MCl) (g : List D) (r r2 : En) : Unit → Prop := fun _ => NcW T n elt rest r2 (kLc3 g vs r)
theorem kLc2_ {elt : ME} {vs : List Nat} {rest : List MCl} {g : List D} {r2 : En} {u : Unit} : kLc2 T n elt vs rest g r r2 u = NcW T n elt rest r2 (kLc3 g vs r) := rfl
def kLcN (g : List D) (vs : List Nat) (r r2 : En) : Unit → Prop := fun _ => g = [] ∧ wipeE r2 vs = r
theorem kLcN_ {g : List D} {vs : List Nat} {r2 : En} {u : Unit} : kLcN g vs r r2 u = (g = [] ∧ wipeE r2 vs = r) := rfl
def kLc1 (T : Tbl) (n : Nat) (elt : ME) (vs : List Nat) (rest : List MCl) (g : List D) (r : En) : Bool → En → Prop := fun b r2 => IfW b (kLc2 T n elt vs rest g r r2) (kLcN g vs r r2)
theorem kLc1_ {elt : ME} {vs : List Nat} {rest : List MCl} {g : List D} {r2 : En} {b : Bool} : kLc1 T n elt vs rest g r b r2 = IfW b (kLc2 T n elt vs rest g r r2) (kLcN g vs r r2) := rfl
def kLc (T : Tbl) (n : Nat) (elt : ME) (cs : List ME) (vs : List Nat) (rest : List MCl) (g : List D) (r : En) : En → Prop := fun r1 => CsW T n cs r1 (kLc1 T n elt vs rest g r) nX
theorem kLc_ {elt : ME} {cs : List ME} {vs : List Nat} {rest : List MCl} {g : List D} {r1 : En} : kLc T n elt cs vs rest g r r1 = CsW T n cs r1 (kLc1 T n elt vs rest g r) nX := rfl
theorem lc_map {elt : ME} {cs : List ME} {tg : Tg} {vs : List Nat} {rest : List MCl} {Q : List D → En → Prop} (g : D → List D) {xs : List D}
    (hs : ∀ x, x ∈ xs → OpW (put tg x r) (kLc T n elt cs vs rest (g x) r)) (hd : Q (xs.flatMap g) r) : LcW T n elt cs tg vs rest xs r Q := by
  have : ∀ ys, (∀ x, x ∈ ys → x ∈ xs) → loopC (ev T n) cs tg vs (evN (ev T n) elt rest) ys r = .ok (ys.flatMap g) r := by
    intro ys
    induction ys with
    | nil => exact fun _ => rfl
    | cons y ys ih =>
      intro hy
      have ih := ih fun x hx => hy x (List.mem_cons_of_mem _ hx)
      have h := hs y (hy y List.mem_cons_self)
      unfold loopC
      cases e1 : put tg y r with
      | none => rw [e1] at h; exact h.elim
      | some r1 =>
        rw [e1] at h
        have h : RQ _ _ (evCs (ev T n) cs r1) := h
        simp only []
        cases e2 : evCs (ev T n) cs r1 with
        | bad => rw [e2] at h; exact h.elim
        | exn _ _ => rw [e2] at h; exact h.elim
        | ok b r2 =>
          rw [e2] at h
          have h : IfW b (kLc2 T n elt vs rest (g y) r r2) (kLcN (g y) vs r r2) := h
          cases b with
          | false =>
            rw [ifW_f] at h
            obtain ⟨h1, h2⟩ : g y = [] ∧ wipeE r2 vs = r := h
            simp only []
            rw [h2, ih, List.flatMap_cons, h1, List.nil_append]
          | true =>
            rw [ifW_t] at h
            have h : RQ _ _ (evN (ev T n) elt rest r2) := h
            simp only []
            cases e3 : evN (ev T n) elt rest r2 with
            | bad => rw [e3] at h; exact h.elim
            | exn _ _ => rw [e3] at h; exact h.elim
            | ok d r3 =>
              rw [e3] at h
              obtain ⟨h1, h2⟩ : d = g y ∧ wipeE r3 vs = r := h
              simp only []
              rw [h2, ih, h1, List.flatMap_cons]
  show RQ Q nX (loopC (ev T n) cs tg vs (evN (ev T n) elt rest) xs r)
  rw [this xs fun _ h => h]
  exact hd
end
/-! ### sorted(set(ints)) -/
theorem mem_sdist {ns : List Int} {x : Int} : x ∈ sdist ns ↔ x ∈ ns := by
  unfold sdist
  rw [List.mem_mergeSort, List.mem_eraseDups]
theorem nodup_eraseDups : ∀ (k : Nat) (ns : List Int), ns.length ≤ k → ns.eraseDups.Nodup
  | 0, ns, h => by
    cases ns with
    | nil => simp
    | cons => simp at h
  | k + 1, ns, h => by
    cases ns with
    | nil => simp
    | cons a as =>
      rw [List.eraseDups_cons, List.nodup_cons]
      refine ⟨fun hm => ?_, nodup_eraseDups k _ ?_⟩
      · rw [List.mem_eraseDups, List.mem_filter] at hm
        simp at hm
      · have := List.length_filter_le (fun b => !b == a) as
        simp only [List.length_cons] at h
        omega
theorem sdist_nodup (ns : List Int) : (sdist ns).Nodup := by
  unfold sdist
  exact (List.mergeSort_perm _ _).nodup_iff.mpr (nodup_eraseDups _ ns (Nat.le_refl _))
theorem sdist_le (ns : List Int) : (sdist ns).Pairwise (fun a b => a ≤ b) := by
  have := List.pairwise_mergeSort (le := fun (a b : Int) => decide (a ≤ b)) (fun a b c h1 h2 => by simp at *; omega) (fun a b => by simp; omega) ns.eraseDups
  exact this.imp fun h => of_decide_eq_true h
theorem sdist_lt (ns : List Int) : (sdist ns).Pairwise (fun a b => a < b) := by
  have h1 := sdist_le ns
  have h2 := sdist_nodup ns
  exact (h1.and h2).imp fun ⟨a, b⟩ => by omega
theorem lt_ext : ∀ {xs ys : List Int}, xs.Pairwise (fun a b => a < b) → ys.Pairwise (fun a b => a < b) → (∀ x, x ∈ xs ↔ x ∈ ys) → xs = ys
  | [], [], _, _, _ => rfl
  | [], y :: ys, _, _, h => by have := (h y).mpr List.mem_cons_self; cases this
  | x :: xs, [], _, _, h => by have := (h x).mp List.mem_cons_self; cases this
  | x :: xs, y :: ys, h1, h2, h => by
    rw [List.pairwise_cons] at h1 h2
    have e : x = y := by
      rcases List.mem_cons.mp ((h x).mp List.mem_cons_self) with q | q
      · exact q
      · rcases List.mem_cons.mp ((h y).mpr List.mem_cons_self) with q2 | q2
        · exact q2.symm
        · have := h2.1 x q
          have := h1.1 y q2
          omega
    subst e
    rw [lt_ext h1.2 h2.2 fun z => ?_]
    constructor
    · intro hz
      rcases List.mem_cons.mp ((h z).mp (List.mem_cons_of_mem _ hz)) with q | q
      · have := h1.1 z hz; omega
      · exact q
    · intro hz
      rcases List.mem_cons.mp ((h z).mpr (List.mem_cons_of_mem _ hz)) with q | q
      · have := h2.1 z hz; omega
      · exact q
theorem sdist_ext {xs ys : List Int} (h : ∀ x, x ∈ xs ↔ x ∈ ys) : sdist xs = sdist ys :=
  lt_ext (sdist_lt xs) (sdist_lt ys) fun x => by rw [mem_sdist, mem_sdist]; exact h x
theorem lt_length : ∀ {xs : List Int} (a b : Int), xs.Pairwise (fun a b => a < b) → (∀ x ∈ xs, a ≤ x ∧ x < b) → xs.length ≤ (b - a).toNat
  | [], a, b, _, _ => Nat.zero_le _
  | x :: xs, a, b, h, hb => by
    rw [List.pairwise_cons] at h
    have := lt_length (xs := xs) (x + 1) b h.2 fun y hy => ⟨by have := h.1 y hy; omega, (hb y (List.mem_cons_of_mem _ hy)).2⟩
    have := hb x List.mem_cons_self
    rw [List.length_cons]
    omega
theorem sdist_len {ns : List Int} {k : Nat} (h : ∀ x ∈ ns, 0 ≤ x ∧ x < k) : (sdist ns).length ≤ k := by
  have := lt_length (xs := sdist ns) 0 k (sdist_lt ns) fun x hx => h x (mem_sdist.mp hx)
  omega
theorem intsOf_map : ∀ ns : List Int, intsOf (ns.map .int) = some ns
  | [] => rfl
  | n :: ns => by
    show (intsOf (ns.map .int)).map (n :: ·) = _
    rw [intsOf_map ns]; rfl
theorem sset_of {ns : List Int} (h1 : ns.length ≤ 4000) (h2 : (sdist ns).length < 64) : ((intsOf (ns.map D.int)).bind fun ns => if ns.length ≤ 4000 ∧ (sdist ns).length < 64 then some (Val.ow (.lst ((sdist ns).map .int))) else none) = some (.ow (.lst ((sdist ns).map .int))) := by
  rw [intsOf_map]
  exact if_pos ⟨h1, h2⟩
theorem y_ssetL {ns : List Int} (h1 : ns.length ≤ 4000) (h2 : (sdist ns).length < 64) : bsem (.cmp 0) [.lst (ns.map .int)] = some (.ow (.lst ((sdist ns).map .int))) := sset_of h1 h2
theorem y_ssetT {ns : List Int} (h1 : ns.length ≤ 4000) (h2 : (sdist ns).length < 64) : bsem (.cmp 0) [.tup (ns.map .int)] = some (.ow (.lst ((sdist ns).map .int))) := sset_of h1 h2
theorem y_in {x y : D} : bsem .in_ [x, y] = (inS x y).map fun b => .fz (.bl b) := rfl
theorem y_notin {x y : D} : bsem .notin [x, y] = (inS x y).map fun b => .fz (.bl (!b)) := rfl
theorem y_eqII {i j : Int} : bsem .eq [.int i, .int j] = some (.fz (.bl (i == j))) := rfl
theorem y_range2 {a b : Int} (h : -4611686018427387904 ≤ a) (h2 : a < 4611686018427387904) (h3 : -4611686018427387904 ≤ b) (h4 : b < 4611686018427387904) (h5 : (b - a).toNat ≤ 16777216) : walkD 2 [.int a, .int b] = some ((List.range (b - a).toNat).map fun (k : Nat) => .int (a + k)) := if_pos ⟨h, h2, h3, h4, by rw [sizeL]; exact h5⟩
theorem all_flat (ns : List Int) : (ns.map D.int).all flatD = true := by
  rw [List.all_map]
  exact List.all_eq_true.mpr fun _ _ => rfl
def hasI (ns : List Int) (i : Int) : Bool := ns.any fun z => z == i
theorem hasI_iff {ns : List Int} {i : Int} : hasI ns i = true ↔ i ∈ ns := by
  unfold hasI
  rw [List.any_eq_true]
  constructor
  · rintro ⟨x, hx, e⟩
    rw [beq_iff_eq] at e
    exact e ▸ hx
  · exact fun h => ⟨i, h, by simp⟩
theorem inS_ints {ns : List Int} {i : Int} : inS (.int i) (.tup (ns.map .int)) = some (hasI ns i) := by
  show (if flatD (.int i) && (ns.map D.int).all flatD then some ((ns.map D.int).any fun z => eqF z (.int i)) else none) = _
  rw [all_flat]
  show some ((ns.map D.int).any fun z => eqF z (.int i)) = _
  rw [List.any_map]
  rfl
end Mw

set_option Elab.async false
set_option linter.all false
set_option maxRecDepth 100000
set_option maxHeartbeats 4000000
/-! names.py and programs.py: what is recognized. -/
namespace Nm
open PySem Mp Mw
def b_is_integer : List MS := [.ret (.and_ (.bi (.isi "int") [.var 0]) (.not_ (.bi (.isi "bool") [.var 0])))]
def b_is_count : List MS := [.ret (.and_ (.call "is_integer" [.var 0]) (.bi .ge [.var 0, .cst (.int 0)]))]
def b_is_rising : List MS := [.iff (.or_ (.not_ (.bi (.isi "tuple") [.var 0])) (.not_ (.bi .all [.comp (.nm 1) (.call "is_count" [.var 1]) 0 [.var 0] []]))) [.ret (.cst (.bl false))] [],
  .ret (.bi .all [.comp (.tp [1, 2]) (.bi .lt [.var 1, .var 2]) 4 [.slc (.var 0) none (some (.bi .neg [.cst (.int 1)])), .slc (.var 0) (some (.cst (.int 1))) none] []])]
def b_is_steps : List MS := [.ret (.and_ (.call "is_integer" [.var 0]) (.chain .le .le (.var 1) (.var 0) (.glo "MAX_STEPS")))]
def b_is_watcher : List MS := [.iff (.or_ (.not_ (.bi (.isi "tuple") [.var 0])) (.or_ (.bi .ne [.bi .len [.var 0], .cst (.int 5)]) (.or_ (.not_ (.call "is_steps" [.bi .item [.var 0, .cst (.int 0)], .cst (.int 1)])) (.not_ (.call "is_steps" [.bi .item [.var 0, .cst (.int 2)], .cst (.int 0)]))))) [.ret (.cst (.bl false))] [],
  .iff (.and_ (.bi .notN [.bi .item [.var 0, .cst (.int 1)]]) (.not_ (.call "is_steps" [.bi .item [.var 0, .cst (.int 1)], .bi .item [.var 0, .cst (.int 0)]]))) [.ret (.cst (.bl false))] [],
  .iff (.or_ (.not_ (.call "is_steps" [.bi .item [.var 0, .cst (.int 3)], .bi .item [.var 0, .cst (.int 2)]])) (.not_ (.call "is_rising" [.bi .item [.var 0, .cst (.int 4)]]))) [.ret (.cst (.bl false))] [],
  .ret (.bi .all [.comp (.nm 1) (.bi .lt [.var 1, .glo "MAX_PLACES"]) 0 [.bi .item [.var 0, .cst (.int 4)]] []])]
def isI : D → Bool | .int _ => true | _ => false
def cnt : D → Bool | .int i => decide (0 ≤ i) | _ => false
def ups : List D → Bool
  | .int a :: .int b :: r => decide (a < b) && ups (.int b :: r)
  | _ => true
def rise : D → Bool | .tup ds => ds.all cnt && ups ds | _ => false
def stp (d l : D) : Bool := match d, l with | .int i, .int l => decide (l ≤ i) && decide (i ≤ 30) | _, _ => false
section
variable {P : Str → Option Fn} {gl : Str → Option D} {isx : Str → Str → Option Bool} {kw : Str → List Str → Option (List D → List D)} {ct : CT} {n : Nat}
local macro_rules
  | `(tactic| walk_at "mp") => `(tactic| simp (implicitDefEqProofs := false) (disch := first | assumption | omega | (simp only [List.length_map, List.length_take, List.length_drop, List.length_append, List.length_reverse, List.length_cons, List.length_nil, List.length_replicate, rng_len, List.length_set, List.length_zipWith, List.length_zipIdx, List.length_dropLast]; omega)) only [↓sx_cons, ↓sx_nil, ↓s1_set, ↓s1_sett, ↓s1_par, ↓s1_expr, ↓s1_ret, ↓s1_iff, ↓s1_forr, ↓s1_whl, ↓s1_app, ↓s1_seti, ↓s1_setf, ↓s1_pass, ↓s1_brk, ↓s1_cont, ↓s1_raise, ↓s1_try, sutK,
      ↓ew_var, ↓ew_cst, ↓ew_glo, ↓ew_bi, ↓ew_chain, ↓ew_slc, ↓ew_and, ↓ew_or, ↓ew_not, ↓ew_ife, ↓ew_tup, ↓ew_lst, ↓ew_dct0, ↓ew_call, ↓ew_callk, ↓ew_comp, ↓ew_compn, ↓enN_nil, ↓enN_cons, ↓ew_mth, ↓ew_tapp, ↓ew_prp, ↓ew_leno, ↓ew_inn, ↓ew_eqo, ↓ew_new, ↓bw_, ↓pw_n, ↓pw_s, ↓fsW_nil, ↓fsW_cons, ↓osW_nil, ↓osW_cons, ↓asW_nil, ↓asW_cons, ↓a1W_t, ↓a1W_f, ↓csW_nil, ↓csW_one,
      ↓ow_var, ↓ow_cst, ↓ow_glo, ↓ow_bi, ↓ow_chain, ↓ow_slc, ↓ow_and, ↓ow_or, ↓ow_not, ↓ow_ife, ↓ow_call, ↓ow_callk, ↓ow_tup, ↓ow_lst, ↓ow_dct0, ↓ow_comp, ↓ow_compn, ↓ow_mth, ↓ow_tapp, ↓ow_prp, ↓ow_new, ↓ow_inn, ↓ow_leno, ↓ow_eqo,
      ↓kCq_, ↓kTd_, ↓kTc_, ↓kTb_, ↓kTa_, ↓kMc_, ↓kMb_, ↓kMa_, ↓kMd_, ↓kMe_, ↓kPb_, ↓kPa_, ↓kPo_, ↓kLn3_, ↓kLn2_, ↓kLn_, ↓kIn2_t, ↓kIn2_f, ↓kIn_, ↓kIc_, ↓kIb_, ↓kIa_, ↓kIo_, ↓kQc_, ↓kQb_, ↓kQa_, ↓kQo_, ↓kNq_, ↓kNw_, ↓kNz_, ↓kNb_, ↓kNa_, ↓kNo_, ↓kSf_, ↓kSg_, ↓kCk_, ↓kNe_, ↓kV_, ↓kE_, ↓kS_, ↓kX_, ↓kFz_, ↓kQv_, ↓kBi_, ↓kBi2_, ↓kOw_, ↓kCh4_, ↓kCh3_, ↓kCh2_, ↓kCh1_, ↓kB_, ↓kBw_, ↓kI_, ↓kPw_, ↓kSl3_, ↓kSl2_, ↓kSl1_, ↓kAn_, ↓kOr_, ↓kNt_, ↓kIe_, ↓kCons_, ↓kFs_, ↓kOs_, ↓kAs_, ↓kD_, ↓kTup_, ↓kLst_, ↓kRc_, ↓kAl_, ↓kCp2_, ↓kCp1_, ↓kCp_, ↓rq_conds, ↓kEl_, ↓rq_elt, ↓fq_body, ↓rq_cond, ↓kSq_, ↓kSt_, ↓kPt_, ↓kSet_, ↓kPr2_, ↓kPr1_, ↓kNx_, ↓kIf_, ↓kFo2_, ↓kFo1_, ↓kFo_, ↓kPut_, ↓kOwn_, ↓kAp_, ↓kSe2_, ↓kSe1_, ↓kCl_, ↓kTr1_, ↓kTr_, ↓kOu_, ↓kEn_, ↓kEv_, ↓kEx_, ↓kC1_, ↓kC0_, ↓kEt_, ↓kN0_, ↓kCi_, ↓kLb_, ↓kCb_, ↓kM1_, ↓kM0_, ↓kMp_, ↓kEnd_, ↓kEn0_, ↓kEn1_, ↓kEn2_, ↓kCo0_, ↓kCo1_, ↓kCo2_, ↓kCo3_, ↓kLc3_, ↓kLc2_, ↓kLcN_, ↓kLc1_, ↓kLc_,
      vaW_fz, vaW_ow, voW_fz, voW_ow, vwW_ow, neW_, opW_some, biW_some, wkW_some, ifW_t, ifW_f, andW_t, asBW_, asIW_, hnW_t, hnW_f, rtW_s, rtW_n, rvW_fz, rvW_ow, isVar, clW_, caW_, ckW_, rcW_, okCall,
      slD_fz, slD_ow, rsv_loc, rsv_d, rsvs_nil, rsvs_cons, shp_nil, shp_t, shp_f, locs_nil, locs_l, locs_d', isOw_, putOuts_l, putOuts_d', putOuts_n, ownD_, lsB_, owB_, enW_nil, enW_cons, ouW_, tbl_md, tbl_gl, tbl_isx, tbl_kw, tbl_ct, nwW_, taW_, isObj_d, xF, List.headD_cons, List.tail_cons, List.tail_nil, List.take_succ_cons, List.take_zero, mdO_,
      slotOf, Val.d, Tg.free, Tg.slots, freeO, clr, put, wipeE, backE, Option.bind_some, Option.map_some, List.getElem?_cons_zero, List.getElem?_cons_succ, List.getElem?_nil, List.set_cons_zero, List.set_cons_succ, List.length_cons, List.length_nil, List.zip_cons_cons, List.zip_nil_left, List.zip_nil_right, List.all_cons, List.all_nil, List.contains_cons, List.contains_nil, List.map_cons, List.map_nil, List.foldl_cons, List.foldl_nil, List.append_nil, List.nil_append, List.cons_append,
      Nat.zero_add, Nat.reduceAdd, Nat.reduceLT, Nat.reduceLeDiff, Nat.reduceEqDiff, Nat.reduceBEq, Bool.and_true, Bool.true_and, Bool.and_false, Bool.false_and, Bool.or_false, Bool.or_true, Bool.false_or, Bool.true_or, Bool.not_true, Bool.not_false, decide_true, decide_false, if_true, if_false, ite_true, ite_false, reduceIte, List.nodup_nil, List.nodup_cons, List.not_mem_nil, List.mem_cons, not_false_eq_true, and_self, and_true, true_and, Nat.lt_add_one, Nat.zero_lt_succ, Nat.lt_succ_self, reduceCtorEq, Nat.succ_ne_zero, ne_eq, not_true, or_self, or_false, false_or, decide_eq_true_eq,
      y_add, y_sub, y_neg, y_mul, y_mod, y_fdiv, y_addT, y_addL, y_lt, y_le, y_gt, y_ge, y_isN, y_notN, y_lenT, y_lenL, y_abs, y_int, y_intB, y_listT, y_listL, y_tupT, y_tupL, y_revT, y_revL, y_isi, y_itemT, y_itemL, y_slcT, y_slcL, y_slcS, cut_to, cut_from, cut_mid, cut_neg1, y_range, Int.toNat_natCast, Int.reduceToNat, y_wL, y_wT, y_wE, y_wZ, y_wZT, y_range2, slN_nil, slN_nm, slN_tp, lenok, lenok2, y_in, y_notin, inS_ints, y_ssetL, y_ssetT, y_neNil, y_pow, p1016, y_mulL1, Int.cast_ofNat_Int, BEq.rfl, Int.reduceBEq, Int.reduceBNe, Int.reduceLT, Int.reduceLE, Int.reduceNeg, Int.reduceAdd, Int.reduceSub, y_eqS, y_neS, y_eqI, y_neI, y_allM, y_anyM, t_isTup_non, t_isTup_bl, t_isTup_int, t_isTup_str, t_isTup_tup, t_isTup_lst, t_isTup_dK, t_isTup_dT, t_isTup_obj, t_isTup_scr, t_isInB_non, t_isInB_bl, t_isInB_int, t_isInB_str, t_isInB_tup, t_isInB_lst, t_isInB_dK, t_isInB_dT, t_isInB_obj, t_isInB_scr, t_isBo_non, t_isBo_bl, t_isBo_int, t_isBo_str, t_isBo_tup, t_isBo_lst, t_isBo_dK, t_isBo_dT, t_isBo_obj, t_isBo_scr, t_isSt_non, t_isSt_bl, t_isSt_int, t_isSt_str, t_isSt_tup, t_isSt_lst, t_isSt_dK, t_isSt_dT, t_isSt_obj, t_isSt_scr, t_isLi_non, t_isLi_bl, t_isLi_int, t_isLi_str, t_isLi_tup, t_isLi_lst, t_isLi_dK, t_isLi_dT, t_isLi_obj, t_isLi_scr, t_isDi_non, t_isDi_bl, t_isDi_int, t_isDi_str, t_isDi_tup, t_isDi_lst, t_isDi_dK, t_isDi_dT, t_isDi_obj, t_isDi_scr, t_isNon_non, t_isNon_bl, t_isNon_int, t_isNon_str, t_isNon_tup, t_isNon_lst, t_isNon_dK, t_isNon_dT, t_isNon_obj, t_isNon_scr, t_plainD_non, t_plainD_bl, t_plainD_int, t_plainD_str, t_plainD_tup, t_plainD_lst, t_plainD_dK, t_plainD_dT, t_plainD_obj, t_plainD_scr, seti_0, seti_1, seti_2, seti_3, apnd_l, atI_0, atI_1, atI_2, atI_3, atI_4, sizeL, y_isTup, y_isInt, y_isBool, y_isStr, y_isList, y_isDict])
local macro_rules
  | `(tactic| walk_at "mps") => `(tactic| simp (implicitDefEqProofs := false) (disch := first | assumption | omega | (simp only [List.length_map, List.length_take, List.length_drop, List.length_append, List.length_reverse, List.length_cons, List.length_nil, List.length_replicate, rng_len, List.length_set, List.length_zipWith, List.length_zipIdx, List.length_dropLast]; omega)) only [↓sx_cons, ↓sx_nil, ↓s1_set, ↓s1_sett, ↓s1_par, ↓s1_expr, ↓s1_ret, ↓s1_forr, ↓s1_whl, ↓s1_app, ↓s1_seti, ↓s1_setf, ↓s1_pass, ↓s1_brk, ↓s1_cont, ↓s1_raise, sutK,
      ↓ew_var, ↓ew_cst, ↓ew_glo, ↓ew_bi, ↓ew_chain, ↓ew_slc, ↓ew_and, ↓ew_or, ↓ew_not, ↓ew_ife, ↓ew_tup, ↓ew_lst, ↓ew_dct0, ↓ew_call, ↓ew_callk, ↓ew_comp, ↓ew_compn, ↓enN_nil, ↓enN_cons, ↓ew_mth, ↓ew_tapp, ↓ew_prp, ↓ew_leno, ↓ew_inn, ↓ew_eqo, ↓ew_new, ↓bw_, ↓pw_n, ↓pw_s, ↓fsW_nil, ↓fsW_cons, ↓osW_nil, ↓osW_cons, ↓asW_nil, ↓asW_cons, ↓a1W_t, ↓a1W_f, ↓csW_nil, ↓csW_one,
      ↓ow_var, ↓ow_cst, ↓ow_glo, ↓ow_bi, ↓ow_chain, ↓ow_slc, ↓ow_and, ↓ow_or, ↓ow_not, ↓ow_ife, ↓ow_call, ↓ow_callk, ↓ow_tup, ↓ow_lst, ↓ow_dct0, ↓ow_comp, ↓ow_compn, ↓ow_mth, ↓ow_tapp, ↓ow_prp, ↓ow_new, ↓ow_inn, ↓ow_leno, ↓ow_eqo,
      ↓kCq_, ↓kTd_, ↓kTc_, ↓kTb_, ↓kTa_, ↓kMc_, ↓kMb_, ↓kMa_, ↓kMd_, ↓kMe_, ↓kPb_, ↓kPa_, ↓kPo_, ↓kLn3_, ↓kLn2_, ↓kLn_, ↓kIn2_t, ↓kIn2_f, ↓kIn_, ↓kIc_, ↓kIb_, ↓kIa_, ↓kIo_, ↓kQc_, ↓kQb_, ↓kQa_, ↓kQo_, ↓kNq_, ↓kNw_, ↓kNz_, ↓kNb_, ↓kNa_, ↓kNo_, ↓kSf_, ↓kSg_, ↓kCk_, ↓kNe_, ↓kV_, ↓kE_, ↓kS_, ↓kX_, ↓kFz_, ↓kQv_, ↓kBi_, ↓kBi2_, ↓kOw_, ↓kCh4_, ↓kCh3_, ↓kCh2_, ↓kCh1_, ↓kB_, ↓kBw_, ↓kI_, ↓kPw_, ↓kSl3_, ↓kSl2_, ↓kSl1_, ↓kAn_, ↓kOr_, ↓kNt_, ↓kIe_, ↓kCons_, ↓kFs_, ↓kOs_, ↓kAs_, ↓kD_, ↓kTup_, ↓kLst_, ↓kRc_, ↓kAl_, ↓kCp2_, ↓kCp1_, ↓kCp_, ↓rq_conds, ↓kEl_, ↓rq_elt, ↓fq_body, ↓rq_cond, ↓kSq_, ↓kSt_, ↓kPt_, ↓kSet_, ↓kPr2_, ↓kPr1_, ↓kNx_, ↓kIf_, ↓kFo2_, ↓kFo1_, ↓kFo_, ↓kPut_, ↓kOwn_, ↓kAp_, ↓kSe2_, ↓kSe1_, ↓kCl_, ↓kTr1_, ↓kTr_, ↓kOu_, ↓kEn_, ↓kEv_, ↓kEx_, ↓kC1_, ↓kC0_, ↓kEt_, ↓kN0_, ↓kCi_, ↓kLb_, ↓kCb_, ↓kM1_, ↓kM0_, ↓kMp_, ↓kEnd_, ↓kEn0_, ↓kEn1_, ↓kEn2_, ↓kCo0_, ↓kCo1_, ↓kCo2_, ↓kCo3_, ↓kLc3_, ↓kLc2_, ↓kLcN_, ↓kLc1_, ↓kLc_,
      vaW_fz, vaW_ow, voW_fz, voW_ow, vwW_ow, neW_, opW_some, biW_some, wkW_some, ifW_t, ifW_f, andW_t, asBW_, asIW_, hnW_t, hnW_f, rtW_s, rtW_n, rvW_fz, rvW_ow, isVar, clW_, caW_, ckW_, rcW_, okCall,
      slD_fz, slD_ow, rsv_loc, rsv_d, rsvs_nil, rsvs_cons, shp_nil, shp_t, shp_f, locs_nil, locs_l, locs_d', isOw_, putOuts_l, putOuts_d', putOuts_n, ownD_, lsB_, owB_, enW_nil, enW_cons, ouW_, tbl_md, tbl_gl, tbl_isx, tbl_kw, tbl_ct, nwW_, taW_, isObj_d, xF, List.headD_cons, List.tail_cons, List.tail_nil, List.take_succ_cons, List.take_zero, mdO_,
      slotOf, Val.d, Tg.free, Tg.slots, freeO, clr, put, wipeE, backE, Option.bind_some, Option.map_some, List.getElem?_cons_zero, List.getElem?_cons_succ, List.getElem?_nil, List.set_cons_zero, List.set_cons_succ, List.length_cons, List.length_nil, List.zip_cons_cons, List.zip_nil_left, List.zip_nil_right, List.all_cons, List.all_nil, List.contains_cons, List.contains_nil, List.map_cons, List.map_nil, List.foldl_cons, List.foldl_nil, List.append_nil, List.nil_append, List.cons_append,
      Nat.zero_add, Nat.reduceAdd, Nat.reduceLT, Nat.reduceLeDiff, Nat.reduceEqDiff, Nat.reduceBEq, Bool.and_true, Bool.true_and, Bool.and_false, Bool.false_and, Bool.or_false, Bool.or_true, Bool.false_or, Bool.true_or, Bool.not_true, Bool.not_false, decide_true, decide_false, if_true, if_false, ite_true, ite_false, reduceIte, List.nodup_nil, List.nodup_cons, List.not_mem_nil, List.mem_cons, not_false_eq_true, and_self, and_true, true_and, Nat.lt_add_one, Nat.zero_lt_succ, Nat.lt_succ_self, reduceCtorEq, Nat.succ_ne_zero, ne_eq, not_true, or_self, or_false, false_or, decide_eq_true_eq,
      y_add, y_sub, y_neg, y_mul, y_mod, y_fdiv, y_addT, y_addL, y_lt, y_le, y_gt, y_ge, y_isN, y_notN, y_lenT, y_lenL, y_abs, y_int, y_intB, y_listT, y_listL, y_tupT, y_tupL, y_revT, y_revL, y_isi, y_itemT, y_itemL, y_slcT, y_slcL, y_slcS, cut_to, cut_from, cut_mid, cut_neg1, y_range, Int.toNat_natCast, Int.reduceToNat, y_wL, y_wT, y_wE, y_wZ, y_wZT, y_range2, slN_nil, slN_nm, slN_tp, lenok, lenok2, y_in, y_notin, inS_ints, y_ssetL, y_ssetT, y_neNil, y_pow, p1016, y_mulL1, Int.cast_ofNat_Int, BEq.rfl, Int.reduceBEq, Int.reduceBNe, Int.reduceLT, Int.reduceLE, Int.reduceNeg, Int.reduceAdd, Int.reduceSub, y_eqS, y_neS, y_eqI, y_neI, y_allM, y_anyM, t_isTup_non, t_isTup_bl, t_isTup_int, t_isTup_str, t_isTup_tup, t_isTup_lst, t_isTup_dK, t_isTup_dT, t_isTup_obj, t_isTup_scr, t_isInB_non, t_isInB_bl, t_isInB_int, t_isInB_str, t_isInB_tup, t_isInB_lst, t_isInB_dK, t_isInB_dT, t_isInB_obj, t_isInB_scr, t_isBo_non, t_isBo_bl, t_isBo_int, t_isBo_str, t_isBo_tup, t_isBo_lst, t_isBo_dK, t_isBo_dT, t_isBo_obj, t_isBo_scr, t_isSt_non, t_isSt_bl, t_isSt_int, t_isSt_str, t_isSt_tup, t_isSt_lst, t_isSt_dK, t_isSt_dT, t_isSt_obj, t_isSt_scr, t_isLi_non, t_isLi_bl, t_isLi_int, t_isLi_str, t_isLi_tup, t_isLi_lst, t_isLi_dK, t_isLi_dT, t_isLi_obj, t_isLi_scr, t_isDi_non, t_isDi_bl, t_isDi_int, t_isDi_str, t_isDi_tup, t_isDi_lst, t_isDi_dK, t_isDi_dT, t_isDi_obj, t_isDi_scr, t_isNon_non, t_isNon_bl, t_isNon_int, t_isNon_str, t_isNon_tup, t_isNon_lst, t_isNon_dK, t_isNon_dT, t_isNon_obj, t_isNon_scr, t_plainD_non, t_plainD_bl, t_plainD_int, t_plainD_str, t_plainD_tup, t_plainD_lst, t_plainD_dK, t_plainD_dT, t_plainD_obj, t_plainD_scr, seti_0, seti_1, seti_2, seti_3, apnd_l, atI_0, atI_1, atI_2, atI_3, atI_4, sizeL, y_isTup, y_isInt, y_isBool, y_isStr, y_isList, y_isDict])
local macro_rules
  | `(tactic| walk_at "mq") => `(tactic| simp (implicitDefEqProofs := false) (disch := first | assumption | omega | (simp only [List.length_map, List.length_take, List.length_drop, List.length_append, List.length_reverse, List.length_cons, List.length_nil, List.length_replicate, rng_len, List.length_set, List.length_zipWith, List.length_zipIdx, List.length_dropLast]; omega)) only [↓sx_cons, ↓sx_nil, ↓s1_set, ↓s1_sett, ↓s1_par, ↓s1_expr, ↓s1_ret, ↓s1_iff, ↓s1_forr, ↓s1_whl, ↓s1_app, ↓s1_seti, ↓s1_setf, ↓s1_pass, ↓s1_brk, ↓s1_cont, ↓s1_raise, ↓s1_try, sutK,
      ↓ew_var, ↓ew_cst, ↓ew_glo, ↓ew_bi, ↓ew_chain, ↓ew_slc, ↓ew_and, ↓ew_or, ↓ew_not, ↓ew_ife, ↓ew_tup, ↓ew_lst, ↓ew_dct0, ↓ew_call, ↓ew_callk, ↓ew_comp, ↓ew_compn, ↓enN_nil, ↓enN_cons, ↓ew_mth, ↓ew_tapp, ↓ew_prp, ↓ew_leno, ↓ew_inn, ↓ew_eqo, ↓ew_new, ↓bw_, ↓pw_n, ↓pw_s, ↓fsW_nil, ↓fsW_cons, ↓osW_nil, ↓osW_cons, ↓asW_nil, ↓asW_cons, ↓a1W_t, ↓a1W_f, ↓csW_nil, ↓csW_one,
      ↓ow_var, ↓ow_cst, ↓ow_glo, ↓ow_bi, ↓ow_chain, ↓ow_slc, ↓ow_and, ↓ow_or, ↓ow_not, ↓ow_ife, ↓ow_call, ↓ow_callk, ↓ow_tup, ↓ow_lst, ↓ow_dct0, ↓ow_comp, ↓ow_compn, ↓ow_mth, ↓ow_tapp, ↓ow_prp, ↓ow_new, ↓ow_inn, ↓ow_leno, ↓ow_eqo,
      ↓kCq_, ↓kTd_, ↓kTc_, ↓kTb_, ↓kTa_, ↓kMc_, ↓kMb_, ↓kMa_, ↓kMd_, ↓kMe_, ↓kPb_, ↓kPa_, ↓kPo_, ↓kLn3_, ↓kLn2_, ↓kLn_, ↓kIn2_t, ↓kIn2_f, ↓kIn_, ↓kIc_, ↓kIb_, ↓kIa_, ↓kIo_, ↓kQc_, ↓kQb_, ↓kQa_, ↓kQo_, ↓kNq_, ↓kNw_, ↓kNz_, ↓kNb_, ↓kNa_, ↓kNo_, ↓kSf_, ↓kSg_, ↓kCk_, ↓kNe_, ↓kV_, ↓kE_, ↓kS_, ↓kX_, ↓kFz_, ↓kQv_, ↓kBi_, ↓kBi2_, ↓kOw_, ↓kCh4_, ↓kCh3_, ↓kCh2_, ↓kCh1_, ↓kB_, ↓kBw_, ↓kI_, ↓kPw_, ↓kSl3_, ↓kSl2_, ↓kSl1_, ↓kAn_, ↓kOr_, ↓kNt_, ↓kIe_, ↓kCons_, ↓kFs_, ↓kOs_, ↓kAs_, ↓kD_, ↓kTup_, ↓kLst_, ↓kRc_, ↓kAl_, ↓kCp2_, ↓kCp1_, ↓kCp_, ↓rq_conds, ↓kEl_, ↓rq_elt, ↓fq_body, ↓rq_cond, ↓kSq_, ↓kSt_, ↓kPt_, ↓kSet_, ↓kPr2_, ↓kPr1_, ↓kNx_, ↓kIf_, ↓kFo2_, ↓kFo1_, ↓kFo_, ↓kPut_, ↓kOwn_, ↓kAp_, ↓kSe2_, ↓kSe1_, ↓kCl_, ↓kTr1_, ↓kTr_, ↓kOu_, ↓kEn_, ↓kEv_, ↓kEx_, ↓kC1_, ↓kC0_, ↓kEt_, ↓kN0_, ↓kCi_, ↓kLb_, ↓kCb_, ↓kM1_, ↓kM0_, ↓kMp_, ↓kEnd_, ↓kEn0_, ↓kEn1_, ↓kEn2_, ↓kCo0_, ↓kCo1_, ↓kCo2_, ↓kCo3_, ↓kLc3_, ↓kLc2_, ↓kLcN_, ↓kLc1_, ↓kLc_,
      vaW_fz, vaW_ow, voW_fz, voW_ow, vwW_ow, neW_, opW_some, biW_some, wkW_some, ifW_t, ifW_f, andW_t, asBW_, asIW_, hnW_t, hnW_f, rtW_s, rtW_n, rvW_fz, rvW_ow, isVar, clW_, caW_, ckW_, rcW_, okCall,
      slD_fz, slD_ow, rsv_loc, rsv_d, rsvs_nil, rsvs_cons, shp_nil, shp_t, shp_f, locs_nil, locs_l, locs_d', isOw_, putOuts_l, putOuts_d', putOuts_n, ownD_, lsB_, owB_, enW_nil, enW_cons, ouW_, tbl_md, tbl_gl, tbl_isx, tbl_kw, tbl_ct, nwW_, taW_, isObj_d, xF, List.headD_cons, List.tail_cons, List.tail_nil, List.take_succ_cons, List.take_zero, mdO_,
      slotOf, Val.d, Tg.free, Tg.slots, freeO, clr, put, wipeE, backE, Option.bind_some, Option.map_some, List.getElem?_cons_zero, List.getElem?_cons_succ, List.getElem?_nil, List.set_cons_zero, List.set_cons_succ, List.length_cons, List.length_nil, List.zip_cons_cons, List.zip_nil_left, List.zip_nil_right, List.all_cons, List.all_nil, List.contains_cons, List.contains_nil, List.map_cons, List.map_nil, List.foldl_cons, List.foldl_nil, List.append_nil, List.nil_append, List.cons_append,
      Nat.zero_add, Nat.reduceAdd, Nat.reduceLT, Nat.reduceLeDiff, Nat.reduceEqDiff, Nat.reduceBEq, Bool.and_true, Bool.true_and, Bool.and_false, Bool.false_and, Bool.or_false, Bool.or_true, Bool.false_or, Bool.true_or, Bool.not_true, Bool.not_false, decide_true, decide_false, if_true, if_false, ite_true, ite_false, reduceIte, List.nodup_nil, List.nodup_cons, List.not_mem_nil, List.mem_cons, not_false_eq_true, and_self, and_true, true_and, Nat.lt_add_one, Nat.zero_lt_succ, Nat.lt_succ_self, reduceCtorEq, Nat.succ_ne_zero, ne_eq, not_true, or_self, or_false, false_or, decide_eq_true_eq,
      y_add, y_sub, y_neg, y_mul, y_mod, y_fdiv, y_addT, y_addL, y_lt, y_le, y_gt, y_ge, y_isN, y_notN, y_lenT, y_lenL, y_abs, y_int, y_intB, y_listT, y_listL, y_tupT, y_tupL, y_revT, y_revL, y_isi, y_itemT, y_itemL, y_slcT, y_slcL, y_slcS, cut_to, cut_from, cut_mid, cut_neg1, y_range, Int.toNat_natCast, Int.reduceToNat, y_wL, y_wT, y_wE, y_wZ, y_wZT, y_range2, slN_nil, slN_nm, slN_tp, lenok, lenok2, y_in, y_notin, inS_ints, y_ssetL, y_ssetT, y_neNil, y_pow, p1016, y_mulL1, Int.cast_ofNat_Int, BEq.rfl, Int.reduceBEq, Int.reduceBNe, Int.reduceLT, Int.reduceLE, Int.reduceNeg, Int.reduceAdd, Int.reduceSub, y_eqS, y_neS, y_eqI, y_neI, y_allM, y_anyM, t_isTup_non, t_isTup_bl, t_isTup_int, t_isTup_str, t_isTup_tup, t_isTup_lst, t_isTup_dK, t_isTup_dT, t_isTup_obj, t_isTup_scr, t_isInB_non, t_isInB_bl, t_isInB_int, t_isInB_str, t_isInB_tup, t_isInB_lst, t_isInB_dK, t_isInB_dT, t_isInB_obj, t_isInB_scr, t_isBo_non, t_isBo_bl, t_isBo_int, t_isBo_str, t_isBo_tup, t_isBo_lst, t_isBo_dK, t_isBo_dT, t_isBo_obj, t_isBo_scr, t_isSt_non, t_isSt_bl, t_isSt_int, t_isSt_str, t_isSt_tup, t_isSt_lst, t_isSt_dK, t_isSt_dT, t_isSt_obj, t_isSt_scr, t_isLi_non, t_isLi_bl, t_isLi_int, t_isLi_str, t_isLi_tup, t_isLi_lst, t_isLi_dK, t_isLi_dT, t_isLi_obj, t_isLi_scr, t_isDi_non, t_isDi_bl, t_isDi_int, t_isDi_str, t_isDi_tup, t_isDi_lst, t_isDi_dK, t_isDi_dT, t_isDi_obj, t_isDi_scr, t_isNon_non, t_isNon_bl, t_isNon_int, t_isNon_str, t_isNon_tup, t_isNon_lst, t_isNon_dK, t_isNon_dT, t_isNon_obj, t_isNon_scr, t_plainD_non, t_plainD_bl, t_plainD_int, t_plainD_str, t_plainD_tup, t_plainD_lst, t_plainD_dK, t_plainD_dT, t_plainD_obj, t_plainD_scr, seti_0, seti_1, seti_2, seti_3, apnd_l, atI_0, atI_1, atI_2, atI_3, atI_4, sizeL, y_isTup, y_isInt, y_isBool, y_isStr, y_isList, y_isDict, *])
theorem e_is_integer (h1 : P "is_integer" = some ⟨[false], 1, b_is_integer⟩) {d : D} (h : plainD d = true) : (tbl P gl isx kw ct (n + 1)).sem "is_integer" [d] = .ok (.fz (.bl (isI d))) [] := by
  refine cw_ok.mp (cw_def [] [.fz d] h1 ⟨rfl, by decide⟩ rfl rfl ?_)
  unfold b_is_integer
  walk_at "mp"
  cases d <;> (walk_at "mp") <;> rfl
theorem e_is_count (h1 : P "is_integer" = some ⟨[false], 1, b_is_integer⟩) (h2 : P "is_count" = some ⟨[false], 1, b_is_count⟩) {d : D} (h : plainD d = true) : (tbl P gl isx kw ct (n + 2)).sem "is_count" [d] = .ok (.fz (.bl (cnt d))) [] := by
  refine cw_ok.mp (cw_def [] [.fz d] h2 ⟨rfl, by decide⟩ rfl rfl ?_)
  unfold b_is_count
  walk_at "mq"
  rw [e_is_integer h1 h, cq_ok0 rfl]
  walk_at "mq"
  cases d <;> (simp only [isI]) <;> (walk_at "mq") <;> rfl
theorem zip_map {f : D → D → D} {xs : List D} : True := trivial
/-- the answers of one < other over neighbours -/
theorem ups_all : ∀ {xs : List D}, xs.all cnt = true → ((List.zipWith (fun x y => D.tup [x, y]) xs.dropLast (xs.drop 1)).all fun p => match p with | .tup [.int a, .int b] => decide (a < b) | _ => false) = ups xs
  | [], _ => rfl
  | [x], _ => by cases x <;> rfl
  | x :: y :: r, h => by
    rw [List.all_cons, Bool.and_eq_true] at h
    obtain ⟨hx, h⟩ := h
    have ih := ups_all (xs := y :: r) h
    rw [List.all_cons, Bool.and_eq_true] at h
    cases x <;> first | (exact Bool.noConfusion hx) | skip
    cases y <;> first | (exact Bool.noConfusion h.1) | skip
    show (decide _ && _) = (decide _ && _)
    rw [← ih]
    rfl
theorem mem_zipWith {α β γ : Type} {f : α → β → γ} : ∀ {as : List α} {bs : List β} {x : γ}, x ∈ List.zipWith f as bs → ∃ a, a ∈ as ∧ ∃ b, b ∈ bs ∧ x = f a b
  | [], _, _, h => by cases h
  | a :: as, [], _, h => by cases h
  | a :: as, b :: bs, x, h => by
    rcases List.mem_cons.mp h with rfl | h
    · exact ⟨a, List.mem_cons_self, b, List.mem_cons_self, rfl⟩
    · obtain ⟨a', h1, b', h2, e⟩ := mem_zipWith h
      exact ⟨a', List.mem_cons_of_mem _ h1, b', List.mem_cons_of_mem _ h2, e⟩
theorem zip_ints {xs : List D} (h : xs.all cnt = true) {x : D} (hx : x ∈ List.zipWith (fun x y => D.tup [x, y]) xs.dropLast (xs.drop 1)) : ∃ a b, x = .tup [.int a, .int b] := by
  have hi : ∀ y, y ∈ xs → ∃ a, y = .int a := fun y hy => by
    have := List.all_eq_true.mp h y hy
    cases y <;> first | exact ⟨_, rfl⟩ | (exact Bool.noConfusion this)
  obtain ⟨a, h1, b, h2, rfl⟩ := mem_zipWith hx
  obtain ⟨a', rfl⟩ := hi a ((List.dropLast_subset _ h1))
  obtain ⟨b', rfl⟩ := hi b (List.mem_of_mem_drop h2)
  exact ⟨_, _, rfl⟩
structure L (P : Str → Option Fn) : Prop where
  is_integer : P "is_integer" = some ⟨[false], 1, b_is_integer⟩
  is_count : P "is_count" = some ⟨[false], 1, b_is_count⟩
  is_rising : P "is_rising" = some ⟨[false], 3, b_is_rising⟩
theorem e_is_rising (N : L P) {d : D} (h : Dok d) : (tbl P gl isx kw ct (n + 3)).sem "is_rising" [d] = .ok (.fz (.bl (rise d))) [] := by
  refine cw_ok.mp (cw_def [] [.fz d, .un, .un] N.is_rising ⟨rfl, by decide⟩ rfl rfl ?_)
  have h1 := N.is_integer
  have h2 := N.is_count
  have hp := h.pl
  unfold b_is_rising
  walk_at "mq"
  cases d with
  | tup ds =>
    have hl := h.tup.len
    walk_at "mq"
    refine cp_mapT (fun x => .bl (cnt x)) (fun x hx => ?_) ?_
    · walk_at "mq"
      rw [e_is_count h1 h2 (h.tup.mem hx).pl, cq_ok0 rfl]
      walk_at "mq"
    · walk_at "mq"
      refine ifW_of (fun q => ?_) fun q => ?_
      · walk_at "mq"
        show Val.fz (D.bl false) = Val.fz (D.bl (ds.all cnt && ups ds))
        simp only [Bool.not_eq_true'] at q
        rw [q]
        rfl
      · have q : ds.all cnt = true := by simpa using q
        walk_at "mp"
        refine cp_mapT (fun p => .bl (match p with | .tup [.int a, .int b] => decide (a < b) | _ => false)) (fun x hx => ?_) ?_
        · obtain ⟨a, b, rfl⟩ := zip_ints q hx
          walk_at "mp"
        · walk_at "mp"
          show Val.fz (D.bl _) = Val.fz (D.bl (ds.all cnt && ups ds))
          rw [q, ← ups_all q]
          rfl
  | _ => walk_at "mq"; rfl
theorem e_is_steps (h1 : P "is_integer" = some ⟨[false], 1, b_is_integer⟩) (h2 : P "is_steps" = some ⟨[false, false], 2, b_is_steps⟩) (hg : gl "MAX_STEPS" = some (.int 30)) {d : D} {l : Int} (h : plainD d = true) : (tbl P gl isx kw ct (n + 2)).sem "is_steps" [d, .int l] = .ok (.fz (.bl (stp d (.int l)))) [] := by
  refine cw_ok.mp (cw_def [] [.fz d, .fz (.int l)] h2 ⟨rfl, by decide⟩ rfl rfl ?_)
  unfold b_is_steps
  walk_at "mq"
  rw [e_is_integer h1 h, cq_ok0 rfl]
  walk_at "mq"
  cases d with
  | int i =>
    simp only [isI]
    walk_at "mq"
    refine ifW_of (fun q => ?_) fun q => ?_
    · walk_at "mq"
      show Val.fz (D.bl _) = Val.fz (D.bl (decide (l ≤ i) && decide (i ≤ 30)))
      rw [q]
      rfl
    · walk_at "mq"
      show Val.fz (D.bl _) = Val.fz (D.bl (decide (l ≤ i) && decide (i ≤ 30)))
      rw [q]
      rfl
  | _ => simp only [isI]; walk_at "mq"; rfl
structure LW (P : Str → Option Fn) (gl : Str → Option D) : Prop extends L P where
  is_steps : P "is_steps" = some ⟨[false, false], 2, b_is_steps⟩
  is_watcher : P "is_watcher" = some ⟨[false], 2, b_is_watcher⟩
  max_steps : gl "MAX_STEPS" = some (.int 30)
  max_places : gl "MAX_PLACES" = some (.int 8)
def lt8 : D → Bool | .int i => decide (i < 8) | _ => false
def mk8 : D → Bool | .tup ms => ms.all lt8 | _ => false
def wat : D → Bool
  | .tup [g, w, l, h, m] => stp g (.int 1) && stp l (.int 0) && (isNon w || stp w g) && stp h l && rise m && mk8 m
  | _ => false
theorem wat_len {ds : List D} (h : ¬ ds.length = 5) : wat (.tup ds) = false := by
  unfold wat
  split
  · rename_i e
    cases e
    exact absurd rfl h
  · rfl
theorem len5 {ds : List D} (h : ds.length = 5) : ∃ a b c d e, ds = [a, b, c, d, e] := by
  match ds, h with
  | [a, b, c, d, e], _ => exact ⟨a, b, c, d, e, rfl⟩
theorem stp_int {d l : D} (h : stp d l = true) : ∃ i, d = .int i := by
  cases d <;> first | exact ⟨_, rfl⟩ | (exact Bool.noConfusion h)
theorem e_is_watcher (N : LW P gl) {d : D} (h : Dok d) : (tbl P gl isx kw ct (n + 4)).sem "is_watcher" [d] = .ok (.fz (.bl (wat d))) [] := by
  refine cw_ok.mp (cw_def [] [.fz d, .un] N.is_watcher ⟨rfl, by decide⟩ rfl rfl ?_)
  have h1 := N.is_integer
  have h2 := N.is_steps
  have h3 := N.is_rising
  have h4 := N.max_places
  have hp := h.pl
  unfold b_is_watcher
  cases d with
  | tup ds =>
    have hl := h.tup.len
    by_cases h5 : ds.length = 5
    · obtain ⟨a, b, c, d, e, rfl⟩ := len5 h5
      have ha := (h.tup.mem (d := a) (by simp)).pl
      have hb := (h.tup.mem (d := b) (by simp)).pl
      have hc := (h.tup.mem (d := c) (by simp)).pl
      have hd := (h.tup.mem (d := d) (by simp)).pl
      have he := h.tup.mem (d := e) (by simp)
      walk_at "mps"
      refine s1_cut (fun r => r = [.fz (.tup [a, b, c, d, e]), .un] ∧ stp a (.int 1) = true ∧ stp c (.int 0) = true) ?_ ?_
      · walk_at "mq"
        rw [e_is_steps h1 h2 N.max_steps ha, cq_ok0 rfl]
        walk_at "mq"
        cases q1 : stp a (.int 1) with
        | false => walk_at "mq"; simp only [wat, q1, Bool.false_and]
        | true =>
        walk_at "mq"
        rw [e_is_steps h1 h2 N.max_steps hc, cq_ok0 rfl]
        walk_at "mq"
        cases q2 : stp c (.int 0) with
        | false => walk_at "mq"; simp only [wat, q1, q2, Bool.false_and, Bool.and_false]
        | true => walk_at "mq"
      rintro r ⟨rfl, q1, q2⟩
      obtain ⟨i, rfl⟩ := stp_int q1
      obtain ⟨k, rfl⟩ := stp_int q2
      walk_at "mps"
      refine s1_cut (fun r => r = [.fz (.tup [.int i, b, .int k, d, e]), .un] ∧ (isNon b || stp b (.int i)) = true) ?_ ?_
      · walk_at "mq"
        cases q3 : isNon b with
        | true => walk_at "mq"
        | false =>
        walk_at "mq"
        rw [e_is_steps h1 h2 N.max_steps hb, cq_ok0 rfl]
        walk_at "mq"
        cases q4 : stp b (.int i) with
        | false => walk_at "mq"; simp only [wat, q1, q2, q3, q4, Bool.false_and, Bool.and_false, Bool.or_false]
        | true => walk_at "mq"
      rintro r ⟨rfl, q3⟩
      walk_at "mps"
      refine s1_cut (fun r => r = [.fz (.tup [.int i, b, .int k, d, e]), .un] ∧ stp d (.int k) = true ∧ rise e = true) ?_ ?_
      · walk_at "mq"
        rw [e_is_steps h1 h2 N.max_steps hd, cq_ok0 rfl]
        walk_at "mq"
        cases q4 : stp d (.int k) with
        | false => walk_at "mq"; simp only [wat, q1, q2, q3, q4, Bool.false_and, Bool.and_false, Bool.or_false]
        | true =>
        walk_at "mq"
        rw [e_is_rising N.toL he, cq_ok0 rfl]
        walk_at "mq"
        cases q5 : rise e with
        | false => walk_at "mq"; simp only [wat, q1, q2, q3, q4, q5, Bool.false_and, Bool.and_false, Bool.or_false]
        | true => walk_at "mq"
      rintro r ⟨rfl, q4, q5⟩
      cases e <;> first | (exact Bool.noConfusion q5) | skip
      rename_i ms
      have ml := he.tup.len
      have mi : ms.all cnt = true := (Bool.and_eq_true_iff.mp q5).1
      walk_at "mq"
      refine cp_mapT (fun x => .bl (lt8 x)) (fun x hx => ?_) ?_
      · have := List.all_eq_true.mp mi x hx
        cases x <;> first | (exact Bool.noConfusion this) | skip
        walk_at "mq"
        rfl
      · walk_at "mq"
        simp only [wat, q1, q2, q3, q4, q5, Bool.true_and]
        rfl
    · walk_at "mq"
      rw [wat_len h5]
      have : ((ds.length : Int) == 5) = false := by
        rw [beq_eq_false_iff_ne]
        omega
      rw [this]
      walk_at "mq"
  | _ => walk_at "mq"; rfl
end
end Nm

set_option Elab.async false
set_option linter.all false
set_option maxRecDepth 100000
set_option maxHeartbeats 4000000
/-! the pot: drawing. -/
namespace Pot
open PySem Mp Mw
def b_kneaded : List MS := [.set 2 (.cst (.int 2305843009213693907)),
  .set 3 (.bi .mod [.bi .int [.bi .add [.bi .add [.bi .mul [.var 0, .cst (.int 2862933555777941757)], .bi .mul [.var 1, .cst (.int 3037000493)]], .cst (.int 29)]], .var 2]),
  .forr (.nm 4) 1 [.cst (.int 4)] [.set 3 (.bi .mod [.bi .int [.bi .add [.bi .add [.bi .add [.bi .mul [.var 3, .var 3], .bi .mul [.cst (.int 11), .var 3]], .bi .mul [.cst (.int 4099), .var 4]], .var 1]], .var 2])],
  .ret (.bi .add [.bi .mul [.var 3, .var 2], .bi .mod [.bi .int [.bi .add [.bi .mul [.var 3, .cst (.int 69621)], .var 1]], .var 2]])]
def b_below : List MS := [.iff (.bi .lt [.bi .item [.var 0, .cst (.int 3)], .var 1]) [.par 2 3 (.bi .item [.var 0, .cst (.int 0)]) (.bi .item [.var 0, .cst (.int 1)]),
  .set 4 (.ife (.bi .ne [.var 2, .lst []]) (.bi .item [.var 2, .bi .mod [.var 3, .bi .len [.var 2]]]) (.cst (.int 0))),
  .iff (.or_ (.bi .ge [.var 3, .bi .len [.var 2]]) (.bi .lt [.var 4, .bi .pow [.cst (.int 10), .cst (.int 16)]])) [.set 4 (.call "_law_kneaded" [.bi .mod [.bi .int [.var 4], .cst (.int 982451629)], .var 3])] [],
  .seti 0 (.cst (.int 1)) (.bi .add [.var 3, .cst (.int 1)]),
  .seti 0 (.cst (.int 2)) (.var 4),
  .seti 0 (.cst (.int 3)) (.var 4)] [],
  .set 5 (.bi .mod [.bi .int [.bi .item [.var 0, .cst (.int 2)]], .var 1]),
  .seti 0 (.cst (.int 2)) (.bi .fdiv [.bi .item [.var 0, .cst (.int 2)], .var 1]),
  .seti 0 (.cst (.int 3)) (.bi .fdiv [.bi .item [.var 0, .cst (.int 3)], .var 1]),
  .ret (.var 5)]
def b_pick : List MS := [.ret (.bi .item [.var 1, .call "_law_below" [.var 0, .bi .len [.var 1]]])]
def b_potof : List MS := [.set 1 (.comp (.nm 2) (.bi .abs [.var 2]) 0 [.slc (.var 0) none (some (.cst (.int 17)))] []),
  .forr (.tp [3, 2]) 3 [.slc (.var 0) (some (.cst (.int 17))) (some (.cst (.int 60)))] [.seti 1 (.bi .mod [.var 3, .cst (.int 17)]) (.bi .add [.bi .item [.var 1, .bi .mod [.var 3, .cst (.int 17)]], .bi .abs [.var 2]])],
  .ret (.lst [.var 1, .cst (.int 0), .cst (.int 0), .cst (.int 0)])]
structure PotL (P : Str → Option Fn) : Prop where
  kneaded : P "_law_kneaded" = some ⟨[false, false], 5, b_kneaded⟩
  below : P "_law_below" = some ⟨[true, false], 6, b_below⟩
  pick : P "_law_pick" = some ⟨[true, false], 2, b_pick⟩
  potof : P "_law_pot_of" = some ⟨[false], 4, b_potof⟩
/-- the pot: what is left of the script, where we stand, two amounts -/
def pot (cs : List Int) (p a c : Int) : D := .lst [.lst (cs.map .int), .int p, .int a, .int c]
/-- the place stands at most at m -/
def PotOk (m : Nat) (d : D) : Prop := ∃ (cs : List Int) (p a c : Int), d = .lst [.lst (cs.map .int), .int p, .int a, .int c] ∧ 0 ≤ p ∧ p ≤ m ∧ cs.length ≤ 17
theorem PotOk.mono {m k : Nat} {d : D} (h : PotOk m d) (l : m ≤ k) : PotOk k d := by
  obtain ⟨cs, p, a, c, e, h1, h2, h3⟩ := h
  exact ⟨cs, p, a, c, e, h1, by omega, h3⟩
section
variable {P : Str → Option Fn} {gl : Str → Option D} {isx : Str → Str → Option Bool} {kw : Str → List Str → Option (List D → List D)} {ct : CT} {n : Nat}
local macro_rules
  | `(tactic| walk_at "mp") => `(tactic| simp (implicitDefEqProofs := false) (disch := first | assumption | omega | (simp only [List.length_map, List.length_take, List.length_drop, List.length_append, List.length_reverse, List.length_cons, List.length_nil, List.length_replicate, rng_len, List.length_set, List.length_zipWith, List.length_zipIdx, List.length_dropLast]; omega)) only [↓sx_cons, ↓sx_nil, ↓s1_set, ↓s1_sett, ↓s1_par, ↓s1_expr, ↓s1_ret, ↓s1_iff, ↓s1_forr, ↓s1_whl, ↓s1_app, ↓s1_seti, ↓s1_setf, ↓s1_pass, ↓s1_brk, ↓s1_cont, ↓s1_raise, ↓s1_try, sutK,
      ↓ew_var, ↓ew_cst, ↓ew_glo, ↓ew_bi, ↓ew_chain, ↓ew_slc, ↓ew_and, ↓ew_or, ↓ew_not, ↓ew_ife, ↓ew_tup, ↓ew_lst, ↓ew_dct0, ↓ew_call, ↓ew_callk, ↓ew_comp, ↓ew_compn, ↓enN_nil, ↓enN_cons, ↓ew_mth, ↓ew_tapp, ↓ew_prp, ↓ew_leno, ↓ew_inn, ↓ew_eqo, ↓ew_new, ↓bw_, ↓pw_n, ↓pw_s, ↓fsW_nil, ↓fsW_cons, ↓osW_nil, ↓osW_cons, ↓asW_nil, ↓asW_cons, ↓a1W_t, ↓a1W_f, ↓csW_nil, ↓csW_one,
      ↓ow_var, ↓ow_cst, ↓ow_glo, ↓ow_bi, ↓ow_chain, ↓ow_slc, ↓ow_and, ↓ow_or, ↓ow_not, ↓ow_ife, ↓ow_call, ↓ow_callk, ↓ow_tup, ↓ow_lst, ↓ow_dct0, ↓ow_comp, ↓ow_compn, ↓ow_mth, ↓ow_tapp, ↓ow_prp, ↓ow_new, ↓ow_inn, ↓ow_leno, ↓ow_eqo,
      ↓kCq_, ↓kTd_, ↓kTc_, ↓kTb_, ↓kTa_, ↓kMc_, ↓kMb_, ↓kMa_, ↓kMd_, ↓kMe_, ↓kPb_, ↓kPa_, ↓kPo_, ↓kLn3_, ↓kLn2_, ↓kLn_, ↓kIn2_t, ↓kIn2_f, ↓kIn_, ↓kIc_, ↓kIb_, ↓kIa_, ↓kIo_, ↓kQc_, ↓kQb_, ↓kQa_, ↓kQo_, ↓kNq_, ↓kNw_, ↓kNz_, ↓kNb_, ↓kNa_, ↓kNo_, ↓kSf_, ↓kSg_, ↓kCk_, ↓kNe_, ↓kV_, ↓kE_, ↓kS_, ↓kX_, ↓kFz_, ↓kQv_, ↓kBi_, ↓kBi2_, ↓kOw_, ↓kCh4_, ↓kCh3_, ↓kCh2_, ↓kCh1_, ↓kB_, ↓kBw_, ↓kI_, ↓kPw_, ↓kSl3_, ↓kSl2_, ↓kSl1_, ↓kAn_, ↓kOr_, ↓kNt_, ↓kIe_, ↓kCons_, ↓kFs_, ↓kOs_, ↓kAs_, ↓kD_, ↓kTup_, ↓kLst_, ↓kRc_, ↓kAl_, ↓kCp2_, ↓kCp1_, ↓kCp_, ↓rq_conds, ↓kEl_, ↓rq_elt, ↓fq_body, ↓rq_cond, ↓kSq_, ↓kSt_, ↓kPt_, ↓kSet_, ↓kPr2_, ↓kPr1_, ↓kNx_, ↓kIf_, ↓kFo2_, ↓kFo1_, ↓kFo_, ↓kPut_, ↓kOwn_, ↓kAp_, ↓kSe2_, ↓kSe1_, ↓kCl_, ↓kTr1_, ↓kTr_, ↓kOu_, ↓kEn_, ↓kEv_, ↓kEx_, ↓kC1_, ↓kC0_, ↓kEt_, ↓kN0_, ↓kCi_, ↓kLb_, ↓kCb_, ↓kM1_, ↓kM0_, ↓kMp_, ↓kEnd_, ↓kEn0_, ↓kEn1_, ↓kEn2_, ↓kCo0_, ↓kCo1_, ↓kCo2_, ↓kCo3_, ↓kLc3_, ↓kLc2_, ↓kLcN_, ↓kLc1_, ↓kLc_,
      vaW_fz, vaW_ow, voW_fz, voW_ow, vwW_ow, neW_, opW_some, biW_some, wkW_some, ifW_t, ifW_f, andW_t, asBW_, asIW_, hnW_t, hnW_f, rtW_s, rtW_n, rvW_fz, rvW_ow, isVar, clW_, caW_, ckW_, rcW_, okCall,
      slD_fz, slD_ow, rsv_loc, rsv_d, rsvs_nil, rsvs_cons, shp_nil, shp_t, shp_f, locs_nil, locs_l, locs_d', isOw_, putOuts_l, putOuts_d', putOuts_n, ownD_, lsB_, owB_, enW_nil, enW_cons, ouW_, tbl_md, tbl_gl, tbl_isx, tbl_kw, tbl_ct, nwW_, taW_, isObj_d, xF, List.headD_cons, List.tail_cons, List.tail_nil, List.take_succ_cons, List.take_zero, mdO_,
      slotOf, Val.d, Tg.free, Tg.slots, freeO, clr, put, wipeE, backE, Option.bind_some, Option.map_some, List.getElem?_cons_zero, List.getElem?_cons_succ, List.getElem?_nil, List.set_cons_zero, List.set_cons_succ, List.length_cons, List.length_nil, List.zip_cons_cons, List.zip_nil_left, List.zip_nil_right, List.all_cons, List.all_nil, List.contains_cons, List.contains_nil, List.map_cons, List.map_nil, List.foldl_cons, List.foldl_nil, List.append_nil, List.nil_append, List.cons_append,
      Nat.zero_add, Nat.reduceAdd, Nat.reduceLT, Nat.reduceLeDiff, Nat.reduceEqDiff, Nat.reduceBEq, Bool.and_true, Bool.true_and, Bool.and_false, Bool.false_and, Bool.or_false, Bool.or_true, Bool.false_or, Bool.true_or, Bool.not_true, Bool.not_false, decide_true, decide_false, if_true, if_false, ite_true, ite_false, reduceIte, List.nodup_nil, List.nodup_cons, List.not_mem_nil, List.mem_cons, not_false_eq_true, and_self, and_true, true_and, Nat.lt_add_one, Nat.zero_lt_succ, Nat.lt_succ_self, reduceCtorEq, Nat.succ_ne_zero, ne_eq, not_true, or_self, or_false, false_or, decide_eq_true_eq,
      y_add, y_sub, y_neg, y_mul, y_mod, y_fdiv, y_addT, y_addL, y_lt, y_le, y_gt, y_ge, y_isN, y_notN, y_lenT, y_lenL, y_abs, y_int, y_intB, y_listT, y_listL, y_tupT, y_tupL, y_revT, y_revL, y_isi, y_itemT, y_itemL, y_slcT, y_slcL, y_slcS, cut_to, cut_from, cut_mid, cut_neg1, y_range, Int.toNat_natCast, Int.reduceToNat, y_wL, y_wT, y_wE, y_wZ, y_wZT, y_range2, slN_nil, slN_nm, slN_tp, lenok, lenok2, y_in, y_notin, inS_ints, y_ssetL, y_ssetT, y_neNil, y_pow, p1016, y_mulL1, Int.cast_ofNat_Int, BEq.rfl, Int.reduceBEq, Int.reduceBNe, Int.reduceLT, Int.reduceLE, Int.reduceNeg, Int.reduceAdd, Int.reduceSub, y_eqS, y_neS, y_eqI, y_neI, y_allM, y_anyM, t_isTup_non, t_isTup_bl, t_isTup_int, t_isTup_str, t_isTup_tup, t_isTup_lst, t_isTup_dK, t_isTup_dT, t_isTup_obj, t_isTup_scr, t_isInB_non, t_isInB_bl, t_isInB_int, t_isInB_str, t_isInB_tup, t_isInB_lst, t_isInB_dK, t_isInB_dT, t_isInB_obj, t_isInB_scr, t_isBo_non, t_isBo_bl, t_isBo_int, t_isBo_str, t_isBo_tup, t_isBo_lst, t_isBo_dK, t_isBo_dT, t_isBo_obj, t_isBo_scr, t_isSt_non, t_isSt_bl, t_isSt_int, t_isSt_str, t_isSt_tup, t_isSt_lst, t_isSt_dK, t_isSt_dT, t_isSt_obj, t_isSt_scr, t_isLi_non, t_isLi_bl, t_isLi_int, t_isLi_str, t_isLi_tup, t_isLi_lst, t_isLi_dK, t_isLi_dT, t_isLi_obj, t_isLi_scr, t_isDi_non, t_isDi_bl, t_isDi_int, t_isDi_str, t_isDi_tup, t_isDi_lst, t_isDi_dK, t_isDi_dT, t_isDi_obj, t_isDi_scr, t_isNon_non, t_isNon_bl, t_isNon_int, t_isNon_str, t_isNon_tup, t_isNon_lst, t_isNon_dK, t_isNon_dT, t_isNon_obj, t_isNon_scr, t_plainD_non, t_plainD_bl, t_plainD_int, t_plainD_str, t_plainD_tup, t_plainD_lst, t_plainD_dK, t_plainD_dT, t_plainD_obj, t_plainD_scr, seti_0, seti_1, seti_2, seti_3, apnd_l, atI_0, atI_1, atI_2, atI_3, atI_4, sizeL])
local macro_rules
  | `(tactic| walk_at "mps") => `(tactic| simp (implicitDefEqProofs := false) (disch := first | assumption | omega | (simp only [List.length_map, List.length_take, List.length_drop, List.length_append, List.length_reverse, List.length_cons, List.length_nil, List.length_replicate, rng_len, List.length_set, List.length_zipWith, List.length_zipIdx, List.length_dropLast]; omega)) only [↓sx_cons, ↓sx_nil, ↓s1_set, ↓s1_sett, ↓s1_par, ↓s1_expr, ↓s1_ret, ↓s1_forr, ↓s1_whl, ↓s1_app, ↓s1_seti, ↓s1_setf, ↓s1_pass, ↓s1_brk, ↓s1_cont, ↓s1_raise, sutK,
      ↓ew_var, ↓ew_cst, ↓ew_glo, ↓ew_bi, ↓ew_chain, ↓ew_slc, ↓ew_and, ↓ew_or, ↓ew_not, ↓ew_ife, ↓ew_tup, ↓ew_lst, ↓ew_dct0, ↓ew_call, ↓ew_callk, ↓ew_comp, ↓ew_compn, ↓enN_nil, ↓enN_cons, ↓ew_mth, ↓ew_tapp, ↓ew_prp, ↓ew_leno, ↓ew_inn, ↓ew_eqo, ↓ew_new, ↓bw_, ↓pw_n, ↓pw_s, ↓fsW_nil, ↓fsW_cons, ↓osW_nil, ↓osW_cons, ↓asW_nil, ↓asW_cons, ↓a1W_t, ↓a1W_f, ↓csW_nil, ↓csW_one,
      ↓ow_var, ↓ow_cst, ↓ow_glo, ↓ow_bi, ↓ow_chain, ↓ow_slc, ↓ow_and, ↓ow_or, ↓ow_not, ↓ow_ife, ↓ow_call, ↓ow_callk, ↓ow_tup, ↓ow_lst, ↓ow_dct0, ↓ow_comp, ↓ow_compn, ↓ow_mth, ↓ow_tapp, ↓ow_prp, ↓ow_new, ↓ow_inn, ↓ow_leno, ↓ow_eqo,
      ↓kCq_, ↓kTd_, ↓kTc_, ↓kTb_, ↓kTa_, ↓kMc_, ↓kMb_, ↓kMa_, ↓kMd_, ↓kMe_, ↓kPb_, ↓kPa_, ↓kPo_, ↓kLn3_, ↓kLn2_, ↓kLn_, ↓kIn2_t, ↓kIn2_f, ↓kIn_, ↓kIc_, ↓kIb_, ↓kIa_, ↓kIo_, ↓kQc_, ↓kQb_, ↓kQa_, ↓kQo_, ↓kNq_, ↓kNw_, ↓kNz_, ↓kNb_, ↓kNa_, ↓kNo_, ↓kSf_, ↓kSg_, ↓kCk_, ↓kNe_, ↓kV_, ↓kE_, ↓kS_, ↓kX_, ↓kFz_, ↓kQv_, ↓kBi_, ↓kBi2_, ↓kOw_, ↓kCh4_, ↓kCh3_, ↓kCh2_, ↓kCh1_, ↓kB_, ↓kBw_, ↓kI_, ↓kPw_, ↓kSl3_, ↓kSl2_, ↓kSl1_, ↓kAn_, ↓kOr_, ↓kNt_, ↓kIe_, ↓kCons_, ↓kFs_, ↓kOs_, ↓kAs_, ↓kD_, ↓kTup_, ↓kLst_, ↓kRc_, ↓kAl_, ↓kCp2_, ↓kCp1_, ↓kCp_, ↓rq_conds, ↓kEl_, ↓rq_elt, ↓fq_body, ↓rq_cond, ↓kSq_, ↓kSt_, ↓kPt_, ↓kSet_, ↓kPr2_, ↓kPr1_, ↓kNx_, ↓kIf_, ↓kFo2_, ↓kFo1_, ↓kFo_, ↓kPut_, ↓kOwn_, ↓kAp_, ↓kSe2_, ↓kSe1_, ↓kCl_, ↓kTr1_, ↓kTr_, ↓kOu_, ↓kEn_, ↓kEv_, ↓kEx_, ↓kC1_, ↓kC0_, ↓kEt_, ↓kN0_, ↓kCi_, ↓kLb_, ↓kCb_, ↓kM1_, ↓kM0_, ↓kMp_, ↓kEnd_, ↓kEn0_, ↓kEn1_, ↓kEn2_, ↓kCo0_, ↓kCo1_, ↓kCo2_, ↓kCo3_, ↓kLc3_, ↓kLc2_, ↓kLcN_, ↓kLc1_, ↓kLc_,
      vaW_fz, vaW_ow, voW_fz, voW_ow, vwW_ow, neW_, opW_some, biW_some, wkW_some, ifW_t, ifW_f, andW_t, asBW_, asIW_, hnW_t, hnW_f, rtW_s, rtW_n, rvW_fz, rvW_ow, isVar, clW_, caW_, ckW_, rcW_, okCall,
      slD_fz, slD_ow, rsv_loc, rsv_d, rsvs_nil, rsvs_cons, shp_nil, shp_t, shp_f, locs_nil, locs_l, locs_d', isOw_, putOuts_l, putOuts_d', putOuts_n, ownD_, lsB_, owB_, enW_nil, enW_cons, ouW_, tbl_md, tbl_gl, tbl_isx, tbl_kw, tbl_ct, nwW_, taW_, isObj_d, xF, List.headD_cons, List.tail_cons, List.tail_nil, List.take_succ_cons, List.take_zero, mdO_,
      slotOf, Val.d, Tg.free, Tg.slots, freeO, clr, put, wipeE, backE, Option.bind_some, Option.map_some, List.getElem?_cons_zero, List.getElem?_cons_succ, List.getElem?_nil, List.set_cons_zero, List.set_cons_succ, List.length_cons, List.length_nil, List.zip_cons_cons, List.zip_nil_left, List.zip_nil_right, List.all_cons, List.all_nil, List.contains_cons, List.contains_nil, List.map_cons, List.map_nil, List.foldl_cons, List.foldl_nil, List.append_nil, List.nil_append, List.cons_append,
      Nat.zero_add, Nat.reduceAdd, Nat.reduceLT, Nat.reduceLeDiff, Nat.reduceEqDiff, Nat.reduceBEq, Bool.and_true, Bool.true_and, Bool.and_false, Bool.false_and, Bool.or_false, Bool.or_true, Bool.false_or, Bool.true_or, Bool.not_true, Bool.not_false, decide_true, decide_false, if_true, if_false, ite_true, ite_false, reduceIte, List.nodup_nil, List.nodup_cons, List.not_mem_nil, List.mem_cons, not_false_eq_true, and_self, and_true, true_and, Nat.lt_add_one, Nat.zero_lt_succ, Nat.lt_succ_self, reduceCtorEq, Nat.succ_ne_zero, ne_eq, not_true, or_self, or_false, false_or, decide_eq_true_eq,
      y_add, y_sub, y_neg, y_mul, y_mod, y_fdiv, y_addT, y_addL, y_lt, y_le, y_gt, y_ge, y_isN, y_notN, y_lenT, y_lenL, y_abs, y_int, y_intB, y_listT, y_listL, y_tupT, y_tupL, y_revT, y_revL, y_isi, y_itemT, y_itemL, y_slcT, y_slcL, y_slcS, cut_to, cut_from, cut_mid, cut_neg1, y_range, Int.toNat_natCast, Int.reduceToNat, y_wL, y_wT, y_wE, y_wZ, y_wZT, y_range2, slN_nil, slN_nm, slN_tp, lenok, lenok2, y_in, y_notin, inS_ints, y_ssetL, y_ssetT, y_neNil, y_pow, p1016, y_mulL1, Int.cast_ofNat_Int, BEq.rfl, Int.reduceBEq, Int.reduceBNe, Int.reduceLT, Int.reduceLE, Int.reduceNeg, Int.reduceAdd, Int.reduceSub, y_eqS, y_neS, y_eqI, y_neI, y_allM, y_anyM, t_isTup_non, t_isTup_bl, t_isTup_int, t_isTup_str, t_isTup_tup, t_isTup_lst, t_isTup_dK, t_isTup_dT, t_isTup_obj, t_isTup_scr, t_isInB_non, t_isInB_bl, t_isInB_int, t_isInB_str, t_isInB_tup, t_isInB_lst, t_isInB_dK, t_isInB_dT, t_isInB_obj, t_isInB_scr, t_isBo_non, t_isBo_bl, t_isBo_int, t_isBo_str, t_isBo_tup, t_isBo_lst, t_isBo_dK, t_isBo_dT, t_isBo_obj, t_isBo_scr, t_isSt_non, t_isSt_bl, t_isSt_int, t_isSt_str, t_isSt_tup, t_isSt_lst, t_isSt_dK, t_isSt_dT, t_isSt_obj, t_isSt_scr, t_isLi_non, t_isLi_bl, t_isLi_int, t_isLi_str, t_isLi_tup, t_isLi_lst, t_isLi_dK, t_isLi_dT, t_isLi_obj, t_isLi_scr, t_isDi_non, t_isDi_bl, t_isDi_int, t_isDi_str, t_isDi_tup, t_isDi_lst, t_isDi_dK, t_isDi_dT, t_isDi_obj, t_isDi_scr, t_isNon_non, t_isNon_bl, t_isNon_int, t_isNon_str, t_isNon_tup, t_isNon_lst, t_isNon_dK, t_isNon_dT, t_isNon_obj, t_isNon_scr, t_plainD_non, t_plainD_bl, t_plainD_int, t_plainD_str, t_plainD_tup, t_plainD_lst, t_plainD_dK, t_plainD_dT, t_plainD_obj, t_plainD_scr, seti_0, seti_1, seti_2, seti_3, apnd_l, atI_0, atI_1, atI_2, atI_3, atI_4, sizeL])
local macro_rules
  | `(tactic| walk_at "mq") => `(tactic| simp (implicitDefEqProofs := false) (disch := first | assumption | omega | (simp only [List.length_map, List.length_take, List.length_drop, List.length_append, List.length_reverse, List.length_cons, List.length_nil, List.length_replicate, rng_len, List.length_set, List.length_zipWith, List.length_zipIdx, List.length_dropLast]; omega)) only [↓sx_cons, ↓sx_nil, ↓s1_set, ↓s1_sett, ↓s1_par, ↓s1_expr, ↓s1_ret, ↓s1_iff, ↓s1_forr, ↓s1_whl, ↓s1_app, ↓s1_seti, ↓s1_setf, ↓s1_pass, ↓s1_brk, ↓s1_cont, ↓s1_raise, ↓s1_try, sutK,
      ↓ew_var, ↓ew_cst, ↓ew_glo, ↓ew_bi, ↓ew_chain, ↓ew_slc, ↓ew_and, ↓ew_or, ↓ew_not, ↓ew_ife, ↓ew_tup, ↓ew_lst, ↓ew_dct0, ↓ew_call, ↓ew_callk, ↓ew_comp, ↓ew_compn, ↓enN_nil, ↓enN_cons, ↓ew_mth, ↓ew_tapp, ↓ew_prp, ↓ew_leno, ↓ew_inn, ↓ew_eqo, ↓ew_new, ↓bw_, ↓pw_n, ↓pw_s, ↓fsW_nil, ↓fsW_cons, ↓osW_nil, ↓osW_cons, ↓asW_nil, ↓asW_cons, ↓a1W_t, ↓a1W_f, ↓csW_nil, ↓csW_one,
      ↓ow_var, ↓ow_cst, ↓ow_glo, ↓ow_bi, ↓ow_chain, ↓ow_slc, ↓ow_and, ↓ow_or, ↓ow_not, ↓ow_ife, ↓ow_call, ↓ow_callk, ↓ow_tup, ↓ow_lst, ↓ow_dct0, ↓ow_comp, ↓ow_compn, ↓ow_mth, ↓ow_tapp, ↓ow_prp, ↓ow_new, ↓ow_inn, ↓ow_leno, ↓ow_eqo,
      ↓kCq_, ↓kTd_, ↓kTc_, ↓kTb_, ↓kTa_, ↓kMc_, ↓kMb_, ↓kMa_, ↓kMd_, ↓kMe_, ↓kPb_, ↓kPa_, ↓kPo_, ↓kLn3_, ↓kLn2_, ↓kLn_, ↓kIn2_t, ↓kIn2_f, ↓kIn_, ↓kIc_, ↓kIb_, ↓kIa_, ↓kIo_, ↓kQc_, ↓kQb_, ↓kQa_, ↓kQo_, ↓kNq_, ↓kNw_, ↓kNz_, ↓kNb_, ↓kNa_, ↓kNo_, ↓kSf_, ↓kSg_, ↓kCk_, ↓kNe_, ↓kV_, ↓kE_, ↓kS_, ↓kX_, ↓kFz_, ↓kQv_, ↓kBi_, ↓kBi2_, ↓kOw_, ↓kCh4_, ↓kCh3_, ↓kCh2_, ↓kCh1_, ↓kB_, ↓kBw_, ↓kI_, ↓kPw_, ↓kSl3_, ↓kSl2_, ↓kSl1_, ↓kAn_, ↓kOr_, ↓kNt_, ↓kIe_, ↓kCons_, ↓kFs_, ↓kOs_, ↓kAs_, ↓kD_, ↓kTup_, ↓kLst_, ↓kRc_, ↓kAl_, ↓kCp2_, ↓kCp1_, ↓kCp_, ↓rq_conds, ↓kEl_, ↓rq_elt, ↓fq_body, ↓rq_cond, ↓kSq_, ↓kSt_, ↓kPt_, ↓kSet_, ↓kPr2_, ↓kPr1_, ↓kNx_, ↓kIf_, ↓kFo2_, ↓kFo1_, ↓kFo_, ↓kPut_, ↓kOwn_, ↓kAp_, ↓kSe2_, ↓kSe1_, ↓kCl_, ↓kTr1_, ↓kTr_, ↓kOu_, ↓kEn_, ↓kEv_, ↓kEx_, ↓kC1_, ↓kC0_, ↓kEt_, ↓kN0_, ↓kCi_, ↓kLb_, ↓kCb_, ↓kM1_, ↓kM0_, ↓kMp_, ↓kEnd_, ↓kEn0_, ↓kEn1_, ↓kEn2_, ↓kCo0_, ↓kCo1_, ↓kCo2_, ↓kCo3_, ↓kLc3_, ↓kLc2_, ↓kLcN_, ↓kLc1_, ↓kLc_,
      vaW_fz, vaW_ow, voW_fz, voW_ow, vwW_ow, neW_, opW_some, biW_some, wkW_some, ifW_t, ifW_f, andW_t, asBW_, asIW_, hnW_t, hnW_f, rtW_s, rtW_n, rvW_fz, rvW_ow, isVar, clW_, caW_, ckW_, rcW_, okCall,
      slD_fz, slD_ow, rsv_loc, rsv_d, rsvs_nil, rsvs_cons, shp_nil, shp_t, shp_f, locs_nil, locs_l, locs_d', isOw_, putOuts_l, putOuts_d', putOuts_n, ownD_, lsB_, owB_, enW_nil, enW_cons, ouW_, tbl_md, tbl_gl, tbl_isx, tbl_kw, tbl_ct, nwW_, taW_, isObj_d, xF, List.headD_cons, List.tail_cons, List.tail_nil, List.take_succ_cons, List.take_zero, mdO_,
      slotOf, Val.d, Tg.free, Tg.slots, freeO, clr, put, wipeE, backE, Option.bind_some, Option.map_some, List.getElem?_cons_zero, List.getElem?_cons_succ, List.getElem?_nil, List.set_cons_zero, List.set_cons_succ, List.length_cons, List.length_nil, List.zip_cons_cons, List.zip_nil_left, List.zip_nil_right, List.all_cons, List.all_nil, List.contains_cons, List.contains_nil, List.map_cons, List.map_nil, List.foldl_cons, List.foldl_nil, List.append_nil, List.nil_append, List.cons_append,
      Nat.zero_add, Nat.reduceAdd, Nat.reduceLT, Nat.reduceLeDiff, Nat.reduceEqDiff, Nat.reduceBEq, Bool.and_true, Bool.true_and, Bool.and_false, Bool.false_and, Bool.or_false, Bool.or_true, Bool.false_or, Bool.true_or, Bool.not_true, Bool.not_false, decide_true, decide_false, if_true, if_false, ite_true, ite_false, reduceIte, List.nodup_nil, List.nodup_cons, List.not_mem_nil, List.mem_cons, not_false_eq_true, and_self, and_true, true_and, Nat.lt_add_one, Nat.zero_lt_succ, Nat.lt_succ_self, reduceCtorEq, Nat.succ_ne_zero, ne_eq, not_true, or_self, or_false, false_or, decide_eq_true_eq,
      y_add, y_sub, y_neg, y_mul, y_mod, y_fdiv, y_addT, y_addL, y_lt, y_le, y_gt, y_ge, y_isN, y_notN, y_lenT, y_lenL, y_abs, y_int, y_intB, y_listT, y_listL, y_tupT, y_tupL, y_revT, y_revL, y_isi, y_itemT, y_itemL, y_slcT, y_slcL, y_slcS, cut_to, cut_from, cut_mid, cut_neg1, y_range, Int.toNat_natCast, Int.reduceToNat, y_wL, y_wT, y_wE, y_wZ, y_wZT, y_range2, slN_nil, slN_nm, slN_tp, lenok, lenok2, y_in, y_notin, inS_ints, y_ssetL, y_ssetT, y_neNil, y_pow, p1016, y_mulL1, Int.cast_ofNat_Int, BEq.rfl, Int.reduceBEq, Int.reduceBNe, Int.reduceLT, Int.reduceLE, Int.reduceNeg, Int.reduceAdd, Int.reduceSub, y_eqS, y_neS, y_eqI, y_neI, y_allM, y_anyM, t_isTup_non, t_isTup_bl, t_isTup_int, t_isTup_str, t_isTup_tup, t_isTup_lst, t_isTup_dK, t_isTup_dT, t_isTup_obj, t_isTup_scr, t_isInB_non, t_isInB_bl, t_isInB_int, t_isInB_str, t_isInB_tup, t_isInB_lst, t_isInB_dK, t_isInB_dT, t_isInB_obj, t_isInB_scr, t_isBo_non, t_isBo_bl, t_isBo_int, t_isBo_str, t_isBo_tup, t_isBo_lst, t_isBo_dK, t_isBo_dT, t_isBo_obj, t_isBo_scr, t_isSt_non, t_isSt_bl, t_isSt_int, t_isSt_str, t_isSt_tup, t_isSt_lst, t_isSt_dK, t_isSt_dT, t_isSt_obj, t_isSt_scr, t_isLi_non, t_isLi_bl, t_isLi_int, t_isLi_str, t_isLi_tup, t_isLi_lst, t_isLi_dK, t_isLi_dT, t_isLi_obj, t_isLi_scr, t_isDi_non, t_isDi_bl, t_isDi_int, t_isDi_str, t_isDi_tup, t_isDi_lst, t_isDi_dK, t_isDi_dT, t_isDi_obj, t_isDi_scr, t_isNon_non, t_isNon_bl, t_isNon_int, t_isNon_str, t_isNon_tup, t_isNon_lst, t_isNon_dK, t_isNon_dT, t_isNon_obj, t_isNon_scr, t_plainD_non, t_plainD_bl, t_plainD_int, t_plainD_str, t_plainD_tup, t_plainD_lst, t_plainD_dK, t_plainD_dT, t_plainD_obj, t_plainD_scr, seti_0, seti_1, seti_2, seti_3, apnd_l, atI_0, atI_1, atI_2, atI_3, atI_4, sizeL, *])
theorem c_kneaded (L : PotL P) {s l : Int} (h1 : 0 ≤ s) (h2 : s < 2 ^ 60) (h3 : 0 ≤ l) (h4 : l < 2 ^ 60) : CW ((tbl P gl isx kw ct (n + 1)).sem "_law_kneaded" [.int s, .int l]) (fun v os => os = [] ∧ ∃ z, v = .fz (.int z)) noX := by
  refine cw_def [] [.fz (.int s), .fz (.int l), .un, .un, .un] L.kneaded ⟨rfl, by decide⟩ rfl rfl ?_
  unfold b_kneaded
  walk_at "mp"
  refine lp_rng (fun _ r => ∃ v x, r = [.fz (.int s), .fz (.int l), .fz (.int 2305843009213693907), .fz (.int v), x] ∧ 0 ≤ v ∧ v < 2305843009213693907) ?_ ?_ ?_
  · exact ⟨_, _, rfl, Int.emod_nonneg _ (by decide), Int.emod_lt_of_pos _ (by decide)⟩
  · rintro i r hi ⟨v, x, rfl, v1, v2⟩
    walk_at "mp"
    exact ⟨_, _, rfl, Int.emod_nonneg _ (by decide), Int.emod_lt_of_pos _ (by decide)⟩
  · rintro r ⟨v, x, rfl, v1, v2⟩
    walk_at "mp"
    exact ⟨_, rfl⟩
theorem at_mod {cs : List Int} {p : Int} (h : cs.isEmpty = false) : ∃ z, L2.atI (cs.map D.int) (p % (cs.length : Int)) = some (.int z) := by
  have h0 : 0 < cs.length := by
    cases cs with
    | nil => cases h
    | cons => simp
  have a1 := Int.emod_nonneg p (b := cs.length) (by omega)
  have a2 := Int.emod_lt_of_pos p (b := cs.length) (by omega)
  obtain ⟨i, hi⟩ := Int.eq_ofNat_of_zero_le a1
  have lt : i < cs.length := by omega
  refine ⟨cs[i], ?_⟩
  rw [hi]
  exact L2.atI_nat (by rw [List.getElem?_map, List.getElem?_eq_getElem lt]; rfl)
theorem c_below (L : PotL P) {m : Nat} {d : D} {b : Int} (h : PotOk m d) (hm : m < 2 ^ 58) (h1 : 0 < b) (h2 : b < 2 ^ 90) : CW ((tbl P gl isx kw ct (n + 2)).sem "_law_below" [d, .int b]) (fun v os => ∃ z d', os = [d'] ∧ v = .fz (.int z) ∧ 0 ≤ z ∧ z < b ∧ PotOk (m + 1) d') noX := by
  obtain ⟨cs, p, a, c, rfl, p1, p2, p3⟩ := h
  refine cw_def [0] [.ow (.lst [.lst (cs.map .int), .int p, .int a, .int c]), .fz (.int b), .un, .un, .un, .un] L.below ⟨rfl, by decide⟩ rfl rfl ?_
  unfold b_below
  walk_at "mp"
  refine if_cut (fun r => ∃ p a c x y z w, r = [.ow (.lst [.lst (cs.map .int), .int p, .int a, .int c]), .fz (.int b), x, y, z, w] ∧ 0 ≤ p ∧ p ≤ (m + 1 : Nat)) ?_ ?_ ?_
  · intro q
    walk_at "mp"
    refine ife_cut (fun v r => (∃ z, v = .fz (.int z)) ∧ r = [.ow (.lst [.lst (cs.map .int), .int p, .int a, .int c]), .fz (.int b), .fz (.lst (cs.map .int)), .fz (.int p), .un, .un]) ?_ ?_ ?_
    · intro q
      have h0 : 0 < cs.length := by
        cases cs with
        | nil => cases q
        | cons => simp
      obtain ⟨z, hz⟩ := at_mod (cs := cs) (p := p) (by simpa using q)
      walk_at "mp"
      simp only [List.length_map]
      rw [hz]
      walk_at "mp"
      exact ⟨_, rfl⟩
    · intro q
      walk_at "mp"
      exact ⟨_, rfl⟩
    · rintro v r ⟨⟨z, rfl⟩, rfl⟩
      walk_at "mps"
      refine s1_cut (fun r => ∃ z, r = [.ow (.lst [.lst (cs.map .int), .int p, .int a, .int c]), .fz (.int b), .fz (.lst (cs.map .int)), .fz (.int p), .fz (.int z), .un]) ?_ ?_
      · have c1 := Int.emod_nonneg z (b := 982451629) (by decide)
        have c2 := Int.emod_lt_of_pos z (b := 982451629) (by decide)
        walk_at "mp"
        refine ifW_dec (fun q => ?_) fun q => ?_
        · walk_at "mp"
          simp only [L.kneaded]
          walk_at "mp"
          refine cq_ok (c_kneaded L c1 (by omega) p1 (by omega)) ?_
          rintro v os ⟨rfl, z, rfl⟩
          refine ⟨rfl, ?_⟩
          walk_at "mp"
          exact ⟨_, rfl⟩
        · walk_at "mp"
          refine ifW_dec (fun q => ?_) fun q => ?_
          · walk_at "mp"
            simp only [L.kneaded]
            walk_at "mp"
            refine cq_ok (c_kneaded L c1 (by omega) p1 (by omega)) ?_
            rintro v os ⟨rfl, z, rfl⟩
            refine ⟨rfl, ?_⟩
            walk_at "mp"
            exact ⟨_, rfl⟩
          · walk_at "mp"
            exact ⟨_, rfl⟩
      · rintro r ⟨z, rfl⟩
        walk_at "mp"
        exact ⟨_, _, _, _, _, _, _, rfl, by omega, by omega⟩
  · intro q
    walk_at "mp"
    exact ⟨_, _, _, _, _, _, _, rfl, p1, by omega⟩
  · rintro r ⟨p, a, c, x, y, z, w, rfl, h3, h4⟩
    walk_at "mp"
    exact ⟨_, _, rfl, rfl, Int.emod_nonneg _ (by omega), Int.emod_lt_of_pos _ h1, cs, _, _, _, rfl, h3, h4, p3⟩
theorem c_pick (L : PotL P) {m : Nat} {d : D} {xs : List D} (h : PotOk m d) (hm : m < 2 ^ 58) (h1 : 0 < xs.length) (h2 : xs.length < 2 ^ 60) : CW ((tbl P gl isx kw ct (n + 3)).sem "_law_pick" [d, .lst xs]) (fun v os => ∃ x d', os = [d'] ∧ v = .fz x ∧ x ∈ xs ∧ PotOk (m + 1) d') noX := by
  refine cw_def [0] [.ow d, .fz (.lst xs)] L.pick ⟨rfl, by decide⟩ rfl rfl ?_
  unfold b_pick
  walk_at "mp"
  simp only [L.below]
  walk_at "mp"
  refine cq_ok (c_below L h hm (by omega) (by omega)) ?_
  rintro v os ⟨z, d', rfl, rfl, z1, z2, hd⟩
  refine ⟨rfl, ?_⟩
  walk_at "mp"
  obtain ⟨i, rfl⟩ := Int.eq_ofNat_of_zero_le z1
  have hi : i < xs.length := by omega
  rw [L2.atI_nat (v := xs[i]) (List.getElem?_eq_getElem hi)]
  walk_at "mp"
  exact ⟨_, _, rfl, rfl, List.getElem_mem hi, hd⟩
theorem c_potof (L : PotL P) {ns : List Int} (hn : ns.length ≤ 63) : CW ((tbl P gl isx kw ct (n + 1)).sem "_law_pot_of" [.scr ns]) (fun v os => os = [] ∧ ∃ d, v = .ow d ∧ PotOk 0 d) noX := by
  refine cw_def [] [.fz (.scr ns), .un, .un, .un] L.potof ⟨rfl, by decide⟩ rfl rfl ?_
  unfold b_potof
  walk_at "mp"
  refine cp_map (fun _ => true) (fun x => match x with | .int z => .int (if z < 0 then -z else z) | _ => .non) ?_ ?_
  · intro x hx
    obtain ⟨z, hz, rfl⟩ := List.mem_map.mp hx
    walk_at "mp"
  · walk_at "mp"
    refine lp_all (fun _ r => ∃ (cs : List Int) (x y : Mp.Slot), r = [.fz (.scr ns), .ow (.lst (cs.map .int)), x, y] ∧ cs.length ≤ 17 ∧ (17 < ns.length → cs.length = 17)) ?_ ?_ ?_
    · refine ⟨(ns.take 17).map fun z => if z < 0 then -z else z, .un, .un, ?_, ?_, ?_⟩
      · rw [List.filter_eq_self.mpr (fun _ _ => rfl), List.map_map, List.map_map]
        rfl
      · simp only [List.length_map, List.length_take]
        omega
      · simp only [List.length_map, List.length_take]
        omega
    · rintro i x r hx ⟨cs, y, z, rfl, h1, h2⟩
      rw [List.getElem?_map] at hx
      cases e : (((ns.drop 17).take 43).map D.int).zipIdx[i]? with
      | none => rw [show (60 - 17) = 43 from rfl, e] at hx; cases hx
      | some u =>
        rw [show (60 - 17) = 43 from rfl, e] at hx
        cases hx
        have e1 := List.getElem?_zipIdx (l := ((ns.drop 17).take 43).map D.int) (i := 0) (j := i)
        rw [e, List.getElem?_map] at e1
        cases e2 : ((ns.drop 17).take 43)[i]? with
        | none => rw [e2] at e1; cases e1
        | some q =>
          rw [e2] at e1
          cases e1
          have lt : 17 < ns.length := by
            have := (List.getElem?_eq_some_iff.mp e2).1
            simp only [List.length_take, List.length_drop] at this
            omega
          have h3 := h2 lt
          have a1 := Int.emod_nonneg ((0 + i : Nat) : Int) (b := 17) (by decide)
          have a2 := Int.emod_lt_of_pos ((0 + i : Nat) : Int) (b := 17) (by decide)
          obtain ⟨j, hj⟩ := Int.eq_ofNat_of_zero_le a1
          have lj : j < cs.length := by omega
          have a3 : L2.atI (cs.map D.int) (j : Nat) = some (.int cs[j]) := L2.atI_nat (by rw [List.getElem?_map, List.getElem?_eq_getElem lj]; rfl)
          have a4 : ∀ x, setAt (.int (j : Nat)) x (.lst (cs.map .int)) = some (.lst ((cs.map .int).set j x)) := fun x => seti_l (ixN_nat (by rw [List.length_map]; exact lj))
          walk_at "mp"
          simp only [Nat.zero_add] at hj
          trace_state
          simp only [hj, a3]
          walk_at "mp"
          simp only [hj, a4]
          walk_at "mp"
          exact ⟨cs.set j _, _, _, by rw [List.map_set], by rw [List.length_set]; exact h1, fun h => by rw [List.length_set]; exact h2 h⟩
    · rintro r ⟨cs, y, z, rfl, h1, h2⟩
      walk_at "mp"
      exact ⟨_, rfl, cs, 0, 0, 0, rfl, by omega, by omega, h1⟩
end
end Pot

set_option Elab.async false
set_option linter.all false
set_option maxRecDepth 100000
set_option maxHeartbeats 4000000
/-! programs, watchers and moves, without any text: the plain side of sources.py. -/
namespace Sr
open PySem Mp Mw Nm
/-! ### names -/
def letters : Str := "abcdefghijklmnopqrstuvwxyz"
def figures : Str := "0123456789"
def isL (c : Nat) : Bool := !(Builtin.Str.occurrences letters ⟨#[c]⟩ 0 letters.length 1).isEmpty
def isF (c : Nat) : Bool := !(Builtin.Str.occurrences figures ⟨#[c]⟩ 0 figures.length 1).isEmpty
def nam : D → Bool
  | .str z => decide (1 ≤ (z.length : Int)) && decide ((z.length : Int) ≤ 8) && (match z.cps.toList[0]? with | some c => isL c | none => false) && z.cps.toList.all fun c => isL c || isF c
  | _ => false
theorem nam_len {z : Str} (h : nam (.str z) = true) : 1 ≤ z.length ∧ z.length ≤ 8 := by
  simp only [nam, Bool.and_eq_true, decide_eq_true_eq] at h
  omega
/-! ### programs -/
abbrev Prog := List (Str × List Int)
def pl (P : Prog) : List D := P.map fun q => .tup [.str q.1, .tup (q.2.map .int)]
abbrev pd (P : Prog) : D := .tup (pl P)
theorem pl_len {P : Prog} : (pl P).length = P.length := List.length_map ..
def nxt (P : Prog) (i : Int) : List Int := match P[i.toNat]? with | some q => q.2 | none => []
structure Wf (P : Prog) : Prop where
  lo : 1 ≤ P.length
  hi : P.length ≤ 8
  nm : ∀ q ∈ P, nam (.str q.1) = true
  up : ∀ q ∈ P, q.2.Pairwise (fun a b => a < b)
  bd : ∀ q ∈ P, ∀ m ∈ q.2, 0 ≤ m ∧ m < P.length
def In (P : Prog) (xs : List Int) : Prop := ∀ x ∈ xs, 0 ≤ x ∧ x < P.length
theorem Wf.ln {P : Prog} (w : Wf P) {q : Str × List Int} (h : q ∈ P) : q.2.length ≤ 8 := by
  have := lt_length 0 P.length (w.up q h) fun x hx => w.bd q h x hx
  have := w.hi
  omega
theorem at_pd {P : Prog} {x : Int} (h : 0 ≤ x ∧ x < P.length) : ∃ q ∈ P, L2.atI (pl P) x = some (.tup [.str q.1, .tup (q.2.map .int)]) ∧ nxt P x = q.2 := by
  obtain ⟨i, rfl⟩ := Int.eq_ofNat_of_zero_le h.1
  have hi : i < P.length := by omega
  refine ⟨P[i], List.getElem_mem hi, ?_, ?_⟩
  · refine L2.atI_nat ?_
    rw [pl, List.getElem?_map, List.getElem?_eq_getElem hi]
    rfl
  · unfold nxt
    rw [show ((i : Nat) : Int).toNat = i from rfl, List.getElem?_eq_getElem hi]
theorem nxt_in {P : Prog} (w : Wf P) (x : Int) : In P (nxt P x) := by
  unfold nxt
  cases e : P[x.toNat]? with
  | none => intro y hy; cases hy
  | some q => exact w.bd q (List.mem_of_getElem? e)
theorem nxt_len {P : Prog} (w : Wf P) (x : Int) : (nxt P x).length ≤ 8 := by
  unfold nxt
  cases e : P[x.toNat]? with
  | none => exact Nat.zero_le _
  | some q => exact w.ln (List.mem_of_getElem? e)
theorem in_sdist {P : Prog} {xs : List Int} (h : In P xs) : In P (sdist xs) := fun x hx => h x (mem_sdist.mp hx)
theorem in_app {P : Prog} {xs ys : List Int} (h : In P xs) (h2 : In P ys) : In P (xs ++ ys) := fun x hx => (List.mem_append.mp hx).elim (h x) (h2 x)
theorem in_filter {P : Prog} {xs : List Int} {f : Int → Bool} (h : In P xs) : In P (xs.filter f) := fun x hx => h x (List.mem_filter.mp hx).1
theorem sdist_len8 {P : Prog} (w : Wf P) {xs : List Int} (h : In P xs) : (sdist xs).length ≤ 8 := by
  have := sdist_len (k := P.length) h
  have := w.hi
  omega
def aft (P : Prog) (xs : List Int) : List Int := sdist (xs.flatMap (nxt P))
theorem flat_in {P : Prog} (w : Wf P) {xs : List Int} : In P (xs.flatMap (nxt P)) := fun x hx => by
  obtain ⟨y, _, hy⟩ := List.mem_flatMap.mp hx
  exact nxt_in w y x hy
theorem flat_len {P : Prog} (w : Wf P) : ∀ {xs : List Int}, (xs.flatMap (nxt P)).length ≤ 8 * xs.length
  | [] => Nat.le_refl _
  | x :: xs => by
    have := flat_len w (xs := xs)
    have := nxt_len w x
    rw [List.flatMap_cons, List.length_append, List.length_cons]
    omega
theorem aft_in {P : Prog} (w : Wf P) {xs : List Int} : In P (aft P xs) := in_sdist (flat_in w)
theorem aft_len {P : Prog} (w : Wf P) {xs : List Int} : (aft P xs).length ≤ 8 := sdist_len8 w (flat_in w)
def itr (P : Prog) : Nat → List Int → List Int
  | 0, xs => xs
  | k + 1, xs => aft P (itr P k xs)
theorem itr_in {P : Prog} (w : Wf P) {xs : List Int} (h : In P xs) : ∀ {k : Nat}, In P (itr P k xs)
  | 0 => h
  | k + 1 => aft_in w
theorem itr_len {P : Prog} (w : Wf P) {xs : List Int} (h : xs.length ≤ 8) : ∀ {k : Nat}, (itr P k xs).length ≤ 8
  | 0 => h
  | k + 1 => aft_len w
def fnd (P : Prog) (xs : List Int) : Nat → List Int
  | 0 => xs
  | k + 1 => fnd P xs k ++ itr P (k + 1) xs
theorem fnd_in {P : Prog} (w : Wf P) {xs : List Int} (h : In P xs) : ∀ {k : Nat}, In P (fnd P xs k)
  | 0 => h
  | k + 1 => in_app (fnd_in w h) (itr_in w h)
theorem fnd_len {P : Prog} (w : Wf P) {xs : List Int} (h : xs.length ≤ 8) : ∀ {k : Nat}, (fnd P xs k).length ≤ 8 * (k + 1)
  | 0 => by show xs.length ≤ _; omega
  | k + 1 => by
    have := fnd_len w h (k := k)
    have := itr_len w h (k := k + 1)
    show (fnd P xs k ++ itr P (k + 1) xs).length ≤ _
    rw [List.length_append]
    omega
def mny (P : Prog) (xs : List Int) (s m : Nat) : List Int := sdist (fnd P (itr P s xs) m)
theorem mny_in {P : Prog} (w : Wf P) {xs : List Int} (h : In P xs) {s m : Nat} : In P (mny P xs s m) := in_sdist (fnd_in w (itr_in w h))
theorem mny_len {P : Prog} (w : Wf P) {xs : List Int} (h : In P xs) {s m : Nat} : (mny P xs s m).length ≤ 8 := sdist_len8 w (fnd_in w (itr_in w h))
/-- the marks and places where a skid is -/
def hr (P : Prog) (ms : List Int) (p : Int) : Nat → List Int
  | 0 => [p]
  | k + 1 => aft P ((hr P ms p k).filter fun x => !hasI ms x)
theorem hr_in {P : Prog} (w : Wf P) {ms : List Int} {p : Int} (h : 0 ≤ p ∧ p < P.length) : ∀ {k : Nat}, In P (hr P ms p k)
  | 0 => fun x hx => by rcases List.mem_singleton.mp hx with rfl; exact h
  | k + 1 => aft_in w
theorem hr_len {P : Prog} (w : Wf P) {ms : List Int} {p : Int} : ∀ {k : Nat}, (hr P ms p k).length ≤ 8
  | 0 => by show 1 ≤ 8; decide
  | k + 1 => aft_len w
def stops (P : Prog) (ms : List Int) (l : Int) (k : Nat) (here : List Int) : List Int := if decide (l ≤ (k : Int)) = true then here else here.filter fun x => hasI ms x || (nxt P x).isEmpty
theorem stops_in {P : Prog} {ms : List Int} {l : Int} {k : Nat} {here : List Int} (h : In P here) : In P (stops P ms l k here) := by
  unfold stops
  split
  · exact h
  · exact in_filter h
theorem stops_len {P : Prog} {ms : List Int} {l : Int} {k : Nat} {here : List Int} (h : here.length ≤ 8) : (stops P ms l k here).length ≤ 8 := by
  unfold stops
  split
  · exact h
  · exact Nat.le_trans (List.length_filter_le _ _) h
def fdd (P : Prog) (ms : List Int) (l p : Int) : Nat → List Int
  | 0 => []
  | k + 1 => fdd P ms l p k ++ stops P ms l k (hr P ms p k)
theorem fdd_in {P : Prog} (w : Wf P) {ms : List Int} {l p : Int} (h : 0 ≤ p ∧ p < P.length) : ∀ {k : Nat}, In P (fdd P ms l p k)
  | 0 => fun x hx => by cases hx
  | k + 1 => in_app (fdd_in w h) (stops_in (hr_in w h))
theorem fdd_len {P : Prog} (w : Wf P) {ms : List Int} {l p : Int} : ∀ {k : Nat}, (fdd P ms l p k).length ≤ 8 * k
  | 0 => Nat.le_refl _
  | k + 1 => by
    have := fdd_len w (ms := ms) (l := l) (p := p) (k := k)
    have := stops_len (P := P) (ms := ms) (l := l) (k := k) (hr_len w (ms := ms) (p := p) (k := k))
    show (fdd P ms l p k ++ stops P ms l k (hr P ms p k)).length ≤ _
    rw [List.length_append]
    omega
def tld (P : Prog) (ms : List Int) (l h : Int) (p : Int) : List Int := sdist (fdd P ms l p (h + 1).toNat)
theorem tld_in {P : Prog} (w : Wf P) {ms : List Int} {l h p : Int} (hp : 0 ≤ p ∧ p < P.length) : In P (tld P ms l h p) := in_sdist (fdd_in w hp)
theorem tld_len {P : Prog} (w : Wf P) {ms : List Int} {l h p : Int} (hp : 0 ≤ p ∧ p < P.length) : (tld P ms l h p).length ≤ 8 := sdist_len8 w (fdd_in w hp)
/-! ### watchers -/
structure Wt where
  g : Int
  b : Option Int
  l : Int
  h : Int
  ms : List Int
def ob : Option Int → D | none => .non | some b => .int b
abbrev wl (W : Wt) : List D := [.int W.g, ob W.b, .int W.l, .int W.h, .tup (W.ms.map .int)]
abbrev wd (W : Wt) : D := .tup (wl W)
structure Wtf (W : Wt) : Prop where
  g0 : 1 ≤ W.g
  g1 : W.g ≤ 30
  b0 : ∀ b, W.b = some b → W.g ≤ b ∧ b ≤ 30
  l0 : 0 ≤ W.l
  lh : W.l ≤ W.h
  h1 : W.h ≤ 30
  up : W.ms.Pairwise (fun a b => a < b)
  bd : ∀ m ∈ W.ms, 0 ≤ m ∧ m < 8
def mor (P : Prog) (W : Wt) : Nat := match W.b with | none => P.length | some b => (b - W.g).toNat
def tkn (P : Prog) (W : Wt) (p : Int) : List Int := if p = -1 then mny P [0] 0 P.length else mny P [p] W.g.toNat (mor P W)
theorem in_one {P : Prog} {p : Int} (h : 0 ≤ p ∧ p < P.length) : In P [p] := fun x hx => by rcases List.mem_singleton.mp hx with rfl; exact h
theorem tkn_in {P : Prog} (w : Wf P) {W : Wt} {p : Int} (h : -1 ≤ p ∧ p < P.length) : In P (tkn P W p) := by
  unfold tkn
  split
  · exact mny_in w (in_one ⟨Int.le_refl _, by have := w.lo; omega⟩)
  · exact mny_in w (in_one (by omega))
theorem tkn_len {P : Prog} (w : Wf P) {W : Wt} {p : Int} (h : -1 ≤ p ∧ p < P.length) : (tkn P W p).length ≤ 8 := by
  unfold tkn
  split
  · exact mny_len w (in_one ⟨Int.le_refl _, by have := w.lo; omega⟩)
  · exact mny_len w (in_one (by omega))
def mv (p a b : Int) : D := .tup [.int p, .int a, .int b]
def mvI (P : Prog) (W : Wt) (p a : Int) : List D := (tld P W.ms W.l W.h a).map (mv p a)
def mvP (P : Prog) (W : Wt) (p : Int) : List D := (tkn P W p).flatMap (mvI P W p)
def mvs (P : Prog) (W : Wt) : List D := (List.range (P.length + 1)).flatMap fun k => mvP P W (-1 + (k : Nat))
theorem flatMap_len {α β : Type} {f : α → List β} {k : Nat} : ∀ {xs : List α}, (∀ x ∈ xs, (f x).length ≤ k) → (xs.flatMap f).length ≤ k * xs.length
  | [], _ => Nat.le_refl _
  | x :: xs, h => by
    have h1 := h x List.mem_cons_self
    have h2 := flatMap_len (f := f) (xs := xs) fun y hy => h y (List.mem_cons_of_mem _ hy)
    rw [List.flatMap_cons, List.length_append, List.length_cons, Nat.mul_succ]
    omega
theorem mvI_len {P : Prog} (w : Wf P) {W : Wt} {p a : Int} (ha : 0 ≤ a ∧ a < P.length) : (mvI P W p a).length ≤ 8 := by
  unfold mvI
  rw [List.length_map]
  exact tld_len w ha
theorem mvP_len {P : Prog} (w : Wf P) {W : Wt} {p : Int} (h : -1 ≤ p ∧ p < P.length) : (mvP P W p).length ≤ 64 := by
  have := flatMap_len (f := mvI P W p) (k := 8) (xs := tkn P W p) fun a ha => mvI_len w (tkn_in w h a ha)
  have := tkn_len w (W := W) h
  unfold mvP
  omega
theorem mvs_len {P : Prog} (w : Wf P) {W : Wt} : (mvs P W).length ≤ 576 := by
  have := flatMap_len (f := fun (k : Nat) => mvP P W (-1 + (k : Nat))) (k := 64) (xs := List.range (P.length + 1)) fun k hk => mvP_len w (by have := List.mem_range.mp hk; omega)
  rw [List.length_range] at this
  have := w.hi
  unfold mvs
  omega
/-! ### what is a program, by the parts -/
def ltI (m : Int) : D → Bool | .int i => decide (i < m) | _ => false
def ltT (m : Int) : D → Bool | .tup ds => ds.all (ltI m) | _ => false
def plc (m : Int) : D → Bool | .tup [a, b] => nam a && rise b && ltT m b | _ => false
def prg : D → Bool | .tup ds => decide (1 ≤ (ds.length : Int)) && decide ((ds.length : Int) ≤ 8) && ds.all (plc ds.length) | _ => false
end Sr

set_option Elab.async false
set_option linter.all false
set_option maxRecDepth 100000
set_option maxHeartbeats 4000000
/-! names.py, programs.py and sources.py: what they compute. -/
namespace Sr
open PySem Mp Mw Nm
def b_is_name : List MS := [.iff (.or_ (.not_ (.bi (.isi "str") [.var 0])) (.or_ (.not_ (.chain .le .le (.cst (.int 1)) (.bi .len [.var 0]) (.glo "MAX_NAME"))) (.bi .notin [.bi .item [.var 0, .cst (.int 0)], .glo "LETTERS"]))) [.ret (.cst (.bl false))] [],
  .ret (.bi .all [.comp (.nm 1) (.or_ (.bi .in_ [.var 1, .glo "LETTERS"]) (.bi .in_ [.var 1, .glo "FIGURES"])) 0 [.var 0] []])]
def b_is_place : List MS := [.iff (.or_ (.not_ (.bi (.isi "tuple") [.var 0])) (.or_ (.bi .ne [.bi .len [.var 0], .cst (.int 2)]) (.or_ (.not_ (.call "is_name" [.bi .item [.var 0, .cst (.int 0)]])) (.not_ (.call "is_rising" [.bi .item [.var 0, .cst (.int 1)]]))))) [.ret (.cst (.bl false))] [],
  .ret (.bi .all [.comp (.nm 2) (.bi .lt [.var 2, .var 1]) 0 [.bi .item [.var 0, .cst (.int 1)]] []])]
def b_is_program : List MS := [.iff (.or_ (.not_ (.bi (.isi "tuple") [.var 0])) (.not_ (.chain .le .le (.cst (.int 1)) (.bi .len [.var 0]) (.glo "MAX_PLACES")))) [.ret (.cst (.bl false))] [],
  .ret (.bi .all [.comp (.nm 1) (.call "is_place" [.var 1, .bi .len [.var 0]]) 0 [.var 0] []])]
def b_is_end : List MS := [.ret (.bi .eq [.bi .item [.bi .item [.var 0, .var 1], .cst (.int 1)], .tup []])]
def b_after_one : List MS := [.ret (.bi .tuple [.bi (.cmp 0) [.compn [((.nm 2), 0, [.var 1], []), ((.nm 3), 0, [.bi .item [.bi .item [.var 0, .var 2], .cst (.int 1)]], [])] (.var 3)]])]
def b_after_many : List MS := [.forr (.nm 4) 1 [.var 2] [.set 1 (.call "after_one" [.var 0, .var 1])],
  .set 5 (.var 1),
  .forr (.nm 4) 1 [.var 3] [.set 1 (.call "after_one" [.var 0, .var 1]),
  .set 5 (.bi .add [.var 5, .var 1])],
  .ret (.bi .tuple [.bi (.cmp 0) [.var 5]])]
def b_told_from : List MS := [.sett [3, 4, 5, 6, 7] (.var 1),
  .set 8 (.tup []),
  .set 9 (.tup [.var 2]),
  .forr (.nm 10) 1 [.bi .add [.var 6, .cst (.int 1)]] [.set 11 (.comp (.nm 12) (.var 12) 0 [.var 9] [.or_ (.bi .in_ [.var 12, .var 7]) (.call "is_end" [.var 0, .var 12])]),
  .set 8 (.bi .add [.var 8, .ife (.bi .ge [.var 10, .var 5]) (.var 9) (.bi .tuple [.var 11])]),
  .set 9 (.call "after_one" [.var 0, .comp (.nm 12) (.var 12) 0 [.var 9] [.bi .notin [.var 12, .var 7]]])],
  .ret (.bi .tuple [.bi (.cmp 0) [.var 8]])]
def b_taken_from : List MS := [.sett [3, 4] (.slc (.var 1) none (some (.cst (.int 2)))),
  .iff (.bi .eq [.var 2, .glo "BEGIN"]) [.ret (.call "after_many" [.var 0, .tup [.cst (.int 0)], .cst (.int 0), .bi .len [.var 0]])] [],
  .ret (.call "after_many" [.var 0, .tup [.var 2], .var 3, .ife (.bi .isN [.var 4]) (.bi .len [.var 0]) (.bi .sub [.var 4, .var 3])])]
def b_all_moves : List MS := [.set 2 (.comp (.nm 3) (.call "told_from" [.var 0, .var 1, .var 3]) 1 [.bi .len [.var 0]] []),
  .ret (.compn [((.nm 3), 2, [.glo "BEGIN", .bi .len [.var 0]], []), ((.nm 4), 0, [.call "taken_from" [.var 0, .var 1, .var 3]], []), ((.nm 5), 0, [.bi .item [.var 2, .var 4]], [])] (.tup [.var 3, .var 4, .var 5]))]
def b_Source___init__ : List MS := [.iff (.not_ (.call "is_program" [.var 1])) [.raise "NoProgram"] [],
  .iff (.or_ (.not_ (.call "is_watcher" [.var 2])) (.not_ (.bi .all [.comp (.nm 3) (.bi .lt [.var 3, .bi .len [.var 1]]) 0 [.bi .item [.var 2, .cst (.int 4)]] []]))) [.raise "NoWatcher"] [],
  .setf 0 "program" (.var 1),
  .setf 0 "watcher" (.var 2),
  .setf 0 "all" (.call "all_moves" [.var 1, .var 2])]
structure PrgL (P : Str → Option Fn) (gl : Str → Option D) : Prop extends LW P gl where
  is_name : P "is_name" = some ⟨[false], 2, b_is_name⟩
  is_place : P "is_place" = some ⟨[false, false], 3, b_is_place⟩
  is_program : P "is_program" = some ⟨[false], 2, b_is_program⟩
  max_name : gl "MAX_NAME" = some (.int 8)
  letters : gl "LETTERS" = some (.str letters)
  figures : gl "FIGURES" = some (.str figures)
structure SrcL (P : Str → Option Fn) (gl : Str → Option D) : Prop extends PrgL P gl where
  is_end : P "is_end" = some ⟨[false, false], 2, b_is_end⟩
  after_one : P "after_one" = some ⟨[false, false], 4, b_after_one⟩
  after_many : P "after_many" = some ⟨[false, false, false, false], 6, b_after_many⟩
  told_from : P "told_from" = some ⟨[false, false, false], 13, b_told_from⟩
  taken_from : P "taken_from" = some ⟨[false, false, false], 5, b_taken_from⟩
  all_moves : P "all_moves" = some ⟨[false, false], 6, b_all_moves⟩
  init : P "Source.__init__" = some ⟨[true, false, false], 4, b_Source___init__⟩
  begin : gl "BEGIN" = some (.int (-1))
theorem str_len {w k : Nat} {z : Str} (h : Sm w k (.str z)) : z.length ≤ w := h.wt
theorem y_lenS {z : Str} (h : z.length ≤ 16777216) : bsem .len [.str z] = some (.fz (.int z.length)) := if_pos (by rw [sizeL]; exact h)
theorem y_itemS {z : Str} {i : Int} (h : z.length ≤ 16777216) : bsem .item [.str z, .int i] = (L2.atI z.cps.toList i).map fun c => .fz (.str ⟨#[c]⟩) := if_pos (by rw [sizeL]; exact h)
theorem y_wS {z : Str} (h : z.length ≤ 16777216) : walkD 0 [.str z] = some (z.cps.toList.map fun c => .str ⟨#[c]⟩) := if_pos (by rw [sizeL]; exact h)
theorem inL {c : Nat} : inS (.str ⟨#[c]⟩) (.str letters) = some (isL c) := rfl
theorem inF {c : Nat} : inS (.str ⟨#[c]⟩) (.str figures) = some (isF c) := rfl
theorem y_eqNilT {ns : List Int} : bsem .eq [.tup (ns.map .int), .tup []] = some (.fz (.bl ns.isEmpty)) := by
  have e : (D.tup (ns.map .int)).eok = true := (eo_tup (k := 0) fun d hd => by obtain ⟨i, _, rfl⟩ := List.mem_map.mp hd; exact eo_int).eok (by decide)
  show ((if (D.tup (ns.map .int)).eok && (D.tup []).eok then some (PyData.eqv (D.tup (ns.map .int)).py (D.tup []).py) else none).map fun b => Val.fz (.bl b)) = _
  rw [e]
  cases ns <;> rfl
def ck1 : D → Bool | .str s => (match s.cps.toList[0]? with | some c => isL c || isF c | none => false) | _ => false
section
variable {P : Str → Option Fn} {gl : Str → Option D} {isx : Str → Str → Option Bool} {kw : Str → List Str → Option (List D → List D)} {ct : CT} {n : Nat}
local macro_rules
  | `(tactic| walk_at "mp") => `(tactic| simp (implicitDefEqProofs := false) (disch := first | assumption | omega | (simp only [List.length_map, List.length_take, List.length_drop, List.length_append, List.length_reverse, List.length_cons, List.length_nil, List.length_replicate, rng_len, List.length_set, List.length_zipWith, List.length_zipIdx, List.length_dropLast]; omega)) only [↓sx_cons, ↓sx_nil, ↓s1_set, ↓s1_sett, ↓s1_par, ↓s1_expr, ↓s1_ret, ↓s1_iff, ↓s1_forr, ↓s1_whl, ↓s1_app, ↓s1_seti, ↓s1_setf, ↓s1_pass, ↓s1_brk, ↓s1_cont, ↓s1_raise, ↓s1_try, sutK,
      ↓ew_var, ↓ew_cst, ↓ew_glo, ↓ew_bi, ↓ew_chain, ↓ew_slc, ↓ew_and, ↓ew_or, ↓ew_not, ↓ew_ife, ↓ew_tup, ↓ew_lst, ↓ew_dct0, ↓ew_call, ↓ew_callk, ↓ew_comp, ↓ew_compn, ↓enN_nil, ↓enN_cons, ↓ew_mth, ↓ew_tapp, ↓ew_prp, ↓ew_leno, ↓ew_inn, ↓ew_eqo, ↓ew_new, ↓bw_, ↓pw_n, ↓pw_s, ↓fsW_nil, ↓fsW_cons, ↓osW_nil, ↓osW_cons, ↓asW_nil, ↓asW_cons, ↓a1W_t, ↓a1W_f, ↓csW_nil, ↓csW_one,
      ↓ow_var, ↓ow_cst, ↓ow_glo, ↓ow_bi, ↓ow_chain, ↓ow_slc, ↓ow_and, ↓ow_or, ↓ow_not, ↓ow_ife, ↓ow_call, ↓ow_callk, ↓ow_tup, ↓ow_lst, ↓ow_dct0, ↓ow_comp, ↓ow_compn, ↓ow_mth, ↓ow_tapp, ↓ow_prp, ↓ow_new, ↓ow_inn, ↓ow_leno, ↓ow_eqo,
      ↓kCq_, ↓kTd_, ↓kTc_, ↓kTb_, ↓kTa_, ↓kMc_, ↓kMb_, ↓kMa_, ↓kMd_, ↓kMe_, ↓kPb_, ↓kPa_, ↓kPo_, ↓kLn3_, ↓kLn2_, ↓kLn_, ↓kIn2_t, ↓kIn2_f, ↓kIn_, ↓kIc_, ↓kIb_, ↓kIa_, ↓kIo_, ↓kQc_, ↓kQb_, ↓kQa_, ↓kQo_, ↓kNq_, ↓kNw_, ↓kNz_, ↓kNb_, ↓kNa_, ↓kNo_, ↓kSf_, ↓kSg_, ↓kCk_, ↓kNe_, ↓kV_, ↓kE_, ↓kS_, ↓kX_, ↓kFz_, ↓kQv_, ↓kBi_, ↓kBi2_, ↓kOw_, ↓kCh4_, ↓kCh3_, ↓kCh2_, ↓kCh1_, ↓kB_, ↓kBw_, ↓kI_, ↓kPw_, ↓kSl3_, ↓kSl2_, ↓kSl1_, ↓kAn_, ↓kOr_, ↓kNt_, ↓kIe_, ↓kCons_, ↓kFs_, ↓kOs_, ↓kAs_, ↓kD_, ↓kTup_, ↓kLst_, ↓kRc_, ↓kAl_, ↓kCp2_, ↓kCp1_, ↓kCp_, ↓rq_conds, ↓kEl_, ↓rq_elt, ↓fq_body, ↓rq_cond, ↓kSq_, ↓kSt_, ↓kPt_, ↓kSet_, ↓kPr2_, ↓kPr1_, ↓kNx_, ↓kIf_, ↓kFo2_, ↓kFo1_, ↓kFo_, ↓kPut_, ↓kOwn_, ↓kAp_, ↓kSe2_, ↓kSe1_, ↓kCl_, ↓kTr1_, ↓kTr_, ↓kOu_, ↓kEn_, ↓kEv_, ↓kEx_, ↓kC1_, ↓kC0_, ↓kEt_, ↓kN0_, ↓kCi_, ↓kLb_, ↓kCb_, ↓kM1_, ↓kM0_, ↓kMp_, ↓kEnd_, ↓kEn0_, ↓kEn1_, ↓kEn2_, ↓kCo0_, ↓kCo1_, ↓kCo2_, ↓kCo3_, ↓kLc3_, ↓kLc2_, ↓kLcN_, ↓kLc1_, ↓kLc_,
      vaW_fz, vaW_ow, voW_fz, voW_ow, vwW_ow, neW_, opW_some, biW_some, wkW_some, ifW_t, ifW_f, andW_t, asBW_, asIW_, hnW_t, hnW_f, rtW_s, rtW_n, rvW_fz, rvW_ow, isVar, clW_, caW_, ckW_, rcW_, okCall,
      slD_fz, slD_ow, rsv_loc, rsv_d, rsvs_nil, rsvs_cons, shp_nil, shp_t, shp_f, locs_nil, locs_l, locs_d', isOw_, putOuts_l, putOuts_d', putOuts_n, ownD_, lsB_, owB_, enW_nil, enW_cons, ouW_, tbl_md, tbl_gl, tbl_isx, tbl_kw, tbl_ct, nwW_, taW_, isObj_d, xF, List.headD_cons, List.tail_cons, List.tail_nil, List.take_succ_cons, List.take_zero, mdO_,
      slotOf, Val.d, Tg.free, Tg.slots, freeO, clr, put, wipeE, backE, Option.bind_some, Option.map_some, List.getElem?_cons_zero, List.getElem?_cons_succ, List.getElem?_nil, List.set_cons_zero, List.set_cons_succ, List.length_cons, List.length_nil, List.zip_cons_cons, List.zip_nil_left, List.zip_nil_right, List.all_cons, List.all_nil, List.contains_cons, List.contains_nil, List.map_cons, List.map_nil, List.foldl_cons, List.foldl_nil, List.append_nil, List.nil_append, List.cons_append,
      Nat.zero_add, Nat.reduceAdd, Nat.reduceLT, Nat.reduceLeDiff, Nat.reduceEqDiff, Nat.reduceBEq, Bool.and_true, Bool.true_and, Bool.and_false, Bool.false_and, Bool.or_false, Bool.or_true, Bool.false_or, Bool.true_or, Bool.not_true, Bool.not_false, decide_true, decide_false, if_true, if_false, ite_true, ite_false, reduceIte, List.nodup_nil, List.nodup_cons, List.not_mem_nil, List.mem_cons, not_false_eq_true, and_self, and_true, true_and, Nat.lt_add_one, Nat.zero_lt_succ, Nat.lt_succ_self, reduceCtorEq, Nat.succ_ne_zero, ne_eq, not_true, or_self, or_false, false_or, decide_eq_true_eq,
      y_add, y_sub, y_neg, y_mul, y_mod, y_fdiv, y_addT, y_addL, y_lt, y_le, y_gt, y_ge, y_isN, y_notN, y_lenT, y_lenL, y_abs, y_int, y_intB, y_listT, y_listL, y_tupT, y_tupL, y_revT, y_revL, y_isi, y_itemT, y_itemL, y_slcT, y_slcL, y_slcS, cut_to, cut_from, cut_mid, cut_neg1, y_range, Int.toNat_natCast, Int.reduceToNat, y_wL, y_wT, y_wE, y_wZ, y_wZT, y_range2, slN_nil, slN_nm, slN_tp, lenok, lenok2, y_in, y_notin, inS_ints, y_ssetL, y_ssetT, y_neNil, y_pow, p1016, y_mulL1, Int.cast_ofNat_Int, BEq.rfl, Int.reduceBEq, Int.reduceBNe, Int.reduceLT, Int.reduceLE, Int.reduceNeg, Int.reduceAdd, Int.reduceSub, y_eqS, y_neS, y_eqI, y_neI, y_allM, y_anyM, t_isTup_non, t_isTup_bl, t_isTup_int, t_isTup_str, t_isTup_tup, t_isTup_lst, t_isTup_dK, t_isTup_dT, t_isTup_obj, t_isTup_scr, t_isInB_non, t_isInB_bl, t_isInB_int, t_isInB_str, t_isInB_tup, t_isInB_lst, t_isInB_dK, t_isInB_dT, t_isInB_obj, t_isInB_scr, t_isBo_non, t_isBo_bl, t_isBo_int, t_isBo_str, t_isBo_tup, t_isBo_lst, t_isBo_dK, t_isBo_dT, t_isBo_obj, t_isBo_scr, t_isSt_non, t_isSt_bl, t_isSt_int, t_isSt_str, t_isSt_tup, t_isSt_lst, t_isSt_dK, t_isSt_dT, t_isSt_obj, t_isSt_scr, t_isLi_non, t_isLi_bl, t_isLi_int, t_isLi_str, t_isLi_tup, t_isLi_lst, t_isLi_dK, t_isLi_dT, t_isLi_obj, t_isLi_scr, t_isDi_non, t_isDi_bl, t_isDi_int, t_isDi_str, t_isDi_tup, t_isDi_lst, t_isDi_dK, t_isDi_dT, t_isDi_obj, t_isDi_scr, t_isNon_non, t_isNon_bl, t_isNon_int, t_isNon_str, t_isNon_tup, t_isNon_lst, t_isNon_dK, t_isNon_dT, t_isNon_obj, t_isNon_scr, t_plainD_non, t_plainD_bl, t_plainD_int, t_plainD_str, t_plainD_tup, t_plainD_lst, t_plainD_dK, t_plainD_dT, t_plainD_obj, t_plainD_scr, seti_0, seti_1, seti_2, seti_3, apnd_l, atI_0, atI_1, atI_2, atI_3, atI_4, sizeL, y_isTup, y_isInt, y_isBool, y_isStr, y_isList, y_isDict, pl_len, inL, inF, y_lenS, y_itemS, y_wS, y_eqNilT])
local macro_rules
  | `(tactic| walk_at "mps") => `(tactic| simp (implicitDefEqProofs := false) (disch := first | assumption | omega | (simp only [List.length_map, List.length_take, List.length_drop, List.length_append, List.length_reverse, List.length_cons, List.length_nil, List.length_replicate, rng_len, List.length_set, List.length_zipWith, List.length_zipIdx, List.length_dropLast]; omega)) only [↓sx_cons, ↓sx_nil, ↓s1_set, ↓s1_sett, ↓s1_par, ↓s1_expr, ↓s1_ret, ↓s1_forr, ↓s1_whl, ↓s1_app, ↓s1_seti, ↓s1_setf, ↓s1_pass, ↓s1_brk, ↓s1_cont, ↓s1_raise, sutK,
      ↓ew_var, ↓ew_cst, ↓ew_glo, ↓ew_bi, ↓ew_chain, ↓ew_slc, ↓ew_and, ↓ew_or, ↓ew_not, ↓ew_ife, ↓ew_tup, ↓ew_lst, ↓ew_dct0, ↓ew_call, ↓ew_callk, ↓ew_comp, ↓ew_compn, ↓enN_nil, ↓enN_cons, ↓ew_mth, ↓ew_tapp, ↓ew_prp, ↓ew_leno, ↓ew_inn, ↓ew_eqo, ↓ew_new, ↓bw_, ↓pw_n, ↓pw_s, ↓fsW_nil, ↓fsW_cons, ↓osW_nil, ↓osW_cons, ↓asW_nil, ↓asW_cons, ↓a1W_t, ↓a1W_f, ↓csW_nil, ↓csW_one,
      ↓ow_var, ↓ow_cst, ↓ow_glo, ↓ow_bi, ↓ow_chain, ↓ow_slc, ↓ow_and, ↓ow_or, ↓ow_not, ↓ow_ife, ↓ow_call, ↓ow_callk, ↓ow_tup, ↓ow_lst, ↓ow_dct0, ↓ow_comp, ↓ow_compn, ↓ow_mth, ↓ow_tapp, ↓ow_prp, ↓ow_new, ↓ow_inn, ↓ow_leno, ↓ow_eqo,
      ↓kCq_, ↓kTd_, ↓kTc_, ↓kTb_, ↓kTa_, ↓kMc_, ↓kMb_, ↓kMa_, ↓kMd_, ↓kMe_, ↓kPb_, ↓kPa_, ↓kPo_, ↓kLn3_, ↓kLn2_, ↓kLn_, ↓kIn2_t, ↓kIn2_f, ↓kIn_, ↓kIc_, ↓kIb_, ↓kIa_, ↓kIo_, ↓kQc_, ↓kQb_, ↓kQa_, ↓kQo_, ↓kNq_, ↓kNw_, ↓kNz_, ↓kNb_, ↓kNa_, ↓kNo_, ↓kSf_, ↓kSg_, ↓kCk_, ↓kNe_, ↓kV_, ↓kE_, ↓kS_, ↓kX_, ↓kFz_, ↓kQv_, ↓kBi_, ↓kBi2_, ↓kOw_, ↓kCh4_, ↓kCh3_, ↓kCh2_, ↓kCh1_, ↓kB_, ↓kBw_, ↓kI_, ↓kPw_, ↓kSl3_, ↓kSl2_, ↓kSl1_, ↓kAn_, ↓kOr_, ↓kNt_, ↓kIe_, ↓kCons_, ↓kFs_, ↓kOs_, ↓kAs_, ↓kD_, ↓kTup_, ↓kLst_, ↓kRc_, ↓kAl_, ↓kCp2_, ↓kCp1_, ↓kCp_, ↓rq_conds, ↓kEl_, ↓rq_elt, ↓fq_body, ↓rq_cond, ↓kSq_, ↓kSt_, ↓kPt_, ↓kSet_, ↓kPr2_, ↓kPr1_, ↓kNx_, ↓kIf_, ↓kFo2_, ↓kFo1_, ↓kFo_, ↓kPut_, ↓kOwn_, ↓kAp_, ↓kSe2_, ↓kSe1_, ↓kCl_, ↓kTr1_, ↓kTr_, ↓kOu_, ↓kEn_, ↓kEv_, ↓kEx_, ↓kC1_, ↓kC0_, ↓kEt_, ↓kN0_, ↓kCi_, ↓kLb_, ↓kCb_, ↓kM1_, ↓kM0_, ↓kMp_, ↓kEnd_, ↓kEn0_, ↓kEn1_, ↓kEn2_, ↓kCo0_, ↓kCo1_, ↓kCo2_, ↓kCo3_, ↓kLc3_, ↓kLc2_, ↓kLcN_, ↓kLc1_, ↓kLc_,
      vaW_fz, vaW_ow, voW_fz, voW_ow, vwW_ow, neW_, opW_some, biW_some, wkW_some, ifW_t, ifW_f, andW_t, asBW_, asIW_, hnW_t, hnW_f, rtW_s, rtW_n, rvW_fz, rvW_ow, isVar, clW_, caW_, ckW_, rcW_, okCall,
      slD_fz, slD_ow, rsv_loc, rsv_d, rsvs_nil, rsvs_cons, shp_nil, shp_t, shp_f, locs_nil, locs_l, locs_d', isOw_, putOuts_l, putOuts_d', putOuts_n, ownD_, lsB_, owB_, enW_nil, enW_cons, ouW_, tbl_md, tbl_gl, tbl_isx, tbl_kw, tbl_ct, nwW_, taW_, isObj_d, xF, List.headD_cons, List.tail_cons, List.tail_nil, List.take_succ_cons, List.take_zero, mdO_,
      slotOf, Val.d, Tg.free, Tg.slots, freeO, clr, put, wipeE, backE, Option.bind_some, Option.map_some, List.getElem?_cons_zero, List.getElem?_cons_succ, List.getElem?_nil, List.set_cons_zero, List.set_cons_succ, List.length_cons, List.length_nil, List.zip_cons_cons, List.zip_nil_left, List.zip_nil_right, List.all_cons, List.all_nil, List.contains_cons, List.contains_nil, List.map_cons, List.map_nil, List.foldl_cons, List.foldl_nil, List.append_nil, List.nil_append, List.cons_append,
      Nat.zero_add, Nat.reduceAdd, Nat.reduceLT, Nat.reduceLeDiff, Nat.reduceEqDiff, Nat.reduceBEq, Bool.and_true, Bool.true_and, Bool.and_false, Bool.false_and, Bool.or_false, Bool.or_true, Bool.false_or, Bool.true_or, Bool.not_true, Bool.not_false, decide_true, decide_false, if_true, if_false, ite_true, ite_false, reduceIte, List.nodup_nil, List.nodup_cons, List.not_mem_nil, List.mem_cons, not_false_eq_true, and_self, and_true, true_and, Nat.lt_add_one, Nat.zero_lt_succ, Nat.lt_succ_self, reduceCtorEq, Nat.succ_ne_zero, ne_eq, not_true, or_self, or_false, false_or, decide_eq_true_eq,
      y_add, y_sub, y_neg, y_mul, y_mod, y_fdiv, y_addT, y_addL, y_lt, y_le, y_gt, y_ge, y_isN, y_notN, y_lenT, y_lenL, y_abs, y_int, y_intB, y_listT, y_listL, y_tupT, y_tupL, y_revT, y_revL, y_isi, y_itemT, y_itemL, y_slcT, y_slcL, y_slcS, cut_to, cut_from, cut_mid, cut_neg1, y_range, Int.toNat_natCast, Int.reduceToNat, y_wL, y_wT, y_wE, y_wZ, y_wZT, y_range2, slN_nil, slN_nm, slN_tp, lenok, lenok2, y_in, y_notin, inS_ints, y_ssetL, y_ssetT, y_neNil, y_pow, p1016, y_mulL1, Int.cast_ofNat_Int, BEq.rfl, Int.reduceBEq, Int.reduceBNe, Int.reduceLT, Int.reduceLE, Int.reduceNeg, Int.reduceAdd, Int.reduceSub, y_eqS, y_neS, y_eqI, y_neI, y_allM, y_anyM, t_isTup_non, t_isTup_bl, t_isTup_int, t_isTup_str, t_isTup_tup, t_isTup_lst, t_isTup_dK, t_isTup_dT, t_isTup_obj, t_isTup_scr, t_isInB_non, t_isInB_bl, t_isInB_int, t_isInB_str, t_isInB_tup, t_isInB_lst, t_isInB_dK, t_isInB_dT, t_isInB_obj, t_isInB_scr, t_isBo_non, t_isBo_bl, t_isBo_int, t_isBo_str, t_isBo_tup, t_isBo_lst, t_isBo_dK, t_isBo_dT, t_isBo_obj, t_isBo_scr, t_isSt_non, t_isSt_bl, t_isSt_int, t_isSt_str, t_isSt_tup, t_isSt_lst, t_isSt_dK, t_isSt_dT, t_isSt_obj, t_isSt_scr, t_isLi_non, t_isLi_bl, t_isLi_int, t_isLi_str, t_isLi_tup, t_isLi_lst, t_isLi_dK, t_isLi_dT, t_isLi_obj, t_isLi_scr, t_isDi_non, t_isDi_bl, t_isDi_int, t_isDi_str, t_isDi_tup, t_isDi_lst, t_isDi_dK, t_isDi_dT, t_isDi_obj, t_isDi_scr, t_isNon_non, t_isNon_bl, t_isNon_int, t_isNon_str, t_isNon_tup, t_isNon_lst, t_isNon_dK, t_isNon_dT, t_isNon_obj, t_isNon_scr, t_plainD_non, t_plainD_bl, t_plainD_int, t_plainD_str, t_plainD_tup, t_plainD_lst, t_plainD_dK, t_plainD_dT, t_plainD_obj, t_plainD_scr, seti_0, seti_1, seti_2, seti_3, apnd_l, atI_0, atI_1, atI_2, atI_3, atI_4, sizeL, y_isTup, y_isInt, y_isBool, y_isStr, y_isList, y_isDict, pl_len, inL, inF, y_lenS, y_itemS, y_wS, y_eqNilT])
local macro_rules
  | `(tactic| walk_at "mq") => `(tactic| simp (implicitDefEqProofs := false) (disch := first | assumption | omega | (simp only [List.length_map, List.length_take, List.length_drop, List.length_append, List.length_reverse, List.length_cons, List.length_nil, List.length_replicate, rng_len, List.length_set, List.length_zipWith, List.length_zipIdx, List.length_dropLast]; omega)) only [↓sx_cons, ↓sx_nil, ↓s1_set, ↓s1_sett, ↓s1_par, ↓s1_expr, ↓s1_ret, ↓s1_iff, ↓s1_forr, ↓s1_whl, ↓s1_app, ↓s1_seti, ↓s1_setf, ↓s1_pass, ↓s1_brk, ↓s1_cont, ↓s1_raise, ↓s1_try, sutK,
      ↓ew_var, ↓ew_cst, ↓ew_glo, ↓ew_bi, ↓ew_chain, ↓ew_slc, ↓ew_and, ↓ew_or, ↓ew_not, ↓ew_ife, ↓ew_tup, ↓ew_lst, ↓ew_dct0, ↓ew_call, ↓ew_callk, ↓ew_comp, ↓ew_compn, ↓enN_nil, ↓enN_cons, ↓ew_mth, ↓ew_tapp, ↓ew_prp, ↓ew_leno, ↓ew_inn, ↓ew_eqo, ↓ew_new, ↓bw_, ↓pw_n, ↓pw_s, ↓fsW_nil, ↓fsW_cons, ↓osW_nil, ↓osW_cons, ↓asW_nil, ↓asW_cons, ↓a1W_t, ↓a1W_f, ↓csW_nil, ↓csW_one,
      ↓ow_var, ↓ow_cst, ↓ow_glo, ↓ow_bi, ↓ow_chain, ↓ow_slc, ↓ow_and, ↓ow_or, ↓ow_not, ↓ow_ife, ↓ow_call, ↓ow_callk, ↓ow_tup, ↓ow_lst, ↓ow_dct0, ↓ow_comp, ↓ow_compn, ↓ow_mth, ↓ow_tapp, ↓ow_prp, ↓ow_new, ↓ow_inn, ↓ow_leno, ↓ow_eqo,
      ↓kCq_, ↓kTd_, ↓kTc_, ↓kTb_, ↓kTa_, ↓kMc_, ↓kMb_, ↓kMa_, ↓kMd_, ↓kMe_, ↓kPb_, ↓kPa_, ↓kPo_, ↓kLn3_, ↓kLn2_, ↓kLn_, ↓kIn2_t, ↓kIn2_f, ↓kIn_, ↓kIc_, ↓kIb_, ↓kIa_, ↓kIo_, ↓kQc_, ↓kQb_, ↓kQa_, ↓kQo_, ↓kNq_, ↓kNw_, ↓kNz_, ↓kNb_, ↓kNa_, ↓kNo_, ↓kSf_, ↓kSg_, ↓kCk_, ↓kNe_, ↓kV_, ↓kE_, ↓kS_, ↓kX_, ↓kFz_, ↓kQv_, ↓kBi_, ↓kBi2_, ↓kOw_, ↓kCh4_, ↓kCh3_, ↓kCh2_, ↓kCh1_, ↓kB_, ↓kBw_, ↓kI_, ↓kPw_, ↓kSl3_, ↓kSl2_, ↓kSl1_, ↓kAn_, ↓kOr_, ↓kNt_, ↓kIe_, ↓kCons_, ↓kFs_, ↓kOs_, ↓kAs_, ↓kD_, ↓kTup_, ↓kLst_, ↓kRc_, ↓kAl_, ↓kCp2_, ↓kCp1_, ↓kCp_, ↓rq_conds, ↓kEl_, ↓rq_elt, ↓fq_body, ↓rq_cond, ↓kSq_, ↓kSt_, ↓kPt_, ↓kSet_, ↓kPr2_, ↓kPr1_, ↓kNx_, ↓kIf_, ↓kFo2_, ↓kFo1_, ↓kFo_, ↓kPut_, ↓kOwn_, ↓kAp_, ↓kSe2_, ↓kSe1_, ↓kCl_, ↓kTr1_, ↓kTr_, ↓kOu_, ↓kEn_, ↓kEv_, ↓kEx_, ↓kC1_, ↓kC0_, ↓kEt_, ↓kN0_, ↓kCi_, ↓kLb_, ↓kCb_, ↓kM1_, ↓kM0_, ↓kMp_, ↓kEnd_, ↓kEn0_, ↓kEn1_, ↓kEn2_, ↓kCo0_, ↓kCo1_, ↓kCo2_, ↓kCo3_, ↓kLc3_, ↓kLc2_, ↓kLcN_, ↓kLc1_, ↓kLc_,
      vaW_fz, vaW_ow, voW_fz, voW_ow, vwW_ow, neW_, opW_some, biW_some, wkW_some, ifW_t, ifW_f, andW_t, asBW_, asIW_, hnW_t, hnW_f, rtW_s, rtW_n, rvW_fz, rvW_ow, isVar, clW_, caW_, ckW_, rcW_, okCall,
      slD_fz, slD_ow, rsv_loc, rsv_d, rsvs_nil, rsvs_cons, shp_nil, shp_t, shp_f, locs_nil, locs_l, locs_d', isOw_, putOuts_l, putOuts_d', putOuts_n, ownD_, lsB_, owB_, enW_nil, enW_cons, ouW_, tbl_md, tbl_gl, tbl_isx, tbl_kw, tbl_ct, nwW_, taW_, isObj_d, xF, List.headD_cons, List.tail_cons, List.tail_nil, List.take_succ_cons, List.take_zero, mdO_,
      slotOf, Val.d, Tg.free, Tg.slots, freeO, clr, put, wipeE, backE, Option.bind_some, Option.map_some, List.getElem?_cons_zero, List.getElem?_cons_succ, List.getElem?_nil, List.set_cons_zero, List.set_cons_succ, List.length_cons, List.length_nil, List.zip_cons_cons, List.zip_nil_left, List.zip_nil_right, List.all_cons, List.all_nil, List.contains_cons, List.contains_nil, List.map_cons, List.map_nil, List.foldl_cons, List.foldl_nil, List.append_nil, List.nil_append, List.cons_append,
      Nat.zero_add, Nat.reduceAdd, Nat.reduceLT, Nat.reduceLeDiff, Nat.reduceEqDiff, Nat.reduceBEq, Bool.and_true, Bool.true_and, Bool.and_false, Bool.false_and, Bool.or_false, Bool.or_true, Bool.false_or, Bool.true_or, Bool.not_true, Bool.not_false, decide_true, decide_false, if_true, if_false, ite_true, ite_false, reduceIte, List.nodup_nil, List.nodup_cons, List.not_mem_nil, List.mem_cons, not_false_eq_true, and_self, and_true, true_and, Nat.lt_add_one, Nat.zero_lt_succ, Nat.lt_succ_self, reduceCtorEq, Nat.succ_ne_zero, ne_eq, not_true, or_self, or_false, false_or, decide_eq_true_eq,
      y_add, y_sub, y_neg, y_mul, y_mod, y_fdiv, y_addT, y_addL, y_lt, y_le, y_gt, y_ge, y_isN, y_notN, y_lenT, y_lenL, y_abs, y_int, y_intB, y_listT, y_listL, y_tupT, y_tupL, y_revT, y_revL, y_isi, y_itemT, y_itemL, y_slcT, y_slcL, y_slcS, cut_to, cut_from, cut_mid, cut_neg1, y_range, Int.toNat_natCast, Int.reduceToNat, y_wL, y_wT, y_wE, y_wZ, y_wZT, y_range2, slN_nil, slN_nm, slN_tp, lenok, lenok2, y_in, y_notin, inS_ints, y_ssetL, y_ssetT, y_neNil, y_pow, p1016, y_mulL1, Int.cast_ofNat_Int, BEq.rfl, Int.reduceBEq, Int.reduceBNe, Int.reduceLT, Int.reduceLE, Int.reduceNeg, Int.reduceAdd, Int.reduceSub, y_eqS, y_neS, y_eqI, y_neI, y_allM, y_anyM, t_isTup_non, t_isTup_bl, t_isTup_int, t_isTup_str, t_isTup_tup, t_isTup_lst, t_isTup_dK, t_isTup_dT, t_isTup_obj, t_isTup_scr, t_isInB_non, t_isInB_bl, t_isInB_int, t_isInB_str, t_isInB_tup, t_isInB_lst, t_isInB_dK, t_isInB_dT, t_isInB_obj, t_isInB_scr, t_isBo_non, t_isBo_bl, t_isBo_int, t_isBo_str, t_isBo_tup, t_isBo_lst, t_isBo_dK, t_isBo_dT, t_isBo_obj, t_isBo_scr, t_isSt_non, t_isSt_bl, t_isSt_int, t_isSt_str, t_isSt_tup, t_isSt_lst, t_isSt_dK, t_isSt_dT, t_isSt_obj, t_isSt_scr, t_isLi_non, t_isLi_bl, t_isLi_int, t_isLi_str, t_isLi_tup, t_isLi_lst, t_isLi_dK, t_isLi_dT, t_isLi_obj, t_isLi_scr, t_isDi_non, t_isDi_bl, t_isDi_int, t_isDi_str, t_isDi_tup, t_isDi_lst, t_isDi_dK, t_isDi_dT, t_isDi_obj, t_isDi_scr, t_isNon_non, t_isNon_bl, t_isNon_int, t_isNon_str, t_isNon_tup, t_isNon_lst, t_isNon_dK, t_isNon_dT, t_isNon_obj, t_isNon_scr, t_plainD_non, t_plainD_bl, t_plainD_int, t_plainD_str, t_plainD_tup, t_plainD_lst, t_plainD_dK, t_plainD_dT, t_plainD_obj, t_plainD_scr, seti_0, seti_1, seti_2, seti_3, apnd_l, atI_0, atI_1, atI_2, atI_3, atI_4, sizeL, y_isTup, y_isInt, y_isBool, y_isStr, y_isList, y_isDict, pl_len, inL, inF, y_lenS, y_itemS, y_wS, y_eqNilT, *])
theorem e_is_name (S : PrgL P gl) {d : D} (h : Dok d) : (tbl P gl isx kw ct (n + 1)).sem "is_name" [d] = .ok (.fz (.bl (nam d))) [] := by
  refine cw_ok.mp (cw_def [] [.fz d, .un] S.is_name ⟨rfl, by decide⟩ rfl rfl ?_)
  have hp := h.pl
  have g1 := S.max_name
  have g2 := S.letters
  have g3 := S.figures
  unfold b_is_name
  cases d with
  | str z =>
    have hl := str_len h
    walk_at "mq"
    refine ifW_dec (fun q1 => ?_) fun q1 => ?_
    · walk_at "mq"
      by_cases q2 : (z.length : Int) ≤ 8
      · rw [decide_eq_true q2]
        obtain ⟨c, hc⟩ : ∃ c, z.cps.toList[0]? = some c := ⟨_, List.getElem?_eq_getElem (by show 0 < z.cps.toList.length; rw [Array.length_toList]; show 0 < z.length; omega)⟩
        have ha : L2.atI z.cps.toList 0 = some c := L2.atI_nat (j := 0) hc
        walk_at "mq"
        cases q3 : isL c with
        | false =>
          walk_at "mq"
          simp only [nam, hc, q3, Bool.and_false, Bool.false_and]
        | true =>
          walk_at "mq"
          refine cp_mapT (fun x => .bl (ck1 x)) (fun x hx => ?_) ?_
          · obtain ⟨c, _, rfl⟩ := List.mem_map.mp hx
            walk_at "mq"
            cases q4 : isL c with
            | true =>
              walk_at "mq"
              show D.bl true = D.bl (isL c || isF c)
              rw [q4]; rfl
            | false =>
              walk_at "mq"
              show D.bl (isF c) = D.bl (isL c || isF c)
              rw [q4]; rfl
          · walk_at "mq"
            simp only [nam, hc, q3, decide_eq_true q1, decide_eq_true q2, Bool.and_true, Bool.true_and, List.all_map]
            rfl
      · rw [decide_eq_false q2]
        walk_at "mq"
        simp only [nam, decide_eq_false q2, Bool.and_false, Bool.false_and]
    · walk_at "mq"
      simp only [nam, decide_eq_false q1, Bool.false_and]
  | _ => walk_at "mq"; rfl
theorem rise_tup {d : D} (h : rise d = true) : ∃ ds, d = .tup ds ∧ ds.all cnt = true := by
  cases d <;> first | (exact Bool.noConfusion h) | skip
  exact ⟨_, rfl, (Bool.and_eq_true_iff.mp h).1⟩
theorem plc_len {m : Int} {ds : List D} (h : ¬ ds.length = 2) : plc m (.tup ds) = false := by
  unfold plc
  split
  · rename_i e
    cases e
    exact absurd rfl h
  · rfl
theorem len2 {ds : List D} (h : ds.length = 2) : ∃ a b, ds = [a, b] := by
  match ds, h with
  | [a, b], _ => exact ⟨a, b, rfl⟩
theorem e_is_place (S : PrgL P gl) {d : D} {m : Int} (h : Dok d) : (tbl P gl isx kw ct (n + 4)).sem "is_place" [d, .int m] = .ok (.fz (.bl (plc m d))) [] := by
  refine cw_ok.mp (cw_def [] [.fz d, .fz (.int m), .un] S.is_place ⟨rfl, by decide⟩ rfl rfl ?_)
  have hp := h.pl
  have g1 := S.is_name
  have g2 := S.is_rising
  unfold b_is_place
  cases d with
  | tup ds =>
    have hl := h.tup.len
    by_cases h2 : ds.length = 2
    · obtain ⟨a, b, rfl⟩ := len2 h2
      have ha := h.tup.mem (d := a) (by simp)
      have hb := h.tup.mem (d := b) (by simp)
      walk_at "mq"
      rw [e_is_name S ha, cq_ok0 rfl]
      walk_at "mq"
      cases q1 : nam a with
      | false => walk_at "mq"; simp only [plc, q1, Bool.false_and]
      | true =>
      walk_at "mq"
      rw [e_is_rising S.toL hb, cq_ok0 rfl]
      walk_at "mq"
      cases q2 : rise b with
      | false => walk_at "mq"; simp only [plc, q1, q2, Bool.and_false, Bool.false_and]
      | true =>
      obtain ⟨ms, rfl, mi⟩ := rise_tup q2
      have ml := hb.tup.len
      walk_at "mq"
      refine cp_mapT (fun x => .bl (ltI m x)) (fun x hx => ?_) ?_
      · have := List.all_eq_true.mp mi x hx
        cases x <;> first | (exact Bool.noConfusion this) | skip
        walk_at "mq"
        rfl
      · walk_at "mq"
        simp only [plc, q1, q2, Bool.true_and]
        rfl
    · walk_at "mq"
      rw [plc_len h2]
      have : ((ds.length : Int) == 2) = false := by
        rw [beq_eq_false_iff_ne]
        omega
      rw [this]
      walk_at "mq"
  | _ => walk_at "mq"; rfl
theorem e_is_program (S : PrgL P gl) {d : D} (h : Dok d) : (tbl P gl isx kw ct (n + 5)).sem "is_program" [d] = .ok (.fz (.bl (prg d))) [] := by
  refine cw_ok.mp (cw_def [] [.fz d, .un] S.is_program ⟨rfl, by decide⟩ rfl rfl ?_)
  have hp := h.pl
  have g1 := S.max_places
  have g2 := S.is_place
  unfold b_is_program
  cases d with
  | tup ds =>
    have hl := h.tup.len
    walk_at "mq"
    refine ifW_dec (fun q1 => ?_) fun q1 => ?_
    · walk_at "mq"
      by_cases q2 : (ds.length : Int) ≤ 8
      · rw [decide_eq_true q2]
        walk_at "mq"
        refine cp_mapT (fun x => .bl (plc ds.length x)) (fun x hx => ?_) ?_
        · walk_at "mq"
          rw [e_is_place S (h.tup.mem hx), cq_ok0 rfl]
          walk_at "mq"
        · walk_at "mq"
          simp only [prg, decide_eq_true q1, decide_eq_true q2, Bool.and_true, Bool.true_and]
      · rw [decide_eq_false q2]
        walk_at "mq"
        simp only [prg, decide_eq_false q2, Bool.and_false, Bool.false_and]
    · walk_at "mq"
      simp only [prg, decide_eq_false q1, Bool.false_and]
  | _ => walk_at "mq"; rfl
theorem ints_len {ns : List Int} : (ns.map D.int).length = ns.length := List.length_map ..
theorem e_after_one (S : SrcL P gl) {Pg : Prog} (w : Wf Pg) {xs : List Int} (hx : In Pg xs) (hl : xs.length ≤ 400) {d : D} (hd : d = .tup (xs.map .int) ∨ d = .lst (xs.map .int)) : (tbl P gl isx kw ct (n + 1)).sem "after_one" [pd Pg, d] = .ok (.fz (.tup ((aft Pg xs).map .int))) [] := by
  refine cw_ok.mp (cw_def [] [.fz (pd Pg), .fz d, .un, .un] S.after_one ⟨rfl, by decide⟩ rfl rfl ?_)
  have hw : walkD 0 [d] = some (xs.map .int) := by
    rcases hd with rfl | rfl
    · exact y_wT (by rw [List.length_map]; omega)
    · exact y_wL (by rw [List.length_map]; omega)
  unfold b_after_one
  walk_at "mp"
  rw [hw]
  walk_at "mp"
  refine lc_map (fun x => match x with | .int i => (nxt Pg i).map .int | _ => []) (fun x hxx => ?_) ?_
  · obtain ⟨i, hi, rfl⟩ := List.mem_map.mp hxx
    obtain ⟨q, hq, e1, e2⟩ := at_pd (hx i hi)
    have hq8 := w.ln hq
    walk_at "mp"
    rw [e1]
    walk_at "mp"
    refine lc_map (fun x => [x]) (fun x hxx => ?_) ?_
    · walk_at "mp"
    · walk_at "mp"
      rw [e2]
      simp
  · have e : (xs.map D.int).flatMap (fun x => match x with | .int i => (nxt Pg i).map D.int | _ => []) = (xs.flatMap (nxt Pg)).map D.int := by
      rw [List.flatMap_map, List.map_flatMap]
    have h1 := flat_len w (xs := xs)
    have h2 : (sdist (xs.flatMap (nxt Pg))).length < 64 := Nat.lt_of_le_of_lt (aft_len w (xs := xs)) (by decide)
    have h3 : (xs.flatMap (nxt Pg)).length ≤ 4000 := by omega
    rw [e]
    walk_at "mp"
    rfl
theorem e_is_end (S : SrcL P gl) {Pg : Prog} {x : Int} (hx : 0 ≤ x ∧ x < Pg.length) : (tbl P gl isx kw ct (n + 1)).sem "is_end" [pd Pg, .int x] = .ok (.fz (.bl (nxt Pg x).isEmpty)) [] := by
  refine cw_ok.mp (cw_def [] [.fz (pd Pg), .fz (.int x)] S.is_end ⟨rfl, by decide⟩ rfl rfl ?_)
  obtain ⟨q, hq, e1, e2⟩ := at_pd hx
  unfold b_is_end
  walk_at "mp"
  rw [e1]
  walk_at "mp"
  rw [e2]
theorem e_after_many (S : SrcL P gl) {Pg : Prog} (w : Wf Pg) {xs : List Int} (hx : In Pg xs) (hl : xs.length ≤ 8) {s m : Nat} (hs : s ≤ 100) (hm : m ≤ 100) : (tbl P gl isx kw ct (n + 2)).sem "after_many" [pd Pg, .tup (xs.map .int), .int (s : Nat), .int (m : Nat)] = .ok (.fz (.tup ((mny Pg xs s m).map .int))) [] := by
  refine cw_ok.mp (cw_def [] [.fz (pd Pg), .fz (.tup (xs.map .int)), .fz (.int (s : Nat)), .fz (.int (m : Nat)), .un, .un] S.after_many ⟨rfl, by decide⟩ rfl rfl ?_)
  have h1 := S.after_one
  unfold b_after_many
  walk_at "mp"
  refine lp_rng (fun k r => ∃ x, r = [.fz (pd Pg), .fz (.tup ((itr Pg k xs).map .int)), .fz (.int (s : Nat)), .fz (.int (m : Nat)), x, .un]) ?_ ?_ ?_
  · exact ⟨_, rfl⟩
  · rintro i r hi ⟨x, rfl⟩
    walk_at "mq"
    rw [e_after_one S w (itr_in w hx) (by have := itr_len w hl (k := i); omega) (.inl rfl), cq_ok0 rfl]
    walk_at "mq"
    exact ⟨_, rfl⟩
  · rintro r ⟨x, rfl⟩
    have hy := itr_in w hx (k := s)
    have hyl := itr_len w hl (k := s)
    show _
    unfold mny
    generalize itr Pg s xs = ys at *
    walk_at "mp"
    refine lp_rng (fun k r => ∃ x, r = [.fz (pd Pg), .fz (.tup ((itr Pg k ys).map .int)), .fz (.int (s : Nat)), .fz (.int (m : Nat)), x, .fz (.tup ((fnd Pg ys k).map .int))]) ?_ ?_ ?_
    · exact ⟨_, rfl⟩
    · rintro i r hi ⟨x, rfl⟩
      have l1 := itr_len w hyl (k := i)
      have l2 := aft_len w (xs := itr Pg i ys)
      have l3 := fnd_len w hyl (k := i)
      walk_at "mq"
      rw [e_after_one S w (itr_in w hy) (by omega) (.inl rfl), cq_ok0 rfl]
      walk_at "mq"
      exact ⟨_, by rw [← List.map_append]; rfl⟩
    · rintro r ⟨x, rfl⟩
      have l3 := fnd_len w hyl (k := m)
      have l4 : (fnd Pg ys m).length ≤ 4000 := by omega
      have l5 : (sdist (fnd Pg ys m)).length < 64 := Nat.lt_of_le_of_lt (sdist_len8 w (fnd_in w hy)) (by decide)
      walk_at "mq"
theorem flt_map {ns : List Int} {c : D → Bool} : ((ns.map D.int).filter c).map (fun x => x) = (ns.filter fun i => c (.int i)).map D.int := by
  rw [List.filter_map, List.map_id']
  rfl
def cEnd (Pg : Prog) (ms : List Int) : D → Bool | .int i => hasI ms i || (nxt Pg i).isEmpty | _ => false
def cOut (ms : List Int) : D → Bool | .int i => !hasI ms i | _ => false
theorem e_told_from (S : SrcL P gl) {Pg : Prog} (w : Wf Pg) {W : Wt} (wf : Wtf W) {p : Int} (hp : 0 ≤ p ∧ p < Pg.length) : (tbl P gl isx kw ct (n + 2)).sem "told_from" [pd Pg, wd W, .int p] = .ok (.fz (.tup ((tld Pg W.ms W.l W.h p).map .int))) [] := by
  refine cw_ok.mp (cw_def [] [.fz (pd Pg), .fz (wd W), .fz (.int p), .un, .un, .un, .un, .un, .un, .un, .un, .un, .un] S.told_from ⟨rfl, by decide⟩ rfl rfl ?_)
  have h1 := S.after_one
  have h2 := S.is_end
  have b1 := wf.l0
  have b2 := wf.lh
  have b3 := wf.h1
  unfold b_told_from
  walk_at "mp"
  refine lp_rng (fun k r => ∃ x y, r = [.fz (pd Pg), .fz (wd W), .fz (.int p), .fz (.int W.g), .fz (ob W.b), .fz (.int W.l), .fz (.int W.h), .fz (.tup (W.ms.map .int)), .fz (.tup ((fdd Pg W.ms W.l p k).map .int)), .fz (.tup ((hr Pg W.ms p k).map .int)), x, y, .un]) ?_ ?_ ?_
  · exact ⟨_, _, rfl⟩
  · rintro k r hk ⟨x, y, rfl⟩
    have i1 := hr_in w (ms := W.ms) hp (k := k)
    have l1 := hr_len w (ms := W.ms) (p := p) (k := k)
    have l2 := fdd_len w (ms := W.ms) (l := W.l) (p := p) (k := k)
    have l3 : ((hr Pg W.ms p k).filter fun x => hasI W.ms x || (nxt Pg x).isEmpty).length ≤ 8 := Nat.le_trans (List.length_filter_le _ _) l1
    have l4 : ((hr Pg W.ms p k).filter fun x => !hasI W.ms x).length ≤ 8 := Nat.le_trans (List.length_filter_le _ _) l1
    walk_at "mp"
    refine cp_map (cEnd Pg W.ms) (fun x => x) (fun x hx => ?_) ?_
    · obtain ⟨i, hi, rfl⟩ := List.mem_map.mp hx
      walk_at "mp"
      cases q : hasI W.ms i with
      | true =>
        walk_at "mp"
        simp only [cEnd, q, Bool.true_or]
      | false =>
        walk_at "mq"
        rw [e_is_end S (i1 i hi), cq_ok0 rfl]
        walk_at "mp"
        simp only [cEnd, q, Bool.false_or]
        cases q2 : (nxt Pg i).isEmpty <;> walk_at "mp"
    rw [flt_map]
    walk_at "mp"
    refine ife_cut (fun v r => v = .fz (.tup ((stops Pg W.ms W.l k (hr Pg W.ms p k)).map .int)) ∧ ∃ y, r = [.fz (pd Pg), .fz (wd W), .fz (.int p), .fz (.int W.g), .fz (ob W.b), .fz (.int W.l), .fz (.int W.h), .fz (.tup (W.ms.map .int)), .fz (.tup ((fdd Pg W.ms W.l p k).map .int)), .fz (.tup ((hr Pg W.ms p k).map .int)), .fz (.int k), y, .un]) ?_ ?_ ?_
    · intro q
      walk_at "mp"
      refine ⟨?_, _, rfl⟩
      unfold stops
      rw [if_pos q]
    · intro q
      walk_at "mp"
      refine ⟨?_, _, rfl⟩
      unfold stops
      rw [if_neg (by rw [q]; decide)]
      rfl
    · rintro v r ⟨rfl, y, rfl⟩
      have l5 := stops_len (P := Pg) (ms := W.ms) (l := W.l) (k := k) l1
      walk_at "mq"
      refine cp_map (cOut W.ms) (fun x => x) (fun x hx => ?_) ?_
      · obtain ⟨i, hi, rfl⟩ := List.mem_map.mp hx
        walk_at "mp"
        refine ⟨rfl, ?_⟩
        cases q : hasI W.ms i <;> walk_at "mp"
      rw [flt_map]
      walk_at "mq"
      rw [e_after_one S w (in_filter (f := fun i => cOut W.ms (.int i)) i1) (Nat.le_trans l4 (by decide)) (.inr rfl), cq_ok0 rfl]
      walk_at "mq"
      exact ⟨_, _, by rw [← List.map_append]; rfl⟩
  · rintro r ⟨x, y, rfl⟩
    have l3 := fdd_len w (ms := W.ms) (l := W.l) (p := p) (k := (W.h + 1).toNat)
    have l4 : (fdd Pg W.ms W.l p (W.h + 1).toNat).length ≤ 4000 := by omega
    have l5 : (sdist (fdd Pg W.ms W.l p (W.h + 1).toNat)).length < 64 := Nat.lt_of_le_of_lt (sdist_len8 w (fdd_in w hp)) (by decide)
    walk_at "mq"
    rfl
theorem e_taken_from (S : SrcL P gl) {Pg : Prog} (w : Wf Pg) {W : Wt} (wf : Wtf W) {p : Int} (hp : -1 ≤ p ∧ p < Pg.length) : (tbl P gl isx kw ct (n + 3)).sem "taken_from" [pd Pg, wd W, .int p] = .ok (.fz (.tup ((tkn Pg W p).map .int))) [] := by
  refine cw_ok.mp (cw_def [] [.fz (pd Pg), .fz (wd W), .fz (.int p), .un, .un] S.taken_from ⟨rfl, by decide⟩ rfl rfl ?_)
  have h1 := S.after_many
  have h2 := S.begin
  have b1 := wf.g0
  have b2 := wf.g1
  have hi := w.hi
  have lo := w.lo
  unfold b_taken_from
  by_cases q : p = -1
  · subst q
    have := e_after_many (n := n) (isx := isx) (kw := kw) (ct := ct) S w (xs := [0]) (in_one ⟨Int.le_refl _, by omega⟩) (by decide) (s := 0) (m := Pg.length) (by omega) (by omega)
    have this : (tbl P gl isx kw ct (n + 2)).sem "after_many" [pd Pg, .tup [.int 0], .int 0, .int (Pg.length : Nat)] = .ok (.fz (.tup ((mny Pg [0] 0 Pg.length).map .int))) [] := this
    walk_at "mq"
    rw [cq_ok0 rfl]
    walk_at "mq"
    rfl
  · have q' : (p == -1) = false := by rw [beq_eq_false_iff_ne]; exact q
    have ep : tkn Pg W p = mny Pg [p] W.g.toNat (mor Pg W) := if_neg q
    have g2 : ((W.g.toNat : Nat) : Int) = W.g := Int.toNat_of_nonneg (by omega)
    have go : ∀ m : Nat, m ≤ 100 → (tbl P gl isx kw ct (n + 2)).sem "after_many" [pd Pg, .tup [.int p], .int W.g, .int (m : Nat)] = .ok (.fz (.tup ((mny Pg [p] W.g.toNat m).map .int))) [] := fun m hm => by
      have := e_after_many (n := n) (isx := isx) (kw := kw) (ct := ct) S w (xs := [p]) (in_one ⟨by omega, hp.2⟩) (by simp) (s := W.g.toNat) (m := m) (by omega) hm
      rw [g2] at this
      exact this
    rw [ep]
    unfold mor
    cases e : W.b with
    | none =>
      walk_at "mq"
      simp only [ob, e]
      walk_at "mq"
      rw [cq_ok0 rfl]
      walk_at "mq"
    | some b =>
      have b3 := wf.b0 b e
      have g3 : (((b - W.g).toNat : Nat) : Int) = b - W.g := Int.toNat_of_nonneg (by omega)
      have g4 := go (b - W.g).toNat (by omega)
      rw [g3] at g4
      walk_at "mq"
      simp only [ob, e]
      walk_at "mq"
      rw [cq_ok0 rfl]
      walk_at "mq"
theorem fm_one {α β : Type} {f : α → β} : ∀ {xs : List α}, (xs.flatMap fun x => [f x]) = xs.map f
  | [] => rfl
  | x :: xs => by rw [List.flatMap_cons, fm_one]; rfl
theorem rng_at {f : D → D} {m : Nat} {a : Int} (h : 0 ≤ a ∧ a < m) : L2.atI ((rng m).map f) a = some (f (.int a)) := by
  obtain ⟨i, rfl⟩ := Int.eq_ofNat_of_zero_le h.1
  have hi : i < m := by omega
  refine L2.atI_nat ?_
  rw [List.getElem?_map, rng, List.getElem?_map, List.getElem?_range hi]
  rfl
def toldD (Pg : Prog) (W : Wt) : D → D | .int i => .tup ((tld Pg W.ms W.l W.h i).map .int) | _ => .non
theorem e_all_moves (S : SrcL P gl) {Pg : Prog} (w : Wf Pg) {W : Wt} (wf : Wtf W) : (tbl P gl isx kw ct (n + 4)).sem "all_moves" [pd Pg, wd W] = .ok (.ow (.lst (mvs Pg W))) [] := by
  refine cw_ok.mp (cw_def [] [.fz (pd Pg), .fz (wd W), .un, .un, .un, .un] S.all_moves ⟨rfl, by decide⟩ rfl rfl ?_)
  have h1 := S.told_from
  have h2 := S.taken_from
  have h3 := S.begin
  have hi := w.hi
  have lo := w.lo
  have hl := mvs_len w (W := W)
  unfold b_all_moves
  walk_at "mq"
  refine cp_mapT (toldD Pg W) (fun x hx => ?_) ?_
  · obtain ⟨i, hi, rfl⟩ := List.mem_map.mp hx
    have hi := List.mem_range.mp hi
    walk_at "mq"
    rw [e_told_from S w wf (by omega), cq_ok0 rfl]
    walk_at "mq"
    rfl
  walk_at "mq"
  refine lc_map (fun x => match x with | .int p => mvP Pg W p | _ => []) (fun x hx => ?_) ?_
  · obtain ⟨k, hk, rfl⟩ := List.mem_map.mp hx
    have hk := List.mem_range.mp hk
    have hk2 : -1 ≤ (-1 + (k : Int)) ∧ (-1 + (k : Int)) < Pg.length := by omega
    have hl2 := tkn_len w (W := W) hk2
    walk_at "mq"
    rw [e_taken_from S w wf hk2, cq_ok0 rfl]
    walk_at "mq"
    refine lc_map (fun x => match x with | .int a => mvI Pg W (-1 + (k : Int)) a | _ => []) (fun x hx => ?_) ?_
    · obtain ⟨a, ha, rfl⟩ := List.mem_map.mp hx
      have ha := tkn_in w hk2 a ha
      have hl3 := tld_len w (ms := W.ms) (l := W.l) (h := W.h) ha
      walk_at "mq"
      rw [rng_at ha]
      unfold toldD
      walk_at "mq"
      refine lc_map (fun x => match x with | .int b => [mv (-1 + (k : Int)) a b] | _ => []) (fun x hx => ?_) ?_
      · obtain ⟨b, hb, rfl⟩ := List.mem_map.mp hx
        walk_at "mq"
        rfl
      · walk_at "mq"
        rw [List.flatMap_map]
        exact fm_one
    · walk_at "mq"
      rw [List.flatMap_map]
      rfl
  · have e : (((List.range ((Pg.length : Int) - -1).toNat).map fun (k : Nat) => D.int (-1 + (k : Int))).flatMap fun x => match x with | .int p => mvP Pg W p | _ => []) = mvs Pg W := by
      rw [List.flatMap_map, show ((Pg.length : Int) - -1).toNat = Pg.length + 1 by omega]
      rfl
    rw [e]
    walk_at "mq"
/-! ### what is right -/
theorem ups_ints : ∀ {ns : List Int}, ns.Pairwise (fun a b => a < b) → ups (ns.map .int) = true
  | [], _ => rfl
  | [x], _ => rfl
  | x :: y :: r, h => by
    rw [List.pairwise_cons] at h
    have h1 := h.1 y List.mem_cons_self
    have h2 := ups_ints h.2
    show (decide (x < y) && ups (.int y :: r.map .int)) = true
    rw [decide_eq_true h1]
    exact h2
theorem cnt_ints {ns : List Int} (h : ∀ x ∈ ns, 0 ≤ x) : (ns.map D.int).all cnt = true := by
  rw [List.all_map]
  exact List.all_eq_true.mpr fun x hx => decide_eq_true (h x hx)
theorem rise_ints {ns : List Int} (h : ns.Pairwise (fun a b => a < b)) (h2 : ∀ x ∈ ns, 0 ≤ x) : rise (.tup (ns.map .int)) = true := by
  show ((ns.map D.int).all cnt && ups (ns.map .int)) = true
  rw [cnt_ints h2, ups_ints h]
  rfl
theorem ltT_ints {ns : List Int} {m : Int} : ltT m (.tup (ns.map .int)) = ns.all fun x => decide (x < m) := by
  show (ns.map D.int).all (ltI m) = _
  rw [List.all_map]
  rfl
theorem prg_of {Pg : Prog} (w : Wf Pg) : prg (pd Pg) = true := by
  have h1 := w.lo
  have h2 := w.hi
  show (decide (1 ≤ ((pl Pg).length : Int)) && decide (((pl Pg).length : Int) ≤ 8) && (pl Pg).all (plc (pl Pg).length)) = true
  rw [pl_len, decide_eq_true (by omega), decide_eq_true (by omega), Bool.true_and, Bool.true_and]
  unfold pl
  rw [List.all_map]
  refine List.all_eq_true.mpr fun q hq => ?_
  show (nam (.str q.1) && rise (.tup (q.2.map .int)) && ltT Pg.length (.tup (q.2.map .int))) = true
  rw [w.nm q hq, rise_ints (w.up q hq) fun x hx => (w.bd q hq x hx).1, ltT_ints, List.all_eq_true.mpr fun x hx => decide_eq_true (w.bd q hq x hx).2]
  rfl
theorem wat_of {W : Wt} (wf : Wtf W) : wat (wd W) = true := by
  have a1 := wf.g0
  have a2 := wf.g1
  have a3 := wf.l0
  have a4 := wf.lh
  have a5 := wf.h1
  have e : (isNon (ob W.b) || stp (ob W.b) (.int W.g)) = true := by
    cases h : W.b with
    | none => rfl
    | some b =>
      have := wf.b0 b h
      show (false || (decide (W.g ≤ b) && decide (b ≤ 30))) = true
      rw [decide_eq_true this.1, decide_eq_true this.2]
      rfl
  show ((decide (1 ≤ W.g) && decide (W.g ≤ 30)) && (decide (0 ≤ W.l) && decide (W.l ≤ 30)) && (isNon (ob W.b) || stp (ob W.b) (.int W.g)) && (decide (W.l ≤ W.h) && decide (W.h ≤ 30)) && rise (.tup (W.ms.map .int)) && (W.ms.map D.int).all lt8) = true
  have e2 : W.ms.all (lt8 ∘ D.int) = true := List.all_eq_true.mpr fun x hx => decide_eq_true (wf.bd x hx).2
  rw [e, rise_ints wf.up fun x hx => (wf.bd x hx).1, List.all_map, e2, decide_eq_true a1, decide_eq_true a2, decide_eq_true a3, decide_eq_true a4, decide_eq_true a5, decide_eq_true (by omega : W.l ≤ 30)]
  rfl
/-- the marks are places -/
def mkl (m : Int) : D → Bool | .tup [_, _, _, _, ms] => ltT m ms | _ => false
theorem mkl_of {W : Wt} {m : Int} (h : ∀ x ∈ W.ms, x < m) : mkl m (wd W) = true := by
  show ltT m (.tup (W.ms.map .int)) = true
  rw [ltT_ints]
  exact List.all_eq_true.mpr fun x hx => decide_eq_true (h x hx)
theorem wat_ms {e : D} (h : wat e = true) : ∃ a b c d ms, e = .tup [a, b, c, d, .tup ms] ∧ ms.all cnt = true := by
  unfold wat at h
  split at h
  · simp only [Bool.and_eq_true] at h
    obtain ⟨ms, rfl, h2⟩ := rise_tup h.1.2
    exact ⟨_, _, _, _, ms, rfl, h2⟩
  · cases h
structure SrcC (ct : CT) : Prop where
  mt : ct.mt "Source" "__init__" = some ("Source.__init__" : Str)
  nw : ct.nw "Source" = true
  f1 : ct.fld "Source" "program" = true
  f2 : ct.fld "Source" "watcher" = true
  f3 : ct.fld "Source" "all" = true
theorem y_s1 (C : SrcC ct) {d : D} : setFld ct "program" d (.obj "Source" [] []) = some (.obj "Source" ["program"] [d]) := if_pos ⟨C.f1, by decide⟩
theorem y_s2 (C : SrcC ct) {d a : D} : setFld ct "watcher" d (.obj "Source" ["program"] [a]) = some (.obj "Source" ["program", "watcher"] [a, d]) := if_pos ⟨C.f2, by decide⟩
theorem y_s3 (C : SrcC ct) {d a b : D} : setFld ct "all" d (.obj "Source" ["program", "watcher"] [a, b]) = some (.obj "Source" ["program", "watcher", "all"] [a, b, d]) := if_pos ⟨C.f3, by decide⟩
def src (p w : D) (xs : List D) : D := .obj "Source" ["program", "watcher", "all"] [p, w, .lst xs]
theorem e_init_prog (S : SrcL P gl) {d e : D} (h : Dok d) (hp : prg d = false) : (tbl P gl isx kw ct (n + 6)).sem "Source.__init__" [.obj "Source" [] [], d, e] = .exn ⟨"NoProgram", [], []⟩ [.obj "Source" [] []] := by
  refine cw_exn.mp (cw_def [0] [.ow (.obj "Source" [] []), .fz d, .fz e, .un] S.init ⟨rfl, by decide⟩ rfl rfl ?_)
  have h1 := S.is_program
  unfold b_Source___init__
  walk_at "mq"
  rw [e_is_program S.toPrgL h, cq_ok0 rfl, hp]
  walk_at "mq"
theorem e_init_wat (S : SrcL P gl) {d e : D} (h : Dok d) (he : Dok e) (hp : prg d = true) {m : Nat} (hm : ∃ ds, d = .tup ds ∧ ds.length = m) (hw : (wat e && mkl m e) = false) : (tbl P gl isx kw ct (n + 6)).sem "Source.__init__" [.obj "Source" [] [], d, e] = .exn ⟨"NoWatcher", [], []⟩ [.obj "Source" [] []] := by
  refine cw_exn.mp (cw_def [0] [.ow (.obj "Source" [] []), .fz d, .fz e, .un] S.init ⟨rfl, by decide⟩ rfl rfl ?_)
  have h1 := S.is_program
  have h2 := S.is_watcher
  obtain ⟨ds, rfl, hm⟩ := hm
  unfold b_Source___init__
  walk_at "mq"
  rw [e_is_program S.toPrgL h, cq_ok0 rfl, hp]
  walk_at "mq"
  rw [e_is_watcher S.toLW he, cq_ok0 rfl]
  walk_at "mq"
  cases q : wat e with
  | false => walk_at "mq"
  | true =>
    rw [q, Bool.true_and] at hw
    obtain ⟨a, b, c, d, ms, rfl, hms⟩ := wat_ms q
    have ml := (he.tup.mem (d := .tup ms) (by simp)).tup.len
    walk_at "mq"
    refine cp_mapT (fun x => .bl (ltI m x)) (fun x hx => ?_) ?_
    · have := List.all_eq_true.mp hms x hx
      cases x <;> first | (exact Bool.noConfusion this) | skip
      walk_at "mq"
      rfl
    · have hw : ms.all (ltI m) = false := hw
      walk_at "mq"
theorem e_init_ok (S : SrcL P gl) (C : SrcC ct) {Pg : Prog} (w : Wf Pg) {W : Wt} (wf : Wtf W) (h : Dok (pd Pg)) (he : Dok (wd W)) (hm : ∀ x ∈ W.ms, x < Pg.length) : (tbl P gl isx kw ct (n + 6)).sem "Source.__init__" [.obj "Source" [] [], pd Pg, wd W] = .ok (.fz .non) [src (pd Pg) (wd W) (mvs Pg W)] := by
  refine cw_ok.mp (cw_def [0] [.ow (.obj "Source" [] []), .fz (pd Pg), .fz (wd W), .un] S.init ⟨rfl, by decide⟩ rfl rfl ?_)
  have h1 := S.is_program
  have h2 := S.is_watcher
  have h3 := S.all_moves
  have hl : W.ms.length ≤ 8 := by
    have := lt_length 0 8 wf.up fun x hx => wf.bd x hx
    omega
  unfold b_Source___init__
  walk_at "mq"
  rw [e_is_program S.toPrgL h, cq_ok0 rfl, prg_of w]
  walk_at "mq"
  rw [e_is_watcher S.toLW he, cq_ok0 rfl, wat_of wf]
  walk_at "mq"
  refine cp_mapT (fun x => .bl (ltI Pg.length x)) (fun x hx => ?_) ?_
  · obtain ⟨i, hi, rfl⟩ := List.mem_map.mp hx
    walk_at "mq"
    show D.bl true = D.bl (decide (i < (Pg.length : Int)))
    rw [decide_eq_true (hm i hi)]
  · have hw : (W.ms.map D.int).all (ltI Pg.length) = true := mkl_of hm
    walk_at "mq"
    rw [y_s1 C]
    walk_at "mq"
    rw [y_s2 C]
    walk_at "mq"
    rw [e_all_moves S w wf, cq_ok0 rfl]
    walk_at "mq"
    rw [y_s3 C]
    walk_at "mq"
    rfl
end
end Sr

set_option Elab.async false
set_option linter.all false
set_option maxRecDepth 100000
set_option maxHeartbeats 4000000
/-! drawn programs and watchers. -/
namespace Dr
open PySem Mp Mw Nm Sr Pot
def b_some_program : List MS := [.set 2 (.bi .add [.cst (.int 1), .call "_law_below" [.var 0, .var 1]]),
  .set 3 (.bi .item [.lst [.lst [.cst (.str "a")], .lst [.cst (.str "a"), .cst (.str "b")], .lst [.cst (.str "a"), .cst (.str "b"), .cst (.str "c1")], .lst [.cst (.str "x"), .cst (.str "a"), .cst (.str "longname"), .cst (.str "b2"), .cst (.str "q"), .cst (.str "z9")]], .call "_law_below" [.var 0, .cst (.int 4)]]),
  .set 4 (.lst []),
  .forr (.nm 5) 1 [.var 2] [.set 6 (.comp (.nm 7) (.var 7) 1 [.var 2] [.bi .eq [.call "_law_below" [.var 0, .cst (.int 4)], .cst (.int 0)]]),
  .iff (.bi .gt [.call "_law_below" [.var 0, .cst (.int 5)], .cst (.int 0)]) [.app 6 (.call "_law_pick" [.var 0, .lst [.bi .mul [.bi .add [.var 5, .cst (.int 1)], .bi .int [.bi .lt [.bi .add [.var 5, .cst (.int 1)], .var 2]]], .var 5, .cst (.int 0), .bi .sub [.var 2, .cst (.int 1)]]])] [],
  .app 4 (.tup [.call "_law_pick" [.var 0, .var 3], .bi .tuple [.bi (.cmp 0) [.var 6]]])],
  .ret (.bi .tuple [.var 4])]
def b_some_watcher : List MS := [.par 2 3 (.bi .add [.cst (.int 1), .call "_law_below" [.var 0, .cst (.int 3)]]) (.call "_law_below" [.var 0, .cst (.int 3)]),
  .set 4 (.call "_law_pick" [.var 0, .lst [.cst .non, .var 2, .bi .add [.var 2, .call "_law_below" [.var 0, .cst (.int 4)]]]]),
  .set 5 (.bi .tuple [.comp (.nm 6) (.var 6) 1 [.var 1] [.bi .eq [.call "_law_below" [.var 0, .cst (.int 6)], .cst (.int 0)]]]),
  .ret (.tup [.var 2, .var 4, .var 3, .bi .add [.var 3, .call "_law_below" [.var 0, .cst (.int 4)]], .var 5])]
structure DrawL (P : Str → Option Fn) : Prop extends PotL P where
  some_program : P "_law_some_program" = some ⟨[true, false], 8, b_some_program⟩
  some_watcher : P "_law_some_watcher" = some ⟨[true, false], 7, b_some_watcher⟩
def words : List Str := ["x", "a", "longname", "b2", "q", "z9", "b", "c1"]
theorem words_nam : words.all (fun z => nam (.str z)) = true := by decide +kernel
section
variable {P : Str → Option Fn} {gl : Str → Option D} {isx : Str → Str → Option Bool} {kw : Str → List Str → Option (List D → List D)} {ct : CT} {n : Nat}
local macro_rules
  | `(tactic| walk_at "mp") => `(tactic| simp (implicitDefEqProofs := false) (disch := first | assumption | omega | (simp only [List.length_map, List.length_take, List.length_drop, List.length_append, List.length_reverse, List.length_cons, List.length_nil, List.length_replicate, rng_len, List.length_set, List.length_zipWith, List.length_zipIdx, List.length_dropLast]; omega)) only [↓sx_cons, ↓sx_nil, ↓s1_set, ↓s1_sett, ↓s1_par, ↓s1_expr, ↓s1_ret, ↓s1_iff, ↓s1_forr, ↓s1_whl, ↓s1_app, ↓s1_seti, ↓s1_setf, ↓s1_pass, ↓s1_brk, ↓s1_cont, ↓s1_raise, ↓s1_try, sutK,
      ↓ew_var, ↓ew_cst, ↓ew_glo, ↓ew_bi, ↓ew_chain, ↓ew_slc, ↓ew_and, ↓ew_or, ↓ew_not, ↓ew_ife, ↓ew_tup, ↓ew_lst, ↓ew_dct0, ↓ew_call, ↓ew_callk, ↓ew_comp, ↓ew_compn, ↓enN_nil, ↓enN_cons, ↓ew_mth, ↓ew_tapp, ↓ew_prp, ↓ew_leno, ↓ew_inn, ↓ew_eqo, ↓ew_new, ↓bw_, ↓pw_n, ↓pw_s, ↓fsW_nil, ↓fsW_cons, ↓osW_nil, ↓osW_cons, ↓asW_nil, ↓asW_cons, ↓a1W_t, ↓a1W_f, ↓csW_nil, ↓csW_one,
      ↓ow_var, ↓ow_cst, ↓ow_glo, ↓ow_bi, ↓ow_chain, ↓ow_slc, ↓ow_and, ↓ow_or, ↓ow_not, ↓ow_ife, ↓ow_call, ↓ow_callk, ↓ow_tup, ↓ow_lst, ↓ow_dct0, ↓ow_comp, ↓ow_compn, ↓ow_mth, ↓ow_tapp, ↓ow_prp, ↓ow_new, ↓ow_inn, ↓ow_leno, ↓ow_eqo,
      ↓kCq_, ↓kTd_, ↓kTc_, ↓kTb_, ↓kTa_, ↓kMc_, ↓kMb_, ↓kMa_, ↓kMd_, ↓kMe_, ↓kPb_, ↓kPa_, ↓kPo_, ↓kLn3_, ↓kLn2_, ↓kLn_, ↓kIn2_t, ↓kIn2_f, ↓kIn_, ↓kIc_, ↓kIb_, ↓kIa_, ↓kIo_, ↓kQc_, ↓kQb_, ↓kQa_, ↓kQo_, ↓kNq_, ↓kNw_, ↓kNz_, ↓kNb_, ↓kNa_, ↓kNo_, ↓kSf_, ↓kSg_, ↓kCk_, ↓kNe_, ↓kV_, ↓kE_, ↓kS_, ↓kX_, ↓kFz_, ↓kQv_, ↓kBi_, ↓kBi2_, ↓kOw_, ↓kCh4_, ↓kCh3_, ↓kCh2_, ↓kCh1_, ↓kB_, ↓kBw_, ↓kI_, ↓kPw_, ↓kSl3_, ↓kSl2_, ↓kSl1_, ↓kAn_, ↓kOr_, ↓kNt_, ↓kIe_, ↓kCons_, ↓kFs_, ↓kOs_, ↓kAs_, ↓kD_, ↓kTup_, ↓kLst_, ↓kRc_, ↓kAl_, ↓kCp2_, ↓kCp1_, ↓kCp_, ↓rq_conds, ↓kEl_, ↓rq_elt, ↓fq_body, ↓rq_cond, ↓kSq_, ↓kSt_, ↓kPt_, ↓kSet_, ↓kPr2_, ↓kPr1_, ↓kNx_, ↓kIf_, ↓kFo2_, ↓kFo1_, ↓kFo_, ↓kPut_, ↓kOwn_, ↓kAp_, ↓kSe2_, ↓kSe1_, ↓kCl_, ↓kTr1_, ↓kTr_, ↓kOu_, ↓kEn_, ↓kEv_, ↓kEx_, ↓kC1_, ↓kC0_, ↓kEt_, ↓kN0_, ↓kCi_, ↓kLb_, ↓kCb_, ↓kM1_, ↓kM0_, ↓kMp_, ↓kEnd_, ↓kEn0_, ↓kEn1_, ↓kEn2_, ↓kCo0_, ↓kCo1_, ↓kCo2_, ↓kCo3_, ↓kLc3_, ↓kLc2_, ↓kLcN_, ↓kLc1_, ↓kLc_,
      vaW_fz, vaW_ow, voW_fz, voW_ow, vwW_ow, neW_, opW_some, biW_some, wkW_some, ifW_t, ifW_f, andW_t, asBW_, asIW_, hnW_t, hnW_f, rtW_s, rtW_n, rvW_fz, rvW_ow, isVar, clW_, caW_, ckW_, rcW_, okCall,
      slD_fz, slD_ow, rsv_loc, rsv_d, rsvs_nil, rsvs_cons, shp_nil, shp_t, shp_f, locs_nil, locs_l, locs_d', isOw_, putOuts_l, putOuts_d', putOuts_n, ownD_, lsB_, owB_, enW_nil, enW_cons, ouW_, tbl_md, tbl_gl, tbl_isx, tbl_kw, tbl_ct, nwW_, taW_, isObj_d, xF, List.headD_cons, List.tail_cons, List.tail_nil, List.take_succ_cons, List.take_zero, mdO_,
      slotOf, Val.d, Tg.free, Tg.slots, freeO, clr, put, wipeE, backE, Option.bind_some, Option.map_some, List.getElem?_cons_zero, List.getElem?_cons_succ, List.getElem?_nil, List.set_cons_zero, List.set_cons_succ, List.length_cons, List.length_nil, List.zip_cons_cons, List.zip_nil_left, List.zip_nil_right, List.all_cons, List.all_nil, List.contains_cons, List.contains_nil, List.map_cons, List.map_nil, List.foldl_cons, List.foldl_nil, List.append_nil, List.nil_append, List.cons_append,
      Nat.zero_add, Nat.reduceAdd, Nat.reduceLT, Nat.reduceLeDiff, Nat.reduceEqDiff, Nat.reduceBEq, Bool.and_true, Bool.true_and, Bool.and_false, Bool.false_and, Bool.or_false, Bool.or_true, Bool.false_or, Bool.true_or, Bool.not_true, Bool.not_false, decide_true, decide_false, if_true, if_false, ite_true, ite_false, reduceIte, List.nodup_nil, List.nodup_cons, List.not_mem_nil, List.mem_cons, not_false_eq_true, and_self, and_true, true_and, Nat.lt_add_one, Nat.zero_lt_succ, Nat.lt_succ_self, reduceCtorEq, Nat.succ_ne_zero, ne_eq, not_true, or_self, or_false, false_or, decide_eq_true_eq,
      y_add, y_sub, y_neg, y_mul, y_mod, y_fdiv, y_addT, y_addL, y_lt, y_le, y_gt, y_ge, y_isN, y_notN, y_lenT, y_lenL, y_abs, y_int, y_intB, y_listT, y_listL, y_tupT, y_tupL, y_revT, y_revL, y_isi, y_itemT, y_itemL, y_slcT, y_slcL, y_slcS, cut_to, cut_from, cut_mid, cut_neg1, y_range, Int.toNat_natCast, Int.reduceToNat, y_wL, y_wT, y_wE, y_wZ, y_wZT, y_range2, slN_nil, slN_nm, slN_tp, lenok, lenok2, y_in, y_notin, inS_ints, y_ssetL, y_ssetT, y_neNil, y_pow, p1016, y_mulL1, Int.cast_ofNat_Int, BEq.rfl, Int.reduceBEq, Int.reduceBNe, Int.reduceLT, Int.reduceLE, Int.reduceNeg, Int.reduceAdd, Int.reduceSub, y_eqS, y_neS, y_eqI, y_neI, y_allM, y_anyM, t_isTup_non, t_isTup_bl, t_isTup_int, t_isTup_str, t_isTup_tup, t_isTup_lst, t_isTup_dK, t_isTup_dT, t_isTup_obj, t_isTup_scr, t_isInB_non, t_isInB_bl, t_isInB_int, t_isInB_str, t_isInB_tup, t_isInB_lst, t_isInB_dK, t_isInB_dT, t_isInB_obj, t_isInB_scr, t_isBo_non, t_isBo_bl, t_isBo_int, t_isBo_str, t_isBo_tup, t_isBo_lst, t_isBo_dK, t_isBo_dT, t_isBo_obj, t_isBo_scr, t_isSt_non, t_isSt_bl, t_isSt_int, t_isSt_str, t_isSt_tup, t_isSt_lst, t_isSt_dK, t_isSt_dT, t_isSt_obj, t_isSt_scr, t_isLi_non, t_isLi_bl, t_isLi_int, t_isLi_str, t_isLi_tup, t_isLi_lst, t_isLi_dK, t_isLi_dT, t_isLi_obj, t_isLi_scr, t_isDi_non, t_isDi_bl, t_isDi_int, t_isDi_str, t_isDi_tup, t_isDi_lst, t_isDi_dK, t_isDi_dT, t_isDi_obj, t_isDi_scr, t_isNon_non, t_isNon_bl, t_isNon_int, t_isNon_str, t_isNon_tup, t_isNon_lst, t_isNon_dK, t_isNon_dT, t_isNon_obj, t_isNon_scr, t_plainD_non, t_plainD_bl, t_plainD_int, t_plainD_str, t_plainD_tup, t_plainD_lst, t_plainD_dK, t_plainD_dT, t_plainD_obj, t_plainD_scr, seti_0, seti_1, seti_2, seti_3, apnd_l, atI_0, atI_1, atI_2, atI_3, atI_4, sizeL])
local macro_rules
  | `(tactic| walk_at "mps") => `(tactic| simp (implicitDefEqProofs := false) (disch := first | assumption | omega | (simp only [List.length_map, List.length_take, List.length_drop, List.length_append, List.length_reverse, List.length_cons, List.length_nil, List.length_replicate, rng_len, List.length_set, List.length_zipWith, List.length_zipIdx, List.length_dropLast]; omega)) only [↓sx_cons, ↓sx_nil, ↓s1_set, ↓s1_sett, ↓s1_par, ↓s1_expr, ↓s1_ret, ↓s1_forr, ↓s1_whl, ↓s1_app, ↓s1_seti, ↓s1_setf, ↓s1_pass, ↓s1_brk, ↓s1_cont, ↓s1_raise, sutK,
      ↓ew_var, ↓ew_cst, ↓ew_glo, ↓ew_bi, ↓ew_chain, ↓ew_slc, ↓ew_and, ↓ew_or, ↓ew_not, ↓ew_ife, ↓ew_tup, ↓ew_lst, ↓ew_dct0, ↓ew_call, ↓ew_callk, ↓ew_comp, ↓ew_compn, ↓enN_nil, ↓enN_cons, ↓ew_mth, ↓ew_tapp, ↓ew_prp, ↓ew_leno, ↓ew_inn, ↓ew_eqo, ↓ew_new, ↓bw_, ↓pw_n, ↓pw_s, ↓fsW_nil, ↓fsW_cons, ↓osW_nil, ↓osW_cons, ↓asW_nil, ↓asW_cons, ↓a1W_t, ↓a1W_f, ↓csW_nil, ↓csW_one,
      ↓ow_var, ↓ow_cst, ↓ow_glo, ↓ow_bi, ↓ow_chain, ↓ow_slc, ↓ow_and, ↓ow_or, ↓ow_not, ↓ow_ife, ↓ow_call, ↓ow_callk, ↓ow_tup, ↓ow_lst, ↓ow_dct0, ↓ow_comp, ↓ow_compn, ↓ow_mth, ↓ow_tapp, ↓ow_prp, ↓ow_new, ↓ow_inn, ↓ow_leno, ↓ow_eqo,
      ↓kCq_, ↓kTd_, ↓kTc_, ↓kTb_, ↓kTa_, ↓kMc_, ↓kMb_, ↓kMa_, ↓kMd_, ↓kMe_, ↓kPb_, ↓kPa_, ↓kPo_, ↓kLn3_, ↓kLn2_, ↓kLn_, ↓kIn2_t, ↓kIn2_f, ↓kIn_, ↓kIc_, ↓kIb_, ↓kIa_, ↓kIo_, ↓kQc_, ↓kQb_, ↓kQa_, ↓kQo_, ↓kNq_, ↓kNw_, ↓kNz_, ↓kNb_, ↓kNa_, ↓kNo_, ↓kSf_, ↓kSg_, ↓kCk_, ↓kNe_, ↓kV_, ↓kE_, ↓kS_, ↓kX_, ↓kFz_, ↓kQv_, ↓kBi_, ↓kBi2_, ↓kOw_, ↓kCh4_, ↓kCh3_, ↓kCh2_, ↓kCh1_, ↓kB_, ↓kBw_, ↓kI_, ↓kPw_, ↓kSl3_, ↓kSl2_, ↓kSl1_, ↓kAn_, ↓kOr_, ↓kNt_, ↓kIe_, ↓kCons_, ↓kFs_, ↓kOs_, ↓kAs_, ↓kD_, ↓kTup_, ↓kLst_, ↓kRc_, ↓kAl_, ↓kCp2_, ↓kCp1_, ↓kCp_, ↓rq_conds, ↓kEl_, ↓rq_elt, ↓fq_body, ↓rq_cond, ↓kSq_, ↓kSt_, ↓kPt_, ↓kSet_, ↓kPr2_, ↓kPr1_, ↓kNx_, ↓kIf_, ↓kFo2_, ↓kFo1_, ↓kFo_, ↓kPut_, ↓kOwn_, ↓kAp_, ↓kSe2_, ↓kSe1_, ↓kCl_, ↓kTr1_, ↓kTr_, ↓kOu_, ↓kEn_, ↓kEv_, ↓kEx_, ↓kC1_, ↓kC0_, ↓kEt_, ↓kN0_, ↓kCi_, ↓kLb_, ↓kCb_, ↓kM1_, ↓kM0_, ↓kMp_, ↓kEnd_, ↓kEn0_, ↓kEn1_, ↓kEn2_, ↓kCo0_, ↓kCo1_, ↓kCo2_, ↓kCo3_, ↓kLc3_, ↓kLc2_, ↓kLcN_, ↓kLc1_, ↓kLc_,
      vaW_fz, vaW_ow, voW_fz, voW_ow, vwW_ow, neW_, opW_some, biW_some, wkW_some, ifW_t, ifW_f, andW_t, asBW_, asIW_, hnW_t, hnW_f, rtW_s, rtW_n, rvW_fz, rvW_ow, isVar, clW_, caW_, ckW_, rcW_, okCall,
      slD_fz, slD_ow, rsv_loc, rsv_d, rsvs_nil, rsvs_cons, shp_nil, shp_t, shp_f, locs_nil, locs_l, locs_d', isOw_, putOuts_l, putOuts_d', putOuts_n, ownD_, lsB_, owB_, enW_nil, enW_cons, ouW_, tbl_md, tbl_gl, tbl_isx, tbl_kw, tbl_ct, nwW_, taW_, isObj_d, xF, List.headD_cons, List.tail_cons, List.tail_nil, List.take_succ_cons, List.take_zero, mdO_,
      slotOf, Val.d, Tg.free, Tg.slots, freeO, clr, put, wipeE, backE, Option.bind_some, Option.map_some, List.getElem?_cons_zero, List.getElem?_cons_succ, List.getElem?_nil, List.set_cons_zero, List.set_cons_succ, List.length_cons, List.length_nil, List.zip_cons_cons, List.zip_nil_left, List.zip_nil_right, List.all_cons, List.all_nil, List.contains_cons, List.contains_nil, List.map_cons, List.map_nil, List.foldl_cons, List.foldl_nil, List.append_nil, List.nil_append, List.cons_append,
      Nat.zero_add, Nat.reduceAdd, Nat.reduceLT, Nat.reduceLeDiff, Nat.reduceEqDiff, Nat.reduceBEq, Bool.and_true, Bool.true_and, Bool.and_false, Bool.false_and, Bool.or_false, Bool.or_true, Bool.false_or, Bool.true_or, Bool.not_true, Bool.not_false, decide_true, decide_false, if_true, if_false, ite_true, ite_false, reduceIte, List.nodup_nil, List.nodup_cons, List.not_mem_nil, List.mem_cons, not_false_eq_true, and_self, and_true, true_and, Nat.lt_add_one, Nat.zero_lt_succ, Nat.lt_succ_self, reduceCtorEq, Nat.succ_ne_zero, ne_eq, not_true, or_self, or_false, false_or, decide_eq_true_eq,
      y_add, y_sub, y_neg, y_mul, y_mod, y_fdiv, y_addT, y_addL, y_lt, y_le, y_gt, y_ge, y_isN, y_notN, y_lenT, y_lenL, y_abs, y_int, y_intB, y_listT, y_listL, y_tupT, y_tupL, y_revT, y_revL, y_isi, y_itemT, y_itemL, y_slcT, y_slcL, y_slcS, cut_to, cut_from, cut_mid, cut_neg1, y_range, Int.toNat_natCast, Int.reduceToNat, y_wL, y_wT, y_wE, y_wZ, y_wZT, y_range2, slN_nil, slN_nm, slN_tp, lenok, lenok2, y_in, y_notin, inS_ints, y_ssetL, y_ssetT, y_neNil, y_pow, p1016, y_mulL1, Int.cast_ofNat_Int, BEq.rfl, Int.reduceBEq, Int.reduceBNe, Int.reduceLT, Int.reduceLE, Int.reduceNeg, Int.reduceAdd, Int.reduceSub, y_eqS, y_neS, y_eqI, y_neI, y_allM, y_anyM, t_isTup_non, t_isTup_bl, t_isTup_int, t_isTup_str, t_isTup_tup, t_isTup_lst, t_isTup_dK, t_isTup_dT, t_isTup_obj, t_isTup_scr, t_isInB_non, t_isInB_bl, t_isInB_int, t_isInB_str, t_isInB_tup, t_isInB_lst, t_isInB_dK, t_isInB_dT, t_isInB_obj, t_isInB_scr, t_isBo_non, t_isBo_bl, t_isBo_int, t_isBo_str, t_isBo_tup, t_isBo_lst, t_isBo_dK, t_isBo_dT, t_isBo_obj, t_isBo_scr, t_isSt_non, t_isSt_bl, t_isSt_int, t_isSt_str, t_isSt_tup, t_isSt_lst, t_isSt_dK, t_isSt_dT, t_isSt_obj, t_isSt_scr, t_isLi_non, t_isLi_bl, t_isLi_int, t_isLi_str, t_isLi_tup, t_isLi_lst, t_isLi_dK, t_isLi_dT, t_isLi_obj, t_isLi_scr, t_isDi_non, t_isDi_bl, t_isDi_int, t_isDi_str, t_isDi_tup, t_isDi_lst, t_isDi_dK, t_isDi_dT, t_isDi_obj, t_isDi_scr, t_isNon_non, t_isNon_bl, t_isNon_int, t_isNon_str, t_isNon_tup, t_isNon_lst, t_isNon_dK, t_isNon_dT, t_isNon_obj, t_isNon_scr, t_plainD_non, t_plainD_bl, t_plainD_int, t_plainD_str, t_plainD_tup, t_plainD_lst, t_plainD_dK, t_plainD_dT, t_plainD_obj, t_plainD_scr, seti_0, seti_1, seti_2, seti_3, apnd_l, atI_0, atI_1, atI_2, atI_3, atI_4, sizeL])
local macro_rules
  | `(tactic| walk_at "mq") => `(tactic| simp (implicitDefEqProofs := false) (disch := first | assumption | omega | (simp only [List.length_map, List.length_take, List.length_drop, List.length_append, List.length_reverse, List.length_cons, List.length_nil, List.length_replicate, rng_len, List.length_set, List.length_zipWith, List.length_zipIdx, List.length_dropLast]; omega)) only [↓sx_cons, ↓sx_nil, ↓s1_set, ↓s1_sett, ↓s1_par, ↓s1_expr, ↓s1_ret, ↓s1_iff, ↓s1_forr, ↓s1_whl, ↓s1_app, ↓s1_seti, ↓s1_setf, ↓s1_pass, ↓s1_brk, ↓s1_cont, ↓s1_raise, ↓s1_try, sutK,
      ↓ew_var, ↓ew_cst, ↓ew_glo, ↓ew_bi, ↓ew_chain, ↓ew_slc, ↓ew_and, ↓ew_or, ↓ew_not, ↓ew_ife, ↓ew_tup, ↓ew_lst, ↓ew_dct0, ↓ew_call, ↓ew_callk, ↓ew_comp, ↓ew_compn, ↓enN_nil, ↓enN_cons, ↓ew_mth, ↓ew_tapp, ↓ew_prp, ↓ew_leno, ↓ew_inn, ↓ew_eqo, ↓ew_new, ↓bw_, ↓pw_n, ↓pw_s, ↓fsW_nil, ↓fsW_cons, ↓osW_nil, ↓osW_cons, ↓asW_nil, ↓asW_cons, ↓a1W_t, ↓a1W_f, ↓csW_nil, ↓csW_one,
      ↓ow_var, ↓ow_cst, ↓ow_glo, ↓ow_bi, ↓ow_chain, ↓ow_slc, ↓ow_and, ↓ow_or, ↓ow_not, ↓ow_ife, ↓ow_call, ↓ow_callk, ↓ow_tup, ↓ow_lst, ↓ow_dct0, ↓ow_comp, ↓ow_compn, ↓ow_mth, ↓ow_tapp, ↓ow_prp, ↓ow_new, ↓ow_inn, ↓ow_leno, ↓ow_eqo,
      ↓kCq_, ↓kTd_, ↓kTc_, ↓kTb_, ↓kTa_, ↓kMc_, ↓kMb_, ↓kMa_, ↓kMd_, ↓kMe_, ↓kPb_, ↓kPa_, ↓kPo_, ↓kLn3_, ↓kLn2_, ↓kLn_, ↓kIn2_t, ↓kIn2_f, ↓kIn_, ↓kIc_, ↓kIb_, ↓kIa_, ↓kIo_, ↓kQc_, ↓kQb_, ↓kQa_, ↓kQo_, ↓kNq_, ↓kNw_, ↓kNz_, ↓kNb_, ↓kNa_, ↓kNo_, ↓kSf_, ↓kSg_, ↓kCk_, ↓kNe_, ↓kV_, ↓kE_, ↓kS_, ↓kX_, ↓kFz_, ↓kQv_, ↓kBi_, ↓kBi2_, ↓kOw_, ↓kCh4_, ↓kCh3_, ↓kCh2_, ↓kCh1_, ↓kB_, ↓kBw_, ↓kI_, ↓kPw_, ↓kSl3_, ↓kSl2_, ↓kSl1_, ↓kAn_, ↓kOr_, ↓kNt_, ↓kIe_, ↓kCons_, ↓kFs_, ↓kOs_, ↓kAs_, ↓kD_, ↓kTup_, ↓kLst_, ↓kRc_, ↓kAl_, ↓kCp2_, ↓kCp1_, ↓kCp_, ↓rq_conds, ↓kEl_, ↓rq_elt, ↓fq_body, ↓rq_cond, ↓kSq_, ↓kSt_, ↓kPt_, ↓kSet_, ↓kPr2_, ↓kPr1_, ↓kNx_, ↓kIf_, ↓kFo2_, ↓kFo1_, ↓kFo_, ↓kPut_, ↓kOwn_, ↓kAp_, ↓kSe2_, ↓kSe1_, ↓kCl_, ↓kTr1_, ↓kTr_, ↓kOu_, ↓kEn_, ↓kEv_, ↓kEx_, ↓kC1_, ↓kC0_, ↓kEt_, ↓kN0_, ↓kCi_, ↓kLb_, ↓kCb_, ↓kM1_, ↓kM0_, ↓kMp_, ↓kEnd_, ↓kEn0_, ↓kEn1_, ↓kEn2_, ↓kCo0_, ↓kCo1_, ↓kCo2_, ↓kCo3_, ↓kLc3_, ↓kLc2_, ↓kLcN_, ↓kLc1_, ↓kLc_,
      vaW_fz, vaW_ow, voW_fz, voW_ow, vwW_ow, neW_, opW_some, biW_some, wkW_some, ifW_t, ifW_f, andW_t, asBW_, asIW_, hnW_t, hnW_f, rtW_s, rtW_n, rvW_fz, rvW_ow, isVar, clW_, caW_, ckW_, rcW_, okCall,
      slD_fz, slD_ow, rsv_loc, rsv_d, rsvs_nil, rsvs_cons, shp_nil, shp_t, shp_f, locs_nil, locs_l, locs_d', isOw_, putOuts_l, putOuts_d', putOuts_n, ownD_, lsB_, owB_, enW_nil, enW_cons, ouW_, tbl_md, tbl_gl, tbl_isx, tbl_kw, tbl_ct, nwW_, taW_, isObj_d, xF, List.headD_cons, List.tail_cons, List.tail_nil, List.take_succ_cons, List.take_zero, mdO_,
      slotOf, Val.d, Tg.free, Tg.slots, freeO, clr, put, wipeE, backE, Option.bind_some, Option.map_some, List.getElem?_cons_zero, List.getElem?_cons_succ, List.getElem?_nil, List.set_cons_zero, List.set_cons_succ, List.length_cons, List.length_nil, List.zip_cons_cons, List.zip_nil_left, List.zip_nil_right, List.all_cons, List.all_nil, List.contains_cons, List.contains_nil, List.map_cons, List.map_nil, List.foldl_cons, List.foldl_nil, List.append_nil, List.nil_append, List.cons_append,
      Nat.zero_add, Nat.reduceAdd, Nat.reduceLT, Nat.reduceLeDiff, Nat.reduceEqDiff, Nat.reduceBEq, Bool.and_true, Bool.true_and, Bool.and_false, Bool.false_and, Bool.or_false, Bool.or_true, Bool.false_or, Bool.true_or, Bool.not_true, Bool.not_false, decide_true, decide_false, if_true, if_false, ite_true, ite_false, reduceIte, List.nodup_nil, List.nodup_cons, List.not_mem_nil, List.mem_cons, not_false_eq_true, and_self, and_true, true_and, Nat.lt_add_one, Nat.zero_lt_succ, Nat.lt_succ_self, reduceCtorEq, Nat.succ_ne_zero, ne_eq, not_true, or_self, or_false, false_or, decide_eq_true_eq,
      y_add, y_sub, y_neg, y_mul, y_mod, y_fdiv, y_addT, y_addL, y_lt, y_le, y_gt, y_ge, y_isN, y_notN, y_lenT, y_lenL, y_abs, y_int, y_intB, y_listT, y_listL, y_tupT, y_tupL, y_revT, y_revL, y_isi, y_itemT, y_itemL, y_slcT, y_slcL, y_slcS, cut_to, cut_from, cut_mid, cut_neg1, y_range, Int.toNat_natCast, Int.reduceToNat, y_wL, y_wT, y_wE, y_wZ, y_wZT, y_range2, slN_nil, slN_nm, slN_tp, lenok, lenok2, y_in, y_notin, inS_ints, y_ssetL, y_ssetT, y_neNil, y_pow, p1016, y_mulL1, Int.cast_ofNat_Int, BEq.rfl, Int.reduceBEq, Int.reduceBNe, Int.reduceLT, Int.reduceLE, Int.reduceNeg, Int.reduceAdd, Int.reduceSub, y_eqS, y_neS, y_eqI, y_neI, y_allM, y_anyM, t_isTup_non, t_isTup_bl, t_isTup_int, t_isTup_str, t_isTup_tup, t_isTup_lst, t_isTup_dK, t_isTup_dT, t_isTup_obj, t_isTup_scr, t_isInB_non, t_isInB_bl, t_isInB_int, t_isInB_str, t_isInB_tup, t_isInB_lst, t_isInB_dK, t_isInB_dT, t_isInB_obj, t_isInB_scr, t_isBo_non, t_isBo_bl, t_isBo_int, t_isBo_str, t_isBo_tup, t_isBo_lst, t_isBo_dK, t_isBo_dT, t_isBo_obj, t_isBo_scr, t_isSt_non, t_isSt_bl, t_isSt_int, t_isSt_str, t_isSt_tup, t_isSt_lst, t_isSt_dK, t_isSt_dT, t_isSt_obj, t_isSt_scr, t_isLi_non, t_isLi_bl, t_isLi_int, t_isLi_str, t_isLi_tup, t_isLi_lst, t_isLi_dK, t_isLi_dT, t_isLi_obj, t_isLi_scr, t_isDi_non, t_isDi_bl, t_isDi_int, t_isDi_str, t_isDi_tup, t_isDi_lst, t_isDi_dK, t_isDi_dT, t_isDi_obj, t_isDi_scr, t_isNon_non, t_isNon_bl, t_isNon_int, t_isNon_str, t_isNon_tup, t_isNon_lst, t_isNon_dK, t_isNon_dT, t_isNon_obj, t_isNon_scr, t_plainD_non, t_plainD_bl, t_plainD_int, t_plainD_str, t_plainD_tup, t_plainD_lst, t_plainD_dK, t_plainD_dT, t_plainD_obj, t_plainD_scr, seti_0, seti_1, seti_2, seti_3, apnd_l, atI_0, atI_1, atI_2, atI_3, atI_4, sizeL, *])
theorem c_some_watcher (L : DrawL P) {m : Nat} {d : D} {k : Int} (h : PotOk m d) (hm : m < 2 ^ 57) (hk : 0 ≤ k) (hk8 : k ≤ 8) : CW ((tbl P gl isx kw ct (n + 4)).sem "_law_some_watcher" [d, .int k]) (fun v os => ∃ (W : Wt) (d' : D), os = [d'] ∧ v = .fz (wd W) ∧ Wtf W ∧ W.g ≤ 3 ∧ (∀ b, W.b = some b → b ≤ W.g + 3) ∧ W.l ≤ 2 ∧ W.h ≤ W.l + 3 ∧ (∀ x ∈ W.ms, x < k) ∧ PotOk (m + 20) d') Mw.noX := by
  refine cw_def [0] [.ow d, .fz (.int k), .un, .un, .un, .un, .un] L.some_watcher ⟨rfl, by decide⟩ rfl rfl ?_
  unfold b_some_watcher
  have e1 := L.below
  have e2 := L.pick
  walk_at "mq"
  refine cq_ok (c_below L.toPotL h (by omega) (by omega) (by omega)) ?_
  rintro _ _ ⟨g, d, rfl, rfl, g1, g2, h⟩
  refine ⟨rfl, ?_⟩
  walk_at "mq"
  refine cq_ok (c_below L.toPotL h (by omega) (by omega) (by omega)) ?_
  rintro _ _ ⟨l, d, rfl, rfl, l1, l2, h⟩
  refine ⟨rfl, ?_⟩
  walk_at "mq"
  refine cq_ok (c_below L.toPotL h (by omega) (by omega) (by omega)) ?_
  rintro _ _ ⟨b, d, rfl, rfl, b1, b2, h⟩
  refine ⟨rfl, ?_⟩
  walk_at "mq"
  refine cq_ok (c_pick L.toPotL h (by omega) (by simp) (by simp)) ?_
  rintro _ _ ⟨w, d, rfl, rfl, hw, h⟩
  refine ⟨rfl, ?_⟩
  have hw : ∃ o : Option Int, w = ob o ∧ ∀ b', o = some b' → 1 + g ≤ b' ∧ b' ≤ 1 + g + 3 := by
    simp only [List.mem_cons, List.not_mem_nil, or_false] at hw
    rcases hw with rfl | rfl | rfl
    · exact ⟨none, rfl, fun _ e => by cases e⟩
    · exact ⟨some (1 + g), rfl, fun _ e => by cases e; omega⟩
    · exact ⟨some (1 + g + b), rfl, fun _ e => by cases e; omega⟩
  obtain ⟨o, rfl, ho⟩ := hw
  walk_at "mq"
  refine cp_rng (fun i acc r => ∃ d, r = [.ow d, .fz (.int k), .fz (.int (1 + g)), .fz (.int l), .fz (ob o), .un, .un] ∧ PotOk (m + 4 + i) d ∧ ∃ ns : List Int, acc = ns.map .int ∧ ns.Pairwise (fun a b => a < b) ∧ ∀ x ∈ ns, 0 ≤ x ∧ x < i) ?_ ?_ ?_
  · exact ⟨d, rfl, h, [], rfl, .nil, fun x hx => by cases hx⟩
  · rintro i acc r hi ⟨d, rfl, h, ns, rfl, hn1, hn2⟩
    walk_at "mq"
    refine cq_ok (c_below L.toPotL h (by omega) (by omega) (by omega)) ?_
    rintro _ _ ⟨z, d, rfl, rfl, z1, z2, h⟩
    refine ⟨rfl, ?_⟩
    walk_at "mq"
    refine ifW_of (fun q => ?_) fun q => ?_
    · walk_at "mq"
      refine ⟨d, rfl, h, ns ++ [(i : Int)], by simp, ?_, fun x hx => ?_⟩
      · rw [List.pairwise_append]
        refine ⟨hn1, List.pairwise_singleton .., fun a ha b hb => ?_⟩
        rcases List.mem_singleton.mp hb with rfl
        exact (hn2 a ha).2
      · rcases List.mem_append.mp hx with hx | hx
        · have := hn2 x hx; omega
        · rcases List.mem_singleton.mp hx with rfl; omega
    · walk_at "mq"
      exact ⟨d, rfl, h, ns, rfl, hn1, fun x hx => by have := hn2 x hx; omega⟩
  · rintro acc r ⟨d, rfl, h, ns, rfl, hn1, hn2⟩
    walk_at "mq"
    refine cq_ok (c_below L.toPotL h (by omega) (by omega) (by omega)) ?_
    rintro _ _ ⟨y, d, rfl, rfl, y1, y2, h⟩
    refine ⟨rfl, ?_⟩
    walk_at "mq"
    refine ⟨⟨1 + g, o, l, l + y, ns⟩, d, rfl, rfl, ⟨by show 1 ≤ 1 + g; omega, by show 1 + g ≤ 30; omega, fun b' e => ?_, l1, by show l ≤ l + y; omega, by show l + y ≤ 30; omega, hn1, fun x hx => ?_⟩, by show 1 + g ≤ 3; omega, fun b' e => ?_, by show l ≤ 2; omega, by show l + y ≤ l + 3; omega, fun x hx => ?_, h.mono (by omega)⟩
    · have := ho b' e
      show 1 + g ≤ b' ∧ b' ≤ 30
      omega
    · have := hn2 x hx; omega
    · have := ho b' e
      show b' ≤ 1 + g + 3
      omega
    · have := hn2 x hx; omega
def wcs : List (List Str) := [["a"], ["a", "b"], ["a", "b", "c1"], ["x", "a", "longname", "b2", "q", "z9"]]
theorem wcs_ok : wcs.all (fun l => decide (0 < l.length ∧ l.length ≤ 6) && l.all fun z => decide (z ∈ words)) = true := by decide +kernel
theorem c_some_program (L : DrawL P) {m : Nat} {d : D} {k : Int} (h : PotOk m d) (hm : m < 2 ^ 57) (hk : 1 ≤ k) (hk8 : k ≤ 8) : CW ((tbl P gl isx kw ct (n + 4)).sem "_law_some_program" [d, .int k]) (fun v os => ∃ (Pg : Prog) (d' : D), os = [d'] ∧ v = .fz (pd Pg) ∧ Wf Pg ∧ (Pg.length : Int) ≤ k ∧ (∀ q ∈ Pg, q.1 ∈ words) ∧ PotOk (m + 100) d') Mw.noX := by
  refine cw_def [0] [.ow d, .fz (.int k), .un, .un, .un, .un, .un, .un] L.some_program ⟨rfl, by decide⟩ rfl rfl ?_
  unfold b_some_program
  have e1 := L.below
  have e2 := L.pick
  walk_at "mq"
  refine cq_ok (c_below L.toPotL h (by omega) (by omega) (by omega)) ?_
  rintro _ _ ⟨g, d, rfl, rfl, g1, g2, h⟩
  refine ⟨rfl, ?_⟩
  walk_at "mq"
  refine cq_ok (c_below L.toPotL h (by omega) (by omega) (by omega)) ?_
  rintro _ _ ⟨l, d, rfl, rfl, l1, l2, h⟩
  refine ⟨rfl, ?_⟩
  obtain ⟨l, rfl⟩ := Int.eq_ofNat_of_zero_le l1
  have hl : l < wcs.length := by show l < 4; omega
  have hat : L2.atI [D.lst [.str "a"], .lst [.str "a", .str "b"], .lst [.str "a", .str "b", .str "c1"], .lst [.str "x", .str "a", .str "longname", .str "b2", .str "q", .str "z9"]] (l : Nat) = some (.lst (wcs[l].map .str)) := by
    refine L2.atI_nat ?_
    show (wcs.map fun l => D.lst (l.map .str))[l]? = _
    rw [List.getElem?_map, List.getElem?_eq_getElem hl]
    rfl
  have hwc := Bool.and_eq_true_iff.mp (List.all_eq_true.mp wcs_ok wcs[l] (List.getElem_mem hl))
  have hwc1 := of_decide_eq_true hwc.1
  have hwc2 : ∀ z ∈ wcs[l], z ∈ words := fun z hz => of_decide_eq_true (List.all_eq_true.mp hwc.2 z hz)
  generalize wcs[l] = ws at hat hwc1 hwc2
  obtain ⟨N, hN⟩ := Int.eq_ofNat_of_zero_le (a := 1 + g) (by omega)
  have hN1 : 1 ≤ N := by omega
  have hN8 : N ≤ 8 := by omega
  walk_at "mq"
  refine lp_rng (fun i r => ∃ d x y z, r = [.ow d, .fz (.int k), .fz (.int (N : Nat)), .fz (.lst (ws.map .str)), .ow (.lst x), y, z, .un] ∧ PotOk (m + 2 + 12 * i) d ∧ ∃ Pg : Prog, x = pl Pg ∧ Pg.length = i ∧ (∀ q ∈ Pg, q.1 ∈ words ∧ q.2.Pairwise (fun a b => a < b) ∧ ∀ a ∈ q.2, 0 ≤ a ∧ a < N)) ?_ ?_ ?_
  · exact ⟨d, [], _, _, rfl, h, [], rfl, rfl, fun q hq => by cases hq⟩
  · rintro i r hi ⟨d, x, y, z, rfl, h, Pg, rfl, hl, hP⟩
    walk_at "mps"
    refine cp_rng (fun j acc r => ∃ d, r = [.ow d, .fz (.int k), .fz (.int (N : Nat)), .fz (.lst (ws.map .str)), .ow (.lst (pl Pg)), .fz (.int i), z, .un] ∧ PotOk (m + 2 + 12 * i + j) d ∧ ∃ ns : List Int, acc = ns.map .int ∧ ns.length ≤ j ∧ ∀ x ∈ ns, 0 ≤ x ∧ x < N) ?_ ?_ ?_
    · exact ⟨d, rfl, h, [], rfl, Nat.le_refl _, fun x hx => by cases hx⟩
    · rintro j acc r hj ⟨d, rfl, h, ns, rfl, hn1, hn2⟩
      walk_at "mq"
      refine cq_ok (c_below L.toPotL h (by omega) (by omega) (by omega)) ?_
      rintro _ _ ⟨z, d, rfl, rfl, z1, z2, h⟩
      refine ⟨rfl, ?_⟩
      walk_at "mq"
      refine ifW_of (fun q => ?_) fun q => ?_
      · walk_at "mq"
        refine ⟨d, rfl, h, ns ++ [(j : Int)], by simp, by simp; omega, fun x hx => ?_⟩
        rcases List.mem_append.mp hx with hx | hx
        · exact hn2 x hx
        · rcases List.mem_singleton.mp hx with rfl; omega
      · walk_at "mq"
        exact ⟨d, rfl, h, ns, rfl, by omega, hn2⟩
    · rintro acc r ⟨d, rfl, h, ns, rfl, hn1, hn2⟩
      walk_at "mps"
      refine s1_cut (fun r => ∃ (d : D) (ns : List Int), r = [.ow d, .fz (.int k), .fz (.int (N : Nat)), .fz (.lst (ws.map .str)), .ow (.lst (pl Pg)), .fz (.int i), .ow (.lst (ns.map .int)), .un] ∧ PotOk (m + 2 + 12 * i + N + 2) d ∧ ns.length ≤ 9 ∧ ∀ x ∈ ns, 0 ≤ x ∧ x < N) ?_ ?_
      · walk_at "mq"
        refine cq_ok (c_below L.toPotL h (by omega) (by omega) (by omega)) ?_
        rintro _ _ ⟨z, d, rfl, rfl, z1, z2, h⟩
        refine ⟨rfl, ?_⟩
        walk_at "mq"
        refine ifW_dec (fun q => ?_) fun q => ?_
        · walk_at "mq"
          refine cq_ok (c_pick L.toPotL h (by omega) (by simp) (by simp)) ?_
          rintro _ _ ⟨u, d, rfl, rfl, hu, h⟩
          refine ⟨rfl, ?_⟩
          have hu : ∃ a : Int, u = .int a ∧ 0 ≤ a ∧ a < N := by
            simp only [List.mem_cons, List.not_mem_nil, or_false] at hu
            rcases hu with rfl | rfl | rfl | rfl
            · refine ⟨_, rfl, ?_⟩
              split <;> omega
            · exact ⟨_, rfl, by omega⟩
            · exact ⟨_, rfl, by omega⟩
            · exact ⟨_, rfl, by omega⟩
          obtain ⟨a, rfl, ha⟩ := hu
          walk_at "mq"
          refine ⟨d, ns ++ [a], by simp, h.mono (by omega), by simp; omega, fun x hx => ?_⟩
          rcases List.mem_append.mp hx with hx | hx
          · exact hn2 x hx
          · rcases List.mem_singleton.mp hx with rfl; exact ha
        · walk_at "mq"
          exact ⟨d, ns, rfl, h.mono (by omega), by omega, hn2⟩
      · rintro r ⟨d, ns, rfl, h, hn1, hn2⟩
        walk_at "mq"
        refine cq_ok (c_pick L.toPotL h (by omega) (by simp; omega) (by simp; omega)) ?_
        rintro _ _ ⟨w, d, rfl, rfl, hw, h⟩
        obtain ⟨w, hww, rfl⟩ := List.mem_map.mp hw
        refine ⟨rfl, ?_⟩
        have hs : (sdist ns).length ≤ N := sdist_len hn2
        have hs2 : (sdist ns).length < 64 := by omega
        have hs3 : ns.length ≤ 4000 := by omega
        have hpl := pl_len (P := Pg)
        walk_at "mq"
        refine ⟨d, _, _, _, rfl, h.mono (by omega), Pg ++ [(w, sdist ns)], by simp [pl], by simp [hl], fun q hq => ?_⟩
        rcases List.mem_append.mp hq with hq | hq
        · exact hP q hq
        · rcases List.mem_singleton.mp hq with rfl
          exact ⟨hwc2 w hww, Mw.sdist_lt ns, fun a ha => hn2 a (mem_sdist.mp ha)⟩
  · rintro r ⟨d, x, y, z, rfl, h, Pg, rfl, hl, hP⟩
    walk_at "mq"
    refine ⟨Pg, d, rfl, rfl, ⟨by omega, by omega, fun q hq => ?_, fun q hq => (hP q hq).2.1, fun q hq a ha => ?_⟩, by omega, fun q hq => (hP q hq).1, h.mono (by omega)⟩
    · exact List.all_eq_true.mp words_nam q.1 (hP q hq).1
    · rw [hl]
      exact (hP q hq).2.2 a ha
theorem words_sm : words.all (fun z => (z.cps.toList.all fun c => decide (c < 16 ^ 8)) && decide (z.cps.size ≤ 8)) = true := by decide +kernel
theorem sm_word {z : Str} (h : z ∈ words) : Sm 8 0 (.str z) := by
  have := Bool.and_eq_true_iff.mp (List.all_eq_true.mp words_sm z h)
  exact sm_str this.1 (of_decide_eq_true this.2)
theorem sm_ints {ns : List Int} {L : Nat} (h : ∀ x ∈ ns, -100 ≤ x ∧ x ≤ 100) (l : ns.length ≤ L) : Sm (41 * L) 1 (.tup (ns.map .int)) :=
  sm_tup (w := 40) (k := 0) (L := L) (fun d hd => by obtain ⟨i, hi, rfl⟩ := List.mem_map.mp hd; have := h i hi; exact sm_int (by omega) (by omega)) (by rw [List.length_map]; exact l)
theorem sm_pl {Pg : Prog} (w : Wf Pg) (h : ∀ q ∈ Pg, q.1 ∈ words) : ∀ d ∈ pl Pg, Sm 658 2 d := fun d hd => by
  obtain ⟨q, hq, rfl⟩ := List.mem_map.mp hd
  have hi := w.hi
  refine sm_tup (w := 328) (k := 1) (L := 2) (fun d hd => ?_) (by simp)
  simp only [List.mem_cons, List.not_mem_nil, or_false] at hd
  rcases hd with rfl | rfl
  · exact (sm_word (h q hq)).mono (by decide) (by decide)
  · exact sm_ints (L := 8) (fun x hx => by have := w.bd q hq x hx; omega) (w.ln hq)
theorem sm_pd {Pg : Prog} (w : Wf Pg) (h : ∀ q ∈ Pg, q.1 ∈ words) : Sm 5272 3 (pd Pg) :=
  sm_tup (w := 658) (k := 2) (L := 8) (sm_pl w h) (by rw [pl_len]; exact w.hi)
theorem Wtf.ml {W : Wt} (w : Wtf W) : W.ms.length ≤ 8 := by
  have := lt_length 0 8 w.up fun x hx => w.bd x hx
  omega
theorem sm_wl {W : Wt} (w : Wtf W) : ∀ d ∈ wl W, Sm 328 1 d := fun d hd => by
  have a1 := w.g0
  have a2 := w.g1
  have a3 := w.l0
  have a4 := w.lh
  have a5 := w.h1
  simp only [List.mem_cons, List.not_mem_nil, or_false] at hd
  rcases hd with rfl | rfl | rfl | rfl | rfl
  · exact (sm_int (by omega) (by omega)).mono (by decide) (by decide)
  · cases h : W.b with
    | none => exact sm_non.mono (by decide) (by decide)
    | some b =>
      have := w.b0 b h
      exact (sm_int (i := b) (by omega) (by omega)).mono (by decide) (by decide)
  · exact (sm_int (by omega) (by omega)).mono (by decide) (by decide)
  · exact (sm_int (by omega) (by omega)).mono (by decide) (by decide)
  · exact sm_ints (L := 8) (fun x hx => by have := w.bd x hx; omega) (Wtf.ml w)
theorem sm_wd {W : Wt} (w : Wtf W) : Sm 1645 2 (wd W) :=
  sm_tup (w := 328) (k := 1) (L := 5) (sm_wl w) (by simp)
end
end Dr

set_option Elab.async false
set_option linter.all false
set_option maxRecDepth 100000
set_option maxHeartbeats 4000000
namespace Lk07
open PySem PySem.Spec PyProof.Rows L2 Mp
def topS (i : Nat) : Stmt := PySem.Challenge.pw_skidblame_k07_sources_refused.main.body.getD i (.Pass ⟨0, 0, 0, 0⟩)
def fnL : List Str := [("is_integer" : Str), ("is_count" : Str), ("is_name" : Str), ("is_rising" : Str), ("is_place" : Str), ("is_program" : Str), ("is_steps" : Str), ("is_watcher" : Str), ("is_end" : Str), ("after_one" : Str), ("after_many" : Str), ("told_from" : Str), ("taken_from" : Str), ("all_moves" : Str), ("is_numbers" : Str), ("_law_kneaded" : Str), ("_law_pot_of" : Str), ("_law_below" : Str), ("_law_pick" : Str), ("_law_some_program" : Str), ("_law_some_watcher" : Str), ("_law_word" : Str), ("law" : Str)]
def fns (x : Str) : Bool := decide (x ∈ fnL)
def bnL : List Str := [("abs" : Str), ("all" : Str), ("bool" : Str), ("enumerate" : Str), ("int" : Str), ("isinstance" : Str), ("len" : Str), ("list" : Str), ("range" : Str), ("repr" : Str), ("set" : Str), ("sorted" : Str), ("str" : Str), ("tuple" : Str), ("zip" : Str)]
def exL : List Str := [("NoProgram" : Str), ("NoWatcher" : Str)]
def owL : List Str := [("Source" : Str)]
def clsS (i j : Nat) : Stmt := match topS i with | .ClassDef _ _ _ body _ _ _ _ _ _ _ => body.getD j (.Pass ⟨0, 0, 0, 0⟩) | _ => .Pass ⟨0, 0, 0, 0⟩
def gdN (N : List Str) : Gd := ⟨N, fns, bnL, fun x => decide (x ∈ exL), true, fun x => decide (x ∈ owL)⟩
abbrev sis_integer : Stmt := topS 8
abbrev nis_integer : List Str := ["thing"]
def bis_integer : List MS := [.ret (.and_ (.bi (.isi "int") [.var 0]) (.not_ (.bi (.isi "bool") [.var 0])))]
def fis_integer : Fn := ⟨[false], 1, bis_integer⟩
theorem cis_integer : chkSs (gdN nis_integer) (defScope sis_integer) fuel bis_integer (defBody sis_integer) = true := by decide +kernel
theorem ois_integer : FnScope nis_integer (nis_integer.take 1) (defScope sis_integer) := ⟨rfl, rfl, rfl, by decide +kernel, rfl, by decide +kernel, by decide +kernel⟩
abbrev sis_count : Stmt := topS 9
abbrev nis_count : List Str := ["thing"]
def bis_count : List MS := [.ret (.and_ (.call "is_integer" [.var 0]) (.bi .ge [.var 0, .cst (.int 0)]))]
def fis_count : Fn := ⟨[false], 1, bis_count⟩
theorem cis_count : chkSs (gdN nis_count) (defScope sis_count) fuel bis_count (defBody sis_count) = true := by decide +kernel
theorem ois_count : FnScope nis_count (nis_count.take 1) (defScope sis_count) := ⟨rfl, rfl, rfl, by decide +kernel, rfl, by decide +kernel, by decide +kernel⟩
abbrev sis_name : Stmt := topS 10
abbrev nis_name : List Str := ["thing", "sign"]
def bis_name : List MS := [.iff (.or_ (.not_ (.bi (.isi "str") [.var 0])) (.or_ (.not_ (.chain .le .le (.cst (.int 1)) (.bi .len [.var 0]) (.glo "MAX_NAME"))) (.bi .notin [.bi .item [.var 0, .cst (.int 0)], .glo "LETTERS"]))) [.ret (.cst (.bl false))] [],
  .ret (.bi .all [.comp (.nm 1) (.or_ (.bi .in_ [.var 1, .glo "LETTERS"]) (.bi .in_ [.var 1, .glo "FIGURES"])) 0 [.var 0] []])]
def fis_name : Fn := ⟨[false], 2, bis_name⟩
theorem cis_name : chkSs (gdN nis_name) (defScope sis_name) fuel bis_name (defBody sis_name) = true := by decide +kernel
theorem ois_name : FnScope nis_name (nis_name.take 1) (defScope sis_name) := ⟨rfl, rfl, rfl, by decide +kernel, rfl, by decide +kernel, by decide +kernel⟩
abbrev sis_rising : Stmt := topS 11
abbrev nis_rising : List Str := ["thing", "one", "other"]
def bis_rising : List MS := [.iff (.or_ (.not_ (.bi (.isi "tuple") [.var 0])) (.not_ (.bi .all [.comp (.nm 1) (.call "is_count" [.var 1]) 0 [.var 0] []]))) [.ret (.cst (.bl false))] [],
  .ret (.bi .all [.comp (.tp [1, 2]) (.bi .lt [.var 1, .var 2]) 4 [.slc (.var 0) none (some (.bi .neg [.cst (.int 1)])), .slc (.var 0) (some (.cst (.int 1))) none] []])]
def fis_rising : Fn := ⟨[false], 3, bis_rising⟩
theorem cis_rising : chkSs (gdN nis_rising) (defScope sis_rising) fuel bis_rising (defBody sis_rising) = true := by decide +kernel
theorem ois_rising : FnScope nis_rising (nis_rising.take 1) (defScope sis_rising) := ⟨rfl, rfl, rfl, by decide +kernel, rfl, by decide +kernel, by decide +kernel⟩
abbrev sis_place : Stmt := topS 15
abbrev nis_place : List Str := ["thing", "many", "one"]
def bis_place : List MS := [.iff (.or_ (.not_ (.bi (.isi "tuple") [.var 0])) (.or_ (.bi .ne [.bi .len [.var 0], .cst (.int 2)]) (.or_ (.not_ (.call "is_name" [.bi .item [.var 0, .cst (.int 0)]])) (.not_ (.call "is_rising" [.bi .item [.var 0, .cst (.int 1)]]))))) [.ret (.cst (.bl false))] [],
  .ret (.bi .all [.comp (.nm 2) (.bi .lt [.var 2, .var 1]) 0 [.bi .item [.var 0, .cst (.int 1)]] []])]
def fis_place : Fn := ⟨[false, false], 3, bis_place⟩
theorem cis_place : chkSs (gdN nis_place) (defScope sis_place) fuel bis_place (defBody sis_place) = true := by decide +kernel
theorem ois_place : FnScope nis_place (nis_place.take 2) (defScope sis_place) := ⟨rfl, rfl, rfl, by decide +kernel, rfl, by decide +kernel, by decide +kernel⟩
abbrev sis_program : Stmt := topS 16
abbrev nis_program : List Str := ["thing", "one"]
def bis_program : List MS := [.iff (.or_ (.not_ (.bi (.isi "tuple") [.var 0])) (.not_ (.chain .le .le (.cst (.int 1)) (.bi .len [.var 0]) (.glo "MAX_PLACES")))) [.ret (.cst (.bl false))] [],
  .ret (.bi .all [.comp (.nm 1) (.call "is_place" [.var 1, .bi .len [.var 0]]) 0 [.var 0] []])]
def fis_program : Fn := ⟨[false], 2, bis_program⟩
theorem cis_program : chkSs (gdN nis_program) (defScope sis_program) fuel bis_program (defBody sis_program) = true := by decide +kernel
theorem ois_program : FnScope nis_program (nis_program.take 1) (defScope sis_program) := ⟨rfl, rfl, rfl, by decide +kernel, rfl, by decide +kernel, by decide +kernel⟩
abbrev sis_steps : Stmt := topS 17
abbrev nis_steps : List Str := ["thing", "least"]
def bis_steps : List MS := [.ret (.and_ (.call "is_integer" [.var 0]) (.chain .le .le (.var 1) (.var 0) (.glo "MAX_STEPS")))]
def fis_steps : Fn := ⟨[false, false], 2, bis_steps⟩
theorem cis_steps : chkSs (gdN nis_steps) (defScope sis_steps) fuel bis_steps (defBody sis_steps) = true := by decide +kernel
theorem ois_steps : FnScope nis_steps (nis_steps.take 2) (defScope sis_steps) := ⟨rfl, rfl, rfl, by decide +kernel, rfl, by decide +kernel, by decide +kernel⟩
abbrev sis_watcher : Stmt := topS 18
abbrev nis_watcher : List Str := ["thing", "one"]
def bis_watcher : List MS := [.iff (.or_ (.not_ (.bi (.isi "tuple") [.var 0])) (.or_ (.bi .ne [.bi .len [.var 0], .cst (.int 5)]) (.or_ (.not_ (.call "is_steps" [.bi .item [.var 0, .cst (.int 0)], .cst (.int 1)])) (.not_ (.call "is_steps" [.bi .item [.var 0, .cst (.int 2)], .cst (.int 0)]))))) [.ret (.cst (.bl false))] [],
  .iff (.and_ (.bi .notN [.bi .item [.var 0, .cst (.int 1)]]) (.not_ (.call "is_steps" [.bi .item [.var 0, .cst (.int 1)], .bi .item [.var 0, .cst (.int 0)]]))) [.ret (.cst (.bl false))] [],
  .iff (.or_ (.not_ (.call "is_steps" [.bi .item [.var 0, .cst (.int 3)], .bi .item [.var 0, .cst (.int 2)]])) (.not_ (.call "is_rising" [.bi .item [.var 0, .cst (.int 4)]]))) [.ret (.cst (.bl false))] [],
  .ret (.bi .all [.comp (.nm 1) (.bi .lt [.var 1, .glo "MAX_PLACES"]) 0 [.bi .item [.var 0, .cst (.int 4)]] []])]
def fis_watcher : Fn := ⟨[false], 2, bis_watcher⟩
theorem cis_watcher : chkSs (gdN nis_watcher) (defScope sis_watcher) fuel bis_watcher (defBody sis_watcher) = true := by decide +kernel
theorem ois_watcher : FnScope nis_watcher (nis_watcher.take 1) (defScope sis_watcher) := ⟨rfl, rfl, rfl, by decide +kernel, rfl, by decide +kernel, by decide +kernel⟩
abbrev sis_end : Stmt := topS 19
abbrev nis_end : List Str := ["program", "place"]
def bis_end : List MS := [.ret (.bi .eq [.bi .item [.bi .item [.var 0, .var 1], .cst (.int 1)], .tup []])]
def fis_end : Fn := ⟨[false, false], 2, bis_end⟩
theorem cis_end : chkSs (gdN nis_end) (defScope sis_end) fuel bis_end (defBody sis_end) = true := by decide +kernel
theorem ois_end : FnScope nis_end (nis_end.take 2) (defScope sis_end) := ⟨rfl, rfl, rfl, by decide +kernel, rfl, by decide +kernel, by decide +kernel⟩
abbrev safter_one : Stmt := topS 22
abbrev nafter_one : List Str := ["program", "places", "one", "other"]
def bafter_one : List MS := [.ret (.bi .tuple [.bi (.cmp 0) [.compn [((.nm 2), 0, [.var 1], []), ((.nm 3), 0, [.bi .item [.bi .item [.var 0, .var 2], .cst (.int 1)]], [])] (.var 3)]])]
def fafter_one : Fn := ⟨[false, false], 4, bafter_one⟩
theorem cafter_one : chkSs (gdN nafter_one) (defScope safter_one) fuel bafter_one (defBody safter_one) = true := by decide +kernel
theorem oafter_one : FnScope nafter_one (nafter_one.take 2) (defScope safter_one) := ⟨rfl, rfl, rfl, by decide +kernel, rfl, by decide +kernel, by decide +kernel⟩
abbrev safter_many : Stmt := topS 23
abbrev nafter_many : List Str := ["program", "places", "steps", "more", "lap", "found"]
def bafter_many : List MS := [.forr (.nm 4) 1 [.var 2] [.set 1 (.call "after_one" [.var 0, .var 1])],
  .set 5 (.var 1),
  .forr (.nm 4) 1 [.var 3] [.set 1 (.call "after_one" [.var 0, .var 1]),
  .set 5 (.bi .add [.var 5, .var 1])],
  .ret (.bi .tuple [.bi (.cmp 0) [.var 5]])]
def fafter_many : Fn := ⟨[false, false, false, false], 6, bafter_many⟩
theorem cafter_many : chkSs (gdN nafter_many) (defScope safter_many) fuel bafter_many (defBody safter_many) = true := by decide +kernel
theorem oafter_many : FnScope nafter_many (nafter_many.take 4) (defScope safter_many) := ⟨rfl, rfl, rfl, by decide +kernel, rfl, by decide +kernel, by decide +kernel⟩
abbrev stold_from : Stmt := topS 24
abbrev ntold_from : List Str := ["program", "watcher", "place", "gap", "wide", "low", "high", "marks", "found", "here", "steps", "stops", "one"]
def btold_from : List MS := [.sett [3, 4, 5, 6, 7] (.var 1),
  .set 8 (.tup []),
  .set 9 (.tup [.var 2]),
  .forr (.nm 10) 1 [.bi .add [.var 6, .cst (.int 1)]] [.set 11 (.comp (.nm 12) (.var 12) 0 [.var 9] [.or_ (.bi .in_ [.var 12, .var 7]) (.call "is_end" [.var 0, .var 12])]),
  .set 8 (.bi .add [.var 8, .ife (.bi .ge [.var 10, .var 5]) (.var 9) (.bi .tuple [.var 11])]),
  .set 9 (.call "after_one" [.var 0, .comp (.nm 12) (.var 12) 0 [.var 9] [.bi .notin [.var 12, .var 7]]])],
  .ret (.bi .tuple [.bi (.cmp 0) [.var 8]])]
def ftold_from : Fn := ⟨[false, false, false], 13, btold_from⟩
theorem ctold_from : chkSs (gdN ntold_from) (defScope stold_from) fuel btold_from (defBody stold_from) = true := by decide +kernel
theorem otold_from : FnScope ntold_from (ntold_from.take 3) (defScope stold_from) := ⟨rfl, rfl, rfl, by decide +kernel, rfl, by decide +kernel, by decide +kernel⟩
abbrev staken_from : Stmt := topS 25
abbrev ntaken_from : List Str := ["program", "watcher", "place", "gap", "wide"]
def btaken_from : List MS := [.sett [3, 4] (.slc (.var 1) none (some (.cst (.int 2)))),
  .iff (.bi .eq [.var 2, .glo "BEGIN"]) [.ret (.call "after_many" [.var 0, .tup [.cst (.int 0)], .cst (.int 0), .bi .len [.var 0]])] [],
  .ret (.call "after_many" [.var 0, .tup [.var 2], .var 3, .ife (.bi .isN [.var 4]) (.bi .len [.var 0]) (.bi .sub [.var 4, .var 3])])]
def ftaken_from : Fn := ⟨[false, false, false], 5, btaken_from⟩
theorem ctaken_from : chkSs (gdN ntaken_from) (defScope staken_from) fuel btaken_from (defBody staken_from) = true := by decide +kernel
theorem otaken_from : FnScope ntaken_from (ntaken_from.take 3) (defScope staken_from) := ⟨rfl, rfl, rfl, by decide +kernel, rfl, by decide +kernel, by decide +kernel⟩
abbrev sall_moves : Stmt := topS 26
abbrev nall_moves : List Str := ["program", "watcher", "told", "place", "one", "other"]
def ball_moves : List MS := [.set 2 (.comp (.nm 3) (.call "told_from" [.var 0, .var 1, .var 3]) 1 [.bi .len [.var 0]] []),
  .ret (.compn [((.nm 3), 2, [.glo "BEGIN", .bi .len [.var 0]], []), ((.nm 4), 0, [.call "taken_from" [.var 0, .var 1, .var 3]], []), ((.nm 5), 0, [.bi .item [.var 2, .var 4]], [])] (.tup [.var 3, .var 4, .var 5]))]
def fall_moves : Fn := ⟨[false, false], 6, ball_moves⟩
theorem call_moves : chkSs (gdN nall_moves) (defScope sall_moves) fuel ball_moves (defBody sall_moves) = true := by decide +kernel
theorem oall_moves : FnScope nall_moves (nall_moves.take 2) (defScope sall_moves) := ⟨rfl, rfl, rfl, by decide +kernel, rfl, by decide +kernel, by decide +kernel⟩
abbrev sis_numbers : Stmt := topS 28
abbrev nis_numbers : List Str := ["thing", "one"]
def bis_numbers : List MS := [.ret (.and_ (.bi (.isi "tuple") [.var 0]) (.and_ (.bi .eq [.bi .len [.var 0], .cst (.int 3)]) (.bi .all [.comp (.nm 1) (.call "is_integer" [.var 1]) 0 [.var 0] []])))]
def fis_numbers : Fn := ⟨[false], 2, bis_numbers⟩
theorem cis_numbers : chkSs (gdN nis_numbers) (defScope sis_numbers) fuel bis_numbers (defBody sis_numbers) = true := by decide +kernel
theorem ois_numbers : FnScope nis_numbers (nis_numbers.take 1) (defScope sis_numbers) := ⟨rfl, rfl, rfl, by decide +kernel, rfl, by decide +kernel, by decide +kernel⟩
abbrev s_law_kneaded : Stmt := topS 30
abbrev n_law_kneaded : List Str := ["seed", "lap", "prime", "amount", "again"]
def b_law_kneaded : List MS := [.set 2 (.cst (.int 2305843009213693907)),
  .set 3 (.bi .mod [.bi .int [.bi .add [.bi .add [.bi .mul [.var 0, .cst (.int 2862933555777941757)], .bi .mul [.var 1, .cst (.int 3037000493)]], .cst (.int 29)]], .var 2]),
  .forr (.nm 4) 1 [.cst (.int 4)] [.set 3 (.bi .mod [.bi .int [.bi .add [.bi .add [.bi .add [.bi .mul [.var 3, .var 3], .bi .mul [.cst (.int 11), .var 3]], .bi .mul [.cst (.int 4099), .var 4]], .var 1]], .var 2])],
  .ret (.bi .add [.bi .mul [.var 3, .var 2], .bi .mod [.bi .int [.bi .add [.bi .mul [.var 3, .cst (.int 69621)], .var 1]], .var 2]])]
def f_law_kneaded : Fn := ⟨[false, false], 5, b_law_kneaded⟩
theorem c_law_kneaded : chkSs (gdN n_law_kneaded) (defScope s_law_kneaded) fuel b_law_kneaded (defBody s_law_kneaded) = true := by decide +kernel
theorem o_law_kneaded : FnScope n_law_kneaded (n_law_kneaded.take 2) (defScope s_law_kneaded) := ⟨rfl, rfl, rfl, by decide +kernel, rfl, by decide +kernel, by decide +kernel⟩
abbrev s_law_pot_of : Stmt := topS 31
abbrev n_law_pot_of : List Str := ["script", "cells", "cell", "place"]
def b_law_pot_of : List MS := [.set 1 (.comp (.nm 2) (.bi .abs [.var 2]) 0 [.slc (.var 0) none (some (.cst (.int 17)))] []),
  .forr (.tp [3, 2]) 3 [.slc (.var 0) (some (.cst (.int 17))) (some (.cst (.int 60)))] [.seti 1 (.bi .mod [.var 3, .cst (.int 17)]) (.bi .add [.bi .item [.var 1, .bi .mod [.var 3, .cst (.int 17)]], .bi .abs [.var 2]])],
  .ret (.lst [.var 1, .cst (.int 0), .cst (.int 0), .cst (.int 0)])]
def f_law_pot_of : Fn := ⟨[false], 4, b_law_pot_of⟩
theorem c_law_pot_of : chkSs (gdN n_law_pot_of) (defScope s_law_pot_of) fuel b_law_pot_of (defBody s_law_pot_of) = true := by decide +kernel
theorem o_law_pot_of : FnScope n_law_pot_of (n_law_pot_of.take 1) (defScope s_law_pot_of) := ⟨rfl, rfl, rfl, by decide +kernel, rfl, by decide +kernel, by decide +kernel⟩
abbrev s_law_below : Stmt := topS 32
abbrev n_law_below : List Str := ["pot", "bound", "cells", "place", "amount", "found"]
def b_law_below : List MS := [.iff (.bi .lt [.bi .item [.var 0, .cst (.int 3)], .var 1]) [.par 2 3 (.bi .item [.var 0, .cst (.int 0)]) (.bi .item [.var 0, .cst (.int 1)]),
  .set 4 (.ife (.bi .ne [.var 2, .lst []]) (.bi .item [.var 2, .bi .mod [.var 3, .bi .len [.var 2]]]) (.cst (.int 0))),
  .iff (.or_ (.bi .ge [.var 3, .bi .len [.var 2]]) (.bi .lt [.var 4, .bi .pow [.cst (.int 10), .cst (.int 16)]])) [.set 4 (.call "_law_kneaded" [.bi .mod [.bi .int [.var 4], .cst (.int 982451629)], .var 3])] [],
  .seti 0 (.cst (.int 1)) (.bi .add [.var 3, .cst (.int 1)]),
  .seti 0 (.cst (.int 2)) (.var 4),
  .seti 0 (.cst (.int 3)) (.var 4)] [],
  .set 5 (.bi .mod [.bi .int [.bi .item [.var 0, .cst (.int 2)]], .var 1]),
  .seti 0 (.cst (.int 2)) (.bi .fdiv [.bi .item [.var 0, .cst (.int 2)], .var 1]),
  .seti 0 (.cst (.int 3)) (.bi .fdiv [.bi .item [.var 0, .cst (.int 3)], .var 1]),
  .ret (.var 5)]
def f_law_below : Fn := ⟨[true, false], 6, b_law_below⟩
theorem c_law_below : chkSs (gdN n_law_below) (defScope s_law_below) fuel b_law_below (defBody s_law_below) = true := by decide +kernel
theorem o_law_below : FnScope n_law_below (n_law_below.take 2) (defScope s_law_below) := ⟨rfl, rfl, rfl, by decide +kernel, rfl, by decide +kernel, by decide +kernel⟩
abbrev s_law_pick : Stmt := topS 33
abbrev n_law_pick : List Str := ["pot", "items"]
def b_law_pick : List MS := [.ret (.bi .item [.var 1, .call "_law_below" [.var 0, .bi .len [.var 1]]])]
def f_law_pick : Fn := ⟨[true, false], 2, b_law_pick⟩
theorem c_law_pick : chkSs (gdN n_law_pick) (defScope s_law_pick) fuel b_law_pick (defBody s_law_pick) = true := by decide +kernel
theorem o_law_pick : FnScope n_law_pick (n_law_pick.take 2) (defScope s_law_pick) := ⟨rfl, rfl, rfl, by decide +kernel, rfl, by decide +kernel, by decide +kernel⟩
abbrev s_law_some_program : Stmt := topS 34
abbrev n_law_some_program : List Str := ["pot", "most", "many", "words", "found", "place", "nexts", "one"]
def b_law_some_program : List MS := [.set 2 (.bi .add [.cst (.int 1), .call "_law_below" [.var 0, .var 1]]),
  .set 3 (.bi .item [.lst [.lst [.cst (.str "a")], .lst [.cst (.str "a"), .cst (.str "b")], .lst [.cst (.str "a"), .cst (.str "b"), .cst (.str "c1")], .lst [.cst (.str "x"), .cst (.str "a"), .cst (.str "longname"), .cst (.str "b2"), .cst (.str "q"), .cst (.str "z9")]], .call "_law_below" [.var 0, .cst (.int 4)]]),
  .set 4 (.lst []),
  .forr (.nm 5) 1 [.var 2] [.set 6 (.comp (.nm 7) (.var 7) 1 [.var 2] [.bi .eq [.call "_law_below" [.var 0, .cst (.int 4)], .cst (.int 0)]]),
  .iff (.bi .gt [.call "_law_below" [.var 0, .cst (.int 5)], .cst (.int 0)]) [.app 6 (.call "_law_pick" [.var 0, .lst [.bi .mul [.bi .add [.var 5, .cst (.int 1)], .bi .int [.bi .lt [.bi .add [.var 5, .cst (.int 1)], .var 2]]], .var 5, .cst (.int 0), .bi .sub [.var 2, .cst (.int 1)]]])] [],
  .app 4 (.tup [.call "_law_pick" [.var 0, .var 3], .bi .tuple [.bi (.cmp 0) [.var 6]]])],
  .ret (.bi .tuple [.var 4])]
def f_law_some_program : Fn := ⟨[true, false], 8, b_law_some_program⟩
theorem c_law_some_program : chkSs (gdN n_law_some_program) (defScope s_law_some_program) fuel b_law_some_program (defBody s_law_some_program) = true := by decide +kernel
theorem o_law_some_program : FnScope n_law_some_program (n_law_some_program.take 2) (defScope s_law_some_program) := ⟨rfl, rfl, rfl, by decide +kernel, rfl, by decide +kernel, by decide +kernel⟩
abbrev s_law_some_watcher : Stmt := topS 35
abbrev n_law_some_watcher : List Str := ["pot", "many", "gap", "low", "wide", "marks", "one"]
def b_law_some_watcher : List MS := [.par 2 3 (.bi .add [.cst (.int 1), .call "_law_below" [.var 0, .cst (.int 3)]]) (.call "_law_below" [.var 0, .cst (.int 3)]),
  .set 4 (.call "_law_pick" [.var 0, .lst [.cst .non, .var 2, .bi .add [.var 2, .call "_law_below" [.var 0, .cst (.int 4)]]]]),
  .set 5 (.bi .tuple [.comp (.nm 6) (.var 6) 1 [.var 1] [.bi .eq [.call "_law_below" [.var 0, .cst (.int 6)], .cst (.int 0)]]]),
  .ret (.tup [.var 2, .var 4, .var 3, .bi .add [.var 3, .call "_law_below" [.var 0, .cst (.int 4)]], .var 5])]
def f_law_some_watcher : Fn := ⟨[true, false], 7, b_law_some_watcher⟩
theorem c_law_some_watcher : chkSs (gdN n_law_some_watcher) (defScope s_law_some_watcher) fuel b_law_some_watcher (defBody s_law_some_watcher) = true := by decide +kernel
theorem o_law_some_watcher : FnScope n_law_some_watcher (n_law_some_watcher.take 2) (defScope s_law_some_watcher) := ⟨rfl, rfl, rfl, by decide +kernel, rfl, by decide +kernel, by decide +kernel⟩
abbrev s_law_word : Stmt := topS 36
abbrev n_law_word : List Str := ["program", "watcher", "caught", "before", "error"]
def b_law_word : List MS := [.par 2 3 (.cst .non) (.bi .repr [.tup [.var 0, .var 1]]),
  .tryx [.tryx [.expr (.new "Source" [.var 0, .var 1])] "NoProgram" (some 4) [.set 2 (.cst (.str "program"))]] "NoWatcher" (some 4) [.set 2 (.cst (.str "watcher"))],
  .ret (.ife (.bi .eq [.bi .repr [.tup [.var 0, .var 1]], .var 3]) (.var 2) (.cst (.str "changed")))]
def f_law_word : Fn := ⟨[false, false], 5, b_law_word⟩
theorem c_law_word : chkSs (gdN n_law_word) (defScope s_law_word) fuel b_law_word (defBody s_law_word) = true := by decide +kernel
theorem o_law_word : FnScope n_law_word (n_law_word.take 2) (defScope s_law_word) := ⟨rfl, rfl, rfl, by decide +kernel, rfl, by decide +kernel, by decide +kernel⟩
abbrev slaw : Stmt := topS 37
abbrev nlaw : List Str := ["script", "pot", "turn", "program", "watcher", "at", "none", "bad", "spot", "wrong", "beyond", "one", "two", "far", "last"]
def blaw : List MS := [.set 1 (.call "_law_pot_of" [.var 0]),
  .forr (.nm 2) 1 [.cst (.int 8)] [.set 3 (.call "_law_some_program" [.var 1, .cst (.int 8)]),
  .set 4 (.call "_law_some_watcher" [.var 1, .bi .len [.var 3]]),
  .set 5 (.call "_law_below" [.var 1, .bi .len [.var 3]]),
  .set 6 (.call "_law_pick" [.var 1, .lst [.cst .non, .tup [.cst (.str "a")], .tup [.cst (.str "A"), .tup []], .tup [.cst (.str "a"), .tup [.bi .len [.var 3]]], .tup [.cst (.str "a"), .lst [.cst (.int 0)]]]]),
  .set 7 (.bi .add [.bi .add [.slc (.var 3) none (some (.var 5)), .tup [.var 6]], .slc (.var 3) (some (.bi .add [.var 5, .cst (.int 1)])) none]),
  .set 8 (.call "_law_below" [.var 1, .cst (.int 5)]),
  .set 9 (.bi .add [.bi .add [.slc (.var 4) none (some (.var 8)), .tup [.call "_law_pick" [.var 1, .lst [.cst (.int 31), .bi .sub [.cst (.int 0), .cst (.int 1)], .cst (.bl true), .cst (.str "x"), .lst [], .tup [.cst (.int 9)]]]]], .slc (.var 4) (some (.bi .add [.var 8, .cst (.int 1)])) none]),
  .set 10 (.bi .add [.slc (.var 4) none (some (.cst (.int 4))), .tup [.tup [.bi .len [.var 3]]]]),
  .forr (.nm 11) 0 [.lst [.cst .non, .tup [], .lst [], .dct0 false, .cst (.str "x"), .cst (.int 0), .var 7, .bi .list [.var 3], .bi .mul [.var 3, .cst (.int 9)]]] [.forr (.nm 12) 0 [.lst [.cst .non, .var 9, .var 10, .var 4]] [.iff (.bi .ne [.call "_law_word" [.var 11, .var 12], .cst (.str "program")]) [.ret (.cst (.bl false))] []]],
  .forr (.nm 12) 0 [.lst [.cst .non, .tup [], .lst [], .dct0 false, .cst (.str "x"), .cst (.int 0), .var 9, .bi .list [.var 4], .slc (.var 4) none (some (.cst (.int 4))), .var 10, .bi .add [.slc (.var 4) none (some (.cst (.int 4))), .tup [.tup [.cst (.int 0), .cst (.int 8)]]]]] [.iff (.bi .ne [.call "_law_word" [.var 3, .var 12], .cst (.str "watcher")]) [.ret (.cst (.bl false))] []],
  .iff (.bi .lt [.bi .len [.var 3], .cst (.int 8)]) [.set 13 (.bi .add [.bi .len [.var 3], .call "_law_below" [.var 1, .bi .sub [.cst (.int 8), .bi .len [.var 3]]]]),
  .iff (.bi .ne [.call "_law_word" [.var 3, .bi .add [.slc (.var 4) none (some (.cst (.int 4))), .tup [.bi .add [.bi .item [.var 4, .cst (.int 4)], .tup [.var 13]]]]], .cst (.str "watcher")]) [.ret (.cst (.bl false))] []] [],
  .set 14 (.bi .add [.slc (.var 4) none (some (.cst (.int 4))), .tup [.tup [.bi .sub [.bi .len [.var 3], .cst (.int 1)]]]]),
  .iff (.or_ (.bi .notN [.call "_law_word" [.var 3, .var 4]]) (.bi .notN [.call "_law_word" [.var 3, .var 14]])) [.ret (.cst (.bl false))] []],
  .ret (.cst (.bl true))]
def flaw : Fn := ⟨[false], 15, blaw⟩
theorem claw : chkSs (gdN nlaw) (defScope slaw) fuel blaw (defBody slaw) = true := by decide +kernel
theorem olaw : FnScope nlaw (nlaw.take 1) (defScope slaw) := ⟨rfl, rfl, rfl, by decide +kernel, rfl, by decide +kernel, by decide +kernel⟩
abbrev sSource___init__ : Stmt := clsS 27 0
abbrev nSource___init__ : List Str := ["self", "program", "watcher", "mark"]
def bSource___init__ : List MS := [.iff (.not_ (.call "is_program" [.var 1])) [.raise "NoProgram"] [],
  .iff (.or_ (.not_ (.call "is_watcher" [.var 2])) (.not_ (.bi .all [.comp (.nm 3) (.bi .lt [.var 3, .bi .len [.var 1]]) 0 [.bi .item [.var 2, .cst (.int 4)]] []]))) [.raise "NoWatcher"] [],
  .setf 0 "program" (.var 1),
  .setf 0 "watcher" (.var 2),
  .setf 0 "all" (.call "all_moves" [.var 1, .var 2])]
def fSource___init__ : Fn := ⟨[true, false, false], 4, bSource___init__⟩
theorem cSource___init__ : chkSs (gdN nSource___init__) (defScope sSource___init__) fuel bSource___init__ (defBody sSource___init__) = true := by decide +kernel
theorem oSource___init__ : FnScope nSource___init__ (nSource___init__.take 3) (defScope sSource___init__) := ⟨rfl, rfl, rfl, by decide +kernel, rfl, by decide +kernel, by decide +kernel⟩
def pmL : List (Str × Fn) := [(("is_integer" : Str), fis_integer), (("is_count" : Str), fis_count), (("is_name" : Str), fis_name), (("is_rising" : Str), fis_rising), (("is_place" : Str), fis_place), (("is_program" : Str), fis_program), (("is_steps" : Str), fis_steps), (("is_watcher" : Str), fis_watcher), (("is_end" : Str), fis_end), (("after_one" : Str), fafter_one), (("after_many" : Str), fafter_many), (("told_from" : Str), ftold_from), (("taken_from" : Str), ftaken_from), (("all_moves" : Str), fall_moves), (("is_numbers" : Str), fis_numbers), (("_law_kneaded" : Str), f_law_kneaded), (("_law_pot_of" : Str), f_law_pot_of), (("_law_below" : Str), f_law_below), (("_law_pick" : Str), f_law_pick), (("_law_some_program" : Str), f_law_some_program), (("_law_some_watcher" : Str), f_law_some_watcher), (("_law_word" : Str), f_law_word), (("law" : Str), flaw), (("Source.__init__" : Str), fSource___init__)]
def Pm (x : Str) : Option Fn := pmL.lookup x
theorem pmis_integer : Pm "is_integer" = some fis_integer := by rfl
theorem pmis_count : Pm "is_count" = some fis_count := by rfl
theorem pmis_name : Pm "is_name" = some fis_name := by rfl
theorem pmis_rising : Pm "is_rising" = some fis_rising := by rfl
theorem pmis_place : Pm "is_place" = some fis_place := by rfl
theorem pmis_program : Pm "is_program" = some fis_program := by rfl
theorem pmis_steps : Pm "is_steps" = some fis_steps := by rfl
theorem pmis_watcher : Pm "is_watcher" = some fis_watcher := by rfl
theorem pmis_end : Pm "is_end" = some fis_end := by rfl
theorem pmafter_one : Pm "after_one" = some fafter_one := by rfl
theorem pmafter_many : Pm "after_many" = some fafter_many := by rfl
theorem pmtold_from : Pm "told_from" = some ftold_from := by rfl
theorem pmtaken_from : Pm "taken_from" = some ftaken_from := by rfl
theorem pmall_moves : Pm "all_moves" = some fall_moves := by rfl
theorem pmis_numbers : Pm "is_numbers" = some fis_numbers := by rfl
theorem pm_law_kneaded : Pm "_law_kneaded" = some f_law_kneaded := by rfl
theorem pm_law_pot_of : Pm "_law_pot_of" = some f_law_pot_of := by rfl
theorem pm_law_below : Pm "_law_below" = some f_law_below := by rfl
theorem pm_law_pick : Pm "_law_pick" = some f_law_pick := by rfl
theorem pm_law_some_program : Pm "_law_some_program" = some f_law_some_program := by rfl
theorem pm_law_some_watcher : Pm "_law_some_watcher" = some f_law_some_watcher := by rfl
theorem pm_law_word : Pm "_law_word" = some f_law_word := by rfl
theorem pmlaw : Pm "law" = some flaw := by rfl
theorem pmSource___init__ : Pm "Source.__init__" = some fSource___init__ := by rfl
def glL : List (Str × D) := [(("BEGIN" : Str), (.int (-1))), (("FIGURES" : Str), (.str ("0123456789" : Str))), (("LETTERS" : Str), (.str ("abcdefghijklmnopqrstuvwxyz" : Str))), (("MAX_NAME" : Str), (.int (8))), (("MAX_PLACES" : Str), (.int (8))), (("MAX_STEPS" : Str), (.int (30)))]
def gl (x : Str) : Option D := glL.lookup x
def isxL : List ((Str × Str) × Bool) := [((("NoProgram" : Str), ("NoProgram" : Str)), true), ((("NoProgram" : Str), ("NoWatcher" : Str)), false), ((("NoWatcher" : Str), ("NoProgram" : Str)), false), ((("NoWatcher" : Str), ("NoWatcher" : Str)), true)]
def isx (c1 c2 : Str) : Option Bool := isxL.lookup (c1, c2)
def mtL : List ((Str × Str) × Str) := [((("Source" : Str), ("__init__" : Str)), ("Source.__init__" : Str))]
def prL : List ((Str × Str) × Str) := []
def flL : List (Str × Str) := [(("Source" : Str), ("program" : Str)), (("Source" : Str), ("watcher" : Str)), (("Source" : Str), ("all" : Str))]
def nwL : List Str := [("Source" : Str)]
def ct : CT := ⟨fun c m => mtL.lookup (c, m), fun c m => prL.lookup (c, m), fun c f => decide ((c, f) ∈ flL), fun c => decide (c ∈ nwL)⟩
theorem ct_Source___init__ : ct.mt "Source" "__init__" = some ("Source.__init__" : Str) := by rfl
theorem ctn_Source : ct.nw "Source" = true := by decide +kernel
theorem y_set_Source_program {d  : D} : setFld ct "program" d (.obj "Source" ([] : List Str) []) = some (.obj "Source" ["program"] [d]) := by
  have h : ct.fld "Source" "program" = true ∧ ([] : List Str).length < 999 := ⟨by decide +kernel, by decide⟩
  show (if ct.fld "Source" "program" = true ∧ ([] : List Str).length < 999 then some (D.obj "Source" (putN "program" ([] : List Str)) (putV "program" d ([] : List Str) [])) else none) = _
  rw [if_pos h]
  first | rfl | kernel_rfl
theorem y_fld_Source_program {d0 d1 d2 : D} : bsem (.fld "program") [.obj "Source" ["program", "watcher", "all"] [d0, d1, d2]] = some (.fz d0) := rfl
theorem y_set_Source_watcher {d d0 : D} : setFld ct "watcher" d (.obj "Source" (["program"] : List Str) [d0]) = some (.obj "Source" ["program", "watcher"] [d0, d]) := by
  have h : ct.fld "Source" "watcher" = true ∧ (["program"] : List Str).length < 999 := ⟨by decide +kernel, by decide⟩
  show (if ct.fld "Source" "watcher" = true ∧ (["program"] : List Str).length < 999 then some (D.obj "Source" (putN "watcher" (["program"] : List Str)) (putV "watcher" d (["program"] : List Str) [d0])) else none) = _
  rw [if_pos h]
  first | rfl | kernel_rfl
theorem y_fld_Source_watcher {d0 d1 d2 : D} : bsem (.fld "watcher") [.obj "Source" ["program", "watcher", "all"] [d0, d1, d2]] = some (.fz d1) := rfl
theorem y_set_Source_all {d d0 d1 : D} : setFld ct "all" d (.obj "Source" (["program", "watcher"] : List Str) [d0, d1]) = some (.obj "Source" ["program", "watcher", "all"] [d0, d1, d]) := by
  have h : ct.fld "Source" "all" = true ∧ (["program", "watcher"] : List Str).length < 999 := ⟨by decide +kernel, by decide⟩
  show (if ct.fld "Source" "all" = true ∧ (["program", "watcher"] : List Str).length < 999 then some (D.obj "Source" (putN "all" (["program", "watcher"] : List Str)) (putV "all" d (["program", "watcher"] : List Str) [d0, d1])) else none) = _
  rw [if_pos h]
  first | rfl | kernel_rfl
theorem y_fld_Source_all {d0 d1 d2 : D} : bsem (.fld "all") [.obj "Source" ["program", "watcher", "all"] [d0, d1, d2]] = some (.fz d2) := rfl
def kwT : List ((Str × List Str) × (List D → List D)) := []
def kw (f : Str) (ks : List Str) : Option (List D → List D) := kwT.lookup (f, ks)
abbrev PyBm : List Value := [Value.type "ValueError", .type "Exception", .type "BaseException", .type "object"]
abbrev PyNew : String := "ValueError.__new__"
def kwL : List Str := []
theorem no_kw {f : Str} {ks : List Str} {fill : List D → List D} (h : decide (f ∈ kwL) = false) (hk : kw f ks = some fill) : False := by
  have h := of_decide_eq_false h
  have hk := mem_lk (show kwT.lookup (_, _) = some fill from hk)
  cases hk
theorem kw_in {f : Str} {ks : List Str} {fill : List D → List D} (hk : kw f ks = some fill) : ∃ g, Pm f = some g := by
  have hk := mem_lk (show kwT.lookup (_, _) = some fill from hk)
  cases hk
/- facts: 154 -/
variable {K : Fg} {mg : Mg}
theorem all_mk {h : Heap} (X : K.In h) (G : h.Ns mainGlobals mg) {A0 A1 A2 A3 A4 A5 A6 A7 A8 A9 A10 A11 A12 A13 A14 A15 A16 A17 A18 A19 A20 A21 A22 A23 C0 C1 D0 : Addr} {od0 od1 od2 od3 od4 od5 od6 od7 od8 od9 od10 od11 od12 od13 od14 od15 od16 od17 od18 od19 od20 od21 od22 od23 an0 an1 an2 an3 an4 an5 an6 an7 an8 an9 an10 an11 an12 an13 an14 an15 an16 an17 an18 an19 an20 an21 an22 an23 : Option Addr} {sl0 sl1 sl2 sl3 sl4 sl5 sl6 sl7 sl8 sl9 sl10 sl11 sl12 sl13 sl14 sl15 sl16 sl17 sl18 sl19 sl20 sl21 sl22 sl23 : Array (Option Value)} {oc0 oc1 oc2 oc3 oc4 oc5 oc6 oc7 oc8 oc9 oc10 oc11 oc12 oc13 oc14 oc15 oc16 oc17 oc18 oc19 oc20 oc21 oc22 oc23 kV0 kV1 kV2 kV3 kV4 kV5 kV6 kV7 kV8 kV9 kV10 kV11 kV12 kV13 kV14 kV15 kV16 kV17 kV18 kV19 kV20 kV21 kV22 kV23 dc0 dc1 dc2 dc3 dc4 dc5 dc6 dc7 dc8 dc9 dc10 dc11 dc12 dc13 dc14 dc15 dc16 dc17 dc18 dc19 dc20 dc21 dc22 dc23 pm0 pm1 pm2 pm3 pm4 pm5 pm6 pm7 pm8 pm9 pm10 pm11 pm12 pm13 pm14 pm15 pm16 pm17 pm18 pm19 pm20 pm21 pm22 pm23 cd0 cd1 cd2 cd3 cd4 cd5 cd6 cd7 cd8 cd9 cd10 cd11 cd12 cd13 cd14 cd15 cd16 cd17 cd18 cd19 cd20 cd21 cd22 cd23 ct0 ct1 ct2 ct3 ct4 ct5 ct6 ct7 ct8 ct9 ct10 ct11 ct12 ct13 ct14 ct15 ct16 ct17 ct18 ct19 ct20 ct21 ct22 ct23 : Value}
    {tg0 tg1 tg2 tg3 tg4 tg5 : Nat}
    (o0 : PySem.W.nsIn K mainGlobals "Source" = some (some (.ref D0)))
    (oi0_0 : PySem.W.kitOne K (.type "NoneType") (.ref D0) = some false)
    (oi0_1 : PySem.W.kitOne K (.type "bool") (.ref D0) = some false)
    (oi0_2 : PySem.W.kitOne K (.type "int") (.ref D0) = some false)
    (oi0_3 : PySem.W.kitOne K (.type "str") (.ref D0) = some false)
    (oi0_4 : PySem.W.kitOne K (.type "tuple") (.ref D0) = some false)
    (oi0_5 : PySem.W.kitOne K (.type "list") (.ref D0) = some false)
    (oi0_6 : PySem.W.kitOne K (.type "dict") (.ref D0) = some false)
    (oj0 : PySem.W.kitOne K (.ref D0) (.ref D0) = some true)
    (oca0 : PySem.W.plainGet K D0 Str.empty = true)
    (ocb0 : PySem.W.hasDictIn K D0 = true)
    (occ0 : PySem.W.plainOver K D0 = true)
    (ocd0 : PySem.W.findIn K (.ref D0) "__setattr__" = some (some (.builtin "object.__setattr__")))
    (oce0 : PySem.W.findIn K (.ref D0) "__class__" = some (some (.builtin "object.__class__")))
    (ocf0 : PySem.W.specialIn K (.builtin "object.__class__") "__get__" = some (some (.builtin "getset_descriptor.__get__")))
    (ocg0 : PySem.W.takesIn K (.builtin "object.__class__") = some true)
    (och0 : PySem.W.mroIn K D0 (.type "object") = some true)
    (oci0 : PySem.W.makesIn K D0 = true)
    (ocj0 : PySem.W.keepIn K (.ref D0) = true)
    (of0_0 : PySem.W.findIn K (.ref D0) "program" = some none)
    (of0_1 : PySem.W.findIn K (.ref D0) "watcher" = some none)
    (of0_2 : PySem.W.findIn K (.ref D0) "all" = some none)
    (a0 : PySem.W.nsIn K mainGlobals "is_integer" = some (some (.ref A0)))
    (l0 : K.lookup A0 = some ⟨oc0, od0, .func (PySem.W.fnOf "is_integer" "is_integer" (defArgs sis_integer) (defBody sis_integer) (defScope sis_integer) .none kV0 dc0 pm0 an0 cd0 ct0), sl0⟩)
    (c0 : PySem.W.codeIn K cd0 "is_integer" = true)
    (k0 : PySem.W.keepIn K (.ref A0) = true)
    (a1 : PySem.W.nsIn K mainGlobals "is_count" = some (some (.ref A1)))
    (l1 : K.lookup A1 = some ⟨oc1, od1, .func (PySem.W.fnOf "is_count" "is_count" (defArgs sis_count) (defBody sis_count) (defScope sis_count) .none kV1 dc1 pm1 an1 cd1 ct1), sl1⟩)
    (c1 : PySem.W.codeIn K cd1 "is_count" = true)
    (k1 : PySem.W.keepIn K (.ref A1) = true)
    (a2 : PySem.W.nsIn K mainGlobals "is_name" = some (some (.ref A2)))
    (l2 : K.lookup A2 = some ⟨oc2, od2, .func (PySem.W.fnOf "is_name" "is_name" (defArgs sis_name) (defBody sis_name) (defScope sis_name) .none kV2 dc2 pm2 an2 cd2 ct2), sl2⟩)
    (c2 : PySem.W.codeIn K cd2 "is_name" = true)
    (k2 : PySem.W.keepIn K (.ref A2) = true)
    (a3 : PySem.W.nsIn K mainGlobals "is_rising" = some (some (.ref A3)))
    (l3 : K.lookup A3 = some ⟨oc3, od3, .func (PySem.W.fnOf "is_rising" "is_rising" (defArgs sis_rising) (defBody sis_rising) (defScope sis_rising) .none kV3 dc3 pm3 an3 cd3 ct3), sl3⟩)
    (c3 : PySem.W.codeIn K cd3 "is_rising" = true)
    (k3 : PySem.W.keepIn K (.ref A3) = true)
    (a4 : PySem.W.nsIn K mainGlobals "is_place" = some (some (.ref A4)))
    (l4 : K.lookup A4 = some ⟨oc4, od4, .func (PySem.W.fnOf "is_place" "is_place" (defArgs sis_place) (defBody sis_place) (defScope sis_place) .none kV4 dc4 pm4 an4 cd4 ct4), sl4⟩)
    (c4 : PySem.W.codeIn K cd4 "is_place" = true)
    (k4 : PySem.W.keepIn K (.ref A4) = true)
    (a5 : PySem.W.nsIn K mainGlobals "is_program" = some (some (.ref A5)))
    (l5 : K.lookup A5 = some ⟨oc5, od5, .func (PySem.W.fnOf "is_program" "is_program" (defArgs sis_program) (defBody sis_program) (defScope sis_program) .none kV5 dc5 pm5 an5 cd5 ct5), sl5⟩)
    (c5 : PySem.W.codeIn K cd5 "is_program" = true)
    (k5 : PySem.W.keepIn K (.ref A5) = true)
    (a6 : PySem.W.nsIn K mainGlobals "is_steps" = some (some (.ref A6)))
    (l6 : K.lookup A6 = some ⟨oc6, od6, .func (PySem.W.fnOf "is_steps" "is_steps" (defArgs sis_steps) (defBody sis_steps) (defScope sis_steps) .none kV6 dc6 pm6 an6 cd6 ct6), sl6⟩)
    (c6 : PySem.W.codeIn K cd6 "is_steps" = true)
    (k6 : PySem.W.keepIn K (.ref A6) = true)
    (a7 : PySem.W.nsIn K mainGlobals "is_watcher" = some (some (.ref A7)))
    (l7 : K.lookup A7 = some ⟨oc7, od7, .func (PySem.W.fnOf "is_watcher" "is_watcher" (defArgs sis_watcher) (defBody sis_watcher) (defScope sis_watcher) .none kV7 dc7 pm7 an7 cd7 ct7), sl7⟩)
    (c7 : PySem.W.codeIn K cd7 "is_watcher" = true)
    (k7 : PySem.W.keepIn K (.ref A7) = true)
    (a8 : PySem.W.nsIn K mainGlobals "is_end" = some (some (.ref A8)))
    (l8 : K.lookup A8 = some ⟨oc8, od8, .func (PySem.W.fnOf "is_end" "is_end" (defArgs sis_end) (defBody sis_end) (defScope sis_end) .none kV8 dc8 pm8 an8 cd8 ct8), sl8⟩)
    (c8 : PySem.W.codeIn K cd8 "is_end" = true)
    (k8 : PySem.W.keepIn K (.ref A8) = true)
    (a9 : PySem.W.nsIn K mainGlobals "after_one" = some (some (.ref A9)))
    (l9 : K.lookup A9 = some ⟨oc9, od9, .func (PySem.W.fnOf "after_one" "after_one" (defArgs safter_one) (defBody safter_one) (defScope safter_one) .none kV9 dc9 pm9 an9 cd9 ct9), sl9⟩)
    (c9 : PySem.W.codeIn K cd9 "after_one" = true)
    (k9 : PySem.W.keepIn K (.ref A9) = true)
    (a10 : PySem.W.nsIn K mainGlobals "after_many" = some (some (.ref A10)))
    (l10 : K.lookup A10 = some ⟨oc10, od10, .func (PySem.W.fnOf "after_many" "after_many" (defArgs safter_many) (defBody safter_many) (defScope safter_many) .none kV10 dc10 pm10 an10 cd10 ct10), sl10⟩)
    (c10 : PySem.W.codeIn K cd10 "after_many" = true)
    (k10 : PySem.W.keepIn K (.ref A10) = true)
    (a11 : PySem.W.nsIn K mainGlobals "told_from" = some (some (.ref A11)))
    (l11 : K.lookup A11 = some ⟨oc11, od11, .func (PySem.W.fnOf "told_from" "told_from" (defArgs stold_from) (defBody stold_from) (defScope stold_from) .none kV11 dc11 pm11 an11 cd11 ct11), sl11⟩)
    (c11 : PySem.W.codeIn K cd11 "told_from" = true)
    (k11 : PySem.W.keepIn K (.ref A11) = true)
    (a12 : PySem.W.nsIn K mainGlobals "taken_from" = some (some (.ref A12)))
    (l12 : K.lookup A12 = some ⟨oc12, od12, .func (PySem.W.fnOf "taken_from" "taken_from" (defArgs staken_from) (defBody staken_from) (defScope staken_from) .none kV12 dc12 pm12 an12 cd12 ct12), sl12⟩)
    (c12 : PySem.W.codeIn K cd12 "taken_from" = true)
    (k12 : PySem.W.keepIn K (.ref A12) = true)
    (a13 : PySem.W.nsIn K mainGlobals "all_moves" = some (some (.ref A13)))
    (l13 : K.lookup A13 = some ⟨oc13, od13, .func (PySem.W.fnOf "all_moves" "all_moves" (defArgs sall_moves) (defBody sall_moves) (defScope sall_moves) .none kV13 dc13 pm13 an13 cd13 ct13), sl13⟩)
    (c13 : PySem.W.codeIn K cd13 "all_moves" = true)
    (k13 : PySem.W.keepIn K (.ref A13) = true)
    (a14 : PySem.W.nsIn K mainGlobals "is_numbers" = some (some (.ref A14)))
    (l14 : K.lookup A14 = some ⟨oc14, od14, .func (PySem.W.fnOf "is_numbers" "is_numbers" (defArgs sis_numbers) (defBody sis_numbers) (defScope sis_numbers) .none kV14 dc14 pm14 an14 cd14 ct14), sl14⟩)
    (c14 : PySem.W.codeIn K cd14 "is_numbers" = true)
    (k14 : PySem.W.keepIn K (.ref A14) = true)
    (a15 : PySem.W.nsIn K mainGlobals "_law_kneaded" = some (some (.ref A15)))
    (l15 : K.lookup A15 = some ⟨oc15, od15, .func (PySem.W.fnOf "_law_kneaded" "_law_kneaded" (defArgs s_law_kneaded) (defBody s_law_kneaded) (defScope s_law_kneaded) .none kV15 dc15 pm15 an15 cd15 ct15), sl15⟩)
    (c15 : PySem.W.codeIn K cd15 "_law_kneaded" = true)
    (k15 : PySem.W.keepIn K (.ref A15) = true)
    (a16 : PySem.W.nsIn K mainGlobals "_law_pot_of" = some (some (.ref A16)))
    (l16 : K.lookup A16 = some ⟨oc16, od16, .func (PySem.W.fnOf "_law_pot_of" "_law_pot_of" (defArgs s_law_pot_of) (defBody s_law_pot_of) (defScope s_law_pot_of) .none kV16 dc16 pm16 an16 cd16 ct16), sl16⟩)
    (c16 : PySem.W.codeIn K cd16 "_law_pot_of" = true)
    (k16 : PySem.W.keepIn K (.ref A16) = true)
    (a17 : PySem.W.nsIn K mainGlobals "_law_below" = some (some (.ref A17)))
    (l17 : K.lookup A17 = some ⟨oc17, od17, .func (PySem.W.fnOf "_law_below" "_law_below" (defArgs s_law_below) (defBody s_law_below) (defScope s_law_below) .none kV17 dc17 pm17 an17 cd17 ct17), sl17⟩)
    (c17 : PySem.W.codeIn K cd17 "_law_below" = true)
    (k17 : PySem.W.keepIn K (.ref A17) = true)
    (a18 : PySem.W.nsIn K mainGlobals "_law_pick" = some (some (.ref A18)))
    (l18 : K.lookup A18 = some ⟨oc18, od18, .func (PySem.W.fnOf "_law_pick" "_law_pick" (defArgs s_law_pick) (defBody s_law_pick) (defScope s_law_pick) .none kV18 dc18 pm18 an18 cd18 ct18), sl18⟩)
    (c18 : PySem.W.codeIn K cd18 "_law_pick" = true)
    (k18 : PySem.W.keepIn K (.ref A18) = true)
    (a19 : PySem.W.nsIn K mainGlobals "_law_some_program" = some (some (.ref A19)))
    (l19 : K.lookup A19 = some ⟨oc19, od19, .func (PySem.W.fnOf "_law_some_program" "_law_some_program" (defArgs s_law_some_program) (defBody s_law_some_program) (defScope s_law_some_program) .none kV19 dc19 pm19 an19 cd19 ct19), sl19⟩)
    (c19 : PySem.W.codeIn K cd19 "_law_some_program" = true)
    (k19 : PySem.W.keepIn K (.ref A19) = true)
    (a20 : PySem.W.nsIn K mainGlobals "_law_some_watcher" = some (some (.ref A20)))
    (l20 : K.lookup A20 = some ⟨oc20, od20, .func (PySem.W.fnOf "_law_some_watcher" "_law_some_watcher" (defArgs s_law_some_watcher) (defBody s_law_some_watcher) (defScope s_law_some_watcher) .none kV20 dc20 pm20 an20 cd20 ct20), sl20⟩)
    (c20 : PySem.W.codeIn K cd20 "_law_some_watcher" = true)
    (k20 : PySem.W.keepIn K (.ref A20) = true)
    (a21 : PySem.W.nsIn K mainGlobals "_law_word" = some (some (.ref A21)))
    (l21 : K.lookup A21 = some ⟨oc21, od21, .func (PySem.W.fnOf "_law_word" "_law_word" (defArgs s_law_word) (defBody s_law_word) (defScope s_law_word) .none kV21 dc21 pm21 an21 cd21 ct21), sl21⟩)
    (c21 : PySem.W.codeIn K cd21 "_law_word" = true)
    (k21 : PySem.W.keepIn K (.ref A21) = true)
    (a22 : PySem.W.nsIn K mainGlobals "law" = some (some (.ref A22)))
    (l22 : K.lookup A22 = some ⟨oc22, od22, .func (PySem.W.fnOf "law" "law" (defArgs slaw) (defBody slaw) (defScope slaw) .none kV22 dc22 pm22 an22 cd22 ct22), sl22⟩)
    (c22 : PySem.W.codeIn K cd22 "law" = true)
    (k22 : PySem.W.keepIn K (.ref A22) = true)
    (a23 : PySem.W.findIn K (.ref D0) "__init__" = some (some (.ref A23)))
    (fn23 : PySem.W.isFn K (.ref A23) = true)
    (l23 : K.lookup A23 = some ⟨oc23, od23, .func (PySem.W.fnOf "__init__" "Source.__init__" (defArgs sSource___init__) (defBody sSource___init__) (defScope sSource___init__) .none kV23 dc23 pm23 an23 cd23 ct23), sl23⟩)
    (c23 : PySem.W.codeIn K cd23 "Source.__init__" = true)
    (k23 : PySem.W.keepIn K (.ref A23) = true)
    (z0 : PySem.W.nsIn K mainGlobals "abs" = some none)
    (z1 : PySem.W.nsIn K mainGlobals "all" = some none)
    (z2 : PySem.W.nsIn K mainGlobals "bool" = some none)
    (z3 : PySem.W.nsIn K mainGlobals "enumerate" = some none)
    (z4 : PySem.W.nsIn K mainGlobals "int" = some none)
    (z5 : PySem.W.nsIn K mainGlobals "isinstance" = some none)
    (z6 : PySem.W.nsIn K mainGlobals "len" = some none)
    (z7 : PySem.W.nsIn K mainGlobals "list" = some none)
    (z8 : PySem.W.nsIn K mainGlobals "range" = some none)
    (z9 : PySem.W.nsIn K mainGlobals "repr" = some none)
    (z10 : PySem.W.nsIn K mainGlobals "set" = some none)
    (z11 : PySem.W.nsIn K mainGlobals "sorted" = some none)
    (z12 : PySem.W.nsIn K mainGlobals "str" = some none)
    (z13 : PySem.W.nsIn K mainGlobals "tuple" = some none)
    (z14 : PySem.W.nsIn K mainGlobals "zip" = some none)
    (gc0 : PySem.W.nsIn K mainGlobals "BEGIN" = some (some (.int (-1) tg0)))
    (gc1 : PySem.W.nsIn K mainGlobals "FIGURES" = some (some (.str "0123456789" tg1)))
    (gc2 : PySem.W.nsIn K mainGlobals "LETTERS" = some (some (.str "abcdefghijklmnopqrstuvwxyz" tg2)))
    (gc3 : PySem.W.nsIn K mainGlobals "MAX_NAME" = some (some (.int (8) tg3)))
    (gc4 : PySem.W.nsIn K mainGlobals "MAX_PLACES" = some (some (.int (8) tg4)))
    (gc5 : PySem.W.nsIn K mainGlobals "MAX_STEPS" = some (some (.int (30) tg5)))
    (e0 : PySem.W.nsIn K mainGlobals "NoProgram" = some (some (.ref C0)))
    (ea0 : PySem.W.excIn K C0 PyBm PyNew = true)
    (eb0 : PySem.W.keepIn K (.ref C0) = true)
    (ec0 : PySem.W.subIn K (.ref C0) (.type "BaseException") = some true)
    (ed0 : PySem.W.typeIn K (.ref C0) = some (.type "type"))
    (ee0_0 : PySem.W.exmOne K (.ref C0) (.ref C0) = some true)
    (ee0_1 : PySem.W.exmOne K (.ref C0) (.ref C1) = some false)
    (e1 : PySem.W.nsIn K mainGlobals "NoWatcher" = some (some (.ref C1)))
    (ea1 : PySem.W.excIn K C1 PyBm PyNew = true)
    (eb1 : PySem.W.keepIn K (.ref C1) = true)
    (ec1 : PySem.W.subIn K (.ref C1) (.type "BaseException") = some true)
    (ed1 : PySem.W.typeIn K (.ref C1) = some (.type "type"))
    (ee1_0 : PySem.W.exmOne K (.ref C1) (.ref C0) = some false)
    (ee1_1 : PySem.W.exmOne K (.ref C1) (.ref C1) = some true)
    : Lib K mg Pm kw ct fns ∧ (∀ c1 c2 b, isx c1 c2 = some b → ∃ C1 C2, mg c1 = some (.ref C1) ∧ mg c2 = some (.ref C2) ∧ PySem.W.exmOne K (.ref C1) (.ref C2) = some b) ∧ (∀ x d, gl x = some d → ∃ u v, mg x = some u ∧ RelV v u ∧ ∀ U G, U.K = K → U.mg = mg → Rep U G v d) := by
  have bn : ∀ x ∈ bnL, mg x = none := by
    intro x hx
    have hx := hx
    rcases List.mem_cons.mp hx with rfl | hx
    · exact PySem.W.mg_none_of X G z0
    rcases List.mem_cons.mp hx with rfl | hx
    · exact PySem.W.mg_none_of X G z1
    rcases List.mem_cons.mp hx with rfl | hx
    · exact PySem.W.mg_none_of X G z2
    rcases List.mem_cons.mp hx with rfl | hx
    · exact PySem.W.mg_none_of X G z3
    rcases List.mem_cons.mp hx with rfl | hx
    · exact PySem.W.mg_none_of X G z4
    rcases List.mem_cons.mp hx with rfl | hx
    · exact PySem.W.mg_none_of X G z5
    rcases List.mem_cons.mp hx with rfl | hx
    · exact PySem.W.mg_none_of X G z6
    rcases List.mem_cons.mp hx with rfl | hx
    · exact PySem.W.mg_none_of X G z7
    rcases List.mem_cons.mp hx with rfl | hx
    · exact PySem.W.mg_none_of X G z8
    rcases List.mem_cons.mp hx with rfl | hx
    · exact PySem.W.mg_none_of X G z9
    rcases List.mem_cons.mp hx with rfl | hx
    · exact PySem.W.mg_none_of X G z10
    rcases List.mem_cons.mp hx with rfl | hx
    · exact PySem.W.mg_none_of X G z11
    rcases List.mem_cons.mp hx with rfl | hx
    · exact PySem.W.mg_none_of X G z12
    rcases List.mem_cons.mp hx with rfl | hx
    · exact PySem.W.mg_none_of X G z13
    rcases List.mem_cons.mp hx with rfl | hx
    · exact PySem.W.mg_none_of X G z14
    cases hx
  have rs : ∀ x, decide (x ∈ exL) = true → RaiseOk K mg x := by
    intro x hx
    have hx := of_decide_eq_true hx
    rcases List.mem_cons.mp hx with rfl | hx
    · exact ⟨_, _, _, _, C0, PySem.F.excBase_ValueError, ea0, PySem.W.mg_of X G e0, eb0, ec0, ed0⟩
    rcases List.mem_cons.mp hx with rfl | hx
    · exact ⟨_, _, _, _, C1, PySem.F.excBase_ValueError, ea1, PySem.W.mg_of X G e1, eb1, ec1, ed1⟩
    cases hx
  have ow : ∀ c, decide (c ∈ owL) = true → OwnK K mg c := by
    intro x hx
    have hx := of_decide_eq_true hx
    rcases List.mem_cons.mp hx with rfl | hx
    · refine ⟨D0, PySem.W.mg_of X G o0, fun t ht => ?_, oj0⟩
      rcases List.mem_cons.mp ht with rfl | ht
      · exact oi0_0
      rcases List.mem_cons.mp ht with rfl | ht
      · exact oi0_1
      rcases List.mem_cons.mp ht with rfl | ht
      · exact oi0_2
      rcases List.mem_cons.mp ht with rfl | ht
      · exact oi0_3
      rcases List.mem_cons.mp ht with rfl | ht
      · exact oi0_4
      rcases List.mem_cons.mp ht with rfl | ht
      · exact oi0_5
      rcases List.mem_cons.mp ht with rfl | ht
      · exact oi0_6
      cases ht
    cases hx
  refine ⟨⟨fun f g hf => ?_, fun f hf => ?_, fun f ks fill hk => ?_, fun c m q hq => ?_, fun c m q hq => ?_, fun c hc => ?_, fun c f C hc hC => ?_⟩, fun c1 c2 b hb => ?_, fun x d hd => ?_⟩
  · have hf := PySem.mem_of_lookup hf
    rcases List.mem_cons.mp hf with e | hf
    · cases e
      have F := fun_mk (st := sis_integer) l0 c0 k0
      have no_k : ∀ ks fill, kw "is_integer" ks = some fill → False := fun ks fill hk => no_kw (by decide +kernel) hk
      have B : L2.Binds K _ (nis_integer.take 1) [] := F.binds (ps := nis_integer.take 1) fun _ _ _ _ _ _ us hl => match us, hl with | [_], _ => rfl
      refine ⟨"is_integer", gdN nis_integer, _, sis_integer, A0, _, F, ⟨cis_integer, ois_integer, rfl, by decide, bn, rs, ow⟩, fun _ z => z, fun _ => ⟨PySem.W.mg_of X G a0, B⟩, fun ks fill hk => ?_, fun c m hq => ?_, fun c m hq => ?_⟩
      · exact False.elim (no_k ks fill hk)
      · have hq := mem_lk (show mtL.lookup (c, m) = some "is_integer" from hq)
        rcases List.mem_cons.mp hq with e | hq
        · exact absurd (show ("is_integer" : Str) = "Source.__init__" from congrArg Prod.snd e) (by decide +kernel)
        cases hq
      · have hq := mem_lk (show prL.lookup (c, m) = some "is_integer" from hq)
        cases hq
    rcases List.mem_cons.mp hf with e | hf
    · cases e
      have F := fun_mk (st := sis_count) l1 c1 k1
      have no_k : ∀ ks fill, kw "is_count" ks = some fill → False := fun ks fill hk => no_kw (by decide +kernel) hk
      have B : L2.Binds K _ (nis_count.take 1) [] := F.binds (ps := nis_count.take 1) fun _ _ _ _ _ _ us hl => match us, hl with | [_], _ => rfl
      refine ⟨"is_count", gdN nis_count, _, sis_count, A1, _, F, ⟨cis_count, ois_count, rfl, by decide, bn, rs, ow⟩, fun _ z => z, fun _ => ⟨PySem.W.mg_of X G a1, B⟩, fun ks fill hk => ?_, fun c m hq => ?_, fun c m hq => ?_⟩
      · exact False.elim (no_k ks fill hk)
      · have hq := mem_lk (show mtL.lookup (c, m) = some "is_count" from hq)
        rcases List.mem_cons.mp hq with e | hq
        · exact absurd (show ("is_count" : Str) = "Source.__init__" from congrArg Prod.snd e) (by decide +kernel)
        cases hq
      · have hq := mem_lk (show prL.lookup (c, m) = some "is_count" from hq)
        cases hq
    rcases List.mem_cons.mp hf with e | hf
    · cases e
      have F := fun_mk (st := sis_name) l2 c2 k2
      have no_k : ∀ ks fill, kw "is_name" ks = some fill → False := fun ks fill hk => no_kw (by decide +kernel) hk
      have B : L2.Binds K _ (nis_name.take 1) [] := F.binds (ps := nis_name.take 1) fun _ _ _ _ _ _ us hl => match us, hl with | [_], _ => rfl
      refine ⟨"is_name", gdN nis_name, _, sis_name, A2, _, F, ⟨cis_name, ois_name, rfl, by decide, bn, rs, ow⟩, fun _ z => z, fun _ => ⟨PySem.W.mg_of X G a2, B⟩, fun ks fill hk => ?_, fun c m hq => ?_, fun c m hq => ?_⟩
      · exact False.elim (no_k ks fill hk)
      · have hq := mem_lk (show mtL.lookup (c, m) = some "is_name" from hq)
        rcases List.mem_cons.mp hq with e | hq
        · exact absurd (show ("is_name" : Str) = "Source.__init__" from congrArg Prod.snd e) (by decide +kernel)
        cases hq
      · have hq := mem_lk (show prL.lookup (c, m) = some "is_name" from hq)
        cases hq
    rcases List.mem_cons.mp hf with e | hf
    · cases e
      have F := fun_mk (st := sis_rising) l3 c3 k3
      have no_k : ∀ ks fill, kw "is_rising" ks = some fill → False := fun ks fill hk => no_kw (by decide +kernel) hk
      have B : L2.Binds K _ (nis_rising.take 1) [] := F.binds (ps := nis_rising.take 1) fun _ _ _ _ _ _ us hl => match us, hl with | [_], _ => rfl
      refine ⟨"is_rising", gdN nis_rising, _, sis_rising, A3, _, F, ⟨cis_rising, ois_rising, rfl, by decide, bn, rs, ow⟩, fun _ z => z, fun _ => ⟨PySem.W.mg_of X G a3, B⟩, fun ks fill hk => ?_, fun c m hq => ?_, fun c m hq => ?_⟩
      · exact False.elim (no_k ks fill hk)
      · have hq := mem_lk (show mtL.lookup (c, m) = some "is_rising" from hq)
        rcases List.mem_cons.mp hq with e | hq
        · exact absurd (show ("is_rising" : Str) = "Source.__init__" from congrArg Prod.snd e) (by decide +kernel)
        cases hq
      · have hq := mem_lk (show prL.lookup (c, m) = some "is_rising" from hq)
        cases hq
    rcases List.mem_cons.mp hf with e | hf
    · cases e
      have F := fun_mk (st := sis_place) l4 c4 k4
      have no_k : ∀ ks fill, kw "is_place" ks = some fill → False := fun ks fill hk => no_kw (by decide +kernel) hk
      have B : L2.Binds K _ (nis_place.take 2) [] := F.binds (ps := nis_place.take 2) fun _ _ _ _ _ _ us hl => match us, hl with | [_, _], _ => rfl
      refine ⟨"is_place", gdN nis_place, _, sis_place, A4, _, F, ⟨cis_place, ois_place, rfl, by decide, bn, rs, ow⟩, fun _ z => z, fun _ => ⟨PySem.W.mg_of X G a4, B⟩, fun ks fill hk => ?_, fun c m hq => ?_, fun c m hq => ?_⟩
      · exact False.elim (no_k ks fill hk)
      · have hq := mem_lk (show mtL.lookup (c, m) = some "is_place" from hq)
        rcases List.mem_cons.mp hq with e | hq
        · exact absurd (show ("is_place" : Str) = "Source.__init__" from congrArg Prod.snd e) (by decide +kernel)
        cases hq
      · have hq := mem_lk (show prL.lookup (c, m) = some "is_place" from hq)
        cases hq
    rcases List.mem_cons.mp hf with e | hf
    · cases e
      have F := fun_mk (st := sis_program) l5 c5 k5
      have no_k : ∀ ks fill, kw "is_program" ks = some fill → False := fun ks fill hk => no_kw (by decide +kernel) hk
      have B : L2.Binds K _ (nis_program.take 1) [] := F.binds (ps := nis_program.take 1) fun _ _ _ _ _ _ us hl => match us, hl with | [_], _ => rfl
      refine ⟨"is_program", gdN nis_program, _, sis_program, A5, _, F, ⟨cis_program, ois_program, rfl, by decide, bn, rs, ow⟩, fun _ z => z, fun _ => ⟨PySem.W.mg_of X G a5, B⟩, fun ks fill hk => ?_, fun c m hq => ?_, fun c m hq => ?_⟩
      · exact False.elim (no_k ks fill hk)
      · have hq := mem_lk (show mtL.lookup (c, m) = some "is_program" from hq)
        rcases List.mem_cons.mp hq with e | hq
        · exact absurd (show ("is_program" : Str) = "Source.__init__" from congrArg Prod.snd e) (by decide +kernel)
        cases hq
      · have hq := mem_lk (show prL.lookup (c, m) = some "is_program" from hq)
        cases hq
    rcases List.mem_cons.mp hf with e | hf
    · cases e
      have F := fun_mk (st := sis_steps) l6 c6 k6
      have no_k : ∀ ks fill, kw "is_steps" ks = some fill → False := fun ks fill hk => no_kw (by decide +kernel) hk
      have B : L2.Binds K _ (nis_steps.take 2) [] := F.binds (ps := nis_steps.take 2) fun _ _ _ _ _ _ us hl => match us, hl with | [_, _], _ => rfl
      refine ⟨"is_steps", gdN nis_steps, _, sis_steps, A6, _, F, ⟨cis_steps, ois_steps, rfl, by decide, bn, rs, ow⟩, fun _ z => z, fun _ => ⟨PySem.W.mg_of X G a6, B⟩, fun ks fill hk => ?_, fun c m hq => ?_, fun c m hq => ?_⟩
      · exact False.elim (no_k ks fill hk)
      · have hq := mem_lk (show mtL.lookup (c, m) = some "is_steps" from hq)
        rcases List.mem_cons.mp hq with e | hq
        · exact absurd (show ("is_steps" : Str) = "Source.__init__" from congrArg Prod.snd e) (by decide +kernel)
        cases hq
      · have hq := mem_lk (show prL.lookup (c, m) = some "is_steps" from hq)
        cases hq
    rcases List.mem_cons.mp hf with e | hf
    · cases e
      have F := fun_mk (st := sis_watcher) l7 c7 k7
      have no_k : ∀ ks fill, kw "is_watcher" ks = some fill → False := fun ks fill hk => no_kw (by decide +kernel) hk
      have B : L2.Binds K _ (nis_watcher.take 1) [] := F.binds (ps := nis_watcher.take 1) fun _ _ _ _ _ _ us hl => match us, hl with | [_], _ => rfl
      refine ⟨"is_watcher", gdN nis_watcher, _, sis_watcher, A7, _, F, ⟨cis_watcher, ois_watcher, rfl, by decide, bn, rs, ow⟩, fun _ z => z, fun _ => ⟨PySem.W.mg_of X G a7, B⟩, fun ks fill hk => ?_, fun c m hq => ?_, fun c m hq => ?_⟩
      · exact False.elim (no_k ks fill hk)
      · have hq := mem_lk (show mtL.lookup (c, m) = some "is_watcher" from hq)
        rcases List.mem_cons.mp hq with e | hq
        · exact absurd (show ("is_watcher" : Str) = "Source.__init__" from congrArg Prod.snd e) (by decide +kernel)
        cases hq
      · have hq := mem_lk (show prL.lookup (c, m) = some "is_watcher" from hq)
        cases hq
    rcases List.mem_cons.mp hf with e | hf
    · cases e
      have F := fun_mk (st := sis_end) l8 c8 k8
      have no_k : ∀ ks fill, kw "is_end" ks = some fill → False := fun ks fill hk => no_kw (by decide +kernel) hk
      have B : L2.Binds K _ (nis_end.take 2) [] := F.binds (ps := nis_end.take 2) fun _ _ _ _ _ _ us hl => match us, hl with | [_, _], _ => rfl
      refine ⟨"is_end", gdN nis_end, _, sis_end, A8, _, F, ⟨cis_end, ois_end, rfl, by decide, bn, rs, ow⟩, fun _ z => z, fun _ => ⟨PySem.W.mg_of X G a8, B⟩, fun ks fill hk => ?_, fun c m hq => ?_, fun c m hq => ?_⟩
      · exact False.elim (no_k ks fill hk)
      · have hq := mem_lk (show mtL.lookup (c, m) = some "is_end" from hq)
        rcases List.mem_cons.mp hq with e | hq
        · exact absurd (show ("is_end" : Str) = "Source.__init__" from congrArg Prod.snd e) (by decide +kernel)
        cases hq
      · have hq := mem_lk (show prL.lookup (c, m) = some "is_end" from hq)
        cases hq
    rcases List.mem_cons.mp hf with e | hf
    · cases e
      have F := fun_mk (st := safter_one) l9 c9 k9
      have no_k : ∀ ks fill, kw "after_one" ks = some fill → False := fun ks fill hk => no_kw (by decide +kernel) hk
      have B : L2.Binds K _ (nafter_one.take 2) [] := F.binds (ps := nafter_one.take 2) fun _ _ _ _ _ _ us hl => match us, hl with | [_, _], _ => rfl
      refine ⟨"after_one", gdN nafter_one, _, safter_one, A9, _, F, ⟨cafter_one, oafter_one, rfl, by decide, bn, rs, ow⟩, fun _ z => z, fun _ => ⟨PySem.W.mg_of X G a9, B⟩, fun ks fill hk => ?_, fun c m hq => ?_, fun c m hq => ?_⟩
      · exact False.elim (no_k ks fill hk)
      · have hq := mem_lk (show mtL.lookup (c, m) = some "after_one" from hq)
        rcases List.mem_cons.mp hq with e | hq
        · exact absurd (show ("after_one" : Str) = "Source.__init__" from congrArg Prod.snd e) (by decide +kernel)
        cases hq
      · have hq := mem_lk (show prL.lookup (c, m) = some "after_one" from hq)
        cases hq
    rcases List.mem_cons.mp hf with e | hf
    · cases e
      have F := fun_mk (st := safter_many) l10 c10 k10
      have no_k : ∀ ks fill, kw "after_many" ks = some fill → False := fun ks fill hk => no_kw (by decide +kernel) hk
      have B : L2.Binds K _ (nafter_many.take 4) [] := F.binds (ps := nafter_many.take 4) fun _ _ _ _ _ _ us hl => match us, hl with | [_, _, _, _], _ => rfl
      refine ⟨"after_many", gdN nafter_many, _, safter_many, A10, _, F, ⟨cafter_many, oafter_many, rfl, by decide, bn, rs, ow⟩, fun _ z => z, fun _ => ⟨PySem.W.mg_of X G a10, B⟩, fun ks fill hk => ?_, fun c m hq => ?_, fun c m hq => ?_⟩
      · exact False.elim (no_k ks fill hk)
      · have hq := mem_lk (show mtL.lookup (c, m) = some "after_many" from hq)
        rcases List.mem_cons.mp hq with e | hq
        · exact absurd (show ("after_many" : Str) = "Source.__init__" from congrArg Prod.snd e) (by decide +kernel)
        cases hq
      · have hq := mem_lk (show prL.lookup (c, m) = some "after_many" from hq)
        cases hq
    rcases List.mem_cons.mp hf with e | hf
    · cases e
      have F := fun_mk (st := stold_from) l11 c11 k11
      have no_k : ∀ ks fill, kw "told_from" ks = some fill → False := fun ks fill hk => no_kw (by decide +kernel) hk
      have B : L2.Binds K _ (ntold_from.take 3) [] := F.binds (ps := ntold_from.take 3) fun _ _ _ _ _ _ us hl => match us, hl with | [_, _, _], _ => rfl
      refine ⟨"told_from", gdN ntold_from, _, stold_from, A11, _, F, ⟨ctold_from, otold_from, rfl, by decide, bn, rs, ow⟩, fun _ z => z, fun _ => ⟨PySem.W.mg_of X G a11, B⟩, fun ks fill hk => ?_, fun c m hq => ?_, fun c m hq => ?_⟩
      · exact False.elim (no_k ks fill hk)
      · have hq := mem_lk (show mtL.lookup (c, m) = some "told_from" from hq)
        rcases List.mem_cons.mp hq with e | hq
        · exact absurd (show ("told_from" : Str) = "Source.__init__" from congrArg Prod.snd e) (by decide +kernel)
        cases hq
      · have hq := mem_lk (show prL.lookup (c, m) = some "told_from" from hq)
        cases hq
    rcases List.mem_cons.mp hf with e | hf
    · cases e
      have F := fun_mk (st := staken_from) l12 c12 k12
      have no_k : ∀ ks fill, kw "taken_from" ks = some fill → False := fun ks fill hk => no_kw (by decide +kernel) hk
      have B : L2.Binds K _ (ntaken_from.take 3) [] := F.binds (ps := ntaken_from.take 3) fun _ _ _ _ _ _ us hl => match us, hl with | [_, _, _], _ => rfl
      refine ⟨"taken_from", gdN ntaken_from, _, staken_from, A12, _, F, ⟨ctaken_from, otaken_from, rfl, by decide, bn, rs, ow⟩, fun _ z => z, fun _ => ⟨PySem.W.mg_of X G a12, B⟩, fun ks fill hk => ?_, fun c m hq => ?_, fun c m hq => ?_⟩
      · exact False.elim (no_k ks fill hk)
      · have hq := mem_lk (show mtL.lookup (c, m) = some "taken_from" from hq)
        rcases List.mem_cons.mp hq with e | hq
        · exact absurd (show ("taken_from" : Str) = "Source.__init__" from congrArg Prod.snd e) (by decide +kernel)
        cases hq
      · have hq := mem_lk (show prL.lookup (c, m) = some "taken_from" from hq)
        cases hq
    rcases List.mem_cons.mp hf with e | hf
    · cases e
      have F := fun_mk (st := sall_moves) l13 c13 k13
      have no_k : ∀ ks fill, kw "all_moves" ks = some fill → False := fun ks fill hk => no_kw (by decide +kernel) hk
      have B : L2.Binds K _ (nall_moves.take 2) [] := F.binds (ps := nall_moves.take 2) fun _ _ _ _ _ _ us hl => match us, hl with | [_, _], _ => rfl
      refine ⟨"all_moves", gdN nall_moves, _, sall_moves, A13, _, F, ⟨call_moves, oall_moves, rfl, by decide, bn, rs, ow⟩, fun _ z => z, fun _ => ⟨PySem.W.mg_of X G a13, B⟩, fun ks fill hk => ?_, fun c m hq => ?_, fun c m hq => ?_⟩
      · exact False.elim (no_k ks fill hk)
      · have hq := mem_lk (show mtL.lookup (c, m) = some "all_moves" from hq)
        rcases List.mem_cons.mp hq with e | hq
        · exact absurd (show ("all_moves" : Str) = "Source.__init__" from congrArg Prod.snd e) (by decide +kernel)
        cases hq
      · have hq := mem_lk (show prL.lookup (c, m) = some "all_moves" from hq)
        cases hq
    rcases List.mem_cons.mp hf with e | hf
    · cases e
      have F := fun_mk (st := sis_numbers) l14 c14 k14
      have no_k : ∀ ks fill, kw "is_numbers" ks = some fill → False := fun ks fill hk => no_kw (by decide +kernel) hk
      have B : L2.Binds K _ (nis_numbers.take 1) [] := F.binds (ps := nis_numbers.take 1) fun _ _ _ _ _ _ us hl => match us, hl with | [_], _ => rfl
      refine ⟨"is_numbers", gdN nis_numbers, _, sis_numbers, A14, _, F, ⟨cis_numbers, ois_numbers, rfl, by decide, bn, rs, ow⟩, fun _ z => z, fun _ => ⟨PySem.W.mg_of X G a14, B⟩, fun ks fill hk => ?_, fun c m hq => ?_, fun c m hq => ?_⟩
      · exact False.elim (no_k ks fill hk)
      · have hq := mem_lk (show mtL.lookup (c, m) = some "is_numbers" from hq)
        rcases List.mem_cons.mp hq with e | hq
        · exact absurd (show ("is_numbers" : Str) = "Source.__init__" from congrArg Prod.snd e) (by decide +kernel)
        cases hq
      · have hq := mem_lk (show prL.lookup (c, m) = some "is_numbers" from hq)
        cases hq
    rcases List.mem_cons.mp hf with e | hf
    · cases e
      have F := fun_mk (st := s_law_kneaded) l15 c15 k15
      have no_k : ∀ ks fill, kw "_law_kneaded" ks = some fill → False := fun ks fill hk => no_kw (by decide +kernel) hk
      have B : L2.Binds K _ (n_law_kneaded.take 2) [] := F.binds (ps := n_law_kneaded.take 2) fun _ _ _ _ _ _ us hl => match us, hl with | [_, _], _ => rfl
      refine ⟨"_law_kneaded", gdN n_law_kneaded, _, s_law_kneaded, A15, _, F, ⟨c_law_kneaded, o_law_kneaded, rfl, by decide, bn, rs, ow⟩, fun _ z => z, fun _ => ⟨PySem.W.mg_of X G a15, B⟩, fun ks fill hk => ?_, fun c m hq => ?_, fun c m hq => ?_⟩
      · exact False.elim (no_k ks fill hk)
      · have hq := mem_lk (show mtL.lookup (c, m) = some "_law_kneaded" from hq)
        rcases List.mem_cons.mp hq with e | hq
        · exact absurd (show ("_law_kneaded" : Str) = "Source.__init__" from congrArg Prod.snd e) (by decide +kernel)
        cases hq
      · have hq := mem_lk (show prL.lookup (c, m) = some "_law_kneaded" from hq)
        cases hq
    rcases List.mem_cons.mp hf with e | hf
    · cases e
      have F := fun_mk (st := s_law_pot_of) l16 c16 k16
      have no_k : ∀ ks fill, kw "_law_pot_of" ks = some fill → False := fun ks fill hk => no_kw (by decide +kernel) hk
      have B : L2.Binds K _ (n_law_pot_of.take 1) [] := F.binds (ps := n_law_pot_of.take 1) fun _ _ _ _ _ _ us hl => match us, hl with | [_], _ => rfl
      refine ⟨"_law_pot_of", gdN n_law_pot_of, _, s_law_pot_of, A16, _, F, ⟨c_law_pot_of, o_law_pot_of, rfl, by decide, bn, rs, ow⟩, fun _ z => z, fun _ => ⟨PySem.W.mg_of X G a16, B⟩, fun ks fill hk => ?_, fun c m hq => ?_, fun c m hq => ?_⟩
      · exact False.elim (no_k ks fill hk)
      · have hq := mem_lk (show mtL.lookup (c, m) = some "_law_pot_of" from hq)
        rcases List.mem_cons.mp hq with e | hq
        · exact absurd (show ("_law_pot_of" : Str) = "Source.__init__" from congrArg Prod.snd e) (by decide +kernel)
        cases hq
      · have hq := mem_lk (show prL.lookup (c, m) = some "_law_pot_of" from hq)
        cases hq
    rcases List.mem_cons.mp hf with e | hf
    · cases e
      have F := fun_mk (st := s_law_below) l17 c17 k17
      have no_k : ∀ ks fill, kw "_law_below" ks = some fill → False := fun ks fill hk => no_kw (by decide +kernel) hk
      have B : L2.Binds K _ (n_law_below.take 2) [] := F.binds (ps := n_law_below.take 2) fun _ _ _ _ _ _ us hl => match us, hl with | [_, _], _ => rfl
      refine ⟨"_law_below", gdN n_law_below, _, s_law_below, A17, _, F, ⟨c_law_below, o_law_below, rfl, by decide, bn, rs, ow⟩, fun _ z => z, fun _ => ⟨PySem.W.mg_of X G a17, B⟩, fun ks fill hk => ?_, fun c m hq => ?_, fun c m hq => ?_⟩
      · exact False.elim (no_k ks fill hk)
      · have hq := mem_lk (show mtL.lookup (c, m) = some "_law_below" from hq)
        rcases List.mem_cons.mp hq with e | hq
        · exact absurd (show ("_law_below" : Str) = "Source.__init__" from congrArg Prod.snd e) (by decide +kernel)
        cases hq
      · have hq := mem_lk (show prL.lookup (c, m) = some "_law_below" from hq)
        cases hq
    rcases List.mem_cons.mp hf with e | hf
    · cases e
      have F := fun_mk (st := s_law_pick) l18 c18 k18
      have no_k : ∀ ks fill, kw "_law_pick" ks = some fill → False := fun ks fill hk => no_kw (by decide +kernel) hk
      have B : L2.Binds K _ (n_law_pick.take 2) [] := F.binds (ps := n_law_pick.take 2) fun _ _ _ _ _ _ us hl => match us, hl with | [_, _], _ => rfl
      refine ⟨"_law_pick", gdN n_law_pick, _, s_law_pick, A18, _, F, ⟨c_law_pick, o_law_pick, rfl, by decide, bn, rs, ow⟩, fun _ z => z, fun _ => ⟨PySem.W.mg_of X G a18, B⟩, fun ks fill hk => ?_, fun c m hq => ?_, fun c m hq => ?_⟩
      · exact False.elim (no_k ks fill hk)
      · have hq := mem_lk (show mtL.lookup (c, m) = some "_law_pick" from hq)
        rcases List.mem_cons.mp hq with e | hq
        · exact absurd (show ("_law_pick" : Str) = "Source.__init__" from congrArg Prod.snd e) (by decide +kernel)
        cases hq
      · have hq := mem_lk (show prL.lookup (c, m) = some "_law_pick" from hq)
        cases hq
    rcases List.mem_cons.mp hf with e | hf
    · cases e
      have F := fun_mk (st := s_law_some_program) l19 c19 k19
      have no_k : ∀ ks fill, kw "_law_some_program" ks = some fill → False := fun ks fill hk => no_kw (by decide +kernel) hk
      have B : L2.Binds K _ (n_law_some_program.take 2) [] := F.binds (ps := n_law_some_program.take 2) fun _ _ _ _ _ _ us hl => match us, hl with | [_, _], _ => rfl
      refine ⟨"_law_some_program", gdN n_law_some_program, _, s_law_some_program, A19, _, F, ⟨c_law_some_program, o_law_some_program, rfl, by decide, bn, rs, ow⟩, fun _ z => z, fun _ => ⟨PySem.W.mg_of X G a19, B⟩, fun ks fill hk => ?_, fun c m hq => ?_, fun c m hq => ?_⟩
      · exact False.elim (no_k ks fill hk)
      · have hq := mem_lk (show mtL.lookup (c, m) = some "_law_some_program" from hq)
        rcases List.mem_cons.mp hq with e | hq
        · exact absurd (show ("_law_some_program" : Str) = "Source.__init__" from congrArg Prod.snd e) (by decide +kernel)
        cases hq
      · have hq := mem_lk (show prL.lookup (c, m) = some "_law_some_program" from hq)
        cases hq
    rcases List.mem_cons.mp hf with e | hf
    · cases e
      have F := fun_mk (st := s_law_some_watcher) l20 c20 k20
      have no_k : ∀ ks fill, kw "_law_some_watcher" ks = some fill → False := fun ks fill hk => no_kw (by decide +kernel) hk
      have B : L2.Binds K _ (n_law_some_watcher.take 2) [] := F.binds (ps := n_law_some_watcher.take 2) fun _ _ _ _ _ _ us hl => match us, hl with | [_, _], _ => rfl
      refine ⟨"_law_some_watcher", gdN n_law_some_watcher, _, s_law_some_watcher, A20, _, F, ⟨c_law_some_watcher, o_law_some_watcher, rfl, by decide, bn, rs, ow⟩, fun _ z => z, fun _ => ⟨PySem.W.mg_of X G a20, B⟩, fun ks fill hk => ?_, fun c m hq => ?_, fun c m hq => ?_⟩
      · exact False.elim (no_k ks fill hk)
      · have hq := mem_lk (show mtL.lookup (c, m) = some "_law_some_watcher" from hq)
        rcases List.mem_cons.mp hq with e | hq
        · exact absurd (show ("_law_some_watcher" : Str) = "Source.__init__" from congrArg Prod.snd e) (by decide +kernel)
        cases hq
      · have hq := mem_lk (show prL.lookup (c, m) = some "_law_some_watcher" from hq)
        cases hq
    rcases List.mem_cons.mp hf with e | hf
    · cases e
      have F := fun_mk (st := s_law_word) l21 c21 k21
      have no_k : ∀ ks fill, kw "_law_word" ks = some fill → False := fun ks fill hk => no_kw (by decide +kernel) hk
      have B : L2.Binds K _ (n_law_word.take 2) [] := F.binds (ps := n_law_word.take 2) fun _ _ _ _ _ _ us hl => match us, hl with | [_, _], _ => rfl
      refine ⟨"_law_word", gdN n_law_word, _, s_law_word, A21, _, F, ⟨c_law_word, o_law_word, rfl, by decide, bn, rs, ow⟩, fun _ z => z, fun _ => ⟨PySem.W.mg_of X G a21, B⟩, fun ks fill hk => ?_, fun c m hq => ?_, fun c m hq => ?_⟩
      · exact False.elim (no_k ks fill hk)
      · have hq := mem_lk (show mtL.lookup (c, m) = some "_law_word" from hq)
        rcases List.mem_cons.mp hq with e | hq
        · exact absurd (show ("_law_word" : Str) = "Source.__init__" from congrArg Prod.snd e) (by decide +kernel)
        cases hq
      · have hq := mem_lk (show prL.lookup (c, m) = some "_law_word" from hq)
        cases hq
    rcases List.mem_cons.mp hf with e | hf
    · cases e
      have F := fun_mk (st := slaw) l22 c22 k22
      have no_k : ∀ ks fill, kw "law" ks = some fill → False := fun ks fill hk => no_kw (by decide +kernel) hk
      have B : L2.Binds K _ (nlaw.take 1) [] := F.binds (ps := nlaw.take 1) fun _ _ _ _ _ _ us hl => match us, hl with | [_], _ => rfl
      refine ⟨"law", gdN nlaw, _, slaw, A22, _, F, ⟨claw, olaw, rfl, by decide, bn, rs, ow⟩, fun _ z => z, fun _ => ⟨PySem.W.mg_of X G a22, B⟩, fun ks fill hk => ?_, fun c m hq => ?_, fun c m hq => ?_⟩
      · exact False.elim (no_k ks fill hk)
      · have hq := mem_lk (show mtL.lookup (c, m) = some "law" from hq)
        rcases List.mem_cons.mp hq with e | hq
        · exact absurd (show ("law" : Str) = "Source.__init__" from congrArg Prod.snd e) (by decide +kernel)
        cases hq
      · have hq := mem_lk (show prL.lookup (c, m) = some "law" from hq)
        cases hq
    rcases List.mem_cons.mp hf with e | hf
    · cases e
      have F := fun_mk (st := sSource___init__) l23 c23 k23
      have no_k : ∀ ks fill, kw "Source.__init__" ks = some fill → False := fun ks fill hk => no_kw (by decide +kernel) hk
      have B : L2.Binds K _ (nSource___init__.take 3) [] := F.binds (ps := nSource___init__.take 3) fun _ _ _ _ _ _ us hl => match us, hl with | [_, _, _], _ => rfl
      refine ⟨"__init__", gdN nSource___init__, _, sSource___init__, A23, _, F, ⟨cSource___init__, oSource___init__, rfl, by decide, bn, rs, ow⟩, fun _ z => z, fun z => absurd z (by decide +kernel), fun ks fill hk => ?_, fun c m hq => ?_, fun c m hq => ?_⟩
      · exact False.elim (no_k ks fill hk)
      · have hq := mem_lk (show mtL.lookup (c, m) = some "Source.__init__" from hq)
        rcases List.mem_cons.mp hq with e | hq
        · cases e
          exact ⟨D0, PySem.W.mg_of X G o0, ⟨a23, fn23, k23⟩, B⟩
        cases hq
      · have hq := mem_lk (show prL.lookup (c, m) = some "Source.__init__" from hq)
        cases hq
    cases hf
  · have hf := of_decide_eq_true hf
    rcases List.mem_cons.mp hf with rfl | hf
    · exact ⟨_, pmis_integer⟩
    rcases List.mem_cons.mp hf with rfl | hf
    · exact ⟨_, pmis_count⟩
    rcases List.mem_cons.mp hf with rfl | hf
    · exact ⟨_, pmis_name⟩
    rcases List.mem_cons.mp hf with rfl | hf
    · exact ⟨_, pmis_rising⟩
    rcases List.mem_cons.mp hf with rfl | hf
    · exact ⟨_, pmis_place⟩
    rcases List.mem_cons.mp hf with rfl | hf
    · exact ⟨_, pmis_program⟩
    rcases List.mem_cons.mp hf with rfl | hf
    · exact ⟨_, pmis_steps⟩
    rcases List.mem_cons.mp hf with rfl | hf
    · exact ⟨_, pmis_watcher⟩
    rcases List.mem_cons.mp hf with rfl | hf
    · exact ⟨_, pmis_end⟩
    rcases List.mem_cons.mp hf with rfl | hf
    · exact ⟨_, pmafter_one⟩
    rcases List.mem_cons.mp hf with rfl | hf
    · exact ⟨_, pmafter_many⟩
    rcases List.mem_cons.mp hf with rfl | hf
    · exact ⟨_, pmtold_from⟩
    rcases List.mem_cons.mp hf with rfl | hf
    · exact ⟨_, pmtaken_from⟩
    rcases List.mem_cons.mp hf with rfl | hf
    · exact ⟨_, pmall_moves⟩
    rcases List.mem_cons.mp hf with rfl | hf
    · exact ⟨_, pmis_numbers⟩
    rcases List.mem_cons.mp hf with rfl | hf
    · exact ⟨_, pm_law_kneaded⟩
    rcases List.mem_cons.mp hf with rfl | hf
    · exact ⟨_, pm_law_pot_of⟩
    rcases List.mem_cons.mp hf with rfl | hf
    · exact ⟨_, pm_law_below⟩
    rcases List.mem_cons.mp hf with rfl | hf
    · exact ⟨_, pm_law_pick⟩
    rcases List.mem_cons.mp hf with rfl | hf
    · exact ⟨_, pm_law_some_program⟩
    rcases List.mem_cons.mp hf with rfl | hf
    · exact ⟨_, pm_law_some_watcher⟩
    rcases List.mem_cons.mp hf with rfl | hf
    · exact ⟨_, pm_law_word⟩
    rcases List.mem_cons.mp hf with rfl | hf
    · exact ⟨_, pmlaw⟩
    cases hf
  · exact kw_in hk
  · have hq := mem_lk (show mtL.lookup (c, m) = some q from hq)
    rcases List.mem_cons.mp hq with e | hq
    · cases e
      exact ⟨_, pmSource___init__⟩
    cases hq
  · have hq := mem_lk (show prL.lookup (c, m) = some q from hq)
    cases hq
  · have hc := of_decide_eq_true (show decide (c ∈ nwL) = true from hc)
    rcases List.mem_cons.mp hc with rfl | hc
    · exact ⟨D0, ⟨PySem.W.mg_of X G o0, ⟨oca0, ocb0, occ0, ocd0⟩, oce0, ocf0, ocg0, och0, fun f hf => by cases hf⟩, oci0, ocj0⟩
    cases hc
  · have hc := of_decide_eq_true (show decide ((c, f) ∈ flL) = true from hc)
    rcases List.mem_cons.mp hc with e | hc
    · cases e
      cases (PySem.W.mg_of X G o0).symm.trans hC
      exact of0_0
    rcases List.mem_cons.mp hc with e | hc
    · cases e
      cases (PySem.W.mg_of X G o0).symm.trans hC
      exact of0_1
    rcases List.mem_cons.mp hc with e | hc
    · cases e
      cases (PySem.W.mg_of X G o0).symm.trans hC
      exact of0_2
    cases hc
  · have hb := mem_lk (show isxL.lookup (c1, c2) = some b from hb)
    rcases List.mem_cons.mp hb with e | hb
    · cases e
      exact ⟨_, _, PySem.W.mg_of X G e0, PySem.W.mg_of X G e0, ee0_0⟩
    rcases List.mem_cons.mp hb with e | hb
    · cases e
      exact ⟨_, _, PySem.W.mg_of X G e0, PySem.W.mg_of X G e1, ee0_1⟩
    rcases List.mem_cons.mp hb with e | hb
    · cases e
      exact ⟨_, _, PySem.W.mg_of X G e1, PySem.W.mg_of X G e0, ee1_0⟩
    rcases List.mem_cons.mp hb with e | hb
    · cases e
      exact ⟨_, _, PySem.W.mg_of X G e1, PySem.W.mg_of X G e1, ee1_1⟩
    cases hb
  · have hd := PySem.mem_of_lookup hd
    rcases List.mem_cons.mp hd with e | hd
    · cases e
      exact ⟨_, .int _, PySem.W.mg_of X G gc0, ⟨_, rfl⟩, fun _ _ _ _ => .int _⟩
    rcases List.mem_cons.mp hd with e | hd
    · cases e
      exact ⟨_, .str _, PySem.W.mg_of X G gc1, ⟨_, rfl⟩, fun _ _ _ _ => .str _⟩
    rcases List.mem_cons.mp hd with e | hd
    · cases e
      exact ⟨_, .str _, PySem.W.mg_of X G gc2, ⟨_, rfl⟩, fun _ _ _ _ => .str _⟩
    rcases List.mem_cons.mp hd with e | hd
    · cases e
      exact ⟨_, .int _, PySem.W.mg_of X G gc3, ⟨_, rfl⟩, fun _ _ _ _ => .int _⟩
    rcases List.mem_cons.mp hd with e | hd
    · cases e
      exact ⟨_, .int _, PySem.W.mg_of X G gc4, ⟨_, rfl⟩, fun _ _ _ _ => .int _⟩
    rcases List.mem_cons.mp hd with e | hd
    · cases e
      exact ⟨_, .int _, PySem.W.mg_of X G gc5, ⟨_, rfl⟩, fun _ _ _ _ => .int _⟩
    cases hd
end Lk07

set_option Elab.async false
set_option linter.all false
set_option maxRecDepth 100000
set_option maxHeartbeats 4000000
/-! k07, the plain law. -/
namespace Lk07
open PySem Mp Mw Nm Pot Sr Dr
abbrev T (n : Nat) := tbl Pm gl isx kw ct n
theorem nms : LW Pm gl := ⟨⟨rfl, rfl, rfl⟩, rfl, rfl, rfl, rfl⟩
theorem srcs : SrcL Pm gl := ⟨⟨nms, rfl, rfl, rfl, rfl, rfl, rfl⟩, rfl, rfl, rfl, rfl, rfl, rfl, rfl, rfl⟩
theorem drws : DrawL Pm := ⟨⟨rfl, rfl, rfl, rfl⟩, rfl, rfl⟩
theorem srcc : SrcC ct := ⟨rfl, rfl, rfl, rfl, rfl⟩
theorem ix1 : isx "NoProgram" "NoProgram" = some true := rfl
theorem ix2 : isx "NoWatcher" "NoProgram" = some false := rfl
theorem ix3 : isx "NoWatcher" "NoWatcher" = some true := rfl
local macro_rules
  | `(tactic| walk_at "mp") => `(tactic| simp (implicitDefEqProofs := false) (disch := first | assumption | omega | (simp only [List.length_map, List.length_take, List.length_drop, List.length_append, List.length_reverse, List.length_cons, List.length_nil, List.length_replicate, rng_len, List.length_set, List.length_zipWith, List.length_zipIdx, List.length_dropLast]; omega)) only [↓sx_cons, ↓sx_nil, ↓s1_set, ↓s1_sett, ↓s1_par, ↓s1_expr, ↓s1_ret, ↓s1_iff, ↓s1_forr, ↓s1_whl, ↓s1_app, ↓s1_seti, ↓s1_setf, ↓s1_pass, ↓s1_brk, ↓s1_cont, ↓s1_raise, ↓s1_try, sutK,
      ↓ew_var, ↓ew_cst, ↓ew_glo, ↓ew_bi, ↓ew_chain, ↓ew_slc, ↓ew_and, ↓ew_or, ↓ew_not, ↓ew_ife, ↓ew_tup, ↓ew_lst, ↓ew_dct0, ↓ew_call, ↓ew_callk, ↓ew_comp, ↓ew_compn, ↓enN_nil, ↓enN_cons, ↓ew_mth, ↓ew_tapp, ↓ew_prp, ↓ew_leno, ↓ew_inn, ↓ew_eqo, ↓ew_new, ↓bw_, ↓pw_n, ↓pw_s, ↓fsW_nil, ↓fsW_cons, ↓osW_nil, ↓osW_cons, ↓asW_nil, ↓asW_cons, ↓a1W_t, ↓a1W_f, ↓csW_nil, ↓csW_one,
      ↓ow_var, ↓ow_cst, ↓ow_glo, ↓ow_bi, ↓ow_chain, ↓ow_slc, ↓ow_and, ↓ow_or, ↓ow_not, ↓ow_ife, ↓ow_call, ↓ow_callk, ↓ow_tup, ↓ow_lst, ↓ow_dct0, ↓ow_comp, ↓ow_compn, ↓ow_mth, ↓ow_tapp, ↓ow_prp, ↓ow_new, ↓ow_inn, ↓ow_leno, ↓ow_eqo,
      ↓kCq_, ↓kTd_, ↓kTc_, ↓kTb_, ↓kTa_, ↓kMc_, ↓kMb_, ↓kMa_, ↓kMd_, ↓kMe_, ↓kPb_, ↓kPa_, ↓kPo_, ↓kLn3_, ↓kLn2_, ↓kLn_, ↓kIn2_t, ↓kIn2_f, ↓kIn_, ↓kIc_, ↓kIb_, ↓kIa_, ↓kIo_, ↓kQc_, ↓kQb_, ↓kQa_, ↓kQo_, ↓kNq_, ↓kNw_, ↓kNz_, ↓kNb_, ↓kNa_, ↓kNo_, ↓kSf_, ↓kSg_, ↓kCk_, ↓kNe_, ↓kV_, ↓kE_, ↓kS_, ↓kX_, ↓kFz_, ↓kQv_, ↓kBi_, ↓kBi2_, ↓kOw_, ↓kCh4_, ↓kCh3_, ↓kCh2_, ↓kCh1_, ↓kB_, ↓kBw_, ↓kI_, ↓kPw_, ↓kSl3_, ↓kSl2_, ↓kSl1_, ↓kAn_, ↓kOr_, ↓kNt_, ↓kIe_, ↓kCons_, ↓kFs_, ↓kOs_, ↓kAs_, ↓kD_, ↓kTup_, ↓kLst_, ↓kRc_, ↓kAl_, ↓kCp2_, ↓kCp1_, ↓kCp_, ↓rq_conds, ↓kEl_, ↓rq_elt, ↓fq_body, ↓rq_cond, ↓kSq_, ↓kSt_, ↓kPt_, ↓kSet_, ↓kPr2_, ↓kPr1_, ↓kNx_, ↓kIf_, ↓kFo2_, ↓kFo1_, ↓kFo_, ↓kPut_, ↓kOwn_, ↓kAp_, ↓kSe2_, ↓kSe1_, ↓kCl_, ↓kTr1_, ↓kTr_, ↓kOu_, ↓kEn_, ↓kEv_, ↓kEx_, ↓kC1_, ↓kC0_, ↓kEt_, ↓kN0_, ↓kCi_, ↓kLb_, ↓kCb_, ↓kM1_, ↓kM0_, ↓kMp_, ↓kEnd_, ↓kEn0_, ↓kEn1_, ↓kEn2_, ↓kCo0_, ↓kCo1_, ↓kCo2_, ↓kCo3_, ↓kLc3_, ↓kLc2_, ↓kLcN_, ↓kLc1_, ↓kLc_,
      vaW_fz, vaW_ow, voW_fz, voW_ow, vwW_ow, neW_, opW_some, biW_some, wkW_some, ifW_t, ifW_f, andW_t, asBW_, asIW_, hnW_t, hnW_f, rtW_s, rtW_n, rvW_fz, rvW_ow, isVar, clW_, caW_, ckW_, rcW_, okCall,
      slD_fz, slD_ow, rsv_loc, rsv_d, rsvs_nil, rsvs_cons, shp_nil, shp_t, shp_f, locs_nil, locs_l, locs_d', isOw_, putOuts_l, putOuts_d', putOuts_n, ownD_, lsB_, owB_, enW_nil, enW_cons, ouW_, tbl_md, tbl_gl, tbl_isx, tbl_kw, tbl_ct, nwW_, taW_, isObj_d, xF, List.headD_cons, List.tail_cons, List.tail_nil, List.take_succ_cons, List.take_zero, mdO_,
      slotOf, Val.d, Tg.free, Tg.slots, freeO, clr, put, wipeE, backE, Option.bind_some, Option.map_some, List.getElem?_cons_zero, List.getElem?_cons_succ, List.getElem?_nil, List.set_cons_zero, List.set_cons_succ, List.length_cons, List.length_nil, List.zip_cons_cons, List.zip_nil_left, List.zip_nil_right, List.all_cons, List.all_nil, List.contains_cons, List.contains_nil, List.map_cons, List.map_nil, List.foldl_cons, List.foldl_nil, List.append_nil, List.nil_append, List.cons_append,
      Nat.zero_add, Nat.reduceAdd, Nat.reduceLT, Nat.reduceLeDiff, Nat.reduceEqDiff, Nat.reduceBEq, Bool.and_true, Bool.true_and, Bool.and_false, Bool.false_and, Bool.or_false, Bool.or_true, Bool.false_or, Bool.true_or, Bool.not_true, Bool.not_false, decide_true, decide_false, if_true, if_false, ite_true, ite_false, reduceIte, List.nodup_nil, List.nodup_cons, List.not_mem_nil, List.mem_cons, not_false_eq_true, and_self, and_true, true_and, Nat.lt_add_one, Nat.zero_lt_succ, Nat.lt_succ_self, reduceCtorEq, Nat.succ_ne_zero, ne_eq, not_true, or_self, or_false, false_or, decide_eq_true_eq,
      y_add, y_sub, y_neg, y_mul, y_mod, y_fdiv, y_addT, y_addL, y_lt, y_le, y_gt, y_ge, y_isN, y_notN, y_lenT, y_lenL, y_abs, y_int, y_intB, y_listT, y_listL, y_tupT, y_tupL, y_revT, y_revL, y_isi, y_itemT, y_itemL, y_slcT, y_slcL, y_slcS, cut_to, cut_from, cut_mid, cut_neg1, y_range, Int.toNat_natCast, Int.reduceToNat, y_wL, y_wT, y_wE, y_wZ, y_wZT, y_range2, slN_nil, slN_nm, slN_tp, lenok, lenok2, y_in, y_notin, inS_ints, y_ssetL, y_ssetT, y_neNil, y_pow, p1016, y_mulL1, Int.cast_ofNat_Int, BEq.rfl, Int.reduceBEq, Int.reduceBNe, Int.reduceLT, Int.reduceLE, Int.reduceNeg, Int.reduceAdd, Int.reduceSub, y_eqS, y_neS, y_eqI, y_neI, y_allM, y_anyM, t_isTup_non, t_isTup_bl, t_isTup_int, t_isTup_str, t_isTup_tup, t_isTup_lst, t_isTup_dK, t_isTup_dT, t_isTup_obj, t_isTup_scr, t_isInB_non, t_isInB_bl, t_isInB_int, t_isInB_str, t_isInB_tup, t_isInB_lst, t_isInB_dK, t_isInB_dT, t_isInB_obj, t_isInB_scr, t_isBo_non, t_isBo_bl, t_isBo_int, t_isBo_str, t_isBo_tup, t_isBo_lst, t_isBo_dK, t_isBo_dT, t_isBo_obj, t_isBo_scr, t_isSt_non, t_isSt_bl, t_isSt_int, t_isSt_str, t_isSt_tup, t_isSt_lst, t_isSt_dK, t_isSt_dT, t_isSt_obj, t_isSt_scr, t_isLi_non, t_isLi_bl, t_isLi_int, t_isLi_str, t_isLi_tup, t_isLi_lst, t_isLi_dK, t_isLi_dT, t_isLi_obj, t_isLi_scr, t_isDi_non, t_isDi_bl, t_isDi_int, t_isDi_str, t_isDi_tup, t_isDi_lst, t_isDi_dK, t_isDi_dT, t_isDi_obj, t_isDi_scr, t_isNon_non, t_isNon_bl, t_isNon_int, t_isNon_str, t_isNon_tup, t_isNon_lst, t_isNon_dK, t_isNon_dT, t_isNon_obj, t_isNon_scr, t_plainD_non, t_plainD_bl, t_plainD_int, t_plainD_str, t_plainD_tup, t_plainD_lst, t_plainD_dK, t_plainD_dT, t_plainD_obj, t_plainD_scr, seti_0, seti_1, seti_2, seti_3, apnd_l, atI_0, atI_1, atI_2, atI_3, atI_4, sizeL, y_isTup, y_isInt, y_isBool, y_isStr, y_isList, y_isDict, pl_len, ix1, ix2, ix3, ct_Source___init__, ctn_Source, pmis_integer, pmis_count, pmis_name, pmis_rising, pmis_place, pmis_program, pmis_steps, pmis_watcher, pmis_end, pmafter_one, pmafter_many, pmtold_from, pmtaken_from, pmall_moves, pmis_numbers, pm_law_kneaded, pm_law_pot_of, pm_law_below, pm_law_pick, pm_law_some_program, pm_law_some_watcher, pm_law_word, pmlaw, pmSource___init__, fis_integer, fis_count, fis_name, fis_rising, fis_place, fis_program, fis_steps, fis_watcher, fis_end, fafter_one, fafter_many, ftold_from, ftaken_from, fall_moves, fis_numbers, f_law_kneaded, f_law_pot_of, f_law_below, f_law_pick, f_law_some_program, f_law_some_watcher, f_law_word, flaw, fSource___init__])
local macro_rules
  | `(tactic| walk_at "mps") => `(tactic| simp (implicitDefEqProofs := false) (disch := first | assumption | omega | (simp only [List.length_map, List.length_take, List.length_drop, List.length_append, List.length_reverse, List.length_cons, List.length_nil, List.length_replicate, rng_len, List.length_set, List.length_zipWith, List.length_zipIdx, List.length_dropLast]; omega)) only [↓sx_cons, ↓sx_nil, ↓s1_set, ↓s1_sett, ↓s1_par, ↓s1_expr, ↓s1_ret, ↓s1_forr, ↓s1_whl, ↓s1_app, ↓s1_seti, ↓s1_setf, ↓s1_pass, ↓s1_brk, ↓s1_cont, ↓s1_raise, sutK,
      ↓ew_var, ↓ew_cst, ↓ew_glo, ↓ew_bi, ↓ew_chain, ↓ew_slc, ↓ew_and, ↓ew_or, ↓ew_not, ↓ew_ife, ↓ew_tup, ↓ew_lst, ↓ew_dct0, ↓ew_call, ↓ew_callk, ↓ew_comp, ↓ew_compn, ↓enN_nil, ↓enN_cons, ↓ew_mth, ↓ew_tapp, ↓ew_prp, ↓ew_leno, ↓ew_inn, ↓ew_eqo, ↓ew_new, ↓bw_, ↓pw_n, ↓pw_s, ↓fsW_nil, ↓fsW_cons, ↓osW_nil, ↓osW_cons, ↓asW_nil, ↓asW_cons, ↓a1W_t, ↓a1W_f, ↓csW_nil, ↓csW_one,
      ↓ow_var, ↓ow_cst, ↓ow_glo, ↓ow_bi, ↓ow_chain, ↓ow_slc, ↓ow_and, ↓ow_or, ↓ow_not, ↓ow_ife, ↓ow_call, ↓ow_callk, ↓ow_tup, ↓ow_lst, ↓ow_dct0, ↓ow_comp, ↓ow_compn, ↓ow_mth, ↓ow_tapp, ↓ow_prp, ↓ow_new, ↓ow_inn, ↓ow_leno, ↓ow_eqo,
      ↓kCq_, ↓kTd_, ↓kTc_, ↓kTb_, ↓kTa_, ↓kMc_, ↓kMb_, ↓kMa_, ↓kMd_, ↓kMe_, ↓kPb_, ↓kPa_, ↓kPo_, ↓kLn3_, ↓kLn2_, ↓kLn_, ↓kIn2_t, ↓kIn2_f, ↓kIn_, ↓kIc_, ↓kIb_, ↓kIa_, ↓kIo_, ↓kQc_, ↓kQb_, ↓kQa_, ↓kQo_, ↓kNq_, ↓kNw_, ↓kNz_, ↓kNb_, ↓kNa_, ↓kNo_, ↓kSf_, ↓kSg_, ↓kCk_, ↓kNe_, ↓kV_, ↓kE_, ↓kS_, ↓kX_, ↓kFz_, ↓kQv_, ↓kBi_, ↓kBi2_, ↓kOw_, ↓kCh4_, ↓kCh3_, ↓kCh2_, ↓kCh1_, ↓kB_, ↓kBw_, ↓kI_, ↓kPw_, ↓kSl3_, ↓kSl2_, ↓kSl1_, ↓kAn_, ↓kOr_, ↓kNt_, ↓kIe_, ↓kCons_, ↓kFs_, ↓kOs_, ↓kAs_, ↓kD_, ↓kTup_, ↓kLst_, ↓kRc_, ↓kAl_, ↓kCp2_, ↓kCp1_, ↓kCp_, ↓rq_conds, ↓kEl_, ↓rq_elt, ↓fq_body, ↓rq_cond, ↓kSq_, ↓kSt_, ↓kPt_, ↓kSet_, ↓kPr2_, ↓kPr1_, ↓kNx_, ↓kIf_, ↓kFo2_, ↓kFo1_, ↓kFo_, ↓kPut_, ↓kOwn_, ↓kAp_, ↓kSe2_, ↓kSe1_, ↓kCl_, ↓kTr1_, ↓kTr_, ↓kOu_, ↓kEn_, ↓kEv_, ↓kEx_, ↓kC1_, ↓kC0_, ↓kEt_, ↓kN0_, ↓kCi_, ↓kLb_, ↓kCb_, ↓kM1_, ↓kM0_, ↓kMp_, ↓kEnd_, ↓kEn0_, ↓kEn1_, ↓kEn2_, ↓kCo0_, ↓kCo1_, ↓kCo2_, ↓kCo3_, ↓kLc3_, ↓kLc2_, ↓kLcN_, ↓kLc1_, ↓kLc_,
      vaW_fz, vaW_ow, voW_fz, voW_ow, vwW_ow, neW_, opW_some, biW_some, wkW_some, ifW_t, ifW_f, andW_t, asBW_, asIW_, hnW_t, hnW_f, rtW_s, rtW_n, rvW_fz, rvW_ow, isVar, clW_, caW_, ckW_, rcW_, okCall,
      slD_fz, slD_ow, rsv_loc, rsv_d, rsvs_nil, rsvs_cons, shp_nil, shp_t, shp_f, locs_nil, locs_l, locs_d', isOw_, putOuts_l, putOuts_d', putOuts_n, ownD_, lsB_, owB_, enW_nil, enW_cons, ouW_, tbl_md, tbl_gl, tbl_isx, tbl_kw, tbl_ct, nwW_, taW_, isObj_d, xF, List.headD_cons, List.tail_cons, List.tail_nil, List.take_succ_cons, List.take_zero, mdO_,
      slotOf, Val.d, Tg.free, Tg.slots, freeO, clr, put, wipeE, backE, Option.bind_some, Option.map_some, List.getElem?_cons_zero, List.getElem?_cons_succ, List.getElem?_nil, List.set_cons_zero, List.set_cons_succ, List.length_cons, List.length_nil, List.zip_cons_cons, List.zip_nil_left, List.zip_nil_right, List.all_cons, List.all_nil, List.contains_cons, List.contains_nil, List.map_cons, List.map_nil, List.foldl_cons, List.foldl_nil, List.append_nil, List.nil_append, List.cons_append,
      Nat.zero_add, Nat.reduceAdd, Nat.reduceLT, Nat.reduceLeDiff, Nat.reduceEqDiff, Nat.reduceBEq, Bool.and_true, Bool.true_and, Bool.and_false, Bool.false_and, Bool.or_false, Bool.or_true, Bool.false_or, Bool.true_or, Bool.not_true, Bool.not_false, decide_true, decide_false, if_true, if_false, ite_true, ite_false, reduceIte, List.nodup_nil, List.nodup_cons, List.not_mem_nil, List.mem_cons, not_false_eq_true, and_self, and_true, true_and, Nat.lt_add_one, Nat.zero_lt_succ, Nat.lt_succ_self, reduceCtorEq, Nat.succ_ne_zero, ne_eq, not_true, or_self, or_false, false_or, decide_eq_true_eq,
      y_add, y_sub, y_neg, y_mul, y_mod, y_fdiv, y_addT, y_addL, y_lt, y_le, y_gt, y_ge, y_isN, y_notN, y_lenT, y_lenL, y_abs, y_int, y_intB, y_listT, y_listL, y_tupT, y_tupL, y_revT, y_revL, y_isi, y_itemT, y_itemL, y_slcT, y_slcL, y_slcS, cut_to, cut_from, cut_mid, cut_neg1, y_range, Int.toNat_natCast, Int.reduceToNat, y_wL, y_wT, y_wE, y_wZ, y_wZT, y_range2, slN_nil, slN_nm, slN_tp, lenok, lenok2, y_in, y_notin, inS_ints, y_ssetL, y_ssetT, y_neNil, y_pow, p1016, y_mulL1, Int.cast_ofNat_Int, BEq.rfl, Int.reduceBEq, Int.reduceBNe, Int.reduceLT, Int.reduceLE, Int.reduceNeg, Int.reduceAdd, Int.reduceSub, y_eqS, y_neS, y_eqI, y_neI, y_allM, y_anyM, t_isTup_non, t_isTup_bl, t_isTup_int, t_isTup_str, t_isTup_tup, t_isTup_lst, t_isTup_dK, t_isTup_dT, t_isTup_obj, t_isTup_scr, t_isInB_non, t_isInB_bl, t_isInB_int, t_isInB_str, t_isInB_tup, t_isInB_lst, t_isInB_dK, t_isInB_dT, t_isInB_obj, t_isInB_scr, t_isBo_non, t_isBo_bl, t_isBo_int, t_isBo_str, t_isBo_tup, t_isBo_lst, t_isBo_dK, t_isBo_dT, t_isBo_obj, t_isBo_scr, t_isSt_non, t_isSt_bl, t_isSt_int, t_isSt_str, t_isSt_tup, t_isSt_lst, t_isSt_dK, t_isSt_dT, t_isSt_obj, t_isSt_scr, t_isLi_non, t_isLi_bl, t_isLi_int, t_isLi_str, t_isLi_tup, t_isLi_lst, t_isLi_dK, t_isLi_dT, t_isLi_obj, t_isLi_scr, t_isDi_non, t_isDi_bl, t_isDi_int, t_isDi_str, t_isDi_tup, t_isDi_lst, t_isDi_dK, t_isDi_dT, t_isDi_obj, t_isDi_scr, t_isNon_non, t_isNon_bl, t_isNon_int, t_isNon_str, t_isNon_tup, t_isNon_lst, t_isNon_dK, t_isNon_dT, t_isNon_obj, t_isNon_scr, t_plainD_non, t_plainD_bl, t_plainD_int, t_plainD_str, t_plainD_tup, t_plainD_lst, t_plainD_dK, t_plainD_dT, t_plainD_obj, t_plainD_scr, seti_0, seti_1, seti_2, seti_3, apnd_l, atI_0, atI_1, atI_2, atI_3, atI_4, sizeL, y_isTup, y_isInt, y_isBool, y_isStr, y_isList, y_isDict, pl_len, ix1, ix2, ix3, ct_Source___init__, ctn_Source, pmis_integer, pmis_count, pmis_name, pmis_rising, pmis_place, pmis_program, pmis_steps, pmis_watcher, pmis_end, pmafter_one, pmafter_many, pmtold_from, pmtaken_from, pmall_moves, pmis_numbers, pm_law_kneaded, pm_law_pot_of, pm_law_below, pm_law_pick, pm_law_some_program, pm_law_some_watcher, pm_law_word, pmlaw, pmSource___init__, fis_integer, fis_count, fis_name, fis_rising, fis_place, fis_program, fis_steps, fis_watcher, fis_end, fafter_one, fafter_many, ftold_from, ftaken_from, fall_moves, fis_numbers, f_law_kneaded, f_law_pot_of, f_law_below, f_law_pick, f_law_some_program, f_law_some_watcher, f_law_word, flaw, fSource___init__])
local macro_rules
  | `(tactic| walk_at "mq") => `(tactic| simp (implicitDefEqProofs := false) (disch := first | assumption | omega | (simp only [List.length_map, List.length_take, List.length_drop, List.length_append, List.length_reverse, List.length_cons, List.length_nil, List.length_replicate, rng_len, List.length_set, List.length_zipWith, List.length_zipIdx, List.length_dropLast]; omega)) only [↓sx_cons, ↓sx_nil, ↓s1_set, ↓s1_sett, ↓s1_par, ↓s1_expr, ↓s1_ret, ↓s1_iff, ↓s1_forr, ↓s1_whl, ↓s1_app, ↓s1_seti, ↓s1_setf, ↓s1_pass, ↓s1_brk, ↓s1_cont, ↓s1_raise, ↓s1_try, sutK,
      ↓ew_var, ↓ew_cst, ↓ew_glo, ↓ew_bi, ↓ew_chain, ↓ew_slc, ↓ew_and, ↓ew_or, ↓ew_not, ↓ew_ife, ↓ew_tup, ↓ew_lst, ↓ew_dct0, ↓ew_call, ↓ew_callk, ↓ew_comp, ↓ew_compn, ↓enN_nil, ↓enN_cons, ↓ew_mth, ↓ew_tapp, ↓ew_prp, ↓ew_leno, ↓ew_inn, ↓ew_eqo, ↓ew_new, ↓bw_, ↓pw_n, ↓pw_s, ↓fsW_nil, ↓fsW_cons, ↓osW_nil, ↓osW_cons, ↓asW_nil, ↓asW_cons, ↓a1W_t, ↓a1W_f, ↓csW_nil, ↓csW_one,
      ↓ow_var, ↓ow_cst, ↓ow_glo, ↓ow_bi, ↓ow_chain, ↓ow_slc, ↓ow_and, ↓ow_or, ↓ow_not, ↓ow_ife, ↓ow_call, ↓ow_callk, ↓ow_tup, ↓ow_lst, ↓ow_dct0, ↓ow_comp, ↓ow_compn, ↓ow_mth, ↓ow_tapp, ↓ow_prp, ↓ow_new, ↓ow_inn, ↓ow_leno, ↓ow_eqo,
      ↓kCq_, ↓kTd_, ↓kTc_, ↓kTb_, ↓kTa_, ↓kMc_, ↓kMb_, ↓kMa_, ↓kMd_, ↓kMe_, ↓kPb_, ↓kPa_, ↓kPo_, ↓kLn3_, ↓kLn2_, ↓kLn_, ↓kIn2_t, ↓kIn2_f, ↓kIn_, ↓kIc_, ↓kIb_, ↓kIa_, ↓kIo_, ↓kQc_, ↓kQb_, ↓kQa_, ↓kQo_, ↓kNq_, ↓kNw_, ↓kNz_, ↓kNb_, ↓kNa_, ↓kNo_, ↓kSf_, ↓kSg_, ↓kCk_, ↓kNe_, ↓kV_, ↓kE_, ↓kS_, ↓kX_, ↓kFz_, ↓kQv_, ↓kBi_, ↓kBi2_, ↓kOw_, ↓kCh4_, ↓kCh3_, ↓kCh2_, ↓kCh1_, ↓kB_, ↓kBw_, ↓kI_, ↓kPw_, ↓kSl3_, ↓kSl2_, ↓kSl1_, ↓kAn_, ↓kOr_, ↓kNt_, ↓kIe_, ↓kCons_, ↓kFs_, ↓kOs_, ↓kAs_, ↓kD_, ↓kTup_, ↓kLst_, ↓kRc_, ↓kAl_, ↓kCp2_, ↓kCp1_, ↓kCp_, ↓rq_conds, ↓kEl_, ↓rq_elt, ↓fq_body, ↓rq_cond, ↓kSq_, ↓kSt_, ↓kPt_, ↓kSet_, ↓kPr2_, ↓kPr1_, ↓kNx_, ↓kIf_, ↓kFo2_, ↓kFo1_, ↓kFo_, ↓kPut_, ↓kOwn_, ↓kAp_, ↓kSe2_, ↓kSe1_, ↓kCl_, ↓kTr1_, ↓kTr_, ↓kOu_, ↓kEn_, ↓kEv_, ↓kEx_, ↓kC1_, ↓kC0_, ↓kEt_, ↓kN0_, ↓kCi_, ↓kLb_, ↓kCb_, ↓kM1_, ↓kM0_, ↓kMp_, ↓kEnd_, ↓kEn0_, ↓kEn1_, ↓kEn2_, ↓kCo0_, ↓kCo1_, ↓kCo2_, ↓kCo3_, ↓kLc3_, ↓kLc2_, ↓kLcN_, ↓kLc1_, ↓kLc_,
      vaW_fz, vaW_ow, voW_fz, voW_ow, vwW_ow, neW_, opW_some, biW_some, wkW_some, ifW_t, ifW_f, andW_t, asBW_, asIW_, hnW_t, hnW_f, rtW_s, rtW_n, rvW_fz, rvW_ow, isVar, clW_, caW_, ckW_, rcW_, okCall,
      slD_fz, slD_ow, rsv_loc, rsv_d, rsvs_nil, rsvs_cons, shp_nil, shp_t, shp_f, locs_nil, locs_l, locs_d', isOw_, putOuts_l, putOuts_d', putOuts_n, ownD_, lsB_, owB_, enW_nil, enW_cons, ouW_, tbl_md, tbl_gl, tbl_isx, tbl_kw, tbl_ct, nwW_, taW_, isObj_d, xF, List.headD_cons, List.tail_cons, List.tail_nil, List.take_succ_cons, List.take_zero, mdO_,
      slotOf, Val.d, Tg.free, Tg.slots, freeO, clr, put, wipeE, backE, Option.bind_some, Option.map_some, List.getElem?_cons_zero, List.getElem?_cons_succ, List.getElem?_nil, List.set_cons_zero, List.set_cons_succ, List.length_cons, List.length_nil, List.zip_cons_cons, List.zip_nil_left, List.zip_nil_right, List.all_cons, List.all_nil, List.contains_cons, List.contains_nil, List.map_cons, List.map_nil, List.foldl_cons, List.foldl_nil, List.append_nil, List.nil_append, List.cons_append,
      Nat.zero_add, Nat.reduceAdd, Nat.reduceLT, Nat.reduceLeDiff, Nat.reduceEqDiff, Nat.reduceBEq, Bool.and_true, Bool.true_and, Bool.and_false, Bool.false_and, Bool.or_false, Bool.or_true, Bool.false_or, Bool.true_or, Bool.not_true, Bool.not_false, decide_true, decide_false, if_true, if_false, ite_true, ite_false, reduceIte, List.nodup_nil, List.nodup_cons, List.not_mem_nil, List.mem_cons, not_false_eq_true, and_self, and_true, true_and, Nat.lt_add_one, Nat.zero_lt_succ, Nat.lt_succ_self, reduceCtorEq, Nat.succ_ne_zero, ne_eq, not_true, or_self, or_false, false_or, decide_eq_true_eq,
      y_add, y_sub, y_neg, y_mul, y_mod, y_fdiv, y_addT, y_addL, y_lt, y_le, y_gt, y_ge, y_isN, y_notN, y_lenT, y_lenL, y_abs, y_int, y_intB, y_listT, y_listL, y_tupT, y_tupL, y_revT, y_revL, y_isi, y_itemT, y_itemL, y_slcT, y_slcL, y_slcS, cut_to, cut_from, cut_mid, cut_neg1, y_range, Int.toNat_natCast, Int.reduceToNat, y_wL, y_wT, y_wE, y_wZ, y_wZT, y_range2, slN_nil, slN_nm, slN_tp, lenok, lenok2, y_in, y_notin, inS_ints, y_ssetL, y_ssetT, y_neNil, y_pow, p1016, y_mulL1, Int.cast_ofNat_Int, BEq.rfl, Int.reduceBEq, Int.reduceBNe, Int.reduceLT, Int.reduceLE, Int.reduceNeg, Int.reduceAdd, Int.reduceSub, y_eqS, y_neS, y_eqI, y_neI, y_allM, y_anyM, t_isTup_non, t_isTup_bl, t_isTup_int, t_isTup_str, t_isTup_tup, t_isTup_lst, t_isTup_dK, t_isTup_dT, t_isTup_obj, t_isTup_scr, t_isInB_non, t_isInB_bl, t_isInB_int, t_isInB_str, t_isInB_tup, t_isInB_lst, t_isInB_dK, t_isInB_dT, t_isInB_obj, t_isInB_scr, t_isBo_non, t_isBo_bl, t_isBo_int, t_isBo_str, t_isBo_tup, t_isBo_lst, t_isBo_dK, t_isBo_dT, t_isBo_obj, t_isBo_scr, t_isSt_non, t_isSt_bl, t_isSt_int, t_isSt_str, t_isSt_tup, t_isSt_lst, t_isSt_dK, t_isSt_dT, t_isSt_obj, t_isSt_scr, t_isLi_non, t_isLi_bl, t_isLi_int, t_isLi_str, t_isLi_tup, t_isLi_lst, t_isLi_dK, t_isLi_dT, t_isLi_obj, t_isLi_scr, t_isDi_non, t_isDi_bl, t_isDi_int, t_isDi_str, t_isDi_tup, t_isDi_lst, t_isDi_dK, t_isDi_dT, t_isDi_obj, t_isDi_scr, t_isNon_non, t_isNon_bl, t_isNon_int, t_isNon_str, t_isNon_tup, t_isNon_lst, t_isNon_dK, t_isNon_dT, t_isNon_obj, t_isNon_scr, t_plainD_non, t_plainD_bl, t_plainD_int, t_plainD_str, t_plainD_tup, t_plainD_lst, t_plainD_dK, t_plainD_dT, t_plainD_obj, t_plainD_scr, seti_0, seti_1, seti_2, seti_3, apnd_l, atI_0, atI_1, atI_2, atI_3, atI_4, sizeL, y_isTup, y_isInt, y_isBool, y_isStr, y_isList, y_isDict, pl_len, ix1, ix2, ix3, ct_Source___init__, ctn_Source, pmis_integer, pmis_count, pmis_name, pmis_rising, pmis_place, pmis_program, pmis_steps, pmis_watcher, pmis_end, pmafter_one, pmafter_many, pmtold_from, pmtaken_from, pmall_moves, pmis_numbers, pm_law_kneaded, pm_law_pot_of, pm_law_below, pm_law_pick, pm_law_some_program, pm_law_some_watcher, pm_law_word, pmlaw, pmSource___init__, fis_integer, fis_count, fis_name, fis_rising, fis_place, fis_program, fis_steps, fis_watcher, fis_end, fafter_one, fafter_many, ftold_from, ftaken_from, fall_moves, fis_numbers, f_law_kneaded, f_law_pot_of, f_law_below, f_law_pick, f_law_some_program, f_law_some_watcher, f_law_word, flaw, fSource___init__, *])
/-- what Source says of the two -/
def wrd (d e : D) : D := if prg d then (match d with | .tup ds => if wat e && mkl ds.length e then .non else .str "watcher" | _ => .non) else .str "program"
theorem prg_tup {d : D} (h : prg d = true) : ∃ ds, d = .tup ds := by
  cases d <;> first | exact ⟨_, rfl⟩ | (exact Bool.noConfusion h)
theorem e_word_p {n : Nat} {d e : D} (hr : Dok (.tup [d, e])) (hp : prg d = false) : (tbl Pm gl isx kw ct (n + 7)).sem "_law_word" [d, e] = .ok (.fz (.str "program")) [] := by
  have h1 : Dok d := hr.tup.mem (by simp)
  have h2 : Dok e := hr.tup.mem (by simp)
  refine cw_ok.mp (cw_def [] [.fz d, .fz e, .un, .un, .un] pm_law_word ⟨rfl, by decide⟩ rfl rfl ?_)
  unfold b_law_word
  have hk := hr.rok (Nat.le_refl _) (Nat.le_refl _)
  walk_at "mp"
  rw [y_repr' hk]
  walk_at "mp"
  rw [e_init_prog srcs h1 hp]
  refine ⟨rfl, ?_⟩
  walk_at "mp"
  rw [y_repr' hk]
  walk_at "mp"
theorem e_word_w {n : Nat} {d e : D} (hr : Dok (.tup [d, e])) (hp : prg d = true) {m : Nat} (hm : ∃ ds, d = .tup ds ∧ ds.length = m) (hw : (wat e && mkl m e) = false) : (tbl Pm gl isx kw ct (n + 7)).sem "_law_word" [d, e] = .ok (.fz (.str "watcher")) [] := by
  have h1 : Dok d := hr.tup.mem (by simp)
  have h2 : Dok e := hr.tup.mem (by simp)
  refine cw_ok.mp (cw_def [] [.fz d, .fz e, .un, .un, .un] pm_law_word ⟨rfl, by decide⟩ rfl rfl ?_)
  unfold b_law_word
  have hk := hr.rok (Nat.le_refl _) (Nat.le_refl _)
  walk_at "mp"
  rw [y_repr' hk]
  walk_at "mp"
  rw [e_init_wat srcs h1 h2 hp hm hw]
  refine ⟨rfl, ?_⟩
  walk_at "mp"
  rw [y_repr' hk]
  walk_at "mp"
theorem e_word_ok {n : Nat} {Pg : Prog} (w : Wf Pg) {W : Wt} (wf : Wtf W) (hr : Dok (.tup [pd Pg, wd W])) (hm : ∀ x ∈ W.ms, x < Pg.length) : (tbl Pm gl isx kw ct (n + 7)).sem "_law_word" [pd Pg, wd W] = .ok (.fz .non) [] := by
  have h1 : Dok (pd Pg) := hr.tup.mem (by simp)
  have h2 : Dok (wd W) := hr.tup.mem (by simp)
  refine cw_ok.mp (cw_def [] [.fz (pd Pg), .fz (wd W), .un, .un, .un] pm_law_word ⟨rfl, by decide⟩ rfl rfl ?_)
  unfold b_law_word
  have hk := hr.rok (Nat.le_refl _) (Nat.le_refl _)
  walk_at "mp"
  rw [y_repr' hk]
  walk_at "mp"
  rw [e_init_ok srcs srcc w wf h1 h2 hm]
  refine ⟨rfl, ?_⟩
  walk_at "mp"
  rw [y_repr' hk]
  walk_at "mp"
theorem sm_two {a b : D} {w k w2 k2 : Nat} (h : Sm w k a) (h2 : Sm w2 k2 b) (a1 : w ≤ 48000) (a2 : k ≤ 30) (a3 : w2 ≤ 48000) (a4 : k2 ≤ 30) : Dok (.tup [a, b]) :=
  (sm_tup (w := 48000) (k := 30) (L := 2) (fun d hd => by
    simp only [List.mem_cons, List.not_mem_nil, or_false] at hd
    rcases hd with rfl | rfl
    · exact h.mono a1 a2
    · exact h2.mono a3 a4) (by simp)).mono (by decide) (by decide)
/-- what is no program -/
def odd1 (m : Nat) : List D := [.non, .tup [.str "a"], .tup [.str "A", .tup []], .tup [.str "a", .tup [.int m]], .tup [.str "a", .lst [.int 0]]]
theorem A_no : nam (.str "A") = false := by decide +kernel
theorem odd1_no {m : Nat} {x : D} (h : x ∈ odd1 m) : plc m x = false := by
  simp only [odd1, List.mem_cons, List.not_mem_nil, or_false] at h
  rcases h with rfl | rfl | rfl | rfl | rfl
  · rfl
  · rfl
  · show (nam (.str "A") && _ && _) = false
    rw [A_no]; rfl
  · show (_ && _ && (decide ((m : Int) < (m : Int)) && true)) = false
    simp
  · show (_ && false && _) = false
    rw [Bool.and_false]; rfl
theorem odd1_sm {m : Nat} (hm : m ≤ 8) {x : D} (h : x ∈ odd1 m) : Sm 658 2 x := by
  simp only [odd1, List.mem_cons, List.not_mem_nil, or_false] at h
  have sa : Sm 328 1 (.str "a") := (sm_str (w := 1) (by decide) (by decide)).mono (by decide) (by decide)
  have sA : Sm 328 1 (.str "A") := (sm_str (w := 1) (by decide) (by decide)).mono (by decide) (by decide)
  have s0 : Sm 328 1 (.tup []) := (sm_tup (w := 0) (k := 0) (L := 0) (fun d hd => by cases hd) (by simp)).mono (by decide) (by decide)
  have sm : Sm 328 1 (.tup [.int m]) := (sm_tup (w := 40) (k := 0) (L := 1) (fun d hd => by rcases List.mem_singleton.mp hd with rfl; exact sm_int (by omega) (by omega)) (by simp)).mono (by decide) (by decide)
  have sl : Sm 328 1 (.lst [.int 0]) := (sm_lst (w := 40) (k := 0) (L := 1) (fun d hd => by rcases List.mem_singleton.mp hd with rfl; exact sm_int (by omega) (by omega)) (by simp)).mono (by decide) (by decide)
  have two : ∀ {a b : D}, Sm 328 1 a → Sm 328 1 b → Sm 658 2 (.tup [a, b]) := fun {a b} h1 h2 => sm_tup (w := 328) (k := 1) (L := 2) (fun d hd => by
    simp only [List.mem_cons, List.not_mem_nil, or_false] at hd
    rcases hd with rfl | rfl
    · exact h1
    · exact h2) (by simp)
  rcases h with rfl | rfl | rfl | rfl | rfl
  · exact sm_non.mono (by decide) (by decide)
  · exact (sm_tup (w := 328) (k := 1) (L := 1) (fun d hd => by rcases List.mem_singleton.mp hd with rfl; exact sa) (by simp)).mono (by decide) (by decide)
  · exact two sA s0
  · exact two sa sm
  · exact two sa sl
/-- what is no watcher: a wrong part at any place -/
def odd2 : List D := [.int 31, .int (0 - 1), .bl true, .str "x", .lst [], .tup [.int 9]]
theorem odd2_sm {x : D} (h : x ∈ odd2) : Sm 328 1 x := by
  simp only [odd2, List.mem_cons, List.not_mem_nil, or_false] at h
  rcases h with rfl | rfl | rfl | rfl | rfl | rfl
  · exact (sm_int (by omega) (by omega)).mono (by decide) (by decide)
  · exact (sm_int (by omega) (by omega)).mono (by decide) (by decide)
  · exact sm_bl.mono (by decide) (by decide)
  · exact (sm_str (w := 1) (by decide) (by decide)).mono (by decide) (by decide)
  · exact (sm_lst (w := 0) (k := 0) (L := 0) (fun d hd => by cases hd) (by simp)).mono (by decide) (by decide)
  · exact (sm_tup (w := 40) (k := 0) (L := 1) (fun d hd => by rcases List.mem_singleton.mp hd with rfl; exact sm_int (by omega) (by omega)) (by simp)).mono (by decide) (by decide)
theorem odd2_stp {x : D} (h : x ∈ odd2) {l : Int} (hl : 0 ≤ l) : stp x (.int l) = false := by
  simp only [odd2, List.mem_cons, List.not_mem_nil, or_false] at h
  rcases h with rfl | rfl | rfl | rfl | rfl | rfl
  · show (_ && decide ((31 : Int) ≤ 30)) = false
    rw [Bool.and_comm]; rfl
  · show (decide (l ≤ (0 - 1 : Int)) && _) = false
    rw [decide_eq_false (by omega)]; rfl
  · rfl
  · rfl
  · rfl
  · rfl
theorem odd2_non {x : D} (h : x ∈ odd2) : isNon x = false := by
  simp only [odd2, List.mem_cons, List.not_mem_nil, or_false] at h
  rcases h with rfl | rfl | rfl | rfl | rfl | rfl <;> rfl
theorem odd2_ms {x : D} (h : x ∈ odd2) : (rise x && mk8 x) = false := by
  simp only [odd2, List.mem_cons, List.not_mem_nil, or_false] at h
  rcases h with rfl | rfl | rfl | rfl | rfl | rfl <;> rfl
theorem wrong_no {W : Wt} (wf : Wtf W) {x : D} (h : x ∈ odd2) : ∀ i < 5, wat (.tup ((wl W).set i x)) = false := by
  have a1 := wf.g0
  have a3 := wf.l0
  intro i hi
  match i, hi with
  | 0, _ =>
    show (stp x (.int 1) && _ && _ && _ && _ && _) = false
    rw [odd2_stp h (by decide)]; rfl
  | 1, _ =>
    show (_ && _ && (isNon x || stp x (.int W.g)) && _ && _ && _) = false
    rw [odd2_stp h (by omega), odd2_non h]
    simp
  | 2, _ =>
    show (_ && stp x (.int 0) && _ && _ && _ && _) = false
    rw [odd2_stp h (by decide)]
    simp
  | 3, _ =>
    show (_ && _ && _ && stp x (.int W.l) && _ && _) = false
    rw [odd2_stp h a3]
    simp
  | 4, _ =>
    show (_ && _ && _ && _ && rise x && mk8 x) = false
    rw [Bool.and_assoc, odd2_ms h, Bool.and_false]
theorem y_mulT {xs : List D} {k : Int} (h : xs ≠ []) (h1 : 2 ≤ k) (h2 : k ≤ 1000) (h3 : xs.length ≤ 1000) : bsem .mul [.tup xs, .int k] = some (.fz (.tup (List.replicate k.toNat xs).flatten)) := if_pos ⟨h, h1, h2, h3⟩
theorem all_no {f : D → Bool} {xs : List D} {x : D} (hx : x ∈ xs) (h : f x = false) : xs.all f = false := by
  cases e : xs.all f with
  | false => rfl
  | true =>
    have := List.all_eq_true.mp e x hx
    rw [h] at this
    cases this
theorem bad_no {Pg : Prog} {a : Nat} (ha : a < Pg.length) {x : D} (h : plc Pg.length x = false) : prg (.tup (List.take a (pl Pg) ++ [x] ++ List.drop (a + 1) (pl Pg))) = false := by
  have e : (List.take a (pl Pg) ++ [x] ++ List.drop (a + 1) (pl Pg)).length = Pg.length := by
    simp only [List.length_append, List.length_take, List.length_drop, List.length_cons, List.length_nil, pl_len]
    omega
  show (_ && (List.take a (pl Pg) ++ [x] ++ List.drop (a + 1) (pl Pg)).all (plc (List.take a (pl Pg) ++ [x] ++ List.drop (a + 1) (pl Pg)).length)) = false
  rw [e, all_no (x := x) (by simp) h, Bool.and_false]
theorem nine_no {Pg : Prog} (w : Wf Pg) : prg (.tup (List.replicate 9 (pl Pg)).flatten) = false := by
  have lo := w.lo
  have e : (List.replicate 9 (pl Pg)).flatten.length = 9 * Pg.length := by
    simp [pl_len]
    omega
  show (_ && decide (((List.replicate 9 (pl Pg)).flatten.length : Int) ≤ 8) && _) = false
  rw [e, show decide (((9 * Pg.length : Nat) : Int) ≤ 8) = false from decide_eq_false (by omega), Bool.and_false, Bool.false_and]
theorem set_cut {xs : List D} {s : Nat} (h : s < xs.length) (x : D) : List.take s xs ++ [x] ++ List.drop (s + 1) xs = xs.set s x := by
  rw [List.set_eq_take_append_cons_drop, if_pos h]
  simp
theorem sm_cut {w k : Nat} {xs : List D} {x : D} {s : Nat} (h : ∀ d ∈ xs, Sm w k d) (hx : Sm w k x) : ∀ d ∈ List.take s xs ++ [x] ++ List.drop (s + 1) xs, Sm w k d := fun d hd => by
  simp only [List.mem_append, List.mem_singleton] at hd
  rcases hd with (hd | rfl) | hd
  · exact h d (List.mem_of_mem_take hd)
  · exact hx
  · exact h d (List.mem_of_mem_drop hd)
def ones (Pg : Prog) (bad : List D) : List D := [.non, .tup [], .lst [], .dK [] [], .str "x", .int 0, .tup bad, .lst (pl Pg), .tup (List.replicate 9 (pl Pg)).flatten]
theorem ones_ok {Pg : Prog} (w : Wf Pg) (hw : ∀ q ∈ Pg, q.1 ∈ words) {a : Nat} (ha : a < Pg.length) {x : D} (h : x ∈ odd1 Pg.length) {o : D} (ho : o ∈ ones Pg (List.take a (pl Pg) ++ [x] ++ List.drop (a + 1) (pl Pg))) : prg o = false ∧ Sm 48000 30 o := by
  have hi := w.hi
  have sp := sm_pl w hw
  simp only [ones, List.mem_cons, List.not_mem_nil, or_false] at ho
  rcases ho with rfl | rfl | rfl | rfl | rfl | rfl | rfl | rfl | rfl
  · exact ⟨rfl, sm_non.mono (by decide) (by decide)⟩
  · exact ⟨rfl, (sm_tup (w := 0) (k := 0) (L := 0) (fun d hd => by cases hd) (by simp)).mono (by decide) (by decide)⟩
  · exact ⟨rfl, (sm_lst (w := 0) (k := 0) (L := 0) (fun d hd => by cases hd) (by simp)).mono (by decide) (by decide)⟩
  · exact ⟨rfl, sm_d0.mono (by decide) (by decide)⟩
  · exact ⟨rfl, (sm_str (w := 1) (by decide) (by decide)).mono (by decide) (by decide)⟩
  · exact ⟨rfl, (sm_int (by omega) (by omega)).mono (by decide) (by decide)⟩
  · refine ⟨bad_no ha (odd1_no h), (sm_tup (w := 658) (k := 2) (L := 9) (sm_cut sp (odd1_sm hi h)) ?_).mono (by decide) (by decide)⟩
    simp only [List.length_append, List.length_take, List.length_drop, List.length_cons, List.length_nil, pl_len]
    omega
  · exact ⟨rfl, (sm_lst (w := 658) (k := 2) (L := 8) sp (by rw [pl_len]; exact hi)).mono (by decide) (by decide)⟩
  · refine ⟨nine_no w, (sm_tup (w := 658) (k := 2) (L := 72) (fun d hd => ?_) ?_).mono (by decide) (by decide)⟩
    · obtain ⟨l, hl, hd⟩ := List.mem_flatten.mp hd
      rw [(List.mem_replicate.mp hl).2] at hd
      exact sp d hd
    · simp [pl_len]; omega
theorem c_law {n : Nat} {ns : List Int} (hn : ns.length ≤ 63) : CW ((tbl Pm gl isx kw ct (n + 8)).sem "law" [.scr ns]) (fun v os => v = .fz (.bl true) ∧ os = []) Mw.noX := by
  refine cw_def [] [.fz (.scr ns), .un, .un, .un, .un, .un, .un, .un, .un, .un, .un, .un, .un, .un, .un] pmlaw ⟨rfl, by decide⟩ rfl rfl ?_
  unfold blaw
  walk_at "mp"
  refine cq_ok (c_potof drws.toPotL hn) ?_
  rintro _ _ ⟨rfl, d, rfl, h⟩
  refine ⟨rfl, ?_⟩
  walk_at "mp"
  refine lp_rng (fun i r => ∃ d x2 x3 x4 x5 x6 x7 x8 x9 x10 x11 x12 x13 x14, r = [.fz (.scr ns), .ow d, x2, x3, x4, x5, x6, x7, x8, x9, x10, x11, x12, x13, x14] ∧ PotOk (200 * i) d) ?_ ?_ ?_
  · exact ⟨_, _, _, _, _, _, _, _, _, _, _, _, _, _, rfl, h⟩
  · rintro i r hi ⟨d, x2, x3, x4, x5, x6, x7, x8, x9, x10, x11, x12, x13, x14, rfl, h⟩
    walk_at "mp"
    refine cq_ok (c_some_program drws h (by omega) (by decide) (by decide)) ?_
    rintro _ _ ⟨Pg, d, rfl, rfl, w, hk, hwd, h⟩
    refine ⟨rfl, ?_⟩
    have lo := w.lo
    have hi8 := w.hi
    have hpl := pl_len (P := Pg)
    walk_at "mp"
    refine cq_ok (c_some_watcher drws h (by omega) (by omega) (by omega)) ?_
    rintro _ _ ⟨W, d, rfl, rfl, wf, _, _, _, _, hms, h⟩
    refine ⟨rfl, ?_⟩
    walk_at "mp"
    refine cq_ok (c_below drws.toPotL h (by omega) (by omega) (by omega)) ?_
    rintro _ _ ⟨a, d, rfl, rfl, a1, a2, h⟩
    refine ⟨rfl, ?_⟩
    obtain ⟨a, rfl⟩ := Int.eq_ofNat_of_zero_le a1
    walk_at "mp"
    refine cq_ok (c_pick drws.toPotL h (by omega) (by simp) (by simp)) ?_
    rintro _ _ ⟨x, d, rfl, rfl, hx, h⟩
    refine ⟨rfl, ?_⟩
    have hx : x ∈ odd1 Pg.length := hx
    walk_at "mp"
    refine cq_ok (c_below drws.toPotL h (by omega) (by omega) (by omega)) ?_
    rintro _ _ ⟨s, d, rfl, rfl, s1, s2, h⟩
    refine ⟨rfl, ?_⟩
    obtain ⟨s, rfl⟩ := Int.eq_ofNat_of_zero_le s1
    walk_at "mp"
    refine cq_ok (c_pick drws.toPotL h (by omega) (by simp) (by simp)) ?_
    rintro _ _ ⟨y, d, rfl, rfl, hy, h⟩
    refine ⟨rfl, ?_⟩
    have hy : y ∈ odd2 := hy
    have t1 : ((a : Int) + 1).toNat = a + 1 := by omega
    have t2 : ((s : Int) + 1).toNat = s + 1 := by omega
    walk_at "mp"
    simp only [t1, t2]
    rw [y_mulT (fun e => by rw [e] at hpl; simp at hpl; omega) (by decide) (by decide) (by omega)]
    walk_at "mp"
    have ha : a < Pg.length := by omega
    have hs : s < 5 := by omega
    have hones := fun o ho => ones_ok w hwd ha hx (o := o) ho
    have sP := sm_pd w hwd
    have sW := sm_wd wf
    have sWr : Sm 2000 2 (.tup (List.take s (wl W) ++ [y] ++ List.drop (s + 1) (wl W))) := (sm_tup (w := 328) (k := 1) (L := 6) (sm_cut (sm_wl wf) (odd2_sm hy)) (by simp; omega)).mono (by decide) (by decide)
    have nWr : wat (.tup (List.take s (wl W) ++ [y] ++ List.drop (s + 1) (wl W))) = false := by
      rw [set_cut hs]
      exact wrong_no wf hy s hs
    have wm : ∀ (e : D), Sm 328 1 e → Sm 2000 2 (.tup [.int W.g, ob W.b, .int W.l, .int W.h, e]) := fun e he => (sm_tup (w := 328) (k := 1) (L := 5) (fun d hd => by
      simp only [List.mem_cons, List.not_mem_nil, or_false] at hd
      rcases hd with rfl | rfl | rfl | rfl | rfl
      · exact sm_wl wf _ (by simp)
      · exact sm_wl wf _ (by simp)
      · exact sm_wl wf _ (by simp)
      · exact sm_wl wf _ (by simp)
      · exact he) (by simp)).mono (by decide) (by decide)
    have sms : ∀ {l : List Int}, (∀ x ∈ l, -100 ≤ x ∧ x ≤ 100) → l.length ≤ 8 → Sm 328 1 (.tup (l.map .int)) := fun h l => sm_ints (L := 8) h l
    have sBe : Sm 2000 2 (.tup [.int W.g, ob W.b, .int W.l, .int W.h, .tup [.int (Pg.length : Nat)]]) := wm _ (sms (l := [(Pg.length : Nat)]) (fun x hx => by rcases List.mem_singleton.mp hx with rfl; omega) (by simp))
    have nBe : mkl Pg.length (.tup [.int W.g, ob W.b, .int W.l, .int W.h, .tup [.int (Pg.length : Nat)]]) = false := by
      show (decide ((Pg.length : Int) < (Pg.length : Int)) && true) = false
      simp
    generalize (List.take s (wl W) ++ [y] ++ List.drop (s + 1) (wl W)) = wr at sWr nWr
    generalize (List.take a (pl Pg) ++ [x] ++ List.drop (a + 1) (pl Pg)) = bad at hones
    refine lp_all (fun _ r => ∃ x11 x12, r = [.fz (.scr ns), .ow d, .fz (.int i), .fz (pd Pg), .fz (wd W), .fz (.int a), .fz x, .fz (.tup bad), .fz (.int s), .fz (.tup wr), .fz (.tup [.int W.g, ob W.b, .int W.l, .int W.h, .tup [.int (Pg.length : Nat)]]), x11, x12, x13, x14]) ?_ ?_ ?_
    · exact ⟨_, _, rfl⟩
    · rintro j o r ho ⟨x11, x12, rfl⟩
      obtain ⟨po, so⟩ := hones o (List.mem_of_getElem? ho)
      walk_at "mp"
      refine lp_all (fun _ r => ∃ x12, r = [.fz (.scr ns), .ow d, .fz (.int i), .fz (pd Pg), .fz (wd W), .fz (.int a), .fz x, .fz (.tup bad), .fz (.int s), .fz (.tup wr), .fz (.tup [.int W.g, ob W.b, .int W.l, .int W.h, .tup [.int (Pg.length : Nat)]]), .fz o, x12, x13, x14]) ?_ ?_ ?_
      · exact ⟨_, rfl⟩
      · rintro j e r he ⟨x12, rfl⟩
        have se : Sm 2000 2 e := by
          have he := List.mem_of_getElem? he
          simp only [List.mem_cons, List.not_mem_nil, or_false] at he
          rcases he with rfl | rfl | rfl | rfl
          · exact sm_non.mono (by decide) (by decide)
          · exact sWr
          · exact sBe
          · exact sW.mono (by decide) (by decide)
        walk_at "mp"
        rw [e_word_p (sm_two so se (by decide) (by decide) (by decide) (by decide)) po, cq_ok0 rfl]
        walk_at "mp"
        exact ⟨_, rfl⟩
      · rintro r ⟨x12, rfl⟩
        walk_at "mp"
        exact ⟨_, _, rfl⟩
    · rintro r ⟨x11, x12, rfl⟩
      walk_at "mps"
      refine lp_all (fun _ r => ∃ x12, r = [.fz (.scr ns), .ow d, .fz (.int i), .fz (pd Pg), .fz (wd W), .fz (.int a), .fz x, .fz (.tup bad), .fz (.int s), .fz (.tup wr), .fz (.tup [.int W.g, ob W.b, .int W.l, .int W.h, .tup [.int (Pg.length : Nat)]]), x11, x12, x13, x14]) ?_ ?_ ?_
      · exact ⟨_, rfl⟩
      · rintro j e r he ⟨x12, rfl⟩
        have se : Sm 2000 2 e ∧ (wat e && mkl Pg.length e) = false := by
          have he := List.mem_of_getElem? he
          simp only [List.mem_cons, List.not_mem_nil, or_false] at he
          rcases he with rfl | rfl | rfl | rfl | rfl | rfl | rfl | rfl | rfl | rfl | rfl
          · exact ⟨sm_non.mono (by decide) (by decide), rfl⟩
          · exact ⟨(sm_tup (w := 0) (k := 0) (L := 0) (fun d hd => by cases hd) (by simp)).mono (by decide) (by decide), rfl⟩
          · exact ⟨(sm_lst (w := 0) (k := 0) (L := 0) (fun d hd => by cases hd) (by simp)).mono (by decide) (by decide), rfl⟩
          · exact ⟨sm_d0.mono (by decide) (by decide), rfl⟩
          · exact ⟨(sm_str (w := 1) (by decide) (by decide)).mono (by decide) (by decide), rfl⟩
          · exact ⟨(sm_int (by omega) (by omega)).mono (by decide) (by decide), rfl⟩
          · exact ⟨sWr, by rw [nWr]; rfl⟩
          · exact ⟨(sm_lst (w := 328) (k := 1) (L := 5) (sm_wl wf) (by simp)).mono (by decide) (by decide), rfl⟩
          · exact ⟨(sm_tup (w := 328) (k := 1) (L := 5) (fun d hd => sm_wl wf d (by
              simp only [List.mem_cons, List.not_mem_nil, or_false] at hd ⊢
              rcases hd with h | h | h | h <;> simp [h])) (by simp)).mono (by decide) (by decide), rfl⟩
          · exact ⟨sBe, by rw [nBe, Bool.and_false]⟩
          · refine ⟨wm _ (sms (l := [0, 8]) (fun x hx => by
              simp only [List.mem_cons, List.not_mem_nil, or_false] at hx
              omega) (by simp)), ?_⟩
            show ((_ && (decide ((0 : Int) < 8) && (decide ((8 : Int) < 8) && true))) && _) = false
            rw [show (decide ((0 : Int) < 8) && (decide ((8 : Int) < 8) && true)) = false from rfl, Bool.and_false]
            rfl
        walk_at "mp"
        rw [e_word_w (sm_two sP se.1 (by decide) (by decide) (by decide) (by decide)) (prg_of w) ⟨_, rfl, pl_len⟩ se.2, cq_ok0 rfl]
        walk_at "mp"
        exact ⟨_, rfl⟩
      · rintro r ⟨x12, rfl⟩
        walk_at "mps"
        refine s1_cut (fun r => ∃ d x13, r = [.fz (.scr ns), .ow d, .fz (.int i), .fz (pd Pg), .fz (wd W), .fz (.int a), .fz x, .fz (.tup bad), .fz (.int s), .fz (.tup wr), .fz (.tup [.int W.g, ob W.b, .int W.l, .int W.h, .tup [.int (Pg.length : Nat)]]), x11, x12, x13, x14] ∧ PotOk (200 * i + 150) d) ?_ ?_
        · walk_at "mp"
          refine ifW_dec (fun q => ?_) fun q => ?_
          · walk_at "mp"
            refine cq_ok (c_below drws.toPotL h (by omega) (by omega) (by omega)) ?_
            rintro _ _ ⟨f, d, rfl, rfl, f1, f2, h⟩
            refine ⟨rfl, ?_⟩
            have hml := lt_length 0 Pg.length wf.up fun x hx => ⟨(wf.bd x hx).1, hms x hx⟩
            walk_at "mp"
            have e1 : W.ms.map D.int ++ [D.int ((Pg.length : Int) + f)] = (W.ms ++ [(Pg.length : Int) + f]).map D.int := by simp
            have sF := wm _ (sms (l := W.ms ++ [(Pg.length : Int) + f]) (fun x hx => by
              rcases List.mem_append.mp hx with hx | hx
              · have := wf.bd x hx; omega
              · rcases List.mem_singleton.mp hx with rfl; omega) (by simp; omega))
            rw [← e1] at sF
            have nF : mkl Pg.length (.tup [.int W.g, ob W.b, .int W.l, .int W.h, .tup (W.ms.map D.int ++ [D.int ((Pg.length : Int) + f)])]) = false := by
              refine all_no (x := .int ((Pg.length : Int) + f)) (by simp) ?_
              exact decide_eq_false (by omega)
            rw [e_word_w (sm_two sP sF (by decide) (by decide) (by decide) (by decide)) (prg_of w) ⟨_, rfl, pl_len⟩ (by rw [nF, Bool.and_false]), cq_ok0 rfl]
            walk_at "mp"
            exact ⟨_, _, rfl, h.mono (by omega)⟩
          · walk_at "mp"
            exact ⟨_, _, rfl, h.mono (by omega)⟩
        · rintro r ⟨d, x13, rfl, h⟩
          have wf2 : Wtf { W with ms := [(Pg.length : Int) - 1] } := ⟨wf.g0, wf.g1, wf.b0, wf.l0, wf.lh, wf.h1, List.pairwise_singleton .., fun x hx => by rcases List.mem_singleton.mp hx with rfl; omega⟩
          have g1 := e_word_ok (n := n) w wf (sm_two sP sW (by decide) (by decide) (by decide) (by decide)) hms
          have g2 := e_word_ok (n := n) w wf2 (sm_two sP (sm_wd wf2) (by decide) (by decide) (by decide) (by decide)) (fun x hx => by rcases List.mem_singleton.mp hx with rfl; omega)
          have g2 : (tbl Pm gl isx kw ct (n + 7)).sem "_law_word" [pd Pg, .tup [.int W.g, ob W.b, .int W.l, .int W.h, .tup [.int ((Pg.length : Int) - 1)]]] = .ok (.fz .non) [] := g2
          walk_at "mp"
          rw [g1, cq_ok0 rfl]
          walk_at "mp"
          rw [g2, cq_ok0 rfl]
          walk_at "mp"
          exact ⟨_, _, _, _, _, _, _, _, _, _, _, _, _, _, rfl, h.mono (by omega)⟩
  · rintro r ⟨d, x2, x3, x4, x5, x6, x7, x8, x9, x10, x11, x12, x13, x14, rfl, h⟩
    walk_at "mp"
theorem law_true : ∀ ns : List Int, ns.length ≤ 63 → runFn (tbl Pm gl isx kw ct 20) flaw [.scr ns] = .ok (.fz (.bl true)) [] := fun ns hn => by
  have h := cw_ok.mp (c_law (n := 13) hn)
  rw [tbl_sem pmlaw] at h
  exact h
end Lk07

open PySem PySem.W PyProof.Rows Mp
set_option maxHeartbeats 0 in
theorem PySem.Challenge.cw_skidblame_k07_sources_refused_holds : PySem.Challenge.rw_skidblame_k07_sources_refused.Holds := by
  w_on; o_law; k_head; (case hw => w_witness2)
  k_fill
  refine Mp.law_end (l := PySem.Challenge.rw_skidblame_k07_sources_refused) (n := 63) (k := 20) (Pm := Lk07.Pm) (gl := Lk07.gl) (isx := Lk07.isx) (kw := Lk07.kw) (ct := Lk07.ct) (fns := Lk07.fns) (g := Lk07.flaw) rfl (by decide) rfl ⟨rfl, by decide, by decide⟩ (fun w h Y => PySem.W.kIn_of Y) (by decide +kernel) rfl rfl ?F Lk07.law_true
  case F =>
    intro w mg h KX G
    refine' Lk07.all_mk KX G ?o0 ?oi0_0 ?oi0_1 ?oi0_2 ?oi0_3 ?oi0_4 ?oi0_5 ?oi0_6 ?oj0 ?oca0 ?ocb0 ?occ0 ?ocd0 ?oce0 ?ocf0 ?ocg0 ?och0 ?oci0 ?ocj0 ?of0_0 ?of0_1 ?of0_2 ?a0 ?l0 ?c0 ?k0 ?a1 ?l1 ?c1 ?k1 ?a2 ?l2 ?c2 ?k2 ?a3 ?l3 ?c3 ?k3 ?a4 ?l4 ?c4 ?k4 ?a5 ?l5 ?c5 ?k5 ?a6 ?l6 ?c6 ?k6 ?a7 ?l7 ?c7 ?k7 ?a8 ?l8 ?c8 ?k8 ?a9 ?l9 ?c9 ?k9 ?a10 ?l10 ?c10 ?k10 ?a11 ?l11 ?c11 ?k11 ?a12 ?l12 ?c12 ?k12 ?a13 ?l13 ?c13 ?k13 ?a14 ?l14 ?c14 ?k14 ?a15 ?l15 ?c15 ?k15 ?a16 ?l16 ?c16 ?k16 ?a17 ?l17 ?c17 ?k17 ?a18 ?l18 ?c18 ?k18 ?a19 ?l19 ?c19 ?k19 ?a20 ?l20 ?c20 ?k20 ?a21 ?l21 ?c21 ?k21 ?a22 ?l22 ?c22 ?k22 ?a23 ?fn23 ?l23 ?c23 ?k23 ?z0 ?z1 ?z2 ?z3 ?z4 ?z5 ?z6 ?z7 ?z8 ?z9 ?z10 ?z11 ?z12 ?z13 ?z14 ?gc0 ?gc1 ?gc2 ?gc3 ?gc4 ?gc5 ?e0 ?ea0 ?eb0 ?ec0 ?ed0 ?ee0_0 ?ee0_1 ?e1 ?ea1 ?eb1 ?ec1 ?ed1 ?ee1_0 ?ee1_1
    (case o0 => k_is)
    (case oi0_0 => first | k_is | kernel_rfl | exact rfl | decide +kernel)
    (case oi0_1 => first | k_is | kernel_rfl | exact rfl | decide +kernel)
    (case oi0_2 => first | k_is | kernel_rfl | exact rfl | decide +kernel)
    (case oi0_3 => first | k_is | kernel_rfl | exact rfl | decide +kernel)
    (case oi0_4 => first | k_is | kernel_rfl | exact rfl | decide +kernel)
    (case oi0_5 => first | k_is | kernel_rfl | exact rfl | decide +kernel)
    (case oi0_6 => first | k_is | kernel_rfl | exact rfl | decide +kernel)
    (case oj0 => first | k_is | kernel_rfl | exact rfl | decide +kernel)
    (case oca0 => first | k_is | kernel_rfl | exact rfl | decide +kernel)
    (case ocb0 => first | k_is | kernel_rfl | exact rfl | decide +kernel)
    (case occ0 => first | k_is | kernel_rfl | exact rfl | decide +kernel)
    (case ocd0 => first | k_is | kernel_rfl | exact rfl | decide +kernel)
    (case oce0 => first | k_is | kernel_rfl | exact rfl | decide +kernel)
    (case ocf0 => first | k_is | kernel_rfl | exact rfl | decide +kernel)
    (case ocg0 => first | k_is | kernel_rfl | exact rfl | decide +kernel)
    (case och0 => first | k_is | kernel_rfl | exact rfl | decide +kernel)
    (case oci0 => first | k_is | kernel_rfl | exact rfl | decide +kernel)
    (case ocj0 => first | k_is | kernel_rfl | exact rfl | decide +kernel)
    (case of0_0 => first | k_is | kernel_rfl | exact rfl | decide +kernel)
    (case of0_1 => first | k_is | kernel_rfl | exact rfl | decide +kernel)
    (case of0_2 => first | k_is | kernel_rfl | exact rfl | decide +kernel)
    (case a0 => k_is)
    (case l0 => k_is)
    (case c0 => k_is)
    (case k0 => k_is)
    (case a1 => k_is)
    (case l1 => k_is)
    (case c1 => k_is)
    (case k1 => k_is)
    (case a2 => k_is)
    (case l2 => k_is)
    (case c2 => k_is)
    (case k2 => k_is)
    (case a3 => k_is)
    (case l3 => k_is)
    (case c3 => k_is)
    (case k3 => k_is)
    (case a4 => k_is)
    (case l4 => k_is)
    (case c4 => k_is)
    (case k4 => k_is)
    (case a5 => k_is)
    (case l5 => k_is)
    (case c5 => k_is)
    (case k5 => k_is)
    (case a6 => k_is)
    (case l6 => k_is)
    (case c6 => k_is)
    (case k6 => k_is)
    (case a7 => k_is)
    (case l7 => k_is)
    (case c7 => k_is)
    (case k7 => k_is)
    (case a8 => k_is)
    (case l8 => k_is)
    (case c8 => k_is)
    (case k8 => k_is)
    (case a9 => k_is)
    (case l9 => k_is)
    (case c9 => k_is)
    (case k9 => k_is)
    (case a10 => k_is)
    (case l10 => k_is)
    (case c10 => k_is)
    (case k10 => k_is)
    (case a11 => k_is)
    (case l11 => k_is)
    (case c11 => k_is)
    (case k11 => k_is)
    (case a12 => k_is)
    (case l12 => k_is)
    (case c12 => k_is)
    (case k12 => k_is)
    (case a13 => k_is)
    (case l13 => k_is)
    (case c13 => k_is)
    (case k13 => k_is)
    (case a14 => k_is)
    (case l14 => k_is)
    (case c14 => k_is)
    (case k14 => k_is)
    (case a15 => k_is)
    (case l15 => k_is)
    (case c15 => k_is)
    (case k15 => k_is)
    (case a16 => k_is)
    (case l16 => k_is)
    (case c16 => k_is)
    (case k16 => k_is)
    (case a17 => k_is)
    (case l17 => k_is)
    (case c17 => k_is)
    (case k17 => k_is)
    (case a18 => k_is)
    (case l18 => k_is)
    (case c18 => k_is)
    (case k18 => k_is)
    (case a19 => k_is)
    (case l19 => k_is)
    (case c19 => k_is)
    (case k19 => k_is)
    (case a20 => k_is)
    (case l20 => k_is)
    (case c20 => k_is)
    (case k20 => k_is)
    (case a21 => k_is)
    (case l21 => k_is)
    (case c21 => k_is)
    (case k21 => k_is)
    (case a22 => k_is)
    (case l22 => k_is)
    (case c22 => k_is)
    (case k22 => k_is)
    (case a23 => k_is)
    (case fn23 => first | k_is | kernel_rfl | exact rfl | decide +kernel)
    (case l23 => k_is)
    (case c23 => k_is)
    (case k23 => k_is)
    (case z0 => k_is)
    (case z1 => k_is)
    (case z2 => k_is)
    (case z3 => k_is)
    (case z4 => k_is)
    (case z5 => k_is)
    (case z6 => k_is)
    (case z7 => k_is)
    (case z8 => k_is)
    (case z9 => k_is)
    (case z10 => k_is)
    (case z11 => k_is)
    (case z12 => k_is)
    (case z13 => k_is)
    (case z14 => k_is)
    (case gc0 => k_is)
    (case gc1 => k_is)
    (case gc2 => k_is)
    (case gc3 => k_is)
    (case gc4 => k_is)
    (case gc5 => k_is)
    (case e0 => k_is)
    (case ea0 => first | k_is | kernel_rfl | exact rfl | decide +kernel)
    (case eb0 => k_is)
    (case ec0 => k_is)
    (case ed0 => k_is)
    (case ee0_0 => first | k_is | kernel_rfl | exact rfl | decide +kernel)
    (case ee0_1 => first | k_is | kernel_rfl | exact rfl | decide +kernel)
    (case e1 => k_is)
    (case ea1 => first | k_is | kernel_rfl | exact rfl | decide +kernel)
    (case eb1 => k_is)
    (case ec1 => k_is)
    (case ed1 => k_is)
    (case ee1_0 => first | k_is | kernel_rfl | exact rfl | decide +kernel)
    (case ee1_1 => first | k_is | kernel_rfl | exact rfl | decide +kernel)
