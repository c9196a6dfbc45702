import PyProof.Rows.All
import Wide.All
import OpenK.AllK
import Wide.FinOn
import HandS.ForMost
import HandS.ExcInit
import HandS.Lambda
import HandS.TryMany
import HandS.Defaults
import HandS.Wide
import HandS.TupAny
import HandS.TupMul
import HandS.Deep
import HandS.IsInst
import HandS.Zip
import HandS.Conv
import HandS.Gcd
import PyProof.StrBlock2
import KE.GoesEnum
import HandS.Style
import HandS.WordsExc
import HandS.ExcOwn
import HandS.Dict
import HandS.ExcSuper
import HandS.Nested
import KE.KSuper
import KE.KDictDisplayH
import KE.SortData
import HandS.OwnEq
import HandS.SlotsOwn
import PyProof.InstEq
import HandS.ExcField
import PyProof.ReprRoads
import HandS.SetFor
import HandS.Strs
import HandS.EndTab
import HandS.HeadHook4
import HandS.HeadWalk
import HandS.Head2
import KE.KStateDown
import PySem.Challenge.RW_evenwords_k09_whole_mirrors
set_option Elab.async false
set_option linter.all false
set_option autoImplicit false
section
set_option maxRecDepth 100000
set_option maxHeartbeats 2000000
/-! Values as plain data over the abstract heap. -/
namespace L2.Dl
open PySem PySem.Spec PyProof.Rows

/-- plain data -/
inductive D where
  | non | bl (b : Bool) | int (i : Int) | str (x : Str)
  | tup (l : List D) | lst (l : List D)
  | obj (c : Str) (ns : List Str) (fs : List D)
  | dic (ks : List D) (vs : List D)
  | pen
deriving Inhabited

/-- a key of a dict told as data -/
def keyD : D → Option Key
  | .int i => some (.inl i)
  | .str x => some (.inr x)
  | _ => none

def kD : Key → D := fun k => match k with
  | .inl i => .int i
  | .inr x => .str x
/-- the ground of a law: the written part, the module's names, the pen's address -/
structure G where
  K : PySem.W.Frag
  mg : Str → Option Value
  pq : Addr × Addr
/-- the pen's address; that of the instance that is being made -/
abbrev G.pa (g : G) : Addr := g.pq.1
abbrev G.sa (g : G) : Addr := g.pq.2

mutual
/-- the value v is the data d in the heap H -/
def R (g : G) (H : Hp) : D → V → Prop
  | .non, v => v = .non
  | .bl b, v => v = .bl b
  | .int i, v => v = .int i
  | .str x, v => v = .str x
  | .pen, v => v = .ref g.pa
  | .tup l, v => ∃ a vs, v = .ref a ∧ H a = some (.tup vs) ∧ RL g H l vs
  | .lst l, v => ∃ a vs, v = .ref a ∧ H a = some (.lst vs) ∧ RL g H l vs
  | .obj c ns fs, v => ∃ a C dx fvs, v = .ref a ∧ g.mg c = some (.ref C) ∧ H a = some (.ins C dx fvs) ∧ fvs.map (·.1) = ns ∧ RL g H fs (fvs.map (·.2))
  | .dic ks vs, v => ∃ a, v = .ref a ∧
      ((∃ kv : List (Key × V), H a = some (.dK kv) ∧ ks.map keyD = kv.map (fun q => some q.1) ∧ RL g H vs (kv.map (·.2))) ∨
       (∃ kv : List (List Key × V), H a = some (.dT kv) ∧ ks = kv.map (fun q => D.tup (q.1.map kD)) ∧ RL g H vs (kv.map (·.2))))
def RL (g : G) (H : Hp) : List D → List V → Prop
  | [], vs => vs = []
  | d :: l, vs => ∃ v r, vs = v :: r ∧ R g H d v ∧ RL g H l r
end

/-- what stands stays, but tables -/
def Ext (H H' : Hp) : Prop := ∀ b o, H b = some o → (∀ ps, o ≠ .tbl ps) → H' b = some o
theorem Ext.refl (H : Hp) : Ext H H := fun _ _ h _ => h
theorem Ext.trans {H H1 H2 : Hp} (a : Ext H H1) (b : Ext H1 H2) : Ext H H2 := fun c o h n => b c o (a c o h n) n
theorem Ext.of {H H' : Hp} (e : Same H H') : Ext H H' := fun b o h _ => e b o h

theorem SqT.ext {K : PySem.W.Frag} {H H' : Hp} {a : Addr} {xs : List V} (e : Ext H H') (h : SqT K H a xs) : SqT K H' a xs := by
  rcases h with (h | ⟨o, h⟩) | h
  · exact .inl (.inl (e _ _ h (fun ps z => by cases z)))
  · exact .inl (.inr ⟨o, e _ _ h (fun ps z => by cases z)⟩)
  · exact .inr h

mutual
theorem R.ext {g : G} {H H' : Hp} (e : Ext H H') : ∀ (d : D) {v : V}, R g H d v → R g H' d v
  | .non, _, h => h
  | .bl _, _, h => h
  | .int _, _, h => h
  | .str _, _, h => h
  | .pen, _, h => h
  | .tup l, v, h => by
    unfold R at h ⊢
    obtain ⟨a, vs, e1, e2, e3⟩ := h
    exact ⟨a, vs, e1, e _ _ e2 (fun ps z => by cases z), RL.ext e l e3⟩
  | .lst l, v, h => by
    unfold R at h ⊢
    obtain ⟨a, vs, e1, e2, e3⟩ := h
    exact ⟨a, vs, e1, e _ _ e2 (fun ps z => by cases z), RL.ext e l e3⟩
  | .obj c ns fs, v, h => by
    unfold R at h ⊢
    obtain ⟨a, C, dx, fvs, e1, e2, e3, e4, e5⟩ := h
    exact ⟨a, C, dx, fvs, e1, e2, e _ _ e3 (fun ps z => by cases z), e4, RL.ext e fs e5⟩
  | .dic ks vs, v, h => by
    unfold R at h ⊢
    obtain ⟨a, e1, h⟩ := h
    refine ⟨a, e1, ?_⟩
    rcases h with ⟨kv, e2, e3, e4⟩ | ⟨kv, e2, e3, e4⟩
    · exact .inl ⟨kv, e _ _ e2 (fun ps z => by cases z), e3, RL.ext e vs e4⟩
    · exact .inr ⟨kv, e _ _ e2 (fun ps z => by cases z), e3, RL.ext e vs e4⟩
theorem RL.ext {g : G} {H H' : Hp} (e : Ext H H') : ∀ (l : List D) {vs : List V}, RL g H l vs → RL g H' l vs
  | [], _, h => h
  | d :: l, vs, h => by
    unfold RL at h ⊢
    obtain ⟨v, r, e1, e2, e3⟩ := h
    exact ⟨v, r, e1, R.ext e d e2, RL.ext e l e3⟩
end

section
variable {g : G} {H : Hp}
theorem R_non {v : V} : R g H .non v ↔ v = .non := by unfold R; exact Iff.rfl
theorem R_bl {v : V} {b : Bool} : R g H (.bl b) v ↔ v = .bl b := by unfold R; exact Iff.rfl
theorem R_int {v : V} {i : Int} : R g H (.int i) v ↔ v = .int i := by unfold R; exact Iff.rfl
theorem R_str {v : V} {x : Str} : R g H (.str x) v ↔ v = .str x := by unfold R; exact Iff.rfl
theorem R_pen {v : V} : R g H .pen v ↔ v = .ref g.pa := by unfold R; exact Iff.rfl
theorem R_tup {v : V} {l : List D} : R g H (.tup l) v ↔ ∃ a vs, v = .ref a ∧ H a = some (.tup vs) ∧ RL g H l vs := by unfold R; exact Iff.rfl
theorem R_lst {v : V} {l : List D} : R g H (.lst l) v ↔ ∃ a vs, v = .ref a ∧ H a = some (.lst vs) ∧ RL g H l vs := by unfold R; exact Iff.rfl
theorem R_obj {v : V} {c : Str} {ns : List Str} {fs : List D} : R g H (.obj c ns fs) v ↔ ∃ a C dx fvs, v = .ref a ∧ g.mg c = some (.ref C) ∧ H a = some (.ins C dx fvs) ∧ fvs.map (·.1) = ns ∧ RL g H fs (fvs.map (·.2)) := by unfold R; exact Iff.rfl
theorem RL_nil {vs : List V} : RL g H [] vs ↔ vs = [] := by unfold RL; exact Iff.rfl
theorem RL_cons {d : D} {l : List D} {vs : List V} : RL g H (d :: l) vs ↔ ∃ v r, vs = v :: r ∧ R g H d v ∧ RL g H l r := by
  constructor
  · intro h; unfold RL at h; exact h
  · intro h; unfold RL; exact h
theorem RL.nil : RL g H [] [] := RL_nil.mpr rfl
theorem RL.cons {d : D} {l : List D} {v : V} {vs : List V} (h : R g H d v) (t : RL g H l vs) : RL g H (d :: l) (v :: vs) := RL_cons.mpr ⟨v, vs, rfl, h, t⟩
theorem RL.inv {d : D} {l : List D} {v : V} {vs : List V} (h : RL g H (d :: l) (v :: vs)) : R g H d v ∧ RL g H l vs := by
  obtain ⟨v', r, e, a, b⟩ := RL_cons.mp h
  cases e
  exact ⟨a, b⟩
theorem RL.length : ∀ {l : List D} {vs : List V}, RL g H l vs → vs.length = l.length
  | [], vs, h => by rw [RL_nil.mp h]; rfl
  | d :: l, vs, h => by
    obtain ⟨v, r, rfl, _, t⟩ := RL_cons.mp h
    rw [List.length_cons, List.length_cons, RL.length t]
theorem RL.append : ∀ {l m : List D} {vs ws : List V}, RL g H l vs → RL g H m ws → RL g H (l ++ m) (vs ++ ws)
  | [], m, vs, ws, h, t => by rw [RL_nil.mp h]; exact t
  | d :: l, m, vs, ws, h, t => by
    obtain ⟨v, r, rfl, a, b⟩ := RL_cons.mp h
    exact RL.cons a (RL.append b t)
theorem RL.get : ∀ {l : List D} {vs : List V} {i : Nat} {d : D}, RL g H l vs → l[i]? = some d → ∃ v, vs[i]? = some v ∧ R g H d v
  | [], vs, i, d, h, e => by simp at e
  | d' :: l, vs, 0, d, h, e => by
    obtain ⟨v, r, rfl, a, b⟩ := RL_cons.mp h
    cases (Option.some.inj e)
    exact ⟨v, rfl, a⟩
  | d' :: l, vs, i + 1, d, h, e => by
    obtain ⟨v, r, rfl, a, b⟩ := RL_cons.mp h
    obtain ⟨w, e1, e2⟩ := RL.get (i := i) b (show l[i]? = some d from e)
    exact ⟨w, e1, e2⟩
theorem RL.getV {l : List D} {vs : List V} {i : Nat} {v : V} (h : RL g H l vs) (e : vs[i]? = some v) : ∃ d, l[i]? = some d ∧ R g H d v := by
  have hi : i < l.length := by
    rw [← RL.length h]
    exact (List.getElem?_eq_some_iff.mp e).1
  obtain ⟨w, e1, e2⟩ := RL.get (i := i) (d := l[i]) h (List.getElem?_eq_getElem hi)
  rw [e] at e1
  cases e1
  exact ⟨l[i], List.getElem?_eq_getElem hi, e2⟩
theorem RL.take : ∀ {l : List D} {vs : List V} (n : Nat), RL g H l vs → RL g H (l.take n) (vs.take n)
  | l, vs, 0, h => by rw [List.take_zero, List.take_zero]; exact RL.nil
  | [], vs, n + 1, h => by rw [RL_nil.mp h]; exact RL.nil
  | d :: l, vs, n + 1, h => by
    obtain ⟨v, r, rfl, a, b⟩ := RL_cons.mp h
    exact RL.cons a (RL.take n b)
theorem RL.drop : ∀ {l : List D} {vs : List V} (n : Nat), RL g H l vs → RL g H (l.drop n) (vs.drop n)
  | l, vs, 0, h => h
  | [], vs, n + 1, h => by rw [RL_nil.mp h]; exact RL.nil
  | d :: l, vs, n + 1, h => by
    obtain ⟨v, r, rfl, a, b⟩ := RL_cons.mp h
    exact RL.drop n b
theorem RL.set : ∀ {l : List D} {vs : List V} (n : Nat) {d : D} {v : V}, RL g H l vs → R g H d v → RL g H (l.set n d) (vs.set n v)
  | [], vs, n, d, v, h, r => by rw [RL_nil.mp h]; exact RL.nil
  | d' :: l, vs, 0, d, v, h, r => by
    obtain ⟨v', r', rfl, a, b⟩ := RL_cons.mp h
    exact RL.cons r b
  | d' :: l, vs, n + 1, d, v, h, r => by
    obtain ⟨v', r', rfl, a, b⟩ := RL_cons.mp h
    exact RL.cons a (RL.set n b r)
theorem RL.eraseIdx : ∀ {l : List D} {vs : List V} (n : Nat), RL g H l vs → RL g H (l.eraseIdx n) (vs.eraseIdx n)
  | [], vs, n, h => by rw [RL_nil.mp h]; exact RL.nil
  | d :: l, vs, 0, h => by
    obtain ⟨v', r', rfl, a, b⟩ := RL_cons.mp h
    exact b
  | d :: l, vs, n + 1, h => by
    obtain ⟨v', r', rfl, a, b⟩ := RL_cons.mp h
    exact RL.cons a (RL.eraseIdx n b)
theorem RL.rep {l : List D} {vs : List V} (h : RL g H l vs) : ∀ k : Nat, RL g H (List.replicate k l).flatten (List.replicate k vs).flatten
  | 0 => RL.nil
  | k + 1 => by
    rw [List.replicate_succ, List.replicate_succ, List.flatten_cons, List.flatten_cons]
    exact RL.append h (RL.rep h k)
end

open Classical in
/-- the heap without the hidden -/
noncomputable def hide (W : Addr → Prop) (H : Hp) : Hp := fun b => if W b then none else H b
theorem hide_of {W : Addr → Prop} {H : Hp} {b : Addr} (h : ¬ W b) : hide W H b = H b := if_neg h
theorem hide_in {W : Addr → Prop} {H : Hp} {b : Addr} (h : W b) : hide W H b = none := if_pos h
theorem hide_some {W : Addr → Prop} {H : Hp} {b : Addr} {o : HO} (h : hide W H b = some o) : ¬ W b ∧ H b = some o := by
  by_cases q : W b
  · rw [hide_in q] at h; cases h
  · rw [hide_of q] at h; exact ⟨q, h⟩
theorem hide_ext {W : Addr → Prop} {H : Hp} : Ext (hide W H) H := fun b o h _ => (hide_some h).2
theorem hide_mono {W W' : Addr → Prop} {H : Hp} (h : ∀ b, W' b → W b) : Ext (hide W H) (hide W' H) := fun b o e _ => by
  obtain ⟨h1, h2⟩ := hide_some e
  rw [hide_of fun q => h1 (h b q)]
  exact h2

/-! ### the pen, the slots -/
structure Pen where
  cells : List Int
  at_ : Int
  digits : Int
  count : Int
  fold : Int
def penKv (ca : Addr) (π : Pen) : List (Key × V) :=
  [(.inr "cells", .ref ca), (.inr "at", .int π.at_), (.inr "digits", .int π.digits), (.inr "count", .int π.count), (.inr "fold", .int π.fold)]
structure PenAt (pa ca : Addr) (H : Hp) (π : Pen) : Prop where
  dict : H pa = some (.dK (penKv ca π))
  cells : H ca = some (.lst (π.cells.map V.int))

/-- an own object: a list, a dict, an instance that is being made -/
inductive Own where
  | lst (l : List D) | dic (ks vs : List D) | ins (c : Str) (ns : List Str) (fs : List D)
def Own.D : Own → D
  | .lst l => .lst l
  | .dic ks vs => .dic ks vs
  | .ins c ns fs => .obj c ns fs
/-- a slot: nothing is known; shared data; an own object -/
inductive Sl where
  | no | sh (d : D) | ow (k : Own)
abbrev Rho := List Sl
def isO : Option Sl → Prop
  | some (.ow _) => True
  | _ => False
/-- the own objects -/
def ownd (σ : St) (ρ : Rho) (b : Addr) : Prop := ∃ i : Nat, σ[i]? = some (some (.ref b)) ∧ isO ρ[i]?
def WW (O : Addr → Prop) (σ : St) (ρ : Rho) (b : Addr) : Prop := O b ∨ ownd σ ρ b
/-- a list, a dict, an instance -/
def LD : Option HO → Prop
  | some (.lst _) => True
  | some (.dK _) => True
  | some (.dT _) => True
  | some (.ins _ _ _) => True
  | _ => False
def DicAt (g : G) (Hs : Hp) (o : Option HO) (ks vs : List D) : Prop :=
  (∃ kv : List (Key × V), o = some (.dK kv) ∧ ks.map keyD = kv.map (fun q => some q.1) ∧ RL g Hs vs (kv.map (·.2))) ∨
  (∃ kv : List (List Key × V), o = some (.dT kv) ∧ ks = kv.map (fun q => D.tup (q.1.map kD)) ∧ RL g Hs vs (kv.map (·.2)))
/-- what an own object is: its content, by the heap Hs -/
def OwnOk (g : G) (Hs : Hp) (o : Option HO) : Own → Prop
  | .lst l => ∃ vs, o = some (.lst vs) ∧ RL g Hs l vs
  | .dic ks vs => DicAt g Hs o ks vs
  | .ins c ns fs => ∃ C dx fvs, g.mg c = some (.ref C) ∧ o = some (.ins C dx fvs) ∧ fvs.map (·.1) = ns ∧ RL g Hs fs (fvs.map (·.2))
theorem OwnOk.ld {g : G} {Hs : Hp} {o : Option HO} {k : Own} (h : OwnOk g Hs o k) : LD o := by
  cases k with
  | lst l => obtain ⟨vs, rfl, _⟩ := h; trivial
  | dic ks vs => rcases h with ⟨kv, rfl, _⟩ | ⟨kv, rfl, _⟩ <;> trivial
  | ins c ns fs => obtain ⟨C, dx, fvs, _, rfl, _⟩ := h; trivial
theorem OwnOk.ext {g : G} {Hs Hs' : Hp} {o : Option HO} {k : Own} (e : Ext Hs Hs') (h : OwnOk g Hs o k) : OwnOk g Hs' o k := by
  cases k with
  | lst l => obtain ⟨vs, h1, h2⟩ := h; exact ⟨vs, h1, RL.ext e l h2⟩
  | dic ks vs =>
    rcases h with ⟨kv, e2, e3, e4⟩ | ⟨kv, e2, e3, e4⟩
    · exact .inl ⟨kv, e2, e3, RL.ext e vs e4⟩
    · exact .inr ⟨kv, e2, e3, RL.ext e vs e4⟩
  | ins c ns fs => obtain ⟨C, dx, fvs, h1, h2, h3, h4⟩ := h; exact ⟨C, dx, fvs, h1, h2, h3, RL.ext e fs h4⟩
/-- an instance that is being made stands at its place -/
def selfOk (g : G) (a : Addr) : Own → Prop
  | .ins _ _ _ => a = g.sa
  | _ => True
def SlotOk (g : G) (Hs H : Hp) (s : Option (Option V)) : Option Sl → Prop
  | some (.sh d) => ∃ v, s = some (some v) ∧ R g Hs d v
  | some (.ow k) => ∃ a, s = some (some (.ref a)) ∧ OwnOk g Hs (H a) k ∧ selfOk g a k
  | _ => True
theorem SlotOk.ext {g : G} {Hs Hs' H : Hp} {s : Option (Option V)} {r : Option Sl} (e : Ext Hs Hs') (h : SlotOk g Hs H s r) : SlotOk g Hs' H s r := by
  cases r with
  | none => trivial
  | some r =>
    cases r with
    | no => trivial
    | sh d => obtain ⟨v, h1, h2⟩ := h; exact ⟨v, h1, R.ext e d h2⟩
    | ow k => obtain ⟨a, h1, h2, h3⟩ := h; exact ⟨a, h1, h2.ext e, h3⟩
structure Good (T : List (Addr × Str)) (g : G) (ca : Addr) (O : Addr → Prop) (σ : St) (H : Hp) (ρ : Rho) (π : Pen) : Prop where
  pen : PenAt g.pa ca H π
  po : O g.pa
  co : O ca
  tab : LamX.Tabs T H
  al : ∀ b, O b → LD (H b)
  len : σ.length = ρ.length
  sl : ∀ i : Nat, SlotOk g (hide (WW O σ ρ) H) H σ[i]? ρ[i]?
  inj : ∀ (i j : Nat) b, σ[i]? = some (some (.ref b)) → isO ρ[i]? → σ[j]? = some (some (.ref b)) → isO ρ[j]? → i = j
  dj : ∀ b, ownd σ ρ b → ¬ O b

/-- a step that leaves the hidden as it is, but for the pen -/
structure Step (T : List (Addr × Str)) (g : G) (ca : Addr) (W : Addr → Prop) (H H' : Hp) (π' : Pen) : Prop where
  ext : ∀ b o, ¬ W b → H b = some o → (∀ ps, o ≠ .tbl ps) → H' b = some o
  own : ∀ b, W b → b ≠ g.pa → H' b = H b
  pen : PenAt g.pa ca H' π'
  tab : LamX.Tabs T H'

section
variable {T : List (Addr × Str)} {g : G} {ca : Addr} {W O : Addr → Prop} {H H1 H2 : Hp} {π π1 π2 : Pen} {σ : St} {ρ : Rho}
theorem Step.trans (a : Step T g ca W H H1 π1) (b : Step T g ca W H1 H2 π2) : Step T g ca W H H2 π2 :=
  ⟨fun c o h1 h2 h3 => b.ext c o h1 (a.ext c o h1 h2 h3) h3, fun c h1 h2 => (b.own c h1 h2).trans (a.own c h1 h2), b.pen, b.tab⟩
theorem Step.hid (a : Step T g ca W H H1 π1) : Ext (hide W H) (hide W H1) := fun b o h n => by
  obtain ⟨h1, h2⟩ := hide_some h
  rw [hide_of h1]
  exact a.ext b o h1 h2 n
theorem Good.wlive (h : Good T g ca O σ H ρ π) {b : Addr} (w : WW O σ ρ b) : LD (H b) := by
  rcases w with w | ⟨i, e1, e2⟩
  · exact h.al b w
  · have q := h.sl i
    cases e : ρ[i]? with
    | none => rw [e] at e2; exact e2.elim
    | some r =>
      rw [e] at e2 q
      cases r with
      | no => exact e2.elim
      | sh d => exact e2.elim
      | ow k =>
        obtain ⟨a, q1, q2, _⟩ := q
        rw [e1] at q1
        cases q1
        exact q2.ld
theorem Good.fresh (h : Good T g ca O σ H ρ π) {b : Addr} (n : H b = none) : ¬ WW O σ ρ b := fun w => by
  have q := h.wlive w
  rw [n] at q
  exact q
theorem Good.step0 (h : Good T g ca O σ H ρ π) : Step T g ca (WW O σ ρ) H H π := ⟨fun _ _ _ e _ => e, fun _ _ _ => rfl, h.pen, h.tab⟩
/-- only new things came -/
theorem Good.same (h : Good T g ca O σ H ρ π) (e : Same H H1) : Step T g ca (WW O σ ρ) H H1 π where
  ext := fun b o _ q _ => e b o q
  own := fun b w _ => by
    have q := h.wlive w
    cases z : H b with
    | none => rw [z] at q; exact q.elim
    | some o => exact e b o z
  pen := ⟨e _ _ h.pen.dict, e _ _ h.pen.cells⟩
  tab := h.tab.ext e
theorem Good.npa (h : Good T g ca O σ H ρ π) {b : Addr} (w : ownd σ ρ b) : b ≠ g.pa := fun e => h.dj b w (e ▸ h.po)
/-- behind a step the slots are as good -/
theorem Good.step (h : Good T g ca O σ H ρ π) (s : Step T g ca (WW O σ ρ) H H1 π1) : Good T g ca O σ H1 ρ π1 where
  pen := s.pen
  po := h.po
  co := h.co
  tab := s.tab
  al := fun b o => by
    by_cases e : b = g.pa
    · rw [e, s.pen.dict]; trivial
    · rw [s.own b (.inl o) e]; exact h.al b o
  len := h.len
  sl := fun i => by
    have q := h.sl i
    cases e : ρ[i]? with
    | none => trivial
    | some r =>
      rw [e] at q
      cases r with
      | no => trivial
      | sh d =>
        obtain ⟨v, q1, q2⟩ := q
        exact ⟨v, q1, R.ext s.hid d q2⟩
      | ow k =>
        obtain ⟨a, q1, q2, q3⟩ := q
        have w : ownd σ ρ a := ⟨i, q1, by rw [e]; trivial⟩
        refine ⟨a, q1, ?_, q3⟩
        rw [s.own a (.inr w) (h.npa w)]
        exact q2.ext s.hid
  inj := h.inj
  dj := h.dj
end

/-! ### results, readings -/
inductive Out (α : Type) where
  | ok (a : α) (π : Pen)
  | err (c : Str) (ns : List Str) (fs : List D) (π : Pen)
  | bad
def Out.bind {α β : Type} (o : Out α) (f : α → Pen → Out β) : Out β := match o with
  | .ok a π => f a π
  | .err c ns fs π => .err c ns fs π
  | .bad => .bad
/-- an expression's meaning -/
abbrev M (α : Type) := Rho → Pen → Out α
/-- an error's own dict -/
def ErrAt (g : G) (Hs H : Hp) (ns : List Str) (fs : List D) (dd : Option Addr) : Prop :=
  match ns with
  | [] => fs = [] ∧ dd = none
  | _ :: _ => ∃ a kv, dd = some a ∧ H a = some (.xd kv) ∧ (∀ f, kv.lookup f = (ns.zip (kv.map (·.2))).lookup f) ∧ RL g Hs fs (kv.map (·.2))
end L2.Dl
end

section
set_option maxRecDepth 100000
set_option maxHeartbeats 2000000
/-! The judgements over data: expressions. -/
namespace L2.Dl
open PySem PySem.Spec PyProof.Rows

/-! ### results by a relation -/
def Res {α β : Type} (rel : Hp → α → β → Prop) (T : List (Addr × Str)) (g : G) (ca : Addr) (W : Addr → Prop) (H : Hp) (o : Out α) (Q : β → Hp → Prop) (E : XK) : Prop :=
  match o with
  | .ok a π' => ∀ b H', Step T g ca W H H' π' → rel H' a b → Q b H'
  | .err c ns fs π' => ∀ C dd H', g.mg c = some (.ref C) → Step T g ca W H H' π' → ErrAt g (hide W H') H' ns fs dd → E (.ref C) dd H'
  | .bad => False
section
variable {α β γ δ : Type} {rel1 : Hp → α → β → Prop} {rel2 : Hp → γ → δ → Prop} {T : List (Addr × Str)} {g : G} {ca : Addr} {W : Addr → Prop} {H H1 : Hp} {π1 : Pen} {E : XK}
theorem Res.from {o : Out γ} {Q : δ → Hp → Prop} (h : Res rel2 T g ca W H o Q E) (s : Step T g ca W H H1 π1) : Res rel2 T g ca W H1 o Q E := by
  cases o with
  | ok c π2 => exact fun b H2 s2 r => h b H2 (s.trans s2) r
  | err c ns fs π2 => exact fun C dd H2 m s2 r => h C dd H2 m (s.trans s2) r
  | bad => exact h
theorem Res.seq {o : Out α} {f : α → Pen → Out γ} {Q : δ → Hp → Prop} {Q1 : β → Hp → Prop} (h : Res rel2 T g ca W H (o.bind f) Q E)
    (k : ∀ a π1 b H1, Step T g ca W H H1 π1 → rel1 H1 a b → Res rel2 T g ca W H1 (f a π1) Q E → Q1 b H1) : Res rel1 T g ca W H o Q1 E := by
  cases o with
  | ok a π1 => exact fun b H1 s r => k a π1 b H1 s r (Res.from (o := f a π1) h s)
  | err c ns fs π2 => exact h
  | bad => exact h
theorem Res.ok {a : α} {b : β} {π : Pen} {Q : β → Hp → Prop} (h : Res rel1 T g ca W H (.ok a π) Q E) (s : Step T g ca W H H1 π) (r : rel1 H1 a b) : Q b H1 := h b H1 s r
theorem Res.mono {o : Out α} {Q Q' : β → Hp → Prop} {rel1' : Hp → α → β → Prop} (h : Res rel1 T g ca W H o Q E) (hr : ∀ H a b, rel1' H a b → rel1 H a b) (hq : ∀ b H, Q b H → Q' b H) : Res rel1' T g ca W H o Q' E := by
  cases o with
  | ok a π => exact fun b H' s r => hq _ _ (h b H' s (hr _ _ _ r))
  | err c ns fs π => exact h
  | bad => exact h
end

/-- the value v is the data d; it may be one of the hidden objects themselves -/
def RB (g : G) (W : Addr → Prop) (H : Hp) (d : D) (v : V) : Prop :=
  R g (hide W H) d v ∨ ∃ a k, v = .ref a ∧ W a ∧ a ≠ g.pa ∧ d = Own.D k ∧ OwnOk g (hide W H) (H a) k
def RBL (g : G) (W : Addr → Prop) (H : Hp) : List D → List V → Prop
  | [], vs => vs = []
  | d :: l, vs => ∃ v r, vs = v :: r ∧ RB g W H d v ∧ RBL g W H l r
section
variable {T : List (Addr × Str)} {g : G} {ca : Addr} {W : Addr → Prop} {H H1 : Hp} {π1 : Pen} {v : V} {d : D}
theorem RB.step (s : Step T g ca W H H1 π1) (h : RB g W H d v) : RB g W H1 d v := by
  rcases h with h | ⟨a, k, e1, w, n, e2, e3⟩
  · exact .inl (R.ext s.hid d h)
  · exact .inr ⟨a, k, e1, w, n, e2, by rw [s.own a w n]; exact e3.ext s.hid⟩
theorem RBL.step (s : Step T g ca W H H1 π1) : ∀ {l : List D} {vs : List V}, RBL g W H l vs → RBL g W H1 l vs
  | [], _, h => h
  | d :: l, vs, h => by
    obtain ⟨v, r, e, a, b⟩ := h
    exact ⟨v, r, e, RB.step s a, RBL.step s b⟩
theorem RBL.length : ∀ {l : List D} {vs : List V}, RBL g W H l vs → vs.length = l.length
  | [], vs, h => by
    have e : vs = [] := h
    rw [e]; rfl
  | d :: l, vs, h => by
    obtain ⟨v, r, rfl, _, t⟩ := h
    rw [List.length_cons, List.length_cons, RBL.length t]
theorem RBL.of : ∀ {l : List D} {vs : List V}, RL g (hide W H) l vs → RBL g W H l vs
  | [], vs, h => RL_nil.mp h
  | d :: l, vs, h => by
    obtain ⟨v, r, rfl, a, b⟩ := RL_cons.mp h
    exact ⟨v, r, rfl, .inl a, RBL.of b⟩
/-- data that is no own object's -/
def Flat : D → Prop
  | .lst _ => False
  | .dic _ _ => False
  | .obj _ _ _ => False
  | _ => True
theorem RB.sh (n : Flat d) (h : RB g W H d v) : R g (hide W H) d v := by
  rcases h with h | ⟨a, k, _, _, _, rfl, _⟩
  · exact h
  · cases k <;> exact n.elim
theorem RB.int {i : Int} (h : RB g W H (.int i) v) : v = .int i := R_int.mp (h.sh trivial)
theorem RB.bl {i : Bool} (h : RB g W H (.bl i) v) : v = .bl i := R_bl.mp (h.sh trivial)
theorem RB.str {i : Str} (h : RB g W H (.str i) v) : v = .str i := R_str.mp (h.sh trivial)
theorem RB.non (h : RB g W H .non v) : v = .non := R_non.mp (h.sh trivial)
theorem RB.lst {l : List D} (h : RB g W H (.lst l) v) : ∃ a vs, v = .ref a ∧ H a = some (.lst vs) ∧ RL g (hide W H) l vs := by
  rcases h with h | ⟨a, k, e1, _, _, e, e3⟩
  · obtain ⟨a, vs, e1, e2, e3⟩ := R_lst.mp h
    exact ⟨a, vs, e1, (hide_some e2).2, e3⟩
  · cases k with
    | lst l' =>
      cases e
      obtain ⟨vs, e4, e5⟩ := e3
      exact ⟨a, vs, e1, e4, e5⟩
    | _ => cases e
theorem RB.tup {l : List D} (h : RB g W H (.tup l) v) : ∃ a vs, v = .ref a ∧ H a = some (.tup vs) ∧ RL g (hide W H) l vs := by
  obtain ⟨a, vs, e1, e2, e3⟩ := R_tup.mp (h.sh trivial)
  exact ⟨a, vs, e1, (hide_some e2).2, e3⟩
theorem RB.obj {c : Str} {ns : List Str} {fs : List D} (h : RB g W H (.obj c ns fs) v) : ∃ a C dx fvs, v = .ref a ∧ g.mg c = some (.ref C) ∧ H a = some (.ins C dx fvs) ∧ fvs.map (·.1) = ns ∧ RL g (hide W H) fs (fvs.map (·.2)) := by
  rcases h with h | ⟨a, k, e1, _, _, e, e3⟩
  · obtain ⟨a, C, dx, fvs, e1, e2, e3, e4, e5⟩ := R_obj.mp h
    exact ⟨a, C, dx, fvs, e1, e2, (hide_some e3).2, e4, e5⟩
  · cases k with
    | ins c' ns' fs' =>
      cases e
      obtain ⟨C, dx, fvs, h1, h2, h3, h4⟩ := e3
      exact ⟨a, C, dx, fvs, e1, h1, h2, h3, h4⟩
    | _ => cases e
theorem RB.dic {ks vs : List D} (h : RB g W H (.dic ks vs) v) : ∃ a, v = .ref a ∧ DicAt g (hide W H) (H a) ks vs := by
  rcases h with h | ⟨a, k, e1, _, _, e, e3⟩
  · unfold R at h
    obtain ⟨a, e1, h⟩ := h
    refine ⟨a, e1, ?_⟩
    rcases h with ⟨kv, e2, e3, e4⟩ | ⟨kv, e2, e3, e4⟩
    · exact .inl ⟨kv, (hide_some e2).2, e3, e4⟩
    · exact .inr ⟨kv, (hide_some e2).2, e3, e4⟩
  · cases k with
    | dic ks' vs' =>
      cases e
      exact ⟨a, e1, e3⟩
    | _ => cases e
end

/-! ### the judgements -/
abbrev relD (g : G) (W : Addr → Prop) : Hp → D → V → Prop := fun H d v => R g (hide W H) d v
abbrev relB (g : G) (W : Addr → Prop) : Hp → D → V → Prop := fun H d v => RB g W H d v
abbrev relL (g : G) (W : Addr → Prop) : Hp → List D → List V → Prop := fun H l vs => RL g (hide W H) l vs
abbrev relBL (g : G) (W : Addr → Prop) : Hp → List D → List V → Prop := fun H l vs => RBL g W H l vs
abbrev relT : Hp → Bool → Bool → Prop := fun _ a b => a = b
def tOf {α β : Type} (K : PySem.W.Frag) (mg : Str → Option Value) (T : List (Addr × Str)) (rel : G → (Addr → Prop) → Hp → α → β → Prop) (E : XK) (m : M α) : St → Hp → (β → Hp → Prop) → Prop :=
  fun σ H Q => ∃ (pa : Addr × Addr) (ca : Addr) (O : Addr → Prop) (ρ : Rho) (π : Pen), Good T ⟨K, mg, pa⟩ ca O σ H ρ π ∧ Res (rel ⟨K, mg, pa⟩ (WW O σ ρ)) T ⟨K, mg, pa⟩ ca (WW O σ ρ) H (m ρ π) Q E

/-- an expression whose value is shared data -/
structure GE (T : List (Addr × Str)) (X : Cx) (E : XK) (e : Expr) (m : M D) : Prop where
  pe : PE X e (tOf X.K X.mg T relD E m)
/-- an expression whose value may be an own object (read at once) -/
structure GB (T : List (Addr × Str)) (X : Cx) (E : XK) (e : Expr) (m : M D) : Prop where
  pe : PE X e (tOf X.K X.mg T relB E m)
/-- a test -/
structure GT (T : List (Addr × Str)) (X : Cx) (E : XK) (e : Expr) (m : M Bool) : Prop where
  pt : PT X e (tOf X.K X.mg T (fun _ _ => relT) E m)
/-- arguments -/
structure GA (T : List (Addr × Str)) (X : Cx) (E : XK) (es : List Expr) (m : M (List D)) : Prop where
  pa : PA X es (tOf X.K X.mg T relL E m)
structure GAB (T : List (Addr × Str)) (X : Cx) (E : XK) (es : List Expr) (m : M (List D)) : Prop where
  pa : PA X es (tOf X.K X.mg T relBL E m)
theorem pe_imp {X : Cx} {e : Expr} {t t' : TE} (h : PE X e t) (i : ∀ σ H Q, t' σ H Q → t σ H Q) : PE X e t' := ⟨fun pins s σ H Q I q => h.run pins s σ H Q I (i σ H Q q)⟩
theorem pt_imp {X : Cx} {e : Expr} {t t' : TT} (h : PT X e t) (i : ∀ σ H Q, t' σ H Q → t σ H Q) : PT X e t' := ⟨fun pins s σ H Q I q => h.run pins s σ H Q I (i σ H Q q)⟩
theorem pa_imp {X : Cx} {e : List Expr} {t t' : TA} (h : PA X e t) (i : ∀ σ H Q, t' σ H Q → t σ H Q) : PA X e t' := ⟨fun pos pins s σ H Q I q => h.run pos pins s σ H Q I (i σ H Q q)⟩

section
variable {T : List (Addr × Str)} {X : Cx} {E : XK} {e a b : Expr} {es : List Expr} {m ma mb : M D} {ml : M (List D)} {pos : Pos}

theorem GE.gb (h : GE T X E e m) : GB T X E e m := ⟨pe_imp h.pe fun σ H Q ⟨pa, ca, O, ρ, π, good, res⟩ => ⟨pa, ca, O, ρ, π, good, res.mono (fun _ _ _ r => .inl r) fun _ _ q => q⟩⟩

def mBind {α β : Type} (m : M α) (f : α → M β) : M β := fun ρ π => (m ρ π).bind fun a π' => f a ρ π'
def mOk {α : Type} (a : α) : M α := fun _ π => .ok a π
def mOpt {α : Type} (o : Option α) : M α := fun _ π => match o with
  | some a => .ok a π
  | none => .bad
/-- a name of shared data -/
def mVar (i : Nat) : M D := fun ρ π => match ρ[i]? with
  | some (.sh d) => .ok d π
  | _ => .bad
def mVarB (i : Nat) : M D := fun ρ π => match ρ[i]? with
  | some (.sh d) => .ok d π
  | some (.ow k) => .ok k.D π
  | _ => .bad
theorem ge_var (i : Nat) {x : Str} (hN : X.N[i]? = some x := by rfl) (hv : Vis X.env.scope x := by first | exact Or.inl rfl | exact Or.inr (Or.inl rfl) | exact Or.inr (Or.inr rfl)) (hd : (x == ("__debug__" : Str)) = false := by decide)
    (hcd : (x == ("__classdict__" : Str)) = false := by decide) : GE T X E (.Name x pos) (mVar i) := ⟨pe_imp (pe_var hN hv hd hcd) fun σ H Q ⟨pa, ca, O, ρ, π, good, res⟩ => by
  have q := good.sl i
  unfold mVar at res
  cases e : ρ[i]? with
  | none => rw [e] at res; exact res.elim
  | some r =>
    rw [e] at res q
    cases r with
    | sh d =>
      obtain ⟨v, q1, q2⟩ := q
      exact ⟨v, q1, Res.ok res good.step0 q2⟩
    | no => exact res.elim
    | ow _ => exact res.elim⟩
theorem gb_var (i : Nat) {x : Str} (hN : X.N[i]? = some x := by rfl) (hv : Vis X.env.scope x := by first | exact Or.inl rfl | exact Or.inr (Or.inl rfl) | exact Or.inr (Or.inr rfl)) (hd : (x == ("__debug__" : Str)) = false := by decide)
    (hcd : (x == ("__classdict__" : Str)) = false := by decide) : GB T X E (.Name x pos) (mVarB i) := ⟨pe_imp (pe_var hN hv hd hcd) fun σ H Q ⟨pa, ca, O, ρ, π, good, res⟩ => by
  have q := good.sl i
  unfold mVarB at res
  cases e : ρ[i]? with
  | none => rw [e] at res; exact res.elim
  | some r =>
    rw [e] at res q
    cases r with
    | sh d =>
      obtain ⟨v, q1, q2⟩ := q
      exact ⟨v, q1, Res.ok res good.step0 (.inl q2)⟩
    | no => exact res.elim
    | ow k =>
      obtain ⟨a, q1, q2, _⟩ := q
      have w : ownd σ ρ a := ⟨i, q1, by rw [e]; trivial⟩
      exact ⟨_, q1, Res.ok res good.step0 (.inr ⟨a, k, rfl, .inr w, good.npa w, rfl, q2⟩)⟩⟩
theorem ge_const {v : V} {d : D} (h : PE X e (tC v)) (r : ∀ g H, R g H d v) : GE T X E e (mOk d) := ⟨pe_imp h fun σ H Q ⟨pa, ca, O, ρ, π, good, res⟩ => Res.ok res good.step0 (r _ _)⟩
theorem ge_int {i : Int} {j} : GE T X E (.Constant (.int i) j pos) (mOk (.int i)) := ge_const pe_int fun _ _ => R_int.mpr rfl
theorem ge_bl {b : Bool} {j} : GE T X E (.Constant (.bool b) j pos) (mOk (.bl b)) := ge_const pe_bl fun _ _ => R_bl.mpr rfl
theorem ge_non {j} : GE T X E (.Constant .none j pos) (mOk .non) := ge_const pe_non fun _ _ => R_non.mpr rfl
theorem ge_str {x : Str} {j} : GE T X E (.Constant (.str x) j pos) (mOk (.str x)) := ge_const pe_str fun _ _ => R_str.mpr rfl
theorem ge_gint {x : Str} {i : Int} (hm : ∃ t, X.mg x = some (.int i t)) (hg : Gl X x := by rfl) (hd : (x == ("__debug__" : Str)) = false := by decide) : GE T X E (.Name x pos) (mOk (.int i)) := by
  obtain ⟨t, hm⟩ := hm
  exact ge_const (v := .int i) (pe_glob hg hm ⟨t, rfl⟩ hd) fun _ _ => R_int.mpr rfl

/-! ### argument lists -/
def mNil : M (List D) := mOk []
def mCons (m : M D) (r : M (List D)) : M (List D) := mBind m fun d => mBind r fun l => mOk (d :: l)
theorem ga_nil : GA T X E [] mNil := ⟨pa_imp pa_nil fun σ H Q ⟨pa, ca, O, ρ, π, good, res⟩ => Res.ok res good.step0 RL.nil⟩
theorem gab_nil : GAB T X E [] mNil := ⟨pa_imp pa_nil fun σ H Q ⟨pa, ca, O, ρ, π, good, res⟩ => Res.ok res good.step0 rfl⟩
theorem ga_cons (h : GE T X E e m) (t : GA T X E es ml) (hs : starEach (e :: es) X.env = (false, eval e X.env) :: starEach es X.env := by rfl) : GA T X E (e :: es) (mCons m ml) :=
  ⟨pa_imp (pa_cons h.pe t.pa hs) fun σ H Q ⟨pa, ca, O, ρ, π, good, res⟩ => ⟨pa, ca, O, ρ, π, good, Res.seq res fun d π1 v H1 s1 r1 res1 =>
    ⟨pa, ca, O, ρ, π1, good.step s1, Res.seq res1 fun l π2 vs H2 s2 r2 res2 => Res.ok res2 ((good.step s1).step s2).step0 (RL.cons (R.ext s2.hid d r1) r2)⟩⟩⟩
theorem gab_cons (h : GB T X E e m) (t : GAB T X E es ml) (hs : starEach (e :: es) X.env = (false, eval e X.env) :: starEach es X.env := by rfl) : GAB T X E (e :: es) (mCons m ml) :=
  ⟨pa_imp (pa_cons h.pe t.pa hs) fun σ H Q ⟨pa, ca, O, ρ, π, good, res⟩ => ⟨pa, ca, O, ρ, π, good, Res.seq res fun d π1 v H1 s1 r1 res1 =>
    ⟨pa, ca, O, ρ, π1, good.step s1, Res.seq res1 fun l π2 vs H2 s2 r2 res2 => Res.ok res2 ((good.step s1).step s2).step0 ⟨v, vs, rfl, RB.step s2 r1, r2⟩⟩⟩⟩

/-! ### operations by values -/
/-- a fresh object is shared data at once -/
theorem hide_new {W : Addr → Prop} {H : Hp} {p : Addr} {o : HO} (hp : ¬ W p) : hide W (upd H p o) = upd (hide W H) p o := by
  funext b
  by_cases e : b = p
  · subst e
    rw [hide_of hp, upd_same, upd_same]
  · rw [upd_ne e]
    by_cases w : W b
    · rw [hide_in w, hide_in w]
    · rw [hide_of w, hide_of w, upd_ne e]
theorem same_upd {H : Hp} {p : Addr} {o : HO} (h : H p = none) : Same H (upd H p o) := fun b x e => by
  rw [upd_ne (ne_of_none e h)]
  exact e
theorem ext_upd {H : Hp} {p : Addr} {o : HO} (h : H p = none) : Ext H (upd H p o) := .of (same_upd h)
theorem hide_none {W : Addr → Prop} {H : Hp} {p : Addr} (h : H p = none) : hide W H p = none := by
  by_cases w : W p
  · exact hide_in w
  · rw [hide_of w]; exact h
theorem R_newL {g : G} {W : Addr → Prop} {H : Hp} {p : Addr} {l : List D} {vs : List V} (hp : H p = none) (w : ¬ W p) (r : RL g (hide W H) l vs) : R g (hide W (upd H p (.lst vs))) (.lst l) (.ref p) := by
  rw [hide_new w]
  exact R_lst.mpr ⟨p, vs, rfl, upd_same, RL.ext (ext_upd (hide_none hp)) l r⟩
theorem R_newT {g : G} {W : Addr → Prop} {H : Hp} {p : Addr} {l : List D} {vs : List V} (hp : H p = none) (w : ¬ W p) (r : RL g (hide W H) l vs) : R g (hide W (upd H p (.tup vs))) (.tup l) (.ref p) := by
  rw [hide_new w]
  exact R_tup.mpr ⟨p, vs, rfl, upd_same, RL.ext (ext_upd (hide_none hp)) l r⟩

theorem Res.opt {α β : Type} {rel : Hp → α → β → Prop} {g : G} {ca : Addr} {W : Addr → Prop} {H : Hp} {o : Option α} {ρ : Rho} {π : Pen} {Q : β → Hp → Prop} (h : Res rel T g ca W H (mOpt o ρ π) Q E) : ∃ a, o = some a ∧ Res rel T g ca W H (.ok a π) Q E := by
  cases o with
  | none => exact h.elim
  | some a => exact ⟨a, rfl, h⟩
/-- a two-place rule over data -/
def OpD (K : PySem.W.Frag) (mg : Str → Option Value) (r : R2) (f : D → D → Option D) : Prop :=
  ∀ (pa : Addr × Addr) (W : Addr → Prop) (H : Hp) (x y : V) (d1 d2 d : D) (Q : VK), (∀ p, H p = none → ¬ W p) → RB ⟨K, mg, pa⟩ W H d1 x → RB ⟨K, mg, pa⟩ W H d2 y → f d1 d2 = some d →
    (∀ v H', Same H H' → R ⟨K, mg, pa⟩ (hide W H') d v → Q v H') → r x y H Q
def m2 (f : D → D → Option D) (ma mb : M D) : M D := mBind ma fun a => mBind mb fun b => mOpt (f a b)
theorem ge_of2 {r : R2} {f : D → D → Option D} (h : PE X e (tOp r (tOf X.K X.mg T relB E ma) (tOf X.K X.mg T relB E mb))) (ho : OpD X.K X.mg r f) : GE T X E e (m2 f ma mb) :=
  ⟨pe_imp h fun σ H Q ⟨pa, ca, O, ρ, π, good, res⟩ => ⟨pa, ca, O, ρ, π, good, Res.seq res fun d1 π1 v1 H1 s1 r1 res1 =>
    ⟨pa, ca, O, ρ, π1, good.step s1, Res.seq res1 fun d2 π2 v2 H2 s2 r2 res2 => by
      obtain ⟨d, e, res2⟩ := Res.opt (o := f d1 d2) res2
      have g2 := (good.step s1).step s2
      exact ho pa (WW O σ ρ) H2 v1 v2 d1 d2 d Q (fun p hp => g2.fresh hp) (RB.step s2 r1) r2 e fun v H3 hs hr => Res.ok res2 (g2.same hs) hr⟩⟩⟩
theorem ge_op {op : Operator} {r : R2} {f : D → D → Option D} (hr : OpR X (binaryOp op) r) (ho : OpD X.K X.mg r f) (ha : GB T X E a ma) (hb : GB T X E b mb) : GE T X E (.BinOp a op b pos) (m2 f ma mb) :=
  ge_of2 (pe_op hr ha.pe hb.pe) ho
theorem ge_cmp {op : CmpOp} {r : R2} {f : D → D → Option D} (hr : OpR X (compareOp op) r) (ho : OpD X.K X.mg r f) (ha : GB T X E a ma) (hb : GB T X E b mb) (hm : behindInMarks op b = false := by first | exact nomark _ | rfl) : GE T X E (.Compare a [op] [b] pos) (m2 f ma mb) :=
  ge_of2 (pe_cmpR hr ha.pe hb.pe hm) ho
theorem ge_ix {r : R2} {f : D → D → Option D} (hr : IxR X r) (ho : OpD X.K X.mg r f) (ha : GB T X E a ma) (hb : GB T X E b mb) (hs : PlainIx b := by intro _ _; rfl) : GE T X E (.Subscript a b pos) (m2 f ma mb) :=
  ge_of2 (pe_ix hr ha.pe hb.pe hs) ho
/-- a one-place rule -/
def UnD (K : PySem.W.Frag) (mg : Str → Option Value) (r : V → Hp → VK → Prop) (f : D → Option D) : Prop :=
  ∀ (pa : Addr × Addr) (W : Addr → Prop) (H : Hp) (x : V) (d1 d : D) (Q : VK), (∀ p, H p = none → ¬ W p) → RB ⟨K, mg, pa⟩ W H d1 x → f d1 = some d → (∀ v H', Same H H' → R ⟨K, mg, pa⟩ (hide W H') d v → Q v H') → r x H Q
def m1 (f : D → Option D) (ma : M D) : M D := mBind ma fun a => mOpt (f a)
theorem ge_un {op : UnaryOp} {r : V → Hp → VK → Prop} {f : D → Option D} (hr : UnR X (unaryOp op) r) (ho : UnD X.K X.mg r f) (ha : GB T X E a ma) : GE T X E (.UnaryOp op a pos) (m1 f ma) :=
  ⟨pe_imp (pe_un hr ha.pe) fun σ H Q ⟨pa, ca, O, ρ, π, good, res⟩ => ⟨pa, ca, O, ρ, π, good, Res.seq res fun d1 π1 v1 H1 s1 r1 res1 => by
      obtain ⟨d, e, res1⟩ := Res.opt (o := f d1) res1
      have g1 := good.step s1
      exact ho pa (WW O σ ρ) H1 v1 d1 d Q (fun p hp => g1.fresh hp) r1 e fun v H3 hs hr => Res.ok res1 (g1.same hs) hr⟩⟩
/-- a call of a builtin over data -/
def CallD (K : PySem.W.Frag) (mg : Str → Option Value) (r : List V → Hp → VK → Prop) (f : List D → Option D) : Prop :=
  ∀ (pa : Addr × Addr) (W : Addr → Prop) (H : Hp) (xs : List V) (ds : List D) (d : D) (Q : VK), (∀ p, H p = none → ¬ W p) → RBL ⟨K, mg, pa⟩ W H ds xs → f ds = some d →
    (∀ v H', Same H H' → R ⟨K, mg, pa⟩ (hide W H') d v → Q v H') → r xs H Q
def mC (f : List D → Option D) (ml : M (List D)) : M D := mBind ml fun l => mOpt (f l)
theorem ge_of_call {r : List V → Hp → VK → Prop} {f : List D → Option D} (h : PE X e (tCB r (tOf X.K X.mg T relBL E ml))) (ho : CallD X.K X.mg r f) : GE T X E e (mC f ml) :=
  ⟨pe_imp h fun σ H Q ⟨pa, ca, O, ρ, π, good, res⟩ => ⟨pa, ca, O, ρ, π, good, Res.seq res fun ds π1 vs H1 s1 r1 res1 => by
      obtain ⟨d, e, res1⟩ := Res.opt (o := f ds) res1
      have g1 := good.step s1
      exact ho pa (WW O σ ρ) H1 vs ds d Q (fun p hp => g1.fresh hp) r1 e fun v H3 hs hr => Res.ok res1 (g1.same hs) hr⟩⟩
end
end L2.Dl
end

section
set_option maxRecDepth 100000
set_option maxHeartbeats 2000000
/-! Operations over data. -/
namespace L2.Dl
open PySem PySem.Spec PyProof.Rows

/-! ### plain data, equality -/
mutual
def D.eqv : D → D → Bool
  | .non, .non => true
  | .bl a, .bl b => a == b
  | .bl a, .int j => (if a then 1 else 0) == j
  | .int i, .bl b => i == (if b then 1 else 0)
  | .int i, .int j => i == j
  | .str x, .str y => x == y
  | .lst xs, .lst ys => D.eqvL xs ys
  | .tup xs, .tup ys => D.eqvL xs ys
  | _, _ => false
def D.eqvL : List D → List D → Bool
  | [], [] => true
  | x :: xs, y :: ys => D.eqv x y && D.eqvL xs ys
  | _, _ => false
end
def plainD : Nat → D → Bool
  | _, .non => true
  | _, .bl _ => true
  | _, .int _ => true
  | _, .str x => PyData.strOk x
  | n + 1, .tup l => l.all (plainD n)
  | n + 1, .lst l => l.all (plainD n)
  | _, _ => false
mutual
def toPy : D → PyData
  | .bl b => .bool b
  | .int i => .int i
  | .str x => .str x
  | .tup l => .tuple (toPyL l)
  | .lst l => .list (toPyL l)
  | _ => .none
def toPyL : List D → List PyData
  | [] => []
  | d :: l => toPy d :: toPyL l
end
theorem plain_lay : ∀ (n : Nat) (d : D), plainD n d = true → (toPy d).canLay0 = true ∧ (toPy d).depth ≤ n
  | n, .non, _ => ⟨by simp [toPy, PyData.canLay0], by simp [toPy, PyData.depth]⟩
  | n, .bl b, _ => ⟨by simp [toPy, PyData.canLay0], by simp [toPy, PyData.depth]⟩
  | n, .int i, _ => ⟨by simp [toPy, PyData.canLay0], by simp [toPy, PyData.depth]⟩
  | n, .str x, h => by
    have h : PyData.strOk x = true := by cases n <;> exact h
    exact ⟨by simp [toPy, PyData.canLay0, h], by simp [toPy, PyData.depth]⟩
  | n + 1, .tup l, h => by
    have h : l.all (plainD n) = true := h
    have key : ∀ m : List D, m.all (plainD n) = true → PyData.canLayAll0 (toPyL m) = true ∧ PyData.depthAll (toPyL m) ≤ n := by
      intro m
      induction m with
      | nil => intro _; simp [toPyL, PyData.canLayAll0, PyData.depthAll]
      | cons d m ih =>
        intro hm
        rw [List.all_cons, Bool.and_eq_true] at hm
        obtain ⟨a, b⟩ := plain_lay n d hm.1
        obtain ⟨c, e⟩ := ih hm.2
        refine ⟨by simp [toPyL, PyData.canLayAll0, a, c], ?_⟩
        simp only [toPyL, PyData.depthAll]
        omega
    obtain ⟨a, b⟩ := key l h
    exact ⟨by simpa [toPy, PyData.canLay0] using a, by simp only [toPy, PyData.depth]; omega⟩
  | n + 1, .lst l, h => by
    have h : l.all (plainD n) = true := h
    have key : ∀ m : List D, m.all (plainD n) = true → PyData.canLayAll0 (toPyL m) = true ∧ PyData.depthAll (toPyL m) ≤ n := by
      intro m
      induction m with
      | nil => intro _; simp [toPyL, PyData.canLayAll0, PyData.depthAll]
      | cons d m ih =>
        intro hm
        rw [List.all_cons, Bool.and_eq_true] at hm
        obtain ⟨a, b⟩ := plain_lay n d hm.1
        obtain ⟨c, e⟩ := ih hm.2
        refine ⟨by simp [toPyL, PyData.canLayAll0, a, c], ?_⟩
        simp only [toPyL, PyData.depthAll]
        omega
    obtain ⟨a, b⟩ := key l h
    exact ⟨by simpa [toPy, PyData.canLay0] using a, by simp only [toPy, PyData.depth]; omega⟩
  | 0, .tup l, h => by cases h
  | 0, .lst l, h => by cases h
  | n, .obj _ _ _, h => by cases n <;> cases h
  | n, .dic _ _, h => by cases n <;> cases h
  | n, .pen, h => by cases n <;> cases h
theorem plain_shaped {n : Nat} {d : D} (h : plainD n d = true) (hn : n ≤ 64) : SeqAt.shaped (toPy d) = true := by
  obtain ⟨a, b⟩ := plain_lay n d h
  unfold SeqAt.shaped
  rw [a, Bool.true_and]
  exact decide_eq_true (by omega)
theorem plain_dp {g : G} {H : Hp} : ∀ (n : Nat) (d : D) {v : V}, plainD n d = true → R g H d v → Dp g.K H v (toPy d)
  | n, .non, v, _, r => by rw [R_non.mp r]; exact .non
  | n, .bl b, v, _, r => by rw [R_bl.mp r]; exact .bl b
  | n, .int i, v, _, r => by rw [R_int.mp r]; exact .int i
  | n, .str x, v, _, r => by rw [R_str.mp r]; exact .str x
  | n + 1, .tup l, v, h, r => by
    have h : l.all (plainD n) = true := h
    obtain ⟨a, vs, rfl, e2, e3⟩ := R_tup.mp r
    have key : ∀ (m : List D) (ws : List V), m.all (plainD n) = true → RL g H m ws → DpAll g.K H ws (toPyL m) := by
      intro m
      induction m with
      | nil => intro ws _ rw'; rw [RL_nil.mp rw']; exact .nil
      | cons d m ih =>
        intro ws hm rw'
        rw [List.all_cons, Bool.and_eq_true] at hm
        obtain ⟨w, r', rfl, a, b⟩ := RL_cons.mp rw'
        exact .cons (plain_dp n d hm.1 a) (ih r' hm.2 b)
    exact .tup (SqT.of e2) (key l vs h e3)
  | n + 1, .lst l, v, h, r => by
    have h : l.all (plainD n) = true := h
    obtain ⟨a, vs, rfl, e2, e3⟩ := R_lst.mp r
    have key : ∀ (m : List D) (ws : List V), m.all (plainD n) = true → RL g H m ws → DpAll g.K H ws (toPyL m) := by
      intro m
      induction m with
      | nil => intro ws _ rw'; rw [RL_nil.mp rw']; exact .nil
      | cons d m ih =>
        intro ws hm rw'
        rw [List.all_cons, Bool.and_eq_true] at hm
        obtain ⟨w, r', rfl, a, b⟩ := RL_cons.mp rw'
        exact .cons (plain_dp n d hm.1 a) (ih r' hm.2 b)
    exact .lst (SqL.of e2) (key l vs h e3)
  | 0, .tup l, v, h, r => by cases h
  | 0, .lst l, v, h, r => by cases h
  | n, .obj _ _ _, v, h, r => by cases n <;> cases h
  | n, .dic _ _, v, h, r => by cases n <;> cases h
  | n, .pen, v, h, r => by cases n <;> cases h
theorem plain_dpL {g : G} {H : Hp} {n : Nat} : ∀ (l : List D) {vs : List V}, l.all (plainD n) = true → RL g H l vs → DpAll g.K H vs (toPyL l)
  | [], vs, _, r => by rw [RL_nil.mp r]; exact .nil
  | d :: l, vs, h, r => by
    rw [List.all_cons, Bool.and_eq_true] at h
    obtain ⟨w, r', rfl, a, b⟩ := RL_cons.mp r
    exact .cons (plain_dp n d h.1 a) (plain_dpL l h.2 b)
mutual
theorem Dp.hid {K : PySem.W.Frag} {W : Addr → Prop} {H : Hp} : ∀ {v : V} {p : PyData}, Dp K (hide W H) v p → Dp K H v p
  | _, _, .non => .non
  | _, _, .bl b => .bl b
  | _, _, .int i => .int i
  | _, _, .str x => .str x
  | _, _, .lst s t => .lst (by
      rcases s with (h | ⟨o, h⟩) | h
      · exact .inl (.inl (hide_some h).2)
      · exact .inl (.inr ⟨o, (hide_some h).2⟩)
      · exact .inr h) (DpAll.hid t)
  | _, _, .tup s t => .tup (SqT.ext hide_ext s) (DpAll.hid t)
theorem DpAll.hid {K : PySem.W.Frag} {W : Addr → Prop} {H : Hp} : ∀ {v : List V} {p : List PyData}, DpAll K (hide W H) v p → DpAll K H v p
  | _, _, .nil => .nil
  | _, _, .cons h t => .cons (Dp.hid h) (DpAll.hid t)
end
theorem RB.dp {g : G} {W : Addr → Prop} {H : Hp} {d : D} {v : V} {n : Nat} (h : plainD n d = true) (r : RB g W H d v) : Dp g.K H v (toPy d) := by
  rcases r with r | ⟨a, k, rfl, _, _, rfl, e3⟩
  · exact Dp.hid (plain_dp n d h r)
  · cases k with
    | lst l =>
      obtain ⟨vs, e3, e4⟩ := e3
      cases n with
      | zero => cases h
      | succ n => exact .lst (SqL.of e3) (DpAll.hid (plain_dpL (n := n) l h e4))
    | dic ks vs => cases n <;> cases h
    | ins c ns fs => cases n <;> cases h
theorem plain_eqvL {n : Nat} (ih0 : ∀ d e : D, plainD n d = true → plainD n e = true → PyData.eqv (toPy d) (toPy e) = D.eqv d e) : ∀ (l m : List D), l.all (plainD n) = true → m.all (plainD n) = true → PyData.eqvAll (toPyL l) (toPyL m) = D.eqvL l m := by
  intro l
  induction l with
  | nil => intro m _ _; cases m <;> simp [toPyL, PyData.eqvAll, D.eqvL]
  | cons d l ih =>
    intro m hl hm
    cases m with
    | nil => simp [toPyL, PyData.eqvAll, D.eqvL]
    | cons e m =>
      rw [List.all_cons, Bool.and_eq_true] at hl hm
      simp only [toPyL, PyData.eqvAll, D.eqvL]
      rw [ih0 d e hl.1 hm.1, ih m hl.2 hm.2]
theorem plain_eqv_tup {n : Nat} (ih0 : ∀ d e : D, plainD n d = true → plainD n e = true → PyData.eqv (toPy d) (toPy e) = D.eqv d e) (l m : List D) (h : plainD (n + 1) (.tup l) = true) (h' : plainD (n + 1) (.tup m) = true) : PyData.eqv (toPy (.tup l)) (toPy (.tup m)) = D.eqv (.tup l) (.tup m) := by
  simp only [toPy, PyData.eqv, D.eqv]
  exact plain_eqvL ih0 l m h h'
theorem plain_eqv_lst {n : Nat} (ih0 : ∀ d e : D, plainD n d = true → plainD n e = true → PyData.eqv (toPy d) (toPy e) = D.eqv d e) (l m : List D) (h : plainD (n + 1) (.lst l) = true) (h' : plainD (n + 1) (.lst m) = true) : PyData.eqv (toPy (.lst l)) (toPy (.lst m)) = D.eqv (.lst l) (.lst m) := by
  simp only [toPy, PyData.eqv, D.eqv]
  exact plain_eqvL ih0 l m h h'
theorem plain_eqv : ∀ (n : Nat) (d e : D), plainD n d = true → plainD n e = true → PyData.eqv (toPy d) (toPy e) = D.eqv d e
  | n, .obj _ _ _, _, h, _ => by cases n <;> cases h
  | n, .dic _ _, _, h, _ => by cases n <;> cases h
  | n, .pen, _, h, _ => by cases n <;> cases h
  | 0, .tup _, _, h, _ => by cases h
  | 0, .lst _, _, h, _ => by cases h
  | n, .non, e, _, h => by
    cases e with
    | obj _ _ _ => cases n <;> cases h
    | dic _ _ => cases n <;> cases h
    | pen => cases n <;> cases h
    | _ => simp [toPy, PyData.eqv, D.eqv]
  | _, .bl _, e, _, _ => by cases e <;> simp [toPy, PyData.eqv, D.eqv]
  | _, .int _, e, _, _ => by cases e <;> simp [toPy, PyData.eqv, D.eqv]
  | _, .str _, e, _, _ => by cases e <;> simp [toPy, PyData.eqv, D.eqv]
  | n + 1, .tup l, e, h, h2 => by
    cases e with
    | tup m => exact plain_eqv_tup (fun d e => plain_eqv n d e) l m h h2
    | _ => simp [toPy, PyData.eqv, D.eqv]
  | n + 1, .lst l, e, h, h2 => by
    cases e with
    | lst m => exact plain_eqv_lst (fun d e => plain_eqv n d e) l m h h2
    | _ => simp [toPy, PyData.eqv, D.eqv]
end L2.Dl
end

section
set_option maxRecDepth 100000
set_option maxHeartbeats 4000000
/-! tuple * int: the counts that HandS.TupMul leaves out; str * int. -/
namespace L2
open PySem PySem.Spec PyProof.Rows
theorem tuple_mulSame (l : Addr) (items : Array Value) (n : Nat) (dd : Option Addr) (sl : Array (Option Value)) (x : Int) (u : Tok) (c0 : (decide (x < -(2 ^ 63)) || decide (x ≥ 2 ^ 63)) = false) (c1 : (items.isEmpty || x == 1) = true) :
    Meets (Builtin.«tuple.__mul__» ⟨[.ref l, .int x u], []⟩) (fun _ R s => s.heap.get? l = some { cls := .type "tuple", dict := dd, data := .seq items n, slots := sl } ∧ R (.ok (.ret (Value.ref l))) s) :=
  .of_wp fun prog w A R s h => by
    obtain ⟨hp, g, d, tk, os⟩ := s
    obtain ⟨hl, h⟩ := h
    have f1 := AutoSeq1.idx_int
    wp_walk using wpAny_loadPart' hl
    repeat (first
      | (refine wpAny_ite_false (decide_eq_false (by rw [c0]; exact Bool.false_ne_true)) ?_; wp_walk using wpAny_loadPart' hl)
      | (refine wpAny_ite_true (decide_eq_true c1) ?_; wp_walk using wpAny_loadPart' hl))
    exact ⟨_, rfl, h⟩
theorem tuple_mulNone (l : Addr) (items : Array Value) (n : Nat) (dd : Option Addr) (sl : Array (Option Value)) (x : Int) (u : Tok) (c0 : (decide (x < -(2 ^ 63)) || decide (x ≥ 2 ^ 63)) = false) (c1 : (items.isEmpty || x == 1) = false) (c2 : (decide (x ≤ 0) || items.isEmpty) = true) :
    Meets (Builtin.«tuple.__mul__» ⟨[.ref l, .int x u], []⟩) (fun _ R s => s.heap.get? l = some { cls := .type "tuple", dict := dd, data := .seq items n, slots := sl } ∧
      R (.ok (.ret (Value.ref s.heap.objs.size))) { s with heap := s.heap.push { cls := Value.type "tuple", data := Data.seq #[] }, toks := s.toks }) :=
  .of_wp fun prog w A R s h => by
    obtain ⟨hp, g, d, tk, os⟩ := s
    obtain ⟨hl, h⟩ := h
    have f1 := AutoSeq1.idx_int
    wp_walk using wpAny_loadPart' hl
    repeat (first
      | (refine wpAny_ite_false (decide_eq_false (by rw [c0]; exact Bool.false_ne_true)) ?_; wp_walk using wpAny_loadPart' hl)
      | (refine wpAny_ite_false (decide_eq_false (by rw [c1]; exact Bool.false_ne_true)) ?_; wp_walk using wpAny_loadPart' hl)
      | (refine wpAny_ite_true (decide_eq_true c2) ?_; wp_walk using wpAny_loadPart' hl))
    exact ⟨_, rfl, h⟩
/-- t * k: t itself (k is 1, or t is empty); an empty tuple (k is 0 or less) -/
def rRepT1 (K : PySem.W.Frag) : R2 := fun x y H Q => ∃ l k xs, x = .ref l ∧ y = .int k ∧ SqT K H l xs ∧ -(2 ^ 63) ≤ k ∧ k < 2 ^ 63 ∧ (xs = [] ∨ k = 1) ∧ Q (.ref l) H
def rRepT0 (K : PySem.W.Frag) : R2 := fun x y H Q => ∃ l k xs, x = .ref l ∧ y = .int k ∧ SqT K H l xs ∧ -(2 ^ 63) ≤ k ∧ k ≤ 0 ∧ xs ≠ [] ∧ ∀ p, H p = none → Q (.ref p) (upd H p (.tup []))
section
variable {X : Cx}
theorem op_repT1 : OpR X (binaryOp .Mult) (rRepT1 X.K) := by
  intro pins s σ H x y v u Q I rx ry h
  obtain ⟨l, k, xs, rfl, rfl, hT, h0, h1, hc1, q⟩ := h
  cases rx
  obtain ⟨t, rfl⟩ := ry
  obtain ⟨its, r, ⟨⟨cls, dd, data, sl⟩, ho, hc, n, hd⟩, hs⟩ := I.tuple hT
  simp only at hc hd
  subst hc hd
  have hle : its.length = xs.length := r.length.symm
  have c0 : (decide (k < -(2 ^ 63)) || decide (k ≥ 2 ^ 63)) = false := by
    rw [decide_eq_false (by omega), decide_eq_false (by omega)] <;> rfl
  have c1 : (its.toArray.isEmpty || k == 1) = true := by
    rcases hc1 with e | e
    · rw [e] at hle
      rw [List.eq_nil_of_length_eq_zero hle]
      rfl
    · rw [e]
      simp
  refine wpAny_binaryOp_repeat_ref (T := "tuple") (U := "int") (by decide) ⟨_, ho, rfl⟩ (fun s' => typeIs_int s' k t) noFill_tuple_mul F.fills_int_mul F.slot_int_rmul repeat_tuple F.slot_int_index.lookup
    (call_meets F.slot_int_rmul (typeIs_int s k t) F.entry_int_rmul (F.args_int_rmul_2 _ _) (int_rmul_tuple k t l its.toArray n dd sl)
      ⟨ho, rfl, ⟨_, ho, rfl⟩, call_meets F.slot_tuple_mul ⟨_, ho, rfl⟩ F.entry_tuple_mul (F.args_tuple_mul_2 _ _) (tuple_mulSame l its.toArray n dd sl k t c0 c1) ⟨ho, ?_⟩⟩)
  exact ⟨.ref l, H, I, rfl, q⟩
theorem op_repT0 : OpR X (binaryOp .Mult) (rRepT0 X.K) := by
  intro pins s σ H x y v u Q I rx ry h
  obtain ⟨l, k, xs, rfl, rfl, hT, h0, h1, hne, q⟩ := h
  cases rx
  obtain ⟨t, rfl⟩ := ry
  obtain ⟨its, r, ⟨⟨cls, dd, data, sl⟩, ho, hc, n, hd⟩, hs⟩ := I.tuple hT
  simp only at hc hd
  subst hc hd
  have hle : its.length = xs.length := r.length.symm
  have hn : its ≠ [] := fun e => hne (by
    rw [e] at hle
    exact List.eq_nil_of_length_eq_zero hle.symm)
  have hi : its.toArray.isEmpty = false := by
    cases its with
    | nil => exact absurd rfl hn
    | cons a b => rfl
  have c0 : (decide (k < -(2 ^ 63)) || decide (k ≥ 2 ^ 63)) = false := by
    rw [decide_eq_false (by omega), decide_eq_false (by omega)] <;> rfl
  have c1 : (its.toArray.isEmpty || k == 1) = false := by
    rw [hi, Bool.false_or]
    exact beq_eq_false_iff_ne.mpr (by omega)
  have c2 : (decide (k ≤ 0) || its.toArray.isEmpty) = true := by
    rw [decide_eq_true h1]; rfl
  refine wpAny_binaryOp_repeat_ref (T := "tuple") (U := "int") (by decide) ⟨_, ho, rfl⟩ (fun s' => typeIs_int s' k t) noFill_tuple_mul F.fills_int_mul F.slot_int_rmul repeat_tuple F.slot_int_index.lookup
    (call_meets F.slot_int_rmul (typeIs_int s k t) F.entry_int_rmul (F.args_int_rmul_2 _ _) (int_rmul_tuple k t l its.toArray n dd sl)
      ⟨ho, rfl, ⟨_, ho, rfl⟩, call_meets F.slot_tuple_mul ⟨_, ho, rfl⟩ F.entry_tuple_mul (F.args_tuple_mul_2 _ _) (tuple_mulNone l its.toArray n dd sl k t c0 c1 c2) ⟨ho, ?_⟩⟩)
  refine ⟨.ref s.heap.objs.size, _, I.laid (t' := s.toks) (o := .tup []) (fun b ob q => Heap.get?_push_of_some _ q) (Nat.le_refl _) ?_, rfl, q _ (I.hok.fresh (Nat.le_refl _))⟩
  exact ⟨Nat.zero_le _, [], .nil, IsTup.new _ _⟩
/-- a text some times -/
def strMul (x : Str) (k : Int) : Str := Txt.mul x k
def rRepS : R2 := fun x y H Q => ∃ i k, x = .str i ∧ y = .int k ∧ -(2 ^ 63) ≤ k ∧ k < 2 ^ 63 ∧ i.length * k.toNat ≤ 1000000 ∧ Q (.str (strMul i k)) H
theorem op_repS : OpR X (binaryOp .Mult) rRepS := by
  intro pins s σ H x y v u Q I rx ry h
  obtain ⟨i, k, rfl, rfl, h0, h1, hz, q⟩ := h
  obtain ⟨t, rfl⟩ := rx
  obtain ⟨t', rfl⟩ := ry
  refine SB.mul ⟨?_, fun hk hc => ?_, fun hk hc => ?_⟩ fun t' tk => ⟨.str (strMul i k), H, I.tok _, ⟨_, rfl⟩, q⟩
  · rw [decide_eq_false (by omega), decide_eq_false (by omega)] <;> rfl
  · intro z
    have hk0 : 0 < k := by omega
    have a1 : ((i.length : Nat) : Int) * k ≤ 1000000 := by
      have : ((i.length * k.toNat : Nat) : Int) ≤ 1000000 := Int.ofNat_le.mpr hz
      rw [Int.natCast_mul, Int.toNat_of_nonneg (by omega)] at this
      exact this
    have a3 : (2 ^ 63 - 1) / k < ((i.length : Nat) : Int) := z
    have a4 := (Int.ediv_lt_iff_lt_mul hk0).mp a3
    omega
  · unfold Builtin.Str.tooLong
    rw [sizeLine_eq]
    exact decide_eq_false (by omega)
end
end L2
end

section
set_option maxRecDepth 100000
set_option maxHeartbeats 2000000
/-! Operators and built-ins over data. -/
namespace L2.Dl
open PySem PySem.Spec PyProof.Rows

section
variable {K : PySem.W.Frag} {mg : Str → Option Value}
/-! ### + - * // % and the like -/
def addD : D → D → Option D
  | .int i, .int j => some (.int (i + j))
  | .str x, .str y => if x.length + y.length ≤ sizeLine then some (.str (x ++ y)) else none
  | .tup l, .tup m => if l.length + m.length ≤ sizeLine then some (.tup (l ++ m)) else none
  | .lst l, .lst m => if l.length + m.length ≤ sizeLine then some (.lst (l ++ m)) else none
  | _, _ => none
def rAddD (K : PySem.W.Frag) : R2 := fun x y H Q => rI0 (fun i j => .int (i + j)) x y H Q ∨ (∃ i j, x = .str i ∧ y = .str j ∧ i.length + j.length ≤ sizeLine ∧ Q (.str (i ++ j)) H) ∨ rCatA K x y H Q ∨ rCat x y H Q
theorem op_addD {X : Cx} : OpR X (binaryOp .Add) (rAddD X.K) := op_add.or (op_add_str.or (op_catA.or op_cat))
theorem addD_ok : OpD K mg (rAddD K) addD := by
  intro pa W H x y d1 d2 d Q hf r1 r2 e q
  cases d1 with
  | int i =>
    cases d2 with
    | int j =>
      cases e
      rw [r1.int, r2.int]
      exact .inl ⟨i, j, rfl, rfl, q _ H (Same.refl H) (R_int.mpr rfl)⟩
    | _ => cases e
  | str i =>
    cases d2 with
    | str j =>
      simp only [addD] at e
      split at e
      · rename_i hl
        cases e
        rw [r1.str, r2.str]
        exact .inr (.inl ⟨i, j, rfl, rfl, hl, q _ H (Same.refl H) (R_str.mpr rfl)⟩)
      · cases e
    | _ => cases e
  | tup l =>
    cases d2 with
    | tup m =>
      simp only [addD] at e
      split at e
      · rename_i hl
        cases e
        obtain ⟨a, vs, rfl, ha, ra⟩ := r1.tup
        obtain ⟨b, ws, rfl, hb, rb⟩ := r2.tup
        have e1 := RL.length ra
        have e2 := RL.length rb
        refine .inr (.inr (.inl ⟨a, b, vs, ws, rfl, rfl, SqT.of ha, SqT.of hb, by omega, fun z => ?_, fun _ z => ?_, fun _ _ p hp => ?_⟩))
        · rw [z] at ra
          have z2 : l = [] := by
            cases l with
            | nil => rfl
            | cons _ _ => rw [z] at e1; cases e1
          refine q _ H (Same.refl H) ?_
          rw [z2, List.nil_append]
          exact r2.sh trivial
        · have z2 : m = [] := by
            cases m with
            | nil => rfl
            | cons _ _ => rw [z] at e2; cases e2
          refine q _ H (Same.refl H) ?_
          rw [z2, List.append_nil]
          exact r1.sh trivial
        · exact q _ _ (same_upd hp) (R_newT hp (hf p hp) (RL.append ra rb))
      · cases e
    | _ => cases e
  | lst l =>
    cases d2 with
    | lst m =>
      simp only [addD] at e
      split at e
      · rename_i hl
        cases e
        obtain ⟨a, vs, rfl, ha, ra⟩ := r1.lst
        obtain ⟨b, ws, rfl, hb, rb⟩ := r2.lst
        have e1 := RL.length ra
        have e2 := RL.length rb
        exact .inr (.inr (.inr ⟨a, b, vs, ws, rfl, rfl, ha, hb, by omega, fun p hp => q _ _ (same_upd hp) (R_newL hp (hf p hp) (RL.append ra rb))⟩))
      · cases e
    | _ => cases e
  | _ => cases e
/-- of two ints -/
def intD (C : Int → Int → Bool) (f : Int → Int → D) : D → D → Option D
  | .int i, .int j => if C i j then some (f i j) else none
  | _, _ => none
theorem intD_ok {C : Int → Int → Prop} {Cb : Int → Int → Bool} {f : Int → Int → Int} (h : ∀ i j, Cb i j = true → C i j) : OpD K mg (rI C fun i j => .int (f i j)) (intD Cb fun i j => .int (f i j)) := by
  intro pa W H x y d1 d2 d Q hf r1 r2 e q
  cases d1 with
  | int i =>
    cases d2 with
    | int j =>
      simp only [intD] at e
      split at e
      · rename_i hl
        cases e
        rw [r1.int, r2.int]
        exact ⟨i, j, rfl, rfl, h i j hl, q _ H (Same.refl H) (R_int.mpr rfl)⟩
      · cases e
    | _ => cases e
  | _ => cases e
theorem intD0_ok {f : Int → Int → Int} : OpD K mg (rI0 fun i j => .int (f i j)) (intD (fun _ _ => true) fun i j => .int (f i j)) := by
  intro pa W H x y d1 d2 d Q hf r1 r2 e q
  cases d1 with
  | int i =>
    cases d2 with
    | int j =>
      cases e
      rw [r1.int, r2.int]
      exact ⟨i, j, rfl, rfl, q _ H (Same.refl H) (R_int.mpr rfl)⟩
    | _ => cases e
  | _ => cases e
theorem boolD0_ok {f : Int → Int → Bool} : OpD K mg (rI0 fun i j => .bl (f i j)) (intD (fun _ _ => true) fun i j => .bl (f i j)) := by
  intro pa W H x y d1 d2 d Q hf r1 r2 e q
  cases d1 with
  | int i =>
    cases d2 with
    | int j =>
      cases e
      rw [r1.int, r2.int]
      exact ⟨i, j, rfl, rfl, q _ H (Same.refl H) (R_bl.mpr rfl)⟩
    | _ => cases e
  | _ => cases e
def subD := intD (fun _ _ => true) fun i j => .int (i - j)
def modD := intD (fun _ j => decide (j ≠ 0)) fun i j => .int (i.fmod j)
def powD := intD (fun i j => decide (0 ≤ j ∧ j ≤ 1000000 ∧ i.natAbs < 2 ^ 64)) fun i j => .int (i ^ j.toNat)
def shlD := intD (fun i j => decide (0 ≤ j ∧ j ≤ 1000000 ∧ i.natAbs < 2 ^ 64)) fun i j => .int (i * 2 ^ j.toNat)
def shrD := intD (fun _ j => decide (0 ≤ j)) fun i j => .int (i / 2 ^ j.toNat)
def bandD := intD (fun _ _ => true) fun i j => .int (Builtin.bitAnd i j)
def bxorD := intD (fun _ _ => true) fun i j => .int (Builtin.bitXor i j)
def ltD := intD (fun _ _ => true) fun i j => .bl (decide (i < j))
def leD := intD (fun _ _ => true) fun i j => .bl (decide (i ≤ j))
def gtD := intD (fun _ _ => true) fun i j => .bl (decide (j < i))
def geD := intD (fun _ _ => true) fun i j => .bl (decide (j ≤ i))
theorem subD_ok : OpD K mg (rI0 fun i j => .int (i - j)) subD := intD0_ok
theorem bandD_ok : OpD K mg (rI0 fun i j => .int (Builtin.bitAnd i j)) bandD := intD0_ok
theorem bxorD_ok : OpD K mg (rI0 fun i j => .int (Builtin.bitXor i j)) bxorD := intD0_ok
theorem modD_ok : OpD K mg (rI (fun _ j => j ≠ 0) fun i j => .int (i.fmod j)) modD := intD_ok fun _ _ h => of_decide_eq_true h
theorem powD_ok : OpD K mg (rI CPow fun i j => .int (i ^ j.toNat)) powD := intD_ok fun i j h => of_decide_eq_true (p := 0 ≤ j ∧ j ≤ 1000000 ∧ i.natAbs < 2 ^ 64) h
theorem shlD_ok : OpD K mg (rI CPow fun i j => .int (i * 2 ^ j.toNat)) shlD := intD_ok fun i j h => of_decide_eq_true (p := 0 ≤ j ∧ j ≤ 1000000 ∧ i.natAbs < 2 ^ 64) h
theorem shrD_ok : OpD K mg (rI (fun _ j => 0 ≤ j) fun i j => .int (i / 2 ^ j.toNat)) shrD := intD_ok fun _ _ h => of_decide_eq_true h
theorem ltD_ok : OpD K mg (rI0 fun i j => .bl (decide (i < j))) ltD := boolD0_ok
theorem leD_ok : OpD K mg (rI0 fun i j => .bl (decide (i ≤ j))) leD := boolD0_ok
theorem gtD_ok : OpD K mg (rI0 fun i j => .bl (decide (j < i))) gtD := boolD0_ok
theorem geD_ok : OpD K mg (rI0 fun i j => .bl (decide (j ≤ i))) geD := boolD0_ok
/-- * : two ints, a list or a tuple some times -/
def mulD : D → D → Option D
  | .int i, .int j => if i.natAbs.log2 + j.natAbs.log2 < 1000000 then some (.int (i * j)) else none
  | .lst l, .int k => if -(2 ^ 63) ≤ k ∧ k < 2 ^ 63 ∧ l.length * k.toNat ≤ sizeLine then some (.lst (List.replicate k.toNat l).flatten) else none
  | .tup l, .int k => if -(2 ^ 63) ≤ k ∧ k ≤ 1000 ∧ l.length ≤ 1000 then some (.tup (List.replicate k.toNat l).flatten) else none
  | .str x, .int k => if -(2 ^ 63) ≤ k ∧ k < 2 ^ 63 ∧ x.length * k.toNat ≤ 1000000 then some (.str (strMul x k)) else none
  | _, _ => none
def rMulD (K : PySem.W.Frag) : R2 := fun x y H Q => rI CMulW (fun i j => .int (i * j)) x y H Q ∨ rRep x y H Q ∨ rRepT K x y H Q ∨ rRepT1 K x y H Q ∨ rRepT0 K x y H Q ∨ rRepS x y H Q
theorem op_mulD {X : Cx} : OpR X (binaryOp .Mult) (rMulD X.K) := op_mulW.or (op_rep.or (op_repT.or (op_repT1.or (op_repT0.or op_repS))))
theorem mulD_ok : OpD K mg (rMulD K) mulD := by
  intro pa W H x y d1 d2 d Q hf r1 r2 e q
  cases d1 with
  | int i =>
    cases d2 with
    | int j =>
      simp only [mulD] at e
      split at e
      · rename_i hl
        cases e
        rw [r1.int, r2.int]
        exact .inl ⟨i, j, rfl, rfl, hl, q _ H (Same.refl H) (R_int.mpr rfl)⟩
      · cases e
    | _ => cases e
  | lst l =>
    cases d2 with
    | int k =>
      simp only [mulD] at e
      split at e
      · rename_i hl
        cases e
        obtain ⟨a, vs, rfl, ha, ra⟩ := r1.lst
        rw [r2.int]
        have e1 := RL.length ra
        exact .inr (.inl ⟨a, k, vs, rfl, rfl, ha, hl.1, hl.2.1, by rw [e1]; exact hl.2.2, fun p hp => q _ _ (same_upd hp) (R_newL hp (hf p hp) (RL.rep ra _))⟩)
      · cases e
    | _ => cases e
  | tup l =>
    cases d2 with
    | int k =>
      simp only [mulD] at e
      split at e
      · rename_i hl
        cases e
        obtain ⟨a, vs, rfl, ha, ra⟩ := r1.tup
        rw [r2.int]
        have e1 := RL.length ra
        by_cases h1 : l = [] ∨ k = 1
        · refine .inr (.inr (.inr (.inl ⟨a, k, vs, rfl, rfl, SqT.of ha, hl.1, by omega, h1.imp (fun z => ?_) id, q _ H (Same.refl H) ?_⟩)))
          · rw [z] at e1
            exact List.eq_nil_of_length_eq_zero e1
          · have e2 : (List.replicate k.toNat l).flatten = l := by
              rcases h1 with z | z
              · rw [z]; simp
              · rw [z]; simp
            rw [e2]
            exact r1.sh trivial
        · have hne : vs ≠ [] := fun z => h1 (.inl (by
            cases l with
            | nil => rfl
            | cons _ _ => rw [z] at e1; cases e1))
          by_cases h2 : k ≤ 0
          · refine .inr (.inr (.inr (.inr (.inl ⟨a, k, vs, rfl, rfl, SqT.of ha, hl.1, h2, hne, fun p hp => q _ _ (same_upd hp) ?_⟩))))
            have e2 : (List.replicate k.toNat l).flatten = [] := by
              rw [Int.toNat_of_nonpos h2]; rfl
            rw [e2]
            exact R_newT hp (hf p hp) RL.nil
          · exact .inr (.inr (.inl ⟨a, k, vs, rfl, rfl, SqT.of ha, hne, by omega, hl.2.1, by rw [e1]; exact hl.2.2, fun p hp => q _ _ (same_upd hp) (R_newT hp (hf p hp) (RL.rep ra _))⟩))
      · cases e
    | _ => cases e
  | str x =>
    cases d2 with
    | int k =>
      simp only [mulD] at e
      split at e
      · rename_i hl
        cases e
        rw [r1.str, r2.int]
        exact .inr (.inr (.inr (.inr (.inr ⟨x, k, rfl, rfl, hl.1, hl.2.1, hl.2.2, q _ H (Same.refl H) (R_str.mpr rfl)⟩))))
      · cases e
    | _ => cases e
  | _ => cases e
/-- // -/
def divD : D → D → Option D
  | .int i, .int j => if 0 < j ∧ j.natAbs.log2 < 9000 then some (.int (i / j)) else if j ≠ 0 ∧ j.natAbs < 1073741824 then some (.int (i.fdiv j)) else none
  | _, _ => none
def rDivD : R2 := fun x y H Q => rI CDivW (fun i j => .int (i / j)) x y H Q ∨ rI CDivN (fun i j => .int (i.fdiv j)) x y H Q
theorem op_divD {X : Cx} : OpR X (binaryOp .FloorDiv) rDivD := op_fdivW.or op_fdivN
theorem divD_ok : OpD K mg rDivD divD := by
  intro pa W H x y d1 d2 d Q hf r1 r2 e q
  cases d1 with
  | int i =>
    cases d2 with
    | int j =>
      simp only [divD] at e
      rw [r1.int, r2.int]
      split at e
      · rename_i hl
        cases e
        exact .inl ⟨i, j, rfl, rfl, hl, q _ H (Same.refl H) (R_int.mpr rfl)⟩
      · split at e
        · rename_i hl
          cases e
          exact .inr ⟨i, j, rfl, rfl, hl, q _ H (Same.refl H) (R_int.mpr rfl)⟩
        · cases e
    | _ => cases e
  | _ => cases e
/-- - -/
def negD : D → Option D
  | .int i => some (.int (-i))
  | _ => none
theorem negD_ok : UnD K mg (rU fun i => .int (-i)) negD := by
  intro pa W H x d1 d Q hf r1 e q
  cases d1 with
  | int i =>
    cases e
    rw [r1.int]
    exact ⟨i, rfl, q _ H (Same.refl H) (R_int.mpr rfl)⟩
  | _ => cases e

/-! ### == , in, is -/
def eqD (d e : D) : Option D := if plainD 60 d && plainD 60 e then some (.bl (D.eqv d e)) else none
def neD (d e : D) : Option D := if plainD 60 d && plainD 60 e then some (.bl (!D.eqv d e)) else none
theorem eqD_ok : OpD K mg (rEqD K) eqD := by
  intro pa W H x y d1 d2 d Q hf r1 r2 e q
  unfold eqD at e
  split at e
  · rename_i hp
    cases e
    rw [Bool.and_eq_true] at hp
    refine ⟨toPy d1, toPy d2, r1.dp hp.1, r2.dp hp.2, plain_shaped hp.1 (by decide), plain_shaped hp.2 (by decide), ?_⟩
    rw [plain_eqv 60 d1 d2 hp.1 hp.2]
    exact q _ H (Same.refl H) (R_bl.mpr rfl)
  · cases e
theorem neD_ok : OpD K mg (rNeD K) neD := by
  intro pa W H x y d1 d2 d Q hf r1 r2 e q
  unfold neD at e
  split at e
  · rename_i hp
    cases e
    rw [Bool.and_eq_true] at hp
    refine ⟨toPy d1, toPy d2, r1.dp hp.1, r2.dp hp.2, plain_shaped hp.1 (by decide), plain_shaped hp.2 (by decide), ?_⟩
    rw [plain_eqv 60 d1 d2 hp.1 hp.2]
    exact q _ H (Same.refl H) (R_bl.mpr rfl)
  · cases e
def D.isNon : D → Bool
  | .non => true
  | _ => false
def isND (d e : D) : Option D := if e.isNon then some (.bl d.isNon) else none
def notND (d e : D) : Option D := if e.isNon then some (.bl (!d.isNon)) else none
theorem RB.isNon {g : G} {W : Addr → Prop} {H : Hp} {d : D} {v : V} (r : RB g W H d v) : decide (v = .non) = d.isNon := by
  cases d with
  | non => rw [r.non]; rfl
  | bl b => rw [r.bl]; rfl
  | int b => rw [r.int]; rfl
  | str b => rw [r.str]; rfl
  | tup l => obtain ⟨a, vs, rfl, _⟩ := r.tup; rfl
  | lst l => obtain ⟨a, vs, rfl, _⟩ := r.lst; rfl
  | obj c ns fs => obtain ⟨a, _, _, vs, rfl, _⟩ := r.obj; rfl
  | dic ks vs => obtain ⟨a, rfl, _⟩ := r.dic; rfl
  | pen => rw [R_pen.mp (r.sh trivial)]; rfl
theorem isND_ok : OpD K mg (fun x y H Q => y = .non ∧ Q (.bl (decide (x = .non))) H) isND := by
  intro pa W H x y d1 d2 d Q hf r1 r2 e q
  unfold isND at e
  split at e
  · rename_i hp
    cases e
    have h := r2.isNon
    rw [hp] at h
    refine ⟨of_decide_eq_true h, ?_⟩
    rw [r1.isNon]
    exact q _ H (Same.refl H) (R_bl.mpr rfl)
  · cases e
theorem notND_ok : OpD K mg (fun x y H Q => y = .non ∧ Q (.bl (!decide (x = .non))) H) notND := by
  intro pa W H x y d1 d2 d Q hf r1 r2 e q
  unfold notND at e
  split at e
  · rename_i hp
    cases e
    have h := r2.isNon
    rw [hp] at h
    refine ⟨of_decide_eq_true h, ?_⟩
    rw [r1.isNon]
    exact q _ H (Same.refl H) (R_bl.mpr rfl)
  · cases e

/-! ### items -/
def ixD : D → D → Option D
  | .lst l, .int i => atI l i
  | .tup l, .int i => atI l i
  | .str x, .int i => if x.length ≤ sizeLine then (atI x.cps.toList i).map fun c => .str ⟨#[c]⟩ else none
  | _, _ => none
theorem atI_rel {g : G} {H : Hp} {l : List D} {vs : List V} {i : Int} {d : D} (r : RL g H l vs) (e : atI l i = some d) : ∃ v, atI vs i = some v ∧ R g H d v := by
  unfold atI at e ⊢
  rw [RL.length r]
  cases q : ixN l.length i with
  | none => rw [q] at e; cases e
  | some j =>
    rw [q] at e
    exact RL.get r e
theorem ixD_ok : OpD K mg (rIx K) ixD := by
  intro pa W H x y d1 d2 d Q hf r1 r2 e q
  cases d1 with
  | lst l =>
    cases d2 with
    | int i =>
      obtain ⟨a, vs, rfl, ha, ra⟩ := r1.lst
      rw [r2.int]
      obtain ⟨v, e1, e2⟩ := atI_rel ra e
      exact .inl ⟨a, vs, i, v, rfl, rfl, SqL.of ha, e1, q v H (Same.refl H) e2⟩
    | _ => cases e
  | tup l =>
    cases d2 with
    | int i =>
      obtain ⟨a, vs, rfl, ha, ra⟩ := r1.tup
      rw [r2.int]
      obtain ⟨v, e1, e2⟩ := atI_rel ra e
      exact .inr (.inl ⟨a, vs, i, v, rfl, rfl, SqT.of ha, e1, q v H (Same.refl H) e2⟩)
    | _ => cases e
  | str z =>
    cases d2 with
    | int i =>
      simp only [ixD] at e
      split at e
      · rename_i hz
        rw [r1.str, r2.int]
        cases z1 : atI z.cps.toList i with
        | none => rw [z1] at e; cases e
        | some c =>
          rw [z1] at e
          cases e
          exact .inr (.inr ⟨z, i, c, rfl, rfl, hz, z1, q _ H (Same.refl H) (R_str.mpr rfl)⟩)
      · cases e
    | _ => cases e
  | _ => cases e

/-! ### built-ins -/
def lenD : List D → Option D
  | [.lst l] => some (.int l.length)
  | [.tup l] => some (.int l.length)
  | [.str x] => if x.length ≤ sizeLine then some (.int x.length) else none
  | _ => none
theorem rbl1 {g : G} {W : Addr → Prop} {H : Hp} {d : D} {xs : List V} (r : RBL g W H [d] xs) : ∃ v, xs = [v] ∧ RB g W H d v := by
  obtain ⟨v, r', rfl, a, b⟩ := r
  have e : r' = [] := b
  rw [e]
  exact ⟨v, rfl, a⟩
theorem rbl2 {g : G} {W : Addr → Prop} {H : Hp} {d e : D} {xs : List V} (r : RBL g W H [d, e] xs) : ∃ v w, xs = [v, w] ∧ RB g W H d v ∧ RB g W H e w := by
  obtain ⟨v, r', rfl, a, b⟩ := r
  obtain ⟨w, rfl, c⟩ := rbl1 b
  exact ⟨v, w, rfl, a, c⟩
theorem lenD_ok : CallD K mg (fun xs H Q => ∃ x n, xs = [x] ∧ LenV K x H n ∧ Q (.int n) H) lenD := by
  intro pa W H xs ds d Q hf r e q
  match ds, e with
  | [.lst l], e =>
    cases e
    obtain ⟨v, rfl, r0⟩ := rbl1 r
    obtain ⟨a, vs, rfl, ha, ra⟩ := r0.lst
    exact ⟨_, l.length, rfl, .inl ⟨vs, SqL.of ha, (RL.length ra).symm⟩, q _ H (Same.refl H) (R_int.mpr rfl)⟩
  | [.tup l], e =>
    cases e
    obtain ⟨v, rfl, r0⟩ := rbl1 r
    obtain ⟨a, vs, rfl, ha, ra⟩ := r0.tup
    exact ⟨_, l.length, rfl, .inr ⟨vs, SqT.of ha, (RL.length ra).symm⟩, q _ H (Same.refl H) (R_int.mpr rfl)⟩
  | [.str x], e =>
    simp only [lenD] at e
    split at e
    · rename_i hz
      cases e
      obtain ⟨v, rfl, r0⟩ := rbl1 r
      rw [r0.str]
      exact ⟨_, x.length, rfl, ⟨hz, rfl⟩, q _ H (Same.refl H) (R_int.mpr rfl)⟩
    · cases e
def listD : List D → Option D
  | [.lst l] => some (.lst l)
  | [.tup l] => some (.lst l)
  | _ => none
theorem listD_ok : CallD K mg (fun xs H Q => ∃ p ys, xs = [.ref p] ∧ (SqL K H p ys ∨ SqT K H p ys) ∧ ∀ l, H l = none → Q (.ref l) (upd H l (.lst ys))) listD := by
  intro pa W H xs ds d Q hf r e q
  match ds, e with
  | [.lst l], e =>
    cases e
    obtain ⟨v, rfl, r0⟩ := rbl1 r
    obtain ⟨a, vs, rfl, ha, ra⟩ := r0.lst
    exact ⟨a, vs, rfl, .inl (SqL.of ha), fun p hp => q _ _ (same_upd hp) (R_newL hp (hf p hp) ra)⟩
  | [.tup l], e =>
    cases e
    obtain ⟨v, rfl, r0⟩ := rbl1 r
    obtain ⟨a, vs, rfl, ha, ra⟩ := r0.tup
    exact ⟨a, vs, rfl, .inr (SqT.of ha), fun p hp => q _ _ (same_upd hp) (R_newL hp (hf p hp) ra)⟩
def tupleD : List D → Option D
  | [.lst l] => some (.tup l)
  | [.tup l] => some (.tup l)
  | _ => none
theorem tupleD_ok : CallD K mg (fun xs H Q => ∃ p ys, xs = [.ref p] ∧ ((SqL K H p ys ∧ ∀ l, H l = none → Q (.ref l) (upd H l (.tup ys))) ∨ (SqT K H p ys ∧ Q (.ref p) H))) tupleD := by
  intro pa W H xs ds d Q hf r e q
  match ds, e with
  | [.lst l], e =>
    cases e
    obtain ⟨v, rfl, r0⟩ := rbl1 r
    obtain ⟨a, vs, rfl, ha, ra⟩ := r0.lst
    exact ⟨a, vs, rfl, .inl ⟨SqL.of ha, fun p hp => q _ _ (same_upd hp) (R_newT hp (hf p hp) ra)⟩⟩
  | [.tup l], e =>
    cases e
    obtain ⟨v, rfl, r0⟩ := rbl1 r
    obtain ⟨a, vs, e2, ha, ra⟩ := r0.tup
    subst e2
    refine ⟨a, vs, rfl, .inr ⟨SqT.of ha, q _ H (Same.refl H) ?_⟩⟩
    exact r0.sh trivial
/-- the ints of a row -/
def intsOf : List D → Option (List Int)
  | [] => some []
  | .int i :: l => (intsOf l).map fun r => i :: r
  | _ => none
def bools : List D → Option (List Bool)
  | [] => some []
  | .bl i :: l => (bools l).map fun r => i :: r
  | _ => none
theorem intsOf_vs {g : G} {H : Hp} : ∀ {l : List D} {ns : List Int} {vs : List V}, intsOf l = some ns → RL g H l vs → vs = ns.map V.int
  | [], ns, vs, e, r => by
    cases e
    rw [RL_nil.mp r]; rfl
  | d :: l, ns, vs, e, r => by
    obtain ⟨v, r', rfl, a, b⟩ := RL_cons.mp r
    cases d with
    | int i =>
      simp only [intsOf] at e
      cases q : intsOf l with
      | none => rw [q] at e; cases e
      | some ms =>
        rw [q] at e
        cases e
        rw [R_int.mp a, intsOf_vs q b]
        rfl
    | _ => cases e
theorem bools_vs {g : G} {H : Hp} : ∀ {l : List D} {ns : List Bool} {vs : List V}, bools l = some ns → RL g H l vs → vs = ns.map V.bl
  | [], ns, vs, e, r => by
    cases e
    rw [RL_nil.mp r]; rfl
  | d :: l, ns, vs, e, r => by
    obtain ⟨v, r', rfl, a, b⟩ := RL_cons.mp r
    cases d with
    | bl i =>
      simp only [bools] at e
      cases q : bools l with
      | none => rw [q] at e; cases e
      | some ms =>
        rw [q] at e
        cases e
        rw [R_bl.mp a, bools_vs q b]
        rfl
    | _ => cases e
def sumD : List D → Option D
  | [.lst l] => (intsOf l).map fun ns => .int ns.sum
  | _ => none
theorem sumD_ok : CallD K mg (rSum K) sumD := by
  intro pa W H xs ds d Q hf r e q
  match ds, e with
  | [.lst l], e =>
    obtain ⟨v, rfl, r0⟩ := rbl1 r
    obtain ⟨a, vs, rfl, ha, ra⟩ := r0.lst
    simp only [sumD] at e
    cases z : intsOf l with
    | none => rw [z] at e; cases e
    | some ns =>
      rw [z] at e
      cases e
      have ev := intsOf_vs z ra
      subst ev
      exact ⟨a, ns, rfl, SqL.of ha, q _ H (Same.refl H) (R_int.mpr rfl)⟩
def allD : List D → Option D
  | [.lst l] => (bools l).map fun bs => .bl (bs.all id)
  | _ => none
theorem allD_ok : CallD K mg (rAll K) allD := by
  intro pa W H xs ds d Q hf r e q
  match ds, e with
  | [.lst l], e =>
    obtain ⟨v, rfl, r0⟩ := rbl1 r
    obtain ⟨a, vs, rfl, ha, ra⟩ := r0.lst
    simp only [allD] at e
    cases z : bools l with
    | none => rw [z] at e; cases e
    | some ns =>
      rw [z] at e
      cases e
      have ev := bools_vs z ra
      subst ev
      exact ⟨a, ns, rfl, SqL.of ha, q _ H (Same.refl H) (R_bl.mpr rfl)⟩
def anyD : List D → Option D
  | [.lst l] => (bools l).map fun bs => .bl (bs.any id)
  | _ => none
theorem anyD_ok : CallD K mg (rAny K) anyD := by
  intro pa W H xs ds d Q hf r e q
  match ds, e with
  | [.lst l], e =>
    obtain ⟨v, rfl, r0⟩ := rbl1 r
    obtain ⟨a, vs, rfl, ha, ra⟩ := r0.lst
    simp only [anyD] at e
    cases z : bools l with
    | none => rw [z] at e; cases e
    | some ns =>
      rw [z] at e
      cases e
      have ev := bools_vs z ra
      subst ev
      exact ⟨a, ns, rfl, SqL.of ha, q _ H (Same.refl H) (R_bl.mpr rfl)⟩
def absD : List D → Option D
  | [.int i] => some (.int (if i < 0 then -i else i))
  | _ => none
theorem absD_ok : CallD K mg (fun xs H Q => ∃ i, xs = [.int i] ∧ Q (.int (if i < 0 then -i else i)) H) absD := by
  intro pa W H xs ds d Q hf r e q
  match ds, e with
  | [.int i], e =>
    cases e
    obtain ⟨v, rfl, r0⟩ := rbl1 r
    rw [r0.int]
    exact ⟨i, rfl, q _ H (Same.refl H) (R_int.mpr rfl)⟩
def intOf : List D → Option D
  | [.int i] => some (.int i)
  | [.bl k] => some (.int (if k then 1 else 0))
  | _ => none
theorem intOf_ok : CallD K mg (fun xs H Q => (∃ i, xs = [.int i] ∧ Q (.int i) H) ∨ ∃ k, xs = [.bl k] ∧ Q (.int (if k then 1 else 0)) H) intOf := by
  intro pa W H xs ds d Q hf r e q
  match ds, e with
  | [.int i], e =>
    cases e
    obtain ⟨v, rfl, r0⟩ := rbl1 r
    rw [r0.int]
    exact .inl ⟨i, rfl, q _ H (Same.refl H) (R_int.mpr rfl)⟩
  | [.bl k], e =>
    cases e
    obtain ⟨v, rfl, r0⟩ := rbl1 r
    rw [r0.bl]
    exact .inr ⟨k, rfl, q _ H (Same.refl H) (R_int.mpr rfl)⟩
def max2D : List D → Option D
  | [.int i, .int j] => some (.int (if j > i then j else i))
  | _ => none
theorem max2D_ok : CallD K mg (fun xs H Q => ∃ i j, xs = [.int i, .int j] ∧ Q (.int (if j > i then j else i)) H) max2D := by
  intro pa W H xs ds d Q hf r e q
  match ds, e with
  | [.int i, .int j], e =>
    cases e
    obtain ⟨v, w, rfl, r1, r2⟩ := rbl2 r
    rw [r1.int, r2.int]
    exact ⟨i, j, rfl, q _ H (Same.refl H) (R_int.mpr rfl)⟩
def min2D : List D → Option D
  | [.int i, .int j] => some (.int (if j < i then j else i))
  | _ => none
theorem min2D_ok : CallD K mg (fun xs H Q => ∃ i j, xs = [.int i, .int j] ∧ Q (.int (if j < i then j else i)) H) min2D := by
  intro pa W H xs ds d Q hf r e q
  match ds, e with
  | [.int i, .int j], e =>
    cases e
    obtain ⟨v, w, rfl, r1, r2⟩ := rbl2 r
    rw [r1.int, r2.int]
    exact ⟨i, j, rfl, q _ H (Same.refl H) (R_int.mpr rfl)⟩
end

section
variable {T : List (Addr × Str)} {X : Cx} {E : XK} {e a b : Expr} {es : List Expr} {m ma mb mc : M D} {ml : M (List D)} {pos p : Pos}
/-- a built-in by its name -/
theorem ge_callB {x : Str} {id : String} {r : List V → Hp → VK → Prop} {f : List D → Option D} (hc : CallR X (.builtin id) r) (ho : CallD X.K X.mg r f) (hm : X.mg x = none) (ha : GAB T X E (e :: es) ml) (hg : Gl X x := by rfl) (hv : bootBuiltins x = some (.builtin id) := by decide +kernel)
    (hn : x ≠ "__name__" := by decide) (hdb : (x == ("__debug__" : Str)) = false := by decide) (he : starEach (e :: es) X.env = (false, eval e X.env) :: starEach es X.env := by rfl) (hpl : (backTo pos (starEach es X.env)).any (·.1) = false := by rfl) :
    GE T X E (.Call (.Name x p) (e :: es) [] pos) (mC f ml) := ge_of_call (pe_callB hc hg hm hv ha.pa hn hdb he hpl) ho
theorem ge_callTy {x : Str} {T' : String} {r : List V → Hp → VK → Prop} {f : List D → Option D} (hc : CallR X (.type T') r) (ho : CallD X.K X.mg r f) (hm : X.mg x = none) (ha : GAB T X E (e :: es) ml) (hg : Gl X x := by rfl) (hv : bootBuiltins x = some (.type T') := by decide +kernel)
    (hn : x ≠ "__name__" := by decide) (hdb : (x == ("__debug__" : Str)) = false := by decide) (he : starEach (e :: es) X.env = (false, eval e X.env) :: starEach es X.env := by rfl) (hpl : (backTo pos (starEach es X.env)).any (·.1) = false := by rfl) :
    GE T X E (.Call (.Name x p) (e :: es) [] pos) (mC f ml) := ge_of_call (pe_callTy hc hg hm hv ha.pa hn hdb he hpl) ho
/-! ### and, or, not, if .. else -/
def asB : D → Option Bool
  | .bl b => some b
  | _ => none
def mAnd (ma mb : M D) : M D := mBind ma fun a => mBind (mOpt (asB a)) fun k => if k = true then mb else mOk (.bl false)
def mOr (ma mb : M D) : M D := mBind ma fun a => mBind (mOpt (asB a)) fun k => if k = true then mOk (.bl true) else mb
theorem RB.asB {g : G} {W : Addr → Prop} {H : Hp} {d : D} {v : V} {k : Bool} (r : RB g W H d v) (h : asB d = some k) : v = .bl k := by
  cases d with
  | bl b => cases h; exact r.bl
  | _ => cases h
theorem Res.optB {α β γ : Type} {rel : Hp → α → β → Prop} {g : G} {ca : Addr} {W : Addr → Prop} {H : Hp} {o : Option γ} {f : γ → M α} {ρ : Rho} {π : Pen} {Q : β → Hp → Prop} (h : Res rel T g ca W H (mBind (mOpt o) f ρ π) Q E) : ∃ a, o = some a ∧ Res rel T g ca W H (f a ρ π) Q E := by
  cases o with
  | none => exact h.elim
  | some a => exact ⟨a, rfl, h⟩
theorem ge_one {op} (h : GE T X E a ma) : GE T X E (.BoolOp op [a] pos) ma := ⟨pe_one h.pe⟩
theorem ge_and {rest : List Expr} (ha : GE T X E a ma) (hb : GE T X E (.BoolOp .And (b :: rest) pos) mb) : GE T X E (.BoolOp .And (a :: b :: rest) pos) (mAnd ma mb) :=
  ⟨pe_imp (pe_and ha.pe hb.pe) fun σ H Q ⟨pa, ca, O, ρ, π, good, res⟩ => ⟨pa, ca, O, ρ, π, good, Res.seq res fun d1 π1 v1 H1 s1 r1 res1 => by
    obtain ⟨k, e, res1⟩ := Res.optB (o := asB d1) res1
    refine ⟨k, (show RB _ _ _ d1 v1 from .inl r1).asB e, ?_⟩
    cases k with
    | true => rw [if_pos rfl] at res1 ⊢; exact ⟨pa, ca, O, ρ, π1, good.step s1, res1⟩
    | false => rw [if_neg Bool.false_ne_true] at res1 ⊢; exact Res.ok res1 (good.step s1).step0 (R_bl.mpr rfl)⟩⟩
theorem ge_or {rest : List Expr} (ha : GE T X E a ma) (hb : GE T X E (.BoolOp .Or (b :: rest) pos) mb) : GE T X E (.BoolOp .Or (a :: b :: rest) pos) (mOr ma mb) :=
  ⟨pe_imp (pe_or ha.pe hb.pe) fun σ H Q ⟨pa, ca, O, ρ, π, good, res⟩ => ⟨pa, ca, O, ρ, π, good, Res.seq res fun d1 π1 v1 H1 s1 r1 res1 => by
    obtain ⟨k, e, res1⟩ := Res.optB (o := asB d1) res1
    refine ⟨k, (show RB _ _ _ d1 v1 from .inl r1).asB e, ?_⟩
    cases k with
    | true => rw [if_pos rfl] at res1 ⊢; exact Res.ok res1 (good.step s1).step0 (R_bl.mpr rfl)
    | false => rw [if_neg Bool.false_ne_true] at res1 ⊢; exact ⟨pa, ca, O, ρ, π1, good.step s1, res1⟩⟩⟩
def notD : D → Option D
  | .bl b => some (.bl (!b))
  | _ => none
theorem ge_not (ha : GE T X E a ma) : GE T X E (.UnaryOp .Not a pos) (m1 notD ma) :=
  ⟨pe_imp (pe_not ha.pe) fun σ H Q ⟨pa, ca, O, ρ, π, good, res⟩ => ⟨pa, ca, O, ρ, π, good, Res.seq res fun d1 π1 v1 H1 s1 r1 res1 => by
    obtain ⟨d, e, res1⟩ := Res.opt (o := notD d1) res1
    cases d1 with
    | bl b =>
      cases e
      exact ⟨b, R_bl.mp r1, Res.ok res1 (good.step s1).step0 (R_bl.mpr rfl)⟩
    | _ => cases e⟩⟩
/-- an expression that gives a bool, as a test -/
def mTest (m : M D) : M Bool := mBind m fun d => mOpt (asB d)
theorem gt_val (h : GE T X E e m) (he : ∀ whole, isTrue e X.env whole = (do let v ← whole; standAt e.pos; holding [v] (truthy v)) := by intro _; rfl) : GT T X E e (mTest m) :=
  ⟨pt_imp (pt_val h.pe he) fun σ H Q ⟨pa, ca, O, ρ, π, good, res⟩ => ⟨pa, ca, O, ρ, π, good, Res.seq res fun d1 π1 v1 H1 s1 r1 res1 => by
    obtain ⟨k, e, res1⟩ := Res.opt (o := asB d1) res1
    exact ⟨k, (show RB _ _ _ d1 v1 from .inl r1).asB e, Res.ok res1 (good.step s1).step0 rfl⟩⟩⟩
def mT2 (f : D → D → Option D) (ma mb : M D) : M Bool := mBind ma fun a => mBind mb fun b => mBind (mOpt (f a b)) fun d => mOpt (asB d)
theorem gt_cmp {op : CmpOp} {r : R2} {f : D → D → Option D} (hr : OpR X (compareOp op) r) (ho : OpD X.K X.mg r f) (ha : GB T X E a ma) (hb : GB T X E b mb) (hm : behindInMarks op b = false := by first | exact nomark _ | rfl) : GT T X E (.Compare a [op] [b] pos) (mT2 f ma mb) :=
  ⟨pt_imp (pt_cmpR hr ha.pe hb.pe hm) fun σ H Q ⟨pa, ca, O, ρ, π, good, res⟩ => ⟨pa, ca, O, ρ, π, good, Res.seq res fun d1 π1 v1 H1 s1 r1 res1 => ⟨pa, ca, O, ρ, π1, good.step s1, Res.seq res1 fun d2 π2 v2 H2 s2 r2 res2 => by
    obtain ⟨d, e1, res2⟩ := Res.optB (o := f d1 d2) res2
    obtain ⟨k, e2, res2⟩ := Res.opt (o := asB d) res2
    have g2 := (good.step s1).step s2
    exact ho pa (WW O σ ρ) H2 v1 v2 d1 d2 d _ (fun p hp => g2.fresh hp) (RB.step s2 r1) r2 e1 fun v H3 hs hr => ⟨k, (show RB _ _ _ d v from .inl hr).asB e2, Res.ok res2 (g2.same hs) rfl⟩⟩⟩⟩
/-- a < b < c -/
def mChain (f f' : D → D → Option D) (ma mb mc : M D) : M D := mBind ma fun a => mBind mb fun b => mBind (mOpt (f a b)) fun z => mBind (mOpt (asB z)) fun k => if k = true then mBind mc fun c => mOpt (f' b c) else mOk (.bl false)
theorem tChain_ok {r r' : R2} {f f' : D → D → Option D} (ho : OpD X.K X.mg r f) (ho' : OpD X.K X.mg r' f') {σ : St} {H : Hp} {Q : VK} (h : tOf X.K X.mg T relD E (mChain f f' ma mb mc) σ H Q) :
    tChain r r' (tOf X.K X.mg T relB E ma) (tOf X.K X.mg T relB E mb) (tOf X.K X.mg T relB E mc) σ H Q := by
  obtain ⟨pa, ca, O, ρ, π, good, res⟩ := h
  refine ⟨pa, ca, O, ρ, π, good, Res.seq res fun d1 π1 v1 H1 s1 r1 res1 => ⟨pa, ca, O, ρ, π1, good.step s1, Res.seq res1 fun d2 π2 v2 H2 s2 r2 res2 => ?_⟩⟩
  obtain ⟨d, e1, res2⟩ := Res.optB (o := f d1 d2) res2
  obtain ⟨k, e2, res2⟩ := Res.optB (o := asB d) res2
  have g2 := (good.step s1).step s2
  refine ho pa (WW O σ ρ) H2 v1 v2 d1 d2 d _ (fun p hp => g2.fresh hp) (RB.step s2 r1) r2 e1 fun v H3 hs hr => ⟨k, (show RB _ _ _ d v from .inl hr).asB e2, ?_⟩
  have s3 := g2.same hs
  have g3 := g2.step s3
  cases k with
  | true =>
    rw [if_pos rfl] at res2 ⊢
    refine ⟨pa, ca, O, ρ, π2, g3, Res.seq (Res.from res2 s3) fun d3 π3 v3 H4 s4 r4 res4 => ?_⟩
    obtain ⟨d', e3, res4⟩ := Res.opt (o := f' d2 d3) res4
    have g4 := g3.step s4
    exact ho' pa (WW O σ ρ) H4 v2 v3 d2 d3 d' Q (fun p hp => g4.fresh hp) (RB.step s4 (RB.step s3 r2)) r4 e3 fun v H5 hs hr => Res.ok res4 (g4.same hs) hr
  | false =>
    rw [if_neg Bool.false_ne_true] at res2 ⊢
    exact Res.ok res2 s3 (R_bl.mpr rfl)
theorem ge_chain {op op' : CmpOp} {r r' : R2} {f f' : D → D → Option D} {c : Expr} (hr : OpR X (compareOp op) r) (hr' : OpR X (compareOp op') r') (ho : OpD X.K X.mg r f) (ho' : OpD X.K X.mg r' f') (ha : GB T X E a ma) (hb : GB T X E b mb) (hc : GB T X E c mc) (hm : lastMarks [op, op'] [b, c] = false := by rfl) :
    GE T X E (.Compare a [op, op'] [b, c] pos) (mChain f f' ma mb mc) := ⟨pe_imp (pe_chain hr hr' ha.pe hb.pe hc.pe hm) fun σ H Q h => tChain_ok ho ho' h⟩
end
end L2.Dl
end

section
set_option maxRecDepth 100000
set_option maxHeartbeats 2000000
/-! Further expressions: tests, displays, fields, isinstance, slices, calls. -/
namespace L2.Dl
open PySem PySem.Spec PyProof.Rows

section
variable {T : List (Addr × Str)} {X : Cx} {E : XK} {e a b c : Expr} {es rest : List Expr} {m ma mb mc : M D} {mt mu : M Bool} {ml : M (List D)} {pos p : Pos}
/-! ### chains of and, or as tests -/
structure GW (T : List (Addr × Str)) (X : Cx) (E : XK) (e : Expr) (m : M Bool) : Prop where
  pw : PW X e (tOf X.K X.mg T (fun _ _ => relT) E m)
theorem pw_imp {X : Cx} {e : Expr} {t t' : TT} (h : PW X e t) (i : ∀ σ H Q, t' σ H Q → t σ H Q) : PW X e t' := ⟨fun wh pins s σ H Q I q => h.run wh pins s σ H Q I (i σ H Q q)⟩
theorem GW.gt (h : GW T X E e mt) : GT T X E e mt := ⟨h.pw.pt⟩
def tAndM (m u : M Bool) : M Bool := mBind m fun k => if k = true then u else mOk false
def tOrM (m u : M Bool) : M Bool := mBind m fun k => if k = true then mOk true else u
theorem gw_and1 (h : GT T X E a mt) : GW T X E (.BoolOp .And [a] pos) mt := ⟨pw_and1 h.pt⟩
theorem gw_or1 (h : GT T X E a mt) : GW T X E (.BoolOp .Or [a] pos) mt := ⟨pw_or1 h.pt⟩
theorem gw_and (ha : GT T X E a mt) (hb : GW T X E (.BoolOp .And (b :: rest) pos) mu) : GW T X E (.BoolOp .And (a :: b :: rest) pos) (tAndM mt mu) :=
  ⟨pw_imp (pw_and ha.pt hb.pw) fun σ H Q ⟨pa, ca, O, ρ, π, good, res⟩ => ⟨pa, ca, O, ρ, π, good, Res.seq res fun k π1 k' H1 s1 r1 res1 => by
    have r1 : k = k' := r1
    subst r1
    cases k with
    | true => rw [if_pos rfl]; exact ⟨pa, ca, O, ρ, π1, good.step s1, res1⟩
    | false => rw [if_neg Bool.false_ne_true]; exact Res.ok res1 (good.step s1).step0 rfl⟩⟩
theorem gw_or (ha : GT T X E a mt) (hb : GW T X E (.BoolOp .Or (b :: rest) pos) mu) : GW T X E (.BoolOp .Or (a :: b :: rest) pos) (tOrM mt mu) :=
  ⟨pw_imp (pw_or ha.pt hb.pw) fun σ H Q ⟨pa, ca, O, ρ, π, good, res⟩ => ⟨pa, ca, O, ρ, π, good, Res.seq res fun k π1 k' H1 s1 r1 res1 => by
    have r1 : k = k' := r1
    subst r1
    cases k with
    | true => rw [if_pos rfl]; exact Res.ok res1 (good.step s1).step0 rfl
    | false => rw [if_neg Bool.false_ne_true]; exact ⟨pa, ca, O, ρ, π1, good.step s1, res1⟩⟩⟩
def tNotM (m : M Bool) : M Bool := mBind m fun k => mOk (!k)
theorem gt_not (ha : GT T X E a mt) : GT T X E (.UnaryOp .Not a pos) (tNotM mt) :=
  ⟨pt_imp (pt_not ha.pt) fun σ H Q ⟨pa, ca, O, ρ, π, good, res⟩ => ⟨pa, ca, O, ρ, π, good, Res.seq res fun k π1 k' H1 s1 r1 res1 => by
    have r1 : k = k' := r1
    subst r1
    exact Res.ok res1 (good.step s1).step0 rfl⟩⟩
theorem gt_chain {op op' : CmpOp} {r r' : R2} {f f' : D → D → Option D} (hr : OpR X (compareOp op) r) (hr' : OpR X (compareOp op') r') (ho : OpD X.K X.mg r f) (ho' : OpD X.K X.mg r' f') (ha : GB T X E a ma) (hb : GB T X E b mb) (hc : GB T X E c mc) (hm : lastMarks [op, op'] [b, c] = false := by rfl) :
    GT T X E (.Compare a [op, op'] [b, c] pos) (mTest (mChain f f' ma mb mc)) :=
  ⟨pt_imp (pt_chain hr hr' ha.pe hb.pe hc.pe hm) fun σ H Q ⟨pa, ca, O, ρ, π, good, res⟩ => tChain_ok (T := T) (E := E) ho ho' ⟨pa, ca, O, ρ, π, good, Res.seq res fun d1 π1 v1 H1 s1 r1 res1 => by
    obtain ⟨k, e, res1⟩ := Res.opt (o := asB d1) res1
    exact ⟨k, (show RB _ _ _ d1 v1 from .inl r1).asB e, Res.ok res1 (good.step s1).step0 rfl⟩⟩⟩
theorem Res.okD {g : G} {ca : Addr} {W : Addr → Prop} {H H1 : Hp} {d : D} {v : V} {π : Pen} {Q : VK} (h : Res (relD g W) T g ca W H (.ok d π) Q E) (s : Step T g ca W H H1 π) (r : R g (hide W H1) d v) : Q v H1 := h v H1 s r
/-! ### a if t else b -/
def mIf {α : Type} (t : M Bool) (x y : M α) : M α := mBind t fun k => if k = true then x else y
theorem ge_if (ht : GT T X E c mt) (ha : GE T X E a ma) (hb : GE T X E b mb) : GE T X E (.IfExp c a b pos) (mIf mt ma mb) :=
  ⟨pe_imp (pe_ifExp ht.pt ha.pe hb.pe) fun σ H Q ⟨pa, ca, O, ρ, π, good, res⟩ => ⟨pa, ca, O, ρ, π, good, Res.seq res fun k π1 k' H1 s1 r1 res1 => by
    have r1 : k = k' := r1
    subst r1
    cases k with
    | true => rw [if_pos rfl]; exact ⟨pa, ca, O, ρ, π1, good.step s1, res1⟩
    | false => rw [if_neg Bool.false_ne_true]; exact ⟨pa, ca, O, ρ, π1, good.step s1, res1⟩⟩⟩
/-! ### displays -/
def mTup (ml : M (List D)) : M D := mBind ml fun l => mOpt (if l.length ≤ 1000 then some (.tup l) else none)
def mLst (ml : M (List D)) : M D := mBind ml fun l => mOpt (if l.length ≤ 1000 then some (.lst l) else none)
theorem ge_tup {k : Nat} (h : GA T X E es ml) : GE T X E (.Tuple es k pos) (mTup ml) :=
  ⟨pe_imp (pe_tup h.pa) fun σ H Q ⟨pa, ca, O, ρ, π, good, res⟩ => ⟨pa, ca, O, ρ, π, good, Res.seq res fun l π1 vs H1 s1 r1 res1 => by
    obtain ⟨d, e, res1⟩ := Res.opt res1
    split at e
    · rename_i hl
      cases e
      have g1 := good.step s1
      refine ⟨by rw [RL.length r1]; exact Nat.le_trans hl (by decide), fun p hp => Res.ok res1 (g1.same (same_upd hp)) (R_newT hp (g1.fresh hp) r1)⟩
    · cases e⟩⟩
theorem ge_lst (h : GA T X E es ml) : GE T X E (.List es pos) (mLst ml) :=
  ⟨pe_imp (pe_lst h.pa) fun σ H Q ⟨pa, ca, O, ρ, π, good, res⟩ => ⟨pa, ca, O, ρ, π, good, Res.seq res fun l π1 vs H1 s1 r1 res1 => by
    obtain ⟨d, e, res1⟩ := Res.opt res1
    split at e
    · rename_i hl
      cases e
      have g1 := good.step s1
      refine ⟨by rw [RL.length r1]; exact Nat.le_trans hl (by decide), fun p hp => Res.ok res1 (g1.same (same_upd hp)) (R_newL hp (g1.fresh hp) r1)⟩
    · cases e⟩⟩
/-! ### fields -/
def fldD (cs : List Str) (f : Str) : D → Option D
  | .obj c ns fs => if c ∈ cs then (ns.zip fs).lookup f else none
  | _ => none
theorem lookup_rel {g : G} {H : Hp} {f : Str} : ∀ {ns : List Str} {fs : List D} {fvs : List (Str × V)} {d : D}, fvs.map (·.1) = ns → RL g H fs (fvs.map (·.2)) → (ns.zip fs).lookup f = some d → ∃ v, fvs.lookup f = some v ∧ R g H d v
  | [], fs, fvs, d, e, r, h => by simp at h
  | n :: ns, fs, fvs, d, e, r, h => by
    cases fvs with
    | nil => cases e
    | cons q fvs =>
      obtain ⟨q1, q2⟩ := q
      rw [List.map_cons] at e r
      injection e with e1 e2
      cases fs with
      | nil => rw [RL_nil] at r; cases r
      | cons d' fs =>
        obtain ⟨a, b⟩ := r.inv
        rw [List.zip_cons_cons, List.lookup_cons] at h
        rw [List.lookup_cons]
        have e1 : q1 = n := e1
        subst e1
        cases hb : f == q1 with
        | true =>
          rw [hb] at h
          cases h
          exact ⟨q2, rfl, a⟩
        | false =>
          rw [hb] at h
          exact lookup_rel e2 b h
theorem ge_fld {f : Str} (cs : List Str) (hc : ∀ c ∈ cs, ∀ C, X.mg c = some (.ref C) → Cls X.K C ∧ NoAttr X.K C f) (h : GB T X E e m) (hb : attributeBase e f X.env (eval e X.env) = eval e X.env := by rfl) : GE T X E (.Attribute e f pos) (m1 (fldD cs f) m) :=
  ⟨pe_imp (pe_fld h.pe hb) fun σ H Q ⟨pa, ca, O, ρ, π, good, res⟩ => ⟨pa, ca, O, ρ, π, good, Res.seq res fun d1 π1 v1 H1 s1 r1 res1 => by
    obtain ⟨d, e, res2⟩ := Res.opt (o := fldD cs f d1) res1
    cases d1 with
    | obj c ns fs =>
      simp only [fldD] at e
      split at e
      · rename_i hm
        obtain ⟨a, C, dx, fvs, rfl, hg, ha, hn, hr⟩ := r1.obj
        obtain ⟨k1, k2⟩ := hc c hm C hg
        obtain ⟨v, e1, e2⟩ := lookup_rel hn hr e
        exact ⟨a, C, dx, fvs, v, rfl, ha, k1, k2, e1, Res.okD res2 (good.step s1).step0 e2⟩
      · cases e
    | _ => cases e⟩⟩
/-! ### isinstance -/
/-- is the data of the built-in class? -/
def isTy (t : String) : D → Bool
  | .bl _ => t == "bool" || t == "int"
  | .int _ => t == "int"
  | .str _ => t == "str"
  | .tup _ => t == "tuple"
  | .lst _ => t == "list"
  | .dic _ _ => t == "dict"
  | _ => false
/-- what is asked of an own class that isinstance meets -/
structure ClsI (K : PySem.W.Frag) (C : Addr) : Prop where
  cl : Cls K C
  ha : PySem.W.findIn K (.ref C) "__class__" = some (some (.builtin "object.__class__"))
  hn : PySem.W.specialIn K (.builtin "object.__class__") "__get__" = some (some (.builtin "getset_descriptor.__get__"))
  htk : PySem.W.takesIn K (.builtin "object.__class__") = some true
  hm : PySem.W.mroIn K C (.type "object") = some true
def tyName : D → Option String
  | .non => some "NoneType"
  | .bl _ => some "bool"
  | .int _ => some "int"
  | .str _ => some "str"
  | .tup _ => some "tuple"
  | .lst _ => some "list"
  | .dic _ _ => some "dict"
  | _ => none
theorem tyName_ok {g : G} {W : Addr → Prop} {H : Hp} {d : D} {v : V} {t : String} (h : tyName d = some t) (r : RB g W H d v) : TyOf g.K H v (.type t) := by
  cases d with
  | non => cases h; rw [r.non]; exact .non
  | bl b => cases h; rw [r.bl]; exact .bl b
  | int i => cases h; rw [r.int]; exact .int i
  | str x => cases h; rw [r.str]; exact .str x
  | tup l => cases h; obtain ⟨a, vs, rfl, e, _⟩ := r.tup; exact .tup e
  | lst l => cases h; obtain ⟨a, vs, rfl, e, _⟩ := r.lst; exact .lst e
  | dic ks vs =>
    cases h
    obtain ⟨a, rfl, ⟨kv, e, _⟩ | ⟨kv, e, _⟩⟩ := r.dic
    · exact .dK e
    · exact .dT e
  | _ => cases h
/-- the answers about own classes: of what each class is an instance, what each class's instances are -/
structure IsiT (K : PySem.W.Frag) (mg : Str → Option Value) (cs : List Str) (u : Value) (ans : String → Option Bool) (ansC : Str → Option Bool) : Prop where
  ty : ∀ t b, ans t = some b → PySem.W.kitOne K (.type t) u = some b
  cl : ∀ c ∈ cs, ∀ C b, mg c = some (.ref C) → ansC c = some b → PySem.W.kitOne K (.ref C) u = some b
  ci : ∀ c ∈ cs, ∀ C, mg c = some (.ref C) → ClsI K C
def isiD (cs : List Str) (ans : String → Option Bool) (ansC : Str → Option Bool) (d : D) : Option D :=
  match d with
  | .obj c _ _ => if c ∈ cs then (ansC c).map .bl else none
  | d => (tyName d).bind fun t => (ans t).map .bl
theorem isi_ex {K : PySem.W.Frag} {mg : Str → Option Value} {cs : List Str} (hcl : ∀ c ∈ cs, ∀ C, mg c = some (.ref C) → ClsI K C) {pa : Addr × Addr} {W : Addr → Prop} {H : Hp} {d : D} {v : V} (rb : RB ⟨K, mg, pa⟩ W H d v)
    (h : (∃ n, tyName d = some n) ∨ ∃ c ns fs, d = .obj c ns fs ∧ c ∈ cs) : ∃ t, TyX K H v t ∧ ((∃ n, tyName d = some n ∧ t = .type n) ∨ ∃ c ns fs C, d = .obj c ns fs ∧ mg c = some (.ref C) ∧ t = .ref C) := by
  rcases h with ⟨n, h⟩ | ⟨c, ns, fs, rfl, hm⟩
  · exact ⟨_, .base (tyName_ok h rb), .inl ⟨n, h, rfl⟩⟩
  · obtain ⟨a, C, dx, fvs, rfl, hg, ha, hn, hr⟩ := rb.obj
    have k1 := hcl c hm C hg
    exact ⟨_, .base (.ins ha k1.cl k1.ha k1.hn k1.htk k1.hm), .inr ⟨c, ns, fs, C, rfl, hg, rfl⟩⟩
theorem isi_kit {K : PySem.W.Frag} {mg : Str → Option Value} {cs : List Str} {u t : Value} {ans : String → Option Bool} {ansC : Str → Option Bool} (F : IsiT K mg cs u ans ansC) {d r : D} (h : isiD cs ans ansC d = some r)
    (ht : (∃ n, tyName d = some n ∧ t = .type n) ∨ ∃ c ns fs C, d = .obj c ns fs ∧ mg c = some (.ref C) ∧ t = .ref C) : ∃ b, PySem.W.kitOne K t u = some b ∧ r = .bl b := by
  rcases ht with ⟨n, h1, rfl⟩ | ⟨c, ns, fs, C, rfl, hg, rfl⟩
  · have e : isiD cs ans ansC d = (ans n).map .bl := by
      cases d <;> first | (cases h1; done) | (simp only [isiD, h1, Option.bind_some])
    rw [e] at h
    cases z : ans n with
    | none => rw [z] at h; cases h
    | some b =>
      rw [z] at h
      cases h
      exact ⟨b, F.ty n b z, rfl⟩
  · simp only [isiD] at h
    split at h
    · rename_i hm
      cases z : ansC c with
      | none => rw [z] at h; cases h
      | some b =>
        rw [z] at h
        cases h
        exact ⟨b, F.cl c hm C b hg z, rfl⟩
    · cases h
theorem isi_named {cs : List Str} {ans : String → Option Bool} {ansC : Str → Option Bool} {d r : D} (h : isiD cs ans ansC d = some r) : (∃ n, tyName d = some n) ∨ ∃ c ns fs, d = .obj c ns fs ∧ c ∈ cs := by
  cases d with
  | obj c ns fs =>
    simp only [isiD] at h
    split at h
    · rename_i hm
      exact .inr ⟨c, ns, fs, rfl, hm⟩
    · cases h
  | pen => cases h
  | _ => exact .inl ⟨_, rfl⟩
/-- isinstance(e, t), t a built-in class or an own one -/
theorem ge_isi {u : Value} {v : V} {t : Expr} {cs : List Str} {ans : String → Option Bool} {ansC : Str → Option Bool} (F : IsiT X.K X.mg cs u ans ansC) (hv : ClsV v u) (ht : PE X t (tC v)) (hm : X.mg "isinstance" = none) (h : GB T X E e m) (hg : Gl X "isinstance" := by rfl)
    (hs1 : starEach [e, t] X.env = (false, eval e X.env) :: starEach [t] X.env := by rfl) (hs2 : starEach [t] X.env = (false, eval t X.env) :: starEach [] X.env := by rfl) (hpl : (backTo pos (starEach [t] X.env)).any (·.1) = false := by rfl) :
    GE T X E (.Call (.Name "isinstance" p) [e, t] [] pos) (m1 (isiD cs ans ansC) m) :=
  ⟨pe_imp (pe_callB call_isi hg hm (by decide +kernel) (pa_cons h.pe (pa_cons ht pa_nil hs2) hs1) (by decide) (by decide) hs1 hpl) fun σ H Q ⟨pa, ca, O, ρ, π, good, res⟩ => ⟨pa, ca, O, ρ, π, good, Res.seq res fun d1 π1 v1 H1 s1 r1 res1 => by
    obtain ⟨d, e, res1⟩ := Res.opt (o := isiD cs ans ansC d1) res1
    obtain ⟨ty, h1, h3⟩ := isi_ex F.ci r1 (isi_named e)
    obtain ⟨b, h2, rfl⟩ := isi_kit F e h3
    exact ⟨v1, v, ty, u, b, rfl, hv, h1, h2, Res.okD res1 (good.step s1).step0 (R_bl.mpr rfl)⟩⟩⟩
/-- isinstance(e, (t1, t2)) -/
def orD (f f' : D → Option D) (d : D) : Option D := match f d with
  | some (.bl true) => (match f' d with | some (.bl _) => some (.bl true) | _ => none)
  | some (.bl false) => f' d
  | _ => none
theorem ge_isi2 {u u' : Value} {v v' : V} {t t' : Expr} {k : Nat} {tpos : Pos} {cs : List Str} {ans ans' : String → Option Bool} {ansC ansC' : Str → Option Bool} (F : IsiT X.K X.mg cs u ans ansC) (F' : IsiT X.K X.mg cs u' ans' ansC') (hv : ClsV v u) (hv' : ClsV v' u') (ht : PE X t (tC v)) (ht' : PE X t' (tC v')) (hm : X.mg "isinstance" = none)
    (h : GB T X E e m) (hg : Gl X "isinstance" := by rfl) (hs1 : starEach [e, .Tuple [t, t'] k tpos] X.env = (false, eval e X.env) :: starEach [.Tuple [t, t'] k tpos] X.env := by rfl) (hs2 : starEach [.Tuple [t, t'] k tpos] X.env = (false, eval (.Tuple [t, t'] k tpos) X.env) :: starEach [] X.env := by rfl)
    (hs3 : starEach [t, t'] X.env = (false, eval t X.env) :: starEach [t'] X.env := by rfl) (hs4 : starEach [t'] X.env = (false, eval t' X.env) :: starEach [] X.env := by rfl) (hpl : (backTo pos (starEach [.Tuple [t, t'] k tpos] X.env)).any (·.1) = false := by rfl) :
    GE T X E (.Call (.Name "isinstance" p) [e, .Tuple [t, t'] k tpos] [] pos) (m1 (orD (isiD cs ans ansC) (isiD cs ans' ansC')) m) :=
  ⟨pe_imp (pe_callB call_isiT hg hm (by decide +kernel) (pa_cons h.pe (pa_cons (pe_tup (pa_cons ht (pa_cons ht' pa_nil hs4) hs3)) pa_nil hs2) hs1) (by decide) (by decide) hs1 hpl) fun σ H Q ⟨pa, ca, O, ρ, π, good, res⟩ => ⟨pa, ca, O, ρ, π, good, Res.seq res fun d1 π1 v1 H1 s1 r1 res1 => by
    obtain ⟨d, e, res1⟩ := Res.opt (o := orD (isiD cs ans ansC) (isiD cs ans' ansC') d1) res1
    refine ⟨by show 2 ≤ sizeLine; decide, fun q hq => ?_⟩
    have g1 := good.step s1
    have s2 := g1.same (same_upd (o := .tup [v, v']) hq)
    have r2 : RB ⟨X.K, X.mg, pa⟩ (WW O σ ρ) (upd H1 q (.tup [v, v'])) d1 v1 := RB.step s2 r1
    cases er : isiD cs ans ansC d1 with
    | none => unfold orD at e; rw [er] at e; cases e
    | some r =>
      obtain ⟨ty, h1, h3⟩ := isi_ex F.ci r2 (isi_named er)
      obtain ⟨b, h2, rfl⟩ := isi_kit F er h3
      cases er' : isiD cs ans' ansC' d1 with
      | none => unfold orD at e; rw [er, er'] at e; cases b <;> cases e
      | some r' =>
        obtain ⟨b', h2', rfl⟩ := isi_kit F' er' h3
        have ed : d = .bl (b || b') := by
          unfold orD at e
          rw [er, er'] at e
          cases b <;> cases e <;> rfl
        subst ed
        refine ⟨v1, q, [v, v'], ty, [u, u'], b || b', rfl, upd_same, .cons hv (.cons hv' .nil), h1, ?_, Res.okD res1 s2 (R_bl.mpr rfl)⟩
        refine kitAny_cons h2 (fun hb => ?_) fun hb => by rw [hb]; rfl
        rw [hb, Bool.false_or]
        refine kitAny_cons h2' (fun hb' => ?_) fun hb' => hb'
        rw [hb']
        exact kitAny_nil⟩⟩
end
end L2.Dl
end

section
set_option maxRecDepth 100000
set_option maxHeartbeats 2000000
/-! Calls of defs; new lists; statements. -/
namespace L2.Dl
open PySem PySem.Spec PyProof.Rows

/-! ### a def over data -/
abbrev Fn := List D → Pen → Out D
def callF (n : Nat) (F : Fn) : Fn := fun ds π => if ds.length = n then F ds π else .bad
/-- a def's promise: it gives what F gives -/
def spD (K : PySem.W.Frag) (mg : Str → Option Value) (T : List (Addr × Str)) (n : Nat) (F : Fn) : Sp := fun vs H Q E => ∃ (pa : Addr × Addr) (ca : Addr) (O : Addr → Prop) (ds : List D) (π : Pen),
  Good T ⟨K, mg, pa⟩ ca O [] H [] π ∧ RL ⟨K, mg, pa⟩ (hide O H) ds vs ∧ Res (relD ⟨K, mg, pa⟩ O) T ⟨K, mg, pa⟩ ca O H (callF n F ds π) Q E
theorem spD_len {K : PySem.W.Frag} {mg : Str → Option Value} {T : List (Addr × Str)} {n : Nat} {F : Fn} {vs : List V} {H : Hp} {Q : VK} {E : XK} (h : spD K mg T n F vs H Q E) : vs.length = n := by
  obtain ⟨pa, ca, O, ds, π, good, r, res⟩ := h
  unfold callF at res
  split at res
  · rename_i e
    rw [RL.length r, e]
  · exact res.elim
theorem Good.callee {T : List (Addr × Str)} {g : G} {ca : Addr} {O : Addr → Prop} {σ : St} {H : Hp} {ρ : Rho} {π : Pen} (h : Good T g ca O σ H ρ π) : Good T g ca (WW O σ ρ) [] H [] π where
  pen := h.pen
  po := .inl h.po
  co := .inl h.co
  tab := h.tab
  al := fun b w => h.wlive w
  len := rfl
  sl := fun i => by simp only [List.getElem?_nil]; trivial
  inj := fun i j b e => by simp at e
  dj := fun b ⟨i, e, _⟩ => by simp at e
theorem WW_nil {O : Addr → Prop} : WW O [] [] = O := by
  funext b
  refine propext ⟨fun h => ?_, .inl⟩
  rcases h with h | ⟨i, e, _⟩
  · exact h
  · simp at e
def mCall (n : Nat) (F : Fn) (dD : List D) (ml : M (List D)) : M D := mBind ml fun l => fun _ π => callF n F (l ++ dD) π
section
variable {T : List (Addr × Str)} {X : Cx} {E : XK} {e a b c : Expr} {es rest : List Expr} {m ma mb mc : M D} {mt mu : M Bool} {ml : M (List D)} {pos p : Pos}
theorem ge_call {CX : CXT} {k n : Nat} {f : Addr} {fd : FuncData} {ps : List Str} {F : Fn} {x : Str} {dD : List D} {dvs : List V} {ds : List Value} (G : FnOk X.prog X.w X.K X.mg X.base CX k f fd ps (spD X.K X.mg T n F)) (hr : Room k X.A) (hm : X.mg x = some (.ref f)) (hk : PySem.W.keepIn X.K (.ref f) = true)
    (hb : Binds X.K fd ps ds) (hd : Vals dvs ds) (hdd : ∀ g H, RL g H dD dvs) (hx : Passes CX X E) (ha : GA T X E (e :: es) ml) (hg : Gl X x := by rfl)
    (hdb : (x == ("__debug__" : Str)) = false := by decide) (he : starEach (e :: es) X.env = (false, eval e X.env) :: starEach es X.env := by rfl) (hpl : (backTo pos (starEach es X.env)).any (·.1) = false := by rfl) :
    GE T X E (.Call (.Name x p) (e :: es) [] pos) (mCall n F dD ml) :=
  ⟨pe_imp (pe_call G hr hg hm hk hb hd hx ha.pa hdb he hpl) fun σ H Q ⟨pa, ca, O, ρ, π, good, res⟩ => ⟨pa, ca, O, ρ, π, good, Res.seq res fun l π1 vs H1 s1 r1 res1 =>
    ⟨pa, ca, WW O σ ρ, l ++ dD, π1, (good.step s1).callee, RL.append r1 (hdd _ _), res1⟩⟩⟩
theorem ge_call0 {CX : CXT} {k n : Nat} {f : Addr} {fd : FuncData} {ps : List Str} {F : Fn} {x : Str} {dD : List D} {dvs : List V} {ds : List Value} (G : FnOk X.prog X.w X.K X.mg X.base CX k f fd ps (spD X.K X.mg T n F)) (hr : Room k X.A) (hm : X.mg x = some (.ref f)) (hk : PySem.W.keepIn X.K (.ref f) = true)
    (hb : Binds X.K fd ps ds) (hd : Vals dvs ds) (hdd : ∀ g H, RL g H dD dvs) (hx : Passes CX X E) (hg : Gl X x := by rfl) (hdb : (x == ("__debug__" : Str)) = false := by decide) :
    GE T X E (.Call (.Name x p) [] [] pos) (mCall n F dD mNil) :=
  ⟨pe_imp (pe_call0 G hr hg hm hk hb hd hx hdb) fun σ H Q ⟨pa, ca, O, ρ, π, good, res⟩ => ⟨pa, ca, WW O σ ρ, [] ++ dD, π, good.callee, RL.append RL.nil (hdd _ _), res⟩⟩
/-- o.m(..), o of an own class -/
theorem ge_meth {CX : CXT} {k n : Nat} {f : Addr} {fd : FuncData} {ps : List Str} {F : Fn} {cn x : Str} {C : Addr} {dD : List D} {dvs : List V} {ds : List Value} {apos : Pos} {pl : Sem Bool} (G : FnOk X.prog X.w X.K X.mg X.base CX k f fd ps (spD X.K X.mg T n F)) (hr : Room k X.A) (hC : X.mg cn = some (.ref C)) (cl : Cls X.K C) (hm : Meth X.K C x f)
    (hb : Binds X.K fd ps ds) (hd : Vals dvs ds) (hdd : ∀ g H, RL g H dD dvs) (hx : Passes CX X E) (h : GE T X E a m) (ha : GA T X E (e :: es) ml)
    (hst : starEach (e :: es) X.env = (false, eval e X.env) :: starEach es X.env := by rfl) (hpl : (backTo pos (starEach es X.env)).any (·.1) = false := by rfl)
    (ht : eval (.Call (.Attribute a x apos) (e :: es) [] pos) X.env = (do
      let ov ← eval a X.env
      standAt apos.atName
      let (f, first) ← holding [ov] (getMethod ov x pl)
      callWith pos f first (backTo pos (starEach (e :: es) X.env)) (backToKw pos (keywordEach [] X.env))) := by rfl) :
    GE T X E (.Call (.Attribute a x apos) (e :: es) [] pos) (mBind m fun d => mBind (mOpt (match d with | .obj c ns _ => if c = cn ∧ x ∉ ns then some () else none | _ => none)) fun _ => mCall n F dD (mCons (mOk d) ml)) :=
  ⟨pe_imp (pe_meth h.pe cl hm G hr hb hd hx ha.pa hst hpl ht) fun σ H Q ⟨pa, ca, O, ρ, π, good, res⟩ => ⟨pa, ca, O, ρ, π, good, Res.seq res fun d π1 v H1 s1 r1 res1 => by
    obtain ⟨u, e1, res2⟩ := Res.optB res1
    cases d with
    | obj c ns fs =>
      simp only at e1
      split at e1
      · rename_i hc
        obtain ⟨rfl, hx'⟩ := hc
        obtain ⟨q, C', dx, fvs, rfl, hg, ha', hn, hr'⟩ := (show RB _ _ _ _ _ from .inl r1).obj
        have hg : X.mg c = some (.ref C') := hg
        rw [hC] at hg
        cases hg
        refine ⟨q, dx, fvs, rfl, ha', ?_, pa, ca, O, ρ, π1, good.step s1, ?_⟩
        · cases z : fvs.lookup x with
          | none => rfl
          | some w =>
            refine absurd ?_ hx'
            rw [← hn]
            have : ∀ l : List (Str × V), l.lookup x = some w → x ∈ l.map (·.1) := by
              intro l
              induction l with
              | nil => intro h; cases h
              | cons q l ih =>
                intro h
                rw [List.lookup_cons] at h
                cases hb : x == q.1 with
                | true => rw [eq_of_beq hb]; exact List.mem_cons_self
                | false => rw [hb] at h; exact List.mem_cons_of_mem _ (ih h)
            exact this fvs z
        · have e0 : mCall n F dD (mCons (mOk (.obj c ns fs)) ml) ρ π1 = (ml ρ π1).bind fun l π2 => callF n F (.obj c ns fs :: l ++ dD) π2 := by
            show (((ml ρ π1).bind _) ).bind _ = _
            cases ml ρ π1 <;> rfl
          rw [e0] at res2
          exact Res.seq res2 fun l π2 vs H2 s2 r2 res3 => ⟨pa, ca, WW O σ ρ, .obj c ns fs :: l ++ dD, π2, ((good.step s1).step s2).callee, RL.append (RL.cons (R.ext s2.hid _ r1) r2) (hdd _ _), res3⟩
      · cases e1
    | _ => cases e1⟩⟩

/-! ### slices -/
/-- a slice's part -/
structure GO (T : List (Addr × Str)) (X : Cx) (E : XK) (e : Option Expr) (m : M (Option Int)) : Prop where
  po : PO X e (tOf X.K X.mg T (fun _ _ => fun _ a b => a = b) E m)
theorem po_imp {X : Cx} {e : Option Expr} {t t' : TO} (h : PO X e t) (i : ∀ σ H Q, t' σ H Q → t σ H Q) : PO X e t' := ⟨fun pins s σ H Q I q => h.run pins s σ H Q I (i σ H Q q)⟩
def asI : D → Option Int
  | .int i => some i
  | _ => none
theorem go_none : GO T X E none (mOk none) := ⟨po_imp po_none fun σ H Q ⟨pa, ca, O, ρ, π, good, res⟩ => Res.ok res good.step0 rfl⟩
theorem go_some (h : GE T X E e m) : GO T X E (some e) (mBind m fun d => mOpt ((asI d).map some)) :=
  ⟨po_imp (po_some h.pe) fun σ H Q ⟨pa, ca, O, ρ, π, good, res⟩ => ⟨pa, ca, O, ρ, π, good, Res.seq res fun d π1 v H1 s1 r1 res1 => by
    obtain ⟨o, e, res2⟩ := Res.opt res1
    cases d with
    | int i =>
      cases e
      exact ⟨i, R_int.mp r1, Res.ok res2 (good.step s1).step0 rfl⟩
    | _ => cases e⟩⟩
def cutD (l : List D) (lo hi : Option Int) : List D := (l.drop (HT.sIx l.length 0 lo)).take (HT.sIx l.length l.length hi - HT.sIx l.length 0 lo)
theorem cut_rel {g : G} {H : Hp} {l : List D} {vs : List V} (lo hi : Option Int) (r : RL g H l vs) : RL g H (cutD l lo hi) (cutV vs lo hi) := by
  unfold cutD cutV
  rw [RL.length r]
  exact RL.take _ (RL.drop _ r)
def sliceD (lo hi : Option Int) : D → Option D
  | .lst l => some (.lst (cutD l lo hi))
  | .tup l => some (.tup (cutD l lo hi))
  | .str z => if z.length ≤ sizeLine then some (.str (cutS z lo hi)) else none
  | _ => none
def rSlD (K : PySem.W.Frag) : V → Option Int → Option Int → Hp → VK → Prop := fun x lo hi H Q => rSlL K x lo hi H Q ∨ rSlA K x lo hi H Q ∨ (∃ z, x = .str z ∧ z.length ≤ sizeLine ∧ Q (.str (cutS z lo hi)) H)
theorem sl_D : SlR X (rSlD X.K) := sl_list.or (sl_tupA.or sl_str)
theorem cut_all {l : List D} {lo hi : Option Int} (h : HT.sIx l.length 0 lo = 0 ∧ HT.sIx l.length l.length hi = l.length) : cutD l lo hi = l := by
  unfold cutD
  rw [h.1, h.2, List.drop_zero, Nat.sub_zero, List.take_length]
def mSlice (m : M D) (ml mh : M (Option Int)) : M D := mBind m fun d => mBind ml fun lo => mBind mh fun hi => mOpt (sliceD lo hi d)
theorem ge_slice {lo hi : Option Expr} {m1 m2 : M (Option Int)} {p2 : Pos} (h : GB T X E e m) (hl : GO T X E lo m1) (hh : GO T X E hi m2) : GE T X E (.Subscript e (.Slice lo hi none p2) pos) (mSlice m m1 m2) :=
  ⟨pe_imp (pe_slice sl_D h.pe hl.po hh.po) fun σ H Q ⟨pa, ca, O, ρ, π, good, res⟩ => ⟨pa, ca, O, ρ, π, good, Res.seq res fun d π1 v H1 s1 r1 res1 =>
    ⟨pa, ca, O, ρ, π1, good.step s1, Res.seq res1 fun lo' π2 lo H2 s2 r2 res2 => ⟨pa, ca, O, ρ, π2, (good.step s1).step s2, Res.seq res2 fun hi' π3 hi H3 s3 r3 res3 => by
      have e2 : lo' = lo := r2
      have e3 : hi' = hi := r3
      subst e2 e3
      obtain ⟨d', e, res4⟩ := Res.opt (o := sliceD lo' hi' d) res3
      have g3 := ((good.step s1).step s2).step s3
      have r4 := RB.step s3 (RB.step s2 r1)
      cases d with
      | lst l =>
        cases e
        obtain ⟨a, vs, rfl, ha, ra⟩ := r4.lst
        exact .inl ⟨a, vs, rfl, SqL.of ha, fun p hp => Res.okD res4 (g3.same (same_upd hp)) (R_newL hp (g3.fresh hp) (cut_rel lo' hi' ra))⟩
      | tup l =>
        cases e
        obtain ⟨a, vs, e5, ha, ra⟩ := r4.tup
        subst e5
        refine .inr (.inl ⟨a, vs, rfl, SqT.of ha, fun hz => ?_, fun _ p hp => Res.okD res4 (g3.same (same_upd hp)) (R_newT hp (g3.fresh hp) (cut_rel lo' hi' ra))⟩)
        rw [RL.length ra] at hz
        rw [cut_all hz] at res4
        refine Res.okD res4 g3.step0 ?_
        exact r4.sh trivial
      | str z =>
        simp only [sliceD] at e
        split at e
        · rename_i hz
          cases e
          exact .inr (.inr ⟨z, r4.str, hz, Res.okD res4 g3.step0 (R_str.mpr rfl)⟩)
        · cases e
      | _ => cases e⟩⟩⟩⟩
end
end L2.Dl
end

section
set_option maxRecDepth 100000
set_option maxHeartbeats 2000000
/-! Statements over data: what stands between two of them. -/
namespace L2.Dl
open PySem PySem.Spec PyProof.Rows

inductive SOut where
  | nx (ρ : Rho) (π : Pen)
  | rt (d : D) (π : Pen)
  | bk (ρ : Rho) (π : Pen)
  | ct (ρ : Rho) (π : Pen)
  | err (c : Str) (ns : List Str) (fs : List D) (π : Pen)
  | bad
abbrev MS := Rho → Pen → SOut
/-- what is kept aside: a fact about what is visible -/
structure Led where
  P : Hp → Prop
  mono : ∀ {H H' : Hp}, Ext H H' → P H → P H'
def Led.and (a b : Led) : Led := ⟨fun H => a.P H ∧ b.P H, fun e h => ⟨a.mono e h.1, b.mono e h.2⟩⟩
def Led.top : Led := ⟨fun _ => True, fun _ h => h⟩
def Led.d (g : G) (d : D) (v : V) : Led := ⟨fun H => R g H d v, fun e h => R.ext e d h⟩
def Led.ds (g : G) (d : List D) (v : List V) : Led := ⟨fun H => RL g H d v, fun e h => RL.ext e d h⟩
/-- nothing stood there, or a table -/
def Wf (H : Hp) (b : Addr) : Prop := ∀ o, H b = some o → ∃ ps, o = .tbl ps
structure GoodS (T : List (Addr × Str)) (g : G) (ca : Addr) (O : Addr → Prop) (H0 : Hp) (Λ : Led) (σ : St) (H : Hp) (ρ : Rho) (π : Pen) : Prop where
  good : Good T g ca O σ H ρ π
  sub : ∀ b o, ¬ O b → H0 b = some o → (∀ ps, o ≠ .tbl ps) → H b = some o
  osm : ∀ b, O b → b ≠ g.pa → H b = H0 b
  fr : ∀ b, ownd σ ρ b → Wf H0 b
  led : Λ.P (hide (WW O σ ρ) H)
def ResS (T : List (Addr × Str)) (g : G) (ca : Addr) (O : Addr → Prop) (H0 : Hp) (Λ : Led) (o : SOut) (D : Ends) (E : XK) : Prop :=
  match o with
  | .nx ρ' π' => ∀ σ' H', GoodS T g ca O H0 Λ σ' H' ρ' π' → D.nx σ' H'
  | .bk ρ' π' => ∀ σ' H', GoodS T g ca O H0 Λ σ' H' ρ' π' → D.bk σ' H'
  | .ct ρ' π' => ∀ σ' H', GoodS T g ca O H0 Λ σ' H' ρ' π' → D.ct σ' H'
  | .rt d π' => ∀ v H', Step T g ca O H0 H' π' → R g (hide O H') d v → D.rt v H'
  | .err c ns fs π' => ∀ C dd H', g.mg c = some (.ref C) → Step T g ca O H0 H' π' → ErrAt g (hide O H') H' ns fs dd → E (.ref C) dd H'
  | .bad => False
def tS (K : PySem.W.Frag) (mg : Str → Option Value) (T : List (Addr × Str)) (E : XK) (m : MS) : TS := fun D σ H => ∃ (pa : Addr × Addr) (ca : Addr) (O : Addr → Prop) (H0 : Hp) (Λ : Led) (ρ : Rho) (π : Pen),
  GoodS T ⟨K, mg, pa⟩ ca O H0 Λ σ H ρ π ∧ ResS T ⟨K, mg, pa⟩ ca O H0 Λ (m ρ π) D E
structure GS (T : List (Addr × Str)) (X : Cx) (E : XK) (st : Stmt) (m : MS) : Prop where
  ps : PS X st (tS X.K X.mg T E m)
structure GSs (T : List (Addr × Str)) (X : Cx) (E : XK) (st : List Stmt) (m : MS) : Prop where
  pss : PSs X st (tS X.K X.mg T E m)
theorem ps_imp {X : Cx} {e : Stmt} {t t' : TS} (h : PS X e t) (i : ∀ D σ H, t' D σ H → t D σ H) : PS X e t' := ⟨fun pins s σ H D I q => h.run pins s σ H D I (i D σ H q)⟩
theorem pss_imp {X : Cx} {e : List Stmt} {t t' : TS} (h : PSs X e t) (i : ∀ D σ H, t' D σ H → t D σ H) : PSs X e t' := ⟨fun pins s σ H D I q => h.run pins s σ H D I (i D σ H q)⟩
theorem ps_pass' {X : Cx} {e : Stmt} {t t' : TS} (h : PS X e t) (i : ∀ D σ H, t' D σ H → t D σ H) : PS X e t' := ps_imp h i

section
variable {T : List (Addr × Str)} {g : G} {ca : Addr} {O : Addr → Prop} {H0 H H1 : Hp} {Λ : Led} {σ σ' : St} {ρ ρ' : Rho} {π π1 : Pen} {E : XK}
theorem GoodS.step (h : GoodS T g ca O H0 Λ σ H ρ π) (s : Step T g ca (WW O σ ρ) H H1 π1) : GoodS T g ca O H0 Λ σ H1 ρ π1 where
  good := h.good.step s
  sub := fun b o hb e n => s.ext b o (fun w => by
    rcases w with w | w
    · exact hb w
    · obtain ⟨ps, e2⟩ := h.fr b w o e
      exact n ps e2) (h.sub b o hb e n) n
  osm := fun b hb n => (s.own b (.inl hb) n).trans (h.osm b hb n)
  fr := h.fr
  led := Λ.mono s.hid h.led
theorem GoodS.reled {Λ' : Led} (h : GoodS T g ca O H0 Λ σ H ρ π) (l : Λ'.P (hide (WW O σ ρ) H)) : GoodS T g ca O H0 Λ' σ H ρ π := ⟨h.good, h.sub, h.osm, h.fr, l⟩
theorem GoodS.out (h : GoodS T g ca O H0 Λ σ H ρ π) : Step T g ca O H0 H π := ⟨h.sub, h.osm, h.good.pen, h.good.tab⟩
theorem hid_WW : Ext (hide (WW O σ ρ) H) (hide O H) := hide_mono fun b h => .inl h
theorem ErrAt.mono {Hs Hs' : Hp} {ns : List Str} {fs : List D} {dd : Option Addr} (e : Ext Hs Hs') (h : ErrAt g Hs H ns fs dd) : ErrAt g Hs' H ns fs dd := by
  cases ns with
  | nil => exact h
  | cons n ns =>
    obtain ⟨a, kv, h1, h2, h3, h4⟩ := h
    exact ⟨a, kv, h1, h2, h3, RL.ext e fs h4⟩
def sBind {α : Type} (m : M α) (k : α → MS) : MS := fun ρ π => match m ρ π with
  | .ok a π' => k a ρ π'
  | .err c ns fs π' => .err c ns fs π'
  | .bad => .bad
/-- an expression ahead of what follows -/
theorem GoodS.ex {α β : Type} {rel : Hp → α → β → Prop} {me : M α} {k : α → MS} {D : Ends} {Q : β → Hp → Prop} (h : GoodS T g ca O H0 Λ σ H ρ π) (r : ResS T g ca O H0 Λ (sBind me k ρ π) D E)
    (f : ∀ a π1 b H1, Step T g ca (WW O σ ρ) H H1 π1 → rel H1 a b → GoodS T g ca O H0 Λ σ H1 ρ π1 → ResS T g ca O H0 Λ (k a ρ π1) D E → Q b H1) : Res rel T g ca (WW O σ ρ) H (me ρ π) Q E := by
  unfold sBind at r
  cases e : me ρ π with
  | ok a π1 => rw [e] at r; exact fun b H1 s q => f a π1 b H1 s q (h.step s) r
  | err c ns fs π1 => rw [e] at r; exact fun C dd H1 m s q => r C dd H1 m (h.step s).out (q.mono hid_WW)
  | bad => rw [e] at r; exact r
/-- what was visible stays so, where only new things are hidden -/
theorem hid_new (h : GoodS T g ca O H0 Λ σ H ρ π) (s : Step T g ca (WW O σ ρ) H H1 π1) {W' : Addr → Prop} (hw : ∀ b, W' b → WW O σ ρ b ∨ Wf H b) : Ext (hide (WW O σ ρ) H) (hide W' H1) := fun b o q n => by
  obtain ⟨h1, h2⟩ := hide_some q
  rw [hide_of]
  · exact s.ext b o h1 h2 n
  · intro w
    rcases hw b w with w | w
    · exact h1 w
    · obtain ⟨ps, e2⟩ := w o h2
      exact n ps e2
/-- the slots are laid anew: each own object is an old one at its place, or a new one -/
theorem GoodS.reslot (h : GoodS T g ca O H0 Λ σ H ρ π) (s : Step T g ca (WW O σ ρ) H H1 π1) (hl : σ'.length = ρ'.length)
    (hn : ∀ (i : Nat) b, σ'[i]? = some (some (.ref b)) → isO ρ'[i]? → (σ[i]? = some (some (.ref b)) ∧ isO ρ[i]?) ∨ (Wf H b ∧ ¬ WW O σ ρ b))
    (hj : ∀ (i j : Nat) b, σ'[i]? = some (some (.ref b)) → isO ρ'[i]? → σ'[j]? = some (some (.ref b)) → isO ρ'[j]? → i = j)
    (hs : ∀ i : Nat, (σ'[i]? = σ[i]? ∧ ρ'[i]? = ρ[i]?) ∨ SlotOk g (hide (WW O σ' ρ') H1) H1 σ'[i]? ρ'[i]?) : GoodS T g ca O H0 Λ σ' H1 ρ' π1 := by
  have hs1 := h.step s
  have ow : ∀ b, ownd σ' ρ' b → ownd σ ρ b ∨ (Wf H b ∧ ¬ WW O σ ρ b) := fun b ⟨i, e1, e2⟩ => (hn i b e1 e2).imp (fun ⟨a, b⟩ => ⟨i, a, b⟩) id
  have wm : ∀ b, WW O σ' ρ' b → WW O σ ρ b ∨ Wf H b := fun b w => by
    rcases w with w | w
    · exact .inl (.inl w)
    · rcases ow b w with w | w
      · exact .inl (.inr w)
      · exact .inr w.1
  have ex := hid_new h s wm
  refine ⟨⟨hs1.good.pen, h.good.po, h.good.co, hs1.good.tab, hs1.good.al, hl, fun i => ?_, hj, fun b w o => ?_⟩, hs1.sub, hs1.osm, fun b w => ?_, Λ.mono ex h.led⟩
  · rcases hs i with ⟨e1, e2⟩ | q
    · rw [e1, e2]
      have q := h.good.sl i
      cases z : ρ[i]? with
      | none => trivial
      | some r =>
        rw [z] at q
        cases r with
        | no => trivial
        | sh d => obtain ⟨v, h1, h2⟩ := q; exact ⟨v, h1, R.ext ex d h2⟩
        | ow k =>
          obtain ⟨a, h1, h2, h3⟩ := q
          have w : ownd σ ρ a := ⟨i, h1, by rw [z]; trivial⟩
          refine ⟨a, h1, ?_, h3⟩
          rw [s.own a (.inr w) (h.good.npa w)]
          exact h2.ext ex
    · exact q
  · rcases ow b w with w | w
    · exact h.good.dj b w o
    · exact w.2 (.inl o)
  · rcases ow b w with w | w
    · exact h.fr b w
    · intro o ho
      by_cases ht : ∃ ps, o = .tbl ps
      · exact ht
      · exact w.1 o (h.sub b o (fun z => w.2 (.inl z)) ho fun ps z => ht ⟨ps, z⟩)
theorem isO_set {i j : Nat} {r : Sl} (n : ¬ isO (some r)) (h : isO (ρ.set i r)[j]?) : j ≠ i := fun e => by
  subst e
  by_cases hl : j < ρ.length
  · rw [List.getElem?_set_self hl] at h; exact n h
  · rw [List.getElem?_eq_none (by simpa using hl)] at h; exact h
/-- a name gets shared data, or is forgotten -/
theorem GoodS.set (h : GoodS T g ca O H0 Λ σ H ρ π) (i : Nat) {s : Option V} {r : Sl} (n : ¬ isO (some r)) (hr : ∀ d, r = .sh d → ∃ v, s = some v ∧ R g (hide (WW O σ ρ) H) d v) : GoodS T g ca O H0 Λ (σ.set i s) H (ρ.set i r) π := by
  have ol : ∀ (j : Nat) b, (σ.set i s)[j]? = some (some (.ref b)) → isO (ρ.set i r)[j]? → σ[j]? = some (some (.ref b)) ∧ isO ρ[j]? := fun j b h1 h2 => by
    have hj := isO_set n h2
    rw [List.getElem?_set_ne (Ne.symm hj)] at h1 h2
    exact ⟨h1, h2⟩
  refine h.reslot h.good.step0 (by rw [List.length_set, List.length_set]; exact h.good.len) (fun j b h1 h2 => .inl (ol j b h1 h2)) (fun j k b h1 h2 h3 h4 => h.good.inj j k b (ol j b h1 h2).1 (ol j b h1 h2).2 (ol k b h3 h4).1 (ol k b h3 h4).2) fun j => ?_
  by_cases hj : i = j
  · subst hj
    by_cases hl : i < ρ.length
    · refine .inr ?_
      rw [List.getElem?_set_self hl, List.getElem?_set_self (by rw [h.good.len]; exact hl)]
      cases r with
      | no => trivial
      | sh d =>
        obtain ⟨v, e, q⟩ := hr d rfl
        exact ⟨v, by rw [e], R.ext (hide_mono fun b w => w.imp id fun ⟨j, e1, e2⟩ => ⟨j, ol j b e1 e2⟩) d q⟩
      | ow k => exact absurd (by trivial) n
    · refine .inr ?_
      rw [List.getElem?_eq_none (l := ρ.set i r) (by simpa using hl)]
      trivial
  · rw [List.getElem?_set_ne hj, List.getElem?_set_ne hj]
    exact .inl ⟨rfl, rfl⟩
/-- a name gets a new own object -/
theorem GoodS.setO (h : GoodS T g ca O H0 Λ σ H ρ π) (s : Step T g ca (WW O σ ρ) H H1 π1) (i : Nat) {p : Addr} {k : Own} (hi : i < ρ.length) (wf : Wf H p) (nw : ¬ WW O σ ρ p) (e : OwnOk g (hide (fun b => WW O σ ρ b ∨ b = p) H1) (H1 p) k) (es : selfOk g p k) :
    GoodS T g ca O H0 Λ (σ.set i (some (.ref p))) H1 (ρ.set i (.ow k)) π1 := by
  have hi' : i < σ.length := by rw [h.good.len]; exact hi
  have ol : ∀ (j : Nat) b, (σ.set i (some (.ref p)))[j]? = some (some (.ref b)) → isO (ρ.set i (.ow k))[j]? → (i ≠ j ∧ σ[j]? = some (some (.ref b)) ∧ isO ρ[j]?) ∨ (i = j ∧ b = p) := fun j b h1 h2 => by
    by_cases hj : i = j
    · subst hj
      rw [List.getElem?_set_self hi'] at h1
      cases h1
      exact .inr ⟨rfl, rfl⟩
    · rw [List.getElem?_set_ne hj] at h1 h2
      exact .inl ⟨hj, h1, h2⟩
  refine h.reslot s (by rw [List.length_set, List.length_set]; exact h.good.len) (fun j b h1 h2 => ?_) (fun j l b h1 h2 h3 h4 => ?_) fun j => ?_
  · rcases ol j b h1 h2 with q | ⟨_, rfl⟩
    · exact .inl q.2
    · exact .inr ⟨wf, nw⟩
  · rcases ol j b h1 h2 with ⟨n1, q1, q2⟩ | ⟨z1, z2⟩ <;> rcases ol l b h3 h4 with ⟨n3, q3, q4⟩ | ⟨z3, z4⟩
    · exact h.good.inj j l b q1 q2 q3 q4
    · exact absurd (.inr ⟨j, z4 ▸ q1, q2⟩) nw
    · exact absurd (.inr ⟨l, z2 ▸ q3, q4⟩) nw
    · exact z1.symm.trans z3
  · by_cases hj : i = j
    · subst hj
      rw [List.getElem?_set_self hi, List.getElem?_set_self hi']
      refine .inr ⟨p, rfl, e.ext (hide_mono fun b w => ?_), es⟩
      rcases w with w | ⟨j, h1, h2⟩
      · exact .inl (.inl w)
      · rcases ol j b h1 h2 with q | ⟨_, rfl⟩
        · exact .inl (.inr ⟨j, q.2⟩)
        · exact .inr rfl
    · rw [List.getElem?_set_ne hj, List.getElem?_set_ne hj]
      exact .inl ⟨rfl, rfl⟩
theorem tabs_upd {o : HO} {a : Addr} (h : LamX.Tabs T H) (l : LD (H a)) : LamX.Tabs T (upd H a o) := fun p hp => by
  obtain ⟨ps, h1, h2, h3⟩ := h p hp
  refine ⟨ps, ?_, h2, fun pos cv hc => ?_⟩
  · rw [upd_ne]
    · exact h1
    · intro e; subst e; rw [h1] at l; exact l
  · obtain ⟨c, e1, e2⟩ := h3 pos cv hc
    refine ⟨c, e1, ?_⟩
    rw [upd_ne]
    · exact e2
    · intro e; subst e; rw [e2] at l; exact l
theorem hide_upd {W : Addr → Prop} {o : HO} {a : Addr} (w : W a) : hide W (upd H a o) = hide W H := by
  funext b
  by_cases e : b = a
  · subst e; rw [hide_in w, hide_in w]
  · by_cases z : W b
    · rw [hide_in z, hide_in z]
    · rw [hide_of z, hide_of z, upd_ne e]
/-- the own object of a name is changed -/
theorem GoodS.mut (h : GoodS T g ca O H0 Λ σ H ρ π) (i : Nat) {a : Addr} {o : HO} {k : Own} (e1 : σ[i]? = some (some (.ref a))) (e2 : isO ρ[i]?) (hk : OwnOk g (hide (WW O σ ρ) H) (some o) k) (es : selfOk g a k) : GoodS T g ca O H0 Λ σ (upd H a o) (ρ.set i (.ow k)) π := by
  have w : ownd σ ρ a := ⟨i, e1, e2⟩
  have hi : i < ρ.length := by
    cases z : ρ[i]? with
    | none => rw [z] at e2; exact e2.elim
    | some r => exact (List.getElem?_eq_some_iff.mp z).1
  have na := h.good.dj a w
  have npa : g.pa ≠ a := fun z => na (z ▸ h.good.po)
  have nca : ca ≠ a := fun z => na (z ▸ h.good.co)
  have ow : ∀ b, ownd σ (ρ.set i (.ow k)) b ↔ ownd σ ρ b := fun b => by
    constructor
    · rintro ⟨j, h1, h2⟩
      by_cases hj : i = j
      · subst hj; exact ⟨i, h1, e2⟩
      · rw [List.getElem?_set_ne hj] at h2; exact ⟨j, h1, h2⟩
    · rintro ⟨j, h1, h2⟩
      by_cases hj : i = j
      · subst hj; exact ⟨i, h1, by rw [List.getElem?_set_self hi]; trivial⟩
      · exact ⟨j, h1, by rw [List.getElem?_set_ne hj]; exact h2⟩
  have ew : WW O σ (ρ.set i (.ow k)) = WW O σ ρ := by
    funext b
    exact propext ⟨fun z => z.imp id (ow b).mp, fun z => z.imp id (ow b).mpr⟩
  have live := h.good.wlive (.inr w)
  refine ⟨⟨⟨by rw [upd_ne npa]; exact h.good.pen.dict, by rw [upd_ne nca]; exact h.good.pen.cells⟩, h.good.po, h.good.co, tabs_upd h.good.tab live, fun b ob => by rw [upd_ne (fun (z : b = a) => na (by rw [← z]; exact ob))]; exact h.good.al b ob, by rw [List.length_set]; exact h.good.len, fun j => ?_, fun j l b h1 h2 h3 h4 => ?_, fun b z => h.good.dj b ((ow b).mp z)⟩,
    fun b o' hb e n => ?_, fun b hb n => by rw [upd_ne (fun (z : b = a) => na (by rw [← z]; exact hb))]; exact h.osm b hb n, fun b z => h.fr b ((ow b).mp z), by rw [ew, hide_upd (.inr w)]; exact h.led⟩
  · rw [ew, hide_upd (.inr w)]
    by_cases hj : i = j
    · subst hj
      rw [List.getElem?_set_self hi, e1]
      exact ⟨a, rfl, by rw [upd_same]; exact hk, es⟩
    · rw [List.getElem?_set_ne hj]
      have q := h.good.sl j
      cases z : ρ[j]? with
      | none => trivial
      | some rj =>
        rw [z] at q
        have ne : ∀ b, σ[j]? = some (some (.ref b)) → isO (some rj) → b ≠ a := fun b h1 h2 z2 => by
          subst z2
          exact hj (h.good.inj i j b e1 e2 h1 (by rw [z]; exact h2))
        cases rj with
        | no => trivial
        | sh d => exact q
        | ow k' =>
          obtain ⟨b, h1, h2, h3⟩ := q
          refine ⟨b, h1, ?_, h3⟩
          rw [upd_ne (ne b h1 trivial)]
          exact h2
  · have toρ : ∀ j : Nat, isO (ρ.set i (.ow k))[j]? → isO ρ[j]? := fun j h2 => by
      by_cases hj : i = j
      · subst hj; exact e2
      · rw [List.getElem?_set_ne hj] at h2; exact h2
    exact h.good.inj j l b h1 (toρ j h2) h3 (toρ l h4)
  · by_cases hz : b = a
    · subst hz
      obtain ⟨ps, e3⟩ := h.fr b w o' e
      exact absurd e3 (n ps)
    · rw [upd_ne hz]
      exact h.sub b o' hb e n
/-- an own object told as data, once it is visible -/
theorem OwnOk.R {Hs : Hp} {k : Own} {a : Addr} (h : OwnOk g Hs (Hs a) k) : R g Hs k.D (.ref a) := by
  cases k with
  | lst l => obtain ⟨vs, h1, h2⟩ := h; exact R_lst.mpr ⟨a, vs, rfl, h1, h2⟩
  | dic ks vs =>
    show Dl.R g Hs (.dic ks vs) _
    unfold Dl.R
    exact ⟨a, rfl, h⟩
  | ins c ns fs => obtain ⟨C, dx, fvs, h1, h2, h3, h4⟩ := h; exact R_obj.mpr ⟨a, C, dx, fvs, rfl, h1, h2, h3, h4⟩
/-- an own object is shared from now on -/
theorem GoodS.freeze (h : GoodS T g ca O H0 Λ σ H ρ π) (i : Nat) {k : Own} (e : ρ[i]? = some (.ow k)) : GoodS T g ca O H0 Λ σ H (ρ.set i (.sh k.D)) π := by
  have hi : i < ρ.length := (List.getElem?_eq_some_iff.mp e).1
  have q := h.good.sl i
  rw [e] at q
  obtain ⟨a, h1, h2, _⟩ := q
  have eO : isO ρ[i]? := by rw [e]; trivial
  have w : ownd σ ρ a := ⟨i, h1, eO⟩
  have ol : ∀ (j : Nat) b, σ[j]? = some (some (.ref b)) → isO (ρ.set i (.sh k.D))[j]? → isO ρ[j]? ∧ i ≠ j := fun j b _ h5 => by
    by_cases hj : i = j
    · subst hj; rw [List.getElem?_set_self hi] at h5; exact h5.elim
    · rw [List.getElem?_set_ne hj] at h5; exact ⟨h5, hj⟩
  have ow : ∀ b, ownd σ (ρ.set i (.sh k.D)) b → ownd σ ρ b ∧ b ≠ a := fun b => by
    rintro ⟨j, h4, h5⟩
    exact ⟨⟨j, h4, (ol j b h4 h5).1⟩, fun z => by subst z; exact (ol j b h4 h5).2 (h.good.inj i j b h1 eO h4 (ol j b h4 h5).1)⟩
  have wm : ∀ b, WW O σ (ρ.set i (.sh k.D)) b → WW O σ ρ b := fun b z => z.imp id fun z => (ow b z).1
  have nw : ¬ WW O σ (ρ.set i (.sh k.D)) a := fun z => by
    rcases z with z | z
    · exact h.good.dj a w z
    · exact (ow a z).2 rfl
  refine h.reslot h.good.step0 (by rw [List.length_set]; exact h.good.len) (fun j b h3 h4 => .inl ⟨h3, (ol j b h3 h4).1⟩) (fun j l b h3 h4 h5 h6 => h.good.inj j l b h3 (ol j b h3 h4).1 h5 (ol l b h5 h6).1) fun j => ?_
  by_cases hj : i = j
  · subst hj
    rw [List.getElem?_set_self hi]
    refine .inr ⟨.ref a, h1, OwnOk.R ?_⟩
    rw [hide_of nw]
    exact h2.ext (hide_mono wm)
  · rw [List.getElem?_set_ne hj]
    exact .inl ⟨rfl, rfl⟩
end

/-! ### new objects -/
def relF (g : G) (W : Addr → Prop) (Hs : Hp) : Hp → Own → V → Prop := fun H k v => ∃ p, v = .ref p ∧ Wf Hs p ∧ ¬ W p ∧ OwnOk g (hide (fun b => W b ∨ b = p) H) (H p) k ∧ selfOk g p k
/-- an expression that gives a new object of its own -/
structure GF (T : List (Addr × Str)) (X : Cx) (E : XK) (e : Expr) (m : M Own) : Prop where
  pe : PE X e (fun σ H Q => ∃ (pa : Addr × Addr) (ca : Addr) (O : Addr → Prop) (ρ : Rho) (π : Pen), Good T ⟨X.K, X.mg, pa⟩ ca O σ H ρ π ∧ Res (relF ⟨X.K, X.mg, pa⟩ (WW O σ ρ) H) T ⟨X.K, X.mg, pa⟩ ca (WW O σ ρ) H (m ρ π) Q E)
def mD (m : M Own) : M D := fun ρ π => match m ρ π with
  | .ok k π => .ok k.D π
  | .err c ns fs π => .err c ns fs π
  | .bad => .bad
section
variable {T : List (Addr × Str)} {X : Cx} {E : XK} {e : Expr} {m : M Own} {pos : Pos}
theorem relF.R {g : G} {W : Addr → Prop} {Hs H : Hp} {k : Own} {v : V} (h : relF g W Hs H k v) : Dl.R g (hide W H) k.D v := by
  obtain ⟨p, rfl, _, w, q, _⟩ := h
  refine OwnOk.R ?_
  rw [hide_of w]
  exact q.ext (hide_mono fun b z => .inl z)
theorem GF.ge (h : GF T X E e m) : GE T X E e (mD m) := ⟨pe_imp h.pe fun σ H Q ⟨pa, ca, O, ρ, π, good, res⟩ => ⟨pa, ca, O, ρ, π, good, by
  unfold mD at res
  cases z : m ρ π with
  | ok k π1 => rw [z] at res; exact fun b H' s r => res b H' s r.R
  | err c ns fs π1 => rw [z] at res; exact res
  | bad => rw [z] at res; exact res⟩⟩
end
end L2.Dl
end

section
set_option maxRecDepth 100000
set_option maxHeartbeats 2000000
/-! Statements over data: one after another, stores, tests, returns. -/
namespace L2.Dl
open PySem PySem.Spec PyProof.Rows

def sNx : MS := fun ρ π => .nx ρ π
def sBk : MS := fun ρ π => .bk ρ π
def sCt : MS := fun ρ π => .ct ρ π
def sSeq (m k : MS) : MS := fun ρ π => match m ρ π with
  | .nx ρ' π' => k ρ' π'
  | .rt d π' => .rt d π'
  | .bk ρ' π' => .bk ρ' π'
  | .ct ρ' π' => .ct ρ' π'
  | .err c ns fs π' => .err c ns fs π'
  | .bad => .bad
/-- own objects at slot i are shared from here on -/
def sFrz (i : Nat) (k : MS) : MS := fun ρ π => match ρ[i]? with
  | some (.ow o) => k (ρ.set i (.sh o.D)) π
  | _ => k ρ π
section
variable {T : List (Addr × Str)} {X : Cx} {E : XK} {st : Stmt} {sts rest : List Stmt} {m k : MS} {pos : Pos} {me : M D} {mo : M Own} {e : Expr}
theorem gss_nil : GSs T X E [] sNx := ⟨pss_imp pss_nil fun D σ H ⟨pa, ca, O, H0, Λ, ρ, π, good, res⟩ => res σ H good⟩
theorem gss_cons (h : GS T X E st m) (t : GSs T X E rest k) : GSs T X E (st :: rest) (sSeq m k) :=
  ⟨pss_imp (pss_cons h.ps t.pss) fun D σ H ⟨pa, ca, O, H0, Λ, ρ, π, good, res⟩ => ⟨pa, ca, O, H0, Λ, ρ, π, good, by
    unfold sSeq at res
    cases e : m ρ π with
    | nx ρ' π' => rw [e] at res; exact fun σ' H' g' => ⟨pa, ca, O, H0, Λ, ρ', π', g', res⟩
    | rt d π' => rw [e] at res; exact res
    | bk ρ' π' => rw [e] at res; exact res
    | ct ρ' π' => rw [e] at res; exact res
    | err c ns fs π' => rw [e] at res; exact res
    | bad => rw [e] at res; exact res⟩⟩
theorem gss_one (h : GS T X E st m) : GSs T X E [st] m := ⟨pss_one h.ps⟩
theorem tS_frz (i : Nat) {D : Ends} {σ : St} {H : Hp} (q : tS X.K X.mg T E (sFrz i m) D σ H) : tS X.K X.mg T E m D σ H := by
  obtain ⟨pa, ca, O, H0, Λ, ρ, π, good, res⟩ := q
  unfold sFrz at res
  cases e : ρ[i]? with
  | none => rw [e] at res; exact ⟨pa, ca, O, H0, Λ, ρ, π, good, res⟩
  | some r =>
    rw [e] at res
    cases r with
    | no => exact ⟨pa, ca, O, H0, Λ, ρ, π, good, res⟩
    | sh d => exact ⟨pa, ca, O, H0, Λ, ρ, π, good, res⟩
    | ow o => exact ⟨pa, ca, O, H0, Λ, _, π, good.freeze i e, res⟩
theorem gss_frz (i : Nat) (h : GSs T X E sts m) : GSs T X E sts (sFrz i m) := ⟨pss_imp h.pss fun D σ H q => tS_frz i q⟩
theorem gs_frz (i : Nat) (h : GS T X E st m) : GS T X E st (sFrz i m) := ⟨ps_imp h.ps fun D σ H q => tS_frz i q⟩
theorem gs_pass : GS T X E (.Pass pos) sNx := ⟨ps_imp ps_pass fun D σ H ⟨pa, ca, O, H0, Λ, ρ, π, good, res⟩ => res σ H good⟩
theorem gs_break : GS T X E (.Break pos) sBk := ⟨ps_imp ps_break fun D σ H ⟨pa, ca, O, H0, Λ, ρ, π, good, res⟩ => res σ H good⟩
theorem gs_continue : GS T X E (.Continue pos) sCt := ⟨ps_imp ps_continue fun D σ H ⟨pa, ca, O, H0, Λ, ρ, π, good, res⟩ => res σ H good⟩
theorem gs_doc {x j pos'} : GS T X E (.Expr (.Constant (.str x) j pos) pos') sNx := ⟨ps_imp ps_doc fun D σ H ⟨pa, ca, O, H0, Λ, ρ, π, good, res⟩ => res σ H good⟩

/-! ### stores to names -/
def sSet (i : Nat) (m : M D) : MS := sBind m fun d ρ π => .nx (ρ.set i (.sh d)) π
theorem gs_set (i : Nat) {x : Str} {pos' : Pos} (h : GE T X E e me) (hN : X.N.Nodup) (hi : X.N[i]? = some x := by rfl) (hx : Loc X.env.scope x := by first | exact Or.inl rfl | exact Or.inr rfl)
    (hs : swapsWith e (some (.Name x pos')) pos.line X.env = pure false := by rfl) (hf : X.fn x = true ∨ X.env.scope.names.lookup x = some .local := by first | exact Or.inl rfl | exact Or.inr rfl) :
    GS T X E (.Assign [.Name x pos'] e pos) (sSet i me) :=
  ⟨ps_imp (ps_set hN hi hx h.pe hs hf) fun D σ H ⟨pa, ca, O, H0, Λ, ρ, π, good, res⟩ => ⟨pa, ca, O, ρ, π, good.good, good.ex (k := fun d ρ π => .nx (ρ.set i (.sh d)) π) res fun d π1 v H1 s r g1 res1 =>
    res1 _ _ (g1.set i (fun z => z) fun d' z => by cases z; exact ⟨v, rfl, r⟩)⟩⟩
def sSetO (i : Nat) (m : M Own) : MS := sBind m fun k ρ π => if i < ρ.length then .nx (ρ.set i (.ow k)) π else .bad
theorem gs_setO (i : Nat) {x : Str} {pos' : Pos} (h : GF T X E e mo) (hN : X.N.Nodup) (hi : X.N[i]? = some x := by rfl) (hx : Loc X.env.scope x := by first | exact Or.inl rfl | exact Or.inr rfl)
    (hs : swapsWith e (some (.Name x pos')) pos.line X.env = pure false := by rfl) (hf : X.fn x = true ∨ X.env.scope.names.lookup x = some .local := by first | exact Or.inl rfl | exact Or.inr rfl) :
    GS T X E (.Assign [.Name x pos'] e pos) (sSetO i mo) :=
  ⟨ps_imp (ps_set hN hi hx h.pe hs hf) fun D σ H ⟨pa, ca, O, H0, Λ, ρ, π, good, res⟩ => ⟨pa, ca, O, ρ, π, good.good, good.ex (k := fun k ρ π => if i < ρ.length then .nx (ρ.set i (.ow k)) π else .bad) res fun d π1 v H1 s r g1 res1 => by
    obtain ⟨p, rfl, wf, nw, ok, es⟩ := r
    split at res1
    · rename_i hl
      exact res1 _ _ (good.setO s i hl wf nw ok es)
    · exact res1.elim⟩⟩

/-! ### returns, tests, plain expressions -/
def sRet (m : M D) : MS := sBind m fun d _ π => .rt d π
theorem gs_ret (h : GE T X E e me) : GS T X E (.Return (some e) pos) (sRet me) :=
  ⟨ps_imp (ps_ret h.pe) fun D σ H ⟨pa, ca, O, H0, Λ, ρ, π, good, res⟩ => ⟨pa, ca, O, ρ, π, good.good, good.ex (k := fun d _ π => .rt d π) res fun d π1 v H1 s r g1 res1 =>
    res1 _ _ g1.out (R.ext hid_WW d r)⟩⟩
def sRetN : MS := fun _ π => .rt .non π
theorem gs_retN : GS T X E (.Return none pos) sRetN := ⟨ps_imp ps_retN fun D σ H ⟨pa, ca, O, H0, Λ, ρ, π, good, res⟩ => res _ _ good.out (R_non.mpr rfl)⟩
def sExpr (m : M D) : MS := sBind m fun _ ρ π => .nx ρ π
theorem gs_expr (h : GE T X E e me) (hs : swapsWith e none pos.line X.env = pure false := by rfl) : GS T X E (.Expr e pos) (sExpr me) :=
  ⟨ps_imp (ps_expr h.pe hs) fun D σ H ⟨pa, ca, O, H0, Λ, ρ, π, good, res⟩ => ⟨pa, ca, O, ρ, π, good.good, good.ex (k := fun _ ρ π => .nx ρ π) res fun d π1 v H1 s r g1 res1 => res1 _ _ g1⟩⟩
def sIf (t : M Bool) (a b : MS) : MS := sBind t fun c ρ π => if c = true then a ρ π else b ρ π
theorem gs_if {c : Expr} {t : M Bool} {sa sb : List Stmt} {a b : MS} (h : GT T X E c t) (ha : GSs T X E sa a) (hb : GSs T X E sb b) : GS T X E (.If c sa sb pos) (sIf t a b) :=
  ⟨ps_imp (ps_if h.pt ha.pss hb.pss) fun D σ H ⟨pa, ca, O, H0, Λ, ρ, π, good, res⟩ => ⟨pa, ca, O, ρ, π, good.good, good.ex (rel := relT) (k := fun c ρ π => if c = true then a ρ π else b ρ π) res fun c π1 v H1 s r g1 res1 => by
    have r : c = v := r
    subst r
    cases c with
    | true => exact ⟨pa, ca, O, H0, Λ, ρ, π1, g1, res1⟩
    | false => exact ⟨pa, ca, O, H0, Λ, ρ, π1, g1, res1⟩⟩⟩

/-! ### targets -/
/-- the same but at the slots js -/
structure Off (js : List Nat) (σ σ' : St) : Prop where
  len : σ'.length = σ.length
  eq : ∀ j : Nat, j ∉ js → σ'[j]? = σ[j]?
theorem Off.refl {js : List Nat} {σ : St} : Off js σ σ := ⟨rfl, fun _ _ => rfl⟩
theorem Off.trans {js ks : List Nat} {σ σ1 σ2 : St} (a : Off js σ σ1) (b : Off ks σ1 σ2) : Off (js ++ ks) σ σ2 :=
  ⟨b.len.trans a.len, fun j h => (b.eq j fun z => h (List.mem_append_right _ z)).trans (a.eq j fun z => h (List.mem_append_left _ z))⟩
/-- what a target's rule does to the slots -/
structure OffR (js : List Nat) (ρ ρ' : Rho) : Prop where
  len : ρ'.length = ρ.length
  eq : ∀ j : Nat, j ∉ js → ρ'[j]? = ρ[j]?
  no : ∀ j : Nat, j ∈ js → ¬ isO ρ'[j]?
/-- a target that takes shared data -/
structure GTg (T : List (Addr × Str)) (X : Cx) (tg : Expr) (js : List Nat) (f : D → Rho → Option Rho) : Prop where
  pg : PG X tg (fun v σ H Q => ∃ (pa : Addr × Addr) (ca : Addr) (O : Addr → Prop) (H0 : Hp) (Λ : Led) (ρ : Rho) (π : Pen) (d : D) (ρ' : Rho), GoodS T ⟨X.K, X.mg, pa⟩ ca O H0 Λ σ H ρ π ∧
    R ⟨X.K, X.mg, pa⟩ (hide (WW O σ ρ) H) d v ∧ f d ρ = some ρ' ∧ ∀ σ', GoodS T ⟨X.K, X.mg, pa⟩ ca O H0 Λ σ' H ρ' π → Off js σ σ' → Q σ' H)
  off : ∀ d ρ ρ', f d ρ = some ρ' → OffR js ρ ρ'
structure GTgs (T : List (Addr × Str)) (X : Cx) (tgs : List Expr) (js : List Nat) (f : List D → Rho → Option Rho) : Prop where
  pgs : PGs X tgs (fun vs σ H Q => ∃ (pa : Addr × Addr) (ca : Addr) (O : Addr → Prop) (H0 : Hp) (Λ : Led) (ρ : Rho) (π : Pen) (ds : List D) (ρ' : Rho), GoodS T ⟨X.K, X.mg, pa⟩ ca O H0 Λ σ H ρ π ∧
    RL ⟨X.K, X.mg, pa⟩ (hide (WW O σ ρ) H) ds vs ∧ f ds ρ = some ρ' ∧ ∀ σ', GoodS T ⟨X.K, X.mg, pa⟩ ca O H0 Λ σ' H ρ' π → Off js σ σ' → Q σ' H)
  off : ∀ d ρ ρ', f d ρ = some ρ' → OffR js ρ ρ'
theorem pg_imp {X : Cx} {e : Expr} {t t' : TG} (h : PG X e t) (i : ∀ v σ H Q, t' v σ H Q → t v σ H Q) : PG X e t' := ⟨fun pins s σ H v u Q I r q => h.run pins s σ H v u Q I r (i v σ H Q q)⟩
theorem pgs_imp {X : Cx} {e : List Expr} {t t' : TGs} (h : PGs X e t) (i : ∀ v σ H Q, t' v σ H Q → t v σ H Q) : PGs X e t' := ⟨fun pins s σ H v u Q I r q => h.run pins s σ H v u Q I r (i v σ H Q q)⟩
def fName (i : Nat) : D → Rho → Option Rho := fun d ρ => some (ρ.set i (.sh d))
theorem gtg_name (i : Nat) {x : Str} (hN : X.N.Nodup) (hi : X.N[i]? = some x := by rfl) (hx : Loc X.env.scope x := by first | exact Or.inl rfl | exact Or.inr rfl)
    (hf : X.fn x = true ∨ X.env.scope.names.lookup x = some .local := by first | exact Or.inl rfl | exact Or.inr rfl) : GTg T X (.Name x pos) [i] (fName i) where
  pg := pg_imp (pg_name hN hi hx hf) fun v σ H Q ⟨pa, ca, O, H0, Λ, ρ, π, d, ρ', good, r, e, q⟩ => by
    cases e
    exact q _ (good.set i (fun z => z) fun d' z => by cases z; exact ⟨v, rfl, r⟩) ⟨List.length_set, fun j hj => List.getElem?_set_ne fun z => hj (by rw [z]; exact List.mem_cons_self)⟩
  off := fun d ρ ρ' e => by
    cases e
    refine ⟨List.length_set, fun j hj => List.getElem?_set_ne fun z => hj (by rw [z]; exact List.mem_cons_self), fun j hj => ?_⟩
    rcases List.mem_singleton.mp hj with rfl
    by_cases hl : j < ρ.length
    · rw [List.getElem?_set_self hl]; exact fun z => z
    · rw [List.getElem?_eq_none (by simpa using hl)]; exact fun z => z
def fNil : List D → Rho → Option Rho := fun ds ρ => match ds with
  | [] => some ρ
  | _ :: _ => none
def fCons (f : D → Rho → Option Rho) (g : List D → Rho → Option Rho) : List D → Rho → Option Rho := fun ds ρ => match ds with
  | [] => none
  | d :: r => (f d ρ).bind fun ρ' => g r ρ'
theorem gtgs_nil : GTgs T X [] [] fNil where
  pgs := pgs_imp pgs_nil fun vs σ H Q ⟨pa, ca, O, H0, Λ, ρ, π, ds, ρ', good, r, e, q⟩ => by
    cases ds with
    | nil => cases e; exact ⟨RL_nil.mp r, q _ good .refl⟩
    | cons d l => cases e
  off := fun d ρ ρ' e => by
    cases d with
    | nil => cases e; exact ⟨rfl, fun _ _ => rfl, fun j h => by cases h⟩
    | cons d l => cases e
theorem gtgs_cons {tg : Expr} {tgs : List Expr} {js ks : List Nat} {f : D → Rho → Option Rho} {g : List D → Rho → Option Rho} (h : GTg T X tg js f) (t : GTgs T X tgs ks g)
    (hs : (assignEach (tg :: tgs) X.env).map (·.2) = assign tg X.env :: (assignEach tgs X.env).map (·.2) := by rfl) : GTgs T X (tg :: tgs) (js ++ ks) (fCons f g) where
  pgs := pgs_imp (pgs_cons h.pg t.pgs hs) fun vs σ H Q ⟨pa, ca, O, H0, Λ, ρ, π, ds, ρ', good, r, e, q⟩ => by
    cases ds with
    | nil => cases e
    | cons d l =>
      obtain ⟨v, vr, rfl, r1, r2⟩ := RL_cons.mp r
      cases z : f d ρ with
      | none => simp only [fCons, z] at e; cases e
      | some ρ1 =>
        simp only [fCons, z] at e
        refine ⟨v, vr, rfl, pa, ca, O, H0, (Led.ds ⟨X.K, X.mg, pa⟩ l vr).and Λ, ρ, π, d, ρ1, good.reled ⟨r2, good.led⟩, r1, z, fun σ' g' o' => ?_⟩
        exact ⟨pa, ca, O, H0, Λ, ρ1, π, l, ρ', g'.reled g'.led.2, g'.led.1, e, fun σ2 g2 o2 => q σ2 g2 (o'.trans o2)⟩
  off := fun ds ρ ρ' e => by
    cases ds with
    | nil => cases e
    | cons d l =>
      cases z : f d ρ with
      | none => simp only [fCons, z] at e; cases e
      | some ρ1 =>
        simp only [fCons, z] at e
        have a := h.off d ρ ρ1 z
        have b := t.off l ρ1 ρ' e
        refine ⟨b.len.trans a.len, fun j hj => (b.eq j fun z => hj (List.mem_append_right _ z)).trans (a.eq j fun z => hj (List.mem_append_left _ z)), fun j hj => ?_⟩
        by_cases hk : j ∈ ks
        · exact b.no j hk
        · rw [b.eq j hk]
          exact a.no j ((List.mem_append.mp hj).resolve_right hk)
def fTup (n : Nat) (g : List D → Rho → Option Rho) : D → Rho → Option Rho := fun d ρ => match d with
  | .tup l => if l.length = n then g l ρ else none
  | _ => none
theorem gtg_tup {tgs : List Expr} {k : Nat} {js : List Nat} {g : List D → Rho → Option Rho} (n : Nat) (h : GTgs T X tgs js g) (hc : X.calm = true := by rfl)
    (hn : (assignEach tgs X.env).length = n := by rfl) (hst : (assignEach tgs X.env).findIdx? (·.1) = none := by rfl) : GTg T X (.Tuple tgs k pos) js (fTup n g) where
  pg := pg_imp (pg_tup hc h.pgs hn hst) fun v σ H Q ⟨pa, ca, O, H0, Λ, ρ, π, d, ρ', good, r, e, q⟩ => by
    cases d with
    | tup l =>
      obtain ⟨a, vs, rfl, ha, ra⟩ := R_tup.mp r
      simp only [fTup] at e
      split at e
      · rename_i hl
        exact ⟨a, vs, rfl, SqT.of (hide_some ha).2, by rw [RL.length ra]; exact hl, pa, ca, O, H0, Λ, ρ, π, l, ρ', good, ra, e, q⟩
      · cases e
    | _ => cases e
  off := fun d ρ ρ' e => by
    cases d with
    | tup l =>
      simp only [fTup] at e
      split at e
      · exact h.off l ρ ρ' e
      · cases e
    | _ => cases e
/-- target = e, by the target -/
def sTg (f : D → Rho → Option Rho) (m : M D) : MS := sBind m fun d ρ π => match f d ρ with
  | some ρ' => .nx ρ' π
  | none => .bad
theorem gs_tg {tg : Expr} {js : List Nat} {f : D → Rho → Option Rho} (ht : GTg T X tg js f) (h : GE T X E e me) (hs : swapsWithSole [tg] e pos.line X.env = pure false := by rfl) (hw : swappedStores [tg] e X.env = pure none := by rfl)
    (h1 : (assignEach [tg] X.env).map (·.2) = [assign tg X.env] := by rfl) : GS T X E (.Assign [tg] e pos) (sTg f me) :=
  ⟨ps_imp (ps_asg h.pe ht.pg hs hw h1) fun D σ H ⟨pa, ca, O, H0, Λ, ρ, π, good, res⟩ => ⟨pa, ca, O, ρ, π, good.good, good.ex (k := fun d ρ π => match f d ρ with | some ρ' => .nx ρ' π | none => .bad) res fun d π1 v H1 s r g1 res1 => by
    cases z : f d ρ with
    | none => simp only [z] at res1; exact res1.elim
    | some ρ' =>
      simp only [z] at res1
      exact ⟨pa, ca, O, H0, Λ, ρ, π1, d, ρ', g1, r, z, fun σ' g' _ => res1 _ _ g'⟩⟩⟩
end
end L2.Dl
end

section
set_option maxRecDepth 100000
set_option maxHeartbeats 2000000
/-! Loops over data. -/
namespace L2.Dl
open PySem PySem.Spec PyProof.Rows

/-- the iterator J gives the items xs as long as Λ holds of what is visible -/
def Fol (g : G) (J : It) (xs : List D) (Λ : Led) : Prop := ∀ (W : Addr → Prop) (H : Hp), (∀ p, H p = none → ¬ W p) → Λ.P (hide W H) → ∀ i : Nat,
  (∀ x, xs[i]? = some x → J.go i H ∧ ∀ v H', J.yld i H v H' → Same H H' ∧ R g (hide W H') x v) ∧ (xs.length = i → J.stop i H)
def relI (g : G) (W : Addr → Prop) : Hp → List D → It → Prop := fun H xs J => ∃ Λ : Led, Λ.P (hide W H) ∧ Fol g J xs Λ
structure GI (T : List (Addr × Str)) (X : Cx) (E : XK) (tg iter : Expr) (m : M (List D)) : Prop where
  pi : PI X tg iter (fun σ H Q => ∃ (pa : Addr × Addr) (ca : Addr) (O : Addr → Prop) (ρ : Rho) (π : Pen), Good T ⟨X.K, X.mg, pa⟩ ca O σ H ρ π ∧ Res (relI ⟨X.K, X.mg, pa⟩ (WW O σ ρ)) T ⟨X.K, X.mg, pa⟩ ca (WW O σ ρ) H (m ρ π) Q E)
theorem pi_imp {X : Cx} {tg iter : Expr} {t t' : TI} (h : PI X tg iter t) (i : ∀ σ H R, t' σ H R → t σ H R) : PI X tg iter t' := ⟨fun pins s σ H R I q => h.run pins s σ H R I (i σ H R q)⟩

def forGo (f : D → Rho → Option Rho) (b : MS) : List D → Rho → Pen → SOut
  | [], ρ, π => .nx ρ π
  | x :: xs, ρ, π => match f x ρ with
    | none => .bad
    | some ρ1 => match b ρ1 π with
      | .nx ρ2 π2 => forGo f b xs ρ2 π2
      | .ct ρ2 π2 => forGo f b xs ρ2 π2
      | .bk ρ2 π2 => .nx ρ2 π2
      | .rt d π2 => .rt d π2
      | .err c ns fs π2 => .err c ns fs π2
      | .bad => .bad
def sFor (it : M (List D)) (f : D → Rho → Option Rho) (b : MS) : MS := sBind it fun xs ρ π => forGo f b xs ρ π
section
variable {T : List (Addr × Str)} {X : Cx} {E : XK} {st : Stmt} {sts rest : List Stmt} {m k b : MS} {pos : Pos} {me : M D} {e tg iter : Expr} {js : List Nat} {f : D → Rho → Option Rho} {it : M (List D)}
theorem gs_for (hp : PassesOwn (model X.prog X.w) X.A X.env X.xe) (hi : GI T X E tg iter it) (ht : GTg T X tg js f) (hb : GSs T X E sts b) (hc : X.calm = true := by rfl)
    (hs : ∀ x, foldedSetIterable iter X.env x = pure x := by intro _; rfl) : GS T X E (.For tg iter sts [] pos) (sFor it f b) :=
  ⟨ps_imp (ps_for hp hc hi.pi ht.pg hb.pss hs) fun D σ H ⟨pa, ca, O, H0, Λ, ρ, π, good, res⟩ => ⟨pa, ca, O, ρ, π, good.good, good.ex (k := fun xs ρ π => forGo f b xs ρ π) res fun xs π1 J H1 s ⟨Λi, l1, fol⟩ g1 res1 => by
    refine ⟨fun i m σ' H' => i + m = xs.length ∧ ∃ ρ' π', GoodS T ⟨X.K, X.mg, pa⟩ ca O H0 (Λi.and Λ) σ' H' ρ' π' ∧ ResS T ⟨X.K, X.mg, pa⟩ ca O H0 Λ (forGo f b (xs.drop i) ρ' π') D E,
      ⟨xs.length, Nat.zero_add _, ρ, π1, g1.reled ⟨l1, g1.led⟩, res1⟩, ?_⟩
    rintro i m σ' H' ⟨hm, ρ', π', g', r'⟩
    have fl := fol (WW O σ' ρ') H' (fun p hp => g'.good.fresh hp) g'.led.1 i
    by_cases hi : i < xs.length
    · obtain ⟨go, yl⟩ := fl.1 xs[i] (List.getElem?_eq_getElem hi)
      rw [List.drop_eq_getElem_cons hi] at r'
      unfold forGo at r'
      refine .inr ⟨go, fun σ2 H2 => ∃ ρ2 π2, GoodS T ⟨X.K, X.mg, pa⟩ ca O H0 (Λi.and Λ) σ2 H2 ρ2 π2 ∧ ResS T ⟨X.K, X.mg, pa⟩ ca O H0 Λ (forGo f b (xs.drop (i + 1)) ρ2 π2) D E, fun σ2 H2 h2 => ⟨m - 1, by omega, by omega, h2⟩, fun v H2 hy => ?_⟩
      obtain ⟨hs2, hr2⟩ := yl v H2 hy
      cases z : f xs[i] ρ' with
      | none => rw [z] at r'; exact r'.elim
      | some ρ1 =>
        rw [z] at r'
        simp only at r'
        refine ⟨pa, ca, O, H0, Λi.and Λ, ρ', π', xs[i], ρ1, g'.step (g'.good.same hs2), hr2, z, fun σ3 g3 _ => ⟨pa, ca, O, H0, Λi.and Λ, ρ1, π', g3, ?_⟩⟩
        cases y : b ρ1 π' with
        | nx ρ2 π2 => rw [y] at r'; exact fun σ4 H4 g4 => ⟨ρ2, π2, g4, r'⟩
        | ct ρ2 π2 => rw [y] at r'; exact fun σ4 H4 g4 => ⟨ρ2, π2, g4, r'⟩
        | bk ρ2 π2 => rw [y] at r'; exact fun σ4 H4 g4 => r' σ4 H4 (g4.reled g4.led.2)
        | rt d π2 => rw [y] at r'; exact r'
        | err c ns fs π2 => rw [y] at r'; exact r'
        | bad => rw [y] at r'; exact r'
    · have h0 : xs.drop i = [] := List.drop_eq_nil_of_le (by omega)
      rw [h0] at r'
      exact .inl ⟨fl.2 (by omega), r' σ' H' (g'.reled g'.led.2)⟩⟩⟩

/-- the loop's runs, by steps -/
def whileGo (t : M Bool) (b : MS) : Nat → Rho → Pen → SOut
  | 0, _, _ => .bad
  | n + 1, ρ, π => match t ρ π with
    | .ok false π1 => .nx ρ π1
    | .ok true π1 => match b ρ π1 with
      | .nx ρ2 π2 => whileGo t b n ρ2 π2
      | .ct ρ2 π2 => whileGo t b n ρ2 π2
      | .bk ρ2 π2 => .nx ρ2 π2
      | .rt d π2 => .rt d π2
      | .err c ns fs π2 => .err c ns fs π2
      | .bad => .bad
    | .err c ns fs π1 => .err c ns fs π1
    | .bad => .bad
/-- as many runs as nothing needs -/
def manyRuns : Nat := 1000000000000
def sWhile (t : M Bool) (b : MS) : MS := fun ρ π => whileGo t b manyRuns ρ π
theorem gs_while {t : M Bool} {c : Expr} (hp : PassesOwn (model X.prog X.w) X.A X.env X.xe) (hc : GT T X E c t) (hb : GSs T X E sts b) : GS T X E (.While c sts [] pos) (sWhile t b) :=
  ⟨ps_imp (ps_while hp hc.pt hb.pss) fun D σ H ⟨pa, ca, O, H0, Λ, ρ, π, good, res⟩ => by
    unfold sWhile at res
    refine ⟨fun n σ' H' => ∃ ρ' π', GoodS T ⟨X.K, X.mg, pa⟩ ca O H0 Λ σ' H' ρ' π' ∧ ResS T ⟨X.K, X.mg, pa⟩ ca O H0 Λ (whileGo t b n ρ' π') D E, ⟨manyRuns, ρ, π, good, res⟩, ?_⟩
    rintro n σ' H' ⟨ρ', π', g', r'⟩
    cases n with
    | zero => exact r'.elim
    | succ n =>
      unfold whileGo at r'
      refine ⟨pa, ca, O, ρ', π', g'.good, ?_⟩
      cases y : t ρ' π' with
      | err c ns fs π1 => rw [y] at r'; exact fun C dd H1 m s q => r' C dd H1 m (g'.step s).out (q.mono hid_WW)
      | bad => rw [y] at r'; exact r'
      | ok c π1 =>
        rw [y] at r'
        intro c' H1 s e
        have e : c = c' := e
        subst e
        have g1 := g'.step s
        cases c with
        | false => exact r' σ' H1 g1
        | true =>
          simp only at r'
          refine ⟨fun σ2 H2 => ∃ ρ2 π2, GoodS T ⟨X.K, X.mg, pa⟩ ca O H0 Λ σ2 H2 ρ2 π2 ∧ ResS T ⟨X.K, X.mg, pa⟩ ca O H0 Λ (whileGo t b n ρ2 π2) D E, fun σ2 H2 h2 => ⟨n, Nat.lt_succ_self n, h2⟩, pa, ca, O, H0, Λ, ρ', π1, g1, ?_⟩
          cases y2 : b ρ' π1 with
          | nx ρ2 π2 => rw [y2] at r'; exact fun σ4 H4 g4 => ⟨ρ2, π2, g4, r'⟩
          | ct ρ2 π2 => rw [y2] at r'; exact fun σ4 H4 g4 => ⟨ρ2, π2, g4, r'⟩
          | bk ρ2 π2 => rw [y2] at r'; exact fun σ4 H4 g4 => r' σ4 H4 g4
          | rt d π2 => rw [y2] at r'; exact r'
          | err c ns fs π2 => rw [y2] at r'; exact r'
          | bad => rw [y2] at r'; exact r'⟩

/-! ### iterators -/
theorem RL.getD {g : G} {H : Hp} {l : List D} {vs : List V} {i : Nat} {d : D} (h : RL g H l vs) (e : l[i]? = some d) : ∃ v, vs[i]? = some v ∧ R g H d v := RL.get h e
def seqOf : D → Option (List D)
  | .lst l => some l
  | .tup l => some l
  | _ => none
/-- for x in e: a list or tuple of shared data -/
theorem fol_list {g : G} {a : Addr} {xs : List D} : Fol g (Itl g.K a) xs (Led.d g (.lst xs) (.ref a)) := fun W H hw hl i => by
  obtain ⟨b, vs, e, ha, ra⟩ := R_lst.mp (show R g (hide W H) (.lst xs) (.ref a) from hl)
  cases e
  have hs : SqL g.K H a vs := SqL.of (hide_some ha).2
  refine ⟨fun x hx => ?_, fun hx => ⟨vs, hs, by rw [RL.length ra]; exact Nat.le_of_eq hx⟩⟩
  obtain ⟨v, e1, r1⟩ := RL.get ra hx
  refine ⟨⟨vs, v, hs, e1⟩, ?_⟩
  rintro v' H' ⟨rfl, h2⟩
  have := h2 vs hs
  rw [e1] at this
  cases this
  exact ⟨Same.refl _, r1⟩
theorem fol_tup {g : G} {a : Addr} {xs : List D} : Fol g (Itt g.K a) xs (Led.d g (.tup xs) (.ref a)) := fun W H hw hl i => by
  obtain ⟨b, vs, e, ha, ra⟩ := R_tup.mp (show R g (hide W H) (.tup xs) (.ref a) from hl)
  cases e
  have hs : SqT g.K H a vs := SqT.of (hide_some ha).2
  refine ⟨fun x hx => ?_, fun hx => ⟨vs, hs, by rw [RL.length ra]; exact Nat.le_of_eq hx⟩⟩
  obtain ⟨v, e1, r1⟩ := RL.get ra hx
  refine ⟨⟨vs, v, hs, e1⟩, ?_⟩
  rintro v' H' ⟨rfl, h2⟩
  have := h2 vs hs
  rw [e1] at this
  cases this
  exact ⟨Same.refl _, r1⟩
def itLst (m : M D) : M (List D) := mBind m fun d => mOpt (match d with
  | .lst l => some l
  | _ => none)
def itTup (m : M D) : M (List D) := mBind m fun d => mOpt (match d with
  | .tup l => some l
  | _ => none)
theorem gi_list (h : GE T X E e me) : GI T X E tg e (itLst me) :=
  ⟨pi_imp (pi_list h.pe) fun σ H Q ⟨pa, ca, O, ρ, π, good, res⟩ => ⟨pa, ca, O, ρ, π, good, Res.seq res fun d π1 v H1 s r res1 => by
    obtain ⟨l, e, res2⟩ := Res.opt res1
    cases d with
    | lst l' =>
      cases e
      obtain ⟨a, vs, rfl, ha, ra⟩ := R_lst.mp r
      exact ⟨a, rfl, ⟨vs, SqL.of (hide_some ha).2⟩, Res.ok res2 (good.step s).step0 ⟨_, r, fol_list (g := ⟨X.K, X.mg, pa⟩)⟩⟩
    | _ => cases e⟩⟩
theorem gi_tup (h : GE T X E e me) : GI T X E tg e (itTup me) :=
  ⟨pi_imp (pi_tup h.pe) fun σ H Q ⟨pa, ca, O, ρ, π, good, res⟩ => ⟨pa, ca, O, ρ, π, good, Res.seq res fun d π1 v H1 s r res1 => by
    obtain ⟨l, e, res2⟩ := Res.opt res1
    cases d with
    | tup l' =>
      cases e
      obtain ⟨a, vs, rfl, ha, ra⟩ := R_tup.mp r
      exact ⟨a, rfl, ⟨vs, SqT.of (hide_some ha).2⟩, Res.ok res2 (good.step s).step0 ⟨_, r, fol_tup (g := ⟨X.K, X.mg, pa⟩)⟩⟩
    | _ => cases e⟩⟩
/-- lo, lo + 1, .. -/
def rangeD (lo : Int) (n : Nat) : List D := (List.range n).map fun i => D.int (lo + (i : Nat))
theorem fol_range {g : G} {lo : Int} {n : Nat} : Fol g (Itr lo n) (rangeD lo n) Led.top := fun W H hw hl i => by
  refine ⟨fun x hx => ?_, fun hx => by
    have : n = i := by simpa [rangeD] using hx
    exact Nat.le_of_eq this⟩
  have hi : i < n := by
    have := (List.getElem?_eq_some_iff.mp hx).1
    simpa [rangeD] using this
  refine ⟨hi, ?_⟩
  rintro v H' ⟨rfl, rfl⟩
  refine ⟨Same.refl _, ?_⟩
  have : (rangeD lo n)[i]? = some (.int (lo + (i : Nat))) := by simp [rangeD, hi]
  rw [this] at hx
  cases hx
  exact R_int.mpr rfl
def small62 (i : Int) : Bool := decide (-(2 ^ 62) ≤ i) && decide (i < 2 ^ 62)
theorem small62_iff {i : Int} (h : small62 i = true) : -(2 ^ 62) ≤ i ∧ i < 2 ^ 62 := by
  simp only [small62, Bool.and_eq_true, decide_eq_true_eq] at h
  exact h
def range1 : List D → Option (List D)
  | [.int j] => if small62 j = true then some (rangeD 0 j.toNat) else none
  | _ => none
def range2 : List D → Option (List D)
  | [.int i, .int j] => if small62 i = true ∧ small62 j = true then some (rangeD i (j - i).toNat) else none
  | _ => none
theorem gi_range1 {a : Expr} {ml : M (List D)} {p : Pos} (ha : GA T X E [a] ml) (hm : X.mg "range" = none) (hg : Gl X "range" := by rfl) (hs : starEach [a] X.env = [(false, eval a X.env)] := by rfl) :
    GI T X E tg (.Call (.Name "range" p) [a] [] pos) (mBind ml fun l => mOpt (range1 l)) :=
  ⟨pi_imp (pi_range1 hg hm ha.pa hs) fun σ H Q ⟨pa, ca, O, ρ, π, good, res⟩ => ⟨pa, ca, O, ρ, π, good, Res.seq res fun l π1 vs H1 s r res1 => by
    obtain ⟨xs, e, res2⟩ := Res.opt res1
    unfold range1 at e
    split at e
    · rename_i j
      split at e
      · rename_i hj
        cases e
        obtain ⟨v, t, rfl, r1, r2⟩ := RL_cons.mp r
        rw [R_int.mp r1, RL_nil.mp r2]
        exact ⟨j, rfl, (small62_iff hj).1, (small62_iff hj).2, Res.ok res2 (good.step s).step0 ⟨_, trivial, fol_range⟩⟩
      · cases e
    · cases e⟩⟩
theorem gi_range2 {a b : Expr} {ml : M (List D)} {p : Pos} (ha : GA T X E [a, b] ml) (hm : X.mg "range" = none) (hg : Gl X "range" := by rfl) (hs : starEach [a, b] X.env = [(false, eval a X.env), (false, eval b X.env)] := by rfl) (hs2 : starEach [b] X.env = [(false, eval b X.env)] := by rfl) :
    GI T X E tg (.Call (.Name "range" p) [a, b] [] pos) (mBind ml fun l => mOpt (range2 l)) :=
  ⟨pi_imp (pi_range2 hg hm ha.pa hs hs2) fun σ H Q ⟨pa, ca, O, ρ, π, good, res⟩ => ⟨pa, ca, O, ρ, π, good, Res.seq res fun l π1 vs H1 s r res1 => by
    obtain ⟨xs, e, res2⟩ := Res.opt res1
    unfold range2 at e
    split at e
    · rename_i i j
      split at e
      · rename_i hj
        cases e
        obtain ⟨v, t, rfl, r1, r2⟩ := RL_cons.mp r
        obtain ⟨v2, t2, rfl, r3, r4⟩ := RL_cons.mp r2
        rw [R_int.mp r1, R_int.mp r3, RL_nil.mp r4]
        have h1 := small62_iff hj.1
        have h2 := small62_iff hj.2
        exact ⟨i, j, rfl, ⟨h1.1, h1.2, h2.1, h2.2⟩, Res.ok res2 (good.step s).step0 ⟨_, trivial, fol_range⟩⟩
      · cases e
    · cases e⟩⟩
end
end L2.Dl
end

section
set_option maxRecDepth 100000
set_option maxHeartbeats 2000000
/-! enumerate(tuple). -/
namespace L2.Dl
open PySem PySem.Spec PyProof.Rows
open Sem (wp)

abbrev enumCell (it : Addr) : Obj := { cls := .type "enumerate", data := .fields #[.none, .bool false, .ref it, rawInt 0, .none, .none] }
theorem enumNew1 {v : Value} {ob : Obj} {P : Heap → Prop} (B : Begins v ob P) :
    Meets (Builtin.«enumerate.__new__» ⟨[.type "enumerate", v], []⟩) (fun _ R s => P s.heap ∧ R (.ok (.ret (.ref (s.heap.push ob).objs.size))) { s with heap := (s.heap.push ob).push (enumCell s.heap.objs.size) }) :=
  .of_wp fun prog w A R s hh => by
    obtain ⟨hp, gg, dd, tt, oo⟩ := s
    obtain ⟨p1, hr⟩ := hh
    have hsub := sub_enumerate
    have it1 : ∀ {A' : Around} {E' : Value → Shared → Prop} {Q' : Value → Shared → Prop}, Q' (.ref hp.objs.size) ⟨hp.push ob, gg, dd, tt, oo⟩ → wpAny (model prog w) A' (pyIter v) Q' E' ⟨hp, gg, dd, tt, oo⟩ := fun q => B.iter prog w _ _ ⟨hp, gg, dd, tt, oo⟩ _ p1 q
    wp_walk using it1
    refine wpAny_stack_any fun st => wpAny_pure ?_
    split
    · rename_i c _ _ _ _ _
      cases (c == Value.type "enumerate") <;> (wp_walk using it1; exact ⟨_, rfl, hr⟩)
    · wp_walk using it1
      exact ⟨_, rfl, hr⟩
section
variable {prog : Program} {w : World} {A : Around} {E : Value → Shared → Prop} {s : Shared}
theorem callEnumT {t : Addr} {its : Array Value} {Q : Value → Shared → Prop} (hT : s.heap.IsTuple t its)
    (h : ∀ h', IsEnum h' (s.heap.objs.size + 1) s.heap.objs.size 0 .none → h'.IsTupleIter s.heap.objs.size t 0 → (∀ b o, s.heap.get? b = some o → h'.get? b = some o) → Q (.ref (s.heap.objs.size + 1)) { s with heap := h' }) :
    wpAny (model prog w) A (call (.type "enumerate") [.ref t]) Q E s := by
  refine callType_new F.called_enumerate (by decide) (F.typeCall_enumerate_1 _) (F.newCall_enumerate_1 _) (fun obj => F.args_object_init_2 obj _) F.entry_enumerate_new (enumNew1 (begins_tuple t its)) ⟨hT, ?_⟩
  have hz := Heap.size_push s.heap { cls := .type "tuple_iterator", data := .fields #[.ref t, .int 0 0] }
  show _ ∧ _
  rw [hz]
  have he := Heap.get?_push_size (s.heap.push { cls := .type "tuple_iterator", data := .fields #[.ref t, .int 0 0] }) (o := enumCell s.heap.objs.size) rfl
  rw [hz] at he
  exact ⟨⟨_, he, rfl⟩, h _ he ⟨_, Heap.get?_push_of_some _ (Heap.get?_push_size _ rfl), rfl, rfl⟩ fun b o x => Heap.get?_push_of_some _ (Heap.get?_push_of_some _ x)⟩
end
/-- the tuple's items, each in a new pair with its index -/
def IteT (K : PySem.W.Frag) (a : Addr) : It where
  go i H := ∃ (xs : List V) (x : V), SqT K H a xs ∧ xs[i]? = some x
  yld i H v H' := ∃ T x, v = .ref T ∧ H T = none ∧ H' = upd H T (.tup [.int (i : Nat), x]) ∧ ∀ xs, SqT K H a xs → xs[i]? = some x
  stop i H := ∃ xs : List V, SqT K H a xs ∧ xs.length ≤ i
theorem apart_tup {h : Heap} {a b : Addr} {its : Array Value} {o : Obj} (p : IsTup h a its) (e : h.get? b = some o) (n : o.cls ≠ .type "tuple") : a ≠ b := fun z => by
  subst z
  obtain ⟨o', e', c, _⟩ := p
  rw [e] at e'
  cases e'
  exact n c
theorem turn_enumT {P : Program} {w : World} {K : PySem.W.Frag} {elts : List Expr} {kk : Nat} {tpos : Pos} (a e it : Addr) :
    Turn P w K (.Tuple elts kk tpos) (IteT K a) [e, it] e (fun i h => (∃ old, IsEnum h e it ((i : Nat) : Int) old) ∧ h.IsTupleIter it a i ∧ e ≠ it) where
  mem := List.mem_cons_self
  obj i h st b hb := by
    obtain ⟨⟨old, he⟩, ⟨o, ho, hc, hd⟩, _⟩ := st
    rcases List.mem_cons.mp hb with rfl | hb
    · exact ⟨_, he, fun v q => nomatch q⟩
    · rcases List.mem_singleton.mp hb with rfl
      exact ⟨o, ho, fun v q => by rw [hd] at q; cases q⟩
  keep i h h' st k := by
    obtain ⟨⟨old, he⟩, hi, hne⟩ := st
    exact ⟨⟨old, k e List.mem_cons_self _ he⟩, hi.at fun o q => k it (List.mem_cons_of_mem _ List.mem_cons_self) o q, hne⟩
  item := by
    intro X hP hw hK hc i pins s σ H E I hf st hg
    subst hP hw hK
    obtain ⟨⟨old, he⟩, hit, hne⟩ := st
    obtain ⟨xs, x, hq, hx⟩ := hg
    obtain ⟨its, rv, p, hz⟩ := I.tuple hq
    obtain ⟨u, hu, ru⟩ := rv.get hx
    have hel : e < s.heap.objs.size := Heap.lt_size he
    have hia : a ≠ it := by obtain ⟨o, q, qc, _⟩ := hit; exact apart_tup p q (by rw [qc]; decide)
    have hea : a ≠ e := apart_tup p he (fun z => absurd (Value.type.inj z) (by decide))
    have hil : it < s.heap.objs.size := by obtain ⟨_, q, _⟩ := hit; exact Heap.lt_size q
    have hlt : i < its.toArray.size := by
      have := (List.getElem?_eq_some_iff.mp hu).1
      simpa using this
    refine wpAny_pyNext_enum_itemD (Draws.tuple (A := X.A.in1) (I.ok.hd hc) it a hia its.toArray) he ⟨hit, p⟩ hlt hne (by simp [hne, Ne.symm hea]) fun y h' tk hy ho hst hT hsz hk => ?_
    have hyu : y = u := by
      have : its.toArray[i]? = some u := by simpa using hu
      rw [this] at hy
      exact (Option.some.inj hy).symm
    subst hyu
    refine ⟨_, rfl, wpAny_letOwnedTupleGo_enum (s := { s with heap := h', toks := tk + 1 }) ho fun h'' he' sb => ?_⟩
    have hT2 := (sb.2 _ (Nat.ne_of_gt hel)).trans hT
    have new : ObjOk X.prog X.w (upd H s.heap.objs.size (.tup [.int (i : Nat), x])) h'' s.heap.objs.size (.tup [.int (i : Nat), x]) := ⟨by show 2 ≤ sizeLine; decide, [.int i tk, y], .cons ⟨_, rfl⟩ (.cons ru .nil), ⟨_, hT2, rfl, _, rfl⟩⟩
    have I1 := I.turnedNew (t' := tk + 1) (ch := [e, it]) (fun b ob hb q => (sb.2 b (fun z => hb (by simp [z]))).trans (hk b ob (fun z => hb (by simp [z])) (fun z => hb (by simp [z])) q)) hf (Nat.le_refl _) new
    refine ⟨.ref s.heap.objs.size, _, I1, rfl, ⟨_, x, rfl, I.hok.fresh (Nat.le_refl _), rfl, fun ys hy => by rw [I.tuple_inj hy hq]; exact hx⟩, ⟨⟨y, ?_⟩, hst.1.at fun o q => (sb.2 it (Ne.symm hne)).trans q, hne⟩, fun b hb => ?_⟩
    · rw [show ((i + 1 : Nat) : Int) = (i : Int) + 1 by omega]
      exact he'
    · have hb' : b < s.heap.objs.size := by
        rcases List.mem_cons.mp hb with rfl | hb
        · exact hel
        · rcases List.mem_singleton.mp hb with rfl
          exact hil
      rw [upd_ne (Nat.ne_of_lt hb')]
      exact (hf b hb).1
  done := by
    intro X hP hw hK hc i pins s σ H E I hf st hg
    subst hP hw hK
    obtain ⟨⟨old, he⟩, hit, hne⟩ := st
    obtain ⟨xs, hq, hx⟩ := hg
    obtain ⟨its, rv, p, hz⟩ := I.tuple hq
    obtain ⟨f0, f1, f2, f3, f4, f5⟩ := hf it (List.mem_cons_of_mem _ List.mem_cons_self)
    have hl := rv.length
    have hnone : its.toArray[i]? = none := by simp; omega
    unfold pyNext
    have hT : s.TypeIs (.ref e) "enumerate" := ⟨_, he, rfl⟩
    refine wpAny_bind (wpAny_attempt (wpAny_callSpecial?_slot (name := Str.ofString "__next__") hT F.slot_enumerate_next (wpAny_call_entry F.slot_enumerate_next hT F.entry_enumerate_next ?_ (F.args_enumerate_next_1 _))))
    show wpAny _ _ (field (.ref e) 2 >>= _) _ _ _
    refine wpAny_bind (wpAny_field he rfl (x := .ref it) rfl ?_)
    refine wpAny_bind (wpAny_nextOf_tuple_end (I.ok.hd hc) hit p hnone fun h' x he' hx' => ?_)
    obtain ⟨o, ho, hc⟩ := hx'
    refine wpAny_bind (wpAny_isInstance (T := "StopIteration") (b := true) ⟨o, ho, hc⟩ isSubtype_stop ?_)
    exact wpAny_pure ⟨rfl, I.turned (t' := s.toks) (fun b o hb q => he' b o hb q) f0 f1 f3 f4 f5⟩
  self A i s Q E st h := by
    obtain ⟨⟨_, he⟩, _⟩ := st
    exact wpAny_pyIter_enum he h
def iEnumA (K : PySem.W.Frag) (ta : TA) : TI := fun σ H R => ta σ H fun vs H1 => ∃ a xs, vs = [.ref a] ∧ ((SqL K H1 a xs ∧ R (Ite K a) H1) ∨ (SqT K H1 a xs ∧ R (IteT K a) H1))
theorem pi_enumA {X : Cx} {e : Expr} {ta : TA} {p pos tpos : Pos} {elts : List Expr} {kk : Nat} (hg : Gl X "enumerate") (hm : X.mg "enumerate" = none) (ha : PA X [e] ta) (hs : starEach [e] X.env = [(false, eval e X.env)] := by rfl) :
    PI X (.Tuple elts kk tpos) (.Call (.Name "enumerate" p) [e] [] pos) (iEnumA X.K ta) := by
  refine ⟨fun pins s σ H R I h => ?_⟩
  refine Call_ (ld_blt I hg hm boot_enumerate (PyProof.Rows.callWith_type1 (thn (ha.run pos pins s σ H _ I h) fun us s1 ⟨vs, H1, I1, r1, q1⟩ => ?_) hs rfl))
  obtain ⟨a, xs, rfl, q1⟩ := q1
  rw [Vals.ref1 r1]
  have fp2 : ∀ b ∈ [s1.heap.objs.size + 1, s1.heap.objs.size], FpOk X pins H1 b := fun b hb => by
    have hle : s1.heap.objs.size ≤ b := by
      rcases List.mem_cons.mp hb with rfl | hb
      · exact Nat.le_succ _
      · rcases List.mem_singleton.mp hb with rfl
        exact Nat.le_refl _
    exact I1.fpOk hle (I1.hok.fresh hle)
  rcases q1 with ⟨hq, q⟩ | ⟨hq, q⟩
  · obtain ⟨its, rv, p', hz⟩ := I1.list hq
    exact call_enumerate_list p'.isList fun h' he hit hsz hk => wpAny_pyIter_enum he ⟨_, _, _, _, H1, rfl, I1.kept (t' := s1.toks) hk, turn_enum a _ _, ⟨⟨.none, he⟩, hit, Nat.succ_ne_self _⟩, fp2, q⟩
  · obtain ⟨its, rv, p', hz⟩ := I1.tuple hq
    exact callEnumT p' fun h' he hit hk => wpAny_pyIter_enum he ⟨_, _, _, _, H1, rfl, I1.kept (t' := s1.toks) hk, turn_enumT a _ _, ⟨⟨.none, he⟩, hit, Nat.succ_ne_self _⟩, fp2, q⟩
end L2.Dl
end

section
set_option maxRecDepth 100000
set_option maxHeartbeats 2000000
/-! zip of lists and tuples, in any mix; iterators as data. -/
namespace L2.Dl
open PySem PySem.Spec PyProof.Rows

def SqK (K : PySem.W.Frag) (H : Hp) (a : Addr) (xs : List V) : Bool → Prop
  | true => SqL K H a xs
  | false => SqT K H a xs
def ItAt (h : Heap) (it a : Addr) (i : Nat) : Bool → Prop
  | true => h.IsListIter it a i
  | false => h.IsTupleIter it a i
def SeqAt' (h : Heap) (a : Addr) (its : Array Value) : Bool → Prop
  | true => h.IsList a its
  | false => h.IsTuple a its
def itCell (a : Addr) : Bool → Obj
  | true => { cls := .type "list_iterator", data := .fields #[.ref a, .int 0 0] }
  | false => { cls := .type "tuple_iterator", data := .fields #[.ref a, .int 0 0] }
theorem beginsK (a : Addr) (its : Array Value) : ∀ k : Bool, Begins (.ref a) (itCell a k) fun h => SeqAt' h a its k
  | true => begins_list a its
  | false => begins_tuple a its
theorem drawsK {prog : Program} {w : World} {A : Around} (hh : A.handled = none) (it a : Addr) (ne : a ≠ it) (its : Array Value) : ∀ k : Bool, Draws prog w A it [it, a] its.size (fun i v => its[i]? = some v) (fun i h => ItAt h it a i k ∧ SeqAt' h a its k)
  | true => Draws.list hh it a ne its
  | false => Draws.tuple hh it a ne its
theorem ItAt.cell {h : Heap} {it a : Addr} {i : Nat} : ∀ {k : Bool}, ItAt h it a i k → ∃ o fs, h.get? it = some o ∧ o.data = .fields fs
  | true, ⟨o, e, _, d⟩ => ⟨o, _, e, d⟩
  | false, ⟨o, e, _, d⟩ => ⟨o, _, e, d⟩
theorem ItAt.at {h h' : Heap} {it a : Addr} {i : Nat} : ∀ {k : Bool}, ItAt h it a i k → (∀ o, h.get? it = some o → h'.get? it = some o) → ItAt h' it a i k
  | true, x, e => Heap.IsListIter.at x e
  | false, x, e => Heap.IsTupleIter.at x e
theorem itCell.start {h : Heap} {it a : Addr} : ∀ {k : Bool}, h.get? it = some (itCell a k) → ItAt h it a 0 k
  | true, e => ⟨_, e, rfl, rfl⟩
  | false, e => ⟨_, e, rfl, rfl⟩
theorem Inv.seqK {X : Cx} {pins : List (Addr × Obj)} {σ : St} {H : Hp} {s : Shared} {a : Addr} {xs : List V} (I : Inv X pins σ H s) : ∀ {k : Bool}, SqK X.K H a xs k → ∃ its : List Value, Vals xs its ∧ SeqAt' s.heap a its.toArray k ∧ a < s.heap.objs.size
  | true, h => by obtain ⟨its, r, p, _⟩ := I.list h; exact ⟨its, r, p.isList, p.lt⟩
  | false, h => by obtain ⟨its, r, p, _⟩ := I.tuple h; exact ⟨its, r, p, p.lt⟩
theorem Inv.seqK_inj {X : Cx} {pins : List (Addr × Obj)} {σ : St} {H : Hp} {s : Shared} {a : Addr} {xs ys : List V} (I : Inv X pins σ H s) : ∀ {k : Bool}, SqK X.K H a xs k → SqK X.K H a ys k → xs = ys
  | true, h, h' => I.list_inj h h'
  | false, h, h' => I.tuple_inj h h'
theorem five_le {N c : Nat} (h : c = N + 4 ∨ c = N + 2 ∨ c = N + 3 ∨ c = N ∨ c = N + 1) : N ≤ c := by omega
theorem five_lt {N c m : Nat} (h : c = N + 4 ∨ c = N + 2 ∨ c = N + 3 ∨ c = N ∨ c = N + 1) (hm : N + 4 < m) : c < m := by omega
theorem lt_nsucc {b N : Nat} (h : b < N) : b ≠ N + 1 := by omega
theorem add_ne {N i j : Nat} (h : i ≠ j) : N + i ≠ N + j := by omega
theorem ne_add {N j : Nat} (h : j ≠ 0) : N ≠ N + j := by omega
theorem add_ne0 {N j : Nat} (h : j ≠ 0) : N + j ≠ N := by omega
/-- what stands at a and b at each turn, in new pairs -/
def ItM (K : PySem.W.Frag) (a b : Addr) (ka kb : Bool) : It where
  go i H := ∃ (xs ys : List V) (x y : V), SqK K H a xs ka ∧ SqK K H b ys kb ∧ xs[i]? = some x ∧ ys[i]? = some y
  yld i H v H' := ∃ T x y, v = .ref T ∧ H T = none ∧ H' = upd H T (.tup [x, y]) ∧ (∀ xs, SqK K H a xs ka → xs[i]? = some x) ∧ ∀ ys, SqK K H b ys kb → ys[i]? = some y
  stop i H := ∃ xs ys : List V, SqK K H a xs ka ∧ SqK K H b ys kb ∧ i ≤ xs.length ∧ i ≤ ys.length ∧ (i = xs.length ∨ i = ys.length)
theorem turn_zipM {P : Program} {w : World} {K : PySem.W.Frag} {elts : List Expr} {kk : Nat} {tpos : Pos} {a b N : Addr} (ka kb : Bool) (la : a < N) (lb : b < N) :
    Turn P w K (.Tuple elts kk tpos) (ItM K a b ka kb) [N + 4, N + 2, N + 3, N, N + 1] (N + 4) (fun i h => IsZip h (N + 4) (N + 2) (N + 3) .none ∧ IsTupOf2 h (N + 2) (.ref N) (.ref (N + 1)) ∧ (∃ x y, IsTupOf2 h (N + 3) x y) ∧ ItAt h N a i ka ∧ ItAt h (N + 1) b i kb) where
  mem := List.mem_cons_self
  obj i h st c hc := by
    obtain ⟨hz, hTI, ⟨x, y, hTO⟩, h1, h2⟩ := st
    obtain ⟨o1, f1, e1, d1⟩ := h1.cell
    obtain ⟨o2, f2, e2, d2⟩ := h2.cell
    have hc' : c = N + 4 ∨ c = N + 2 ∨ c = N + 3 ∨ c = N ∨ c = N + 1 := by simpa using hc
    rcases hc' with q | q | q | q | q <;> rw [q]
    · exact ⟨_, hz, fun v q => nomatch q⟩
    · exact ⟨_, hTI, fun v q => nomatch q⟩
    · exact ⟨_, hTO, fun v q => nomatch q⟩
    · exact ⟨o1, e1, fun v q => by rw [d1] at q; cases q⟩
    · exact ⟨o2, e2, fun v q => by rw [d2] at q; cases q⟩
  keep i h h' st k := by
    obtain ⟨hz, hTI, ⟨x, y, hTO⟩, h1, h2⟩ := st
    exact ⟨k _ (by simp) _ hz, k _ (by simp) _ hTI, ⟨x, y, k _ (by simp) _ hTO⟩, h1.at fun o q => k _ (by simp) o q, h2.at fun o q => k _ (by simp) o q⟩
  item := by
    intro X hP hw hK hc i pins s σ H E I hf st hg
    subst hP hw hK
    obtain ⟨hz, hTI, ⟨x0, y0, hTO⟩, h1, h2⟩ := st
    obtain ⟨xs, ys, x, y, hqx, hqy, hx, hy⟩ := hg
    obtain ⟨its, rv, p, _⟩ := Inv.seqK I hqx
    obtain ⟨its2, rv2, p2, _⟩ := Inv.seqK I hqy
    obtain ⟨u, hu, ru⟩ := rv.get hx
    obtain ⟨u2, hu2, ru2⟩ := rv2.get hy
    have hzl : N + 4 < s.heap.objs.size := Heap.lt_size hz
    have n1 : i < its.toArray.size := by simpa using (List.getElem?_eq_some_iff.mp hu).1
    have n2 : i < its2.toArray.size := by simpa using (List.getElem?_eq_some_iff.mp hu2).1
    refine wpAny_pyNext_zipD2_item (zip_sep2 (fp1 := [a]) (fp2 := [b]) (by simpa using la) (by simpa using lb)) (drawsK (A := X.A.in1) (I.ok.hd hc) N a (Nat.ne_of_lt la) its.toArray ka) (drawsK (A := X.A.in1) (I.ok.hd hc) (N + 1) b (lt_nsucc lb) its2.toArray kb)
      hz hTI hTO ⟨h1, p⟩ ⟨h2, p2⟩ n1 n2 fun v1 v2 h' tk q1 q2 z' TO' s1' s2' hT hsz hk => ?_
    have e1 : v1 = u := by
      have : its.toArray[i]? = some u := by simpa using hu
      rw [this] at q1
      exact (Option.some.inj q1).symm
    have e2 : v2 = u2 := by
      have : its2.toArray[i]? = some u2 := by simpa using hu2
      rw [this] at q2
      exact (Option.some.inj q2).symm
    subst e1 e2
    refine ⟨_, rfl, wpAny_letOwnedTupleGo_zip (s := { s with heap := h', toks := tk }) z' fun h'' z'' sb => ?_⟩
    have ne4 : ∀ c, c ≠ N + 4 → ∀ o, h'.get? c = some o → h''.get? c = some o := fun c hc o q => (sb.2 c hc).trans q
    have hT2 := ne4 _ (Nat.ne_of_gt hzl) _ hT
    have new : ObjOk X.prog X.w (upd H s.heap.objs.size (.tup [x, y])) h'' s.heap.objs.size (.tup [x, y]) := ⟨by show 2 ≤ sizeLine; decide, [v1, v2], .cons ru (.cons ru2 .nil), ⟨_, hT2, rfl, _, rfl⟩⟩
    have I1 := I.turnedNew (t' := tk) (ch := [N + 4, N + 2, N + 3, N, N + 1]) (fun c o hb q => ne4 c (fun q' => hb (by simp [q'])) o (hk c o (fun q' => hb (by simp [q'])) (fun q' => hb (by simp [q'])) (fun q' => hb (by simp [q'])) (fun q' => hb (by simp [q'])) q)) hf (Nat.le_refl _) new
    refine ⟨.ref s.heap.objs.size, _, I1, rfl, ⟨_, x, y, rfl, I.hok.fresh (Nat.le_refl _), rfl, fun l hl => by rw [Inv.seqK_inj I hl hqx]; exact hx, fun l hl => by rw [Inv.seqK_inj I hl hqy]; exact hy⟩, ⟨z'', ?_, ⟨v1, v2, ?_⟩, ?_, ?_⟩, fun c hcm => ?_⟩
    · exact ne4 _ (add_ne (by decide)) _ (hk _ _ (add_ne (by decide)) (add_ne (by decide)) (add_ne0 (by decide)) (add_ne (by decide)) hTI)
    · exact ne4 _ (add_ne (by decide)) _ TO'
    · exact s1'.1.at fun o q => ne4 _ (ne_add (by decide)) o q
    · exact s2'.1.at fun o q => ne4 _ (add_ne (by decide)) o q
    · have hlt : c < s.heap.objs.size := by
        have hc' : c = N + 4 ∨ c = N + 2 ∨ c = N + 3 ∨ c = N ∨ c = N + 1 := by simpa using hcm
        exact five_lt hc' hzl
      rw [upd_ne (Nat.ne_of_lt hlt)]
      exact (hf c hcm).1
  done := by
    intro X hP hw hK hc i pins s σ H E I hf st hg
    subst hP hw hK
    obtain ⟨hz, hTI, ⟨x0, y0, hTO⟩, h1, h2⟩ := st
    obtain ⟨xs, ys, hqx, hqy, l1, l2, l3⟩ := hg
    obtain ⟨its, rv, p, _⟩ := Inv.seqK I hqx
    obtain ⟨its2, rv2, p2, _⟩ := Inv.seqK I hqy
    have z1 := rv.length
    have z2 := rv2.length
    exact wpAny_pyNext_zipD2_end (zip_sep2 (fp1 := [a]) (fp2 := [b]) (by simpa using la) (by simpa using lb)) (drawsK (A := X.A.in1) (I.ok.hd hc) N a (Nat.ne_of_lt la) its.toArray ka) (drawsK (A := X.A.in1) (I.ok.hd hc) (N + 1) b (lt_nsucc lb) its2.toArray kb)
      hz hTI hTO ⟨h1, p⟩ ⟨h2, p2⟩ (by simp; omega) (by simp; omega) (by rw [List.size_toArray, List.size_toArray, ← z1, ← z2]; exact l3) fun h' tk hk => ⟨rfl, I.turnedL (t' := tk) (ch := [N + 4, N + 2, N + 3, N, N + 1]) (fun c o hb q =>
        hk c o (fun q' => hb (by simp [q'])) (fun q' => hb (by simp [q'])) (fun q' => hb (by simp [q'])) (fun q' => hb (by simp [q'])) q) hf⟩
  self A i s Q E st h := wpAny_pyIter_zip st.1 h
def iZipM (K : PySem.W.Frag) (ta : TA) : TI := fun σ H R => ta σ H fun vs H1 => ∃ a b xs ys ka kb, vs = [.ref a, .ref b] ∧ SqK K H1 a xs ka ∧ SqK K H1 b ys kb ∧ R (ItM K a b ka kb) H1
theorem pi_zipM {X : Cx} {e e2 : Expr} {ta : TA} {p pos tpos : Pos} {elts : List Expr} {kk : Nat} (hg : Gl X "zip") (hm : X.mg "zip" = none) (ha : PA X [e, e2] ta)
    (hs : starEach [e, e2] X.env = (false, eval e X.env) :: starEach [e2] X.env := by rfl) (hpl : (backTo pos (starEach [e2] X.env)).any (·.1) = false := by rfl) :
    PI X (.Tuple elts kk tpos) (.Call (.Name "zip" p) [e, e2] [] pos) (iZipM X.K ta) := by
  refine ⟨fun pins s σ H R I h => ?_⟩
  refine Call_ (ld_blt I hg hm PyProof.Rows.boot_zip (PyProof.Rows.callWith_type1 (thn (ha.run pos pins s σ H _ I h) fun us s1 ⟨vs, H1, I1, r1, q1⟩ => ?_) hs hpl))
  obtain ⟨a, b, xs, ys, ka, kb, rfl, hqx, hqy, q⟩ := q1
  obtain ⟨v1, v2, rfl, e1, e2'⟩ := Vals.two r1
  cases e1
  cases e2'
  obtain ⟨its, rv, p1, la⟩ := Inv.seqK I1 hqx
  obtain ⟨its2, rv2, p2, lb⟩ := Inv.seqK I1 hqy
  refine zip_begins2 (beginsK a its.toArray ka) (beginsK b its2.toArray kb) p1 p2 fun h' hz hTI hTO h1 h2 hsz hk => wpAny_pyIter_zip hz ?_
  have I2 : Inv X pins σ H1 { s1 with heap := h' } := I1.kept (t' := s1.toks) hk
  refine ⟨_, _, _, _, H1, rfl, I2, turn_zipM ka kb la lb, ⟨hz, hTI, ⟨_, _, hTO⟩, itCell.start h1, itCell.start h2⟩, fun c hcm => ?_, q⟩
  have hc' : c = s1.heap.objs.size + 4 ∨ c = s1.heap.objs.size + 2 ∨ c = s1.heap.objs.size + 3 ∨ c = s1.heap.objs.size ∨ c = s1.heap.objs.size + 1 := by simpa using hcm
  have hle : s1.heap.objs.size ≤ c := five_le hc'
  exact I1.fpOk hle (I1.hok.fresh hle)
end L2.Dl
end

section
set_option maxRecDepth 100000
set_option maxHeartbeats 2000000
/-! Iterators as data: any sequence, enumerate, zip. -/
namespace L2.Dl
open PySem PySem.Spec PyProof.Rows

theorem pi_or {X : Cx} {tg iter : Expr} {t t' : TI} (h : PI X tg iter t) (h' : PI X tg iter t') : PI X tg iter (fun σ H R => t σ H R ∨ t' σ H R) :=
  ⟨fun pins s σ H R I q => q.elim (h.run pins s σ H R I) (h'.run pins s σ H R I)⟩
def itSeq (m : M D) : M (List D) := mBind m fun d => mOpt (seqOf d)
def enumD (l : List D) : List D := l.mapIdx fun i x => .tup [.int (i : Nat), x]
def enumA : List D → Option (List D)
  | [d] => (seqOf d).map enumD
  | _ => none
def zipD (l m : List D) : List D := (l.zip m).map fun p => .tup [p.1, p.2]
def zipA : List D → Option (List D)
  | [d, e] => (seqOf d).bind fun l => (seqOf e).map fun m => zipD l m
  | _ => none
section
variable {T : List (Addr × Str)} {X : Cx} {E : XK} {tg e e2 : Expr} {me : M D} {ml : M (List D)} {pos p tpos : Pos} {elts : List Expr} {kk : Nat} {g : G}
theorem gi_seq (h : GE T X E e me) : GI T X E tg e (itSeq me) :=
  ⟨pi_imp (pi_or (pi_list h.pe) (pi_tup h.pe)) fun σ H Q ⟨pa, ca, O, ρ, π, good, res⟩ => by
    cases z : me ρ π with
    | err c ns fs π1 => exact .inl ⟨pa, ca, O, ρ, π, good, by rw [z]; simp only [itSeq, mBind, z] at res; exact res⟩
    | bad => simp only [itSeq, mBind, z] at res; exact res.elim
    | ok d π1 =>
      simp only [itSeq, mBind, z, Out.bind] at res
      obtain ⟨l, e1, res2⟩ := Res.opt (o := seqOf d) res
      cases d with
      | lst l' =>
        cases e1
        refine .inl ⟨pa, ca, O, ρ, π, good, ?_⟩
        rw [z]
        intro v H1 s r
        obtain ⟨a, vs, rfl, ha, ra⟩ := R_lst.mp r
        exact ⟨a, rfl, ⟨vs, SqL.of (hide_some ha).2⟩, Res.ok res2 s ⟨_, r, fol_list (g := ⟨X.K, X.mg, pa⟩)⟩⟩
      | tup l' =>
        cases e1
        refine .inr ⟨pa, ca, O, ρ, π, good, ?_⟩
        rw [z]
        intro v H1 s r
        obtain ⟨a, vs, rfl, ha, ra⟩ := R_tup.mp r
        exact ⟨a, rfl, ⟨vs, SqT.of (hide_some ha).2⟩, Res.ok res2 s ⟨_, r, fol_tup (g := ⟨X.K, X.mg, pa⟩)⟩⟩
      | _ => cases e1⟩
/-- a sequence told as data: a list or a tuple -/
theorem R.seqK {H : Hp} {d : D} {l : List D} {v : V} (e : seqOf d = some l) (h : R g H d v) : ∃ (a : Addr) (k : Bool) (vs : List V), v = .ref a ∧ RL g H l vs ∧ ∀ (W : Addr → Prop) (H' : Hp), R g (hide W H') d (.ref a) → ∃ ws, SqK g.K H' a ws k ∧ RL g (hide W H') l ws := by
  cases d with
  | lst l' =>
    cases e
    obtain ⟨a, vs, rfl, ha, ra⟩ := R_lst.mp h
    refine ⟨a, true, vs, rfl, ra, fun W H' r => ?_⟩
    obtain ⟨b, ws, e1, hb, rb⟩ := R_lst.mp r
    cases e1
    exact ⟨ws, SqL.of (hide_some hb).2, rb⟩
  | tup l' =>
    cases e
    obtain ⟨a, vs, rfl, ha, ra⟩ := R_tup.mp h
    refine ⟨a, false, vs, rfl, ra, fun W H' r => ?_⟩
    obtain ⟨b, ws, e1, hb, rb⟩ := R_tup.mp r
    cases e1
    exact ⟨ws, SqT.of (hide_some hb).2, rb⟩
  | _ => cases e
theorem pair_new {W : Addr → Prop} {H : Hp} {T : Addr} {d e : D} {x y : V} (hT : H T = none) (hw : ∀ p, H p = none → ¬ W p) (r1 : R g (hide W H) d x) (r2 : R g (hide W H) e y) : Same H (upd H T (.tup [x, y])) ∧ R g (hide W (upd H T (.tup [x, y]))) (.tup [d, e]) (.ref T) :=
  ⟨same_upd hT, R_newT hT (hw T hT) (RL.cons r1 (RL.cons r2 RL.nil))⟩
theorem enumD_get {l : List D} {i : Nat} {x : D} (h : (enumD l)[i]? = some x) : ∃ y, l[i]? = some y ∧ x = .tup [.int (i : Nat), y] := by
  unfold enumD at h
  rw [List.getElem?_mapIdx] at h
  cases z : l[i]? with
  | none => rw [z] at h; cases h
  | some y => rw [z] at h; cases h; exact ⟨y, rfl, rfl⟩
theorem fol_enumL {a : Addr} {l : List D} : Fol g (Ite g.K a) (enumD l) (Led.d g (.lst l) (.ref a)) := fun W H hw hl i => by
  obtain ⟨b, vs, e, ha, ra⟩ := R_lst.mp (show R g (hide W H) (.lst l) (.ref a) from hl)
  cases e
  have hs : SqL g.K H a vs := SqL.of (hide_some ha).2
  refine ⟨fun x hx => ?_, fun hx => ⟨vs, hs, by rw [RL.length ra]; simp [enumD] at hx; exact Nat.le_of_eq hx⟩⟩
  obtain ⟨y, e1, rfl⟩ := enumD_get hx
  obtain ⟨v, e2, r1⟩ := RL.get ra e1
  refine ⟨⟨vs, v, hs, e2⟩, ?_⟩
  rintro v' H' ⟨T, x', rfl, hT, rfl, h2⟩
  have := h2 vs hs
  rw [e2] at this
  cases this
  exact pair_new hT hw (R_int.mpr rfl) r1
theorem fol_enumT {a : Addr} {l : List D} : Fol g (IteT g.K a) (enumD l) (Led.d g (.tup l) (.ref a)) := fun W H hw hl i => by
  obtain ⟨b, vs, e, ha, ra⟩ := R_tup.mp (show R g (hide W H) (.tup l) (.ref a) from hl)
  cases e
  have hs : SqT g.K H a vs := SqT.of (hide_some ha).2
  refine ⟨fun x hx => ?_, fun hx => ⟨vs, hs, by rw [RL.length ra]; simp [enumD] at hx; exact Nat.le_of_eq hx⟩⟩
  obtain ⟨y, e1, rfl⟩ := enumD_get hx
  obtain ⟨v, e2, r1⟩ := RL.get ra e1
  refine ⟨⟨vs, v, hs, e2⟩, ?_⟩
  rintro v' H' ⟨T, x', rfl, hT, rfl, h2⟩
  have := h2 vs hs
  rw [e2] at this
  cases this
  exact pair_new hT hw (R_int.mpr rfl) r1
theorem gi_enum (ha : GA T X E [e] ml) (hm : X.mg "enumerate" = none) (hg : Gl X "enumerate" := by rfl) (hs : starEach [e] X.env = [(false, eval e X.env)] := by rfl) :
    GI T X E (.Tuple elts kk tpos) (.Call (.Name "enumerate" p) [e] [] pos) (mBind ml fun l => mOpt (enumA l)) :=
  ⟨pi_imp (pi_enumA hg hm ha.pa hs) fun σ H Q ⟨pa, ca, O, ρ, π, good, res⟩ => ⟨pa, ca, O, ρ, π, good, Res.seq res fun l π1 vs H1 s r res1 => by
    obtain ⟨xs, e1, res2⟩ := Res.opt (o := enumA l) res1
    unfold enumA at e1
    split at e1
    · rename_i d
      obtain ⟨v, t, rfl, r1, r2⟩ := RL_cons.mp r
      obtain rfl := RL_nil.mp r2
      cases d with
      | lst l' =>
        cases e1
        obtain ⟨a, vs, rfl, ha, ra⟩ := R_lst.mp r1
        exact ⟨a, vs, rfl, .inl ⟨SqL.of (hide_some ha).2, Res.ok res2 (good.step s).step0 ⟨_, r1, fol_enumL (g := ⟨X.K, X.mg, pa⟩)⟩⟩⟩
      | tup l' =>
        cases e1
        obtain ⟨a, vs, rfl, ha, ra⟩ := R_tup.mp r1
        exact ⟨a, vs, rfl, .inr ⟨SqT.of (hide_some ha).2, Res.ok res2 (good.step s).step0 ⟨_, r1, fol_enumT (g := ⟨X.K, X.mg, pa⟩)⟩⟩⟩
      | _ => cases e1
    · cases e1⟩⟩
theorem fol_zip {a b : Addr} {d1 d2 : D} {l m : List D} {ka kb : Bool} (h1 : ∀ (W : Addr → Prop) (H' : Hp), R g (hide W H') d1 (.ref a) → ∃ ws, SqK g.K H' a ws ka ∧ RL g (hide W H') l ws)
    (h2 : ∀ (W : Addr → Prop) (H' : Hp), R g (hide W H') d2 (.ref b) → ∃ ws, SqK g.K H' b ws kb ∧ RL g (hide W H') m ws) : Fol g (ItM g.K a b ka kb) (zipD l m) ((Led.d g d1 (.ref a)).and (Led.d g d2 (.ref b))) := fun W H hw hl i => by
  obtain ⟨vs, s1, ra⟩ := h1 W H hl.1
  obtain ⟨ws, s2, rb⟩ := h2 W H hl.2
  have q1 := RL.length ra
  have q2 := RL.length rb
  refine ⟨fun x hx => ?_, fun hx => ⟨vs, ws, s1, s2, ?_⟩⟩
  · unfold zipD at hx
    rw [List.getElem?_map] at hx
    cases z : (l.zip m)[i]? with
    | none => rw [z] at hx; cases hx
    | some p =>
      rw [z] at hx
      cases hx
      obtain ⟨z1, z2⟩ := List.getElem?_zip_eq_some.mp z
      obtain ⟨v, e1, r1⟩ := RL.get ra z1
      obtain ⟨u, e2, r2⟩ := RL.get rb z2
      refine ⟨⟨vs, ws, v, u, s1, s2, e1, e2⟩, ?_⟩
      rintro v' H' ⟨T, x', y', rfl, hT, rfl, h3, h4⟩
      have t1 := h3 vs s1
      have t2 := h4 ws s2
      rw [e1] at t1
      rw [e2] at t2
      cases t1
      cases t2
      exact pair_new hT hw r1 r2
  · have : min l.length m.length = i := by simpa [zipD] using hx
    omega
theorem gi_zip (ha : GA T X E [e, e2] ml) (hm : X.mg "zip" = none) (hg : Gl X "zip" := by rfl) (hs : starEach [e, e2] X.env = (false, eval e X.env) :: starEach [e2] X.env := by rfl) (hpl : (backTo pos (starEach [e2] X.env)).any (·.1) = false := by rfl) :
    GI T X E (.Tuple elts kk tpos) (.Call (.Name "zip" p) [e, e2] [] pos) (mBind ml fun l => mOpt (zipA l)) :=
  ⟨pi_imp (pi_zipM hg hm ha.pa hs hpl) fun σ H Q ⟨pa, ca, O, ρ, π, good, res⟩ => ⟨pa, ca, O, ρ, π, good, Res.seq res fun l π1 vs H1 s r res1 => by
    obtain ⟨xs, e1, res2⟩ := Res.opt (o := zipA l) res1
    unfold zipA at e1
    split at e1
    · rename_i d1 d2
      obtain ⟨v, t, rfl, r1, r2⟩ := RL_cons.mp r
      obtain ⟨v2, t2, rfl, r3, r4⟩ := RL_cons.mp r2
      obtain rfl := RL_nil.mp r4
      cases z1 : seqOf d1 with
      | none => rw [z1] at e1; cases e1
      | some l1 =>
        cases z2 : seqOf d2 with
        | none => rw [z1, z2] at e1; cases e1
        | some l2 =>
          rw [z1, z2] at e1
          cases e1
          obtain ⟨a, ka, vs1, rfl, _, f1⟩ := R.seqK z1 r1
          obtain ⟨b, kb, vs2, rfl, _, f2⟩ := R.seqK z2 r3
          obtain ⟨w1, s1, _⟩ := f1 _ _ r1
          obtain ⟨w2, s2, _⟩ := f2 _ _ r3
          exact ⟨a, b, w1, w2, ka, kb, rfl, s1, s2, Res.ok res2 (good.step s).step0 ⟨(Led.d ⟨X.K, X.mg, pa⟩ d1 (.ref a)).and (Led.d ⟨X.K, X.mg, pa⟩ d2 (.ref b)), ⟨r1, r3⟩, fol_zip (g := ⟨X.K, X.mg, pa⟩) f1 f2⟩⟩
    · cases e1⟩⟩
end
end L2.Dl
end

section
set_option maxRecDepth 100000
set_option maxHeartbeats 2000000
/-! List comprehensions over data. -/
namespace L2.Dl
open PySem PySem.Spec PyProof.Rows

/-- no exception is wished -/
abbrev EN : XK := fun _ _ _ => False
def wipeR (ρ : Rho) : List Nat → Rho
  | [] => ρ
  | v :: vs => (wipeR ρ vs).set v .no
def lcGo (f : D → Rho → Option Rho) (tt : M Bool) (te : M D) (ρ0 : Rho) : List D → Pen → Out (List D)
  | [], π => .ok [] π
  | x :: xs, π => match f x ρ0 with
    | none => .bad
    | some ρ1 => match tt ρ1 π with
      | .ok true π1 => match te ρ1 π1 with
        | .ok y π2 => match lcGo f tt te ρ0 xs π2 with
          | .ok r π3 => .ok (y :: r) π3
          | _ => .bad
        | _ => .bad
      | .ok false π1 => lcGo f tt te ρ0 xs π1
      | _ => .bad
def mLc (it : M (List D)) (f : D → Rho → Option Rho) (tt : M Bool) (te : M D) (vs : List Nat) : M Own := mBind it fun xs ρ π => if xs.length ≤ sizeLine then (match lcGo f tt te (wipeR ρ vs) xs π with
  | .ok l π2 => .ok (.lst l) π2
  | _ => .bad) else .bad
section
variable {T : List (Addr × Str)} {g : G} {ca : Addr} {O O' : Addr → Prop} {H H1 : Hp} {Λ : Led} {σ σ' : St} {ρ ρ' : Rho} {π π1 : Pen}
/-- a state of slots, told as one of statements -/
theorem Good.toS (h : Good T g ca O σ H ρ π) (l : Λ.P (hide (WW O σ ρ) H)) : GoodS T g ca O (hide (ownd σ ρ) H) Λ σ H ρ π where
  good := h
  sub := fun b o _ e _ => (hide_some e).2
  osm := fun b hb _ => (hide_of fun w => h.dj b w hb).symm
  fr := fun b w o e => by rw [hide_in w] at e; cases e
  led := l
theorem Good.wipe1 (h : Good T g ca O σ H ρ π) (v : Nat) : ∃ O', (∀ b, O b → O' b) ∧ (∀ b, WW O' (σ.set v none) (ρ.set v .no) b ↔ WW O σ ρ b) ∧ Good T g ca O' (σ.set v none) H (ρ.set v .no) π := by
  have ol : ∀ (j : Nat) b, (σ.set v none)[j]? = some (some (.ref b)) → isO (ρ.set v .no)[j]? → v ≠ j ∧ σ[j]? = some (some (.ref b)) ∧ isO ρ[j]? := fun j b h1 h2 => by
    have hj := isO_set (r := .no) (fun z => z) h2
    rw [List.getElem?_set_ne (Ne.symm hj)] at h1 h2
    exact ⟨Ne.symm hj, h1, h2⟩
  have ow : ∀ b, ownd (σ.set v none) (ρ.set v .no) b → ownd σ ρ b := fun b ⟨j, h1, h2⟩ => ⟨j, (ol j b h1 h2).2⟩
  have ww : ∀ b, WW (fun b => O b ∨ (ownd σ ρ b ∧ ¬ ownd (σ.set v none) (ρ.set v .no) b)) (σ.set v none) (ρ.set v .no) b ↔ WW O σ ρ b := fun b => by
    constructor
    · rintro ((w | w) | w)
      · exact .inl w
      · exact .inr w.1
      · exact .inr (ow b w)
    · rintro (w | w)
      · exact .inl (.inl w)
      · by_cases q : ownd (σ.set v none) (ρ.set v .no) b
        · exact .inr q
        · exact .inl (.inr ⟨w, q⟩)
  refine ⟨_, fun b w => .inl w, ww, h.pen, .inl h.po, .inl h.co, h.tab, fun b w => ?_, by rw [List.length_set, List.length_set]; exact h.len, fun j => ?_, fun j k b h1 h2 h3 h4 => h.inj j k b (ol j b h1 h2).2.1 (ol j b h1 h2).2.2 (ol k b h3 h4).2.1 (ol k b h3 h4).2.2, fun b w o => ?_⟩
  · rcases w with w | w
    · exact h.al b w
    · exact h.wlive (.inr w.1)
  · by_cases hj : v = j
    · subst hj
      by_cases hl : v < ρ.length
      · rw [List.getElem?_set_self hl]; trivial
      · rw [List.getElem?_eq_none (l := ρ.set v .no) (by simpa using hl)]; trivial
    · rw [List.getElem?_set_ne hj, List.getElem?_set_ne hj]
      exact (h.sl j).ext (hide_mono fun b w => (ww b).mp w)
  · rcases o with o | o
    · exact h.dj b (ow b w) o
    · exact o.2 w
theorem Good.wipe (h : Good T g ca O σ H ρ π) : ∀ vs : List Nat, ∃ O', (∀ b, O b → O' b) ∧ (∀ b, WW O' (wipe σ vs) (wipeR ρ vs) b ↔ WW O σ ρ b) ∧ Good T g ca O' (wipe σ vs) H (wipeR ρ vs) π
  | [] => ⟨O, fun _ w => w, fun _ => Iff.rfl, h⟩
  | v :: vs => by
    obtain ⟨O1, a1, b1, g1⟩ := h.wipe vs
    obtain ⟨O2, a2, b2, g2⟩ := g1.wipe1 v
    exact ⟨O2, fun b w => a2 b (a1 b w), fun b => (b2 b).trans (b1 b), g2⟩
/-- one more object is hidden: a new one -/
theorem Good.addO (h : Good T g ca O σ H ρ π) (s : Step T g ca (WW O σ ρ) H H1 π1) {p : Addr} (wf : Wf H p) (nw : ¬ WW O σ ρ p) (l : LD (H1 p)) : Good T g ca (fun b => O b ∨ b = p) σ H1 ρ π1 := by
  have h1 := h.step s
  have ex : Ext (hide (WW O σ ρ) H) (hide (WW (fun b => O b ∨ b = p) σ ρ) H1) := fun b o q n => by
    obtain ⟨e1, e2⟩ := hide_some q
    rw [hide_of]
    · exact s.ext b o e1 e2 n
    · rintro ((w | rfl) | w)
      · exact e1 (.inl w)
      · obtain ⟨ps, z⟩ := wf o e2; exact n ps z
      · exact e1 (.inr w)
  refine ⟨h1.pen, .inl h.po, .inl h.co, h1.tab, fun b w => ?_, h.len, fun i => ?_, h.inj, fun b w o => ?_⟩
  · rcases w with w | rfl
    · exact h1.al b w
    · exact l
  · have q := h.sl i
    cases z : ρ[i]? with
    | none => trivial
    | some r =>
      rw [z] at q
      cases r with
      | no => trivial
      | sh d => obtain ⟨v, e1, e2⟩ := q; exact ⟨v, e1, R.ext ex d e2⟩
      | ow k =>
        obtain ⟨a, e1, e2, e3⟩ := q
        have w : ownd σ ρ a := ⟨i, e1, by rw [z]; trivial⟩
        refine ⟨a, e1, ?_, e3⟩
        rw [s.own a (.inr w) (h.npa w)]
        exact e2.ext ex
  · rcases o with o | rfl
    · exact h.dj b w o
    · exact nw (.inr w)
/-- a hidden object that is no slot's is changed -/
theorem Good.updO (h : Good T g ca O σ H ρ π) {p : Addr} {o : HO} (hp : O p) (n1 : p ≠ g.pa) (n2 : p ≠ ca) (l : LD (some o)) : Good T g ca O σ (upd H p o) ρ π := by
  have no : ∀ b, ownd σ ρ b → b ≠ p := fun b w z => h.dj b w (by rw [z]; exact hp)
  refine ⟨⟨by rw [upd_ne (Ne.symm n1)]; exact h.pen.dict, by rw [upd_ne (Ne.symm n2)]; exact h.pen.cells⟩, h.po, h.co, tabs_upd h.tab (h.al p hp), fun b w => ?_, h.len, fun i => ?_, h.inj, h.dj⟩
  · by_cases e : b = p
    · subst e; rw [upd_same]; exact l
    · rw [upd_ne e]; exact h.al b w
  · rw [hide_upd (.inl hp)]
    have q := h.sl i
    cases z : ρ[i]? with
    | none => trivial
    | some r =>
      rw [z] at q
      cases r with
      | no => trivial
      | sh d => exact q
      | ow k =>
        obtain ⟨a, e1, e2, e3⟩ := q
        refine ⟨a, e1, ?_, e3⟩
        rw [upd_ne (no a ⟨i, e1, by rw [z]; trivial⟩)]
        exact e2
end
theorem wipe_off {σ σ' : St} : ∀ {vs : List Nat}, Off vs σ σ' → wipe σ' vs = wipe σ vs := fun {vs} o => by
  have key : ∀ (ws : List Nat) (j : Nat), j ∉ ws → (wipe σ' ws)[j]? = σ'[j]? ∧ (wipe σ ws)[j]? = σ[j]? := fun ws => by
    induction ws with
    | nil => exact fun j _ => ⟨rfl, rfl⟩
    | cons w ws ih =>
      intro j hj
      have h1 : w ≠ j := fun z => hj (by rw [z]; exact List.mem_cons_self)
      have h2 := ih j fun z => hj (List.mem_cons_of_mem _ z)
      unfold L2.wipe
      rw [List.getElem?_set_ne h1, List.getElem?_set_ne h1]
      exact h2
  have in_ : ∀ (ws : List Nat) (j : Nat), j ∈ ws → (wipe σ' ws)[j]? = (wipe σ ws)[j]? := fun ws => by
    induction ws with
    | nil => intro j h; cases h
    | cons w ws ih =>
      intro j hj
      unfold L2.wipe
      by_cases h1 : w = j
      · subst h1
        by_cases hl : w < σ.length
        · rw [List.getElem?_set_self (by rw [wipe_length, o.len]; exact hl), List.getElem?_set_self (by rw [wipe_length]; exact hl)]
        · rw [List.getElem?_eq_none (by rw [List.length_set, wipe_length, o.len]; omega), List.getElem?_eq_none (by rw [List.length_set, wipe_length]; omega)]
      · rw [List.getElem?_set_ne h1, List.getElem?_set_ne h1]
        rcases List.mem_cons.mp hj with e | hj
        · exact absurd e.symm h1
        · exact ih j hj
  apply List.ext_getElem?
  intro j
  by_cases hj : j ∈ vs
  · exact in_ vs j hj
  · rw [(key vs j hj).1, (key vs j hj).2]
    exact o.eq j hj
theorem wipe_idem {σ : St} {vs : List Nat} : wipe (wipe σ vs) vs = wipe σ vs := by
  have key : ∀ (ws : List Nat) (τ : St) (j : Nat), j ∉ ws → (wipe τ ws)[j]? = τ[j]? := fun ws => by
    induction ws with
    | nil => exact fun _ j _ => rfl
    | cons w ws ih =>
      intro τ j hj
      have h1 : w ≠ j := fun z => hj (by rw [z]; exact List.mem_cons_self)
      unfold L2.wipe
      rw [List.getElem?_set_ne h1]
      exact ih τ j fun z => hj (List.mem_cons_of_mem _ z)
  exact wipe_off ⟨wipe_length _ _, fun j hj => key vs σ j hj⟩
theorem wipeR_no {ρ : Rho} : ∀ {vs : List Nat} {j : Nat}, j ∈ vs → ¬ isO (wipeR ρ vs)[j]?
  | v :: vs, j, h, z => by
    unfold wipeR at z
    have hj := isO_set (r := .no) (fun z => z) z
    rw [List.getElem?_set_ne (Ne.symm hj)] at z
    rcases List.mem_cons.mp h with e | h
    · exact hj e
    · exact wipeR_no h z
structure GTs (T : List (Addr × Str)) (X : Cx) (E : XK) (ifs : List Expr) (m : M Bool) : Prop where
  pts : PTs X ifs (tOf X.K X.mg T (fun _ _ => relT) E m)
section
variable {T : List (Addr × Str)} {X : Cx} {E : XK} {elt tg iter c : Expr} {ifs : List Expr} {scope : Scope} {own : List (Str × Nat)} {pos : Pos} {js : List Nat} {f : D → Rho → Option Rho} {it : M (List D)} {tt : M Bool} {te : M D}
theorem pts_imp {t t' : TT} (h : PTs X ifs t) (i : ∀ σ H Q, t' σ H Q → t σ H Q) : PTs X ifs t' := ⟨fun pins s σ H Q I q => h.run pins s σ H Q I (i σ H Q q)⟩
theorem gts_nil : GTs T X E [] (mOk true) := ⟨pts_imp pts_nil fun σ H Q ⟨pa, ca, O, ρ, π, good, res⟩ => Res.ok res good.step0 rfl⟩
theorem gts_one (h : GT T X E c tt) : GTs T X E [c] tt := ⟨pts_one h.pt⟩
theorem lcGo_ok {ρ0 : Rho} {x : D} {xs l : List D} {π πe : Pen} (h : lcGo f tt te ρ0 (x :: xs) π = .ok l πe) : ∃ ρ1 b π1, f x ρ0 = some ρ1 ∧ tt ρ1 π = .ok b π1 ∧ ((b = true ∧ ∃ y π2 r, te ρ1 π1 = .ok y π2 ∧ lcGo f tt te ρ0 xs π2 = .ok r πe ∧ l = y :: r) ∨ (b = false ∧ lcGo f tt te ρ0 xs π1 = .ok l πe)) := by
  unfold lcGo at h
  cases z1 : f x ρ0 with
  | none => rw [z1] at h; cases h
  | some ρ1 =>
    rw [z1] at h
    simp only at h
    cases z2 : tt ρ1 π with
    | err _ _ _ _ => rw [z2] at h; cases h
    | bad => rw [z2] at h; cases h
    | ok b π1 =>
      rw [z2] at h
      refine ⟨ρ1, b, π1, rfl, z2, ?_⟩
      cases b with
      | false => exact .inr ⟨rfl, h⟩
      | true =>
        refine .inl ⟨rfl, ?_⟩
        simp only at h
        cases z3 : te ρ1 π1 with
        | err _ _ _ _ => rw [z3] at h; cases h
        | bad => rw [z3] at h; cases h
        | ok y π2 =>
          rw [z3] at h
          simp only at h
          cases z4 : lcGo f tt te ρ0 xs π2 with
          | err _ _ _ _ => rw [z4] at h; cases h
          | bad => rw [z4] at h; cases h
          | ok r π3 =>
            rw [z4] at h
            cases h
            exact ⟨y, π2, r, rfl, z4, rfl⟩
theorem lc_data (hjs : ∀ j ∈ js, j ∈ own.map (·.2))
    (hoff : ∀ d ρ ρ', f d ρ = some ρ' → OffR js ρ ρ') {wi : TI} {σ : St} {H : Hp} {Q : VK} {pa : Addr × Addr} {ca : Addr} {O : Addr → Prop} {ρ : Rho} {π : Pen} {gT : TG} {tT : TT} {eT : TE}
    (hwi : ∀ σ H R, (∃ (pa : Addr × Addr) (ca : Addr) (O : Addr → Prop) (ρ : Rho) (π : Pen), Good T ⟨X.K, X.mg, pa⟩ ca O σ H ρ π ∧ Res (relI ⟨X.K, X.mg, pa⟩ (WW O σ ρ)) T ⟨X.K, X.mg, pa⟩ ca (WW O σ ρ) H (it ρ π) R E) → wi σ H R)
    (hg : ∀ v σ H Q, (∃ (pa : Addr × Addr) (ca : Addr) (O : Addr → Prop) (H0 : Hp) (Λ : Led) (ρ : Rho) (π : Pen) (d : D) (ρ' : Rho), GoodS T ⟨X.K, X.mg, pa⟩ ca O H0 Λ σ H ρ π ∧
      R ⟨X.K, X.mg, pa⟩ (hide (WW O σ ρ) H) d v ∧ f d ρ = some ρ' ∧ ∀ σ', GoodS T ⟨X.K, X.mg, pa⟩ ca O H0 Λ σ' H ρ' π → Off js σ σ' → Q σ' H) → gT v σ H Q)
    (ht : ∀ σ H Q, tOf X.K X.mg T (fun _ _ => relT) EN tt σ H Q → tT σ H Q) (he : ∀ σ H Q, tOf X.K X.mg T relD EN te σ H Q → eT σ H Q)
    (good : Good T ⟨X.K, X.mg, pa⟩ ca O σ H ρ π) (res : Res (relF ⟨X.K, X.mg, pa⟩ (WW O σ ρ) H) T ⟨X.K, X.mg, pa⟩ ca (WW O σ ρ) H (mLc it f tt te (own.map (·.2)) ρ π) Q E) :
    tLc wi gT tT eT (own.map (·.2)) σ H Q := by
  refine hwi σ H _ ⟨pa, ca, O, ρ, π, good, Res.seq res fun xs π1 J H1 s1 ⟨Λi, l1, fol⟩ res1 => ?_⟩
  simp only at res1
  split at res1
  case isFalse => exact res1.elim
  rename_i hsz
  cases z : lcGo f tt te (wipeR ρ (own.map (·.2))) xs π1 with
  | err _ _ _ _ => rw [z] at res1; exact res1.elim
  | bad => rw [z] at res1; exact res1.elim
  | ok l πe =>
    rw [z] at res1
    simp only at res1
    intro p hp
    have g1 := good.step s1
    have np : ¬ WW O σ ρ p := g1.fresh hp
    have npa : p ≠ pa.1 := fun e => by
      have := g1.pen.dict
      rw [show (⟨X.K, X.mg, pa⟩ : G).pa = pa.1 from rfl, ← e, hp] at this
      cases this
    have nca : p ≠ ca := fun e => by
      have := g1.pen.cells
      rw [← e, hp] at this
      cases this
    obtain ⟨O1, a1, b1, gw⟩ := g1.wipe (own.map (·.2))
    have ew : WW O1 (wipe σ (own.map (·.2))) (wipeR ρ (own.map (·.2))) = WW O σ ρ := by funext b; exact propext (b1 b)
    have wf1 : Wf H1 p := fun o e => by rw [hp] at e; cases e
    have wf : Wf H p := fun o e => by
      by_cases ht : ∃ ps, o = .tbl ps
      · exact ht
      · have := s1.ext p o np e fun ps q => ht ⟨ps, q⟩
        rw [hp] at this
        cases this
    have gD := gw.addO (H1 := upd H1 p (.lst [])) (π1 := π1) (p := p) (by rw [ew]; exact g1.same (same_upd hp)) wf1 (by rw [ew]; exact np) (by rw [upd_same]; trivial)
    have ew2 : WW (fun b => O1 b ∨ b = p) (wipe σ (own.map (·.2))) (wipeR ρ (own.map (·.2))) = fun b => WW O σ ρ b ∨ b = p := by
      funext b
      rw [← ew]
      refine propext ⟨?_, ?_⟩
      · rintro ((w | w) | w)
        · exact .inl (.inl w)
        · exact .inr w
        · exact .inl (.inr w)
      · rintro ((w | w) | w)
        · exact .inl (.inl w)
        · exact .inr w
        · exact .inl (.inr w)
    refine ⟨fun i m H2 => i + m = xs.length ∧ ∃ acc vs r π2, Good T ⟨X.K, X.mg, pa⟩ ca (fun b => O1 b ∨ b = p) (wipe σ (own.map (·.2))) H2 (wipeR ρ (own.map (·.2))) π2 ∧ H2 p = some (.lst vs) ∧ RL ⟨X.K, X.mg, pa⟩ (hide (fun b => WW O σ ρ b ∨ b = p) H2) acc vs ∧ vs.length ≤ i ∧
        Λi.P (hide (fun b => WW O σ ρ b ∨ b = p) H2) ∧ Step T ⟨X.K, X.mg, pa⟩ ca (WW O σ ρ) H1 H2 π2 ∧ lcGo f tt te (wipeR ρ (own.map (·.2))) (xs.drop i) π2 = .ok r πe ∧ acc ++ r = l, ⟨xs.length, Nat.zero_add _, [], [], l, π1, gD, upd_same, RL.nil, Nat.le_refl _, ?_, ?_, z, rfl⟩, ?_⟩
    · refine Λi.mono ?_ l1
      intro b o q n
      obtain ⟨e1, e2⟩ := hide_some q
      have hb : b ≠ p := ne_of_none e2 hp
      rw [hide_of fun w => w.elim e1 hb, upd_ne hb]
      exact e2
    · exact g1.same (same_upd hp)
    rintro i m H2 ⟨hm, acc, vs, r, π2, g2, hD, ra, hl, l2, st, hgo, hcat⟩
    have fl := fol (fun b => WW O σ ρ b ∨ b = p) H2 (fun q hq => by have := g2.fresh hq; rw [ew2] at this; exact this) l2 i
    by_cases hi : i < xs.length
    · obtain ⟨go, yl⟩ := fl.1 xs[i] (List.getElem?_eq_getElem hi)
      rw [List.drop_eq_getElem_cons hi] at hgo
      obtain ⟨ρ1, bb, π3, hf, htt, hor⟩ := lcGo_ok hgo
      refine .inr ⟨go, fun H3 => ∃ acc vs r π2, Good T ⟨X.K, X.mg, pa⟩ ca (fun b => O1 b ∨ b = p) (wipe σ (own.map (·.2))) H3 (wipeR ρ (own.map (·.2))) π2 ∧ H3 p = some (.lst vs) ∧ RL ⟨X.K, X.mg, pa⟩ (hide (fun b => WW O σ ρ b ∨ b = p) H3) acc vs ∧ vs.length ≤ i + 1 ∧
        Λi.P (hide (fun b => WW O σ ρ b ∨ b = p) H3) ∧ Step T ⟨X.K, X.mg, pa⟩ ca (WW O σ ρ) H1 H3 π2 ∧ lcGo f tt te (wipeR ρ (own.map (·.2))) (xs.drop (i + 1)) π2 = .ok r πe ∧ acc ++ r = l, fun H3 h3 => ⟨m - 1, by omega, by omega, h3⟩, fun v H3 hy => ?_⟩
      obtain ⟨hs3, hr3⟩ := yl v H3 hy
      have g3 := g2.step (g2.same hs3)
      have s3 := g2.same hs3
      refine hg v _ H3 _ ⟨pa, ca, _, _, Led.top, _, π2, xs[i], ρ1, g3.toS (Λ := Led.top) trivial, by rw [ew2]; exact hr3, hf, fun σ4 g4 o4 => ?_⟩
      have off := hoff _ _ _ hf
      have hw4 : wipe σ4 (own.map (·.2)) = wipe σ (own.map (·.2)) := by
        have : Off (own.map (·.2)) (wipe σ (own.map (·.2))) σ4 := ⟨o4.len, fun j hj => o4.eq j fun q => hj (hjs j q)⟩
        rw [wipe_off this, wipe_idem]
      have ew4 : WW (fun b => O1 b ∨ b = p) σ4 ρ1 = fun b => WW O σ ρ b ∨ b = p := by
        rw [← ew2]
        funext b
        refine propext (or_congr Iff.rfl ⟨?_, ?_⟩)
        · rintro ⟨j, h1, h2⟩
          by_cases hj : j ∈ js
          · exact absurd h2 (off.no j hj)
          · exact ⟨j, by rw [← o4.eq j hj]; exact h1, by rw [← off.eq j hj]; exact h2⟩
        · rintro ⟨j, h1, h2⟩
          have hj : j ∉ js := fun q => wipeR_no (hjs j q) h2
          exact ⟨j, by rw [o4.eq j hj]; exact h1, by rw [off.eq j hj]; exact h2⟩
      have stepW : ∀ {Ha Hb : Hp} {πb : Pen}, Step T ⟨X.K, X.mg, pa⟩ ca (fun b => WW O σ ρ b ∨ b = p) Ha Hb πb → (∃ o, Ha p = some o ∧ ∀ ps, o ≠ .tbl ps) → Step T ⟨X.K, X.mg, pa⟩ ca (WW O σ ρ) Ha Hb πb := fun {Ha Hb πb} s ⟨o, e1, e2⟩ => by
        refine ⟨fun b o' hb e n => ?_, fun b hb n => s.own b (.inl hb) n, s.pen, s.tab⟩
        by_cases q : b = p
        · subst q
          rw [s.own b (.inr rfl) npa]
          exact e
        · exact s.ext b o' (fun w => w.elim hb q) e n
      have hD3 : H3 p = some (.lst vs) := hs3 p _ hD
      have l3 : Λi.P (hide (fun b => WW O σ ρ b ∨ b = p) H3) := Λi.mono (by rw [← ew2]; exact s3.hid) l2
      have ra3 : RL ⟨X.K, X.mg, pa⟩ (hide (fun b => WW O σ ρ b ∨ b = p) H3) acc vs := RL.ext (by rw [← ew2]; exact s3.hid) _ ra
      have st3 : Step T ⟨X.K, X.mg, pa⟩ ca (WW O σ ρ) H1 H3 π2 := st.trans (stepW (by rw [← ew2]; exact s3) ⟨_, hD, fun ps q => by cases q⟩)
      refine ⟨hw4, ht σ4 H3 _ ⟨pa, ca, _, ρ1, π2, g4.good, ?_⟩⟩
      rw [htt]
      intro b' H4 s4 hb'
      have hb' : bb = b' := hb'
      subst hb'
      rw [ew4] at s4
      have hD4 : H4 p = some (.lst vs) := (s4.own p (.inr rfl) npa).trans hD3
      have l4 : Λi.P (hide (fun b => WW O σ ρ b ∨ b = p) H4) := Λi.mono s4.hid l3
      have ra4 := RL.ext s4.hid _ ra3
      have st4 := st3.trans (stepW s4 ⟨_, hD3, fun ps q => by cases q⟩)
      have g4' : Good T ⟨X.K, X.mg, pa⟩ ca (fun b => O1 b ∨ b = p) (wipe σ (own.map (·.2))) H4 (wipeR ρ (own.map (·.2))) π3 := g3.step (by rw [ew2]; exact s4)
      rcases hor with ⟨rfl, y, π4, r', hte, hgo', rfl⟩ | ⟨rfl, hgo'⟩
      · refine he σ4 H4 _ ⟨pa, ca, _, ρ1, π3, g4.good.step (by rw [ew4]; exact s4), ?_⟩
        rw [hte]
        intro yv H5 s5 ry
        rw [ew4] at s5
        have ry : R ⟨X.K, X.mg, pa⟩ (hide (WW (fun b => O1 b ∨ b = p) σ4 ρ1) H5) y yv := ry
        rw [ew4] at ry
        have hD5 : H5 p = some (.lst vs) := (s5.own p (.inr rfl) npa).trans hD4
        refine ⟨vs, hD5, by omega, acc ++ [y], vs ++ [yv], r', π4, ?_, upd_same, ?_, by simp; omega, ?_, ?_, hgo', by rw [List.append_assoc]; exact hcat⟩
        · exact (g4'.step (by rw [ew2]; exact s5)).updO (.inr rfl) npa nca trivial
        · rw [hide_upd (.inr rfl)]
          exact RL.append (RL.ext s5.hid _ ra4) (RL.cons ry RL.nil)
        · rw [hide_upd (.inr rfl)]
          exact Λi.mono s5.hid l4
        · have s6 := st4.trans (stepW s5 ⟨_, hD4, fun ps q => by cases q⟩)
          refine ⟨fun b o hb e n => ?_, fun b hb n => ?_, ?_, ?_⟩
          · by_cases q : b = p
            · subst q
              rw [hp] at e
              cases e
            · rw [upd_ne q]
              exact s6.ext b o hb e n
          · have q : b ≠ p := fun q => np (q ▸ hb)
            rw [upd_ne q]
            exact s6.own b hb n
          · exact ⟨by rw [upd_ne (Ne.symm npa)]; exact s6.pen.dict, by rw [upd_ne (Ne.symm nca)]; exact s6.pen.cells⟩
          · exact tabs_upd s6.tab (by rw [hD5]; trivial)
      · exact ⟨acc, vs, r, π3, g4', hD4, ra4, by omega, l4, st4, hgo', hcat⟩
    · have h0 : xs.drop i = [] := List.drop_eq_nil_of_le (by omega)
      rw [h0] at hgo
      cases hgo
      rw [List.append_nil] at hcat
      subst hcat
      exact .inl ⟨fl.2 (by omega), res1 _ _ st ⟨p, rfl, wf, np, ⟨vs, hD, ra⟩, trivial⟩⟩
end
end L2.Dl
end

section
set_option maxRecDepth 100000
set_option maxHeartbeats 2000000
/-! Comprehensions as expressions; own lists: made, appended, stored into. -/
namespace L2.Dl
open PySem PySem.Spec PyProof.Rows

section
variable {T : List (Addr × Str)} {X : Cx} {E : XK} {elt tg iter c e : Expr} {ifs : List Expr} {scope : Scope} {own : List (Str × Nat)} {pos spos : Pos} {js : List Nat} {f : D → Rho → Option Rho} {it : M (List D)} {tt : M Bool} {te : M D}
theorem gf_lc (own : List (Str × Nat)) (hc : X.calm = true) (hN : X.N.Nodup) (hi : GI T X E tg iter it) (ok : BlkOk X.N X.env.scope scope own)
    (hg : ∀ (s : Shared) (H : Hp) (C : Addr) (cl : List (Str × Addr)) (fp : List Addr), GTg T (X.blk s H scope (compEnvC scope cl C X.env) fp) tg js f) (ht : ∀ (s : Shared) (H : Hp) (C : Addr) (cl : List (Str × Addr)) (fp : List Addr), GTs T (X.blk s H scope (compEnvC scope cl C X.env) fp) EN ifs tt)
    (he : ∀ (s : Shared) (H : Hp) (C : Addr) (cl : List (Str × Addr)) (fp : List Addr), GE T (X.blk s H scope (compEnvC scope cl C X.env) fp) EN elt te) (hjs : ∀ j ∈ js, j ∈ own.map (·.2)) (hs : ∀ x, foldedSetIterable iter X.env x = pure x := by intro _; rfl) :
    GF T X E (.ListComp elt [⟨tg, iter, ifs, 0⟩] scope pos) (mLc it f tt te (own.map (·.2))) :=
  ⟨pe_imp (pe_lc hc hN hi.pi ok (fun s H C cl fp => (hg s H C cl fp).pg) (fun s H C cl fp => (ht s H C cl fp).pts) (fun s H C cl fp => (he s H C cl fp).pe) hs) fun σ H Q ⟨pa, ca, O, ρ, π, good, res⟩ =>
    lc_data hjs (hg X.s_0 X.H_0 0 [] []).off (fun _ _ _ q => q) (fun _ _ _ _ q => q) (fun _ _ _ q => q) (fun _ _ _ q => q) good res⟩
/-- name = [..] on one line -/
theorem gs_setLcO (i : Nat) {y : Str} {py : Pos} (own : List (Str × Nat)) (hc : X.calm = true) (hN : X.N.Nodup) (hy : X.N[i]? = some y) (hyl : X.env.scope.names.lookup y = some .local)
    (hsw : swapsWith (.ListComp elt [⟨tg, iter, ifs, 0⟩] scope pos) (some (.Name y py)) spos.line X.env = pure true) (hi : GI T X E tg iter it) (ok : BlkOk X.N X.env.scope scope own)
    (hg : ∀ (s : Shared) (H : Hp) (C : Addr) (cl : List (Str × Addr)) (fp : List Addr), GTg T (X.blk s H scope (compEnvC scope cl C X.env) fp) tg js f) (ht : ∀ (s : Shared) (H : Hp) (C : Addr) (cl : List (Str × Addr)) (fp : List Addr), GTs T (X.blk s H scope (compEnvC scope cl C X.env) fp) EN ifs tt)
    (he : ∀ (s : Shared) (H : Hp) (C : Addr) (cl : List (Str × Addr)) (fp : List Addr), GE T (X.blk s H scope (compEnvC scope cl C X.env) fp) EN elt te) (hjs : ∀ j ∈ js, j ∈ own.map (·.2)) (hs : ∀ x, foldedSetIterable iter X.env x = pure x := by intro _; rfl) :
    GS T X E (.Assign [.Name y py] (.ListComp elt [⟨tg, iter, ifs, 0⟩] scope pos) spos) (sSetO i (mLc it f tt te (own.map (·.2)))) :=
  ⟨ps_imp (ps_setLc hc hN hy hyl hsw hi.pi ok (fun s H C cl fp => (hg s H C cl fp).pg) (fun s H C cl fp => (ht s H C cl fp).pts) (fun s H C cl fp => (he s H C cl fp).pe) hs) fun D σ H ⟨pa, ca, O, H0, Λ, ρ, π, good, res⟩ =>
    lc_data hjs (hg X.s_0 X.H_0 0 [] []).off (fun _ _ _ q => q) (fun _ _ _ _ q => q) (fun _ _ _ q => q) (fun _ _ _ q => q) good.good (good.ex (k := fun k ρ π => if i < ρ.length then .nx (ρ.set i (.ow k)) π else .bad) res fun d π1 v H1 s r g1 res1 => by
    obtain ⟨p, rfl, wf, nw, ok, es⟩ := r
    split at res1
    · rename_i hl
      exact res1 _ _ (good.setO s i hl wf nw ok es)
    · exact res1.elim)⟩
theorem gs_setLc (i : Nat) {y : Str} {py : Pos} (own : List (Str × Nat)) (hc : X.calm = true) (hN : X.N.Nodup) (hy : X.N[i]? = some y) (hyl : X.env.scope.names.lookup y = some .local)
    (hsw : swapsWith (.ListComp elt [⟨tg, iter, ifs, 0⟩] scope pos) (some (.Name y py)) spos.line X.env = pure true) (hi : GI T X E tg iter it) (ok : BlkOk X.N X.env.scope scope own)
    (hg : ∀ (s : Shared) (H : Hp) (C : Addr) (cl : List (Str × Addr)) (fp : List Addr), GTg T (X.blk s H scope (compEnvC scope cl C X.env) fp) tg js f) (ht : ∀ (s : Shared) (H : Hp) (C : Addr) (cl : List (Str × Addr)) (fp : List Addr), GTs T (X.blk s H scope (compEnvC scope cl C X.env) fp) EN ifs tt)
    (he : ∀ (s : Shared) (H : Hp) (C : Addr) (cl : List (Str × Addr)) (fp : List Addr), GE T (X.blk s H scope (compEnvC scope cl C X.env) fp) EN elt te) (hjs : ∀ j ∈ js, j ∈ own.map (·.2)) (hs : ∀ x, foldedSetIterable iter X.env x = pure x := by intro _; rfl) :
    GS T X E (.Assign [.Name y py] (.ListComp elt [⟨tg, iter, ifs, 0⟩] scope pos) spos) (sSet i (mD (mLc it f tt te (own.map (·.2))))) :=
  ⟨ps_imp (ps_setLc hc hN hy hyl hsw hi.pi ok (fun s H C cl fp => (hg s H C cl fp).pg) (fun s H C cl fp => (ht s H C cl fp).pts) (fun s H C cl fp => (he s H C cl fp).pe) hs) fun D σ H ⟨pa, ca, O, H0, Λ, ρ, π, good, res⟩ =>
    lc_data hjs (hg X.s_0 X.H_0 0 [] []).off (fun _ _ _ q => q) (fun _ _ _ _ q => q) (fun _ _ _ q => q) (fun _ _ _ q => q) good.good (good.ex (k := fun k ρ π => .nx (ρ.set i (.sh k.D)) π) (by
      have e : sSet i (mD (mLc it f tt te (own.map (·.2)))) ρ π = sBind (mLc it f tt te (own.map (·.2))) (fun k ρ π => .nx (ρ.set i (.sh k.D)) π) ρ π := by
        unfold sSet sBind mD
        cases mLc it f tt te (own.map (·.2)) ρ π <;> rfl
      rw [e] at res
      exact res) fun d π1 v H1 s r g1 res1 => res1 _ _ (g1.set i (fun z => z) fun d' z => by cases z; exact ⟨v, rfl, r.R⟩))⟩

/-! ### new lists -/
def mList (ml : M (List D)) : M Own := mBind ml fun l => mOpt (if l.length ≤ sizeLine then some (.lst l) else none)
/-- a new object, as an own one -/
theorem new_own {g : G} {ca : Addr} {W : Addr → Prop} {H H1 : Hp} {p : Addr} {o : HO} {k : Own} (hp : H1 p = none) (hs : ∀ b o, ¬ W b → H b = some o → (∀ ps, o ≠ .tbl ps) → H1 b = some o) (nw : ¬ W p) (ok : OwnOk g (hide W H1) (some o) k) (es : selfOk g p k) : relF g W H (upd H1 p o) k (.ref p) := by
  refine ⟨p, rfl, fun o' e => ?_, nw, ?_, es⟩
  · by_cases ht : ∃ ps, o' = .tbl ps
    · exact ht
    · have := hs p o' nw e fun ps q => ht ⟨ps, q⟩
      rw [hp] at this
      cases this
  · rw [upd_same, hide_upd (W := fun b => W b ∨ b = p) (.inr rfl)]
    refine ok.ext fun b o' q _ => ?_
    obtain ⟨e1, e2⟩ := hide_some q
    rw [hide_of fun w => w.elim e1 (ne_of_none e2 hp)]
    exact e2
variable {es : List Expr} {ml : M (List D)} {ma mb : M D} {a b : Expr} {p : Pos}
theorem gf_lst (h : GA T X E es ml) : GF T X E (.List es pos) (mList ml) :=
  ⟨pe_imp (pe_lst h.pa) fun σ H Q ⟨pa, ca, O, ρ, π, good, res⟩ => ⟨pa, ca, O, ρ, π, good, Res.seq res fun l π1 vs H1 s r res1 => by
    obtain ⟨k, e, res2⟩ := Res.opt res1
    split at e
    · rename_i hl
      cases e
      exact ⟨by rw [RL.length r]; exact hl, fun p hp => Res.ok res2 ((good.step s).same (same_upd hp)) (new_own (ca := ca) hp s.ext ((good.step s).fresh hp) ⟨vs, rfl, r⟩ trivial)⟩
    · cases e⟩⟩
/-- list(e) -/
def mListOf (ml : M (List D)) : M Own := mBind ml fun l => mOpt (match l with
  | [d] => (seqOf d).map Own.lst
  | _ => none)
theorem RB.seq {g : G} {W : Addr → Prop} {H : Hp} {d : D} {l : List D} {v : V} (e : seqOf d = some l) (h : RB g W H d v) : ∃ (a : Addr) (vs : List V), v = .ref a ∧ (SqL g.K H a vs ∨ SqT g.K H a vs) ∧ RL g (hide W H) l vs := by
  cases d with
  | lst l' => cases e; obtain ⟨a, vs, rfl, ha, ra⟩ := h.lst; exact ⟨a, vs, rfl, .inl (SqL.of ha), ra⟩
  | tup l' => cases e; obtain ⟨a, vs, rfl, ha, ra⟩ := h.tup; exact ⟨a, vs, rfl, .inr (SqT.of ha), ra⟩
  | _ => cases e
theorem gf_list {x : Expr} (h : GAB T X E [x] ml) (hm : X.mg "list" = none) (hg : Gl X "list" := by rfl) (hs : starEach [x] X.env = (false, eval x X.env) :: starEach [] X.env := by rfl) (hpl : (backTo pos (starEach [] X.env)).any (·.1) = false := by rfl) :
    GF T X E (.Call (.Name "list" p) [x] [] pos) (mListOf ml) :=
  ⟨pe_imp (pe_callTy call_list_of hg hm (by rfl) h.pa (he := hs) (hpl := hpl)) fun σ H Q ⟨pa, ca, O, ρ, π, good, res⟩ => ⟨pa, ca, O, ρ, π, good, Res.seq res fun l π1 vs H1 s r res1 => by
    obtain ⟨k, e, res2⟩ := Res.opt res1
    split at e
    · rename_i d
      obtain ⟨v, t, rfl, r1, r2⟩ := r
      have r2 : t = [] := r2
      subst r2
      cases z : seqOf d with
      | none => rw [z] at e; cases e
      | some l =>
        rw [z] at e
        cases e
        obtain ⟨a, vs, rfl, hs, ra⟩ := RB.seq z r1
        exact ⟨a, vs, rfl, hs, fun p hp => Res.ok res2 ((good.step s).same (same_upd hp)) (new_own (ca := ca) hp s.ext ((good.step s).fresh hp) ⟨vs, rfl, ra⟩ trivial)⟩
    · cases e⟩⟩
/-- l * k -/
def repO (d e : D) : Option Own := match d, e with
  | .lst l, .int k => if -(2 ^ 63) ≤ k ∧ k < 2 ^ 63 ∧ l.length * k.toNat ≤ sizeLine then some (.lst (List.replicate k.toNat l).flatten) else none
  | _, _ => none
/-- l + m -/
def catO (d e : D) : Option Own := match d, e with
  | .lst l, .lst m => if l.length + m.length ≤ sizeLine then some (.lst (l ++ m)) else none
  | _, _ => none
def m2O (f : D → D → Option Own) (ma mb : M D) : M Own := mBind ma fun a => mBind mb fun b => mOpt (f a b)
theorem gf_rep (ha : GB T X E a ma) (hb : GB T X E b mb) : GF T X E (.BinOp a .Mult b pos) (m2O repO ma mb) :=
  ⟨pe_imp (pe_op op_rep ha.pe hb.pe) fun σ H Q ⟨pa, ca, O, ρ, π, good, res⟩ => ⟨pa, ca, O, ρ, π, good, Res.seq res fun d1 π1 v1 H1 s1 r1 res1 => ⟨pa, ca, O, ρ, π1, good.step s1, Res.seq res1 fun d2 π2 v2 H2 s2 r2 res2 => by
    obtain ⟨k, e, res3⟩ := Res.opt (o := repO d1 d2) res2
    have g2 := (good.step s1).step s2
    unfold repO at e
    split at e
    · rename_i l k
      split at e
      · rename_i hk
        cases e
        obtain ⟨a, vs, rfl, ha, ra⟩ := (RB.step s2 r1).lst
        refine ⟨a, k, vs, rfl, r2.int, ha, hk.1, hk.2.1, by rw [RL.length ra]; exact hk.2.2, fun p hp => Res.ok res3 (g2.same (same_upd hp)) (new_own (ca := ca) hp (s1.trans s2).ext (g2.fresh hp) ⟨_, rfl, RL.rep ra _⟩ trivial)⟩
      · cases e
    · cases e⟩⟩⟩
theorem gf_cat (ha : GB T X E a ma) (hb : GB T X E b mb) : GF T X E (.BinOp a .Add b pos) (m2O catO ma mb) :=
  ⟨pe_imp (pe_op op_cat ha.pe hb.pe) fun σ H Q ⟨pa, ca, O, ρ, π, good, res⟩ => ⟨pa, ca, O, ρ, π, good, Res.seq res fun d1 π1 v1 H1 s1 r1 res1 => ⟨pa, ca, O, ρ, π1, good.step s1, Res.seq res1 fun d2 π2 v2 H2 s2 r2 res2 => by
    obtain ⟨k, e, res3⟩ := Res.opt (o := catO d1 d2) res2
    have g2 := (good.step s1).step s2
    unfold catO at e
    split at e
    · rename_i l m
      split at e
      · rename_i hk
        cases e
        obtain ⟨a, vs, rfl, ha, ra⟩ := (RB.step s2 r1).lst
        obtain ⟨b, ws, rfl, hb, rb⟩ := r2.lst
        refine ⟨a, b, vs, ws, rfl, rfl, ha, hb, by rw [RL.length ra, RL.length rb]; exact hk, fun p hp => Res.ok res3 (g2.same (same_upd hp)) (new_own (ca := ca) hp (s1.trans s2).ext (g2.fresh hp) ⟨_, rfl, RL.append ra rb⟩ trivial)⟩
      · cases e
    · cases e⟩⟩⟩
end

/-! ### own lists are changed -/
section
variable {T : List (Addr × Str)} {X : Cx} {E : XK} {e ei : Expr} {me mi : M D} {pos cpos apos npos tpos : Pos} {st : Stmt}
/-- what an own slot's name holds -/
theorem Good.own {g : G} {ca : Addr} {O : Addr → Prop} {H : Hp} {σ : St} {ρ : Rho} {π : Pen} (h : Good T g ca O σ H ρ π) {i : Nat} {k : Own} (e : ρ[i]? = some (.ow k)) : ∃ a, σ[i]? = some (some (.ref a)) ∧ OwnOk g (hide (WW O σ ρ) H) (H a) k ∧ a ≠ g.pa ∧ WW O σ ρ a := by
  have q := h.sl i
  rw [e] at q
  obtain ⟨a, h1, h2, _⟩ := q
  have w : ownd σ ρ a := ⟨i, h1, by rw [e]; trivial⟩
  exact ⟨a, h1, h2, h.npa w, .inr w⟩
def lstAt (ρ : Rho) (i : Nat) : Option (List D) := match ρ[i]? with
  | some (.ow (.lst l)) => some l
  | _ => none
theorem lstAt_eq {ρ : Rho} {i : Nat} {l : List D} (h : lstAt ρ i = some l) : ρ[i]? = some (.ow (.lst l)) := by
  unfold lstAt at h
  split at h
  · cases h; assumption
  · cases h
/-- a name's own list is changed by u, behind the expression me -/
def sMut (i : Nat) (me : M D) (u : List D → D → Option (List D)) : MS := fun ρ π => match lstAt ρ i with
  | some k => sBind me (fun d ρ π => match u k d with
    | some k' => .nx (ρ.set i (.ow (.lst k'))) π
    | none => .bad) ρ π
  | none => .bad
def uApp : List D → D → Option (List D) := fun l d => if l.length < sizeLine then some (l ++ [d]) else none
theorem gs_append (i : Nat) {x : Str} (h : GE T X E e me) (hN : X.N[i]? = some x := by rfl) (hv : Vis X.env.scope x := by first | exact Or.inl rfl | exact Or.inr (Or.inl rfl) | exact Or.inr (Or.inr rfl)) (hd : (x == ("__debug__" : Str)) = false := by decide) (hcd : (x == ("__classdict__" : Str)) = false := by decide)
    (hbase : attributeBase (.Name x npos) "append" X.env (eval (.Name x npos) X.env) = eval (.Name x npos) X.env := by rfl)
    (hfew : ((backTo cpos (starEach (e :: []) X.env)).all (fun x => !x.1) && (backToKw cpos (keywordEach [] X.env)).all (fun x => x.1.isSome)
      && decide ((e :: []).length + ([] : List Keyword).length + (if ([] : List Keyword).isEmpty then 0 else 1) < 30)) = true := by rfl)
    (hline : (apos.endLine == cpos.line) = true := by rfl) (hs : starEach (e :: []) X.env = (false, eval e X.env) :: starEach [] X.env := by rfl) (hplain : (backTo cpos (starEach [] X.env)).any (·.1) = false := by rfl)
    (hsw : swapsWith (.Call (.Attribute (.Name x npos) "append" apos) [e] [] cpos) none pos.line X.env = pure false := by rfl) :
    GS T X E (.Expr (.Call (.Attribute (.Name x npos) "append" apos) [e] [] cpos) pos) (sMut i me uApp) :=
  ⟨ps_imp (ps_expr (pe_bm PySem.F.plainAttrs_list PySem.F.slot_list_append PySem.F.type_list_append mt_append (pe_var hN hv hd hcd) (pa_cons h.pe pa_nil hs) hbase hfew hline hs hplain) hsw) fun D σ H ⟨pa, ca, O, H0, Λ, ρ, π, good, res⟩ => by
    unfold sMut at res
    cases z : lstAt ρ i with
    | none => rw [z] at res; exact res.elim
    | some l =>
      rw [z] at res
      have ek := lstAt_eq z
      obtain ⟨a, e1, ⟨vs, hl, rl⟩, na, wa⟩ := good.good.own ek
      refine ⟨_, e1, .inl ⟨rfl, vs, SqL.of hl⟩, pa, ca, O, ρ, π, good.good, good.ex (k := fun d ρ π => match uApp l d with | some k' => .nx (ρ.set i (.ow (.lst k'))) π | none => .bad) res fun d π1 v H1 s r g1 res1 => ?_⟩
      have hl1 := (s.own a wa na).trans hl
      simp only [uApp] at res1
      split at res1
      case h_2 => exact res1.elim
      rename_i k' hk
      split at hk
      case isFalse => cases hk
      rename_i hlen
      cases hk
      exact ⟨a, vs, v, rfl, rfl, hl1, by rw [RL.length rl]; exact hlen, res1 _ _ (g1.mut i e1 (by rw [ek]; trivial) ⟨_, rfl, RL.append (RL.ext s.hid _ rl) (RL.cons r RL.nil)⟩ trivial)⟩⟩
/-- x[j] = e, x an own list -/
def sPut (i : Nat) (me mj : M D) : MS := sBind me fun d => sMut i mj fun l j => match j with
  | .int k => (ixN l.length k).map fun n => l.set n d
  | _ => none
theorem gs_put (i : Nat) {x : Str} (h : GE T X E e me) (hj : GE T X E ei mi) (hN : X.N[i]? = some x := by rfl) (hv : Vis X.env.scope x := by first | exact Or.inl rfl | exact Or.inr (Or.inl rfl) | exact Or.inr (Or.inr rfl)) (hd : (x == ("__debug__" : Str)) = false := by decide) (hcd : (x == ("__classdict__" : Str)) = false := by decide)
    (ha : ∀ v, assign (.Subscript (.Name x npos) ei tpos) X.env v = (do
      let ov ← holding [v] (eval (.Name x npos) X.env)
      let iv ← holding [v, ov] (eval ei X.env)
      standAt tpos
      holding [v, ov, iv] (setItem ov iv v)
      release [v, ov, iv] []) := by intro _; rfl)
    (hs : swapsWithSole [.Subscript (.Name x npos) ei tpos] e pos.line X.env = pure false := by rfl) (hw : swappedStores [.Subscript (.Name x npos) ei tpos] e X.env = pure none := by rfl)
    (h1 : (assignEach [.Subscript (.Name x npos) ei tpos] X.env).map (·.2) = [assign (.Subscript (.Name x npos) ei tpos) X.env] := by rfl) :
    GS T X E (.Assign [.Subscript (.Name x npos) ei tpos] e pos) (sPut i me mi) :=
  ⟨ps_imp (ps_asg h.pe (pg_sub (pe_var hN hv hd hcd) hj.pe set_list ha) hs hw h1) fun D σ H ⟨pa, ca, O, H0, Λ, ρ, π, good, res⟩ => ⟨pa, ca, O, ρ, π, good.good, good.ex (k := fun d => sMut i mi fun l j => match j with | .int k => (ixN l.length k).map fun n => l.set n d | _ => none) res fun d π1 v H1 s r g1 res1 => by
    unfold sMut at res1
    cases z : lstAt ρ i with
    | none => rw [z] at res1; exact res1.elim
    | some l =>
      rw [z] at res1
      have ek := lstAt_eq z
      obtain ⟨a, e1, ⟨vs, hl, rl⟩, na, wa⟩ := g1.good.own ek
      refine ⟨_, e1, pa, ca, O, ρ, π1, g1.good, g1.ex (k := fun j ρ π => match (match j with | .int k => (ixN l.length k).map fun n => l.set n d | _ => none) with | some k' => .nx (ρ.set i (.ow (.lst k'))) π | none => .bad) res1 fun j π2 jv H2 s2 r2 g2 res2 => ?_⟩
      have hl2 := (s2.own a wa na).trans hl
      cases j with
      | int k =>
        cases zn : ixN l.length k with
        | none => simp only [zn, Option.map] at res2; exact res2.elim
        | some n =>
          simp only [zn, Option.map] at res2
          obtain rfl := R_int.mp r2
          exact ⟨a, vs, k, n, rfl, rfl, hl2, by rw [RL.length rl]; exact zn, res2 _ _ (g2.mut i e1 (by rw [ek]; trivial) ⟨_, rfl, RL.set n (RL.ext s2.hid _ rl) (R.ext s2.hid _ r)⟩ trivial)⟩
      | _ => exact res2.elim⟩⟩
end
end L2.Dl
end

section
set_option maxRecDepth 100000
set_option maxHeartbeats 2000000
/-! A def by its body over data. -/
namespace L2.Dl
open PySem PySem.Spec PyProof.Rows

/-- a def's run: the parameters, then nothing -/
def runF (n : Nat) (m : MS) : Fn := fun ds π => match m (ds.map Sl.sh ++ List.replicate (n - ds.length) .no) π with
  | .nx _ π' => .ok .non π'
  | .rt d π' => .ok d π'
  | .err c ns fs π' => .err c ns fs π'
  | _ => .bad
section
variable {P : Program} {w : World} {K : PySem.W.Frag} {mg : Str → Option Value} {base : Heap} {T : List (Addr × Str)}
abbrev cxX (P : Program) (w : World) (K : PySem.W.Frag) (mg : Str → Option Value) (base : Heap) (N : List Str) (qual : Str) (scope : Scope) (f : Addr) (cdv : Value) (A : Around) (outer : List Env) (s : Shared) (H : Hp) (E : XK) : Cx := cxOf (L2.CX P w) P w K mg base N qual scope f cdv A outer s H E
theorem passU {N : List Str} {qual : Str} {scope : Scope} {f : Addr} {cdv : Value} {A : Around} {outer : List Env} {s : Shared} {H : Hp} {E : XK} : Passes (L2.CX P w) (cxX P w K mg base N qual scope f cdv A outer s H E) E :=
  passes_call (takes_of rfl rfl rfl rfl) fun _ _ _ _ q => q
theorem ownU {N : List Str} {qual : Str} {scope : Scope} {f : Addr} {cdv : Value} {A : Around} {outer : List Env} {s : Shared} {H : Hp} {E : XK} : PassesOwn (model (cxX P w K mg base N qual scope f cdv A outer s H E).prog (cxX P w K mg base N qual scope f cdv A outer s H E).w) (cxX P w K mg base N qual scope f cdv A outer s H E).A (cxX P w K mg base N qual scope f cdv A outer s H E).env (cxX P w K mg base N qual scope f cdv A outer s H E).xe :=
  L2.passes_of rfl
theorem start_no {g : G} {ca : Addr} {O : Addr → Prop} {H : Hp} {π : Pen} {n : Nat} {ds : List D} {vs : List V} {N : List Str} (h : Good T g ca O [] H [] π) (r : RL g (hide O H) ds vs) : Good T g ca O (start N vs) H (ds.map Sl.sh ++ List.replicate (N.length - ds.length) .no) π := by
  have no : ∀ i : Nat, ¬ isO (ds.map Sl.sh ++ List.replicate (N.length - ds.length) .no)[i]? := fun i q => by
    cases z : (ds.map Sl.sh ++ List.replicate (N.length - ds.length) Sl.no)[i]? with
    | none => rw [z] at q; exact q
    | some r =>
      rw [z] at q
      have hm := List.mem_of_getElem? z
      rcases List.mem_append.mp hm with hm | hm
      · obtain ⟨d, _, rfl⟩ := List.mem_map.mp hm; exact q
      · obtain ⟨_, rfl⟩ := List.mem_replicate.mp hm; exact q
  have ww : WW O (start N vs) (ds.map Sl.sh ++ List.replicate (N.length - ds.length) .no) = O := by
    funext b
    exact propext ⟨fun w => w.elim id fun ⟨i, _, q⟩ => (no i q).elim, .inl⟩
  have hl := RL.length r
  refine ⟨h.pen, h.po, h.co, h.tab, h.al, by simp [start, hl], fun i => ?_, fun i j b _ q => (no i q).elim, fun b ⟨i, _, q⟩ => (no i q).elim⟩
  rw [ww]
  by_cases hi : i < ds.length
  · rw [List.getElem?_append_left (by simpa using hi), List.getElem?_map]
    obtain ⟨v, e1, r1⟩ := RL.get r (List.getElem?_eq_getElem hi)
    rw [List.getElem?_eq_getElem hi]
    refine ⟨v, ?_, r1⟩
    unfold start
    rw [List.getElem?_append_left (by simpa [hl] using hi), List.getElem?_map, e1]
    rfl
  · rw [List.getElem?_append_right (by simpa using Nat.not_lt.mp hi), List.getElem?_replicate]
    split <;> trivial
theorem FunD.data {x qual : Str} {params : Arguments} {body : List Stmt} {scope : Scope} {dvs : List V} {kws : List (Str × V)} {f : Addr} {fd : FuncData} {N ps : List Str} {k : Nat} {m : MS} (F : FunD K x qual params body scope dvs kws f fd) (S : FnScope N ps scope)
    (hbody : ∀ (cdv : Value) (A : Around) (outer : List Env) (s : Shared) (H : Hp) (E : XK), Room k (A.deeper (envOfC qual scope s.heap.objs.size f cdv)) → GSs T (cxX P w K mg base N qual scope f cdv A outer s H E) E body m) :
    FnOk P w K mg base (L2.CX P w) (k + 1) f fd ps (spD K mg T ps.length (runF N.length m)) := by
  refine F.ok S (fun vs H Q E h => spD_len h) fun cdv A outer s H vs Q E hr ⟨pa, ca, O, ds, π, good, r, res⟩ => ⟨_, (hbody cdv A outer s H E hr).pss, ?_⟩
  unfold callF at res
  split at res
  case isFalse => exact res.elim
  rename_i hl
  have g0 := start_no (n := N.length) (N := N) good r
  have no : WW O (start N vs) (ds.map Sl.sh ++ List.replicate (N.length - ds.length) .no) = O := by
    funext b
    refine propext ⟨fun w => w.elim id fun ⟨i, _, q⟩ => ?_, .inl⟩
    cases z : (ds.map Sl.sh ++ List.replicate (N.length - ds.length) Sl.no)[i]? with
    | none => rw [z] at q; exact q.elim
    | some r =>
      rw [z] at q
      rcases List.mem_append.mp (List.mem_of_getElem? z) with hm | hm
      · obtain ⟨d, _, rfl⟩ := List.mem_map.mp hm; exact q.elim
      · obtain ⟨_, rfl⟩ := List.mem_replicate.mp hm; exact q.elim
  refine ⟨pa, ca, O, H, Led.top, _, π, ⟨g0, fun b o _ e _ => e, fun _ _ _ => rfl, fun b ⟨i, e1, e2⟩ => ?_, trivial⟩, ?_⟩
  · have : WW O (start N vs) (ds.map Sl.sh ++ List.replicate (N.length - ds.length) .no) b := .inr ⟨i, e1, e2⟩
    exact (g0.dj b ⟨i, e1, e2⟩ (no ▸ this)).elim
  · unfold runF at res
    cases z : m (ds.map Sl.sh ++ List.replicate (N.length - ds.length) Sl.no) π with
    | nx ρ' π' => rw [z] at res; exact fun σ' H' g' => res _ H' g'.out (R_non.mpr rfl)
    | rt d π' => rw [z] at res; exact fun v H' st r => res v H' st r
    | bk _ _ => rw [z] at res; exact res.elim
    | ct _ _ => rw [z] at res; exact res.elim
    | err c ns fs π' => rw [z] at res; exact res
    | bad => rw [z] at res; exact res.elim
end
end L2.Dl
end

section
set_option maxRecDepth 100000
set_option maxHeartbeats 2000000
/-! Defs by name; membership; small helpers for printed texts. -/
namespace L2.Dl
open PySem PySem.Spec PyProof.Rows

/-! ### calls of defs by their facts -/
structure Df (P : Program) (w : World) (K : PySem.W.Frag) (mg : Str → Option Value) (base : Heap) (T : List (Addr × Str)) (x : Str) (k : Nat) (ps : List Str) (F : Fn) (dvs : List V) (dds : List D) : Prop where
  ex : ∃ (f : Addr) (fd : FuncData), FnOk P w K mg base (L2.CX P w) k f fd ps (spD K mg T ps.length F) ∧ mg x = some (.ref f) ∧ PySem.W.keepIn K (.ref f) = true ∧ ∀ j, j ≤ dvs.length → ∃ ds, Vals (dvs.drop j) ds ∧ Binds K fd ps ds
  dd : ∀ g H, RL g H dds dvs
section
variable {T : List (Addr × Str)} {X : Cx} {E : XK} {e a b c t : Expr} {es : List Expr} {m ma mb : M D} {ml : M (List D)} {pos p : Pos}
theorem Df.call {x : Str} {k n np : Nat} {dd : List D} {ps : List Str} {F : Fn} {dvs : List V} {dds : List D} (h : Df X.prog X.w X.K X.mg X.base T x k ps F dvs dds) (j : Nat) (hr : Room n X.A) (hk : k ≤ n) (hx : Passes (L2.CX X.prog X.w) X E) (ha : GA T X E (e :: es) ml) (hj : j ≤ dvs.length := by decide) (hg : Gl X x := by rfl)
    (hdb : (x == ("__debug__" : Str)) = false := by decide) (he : starEach (e :: es) X.env = (false, eval e X.env) :: starEach es X.env := by rfl) (hpl : (backTo pos (starEach es X.env)).any (·.1) = false := by rfl) (hn : ps.length = np := by rfl) (hdd : dds.drop j = dd := by rfl) :
    GE T X E (.Call (.Name x p) (e :: es) [] pos) (mCall np F dd ml) := by
  subst hn hdd
  obtain ⟨f, fd, G, hm, hkp, hb⟩ := h.ex
  obtain ⟨ds, hv, hb⟩ := hb j hj
  exact ge_call G (hr.mono hk) hm hkp hb hv (fun g H => RL.drop j (h.dd g H)) hx ha hg hdb he hpl
theorem Df.call0 {x : Str} {k n np : Nat} {dd : List D} {ps : List Str} {F : Fn} {dvs : List V} {dds : List D} (h : Df X.prog X.w X.K X.mg X.base T x k ps F dvs dds) (j : Nat) (hr : Room n X.A) (hk : k ≤ n) (hx : Passes (L2.CX X.prog X.w) X E) (hj : j ≤ dvs.length := by decide) (hg : Gl X x := by rfl) (hdb : (x == ("__debug__" : Str)) = false := by decide) (hn : ps.length = np := by rfl) (hdd : dds.drop j = dd := by rfl) :
    GE T X E (.Call (.Name x p) [] [] pos) (mCall np F dd mNil) := by
  subst hn hdd
  obtain ⟨f, fd, G, hm, hkp, hb⟩ := h.ex
  obtain ⟨ds, hv, hb⟩ := hb j hj
  exact ge_call0 G (hr.mono hk) hm hkp hb hv (fun g H => RL.drop j (h.dd g H)) hx hg hdb
theorem blkOk_of {N : List Str} {sc scope : Scope} {own : List (Str × Nat)} (e1 : X.N = N) (e2 : X.env.scope = sc) (h : blkC N sc scope own = true) : BlkOk X.N X.env.scope scope own := by
  rw [e1, e2]
  exact blkOk_by h
end
def mI (f : List D → Option (List D)) (ml : M (List D)) : M (List D) := mBind ml fun l => mOpt (f l)
def mSome (m : M D) : M (Option Int) := mBind m fun d => mOpt ((asI d).map some)
def tyNames : List String := ["NoneType", "bool", "int", "str", "tuple", "list", "dict"]
def ansB (t : String) : String → Option Bool := fun u => if u ∈ tyNames then some (u == t || (u == "bool" && t == "int")) else none
def ansN : String → Option Bool := fun u => if u ∈ tyNames then some false else none
def ansC (c : Str) : Str → Option Bool := fun c' => some (decide (c' = c))
/-- isinstance with a built-in class -/
def isB (cs : List Str) (t : String) : D → Option D := isiD cs (ansB t) (fun _ => some false)
/-- isinstance with an own class (no class here is derived from another) -/
def isC (cs : List Str) (c : Str) : D → Option D := isiD cs ansN (ansC c)

/-! ### membership -/
def tk : D → Option (List Key)
  | .tup l => l.mapM keyD
  | _ => none
def flatD : D → Bool
  | .non => true
  | .bl _ => true
  | .int _ => true
  | .str _ => true
  | _ => false
/-- is the key in the dict (not an empty one)? -/
def keyIn (ks : List D) (d : D) : Option Bool := match keyD d with
  | some k => if ks ≠ [] ∧ ks.all (fun e => (keyD e).isSome) = true then some (ks.any fun e => decide (keyD e = some k)) else none
  | none => match tk d with
    | some k => if ks ≠ [] ∧ ks.all (fun e => (tk e).isSome) = true then some (ks.any fun e => decide (tk e = some k)) else none
    | none => none
def inA (d e : D) : Option Bool := match e with
  | .lst l => if plainD 60 d && plainD 60 (.lst l) then some (l.any fun z => D.eqv z d) else none
  | .tup l => if flatD d && l.all flatD then some (l.any fun z => D.eqv z d) else none
  | .dic ks _ => keyIn ks d
  | _ => none
def inD (d e : D) : Option D := (inA d e).map .bl
def ninD (d e : D) : Option D := (inA d e).map fun b => .bl (!b)
theorem valV_isSome {κ : Type} [DecidableEq κ] (kv : List (κ × V)) (k : κ) : (valV kv k).isSome = kv.any fun q => decide (q.1 = k) := by rw [valV_any]
theorem mapM_keys {g : G} {H : Hp} : ∀ {l : List D} {k : List Key} {vs : List V}, l.mapM keyD = some k → RL g H l vs → vs = k.map kV
  | [], k, vs, h, r => by
    simp only [List.mapM_nil] at h
    cases h
    rw [RL_nil.mp r]; rfl
  | d :: l, k, vs, h, r => by
    obtain ⟨v, t, rfl, r1, r2⟩ := RL_cons.mp r
    rw [List.mapM_cons] at h
    cases z : keyD d with
    | none => rw [z] at h; cases h
    | some q =>
      rw [z] at h
      cases z2 : l.mapM keyD with
      | none => rw [z2] at h; cases h
      | some qs =>
        rw [z2] at h
        cases h
        rw [mapM_keys z2 r2]
        cases d with
        | int i => cases z; rw [R_int.mp r1]; rfl
        | str x => cases z; rw [R_str.mp r1]; rfl
        | _ => cases z
theorem keyD_V {g : G} {H : Hp} {d : D} {k : Key} {v : V} (h : keyD d = some k) (r : R g H d v) : v = kV k := by
  cases d with
  | int i => cases h; exact R_int.mp r
  | str x => cases h; exact R_str.mp r
  | _ => cases h
theorem keyD_flat {d : D} {k : Key} (h : keyD d = some k) : Flat d := by
  cases d with
  | int i => trivial
  | str x => trivial
  | _ => cases h
theorem keyD_kD (k : Key) : keyD (kD k) = some k := by cases k <;> rfl
theorem mapM_kD : ∀ k : List Key, (k.map kD).mapM keyD = some k
  | [] => rfl
  | k :: ks => by
    rw [List.map_cons, List.mapM_cons, keyD_kD, mapM_kD ks]
    rfl
theorem tk_tup (k : List Key) : tk (.tup (k.map kD)) = some k := mapM_kD k
theorem tk_flat {d : D} {k : List Key} (h : tk d = some k) : Flat d := by
  cases d with
  | tup l => trivial
  | _ => cases h
theorem any_map {α β : Type} (f : α → β) (p : β → Bool) (l : List α) : (l.map f).any p = l.any fun x => p (f x) := by
  induction l with
  | nil => rfl
  | cons a l ih => rw [List.map_cons, List.any_cons, List.any_cons, ih]
theorem keyIn_get {g : G} {W : Addr → Prop} {H : Hp} {ks vs : List D} {d : D} {b : Bool} {a : Addr} {y : V} (h : keyIn ks d = some b) (di : DicAt g (hide W H) (H a) ks vs) (ry : R g (hide W H) d y) : ∃ o, DGet H a y o ∧ o.isSome = b := by
  unfold keyIn at h
  cases zk : keyD d with
  | some k =>
    rw [zk] at h
    simp only at h
    split at h
    · rename_i hc
      cases h
      rcases di with ⟨kv, e1, e2, _⟩ | ⟨kv, e1, e2, _⟩
      · refine ⟨valV kv k, ?_, ?_⟩
        · rw [keyD_V zk ry]; exact DGet.k e1
        · rw [valV_isSome]
          have : ks.any (fun e => decide (keyD e = some k)) = (ks.map keyD).any fun e => decide (e = some k) := by rw [any_map]
          rw [this, e2, any_map]
          congr 1
          funext q
          exact decide_eq_decide.mpr ⟨fun e => by rw [e], fun e => Option.some.inj e⟩
      · exfalso
        obtain ⟨h1, h2⟩ := hc
        cases kv with
        | nil => exact h1 e2
        | cons q kv =>
          rw [e2, List.map_cons, List.all_cons] at h2
          simp [keyD] at h2
    · cases h
  | none =>
    rw [zk] at h
    simp only at h
    cases zt : tk d with
    | none => rw [zt] at h; cases h
    | some k =>
      rw [zt] at h
      simp only at h
      split at h
      · rename_i hc
        cases h
        cases d with
        | tup l =>
          obtain ⟨p, us, rfl, hp, rp⟩ := R_tup.mp ry
          have hu := mapM_keys (show l.mapM keyD = some k from zt) rp
          rw [hu] at hp
          rcases di with ⟨kv, e1, e2, _⟩ | ⟨kv, e1, e2, _⟩
          · exfalso
            obtain ⟨h1, h2⟩ := hc
            cases ks with
            | nil => exact h1 rfl
            | cons e ks =>
              cases kv with
              | nil => cases e2
              | cons q kv =>
                rw [List.map_cons, List.map_cons] at e2
                injection e2 with e3 _
                rw [List.all_cons, Bool.and_eq_true] at h2
                cases e with
                | tup _ => cases e3
                | _ => exact absurd h2.1 (by simp [tk])
          · refine ⟨valV kv k, DGet.t e1 (hide_some hp).2, ?_⟩
            rw [valV_isSome, e2, any_map]
            congr 1
            funext q
            rw [tk_tup]
            exact decide_eq_decide.mpr ⟨fun e => by rw [e], fun e => Option.some.inj e⟩
        | _ => cases zt
      · cases h
def rInA (K : PySem.W.Frag) : R2 := fun x y H Q => rInD K x y H Q ∨ rIn K false x y H Q ∨ ∃ a o, y = .ref a ∧ DGet H a x o ∧ Q (.bl o.isSome) H
def rNinA (K : PySem.W.Frag) : R2 := fun x y H Q => rNotInD K x y H Q ∨ rIn K true x y H Q ∨ ∃ a o, y = .ref a ∧ DGet H a x o ∧ Q (.bl (!o.isSome)) H
theorem op_inA {X : Cx} (hu : X.A.units + 65 < cLine) : OpR X (compareOp .In) (rInA X.K) := (op_inD hu).or (op_in_seq.or fun pins s σ H x y v u Q I rx ry ⟨a, o, e, gt, q⟩ => by
  subst e
  cases ry
  exact d_in (by omega) I gt rx fun s' I' => ⟨.bl o.isSome, H, I', rfl, q⟩)
theorem op_ninA {X : Cx} (hu : X.A.units + 65 < cLine) : OpR X (compareOp .NotIn) (rNinA X.K) := (op_notInD hu).or (op_notIn_seq.or fun pins s σ H x y v u Q I rx ry ⟨a, o, e, gt, q⟩ => by
  subst e
  cases ry
  exact d_notIn (by omega) I gt rx fun s' I' => ⟨.bl (!o.isSome), H, I', rfl, q⟩)
def asV : D → V
  | .bl b => .bl b
  | .int i => .int i
  | .str x => .str x
  | _ => .non
theorem flat_asV {g : G} {W : Addr → Prop} {H : Hp} {d : D} {v : V} (h : flatD d = true) (r : RB g W H d v) : v = asV d := by
  cases d with
  | non => exact r.non
  | bl b => exact r.bl
  | int b => exact r.int
  | str b => exact r.str
  | _ => cases h
theorem eqV_asV {d e : D} (h : flatD d = true) (h' : flatD e = true) : eqV (asV e) (asV d) = D.eqv e d := by
  cases d <;> first | (cases h; done) | (cases e <;> first | (cases h'; done) | simp [eqV, asV, D.eqv])
theorem flatD_V {g : G} {W : Addr → Prop} {H : Hp} {d : D} {v : V} (h : flatD d = true) (r : RB g W H d v) : flatV v = true ∧ ∀ (e : D) (u : V), flatD e = true → R g (hide W H) e u → eqV u v = D.eqv e d := by
  rw [flat_asV h r]
  refine ⟨by cases d <;> first | rfl | (cases h; done), fun e u he re => ?_⟩
  rw [flat_asV (W := W) he (.inl re)]
  exact eqV_asV h he
theorem flatAll {g : G} {W : Addr → Prop} {H : Hp} : ∀ {l : List D} {vs : List V}, l.all flatD = true → RL g (hide W H) l vs → vs.all flatV = true
  | [], vs, _, r => by rw [RL_nil.mp r]; rfl
  | d :: l, vs, h, r => by
    obtain ⟨v, t, rfl, r1, r2⟩ := RL_cons.mp r
    rw [List.all_cons, Bool.and_eq_true] at h
    rw [List.all_cons, (flatD_V h.1 (.inl r1)).1, flatAll h.2 r2]
    rfl
theorem inV_any {g : G} {W : Addr → Prop} {H : Hp} {d : D} {v : V} (hd : flatD d = true) (r : RB g W H d v) : ∀ {l : List D} {vs : List V}, l.all flatD = true → RL g (hide W H) l vs → inV v vs = l.any fun z => D.eqv z d
  | [], vs, _, rl => by rw [RL_nil.mp rl]; rfl
  | e :: l, vs, h, rl => by
    obtain ⟨u, t, rfl, r1, r2⟩ := RL_cons.mp rl
    rw [List.all_cons, Bool.and_eq_true] at h
    have ih := inV_any hd r h.2 r2
    unfold inV at ih ⊢
    rw [List.any_cons, List.any_cons, ih, (flatD_V hd r).2 e u h.1 r1]
theorem plainD_succ : ∀ {n : Nat} {d : D}, plainD n d = true → plainD (n + 1) d = true := by
  intro n
  induction n with
  | zero => intro d h; cases d <;> first | exact h | (cases h; done)
  | succ n ih =>
    intro d h
    cases d with
    | tup l => exact List.all_eq_true.mpr fun x hx => ih (List.all_eq_true.mp h x hx)
    | lst l => exact List.all_eq_true.mpr fun x hx => ih (List.all_eq_true.mp h x hx)
    | _ => first | exact h | (cases h; done)
theorem any_toPy {d : D} (hd : plainD 60 d = true) : ∀ {l : List D}, l.all (plainD 59) = true → ((toPyL l).any fun z => PyData.eqv z (toPy d)) = l.any fun z => D.eqv z d
  | [], _ => by simp [toPyL]
  | e :: l, h => by
    rw [List.all_cons, Bool.and_eq_true] at h
    rw [toPyL, List.any_cons, List.any_cons, any_toPy hd h.2, plain_eqv 60 e d (plainD_succ h.1) hd]
theorem inA_ok {K : PySem.W.Frag} {mg : Str → Option Value} (neg : Bool) {pa : Addr × Addr} {W : Addr → Prop} {H : Hp} {x y : V} {d1 d2 : D} {b : Bool} {Q : VK} (r1 : RB ⟨K, mg, pa⟩ W H d1 x) (r2 : RB ⟨K, mg, pa⟩ W H d2 y) (e : inA d1 d2 = some b) (q : Q (.bl (if neg then !b else b)) H) :
    (if neg then rNinA K else rInA K) x y H Q := by
  cases d2 with
  | lst l =>
    simp only [inA] at e
    split at e
    case isFalse => cases e
    rename_i hp
    rw [Bool.and_eq_true] at hp
    cases e
    have h2 : l.all (plainD 59) = true := hp.2
    have key := any_toPy hp.1 h2
    have dd := r2.dp hp.2
    cases neg with
    | false => exact .inl ⟨toPy d1, toPyL l, r1.dp hp.1, dd, plain_shaped hp.1 (by decide), plain_shaped hp.2 (by decide), by rw [key]; exact q⟩
    | true => exact .inl ⟨toPy d1, toPyL l, r1.dp hp.1, dd, plain_shaped hp.1 (by decide), plain_shaped hp.2 (by decide), by rw [key]; exact q⟩
  | tup l =>
    simp only [inA] at e
    split at e
    case isFalse => cases e
    rename_i hp
    rw [Bool.and_eq_true] at hp
    cases e
    obtain ⟨a, vs, rfl, ha, ra⟩ := r2.tup
    have key := inV_any hp.1 r1 hp.2 ra
    cases neg with
    | false => exact .inr (.inl ⟨a, vs, rfl, .inr (SqT.of ha), (flatD_V hp.1 r1).1, flatAll hp.2 ra, by rw [key]; exact q⟩)
    | true => exact .inr (.inl ⟨a, vs, rfl, .inr (SqT.of ha), (flatD_V hp.1 r1).1, flatAll hp.2 ra, by rw [key]; exact q⟩)
  | dic ks vs =>
    obtain ⟨a, rfl, di⟩ := r2.dic
    have fl : Flat d1 := by
      simp only [inA, keyIn] at e
      split at e
      · rename_i k hk; exact keyD_flat hk
      · split at e
        · rename_i k hk; exact tk_flat hk
        · cases e
    obtain ⟨o, h1, h2⟩ := keyIn_get e di (r1.sh fl)
    cases neg with
    | false => exact .inr (.inr ⟨a, o, rfl, h1, by rw [h2]; exact q⟩)
    | true => exact .inr (.inr ⟨a, o, rfl, h1, by rw [h2]; exact q⟩)
  | _ => cases e
section
variable {K : PySem.W.Frag} {mg : Str → Option Value}
theorem inD_ok : OpD K mg (rInA K) inD := by
  intro pa W H x y d1 d2 d Q hf r1 r2 e q
  unfold inD at e
  cases z : inA d1 d2 with
  | none => rw [z] at e; cases e
  | some b => rw [z] at e; cases e; exact inA_ok false r1 r2 z (q _ H (Same.refl H) (R_bl.mpr rfl))
theorem ninD_ok : OpD K mg (rNinA K) ninD := by
  intro pa W H x y d1 d2 d Q hf r1 r2 e q
  unfold ninD at e
  cases z : inA d1 d2 with
  | none => rw [z] at e; cases e
  | some b => rw [z] at e; cases e; exact inA_ok true r1 r2 z (q _ H (Same.refl H) (R_bl.mpr rfl))
end
theorem Room.u65 {k : Nat} {A : Around} (r : Room k A) : A.units + 65 < cLine := by have := r.un; omega
end L2.Dl
end

section
set_option maxRecDepth 100000
set_option maxHeartbeats 4000000
/-! An own error, derived from ValueError, whose __init__ says super().__init__(..) and then stores its parameters. -/
namespace L2.Dl.VE
open PySem PySem.Builtin PySem.W PySem.Calls PyProof.Rows L2

abbrev mw (x : Addr) : Obj := { cls := .type "method-wrapper", dict := none, data := .fields #[.builtin "ValueError.__init__", .ref x], slots := #[] }
theorem ty_vi : typeOf (.builtin "ValueError.__init__") = pure (.type "wrapper_descriptor") := by
  show builtinType _ = _
  rw [builtinType_eq_fast]
  kernel_rfl
theorem nac_vi : (kfb_private% "nameAndClass") (Value.builtin "ValueError.__init__") = (pure (("__init__" : Str), Value.type "ValueError") : Sem (Str × Value)) := by kernel_rfl
section
variable {prog : Program} {w : World} {M : Model} {A : Around} {E : Value → Shared → Prop} {h : Heap} {g : Array GenState} {d : Drawn} {t : Nat} {os : OsState}
theorem get_mw {x C : Addr} {P : Fin → Shared → Prop} (hin : Looks M h (isInstance (.ref x) (.type "ValueError")) true) (hq : P (.done (.ret (.ref h.objs.size))) ⟨h.push (mw x), g, d, t, os⟩) :
    wpAny M A (Builtin.«wrapper_descriptor.__get__» ⟨[.builtin "ValueError.__init__", .ref x, .ref C], []⟩) P E ⟨h, g, d, t, os⟩ := by
  unfold Builtin.«wrapper_descriptor.__get__»
  refine wpAny_bind (wpAny_of_eq (a := (.builtin "ValueError.__init__", some (.ref x), some (.ref C))) (by first | rfl | kernel_rfl) ?_)
  show wpAny M A ((kfb_private% "checkInstance") (.builtin "ValueError.__init__") (.ref x) >>= fun _ => newFields "method-wrapper" [.builtin "ValueError.__init__", .ref x] >>= fun r => ret r) P E _
  refine wpAny_bind ?_
  show wpAny M A ((kfb_private% "nameAndClass") (.builtin "ValueError.__init__") >>= _) _ E _
  refine wpAny_bind (wpAny_of_eq nac_vi ?_)
  show wpAny M A (isInstance (.ref x) (.type "ValueError") >>= _) _ E _
  exact wpAny_bind (hin.at (KFB.if_not rfl (wpAny_pure (wpAny_bind (wpAny_newObj_type (wpAny_pure hq))))))
theorem sup_ga {so D x C : Addr} {l₀ l : List Value} {K : Frag} {nm : Str} {tk : Tok} {Q : Fin → Shared → Prop} (hso : h.get? so = some (ks_superObj D x C)) (hno : Looks (model prog w) h (opaqueClassAbove (.ref C)) none)
    (hC : Looks (model prog w) h (mroOf (.ref C)) l₀) (hl : (l₀.dropWhile (· != .ref D)).drop 1 = l) (X : K.In h) (hf : alongIn K nm l = some (some (.builtin "ValueError.__init__"))) (hxC : x ≠ C) (hn : (nm == ("__class__" : Str)) = false)
    (hin : Looks (model prog w) h (isInstance (.ref x) (.type "ValueError")) true) (hq : Q (.done (.ret (.ref h.objs.size))) ⟨h.push (mw x), g, d, t, os⟩) : wpAny (model prog w) A (Builtin.«super.__getattribute__» ⟨[.ref so, .str nm tk], []⟩) Q E ⟨h, g, d, t, os⟩ := by
  have hlk := ESX.slot_wd.lookup
  have hne : (Value.ref x == Value.ref C) = false := by simp [hxC]
  have hTf := ty_vi
  have hTi : Shared.TypeIs ⟨h, g, d, t, os⟩ (.builtin "ValueError.__init__") "wrapper_descriptor" := ty_vi
  have hdt : (ks_superObj D x C).data = .fields #[.ref D, .ref x, .ref C] := rfl
  have f0 : (#[.ref D, .ref x, .ref C] : Array Value)[0]? = some (.ref D) := rfl
  have f1 : (#[.ref D, .ref x, .ref C] : Array Value)[1]? = some (.ref x) := rfl
  have f2 : (#[.ref D, .ref x, .ref C] : Array Value)[2]? = some (.ref C) := rfl
  unfold Builtin.«super.__getattribute__»
  repeat (first
    | (with_reducible refine wpAny_field hso hdt f0 ?_) | (with_reducible refine wpAny_field hso hdt f1 ?_)
    | (with_reducible refine wpAny_field hso hdt f2 ?_) | (with_reducible refine ks_wpAny_notOpaque hno ?_)
    | (with_reducible refine Looks.at hC ?_; rw [hl]) | (refine ks_forIn_along X (fun _ _ => rfl) rfl ?_ hf)
    | (with_reducible refine wpAny_call_entry ESX.slot_wd hTi ESX.entry_wd ?_ (ESX.args_wd _ _ _)) | (with_reducible refine get_mw hin ?_)
    | (with_reducible refine ⟨_, rfl, ?_⟩) | (simp only [hn, hne, Bool.or_false, Bool.false_eq_true, if_false]) | wp_step | dsimp only)
  all_goals exact hq
theorem sup_meth {so D x C : Addr} {l₀ l : List Value} {K : Frag} {nm : Str} {pl : Sem Bool} {Q : Value × List Value → Shared → Prop} (hso : h.get? so = some (ks_superObj D x C)) (hno : Looks (model prog w) h (opaqueClassAbove (.ref C)) none)
    (hC : Looks (model prog w) h (mroOf (.ref C)) l₀) (hl : (l₀.dropWhile (· != .ref D)).drop 1 = l) (X : K.In h) (hf : alongIn K nm l = some (some (.builtin "ValueError.__init__"))) (hxC : x ≠ C) (hn : (nm == ("__class__" : Str)) = false)
    (hin : Looks (model prog w) h (isInstance (.ref x) (.type "ValueError")) true) (hq : Q (.ref h.objs.size, []) ⟨h.push (mw x), g, d, t + 1, os⟩) : wpAny (model prog w) A (getMethod (.ref so) nm pl) Q E ⟨h, g, d, t, os⟩ := by
  have hlk := F.ks_slot_super_ga.lookup
  have hT : ∀ t', (⟨h, g, d, t', os⟩ : Shared).TypeIs (.ref so) "super" := fun _ => ⟨_, hso, rfl⟩
  unfold getMethod
  refine wpAny_bind (wpAny_specialOf (hT _) hlk ?_)
  show wpAny _ _ (if (Manifest.canonical "super.__getattribute__" != "object.__getattribute__") = true then _ else _) _ _ _
  rw [if_pos F.ks_canon_super_ga]
  unfold getAttr getAttrBy
  refine wpAny_bind (wpAny_bind (wpAny_mkText (wpAny_holding (wpAny_bind (wpAny_typeOf (hT _) (wpAny_bind (wpAny_of_eq hlk ?_)))))))
  show wpAny _ _ (getAttrByItsOwn (.ref so) (.str nm t) (.type "super") (.builtin "super.__getattribute__") true false) _ _ _
  unfold getAttrByItsOwn hookBefore callGetattribute boundAndCalled
  refine wpAny_bind (wpAny_of_eq (show (if onTheHeap (.type "super") then typeLookup (.type "super") "__getattr__" else pure none) = pure none from rfl) ?_)
  refine wpAny_bind (wpAny_attempt (wpAny_holding ?_))
  show wpAny _ _ (bindSpecial (.builtin "super.__getattribute__") (.ref so) >>= _) _ _ _
  refine wpAny_bind (wpAny_of_eq (F.ks_slot_super_ga.bind _) (wpAny_mono (Q := fun v s' => v = .ref h.objs.size ∧ s' = ⟨h.push (mw x), g, d, t + 1, os⟩) (E := fun _ _ => False)
    (wpAny_call_entry F.ks_slot_super_ga (hT _) F.ks_entry_super_ga (sup_ga hso hno hC hl X hf hxC hn hin ⟨_, rfl, rfl, rfl⟩) (F.ks_gaArgs_super _ _)) (fun v s' hv => ?_) fun _ _ z => z.elim))
  obtain ⟨rfl, rfl⟩ := hv
  exact wpAny_pure (wpAny_pure hq)
theorem callWith_mw {s : Shared} {pos : Pos} {u x : Addr} {first : List Value} {env : Env} {e : Expr} {rest : List Expr} {Q : Value → Shared → Prop}
    (hh : wpAny M A (spliced (backTo pos (starEach (e :: rest) env))) (fun vs s₁ => s₁.heap.get? u = some (mw x) ∧ wpAny M A (call (.ref u) (first ++ vs)) Q E s₁) E s)
    (he : starEach (e :: rest) env = (false, eval e env) :: starEach rest env) (hp : (backTo pos (starEach rest env)).any (·.1) = false) : wpAny M A (callWith pos (.ref u) first (backTo pos (starEach (e :: rest) env)) []) Q E s := by
  have key : ∀ {args : List (Bool × Sem Value)}, args.any (·.1) = false → wpAny M A (evalArgs (.ref u) true args []) (fun a s₁ => s₁.heap.get? u = some (mw x) ∧ wpAny M A (call (.ref u) (first ++ a.pos) a.kw) Q E s₁) E s → wpAny M A (callWith pos (.ref u) first args []) Q E s := fun {args} hpl q => by
    unfold callWith
    refine wpAny_bind (wpAny_holding (wpAny_mono q (fun a s₁ h₁ => wpAny_bind (wpAny_standAt ?_)) fun _ _ x => x))
    obtain ⟨ho, hcall⟩ := h₁
    simp only [hpl, List.any_nil, Bool.or_false]
    refine wpAny_bind (m := keeperOf (.ref u)) ?_
    unfold keeperOf
    refine wpAny_bind (wpAny_load ho ?_)
    simp only [mw, show (Value.type "method-wrapper" != Value.type "method") = true by decide, show (Value.type "method-wrapper" == Value.type "builtin_function_or_method" || Value.type "method-wrapper" == Value.type "method-wrapper") = true by decide, if_true]
    exact wpAny_pure (wpAny_bind (wpAny_mono hcall (fun r s₂ hr => wpAny_bind (wpAny_holding (wpAny_point (wpAny_pure hr)))) fun _ _ x => x))
  rw [he] at hh ⊢
  exact key (by show (false || (backTo pos (starEach rest env)).any (·.1)) = false; rw [hp]; rfl) (evalArgs_plain hh)
end
section
variable {prog : Program} {w : World} {M : Model} {A : Around} {E : Value → Shared → Prop} {h : Heap} {g : Array GenState} {d : Drawn} {t : Nat} {os : OsState}
variable {nm q : Str} {C N : Addr} {bs bm bmB : List Value} {hdct : Bool} {sn : List Str} {sub : List Value} {ab : Bool} {col : Option Bool} {dd : Option Addr} {k0 k1 k2 k3 k5 : Option Value}
theorem call_mw {u e t0 : Addr} {rest : List Value} {Q : Value → Shared → Prop} (hC : h.get? C = some (excClassObj nm q C N bs bm hdct sn sub ab col dd k0 k1 k2 k3 k5 "ValueError.__new__")) (hT : ∀ X : String, bm.contains (.type X) = HandSPX.veTail.contains (.type X)) (he : h.get? e = some (HandSPX.excO C t0)) (hu : h.get? u = some (mw e)) (hrest : rest.length ≤ sizeLine)
    (hq : ∀ h' t1, (∀ b o, b ≠ e → h.get? b = some o → h'.get? b = some o) → h'.get? e = some (HandSPX.excO C t1) → Q .none ⟨h', g, d, t, os⟩) : wpAny (model prog w) A (call (.ref u) rest) Q E ⟨h, g, d, t, os⟩ := by
  refine wpAny_call (codeAny_of_tree ?_)
  show wpAny _ A.in1 (callAny (.ref u) ⟨rest, []⟩) _ _ _
  simp only [callAny]
  refine wpAny_bind (wpAny_load hu ?_)
  simp only [mw, show (Value.type "method-wrapper" == Value.type "method" || Value.type "method-wrapper" == Value.type "builtin_function_or_method" || Value.type "method-wrapper" == Value.type "method-wrapper") = true by decide, if_true]
  refine KFB.if_so (by decide) ?_
  refine wpAny_bind (?_ : wpAny _ _ (checkBoundCall "ValueError.__init__" ⟨.ref e :: rest, []⟩) _ _ _)
  have FB := F.excBase_ValueError
  have hshort := FB.noStar
  simp only [checkBoundCall, FB.initKind, FB.initRow]
  repeat (first | (with_reducible refine wpAny_loadPart_at he ?_) | (with_reducible refine wpAny_loadPart_at hC ?_) | wp_step)
  refine wpAny_onRaise ?_
  rw [show ∀ (a b : String) (n : Nat), Bind.check ⟨.positional, "*", "ValueError", .self, [⟨"args", .varPos, false⟩]⟩ a b n (List.map (fun x => x.fst) ({ pos := Value.ref e :: rest } : Args).kw) = pure () from fun a b n => check_star_args _ _ _ _ _ _]
  refine wpAny_pure (wpAny_pure ?_)
  refine ⟨Code.quiet_builtin _ (by decide +kernel), codeAny_builtin FB.initEntry ?_⟩
  rw [Around.under_plainId FB.init.plain _]
  wp_walk
  refine hq _ h.objs.size (fun b o hb ho => ?_) ?_
  · rw [Heap.get?_update_other _ _ (Ne.symm hb)]
    exact Heap.get?_push_of_some _ ho
  · rw [Heap.get?_update_self _ (Heap.get?_push_of_some _ he) rfl]
    rfl
end
end L2.Dl.VE
end

section
set_option maxRecDepth 100000
set_option maxHeartbeats 4000000
/-! The __init__ of an own error class, as a def that keeps a promise. -/
namespace L2.Dl
open PySem PySem.Spec PyProof.Rows

/-- what the written part says of such a class and its __init__ -/
structure ErI (P : Program) (K : PySem.W.Frag) (C f cda cc : Addr) (fd : FuncData) (x qual : Str) (params : Arguments) (body : List Stmt) (scope : Scope) : Prop where
  fn : ∃ (oc : Value) (od : Option Addr) (dV kV doc pm ct : Value) (an : Option Addr) (osl : Array (Option Value)), fd = PySem.W.ksFn x qual params body scope dV kV doc pm an (.ref cda) ct cc ∧ K.lookup f = some ⟨oc, od, .func fd, osl⟩
  cd : PySem.W.codeIn K (.ref cda) qual = true
  file : ∃ (ccl : Value) (cdd : Option Addr) (vs : Array Value) (ccs : Array (Option Value)) (fl : Str) (tf : Tok), K.lookup cda = some ⟨ccl, cdd, .fields vs, ccs⟩ ∧ vs[2]? = some (.str fl tf) ∧ ((P.main.file : Str) == fl) = true
  cell : ∃ (cl : Value) (cld : Option Addr) (csl : Array (Option Value)), K.lookup cc = some ⟨cl, cld, .cell (some (.ref C)), csl⟩
  mro : ∃ cd, PySem.W.clsIn K C = some cd ∧ PySem.W.alongIn K "__init__" ((cd.mro.dropWhile (· != .ref C)).drop 1) = some (some (.builtin "ValueError.__init__"))
  sub : PySem.W.mroIn K C (.ref C) = some true
  ve : PySem.W.mroIn K C (.type "ValueError") = some true
  opq : PySem.W.nsIn K cStatics "thirdparty.any" = some none
  oex : OexC K C
section
variable {P : Program} {w : World} {K : PySem.W.Frag} {mg : Str → Option Value} {base : Heap} {N : List Str} {f cda cc C a : Addr} {fd : FuncData} {x qual : Str} {params : Arguments} {body : List Stmt} {scope : Scope} {A : Around} {outer : List Env} {s0 : Shared} {H0 : Hp} {E : XK}
/-- the function as HandS.Nested tells it -/
abbrev nfE (x qual : Str) (params : Arguments) (body : List Stmt) (scope : Scope) (cda cc : Addr) : NdefX.NF := ⟨x, qual, params, body, scope, [("__class__", cc)], cda⟩
abbrev cxE (P : Program) (w : World) (K : PySem.W.Frag) (mg : Str → Option Value) (base : Heap) (N : List Str) (F : NdefX.NF) (f : Addr) (A : Around) (outer : List Env) (s0 : Shared) (H0 : Hp) (E : XK) : Cx := NdefX.ncx (L2.CX P w) P w K mg base N F f A outer s0 H0 E
/-- super().__init__(..): nothing that is tracked changes -/
theorem sup_step {σ : St} {H : Hp} {s : Shared} {e : Expr} {es : List Expr} {p0 p1 p2 p3 p4 : Pos} {t : TA} {ar : Arg} {pl : Sem Bool} {bd : List Stmt}
    (X : ErI P K C f cda cc fd x qual params body scope) (I : Inv (cxE P w K mg base N (nfE x qual params body scope cda cc) f A outer s0 H0 E) [] σ H s)
    (hp : (params.posonlyargs ++ params.args).head? = some ar) (hN : N[0]? = some ar.arg) (h0 : σ[0]? = some (some (.ref a))) (ea : H a = some (exo a C none))
    (hks : scope.names.lookup ("super" : Str) = some .globalImplicit) (hkc : scope.names.lookup ("__class__" : Str) = some .free) (hka : scope.names.lookup ar.arg = some .local) (hk : scope.kind = .function)
    (htop : (P.main.scope.names.lookup ("super" : Str)).isSome = false) (hsup : mg "super" = none)
    (ha : PA (cxE P w K mg base N (nfE x qual params body scope cda cc) f A outer s0 H0 E) (e :: es) t) (q : t σ H fun vs H1 => H1 = H ∧ vs.length ≤ 1000)
    (hev : ∀ env : Env, eval (.Call (.Attribute (.Call (.Name "super" p0) [] [] p1) "__init__" p2) (e :: es) [] p3) env = (do
      let ov ← attributeBase (.Call (.Name "super" p0) [] [] p1) "__init__" env (eval (.Call (.Name "super" p0) [] [] p1) env)
      standAt p2.atName
      let (f, first) ← holding [ov] (getMethod ov "__init__" pl)
      callWith p3 f first (backTo p3 (starEach (e :: es) env)) []))
    (hst : ∀ env : Env, starEach (e :: es) env = (false, eval e env) :: starEach es env) (hpl : ∀ env : Env, (backTo p3 (starEach es env)).any (·.1) = false)
    (hsw : ∀ env : Env, swapsWith (.Call (.Attribute (.Call (.Name "super" p0) [] [] p1) "__init__" p2) (e :: es) [] p3) none p4.line env = pure false) :
    _root_.PySem.wpAt (model P w) (A.deeper (NdefX.envF (nfE x qual params body scope cda cc) f s0.heap.objs.size)) (.func bd (NdefX.envF (nfE x qual params body scope cda cc) f s0.heap.objs.size))
      (exec (.Expr (.Call (.Attribute (.Call (.Name "super" p0) [] [] p1) "__init__" p2) (e :: es) [] p3) p4) (NdefX.envF (nfE x qual params body scope cda cc) f s0.heap.objs.size))
      (fun fl s' => fl = .next ∧ Inv (cxE P w K mg base N (nfE x qual params body scope cda cc) f A outer s0 H0 E) [] σ H s') (cxE P w K mg base N (nfE x qual params body scope cda cc) f A outer s0 H0 E).xe s := by
  obtain ⟨oc, od, dV, kV, doc, pm, ct, an, osl, hfd, hlf⟩ := X.fn
  obtain ⟨ccl, cdd, vsf, ccs, fl, tf, hcda, hvs, hfile⟩ := X.file
  obtain ⟨cl, cld, csl, hcell⟩ := X.cell
  obtain ⟨cdC, hcls, hal⟩ := X.mro
  obtain ⟨cnm, cq, cN, cbs, cbm, csn, csub, cab, ccol, cdl, k0, k1, k2, k3, k5, hoC, hbm⟩ := X.oex.cls
  have KI : K.In s.heap := I.kIn
  obtain ⟨m, hns, hl⟩ := I.loc
  obtain ⟨u, ru, lu⟩ := hl 0 ar.arg (.ref a) hN h0 (.inl hka)
  obtain rfl : u = Value.ref a := ru
  have hma : m ar.arg = some (.ref a) := by
    rcases lu with ⟨_, hm⟩ | ⟨hk2, _⟩
    · exact hm
    · have hk2 : scope.names.lookup ar.arg = some .cell ∨ scope.names.lookup ar.arg = some .free := hk2
      rw [hka] at hk2
      rcases hk2 with z | z <;> cases z
  obtain ⟨t1, hea⟩ := exo_at I.hok ea
  have hcC : s.heap.get? C = _ := KI _ _ hoC
  have ISA : PySem.W.InstAt s.heap a _ C none := ⟨hea, rfl, rfl, trivial⟩
  obtain ⟨mb, hb1, hb2⟩ := I.mod.blt
  refine ks_wpAt_Expr_any (ks_wpAt_MethodCall (pl := pl) ?_ (hev _)) I.quiet (hsw _)
  refine ks_wpAt_super_base (prog := P) (w := w) (env := NdefX.envF (nfE x qual params body scope cda cc) f s0.heap.objs.size) hks hkc rfl rfl (KI _ _ hlf) rfl (by rw [hfd]; exact hp) rfl (KI _ _ hcda) rfl hvs hfile htop ?_
  refine PySem.W.ks_loadName_global hk hks (Calls.loadGlobal_builtin (by exact I.mod.glob.keeps I.bk) hsup (by exact hb1.keeps I.bk) ((hb2 _ (by decide)).trans (by rfl)) ⟨rfl, ?_⟩)
  refine wpAny_loadName_free hk hkc rfl ⟨_, KI _ _ hcell, rfl⟩ ?_
  refine wpAny_loadName_local hk hka hns hma ?_
  refine ks_wpAny_isType_cls hcC rfl ⟨rfl, ?_⟩
  obtain ⟨hh, gg, dd, tt, os⟩ := s
  refine ks_wpAny_call_super hcC rfl hea rfl (fun c z => nomatch z) (PySem.W.looks_mroIn KI X.sub) (fun h1 e1 k1 => ?_)
  have I1 : Inv (cxE P w K mg base N (nfE x qual params body scope cda cc) f A outer s0 H0 E) [] σ H ⟨h1, gg, dd, tt, os⟩ := I.kept (t' := tt) k1
  have ISA1 : PySem.W.InstAt h1 a _ C none := ⟨k1 _ _ hea, rfl, rfl, trivial⟩
  have neC : a ≠ C := fun z => by
    have q := hea
    rw [z, hcC] at q
    cases q
  refine VE.sup_meth (K := K) (l₀ := cdC.mro) (D := C) e1 (PySem.W.looks_opaque I1.kIn X.opq) (fun A Q E s k q => wpAny_bind ((PySem.W.looks_clsIn I1.kIn hcls) A _ E s k (wpAny_pure q))) rfl I1.kIn hal neC (by decide)
    (ISA1.type.andThen (PySem.W.looks_mroIn I1.kIn X.ve)) ?_
  have ku : ∀ b o, h1.get? b = some o → (h1.push (VE.mw a)).get? b = some o := fun b o z => Heap.get?_push_of_some _ z
  have I2 : Inv (cxE P w K mg base N (nfE x qual params body scope cda cc) f A outer s0 H0 E) [] σ H ⟨h1.push (VE.mw a), gg, dd, tt + 1, os⟩ := I1.kept (t' := tt + 1) ku
  have hu : (h1.push (VE.mw a)).get? h1.objs.size = some (VE.mw a) := Heap.get?_push_size _ rfl
  have fp : FpOk (cxE P w K mg base N (nfE x qual params body scope cda cc) f A outer s0 H0 E) [] H h1.objs.size := I1.fpOk (Nat.le_refl _) (I1.hok.fresh (Nat.le_refl _))
  obtain ⟨f0, f1, f2, f3, f4, f5⟩ := fp
  have I3 : Inv (cxE P w K mg base N (nfE x qual params body scope cda cc) f A outer s0 H0 E) [(h1.objs.size, VE.mw a)] σ H ⟨h1.push (VE.mw a), gg, dd, tt + 1, os⟩ := I2.pins_of fun p hp => by
    rcases List.mem_singleton.mp hp with rfl
    exact ⟨hu, f0, f1, f2, fun v z => nomatch z⟩
  refine VE.callWith_mw (x := a) (thn (ha.run p3 [(h1.objs.size, VE.mw a)] _ σ H _ I3 q) fun us s4 ⟨vs, H4, I4, r4, eH, hl4⟩ => ?_) (hst _) (hpl _)
  subst eH
  obtain ⟨hu4, _⟩ := I4.pin (h1.objs.size, VE.mw a) (List.mem_append_right _ List.mem_cons_self)
  refine ⟨hu4, ?_⟩
  obtain ⟨t4, hea4⟩ := exo_at I4.hok ea
  obtain ⟨h4, g4, d4, t4', os4⟩ := s4
  refine VE.call_mw (I4.kIn _ _ hoC) (fun Y => PySem.HandSPX.refsVE_contains Y cbm hbm) hea4 hu4 (by show ([] ++ us).length ≤ sizeLine; rw [List.nil_append, ← r4.length]; exact Nat.le_trans hl4 (by decide)) fun h' t5 k5 hx5 => ⟨rfl, ?_⟩
  have J := I4.write (t' := t4') (x := a) (e := a) (o := exo a C none) (by rw [ea]; exact True.intro) (.inl rfl) k5 ⟨_, hx5⟩ (exo_ok hx5)
  have eu : upd H4 a (exo a C none) = H4 := by
    funext b
    by_cases hb : b = a
    · rw [hb, upd_same, ea]
    · rw [upd_ne hb]
  rw [eu] at J
  exact J.pins_of fun p hp => by cases hp
theorem one_look {k y : Str} {c c' : Addr} (h : [(k, c)].lookup y = some c') : y = k ∧ c' = c := by
  rw [List.lookup_cons] at h
  cases q : y == k with
  | true => rw [q] at h; exact ⟨eq_of_beq q, (Option.some.inj h).symm⟩
  | false => rw [q] at h; cases h
/-- what the __init__ does: the parameters are stored under the names ns -/
def spErr (C : Addr) (ns : List Str) : Sp := fun vs H Q _ => ∃ (a : Addr) (ws : List V), vs = .ref a :: ws ∧ ws.length = ns.length ∧ H a = some (exo a C none) ∧
  ∀ (d : Addr) (H2 : Hp), H d = none → d ≠ a → H2 a = some (exo a C (some d)) → H2 d = some (exd d (ns.zip ws).reverse) → (∀ b, b ≠ a → b ≠ d → H2 b = H b) → Q .non H2
theorem err_fn {ns : List Str} {k : Nat} {ps : List Str} {e : Expr} {es : List Expr} {p0 p1 p2 p3 p4 : Pos} {ar : Arg} {pl : Sem Bool} {rest : List Stmt} {t : St → TA} {tr : TS}
    (X : ErI P K C f cda cc fd x qual params body scope) (S : NdefX.NScope N ps ["__class__"] scope) (hns : ps.length = ns.length + 1)
    (hbd : body = .Expr (.Call (.Attribute (.Call (.Name "super" p0) [] [] p1) "__init__" p2) (e :: es) [] p3) p4 :: rest)
    (hp : (params.posonlyargs ++ params.args).head? = some ar) (hN : N[0]? = some ar.arg)
    (hks : scope.names.lookup ("super" : Str) = some .globalImplicit) (hka : scope.names.lookup ar.arg = some .local)
    (htop : (P.main.scope.names.lookup ("super" : Str)).isSome = false) (hsup : mg "super" = none)
    (ha : ∀ (A : Around) (outer : List Env) (s0 : Shared) (H0 : Hp) (E : XK) (vs : List V), PA (cxE P w K mg base N (nfE x qual params body scope cda cc) f A outer s0 H0 E) (e :: es) (t (NdefX.startF N vs [none])))
    (hq : ∀ (vs : List V) (H : Hp), vs.length = ps.length → t (NdefX.startF N vs [none]) (NdefX.startF N vs [none]) H fun ws H1 => H1 = H ∧ ws.length ≤ 1000)
    (hr : ∀ (A : Around) (outer : List Env) (s0 : Shared) (H0 : Hp) (E : XK), PSs (cxE P w K mg base N (nfE x qual params body scope cda cc) f A outer s0 H0 E) rest tr)
    (htr : ∀ (a : Addr) (ws : List V) (H : Hp) (D : Ends), ws.length = ns.length → H a = some (exo a C none) →
      (∀ (d : Addr) (H2 : Hp) (σ : St), H d = none → d ≠ a → H2 a = some (exo a C (some d)) → H2 d = some (exd d (ns.zip ws).reverse) → (∀ b, b ≠ a → b ≠ d → H2 b = H b) → D.nx σ H2) → tr D (NdefX.startF N (.ref a :: ws) [none]) H)
    (hev : ∀ env : Env, eval (.Call (.Attribute (.Call (.Name "super" p0) [] [] p1) "__init__" p2) (e :: es) [] p3) env = (do
      let ov ← attributeBase (.Call (.Name "super" p0) [] [] p1) "__init__" env (eval (.Call (.Name "super" p0) [] [] p1) env)
      standAt p2.atName
      let (f, first) ← holding [ov] (getMethod ov "__init__" pl)
      callWith p3 f first (backTo p3 (starEach (e :: es) env)) []))
    (hst : ∀ env : Env, starEach (e :: es) env = (false, eval e env) :: starEach es env) (hpl : ∀ env : Env, (backTo p3 (starEach es env)).any (·.1) = false)
    (hsw : ∀ env : Env, swapsWith (.Call (.Attribute (.Call (.Name "super" p0) [] [] p1) "__init__" p2) (e :: es) [] p3) none p4.line env = pure false) :
    FnOk P w K mg base (L2.CX P w) (k + 1) f fd ps (spErr C ns) := by
  refine ⟨fun vs H Q E ⟨a, ws, e1, e2, _⟩ => by rw [e1, List.length_cons, e2, hns], fun A outer s H args us vs Q E hr0 e0 hb r ⟨a, ws, e1, e2, ea, hQ⟩ => ?_⟩
  subst e1
  obtain ⟨oc, od, dV, kV, doc, pm, ct, an, osl, hfd, hlf⟩ := X.fn
  have KX : K.In s.heap := e0.mod.kin.keeps fun b o e => (e0.bs b o e).1
  have lim : s.heap.NoLimit := e0.mod.nolimit.keeps fun b o e => (e0.bs b o e).1
  obtain ⟨cl, cld, csl, hcell⟩ := X.cell
  have hl : (V.ref a :: ws).length = ps.length := by rw [List.length_cons, e2, hns]
  have CA : NdefX.CellsAt [("__class__", cc)] ["__class__"] [none] s.heap H := by
    refine ⟨rfl, fun y c z => ?_, fun y z c h1 h2 => ?_, fun i y hi => ?_⟩
    · obtain ⟨_, rfl⟩ := one_look z
      refine ⟨?_, _, _, KX _ _ hcell, rfl⟩
      have hbc : base.get? c = _ := e0.mod.kin _ _ hcell
      exact (e0.bs _ _ hbc).2
    · rw [(one_look h1).1, (one_look h2).1]
    · cases i with
      | zero => cases hi; exact ⟨cc, rfl, fun v z => by cases z⟩
      | succ i => simp at hi
  have hcd := PySem.W.codeRec_of KX X.cd
  subst hfd
  refine ks_codeAny_call_defAt (body := body) (binds := ps.zip us) hr0.depth (KX _ _ hlf) rfl lim hcd rfl hb (fun y hy => S.nocell y hy) (fun ⟨n, v⟩ hy => S.par n (List.of_mem_zip hy).1) (fun h₀ hns0 kp => ?_) S.co S.gen S.kind
  have I0 := NdefX.inv_startN (CX := L2.CX P w) (mg := mg) (base := base) (K := K) (P := P) (w := w) (F := nfE x qual params body scope cda cc) (f := f) (A := A) (outer := outer) (s := s) (E := E) (ws := [none]) (tk := s.toks + (ps.zip us).length) S hr0.hd e0 hl r CA hns0 kp
  have hkc : scope.names.lookup ("__class__" : Str) = some .free := S.frk _ List.mem_cons_self
  have goal : _root_.PySem.wpAt (model P w) (A.deeper (NdefX.envF (nfE x qual params body scope cda cc) f s.heap.objs.size)) (.func body (NdefX.envF (nfE x qual params body scope cda cc) f s.heap.objs.size))
      (execs body (NdefX.envF (nfE x qual params body scope cda cc) f s.heap.objs.size)) (fun fl s' => CR (L2.CX P w) outer P w H s Q E (.ok (.ret (match fl with | .ret v => v | _ => .none))) s')
      (cxE P w K mg base N (nfE x qual params body scope cda cc) f A outer s H E).xe { s with heap := h₀, toks := s.toks + (ps.zip us).length } := by
    rw [show execs body = execs (.Expr (.Call (.Attribute (.Call (.Name "super" p0) [] [] p1) "__init__" p2) (e :: es) [] p3) p4 :: rest) by rw [← hbd]]
    refine ks_wpAt_execs_cons (ks_wpAt_mono (sup_step X I0 hp hN rfl ea hks hkc hka S.kind htop hsup (ha A outer s H E (.ref a :: ws)) (hq _ H hl) hev hst hpl hsw) (fun fl s' ⟨e3, J⟩ => ?_) fun _ _ z => z)
    subst e3
    refine wpAt_of_wpAny (wpAny_mono ((hr A outer s H E).run [] s' _ H { nx := fun _ H' => Q .non H', rt := Q } J (htr a ws H _ e2 ea fun d H2 σ q1 q2 q3 q4 q5 => hQ d H2 q1 q2 q3 q4 q5)) (fun fl s2 hs => ?_) fun _ _ z => z)
    cases fl with
    | ret u => obtain ⟨v, σ', H', J', rv, q⟩ := hs; exact ⟨v, H', J'.os, J'.bare, J'.base, J'.hok, rv, q⟩
    | next => obtain ⟨σ', H', J', q⟩ := hs; exact ⟨.non, H', J'.os, J'.bare, J'.base, J'.hok, rfl, q⟩
    | brk => obtain ⟨_, _, _, q⟩ := hs; exact q.elim
    | cont => obtain ⟨_, _, _, q⟩ := hs; exact q.elim
  exact goal
theorem NScope.vis {ps fr : List Str} (S : NdefX.NScope N ps fr scope) {i : Nat} {y : Str} (h : ps[i]? = some y) : N[i]? = some y ∧ scope.names.lookup y = some .local := by
  refine ⟨?_, S.par y (List.mem_of_getElem? h)⟩
  have hi : i < ps.length := (List.getElem?_eq_some_iff.mp h).1
  have e : (N.take (ps.length + fr.length))[i]? = some y := by
    rw [S.pre, List.getElem?_append_left hi]
    exact h
  rwa [List.getElem?_take_of_lt (by omega)] at e
theorem upd2_ne {H : Hp} {a d b : Addr} {o u : HO} (h1 : b ≠ a) (h2 : b ≠ d) : upd (upd H d o) a u b = H b := by rw [upd_ne h1, upd_ne h2]
theorem err2_ok {k : Nat} {ar : Arg} {x1 x2 f1 f2 : Str} {p0 p1 p2 p3 p4 q0 q1 q2 q3 q4 q5 q6 r1 r2 r3 r4 : Pos} {pl : Sem Bool}
    (X : ErI P K C f cda cc fd x qual params body scope) (S : NdefX.NScope N [ar.arg, x1, x2] ["__class__"] scope)
    (hbd : body = [.Expr (.Call (.Attribute (.Call (.Name "super" p0) [] [] p1) "__init__" p2) [.Name x1 r1, .Name x2 r2] [] p3) p4, .Assign [.Attribute (.Name ar.arg q0) f1 q1] (.Name x1 r3) q2, .Assign [.Attribute (.Name ar.arg q3) f2 q4] (.Name x2 r4) q5])
    (hp : (params.posonlyargs ++ params.args).head? = some ar) (hks : scope.names.lookup ("super" : Str) = some .globalImplicit) (htop : (P.main.scope.names.lookup ("super" : Str)).isSome = false) (hsup : mg "super" = none)
    (n1 : PySem.W.findIn K (.ref C) f1 = some none) (n2 : PySem.W.findIn K (.ref C) f2 = some none)
    (hd0 : (ar.arg == ("__debug__" : Str)) = false) (hd1 : (x1 == ("__debug__" : Str)) = false) (hd2 : (x2 == ("__debug__" : Str)) = false) (hc0 : (ar.arg == ("__classdict__" : Str)) = false) (hc1 : (x1 == ("__classdict__" : Str)) = false) (hc2 : (x2 == ("__classdict__" : Str)) = false)
    (hev : ∀ env : Env, eval (.Call (.Attribute (.Call (.Name "super" p0) [] [] p1) "__init__" p2) [.Name x1 r1, .Name x2 r2] [] p3) env = (do
      let ov ← attributeBase (.Call (.Name "super" p0) [] [] p1) "__init__" env (eval (.Call (.Name "super" p0) [] [] p1) env)
      standAt p2.atName
      let (f, first) ← holding [ov] (getMethod ov "__init__" pl)
      callWith p3 f first (backTo p3 (starEach [.Name x1 r1, .Name x2 r2] env)) [])) :
    FnOk P w K mg base (L2.CX P w) (k + 1) f fd [ar.arg, x1, x2] (spErr C [f1, f2]) := by
  have v0 := NScope.vis S (i := 0) (y := ar.arg) rfl
  have v1 := NScope.vis S (i := 1) (y := x1) rfl
  have v2 := NScope.vis S (i := 2) (y := x2) rfl
  refine err_fn (ns := [f1, f2]) (t := fun _ => tCons (tVar 1) (tCons (tVar 2) tNil)) (tr := tSeq (tOst K f1 (tVar 0) (tVar 1)) (tOst K f2 (tVar 0) (tVar 2))) X S rfl hbd hp v0.1 hks v0.2 htop hsup ?_ ?_ ?_ ?_ hev (fun _ => rfl) (fun _ => rfl) (fun _ => rfl)
  · intro A outer s0 H0 E vs
    exact pa_cons (pe_var v1.1 (.inl v1.2) hd1 hc1) (pa_cons (pe_var v2.1 (.inl v2.2) hd2 hc2) pa_nil)
  · intro vs H hl
    match vs, hl with
    | [a, b, c], _ => exact ⟨b, rfl, c, rfl, rfl, by show 2 ≤ 1000; decide⟩
  · intro A outer s0 H0 E
    exact pss_cons (ps_ost (pe_var v0.1 (.inl v0.2) hd0 hc0) (pe_var v1.1 (.inl v1.2) hd1 hc1)) (pss_one (ps_ost (pe_var v0.1 (.inl v0.2) hd0 hc0) (pe_var v2.1 (.inl v2.2) hd2 hc2)))
  · intro a ws H D hl ea hD
    match ws, hl with
    | [b, c], _ =>
      refine ⟨b, rfl, .ref a, rfl, a, C, rfl, X.oex, n1, .inl ⟨ea, fun dx hdx ne => ?_⟩⟩
      refine ⟨c, rfl, .ref a, rfl, a, C, rfl, X.oex, n2, .inr ⟨dx, _, upd_same, by rw [upd_ne ne]; exact upd_same, by show 1 ≤ 900; decide, ?_⟩⟩
      exact hD dx _ _ hdx ne (by rw [upd_ne (Ne.symm ne)]; exact upd_same) upd_same fun b h1 h2 => by rw [upd_ne h2, upd_ne h1, upd_ne h2]
theorem err1_ok {k : Nat} {ar : Arg} {x1 f1 : Str} {p0 p1 p2 p3 p4 q0 q1 q2 r1 r3 : Pos} {pl : Sem Bool}
    (X : ErI P K C f cda cc fd x qual params body scope) (S : NdefX.NScope N [ar.arg, x1] ["__class__"] scope)
    (hbd : body = [.Expr (.Call (.Attribute (.Call (.Name "super" p0) [] [] p1) "__init__" p2) [.Name x1 r1] [] p3) p4, .Assign [.Attribute (.Name ar.arg q0) f1 q1] (.Name x1 r3) q2])
    (hp : (params.posonlyargs ++ params.args).head? = some ar) (hks : scope.names.lookup ("super" : Str) = some .globalImplicit) (htop : (P.main.scope.names.lookup ("super" : Str)).isSome = false) (hsup : mg "super" = none)
    (n1 : PySem.W.findIn K (.ref C) f1 = some none)
    (hd0 : (ar.arg == ("__debug__" : Str)) = false) (hd1 : (x1 == ("__debug__" : Str)) = false) (hc0 : (ar.arg == ("__classdict__" : Str)) = false) (hc1 : (x1 == ("__classdict__" : Str)) = false)
    (hev : ∀ env : Env, eval (.Call (.Attribute (.Call (.Name "super" p0) [] [] p1) "__init__" p2) [.Name x1 r1] [] p3) env = (do
      let ov ← attributeBase (.Call (.Name "super" p0) [] [] p1) "__init__" env (eval (.Call (.Name "super" p0) [] [] p1) env)
      standAt p2.atName
      let (f, first) ← holding [ov] (getMethod ov "__init__" pl)
      callWith p3 f first (backTo p3 (starEach [.Name x1 r1] env)) [])) :
    FnOk P w K mg base (L2.CX P w) (k + 1) f fd [ar.arg, x1] (spErr C [f1]) := by
  have v0 := NScope.vis S (i := 0) (y := ar.arg) rfl
  have v1 := NScope.vis S (i := 1) (y := x1) rfl
  refine err_fn (ns := [f1]) (t := fun _ => tCons (tVar 1) tNil) (tr := tOst K f1 (tVar 0) (tVar 1)) X S rfl hbd hp v0.1 hks v0.2 htop hsup ?_ ?_ ?_ ?_ hev (fun _ => rfl) (fun _ => rfl) (fun _ => rfl)
  · intro A outer s0 H0 E vs
    exact pa_cons (pe_var v1.1 (.inl v1.2) hd1 hc1) pa_nil
  · intro vs H hl
    match vs, hl with
    | [a, b], _ => exact ⟨b, rfl, rfl, by show 1 ≤ 1000; decide⟩
  · intro A outer s0 H0 E
    exact pss_one (ps_ost (pe_var v0.1 (.inl v0.2) hd0 hc0) (pe_var v1.1 (.inl v1.2) hd1 hc1))
  · intro a ws H D hl ea hD
    match ws, hl with
    | [b], _ =>
      refine ⟨b, rfl, .ref a, rfl, a, C, rfl, X.oex, n1, .inl ⟨ea, fun dx hdx ne => ?_⟩⟩
      exact hD dx _ _ hdx ne upd_same (by rw [upd_ne ne]; exact upd_same) fun b h1 h2 => by rw [upd_ne h1, upd_ne h2]
end

/-! ### raise -/
/-- an error class, ready to be raised: its name, its fields -/
structure Er (P : Program) (w : World) (K : PySem.W.Frag) (mg : Str → Option Value) (base : Heap) (c : Str) (ns : List Str) (k : Nat) : Prop where
  ex : ∃ (C fI : Addr) (fd : FuncData) (ps : List Str), OexC K C ∧ PySem.W.findIn K (.ref C) "__init__" = some (some (.ref fI)) ∧ PySem.W.typeIn K (.ref fI) = some (.type "function") ∧ FnOk P w K mg base (L2.CX P w) k fI fd ps (spErr C ns) ∧ Binds K fd ps [] ∧ mg c = some (.ref C)
/-- raise c(..) -/
def sRaise (c : Str) (ns : List Str) (ml : M (List D)) : MS := fun ρ π => match ml ρ π with
  | .ok l π' => if l.length = ns.length ∧ l.length ≤ 1000 ∧ ns ≠ [] then .err c ns.reverse l.reverse π' else .bad
  | .err c ns fs π' => .err c ns fs π'
  | .bad => .bad
section
variable {T : List (Addr × Str)} {X : Cx} {E : XK} {e : Expr} {es : List Expr} {ml : M (List D)} {pos p pos' : Pos}
theorem RL.rev {g : G} {H : Hp} : ∀ {l : List D} {vs : List V}, RL g H l vs → RL g H l.reverse vs.reverse
  | [], vs, h => by rw [RL_nil.mp h]; exact RL.nil
  | d :: l, vs, h => by
    obtain ⟨v, t, rfl, r1, r2⟩ := RL_cons.mp h
    rw [List.reverse_cons, List.reverse_cons]
    exact RL.append (RL.rev r2) (RL.cons r1 RL.nil)
theorem zip_rev_snd : ∀ (ns : List Str) (ws : List V), ns.length = ws.length → (ns.zip ws).reverse.map (·.2) = ws.reverse := fun ns ws h => by
  rw [List.map_reverse, List.map_snd_zip (by omega)]
theorem zip_rev : ∀ (ns : List Str) (ws : List V), ns.length = ws.length → (ns.zip ws).reverse = ns.reverse.zip ws.reverse := fun ns ws h => by
  rw [List.zip_eq_zipWith, List.zip_eq_zipWith, List.reverse_zipWith h]
theorem gs_raise {c : Str} {ns : List Str} {k n : Nat} (Ec : Er X.prog X.w X.K X.mg X.base c ns k) (hr : Room n X.A) (hk : k + 1 ≤ n) (tk : Takes X (fun cls d _ H => E cls d H)) (hx : Passes (L2.CX X.prog X.w) X E0) (ha : GA T X E (e :: es) ml) (hc : X.calm = true := by rfl) (hg : Gl X c := by rfl)
    (hdb : (c == ("__debug__" : Str)) = false := by decide) (he : starEach (e :: es) X.env = (false, eval e X.env) :: starEach es X.env := by rfl) (hpl : (backTo pos (starEach es X.env)).any (·.1) = false := by rfl) :
    GS T X E (.Raise (some (.Call (.Name c p) (e :: es) [] pos)) none pos') (sRaise c ns ml) := by
  obtain ⟨C, fI, fd, ps, oc, iC, tI, G, hb, hm⟩ := Ec.ex
  refine ⟨ps_imp (ps_raise hc tk (pmk_oex oc iC tI (G.mono (j := k) (Nat.le_refl _)) (hr.mono hk) hb .nil hx hg hm ha.pa hdb he hpl)) fun D σ H ⟨pa, ca, O, H0, Λ, ρ, π, good, res⟩ => ?_⟩
  refine ⟨pa, ca, O, ρ, π, good.good, ?_⟩
  unfold sRaise at res
  cases z : ml ρ π with
  | bad => rw [z] at res; exact res.elim
  | err c' ns' fs' π' => rw [z] at res; exact fun C' dd H1 m s q => res C' dd H1 m (good.step s).out (q.mono hid_WW)
  | ok l π1 =>
    rw [z] at res
    simp only at res
    split at res
    case isFalse => exact res.elim
    rename_i hl
    intro vs H1 s r
    have g1 := good.step s
    have hvl : vs.length = l.length := RL.length r
    refine ⟨by omega, fun a ea => ?_⟩
    refine ⟨a, vs, by rw [List.append_nil], by omega, upd_same, fun d H2 hd ne e1 e2 e3 => ⟨rfl, d, _, e1, e2, ?_, ?_⟩⟩
    · rw [upd_ne ne] at hd; exact hd
    · have hd' : H1 d = none := by rw [upd_ne ne] at hd; exact hd
      have eH : upd (del H2 a) d (.xd (ns.zip vs).reverse) = upd H1 d (.xd (ns.zip vs).reverse) := by
        funext b
        by_cases hb : b = d
        · rw [hb, upd_same, upd_same]
        · rw [upd_ne hb, upd_ne hb]
          by_cases hba : b = a
          · rw [hba, del_same, ea]
          · rw [del_ne hba, e3 b hba hb, upd_ne hba]
      rw [eH]
      have s2 := g1.good.same (same_upd (o := .xd (ns.zip vs).reverse) hd')
      refine res C (some d) _ hm (g1.step s2).out ?_
      have hn : ns.reverse ≠ [] := fun q => hl.2.2 (List.reverse_eq_nil_iff.mp q)
      cases hr : ns.reverse with
      | nil => exact absurd hr hn
      | cons n0 nr =>
        rw [← hr]
        show match ns.reverse with | [] => _ | _ :: _ => _
        rw [hr]
        refine ⟨d, _, rfl, upd_same, fun f => ?_, ?_⟩
        · rw [zip_rev_snd ns vs (by omega), ← hr, zip_rev ns vs (by omega)]
        · rw [zip_rev_snd ns vs (by omega)]
          refine RL.ext ?_ _ (RL.rev r)
          exact Ext.trans hid_WW (by rw [hide_new (fun o => g1.good.fresh hd' (.inl o))]; exact ext_upd (hide_none hd'))
end
end L2.Dl
end

section
set_option maxRecDepth 100000
set_option maxHeartbeats 2000000
/-! Own classes over data: __init__, making an instance. -/
namespace L2.Dl
open PySem PySem.Spec PyProof.Rows

/-- a field is stored: in its place, or at the end -/
def putN (f : Str) (d : D) : List Str → List D → List Str × List D
  | [], _ => ([f], [d])
  | n :: ns, x :: xs => if n = f then (n :: ns, d :: xs) else (n :: (putN f d ns xs).1, x :: (putN f d ns xs).2)
  | n :: ns, [] => (n :: ns, [])
theorem putN_rel {g : G} {H : Hp} {f : Str} {d : D} {v : V} (r : R g H d v) : ∀ {ns : List Str} {fs : List D} {fvs : List (Str × V)}, fvs.map (·.1) = ns → RL g H fs (fvs.map (·.2)) →
    (putF f v fvs).map (·.1) = (putN f d ns fs).1 ∧ RL g H (putN f d ns fs).2 ((putF f v fvs).map (·.2))
  | ns, fs, [], h, q => by
    cases h
    have : fs = [] := by
      cases fs with
      | nil => rfl
      | cons d l => obtain ⟨_, _, e, _⟩ := RL_cons.mp q; cases e
    subst this
    exact ⟨rfl, RL.cons r RL.nil⟩
  | ns, fs, (n, x) :: fvs, h, q => by
    cases h
    cases fs with
    | nil => have := RL_nil.mp q; cases this
    | cons e fs =>
      obtain ⟨r1, r2⟩ := RL.inv q
      show (if n = f then (n, v) :: fvs else (n, x) :: putF f v fvs).map (·.1) = (if n = f then _ else _ : List Str × List D).1 ∧ RL g H (if n = f then _ else _ : List Str × List D).2 ((if n = f then (n, v) :: fvs else (n, x) :: putF f v fvs).map (·.2))
      by_cases e : n = f
      · rw [if_pos e, if_pos e]
        exact ⟨rfl, RL.cons r r2⟩
      · rw [if_neg e, if_neg e]
        obtain ⟨h1, h2⟩ := putN_rel r (fvs := fvs) rfl r2
        exact ⟨by rw [List.map_cons, h1], RL.cons r1 h2⟩
def insAt (ρ : Rho) (i : Nat) : Option (Str × List Str × List D) := match ρ[i]? with
  | some (.ow (.ins c ns fs)) => some (c, ns, fs)
  | _ => none
theorem insAt_eq {ρ : Rho} {i : Nat} {q : Str × List Str × List D} (h : insAt ρ i = some q) : ρ[i]? = some (.ow (.ins q.1 q.2.1 q.2.2)) := by
  unfold insAt at h
  split at h
  · cases h; assumption
  · cases h
/-- self.f = e -/
def sFld (cs : List Str) (i : Nat) (f : Str) (me : M D) : MS := sBind me fun d ρ π => match insAt ρ i with
  | some q => if q.1 ∈ cs ∧ q.2.1.length < 1000 then .nx (ρ.set i (.ow (.ins q.1 (putN f d q.2.1 q.2.2).1 (putN f d q.2.1 q.2.2).2))) π else .bad
  | none => .bad
section
variable {T : List (Addr × Str)} {X : Cx} {E : XK} {e : Expr} {es : List Expr} {me : M D} {ml : M (List D)} {pos pos' npos p : Pos}
theorem gs_fld {f : Str} (cs : List Str) (hc : ∀ c ∈ cs, ∀ C, X.mg c = some (.ref C) → Cls X.K C ∧ NoAttr X.K C f) (i : Nat) {x : Str} (h : GE T X E e me) (hN : X.N[i]? = some x := by rfl) (hv : Vis X.env.scope x := by first | exact Or.inl rfl | exact Or.inr (Or.inl rfl) | exact Or.inr (Or.inr rfl)) (hd : (x == ("__debug__" : Str)) = false := by decide) (hcd : (x == ("__classdict__" : Str)) = false := by decide)
    (hs : swapsWith e (some (.Attribute (.Name x npos) f pos')) pos.line X.env = pure false := by rfl) : GS T X E (.Assign [.Attribute (.Name x npos) f pos'] e pos) (sFld cs i f me) :=
  ⟨ps_imp (ps_fld (pe_var hN hv hd hcd) h.pe hs) fun D σ H ⟨pa, ca, O, H0, Λ, ρ, π, good, res⟩ => ⟨pa, ca, O, ρ, π, good.good, good.ex (k := fun d ρ π => match insAt ρ i with
    | some q => if q.1 ∈ cs ∧ q.2.1.length < 1000 then .nx (ρ.set i (.ow (.ins q.1 (putN f d q.2.1 q.2.2).1 (putN f d q.2.1 q.2.2).2))) π else .bad
    | none => .bad) res fun d π1 v H1 s r g1 res1 => by
    cases z : insAt ρ i with
    | none => simp only [z] at res1; exact res1.elim
    | some q =>
      obtain ⟨c, ns, fs⟩ := q
      simp only [z] at res1
      split at res1
      case isFalse => exact res1.elim
      rename_i hcl
      have ek := insAt_eq z
      have q0 := g1.good.sl i
      rw [ek] at q0
      obtain ⟨a, e1, ⟨C, dx, fvs, hm, ha, hn, hr⟩, hs⟩ := q0
      obtain ⟨k1, k2⟩ := hc c hcl.1 C hm
      obtain ⟨n1, n2⟩ := putN_rel (f := f) r hn hr
      refine ⟨_, e1, a, C, dx, fvs, rfl, ha, k1, k2, ?_, res1 _ _ (g1.mut i e1 (by rw [ek]; trivial) ⟨C, dx, _, hm, rfl, n1, n2⟩ hs)⟩
      have hn' : fvs.map (·.1) = ns := hn
      have : fvs.length = ns.length := by rw [← hn', List.length_map]
      rw [this]; exact hcl.2⟩⟩
end

/-! ### __init__ as a def -/
abbrev FnI := List D → Pen → Out Own
def runI (c : Str) (n : Nat) (m : MS) : FnI := fun ds π => match m (.ow (.ins c [] []) :: (ds.map Sl.sh ++ List.replicate (n - 1 - ds.length) .no)) π with
  | .nx ρ π' => match insAt ρ 0 with
    | some q => .ok (.ins q.1 q.2.1 q.2.2) π'
    | none => .bad
  | .err c ns fs π' => .err c ns fs π'
  | _ => .bad
def callI (n : Nat) (F : FnI) : FnI := fun ds π => if ds.length = n then F ds π else .bad
/-- the new instance at x, told -/
def relN (g : G) (O : Addr → Prop) (x : Addr) : Hp → Own → V → Prop := fun H k v => v = .non ∧ OwnOk g (hide (fun b => O b ∨ b = x) H) (H x) k
def spI (K : PySem.W.Frag) (mg : Str → Option Value) (T : List (Addr × Str)) (c : Str) (n : Nat) (F : FnI) : Sp := fun vs H1 Q E => ∃ (pa : Addr × Addr) (ca : Addr) (O : Addr → Prop) (H : Hp) (ds : List D) (π : Pen) (dx C : Addr) (ws : List V),
  vs = .ref pa.2 :: ws ∧ mg c = some (.ref C) ∧ H pa.2 = none ∧ H dx = none ∧ dx ≠ pa.2 ∧ H1 = upd (upd H dx (.own pa.2)) pa.2 (.ins C dx []) ∧ Good T ⟨K, mg, pa⟩ ca O [] H [] π ∧ RL ⟨K, mg, pa⟩ (hide O H) ds ws ∧
  Res (relN ⟨K, mg, pa⟩ O pa.2) T ⟨K, mg, pa⟩ ca O H (callI n F ds π) Q E
theorem spI_len {K : PySem.W.Frag} {mg : Str → Option Value} {T : List (Addr × Str)} {c : Str} {n : Nat} {F : FnI} {vs : List V} {H : Hp} {Q : VK} {E : XK} (h : spI K mg T c n F vs H Q E) : vs.length = n + 1 := by
  obtain ⟨pa, ca, O, H0, ds, π, dx, C, ws, rfl, _, _, _, _, _, _, r, res⟩ := h
  unfold callI at res
  split at res
  · rename_i e
    rw [List.length_cons, RL.length r, e]
  · exact res.elim
section
variable {P : Program} {w : World} {K : PySem.W.Frag} {mg : Str → Option Value} {base : Heap} {T : List (Addr × Str)}
theorem FunD.dataI {x qual c : Str} {params : Arguments} {body : List Stmt} {scope : Scope} {dvs : List V} {kws : List (Str × V)} {f : Addr} {fd : FuncData} {N ps : List Str} {k n : Nat} {m : MS} (F : FunD K x qual params body scope dvs kws f fd) (S : FnScope N ps scope) (hps : ps.length = n + 1)
    (hbody : ∀ (cdv : Value) (A : Around) (outer : List Env) (s : Shared) (H : Hp) (E : XK), Room k (A.deeper (envOfC qual scope s.heap.objs.size f cdv)) → GSs T (cxX P w K mg base N qual scope f cdv A outer s H E) E body m) :
    FnOk P w K mg base (L2.CX P w) (k + 1) f fd ps (spI K mg T c n (runI c N.length m)) := by
  refine F.ok S (fun vs H Q E h => by rw [spI_len h, hps]) fun cdv A outer s H1 vs Q E hr ⟨pa, ca, O, H, ds, π, dx, C, ws, e1, hm, hx, hdx, ne, e2, good, r, res⟩ => ⟨_, (hbody cdv A outer s H1 E hr).pss, ?_⟩
  subst e1 e2
  unfold callI at res
  split at res
  case isFalse => exact res.elim
  rename_i hl
  have hN : n + 1 ≤ N.length := by
    have := congrArg List.length S.pre
    rw [List.length_take, hps] at this
    omega
  have hwl := RL.length r
  have nO : ¬ O pa.2 := fun o => by have := good.al _ o; rw [hx] at this; exact this
  have nd : ¬ O dx := fun o => by have := good.al _ o; rw [hdx] at this; exact this
  have same : Same H (upd (upd H dx (.own pa.2)) pa.2 (.ins C dx [])) := fun b o e => by
    rw [upd_ne (ne_of_none e hx), upd_ne (ne_of_none e hdx)]
    exact e
  have est : start N (.ref pa.2 :: ws) = some (.ref pa.2) :: (ws.map some ++ List.replicate (N.length - 1 - ds.length) none) := by
    unfold start
    rw [List.map_cons, List.cons_append, List.length_cons, hwl]
    congr 3
    omega
  have no : ∀ i : Nat, ¬ isO (ds.map Sl.sh ++ List.replicate (N.length - 1 - ds.length) .no)[i]? := fun i q => by
    cases z : (ds.map Sl.sh ++ List.replicate (N.length - 1 - ds.length) Sl.no)[i]? with
    | none => rw [z] at q; exact q
    | some r =>
      rw [z] at q
      rcases List.mem_append.mp (List.mem_of_getElem? z) with hm | hm
      · obtain ⟨d, _, rfl⟩ := List.mem_map.mp hm; exact q
      · obtain ⟨_, rfl⟩ := List.mem_replicate.mp hm; exact q
  have ow0 : ∀ (i : Nat) b, (start N (.ref pa.2 :: ws))[i]? = some (some (.ref b)) → isO (Sl.ow (.ins c [] []) :: (ds.map Sl.sh ++ List.replicate (N.length - 1 - ds.length) .no))[i]? → i = 0 ∧ b = pa.2 := fun i b h1 h2 => by
    cases i with
    | zero => rw [est] at h1; cases h1; exact ⟨rfl, rfl⟩
    | succ i => exact (no i h2).elim
  have ow : ∀ b, ownd (start N (.ref pa.2 :: ws)) (Sl.ow (.ins c [] []) :: (ds.map Sl.sh ++ List.replicate (N.length - 1 - ds.length) .no)) b → b = pa.2 := fun b ⟨i, h1, h2⟩ => (ow0 i b h1 h2).2
  have ex : Ext (hide O H) (hide (WW O (start N (.ref pa.2 :: ws)) (Sl.ow (.ins c [] []) :: (ds.map Sl.sh ++ List.replicate (N.length - 1 - ds.length) .no))) (upd (upd H dx (.own pa.2)) pa.2 (.ins C dx []))) := fun b o e n => by
    obtain ⟨h1, h2⟩ := hide_some e
    rw [hide_of]
    · exact same b o h2
    · rintro (z | z)
      · exact h1 z
      · rw [ow b z, hx] at h2; cases h2
  refine ⟨pa, ca, O, H, Led.top, _, π, ⟨⟨⟨same _ _ good.pen.dict, same _ _ good.pen.cells⟩, good.po, good.co, good.tab.ext same, fun b o => ?_, ?_, fun i => ?_, fun i j b h1 h2 h3 h4 => (ow0 i b h1 h2).1.trans (ow0 j b h3 h4).1.symm, fun b z o => nO (ow b z ▸ o)⟩,
    fun b o _ e _ => same b o e, fun b o _ => ?_, fun b z o e => ?_, trivial⟩, ?_⟩
  · have := good.al b o
    cases z : H b with
    | none => rw [z] at this; exact this.elim
    | some q => rw [same b q z]; rw [z] at this; exact this
  · rw [est]
    simp [hwl]
  · cases i with
    | zero =>
      rw [est]
      exact ⟨pa.2, rfl, ⟨C, dx, [], hm, upd_same, rfl, RL.nil⟩, rfl⟩
    | succ i =>
      rw [est]
      show SlotOk _ _ _ (ws.map some ++ List.replicate (N.length - 1 - ds.length) none)[i]? (ds.map Sl.sh ++ List.replicate (N.length - 1 - ds.length) Sl.no)[i]?
      by_cases hi : i < ds.length
      · rw [List.getElem?_append_left (l₁ := ds.map Sl.sh) (by simpa using hi), List.getElem?_map (l := ds), List.getElem?_eq_getElem hi]
        obtain ⟨v, e1, r1⟩ := RL.get r (List.getElem?_eq_getElem hi)
        refine ⟨v, ?_, ?_⟩
        · rw [List.getElem?_append_left (by simpa [hwl] using hi), List.getElem?_map, e1]; rfl
        · have := R.ext ex _ r1
          rw [est] at this
          exact this
      · rw [List.getElem?_append_right (l₁ := ds.map Sl.sh) (by simpa using Nat.not_lt.mp hi), List.getElem?_replicate]
        split <;> trivial
  · rw [upd_ne (fun z => nO (by rw [← z]; exact o)), upd_ne (fun z => nd (by rw [← z]; exact o))]
  · rw [ow b z, hx] at e; cases e
  · unfold runI at res
    have hout : ∀ {σ' : St} {H' : Hp} {ρ' : Rho} {π' : Pen}, GoodS T ⟨K, mg, pa⟩ ca O H Led.top σ' H' ρ' π' → Step T ⟨K, mg, pa⟩ ca O H H' π' := fun g => g.out
    cases z : m (Sl.ow (.ins c [] []) :: (ds.map Sl.sh ++ List.replicate (N.length - 1 - ds.length) .no)) π with
    | nx ρ' π' =>
      rw [z] at res
      simp only at res
      cases y : insAt ρ' 0 with
      | none => rw [y] at res; exact res.elim
      | some q =>
        rw [y] at res
        intro σ' H' g'
        have q0 := g'.good.sl 0
        rw [insAt_eq y] at q0
        obtain ⟨a, e1, ok, hs⟩ := q0
        obtain rfl : a = pa.2 := hs
        refine res _ H' g'.out ⟨rfl, ok.ext ?_⟩
        intro b o e n
        obtain ⟨h1, h2⟩ := hide_some e
        rw [hide_of]
        · exact h2
        · rintro (o1 | o2)
          · exact h1 (.inl o1)
          · exact h1 (.inr ⟨0, by rw [o2]; exact e1, by rw [insAt_eq y]; trivial⟩)
    | rt d π' => rw [z] at res; exact res.elim
    | bk _ _ => rw [z] at res; exact res.elim
    | ct _ _ => rw [z] at res; exact res.elim
    | err c ns fs π' => rw [z] at res; exact res
    | bad => rw [z] at res; exact res.elim
end

/-! ### C(..) -/
structure Dm (P : Program) (w : World) (K : PySem.W.Frag) (mg : Str → Option Value) (base : Heap) (T : List (Addr × Str)) (c : Str) (k n : Nat) (F : FnI) (dvs : List V) (dds : List D) : Prop where
  ex : ∃ (C f : Addr) (fd : FuncData) (ps : List Str), Mk K C f ∧ FnOk P w K mg base (L2.CX P w) k f fd ps (spI K mg T c n F) ∧ mg c = some (.ref C) ∧ ∀ j, j ≤ dvs.length → ∃ ds, Vals (dvs.drop j) ds ∧ Binds K fd ps ds
  dd : ∀ g H, RL g H dds dvs
def mMake (n : Nat) (F : FnI) (dD : List D) (ml : M (List D)) : M D := mBind ml fun l => fun _ π => match callI n F (l ++ dD) π with
  | .ok k π' => .ok k.D π'
  | .err c ns fs π' => .err c ns fs π'
  | .bad => .bad
mutual
theorem R.self {K : PySem.W.Frag} {mg : Str → Option Value} {p1 p2 p3 : Addr} {H : Hp} : ∀ (d : D) {v : V}, R ⟨K, mg, (p1, p2)⟩ H d v → R ⟨K, mg, (p1, p3)⟩ H d v
  | .non, _, h => h
  | .bl _, _, h => h
  | .int _, _, h => h
  | .str _, _, h => h
  | .pen, _, h => h
  | .tup l, v, h => by
    unfold R at h ⊢
    obtain ⟨a, vs, e1, e2, e3⟩ := h
    exact ⟨a, vs, e1, e2, RL.self l e3⟩
  | .lst l, v, h => by
    unfold R at h ⊢
    obtain ⟨a, vs, e1, e2, e3⟩ := h
    exact ⟨a, vs, e1, e2, RL.self l e3⟩
  | .obj c ns fs, v, h => by
    unfold R at h ⊢
    obtain ⟨a, C, dx, fvs, e1, e2, e3, e4, e5⟩ := h
    exact ⟨a, C, dx, fvs, e1, e2, e3, e4, RL.self fs e5⟩
  | .dic ks vs, v, h => by
    unfold R at h ⊢
    obtain ⟨a, e1, h⟩ := h
    refine ⟨a, e1, ?_⟩
    rcases h with ⟨kv, e2, e3, e4⟩ | ⟨kv, e2, e3, e4⟩
    · exact .inl ⟨kv, e2, e3, RL.self vs e4⟩
    · exact .inr ⟨kv, e2, e3, RL.self vs e4⟩
theorem RL.self {K : PySem.W.Frag} {mg : Str → Option Value} {p1 p2 p3 : Addr} {H : Hp} : ∀ (l : List D) {vs : List V}, RL ⟨K, mg, (p1, p2)⟩ H l vs → RL ⟨K, mg, (p1, p3)⟩ H l vs
  | [], _, h => h
  | d :: l, vs, h => by
    unfold RL at h ⊢
    obtain ⟨v, r, e1, e2, e3⟩ := h
    exact ⟨v, r, e1, R.self d e2, RL.self l e3⟩
end
section
variable {T : List (Addr × Str)} {X : Cx} {E : XK} {e : Expr} {es : List Expr} {ml : M (List D)} {pos p : Pos} {K : PySem.W.Frag} {mg : Str → Option Value} {p1 p2 p3 ca : Addr} {W : Addr → Prop} {H H' : Hp} {π : Pen}
theorem Step.self (s : Step T ⟨K, mg, (p1, p2)⟩ ca W H H' π) : Step T ⟨K, mg, (p1, p3)⟩ ca W H H' π := ⟨s.ext, s.own, s.pen, s.tab⟩
theorem OwnOk.self {Hs : Hp} {o : Option HO} {k : Own} (h : OwnOk ⟨K, mg, (p1, p2)⟩ Hs o k) : OwnOk ⟨K, mg, (p1, p3)⟩ Hs o k := by
  cases k with
  | lst l => obtain ⟨vs, h1, h2⟩ := h; exact ⟨vs, h1, RL.self l h2⟩
  | dic ks vs =>
    rcases h with ⟨kv, e2, e3, e4⟩ | ⟨kv, e2, e3, e4⟩
    · exact .inl ⟨kv, e2, e3, RL.self vs e4⟩
    · exact .inr ⟨kv, e2, e3, RL.self vs e4⟩
  | ins c ns fs => obtain ⟨C, dx, fvs, h1, h2, h3, h4⟩ := h; exact ⟨C, dx, fvs, h1, h2, h3, RL.self fs h4⟩
theorem ErrAt.self {Hs : Hp} {ns : List Str} {fs : List D} {dd : Option Addr} (h : ErrAt ⟨K, mg, (p1, p2)⟩ Hs H ns fs dd) : ErrAt ⟨K, mg, (p1, p3)⟩ Hs H ns fs dd := by
  cases ns with
  | nil => exact h
  | cons n ns =>
    obtain ⟨a, kv, h1, h2, h3, h4⟩ := h
    exact ⟨a, kv, h1, h2, h3, RL.self fs h4⟩
theorem Good.self0 {O : Addr → Prop} (h : Good T ⟨K, mg, (p1, p2)⟩ ca O [] H [] π) : Good T ⟨K, mg, (p1, p3)⟩ ca O [] H [] π :=
  ⟨h.pen, h.po, h.co, h.tab, h.al, h.len, fun i => by simp only [List.getElem?_nil]; trivial, h.inj, h.dj⟩
theorem Dm.call {c : Str} {k m n : Nat} {F : FnI} {dvs : List V} {dds dd : List D} (h : Dm X.prog X.w X.K X.mg X.base T c k n F dvs dds) (j : Nat) (hr : Room m X.A) (hk : k + 1 ≤ m) (hx : Passes (L2.CX X.prog X.w) X E) (ha : GA T X E (e :: es) ml) (hj : j ≤ dvs.length := by decide) (hg : Gl X c := by rfl)
    (hdb : (c == ("__debug__" : Str)) = false := by decide) (he : starEach (e :: es) X.env = (false, eval e X.env) :: starEach es X.env := by rfl) (hpl : (backTo pos (starEach es X.env)).any (·.1) = false := by rfl) (hdd : dds.drop j = dd := by rfl) :
    GE T X E (.Call (.Name c p) (e :: es) [] pos) (mMake n F dd ml) := by
  subst hdd
  obtain ⟨C, f, fd, ps, M, G, hm, hb⟩ := h.ex
  obtain ⟨ds, hv, hb⟩ := hb j hj
  refine ⟨pe_imp (pe_make M G (hr.mono hk) hg hm hb hv hx ha.pa hdb he hpl) fun σ H Q ⟨pa, ca, O, ρ, π, good, res⟩ => ⟨pa, ca, O, ρ, π, good, Res.seq res fun l π1 vs H1 s1 r1 res1 => ?_⟩⟩
  intro x dx hx1 hdx ne
  have g1 := good.step s1
  have nx : ¬ WW O σ ρ x := g1.fresh hx1
  obtain ⟨p1, p2⟩ := pa
  refine ⟨(p1, x), ca, WW O σ ρ, H1, l ++ dds.drop j, π1, dx, C, vs ++ dvs.drop j, rfl, hm, hx1, hdx, ne, rfl, Good.self0 g1.callee, RL.append (RL.self _ r1) (RL.drop j (h.dd _ _)), ?_⟩
  simp only at res1
  cases z : callI n F (l ++ dds.drop j) π1 with
  | bad => rw [z] at res1; exact res1.elim
  | err c ns fs π' => rw [z] at res1; exact fun C' d' H' m' s' q => res1 C' d' H' m' s'.self q.self
  | ok k π' =>
    rw [z] at res1
    intro v H2 s2 ⟨e1, ok⟩
    refine ⟨e1, res1 _ _ s2.self (OwnOk.R ?_)⟩
    rw [hide_of nx]
    exact OwnOk.self (ok.ext (hide_mono fun b w => .inl w))
end
end L2.Dl
end

section
set_option maxRecDepth 100000
set_option maxHeartbeats 2000000
/-! a, b = x, y: shared data and new objects, side by side. -/
namespace L2.Dl
open PySem PySem.Spec PyProof.Rows

def NewX (rs : List Sl) (vs : List V) (b : Addr) : Prop := ∃ (n : Nat) (k : Own), rs[n]? = some (Sl.ow k) ∧ vs[n]? = some (V.ref b)
structure relX (g : G) (W : Addr → Prop) (Hs H : Hp) (rs : List Sl) (vs : List V) : Prop where
  len : vs.length = rs.length
  sh : ∀ (n : Nat) d, rs[n]? = some (.sh d) → ∃ v, vs[n]? = some v ∧ R g (hide (fun b => W b ∨ NewX rs vs b) H) d v
  ow : ∀ (n : Nat) k, rs[n]? = some (.ow k) → ∃ p, vs[n]? = some (.ref p) ∧ Wf Hs p ∧ ¬ W p ∧ OwnOk g (hide (fun b => W b ∨ NewX rs vs b) H) (H p) k ∧ selfOk g p k
  inj : ∀ (n m : Nat) k k' p, rs[n]? = some (.ow k) → rs[m]? = some (.ow k') → vs[n]? = some (.ref p) → vs[m]? = some (.ref p) → n = m
structure GX (T : List (Addr × Str)) (X : Cx) (E : XK) (es : List Expr) (m : M (List Sl)) : Prop where
  pa : PA X es (fun σ H Q => ∃ (pa : Addr × Addr) (ca : Addr) (O : Addr → Prop) (ρ : Rho) (π : Pen), Good T ⟨X.K, X.mg, pa⟩ ca O σ H ρ π ∧ Res (relX ⟨X.K, X.mg, pa⟩ (WW O σ ρ) H) T ⟨X.K, X.mg, pa⟩ ca (WW O σ ρ) H (m ρ π) Q E)
def xNil : M (List Sl) := mOk []
def xSh (m : M D) (r : M (List Sl)) : M (List Sl) := mBind m fun d => mBind r fun l => mOk (.sh d :: l)
def xOw (m : M Own) (r : M (List Sl)) : M (List Sl) := mBind m fun k => mBind r fun l => mOk (.ow k :: l)
section
variable {T : List (Addr × Str)} {X : Cx} {E : XK} {e : Expr} {es : List Expr} {me : M D} {mo : M Own} {mr : M (List Sl)} {g : G} {ca : Addr} {W O : Addr → Prop} {H H1 H2 : Hp} {π1 π2 : Pen}
theorem wf_back (s : Step T g ca W H H1 π1) {p : Addr} (nw : ¬ W p) (h : Wf H1 p) : Wf H p := fun o e => by
  by_cases ht : ∃ ps, o = .tbl ps
  · exact ht
  · exact h o (s.ext p o nw e fun ps q => ht ⟨ps, q⟩)
theorem hid_more (s : Step T g ca W H H1 π1) {W' : Addr → Prop} (hw : ∀ b, W' b → W b ∨ Wf H b) : Ext (hide W H) (hide W' H1) := fun b o q n => by
  obtain ⟨h1, h2⟩ := hide_some q
  rw [hide_of]
  · exact s.ext b o h1 h2 n
  · intro w
    rcases hw b w with w | w
    · exact h1 w
    · obtain ⟨ps, e2⟩ := w o h2
      exact n ps e2
theorem gx_nil : GX T X E [] xNil := ⟨pa_imp pa_nil fun σ H Q ⟨pa, ca, O, ρ, π, good, res⟩ => Res.ok res good.step0 ⟨rfl, fun n d h => by simp at h, fun n k h => by simp at h, fun n m k k' p h => by simp at h⟩⟩
theorem gx_sh (h : GE T X E e me) (t : GX T X E es mr) (hs : starEach (e :: es) X.env = (false, eval e X.env) :: starEach es X.env := by rfl) : GX T X E (e :: es) (xSh me mr) :=
  ⟨pa_imp (pa_cons h.pe t.pa hs) fun σ H Q ⟨pa, ca, O, ρ, π, good, res⟩ => ⟨pa, ca, O, ρ, π, good, Res.seq res fun d π1 v H1 s1 r1 res1 => ⟨pa, ca, O, ρ, π1, good.step s1, Res.seq res1 fun l π2 vs H2 s2 r2 res2 => Res.ok res2 ((good.step s1).step s2).step0 (by
    have new : ∀ b, NewX (.sh d :: l) (v :: vs) b → NewX l vs b := fun b ⟨n, k, h1, h2⟩ => by
      cases n with
      | zero => cases h1
      | succ n => exact ⟨n, k, h1, h2⟩
    have ex : Ext (hide (fun b => WW O σ ρ b ∨ NewX l vs b) H2) (hide (fun b => WW O σ ρ b ∨ NewX (.sh d :: l) (v :: vs) b) H2) := hide_mono fun b w => w.imp id (new b)
    refine ⟨by rw [List.length_cons, List.length_cons, r2.len], fun n d' hn => ?_, fun n k hn => ?_, fun n m k k' p h1 h2 h3 h4 => ?_⟩
    · cases n with
      | zero =>
        cases hn
        refine ⟨v, rfl, R.ext (hid_more s2 fun b w => ?_) d r1⟩
        rcases w with w | w
        · exact .inl w
        · obtain ⟨n, k, h1, h2⟩ := new b w
          obtain ⟨p, e1, wf, _⟩ := r2.ow n k h1
          rw [h2] at e1
          cases e1
          exact .inr wf
      | succ n => obtain ⟨u, e1, e2⟩ := r2.sh n d' hn; exact ⟨u, e1, R.ext ex _ e2⟩
    · cases n with
      | zero => cases hn
      | succ n =>
        obtain ⟨p, e1, wf, nw, ok, se⟩ := r2.ow n k hn
        exact ⟨p, e1, wf_back s1 nw wf, nw, ok.ext ex, se⟩
    · cases n with
      | zero => cases h1
      | succ n =>
        cases m with
        | zero => cases h2
        | succ m => rw [r2.inj n m k k' p h1 h2 h3 h4])⟩⟩⟩
theorem gx_ow (h : GF T X E e mo) (t : GX T X E es mr) (hs : starEach (e :: es) X.env = (false, eval e X.env) :: starEach es X.env := by rfl) : GX T X E (e :: es) (xOw mo mr) :=
  ⟨pa_imp (pa_cons h.pe t.pa hs) fun σ H Q ⟨pa, ca, O, ρ, π, good, res⟩ => ⟨pa, ca, O, ρ, π, good, Res.seq res fun k0 π1 v H1 s1 ⟨p1, ev, wf1, nw1, ok1, se1⟩ res1 => by
    subst ev
    have g1 := good.step s1
    have gO := good.addO s1 wf1 nw1 ok1.ld
    have npa : p1 ≠ pa.1 := fun z => nw1 (.inl (by rw [z]; exact good.po))
    have eW : ∀ b, WW (fun b => O b ∨ b = p1) σ ρ b ↔ WW O σ ρ b ∨ b = p1 := fun b => by
      constructor
      · rintro ((w | w) | w)
        · exact .inl (.inl w)
        · exact .inr w
        · exact .inl (.inr w)
      · rintro ((w | w) | w)
        · exact .inl (.inl w)
        · exact .inr w
        · exact .inl (.inr w)
    obtain ⟨o1, ho1⟩ : ∃ o, H1 p1 = some o := by
      have := ok1.ld
      cases z : H1 p1 with
      | none => rw [z] at this; exact this.elim
      | some o => exact ⟨o, rfl⟩
    have nt1 : ∀ ps, o1 ≠ .tbl ps := fun ps z => by
      have := ok1.ld
      rw [ho1, z] at this
      exact this
    have stW : ∀ {H2 : Hp} {π2 : Pen}, Step T ⟨X.K, X.mg, pa⟩ ca (WW (fun b => O b ∨ b = p1) σ ρ) H1 H2 π2 → Step T ⟨X.K, X.mg, pa⟩ ca (WW O σ ρ) H1 H2 π2 := fun {H2 π2} s => by
      refine ⟨fun b o hb e n => ?_, fun b hb n => s.own b ((eW b).mpr (.inl hb)) n, s.pen, s.tab⟩
      by_cases q : b = p1
      · subst q
        rw [s.own b ((eW b).mpr (.inr rfl)) npa]
        exact e
      · exact s.ext b o (fun w => ((eW b).mp w).elim hb q) e n
    refine ⟨pa, ca, _, ρ, π1, gO, ?_⟩
    cases z : mr ρ π1 with
    | bad => simp only [mBind, z] at res1; exact res1.elim
    | err c ns fs π2 => simp only [mBind, z] at res1; exact fun C' d' H' m' s' q => res1 C' d' H' m' (stW s') (q.mono (hide_mono fun b w => (eW b).mpr (.inl w)))
    | ok l π2 =>
      simp only [mBind, z] at res1
      intro vs H2 s2 r2
      refine Res.ok res1 (stW s2) ?_
      have hp2 : H2 p1 = H1 p1 := s2.own p1 ((eW p1).mpr (.inr rfl)) npa
      have new : ∀ b, NewX (.ow k0 :: l) (.ref p1 :: vs) b ↔ b = p1 ∨ NewX l vs b := fun b => by
        constructor
        · rintro ⟨n, k, h1, h2⟩
          cases n with
          | zero => cases h2; exact .inl rfl
          | succ n => exact .inr ⟨n, k, h1, h2⟩
        · rintro (rfl | ⟨n, k, h1, h2⟩)
          · exact ⟨0, k0, rfl, rfl⟩
          · exact ⟨n + 1, k, h1, h2⟩
      have eH : hide (fun b => WW (fun b => O b ∨ b = p1) σ ρ b ∨ NewX l vs b) H2 = hide (fun b => WW O σ ρ b ∨ NewX (.ow k0 :: l) (.ref p1 :: vs) b) H2 := by
        congr 1
        funext b
        refine propext ⟨?_, ?_⟩
        · rintro (w | w)
          · rcases (eW b).mp w with w | w
            · exact .inl w
            · exact .inr ((new b).mpr (.inl w))
          · exact .inr ((new b).mpr (.inr w))
        · rintro (w | w)
          · exact .inl ((eW b).mpr (.inl w))
          · rcases (new b).mp w with w | w
            · exact .inl ((eW b).mpr (.inr w))
            · exact .inr w
      refine ⟨by rw [List.length_cons, List.length_cons, r2.len], fun n d' hn => ?_, fun n k hn => ?_, fun n m k k' p h1 h2 h3 h4 => ?_⟩
      · cases n with
        | zero => cases hn
        | succ n => obtain ⟨u, e1, e2⟩ := r2.sh n d' hn; rw [eH] at e2; exact ⟨u, e1, e2⟩
      · cases n with
        | zero =>
          cases hn
          refine ⟨p1, rfl, wf1, nw1, ?_, se1⟩
          rw [hp2, ← eH]
          refine ok1.ext (fun b o q n => ?_)
          obtain ⟨h1, h2⟩ := hide_some q
          rw [hide_of]
          · exact s2.ext b o (fun w => h1 ((eW b).mp w)) h2 n
          · rintro (w | ⟨n', k', h3, h4⟩)
            · exact h1 ((eW b).mp w)
            · obtain ⟨p, e1, wf, _⟩ := r2.ow n' k' h3
              rw [h4] at e1
              cases e1
              obtain ⟨ps, e5⟩ := wf o h2
              exact n ps e5
        | succ n =>
          obtain ⟨p, e1, wf, nw, ok, se⟩ := r2.ow n k hn
          have nw' : ¬ WW O σ ρ p := fun w => nw ((eW p).mpr (.inl w))
          exact ⟨p, e1, wf_back s1 nw' wf, nw', by rw [← eH]; exact ok, se⟩
      · cases n with
        | zero =>
          cases m with
          | zero => rfl
          | succ m =>
            cases h3
            obtain ⟨p', e1, _, nw, _⟩ := r2.ow m k' h2
            have h4' : vs[m]? = some (.ref p1) := h4
            rw [h4'] at e1
            cases e1
            exact absurd ((eW p1).mpr (.inr rfl)) nw
        | succ n =>
          cases m with
          | zero =>
            cases h4
            obtain ⟨p', e1, _, nw, _⟩ := r2.ow n k h1
            have h3' : vs[n]? = some (.ref p1) := h3
            rw [h3'] at e1
            cases e1
            exact absurd ((eW p1).mpr (.inr rfl)) nw
          | succ m => rw [r2.inj n m k k' p h1 h2 h3 h4]⟩⟩
end
/-- several places at once -/
def setL {α : Type} (l : List α) : List Nat → List α → List α
  | i :: js, v :: vs => setL (l.set i v) js vs
  | _, _ => l
theorem setL_len {α : Type} : ∀ (js : List Nat) (l : List α) (vs : List α), (setL l js vs).length = l.length
  | [], l, vs => by cases vs <;> rfl
  | i :: js, l, [] => rfl
  | i :: js, l, v :: vs => by
    show (setL (l.set i v) js vs).length = _
    rw [setL_len js (l.set i v) vs, List.length_set]
theorem setL_off {α : Type} : ∀ (js : List Nat) (l : List α) (vs : List α) (j : Nat), j ∉ js → (setL l js vs)[j]? = l[j]?
  | [], l, vs, j, _ => by cases vs <;> rfl
  | i :: js, l, [], j, _ => rfl
  | i :: js, l, v :: vs, j, h => by
    show (setL (l.set i v) js vs)[j]? = _
    rw [setL_off js (l.set i v) vs j fun z => h (List.mem_cons_of_mem _ z), List.getElem?_set_ne fun z => h (by rw [z]; exact List.mem_cons_self)]
theorem setL_at {α : Type} : ∀ (js : List Nat) (l : List α) (vs : List α) (n : Nat) (i : Nat) (v : α), js.Nodup → (∀ j ∈ js, j < l.length) → js[n]? = some i → vs[n]? = some v → (setL l js vs)[i]? = some v
  | [], l, vs, n, i, v, _, _, h, _ => by simp at h
  | _ :: _, l, [], n, i, v, _, _, _, h => by simp at h
  | j :: js, l, u :: vs, 0, i, v, nd, hl, h1, h2 => by
    cases h1
    cases h2
    show (setL (l.set _ _) js vs)[_]? = _
    rw [setL_off js _ vs _ (List.nodup_cons.mp nd).1, List.getElem?_set_self (hl _ List.mem_cons_self)]
  | j :: js, l, u :: vs, n + 1, i, v, nd, hl, h1, h2 => setL_at js (l.set j u) vs n i v (List.nodup_cons.mp nd).2 (fun k hk => by rw [List.length_set]; exact hl k (List.mem_cons_of_mem _ hk)) h1 h2
section
variable {T : List (Addr × Str)} {g : G} {ca : Addr} {O : Addr → Prop} {H0 H H1 : Hp} {Λ : Led} {σ : St} {ρ : Rho} {π π1 : Pen}
theorem GoodS.setX (h : GoodS T g ca O H0 Λ σ H ρ π) (s : Step T g ca (WW O σ ρ) H H1 π1) {js : List Nat} {rs : List Sl} {vs : List V} (nd : js.Nodup) (hl : js.length = rs.length) (hj : ∀ j ∈ js, j < ρ.length) (r : relX g (WW O σ ρ) H H1 rs vs) :
    GoodS T g ca O H0 Λ (setL σ js (vs.map some)) H1 (setL ρ js rs) π1 := by
  have hj' : ∀ j ∈ js, j < σ.length := fun j q => by rw [h.good.len]; exact hj j q
  -- at a place of js
  have at_ : ∀ i, i ∈ js → ∃ (n : Nat) (q : Sl) (v : V), rs[n]? = some q ∧ vs[n]? = some v ∧ js[n]? = some i ∧ (setL σ js (vs.map some))[i]? = some (some v) ∧ (setL ρ js rs)[i]? = some q := fun i hi => by
    obtain ⟨n, hn⟩ := List.mem_iff_getElem?.mp hi
    have n1 : n < rs.length := by rw [← hl]; exact (List.getElem?_eq_some_iff.mp hn).1
    have n2 : n < vs.length := by rw [r.len]; exact n1
    refine ⟨n, rs[n], vs[n], List.getElem?_eq_getElem n1, List.getElem?_eq_getElem n2, hn, ?_, ?_⟩
    · exact setL_at js σ (vs.map some) n i (some vs[n]) nd hj' hn (by rw [List.getElem?_map, List.getElem?_eq_getElem n2]; rfl)
    · exact setL_at js ρ rs n i rs[n] nd hj hn (List.getElem?_eq_getElem n1)
  have cls : ∀ (i : Nat) b, (setL σ js (vs.map some))[i]? = some (some (.ref b)) → isO (setL ρ js rs)[i]? → (i ∉ js ∧ σ[i]? = some (some (.ref b)) ∧ isO ρ[i]?) ∨ ∃ (n : Nat) (k : Own), js[n]? = some i ∧ rs[n]? = some (Sl.ow k) ∧ vs[n]? = some (V.ref b) ∧ Wf H b ∧ ¬ WW O σ ρ b := fun i b h1 h2 => by
    by_cases hi : i ∈ js
    · obtain ⟨n, q, v, e1, e2, e3, e4, e5⟩ := at_ i hi
      rw [e4] at h1
      cases h1
      rw [e5] at h2
      cases q with
      | no => exact h2.elim
      | sh d => exact h2.elim
      | ow k =>
        obtain ⟨p, q1, wf, nw, _⟩ := r.ow n k e1
        rw [e2] at q1
        cases q1
        exact .inr ⟨n, k, e3, e1, e2, wf, nw⟩
    · rw [setL_off js _ _ i hi] at h1 h2
      exact .inl ⟨hi, h1, h2⟩
  have wm : ∀ b, WW O (setL σ js (vs.map some)) (setL ρ js rs) b → WW O σ ρ b ∨ NewX rs vs b := fun b w => by
    rcases w with w | ⟨i, h1, h2⟩
    · exact .inl (.inl w)
    · rcases cls i b h1 h2 with ⟨_, q1, q2⟩ | ⟨n, k, _, q1, q2, _⟩
      · exact .inl (.inr ⟨i, q1, q2⟩)
      · exact .inr ⟨n, k, q1, q2⟩
  refine h.reslot s (by rw [setL_len, setL_len]; exact h.good.len) (fun i b h1 h2 => ?_) (fun i j b h1 h2 h3 h4 => ?_) fun i => ?_
  · rcases cls i b h1 h2 with q | ⟨n, k, _, _, _, wf, nw⟩
    · exact .inl q.2
    · exact .inr ⟨wf, nw⟩
  · rcases cls i b h1 h2 with ⟨_, q1, q2⟩ | ⟨n, k, a1, a2, a3, _, nw⟩ <;> rcases cls j b h3 h4 with ⟨_, q3, q4⟩ | ⟨m, k', b1, b2, b3, _, nw'⟩
    · exact h.good.inj i j b q1 q2 q3 q4
    · exact absurd (.inr ⟨i, q1, q2⟩) nw'
    · exact absurd (.inr ⟨j, q3, q4⟩) nw
    · have := r.inj n m k k' b a2 b2 a3 b3
      subst this
      rw [a1] at b1
      exact Option.some.inj b1
  · by_cases hi : i ∈ js
    · obtain ⟨n, q, v, e1, e2, e3, e4, e5⟩ := at_ i hi
      rw [e4, e5]
      refine .inr ?_
      cases q with
      | no => trivial
      | sh d =>
        obtain ⟨u, q1, q2⟩ := r.sh n d e1
        rw [e2] at q1
        cases q1
        exact ⟨v, rfl, R.ext (hide_mono wm) d q2⟩
      | ow k =>
        obtain ⟨p, q1, _, _, ok, se⟩ := r.ow n k e1
        rw [e2] at q1
        cases q1
        exact ⟨p, rfl, ok.ext (hide_mono wm), se⟩
    · rw [setL_off js _ _ i hi, setL_off js _ _ i hi]
      exact .inl ⟨rfl, rfl⟩
end
def sPar (js : List Nat) (m : M (List Sl)) : MS := sBind m fun rs ρ π => if js.length = rs.length ∧ js.all (fun j => decide (j < ρ.length)) = true then .nx (setL ρ js rs) π else .bad
section
variable {T : List (Addr × Str)} {X : Cx} {E : XK} {a b c : Expr} {m : M (List Sl)} {pos px py pz pt pt2 : Pos} {kt k2 : Nat}
theorem par_res {js : List Nat} (nd : js.Nodup) {D : Ends} {σ : St} {H : Hp} {pa : Addr × Addr} {ca : Addr} {O : Addr → Prop} {H0 : Hp} {Λ : Led} {ρ : Rho} {π : Pen} {Q : List V → Hp → Prop} (good : GoodS T ⟨X.K, X.mg, pa⟩ ca O H0 Λ σ H ρ π) (res : ResS T ⟨X.K, X.mg, pa⟩ ca O H0 Λ (sPar js m ρ π) D E)
    (q : ∀ vs H1, vs.length = js.length → D.nx (setL σ js (vs.map some)) H1 → Q vs H1) : Res (relX ⟨X.K, X.mg, pa⟩ (WW O σ ρ) H) T ⟨X.K, X.mg, pa⟩ ca (WW O σ ρ) H (m ρ π) Q E :=
  good.ex (k := fun (rs : List Sl) ρ π => if js.length = rs.length ∧ js.all (fun j => decide (j < ρ.length)) = true then .nx (setL ρ js rs) π else .bad) res fun rs π1 vs H1 s r g1 res1 => by
    split at res1
    case isFalse => exact res1.elim
    rename_i hc
    exact q vs H1 (by rw [r.len, hc.1]) (res1 _ _ (good.setX s nd hc.1 (fun j hj => of_decide_eq_true (List.all_eq_true.mp hc.2 j hj)) r))
theorem gs_par {i j : Nat} {x y : Str} (hm : GX T X E [a, b] m) (hN : X.N.Nodup) (hx : X.env.scope.names.lookup x = some .local) (hy : X.env.scope.names.lookup y = some .local) (hi : X.N[i]? = some x := by rfl) (hj : X.N[j]? = some y := by rfl) (hij : i ≠ j := by decide) (hc : X.calm = true := by rfl)
    (hw : swappedStores [.Tuple [.Name x px, .Name y py] kt pt] (.Tuple [a, b] k2 pt2) X.env = pure (some [x, y]) := by rfl) (hs : swapsWithSole [.Tuple [.Name x px, .Name y py] kt pt] (.Tuple [a, b] k2 pt2) pos.line X.env = pure false := by rfl) :
    GS T X E (.Assign [.Tuple [.Name x px, .Name y py] kt pt] (.Tuple [a, b] k2 pt2) pos) (sPar [i, j] m) :=
  ⟨ps_imp (ps_par hc hN hi hj hij hx hy hm.pa hw hs) fun D σ H ⟨pa, ca, O, H0, Λ, ρ, π, good, res⟩ => ⟨pa, ca, O, ρ, π, good.good, par_res (by simp [hij]) good res fun vs H1 hl q => by
    match vs, hl with
    | [v, w], _ => exact ⟨v, w, rfl, q⟩⟩⟩
theorem gs_par3 {i j l : Nat} {x y z : Str} (hm : GX T X E [a, b, c] m) (hN : X.N.Nodup) (hx : X.env.scope.names.lookup x = some .local) (hy : X.env.scope.names.lookup y = some .local) (hz : X.env.scope.names.lookup z = some .local) (hi : X.N[i]? = some x := by rfl) (hj : X.N[j]? = some y := by rfl) (hl : X.N[l]? = some z := by rfl) (hij : i ≠ j := by decide) (hil : i ≠ l := by decide) (hjl : j ≠ l := by decide) (hc : X.calm = true := by rfl)
    (hw : swappedStores [.Tuple [.Name x px, .Name y py, .Name z pz] kt pt] (.Tuple [a, b, c] k2 pt2) X.env = pure (some [x, y, z]) := by rfl) (hs : swapsWithSole [.Tuple [.Name x px, .Name y py, .Name z pz] kt pt] (.Tuple [a, b, c] k2 pt2) pos.line X.env = pure false := by rfl) :
    GS T X E (.Assign [.Tuple [.Name x px, .Name y py, .Name z pz] kt pt] (.Tuple [a, b, c] k2 pt2) pos) (sPar [i, j, l] m) :=
  ⟨ps_imp (ps_par3 hc hN hi hj hl hij hil hjl hx hy hz hm.pa hw hs) fun D σ H ⟨pa, ca, O, H0, Λ, ρ, π, good, res⟩ => ⟨pa, ca, O, ρ, π, good.good, par_res (by simp [hij, hil, hjl]) good res fun vs H1 hl q => by
    match vs, hl with
    | [u, v, w], _ => exact ⟨u, v, w, rfl, q⟩⟩⟩
end
end L2.Dl
end

section
set_option maxRecDepth 100000
set_option maxHeartbeats 2000000
/-! Own dicts whose keys are tuples (and dicts of texts): made, stored into, listed. -/
namespace L2.Dl
open PySem PySem.Spec PyProof.Rows

/-- {k: v}, k a tuple of ints and texts -/
def tDispT (tk tv : TE) : TE := fun σ H Q => ∀ p, H p = none → tk σ (upd H p (.dT [])) fun x H1 => tv σ H1 fun y H2 => ∃ (k : List Key) (b : Addr), x = .ref b ∧ H2 b = some (.tup (k.map kV)) ∧ H2 p = some (.dT []) ∧ Q (.ref p) (upd H2 p (.dT [(k, y)]))
theorem pe_dispT {X : Cx} {pos : Pos} {k v : Expr} {tk tv : TE} (hu : X.A.units + 1 < cLine) (hk : PE X k tk) (hv : PE X v tv) : PE X (.Dict [some k] [v] pos) (tDispT tk tv) := by
  refine ⟨fun pins s σ H Q I q => ?_⟩
  have hn := I.hok.fresh (Nat.le_refl s.heap.objs.size)
  have I1 := I.laid (a := s.heap.objs.size) (o := .dT []) (h' := s.heap.push { cls := .type "dict", data := .dict #[] }) (t' := s.toks) (fun _ _ z => Heap.get?_push_of_some _ z) (Nat.le_refl _) (dt_empty s.heap I.big)
  rw [arm_eval_Dict, PySem.zip_pairTrees [some k] [v] X.env pos rfl rfl, dictDisplay_pairs _ (by simp [pairTrees]) (by show 1 < 17; decide)]
  refine wpAny_bind (wpAny_standAt (wpAny_bind (wpAny_subDictH (knd := tupleKind (mixKind X.prog X.w)) (Q := fun d s' => wpAny (model X.prog X.w) X.A (pure (Value.ref d)) (EP X pins σ Q) X.xe s') (by show X.A.units < cLine; omega) (by show 1 ≤ 15; decide) ?_)))
  refine pairTrees_cons_walk (thn (hk.run pins _ σ _ _ I1 (q _ hn)) fun u s1 ⟨x, H1, I2, rx, q1⟩ => thn (hv.run pins s1 σ H1 _ I2 q1) fun u2 s2 ⟨y, H2, I3, ry, q2⟩ => pairTrees_nil_walk ?_)
  obtain ⟨kk, b, rfl, eb, ep, q2⟩ := q2
  obtain rfl : u = Value.ref b := rx
  obtain ⟨z, hd, xs, rel, dd⟩ := dt_of I3.hok ep
  have hxs : xs = [] := by
    cases rel; rfl
  subst hxs
  refine ⟨[(kk, b, u2)], ⟨rfl, rfl, key_of I3.hok eb, trivial⟩, dd, fun h' tk' dd' hs => wpAny_pure ⟨.ref s.heap.objs.size, _, ?_, rfl, q2⟩⟩
  obtain ⟨qo, es, eep, hq, h2, h3, h4, _, h5⟩ := dd'
  refine d_write I3 (by rw [ep]; exact True.intro) hs ⟨qo, hq⟩ ⟨by show 1 ≤ sizeLine; decide, hd, [(kk, b, u2)], .cons ⟨rfl, ?_, ry⟩ .nil, qo, es, eep, hq, h2, h3, h4, h5⟩
  rw [upd_ne (ne_of eb ep (fun z => nomatch z))]
  exact eb
section
variable {T : List (Addr × Str)} {X : Cx} {E : XK} {e ei k v : Expr} {me mi mk mv : M D} {pos pos' npos p : Pos} {ml : M (List D)}
/-- {k: v} -/
def mDispT (mk mv : M D) : M Own := mBind mk fun a => mBind mv fun b => mOpt ((tk a).map fun _ => Own.dic [a] [b])
theorem tk_kD {d : D} {k : List Key} (h : tk d = some k) : d = .tup (k.map kD) := by
  cases d with
  | tup l =>
    congr 1
    have key : ∀ (l : List D) (k : List Key), l.mapM keyD = some k → l = k.map kD := fun l => by
      induction l with
      | nil => intro k h; simp only [List.mapM_nil] at h; cases h; rfl
      | cons d l ih =>
        intro k h
        rw [List.mapM_cons] at h
        cases z : keyD d with
        | none => rw [z] at h; cases h
        | some q =>
          rw [z] at h
          cases z2 : l.mapM keyD with
          | none => rw [z2] at h; cases h
          | some qs =>
            rw [z2] at h
            cases h
            rw [List.map_cons, ← ih qs z2]
            congr 1
            cases d with
            | int i => cases z; rfl
            | str x => cases z; rfl
            | _ => cases z
    exact key l k h
  | _ => cases h
theorem gf_dispT (hu : X.A.units + 1 < cLine) (hk : GE T X E k mk) (hv : GE T X E v mv) : GF T X E (.Dict [some k] [v] pos) (mDispT mk mv) :=
  ⟨pe_imp (pe_dispT hu hk.pe hv.pe) fun σ H Q ⟨pa, ca, O, ρ, π, good, res⟩ => by
    intro p hp
    have np : ¬ WW O σ ρ p := good.fresh hp
    have wf : Wf H p := fun o e => by rw [hp] at e; cases e
    have s0 := good.same (same_upd (o := .dT []) hp)
    have gO := good.addO s0 wf np (by rw [upd_same]; trivial)
    have npa : p ≠ pa.1 := fun z => by
      have := good.pen.dict
      rw [show (⟨X.K, X.mg, pa⟩ : G).pa = pa.1 from rfl, ← z, hp] at this
      cases this
    have nca : p ≠ ca := fun z => by
      have := good.pen.cells
      rw [← z, hp] at this
      cases this
    have eW : ∀ b, WW (fun b => O b ∨ b = p) σ ρ b ↔ WW O σ ρ b ∨ b = p := fun b => by
      constructor
      · rintro ((w | w) | w)
        · exact .inl (.inl w)
        · exact .inr w
        · exact .inl (.inr w)
      · rintro ((w | w) | w)
        · exact .inl (.inl w)
        · exact .inr w
        · exact .inl (.inr w)
    have eH : ∀ H', hide (WW (fun b => O b ∨ b = p) σ ρ) H' = hide (fun b => WW O σ ρ b ∨ b = p) H' := fun H' => by
      congr 1
      funext b
      exact propext (eW b)
    -- a step behind which the dict is as it was
    have stW : ∀ {H2 : Hp} {π2 : Pen}, Step T ⟨X.K, X.mg, pa⟩ ca (WW (fun b => O b ∨ b = p) σ ρ) (upd H p (.dT [])) H2 π2 → Step T ⟨X.K, X.mg, pa⟩ ca (WW O σ ρ) H H2 π2 := fun {H2 π2} s => by
      refine ⟨fun b o hb e n => ?_, fun b hb n => ?_, s.pen, s.tab⟩
      · have hbp : b ≠ p := ne_of_none e hp
        exact s.ext b o (fun w => ((eW b).mp w).elim hb hbp) (by rw [upd_ne hbp]; exact e) n
      · have hbp : b ≠ p := fun z => np (z ▸ hb)
        rw [s.own b ((eW b).mpr (.inl hb)) n, upd_ne hbp]
    refine ⟨pa, ca, _, ρ, π, gO, ?_⟩
    unfold mDispT mBind at res
    cases z1 : mk ρ π with
    | bad => rw [z1] at res; exact res.elim
    | err c ns fs π2 => rw [z1] at res; exact fun C' d' H' m' s' q => res C' d' H' m' (stW s') (q.mono (hide_mono fun b w => (eW b).mpr (.inl w)))
    | ok d1 π1 =>
      rw [z1] at res
      intro x H1 s1 r1
      refine ⟨pa, ca, _, ρ, π1, gO.step s1, ?_⟩
      simp only [Out.bind] at res
      cases z2 : mv ρ π1 with
      | bad => rw [z2] at res; exact res.elim
      | err c ns fs π2 => rw [z2] at res; exact fun C' d' H' m' s' q => res C' d' H' m' (stW (s1.trans s')) (q.mono (hide_mono fun b w => (eW b).mpr (.inl w)))
      | ok d2 π2 =>
        rw [z2] at res
        simp only at res
        intro y H2 s2 r2
        obtain ⟨ko, eo, res3⟩ := Res.opt (o := (tk d1).map fun _ => Own.dic [d1] [d2]) res
        cases zt : tk d1 with
        | none => rw [zt] at eo; cases eo
        | some kk =>
          rw [zt] at eo
          cases eo
          have ed := tk_kD zt
          subst ed
          obtain ⟨b, us, rfl, hb, rb⟩ := R_tup.mp (R.ext s2.hid _ r1)
          have hus := mapM_keys (mapM_kD kk) rb
          rw [hus] at hb
          have st := stW (s1.trans s2)
          have hD2 : H2 p = some (.dT []) := by
            rw [(s1.trans s2).own p ((eW p).mpr (.inr rfl)) npa, upd_same]
          refine ⟨kk, b, rfl, (hide_some hb).2, hD2, ?_⟩
          have st' : Step T ⟨X.K, X.mg, pa⟩ ca (WW O σ ρ) H (upd H2 p (.dT [(kk, y)])) π2 := by
            refine ⟨fun c o hc e n => ?_, fun c hc n => ?_, ⟨by rw [upd_ne (Ne.symm npa)]; exact st.pen.dict, by rw [upd_ne (Ne.symm nca)]; exact st.pen.cells⟩, tabs_upd st.tab (by rw [hD2]; trivial)⟩
            · rw [upd_ne (ne_of_none e hp)]; exact st.ext c o hc e n
            · rw [upd_ne (fun (z : c = p) => np (by rw [← z]; exact hc))]; exact st.own c hc n
          refine Res.ok res3 st' ⟨p, rfl, wf, np, ?_, trivial⟩
          rw [upd_same]
          refine .inr ⟨[(kk, y)], rfl, rfl, ?_⟩
          rw [hide_upd (W := fun b => WW O σ ρ b ∨ b = p) (.inr rfl)]
          have r2' : R ⟨X.K, X.mg, pa⟩ (hide (WW (fun b => O b ∨ b = p) σ ρ) H2) d2 y := r2
          rw [eH] at r2'
          exact RL.cons r2' RL.nil⟩

/-! ### d[k] = v, d an own dict -/
def keysT (ks : List D) : Bool := decide (ks ≠ []) && ks.all fun e => (tk e).isSome
theorem dT_of {g : G} {Hs : Hp} {o : Option HO} {ks vs : List D} (h : keysT ks = true) (di : DicAt g Hs o ks vs) : ∃ kv : List (List Key × V), o = some (.dT kv) ∧ ks = kv.map (fun q => D.tup (q.1.map kD)) ∧ RL g Hs vs (kv.map (·.2)) := by
  simp only [keysT, Bool.and_eq_true, decide_eq_true_eq] at h
  rcases di with ⟨kv, e1, e2, e3⟩ | q
  · exfalso
    cases ks with
    | nil => exact h.1 rfl
    | cons e ks =>
      cases kv with
      | nil => cases e2
      | cons q kv =>
        rw [List.map_cons, List.map_cons] at e2
        injection e2 with e4 _
        have h2 := h.2
        rw [List.all_cons, Bool.and_eq_true] at h2
        cases e with
        | tup _ => cases e4
        | _ => exact absurd h2.1 (by simp [tk])
  · exact q
def putT (ks vs : List D) (k : List Key) (d : D) : List D × List D :=
  if ks.any (fun e => decide (tk e = some k)) = true then (ks, (ks.zip vs).map fun q => if tk q.1 = some k then d else q.2) else (ks ++ [.tup (k.map kD)], vs ++ [d])
theorem putT_rel {g : G} {Hs : Hp} {kv : List (List Key × V)} {vs : List D} {k : List Key} {d : D} {v : V} (r : R g Hs d v) (q : RL g Hs vs (kv.map (·.2))) :
    (putT (kv.map fun q => D.tup (q.1.map kD)) vs k d).1 = (putK kv k v).map (fun q => D.tup (q.1.map kD)) ∧ RL g Hs (putT (kv.map fun q => D.tup (q.1.map kD)) vs k d).2 ((putK kv k v).map (·.2)) := by
  have ea : ((kv.map fun q => D.tup (q.1.map kD)).any fun e => decide (tk e = some k)) = kv.any fun q => decide (q.1 = k) := by
    rw [any_map]
    congr 1
    funext q
    rw [tk_tup]
    exact decide_eq_decide.mpr ⟨fun e => Option.some.inj e, fun e => by rw [e]⟩
  unfold putT putK
  rw [ea]
  by_cases hb : (kv.any fun q => decide (q.1 = k)) = true
  · rw [if_pos hb, if_pos hb]
    refine ⟨?_, ?_⟩
    · rw [List.map_map]
      refine List.map_congr_left fun q _ => ?_
      show _ = D.tup ((if q.1 = k then (q.1, v) else q).1.map kD)
      split <;> rfl
    · clear hb ea
      induction kv generalizing vs with
      | nil => exact RL.nil
      | cons p kv ih =>
        cases vs with
        | nil => cases (RL_nil.mp q)
        | cons x vs =>
          obtain ⟨r1, r2⟩ := RL.inv q
          have e : tk (D.tup (p.1.map kD)) = some p.1 := tk_tup p.1
          rw [List.map_cons, List.zip_cons_cons, List.map_cons, List.map_cons, List.map_cons]
          refine RL.cons ?_ (ih r2)
          show R g Hs (if tk (D.tup (p.1.map kD)) = some k then d else x) (if p.1 = k then (p.1, v) else p).2
          rw [e]
          by_cases hk : p.1 = k
          · rw [if_pos (by rw [hk]), if_pos hk]; exact r
          · rw [if_neg (fun z => hk (Option.some.inj z)), if_neg hk]; exact r1
  · rw [if_neg hb, if_neg hb]
    refine ⟨by rw [List.map_append]; rfl, ?_⟩
    rw [List.map_append]
    exact RL.append q (RL.cons r RL.nil)
def dicAt (ρ : Rho) (i : Nat) : Option (List D × List D) := match ρ[i]? with
  | some (.ow (.dic ks vs)) => some (ks, vs)
  | _ => none
theorem dicAt_eq {ρ : Rho} {i : Nat} {q : List D × List D} (h : dicAt ρ i = some q) : ρ[i]? = some (.ow (.dic q.1 q.2)) := by
  unfold dicAt at h
  split at h
  · cases h; assumption
  · cases h
def uPut (q : List D × List D) (d k : D) : Option (List D × List D) := (tk k).bind fun kk => if keysT q.1 = true ∧ q.1.length < sizeLine then some (putT q.1 q.2 kk d) else none
/-- d[k] = e, d an own dict -/
def sDPutT (i : Nat) (me mk : M D) : MS := sBind me fun d ρ π => match dicAt ρ i with
  | some q => sBind mk (fun k ρ π => match uPut q d k with
    | some q' => .nx (ρ.set i (.ow (.dic q'.1 q'.2))) π
    | none => .bad) ρ π
  | none => .bad
theorem gs_dputT (hu : X.A.units + 1 < cLine) (i : Nat) {x : Str} (h : GE T X E e me) (hk : GE T X E ei mi) (hN : X.N[i]? = some x := by rfl) (hv : Vis X.env.scope x := by first | exact Or.inl rfl | exact Or.inr (Or.inl rfl) | exact Or.inr (Or.inr rfl)) (hd : (x == ("__debug__" : Str)) = false := by decide) (hcd : (x == ("__classdict__" : Str)) = false := by decide)
    (hs : swapsWith e (some (.Subscript (.Name x npos) ei pos')) pos.line X.env = pure false := by rfl) : GS T X E (.Assign [.Subscript (.Name x npos) ei pos'] e pos) (sDPutT i me mi) :=
  ⟨ps_imp (ps_dput hu (pe_var hN hv hd hcd) hk.pe h.pe hs) fun D σ H ⟨pa, ca, O, H0, Λ, ρ, π, good, res⟩ => ⟨pa, ca, O, ρ, π, good.good, good.ex (k := fun d ρ π => match dicAt ρ i with
    | some q => sBind mi (fun k ρ π => match uPut q d k with
      | some q' => .nx (ρ.set i (.ow (.dic q'.1 q'.2))) π
      | none => .bad) ρ π
    | none => .bad) res fun d π1 v H1 s r g1 res1 => by
    cases z : dicAt ρ i with
    | none => simp only [z] at res1; exact res1.elim
    | some q =>
      obtain ⟨ks, vs⟩ := q
      simp only [z] at res1
      have ek := dicAt_eq z
      obtain ⟨a, e1, di, na, wa⟩ := g1.good.own ek
      refine ⟨_, e1, pa, ca, O, ρ, π1, g1.good, g1.ex (k := fun k ρ π => match uPut (ks, vs) d k with
        | some q' => .nx (ρ.set i (.ow (.dic q'.1 q'.2))) π
        | none => .bad) res1 fun k π2 kv H2 s2 r2 g2 res2 => ?_⟩
      cases y : uPut (ks, vs) d k with
      | none => simp only [y] at res2; exact res2.elim
      | some q' =>
        simp only [y] at res2
        unfold uPut at y
        cases zt : tk k with
        | none => rw [zt] at y; cases y
        | some kk =>
          rw [zt] at y
          simp only [Option.bind_some] at y
          split at y
          case isFalse => cases y
          rename_i hc
          cases y
          obtain ⟨m, hm, hks, hvs⟩ := dT_of hc.1 (show DicAt _ _ (H1 a) ks vs from di)
          have hm2 : H2 a = some (.dT m) := (s2.own a wa na).trans hm
          have ed := tk_kD zt
          subst ed
          obtain ⟨b, us, rfl, hb, rb⟩ := R_tup.mp r2
          have hus := mapM_keys (mapM_kD kk) rb
          rw [hus] at hb
          have hks' : ks = m.map (fun q => Dl.D.tup (q.1.map kD)) := hks
          obtain ⟨p1, p2⟩ := putT_rel (k := kk) (R.ext s2.hid _ r) (RL.ext s2.hid _ hvs)
          rw [← hks'] at p1 p2
          have hlen : m.length = ks.length := by rw [hks', List.length_map]
          refine ⟨a, _, rfl, DPut.t hm2 (hide_some hb).2 (by rw [hlen]; exact hc.2), res2 _ _ (g2.mut i e1 (by rw [ek]; trivial) (.inr ⟨_, rfl, p1, p2⟩) trivial)⟩⟩⟩
/-- list(d), d a dict: its keys -/
def mKeys (ml : M (List D)) : M Own := mBind ml fun l => mOpt (match l with
  | [.dic ks _] => if keysT ks = true then some (.lst ks) else none
  | _ => none)
theorem keys_rel {g : G} {W : Addr → Prop} {H : Hp} (hw : ∀ b, W b → LD (H b)) : ∀ {kv : List (List Key × V)} {bs : List Addr}, IsKeys H kv bs → RL g (hide W H) (kv.map fun q => D.tup (q.1.map kD)) (bs.map V.ref)
  | [], bs, h => by cases h; exact RL.nil
  | q :: kv, bs, h => by
    cases h with
    | cons h t =>
      rename_i b bs
      refine RL.cons (R_tup.mpr ⟨b, q.1.map kV, rfl, ?_, ?_⟩) (keys_rel hw t)
      · have h : H b = some (.tup (q.1.map kV)) := h
        rw [hide_of (fun w => by have := hw b w; rw [h] at this; exact this)]
        exact h
      · clear h
        induction q.1 with
        | nil => exact RL.nil
        | cons k l ih =>
          refine RL.cons ?_ ih
          cases k with
          | inl i => exact R_int.mpr rfl
          | inr x => exact R_str.mpr rfl
theorem gf_keys {x : Expr} (h : GAB T X E [x] ml) (hm : X.mg "list" = none) (hc : X.calm = true := by rfl) (hg : Gl X "list" := by rfl) (hs : starEach [x] X.env = (false, eval x X.env) :: starEach [] X.env := by rfl) (hpl : (backTo pos (starEach [] X.env)).any (·.1) = false := by rfl) :
    GF T X E (.Call (.Name "list" p) [x] [] pos) (mKeys ml) :=
  ⟨pe_imp (pe_callTy (call_list_dT hc) hg hm (by rfl) h.pa (he := hs) (hpl := hpl)) fun σ H Q ⟨pa, ca, O, ρ, π, good, res⟩ => ⟨pa, ca, O, ρ, π, good, Res.seq res fun l π1 vs H1 s r res1 => by
    obtain ⟨k, e, res2⟩ := Res.opt res1
    split at e
    · rename_i ks ds
      split at e
      case isFalse => cases e
      rename_i hk
      cases e
      obtain ⟨v, t, rfl, r1, r2⟩ := r
      have r2 : t = [] := r2
      subst r2
      obtain ⟨a, rfl, di⟩ := r1.dic
      obtain ⟨m, hm, hks, hvs⟩ := dT_of hk di
      have g1 := good.step s
      refine ⟨a, m, rfl, .inl hm, fun p bs hp hb => Res.ok res2 (g1.same (same_upd hp)) (new_own (ca := ca) hp s.ext (g1.fresh hp) ⟨_, rfl, ?_⟩ trivial)⟩
      rw [hks]
      exact keys_rel (fun b w => g1.wlive w) hb
    · cases e⟩⟩
end
end L2.Dl
end

section
set_option maxRecDepth 100000
set_option maxHeartbeats 2000000
/-! More statements: x.append(y.pop(e)), x op= e. -/
namespace L2.Dl
open PySem PySem.Spec PyProof.Rows

def sAppPop (i j : Nat) (me : M D) : MS := fun ρ π => match lstAt ρ i, lstAt ρ j with
  | some f, some l => if i ≠ j ∧ f.length < sizeLine then sBind me (fun d ρ π => match d with
    | .int k => if -(2 ^ 63) ≤ k ∧ k < 2 ^ 63 then (match (ixN l.length k).bind fun n => (l[n]?).map fun y => (n, y) with
      | some q => .nx ((ρ.set j (.ow (.lst (l.eraseIdx q.1)))).set i (.ow (.lst (f ++ [q.2])))) π
      | none => .bad) else .bad
    | _ => .bad) ρ π else .bad
  | _, _ => .bad
section
variable {T : List (Addr × Str)} {X : Cx} {E : XK} {e : Expr} {me : M D} {pos cpos apos npos cpos2 apos2 npos2 : Pos}
theorem gs_apppop (i j : Nat) {x y : Str} (h : GE T X E e me) (hN : X.N[i]? = some x := by rfl) (hv : Vis X.env.scope x := by first | exact Or.inl rfl | exact Or.inr (Or.inl rfl) | exact Or.inr (Or.inr rfl)) (hd : (x == ("__debug__" : Str)) = false := by decide) (hcd : (x == ("__classdict__" : Str)) = false := by decide)
    (hN2 : X.N[j]? = some y := by rfl) (hv2 : Vis X.env.scope y := by first | exact Or.inl rfl | exact Or.inr (Or.inl rfl) | exact Or.inr (Or.inr rfl)) (hd2 : (y == ("__debug__" : Str)) = false := by decide) (hcd2 : (y == ("__classdict__" : Str)) = false := by decide)
    (hbase : attributeBase (.Name x npos) "append" X.env (eval (.Name x npos) X.env) = eval (.Name x npos) X.env := by rfl) (hbase2 : attributeBase (.Name y npos2) "pop" X.env (eval (.Name y npos2) X.env) = eval (.Name y npos2) X.env := by rfl)
    (hfew : ((backTo cpos (starEach ((.Call (.Attribute (.Name y npos2) "pop" apos2) [e] [] cpos2) :: []) X.env)).all (fun x => !x.1) && (backToKw cpos (keywordEach [] X.env)).all (fun x => x.1.isSome)
      && decide (((.Call (.Attribute (.Name y npos2) "pop" apos2) [e] [] cpos2 : Expr) :: []).length + ([] : List Keyword).length + (if ([] : List Keyword).isEmpty then 0 else 1) < 30)) = true := by rfl)
    (hfew2 : ((backTo cpos2 (starEach (e :: []) X.env)).all (fun x => !x.1) && (backToKw cpos2 (keywordEach [] X.env)).all (fun x => x.1.isSome)
      && decide ((e :: []).length + ([] : List Keyword).length + (if ([] : List Keyword).isEmpty then 0 else 1) < 30)) = true := by rfl)
    (hline : (apos.endLine == cpos.line) = true := by rfl) (hline2 : (apos2.endLine == cpos2.line) = true := by rfl)
    (hs : starEach ((.Call (.Attribute (.Name y npos2) "pop" apos2) [e] [] cpos2) :: []) X.env = (false, eval (.Call (.Attribute (.Name y npos2) "pop" apos2) [e] [] cpos2) X.env) :: starEach [] X.env := by rfl) (hplain : (backTo cpos (starEach [] X.env)).any (·.1) = false := by rfl)
    (hs2 : starEach (e :: []) X.env = (false, eval e X.env) :: starEach [] X.env := by rfl) (hplain2 : (backTo cpos2 (starEach [] X.env)).any (·.1) = false := by rfl)
    (hsw : swapsWith (.Call (.Attribute (.Name x npos) "append" apos) [.Call (.Attribute (.Name y npos2) "pop" apos2) [e] [] cpos2] [] cpos) none pos.line X.env = pure false := by rfl) :
    GS T X E (.Expr (.Call (.Attribute (.Name x npos) "append" apos) [.Call (.Attribute (.Name y npos2) "pop" apos2) [e] [] cpos2] [] cpos) pos) (sAppPop i j me) :=
  ⟨ps_imp (ps_expr (pe_bm PySem.F.plainAttrs_list PySem.F.slot_list_append PySem.F.type_list_append mt_append (pe_var hN hv hd hcd)
      (pa_cons (pe_bm PySem.F.plainAttrs_list PySem.F.slot_list_pop PySem.F.type_list_pop mt_popAt (pe_var hN2 hv2 hd2 hcd2) (pa_cons h.pe pa_nil hs2) hbase2 hfew2 hline2 hs2 hplain2) pa_nil hs) hbase hfew hline hs hplain) hsw) fun D σ H ⟨pa, ca, O, H0, Λ, ρ, π, good, res⟩ => by
    unfold sAppPop at res
    cases z : lstAt ρ i with
    | none => simp only [z] at res; exact res.elim
    | some f =>
      cases z2 : lstAt ρ j with
      | none => simp only [z, z2] at res; exact res.elim
      | some l =>
        simp only [z, z2] at res
        split at res
        case isFalse => exact res.elim
        rename_i hij
        have ei := lstAt_eq z
        have ej := lstAt_eq z2
        obtain ⟨a, e1, ⟨vs, hf, rf⟩, na, wa⟩ := good.good.own ei
        obtain ⟨b, e2, ⟨ws, hl, rl⟩, nb, wb⟩ := good.good.own ej
        refine ⟨_, e1, .inl ⟨rfl, vs, SqL.of hf⟩, _, e2, .inl ⟨rfl, ws, SqL.of hl⟩, pa, ca, O, ρ, π, good.good, good.ex (k := fun d ρ π => match d with
          | .int k => if -(2 ^ 63) ≤ k ∧ k < 2 ^ 63 then (match (ixN l.length k).bind fun n => (l[n]?).map fun y => (n, y) with
            | some q => .nx ((ρ.set j (.ow (.lst (l.eraseIdx q.1)))).set i (.ow (.lst (f ++ [q.2])))) π
            | none => .bad) else .bad
          | _ => .bad) res fun d π1 v H1 s r g1 res1 => ?_⟩
        cases d with
        | int k =>
          simp only at res1
          split at res1
          case isFalse => exact res1.elim
          rename_i hk
          cases zn : ixN l.length k with
          | none => simp only [zn, Option.bind_none] at res1; exact res1.elim
          | some n =>
            cases zy : l[n]? with
            | none => simp only [zn, zy, Option.bind_some, Option.map_none] at res1; exact res1.elim
            | some y =>
              simp only [zn, zy, Option.bind_some, Option.map_some] at res1
              have hl1 := (s.own b wb nb).trans hl
              have hf1 := (s.own a wa na).trans hf
              have rl1 := RL.ext s.hid _ rl
              obtain ⟨yv, e3, ry⟩ := RL.get rl1 zy
              have hab : a ≠ b := fun q => hij.1 (g1.good.inj i j a e1 (by rw [ei]; trivial) (by rw [q]; exact e2) (by rw [ej]; trivial))
              have hix := ixN_seq (n := l.length) zn
              have g2 := g1.mut j (o := .lst (ws.eraseIdx n)) (k := .lst (l.eraseIdx n)) e2 (by rw [ej]; trivial) ⟨_, rfl, RL.eraseIdx n rl1⟩ trivial
              have wj : WW O σ (ρ.set j (.ow (.lst (l.eraseIdx n)))) b := by
                refine .inr ⟨j, e2, ?_⟩
                rw [List.getElem?_set_self (List.getElem?_eq_some_iff.mp ej).1]
                trivial
              have ww : WW O σ (ρ.set j (.ow (.lst (l.eraseIdx n)))) = WW O σ ρ := by
                funext c
                refine propext (or_congr Iff.rfl ⟨?_, ?_⟩)
                · rintro ⟨m, h1, h2⟩
                  by_cases hm : j = m
                  · subst hm; exact ⟨j, h1, by rw [ej]; trivial⟩
                  · rw [List.getElem?_set_ne hm] at h2; exact ⟨m, h1, h2⟩
                · rintro ⟨m, h1, h2⟩
                  by_cases hm : j = m
                  · subst hm; exact ⟨j, h1, by rw [List.getElem?_set_self (List.getElem?_eq_some_iff.mp ej).1]; trivial⟩
                  · exact ⟨m, h1, by rw [List.getElem?_set_ne hm]; exact h2⟩
              have rf2 : RL ⟨X.K, X.mg, pa⟩ (hide (WW O σ (ρ.set j (.ow (.lst (l.eraseIdx n))))) (upd H1 b (.lst (ws.eraseIdx n)))) f vs := by
                rw [ww, hide_upd wb]; exact RL.ext s.hid _ rf
              have ry2 : R ⟨X.K, X.mg, pa⟩ (hide (WW O σ (ρ.set j (.ow (.lst (l.eraseIdx n))))) (upd H1 b (.lst (ws.eraseIdx n)))) y yv := by
                rw [ww, hide_upd wb]; exact ry
              have g3 := g2.mut i (o := .lst (vs ++ [yv])) (k := .lst (f ++ [y])) e1 (by rw [List.getElem?_set_ne (Ne.symm hij.1), ei]; trivial) ⟨_, rfl, RL.append rf2 (RL.cons ry2 RL.nil)⟩ trivial
              obtain rfl := R_int.mp r
              exact ⟨b, ws, k, n, yv, rfl, rfl, hl1, hk.1, hk.2, by rw [RL.length rl]; exact hix.1, e3, a, vs, yv, rfl, rfl, by rw [upd_ne hab]; exact hf1, by rw [RL.length rf]; exact hij.2, res1 _ _ g3⟩
        | _ => exact res1.elim⟩

/-! ### x op= e -/
def sAug (i : Nat) (f : D → D → Option D) (me : M D) : MS := fun ρ π => match ρ[i]? with
  | some (.sh x) => sBind me (fun d ρ π => match f x d with
    | some y => .nx (ρ.set i (.sh y)) π
    | none => .bad) ρ π
  | _ => .bad
theorem gs_aug {op : Operator} {r : R2} {f : D → D → Option D} (hr : OpR X (inplaceOp op) r) (ho : OpD X.K X.mg r f) (i : Nat) {x : Str} {pos' : Pos} (h : GE T X E e me) (hN : X.N.Nodup) (hi : X.N[i]? = some x := by rfl) (hx : Loc X.env.scope x := by first | exact Or.inl rfl | exact Or.inr rfl)
    (hf : X.fn x = true ∨ X.env.scope.names.lookup x = some .local := by first | exact Or.inl rfl | exact Or.inr rfl) : GS T X E (.AugAssign (.Name x pos') op e pos) (sAug i f me) :=
  ⟨ps_imp (ps_aug (ti := r) hN hi hx h.pe (fun pins s σ H x y v u Q I rx ry q => hr pins s σ H x y v u Q I rx ry q) hf) fun D σ H ⟨pa, ca, O, H0, Λ, ρ, π, good, res⟩ => by
    unfold sAug at res
    cases z : ρ[i]? with
    | none => rw [z] at res; exact res.elim
    | some q =>
      rw [z] at res
      cases q with
      | no => exact res.elim
      | ow k => exact res.elim
      | sh d0 =>
        simp only at res
        have q0 := good.good.sl i
        rw [z] at q0
        obtain ⟨v0, e1, r0⟩ := q0
        refine ⟨v0, e1, pa, ca, O, ρ, π, good.good, good.ex (k := fun d ρ π => match f d0 d with
          | some y => .nx (ρ.set i (.sh y)) π
          | none => .bad) res fun d π1 v H1 s rd g1 res1 => ?_⟩
        cases y : f d0 d with
        | none => simp only [y] at res1; exact res1.elim
        | some dy =>
          simp only [y] at res1
          exact ho pa (WW O σ ρ) H1 v0 v d0 d dy _ (fun p hp => g1.good.fresh hp) (.inl (R.ext s.hid _ r0)) (.inl rd) y fun w H2 hs hr => res1 _ _ ((g1.step (g1.good.same hs)).set i (fun z => z) fun d' z => by cases z; exact ⟨w, rfl, hr⟩)⟩
end
end L2.Dl
end

section
set_option maxRecDepth 100000
set_option maxHeartbeats 2000000
/-! sorted(l), l a list of alike data. -/
namespace L2.Dl
open PySem PySem.Spec PyProof.Rows

def rSortP (K : PySem.W.Frag) : List V → Hp → VK → Prop := fun vs H Q => ∃ (a : Addr) (xs : List V) (ps : List PyData), vs = [.ref a] ∧ SqL K H a xs ∧ DpAll K H xs ps ∧ PySem.W.AllAlike ps ∧ PySem.W.Sortable ps ∧ (∀ d ∈ ps, d.depth ≤ 60) ∧
  ∀ p, H p = none → Q (.ref p) (upd H p (.lst (((ps.zip xs).mergeSort (PySem.W.dataLe false (·.1))).map (·.2))))
theorem dpAll_len {K : PySem.W.Frag} {H : Hp} : ∀ {xs : List V} {ps : List PyData}, DpAll K H xs ps → ps.length = xs.length
  | _, _, .nil => rfl
  | _, _, .cons _ t => by rw [List.length_cons, List.length_cons, dpAll_len t]
theorem each_rel {K : PySem.W.Frag} {H : Hp} : ∀ {xs : List V} {ps : List PyData} {us : List Value}, DpAll K H xs ps → Vals xs us → PySem.W.EachIs (fun (v : Value) (b : PyData × V) => RelV b.2 v) us (ps.zip xs)
  | _, _, _, .nil, .nil => .nil
  | _, _, _, .cons _ t, .cons r s => .cons r (each_rel t s)
theorem each_reads {X : Cx} {pins : List (Addr × Obj)} {σ : St} {H : Hp} {s : Shared} (I : Inv X pins σ H s) : ∀ {xs : List V} {ps : List PyData} {us : List Value}, DpAll X.K H xs ps → Vals xs us → PySem.W.EachIs (fun (v : Value) (b : PyData × V) => ∃ as, Reads s.heap v b.1 as) us (ps.zip xs)
  | _, _, _, .nil, .nil => .nil
  | _, _, _, .cons h t, .cons r s => .cons (Dp.reads I _ _ _ h r) (each_reads I t s)
theorem each_vals : ∀ {us : List Value} {bs : List (PyData × V)}, PySem.W.EachIs (fun (v : Value) (b : PyData × V) => RelV b.2 v) us bs → Vals (bs.map (·.2)) us
  | _, _, .nil => .nil
  | _, _, .cons r t => .cons r (each_vals t)
theorem cr_sortP {X : Cx} (hu : X.A.units + 64 < cLine) : CallR X (.builtin "sorted") (rSortP X.K) := by
  intro pins s σ H vs us Q I r h
  obtain ⟨a, xs, ps, rfl, hs, hp, ha, hk, hd, q⟩ := h
  obtain ⟨its, rv, hl, hz⟩ := I.list hs
  rw [Vals.ref1 r]
  have hlen := dpAll_len hp
  have hzip : ((ps.zip xs).map (·.1)) = ps := by rw [List.map_fst_zip]; omega
  have hbl : (ps.zip xs).length = xs.length := by rw [List.length_zip]; omega
  refine PySem.W.sorted_data (vs := its) (bs := ps.zip xs) (enc := (·.1)) hl.isList (each_rel hp rv) (each_reads I hp rv) (by rw [hzip]; exact ha) (by rw [hzip]; exact hk) (by rw [hbl]; exact hz) (fun b hb => ?_) fun out ho eo => ?_
  · have : b.1 ∈ ps := (List.of_mem_zip (a := b.1) (b := b.2) hb).1
    have := hd _ this
    omega
  · obtain ⟨c, hc⟩ := sortedAll_at s.heap its out.toArray
    have hv := each_vals eo
    have hol : (((ps.zip xs).mergeSort (PySem.W.dataLe false (·.1))).map (·.2)).length ≤ sizeLine := by
      rw [List.length_map, List.length_mergeSort, hbl]; exact hz
    have I2 := I.laid (a := s.heap.objs.size + 1) (o := .lst (((ps.zip xs).mergeSort (PySem.W.dataLe false (·.1))).map (·.2))) (h' := sortedAll s.heap its out.toArray) (t' := s.toks) (fun b u e => sortedAll_old e) (Nat.le_succ _) ⟨hol, out, c, hv, hc⟩
    exact ⟨.ref (s.heap.objs.size + 1), _, I2, rfl, q _ (I.hok.fresh (Nat.le_succ _))⟩
def neTup : D → Bool
  | .tup (_ :: _) => true
  | _ => false
def noTup : D → Bool
  | .bl _ => true
  | .int _ => true
  | .str _ => true
  | .lst _ => true
  | _ => false
def sortOk (l : List D) : Bool := l.all (plainD 60) && (l.all fun d => l.all fun e => PySem.W.alike (toPy d) (toPy e)) && (l.all neTup || l.all noTup)
def sortL (l : List D) : List D := l.mergeSort (PySem.W.dataLe false toPy)
def sortD : List D → Option D
  | [.lst l] => if sortOk l = true then some (.lst (sortL l)) else none
  | _ => none
theorem toPyL_map : ∀ l : List D, toPyL l = l.map toPy
  | [] => rfl
  | d :: l => by rw [toPyL, List.map_cons, toPyL_map l]
theorem RL.zip_mem {g : G} {H : Hp} : ∀ {l : List D} {vs : List V}, RL g H l vs → ∀ q ∈ l.zip vs, R g H q.1 q.2
  | [], vs, h, q, hq => by cases hq
  | d :: l, vs, h, q, hq => by
    obtain ⟨v, t, rfl, r1, r2⟩ := RL_cons.mp h
    rcases List.mem_cons.mp hq with rfl | hq
    · exact r1
    · exact RL.zip_mem r2 q hq
theorem RL.of_zip {g : G} {H : Hp} : ∀ {bs : List (D × V)}, (∀ q ∈ bs, R g H q.1 q.2) → RL g H (bs.map (·.1)) (bs.map (·.2))
  | [], _ => RL.nil
  | q :: bs, h => RL.cons (h q List.mem_cons_self) (RL.of_zip fun p hp => h p (List.mem_cons_of_mem _ hp))
theorem sortL_rel {g : G} {H : Hp} {l : List D} {vs : List V} (r : RL g H l vs) : RL g H (sortL l) ((((toPyL l).zip vs).mergeSort (PySem.W.dataLe false (·.1))).map (·.2)) := by
  have e1 : sortL l = ((l.zip vs).mergeSort (PySem.W.dataLe false fun q => toPy q.1)).map (·.1) := by
    have q := List.map_mergeSort (r := PySem.W.dataLe false fun q : D × V => toPy q.1) (s := PySem.W.dataLe false toPy) (f := fun q : D × V => q.1) (l := l.zip vs) fun a _ b _ => rfl
    rw [q, List.map_fst_zip (by rw [RL.length r]; exact Nat.le_refl _)]
    rfl
  have e2 : ((toPyL l).zip vs).mergeSort (PySem.W.dataLe false (·.1)) = ((l.zip vs).mergeSort (PySem.W.dataLe false fun q => toPy q.1)).map (fun q => (toPy q.1, q.2)) := by
    have q := List.map_mergeSort (r := PySem.W.dataLe false fun q : D × V => toPy q.1) (s := PySem.W.dataLe false fun q : PyData × V => q.1) (f := fun q : D × V => (toPy q.1, q.2)) (l := l.zip vs) fun a _ b _ => rfl
    rw [q, toPyL_map, List.zip_map_left]
    rfl
  rw [e1, e2, List.map_map]
  exact RL.of_zip fun q hq => RL.zip_mem r q ((List.mergeSort_perm _ _).mem_iff.mp hq)
theorem sortD_ok {K : PySem.W.Frag} {mg : Str → Option Value} : CallD K mg (rSortP K) sortD := by
  intro pa W H xs ds d Q hf r e q
  unfold sortD at e
  split at e
  · rename_i l
    split at e
    case isFalse => cases e
    rename_i hs
    cases e
    simp only [sortOk, Bool.and_eq_true, Bool.or_eq_true] at hs
    obtain ⟨v, rfl, r0⟩ := rbl1 r
    obtain ⟨a, vs, rfl, ha, ra⟩ := r0.lst
    have h60 : ∀ d ∈ l, plainD 60 d = true := List.all_eq_true.mp hs.1.1
    refine ⟨a, vs, toPyL l, rfl, SqL.of ha, DpAll.hid (plain_dpL (n := 60) l hs.1.1 ra), fun x hx y hy => ?_, ?_, fun x hx => ?_, fun p hp => q _ _ (same_upd hp) (R_newL hp (hf p hp) (sortL_rel ra))⟩
    · rw [toPyL_map] at hx hy
      obtain ⟨dx, hdx, rfl⟩ := List.mem_map.mp hx
      obtain ⟨dy, hdy, rfl⟩ := List.mem_map.mp hy
      exact List.all_eq_true.mp (List.all_eq_true.mp hs.1.2 dx hdx) dy hdy
    · rw [toPyL_map]
      rcases hs.2 with h | h
      · refine .inl fun x hx => ?_
        obtain ⟨dx, hdx, rfl⟩ := List.mem_map.mp hx
        have := List.all_eq_true.mp h dx hdx
        cases dx with
        | tup l =>
          cases l with
          | nil => cases this
          | cons y l => exact ⟨toPy y, toPyL l, by rw [toPy, toPyL]⟩
        | _ => cases this
      · refine .inr fun x hx => ?_
        obtain ⟨dx, hdx, rfl⟩ := List.mem_map.mp hx
        have := List.all_eq_true.mp h dx hdx
        cases dx with
        | bl b => exact ⟨fun z => by simp [toPy] at z, fun xs z => by simp [toPy] at z⟩
        | int b => exact ⟨fun z => by simp [toPy] at z, fun xs z => by simp [toPy] at z⟩
        | str b => exact ⟨fun z => by simp [toPy] at z, fun xs z => by simp [toPy] at z⟩
        | lst b => exact ⟨fun z => by simp [toPy] at z, fun xs z => by simp [toPy] at z⟩
        | _ => cases this
    · rw [toPyL_map] at hx
      obtain ⟨dx, hdx, rfl⟩ := List.mem_map.mp hx
      exact (plain_lay 60 dx (h60 dx hdx)).2
  · cases e
end L2.Dl
end

section
set_option maxRecDepth 100000
set_option maxHeartbeats 2000000
/-! == and != by an own __eq__. -/
namespace L2.Dl
open PySem PySem.Spec PyProof.Rows

section
variable {prog : Program} {w : World} {A : Around} {E : Value → Shared → Prop} {s : Shared} {K : PySem.W.Frag} {x C L f : Addr} {h₀ : Heap} {m : Str → Option Value} {ox : Obj} {od : Option Obj} {b tb : Value}
/-- what the __ne__ of every object does with an own __eq__ -/
theorem objNe_own {Q : Fin → Shared → Prop} (hu : A.units < cLine) (X : K.In s.heap) (I : PySem.W.InstAt s.heap x ox C od) (hs : PySem.W.findIn K (.ref C) "__eq__" = some (some (.ref f))) (hf : PySem.W.isFn K (.ref f) = true)
    (h : wpAny (model prog w) A (call (.ref f) [.ref x, b]) (fun v s' => ∃ r, v = .bool r ∧ Q (.done (.ret (.bool (!r)))) s') E s) : wpAny (model prog w) A (Builtin.«object.__ne__» ⟨[.ref x, b], []⟩) Q E s := by
  unfold Builtin.«object.__ne__»
  have key : wpAny (model prog w) A (callSpecialIfBound? (.ref x) "__eq__" [b]) (fun o s' => ∃ r, o = some (Value.bool r) ∧ Q (.done (.ret (.bool (!r)))) s') E s :=
    PySem.W.ifBound_K X I hs hf (wpAny_mono h (fun v s' hv => by
      obtain ⟨r, rfl, q⟩ := hv
      exact ⟨r, rfl, q⟩) fun _ _ e => e)
  repeat (first | with_reducible refine wpAny_cRoomFor hu ?_ | (with_reducible refine wpAny_mono key (fun o s' ho => ?_) fun _ _ e => e) | wp_step)
  obtain ⟨r, rfl, q⟩ := ho
  repeat wp_step
  exact q
/-- x != b, x an instance with an own __eq__ and no own __ne__ -/
theorem ne_K {Q : Value → Shared → Prop} (hu : A.units + 1 < cLine) (X : K.In s.heap) (I : PySem.W.InstAt s.heap x ox C od) (hb : PySem.W.Looks (model prog w) s.heap (typeOf b) tb) (hn : PySem.W.notFirst K C tb = true)
    (hm : PySem.W.mroIn K C (.type "object") = some true) (hne : PySem.W.findIn K (.ref C) "__ne__" = some (some (.builtin "object.__ne__"))) (hs : PySem.W.findIn K (.ref C) "__eq__" = some (some (.ref f))) (hf : PySem.W.isFn K (.ref f) = true)
    (h : wpAny (model prog w) A.in1 (call (.ref f) [.ref x, b]) (fun v s' => ∃ r, v = .bool r ∧ Q (.bool (!r)) s') E s) : wpAny (model prog w) A (richCompare .NotEq (.ref x) b) Q E s := by
  have hu0 : A.units < cLine := Nat.lt_of_succ_lt hu
  have hcall : wpAny (model prog w) A (call (.builtin "object.__ne__") ([.ref x] ++ [b])) (fun v s' => ∃ r, v = .bool r ∧ Q (.bool r) s') E s :=
    wpAny_call (codeAny_call_builtin F.cmp_object.ne.plain F.cmpEntry_ne (PySem.W.check_slot F.cmpKind_ne F.cmpSplit_ne (I.type.andThen (PySem.W.looks_mroIn X hm)) (F.cmpArgs_ne _ _)
      (objNe_own (A := A.in1) hu X I hs hf (wpAny_mono h (fun v s' hv => by
        obtain ⟨r, e, q⟩ := hv
        exact ⟨r, e, (!r), rfl, q⟩) fun _ _ e => e))))
  have one : wpAny (model prog w) A (tryCompare (.ref x) (cmpInfo .NotEq).2.1 b) (fun r s' => ∃ v, r = some v ∧ Q v s') E s := by
    unfold tryCompare
    refine wpAny_bind ?_
    simp only [callSpecialIfBound?, bindSpecialIfBound?]
    refine wpAny_holding (wpAny_bind (wpAny_bind (wpAny_bind (I.type.here ((PySem.W.looks_findIn X hne).here ?_)))))
    simp only [F.cmp_object.ne.bind]
    refine wpAny_bind (wpAny_askSetting (wpAny_ite ?_))
    have fin : wpAny (model prog w) A (call (.builtin "object.__ne__") ([.ref x] ++ [b]) >>= fun v => pure (some v)) (fun o s' => wpAny (model prog w) A (match o with | some .notImplemented | none => pure none | some v => pure (some v)) (fun r s' => ∃ v, r = some v ∧ Q v s') E s') E s :=
      wpAny_bind (wpAny_mono hcall (fun v s' hv => by
        obtain ⟨r, rfl, q⟩ := hv
        exact wpAny_pure (wpAny_pure ⟨_, rfl, q⟩)) fun _ _ h' => h')
    split
    · exact wpAny_bind (wpAny_pure (wpAny_pure fin))
    · exact wpAny_tryCatch (wpAny_bind (wpAny_pure (wpAny_pure fin)))
  unfold richCompare
  simp only [oneThing_ref]
  refine wpAny_holding (wpAny_bind (wpAny_cRoomFor hu0 ?_))
  refine wpAny_bind (I.type.here (wpAny_bind (hb.here ?_)))
  split
  · rename_i q
    have e : PySem.W.subIn K tb (.ref C) = some false := by
      rcases Bool.or_eq_true_iff.mp hn with e | e
      · rw [beq_iff_eq.mp e] at q; simp at q
      · exact beq_iff_eq.mp e
    refine wpAny_bind ((PySem.W.looks_subIn X e).here ?_)
    simp only [Bool.false_eq_true, if_false]
    refine wpAny_bind (wpAny_mono one (fun r s' z => ?_) fun _ _ e => e)
    obtain ⟨v, rfl, hq⟩ := z
    exact wpAny_pure hq
  · refine wpAny_bind (wpAny_pure ?_)
    simp only [Bool.false_eq_true, if_false]
    refine wpAny_bind (wpAny_mono one (fun r s' z => ?_) fun _ _ e => e)
    obtain ⟨v, rfl, hq⟩ := z
    exact wpAny_pure hq
end

/-- what is asked of a class with an own __eq__ at g -/
structure EqF (K : PySem.W.Frag) (mg : Str → Option Value) (cs : List Str) (C g : Addr) : Prop where
  hs : PySem.W.findIn K (.ref C) "__eq__" = some (some (.ref g))
  hf : PySem.W.isFn K (.ref g) = true
  hn : PySem.W.findIn K (.ref C) "__ne__" = some (some (.builtin "object.__ne__"))
  hm : PySem.W.mroIn K C (.type "object") = some true
  ty : ∀ t ∈ tyNames, PySem.W.notFirst K C (.type t) = true
  cl : ∀ c ∈ cs, ∀ C', mg c = some (.ref C') → ClsI K C' ∧ PySem.W.notFirst K C (.ref C') = true
def rEqB (K : PySem.W.Frag) (C : Addr) (neg : Bool) (sp : Sp) (E : XK) : R2 := fun x y H Q => ∃ a dx fs t, x = .ref a ∧ H a = some (.ins C dx fs) ∧ TyX K H y t ∧ PySem.W.notFirst K C t = true ∧ sp [x, y] H (fun v H' => ∃ b, v = .bl b ∧ Q (.bl (b ^^ neg)) H') E
section
variable {X : Cx} {CX : CXT} {C g : Addr} {n : Nat} {sp : Sp} {E : XK} {cs : List Str}
theorem op_eqB (F : FnR X.prog X.w X.K X.mg X.base CX n g sp) (hr : Room n X.A) (hx : Passes CX X E) (e : EqF X.K X.mg cs C g) : OpR X (compareOp .Eq) (rEqB X.K C false sp E) := by
  intro pins s σ H x y v u Q I rx ry h
  obtain ⟨a, dx, fs, t, rfl, ha, ty, hn, q⟩ := h
  cases (show v = Value.ref a from rx)
  obtain ⟨mA, J, _⟩ := ins_get I.hok ha
  obtain ⟨od, J, _⟩ := J.look
  obtain ⟨P, kx, hp, _⟩ := kit_of I ry ty
  obtain ⟨m, hF⟩ := I.fr
  show wpAny _ _ (richCompare .Eq (.ref a) u) _ _ _
  refine PySem.W.cmp_K (op := .Eq) (tb := t) hr.units0 hF I.ok.mod.kin J (kx.ty _ _ I.kIn hp) hn e.hs e.hf ?_
  refine wpAny_mono (wpAny_call (run_fnR (us := [.ref a, u]) (vs := [.ref a, y]) F hr hx I (.cons rfl (.cons ry .nil)) q)) (fun w s' z => ?_) fun _ _ x => x
  obtain ⟨z', H', I', rz, b, rfl, qz⟩ := z
  cases (show w = Value.bool b from rz)
  exact ⟨.bl (b ^^ false), H', I', (by rw [Bool.xor_false]; rfl), qz⟩
theorem op_neB (F : FnR X.prog X.w X.K X.mg X.base CX n g sp) (hr : Room (n + 1) X.A) (hx : Passes CX X E) (e : EqF X.K X.mg cs C g) : OpR X (compareOp .NotEq) (rEqB X.K C true sp E) := by
  intro pins s σ H x y v u Q I rx ry h
  obtain ⟨a, dx, fs, t, rfl, ha, ty, hn, q⟩ := h
  cases (show v = Value.ref a from rx)
  obtain ⟨mA, J, _⟩ := ins_get I.hok ha
  obtain ⟨od, J, _⟩ := J.look
  obtain ⟨P, kx, hp, _⟩ := kit_of I ry ty
  show wpAny _ _ (richCompare .NotEq (.ref a) u) _ _ _
  have hr1 : Room n X.A.in1 := hr.in1
  refine ne_K hr1.units0 I.kIn J (kx.ty _ _ I.kIn hp) hn e.hm e.hn e.hs e.hf ?_
  refine wpAny_mono (wpAny_call (SlX.run_at (us := [.ref a, u]) (ws := [.ref a, y]) F hr1 I.env0.in1 hx I (.cons rfl (.cons ry .nil)) q)) (fun w s' z => ?_) fun _ _ x => x
  obtain ⟨z', H', I', rz, b, rfl, qz⟩ := z
  cases (show w = Value.bool b from rz)
  exact ⟨b, rfl, .bl (b ^^ true), H', I', (by rw [Bool.xor_true]; rfl), qz⟩
end

/-- an own class with its __eq__, by name -/
structure De (P : Program) (w : World) (K : PySem.W.Frag) (mg : Str → Option Value) (base : Heap) (T : List (Addr × Str)) (cs : List Str) (cn : Str) (k : Nat) (F : Fn) : Prop where
  ex : ∃ (C g : Addr) (fd : FuncData) (ps : List Str), mg cn = some (.ref C) ∧ EqF K mg cs C g ∧ FnOk P w K mg base (L2.CX P w) k g fd ps (spD K mg T 2 F) ∧ Binds K fd ps []
/-- the right operand's class is known -/
def eqR (cs : List Str) : D → Bool
  | .obj c _ _ => decide (c ∈ cs)
  | d => (tyName d).isSome
def eqO (neg : Bool) (cs : List Str) (cn : Str) (F : Fn) (d e : D) (π : Pen) : Out D := match d with
  | .obj c _ _ => if c = cn ∧ eqR cs e = true then (callF 2 F [d, e] π).bind fun r π => (match r with | .bl b => .ok (.bl (b ^^ neg)) π | _ => .bad) else .bad
  | _ => .bad
def mEqO (neg : Bool) (cs : List Str) (cn : Str) (F : Fn) (ma mb : M D) : M D := mBind ma fun d => mBind mb fun e => fun _ π => eqO neg cs cn F d e π
theorem eqR_named {cs : List Str} {d : D} (h : eqR cs d = true) : (∃ n, tyName d = some n) ∨ ∃ c ns fs, d = .obj c ns fs ∧ c ∈ cs := by
  cases d with
  | obj c ns fs => exact .inr ⟨c, ns, fs, rfl, of_decide_eq_true h⟩
  | pen => cases h
  | _ => exact .inl ⟨_, rfl⟩
theorem tyName_mem {d : D} {n : String} (h : tyName d = some n) : n ∈ tyNames := by
  cases d <;> first | (cases h; done) | (cases h; decide)
section
variable {T : List (Addr × Str)} {X : Cx} {E : XK} {a b : Expr} {ma mb : M D} {pos : Pos} {cs : List Str} {cn : Str} {k n : Nat} {F : Fn} {neg : Bool}
theorem eqO_ok {K : PySem.W.Frag} {mg : Str → Option Value} {g : Addr} {C : Addr} (hC : mg cn = some (.ref C)) (e : EqF K mg cs C g) {pa : Addr × Addr} {ca : Addr} {O : Addr → Prop} {σ : St} {H : Hp} {ρ : Rho} {π : Pen} (good : Good T ⟨K, mg, pa⟩ ca O σ H ρ π) {d1 d2 : D} {v1 v2 : V}
    (r1 : R ⟨K, mg, pa⟩ (hide (WW O σ ρ) H) d1 v1) (r2 : R ⟨K, mg, pa⟩ (hide (WW O σ ρ) H) d2 v2) {Q : VK} (res : Res (relD ⟨K, mg, pa⟩ (WW O σ ρ)) T ⟨K, mg, pa⟩ ca (WW O σ ρ) H (eqO neg cs cn F d1 d2 π) Q E) :
    rEqB K C neg (spD K mg T 2 F) E v1 v2 H Q := by
  unfold eqO at res
  cases d1 with
  | obj c ns fs =>
    simp only at res
    split at res
    · rename_i hc
      obtain ⟨hc, h2⟩ := hc
      subst hc
      obtain ⟨a, C', dx, fvs, rfl, hg, ha, hn, hr⟩ := (show RB _ _ _ _ _ from .inl r1).obj
      have hg : mg c = some (.ref C') := hg
      rw [hC] at hg
      cases hg
      obtain ⟨ty, t1, t2⟩ := isi_ex (K := K) (mg := mg) (cs := cs) (fun c hc C' hg => (e.cl c hc C' hg).1) (.inl r2) (eqR_named h2)
      have hnf : PySem.W.notFirst K C ty = true := by
        rcases t2 with ⟨n, h1, rfl⟩ | ⟨c2, ns2, fs2, C2, e2, hg2, rfl⟩
        · exact e.ty n (tyName_mem h1)
        · rw [e2] at h2
          exact (e.cl c2 (of_decide_eq_true h2) C2 hg2).2
      refine ⟨a, dx, fvs, ty, rfl, ha, t1, hnf, pa, ca, WW O σ ρ, [.obj c ns fs, d2], π, good.callee, .cons r1 (.cons r2 .nil), ?_⟩
      exact Res.seq res fun r π1 v H1 s1 rr res1 => by
        cases r with
        | bl b =>
          have e := R_bl.mp rr
          subst e
          exact ⟨b, rfl, Res.ok res1 (good.step s1).step0 (R_bl.mpr rfl)⟩
        | _ => exact res1.elim
    · exact res.elim
  | _ => exact res.elim
theorem De.eq (h : De X.prog X.w X.K X.mg X.base T cs cn k F) (hr : Room n X.A) (hk : k ≤ n) (hx : Passes (L2.CX X.prog X.w) X E) (ha : GE T X E a ma) (hb : GE T X E b mb) (hm : behindInMarks .Eq b = false := by first | exact nomark _ | rfl) : GE T X E (.Compare a [.Eq] [b] pos) (mEqO false cs cn F ma mb) := by
  obtain ⟨C, g, fd, ps, hC, e, G, hbd⟩ := h.ex
  exact ⟨pe_imp (pe_cmpR (op_eqB ((G.raw hbd .nil).imp fun vs H Q E h => by rw [List.append_nil]; exact h) (hr.mono hk) hx e) ha.pe hb.pe hm) fun σ H Q ⟨pa, ca, O, ρ, π, good, res⟩ => ⟨pa, ca, O, ρ, π, good, Res.seq res fun d1 π1 v1 H1 s1 r1 res1 =>
    ⟨pa, ca, O, ρ, π1, good.step s1, Res.seq res1 fun d2 π2 v2 H2 s2 r2 res2 => eqO_ok hC e ((good.step s1).step s2) (R.ext s2.hid d1 r1) r2 res2⟩⟩⟩
theorem De.ne (h : De X.prog X.w X.K X.mg X.base T cs cn k F) (hr : Room n X.A) (hk : k + 1 ≤ n) (hx : Passes (L2.CX X.prog X.w) X E) (ha : GE T X E a ma) (hb : GE T X E b mb) (hm : behindInMarks .NotEq b = false := by first | exact nomark _ | rfl) : GE T X E (.Compare a [.NotEq] [b] pos) (mEqO true cs cn F ma mb) := by
  obtain ⟨C, g, fd, ps, hC, e, G, hbd⟩ := h.ex
  exact ⟨pe_imp (pe_cmpR (op_neB ((G.raw hbd .nil).imp fun vs H Q E h => by rw [List.append_nil]; exact h) (hr.mono hk) hx e) ha.pe hb.pe hm) fun σ H Q ⟨pa, ca, O, ρ, π, good, res⟩ => ⟨pa, ca, O, ρ, π, good, Res.seq res fun d1 π1 v1 H1 s1 r1 res1 =>
    ⟨pa, ca, O, ρ, π1, good.step s1, Res.seq res1 fun d2 π2 v2 H2 s2 r2 res2 => eqO_ok hC e ((good.step s1).step s2) (R.ext s2.hid d1 r1) r2 res2⟩⟩⟩
/-- the same as tests -/
def mTEq (neg : Bool) (cs : List Str) (cn : Str) (F : Fn) (ma mb : M D) : M Bool := mBind ma fun d => mBind mb fun e => mBind (fun _ π => eqO neg cs cn F d e π) fun z => mOpt (asB z)
theorem De.teq (h : De X.prog X.w X.K X.mg X.base T cs cn k F) (hr : Room n X.A) (hk : k ≤ n) (hx : Passes (L2.CX X.prog X.w) X E) (ha : GE T X E a ma) (hb : GE T X E b mb) (hm : behindInMarks .Eq b = false := by first | exact nomark _ | rfl) : GT T X E (.Compare a [.Eq] [b] pos) (mTEq false cs cn F ma mb) := by
  obtain ⟨C, g, fd, ps, hC, e, G, hbd⟩ := h.ex
  exact ⟨pt_imp (pt_cmpR (op_eqB ((G.raw hbd .nil).imp fun vs H Q E h => by rw [List.append_nil]; exact h) (hr.mono hk) hx e) ha.pe hb.pe hm) fun σ H Q ⟨pa, ca, O, ρ, π, good, res⟩ => ⟨pa, ca, O, ρ, π, good, Res.seq res fun d1 π1 v1 H1 s1 r1 res1 =>
    ⟨pa, ca, O, ρ, π1, good.step s1, Res.seq res1 fun d2 π2 v2 H2 s2 r2 res2 => eqO_ok hC e ((good.step s1).step s2) (R.ext s2.hid d1 r1) r2 (Res.seq (o := eqO false cs cn F d1 d2 π2) res2 fun z π3 v H3 s3 r3 res3 => by
      obtain ⟨q, e2, res3⟩ := Res.opt (o := asB z) res3
      exact ⟨q, (show RB _ _ _ z v from .inl r3).asB e2, Res.ok res3 (((good.step s1).step s2).step s3).step0 rfl⟩)⟩⟩⟩
theorem De.tne (h : De X.prog X.w X.K X.mg X.base T cs cn k F) (hr : Room n X.A) (hk : k + 1 ≤ n) (hx : Passes (L2.CX X.prog X.w) X E) (ha : GE T X E a ma) (hb : GE T X E b mb) (hm : behindInMarks .NotEq b = false := by first | exact nomark _ | rfl) : GT T X E (.Compare a [.NotEq] [b] pos) (mTEq true cs cn F ma mb) := by
  obtain ⟨C, g, fd, ps, hC, e, G, hbd⟩ := h.ex
  exact ⟨pt_imp (pt_cmpR (op_neB ((G.raw hbd .nil).imp fun vs H Q E h => by rw [List.append_nil]; exact h) (hr.mono hk) hx e) ha.pe hb.pe hm) fun σ H Q ⟨pa, ca, O, ρ, π, good, res⟩ => ⟨pa, ca, O, ρ, π, good, Res.seq res fun d1 π1 v1 H1 s1 r1 res1 =>
    ⟨pa, ca, O, ρ, π1, good.step s1, Res.seq res1 fun d2 π2 v2 H2 s2 r2 res2 => eqO_ok hC e ((good.step s1).step s2) (R.ext s2.hid d1 r1) r2 (Res.seq (o := eqO true cs cn F d1 d2 π2) res2 fun z π3 v H3 s3 r3 res3 => by
      obtain ⟨q, e2, res3⟩ := Res.opt (o := asB z) res3
      exact ⟨q, (show RB _ _ _ z v from .inl r3).asB e2, Res.ok res3 (((good.step s1).step s2).step s3).step0 rfl⟩)⟩⟩⟩
end
end L2.Dl
end

section
set_option maxRecDepth 100000
set_option maxHeartbeats 2000000
/-! try with several clauses 'except X as e', all with the same name. -/
namespace L2.Dl
open PySem PySem.Spec PyProof.Rows

abbrev Lad := List (Value × (Addr → Value → Option Addr → TS))
/-- behind a clause the name is gone -/
def goneE (i : Nat) (D : Ends) : Ends := { nx := fun σ H => D.nx (σ.set i none) H, rt := D.rt, bk := fun σ H => D.bk (σ.set i none) H, ct := fun σ H => D.ct (σ.set i none) H }
def wLad (K : PySem.W.Frag) (i : Nat) (Wout : WX) (D : Ends) : Lad → WX
  | [] => Wout
  | q :: r => fun cls d σ H => ∃ b, PySem.W.exmOne K cls q.1 = some b ∧ (b = true → ∀ a, H a = none → q.2 a cls d (goneE i D) (σ.set i (some (.ref a))) H) ∧ (b = false → wLad K i Wout D r cls d σ H)
inductive LadOk (X : Cx) (n : Str) : List ExceptHandler → Lad → Prop
  | nil : LadOk X n [] []
  | cons {x : Str} {c : Value} {ts : Addr → Value → Option Addr → TS} {b : Stmt} {bs : List Stmt} {np p : Pos} {hds : List ExceptHandler} {l : Lad} (nm : Names X x c)
      (su : ∀ (a : Addr) (oe : Obj) (cls : Value) (d : Option Addr) (pn : List (Addr × Obj)), Zc cls d oe → (∃ vs, oe.data = .fields vs) → PSs (X.suite a ((a, oe) :: pn)) (b :: bs) (ts a cls d)) (r : LadOk X n hds l) :
      LadOk X n (.ExceptHandler (some (.Name x np)) (some n) (b :: bs) p :: hds) ((c, ts) :: l)
section
variable {X : Cx} {pins : List (Addr × Obj)} {σ : St} {H : Hp} {s : Shared} {n : Str} {i : Nat} {D : Ends}
/-- the suite's end, the name goes -/
theorem lad_end {q : Addr × Obj} {a : Addr} {fl : Flow} {p : Pos} {E : Value → Shared → Prop} (ok : X.Ok) (hN : X.N.Nodup) (hi : X.N[i]? = some n) (hl : X.env.kindOf n = some .local) (h : SP (X.suite a (q :: (X.pn ++ pins))) [] (goneE i D) fl s) :
    wpAny (model X.prog X.w) X.A (do bindName X.env n .none; unbindBehindTheSuite X.env n p) (fun _ s7 => SP X pins D fl s7) E s := by
  have go : ∀ {σ' : St} {H' : Hp} {Q : Shared → Prop}, Inv (X.suite a (q :: (X.pn ++ pins))) [] σ' H' s → (∀ s7, Inv X pins (σ'.set i none) H' s7 → Q s7) →
      wpAny (model X.prog X.w) X.A (do bindName X.env n .none; unbindBehindTheSuite X.env n p) (fun _ s7 => Q s7) E s := fun I k => gone_ok (I.unsuite ok) hN hi hl k
  cases fl with
  | ret u => obtain ⟨v, σ', H', I, r, k⟩ := h; exact go I fun s7 J => ⟨v, _, _, J, r, k⟩
  | next => obtain ⟨σ', H', I, k⟩ := h; exact go I fun s7 J => ⟨_, _, J, k⟩
  | brk => obtain ⟨σ', H', I, k⟩ := h; exact go I fun s7 J => ⟨_, _, J, k⟩
  | cont => obtain ⟨σ', H', I, k⟩ := h; exact go I fun s7 J => ⟨_, _, J, k⟩
theorem ps_ladder {body : List Stmt} {hd : ExceptHandler} {hds : List ExceptHandler} {l : Lad} {pos : Pos} {tb : WX → TS} {Wout : WX} (hs : X.stack = X.env :: X.outer) (hf : X.env.frame = some X.env.locals) (hN : X.N.Nodup) (hi : X.N[i]? = some n) (hl : X.env.kindOf n = some .local) (tk : Takes X Wout)
    (hb : ∀ (W : WX) (pn : List (Addr × Obj)) (xe : Value → Shared → Prop), Takes (X.tr pn xe) W → PassesOwn (model X.prog X.w) X.A X.env xe → PSs (X.tr pn xe) body (tb W)) (hh : LadOk X n (hd :: hds) l) :
    PS X (.Try body (hd :: hds) [] [] pos) (fun D σ H => tb (wLad X.K i Wout D l) D σ H) := by
  constructor
  intro pins s σ H D I h
  have ok := I.ok
  have fr : X.A.frames = some (X.env :: X.outer) := by rw [ok.frames, hs]
  let xb : Value → Shared → Prop := fun e t1 => wpAny (model X.prog X.w) X.A (noteFrame e X.env) (fun _ t2 => wpAny (model X.prog X.w) X.A (setFlight e none) (fun _ t3 => wpAny (model X.prog X.w) X.A (handleBy e X.env (hd :: hds)) (SP X pins D) X.xe t3) X.xe t2) X.xe t1
  have takes : Takes (X.tr (X.pn ++ pins) xb) (wLad X.K i Wout D l) := by
    intro u t ⟨a, B, tI, ps, σ1, H1, cls, d, eu, J0, nb, up, sky, na, os, ag, w⟩
    subst eu
    have J1 : Inv X pins σ1 H1 tI := J0.ofTry ok
    have sky1 : Sky B (X.env :: X.outer) a (Zc cls d) X.env.locals t.heap := by rw [← hs]; exact sky
    show wpAny (model X.prog X.w) X.A (noteFrame (.ref a) X.env) _ _ _
    refine Sky.land Zc.steady fr hf sky1 fun h3 fl up3 => ?_
    have J3 : Inv X pins σ1 H1 { t with heap := h3 } := J1.landed nb fl.1 (up.trans up3) os ag
    have out : ∀ {h : Heap} {o : Obj} {vs : Array Value}, h.FunFrames B (X.env :: X.outer) → h.get? a = some o → o.data = .fields vs → a ∉ frs (X.env :: X.outer) := by
      intro h o vs ff e dd hm
      obtain ⟨_, o', e', no⟩ := ff.mem hm
      exact no vs (by rw [show o' = o from Option.some.inj (e'.symm.trans e)]; exact dd)
    obtain ⟨o3, v3, g3, z3, d3⟩ := fl.there
    have nfr := out fl.2.2.1 g3 d3
    have nL : a ≠ X.env.locals := fun z => nfr (List.mem_filterMap.mpr ⟨X.env, List.mem_cons_self, by rw [hf, z]⟩)
    have nF : a ∉ X.fs := by
      intro hm
      obtain ⟨e, he, q⟩ := List.mem_filterMap.mp hm
      exact nfr (List.mem_filterMap.mpr ⟨e, List.mem_cons_of_mem _ he, q⟩)
    have look : PySem.W.Looks (model X.prog X.w) h3 (typeOf (.ref a)) cls := fun A Q E s k q => wpAny_typeOf_ref (k _ _ g3) (by rw [z3.1]; exact q)
    have S3 := J3.suite g3 d3 na nL nF
    have go : ∀ {ys : List ExceptHandler} {zs : Lad}, LadOk X n ys zs → wLad X.K i Wout D zs cls d σ1 H1 → wpAny (model X.prog X.w) X.A (handleBy (.ref a) X.env ys) (SP X pins D) X.xe { t with heap := h3 } := by
      intro ys zs hk
      induction hk with
      | nil =>
        intro w
        obtain ⟨k1, k2, k3, oe, vs, T, oT, ts', he, hz, hd, h1, hr⟩ := id fl
        refine wpAny_handleBy_nil ?_
        unfold PySem.passOn
        refine wpAny_bind (wpAny_field he hd h1 ?_)
        rw [if_neg (show ¬ ((Value.ref T == Value.none) = true) by simp)]
        have on : wpAny (model X.prog X.w) X.A (setFlight (.ref a) X.env.frame) (fun _ t4 => wpAny (model X.prog X.w) X.A (throw (.ref a) : Sem Flow) (SP X pins D) X.xe t4) X.xe { t with heap := h3 } := by
          rw [hf]
          refine HandSPX.setFlight_upZ fl fun h4 hh4 up4 => wpAny_throw (tk _ _ ⟨a, B, tI, pins, σ1, H1, cls, d, rfl, J1, nb, (up.trans up3).trans up4, .inr (.inr (by rw [hs]; exact hh4)), na, os, ag, w⟩)
        first
          | exact wpAny_bind (wpAny_pure (wpAny_bind on))
          | exact wpAny_bind on
      | @cons x c ts b bs np p ys zs nm su r ih =>
        intro ⟨yes, ex, wy, wn⟩
        have named : ∀ {Q : Value → Shared → Prop} {E : Value → Shared → Prop}, Q c { t with heap := h3 } → wpAny (model X.prog X.w) (X.A.mark (some (.ref a))) (eval (.Name x np) X.env) Q E { t with heap := h3 } := by
          intro Q E q
          obtain ⟨hg, hdb, hm | ⟨hm, hv, hnn⟩⟩ := nm
          · exact ld_glob (X := X.suite a ((a, o3) :: (X.pn ++ pins))) S3 hg hm q hdb
          · exact ld_blt (X := X.suite a ((a, o3) :: (X.pn ++ pins))) S3 hg hm hv q hnn hdb
        refine wpAny_handleBy_cons (codeAny_handlers_test (named ((PySem.W.exm_one (M := model X.prog X.w) (J3.kIn) look ex).here ?_))) (by intro q; cases q)
        cases yes with
        | false => exact ih (wn rfl)
        | true =>
          refine codeAny_handlers_suite_as (HandSPX.lands_againZ fl fun h4 fl4 up4 => ?_)
          have J4 : Inv X pins σ1 H1 { t with heap := h4 } := J1.landed nb fl4.1 ((up.trans up3).trans up4) os ag
          obtain ⟨o4, v4, g4, z4, d4⟩ := fl4.there
          refine store_ok (X := X.suite a ((a, o4) :: (X.pn ++ pins))) (v := .ref a) (J4.suite g4 d4 na nL nF) hN hi (.inl hl) rfl (fun s5 S5 => ?_) (.inr hl)
          exact wpAny_mono ((su a o4 cls d (X.pn ++ pins) z4 ⟨_, d4⟩).run [] s5 _ H1 _ S5 (wy rfl a na)) (fun f s6 hsp => lad_end ok hN hi hl hsp) fun _ _ z => z.elim
    exact go hh w
  refine wpAny_Try_except (wpAny_mono ((hb _ _ xb takes PassesOwn.looking).run [] s σ H D (I.toTry _) h) (fun f s1 q => ?_) fun _ _ z => z)
  cases f with
  | ret u => obtain ⟨v, σ', H', J, r, k⟩ := q; exact ⟨v, σ', H', J.ofTry ok, r, k⟩
  | next => obtain ⟨σ', H', J, k⟩ := q; exact wpAny_execs_nil ⟨σ', H', J.ofTry ok, k⟩
  | brk => obtain ⟨σ', H', J, k⟩ := q; exact ⟨σ', H', J.ofTry ok, k⟩
  | cont => obtain ⟨σ', H', J, k⟩ := q; exact ⟨σ', H', J.ofTry ok, k⟩
end
end L2.Dl
end

section
set_option maxRecDepth 100000
set_option maxHeartbeats 2000000
/-! repr of plain data. -/
namespace L2.Dl
open PySem PySem.Spec PyProof.Rows

def reprD (d : D) : Option D := if plainD 60 d && (toPy d).showable && decide ((toPy d).shown.length ≤ sizeLine) then some (.str (toPy d).shown) else none
section
variable {X : Cx} {pins : List (Addr × Obj)} {σ : St} {H : Hp} {s : Shared} {g : G}
theorem plain_reads (I : Inv X pins σ H s) : ∀ (n : Nat) (d : D) {v : V} {u : Value}, plainD n d = true → R g H d v → RelV v u → ∃ as, Reads s.heap u (toPy d) as
  | n, .non, v, u, _, r, q => by
    cases R_non.mp r
    cases (show u = Value.none from q)
    exact ⟨_, .none⟩
  | n, .bl b, v, u, _, r, q => by
    cases R_bl.mp r
    cases (show u = Value.bool b from q)
    exact ⟨_, .bool b⟩
  | n, .int i, v, u, _, r, q => by
    cases R_int.mp r
    obtain ⟨t, rfl⟩ := (show ∃ t, u = Value.int i t from q)
    exact ⟨_, .int i t⟩
  | n, .str x, v, u, _, r, q => by
    cases R_str.mp r
    obtain ⟨t, rfl⟩ := (show ∃ t, u = Value.str x t from q)
    exact ⟨_, .str x t⟩
  | n + 1, .tup l, v, u, h, r, q => by
    obtain ⟨a, vs, rfl, e2, e3⟩ := R_tup.mp r
    cases (show u = Value.ref a from q)
    obtain ⟨its, rs, ⟨o, e, hc, k, hd⟩, _⟩ := I.tuple (SqT.of e2)
    have key : ∀ (m : List D) (ws : List V) (us : List Value), m.all (plainD n) = true → RL g H m ws → Vals ws us → ∃ as, ReadsAll s.heap us (toPyL m) as := by
      intro m
      induction m with
      | nil =>
        intro ws us _ rw' rv
        rw [RL_nil.mp rw'] at rv
        cases rv
        exact ⟨_, .nil⟩
      | cons d m ih =>
        intro ws us hm rw' rv
        rw [List.all_cons, Bool.and_eq_true] at hm
        obtain ⟨w, r', rfl, a, b⟩ := RL_cons.mp rw'
        cases rv with
        | cons r1 r2 =>
          obtain ⟨a1, h1⟩ := plain_reads I n d hm.1 a r1
          obtain ⟨a2, h2⟩ := ih _ _ hm.2 b r2
          exact ⟨_, .cons h1 h2⟩
    obtain ⟨as, hr⟩ := key l vs its h e3 rs
    exact ⟨_, .tuple e hc hd (by simpa using hr)⟩
  | n + 1, .lst l, v, u, h, r, q => by
    obtain ⟨a, vs, rfl, e2, e3⟩ := R_lst.mp r
    cases (show u = Value.ref a from q)
    obtain ⟨_, its, k, rs, e⟩ := I.hok a _ e2
    have key : ∀ (m : List D) (ws : List V) (us : List Value), m.all (plainD n) = true → RL g H m ws → Vals ws us → ∃ as, ReadsAll s.heap us (toPyL m) as := by
      intro m
      induction m with
      | nil =>
        intro ws us _ rw' rv
        rw [RL_nil.mp rw'] at rv
        cases rv
        exact ⟨_, .nil⟩
      | cons d m ih =>
        intro ws us hm rw' rv
        rw [List.all_cons, Bool.and_eq_true] at hm
        obtain ⟨w, r', rfl, a, b⟩ := RL_cons.mp rw'
        cases rv with
        | cons r1 r2 =>
          obtain ⟨a1, h1⟩ := plain_reads I n d hm.1 a r1
          obtain ⟨a2, h2⟩ := ih _ _ hm.2 b r2
          exact ⟨_, .cons h1 h2⟩
    obtain ⟨as, hr⟩ := key l vs its h e3 rs
    exact ⟨_, .list e rfl rfl (by simpa using hr)⟩
  | 0, .tup l, _, _, h, _, _ => by cases h
  | 0, .lst l, _, _, h, _, _ => by cases h
  | n, .obj _ _ _, _, _, h, _, _ => by cases n <;> cases h
  | n, .dic _ _, _, _, h, _, _ => by cases n <;> cases h
  | n, .pen, _, _, h, _, _ => by cases n <;> cases h
def rRepr : List V → Hp → VK → Prop := fun xs H Q => ∃ g d e x, xs = [x] ∧ R g H d x ∧ reprD d = some (.str e) ∧ Q (.str e) H
theorem call_repr (hg : X.A.guards = some []) (hu : X.A.units + 70 < cLine) : CallR X (.builtin "repr") rRepr := by
  intro pins s σ H xs us Q I r h
  obtain ⟨g, d, e, x, rfl, rd, er, q⟩ := h
  obtain ⟨u, rfl, ru⟩ := r.one
  unfold reprD at er
  split at er
  · rename_i hc
    rw [Bool.and_eq_true, Bool.and_eq_true] at hc
    obtain ⟨⟨hp, hs⟩, hz⟩ := hc
    have hz := of_decide_eq_true hz
    have er := Option.some.inj er
    cases er
    obtain ⟨lay, dep⟩ := plain_lay 60 d hp
    obtain ⟨as, rd'⟩ := plain_reads I 60 d hp rd ru
    have refs : ∀ a, u = .ref a → wpAny (model X.prog X.w) X.A (call (.builtin "repr") [u]) (EP X pins σ Q) X.xe s := by
      intro a hua
      subst hua
      refine repr_of_reads' rd' hs (PyData.noDict_hsm (PyData.hasDict_of_canLay _ lay)) hg (by omega) (fun _ _ z => z) (fun h' u tk k => ?_) hz
      exact ⟨.str _, H, I.kept k, ⟨_, rfl⟩, q⟩
    cases d with
    | non =>
      cases R_non.mp rd
      cases (show u = Value.none from ru)
      exact PySem.P.repr_of_none ⟨.str _, H, I.tok _, ⟨_, rfl⟩, q⟩
    | bl b =>
      cases R_bl.mp rd
      cases (show u = Value.bool b from ru)
      exact PySem.P.repr_of_bool ⟨.str _, H, I.tok _, ⟨_, rfl⟩, q⟩
    | int i =>
      cases R_int.mp rd
      obtain ⟨t, rfl⟩ := (show ∃ t, u = Value.int i t from ru)
      exact PySem.P.repr_of_int (of_decide_eq_true hs) ⟨.str _, H, I.tok _, ⟨_, rfl⟩, q⟩
    | str x =>
      cases R_str.mp rd
      obtain ⟨t, rfl⟩ := (show ∃ t, u = Value.str x t from ru)
      exact PySem.P.repr_of_str ⟨.str _, H, I.tok _, ⟨_, rfl⟩, q⟩ hz
    | tup l => obtain ⟨a, vs, rfl, _⟩ := R_tup.mp rd; exact refs a ru
    | lst l => obtain ⟨a, vs, rfl, _⟩ := R_lst.mp rd; exact refs a ru
    | obj c ns fs => cases hp
    | dic ks vs => cases hp
    | pen => cases hp
  · cases er
end
theorem ext_hide (W : Addr → Prop) (H : Hp) : Ext (hide W H) H := fun b o h _ => (hide_some h).2
/-- read at once, plain data are data of the whole heap -/
theorem RB.plain {g : G} {W : Addr → Prop} {H : Hp} {n : Nat} {d : D} {v : V} (h : plainD n d = true) (r : RB g W H d v) : R g H d v := by
  cases d with
  | lst l =>
    obtain ⟨a, vs, rfl, e, q⟩ := r.lst
    exact R_lst.mpr ⟨a, vs, rfl, e, RL.ext (ext_hide W H) l q⟩
  | obj c ns fs => cases n <;> cases h
  | dic ks vs => cases n <;> cases h
  | pen => cases n <;> cases h
  | _ => exact R.ext (ext_hide W H) _ (r.sh trivial)
def repr1 : List D → Option D
  | [d] => reprD d
  | _ => none
theorem repr1_ok {K : PySem.W.Frag} {mg : Str → Option Value} : CallD K mg rRepr repr1 := by
  intro pa W H xs ds d Q hf r e q
  unfold repr1 at e
  split at e
  · rename_i d0
    have e0 := e
    unfold reprD at e0
    split at e0
    · rename_i hc
      rw [Bool.and_eq_true, Bool.and_eq_true] at hc
      cases e0
      obtain ⟨v, rfl, r0⟩ := rbl1 r
      exact ⟨_, d0, _, v, rfl, r0.plain hc.1.1, e, q _ H (fun _ _ z => z) (R_str.mpr rfl)⟩
    · cases e0
  · cases e
end L2.Dl
end

section
set_option maxRecDepth 100000
set_option maxHeartbeats 2000000
/-! A def that calls what it got and tells of the errors: its clauses. -/
namespace L2.Dl
open PySem PySem.Spec PyProof.Rows LamX

/-- what stands in a clause's tuple -/
inductive It where
  | con (s : Str) | att (f : Str) | att2 (f h : Str) | rep (f : Str)
/-- a field of the caught exception -/
def AttV (K : PySem.W.Frag) (f : Str) (cls : Value) (d : Option Addr) (H : Hp) (v : V) : Prop :=
  ∃ (C dd : Addr) (fs : List (Str × V)), cls = .ref C ∧ XfC K C ∧ PySem.W.findIn K (.ref C) f = some none ∧ d = some dd ∧ H dd = some (.xd fs) ∧ fs.lookup f = some v
def ItV (K : PySem.W.Frag) (cls : Value) (d : Option Addr) (H : Hp) : It → V → Prop
  | .con s, v => v = .str s
  | .att f, v => AttV K f cls d H v
  | .att2 f h, v => ∃ w, AttV K f cls d H w ∧ ∃ a C dx fs, w = .ref a ∧ H a = some (.ins C dx fs) ∧ Cls K C ∧ NoAttr K C h ∧ fs.lookup h = some v
  | .rep f, v => ∃ w, AttV K f cls d H w ∧ ∃ g x e, R g H x w ∧ reprD x = some (.str e) ∧ v = .str e
def ItVs (K : PySem.W.Frag) (cls : Value) (d : Option Addr) (H : Hp) : List It → List V → Prop
  | [], vs => vs = []
  | i :: r, vs => ∃ v ws, vs = v :: ws ∧ ItV K cls d H i v ∧ ItVs K cls d H r ws
/-- the text of such an item, the exception's name being n -/
inductive ItE (n : Str) : Expr → It → Prop
  | con {s : Str} {j : Nat} {p : Pos} : ItE n (.Constant (.str s) j p) (.con s)
  | att {f : Str} {p p' : Pos} : ItE n (.Attribute (.Name n p) f p') (.att f)
  | att2 {f h : Str} {p p' p2 : Pos} : ItE n (.Attribute (.Attribute (.Name n p) f p') h p2) (.att2 f h)
  | rep {f : Str} {p p' p2 p3 : Pos} : ItE n (.Call (.Name "repr" p2) [.Attribute (.Name n p) f p'] [] p3) (.rep f)
inductive ItEs (n : Str) : List Expr → List It → Prop
  | nil : ItEs n [] []
  | cons {e : Expr} {i : It} {es : List Expr} {is : List It} : ItE n e i → ItEs n es is → ItEs n (e :: es) (i :: is)
def Last (a : Addr) (i : Nat) (σ : St) : Prop := ∃ σ0 : St, σ = σ0.set i (some (.ref a))
section
variable {X : Cx} {a : Addr} {oe : Obj} {cls : Value} {d : Option Addr} {pn : List (Addr × Obj)} {n : Str} {i : Nat}
theorem pe_exc (hN : X.N[i]? = some n) (hv : Vis X.env.scope n) (hd : (n == ("__debug__" : Str)) = false) (hcd : (n == ("__classdict__" : Str)) = false) {p : Pos} :
    PE (X.suite a ((a, oe) :: pn)) (.Name n p) (fun σ H Q => Last a i σ ∧ Q (.ref a) H) := by
  refine ⟨fun pins s σ H Q I h => ?_⟩
  obtain ⟨⟨σ0, rfl⟩, q⟩ := h
  have hl : i < σ0.length := by
    have h1 : (σ0.set i (some (.ref a))).length = X.N.length := I.len
    rw [List.length_set] at h1
    rw [h1]
    exact (List.getElem?_eq_some_iff.mp hN).1
  exact (pe_var (X := X.suite a ((a, oe) :: pn)) (i := i) hN hv hd hcd).run pins s _ H Q I ⟨.ref a, List.getElem?_set_self hl, q⟩
theorem pe_att (hz : Zc cls d oe) (hf : ∃ vs, oe.data = .fields vs) (hN : X.N[i]? = some n) (hv : Vis X.env.scope n) (hd : (n == ("__debug__" : Str)) = false) (hcd : (n == ("__classdict__" : Str)) = false) {f : Str} {p p' : Pos} :
    PE (X.suite a ((a, oe) :: pn)) (.Attribute (.Name n p) f p') (fun σ H Q => Last a i σ ∧ ∃ v, AttV X.K f cls d H v ∧ Q v H) := by
  refine ⟨fun pins s σ H Q I h => ?_⟩
  obtain ⟨hl, v, ⟨C, dd, fs, rfl, T, hno, rfl, h1, h2⟩, q⟩ := h
  exact (pe_xf (X := X) T hno hz hf (pe_exc hN hv hd hcd)).run pins s σ H Q I ⟨hl, rfl, rfl, dd, fs, v, rfl, h1, h2, q⟩
theorem pe_it (hg : X.A.guards = some []) (hu : X.A.units + 70 < cLine) (hrg : Gl X "repr") (hrm : X.mg "repr" = none) (hz : Zc cls d oe) (hf : ∃ vs, oe.data = .fields vs) (hN : X.N[i]? = some n) (hv : Vis X.env.scope n) (hd : (n == ("__debug__" : Str)) = false) (hcd : (n == ("__classdict__" : Str)) = false)
    {e : Expr} {it : It} (h : ItE n e it) : PE (X.suite a ((a, oe) :: pn)) e (fun σ H Q => Last a i σ ∧ ∃ v, ItV X.K cls d H it v ∧ Q v H) := by
  cases h with
  | con =>
    refine ⟨fun pins s σ H Q I h => ?_⟩
    obtain ⟨_, v, rfl, q⟩ := h
    exact pe_str.run pins s σ H Q I q
  | att => exact pe_att hz hf hN hv hd hcd
  | att2 =>
    refine ⟨fun pins s σ H Q I h => ?_⟩
    obtain ⟨hl, v, ⟨w, hw, b, C, dx, fs, rfl, h1, h2, h3, h4⟩, q⟩ := h
    exact (pe_fld (pe_att hz hf hN hv hd hcd) rfl).run pins s σ H Q I ⟨hl, _, hw, b, C, dx, fs, v, rfl, h1, h2, h3, h4, q⟩
  | rep =>
    refine ⟨fun pins s σ H Q I h => ?_⟩
    obtain ⟨hl, v, ⟨w, hw, g, x, e, h1, h2, rfl⟩, q⟩ := h
    exact (pe_callB (X := X.suite a ((a, oe) :: pn)) (call_repr (X := X.suite a ((a, oe) :: pn)) hg hu) hrg hrm (by decide +kernel) (pa_cons (pe_att hz hf hN hv hd hcd) pa_nil)).run pins s σ H Q I ⟨hl, w, hw, g, x, e, w, rfl, h1, h2, q⟩
theorem pa_its (hg : X.A.guards = some []) (hu : X.A.units + 70 < cLine) (hrg : Gl X "repr") (hrm : X.mg "repr" = none) (hz : Zc cls d oe) (hf : ∃ vs, oe.data = .fields vs) (hN : X.N[i]? = some n) (hv : Vis X.env.scope n) (hd : (n == ("__debug__" : Str)) = false) (hcd : (n == ("__classdict__" : Str)) = false)
    {es : List Expr} {is : List It} (h : ItEs n es is) : PA (X.suite a ((a, oe) :: pn)) es (fun σ H Q => Last a i σ ∧ ∃ vs, ItVs X.K cls d H is vs ∧ Q vs H) := by
  induction h with
  | nil =>
    refine ⟨fun pos pins s σ H Q I h => ?_⟩
    obtain ⟨_, vs, rfl, q⟩ := h
    exact pa_nil.run pos pins s σ H Q I q
  | @cons e it es is h1 _ ih =>
    refine ⟨fun pos pins s σ H Q I h => ?_⟩
    obtain ⟨hl, vs, ⟨v, ws, rfl, hv1, hv2⟩, q⟩ := h
    have hst : starEach (e :: es) (X.suite a ((a, oe) :: pn)).env = (false, eval e (X.suite a ((a, oe) :: pn)).env) :: starEach es (X.suite a ((a, oe) :: pn)).env := by cases h1 <;> rfl
    exact (pa_cons (pe_it hg hu hrg hrm hz hf hN hv hd hcd h1) ih hst).run pos pins s σ H Q I ⟨hl, v, hv1, hl, ws, hv2, q⟩
/-- what a clause wishes -/
def tsIt (K : PySem.W.Frag) (i : Nat) (is : List It) : Addr → Value → Option Addr → TS := fun a cls d D σ H => Last a i σ ∧ ∃ vs, ItVs K cls d H is vs ∧ vs.length ≤ sizeLine ∧ ∀ p, H p = none → D.rt (.ref p) (upd H p (.tup vs))
/-- the clauses' text -/
inductive LadE (mg : Str → Option Value) (sc : Scope) (n : Str) : List ExceptHandler → List (Value × List It) → Prop
  | nil : LadE mg sc n [] []
  | cons {x : Str} {c : Value} {es : List Expr} {is : List It} {k : Nat} {np p p1 p2 : Pos} {hds : List ExceptHandler} {l : List (Value × List It)} (gl : sc.names.lookup x = some .globalImplicit) (db : (x == ("__debug__" : Str)) = false) (nm : mg x = some c) (it : ItEs n es is) (r : LadE mg sc n hds l) :
      LadE mg sc n (.ExceptHandler (some (.Name x np)) (some n) [.Return (some (.Tuple es k p)) p1] p2 :: hds) ((c, is) :: l)
theorem lad_of (hg : X.A.guards = some []) (hu : X.A.units + 70 < cLine) (hrg : Gl X "repr") (hrm : X.mg "repr" = none) (hN : X.N[i]? = some n) (hv : Vis X.env.scope n) (hd : (n == ("__debug__" : Str)) = false) (hcd : (n == ("__classdict__" : Str)) = false)
    {hds : List ExceptHandler} {l : List (Value × List It)} (h : LadE X.mg X.env.scope n hds l) : LadOk X n hds (l.map fun q => (q.1, tsIt X.K i q.2)) := by
  induction h with
  | nil => exact .nil
  | cons gl db nm it r ih =>
    refine .cons ⟨gl, db, .inl nm⟩ (fun a oe cls d pn hz hf => pss_one ?_) ih
    refine ⟨fun pins s σ H D I h => ?_⟩
    obtain ⟨hl, vs, h1, h2, h3⟩ := h
    exact (ps_ret (pe_tup (pa_its hg hu hrg hrm hz hf hN hv hd hcd it))).run pins s σ H D I ⟨hl, vs, h1, h2, h3⟩
end
/-- what the clauses make of an error -/
def eLad (K : PySem.W.Frag) (Q : VK) : List (Value × List It) → XK
  | [] => fun _ _ _ => False
  | q :: r => fun cls d H => ∃ b, PySem.W.exmOne K cls q.1 = some b ∧ (b = true → ∃ vs, ItVs K cls d H q.2 vs ∧ vs.length ≤ sizeLine ∧ ∀ p, H p = none → Q (.ref p) (upd H p (.tup vs))) ∧ (b = false → eLad K Q r cls d H)
theorem eLad_w {K : PySem.W.Frag} {i : Nat} {D : Ends} : ∀ {l : List (Value × List It)} {cls : Value} {d : Option Addr} {σ : St} {H : Hp}, eLad K D.rt l cls d H → wLad K i (fun _ _ _ _ => False) D (l.map fun q => (q.1, tsIt K i q.2)) cls d σ H
  | [], _, _, _, _, h => h.elim
  | q :: r, cls, d, σ, H, h => by
    obtain ⟨b, h1, h2, h3⟩ := h
    refine ⟨b, h1, fun hb a _ => ?_, fun hb => eLad_w (h3 hb)⟩
    obtain ⟨vs, h4, h5, h6⟩ := h2 hb
    exact ⟨⟨σ, rfl⟩, vs, h4, h5, h6⟩
/-- the def's reading of what it calls -/
def TC (K : PySem.W.Frag) (ok : Str) (l : List (Value × List It)) : (XK → Hp → VK → Prop) → Hp → VK → Prop := fun tl H Q =>
  tl (eLad K Q l) H (fun v H' => [V.str ok, v].length ≤ sizeLine ∧ ∀ p, H' p = none → Q (.ref p) (upd H' p (.tup [.str ok, v])))
theorem caught_gives {X : Cx} {Ng : List Str} {x a n q ok : Str} {sg : Scope} {g : Addr} {cdg : Value} {j k : Nat} {p1 p2 p3 p4 p5 p6 : Pos} {hd : ExceptHandler} {hds : List ExceptHandler} {l : List (Value × List It)} {i : Nat} (hgd : X.A.guards = some []) (hu : X.A.units + 80 < cLine)
    (hrg : sg.names.lookup ("repr" : Str) = some .globalImplicit) (hrm : X.mg "repr" = none) (hN : Ng[i]? = some n) (hnd : Ng.Nodup) (hln : sg.names.lookup n = some .local) (hd1 : (n == ("__debug__" : Str)) = false) (hd2 : (n == ("__classdict__" : Str)) = false) (hl : LadE X.mg sg n (hd :: hds) l) (h0 : ∀ f : Addr, (L2.start Ng [V.ref f])[0]? = some (some (V.ref f))) :
    GivesTo X Ng x sg g cdg [.Try [.Return (some (.Tuple [.Constant (.str ok) j p1, .Call (.Name a p2) [] [] p3] k p4)) p5] (hd :: hds) [] [] p6] a q (TC X.K ok l) := by
  intro f c' s H Q tl act hc h
  have lad := lad_of (X := (cxOf C8.CX0 X.prog X.w X.K X.mg X.base Ng x sg g cdg X.A X.stack s H C8.E0).nox) (i := i) (n := n) hgd (by show X.A.units + 3 + 70 < cLine; omega) hrg hrm hN (.inl hln) hd1 hd2 hl
  refine ⟨_, pss_one (ps_ladder (X := (cxOf C8.CX0 X.prog X.w X.K X.mg X.base Ng x sg g cdg X.A X.stack s H C8.E0).nox) (i := i) (n := n)
      (tb := fun W D σ H => ∃ Ech : XK, (∀ cls d σ' H', Ech cls d H' → W cls d σ' H') ∧ σ[0]? = some (some (.ref f)) ∧ H c' = some (CodeO c' q) ∧ tl Ech H (fun v H' => [V.str ok, v].length ≤ sizeLine ∧ ∀ p, H' p = none → D.rt (.ref p) (upd H' p (.tup [.str ok, v]))))
      rfl rfl hnd hN hln LamX.takes0 (fun W pn xe tk _ => ?_) lad), ?_⟩
  · refine ⟨fun pins s' σ H' D I h' => ?_⟩
    obtain ⟨Ech, hW, h1, h2, h3⟩ := h'
    have hp := act W pn xe Ech p2 p3 tk hW
    have hq := pss_one (ps_ret (pos := p5) (pe_tup (x1 := k) (pos := p4) (pa_cons (show PE ((cxOf C8.CX0 X.prog X.w X.K X.mg X.base Ng x sg g cdg X.A X.stack s H C8.E0).tr pn xe) (.Constant (.str ok) j p1) _ from pe_str) (pa_cons hp pa_nil))))
    exact hq.run pins s' σ H' D I ⟨h1, h2, h3⟩
  · exact ⟨eLad X.K Q l, fun cls d σ' H' z => eLad_w z, h0 f, hc, h⟩
end L2.Dl
end

section
set_option maxRecDepth 100000
set_option maxHeartbeats 2000000
/-! caught(lambda: e): the value, or what the clauses tell of the error. -/
namespace L2.Dl
open PySem PySem.Spec PyProof.Rows LamX

theorem passLam {X : Cx} {A : Around} {outer : List Env} {s : Shared} {H : Hp} {E : XK} {scope : Scope} {f c' : Addr} : Passes (L2.CX (lamCx X A outer s H E scope f c').prog (lamCx X A outer s H E scope f c').w) (lamCx X A outer s H E scope f c') E :=
  passes_call (takes_of rfl rfl rfl rfl) fun _ _ _ _ q => q
theorem LD.notab {o : HO} (h : LD (some o)) : ∀ ps, o ≠ .tbl ps := fun ps z => by
  subst z
  exact h
theorem Good.extN {T : List (Addr × Str)} {g : G} {ca : Addr} {O : Addr → Prop} {σ : St} {H H1 : Hp} {ρ : Rho} {π : Pen} (h : Good T g ca O σ H ρ π) (e : ExtN H H1) (t : Tabs T H1) : Step T g ca (WW O σ ρ) H H1 π where
  ext := fun b o _ q n => e b o q n
  own := fun b w _ => by
    have q := h.wlive w
    cases z : H b with
    | none => rw [z] at q; exact q.elim
    | some o => rw [z] at q; exact e b o z q.notab
  pen := ⟨e _ _ h.pen.dict (fun ps z => by cases z), e _ _ h.pen.cells (fun ps z => by cases z)⟩
  tab := t
/-! ### the mirror -/
def attD (ns : List Str) (fs : List D) (f : Str) : Option D := (ns.zip fs).lookup f
def itD (cs : List Str) (ns : List Str) (fs : List D) : It → Option D
  | .con s => some (.str s)
  | .att f => attD ns fs f
  | .att2 f h => match attD ns fs f with
    | some (.obj c ns2 fs2) => if c ∈ cs then (ns2.zip fs2).lookup h else none
    | _ => none
  | .rep f => match attD ns fs f with
    | some d => (match reprD d with | some (.str e) => some (.str e) | _ => none)
    | none => none
def ladD (cs : List Str) : List (Str × List It) → Str → List Str → List D → Option D
  | [], _, _, _ => none
  | q :: r, c, ns, fs => if c = q.1 then (if q.2.length ≤ 10 then (q.2.mapM (itD cs ns fs)).map .tup else none) else ladD cs r c ns fs
def mCaught (es cs : List Str) (ok : Str) (l : List (Str × List It)) (m : M D) : M D := fun ρ π => match m ρ π with
  | .ok d π' => .ok (.tup [.str ok, d]) π'
  | .err c ns fs π' => if c ∈ es then (match ladD cs l c ns fs with | some d => .ok d π' | none => .bad) else .bad
  | .bad => .bad
/-- what is known of the error classes es and the clauses' classes -/
structure LadK (K : PySem.W.Frag) (mg : Str → Option Value) (es cs : List Str) (l : List (Str × List It)) : Prop where
  xf : ∀ c ∈ es, ∀ C, mg c = some (.ref C) → XfC K C
  no : ∀ c ∈ es, ∀ C, mg c = some (.ref C) → ∀ q ∈ l, ∀ i ∈ q.2, ∀ f, (i = .att f ∨ i = .rep f ∨ ∃ h, i = .att2 f h) → PySem.W.findIn K (.ref C) f = some none
  ex : ∀ c ∈ es, ∀ C, mg c = some (.ref C) → ∀ q ∈ l, ∀ C', mg q.1 = some (.ref C') → PySem.W.exmOne K (.ref C) (.ref C') = some (decide (c = q.1))
  at2 : ∀ c ∈ cs, ∀ C, mg c = some (.ref C) → Cls K C ∧ ∀ q ∈ l, ∀ i ∈ q.2, ∀ f h, i = .att2 f h → NoAttr K C h
section
variable {K : PySem.W.Frag} {mg : Str → Option Value} {es cs : List Str} {g : G} {H : Hp} {W : Addr → Prop}
theorem zip_rel {Hs : Hp} {f : Str} {d : D} : ∀ {ns : List Str} {fs : List D} {vs : List V}, RL g Hs fs vs → (ns.zip fs).lookup f = some d → ∃ v, (ns.zip vs).lookup f = some v ∧ R g Hs d v
  | [], _, _, _, h => by cases h
  | n :: ns, [], _, _, h => by cases h
  | n :: ns, d' :: fs, vs, r, h => by
    obtain ⟨v, ws, rfl, a, b⟩ := RL_cons.mp r
    rw [List.zip_cons_cons, List.lookup_cons] at h
    rw [List.zip_cons_cons, List.lookup_cons]
    cases z : f == n with
    | true =>
      rw [z] at h
      cases h
      exact ⟨v, rfl, a⟩
    | false =>
      rw [z] at h
      exact zip_rel b h
theorem att_ok {C : Addr} (T : XfC K C) {f : Str} (hno : PySem.W.findIn K (.ref C) f = some none) {ns : List Str} {fs : List D} {dd : Option Addr} {d : D} (er : ErrAt g (hide W H) H ns fs dd) (h : attD ns fs f = some d) : ∃ v, AttV K f (.ref C) dd H v ∧ R g (hide W H) d v := by
  unfold attD at h
  unfold ErrAt at er
  cases ns with
  | nil => cases h
  | cons n ns =>
    obtain ⟨a, kv, rfl, ha, hl, hr⟩ := er
    obtain ⟨v, h1, h2⟩ := zip_rel hr h
    exact ⟨v, ⟨C, a, kv, rfl, T, hno, rfl, ha, by rw [hl, h1]⟩, h2⟩
theorem it_ok {c : Str} {C : Addr} {l : List (Str × List It)} (k : LadK K mg es cs l) (hc : c ∈ es) (hC : mg c = some (.ref C)) {q : Str × List It} (hq : q ∈ l) {i : It} (hi : i ∈ q.2) {pq : Addr × Addr} {ns : List Str} {fs : List D} {dd : Option Addr} {d : D} (er : ErrAt ⟨K, mg, pq⟩ (hide W H) H ns fs dd) (h : itD cs ns fs i = some d) :
    ∃ v, ItV K (.ref C) dd H i v ∧ R ⟨K, mg, pq⟩ (hide W H) d v := by
  have T := k.xf c hc C hC
  cases i with
  | con s => cases h; exact ⟨_, rfl, R_str.mpr rfl⟩
  | att f => exact att_ok T (k.no c hc C hC q hq _ hi f (.inl rfl)) er h
  | att2 f h2 =>
    simp only [itD] at h
    split at h
    · rename_i c2 ns2 fs2 e
      obtain ⟨w, h3, h4⟩ := att_ok T (k.no c hc C hC q hq _ hi f (.inr (.inr ⟨_, rfl⟩))) er e
      split at h
      · rename_i hm
        obtain ⟨a, C2, dx, fvs, rfl, hg2, ha, hn, hr⟩ := R_obj.mp h4
        obtain ⟨k1, k2⟩ := k.at2 c2 hm C2 hg2
        obtain ⟨v, e1, e2⟩ := lookup_rel hn hr h
        exact ⟨v, ⟨_, h3, a, C2, dx, fvs, rfl, (hide_some ha).2, k1, k2 q hq _ hi f h2 rfl, e1⟩, e2⟩
      · cases h
    · cases h
  | rep f =>
    simp only [itD] at h
    split at h
    · rename_i d0 e
      obtain ⟨w, h3, h4⟩ := att_ok T (k.no c hc C hC q hq _ hi f (.inr (.inl rfl))) er e
      split at h
      · rename_i e2 er2
        cases h
        exact ⟨_, ⟨w, h3, _, d0, e2, R.ext (ext_hide W H) d0 h4, er2, rfl⟩, R_str.mpr rfl⟩
      · cases h
    · cases h
theorem its_ok {c : Str} {C : Addr} {l : List (Str × List It)} (k : LadK K mg es cs l) (hc : c ∈ es) (hC : mg c = some (.ref C)) {q : Str × List It} (hq : q ∈ l) {pq : Addr × Addr} {ns : List Str} {fs : List D} {dd : Option Addr} (er : ErrAt ⟨K, mg, pq⟩ (hide W H) H ns fs dd) :
    ∀ {is : List It} {ds : List D}, (∀ i ∈ is, i ∈ q.2) → is.mapM (itD cs ns fs) = some ds → ∃ vs, ItVs K (.ref C) dd H is vs ∧ RL ⟨K, mg, pq⟩ (hide W H) ds vs ∧ vs.length = is.length
  | [], ds, _, h => by
    rw [List.mapM_nil] at h
    cases h
    exact ⟨[], rfl, .nil, rfl⟩
  | i :: is, ds, hm, h => by
    rw [List.mapM_cons] at h
    cases z : itD cs ns fs i with
    | none => rw [z] at h; cases h
    | some d =>
      rw [z] at h
      cases z2 : is.mapM (itD cs ns fs) with
      | none => rw [z2] at h; cases h
      | some ds2 =>
        rw [z2] at h
        cases h
        obtain ⟨v, h1, h2⟩ := it_ok k hc hC hq (hm i List.mem_cons_self) er z
        obtain ⟨vs, h3, h4, h5⟩ := its_ok k hc hC hq er (fun j hj => hm j (List.mem_cons_of_mem _ hj)) z2
        exact ⟨v :: vs, ⟨v, vs, rfl, h1, h3⟩, .cons h2 h4, by rw [List.length_cons, List.length_cons, h5]⟩
theorem eLad_ok {c : Str} {C : Addr} (hc : c ∈ es) (hC : mg c = some (.ref C)) {pq : Addr × Addr} {ns : List Str} {fs : List D} {dd : Option Addr} {d : D} {Q : VK} (er : ErrAt ⟨K, mg, pq⟩ (hide W H) H ns fs dd) (fresh : ∀ p, H p = none → ¬ W p) (hQ : ∀ p vs, H p = none → R ⟨K, mg, pq⟩ (hide W (upd H p (.tup vs))) d (.ref p) → Q (.ref p) (upd H p (.tup vs))) :
    ∀ {l0 l : List (Str × List It)} {lc : List (Value × List It)}, LadK K mg es cs l0 → (∀ q ∈ l, q ∈ l0) → lc.map (·.2) = l.map (·.2) → (∀ j : Nat, ∀ q z, l[j]? = some q → lc[j]? = some z → ∃ C', mg q.1 = some (.ref C') ∧ z.1 = .ref C') → ladD cs l c ns fs = some d → eLad K Q lc (.ref C) dd H
  | l0, [], lc, _, _, _, _, h => by cases h
  | l0, q :: l, [], _, _, e, _, h => by cases e
  | l0, q :: l, z :: lc, k, sub, e, hz, h => by
    rw [List.map_cons, List.map_cons] at e
    injection e with e1 e2
    obtain ⟨C', h1, h2⟩ := hz 0 q z rfl rfl
    refine ⟨decide (c = q.1), by rw [h2]; exact k.ex c hc C hC q (sub q List.mem_cons_self) C' h1, fun hb => ?_, fun hb => ?_⟩
    · have hb := of_decide_eq_true hb
      simp only [ladD, if_pos hb] at h
      split at h
      · rename_i hl
        cases z2 : q.2.mapM (itD cs ns fs) with
        | none => rw [z2] at h; cases h
        | some ds =>
          rw [z2] at h
          cases h
          obtain ⟨vs, h3, h4, h5⟩ := its_ok k hc hC (sub q List.mem_cons_self) er (fun i hi => hi) z2
          refine ⟨vs, by rw [e1]; exact h3, by rw [h5]; exact Nat.le_trans hl (by decide), fun p hp => hQ p vs hp (R_newT hp (fresh p hp) h4)⟩
      · cases h
    · have hb := of_decide_eq_false hb
      simp only [ladD, if_neg hb] at h
      exact eLad_ok hc hC er fresh hQ k (fun q hq => sub q (List.mem_cons_of_mem _ hq)) e2 (fun j q' z' a b => hz (j + 1) q' z' a b) h
end

/-- the def that calls what it got -/
structure Cau (K : PySem.W.Frag) (mg : Str → Option Value) (x ok : Str) (l : List (Str × List It)) : Prop where
  ex : ∃ (g : Addr) (pg : Arguments) (sg : Scope) (dV kV doc pm cdv ct oc : Value) (an od : Option Addr) (osl : Array (Option Value)) (Ng : List Str) (a n : Str) (i j k : Nat) (p1 p2 p3 p4 p5 p6 : Pos) (hd : ExceptHandler) (hds : List ExceptHandler) (lc : List (Value × List It)),
    mg x = some (.ref g) ∧ PySem.W.keepIn K (.ref g) = true ∧
    K.lookup g = some ⟨oc, od, .func (PySem.W.fnOf x x pg [.Try [.Return (some (.Tuple [.Constant (.str ok) j p1, .Call (.Name a p2) [] [] p3] k p4)) p5] (hd :: hds) [] [] p6] sg dV kV doc pm an cdv ct), osl⟩ ∧
    PySem.W.codeIn K cdv x = true ∧ L2.Binds K (PySem.W.fnOf x x pg [.Try [.Return (some (.Tuple [.Constant (.str ok) j p1, .Call (.Name a p2) [] [] p3] k p4)) p5] (hd :: hds) [] [] p6] sg dV kV doc pm an cdv ct) [a] [] ∧
    FnScope Ng [a] sg ∧ Ng[0]? = some a ∧ Vis sg a ∧ sg.names.lookup ("repr" : Str) = some .globalImplicit ∧ mg "repr" = none ∧ Ng[i]? = some n ∧ Ng.Nodup ∧ sg.names.lookup n = some .local ∧
    ((n == ("__debug__" : Str)) = false ∧ (n == ("__classdict__" : Str)) = false ∧ (a == ("__debug__" : Str)) = false ∧ (a == ("__classdict__" : Str)) = false ∧ (x == ("__debug__" : Str)) = false) ∧
    LadE mg sg n (hd :: hds) lc ∧ lc.map (·.2) = l.map (·.2) ∧ ∀ j : Nat, ∀ q z, l[j]? = some q → lc[j]? = some z → ∃ C', mg q.1 = some (.ref C') ∧ z.1 = .ref C'
theorem ge_caught {T : List (Addr × Str)} {X : Cx} {E : XK} {x ok : Str} {l : List (Str × List It)} {es cs : List Str} {c P : Addr} {k : Nat} {params : Arguments} {body : Expr} {scope : Scope} {p lpos pos : Pos} {m : M D} (h : Cau X.K X.mg x ok l) (lk : LadK X.K X.mg es cs l) (hg : Gl X x)
    (TB : TabB X.base X.mg c P) (hcode : X.env.code = .ref c) (hmT : (P, X.env.qual ++ "<lambda>") ∈ T) (hu : ∀ p ∈ T, p.1 = P → p.2 = X.env.qual ++ "<lambda>") (hr : Room (k + 2) X.A) (hgd : X.A.guards = some []) (L : LamS X.env.scope scope) (hdef : defaultsOf params X.env = ([], []))
    (hbind : ∀ (q : Str) (cl : List (Str × Addr)) (pm cv ctv : Value), bindArgs (PySem.W.kla_fn "<lambda>" q params body scope cl pm cv ctv) ⟨[], []⟩ = pure [])
    (hbody : ∀ (A : Around) (outer : List Env) (s : Shared) (H : Hp) (E : XK) (f c' : Addr), Room k (A.deeper (lamEnv X scope s.heap.objs.size f c')) → GE T (lamCx X A outer s H E scope f c') E body m) :
    GE T X E (.Call (.Name x p) [.Lambda params body scope lpos] [] pos) (mCaught es cs ok l m) := by
  obtain ⟨g, pg, sg, dV, kV, doc, pm, cdv, ct, oc, an, od, osl, Ng, a, n, i, j, k', p1, p2, p3, p4, p5, p6, hd, hds, lc, h1, h2, h3, h4, h5, h6, h7, h8, h9, h10, h11, h12, h13, ⟨d1, d2, d3, d4, d5⟩, h14, h15, h16⟩ := h.ex
  have hun : X.A.units + 80 < cLine := by
    have := hr.un
    omega
  have giv : GivesTo X Ng x sg g cdv [.Try [.Return (some (.Tuple [.Constant (.str ok) j p1, .Call (.Name a p2) [] [] p3] k' p4)) p5] (hd :: hds) [] [] p6] a (X.env.qual ++ "<lambda>") (TC X.K ok lc) :=
    caught_gives hgd hun h9 h10 h11 h12 h13 d1 d2 h14 (fun f => by simp [L2.start])
  constructor
  refine pe_imp (pe_lamcall (t := fun E => tOf X.K X.mg T relD E m) hg h1 h2 h3 h4 h5 h6 h7 h8 giv TB hcode hmT hu hr L hdef hbind (fun A outer s H E f c' hr' => (hbody A outer s H E f c' hr').pe) d5 d3 d4) ?_
  intro σ H Q ⟨pa, ca, O, ρ, π, good, res⟩
  refine ⟨good.tab, fun H1 eN T1 => ?_⟩
  have s1 := good.extN eN T1
  have g1 := good.step s1
  refine ⟨pa, ca, O, ρ, π, g1, ?_⟩
  have res := Res.from (H1 := H1) (o := mCaught es cs ok l m ρ π) res s1
  unfold mCaught at res
  cases hm : m ρ π with
  | ok d π' =>
    rw [hm] at res
    intro v H2 s2 rv
    have g2 := g1.step s2
    refine ⟨by show 2 ≤ sizeLine; decide, fun p hp => Res.ok (Res.from (o := Out.ok (D.tup [.str ok, d]) π') res s2) (g2.same (same_upd hp)) ?_⟩
    exact R_newT hp (g2.fresh hp) (.cons (R_str.mpr rfl) (.cons rv .nil))
  | err cn ns fs π' =>
    rw [hm] at res
    simp only at res
    split at res
    · rename_i hes
      cases hl : ladD cs l cn ns fs with
      | none => rw [hl] at res; exact res.elim
      | some d =>
        rw [hl] at res
        intro C dd H2 hC s2 er
        have g2 := g1.step s2
        exact eLad_ok hes hC er (fun p hp => g2.fresh hp) (fun p vs hp r => Res.ok (Res.from (o := Out.ok d π') res s2) (g2.same (same_upd hp)) r) lk (fun q hq => hq) h15 h16 hl
    · exact res.elim
  | bad =>
    rw [hm] at res
    exact res.elim
end L2.Dl
end

section
set_option maxRecDepth 100000
set_option maxHeartbeats 2000000
/-! The pen's items read and stored. -/
namespace L2.Dl
open PySem PySem.Spec PyProof.Rows LamX

def penAt (π : Pen) (f : Str) : Option Int := if f = "at" then some π.at_ else if f = "digits" then some π.digits else if f = "count" then some π.count else if f = "fold" then some π.fold else none
def penPut (π : Pen) (f : Str) (i : Int) : Option Pen := if f = "at" then some { π with at_ := i } else if f = "digits" then some { π with digits := i } else if f = "count" then some { π with count := i } else if f = "fold" then some { π with fold := i } else none
def mPen (i : Nat) (f : Str) : M D := fun ρ π => match ρ[i]? with
  | some (.sh .pen) => (match penAt π f with | some v => .ok (.int v) π | none => .bad)
  | _ => .bad
def mPenC (i : Nat) : M D := fun ρ π => match ρ[i]? with
  | some (.sh .pen) => .ok (.lst (π.cells.map .int)) π
  | _ => .bad
def penPutK (i : Nat) (f : Str) (d : D) : MS := fun ρ π => match ρ[i]? with
  | some (.sh .pen) => (match d with | .int v => (match penPut π f v with | some π' => .nx ρ π' | none => .bad) | _ => .bad)
  | _ => .bad
def sPenPut (i : Nat) (f : Str) (me : M D) : MS := sBind me (penPutK i f)
theorem pen_val {ca : Addr} {π : Pen} {f : Str} {v : Int} (h : penAt π f = some v) : valV (penKv ca π) (.inr f) = some (.int v) := by
  unfold penAt at h
  repeat' split at h
  all_goals first | (cases h; done) | (subst_vars; cases h; rfl)
theorem pen_put {ca : Addr} {π π' : Pen} {f : Str} {v : Int} (h : penPut π f v = some π') : putK (penKv ca π) (.inr f) (.int v) = penKv ca π' ∧ π'.cells = π.cells := by
  unfold penPut at h
  repeat' split at h
  all_goals first | (cases h; done) | (subst_vars; cases h; exact ⟨rfl, rfl⟩)
section
variable {T : List (Addr × Str)} {X : Cx} {E : XK} {e : Expr} {me : M D} {pos np kp pos' : Pos} {x f : Str} {j : Nat}
theorem slot_pen {g : G} {ca : Addr} {O : Addr → Prop} {σ : St} {H : Hp} {ρ : Rho} {π : Pen} (h : Good T g ca O σ H ρ π) {i : Nat} (e : ρ[i]? = some (.sh .pen)) : σ[i]? = some (some (.ref g.pa)) := by
  have q := h.sl i
  rw [e] at q
  obtain ⟨v, q1, q2⟩ := q
  rw [q1, R_pen.mp q2]
theorem ge_pen (hu : X.A.units + 1 < cLine) (i : Nat) (hN : X.N[i]? = some x := by rfl) (hv : Vis X.env.scope x := by first | exact Or.inl rfl | exact Or.inr (Or.inl rfl) | exact Or.inr (Or.inr rfl)) (hd : (x == ("__debug__" : Str)) = false := by decide) (hcd : (x == ("__classdict__" : Str)) = false := by decide) :
    GE T X E (.Subscript (.Name x np) (.Constant (.str f) j kp) pos) (mPen i f) :=
  ⟨pe_imp (pe_dget hu (pe_var hN hv hd hcd) pe_str (by intro _ _; rfl)) fun σ H Q ⟨pa, ca, O, ρ, π, good, res⟩ => by
    unfold mPen at res
    split at res
    case h_2 => exact res.elim
    rename_i e
    split at res
    case h_2 => exact res.elim
    rename_i v ev
    exact ⟨_, slot_pen good e, _, _, rfl, by rw [← pen_val (ca := ca) ev]; exact DGet.k (k := .inr f) good.pen.dict, Res.ok res good.step0 (R_int.mpr rfl)⟩⟩
theorem gb_penC (hu : X.A.units + 1 < cLine) (i : Nat) (hN : X.N[i]? = some x := by rfl) (hv : Vis X.env.scope x := by first | exact Or.inl rfl | exact Or.inr (Or.inl rfl) | exact Or.inr (Or.inr rfl)) (hd : (x == ("__debug__" : Str)) = false := by decide) (hcd : (x == ("__classdict__" : Str)) = false := by decide) :
    GB T X E (.Subscript (.Name x np) (.Constant (.str "cells") j kp) pos) (mPenC i) :=
  ⟨pe_imp (pe_dget hu (pe_var hN hv hd hcd) pe_str (by intro _ _; rfl)) fun σ H Q ⟨pa, ca, O, ρ, π, good, res⟩ => by
    unfold mPenC at res
    split at res
    case h_2 => exact res.elim
    rename_i e
    refine ⟨_, slot_pen good e, _, .ref ca, rfl, DGet.k (k := .inr "cells") good.pen.dict, Res.ok res good.step0 (.inr ⟨ca, .lst (π.cells.map .int), rfl, .inl good.co, fun z => ?_, rfl, ?_⟩)⟩
    · have h1 := good.pen.cells
      rw [z] at h1
      rw [good.pen.dict] at h1
      cases h1
    · refine ⟨_, good.pen.cells, ?_⟩
      have key : ∀ l : List Int, RL ⟨X.K, X.mg, pa⟩ (hide (WW O σ ρ) H) (l.map D.int) (l.map V.int) := by
        intro l
        induction l with
        | nil => exact .nil
        | cons a l ih => exact .cons (R_int.mpr rfl) ih
      exact key π.cells⟩
theorem pen_step {g : G} {ca : Addr} {O : Addr → Prop} {σ : St} {H : Hp} {ρ : Rho} {π π' : Pen} (h : Good T g ca O σ H ρ π) (hc : π'.cells = π.cells) : Step T g ca (WW O σ ρ) H (upd H g.pa (.dK (penKv ca π'))) π' := by
  have ne : ∀ b o, H b = some o → (∀ kv, o ≠ .dK kv) → b ≠ g.pa := fun b o e n z => by
    rw [z, h.pen.dict] at e
    exact n _ (Option.some.inj e).symm
  refine ⟨fun b o hb e _ => ?_, fun b _ hb => upd_ne hb, ⟨upd_same, ?_⟩, fun p hp => ?_⟩
  · have hb' : b ≠ g.pa := fun z => hb (by rw [z]; exact .inl h.po)
    rw [upd_ne hb']; exact e
  · rw [upd_ne (ne ca _ h.pen.cells (fun kv z => by cases z)), hc]; exact h.pen.cells
  · obtain ⟨ps, h1, h2, h3⟩ := h.tab p hp
    refine ⟨ps, by rw [upd_ne (ne _ _ h1 (fun kv z => by cases z))]; exact h1, h2, fun pos cv hcv => ?_⟩
    obtain ⟨c, e1, e2⟩ := h3 pos cv hcv
    exact ⟨c, e1, by rw [upd_ne (ne _ _ e2 (fun kv z => by unfold CodeO at z; cases z))]; exact e2⟩
theorem gs_penPut (hu : X.A.units + 1 < cLine) (i : Nat) (h : GE T X E e me) (hN : X.N[i]? = some x := by rfl) (hv : Vis X.env.scope x := by first | exact Or.inl rfl | exact Or.inr (Or.inl rfl) | exact Or.inr (Or.inr rfl)) (hd : (x == ("__debug__" : Str)) = false := by decide) (hcd : (x == ("__classdict__" : Str)) = false := by decide)
    (hs : swapsWith e (some (.Subscript (.Name x np) (.Constant (.str f) j kp) pos')) pos.line X.env = pure false := by rfl) : GS T X E (.Assign [.Subscript (.Name x np) (.Constant (.str f) j kp) pos'] e pos) (sPenPut i f me) :=
  ⟨ps_imp (ps_dput hu (pe_var hN hv hd hcd) pe_str h.pe hs) fun D σ H ⟨pa, ca, O, H0, Λ, ρ, π, good, res⟩ => ⟨pa, ca, O, ρ, π, good.good, good.ex (k := penPutK i f) res fun d π1 v H1 s r g1 res1 => by
    unfold penPutK at res1
    split at res1
    case h_2 => exact res1.elim
    rename_i ep
    split at res1
    case h_2 => exact res1.elim
    rename_i w
    split at res1
    case h_2 => exact res1.elim
    rename_i π' e2
    have rv := R_int.mp r
    subst rv
    obtain ⟨k1, k2⟩ := pen_put (ca := ca) e2
    refine ⟨_, slot_pen g1.good ep, pa.1, _, rfl, DPut.k (k := .inr f) g1.good.pen.dict (by show 5 < sizeLine; decide), ?_⟩
    rw [k1]
    exact res1 _ _ (g1.step (pen_step g1.good k2))⟩⟩
end
end L2.Dl
end

section
set_option maxRecDepth 100000
set_option maxHeartbeats 4000000
/-! sorted(set(list of ints)). -/
namespace L2.Dl
open PySem PySem.Spec PyProof.Rows L2

section
variable {P : Program} {w : World} {A : Around} {E : Value → Shared → Prop} {s : Shared}
/-- the ints so far, each once -/
def Once (l : List Int) (c : Nat) : Prop := ∃ m : List Int, m.Nodup ∧ m.length = c ∧ ∀ k, k ∈ m ↔ k ∈ l
theorem Once.snoc {l : List Int} {c : Nat} {z : Int} (h : Once l c) : Once (l ++ [z]) (if decide (z ∈ l) = true then c else c + 1) := by
  obtain ⟨m, h1, h2, h3⟩ := h
  by_cases hz : z ∈ l
  · rw [if_pos (decide_eq_true hz)]
    refine ⟨m, h1, h2, fun k => ?_⟩
    rw [h3, List.mem_append, List.mem_singleton]
    exact ⟨.inl, fun q => q.elim id fun e => by rw [e]; exact hz⟩
  · rw [if_neg (by rw [decide_eq_true_iff]; exact hz)]
    refine ⟨z :: m, List.nodup_cons.mpr ⟨fun q => hz ((h3 z).mp q), h1⟩, by rw [List.length_cons, h2], fun k => ?_⟩
    rw [List.mem_cons, h3, List.mem_append, List.mem_singleton]
    exact ⟨fun q => q.elim .inr .inl, fun q => q.elim .inr .inl⟩
theorem set_loop_ints {I : Addr} {fp wr : List Addr} {G : Array GenState → Array GenState → Prop} {n : Nat} {Pv : Nat → Value → Prop} {St : Nat → Shared → Prop} {R : Result → Shared → Prop}
    (W : WalksS P w A.in1 I fp wr G n Pv St) (S : Addr) (nS : S ∉ fp) (ns : List Int) (en : n = ns.length) (room : ns.length + 1 < scanBound) (vals : ∀ i v, Pv i v → ∃ k t, ns[i]? = some k ∧ v = .int k t) :
    ∀ (k i : Nat) (s : Shared), n - i = k → i ≤ n → St i s → (∃ c, c ≤ i ∧ Once (ns.take i) c ∧ SetR w s.heap S (fun j => decide (j ∈ ns.take i)) c) →
      (∀ s' c, Moved (S :: wr) G s s' → c ≤ n → Once ns c → SetR w s'.heap S (fun j => decide (j ∈ ns)) c → R (.ok (.ret .none)) s') →
      codeAny (model P w) A (.builtin "set.update.loop" ⟨[.ref S, .ref I], []⟩) R s := by
  have nW : S ∉ wr := fun h => nS (W.sub _ h)
  have sub : ∀ b ∈ wr, b ∈ S :: wr := fun b q => List.mem_cons_of_mem _ q
  intro k
  induction k with
  | zero =>
    intro i s ek hi st ⟨c, hc, hO, hS⟩ hR
    have e : i = n := by omega
    subst e
    refine codeAny_builtin F.entry_set_update_loop ?_
    rw [Around.under_plainId F.plain_set_update_loop _]
    show wpAny _ A.in1 (pyNext (.ref I) >>= _) _ _ s
    refine wpAny_bind (W.done s _ _ st fun s' hm => ?_)
    show wpAny _ A.in1 (ret Value.none) _ _ s'
    have e : ns.take i = ns := List.take_of_length_le (by omega)
    rw [e] at hS hO
    exact wpAny_pure (hR s' c (hm.mono sub) hc hO (hS.at fun o e => hm.heap S o nW e))
  | succ k ih =>
    intro i s ek hi st ⟨c, hc, hO, hS⟩ hR
    have lt : i < n := by omega
    refine codeAny_builtin F.entry_set_update_loop ?_
    rw [Around.under_plainId F.plain_set_update_loop _]
    show wpAny _ A.in1 (pyNext (.ref I) >>= _) _ _ s
    refine wpAny_bind (W.item i s _ _ lt st fun v s' hP st' hm => ?_)
    obtain ⟨z, t, hz, rfl⟩ := vals i v hP
    have hS' : SetR w s'.heap S (fun j => decide (j ∈ ns.take i)) c := hS.at fun o e => hm.heap S o nW e
    show wpAny _ A.in1 (holding [Value.int z t] (setAdd S (.int z t)) >>= _) _ _ s'
    refine wpAny_bind (wpAny_holding ?_)
    unfold setAdd
    refine wpAny_holding ?_
    refine wpAny_bind ((intKind P w).pyHash (k := z) (intKind_is _ _ _ _) ?_)
    refine setR_add_hashed (s := { s' with toks := s'.toks + 1 }) hS' (by omega) fun h' hsb hS2 => ?_
    have et : ns.take (i + 1) = ns.take i ++ [z] := by
      rw [List.take_add_one, hz]; rfl
    have hS3 : SetR w h' S (fun j => decide (j ∈ ns.take (i + 1))) (if decide (z ∈ ns.take i) = true then c else c + 1) := hS2.congr fun j => by
      rw [et]
      simp [List.mem_append]
    have hc3 : (if decide (z ∈ ns.take i) = true then c else c + 1) ≤ i + 1 := by
      split <;> omega
    refine wpAny_pure ⟨plainId_quiet F.plain_set_update_loop _, ih (i + 1) _ (by omega) lt (W.frame _ s' _ _ st' (Nat.le_succ _) fun b hb o e => ?_) ⟨_, hc3, by rw [et]; exact hO.snoc, hS3⟩ fun s'' c2 hm'' hc'' hO'' hS'' => ?_⟩
    · rw [hsb.2 b (fun h : b = S => nS (by rw [← h]; exact hb))]; exact e
    · refine hR s'' c2 (Moved.trans W.gtrans ((hm.mono sub).then_heap (Nat.le_succ _) fun b o hb e => ?_) hm'') hc'' hO'' hS''
      rw [hsb.2 b (fun h : b = S => hb (by rw [h]; exact List.mem_cons_self))]; exact e
end
section
variable {P : Program} {w : World} {A : Around} {E : Value → Shared → Prop} {s : Shared}
/-- set(l), l a list of ints -/
theorem set_of_listI {l : Addr} {items : Array Value} (ns : List Int) {Q : Value → Shared → Prop} (calmA : A.handled = none) (isL0 : s.heap.IsList l items) (allI : IntsAre items.toList ns) (roomN : ns.length + 1 < scanBound)
    (h : ∀ (h' : Heap) (tk c : Nat), SetR w h' s.heap.objs.size (fun j => decide (j ∈ ns)) c → c ≤ ns.length → Once ns c → (∀ b o, s.heap.get? b = some o → h'.get? b = some o) → Q (.ref s.heap.objs.size) { s with heap := h', toks := tk }) :
    wpAny (model P w) A (call (.type "set") [.ref l]) Q E s := by
  have szI : items.size = ns.length := by
    have q := IntsAre.length allI
    rw [Array.length_toList] at q
    exact q
  obtain ⟨c, tl, mroS⟩ := F.called_set.mro
  have madeS := F.called_set.made
  have subS := F.called_set.sub
  refine wpAny_call (codeAny_of_tree ?_)
  show wpAny _ _ (callAny (.type "set") _) _ _ _
  refine wpAny_pure ⟨Code.quiet_builtin _ (by decide +kernel), codeAny_builtin F.entry_type_call ?_⟩
  rw [Around.under_plain (weight_type_call_type "set" [.ref l] []) rfl]
  have f1 := F.called_set.notType
  have f2 := F.called_set.canCreate
  have tcS := F.typeCall_set_1 (.ref l)
  repeat (any_goals (first | assumption | wp_step))

  refine codeAny_mono (code_set_led1 (.ref l) (E := E) (Q₁ := fun obj s₁ => obj = .ref s.heap.objs.size ∧ s₁ = { s with heap := s.heap.push { cls := .type "set", dict := none, data := .set #[] 0 (.fresh 0 0 (!w.params.followText "set-order")) } }) ⟨rfl, rfl⟩) fun r s₁ qr => ?_
  cases r with
  | error e => exact qr
  | ok fl =>
    cases fl with
    | ret obj =>
      obtain ⟨rfl, rfl⟩ := qr
      have gS : (s.heap.push { cls := .type "set", dict := none, data := .set #[] 0 (.fresh 0 0 (!w.params.followText "set-order")) }).get? s.heap.objs.size = some { cls := .type "set", dict := none, data := .set #[] 0 (.fresh 0 0 (!w.params.followText "set-order")) } := Heap.get?_push_size _ rfl
      have tyS : Shared.TypeIs { s with heap := s.heap.push { cls := .type "set", dict := none, data := .set #[] 0 (.fresh 0 0 (!w.params.followText "set-order")) } } (.ref s.heap.objs.size) "set" := ⟨_, gS, rfl⟩
      have lookI := F.called_set.init.lookup
      have bindI := F.called_set.init.bind (.ref s.heap.objs.size)
      repeat (any_goals (first | assumption | wp_step))

      refine codeAny_mono (codeAny_call_builtin (R := wants (fun r ss => r = .none ∧ ∃ h' tk c, ss = { s with heap := h', toks := tk } ∧ SetR w h' s.heap.objs.size (fun j => decide (j ∈ ns)) c ∧ c ≤ ns.length ∧ Once ns c ∧
          (∀ b o, s.heap.get? b = some o → h'.get? b = some o)) E) F.called_set.init.plain F.entry_set_init (check_set_init_1 tyS ?_)) fun rr ss qr₂ => ?_
      · obtain ⟨ol, gl, cl, nl, dl⟩ := isL0
        obtain ⟨c0, d0, e0, f0⟩ := ol
        simp only at cl dl
        subst cl; subst dl
        have hol' : (s.heap.push { cls := .type "set", dict := none, data := .set #[] 0 (.fresh 0 0 (!w.params.followText "set-order")) }).get? l = some { cls := .type "list", dict := d0, data := .seq items nl, slots := f0 } := Heap.get?_push_of_some _ gl
        have sub1 := F.sub_list_set
        have sub2 := F.sub_list_frozenset
        have neD : (Value.type "list" == Value.type "dict") = false := by decide
        have isL : (s.heap.push { cls := .type "set", dict := none, data := .set #[] 0 (.fresh 0 0 (!w.params.followText "set-order")) }).IsList l items := ⟨_, hol', rfl, nl, rfl⟩
        unfold Builtin.«set.__init__» noKeywords Builtin.Frozenset.updateFrom
        generalize pI : pyIter = PI
        wp_walk
        subst pI

        refine wpAny_pyIter_list isL ?_
        refine wpAny_bind (wpAny_runValue ?_)
        have ltL : l < s.heap.objs.size := Heap.lt_size gl
        have noH : A.in1.in1.in1.handled = none := by simp [calmA]
        have szP : (s.heap.push { cls := .type "set", dict := none, data := .set #[] 0 (.fresh 0 0 (!w.params.followText "set-order")) }).objs.size = s.heap.objs.size + 1 := Heap.size_push ..
        have neI : l ≠ (s.heap.push { cls := .type "set", dict := none, data := .set #[] 0 (.fresh 0 0 (!w.params.followText "set-order")) }).objs.size := by
          rw [Heap.size_push]; exact Nat.ne_of_lt (Nat.lt_succ_of_lt ltL)
        have notIn : s.heap.objs.size ∉ [(s.heap.push { cls := .type "set", dict := none, data := .set #[] 0 (.fresh 0 0 (!w.params.followText "set-order")) }).objs.size, l] := by
          rw [Heap.size_push]; simp only [List.mem_cons, List.mem_singleton, List.not_mem_nil, or_false, not_or]
          exact ⟨Nat.ne_of_lt (Nat.lt_succ_self _), Nat.ne_of_gt ltL⟩
        have vals : ∀ (i : Nat) (v : Value), items[i]? = some v → ∃ k t, ns[i]? = some k ∧ v = .int k t := fun i v gv => by
          have lti : i < ns.length := by rw [← szI]; exact (Array.getElem?_eq_some_iff.mp gv).1
          obtain ⟨t, e⟩ := PyProof.Rows.IntsAre.int_at allI i v (by rw [Array.getElem?_toList]; exact gv)
          refine ⟨ns[i], t, List.getElem?_eq_getElem lti, ?_⟩
          rw [e, List.getD_eq_getElem?_getD, List.getElem?_eq_getElem lti] <;> rfl
        refine set_loop_ints ((Walks.list noH _ l neI items).toS) s.heap.objs.size
          notIn ns szI roomN vals (items.size - 0) 0 _ (by omega) (Nat.zero_le _)
          ⟨⟨_, Heap.get?_push_size _ rfl, rfl, rfl⟩, (isL.push _)⟩ ?hS0 ?hR
        case hS0 =>
          have gt0 : ((s.heap.push { cls := .type "set", dict := none, data := .set #[] 0 (.fresh 0 0 (!w.params.followText "set-order")) }).push { cls := .type "list_iterator", data := .fields #[.ref l, .int 0 0] }).get? s.heap.objs.size
              = some { cls := .type "set", dict := none, data := .set #[] 0 (.fresh 0 0 (!w.params.followText "set-order")) } := Heap.get?_push_of_some _ gS
          exact ⟨0, Nat.le_refl 0, ⟨[], .nil, rfl, fun k => by simp⟩, setR_new_at gt0⟩
        case hR =>
          intro s' c' mm cc' oo' gS'
          obtain ⟨h', g2, d', tk', os'⟩ := s'
          have k1 : g2 = s.gens := mm.gens
          have k2 : d' = s.drawn := mm.drawn
          have k3 : os' = s.os := mm.os
          subst k1; subst k2; subst k3
          show wpAny _ _ _ _ _ _
          refine wpAny_pure ?_
          show wpAny _ _ (ret Value.none) _ _ _
          rw [szI] at cc'
          refine wpAny_pure ⟨rfl, h', tk', c', rfl, gS', cc', oo', fun b o e => ?_⟩
          have b0 : b < s.heap.objs.size := Heap.lt_size e
          have b1 : b ≠ s.heap.objs.size := Nat.ne_of_lt b0
          have b2 : b ≠ (s.heap.push { cls := .type "set", dict := none, data := .set #[] 0 (.fresh 0 0 (!w.params.followText "set-order")) }).objs.size := by
            rw [Heap.size_push]; exact Nat.ne_of_lt (Nat.lt_succ_of_lt b0)
          exact mm.heap b o (by simp only [List.mem_cons, List.mem_singleton, List.not_mem_nil, or_false, not_or]; exact ⟨b1, b2⟩) (Heap.get?_push_of_some _ (Heap.get?_push_of_some _ e))

      · cases rr with
        | error e => exact qr₂
        | ok fl₂ =>
          cases fl₂ with
          | ret r =>
            obtain ⟨rfl, h', tk, c', rfl, gS', cc', oo', kk'⟩ := qr₂
            repeat (any_goals (first | assumption | wp_step))
            exact h _ _ _ gS' cc' oo' kk'
          | _ => exact qr₂.elim
    | _ => exact qr.elim

end
end L2.Dl
end

section
set_option maxRecDepth 100000
set_option maxHeartbeats 2000000
/-! sorted(set(..)) over data. -/
namespace L2.Dl
open PySem PySem.Spec PyProof.Rows L2

/-- the members, each once, rising -/
def insU (k : Int) : List Int → List Int
  | [] => [k]
  | a :: l => if k < a then k :: a :: l else if k = a then a :: l else a :: insU k l
def sortU (l : List Int) : List Int := l.foldr insU []
theorem insU_mem {k j : Int} : ∀ l : List Int, j ∈ insU k l ↔ j = k ∨ j ∈ l
  | [] => by simp [insU]
  | a :: l => by
    unfold insU
    split
    · simp
    · split
      · rename_i h
        subst h
        simp
      · simp only [List.mem_cons, insU_mem l]
        constructor
        · rintro (h | h | h) <;> simp [h]
        · rintro (h | h | h) <;> simp [h]
theorem insU_ris {k : Int} : ∀ {l : List Int}, l.Pairwise (· < ·) → (insU k l).Pairwise (· < ·)
  | [], _ => by simp [insU]
  | a :: l, h => by
    rw [List.pairwise_cons] at h
    unfold insU
    split
    · rename_i hk
      refine List.pairwise_cons.mpr ⟨fun b hb => ?_, List.pairwise_cons.mpr h⟩
      rcases List.mem_cons.mp hb with e | e
      · rw [e]; exact hk
      · exact Int.lt_trans hk (h.1 b e)
    · split
      · exact List.pairwise_cons.mpr h
      · rename_i h1 h2
        refine List.pairwise_cons.mpr ⟨fun b hb => ?_, insU_ris h.2⟩
        rcases (insU_mem l).mp hb with e | e
        · rw [e]; omega
        · exact h.1 b e
theorem sortU_mem {j : Int} : ∀ l : List Int, j ∈ sortU l ↔ j ∈ l
  | [] => by simp [sortU]
  | a :: l => by
    show j ∈ insU a (sortU l) ↔ _
    rw [insU_mem, sortU_mem l, List.mem_cons]
theorem sortU_ris : ∀ l : List Int, (sortU l).Pairwise (· < ·)
  | [] => .nil
  | a :: l => insU_ris (sortU_ris l)
theorem ris_one : ∀ {a b : List Int}, a.Pairwise (· < ·) → b.Pairwise (· < ·) → (∀ k, k ∈ a ↔ k ∈ b) → a = b
  | [], [], _, _, _ => rfl
  | [], y :: b, _, _, h => by have := (h y).mpr List.mem_cons_self; cases this
  | x :: a, [], _, _, h => by have := (h x).mp List.mem_cons_self; cases this
  | x :: a, y :: b, ha, hb, h => by
    rw [List.pairwise_cons] at ha hb
    have e : x = y := by
      rcases List.mem_cons.mp ((h x).mp List.mem_cons_self) with e | e
      · exact e
      · rcases List.mem_cons.mp ((h y).mpr List.mem_cons_self) with e' | e'
        · exact e'.symm
        · have h1 := hb.1 x e
          have h2 := ha.1 y e'
          omega
    subst e
    congr 1
    refine ris_one ha.2 hb.2 fun k => ⟨fun hk => ?_, fun hk => ?_⟩
    · rcases List.mem_cons.mp ((h k).mp (List.mem_cons_of_mem _ hk)) with e | e
      · have := ha.1 k hk; omega
      · exact e
    · rcases List.mem_cons.mp ((h k).mpr (List.mem_cons_of_mem _ hk)) with e | e
      · have := hb.1 k hk; omega
      · exact e
theorem perm_of_nodup : ∀ {a b : List Int}, a.Nodup → b.Nodup → (∀ k, k ∈ a ↔ k ∈ b) → a.length = b.length := fun ha hb h =>
  ((List.perm_ext_iff_of_nodup ha hb).mpr h).length_eq
theorem once_sortU {ns : List Int} {c : Nat} (h : Once ns c) : c = (sortU ns).length := by
  obtain ⟨m, h1, h2, h3⟩ := h
  rw [← h2]
  exact perm_of_nodup h1 ((sortU_ris ns).imp fun q e => by rw [e] at q; exact Int.lt_irrefl _ q) fun k => by rw [h3, sortU_mem]
def intsD : List D → Option (List Int)
  | [] => some []
  | .int i :: l => (intsD l).map (i :: ·)
  | _ => none
theorem intsD_eq : ∀ {l : List D} {ns : List Int}, intsD l = some ns → l = ns.map .int
  | [], ns, h => by cases h; rfl
  | d :: l, ns, h => by
    cases d with
    | int i =>
      simp only [intsD] at h
      cases z : intsD l with
      | none => rw [z] at h; cases h
      | some ms =>
        rw [z] at h
        cases h
        rw [intsD_eq z]; rfl
    | _ => cases h
def sortSetD : D → Option D
  | .lst l => (intsD l).bind fun ns => if ns.length < 4000 ∧ (sortU ns).length < 64 then some (.lst ((sortU ns).map .int)) else none
  | _ => none
def rSetL (w : World) : List V → Hp → VK → Prop := fun xs H Q => ∃ (a : Addr) (ns : List Int), xs = [V.ref a] ∧ H a = some (.lst (ns.map V.int)) ∧ ns.length < 4000 ∧ ∀ p c, c = (sortU ns).length → H p = none → Q (.ref p) (upd H p (SetO w p (fun j => decide (j ∈ ns)) c))
section
variable {T : List (Addr × Str)} {X : Cx} {E : XK} {e : Expr} {m : M D} {pos p p1 pos1 : Pos}
theorem cr_setL (hc : X.calm = true) : CallR X (.type "set") (rSetL X.w) := by
  intro pins s σ H xs us Q I r h
  obtain ⟨a, ns, rfl, ha, hn, q⟩ := h
  rw [Vals.ref1 r]
  obtain ⟨_, its, k, rs, ea⟩ := I.hok a _ ha
  have hi : IntsAre its ns := RZ.intsAre_vals rs
  refine set_of_listI ns (I.ok.hd hc) ⟨_, ea, rfl, k, rfl⟩ (by simpa using hi) (by unfold scanBound; omega) fun h' tk c R1 _ hO kp => ?_
  exact ⟨.ref s.heap.objs.size, upd H s.heap.objs.size (SetO X.w s.heap.objs.size (fun j => decide (j ∈ ns)) c), I.laid kp (Nat.le_refl _) (setO_new R1), rfl, q _ c (once_sortU hO) (I.hok.fresh (Nat.le_refl _))⟩
theorem ge_sortset (hc : X.calm = true) (hms : X.mg "set" = none) (hmo : X.mg "sorted" = none) (h : GB T X E e m) (hg : Gl X "set" := by rfl) (hgo : Gl X "sorted" := by rfl) (he : starEach [e] X.env = (false, eval e X.env) :: starEach [] X.env := by rfl) :
    GE T X E (.Call (.Name "sorted" p) [.Call (.Name "set" p1) [e] [] pos1] [] pos) (m1 sortSetD m) :=
  ⟨pe_imp (pe_callB (cr_sortedSet hc) hgo hmo (by decide +kernel) (pa_cons (pe_callTy (cr_setL hc) hg hms (by decide +kernel) (pa_cons h.pe pa_nil he) (by decide) (by decide) he rfl) pa_nil)) fun σ H Q ⟨pa, ca, O, ρ, π, good, res⟩ => ⟨pa, ca, O, ρ, π, good, Res.seq res fun d1 π1 v1 H1 s1 r1 res1 => by
    obtain ⟨d, e, res1⟩ := Res.opt (o := sortSetD d1) res1
    cases d1 with
    | lst l =>
      simp only [sortSetD] at e
      cases z : intsD l with
      | none => rw [z] at e; cases e
      | some ns =>
        rw [z] at e
        simp only [Option.bind_some] at e
        split at e
        case isFalse => cases e
        rename_i hn
        cases e
        obtain ⟨a, vs, rfl, ha, hr⟩ := r1.lst
        have g1 := good.step s1
        have isI : ∀ {H0 : Hp} {ns : List Int} {vs : List V}, RL ⟨X.K, X.mg, pa⟩ H0 (ns.map D.int) vs → vs = ns.map V.int := by
          intro H0 ns
          induction ns with
          | nil => intro vs r; exact RL_nil.mp r
          | cons i ns ih =>
            intro vs r
            obtain ⟨v, ws, rfl, a, b⟩ := RL_cons.mp r
            rw [R_int.mp a, ih b]; rfl
        rw [intsD_eq z] at hr
        rw [isI hr] at ha
        refine ⟨a, ns, rfl, ha, hn.1, fun p c hcn hp => ⟨p, _, c, rfl, upd_same, by omega, fun ms q h1 h2 h3 hq => ?_⟩⟩
        have hpq : q ≠ p := fun z => by
          rw [z, upd_same] at hq
          cases hq
        have hq1 : H1 q = none := by rw [upd_ne hpq] at hq; exact hq
        have eq : ms = sortU ns := ris_one h1 (sortU_ris ns) fun k => by
          rw [h2, sortU_mem, decide_eq_true_iff]
        subst eq
        have sm : Same H1 (upd (upd H1 p (SetO X.w p (fun j => decide (j ∈ ns)) c)) q (.lst ((sortU ns).map V.int))) := fun b o eb => by
          rw [upd_ne (ne_of_none eb hq1), upd_ne (ne_of_none eb hp)]; exact eb
        refine Res.ok res1 (g1.same sm) ?_
        show R _ (hide (WW O σ ρ) _) _ _
        rw [hide_new (g1.fresh hq1)]
        refine R_lst.mpr ⟨q, _, rfl, upd_same, ?_⟩
        have key : ∀ (H0 : Hp) (l : List Int), RL ⟨X.K, X.mg, pa⟩ H0 (l.map D.int) (l.map V.int) := by
          intro H0 l
          induction l with
          | nil => exact .nil
          | cons a l ih => exact .cons (R_int.mpr rfl) ih
        exact key _ _
    | _ => cases e⟩⟩
end
end L2.Dl
namespace L2
open PySem
theorem Room.u65 {k : Nat} {A : Around} (r : Room k A) : A.units + 65 < cLine := by have := r.un; omega
theorem Room.u1 {k : Nat} {A : Around} (r : Room k A) : A.units + 1 < cLine := by have := r.un; omega
end L2
end

section
set_option maxRecDepth 100000
set_option maxHeartbeats 2000000
/-! The law's pen is made; the law's body. -/
namespace L2.Dl
open PySem PySem.Spec PyProof.Rows

/-- the pen's making: a new dict, a new list of the cells -/
def spPen (K : PySem.W.Frag) : Sp := fun vs H Q _ => ∃ (a : Addr) (ns : List Int), vs = [.ref a] ∧ SqL K H a (ns.map V.int) ∧ ns.length ≤ sizeLine ∧
  ∀ (p ca : Addr) (f : Int), 0 ≤ f → f < 10000000000 → H p = none → H ca = none → p ≠ ca → Q (.ref p) (upd (upd (upd H p (.dK [])) ca (.lst (ns.map V.int))) p (.dK (penKv ca ⟨ns, 0, 0, 0, f⟩)))
section
variable {P : Program} {w : World} {K : PySem.W.Frag} {mg : Str → Option Value} {base : Heap}
theorem sqL_one {X : Cx} {pins : List (Addr × Obj)} {σ : St} {H : Hp} {s : Shared} {a : Addr} {xs ys : List V} (I : Inv X pins σ H s) (h : SqL X.K H a xs) (h' : SqL X.K H a ys) : xs = ys := I.list_inj h h'
theorem pen_fn {CX : CXT} {x : Str} {params : Arguments} {body : List Stmt} {scope : Scope} {f : Addr} {fd : FuncData} {c1 c2 : Int} {j1 j2 j3 j4 j5 j6 j7 j8 j9 j10 j11 : Nat}
    {q1 q2 q3 q4 q5 q6 q7 q8 q9 q10 q11 q12 q13 q14 q15 q16 q17 q18 q19 q20 q21 q22 q23 q24 q25 q26 q27 q28 q29 q30 q31 : Pos} (F : FunD K x x params body scope [] [] f fd) (S : FnScope ["script", "fold", "cell"] ["script"] scope) (hi : mg "int" = none) (hl : mg "list" = none)
    (gi : scope.names.lookup ("int" : Str) = some .globalImplicit) (gl : scope.names.lookup ("list" : Str) = some .globalImplicit) (l0 : scope.names.lookup ("script" : Str) = some .local) (l1 : scope.names.lookup ("fold" : Str) = some .local) (l2 : scope.names.lookup ("cell" : Str) = some .local)
    (hc1 : 0 < c1 ∧ c1 < 1000) (hc2 : 0 < c2 ∧ c2 < 10000000000)
    (hbd : body = [.Assign [.Name "fold" q1] (.Constant (.int 0) j1 q2) q3,
      .For (.Name "cell" q4) (.Name "script" q5) [.Assign [.Name "fold" q6] (.BinOp (.Call (.Name "int" q7) [.BinOp (.BinOp (.Name "fold" q8) .Mult (.Constant (.int c1) j2 q9) q10) .Add (.Name "cell" q11) q12] [] q13) .Mod (.Constant (.int c2) j3 q14) q15) q16] [] q17,
      .Return (some (.Dict [some (.Constant (.str "cells") j4 q18), some (.Constant (.str "at") j5 q19), some (.Constant (.str "digits") j6 q20), some (.Constant (.str "count") j7 q21), some (.Constant (.str "fold") j8 q22)]
        [.Call (.Name "list" q23) [.Name "script" q24] [] q25, .Constant (.int 0) j9 q26, .Constant (.int 0) j10 q27, .Constant (.int 0) j11 q28, .Name "fold" q29] q30)) q31]) :
    FnOk P w K mg base CX 2 f fd ["script"] (spPen K) := by
  subst hbd
  refine F.ok S (fun vs H Q E h => ?_) fun cdv A outer s H vs Q E hr hsp => ?_
  · obtain ⟨a, ns, rfl, _⟩ := h; rfl
  obtain ⟨a, ns, rfl, hq, hz, hQ⟩ := hsp
  have nd : (["script", "fold", "cell"] : List Str).Nodup := S.nd
  let X : Cx := cxOf CX P w K mg base ["script", "fold", "cell"] x scope f cdv A outer s H E
  have vF : PE X (.Name "fold" q8) (tVar 1) := pe_var rfl (.inl l1)
  have vC : PE X (.Name "cell" q11) (tVar 2) := pe_var rfl (.inl l2)
  have vS : PE X (.Name "script" q5) (tVar 0) := pe_var rfl (.inl l0)
  have vS2 : PE X (.Name "script" q24) (tVar 0) := pe_var rfl (.inl l0)
  have vF2 : PE X (.Name "fold" q29) (tVar 1) := pe_var rfl (.inl l1)
  have st1 : PS X (.Assign [.Name "fold" q1] (.Constant (.int 0) j1 q2) q3) _ := ps_set (i := 1) nd rfl (.inl l1) pe_int rfl (.inr l1)
  have e1 : PE X (.Call (.Name "int" q7) [.BinOp (.BinOp (.Name "fold" q8) .Mult (.Constant (.int c1) j2 q9) q10) .Add (.Name "cell" q11) q12] [] q13) _ := pe_callTy call_int1 gi hi (by decide +kernel) (pa_cons (pe_op op_add (pe_op op_mul vF pe_int) vC) pa_nil)
  have st2 : PS X (.Assign [.Name "fold" q6] (.BinOp (.Call (.Name "int" q7) [.BinOp (.BinOp (.Name "fold" q8) .Mult (.Constant (.int c1) j2 q9) q10) .Add (.Name "cell" q11) q12] [] q13) .Mod (.Constant (.int c2) j3 q14) q15) q16) _ := ps_set (i := 1) nd rfl (.inl l1) (pe_op op_mod e1 pe_int) rfl (.inr l1)
  have st3 : PS X (.For (.Name "cell" q4) (.Name "script" q5) _ [] q17) _ := ps_for (L2.passes_of rfl) rfl (pi_list vS) (pg_name (i := 2) nd rfl (.inl l2) (.inr l2)) (pss_one st2)
  have e2 : PE X (.Call (.Name "list" q23) [.Name "script" q24] [] q25) _ := pe_callTy call_list_of gl hl (by decide +kernel) (pa_cons vS2 pa_nil)
  have st4 := ps_ret (pos := q31) (pe_disp (X := X) (pos := q30) (pps_cons (k := .Constant (.str "cells") j4 q18) pe_str e2 (pps_cons (k := .Constant (.str "at") j5 q19) pe_str (pe_int (i := 0) (j := j9) (pos := q26)) (pps_cons (k := .Constant (.str "digits") j6 q20) pe_str (pe_int (i := 0) (j := j10) (pos := q27)) (pps_cons (k := .Constant (.str "count") j7 q21) pe_str (pe_int (i := 0) (j := j11) (pos := q28)) (pps_cons (k := .Constant (.str "fold") j8 q22) pe_str vF2 pps_nil))))) rfl rfl (by simp) (by simp))
  refine ⟨_, pss_cons st1 (pss_cons st3 (pss_one st4)), ?_⟩
  have hlen : (ns.map V.int).length = ns.length := List.length_map ..
  refine ⟨.ref a, rfl, a, rfl, ⟨_, hq⟩, fun i m σ' H' => H' = H ∧ m + i = ns.length ∧ ∃ fv : Int, (0 ≤ fv ∧ fv < 10000000000) ∧ σ'.length = 3 ∧ σ'[0]? = some (some (.ref a)) ∧ σ'[1]? = some (some (.int fv)), ⟨ns.length, rfl, rfl, 0, ⟨by decide, by decide⟩, rfl, rfl, rfl⟩, ?_⟩
  rintro i m σ' H' ⟨eH, hm, fv, hfv, h3, h0, h1⟩
  subst H'
  by_cases hi' : i < ns.length
  · refine .inr ⟨⟨_, .int ns[i], hq, by rw [List.getElem?_map, List.getElem?_eq_getElem hi']; rfl⟩, fun σ2 H2 => ∃ m', m' < m ∧ (H2 = H ∧ m' + (i + 1) = ns.length ∧ ∃ fv : Int, (0 ≤ fv ∧ fv < 10000000000) ∧ σ2.length = 3 ∧ σ2[0]? = some (some (.ref a)) ∧ σ2[1]? = some (some (.int fv))), fun σ2 H2 h => h, fun y H2 hy => ?_⟩
    obtain ⟨eH2, hy⟩ := hy
    subst H2
    have ey : y = .int ns[i] := by
      have := hy _ hq
      rw [List.getElem?_map, List.getElem?_eq_getElem hi'] at this
      exact (Option.some.inj this).symm
    subst ey
    have g1 : (σ'.set 2 (some (V.int ns[i])))[1]? = some (some (.int fv)) := by rw [List.getElem?_set_ne (by decide)]; exact h1
    have g2 : (σ'.set 2 (some (V.int ns[i])))[2]? = some (some (.int ns[i])) := List.getElem?_set_self (by omega)
    refine ⟨.int fv, g1, fv, c1, rfl, rfl, .inr ⟨by omega, by omega⟩, .int ns[i], g2, fv * c1, ns[i], rfl, rfl, .inl ⟨_, rfl, _, c2, rfl, rfl, hc2.1, m - 1, by omega, rfl, by omega, (fv * c1 + ns[i]) % c2, ⟨Int.emod_nonneg _ (by omega), Int.lt_trans (Int.emod_lt_of_pos _ hc2.1) hc2.2⟩, ?_, ?_, ?_⟩⟩
    · simp [h3]
    · rw [List.getElem?_set_ne (by decide), List.getElem?_set_ne (by decide)]; exact h0
    · exact List.getElem?_set_self (by rw [List.length_set]; omega)
  · refine .inl ⟨⟨_, hq, by rw [hlen]; omega⟩, ?_⟩
    intro p hp
    have hq' : SqL K (upd H p (.dK [])) a (ns.map V.int) := hq.ext fun b o e => by rw [upd_ne (ne_of_none e hp)]; exact e
    refine ⟨.ref a, h0, a, ns.map V.int, rfl, .inl hq', fun ca hca => ?_⟩
    have npc : p ≠ ca := fun z => by rw [z, upd_same] at hca; cases hca
    have hca' : H ca = none := by rw [upd_ne (Ne.symm npc)] at hca; exact hca
    refine ⟨.int fv, h1, by rw [upd_ne npc, upd_same], penKv ca ⟨ns, 0, 0, 0, fv⟩, rfl, (by show 5 ≤ 15; decide), ?_⟩
    exact hQ p ca fv hfv.1 hfv.2 hp hca' npc
end
end L2.Dl
end

section
set_option maxRecDepth 100000
set_option maxHeartbeats 2000000
/-! The end: the law is called once, from the outermost caller. -/
namespace L2.Dl
open PySem PySem.Spec PyProof.Rows L2 LamX

theorem law_callG {P : Program} {w : World} {K : PySem.W.Frag} {mg mb : Str → Option Value} {CX : CXT} {fa a : Addr} {cs : List (Addr × Addr)} {s₁ : Shared} {vs : List Value} {ns : List Int}
    (kin : K.In s₁.heap) (gNs : s₁.heap.Ns mainGlobals mg) (bNs : s₁.heap.Ns builtinsNs mb) (bAll : ∀ x : Str, x ≠ "__name__" → mb x = bootBuiltins x) (noLim : s₁.heap.NoLimit) (noG : s₁.gens = #[]) (tEmp : ∀ pr ∈ cs, s₁.heap.get? pr.2 = some { cls := .none, data := .fields #[] })
    (tOut : ∀ pr ∈ cs, K.lookup pr.2 = none) (tHd : ∀ pr ∈ cs, PySem.W.CodeHd s₁.heap pr.1 pr.2) (bMod : ∃ (mo : Addr) (om : Obj), mg "__builtins__" = some (.ref mo) ∧ mo ≠ builtinsNs ∧ s₁.heap.get? mo = some om ∧ om.cls = .type "module" ∧ om.dict = some builtinsNs ∧ om.data = .plain)
    (aAt : s₁.heap.get? a = some { cls := .type "list", data := .seq vs.toArray }) (aInt : IntsAre vs ns) (aLen : ns.length ≤ sizeLine)
    (run_ : ∀ (base : Heap) (H : Hp), K.In base → base.Ns mainGlobals mg → (∀ pr ∈ cs, TabB base mg pr.1 pr.2) → Env0 P w K mg base callerA [] s₁ H → (∀ pr ∈ cs, H pr.2 = some (.tbl #[])) → SqL K H a (ns.map V.int) → codeAny (model P w) callerA (.call (.ref fa) ⟨[.ref a], []⟩) (CR CX [] P w H s₁ (fun v _ => v = .bl true) (fun _ _ _ => False)) s₁)
    (noE : ∀ H x0 s', CX [] H s₁ (fun _ _ _ => False) x0 s' → False) :
    codeAny (model P w) callerA (.call (.ref fa) ⟨[.ref a], []⟩) (fun r s' => r = .ok (.ret (.bool true)) ∧ OldK s₁.heap s'.heap ∧ s'.os = s₁.os ∧ AllBare s'.gens) s₁ := by
  have kv0 := vals_ints aInt
  have szV := aInt.length
  have atT : ∀ b : Addr, b ∈ cs.map (·.2) → s₁.heap.get? b = some { cls := .none, data := .fields #[] } := fun b bNs => by
    obtain ⟨pr, hpr, x0⟩ := List.mem_map.mp bNs
    rw [← x0]
    exact tEmp pr hpr
  have offT : a ∉ cs.map (·.2) := fun z0 => by
    have q0 := atT a z0
    rw [aAt] at q0
    have z' : Data.seq vs.toArray _ = Data.fields #[] := congrArg Obj.data (Option.some.inj q0)
    cases z'
  have inT : ∀ pr ∈ cs, pr.2 ∈ cs.map (·.2) := fun pr hpr => List.mem_map.mpr ⟨pr, hpr, rfl⟩
  -- from an abstract heap in which nothing but the script and the tables may be tracked
  have main_ : ∀ H : Hp, (∀ pr ∈ cs, H pr.2 = some (.tbl #[])) → (∀ b, H b = none ∨ b ∈ cs.map (·.2) ∨ ∃ o0 xs, H b = some (.frz o0 (.lst xs))) → SqL K H a (ns.map V.int) → HOk P w H s₁.heap → (∀ b, H b ≠ none → b = a ∨ b ∈ cs.map (·.2)) → (H a ≠ none → K.lookup a = none) →
      codeAny (model P w) callerA (.call (.ref fa) ⟨[.ref a], []⟩) (fun r s' => r = .ok (.ret (.bool true)) ∧ OldK s₁.heap s'.heap ∧ s'.os = s₁.os ∧ AllBare s'.gens) s₁ := by
    intro H tblH onlyH sqH okH whoH kA
    have hidG : ∀ {b : Addr} {o0 : Obj}, s₁.heap.get? b = some o0 → H b = none → (hidT s₁.heap H).get? b = some o0 := fun x0 n => hidT_get x0 n
    have bareD : ∀ {b : Addr} {o0 : Obj}, s₁.heap.get? b = some o0 → (∀ vs n, o0.data ≠ .seq vs n) → o0.data ≠ .fields #[] → H b = none := fun {b o0} x0 h1 h2 => by
      cases q0 : H b with
      | none => rfl
      | some u0 =>
        rcases whoH b (by rw [q0]; simp) with e' | e'
        · rw [e', aAt] at x0
          cases x0
          exact (h1 _ _ rfl).elim
        · rw [atT b e'] at x0
          cases x0
          exact (h2 rfl).elim
    have bareN : ∀ {b : Addr} {o0 : Obj} {es : Array DictEntry} {epr : Nat}, s₁.heap.get? b = some o0 → o0.data = .dict es epr → H b = none := fun {b o0 es epr} x0 d => by
      refine bareD x0 (fun vs n z0 => ?_) fun z0 => ?_
      · rw [d] at z0
        cases z0
      · rw [d] at z0
        cases z0
    have hidN : ∀ {b : Addr} {m : Str → Option Value}, s₁.heap.Ns b m → (hidT s₁.heap H).Ns b m := fun {b m} ⟨o0, es, epr, x0, d, r⟩ => ⟨o0, es, epr, hidG x0 (bareN x0 d), d, r⟩
    have kinB : K.In (hidT s₁.heap H) := fun b o0 x0 => hidG (kin b o0 x0) (by
      cases q0 : H b with
      | none => rfl
      | some u0 =>
        rcases whoH b (by rw [q0]; simp) with e' | e'
        · rw [e'] at x0 q0
          rw [kA (by rw [q0]; simp)] at x0
          cases x0
        · obtain ⟨pr, hpr, epr⟩ := List.mem_map.mp e'
          rw [← epr, tOut pr hpr] at x0
          cases x0)
    have modB : L2.Mod K mg (hidT s₁.heap H) := ⟨kinB, hidN gNs, ⟨mb, hidN bNs, bAll⟩, let ⟨mc, h1, h2⟩ := noLim; ⟨mc, hidN h1, h2⟩⟩
    have tabB : ∀ pr ∈ cs, TabB (hidT s₁.heap H) mg pr.1 pr.2 := fun pr hpr => by
      have tEp := tEmp pr hpr
      refine ⟨?_, ?_, fun z0 => ?_⟩
      · obtain ⟨o0, us, file, tf, flags, tg, inF, text, tt, e1, r1, r2, r3, r4, r5, r6, r7, r8, hne⟩ := tHd pr hpr
        refine ⟨o0, us, file, tf, flags, tg, inF, text, tt, hidG e1 (bareD e1 (fun vs n z0 => ?_) fun z0 => ?_), r1, r2, r3, r4, r5, r6, r7, r8, hne⟩
        · rw [r2] at z0
          cases z0
        · rw [r2] at z0
          cases z0
          simp at r3
      · obtain ⟨mo, om, b1, b2, b3, b4, b5, b6⟩ := bMod
        have nGl : mo ≠ mainGlobals := fun q0 => by
          obtain ⟨o0, es, epr, x0, hd, _⟩ := gNs
          rw [q0, x0] at b3
          cases b3
          rw [hd] at b6
          cases b6
        have nTb : mo ≠ pr.2 := fun q0 => by
          rw [q0, tEp] at b3
          cases b3
          cases b6
        refine ⟨mo, om, b1, b2, nGl, nTb, hidG b3 (bareD b3 (fun vs n z0 => ?_) fun z0 => ?_), b4, b5, b6⟩
        · rw [b6] at z0
          cases z0
        · rw [b6] at z0
          cases z0
      · obtain ⟨o0, es, epr, x0, hd, _⟩ := gNs
        rw [z0, tEp] at x0
        cases x0
        cases hd
    have envO : Env0 P w K mg (hidT s₁.heap H) callerA [] s₁ H := ⟨rfl, modB, fun b o0 x0 => of_hidT x0, Nat.le_of_eq (hidT_size _ _), trivial, fun b bNs => absurd (show b ∈ ([] : List Addr) from bNs) (by simp), okH, .of_eq noG⟩
    refine codeAny_mono (run_ _ H kinB (hidN gNs) tabB envO tblH sqH) fun r s' h => ?_
    cases r with
    | error x0 => exact (noE H x0 s' h).elim
    | ok fl =>
      cases fl with
      | next => exact False.elim h
      | brk => exact False.elim h
      | cont => exact False.elim h
      | ret u0 =>
        obtain ⟨v, H', osS, brG, unH, okH', r', q0⟩ := h
        have q' : v = .bl true := q0
        subst q'
        obtain rfl : u0 = Value.bool true := r'
        have stays : ∀ b o0, b ∉ cs.map (·.2) → s₁.heap.get? b = some o0 → s'.heap.get? b = some o0 := fun b o0 notb x0 => by
          cases q0 : H b with
          | none => exact unH.keep b o0 x0 q0 (by intro z0; exact absurd (show b ∈ ([] : List Addr) from z0) (by simp)) (by simp)
          | some u0 =>
            rcases onlyH b with z0 | z0 | ⟨om, xs, z0⟩
            · rw [q0] at z0; cases z0
            · exact absurd z0 notb
            · have z2 := unH.frzs b om _ z0
              obtain ⟨e1, _⟩ := okH b _ z0
              obtain ⟨e2, _⟩ := okH' b _ z2
              rw [x0] at e1; cases e1
              exact e2
        have tbls : ∀ pr ∈ cs, ∃ mre : Array Value, s'.heap.get? pr.2 = some { cls := .none, data := .fields mre } := fun pr hpr => by
          obtain ⟨mre, z0⟩ := unH.tbls pr.2 #[] (tblH pr hpr)
          exact ⟨_, okH' pr.2 _ z0⟩
        refine ⟨rfl, ⟨fun b o0 x0 => ?_, fun b o0 x0 => ?_⟩, osS, brG⟩
        · by_cases bNs : b ∈ cs.map (·.2)
          · obtain ⟨pr, hpr, epr⟩ := List.mem_map.mp bNs
            obtain ⟨mre, hmo⟩ := tbls pr hpr
            rw [← epr] at x0 ⊢
            rw [tEmp pr hpr] at x0
            cases x0
            exact .inr (.inl ⟨((tHd pr hpr).tab (tEmp pr hpr)).isCodeTable, rfl, #[], mre, rfl, by rw [Array.empty_append]; exact hmo⟩)
          · exact .inl (stays b o0 bNs x0)
        · by_cases bNs : b ∈ cs.map (·.2)
          · obtain ⟨pr, hpr, epr⟩ := List.mem_map.mp bNs
            obtain ⟨mre, hmo⟩ := tbls pr hpr
            rw [← epr]
            exact ⟨_, hmo⟩
          · exact ⟨o0, stays b o0 bNs x0⟩
  cases lka : K.lookup a with
  | some o0 =>
    have x0 := kin a o0 lka
    rw [aAt] at x0
    cases x0
    refine main_ (fun b => if b ∈ cs.map (·.2) then some (.tbl #[]) else none) (fun pr hpr => if_pos (inT pr hpr)) (fun b => ?_) (.inr ⟨_, vs.toArray, _, lka, rfl, rfl, rfl, by rw [List.size_toArray, szV]; exact aLen, by simpa using kv0⟩) (fun b u0 z0 => ?_) (fun b z0 => ?_) fun z0 => absurd (show (if a ∈ cs.map (·.2) then some (HO.tbl #[]) else none) = none from if_neg offT) z0
    · by_cases bNs : b ∈ cs.map (·.2)
      · exact .inr (.inl bNs)
      · exact .inl (if_neg bNs)
    · by_cases bNs : b ∈ cs.map (·.2)
      · have z' := (if_pos bNs).symm.trans z0
        cases z'
        exact atT b bNs
      · have z' := (if_neg bNs).symm.trans z0
        cases z'
    · by_cases bNs : b ∈ cs.map (·.2)
      · exact .inr bNs
      · exact absurd (if_neg bNs) z0
  | none =>
    refine main_ (fun b => if b = a then some (.frz { cls := .type "list", data := .seq vs.toArray } (.lst (ns.map V.int))) else if b ∈ cs.map (·.2) then some (.tbl #[]) else none) (fun pr hpr => (if_neg (show ¬ pr.2 = a from fun z0 => offT (by rw [← z0]; exact inT pr hpr))).trans (if_pos (inT pr hpr))) (fun b => ?_)
      (.inl (.inr ⟨{ cls := .type "list", data := .seq vs.toArray }, if_pos rfl⟩)) (fun b u0 z0 => ?_) (fun b z0 => ?_) fun _ => lka
    · by_cases bNs : b = a
      · exact .inr (.inr ⟨_, _, if_pos bNs⟩)
      · by_cases hb2 : b ∈ cs.map (·.2)
        · exact .inr (.inl hb2)
        · exact .inl ((if_neg bNs).trans (if_neg hb2))
    · by_cases bNs : b = a
      · have z' := (if_pos bNs).symm.trans z0
        cases z'
        rw [bNs]
        exact ⟨aAt, by rw [List.length_map]; exact aLen, vs, _, kv0, aAt⟩
      · have z1 := (if_neg bNs).symm.trans z0
        by_cases hb2 : b ∈ cs.map (·.2)
        · have z' := (if_pos hb2).symm.trans z1
          cases z'
          exact atT b hb2
        · have z' := (if_neg hb2).symm.trans z1
          cases z'
    · by_cases bNs : b = a
      · exact .inl bNs
      · by_cases hb2 : b ∈ cs.map (·.2)
        · exact .inr hb2
        · exact absurd ((if_neg bNs).trans (if_neg hb2)) z0

theorem walk_G {l : PySem.W.OpenLaw} {n : Nat} {q : Program} {loose : List Str} {XP : (Str → Option Value) → Heap → Prop} {YP : World → Heap → Prop} {d : DefRec} {CX : World → CXT} (hn : l.most = some n) (hn2 : n ≤ sizeLine) (hdf : d.params.defaults = [])
    (F : ∀ (w : World) (mg : Str → Option Value) (fa : Addr) (h : Heap), YP w h → h.Ns mainGlobals mg → mg d.name = some (.ref fa) → ∃ (K : PySem.W.Frag) (cs : List (Addr × Addr)), K.In h ∧ (∀ p ∈ cs, h.get? p.2 = some { cls := .none, data := .fields #[] }) ∧ (∀ p ∈ cs, K.lookup p.2 = none) ∧ (∀ p ∈ cs, PySem.W.CodeHd h p.1 p.2) ∧
      ∀ (base : Heap) (H : Hp) (s : Shared) (a : Addr) (ns : List Int), ns.length ≤ n → (∀ z ∈ ns, Builtin.Int.intBits z ≤ 1048576) → K.In base → base.Ns mainGlobals mg → (∀ p ∈ cs, TabB base mg p.1 p.2) → Env0 l.prog w K mg base callerA [] s H → (∀ p ∈ cs, H p.2 = some (.tbl #[])) → SqL K H a (ns.map V.int) →
        codeAny (model l.prog w) callerA (.call (.ref fa) ⟨[.ref a], []⟩) (CR (CX w) [] l.prog w H s (fun v _ => v = .bl true) (fun _ _ _ => False)) s)
    (hCX : ∀ (w : World) (H : Hp) (s : Shared) (e : Value) (s' : Shared), CX w [] H s (fun _ _ _ => False) e s' → False) : PySem.W.WalkO q loose XP YP l.row.toRowW d [] (fun f vs => PySem.call f vs) := by
  refine Att.attach_callB hn hdf fun w s₀ s₁ mg mb fa o pm cd doc a vs ns G Y ho hd hcd hmg hobj hints hlen hbits hg => ?_
  obtain ⟨K, cs, kin, t1, t2, t3, R⟩ := F w mg fa _ Y G.T.g hmg
  exact law_callG kin G.T.g G.T.b G.T.builtins G.T.nolimit hg t1 t2 t3 G.T.bmain hobj hints (Nat.le_trans hlen hn2) (fun base H k1 k2 k3 k4 k5 k6 => R base H s₁ a ns hlen hbits k1 k2 k3 k4 k5 k6) fun H e s' => hCX w H s₁ e s'
end L2.Dl
end

section
set_option maxRecDepth 100000
set_option maxHeartbeats 2000000
/-! The law's run. -/
namespace L2.Dl
open PySem PySem.Spec PyProof.Rows L2 LamX

/-- the pen as it is made -/
structure PenIni (π : Pen) : Prop where
  at_ : π.at_ = 0
  digits : π.digits = 0
  count : π.count = 0
  f0 : 0 ≤ π.fold
  f1 : π.fold < 10000000000
  size : π.cells.length ≤ sizeLine
/-- the code object of the def at f -/
def CdOf (K : PySem.W.Frag) (f : Addr) (cdv : Value) : Prop := ∃ (oc : Value) (od : Option Addr) (fd : FuncData) (osl : Array (Option Value)), K.lookup f = some ⟨oc, od, .func fd, osl⟩ ∧ fd.code = cdv ∧ PySem.W.codeIn K cdv "law" = true
section
variable {P : Program} {w : World} {K : PySem.W.Frag} {mg : Str → Option Value} {base : Heap} {T : List (Addr × Str)}
theorem law_run {N : List Str} {params : Arguments} {scope : Scope} {rest : List Stmt} {f : Addr} {fd : FuncData} {k : Nat} {m : MS} {q1 q2 q3 q4 q5 : Pos} (F : FunD K "law" "law" params (.Assign [.Name "pen" q1] (.Call (.Name "_law_pen" q2) [.Name "script" q3] [] q4) q5 :: rest) scope [] [] f fd) (S : FnScope N ["script"] scope)
    (bF : ∀ (s : Shared) (u : Value), BindsTo s fd ⟨[u], []⟩ [("script", u)]) (Pn : ∃ (fp : Addr) (fdp : FuncData), mg "_law_pen" = some (.ref fp) ∧ PySem.W.keepIn K (.ref fp) = true ∧ FnOk P w K mg base (L2.CX P w) 2 fp fdp ["script"] (spPen K) ∧ Binds K fdp ["script"] [])
    (gp : scope.names.lookup ("_law_pen" : Str) = some .globalImplicit) (h0 : N[0]? = some ("script" : Str)) (h1 : N[1]? = some ("pen" : Str)) (v0 : Vis scope "script") (v1 : Loc scope "pen") (hk : 2 ≤ k)
    (hrest : ∀ (cdv : Value) (A : Around) (outer : List Env) (s : Shared) (H : Hp) (E : XK), CdOf K f cdv → Room k (A.deeper (envOfC "law" scope s.heap.objs.size f cdv)) → A.guards = some [] → GSs T (cxX P w K mg base N "law" scope f cdv A outer s H E) E rest m)
    (hm : ∀ π : Pen, PenIni π → ∃ π', m (.no :: .sh .pen :: List.replicate (N.length - 2) .no) π = .rt (.bl true) π')
    {A : Around} (hg : A.guards = some []) (hr : Room (k + 1) A) {outer : List Env} {s : Shared} {H : Hp} {a : Addr} {ns : List Int} (e0 : Env0 P w K mg base A outer s H) (tab : Tabs T H) (hq : SqL K H a (ns.map V.int)) (hz : ns.length ≤ sizeLine) :
    codeAny (model P w) A (.call (.ref f) ⟨[.ref a], []⟩) (CR (L2.CX P w) outer P w H s (fun v _ => v = .bl true) (fun _ _ _ => False)) s := by
  obtain ⟨oc, od, dV, kV, doc, pm, an, cdv, ct, osl, rfl, lk, hcd, _, _⟩ := F.ex
  obtain ⟨fp, fdp, hmp, hkp, G, hb⟩ := Pn
  refine run_ofS (N := N) (ps := ["script"]) (us := [.ref a]) (vs := [.ref a]) lk hcd S hr e0 (bF s (.ref a)) (.cons rfl .nil) rfl fun hr' => ?_
  have hX := hrest cdv A outer s H (fun _ _ _ => False) ⟨oc, od, _, osl, lk, rfl, hcd⟩ hr' hg
  have st : PS (cxX P w K mg base N "law" scope f cdv A outer s H (fun _ _ _ => False)) (.Assign [.Name "pen" q1] (.Call (.Name "_law_pen" q2) [.Name "script" q3] [] q4) q5) _ :=
    ps_set (i := 1) S.nd h1 v1 (pe_call G (hr'.mono hk) gp hmp hkp hb .nil passU (pa_cons (pe_var (i := 0) h0 v0) pa_nil)) rfl (.inl rfl)
  refine ⟨_, pss_cons st hX.pss, ?_⟩
  have hlen : 2 ≤ N.length := by
    have := (List.getElem?_eq_some_iff.mp h1).1
    omega
  have st0 : (L2.start N [V.ref a])[0]? = some (some (V.ref a)) := by simp [L2.start]
  have stl : (L2.start N [V.ref a]).length = N.length := by
    simp [L2.start]
    omega
  refine ⟨.ref a, st0, a, ns, rfl, hq, hz, fun p ca fo hfo1 hfo2 hp hca npc => ?_⟩
  have nac : ∀ b o, H b = some o → b ≠ p ∧ b ≠ ca := fun b o e => ⟨ne_of_none e hp, ne_of_none e hca⟩
  have old : ∀ b o, H b = some o → upd (upd (upd H p (.dK [])) ca (.lst (ns.map V.int))) p (.dK (penKv ca ⟨ns, 0, 0, 0, fo⟩)) b = some o := fun b o e => by
    rw [upd_ne (nac b o e).1, upd_ne (nac b o e).2, upd_ne (nac b o e).1]; exact e
  let ρ : Rho := .no :: .sh .pen :: List.replicate (N.length - 2) .no
  have noO : ∀ i : Nat, ¬ isO ρ[i]? := fun i q => by
    rcases i with _ | _ | i
    · exact q
    · exact q
    · have e : ρ[i + 2]? = (List.replicate (N.length - 2) Sl.no)[i]? := rfl
      rw [e] at q
      cases z : (List.replicate (N.length - 2) Sl.no)[i]? with
      | none => rw [z] at q; exact q
      | some r =>
        rw [z] at q
        rw [(List.mem_replicate.mp (List.mem_of_getElem? z)).2] at q
        exact q
  obtain ⟨π', hπ⟩ := hm ⟨ns, 0, 0, 0, fo⟩ ⟨rfl, rfl, rfl, hfo1, hfo2, hz⟩
  refine ⟨(p, 0), ca, fun b => b = p ∨ b = ca, _, Led.top, ρ, ⟨ns, 0, 0, 0, fo⟩, ⟨⟨⟨upd_same, ?_⟩, .inl rfl, .inr rfl, tab.ext old, ?_, ?_, ?_, fun i j b _ q => (noO i q).elim, fun b ⟨i, _, q⟩ => (noO i q).elim⟩, fun b o _ e _ => e, fun _ _ _ => rfl, fun b ⟨i, _, q⟩ => (noO i q).elim, trivial⟩, ?_⟩
  · show upd _ p _ ca = _
    rw [upd_ne (Ne.symm npc), upd_same]
  · intro b hb
    rcases hb with hb | hb
    · rw [hb, upd_same]; trivial
    · rw [hb, upd_ne (Ne.symm npc), upd_same]; trivial
  · show ((L2.start N [V.ref a]).set 1 (some (.ref p))).length = _
    rw [List.length_set, stl]
    show N.length = (List.replicate (N.length - 2) Sl.no).length + 1 + 1
    rw [List.length_replicate]
    omega
  · intro i
    rcases i with _ | _ | i
    · trivial
    · refine ⟨.ref p, ?_, R_pen.mpr rfl⟩
      exact List.getElem?_set_self (by rw [stl]; omega)
    · have e : ρ[i + 2]? = (List.replicate (N.length - 2) Sl.no)[i]? := rfl
      show SlotOk _ _ _ _ ρ[i + 2]?
      rw [e]
      cases z : (List.replicate (N.length - 2) Sl.no)[i]? with
      | none => trivial
      | some r =>
        rw [(List.mem_replicate.mp (List.mem_of_getElem? z)).2]
        trivial
  · show ResS _ _ _ _ _ _ (m ρ _) _ _
    rw [show m ρ ⟨ns, 0, 0, 0, fo⟩ = _ from hπ]
    intro v H2 _ rv
    exact R_bl.mp rv
end
end L2.Dl
end

section
set_option maxRecDepth 100000
set_option maxHeartbeats 2000000
/-! Facts of the head: own errors' classes, classes with their own ==, isinstance. -/
namespace L2.Dl
open PySem PySem.Spec PyProof.Rows L2

abbrev EnV : Type := Option (Str × Str × Arguments × FuncBody × Scope × Addr × Addr)
def enO (K : PySem.W.Frag) (p : Str × Option Str) : EnV := match K.lookup (He.fAd K p) with
  | some ⟨_, _, .func fd, _⟩ => some (fd.name, fd.qualname, fd.params, fd.body, fd.scope, fd.globals, fd.builtins)
  | _ => none
def enV (d : He.DefD) : EnV := some (d.name, d.qual, d.params, .stmts d.body, d.scope, mainGlobals, builtinsNs)
def oexB (K : PySem.W.Frag) (C : Addr) : Bool := (match K.lookup C with
  | some ⟨.type t, _, .cls cd, sl⟩ => (match cd.mro, sl.toList with
    | .ref C' :: bm, [_, _, _, _, some (.builtin n), _] => t == "type" && C' == C && n == "ValueError.__new__" && !cd.hasDel && cd.hasDict && PySem.HandSPX.refsVE bm
    | _, _ => false)
  | _ => false) && (decide (PySem.W.findIn K (.ref C) "__setattr__" = some (some (.builtin "object.__setattr__"))) && (decide (PySem.W.subIn K (.ref C) (.type "BaseException") = some true) && (decide (PySem.W.typeIn K (.ref C) = some (.type "type")) && PySem.W.keepIn K (.ref C))))
theorem oexB_ok {K : PySem.W.Frag} {C : Addr} (h : oexB K C = true) : OexC K C := by
  unfold oexB at h
  obtain ⟨h1, h⟩ := Bool.and_eq_true_iff.mp h
  obtain ⟨h2, h⟩ := Bool.and_eq_true_iff.mp h
  obtain ⟨h3, h⟩ := Bool.and_eq_true_iff.mp h
  obtain ⟨h4, h5⟩ := Bool.and_eq_true_iff.mp h
  refine ⟨?_, of_decide_eq_true h2, of_decide_eq_true h3, of_decide_eq_true h4, h5⟩
  split at h1
  · rename_i t dd cd sl ho
    split at h1
    · rename_i C' bm k0 k1 k2 k3 n k5 hm hs
      simp only [Bool.and_eq_true, beq_iff_eq, Bool.not_eq_true'] at h1
      obtain ⟨⟨⟨⟨⟨rfl, rfl⟩, rfl⟩, hdel⟩, hdc⟩, hr⟩ := h1
      obtain ⟨nm, bs, mro, ns, qn, hd, sn, sub, ab, col, del⟩ := cd
      dsimp only at hm hdel hdc
      subst hm hdel hdc
      have hsl : sl = #[k0, k1, k2, k3, some (.builtin "ValueError.__new__"), k5] := by
        obtain ⟨l⟩ := sl
        simp only at hs
        rw [hs]
      subst hsl
      exact ⟨nm, qn, ns, bs, bm, sn, sub, ab, col, dd, k0, k1, k2, k3, k5, ho, hr⟩
    · cases h1
  · cases h1
/-- the def at p is an own error's __init__ with super() -/
def supB (P : Program) (K : PySem.W.Frag) (p : Str × Option Str) (q : Str) (C : Addr) : Bool := (match K.lookup (He.fAd K p) with
  | some ⟨_, _, .func fd, _⟩ => (match fd.closure, fd.code with
    | [(x, cc)], .ref cda => (match fd.defaults with | .none => true | _ => false) && (x == ("__class__" : Str) && (PySem.W.codeIn K (.ref cda) q && ((match K.lookup cda with
        | some ⟨_, _, .fields vs, _⟩ => (match (vs.toList[2]? : Option Value) with | some (.str fl _) => (P.main.file : Str) == fl | _ => false)
        | _ => false) && (match K.lookup cc with | some ⟨_, _, .cell (some (.ref C')), _⟩ => C' == C | _ => false))))
    | _, _ => false)
  | _ => false) && ((match PySem.W.clsIn K C with | some cd => decide (PySem.W.alongIn K "__init__" ((cd.mro.dropWhile (· != .ref C)).drop 1) = some (some (.builtin "ValueError.__init__"))) | none => false) &&
  (decide (PySem.W.mroIn K C (.ref C) = some true) && (decide (PySem.W.mroIn K C (.type "ValueError") = some true) && (decide (PySem.W.nsIn K cStatics "thirdparty.any" = some none) && oexB K C))))
theorem supB_ok {P : Program} {K : PySem.W.Frag} {d : He.DefD} {C : Addr} (e : enO K d.at_ = enV d) (h : supB P K d.at_ d.qual C = true) : ∃ (fd : FuncData) (cda cc : Addr), ErI P K C (He.fAd K d.at_) cda cc fd d.name d.qual d.params d.body d.scope ∧ fd.defaults = .none := by
  unfold supB at h
  obtain ⟨h1, h⟩ := Bool.and_eq_true_iff.mp h
  obtain ⟨h2, h⟩ := Bool.and_eq_true_iff.mp h
  obtain ⟨h3, h⟩ := Bool.and_eq_true_iff.mp h
  obtain ⟨h4, h⟩ := Bool.and_eq_true_iff.mp h
  obtain ⟨h5, h6⟩ := Bool.and_eq_true_iff.mp h
  unfold enO at e
  split at h1
  · rename_i oc od fd osl ho
    rw [ho] at e
    split at h1
    · rename_i x cc cda hcl hcd
      obtain ⟨n1, n2, n3, n4, n5, n6, n7, n8, n9, n10, n11, n12, n13, n14, n15⟩ := fd
      have e2 : (some (n1, n2, n3, n4, n5, n6, n15) : EnV) = some (d.name, d.qual, d.params, .stmts d.body, d.scope, mainGlobals, builtinsNs) := e
      simp only [Option.some.injEq, Prod.mk.injEq] at e2
      obtain ⟨e3, e4, e5, e6, e7, e8, e9⟩ := e2
      subst e3 e4 e5 e6 e7 e8 e9
      dsimp only at hcl hcd
      subst hcl hcd
      obtain ⟨k0, k⟩ := Bool.and_eq_true_iff.mp h1
      obtain ⟨k1, k⟩ := Bool.and_eq_true_iff.mp k
      obtain ⟨k2, k⟩ := Bool.and_eq_true_iff.mp k
      obtain ⟨k3, k4⟩ := Bool.and_eq_true_iff.mp k
      have k1 := eq_of_beq k1
      subst k1
      refine ⟨_, cda, cc, ⟨⟨oc, od, n8, n9, n10, n11, n14, n12, osl, rfl, ho⟩, k2, ?_, ?_, ?_, of_decide_eq_true h3, of_decide_eq_true h4, of_decide_eq_true h5, oexB_ok h6⟩, ?_⟩
      · split at k3
        · rename_i vs _ ho2
          split at k3
          · rename_i fl tf hv
            exact ⟨_, _, vs, _, fl, tf, ho2, by rw [← Array.getElem?_toList]; exact hv, k3⟩
          · cases k3
        · cases k3
      · split at k4
        · rename_i C' _ ho2
          have := eq_of_beq k4
          subst this
          exact ⟨_, _, _, ho2⟩
        · cases k4
      · split at h2
        · rename_i cd hcd
          exact ⟨cd, hcd, of_decide_eq_true h2⟩
        · cases h2
      · dsimp only at k0 ⊢
        split at k0
        · rfl
        · cases k0
    · cases h1
  · cases h1
/-- own classes of isinstance -/
def clsIB (K : PySem.W.Frag) (C : Addr) : Bool := decide (PySem.W.findIn K (.ref C) "__class__" = some (some (.builtin "object.__class__"))) && (decide (PySem.W.specialIn K (.builtin "object.__class__") "__get__" = some (some (.builtin "getset_descriptor.__get__"))) &&
  (decide (PySem.W.takesIn K (.builtin "object.__class__") = some true) && decide (PySem.W.mroIn K C (.type "object") = some true)))
theorem clsIB_ok {K : PySem.W.Frag} {C : Addr} (c : Cls K C) (h : clsIB K C = true) : ClsI K C := by
  unfold clsIB at h
  obtain ⟨h1, h⟩ := Bool.and_eq_true_iff.mp h
  obtain ⟨h2, h⟩ := Bool.and_eq_true_iff.mp h
  obtain ⟨h3, h4⟩ := Bool.and_eq_true_iff.mp h
  exact ⟨c, of_decide_eq_true h1, of_decide_eq_true h2, of_decide_eq_true h3, of_decide_eq_true h4⟩
def isiTB (K : PySem.W.Frag) (cs : List Str) (u : Value) (ans : String → Option Bool) (ansC : Str → Option Bool) : Bool :=
  (tyNames.all fun t => match ans t with | some b => decide (PySem.W.kitOne K (.type t) u = some b) | none => true) && (cs.all fun c => match ansC c with | some b => decide (PySem.W.kitOne K (.ref (He.ga K c)) u = some b) | none => true)
theorem isiTB_ok {K : PySem.W.Frag} {mg : Str → Option Value} {cs : List Str} {u : Value} {ans : String → Option Bool} {ansC : Str → Option Bool} (hg : ∀ c ∈ cs, mg c = some (.ref (He.ga K c))) (hc : ∀ c ∈ cs, ClsI K (He.ga K c)) (ha : ∀ t b, ans t = some b → t ∈ tyNames) (h : isiTB K cs u ans ansC = true) : IsiT K mg cs u ans ansC := by
  unfold isiTB at h
  obtain ⟨h1, h2⟩ := Bool.and_eq_true_iff.mp h
  refine ⟨fun t b e => ?_, fun c hm C b e1 e2 => ?_, fun c hm C e1 => ?_⟩
  · have := List.all_eq_true.mp h1 t (ha t b e)
    rw [e] at this
    exact of_decide_eq_true this
  · have := List.all_eq_true.mp h2 c hm
    rw [e2] at this
    rw [hg c hm] at e1
    cases e1
    exact of_decide_eq_true this
  · rw [hg c hm] at e1
    cases e1
    exact hc c hm
theorem ansB_ty (u : String) : ∀ t b, ansB u t = some b → t ∈ tyNames := fun t b e => by
  unfold ansB at e
  split at e
  · assumption
  · cases e
theorem ansN_ty : ∀ t b, ansN t = some b → t ∈ tyNames := fun t b e => by
  unfold ansN at e
  split at e
  · assumption
  · cases e
def eqfB (K : PySem.W.Frag) (cs : List Str) (C : Addr) : Bool := decide (PySem.W.findIn K (.ref C) "__eq__" = some (some (.ref (He.ma K C "__eq__")))) && (PySem.W.isFn K (.ref (He.ma K C "__eq__")) && (decide (PySem.W.findIn K (.ref C) "__ne__" = some (some (.builtin "object.__ne__"))) &&
  (decide (PySem.W.mroIn K C (.type "object") = some true) && ((tyNames.all fun t => PySem.W.notFirst K C (.type t)) && cs.all fun c => PySem.W.notFirst K C (.ref (He.ga K c))))))
theorem eqfB_ok {K : PySem.W.Frag} {mg : Str → Option Value} {cs : List Str} {C : Addr} (hg : ∀ c ∈ cs, mg c = some (.ref (He.ga K c))) (hc : ∀ c ∈ cs, ClsI K (He.ga K c)) (h : eqfB K cs C = true) : EqF K mg cs C (He.ma K C "__eq__") := by
  unfold eqfB at h
  obtain ⟨h1, h⟩ := Bool.and_eq_true_iff.mp h
  obtain ⟨h2, h⟩ := Bool.and_eq_true_iff.mp h
  obtain ⟨h3, h⟩ := Bool.and_eq_true_iff.mp h
  obtain ⟨h4, h⟩ := Bool.and_eq_true_iff.mp h
  obtain ⟨h5, h6⟩ := Bool.and_eq_true_iff.mp h
  refine ⟨of_decide_eq_true h1, h2, of_decide_eq_true h3, of_decide_eq_true h4, fun t ht => List.all_eq_true.mp h5 t ht, fun c hm C' e => ?_⟩
  rw [hg c hm] at e
  cases e
  exact ⟨hc c hm, List.all_eq_true.mp h6 c hm⟩
/-! ### the head's Hook -/
abbrev AlY : Type := He.AlX × List EnV
def obsK (fa : List He.Fa) (fn : List He.DefD) (tf : List He.Defn) (ex : PySem.W.Frag → Bool) (en : List He.DefD) (g : Addr → Option Obj) (K : PySem.W.Frag) : AlY := ((He.obsT fa fn [] K, ex K && He.tabsB g tf K), en.map fun d => enO K d.at_)
def asY (g : Addr → Option Obj) (n : Nat) : List Addr := He.asD g n ++ [cStatics]
theorem saysY_of {as : List Addr} {fa : List He.Fa} {fn : List He.DefD} {tf : List He.Defn} {ex : PySem.W.Frag → Bool} {w : World} {h : Heap} (e : ((He.obsT fa fn [] (He.frT h.get? as), ex (He.frT h.get? as) && He.tabsB h.get? tf (He.frT h.get? as)) : He.AlX) = He.valX fn [] w) : He.SaysX fa fn [] tf ex w h (He.frT h.get? as) := by
  have e1 : He.obsT fa fn [] (He.frT h.get? as) = He.valT fn [] w := congrArg (fun z : He.AlX => z.1) e
  have e2 : (ex (He.frT h.get? as) && He.tabsB h.get? tf (He.frT h.get? as)) = true := congrArg (fun z : He.AlX => z.2) e
  obtain ⟨h1, h2⟩ := Bool.and_eq_true_iff.mp e2
  have key : ∀ p ∈ tf, PySem.W.codeHdIn (He.frT h.get? as) (He.cT (He.frT h.get? as) p).1 (He.cT (He.frT h.get? as) p).2 = true ∧ ∃ o, h.get? (He.cT (He.frT h.get? as) p).2 = some o ∧ He.emptyTab o = true := fun p hp => by
    obtain ⟨h3, h4⟩ := Bool.and_eq_true_iff.mp (List.all_eq_true.mp h2 p hp)
    refine ⟨h3, ?_⟩
    cases q : h.get? (He.cT (He.frT h.get? as) p).2 with
    | none => rw [q] at h4; cases h4
    | some o => rw [q] at h4; exact ⟨o, rfl, h4⟩
  exact ⟨e1, h1, fun p hp => (key p hp).1, fun p hp => by
    obtain ⟨_, o, q, z⟩ := key p hp
    exact He.frT_none q z, fun p hp => by
    obtain ⟨_, o, q, z⟩ := key p hp
    rw [q, He.emptyTab_eq z]⟩
def obsY (n : Nat) (fa : List He.Fa) (fn : List He.DefD) (tf : List He.Defn) (ex : PySem.W.Frag → Bool) (en : List He.DefD) (g : Addr → Option Obj) : AlY := obsK fa fn tf ex en g (He.frT g (asY g n))
def valY (fn : List He.DefD) (en : List He.DefD) (w : World) : AlY := (He.valX fn [] w, en.map enV)
structure SaysY (fa : List He.Fa) (fn : List He.DefD) (tf : List He.Defn) (ex : PySem.W.Frag → Bool) (en : List He.DefD) (w : World) (h : Heap) (K : PySem.W.Frag) : Prop where
  x : He.SaysX fa fn [] tf ex w h K
  en : en.map (fun d => enO K d.at_) = en.map enV
def hookY (n : Nat) (fa : List He.Fa) (fn : List He.DefD) (tf : List He.Defn) (ex : PySem.W.Frag → Bool) (en : List He.DefD) : PySem.W.Hook where
  α := AlY
  obs := fun s => obsY n fa fn tf ex en s.heap.get?
  val := fun w => valY fn en w
  says := fun w h => ∃ K : PySem.W.Frag, K.In h ∧ SaysY fa fn tf ex en w h K
  of := fun w h e => ⟨_, He.frT_in, ⟨saysY_of (congrArg (fun z : AlY => z.1) e), congrArg (fun z : AlY => z.2) e⟩⟩
  keeps := fun _ _ _ ⟨K, hK, c⟩ k => ⟨K, PySem.W.Frag.In.keeps hK k, ⟨⟨c.x.t, c.x.more, c.x.hd, c.x.out, fun p hp => k _ _ (c.x.empty p hp)⟩, c.en⟩⟩
theorem obsY_eq {n : Nat} {fa : List He.Fa} {fn : List He.DefD} {tf : List He.Defn} {ex : PySem.W.Frag → Bool} {en : List He.DefD} {g : Addr → Option Obj} {s : Shared} (h : ∀ a, g a = s.heap.get? a) : obsY n fa fn tf ex en g = (hookY n fa fn tf ex en).obs s := by
  have e : g = s.heap.get? := funext h
  rw [e] <;> rfl
theorem SaysY.err {fa : List He.Fa} {fn : List He.DefD} {tf : List He.Defn} {ex : PySem.W.Frag → Bool} {en : List He.DefD} {w : World} {h : Heap} {K : PySem.W.Frag} (c : SaysY fa fn tf ex en w h K) (i : Nat) {d : He.DefD} (hd : en[i]? = some d := by rfl) : enO K d.at_ = enV d := by
  have e := congrArg (fun l : List EnV => l[i]?) c.en
  simp only [List.getElem?_map, hd, Option.map_some, Option.some.injEq] at e
  exact e
end L2.Dl
namespace L2.Dl
open PySem PySem.Spec PyProof.Rows L2
def ladKB (K : PySem.W.Frag) (es cs : List Str) (l : List (Str × List It)) : Bool :=
  (es.all fun c => xfB K (He.ga K c) && l.all fun q => decide (PySem.W.exmOne K (.ref (He.ga K c)) (.ref (He.ga K q.1)) = some (decide (c = q.1))) && q.2.all fun i => match i with
    | .con _ => true
    | .att f => decide (PySem.W.findIn K (.ref (He.ga K c)) f = some none)
    | .rep f => decide (PySem.W.findIn K (.ref (He.ga K c)) f = some none)
    | .att2 f _ => decide (PySem.W.findIn K (.ref (He.ga K c)) f = some none)) &&
  cs.all fun c => (He.Fa.cls c).ok K && l.all fun q => q.2.all fun i => match i with
    | .att2 _ h => (He.Fa.noat c h).ok K
    | _ => true
theorem ladKB_ok {K : PySem.W.Frag} {mg : Str → Option Value} {es cs : List Str} {l : List (Str × List It)} (hes : ∀ c ∈ es, mg c = some (.ref (He.ga K c))) (hcs : ∀ c ∈ cs, mg c = some (.ref (He.ga K c))) (hl : ∀ q ∈ l, mg q.1 = some (.ref (He.ga K q.1))) (h : ladKB K es cs l = true) : LadK K mg es cs l := by
  unfold ladKB at h
  obtain ⟨h1, h2⟩ := Bool.and_eq_true_iff.mp h
  have k1 := List.all_eq_true.mp h1
  have k2 := List.all_eq_true.mp h2
  refine ⟨fun c hc C e => ?_, fun c hc C e q hq i hi f hf => ?_, fun c hc C e q hq C' e' => ?_, fun c hc C e => ?_⟩
  · rw [hes c hc] at e
    cases e
    exact xfB_ok (Bool.and_eq_true_iff.mp (k1 c hc)).1
  · rw [hes c hc] at e
    cases e
    have a := List.all_eq_true.mp (Bool.and_eq_true_iff.mp (k1 c hc)).2 q hq
    have b := List.all_eq_true.mp (Bool.and_eq_true_iff.mp a).2 i hi
    rcases hf with rfl | rfl | ⟨g, rfl⟩ <;> exact of_decide_eq_true b
  · rw [hes c hc] at e
    cases e
    rw [hl q hq] at e'
    cases e'
    have a := List.all_eq_true.mp (Bool.and_eq_true_iff.mp (k1 c hc)).2 q hq
    exact of_decide_eq_true (Bool.and_eq_true_iff.mp a).1
  · rw [hcs c hc] at e
    cases e
    obtain ⟨a, b⟩ := Bool.and_eq_true_iff.mp (k2 c hc)
    refine ⟨He.cls_ok a, fun q hq i hi f g ei => ?_⟩
    have b1 := List.all_eq_true.mp (List.all_eq_true.mp b q hq) i hi
    subst ei
    exact He.noat_ok b1
def initB (K : PySem.W.Frag) (c : Str) : Bool := decide (PySem.W.findIn K (.ref (He.ga K c)) "__init__" = some (some (.ref (He.ma K (He.ga K c) "__init__")))) && decide (PySem.W.typeIn K (.ref (He.ma K (He.ga K c) "__init__")) = some (.type "function"))
theorem initB_ok {K : PySem.W.Frag} {c : Str} (h : initB K c = true) : PySem.W.findIn K (.ref (He.ga K c)) "__init__" = some (some (.ref (He.ma K (He.ga K c) "__init__"))) ∧ PySem.W.typeIn K (.ref (He.ma K (He.ga K c) "__init__")) = some (.type "function") := by
  obtain ⟨a, b⟩ := Bool.and_eq_true_iff.mp h
  exact ⟨of_decide_eq_true a, of_decide_eq_true b⟩
theorem ErI.bindsK {P : Program} {K : PySem.W.Frag} {C f cda cc : Addr} {fd : FuncData} {x qual : Str} {params : Arguments} {body : List Stmt} {scope : Scope} {ps : List Str} (e : ErI P K C f cda cc fd x qual params body scope) (hd : fd.defaults = .none)
    (h : ∀ (kV doc pm cdv ct : Value) (an : Option Addr) (cc : Addr) (us : List Value), us.length = ps.length → bindArgs (PySem.W.ksFn x qual params body scope .none kV doc pm an cdv ct cc) ⟨us, []⟩ = pure (ps.zip us)) : L2.Binds K fd ps [] := by
  obtain ⟨oc, od, dV, kV, doc, pm, ct, an, osl, rfl, lk⟩ := e.fn
  have hd : dV = .none := hd
  subst hd
  exact .all (h kV doc pm _ ct an cc)
theorem exAt {K : PySem.W.Frag} {l : List (PySem.W.Frag → Bool)} (h : l.all (fun b => b K) = true) (i : Nat) {b : PySem.W.Frag → Bool} (e : l[i]? = some b := by rfl) : b K = true := List.all_eq_true.mp h b (List.mem_of_getElem? e)
end L2.Dl
namespace L2
open PySem
theorem Room.u70 {k : Nat} {A : Around} (r : Room k A) : A.units + 70 < cLine := by have := r.un; omega
end L2
end

section
/-! Words over two or three letters, in plain Lean: sums, spans, reduced bases. -/
namespace CM
abbrev W := List Int
abbrev gt (w : W) (i : Nat) : Int := w.getD i 0
def isW (p : Int) (n : Nat) (w : W) : Prop := w.length = n ∧ ∀ x ∈ w, 0 ≤ x ∧ x < p
def addw (p : Int) (a b : W) (t : Int) : W := (a.zip b).map fun q => (q.1 + t * q.2) % p
def zerow (n : Nat) : W := List.replicate n 0
def P23 (p : Int) : Prop := p = 2 ∨ p = 3
theorem P23.pos {p : Int} (h : P23 p) : 0 < p := by rcases h with h | h <;> omega
theorem P23.one {p : Int} (h : P23 p) : 1 < p := by rcases h with h | h <;> omega
theorem gt_zero (n i : Nat) : gt (zerow n) i = 0 := by
  unfold gt zerow
  rw [List.getD_eq_getElem?_getD, List.getElem?_replicate]
  split <;> rfl
theorem gt_out {w : W} {i : Nat} (h : w.length ≤ i) : gt w i = 0 := by
  unfold gt
  rw [List.getD_eq_getElem?_getD, List.getElem?_eq_none h]; rfl
theorem gt_in {w : W} {i : Nat} (h : i < w.length) : gt w i = w[i] := by
  unfold gt
  rw [List.getD_eq_getElem?_getD, List.getElem?_eq_getElem h]; rfl
theorem isW.gt {p : Int} {n : Nat} {w : W} (h : isW p n w) (hp : 0 < p) (i : Nat) : 0 ≤ CM.gt w i ∧ CM.gt w i < p := by
  by_cases hi : i < w.length
  · rw [gt_in hi]; exact h.2 _ (List.getElem_mem hi)
  · rw [gt_out (by omega)]; omega
theorem isW_zero {p : Int} {n : Nat} (hp : 0 < p) : isW p n (zerow n) := ⟨List.length_replicate, fun x hx => by
  rw [(List.mem_replicate.mp hx).2]; omega⟩
theorem len_addw {p : Int} {n : Nat} {a b : W} {t : Int} (ha : a.length = n) (hb : b.length = n) : (addw p a b t).length = n := by
  unfold addw
  rw [List.length_map, List.length_zip, ha, hb, Nat.min_self]
theorem isW_addw {p : Int} {n : Nat} {a b : W} {t : Int} (hp : 0 < p) (ha : a.length = n) (hb : b.length = n) : isW p n (addw p a b t) := by
  refine ⟨len_addw ha hb, fun x hx => ?_⟩
  unfold addw at hx
  obtain ⟨q, _, rfl⟩ := List.mem_map.mp hx
  exact ⟨Int.emod_nonneg _ (by omega), Int.emod_lt_of_pos _ hp⟩
theorem gt_addw {p : Int} {n : Nat} {a b : W} {t : Int} (ha : a.length = n) (hb : b.length = n) (i : Nat) : gt (addw p a b t) i = (gt a i + t * gt b i) % p := by
  by_cases hi : i < n
  · have h1 : i < (addw p a b t).length := by rw [len_addw ha hb]; exact hi
    rw [gt_in h1, gt_in (by omega), gt_in (by omega)]
    simp [addw]
  · rw [gt_out (by rw [len_addw ha hb]; omega), gt_out (by omega), gt_out (by omega)]
    simp
theorem ext_gt {a b : W} (h : a.length = b.length) (e : ∀ i, gt a i = gt b i) : a = b := by
  refine List.ext_getElem h fun i h1 h2 => ?_
  have := e i
  rwa [gt_in h1, gt_in h2] at this
theorem isW.ext {p : Int} {n : Nat} {a b : W} (ha : isW p n a) (hb : isW p n b) (e : ∀ i, CM.gt a i = CM.gt b i) : a = b := ext_gt (by rw [ha.1, hb.1]) e
/-- sums of sums -/
theorem addw_zero {p : Int} {n : Nat} {a : W} {t : Int} (hp : 0 < p) (ha : isW p n a) : addw p a (zerow n) t = a := by
  refine (isW_addw hp ha.1 (isW_zero hp).1).ext ha fun i => ?_
  rw [gt_addw ha.1 (isW_zero hp).1, gt_zero, Int.mul_zero, Int.add_zero]
  exact Int.emod_eq_of_lt (ha.gt hp i).1 (ha.gt hp i).2
theorem addw_none {p : Int} {n : Nat} {a b : W} {t : Int} (hp : 0 < p) (ha : isW p n a) (hb : b.length = n) (ht : t % p = 0) : addw p a b t = a := by
  refine (isW_addw hp ha.1 hb).ext ha fun i => ?_
  rw [gt_addw ha.1 hb, Int.add_emod, Int.mul_emod, ht, Int.zero_mul, Int.zero_emod, Int.add_zero, Int.emod_emod]
  exact Int.emod_eq_of_lt (ha.gt hp i).1 (ha.gt hp i).2
theorem addw_add {p : Int} {n : Nat} {a b : W} {s t : Int} (hp : 0 < p) (ha : a.length = n) (hb : b.length = n) : addw p (addw p a b s) b t = addw p a b (s + t) := by
  have l1 := len_addw (p := p) (t := s) ha hb
  refine ext_gt (by rw [len_addw l1 hb, len_addw ha hb]) fun i => ?_
  rw [gt_addw l1 hb, gt_addw ha hb, gt_addw ha hb, Int.emod_add_emod, Int.add_mul, Int.add_assoc]
theorem addw_mod {p : Int} {n : Nat} {a b : W} {t : Int} (ha : a.length = n) (hb : b.length = n) : addw p a b (t % p) = addw p a b t := by
  refine ext_gt (by rw [len_addw ha hb, len_addw ha hb]) fun i => ?_
  rw [gt_addw ha hb, gt_addw ha hb, ← Int.add_emod_emod, ← Int.add_emod_emod (m := gt a i) (n := t * gt b i), Int.mul_emod, Int.emod_emod, ← Int.mul_emod]
theorem addw_comm {p : Int} {n : Nat} {a b c : W} {s t : Int} (ha : a.length = n) (hb : b.length = n) (hc : c.length = n) : addw p (addw p a b s) c t = addw p (addw p a c t) b s := by
  have l1 := len_addw (p := p) (t := s) ha hb
  have l2 := len_addw (p := p) (t := t) ha hc
  refine ext_gt (by rw [len_addw l1 hc, len_addw l2 hb]) fun i => ?_
  rw [gt_addw l1 hc, gt_addw ha hb, gt_addw l2 hb, gt_addw ha hc, Int.emod_add_emod, Int.emod_add_emod]
  congr 1
  omega
theorem addw_in {p : Int} {n : Nat} {a b c : W} {s t : Int} (ha : a.length = n) (hb : b.length = n) (hc : c.length = n) : addw p a (addw p b c s) t = addw p (addw p a b t) c (t * s) := by
  have l1 := len_addw (p := p) (t := s) hb hc
  have l2 := len_addw (p := p) (t := t) ha hb
  refine ext_gt (by rw [len_addw ha l1, len_addw l2 hc]) fun i => ?_
  rw [gt_addw ha l1, gt_addw hb hc, gt_addw l2 hc, gt_addw ha hb, Int.emod_add_emod, ← Int.add_emod_emod, Int.mul_emod, Int.emod_emod, ← Int.mul_emod, Int.add_emod_emod, Int.mul_add, Int.mul_assoc, Int.add_assoc]
/-! ### subspaces -/
structure Sub (p : Int) (n : Nat) (S : W → Prop) : Prop where
  w : ∀ {a}, S a → isW p n a
  zero : S (zerow n)
  lin : ∀ {a b} (t : Int), S a → S b → S (addw p a b t)
inductive Span (p : Int) (n : Nat) (rows : List W) : W → Prop
  | zero : Span p n rows (zerow n)
  | add {a r : W} (t : Int) : Span p n rows a → r ∈ rows → Span p n rows (addw p a r t)
section
variable {p : Int} {n : Nat} {rows rows' : List W}
def Rows (p : Int) (n : Nat) (rows : List W) : Prop := ∀ r ∈ rows, isW p n r
theorem Span.w (hp : 0 < p) (h : Rows p n rows) {a : W} (s : Span p n rows a) : isW p n a := by
  induction s with
  | zero => exact isW_zero hp
  | add t _ hr ih => exact isW_addw hp ih.1 (h _ hr).1
theorem Span.lin (hp : 0 < p) (h : Rows p n rows) {a b : W} (t : Int) (sa : Span p n rows a) (sb : Span p n rows b) : Span p n rows (addw p a b t) := by
  induction sb with
  | zero => rw [addw_zero hp (sa.w hp h)]; exact sa
  | add s sb hr ih =>
    rw [addw_in (sa.w hp h).1 (sb.w hp h).1 (h _ hr).1]
    exact .add _ ih hr
theorem Span.sub (hp : 0 < p) (h : Rows p n rows) : Sub p n (Span p n rows) := ⟨fun s => s.w hp h, .zero, fun t a b => Span.lin hp h t a b⟩
theorem addw_self (hp : 0 < p) {r : W} (h : isW p n r) : addw p (zerow n) r 1 = r := by
  refine (isW_addw hp (isW_zero hp).1 h.1).ext h fun i => ?_
  rw [gt_addw (isW_zero hp).1 h.1, gt_zero, Int.zero_add, Int.one_mul]
  exact Int.emod_eq_of_lt (h.gt hp i).1 (h.gt hp i).2
theorem Span.mem (hp : 0 < p) (h : Rows p n rows) {r : W} (hr : r ∈ rows) : Span p n rows r := by
  have := Span.add 1 (Span.zero (p := p) (n := n)) hr
  rwa [addw_self hp (h r hr)] at this
/-- the least one -/
theorem Sub.span {S : W → Prop} (s : Sub p n S) (h : ∀ r ∈ rows, S r) {a : W} (x : Span p n rows a) : S a := by
  induction x with
  | zero => exact s.zero
  | add t _ hr ih => exact s.lin t ih (h _ hr)
/-- one that holds the same rows -/
def Gen (p : Int) (n : Nat) (rows rows' : List W) : Prop := ∀ S : W → Prop, Sub p n S → ((∀ r ∈ rows, S r) ↔ ∀ r ∈ rows', S r)
theorem Gen.span (hp : 0 < p) (h : Rows p n rows) (h' : Rows p n rows') (g : Gen p n rows rows') (a : W) : Span p n rows a ↔ Span p n rows' a :=
  ⟨(Span.sub hp h').span fun r hr => ((g _ (Span.sub hp h')).mpr fun r hr => .mem hp h' hr) r hr, (Span.sub hp h).span fun r hr => ((g _ (Span.sub hp h)).mp fun r hr => .mem hp h hr) r hr⟩
theorem Sub.back {S : W → Prop} (s : Sub p n S) (hp : 0 < p) {a b : W} {t : Int} (ha : isW p n a) (hb : S b) (h : S (addw p a b t)) : S a := by
  have q := s.lin (-t) h hb
  rw [addw_add hp ha.1 (s.w hb).1] at q
  rwa [addw_none hp ha (s.w hb).1 (by rw [show t + -t = 0 by omega]; exact Int.zero_emod p)] at q
end
/-! ### leads -/
def lead : W → Option Nat
  | [] => none
  | x :: l => if x ≠ 0 then some 0 else (lead l).map (· + 1)
theorem lead_some : ∀ {w : W} {i : Nat}, lead w = some i ↔ gt w i ≠ 0 ∧ ∀ j, j < i → gt w j = 0
  | [], i => by simp [lead, gt]
  | x :: l, 0 => by
    unfold lead
    by_cases h : x = 0
    · simp [h, gt]
    · simp [h, gt]
  | x :: l, i + 1 => by
    unfold lead
    by_cases h : x = 0
    · rw [if_neg (by simpa using h)]
      have ih := lead_some (w := l) (i := i)
      constructor
      · intro q
        have q' : lead l = some i := by
          cases z : lead l with
          | none => rw [z] at q; cases q
          | some k => rw [z] at q; simp at q; rw [q]
        obtain ⟨a, b⟩ := ih.mp q'
        refine ⟨by simpa [gt] using a, fun j hj => ?_⟩
        cases j with
        | zero => simpa [gt] using h
        | succ j => have := b j (by omega); simpa [gt] using this
      · rintro ⟨a, b⟩
        rw [ih.mpr ⟨by simpa [gt] using a, fun j hj => by have := b (j + 1) (by omega); simpa [gt] using this⟩]
        rfl
    · rw [if_pos h]
      constructor
      · intro q; cases q
      · rintro ⟨a, b⟩
        exact absurd (by simpa [gt] using b 0 (by omega)) h
theorem lead_none : ∀ {w : W}, lead w = none ↔ ∀ j, gt w j = 0
  | [] => by simp [lead, gt]
  | x :: l => by
    unfold lead
    by_cases h : x = 0
    · rw [if_neg (by simpa using h)]
      constructor
      · intro q j
        have q' : lead l = none := by
          cases z : lead l with
          | none => rfl
          | some k => rw [z] at q; cases q
        cases j with
        | zero => simpa [gt] using h
        | succ j => have := lead_none.mp q' j; simpa [gt] using this
      · intro q
        rw [lead_none.mpr fun j => by have := q (j + 1); simpa [gt] using this]
        rfl
    · rw [if_pos h]
      constructor
      · intro q; cases q
      · intro q; exact absurd (by simpa [gt] using q 0) h
theorem lead_lt {w : W} {i : Nat} (h : lead w = some i) : i < w.length := by
  apply Decidable.byContradiction
  intro q
  exact (lead_some.mp h).1 (gt_out (by omega))
theorem isW.zero_of {p : Int} {n : Nat} {w : W} (hp : 0 < p) (h : isW p n w) (e : lead w = none) : w = zerow n :=
  h.ext (isW_zero hp) fun i => by rw [lead_none.mp e, gt_zero]
/-! ### reduced rows, in any order -/
def Apart (a b : W) : Prop := (∀ i, lead a = some i → gt b i = 0) ∧ ∀ i, lead b = some i → gt a i = 0
structure Red (p : Int) (n : Nat) (B : List W) : Prop where
  w : Rows p n B
  l : ∀ b ∈ B, ∃ i, lead b = some i ∧ gt b i = 1
  z : B.Pairwise Apart
def wl1 (p : Int) (w b : W) : W := match lead b with
  | some i => if gt w i ≠ 0 then addw p w b (p - gt w i) else w
  | none => w
def wl (p : Int) (B : List W) (w : W) : W := B.foldl (wl1 p) w
section
variable {p : Int} {n : Nat}
theorem wl1_w (hp : 0 < p) {w b : W} (hw : isW p n w) (hb : isW p n b) : isW p n (wl1 p w b) := by
  unfold wl1
  split
  · split
    · exact isW_addw hp hw.1 hb.1
    · exact hw
  · exact hw
theorem wl1_S (hp : 0 < p) {w b : W} (hw : isW p n w) {S : W → Prop} (s : Sub p n S) (hb : S b) : S (wl1 p w b) ↔ S w := by
  unfold wl1
  split
  · split
    · exact ⟨s.back hp hw hb, fun h => s.lin _ h hb⟩
    · exact Iff.rfl
  · exact Iff.rfl
theorem wl_w (hp : 0 < p) : ∀ {B : List W} {w : W}, Rows p n B → isW p n w → isW p n (wl p B w)
  | [], _, _, hw => hw
  | b :: B, w, h, hw => wl_w hp (B := B) (fun r hr => h r (List.mem_cons_of_mem _ hr)) (wl1_w hp hw (h b List.mem_cons_self))
theorem wl_S (hp : 0 < p) {S : W → Prop} (s : Sub p n S) : ∀ {B : List W} {w : W}, isW p n w → (∀ b ∈ B, S b) → (S (wl p B w) ↔ S w)
  | [], _, _, _ => Iff.rfl
  | b :: B, w, hw, h => by
    have hb := h b List.mem_cons_self
    show S (wl p B (wl1 p w b)) ↔ _
    rw [wl_S hp s (B := B) (wl1_w hp hw (s.w hb)) (fun r hr => h r (List.mem_cons_of_mem _ hr)), wl1_S hp hw s hb]
/-- a place at which b is 0 stays -/
theorem wl1_keep (hp : 0 < p) {w b : W} (hw : isW p n w) (hb : isW p n b) {j : Nat} (h : gt b j = 0) : gt (wl1 p w b) j = gt w j := by
  unfold wl1
  split
  · split
    · rw [gt_addw hw.1 hb.1, h, Int.mul_zero, Int.add_zero]
      exact Int.emod_eq_of_lt (hw.gt hp j).1 (hw.gt hp j).2
    · rfl
  · rfl
theorem wl1_lead (hp : 0 < p) {w b : W} (hw : isW p n w) (hb : isW p n b) {i : Nat} (h : lead b = some i) (h1 : gt b i = 1) : gt (wl1 p w b) i = 0 := by
  unfold wl1
  simp only [h]
  split
  · rw [gt_addw hw.1 hb.1, h1, Int.mul_one, show gt w i + (p - gt w i) = p by omega]
    exact Int.emod_self
  · rename_i q
    exact Decidable.not_not.mp q
theorem wl_keep (hp : 0 < p) {j : Nat} : ∀ {B : List W} {w : W}, Rows p n B → isW p n w → (∀ b ∈ B, gt b j = 0) → gt (wl p B w) j = gt w j
  | [], _, _, _, _ => rfl
  | b :: B, w, h, hw, hz => by
    show gt (wl p B (wl1 p w b)) j = _
    rw [wl_keep hp (B := B) (fun r hr => h r (List.mem_cons_of_mem _ hr)) (wl1_w hp hw (h b List.mem_cons_self)) (fun r hr => hz r (List.mem_cons_of_mem _ hr)), wl1_keep hp hw (h b List.mem_cons_self) (hz b List.mem_cons_self)]
theorem Red.tail {b : W} {B : List W} (r : Red p n (b :: B)) : Red p n B := ⟨fun x hx => r.w x (List.mem_cons_of_mem _ hx), fun x hx => r.l x (List.mem_cons_of_mem _ hx), (List.pairwise_cons.mp r.z).2⟩
theorem wl_zero (hp : 0 < p) : ∀ {B : List W} {w : W}, Red p n B → isW p n w → ∀ b ∈ B, ∀ i, lead b = some i → gt (wl p B w) i = 0
  | [], _, _, _, b, hb, _, _ => by cases hb
  | b :: B, w, r, hw, b', hb', i, hi => by
    have w1 := wl1_w hp hw (r.w b List.mem_cons_self)
    rcases List.mem_cons.mp hb' with e | e
    · subst e
      show gt (wl p B (wl1 p w b')) i = 0
      obtain ⟨k, h1, h2⟩ := r.l b' List.mem_cons_self
      rw [hi] at h1
      cases h1
      rw [wl_keep hp r.tail.w w1 fun c hc => ((List.pairwise_cons.mp r.z).1 c hc).1 i hi]
      exact wl1_lead hp hw (r.w b' List.mem_cons_self) hi h2
    · exact wl_zero hp r.tail w1 b' e i hi
/-! ### one more row -/
def mulw (p : Int) (w : W) (t : Int) : W := w.map fun x => x * t % p
theorem mulw_eq {w : W} {t : Int} (h : w.length = n) : mulw p w t = addw p (zerow n) w t := by
  refine ext_gt (by rw [len_addw (by exact List.length_replicate) h]; simpa [mulw] using h) fun i => ?_
  rw [gt_addw (by exact List.length_replicate) h, gt_zero, Int.zero_add]
  by_cases hi : i < n
  · rw [gt_in (by simpa [mulw, h] using hi), gt_in (by omega)]
    simp [mulw, Int.mul_comm]
  · rw [gt_out (by simpa [mulw, h] using hi), gt_out (by omega)]
    simp
def step1 (p : Int) (B : List W) (w : W) : List W :=
  let w1 := wl p B w
  match lead w1 with
  | none => B
  | some i => let w2 := mulw p w1 (gt w1 i); B.map (fun b => addw p b w2 (p - gt b i)) ++ [w2]
theorem sq1 (hp : P23 p) {x : Int} (h0 : 0 ≤ x) (h1 : x < p) (hx : x ≠ 0) : x * x % p = 1 := by
  rcases hp with rfl | rfl
  · have : x = 1 := by omega
    subst this; rfl
  · have : x = 1 ∨ x = 2 := by omega
    rcases this with rfl | rfl <;> rfl
theorem step1_red (hp : P23 p) {B : List W} {w : W} (r : Red p n B) (hw : isW p n w) : Red p n (step1 p B w) := by
  have p0 := hp.pos
  have w1 := wl_w p0 r.w hw
  unfold step1
  simp only
  split
  · exact r
  · rename_i i hi
    have z1 := wl_zero p0 r hw
    have k1 := wl_w p0 r.w hw
    obtain ⟨n0, bf⟩ := lead_some.mp hi
    have c1 := w1.gt p0 i
    have hz : (zerow n).length = n := List.length_replicate
    have e2 := mulw_eq (p := p) (t := gt (wl p B w) i) w1.1
    generalize hw1 : wl p B w = v at *
    have w2 : isW p n (mulw p v (gt v i)) := by rw [e2]; exact isW_addw p0 hz w1.1
    have g2 : ∀ j, gt (mulw p v (gt v i)) j = (gt v i * gt v j) % p := fun j => by rw [e2, gt_addw hz w1.1, gt_zero, Int.zero_add]
    have l2 : lead (mulw p v (gt v i)) = some i := lead_some.mpr ⟨by rw [g2, sq1 hp c1.1 c1.2 n0]; decide, fun j hj => by rw [g2, bf j hj]; simp⟩
    have l1 : gt (mulw p v (gt v i)) i = 1 := by rw [g2, sq1 hp c1.1 c1.2 n0]
    generalize mulw p v (gt v i) = u at *
    have zu : ∀ b ∈ B, ∀ k, lead b = some k → gt u k = 0 := fun b hb k hk => by rw [g2, z1 b hb k hk]; simp
    have gb : ∀ b ∈ B, ∀ j, gt (addw p b u (p - gt b i)) j = (gt b j + (p - gt b i) * gt u j) % p := fun b hb j => gt_addw (r.w b hb).1 w2.1 j
    have keep : ∀ b ∈ B, ∀ j, gt u j = 0 → gt (addw p b u (p - gt b i)) j = gt b j := fun b hb j hj => by
      rw [gb b hb, hj, Int.mul_zero, Int.add_zero]
      exact Int.emod_eq_of_lt ((r.w b hb).gt p0 j).1 ((r.w b hb).gt p0 j).2
    have zi : ∀ b ∈ B, gt (addw p b u (p - gt b i)) i = 0 := fun b hb => by
      rw [gb b hb, l1, Int.mul_one, show gt b i + (p - gt b i) = p by omega]
      exact Int.emod_self
    have ld : ∀ b ∈ B, lead (addw p b u (p - gt b i)) = lead b := fun b hb => by
      obtain ⟨k, hk, hk1⟩ := r.l b hb
      rw [hk]
      obtain ⟨q1, q2⟩ := lead_some.mp hk
      refine lead_some.mpr ⟨by rw [keep b hb k (zu b hb k hk)]; exact q1, fun j hj => ?_⟩
      by_cases hji : j < i
      · rw [keep b hb j ((lead_some.mp l2).2 j hji)]; exact q2 j hj
      · by_cases e : j = i
        · rw [e]; exact zi b hb
        · have bi : gt b i = 0 := q2 i (by omega)
          rw [gb b hb, bi, q2 j hj, Int.zero_add, Int.sub_zero, Int.mul_emod_right]
    refine ⟨fun b hb => ?_, fun b hb => ?_, ?_⟩
    · rcases List.mem_append.mp hb with h | h
      · obtain ⟨c, hc, rfl⟩ := List.mem_map.mp h
        exact isW_addw p0 (r.w c hc).1 w2.1
      · rw [List.mem_singleton.mp h]; exact w2
    · rcases List.mem_append.mp hb with h | h
      · obtain ⟨c, hc, rfl⟩ := List.mem_map.mp h
        obtain ⟨k, hk, hk1⟩ := r.l c hc
        exact ⟨k, by rw [ld c hc]; exact hk, by rw [keep c hc k (zu c hc k hk)]; exact hk1⟩
      · rw [List.mem_singleton.mp h]; exact ⟨i, l2, l1⟩
    · refine List.pairwise_append.mpr ⟨?_, List.pairwise_singleton _ _, fun a ha b hb => ?_⟩
      · refine List.pairwise_map.mpr ((List.pairwise_iff_forall_sublist.mpr fun {a b} hs => ?_))
        have hab := List.pairwise_iff_forall_sublist.mp r.z hs
        have ha : a ∈ B := hs.subset (by simp)
        have hb : b ∈ B := hs.subset (by simp)
        refine ⟨fun k hk => ?_, fun k hk => ?_⟩
        · rw [ld a ha] at hk
          rw [keep b hb k (zu a ha k hk)]; exact hab.1 k hk
        · rw [ld b hb] at hk
          rw [keep a ha k (zu b hb k hk)]; exact hab.2 k hk
      · obtain ⟨c, hc, rfl⟩ := List.mem_map.mp ha
        rw [List.mem_singleton.mp hb]
        refine ⟨fun k hk => ?_, fun k hk => ?_⟩
        · rw [ld c hc] at hk
          exact zu c hc k hk
        · rw [l2] at hk
          cases hk
          exact zi c hc
theorem step1_gen (hp : P23 p) {B done : List W} {w : W} (r : Red p n B) (hw : isW p n w) (g : Gen p n B done) : Gen p n (step1 p B w) (done ++ [w]) := by
  have p0 := hp.pos
  have w1 := wl_w p0 r.w hw
  intro S s
  have key : (∀ b ∈ B, S b) → (S (wl p B w) ↔ S w) := wl_S p0 s hw
  have ap : (∀ r ∈ done ++ [w], S r) ↔ (∀ b ∈ B, S b) ∧ S w := by
    rw [g S s]
    constructor
    · intro h; exact ⟨fun r hr => h r (List.mem_append_left _ hr), h w (by simp)⟩
    · rintro ⟨h1, h2⟩ r hr
      rcases List.mem_append.mp hr with q | q
      · exact h1 r q
      · rw [List.mem_singleton.mp q]; exact h2
  rw [ap]
  unfold step1
  simp only
  split
  · rename_i hn
    rw [w1.zero_of p0 hn] at key
    exact ⟨fun h => ⟨h, (key h).mp s.zero⟩, fun h => h.1⟩
  · rename_i i hi
    have hz : (zerow n).length = n := List.length_replicate
    have c1 := w1.gt p0 i
    have n0 := (lead_some.mp hi).1
    have e2 := mulw_eq (p := p) (t := gt (wl p B w) i) w1.1
    have w2 : isW p n (mulw p (wl p B w) (gt (wl p B w) i)) := by rw [e2]; exact isW_addw p0 hz w1.1
    have e3 : addw p (zerow n) (mulw p (wl p B w) (gt (wl p B w) i)) (gt (wl p B w) i) = wl p B w := by
      refine (isW_addw p0 hz w2.1).ext w1 fun j => ?_
      rw [gt_addw hz w2.1, gt_zero, Int.zero_add, e2, gt_addw hz w1.1, gt_zero, Int.zero_add, Int.mul_emod, Int.emod_emod, ← Int.mul_emod, ← Int.mul_assoc, Int.mul_emod, sq1 hp c1.1 c1.2 n0, Int.one_mul, Int.emod_emod]
      exact Int.emod_eq_of_lt (w1.gt p0 j).1 (w1.gt p0 j).2
    have sw : S (mulw p (wl p B w) (gt (wl p B w) i)) ↔ S (wl p B w) := ⟨fun h => by rw [← e3]; exact s.lin _ s.zero h, fun h => by rw [e2]; exact s.lin _ s.zero h⟩
    generalize mulw p (wl p B w) (gt (wl p B w) i) = u at *
    constructor
    · intro h
      have hu : S u := h u (by simp)
      have hB : ∀ b ∈ B, S b := fun b hb => s.back p0 (r.w b hb) hu (h _ (List.mem_append_left _ (List.mem_map.mpr ⟨b, hb, rfl⟩)))
      exact ⟨hB, (key hB).mp (sw.mp hu)⟩
    · rintro ⟨hB, h2⟩ b hb
      have hu : S u := sw.mpr ((key hB).mpr h2)
      rcases List.mem_append.mp hb with q | q
      · obtain ⟨c, hc, rfl⟩ := List.mem_map.mp q
        exact s.lin _ (hB c hc) hu
      · rw [List.mem_singleton.mp q]; exact hu
def steps (p : Int) (rows : List W) : List W := rows.foldl (step1 p) []
theorem steps_ok (hp : P23 p) {rows : List W} (h : Rows p n rows) : Red p n (steps p rows) ∧ Gen p n (steps p rows) rows := by
  have key : ∀ (todo done B : List W), Rows p n todo → Red p n B → Gen p n B done → Red p n (todo.foldl (step1 p) B) ∧ Gen p n (todo.foldl (step1 p) B) (done ++ todo) := by
    intro todo
    induction todo with
    | nil => intro done B _ r g; rw [List.append_nil]; exact ⟨r, g⟩
    | cons w todo ih =>
      intro done B h r g
      have hw := h w List.mem_cons_self
      have := ih (done ++ [w]) (step1 p B w) (fun x hx => h x (List.mem_cons_of_mem _ hx)) (step1_red hp r hw) (step1_gen hp r hw g)
      rwa [List.append_assoc] at this
  exact key rows [] [] h ⟨(fun r hr => by cases hr), (fun b hb => by cases hb), .nil⟩ fun S s => Iff.rfl
end
end CM
end

section
/-! Words: sorted rows, reduced bases in order, all words of a space. -/
namespace CM
/-! ### sorting -/
def leW (a b : W) : Bool := decide (a ≤ b)
def srt (l : List W) : List W := l.mergeSort leW
theorem leW_trans (a b c : W) (h1 : leW a b = true) (h2 : leW b c = true) : leW a c = true := decide_eq_true (List.le_trans (of_decide_eq_true h1) (of_decide_eq_true h2))
theorem leW_total (a b : W) : (leW a b || leW b a) = true := by
  rcases List.le_total a b with h | h
  · rw [leW, decide_eq_true h]; rfl
  · rw [Bool.or_eq_true]; exact .inr (decide_eq_true h)
theorem srt_perm (l : List W) : (srt l).Perm l := List.mergeSort_perm l _
theorem srt_sorted (l : List W) : (srt l).Pairwise (· ≤ ·) := (List.pairwise_mergeSort leW_trans leW_total l).imp fun h => of_decide_eq_true h
theorem srt_eq {l m : List W} (h : l.Perm m) : srt l = srt m :=
  List.Perm.eq_of_pairwise (le := (· ≤ ·)) (fun a b _ _ h1 h2 => List.le_antisymm h1 h2) (srt_sorted l) (srt_sorted m) ((srt_perm l).trans (h.trans (srt_perm m).symm))
theorem srt_mem {l : List W} {a : W} : a ∈ srt l ↔ a ∈ l := (srt_perm l).mem_iff
theorem srt_ext {l m : List W} (hl : l.Nodup) (hm : m.Nodup) (h : ∀ a, a ∈ l ↔ a ∈ m) : srt l = srt m := srt_eq ((List.perm_ext_iff_of_nodup hl hm).mpr h)
/-! ### pairs of a lead and a word -/
def leadN (w : W) : Nat := (lead w).getD 0
def leP (a b : Nat × W) : Bool := decide (a.1 < b.1 ∨ (a.1 = b.1 ∧ a.2 ≤ b.2))
theorem leP_trans (a b c : Nat × W) (h1 : leP a b = true) (h2 : leP b c = true) : leP a c = true := by
  have h1 := of_decide_eq_true h1
  have h2 := of_decide_eq_true h2
  refine decide_eq_true ?_
  rcases h1 with h1 | ⟨e1, h1⟩ <;> rcases h2 with h2 | ⟨e2, h2⟩
  · exact .inl (by omega)
  · exact .inl (by omega)
  · exact .inl (by omega)
  · exact .inr ⟨by omega, List.le_trans h1 h2⟩
theorem leP_total (a b : Nat × W) : (leP a b || leP b a) = true := by
  rw [Bool.or_eq_true]
  unfold leP
  rw [decide_eq_true_eq, decide_eq_true_eq]
  rcases Nat.lt_trichotomy a.1 b.1 with h | h | h
  · exact .inl (.inl h)
  · rcases List.le_total a.2 b.2 with q | q
    · exact .inl (.inr ⟨h, q⟩)
    · exact .inr (.inr ⟨h.symm, q⟩)
  · exact .inr (.inl h)
def byLead (B : List W) : List W := ((B.map fun b => (leadN b, b)).mergeSort leP).map (·.2)
structure Rref (p : Int) (n : Nat) (B : List W) : Prop where
  red : Red p n B
  up : B.Pairwise fun a b => leadN a < leadN b
section
variable {p : Int} {n : Nat}
theorem pw_mem {α : Type} {R : α → α → Prop} (sy : ∀ {x y}, R x y → R y x) : ∀ {l : List α}, l.Pairwise R → ∀ {a b}, a ∈ l → b ∈ l → a ≠ b → R a b
  | [], _, a, b, ha, _, _ => by cases ha
  | x :: l, h, a, b, ha, hb, n => by
    obtain ⟨h1, h2⟩ := List.pairwise_cons.mp h
    rcases List.mem_cons.mp ha with e | e <;> rcases List.mem_cons.mp hb with e' | e'
    · exact absurd (e.trans e'.symm) n
    · rw [e]; exact h1 b e'
    · rw [e']; exact sy (h1 a e)
    · exact pw_mem sy h2 e e' n
theorem byLead_perm (B : List W) : (byLead B).Perm B := by
  have h := (List.mergeSort_perm (B.map fun b => (leadN b, b)) leP).map (·.2)
  rw [List.map_map] at h
  have e : B.map ((fun q : Nat × W => q.2) ∘ fun b => (leadN b, b)) = B := by
    rw [show ((fun q : Nat × W => q.2) ∘ fun b => (leadN b, b)) = id from rfl, List.map_id]
  rw [e] at h
  exact h
theorem Apart.symm {a b : W} (h : Apart a b) : Apart b a := ⟨h.2, h.1⟩
theorem Red.perm {B C : List W} (h : B.Perm C) (r : Red p n B) : Red p n C :=
  ⟨fun b hb => r.w b (h.mem_iff.mpr hb), fun b hb => r.l b (h.mem_iff.mpr hb), (h.pairwise_iff Apart.symm).mp r.z⟩
theorem Red.leadN {B : List W} (r : Red p n B) {b : W} (hb : b ∈ B) : lead b = some (leadN b) ∧ gt b (CM.leadN b) = 1 := by
  obtain ⟨i, h1, h2⟩ := r.l b hb
  unfold CM.leadN
  rw [h1]
  exact ⟨rfl, h2⟩
theorem Red.apart {B : List W} (r : Red p n B) : B.Pairwise fun a b => CM.leadN a ≠ CM.leadN b := by
  refine List.pairwise_iff_forall_sublist.mpr fun {a b} hs => ?_
  have hab := List.pairwise_iff_forall_sublist.mp r.z hs
  have ha : a ∈ B := hs.subset (by simp)
  have hb : b ∈ B := hs.subset (by simp)
  intro e
  have h1 := hab.1 _ (r.leadN ha).1
  rw [e, (r.leadN hb).2] at h1
  exact absurd h1 (by decide)
theorem byLead_rref {B : List W} (r : Red p n B) : Rref p n (byLead B) := by
  have r2 := r.perm (byLead_perm B).symm
  refine ⟨r2, ?_⟩
  have h1 : ((B.map fun b => (leadN b, b)).mergeSort leP).Pairwise fun a b => leP a b = true := List.pairwise_mergeSort leP_trans leP_total _
  have h2 : ((B.map fun b => (leadN b, b)).mergeSort leP).Pairwise fun a b => leP a b = true ∧ a.1 = leadN a.2 ∧ b.1 = leadN b.2 := by
    refine h1.imp_of_mem fun {a b} ha hb q => ?_
    have ha := (List.mergeSort_perm _ _).mem_iff.mp ha
    have hb := (List.mergeSort_perm _ _).mem_iff.mp hb
    obtain ⟨x, _, rfl⟩ := List.mem_map.mp ha
    obtain ⟨y, _, rfl⟩ := List.mem_map.mp hb
    exact ⟨q, rfl, rfl⟩
  have h3 : (byLead B).Pairwise fun a b => leadN a ≤ leadN b := by
    refine List.pairwise_map.mpr (h2.imp fun {a b} ⟨q, e1, e2⟩ => ?_)
    have q := of_decide_eq_true q
    omega
  exact (h3.and r2.apart).imp fun {a b} ⟨x, y⟩ => by omega
/-! ### spans, row by row -/
theorem Span.congr {rows rows' : List W} (h : ∀ r, r ∈ rows → r ∈ rows') {v : W} (s : Span p n rows v) : Span p n rows' v := by
  induction s with
  | zero => exact .zero
  | add t _ hr ih => exact .add t ih (h _ hr)
theorem Span.vanish {rows : List W} (hp : 0 < p) (hw : Rows p n rows) {i : Nat} (h : ∀ r ∈ rows, gt r i = 0) {v : W} (s : Span p n rows v) : gt v i = 0 := by
  induction s with
  | zero => exact gt_zero n i
  | @add a r t sa hr ih => rw [gt_addw (sa.w hp hw).1 (hw r hr).1, ih, h r hr, Int.mul_zero, Int.add_zero, Int.zero_emod]
theorem span_cons (hp : 0 < p) {b : W} {rows : List W} (hb : isW p n b) (hw : Rows p n rows) {v : W} : Span p n (b :: rows) v ↔ ∃ t : Nat, t < p.toNat ∧ ∃ w, Span p n rows w ∧ v = addw p w b t := by
  constructor
  · intro s
    induction s with
    | zero => exact ⟨0, by omega, zerow n, .zero, (addw_none hp (isW_zero hp) hb.1 (Int.zero_emod p)).symm⟩
    | @add a r t sa hr ih =>
      obtain ⟨s, hs, w, hw', rfl⟩ := ih
      have ww := hw'.w hp hw
      rcases List.mem_cons.mp hr with e | e
      · subst e
        refine ⟨(((s : Int) + t) % p).toNat, ?_, w, hw', ?_⟩
        · have h0 := Int.emod_nonneg ((s : Int) + t) (show p ≠ 0 by omega)
          have h1 := Int.emod_lt_of_pos ((s : Int) + t) hp
          omega
        · rw [addw_add hp ww.1 hb.1, Int.toNat_of_nonneg (Int.emod_nonneg _ (by omega)), addw_mod ww.1 hb.1]
      · exact ⟨s, hs, addw p w r t, .add t hw' e, addw_comm ww.1 hb.1 (hw r e).1⟩
  · rintro ⟨t, _, w, sw, rfl⟩
    exact .add _ (sw.congr fun r hr => List.mem_cons_of_mem _ hr) List.mem_cons_self
theorem span_snoc (hp : 0 < p) {b : W} {rows : List W} (hb : isW p n b) (hw : Rows p n rows) {v : W} : Span p n (rows ++ [b]) v ↔ ∃ t : Nat, t < p.toNat ∧ ∃ w, Span p n rows w ∧ v = addw p w b t := by
  rw [← span_cons hp hb hw]
  exact ⟨Span.congr fun r hr => by simpa [or_comm] using hr, Span.congr fun r hr => by simpa [or_comm] using hr⟩
/-! ### words that are 0 at all leads -/
theorem Span.zeroes (hp : P23 p) : ∀ {B : List W}, Red p n B → ∀ {v : W}, Span p n B v → (∀ b ∈ B, gt v (CM.leadN b) = 0) → v = zerow n
  | [], _, v, s, _ => by
    cases s with
    | zero => rfl
    | add t _ hr => cases hr
  | b :: B, r, v, s, hz => by
    have p0 := hp.pos
    have wb := r.w b List.mem_cons_self
    obtain ⟨t, ht, w, sw, rfl⟩ := (span_cons p0 wb r.tail.w).mp s
    have ww := sw.w p0 r.tail.w
    have hl := r.leadN (b := b) List.mem_cons_self
    have z1 : gt w (CM.leadN b) = 0 := sw.vanish p0 r.tail.w fun c hc => ((List.pairwise_cons.mp r.z).1 c hc).1 _ hl.1
    have h1 := hz b List.mem_cons_self
    rw [gt_addw ww.1 wb.1, z1, hl.2, Int.mul_one, Int.zero_add] at h1
    have e := addw_none p0 ww wb.1 h1
    rw [e] at hz ⊢
    exact Span.zeroes hp r.tail sw fun c hc => hz c (List.mem_cons_of_mem _ hc)
theorem Span.one (hp : P23 p) {B : List W} (r : Red p n B) {v u : W} (s : Span p n B v) (s' : Span p n B u) (h : ∀ b ∈ B, gt v (CM.leadN b) = gt u (CM.leadN b)) : v = u := by
  have p0 := hp.pos
  have wv := s.w p0 r.w
  have wu := s'.w p0 r.w
  have z := Span.zeroes hp r (Span.lin p0 r.w (-1) s s') fun b hb => by
    rw [gt_addw wv.1 wu.1, h b hb, show gt u (CM.leadN b) + -1 * gt u (CM.leadN b) = 0 by omega, Int.zero_emod]
  have e : addw p (addw p v u (-1)) u 1 = v := by
    rw [addw_add p0 wv.1 wu.1]
    exact addw_none p0 wv wu.1 (Int.zero_emod p)
  rw [z, addw_self p0 wu] at e
  exact e.symm
theorem wl_low (hp : 0 < p) {i : Nat} : ∀ {B : List W} {w : W}, Red p n B → isW p n w → (∀ j, j < i → gt w j = 0) → (∀ b ∈ B, CM.leadN b ≠ i) → (∀ j, j ≤ i → gt (wl p B w) j = gt w j)
  | [], _, _, _, _, _ => fun _ _ => rfl
  | b :: B, w, r, hw, hz, hn => fun j hj => by
    have hb := r.w b List.mem_cons_self
    obtain ⟨l1, l2⟩ := r.leadN (b := b) List.mem_cons_self
    have bn := hn b List.mem_cons_self
    have e : ∀ j, j ≤ i → gt (wl1 p w b) j = gt w j := fun j hj => by
      by_cases q : CM.leadN b < i
      · have : wl1 p w b = w := by
          unfold wl1
          simp only [l1]
          rw [if_neg (by rw [hz _ q]; decide)]
        rw [this]
      · exact wl1_keep hp hw hb ((lead_some.mp l1).2 j (by omega))
    show gt (wl p B (wl1 p w b)) j = _
    rw [wl_low hp r.tail (wl1_w hp hw hb) (fun k hk => by rw [e k (by omega)]; exact hz k hk) (fun c hc => hn c (List.mem_cons_of_mem _ hc)) j hj, e j hj]
theorem Span.lead_mem (hp : P23 p) {B : List W} (r : Red p n B) {v : W} (s : Span p n B v) {i : Nat} (h : lead v = some i) : ∃ b ∈ B, CM.leadN b = i := by
  have p0 := hp.pos
  apply Classical.byContradiction
  intro q
  have q : ∀ b ∈ B, CM.leadN b ≠ i := fun b hb e => q ⟨b, hb, e⟩
  have wv := s.w p0 r.w
  obtain ⟨h1, h2⟩ := lead_some.mp h
  have e := wl_low p0 r wv h2 q i (Nat.le_refl _)
  have sw : Span p n B (wl p B v) := (wl_S p0 (Span.sub p0 r.w) wv fun b hb => .mem p0 r.w hb).mpr s
  have z := Span.zeroes hp r sw fun b hb => wl_zero p0 r wv b hb _ (r.leadN hb).1
  rw [z, gt_zero] at e
  exact h1 e.symm
/-! ### all words -/
def grow (p : Int) (F : List W) (b : W) : List W := (List.range p.toNat).flatMap fun t => F.map fun w => addw p w b (t : Nat)
def allW (p : Int) (n : Nat) (B : List W) : List W := B.foldl (grow p) [zerow n]
theorem mem_grow {F : List W} {b v : W} : v ∈ grow p F b ↔ ∃ t : Nat, t < p.toNat ∧ ∃ w, w ∈ F ∧ v = addw p w b t := by
  unfold grow
  rw [List.mem_flatMap]
  constructor
  · rintro ⟨t, ht, h⟩
    obtain ⟨w, hw, rfl⟩ := List.mem_map.mp h
    exact ⟨t, List.mem_range.mp ht, w, hw, rfl⟩
  · rintro ⟨t, ht, w, hw, rfl⟩
    exact ⟨t, List.mem_range.mpr ht, List.mem_map.mpr ⟨w, hw, rfl⟩⟩
theorem len_grow {F : List W} {b : W} : (grow p F b).length = p.toNat * F.length := by
  unfold grow
  rw [List.length_flatMap]
  have : (List.map (fun t : Nat => (F.map fun w => addw p w b (t : Nat)).length) (List.range p.toNat)) = List.replicate p.toNat F.length := by
    refine List.ext_getElem (by simp) fun i h1 h2 => ?_
    simp
  rw [this, List.sum_replicate_nat]
theorem nodup_grow (hp : 0 < p) {F : List W} {b : W} {i : Nat} (hF : F.Nodup) (hw : Rows p n F) (hb : isW p n b) (h1 : gt b i = 1) (hz : ∀ w ∈ F, gt w i = 0) : (grow p F b).Nodup := by
  refine List.pairwise_flatMap.mpr ⟨fun t _ => List.pairwise_map.mpr ?_, ?_⟩
  · refine (List.Pairwise.imp_of_mem (fun {x y} hx hy q e => q ?_) hF)
    have e2 := congrArg (fun w => addw p w b (-(t : Int))) e
    rw [addw_add hp (hw x hx).1 hb.1, addw_add hp (hw y hy).1 hb.1, show (t : Int) + -(t : Int) = 0 by omega, addw_none hp (hw x hx) hb.1 (Int.zero_emod p), addw_none hp (hw y hy) hb.1 (Int.zero_emod p)] at e2
    exact e2
  · refine (List.Pairwise.imp_of_mem (fun {s t} hs ht q => ?_) List.nodup_range)
    intro x hx y hy e
    obtain ⟨a, ha, rfl⟩ := List.mem_map.mp hx
    obtain ⟨c, hc, rfl⟩ := List.mem_map.mp hy
    have e2 := congrArg (fun w => gt w i) e
    have hs := List.mem_range.mp hs
    have ht := List.mem_range.mp ht
    rw [gt_addw (hw a ha).1 hb.1, gt_addw (hw c hc).1 hb.1, hz a ha, hz c hc, h1, Int.mul_one, Int.mul_one, Int.zero_add, Int.zero_add, Int.emod_eq_of_lt (by omega) (by omega), Int.emod_eq_of_lt (by omega) (by omega)] at e2
    exact q (by omega)
theorem allW_ok (hp : P23 p) {B : List W} (r : Red p n B) : (∀ v, v ∈ allW p n B ↔ Span p n B v) ∧ (allW p n B).Nodup ∧ (allW p n B).length = p.toNat ^ B.length := by
  have p0 := hp.pos
  have key : ∀ (todo done F : List W), Red p n (done ++ todo) → (∀ v, v ∈ F ↔ Span p n done v) → F.Nodup → F.length = p.toNat ^ done.length →
      (∀ v, v ∈ todo.foldl (grow p) F ↔ Span p n (done ++ todo) v) ∧ (todo.foldl (grow p) F).Nodup ∧ (todo.foldl (grow p) F).length = p.toNat ^ (done ++ todo).length := by
    intro todo
    induction todo with
    | nil => intro done F _ h1 h2 h3; rw [List.append_nil]; exact ⟨h1, h2, h3⟩
    | cons b todo ih =>
      intro done F r h1 h2 h3
      have wb : isW p n b := r.w b (by simp)
      have wd : Rows p n done := fun c hc => r.w c (List.mem_append_left _ hc)
      have hl := r.leadN (b := b) (by simp)
      have vz : ∀ w ∈ F, gt w (CM.leadN b) = 0 := fun w hw => ((h1 w).mp hw).vanish p0 wd fun c hc => ((List.pairwise_append.mp r.z).2.2 c hc b List.mem_cons_self).2 _ hl.1
      have wF : Rows p n F := fun w hw => ((h1 w).mp hw).w p0 wd
      have := ih (done ++ [b]) (grow p F b) (by rw [List.append_assoc]; exact r) (fun v => by
        rw [mem_grow, span_snoc p0 wb wd]
        exact ⟨fun ⟨t, ht, w, hw, e⟩ => ⟨t, ht, w, (h1 w).mp hw, e⟩, fun ⟨t, ht, w, hw, e⟩ => ⟨t, ht, w, (h1 w).mpr hw, e⟩⟩) (nodup_grow p0 h2 wF wb hl.2 vz) (by
        rw [len_grow, h3, List.length_append, List.length_singleton, Nat.pow_succ, Nat.mul_comm])
      rwa [List.append_assoc] at this
  exact key B [] [zerow n] r (fun v => by
    rw [List.mem_singleton]
    constructor
    · rintro rfl; exact .zero
    · intro s
      cases s with
      | zero => rfl
      | add t _ hr => cases hr) (by simp) (by simp)
/-! ### the law's span -/
def put (G : List W) (k : W) : List W := if k ∈ G then G else G ++ [k]
def puts (G : List W) (l : List W) : List W := l.foldl put G
theorem mem_put {G : List W} {k v : W} : v ∈ put G k ↔ v ∈ G ∨ v = k := by
  unfold put
  split
  · rename_i h
    exact ⟨.inl, fun q => q.elim id fun e => by rw [e]; exact h⟩
  · rw [List.mem_append, List.mem_singleton]
theorem nodup_put {G : List W} {k : W} (h : G.Nodup) : (put G k).Nodup := by
  unfold put
  split
  · exact h
  · rename_i q
    exact List.nodup_append.mpr ⟨h, by simp, fun a ha b hb e => q (by rw [List.mem_singleton] at hb; rw [← hb, ← e]; exact ha)⟩
theorem mem_puts {v : W} : ∀ {l G : List W}, v ∈ puts G l ↔ v ∈ G ∨ v ∈ l
  | [], G => by simp [puts]
  | k :: l, G => by
    show v ∈ puts (put G k) l ↔ _
    rw [mem_puts (l := l), mem_put, List.mem_cons, or_assoc]
theorem nodup_puts : ∀ {l G : List W}, G.Nodup → (puts G l).Nodup
  | [], G, h => h
  | k :: l, G, h => nodup_puts (l := l) (nodup_put h)
/-- for times from 1: all words so far, each with times times the row -/
def lap (p : Int) (r : W) (F : List W) (t : Nat) : List W := puts F (F.map fun w => addw p w r (1 + t : Nat))
def laps (p : Int) (r : W) (m : Nat) (F : List W) : List W := (List.range m).foldl (lap p r) F
def span1 (p : Int) (F : List W) (r : W) : List W := if r ∈ F then F else laps p r (p.toNat - 1) F
def spanL (p : Int) (n : Nat) (rows : List W) : List W := rows.foldl (span1 p) [zerow n]
theorem laps_ok (hp : 0 < p) {done F : List W} {r : W} (hr : isW p n r) (hd : Rows p n done) (h : ∀ v, v ∈ F ↔ Span p n done v) (nd : F.Nodup) : ∀ m : Nat,
    (laps p r m F).Nodup ∧ (∀ v, v ∈ laps p r m F → Span p n (done ++ [r]) v) ∧ ∀ w ∈ F, ∀ t : Nat, t ≤ m → addw p w r t ∈ laps p r m F
  | 0 => ⟨nd, fun v hv => ((h v).mp hv).congr fun c hc => List.mem_append_left _ hc, fun w hw t ht => by
    have : t = 0 := by omega
    subst this
    rw [show ((0 : Nat) : Int) = 0 from rfl, addw_none hp (((h w).mp hw).w hp hd) hr.1 (Int.zero_emod p)]
    exact hw⟩
  | m + 1 => by
    obtain ⟨i1, i2, i3⟩ := laps_ok hp hr hd h nd m
    have hrow : Rows p n (done ++ [r]) := fun c hc => by
      rcases List.mem_append.mp hc with q | q
      · exact hd c q
      · rw [List.mem_singleton.mp q]; exact hr
    have e : laps p r (m + 1) F = lap p r (laps p r m F) m := by
      unfold laps
      rw [List.range_succ, List.foldl_append]; rfl
    rw [e]
    refine ⟨nodup_puts i1, fun v hv => ?_, fun w hw t ht => ?_⟩
    · rcases mem_puts.mp hv with q | q
      · exact i2 v q
      · obtain ⟨u, hu, rfl⟩ := List.mem_map.mp q
        exact .add _ (i2 u hu) (by simp)
    · by_cases q : t ≤ m
      · exact mem_puts.mpr (.inl (i3 w hw t q))
      · have : t = m + 1 := by omega
        subst this
        refine mem_puts.mpr (.inr (List.mem_map.mpr ⟨w, ?_, ?_⟩))
        · have := i3 w hw 0 (by omega)
          rwa [show ((0 : Nat) : Int) = 0 from rfl, addw_none hp (((h w).mp hw).w hp hd) hr.1 (Int.zero_emod p)] at this
        · rw [Nat.add_comm]
theorem spanL_ok (hp : P23 p) {rows : List W} (h : Rows p n rows) : (spanL p n rows).Nodup ∧ ∀ v, v ∈ spanL p n rows ↔ Span p n rows v := by
  have p0 := hp.pos
  have key : ∀ (todo done F : List W), Rows p n done → Rows p n todo → F.Nodup → (∀ v, v ∈ F ↔ Span p n done v) → (todo.foldl (span1 p) F).Nodup ∧ ∀ v, v ∈ todo.foldl (span1 p) F ↔ Span p n (done ++ todo) v := by
    intro todo
    induction todo with
    | nil => intro done F _ _ h1 h2; rw [List.append_nil]; exact ⟨h1, h2⟩
    | cons r todo ih =>
      intro done F hd ht h1 h2
      have hr := ht r List.mem_cons_self
      have hrow : Rows p n (done ++ [r]) := fun c hc => by
        rcases List.mem_append.mp hc with q | q
        · exact hd c q
        · rw [List.mem_singleton.mp q]; exact hr
      have st : (span1 p F r).Nodup ∧ ∀ v, v ∈ span1 p F r ↔ Span p n (done ++ [r]) v := by
        unfold span1
        split
        · rename_i q
          refine ⟨h1, fun v => ?_⟩
          rw [h2]
          refine ⟨Span.congr fun c hc => List.mem_append_left _ hc, fun s => (Span.sub p0 hd).span (fun c hc => ?_) s⟩
          rcases List.mem_append.mp hc with z | z
          · exact .mem p0 hd z
          · rw [List.mem_singleton.mp z]; exact (h2 r).mp q
        · obtain ⟨i1, i2, i3⟩ := laps_ok p0 hr hd h2 h1 (p.toNat - 1)
          refine ⟨i1, fun v => ⟨i2 v, fun s => ?_⟩⟩
          obtain ⟨t, ht, w, sw, rfl⟩ := (span_snoc p0 hr hd).mp s
          exact i3 w ((h2 w).mpr sw) t (by omega)
      have := ih (done ++ [r]) (span1 p F r) hrow (fun c hc => ht c (List.mem_cons_of_mem _ hc)) st.1 st.2
      rwa [List.append_assoc] at this
  exact key rows [] [zerow n] (fun c hc => by cases hc) h (by simp) fun v => by
    rw [List.mem_singleton]
    constructor
    · rintro rfl; exact .zero
    · intro s
      cases s with
      | zero => rfl
      | add t _ hr => cases hr
/-! ### the law's basis, read off all words -/
def fit1 (leads : List Nat) (a : Nat) (w : W) : Bool := decide (gt w a = 1) && decide ((leads.filter fun x => !decide (x = a) && !decide (gt w x = 0)) = [])
theorem fit_one (hp : P23 p) {B lot : List W} (r : Rref p n B) (hl : ∀ v, v ∈ lot ↔ Span p n B v) (nd : lot.Nodup) {b : W} (hb : b ∈ B) : lot.filter (fit1 (B.map CM.leadN) (CM.leadN b)) = [b] := by
  have p0 := hp.pos
  have key : ∀ w ∈ lot, (fit1 (B.map CM.leadN) (CM.leadN b) w = true ↔ w = b) := fun w hw => by
    unfold fit1
    rw [Bool.and_eq_true, decide_eq_true_eq, decide_eq_true_eq, List.filter_eq_nil_iff]
    constructor
    · rintro ⟨h1, h2⟩
      refine Span.one hp r.red ((hl w).mp hw) (.mem p0 r.red.w hb) fun c hc => ?_
      by_cases e : CM.leadN c = CM.leadN b
      · rw [e, h1, (r.red.leadN hb).2]
      · have := h2 (CM.leadN c) (List.mem_map.mpr ⟨c, hc, rfl⟩)
        have gw : gt w (CM.leadN c) = 0 := by
          apply Decidable.byContradiction
          intro z
          exact this (by rw [decide_eq_false e, decide_eq_false z]; rfl)
        have : gt b (CM.leadN c) = 0 := by
          have hne : c ≠ b := fun z => e (by rw [z])
          exact (pw_mem Apart.symm r.red.z hc hb hne).1 _ (r.red.leadN hc).1
        rw [gw, this]
    · rintro rfl
      refine ⟨(r.red.leadN hb).2, fun x hx q => ?_⟩
      obtain ⟨c, hc, rfl⟩ := List.mem_map.mp hx
      rw [Bool.and_eq_true, Bool.not_eq_true', Bool.not_eq_true', decide_eq_false_iff_not, decide_eq_false_iff_not] at q
      refine q.2 ?_
      have hne : c ≠ w := fun z => q.1 (by rw [z])
      exact (pw_mem Apart.symm r.red.z hc hb hne).1 _ (r.red.leadN hc).1
  have hbl : b ∈ lot := (hl b).mpr (.mem p0 r.red.w hb)
  have e1 : lot.filter (fit1 (B.map CM.leadN) (CM.leadN b)) = lot.filter fun w => decide (w = b) := List.filter_congr fun w hw => by
    have := key w hw
    by_cases q : w = b
    · rw [decide_eq_true q, this.mpr q]
    · rw [decide_eq_false q]
      exact Bool.eq_false_iff.mpr fun z => q (this.mp z)
  rw [e1]
  have e2 : (lot.filter fun w => decide (w = b)).Nodup := nd.filter _
  have e3 : ∀ w ∈ lot.filter (fun w => decide (w = b)), w = b := fun w hw => of_decide_eq_true (List.mem_filter.mp hw).2
  have e4 : b ∈ lot.filter fun w => decide (w = b) := List.mem_filter.mpr ⟨hbl, decide_eq_true rfl⟩
  match q : lot.filter fun w => decide (w = b) with
  | [] => rw [q] at e4; cases e4
  | [x] => rw [q] at e3; rw [e3 x (by simp)]
  | x :: y :: l =>
    rw [q] at e2 e3
    have := (List.pairwise_cons.mp e2).1 y (by simp)
    rw [e3 x (by simp), e3 y (by simp)] at this
    exact absurd rfl this
/-- the leads of all words but 0, rising -/
theorem leads_eq (hp : P23 p) {B lot : List W} (r : Rref p n B) (hl : ∀ v, v ∈ lot ↔ Span p n B v) (i : Nat) : (∃ w ∈ lot, lead w = some i) ↔ i ∈ B.map CM.leadN := by
  constructor
  · rintro ⟨w, hw, h⟩
    obtain ⟨b, hb, e⟩ := Span.lead_mem hp r.red ((hl w).mp hw) h
    exact List.mem_map.mpr ⟨b, hb, e⟩
  · intro h
    obtain ⟨b, hb, rfl⟩ := List.mem_map.mp h
    exact ⟨b, (hl b).mpr (.mem hp.pos r.red.w hb), (r.red.leadN hb).1⟩
/-- the basis of a space is one -/
theorem rref_one (hp : P23 p) {B C : List W} (r : Rref p n B) (r' : Rref p n C) (h : ∀ v, Span p n B v ↔ Span p n C v) : B = C := by
  have p0 := hp.pos
  obtain ⟨a1, a2, _⟩ := allW_ok hp r.red
  have hl2 : ∀ v, v ∈ allW p n B ↔ Span p n C v := fun v => (a1 v).trans (h v)
  have el : B.map CM.leadN = C.map CM.leadN := by
    refine List.Perm.eq_of_pairwise (le := (· < ·)) (fun a b _ _ h1 h2 => absurd h1 (by omega)) (List.pairwise_map.mpr r.up) (List.pairwise_map.mpr r'.up) ?_
    refine (List.perm_ext_iff_of_nodup ?_ ?_).mpr fun i => by rw [← leads_eq hp r a1, ← leads_eq hp r' hl2]
    · exact (List.pairwise_map.mpr r.up).imp fun h e => by omega
    · exact (List.pairwise_map.mpr r'.up).imp fun h e => by omega
  have len : B.length = C.length := by
    have := congrArg List.length el
    rwa [List.length_map, List.length_map] at this
  refine List.ext_getElem len fun i h1 h2 => ?_
  have e1 := fit_one hp r a1 a2 (List.getElem_mem h1)
  have e2 := fit_one hp r' hl2 a2 (List.getElem_mem h2)
  have e3 : CM.leadN B[i] = CM.leadN C[i] := by
    have := congrArg (fun l : List Nat => l[i]?) el
    simp only [List.getElem?_map, List.getElem?_eq_getElem h1, List.getElem?_eq_getElem h2, Option.map_some] at this
    exact Option.some.inj this
  rw [el, e3] at e1
  rw [e1] at e2
  exact (List.cons.inj e2).1
end
end CM
end

section
/-! Words: products, mirrors, how many words a space has. -/
namespace CM
/-! ### products -/
def sumL (l : List Int) : Int := l.sum
def dot (p : Int) (a b : W) : Int := ((a.zip b).map fun q => q.1 * q.2).sum % p
def raw (a b : W) : Int := ((a.zip b).map fun q => q.1 * q.2).sum
theorem raw_cons {x y : Int} {a b : W} : raw (x :: a) (y :: b) = x * y + raw a b := by
  unfold raw
  rw [List.zip_cons_cons, List.map_cons, List.sum_cons]
theorem raw_add {p t : Int} : ∀ {a b c : W}, a.length = b.length → a.length = c.length → raw (addw p a b t) c % p = (raw a c + t * raw b c) % p
  | [], [], [], _, _ => by simp [raw, addw]
  | x :: a, y :: b, z :: c, h1, h2 => by
    have ih := raw_add (p := p) (t := t) (a := a) (b := b) (c := c) (by simpa using h1) (by simpa using h2)
    have e : addw p (x :: a) (y :: b) t = (x + t * y) % p :: addw p a b t := by unfold addw; rw [List.zip_cons_cons, List.map_cons]
    rw [e, raw_cons, raw_cons, raw_cons, Int.add_emod, ih, ← Int.add_emod, Int.add_emod, Int.mul_emod, Int.emod_emod, ← Int.mul_emod, ← Int.add_emod]
    congr 1
    rw [Int.add_mul, Int.mul_add, Int.mul_assoc]
    omega
  | [], _ :: _, _, h, _ => by cases h
  | _ :: _, [], _, h, _ => by cases h
  | [], _, _ :: _, _, h => by cases h
  | _ :: _, _, [], _, h => by cases h
theorem raw_comm : ∀ (a b : W), raw a b = raw b a
  | [], b => by unfold raw; simp
  | x :: a, [] => by unfold raw; simp
  | x :: a, y :: b => by rw [raw_cons, raw_cons, raw_comm a b, Int.mul_comm]
theorem dot_raw {p : Int} {a b : W} : dot p a b = raw a b % p := rfl
theorem dot_comm {p : Int} {a b : W} : dot p a b = dot p b a := by rw [dot_raw, dot_raw, raw_comm]
theorem dot_add {p t : Int} {n : Nat} {a b c : W} (ha : a.length = n) (hb : b.length = n) (hc : c.length = n) : dot p (addw p a b t) c = (dot p a c + t * dot p b c) % p := by
  rw [dot_raw, raw_add (by rw [ha, hb]) (by rw [ha, hc]), dot_raw, dot_raw, Int.add_emod, Int.mul_emod]
  rw [← Int.emod_emod_of_dvd (raw b c) (Int.dvd_refl p), ← Int.mul_emod, ← Int.add_emod]
  rw [Int.emod_emod_of_dvd (raw b c) (Int.dvd_refl p), Int.emod_add_emod]
theorem dot_zero {p : Int} {n : Nat} {c : W} : dot p (zerow n) c = 0 := by
  have : raw (zerow n) c = 0 := by
    unfold zerow
    induction n generalizing c with
    | zero => simp [raw]
    | succ n ih =>
      cases c with
      | nil => simp [raw]
      | cons z c => rw [List.replicate_succ, raw_cons, ih, Int.zero_mul, Int.zero_add]
  rw [dot_raw, this, Int.zero_emod]
section
variable {p : Int} {n : Nat} {rows rows' B C : List W}
/-- the words whose product with each row is 0 -/
def Perp (p : Int) (n : Nat) (rows : List W) (v : W) : Prop := isW p n v ∧ ∀ r ∈ rows, dot p v r = 0
theorem Perp.sub (hp : 0 < p) (h : Rows p n rows) : Sub p n (Perp p n rows) where
  w := fun h => h.1
  zero := ⟨isW_zero hp, fun r _ => dot_zero⟩
  lin := fun t ha hb => ⟨isW_addw hp ha.1.1 hb.1.1, fun r hr => by
    rw [dot_add ha.1.1 hb.1.1 (h r hr).1, ha.2 r hr, hb.2 r hr, Int.mul_zero, Int.add_zero, Int.zero_emod]⟩
theorem Perp.span (hp : 0 < p) (h : Rows p n rows) {v u : W} (hv : Perp p n rows v) (hu : Span p n rows u) : dot p v u = 0 := by
  have s : Sub p n (fun x => isW p n x ∧ dot p v x = 0) := by
    refine ⟨fun h => h.1, ⟨isW_zero hp, by rw [dot_comm]; exact dot_zero⟩, fun t ha hb => ⟨isW_addw hp ha.1.1 hb.1.1, ?_⟩⟩
    rw [dot_comm, dot_add ha.1.1 hb.1.1 hv.1.1, dot_comm, ha.2, dot_comm (b := v), hb.2, Int.mul_zero, Int.add_zero, Int.zero_emod]
  exact (s.span (fun r hr => ⟨h r hr, hv.2 r hr⟩) hu).2
theorem Perp.congr (hp : 0 < p) (h : Rows p n rows) (h' : Rows p n rows') (e : ∀ v, Span p n rows v ↔ Span p n rows' v) (v : W) : Perp p n rows v ↔ Perp p n rows' v :=
  ⟨fun q => ⟨q.1, fun r hr => q.span hp h ((e r).mpr (.mem hp h' hr))⟩, fun q => ⟨q.1, fun r hr => q.span hp h' ((e r).mp (.mem hp h hr))⟩⟩
/-! ### how many words there are in a subspace -/
def Lot (S : W → Prop) (L : List W) : Prop := L.Nodup ∧ ∀ v, v ∈ L ↔ S v
theorem Lot.len {S : W → Prop} {L M : List W} (h : Lot S L) (h' : Lot S M) : L.length = M.length :=
  ((List.perm_ext_iff_of_nodup h.1 h'.1).mpr fun v => by rw [h.2, h'.2]).length_eq
theorem Lot.congr {S S' : W → Prop} {L : List W} (h : Lot S L) (e : ∀ v, S v ↔ S' v) : Lot S' L := ⟨h.1, fun v => by rw [h.2, e]⟩
theorem le_of_sub {α : Type} [DecidableEq α] : ∀ {F L : List α}, F.Nodup → (∀ x ∈ F, x ∈ L) → F.length ≤ L.length
  | [], L, _, _ => Nat.zero_le _
  | a :: F, L, h, hs => by
    obtain ⟨h1, h2⟩ := List.nodup_cons.mp h
    have ha := hs a List.mem_cons_self
    have := le_of_sub (F := F) (L := L.erase a) h2 fun x hx => (List.mem_erase_of_ne fun e => h1 (by rw [← e]; exact hx)).mpr (hs x (List.mem_cons_of_mem _ hx))
    rw [List.length_erase_of_mem ha] at this
    have := List.length_pos_of_mem ha
    rw [List.length_cons]
    omega
theorem all_of_len {α : Type} [DecidableEq α] {F L : List α} (h : F.Nodup) (hL : L.Nodup) (hs : ∀ x ∈ F, x ∈ L) (hl : L.length ≤ F.length) : ∀ x ∈ L, x ∈ F := fun x hx => by
  apply Classical.byContradiction
  intro q
  have := le_of_sub (F := x :: F) (L := L) (List.nodup_cons.mpr ⟨q, h⟩) fun y hy => by
    rcases List.mem_cons.mp hy with e | e
    · rw [e]; exact hx
    · exact hs y e
  rw [List.length_cons] at this
  omega
/-- one more word that is not in it -/
theorem Lot.more (hp : P23 p) {S : W → Prop} {L : List W} (s : Sub p n S) (h : Lot S L) {b : W} (hb : isW p n b) (nb : ¬ S b) : Lot (fun v => ∃ t : Nat, t < p.toNat ∧ ∃ w, S w ∧ v = addw p w b t) (grow p L b) := by
  have p0 := hp.pos
  refine ⟨?_, fun v => by rw [mem_grow]; exact ⟨fun ⟨t, ht, w, hw, e⟩ => ⟨t, ht, w, (h.2 w).mp hw, e⟩, fun ⟨t, ht, w, hw, e⟩ => ⟨t, ht, w, (h.2 w).mpr hw, e⟩⟩⟩
  have wL : ∀ w ∈ L, isW p n w := fun w hw => s.w ((h.2 w).mp hw)
  refine List.pairwise_flatMap.mpr ⟨fun t _ => List.pairwise_map.mpr ?_, ?_⟩
  · refine (List.Pairwise.imp_of_mem (fun {x y} hx hy q e => q ?_) h.1)
    have e2 := congrArg (fun w => addw p w b (-(t : Int))) e
    rw [addw_add p0 (wL x hx).1 hb.1, addw_add p0 (wL y hy).1 hb.1, show (t : Int) + -(t : Int) = 0 by omega, addw_none p0 (wL x hx) hb.1 (Int.zero_emod p), addw_none p0 (wL y hy) hb.1 (Int.zero_emod p)] at e2
    exact e2
  · refine (List.Pairwise.imp_of_mem (fun {s' t} hs ht q => ?_) List.nodup_range)
    intro x hx y hy e
    obtain ⟨a, ha, rfl⟩ := List.mem_map.mp hx
    obtain ⟨c, hc, rfl⟩ := List.mem_map.mp hy
    have hs := List.mem_range.mp hs
    have ht := List.mem_range.mp ht
    -- (s' - t) b lies in S
    have wa := wL a ha
    have wc := wL c hc
    have e2 := congrArg (fun w => addw p w b (-(t : Int))) e
    rw [addw_add p0 wa.1 hb.1, addw_add p0 wc.1 hb.1, show (t : Int) + -(t : Int) = 0 by omega, addw_none p0 wc hb.1 (Int.zero_emod p)] at e2
    have sd : S (addw p (addw p a b ((s' : Int) + -(t : Int))) a (-1)) := s.lin (-1) (by rw [e2]; exact (h.2 c).mp hc) ((h.2 a).mp ha)
    have e3 : addw p (addw p a b ((s' : Int) + -(t : Int))) a (-1) = addw p (zerow n) b ((s' : Int) - t) := by
      have l1 := len_addw (p := p) (t := (s' : Int) + -(t : Int)) wa.1 hb.1
      have hz : (zerow n).length = n := List.length_replicate
      refine (isW_addw p0 l1 wa.1).ext (isW_addw p0 hz hb.1) fun i => ?_
      rw [gt_addw l1 wa.1, gt_addw wa.1 hb.1, gt_addw hz hb.1, gt_zero, Int.emod_add_emod]
      congr 1
      rw [show (s' : Int) + -(t : Int) = (s' : Int) - t by omega]
      omega
    rw [e3] at sd
    -- times its inverse
    have hz : (zerow n).length = n := List.length_replicate
    have q1 : ((s' : Int) - t) % p ≠ 0 := fun z => by
      have hpn : ((p.toNat : Nat) : Int) = p := Int.toNat_of_nonneg (by omega)
      obtain ⟨c', hc'⟩ := Int.dvd_of_emod_eq_zero z
      have h1 : (s' : Int) - t < p := by omega
      have h2 : -p < (s' : Int) - t := by omega
      rw [hc'] at h1 h2
      have : c' = 0 := by
        rcases hp with rfl | rfl <;> omega
      rw [this] at hc'
      exact q (by omega)
    have sb : S (addw p (zerow n) (addw p (zerow n) b ((s' : Int) - t)) (((s' : Int) - t) % p)) := s.lin _ s.zero sd
    have e4 : addw p (zerow n) (addw p (zerow n) b ((s' : Int) - t)) (((s' : Int) - t) % p) = b := by
      have l1 := len_addw (p := p) (t := (s' : Int) - t) hz hb.1
      refine (isW_addw p0 hz l1).ext hb fun i => ?_
      rw [gt_addw hz l1, gt_addw hz hb.1, gt_zero, Int.zero_add, Int.zero_add, Int.mul_emod, Int.emod_emod, Int.emod_emod, ← Int.emod_emod_of_dvd _ (Int.dvd_refl p), ← Int.mul_emod]
      rw [Int.emod_emod, ← Int.mul_assoc, Int.mul_emod, Int.mul_emod ((s' : Int) - t) ((s' : Int) - t), sq1 hp (Int.emod_nonneg _ (by omega)) (Int.emod_lt_of_pos _ p0) q1, Int.one_mul, Int.emod_emod]
      exact Int.emod_eq_of_lt (hb.gt p0 i).1 (hb.gt p0 i).2
    rw [e4] at sb
    exact nb sb
/-! ### words with one letter, words with few letters -/
theorem raw_zero : ∀ {a b : W}, (∀ i, gt a i * gt b i = 0) → raw a b = 0
  | [], b, _ => by unfold raw; simp
  | x :: a, [], _ => by unfold raw; simp
  | x :: a, y :: b, h => by
    rw [raw_cons, raw_zero fun i => by have := h (i + 1); simpa [gt] using this]
    have := h 0
    simpa [gt] using this
theorem raw_one {l : Nat} : ∀ {a b : W}, (∀ i, i ≠ l → gt a i * gt b i = 0) → raw a b = gt a l * gt b l := by
  induction l with
  | zero =>
    intro a b h
    cases a with
    | nil => unfold raw; simp [gt]
    | cons x a => cases b with
      | nil => unfold raw; simp [gt]
      | cons y b =>
        rw [raw_cons, raw_zero fun i => by have := h (i + 1) (by omega); simpa [gt] using this]
        simp [gt]
  | succ l ih =>
    intro a b h
    cases a with
    | nil => unfold raw; simp [gt]
    | cons x a => cases b with
      | nil => unfold raw; simp [gt]
      | cons y b =>
        rw [raw_cons, ih fun i hi => by have := h (i + 1) (by omega); simpa [gt] using this]
        have := h 0 (by omega)
        have h0 : x * y = 0 := by simpa [gt] using this
        rw [h0]; simp [gt]
theorem raw_set : ∀ {a b : W} {x : Nat} {c : Int}, x < a.length → raw (a.set x c) b = raw a b + (c - gt a x) * gt b x
  | [], _, _, _, h => by simp at h
  | y :: a, [], x, c, h => by
    unfold raw
    simp [gt]
  | y :: a, z :: b, 0, c, h => by
    rw [List.set_cons_zero, raw_cons, raw_cons, Int.add_comm (y * z), Int.add_comm (c * z)]
    simp only [gt, List.getD_cons_zero]
    rw [Int.sub_mul]
    omega
  | y :: a, z :: b, x + 1, c, h => by
    rw [List.set_cons_succ, raw_cons, raw_cons, raw_set (a := a) (b := b) (x := x) (c := c) (by simpa using h)]
    simp only [gt, List.getD_cons_succ]
    omega
theorem gt_set {w : W} {i j : Nat} {c : Int} (h : i < w.length) : gt (w.set i c) j = if i = j then c else gt w j := by
  unfold gt
  rw [List.getD_eq_getElem?_getD, List.getElem?_set, List.getD_eq_getElem?_getD]
  by_cases e : i = j
  · rw [if_pos e, if_pos e]
    subst e
    rw [if_pos h]; rfl
  · rw [if_neg e, if_neg e]
/-- a word of the mirror for each place without a lead -/
def mwF (p : Int) (x : Nat) (row : W) (b : W) : W := row.set (leadN b) ((p - gt b x) % p)
def mw (p : Int) (n : Nat) (B : List W) (x : Nat) : W := B.foldl (mwF p x) ((zerow n).set x 1)
def frees (n : Nat) (B : List W) : List Nat := (List.range n).filter fun x => !decide (x ∈ B.map leadN)
def mirW (p : Int) (n : Nat) (B : List W) : List W := (frees n B).map (mw p n B)
theorem Red.lead_lt {B : List W} (r : Red p n B) {b : W} (hb : b ∈ B) : CM.leadN b < n := by
  have := CM.lead_lt (r.leadN hb).1
  rwa [(r.w b hb).1] at this
theorem mwF_len {x : Nat} : ∀ {B : List W} {row : W}, (B.foldl (mwF p x) row).length = row.length
  | [], _ => rfl
  | b :: B, row => by
    show (B.foldl (mwF p x) (mwF p x row b)).length = _
    rw [mwF_len (B := B)]
    unfold mwF
    rw [List.length_set]
theorem mwF_keep {x j : Nat} : ∀ {B : List W} {row : W}, Rows p n B → (∀ b ∈ B, CM.leadN b < row.length) → (∀ b ∈ B, CM.leadN b ≠ j) → gt (B.foldl (mwF p x) row) j = gt row j
  | [], _, _, _, _ => rfl
  | b :: B, row, hr, hl, h => by
    show gt (B.foldl (mwF p x) (mwF p x row b)) j = _
    have hl' : (mwF p x row b).length = row.length := by unfold mwF; rw [List.length_set]
    rw [mwF_keep (B := B) (fun c hc => hr c (List.mem_cons_of_mem _ hc)) (fun c hc => by rw [hl']; exact hl c (List.mem_cons_of_mem _ hc)) (fun c hc => h c (List.mem_cons_of_mem _ hc))]
    unfold mwF
    rw [gt_set (hl b List.mem_cons_self), if_neg (h b List.mem_cons_self)]
theorem mwF_lead {x : Nat} : ∀ {B : List W} {row : W}, Red p n B → row.length = n → ∀ b ∈ B, gt (B.foldl (mwF p x) row) (CM.leadN b) = (p - gt b x) % p
  | [], _, _, _, b, hb => by cases hb
  | c :: B, row, r, hl, b, hb => by
    have hl' : (mwF p x row c).length = n := by unfold mwF; rw [List.length_set, hl]
    show gt (B.foldl (mwF p x) (mwF p x row c)) (CM.leadN b) = _
    rcases List.mem_cons.mp hb with e | e
    · subst e
      have ap := List.pairwise_cons.mp r.apart
      rw [mwF_keep r.tail.w (fun d hd => by rw [hl']; exact r.tail.lead_lt hd) (fun d hd => (ap.1 d hd).symm)]
      unfold mwF
      rw [gt_set (by rw [hl]; exact r.lead_lt List.mem_cons_self), if_pos rfl]
    · exact mwF_lead r.tail hl' b e
theorem mem_frees {B : List W} {x : Nat} : x ∈ frees n B ↔ x < n ∧ ∀ b ∈ B, CM.leadN b ≠ x := by
  unfold frees
  rw [List.mem_filter, List.mem_range, Bool.not_eq_true', decide_eq_false_iff_not, List.mem_map]
  exact ⟨fun ⟨h1, h2⟩ => ⟨h1, fun b hb e => h2 ⟨b, hb, e⟩⟩, fun ⟨h1, h2⟩ => ⟨h1, fun ⟨b, hb, e⟩ => h2 b hb e⟩⟩
theorem mw_gt {B : List W} (r : Red p n B) {x : Nat} (hx : x ∈ frees n B) : (mw p n B x).length = n ∧ gt (mw p n B x) x = 1 ∧ (∀ b ∈ B, gt (mw p n B x) (CM.leadN b) = (p - gt b x) % p) ∧ ∀ j, j ≠ x → (∀ b ∈ B, CM.leadN b ≠ j) → gt (mw p n B x) j = 0 := by
  obtain ⟨h1, h2⟩ := mem_frees.mp hx
  have hz : (zerow n).length = n := List.length_replicate
  have hl : ((zerow n).set x 1).length = n := by rw [List.length_set, hz]
  unfold mw
  refine ⟨by rw [mwF_len, hl], ?_, mwF_lead r hl, fun j hj hb => ?_⟩
  · rw [mwF_keep r.w (fun b hb => by rw [hl]; exact r.lead_lt hb) h2, gt_set (by rw [hz]; exact h1), if_pos rfl]
  · rw [mwF_keep r.w (fun b hb => by rw [hl]; exact r.lead_lt hb) hb, gt_set (by rw [hz]; exact h1), if_neg (Ne.symm hj), gt_zero]
theorem mw_w (hp : P23 p) {B : List W} (r : Red p n B) {x : Nat} (hx : x ∈ frees n B) : isW p n (mw p n B x) := by
  obtain ⟨h1, h2, h3, h4⟩ := mw_gt r hx
  refine ⟨h1, fun y hy => ?_⟩
  obtain ⟨i, hi, rfl⟩ := List.mem_iff_getElem.mp hy
  rw [← gt_in hi]
  by_cases e : i = x
  · rw [e, h2]; have := hp.one; omega
  · by_cases q : ∃ b ∈ B, CM.leadN b = i
    · obtain ⟨b, hb, rfl⟩ := q
      rw [h3 b hb]
      exact ⟨Int.emod_nonneg _ (by have := hp.pos; omega), Int.emod_lt_of_pos _ hp.pos⟩
    · rw [h4 i e fun b hb z => q ⟨b, hb, z⟩]; have := hp.pos; omega
theorem mw_perp (hp : P23 p) {B : List W} (r : Red p n B) {x : Nat} (hx : x ∈ frees n B) : Perp p n B (mw p n B x) := by
  have p0 := hp.pos
  refine ⟨mw_w hp r hx, fun b hb => ?_⟩
  obtain ⟨h1, h2, h3, h4⟩ := mw_gt r hx
  obtain ⟨x1, x2⟩ := mem_frees.mp hx
  have hlb := r.leadN hb
  have e1 : raw (mw p n B x) b = raw ((mw p n B x).set x 0) b + gt b x := by
    rw [raw_set (by rw [h1]; exact x1), h2, Int.zero_sub, Int.neg_mul, Int.one_mul]
    omega
  have e2 : raw ((mw p n B x).set x 0) b = (p - gt b x) % p := by
    rw [raw_one (l := CM.leadN b) fun i hi => ?_, gt_set (by rw [h1]; exact x1), if_neg (x2 b hb).symm, h3 b hb, hlb.2, Int.mul_one]
    rw [gt_set (by rw [h1]; exact x1)]
    by_cases e : x = i
    · rw [if_pos e, Int.zero_mul]
    · rw [if_neg e]
      by_cases q : ∃ c ∈ B, CM.leadN c = i
      · obtain ⟨c, hc, rfl⟩ := q
        have hne : c ≠ b := fun z => hi (by rw [z])
        rw [(pw_mem Apart.symm r.z hc hb hne).1 _ (r.leadN hc).1, Int.mul_zero]
      · rw [h4 i (fun z => e z.symm) fun c hc z => q ⟨c, hc, z⟩, Int.zero_mul]
  rw [dot_raw, e1, e2, Int.emod_add_emod, show p - gt b x + gt b x = p by omega]
  exact Int.emod_self
/-- the sum of the mirror's words, each times the letter of v at its place -/
def mwSum (p : Int) (n : Nat) (B : List W) (v : W) (xs : List Nat) : W := xs.foldl (fun u x => addw p u (mw p n B x) (gt v x)) (zerow n)
theorem mwSum_ok (hp : P23 p) {B : List W} (r : Red p n B) {v : W} (hv : isW p n v) : ∀ (xs done : List Nat) (u : W), (∀ x ∈ done ++ xs, x ∈ frees n B) → (done ++ xs).Nodup → Span p n (mirW p n B) u → (∀ x ∈ done, gt u x = gt v x) → (∀ x ∈ xs, gt u x = 0) →
    Span p n (mirW p n B) (xs.foldl (fun u x => addw p u (mw p n B x) (gt v x)) u) ∧ ∀ x ∈ done ++ xs, gt (xs.foldl (fun u x => addw p u (mw p n B x) (gt v x)) u) x = gt v x
  | [], done, u, _, _, s, h1, _ => ⟨s, fun x hx => h1 x (by simpa using hx)⟩
  | y :: xs, done, u, hf, nd, s, h1, h2 => by
    have p0 := hp.pos
    have hM : Rows p n (mirW p n B) := fun m hm => by
      obtain ⟨x, hx, rfl⟩ := List.mem_map.mp hm
      exact mw_w hp r hx
    have wu := s.w p0 hM
    have fy : y ∈ frees n B := hf y (by simp)
    have wy := mw_w hp r fy
    have gy := mw_gt r fy
    have off : ∀ x, x ∈ frees n B → x ≠ y → gt (addw p u (mw p n B y) (gt v y)) x = gt u x := fun x hx hne => by
      rw [gt_addw wu.1 wy.1, gy.2.2.2 x hne (mem_frees.mp hx).2, Int.mul_zero, Int.add_zero]
      exact Int.emod_eq_of_lt (wu.gt p0 x).1 (wu.gt p0 x).2
    have nd2 := List.nodup_append.mp nd
    have ny := List.nodup_cons.mp nd2.2.1
    have := mwSum_ok hp r hv xs (done ++ [y]) (addw p u (mw p n B y) (gt v y)) (by rw [List.append_assoc]; exact hf) (by rw [List.append_assoc]; exact nd) (.add _ s (List.mem_map.mpr ⟨y, fy, rfl⟩))
      (fun x hx => by
        rcases List.mem_append.mp hx with e | e
        · rw [off x (hf x (by simp [e])) (fun z => nd2.2.2 x e y (by simp) z), h1 x e]
        · rw [List.mem_singleton.mp e, gt_addw wu.1 wy.1, h2 y (by simp), gy.2.1, Int.mul_one, Int.zero_add]
          exact Int.emod_eq_of_lt (hv.gt p0 y).1 (hv.gt p0 y).2)
      (fun x hx => by rw [off x (hf x (by simp [hx])) (fun z => ny.1 (by rw [← z]; exact hx)), h2 x (by simp [hx])])
    rwa [List.append_assoc] at this
theorem frees_nodup {B : List W} : (frees n B).Nodup := List.nodup_range.filter _
theorem mir_rows (hp : P23 p) {B : List W} (r : Red p n B) : Rows p n (mirW p n B) := fun m hm => by
  obtain ⟨x, hx, rfl⟩ := List.mem_map.mp hm
  exact mw_w hp r hx
theorem mir_span (hp : P23 p) {B : List W} (r : Red p n B) (v : W) : Span p n (mirW p n B) v ↔ Perp p n B v := by
  have p0 := hp.pos
  have hM := mir_rows hp r
  constructor
  · exact fun s => (Perp.sub p0 r.w).span (fun m hm => by
      obtain ⟨x, hx, rfl⟩ := List.mem_map.mp hm
      exact mw_perp hp r hx) s
  · intro q
    obtain ⟨su, gu⟩ := mwSum_ok hp r q.1 (frees n B) [] (zerow n) (fun x hx => by simpa using hx) (by simpa using frees_nodup) .zero (fun x hx => by cases hx) (fun x _ => gt_zero n x)
    generalize hu : (frees n B).foldl (fun u x => addw p u (mw p n B x) (gt v x)) (zerow n) = u at su gu
    have wu := su.w p0 hM
    have pu : Perp p n B u := (Perp.sub p0 r.w).span (fun m hm => by
      obtain ⟨x, hx, rfl⟩ := List.mem_map.mp hm
      exact mw_perp hp r hx) su
    have pd : Perp p n B (addw p v u (-1)) := (Perp.sub p0 r.w).lin (-1) q pu
    have zf : ∀ x, (∀ b ∈ B, CM.leadN b ≠ x) → gt (addw p v u (-1)) x = 0 := fun x hx => by
      by_cases hxn : x < n
      · rw [gt_addw q.1.1 wu.1, gu x (by simpa using mem_frees.mpr ⟨hxn, hx⟩), show gt v x + -1 * gt v x = 0 by omega, Int.zero_emod]
      · exact gt_out (by rw [pd.1.1]; omega)
    have zz : addw p v u (-1) = zerow n := by
      refine pd.1.ext (isW_zero p0) fun i => ?_
      rw [gt_zero]
      by_cases h : ∃ b ∈ B, CM.leadN b = i
      · obtain ⟨b, hb, rfl⟩ := h
        have d := pd.2 b hb
        rw [dot_raw, raw_one (l := CM.leadN b) fun j hj => ?_, (r.leadN hb).2, Int.mul_one] at d
        · rw [Int.emod_eq_of_lt (pd.1.gt p0 _).1 (pd.1.gt p0 _).2] at d; exact d
        · by_cases h : ∃ c ∈ B, CM.leadN c = j
          · obtain ⟨c, hc, rfl⟩ := h
            have hne : c ≠ b := fun z => hj (by rw [z])
            rw [(pw_mem Apart.symm r.z hc hb hne).1 _ (r.leadN hc).1, Int.mul_zero]
          · rw [zf j fun c hc z => h ⟨c, hc, z⟩, Int.zero_mul]
      · exact zf i fun b hb z => h ⟨b, hb, z⟩
    have e : addw p (addw p v u (-1)) u 1 = v := by
      rw [addw_add p0 q.1.1 wu.1]
      exact addw_none p0 q.1 wu.1 (Int.zero_emod p)
    rw [zz, addw_self p0 wu] at e
    rw [← e]; exact su
theorem frees_len {B : List W} (r : Red p n B) : (frees n B).length + B.length = n := by
  have h1 : (B.map CM.leadN).Nodup := by
    refine List.pairwise_map.mpr ?_
    exact r.apart
  have h2 : ∀ x ∈ B.map CM.leadN, x ∈ List.range n := fun x hx => by
    obtain ⟨b, hb, rfl⟩ := List.mem_map.mp hx
    exact List.mem_range.mpr (r.lead_lt hb)
  have pm : (frees n B ++ B.map CM.leadN).Perm (List.range n) := by
    refine (List.perm_ext_iff_of_nodup ?_ List.nodup_range).mpr fun x => ?_
    · refine List.nodup_append.mpr ⟨frees_nodup, h1, fun a ha b hb e => ?_⟩
      obtain ⟨c, hc, rfl⟩ := List.mem_map.mp hb
      exact (mem_frees.mp ha).2 c hc e.symm
    · rw [List.mem_append, mem_frees, List.mem_range]
      constructor
      · rintro (h | h)
        · exact h.1
        · exact List.mem_range.mp (h2 x h)
      · intro h
        by_cases q : x ∈ B.map CM.leadN
        · exact .inr q
        · exact .inl ⟨h, fun b hb e => q (List.mem_map.mpr ⟨b, hb, e⟩)⟩
  have := pm.length_eq
  rw [List.length_append, List.length_map, List.length_range] at this
  exact this
/-- the mirror's words are as many as they look -/
theorem mir_lot (hp : P23 p) {B : List W} (r : Red p n B) : ∃ L, Lot (Span p n (mirW p n B)) L ∧ L.length = p.toNat ^ (frees n B).length := by
  have p0 := hp.pos
  have key : ∀ (xs done : List Nat) (L : List W), (∀ x ∈ done ++ xs, x ∈ frees n B) → (done ++ xs).Nodup → Lot (Span p n (done.map (mw p n B))) L → L.length = p.toNat ^ done.length →
      ∃ L', Lot (Span p n ((done ++ xs).map (mw p n B))) L' ∧ L'.length = p.toNat ^ (done ++ xs).length := by
    intro xs
    induction xs with
    | nil => intro done L _ _ h1 h2; rw [List.append_nil]; exact ⟨L, h1, h2⟩
    | cons y xs ih =>
      intro done L hf nd h1 h2
      have fy : y ∈ frees n B := hf y (by simp)
      have wy := mw_w hp r fy
      have gy := mw_gt r fy
      have hd : Rows p n (done.map (mw p n B)) := fun m hm => by
        obtain ⟨x, hx, rfl⟩ := List.mem_map.mp hm
        exact mw_w hp r (hf x (by simp [hx]))
      have nd2 := List.nodup_append.mp nd
      have nin : ¬ Span p n (done.map (mw p n B)) (mw p n B y) := fun s => by
        have := s.vanish p0 hd (i := y) fun m hm => by
          obtain ⟨x, hx, rfl⟩ := List.mem_map.mp hm
          exact (mw_gt r (hf x (by simp [hx]))).2.2.2 y (fun z => nd2.2.2 x hx y (by simp) z.symm) (mem_frees.mp fy).2
        rw [gy.2.1] at this
        exact absurd this (by decide)
      have lm := Lot.more hp (Span.sub p0 hd) h1 wy nin
      have lm2 : Lot (Span p n ((done ++ [y]).map (mw p n B))) (grow p L (mw p n B y)) := lm.congr fun v => by
        rw [List.map_append, List.map_cons, List.map_nil, span_snoc p0 wy hd]
      have := ih (done ++ [y]) _ (by rw [List.append_assoc]; exact hf) (by rw [List.append_assoc]; exact nd) lm2 (by
        rw [len_grow, h2, List.length_append, List.length_singleton, Nat.pow_succ, Nat.mul_comm])
      rwa [List.append_assoc] at this
  have z1 : Lot (Span p n (([] : List Nat).map (mw p n B))) [zerow n] := ⟨by simp, fun v => by
    rw [List.mem_singleton]
    constructor
    · rintro rfl; exact .zero
    · intro s
      cases s with
      | zero => rfl
      | add t _ hr => cases hr⟩
  have := key (frees n B) [] [zerow n] (fun x hx => by simpa using hx) (by simpa using frees_nodup) z1 (by simp)
  simpa [mirW] using this
theorem pow_inj (hp : P23 p) {a b : Nat} (h : p.toNat ^ a = p.toNat ^ b) : a = b := Nat.pow_right_inj (show 1 < p.toNat by rcases hp with rfl | rfl <;> decide) |>.mp h
/-- the basis of some rows -/
def basisOf (p : Int) (rows : List W) : List W := byLead (steps p rows)
theorem basisOf_ok (hp : P23 p) (h : Rows p n rows) : Rref p n (basisOf p rows) ∧ ∀ v, Span p n (basisOf p rows) v ↔ Span p n rows v := by
  obtain ⟨r, g⟩ := steps_ok hp h
  refine ⟨byLead_rref r, fun v => ?_⟩
  rw [← g.span hp.pos r.w h v]
  have pm := byLead_perm (steps p rows)
  exact ⟨Span.congr fun q hq => pm.mem_iff.mp hq, Span.congr fun q hq => pm.mem_iff.mpr hq⟩
theorem dim_lot (hp : P23 p) {B : List W} (r : Red p n B) {L : List W} (h : Lot (Span p n B) L) : L.length = p.toNat ^ B.length := by
  obtain ⟨a1, a2, a3⟩ := allW_ok hp r
  rw [h.len (⟨a2, a1⟩ : Lot (Span p n B) (allW p n B)), a3]
/-- the mirror's basis -/
def dualB (p : Int) (n : Nat) (B : List W) : List W := basisOf p (mirW p n B)
theorem dual_ok (hp : P23 p) {B : List W} (r : Red p n B) : Rref p n (dualB p n B) ∧ (∀ v, Span p n (dualB p n B) v ↔ Perp p n B v) ∧ (dualB p n B).length + B.length = n := by
  obtain ⟨h1, h2⟩ := basisOf_ok hp (mir_rows hp r)
  refine ⟨h1, fun v => (h2 v).trans (mir_span hp r v), ?_⟩
  obtain ⟨L, l1, l2⟩ := mir_lot hp r
  have := dim_lot hp h1.red (l1.congr fun v => (h2 v).symm)
  rw [l2] at this
  have e := pow_inj hp this
  have := frees_len r
  unfold dualB
  omega
/-- the mirror of the mirror -/
theorem dual_dual (hp : P23 p) {B : List W} (r : Rref p n B) : dualB p n (dualB p n B) = B := by
  have p0 := hp.pos
  obtain ⟨d1, d2, d3⟩ := dual_ok hp r.red
  obtain ⟨e1, e2, e3⟩ := dual_ok hp d1.red
  refine rref_one hp e1 r fun v => ?_
  have sub : ∀ v, Span p n B v → Span p n (dualB p n (dualB p n B)) v := fun v s => by
    rw [e2]
    refine ⟨s.w p0 r.red.w, fun c hc => ?_⟩
    have := (d2 c).mp (.mem p0 d1.red.w hc)
    rw [dot_comm]
    exact this.span p0 r.red.w s
  obtain ⟨a1, a2, a3⟩ := allW_ok hp r.red
  obtain ⟨b1, b2, b3⟩ := allW_ok hp e1.red
  refine ⟨fun s => ?_, sub v⟩
  rw [← a1]
  refine all_of_len a2 b2 (fun x hx => (b1 x).mpr (sub x ((a1 x).mp hx))) ?_ v ((b1 v).mpr s)
  rw [a3, b3, show (dualB p n (dualB p n B)).length = B.length by omega]
  exact Nat.le_refl _
/-- a list of words that spans a subspace is its own span -/
theorem span_of_list {S : W → Prop} (hp : 0 < p) (s : Sub p n S) {L : List W} (h : ∀ v, v ∈ L ↔ S v) (v : W) : Span p n L v ↔ S v :=
  ⟨fun q => s.span (fun r hr => (h r).mp hr) q, fun q => .mem hp (fun r hr => s.w ((h r).mp hr)) ((h v).mpr q)⟩
theorem basis_congr (hp : P23 p) (h : Rows p n rows) (h' : Rows p n rows') (e : ∀ v, Span p n rows v ↔ Span p n rows' v) : basisOf p rows = basisOf p rows' := by
  obtain ⟨r1, r2⟩ := basisOf_ok hp h
  obtain ⟨s1, s2⟩ := basisOf_ok hp h'
  exact rref_one hp r1 s1 fun v => by rw [r2, s2, e]
/-- sizes of a meet and a sum -/
theorem dim_meet (hp : P23 p) {B C : List W} (rB : Red p n B) (rC : Red p n C) {L : List W} (hL : Lot (fun v => Span p n B v ∧ Span p n C v) L) {M : List W} (hM : Lot (Span p n (B ++ C)) M) : M.length * L.length = p.toNat ^ (B.length + C.length) := by
  have p0 := hp.pos
  have key : ∀ (todo done M L : List W), Red p n (done ++ todo) → Lot (Span p n (B ++ done)) M → Lot (fun v => Span p n B v ∧ Span p n done v) L → M.length * L.length = p.toNat ^ (B.length + done.length) →
      ∃ M' L', Lot (Span p n (B ++ (done ++ todo))) M' ∧ Lot (fun v => Span p n B v ∧ Span p n (done ++ todo) v) L' ∧ M'.length * L'.length = p.toNat ^ (B.length + (done ++ todo).length) := by
    intro todo
    induction todo with
    | nil => intro done M L _ h1 h2 h3; rw [List.append_nil]; exact ⟨M, L, h1, h2, h3⟩
    | cons b todo ih =>
      intro done M L r h1 h2 h3
      have wb : isW p n b := r.w b (by simp)
      have wd : Rows p n done := fun c hc => r.w c (List.mem_append_left _ hc)
      have wBd : Rows p n (B ++ done) := fun c hc => by
        rcases List.mem_append.mp hc with q | q
        · exact rB.w c q
        · exact wd c q
      have hl := r.leadN (b := b) (by simp)
      have nb : ¬ Span p n done b := fun s => by
        have := s.vanish p0 wd (i := CM.leadN b) fun c hc => ((List.pairwise_append.mp r.z).2.2 c hc b List.mem_cons_self).2 _ hl.1
        rw [hl.2] at this
        exact absurd this (by decide)
      have sd := Span.sub p0 wd
      have sB := Span.sub p0 rB.w
      have sBd := Span.sub p0 wBd
      have inB : ∀ {v}, Span p n B v → Span p n (B ++ done) v := fun s => s.congr fun c hc => List.mem_append_left _ hc
      have inD : ∀ {v}, Span p n done v → Span p n (B ++ done) v := fun s => s.congr fun c hc => List.mem_append_right _ hc
      have step : ∃ M' L', Lot (Span p n (B ++ (done ++ [b]))) M' ∧ Lot (fun v => Span p n B v ∧ Span p n (done ++ [b]) v) L' ∧ M'.length * L'.length = p.toNat ^ (B.length + (done ++ [b]).length) := by
        by_cases hb : Span p n (B ++ done) b
        · -- b is a sum of a word of each
          have sum : ∀ {v}, Span p n (B ++ done) v → ∃ x y, Span p n B x ∧ Span p n done y ∧ v = addw p x y 1 := by
            intro v s
            induction s with
            | zero => exact ⟨zerow n, zerow n, .zero, .zero, (addw_zero p0 (isW_zero p0)).symm⟩
            | @add a r' t sa hr ih =>
              obtain ⟨x, y, hx, hy, rfl⟩ := ih
              have wx := hx.w p0 rB.w
              have wy := hy.w p0 wd
              rcases List.mem_append.mp hr with q | q
              · refine ⟨addw p x r' t, y, .add t hx q, hy, addw_comm wx.1 wy.1 (rB.w r' q).1⟩
              · refine ⟨x, addw p y r' t, hx, .add t hy q, ?_⟩
                rw [addw_in wx.1 wy.1 (wd r' q).1, Int.one_mul]
          obtain ⟨x, y, hx, hy, exy⟩ := sum hb
          have wx := hx.w p0 rB.w
          have wy := hy.w p0 wd
          have nx : ¬ Span p n done x := fun s => nb (by rw [exy]; exact sd.lin 1 s hy)
          have sI : Sub p n (fun v => Span p n B v ∧ Span p n done v) := ⟨fun h => sB.w h.1, ⟨.zero, .zero⟩, fun t h1 h2 => ⟨sB.lin t h1.1 h2.1, sd.lin t h1.2 h2.2⟩⟩
          have lm := Lot.more hp sI h2 wx fun h => nx h.2
          refine ⟨M, _, h1.congr fun v => ?_, lm.congr fun v => ?_, ?_⟩
          · rw [← List.append_assoc]
            exact ⟨Span.congr fun c hc => List.mem_append_left _ hc, fun s => sBd.span (fun c hc => by
              rcases List.mem_append.mp hc with q | q
              · exact .mem p0 wBd q
              · rw [List.mem_singleton.mp q]; exact hb) s⟩
          · have sdb := Span.sub p0 (show Rows p n (done ++ [b]) from fun c hc => by
              rcases List.mem_append.mp hc with q | q
              · exact wd c q
              · rw [List.mem_singleton.mp q]; exact wb)
            have xin : Span p n (done ++ [b]) x := by
              have e : addw p b y (-1) = x := by
                rw [exy, addw_add p0 wx.1 wy.1]
                exact addw_none p0 wx wy.1 (Int.zero_emod p)
              rw [← e]
              exact sdb.lin (-1) (.mem p0 (fun c hc => by
                rcases List.mem_append.mp hc with q | q
                · exact wd c q
                · rw [List.mem_singleton.mp q]; exact wb) (by simp)) (hy.congr fun c hc => List.mem_append_left _ hc)
            constructor
            · rintro ⟨t, ht, w, ⟨w1, w2⟩, rfl⟩
              exact ⟨sB.lin _ w1 hx, sdb.lin _ (w2.congr fun c hc => List.mem_append_left _ hc) xin⟩
            · rintro ⟨v1, v2⟩
              obtain ⟨t, ht, w, sw, rfl⟩ := (span_snoc p0 wb wd).mp v2
              have ww := sw.w p0 wd
              -- w + t b = (w + t y) + t x
              have e : addw p w b (t : Nat) = addw p (addw p w y (t : Nat)) x (t : Nat) := by
                rw [exy, addw_in ww.1 wx.1 wy.1, Int.mul_one, addw_comm ww.1 wx.1 wy.1]
              have l1 := len_addw (p := p) (t := (t : Int)) ww.1 wy.1
              refine ⟨t, ht, addw p w y (t : Nat), ⟨?_, sd.lin _ sw hy⟩, e⟩
              rw [e] at v1
              exact sB.back p0 (isW_addw p0 ww.1 wy.1) hx v1
          · rw [len_grow, List.length_append, List.length_singleton, ← Nat.mul_assoc, Nat.mul_comm M.length, Nat.mul_assoc, h3, ← Nat.add_assoc, Nat.pow_succ, Nat.mul_comm]
        · have lm := Lot.more hp sBd h1 wb hb
          refine ⟨_, L, lm.congr fun v => ?_, h2.congr fun v => ?_, ?_⟩
          · rw [← List.append_assoc, span_snoc p0 wb wBd]
          · constructor
            · exact fun ⟨v1, v2⟩ => ⟨v1, v2.congr fun c hc => List.mem_append_left _ hc⟩
            · rintro ⟨v1, v2⟩
              obtain ⟨t, ht, w, sw, rfl⟩ := (span_snoc p0 wb wd).mp v2
              have ww := sw.w p0 wd
              refine ⟨v1, ?_⟩
              by_cases tz : ((t : Nat) : Int) % p = 0
              · rw [addw_none p0 ww wb.1 tz]; exact sw
              · -- then b lies in the sum
                exfalso
                apply hb
                have hz : (zerow n).length = n := List.length_replicate
                have d1 : Span p n (B ++ done) (addw p (addw p w b (t : Nat)) w (-1)) := sBd.lin (-1) (inB v1) (inD sw)
                have e1 : addw p (addw p w b (t : Nat)) w (-1) = addw p (zerow n) b (t : Nat) := by
                  have l1 := len_addw (p := p) (t := (t : Int)) ww.1 wb.1
                  refine (isW_addw p0 l1 ww.1).ext (isW_addw p0 hz wb.1) fun i => ?_
                  rw [gt_addw l1 ww.1, gt_addw ww.1 wb.1, gt_addw hz wb.1, gt_zero, Int.emod_add_emod]
                  congr 1
                  omega
                rw [e1] at d1
                have d2 := sBd.lin (((t : Nat) : Int) % p) sBd.zero d1
                have e2 : addw p (zerow n) (addw p (zerow n) b (t : Nat)) (((t : Nat) : Int) % p) = b := by
                  have l1 := len_addw (p := p) (t := (t : Int)) hz wb.1
                  refine (isW_addw p0 hz l1).ext wb fun i => ?_
                  rw [gt_addw hz l1, gt_addw hz wb.1, gt_zero, Int.zero_add, Int.zero_add, Int.mul_emod, Int.emod_emod, Int.emod_emod, ← Int.emod_emod_of_dvd _ (Int.dvd_refl p), ← Int.mul_emod]
                  rw [Int.emod_emod, ← Int.mul_assoc, Int.mul_emod, Int.mul_emod (t : Int) (t : Int), sq1 hp (Int.emod_nonneg _ (by omega)) (Int.emod_lt_of_pos _ p0) tz, Int.one_mul, Int.emod_emod]
                  exact Int.emod_eq_of_lt (wb.gt p0 i).1 (wb.gt p0 i).2
                rwa [e2] at d2
          · rw [len_grow, List.length_append, List.length_singleton, Nat.mul_assoc, h3, ← Nat.add_assoc, Nat.pow_succ, Nat.mul_comm]
      obtain ⟨M', L', q1, q2, q3⟩ := step
      have := ih (done ++ [b]) M' L' (by rw [List.append_assoc]; exact r) q1 q2 q3
      rwa [List.append_assoc] at this
  obtain ⟨a1, a2, a3⟩ := allW_ok hp rB
  have z1 : ∀ v, Span p n [] v ↔ v = zerow n := fun v => by
    constructor
    · intro s
      cases s with
      | zero => rfl
      | add t _ hr => cases hr
    · intro e
      rw [e]; exact .zero
  obtain ⟨M', L', q1, q2, q3⟩ := key C [] (allW p n B) [zerow n] rC ⟨a2, fun v => by rw [List.append_nil]; exact a1 v⟩ ⟨by simp, fun v => by
    rw [List.mem_singleton]
    exact ⟨fun e => ⟨by rw [e]; exact .zero, (z1 v).mpr e⟩, fun h => (z1 v).mp h.2⟩⟩ (by simp [a3])
  rw [hM.len q1, hL.len q2, q3]
  rfl
end
end CM
end

section
set_option maxRecDepth 100000
set_option maxHeartbeats 2000000
/-! How the mirrors are reckoned. -/
namespace L2.Dl
open PySem PySem.Spec PyProof.Rows
/-- words as data -/
abbrev wD (w : List Int) : D := .tup (w.map D.int)
theorem lcGo_map {α : Type} {f : D → Rho → Option Rho} {tt : M Bool} {te : M D} {ρ0 : Rho} {π : Pen} (h : α → D) (c : α → Bool) (g : α → D) : ∀ (l : List α), (∀ x ∈ l, ∃ ρ1, f (h x) ρ0 = some ρ1 ∧ tt ρ1 π = .ok (c x) π ∧ (c x = true → te ρ1 π = .ok (g x) π)) → lcGo f tt te ρ0 (l.map h) π = .ok ((l.filter c).map g) π
  | [], _ => rfl
  | x :: l, hx => by
    obtain ⟨ρ1, e1, e2, e3⟩ := hx x List.mem_cons_self
    have ih := lcGo_map h c g l fun y hy => hx y (List.mem_cons_of_mem _ hy)
    rw [List.map_cons]
    unfold lcGo
    rw [e1]
    simp only
    rw [e2]
    cases hc : c x with
    | true =>
      simp only
      rw [e3 hc]
      simp only
      rw [ih, List.filter_cons_of_pos hc]; rfl
    | false =>
      simp only
      rw [ih, List.filter_cons_of_neg (by rw [hc]; decide)]
theorem mLc_map {α : Type} {it : M (List D)} {f : D → Rho → Option Rho} {tt : M Bool} {te : M D} {vs : List Nat} {ρ : Rho} {π π1 : Pen} {xs : List D} (l : List α) (h : α → D) (c : α → Bool) (g : α → D) (hi : it ρ π = .ok xs π1) (hxs : xs = l.map h) (hz : l.length ≤ sizeLine)
    (hx : ∀ x ∈ l, ∃ ρ1, f (h x) (wipeR ρ vs) = some ρ1 ∧ tt ρ1 π1 = .ok (c x) π1 ∧ (c x = true → te ρ1 π1 = .ok (g x) π1)) : mLc it f tt te vs ρ π = .ok (.lst ((l.filter c).map g)) π1 := by
  unfold mLc mBind
  rw [hi]
  subst hxs
  simp only [Out.bind]
  rw [if_pos (by rw [List.length_map]; exact hz), lcGo_map h c g l hx]
theorem mLc_all {α : Type} {it : M (List D)} {f : D → Rho → Option Rho} {te : M D} {vs : List Nat} {ρ : Rho} {π π1 : Pen} {xs : List D} (l : List α) (h : α → D) (g : α → D) (hi : it ρ π = .ok xs π1) (hxs : xs = l.map h) (hz : l.length ≤ sizeLine)
    (hx : ∀ x ∈ l, ∃ ρ1, f (h x) (wipeR ρ vs) = some ρ1 ∧ te ρ1 π1 = .ok (g x) π1) : mLc it f (mOk true) te vs ρ π = .ok (.lst (l.map g)) π1 := by
  rw [mLc_map l h (fun _ => true) g hi hxs hz fun x hx' => ?_]
  · rw [List.filter_eq_self.mpr fun _ _ => rfl]
  · obtain ⟨ρ1, e1, e2⟩ := hx x hx'
    exact ⟨ρ1, e1, rfl, fun _ => e2⟩
/-- a comprehension that draws: what it gives is known in part -/
theorem lcGo_rel {α : Type} {f : D → Rho → Option Rho} {te : M D} {ρ0 : Rho} (h : α → D) (P : Nat → Pen → Prop) (Q : α → D → Prop) : ∀ (l : List α) (k : Nat) (π : Pen), P k π → (∀ x ∈ l, ∀ j π, k ≤ j → j < k + l.length → P j π → ∃ ρ1 y π', f (h x) ρ0 = some ρ1 ∧ te ρ1 π = .ok y π' ∧ Q x y ∧ P (j + 1) π') →
    ∃ ys π', lcGo f (mOk true) te ρ0 (l.map h) π = .ok ys π' ∧ ys.length = l.length ∧ (∀ (i : Nat) (x : α) (y : D), l[i]? = some x → ys[i]? = some y → Q x y) ∧ P (k + l.length) π'
  | [], k, π, hp, _ => ⟨[], π, rfl, rfl, (fun i x y e => by simp at e), hp⟩
  | x :: l, k, π, hp, hx => by
    obtain ⟨ρ1, y, π1, e1, e2, e3, e4⟩ := hx x List.mem_cons_self k π (Nat.le_refl _) (by rw [List.length_cons]; omega) hp
    obtain ⟨ys, π2, e5, e6, e7, e8⟩ := lcGo_rel h P Q l (k + 1) π1 e4 fun z hz j π h1 h2 => hx z (List.mem_cons_of_mem _ hz) j π (by omega) (by rw [List.length_cons]; omega)
    refine ⟨y :: ys, π2, ?_, by rw [List.length_cons, List.length_cons, e6], fun i a b ea eb => ?_, by rw [List.length_cons, Nat.add_comm l.length 1, ← Nat.add_assoc]; exact e8⟩
    · rw [List.map_cons]
      unfold lcGo
      rw [e1]
      simp only [mOk]
      rw [e2]
      simp only
      rw [e5]
    · cases i with
      | zero => cases ea; cases eb; exact e3
      | succ i => exact e7 i a b ea eb
theorem mLc_rel {α : Type} {it : M (List D)} {f : D → Rho → Option Rho} {te : M D} {vs : List Nat} {ρ : Rho} {π π1 : Pen} {xs : List D} (l : List α) (h : α → D) (P : Nat → Pen → Prop) (Q : α → D → Prop) (k : Nat) (hi : it ρ π = .ok xs π1) (hxs : xs = l.map h) (hz : l.length ≤ sizeLine) (hp : P k π1)
    (hx : ∀ x ∈ l, ∀ j π, k ≤ j → j < k + l.length → P j π → ∃ ρ1 y π', f (h x) (wipeR ρ vs) = some ρ1 ∧ te ρ1 π = .ok y π' ∧ Q x y ∧ P (j + 1) π') :
    ∃ ys π', mLc it f (mOk true) te vs ρ π = .ok (.lst ys) π' ∧ ys.length = l.length ∧ (∀ (i : Nat) (x : α) (y : D), l[i]? = some x → ys[i]? = some y → Q x y) ∧ P (k + l.length) π' := by
  obtain ⟨ys, π', e1, e2, e3, e4⟩ := lcGo_rel h P Q l k π1 hp hx
  refine ⟨ys, π', ?_, e2, e3, e4⟩
  unfold mLc mBind
  rw [hi]
  subst hxs
  simp only [Out.bind]
  rw [if_pos (by rw [List.length_map]; exact hz), e1]
/-- a turn ends well -/
abbrev goesI (I : Rho → Pen → Prop) (o : SOut) : Prop := ∃ ρ2 π2, (o = .nx ρ2 π2 ∨ o = .ct ρ2 π2) ∧ I ρ2 π2
theorem goes_nx {I : Rho → Pen → Prop} {ρ : Rho} {π : Pen} (h : I ρ π) : goesI I (.nx ρ π) := ⟨ρ, π, .inl rfl, h⟩
/-- a loop by what holds between two turns -/
theorem forGo_ind {α : Type} {f : D → Rho → Option Rho} {b : MS} (h : α → D) (I : List α → Rho → Pen → Prop) : ∀ (l done : List α) (ρ : Rho) (π : Pen), I done ρ π →
    (∀ d x r, done ++ l = d ++ x :: r → done.length ≤ d.length → ∀ ρ π, I d ρ π → ∃ ρ1, f (h x) ρ = some ρ1 ∧ ∃ ρ2 π2, (b ρ1 π = .nx ρ2 π2 ∨ b ρ1 π = .ct ρ2 π2) ∧ I (d ++ [x]) ρ2 π2) →
    ∃ ρ2 π2, forGo f b (l.map h) ρ π = .nx ρ2 π2 ∧ I (done ++ l) ρ2 π2
  | [], done, ρ, π, hI, _ => ⟨ρ, π, rfl, by rw [List.append_nil]; exact hI⟩
  | x :: l, done, ρ, π, hI, hb => by
    obtain ⟨ρ1, e1, ρ2, π2, e2, hI2⟩ := hb done x l rfl (Nat.le_refl _) ρ π hI
    obtain ⟨ρ3, π3, e3, hI3⟩ := forGo_ind h I l (done ++ [x]) ρ2 π2 hI2 fun d y r e hl => hb d y r (by rw [← e, List.append_assoc]; rfl) (Nat.le_trans (by rw [List.length_append]; omega) hl)
    refine ⟨ρ3, π3, ?_, by rw [List.append_assoc] at hI3; exact hI3⟩
    rw [List.map_cons]
    unfold forGo
    rw [e1]
    simp only
    rcases e2 with e2 | e2 <;> rw [e2] <;> exact e3
theorem sFor_ind {α : Type} {it : M (List D)} {f : D → Rho → Option Rho} {b : MS} {ρ : Rho} {π π1 : Pen} {xs : List D} (l : List α) (h : α → D) (I : List α → Rho → Pen → Prop) (hi : it ρ π = .ok xs π1) (hxs : xs = l.map h) (h0 : I [] ρ π1)
    (hb : ∀ d x r, l = d ++ x :: r → ∀ ρ π, I d ρ π → ∃ ρ1, f (h x) ρ = some ρ1 ∧ goesI (I (d ++ [x])) (b ρ1 π)) :
    ∃ ρ2 π2, sFor it f b ρ π = .nx ρ2 π2 ∧ I l ρ2 π2 := by
  subst hxs
  obtain ⟨ρ2, π2, e, hI⟩ := forGo_ind (f := f) (b := b) h I l [] ρ π1 h0 fun d x r e _ => hb d x r e
  refine ⟨ρ2, π2, ?_, hI⟩
  unfold sFor sBind
  rw [hi]
  exact e
theorem sSeq_nx {m k : MS} {ρ ρ' : Rho} {π π' : Pen} (h : m ρ π = .nx ρ' π') : sSeq m k ρ π = k ρ' π' := by
  unfold sSeq
  rw [h]
/-- the pen, when all is well -/
structure PenOk (k : Nat) (π : Pen) : Prop where
  at0 : 0 ≤ π.at_
  d0 : 0 ≤ π.digits
  c0 : 0 ≤ π.count
  ck : π.count ≤ k
  f0 : 0 ≤ π.fold
  f1 : π.fold < 10000000000
theorem PenOk.mono {k k' : Nat} {π : Pen} (h : PenOk k π) (hk : k ≤ k') : PenOk k' π := ⟨h.at0, h.d0, h.c0, Int.le_trans h.ck (by omega), h.f0, h.f1⟩
theorem PenIni.ok {π : Pen} (h : PenIni π) : PenOk 0 π := ⟨by rw [h.at_]; decide, by rw [h.digits]; decide, by rw [h.count]; decide, by rw [h.count]; decide, h.f0, h.f1⟩
end L2.Dl
namespace L2.Dl
open PySem PySem.Spec PyProof.Rows
/-! ### reckoning, step by step -/
def Out.opt {α : Type} (o : Option α) (π : Pen) : Out α := match o with
  | some a => .ok a π
  | none => .bad
/-- what follows, in a box that simp does not open -/
class Bx (γ : Type) where
  val : γ
def Out.bnd {α β : Type} (o : Out α) [k : Bx (α → Pen → Out β)] : Out β := o.bind k.val
def Out.toT {α : Type} (o : Out α) [k : Bx (α → Pen → SOut)] : SOut := match o with
  | .ok a π => k.val a π
  | .err c ns fs π => .err c ns fs π
  | .bad => .bad
def SOut.then (o : SOut) [k : Bx (Rho → Pen → SOut)] : SOut := match o with
  | .nx ρ π => k.val ρ π
  | .rt d π => .rt d π
  | .bk ρ π => .bk ρ π
  | .ct ρ π => .ct ρ π
  | .err c ns fs π => .err c ns fs π
  | .bad => .bad
@[reducible] def Out.bd {α β : Type} (o : Out α) (f : α → Pen → Out β) : Out β := o.bnd (k := ⟨f⟩)
@[reducible] def Out.toS {α : Type} (o : Out α) (f : α → Pen → SOut) : SOut := o.toT (k := ⟨f⟩)
@[reducible] def SOut.seq (o : SOut) (f : Rho → Pen → SOut) : SOut := o.then (k := ⟨f⟩)
def SOut.fin (o : SOut) : Out D := match o with
  | .nx _ π => .ok .non π
  | .rt d π => .ok d π
  | .err c ns fs π => .err c ns fs π
  | _ => .bad
def slD (o : Option Sl) (π : Pen) : Out D := match o with
  | some (.sh d) => .ok d π
  | _ => .bad
def slB (o : Option Sl) (π : Pen) : Out D := match o with
  | some (.sh d) => .ok d π
  | some (.ow k) => .ok k.D π
  | _ => .bad
section
variable {α β : Type} {ρ : Rho} {π : Pen}
theorem bind_fun {o : Out α} {f g : α → Pen → Out β} (h : ∀ a π, f a π = g a π) : o.bind f = o.bind g := by
  have : f = g := by funext a π; exact h a π
  rw [this]
theorem ite2 {c : Prop} [Decidable c] {x y : M α} : (if c then x else y) ρ π = if c then x ρ π else y ρ π := by split <;> rfl
theorem obind_ok {a : α} {f : α → Pen → Out β} : (Out.ok a π).bind f = f a π := id rfl
theorem u_bd {o : Out α} {f : α → Pen → Out β} : o.bd f = o.bnd (k := ⟨f⟩) := id rfl
theorem u_toS {o : Out α} {f : α → Pen → SOut} : o.toS f = o.toT (k := ⟨f⟩) := id rfl
theorem u_seq {o : SOut} {f : Rho → Pen → SOut} : o.seq f = o.then (k := ⟨f⟩) := id rfl
theorem bind_ok {a : α} {f : α → Pen → Out β} : (Out.ok a π).bnd (k := ⟨f⟩) = f a π := id rfl
theorem bind_err {c : Str} {ns : List Str} {fs : List D} {f : α → Pen → Out β} : (Out.err c ns fs π : Out α).bnd (k := ⟨f⟩) = .err c ns fs π := id rfl
theorem toS_ok {a : α} {f : α → Pen → SOut} : (Out.ok a π).toT (k := ⟨f⟩) = f a π := id rfl
theorem toS_err {c : Str} {ns : List Str} {fs : List D} {f : α → Pen → SOut} : (Out.err c ns fs π : Out α).toT (k := ⟨f⟩) = .err c ns fs π := id rfl
theorem seq_nx {f : Rho → Pen → SOut} : (SOut.nx ρ π).then (k := ⟨f⟩) = f ρ π := id rfl
theorem seq_rt {d : D} {f : Rho → Pen → SOut} : (SOut.rt d π).then (k := ⟨f⟩) = .rt d π := id rfl
theorem seq_err {c : Str} {ns : List Str} {fs : List D} {f : Rho → Pen → SOut} : (SOut.err c ns fs π).then (k := ⟨f⟩) = .err c ns fs π := id rfl
theorem fin_nx : (SOut.nx ρ π).fin = .ok .non π := id rfl
theorem fin_rt {d : D} : (SOut.rt d π).fin = .ok d π := id rfl
theorem fin_err {c : Str} {ns : List Str} {fs : List D} : (SOut.err c ns fs π).fin = .err c ns fs π := id rfl
theorem opt_some {a : α} : Out.opt (some a) π = .ok a π := id rfl
theorem slD_sh {d : D} : slD (some (.sh d)) π = .ok d π := id rfl
theorem slB_sh {d : D} : slB (some (.sh d)) π = .ok d π := id rfl
theorem slB_ow {k : Own} : slB (some (.ow k)) π = .ok k.D π := id rfl
theorem e_mBind {m : M α} {f : α → M β} : mBind m f ρ π = (m ρ π).bd fun a π' => f a ρ π' := id rfl
theorem e_mOk {a : α} : mOk a ρ π = .ok a π := id rfl
theorem e_mOpt {o : Option α} : mOpt o ρ π = .opt o π := id rfl
theorem e_mVar {i : Nat} : mVar i ρ π = slD ρ[i]? π := id rfl
theorem e_mVarB {i : Nat} : mVarB i ρ π = slB ρ[i]? π := by unfold mVarB slB; rfl
theorem e_mNil : mNil ρ π = .ok [] π := id rfl
theorem e_mCons {m : M D} {r : M (List D)} : mCons m r ρ π = (m ρ π).bd fun d π1 => (r ρ π1).bd fun l π2 => .ok (d :: l) π2 := id rfl
theorem e_m1 {f : D → Option D} {m : M D} : m1 f m ρ π = (m ρ π).bd fun a π1 => .opt (f a) π1 := id rfl
theorem e_m2 {f : D → D → Option D} {ma mb : M D} : m2 f ma mb ρ π = (ma ρ π).bd fun a π1 => (mb ρ π1).bd fun b π2 => .opt (f a b) π2 := id rfl
theorem e_m2O {f : D → D → Option Own} {ma mb : M D} : m2O f ma mb ρ π = (ma ρ π).bd fun a π1 => (mb ρ π1).bd fun b π2 => .opt (f a b) π2 := id rfl
theorem e_mC {f : List D → Option D} {m : M (List D)} : mC f m ρ π = (m ρ π).bd fun a π1 => .opt (f a) π1 := id rfl
theorem e_mI {f : List D → Option (List D)} {m : M (List D)} : mI f m ρ π = (m ρ π).bd fun a π1 => .opt (f a) π1 := id rfl
theorem e_itSeq {m : M D} : itSeq m ρ π = (m ρ π).bd fun a π1 => .opt (seqOf a) π1 := id rfl
theorem e_mSome {m : M D} : mSome m ρ π = (m ρ π).bd fun a π1 => .opt ((asI a).map some) π1 := id rfl
theorem e_mAnd {ma mb : M D} : mAnd ma mb ρ π = (ma ρ π).bd fun a π1 => (Out.opt (asB a) π1).bd fun k π2 => if k = true then mb ρ π2 else .ok (.bl false) π2 := by
  exact bind_fun fun a π1 => bind_fun fun k π2 => ite2
theorem e_mOr {ma mb : M D} : mOr ma mb ρ π = (ma ρ π).bd fun a π1 => (Out.opt (asB a) π1).bd fun k π2 => if k = true then .ok (.bl true) π2 else mb ρ π2 := by
  exact bind_fun fun a π1 => bind_fun fun k π2 => ite2
theorem e_mTest {m : M D} : mTest m ρ π = (m ρ π).bd fun a π1 => .opt (asB a) π1 := id rfl
theorem e_mT2 {f : D → D → Option D} {ma mb : M D} : mT2 f ma mb ρ π = (ma ρ π).bd fun a π1 => (mb ρ π1).bd fun b π2 => (Out.opt (f a b) π2).bd fun d π3 => .opt (asB d) π3 := id rfl
theorem e_mChain {f f' : D → D → Option D} {ma mb mc : M D} : mChain f f' ma mb mc ρ π = (ma ρ π).bd fun a π1 => (mb ρ π1).bd fun b π2 => (Out.opt (f a b) π2).bd fun z π3 => (Out.opt (asB z) π3).bd fun k π4 => if k = true then (mc ρ π4).bd fun c π5 => .opt (f' b c) π5 else .ok (.bl false) π4 := by
  exact bind_fun fun a π1 => bind_fun fun b π2 => bind_fun fun z π3 => bind_fun fun k π4 => ite2
theorem e_tAnd {m u : M Bool} : tAndM m u ρ π = (m ρ π).bd fun k π1 => if k = true then u ρ π1 else .ok false π1 := by
  exact bind_fun fun a π1 => ite2
theorem e_tOr {m u : M Bool} : tOrM m u ρ π = (m ρ π).bd fun k π1 => if k = true then .ok true π1 else u ρ π1 := by
  exact bind_fun fun a π1 => ite2
theorem e_tNot {m : M Bool} : tNotM m ρ π = (m ρ π).bd fun k π1 => .ok (!k) π1 := id rfl
theorem e_mIf {t : M Bool} {x y : M α} : mIf t x y ρ π = (t ρ π).bd fun k π1 => if k = true then x ρ π1 else y ρ π1 := by
  exact bind_fun fun a π1 => ite2
theorem e_mTup {m : M (List D)} : mTup m ρ π = (m ρ π).bd fun l π1 => if l.length ≤ 1000 then .ok (.tup l) π1 else .bad := by
  unfold mTup mBind mOpt
  show Out.bind (m ρ π) _ = Out.bind (m ρ π) fun l π1 => if l.length ≤ 1000 then Out.ok (D.tup l) π1 else .bad
  refine bind_fun fun l π1 => ?_
  show Out.opt (if l.length ≤ 1000 then _ else none) π1 = _
  split <;> rfl
theorem e_mLst {m : M (List D)} : mLst m ρ π = (m ρ π).bd fun l π1 => if l.length ≤ 1000 then .ok (.lst l) π1 else .bad := by
  unfold mLst mBind mOpt
  show Out.bind (m ρ π) _ = Out.bind (m ρ π) fun l π1 => if l.length ≤ 1000 then Out.ok (D.lst l) π1 else .bad
  refine bind_fun fun l π1 => ?_
  show Out.opt (if l.length ≤ 1000 then _ else none) π1 = _
  split <;> rfl
theorem e_mD {m : M Own} : mD m ρ π = (m ρ π).bd fun k π1 => .ok k.D π1 := by
  show _ = Out.bind (m ρ π) fun k π1 => Out.ok k.D π1
  unfold mD Out.bind
  cases m ρ π <;> rfl
theorem e_mCall {n : Nat} {F : Fn} {dD : List D} {m : M (List D)} : mCall n F dD m ρ π = (m ρ π).bd fun l π1 => callF n F (l ++ dD) π1 := id rfl
theorem e_callF {n : Nat} {F : Fn} {ds : List D} (h : ds.length = n) : callF n F ds π = F ds π := if_pos h
theorem e_mPen {i : Nat} {f : Str} (h : ρ[i]? = some (.sh .pen)) : mPen i f ρ π = (Out.opt (penAt π f) π).bd fun v π => .ok (.int v) π := by
  unfold mPen
  rw [h]
  show (match penAt π f with | some v => Out.ok (D.int v) π | none => .bad) = _
  cases penAt π f <;> rfl
theorem e_mPenC {i : Nat} (h : ρ[i]? = some (.sh .pen)) : mPenC i ρ π = .ok (.lst (π.cells.map .int)) π := by
  unfold mPenC
  rw [h]
theorem e_sPenPut {i : Nat} {f : Str} {m : M D} : sPenPut i f m ρ π = (m ρ π).toS fun d π1 => penPutK i f d ρ π1 := id rfl
theorem e_penPutK {i : Nat} {f : Str} {v : Int} (h : ρ[i]? = some (.sh .pen)) : penPutK i f (.int v) ρ π = (Out.opt (penPut π f v) π).toS fun π' _ => .nx ρ π' := by
  unfold penPutK
  rw [h]
  show (match penPut π f v with | some π' => SOut.nx ρ π' | none => .bad) = _
  cases penPut π f v <;> rfl
theorem e_sSeq {m k : MS} : sSeq m k ρ π = (m ρ π).seq k := id rfl
theorem e_sSet {i : Nat} {m : M D} : sSet i m ρ π = (m ρ π).toS fun d π1 => .nx (ρ.set i (.sh d)) π1 := id rfl
theorem e_sSetO {i : Nat} {m : M Own} : sSetO i m ρ π = (m ρ π).toS fun k π1 => if i < ρ.length then .nx (ρ.set i (.ow k)) π1 else .bad := id rfl
theorem e_sRet {m : M D} : sRet m ρ π = (m ρ π).toS fun d π1 => .rt d π1 := id rfl
theorem e_sExpr {m : M D} : sExpr m ρ π = (m ρ π).toS fun _ π1 => .nx ρ π1 := id rfl
theorem e_sNx : sNx ρ π = .nx ρ π := id rfl
theorem e_sIf {t : M Bool} {a b : MS} : sIf t a b ρ π = (t ρ π).toS fun c π1 => if c = true then a ρ π1 else b ρ π1 := id rfl
theorem e_sTg {f : D → Rho → Option Rho} {m : M D} : sTg f m ρ π = (m ρ π).toS fun d π1 => match f d ρ with | some ρ' => .nx ρ' π1 | none => .bad := id rfl
theorem e_runF {n : Nat} {m : MS} {ds : List D} : runF n m ds π = (m (ds.map Sl.sh ++ List.replicate (n - ds.length) .no) π).fin := id rfl
theorem e_mList {m : M (List D)} : mList m ρ π = (m ρ π).bd fun l π1 => if l.length ≤ sizeLine then .ok (.lst l) π1 else .bad := by
  unfold mList mBind mOpt
  show Out.bind (m ρ π) _ = Out.bind (m ρ π) fun l π1 => if l.length ≤ sizeLine then Out.ok (Own.lst l) π1 else .bad
  refine bind_fun fun l π1 => ?_
  show Out.opt (if l.length ≤ sizeLine then _ else none) π1 = _
  split <;> rfl
theorem e_mSlice {m : M D} {ml mh : M (Option Int)} : mSlice m ml mh ρ π = (m ρ π).bd fun d π1 => (ml ρ π1).bd fun lo π2 => (mh ρ π2).bd fun hi π3 => .opt (sliceD lo hi d) π3 := id rfl
theorem e_sRaise {c : Str} {ns : List Str} {ml : M (List D)} : sRaise c ns ml ρ π = (ml ρ π).toS fun l π' => if l.length = ns.length ∧ l.length ≤ 1000 ∧ ns ≠ [] then .err c ns.reverse l.reverse π' else .bad := by
  unfold sRaise
  cases ml ρ π <;> rfl
theorem e_sFld {cs : List Str} {i : Nat} {f : Str} {m : M D} : sFld cs i f m ρ π = (m ρ π).toS fun d π1 => match insAt ρ i with
    | some q => if q.1 ∈ cs ∧ q.2.1.length < 1000 then .nx (ρ.set i (.ow (.ins q.1 (putN f d q.2.1 q.2.2).1 (putN f d q.2.1 q.2.2).2))) π1 else .bad
    | none => .bad := id rfl
theorem e_runI {c : Str} {n : Nat} {m : MS} {ds : List D} : runI c n m ds π = match m (.ow (.ins c [] []) :: (ds.map Sl.sh ++ List.replicate (n - 1 - ds.length) .no)) π with
  | .nx ρ π' => (match insAt ρ 0 with
    | some q => .ok (.ins q.1 q.2.1 q.2.2) π'
    | none => .bad)
  | .err c ns fs π' => .err c ns fs π'
  | _ => .bad := id rfl
theorem e_mMake {n : Nat} {F : FnI} {dD : List D} {m : M (List D)} : mMake n F dD m ρ π = (m ρ π).bd fun l π1 => (callI n F (l ++ dD) π1).bd fun k π2 => .ok k.D π2 := by
  unfold mMake mBind
  show Out.bind (m ρ π) _ = Out.bind (m ρ π) fun l π1 => Out.bind (callI n F (l ++ dD) π1) fun k π2 => Out.ok k.D π2
  refine bind_fun fun l π1 => ?_
  show (match callI n F (l ++ dD) π1 with | .ok k π' => Out.ok k.D π' | .err c ns fs π' => .err c ns fs π' | .bad => .bad) = _
  cases callI n F (l ++ dD) π1 <;> rfl
theorem e_callI {n : Nat} {F : FnI} {ds : List D} (h : ds.length = n) : callI n F ds π = F ds π := if_pos h
theorem d_add {i j : Int} : addD (.int i) (.int j) = some (.int (i + j)) := id rfl
theorem d_sub {i j : Int} : subD (.int i) (.int j) = some (.int (i - j)) := id rfl
theorem d_mod {i j : Int} (h : 0 < j) : modD (.int i) (.int j) = some (.int (i % j)) := by
  show (if decide (j ≠ 0) = true then some (D.int (i.fmod j)) else none) = _
  rw [if_pos (decide_eq_true (by omega)), Int.fmod_eq_emod_of_nonneg _ (by omega)]
theorem d_mul {i j : Int} (h : i.natAbs.log2 + j.natAbs.log2 < 1000000) : mulD (.int i) (.int j) = some (.int (i * j)) := if_pos h
theorem d_div {i j : Int} (h : 0 < j) (hj : j < 1000000) : divD (.int i) (.int j) = some (.int (i / j)) := by
  have h1 : j.natAbs < 2 ^ 20 := by omega
  have h2 : j.natAbs.log2 < 20 := (Nat.log2_lt (by omega)).mpr h1
  exact if_pos ⟨h, by omega⟩
theorem d_pow {i j : Int} (h : 0 ≤ j ∧ j ≤ 1000000 ∧ i.natAbs < 2 ^ 64) : powD (.int i) (.int j) = some (.int (i ^ j.toNat)) := by
  show (if decide (0 ≤ j ∧ j ≤ 1000000 ∧ i.natAbs < 2 ^ 64) = true then some (D.int (i ^ j.toNat)) else none) = _
  rw [if_pos (decide_eq_true h)]
theorem d_lt {i j : Int} : ltD (.int i) (.int j) = some (.bl (decide (i < j))) := id rfl
theorem d_le {i j : Int} : leD (.int i) (.int j) = some (.bl (decide (i ≤ j))) := id rfl
theorem d_gt {i j : Int} : gtD (.int i) (.int j) = some (.bl (decide (j < i))) := id rfl
theorem d_ge {i j : Int} : geD (.int i) (.int j) = some (.bl (decide (j ≤ i))) := id rfl
theorem plain_int {n : Nat} {i : Int} : plainD n (.int i) = true := by cases n <;> rfl
theorem plain_non {n : Nat} : plainD n .non = true := by cases n <;> rfl
theorem d_eq {i j : Int} : eqD (.int i) (.int j) = some (.bl (decide (i = j))) := by
  unfold eqD
  rw [plain_int, plain_int]
  show some (D.bl (i == j)) = _
  rw [show (i == j) = decide (i = j) from rfl]
theorem d_ne {i j : Int} : neD (.int i) (.int j) = some (.bl (!decide (i = j))) := by
  unfold neD
  rw [plain_int, plain_int]
  show some (D.bl (!(i == j))) = _
  rw [show (i == j) = decide (i = j) from rfl]
theorem d_asB {b : Bool} : asB (.bl b) = some b := id rfl
theorem d_not {b : Bool} : notD (.bl b) = some (.bl (!b)) := id rfl
theorem d_asI {i : Int} : asI (.int i) = some i := id rfl
theorem d_isN {d e : D} (h : e.isNon = true) : isND d e = some (.bl d.isNon) := if_pos h
theorem d_ntN {d : D} : notND d .non = some (.bl (!d.isNon)) := id rfl
theorem d_intOf {i : Int} : intOf [.int i] = some (.int i) := id rfl
theorem d_neg {i : Int} : negD (.int i) = some (.int (-i)) := id rfl
theorem d_lenL {l : List D} : lenD [.lst l] = some (.int l.length) := id rfl
theorem d_lenT {l : List D} : lenD [.tup l] = some (.int l.length) := id rfl
theorem d_seqL {l : List D} : seqOf (.lst l) = some l := id rfl
theorem d_seqT {l : List D} : seqOf (.tup l) = some l := id rfl
theorem d_tupL {l : List D} : tupleD [.lst l] = some (.tup l) := id rfl
theorem d_tupT {l : List D} : tupleD [.tup l] = some (.tup l) := id rfl
theorem d_addL {l m : List D} (h : l.length + m.length ≤ sizeLine) : addD (.lst l) (.lst m) = some (.lst (l ++ m)) := if_pos h
theorem d_addT {l m : List D} (h : l.length + m.length ≤ sizeLine) : addD (.tup l) (.tup m) = some (.tup (l ++ m)) := if_pos h
theorem atI_in {α : Type} {l : List α} {i : Int} (h0 : 0 ≤ i) (h1 : i < l.length) : atI l i = l[i.toNat]? := by
  unfold atI ixN
  rw [if_pos h0, if_pos h1]; rfl
theorem ixD_tup {l : List D} {i : Int} (h0 : 0 ≤ i) (h1 : i < l.length) : ixD (.tup l) (.int i) = l[i.toNat]? := atI_in h0 h1
theorem ixD_lst {l : List D} {i : Int} (h0 : 0 ≤ i) (h1 : i < l.length) : ixD (.lst l) (.int i) = l[i.toNat]? := atI_in h0 h1
theorem d_mulS {i j : Int} (h : i.natAbs < 2 ^ 64) (h2 : j.natAbs < 2 ^ 64) : mulD (.int i) (.int j) = some (.int (i * j)) := by
  refine d_mul ?_
  have a : i.natAbs.log2 < 64 := by
    by_cases z : i.natAbs = 0
    · rw [z]; decide
    · exact (Nat.log2_lt z).mpr h
  have b : j.natAbs.log2 < 64 := by
    by_cases z : j.natAbs = 0
    · rw [z]; decide
    · exact (Nat.log2_lt z).mpr h2
  omega
theorem d_pow18 : powD (.int 10) (.int 18) = some (.int 1000000000000000000) := by
  rw [d_pow ⟨by decide, by decide, by decide⟩]; rfl
theorem range1_nat {n : Nat} (h : n ≤ 1000000) : range1 [.int n] = some ((List.range n).map fun i => D.int (0 + (i : Nat))) := by
  show (if small62 (n : Int) = true then some (rangeD 0 (n : Int).toNat) else none) = _
  rw [if_pos]
  · rfl
  · unfold small62
    rw [decide_eq_true (by omega), decide_eq_true (by omega)]; rfl
theorem p_count {i : Int} : penPut π "count" i = some { π with count := i } := id rfl
theorem p_at {i : Int} : penPut π "at" i = some { π with at_ := i } := id rfl
theorem p_digits {i : Int} : penPut π "digits" i = some { π with digits := i } := id rfl
theorem p_fold {i : Int} : penPut π "fold" i = some { π with fold := i } := id rfl
theorem q_count : penAt π "count" = some π.count := id rfl
theorem q_at : penAt π "at" = some π.at_ := id rfl
theorem q_digits : penAt π "digits" = some π.digits := id rfl
theorem q_fold : penAt π "fold" = some π.fold := id rfl
end
section
variable {α : Type} {it : M (List D)} {f : D → Rho → Option Rho} {b : MS} {ρ : Rho} {π π1 : Pen} {xs : List D}
/-- a loop ahead of what follows -/
theorem for_then (P : SOut → Prop) {K : Bx (Rho → Pen → SOut)} (l : List α) (h : α → D) (I : List α → Rho → Pen → Prop) (hi : it ρ π = .ok xs π1) (hxs : xs = l.map h) (h0 : I [] ρ π1)
    (hb : ∀ d x r, l = d ++ x :: r → ∀ ρ π, I d ρ π → ∃ ρ1, f (h x) ρ = some ρ1 ∧ goesI (I (d ++ [x])) (b ρ1 π))
    (hk : ∀ ρ2 π2, I l ρ2 π2 → P (K.val ρ2 π2)) : P (@SOut.then (sFor it f b ρ π) K) := by
  obtain ⟨ρ2, π2, e, hI⟩ := sFor_ind l h I hi hxs h0 hb
  rw [e]
  exact hk ρ2 π2 hI
theorem for_end (P : SOut → Prop) (l : List α) (h : α → D) (I : List α → Rho → Pen → Prop) (hi : it ρ π = .ok xs π1) (hxs : xs = l.map h) (h0 : I [] ρ π1)
    (hb : ∀ d x r, l = d ++ x :: r → ∀ ρ π, I d ρ π → ∃ ρ1, f (h x) ρ = some ρ1 ∧ goesI (I (d ++ [x])) (b ρ1 π))
    (hk : ∀ ρ2 π2, I l ρ2 π2 → P (.nx ρ2 π2)) : P (sFor it f b ρ π) := by
  obtain ⟨ρ2, π2, e, hI⟩ := sFor_ind l h I hi hxs h0 hb
  rw [e]
  exact hk ρ2 π2 hI
end
end L2.Dl
end

section
set_option maxRecDepth 100000
set_option maxHeartbeats 4000000
/-! Generic facts for the reckoning of mirrors. -/
namespace L2.Dl
open PySem PySem.Spec PyProof.Rows CM
/-- an int that is no bool -/
def isI : D → Bool
  | .int _ => true
  | _ => false
def isR : D → Bool
  | .lst _ => true
  | .tup _ => true
  | _ => false
def named (d : D) : Bool := (tyName d).isSome
def letB (p : Int) : D → Bool
  | .int i => decide (0 ≤ i) && decide (i < p)
  | _ => false
def seqL : D → List D
  | .lst l => l
  | .tup l => l
  | _ => []
def wordB (p n : Int) (d : D) : Bool := isR d && (decide (((seqL d).length : Int) = n) && (seqL d).all (letB p))
theorem bools_map {α : Type} (f : α → Bool) : ∀ l : List α, bools (l.map fun x => D.bl (f x)) = some (l.map f)
  | [] => rfl
  | x :: l => by
    show (bools (l.map fun x => D.bl (f x))).map _ = _
    rw [bools_map f l]; rfl
theorem allD_map {α : Type} (f : α → Bool) (l : List α) : allD [.lst (l.map fun x => D.bl (f x))] = some (.bl (l.all f)) := by
  show (bools (l.map fun x => D.bl (f x))).map _ = _
  rw [bools_map]
  show some (D.bl ((l.map f).all id)) = _
  rw [List.all_map]; rfl
end L2.Dl
namespace L2.Dl
open PySem PySem.Spec PyProof.Rows CM
def leadD (w : List Int) : D := match lead w with
  | some i => .int i
  | none => .non
def enumF (k : Nat) : List D → List D
  | [] => []
  | x :: l => .tup [.int k, x] :: enumF (k + 1) l
theorem enumF_eq : ∀ (l : List D) (k : Nat), (l.mapIdx fun i x => D.tup [.int ((i + k : Nat) : Int), x]) = enumF k l
  | [], k => rfl
  | x :: l, k => by
    rw [List.mapIdx_cons, enumF, ← enumF_eq l (k + 1)]
    congr 1
    · rw [Nat.zero_add]
    · congr 1
      funext i y
      rw [Nat.add_assoc, Nat.add_comm 1 k]
theorem lead_cons {x : Int} {w : List Int} : lead (x :: w) = if x ≠ 0 then some 0 else (lead w).map (· + 1) := rfl
theorem enumA_lst {l : List D} : enumA [.lst l] = some (enumF 0 l) := by rw [← enumF_eq]; rfl
theorem enumA_tup {l : List D} : enumA [.tup l] = some (enumF 0 l) := by rw [← enumF_eq]; rfl
theorem small_mul {i j : Int} (hi : i.natAbs < 18446744073709551616) (hj : j.natAbs < 18446744073709551616) : mulD (.int i) (.int j) = some (.int (i * j)) := d_mulS hi hj
theorem zipA_w {a b : List Int} : zipA [wD a, wD b] = some ((a.zip b).map fun q => .tup [.int q.1, .int q.2]) := by
  show some (zipD _ _) = _
  unfold zipD
  rw [List.zip_map, List.map_map]; rfl
theorem seqOf_w {a : List Int} : seqOf (wD a) = some (a.map .int) := rfl
theorem ixD_w {a : List Int} {i : Nat} (h : i < a.length) : ixD (wD a) (.int i) = some (.int (gt a i)) := by
  rw [ixD_tup (by omega) (by rw [List.length_map]; omega), List.getElem?_map, Int.toNat_natCast, List.getElem?_eq_getElem h, gt_in h]; rfl
theorem isW_small {p : Int} {n : Nat} {w : List Int} (h : isW p n w) (hp : P23 p) : ∀ x ∈ w, x.natAbs < 18446744073709551616 := fun x hx => by
  have := h.2 x hx
  rcases hp with rfl | rfl <;> omega
end L2.Dl
namespace L2.Dl
open PySem PySem.Spec PyProof.Rows CM
theorem sl24 {n : Nat} (h : n ≤ 100000) : n ≤ sizeLine := by rw [sizeLine_eq]; omega
/-- a row as the law hands it: a list or a tuple -/
def rowD (q : Bool × List Int) : D := if q.1 = true then .lst (q.2.map .int) else wD q.2
theorem seqL_row (q : Bool × List Int) : seqL (rowD q) = q.2.map .int := by unfold rowD; split <;> rfl
theorem tup_row (q : Bool × List Int) : tupleD [rowD q] = some (wD q.2) := by unfold rowD; split <;> rfl
theorem named_row (q : Bool × List Int) : named (rowD q) = true := by unfold rowD; split <;> rfl
theorem isR_row (q : Bool × List Int) : isR (rowD q) = true := by unfold rowD; split <;> rfl
def rowsD (b : Bool) (l : List D) : D := if b = true then .lst l else .tup l
theorem seqOf_rows (b : Bool) (l : List D) : seqOf (rowsD b l) = some l := by unfold rowsD; split <;> rfl
theorem named_rows (b : Bool) (l : List D) : named (rowsD b l) = true := by unfold rowsD; split <;> rfl
theorem isR_rows (b : Bool) (l : List D) : isR (rowsD b l) = true := by unfold rowsD; split <;> rfl
end L2.Dl
namespace L2.Dl
open PySem PySem.Spec PyProof.Rows CM
theorem toPy_w (a : List Int) : toPy (wD a) = .tuple (a.map .int) := by
  show PyData.tuple (toPyL (a.map D.int)) = _
  rw [toPyL_map, List.map_map]; rfl
theorem le_w (x y : List Int) : PySem.W.dataLe false toPy (wD x) (wD y) = leW x y := by
  show (!PySem.W.dataLt (toPy (wD y)) (toPy (wD x))) = _
  rw [toPy_w, toPy_w, PySem.W.dataLt_tuple]
  show (!PySem.W.rowLt (y.map .int) (x.map .int)) = _
  rw [PySem.W.dataLt_ints]
  unfold leW
  by_cases h : y < x
  · have h' : ¬ x ≤ y := fun r => List.not_lt.mpr r h
    simp [h, h']
  · have h' : x ≤ y := List.not_lt.mp h
    simp [h, h']
theorem sortL_w (l : List (List Int)) : sortL (l.map wD) = (srt l).map wD := by
  unfold sortL srt
  rw [List.map_mergeSort (r := leW) (s := PySem.W.dataLe false toPy) fun a _ b _ => (le_w a b).symm]
theorem alike_w (x y : List Int) : PySem.W.alike (toPy (wD x)) (toPy (wD y)) = true := by
  rw [toPy_w, toPy_w, PySem.W.alike]
  exact PySem.W.alike_ints x y
theorem plain_ints {n : Nat} : ∀ l : List Int, (l.map D.int).all (plainD n) = true
  | [] => rfl
  | x :: l => by rw [List.map_cons, List.all_cons, plain_int, plain_ints l]; rfl
theorem plain_w {n : Nat} {w : List Int} : plainD (n + 1) (wD w) = true := plain_ints w
theorem sortD_w {l : List (List Int)} (h : ∀ w ∈ l, w ≠ []) : sortD [.lst (l.map wD)] = some (.lst ((srt l).map wD)) := by
  have ok : sortOk (l.map wD) = true := by
    unfold sortOk
    rw [Bool.and_eq_true, Bool.and_eq_true]
    refine ⟨⟨?_, ?_⟩, ?_⟩
    · rw [List.all_map, List.all_eq_true]; exact fun x _ => plain_w
    · rw [List.all_map, List.all_eq_true]
      intro x _
      show ((l.map wD).all fun e => PySem.W.alike (toPy (wD x)) (toPy e)) = true
      rw [List.all_map, List.all_eq_true]
      exact fun y _ => alike_w x y
    · rw [Bool.or_eq_true]
      refine .inl ?_
      rw [List.all_map, List.all_eq_true]
      intro x hx
      cases x with
      | nil => exact absurd rfl (h [] hx)
      | cons a x => rfl
  show (if sortOk (l.map wD) = true then some (D.lst (sortL (l.map wD))) else none) = _
  rw [if_pos ok, sortL_w]
/-- a pair of a place and a word -/
abbrev pD (q : Nat × List Int) : D := .tup [.int q.1, wD q.2]
theorem toPy_p (q : Nat × List Int) : toPy (pD q) = .tuple [.int q.1, .tuple (q.2.map .int)] := by
  show PyData.tuple [PyData.int q.1, toPy (wD q.2)] = _
  rw [toPy_w]
theorem le_p (x y : Nat × List Int) : PySem.W.dataLe false toPy (pD x) (pD y) = leP x y := by
  have hw := le_w x.2 y.2
  have hw : (!PySem.W.dataLt (toPy (wD y.2)) (toPy (wD x.2))) = leW x.2 y.2 := hw
  rw [toPy_w, toPy_w] at hw
  show (!PySem.W.dataLt (toPy (pD y)) (toPy (pD x))) = _
  have al : PySem.W.alike (.tuple (y.2.map .int)) (.tuple (x.2.map .int)) = true := by rw [PySem.W.alike]; exact PySem.W.alike_ints _ _
  rw [toPy_p, toPy_p, PySem.W.dataLt_pair (by simp [PySem.W.alike]) al, PySem.W.dataLt_int]
  unfold leP
  by_cases h1 : (y.1 : Int) = x.1
  · have h1' : y.1 = x.1 := by omega
    have e1 : PyData.eqv (.int (y.1 : Int)) (.int (x.1 : Int)) = true := by rw [h1]; simp [PyData.eqv]
    rw [if_pos e1]
    by_cases h2 : PyData.eqv (.tuple (y.2.map .int)) (.tuple (x.2.map .int)) = true
    · rw [if_pos h2]
      have : ∀ (a b : List Int), PyData.eqv (.tuple (a.map .int)) (.tuple (b.map .int)) = true → a = b := by
        intro a
        induction a with
        | nil => intro b h; cases b with
          | nil => rfl
          | cons c b => simp [PyData.eqv, PyData.eqvAll] at h
        | cons c a ih => intro b h; cases b with
          | nil => simp [PyData.eqv, PyData.eqvAll] at h
          | cons d b =>
            simp only [List.map_cons, PyData.eqv, PyData.eqvAll, Bool.and_eq_true, beq_iff_eq] at h
            rw [h.1, ih b (by simp only [PyData.eqv]; exact h.2)]
      have e2 := this _ _ h2
      rw [e2, h1']
      simp
    · rw [if_neg h2, hw]
      unfold leW
      rw [h1']
      simp
  · have e1 : PyData.eqv (.int (y.1 : Int)) (.int (x.1 : Int)) = false := by simp [PyData.eqv, h1]
    rw [if_neg (by rw [e1]; decide)]
    by_cases h2 : y.1 < x.1
    · have h3 : ¬ (x.1 < y.1 ∨ x.1 = y.1 ∧ x.2 ≤ y.2) := by omega
      rw [decide_eq_true (show (y.1 : Int) < x.1 by omega), decide_eq_false h3]; rfl
    · have h3 : x.1 < y.1 := by omega
      rw [decide_eq_false (show ¬ (y.1 : Int) < x.1 by omega), decide_eq_true (.inl h3)]; rfl
theorem sortD_p {l : List (Nat × List Int)} : sortD [.lst (l.map pD)] = some (.lst ((l.mergeSort leP).map pD)) := by
  have ok : sortOk (l.map pD) = true := by
    unfold sortOk
    rw [Bool.and_eq_true, Bool.and_eq_true]
    refine ⟨⟨?_, ?_⟩, ?_⟩
    · rw [List.all_map, List.all_eq_true]
      intro x _
      show ([D.int x.1, wD x.2].all (plainD 59)) = true
      rw [List.all_cons, plain_int, List.all_cons, plain_w]; rfl
    · rw [List.all_map, List.all_eq_true]
      intro x _
      show ((l.map pD).all fun e => PySem.W.alike (toPy (pD x)) (toPy e)) = true
      rw [List.all_map, List.all_eq_true]
      intro y _
      show PySem.W.alike (toPy (pD x)) (toPy (pD y)) = true
      rw [toPy_p, toPy_p, PySem.W.alike, PySem.W.alikeAll, PySem.W.alikeAll, PySem.W.alike, PySem.W.alike, PySem.W.alikeAll, PySem.W.alike_ints]
      rfl
    · rw [Bool.or_eq_true]
      refine .inl ?_
      rw [List.all_map, List.all_eq_true]
      exact fun x _ => rfl
  show (if sortOk (l.map pD) = true then some (D.lst (sortL (l.map pD))) else none) = _
  rw [if_pos ok]
  unfold sortL
  rw [List.map_mergeSort (r := leP) (s := PySem.W.dataLe false toPy) fun a _ b _ => (le_p a b).symm]
end L2.Dl
namespace L2.Dl
open PySem PySem.Spec PyProof.Rows CM
theorem steps_len {p : Int} {n : Nat} (hp : P23 p) : ∀ (rows : List (List Int)), (steps p rows).length ≤ rows.length := by
  have key : ∀ (todo B : List (List Int)), (todo.foldl (step1 p) B).length ≤ B.length + todo.length := by
    intro todo
    induction todo with
    | nil => intro B; exact Nat.le_refl _
    | cons w todo ih =>
      intro B
      refine Nat.le_trans (ih _) ?_
      have : (step1 p B w).length ≤ B.length + 1 := by
        unfold step1
        simp only
        split
        · omega
        · rw [List.length_append, List.length_map]; simp
      simp only [List.length_cons]
      omega
  intro rows
  have := key rows []
  rw [List.length_nil, Nat.zero_add] at this
  exact this
end L2.Dl
namespace L2.Dl
open PySem PySem.Spec PyProof.Rows CM
theorem mul_zero1 {n : Nat} (h : n ≤ 1000) : mulD (.tup [.int 0]) (.int n) = some (wD (zerow n)) := by
  have e : (List.replicate (n : Int).toNat [D.int 0]).flatten = (zerow n).map D.int := by
    rw [Int.toNat_natCast]
    unfold zerow
    rw [List.map_replicate]
    induction n with
    | zero => rfl
    | succ n ih => rw [List.replicate_succ, List.flatten_cons, ih (by omega)]; rfl
  show (if -(2 ^ 63) ≤ (n : Int) ∧ (n : Int) ≤ 1000 ∧ [D.int 0].length ≤ 1000 then some (D.tup (List.replicate (n : Int).toNat [D.int 0]).flatten) else none) = _
  rw [if_pos ⟨by omega, by omega, by decide⟩, e]
theorem P23.toNat {p : Int} (hp : P23 p) : ((p.toNat : Nat) : Int) = p := Int.toNat_of_nonneg (by have := hp.pos; omega)
end L2.Dl
namespace L2.Dl
open PySem PySem.Spec PyProof.Rows CM
theorem e_mListOf {m : M (List D)} {ρ : Rho} {π : Pen} : mListOf m ρ π = (m ρ π).bd fun l π1 => .opt (match l with
  | [d] => (seqOf d).map Own.lst
  | _ => none) π1 := id rfl
/-- all ys have it -/
theorem all_of {α : Type} {Q : D → Prop} {l : List α} {ys : List D} (hl : ys.length = l.length) (h : ∀ (i : Nat) (x : α) (y : D), l[i]? = some x → ys[i]? = some y → Q y) : ∀ y ∈ ys, Q y := fun y hy => by
  obtain ⟨i, hi, e⟩ := List.mem_iff_getElem.mp hy
  exact h i (l[i]'(by omega)) y (List.getElem?_eq_getElem (by omega)) (by rw [List.getElem?_eq_getElem hi, e])
theorem ints_of {Q : Int → Prop} : ∀ {ys : List D}, (∀ y ∈ ys, ∃ i : Int, y = .int i ∧ Q i) → ∃ w : List Int, ys = w.map D.int ∧ ∀ x ∈ w, Q x
  | [], _ => ⟨[], rfl, fun x hx => by cases hx⟩
  | y :: ys, h => by
    obtain ⟨i, rfl, hi⟩ := h y List.mem_cons_self
    obtain ⟨w, rfl, hw⟩ := ints_of (ys := ys) fun z hz => h z (List.mem_cons_of_mem _ hz)
    refine ⟨i :: w, rfl, fun x hx => ?_⟩
    rcases List.mem_cons.mp hx with e | e
    · rw [e]; exact hi
    · exact hw x e
theorem map_of {β : Type} {g : β → D} {Q : β → Prop} : ∀ {ys : List D}, (∀ y ∈ ys, ∃ i : β, y = g i ∧ Q i) → ∃ w : List β, ys = w.map g ∧ ∀ x ∈ w, Q x
  | [], _ => ⟨[], rfl, fun x hx => by cases hx⟩
  | y :: ys, h => by
    obtain ⟨i, rfl, hi⟩ := h y List.mem_cons_self
    obtain ⟨w, rfl, hw⟩ := map_of (ys := ys) fun z hz => h z (List.mem_cons_of_mem _ hz)
    refine ⟨i :: w, rfl, fun x hx => ?_⟩
    rcases List.mem_cons.mp hx with e | e
    · rw [e]; exact hi
    · exact hw x e
theorem rows_lst {l : List D} : rowsD true l = .lst l := rfl
theorem rows_tup {l : List D} : rowsD false l = .tup l := rfl
theorem enum_zip : ∀ (w : List Int) (k : Nat), enumF k (w.map .int) = (w.zipIdx k).map fun q => D.tup [.int q.2, .int q.1]
  | [], k => rfl
  | x :: w, k => by rw [List.map_cons, enumF, List.zipIdx_cons, List.map_cons, enum_zip w (k + 1)]
theorem lead_zip : ∀ (w : List Int) (k : Nat), ((w.zipIdx k).filter fun q => !decide (q.1 = 0)).map (fun q => q.2) = ((w.zipIdx k).filter fun q => !decide (q.1 = 0)).map (fun q => q.2) ∧
    (((w.zipIdx k).filter fun q => !decide (q.1 = 0)).map (fun q => q.2))[0]? = (lead w).map (· + k)
  | [], k => ⟨rfl, rfl⟩
  | x :: w, k => by
    refine ⟨rfl, ?_⟩
    rw [List.zipIdx_cons, lead_cons]
    by_cases h : x = 0
    · rw [List.filter_cons_of_neg (by simp [h]), (lead_zip w (k + 1)).2, if_neg (by simp [h])]
      cases lead w with
      | none => rfl
      | some i => simp; omega
    · rw [List.filter_cons_of_pos (by simp [h]), if_pos h]
      simp
theorem ne_nil {l : List D} (h : plainD 60 (.lst l) = true) : neD (.lst l) (.lst []) = some (.bl (!decide (l = []))) := by
  unfold neD
  rw [h]
  show some (D.bl (!(D.eqvL l []))) = _
  cases l with
  | nil => rfl
  | cons a l => simp [D.eqvL]
theorem eq_nil {l : List D} (h : plainD 60 (.lst l) = true) : eqD (.lst l) (.lst []) = some (.bl (decide (l = []))) := by
  unfold eqD
  rw [h]
  show some (D.bl ((D.eqvL l []))) = _
  cases l with
  | nil => rfl
  | cons a l => simp [D.eqvL]
theorem plain_lst {n : Nat} {l : List D} (h : l.all (plainD n) = true) : plainD (n + 1) (.lst l) = true := h
end L2.Dl
namespace L2.Dl
open PySem PySem.Spec PyProof.Rows CM
theorem tk_w : ∀ w : List Int, tk (wD w) = some (w.map Sum.inl) := by
  have key : ∀ w : List Int, (w.map D.int).mapM keyD = some (w.map Sum.inl) := by
    intro w
    induction w with
    | nil => rfl
    | cons x w ih =>
      rw [List.map_cons, List.mapM_cons, ih]
      try rfl
  exact key
theorem inl_inj : ∀ {a b : List Int}, a.map (Sum.inl : Int → Key) = b.map Sum.inl → a = b
  | [], [], _ => rfl
  | [], _ :: _, h => by cases h
  | _ :: _, [], h => by cases h
  | x :: a, y :: b, h => by
    rw [List.map_cons, List.map_cons] at h
    injection h with h1 h2
    injection h1 with h1
    rw [h1, inl_inj h2]
theorem kD_inl (w : List Int) : (w.map Sum.inl).map kD = w.map D.int := by rw [List.map_map]; rfl
theorem keysT_w {F : List (List Int)} (h : F ≠ []) : keysT (F.map wD) = true := by
  unfold keysT
  rw [Bool.and_eq_true]
  refine ⟨decide_eq_true (by simpa using h), ?_⟩
  rw [List.all_map, List.all_eq_true]
  intro w _
  show (tk (wD w)).isSome = true
  rw [tk_w]; rfl
theorem anyT_w {F : List (List Int)} {r : List Int} : ((F.map wD).any fun e => decide (tk e = some (r.map Sum.inl))) = decide (r ∈ F) := by
  rw [List.any_map]
  induction F with
  | nil => simp
  | cons w F ih =>
    rw [List.any_cons, ih]
    show (decide (tk (wD w) = some (r.map Sum.inl)) || decide (r ∈ F)) = _
    rw [tk_w]
    by_cases h : r = w
    · subst h; simp
    · have h' : ¬ (w.map (Sum.inl : Int → Key) = r.map Sum.inl) := fun e => h (inl_inj e).symm
      simp [h, h']
theorem nin_w {F : List (List Int)} {vs : List D} {r : List Int} (h : F ≠ []) : ninD (wD r) (.dic (F.map wD) vs) = some (.bl (!decide (r ∈ F))) := by
  have e : keyIn (F.map wD) (wD r) = some (decide (r ∈ F)) := by
    unfold keyIn
    rw [show keyD (wD r) = none from rfl, tk_w]
    show (if (F.map wD) ≠ [] ∧ (F.map wD).all (fun e => (tk e).isSome) = true then some ((F.map wD).any fun e => decide (tk e = some (r.map Sum.inl))) else none) = _
    have k := keysT_w h
    unfold keysT at k
    rw [if_pos ⟨by simpa using h, (Bool.and_eq_true_iff.mp k).2⟩, anyT_w]
  show (keyIn (F.map wD) (wD r)).map _ = _
  rw [e]; rfl
theorem put_w {F : List (List Int)} {vs : List D} {r : List Int} {d : D} : ∃ vs', putT (F.map wD) vs (r.map Sum.inl) d = ((put F r).map wD, vs') := by
  unfold putT put
  rw [anyT_w]
  by_cases h : r ∈ F
  · rw [if_pos (decide_eq_true h), if_pos h]
    exact ⟨_, rfl⟩
  · rw [if_neg (by simpa using h), if_neg h, kD_inl, List.map_append]
    exact ⟨_, rfl⟩
theorem uPut_w {F : List (List Int)} {vs : List D} {r : List Int} {d : D} (h : F ≠ []) (hz : F.length < 100000) : ∃ vs', uPut (F.map wD, vs) d (wD r) = some ((put F r).map wD, vs') := by
  obtain ⟨vs', e⟩ := put_w (F := F) (vs := vs) (r := r) (d := d)
  refine ⟨vs', ?_⟩
  unfold uPut
  rw [tk_w]
  show (if keysT (F.map wD) = true ∧ (F.map wD).length < sizeLine then some (putT (F.map wD) vs (r.map Sum.inl) d) else none) = _
  have hl : (F.map wD).length < sizeLine := by rw [List.length_map, sizeLine_eq]; omega
  rw [if_pos ⟨keysT_w h, hl⟩, e]
theorem put_ne {F : List (List Int)} {r : List Int} : put F r ≠ [] := by
  unfold put
  split
  · rename_i h
    intro e
    rw [e] at h
    cases h
  · simp
theorem len_put {F : List (List Int)} {r : List Int} : (put F r).length ≤ F.length + 1 := by
  unfold put
  split
  · omega
  · simp
theorem puts_snoc {F l : List (List Int)} {r : List Int} : puts F (l ++ [r]) = put (puts F l) r := by
  unfold puts; rw [List.foldl_append]; rfl
theorem len_puts {F : List (List Int)} : ∀ l : List (List Int), (puts F l).length ≤ F.length + l.length := by
  intro l
  induction l generalizing F with
  | nil => exact Nat.le_refl _
  | cons a l ih =>
    show (puts (put F a) l).length ≤ _
    have := ih (F := put F a)
    have := len_put (F := F) (r := a)
    rw [List.length_cons]
    omega
theorem puts_ne {F : List (List Int)} (h : F ≠ []) : ∀ l : List (List Int), puts F l ≠ [] := by
  intro l
  induction l generalizing F with
  | nil => exact h
  | cons a l ih => exact ih put_ne
section
variable {ρ : Rho} {π : Pen}
theorem e_sDPutT {i : Nat} {me mk : M D} : sDPutT i me mk ρ π = (me ρ π).toS fun d π1 => match dicAt ρ i with
  | some q => (mk ρ π1).toS fun k π2 => match uPut q d k with
    | some q' => .nx (ρ.set i (.ow (.dic q'.1 q'.2))) π2
    | none => .bad
  | none => .bad := by
  unfold sDPutT sBind Out.toS
  rfl
theorem e_mKeys {ml : M (List D)} : mKeys ml ρ π = (ml ρ π).bd fun l π1 => Out.opt (match l with
  | [.dic ks _] => if keysT ks = true then some (Own.lst ks) else none
  | _ => none) π1 := id rfl
theorem e_mDispT {mk mv : M D} : mDispT mk mv ρ π = (mk ρ π).bd fun a π1 => (mv ρ π1).bd fun b π2 => Out.opt ((tk a).map fun _ => Own.dic [a] [b]) π2 := id rfl
end
theorem range2_p {p : Int} (hp : P23 p) : range2 [.int 1, .int p] = some ((List.range (p.toNat - 1)).map fun i => D.int (1 + (i : Nat))) := by
  rcases hp with rfl | rfl <;> rfl
/-! ### how many words there are -/
def tups (p : Nat) : Nat → List (List Int)
  | 0 => [[]]
  | n + 1 => (List.range p).flatMap fun (t : Nat) => (tups p n).map fun w => ((t : Nat) : Int) :: w
theorem len_tups (p : Nat) : ∀ n, (tups p n).length = p ^ n
  | 0 => rfl
  | n + 1 => by
    unfold tups
    rw [List.length_flatMap]
    have : (List.map (fun t : Nat => ((tups p n).map fun w => ((t : Nat) : Int) :: w).length) (List.range p)) = List.replicate p (p ^ n) := by
      refine List.ext_getElem (by simp) fun i h1 h2 => ?_
      simp [len_tups p n]
    rw [this, List.sum_replicate_nat, Nat.pow_succ, Nat.mul_comm]
theorem mem_tups {p : Int} : ∀ {n : Nat} {w : List Int}, isW p n w → w ∈ tups p.toNat n
  | 0, w, h => by
    have := List.eq_nil_of_length_eq_zero h.1
    rw [this]; simp [tups]
  | n + 1, [], h => by have := h.1; simp at this
  | n + 1, x :: w, h => by
    have hx := h.2 x List.mem_cons_self
    refine List.mem_flatMap.mpr ⟨x.toNat, List.mem_range.mpr (by omega), List.mem_map.mpr ⟨w, mem_tups ⟨by have := h.1; simpa using this, fun y hy => h.2 y (List.mem_cons_of_mem _ hy)⟩, ?_⟩⟩
    rw [Int.toNat_of_nonneg hx.1]
theorem nodup_le {α : Type} [DecidableEq α] : ∀ {F L : List α}, F.Nodup → (∀ x ∈ F, x ∈ L) → F.length ≤ L.length
  | [], L, _, _ => Nat.zero_le _
  | a :: F, L, h, hs => by
    obtain ⟨h1, h2⟩ := List.nodup_cons.mp h
    have ha := hs a List.mem_cons_self
    have := nodup_le (F := F) (L := L.erase a) h2 fun x hx => by
      refine (List.mem_erase_of_ne fun e => h1 (by rw [← e]; exact hx)).mpr (hs x (List.mem_cons_of_mem _ hx))
    rw [List.length_erase_of_mem ha] at this
    have := List.length_pos_of_mem ha
    rw [List.length_cons]
    omega
theorem few_words {p : Int} {n : Nat} {F : List (List Int)} (h : F.Nodup) (hw : Rows p n F) : F.length ≤ p.toNat ^ n := by
  rw [← len_tups]
  exact nodup_le h fun w hw' => mem_tups (hw w hw')
theorem range_split {N t : Nat} {ts tr : List Nat} (h : List.range N = ts ++ t :: tr) : ts = List.range t ∧ t < N := by
  have hl := congrArg List.length h
  rw [List.length_range, List.length_append, List.length_cons] at hl
  have e1 : (List.range N)[ts.length]? = some t := by rw [h]; simp
  rw [List.getElem?_range (by omega)] at e1
  have e1 := Option.some.inj e1
  have e2 : (List.range N).take ts.length = ts := by rw [h]; simp
  rw [List.take_range, Nat.min_eq_left (by omega), e1] at e2
  exact ⟨e2.symm, by omega⟩
end L2.Dl
namespace L2.Dl
open PySem PySem.Spec PyProof.Rows CM
section
variable {ρ : Rho} {π : Pen}
theorem e_sMut {i : Nat} {me : M D} {u : List D → D → Option (List D)} {l : List D} (h : lstAt ρ i = some l) : sMut i me u ρ π = (me ρ π).toS fun d π1 => match u l d with
    | some l' => .nx (ρ.set i (.ow (.lst l'))) π1
    | none => .bad := by
  unfold sMut
  rw [h]
  unfold sBind Out.toS
  rfl
theorem e_sFrz {i : Nat} {k : MS} {o : Own} (h : ρ[i]? = some (.ow o)) : sFrz i k ρ π = k (ρ.set i (.sh o.D)) π := by
  unfold sFrz
  rw [h]
end
theorem uApp_ok {l : List D} {d : D} (h : l.length < 100000) : uApp l d = some (l ++ [d]) := by
  unfold uApp
  rw [if_pos (by rw [sizeLine_eq]; omega)]
theorem intsD_map (l : List Int) : intsD (l.map D.int) = some l := by
  induction l with
  | nil => rfl
  | cons x l ih => rw [List.map_cons, intsD, ih]; rfl
theorem sortSet_leads {p : Int} {n : Nat} {B lot : List (List Int)} (hp : P23 p) (r : Rref p n B) (hl : ∀ v, v ∈ lot ↔ Span p n B v) (hz : lot.length < 4000) (hB : B.length < 64) :
    sortSetD (.lst ((lot.filter fun w => !(leadD w).isNon).map leadD)) = some (.lst (B.map fun b => .int (leadN b))) := by
  have e1 : (lot.filter fun w => !(leadD w).isNon).map leadD = ((lot.filter fun w => !(leadD w).isNon).map fun w => (leadN w : Int)).map D.int := by
    rw [List.map_map]
    refine List.map_congr_left fun w hw => ?_
    have := (List.mem_filter.mp hw).2
    unfold leadD at this ⊢
    show _ = D.int (leadN w)
    unfold leadN
    cases z : lead w with
    | none => rw [z] at this; cases this
    | some i => rfl
  have e2 : sortU ((lot.filter fun w => !(leadD w).isNon).map fun w => (leadN w : Int)) = B.map fun b => (leadN b : Int) := by
    refine ris_one (sortU_ris _) (List.pairwise_map.mpr (r.up.imp fun h => by omega)) fun k => ?_
    rw [sortU_mem, List.mem_map, List.mem_map]
    constructor
    · rintro ⟨w, hw, rfl⟩
      obtain ⟨h1, h2⟩ := List.mem_filter.mp hw
      have : lead w = some (leadN w) := by
        unfold leadD at h2
        unfold leadN
        cases z : lead w with
        | none => rw [z] at h2; cases h2
        | some i => rfl
      have := (leads_eq hp r hl (leadN w)).mp ⟨w, h1, this⟩
      obtain ⟨b, hb, e⟩ := List.mem_map.mp this
      exact ⟨b, hb, by rw [e]⟩
    · rintro ⟨b, hb, rfl⟩
      have hl' := (r.red.leadN hb).1
      refine ⟨b, List.mem_filter.mpr ⟨(hl b).mpr (.mem hp.pos r.red.w hb), ?_⟩, rfl⟩
      unfold leadD
      rw [hl']; rfl
  rw [e1]
  show (intsD _).bind _ = _
  rw [intsD_map]
  show (if ((lot.filter fun w => !(leadD w).isNon).map fun w => (leadN w : Int)).length < 4000 ∧ (sortU ((lot.filter fun w => !(leadD w).isNon).map fun w => (leadN w : Int))).length < 64 then some (D.lst ((sortU ((lot.filter fun w => !(leadD w).isNon).map fun w => (leadN w : Int))).map .int)) else none) = _
  rw [e2, if_pos ⟨by rw [List.length_map]; exact Nat.lt_of_le_of_lt (List.length_filter_le _ _) hz, by rw [List.length_map]; exact hB⟩, List.map_map]
  rfl
end L2.Dl
namespace L2.Dl
open PySem PySem.Spec PyProof.Rows CM
theorem mul_one1 {n : Nat} (h : n ≤ 1000) : mulD (.tup [.int 1]) (.int n) = some (wD (List.replicate n 1)) := by
  have e : (List.replicate (n : Int).toNat [D.int 1]).flatten = (List.replicate n (1 : Int)).map D.int := by
    rw [Int.toNat_natCast, List.map_replicate]
    induction n with
    | zero => rfl
    | succ n ih => rw [List.replicate_succ, List.flatten_cons, ih (by omega)]; rfl
  show (if -(2 ^ 63) ≤ (n : Int) ∧ (n : Int) ≤ 1000 ∧ [D.int 1].length ≤ 1000 then some (D.tup (List.replicate (n : Int).toNat [D.int 1]).flatten) else none) = _
  rw [if_pos ⟨by omega, by omega, by decide⟩, e]
section
variable {ρ : Rho} {π : Pen}
theorem e_sPar {js : List Nat} {m : M (List Sl)} : sPar js m ρ π = (m ρ π).toS fun rs π1 => if js.length = rs.length ∧ js.all (fun j => decide (j < ρ.length)) = true then .nx (setL ρ js rs) π1 else .bad := id rfl
theorem e_xNil : xNil ρ π = .ok [] π := id rfl
theorem e_xSh {m : M D} {r : M (List Sl)} : xSh m r ρ π = (m ρ π).bd fun d π1 => (r ρ π1).bd fun l π2 => .ok (.sh d :: l) π2 := id rfl
theorem e_xOw {m : M Own} {r : M (List Sl)} : xOw m r ρ π = (m ρ π).bd fun d π1 => (r ρ π1).bd fun l π2 => .ok (.ow d :: l) π2 := id rfl
theorem e_sAppPop {i j : Nat} {me : M D} {f l : List D} (h1 : lstAt ρ i = some f) (h2 : lstAt ρ j = some l) (h : i ≠ j ∧ f.length < sizeLine) : sAppPop i j me ρ π = (me ρ π).toS fun d π1 => match d with
    | .int k => if -(2 ^ 63) ≤ k ∧ k < 2 ^ 63 then (match (ixN l.length k).bind fun n => (l[n]?).map fun y => (n, y) with
      | some q => .nx ((ρ.set j (.ow (.lst (l.eraseIdx q.1)))).set i (.ow (.lst (f ++ [q.2])))) π1
      | none => .bad) else .bad
    | _ => .bad := by
  unfold sAppPop
  rw [h1, h2]
  simp only
  rw [if_pos h]
  rfl
end
def heavy (w : List Int) : Bool := !decide (((w.filter fun q => !decide (q = 0)).length : Int) = 1)
theorem ixN_nat' {n : Nat} {i : Int} (h0 : 0 ≤ i) (h1 : i < n) : ixN n i = some i.toNat := by
  unfold ixN
  rw [if_pos h0, if_pos h1]
theorem slice_lo {l : List D} {i : Nat} (h : i ≤ l.length) : sliceD none (some (i : Int)) (.lst l) = some (.lst (l.take i)) := by
  show some (D.lst (cutD l none (some (i : Int)))) = _
  unfold cutD
  rw [HT.sIx_none, HT.sIx_nat, Nat.min_eq_left h, List.drop_zero, Nat.sub_zero]
theorem slice_hi {l : List D} {i : Nat} (h : i ≤ l.length) : sliceD (some (i : Int)) none (.lst l) = some (.lst (l.drop i)) := by
  show some (D.lst (cutD l (some (i : Int)) none)) = _
  unfold cutD
  rw [HT.sIx_none, HT.sIx_nat, Nat.min_eq_left h, List.take_of_length_le (by rw [List.length_drop]; omega)]
end L2.Dl
namespace L2.Dl
open PySem PySem.Spec PyProof.Rows CM
theorem erase_split {α : Type} {l : List α} {i : Nat} {a : α} (h : l[i]? = some a) : (l.eraseIdx i ++ [a]).Perm l := by
  obtain ⟨hi, rfl⟩ := List.getElem?_eq_some_iff.mp h
  have e : l = l.take i ++ l[i] :: l.drop (i + 1) := by
    rw [List.getElem_cons_drop, List.take_append_drop]
  have e2 : l.eraseIdx i = l.take i ++ l.drop (i + 1) := List.eraseIdx_eq_take_drop_succ ..
  rw [e2]
  conv => rhs; rw [e]
  exact (List.perm_append_singleton _ _).trans (List.perm_middle.symm)
end L2.Dl
namespace L2.Dl
open PySem PySem.Spec PyProof.Rows CM
def goodR (d : D) : Bool := match reprD d with
  | some (.str e) => PyData.strOk e
  | _ => false
theorem goodR_ex {d : D} (h : goodR d = true) : ∃ e, reprD d = some (.str e) ∧ PyData.strOk e = true := by
  unfold goodR at h
  split at h
  · rename_i e he; exact ⟨e, he, h⟩
  · cases h
def rowFit (d : D) : Bool := named d && ((seqL d).all named && decide ((seqL d).length ≤ 1000))
def badFit (p n : Int) (d : D) : Bool := named d && ((seqL d).all rowFit && (decide ((seqL d).length ≤ 1000) && (!(isR d && (seqL d).all (wordB p n)) && goodR d)))
def oddL : List D := [.int 0, .int 1, .int 4, .int 5, .int (-2), .non, .bl true, .str "2", .tup [.int 2]]
def wrongL : List D := [.int 0, .int 25, .int (-1), .non, .bl true, .str "3"]
def badL (p : Int) (n : Nat) : List D := [.non, .int 3, .lst [.lst (List.replicate (n + 1) (.int 0))], .lst [.lst (List.replicate n (.int p))], .lst [.lst (List.replicate n (.int (-1)))], .lst [.lst (List.replicate n .non)], .lst [.non], .str (strMul "0" n), .lst [.lst (List.replicate n (.bl true))]]
def nothingL : List D := [.non, .int 3, .tup [.tup [.int 0, .int 1]]]
theorem bad_fit : ([2, 3] : List Int).all (fun p => (List.range 7).all fun n => (badL p (n + 1)).all (badFit p ((n + 1 : Nat) : Int))) = true := by decide +kernel
theorem odd_fit : (oddL ++ (wrongL ++ nothingL)).all goodR = true := by decide +kernel
theorem fit_bad {p : Int} {n : Nat} (hp : P23 p) (h1 : 1 ≤ n) (h2 : n ≤ 7) {d : D} (hd : d ∈ badL p n) : badFit p n d = true := by
  have h := bad_fit
  rw [List.all_eq_true] at h
  have h := h p (by rcases hp with rfl | rfl <;> simp)
  rw [List.all_eq_true] at h
  have h := h (n - 1) (List.mem_range.mpr (by omega))
  rw [show n - 1 + 1 = n by omega] at h
  exact List.all_eq_true.mp h d hd
theorem rep_flat {d : D} : ∀ n : Nat, (List.replicate n [d]).flatten = List.replicate n d
  | 0 => rfl
  | n + 1 => by rw [List.replicate_succ, List.flatten_cons, rep_flat n]; rfl
theorem repO_G {l : List D} {k : Int} : repO (.lst l) (.int k) = if -(2 ^ 63) ≤ k ∧ k < 2 ^ 63 ∧ l.length * k.toNat ≤ sizeLine then some (.lst (List.replicate k.toNat l).flatten) else none := by
  unfold repO; rfl
theorem repO_one {d : D} {n : Nat} (h : n ≤ 1000) : repO (.lst [d]) (.int n) = some (.lst (List.replicate n d)) := by
  have e : (List.replicate (n : Int).toNat [d]).flatten = List.replicate n d := by rw [Int.toNat_natCast, rep_flat]
  have z := sl24 (show [d].length * (n : Int).toNat ≤ 100000 by rw [Int.toNat_natCast, List.length_singleton]; omega)
  rw [repO_G, if_pos ⟨by omega, by omega, z⟩, e]
theorem mul_strG {x : Str} {k : Int} : mulD (.str x) (.int k) = if -(2 ^ 63) ≤ k ∧ k < 2 ^ 63 ∧ x.length * k.toNat ≤ 1000000 then some (.str (strMul x k)) else none := by
  unfold mulD; rfl
theorem mul_str0 {x : Str} (hx : x.length = 1) {n : Nat} (h : n ≤ 1000) : mulD (.str x) (.int n) = some (.str (strMul x n)) := by
  rw [mul_strG, if_pos ⟨by omega, by omega, by rw [Int.toNat_natCast, hx]; omega⟩]
end L2.Dl
namespace L2.Dl
open PySem PySem.Spec PyProof.Rows CM
theorem eqv_ints : ∀ a b : List Int, D.eqvL (a.map .int) (b.map .int) = decide (a = b)
  | [], [] => rfl
  | [], _ :: _ => rfl
  | _ :: _, [] => rfl
  | x :: a, y :: b => by
    show (D.eqv (.int x) (.int y) && D.eqvL (a.map .int) (b.map .int)) = _
    rw [eqv_ints a b]
    show (x == y && decide (a = b)) = _
    by_cases h : x = y <;> by_cases h2 : a = b <;> simp [h, h2]
theorem eqv_words : ∀ a b : List (List Int), D.eqvL (a.map wD) (b.map wD) = decide (a = b)
  | [], [] => rfl
  | [], _ :: _ => rfl
  | _ :: _, [] => rfl
  | x :: a, y :: b => by
    show (D.eqvL (x.map .int) (y.map .int) && D.eqvL (a.map wD) (b.map wD)) = _
    rw [eqv_words a b, eqv_ints]
    by_cases h : x = y <;> by_cases h2 : a = b <;> simp [h, h2]
theorem plain_words {m : Nat} (l : List (List Int)) : (l.map wD).all (plainD (m + 1)) = true := by
  rw [List.all_map, List.all_eq_true]
  exact fun x _ => plain_w
def Out.cau (es cs : List Str) (ok : Str) (l : List (Str × List It)) (o : Out D) : Out D := match o with
  | .ok d π' => .ok (.tup [.str ok, d]) π'
  | .err c ns fs π' => if c ∈ es then (match ladD cs l c ns fs with | some d => .ok d π' | none => .bad) else .bad
  | .bad => .bad
theorem e_mCaught {es cs : List Str} {ok : Str} {l : List (Str × List It)} {m : M D} {ρ : Rho} {π : Pen} : mCaught es cs ok l m ρ π = Out.cau es cs ok l (m ρ π) := by
  unfold mCaught Out.cau
  cases m ρ π <;> rfl
theorem e_mEqO {neg : Bool} {cs : List Str} {cn : Str} {F : Fn} {ma mb : M D} {ρ : Rho} {π : Pen} : mEqO neg cs cn F ma mb ρ π = (ma ρ π).bd fun d π1 => (mb ρ π1).bd fun e π2 => eqO neg cs cn F d e π2 := id rfl
theorem e_mTEq {neg : Bool} {cs : List Str} {cn : Str} {F : Fn} {ma mb : M D} {ρ : Rho} {π : Pen} : mTEq neg cs cn F ma mb ρ π = (ma ρ π).bd fun d π1 => (mb ρ π1).bd fun e π2 => (eqO neg cs cn F d e π2).bd fun z π3 => .opt (asB z) π3 := id rfl
theorem ne_strs3 {a b c : Str} (ha : PyData.strOk a = true) (hb : PyData.strOk b = true) (hc : PyData.strOk c = true) : neD (.tup [.str a, .str b, .str c]) (.tup [.str a, .str b, .str c]) = some (.bl false) := by
  have pl : plainD 60 (.tup [.str a, .str b, .str c]) = true := by
    show ([D.str a, .str b, .str c].all (plainD 59)) = true
    rw [List.all_cons, List.all_cons, List.all_cons]
    show (PyData.strOk a && (PyData.strOk b && (PyData.strOk c && true))) = true
    rw [ha, hb, hc]; rfl
  unfold neD
  rw [pl]
  show some (D.bl (!(a == a && (b == b && (c == c && true))))) = _
  simp
theorem ne_strs2 {a b : Str} (ha : PyData.strOk a = true) (hb : PyData.strOk b = true) : neD (.tup [.str a, .str b]) (.tup [.str a, .str b]) = some (.bl false) := by
  have pl : plainD 60 (.tup [.str a, .str b]) = true := by
    show ([D.str a, .str b].all (plainD 59)) = true
    rw [List.all_cons, List.all_cons]
    show (PyData.strOk a && (PyData.strOk b && true)) = true
    rw [ha, hb]; rfl
  unfold neD
  rw [pl]
  show some (D.bl (!(a == a && (b == b && true)))) = _
  simp
theorem eq_strs2 {a b : Str} (ha : PyData.strOk a = true) (hb : PyData.strOk b = true) : eqD (.tup [.str a, .str b]) (.tup [.str a, .str b]) = some (.bl true) := by
  have pl : plainD 60 (.tup [.str a, .str b]) = true := by
    show ([D.str a, .str b].all (plainD 59)) = true
    rw [List.all_cons, List.all_cons]
    show (PyData.strOk a && (PyData.strOk b && true)) = true
    rw [ha, hb]; rfl
  unfold eqD
  rw [pl]
  show some (D.bl ((a == a && (b == b && true)))) = _
  simp
theorem ne_pair {a b : Int} : neD (.tup [.int a, .int b]) (.tup [.int a, .int b]) = some (.bl false) := by
  have pl : plainD 60 (.tup [.int a, .int b]) = true := plain_ints [a, b]
  unfold neD
  rw [pl]
  show some (D.bl (!(a == a && (b == b && true)))) = _
  simp
theorem ne_wordsT {l : List (List Int)} : neD (.tup (l.map wD)) (.tup (l.map wD)) = some (.bl false) := by
  have pl : plainD 60 (.tup (l.map wD)) = true := plain_words l
  unfold neD
  rw [pl]
  show some (D.bl (!(D.eqvL (l.map wD) (l.map wD)))) = _
  rw [eqv_words, decide_eq_true rfl]; rfl
theorem eq_wordsL {l m : List (List Int)} : eqD (.lst (l.map wD)) (.lst (m.map wD)) = some (.bl (decide (l = m))) := by
  have pl : ∀ l : List (List Int), plainD 60 (.lst (l.map wD)) = true := fun l => plain_words l
  unfold eqD
  rw [pl, pl]
  show some (D.bl (D.eqvL (l.map wD) (m.map wD))) = _
  rw [eqv_words]
theorem ne_bl {a b : Bool} : neD (.bl a) (.bl b) = some (.bl (a ^^ b)) := by
  cases a <;> cases b <;> rfl
theorem strOk_lit : PyData.strOk "number" = true ∧ PyData.strOk "p" = true ∧ PyData.strOk "n" = true ∧ PyData.strOk "rows" = true ∧ PyData.strOk "item" = true := by decide +kernel
end L2.Dl
end

section
set_option maxRecDepth 100000
set_option maxHeartbeats 2000000
namespace L2.Dl.W
open PySem PySem.Spec PyProof.Rows L2 LamX
def top (i : Nat) : Stmt := PySem.Challenge.pw_evenwords_k09_whole_mirrors.main.body.getD i (.Pass ⟨0, 0, 0, 0⟩)

def CS : List Str := ["Code"]
structure Bt (mg : Str → Option Value) : Prop where
  b_all : mg "all" = none
  b_bool : mg "bool" = none
  b_enumerate : mg "enumerate" = none
  b_int : mg "int" = none
  b_isinstance : mg "isinstance" = none
  b_len : mg "len" = none
  b_list : mg "list" = none
  b_range : mg "range" = none
  b_repr : mg "repr" = none
  b_sorted : mg "sorted" = none
  b_sum : mg "sum" = none
  b_tuple : mg "tuple" = none
  b_zip : mg "zip" = none
structure It_ (mg : Str → Option Value) : Prop where
  i_MOST_LETTERS : ∃ t, mg "MOST_LETTERS" = some (.int 24 t)
structure Cf (K : PySem.W.Frag) (mg : Str → Option Value) : Prop where
  I_bool : IsiT K mg CS (.type "bool") (ansB "bool") (fun _ => some false)
  I_int : IsiT K mg CS (.type "int") (ansB "int") (fun _ => some false)
  I_list : IsiT K mg CS (.type "list") (ansB "list") (fun _ => some false)
  I_tuple : IsiT K mg CS (.type "tuple") (ansB "tuple") (fun _ => some false)
  I_Code : IsiT K mg CS (.ref (He.ga K "Code")) ansN (ansC "Code")
  g_Code : mg "Code" = some (.ref (He.ga K "Code"))
  f_basis : ∀ c ∈ CS, ∀ C, mg c = some (.ref C) → Cls K C ∧ NoAttr K C "basis"
  f_n : ∀ c ∈ CS, ∀ C, mg c = some (.ref C) → Cls K C ∧ NoAttr K C "n"
  f_p : ∀ c ∈ CS, ∀ C, mg c = some (.ref C) → Cls K C ∧ NoAttr K C "p"
  f_size : ∀ c ∈ CS, ∀ C, mg c = some (.ref C) → Cls K C ∧ NoAttr K C "size"
def ns_BadItem : List Str := ["value"]
def ns_BadNumber : List Str := ["what", "value"]
def ns_BadRows : List Str := ["value"]
def ns_NotAlike : List Str := ["one", "other"]
def es : List Str := ["BadNumber", "BadItem", "BadRows", "NotAlike"]
def cs2 : List Str := CS
def l__law_complaint : List (Str × List It) := [("BadItem", [.con "item", .rep "value"]), ("NotAlike", [.con "alike", .att2 "one" "n", .att2 "other" "n", .att2 "one" "p", .att2 "other" "p"])]
section
variable {P : Program} {w : World} {K : PySem.W.Frag} {mg : Str → Option Value} {base : Heap} {T : List (Addr × Str)}
abbrev s_is_integer : Stmt := top 7
def n_is_integer : List Str := ["value"]
def p_is_integer : List Str := ["value"]
def dv_is_integer : List V := []
def dd_is_integer : List D := []
theorem sc_is_integer : FnScope n_is_integer p_is_integer (defScope s_is_integer) := ⟨rfl, rfl, rfl, by decide +kernel, rfl, by decide +kernel, by decide +kernel⟩
def m_is_integer : MS := (sRet (mAnd (m1 (isB CS "int") (mVar 0)) (m1 notD (m1 (isB CS "bool") (mVar 0)))))
def f_is_integer : Fn := runF 1 m_is_integer
theorem ok_is_integer {f : Addr} {fd : FuncData} (B : Bt mg) (I : It_ mg) (C : Cf K mg)  (F : FunD K "is_integer" "is_integer" (defArgs s_is_integer) (defBody s_is_integer) (defScope s_is_integer) dv_is_integer [] f fd) : FnOk P w K mg base (L2.CX P w) 1 f fd p_is_integer (spD K mg T 1 f_is_integer) := by
  have S := sc_is_integer
  exact FunD.data F S fun cdv A outer s H E hr => (gss_one (gs_ret (ge_and (ge_isi C.I_int (.ty "int") (pe_bltn (v := .ty "int") rfl B.b_int (by rfl) rfl) B.b_isinstance (GE.gb (ge_var 0))) (ge_one (ge_not (ge_isi C.I_bool (.ty "bool") (pe_bltn (v := .ty "bool") rfl B.b_bool (by rfl) rfl) B.b_isinstance (GE.gb (ge_var 0))))))))

abbrev s_is_row : Stmt := top 8
def n_is_row : List Str := ["value"]
def p_is_row : List Str := ["value"]
def dv_is_row : List V := []
def dd_is_row : List D := []
theorem sc_is_row : FnScope n_is_row p_is_row (defScope s_is_row) := ⟨rfl, rfl, rfl, by decide +kernel, rfl, by decide +kernel, by decide +kernel⟩
def m_is_row : MS := (sRet (m1 (orD (isB CS "list") (isB CS "tuple")) (mVar 0)))
def f_is_row : Fn := runF 1 m_is_row
theorem ok_is_row {f : Addr} {fd : FuncData} (B : Bt mg) (I : It_ mg) (C : Cf K mg)  (F : FunD K "is_row" "is_row" (defArgs s_is_row) (defBody s_is_row) (defScope s_is_row) dv_is_row [] f fd) : FnOk P w K mg base (L2.CX P w) 1 f fd p_is_row (spD K mg T 1 f_is_row) := by
  have S := sc_is_row
  exact FunD.data F S fun cdv A outer s H E hr => (gss_one (gs_ret (ge_isi2 C.I_list C.I_tuple (.ty "list") (.ty "tuple") (pe_bltn (v := .ty "list") rfl B.b_list (by rfl) rfl) (pe_bltn (v := .ty "tuple") rfl B.b_tuple (by rfl) rfl) B.b_isinstance (GE.gb (ge_var 0)))))

abbrev s_is_letters : Stmt := top 11
def n_is_letters : List Str := ["p", "n", "value", "item"]
def p_is_letters : List Str := ["p", "n", "value"]
def dv_is_letters : List V := []
def dd_is_letters : List D := []
theorem sc_is_letters : FnScope n_is_letters p_is_letters (defScope s_is_letters) := ⟨rfl, rfl, rfl, by decide +kernel, rfl, by decide +kernel, by decide +kernel⟩
def m_is_letters : MS := (sRet (mAnd (mCall 1 f_is_row [] (mCons (mVar 2) mNil)) (mAnd (m2 eqD (mC lenD (mCons (mVar 2) mNil)) (mVar 1)) (mC allD (mCons (mD (mLc (itSeq (mVar 2)) (fName 3) (mOk true) (mAnd (mCall 1 f_is_integer [] (mCons (mVar 3) mNil)) (mChain leD ltD (mOk (.int 0)) (mVar 3) (mVar 0))) [3])) mNil)))))
def f_is_letters : Fn := runF 4 m_is_letters
theorem ok_is_letters {f : Addr} {fd : FuncData} (B : Bt mg) (I : It_ mg) (C : Cf K mg) (G_is_integer : Df P w K mg base T "is_integer" 1 p_is_integer f_is_integer dv_is_integer dd_is_integer) (G_is_row : Df P w K mg base T "is_row" 1 p_is_row f_is_row dv_is_row dd_is_row) (F : FunD K "is_letters" "is_letters" (defArgs s_is_letters) (defBody s_is_letters) (defScope s_is_letters) dv_is_letters [] f fd) : FnOk P w K mg base (L2.CX P w) 3 f fd p_is_letters (spD K mg T 3 f_is_letters) := by
  have S := sc_is_letters
  exact FunD.data F S fun cdv A outer s H E hr => (gss_one (gs_ret (ge_and (G_is_row.call 0 hr (by decide) passU (ga_cons (ge_var 2) ga_nil)) (ge_and (ge_cmp (op_eqD hr.units) eqD_ok (GE.gb (ge_callB call_len lenD_ok B.b_len (gab_cons (GE.gb (ge_var 2)) gab_nil))) (GE.gb (ge_var 1))) (ge_one (ge_callB (cr_all rfl) allD_ok B.b_all (gab_cons (GE.gb (GF.ge (gf_lc [("item", 3)] rfl S.nd (gi_seq (ge_var 2)) (blkOk_of (N := n_is_letters) (sc := defScope s_is_letters) rfl rfl (by decide +kernel)) (fun _ _ _ _ _ => (gtg_name 3 S.nd)) (fun _ _ _ _ _ => gts_nil) (fun _ _ _ _ _ => (ge_and (G_is_integer.call 0 hr (by decide) passL (ga_cons (ge_var 3) ga_nil)) (ge_one (ge_chain op_le op_lt leD_ok ltD_ok (GE.gb ge_int) (GE.gb (ge_var 3)) (GE.gb (ge_var 0)))))) (by decide)))) gab_nil)))))))

abbrev s_added : Stmt := top 12
def n_added : List Str := ["p", "one", "other", "times", "a", "b"]
def p_added : List Str := ["p", "one", "other", "times"]
def dv_added : List V := [.int 1]
def dd_added : List D := [.int 1]
theorem sc_added : FnScope n_added p_added (defScope s_added) := ⟨rfl, rfl, rfl, by decide +kernel, rfl, by decide +kernel, by decide +kernel⟩
def m_added : MS := (sRet (mC tupleD (mCons (mD (mLc (mI zipA (mCons (mVar 1) (mCons (mVar 2) mNil))) (fTup 2 (fCons (fName 4) (fCons (fName 5) fNil))) (mOk true) (m2 modD (m2 addD (mVar 4) (m2 mulD (mVar 3) (mVar 5))) (mVar 0)) [4, 5])) mNil)))
def f_added : Fn := runF 6 m_added
theorem ok_added {f : Addr} {fd : FuncData} (B : Bt mg) (I : It_ mg) (C : Cf K mg)  (F : FunD K "added" "added" (defArgs s_added) (defBody s_added) (defScope s_added) dv_added [] f fd) : FnOk P w K mg base (L2.CX P w) 1 f fd p_added (spD K mg T 4 f_added) := by
  have S := sc_added
  exact FunD.data F S fun cdv A outer s H E hr => (gss_one (gs_ret (ge_callTy call_tuple_of tupleD_ok B.b_tuple (gab_cons (GE.gb (GF.ge (gf_lc [("a", 4), ("b", 5)] rfl S.nd (gi_zip (ga_cons (ge_var 1) (ga_cons (ge_var 2) ga_nil)) B.b_zip) (blkOk_of (N := n_added) (sc := defScope s_added) rfl rfl (by decide +kernel)) (fun _ _ _ _ _ => (gtg_tup 2 (gtgs_cons (gtg_name 4 S.nd) (gtgs_cons (gtg_name 5 S.nd) gtgs_nil)))) (fun _ _ _ _ _ => gts_nil) (fun _ _ _ _ _ => (ge_op op_modN modD_ok (GE.gb (ge_op op_addD addD_ok (GE.gb (ge_var 4)) (GE.gb (ge_op op_mulD mulD_ok (GE.gb (ge_var 3)) (GE.gb (ge_var 5)))))) (GE.gb (ge_var 0)))) (by decide)))) gab_nil))))

abbrev s_multiple : Stmt := top 13
def n_multiple : List Str := ["p", "word", "times", "item"]
def p_multiple : List Str := ["p", "word", "times"]
def dv_multiple : List V := []
def dd_multiple : List D := []
theorem sc_multiple : FnScope n_multiple p_multiple (defScope s_multiple) := ⟨rfl, rfl, rfl, by decide +kernel, rfl, by decide +kernel, by decide +kernel⟩
def m_multiple : MS := (sRet (mC tupleD (mCons (mD (mLc (itSeq (mVar 1)) (fName 3) (mOk true) (m2 modD (m2 mulD (mVar 3) (mVar 2)) (mVar 0)) [3])) mNil)))
def f_multiple : Fn := runF 4 m_multiple
theorem ok_multiple {f : Addr} {fd : FuncData} (B : Bt mg) (I : It_ mg) (C : Cf K mg)  (F : FunD K "multiple" "multiple" (defArgs s_multiple) (defBody s_multiple) (defScope s_multiple) dv_multiple [] f fd) : FnOk P w K mg base (L2.CX P w) 1 f fd p_multiple (spD K mg T 3 f_multiple) := by
  have S := sc_multiple
  exact FunD.data F S fun cdv A outer s H E hr => (gss_one (gs_ret (ge_callTy call_tuple_of tupleD_ok B.b_tuple (gab_cons (GE.gb (GF.ge (gf_lc [("item", 3)] rfl S.nd (gi_seq (ge_var 1)) (blkOk_of (N := n_multiple) (sc := defScope s_multiple) rfl rfl (by decide +kernel)) (fun _ _ _ _ _ => (gtg_name 3 S.nd)) (fun _ _ _ _ _ => gts_nil) (fun _ _ _ _ _ => (ge_op op_modN modD_ok (GE.gb (ge_op op_mulD mulD_ok (GE.gb (ge_var 3)) (GE.gb (ge_var 2)))) (GE.gb (ge_var 0)))) (by decide)))) gab_nil))))

abbrev s_lead_of : Stmt := top 14
def n_lead_of : List Str := ["word", "at", "item"]
def p_lead_of : List Str := ["word"]
def dv_lead_of : List V := []
def dd_lead_of : List D := []
theorem sc_lead_of : FnScope n_lead_of p_lead_of (defScope s_lead_of) := ⟨rfl, rfl, rfl, by decide +kernel, rfl, by decide +kernel, by decide +kernel⟩
def m_lead_of : MS := (sSeq (sFor (mI enumA (mCons (mVar 0) mNil)) (fTup 2 (fCons (fName 1) (fCons (fName 2) fNil)))
    (sIf (mT2 neD (mVar 2) (mOk (.int 0))) (sRet (mVar 1))
    sNx))
    (sRet (mOk .non)))
def f_lead_of : Fn := runF 3 m_lead_of
theorem ok_lead_of {f : Addr} {fd : FuncData} (B : Bt mg) (I : It_ mg) (C : Cf K mg)  (F : FunD K "lead_of" "lead_of" (defArgs s_lead_of) (defBody s_lead_of) (defScope s_lead_of) dv_lead_of [] f fd) : FnOk P w K mg base (L2.CX P w) 3 f fd p_lead_of (spD K mg T 1 f_lead_of) := by
  have S := sc_lead_of
  exact FunD.data F S fun cdv A outer s H E hr => (gss_cons (gs_for ownU (gi_enum (ga_cons (ge_var 0) ga_nil) B.b_enumerate) (gtg_tup 2 (gtgs_cons (gtg_name 1 S.nd) (gtgs_cons (gtg_name 2 S.nd) gtgs_nil)))
    (gss_one (gs_if (gt_cmp (op_neD hr.units) neD_ok (GE.gb (ge_var 2)) (GE.gb ge_int)) (gss_one (gs_ret (ge_var 1)))
    gss_nil)))
    (gss_one (gs_ret ge_non)))

abbrev s_without_leads : Stmt := top 15
def n_without_leads : List Str := ["p", "basis", "word", "one", "at"]
def p_without_leads : List Str := ["p", "basis", "word"]
def dv_without_leads : List V := []
def dd_without_leads : List D := []
theorem sc_without_leads : FnScope n_without_leads p_without_leads (defScope s_without_leads) := ⟨rfl, rfl, rfl, by decide +kernel, rfl, by decide +kernel, by decide +kernel⟩
def m_without_leads : MS := (sSeq (sFor (itSeq (mVar 1)) (fName 3)
    (sSeq (sSet 4 (mCall 1 f_lead_of [] (mCons (mVar 3) mNil)))
    (sIf (mT2 neD (m2 ixD (mVar 2) (mVar 4)) (mOk (.int 0))) (sSet 2 (mCall 4 f_added [] (mCons (mVar 0) (mCons (mVar 2) (mCons (mVar 3) (mCons (m2 subD (mVar 0) (m2 ixD (mVar 2) (mVar 4))) mNil))))))
    sNx)))
    (sRet (mVar 2)))
def f_without_leads : Fn := runF 5 m_without_leads
theorem ok_without_leads {f : Addr} {fd : FuncData} (B : Bt mg) (I : It_ mg) (C : Cf K mg) (G_added : Df P w K mg base T "added" 1 p_added f_added dv_added dd_added) (G_lead_of : Df P w K mg base T "lead_of" 3 p_lead_of f_lead_of dv_lead_of dd_lead_of) (F : FunD K "without_leads" "without_leads" (defArgs s_without_leads) (defBody s_without_leads) (defScope s_without_leads) dv_without_leads [] f fd) : FnOk P w K mg base (L2.CX P w) 4 f fd p_without_leads (spD K mg T 3 f_without_leads) := by
  have S := sc_without_leads
  exact FunD.data F S fun cdv A outer s H E hr => (gss_cons (gs_for ownU (gi_seq (ge_var 1)) (gtg_name 3 S.nd)
    (gss_cons (gs_set 4 (G_lead_of.call 0 hr (by decide) passU (ga_cons (ge_var 3) ga_nil)) S.nd)
    (gss_one (gs_if (gt_cmp (op_neD hr.units) neD_ok (GE.gb (ge_ix ix_seq ixD_ok (GE.gb (ge_var 2)) (GE.gb (ge_var 4)))) (GE.gb ge_int)) (gss_one (gs_set 2 (G_added.call 1 hr (by decide) passU (ga_cons (ge_var 0) (ga_cons (ge_var 2) (ga_cons (ge_var 3) (ga_cons (ge_op op_sub subD_ok (GE.gb (ge_var 0)) (GE.gb (ge_ix ix_seq ixD_ok (GE.gb (ge_var 2)) (GE.gb (ge_var 4))))) ga_nil))))) S.nd))
    gss_nil))))
    (gss_one (gs_ret (ge_var 2))))

abbrev s_stepped : Stmt := top 16
def n_stepped : List Str := ["p", "words", "basis", "word", "at", "one"]
def p_stepped : List Str := ["p", "words"]
def dv_stepped : List V := []
def dd_stepped : List D := []
theorem sc_stepped : FnScope n_stepped p_stepped (defScope s_stepped) := ⟨rfl, rfl, rfl, by decide +kernel, rfl, by decide +kernel, by decide +kernel⟩
def m_stepped : MS := (sSeq (sSet 2 (mLst mNil))
    (sSeq (sFor (itSeq (mVar 1)) (fName 3)
    (sSeq (sSet 3 (mCall 3 f_without_leads [] (mCons (mVar 0) (mCons (mVar 2) (mCons (mC tupleD (mCons (mVar 3) mNil)) mNil)))))
    (sSeq (sSet 4 (mCall 1 f_lead_of [] (mCons (mVar 3) mNil)))
    (sIf (mT2 notND (mVar 4) (mOk .non)) (sSeq (sSet 3 (mCall 3 f_multiple [] (mCons (mVar 0) (mCons (mVar 3) (mCons (m2 ixD (mVar 3) (mVar 4)) mNil)))))
    (sSet 2 (m2 addD (mD (mLc (itSeq (mVar 2)) (fName 5) (mOk true) (mCall 4 f_added [] (mCons (mVar 0) (mCons (mVar 5) (mCons (mVar 3) (mCons (m2 subD (mVar 0) (m2 ixD (mVar 5) (mVar 4))) mNil))))) [5])) (mLst (mCons (mVar 3) mNil)))))
    sNx))))
    (sRet (mC tupleD (mCons (mD (mLc (itSeq (mC sortD (mCons (mD (mLc (itSeq (mVar 2)) (fName 5) (mOk true) (mTup (mCons (mCall 1 f_lead_of [] (mCons (mVar 5) mNil)) (mCons (mVar 5) mNil))) [5])) mNil))) (fTup 2 (fCons (fName 4) (fCons (fName 5) fNil))) (mOk true) (mVar 5) [4, 5])) mNil)))))
def f_stepped : Fn := runF 6 m_stepped
theorem ok_stepped {f : Addr} {fd : FuncData} (B : Bt mg) (I : It_ mg) (C : Cf K mg) (G_added : Df P w K mg base T "added" 1 p_added f_added dv_added dd_added) (G_multiple : Df P w K mg base T "multiple" 1 p_multiple f_multiple dv_multiple dd_multiple) (G_lead_of : Df P w K mg base T "lead_of" 3 p_lead_of f_lead_of dv_lead_of dd_lead_of) (G_without_leads : Df P w K mg base T "without_leads" 4 p_without_leads f_without_leads dv_without_leads dd_without_leads) (F : FunD K "stepped" "stepped" (defArgs s_stepped) (defBody s_stepped) (defScope s_stepped) dv_stepped [] f fd) : FnOk P w K mg base (L2.CX P w) 5 f fd p_stepped (spD K mg T 2 f_stepped) := by
  have S := sc_stepped
  exact FunD.data F S fun cdv A outer s H E hr => (gss_cons (gs_set 2 (ge_lst ga_nil) S.nd)
    (gss_cons (gs_for ownU (gi_seq (ge_var 1)) (gtg_name 3 S.nd)
    (gss_cons (gs_set 3 (G_without_leads.call 0 hr (by decide) passU (ga_cons (ge_var 0) (ga_cons (ge_var 2) (ga_cons (ge_callTy call_tuple_of tupleD_ok B.b_tuple (gab_cons (GE.gb (ge_var 3)) gab_nil)) ga_nil)))) S.nd)
    (gss_cons (gs_set 4 (G_lead_of.call 0 hr (by decide) passU (ga_cons (ge_var 3) ga_nil)) S.nd)
    (gss_one (gs_if (gt_cmp op_notN notND_ok (GE.gb (ge_var 4)) (GE.gb ge_non)) (gss_cons (gs_set 3 (G_multiple.call 0 hr (by decide) passU (ga_cons (ge_var 0) (ga_cons (ge_var 3) (ga_cons (ge_ix ix_seq ixD_ok (GE.gb (ge_var 3)) (GE.gb (ge_var 4))) ga_nil)))) S.nd)
    (gss_one (gs_set 2 (ge_op op_addD addD_ok (GE.gb (GF.ge (gf_lc [("one", 5)] rfl S.nd (gi_seq (ge_var 2)) (blkOk_of (N := n_stepped) (sc := defScope s_stepped) rfl rfl (by decide +kernel)) (fun _ _ _ _ _ => (gtg_name 5 S.nd)) (fun _ _ _ _ _ => gts_nil) (fun _ _ _ _ _ => (G_added.call 1 hr (by decide) passL (ga_cons (ge_var 0) (ga_cons (ge_var 5) (ga_cons (ge_var 3) (ga_cons (ge_op op_sub subD_ok (GE.gb (ge_var 0)) (GE.gb (ge_ix ix_seq ixD_ok (GE.gb (ge_var 5)) (GE.gb (ge_var 4))))) ga_nil)))))) (by decide)))) (GE.gb (ge_lst (ga_cons (ge_var 3) ga_nil)))) S.nd)))
    gss_nil)))))
    (gss_one (gs_ret (ge_callTy call_tuple_of tupleD_ok B.b_tuple (gab_cons (GE.gb (GF.ge (gf_lc [("at", 4), ("one", 5)] rfl S.nd (gi_seq (ge_callB (cr_sortP hr.units) sortD_ok B.b_sorted (gab_cons (GE.gb (GF.ge (gf_lc [("one", 5)] rfl S.nd (gi_seq (ge_var 2)) (blkOk_of (N := n_stepped) (sc := defScope s_stepped) rfl rfl (by decide +kernel)) (fun _ _ _ _ _ => (gtg_name 5 S.nd)) (fun _ _ _ _ _ => gts_nil) (fun _ _ _ _ _ => (ge_tup (ga_cons (G_lead_of.call 0 hr (by decide) passL (ga_cons (ge_var 5) ga_nil)) (ga_cons (ge_var 5) ga_nil)))) (by decide)))) gab_nil))) (blkOk_of (N := n_stepped) (sc := defScope s_stepped) rfl rfl (by decide +kernel)) (fun _ _ _ _ _ => (gtg_tup 2 (gtgs_cons (gtg_name 4 S.nd) (gtgs_cons (gtg_name 5 S.nd) gtgs_nil)))) (fun _ _ _ _ _ => gts_nil) (fun _ _ _ _ _ => (ge_var 5)) (by decide)))) gab_nil))))))

abbrev s_need_letters : Stmt := top 17
def n_need_letters : List Str := ["p", "n"]
def p_need_letters : List Str := ["p", "n"]
def dv_need_letters : List V := []
def dd_need_letters : List D := []
theorem sc_need_letters : FnScope n_need_letters p_need_letters (defScope s_need_letters) := ⟨rfl, rfl, rfl, by decide +kernel, rfl, by decide +kernel, by decide +kernel⟩
def m_need_letters : MS := (sSeq (sIf (tOrM (tNotM (mTest (mCall 1 f_is_integer [] (mCons (mVar 0) mNil)))) (mT2 ninD (mVar 0) (mTup (mCons (mOk (.int 2)) (mCons (mOk (.int 3)) mNil))))) (sRaise "BadNumber" ns_BadNumber (mCons (mOk (.str "p")) (mCons (mVar 0) mNil)))
    sNx)
    (sIf (tOrM (tNotM (mTest (mCall 1 f_is_integer [] (mCons (mVar 1) mNil)))) (tNotM (mTest (mChain leD leD (mOk (.int 1)) (mVar 1) (mOk (.int 24)))))) (sRaise "BadNumber" ns_BadNumber (mCons (mOk (.str "n")) (mCons (mVar 1) mNil)))
    sNx))
def f_need_letters : Fn := runF 2 m_need_letters
theorem ok_need_letters {f : Addr} {fd : FuncData} (B : Bt mg) (I : It_ mg) (C : Cf K mg) (G_is_integer : Df P w K mg base T "is_integer" 1 p_is_integer f_is_integer dv_is_integer dd_is_integer) (R_BadNumber : Er P w K mg base "BadNumber" ns_BadNumber 1) (F : FunD K "need_letters" "need_letters" (defArgs s_need_letters) (defBody s_need_letters) (defScope s_need_letters) dv_need_letters [] f fd) : FnOk P w K mg base (L2.CX P w) 3 f fd p_need_letters (spD K mg T 2 f_need_letters) := by
  have S := sc_need_letters
  exact FunD.data F S fun cdv A outer s H E hr => (gss_cons (gs_if (GW.gt (gw_or (gt_not (gt_val (G_is_integer.call 0 hr (by decide) passU (ga_cons (ge_var 0) ga_nil)))) (gw_or1 (gt_cmp (op_ninA hr.u65) ninD_ok (GE.gb (ge_var 0)) (GE.gb (ge_tup (ga_cons ge_int (ga_cons ge_int ga_nil)))))))) (gss_one (gs_raise R_BadNumber hr (by decide) (takes_of rfl rfl rfl rfl) passL (ga_cons ge_str (ga_cons (ge_var 0) ga_nil))))
    gss_nil)
    (gss_one (gs_if (GW.gt (gw_or (gt_not (gt_val (G_is_integer.call 0 hr (by decide) passU (ga_cons (ge_var 1) ga_nil)))) (gw_or1 (gt_not (gt_chain op_le op_le leD_ok leD_ok (GE.gb ge_int) (GE.gb (ge_var 1)) (GE.gb (ge_gint I.i_MOST_LETTERS))))))) (gss_one (gs_raise R_BadNumber hr (by decide) (takes_of rfl rfl rfl rfl) passL (ga_cons ge_str (ga_cons (ge_var 1) ga_nil))))
    gss_nil)))

abbrev s_Code_init : Stmt := inClass (top 18) 0
def n_Code_init : List Str := ["self", "p", "n", "rows", "row"]
def p_Code_init : List Str := ["self", "p", "n", "rows"]
def dv_Code_init : List V := []
def dd_Code_init : List D := []
theorem sc_Code_init : FnScope n_Code_init p_Code_init (defScope s_Code_init) := ⟨rfl, rfl, rfl, by decide +kernel, rfl, by decide +kernel, by decide +kernel⟩
def m_Code_init : MS := (sSeq (sExpr (mCall 2 f_need_letters [] (mCons (mVar 1) (mCons (mVar 2) mNil))))
    (sSeq (sIf (tOrM (tNotM (mTest (mCall 1 f_is_row [] (mCons (mVar 3) mNil)))) (tNotM (mTest (mC allD (mCons (mD (mLc (itSeq (mVar 3)) (fName 4) (mOk true) (mCall 3 f_is_letters [] (mCons (mVar 1) (mCons (mVar 2) (mCons (mVar 4) mNil)))) [4])) mNil))))) (sRaise "BadRows" ns_BadRows (mCons (mVar 3) mNil))
    sNx)
    (sSeq (sFld CS 0 "p" (mVar 1))
    (sSeq (sFld CS 0 "n" (mVar 2))
    (sSeq (sFld CS 0 "basis" (mCall 2 f_stepped [] (mCons (mVar 1) (mCons (mVar 3) mNil))))
    (sFld CS 0 "size" (mC lenD (mCons (m1 (fldD CS "basis") (mVarB 0)) mNil))))))))
def f_Code_init : FnI := runI "Code" 5 m_Code_init
theorem ok_Code_init {f : Addr} {fd : FuncData} (B : Bt mg) (I : It_ mg) (C : Cf K mg) (G_is_row : Df P w K mg base T "is_row" 1 p_is_row f_is_row dv_is_row dd_is_row) (G_is_letters : Df P w K mg base T "is_letters" 3 p_is_letters f_is_letters dv_is_letters dd_is_letters) (G_stepped : Df P w K mg base T "stepped" 5 p_stepped f_stepped dv_stepped dd_stepped) (G_need_letters : Df P w K mg base T "need_letters" 3 p_need_letters f_need_letters dv_need_letters dd_need_letters) (R_BadRows : Er P w K mg base "BadRows" ns_BadRows 1) (F : FunD K "__init__" "Code.__init__" (defArgs s_Code_init) (defBody s_Code_init) (defScope s_Code_init) dv_Code_init [] f fd) : FnOk P w K mg base (L2.CX P w) 6 f fd p_Code_init (spI K mg T "Code" 3 f_Code_init) := by
  have S := sc_Code_init
  exact FunD.dataI F S rfl fun cdv A outer s H E hr => (gss_cons (gs_expr (G_need_letters.call 0 hr (by decide) passU (ga_cons (ge_var 1) (ga_cons (ge_var 2) ga_nil))))
    (gss_cons (gs_if (GW.gt (gw_or (gt_not (gt_val (G_is_row.call 0 hr (by decide) passU (ga_cons (ge_var 3) ga_nil)))) (gw_or1 (gt_not (gt_val (ge_callB (cr_all rfl) allD_ok B.b_all (gab_cons (GE.gb (GF.ge (gf_lc [("row", 4)] rfl S.nd (gi_seq (ge_var 3)) (blkOk_of (N := n_Code_init) (sc := defScope s_Code_init) rfl rfl (by decide +kernel)) (fun _ _ _ _ _ => (gtg_name 4 S.nd)) (fun _ _ _ _ _ => gts_nil) (fun _ _ _ _ _ => (G_is_letters.call 0 hr (by decide) passL (ga_cons (ge_var 1) (ga_cons (ge_var 2) (ga_cons (ge_var 4) ga_nil))))) (by decide)))) gab_nil))))))) (gss_one (gs_raise R_BadRows hr (by decide) (takes_of rfl rfl rfl rfl) passL (ga_cons (ge_var 3) ga_nil)))
    gss_nil)
    (gss_cons (gs_fld CS C.f_p 0 (ge_var 1))
    (gss_cons (gs_fld CS C.f_n 0 (ge_var 2))
    (gss_cons (gs_fld CS C.f_basis 0 (G_stepped.call 0 hr (by decide) passU (ga_cons (ge_var 1) (ga_cons (ge_var 3) ga_nil))))
    (gss_one (gs_fld CS C.f_size 0 (ge_callB call_len lenD_ok B.b_len (gab_cons (GE.gb (ge_fld CS C.f_basis (gb_var 0))) gab_nil)))))))))

abbrev s_Code_eq : Stmt := inClass (top 18) 1
def n_Code_eq : List Str := ["self", "other"]
def p_Code_eq : List Str := ["self", "other"]
def dv_Code_eq : List V := []
def dd_Code_eq : List D := []
theorem sc_Code_eq : FnScope n_Code_eq p_Code_eq (defScope s_Code_eq) := ⟨rfl, rfl, rfl, by decide +kernel, rfl, by decide +kernel, by decide +kernel⟩
def m_Code_eq : MS := (sRet (mAnd (m1 (isC CS "Code") (mVar 1)) (m2 eqD (mTup (mCons (m1 (fldD CS "p") (mVar 0)) (mCons (m1 (fldD CS "n") (mVar 0)) (mCons (m1 (fldD CS "basis") (mVar 0)) mNil)))) (mTup (mCons (m1 (fldD CS "p") (mVar 1)) (mCons (m1 (fldD CS "n") (mVar 1)) (mCons (m1 (fldD CS "basis") (mVar 1)) mNil)))))))
def f_Code_eq : Fn := runF 2 m_Code_eq
theorem ok_Code_eq {f : Addr} {fd : FuncData} (B : Bt mg) (I : It_ mg) (C : Cf K mg)  (F : FunD K "__eq__" "Code.__eq__" (defArgs s_Code_eq) (defBody s_Code_eq) (defScope s_Code_eq) dv_Code_eq [] f fd) : FnOk P w K mg base (L2.CX P w) 1 f fd p_Code_eq (spD K mg T 2 f_Code_eq) := by
  have S := sc_Code_eq
  exact FunD.data F S fun cdv A outer s H E hr => (gss_one (gs_ret (ge_and (ge_isi C.I_Code (.own (He.ga K "Code")) (pe_glob (v := .ref (He.ga K "Code")) rfl C.g_Code rfl) B.b_isinstance (GE.gb (ge_var 1))) (ge_one (ge_cmp (op_eqD hr.units) eqD_ok (GE.gb (ge_tup (ga_cons (ge_fld CS C.f_p (GE.gb (ge_var 0))) (ga_cons (ge_fld CS C.f_n (GE.gb (ge_var 0))) (ga_cons (ge_fld CS C.f_basis (GE.gb (ge_var 0))) ga_nil))))) (GE.gb (ge_tup (ga_cons (ge_fld CS C.f_p (GE.gb (ge_var 1))) (ga_cons (ge_fld CS C.f_n (GE.gb (ge_var 1))) (ga_cons (ge_fld CS C.f_basis (GE.gb (ge_var 1))) ga_nil))))))))))

abbrev s_need_code : Stmt := top 19
def n_need_code : List Str := ["code"]
def p_need_code : List Str := ["code"]
def dv_need_code : List V := []
def dd_need_code : List D := []
theorem sc_need_code : FnScope n_need_code p_need_code (defScope s_need_code) := ⟨rfl, rfl, rfl, by decide +kernel, rfl, by decide +kernel, by decide +kernel⟩
def m_need_code : MS := (sIf (tNotM (mTest (m1 (isC CS "Code") (mVar 0)))) (sRaise "BadItem" ns_BadItem (mCons (mVar 0) mNil))
    sNx)
def f_need_code : Fn := runF 1 m_need_code
theorem ok_need_code {f : Addr} {fd : FuncData} (B : Bt mg) (I : It_ mg) (C : Cf K mg) (R_BadItem : Er P w K mg base "BadItem" ns_BadItem 1) (F : FunD K "need_code" "need_code" (defArgs s_need_code) (defBody s_need_code) (defScope s_need_code) dv_need_code [] f fd) : FnOk P w K mg base (L2.CX P w) 3 f fd p_need_code (spD K mg T 1 f_need_code) := by
  have S := sc_need_code
  exact FunD.data F S fun cdv A outer s H E hr => (gss_one (gs_if (gt_not (gt_val (ge_isi C.I_Code (.own (He.ga K "Code")) (pe_glob (v := .ref (He.ga K "Code")) rfl C.g_Code rfl) B.b_isinstance (GE.gb (ge_var 0))))) (gss_one (gs_raise R_BadItem hr (by decide) (takes_of rfl rfl rfl rfl) passL (ga_cons (ge_var 0) ga_nil)))
    gss_nil))

abbrev s_need_two : Stmt := top 20
def n_need_two : List Str := ["one", "other"]
def p_need_two : List Str := ["one", "other"]
def dv_need_two : List V := []
def dd_need_two : List D := []
theorem sc_need_two : FnScope n_need_two p_need_two (defScope s_need_two) := ⟨rfl, rfl, rfl, by decide +kernel, rfl, by decide +kernel, by decide +kernel⟩
def m_need_two : MS := (sSeq (sExpr (mCall 1 f_need_code [] (mCons (mVar 0) mNil)))
    (sSeq (sExpr (mCall 1 f_need_code [] (mCons (mVar 1) mNil)))
    (sIf (mT2 neD (mTup (mCons (m1 (fldD CS "p") (mVar 0)) (mCons (m1 (fldD CS "n") (mVar 0)) mNil))) (mTup (mCons (m1 (fldD CS "p") (mVar 1)) (mCons (m1 (fldD CS "n") (mVar 1)) mNil)))) (sRaise "NotAlike" ns_NotAlike (mCons (mVar 0) (mCons (mVar 1) mNil)))
    sNx)))
def f_need_two : Fn := runF 2 m_need_two
theorem ok_need_two {f : Addr} {fd : FuncData} (B : Bt mg) (I : It_ mg) (C : Cf K mg) (G_need_code : Df P w K mg base T "need_code" 3 p_need_code f_need_code dv_need_code dd_need_code) (R_NotAlike : Er P w K mg base "NotAlike" ns_NotAlike 1) (F : FunD K "need_two" "need_two" (defArgs s_need_two) (defBody s_need_two) (defScope s_need_two) dv_need_two [] f fd) : FnOk P w K mg base (L2.CX P w) 4 f fd p_need_two (spD K mg T 2 f_need_two) := by
  have S := sc_need_two
  exact FunD.data F S fun cdv A outer s H E hr => (gss_cons (gs_expr (G_need_code.call 0 hr (by decide) passU (ga_cons (ge_var 0) ga_nil)))
    (gss_cons (gs_expr (G_need_code.call 0 hr (by decide) passU (ga_cons (ge_var 1) ga_nil)))
    (gss_one (gs_if (gt_cmp (op_neD hr.units) neD_ok (GE.gb (ge_tup (ga_cons (ge_fld CS C.f_p (GE.gb (ge_var 0))) (ga_cons (ge_fld CS C.f_n (GE.gb (ge_var 0))) ga_nil)))) (GE.gb (ge_tup (ga_cons (ge_fld CS C.f_p (GE.gb (ge_var 1))) (ga_cons (ge_fld CS C.f_n (GE.gb (ge_var 1))) ga_nil))))) (gss_one (gs_raise R_NotAlike hr (by decide) (takes_of rfl rfl rfl rfl) passL (ga_cons (ge_var 0) (ga_cons (ge_var 1) ga_nil))))
    gss_nil))))

abbrev s_made_code : Stmt := top 21
def n_made_code : List Str := ["p", "n", "words"]
def p_made_code : List Str := ["p", "n", "words"]
def dv_made_code : List V := []
def dd_made_code : List D := []
theorem sc_made_code : FnScope n_made_code p_made_code (defScope s_made_code) := ⟨rfl, rfl, rfl, by decide +kernel, rfl, by decide +kernel, by decide +kernel⟩
def m_made_code : MS := (sRet (mMake 3 f_Code_init [] (mCons (mVar 0) (mCons (mVar 1) (mCons (mVar 2) mNil)))))
def f_made_code : Fn := runF 3 m_made_code
theorem ok_made_code {f : Addr} {fd : FuncData} (B : Bt mg) (I : It_ mg) (C : Cf K mg) (M_Code : Dm P w K mg base T "Code" 6 3 f_Code_init dv_Code_init dd_Code_init) (F : FunD K "made_code" "made_code" (defArgs s_made_code) (defBody s_made_code) (defScope s_made_code) dv_made_code [] f fd) : FnOk P w K mg base (L2.CX P w) 8 f fd p_made_code (spD K mg T 3 f_made_code) := by
  have S := sc_made_code
  exact FunD.data F S fun cdv A outer s H E hr => (gss_one (gs_ret (M_Code.call 0 hr (by decide) passU (ga_cons (ge_var 0) (ga_cons (ge_var 1) (ga_cons (ge_var 2) ga_nil))))))

abbrev s_mirror_words : Stmt := top 22
def n_mirror_words : List Str := ["code", "leads", "word", "found", "place", "row", "at"]
def p_mirror_words : List Str := ["code"]
def dv_mirror_words : List V := []
def dd_mirror_words : List D := []
theorem sc_mirror_words : FnScope n_mirror_words p_mirror_words (defScope s_mirror_words) := ⟨rfl, rfl, rfl, by decide +kernel, rfl, by decide +kernel, by decide +kernel⟩
def m_mirror_words : MS := (sSeq (sSet 1 (mD (mLc (itSeq (m1 (fldD CS "basis") (mVar 0))) (fName 2) (mOk true) (mCall 1 f_lead_of [] (mCons (mVar 2) mNil)) [2])))
    (sSeq (sSetO 3 (mList mNil))
    (sSeq (sFor (mI range1 (mCons (m1 (fldD CS "n") (mVar 0)) mNil)) (fName 4)
    (sIf (mT2 ninD (mVar 4) (mVar 1)) (sSeq (sSetO 5 (m2O repO (mLst (mCons (mOk (.int 0)) mNil)) (m1 (fldD CS "n") (mVar 0))))
    (sSeq (sPut 5 (mOk (.int 1)) (mVar 4))
    (sSeq (sFor (mI zipA (mCons (m1 (fldD CS "basis") (mVar 0)) (mCons (mVar 1) mNil))) (fTup 2 (fCons (fName 2) (fCons (fName 6) fNil)))
    (sPut 5 (m2 modD (m2 subD (m1 (fldD CS "p") (mVar 0)) (m2 ixD (mVar 2) (mVar 4))) (m1 (fldD CS "p") (mVar 0))) (mVar 6)))
    (sMut 3 (mC tupleD (mCons (mVarB 5) mNil)) uApp))))
    sNx))
    (sFrz 3 (sRet (mVar 3))))))
def f_mirror_words : Fn := runF 7 m_mirror_words
theorem ok_mirror_words {f : Addr} {fd : FuncData} (B : Bt mg) (I : It_ mg) (C : Cf K mg) (G_lead_of : Df P w K mg base T "lead_of" 3 p_lead_of f_lead_of dv_lead_of dd_lead_of) (F : FunD K "mirror_words" "mirror_words" (defArgs s_mirror_words) (defBody s_mirror_words) (defScope s_mirror_words) dv_mirror_words [] f fd) : FnOk P w K mg base (L2.CX P w) 4 f fd p_mirror_words (spD K mg T 1 f_mirror_words) := by
  have S := sc_mirror_words
  exact FunD.data F S fun cdv A outer s H E hr => (gss_cons (gs_setLc 1 [("word", 2)] rfl S.nd rfl rfl (sw_true rfl rfl (by decide +kernel) (by decide +kernel)) (gi_seq (ge_fld CS C.f_basis (GE.gb (ge_var 0)))) (blkOk_of (N := n_mirror_words) (sc := defScope s_mirror_words) rfl rfl (by decide +kernel)) (fun _ _ _ _ _ => (gtg_name 2 S.nd)) (fun _ _ _ _ _ => gts_nil) (fun _ _ _ _ _ => (G_lead_of.call 0 hr (by decide) passL (ga_cons (ge_var 2) ga_nil))) (by decide))
    (gss_cons (gs_setO 3 (gf_lst ga_nil) S.nd)
    (gss_cons (gs_for ownU (gi_range1 (ga_cons (ge_fld CS C.f_n (GE.gb (ge_var 0))) ga_nil) B.b_range) (gtg_name 4 S.nd)
    (gss_one (gs_if (gt_cmp (op_ninA hr.u65) ninD_ok (GE.gb (ge_var 4)) (GE.gb (ge_var 1))) (gss_cons (gs_setO 5 (gf_rep (GE.gb (ge_lst (ga_cons ge_int ga_nil))) (GE.gb (ge_fld CS C.f_n (GE.gb (ge_var 0))))) S.nd)
    (gss_cons (gs_put 5 ge_int (ge_var 4))
    (gss_cons (gs_for ownU (gi_zip (ga_cons (ge_fld CS C.f_basis (GE.gb (ge_var 0))) (ga_cons (ge_var 1) ga_nil)) B.b_zip) (gtg_tup 2 (gtgs_cons (gtg_name 2 S.nd) (gtgs_cons (gtg_name 6 S.nd) gtgs_nil)))
    (gss_one (gs_put 5 (ge_op op_modN modD_ok (GE.gb (ge_op op_sub subD_ok (GE.gb (ge_fld CS C.f_p (GE.gb (ge_var 0)))) (GE.gb (ge_ix ix_seq ixD_ok (GE.gb (ge_var 2)) (GE.gb (ge_var 4)))))) (GE.gb (ge_fld CS C.f_p (GE.gb (ge_var 0))))) (ge_var 6))))
    (gss_one (gs_append 3 (ge_callTy call_tuple_of tupleD_ok B.b_tuple (gab_cons (gb_var 5) gab_nil)))))))
    gss_nil)))
    (gss_one (gs_frz 3 (gs_ret (ge_var 3)))))))

abbrev s_mirror_of : Stmt := top 23
def n_mirror_of : List Str := ["code"]
def p_mirror_of : List Str := ["code"]
def dv_mirror_of : List V := []
def dd_mirror_of : List D := []
theorem sc_mirror_of : FnScope n_mirror_of p_mirror_of (defScope s_mirror_of) := ⟨rfl, rfl, rfl, by decide +kernel, rfl, by decide +kernel, by decide +kernel⟩
def m_mirror_of : MS := (sRet (mCall 3 f_made_code [] (mCons (m1 (fldD CS "p") (mVar 0)) (mCons (m1 (fldD CS "n") (mVar 0)) (mCons (mCall 1 f_mirror_words [] (mCons (mVar 0) mNil)) mNil)))))
def f_mirror_of : Fn := runF 1 m_mirror_of
theorem ok_mirror_of {f : Addr} {fd : FuncData} (B : Bt mg) (I : It_ mg) (C : Cf K mg) (G_made_code : Df P w K mg base T "made_code" 8 p_made_code f_made_code dv_made_code dd_made_code) (G_mirror_words : Df P w K mg base T "mirror_words" 4 p_mirror_words f_mirror_words dv_mirror_words dd_mirror_words) (F : FunD K "mirror_of" "mirror_of" (defArgs s_mirror_of) (defBody s_mirror_of) (defScope s_mirror_of) dv_mirror_of [] f fd) : FnOk P w K mg base (L2.CX P w) 9 f fd p_mirror_of (spD K mg T 1 f_mirror_of) := by
  have S := sc_mirror_of
  exact FunD.data F S fun cdv A outer s H E hr => (gss_one (gs_ret (G_made_code.call 0 hr (by decide) passU (ga_cons (ge_fld CS C.f_p (GE.gb (ge_var 0))) (ga_cons (ge_fld CS C.f_n (GE.gb (ge_var 0))) (ga_cons (G_mirror_words.call 0 hr (by decide) passU (ga_cons (ge_var 0) ga_nil)) ga_nil))))))

abbrev s_mirror : Stmt := top 24
def n_mirror : List Str := ["code"]
def p_mirror : List Str := ["code"]
def dv_mirror : List V := []
def dd_mirror : List D := []
theorem sc_mirror : FnScope n_mirror p_mirror (defScope s_mirror) := ⟨rfl, rfl, rfl, by decide +kernel, rfl, by decide +kernel, by decide +kernel⟩
def m_mirror : MS := (sSeq (sExpr (mCall 1 f_need_code [] (mCons (mVar 0) mNil)))
    (sRet (mCall 1 f_mirror_of [] (mCons (mVar 0) mNil))))
def f_mirror : Fn := runF 1 m_mirror
theorem ok_mirror {f : Addr} {fd : FuncData} (B : Bt mg) (I : It_ mg) (C : Cf K mg) (G_need_code : Df P w K mg base T "need_code" 3 p_need_code f_need_code dv_need_code dd_need_code) (G_mirror_of : Df P w K mg base T "mirror_of" 9 p_mirror_of f_mirror_of dv_mirror_of dd_mirror_of) (F : FunD K "mirror" "mirror" (defArgs s_mirror) (defBody s_mirror) (defScope s_mirror) dv_mirror [] f fd) : FnOk P w K mg base (L2.CX P w) 10 f fd p_mirror (spD K mg T 1 f_mirror) := by
  have S := sc_mirror
  exact FunD.data F S fun cdv A outer s H E hr => (gss_cons (gs_expr (G_need_code.call 0 hr (by decide) passU (ga_cons (ge_var 0) ga_nil)))
    (gss_one (gs_ret (G_mirror_of.call 0 hr (by decide) passU (ga_cons (ge_var 0) ga_nil)))))

abbrev s_meet : Stmt := top 25
def n_meet : List Str := ["one", "other"]
def p_meet : List Str := ["one", "other"]
def dv_meet : List V := []
def dd_meet : List D := []
theorem sc_meet : FnScope n_meet p_meet (defScope s_meet) := ⟨rfl, rfl, rfl, by decide +kernel, rfl, by decide +kernel, by decide +kernel⟩
def m_meet : MS := (sSeq (sExpr (mCall 2 f_need_two [] (mCons (mVar 0) (mCons (mVar 1) mNil))))
    (sRet (mCall 1 f_mirror_of [] (mCons (mCall 3 f_made_code [] (mCons (m1 (fldD CS "p") (mVar 0)) (mCons (m1 (fldD CS "n") (mVar 0)) (mCons (m2 addD (mCall 1 f_mirror_words [] (mCons (mVar 0) mNil)) (mCall 1 f_mirror_words [] (mCons (mVar 1) mNil))) mNil)))) mNil))))
def f_meet : Fn := runF 2 m_meet
theorem ok_meet {f : Addr} {fd : FuncData} (B : Bt mg) (I : It_ mg) (C : Cf K mg) (G_need_two : Df P w K mg base T "need_two" 4 p_need_two f_need_two dv_need_two dd_need_two) (G_made_code : Df P w K mg base T "made_code" 8 p_made_code f_made_code dv_made_code dd_made_code) (G_mirror_words : Df P w K mg base T "mirror_words" 4 p_mirror_words f_mirror_words dv_mirror_words dd_mirror_words) (G_mirror_of : Df P w K mg base T "mirror_of" 9 p_mirror_of f_mirror_of dv_mirror_of dd_mirror_of) (F : FunD K "meet" "meet" (defArgs s_meet) (defBody s_meet) (defScope s_meet) dv_meet [] f fd) : FnOk P w K mg base (L2.CX P w) 10 f fd p_meet (spD K mg T 2 f_meet) := by
  have S := sc_meet
  exact FunD.data F S fun cdv A outer s H E hr => (gss_cons (gs_expr (G_need_two.call 0 hr (by decide) passU (ga_cons (ge_var 0) (ga_cons (ge_var 1) ga_nil))))
    (gss_one (gs_ret (G_mirror_of.call 0 hr (by decide) passU (ga_cons (G_made_code.call 0 hr (by decide) passU (ga_cons (ge_fld CS C.f_p (GE.gb (ge_var 0))) (ga_cons (ge_fld CS C.f_n (GE.gb (ge_var 0))) (ga_cons (ge_op op_addD addD_ok (GE.gb (G_mirror_words.call 0 hr (by decide) passU (ga_cons (ge_var 0) ga_nil))) (GE.gb (G_mirror_words.call 0 hr (by decide) passU (ga_cons (ge_var 1) ga_nil)))) ga_nil)))) ga_nil)))))

abbrev s_sum_of : Stmt := top 26
def n_sum_of : List Str := ["one", "other"]
def p_sum_of : List Str := ["one", "other"]
def dv_sum_of : List V := []
def dd_sum_of : List D := []
theorem sc_sum_of : FnScope n_sum_of p_sum_of (defScope s_sum_of) := ⟨rfl, rfl, rfl, by decide +kernel, rfl, by decide +kernel, by decide +kernel⟩
def m_sum_of : MS := (sSeq (sExpr (mCall 2 f_need_two [] (mCons (mVar 0) (mCons (mVar 1) mNil))))
    (sRet (mCall 3 f_made_code [] (mCons (m1 (fldD CS "p") (mVar 0)) (mCons (m1 (fldD CS "n") (mVar 0)) (mCons (m2 addD (m1 (fldD CS "basis") (mVar 0)) (m1 (fldD CS "basis") (mVar 1))) mNil))))))
def f_sum_of : Fn := runF 2 m_sum_of
theorem ok_sum_of {f : Addr} {fd : FuncData} (B : Bt mg) (I : It_ mg) (C : Cf K mg) (G_need_two : Df P w K mg base T "need_two" 4 p_need_two f_need_two dv_need_two dd_need_two) (G_made_code : Df P w K mg base T "made_code" 8 p_made_code f_made_code dv_made_code dd_made_code) (F : FunD K "sum_of" "sum_of" (defArgs s_sum_of) (defBody s_sum_of) (defScope s_sum_of) dv_sum_of [] f fd) : FnOk P w K mg base (L2.CX P w) 9 f fd p_sum_of (spD K mg T 2 f_sum_of) := by
  have S := sc_sum_of
  exact FunD.data F S fun cdv A outer s H E hr => (gss_cons (gs_expr (G_need_two.call 0 hr (by decide) passU (ga_cons (ge_var 0) (ga_cons (ge_var 1) ga_nil))))
    (gss_one (gs_ret (G_made_code.call 0 hr (by decide) passU (ga_cons (ge_fld CS C.f_p (GE.gb (ge_var 0))) (ga_cons (ge_fld CS C.f_n (GE.gb (ge_var 0))) (ga_cons (ge_op op_addD addD_ok (GE.gb (ge_fld CS C.f_basis (GE.gb (ge_var 0)))) (GE.gb (ge_fld CS C.f_basis (GE.gb (ge_var 1))))) ga_nil)))))))

-- NOT _law_pen: Dict(keys=[Constant(value='cells'), Constant(value='at'), Constant(value='digits

abbrev s__law_draw : Stmt := top 29
def n__law_draw : List Str := ["pen", "many", "cell", "digit", "mixed"]
def p__law_draw : List Str := ["pen", "many"]
def dv__law_draw : List V := []
def dd__law_draw : List D := []
theorem sc__law_draw : FnScope n__law_draw p__law_draw (defScope s__law_draw) := ⟨rfl, rfl, rfl, by decide +kernel, rfl, by decide +kernel, by decide +kernel⟩
def m__law_draw : MS := (sSeq (sPenPut 0 "count" (m2 addD (mPen 0 "count") (mOk (.int 1))))
    (sSeq (sIf (tAndM (mT2 eqD (mPen 0 "digits") (mOk (.int 0))) (mT2 ltD (mPen 0 "at") (mC lenD (mCons (mPenC 0) mNil)))) (sSeq (sSet 2 (m2 ixD (mPenC 0) (mPen 0 "at")))
    (sSeq (sPenPut 0 "at" (m2 addD (mPen 0 "at") (mOk (.int 1))))
    (sIf (mT2 geD (mVar 2) (m2 powD (mOk (.int 10)) (mOk (.int 18)))) (sPenPut 0 "digits" (m2 subD (mVar 2) (m2 powD (mOk (.int 10)) (mOk (.int 18)))))
    (sPenPut 0 "fold" (m2 modD (mC intOf (mCons (m2 addD (m2 mulD (mPen 0 "fold") (mOk (.int 69069))) (mVar 2)) mNil)) (mOk (.int 2147483587)))))))
    sNx)
    (sSeq (sIf (mT2 gtD (mPen 0 "digits") (mOk (.int 0))) (sSeq (sSet 3 (m2 modD (mC intOf (mCons (mPen 0 "digits") mNil)) (mVar 1)))
    (sSeq (sPenPut 0 "digits" (m2 divD (mPen 0 "digits") (mVar 1)))
    (sRet (mVar 3))))
    sNx)
    (sSeq (sSet 4 (m2 addD (m2 addD (mPen 0 "fold") (m2 mulD (mPen 0 "count") (mOk (.int 7907)))) (mOk (.int 37))))
    (sRet (m2 modD (m2 divD (mC intOf (mCons (m2 modD (m2 powD (mVar 4) (mOk (.int 17))) (mOk (.int 2305843009213693951))) mNil)) (mOk (.int 128))) (mVar 1)))))))
def f__law_draw : Fn := runF 5 m__law_draw
theorem ok__law_draw {f : Addr} {fd : FuncData} (B : Bt mg) (I : It_ mg) (C : Cf K mg)  (F : FunD K "_law_draw" "_law_draw" (defArgs s__law_draw) (defBody s__law_draw) (defScope s__law_draw) dv__law_draw [] f fd) : FnOk P w K mg base (L2.CX P w) 3 f fd p__law_draw (spD K mg T 2 f__law_draw) := by
  have S := sc__law_draw
  exact FunD.data F S fun cdv A outer s H E hr => (gss_cons (gs_penPut hr.u1 0 (ge_op op_addD addD_ok (GE.gb (ge_pen hr.u1 0)) (GE.gb ge_int)))
    (gss_cons (gs_if (GW.gt (gw_and (gt_cmp (op_eqD hr.units) eqD_ok (GE.gb (ge_pen hr.u1 0)) (GE.gb ge_int)) (gw_and1 (gt_cmp op_lt ltD_ok (GE.gb (ge_pen hr.u1 0)) (GE.gb (ge_callB call_len lenD_ok B.b_len (gab_cons (gb_penC hr.u1 0) gab_nil))))))) (gss_cons (gs_set 2 (ge_ix ix_seq ixD_ok (gb_penC hr.u1 0) (GE.gb (ge_pen hr.u1 0))) S.nd)
    (gss_cons (gs_penPut hr.u1 0 (ge_op op_addD addD_ok (GE.gb (ge_pen hr.u1 0)) (GE.gb ge_int)))
    (gss_one (gs_if (gt_cmp op_ge geD_ok (GE.gb (ge_var 2)) (GE.gb (ge_op op_pow powD_ok (GE.gb ge_int) (GE.gb ge_int)))) (gss_one (gs_penPut hr.u1 0 (ge_op op_sub subD_ok (GE.gb (ge_var 2)) (GE.gb (ge_op op_pow powD_ok (GE.gb ge_int) (GE.gb ge_int))))))
    (gss_one (gs_penPut hr.u1 0 (ge_op op_modN modD_ok (GE.gb (ge_callTy call_int1 intOf_ok B.b_int (gab_cons (GE.gb (ge_op op_addD addD_ok (GE.gb (ge_op op_mulD mulD_ok (GE.gb (ge_pen hr.u1 0)) (GE.gb ge_int))) (GE.gb (ge_var 2)))) gab_nil))) (GE.gb ge_int))))))))
    gss_nil)
    (gss_cons (gs_if (gt_cmp op_gt gtD_ok (GE.gb (ge_pen hr.u1 0)) (GE.gb ge_int)) (gss_cons (gs_set 3 (ge_op op_modN modD_ok (GE.gb (ge_callTy call_int1 intOf_ok B.b_int (gab_cons (GE.gb (ge_pen hr.u1 0)) gab_nil))) (GE.gb (ge_var 1))) S.nd)
    (gss_cons (gs_penPut hr.u1 0 (ge_op op_divD divD_ok (GE.gb (ge_pen hr.u1 0)) (GE.gb (ge_var 1))))
    (gss_one (gs_ret (ge_var 3)))))
    gss_nil)
    (gss_cons (gs_set 4 (ge_op op_addD addD_ok (GE.gb (ge_op op_addD addD_ok (GE.gb (ge_pen hr.u1 0)) (GE.gb (ge_op op_mulD mulD_ok (GE.gb (ge_pen hr.u1 0)) (GE.gb ge_int))))) (GE.gb ge_int)) S.nd)
    (gss_one (gs_ret (ge_op op_modN modD_ok (GE.gb (ge_op op_divD divD_ok (GE.gb (ge_callTy call_int1 intOf_ok B.b_int (gab_cons (GE.gb (ge_op op_modN modD_ok (GE.gb (ge_op op_pow powD_ok (GE.gb (ge_var 4)) (GE.gb ge_int))) (GE.gb ge_int))) gab_nil))) (GE.gb ge_int))) (GE.gb (ge_var 1)))))))))

abbrev s__law_pick : Stmt := top 30
def n__law_pick : List Str := ["pen", "some"]
def p__law_pick : List Str := ["pen", "some"]
def dv__law_pick : List V := []
def dd__law_pick : List D := []
theorem sc__law_pick : FnScope n__law_pick p__law_pick (defScope s__law_pick) := ⟨rfl, rfl, rfl, by decide +kernel, rfl, by decide +kernel, by decide +kernel⟩
def m__law_pick : MS := (sRet (m2 ixD (mVar 1) (mCall 2 f__law_draw [] (mCons (mVar 0) (mCons (mC lenD (mCons (mVar 1) mNil)) mNil)))))
def f__law_pick : Fn := runF 2 m__law_pick
theorem ok__law_pick {f : Addr} {fd : FuncData} (B : Bt mg) (I : It_ mg) (C : Cf K mg) (G__law_draw : Df P w K mg base T "_law_draw" 3 p__law_draw f__law_draw dv__law_draw dd__law_draw) (F : FunD K "_law_pick" "_law_pick" (defArgs s__law_pick) (defBody s__law_pick) (defScope s__law_pick) dv__law_pick [] f fd) : FnOk P w K mg base (L2.CX P w) 4 f fd p__law_pick (spD K mg T 2 f__law_pick) := by
  have S := sc__law_pick
  exact FunD.data F S fun cdv A outer s H E hr => (gss_one (gs_ret (ge_ix ix_seq ixD_ok (GE.gb (ge_var 1)) (GE.gb (G__law_draw.call 0 hr (by decide) passU (ga_cons (ge_var 0) (ga_cons (ge_callB call_len lenD_ok B.b_len (gab_cons (GE.gb (ge_var 1)) gab_nil)) ga_nil)))))))

abbrev s__law_all : Stmt := top 31
def n__law_all : List Str := ["p", "n", "found", "lap", "longer", "word", "item"]
def p__law_all : List Str := ["p", "n"]
def dv__law_all : List V := []
def dd__law_all : List D := []
theorem sc__law_all : FnScope n__law_all p__law_all (defScope s__law_all) := ⟨rfl, rfl, rfl, by decide +kernel, rfl, by decide +kernel, by decide +kernel⟩
def m__law_all : MS := (sSeq (sSet 2 (mLst (mCons (mTup mNil) mNil)))
    (sSeq (sFor (mI range1 (mCons (mVar 1) mNil)) (fName 3)
    (sSeq (sSet 4 (mLst mNil))
    (sSeq (sFor (itSeq (mVar 2)) (fName 5)
    (sSet 4 (m2 addD (mVar 4) (mD (mLc (mI range1 (mCons (mVar 0) mNil)) (fName 6) (mOk true) (m2 addD (mVar 5) (mTup (mCons (mVar 6) mNil))) [6])))))
    (sSet 2 (mVar 4)))))
    (sRet (mVar 2))))
def f__law_all : Fn := runF 7 m__law_all
theorem ok__law_all {f : Addr} {fd : FuncData} (B : Bt mg) (I : It_ mg) (C : Cf K mg)  (F : FunD K "_law_all" "_law_all" (defArgs s__law_all) (defBody s__law_all) (defScope s__law_all) dv__law_all [] f fd) : FnOk P w K mg base (L2.CX P w) 1 f fd p__law_all (spD K mg T 2 f__law_all) := by
  have S := sc__law_all
  exact FunD.data F S fun cdv A outer s H E hr => (gss_cons (gs_set 2 (ge_lst (ga_cons (ge_tup ga_nil) ga_nil)) S.nd)
    (gss_cons (gs_for ownU (gi_range1 (ga_cons (ge_var 1) ga_nil) B.b_range) (gtg_name 3 S.nd)
    (gss_cons (gs_set 4 (ge_lst ga_nil) S.nd)
    (gss_cons (gs_for ownU (gi_seq (ge_var 2)) (gtg_name 5 S.nd)
    (gss_one (gs_set 4 (ge_op op_addD addD_ok (GE.gb (ge_var 4)) (GE.gb (GF.ge (gf_lc [("item", 6)] rfl S.nd (gi_range1 (ga_cons (ge_var 0) ga_nil) B.b_range) (blkOk_of (N := n__law_all) (sc := defScope s__law_all) rfl rfl (by decide +kernel)) (fun _ _ _ _ _ => (gtg_name 6 S.nd)) (fun _ _ _ _ _ => gts_nil) (fun _ _ _ _ _ => (ge_op op_addD addD_ok (GE.gb (ge_var 5)) (GE.gb (ge_tup (ga_cons (ge_var 6) ga_nil))))) (by decide))))) S.nd)))
    (gss_one (gs_set 2 (ge_var 4) S.nd)))))
    (gss_one (gs_ret (ge_var 2)))))

abbrev s__law_plus : Stmt := top 32
def n__law_plus : List Str := ["p", "one", "other", "times", "a", "b"]
def p__law_plus : List Str := ["p", "one", "other", "times"]
def dv__law_plus : List V := [.int 1]
def dd__law_plus : List D := [.int 1]
theorem sc__law_plus : FnScope n__law_plus p__law_plus (defScope s__law_plus) := ⟨rfl, rfl, rfl, by decide +kernel, rfl, by decide +kernel, by decide +kernel⟩
def m__law_plus : MS := (sRet (mC tupleD (mCons (mD (mLc (mI zipA (mCons (mVar 1) (mCons (mVar 2) mNil))) (fTup 2 (fCons (fName 4) (fCons (fName 5) fNil))) (mOk true) (m2 modD (mC intOf (mCons (m2 addD (mVar 4) (m2 mulD (mVar 3) (mVar 5))) mNil)) (mVar 0)) [4, 5])) mNil)))
def f__law_plus : Fn := runF 6 m__law_plus
theorem ok__law_plus {f : Addr} {fd : FuncData} (B : Bt mg) (I : It_ mg) (C : Cf K mg)  (F : FunD K "_law_plus" "_law_plus" (defArgs s__law_plus) (defBody s__law_plus) (defScope s__law_plus) dv__law_plus [] f fd) : FnOk P w K mg base (L2.CX P w) 1 f fd p__law_plus (spD K mg T 4 f__law_plus) := by
  have S := sc__law_plus
  exact FunD.data F S fun cdv A outer s H E hr => (gss_one (gs_ret (ge_callTy call_tuple_of tupleD_ok B.b_tuple (gab_cons (GE.gb (GF.ge (gf_lc [("a", 4), ("b", 5)] rfl S.nd (gi_zip (ga_cons (ge_var 1) (ga_cons (ge_var 2) ga_nil)) B.b_zip) (blkOk_of (N := n__law_plus) (sc := defScope s__law_plus) rfl rfl (by decide +kernel)) (fun _ _ _ _ _ => (gtg_tup 2 (gtgs_cons (gtg_name 4 S.nd) (gtgs_cons (gtg_name 5 S.nd) gtgs_nil)))) (fun _ _ _ _ _ => gts_nil) (fun _ _ _ _ _ => (ge_op op_modN modD_ok (GE.gb (ge_callTy call_int1 intOf_ok B.b_int (gab_cons (GE.gb (ge_op op_addD addD_ok (GE.gb (ge_var 4)) (GE.gb (ge_op op_mulD mulD_ok (GE.gb (ge_var 3)) (GE.gb (ge_var 5)))))) gab_nil))) (GE.gb (ge_var 0)))) (by decide)))) gab_nil))))

abbrev s__law_dot : Stmt := top 33
def n__law_dot : List Str := ["p", "one", "other", "a", "b"]
def p__law_dot : List Str := ["p", "one", "other"]
def dv__law_dot : List V := []
def dd__law_dot : List D := []
theorem sc__law_dot : FnScope n__law_dot p__law_dot (defScope s__law_dot) := ⟨rfl, rfl, rfl, by decide +kernel, rfl, by decide +kernel, by decide +kernel⟩
def m__law_dot : MS := (sRet (m2 modD (mC intOf (mCons (mC sumD (mCons (mD (mLc (mI zipA (mCons (mVar 1) (mCons (mVar 2) mNil))) (fTup 2 (fCons (fName 3) (fCons (fName 4) fNil))) (mOk true) (m2 mulD (mVar 3) (mVar 4)) [3, 4])) mNil)) mNil)) (mVar 0)))
def f__law_dot : Fn := runF 5 m__law_dot
theorem ok__law_dot {f : Addr} {fd : FuncData} (B : Bt mg) (I : It_ mg) (C : Cf K mg)  (F : FunD K "_law_dot" "_law_dot" (defArgs s__law_dot) (defBody s__law_dot) (defScope s__law_dot) dv__law_dot [] f fd) : FnOk P w K mg base (L2.CX P w) 1 f fd p__law_dot (spD K mg T 3 f__law_dot) := by
  have S := sc__law_dot
  exact FunD.data F S fun cdv A outer s H E hr => (gss_one (gs_ret (ge_op op_modN modD_ok (GE.gb (ge_callTy call_int1 intOf_ok B.b_int (gab_cons (GE.gb (ge_callB (cr_sum rfl) sumD_ok B.b_sum (gab_cons (GE.gb (GF.ge (gf_lc [("a", 3), ("b", 4)] rfl S.nd (gi_zip (ga_cons (ge_var 1) (ga_cons (ge_var 2) ga_nil)) B.b_zip) (blkOk_of (N := n__law_dot) (sc := defScope s__law_dot) rfl rfl (by decide +kernel)) (fun _ _ _ _ _ => (gtg_tup 2 (gtgs_cons (gtg_name 3 S.nd) (gtgs_cons (gtg_name 4 S.nd) gtgs_nil)))) (fun _ _ _ _ _ => gts_nil) (fun _ _ _ _ _ => (ge_op op_mulD mulD_ok (GE.gb (ge_var 3)) (GE.gb (ge_var 4)))) (by decide)))) gab_nil))) gab_nil))) (GE.gb (ge_var 0)))))

abbrev s__law_span : Stmt := top 34
def n__law_span : List Str := ["p", "n", "rows", "found", "row", "times", "word"]
def p__law_span : List Str := ["p", "n", "rows"]
def dv__law_span : List V := []
def dd__law_span : List D := []
theorem sc__law_span : FnScope n__law_span p__law_span (defScope s__law_span) := ⟨rfl, rfl, rfl, by decide +kernel, rfl, by decide +kernel, by decide +kernel⟩
def m__law_span : MS := (sSeq (sSetO 3 (mDispT (m2 mulD (mTup (mCons (mOk (.int 0)) mNil)) (mVar 1)) (mOk (.bl true))))
    (sSeq (sFor (itSeq (mVar 2)) (fName 4)
    (sIf (mT2 ninD (mC tupleD (mCons (mVar 4) mNil)) (mVarB 3)) (sFor (mI range2 (mCons (mOk (.int 1)) (mCons (mVar 0) mNil))) (fName 5)
    (sFor (itSeq (mD (mKeys (mCons (mVarB 3) mNil)))) (fName 6)
    (sDPutT 3 (mOk (.bl true)) (mCall 4 f__law_plus [] (mCons (mVar 0) (mCons (mVar 6) (mCons (mVar 4) (mCons (mVar 5) mNil))))))))
    sNx))
    (sRet (mC sortD (mCons (mD (mKeys (mCons (mVarB 3) mNil))) mNil)))))
def f__law_span : Fn := runF 7 m__law_span
theorem ok__law_span {f : Addr} {fd : FuncData} (B : Bt mg) (I : It_ mg) (C : Cf K mg) (G__law_plus : Df P w K mg base T "_law_plus" 1 p__law_plus f__law_plus dv__law_plus dd__law_plus) (F : FunD K "_law_span" "_law_span" (defArgs s__law_span) (defBody s__law_span) (defScope s__law_span) dv__law_span [] f fd) : FnOk P w K mg base (L2.CX P w) 3 f fd p__law_span (spD K mg T 3 f__law_span) := by
  have S := sc__law_span
  exact FunD.data F S fun cdv A outer s H E hr => (gss_cons (gs_setO 3 (gf_dispT hr.u1 (ge_op op_mulD mulD_ok (GE.gb (ge_tup (ga_cons ge_int ga_nil))) (GE.gb (ge_var 1))) ge_bl) S.nd)
    (gss_cons (gs_for ownU (gi_seq (ge_var 2)) (gtg_name 4 S.nd)
    (gss_one (gs_if (gt_cmp (op_ninA hr.u65) ninD_ok (GE.gb (ge_callTy call_tuple_of tupleD_ok B.b_tuple (gab_cons (GE.gb (ge_var 4)) gab_nil))) (gb_var 3)) (gss_one (gs_for ownU (gi_range2 (ga_cons ge_int (ga_cons (ge_var 0) ga_nil)) B.b_range) (gtg_name 5 S.nd)
    (gss_one (gs_for ownU (gi_seq (GF.ge (gf_keys (gab_cons (gb_var 3) gab_nil) B.b_list))) (gtg_name 6 S.nd)
    (gss_one (gs_dputT hr.u1 3 ge_bl (G__law_plus.call 1 hr (by decide) passU (ga_cons (ge_var 0) (ga_cons (ge_var 6) (ga_cons (ge_var 4) (ga_cons (ge_var 5) ga_nil)))))))))))
    gss_nil)))
    (gss_one (gs_ret (ge_callB (cr_sortP hr.units) sortD_ok B.b_sorted (gab_cons (GE.gb (GF.ge (gf_keys (gab_cons (gb_var 3) gab_nil) B.b_list))) gab_nil))))))

abbrev s__law_dual : Stmt := top 35
def n__law_dual : List Str := ["p", "n", "rows", "word", "row"]
def p__law_dual : List Str := ["p", "n", "rows"]
def dv__law_dual : List V := []
def dd__law_dual : List D := []
theorem sc__law_dual : FnScope n__law_dual p__law_dual (defScope s__law_dual) := ⟨rfl, rfl, rfl, by decide +kernel, rfl, by decide +kernel, by decide +kernel⟩
def m__law_dual : MS := (sRet (mD (mLc (itSeq (mCall 2 f__law_all [] (mCons (mVar 0) (mCons (mVar 1) mNil)))) (fName 3) (mT2 eqD (mD (mLc (itSeq (mVar 2)) (fName 4) (mT2 neD (mCall 3 f__law_dot [] (mCons (mVar 0) (mCons (mVar 3) (mCons (mVar 4) mNil)))) (mOk (.int 0))) (mVar 4) [4])) (mLst mNil)) (mVar 3) [3])))
def f__law_dual : Fn := runF 5 m__law_dual
theorem ok__law_dual {f : Addr} {fd : FuncData} (B : Bt mg) (I : It_ mg) (C : Cf K mg) (G__law_all : Df P w K mg base T "_law_all" 1 p__law_all f__law_all dv__law_all dd__law_all) (G__law_dot : Df P w K mg base T "_law_dot" 1 p__law_dot f__law_dot dv__law_dot dd__law_dot) (F : FunD K "_law_dual" "_law_dual" (defArgs s__law_dual) (defBody s__law_dual) (defScope s__law_dual) dv__law_dual [] f fd) : FnOk P w K mg base (L2.CX P w) 3 f fd p__law_dual (spD K mg T 3 f__law_dual) := by
  have S := sc__law_dual
  exact FunD.data F S fun cdv A outer s H E hr => (gss_one (gs_ret (GF.ge (gf_lc [("word", 3)] rfl S.nd (gi_seq (G__law_all.call 0 hr (by decide) passU (ga_cons (ge_var 0) (ga_cons (ge_var 1) ga_nil)))) (blkOk_of (N := n__law_dual) (sc := defScope s__law_dual) rfl rfl (by decide +kernel)) (fun _ _ _ _ _ => (gtg_name 3 S.nd)) (fun _ _ _ _ _ => (gts_one (gt_cmp (op_eqD hr.units) eqD_ok (GE.gb (GF.ge (gf_lc [("row", 4)] rfl S.nd (gi_seq (ge_var 2)) (blkOk_by (by kernel_rfl)) (fun _ _ _ _ _ => (gtg_name 4 S.nd)) (fun _ _ _ _ _ => (gts_one (gt_cmp (op_neD hr.units) neD_ok (GE.gb (G__law_dot.call 0 hr (by decide) passL (ga_cons (ge_var 0) (ga_cons (ge_var 3) (ga_cons (ge_var 4) ga_nil))))) (GE.gb ge_int)))) (fun _ _ _ _ _ => (ge_var 4)) (by decide)))) (GE.gb (ge_lst ga_nil))))) (fun _ _ _ _ _ => (ge_var 3)) (by decide)))))

abbrev s__law_many : Stmt := top 36
def n__law_many : List Str := ["word", "item"]
def p__law_many : List Str := ["word"]
def dv__law_many : List V := []
def dd__law_many : List D := []
theorem sc__law_many : FnScope n__law_many p__law_many (defScope s__law_many) := ⟨rfl, rfl, rfl, by decide +kernel, rfl, by decide +kernel, by decide +kernel⟩
def m__law_many : MS := (sRet (mC lenD (mCons (mD (mLc (itSeq (mVar 0)) (fName 1) (mT2 neD (mVar 1) (mOk (.int 0))) (mVar 1) [1])) mNil)))
def f__law_many : Fn := runF 2 m__law_many
theorem ok__law_many {f : Addr} {fd : FuncData} (B : Bt mg) (I : It_ mg) (C : Cf K mg)  (F : FunD K "_law_many" "_law_many" (defArgs s__law_many) (defBody s__law_many) (defScope s__law_many) dv__law_many [] f fd) : FnOk P w K mg base (L2.CX P w) 3 f fd p__law_many (spD K mg T 1 f__law_many) := by
  have S := sc__law_many
  exact FunD.data F S fun cdv A outer s H E hr => (gss_one (gs_ret (ge_callB call_len lenD_ok B.b_len (gab_cons (GE.gb (GF.ge (gf_lc [("item", 1)] rfl S.nd (gi_seq (ge_var 0)) (blkOk_of (N := n__law_many) (sc := defScope s__law_many) rfl rfl (by decide +kernel)) (fun _ _ _ _ _ => (gtg_name 1 S.nd)) (fun _ _ _ _ _ => (gts_one (gt_cmp (op_neD hr.units) neD_ok (GE.gb (ge_var 1)) (GE.gb ge_int)))) (fun _ _ _ _ _ => (ge_var 1)) (by decide)))) gab_nil))))

abbrev s__law_word : Stmt := top 37
def n__law_word : List Str := ["pen", "p", "n", "x"]
def p__law_word : List Str := ["pen", "p", "n"]
def dv__law_word : List V := []
def dd__law_word : List D := []
theorem sc__law_word : FnScope n__law_word p__law_word (defScope s__law_word) := ⟨rfl, rfl, rfl, by decide +kernel, rfl, by decide +kernel, by decide +kernel⟩
def m__law_word : MS := (sRet (mC tupleD (mCons (mD (mLc (mI range1 (mCons (mVar 2) mNil)) (fName 3) (mOk true) (mCall 2 f__law_draw [] (mCons (mVar 0) (mCons (mVar 1) mNil))) [3])) mNil)))
def f__law_word : Fn := runF 4 m__law_word
theorem ok__law_word {f : Addr} {fd : FuncData} (B : Bt mg) (I : It_ mg) (C : Cf K mg) (G__law_draw : Df P w K mg base T "_law_draw" 3 p__law_draw f__law_draw dv__law_draw dd__law_draw) (F : FunD K "_law_word" "_law_word" (defArgs s__law_word) (defBody s__law_word) (defScope s__law_word) dv__law_word [] f fd) : FnOk P w K mg base (L2.CX P w) 4 f fd p__law_word (spD K mg T 3 f__law_word) := by
  have S := sc__law_word
  exact FunD.data F S fun cdv A outer s H E hr => (gss_one (gs_ret (ge_callTy call_tuple_of tupleD_ok B.b_tuple (gab_cons (GE.gb (GF.ge (gf_lc [("x", 3)] rfl S.nd (gi_range1 (ga_cons (ge_var 2) ga_nil) B.b_range) (blkOk_of (N := n__law_word) (sc := defScope s__law_word) rfl rfl (by decide +kernel)) (fun _ _ _ _ _ => (gtg_name 3 S.nd)) (fun _ _ _ _ _ => gts_nil) (fun _ _ _ _ _ => (G__law_draw.call 0 hr (by decide) passL (ga_cons (ge_var 0) (ga_cons (ge_var 1) ga_nil)))) (by decide)))) gab_nil))))

abbrev s__law_some : Stmt := top 38
def n__law_some : List Str := ["pen", "most", "p", "n", "rows", "k", "row"]
def p__law_some : List Str := ["pen", "most"]
def dv__law_some : List V := []
def dd__law_some : List D := []
theorem sc__law_some : FnScope n__law_some p__law_some (defScope s__law_some) := ⟨rfl, rfl, rfl, by decide +kernel, rfl, by decide +kernel, by decide +kernel⟩
def m__law_some : MS := (sSeq (sSet 2 (mCall 2 f__law_pick [] (mCons (mVar 0) (mCons (mLst (mCons (mOk (.int 2)) (mCons (mOk (.int 2)) (mCons (mOk (.int 3)) mNil)))) mNil))))
    (sSeq (sSet 3 (m2 addD (mOk (.int 1)) (mCall 2 f__law_draw [] (mCons (mVar 0) (mCons (mIf (mT2 eqD (mVar 2) (mOk (.int 2))) (mVar 1) (m2 divD (m2 addD (mVar 1) (mOk (.int 1))) (mOk (.int 2)))) mNil)))))
    (sSeq (sSet 4 (mD (mLc (mI range1 (mCons (mCall 2 f__law_draw [] (mCons (mVar 0) (mCons (m2 addD (mVar 3) (mOk (.int 2))) mNil))) mNil)) (fName 5) (mOk true) (mCall 3 f__law_word [] (mCons (mVar 0) (mCons (mVar 2) (mCons (mVar 3) mNil)))) [5])))
    (sSeq (sIf (mT2 eqD (mCall 2 f__law_draw [] (mCons (mVar 0) (mCons (mOk (.int 4)) mNil))) (mOk (.int 0))) (sSet 4 (m2 addD (mD (mLc (itSeq (mVar 4)) (fName 6) (mT2 neD (mCall 1 f__law_many [] (mCons (mVar 6) mNil)) (mOk (.int 1))) (mVar 6) [6])) (mLst (mCons (m2 mulD (mTup (mCons (mOk (.int 1)) mNil)) (mVar 3)) mNil))))
    sNx)
    (sRet (mTup (mCons (mVar 2) (mCons (mVar 3) (mCons (mVar 4) mNil)))))))))
def f__law_some : Fn := runF 7 m__law_some
theorem ok__law_some {f : Addr} {fd : FuncData} (B : Bt mg) (I : It_ mg) (C : Cf K mg) (G__law_draw : Df P w K mg base T "_law_draw" 3 p__law_draw f__law_draw dv__law_draw dd__law_draw) (G__law_pick : Df P w K mg base T "_law_pick" 4 p__law_pick f__law_pick dv__law_pick dd__law_pick) (G__law_many : Df P w K mg base T "_law_many" 3 p__law_many f__law_many dv__law_many dd__law_many) (G__law_word : Df P w K mg base T "_law_word" 4 p__law_word f__law_word dv__law_word dd__law_word) (F : FunD K "_law_some" "_law_some" (defArgs s__law_some) (defBody s__law_some) (defScope s__law_some) dv__law_some [] f fd) : FnOk P w K mg base (L2.CX P w) 5 f fd p__law_some (spD K mg T 2 f__law_some) := by
  have S := sc__law_some
  exact FunD.data F S fun cdv A outer s H E hr => (gss_cons (gs_set 2 (G__law_pick.call 0 hr (by decide) passU (ga_cons (ge_var 0) (ga_cons (ge_lst (ga_cons ge_int (ga_cons ge_int (ga_cons ge_int ga_nil)))) ga_nil))) S.nd)
    (gss_cons (gs_set 3 (ge_op op_addD addD_ok (GE.gb ge_int) (GE.gb (G__law_draw.call 0 hr (by decide) passU (ga_cons (ge_var 0) (ga_cons (ge_if (gt_cmp (op_eqD hr.units) eqD_ok (GE.gb (ge_var 2)) (GE.gb ge_int)) (ge_var 1) (ge_op op_divD divD_ok (GE.gb (ge_op op_addD addD_ok (GE.gb (ge_var 1)) (GE.gb ge_int))) (GE.gb ge_int))) ga_nil))))) S.nd)
    (gss_cons (gs_setLc 4 [("k", 5)] rfl S.nd rfl rfl (sw_true rfl rfl (by decide +kernel) (by decide +kernel)) (gi_range1 (ga_cons (G__law_draw.call 0 hr (by decide) passU (ga_cons (ge_var 0) (ga_cons (ge_op op_addD addD_ok (GE.gb (ge_var 3)) (GE.gb ge_int)) ga_nil))) ga_nil) B.b_range) (blkOk_of (N := n__law_some) (sc := defScope s__law_some) rfl rfl (by decide +kernel)) (fun _ _ _ _ _ => (gtg_name 5 S.nd)) (fun _ _ _ _ _ => gts_nil) (fun _ _ _ _ _ => (G__law_word.call 0 hr (by decide) passL (ga_cons (ge_var 0) (ga_cons (ge_var 2) (ga_cons (ge_var 3) ga_nil))))) (by decide))
    (gss_cons (gs_if (gt_cmp (op_eqD hr.units) eqD_ok (GE.gb (G__law_draw.call 0 hr (by decide) passU (ga_cons (ge_var 0) (ga_cons ge_int ga_nil)))) (GE.gb ge_int)) (gss_one (gs_set 4 (ge_op op_addD addD_ok (GE.gb (GF.ge (gf_lc [("row", 6)] rfl S.nd (gi_seq (ge_var 4)) (blkOk_of (N := n__law_some) (sc := defScope s__law_some) rfl rfl (by decide +kernel)) (fun _ _ _ _ _ => (gtg_name 6 S.nd)) (fun _ _ _ _ _ => (gts_one (gt_cmp (op_neD hr.units) neD_ok (GE.gb (G__law_many.call 0 hr (by decide) passL (ga_cons (ge_var 6) ga_nil))) (GE.gb ge_int)))) (fun _ _ _ _ _ => (ge_var 6)) (by decide)))) (GE.gb (ge_lst (ga_cons (ge_op op_mulD mulD_ok (GE.gb (ge_tup (ga_cons ge_int ga_nil))) (GE.gb (ge_var 3))) ga_nil)))) S.nd))
    gss_nil)
    (gss_one (gs_ret (ge_tup (ga_cons (ge_var 2) (ga_cons (ge_var 3) (ga_cons (ge_var 4) ga_nil))))))))))

-- NOT _law_complaint: Try(body=[Return(value=Tuple(elts=[Constant(value='ok'), Call(func=Name(id='call', ctx=Load()), args

abbrev s_law : Stmt := top 40
def n_law : List Str := ["script", "pen", "lap", "p", "n", "rows", "code", "lot", "dual", "rest", "k", "other", "second", "both", "whole", "word", "strange", "found", "nothing"]
def p_law : List Str := ["script"]
def dv_law : List V := []
def dd_law : List D := []
theorem sc_law : FnScope n_law p_law (defScope s_law) := ⟨rfl, rfl, rfl, by decide +kernel, rfl, by decide +kernel, by decide +kernel⟩
def lawRest : List Stmt := match defBody s_law with | _ :: r => r | [] => []
def lamQ : Str := (envOfC "law" (defScope s_law) 0 0 .none).qual ++ "<lambda>"
def m_law : MS := (sSeq (sFor (mI range1 (mCons (mOk (.int 3)) mNil)) (fName 2)
    (sSeq (sTg (fTup 3 (fCons (fName 3) (fCons (fName 4) (fCons (fName 5) fNil)))) (mCall 2 f__law_some [] (mCons (mVar 1) (mCons (mOk (.int 7)) mNil))))
    (sSeq (sTg (fTup 2 (fCons (fName 6) (fCons (fName 7) fNil))) (mTup (mCons (mMake 3 f_Code_init [] (mCons (mVar 3) (mCons (mVar 4) (mCons (mD (mListOf (mCons (mVar 5) mNil))) mNil)))) (mCons (mCall 3 f__law_span [] (mCons (mVar 3) (mCons (mVar 4) (mCons (mVar 5) mNil)))) mNil))))
    (sSeq (sSet 8 (mCall 1 f_mirror [] (mCons (mVar 6) mNil)))
    (sSeq (sIf (tOrM (mTEq true CS "Code" f_Code_eq (mVar 8) (mMake 3 f_Code_init [] (mCons (mVar 3) (mCons (mVar 4) (mCons (mCall 3 f__law_dual [] (mCons (mVar 3) (mCons (mVar 4) (mCons (mVar 5) mNil)))) mNil))))) (tOrM (mT2 neD (m2 addD (m1 (fldD CS "size") (mVar 8)) (m1 (fldD CS "size") (mVar 6))) (mVar 4)) (mTEq true CS "Code" f_Code_eq (mCall 1 f_mirror [] (mCons (mVar 8) mNil)) (mVar 6)))) (sRet (mOk (.bl false)))
    sNx)
    (sSeq (sSet 9 (mD (mLc (mI range1 (mCons (mCall 2 f__law_draw [] (mCons (mVar 1) (mCons (m2 addD (mVar 4) (mOk (.int 1))) mNil))) mNil)) (fName 10) (mOk true) (mCall 3 f__law_word [] (mCons (mVar 1) (mCons (mVar 3) (mCons (mVar 4) mNil)))) [10])))
    (sSeq (sTg (fTup 2 (fCons (fName 11) (fCons (fName 12) fNil))) (mTup (mCons (mMake 3 f_Code_init [] (mCons (mVar 3) (mCons (mVar 4) (mCons (mD (mListOf (mCons (mVar 9) mNil))) mNil)))) (mCons (mCall 3 f__law_span [] (mCons (mVar 3) (mCons (mVar 4) (mCons (mVar 9) mNil)))) mNil))))
    (sSeq (sPar [13, 14] (xSh (mCall 2 f_meet [] (mCons (mVar 6) (mCons (mVar 11) mNil))) (xSh (mCall 2 f_sum_of [] (mCons (mVar 6) (mCons (mVar 11) mNil))) xNil)))
    (sSeq (sIf (tOrM (mTEq true CS "Code" f_Code_eq (mVar 13) (mMake 3 f_Code_init [] (mCons (mVar 3) (mCons (mVar 4) (mCons (mD (mLc (itSeq (mVar 7)) (fName 15) (mT2 inD (mVar 15) (mVar 12)) (mVar 15) [15])) mNil))))) (mTEq true CS "Code" f_Code_eq (mVar 14) (mMake 3 f_Code_init [] (mCons (mVar 3) (mCons (mVar 4) (mCons (m2 addD (mVar 5) (mVar 9)) mNil)))))) (sRet (mOk (.bl false)))
    sNx)
    (sSeq (sIf (tOrM (mT2 neD (m2 addD (m1 (fldD CS "size") (mVar 13)) (m1 (fldD CS "size") (mVar 14))) (m2 addD (m1 (fldD CS "size") (mVar 6)) (m1 (fldD CS "size") (mVar 11)))) (mTEq true CS "Code" f_Code_eq (mCall 1 f_mirror [] (mCons (mVar 14) mNil)) (mCall 2 f_meet [] (mCons (mVar 8) (mCons (mCall 1 f_mirror [] (mCons (mVar 11) mNil)) mNil))))) (sRet (mOk (.bl false)))
    sNx)
    (sSeq (sIf (mTEq true CS "Code" f_Code_eq (mCall 1 f_mirror [] (mCons (mVar 13) mNil)) (mCall 2 f_sum_of [] (mCons (mVar 8) (mCons (mCall 1 f_mirror [] (mCons (mVar 11) mNil)) mNil)))) (sRet (mOk (.bl false)))
    sNx)
    (sSeq (sSet 16 (mCall 2 f__law_pick [] (mCons (mVar 1) (mCons (mLst (mCons (mMake 3 f_Code_init [] (mCons (m2 subD (mOk (.int 5)) (mVar 3)) (mCons (mVar 4) (mCons (mLst mNil) mNil)))) (mCons (mMake 3 f_Code_init [] (mCons (mVar 3) (mCons (m2 addD (mVar 4) (mOk (.int 1))) (mCons (mLst mNil) mNil)))) mNil))) mNil))))
    (sSeq (sSetO 17 (mList (mCons (mCaught es cs2 "ok" l__law_complaint (mCall 2 f_meet [] (mCons (mVar 6) (mCons (mVar 16) mNil)))) mNil)))
    (sSeq (sMut 17 (mCaught es cs2 "ok" l__law_complaint (mCall 2 f_sum_of [] (mCons (mVar 6) (mCons (mVar 16) mNil)))) uApp)
    (sIf (mT2 neD (mVarB 17) (mD (m2O repO (mLst (mCons (mTup (mCons (mOk (.str "alike")) (mCons (mVar 4) (mCons (m1 (fldD CS "n") (mVar 16)) (mCons (mVar 3) (mCons (m1 (fldD CS "p") (mVar 16)) mNil)))))) mNil)) (mOk (.int 2))))) (sRet (mOk (.bl false)))
    sNx)))))))))))))))
    (sSeq (sSet 18 (mCall 2 f__law_pick [] (mCons (mVar 1) (mCons (mLst (mCons (mOk .non) (mCons (mOk (.int 3)) (mCons (mTup (mCons (mTup (mCons (mOk (.int 0)) (mCons (mOk (.int 1)) mNil))) mNil)) mNil)))) mNil))))
    (sSeq (sSetO 17 (mList (mCons (mCaught es cs2 "ok" l__law_complaint (mCall 1 f_mirror [] (mCons (mVar 18) mNil))) mNil)))
    (sSeq (sMut 17 (mCaught es cs2 "ok" l__law_complaint (mCall 2 f_meet [] (mCons (mVar 18) (mCons (mOk .non) mNil)))) uApp)
    (sSeq (sMut 17 (mCaught es cs2 "ok" l__law_complaint (mCall 2 f_sum_of [] (mCons (mVar 6) (mCons (mVar 18) mNil)))) uApp)
    (sRet (m2 eqD (mVarB 17) (mD (m2O repO (mLst (mCons (mTup (mCons (mOk (.str "item")) (mCons (mC repr1 (mCons (mVar 18) mNil)) mNil))) mNil)) (mOk (.int 3)))))))))))
theorem ok_law {f cc Pt : Addr} (B : Bt mg) (I : It_ mg) (C : Cf K mg) (G_mirror : Df P w K mg base T "mirror" 10 p_mirror f_mirror dv_mirror dd_mirror) (G_meet : Df P w K mg base T "meet" 10 p_meet f_meet dv_meet dd_meet) (G_sum_of : Df P w K mg base T "sum_of" 9 p_sum_of f_sum_of dv_sum_of dd_sum_of) (G__law_draw : Df P w K mg base T "_law_draw" 3 p__law_draw f__law_draw dv__law_draw dd__law_draw) (G__law_pick : Df P w K mg base T "_law_pick" 4 p__law_pick f__law_pick dv__law_pick dd__law_pick) (G__law_span : Df P w K mg base T "_law_span" 3 p__law_span f__law_span dv__law_span dd__law_span) (G__law_dual : Df P w K mg base T "_law_dual" 3 p__law_dual f__law_dual dv__law_dual dd__law_dual) (G__law_word : Df P w K mg base T "_law_word" 4 p__law_word f__law_word dv__law_word dd__law_word) (G__law_some : Df P w K mg base T "_law_some" 5 p__law_some f__law_some dv__law_some dd__law_some) (M_Code : Dm P w K mg base T "Code" 6 3 f_Code_init dv_Code_init dd_Code_init) (Q_Code : De P w K mg base T CS "Code" 1 f_Code_eq) (Ca__law_complaint : Cau K mg "_law_complaint" "ok" l__law_complaint) (Lk__law_complaint : LadK K mg es cs2 l__law_complaint) (TB : TabB base mg cc Pt) (hT1 : (Pt, lamQ) ∈ T) (hT2 : ∀ p ∈ T, p.1 = Pt → p.2 = lamQ) (A : Around) (outer : List Env) (s : Shared) (H : Hp) (E : XK) (hr : Room 12 (A.deeper (envOfC "law" (defScope s_law) s.heap.objs.size f (.ref cc)))) (hgd : A.guards = some []) :
    GSs T (cxX P w K mg base n_law "law" (defScope s_law) f (.ref cc) A outer s H E) E lawRest m_law := by
  have S := sc_law
  exact (gss_cons (gs_for ownU (gi_range1 (ga_cons ge_int ga_nil) B.b_range) (gtg_name 2 S.nd)
    (gss_cons (gs_tg (gtg_tup 3 (gtgs_cons (gtg_name 3 S.nd) (gtgs_cons (gtg_name 4 S.nd) (gtgs_cons (gtg_name 5 S.nd) gtgs_nil)))) (G__law_some.call 0 hr (by decide) passU (ga_cons (ge_var 1) (ga_cons ge_int ga_nil))))
    (gss_cons (gs_tg (gtg_tup 2 (gtgs_cons (gtg_name 6 S.nd) (gtgs_cons (gtg_name 7 S.nd) gtgs_nil))) (ge_tup (ga_cons (M_Code.call 0 hr (by decide) passU (ga_cons (ge_var 3) (ga_cons (ge_var 4) (ga_cons (GF.ge (gf_list (gab_cons (GE.gb (ge_var 5)) gab_nil) B.b_list)) ga_nil)))) (ga_cons (G__law_span.call 0 hr (by decide) passU (ga_cons (ge_var 3) (ga_cons (ge_var 4) (ga_cons (ge_var 5) ga_nil)))) ga_nil))))
    (gss_cons (gs_set 8 (G_mirror.call 0 hr (by decide) passU (ga_cons (ge_var 6) ga_nil)) S.nd)
    (gss_cons (gs_if (GW.gt (gw_or (Q_Code.tne hr (by decide) passU (ge_var 8) (M_Code.call 0 hr (by decide) passU (ga_cons (ge_var 3) (ga_cons (ge_var 4) (ga_cons (G__law_dual.call 0 hr (by decide) passU (ga_cons (ge_var 3) (ga_cons (ge_var 4) (ga_cons (ge_var 5) ga_nil)))) ga_nil))))) (gw_or (gt_cmp (op_neD hr.units) neD_ok (GE.gb (ge_op op_addD addD_ok (GE.gb (ge_fld CS C.f_size (GE.gb (ge_var 8)))) (GE.gb (ge_fld CS C.f_size (GE.gb (ge_var 6)))))) (GE.gb (ge_var 4))) (gw_or1 (Q_Code.tne hr (by decide) passU (G_mirror.call 0 hr (by decide) passU (ga_cons (ge_var 8) ga_nil)) (ge_var 6)))))) (gss_one (gs_ret ge_bl))
    gss_nil)
    (gss_cons (gs_setLc 9 [("k", 10)] rfl S.nd rfl rfl (sw_true rfl rfl (by decide +kernel) (by decide +kernel)) (gi_range1 (ga_cons (G__law_draw.call 0 hr (by decide) passU (ga_cons (ge_var 1) (ga_cons (ge_op op_addD addD_ok (GE.gb (ge_var 4)) (GE.gb ge_int)) ga_nil))) ga_nil) B.b_range) (blkOk_of (N := n_law) (sc := defScope s_law) rfl rfl (by decide +kernel)) (fun _ _ _ _ _ => (gtg_name 10 S.nd)) (fun _ _ _ _ _ => gts_nil) (fun _ _ _ _ _ => (G__law_word.call 0 hr (by decide) passL (ga_cons (ge_var 1) (ga_cons (ge_var 3) (ga_cons (ge_var 4) ga_nil))))) (by decide))
    (gss_cons (gs_tg (gtg_tup 2 (gtgs_cons (gtg_name 11 S.nd) (gtgs_cons (gtg_name 12 S.nd) gtgs_nil))) (ge_tup (ga_cons (M_Code.call 0 hr (by decide) passU (ga_cons (ge_var 3) (ga_cons (ge_var 4) (ga_cons (GF.ge (gf_list (gab_cons (GE.gb (ge_var 9)) gab_nil) B.b_list)) ga_nil)))) (ga_cons (G__law_span.call 0 hr (by decide) passU (ga_cons (ge_var 3) (ga_cons (ge_var 4) (ga_cons (ge_var 9) ga_nil)))) ga_nil))))
    (gss_cons (gs_par (gx_sh (G_meet.call 0 hr (by decide) passU (ga_cons (ge_var 6) (ga_cons (ge_var 11) ga_nil))) (gx_sh (G_sum_of.call 0 hr (by decide) passU (ga_cons (ge_var 6) (ga_cons (ge_var 11) ga_nil))) gx_nil)) S.nd rfl rfl)
    (gss_cons (gs_if (GW.gt (gw_or (Q_Code.tne hr (by decide) passU (ge_var 13) (M_Code.call 0 hr (by decide) passU (ga_cons (ge_var 3) (ga_cons (ge_var 4) (ga_cons (GF.ge (gf_lc [("word", 15)] rfl S.nd (gi_seq (ge_var 7)) (blkOk_of (N := n_law) (sc := defScope s_law) rfl rfl (by decide +kernel)) (fun _ _ _ _ _ => (gtg_name 15 S.nd)) (fun _ _ _ _ _ => (gts_one (gt_cmp (op_inA hr.u65) inD_ok (GE.gb (ge_var 15)) (GE.gb (ge_var 12))))) (fun _ _ _ _ _ => (ge_var 15)) (by decide))) ga_nil))))) (gw_or1 (Q_Code.tne hr (by decide) passU (ge_var 14) (M_Code.call 0 hr (by decide) passU (ga_cons (ge_var 3) (ga_cons (ge_var 4) (ga_cons (ge_op op_addD addD_ok (GE.gb (ge_var 5)) (GE.gb (ge_var 9))) ga_nil)))))))) (gss_one (gs_ret ge_bl))
    gss_nil)
    (gss_cons (gs_if (GW.gt (gw_or (gt_cmp (op_neD hr.units) neD_ok (GE.gb (ge_op op_addD addD_ok (GE.gb (ge_fld CS C.f_size (GE.gb (ge_var 13)))) (GE.gb (ge_fld CS C.f_size (GE.gb (ge_var 14)))))) (GE.gb (ge_op op_addD addD_ok (GE.gb (ge_fld CS C.f_size (GE.gb (ge_var 6)))) (GE.gb (ge_fld CS C.f_size (GE.gb (ge_var 11))))))) (gw_or1 (Q_Code.tne hr (by decide) passU (G_mirror.call 0 hr (by decide) passU (ga_cons (ge_var 14) ga_nil)) (G_meet.call 0 hr (by decide) passU (ga_cons (ge_var 8) (ga_cons (G_mirror.call 0 hr (by decide) passU (ga_cons (ge_var 11) ga_nil)) ga_nil))))))) (gss_one (gs_ret ge_bl))
    gss_nil)
    (gss_cons (gs_if (Q_Code.tne hr (by decide) passU (G_mirror.call 0 hr (by decide) passU (ga_cons (ge_var 13) ga_nil)) (G_sum_of.call 0 hr (by decide) passU (ga_cons (ge_var 8) (ga_cons (G_mirror.call 0 hr (by decide) passU (ga_cons (ge_var 11) ga_nil)) ga_nil)))) (gss_one (gs_ret ge_bl))
    gss_nil)
    (gss_cons (gs_set 16 (G__law_pick.call 0 hr (by decide) passU (ga_cons (ge_var 1) (ga_cons (ge_lst (ga_cons (M_Code.call 0 hr (by decide) passU (ga_cons (ge_op op_sub subD_ok (GE.gb ge_int) (GE.gb (ge_var 3))) (ga_cons (ge_var 4) (ga_cons (ge_lst ga_nil) ga_nil)))) (ga_cons (M_Code.call 0 hr (by decide) passU (ga_cons (ge_var 3) (ga_cons (ge_op op_addD addD_ok (GE.gb (ge_var 4)) (GE.gb ge_int)) (ga_cons (ge_lst ga_nil) ga_nil)))) ga_nil))) ga_nil))) S.nd)
    (gss_cons (gs_setO 17 (gf_lst (ga_cons (ge_caught Ca__law_complaint Lk__law_complaint rfl TB rfl hT1 hT2 hr hgd (lamS_by (sc := defScope s_law) (by decide +kernel)) rfl (fun _ _ _ _ _ => rfl) (fun A outer s H E f c hr => (G_meet.call 0 hr (by decide) passLam (ga_cons (ge_var 6) (ga_cons (ge_var 16) ga_nil))))) ga_nil)) S.nd)
    (gss_cons (gs_append 17 (ge_caught Ca__law_complaint Lk__law_complaint rfl TB rfl hT1 hT2 hr hgd (lamS_by (sc := defScope s_law) (by decide +kernel)) rfl (fun _ _ _ _ _ => rfl) (fun A outer s H E f c hr => (G_sum_of.call 0 hr (by decide) passLam (ga_cons (ge_var 6) (ga_cons (ge_var 16) ga_nil))))))
    (gss_one (gs_if (gt_cmp (op_neD hr.units) neD_ok (gb_var 17) (GE.gb (GF.ge (gf_rep (GE.gb (ge_lst (ga_cons (ge_tup (ga_cons ge_str (ga_cons (ge_var 4) (ga_cons (ge_fld CS C.f_n (GE.gb (ge_var 16))) (ga_cons (ge_var 3) (ga_cons (ge_fld CS C.f_p (GE.gb (ge_var 16))) ga_nil)))))) ga_nil))) (GE.gb ge_int))))) (gss_one (gs_ret ge_bl))
    gss_nil))))))))))))))))
    (gss_cons (gs_set 18 (G__law_pick.call 0 hr (by decide) passU (ga_cons (ge_var 1) (ga_cons (ge_lst (ga_cons ge_non (ga_cons ge_int (ga_cons (ge_tup (ga_cons (ge_tup (ga_cons ge_int (ga_cons ge_int ga_nil))) ga_nil)) ga_nil)))) ga_nil))) S.nd)
    (gss_cons (gs_setO 17 (gf_lst (ga_cons (ge_caught Ca__law_complaint Lk__law_complaint rfl TB rfl hT1 hT2 hr hgd (lamS_by (sc := defScope s_law) (by decide +kernel)) rfl (fun _ _ _ _ _ => rfl) (fun A outer s H E f c hr => (G_mirror.call 0 hr (by decide) passLam (ga_cons (ge_var 18) ga_nil)))) ga_nil)) S.nd)
    (gss_cons (gs_append 17 (ge_caught Ca__law_complaint Lk__law_complaint rfl TB rfl hT1 hT2 hr hgd (lamS_by (sc := defScope s_law) (by decide +kernel)) rfl (fun _ _ _ _ _ => rfl) (fun A outer s H E f c hr => (G_meet.call 0 hr (by decide) passLam (ga_cons (ge_var 18) (ga_cons ge_non ga_nil))))))
    (gss_cons (gs_append 17 (ge_caught Ca__law_complaint Lk__law_complaint rfl TB rfl hT1 hT2 hr hgd (lamS_by (sc := defScope s_law) (by decide +kernel)) rfl (fun _ _ _ _ _ => rfl) (fun A outer s H E f c hr => (G_sum_of.call 0 hr (by decide) passLam (ga_cons (ge_var 6) (ga_cons (ge_var 18) ga_nil))))))
    (gss_one (gs_ret (ge_cmp (op_eqD hr.units) eqD_ok (gb_var 17) (GE.gb (GF.ge (gf_rep (GE.gb (ge_lst (ga_cons (ge_tup (ga_cons ge_str (ga_cons (ge_callB (call_repr hgd hr.u70) repr1_ok B.b_repr (gab_cons (GE.gb (ge_var 18)) gab_nil)) ga_nil))) ga_nil))) (GE.gb ge_int))))))))))))
end
abbrev s__law_pen : Stmt := top 28
abbrev s__law_complaint : Stmt := top 39
def d_is_integer : He.DefD := ⟨("is_integer", none), "is_integer", "is_integer", defArgs s_is_integer, defBody s_is_integer, defScope s_is_integer, [], []⟩
def d_is_row : He.DefD := ⟨("is_row", none), "is_row", "is_row", defArgs s_is_row, defBody s_is_row, defScope s_is_row, [], []⟩
def d_is_letters : He.DefD := ⟨("is_letters", none), "is_letters", "is_letters", defArgs s_is_letters, defBody s_is_letters, defScope s_is_letters, [], []⟩
def d_added : He.DefD := ⟨("added", none), "added", "added", defArgs s_added, defBody s_added, defScope s_added, [.int 1], []⟩
def d_multiple : He.DefD := ⟨("multiple", none), "multiple", "multiple", defArgs s_multiple, defBody s_multiple, defScope s_multiple, [], []⟩
def d_lead_of : He.DefD := ⟨("lead_of", none), "lead_of", "lead_of", defArgs s_lead_of, defBody s_lead_of, defScope s_lead_of, [], []⟩
def d_without_leads : He.DefD := ⟨("without_leads", none), "without_leads", "without_leads", defArgs s_without_leads, defBody s_without_leads, defScope s_without_leads, [], []⟩
def d_stepped : He.DefD := ⟨("stepped", none), "stepped", "stepped", defArgs s_stepped, defBody s_stepped, defScope s_stepped, [], []⟩
def d_need_letters : He.DefD := ⟨("need_letters", none), "need_letters", "need_letters", defArgs s_need_letters, defBody s_need_letters, defScope s_need_letters, [], []⟩
def d_Code_init : He.DefD := ⟨("Code", some "__init__"), "__init__", "Code.__init__", defArgs s_Code_init, defBody s_Code_init, defScope s_Code_init, [], []⟩
def d_Code_eq : He.DefD := ⟨("Code", some "__eq__"), "__eq__", "Code.__eq__", defArgs s_Code_eq, defBody s_Code_eq, defScope s_Code_eq, [], []⟩
def d_need_code : He.DefD := ⟨("need_code", none), "need_code", "need_code", defArgs s_need_code, defBody s_need_code, defScope s_need_code, [], []⟩
def d_need_two : He.DefD := ⟨("need_two", none), "need_two", "need_two", defArgs s_need_two, defBody s_need_two, defScope s_need_two, [], []⟩
def d_made_code : He.DefD := ⟨("made_code", none), "made_code", "made_code", defArgs s_made_code, defBody s_made_code, defScope s_made_code, [], []⟩
def d_mirror_words : He.DefD := ⟨("mirror_words", none), "mirror_words", "mirror_words", defArgs s_mirror_words, defBody s_mirror_words, defScope s_mirror_words, [], []⟩
def d_mirror_of : He.DefD := ⟨("mirror_of", none), "mirror_of", "mirror_of", defArgs s_mirror_of, defBody s_mirror_of, defScope s_mirror_of, [], []⟩
def d_mirror : He.DefD := ⟨("mirror", none), "mirror", "mirror", defArgs s_mirror, defBody s_mirror, defScope s_mirror, [], []⟩
def d_meet : He.DefD := ⟨("meet", none), "meet", "meet", defArgs s_meet, defBody s_meet, defScope s_meet, [], []⟩
def d_sum_of : He.DefD := ⟨("sum_of", none), "sum_of", "sum_of", defArgs s_sum_of, defBody s_sum_of, defScope s_sum_of, [], []⟩
def d__law_draw : He.DefD := ⟨("_law_draw", none), "_law_draw", "_law_draw", defArgs s__law_draw, defBody s__law_draw, defScope s__law_draw, [], []⟩
def d__law_pick : He.DefD := ⟨("_law_pick", none), "_law_pick", "_law_pick", defArgs s__law_pick, defBody s__law_pick, defScope s__law_pick, [], []⟩
def d__law_all : He.DefD := ⟨("_law_all", none), "_law_all", "_law_all", defArgs s__law_all, defBody s__law_all, defScope s__law_all, [], []⟩
def d__law_plus : He.DefD := ⟨("_law_plus", none), "_law_plus", "_law_plus", defArgs s__law_plus, defBody s__law_plus, defScope s__law_plus, [.int 1], []⟩
def d__law_dot : He.DefD := ⟨("_law_dot", none), "_law_dot", "_law_dot", defArgs s__law_dot, defBody s__law_dot, defScope s__law_dot, [], []⟩
def d__law_span : He.DefD := ⟨("_law_span", none), "_law_span", "_law_span", defArgs s__law_span, defBody s__law_span, defScope s__law_span, [], []⟩
def d__law_dual : He.DefD := ⟨("_law_dual", none), "_law_dual", "_law_dual", defArgs s__law_dual, defBody s__law_dual, defScope s__law_dual, [], []⟩
def d__law_many : He.DefD := ⟨("_law_many", none), "_law_many", "_law_many", defArgs s__law_many, defBody s__law_many, defScope s__law_many, [], []⟩
def d__law_word : He.DefD := ⟨("_law_word", none), "_law_word", "_law_word", defArgs s__law_word, defBody s__law_word, defScope s__law_word, [], []⟩
def d__law_some : He.DefD := ⟨("_law_some", none), "_law_some", "_law_some", defArgs s__law_some, defBody s__law_some, defScope s__law_some, [], []⟩
def d_law : He.DefD := ⟨("law", none), "law", "law", defArgs s_law, defBody s_law, defScope s_law, [], []⟩
def d__law_pen : He.DefD := ⟨("_law_pen", none), "_law_pen", "_law_pen", defArgs s__law_pen, defBody s__law_pen, defScope s__law_pen, [], []⟩
def d__law_complaint : He.DefD := ⟨("_law_complaint", none), "_law_complaint", "_law_complaint", defArgs s__law_complaint, defBody s__law_complaint, defScope s__law_complaint, [], []⟩
def fn : List He.DefD := [d_is_integer, d_is_row, d_is_letters, d_added, d_multiple, d_lead_of, d_without_leads, d_stepped, d_need_letters, d_Code_init, d_Code_eq, d_need_code, d_need_two, d_made_code, d_mirror_words, d_mirror_of, d_mirror, d_meet, d_sum_of, d__law_draw, d__law_pick, d__law_all, d__law_plus, d__law_dot, d__law_span, d__law_dual, d__law_many, d__law_word, d__law_some, d_law, d__law_pen, d__law_complaint]
abbrev s_BadNumber_init : Stmt := inClass (top 2) 0
def e_BadNumber : He.DefD := ⟨("BadNumber", some "__init__"), "__init__", "BadNumber.__init__", defArgs s_BadNumber_init, defBody s_BadNumber_init, defScope s_BadNumber_init, [], []⟩
abbrev s_BadItem_init : Stmt := inClass (top 3) 0
def e_BadItem : He.DefD := ⟨("BadItem", some "__init__"), "__init__", "BadItem.__init__", defArgs s_BadItem_init, defBody s_BadItem_init, defScope s_BadItem_init, [], []⟩
abbrev s_BadRows_init : Stmt := inClass (top 4) 0
def e_BadRows : He.DefD := ⟨("BadRows", some "__init__"), "__init__", "BadRows.__init__", defArgs s_BadRows_init, defBody s_BadRows_init, defScope s_BadRows_init, [], []⟩
abbrev s_NotAlike_init : Stmt := inClass (top 5) 0
def e_NotAlike : He.DefD := ⟨("NotAlike", some "__init__"), "__init__", "NotAlike.__init__", defArgs s_NotAlike_init, defBody s_NotAlike_init, defScope s_NotAlike_init, [], []⟩
def en : List He.DefD := [e_BadNumber, e_BadItem, e_BadRows, e_NotAlike]
def fa : List He.Fa := [.glo "is_integer", .glo "is_row", .glo "is_letters", .glo "added", .glo "multiple", .glo "lead_of", .glo "without_leads", .glo "stepped", .glo "need_letters", .glo "need_code", .glo "need_two", .glo "made_code", .glo "mirror_words", .glo "mirror_of", .glo "mirror", .glo "meet", .glo "sum_of", .glo "_law_pen", .glo "_law_draw", .glo "_law_pick", .glo "_law_all", .glo "_law_plus", .glo "_law_dot", .glo "_law_span", .glo "_law_dual", .glo "_law_many", .glo "_law_word", .glo "_law_some", .glo "_law_complaint", .glo "law", .glo "Code", .glo "BadNumber", .glo "BadItem", .glo "BadRows", .glo "NotAlike", .free "all", .free "bool", .free "enumerate", .free "int", .free "isinstance", .free "len", .free "list", .free "range", .free "repr", .free "sorted", .free "sum", .free "super", .free "tuple", .free "zip", .int "MOST_LETTERS" 24, .cls "Code", .noat "Code" "basis", .noat "Code" "n", .noat "Code" "p", .noat "Code" "size", .mkr "Code"]
abbrev prog : Program := PySem.Challenge.rw_evenwords_k09_whole_mirrors.prog
def exL : List (PySem.W.Frag → Bool) := [fun K => CS.all fun c => clsIB K (He.ga K c),
  fun K => isiTB K CS (.type "bool") (ansB "bool") (fun _ => some false),
  fun K => isiTB K CS (.type "int") (ansB "int") (fun _ => some false),
  fun K => isiTB K CS (.type "list") (ansB "list") (fun _ => some false),
  fun K => isiTB K CS (.type "tuple") (ansB "tuple") (fun _ => some false),
  fun K => isiTB K CS (.ref (He.ga K "Code")) ansN (ansC "Code"),
  fun K => eqfB K CS (He.ga K "Code"),
  fun K => supB prog K ("BadNumber", some "__init__") "BadNumber.__init__" (He.ga K "BadNumber"),
  fun K => supB prog K ("BadItem", some "__init__") "BadItem.__init__" (He.ga K "BadItem"),
  fun K => supB prog K ("BadRows", some "__init__") "BadRows.__init__" (He.ga K "BadRows"),
  fun K => supB prog K ("NotAlike", some "__init__") "NotAlike.__init__" (He.ga K "NotAlike"),
  fun K => initB K "BadNumber",
  fun K => initB K "BadItem",
  fun K => initB K "BadRows",
  fun K => initB K "NotAlike",
  fun K => decide (PySem.W.findIn K (.ref (He.ga K "BadNumber")) "what" = some none) && decide (PySem.W.findIn K (.ref (He.ga K "BadNumber")) "value" = some none),
  fun K => decide (PySem.W.findIn K (.ref (He.ga K "BadItem")) "value" = some none),
  fun K => decide (PySem.W.findIn K (.ref (He.ga K "BadRows")) "value" = some none),
  fun K => decide (PySem.W.findIn K (.ref (He.ga K "NotAlike")) "one" = some none) && decide (PySem.W.findIn K (.ref (He.ga K "NotAlike")) "other" = some none),
  fun K => ladKB K es cs2 l__law_complaint]
def ex (K : PySem.W.Frag) : Bool := exL.all fun b => b K
def tf : List He.Defn := [("law", none)]
section
variable {w : World} {h : Heap} {K : PySem.W.Frag} {mg : Str → Option Value} (X : K.In h) (G : h.Ns mainGlobals mg) (c : SaysY fa fn tf ex en w h K)
include X G c
theorem b_of : Bt mg := ⟨(He.free_ok X G (c.x.t.d.fact 35 (f := .free "all") rfl)), (He.free_ok X G (c.x.t.d.fact 36 (f := .free "bool") rfl)), (He.free_ok X G (c.x.t.d.fact 37 (f := .free "enumerate") rfl)), (He.free_ok X G (c.x.t.d.fact 38 (f := .free "int") rfl)), (He.free_ok X G (c.x.t.d.fact 39 (f := .free "isinstance") rfl)), (He.free_ok X G (c.x.t.d.fact 40 (f := .free "len") rfl)), (He.free_ok X G (c.x.t.d.fact 41 (f := .free "list") rfl)), (He.free_ok X G (c.x.t.d.fact 42 (f := .free "range") rfl)), (He.free_ok X G (c.x.t.d.fact 43 (f := .free "repr") rfl)), (He.free_ok X G (c.x.t.d.fact 44 (f := .free "sorted") rfl)), (He.free_ok X G (c.x.t.d.fact 45 (f := .free "sum") rfl)), (He.free_ok X G (c.x.t.d.fact 47 (f := .free "tuple") rfl)), (He.free_ok X G (c.x.t.d.fact 48 (f := .free "zip") rfl))⟩
theorem i_of : It_ mg := ⟨He.int_ok X G (c.x.t.d.fact 49 (f := .int "MOST_LETTERS" 24) rfl)⟩
theorem cs_of : ∀ c ∈ CS, mg c = some (.ref (He.ga K c)) := by
  intro x hx
  simp only [CS, List.mem_cons, List.not_mem_nil, or_false] at hx
  rcases hx with rfl
  · exact (He.glo_ok X G (c.x.t.d.fact 30 (f := .glo "Code") rfl))
theorem cls_of : ∀ c ∈ CS, Cls K (He.ga K c) := by
  intro x hx
  simp only [CS, List.mem_cons, List.not_mem_nil, or_false] at hx
  rcases hx with rfl
  · exact He.cls_ok (c.x.t.d.fact 50 (f := .cls "Code") rfl)
theorem clsI_of : ∀ c ∈ CS, ClsI K (He.ga K c) := fun x hx => clsIB_ok (cls_of X G c x hx) (List.all_eq_true.mp (exAt c.x.more 0) x hx)
theorem f_of_basis : ∀ c ∈ CS, ∀ C, mg c = some (.ref C) → Cls K C ∧ NoAttr K C "basis" := by
  intro y hy C hC
  rw [cs_of X G c y hy] at hC
  cases hC
  refine ⟨cls_of X G c y hy, ?_⟩
  simp only [CS, List.mem_cons, List.not_mem_nil, or_false] at hy
  rcases hy with rfl
  · exact He.noat_ok (c.x.t.d.fact 51 (f := .noat "Code" "basis") rfl)
theorem f_of_n : ∀ c ∈ CS, ∀ C, mg c = some (.ref C) → Cls K C ∧ NoAttr K C "n" := by
  intro y hy C hC
  rw [cs_of X G c y hy] at hC
  cases hC
  refine ⟨cls_of X G c y hy, ?_⟩
  simp only [CS, List.mem_cons, List.not_mem_nil, or_false] at hy
  rcases hy with rfl
  · exact He.noat_ok (c.x.t.d.fact 52 (f := .noat "Code" "n") rfl)
theorem f_of_p : ∀ c ∈ CS, ∀ C, mg c = some (.ref C) → Cls K C ∧ NoAttr K C "p" := by
  intro y hy C hC
  rw [cs_of X G c y hy] at hC
  cases hC
  refine ⟨cls_of X G c y hy, ?_⟩
  simp only [CS, List.mem_cons, List.not_mem_nil, or_false] at hy
  rcases hy with rfl
  · exact He.noat_ok (c.x.t.d.fact 53 (f := .noat "Code" "p") rfl)
theorem f_of_size : ∀ c ∈ CS, ∀ C, mg c = some (.ref C) → Cls K C ∧ NoAttr K C "size" := by
  intro y hy C hC
  rw [cs_of X G c y hy] at hC
  cases hC
  refine ⟨cls_of X G c y hy, ?_⟩
  simp only [CS, List.mem_cons, List.not_mem_nil, or_false] at hy
  rcases hy with rfl
  · exact He.noat_ok (c.x.t.d.fact 54 (f := .noat "Code" "size") rfl)
theorem c_of : Cf K mg where
  I_bool := isiTB_ok (cs_of X G c) (clsI_of X G c) (ansB_ty _) (exAt c.x.more 1)
  I_int := isiTB_ok (cs_of X G c) (clsI_of X G c) (ansB_ty _) (exAt c.x.more 2)
  I_list := isiTB_ok (cs_of X G c) (clsI_of X G c) (ansB_ty _) (exAt c.x.more 3)
  I_tuple := isiTB_ok (cs_of X G c) (clsI_of X G c) (ansB_ty _) (exAt c.x.more 4)
  I_Code := isiTB_ok (cs_of X G c) (clsI_of X G c) ansN_ty (exAt c.x.more 5)
  g_Code := (He.glo_ok X G (c.x.t.d.fact 30 (f := .glo "Code") rfl))
  f_basis := f_of_basis X G c
  f_n := f_of_n X G c
  f_p := f_of_p X G c
  f_size := f_of_size X G c
end
section
variable {w : World} {h : Heap} {K : PySem.W.Frag} {mg : Str → Option Value} {base : Heap} {T : List (Addr × Str)} (X : K.In h) (G : h.Ns mainGlobals mg) (c : SaysY fa fn tf ex en w h K)
include X G c
theorem R_BadNumber : Er prog w K mg base "BadNumber" ns_BadNumber 1 := by
  obtain ⟨fd, cda, cc, E, hd⟩ := supB_ok (d := e_BadNumber) (c.err 0) (exAt c.x.more 7)
  have J := initB_ok (exAt c.x.more 11)
  have n := (exAt c.x.more 15)
  obtain ⟨n1, n2⟩ := Bool.and_eq_true_iff.mp n
  have S : NdefX.NScope ["self", "what", "value", "__class__"] ["self", "what", "value"] ["__class__"] (defScope s_BadNumber_init) := ⟨rfl, rfl, rfl, by decide +kernel, rfl, by decide +kernel, by decide +kernel, by decide +kernel, by decide +kernel⟩
  exact ⟨_, _, fd, ["self", "what", "value"], E.oex, J.1, J.2, err2_ok (k := 0) (q6 := ⟨0, 0, 0, 0⟩) (pl := _) E S rfl rfl rfl (by kernel_rfl) (He.free_ok X G (c.x.t.d.fact 46 (f := .free "super") rfl)) (of_decide_eq_true n1) (of_decide_eq_true n2) (by decide) (by decide) (by decide) (by decide) (by decide) (by decide) (fun _ => rfl), E.bindsK hd (fun _ _ _ _ _ _ _ us hl => match us, hl with | [_, _, _], _ => rfl), (He.glo_ok X G (c.x.t.d.fact 31 (f := .glo "BadNumber") rfl))⟩
theorem R_BadItem : Er prog w K mg base "BadItem" ns_BadItem 1 := by
  obtain ⟨fd, cda, cc, E, hd⟩ := supB_ok (d := e_BadItem) (c.err 1) (exAt c.x.more 8)
  have J := initB_ok (exAt c.x.more 12)
  have n := (exAt c.x.more 16)
  have S : NdefX.NScope ["self", "value", "__class__"] ["self", "value"] ["__class__"] (defScope s_BadItem_init) := ⟨rfl, rfl, rfl, by decide +kernel, rfl, by decide +kernel, by decide +kernel, by decide +kernel, by decide +kernel⟩
  exact ⟨_, _, fd, ["self", "value"], E.oex, J.1, J.2, err1_ok (k := 0) (pl := _) E S rfl rfl rfl (by kernel_rfl) (He.free_ok X G (c.x.t.d.fact 46 (f := .free "super") rfl)) (of_decide_eq_true n) (by decide) (by decide) (by decide) (by decide) (fun _ => rfl), E.bindsK hd (fun _ _ _ _ _ _ _ us hl => match us, hl with | [_, _], _ => rfl), (He.glo_ok X G (c.x.t.d.fact 32 (f := .glo "BadItem") rfl))⟩
theorem R_BadRows : Er prog w K mg base "BadRows" ns_BadRows 1 := by
  obtain ⟨fd, cda, cc, E, hd⟩ := supB_ok (d := e_BadRows) (c.err 2) (exAt c.x.more 9)
  have J := initB_ok (exAt c.x.more 13)
  have n := (exAt c.x.more 17)
  have S : NdefX.NScope ["self", "value", "__class__"] ["self", "value"] ["__class__"] (defScope s_BadRows_init) := ⟨rfl, rfl, rfl, by decide +kernel, rfl, by decide +kernel, by decide +kernel, by decide +kernel, by decide +kernel⟩
  exact ⟨_, _, fd, ["self", "value"], E.oex, J.1, J.2, err1_ok (k := 0) (pl := _) E S rfl rfl rfl (by kernel_rfl) (He.free_ok X G (c.x.t.d.fact 46 (f := .free "super") rfl)) (of_decide_eq_true n) (by decide) (by decide) (by decide) (by decide) (fun _ => rfl), E.bindsK hd (fun _ _ _ _ _ _ _ us hl => match us, hl with | [_, _], _ => rfl), (He.glo_ok X G (c.x.t.d.fact 33 (f := .glo "BadRows") rfl))⟩
theorem R_NotAlike : Er prog w K mg base "NotAlike" ns_NotAlike 1 := by
  obtain ⟨fd, cda, cc, E, hd⟩ := supB_ok (d := e_NotAlike) (c.err 3) (exAt c.x.more 10)
  have J := initB_ok (exAt c.x.more 14)
  have n := (exAt c.x.more 18)
  obtain ⟨n1, n2⟩ := Bool.and_eq_true_iff.mp n
  have S : NdefX.NScope ["self", "one", "other", "__class__"] ["self", "one", "other"] ["__class__"] (defScope s_NotAlike_init) := ⟨rfl, rfl, rfl, by decide +kernel, rfl, by decide +kernel, by decide +kernel, by decide +kernel, by decide +kernel⟩
  exact ⟨_, _, fd, ["self", "one", "other"], E.oex, J.1, J.2, err2_ok (k := 0) (q6 := ⟨0, 0, 0, 0⟩) (pl := _) E S rfl rfl rfl (by kernel_rfl) (He.free_ok X G (c.x.t.d.fact 46 (f := .free "super") rfl)) (of_decide_eq_true n1) (of_decide_eq_true n2) (by decide) (by decide) (by decide) (by decide) (by decide) (by decide) (fun _ => rfl), E.bindsK hd (fun _ _ _ _ _ _ _ us hl => match us, hl with | [_, _, _], _ => rfl), (He.glo_ok X G (c.x.t.d.fact 34 (f := .glo "NotAlike") rfl))⟩
theorem G_need_code : Df prog w K mg base T "need_code" 3 p_need_code f_need_code dv_need_code dd_need_code := by
  obtain ⟨fd, F⟩ := c.x.t.d.def_ 11 (d := d_need_code) rfl
  have F : FunD K "need_code" "need_code" (defArgs s_need_code) (defBody s_need_code) (defScope s_need_code) dv_need_code [] (He.fAd K d_need_code.at_) fd := F
  exact ⟨⟨_, fd, ok_need_code (b_of X G c) (i_of X G c) (c_of X G c) (R_BadItem X G c) F, (He.glo_ok X G (c.x.t.d.fact 9 (f := .glo "need_code") rfl)), F.kp, (fun j hj => ⟨[], (by cases Nat.le_zero.mp hj; exact .nil), F.bindsN fun _ _ _ _ _ _ us hl => match us, hl with | [_], _ => rfl⟩)⟩, (fun g H => RL.nil)⟩
theorem G_is_row : Df prog w K mg base T "is_row" 1 p_is_row f_is_row dv_is_row dd_is_row := by
  obtain ⟨fd, F⟩ := c.x.t.d.def_ 1 (d := d_is_row) rfl
  have F : FunD K "is_row" "is_row" (defArgs s_is_row) (defBody s_is_row) (defScope s_is_row) dv_is_row [] (He.fAd K d_is_row.at_) fd := F
  exact ⟨⟨_, fd, ok_is_row (b_of X G c) (i_of X G c) (c_of X G c)  F, (He.glo_ok X G (c.x.t.d.fact 1 (f := .glo "is_row") rfl)), F.kp, (fun j hj => ⟨[], (by cases Nat.le_zero.mp hj; exact .nil), F.bindsN fun _ _ _ _ _ _ us hl => match us, hl with | [_], _ => rfl⟩)⟩, (fun g H => RL.nil)⟩
theorem G_is_integer : Df prog w K mg base T "is_integer" 1 p_is_integer f_is_integer dv_is_integer dd_is_integer := by
  obtain ⟨fd, F⟩ := c.x.t.d.def_ 0 (d := d_is_integer) rfl
  have F : FunD K "is_integer" "is_integer" (defArgs s_is_integer) (defBody s_is_integer) (defScope s_is_integer) dv_is_integer [] (He.fAd K d_is_integer.at_) fd := F
  exact ⟨⟨_, fd, ok_is_integer (b_of X G c) (i_of X G c) (c_of X G c)  F, (He.glo_ok X G (c.x.t.d.fact 0 (f := .glo "is_integer") rfl)), F.kp, (fun j hj => ⟨[], (by cases Nat.le_zero.mp hj; exact .nil), F.bindsN fun _ _ _ _ _ _ us hl => match us, hl with | [_], _ => rfl⟩)⟩, (fun g H => RL.nil)⟩
theorem G_is_letters : Df prog w K mg base T "is_letters" 3 p_is_letters f_is_letters dv_is_letters dd_is_letters := by
  obtain ⟨fd, F⟩ := c.x.t.d.def_ 2 (d := d_is_letters) rfl
  have F : FunD K "is_letters" "is_letters" (defArgs s_is_letters) (defBody s_is_letters) (defScope s_is_letters) dv_is_letters [] (He.fAd K d_is_letters.at_) fd := F
  exact ⟨⟨_, fd, ok_is_letters (b_of X G c) (i_of X G c) (c_of X G c) (G_is_integer X G c) (G_is_row X G c) F, (He.glo_ok X G (c.x.t.d.fact 2 (f := .glo "is_letters") rfl)), F.kp, (fun j hj => ⟨[], (by cases Nat.le_zero.mp hj; exact .nil), F.bindsN fun _ _ _ _ _ _ us hl => match us, hl with | [_, _, _], _ => rfl⟩)⟩, (fun g H => RL.nil)⟩
theorem G_added : Df prog w K mg base T "added" 1 p_added f_added dv_added dd_added := by
  obtain ⟨fd, F⟩ := c.x.t.d.def_ 3 (d := d_added) rfl
  have F : FunD K "added" "added" (defArgs s_added) (defBody s_added) (defScope s_added) dv_added [] (He.fAd K d_added.at_) fd := F
  exact ⟨⟨_, fd, ok_added (b_of X G c) (i_of X G c) (c_of X G c)  F, (He.glo_ok X G (c.x.t.d.fact 3 (f := .glo "added") rfl)), F.kp, (fun j hj => match j, hj with
    | 0, _ => F.binds1 3 0 (by simp [dv_added]) rfl fun _ _ _ _ _ _ _ us its h1 h2 => match us, its, h1, h2 with | [_, _, _], [_], _, _ => ⟨_, rfl, rfl⟩
    | 1, _ => F.binds1 4 1 (by simp [dv_added]) rfl fun _ _ _ _ _ _ _ us its h1 h2 => match us, its, h1, h2 with | [_, _, _, _], [_], _, _ => ⟨_, rfl, rfl⟩
    | n + 2, h => absurd h (by simp [dv_added]))⟩, (fun g H => .cons (R_int.mpr rfl) .nil)⟩
theorem G_multiple : Df prog w K mg base T "multiple" 1 p_multiple f_multiple dv_multiple dd_multiple := by
  obtain ⟨fd, F⟩ := c.x.t.d.def_ 4 (d := d_multiple) rfl
  have F : FunD K "multiple" "multiple" (defArgs s_multiple) (defBody s_multiple) (defScope s_multiple) dv_multiple [] (He.fAd K d_multiple.at_) fd := F
  exact ⟨⟨_, fd, ok_multiple (b_of X G c) (i_of X G c) (c_of X G c)  F, (He.glo_ok X G (c.x.t.d.fact 4 (f := .glo "multiple") rfl)), F.kp, (fun j hj => ⟨[], (by cases Nat.le_zero.mp hj; exact .nil), F.bindsN fun _ _ _ _ _ _ us hl => match us, hl with | [_, _, _], _ => rfl⟩)⟩, (fun g H => RL.nil)⟩
theorem G_lead_of : Df prog w K mg base T "lead_of" 3 p_lead_of f_lead_of dv_lead_of dd_lead_of := by
  obtain ⟨fd, F⟩ := c.x.t.d.def_ 5 (d := d_lead_of) rfl
  have F : FunD K "lead_of" "lead_of" (defArgs s_lead_of) (defBody s_lead_of) (defScope s_lead_of) dv_lead_of [] (He.fAd K d_lead_of.at_) fd := F
  exact ⟨⟨_, fd, ok_lead_of (b_of X G c) (i_of X G c) (c_of X G c)  F, (He.glo_ok X G (c.x.t.d.fact 5 (f := .glo "lead_of") rfl)), F.kp, (fun j hj => ⟨[], (by cases Nat.le_zero.mp hj; exact .nil), F.bindsN fun _ _ _ _ _ _ us hl => match us, hl with | [_], _ => rfl⟩)⟩, (fun g H => RL.nil)⟩
theorem G_without_leads : Df prog w K mg base T "without_leads" 4 p_without_leads f_without_leads dv_without_leads dd_without_leads := by
  obtain ⟨fd, F⟩ := c.x.t.d.def_ 6 (d := d_without_leads) rfl
  have F : FunD K "without_leads" "without_leads" (defArgs s_without_leads) (defBody s_without_leads) (defScope s_without_leads) dv_without_leads [] (He.fAd K d_without_leads.at_) fd := F
  exact ⟨⟨_, fd, ok_without_leads (b_of X G c) (i_of X G c) (c_of X G c) (G_added X G c) (G_lead_of X G c) F, (He.glo_ok X G (c.x.t.d.fact 6 (f := .glo "without_leads") rfl)), F.kp, (fun j hj => ⟨[], (by cases Nat.le_zero.mp hj; exact .nil), F.bindsN fun _ _ _ _ _ _ us hl => match us, hl with | [_, _, _], _ => rfl⟩)⟩, (fun g H => RL.nil)⟩
theorem G_stepped : Df prog w K mg base T "stepped" 5 p_stepped f_stepped dv_stepped dd_stepped := by
  obtain ⟨fd, F⟩ := c.x.t.d.def_ 7 (d := d_stepped) rfl
  have F : FunD K "stepped" "stepped" (defArgs s_stepped) (defBody s_stepped) (defScope s_stepped) dv_stepped [] (He.fAd K d_stepped.at_) fd := F
  exact ⟨⟨_, fd, ok_stepped (b_of X G c) (i_of X G c) (c_of X G c) (G_added X G c) (G_multiple X G c) (G_lead_of X G c) (G_without_leads X G c) F, (He.glo_ok X G (c.x.t.d.fact 7 (f := .glo "stepped") rfl)), F.kp, (fun j hj => ⟨[], (by cases Nat.le_zero.mp hj; exact .nil), F.bindsN fun _ _ _ _ _ _ us hl => match us, hl with | [_, _], _ => rfl⟩)⟩, (fun g H => RL.nil)⟩
theorem G_need_letters : Df prog w K mg base T "need_letters" 3 p_need_letters f_need_letters dv_need_letters dd_need_letters := by
  obtain ⟨fd, F⟩ := c.x.t.d.def_ 8 (d := d_need_letters) rfl
  have F : FunD K "need_letters" "need_letters" (defArgs s_need_letters) (defBody s_need_letters) (defScope s_need_letters) dv_need_letters [] (He.fAd K d_need_letters.at_) fd := F
  exact ⟨⟨_, fd, ok_need_letters (b_of X G c) (i_of X G c) (c_of X G c) (G_is_integer X G c) (R_BadNumber X G c) F, (He.glo_ok X G (c.x.t.d.fact 8 (f := .glo "need_letters") rfl)), F.kp, (fun j hj => ⟨[], (by cases Nat.le_zero.mp hj; exact .nil), F.bindsN fun _ _ _ _ _ _ us hl => match us, hl with | [_, _], _ => rfl⟩)⟩, (fun g H => RL.nil)⟩
theorem M_Code : Dm prog w K mg base T "Code" 6 3 f_Code_init dv_Code_init dd_Code_init := by
  obtain ⟨fd, F⟩ := c.x.t.d.def_ 9 (d := d_Code_init) rfl
  have F : FunD K "__init__" "Code.__init__" (defArgs s_Code_init) (defBody s_Code_init) (defScope s_Code_init) dv_Code_init [] (He.fAd K d_Code_init.at_) fd := F
  exact ⟨⟨_, _, fd, _, He.mkr_ok (c.x.t.d.fact 55 (f := .mkr "Code") rfl), ok_Code_init (b_of X G c) (i_of X G c) (c_of X G c) (G_is_row X G c) (G_is_letters X G c) (G_stepped X G c) (G_need_letters X G c) (R_BadRows X G c) F, (He.glo_ok X G (c.x.t.d.fact 30 (f := .glo "Code") rfl)), (fun j hj => ⟨[], (by cases Nat.le_zero.mp hj; exact .nil), F.bindsN fun _ _ _ _ _ _ us hl => match us, hl with | [_, _, _, _], _ => rfl⟩)⟩, (fun g H => RL.nil)⟩
theorem G_made_code : Df prog w K mg base T "made_code" 8 p_made_code f_made_code dv_made_code dd_made_code := by
  obtain ⟨fd, F⟩ := c.x.t.d.def_ 13 (d := d_made_code) rfl
  have F : FunD K "made_code" "made_code" (defArgs s_made_code) (defBody s_made_code) (defScope s_made_code) dv_made_code [] (He.fAd K d_made_code.at_) fd := F
  exact ⟨⟨_, fd, ok_made_code (b_of X G c) (i_of X G c) (c_of X G c) (M_Code X G c) F, (He.glo_ok X G (c.x.t.d.fact 11 (f := .glo "made_code") rfl)), F.kp, (fun j hj => ⟨[], (by cases Nat.le_zero.mp hj; exact .nil), F.bindsN fun _ _ _ _ _ _ us hl => match us, hl with | [_, _, _], _ => rfl⟩)⟩, (fun g H => RL.nil)⟩
theorem G_mirror_words : Df prog w K mg base T "mirror_words" 4 p_mirror_words f_mirror_words dv_mirror_words dd_mirror_words := by
  obtain ⟨fd, F⟩ := c.x.t.d.def_ 14 (d := d_mirror_words) rfl
  have F : FunD K "mirror_words" "mirror_words" (defArgs s_mirror_words) (defBody s_mirror_words) (defScope s_mirror_words) dv_mirror_words [] (He.fAd K d_mirror_words.at_) fd := F
  exact ⟨⟨_, fd, ok_mirror_words (b_of X G c) (i_of X G c) (c_of X G c) (G_lead_of X G c) F, (He.glo_ok X G (c.x.t.d.fact 12 (f := .glo "mirror_words") rfl)), F.kp, (fun j hj => ⟨[], (by cases Nat.le_zero.mp hj; exact .nil), F.bindsN fun _ _ _ _ _ _ us hl => match us, hl with | [_], _ => rfl⟩)⟩, (fun g H => RL.nil)⟩
theorem G_mirror_of : Df prog w K mg base T "mirror_of" 9 p_mirror_of f_mirror_of dv_mirror_of dd_mirror_of := by
  obtain ⟨fd, F⟩ := c.x.t.d.def_ 15 (d := d_mirror_of) rfl
  have F : FunD K "mirror_of" "mirror_of" (defArgs s_mirror_of) (defBody s_mirror_of) (defScope s_mirror_of) dv_mirror_of [] (He.fAd K d_mirror_of.at_) fd := F
  exact ⟨⟨_, fd, ok_mirror_of (b_of X G c) (i_of X G c) (c_of X G c) (G_made_code X G c) (G_mirror_words X G c) F, (He.glo_ok X G (c.x.t.d.fact 13 (f := .glo "mirror_of") rfl)), F.kp, (fun j hj => ⟨[], (by cases Nat.le_zero.mp hj; exact .nil), F.bindsN fun _ _ _ _ _ _ us hl => match us, hl with | [_], _ => rfl⟩)⟩, (fun g H => RL.nil)⟩
theorem G_mirror : Df prog w K mg base T "mirror" 10 p_mirror f_mirror dv_mirror dd_mirror := by
  obtain ⟨fd, F⟩ := c.x.t.d.def_ 16 (d := d_mirror) rfl
  have F : FunD K "mirror" "mirror" (defArgs s_mirror) (defBody s_mirror) (defScope s_mirror) dv_mirror [] (He.fAd K d_mirror.at_) fd := F
  exact ⟨⟨_, fd, ok_mirror (b_of X G c) (i_of X G c) (c_of X G c) (G_need_code X G c) (G_mirror_of X G c) F, (He.glo_ok X G (c.x.t.d.fact 14 (f := .glo "mirror") rfl)), F.kp, (fun j hj => ⟨[], (by cases Nat.le_zero.mp hj; exact .nil), F.bindsN fun _ _ _ _ _ _ us hl => match us, hl with | [_], _ => rfl⟩)⟩, (fun g H => RL.nil)⟩
theorem G_need_two : Df prog w K mg base T "need_two" 4 p_need_two f_need_two dv_need_two dd_need_two := by
  obtain ⟨fd, F⟩ := c.x.t.d.def_ 12 (d := d_need_two) rfl
  have F : FunD K "need_two" "need_two" (defArgs s_need_two) (defBody s_need_two) (defScope s_need_two) dv_need_two [] (He.fAd K d_need_two.at_) fd := F
  exact ⟨⟨_, fd, ok_need_two (b_of X G c) (i_of X G c) (c_of X G c) (G_need_code X G c) (R_NotAlike X G c) F, (He.glo_ok X G (c.x.t.d.fact 10 (f := .glo "need_two") rfl)), F.kp, (fun j hj => ⟨[], (by cases Nat.le_zero.mp hj; exact .nil), F.bindsN fun _ _ _ _ _ _ us hl => match us, hl with | [_, _], _ => rfl⟩)⟩, (fun g H => RL.nil)⟩
theorem G_meet : Df prog w K mg base T "meet" 10 p_meet f_meet dv_meet dd_meet := by
  obtain ⟨fd, F⟩ := c.x.t.d.def_ 17 (d := d_meet) rfl
  have F : FunD K "meet" "meet" (defArgs s_meet) (defBody s_meet) (defScope s_meet) dv_meet [] (He.fAd K d_meet.at_) fd := F
  exact ⟨⟨_, fd, ok_meet (b_of X G c) (i_of X G c) (c_of X G c) (G_need_two X G c) (G_made_code X G c) (G_mirror_words X G c) (G_mirror_of X G c) F, (He.glo_ok X G (c.x.t.d.fact 15 (f := .glo "meet") rfl)), F.kp, (fun j hj => ⟨[], (by cases Nat.le_zero.mp hj; exact .nil), F.bindsN fun _ _ _ _ _ _ us hl => match us, hl with | [_, _], _ => rfl⟩)⟩, (fun g H => RL.nil)⟩
theorem G_sum_of : Df prog w K mg base T "sum_of" 9 p_sum_of f_sum_of dv_sum_of dd_sum_of := by
  obtain ⟨fd, F⟩ := c.x.t.d.def_ 18 (d := d_sum_of) rfl
  have F : FunD K "sum_of" "sum_of" (defArgs s_sum_of) (defBody s_sum_of) (defScope s_sum_of) dv_sum_of [] (He.fAd K d_sum_of.at_) fd := F
  exact ⟨⟨_, fd, ok_sum_of (b_of X G c) (i_of X G c) (c_of X G c) (G_need_two X G c) (G_made_code X G c) F, (He.glo_ok X G (c.x.t.d.fact 16 (f := .glo "sum_of") rfl)), F.kp, (fun j hj => ⟨[], (by cases Nat.le_zero.mp hj; exact .nil), F.bindsN fun _ _ _ _ _ _ us hl => match us, hl with | [_, _], _ => rfl⟩)⟩, (fun g H => RL.nil)⟩
theorem G__law_draw : Df prog w K mg base T "_law_draw" 3 p__law_draw f__law_draw dv__law_draw dd__law_draw := by
  obtain ⟨fd, F⟩ := c.x.t.d.def_ 19 (d := d__law_draw) rfl
  have F : FunD K "_law_draw" "_law_draw" (defArgs s__law_draw) (defBody s__law_draw) (defScope s__law_draw) dv__law_draw [] (He.fAd K d__law_draw.at_) fd := F
  exact ⟨⟨_, fd, ok__law_draw (b_of X G c) (i_of X G c) (c_of X G c)  F, (He.glo_ok X G (c.x.t.d.fact 18 (f := .glo "_law_draw") rfl)), F.kp, (fun j hj => ⟨[], (by cases Nat.le_zero.mp hj; exact .nil), F.bindsN fun _ _ _ _ _ _ us hl => match us, hl with | [_, _], _ => rfl⟩)⟩, (fun g H => RL.nil)⟩
theorem G__law_pick : Df prog w K mg base T "_law_pick" 4 p__law_pick f__law_pick dv__law_pick dd__law_pick := by
  obtain ⟨fd, F⟩ := c.x.t.d.def_ 20 (d := d__law_pick) rfl
  have F : FunD K "_law_pick" "_law_pick" (defArgs s__law_pick) (defBody s__law_pick) (defScope s__law_pick) dv__law_pick [] (He.fAd K d__law_pick.at_) fd := F
  exact ⟨⟨_, fd, ok__law_pick (b_of X G c) (i_of X G c) (c_of X G c) (G__law_draw X G c) F, (He.glo_ok X G (c.x.t.d.fact 19 (f := .glo "_law_pick") rfl)), F.kp, (fun j hj => ⟨[], (by cases Nat.le_zero.mp hj; exact .nil), F.bindsN fun _ _ _ _ _ _ us hl => match us, hl with | [_, _], _ => rfl⟩)⟩, (fun g H => RL.nil)⟩
theorem G__law_plus : Df prog w K mg base T "_law_plus" 1 p__law_plus f__law_plus dv__law_plus dd__law_plus := by
  obtain ⟨fd, F⟩ := c.x.t.d.def_ 22 (d := d__law_plus) rfl
  have F : FunD K "_law_plus" "_law_plus" (defArgs s__law_plus) (defBody s__law_plus) (defScope s__law_plus) dv__law_plus [] (He.fAd K d__law_plus.at_) fd := F
  exact ⟨⟨_, fd, ok__law_plus (b_of X G c) (i_of X G c) (c_of X G c)  F, (He.glo_ok X G (c.x.t.d.fact 21 (f := .glo "_law_plus") rfl)), F.kp, (fun j hj => match j, hj with
    | 0, _ => F.binds1 3 0 (by simp [dv__law_plus]) rfl fun _ _ _ _ _ _ _ us its h1 h2 => match us, its, h1, h2 with | [_, _, _], [_], _, _ => ⟨_, rfl, rfl⟩
    | 1, _ => F.binds1 4 1 (by simp [dv__law_plus]) rfl fun _ _ _ _ _ _ _ us its h1 h2 => match us, its, h1, h2 with | [_, _, _, _], [_], _, _ => ⟨_, rfl, rfl⟩
    | n + 2, h => absurd h (by simp [dv__law_plus]))⟩, (fun g H => .cons (R_int.mpr rfl) .nil)⟩
theorem G__law_span : Df prog w K mg base T "_law_span" 3 p__law_span f__law_span dv__law_span dd__law_span := by
  obtain ⟨fd, F⟩ := c.x.t.d.def_ 24 (d := d__law_span) rfl
  have F : FunD K "_law_span" "_law_span" (defArgs s__law_span) (defBody s__law_span) (defScope s__law_span) dv__law_span [] (He.fAd K d__law_span.at_) fd := F
  exact ⟨⟨_, fd, ok__law_span (b_of X G c) (i_of X G c) (c_of X G c) (G__law_plus X G c) F, (He.glo_ok X G (c.x.t.d.fact 23 (f := .glo "_law_span") rfl)), F.kp, (fun j hj => ⟨[], (by cases Nat.le_zero.mp hj; exact .nil), F.bindsN fun _ _ _ _ _ _ us hl => match us, hl with | [_, _, _], _ => rfl⟩)⟩, (fun g H => RL.nil)⟩
theorem G__law_all : Df prog w K mg base T "_law_all" 1 p__law_all f__law_all dv__law_all dd__law_all := by
  obtain ⟨fd, F⟩ := c.x.t.d.def_ 21 (d := d__law_all) rfl
  have F : FunD K "_law_all" "_law_all" (defArgs s__law_all) (defBody s__law_all) (defScope s__law_all) dv__law_all [] (He.fAd K d__law_all.at_) fd := F
  exact ⟨⟨_, fd, ok__law_all (b_of X G c) (i_of X G c) (c_of X G c)  F, (He.glo_ok X G (c.x.t.d.fact 20 (f := .glo "_law_all") rfl)), F.kp, (fun j hj => ⟨[], (by cases Nat.le_zero.mp hj; exact .nil), F.bindsN fun _ _ _ _ _ _ us hl => match us, hl with | [_, _], _ => rfl⟩)⟩, (fun g H => RL.nil)⟩
theorem G__law_dot : Df prog w K mg base T "_law_dot" 1 p__law_dot f__law_dot dv__law_dot dd__law_dot := by
  obtain ⟨fd, F⟩ := c.x.t.d.def_ 23 (d := d__law_dot) rfl
  have F : FunD K "_law_dot" "_law_dot" (defArgs s__law_dot) (defBody s__law_dot) (defScope s__law_dot) dv__law_dot [] (He.fAd K d__law_dot.at_) fd := F
  exact ⟨⟨_, fd, ok__law_dot (b_of X G c) (i_of X G c) (c_of X G c)  F, (He.glo_ok X G (c.x.t.d.fact 22 (f := .glo "_law_dot") rfl)), F.kp, (fun j hj => ⟨[], (by cases Nat.le_zero.mp hj; exact .nil), F.bindsN fun _ _ _ _ _ _ us hl => match us, hl with | [_, _, _], _ => rfl⟩)⟩, (fun g H => RL.nil)⟩
theorem G__law_dual : Df prog w K mg base T "_law_dual" 3 p__law_dual f__law_dual dv__law_dual dd__law_dual := by
  obtain ⟨fd, F⟩ := c.x.t.d.def_ 25 (d := d__law_dual) rfl
  have F : FunD K "_law_dual" "_law_dual" (defArgs s__law_dual) (defBody s__law_dual) (defScope s__law_dual) dv__law_dual [] (He.fAd K d__law_dual.at_) fd := F
  exact ⟨⟨_, fd, ok__law_dual (b_of X G c) (i_of X G c) (c_of X G c) (G__law_all X G c) (G__law_dot X G c) F, (He.glo_ok X G (c.x.t.d.fact 24 (f := .glo "_law_dual") rfl)), F.kp, (fun j hj => ⟨[], (by cases Nat.le_zero.mp hj; exact .nil), F.bindsN fun _ _ _ _ _ _ us hl => match us, hl with | [_, _, _], _ => rfl⟩)⟩, (fun g H => RL.nil)⟩
theorem G__law_word : Df prog w K mg base T "_law_word" 4 p__law_word f__law_word dv__law_word dd__law_word := by
  obtain ⟨fd, F⟩ := c.x.t.d.def_ 27 (d := d__law_word) rfl
  have F : FunD K "_law_word" "_law_word" (defArgs s__law_word) (defBody s__law_word) (defScope s__law_word) dv__law_word [] (He.fAd K d__law_word.at_) fd := F
  exact ⟨⟨_, fd, ok__law_word (b_of X G c) (i_of X G c) (c_of X G c) (G__law_draw X G c) F, (He.glo_ok X G (c.x.t.d.fact 26 (f := .glo "_law_word") rfl)), F.kp, (fun j hj => ⟨[], (by cases Nat.le_zero.mp hj; exact .nil), F.bindsN fun _ _ _ _ _ _ us hl => match us, hl with | [_, _, _], _ => rfl⟩)⟩, (fun g H => RL.nil)⟩
theorem G__law_many : Df prog w K mg base T "_law_many" 3 p__law_many f__law_many dv__law_many dd__law_many := by
  obtain ⟨fd, F⟩ := c.x.t.d.def_ 26 (d := d__law_many) rfl
  have F : FunD K "_law_many" "_law_many" (defArgs s__law_many) (defBody s__law_many) (defScope s__law_many) dv__law_many [] (He.fAd K d__law_many.at_) fd := F
  exact ⟨⟨_, fd, ok__law_many (b_of X G c) (i_of X G c) (c_of X G c)  F, (He.glo_ok X G (c.x.t.d.fact 25 (f := .glo "_law_many") rfl)), F.kp, (fun j hj => ⟨[], (by cases Nat.le_zero.mp hj; exact .nil), F.bindsN fun _ _ _ _ _ _ us hl => match us, hl with | [_], _ => rfl⟩)⟩, (fun g H => RL.nil)⟩
theorem G__law_some : Df prog w K mg base T "_law_some" 5 p__law_some f__law_some dv__law_some dd__law_some := by
  obtain ⟨fd, F⟩ := c.x.t.d.def_ 28 (d := d__law_some) rfl
  have F : FunD K "_law_some" "_law_some" (defArgs s__law_some) (defBody s__law_some) (defScope s__law_some) dv__law_some [] (He.fAd K d__law_some.at_) fd := F
  exact ⟨⟨_, fd, ok__law_some (b_of X G c) (i_of X G c) (c_of X G c) (G__law_draw X G c) (G__law_pick X G c) (G__law_many X G c) (G__law_word X G c) F, (He.glo_ok X G (c.x.t.d.fact 27 (f := .glo "_law_some") rfl)), F.kp, (fun j hj => ⟨[], (by cases Nat.le_zero.mp hj; exact .nil), F.bindsN fun _ _ _ _ _ _ us hl => match us, hl with | [_, _], _ => rfl⟩)⟩, (fun g H => RL.nil)⟩
theorem Q_Code : De prog w K mg base T CS "Code" 1 f_Code_eq := by
  obtain ⟨fd, F⟩ := c.x.t.d.def_ 10 (d := d_Code_eq) rfl
  have F : FunD K "__eq__" "Code.__eq__" (defArgs s_Code_eq) (defBody s_Code_eq) (defScope s_Code_eq) dv_Code_eq [] (He.fAd K d_Code_eq.at_) fd := F
  exact ⟨_, _, fd, _, (He.glo_ok X G (c.x.t.d.fact 30 (f := .glo "Code") rfl)), eqfB_ok (cs_of X G c) (clsI_of X G c) (exAt c.x.more 6), ok_Code_eq (b_of X G c) (i_of X G c) (c_of X G c)  F, F.bindsN fun _ _ _ _ _ _ us hl => match us, hl with | [_, _], _ => rfl⟩
theorem Cau__law_complaint : Cau K mg "_law_complaint" "ok" l__law_complaint := by
  obtain ⟨fd, F⟩ := c.x.t.d.def_ 31 (d := d__law_complaint) rfl
  have F : FunD K "_law_complaint" "_law_complaint" (defArgs s__law_complaint) (defBody s__law_complaint) (defScope s__law_complaint) [] [] (He.ga K "_law_complaint") fd := F
  have hb : L2.Binds K fd ["call"] [] := F.bindsN fun _ _ _ _ _ _ us hl => match us, hl with | [_], _ => rfl
  obtain ⟨oc, od, dV, kV, doc, pm, an, cdv, ct, osl, efd, lk, hcd, _, _⟩ := F.ex
  subst efd
  exact ⟨_, _, _, dV, kV, doc, pm, cdv, ct, oc, an, od, osl, ["call", "e"], "call", "e", 1, _, _, _, _, _, _, _, _, _, _, [(.ref (He.ga K "BadItem"), [.con "item", .rep "value"]), (.ref (He.ga K "NotAlike"), [.con "alike", .att2 "one" "n", .att2 "other" "n", .att2 "one" "p", .att2 "other" "p"])], (He.glo_ok X G (c.x.t.d.fact 28 (f := .glo "_law_complaint") rfl)), F.kp, lk, hcd, hb, ⟨rfl, rfl, rfl, by decide +kernel, rfl, by decide +kernel, by decide +kernel⟩, rfl, .inl rfl, rfl, (He.free_ok X G (c.x.t.d.fact 43 (f := .free "repr") rfl)), rfl, by decide, rfl, ⟨by decide, by decide, by decide, by decide, by decide⟩, (.cons rfl (by decide) (He.glo_ok X G (c.x.t.d.fact 32 (f := .glo "BadItem") rfl)) (.cons .con (.cons .rep .nil)) (.cons rfl (by decide) (He.glo_ok X G (c.x.t.d.fact 34 (f := .glo "NotAlike") rfl)) (.cons .con (.cons .att2 (.cons .att2 (.cons .att2 (.cons .att2 .nil))))) .nil)), rfl, fun j q z h1 h2 => by
    match j with
    | 0 => cases h1; cases h2; exact ⟨_, (He.glo_ok X G (c.x.t.d.fact 32 (f := .glo "BadItem") rfl)), rfl⟩
    | 1 => cases h1; cases h2; exact ⟨_, (He.glo_ok X G (c.x.t.d.fact 34 (f := .glo "NotAlike") rfl)), rfl⟩
    | n + 2 => cases h1⟩
theorem Lk__law_complaint : LadK K mg es cs2 l__law_complaint := ladKB_ok (by
  intro x hx
  simp only [es, List.mem_cons, List.not_mem_nil, or_false] at hx
  rcases hx with rfl | rfl | rfl | rfl
  · exact (He.glo_ok X G (c.x.t.d.fact 31 (f := .glo "BadNumber") rfl))
  · exact (He.glo_ok X G (c.x.t.d.fact 32 (f := .glo "BadItem") rfl))
  · exact (He.glo_ok X G (c.x.t.d.fact 33 (f := .glo "BadRows") rfl))
  · exact (He.glo_ok X G (c.x.t.d.fact 34 (f := .glo "NotAlike") rfl))) (cs_of X G c) (by
  intro x hx
  simp only [l__law_complaint, List.mem_cons, List.not_mem_nil, or_false] at hx
  rcases hx with rfl | rfl
  · exact (He.glo_ok X G (c.x.t.d.fact 32 (f := .glo "BadItem") rfl))
  · exact (He.glo_ok X G (c.x.t.d.fact 34 (f := .glo "NotAlike") rfl))) (exAt c.x.more 19)
end
end L2.Dl.W
end

section
set_option maxRecDepth 100000
set_option maxHeartbeats 8000000
namespace L2.Dl.W
open PySem PySem.Spec PyProof.Rows L2 LamX CM
section
variable {p : Int} {n : Nat} {B : List (List Int)} {π : Pen} {k : Nat} {m : M D} {r : Rho} {a b c : D}
theorem ev_draw {k : Nat} {π : Pen} {many : Int} (h : PenOk k π) (hk : k ≤ 100000000000000) (hm : 0 < many) (hl : many < 1000000) : ∃ d π', f__law_draw [.pen, .int many] π = .ok (.int d) π' ∧ 0 ≤ d ∧ d < many ∧ PenOk (k + 1) π' := by
  obtain ⟨cells, at_, digits, count, fold⟩ := π
  obtain ⟨h1, h2, h3, h4, h5, h6⟩ := h
  simp only at h1 h2 h3 h4 h5 h6
  have p : 0 < (2305843009213693951 : Int) := by decide
  have p2 : 0 < (128 : Int) := by decide
  have p3 : (128 : Int) < 1000000 := by decide
  have p4 : 0 < (2147483587 : Int) := by decide
  have mx : ∀ f : Int, 0 ≤ f → f < 10000000000 → powD (.int (f + (count + 1) * 7907 + 37)) (.int 17) = some (.int ((f + (count + 1) * 7907 + 37) ^ 17)) := fun f a b => d_pow ⟨by decide, by decide, by omega⟩
  have mc : mulD (.int (count + 1)) (.int 7907) = some (.int ((count + 1) * 7907)) := d_mulS (by omega) (by decide)
  have mf : mulD (.int fold) (.int 69069) = some (.int (fold * 69069)) := d_mulS (by omega) (by decide)
  by_cases c : digits = 0 ∧ at_ < cells.length
  · obtain ⟨c1, c2⟩ := c
    subst c1
    have hz : ¬ (0 : Int) < 0 := by decide
    have e1 : ixD (.lst (cells.map D.int)) (.int at_) = some (.int (cells[at_.toNat]'(by omega))) := by
      rw [ixD_lst h1 (by rw [List.length_map]; exact c2), List.getElem?_map, List.getElem?_eq_getElem (by omega)]; rfl
    have c3 : decide (at_ < ((cells.map D.int).length : Nat)) = true := by
      rw [List.length_map]; exact decide_eq_true c2
    generalize cells[at_.toNat]'(by omega) = cell at e1
    by_cases b : 1000000000000000000 ≤ cell
    · by_cases b2 : 0 < cell - 1000000000000000000
      · simp only [f__law_draw, m__law_draw, c3, e1, d_pow18, b, b2, d_mod hm, d_div hm hl, decide_true, ↓u_bd, ↓u_toS, ↓u_seq, bind_ok, bind_err, toS_ok, toS_err, seq_nx, seq_rt, seq_err, fin_nx, fin_rt, fin_err, opt_some, slD_sh, slB_sh, slB_ow, e_mBind, e_mOk, e_mOpt, e_mVar, e_mVarB, e_mNil, e_mCons, e_m1, e_m2, e_m2O, e_mC, e_mI, e_itSeq, e_mSome, e_mAnd, e_mOr, e_mTest, e_mT2, e_mChain, e_tAnd, e_tOr, e_tNot, e_mIf, e_mTup, e_mLst, e_mD, e_mCall, e_callF, e_mPen, e_mPenC, e_sPenPut, e_penPutK, e_sSeq, e_sSet, e_sSetO, e_sRet, e_sExpr, e_sNx, e_sIf, e_runF, e_mList, e_mSlice, e_sRaise, e_mMake, e_callI, d_add, d_sub, d_lt, d_le, d_gt, d_ge, d_eq, d_ne, d_asB, d_not, d_asI, d_ntN, d_intOf, d_neg, d_lenL, d_lenT, d_seqL, d_seqT, d_tupL, d_tupT, p_count, p_at, p_digits, p_fold, q_count, q_at, q_digits, q_fold, List.map_cons, List.map_nil, List.length_cons, List.length_nil, List.replicate_succ, List.replicate_zero, List.cons_append, List.nil_append, List.append_nil, List.getElem?_cons_zero, List.getElem?_cons_succ, List.set_cons_zero, List.set_cons_succ, wipeR, fName, fTup, fCons, fNil, Option.bind_some, Option.map_some, reduceIte, if_true, if_false, decide_eq_true_eq, Nat.reduceAdd, Nat.reduceSub, Nat.reduceLeDiff, Nat.reduceLT, Nat.zero_le, Bool.not_true, Bool.not_false, Bool.false_eq_true, Nat.zero_add]
        exact ⟨_, _, rfl, Int.emod_nonneg _ (by omega), Int.emod_lt_of_pos _ hm, ⟨by show 0 ≤ at_ + 1; omega, by show 0 ≤ (cell - 1000000000000000000) / many; exact Int.ediv_nonneg (by omega) (by omega), by show 0 ≤ count + 1; omega, by show count + 1 ≤ _; omega, h5, h6⟩⟩
      · have b3 : cell - 1000000000000000000 = 0 := by omega
        simp only [f__law_draw, m__law_draw, c3, e1, d_pow18, b, b3, hz, decide_true, decide_false, mx fold h5 h6, mc, d_mod hm, d_mod p, d_div p2 p3, ↓u_bd, ↓u_toS, ↓u_seq, bind_ok, bind_err, toS_ok, toS_err, seq_nx, seq_rt, seq_err, fin_nx, fin_rt, fin_err, opt_some, slD_sh, slB_sh, slB_ow, e_mBind, e_mOk, e_mOpt, e_mVar, e_mVarB, e_mNil, e_mCons, e_m1, e_m2, e_m2O, e_mC, e_mI, e_itSeq, e_mSome, e_mAnd, e_mOr, e_mTest, e_mT2, e_mChain, e_tAnd, e_tOr, e_tNot, e_mIf, e_mTup, e_mLst, e_mD, e_mCall, e_callF, e_mPen, e_mPenC, e_sPenPut, e_penPutK, e_sSeq, e_sSet, e_sSetO, e_sRet, e_sExpr, e_sNx, e_sIf, e_runF, e_mList, e_mSlice, e_sRaise, e_mMake, e_callI, d_add, d_sub, d_lt, d_le, d_gt, d_ge, d_eq, d_ne, d_asB, d_not, d_asI, d_ntN, d_intOf, d_neg, d_lenL, d_lenT, d_seqL, d_seqT, d_tupL, d_tupT, p_count, p_at, p_digits, p_fold, q_count, q_at, q_digits, q_fold, List.map_cons, List.map_nil, List.length_cons, List.length_nil, List.replicate_succ, List.replicate_zero, List.cons_append, List.nil_append, List.append_nil, List.getElem?_cons_zero, List.getElem?_cons_succ, List.set_cons_zero, List.set_cons_succ, wipeR, fName, fTup, fCons, fNil, Option.bind_some, Option.map_some, reduceIte, if_true, if_false, decide_eq_true_eq, Nat.reduceAdd, Nat.reduceSub, Nat.reduceLeDiff, Nat.reduceLT, Nat.zero_le, Bool.not_true, Bool.not_false, Bool.false_eq_true, Nat.zero_add]
        exact ⟨_, _, rfl, Int.emod_nonneg _ (by omega), Int.emod_lt_of_pos _ hm, ⟨by show 0 ≤ at_ + 1; omega, by show (0 : Int) ≤ 0; decide, by show 0 ≤ count + 1; omega, by show count + 1 ≤ _; omega, h5, h6⟩⟩
    · have g0 : 0 ≤ (fold * 69069 + cell) % 2147483587 := Int.emod_nonneg _ (by decide)
      have g1 : (fold * 69069 + cell) % 2147483587 < 2147483587 := Int.emod_lt_of_pos _ p4
      simp only [f__law_draw, m__law_draw, c3, e1, d_pow18, b, hz, decide_true, decide_false, mf, mc, d_mod hm, d_mod p, d_mod p4, d_div p2 p3, ↓u_bd, ↓u_toS, ↓u_seq, bind_ok, bind_err, toS_ok, toS_err, seq_nx, seq_rt, seq_err, fin_nx, fin_rt, fin_err, opt_some, slD_sh, slB_sh, slB_ow, e_mBind, e_mOk, e_mOpt, e_mVar, e_mVarB, e_mNil, e_mCons, e_m1, e_m2, e_m2O, e_mC, e_mI, e_itSeq, e_mSome, e_mAnd, e_mOr, e_mTest, e_mT2, e_mChain, e_tAnd, e_tOr, e_tNot, e_mIf, e_mTup, e_mLst, e_mD, e_mCall, e_callF, e_mPen, e_mPenC, e_sPenPut, e_penPutK, e_sSeq, e_sSet, e_sSetO, e_sRet, e_sExpr, e_sNx, e_sIf, e_runF, e_mList, e_mSlice, e_sRaise, e_mMake, e_callI, d_add, d_sub, d_lt, d_le, d_gt, d_ge, d_eq, d_ne, d_asB, d_not, d_asI, d_ntN, d_intOf, d_neg, d_lenL, d_lenT, d_seqL, d_seqT, d_tupL, d_tupT, p_count, p_at, p_digits, p_fold, q_count, q_at, q_digits, q_fold, List.map_cons, List.map_nil, List.length_cons, List.length_nil, List.replicate_succ, List.replicate_zero, List.cons_append, List.nil_append, List.append_nil, List.getElem?_cons_zero, List.getElem?_cons_succ, List.set_cons_zero, List.set_cons_succ, wipeR, fName, fTup, fCons, fNil, Option.bind_some, Option.map_some, reduceIte, if_true, if_false, decide_eq_true_eq, Nat.reduceAdd, Nat.reduceSub, Nat.reduceLeDiff, Nat.reduceLT, Nat.zero_le, Bool.not_true, Bool.not_false, Bool.false_eq_true, Nat.zero_add]
      generalize (fold * 69069 + cell) % 2147483587 = f at g0 g1
      simp only [mx f g0 (by omega), mc, d_mod hm, d_mod p, d_div p2 p3, ↓u_bd, ↓u_toS, ↓u_seq, bind_ok, bind_err, toS_ok, toS_err, seq_nx, seq_rt, seq_err, fin_nx, fin_rt, fin_err, opt_some, slD_sh, slB_sh, slB_ow, e_mBind, e_mOk, e_mOpt, e_mVar, e_mVarB, e_mNil, e_mCons, e_m1, e_m2, e_m2O, e_mC, e_mI, e_itSeq, e_mSome, e_mAnd, e_mOr, e_mTest, e_mT2, e_mChain, e_tAnd, e_tOr, e_tNot, e_mIf, e_mTup, e_mLst, e_mD, e_mCall, e_callF, e_mPen, e_mPenC, e_sPenPut, e_penPutK, e_sSeq, e_sSet, e_sSetO, e_sRet, e_sExpr, e_sNx, e_sIf, e_runF, e_mList, e_mSlice, e_sRaise, e_mMake, e_callI, d_add, d_sub, d_lt, d_le, d_gt, d_ge, d_eq, d_ne, d_asB, d_not, d_asI, d_ntN, d_intOf, d_neg, d_lenL, d_lenT, d_seqL, d_seqT, d_tupL, d_tupT, p_count, p_at, p_digits, p_fold, q_count, q_at, q_digits, q_fold, List.map_cons, List.map_nil, List.length_cons, List.length_nil, List.replicate_succ, List.replicate_zero, List.cons_append, List.nil_append, List.append_nil, List.getElem?_cons_zero, List.getElem?_cons_succ, List.set_cons_zero, List.set_cons_succ, wipeR, fName, fTup, fCons, fNil, Option.bind_some, Option.map_some, reduceIte, if_true, if_false, decide_eq_true_eq, Nat.reduceAdd, Nat.reduceSub, Nat.reduceLeDiff, Nat.reduceLT, Nat.zero_le, Bool.not_true, Bool.not_false, Bool.false_eq_true, Nat.zero_add]
      exact ⟨_, _, rfl, Int.emod_nonneg _ (by omega), Int.emod_lt_of_pos _ hm, ⟨by show 0 ≤ at_ + 1; omega, by show (0 : Int) ≤ 0; decide, by show 0 ≤ count + 1; omega, by show count + 1 ≤ _; omega, g0, by show f < _; omega⟩⟩
  · by_cases b2 : 0 < digits
    · have n0 : ¬ digits = 0 := by omega
      simp only [f__law_draw, m__law_draw, n0, b2, d_mod hm, d_div hm hl, decide_true, decide_false, ↓u_bd, ↓u_toS, ↓u_seq, bind_ok, bind_err, toS_ok, toS_err, seq_nx, seq_rt, seq_err, fin_nx, fin_rt, fin_err, opt_some, slD_sh, slB_sh, slB_ow, e_mBind, e_mOk, e_mOpt, e_mVar, e_mVarB, e_mNil, e_mCons, e_m1, e_m2, e_m2O, e_mC, e_mI, e_itSeq, e_mSome, e_mAnd, e_mOr, e_mTest, e_mT2, e_mChain, e_tAnd, e_tOr, e_tNot, e_mIf, e_mTup, e_mLst, e_mD, e_mCall, e_callF, e_mPen, e_mPenC, e_sPenPut, e_penPutK, e_sSeq, e_sSet, e_sSetO, e_sRet, e_sExpr, e_sNx, e_sIf, e_runF, e_mList, e_mSlice, e_sRaise, e_mMake, e_callI, d_add, d_sub, d_lt, d_le, d_gt, d_ge, d_eq, d_ne, d_asB, d_not, d_asI, d_ntN, d_intOf, d_neg, d_lenL, d_lenT, d_seqL, d_seqT, d_tupL, d_tupT, p_count, p_at, p_digits, p_fold, q_count, q_at, q_digits, q_fold, List.map_cons, List.map_nil, List.length_cons, List.length_nil, List.replicate_succ, List.replicate_zero, List.cons_append, List.nil_append, List.append_nil, List.getElem?_cons_zero, List.getElem?_cons_succ, List.set_cons_zero, List.set_cons_succ, wipeR, fName, fTup, fCons, fNil, Option.bind_some, Option.map_some, reduceIte, if_true, if_false, decide_eq_true_eq, Nat.reduceAdd, Nat.reduceSub, Nat.reduceLeDiff, Nat.reduceLT, Nat.zero_le, Bool.not_true, Bool.not_false, Bool.false_eq_true, Nat.zero_add]
      exact ⟨_, _, rfl, Int.emod_nonneg _ (by omega), Int.emod_lt_of_pos _ hm, ⟨h1, by show 0 ≤ digits / many; exact Int.ediv_nonneg (by omega) (by omega), by show 0 ≤ count + 1; omega, by show count + 1 ≤ _; omega, h5, h6⟩⟩
    · have n0 : digits = 0 := by omega
      subst n0
      have c3 : decide (at_ < ((cells.map D.int).length : Nat)) = false := by
        rw [List.length_map]; exact decide_eq_false fun q => c ⟨rfl, q⟩
      have hz : ¬ (0 : Int) < 0 := by decide
      simp only [f__law_draw, m__law_draw, c3, hz, decide_true, decide_false, mx fold h5 h6, mc, d_mod hm, d_mod p, d_div p2 p3, ↓u_bd, ↓u_toS, ↓u_seq, bind_ok, bind_err, toS_ok, toS_err, seq_nx, seq_rt, seq_err, fin_nx, fin_rt, fin_err, opt_some, slD_sh, slB_sh, slB_ow, e_mBind, e_mOk, e_mOpt, e_mVar, e_mVarB, e_mNil, e_mCons, e_m1, e_m2, e_m2O, e_mC, e_mI, e_itSeq, e_mSome, e_mAnd, e_mOr, e_mTest, e_mT2, e_mChain, e_tAnd, e_tOr, e_tNot, e_mIf, e_mTup, e_mLst, e_mD, e_mCall, e_callF, e_mPen, e_mPenC, e_sPenPut, e_penPutK, e_sSeq, e_sSet, e_sSetO, e_sRet, e_sExpr, e_sNx, e_sIf, e_runF, e_mList, e_mSlice, e_sRaise, e_mMake, e_callI, d_add, d_sub, d_lt, d_le, d_gt, d_ge, d_eq, d_ne, d_asB, d_not, d_asI, d_ntN, d_intOf, d_neg, d_lenL, d_lenT, d_seqL, d_seqT, d_tupL, d_tupT, p_count, p_at, p_digits, p_fold, q_count, q_at, q_digits, q_fold, List.map_cons, List.map_nil, List.length_cons, List.length_nil, List.replicate_succ, List.replicate_zero, List.cons_append, List.nil_append, List.append_nil, List.getElem?_cons_zero, List.getElem?_cons_succ, List.set_cons_zero, List.set_cons_succ, wipeR, fName, fTup, fCons, fNil, Option.bind_some, Option.map_some, reduceIte, if_true, if_false, decide_eq_true_eq, Nat.reduceAdd, Nat.reduceSub, Nat.reduceLeDiff, Nat.reduceLT, Nat.zero_le, Bool.not_true, Bool.not_false, Bool.false_eq_true, Nat.zero_add]
      exact ⟨_, _, rfl, Int.emod_nonneg _ (by omega), Int.emod_lt_of_pos _ hm, ⟨h1, by show (0 : Int) ≤ 0; decide, by show 0 ≤ count + 1; omega, by show count + 1 ≤ _; omega, h5, h6⟩⟩
theorem ev_is_integer {d : D} {π : Pen} (h : named d = true) : f_is_integer [d] π = .ok (.bl (isI d)) π := by
  cases d <;> first | (exact Bool.noConfusion h) | (simp only [f_is_integer, m_is_integer, ↓u_bd, ↓u_toS, ↓u_seq, bind_ok, bind_err, toS_ok, toS_err, seq_nx, seq_rt, seq_err, fin_nx, fin_rt, fin_err, opt_some, slD_sh, slB_sh, slB_ow, e_mBind, e_mOk, e_mOpt, e_mVar, e_mVarB, e_mNil, e_mCons, e_m1, e_m2, e_m2O, e_mC, e_mI, e_itSeq, e_mSome, e_mAnd, e_mOr, e_mTest, e_mT2, e_mChain, e_tAnd, e_tOr, e_tNot, e_mIf, e_mTup, e_mLst, e_mD, e_mCall, e_callF, e_mPen, e_mPenC, e_sPenPut, e_penPutK, e_sSeq, e_sSet, e_sSetO, e_sRet, e_sExpr, e_sNx, e_sIf, e_runF, e_mList, e_mSlice, e_sRaise, e_mMake, e_callI, d_add, d_sub, d_lt, d_le, d_gt, d_ge, d_eq, d_ne, d_asB, d_not, d_asI, d_ntN, d_intOf, d_neg, d_lenL, d_lenT, d_seqL, d_seqT, d_tupL, d_tupT, p_count, p_at, p_digits, p_fold, q_count, q_at, q_digits, q_fold, List.map_cons, List.map_nil, List.length_cons, List.length_nil, List.replicate_succ, List.replicate_zero, List.cons_append, List.nil_append, List.append_nil, List.getElem?_cons_zero, List.getElem?_cons_succ, List.set_cons_zero, List.set_cons_succ, wipeR, fName, fTup, fCons, fNil, Option.bind_some, Option.map_some, reduceIte, if_true, if_false, decide_eq_true_eq, Nat.reduceAdd, Nat.reduceSub, Nat.reduceLeDiff, Nat.reduceLT, Nat.zero_le, Bool.not_true, Bool.not_false, Bool.false_eq_true, Nat.zero_add]
                                                    rfl)
theorem ev_is_row {d : D} {π : Pen} (h : named d = true) : f_is_row [d] π = .ok (.bl (isR d)) π := by
  cases d <;> first | (exact Bool.noConfusion h) | (simp only [f_is_row, m_is_row, ↓u_bd, ↓u_toS, ↓u_seq, bind_ok, bind_err, toS_ok, toS_err, seq_nx, seq_rt, seq_err, fin_nx, fin_rt, fin_err, opt_some, slD_sh, slB_sh, slB_ow, e_mBind, e_mOk, e_mOpt, e_mVar, e_mVarB, e_mNil, e_mCons, e_m1, e_m2, e_m2O, e_mC, e_mI, e_itSeq, e_mSome, e_mAnd, e_mOr, e_mTest, e_mT2, e_mChain, e_tAnd, e_tOr, e_tNot, e_mIf, e_mTup, e_mLst, e_mD, e_mCall, e_callF, e_mPen, e_mPenC, e_sPenPut, e_penPutK, e_sSeq, e_sSet, e_sSetO, e_sRet, e_sExpr, e_sNx, e_sIf, e_runF, e_mList, e_mSlice, e_sRaise, e_mMake, e_callI, d_add, d_sub, d_lt, d_le, d_gt, d_ge, d_eq, d_ne, d_asB, d_not, d_asI, d_ntN, d_intOf, d_neg, d_lenL, d_lenT, d_seqL, d_seqT, d_tupL, d_tupT, p_count, p_at, p_digits, p_fold, q_count, q_at, q_digits, q_fold, List.map_cons, List.map_nil, List.length_cons, List.length_nil, List.replicate_succ, List.replicate_zero, List.cons_append, List.nil_append, List.append_nil, List.getElem?_cons_zero, List.getElem?_cons_succ, List.set_cons_zero, List.set_cons_succ, wipeR, fName, fTup, fCons, fNil, Option.bind_some, Option.map_some, reduceIte, if_true, if_false, decide_eq_true_eq, Nat.reduceAdd, Nat.reduceSub, Nat.reduceLeDiff, Nat.reduceLT, Nat.zero_le, Bool.not_true, Bool.not_false, Bool.false_eq_true, Nat.zero_add]
                                                    rfl)
theorem ev_is_letters {d : D} {p n : Int} {π : Pen} (h : named d = true) (h2 : ∀ x ∈ seqL d, named x = true) (h3 : (seqL d).length ≤ sizeLine) : f_is_letters [.int p, .int n, d] π = .ok (.bl (wordB p n d)) π := by
  have key : ∀ (l : List D) (ρ : Rho) , (∀ x ∈ l, named x = true) → l.length ≤ sizeLine → seqL d = l → isR d = true → mLc (itSeq (mVar 2)) (fName 3) (mOk true) (mAnd (mCall 1 f_is_integer [] (mCons (mVar 3) mNil)) (mChain leD ltD (mOk (.int 0)) (mVar 3) (mVar 0))) [3] [.sh (.int p), .sh (.int n), .sh d, .no] π = .ok (.lst (l.map fun x => .bl (letB p x))) π := fun l ρ hn hz e hr => by
    refine mLc_all (xs := l) l id _ ?_ (by rw [List.map_id]) hz fun x hx => ⟨_, rfl, ?_⟩
    · cases d <;> first | (exact Bool.noConfusion hr) | (cases e
                                                         rfl)
    · cases x with
      | int i =>
        by_cases c1 : 0 ≤ i
        · simp only [id, ev_is_integer, hn _ hx, isI, c1, decide_true, ↓u_bd, ↓u_toS, ↓u_seq, bind_ok, bind_err, toS_ok, toS_err, seq_nx, seq_rt, seq_err, fin_nx, fin_rt, fin_err, opt_some, slD_sh, slB_sh, slB_ow, e_mBind, e_mOk, e_mOpt, e_mVar, e_mVarB, e_mNil, e_mCons, e_m1, e_m2, e_m2O, e_mC, e_mI, e_itSeq, e_mSome, e_mAnd, e_mOr, e_mTest, e_mT2, e_mChain, e_tAnd, e_tOr, e_tNot, e_mIf, e_mTup, e_mLst, e_mD, e_mCall, e_callF, e_mPen, e_mPenC, e_sPenPut, e_penPutK, e_sSeq, e_sSet, e_sSetO, e_sRet, e_sExpr, e_sNx, e_sIf, e_runF, e_mList, e_mSlice, e_sRaise, e_mMake, e_callI, d_add, d_sub, d_lt, d_le, d_gt, d_ge, d_eq, d_ne, d_asB, d_not, d_asI, d_ntN, d_intOf, d_neg, d_lenL, d_lenT, d_seqL, d_seqT, d_tupL, d_tupT, p_count, p_at, p_digits, p_fold, q_count, q_at, q_digits, q_fold, List.map_cons, List.map_nil, List.length_cons, List.length_nil, List.replicate_succ, List.replicate_zero, List.cons_append, List.nil_append, List.append_nil, List.getElem?_cons_zero, List.getElem?_cons_succ, List.set_cons_zero, List.set_cons_succ, wipeR, fName, fTup, fCons, fNil, Option.bind_some, Option.map_some, reduceIte, if_true, if_false, decide_eq_true_eq, Nat.reduceAdd, Nat.reduceSub, Nat.reduceLeDiff, Nat.reduceLT, Nat.zero_le, Bool.not_true, Bool.not_false, Bool.false_eq_true, Nat.zero_add]
          rw [letB, decide_eq_true c1, Bool.true_and]
        · simp only [id, ev_is_integer, hn _ hx, isI, c1, decide_false, ↓u_bd, ↓u_toS, ↓u_seq, bind_ok, bind_err, toS_ok, toS_err, seq_nx, seq_rt, seq_err, fin_nx, fin_rt, fin_err, opt_some, slD_sh, slB_sh, slB_ow, e_mBind, e_mOk, e_mOpt, e_mVar, e_mVarB, e_mNil, e_mCons, e_m1, e_m2, e_m2O, e_mC, e_mI, e_itSeq, e_mSome, e_mAnd, e_mOr, e_mTest, e_mT2, e_mChain, e_tAnd, e_tOr, e_tNot, e_mIf, e_mTup, e_mLst, e_mD, e_mCall, e_callF, e_mPen, e_mPenC, e_sPenPut, e_penPutK, e_sSeq, e_sSet, e_sSetO, e_sRet, e_sExpr, e_sNx, e_sIf, e_runF, e_mList, e_mSlice, e_sRaise, e_mMake, e_callI, d_add, d_sub, d_lt, d_le, d_gt, d_ge, d_eq, d_ne, d_asB, d_not, d_asI, d_ntN, d_intOf, d_neg, d_lenL, d_lenT, d_seqL, d_seqT, d_tupL, d_tupT, p_count, p_at, p_digits, p_fold, q_count, q_at, q_digits, q_fold, List.map_cons, List.map_nil, List.length_cons, List.length_nil, List.replicate_succ, List.replicate_zero, List.cons_append, List.nil_append, List.append_nil, List.getElem?_cons_zero, List.getElem?_cons_succ, List.set_cons_zero, List.set_cons_succ, wipeR, fName, fTup, fCons, fNil, Option.bind_some, Option.map_some, reduceIte, if_true, if_false, decide_eq_true_eq, Nat.reduceAdd, Nat.reduceSub, Nat.reduceLeDiff, Nat.reduceLT, Nat.zero_le, Bool.not_true, Bool.not_false, Bool.false_eq_true, Nat.zero_add]
          rw [letB, decide_eq_false c1, Bool.false_and]
      | _ =>
        simp only [id, ev_is_integer, hn _ hx, isI, letB, ↓u_bd, ↓u_toS, ↓u_seq, bind_ok, bind_err, toS_ok, toS_err, seq_nx, seq_rt, seq_err, fin_nx, fin_rt, fin_err, opt_some, slD_sh, slB_sh, slB_ow, e_mBind, e_mOk, e_mOpt, e_mVar, e_mVarB, e_mNil, e_mCons, e_m1, e_m2, e_m2O, e_mC, e_mI, e_itSeq, e_mSome, e_mAnd, e_mOr, e_mTest, e_mT2, e_mChain, e_tAnd, e_tOr, e_tNot, e_mIf, e_mTup, e_mLst, e_mD, e_mCall, e_callF, e_mPen, e_mPenC, e_sPenPut, e_penPutK, e_sSeq, e_sSet, e_sSetO, e_sRet, e_sExpr, e_sNx, e_sIf, e_runF, e_mList, e_mSlice, e_sRaise, e_mMake, e_callI, d_add, d_sub, d_lt, d_le, d_gt, d_ge, d_eq, d_ne, d_asB, d_not, d_asI, d_ntN, d_intOf, d_neg, d_lenL, d_lenT, d_seqL, d_seqT, d_tupL, d_tupT, p_count, p_at, p_digits, p_fold, q_count, q_at, q_digits, q_fold, List.map_cons, List.map_nil, List.length_cons, List.length_nil, List.replicate_succ, List.replicate_zero, List.cons_append, List.nil_append, List.append_nil, List.getElem?_cons_zero, List.getElem?_cons_succ, List.set_cons_zero, List.set_cons_succ, wipeR, fName, fTup, fCons, fNil, Option.bind_some, Option.map_some, reduceIte, if_true, if_false, decide_eq_true_eq, Nat.reduceAdd, Nat.reduceSub, Nat.reduceLeDiff, Nat.reduceLT, Nat.zero_le, Bool.not_true, Bool.not_false, Bool.false_eq_true, Nat.zero_add]
  cases d with
  | lst l =>
    have k := key l [] h2 h3 rfl rfl
    by_cases c : (l.length : Int) = n
    · simp only [f_is_letters, m_is_letters, ev_is_row, h, isR, c, decide_true, k, Own.D, allD_map, ↓u_bd, ↓u_toS, ↓u_seq, bind_ok, bind_err, toS_ok, toS_err, seq_nx, seq_rt, seq_err, fin_nx, fin_rt, fin_err, opt_some, slD_sh, slB_sh, slB_ow, e_mBind, e_mOk, e_mOpt, e_mVar, e_mVarB, e_mNil, e_mCons, e_m1, e_m2, e_m2O, e_mC, e_mI, e_itSeq, e_mSome, e_mAnd, e_mOr, e_mTest, e_mT2, e_mChain, e_tAnd, e_tOr, e_tNot, e_mIf, e_mTup, e_mLst, e_mD, e_mCall, e_callF, e_mPen, e_mPenC, e_sPenPut, e_penPutK, e_sSeq, e_sSet, e_sSetO, e_sRet, e_sExpr, e_sNx, e_sIf, e_runF, e_mList, e_mSlice, e_sRaise, e_mMake, e_callI, d_add, d_sub, d_lt, d_le, d_gt, d_ge, d_eq, d_ne, d_asB, d_not, d_asI, d_ntN, d_intOf, d_neg, d_lenL, d_lenT, d_seqL, d_seqT, d_tupL, d_tupT, p_count, p_at, p_digits, p_fold, q_count, q_at, q_digits, q_fold, List.map_cons, List.map_nil, List.length_cons, List.length_nil, List.replicate_succ, List.replicate_zero, List.cons_append, List.nil_append, List.append_nil, List.getElem?_cons_zero, List.getElem?_cons_succ, List.set_cons_zero, List.set_cons_succ, wipeR, fName, fTup, fCons, fNil, Option.bind_some, Option.map_some, reduceIte, if_true, if_false, decide_eq_true_eq, Nat.reduceAdd, Nat.reduceSub, Nat.reduceLeDiff, Nat.reduceLT, Nat.zero_le, Bool.not_true, Bool.not_false, Bool.false_eq_true, Nat.zero_add]
      rw [wordB, isR, Bool.true_and, seqL, decide_eq_true c, Bool.true_and]
    · simp only [f_is_letters, m_is_letters, ev_is_row, h, isR, c, decide_false, ↓u_bd, ↓u_toS, ↓u_seq, bind_ok, bind_err, toS_ok, toS_err, seq_nx, seq_rt, seq_err, fin_nx, fin_rt, fin_err, opt_some, slD_sh, slB_sh, slB_ow, e_mBind, e_mOk, e_mOpt, e_mVar, e_mVarB, e_mNil, e_mCons, e_m1, e_m2, e_m2O, e_mC, e_mI, e_itSeq, e_mSome, e_mAnd, e_mOr, e_mTest, e_mT2, e_mChain, e_tAnd, e_tOr, e_tNot, e_mIf, e_mTup, e_mLst, e_mD, e_mCall, e_callF, e_mPen, e_mPenC, e_sPenPut, e_penPutK, e_sSeq, e_sSet, e_sSetO, e_sRet, e_sExpr, e_sNx, e_sIf, e_runF, e_mList, e_mSlice, e_sRaise, e_mMake, e_callI, d_add, d_sub, d_lt, d_le, d_gt, d_ge, d_eq, d_ne, d_asB, d_not, d_asI, d_ntN, d_intOf, d_neg, d_lenL, d_lenT, d_seqL, d_seqT, d_tupL, d_tupT, p_count, p_at, p_digits, p_fold, q_count, q_at, q_digits, q_fold, List.map_cons, List.map_nil, List.length_cons, List.length_nil, List.replicate_succ, List.replicate_zero, List.cons_append, List.nil_append, List.append_nil, List.getElem?_cons_zero, List.getElem?_cons_succ, List.set_cons_zero, List.set_cons_succ, wipeR, fName, fTup, fCons, fNil, Option.bind_some, Option.map_some, reduceIte, if_true, if_false, decide_eq_true_eq, Nat.reduceAdd, Nat.reduceSub, Nat.reduceLeDiff, Nat.reduceLT, Nat.zero_le, Bool.not_true, Bool.not_false, Bool.false_eq_true, Nat.zero_add]
      rw [wordB, isR, Bool.true_and, seqL, decide_eq_false c, Bool.false_and]
  | tup l =>
    have k := key l [] h2 h3 rfl rfl
    by_cases c : (l.length : Int) = n
    · simp only [f_is_letters, m_is_letters, ev_is_row, h, isR, c, decide_true, k, Own.D, allD_map, ↓u_bd, ↓u_toS, ↓u_seq, bind_ok, bind_err, toS_ok, toS_err, seq_nx, seq_rt, seq_err, fin_nx, fin_rt, fin_err, opt_some, slD_sh, slB_sh, slB_ow, e_mBind, e_mOk, e_mOpt, e_mVar, e_mVarB, e_mNil, e_mCons, e_m1, e_m2, e_m2O, e_mC, e_mI, e_itSeq, e_mSome, e_mAnd, e_mOr, e_mTest, e_mT2, e_mChain, e_tAnd, e_tOr, e_tNot, e_mIf, e_mTup, e_mLst, e_mD, e_mCall, e_callF, e_mPen, e_mPenC, e_sPenPut, e_penPutK, e_sSeq, e_sSet, e_sSetO, e_sRet, e_sExpr, e_sNx, e_sIf, e_runF, e_mList, e_mSlice, e_sRaise, e_mMake, e_callI, d_add, d_sub, d_lt, d_le, d_gt, d_ge, d_eq, d_ne, d_asB, d_not, d_asI, d_ntN, d_intOf, d_neg, d_lenL, d_lenT, d_seqL, d_seqT, d_tupL, d_tupT, p_count, p_at, p_digits, p_fold, q_count, q_at, q_digits, q_fold, List.map_cons, List.map_nil, List.length_cons, List.length_nil, List.replicate_succ, List.replicate_zero, List.cons_append, List.nil_append, List.append_nil, List.getElem?_cons_zero, List.getElem?_cons_succ, List.set_cons_zero, List.set_cons_succ, wipeR, fName, fTup, fCons, fNil, Option.bind_some, Option.map_some, reduceIte, if_true, if_false, decide_eq_true_eq, Nat.reduceAdd, Nat.reduceSub, Nat.reduceLeDiff, Nat.reduceLT, Nat.zero_le, Bool.not_true, Bool.not_false, Bool.false_eq_true, Nat.zero_add]
      rw [wordB, isR, Bool.true_and, seqL, decide_eq_true c, Bool.true_and]
    · simp only [f_is_letters, m_is_letters, ev_is_row, h, isR, c, decide_false, ↓u_bd, ↓u_toS, ↓u_seq, bind_ok, bind_err, toS_ok, toS_err, seq_nx, seq_rt, seq_err, fin_nx, fin_rt, fin_err, opt_some, slD_sh, slB_sh, slB_ow, e_mBind, e_mOk, e_mOpt, e_mVar, e_mVarB, e_mNil, e_mCons, e_m1, e_m2, e_m2O, e_mC, e_mI, e_itSeq, e_mSome, e_mAnd, e_mOr, e_mTest, e_mT2, e_mChain, e_tAnd, e_tOr, e_tNot, e_mIf, e_mTup, e_mLst, e_mD, e_mCall, e_callF, e_mPen, e_mPenC, e_sPenPut, e_penPutK, e_sSeq, e_sSet, e_sSetO, e_sRet, e_sExpr, e_sNx, e_sIf, e_runF, e_mList, e_mSlice, e_sRaise, e_mMake, e_callI, d_add, d_sub, d_lt, d_le, d_gt, d_ge, d_eq, d_ne, d_asB, d_not, d_asI, d_ntN, d_intOf, d_neg, d_lenL, d_lenT, d_seqL, d_seqT, d_tupL, d_tupT, p_count, p_at, p_digits, p_fold, q_count, q_at, q_digits, q_fold, List.map_cons, List.map_nil, List.length_cons, List.length_nil, List.replicate_succ, List.replicate_zero, List.cons_append, List.nil_append, List.append_nil, List.getElem?_cons_zero, List.getElem?_cons_succ, List.set_cons_zero, List.set_cons_succ, wipeR, fName, fTup, fCons, fNil, Option.bind_some, Option.map_some, reduceIte, if_true, if_false, decide_eq_true_eq, Nat.reduceAdd, Nat.reduceSub, Nat.reduceLeDiff, Nat.reduceLT, Nat.zero_le, Bool.not_true, Bool.not_false, Bool.false_eq_true, Nat.zero_add]
      rw [wordB, isR, Bool.true_and, seqL, decide_eq_false c, Bool.false_and]
  | _ =>
    first
    | exact Bool.noConfusion h
    | (simp only [f_is_letters, m_is_letters, ev_is_row, h, isR, wordB, ↓u_bd, ↓u_toS, ↓u_seq, bind_ok, bind_err, toS_ok, toS_err, seq_nx, seq_rt, seq_err, fin_nx, fin_rt, fin_err, opt_some, slD_sh, slB_sh, slB_ow, e_mBind, e_mOk, e_mOpt, e_mVar, e_mVarB, e_mNil, e_mCons, e_m1, e_m2, e_m2O, e_mC, e_mI, e_itSeq, e_mSome, e_mAnd, e_mOr, e_mTest, e_mT2, e_mChain, e_tAnd, e_tOr, e_tNot, e_mIf, e_mTup, e_mLst, e_mD, e_mCall, e_callF, e_mPen, e_mPenC, e_sPenPut, e_penPutK, e_sSeq, e_sSet, e_sSetO, e_sRet, e_sExpr, e_sNx, e_sIf, e_runF, e_mList, e_mSlice, e_sRaise, e_mMake, e_callI, d_add, d_sub, d_lt, d_le, d_gt, d_ge, d_eq, d_ne, d_asB, d_not, d_asI, d_ntN, d_intOf, d_neg, d_lenL, d_lenT, d_seqL, d_seqT, d_tupL, d_tupT, p_count, p_at, p_digits, p_fold, q_count, q_at, q_digits, q_fold, List.map_cons, List.map_nil, List.length_cons, List.length_nil, List.replicate_succ, List.replicate_zero, List.cons_append, List.nil_append, List.append_nil, List.getElem?_cons_zero, List.getElem?_cons_succ, List.set_cons_zero, List.set_cons_succ, wipeR, fName, fTup, fCons, fNil, Option.bind_some, Option.map_some, reduceIte, if_true, if_false, decide_eq_true_eq, Nat.reduceAdd, Nat.reduceSub, Nat.reduceLeDiff, Nat.reduceLT, Nat.zero_le, Bool.not_true, Bool.not_false, Bool.false_eq_true, Nat.zero_add]
       rfl)
theorem ev_added {p t : Int} {a b : List Int} {π : Pen} (hp : 0 < p) (ht : t.natAbs < 18446744073709551616) (hb : ∀ x ∈ b, x.natAbs < 18446744073709551616) (hz : a.length ≤ sizeLine) : f_added [.int p, wD a, wD b, .int t] π = .ok (wD (addw p a b t)) π := by
  have k : mLc (mI zipA (mCons (mVar 1) (mCons (mVar 2) mNil))) (fTup 2 (fCons (fName 4) (fCons (fName 5) fNil))) (mOk true) (m2 modD (m2 addD (mVar 4) (m2 mulD (mVar 3) (mVar 5))) (mVar 0)) [4, 5] [.sh (.int p), .sh (wD a), .sh (wD b), .sh (.int t), .no, .no] π = .ok (.lst ((a.zip b).map fun q => .int ((q.1 + t * q.2) % p))) π := by
    refine mLc_all (a.zip b) (fun q => D.tup [.int q.1, .int q.2]) (fun q => .int ((q.1 + t * q.2) % p)) ?_ rfl (by rw [List.length_zip]; omega) fun q hq => ⟨_, rfl, ?_⟩
    · simp only [zipA_w, ↓u_bd, ↓u_toS, ↓u_seq, bind_ok, bind_err, toS_ok, toS_err, seq_nx, seq_rt, seq_err, fin_nx, fin_rt, fin_err, opt_some, slD_sh, slB_sh, slB_ow, e_mBind, e_mOk, e_mOpt, e_mVar, e_mVarB, e_mNil, e_mCons, e_m1, e_m2, e_m2O, e_mC, e_mI, e_itSeq, e_mSome, e_mAnd, e_mOr, e_mTest, e_mT2, e_mChain, e_tAnd, e_tOr, e_tNot, e_mIf, e_mTup, e_mLst, e_mD, e_mCall, e_callF, e_mPen, e_mPenC, e_sPenPut, e_penPutK, e_sSeq, e_sSet, e_sSetO, e_sRet, e_sExpr, e_sNx, e_sIf, e_runF, e_mList, e_mSlice, e_sRaise, e_mMake, e_callI, d_add, d_sub, d_lt, d_le, d_gt, d_ge, d_eq, d_ne, d_asB, d_not, d_asI, d_ntN, d_intOf, d_neg, d_lenL, d_lenT, d_seqL, d_seqT, d_tupL, d_tupT, p_count, p_at, p_digits, p_fold, q_count, q_at, q_digits, q_fold, List.map_cons, List.map_nil, List.length_cons, List.length_nil, List.replicate_succ, List.replicate_zero, List.cons_append, List.nil_append, List.append_nil, List.getElem?_cons_zero, List.getElem?_cons_succ, List.set_cons_zero, List.set_cons_succ, wipeR, fName, fTup, fCons, fNil, Option.bind_some, Option.map_some, reduceIte, if_true, if_false, decide_eq_true_eq, Nat.reduceAdd, Nat.reduceSub, Nat.reduceLeDiff, Nat.reduceLT, Nat.zero_le, Bool.not_true, Bool.not_false, Bool.false_eq_true, Nat.zero_add]
    · have := hb q.2 (List.of_mem_zip hq).2
      simp only [small_mul ht this, d_mod hp, ↓u_bd, ↓u_toS, ↓u_seq, bind_ok, bind_err, toS_ok, toS_err, seq_nx, seq_rt, seq_err, fin_nx, fin_rt, fin_err, opt_some, slD_sh, slB_sh, slB_ow, e_mBind, e_mOk, e_mOpt, e_mVar, e_mVarB, e_mNil, e_mCons, e_m1, e_m2, e_m2O, e_mC, e_mI, e_itSeq, e_mSome, e_mAnd, e_mOr, e_mTest, e_mT2, e_mChain, e_tAnd, e_tOr, e_tNot, e_mIf, e_mTup, e_mLst, e_mD, e_mCall, e_callF, e_mPen, e_mPenC, e_sPenPut, e_penPutK, e_sSeq, e_sSet, e_sSetO, e_sRet, e_sExpr, e_sNx, e_sIf, e_runF, e_mList, e_mSlice, e_sRaise, e_mMake, e_callI, d_add, d_sub, d_lt, d_le, d_gt, d_ge, d_eq, d_ne, d_asB, d_not, d_asI, d_ntN, d_intOf, d_neg, d_lenL, d_lenT, d_seqL, d_seqT, d_tupL, d_tupT, p_count, p_at, p_digits, p_fold, q_count, q_at, q_digits, q_fold, List.map_cons, List.map_nil, List.length_cons, List.length_nil, List.replicate_succ, List.replicate_zero, List.cons_append, List.nil_append, List.append_nil, List.getElem?_cons_zero, List.getElem?_cons_succ, List.set_cons_zero, List.set_cons_succ, wipeR, fName, fTup, fCons, fNil, Option.bind_some, Option.map_some, reduceIte, if_true, if_false, decide_eq_true_eq, Nat.reduceAdd, Nat.reduceSub, Nat.reduceLeDiff, Nat.reduceLT, Nat.zero_le, Bool.not_true, Bool.not_false, Bool.false_eq_true, Nat.zero_add]
  simp only [f_added, m_added, k, Own.D, ↓u_bd, ↓u_toS, ↓u_seq, bind_ok, bind_err, toS_ok, toS_err, seq_nx, seq_rt, seq_err, fin_nx, fin_rt, fin_err, opt_some, slD_sh, slB_sh, slB_ow, e_mBind, e_mOk, e_mOpt, e_mVar, e_mVarB, e_mNil, e_mCons, e_m1, e_m2, e_m2O, e_mC, e_mI, e_itSeq, e_mSome, e_mAnd, e_mOr, e_mTest, e_mT2, e_mChain, e_tAnd, e_tOr, e_tNot, e_mIf, e_mTup, e_mLst, e_mD, e_mCall, e_callF, e_mPen, e_mPenC, e_sPenPut, e_penPutK, e_sSeq, e_sSet, e_sSetO, e_sRet, e_sExpr, e_sNx, e_sIf, e_runF, e_mList, e_mSlice, e_sRaise, e_mMake, e_callI, d_add, d_sub, d_lt, d_le, d_gt, d_ge, d_eq, d_ne, d_asB, d_not, d_asI, d_ntN, d_intOf, d_neg, d_lenL, d_lenT, d_seqL, d_seqT, d_tupL, d_tupT, p_count, p_at, p_digits, p_fold, q_count, q_at, q_digits, q_fold, List.map_cons, List.map_nil, List.length_cons, List.length_nil, List.replicate_succ, List.replicate_zero, List.cons_append, List.nil_append, List.append_nil, List.getElem?_cons_zero, List.getElem?_cons_succ, List.set_cons_zero, List.set_cons_succ, wipeR, fName, fTup, fCons, fNil, Option.bind_some, Option.map_some, reduceIte, if_true, if_false, decide_eq_true_eq, Nat.reduceAdd, Nat.reduceSub, Nat.reduceLeDiff, Nat.reduceLT, Nat.zero_le, Bool.not_true, Bool.not_false, Bool.false_eq_true, Nat.zero_add]
  unfold wD addw
  rw [List.map_map]; rfl
theorem ev_multiple {p t : Int} {a : List Int} {π : Pen} (hp : 0 < p) (ht : t.natAbs < 18446744073709551616) (hb : ∀ x ∈ a, x.natAbs < 18446744073709551616) (hz : a.length ≤ sizeLine) : f_multiple [.int p, wD a, .int t] π = .ok (wD (mulw p a t)) π := by
  have k : mLc (itSeq (mVar 1)) (fName 3) (mOk true) (m2 modD (m2 mulD (mVar 3) (mVar 2)) (mVar 0)) [3] [.sh (.int p), .sh (wD a), .sh (.int t), .no] π = .ok (.lst (a.map fun x => .int (x * t % p))) π := by
    refine mLc_all a D.int (fun x => .int (x * t % p)) ?_ rfl hz fun q hq => ⟨_, rfl, ?_⟩
    · simp only [seqOf_w, ↓u_bd, ↓u_toS, ↓u_seq, bind_ok, bind_err, toS_ok, toS_err, seq_nx, seq_rt, seq_err, fin_nx, fin_rt, fin_err, opt_some, slD_sh, slB_sh, slB_ow, e_mBind, e_mOk, e_mOpt, e_mVar, e_mVarB, e_mNil, e_mCons, e_m1, e_m2, e_m2O, e_mC, e_mI, e_itSeq, e_mSome, e_mAnd, e_mOr, e_mTest, e_mT2, e_mChain, e_tAnd, e_tOr, e_tNot, e_mIf, e_mTup, e_mLst, e_mD, e_mCall, e_callF, e_mPen, e_mPenC, e_sPenPut, e_penPutK, e_sSeq, e_sSet, e_sSetO, e_sRet, e_sExpr, e_sNx, e_sIf, e_runF, e_mList, e_mSlice, e_sRaise, e_mMake, e_callI, d_add, d_sub, d_lt, d_le, d_gt, d_ge, d_eq, d_ne, d_asB, d_not, d_asI, d_ntN, d_intOf, d_neg, d_lenL, d_lenT, d_seqL, d_seqT, d_tupL, d_tupT, p_count, p_at, p_digits, p_fold, q_count, q_at, q_digits, q_fold, List.map_cons, List.map_nil, List.length_cons, List.length_nil, List.replicate_succ, List.replicate_zero, List.cons_append, List.nil_append, List.append_nil, List.getElem?_cons_zero, List.getElem?_cons_succ, List.set_cons_zero, List.set_cons_succ, wipeR, fName, fTup, fCons, fNil, Option.bind_some, Option.map_some, reduceIte, if_true, if_false, decide_eq_true_eq, Nat.reduceAdd, Nat.reduceSub, Nat.reduceLeDiff, Nat.reduceLT, Nat.zero_le, Bool.not_true, Bool.not_false, Bool.false_eq_true, Nat.zero_add]
    · simp only [small_mul (hb q hq) ht, d_mod hp, ↓u_bd, ↓u_toS, ↓u_seq, bind_ok, bind_err, toS_ok, toS_err, seq_nx, seq_rt, seq_err, fin_nx, fin_rt, fin_err, opt_some, slD_sh, slB_sh, slB_ow, e_mBind, e_mOk, e_mOpt, e_mVar, e_mVarB, e_mNil, e_mCons, e_m1, e_m2, e_m2O, e_mC, e_mI, e_itSeq, e_mSome, e_mAnd, e_mOr, e_mTest, e_mT2, e_mChain, e_tAnd, e_tOr, e_tNot, e_mIf, e_mTup, e_mLst, e_mD, e_mCall, e_callF, e_mPen, e_mPenC, e_sPenPut, e_penPutK, e_sSeq, e_sSet, e_sSetO, e_sRet, e_sExpr, e_sNx, e_sIf, e_runF, e_mList, e_mSlice, e_sRaise, e_mMake, e_callI, d_add, d_sub, d_lt, d_le, d_gt, d_ge, d_eq, d_ne, d_asB, d_not, d_asI, d_ntN, d_intOf, d_neg, d_lenL, d_lenT, d_seqL, d_seqT, d_tupL, d_tupT, p_count, p_at, p_digits, p_fold, q_count, q_at, q_digits, q_fold, List.map_cons, List.map_nil, List.length_cons, List.length_nil, List.replicate_succ, List.replicate_zero, List.cons_append, List.nil_append, List.append_nil, List.getElem?_cons_zero, List.getElem?_cons_succ, List.set_cons_zero, List.set_cons_succ, wipeR, fName, fTup, fCons, fNil, Option.bind_some, Option.map_some, reduceIte, if_true, if_false, decide_eq_true_eq, Nat.reduceAdd, Nat.reduceSub, Nat.reduceLeDiff, Nat.reduceLT, Nat.zero_le, Bool.not_true, Bool.not_false, Bool.false_eq_true, Nat.zero_add]
  simp only [f_multiple, m_multiple, k, Own.D, ↓u_bd, ↓u_toS, ↓u_seq, bind_ok, bind_err, toS_ok, toS_err, seq_nx, seq_rt, seq_err, fin_nx, fin_rt, fin_err, opt_some, slD_sh, slB_sh, slB_ow, e_mBind, e_mOk, e_mOpt, e_mVar, e_mVarB, e_mNil, e_mCons, e_m1, e_m2, e_m2O, e_mC, e_mI, e_itSeq, e_mSome, e_mAnd, e_mOr, e_mTest, e_mT2, e_mChain, e_tAnd, e_tOr, e_tNot, e_mIf, e_mTup, e_mLst, e_mD, e_mCall, e_callF, e_mPen, e_mPenC, e_sPenPut, e_penPutK, e_sSeq, e_sSet, e_sSetO, e_sRet, e_sExpr, e_sNx, e_sIf, e_runF, e_mList, e_mSlice, e_sRaise, e_mMake, e_callI, d_add, d_sub, d_lt, d_le, d_gt, d_ge, d_eq, d_ne, d_asB, d_not, d_asI, d_ntN, d_intOf, d_neg, d_lenL, d_lenT, d_seqL, d_seqT, d_tupL, d_tupT, p_count, p_at, p_digits, p_fold, q_count, q_at, q_digits, q_fold, List.map_cons, List.map_nil, List.length_cons, List.length_nil, List.replicate_succ, List.replicate_zero, List.cons_append, List.nil_append, List.append_nil, List.getElem?_cons_zero, List.getElem?_cons_succ, List.set_cons_zero, List.set_cons_succ, wipeR, fName, fTup, fCons, fNil, Option.bind_some, Option.map_some, reduceIte, if_true, if_false, decide_eq_true_eq, Nat.reduceAdd, Nat.reduceSub, Nat.reduceLeDiff, Nat.reduceLT, Nat.zero_le, Bool.not_true, Bool.not_false, Bool.false_eq_true, Nat.zero_add]
  unfold wD mulw
  rw [List.map_map]; rfl
theorem lead_loop {d : D} {π : Pen} : ∀ (w : List Int) (k : Nat) (j1 j2 : Sl),
    (∀ i, lead w = some i → forGo (fTup 2 (fCons (fName 1) (fCons (fName 2) fNil))) (sIf (mT2 neD (mVar 2) (mOk (.int 0))) (sRet (mVar 1)) sNx) (enumF k (w.map .int)) [.sh d, j1, j2] π = .rt (.int ((i + k : Nat) : Int)) π) ∧
    (lead w = none → ∃ a b, forGo (fTup 2 (fCons (fName 1) (fCons (fName 2) fNil))) (sIf (mT2 neD (mVar 2) (mOk (.int 0))) (sRet (mVar 1)) sNx) (enumF k (w.map .int)) [.sh d, j1, j2] π = .nx [.sh d, a, b] π)
  | [], k, j1, j2 => ⟨fun i h => (by cases h), fun _ => ⟨j1, j2, rfl⟩⟩
  | x :: w, k, j1, j2 => by
    by_cases h : x = 0
    · obtain ⟨ih1, ih2⟩ := lead_loop (d := d) (π := π) w (k + 1) (.sh (.int k)) (.sh (.int x))
      have e : ∀ o, forGo (fTup 2 (fCons (fName 1) (fCons (fName 2) fNil))) (sIf (mT2 neD (mVar 2) (mOk (.int 0))) (sRet (mVar 1)) sNx) (enumF (k + 1) (w.map .int)) [.sh d, .sh (.int k), .sh (.int x)] π = o → forGo (fTup 2 (fCons (fName 1) (fCons (fName 2) fNil))) (sIf (mT2 neD (mVar 2) (mOk (.int 0))) (sRet (mVar 1)) sNx) (enumF k ((x :: w).map .int)) [.sh d, j1, j2] π = o := fun o q => by
        rw [List.map_cons, enumF, forGo]
        simp only [h, decide_true, ↓u_bd, ↓u_toS, ↓u_seq, bind_ok, bind_err, toS_ok, toS_err, seq_nx, seq_rt, seq_err, fin_nx, fin_rt, fin_err, opt_some, slD_sh, slB_sh, slB_ow, e_mBind, e_mOk, e_mOpt, e_mVar, e_mVarB, e_mNil, e_mCons, e_m1, e_m2, e_m2O, e_mC, e_mI, e_itSeq, e_mSome, e_mAnd, e_mOr, e_mTest, e_mT2, e_mChain, e_tAnd, e_tOr, e_tNot, e_mIf, e_mTup, e_mLst, e_mD, e_mCall, e_callF, e_mPen, e_mPenC, e_sPenPut, e_penPutK, e_sSeq, e_sSet, e_sSetO, e_sRet, e_sExpr, e_sNx, e_sIf, e_runF, e_mList, e_mSlice, e_sRaise, e_mMake, e_callI, d_add, d_sub, d_lt, d_le, d_gt, d_ge, d_eq, d_ne, d_asB, d_not, d_asI, d_ntN, d_intOf, d_neg, d_lenL, d_lenT, d_seqL, d_seqT, d_tupL, d_tupT, p_count, p_at, p_digits, p_fold, q_count, q_at, q_digits, q_fold, List.map_cons, List.map_nil, List.length_cons, List.length_nil, List.replicate_succ, List.replicate_zero, List.cons_append, List.nil_append, List.append_nil, List.getElem?_cons_zero, List.getElem?_cons_succ, List.set_cons_zero, List.set_cons_succ, wipeR, fName, fTup, fCons, fNil, Option.bind_some, Option.map_some, reduceIte, if_true, if_false, decide_eq_true_eq, Nat.reduceAdd, Nat.reduceSub, Nat.reduceLeDiff, Nat.reduceLT, Nat.zero_le, Bool.not_true, Bool.not_false, Bool.false_eq_true, Nat.zero_add]
        rw [← q, h]
      have el : lead (x :: w) = (lead w).map (· + 1) := by rw [lead_cons, if_neg (by rw [h]; decide)]
      rw [el]
      refine ⟨fun i hi => e _ ?_, fun hi => ?_⟩
      · cases z : lead w with
        | none => rw [z] at hi; cases hi
        | some j =>
          rw [z] at hi
          cases hi
          rw [ih1 j z, Nat.add_assoc, Nat.add_comm 1 k]
      · cases z : lead w with
        | none =>
          obtain ⟨a, b, q⟩ := ih2 z
          exact ⟨a, b, e _ q⟩
        | some j => rw [z] at hi; cases hi
    · have el : lead (x :: w) = some 0 := by rw [lead_cons, if_pos h]
      rw [el]
      refine ⟨fun i hi => ?_, fun hi => by cases hi⟩
      cases hi
      rw [List.map_cons, enumF, forGo]
      simp only [h, decide_false, ↓u_bd, ↓u_toS, ↓u_seq, bind_ok, bind_err, toS_ok, toS_err, seq_nx, seq_rt, seq_err, fin_nx, fin_rt, fin_err, opt_some, slD_sh, slB_sh, slB_ow, e_mBind, e_mOk, e_mOpt, e_mVar, e_mVarB, e_mNil, e_mCons, e_m1, e_m2, e_m2O, e_mC, e_mI, e_itSeq, e_mSome, e_mAnd, e_mOr, e_mTest, e_mT2, e_mChain, e_tAnd, e_tOr, e_tNot, e_mIf, e_mTup, e_mLst, e_mD, e_mCall, e_callF, e_mPen, e_mPenC, e_sPenPut, e_penPutK, e_sSeq, e_sSet, e_sSetO, e_sRet, e_sExpr, e_sNx, e_sIf, e_runF, e_mList, e_mSlice, e_sRaise, e_mMake, e_callI, d_add, d_sub, d_lt, d_le, d_gt, d_ge, d_eq, d_ne, d_asB, d_not, d_asI, d_ntN, d_intOf, d_neg, d_lenL, d_lenT, d_seqL, d_seqT, d_tupL, d_tupT, p_count, p_at, p_digits, p_fold, q_count, q_at, q_digits, q_fold, List.map_cons, List.map_nil, List.length_cons, List.length_nil, List.replicate_succ, List.replicate_zero, List.cons_append, List.nil_append, List.append_nil, List.getElem?_cons_zero, List.getElem?_cons_succ, List.set_cons_zero, List.set_cons_succ, wipeR, fName, fTup, fCons, fNil, Option.bind_some, Option.map_some, reduceIte, if_true, if_false, decide_eq_true_eq, Nat.reduceAdd, Nat.reduceSub, Nat.reduceLeDiff, Nat.reduceLT, Nat.zero_le, Bool.not_true, Bool.not_false, Bool.false_eq_true, Nat.zero_add]
theorem ev_lead_of {w : List Int} {π : Pen} : f_lead_of [wD w] π = .ok (leadD w) π := by
  obtain ⟨h1, h2⟩ := lead_loop (d := wD w) (π := π) w 0 .no .no
  unfold leadD
  cases z : lead w with
  | some i =>
    have k := h1 i z
    simp only [f_lead_of, m_lead_of, sFor, sBind, enumA_tup, k, ↓u_bd, ↓u_toS, ↓u_seq, bind_ok, bind_err, toS_ok, toS_err, seq_nx, seq_rt, seq_err, fin_nx, fin_rt, fin_err, opt_some, slD_sh, slB_sh, slB_ow, e_mBind, e_mOk, e_mOpt, e_mVar, e_mVarB, e_mNil, e_mCons, e_m1, e_m2, e_m2O, e_mC, e_mI, e_itSeq, e_mSome, e_mAnd, e_mOr, e_mTest, e_mT2, e_mChain, e_tAnd, e_tOr, e_tNot, e_mIf, e_mTup, e_mLst, e_mD, e_mCall, e_callF, e_mPen, e_mPenC, e_sPenPut, e_penPutK, e_sSeq, e_sSet, e_sSetO, e_sRet, e_sExpr, e_sNx, e_sIf, e_runF, e_mList, e_mSlice, e_sRaise, e_mMake, e_callI, d_add, d_sub, d_lt, d_le, d_gt, d_ge, d_eq, d_ne, d_asB, d_not, d_asI, d_ntN, d_intOf, d_neg, d_lenL, d_lenT, d_seqL, d_seqT, d_tupL, d_tupT, p_count, p_at, p_digits, p_fold, q_count, q_at, q_digits, q_fold, List.map_cons, List.map_nil, List.length_cons, List.length_nil, List.replicate_succ, List.replicate_zero, List.cons_append, List.nil_append, List.append_nil, List.getElem?_cons_zero, List.getElem?_cons_succ, List.set_cons_zero, List.set_cons_succ, wipeR, fName, fTup, fCons, fNil, Option.bind_some, Option.map_some, reduceIte, if_true, if_false, decide_eq_true_eq, Nat.reduceAdd, Nat.reduceSub, Nat.reduceLeDiff, Nat.reduceLT, Nat.zero_le, Bool.not_true, Bool.not_false, Bool.false_eq_true, Nat.zero_add]
    rfl
  | none =>
    obtain ⟨a, b, k⟩ := h2 z
    simp only [f_lead_of, m_lead_of, sFor, sBind, enumA_tup, k, ↓u_bd, ↓u_toS, ↓u_seq, bind_ok, bind_err, toS_ok, toS_err, seq_nx, seq_rt, seq_err, fin_nx, fin_rt, fin_err, opt_some, slD_sh, slB_sh, slB_ow, e_mBind, e_mOk, e_mOpt, e_mVar, e_mVarB, e_mNil, e_mCons, e_m1, e_m2, e_m2O, e_mC, e_mI, e_itSeq, e_mSome, e_mAnd, e_mOr, e_mTest, e_mT2, e_mChain, e_tAnd, e_tOr, e_tNot, e_mIf, e_mTup, e_mLst, e_mD, e_mCall, e_callF, e_mPen, e_mPenC, e_sPenPut, e_penPutK, e_sSeq, e_sSet, e_sSetO, e_sRet, e_sExpr, e_sNx, e_sIf, e_runF, e_mList, e_mSlice, e_sRaise, e_mMake, e_callI, d_add, d_sub, d_lt, d_le, d_gt, d_ge, d_eq, d_ne, d_asB, d_not, d_asI, d_ntN, d_intOf, d_neg, d_lenL, d_lenT, d_seqL, d_seqT, d_tupL, d_tupT, p_count, p_at, p_digits, p_fold, q_count, q_at, q_digits, q_fold, List.map_cons, List.map_nil, List.length_cons, List.length_nil, List.replicate_succ, List.replicate_zero, List.cons_append, List.nil_append, List.append_nil, List.getElem?_cons_zero, List.getElem?_cons_succ, List.set_cons_zero, List.set_cons_succ, wipeR, fName, fTup, fCons, fNil, Option.bind_some, Option.map_some, reduceIte, if_true, if_false, decide_eq_true_eq, Nat.reduceAdd, Nat.reduceSub, Nat.reduceLeDiff, Nat.reduceLT, Nat.zero_le, Bool.not_true, Bool.not_false, Bool.false_eq_true, Nat.zero_add]
theorem ev_without_leads {p : Int} {n : Nat} {B : List (List Int)} {w : List Int} {π : Pen} (hp : P23 p) (hn : n ≤ 1000) (r : Red p n B) (hw : isW p n w) : f_without_leads [.int p, .lst (B.map wD), wD w] π = .ok (wD (wl p B w)) π := by
  have p0 := hp.pos
  have k : ∃ ρ2 π2, sFor (itSeq (mVar 1)) (fName 3) (sSeq (sSet 4 (mCall 1 f_lead_of [] (mCons (mVar 3) mNil)))
      (sIf (mT2 neD (m2 ixD (mVar 2) (mVar 4)) (mOk (.int 0))) (sSet 2 (mCall 4 f_added [] (mCons (mVar 0) (mCons (mVar 2) (mCons (mVar 3) (mCons (m2 subD (mVar 0) (m2 ixD (mVar 2) (mVar 4))) mNil)))))) sNx)) [.sh (.int p), .sh (.lst (B.map wD)), .sh (wD w), .no, .no] π = .nx ρ2 π2 ∧ π2 = π ∧ ∃ a b, ρ2 = [.sh (.int p), .sh (.lst (B.map wD)), .sh (wD (wl p B w)), a, b] := by
    refine sFor_ind B wD (fun d ρ π2 => π2 = π ∧ ∃ a b, ρ = [.sh (.int p), .sh (.lst (B.map wD)), .sh (wD (wl p d w)), a, b]) (xs := B.map wD) (π1 := π) ?_ rfl ⟨rfl, _, _, rfl⟩ fun d x rest e ρ π2 ⟨e1, a, b, e2⟩ => ?_
    · simp only [d_seqL, ↓u_bd, ↓u_toS, ↓u_seq, bind_ok, bind_err, toS_ok, toS_err, seq_nx, seq_rt, seq_err, fin_nx, fin_rt, fin_err, opt_some, slD_sh, slB_sh, slB_ow, e_mBind, e_mOk, e_mOpt, e_mVar, e_mVarB, e_mNil, e_mCons, e_m1, e_m2, e_m2O, e_mC, e_mI, e_itSeq, e_mSome, e_mAnd, e_mOr, e_mTest, e_mT2, e_mChain, e_tAnd, e_tOr, e_tNot, e_mIf, e_mTup, e_mLst, e_mD, e_mCall, e_callF, e_mPen, e_mPenC, e_sPenPut, e_penPutK, e_sSeq, e_sSet, e_sSetO, e_sRet, e_sExpr, e_sNx, e_sIf, e_runF, e_mList, e_mSlice, e_sRaise, e_mMake, e_callI, d_add, d_sub, d_lt, d_le, d_gt, d_ge, d_eq, d_ne, d_asB, d_not, d_asI, d_ntN, d_intOf, d_neg, d_lenL, d_lenT, d_seqL, d_seqT, d_tupL, d_tupT, p_count, p_at, p_digits, p_fold, q_count, q_at, q_digits, q_fold, List.map_cons, List.map_nil, List.length_cons, List.length_nil, List.replicate_succ, List.replicate_zero, List.cons_append, List.nil_append, List.append_nil, List.getElem?_cons_zero, List.getElem?_cons_succ, List.set_cons_zero, List.set_cons_succ, wipeR, fName, fTup, fCons, fNil, Option.bind_some, Option.map_some, reduceIte, if_true, if_false, decide_eq_true_eq, Nat.reduceAdd, Nat.reduceSub, Nat.reduceLeDiff, Nat.reduceLT, Nat.zero_le, Bool.not_true, Bool.not_false, Bool.false_eq_true, Nat.zero_add]
    · subst e1 e2
      have hx : x ∈ B := by rw [e]; simp
      have wd : Rows p n d := fun c hc => r.w c (by rw [e]; simp [hc])
      have wv := wl_w p0 wd hw
      have wx := r.w x hx
      obtain ⟨l1, l2⟩ := r.leadN hx
      have ll := lead_lt l1
      have eL : leadD x = .int (leadN x) := by unfold leadD; rw [l1]
      have ix : ixD (wD (wl p d w)) (.int (leadN x)) = some (.int (gt (wl p d w) (leadN x))) := ixD_w (by rw [wv.1, ← wx.1]; exact ll)
      have g := wv.gt p0 (leadN x)
      have ew : wl p (d ++ [x]) w = wl1 p (wl p d w) x := by unfold wl; rw [List.foldl_append]; rfl
      have e1 : wl1 p (wl p d w) x = if gt (wl p d w) (leadN x) ≠ 0 then addw p (wl p d w) x (p - gt (wl p d w) (leadN x)) else wl p d w := by
        unfold wl1; simp only [l1]
      rw [ew, e1]
      by_cases c : gt (wl p d w) (leadN x) = 0
      · rw [if_neg (by rw [c]; decide)]
        refine ⟨_, rfl, [.sh (.int p), .sh (.lst (B.map wD)), .sh (wD (wl p d w)), .sh (wD x), .sh (.int (leadN x))], π2, .inl ?_, rfl, _, _, rfl⟩
        simp only [ev_lead_of, eL, ix, c, decide_true, ↓u_bd, ↓u_toS, ↓u_seq, bind_ok, bind_err, toS_ok, toS_err, seq_nx, seq_rt, seq_err, fin_nx, fin_rt, fin_err, opt_some, slD_sh, slB_sh, slB_ow, e_mBind, e_mOk, e_mOpt, e_mVar, e_mVarB, e_mNil, e_mCons, e_m1, e_m2, e_m2O, e_mC, e_mI, e_itSeq, e_mSome, e_mAnd, e_mOr, e_mTest, e_mT2, e_mChain, e_tAnd, e_tOr, e_tNot, e_mIf, e_mTup, e_mLst, e_mD, e_mCall, e_callF, e_mPen, e_mPenC, e_sPenPut, e_penPutK, e_sSeq, e_sSet, e_sSetO, e_sRet, e_sExpr, e_sNx, e_sIf, e_runF, e_mList, e_mSlice, e_sRaise, e_mMake, e_callI, d_add, d_sub, d_lt, d_le, d_gt, d_ge, d_eq, d_ne, d_asB, d_not, d_asI, d_ntN, d_intOf, d_neg, d_lenL, d_lenT, d_seqL, d_seqT, d_tupL, d_tupT, p_count, p_at, p_digits, p_fold, q_count, q_at, q_digits, q_fold, List.map_cons, List.map_nil, List.length_cons, List.length_nil, List.replicate_succ, List.replicate_zero, List.cons_append, List.nil_append, List.append_nil, List.getElem?_cons_zero, List.getElem?_cons_succ, List.set_cons_zero, List.set_cons_succ, wipeR, fName, fTup, fCons, fNil, Option.bind_some, Option.map_some, reduceIte, if_true, if_false, decide_eq_true_eq, Nat.reduceAdd, Nat.reduceSub, Nat.reduceLeDiff, Nat.reduceLT, Nat.zero_le, Bool.not_true, Bool.not_false, Bool.false_eq_true, Nat.zero_add]
      · have ad := ev_added (p := p) (t := p - gt (wl p d w) (leadN x)) (a := wl p d w) (b := x) (π := π2) p0 (by rcases hp with rfl | rfl <;> omega) (isW_small wx hp) (sl24 (by rw [wv.1]; omega))
        rw [if_pos c]
        refine ⟨_, rfl, [.sh (.int p), .sh (.lst (B.map wD)), .sh (wD (addw p (wl p d w) x (p - gt (wl p d w) (leadN x)))), .sh (wD x), .sh (.int (leadN x))], π2, .inl ?_, rfl, _, _, rfl⟩
        simp only [ev_lead_of, eL, ix, c, decide_false, ad, ↓u_bd, ↓u_toS, ↓u_seq, bind_ok, bind_err, toS_ok, toS_err, seq_nx, seq_rt, seq_err, fin_nx, fin_rt, fin_err, opt_some, slD_sh, slB_sh, slB_ow, e_mBind, e_mOk, e_mOpt, e_mVar, e_mVarB, e_mNil, e_mCons, e_m1, e_m2, e_m2O, e_mC, e_mI, e_itSeq, e_mSome, e_mAnd, e_mOr, e_mTest, e_mT2, e_mChain, e_tAnd, e_tOr, e_tNot, e_mIf, e_mTup, e_mLst, e_mD, e_mCall, e_callF, e_mPen, e_mPenC, e_sPenPut, e_penPutK, e_sSeq, e_sSet, e_sSetO, e_sRet, e_sExpr, e_sNx, e_sIf, e_runF, e_mList, e_mSlice, e_sRaise, e_mMake, e_callI, d_add, d_sub, d_lt, d_le, d_gt, d_ge, d_eq, d_ne, d_asB, d_not, d_asI, d_ntN, d_intOf, d_neg, d_lenL, d_lenT, d_seqL, d_seqT, d_tupL, d_tupT, p_count, p_at, p_digits, p_fold, q_count, q_at, q_digits, q_fold, List.map_cons, List.map_nil, List.length_cons, List.length_nil, List.replicate_succ, List.replicate_zero, List.cons_append, List.nil_append, List.append_nil, List.getElem?_cons_zero, List.getElem?_cons_succ, List.set_cons_zero, List.set_cons_succ, wipeR, fName, fTup, fCons, fNil, Option.bind_some, Option.map_some, reduceIte, if_true, if_false, decide_eq_true_eq, Nat.reduceAdd, Nat.reduceSub, Nat.reduceLeDiff, Nat.reduceLT, Nat.zero_le, Bool.not_true, Bool.not_false, Bool.false_eq_true, Nat.zero_add]
  obtain ⟨ρ2, π2, k1, rfl, a, b, rfl⟩ := k
  simp only [f_without_leads, m_without_leads, k1, ↓u_bd, ↓u_toS, ↓u_seq, bind_ok, bind_err, toS_ok, toS_err, seq_nx, seq_rt, seq_err, fin_nx, fin_rt, fin_err, opt_some, slD_sh, slB_sh, slB_ow, e_mBind, e_mOk, e_mOpt, e_mVar, e_mVarB, e_mNil, e_mCons, e_m1, e_m2, e_m2O, e_mC, e_mI, e_itSeq, e_mSome, e_mAnd, e_mOr, e_mTest, e_mT2, e_mChain, e_tAnd, e_tOr, e_tNot, e_mIf, e_mTup, e_mLst, e_mD, e_mCall, e_callF, e_mPen, e_mPenC, e_sPenPut, e_penPutK, e_sSeq, e_sSet, e_sSetO, e_sRet, e_sExpr, e_sNx, e_sIf, e_runF, e_mList, e_mSlice, e_sRaise, e_mMake, e_callI, d_add, d_sub, d_lt, d_le, d_gt, d_ge, d_eq, d_ne, d_asB, d_not, d_asI, d_ntN, d_intOf, d_neg, d_lenL, d_lenT, d_seqL, d_seqT, d_tupL, d_tupT, p_count, p_at, p_digits, p_fold, q_count, q_at, q_digits, q_fold, List.map_cons, List.map_nil, List.length_cons, List.length_nil, List.replicate_succ, List.replicate_zero, List.cons_append, List.nil_append, List.append_nil, List.getElem?_cons_zero, List.getElem?_cons_succ, List.set_cons_zero, List.set_cons_succ, wipeR, fName, fTup, fCons, fNil, Option.bind_some, Option.map_some, reduceIte, if_true, if_false, decide_eq_true_eq, Nat.reduceAdd, Nat.reduceSub, Nat.reduceLeDiff, Nat.reduceLT, Nat.zero_le, Bool.not_true, Bool.not_false, Bool.false_eq_true, Nat.zero_add]
theorem ev_stepped {p : Int} {n : Nat} {c : Bool} {rows : List (Bool × List Int)} {π : Pen} (hp : P23 p) (hn : n ≤ 1000) (hr : Rows p n (rows.map (·.2))) (hz : rows.length ≤ 1000) :
    f_stepped [.int p, rowsD c (rows.map rowD)] π = .ok (.tup ((byLead (steps p (rows.map (·.2)))).map wD)) π := by
  have p0 := hp.pos
  simp only [f_stepped, m_stepped, ↓u_bd, ↓u_toS, ↓u_seq, bind_ok, bind_err, toS_ok, toS_err, seq_nx, seq_rt, seq_err, fin_nx, fin_rt, fin_err, opt_some, slD_sh, slB_sh, slB_ow, e_mBind, e_mOk, e_mOpt, e_mVar, e_mVarB, e_mNil, e_mCons, e_m1, e_m2, e_m2O, e_mC, e_mI, e_itSeq, e_mSome, e_mAnd, e_mOr, e_mTest, e_mT2, e_mChain, e_tAnd, e_tOr, e_tNot, e_mIf, e_mTup, e_mLst, e_mD, e_mCall, e_callF, e_mPen, e_mPenC, e_sPenPut, e_penPutK, e_sSeq, e_sSet, e_sSetO, e_sRet, e_sExpr, e_sNx, e_sIf, e_runF, e_mList, e_mSlice, e_sRaise, e_mMake, e_callI, d_add, d_sub, d_lt, d_le, d_gt, d_ge, d_eq, d_ne, d_asB, d_not, d_asI, d_ntN, d_intOf, d_neg, d_lenL, d_lenT, d_seqL, d_seqT, d_tupL, d_tupT, p_count, p_at, p_digits, p_fold, q_count, q_at, q_digits, q_fold, List.map_cons, List.map_nil, List.length_cons, List.length_nil, List.replicate_succ, List.replicate_zero, List.cons_append, List.nil_append, List.append_nil, List.getElem?_cons_zero, List.getElem?_cons_succ, List.set_cons_zero, List.set_cons_succ, wipeR, fName, fTup, fCons, fNil, Option.bind_some, Option.map_some, reduceIte, if_true, if_false, decide_eq_true_eq, Nat.reduceAdd, Nat.reduceSub, Nat.reduceLeDiff, Nat.reduceLT, Nat.zero_le, Bool.not_true, Bool.not_false, Bool.false_eq_true, Nat.zero_add]
  refine for_then (fun o => o.fin = _) rows rowD (fun d ρ π2 => π2 = π ∧ ∃ a b e, ρ = [.sh (.int p), .sh (rowsD c (rows.map rowD)), .sh (.lst ((steps p (d.map (·.2))).map wD)), a, b, e]) (xs := rows.map rowD) (π1 := π) ?_ rfl ⟨rfl, _, _, _, rfl⟩ (fun d x rest e ρ π2 ⟨e1, a, b, e2⟩ => ?_) (fun ρ2 π2 ⟨e1, a, b, e, e2⟩ => ?_)
  · simp only [seqOf_rows, ↓u_bd, ↓u_toS, ↓u_seq, bind_ok, bind_err, toS_ok, toS_err, seq_nx, seq_rt, seq_err, fin_nx, fin_rt, fin_err, opt_some, slD_sh, slB_sh, slB_ow, e_mBind, e_mOk, e_mOpt, e_mVar, e_mVarB, e_mNil, e_mCons, e_m1, e_m2, e_m2O, e_mC, e_mI, e_itSeq, e_mSome, e_mAnd, e_mOr, e_mTest, e_mT2, e_mChain, e_tAnd, e_tOr, e_tNot, e_mIf, e_mTup, e_mLst, e_mD, e_mCall, e_callF, e_mPen, e_mPenC, e_sPenPut, e_penPutK, e_sSeq, e_sSet, e_sSetO, e_sRet, e_sExpr, e_sNx, e_sIf, e_runF, e_mList, e_mSlice, e_sRaise, e_mMake, e_callI, d_add, d_sub, d_lt, d_le, d_gt, d_ge, d_eq, d_ne, d_asB, d_not, d_asI, d_ntN, d_intOf, d_neg, d_lenL, d_lenT, d_seqL, d_seqT, d_tupL, d_tupT, p_count, p_at, p_digits, p_fold, q_count, q_at, q_digits, q_fold, List.map_cons, List.map_nil, List.length_cons, List.length_nil, List.replicate_succ, List.replicate_zero, List.cons_append, List.nil_append, List.append_nil, List.getElem?_cons_zero, List.getElem?_cons_succ, List.set_cons_zero, List.set_cons_succ, wipeR, fName, fTup, fCons, fNil, Option.bind_some, Option.map_some, reduceIte, if_true, if_false, decide_eq_true_eq, Nat.reduceAdd, Nat.reduceSub, Nat.reduceLeDiff, Nat.reduceLT, Nat.zero_le, Bool.not_true, Bool.not_false, Bool.false_eq_true, Nat.zero_add]
  · obtain ⟨z, rfl⟩ := e2
    subst e1
    have hx : isW p n x.2 := hr _ (List.mem_map.mpr ⟨x, by rw [e]; simp, rfl⟩)
    have hd : Rows p n (d.map (·.2)) := fun q hq => by
      obtain ⟨y, hy, rfl⟩ := List.mem_map.mp hq
      exact hr _ (List.mem_map.mpr ⟨y, by rw [e]; simp [hy], rfl⟩)
    have rd := (steps_ok hp hd).1
    have ln := steps_len (n := n) hp (d.map (·.2))
    have dl : d.length ≤ 1000 := by
      have := congrArg List.length e
      rw [List.length_append] at this
      omega
    rw [List.length_map] at ln
    have es : steps p ((d ++ [x]).map (·.2)) = step1 p (steps p (d.map (·.2))) x.2 := by
      unfold steps; rw [List.map_append, List.foldl_append]; rfl
    rw [es]
    generalize steps p (d.map (·.2)) = B at *
    have wv := wl_w p0 rd.w hx
    have wl1 := ev_without_leads (π := π2) hp hn rd hx
    unfold step1
    simp only
    cases ld : lead (wl p B x.2) with
    | none =>
      refine ⟨_, rfl, [.sh (.int p), .sh (rowsD c (rows.map rowD)), .sh (.lst (B.map wD)), .sh (wD (wl p B x.2)), .sh .non, z], π2, .inl ?_, rfl, _, _, _, rfl⟩
      simp only [tup_row, wl1, ev_lead_of, leadD, ld, D.isNon, ↓u_bd, ↓u_toS, ↓u_seq, bind_ok, bind_err, toS_ok, toS_err, seq_nx, seq_rt, seq_err, fin_nx, fin_rt, fin_err, opt_some, slD_sh, slB_sh, slB_ow, e_mBind, e_mOk, e_mOpt, e_mVar, e_mVarB, e_mNil, e_mCons, e_m1, e_m2, e_m2O, e_mC, e_mI, e_itSeq, e_mSome, e_mAnd, e_mOr, e_mTest, e_mT2, e_mChain, e_tAnd, e_tOr, e_tNot, e_mIf, e_mTup, e_mLst, e_mD, e_mCall, e_callF, e_mPen, e_mPenC, e_sPenPut, e_penPutK, e_sSeq, e_sSet, e_sSetO, e_sRet, e_sExpr, e_sNx, e_sIf, e_runF, e_mList, e_mSlice, e_sRaise, e_mMake, e_callI, d_add, d_sub, d_lt, d_le, d_gt, d_ge, d_eq, d_ne, d_asB, d_not, d_asI, d_ntN, d_intOf, d_neg, d_lenL, d_lenT, d_seqL, d_seqT, d_tupL, d_tupT, p_count, p_at, p_digits, p_fold, q_count, q_at, q_digits, q_fold, List.map_cons, List.map_nil, List.length_cons, List.length_nil, List.replicate_succ, List.replicate_zero, List.cons_append, List.nil_append, List.append_nil, List.getElem?_cons_zero, List.getElem?_cons_succ, List.set_cons_zero, List.set_cons_succ, wipeR, fName, fTup, fCons, fNil, Option.bind_some, Option.map_some, reduceIte, if_true, if_false, decide_eq_true_eq, Nat.reduceAdd, Nat.reduceSub, Nat.reduceLeDiff, Nat.reduceLT, Nat.zero_le, Bool.not_true, Bool.not_false, Bool.false_eq_true, Nat.zero_add]
    | some i =>
      dsimp only
      have li := lead_lt ld
      have gi := wv.gt p0 i
      have ix : ixD (wD (wl p B x.2)) (.int i) = some (.int (gt (wl p B x.2) i)) := ixD_w li
      have ml := ev_multiple (p := p) (t := gt (wl p B x.2) i) (a := wl p B x.2) (π := π2) p0 (by rcases hp with rfl | rfl <;> omega) (isW_small wv hp) (sl24 (by rw [wv.1]; omega))
      have wu : isW p n (mulw p (wl p B x.2) (gt (wl p B x.2) i)) := by
        rw [mulw_eq wv.1]; exact isW_addw p0 (isW_zero p0).1 wv.1
      generalize mulw p (wl p B x.2) (gt (wl p B x.2) i) = u at *
      refine ⟨_, rfl, [.sh (.int p), .sh (rowsD c (rows.map rowD)), .sh (.lst ((B.map (fun b => addw p b u (p - gt b i)) ++ [u]).map wD)), .sh (wD u), .sh (.int i), z], π2, .inl ?_, rfl, _, _, _, rfl⟩
      have k : ∀ z, mLc (itSeq (mVar 2)) (fName 5) (mOk true) (mCall 4 f_added [] (mCons (mVar 0) (mCons (mVar 5) (mCons (mVar 3) (mCons (m2 subD (mVar 0) (m2 ixD (mVar 5) (mVar 4))) mNil))))) [5] [.sh (.int p), .sh (rowsD c (rows.map rowD)), .sh (.lst (B.map wD)), .sh (wD u), .sh (.int i), z] π2 = .ok (.lst (B.map fun b => wD (addw p b u (p - gt b i)))) π2 := fun z => by
        refine mLc_all B wD (fun b => wD (addw p b u (p - gt b i))) (xs := B.map wD) ?_ rfl (sl24 (by omega)) fun b hb => ⟨_, rfl, ?_⟩
        · simp only [d_seqL, ↓u_bd, ↓u_toS, ↓u_seq, bind_ok, bind_err, toS_ok, toS_err, seq_nx, seq_rt, seq_err, fin_nx, fin_rt, fin_err, opt_some, slD_sh, slB_sh, slB_ow, e_mBind, e_mOk, e_mOpt, e_mVar, e_mVarB, e_mNil, e_mCons, e_m1, e_m2, e_m2O, e_mC, e_mI, e_itSeq, e_mSome, e_mAnd, e_mOr, e_mTest, e_mT2, e_mChain, e_tAnd, e_tOr, e_tNot, e_mIf, e_mTup, e_mLst, e_mD, e_mCall, e_callF, e_mPen, e_mPenC, e_sPenPut, e_penPutK, e_sSeq, e_sSet, e_sSetO, e_sRet, e_sExpr, e_sNx, e_sIf, e_runF, e_mList, e_mSlice, e_sRaise, e_mMake, e_callI, d_add, d_sub, d_lt, d_le, d_gt, d_ge, d_eq, d_ne, d_asB, d_not, d_asI, d_ntN, d_intOf, d_neg, d_lenL, d_lenT, d_seqL, d_seqT, d_tupL, d_tupT, p_count, p_at, p_digits, p_fold, q_count, q_at, q_digits, q_fold, List.map_cons, List.map_nil, List.length_cons, List.length_nil, List.replicate_succ, List.replicate_zero, List.cons_append, List.nil_append, List.append_nil, List.getElem?_cons_zero, List.getElem?_cons_succ, List.set_cons_zero, List.set_cons_succ, wipeR, fName, fTup, fCons, fNil, Option.bind_some, Option.map_some, reduceIte, if_true, if_false, decide_eq_true_eq, Nat.reduceAdd, Nat.reduceSub, Nat.reduceLeDiff, Nat.reduceLT, Nat.zero_le, Bool.not_true, Bool.not_false, Bool.false_eq_true, Nat.zero_add]
        · have wb := rd.w b hb
          have gb := wb.gt p0 i
          have ixb : ixD (wD b) (.int i) = some (.int (gt b i)) := ixD_w (by rw [wb.1, ← wv.1]; exact li)
          have ad := ev_added (p := p) (t := p - gt b i) (a := b) (b := u) (π := π2) p0 (by rcases hp with rfl | rfl <;> omega) (isW_small wu hp) (sl24 (by rw [wb.1]; omega))
          simp only [ixb, ad, ↓u_bd, ↓u_toS, ↓u_seq, bind_ok, bind_err, toS_ok, toS_err, seq_nx, seq_rt, seq_err, fin_nx, fin_rt, fin_err, opt_some, slD_sh, slB_sh, slB_ow, e_mBind, e_mOk, e_mOpt, e_mVar, e_mVarB, e_mNil, e_mCons, e_m1, e_m2, e_m2O, e_mC, e_mI, e_itSeq, e_mSome, e_mAnd, e_mOr, e_mTest, e_mT2, e_mChain, e_tAnd, e_tOr, e_tNot, e_mIf, e_mTup, e_mLst, e_mD, e_mCall, e_callF, e_mPen, e_mPenC, e_sPenPut, e_penPutK, e_sSeq, e_sSet, e_sSetO, e_sRet, e_sExpr, e_sNx, e_sIf, e_runF, e_mList, e_mSlice, e_sRaise, e_mMake, e_callI, d_add, d_sub, d_lt, d_le, d_gt, d_ge, d_eq, d_ne, d_asB, d_not, d_asI, d_ntN, d_intOf, d_neg, d_lenL, d_lenT, d_seqL, d_seqT, d_tupL, d_tupT, p_count, p_at, p_digits, p_fold, q_count, q_at, q_digits, q_fold, List.map_cons, List.map_nil, List.length_cons, List.length_nil, List.replicate_succ, List.replicate_zero, List.cons_append, List.nil_append, List.append_nil, List.getElem?_cons_zero, List.getElem?_cons_succ, List.set_cons_zero, List.set_cons_succ, wipeR, fName, fTup, fCons, fNil, Option.bind_some, Option.map_some, reduceIte, if_true, if_false, decide_eq_true_eq, Nat.reduceAdd, Nat.reduceSub, Nat.reduceLeDiff, Nat.reduceLT, Nat.zero_le, Bool.not_true, Bool.not_false, Bool.false_eq_true, Nat.zero_add]
      have ap := d_addL (l := B.map fun b => wD (addw p b u (p - gt b i))) (m := [wD u]) (sl24 (by rw [List.length_map]; simp; omega))
      simp only [tup_row, wl1, ev_lead_of, leadD, ld, D.isNon, ix, ml, k, Own.D, ap, ↓u_bd, ↓u_toS, ↓u_seq, bind_ok, bind_err, toS_ok, toS_err, seq_nx, seq_rt, seq_err, fin_nx, fin_rt, fin_err, opt_some, slD_sh, slB_sh, slB_ow, e_mBind, e_mOk, e_mOpt, e_mVar, e_mVarB, e_mNil, e_mCons, e_m1, e_m2, e_m2O, e_mC, e_mI, e_itSeq, e_mSome, e_mAnd, e_mOr, e_mTest, e_mT2, e_mChain, e_tAnd, e_tOr, e_tNot, e_mIf, e_mTup, e_mLst, e_mD, e_mCall, e_callF, e_mPen, e_mPenC, e_sPenPut, e_penPutK, e_sSeq, e_sSet, e_sSetO, e_sRet, e_sExpr, e_sNx, e_sIf, e_runF, e_mList, e_mSlice, e_sRaise, e_mMake, e_callI, d_add, d_sub, d_lt, d_le, d_gt, d_ge, d_eq, d_ne, d_asB, d_not, d_asI, d_ntN, d_intOf, d_neg, d_lenL, d_lenT, d_seqL, d_seqT, d_tupL, d_tupT, p_count, p_at, p_digits, p_fold, q_count, q_at, q_digits, q_fold, List.map_cons, List.map_nil, List.length_cons, List.length_nil, List.replicate_succ, List.replicate_zero, List.cons_append, List.nil_append, List.append_nil, List.getElem?_cons_zero, List.getElem?_cons_succ, List.set_cons_zero, List.set_cons_succ, wipeR, fName, fTup, fCons, fNil, Option.bind_some, Option.map_some, reduceIte, if_true, if_false, decide_eq_true_eq, Nat.reduceAdd, Nat.reduceSub, Nat.reduceLeDiff, Nat.reduceLT, Nat.zero_le, Bool.not_true, Bool.not_false, Bool.false_eq_true, Nat.zero_add]
      rw [List.map_append, List.map_map]
      rfl
  · subst e1 e2
    have rd := (steps_ok hp hr).1
    have ln := steps_len (n := n) hp (rows.map (·.2))
    rw [List.length_map] at ln
    generalize steps p (rows.map (·.2)) = B at *
    have k1 : mLc (itSeq (mVar 2)) (fName 5) (mOk true) (mTup (mCons (mCall 1 f_lead_of [] (mCons (mVar 5) mNil)) (mCons (mVar 5) mNil))) [5] [.sh (.int p), .sh (rowsD c (rows.map rowD)), .sh (.lst (B.map wD)), a, b, e] π2 = .ok (.lst (B.map fun b => pD (leadN b, b))) π2 := by
      refine mLc_all B wD (fun b => pD (leadN b, b)) (xs := B.map wD) ?_ rfl (sl24 (by omega)) fun b hb => ⟨_, rfl, ?_⟩
      · simp only [d_seqL, ↓u_bd, ↓u_toS, ↓u_seq, bind_ok, bind_err, toS_ok, toS_err, seq_nx, seq_rt, seq_err, fin_nx, fin_rt, fin_err, opt_some, slD_sh, slB_sh, slB_ow, e_mBind, e_mOk, e_mOpt, e_mVar, e_mVarB, e_mNil, e_mCons, e_m1, e_m2, e_m2O, e_mC, e_mI, e_itSeq, e_mSome, e_mAnd, e_mOr, e_mTest, e_mT2, e_mChain, e_tAnd, e_tOr, e_tNot, e_mIf, e_mTup, e_mLst, e_mD, e_mCall, e_callF, e_mPen, e_mPenC, e_sPenPut, e_penPutK, e_sSeq, e_sSet, e_sSetO, e_sRet, e_sExpr, e_sNx, e_sIf, e_runF, e_mList, e_mSlice, e_sRaise, e_mMake, e_callI, d_add, d_sub, d_lt, d_le, d_gt, d_ge, d_eq, d_ne, d_asB, d_not, d_asI, d_ntN, d_intOf, d_neg, d_lenL, d_lenT, d_seqL, d_seqT, d_tupL, d_tupT, p_count, p_at, p_digits, p_fold, q_count, q_at, q_digits, q_fold, List.map_cons, List.map_nil, List.length_cons, List.length_nil, List.replicate_succ, List.replicate_zero, List.cons_append, List.nil_append, List.append_nil, List.getElem?_cons_zero, List.getElem?_cons_succ, List.set_cons_zero, List.set_cons_succ, wipeR, fName, fTup, fCons, fNil, Option.bind_some, Option.map_some, reduceIte, if_true, if_false, decide_eq_true_eq, Nat.reduceAdd, Nat.reduceSub, Nat.reduceLeDiff, Nat.reduceLT, Nat.zero_le, Bool.not_true, Bool.not_false, Bool.false_eq_true, Nat.zero_add]
      · have eL : leadD b = .int (leadN b) := by unfold leadD; rw [(rd.leadN hb).1]
        simp only [ev_lead_of, eL, ↓u_bd, ↓u_toS, ↓u_seq, bind_ok, bind_err, toS_ok, toS_err, seq_nx, seq_rt, seq_err, fin_nx, fin_rt, fin_err, opt_some, slD_sh, slB_sh, slB_ow, e_mBind, e_mOk, e_mOpt, e_mVar, e_mVarB, e_mNil, e_mCons, e_m1, e_m2, e_m2O, e_mC, e_mI, e_itSeq, e_mSome, e_mAnd, e_mOr, e_mTest, e_mT2, e_mChain, e_tAnd, e_tOr, e_tNot, e_mIf, e_mTup, e_mLst, e_mD, e_mCall, e_callF, e_mPen, e_mPenC, e_sPenPut, e_penPutK, e_sSeq, e_sSet, e_sSetO, e_sRet, e_sExpr, e_sNx, e_sIf, e_runF, e_mList, e_mSlice, e_sRaise, e_mMake, e_callI, d_add, d_sub, d_lt, d_le, d_gt, d_ge, d_eq, d_ne, d_asB, d_not, d_asI, d_ntN, d_intOf, d_neg, d_lenL, d_lenT, d_seqL, d_seqT, d_tupL, d_tupT, p_count, p_at, p_digits, p_fold, q_count, q_at, q_digits, q_fold, List.map_cons, List.map_nil, List.length_cons, List.length_nil, List.replicate_succ, List.replicate_zero, List.cons_append, List.nil_append, List.append_nil, List.getElem?_cons_zero, List.getElem?_cons_succ, List.set_cons_zero, List.set_cons_succ, wipeR, fName, fTup, fCons, fNil, Option.bind_some, Option.map_some, reduceIte, if_true, if_false, decide_eq_true_eq, Nat.reduceAdd, Nat.reduceSub, Nat.reduceLeDiff, Nat.reduceLT, Nat.zero_le, Bool.not_true, Bool.not_false, Bool.false_eq_true, Nat.zero_add]
    have e3 : (B.map fun b => pD (leadN b, b)) = (B.map fun b => (leadN b, b)).map pD := by rw [List.map_map]; rfl
    rw [e3] at k1
    have hl : ((B.map fun b => (leadN b, b)).mergeSort leP).length ≤ sizeLine := sl24 (by rw [List.length_mergeSort, List.length_map]; omega)
    simp only [↓u_bd, ↓u_toS, ↓u_seq, bind_ok, bind_err, toS_ok, toS_err, seq_nx, seq_rt, seq_err, fin_nx, fin_rt, fin_err, opt_some, slD_sh, slB_sh, slB_ow, e_mBind, e_mOk, e_mOpt, e_mVar, e_mVarB, e_mNil, e_mCons, e_m1, e_m2, e_m2O, e_mC, e_mI, e_itSeq, e_mSome, e_mAnd, e_mOr, e_mTest, e_mT2, e_mChain, e_tAnd, e_tOr, e_tNot, e_mIf, e_mTup, e_mLst, e_mD, e_mCall, e_callF, e_mPen, e_mPenC, e_sPenPut, e_penPutK, e_sSeq, e_sSet, e_sSetO, e_sRet, e_sExpr, e_sNx, e_sIf, e_runF, e_mList, e_mSlice, e_sRaise, e_mMake, e_callI, d_add, d_sub, d_lt, d_le, d_gt, d_ge, d_eq, d_ne, d_asB, d_not, d_asI, d_ntN, d_intOf, d_neg, d_lenL, d_lenT, d_seqL, d_seqT, d_tupL, d_tupT, p_count, p_at, p_digits, p_fold, q_count, q_at, q_digits, q_fold, List.map_cons, List.map_nil, List.length_cons, List.length_nil, List.replicate_succ, List.replicate_zero, List.cons_append, List.nil_append, List.append_nil, List.getElem?_cons_zero, List.getElem?_cons_succ, List.set_cons_zero, List.set_cons_succ, wipeR, fName, fTup, fCons, fNil, Option.bind_some, Option.map_some, reduceIte, if_true, if_false, decide_eq_true_eq, Nat.reduceAdd, Nat.reduceSub, Nat.reduceLeDiff, Nat.reduceLT, Nat.zero_le, Bool.not_true, Bool.not_false, Bool.false_eq_true, Nat.zero_add]
    rw [mLc_all ((B.map fun b => (leadN b, b)).mergeSort leP) pD (fun q => wD q.2) (xs := ((B.map fun b => (leadN b, b)).mergeSort leP).map pD) (π1 := π2) ?h1 rfl hl ?h2]
    case h1 => simp only [k1, Own.D, sortD_p, ↓u_bd, ↓u_toS, ↓u_seq, bind_ok, bind_err, toS_ok, toS_err, seq_nx, seq_rt, seq_err, fin_nx, fin_rt, fin_err, opt_some, slD_sh, slB_sh, slB_ow, e_mBind, e_mOk, e_mOpt, e_mVar, e_mVarB, e_mNil, e_mCons, e_m1, e_m2, e_m2O, e_mC, e_mI, e_itSeq, e_mSome, e_mAnd, e_mOr, e_mTest, e_mT2, e_mChain, e_tAnd, e_tOr, e_tNot, e_mIf, e_mTup, e_mLst, e_mD, e_mCall, e_callF, e_mPen, e_mPenC, e_sPenPut, e_penPutK, e_sSeq, e_sSet, e_sSetO, e_sRet, e_sExpr, e_sNx, e_sIf, e_runF, e_mList, e_mSlice, e_sRaise, e_mMake, e_callI, d_add, d_sub, d_lt, d_le, d_gt, d_ge, d_eq, d_ne, d_asB, d_not, d_asI, d_ntN, d_intOf, d_neg, d_lenL, d_lenT, d_seqL, d_seqT, d_tupL, d_tupT, p_count, p_at, p_digits, p_fold, q_count, q_at, q_digits, q_fold, List.map_cons, List.map_nil, List.length_cons, List.length_nil, List.replicate_succ, List.replicate_zero, List.cons_append, List.nil_append, List.append_nil, List.getElem?_cons_zero, List.getElem?_cons_succ, List.set_cons_zero, List.set_cons_succ, wipeR, fName, fTup, fCons, fNil, Option.bind_some, Option.map_some, reduceIte, if_true, if_false, decide_eq_true_eq, Nat.reduceAdd, Nat.reduceSub, Nat.reduceLeDiff, Nat.reduceLT, Nat.zero_le, Bool.not_true, Bool.not_false, Bool.false_eq_true, Nat.zero_add]
    case h2 => exact fun q hq => ⟨_, rfl, rfl⟩
    simp only [Own.D, ↓u_bd, ↓u_toS, ↓u_seq, bind_ok, bind_err, toS_ok, toS_err, seq_nx, seq_rt, seq_err, fin_nx, fin_rt, fin_err, opt_some, slD_sh, slB_sh, slB_ow, e_mBind, e_mOk, e_mOpt, e_mVar, e_mVarB, e_mNil, e_mCons, e_m1, e_m2, e_m2O, e_mC, e_mI, e_itSeq, e_mSome, e_mAnd, e_mOr, e_mTest, e_mT2, e_mChain, e_tAnd, e_tOr, e_tNot, e_mIf, e_mTup, e_mLst, e_mD, e_mCall, e_callF, e_mPen, e_mPenC, e_sPenPut, e_penPutK, e_sSeq, e_sSet, e_sSetO, e_sRet, e_sExpr, e_sNx, e_sIf, e_runF, e_mList, e_mSlice, e_sRaise, e_mMake, e_callI, d_add, d_sub, d_lt, d_le, d_gt, d_ge, d_eq, d_ne, d_asB, d_not, d_asI, d_ntN, d_intOf, d_neg, d_lenL, d_lenT, d_seqL, d_seqT, d_tupL, d_tupT, p_count, p_at, p_digits, p_fold, q_count, q_at, q_digits, q_fold, List.map_cons, List.map_nil, List.length_cons, List.length_nil, List.replicate_succ, List.replicate_zero, List.cons_append, List.nil_append, List.append_nil, List.getElem?_cons_zero, List.getElem?_cons_succ, List.set_cons_zero, List.set_cons_succ, wipeR, fName, fTup, fCons, fNil, Option.bind_some, Option.map_some, reduceIte, if_true, if_false, decide_eq_true_eq, Nat.reduceAdd, Nat.reduceSub, Nat.reduceLeDiff, Nat.reduceLT, Nat.zero_le, Bool.not_true, Bool.not_false, Bool.false_eq_true, Nat.zero_add]
    unfold byLead
    rw [List.map_map]
    rfl
def codeD (p : Int) (n : Nat) (B : List (List Int)) : D := .obj "Code" ["p", "n", "basis", "size"] [.int p, .int n, .tup (B.map wD), .int B.length]
theorem fld_p : fldD CS "p" (codeD p n B) = some (.int p) := rfl
theorem fld_n : fldD CS "n" (codeD p n B) = some (.int n) := rfl
theorem fld_b : fldD CS "basis" (codeD p n B) = some (.tup (B.map wD)) := rfl
theorem fld_s : fldD CS "size" (codeD p n B) = some (.int B.length) := rfl
theorem isC_code : isC CS "Code" (codeD p n B) = some (.bl true) := rfl
theorem d_in23 {i : Int} : ninD (.int i) (.tup [.int 2, .int 3]) = some (.bl (!(decide (2 = i) || decide (3 = i)))) := by
  show some (D.bl (!([D.int 2, D.int 3].any fun z => D.eqv z (.int i)))) = _
  rw [List.any_cons, List.any_cons, List.any_nil, Bool.or_false]
  rfl
theorem ev_int_int {i : Int} {π : Pen} : f_is_integer [.int i] π = .ok (.bl true) π := ev_is_integer rfl
theorem fs_1 : sFld CS 0 "p" m (.ow (.ins "Code" [] []) :: r) π = (m (.ow (.ins "Code" [] []) :: r) π).toS fun d π1 => .nx (.ow (.ins "Code" ["p"] [d]) :: r) π1 := rfl
theorem fs_2 : sFld CS 0 "n" m (.ow (.ins "Code" ["p"] [a]) :: r) π = (m (.ow (.ins "Code" ["p"] [a]) :: r) π).toS fun d π1 => .nx (.ow (.ins "Code" ["p", "n"] [a, d]) :: r) π1 := rfl
theorem fs_3 : sFld CS 0 "basis" m (.ow (.ins "Code" ["p", "n"] [a, b]) :: r) π = (m (.ow (.ins "Code" ["p", "n"] [a, b]) :: r) π).toS fun d π1 => .nx (.ow (.ins "Code" ["p", "n", "basis"] [a, b, d]) :: r) π1 := rfl
theorem fs_4 : sFld CS 0 "size" m (.ow (.ins "Code" ["p", "n", "basis"] [a, b, c]) :: r) π = (m (.ow (.ins "Code" ["p", "n", "basis"] [a, b, c]) :: r) π).toS fun d π1 => .nx (.ow (.ins "Code" ["p", "n", "basis", "size"] [a, b, c, d]) :: r) π1 := rfl
theorem fld_b3 : fldD CS "basis" (.obj "Code" ["p", "n", "basis"] [a, b, c]) = some c := rfl
theorem ev_need {p : Int} {n : Int} (hp : P23 p) (h1 : 1 ≤ n) (h2 : n ≤ 24) : f_need_letters [.int p, .int n] π = .ok .non π := by
  have c : (!(decide (2 = p) || decide (3 = p))) = false := by
    rcases hp with rfl | rfl <;> rfl
  simp only [f_need_letters, m_need_letters, ev_int_int, d_in23, c, h1, h2, decide_true, ↓u_bd, ↓u_toS, ↓u_seq, bind_ok, bind_err, toS_ok, toS_err, seq_nx, seq_rt, seq_err, fin_nx, fin_rt, fin_err, opt_some, slD_sh, slB_sh, slB_ow, e_mBind, e_mOk, e_mOpt, e_mVar, e_mVarB, e_mNil, e_mCons, e_m1, e_m2, e_m2O, e_mC, e_mI, e_itSeq, e_mSome, e_mAnd, e_mOr, e_mTest, e_mT2, e_mChain, e_tAnd, e_tOr, e_tNot, e_mIf, e_mTup, e_mLst, e_mD, e_mCall, e_callF, e_mPen, e_mPenC, e_sPenPut, e_penPutK, e_sSeq, e_sSet, e_sSetO, e_sRet, e_sExpr, e_sNx, e_sIf, e_runF, e_mList, e_mSlice, e_sRaise, e_mMake, e_callI, d_add, d_sub, d_lt, d_le, d_gt, d_ge, d_eq, d_ne, d_asB, d_not, d_asI, d_ntN, d_intOf, d_neg, d_lenL, d_lenT, d_seqL, d_seqT, d_tupL, d_tupT, p_count, p_at, p_digits, p_fold, q_count, q_at, q_digits, q_fold, List.map_cons, List.map_nil, List.length_cons, List.length_nil, List.replicate_succ, List.replicate_zero, List.cons_append, List.nil_append, List.append_nil, List.getElem?_cons_zero, List.getElem?_cons_succ, List.set_cons_zero, List.set_cons_succ, wipeR, fName, fTup, fCons, fNil, Option.bind_some, Option.map_some, reduceIte, if_true, if_false, decide_eq_true_eq, Nat.reduceAdd, Nat.reduceSub, Nat.reduceLeDiff, Nat.reduceLT, Nat.zero_le, Bool.not_true, Bool.not_false, Bool.false_eq_true, Nat.zero_add]
/-- what makes a Code: rows that are right -/
theorem ev_code {c : Bool} {rows : List (Bool × List Int)} (hp : P23 p) (h1 : 1 ≤ n) (hn : n ≤ 24) (hr : Rows p n (rows.map (·.2))) (hz : rows.length ≤ 1000) :
    f_Code_init [.int p, .int n, rowsD c (rows.map rowD)] π = .ok (.ins "Code" ["p", "n", "basis", "size"] [.int p, .int n, .tup ((byLead (steps p (rows.map (·.2)))).map wD), .int (byLead (steps p (rows.map (·.2)))).length]) π := by
  have nd := ev_need (π := π) (n := n) hp (by omega) (by omega)
  have st := ev_stepped (c := c) (π := π) hp (n := n) (by omega) hr hz
  have k : mLc (itSeq (mVar 3)) (fName 4) (mOk true) (mCall 3 f_is_letters [] (mCons (mVar 1) (mCons (mVar 2) (mCons (mVar 4) mNil)))) [4] [.ow (.ins "Code" [] []), .sh (.int p), .sh (.int n), .sh (rowsD c (rows.map rowD)), .no] π = .ok (.lst (rows.map fun q => .bl ((fun _ => true) q))) π := by
    refine mLc_all rows rowD (fun q => .bl true) (xs := rows.map rowD) ?_ rfl (sl24 (by omega)) fun q hq => ⟨_, rfl, ?_⟩
    · simp only [seqOf_rows, ↓u_bd, ↓u_toS, ↓u_seq, bind_ok, bind_err, toS_ok, toS_err, seq_nx, seq_rt, seq_err, fin_nx, fin_rt, fin_err, opt_some, slD_sh, slB_sh, slB_ow, e_mBind, e_mOk, e_mOpt, e_mVar, e_mVarB, e_mNil, e_mCons, e_m1, e_m2, e_m2O, e_mC, e_mI, e_itSeq, e_mSome, e_mAnd, e_mOr, e_mTest, e_mT2, e_mChain, e_tAnd, e_tOr, e_tNot, e_mIf, e_mTup, e_mLst, e_mD, e_mCall, e_callF, e_mPen, e_mPenC, e_sPenPut, e_penPutK, e_sSeq, e_sSet, e_sSetO, e_sRet, e_sExpr, e_sNx, e_sIf, e_runF, e_mList, e_mSlice, e_sRaise, e_mMake, e_callI, d_add, d_sub, d_lt, d_le, d_gt, d_ge, d_eq, d_ne, d_asB, d_not, d_asI, d_ntN, d_intOf, d_neg, d_lenL, d_lenT, d_seqL, d_seqT, d_tupL, d_tupT, p_count, p_at, p_digits, p_fold, q_count, q_at, q_digits, q_fold, List.map_cons, List.map_nil, List.length_cons, List.length_nil, List.replicate_succ, List.replicate_zero, List.cons_append, List.nil_append, List.append_nil, List.getElem?_cons_zero, List.getElem?_cons_succ, List.set_cons_zero, List.set_cons_succ, wipeR, fName, fTup, fCons, fNil, Option.bind_some, Option.map_some, reduceIte, if_true, if_false, decide_eq_true_eq, Nat.reduceAdd, Nat.reduceSub, Nat.reduceLeDiff, Nat.reduceLT, Nat.zero_le, Bool.not_true, Bool.not_false, Bool.false_eq_true, Nat.zero_add]
    · have wq : isW p n q.2 := hr _ (List.mem_map.mpr ⟨q, hq, rfl⟩)
      have il := ev_is_letters (d := rowD q) (p := p) (n := n) (π := π) (named_row q) (by
        rw [seqL_row]
        intro x hx
        obtain ⟨i, _, rfl⟩ := List.mem_map.mp hx
        rfl) (by rw [seqL_row, List.length_map, wq.1]; exact sl24 (by omega))
      have wb : wordB p n (rowD q) = true := by
        unfold wordB
        rw [isR_row, seqL_row, List.length_map, wq.1, decide_eq_true rfl, Bool.true_and, Bool.true_and, List.all_map, List.all_eq_true]
        intro x hx
        show (decide (0 ≤ x) && decide (x < p)) = true
        rw [decide_eq_true (wq.2 x hx).1, decide_eq_true (wq.2 x hx).2]; rfl
      rw [wb] at il
      simp only [il, ↓u_bd, ↓u_toS, ↓u_seq, bind_ok, bind_err, toS_ok, toS_err, seq_nx, seq_rt, seq_err, fin_nx, fin_rt, fin_err, opt_some, slD_sh, slB_sh, slB_ow, e_mBind, e_mOk, e_mOpt, e_mVar, e_mVarB, e_mNil, e_mCons, e_m1, e_m2, e_m2O, e_mC, e_mI, e_itSeq, e_mSome, e_mAnd, e_mOr, e_mTest, e_mT2, e_mChain, e_tAnd, e_tOr, e_tNot, e_mIf, e_mTup, e_mLst, e_mD, e_mCall, e_callF, e_mPen, e_mPenC, e_sPenPut, e_penPutK, e_sSeq, e_sSet, e_sSetO, e_sRet, e_sExpr, e_sNx, e_sIf, e_runF, e_mList, e_mSlice, e_sRaise, e_mMake, e_callI, d_add, d_sub, d_lt, d_le, d_gt, d_ge, d_eq, d_ne, d_asB, d_not, d_asI, d_ntN, d_intOf, d_neg, d_lenL, d_lenT, d_seqL, d_seqT, d_tupL, d_tupT, p_count, p_at, p_digits, p_fold, q_count, q_at, q_digits, q_fold, List.map_cons, List.map_nil, List.length_cons, List.length_nil, List.replicate_succ, List.replicate_zero, List.cons_append, List.nil_append, List.append_nil, List.getElem?_cons_zero, List.getElem?_cons_succ, List.set_cons_zero, List.set_cons_succ, wipeR, fName, fTup, fCons, fNil, Option.bind_some, Option.map_some, reduceIte, if_true, if_false, decide_eq_true_eq, Nat.reduceAdd, Nat.reduceSub, Nat.reduceLeDiff, Nat.reduceLT, Nat.zero_le, Bool.not_true, Bool.not_false, Bool.false_eq_true, Nat.zero_add]
  have al : allD [.lst (rows.map fun q => D.bl ((fun _ => true) q))] = some (.bl true) := by
    rw [allD_map]
    congr 2
    exact List.all_eq_true.mpr fun _ _ => rfl
  rw [f_Code_init, e_runI]
  simp only [m_Code_init, nd, ev_is_row, named_rows, isR_rows, k, Own.D, al, st, fs_1, fs_2, fs_3, fs_4, fld_b3, ↓u_bd, ↓u_toS, ↓u_seq, bind_ok, bind_err, toS_ok, toS_err, seq_nx, seq_rt, seq_err, fin_nx, fin_rt, fin_err, opt_some, slD_sh, slB_sh, slB_ow, e_mBind, e_mOk, e_mOpt, e_mVar, e_mVarB, e_mNil, e_mCons, e_m1, e_m2, e_m2O, e_mC, e_mI, e_itSeq, e_mSome, e_mAnd, e_mOr, e_mTest, e_mT2, e_mChain, e_tAnd, e_tOr, e_tNot, e_mIf, e_mTup, e_mLst, e_mD, e_mCall, e_callF, e_mPen, e_mPenC, e_sPenPut, e_penPutK, e_sSeq, e_sSet, e_sSetO, e_sRet, e_sExpr, e_sNx, e_sIf, e_runF, e_mList, e_mSlice, e_sRaise, e_mMake, e_callI, d_add, d_sub, d_lt, d_le, d_gt, d_ge, d_eq, d_ne, d_asB, d_not, d_asI, d_ntN, d_intOf, d_neg, d_lenL, d_lenT, d_seqL, d_seqT, d_tupL, d_tupT, p_count, p_at, p_digits, p_fold, q_count, q_at, q_digits, q_fold, List.map_cons, List.map_nil, List.length_cons, List.length_nil, List.replicate_succ, List.replicate_zero, List.cons_append, List.nil_append, List.append_nil, List.getElem?_cons_zero, List.getElem?_cons_succ, List.set_cons_zero, List.set_cons_succ, wipeR, fName, fTup, fCons, fNil, Option.bind_some, Option.map_some, reduceIte, if_true, if_false, decide_eq_true_eq, Nat.reduceAdd, Nat.reduceSub, Nat.reduceLeDiff, Nat.reduceLT, Nat.zero_le, Bool.not_true, Bool.not_false, Bool.false_eq_true, Nat.zero_add]
  rw [List.length_map]
  rfl
theorem code_same {c : Bool} {rows : List (Bool × List Int)} (hp : P23 p) (hr : Rows p n (rows.map (·.2))) : Rref p n (byLead (steps p (rows.map (·.2)))) ∧ ∀ v, Span p n (byLead (steps p (rows.map (·.2)))) v ↔ Span p n (rows.map (·.2)) v := by
  obtain ⟨r, g⟩ := steps_ok hp hr
  have r2 := byLead_rref r
  refine ⟨r2, fun v => ?_⟩
  rw [← g.span hp.pos r.w hr v]
  have pm := byLead_perm (steps p (rows.map (·.2)))
  exact ⟨Span.congr fun q hq => pm.mem_iff.mp hq, Span.congr fun q hq => pm.mem_iff.mpr hq⟩
theorem ev_eq {q : Int} {m : Nat} {C : List (List Int)} : f_Code_eq [codeD p n B, codeD q m C] π = .ok (.bl (decide (p = q) && (decide (n = m) && decide (B = C)))) π := by
  have e : eqD (.tup [.int p, .int n, .tup (B.map wD)]) (.tup [.int q, .int m, .tup (C.map wD)]) = some (.bl (decide (p = q) && (decide (n = m) && decide (B = C)))) := by
    have pl : ∀ (p n : Int) (B : List (List Int)), plainD 60 (.tup [.int p, .int n, .tup (B.map wD)]) = true := fun p n B => by
      show ([D.int p, .int n, .tup (B.map wD)].all (plainD 59)) = true
      rw [List.all_cons, List.all_cons, List.all_cons, plain_int, plain_int, List.all_nil]
      show (true && (true && ((B.map wD).all (plainD 58) && true))) = true
      rw [plain_words]; rfl
    unfold eqD
    rw [pl, pl]
    show some (D.bl ((p == q) && (((n : Int) == (m : Int)) && (D.eqvL (B.map wD) (C.map wD) && true)))) = _
    rw [eqv_words, Bool.and_true]
    congr 2
    congr 1
    congr 1
    rw [show ((n : Int) == (m : Int)) = decide ((n : Int) = m) from rfl]
    by_cases h : n = m
    · rw [h]; simp
    · rw [decide_eq_false h, decide_eq_false (by omega)]
  simp only [f_Code_eq, m_Code_eq, isC_code, fld_p, fld_n, fld_b, e, ↓u_bd, ↓u_toS, ↓u_seq, bind_ok, bind_err, toS_ok, toS_err, seq_nx, seq_rt, seq_err, fin_nx, fin_rt, fin_err, opt_some, slD_sh, slB_sh, slB_ow, e_mBind, e_mOk, e_mOpt, e_mVar, e_mVarB, e_mNil, e_mCons, e_m1, e_m2, e_m2O, e_mC, e_mI, e_itSeq, e_mSome, e_mAnd, e_mOr, e_mTest, e_mT2, e_mChain, e_tAnd, e_tOr, e_tNot, e_mIf, e_mTup, e_mLst, e_mD, e_mCall, e_callF, e_mPen, e_mPenC, e_sPenPut, e_penPutK, e_sSeq, e_sSet, e_sSetO, e_sRet, e_sExpr, e_sNx, e_sIf, e_runF, e_mList, e_mSlice, e_sRaise, e_mMake, e_callI, d_add, d_sub, d_lt, d_le, d_gt, d_ge, d_eq, d_ne, d_asB, d_not, d_asI, d_ntN, d_intOf, d_neg, d_lenL, d_lenT, d_seqL, d_seqT, d_tupL, d_tupT, p_count, p_at, p_digits, p_fold, q_count, q_at, q_digits, q_fold, List.map_cons, List.map_nil, List.length_cons, List.length_nil, List.replicate_succ, List.replicate_zero, List.cons_append, List.nil_append, List.append_nil, List.getElem?_cons_zero, List.getElem?_cons_succ, List.set_cons_zero, List.set_cons_succ, wipeR, fName, fTup, fCons, fNil, Option.bind_some, Option.map_some, reduceIte, if_true, if_false, decide_eq_true_eq, Nat.reduceAdd, Nat.reduceSub, Nat.reduceLeDiff, Nat.reduceLT, Nat.zero_le, Bool.not_true, Bool.not_false, Bool.false_eq_true, Nat.zero_add]
theorem ev_eq_no {d : D} (h : isC CS "Code" d = some (.bl false)) : f_Code_eq [codeD p n B, d] π = .ok (.bl false) π := by
  simp only [f_Code_eq, m_Code_eq, h, ↓u_bd, ↓u_toS, ↓u_seq, bind_ok, bind_err, toS_ok, toS_err, seq_nx, seq_rt, seq_err, fin_nx, fin_rt, fin_err, opt_some, slD_sh, slB_sh, slB_ow, e_mBind, e_mOk, e_mOpt, e_mVar, e_mVarB, e_mNil, e_mCons, e_m1, e_m2, e_m2O, e_mC, e_mI, e_itSeq, e_mSome, e_mAnd, e_mOr, e_mTest, e_mT2, e_mChain, e_tAnd, e_tOr, e_tNot, e_mIf, e_mTup, e_mLst, e_mD, e_mCall, e_callF, e_mPen, e_mPenC, e_sPenPut, e_penPutK, e_sSeq, e_sSet, e_sSetO, e_sRet, e_sExpr, e_sNx, e_sIf, e_runF, e_mList, e_mSlice, e_sRaise, e_mMake, e_callI, d_add, d_sub, d_lt, d_le, d_gt, d_ge, d_eq, d_ne, d_asB, d_not, d_asI, d_ntN, d_intOf, d_neg, d_lenL, d_lenT, d_seqL, d_seqT, d_tupL, d_tupT, p_count, p_at, p_digits, p_fold, q_count, q_at, q_digits, q_fold, List.map_cons, List.map_nil, List.length_cons, List.length_nil, List.replicate_succ, List.replicate_zero, List.cons_append, List.nil_append, List.append_nil, List.getElem?_cons_zero, List.getElem?_cons_succ, List.set_cons_zero, List.set_cons_succ, wipeR, fName, fTup, fCons, fNil, Option.bind_some, Option.map_some, reduceIte, if_true, if_false, decide_eq_true_eq, Nat.reduceAdd, Nat.reduceSub, Nat.reduceLeDiff, Nat.reduceLT, Nat.zero_le, Bool.not_true, Bool.not_false, Bool.false_eq_true, Nat.zero_add]
theorem ev_need_code : f_need_code [codeD p n B] π = .ok .non π := by
  simp only [f_need_code, m_need_code, isC_code, ↓u_bd, ↓u_toS, ↓u_seq, bind_ok, bind_err, toS_ok, toS_err, seq_nx, seq_rt, seq_err, fin_nx, fin_rt, fin_err, opt_some, slD_sh, slB_sh, slB_ow, e_mBind, e_mOk, e_mOpt, e_mVar, e_mVarB, e_mNil, e_mCons, e_m1, e_m2, e_m2O, e_mC, e_mI, e_itSeq, e_mSome, e_mAnd, e_mOr, e_mTest, e_mT2, e_mChain, e_tAnd, e_tOr, e_tNot, e_mIf, e_mTup, e_mLst, e_mD, e_mCall, e_callF, e_mPen, e_mPenC, e_sPenPut, e_penPutK, e_sSeq, e_sSet, e_sSetO, e_sRet, e_sExpr, e_sNx, e_sIf, e_runF, e_mList, e_mSlice, e_sRaise, e_mMake, e_callI, d_add, d_sub, d_lt, d_le, d_gt, d_ge, d_eq, d_ne, d_asB, d_not, d_asI, d_ntN, d_intOf, d_neg, d_lenL, d_lenT, d_seqL, d_seqT, d_tupL, d_tupT, p_count, p_at, p_digits, p_fold, q_count, q_at, q_digits, q_fold, List.map_cons, List.map_nil, List.length_cons, List.length_nil, List.replicate_succ, List.replicate_zero, List.cons_append, List.nil_append, List.append_nil, List.getElem?_cons_zero, List.getElem?_cons_succ, List.set_cons_zero, List.set_cons_succ, wipeR, fName, fTup, fCons, fNil, Option.bind_some, Option.map_some, reduceIte, if_true, if_false, decide_eq_true_eq, Nat.reduceAdd, Nat.reduceSub, Nat.reduceLeDiff, Nat.reduceLT, Nat.zero_le, Bool.not_true, Bool.not_false, Bool.false_eq_true, Nat.zero_add]
theorem ev_pick {l : List D} (h : PenOk k π) (hk : k ≤ 100000000000000) (hl : 0 < l.length) (hl2 : l.length < 1000000) : ∃ i d π', i < l.length ∧ l[i]? = some d ∧ f__law_pick [.pen, .lst l] π = .ok d π' ∧ PenOk (k + 1) π' := by
  obtain ⟨d, π', e, h0, h1, h2⟩ := ev_draw (many := (l.length : Nat)) h hk (by omega) (by omega)
  refine ⟨d.toNat, l[d.toNat]'(by omega), π', by omega, List.getElem?_eq_getElem (by omega), ?_, h2⟩
  have ix := ixD_lst (l := l) h0 h1
  rw [List.getElem?_eq_getElem (by omega)] at ix
  simp only [f__law_pick, m__law_pick, e, ix, ↓u_bd, ↓u_toS, ↓u_seq, bind_ok, bind_err, toS_ok, toS_err, seq_nx, seq_rt, seq_err, fin_nx, fin_rt, fin_err, opt_some, slD_sh, slB_sh, slB_ow, e_mBind, e_mOk, e_mOpt, e_mVar, e_mVarB, e_mNil, e_mCons, e_m1, e_m2, e_m2O, e_mC, e_mI, e_itSeq, e_mSome, e_mAnd, e_mOr, e_mTest, e_mT2, e_mChain, e_tAnd, e_tOr, e_tNot, e_mIf, e_mTup, e_mLst, e_mD, e_mCall, e_callF, e_mPen, e_mPenC, e_sPenPut, e_penPutK, e_sSeq, e_sSet, e_sSetO, e_sRet, e_sExpr, e_sNx, e_sIf, e_runF, e_mList, e_mSlice, e_sRaise, e_mMake, e_callI, d_add, d_sub, d_lt, d_le, d_gt, d_ge, d_eq, d_ne, d_asB, d_not, d_asI, d_ntN, d_intOf, d_neg, d_lenL, d_lenT, d_seqL, d_seqT, d_tupL, d_tupT, p_count, p_at, p_digits, p_fold, q_count, q_at, q_digits, q_fold, List.map_cons, List.map_nil, List.length_cons, List.length_nil, List.replicate_succ, List.replicate_zero, List.cons_append, List.nil_append, List.append_nil, List.getElem?_cons_zero, List.getElem?_cons_succ, List.set_cons_zero, List.set_cons_succ, wipeR, fName, fTup, fCons, fNil, Option.bind_some, Option.map_some, reduceIte, if_true, if_false, decide_eq_true_eq, Nat.reduceAdd, Nat.reduceSub, Nat.reduceLeDiff, Nat.reduceLT, Nat.zero_le, Bool.not_true, Bool.not_false, Bool.false_eq_true, Nat.zero_add]
theorem ev_plus {p t : Int} {a b : List Int} {π : Pen} (hp : 0 < p) (ht : t.natAbs < 18446744073709551616) (hb : ∀ x ∈ b, x.natAbs < 18446744073709551616) (hz : a.length ≤ sizeLine) : f__law_plus [.int p, wD a, wD b, .int t] π = .ok (wD (addw p a b t)) π := by
  have k : mLc (mI zipA (mCons (mVar 1) (mCons (mVar 2) mNil))) (fTup 2 (fCons (fName 4) (fCons (fName 5) fNil))) (mOk true) (m2 modD (mC intOf (mCons (m2 addD (mVar 4) (m2 mulD (mVar 3) (mVar 5))) mNil)) (mVar 0)) [4, 5] [.sh (.int p), .sh (wD a), .sh (wD b), .sh (.int t), .no, .no] π = .ok (.lst ((a.zip b).map fun q => .int ((q.1 + t * q.2) % p))) π := by
    refine mLc_all (a.zip b) (fun q => D.tup [.int q.1, .int q.2]) (fun q => .int ((q.1 + t * q.2) % p)) ?_ rfl (by rw [List.length_zip]; omega) fun q hq => ⟨_, rfl, ?_⟩
    · simp only [zipA_w, ↓u_bd, ↓u_toS, ↓u_seq, bind_ok, bind_err, toS_ok, toS_err, seq_nx, seq_rt, seq_err, fin_nx, fin_rt, fin_err, opt_some, slD_sh, slB_sh, slB_ow, e_mBind, e_mOk, e_mOpt, e_mVar, e_mVarB, e_mNil, e_mCons, e_m1, e_m2, e_m2O, e_mC, e_mI, e_itSeq, e_mSome, e_mAnd, e_mOr, e_mTest, e_mT2, e_mChain, e_tAnd, e_tOr, e_tNot, e_mIf, e_mTup, e_mLst, e_mD, e_mCall, e_callF, e_mPen, e_mPenC, e_sPenPut, e_penPutK, e_sSeq, e_sSet, e_sSetO, e_sRet, e_sExpr, e_sNx, e_sIf, e_runF, e_mList, e_mSlice, e_sRaise, e_mMake, e_callI, d_add, d_sub, d_lt, d_le, d_gt, d_ge, d_eq, d_ne, d_asB, d_not, d_asI, d_ntN, d_intOf, d_neg, d_lenL, d_lenT, d_seqL, d_seqT, d_tupL, d_tupT, p_count, p_at, p_digits, p_fold, q_count, q_at, q_digits, q_fold, List.map_cons, List.map_nil, List.length_cons, List.length_nil, List.replicate_succ, List.replicate_zero, List.cons_append, List.nil_append, List.append_nil, List.getElem?_cons_zero, List.getElem?_cons_succ, List.set_cons_zero, List.set_cons_succ, wipeR, fName, fTup, fCons, fNil, Option.bind_some, Option.map_some, reduceIte, if_true, if_false, decide_eq_true_eq, Nat.reduceAdd, Nat.reduceSub, Nat.reduceLeDiff, Nat.reduceLT, Nat.zero_le, Bool.not_true, Bool.not_false, Bool.false_eq_true, Nat.zero_add]
    · have := hb q.2 (List.of_mem_zip hq).2
      simp only [small_mul ht this, d_mod hp, ↓u_bd, ↓u_toS, ↓u_seq, bind_ok, bind_err, toS_ok, toS_err, seq_nx, seq_rt, seq_err, fin_nx, fin_rt, fin_err, opt_some, slD_sh, slB_sh, slB_ow, e_mBind, e_mOk, e_mOpt, e_mVar, e_mVarB, e_mNil, e_mCons, e_m1, e_m2, e_m2O, e_mC, e_mI, e_itSeq, e_mSome, e_mAnd, e_mOr, e_mTest, e_mT2, e_mChain, e_tAnd, e_tOr, e_tNot, e_mIf, e_mTup, e_mLst, e_mD, e_mCall, e_callF, e_mPen, e_mPenC, e_sPenPut, e_penPutK, e_sSeq, e_sSet, e_sSetO, e_sRet, e_sExpr, e_sNx, e_sIf, e_runF, e_mList, e_mSlice, e_sRaise, e_mMake, e_callI, d_add, d_sub, d_lt, d_le, d_gt, d_ge, d_eq, d_ne, d_asB, d_not, d_asI, d_ntN, d_intOf, d_neg, d_lenL, d_lenT, d_seqL, d_seqT, d_tupL, d_tupT, p_count, p_at, p_digits, p_fold, q_count, q_at, q_digits, q_fold, List.map_cons, List.map_nil, List.length_cons, List.length_nil, List.replicate_succ, List.replicate_zero, List.cons_append, List.nil_append, List.append_nil, List.getElem?_cons_zero, List.getElem?_cons_succ, List.set_cons_zero, List.set_cons_succ, wipeR, fName, fTup, fCons, fNil, Option.bind_some, Option.map_some, reduceIte, if_true, if_false, decide_eq_true_eq, Nat.reduceAdd, Nat.reduceSub, Nat.reduceLeDiff, Nat.reduceLT, Nat.zero_le, Bool.not_true, Bool.not_false, Bool.false_eq_true, Nat.zero_add]
  simp only [f__law_plus, m__law_plus, k, Own.D, ↓u_bd, ↓u_toS, ↓u_seq, bind_ok, bind_err, toS_ok, toS_err, seq_nx, seq_rt, seq_err, fin_nx, fin_rt, fin_err, opt_some, slD_sh, slB_sh, slB_ow, e_mBind, e_mOk, e_mOpt, e_mVar, e_mVarB, e_mNil, e_mCons, e_m1, e_m2, e_m2O, e_mC, e_mI, e_itSeq, e_mSome, e_mAnd, e_mOr, e_mTest, e_mT2, e_mChain, e_tAnd, e_tOr, e_tNot, e_mIf, e_mTup, e_mLst, e_mD, e_mCall, e_callF, e_mPen, e_mPenC, e_sPenPut, e_penPutK, e_sSeq, e_sSet, e_sSetO, e_sRet, e_sExpr, e_sNx, e_sIf, e_runF, e_mList, e_mSlice, e_sRaise, e_mMake, e_callI, d_add, d_sub, d_lt, d_le, d_gt, d_ge, d_eq, d_ne, d_asB, d_not, d_asI, d_ntN, d_intOf, d_neg, d_lenL, d_lenT, d_seqL, d_seqT, d_tupL, d_tupT, p_count, p_at, p_digits, p_fold, q_count, q_at, q_digits, q_fold, List.map_cons, List.map_nil, List.length_cons, List.length_nil, List.replicate_succ, List.replicate_zero, List.cons_append, List.nil_append, List.append_nil, List.getElem?_cons_zero, List.getElem?_cons_succ, List.set_cons_zero, List.set_cons_succ, wipeR, fName, fTup, fCons, fNil, Option.bind_some, Option.map_some, reduceIte, if_true, if_false, decide_eq_true_eq, Nat.reduceAdd, Nat.reduceSub, Nat.reduceLeDiff, Nat.reduceLT, Nat.zero_le, Bool.not_true, Bool.not_false, Bool.false_eq_true, Nat.zero_add]
  unfold wD addw
  rw [List.map_map]; rfl
theorem ev_many' {w : List Int} (hz : w.length ≤ 1000) : f__law_many [wD w] π = .ok (.int ((w.filter fun q => !decide (q = 0)).length : Nat)) π := by
  have k : mLc (itSeq (mVar 0)) (fName 1) (mT2 neD (mVar 1) (mOk (.int 0))) (mVar 1) [1] [.sh (wD w), .no] π = .ok (.lst ((w.filter fun q => !decide (q = 0)).map fun q => D.int q)) π := by
    refine mLc_map w D.int _ _ ?_ rfl (sl24 (by omega)) fun q hq => ⟨_, rfl, ?_, fun _ => ?_⟩
    · simp only [seqOf_w, ↓u_bd, ↓u_toS, ↓u_seq, bind_ok, bind_err, toS_ok, toS_err, seq_nx, seq_rt, seq_err, fin_nx, fin_rt, fin_err, opt_some, slD_sh, slB_sh, slB_ow, e_mBind, e_mOk, e_mOpt, e_mVar, e_mVarB, e_mNil, e_mCons, e_m1, e_m2, e_m2O, e_mC, e_mI, e_itSeq, e_mSome, e_mAnd, e_mOr, e_mTest, e_mT2, e_mChain, e_tAnd, e_tOr, e_tNot, e_mIf, e_mTup, e_mLst, e_mD, e_mCall, e_callF, e_mPen, e_mPenC, e_sPenPut, e_penPutK, e_sSeq, e_sSet, e_sSetO, e_sRet, e_sExpr, e_sNx, e_sIf, e_runF, e_mList, e_mSlice, e_sRaise, e_mMake, e_callI, d_add, d_sub, d_lt, d_le, d_gt, d_ge, d_eq, d_ne, d_asB, d_not, d_asI, d_ntN, d_intOf, d_neg, d_lenL, d_lenT, d_seqL, d_seqT, d_tupL, d_tupT, p_count, p_at, p_digits, p_fold, q_count, q_at, q_digits, q_fold, List.map_cons, List.map_nil, List.length_cons, List.length_nil, List.replicate_succ, List.replicate_zero, List.cons_append, List.nil_append, List.append_nil, List.getElem?_cons_zero, List.getElem?_cons_succ, List.set_cons_zero, List.set_cons_succ, wipeR, fName, fTup, fCons, fNil, Option.bind_some, Option.map_some, reduceIte, if_true, if_false, decide_eq_true_eq, Nat.reduceAdd, Nat.reduceSub, Nat.reduceLeDiff, Nat.reduceLT, Nat.zero_le, Bool.not_true, Bool.not_false, Bool.false_eq_true, Nat.zero_add]
    · simp only [↓u_bd, ↓u_toS, ↓u_seq, bind_ok, bind_err, toS_ok, toS_err, seq_nx, seq_rt, seq_err, fin_nx, fin_rt, fin_err, opt_some, slD_sh, slB_sh, slB_ow, e_mBind, e_mOk, e_mOpt, e_mVar, e_mVarB, e_mNil, e_mCons, e_m1, e_m2, e_m2O, e_mC, e_mI, e_itSeq, e_mSome, e_mAnd, e_mOr, e_mTest, e_mT2, e_mChain, e_tAnd, e_tOr, e_tNot, e_mIf, e_mTup, e_mLst, e_mD, e_mCall, e_callF, e_mPen, e_mPenC, e_sPenPut, e_penPutK, e_sSeq, e_sSet, e_sSetO, e_sRet, e_sExpr, e_sNx, e_sIf, e_runF, e_mList, e_mSlice, e_sRaise, e_mMake, e_callI, d_add, d_sub, d_lt, d_le, d_gt, d_ge, d_eq, d_ne, d_asB, d_not, d_asI, d_ntN, d_intOf, d_neg, d_lenL, d_lenT, d_seqL, d_seqT, d_tupL, d_tupT, p_count, p_at, p_digits, p_fold, q_count, q_at, q_digits, q_fold, List.map_cons, List.map_nil, List.length_cons, List.length_nil, List.replicate_succ, List.replicate_zero, List.cons_append, List.nil_append, List.append_nil, List.getElem?_cons_zero, List.getElem?_cons_succ, List.set_cons_zero, List.set_cons_succ, wipeR, fName, fTup, fCons, fNil, Option.bind_some, Option.map_some, reduceIte, if_true, if_false, decide_eq_true_eq, Nat.reduceAdd, Nat.reduceSub, Nat.reduceLeDiff, Nat.reduceLT, Nat.zero_le, Bool.not_true, Bool.not_false, Bool.false_eq_true, Nat.zero_add]
    · simp only [↓u_bd, ↓u_toS, ↓u_seq, bind_ok, bind_err, toS_ok, toS_err, seq_nx, seq_rt, seq_err, fin_nx, fin_rt, fin_err, opt_some, slD_sh, slB_sh, slB_ow, e_mBind, e_mOk, e_mOpt, e_mVar, e_mVarB, e_mNil, e_mCons, e_m1, e_m2, e_m2O, e_mC, e_mI, e_itSeq, e_mSome, e_mAnd, e_mOr, e_mTest, e_mT2, e_mChain, e_tAnd, e_tOr, e_tNot, e_mIf, e_mTup, e_mLst, e_mD, e_mCall, e_callF, e_mPen, e_mPenC, e_sPenPut, e_penPutK, e_sSeq, e_sSet, e_sSetO, e_sRet, e_sExpr, e_sNx, e_sIf, e_runF, e_mList, e_mSlice, e_sRaise, e_mMake, e_callI, d_add, d_sub, d_lt, d_le, d_gt, d_ge, d_eq, d_ne, d_asB, d_not, d_asI, d_ntN, d_intOf, d_neg, d_lenL, d_lenT, d_seqL, d_seqT, d_tupL, d_tupT, p_count, p_at, p_digits, p_fold, q_count, q_at, q_digits, q_fold, List.map_cons, List.map_nil, List.length_cons, List.length_nil, List.replicate_succ, List.replicate_zero, List.cons_append, List.nil_append, List.append_nil, List.getElem?_cons_zero, List.getElem?_cons_succ, List.set_cons_zero, List.set_cons_succ, wipeR, fName, fTup, fCons, fNil, Option.bind_some, Option.map_some, reduceIte, if_true, if_false, decide_eq_true_eq, Nat.reduceAdd, Nat.reduceSub, Nat.reduceLeDiff, Nat.reduceLT, Nat.zero_le, Bool.not_true, Bool.not_false, Bool.false_eq_true, Nat.zero_add]
  simp only [f__law_many, m__law_many, k, Own.D, List.length_map, ↓u_bd, ↓u_toS, ↓u_seq, bind_ok, bind_err, toS_ok, toS_err, seq_nx, seq_rt, seq_err, fin_nx, fin_rt, fin_err, opt_some, slD_sh, slB_sh, slB_ow, e_mBind, e_mOk, e_mOpt, e_mVar, e_mVarB, e_mNil, e_mCons, e_m1, e_m2, e_m2O, e_mC, e_mI, e_itSeq, e_mSome, e_mAnd, e_mOr, e_mTest, e_mT2, e_mChain, e_tAnd, e_tOr, e_tNot, e_mIf, e_mTup, e_mLst, e_mD, e_mCall, e_callF, e_mPen, e_mPenC, e_sPenPut, e_penPutK, e_sSeq, e_sSet, e_sSetO, e_sRet, e_sExpr, e_sNx, e_sIf, e_runF, e_mList, e_mSlice, e_sRaise, e_mMake, e_callI, d_add, d_sub, d_lt, d_le, d_gt, d_ge, d_eq, d_ne, d_asB, d_not, d_asI, d_ntN, d_intOf, d_neg, d_lenL, d_lenT, d_seqL, d_seqT, d_tupL, d_tupT, p_count, p_at, p_digits, p_fold, q_count, q_at, q_digits, q_fold, List.map_cons, List.map_nil, List.length_cons, List.length_nil, List.replicate_succ, List.replicate_zero, List.cons_append, List.nil_append, List.append_nil, List.getElem?_cons_zero, List.getElem?_cons_succ, List.set_cons_zero, List.set_cons_succ, wipeR, fName, fTup, fCons, fNil, Option.bind_some, Option.map_some, reduceIte, if_true, if_false, decide_eq_true_eq, Nat.reduceAdd, Nat.reduceSub, Nat.reduceLeDiff, Nat.reduceLT, Nat.zero_le, Bool.not_true, Bool.not_false, Bool.false_eq_true, Nat.zero_add]
theorem ev_word (h : PenOk k π) (hk : k + n ≤ 100000000000000) (hp : P23 p) (hn : n ≤ 1000) : ∃ w π', f__law_word [.pen, .int p, .int n] π = .ok (wD w) π' ∧ isW p n w ∧ PenOk (k + n) π' := by
  have hr : (List.range n).length = n := List.length_range
  obtain ⟨ys, π', e1, e2, e3, e4⟩ := mLc_rel (it := mI range1 (mCons (mVar 2) mNil)) (f := fName 3) (te := mCall 2 f__law_draw [] (mCons (mVar 0) (mCons (mVar 1) mNil))) (vs := [3]) (ρ := [.sh .pen, .sh (.int p), .sh (.int n), .no]) (π := π) (π1 := π) (xs := (List.range n).map fun i => D.int (0 + (i : Nat))) (List.range n) (fun i => D.int (0 + (i : Nat)))
    PenOk (fun _ y => ∃ i : Int, y = .int i ∧ 0 ≤ i ∧ i < p) k (by simp only [range1_nat (show n ≤ 1000000 by omega), ↓u_bd, ↓u_toS, ↓u_seq, bind_ok, bind_err, toS_ok, toS_err, seq_nx, seq_rt, seq_err, fin_nx, fin_rt, fin_err, opt_some, slD_sh, slB_sh, slB_ow, e_mBind, e_mOk, e_mOpt, e_mVar, e_mVarB, e_mNil, e_mCons, e_m1, e_m2, e_m2O, e_mC, e_mI, e_itSeq, e_mSome, e_mAnd, e_mOr, e_mTest, e_mT2, e_mChain, e_tAnd, e_tOr, e_tNot, e_mIf, e_mTup, e_mLst, e_mD, e_mCall, e_callF, e_mPen, e_mPenC, e_sPenPut, e_penPutK, e_sSeq, e_sSet, e_sSetO, e_sRet, e_sExpr, e_sNx, e_sIf, e_runF, e_mList, e_mSlice, e_sRaise, e_mMake, e_callI, d_add, d_sub, d_lt, d_le, d_gt, d_ge, d_eq, d_ne, d_asB, d_not, d_asI, d_ntN, d_intOf, d_neg, d_lenL, d_lenT, d_seqL, d_seqT, d_tupL, d_tupT, p_count, p_at, p_digits, p_fold, q_count, q_at, q_digits, q_fold, List.map_cons, List.map_nil, List.length_cons, List.length_nil, List.replicate_succ, List.replicate_zero, List.cons_append, List.nil_append, List.append_nil, List.getElem?_cons_zero, List.getElem?_cons_succ, List.set_cons_zero, List.set_cons_succ, wipeR, fName, fTup, fCons, fNil, Option.bind_some, Option.map_some, reduceIte, if_true, if_false, decide_eq_true_eq, Nat.reduceAdd, Nat.reduceSub, Nat.reduceLeDiff, Nat.reduceLT, Nat.zero_le, Bool.not_true, Bool.not_false, Bool.false_eq_true, Nat.zero_add]) rfl (sl24 (by rw [hr]; omega)) h (fun x hx j π2 _ hj hj2 => by
      rw [hr] at hj
      obtain ⟨d, π3, e, h0, h1, h2⟩ := ev_draw (many := p) hj2 (by omega) hp.pos (by rcases hp with rfl | rfl <;> decide)
      refine ⟨_, .int d, π3, rfl, ?_, ⟨d, rfl, h0, h1⟩, h2⟩
      simp only [e, ↓u_bd, ↓u_toS, ↓u_seq, bind_ok, bind_err, toS_ok, toS_err, seq_nx, seq_rt, seq_err, fin_nx, fin_rt, fin_err, opt_some, slD_sh, slB_sh, slB_ow, e_mBind, e_mOk, e_mOpt, e_mVar, e_mVarB, e_mNil, e_mCons, e_m1, e_m2, e_m2O, e_mC, e_mI, e_itSeq, e_mSome, e_mAnd, e_mOr, e_mTest, e_mT2, e_mChain, e_tAnd, e_tOr, e_tNot, e_mIf, e_mTup, e_mLst, e_mD, e_mCall, e_callF, e_mPen, e_mPenC, e_sPenPut, e_penPutK, e_sSeq, e_sSet, e_sSetO, e_sRet, e_sExpr, e_sNx, e_sIf, e_runF, e_mList, e_mSlice, e_sRaise, e_mMake, e_callI, d_add, d_sub, d_lt, d_le, d_gt, d_ge, d_eq, d_ne, d_asB, d_not, d_asI, d_ntN, d_intOf, d_neg, d_lenL, d_lenT, d_seqL, d_seqT, d_tupL, d_tupT, p_count, p_at, p_digits, p_fold, q_count, q_at, q_digits, q_fold, List.map_cons, List.map_nil, List.length_cons, List.length_nil, List.replicate_succ, List.replicate_zero, List.cons_append, List.nil_append, List.append_nil, List.getElem?_cons_zero, List.getElem?_cons_succ, List.set_cons_zero, List.set_cons_succ, wipeR, fName, fTup, fCons, fNil, Option.bind_some, Option.map_some, reduceIte, if_true, if_false, decide_eq_true_eq, Nat.reduceAdd, Nat.reduceSub, Nat.reduceLeDiff, Nat.reduceLT, Nat.zero_le, Bool.not_true, Bool.not_false, Bool.false_eq_true, Nat.zero_add])
  obtain ⟨w, rfl, hw⟩ := ints_of (all_of e2 fun i x y a b => e3 i x y a b)
  rw [hr] at e2 e4
  rw [List.length_map] at e2
  refine ⟨w, π', ?_, ⟨e2, hw⟩, e4⟩
  simp only [f__law_word, m__law_word, e1, Own.D, ↓u_bd, ↓u_toS, ↓u_seq, bind_ok, bind_err, toS_ok, toS_err, seq_nx, seq_rt, seq_err, fin_nx, fin_rt, fin_err, opt_some, slD_sh, slB_sh, slB_ow, e_mBind, e_mOk, e_mOpt, e_mVar, e_mVarB, e_mNil, e_mCons, e_m1, e_m2, e_m2O, e_mC, e_mI, e_itSeq, e_mSome, e_mAnd, e_mOr, e_mTest, e_mT2, e_mChain, e_tAnd, e_tOr, e_tNot, e_mIf, e_mTup, e_mLst, e_mD, e_mCall, e_callF, e_mPen, e_mPenC, e_sPenPut, e_penPutK, e_sSeq, e_sSet, e_sSetO, e_sRet, e_sExpr, e_sNx, e_sIf, e_runF, e_mList, e_mSlice, e_sRaise, e_mMake, e_callI, d_add, d_sub, d_lt, d_le, d_gt, d_ge, d_eq, d_ne, d_asB, d_not, d_asI, d_ntN, d_intOf, d_neg, d_lenL, d_lenT, d_seqL, d_seqT, d_tupL, d_tupT, p_count, p_at, p_digits, p_fold, q_count, q_at, q_digits, q_fold, List.map_cons, List.map_nil, List.length_cons, List.length_nil, List.replicate_succ, List.replicate_zero, List.cons_append, List.nil_append, List.append_nil, List.getElem?_cons_zero, List.getElem?_cons_succ, List.set_cons_zero, List.set_cons_succ, wipeR, fName, fTup, fCons, fNil, Option.bind_some, Option.map_some, reduceIte, if_true, if_false, decide_eq_true_eq, Nat.reduceAdd, Nat.reduceSub, Nat.reduceLeDiff, Nat.reduceLT, Nat.zero_le, Bool.not_true, Bool.not_false, Bool.false_eq_true, Nat.zero_add]
theorem ev_span (hp : P23 p) (hn : n ≤ 1000) (h1 : 1 ≤ n) {rows : List (List Int)} (hr : Rows p n rows) (hz : p.toNat ^ n ≤ 5000) : f__law_span [.int p, .int n, .lst (rows.map wD)] π = .ok (.lst ((srt (spanL p n rows)).map wD)) π := by
  have p0 := hp.pos
  have disp : (tk (wD (zerow n))).isSome = true := by rw [tk_w]; rfl
  simp only [f__law_span, m__law_span, e_mDispT, mul_zero1 hn, tk_w, ↓u_bd, ↓u_toS, ↓u_seq, bind_ok, bind_err, toS_ok, toS_err, seq_nx, seq_rt, seq_err, fin_nx, fin_rt, fin_err, opt_some, slD_sh, slB_sh, slB_ow, e_mBind, e_mOk, e_mOpt, e_mVar, e_mVarB, e_mNil, e_mCons, e_m1, e_m2, e_m2O, e_mC, e_mI, e_itSeq, e_mSome, e_mAnd, e_mOr, e_mTest, e_mT2, e_mChain, e_tAnd, e_tOr, e_tNot, e_mIf, e_mTup, e_mLst, e_mD, e_mCall, e_callF, e_mPen, e_mPenC, e_sPenPut, e_penPutK, e_sSeq, e_sSet, e_sSetO, e_sRet, e_sExpr, e_sNx, e_sIf, e_runF, e_mList, e_mSlice, e_sRaise, e_mMake, e_callI, d_add, d_sub, d_lt, d_le, d_gt, d_ge, d_eq, d_ne, d_asB, d_not, d_asI, d_ntN, d_intOf, d_neg, d_lenL, d_lenT, d_seqL, d_seqT, d_tupL, d_tupT, p_count, p_at, p_digits, p_fold, q_count, q_at, q_digits, q_fold, List.map_cons, List.map_nil, List.length_cons, List.length_nil, List.replicate_succ, List.replicate_zero, List.cons_append, List.nil_append, List.append_nil, List.getElem?_cons_zero, List.getElem?_cons_succ, List.set_cons_zero, List.set_cons_succ, wipeR, fName, fTup, fCons, fNil, Option.bind_some, Option.map_some, reduceIte, if_true, if_false, decide_eq_true_eq, Nat.reduceAdd, Nat.reduceSub, Nat.reduceLeDiff, Nat.reduceLT, Nat.zero_le, Bool.not_true, Bool.not_false, Bool.false_eq_true, Nat.zero_add]
  refine for_then (fun o => o.fin = _) rows wD (fun d ρ π2 => π2 = π ∧ ∃ vs a b c, ρ = [.sh (.int p), .sh (.int n), .sh (.lst (rows.map wD)), .ow (.dic ((spanL p n d).map wD) vs), a, b, c]) (xs := rows.map wD) (π1 := π) ?_ rfl ⟨rfl, _, _, _, _, rfl⟩ (fun d r rest e ρ π2 ⟨e1, vs, a, b, c, e2⟩ => ?_) (fun ρ2 π2 ⟨e1, vs, a, b, c, e2⟩ => ?_)
  · simp only [d_seqL, ↓u_bd, ↓u_toS, ↓u_seq, bind_ok, bind_err, toS_ok, toS_err, seq_nx, seq_rt, seq_err, fin_nx, fin_rt, fin_err, opt_some, slD_sh, slB_sh, slB_ow, e_mBind, e_mOk, e_mOpt, e_mVar, e_mVarB, e_mNil, e_mCons, e_m1, e_m2, e_m2O, e_mC, e_mI, e_itSeq, e_mSome, e_mAnd, e_mOr, e_mTest, e_mT2, e_mChain, e_tAnd, e_tOr, e_tNot, e_mIf, e_mTup, e_mLst, e_mD, e_mCall, e_callF, e_mPen, e_mPenC, e_sPenPut, e_penPutK, e_sSeq, e_sSet, e_sSetO, e_sRet, e_sExpr, e_sNx, e_sIf, e_runF, e_mList, e_mSlice, e_sRaise, e_mMake, e_callI, d_add, d_sub, d_lt, d_le, d_gt, d_ge, d_eq, d_ne, d_asB, d_not, d_asI, d_ntN, d_intOf, d_neg, d_lenL, d_lenT, d_seqL, d_seqT, d_tupL, d_tupT, p_count, p_at, p_digits, p_fold, q_count, q_at, q_digits, q_fold, List.map_cons, List.map_nil, List.length_cons, List.length_nil, List.replicate_succ, List.replicate_zero, List.cons_append, List.nil_append, List.append_nil, List.getElem?_cons_zero, List.getElem?_cons_succ, List.set_cons_zero, List.set_cons_succ, wipeR, fName, fTup, fCons, fNil, Option.bind_some, Option.map_some, reduceIte, if_true, if_false, decide_eq_true_eq, Nat.reduceAdd, Nat.reduceSub, Nat.reduceLeDiff, Nat.reduceLT, Nat.zero_le, Bool.not_true, Bool.not_false, Bool.false_eq_true, Nat.zero_add]
  · subst e1 e2
    refine ⟨_, rfl, ?_⟩
    have wr : isW p n r := hr r (by rw [e]; simp)
    have rd : Rows p n d := fun x hx => hr x (by rw [e]; simp [hx])
    obtain ⟨nd, mem⟩ := spanL_ok hp rd
    have hne : spanL p n d ≠ [] := fun z => by
      have := (mem (zerow n)).mpr .zero
      rw [z] at this; cases this
    have es : spanL p n (d ++ [r]) = span1 p (spanL p n d) r := by unfold spanL; rw [List.foldl_append]; rfl
    rw [es]
    generalize spanL p n d = F at *
    unfold span1
    have ni := nin_w (vs := vs) (r := r) hne
    by_cases hm : r ∈ F
    · rw [if_pos hm]
      rw [decide_eq_true hm] at ni
      simp only [Own.D, ni, ↓u_bd, ↓u_toS, ↓u_seq, bind_ok, bind_err, toS_ok, toS_err, seq_nx, seq_rt, seq_err, fin_nx, fin_rt, fin_err, opt_some, slD_sh, slB_sh, slB_ow, e_mBind, e_mOk, e_mOpt, e_mVar, e_mVarB, e_mNil, e_mCons, e_m1, e_m2, e_m2O, e_mC, e_mI, e_itSeq, e_mSome, e_mAnd, e_mOr, e_mTest, e_mT2, e_mChain, e_tAnd, e_tOr, e_tNot, e_mIf, e_mTup, e_mLst, e_mD, e_mCall, e_callF, e_mPen, e_mPenC, e_sPenPut, e_penPutK, e_sSeq, e_sSet, e_sSetO, e_sRet, e_sExpr, e_sNx, e_sIf, e_runF, e_mList, e_mSlice, e_sRaise, e_mMake, e_callI, d_add, d_sub, d_lt, d_le, d_gt, d_ge, d_eq, d_ne, d_asB, d_not, d_asI, d_ntN, d_intOf, d_neg, d_lenL, d_lenT, d_seqL, d_seqT, d_tupL, d_tupT, p_count, p_at, p_digits, p_fold, q_count, q_at, q_digits, q_fold, List.map_cons, List.map_nil, List.length_cons, List.length_nil, List.replicate_succ, List.replicate_zero, List.cons_append, List.nil_append, List.append_nil, List.getElem?_cons_zero, List.getElem?_cons_succ, List.set_cons_zero, List.set_cons_succ, wipeR, fName, fTup, fCons, fNil, Option.bind_some, Option.map_some, reduceIte, if_true, if_false, decide_eq_true_eq, Nat.reduceAdd, Nat.reduceSub, Nat.reduceLeDiff, Nat.reduceLT, Nat.zero_le, Bool.not_true, Bool.not_false, Bool.false_eq_true, Nat.zero_add]
      exact goes_nx ⟨rfl, _, _, _, _, rfl⟩
    · rw [if_neg hm]
      rw [decide_eq_false hm] at ni
      simp only [Own.D, ni, ↓u_bd, ↓u_toS, ↓u_seq, bind_ok, bind_err, toS_ok, toS_err, seq_nx, seq_rt, seq_err, fin_nx, fin_rt, fin_err, opt_some, slD_sh, slB_sh, slB_ow, e_mBind, e_mOk, e_mOpt, e_mVar, e_mVarB, e_mNil, e_mCons, e_m1, e_m2, e_m2O, e_mC, e_mI, e_itSeq, e_mSome, e_mAnd, e_mOr, e_mTest, e_mT2, e_mChain, e_tAnd, e_tOr, e_tNot, e_mIf, e_mTup, e_mLst, e_mD, e_mCall, e_callF, e_mPen, e_mPenC, e_sPenPut, e_penPutK, e_sSeq, e_sSet, e_sSetO, e_sRet, e_sExpr, e_sNx, e_sIf, e_runF, e_mList, e_mSlice, e_sRaise, e_mMake, e_callI, d_add, d_sub, d_lt, d_le, d_gt, d_ge, d_eq, d_ne, d_asB, d_not, d_asI, d_ntN, d_intOf, d_neg, d_lenL, d_lenT, d_seqL, d_seqT, d_tupL, d_tupT, p_count, p_at, p_digits, p_fold, q_count, q_at, q_digits, q_fold, List.map_cons, List.map_nil, List.length_cons, List.length_nil, List.replicate_succ, List.replicate_zero, List.cons_append, List.nil_append, List.append_nil, List.getElem?_cons_zero, List.getElem?_cons_succ, List.set_cons_zero, List.set_cons_succ, wipeR, fName, fTup, fCons, fNil, Option.bind_some, Option.map_some, reduceIte, if_true, if_false, decide_eq_true_eq, Nat.reduceAdd, Nat.reduceSub, Nat.reduceLeDiff, Nat.reduceLT, Nat.zero_le, Bool.not_true, Bool.not_false, Bool.false_eq_true, Nat.zero_add]
      refine for_end (fun o => goesI _ o) (List.range (p.toNat - 1)) (fun i => D.int (1 + (i : Nat))) (fun ts ρ π3 => π3 = π2 ∧ ∃ vs b c, ρ = [.sh (.int p), .sh (.int n), .sh (.lst (rows.map wD)), .ow (.dic ((ts.foldl (lap p r) F).map wD) vs), .sh (wD r), b, c]) (xs := (List.range (p.toNat - 1)).map fun i => D.int (1 + (i : Nat))) (π1 := π2) ?_ rfl ⟨rfl, _, _, _, rfl⟩ (fun ts t tr et ρ π3 ⟨e1, vs, b, c, e2⟩ => ?_) (fun ρ2 π3 ⟨e1, vs, b, c, e2⟩ => ?_)
      · simp only [range2_p hp, ↓u_bd, ↓u_toS, ↓u_seq, bind_ok, bind_err, toS_ok, toS_err, seq_nx, seq_rt, seq_err, fin_nx, fin_rt, fin_err, opt_some, slD_sh, slB_sh, slB_ow, e_mBind, e_mOk, e_mOpt, e_mVar, e_mVarB, e_mNil, e_mCons, e_m1, e_m2, e_m2O, e_mC, e_mI, e_itSeq, e_mSome, e_mAnd, e_mOr, e_mTest, e_mT2, e_mChain, e_tAnd, e_tOr, e_tNot, e_mIf, e_mTup, e_mLst, e_mD, e_mCall, e_callF, e_mPen, e_mPenC, e_sPenPut, e_penPutK, e_sSeq, e_sSet, e_sSetO, e_sRet, e_sExpr, e_sNx, e_sIf, e_runF, e_mList, e_mSlice, e_sRaise, e_mMake, e_callI, d_add, d_sub, d_lt, d_le, d_gt, d_ge, d_eq, d_ne, d_asB, d_not, d_asI, d_ntN, d_intOf, d_neg, d_lenL, d_lenT, d_seqL, d_seqT, d_tupL, d_tupT, p_count, p_at, p_digits, p_fold, q_count, q_at, q_digits, q_fold, List.map_cons, List.map_nil, List.length_cons, List.length_nil, List.replicate_succ, List.replicate_zero, List.cons_append, List.nil_append, List.append_nil, List.getElem?_cons_zero, List.getElem?_cons_succ, List.set_cons_zero, List.set_cons_succ, wipeR, fName, fTup, fCons, fNil, Option.bind_some, Option.map_some, reduceIte, if_true, if_false, decide_eq_true_eq, Nat.reduceAdd, Nat.reduceSub, Nat.reduceLeDiff, Nat.reduceLT, Nat.zero_le, Bool.not_true, Bool.not_false, Bool.false_eq_true, Nat.zero_add]
      · subst e1 e2
        refine ⟨_, rfl, ?_⟩
        obtain ⟨e3, tlt⟩ := range_split et
        obtain ⟨i1, i2, i3⟩ := laps_ok p0 wr rd mem nd t
        have hrow : Rows p n (d ++ [r]) := fun c hc => by
          rcases List.mem_append.mp hc with q | q
          · exact rd c q
          · rw [List.mem_singleton.mp q]; exact wr
        have wF : Rows p n (laps p r t F) := fun w hw => (i2 w hw).w p0 hrow
        have lF := few_words i1 wF
        have neF : laps p r t F ≠ [] := fun z => by
          obtain ⟨w, l, e⟩ := List.exists_cons_of_ne_nil hne
          have := i3 w (by rw [e]; simp) 0 (by omega)
          rw [z] at this; cases this
        have e4 : (ts ++ [t]).foldl (lap p r) F = lap p r (laps p r t F) t := by rw [List.foldl_append, e3]; rfl
        rw [e4]
        have e5 : ts.foldl (lap p r) F = laps p r t F := by rw [e3]; rfl
        rw [e5]
        generalize laps p r t F = G at *
        have kt := keysT_w neF
        refine for_end (fun o => goesI _ o) G wD (fun d ρ π4 => π4 = π3 ∧ ∃ vs c, ρ = [.sh (.int p), .sh (.int n), .sh (.lst (rows.map wD)), .ow (.dic ((puts G (d.map fun w => addw p w r (1 + t : Nat))).map wD) vs), .sh (wD r), .sh (.int (1 + (t : Nat))), c]) (xs := G.map wD) (π1 := π3) ?_ rfl ⟨rfl, _, _, rfl⟩ (fun ws w wr' ew ρ π4 ⟨e1, vs, c, e2⟩ => ?_) (fun ρ2 π4 ⟨e1, vs, c, e2⟩ => ?_)
        · simp only [Own.D, e_mKeys, kt, ↓u_bd, ↓u_toS, ↓u_seq, bind_ok, bind_err, toS_ok, toS_err, seq_nx, seq_rt, seq_err, fin_nx, fin_rt, fin_err, opt_some, slD_sh, slB_sh, slB_ow, e_mBind, e_mOk, e_mOpt, e_mVar, e_mVarB, e_mNil, e_mCons, e_m1, e_m2, e_m2O, e_mC, e_mI, e_itSeq, e_mSome, e_mAnd, e_mOr, e_mTest, e_mT2, e_mChain, e_tAnd, e_tOr, e_tNot, e_mIf, e_mTup, e_mLst, e_mD, e_mCall, e_callF, e_mPen, e_mPenC, e_sPenPut, e_penPutK, e_sSeq, e_sSet, e_sSetO, e_sRet, e_sExpr, e_sNx, e_sIf, e_runF, e_mList, e_mSlice, e_sRaise, e_mMake, e_callI, d_add, d_sub, d_lt, d_le, d_gt, d_ge, d_eq, d_ne, d_asB, d_not, d_asI, d_ntN, d_intOf, d_neg, d_lenL, d_lenT, d_seqL, d_seqT, d_tupL, d_tupT, p_count, p_at, p_digits, p_fold, q_count, q_at, q_digits, q_fold, List.map_cons, List.map_nil, List.length_cons, List.length_nil, List.replicate_succ, List.replicate_zero, List.cons_append, List.nil_append, List.append_nil, List.getElem?_cons_zero, List.getElem?_cons_succ, List.set_cons_zero, List.set_cons_succ, wipeR, fName, fTup, fCons, fNil, Option.bind_some, Option.map_some, reduceIte, if_true, if_false, decide_eq_true_eq, Nat.reduceAdd, Nat.reduceSub, Nat.reduceLeDiff, Nat.reduceLT, Nat.zero_le, Bool.not_true, Bool.not_false, Bool.false_eq_true, Nat.zero_add]
        · subst e1 e2
          have ww : isW p n w := wF w (by rw [ew]; simp)
          have hl : ws.length ≤ G.length := by
            have := congrArg List.length ew
            rw [List.length_append] at this
            omega
          have hl2 := len_puts (F := G) (ws.map fun w => addw p w r (1 + t : Nat))
          rw [List.length_map] at hl2
          obtain ⟨vs', up⟩ := uPut_w (F := puts G (ws.map fun w => addw p w r (1 + t : Nat))) (vs := vs) (r := addw p w r (1 + (t : Int))) (d := .bl true) (puts_ne neF _) (by omega)
          have pl := ev_plus (p := p) (t := 1 + (t : Nat)) (a := w) (b := r) (π := π4) p0 (by rcases hp with rfl | rfl <;> omega) (isW_small wr hp) (sl24 (by rw [ww.1]; omega))
          have pl2 : ((1 + t : Nat) : Int) = 1 + (t : Int) := by omega
          refine ⟨_, rfl, ?_⟩
          have e6 : puts G ((ws ++ [w]).map fun w => addw p w r (1 + t : Nat)) = put (puts G (ws.map fun w => addw p w r (1 + t : Nat))) (addw p w r (1 + (t : Int))) := by
            rw [List.map_append, List.map_cons, List.map_nil, puts_snoc, pl2]
          rw [e6]
          simp only [e_sDPutT, pl, dicAt, up, ↓u_bd, ↓u_toS, ↓u_seq, bind_ok, bind_err, toS_ok, toS_err, seq_nx, seq_rt, seq_err, fin_nx, fin_rt, fin_err, opt_some, slD_sh, slB_sh, slB_ow, e_mBind, e_mOk, e_mOpt, e_mVar, e_mVarB, e_mNil, e_mCons, e_m1, e_m2, e_m2O, e_mC, e_mI, e_itSeq, e_mSome, e_mAnd, e_mOr, e_mTest, e_mT2, e_mChain, e_tAnd, e_tOr, e_tNot, e_mIf, e_mTup, e_mLst, e_mD, e_mCall, e_callF, e_mPen, e_mPenC, e_sPenPut, e_penPutK, e_sSeq, e_sSet, e_sSetO, e_sRet, e_sExpr, e_sNx, e_sIf, e_runF, e_mList, e_mSlice, e_sRaise, e_mMake, e_callI, d_add, d_sub, d_lt, d_le, d_gt, d_ge, d_eq, d_ne, d_asB, d_not, d_asI, d_ntN, d_intOf, d_neg, d_lenL, d_lenT, d_seqL, d_seqT, d_tupL, d_tupT, p_count, p_at, p_digits, p_fold, q_count, q_at, q_digits, q_fold, List.map_cons, List.map_nil, List.length_cons, List.length_nil, List.replicate_succ, List.replicate_zero, List.cons_append, List.nil_append, List.append_nil, List.getElem?_cons_zero, List.getElem?_cons_succ, List.set_cons_zero, List.set_cons_succ, wipeR, fName, fTup, fCons, fNil, Option.bind_some, Option.map_some, reduceIte, if_true, if_false, decide_eq_true_eq, Nat.reduceAdd, Nat.reduceSub, Nat.reduceLeDiff, Nat.reduceLT, Nat.zero_le, Bool.not_true, Bool.not_false, Bool.false_eq_true, Nat.zero_add]
          exact goes_nx ⟨rfl, vs', _, rfl⟩
        · subst e1 e2
          exact goes_nx ⟨rfl, _, _, _, rfl⟩
      · subst e1 e2
        exact goes_nx ⟨rfl, _, _, _, _, rfl⟩
  · subst e1 e2
    obtain ⟨nd, mem⟩ := spanL_ok hp hr
    have hne : spanL p n rows ≠ [] := fun z => by
      have := (mem (zerow n)).mpr .zero
      rw [z] at this; cases this
    have so := sortD_w (l := spanL p n rows) fun w hw e => by
      have := ((mem w).mp hw).w p0 hr
      rw [e] at this
      have := this.1
      simp at this
      omega
    simp only [e_mKeys, Own.D, keysT_w hne, so, ↓u_bd, ↓u_toS, ↓u_seq, bind_ok, bind_err, toS_ok, toS_err, seq_nx, seq_rt, seq_err, fin_nx, fin_rt, fin_err, opt_some, slD_sh, slB_sh, slB_ow, e_mBind, e_mOk, e_mOpt, e_mVar, e_mVarB, e_mNil, e_mCons, e_m1, e_m2, e_m2O, e_mC, e_mI, e_itSeq, e_mSome, e_mAnd, e_mOr, e_mTest, e_mT2, e_mChain, e_tAnd, e_tOr, e_tNot, e_mIf, e_mTup, e_mLst, e_mD, e_mCall, e_callF, e_mPen, e_mPenC, e_sPenPut, e_penPutK, e_sSeq, e_sSet, e_sSetO, e_sRet, e_sExpr, e_sNx, e_sIf, e_runF, e_mList, e_mSlice, e_sRaise, e_mMake, e_callI, d_add, d_sub, d_lt, d_le, d_gt, d_ge, d_eq, d_ne, d_asB, d_not, d_asI, d_ntN, d_intOf, d_neg, d_lenL, d_lenT, d_seqL, d_seqT, d_tupL, d_tupT, p_count, p_at, p_digits, p_fold, q_count, q_at, q_digits, q_fold, List.map_cons, List.map_nil, List.length_cons, List.length_nil, List.replicate_succ, List.replicate_zero, List.cons_append, List.nil_append, List.append_nil, List.getElem?_cons_zero, List.getElem?_cons_succ, List.set_cons_zero, List.set_cons_succ, wipeR, fName, fTup, fCons, fNil, Option.bind_some, Option.map_some, reduceIte, if_true, if_false, decide_eq_true_eq, Nat.reduceAdd, Nat.reduceSub, Nat.reduceLeDiff, Nat.reduceLT, Nat.zero_le, Bool.not_true, Bool.not_false, Bool.false_eq_true, Nat.zero_add]
theorem ev_words_drawn {m : Nat} {π1 : Pen} (h : PenOk k π1) (hp : P23 p) (hn : n ≤ 24) (hm : m ≤ 100) (hk : k + n * m ≤ 100000000000000) {it : M (List D)} {te : M D} {f : D → Rho → Option Rho} {vs : List Nat} {ρ : Rho} (hi : it ρ π = .ok ((List.range m).map fun i => D.int (0 + (i : Nat))) π1)
    (ht : ∀ i : Nat, ∃ ρ1, f (.int (0 + (i : Nat))) (wipeR ρ vs) = some ρ1 ∧ ∀ π, te ρ1 π = f__law_word [.pen, .int p, .int n] π) :
    ∃ rows π', mLc it f (mOk true) te vs ρ π = .ok (.lst (rows.map wD)) π' ∧ rows.length = m ∧ Rows p n rows ∧ PenOk (k + n * m) π' := by
  have hr : (List.range m).length = m := List.length_range
  obtain ⟨ys, π', e1, e2, e3, e4⟩ := mLc_rel (it := it) (f := f) (te := te) (vs := vs) (ρ := ρ) (π := π) (π1 := π1) (List.range m) (fun i => D.int (0 + (i : Nat)))
    (fun j π => PenOk (k + n * j) π) (fun _ y => ∃ w : List Int, y = wD w ∧ isW p n w) 0 hi rfl (sl24 (by rw [hr]; omega)) h (fun x hx j π2 hj1 hj hj2 => by
      rw [hr, Nat.zero_add] at hj
      obtain ⟨ρ1, r1, r2⟩ := ht x
      have q : n * j + n ≤ n * m := by
        rw [← Nat.mul_succ]; exact Nat.mul_le_mul_left n hj
      obtain ⟨w, π3, e, hw, h2⟩ := ev_word (n := n) hj2 (by omega) hp (by omega)
      exact ⟨ρ1, wD w, π3, r1, by rw [r2, e], ⟨w, rfl, hw⟩, by rw [Nat.mul_succ, ← Nat.add_assoc]; exact h2⟩)
  obtain ⟨w, rfl, hw⟩ := map_of (g := wD) (all_of e2 fun i x y a b => e3 i x y a b)
  rw [hr] at e2 e4
  rw [List.length_map] at e2
  rw [Nat.zero_add] at e4
  exact ⟨w, π', e1, e2, hw, e4⟩
theorem ev_some {most : Nat} (h : PenOk k π) (hk : k + 1000 ≤ 100000000000000) (h1 : 1 ≤ most) (h2 : most ≤ 24) : ∃ (p : Int) (n : Nat) (rows : List (List Int)) (π' : Pen), f__law_some [.pen, .int most] π = .ok (.tup [.int p, .int n, .lst (rows.map wD)]) π' ∧ P23 p ∧ 1 ≤ n ∧ (p = 2 → n ≤ most) ∧ (p = 3 → n ≤ (most + 1) / 2) ∧ n ≤ most ∧ Rows p n rows ∧ rows.length ≤ n + 2 ∧ PenOk (k + 1000) π' := by
  obtain ⟨i, d, π1, hi, hd, e1, k1⟩ := ev_pick (l := [.int 2, .int 2, .int 3]) h (by omega) (by simp) (by simp)
  have hd' : ∃ p, P23 p ∧ d = .int p := by
    match i, hi, hd with
    | 0, _, hd => cases hd; exact ⟨2, .inl rfl, rfl⟩
    | 1, _, hd => cases hd; exact ⟨2, .inl rfl, rfl⟩
    | 2, _, hd => cases hd; exact ⟨3, .inr rfl, rfl⟩
  obtain ⟨p, hp, rfl⟩ := hd'
  have mm : ∃ M : Nat, 1 ≤ M ∧ M ≤ most ∧ (p = 2 → M ≤ most) ∧ (p = 3 → M ≤ (most + 1) / 2) ∧ ∀ (ρ : Rho), ρ = [.sh .pen, .sh (.int most), .sh (.int p), .no, .no, .no, .no] → ∀ π, (mIf (mT2 eqD (mVar 2) (mOk (.int 2))) (mVar 1) (m2 divD (m2 addD (mVar 1) (mOk (.int 1))) (mOk (.int 2)))) ρ π = .ok (.int M) π := by
    rcases hp with rfl | rfl
    · refine ⟨most, h1, Nat.le_refl _, fun _ => Nat.le_refl _, fun z => by omega, fun ρ e π => ?_⟩
      subst e
      simp only [decide_true, ↓u_bd, ↓u_toS, ↓u_seq, bind_ok, bind_err, toS_ok, toS_err, seq_nx, seq_rt, seq_err, fin_nx, fin_rt, fin_err, opt_some, slD_sh, slB_sh, slB_ow, e_mBind, e_mOk, e_mOpt, e_mVar, e_mVarB, e_mNil, e_mCons, e_m1, e_m2, e_m2O, e_mC, e_mI, e_itSeq, e_mSome, e_mAnd, e_mOr, e_mTest, e_mT2, e_mChain, e_tAnd, e_tOr, e_tNot, e_mIf, e_mTup, e_mLst, e_mD, e_mCall, e_callF, e_mPen, e_mPenC, e_sPenPut, e_penPutK, e_sSeq, e_sSet, e_sSetO, e_sRet, e_sExpr, e_sNx, e_sIf, e_runF, e_mList, e_mSlice, e_sRaise, e_mMake, e_callI, d_add, d_sub, d_lt, d_le, d_gt, d_ge, d_eq, d_ne, d_asB, d_not, d_asI, d_ntN, d_intOf, d_neg, d_lenL, d_lenT, d_seqL, d_seqT, d_tupL, d_tupT, p_count, p_at, p_digits, p_fold, q_count, q_at, q_digits, q_fold, List.map_cons, List.map_nil, List.length_cons, List.length_nil, List.replicate_succ, List.replicate_zero, List.cons_append, List.nil_append, List.append_nil, List.getElem?_cons_zero, List.getElem?_cons_succ, List.set_cons_zero, List.set_cons_succ, wipeR, fName, fTup, fCons, fNil, Option.bind_some, Option.map_some, reduceIte, if_true, if_false, decide_eq_true_eq, Nat.reduceAdd, Nat.reduceSub, Nat.reduceLeDiff, Nat.reduceLT, Nat.zero_le, Bool.not_true, Bool.not_false, Bool.false_eq_true, Nat.zero_add]
    · refine ⟨(most + 1) / 2, by omega, by omega, fun z => by omega, fun _ => Nat.le_refl _, fun ρ e π => ?_⟩
      subst e
      have c : decide ((3 : Int) = 2) = false := rfl
      have dv := d_div (i := (most : Int) + 1) (j := 2) (by decide) (by decide)
      simp only [c, dv, ↓u_bd, ↓u_toS, ↓u_seq, bind_ok, bind_err, toS_ok, toS_err, seq_nx, seq_rt, seq_err, fin_nx, fin_rt, fin_err, opt_some, slD_sh, slB_sh, slB_ow, e_mBind, e_mOk, e_mOpt, e_mVar, e_mVarB, e_mNil, e_mCons, e_m1, e_m2, e_m2O, e_mC, e_mI, e_itSeq, e_mSome, e_mAnd, e_mOr, e_mTest, e_mT2, e_mChain, e_tAnd, e_tOr, e_tNot, e_mIf, e_mTup, e_mLst, e_mD, e_mCall, e_callF, e_mPen, e_mPenC, e_sPenPut, e_penPutK, e_sSeq, e_sSet, e_sSetO, e_sRet, e_sExpr, e_sNx, e_sIf, e_runF, e_mList, e_mSlice, e_sRaise, e_mMake, e_callI, d_add, d_sub, d_lt, d_le, d_gt, d_ge, d_eq, d_ne, d_asB, d_not, d_asI, d_ntN, d_intOf, d_neg, d_lenL, d_lenT, d_seqL, d_seqT, d_tupL, d_tupT, p_count, p_at, p_digits, p_fold, q_count, q_at, q_digits, q_fold, List.map_cons, List.map_nil, List.length_cons, List.length_nil, List.replicate_succ, List.replicate_zero, List.cons_append, List.nil_append, List.append_nil, List.getElem?_cons_zero, List.getElem?_cons_succ, List.set_cons_zero, List.set_cons_succ, wipeR, fName, fTup, fCons, fNil, Option.bind_some, Option.map_some, reduceIte, if_true, if_false, decide_eq_true_eq, Nat.reduceAdd, Nat.reduceSub, Nat.reduceLeDiff, Nat.reduceLT, Nat.zero_le, Bool.not_true, Bool.not_false, Bool.false_eq_true, Nat.zero_add]
      rw [show ((most : Int) + 1) / 2 = (((most + 1) / 2 : Nat) : Int) by omega]
  obtain ⟨M, g1, g2, g3, g4, g5⟩ := mm
  obtain ⟨a, π2, e2, a0, a1, k2⟩ := ev_draw (many := (M : Nat)) k1 (by omega) (by omega) (by omega)
  have en : ∃ n : Nat, (1 : Int) + a = n ∧ 1 ≤ n ∧ n ≤ M := ⟨(1 + a).toNat, by omega, by omega, by omega⟩
  obtain ⟨n, en, n1, n2⟩ := en
  obtain ⟨b, π3, e3, b0, b1, k3⟩ := ev_draw (many := (n : Int) + 2) k2 (by omega) (by omega) (by omega)
  have eb : ∃ m : Nat, b = m ∧ m < n + 2 := ⟨b.toNat, by omega, by omega⟩
  obtain ⟨m, rfl, mlt⟩ := eb
  have nm : n * m ≤ 24 * 25 := Nat.mul_le_mul (by omega) (by omega)
  obtain ⟨rows, π4, e4, rl, rr, k4⟩ := ev_words_drawn (m := m) (π := π2) k3 hp (n := n) (by omega) (by omega) (by omega)
    (it := mI range1 (mCons (mCall 2 f__law_draw [] (mCons (mVar 0) (mCons (m2 addD (mVar 3) (mOk (.int 2))) mNil))) mNil)) (te := mCall 3 f__law_word [] (mCons (mVar 0) (mCons (mVar 2) (mCons (mVar 3) mNil)))) (f := fName 5) (vs := [5]) (ρ := [.sh .pen, .sh (.int most), .sh (.int p), .sh (.int n), .no, .no, .no])
    (by simp only [e3, range1_nat (show m ≤ 1000000 by omega), ↓u_bd, ↓u_toS, ↓u_seq, bind_ok, bind_err, toS_ok, toS_err, seq_nx, seq_rt, seq_err, fin_nx, fin_rt, fin_err, opt_some, slD_sh, slB_sh, slB_ow, e_mBind, e_mOk, e_mOpt, e_mVar, e_mVarB, e_mNil, e_mCons, e_m1, e_m2, e_m2O, e_mC, e_mI, e_itSeq, e_mSome, e_mAnd, e_mOr, e_mTest, e_mT2, e_mChain, e_tAnd, e_tOr, e_tNot, e_mIf, e_mTup, e_mLst, e_mD, e_mCall, e_callF, e_mPen, e_mPenC, e_sPenPut, e_penPutK, e_sSeq, e_sSet, e_sSetO, e_sRet, e_sExpr, e_sNx, e_sIf, e_runF, e_mList, e_mSlice, e_sRaise, e_mMake, e_callI, d_add, d_sub, d_lt, d_le, d_gt, d_ge, d_eq, d_ne, d_asB, d_not, d_asI, d_ntN, d_intOf, d_neg, d_lenL, d_lenT, d_seqL, d_seqT, d_tupL, d_tupT, p_count, p_at, p_digits, p_fold, q_count, q_at, q_digits, q_fold, List.map_cons, List.map_nil, List.length_cons, List.length_nil, List.replicate_succ, List.replicate_zero, List.cons_append, List.nil_append, List.append_nil, List.getElem?_cons_zero, List.getElem?_cons_succ, List.set_cons_zero, List.set_cons_succ, wipeR, fName, fTup, fCons, fNil, Option.bind_some, Option.map_some, reduceIte, if_true, if_false, decide_eq_true_eq, Nat.reduceAdd, Nat.reduceSub, Nat.reduceLeDiff, Nat.reduceLT, Nat.zero_le, Bool.not_true, Bool.not_false, Bool.false_eq_true, Nat.zero_add]) (fun i => ⟨_, rfl, fun π => by simp only [↓u_bd, ↓u_toS, ↓u_seq, bind_ok, bind_err, toS_ok, toS_err, seq_nx, seq_rt, seq_err, fin_nx, fin_rt, fin_err, opt_some, slD_sh, slB_sh, slB_ow, e_mBind, e_mOk, e_mOpt, e_mVar, e_mVarB, e_mNil, e_mCons, e_m1, e_m2, e_m2O, e_mC, e_mI, e_itSeq, e_mSome, e_mAnd, e_mOr, e_mTest, e_mT2, e_mChain, e_tAnd, e_tOr, e_tNot, e_mIf, e_mTup, e_mLst, e_mD, e_mCall, e_callF, e_mPen, e_mPenC, e_sPenPut, e_penPutK, e_sSeq, e_sSet, e_sSetO, e_sRet, e_sExpr, e_sNx, e_sIf, e_runF, e_mList, e_mSlice, e_sRaise, e_mMake, e_callI, d_add, d_sub, d_lt, d_le, d_gt, d_ge, d_eq, d_ne, d_asB, d_not, d_asI, d_ntN, d_intOf, d_neg, d_lenL, d_lenT, d_seqL, d_seqT, d_tupL, d_tupT, p_count, p_at, p_digits, p_fold, q_count, q_at, q_digits, q_fold, List.map_cons, List.map_nil, List.length_cons, List.length_nil, List.replicate_succ, List.replicate_zero, List.cons_append, List.nil_append, List.append_nil, List.getElem?_cons_zero, List.getElem?_cons_succ, List.set_cons_zero, List.set_cons_succ, wipeR, fName, fTup, fCons, fNil, Option.bind_some, Option.map_some, reduceIte, if_true, if_false, decide_eq_true_eq, Nat.reduceAdd, Nat.reduceSub, Nat.reduceLeDiff, Nat.reduceLT, Nat.zero_le, Bool.not_true, Bool.not_false, Bool.false_eq_true, Nat.zero_add]⟩)
  obtain ⟨c, π5, e5, c0, c1, k5⟩ := ev_draw (many := 4) k4 (by omega) (by decide) (by decide)
  refine ⟨p, n, ?_⟩
  have key : ∃ rows' : List (List Int), f__law_some [.pen, .int most] π = .ok (.tup [.int p, .int n, .lst (rows'.map wD)]) π5 ∧ Rows p n rows' ∧ rows'.length ≤ n + 2 := by
    by_cases c2 : c = 0
    · have many : ∀ w ∈ rows, ∃ j : Nat, ∀ π, f__law_many [wD w] π = .ok (.int j) π := fun w hw => by
        have hz : w.length ≤ 1000 := by rw [(rr w hw).1]; omega
        refine ⟨(w.filter fun q => !decide (q = 0)).length, fun π => ?_⟩
        exact ev_many' hz
      have k6 : mLc (itSeq (mVar 4)) (fName 6) (mT2 neD (mCall 1 f__law_many [] (mCons (mVar 6) mNil)) (mOk (.int 1))) (mVar 6) [6] [.sh .pen, .sh (.int most), .sh (.int p), .sh (.int n), .sh (.lst (rows.map wD)), .no, .no] π5 = .ok (.lst ((rows.filter heavy).map wD)) π5 := by
        refine mLc_map rows wD heavy wD (xs := rows.map wD) ?_ rfl (sl24 (by omega)) fun w hw => ⟨_, rfl, ?_, fun _ => ?_⟩
        · simp only [d_seqL, ↓u_bd, ↓u_toS, ↓u_seq, bind_ok, bind_err, toS_ok, toS_err, seq_nx, seq_rt, seq_err, fin_nx, fin_rt, fin_err, opt_some, slD_sh, slB_sh, slB_ow, e_mBind, e_mOk, e_mOpt, e_mVar, e_mVarB, e_mNil, e_mCons, e_m1, e_m2, e_m2O, e_mC, e_mI, e_itSeq, e_mSome, e_mAnd, e_mOr, e_mTest, e_mT2, e_mChain, e_tAnd, e_tOr, e_tNot, e_mIf, e_mTup, e_mLst, e_mD, e_mCall, e_callF, e_mPen, e_mPenC, e_sPenPut, e_penPutK, e_sSeq, e_sSet, e_sSetO, e_sRet, e_sExpr, e_sNx, e_sIf, e_runF, e_mList, e_mSlice, e_sRaise, e_mMake, e_callI, d_add, d_sub, d_lt, d_le, d_gt, d_ge, d_eq, d_ne, d_asB, d_not, d_asI, d_ntN, d_intOf, d_neg, d_lenL, d_lenT, d_seqL, d_seqT, d_tupL, d_tupT, p_count, p_at, p_digits, p_fold, q_count, q_at, q_digits, q_fold, List.map_cons, List.map_nil, List.length_cons, List.length_nil, List.replicate_succ, List.replicate_zero, List.cons_append, List.nil_append, List.append_nil, List.getElem?_cons_zero, List.getElem?_cons_succ, List.set_cons_zero, List.set_cons_succ, wipeR, fName, fTup, fCons, fNil, Option.bind_some, Option.map_some, reduceIte, if_true, if_false, decide_eq_true_eq, Nat.reduceAdd, Nat.reduceSub, Nat.reduceLeDiff, Nat.reduceLT, Nat.zero_le, Bool.not_true, Bool.not_false, Bool.false_eq_true, Nat.zero_add]
        · simp only [heavy, ev_many' (show w.length ≤ 1000 by rw [(rr w hw).1]; omega), ↓u_bd, ↓u_toS, ↓u_seq, bind_ok, bind_err, toS_ok, toS_err, seq_nx, seq_rt, seq_err, fin_nx, fin_rt, fin_err, opt_some, slD_sh, slB_sh, slB_ow, e_mBind, e_mOk, e_mOpt, e_mVar, e_mVarB, e_mNil, e_mCons, e_m1, e_m2, e_m2O, e_mC, e_mI, e_itSeq, e_mSome, e_mAnd, e_mOr, e_mTest, e_mT2, e_mChain, e_tAnd, e_tOr, e_tNot, e_mIf, e_mTup, e_mLst, e_mD, e_mCall, e_callF, e_mPen, e_mPenC, e_sPenPut, e_penPutK, e_sSeq, e_sSet, e_sSetO, e_sRet, e_sExpr, e_sNx, e_sIf, e_runF, e_mList, e_mSlice, e_sRaise, e_mMake, e_callI, d_add, d_sub, d_lt, d_le, d_gt, d_ge, d_eq, d_ne, d_asB, d_not, d_asI, d_ntN, d_intOf, d_neg, d_lenL, d_lenT, d_seqL, d_seqT, d_tupL, d_tupT, p_count, p_at, p_digits, p_fold, q_count, q_at, q_digits, q_fold, List.map_cons, List.map_nil, List.length_cons, List.length_nil, List.replicate_succ, List.replicate_zero, List.cons_append, List.nil_append, List.append_nil, List.getElem?_cons_zero, List.getElem?_cons_succ, List.set_cons_zero, List.set_cons_succ, wipeR, fName, fTup, fCons, fNil, Option.bind_some, Option.map_some, reduceIte, if_true, if_false, decide_eq_true_eq, Nat.reduceAdd, Nat.reduceSub, Nat.reduceLeDiff, Nat.reduceLT, Nat.zero_le, Bool.not_true, Bool.not_false, Bool.false_eq_true, Nat.zero_add]
        · simp only [↓u_bd, ↓u_toS, ↓u_seq, bind_ok, bind_err, toS_ok, toS_err, seq_nx, seq_rt, seq_err, fin_nx, fin_rt, fin_err, opt_some, slD_sh, slB_sh, slB_ow, e_mBind, e_mOk, e_mOpt, e_mVar, e_mVarB, e_mNil, e_mCons, e_m1, e_m2, e_m2O, e_mC, e_mI, e_itSeq, e_mSome, e_mAnd, e_mOr, e_mTest, e_mT2, e_mChain, e_tAnd, e_tOr, e_tNot, e_mIf, e_mTup, e_mLst, e_mD, e_mCall, e_callF, e_mPen, e_mPenC, e_sPenPut, e_penPutK, e_sSeq, e_sSet, e_sSetO, e_sRet, e_sExpr, e_sNx, e_sIf, e_runF, e_mList, e_mSlice, e_sRaise, e_mMake, e_callI, d_add, d_sub, d_lt, d_le, d_gt, d_ge, d_eq, d_ne, d_asB, d_not, d_asI, d_ntN, d_intOf, d_neg, d_lenL, d_lenT, d_seqL, d_seqT, d_tupL, d_tupT, p_count, p_at, p_digits, p_fold, q_count, q_at, q_digits, q_fold, List.map_cons, List.map_nil, List.length_cons, List.length_nil, List.replicate_succ, List.replicate_zero, List.cons_append, List.nil_append, List.append_nil, List.getElem?_cons_zero, List.getElem?_cons_succ, List.set_cons_zero, List.set_cons_succ, wipeR, fName, fTup, fCons, fNil, Option.bind_some, Option.map_some, reduceIte, if_true, if_false, decide_eq_true_eq, Nat.reduceAdd, Nat.reduceSub, Nat.reduceLeDiff, Nat.reduceLT, Nat.zero_le, Bool.not_true, Bool.not_false, Bool.false_eq_true, Nat.zero_add]
      refine ⟨rows.filter heavy ++ [List.replicate n 1], ?_, ?_, ?_⟩
      · have ap := d_addL (l := (rows.filter heavy).map wD) (m := [wD (List.replicate n 1)]) (sl24 (by
          have := List.length_filter_le heavy rows
          rw [List.length_map, List.length_singleton]; omega))
        simp only [f__law_some, m__law_some, e1, g5 _ rfl, e2, en, e4, Own.D, e5, c2, decide_true, k6, mul_one1 (show n ≤ 1000 by omega), ap, ↓u_bd, ↓u_toS, ↓u_seq, bind_ok, bind_err, toS_ok, toS_err, seq_nx, seq_rt, seq_err, fin_nx, fin_rt, fin_err, opt_some, slD_sh, slB_sh, slB_ow, e_mBind, e_mOk, e_mOpt, e_mVar, e_mVarB, e_mNil, e_mCons, e_m1, e_m2, e_m2O, e_mC, e_mI, e_itSeq, e_mSome, e_mAnd, e_mOr, e_mTest, e_mT2, e_mChain, e_tAnd, e_tOr, e_tNot, e_mIf, e_mTup, e_mLst, e_mD, e_mCall, e_callF, e_mPen, e_mPenC, e_sPenPut, e_penPutK, e_sSeq, e_sSet, e_sSetO, e_sRet, e_sExpr, e_sNx, e_sIf, e_runF, e_mList, e_mSlice, e_sRaise, e_mMake, e_callI, d_add, d_sub, d_lt, d_le, d_gt, d_ge, d_eq, d_ne, d_asB, d_not, d_asI, d_ntN, d_intOf, d_neg, d_lenL, d_lenT, d_seqL, d_seqT, d_tupL, d_tupT, p_count, p_at, p_digits, p_fold, q_count, q_at, q_digits, q_fold, List.map_cons, List.map_nil, List.length_cons, List.length_nil, List.replicate_succ, List.replicate_zero, List.cons_append, List.nil_append, List.append_nil, List.getElem?_cons_zero, List.getElem?_cons_succ, List.set_cons_zero, List.set_cons_succ, wipeR, fName, fTup, fCons, fNil, Option.bind_some, Option.map_some, reduceIte, if_true, if_false, decide_eq_true_eq, Nat.reduceAdd, Nat.reduceSub, Nat.reduceLeDiff, Nat.reduceLT, Nat.zero_le, Bool.not_true, Bool.not_false, Bool.false_eq_true, Nat.zero_add]
        rw [List.map_append]
        rfl
      · intro w hw
        rcases List.mem_append.mp hw with q | q
        · exact rr w (List.mem_filter.mp q).1
        · rw [List.mem_singleton.mp q]
          refine ⟨List.length_replicate, fun x hx => ?_⟩
          rw [(List.mem_replicate.mp hx).2]
          rcases hp with rfl | rfl <;> omega
      · have := List.length_filter_le heavy rows
        rw [List.length_append, List.length_singleton]
        omega
    · refine ⟨rows, ?_, rr, by omega⟩
      simp only [f__law_some, m__law_some, e1, g5 _ rfl, e2, en, e4, Own.D, e5, c2, decide_false, ↓u_bd, ↓u_toS, ↓u_seq, bind_ok, bind_err, toS_ok, toS_err, seq_nx, seq_rt, seq_err, fin_nx, fin_rt, fin_err, opt_some, slD_sh, slB_sh, slB_ow, e_mBind, e_mOk, e_mOpt, e_mVar, e_mVarB, e_mNil, e_mCons, e_m1, e_m2, e_m2O, e_mC, e_mI, e_itSeq, e_mSome, e_mAnd, e_mOr, e_mTest, e_mT2, e_mChain, e_tAnd, e_tOr, e_tNot, e_mIf, e_mTup, e_mLst, e_mD, e_mCall, e_callF, e_mPen, e_mPenC, e_sPenPut, e_penPutK, e_sSeq, e_sSet, e_sSetO, e_sRet, e_sExpr, e_sNx, e_sIf, e_runF, e_mList, e_mSlice, e_sRaise, e_mMake, e_callI, d_add, d_sub, d_lt, d_le, d_gt, d_ge, d_eq, d_ne, d_asB, d_not, d_asI, d_ntN, d_intOf, d_neg, d_lenL, d_lenT, d_seqL, d_seqT, d_tupL, d_tupT, p_count, p_at, p_digits, p_fold, q_count, q_at, q_digits, q_fold, List.map_cons, List.map_nil, List.length_cons, List.length_nil, List.replicate_succ, List.replicate_zero, List.cons_append, List.nil_append, List.append_nil, List.getElem?_cons_zero, List.getElem?_cons_succ, List.set_cons_zero, List.set_cons_succ, wipeR, fName, fTup, fCons, fNil, Option.bind_some, Option.map_some, reduceIte, if_true, if_false, decide_eq_true_eq, Nat.reduceAdd, Nat.reduceSub, Nat.reduceLeDiff, Nat.reduceLT, Nat.zero_le, Bool.not_true, Bool.not_false, Bool.false_eq_true, Nat.zero_add]
  obtain ⟨rows', e6, r1, r2⟩ := key
  exact ⟨rows', π5, e6, hp, n1, fun z => Nat.le_trans n2 (g3 z), fun z => Nat.le_trans n2 (g4 z), Nat.le_trans n2 g2, r1, r2, k5.mono (by omega)⟩
theorem ev_code_odd {d : D} (h : d ∈ oddL) : f_Code_init [d, .non, .non] π = .err "BadNumber" ["value", "what"] [d, .str "p"] π := by
  simp only [oddL, List.mem_cons, List.not_mem_nil, or_false] at h
  rcases h with rfl | rfl | rfl | rfl | rfl | rfl | rfl | rfl | rfl <;> rfl
theorem ev_code_wrong {d : D} (hp : P23 p) (h : d ∈ wrongL) : f_Code_init [.int p, d, .non] π = .err "BadNumber" ["value", "what"] [d, .str "n"] π := by
  simp only [wrongL, List.mem_cons, List.not_mem_nil, or_false] at h
  rcases hp with rfl | rfl <;> rcases h with rfl | rfl | rfl | rfl | rfl | rfl <;> rfl
theorem ev_code_bad {d : D} (hp : P23 p) (h1 : 1 ≤ n) (h2 : n ≤ 7) (hd : d ∈ badL p n) : f_Code_init [.int p, .int n, d] π = .err "BadRows" ["value"] [d] π := by
  have f := fit_bad hp h1 h2 hd
  unfold badFit at f
  simp only [Bool.and_eq_true] at f
  obtain ⟨f1, f2, f3, f4, f5⟩ := f
  have nd := ev_need (π := π) (n := n) hp (by omega) (by omega)
  have f3 := of_decide_eq_true f3
  by_cases hr : isR d = true
  · have e1 : ∀ x ∈ seqL d, f_is_letters [.int p, .int n, x] π = .ok (.bl (wordB p n x)) π := fun x hx => by
      have q := List.all_eq_true.mp f2 x hx
      unfold rowFit at q
      simp only [Bool.and_eq_true] at q
      obtain ⟨q1, q2, q3⟩ := q
      exact ev_is_letters q1 (fun y hy => List.all_eq_true.mp q2 y hy) (sl24 (by have := of_decide_eq_true q3; omega))
    have es : seqOf d = some (seqL d) := by cases d <;> first | rfl | cases hr
    have k : mLc (itSeq (mVar 3)) (fName 4) (mOk true) (mCall 3 f_is_letters [] (mCons (mVar 1) (mCons (mVar 2) (mCons (mVar 4) mNil)))) [4] [.ow (.ins "Code" [] []), .sh (.int p), .sh (.int n), .sh d, .no] π = .ok (.lst ((seqL d).map fun x => .bl (wordB p n x))) π := by
      refine mLc_all (seqL d) id (fun x => .bl (wordB p n x)) (xs := seqL d) ?_ (by rw [List.map_id]) (sl24 (by omega)) fun x hx => ⟨_, rfl, ?_⟩
      · simp only [es, ↓u_bd, ↓u_toS, ↓u_seq, bind_ok, bind_err, toS_ok, toS_err, seq_nx, seq_rt, seq_err, fin_nx, fin_rt, fin_err, opt_some, slD_sh, slB_sh, slB_ow, e_mBind, e_mOk, e_mOpt, e_mVar, e_mVarB, e_mNil, e_mCons, e_m1, e_m2, e_m2O, e_mC, e_mI, e_itSeq, e_mSome, e_mAnd, e_mOr, e_mTest, e_mT2, e_mChain, e_tAnd, e_tOr, e_tNot, e_mIf, e_mTup, e_mLst, e_mD, e_mCall, e_callF, e_mPen, e_mPenC, e_sPenPut, e_penPutK, e_sSeq, e_sSet, e_sSetO, e_sRet, e_sExpr, e_sNx, e_sIf, e_runF, e_mList, e_mSlice, e_sRaise, e_mMake, e_callI, d_add, d_sub, d_lt, d_le, d_gt, d_ge, d_eq, d_ne, d_asB, d_not, d_asI, d_ntN, d_intOf, d_neg, d_lenL, d_lenT, d_seqL, d_seqT, d_tupL, d_tupT, p_count, p_at, p_digits, p_fold, q_count, q_at, q_digits, q_fold, List.map_cons, List.map_nil, List.length_cons, List.length_nil, List.replicate_succ, List.replicate_zero, List.cons_append, List.nil_append, List.append_nil, List.getElem?_cons_zero, List.getElem?_cons_succ, List.set_cons_zero, List.set_cons_succ, wipeR, fName, fTup, fCons, fNil, Option.bind_some, Option.map_some, reduceIte, if_true, if_false, decide_eq_true_eq, Nat.reduceAdd, Nat.reduceSub, Nat.reduceLeDiff, Nat.reduceLT, Nat.zero_le, Bool.not_true, Bool.not_false, Bool.false_eq_true, Nat.zero_add]
      · simp only [id, e1 x hx, ↓u_bd, ↓u_toS, ↓u_seq, bind_ok, bind_err, toS_ok, toS_err, seq_nx, seq_rt, seq_err, fin_nx, fin_rt, fin_err, opt_some, slD_sh, slB_sh, slB_ow, e_mBind, e_mOk, e_mOpt, e_mVar, e_mVarB, e_mNil, e_mCons, e_m1, e_m2, e_m2O, e_mC, e_mI, e_itSeq, e_mSome, e_mAnd, e_mOr, e_mTest, e_mT2, e_mChain, e_tAnd, e_tOr, e_tNot, e_mIf, e_mTup, e_mLst, e_mD, e_mCall, e_callF, e_mPen, e_mPenC, e_sPenPut, e_penPutK, e_sSeq, e_sSet, e_sSetO, e_sRet, e_sExpr, e_sNx, e_sIf, e_runF, e_mList, e_mSlice, e_sRaise, e_mMake, e_callI, d_add, d_sub, d_lt, d_le, d_gt, d_ge, d_eq, d_ne, d_asB, d_not, d_asI, d_ntN, d_intOf, d_neg, d_lenL, d_lenT, d_seqL, d_seqT, d_tupL, d_tupT, p_count, p_at, p_digits, p_fold, q_count, q_at, q_digits, q_fold, List.map_cons, List.map_nil, List.length_cons, List.length_nil, List.replicate_succ, List.replicate_zero, List.cons_append, List.nil_append, List.append_nil, List.getElem?_cons_zero, List.getElem?_cons_succ, List.set_cons_zero, List.set_cons_succ, wipeR, fName, fTup, fCons, fNil, Option.bind_some, Option.map_some, reduceIte, if_true, if_false, decide_eq_true_eq, Nat.reduceAdd, Nat.reduceSub, Nat.reduceLeDiff, Nat.reduceLT, Nat.zero_le, Bool.not_true, Bool.not_false, Bool.false_eq_true, Nat.zero_add]
    have al := allD_map (wordB p n) (seqL d)
    have ff : (seqL d).all (wordB p n) = false := by
      rw [hr, Bool.true_and] at f4
      simpa using f4
    rw [ff] at al
    rw [f_Code_init, e_runI]
    simp only [m_Code_init, nd, ev_is_row, f1, hr, k, Own.D, al, ↓u_bd, ↓u_toS, ↓u_seq, bind_ok, bind_err, toS_ok, toS_err, seq_nx, seq_rt, seq_err, fin_nx, fin_rt, fin_err, opt_some, slD_sh, slB_sh, slB_ow, e_mBind, e_mOk, e_mOpt, e_mVar, e_mVarB, e_mNil, e_mCons, e_m1, e_m2, e_m2O, e_mC, e_mI, e_itSeq, e_mSome, e_mAnd, e_mOr, e_mTest, e_mT2, e_mChain, e_tAnd, e_tOr, e_tNot, e_mIf, e_mTup, e_mLst, e_mD, e_mCall, e_callF, e_mPen, e_mPenC, e_sPenPut, e_penPutK, e_sSeq, e_sSet, e_sSetO, e_sRet, e_sExpr, e_sNx, e_sIf, e_runF, e_mList, e_mSlice, e_sRaise, e_mMake, e_callI, d_add, d_sub, d_lt, d_le, d_gt, d_ge, d_eq, d_ne, d_asB, d_not, d_asI, d_ntN, d_intOf, d_neg, d_lenL, d_lenT, d_seqL, d_seqT, d_tupL, d_tupT, p_count, p_at, p_digits, p_fold, q_count, q_at, q_digits, q_fold, List.map_cons, List.map_nil, List.length_cons, List.length_nil, List.replicate_succ, List.replicate_zero, List.cons_append, List.nil_append, List.append_nil, List.getElem?_cons_zero, List.getElem?_cons_succ, List.set_cons_zero, List.set_cons_succ, wipeR, fName, fTup, fCons, fNil, Option.bind_some, Option.map_some, reduceIte, if_true, if_false, decide_eq_true_eq, Nat.reduceAdd, Nat.reduceSub, Nat.reduceLeDiff, Nat.reduceLT, Nat.zero_le, Bool.not_true, Bool.not_false, Bool.false_eq_true, Nat.zero_add]
    rfl
  · have hr : isR d = false := by simpa using hr
    rw [f_Code_init, e_runI]
    simp only [m_Code_init, nd, ev_is_row, f1, hr, ↓u_bd, ↓u_toS, ↓u_seq, bind_ok, bind_err, toS_ok, toS_err, seq_nx, seq_rt, seq_err, fin_nx, fin_rt, fin_err, opt_some, slD_sh, slB_sh, slB_ow, e_mBind, e_mOk, e_mOpt, e_mVar, e_mVarB, e_mNil, e_mCons, e_m1, e_m2, e_m2O, e_mC, e_mI, e_itSeq, e_mSome, e_mAnd, e_mOr, e_mTest, e_mT2, e_mChain, e_tAnd, e_tOr, e_tNot, e_mIf, e_mTup, e_mLst, e_mD, e_mCall, e_callF, e_mPen, e_mPenC, e_sPenPut, e_penPutK, e_sSeq, e_sSet, e_sSetO, e_sRet, e_sExpr, e_sNx, e_sIf, e_runF, e_mList, e_mSlice, e_sRaise, e_mMake, e_callI, d_add, d_sub, d_lt, d_le, d_gt, d_ge, d_eq, d_ne, d_asB, d_not, d_asI, d_ntN, d_intOf, d_neg, d_lenL, d_lenT, d_seqL, d_seqT, d_tupL, d_tupT, p_count, p_at, p_digits, p_fold, q_count, q_at, q_digits, q_fold, List.map_cons, List.map_nil, List.length_cons, List.length_nil, List.replicate_succ, List.replicate_zero, List.cons_append, List.nil_append, List.append_nil, List.getElem?_cons_zero, List.getElem?_cons_succ, List.set_cons_zero, List.set_cons_succ, wipeR, fName, fTup, fCons, fNil, Option.bind_some, Option.map_some, reduceIte, if_true, if_false, decide_eq_true_eq, Nat.reduceAdd, Nat.reduceSub, Nat.reduceLeDiff, Nat.reduceLT, Nat.zero_le, Bool.not_true, Bool.not_false, Bool.false_eq_true, Nat.zero_add]
    rfl
theorem eqO_code {q : Int} {m : Nat} {C : List (List Int)} : eqO false CS "Code" f_Code_eq (codeD p n B) (codeD q m C) π = .ok (.bl (decide (p = q) && (decide (n = m) && decide (B = C)))) π := by
  show ((callF 2 f_Code_eq [codeD p n B, codeD q m C] π).bind fun r π => (match r with | .bl b => Out.ok (D.bl (b ^^ false)) π | _ => .bad)) = _
  rw [e_callF (show [codeD p n B, codeD q m C].length = 2 from rfl), ev_eq, obind_ok]
  simp
theorem eqO_tup {l : List D} : eqO false CS "Code" f_Code_eq (codeD p n B) (.tup l) π = .ok (.bl false) π := by
  show ((callF 2 f_Code_eq [codeD p n B, .tup l] π).bind fun r π => (match r with | .bl b => Out.ok (D.bl (b ^^ false)) π | _ => .bad)) = _
  rw [e_callF (show [codeD p n B, D.tup l].length = 2 from rfl), ev_eq_no rfl, obind_ok]
  rfl
theorem ins_code : Own.D (.ins "Code" ["p", "n", "basis", "size"] [.int p, .int n, .tup (B.map wD), .int B.length]) = codeD p n B := rfl
theorem code_lst {rows : List (List Int)} (hp : P23 p) (h1 : 1 ≤ n) (hn : n ≤ 24) (hr : Rows p n rows) (hz : rows.length ≤ 1000) :
    f_Code_init [.int p, .int n, .lst (rows.map wD)] π = .ok (.ins "Code" ["p", "n", "basis", "size"] [.int p, .int n, .tup ((byLead (steps p rows)).map wD), .int (byLead (steps p rows)).length]) π := by
  have e : (rows.map fun w => (false, w)).map (·.2) = rows := by rw [List.map_map]; exact List.map_id _
  have e2 : (rows.map fun w => (false, w)).map rowD = rows.map wD := by rw [List.map_map]; rfl
  have := ev_code (c := true) (rows := rows.map fun w => (false, w)) (π := π) hp h1 hn (by rw [e]; exact hr) (by rw [List.length_map]; exact hz)
  rw [e, e2] at this
  exact this
theorem code_nil {n : Nat} (hp : P23 p) (h1 : 1 ≤ n) (hn : n ≤ 24) : f_Code_init [.int p, .int n, .lst []] π = .ok (.ins "Code" ["p", "n", "basis", "size"] [.int p, .int n, .tup [], .int 0]) π := by
  have h := code_lst (rows := []) (π := π) hp h1 hn (fun r hr => by cases hr) (by decide)
  have e : byLead (steps p []) = [] := by
    unfold byLead
    rw [show steps p [] = [] from rfl, List.map_nil, List.mergeSort_nil]; rfl
  rw [e] at h
  exact h
theorem ins_nil : Own.D (.ins "Code" ["p", "n", "basis", "size"] [.int p, .int n, .tup [], .int 0]) = codeD p n [] := rfl
end
end L2.Dl.W
end

section
set_option maxRecDepth 100000
set_option maxHeartbeats 8000000
namespace L2.Dl
open PySem PySem.Spec PyProof.Rows CM
theorem e_sPut {i : Nat} {me mj : M D} {ρ : Rho} {π : Pen} : sPut i me mj ρ π = (me ρ π).toS fun d π1 => sMut i mj (fun l j => match j with
  | .int k => (ixN l.length k).map fun n => l.set n d
  | _ => none) ρ π1 := id rfl
theorem nin_ints {l : List Nat} {x : Nat} : ninD (.int x) (.lst (l.map fun i => D.int (i : Nat))) = some (.bl (!decide (x ∈ l))) := by
  have pl : plainD 60 (.lst (l.map fun i => D.int (i : Nat))) = true := by
    show (l.map fun i => D.int (i : Nat)).all (plainD 59) = true
    rw [List.all_map, List.all_eq_true]
    exact fun x _ => plain_int
  have e : ((l.map fun i => D.int (i : Nat)).any fun z => D.eqv z (.int x)) = decide (x ∈ l) := by
    rw [List.any_map]
    induction l with
    | nil => simp
    | cons a l ih =>
      have pl' : plainD 60 (.lst (l.map fun i => D.int (i : Nat))) = true := by
        show (l.map fun i => D.int (i : Nat)).all (plainD 59) = true
        rw [List.all_map, List.all_eq_true]
        exact fun x _ => plain_int
      rw [List.any_cons, ih pl']
      show (((a : Int) == (x : Int)) || decide (x ∈ l)) = _
      by_cases h : x = a
      · subst h; simp
      · have h' : ¬ ((a : Int) = x) := by omega
        simp [h, h']
  show ((if (plainD 60 (.int x) && plainD 60 (.lst (l.map fun i => D.int (i : Nat)))) = true then some ((l.map fun i => D.int (i : Nat)).any fun z => D.eqv z (.int x)) else none).map fun b => D.bl (!b)) = _
  rw [plain_int, pl]
  show some (D.bl (!((l.map fun i => D.int (i : Nat)).any fun z => D.eqv z (.int x)))) = _
  rw [e]
theorem zip_leads {B : List (List Int)} : zipA [.tup (B.map wD), .lst (B.map fun b => D.int (leadN b))] = some (B.map fun b => D.tup [wD b, .int (leadN b)]) := by
  show some (zipD _ _) = _
  unfold zipD
  rw [List.zip_map', List.map_map]
  rfl
theorem mod_sub {p a : Int} (hp : 0 < p) : modD (.int (p - a)) (.int p) = some (.int ((p - a) % p)) := d_mod hp
end L2.Dl
namespace L2.Dl.W
open PySem PySem.Spec PyProof.Rows L2 LamX CM
section
variable {p : Int} {n : Nat} {B : List (List Int)} {π : Pen} {k : Nat}
theorem ev_mirror_words (hp : P23 p) (hn : n ≤ 60) (r : Red p n B) (hB : B.length ≤ 60) : f_mirror_words [codeD p n B] π = .ok (.lst ((mirW p n B).map wD)) π := by
  have p0 := hp.pos
  have k1 : mLc (itSeq (m1 (fldD CS "basis") (mVar 0))) (fName 2) (mOk true) (mCall 1 f_lead_of [] (mCons (mVar 2) mNil)) [2] [.sh (codeD p n B), .no, .no, .no, .no, .no, .no] π = .ok (.lst (B.map fun b => D.int (leadN b))) π := by
    refine mLc_all B wD (fun b => D.int (leadN b)) (xs := B.map wD) ?_ rfl (sl24 (by omega)) fun b hb => ⟨_, rfl, ?_⟩
    · simp only [fld_b, ↓u_bd, ↓u_toS, ↓u_seq, bind_ok, bind_err, toS_ok, toS_err, seq_nx, seq_rt, seq_err, fin_nx, fin_rt, fin_err, opt_some, slD_sh, slB_sh, slB_ow, e_mBind, e_mOk, e_mOpt, e_mVar, e_mVarB, e_mNil, e_mCons, e_m1, e_m2, e_m2O, e_mC, e_mI, e_itSeq, e_mSome, e_mAnd, e_mOr, e_mTest, e_mT2, e_mChain, e_tAnd, e_tOr, e_tNot, e_mIf, e_mTup, e_mLst, e_mD, e_mCall, e_callF, e_mPen, e_mPenC, e_sPenPut, e_penPutK, e_sSeq, e_sSet, e_sSetO, e_sRet, e_sExpr, e_sNx, e_sIf, e_runF, e_mList, e_mSlice, e_sRaise, e_mMake, e_callI, d_add, d_sub, d_lt, d_le, d_gt, d_ge, d_eq, d_ne, d_asB, d_not, d_asI, d_ntN, d_intOf, d_neg, d_lenL, d_lenT, d_seqL, d_seqT, d_tupL, d_tupT, p_count, p_at, p_digits, p_fold, q_count, q_at, q_digits, q_fold, List.map_cons, List.map_nil, List.length_cons, List.length_nil, List.replicate_succ, List.replicate_zero, List.cons_append, List.nil_append, List.append_nil, List.getElem?_cons_zero, List.getElem?_cons_succ, List.set_cons_zero, List.set_cons_succ, wipeR, fName, fTup, fCons, fNil, Option.bind_some, Option.map_some, reduceIte, if_true, if_false, decide_eq_true_eq, Nat.reduceAdd, Nat.reduceSub, Nat.reduceLeDiff, Nat.reduceLT, Nat.zero_le, Bool.not_true, Bool.not_false, Bool.false_eq_true, Nat.zero_add]
    · have eL : leadD b = .int (leadN b) := by unfold leadD; rw [(r.leadN hb).1]
      simp only [ev_lead_of, eL, ↓u_bd, ↓u_toS, ↓u_seq, bind_ok, bind_err, toS_ok, toS_err, seq_nx, seq_rt, seq_err, fin_nx, fin_rt, fin_err, opt_some, slD_sh, slB_sh, slB_ow, e_mBind, e_mOk, e_mOpt, e_mVar, e_mVarB, e_mNil, e_mCons, e_m1, e_m2, e_m2O, e_mC, e_mI, e_itSeq, e_mSome, e_mAnd, e_mOr, e_mTest, e_mT2, e_mChain, e_tAnd, e_tOr, e_tNot, e_mIf, e_mTup, e_mLst, e_mD, e_mCall, e_callF, e_mPen, e_mPenC, e_sPenPut, e_penPutK, e_sSeq, e_sSet, e_sSetO, e_sRet, e_sExpr, e_sNx, e_sIf, e_runF, e_mList, e_mSlice, e_sRaise, e_mMake, e_callI, d_add, d_sub, d_lt, d_le, d_gt, d_ge, d_eq, d_ne, d_asB, d_not, d_asI, d_ntN, d_intOf, d_neg, d_lenL, d_lenT, d_seqL, d_seqT, d_tupL, d_tupT, p_count, p_at, p_digits, p_fold, q_count, q_at, q_digits, q_fold, List.map_cons, List.map_nil, List.length_cons, List.length_nil, List.replicate_succ, List.replicate_zero, List.cons_append, List.nil_append, List.append_nil, List.getElem?_cons_zero, List.getElem?_cons_succ, List.set_cons_zero, List.set_cons_succ, wipeR, fName, fTup, fCons, fNil, Option.bind_some, Option.map_some, reduceIte, if_true, if_false, decide_eq_true_eq, Nat.reduceAdd, Nat.reduceSub, Nat.reduceLeDiff, Nat.reduceLT, Nat.zero_le, Bool.not_true, Bool.not_false, Bool.false_eq_true, Nat.zero_add]
  simp only [f_mirror_words, m_mirror_words, k1, Own.D, ↓u_bd, ↓u_toS, ↓u_seq, bind_ok, bind_err, toS_ok, toS_err, seq_nx, seq_rt, seq_err, fin_nx, fin_rt, fin_err, opt_some, slD_sh, slB_sh, slB_ow, e_mBind, e_mOk, e_mOpt, e_mVar, e_mVarB, e_mNil, e_mCons, e_m1, e_m2, e_m2O, e_mC, e_mI, e_itSeq, e_mSome, e_mAnd, e_mOr, e_mTest, e_mT2, e_mChain, e_tAnd, e_tOr, e_tNot, e_mIf, e_mTup, e_mLst, e_mD, e_mCall, e_callF, e_mPen, e_mPenC, e_sPenPut, e_penPutK, e_sSeq, e_sSet, e_sSetO, e_sRet, e_sExpr, e_sNx, e_sIf, e_runF, e_mList, e_mSlice, e_sRaise, e_mMake, e_callI, d_add, d_sub, d_lt, d_le, d_gt, d_ge, d_eq, d_ne, d_asB, d_not, d_asI, d_ntN, d_intOf, d_neg, d_lenL, d_lenT, d_seqL, d_seqT, d_tupL, d_tupT, p_count, p_at, p_digits, p_fold, q_count, q_at, q_digits, q_fold, List.map_cons, List.map_nil, List.length_cons, List.length_nil, List.replicate_succ, List.replicate_zero, List.cons_append, List.nil_append, List.append_nil, List.getElem?_cons_zero, List.getElem?_cons_succ, List.set_cons_zero, List.set_cons_succ, wipeR, fName, fTup, fCons, fNil, Option.bind_some, Option.map_some, reduceIte, if_true, if_false, decide_eq_true_eq, Nat.reduceAdd, Nat.reduceSub, Nat.reduceLeDiff, Nat.reduceLT, Nat.zero_le, Bool.not_true, Bool.not_false, Bool.false_eq_true, Nat.zero_add]
  refine for_then (fun o => o.fin = .ok (.lst ((mirW p n B).map wD)) π) (List.range n) (fun i => D.int (0 + (i : Nat))) (fun d ρ π2 => π2 = π ∧ ∃ a b c e, ρ = [.sh (codeD p n B), .sh (.lst (B.map fun b => D.int (leadN b))), a, .ow (.lst (((d.filter fun x => !decide (x ∈ B.map leadN)).map (mw p n B)).map wD)), b, c, e]) (xs := (List.range n).map fun i => D.int (0 + (i : Nat))) (π1 := π) ?_ rfl ?_ (fun d x rest e ρ π2 ⟨e1, a, b, c, g, e2⟩ => ?_) (fun ρ2 π2 ⟨e1, a, b, c, e, e2⟩ => ?_)
  · simp only [fld_n, range1_nat (show n ≤ 1000000 by omega), ↓u_bd, ↓u_toS, ↓u_seq, bind_ok, bind_err, toS_ok, toS_err, seq_nx, seq_rt, seq_err, fin_nx, fin_rt, fin_err, opt_some, slD_sh, slB_sh, slB_ow, e_mBind, e_mOk, e_mOpt, e_mVar, e_mVarB, e_mNil, e_mCons, e_m1, e_m2, e_m2O, e_mC, e_mI, e_itSeq, e_mSome, e_mAnd, e_mOr, e_mTest, e_mT2, e_mChain, e_tAnd, e_tOr, e_tNot, e_mIf, e_mTup, e_mLst, e_mD, e_mCall, e_callF, e_mPen, e_mPenC, e_sPenPut, e_penPutK, e_sSeq, e_sSet, e_sSetO, e_sRet, e_sExpr, e_sNx, e_sIf, e_runF, e_mList, e_mSlice, e_sRaise, e_mMake, e_callI, d_add, d_sub, d_lt, d_le, d_gt, d_ge, d_eq, d_ne, d_asB, d_not, d_asI, d_ntN, d_intOf, d_neg, d_lenL, d_lenT, d_seqL, d_seqT, d_tupL, d_tupT, p_count, p_at, p_digits, p_fold, q_count, q_at, q_digits, q_fold, List.map_cons, List.map_nil, List.length_cons, List.length_nil, List.replicate_succ, List.replicate_zero, List.cons_append, List.nil_append, List.append_nil, List.getElem?_cons_zero, List.getElem?_cons_succ, List.set_cons_zero, List.set_cons_succ, wipeR, fName, fTup, fCons, fNil, Option.bind_some, Option.map_some, reduceIte, if_true, if_false, decide_eq_true_eq, Nat.reduceAdd, Nat.reduceSub, Nat.reduceLeDiff, Nat.reduceLT, Nat.zero_le, Bool.not_true, Bool.not_false, Bool.false_eq_true, Nat.zero_add]
  · exact ⟨rfl, _, _, _, _, rfl⟩
  · subst e1 e2
    obtain ⟨e3, xlt⟩ := range_split e
    refine ⟨_, rfl, ?_⟩
    have em : (B.map fun b => D.int (leadN b)) = (B.map leadN).map fun i => D.int (i : Nat) := by rw [List.map_map]; rfl
    have ni := nin_ints (l := B.map leadN) (x := x)
    rw [← em] at ni
    have dl : d.length ≤ 60 := by rw [e3, List.length_range]; omega
    by_cases hx : x ∈ B.map leadN
    · rw [decide_eq_true hx] at ni
      have ef : (d ++ [x]).filter (fun x => !decide (x ∈ B.map leadN)) = d.filter fun x => !decide (x ∈ B.map leadN) := by
        rw [List.filter_append, List.filter_cons_of_neg (by rw [decide_eq_true hx]; decide), List.filter_nil, List.append_nil]
      rw [ef]
      simp only [Int.zero_add, ni, ↓u_bd, ↓u_toS, ↓u_seq, bind_ok, bind_err, toS_ok, toS_err, seq_nx, seq_rt, seq_err, fin_nx, fin_rt, fin_err, opt_some, slD_sh, slB_sh, slB_ow, e_mBind, e_mOk, e_mOpt, e_mVar, e_mVarB, e_mNil, e_mCons, e_m1, e_m2, e_m2O, e_mC, e_mI, e_itSeq, e_mSome, e_mAnd, e_mOr, e_mTest, e_mT2, e_mChain, e_tAnd, e_tOr, e_tNot, e_mIf, e_mTup, e_mLst, e_mD, e_mCall, e_callF, e_mPen, e_mPenC, e_sPenPut, e_penPutK, e_sSeq, e_sSet, e_sSetO, e_sRet, e_sExpr, e_sNx, e_sIf, e_runF, e_mList, e_mSlice, e_sRaise, e_mMake, e_callI, d_add, d_sub, d_lt, d_le, d_gt, d_ge, d_eq, d_ne, d_asB, d_not, d_asI, d_ntN, d_intOf, d_neg, d_lenL, d_lenT, d_seqL, d_seqT, d_tupL, d_tupT, p_count, p_at, p_digits, p_fold, q_count, q_at, q_digits, q_fold, List.map_cons, List.map_nil, List.length_cons, List.length_nil, List.replicate_succ, List.replicate_zero, List.cons_append, List.nil_append, List.append_nil, List.getElem?_cons_zero, List.getElem?_cons_succ, List.set_cons_zero, List.set_cons_succ, wipeR, fName, fTup, fCons, fNil, Option.bind_some, Option.map_some, reduceIte, if_true, if_false, decide_eq_true_eq, Nat.reduceAdd, Nat.reduceSub, Nat.reduceLeDiff, Nat.reduceLT, Nat.zero_le, Bool.not_true, Bool.not_false, Bool.false_eq_true, Nat.zero_add]
      exact goes_nx ⟨rfl, _, _, _, _, rfl⟩
    · rw [decide_eq_false hx] at ni
      have ef : (d ++ [x]).filter (fun x => !decide (x ∈ B.map leadN)) = (d.filter fun x => !decide (x ∈ B.map leadN)) ++ [x] := by
        rw [List.filter_append, List.filter_cons_of_pos (by rw [decide_eq_false hx]; rfl), List.filter_nil]
      rw [ef]
      have hxf : ∀ b ∈ B, leadN b ≠ x := fun b hb z => hx (List.mem_map.mpr ⟨b, hb, z⟩)
      have r0 := repO_one (d := .int 0) (n := n) (by omega)
      have hz : (zerow n).map D.int = List.replicate n (D.int 0) := by unfold zerow; rw [List.map_replicate]
      have ix0 : (ixN ((zerow n).map D.int).length (x : Nat)).map (fun m => ((zerow n).map D.int).set m (D.int 1)) = some (((zerow n).set x 1).map D.int) := by
        rw [ixN_nat' (by omega) (by rw [List.length_map]; unfold zerow; rw [List.length_replicate]; omega), Option.map_some, Int.toNat_natCast, List.map_set]
      rw [← hz] at r0
      simp only [Int.zero_add, ni, fld_n, r0, e_sPut, ↓u_bd, ↓u_toS, ↓u_seq, bind_ok, bind_err, toS_ok, toS_err, seq_nx, seq_rt, seq_err, fin_nx, fin_rt, fin_err, opt_some, slD_sh, slB_sh, slB_ow, e_mBind, e_mOk, e_mOpt, e_mVar, e_mVarB, e_mNil, e_mCons, e_m1, e_m2, e_m2O, e_mC, e_mI, e_itSeq, e_mSome, e_mAnd, e_mOr, e_mTest, e_mT2, e_mChain, e_tAnd, e_tOr, e_tNot, e_mIf, e_mTup, e_mLst, e_mD, e_mCall, e_callF, e_mPen, e_mPenC, e_sPenPut, e_penPutK, e_sSeq, e_sSet, e_sSetO, e_sRet, e_sExpr, e_sNx, e_sIf, e_runF, e_mList, e_mSlice, e_sRaise, e_mMake, e_callI, d_add, d_sub, d_lt, d_le, d_gt, d_ge, d_eq, d_ne, d_asB, d_not, d_asI, d_ntN, d_intOf, d_neg, d_lenL, d_lenT, d_seqL, d_seqT, d_tupL, d_tupT, p_count, p_at, p_digits, p_fold, q_count, q_at, q_digits, q_fold, List.map_cons, List.map_nil, List.length_cons, List.length_nil, List.replicate_succ, List.replicate_zero, List.cons_append, List.nil_append, List.append_nil, List.getElem?_cons_zero, List.getElem?_cons_succ, List.set_cons_zero, List.set_cons_succ, wipeR, fName, fTup, fCons, fNil, Option.bind_some, Option.map_some, reduceIte, if_true, if_false, decide_eq_true_eq, Nat.reduceAdd, Nat.reduceSub, Nat.reduceLeDiff, Nat.reduceLT, Nat.zero_le, Bool.not_true, Bool.not_false, Bool.false_eq_true, Nat.zero_add]
      rw [e_sMut (l := (zerow n).map D.int) rfl]
      simp only [Int.zero_add, ix0, ↓u_bd, ↓u_toS, ↓u_seq, bind_ok, bind_err, toS_ok, toS_err, seq_nx, seq_rt, seq_err, fin_nx, fin_rt, fin_err, opt_some, slD_sh, slB_sh, slB_ow, e_mBind, e_mOk, e_mOpt, e_mVar, e_mVarB, e_mNil, e_mCons, e_m1, e_m2, e_m2O, e_mC, e_mI, e_itSeq, e_mSome, e_mAnd, e_mOr, e_mTest, e_mT2, e_mChain, e_tAnd, e_tOr, e_tNot, e_mIf, e_mTup, e_mLst, e_mD, e_mCall, e_callF, e_mPen, e_mPenC, e_sPenPut, e_penPutK, e_sSeq, e_sSet, e_sSetO, e_sRet, e_sExpr, e_sNx, e_sIf, e_runF, e_mList, e_mSlice, e_sRaise, e_mMake, e_callI, d_add, d_sub, d_lt, d_le, d_gt, d_ge, d_eq, d_ne, d_asB, d_not, d_asI, d_ntN, d_intOf, d_neg, d_lenL, d_lenT, d_seqL, d_seqT, d_tupL, d_tupT, p_count, p_at, p_digits, p_fold, q_count, q_at, q_digits, q_fold, List.map_cons, List.map_nil, List.length_cons, List.length_nil, List.replicate_succ, List.replicate_zero, List.cons_append, List.nil_append, List.append_nil, List.getElem?_cons_zero, List.getElem?_cons_succ, List.set_cons_zero, List.set_cons_succ, wipeR, fName, fTup, fCons, fNil, Option.bind_some, Option.map_some, reduceIte, if_true, if_false, decide_eq_true_eq, Nat.reduceAdd, Nat.reduceSub, Nat.reduceLeDiff, Nat.reduceLT, Nat.zero_le, Bool.not_true, Bool.not_false, Bool.false_eq_true, Nat.zero_add]
      refine for_then (fun o => goesI _ o) B (fun b => D.tup [wD b, .int (leadN b)]) (fun bs ρ π3 => π3 = π2 ∧ ∃ a c, ρ = [.sh (codeD p n B), .sh (.lst (B.map fun b => D.int (leadN b))), a, .ow (.lst (((d.filter fun x => !decide (x ∈ B.map leadN)).map (mw p n B)).map wD)), .sh (.int x), .ow (.lst ((bs.foldl (mwF p x) ((zerow n).set x 1)).map D.int)), c]) (xs := B.map fun b => D.tup [wD b, .int (leadN b)]) (π1 := π2) ?_ rfl ?_ (fun bs b br eb ρ π3 ⟨e1, a, c, e2⟩ => ?_) (fun ρ2 π3 ⟨e1, a, c, e2⟩ => ?_)
      · simp only [fld_b, zip_leads, ↓u_bd, ↓u_toS, ↓u_seq, bind_ok, bind_err, toS_ok, toS_err, seq_nx, seq_rt, seq_err, fin_nx, fin_rt, fin_err, opt_some, slD_sh, slB_sh, slB_ow, e_mBind, e_mOk, e_mOpt, e_mVar, e_mVarB, e_mNil, e_mCons, e_m1, e_m2, e_m2O, e_mC, e_mI, e_itSeq, e_mSome, e_mAnd, e_mOr, e_mTest, e_mT2, e_mChain, e_tAnd, e_tOr, e_tNot, e_mIf, e_mTup, e_mLst, e_mD, e_mCall, e_callF, e_mPen, e_mPenC, e_sPenPut, e_penPutK, e_sSeq, e_sSet, e_sSetO, e_sRet, e_sExpr, e_sNx, e_sIf, e_runF, e_mList, e_mSlice, e_sRaise, e_mMake, e_callI, d_add, d_sub, d_lt, d_le, d_gt, d_ge, d_eq, d_ne, d_asB, d_not, d_asI, d_ntN, d_intOf, d_neg, d_lenL, d_lenT, d_seqL, d_seqT, d_tupL, d_tupT, p_count, p_at, p_digits, p_fold, q_count, q_at, q_digits, q_fold, List.map_cons, List.map_nil, List.length_cons, List.length_nil, List.replicate_succ, List.replicate_zero, List.cons_append, List.nil_append, List.append_nil, List.getElem?_cons_zero, List.getElem?_cons_succ, List.set_cons_zero, List.set_cons_succ, wipeR, fName, fTup, fCons, fNil, Option.bind_some, Option.map_some, reduceIte, if_true, if_false, decide_eq_true_eq, Nat.reduceAdd, Nat.reduceSub, Nat.reduceLeDiff, Nat.reduceLT, Nat.zero_le, Bool.not_true, Bool.not_false, Bool.false_eq_true, Nat.zero_add]
      · exact ⟨rfl, _, _, rfl⟩
      · subst e1 e2
        have hb : b ∈ B := by rw [eb]; simp
        have wb := r.w b hb
        have ixb : ixD (wD b) (.int x) = some (.int (gt b x)) := ixD_w (by rw [wb.1]; exact xlt)
        refine ⟨_, rfl, ?_⟩
        have rl : (bs.foldl (mwF p x) ((zerow n).set x 1)).length = n := by
          rw [mwF_len, List.length_set]; unfold zerow; exact List.length_replicate
        have ef2 : (bs ++ [b]).foldl (mwF p x) ((zerow n).set x 1) = mwF p x (bs.foldl (mwF p x) ((zerow n).set x 1)) b := by rw [List.foldl_append]; rfl
        rw [ef2]
        generalize bs.foldl (mwF p x) ((zerow n).set x 1) = row at *
        have lb := r.lead_lt hb
        have ix1 : (ixN (row.map D.int).length (leadN b : Nat)).map (fun m => (row.map D.int).set m (D.int ((p - gt b x) % p))) = some ((mwF p x row b).map D.int) := by
          rw [ixN_nat' (by omega) (by rw [List.length_map, rl]; omega), Option.map_some, Int.toNat_natCast]
          unfold mwF
          rw [List.map_set]
        simp only [e_sPut, fld_p, ixb, mod_sub p0, ↓u_bd, ↓u_toS, ↓u_seq, bind_ok, bind_err, toS_ok, toS_err, seq_nx, seq_rt, seq_err, fin_nx, fin_rt, fin_err, opt_some, slD_sh, slB_sh, slB_ow, e_mBind, e_mOk, e_mOpt, e_mVar, e_mVarB, e_mNil, e_mCons, e_m1, e_m2, e_m2O, e_mC, e_mI, e_itSeq, e_mSome, e_mAnd, e_mOr, e_mTest, e_mT2, e_mChain, e_tAnd, e_tOr, e_tNot, e_mIf, e_mTup, e_mLst, e_mD, e_mCall, e_callF, e_mPen, e_mPenC, e_sPenPut, e_penPutK, e_sSeq, e_sSet, e_sSetO, e_sRet, e_sExpr, e_sNx, e_sIf, e_runF, e_mList, e_mSlice, e_sRaise, e_mMake, e_callI, d_add, d_sub, d_lt, d_le, d_gt, d_ge, d_eq, d_ne, d_asB, d_not, d_asI, d_ntN, d_intOf, d_neg, d_lenL, d_lenT, d_seqL, d_seqT, d_tupL, d_tupT, p_count, p_at, p_digits, p_fold, q_count, q_at, q_digits, q_fold, List.map_cons, List.map_nil, List.length_cons, List.length_nil, List.replicate_succ, List.replicate_zero, List.cons_append, List.nil_append, List.append_nil, List.getElem?_cons_zero, List.getElem?_cons_succ, List.set_cons_zero, List.set_cons_succ, wipeR, fName, fTup, fCons, fNil, Option.bind_some, Option.map_some, reduceIte, if_true, if_false, decide_eq_true_eq, Nat.reduceAdd, Nat.reduceSub, Nat.reduceLeDiff, Nat.reduceLT, Nat.zero_le, Bool.not_true, Bool.not_false, Bool.false_eq_true, Nat.zero_add]
        rw [e_sMut (l := row.map D.int) rfl]
        simp only [ix1, ↓u_bd, ↓u_toS, ↓u_seq, bind_ok, bind_err, toS_ok, toS_err, seq_nx, seq_rt, seq_err, fin_nx, fin_rt, fin_err, opt_some, slD_sh, slB_sh, slB_ow, e_mBind, e_mOk, e_mOpt, e_mVar, e_mVarB, e_mNil, e_mCons, e_m1, e_m2, e_m2O, e_mC, e_mI, e_itSeq, e_mSome, e_mAnd, e_mOr, e_mTest, e_mT2, e_mChain, e_tAnd, e_tOr, e_tNot, e_mIf, e_mTup, e_mLst, e_mD, e_mCall, e_callF, e_mPen, e_mPenC, e_sPenPut, e_penPutK, e_sSeq, e_sSet, e_sSetO, e_sRet, e_sExpr, e_sNx, e_sIf, e_runF, e_mList, e_mSlice, e_sRaise, e_mMake, e_callI, d_add, d_sub, d_lt, d_le, d_gt, d_ge, d_eq, d_ne, d_asB, d_not, d_asI, d_ntN, d_intOf, d_neg, d_lenL, d_lenT, d_seqL, d_seqT, d_tupL, d_tupT, p_count, p_at, p_digits, p_fold, q_count, q_at, q_digits, q_fold, List.map_cons, List.map_nil, List.length_cons, List.length_nil, List.replicate_succ, List.replicate_zero, List.cons_append, List.nil_append, List.append_nil, List.getElem?_cons_zero, List.getElem?_cons_succ, List.set_cons_zero, List.set_cons_succ, wipeR, fName, fTup, fCons, fNil, Option.bind_some, Option.map_some, reduceIte, if_true, if_false, decide_eq_true_eq, Nat.reduceAdd, Nat.reduceSub, Nat.reduceLeDiff, Nat.reduceLT, Nat.zero_le, Bool.not_true, Bool.not_false, Bool.false_eq_true, Nat.zero_add]
        exact goes_nx ⟨rfl, _, _, rfl⟩
      · subst e1 e2
        have wx : mw p n B x = B.foldl (mwF p x) ((zerow n).set x 1) := rfl
        rw [← wx]
        have ua := uApp_ok (l := ((d.filter fun x => !decide (x ∈ B.map leadN)).map (mw p n B)).map wD) (d := wD (mw p n B x)) (by rw [List.length_map, List.length_map]; have := List.length_filter_le (fun x => !decide (x ∈ B.map leadN)) d; omega)
        dsimp only
        rw [e_sMut (l := ((d.filter fun x => !decide (x ∈ B.map leadN)).map (mw p n B)).map wD) rfl]
        simp only [Own.D, ua, ↓u_bd, ↓u_toS, ↓u_seq, bind_ok, bind_err, toS_ok, toS_err, seq_nx, seq_rt, seq_err, fin_nx, fin_rt, fin_err, opt_some, slD_sh, slB_sh, slB_ow, e_mBind, e_mOk, e_mOpt, e_mVar, e_mVarB, e_mNil, e_mCons, e_m1, e_m2, e_m2O, e_mC, e_mI, e_itSeq, e_mSome, e_mAnd, e_mOr, e_mTest, e_mT2, e_mChain, e_tAnd, e_tOr, e_tNot, e_mIf, e_mTup, e_mLst, e_mD, e_mCall, e_callF, e_mPen, e_mPenC, e_sPenPut, e_penPutK, e_sSeq, e_sSet, e_sSetO, e_sRet, e_sExpr, e_sNx, e_sIf, e_runF, e_mList, e_mSlice, e_sRaise, e_mMake, e_callI, d_add, d_sub, d_lt, d_le, d_gt, d_ge, d_eq, d_ne, d_asB, d_not, d_asI, d_ntN, d_intOf, d_neg, d_lenL, d_lenT, d_seqL, d_seqT, d_tupL, d_tupT, p_count, p_at, p_digits, p_fold, q_count, q_at, q_digits, q_fold, List.map_cons, List.map_nil, List.length_cons, List.length_nil, List.replicate_succ, List.replicate_zero, List.cons_append, List.nil_append, List.append_nil, List.getElem?_cons_zero, List.getElem?_cons_succ, List.set_cons_zero, List.set_cons_succ, wipeR, fName, fTup, fCons, fNil, Option.bind_some, Option.map_some, reduceIte, if_true, if_false, decide_eq_true_eq, Nat.reduceAdd, Nat.reduceSub, Nat.reduceLeDiff, Nat.reduceLT, Nat.zero_le, Bool.not_true, Bool.not_false, Bool.false_eq_true, Nat.zero_add]
        rw [show ((d.filter fun x => !decide (x ∈ B.map leadN)).map (mw p n B)).map wD ++ [wD (mw p n B x)] = (((d.filter fun x => !decide (x ∈ B.map leadN)) ++ [x]).map (mw p n B)).map wD by rw [List.map_append, List.map_append]; rfl]
        exact goes_nx ⟨rfl, _, _, _, _, rfl⟩
  · subst e1 e2
    dsimp only
    rw [e_sFrz (o := .lst ((((List.range n).filter fun x => !decide (x ∈ B.map leadN)).map (mw p n B)).map wD)) rfl]
    simp only [Own.D, ↓u_bd, ↓u_toS, ↓u_seq, bind_ok, bind_err, toS_ok, toS_err, seq_nx, seq_rt, seq_err, fin_nx, fin_rt, fin_err, opt_some, slD_sh, slB_sh, slB_ow, e_mBind, e_mOk, e_mOpt, e_mVar, e_mVarB, e_mNil, e_mCons, e_m1, e_m2, e_m2O, e_mC, e_mI, e_itSeq, e_mSome, e_mAnd, e_mOr, e_mTest, e_mT2, e_mChain, e_tAnd, e_tOr, e_tNot, e_mIf, e_mTup, e_mLst, e_mD, e_mCall, e_callF, e_mPen, e_mPenC, e_sPenPut, e_penPutK, e_sSeq, e_sSet, e_sSetO, e_sRet, e_sExpr, e_sNx, e_sIf, e_runF, e_mList, e_mSlice, e_sRaise, e_mMake, e_callI, d_add, d_sub, d_lt, d_le, d_gt, d_ge, d_eq, d_ne, d_asB, d_not, d_asI, d_ntN, d_intOf, d_neg, d_lenL, d_lenT, d_seqL, d_seqT, d_tupL, d_tupT, p_count, p_at, p_digits, p_fold, q_count, q_at, q_digits, q_fold, List.map_cons, List.map_nil, List.length_cons, List.length_nil, List.replicate_succ, List.replicate_zero, List.cons_append, List.nil_append, List.append_nil, List.getElem?_cons_zero, List.getElem?_cons_succ, List.set_cons_zero, List.set_cons_succ, wipeR, fName, fTup, fCons, fNil, Option.bind_some, Option.map_some, reduceIte, if_true, if_false, decide_eq_true_eq, Nat.reduceAdd, Nat.reduceSub, Nat.reduceLeDiff, Nat.reduceLT, Nat.zero_le, Bool.not_true, Bool.not_false, Bool.false_eq_true, Nat.zero_add]
    rfl
end
end L2.Dl.W
end

section
set_option maxRecDepth 100000
set_option maxHeartbeats 8000000
namespace L2.Dl
open PySem PySem.Spec PyProof.Rows CM
theorem eqv_refl : ∀ (n : Nat) (d : D), plainD n d = true → D.eqv d d = true
  | n, .non, _ => rfl
  | n, .bl b, _ => by show (b == b) = true; simp
  | n, .int i, _ => by show (i == i) = true; simp
  | n, .str x, _ => by show (x == x) = true; simp
  | 0, .tup l, h => by cases h
  | 0, .lst l, h => by cases h
  | n + 1, .tup l, h => by
    have key : ∀ l : List D, l.all (plainD n) = true → D.eqvL l l = true := by
      intro l
      induction l with
      | nil => intro _; rfl
      | cons a l ih =>
        intro h
        rw [List.all_cons, Bool.and_eq_true] at h
        show (D.eqv a a && D.eqvL l l) = true
        rw [eqv_refl n a h.1, ih h.2]; rfl
    exact key l h
  | n + 1, .lst l, h => by
    have key : ∀ l : List D, l.all (plainD n) = true → D.eqvL l l = true := by
      intro l
      induction l with
      | nil => intro _; rfl
      | cons a l ih =>
        intro h
        rw [List.all_cons, Bool.and_eq_true] at h
        show (D.eqv a a && D.eqvL l l) = true
        rw [eqv_refl n a h.1, ih h.2]; rfl
    exact key l h
  | 0, .obj _ _ _, h => by cases h
  | n + 1, .obj _ _ _, h => by cases h
  | 0, .dic _ _, h => by cases h
  | n + 1, .dic _ _, h => by cases h
  | 0, .pen, h => by cases h
  | n + 1, .pen, h => by cases h
theorem ne_self {d : D} (h : plainD 60 d = true) : neD d d = some (.bl false) := by
  unfold neD
  rw [h, eqv_refl 60 d h]; rfl
theorem eq_self' {d : D} (h : plainD 60 d = true) : eqD d d = some (.bl true) := by
  unfold eqD
  rw [h, eqv_refl 60 d h]; rfl
theorem in_words {l : List (List Int)} {w : List Int} : inD (wD w) (.lst (l.map wD)) = some (.bl (decide (w ∈ l))) := by
  have pl : plainD 60 (.lst (l.map wD)) = true := plain_words l
  have pw : plainD 60 (wD w) = true := plain_w
  have e : ((l.map wD).any fun z => D.eqv z (wD w)) = decide (w ∈ l) := by
    rw [List.any_map]
    clear pl
    induction l with
    | nil => simp
    | cons a l ih =>
      rw [List.any_cons, ih]
      show (D.eqvL (a.map .int) (w.map .int) || decide (w ∈ l)) = _
      rw [eqv_ints]
      by_cases h : w = a
      · subst h; simp
      · have h' : ¬ a = w := fun z => h z.symm
        simp [h, h']
  show ((if (plainD 60 (wD w) && plainD 60 (.lst (l.map wD))) = true then some ((l.map wD).any fun z => D.eqv z (wD w)) else none).map D.bl) = _
  rw [pl, pw]
  show some (D.bl ((l.map wD).any fun z => D.eqv z (wD w))) = _
  rw [e]
theorem intsOf_map : ∀ l : List Int, intsOf (l.map D.int) = some l
  | [] => rfl
  | x :: l => by rw [List.map_cons, intsOf, intsOf_map l]; rfl
theorem sumD_ints {l : List Int} : sumD [.lst (l.map D.int)] = some (.int l.sum) := by
  show (intsOf (l.map D.int)).map _ = _
  rw [intsOf_map]; rfl
/-- all tuples of letters -/
def ext1 (p : Int) (F : List (List Int)) : List (List Int) := F.flatMap fun w => (List.range p.toNat).map fun t => w ++ [((t : Nat) : Int)]
def allTup (p : Int) (n : Nat) : List (List Int) := (List.range n).foldl (fun F _ => ext1 p F) [[]]
theorem allTup_succ {p : Int} {n : Nat} : allTup p (n + 1) = ext1 p (allTup p n) := by
  unfold allTup
  rw [List.range_succ, List.foldl_append]; rfl
theorem mem_allTup {p : Int} : ∀ {n : Nat} {w : List Int}, w ∈ allTup p n ↔ isW p n w
  | 0, w => by
    show w ∈ [[]] ↔ _
    rw [List.mem_singleton]
    exact ⟨fun e => by rw [e]; exact ⟨rfl, fun x hx => by cases hx⟩, fun h => List.eq_nil_of_length_eq_zero h.1⟩
  | n + 1, w => by
    rw [allTup_succ]
    unfold ext1
    rw [List.mem_flatMap]
    constructor
    · rintro ⟨v, hv, h⟩
      obtain ⟨t, ht, rfl⟩ := List.mem_map.mp h
      have hv := mem_allTup.mp hv
      refine ⟨by rw [List.length_append, hv.1]; rfl, fun x hx => ?_⟩
      rcases List.mem_append.mp hx with q | q
      · exact hv.2 x q
      · rw [List.mem_singleton.mp q]
        have := List.mem_range.mp ht
        omega
    · intro h
      have hl : w.length = n + 1 := h.1
      have hne : w ≠ [] := fun z => by rw [z] at hl; cases hl
      refine ⟨w.dropLast, mem_allTup.mpr ⟨by rw [List.length_dropLast, hl]; rfl, fun x hx => h.2 x ((List.dropLast_sublist w).subset hx)⟩, List.mem_map.mpr ⟨(w.getLast hne).toNat, ?_, ?_⟩⟩
      · have := h.2 _ (List.getLast_mem hne)
        exact List.mem_range.mpr (by omega)
      · have := h.2 _ (List.getLast_mem hne)
        rw [Int.toNat_of_nonneg this.1, List.dropLast_concat_getLast]
theorem len_ext1 {p : Int} {F : List (List Int)} : (ext1 p F).length = F.length * p.toNat := by
  unfold ext1
  rw [List.length_flatMap]
  have : (List.map (fun w : List Int => ((List.range p.toNat).map fun t => w ++ [((t : Nat) : Int)]).length) F) = List.replicate F.length p.toNat := by
    refine List.ext_getElem (by simp) fun i h1 h2 => ?_
    simp
  rw [this, List.sum_replicate_nat]
theorem len_allTup {p : Int} : ∀ n : Nat, (allTup p n).length = p.toNat ^ n
  | 0 => rfl
  | n + 1 => by rw [allTup_succ, len_ext1, len_allTup n, Nat.pow_succ]
end L2.Dl
namespace L2.Dl.W
open PySem PySem.Spec PyProof.Rows L2 LamX CM
section
variable {p : Int} {n : Nat} {B C : List (List Int)} {π : Pen} {k : Nat}
theorem ev_all (hp : P23 p) (hn : n ≤ 60) (h : p.toNat ^ n ≤ 5000) : f__law_all [.int p, .int n] π = .ok (.lst ((allTup p n).map wD)) π := by
  have p0 := hp.pos
  have pn := P23.toNat hp
  have rp := range1_nat (n := p.toNat) (by rcases hp with rfl | rfl <;> decide)
  rw [pn] at rp
  simp only [f__law_all, m__law_all, ↓u_bd, ↓u_toS, ↓u_seq, bind_ok, bind_err, toS_ok, toS_err, seq_nx, seq_rt, seq_err, fin_nx, fin_rt, fin_err, opt_some, slD_sh, slB_sh, slB_ow, e_mBind, e_mOk, e_mOpt, e_mVar, e_mVarB, e_mNil, e_mCons, e_m1, e_m2, e_m2O, e_mC, e_mI, e_itSeq, e_mSome, e_mAnd, e_mOr, e_mTest, e_mT2, e_mChain, e_tAnd, e_tOr, e_tNot, e_mIf, e_mTup, e_mLst, e_mD, e_mCall, e_callF, e_mPen, e_mPenC, e_sPenPut, e_penPutK, e_sSeq, e_sSet, e_sSetO, e_sRet, e_sExpr, e_sNx, e_sIf, e_runF, e_mList, e_mSlice, e_sRaise, e_mMake, e_callI, d_add, d_sub, d_lt, d_le, d_gt, d_ge, d_eq, d_ne, d_asB, d_not, d_asI, d_ntN, d_intOf, d_neg, d_lenL, d_lenT, d_seqL, d_seqT, d_tupL, d_tupT, p_count, p_at, p_digits, p_fold, q_count, q_at, q_digits, q_fold, List.map_cons, List.map_nil, List.length_cons, List.length_nil, List.replicate_succ, List.replicate_zero, List.cons_append, List.nil_append, List.append_nil, List.getElem?_cons_zero, List.getElem?_cons_succ, List.set_cons_zero, List.set_cons_succ, wipeR, fName, fTup, fCons, fNil, Option.bind_some, Option.map_some, reduceIte, if_true, if_false, decide_eq_true_eq, Nat.reduceAdd, Nat.reduceSub, Nat.reduceLeDiff, Nat.reduceLT, Nat.zero_le, Bool.not_true, Bool.not_false, Bool.false_eq_true, Nat.zero_add]
  refine for_then (fun o => o.fin = .ok (.lst ((allTup p n).map wD)) π) (List.range n) (fun i => D.int (0 + (i : Nat))) (fun d ρ π2 => π2 = π ∧ ∃ a b c e, ρ = [.sh (.int p), .sh (.int n), .sh (.lst ((allTup p d.length).map wD)), a, b, c, e]) (xs := (List.range n).map fun i => D.int (0 + (i : Nat))) (π1 := π) ?_ rfl ?_ (fun d x rest e ρ π2 ⟨e1, a, b, c, g, e2⟩ => ?_) (fun ρ2 π2 ⟨e1, a, b, c, e, e2⟩ => ?_)
  · simp only [range1_nat (show n ≤ 1000000 by omega), ↓u_bd, ↓u_toS, ↓u_seq, bind_ok, bind_err, toS_ok, toS_err, seq_nx, seq_rt, seq_err, fin_nx, fin_rt, fin_err, opt_some, slD_sh, slB_sh, slB_ow, e_mBind, e_mOk, e_mOpt, e_mVar, e_mVarB, e_mNil, e_mCons, e_m1, e_m2, e_m2O, e_mC, e_mI, e_itSeq, e_mSome, e_mAnd, e_mOr, e_mTest, e_mT2, e_mChain, e_tAnd, e_tOr, e_tNot, e_mIf, e_mTup, e_mLst, e_mD, e_mCall, e_callF, e_mPen, e_mPenC, e_sPenPut, e_penPutK, e_sSeq, e_sSet, e_sSetO, e_sRet, e_sExpr, e_sNx, e_sIf, e_runF, e_mList, e_mSlice, e_sRaise, e_mMake, e_callI, d_add, d_sub, d_lt, d_le, d_gt, d_ge, d_eq, d_ne, d_asB, d_not, d_asI, d_ntN, d_intOf, d_neg, d_lenL, d_lenT, d_seqL, d_seqT, d_tupL, d_tupT, p_count, p_at, p_digits, p_fold, q_count, q_at, q_digits, q_fold, List.map_cons, List.map_nil, List.length_cons, List.length_nil, List.replicate_succ, List.replicate_zero, List.cons_append, List.nil_append, List.append_nil, List.getElem?_cons_zero, List.getElem?_cons_succ, List.set_cons_zero, List.set_cons_succ, wipeR, fName, fTup, fCons, fNil, Option.bind_some, Option.map_some, reduceIte, if_true, if_false, decide_eq_true_eq, Nat.reduceAdd, Nat.reduceSub, Nat.reduceLeDiff, Nat.reduceLT, Nat.zero_le, Bool.not_true, Bool.not_false, Bool.false_eq_true, Nat.zero_add]
  · exact ⟨rfl, _, _, _, _, rfl⟩
  · subst e1 e2
    obtain ⟨e3, xlt⟩ := range_split e
    have dl : d.length = x := by rw [e3, List.length_range]
    refine ⟨_, rfl, ?_⟩
    rw [List.length_append, List.length_singleton, dl, allTup_succ]
    have fl := len_allTup (p := p) x
    have fz : p.toNat ^ x * p.toNat ≤ 5000 := by
      rw [← Nat.pow_succ]
      exact Nat.le_trans (Nat.pow_le_pow_right (by omega) (by omega)) h
    have wl : ∀ w ∈ allTup p x, w.length = x := fun w hw => (mem_allTup.mp hw).1
    generalize allTup p x = F at *
    simp only [↓u_bd, ↓u_toS, ↓u_seq, bind_ok, bind_err, toS_ok, toS_err, seq_nx, seq_rt, seq_err, fin_nx, fin_rt, fin_err, opt_some, slD_sh, slB_sh, slB_ow, e_mBind, e_mOk, e_mOpt, e_mVar, e_mVarB, e_mNil, e_mCons, e_m1, e_m2, e_m2O, e_mC, e_mI, e_itSeq, e_mSome, e_mAnd, e_mOr, e_mTest, e_mT2, e_mChain, e_tAnd, e_tOr, e_tNot, e_mIf, e_mTup, e_mLst, e_mD, e_mCall, e_callF, e_mPen, e_mPenC, e_sPenPut, e_penPutK, e_sSeq, e_sSet, e_sSetO, e_sRet, e_sExpr, e_sNx, e_sIf, e_runF, e_mList, e_mSlice, e_sRaise, e_mMake, e_callI, d_add, d_sub, d_lt, d_le, d_gt, d_ge, d_eq, d_ne, d_asB, d_not, d_asI, d_ntN, d_intOf, d_neg, d_lenL, d_lenT, d_seqL, d_seqT, d_tupL, d_tupT, p_count, p_at, p_digits, p_fold, q_count, q_at, q_digits, q_fold, List.map_cons, List.map_nil, List.length_cons, List.length_nil, List.replicate_succ, List.replicate_zero, List.cons_append, List.nil_append, List.append_nil, List.getElem?_cons_zero, List.getElem?_cons_succ, List.set_cons_zero, List.set_cons_succ, wipeR, fName, fTup, fCons, fNil, Option.bind_some, Option.map_some, reduceIte, if_true, if_false, decide_eq_true_eq, Nat.reduceAdd, Nat.reduceSub, Nat.reduceLeDiff, Nat.reduceLT, Nat.zero_le, Bool.not_true, Bool.not_false, Bool.false_eq_true, Nat.zero_add]
    refine for_then (fun o => goesI _ o) F wD (fun ws ρ π3 => π3 = π2 ∧ ∃ b e, ρ = [.sh (.int p), .sh (.int n), .sh (.lst (F.map wD)), .sh (.int (0 + (x : Nat))), .sh (.lst ((ext1 p ws).map wD)), b, e]) (xs := F.map wD) (π1 := π2) ?_ rfl ?_ (fun ws w wr ew ρ π3 ⟨e1, b, e4, e2⟩ => ?_) (fun ρ2 π3 ⟨e1, b, e4, e2⟩ => ?_)
    · simp only [↓u_bd, ↓u_toS, ↓u_seq, bind_ok, bind_err, toS_ok, toS_err, seq_nx, seq_rt, seq_err, fin_nx, fin_rt, fin_err, opt_some, slD_sh, slB_sh, slB_ow, e_mBind, e_mOk, e_mOpt, e_mVar, e_mVarB, e_mNil, e_mCons, e_m1, e_m2, e_m2O, e_mC, e_mI, e_itSeq, e_mSome, e_mAnd, e_mOr, e_mTest, e_mT2, e_mChain, e_tAnd, e_tOr, e_tNot, e_mIf, e_mTup, e_mLst, e_mD, e_mCall, e_callF, e_mPen, e_mPenC, e_sPenPut, e_penPutK, e_sSeq, e_sSet, e_sSetO, e_sRet, e_sExpr, e_sNx, e_sIf, e_runF, e_mList, e_mSlice, e_sRaise, e_mMake, e_callI, d_add, d_sub, d_lt, d_le, d_gt, d_ge, d_eq, d_ne, d_asB, d_not, d_asI, d_ntN, d_intOf, d_neg, d_lenL, d_lenT, d_seqL, d_seqT, d_tupL, d_tupT, p_count, p_at, p_digits, p_fold, q_count, q_at, q_digits, q_fold, List.map_cons, List.map_nil, List.length_cons, List.length_nil, List.replicate_succ, List.replicate_zero, List.cons_append, List.nil_append, List.append_nil, List.getElem?_cons_zero, List.getElem?_cons_succ, List.set_cons_zero, List.set_cons_succ, wipeR, fName, fTup, fCons, fNil, Option.bind_some, Option.map_some, reduceIte, if_true, if_false, decide_eq_true_eq, Nat.reduceAdd, Nat.reduceSub, Nat.reduceLeDiff, Nat.reduceLT, Nat.zero_le, Bool.not_true, Bool.not_false, Bool.false_eq_true, Nat.zero_add]
    · exact ⟨rfl, _, _, rfl⟩
    · subst e1 e2
      refine ⟨_, rfl, ?_⟩
      have k : mLc (mI range1 (mCons (mVar 0) mNil)) (fName 6) (mOk true) (m2 addD (mVar 5) (mTup (mCons (mVar 6) mNil))) [6] [.sh (.int p), .sh (.int n), .sh (.lst (F.map wD)), .sh (.int (0 + (x : Nat))), .sh (.lst ((ext1 p ws).map wD)), .sh (wD w), e4] π3 = .ok (.lst ((List.range p.toNat).map fun t => wD (w ++ [((t : Nat) : Int)]))) π3 := by
        refine mLc_all (List.range p.toNat) (fun i => D.int (0 + (i : Nat))) (fun t => wD (w ++ [((t : Nat) : Int)])) (xs := (List.range p.toNat).map fun i => D.int (0 + (i : Nat))) ?_ rfl (sl24 (by rw [List.length_range]; rcases hp with rfl | rfl <;> decide)) fun t ht => ⟨_, rfl, ?_⟩
        · simp only [rp, ↓u_bd, ↓u_toS, ↓u_seq, bind_ok, bind_err, toS_ok, toS_err, seq_nx, seq_rt, seq_err, fin_nx, fin_rt, fin_err, opt_some, slD_sh, slB_sh, slB_ow, e_mBind, e_mOk, e_mOpt, e_mVar, e_mVarB, e_mNil, e_mCons, e_m1, e_m2, e_m2O, e_mC, e_mI, e_itSeq, e_mSome, e_mAnd, e_mOr, e_mTest, e_mT2, e_mChain, e_tAnd, e_tOr, e_tNot, e_mIf, e_mTup, e_mLst, e_mD, e_mCall, e_callF, e_mPen, e_mPenC, e_sPenPut, e_penPutK, e_sSeq, e_sSet, e_sSetO, e_sRet, e_sExpr, e_sNx, e_sIf, e_runF, e_mList, e_mSlice, e_sRaise, e_mMake, e_callI, d_add, d_sub, d_lt, d_le, d_gt, d_ge, d_eq, d_ne, d_asB, d_not, d_asI, d_ntN, d_intOf, d_neg, d_lenL, d_lenT, d_seqL, d_seqT, d_tupL, d_tupT, p_count, p_at, p_digits, p_fold, q_count, q_at, q_digits, q_fold, List.map_cons, List.map_nil, List.length_cons, List.length_nil, List.replicate_succ, List.replicate_zero, List.cons_append, List.nil_append, List.append_nil, List.getElem?_cons_zero, List.getElem?_cons_succ, List.set_cons_zero, List.set_cons_succ, wipeR, fName, fTup, fCons, fNil, Option.bind_some, Option.map_some, reduceIte, if_true, if_false, decide_eq_true_eq, Nat.reduceAdd, Nat.reduceSub, Nat.reduceLeDiff, Nat.reduceLT, Nat.zero_le, Bool.not_true, Bool.not_false, Bool.false_eq_true, Nat.zero_add]
        · have ap := d_addT (l := w.map D.int) (m := [D.int (0 + (t : Nat))]) (sl24 (by rw [List.length_map, List.length_singleton, wl w (by rw [ew]; simp)]; omega))
          simp only [ap, ↓u_bd, ↓u_toS, ↓u_seq, bind_ok, bind_err, toS_ok, toS_err, seq_nx, seq_rt, seq_err, fin_nx, fin_rt, fin_err, opt_some, slD_sh, slB_sh, slB_ow, e_mBind, e_mOk, e_mOpt, e_mVar, e_mVarB, e_mNil, e_mCons, e_m1, e_m2, e_m2O, e_mC, e_mI, e_itSeq, e_mSome, e_mAnd, e_mOr, e_mTest, e_mT2, e_mChain, e_tAnd, e_tOr, e_tNot, e_mIf, e_mTup, e_mLst, e_mD, e_mCall, e_callF, e_mPen, e_mPenC, e_sPenPut, e_penPutK, e_sSeq, e_sSet, e_sSetO, e_sRet, e_sExpr, e_sNx, e_sIf, e_runF, e_mList, e_mSlice, e_sRaise, e_mMake, e_callI, d_add, d_sub, d_lt, d_le, d_gt, d_ge, d_eq, d_ne, d_asB, d_not, d_asI, d_ntN, d_intOf, d_neg, d_lenL, d_lenT, d_seqL, d_seqT, d_tupL, d_tupT, p_count, p_at, p_digits, p_fold, q_count, q_at, q_digits, q_fold, List.map_cons, List.map_nil, List.length_cons, List.length_nil, List.replicate_succ, List.replicate_zero, List.cons_append, List.nil_append, List.append_nil, List.getElem?_cons_zero, List.getElem?_cons_succ, List.set_cons_zero, List.set_cons_succ, wipeR, fName, fTup, fCons, fNil, Option.bind_some, Option.map_some, reduceIte, if_true, if_false, decide_eq_true_eq, Nat.reduceAdd, Nat.reduceSub, Nat.reduceLeDiff, Nat.reduceLT, Nat.zero_le, Bool.not_true, Bool.not_false, Bool.false_eq_true, Nat.zero_add]
          rw [Int.zero_add]
          unfold wD
          rw [List.map_append]
          rfl
      have hws : ws.length < F.length := by
        have := congrArg List.length ew
        rw [List.length_append, List.length_cons] at this
        omega
      have hz2 : (ext1 p ws).length + p.toNat ≤ 5000 := by
        rw [len_ext1]
        have : (ws.length + 1) * p.toNat ≤ F.length * p.toNat := Nat.mul_le_mul_right _ hws
        rw [Nat.succ_mul, fl] at this
        omega
      have ap2 := d_addL (l := (ext1 p ws).map wD) (m := (List.range p.toNat).map fun t => wD (w ++ [((t : Nat) : Int)])) (sl24 (by rw [List.length_map, List.length_map, List.length_range]; omega))
      simp only [k, Own.D, ap2, ↓u_bd, ↓u_toS, ↓u_seq, bind_ok, bind_err, toS_ok, toS_err, seq_nx, seq_rt, seq_err, fin_nx, fin_rt, fin_err, opt_some, slD_sh, slB_sh, slB_ow, e_mBind, e_mOk, e_mOpt, e_mVar, e_mVarB, e_mNil, e_mCons, e_m1, e_m2, e_m2O, e_mC, e_mI, e_itSeq, e_mSome, e_mAnd, e_mOr, e_mTest, e_mT2, e_mChain, e_tAnd, e_tOr, e_tNot, e_mIf, e_mTup, e_mLst, e_mD, e_mCall, e_callF, e_mPen, e_mPenC, e_sPenPut, e_penPutK, e_sSeq, e_sSet, e_sSetO, e_sRet, e_sExpr, e_sNx, e_sIf, e_runF, e_mList, e_mSlice, e_sRaise, e_mMake, e_callI, d_add, d_sub, d_lt, d_le, d_gt, d_ge, d_eq, d_ne, d_asB, d_not, d_asI, d_ntN, d_intOf, d_neg, d_lenL, d_lenT, d_seqL, d_seqT, d_tupL, d_tupT, p_count, p_at, p_digits, p_fold, q_count, q_at, q_digits, q_fold, List.map_cons, List.map_nil, List.length_cons, List.length_nil, List.replicate_succ, List.replicate_zero, List.cons_append, List.nil_append, List.append_nil, List.getElem?_cons_zero, List.getElem?_cons_succ, List.set_cons_zero, List.set_cons_succ, wipeR, fName, fTup, fCons, fNil, Option.bind_some, Option.map_some, reduceIte, if_true, if_false, decide_eq_true_eq, Nat.reduceAdd, Nat.reduceSub, Nat.reduceLeDiff, Nat.reduceLT, Nat.zero_le, Bool.not_true, Bool.not_false, Bool.false_eq_true, Nat.zero_add]
      have e5 : (ext1 p ws).map wD ++ (List.range p.toNat).map (fun t => wD (w ++ [((t : Nat) : Int)])) = (ext1 p (ws ++ [w])).map wD := by
        unfold ext1
        rw [List.flatMap_append, List.map_append]
        simp only [List.flatMap_cons, List.flatMap_nil, List.append_nil, List.map_map]
        rfl
      rw [e5]
      exact goes_nx ⟨rfl, _, _, rfl⟩
    · subst e1 e2
      simp only [↓u_bd, ↓u_toS, ↓u_seq, bind_ok, bind_err, toS_ok, toS_err, seq_nx, seq_rt, seq_err, fin_nx, fin_rt, fin_err, opt_some, slD_sh, slB_sh, slB_ow, e_mBind, e_mOk, e_mOpt, e_mVar, e_mVarB, e_mNil, e_mCons, e_m1, e_m2, e_m2O, e_mC, e_mI, e_itSeq, e_mSome, e_mAnd, e_mOr, e_mTest, e_mT2, e_mChain, e_tAnd, e_tOr, e_tNot, e_mIf, e_mTup, e_mLst, e_mD, e_mCall, e_callF, e_mPen, e_mPenC, e_sPenPut, e_penPutK, e_sSeq, e_sSet, e_sSetO, e_sRet, e_sExpr, e_sNx, e_sIf, e_runF, e_mList, e_mSlice, e_sRaise, e_mMake, e_callI, d_add, d_sub, d_lt, d_le, d_gt, d_ge, d_eq, d_ne, d_asB, d_not, d_asI, d_ntN, d_intOf, d_neg, d_lenL, d_lenT, d_seqL, d_seqT, d_tupL, d_tupT, p_count, p_at, p_digits, p_fold, q_count, q_at, q_digits, q_fold, List.map_cons, List.map_nil, List.length_cons, List.length_nil, List.replicate_succ, List.replicate_zero, List.cons_append, List.nil_append, List.append_nil, List.getElem?_cons_zero, List.getElem?_cons_succ, List.set_cons_zero, List.set_cons_succ, wipeR, fName, fTup, fCons, fNil, Option.bind_some, Option.map_some, reduceIte, if_true, if_false, decide_eq_true_eq, Nat.reduceAdd, Nat.reduceSub, Nat.reduceLeDiff, Nat.reduceLT, Nat.zero_le, Bool.not_true, Bool.not_false, Bool.false_eq_true, Nat.zero_add]
      exact goes_nx ⟨rfl, _, _, _, _, rfl⟩
  · subst e1 e2
    simp only [List.length_range, ↓u_bd, ↓u_toS, ↓u_seq, bind_ok, bind_err, toS_ok, toS_err, seq_nx, seq_rt, seq_err, fin_nx, fin_rt, fin_err, opt_some, slD_sh, slB_sh, slB_ow, e_mBind, e_mOk, e_mOpt, e_mVar, e_mVarB, e_mNil, e_mCons, e_m1, e_m2, e_m2O, e_mC, e_mI, e_itSeq, e_mSome, e_mAnd, e_mOr, e_mTest, e_mT2, e_mChain, e_tAnd, e_tOr, e_tNot, e_mIf, e_mTup, e_mLst, e_mD, e_mCall, e_callF, e_mPen, e_mPenC, e_sPenPut, e_penPutK, e_sSeq, e_sSet, e_sSetO, e_sRet, e_sExpr, e_sNx, e_sIf, e_runF, e_mList, e_mSlice, e_sRaise, e_mMake, e_callI, d_add, d_sub, d_lt, d_le, d_gt, d_ge, d_eq, d_ne, d_asB, d_not, d_asI, d_ntN, d_intOf, d_neg, d_lenL, d_lenT, d_seqL, d_seqT, d_tupL, d_tupT, p_count, p_at, p_digits, p_fold, q_count, q_at, q_digits, q_fold, List.map_cons, List.map_nil, List.length_cons, List.length_nil, List.replicate_succ, List.replicate_zero, List.cons_append, List.nil_append, List.append_nil, List.getElem?_cons_zero, List.getElem?_cons_succ, List.set_cons_zero, List.set_cons_succ, wipeR, fName, fTup, fCons, fNil, Option.bind_some, Option.map_some, reduceIte, if_true, if_false, decide_eq_true_eq, Nat.reduceAdd, Nat.reduceSub, Nat.reduceLeDiff, Nat.reduceLT, Nat.zero_le, Bool.not_true, Bool.not_false, Bool.false_eq_true, Nat.zero_add]
theorem ev_dot {a b : List Int} (hp : 0 < p) (ha : ∀ x ∈ a, x.natAbs < 18446744073709551616) (hb : ∀ x ∈ b, x.natAbs < 18446744073709551616) (hz : a.length ≤ 1000) : f__law_dot [.int p, wD a, wD b] π = .ok (.int (dot p a b)) π := by
  have k : mLc (mI zipA (mCons (mVar 1) (mCons (mVar 2) mNil))) (fTup 2 (fCons (fName 3) (fCons (fName 4) fNil))) (mOk true) (m2 mulD (mVar 3) (mVar 4)) [3, 4] [.sh (.int p), .sh (wD a), .sh (wD b), .no, .no] π = .ok (.lst (((a.zip b).map fun q => q.1 * q.2).map D.int)) π := by
    rw [mLc_all (a.zip b) (fun q => D.tup [.int q.1, .int q.2]) (fun q => .int (q.1 * q.2)) (xs := (a.zip b).map fun q => .tup [.int q.1, .int q.2]) (π1 := π) ?_ rfl (by rw [List.length_zip]; exact Nat.le_trans (Nat.min_le_left _ _) (sl24 (by omega))) fun q hq => ⟨_, rfl, ?_⟩]
    · rw [List.map_map]; rfl
    · simp only [zipA_w, ↓u_bd, ↓u_toS, ↓u_seq, bind_ok, bind_err, toS_ok, toS_err, seq_nx, seq_rt, seq_err, fin_nx, fin_rt, fin_err, opt_some, slD_sh, slB_sh, slB_ow, e_mBind, e_mOk, e_mOpt, e_mVar, e_mVarB, e_mNil, e_mCons, e_m1, e_m2, e_m2O, e_mC, e_mI, e_itSeq, e_mSome, e_mAnd, e_mOr, e_mTest, e_mT2, e_mChain, e_tAnd, e_tOr, e_tNot, e_mIf, e_mTup, e_mLst, e_mD, e_mCall, e_callF, e_mPen, e_mPenC, e_sPenPut, e_penPutK, e_sSeq, e_sSet, e_sSetO, e_sRet, e_sExpr, e_sNx, e_sIf, e_runF, e_mList, e_mSlice, e_sRaise, e_mMake, e_callI, d_add, d_sub, d_lt, d_le, d_gt, d_ge, d_eq, d_ne, d_asB, d_not, d_asI, d_ntN, d_intOf, d_neg, d_lenL, d_lenT, d_seqL, d_seqT, d_tupL, d_tupT, p_count, p_at, p_digits, p_fold, q_count, q_at, q_digits, q_fold, List.map_cons, List.map_nil, List.length_cons, List.length_nil, List.replicate_succ, List.replicate_zero, List.cons_append, List.nil_append, List.append_nil, List.getElem?_cons_zero, List.getElem?_cons_succ, List.set_cons_zero, List.set_cons_succ, wipeR, fName, fTup, fCons, fNil, Option.bind_some, Option.map_some, reduceIte, if_true, if_false, decide_eq_true_eq, Nat.reduceAdd, Nat.reduceSub, Nat.reduceLeDiff, Nat.reduceLT, Nat.zero_le, Bool.not_true, Bool.not_false, Bool.false_eq_true, Nat.zero_add]
    · simp only [small_mul (ha q.1 (List.of_mem_zip hq).1) (hb q.2 (List.of_mem_zip hq).2), ↓u_bd, ↓u_toS, ↓u_seq, bind_ok, bind_err, toS_ok, toS_err, seq_nx, seq_rt, seq_err, fin_nx, fin_rt, fin_err, opt_some, slD_sh, slB_sh, slB_ow, e_mBind, e_mOk, e_mOpt, e_mVar, e_mVarB, e_mNil, e_mCons, e_m1, e_m2, e_m2O, e_mC, e_mI, e_itSeq, e_mSome, e_mAnd, e_mOr, e_mTest, e_mT2, e_mChain, e_tAnd, e_tOr, e_tNot, e_mIf, e_mTup, e_mLst, e_mD, e_mCall, e_callF, e_mPen, e_mPenC, e_sPenPut, e_penPutK, e_sSeq, e_sSet, e_sSetO, e_sRet, e_sExpr, e_sNx, e_sIf, e_runF, e_mList, e_mSlice, e_sRaise, e_mMake, e_callI, d_add, d_sub, d_lt, d_le, d_gt, d_ge, d_eq, d_ne, d_asB, d_not, d_asI, d_ntN, d_intOf, d_neg, d_lenL, d_lenT, d_seqL, d_seqT, d_tupL, d_tupT, p_count, p_at, p_digits, p_fold, q_count, q_at, q_digits, q_fold, List.map_cons, List.map_nil, List.length_cons, List.length_nil, List.replicate_succ, List.replicate_zero, List.cons_append, List.nil_append, List.append_nil, List.getElem?_cons_zero, List.getElem?_cons_succ, List.set_cons_zero, List.set_cons_succ, wipeR, fName, fTup, fCons, fNil, Option.bind_some, Option.map_some, reduceIte, if_true, if_false, decide_eq_true_eq, Nat.reduceAdd, Nat.reduceSub, Nat.reduceLeDiff, Nat.reduceLT, Nat.zero_le, Bool.not_true, Bool.not_false, Bool.false_eq_true, Nat.zero_add]
  simp only [f__law_dot, m__law_dot, k, Own.D, sumD_ints, d_mod hp, ↓u_bd, ↓u_toS, ↓u_seq, bind_ok, bind_err, toS_ok, toS_err, seq_nx, seq_rt, seq_err, fin_nx, fin_rt, fin_err, opt_some, slD_sh, slB_sh, slB_ow, e_mBind, e_mOk, e_mOpt, e_mVar, e_mVarB, e_mNil, e_mCons, e_m1, e_m2, e_m2O, e_mC, e_mI, e_itSeq, e_mSome, e_mAnd, e_mOr, e_mTest, e_mT2, e_mChain, e_tAnd, e_tOr, e_tNot, e_mIf, e_mTup, e_mLst, e_mD, e_mCall, e_callF, e_mPen, e_mPenC, e_sPenPut, e_penPutK, e_sSeq, e_sSet, e_sSetO, e_sRet, e_sExpr, e_sNx, e_sIf, e_runF, e_mList, e_mSlice, e_sRaise, e_mMake, e_callI, d_add, d_sub, d_lt, d_le, d_gt, d_ge, d_eq, d_ne, d_asB, d_not, d_asI, d_ntN, d_intOf, d_neg, d_lenL, d_lenT, d_seqL, d_seqT, d_tupL, d_tupT, p_count, p_at, p_digits, p_fold, q_count, q_at, q_digits, q_fold, List.map_cons, List.map_nil, List.length_cons, List.length_nil, List.replicate_succ, List.replicate_zero, List.cons_append, List.nil_append, List.append_nil, List.getElem?_cons_zero, List.getElem?_cons_succ, List.set_cons_zero, List.set_cons_succ, wipeR, fName, fTup, fCons, fNil, Option.bind_some, Option.map_some, reduceIte, if_true, if_false, decide_eq_true_eq, Nat.reduceAdd, Nat.reduceSub, Nat.reduceLeDiff, Nat.reduceLT, Nat.zero_le, Bool.not_true, Bool.not_false, Bool.false_eq_true, Nat.zero_add]
  rfl
def dualL (p : Int) (n : Nat) (rows : List (List Int)) : List (List Int) := (allTup p n).filter fun w => decide ((rows.filter fun r => !decide (dot p w r = 0)) = [])
theorem mem_dualL {rows : List (List Int)} {v : List Int} : v ∈ dualL p n rows ↔ Perp p n rows v := by
  unfold dualL Perp
  rw [List.mem_filter, mem_allTup, decide_eq_true_eq, List.filter_eq_nil_iff]
  constructor
  · rintro ⟨h1, h2⟩
    refine ⟨h1, fun r hr => ?_⟩
    have := h2 r hr
    simpa using this
  · rintro ⟨h1, h2⟩
    refine ⟨h1, fun r hr => ?_⟩
    rw [h2 r hr]; simp
theorem dualL_len {rows : List (List Int)} : (dualL p n rows).length ≤ p.toNat ^ n := by
  unfold dualL
  exact Nat.le_trans (List.length_filter_le _ _) (by rw [len_allTup]; exact Nat.le_refl _)
theorem ev_dual (hp : P23 p) (hn : n ≤ 60) (h : p.toNat ^ n ≤ 5000) {rows : List (List Int)} (hr : Rows p n rows) (hz : rows.length ≤ 1000) : f__law_dual [.int p, .int n, .lst (rows.map wD)] π = .ok (.lst ((dualL p n rows).map wD)) π := by
  have al := ev_all (π := π) hp hn h
  simp only [f__law_dual, m__law_dual, ↓u_bd, ↓u_toS, ↓u_seq, bind_ok, bind_err, toS_ok, toS_err, seq_nx, seq_rt, seq_err, fin_nx, fin_rt, fin_err, opt_some, slD_sh, slB_sh, slB_ow, e_mBind, e_mOk, e_mOpt, e_mVar, e_mVarB, e_mNil, e_mCons, e_m1, e_m2, e_m2O, e_mC, e_mI, e_itSeq, e_mSome, e_mAnd, e_mOr, e_mTest, e_mT2, e_mChain, e_tAnd, e_tOr, e_tNot, e_mIf, e_mTup, e_mLst, e_mD, e_mCall, e_callF, e_mPen, e_mPenC, e_sPenPut, e_penPutK, e_sSeq, e_sSet, e_sSetO, e_sRet, e_sExpr, e_sNx, e_sIf, e_runF, e_mList, e_mSlice, e_sRaise, e_mMake, e_callI, d_add, d_sub, d_lt, d_le, d_gt, d_ge, d_eq, d_ne, d_asB, d_not, d_asI, d_ntN, d_intOf, d_neg, d_lenL, d_lenT, d_seqL, d_seqT, d_tupL, d_tupT, p_count, p_at, p_digits, p_fold, q_count, q_at, q_digits, q_fold, List.map_cons, List.map_nil, List.length_cons, List.length_nil, List.replicate_succ, List.replicate_zero, List.cons_append, List.nil_append, List.append_nil, List.getElem?_cons_zero, List.getElem?_cons_succ, List.set_cons_zero, List.set_cons_succ, wipeR, fName, fTup, fCons, fNil, Option.bind_some, Option.map_some, reduceIte, if_true, if_false, decide_eq_true_eq, Nat.reduceAdd, Nat.reduceSub, Nat.reduceLeDiff, Nat.reduceLT, Nat.zero_le, Bool.not_true, Bool.not_false, Bool.false_eq_true, Nat.zero_add]
  rw [mLc_map (allTup p n) wD (fun w => decide ((rows.filter fun r => !decide (dot p w r = 0)) = [])) wD (xs := (allTup p n).map wD) (π1 := π) ?_ rfl (sl24 (by rw [len_allTup]; omega)) fun w hw => ⟨_, rfl, ?_, fun _ => ?_⟩]
  · simp only [Own.D, ↓u_bd, ↓u_toS, ↓u_seq, bind_ok, bind_err, toS_ok, toS_err, seq_nx, seq_rt, seq_err, fin_nx, fin_rt, fin_err, opt_some, slD_sh, slB_sh, slB_ow, e_mBind, e_mOk, e_mOpt, e_mVar, e_mVarB, e_mNil, e_mCons, e_m1, e_m2, e_m2O, e_mC, e_mI, e_itSeq, e_mSome, e_mAnd, e_mOr, e_mTest, e_mT2, e_mChain, e_tAnd, e_tOr, e_tNot, e_mIf, e_mTup, e_mLst, e_mD, e_mCall, e_callF, e_mPen, e_mPenC, e_sPenPut, e_penPutK, e_sSeq, e_sSet, e_sSetO, e_sRet, e_sExpr, e_sNx, e_sIf, e_runF, e_mList, e_mSlice, e_sRaise, e_mMake, e_callI, d_add, d_sub, d_lt, d_le, d_gt, d_ge, d_eq, d_ne, d_asB, d_not, d_asI, d_ntN, d_intOf, d_neg, d_lenL, d_lenT, d_seqL, d_seqT, d_tupL, d_tupT, p_count, p_at, p_digits, p_fold, q_count, q_at, q_digits, q_fold, List.map_cons, List.map_nil, List.length_cons, List.length_nil, List.replicate_succ, List.replicate_zero, List.cons_append, List.nil_append, List.append_nil, List.getElem?_cons_zero, List.getElem?_cons_succ, List.set_cons_zero, List.set_cons_succ, wipeR, fName, fTup, fCons, fNil, Option.bind_some, Option.map_some, reduceIte, if_true, if_false, decide_eq_true_eq, Nat.reduceAdd, Nat.reduceSub, Nat.reduceLeDiff, Nat.reduceLT, Nat.zero_le, Bool.not_true, Bool.not_false, Bool.false_eq_true, Nat.zero_add]
    rfl
  · simp only [al, ↓u_bd, ↓u_toS, ↓u_seq, bind_ok, bind_err, toS_ok, toS_err, seq_nx, seq_rt, seq_err, fin_nx, fin_rt, fin_err, opt_some, slD_sh, slB_sh, slB_ow, e_mBind, e_mOk, e_mOpt, e_mVar, e_mVarB, e_mNil, e_mCons, e_m1, e_m2, e_m2O, e_mC, e_mI, e_itSeq, e_mSome, e_mAnd, e_mOr, e_mTest, e_mT2, e_mChain, e_tAnd, e_tOr, e_tNot, e_mIf, e_mTup, e_mLst, e_mD, e_mCall, e_callF, e_mPen, e_mPenC, e_sPenPut, e_penPutK, e_sSeq, e_sSet, e_sSetO, e_sRet, e_sExpr, e_sNx, e_sIf, e_runF, e_mList, e_mSlice, e_sRaise, e_mMake, e_callI, d_add, d_sub, d_lt, d_le, d_gt, d_ge, d_eq, d_ne, d_asB, d_not, d_asI, d_ntN, d_intOf, d_neg, d_lenL, d_lenT, d_seqL, d_seqT, d_tupL, d_tupT, p_count, p_at, p_digits, p_fold, q_count, q_at, q_digits, q_fold, List.map_cons, List.map_nil, List.length_cons, List.length_nil, List.replicate_succ, List.replicate_zero, List.cons_append, List.nil_append, List.append_nil, List.getElem?_cons_zero, List.getElem?_cons_succ, List.set_cons_zero, List.set_cons_succ, wipeR, fName, fTup, fCons, fNil, Option.bind_some, Option.map_some, reduceIte, if_true, if_false, decide_eq_true_eq, Nat.reduceAdd, Nat.reduceSub, Nat.reduceLeDiff, Nat.reduceLT, Nat.zero_le, Bool.not_true, Bool.not_false, Bool.false_eq_true, Nat.zero_add]
  · have ww := mem_allTup.mp hw
    have k : mLc (itSeq (mVar 2)) (fName 4) (mT2 neD (mCall 3 f__law_dot [] (mCons (mVar 0) (mCons (mVar 3) (mCons (mVar 4) mNil)))) (mOk (.int 0))) (mVar 4) [4] [.sh (.int p), .sh (.int n), .sh (.lst (rows.map wD)), .sh (wD w), .no] π = .ok (.lst ((rows.filter fun r => !decide (dot p w r = 0)).map wD)) π := by
      refine mLc_map rows wD _ _ (xs := rows.map wD) ?_ rfl (sl24 (by omega)) fun r hr' => ⟨_, rfl, ?_, fun _ => ?_⟩
      · simp only [↓u_bd, ↓u_toS, ↓u_seq, bind_ok, bind_err, toS_ok, toS_err, seq_nx, seq_rt, seq_err, fin_nx, fin_rt, fin_err, opt_some, slD_sh, slB_sh, slB_ow, e_mBind, e_mOk, e_mOpt, e_mVar, e_mVarB, e_mNil, e_mCons, e_m1, e_m2, e_m2O, e_mC, e_mI, e_itSeq, e_mSome, e_mAnd, e_mOr, e_mTest, e_mT2, e_mChain, e_tAnd, e_tOr, e_tNot, e_mIf, e_mTup, e_mLst, e_mD, e_mCall, e_callF, e_mPen, e_mPenC, e_sPenPut, e_penPutK, e_sSeq, e_sSet, e_sSetO, e_sRet, e_sExpr, e_sNx, e_sIf, e_runF, e_mList, e_mSlice, e_sRaise, e_mMake, e_callI, d_add, d_sub, d_lt, d_le, d_gt, d_ge, d_eq, d_ne, d_asB, d_not, d_asI, d_ntN, d_intOf, d_neg, d_lenL, d_lenT, d_seqL, d_seqT, d_tupL, d_tupT, p_count, p_at, p_digits, p_fold, q_count, q_at, q_digits, q_fold, List.map_cons, List.map_nil, List.length_cons, List.length_nil, List.replicate_succ, List.replicate_zero, List.cons_append, List.nil_append, List.append_nil, List.getElem?_cons_zero, List.getElem?_cons_succ, List.set_cons_zero, List.set_cons_succ, wipeR, fName, fTup, fCons, fNil, Option.bind_some, Option.map_some, reduceIte, if_true, if_false, decide_eq_true_eq, Nat.reduceAdd, Nat.reduceSub, Nat.reduceLeDiff, Nat.reduceLT, Nat.zero_le, Bool.not_true, Bool.not_false, Bool.false_eq_true, Nat.zero_add]
      · have wr := hr r hr'
        simp only [ev_dot hp.pos (isW_small ww hp) (isW_small wr hp) (show w.length ≤ 1000 by rw [ww.1]; omega), ↓u_bd, ↓u_toS, ↓u_seq, bind_ok, bind_err, toS_ok, toS_err, seq_nx, seq_rt, seq_err, fin_nx, fin_rt, fin_err, opt_some, slD_sh, slB_sh, slB_ow, e_mBind, e_mOk, e_mOpt, e_mVar, e_mVarB, e_mNil, e_mCons, e_m1, e_m2, e_m2O, e_mC, e_mI, e_itSeq, e_mSome, e_mAnd, e_mOr, e_mTest, e_mT2, e_mChain, e_tAnd, e_tOr, e_tNot, e_mIf, e_mTup, e_mLst, e_mD, e_mCall, e_callF, e_mPen, e_mPenC, e_sPenPut, e_penPutK, e_sSeq, e_sSet, e_sSetO, e_sRet, e_sExpr, e_sNx, e_sIf, e_runF, e_mList, e_mSlice, e_sRaise, e_mMake, e_callI, d_add, d_sub, d_lt, d_le, d_gt, d_ge, d_eq, d_ne, d_asB, d_not, d_asI, d_ntN, d_intOf, d_neg, d_lenL, d_lenT, d_seqL, d_seqT, d_tupL, d_tupT, p_count, p_at, p_digits, p_fold, q_count, q_at, q_digits, q_fold, List.map_cons, List.map_nil, List.length_cons, List.length_nil, List.replicate_succ, List.replicate_zero, List.cons_append, List.nil_append, List.append_nil, List.getElem?_cons_zero, List.getElem?_cons_succ, List.set_cons_zero, List.set_cons_succ, wipeR, fName, fTup, fCons, fNil, Option.bind_some, Option.map_some, reduceIte, if_true, if_false, decide_eq_true_eq, Nat.reduceAdd, Nat.reduceSub, Nat.reduceLeDiff, Nat.reduceLT, Nat.zero_le, Bool.not_true, Bool.not_false, Bool.false_eq_true, Nat.zero_add]
      · simp only [↓u_bd, ↓u_toS, ↓u_seq, bind_ok, bind_err, toS_ok, toS_err, seq_nx, seq_rt, seq_err, fin_nx, fin_rt, fin_err, opt_some, slD_sh, slB_sh, slB_ow, e_mBind, e_mOk, e_mOpt, e_mVar, e_mVarB, e_mNil, e_mCons, e_m1, e_m2, e_m2O, e_mC, e_mI, e_itSeq, e_mSome, e_mAnd, e_mOr, e_mTest, e_mT2, e_mChain, e_tAnd, e_tOr, e_tNot, e_mIf, e_mTup, e_mLst, e_mD, e_mCall, e_callF, e_mPen, e_mPenC, e_sPenPut, e_penPutK, e_sSeq, e_sSet, e_sSetO, e_sRet, e_sExpr, e_sNx, e_sIf, e_runF, e_mList, e_mSlice, e_sRaise, e_mMake, e_callI, d_add, d_sub, d_lt, d_le, d_gt, d_ge, d_eq, d_ne, d_asB, d_not, d_asI, d_ntN, d_intOf, d_neg, d_lenL, d_lenT, d_seqL, d_seqT, d_tupL, d_tupT, p_count, p_at, p_digits, p_fold, q_count, q_at, q_digits, q_fold, List.map_cons, List.map_nil, List.length_cons, List.length_nil, List.replicate_succ, List.replicate_zero, List.cons_append, List.nil_append, List.append_nil, List.getElem?_cons_zero, List.getElem?_cons_succ, List.set_cons_zero, List.set_cons_succ, wipeR, fName, fTup, fCons, fNil, Option.bind_some, Option.map_some, reduceIte, if_true, if_false, decide_eq_true_eq, Nat.reduceAdd, Nat.reduceSub, Nat.reduceLeDiff, Nat.reduceLT, Nat.zero_le, Bool.not_true, Bool.not_false, Bool.false_eq_true, Nat.zero_add]
    have en := eq_nil (l := (rows.filter fun r => !decide (dot p w r = 0)).map wD) (plain_words _)
    have e4 : decide (((rows.filter fun r => !decide (dot p w r = 0)).map wD) = []) = decide ((rows.filter fun r => !decide (dot p w r = 0)) = []) := decide_eq_decide.mpr ⟨fun z => List.map_eq_nil_iff.mp z, fun z => by rw [z]; rfl⟩
    rw [e4] at en
    simp only [k, Own.D, en, ↓u_bd, ↓u_toS, ↓u_seq, bind_ok, bind_err, toS_ok, toS_err, seq_nx, seq_rt, seq_err, fin_nx, fin_rt, fin_err, opt_some, slD_sh, slB_sh, slB_ow, e_mBind, e_mOk, e_mOpt, e_mVar, e_mVarB, e_mNil, e_mCons, e_m1, e_m2, e_m2O, e_mC, e_mI, e_itSeq, e_mSome, e_mAnd, e_mOr, e_mTest, e_mT2, e_mChain, e_tAnd, e_tOr, e_tNot, e_mIf, e_mTup, e_mLst, e_mD, e_mCall, e_callF, e_mPen, e_mPenC, e_sPenPut, e_penPutK, e_sSeq, e_sSet, e_sSetO, e_sRet, e_sExpr, e_sNx, e_sIf, e_runF, e_mList, e_mSlice, e_sRaise, e_mMake, e_callI, d_add, d_sub, d_lt, d_le, d_gt, d_ge, d_eq, d_ne, d_asB, d_not, d_asI, d_ntN, d_intOf, d_neg, d_lenL, d_lenT, d_seqL, d_seqT, d_tupL, d_tupT, p_count, p_at, p_digits, p_fold, q_count, q_at, q_digits, q_fold, List.map_cons, List.map_nil, List.length_cons, List.length_nil, List.replicate_succ, List.replicate_zero, List.cons_append, List.nil_append, List.append_nil, List.getElem?_cons_zero, List.getElem?_cons_succ, List.set_cons_zero, List.set_cons_succ, wipeR, fName, fTup, fCons, fNil, Option.bind_some, Option.map_some, reduceIte, if_true, if_false, decide_eq_true_eq, Nat.reduceAdd, Nat.reduceSub, Nat.reduceLeDiff, Nat.reduceLT, Nat.zero_le, Bool.not_true, Bool.not_false, Bool.false_eq_true, Nat.zero_add]
  · simp only [↓u_bd, ↓u_toS, ↓u_seq, bind_ok, bind_err, toS_ok, toS_err, seq_nx, seq_rt, seq_err, fin_nx, fin_rt, fin_err, opt_some, slD_sh, slB_sh, slB_ow, e_mBind, e_mOk, e_mOpt, e_mVar, e_mVarB, e_mNil, e_mCons, e_m1, e_m2, e_m2O, e_mC, e_mI, e_itSeq, e_mSome, e_mAnd, e_mOr, e_mTest, e_mT2, e_mChain, e_tAnd, e_tOr, e_tNot, e_mIf, e_mTup, e_mLst, e_mD, e_mCall, e_callF, e_mPen, e_mPenC, e_sPenPut, e_penPutK, e_sSeq, e_sSet, e_sSetO, e_sRet, e_sExpr, e_sNx, e_sIf, e_runF, e_mList, e_mSlice, e_sRaise, e_mMake, e_callI, d_add, d_sub, d_lt, d_le, d_gt, d_ge, d_eq, d_ne, d_asB, d_not, d_asI, d_ntN, d_intOf, d_neg, d_lenL, d_lenT, d_seqL, d_seqT, d_tupL, d_tupT, p_count, p_at, p_digits, p_fold, q_count, q_at, q_digits, q_fold, List.map_cons, List.map_nil, List.length_cons, List.length_nil, List.replicate_succ, List.replicate_zero, List.cons_append, List.nil_append, List.append_nil, List.getElem?_cons_zero, List.getElem?_cons_succ, List.set_cons_zero, List.set_cons_succ, wipeR, fName, fTup, fCons, fNil, Option.bind_some, Option.map_some, reduceIte, if_true, if_false, decide_eq_true_eq, Nat.reduceAdd, Nat.reduceSub, Nat.reduceLeDiff, Nat.reduceLT, Nat.zero_le, Bool.not_true, Bool.not_false, Bool.false_eq_true, Nat.zero_add]
theorem code_tup {rows : List (List Int)} (hp : P23 p) (h1 : 1 ≤ n) (hn : n ≤ 24) (hr : Rows p n rows) (hz : rows.length ≤ 1000) :
    f_Code_init [.int p, .int n, .tup (rows.map wD)] π = .ok (.ins "Code" ["p", "n", "basis", "size"] [.int p, .int n, .tup ((byLead (steps p rows)).map wD), .int (byLead (steps p rows)).length]) π := by
  have e : (rows.map fun w => (false, w)).map (·.2) = rows := by rw [List.map_map]; exact List.map_id _
  have e2 : (rows.map fun w => (false, w)).map rowD = rows.map wD := by rw [List.map_map]; rfl
  have := ev_code (c := false) (rows := rows.map fun w => (false, w)) (π := π) hp h1 hn (by rw [e]; exact hr) (by rw [List.length_map]; exact hz)
  rw [e, e2] at this
  exact this
theorem ev_made {rows : List (List Int)} (hp : P23 p) (h1 : 1 ≤ n) (hn : n ≤ 24) (hr : Rows p n rows) (hz : rows.length ≤ 1000) : f_made_code [.int p, .int n, .lst (rows.map wD)] π = .ok (codeD p n (basisOf p rows)) π := by
  simp only [f_made_code, m_made_code, code_lst hp h1 hn hr hz, ins_code, ↓u_bd, ↓u_toS, ↓u_seq, bind_ok, bind_err, toS_ok, toS_err, seq_nx, seq_rt, seq_err, fin_nx, fin_rt, fin_err, opt_some, slD_sh, slB_sh, slB_ow, e_mBind, e_mOk, e_mOpt, e_mVar, e_mVarB, e_mNil, e_mCons, e_m1, e_m2, e_m2O, e_mC, e_mI, e_itSeq, e_mSome, e_mAnd, e_mOr, e_mTest, e_mT2, e_mChain, e_tAnd, e_tOr, e_tNot, e_mIf, e_mTup, e_mLst, e_mD, e_mCall, e_callF, e_mPen, e_mPenC, e_sPenPut, e_penPutK, e_sSeq, e_sSet, e_sSetO, e_sRet, e_sExpr, e_sNx, e_sIf, e_runF, e_mList, e_mSlice, e_sRaise, e_mMake, e_callI, d_add, d_sub, d_lt, d_le, d_gt, d_ge, d_eq, d_ne, d_asB, d_not, d_asI, d_ntN, d_intOf, d_neg, d_lenL, d_lenT, d_seqL, d_seqT, d_tupL, d_tupT, p_count, p_at, p_digits, p_fold, q_count, q_at, q_digits, q_fold, List.map_cons, List.map_nil, List.length_cons, List.length_nil, List.replicate_succ, List.replicate_zero, List.cons_append, List.nil_append, List.append_nil, List.getElem?_cons_zero, List.getElem?_cons_succ, List.set_cons_zero, List.set_cons_succ, wipeR, fName, fTup, fCons, fNil, Option.bind_some, Option.map_some, reduceIte, if_true, if_false, decide_eq_true_eq, Nat.reduceAdd, Nat.reduceSub, Nat.reduceLeDiff, Nat.reduceLT, Nat.zero_le, Bool.not_true, Bool.not_false, Bool.false_eq_true, Nat.zero_add]
  rfl
theorem ev_madeT {rows : List (List Int)} (hp : P23 p) (h1 : 1 ≤ n) (hn : n ≤ 24) (hr : Rows p n rows) (hz : rows.length ≤ 1000) : f_made_code [.int p, .int n, .tup (rows.map wD)] π = .ok (codeD p n (basisOf p rows)) π := by
  simp only [f_made_code, m_made_code, code_tup hp h1 hn hr hz, ins_code, ↓u_bd, ↓u_toS, ↓u_seq, bind_ok, bind_err, toS_ok, toS_err, seq_nx, seq_rt, seq_err, fin_nx, fin_rt, fin_err, opt_some, slD_sh, slB_sh, slB_ow, e_mBind, e_mOk, e_mOpt, e_mVar, e_mVarB, e_mNil, e_mCons, e_m1, e_m2, e_m2O, e_mC, e_mI, e_itSeq, e_mSome, e_mAnd, e_mOr, e_mTest, e_mT2, e_mChain, e_tAnd, e_tOr, e_tNot, e_mIf, e_mTup, e_mLst, e_mD, e_mCall, e_callF, e_mPen, e_mPenC, e_sPenPut, e_penPutK, e_sSeq, e_sSet, e_sSetO, e_sRet, e_sExpr, e_sNx, e_sIf, e_runF, e_mList, e_mSlice, e_sRaise, e_mMake, e_callI, d_add, d_sub, d_lt, d_le, d_gt, d_ge, d_eq, d_ne, d_asB, d_not, d_asI, d_ntN, d_intOf, d_neg, d_lenL, d_lenT, d_seqL, d_seqT, d_tupL, d_tupT, p_count, p_at, p_digits, p_fold, q_count, q_at, q_digits, q_fold, List.map_cons, List.map_nil, List.length_cons, List.length_nil, List.replicate_succ, List.replicate_zero, List.cons_append, List.nil_append, List.append_nil, List.getElem?_cons_zero, List.getElem?_cons_succ, List.set_cons_zero, List.set_cons_succ, wipeR, fName, fTup, fCons, fNil, Option.bind_some, Option.map_some, reduceIte, if_true, if_false, decide_eq_true_eq, Nat.reduceAdd, Nat.reduceSub, Nat.reduceLeDiff, Nat.reduceLT, Nat.zero_le, Bool.not_true, Bool.not_false, Bool.false_eq_true, Nat.zero_add]
  rfl
theorem frees_le {B : List (List Int)} : (frees n B).length ≤ n := by
  unfold frees
  have := List.length_filter_le (fun x => !decide (x ∈ B.map leadN)) (List.range n)
  rwa [List.length_range] at this
theorem mir_len {B : List (List Int)} : (mirW p n B).length ≤ n := by unfold mirW; rw [List.length_map]; exact frees_le
theorem red_len {B : List (List Int)} (r : Red p n B) : B.length ≤ n := by have := frees_len r; omega
theorem ev_mirror_of (hp : P23 p) (h1 : 1 ≤ n) (hn : n ≤ 24) (r : Red p n B) : f_mirror_of [codeD p n B] π = .ok (codeD p n (dualB p n B)) π := by
  have mw := ev_mirror_words (π := π) hp (by omega) r (by have := red_len r; omega)
  have ml := mir_len (p := p) (n := n) (B := B)
  simp only [f_mirror_of, m_mirror_of, fld_p, fld_n, mw, ev_made hp h1 hn (mir_rows hp r) (show (mirW p n B).length ≤ 1000 by omega), ↓u_bd, ↓u_toS, ↓u_seq, bind_ok, bind_err, toS_ok, toS_err, seq_nx, seq_rt, seq_err, fin_nx, fin_rt, fin_err, opt_some, slD_sh, slB_sh, slB_ow, e_mBind, e_mOk, e_mOpt, e_mVar, e_mVarB, e_mNil, e_mCons, e_m1, e_m2, e_m2O, e_mC, e_mI, e_itSeq, e_mSome, e_mAnd, e_mOr, e_mTest, e_mT2, e_mChain, e_tAnd, e_tOr, e_tNot, e_mIf, e_mTup, e_mLst, e_mD, e_mCall, e_callF, e_mPen, e_mPenC, e_sPenPut, e_penPutK, e_sSeq, e_sSet, e_sSetO, e_sRet, e_sExpr, e_sNx, e_sIf, e_runF, e_mList, e_mSlice, e_sRaise, e_mMake, e_callI, d_add, d_sub, d_lt, d_le, d_gt, d_ge, d_eq, d_ne, d_asB, d_not, d_asI, d_ntN, d_intOf, d_neg, d_lenL, d_lenT, d_seqL, d_seqT, d_tupL, d_tupT, p_count, p_at, p_digits, p_fold, q_count, q_at, q_digits, q_fold, List.map_cons, List.map_nil, List.length_cons, List.length_nil, List.replicate_succ, List.replicate_zero, List.cons_append, List.nil_append, List.append_nil, List.getElem?_cons_zero, List.getElem?_cons_succ, List.set_cons_zero, List.set_cons_succ, wipeR, fName, fTup, fCons, fNil, Option.bind_some, Option.map_some, reduceIte, if_true, if_false, decide_eq_true_eq, Nat.reduceAdd, Nat.reduceSub, Nat.reduceLeDiff, Nat.reduceLT, Nat.zero_le, Bool.not_true, Bool.not_false, Bool.false_eq_true, Nat.zero_add]
  rfl
theorem ev_mirror (hp : P23 p) (h1 : 1 ≤ n) (hn : n ≤ 24) (r : Red p n B) : f_mirror [codeD p n B] π = .ok (codeD p n (dualB p n B)) π := by
  simp only [f_mirror, m_mirror, ev_need_code, ev_mirror_of hp h1 hn r, ↓u_bd, ↓u_toS, ↓u_seq, bind_ok, bind_err, toS_ok, toS_err, seq_nx, seq_rt, seq_err, fin_nx, fin_rt, fin_err, opt_some, slD_sh, slB_sh, slB_ow, e_mBind, e_mOk, e_mOpt, e_mVar, e_mVarB, e_mNil, e_mCons, e_m1, e_m2, e_m2O, e_mC, e_mI, e_itSeq, e_mSome, e_mAnd, e_mOr, e_mTest, e_mT2, e_mChain, e_tAnd, e_tOr, e_tNot, e_mIf, e_mTup, e_mLst, e_mD, e_mCall, e_callF, e_mPen, e_mPenC, e_sPenPut, e_penPutK, e_sSeq, e_sSet, e_sSetO, e_sRet, e_sExpr, e_sNx, e_sIf, e_runF, e_mList, e_mSlice, e_sRaise, e_mMake, e_callI, d_add, d_sub, d_lt, d_le, d_gt, d_ge, d_eq, d_ne, d_asB, d_not, d_asI, d_ntN, d_intOf, d_neg, d_lenL, d_lenT, d_seqL, d_seqT, d_tupL, d_tupT, p_count, p_at, p_digits, p_fold, q_count, q_at, q_digits, q_fold, List.map_cons, List.map_nil, List.length_cons, List.length_nil, List.replicate_succ, List.replicate_zero, List.cons_append, List.nil_append, List.append_nil, List.getElem?_cons_zero, List.getElem?_cons_succ, List.set_cons_zero, List.set_cons_succ, wipeR, fName, fTup, fCons, fNil, Option.bind_some, Option.map_some, reduceIte, if_true, if_false, decide_eq_true_eq, Nat.reduceAdd, Nat.reduceSub, Nat.reduceLeDiff, Nat.reduceLT, Nat.zero_le, Bool.not_true, Bool.not_false, Bool.false_eq_true, Nat.zero_add]
theorem ne_pair' {a b c d : Int} : neD (.tup [.int a, .int b]) (.tup [.int c, .int d]) = some (.bl (!(decide (a = c) && decide (b = d)))) := by
  have pl : ∀ a b : Int, plainD 60 (.tup [.int a, .int b]) = true := fun a b => plain_ints [a, b]
  unfold neD
  rw [pl, pl]
  show some (D.bl (!(a == c && (b == d && true)))) = _
  rw [Bool.and_true]
  rfl
theorem ev_need_two : f_need_two [codeD p n B, codeD p n C] π = .ok .non π := by
  simp only [f_need_two, m_need_two, ev_need_code, fld_p, fld_n, ne_pair, ↓u_bd, ↓u_toS, ↓u_seq, bind_ok, bind_err, toS_ok, toS_err, seq_nx, seq_rt, seq_err, fin_nx, fin_rt, fin_err, opt_some, slD_sh, slB_sh, slB_ow, e_mBind, e_mOk, e_mOpt, e_mVar, e_mVarB, e_mNil, e_mCons, e_m1, e_m2, e_m2O, e_mC, e_mI, e_itSeq, e_mSome, e_mAnd, e_mOr, e_mTest, e_mT2, e_mChain, e_tAnd, e_tOr, e_tNot, e_mIf, e_mTup, e_mLst, e_mD, e_mCall, e_callF, e_mPen, e_mPenC, e_sPenPut, e_penPutK, e_sSeq, e_sSet, e_sSetO, e_sRet, e_sExpr, e_sNx, e_sIf, e_runF, e_mList, e_mSlice, e_sRaise, e_mMake, e_callI, d_add, d_sub, d_lt, d_le, d_gt, d_ge, d_eq, d_ne, d_asB, d_not, d_asI, d_ntN, d_intOf, d_neg, d_lenL, d_lenT, d_seqL, d_seqT, d_tupL, d_tupT, p_count, p_at, p_digits, p_fold, q_count, q_at, q_digits, q_fold, List.map_cons, List.map_nil, List.length_cons, List.length_nil, List.replicate_succ, List.replicate_zero, List.cons_append, List.nil_append, List.append_nil, List.getElem?_cons_zero, List.getElem?_cons_succ, List.set_cons_zero, List.set_cons_succ, wipeR, fName, fTup, fCons, fNil, Option.bind_some, Option.map_some, reduceIte, if_true, if_false, decide_eq_true_eq, Nat.reduceAdd, Nat.reduceSub, Nat.reduceLeDiff, Nat.reduceLT, Nat.zero_le, Bool.not_true, Bool.not_false, Bool.false_eq_true, Nat.zero_add]
theorem ev_need_two_no {q : Int} {m : Nat} (h : ¬ (p = q ∧ n = m)) : f_need_two [codeD p n B, codeD q m C] π = .err "NotAlike" ["other", "one"] [codeD q m C, codeD p n B] π := by
  have c : (!(decide (p = q) && decide ((n : Int) = m))) = true := by
    rw [Bool.not_eq_true', Bool.and_eq_false_iff]
    by_cases e : p = q
    · exact .inr (decide_eq_false fun z => h ⟨e, by omega⟩)
    · exact .inl (decide_eq_false e)
  simp only [f_need_two, m_need_two, ev_need_code, fld_p, fld_n, ne_pair', c, ↓u_bd, ↓u_toS, ↓u_seq, bind_ok, bind_err, toS_ok, toS_err, seq_nx, seq_rt, seq_err, fin_nx, fin_rt, fin_err, opt_some, slD_sh, slB_sh, slB_ow, e_mBind, e_mOk, e_mOpt, e_mVar, e_mVarB, e_mNil, e_mCons, e_m1, e_m2, e_m2O, e_mC, e_mI, e_itSeq, e_mSome, e_mAnd, e_mOr, e_mTest, e_mT2, e_mChain, e_tAnd, e_tOr, e_tNot, e_mIf, e_mTup, e_mLst, e_mD, e_mCall, e_callF, e_mPen, e_mPenC, e_sPenPut, e_penPutK, e_sSeq, e_sSet, e_sSetO, e_sRet, e_sExpr, e_sNx, e_sIf, e_runF, e_mList, e_mSlice, e_sRaise, e_mMake, e_callI, d_add, d_sub, d_lt, d_le, d_gt, d_ge, d_eq, d_ne, d_asB, d_not, d_asI, d_ntN, d_intOf, d_neg, d_lenL, d_lenT, d_seqL, d_seqT, d_tupL, d_tupT, p_count, p_at, p_digits, p_fold, q_count, q_at, q_digits, q_fold, List.map_cons, List.map_nil, List.length_cons, List.length_nil, List.replicate_succ, List.replicate_zero, List.cons_append, List.nil_append, List.append_nil, List.getElem?_cons_zero, List.getElem?_cons_succ, List.set_cons_zero, List.set_cons_succ, wipeR, fName, fTup, fCons, fNil, Option.bind_some, Option.map_some, reduceIte, if_true, if_false, decide_eq_true_eq, Nat.reduceAdd, Nat.reduceSub, Nat.reduceLeDiff, Nat.reduceLT, Nat.zero_le, Bool.not_true, Bool.not_false, Bool.false_eq_true, Nat.zero_add]
  rfl
theorem rows_app {R S : List (List Int)} (h1 : Rows p n R) (h2 : Rows p n S) : Rows p n (R ++ S) := fun r hr => by
  rcases List.mem_append.mp hr with q | q
  · exact h1 r q
  · exact h2 r q
theorem ev_meet (hp : P23 p) (h1 : 1 ≤ n) (hn : n ≤ 24) (rB : Red p n B) (rC : Red p n C) : f_meet [codeD p n B, codeD p n C] π = .ok (codeD p n (dualB p n (basisOf p (mirW p n B ++ mirW p n C)))) π := by
  have mB := ev_mirror_words (π := π) hp (by omega) rB (by have := red_len rB; omega)
  have mC := ev_mirror_words (π := π) hp (by omega) rC (by have := red_len rC; omega)
  have lB := mir_len (p := p) (n := n) (B := B)
  have lC := mir_len (p := p) (n := n) (B := C)
  have ap := d_addL (l := (mirW p n B).map wD) (m := (mirW p n C).map wD) (sl24 (by rw [List.length_map, List.length_map]; omega))
  rw [← List.map_append] at ap
  have rr := rows_app (mir_rows hp rB) (mir_rows hp rC)
  simp only [f_meet, m_meet, ev_need_two, fld_p, fld_n, mB, mC, ap, ev_made hp h1 hn rr (show (mirW p n B ++ mirW p n C).length ≤ 1000 by rw [List.length_append]; omega), ev_mirror_of hp h1 hn (basisOf_ok hp rr).1.red, ↓u_bd, ↓u_toS, ↓u_seq, bind_ok, bind_err, toS_ok, toS_err, seq_nx, seq_rt, seq_err, fin_nx, fin_rt, fin_err, opt_some, slD_sh, slB_sh, slB_ow, e_mBind, e_mOk, e_mOpt, e_mVar, e_mVarB, e_mNil, e_mCons, e_m1, e_m2, e_m2O, e_mC, e_mI, e_itSeq, e_mSome, e_mAnd, e_mOr, e_mTest, e_mT2, e_mChain, e_tAnd, e_tOr, e_tNot, e_mIf, e_mTup, e_mLst, e_mD, e_mCall, e_callF, e_mPen, e_mPenC, e_sPenPut, e_penPutK, e_sSeq, e_sSet, e_sSetO, e_sRet, e_sExpr, e_sNx, e_sIf, e_runF, e_mList, e_mSlice, e_sRaise, e_mMake, e_callI, d_add, d_sub, d_lt, d_le, d_gt, d_ge, d_eq, d_ne, d_asB, d_not, d_asI, d_ntN, d_intOf, d_neg, d_lenL, d_lenT, d_seqL, d_seqT, d_tupL, d_tupT, p_count, p_at, p_digits, p_fold, q_count, q_at, q_digits, q_fold, List.map_cons, List.map_nil, List.length_cons, List.length_nil, List.replicate_succ, List.replicate_zero, List.cons_append, List.nil_append, List.append_nil, List.getElem?_cons_zero, List.getElem?_cons_succ, List.set_cons_zero, List.set_cons_succ, wipeR, fName, fTup, fCons, fNil, Option.bind_some, Option.map_some, reduceIte, if_true, if_false, decide_eq_true_eq, Nat.reduceAdd, Nat.reduceSub, Nat.reduceLeDiff, Nat.reduceLT, Nat.zero_le, Bool.not_true, Bool.not_false, Bool.false_eq_true, Nat.zero_add]
theorem ev_sum_of (hp : P23 p) (h1 : 1 ≤ n) (hn : n ≤ 24) (rB : Red p n B) (rC : Red p n C) : f_sum_of [codeD p n B, codeD p n C] π = .ok (codeD p n (basisOf p (B ++ C))) π := by
  have lB := red_len rB
  have lC := red_len rC
  have ap := d_addT (l := B.map wD) (m := C.map wD) (sl24 (by rw [List.length_map, List.length_map]; omega))
  rw [← List.map_append] at ap
  simp only [f_sum_of, m_sum_of, ev_need_two, fld_p, fld_n, fld_b, ap, ev_madeT hp h1 hn (rows_app rB.w rC.w) (show (B ++ C).length ≤ 1000 by rw [List.length_append]; omega), ↓u_bd, ↓u_toS, ↓u_seq, bind_ok, bind_err, toS_ok, toS_err, seq_nx, seq_rt, seq_err, fin_nx, fin_rt, fin_err, opt_some, slD_sh, slB_sh, slB_ow, e_mBind, e_mOk, e_mOpt, e_mVar, e_mVarB, e_mNil, e_mCons, e_m1, e_m2, e_m2O, e_mC, e_mI, e_itSeq, e_mSome, e_mAnd, e_mOr, e_mTest, e_mT2, e_mChain, e_tAnd, e_tOr, e_tNot, e_mIf, e_mTup, e_mLst, e_mD, e_mCall, e_callF, e_mPen, e_mPenC, e_sPenPut, e_penPutK, e_sSeq, e_sSet, e_sSetO, e_sRet, e_sExpr, e_sNx, e_sIf, e_runF, e_mList, e_mSlice, e_sRaise, e_mMake, e_callI, d_add, d_sub, d_lt, d_le, d_gt, d_ge, d_eq, d_ne, d_asB, d_not, d_asI, d_ntN, d_intOf, d_neg, d_lenL, d_lenT, d_seqL, d_seqT, d_tupL, d_tupT, p_count, p_at, p_digits, p_fold, q_count, q_at, q_digits, q_fold, List.map_cons, List.map_nil, List.length_cons, List.length_nil, List.replicate_succ, List.replicate_zero, List.cons_append, List.nil_append, List.append_nil, List.getElem?_cons_zero, List.getElem?_cons_succ, List.set_cons_zero, List.set_cons_succ, wipeR, fName, fTup, fCons, fNil, Option.bind_some, Option.map_some, reduceIte, if_true, if_false, decide_eq_true_eq, Nat.reduceAdd, Nat.reduceSub, Nat.reduceLeDiff, Nat.reduceLT, Nat.zero_le, Bool.not_true, Bool.not_false, Bool.false_eq_true, Nat.zero_add]
theorem eqO_code' {ng : Bool} {q : Int} {m : Nat} : eqO ng CS "Code" f_Code_eq (codeD p n B) (codeD q m C) π = .ok (.bl ((decide (p = q) && (decide (n = m) && decide (B = C))) ^^ ng)) π := by
  show ((callF 2 f_Code_eq [codeD p n B, codeD q m C] π).bind fun r π => (match r with | .bl b => Out.ok (D.bl (b ^^ ng)) π | _ => .bad)) = _
  rw [e_callF (show [codeD p n B, codeD q m C].length = 2 from rfl), ev_eq, obind_ok]
end
end L2.Dl.W
end

section
set_option maxRecDepth 100000
set_option maxHeartbeats 8000000
namespace CM
section
variable {p : Int} {n : Nat} {B C : List W}
theorem perp_dual (hp : P23 p) (r : Rref p n B) (v : W) : Perp p n (dualB p n B) v ↔ Span p n B v := by
  obtain ⟨d1, d2, d3⟩ := dual_ok hp r.red
  obtain ⟨e1, e2, e3⟩ := dual_ok hp d1.red
  rw [← e2, dual_dual hp r]
theorem perp_mir (hp : P23 p) (r : Rref p n B) (v : W) : Perp p n (mirW p n B) v ↔ Span p n B v := by
  obtain ⟨d1, d2, d3⟩ := dual_ok hp r.red
  rw [← perp_dual hp r]
  exact Perp.congr hp.pos (mir_rows hp r.red) d1.red.w (fun v => by rw [mir_span hp r.red, d2]) v
theorem perp_app {R S : List W} (v : W) : Perp p n (R ++ S) v ↔ Perp p n R v ∧ Perp p n S v := by
  constructor
  · rintro ⟨h1, h2⟩
    exact ⟨⟨h1, fun r hr => h2 r (List.mem_append_left _ hr)⟩, ⟨h1, fun r hr => h2 r (List.mem_append_right _ hr)⟩⟩
  · rintro ⟨h1, h2⟩
    refine ⟨h1.1, fun r hr => ?_⟩
    rcases List.mem_append.mp hr with q | q
    · exact h1.2 r q
    · exact h2.2 r q
def meetB (p : Int) (n : Nat) (B C : List W) : List W := dualB p n (basisOf p (mirW p n B ++ mirW p n C))
theorem app_rows {R S : List W} (h1 : Rows p n R) (h2 : Rows p n S) : Rows p n (R ++ S) := fun r hr => by
  rcases List.mem_append.mp hr with q | q
  · exact h1 r q
  · exact h2 r q
theorem meet_ok (hp : P23 p) (rB : Rref p n B) (rC : Rref p n C) : Rref p n (meetB p n B C) ∧ ∀ v, Span p n (meetB p n B C) v ↔ Span p n B v ∧ Span p n C v := by
  have hM := app_rows (mir_rows hp rB.red) (mir_rows hp rC.red)
  obtain ⟨b1, b2⟩ := basisOf_ok hp hM
  obtain ⟨d1, d2, d3⟩ := dual_ok hp b1.red
  refine ⟨d1, fun v => ?_⟩
  unfold meetB
  rw [d2, Perp.congr hp.pos b1.red.w hM b2, perp_app, perp_mir hp rB, perp_mir hp rC]
/-- mirrors of sums and of meets -/
theorem dual_sum (hp : P23 p) (rB : Rref p n B) (rC : Rref p n C) : dualB p n (basisOf p (B ++ C)) = meetB p n (dualB p n B) (dualB p n C) := by
  obtain ⟨dB1, dB2, _⟩ := dual_ok hp rB.red
  obtain ⟨dC1, dC2, _⟩ := dual_ok hp rC.red
  have hBC := app_rows rB.red.w rC.red.w
  obtain ⟨s1, s2⟩ := basisOf_ok hp hBC
  obtain ⟨e1, e2, _⟩ := dual_ok hp s1.red
  obtain ⟨m1, m2⟩ := meet_ok hp dB1 dC1
  refine rref_one hp e1 m1 fun v => ?_
  rw [e2, m2, dB2, dC2, Perp.congr hp.pos s1.red.w hBC s2, perp_app]
theorem dual_meet (hp : P23 p) (rB : Rref p n B) (rC : Rref p n C) : dualB p n (meetB p n B C) = basisOf p (dualB p n B ++ dualB p n C) := by
  obtain ⟨dB1, _, _⟩ := dual_ok hp rB.red
  obtain ⟨dC1, _, _⟩ := dual_ok hp rC.red
  obtain ⟨s1, _⟩ := basisOf_ok hp (app_rows dB1.red.w dC1.red.w)
  have h := dual_sum hp dB1 dC1
  rw [dual_dual hp rB, dual_dual hp rC] at h
  rw [← h, dual_dual hp s1]
theorem dim_meet_sum (hp : P23 p) (rB : Rref p n B) (rC : Rref p n C) : (meetB p n B C).length + (basisOf p (B ++ C)).length = B.length + C.length := by
  obtain ⟨m1, m2⟩ := meet_ok hp rB rC
  obtain ⟨s1, s2⟩ := basisOf_ok hp (app_rows rB.red.w rC.red.w)
  obtain ⟨a1, a2, a3⟩ := allW_ok hp m1.red
  obtain ⟨b1, b2, b3⟩ := allW_ok hp s1.red
  have := dim_meet hp rB.red rC.red (L := allW p n (meetB p n B C)) ⟨a2, fun v => by rw [a1, m2]⟩ (M := allW p n (basisOf p (B ++ C))) ⟨b2, fun v => by rw [b1, s2]⟩
  rw [a3, b3, ← Nat.pow_add] at this
  have := pow_inj hp this
  omega
end
end CM
namespace L2.Dl.W
open PySem PySem.Spec PyProof.Rows L2 LamX CM
section
variable {p : Int} {n : Nat} {B C : List (List Int)} {π : Pen} {k : Nat}
theorem cau_item {d : D} {e : Str} (h : reprD d = some (.str e)) : Out.cau es cs2 "ok" l__law_complaint (.err "BadItem" ["value"] [d] π) = .ok (.tup [.str "item", .str e]) π := by
  have q : ladD cs2 l__law_complaint "BadItem" ["value"] [d] = some (.tup [.str "item", .str e]) := by
    have i3 : itD cs2 ["value"] [d] (.rep "value") = some (.str e) := by
      show (match reprD d with | some (.str e) => some (D.str e) | _ => none) = _
      rw [h]
    show ([It.con "item", .rep "value"].mapM (itD cs2 ["value"] [d])).map D.tup = _
    rw [List.mapM_cons, List.mapM_cons, i3]
    rfl
  show (match ladD cs2 l__law_complaint "BadItem" ["value"] [d] with | some d => Out.ok d π | none => .bad) = _
  rw [q]
theorem cau_alike {q : Int} {m : Nat} : Out.cau es cs2 "ok" l__law_complaint (.err "NotAlike" ["other", "one"] [codeD q m C, codeD p n B] π) = .ok (.tup [.str "alike", .int n, .int m, .int p, .int q]) π := rfl
theorem ev_bad_mirror {d : D} (h : d ∈ nothingL) : f_mirror [d] π = .err "BadItem" ["value"] [d] π := by
  simp only [nothingL, List.mem_cons, List.not_mem_nil, or_false] at h
  rcases h with rfl | rfl | rfl <;> rfl
theorem ev_bad_need {d : D} (h : d ∈ nothingL) : f_need_code [d] π = .err "BadItem" ["value"] [d] π := by
  simp only [nothingL, List.mem_cons, List.not_mem_nil, or_false] at h
  rcases h with rfl | rfl | rfl <;> rfl
theorem ev_bad_meet {d : D} (h : d ∈ nothingL) : f_meet [d, .non] π = .err "BadItem" ["value"] [d] π := by
  simp only [f_meet, m_meet, f_need_two, m_need_two, ev_bad_need h, ↓u_bd, ↓u_toS, ↓u_seq, bind_ok, bind_err, toS_ok, toS_err, seq_nx, seq_rt, seq_err, fin_nx, fin_rt, fin_err, opt_some, slD_sh, slB_sh, slB_ow, e_mBind, e_mOk, e_mOpt, e_mVar, e_mVarB, e_mNil, e_mCons, e_m1, e_m2, e_m2O, e_mC, e_mI, e_itSeq, e_mSome, e_mAnd, e_mOr, e_mTest, e_mT2, e_mChain, e_tAnd, e_tOr, e_tNot, e_mIf, e_mTup, e_mLst, e_mD, e_mCall, e_callF, e_mPen, e_mPenC, e_sPenPut, e_penPutK, e_sSeq, e_sSet, e_sSetO, e_sRet, e_sExpr, e_sNx, e_sIf, e_runF, e_mList, e_mSlice, e_sRaise, e_mMake, e_callI, d_add, d_sub, d_lt, d_le, d_gt, d_ge, d_eq, d_ne, d_asB, d_not, d_asI, d_ntN, d_intOf, d_neg, d_lenL, d_lenT, d_seqL, d_seqT, d_tupL, d_tupT, p_count, p_at, p_digits, p_fold, q_count, q_at, q_digits, q_fold, List.map_cons, List.map_nil, List.length_cons, List.length_nil, List.replicate_succ, List.replicate_zero, List.cons_append, List.nil_append, List.append_nil, List.getElem?_cons_zero, List.getElem?_cons_succ, List.set_cons_zero, List.set_cons_succ, wipeR, fName, fTup, fCons, fNil, Option.bind_some, Option.map_some, reduceIte, if_true, if_false, decide_eq_true_eq, Nat.reduceAdd, Nat.reduceSub, Nat.reduceLeDiff, Nat.reduceLT, Nat.zero_le, Bool.not_true, Bool.not_false, Bool.false_eq_true, Nat.zero_add]
theorem ev_bad_sum {d : D} (h : d ∈ nothingL) : f_sum_of [codeD p n B, d] π = .err "BadItem" ["value"] [d] π := by
  simp only [f_sum_of, m_sum_of, f_need_two, m_need_two, ev_need_code, ev_bad_need h, ↓u_bd, ↓u_toS, ↓u_seq, bind_ok, bind_err, toS_ok, toS_err, seq_nx, seq_rt, seq_err, fin_nx, fin_rt, fin_err, opt_some, slD_sh, slB_sh, slB_ow, e_mBind, e_mOk, e_mOpt, e_mVar, e_mVarB, e_mNil, e_mCons, e_m1, e_m2, e_m2O, e_mC, e_mI, e_itSeq, e_mSome, e_mAnd, e_mOr, e_mTest, e_mT2, e_mChain, e_tAnd, e_tOr, e_tNot, e_mIf, e_mTup, e_mLst, e_mD, e_mCall, e_callF, e_mPen, e_mPenC, e_sPenPut, e_penPutK, e_sSeq, e_sSet, e_sSetO, e_sRet, e_sExpr, e_sNx, e_sIf, e_runF, e_mList, e_mSlice, e_sRaise, e_mMake, e_callI, d_add, d_sub, d_lt, d_le, d_gt, d_ge, d_eq, d_ne, d_asB, d_not, d_asI, d_ntN, d_intOf, d_neg, d_lenL, d_lenT, d_seqL, d_seqT, d_tupL, d_tupT, p_count, p_at, p_digits, p_fold, q_count, q_at, q_digits, q_fold, List.map_cons, List.map_nil, List.length_cons, List.length_nil, List.replicate_succ, List.replicate_zero, List.cons_append, List.nil_append, List.append_nil, List.getElem?_cons_zero, List.getElem?_cons_succ, List.set_cons_zero, List.set_cons_succ, wipeR, fName, fTup, fCons, fNil, Option.bind_some, Option.map_some, reduceIte, if_true, if_false, decide_eq_true_eq, Nat.reduceAdd, Nat.reduceSub, Nat.reduceLeDiff, Nat.reduceLT, Nat.zero_le, Bool.not_true, Bool.not_false, Bool.false_eq_true, Nat.zero_add]
theorem ev_alike_meet {q : Int} {m : Nat} (h : ¬ (p = q ∧ n = m)) : f_meet [codeD p n B, codeD q m C] π = .err "NotAlike" ["other", "one"] [codeD q m C, codeD p n B] π := by
  simp only [f_meet, m_meet, ev_need_two_no h, ↓u_bd, ↓u_toS, ↓u_seq, bind_ok, bind_err, toS_ok, toS_err, seq_nx, seq_rt, seq_err, fin_nx, fin_rt, fin_err, opt_some, slD_sh, slB_sh, slB_ow, e_mBind, e_mOk, e_mOpt, e_mVar, e_mVarB, e_mNil, e_mCons, e_m1, e_m2, e_m2O, e_mC, e_mI, e_itSeq, e_mSome, e_mAnd, e_mOr, e_mTest, e_mT2, e_mChain, e_tAnd, e_tOr, e_tNot, e_mIf, e_mTup, e_mLst, e_mD, e_mCall, e_callF, e_mPen, e_mPenC, e_sPenPut, e_penPutK, e_sSeq, e_sSet, e_sSetO, e_sRet, e_sExpr, e_sNx, e_sIf, e_runF, e_mList, e_mSlice, e_sRaise, e_mMake, e_callI, d_add, d_sub, d_lt, d_le, d_gt, d_ge, d_eq, d_ne, d_asB, d_not, d_asI, d_ntN, d_intOf, d_neg, d_lenL, d_lenT, d_seqL, d_seqT, d_tupL, d_tupT, p_count, p_at, p_digits, p_fold, q_count, q_at, q_digits, q_fold, List.map_cons, List.map_nil, List.length_cons, List.length_nil, List.replicate_succ, List.replicate_zero, List.cons_append, List.nil_append, List.append_nil, List.getElem?_cons_zero, List.getElem?_cons_succ, List.set_cons_zero, List.set_cons_succ, wipeR, fName, fTup, fCons, fNil, Option.bind_some, Option.map_some, reduceIte, if_true, if_false, decide_eq_true_eq, Nat.reduceAdd, Nat.reduceSub, Nat.reduceLeDiff, Nat.reduceLT, Nat.zero_le, Bool.not_true, Bool.not_false, Bool.false_eq_true, Nat.zero_add]
theorem ev_alike_sum {q : Int} {m : Nat} (h : ¬ (p = q ∧ n = m)) : f_sum_of [codeD p n B, codeD q m C] π = .err "NotAlike" ["other", "one"] [codeD q m C, codeD p n B] π := by
  simp only [f_sum_of, m_sum_of, ev_need_two_no h, ↓u_bd, ↓u_toS, ↓u_seq, bind_ok, bind_err, toS_ok, toS_err, seq_nx, seq_rt, seq_err, fin_nx, fin_rt, fin_err, opt_some, slD_sh, slB_sh, slB_ow, e_mBind, e_mOk, e_mOpt, e_mVar, e_mVarB, e_mNil, e_mCons, e_m1, e_m2, e_m2O, e_mC, e_mI, e_itSeq, e_mSome, e_mAnd, e_mOr, e_mTest, e_mT2, e_mChain, e_tAnd, e_tOr, e_tNot, e_mIf, e_mTup, e_mLst, e_mD, e_mCall, e_callF, e_mPen, e_mPenC, e_sPenPut, e_penPutK, e_sSeq, e_sSet, e_sSetO, e_sRet, e_sExpr, e_sNx, e_sIf, e_runF, e_mList, e_mSlice, e_sRaise, e_mMake, e_callI, d_add, d_sub, d_lt, d_le, d_gt, d_ge, d_eq, d_ne, d_asB, d_not, d_asI, d_ntN, d_intOf, d_neg, d_lenL, d_lenT, d_seqL, d_seqT, d_tupL, d_tupT, p_count, p_at, p_digits, p_fold, q_count, q_at, q_digits, q_fold, List.map_cons, List.map_nil, List.length_cons, List.length_nil, List.replicate_succ, List.replicate_zero, List.cons_append, List.nil_append, List.append_nil, List.getElem?_cons_zero, List.getElem?_cons_succ, List.set_cons_zero, List.set_cons_succ, wipeR, fName, fTup, fCons, fNil, Option.bind_some, Option.map_some, reduceIte, if_true, if_false, decide_eq_true_eq, Nat.reduceAdd, Nat.reduceSub, Nat.reduceLeDiff, Nat.reduceLT, Nat.zero_le, Bool.not_true, Bool.not_false, Bool.false_eq_true, Nat.zero_add]
theorem ua1 {d e : D} : uApp [d] e = some [d, e] := uApp_ok (l := [d]) (show 1 < 100000 by decide)
theorem ua2 {c d e : D} : uApp [c, d] e = some [c, d, e] := uApp_ok (l := [c, d]) (show 2 < 100000 by decide)
theorem mem_get {l : List D} {i : Nat} {d : D} (h : l[i]? = some d) : d ∈ l := List.mem_of_getElem? h
theorem own_lst {l : List D} : Own.D (.lst l) = .lst l := rfl
theorem plain_al {a b c d : Int} : plainD 59 (.tup [.str "alike", .int a, .int b, .int c, .int d]) = true := by
  show ([D.str "alike", .int a, .int b, .int c, .int d].all (plainD 58)) = true
  rw [List.all_cons, List.all_cons, List.all_cons, List.all_cons, List.all_cons, plain_int, plain_int, plain_int, plain_int]
  decide +kernel
theorem plainS {m : Nat} {s : Str} (h : PyData.strOk s = true) : plainD m (.str s) = true := by
  cases m <;> exact h
theorem plain_two {d : D} (h : plainD 59 d = true) : plainD 60 (.lst [d, d]) = true := by
  show ([d, d].all (plainD 59)) = true
  rw [List.all_cons, List.all_cons, h]; rfl
theorem plain_three {d : D} (h : plainD 59 d = true) : plainD 60 (.lst [d, d, d]) = true := by
  show ([d, d, d].all (plainD 59)) = true
  rw [List.all_cons, List.all_cons, List.all_cons, h]; rfl
theorem plain : ∀ π : Pen, PenIni π → ∃ π', m_law (.no :: .sh .pen :: List.replicate (n_law.length - 2) .no) π = .rt (.bl true) π' := by
  intro π hπ
  have h0 := hπ.ok
  show (fun o : SOut => ∃ π', o = .rt (.bl true) π') (m_law (.no :: .sh .pen :: List.replicate (n_law.length - 2) .no) π)
  unfold m_law
  rw [show (.no :: .sh .pen :: List.replicate (n_law.length - 2) .no : Rho) = [.no, .sh .pen, .no, .no, .no, .no, .no, .no, .no, .no, .no, .no, .no, .no, .no, .no, .no, .no, .no] from rfl, e_sSeq]
  refine for_then (fun o : SOut => ∃ π', o = .rt (.bl true) π') (List.range 3) (fun i => D.int (0 + (i : Nat)))
    (fun d ρ π => (∃ a2 a3 a4 a5 a6 a7 a8 a9 a10 a11 a12 a13 a14 a15 a16 a17 a18, ρ = [.no, .sh .pen, a2, a3, a4, a5, a6, a7, a8, a9, a10, a11, a12, a13, a14, a15, a16, a17, a18] ∧ (d = [] ∨ ∃ p n B, a6 = .sh (codeD p n B))) ∧ PenOk (10000 * d.length) π) (xs := (List.range 3).map fun i => D.int (0 + (i : Nat))) (π1 := π) ?_ rfl ?_
    (fun d x rest e ρ π ⟨⟨a2, a3, a4, a5, a6, a7, a8, a9, a10, a11, a12, a13, a14, a15, a16, a17, a18, e1, _⟩, hk⟩ => ?_) (fun ρ π ⟨⟨a2, a3, a4, a5, a6, a7, a8, a9, a10, a11, a12, a13, a14, a15, a16, a17, a18, e1, h6⟩, hk⟩ => ?_)
  · have r3 : range1 [.int 3] = some ((List.range 3).map fun i => D.int (0 + (i : Nat))) := rfl
    simp only [r3, ↓u_bd, ↓u_toS, ↓u_seq, bind_ok, bind_err, toS_ok, toS_err, seq_nx, seq_rt, seq_err, fin_nx, fin_rt, fin_err, opt_some, slD_sh, slB_sh, slB_ow, e_mBind, e_mOk, e_mOpt, e_mVar, e_mVarB, e_mNil, e_mCons, e_m1, e_m2, e_m2O, e_mC, e_mI, e_itSeq, e_mSome, e_mAnd, e_mOr, e_mTest, e_mT2, e_mChain, e_tAnd, e_tOr, e_tNot, e_mIf, e_mTup, e_mLst, e_mD, e_mCall, e_callF, e_mPen, e_mPenC, e_sPenPut, e_penPutK, e_sSeq, e_sSet, e_sSetO, e_sRet, e_sExpr, e_sNx, e_sIf, e_runF, e_mList, e_mSlice, e_sRaise, e_mMake, e_callI, d_add, d_sub, d_lt, d_le, d_gt, d_ge, d_eq, d_ne, d_asB, d_not, d_asI, d_ntN, d_intOf, d_neg, d_lenL, d_lenT, d_seqL, d_seqT, d_tupL, d_tupT, p_count, p_at, p_digits, p_fold, q_count, q_at, q_digits, q_fold, List.map_cons, List.map_nil, List.length_cons, List.length_nil, List.replicate_succ, List.replicate_zero, List.cons_append, List.nil_append, List.append_nil, List.getElem?_cons_zero, List.getElem?_cons_succ, List.set_cons_zero, List.set_cons_succ, wipeR, fName, fTup, fCons, fNil, Option.bind_some, Option.map_some, reduceIte, if_true, if_false, decide_eq_true_eq, Nat.reduceAdd, Nat.reduceSub, Nat.reduceLeDiff, Nat.reduceLT, Nat.zero_le, Bool.not_true, Bool.not_false, Bool.false_eq_true, Nat.zero_add]
  · exact ⟨⟨_, _, _, _, _, _, _, _, _, _, _, _, _, _, _, _, _, rfl, .inl rfl⟩, h0⟩
  · subst e1
    obtain ⟨e2, xlt⟩ := range_split e
    have dl : d.length = x := by rw [e2, List.length_range]
    refine ⟨_, rfl, ?_⟩
    rw [List.length_append, List.length_singleton, dl]
    rw [dl] at hk
    have kb : 10000 * x + 10000 ≤ 100000 := by omega
    have kb2 : 10000 * (x + 1) = 10000 * x + 10000 := by omega
    rw [kb2]
    generalize 10000 * x = k at hk kb
    obtain ⟨p, n, rows, π1, h_some, hp, n1, np2, np3, n7, hr, hl, k1⟩ := ev_some (most := 7) hk (by omega) (by omega) (by omega)
    rw [show ((7 : Nat) : Int) = 7 from rfl] at h_some
    have p0 := hp.pos
    have few : p.toNat ^ n ≤ 128 := by
      rcases hp with rfl | rfl
      · refine Nat.le_trans (Nat.pow_le_pow_right (by decide) (np2 rfl)) (by decide)
      · refine Nat.le_trans (Nat.pow_le_pow_right (by decide) (np3 rfl)) (by decide)
    obtain ⟨rB, spB⟩ := basisOf_ok hp hr
    have hcode := code_lst (π := π1) hp n1 (show n ≤ 24 by omega) hr (show rows.length ≤ 1000 by omega)
    have h_span := ev_span (π := π1) hp (n := n) (by omega) n1 hr (by omega)
    obtain ⟨snd, smem⟩ := spanL_ok hp hr
    have e0 : byLead (steps p rows) = basisOf p rows := rfl
    rw [e0] at hcode
    have hz_rows : (rows.map wD).length ≤ sizeLine := sl24 (by rw [List.length_map]; omega)
    have h_dualL := ev_dual (π := π1) hp (n := n) (by omega) (by omega) hr (by omega)
    have h_mir := ev_mirror (π := π1) hp n1 (show n ≤ 24 by omega) rB.red
    obtain ⟨dB1, dB2, dB3⟩ := dual_ok hp rB.red
    have dLrows : Rows p n (dualL p n rows) := fun v hv => (mem_dualL.mp hv).1
    have dLlen : (dualL p n rows).length ≤ 1000 := Nat.le_trans dualL_len (by omega)
    have h_codeD := code_lst (π := π1) hp n1 (show n ≤ 24 by omega) dLrows dLlen
    have eD : byLead (steps p (dualL p n rows)) = dualB p n (basisOf p rows) := by
      refine rref_one hp (basisOf_ok hp dLrows).1 dB1 fun v => ?_
      show Span p n (basisOf p (dualL p n rows)) v ↔ _
      rw [(basisOf_ok hp dLrows).2, dB2, span_of_list p0 (Perp.sub p0 hr) (fun v => mem_dualL), Perp.congr p0 rB.red.w hr spB]
    rw [eD] at h_codeD
    have h_mm := ev_mirror (π := π1) hp n1 (show n ≤ 24 by omega) dB1.red
    rw [dual_dual hp rB] at h_mm
    obtain ⟨m, π2, h_m, m0, m1', k2⟩ := ev_draw (many := (n : Int) + 1) k1 (by omega) (by omega) (by omega)
    have em : ∃ M : Nat, m = M ∧ M < n + 1 := ⟨m.toNat, by omega, by omega⟩
    obtain ⟨m, rfl, mlt⟩ := em
    have nm : n * m ≤ 7 * 7 := Nat.mul_le_mul (by omega) (by omega)
    obtain ⟨rest', π3, k_words, rl3, hr3, k3⟩ := ev_words_drawn (m := m) (π := π1) k2 hp (n := n) (by omega) (by omega) (by omega)
      (it := mI range1 (mCons (mCall 2 f__law_draw [] (mCons (mVar 1) (mCons (m2 addD (mVar 4) (mOk (.int 1))) mNil))) mNil)) (te := mCall 3 f__law_word [] (mCons (mVar 1) (mCons (mVar 3) (mCons (mVar 4) mNil)))) (f := fName 10) (vs := [10])
      (ρ := [.no, .sh .pen, .sh (.int (0 + (x : Nat))), .sh (.int p), .sh (.int n), .sh (.lst (rows.map wD)), .sh (codeD p n (basisOf p rows)), .sh (.lst ((srt (spanL p n rows)).map wD)), .sh (codeD p n (dualB p n (basisOf p rows))), a9, a10, a11, a12, a13, a14, a15, a16, a17, a18])
      (by simp only [h_m, range1_nat (show m ≤ 1000000 by omega), ↓u_bd, ↓u_toS, ↓u_seq, bind_ok, bind_err, toS_ok, toS_err, seq_nx, seq_rt, seq_err, fin_nx, fin_rt, fin_err, opt_some, slD_sh, slB_sh, slB_ow, e_mBind, e_mOk, e_mOpt, e_mVar, e_mVarB, e_mNil, e_mCons, e_m1, e_m2, e_m2O, e_mC, e_mI, e_itSeq, e_mSome, e_mAnd, e_mOr, e_mTest, e_mT2, e_mChain, e_tAnd, e_tOr, e_tNot, e_mIf, e_mTup, e_mLst, e_mD, e_mCall, e_callF, e_mPen, e_mPenC, e_sPenPut, e_penPutK, e_sSeq, e_sSet, e_sSetO, e_sRet, e_sExpr, e_sNx, e_sIf, e_runF, e_mList, e_mSlice, e_sRaise, e_mMake, e_callI, d_add, d_sub, d_lt, d_le, d_gt, d_ge, d_eq, d_ne, d_asB, d_not, d_asI, d_ntN, d_intOf, d_neg, d_lenL, d_lenT, d_seqL, d_seqT, d_tupL, d_tupT, p_count, p_at, p_digits, p_fold, q_count, q_at, q_digits, q_fold, List.map_cons, List.map_nil, List.length_cons, List.length_nil, List.replicate_succ, List.replicate_zero, List.cons_append, List.nil_append, List.append_nil, List.getElem?_cons_zero, List.getElem?_cons_succ, List.set_cons_zero, List.set_cons_succ, wipeR, fName, fTup, fCons, fNil, Option.bind_some, Option.map_some, reduceIte, if_true, if_false, decide_eq_true_eq, Nat.reduceAdd, Nat.reduceSub, Nat.reduceLeDiff, Nat.reduceLT, Nat.zero_le, Bool.not_true, Bool.not_false, Bool.false_eq_true, Nat.zero_add]) (fun i => ⟨_, rfl, fun π => by simp only [↓u_bd, ↓u_toS, ↓u_seq, bind_ok, bind_err, toS_ok, toS_err, seq_nx, seq_rt, seq_err, fin_nx, fin_rt, fin_err, opt_some, slD_sh, slB_sh, slB_ow, e_mBind, e_mOk, e_mOpt, e_mVar, e_mVarB, e_mNil, e_mCons, e_m1, e_m2, e_m2O, e_mC, e_mI, e_itSeq, e_mSome, e_mAnd, e_mOr, e_mTest, e_mT2, e_mChain, e_tAnd, e_tOr, e_tNot, e_mIf, e_mTup, e_mLst, e_mD, e_mCall, e_callF, e_mPen, e_mPenC, e_sPenPut, e_penPutK, e_sSeq, e_sSet, e_sSetO, e_sRet, e_sExpr, e_sNx, e_sIf, e_runF, e_mList, e_mSlice, e_sRaise, e_mMake, e_callI, d_add, d_sub, d_lt, d_le, d_gt, d_ge, d_eq, d_ne, d_asB, d_not, d_asI, d_ntN, d_intOf, d_neg, d_lenL, d_lenT, d_seqL, d_seqT, d_tupL, d_tupT, p_count, p_at, p_digits, p_fold, q_count, q_at, q_digits, q_fold, List.map_cons, List.map_nil, List.length_cons, List.length_nil, List.replicate_succ, List.replicate_zero, List.cons_append, List.nil_append, List.append_nil, List.getElem?_cons_zero, List.getElem?_cons_succ, List.set_cons_zero, List.set_cons_succ, wipeR, fName, fTup, fCons, fNil, Option.bind_some, Option.map_some, reduceIte, if_true, if_false, decide_eq_true_eq, Nat.reduceAdd, Nat.reduceSub, Nat.reduceLeDiff, Nat.reduceLT, Nat.zero_le, Bool.not_true, Bool.not_false, Bool.false_eq_true, Nat.zero_add]⟩)
    obtain ⟨rC, spC⟩ := basisOf_ok hp hr3
    have hcode3 := code_lst (π := π3) hp n1 (show n ≤ 24 by omega) hr3 (show rest'.length ≤ 1000 by omega)
    have e03 : byLead (steps p rest') = basisOf p rest' := rfl
    rw [e03] at hcode3
    have h_span3 := ev_span (π := π3) hp (n := n) (by omega) n1 hr3 (by omega)
    obtain ⟨snd3, smem3⟩ := spanL_ok hp hr3
    have h_meet := ev_meet (π := π3) hp n1 (show n ≤ 24 by omega) rB.red rC.red
    have h_sum := ev_sum_of (π := π3) hp n1 (show n ≤ 24 by omega) rB.red rC.red
    have hBC := app_rows rB.red.w rC.red.w
    obtain ⟨s1, s2⟩ := basisOf_ok hp hBC
    obtain ⟨M1, M2⟩ := meet_ok hp rB rC
    change f_meet _ _ = Out.ok (codeD p n (meetB p n (basisOf p rows) (basisOf p rest'))) π3 at h_meet
    have dims := dim_meet_sum hp rB rC
    have d_s := dual_sum hp rB rC
    have d_m := dual_meet hp rB rC
    have h_mirS := ev_mirror (π := π3) hp n1 (show n ≤ 24 by omega) s1.red
    have h_mirM := ev_mirror (π := π3) hp n1 (show n ≤ 24 by omega) M1.red
    have h_mirC := ev_mirror (π := π3) hp n1 (show n ≤ 24 by omega) rC.red
    obtain ⟨dC1, dC2, dC3⟩ := dual_ok hp rC.red
    have h_meetD := ev_meet (π := π3) hp n1 (show n ≤ 24 by omega) dB1.red dC1.red
    change f_meet _ _ = Out.ok (codeD p n (meetB p n (dualB p n (basisOf p rows)) (dualB p n (basisOf p rest')))) π3 at h_meetD
    have h_sumD := ev_sum_of (π := π3) hp n1 (show n ≤ 24 by omega) dB1.red dC1.red
    rw [d_s] at h_mirS
    rw [d_m] at h_mirM
    have both_rows : Rows p n ((srt (spanL p n rows)).filter fun w => decide (w ∈ srt (spanL p n rest'))) := fun w hw => by
      have := (List.mem_filter.mp hw).1
      exact ((smem w).mp (srt_mem.mp this)).w p0 hr
    have lot_len : (srt (spanL p n rows)).length ≤ 128 := by
      rw [(srt_perm _).length_eq]
      exact Nat.le_trans (few_words snd fun v hv => ((smem v).mp hv).w p0 hr) few
    have both_len : ((srt (spanL p n rows)).filter fun w => decide (w ∈ srt (spanL p n rest'))).length ≤ 1000 := by
      have := List.length_filter_le (fun w => decide (w ∈ srt (spanL p n rest'))) (srt (spanL p n rows))
      omega
    have h_codeM := code_lst (π := π3) hp n1 (show n ≤ 24 by omega) both_rows both_len
    have eM : byLead (steps p ((srt (spanL p n rows)).filter fun w => decide (w ∈ srt (spanL p n rest')))) = meetB p n (basisOf p rows) (basisOf p rest') := by
      refine rref_one hp (basisOf_ok hp both_rows).1 M1 fun v => ?_
      show Span p n (basisOf p _) v ↔ _
      have sI : CM.Sub p n (fun v => Span p n rows v ∧ Span p n rest' v) := ⟨fun h => (Span.sub p0 hr).w h.1, ⟨.zero, .zero⟩, fun t h1 h2 => ⟨(Span.sub p0 hr).lin t h1.1 h2.1, (Span.sub p0 hr3).lin t h1.2 h2.2⟩⟩
      rw [(basisOf_ok hp both_rows).2, M2, spB, spC, span_of_list p0 sI fun v => ?_]
      rw [List.mem_filter, srt_mem, smem, decide_eq_true_eq, srt_mem, smem3]
    rw [eM] at h_codeM
    have app_len : (rows ++ rest').length ≤ 1000 := by rw [List.length_append]; omega
    have h_codeS := code_lst (π := π3) hp n1 (show n ≤ 24 by omega) (app_rows hr hr3) app_len
    have eS : byLead (steps p (rows ++ rest')) = basisOf p (basisOf p rows ++ basisOf p rest') := by
      refine basis_congr hp (app_rows hr hr3) hBC fun v => ?_
      have S1 := Span.sub p0 (app_rows hr hr3)
      have S2 := Span.sub p0 hBC
      constructor
      · refine S2.span fun r hr' => ?_
        rcases List.mem_append.mp hr' with q | q
        · exact ((spB r).mpr (.mem p0 hr q)).congr fun c hc => List.mem_append_left _ hc
        · exact ((spC r).mpr (.mem p0 hr3 q)).congr fun c hc => List.mem_append_right _ hc
      · refine S1.span fun r hr' => ?_
        rcases List.mem_append.mp hr' with q | q
        · exact ((spB r).mp (.mem p0 rB.red.w q)).congr fun c hc => List.mem_append_left _ hc
        · exact ((spC r).mp (.mem p0 rC.red.w q)).congr fun c hc => List.mem_append_right _ hc
    rw [eS] at h_codeS
    have ap := d_addL (l := rows.map wD) (m := rest'.map wD) (sl24 (by rw [List.length_map, List.length_map]; omega))
    rw [← List.map_append] at ap
    have k_both : ∀ z1 z2 z3 z4 z5 z6 z7 z8, mLc (itSeq (mVar 7)) (fName 15) (mT2 inD (mVar 15) (mVar 12)) (mVar 15) [15] [.no, .sh .pen, z1, .sh (.int p), .sh (.int n), .sh (.lst (rows.map wD)), z2, .sh (.lst ((srt (spanL p n rows)).map wD)), z3, .sh (.lst (rest'.map wD)), z4, z5, .sh (.lst ((srt (spanL p n rest')).map wD)), z6, z7, z8, a16, a17, a18] π3 = .ok (.lst (((srt (spanL p n rows)).filter fun w => decide (w ∈ srt (spanL p n rest'))).map wD)) π3 := fun z1 z2 z3 z4 z5 z6 z7 z8 => by
      refine mLc_map (srt (spanL p n rows)) wD _ _ (xs := (srt (spanL p n rows)).map wD) ?_ rfl (sl24 (by omega)) fun w hw => ⟨_, rfl, ?_, fun _ => ?_⟩
      · simp only [↓u_bd, ↓u_toS, ↓u_seq, bind_ok, bind_err, toS_ok, toS_err, seq_nx, seq_rt, seq_err, fin_nx, fin_rt, fin_err, opt_some, slD_sh, slB_sh, slB_ow, e_mBind, e_mOk, e_mOpt, e_mVar, e_mVarB, e_mNil, e_mCons, e_m1, e_m2, e_m2O, e_mC, e_mI, e_itSeq, e_mSome, e_mAnd, e_mOr, e_mTest, e_mT2, e_mChain, e_tAnd, e_tOr, e_tNot, e_mIf, e_mTup, e_mLst, e_mD, e_mCall, e_callF, e_mPen, e_mPenC, e_sPenPut, e_penPutK, e_sSeq, e_sSet, e_sSetO, e_sRet, e_sExpr, e_sNx, e_sIf, e_runF, e_mList, e_mSlice, e_sRaise, e_mMake, e_callI, d_add, d_sub, d_lt, d_le, d_gt, d_ge, d_eq, d_ne, d_asB, d_not, d_asI, d_ntN, d_intOf, d_neg, d_lenL, d_lenT, d_seqL, d_seqT, d_tupL, d_tupT, p_count, p_at, p_digits, p_fold, q_count, q_at, q_digits, q_fold, List.map_cons, List.map_nil, List.length_cons, List.length_nil, List.replicate_succ, List.replicate_zero, List.cons_append, List.nil_append, List.append_nil, List.getElem?_cons_zero, List.getElem?_cons_succ, List.set_cons_zero, List.set_cons_succ, wipeR, fName, fTup, fCons, fNil, Option.bind_some, Option.map_some, reduceIte, if_true, if_false, decide_eq_true_eq, Nat.reduceAdd, Nat.reduceSub, Nat.reduceLeDiff, Nat.reduceLT, Nat.zero_le, Bool.not_true, Bool.not_false, Bool.false_eq_true, Nat.zero_add]
      · simp only [in_words, ↓u_bd, ↓u_toS, ↓u_seq, bind_ok, bind_err, toS_ok, toS_err, seq_nx, seq_rt, seq_err, fin_nx, fin_rt, fin_err, opt_some, slD_sh, slB_sh, slB_ow, e_mBind, e_mOk, e_mOpt, e_mVar, e_mVarB, e_mNil, e_mCons, e_m1, e_m2, e_m2O, e_mC, e_mI, e_itSeq, e_mSome, e_mAnd, e_mOr, e_mTest, e_mT2, e_mChain, e_tAnd, e_tOr, e_tNot, e_mIf, e_mTup, e_mLst, e_mD, e_mCall, e_callF, e_mPen, e_mPenC, e_sPenPut, e_penPutK, e_sSeq, e_sSet, e_sSetO, e_sRet, e_sExpr, e_sNx, e_sIf, e_runF, e_mList, e_mSlice, e_sRaise, e_mMake, e_callI, d_add, d_sub, d_lt, d_le, d_gt, d_ge, d_eq, d_ne, d_asB, d_not, d_asI, d_ntN, d_intOf, d_neg, d_lenL, d_lenT, d_seqL, d_seqT, d_tupL, d_tupT, p_count, p_at, p_digits, p_fold, q_count, q_at, q_digits, q_fold, List.map_cons, List.map_nil, List.length_cons, List.length_nil, List.replicate_succ, List.replicate_zero, List.cons_append, List.nil_append, List.append_nil, List.getElem?_cons_zero, List.getElem?_cons_succ, List.set_cons_zero, List.set_cons_succ, wipeR, fName, fTup, fCons, fNil, Option.bind_some, Option.map_some, reduceIte, if_true, if_false, decide_eq_true_eq, Nat.reduceAdd, Nat.reduceSub, Nat.reduceLeDiff, Nat.reduceLT, Nat.zero_le, Bool.not_true, Bool.not_false, Bool.false_eq_true, Nat.zero_add]
      · simp only [↓u_bd, ↓u_toS, ↓u_seq, bind_ok, bind_err, toS_ok, toS_err, seq_nx, seq_rt, seq_err, fin_nx, fin_rt, fin_err, opt_some, slD_sh, slB_sh, slB_ow, e_mBind, e_mOk, e_mOpt, e_mVar, e_mVarB, e_mNil, e_mCons, e_m1, e_m2, e_m2O, e_mC, e_mI, e_itSeq, e_mSome, e_mAnd, e_mOr, e_mTest, e_mT2, e_mChain, e_tAnd, e_tOr, e_tNot, e_mIf, e_mTup, e_mLst, e_mD, e_mCall, e_callF, e_mPen, e_mPenC, e_sPenPut, e_penPutK, e_sSeq, e_sSet, e_sSetO, e_sRet, e_sExpr, e_sNx, e_sIf, e_runF, e_mList, e_mSlice, e_sRaise, e_mMake, e_callI, d_add, d_sub, d_lt, d_le, d_gt, d_ge, d_eq, d_ne, d_asB, d_not, d_asI, d_ntN, d_intOf, d_neg, d_lenL, d_lenT, d_seqL, d_seqT, d_tupL, d_tupT, p_count, p_at, p_digits, p_fold, q_count, q_at, q_digits, q_fold, List.map_cons, List.map_nil, List.length_cons, List.length_nil, List.replicate_succ, List.replicate_zero, List.cons_append, List.nil_append, List.append_nil, List.getElem?_cons_zero, List.getElem?_cons_succ, List.set_cons_zero, List.set_cons_succ, wipeR, fName, fTup, fCons, fNil, Option.bind_some, Option.map_some, reduceIte, if_true, if_false, decide_eq_true_eq, Nat.reduceAdd, Nat.reduceSub, Nat.reduceLeDiff, Nat.reduceLT, Nat.zero_le, Bool.not_true, Bool.not_false, Bool.false_eq_true, Nat.zero_add]
    have nsz : neD (.int (((dualB p n (basisOf p rows)).length : Nat) + ((basisOf p rows).length : Nat))) (.int n) = some (.bl false) := by
      rw [d_ne, decide_eq_true (by omega)]; rfl
    have nsz2 : neD (.int (((meetB p n (basisOf p rows) (basisOf p rest')).length : Nat) + ((basisOf p (basisOf p rows ++ basisOf p rest')).length : Nat))) (.int (((basisOf p rows).length : Nat) + ((basisOf p rest').length : Nat))) = some (.bl false) := by
      rw [d_ne, decide_eq_true (by omega)]; rfl
    have xtt : (true ^^ true) = false := rfl
    have h_par : ∀ z1 z2 z3 z4 z5 z6 z7, sPar [13, 14] (xSh (mCall 2 f_meet [] (mCons (mVar 6) (mCons (mVar 11) mNil))) (xSh (mCall 2 f_sum_of [] (mCons (mVar 6) (mCons (mVar 11) mNil))) xNil)) [.no, .sh .pen, z1, .sh (.int p), .sh (.int n), .sh (.lst (rows.map wD)), .sh (codeD p n (basisOf p rows)), z2, z3, z4, z5, .sh (codeD p n (basisOf p rest')), z6, a13, a14, z7, a16, a17, a18] π3 = .nx [.no, .sh .pen, z1, .sh (.int p), .sh (.int n), .sh (.lst (rows.map wD)), .sh (codeD p n (basisOf p rows)), z2, z3, z4, z5, .sh (codeD p n (basisOf p rest')), z6, .sh (codeD p n (meetB p n (basisOf p rows) (basisOf p rest'))), .sh (codeD p n (basisOf p (basisOf p rows ++ basisOf p rest'))), z7, a16, a17, a18] π3 := fun z1 z2 z3 z4 z5 z6 z7 => by
      simp only [e_sPar, e_xSh, e_xNil, h_meet, h_sum, ↓u_bd, ↓u_toS, ↓u_seq, bind_ok, bind_err, toS_ok, toS_err, seq_nx, seq_rt, seq_err, fin_nx, fin_rt, fin_err, opt_some, slD_sh, slB_sh, slB_ow, e_mBind, e_mOk, e_mOpt, e_mVar, e_mVarB, e_mNil, e_mCons, e_m1, e_m2, e_m2O, e_mC, e_mI, e_itSeq, e_mSome, e_mAnd, e_mOr, e_mTest, e_mT2, e_mChain, e_tAnd, e_tOr, e_tNot, e_mIf, e_mTup, e_mLst, e_mD, e_mCall, e_callF, e_mPen, e_mPenC, e_sPenPut, e_penPutK, e_sSeq, e_sSet, e_sSetO, e_sRet, e_sExpr, e_sNx, e_sIf, e_runF, e_mList, e_mSlice, e_sRaise, e_mMake, e_callI, d_add, d_sub, d_lt, d_le, d_gt, d_ge, d_eq, d_ne, d_asB, d_not, d_asI, d_ntN, d_intOf, d_neg, d_lenL, d_lenT, d_seqL, d_seqT, d_tupL, d_tupT, p_count, p_at, p_digits, p_fold, q_count, q_at, q_digits, q_fold, List.map_cons, List.map_nil, List.length_cons, List.length_nil, List.replicate_succ, List.replicate_zero, List.cons_append, List.nil_append, List.append_nil, List.getElem?_cons_zero, List.getElem?_cons_succ, List.set_cons_zero, List.set_cons_succ, wipeR, fName, fTup, fCons, fNil, Option.bind_some, Option.map_some, reduceIte, if_true, if_false, decide_eq_true_eq, Nat.reduceAdd, Nat.reduceSub, Nat.reduceLeDiff, Nat.reduceLT, Nat.zero_le, Bool.not_true, Bool.not_false, Bool.false_eq_true, Nat.zero_add]
      rfl
    have hp5 : P23 (5 - p) := hp.elim (fun z => .inr (by rw [z]; rfl)) (fun z => .inl (by rw [z]; rfl))
    have n5 := code_nil (π := π3) hp5 n1 (show n ≤ 24 by omega)
    have nq := code_nil (π := π3) hp (show 1 ≤ n + 1 by omega) (show n + 1 ≤ 24 by omega)
    have i1 := ins_nil (p := p) (n := n + 1)
    rw [Int.natCast_succ] at nq i1
    obtain ⟨is, strange, π4, _, gs, h_st, k4⟩ := ev_pick (l := [codeD (5 - p) n [], codeD p (n + 1) []]) k3 (by omega) (by simp) (by simp)
    have hst : ∃ (q : Int) (m' : Nat), strange = codeD q m' [] ∧ ¬ (p = q ∧ n = m') := by
      have mo := mem_get gs
      rcases List.mem_cons.mp mo with z | z
      · exact ⟨5 - p, n, z, fun h => by rcases hp with rfl | rfl <;> exact absurd h.1 (by decide)⟩
      · exact ⟨p, n + 1, List.mem_singleton.mp z, fun h => by omega⟩
    obtain ⟨q, m', rfl, hne⟩ := hst
    have al1 := ev_alike_meet (B := basisOf p rows) (C := []) (π := π4) hne
    have al2 := ev_alike_sum (B := basisOf p rows) (C := []) (π := π4) hne
    have r2 : ∀ t : D, repO (.lst [t]) (.int 2) = some (.lst [t, t]) := fun t => repO_one (n := 2) (by decide)
    have sl1 := sl24 (show 1 ≤ 100000 by decide)
    simp only [e_sTg, h_some, e_mListOf, hcode, ins_code, h_span, h_mir, e_mTEq, h_dualL, h_codeD, eqO_code', decide_true, Bool.true_and, xtt, fld_s, nsz, h_mm, k_words, own_lst, hcode3, h_span3, h_par, k_both, h_codeM, ap, h_codeS, nsz2, h_mirS, h_mirC, h_meetD, h_mirM, h_sumD, n5, nq, i1, ins_nil, h_st, e_mCaught, al1, cau_alike, sl1, ↓u_bd, ↓u_toS, ↓u_seq, bind_ok, bind_err, toS_ok, toS_err, seq_nx, seq_rt, seq_err, fin_nx, fin_rt, fin_err, opt_some, slD_sh, slB_sh, slB_ow, e_mBind, e_mOk, e_mOpt, e_mVar, e_mVarB, e_mNil, e_mCons, e_m1, e_m2, e_m2O, e_mC, e_mI, e_itSeq, e_mSome, e_mAnd, e_mOr, e_mTest, e_mT2, e_mChain, e_tAnd, e_tOr, e_tNot, e_mIf, e_mTup, e_mLst, e_mD, e_mCall, e_callF, e_mPen, e_mPenC, e_sPenPut, e_penPutK, e_sSeq, e_sSet, e_sSetO, e_sRet, e_sExpr, e_sNx, e_sIf, e_runF, e_mList, e_mSlice, e_sRaise, e_mMake, e_callI, d_add, d_sub, d_lt, d_le, d_gt, d_ge, d_eq, d_ne, d_asB, d_not, d_asI, d_ntN, d_intOf, d_neg, d_lenL, d_lenT, d_seqL, d_seqT, d_tupL, d_tupT, p_count, p_at, p_digits, p_fold, q_count, q_at, q_digits, q_fold, List.map_cons, List.map_nil, List.length_cons, List.length_nil, List.replicate_succ, List.replicate_zero, List.cons_append, List.nil_append, List.append_nil, List.getElem?_cons_zero, List.getElem?_cons_succ, List.set_cons_zero, List.set_cons_succ, wipeR, fName, fTup, fCons, fNil, Option.bind_some, Option.map_some, reduceIte, if_true, if_false, decide_eq_true_eq, Nat.reduceAdd, Nat.reduceSub, Nat.reduceLeDiff, Nat.reduceLT, Nat.zero_le, Bool.not_true, Bool.not_false, Bool.false_eq_true, Nat.zero_add]
    rw [e_sMut (l := [D.tup [.str "alike", .int n, .int m', .int p, .int q]]) rfl]
    simp only [e_mCaught, al2, cau_alike, ua1, ua2, own_lst, fld_n, fld_p, r2, ne_self (plain_two plain_al), ↓u_bd, ↓u_toS, ↓u_seq, bind_ok, bind_err, toS_ok, toS_err, seq_nx, seq_rt, seq_err, fin_nx, fin_rt, fin_err, opt_some, slD_sh, slB_sh, slB_ow, e_mBind, e_mOk, e_mOpt, e_mVar, e_mVarB, e_mNil, e_mCons, e_m1, e_m2, e_m2O, e_mC, e_mI, e_itSeq, e_mSome, e_mAnd, e_mOr, e_mTest, e_mT2, e_mChain, e_tAnd, e_tOr, e_tNot, e_mIf, e_mTup, e_mLst, e_mD, e_mCall, e_callF, e_mPen, e_mPenC, e_sPenPut, e_penPutK, e_sSeq, e_sSet, e_sSetO, e_sRet, e_sExpr, e_sNx, e_sIf, e_runF, e_mList, e_mSlice, e_sRaise, e_mMake, e_callI, d_add, d_sub, d_lt, d_le, d_gt, d_ge, d_eq, d_ne, d_asB, d_not, d_asI, d_ntN, d_intOf, d_neg, d_lenL, d_lenT, d_seqL, d_seqT, d_tupL, d_tupT, p_count, p_at, p_digits, p_fold, q_count, q_at, q_digits, q_fold, List.map_cons, List.map_nil, List.length_cons, List.length_nil, List.replicate_succ, List.replicate_zero, List.cons_append, List.nil_append, List.append_nil, List.getElem?_cons_zero, List.getElem?_cons_succ, List.set_cons_zero, List.set_cons_succ, wipeR, fName, fTup, fCons, fNil, Option.bind_some, Option.map_some, reduceIte, if_true, if_false, decide_eq_true_eq, Nat.reduceAdd, Nat.reduceSub, Nat.reduceLeDiff, Nat.reduceLT, Nat.zero_le, Bool.not_true, Bool.not_false, Bool.false_eq_true, Nat.zero_add]
    exact goes_nx ⟨⟨_, _, _, _, _, _, _, _, _, _, _, _, _, _, _, _, _, rfl, .inr ⟨_, _, _, rfl⟩⟩, k4.mono (by omega)⟩
  · subst e1
    rcases h6 with h6 | ⟨p, n, B, rfl⟩
    · exact absurd h6 (by decide)
    obtain ⟨io, dno, π1, _, go, h_no, k1⟩ := ev_pick (l := nothingL) hk (by rw [List.length_range]; omega) (by decide) (by decide)
    have mo := mem_get go
    obtain ⟨eo, ro, so⟩ := goodR_ex (List.all_eq_true.mp odd_fit dno (List.mem_append_right _ (List.mem_append_right _ mo)))
    have ro1 : repr1 [dno] = some (.str eo) := ro
    have b1 := ev_bad_mirror (π := π1) mo
    have b2 := ev_bad_meet (π := π1) mo
    have b3 := ev_bad_sum (p := p) (n := n) (B := B) (π := π1) mo
    unfold nothingL at h_no
    have ss := strOk_lit
    have sl1 := sl24 (show 1 ≤ 100000 by decide)
    have r3 : ∀ t : D, repO (.lst [t]) (.int 3) = some (.lst [t, t, t]) := fun t => repO_one (n := 3) (by decide)
    have pl : plainD 59 (.tup [.str "item", .str eo]) = true := by
      show ([D.str "item", .str eo].all (plainD 58)) = true
      rw [List.all_cons, List.all_cons]
      simp only [plainS ss.2.2.2.2, plainS so, List.all_nil, Bool.and_true]
    refine ⟨π1, ?_⟩
    simp only [h_no, e_mCaught, b1, cau_item ro, sl1, own_lst, ↓u_bd, ↓u_toS, ↓u_seq, bind_ok, bind_err, toS_ok, toS_err, seq_nx, seq_rt, seq_err, fin_nx, fin_rt, fin_err, opt_some, slD_sh, slB_sh, slB_ow, e_mBind, e_mOk, e_mOpt, e_mVar, e_mVarB, e_mNil, e_mCons, e_m1, e_m2, e_m2O, e_mC, e_mI, e_itSeq, e_mSome, e_mAnd, e_mOr, e_mTest, e_mT2, e_mChain, e_tAnd, e_tOr, e_tNot, e_mIf, e_mTup, e_mLst, e_mD, e_mCall, e_callF, e_mPen, e_mPenC, e_sPenPut, e_penPutK, e_sSeq, e_sSet, e_sSetO, e_sRet, e_sExpr, e_sNx, e_sIf, e_runF, e_mList, e_mSlice, e_sRaise, e_mMake, e_callI, d_add, d_sub, d_lt, d_le, d_gt, d_ge, d_eq, d_ne, d_asB, d_not, d_asI, d_ntN, d_intOf, d_neg, d_lenL, d_lenT, d_seqL, d_seqT, d_tupL, d_tupT, p_count, p_at, p_digits, p_fold, q_count, q_at, q_digits, q_fold, List.map_cons, List.map_nil, List.length_cons, List.length_nil, List.replicate_succ, List.replicate_zero, List.cons_append, List.nil_append, List.append_nil, List.getElem?_cons_zero, List.getElem?_cons_succ, List.set_cons_zero, List.set_cons_succ, wipeR, fName, fTup, fCons, fNil, Option.bind_some, Option.map_some, reduceIte, if_true, if_false, decide_eq_true_eq, Nat.reduceAdd, Nat.reduceSub, Nat.reduceLeDiff, Nat.reduceLT, Nat.zero_le, Bool.not_true, Bool.not_false, Bool.false_eq_true, Nat.zero_add]
    rw [e_sMut (l := [D.tup [.str "item", .str eo]]) rfl]
    simp only [e_mCaught, b2, cau_item ro, ua1, ua2, own_lst, ↓u_bd, ↓u_toS, ↓u_seq, bind_ok, bind_err, toS_ok, toS_err, seq_nx, seq_rt, seq_err, fin_nx, fin_rt, fin_err, opt_some, slD_sh, slB_sh, slB_ow, e_mBind, e_mOk, e_mOpt, e_mVar, e_mVarB, e_mNil, e_mCons, e_m1, e_m2, e_m2O, e_mC, e_mI, e_itSeq, e_mSome, e_mAnd, e_mOr, e_mTest, e_mT2, e_mChain, e_tAnd, e_tOr, e_tNot, e_mIf, e_mTup, e_mLst, e_mD, e_mCall, e_callF, e_mPen, e_mPenC, e_sPenPut, e_penPutK, e_sSeq, e_sSet, e_sSetO, e_sRet, e_sExpr, e_sNx, e_sIf, e_runF, e_mList, e_mSlice, e_sRaise, e_mMake, e_callI, d_add, d_sub, d_lt, d_le, d_gt, d_ge, d_eq, d_ne, d_asB, d_not, d_asI, d_ntN, d_intOf, d_neg, d_lenL, d_lenT, d_seqL, d_seqT, d_tupL, d_tupT, p_count, p_at, p_digits, p_fold, q_count, q_at, q_digits, q_fold, List.map_cons, List.map_nil, List.length_cons, List.length_nil, List.replicate_succ, List.replicate_zero, List.cons_append, List.nil_append, List.append_nil, List.getElem?_cons_zero, List.getElem?_cons_succ, List.set_cons_zero, List.set_cons_succ, wipeR, fName, fTup, fCons, fNil, Option.bind_some, Option.map_some, reduceIte, if_true, if_false, decide_eq_true_eq, Nat.reduceAdd, Nat.reduceSub, Nat.reduceLeDiff, Nat.reduceLT, Nat.zero_le, Bool.not_true, Bool.not_false, Bool.false_eq_true, Nat.zero_add]
    rw [e_sMut (l := [D.tup [.str "item", .str eo], D.tup [.str "item", .str eo]]) rfl]
    simp only [e_mCaught, b3, cau_item ro, ua1, ua2, own_lst, ro1, r3, eq_self' (plain_three pl), ↓u_bd, ↓u_toS, ↓u_seq, bind_ok, bind_err, toS_ok, toS_err, seq_nx, seq_rt, seq_err, fin_nx, fin_rt, fin_err, opt_some, slD_sh, slB_sh, slB_ow, e_mBind, e_mOk, e_mOpt, e_mVar, e_mVarB, e_mNil, e_mCons, e_m1, e_m2, e_m2O, e_mC, e_mI, e_itSeq, e_mSome, e_mAnd, e_mOr, e_mTest, e_mT2, e_mChain, e_tAnd, e_tOr, e_tNot, e_mIf, e_mTup, e_mLst, e_mD, e_mCall, e_callF, e_mPen, e_mPenC, e_sPenPut, e_penPutK, e_sSeq, e_sSet, e_sSetO, e_sRet, e_sExpr, e_sNx, e_sIf, e_runF, e_mList, e_mSlice, e_sRaise, e_mMake, e_callI, d_add, d_sub, d_lt, d_le, d_gt, d_ge, d_eq, d_ne, d_asB, d_not, d_asI, d_ntN, d_intOf, d_neg, d_lenL, d_lenT, d_seqL, d_seqT, d_tupL, d_tupT, p_count, p_at, p_digits, p_fold, q_count, q_at, q_digits, q_fold, List.map_cons, List.map_nil, List.length_cons, List.length_nil, List.replicate_succ, List.replicate_zero, List.cons_append, List.nil_append, List.append_nil, List.getElem?_cons_zero, List.getElem?_cons_succ, List.set_cons_zero, List.set_cons_succ, wipeR, fName, fTup, fCons, fNil, Option.bind_some, Option.map_some, reduceIte, if_true, if_false, decide_eq_true_eq, Nat.reduceAdd, Nat.reduceSub, Nat.reduceLeDiff, Nat.reduceLT, Nat.zero_le, Bool.not_true, Bool.not_false, Bool.false_eq_true, Nat.zero_add]
end
end L2.Dl.W
end

section
set_option maxRecDepth 100000
set_option maxHeartbeats 8000000
namespace L2.Dl.W
open PySem PySem.Spec PyProof.Rows L2 LamX
abbrev Rw : PySem.W.OpenRow := PySem.W.OpenLaw.row PySem.Challenge.rw_evenwords_k09_whole_mirrors
abbrev hk : PySem.W.Hook := hookY 4 fa fn tf ex en
def ob (s : PySem.W.SharedT) : AlY := obsY 4 fa fn tf ex en (HandSHeadRun.getT s)
theorem ob_eq (s : PySem.W.SharedT) : ob s = hk.obs s.abs := obsY_eq (HandSHeadRun.getT_eq s)
def loose : List PySem.Str := (["EvenError", "BadNumber", "BadItem", "BadRows", "NotAlike", "is_integer", "is_row", "is_letters", "added", "multiple", "lead_of", "without_leads", "stepped", "need_letters", "Code", "need_code", "need_two", "made_code", "mirror_words", "mirror_of", "mirror", "meet", "sum_of", "_law_pen", "_law_draw", "_law_pick", "_law_all", "_law_plus", "_law_dot", "_law_span"] : List PySem.Str) ++ (["_law_dual", "_law_many", "_law_word", "_law_some", "_law_complaint", "MOST_LETTERS"] : List PySem.Str)
theorem run (w : World) : HandSHeadRun.RunEq Rw (PySem.W.view Rw.prog [40]) hk ob 4000 loose w := by
  intro os
  kernel_rfl
theorem law_G (plain : ∀ π : Pen, PenIni π → ∃ π', m_law (.no :: .sh .pen :: List.replicate (n_law.length - 2) .no) π = .rt (.bl true) π') {w : World} {K : PySem.W.Frag} {h : Heap} {mg : Str → Option Value} {fad : Addr} (X : K.In h) (G : h.Ns mainGlobals mg) (hfa : mg ("law" : Str) = some (.ref fad)) (c : SaysY fa fn tf ex en w h K) :
    ∃ (K : PySem.W.Frag) (cs : List (Addr × Addr)), K.In h ∧ (∀ p ∈ cs, h.get? p.2 = some { cls := .none, data := .fields #[] }) ∧ (∀ p ∈ cs, K.lookup p.2 = none) ∧ (∀ p ∈ cs, PySem.W.CodeHd h p.1 p.2) ∧
      ∀ (base : Heap) (H : Hp) (s : Shared) (a : Addr) (ns : List Int), ns.length ≤ 63 → (∀ z ∈ ns, Builtin.Int.intBits z ≤ 1048576) → K.In base → base.Ns mainGlobals mg → (∀ p ∈ cs, TabB base mg p.1 p.2) → Env0 prog w K mg base callerA [] s H → (∀ p ∈ cs, H p.2 = some (.tbl #[])) → SqL K H a (ns.map V.int) →
        codeAny (model prog w) callerA (.call (.ref fad) ⟨[.ref a], []⟩) (CR (L2.CX prog w) [] prog w H s (fun v _ => v = .bl true) (fun _ _ _ => False)) s := by
  refine ⟨K, tf.map fun p => He.cT K p, X, fun p hp => ?_, fun p hp => ?_, fun p hp => ?_, fun base H s a ns hl hb k1 k2 k3 k4 k5 k6 => ?_⟩
  · obtain ⟨d, hd, rfl⟩ := List.mem_map.mp hp
    exact c.x.empty d hd
  · obtain ⟨d, hd, rfl⟩ := List.mem_map.mp hp
    exact c.x.out d hd
  · obtain ⟨d, hd, rfl⟩ := List.mem_map.mp hp
    exact PySem.W.codeHd_of_K X (c.x.hd d hd)
  obtain ⟨fd, F⟩ := c.x.t.d.def_ 29 (d := d_law) rfl
  have F : FunD K "law" "law" (defArgs s_law) (defBody s_law) (defScope s_law) [] [] (He.ga K "law") fd := F
  have e := hfa.symm.trans (He.glo_ok X G (c.x.t.d.fact 29 (f := .glo "law") rfl))
  cases e
  obtain ⟨fdp, Fp⟩ := c.x.t.d.def_ 30 (d := d__law_pen) rfl
  have Fp : FunD K "_law_pen" "_law_pen" (defArgs s__law_pen) (defBody s__law_pen) (defScope s__law_pen) [] [] (He.ga K "_law_pen") fdp := Fp
  have Gp : FnOk prog w K mg base (L2.CX prog w) 2 (He.ga K "_law_pen") fdp ["script"] (spPen K) := pen_fn Fp ⟨rfl, rfl, rfl, by decide +kernel, rfl, by decide +kernel, by decide +kernel⟩ (He.free_ok X G (c.x.t.d.fact 38 (f := .free "int") rfl)) (He.free_ok X G (c.x.t.d.fact 41 (f := .free "list") rfl)) rfl rfl rfl rfl rfl (by decide) (by decide) rfl
  have mem : He.cT K ("law", none) ∈ tf.map fun p => He.cT K p := List.mem_map.mpr ⟨_, List.mem_singleton.mpr rfl, rfl⟩
  let T : List (Addr × Str) := [((He.cT K ("law", none)).2, lamQ)]
  refine law_run (N := n_law) (k := 12) (T := T) (m := m_law) F sc_law (fun s u => FunD.bindsA (ps := ["script"]) F (fun _ _ _ _ _ _ us hl => match us, hl with | [_], _ => rfl) s [u] rfl) ⟨_, fdp, (He.glo_ok X G (c.x.t.d.fact 17 (f := .glo "_law_pen") rfl)), Fp.kp, Gp, Fp.bindsN fun _ _ _ _ _ _ us hl => match us, hl with | [_], _ => rfl⟩ rfl rfl rfl (by first | exact Or.inl rfl | exact Or.inr (Or.inl rfl)) (by first | exact Or.inl rfl | exact Or.inr rfl) (by decide) (fun cdv A outer s H E hc hr hgd => ?_) plain rfl ⟨rfl, by decide, by decide⟩ k4 (fun p hp => ?_) k6 (Nat.le_trans hl (by decide))
  · obtain ⟨oc, od, fd', osl, lk, e1, e2⟩ := hc
    obtain ⟨cc, e3⟩ := He.codeIn_ref e2
    have e4 : (He.cT K ("law", none)).1 = cc := He.codeOf_eq lk (e1.trans e3)
    subst e3
    have TB : TabB base mg cc (He.cT K ("law", none)).2 := by
      have := k3 _ mem
      rwa [e4] at this
    exact ok_law (b_of X G c) (i_of X G c) (c_of X G c) (G_mirror X G c) (G_meet X G c) (G_sum_of X G c) (G__law_draw X G c) (G__law_pick X G c) (G__law_span X G c) (G__law_dual X G c) (G__law_word X G c) (G__law_some X G c) (M_Code X G c) (Q_Code X G c) (Cau__law_complaint X G c) (Lk__law_complaint X G c) TB (List.mem_singleton.mpr rfl) (fun p hp _ => by rw [List.mem_singleton.mp hp]) A outer s H E hr hgd
  · rw [List.mem_singleton.mp hp]
    exact TabS.nil (k5 _ mem)
end L2.Dl.W
end

section
set_option maxRecDepth 100000
set_option maxHeartbeats 8000000
open PySem PySem.W PySem.Calls PyProof.Rows
theorem PySem.Challenge.cw_evenwords_k09_whole_mirrors_holds : PySem.Challenge.rw_evenwords_k09_whole_mirrors.Holds := by
  w_on; o_law
  refine HandSHeadRun.head_any (r := PySem.W.OpenLaw.row PySem.Challenge.rw_evenwords_k09_whole_mirrors) (q := PySem.W.view (PySem.W.OpenLaw.row PySem.Challenge.rw_evenwords_k09_whole_mirrors).prog [40]) (H := L2.Dl.W.hk) (ob := L2.Dl.W.ob) (M := 4000) (loose := L2.Dl.W.loose) (d := HandSHeadRun.topDef (PySem.W.OpenLaw.row PySem.Challenge.rw_evenwords_k09_whole_mirrors).prog 40) (kwd := []) L2.Dl.W.ob_eq
    (by kernel_rfl) (fun s => by kernel_rfl) L2.Dl.W.run (by kernel_rfl) (by kernel_rfl) (by kernel_rfl) (by rfl) (by first | assumption | decide +kernel) (by decide +kernel) ⟨rfl, rfl, rfl, rfl, rfl, by decide +kernel⟩ ?hw ?hc
  case hw => w_witness2
  case hc =>
    refine L2.Dl.walk_G (l := PySem.Challenge.rw_evenwords_k09_whole_mirrors) (n := 63) (CX := fun w => L2.CX PySem.Challenge.rw_evenwords_k09_whole_mirrors.prog w) rfl (by decide) (by kernel_rfl) ?F ?N
    case F =>
      intro w mg fa h Y G hmg0
      obtain ⟨K, KX, c⟩ := Y
      have hmg : mg ("law" : PySem.Str) = some (.ref fa) := by
        have e : (HandSHeadRun.topDef (PySem.W.OpenLaw.row PySem.Challenge.rw_evenwords_k09_whole_mirrors).prog 40).name = ("law" : PySem.Str) := by kernel_rfl
        rw [← e]
        exact hmg0
      exact L2.Dl.W.law_G L2.Dl.W.plain KX G hmg c
    case N =>
      intro w H s e s' h
      obtain ⟨_, _, _, _, _, _, _, _, _, _, _, _, h⟩ := h
      exact h
end
