import PyProof.Rows.All
import Wide.All
import OpenK.AllK
import Wide.FinOn
import HandS.ForMost
import HandS.Deep
import HandS.TupAny
import HandS.TupMul
import HandS.IsInst
import HandS.Flow
import HandS.Style
import HandS.Wide
import HandS.More
import HandS.TupLe
import HandS.Conv
import KE.SortData
import KE.DataMinMax
import KE.DataAny
import KE.DataEq
import KE.DataCmp
import KE.DatumOrd
import HandS.DictComp
import HandS.Flt
import HandS.ExcValue
import PySem.Challenge.RW_oncefolded_k72_samples_and_greedy_ones
set_option Elab.async false
set_option linter.all false
set_option autoImplicit false
set_option maxRecDepth 100000
set_option maxHeartbeats 4000000
namespace DL
open PySem PySem.Spec L2

abbrev D := PyData

mutual
inductive Rp (K : PySem.W.Frag) (F : Hp) : V → D → Prop
  | non : Rp K F .non .none
  | bl (b : Bool) : Rp K F (.bl b) (.bool b)
  | int (i : Int) : Rp K F (.int i) (.int i)
  | str (x : Str) : Rp K F (.str x) (.str x)
  | lst {a : Addr} {xs : List V} {ds : List D} : F a = some (.lst xs) → RpA K F xs ds → Rp K F (.ref a) (.list ds)
  | tup {a : Addr} {xs : List V} {ds : List D} : SqT K F a xs → RpA K F xs ds → Rp K F (.ref a) (.tuple ds)
inductive RpA (K : PySem.W.Frag) (F : Hp) : List V → List D → Prop
  | nil : RpA K F [] []
  | cons {v : V} {vs : List V} {d : D} {ds : List D} : Rp K F v d → RpA K F vs ds → RpA K F (v :: vs) (d :: ds)
end

section
variable {K : PySem.W.Frag} {F F' H : Hp}
theorem sqt_mono {a : Addr} {xs : List V} (e : Same F F') (h : SqT K F a xs) : SqT K F' a xs := by
  rcases h with (h | ⟨o, h⟩) | h
  · exact .inl (.inl (e _ _ h))
  · exact .inl (.inr ⟨o, e _ _ h⟩)
  · exact .inr h
mutual
theorem Rp.mono (e : Same F F') : ∀ {v : V} (d : D), Rp K F v d → Rp K F' v d
  | _, .none, h => by cases h; exact .non
  | _, .bool b, h => by cases h; exact .bl b
  | _, .int i, h => by cases h; exact .int i
  | _, .str x, h => by cases h; exact .str x
  | _, .list ds, h => by
    cases h with
    | lst h1 h2 => exact .lst (e _ _ h1) (RpA.mono e ds h2)
  | _, .tuple ds, h => by
    cases h with
    | tup h1 h2 => exact .tup (sqt_mono e h1) (RpA.mono e ds h2)
  | _, .dict _, h => by cases h
theorem RpA.mono (e : Same F F') : ∀ {vs : List V} (ds : List D), RpA K F vs ds → RpA K F' vs ds
  | _, [], h => by cases h; exact .nil
  | _, d :: ds, h => by
    cases h with
    | cons h1 h2 => exact .cons (Rp.mono e d h1) (RpA.mono e ds h2)
end
mutual
theorem Rp.dp : ∀ {v : V} (d : D), Rp K F v d → Dp K F v d
  | _, .none, h => by cases h; exact .non
  | _, .bool b, h => by cases h; exact .bl b
  | _, .int i, h => by cases h; exact .int i
  | _, .str x, h => by cases h; exact .str x
  | _, .list ds, h => by
    cases h with
    | lst h1 h2 => exact .lst (.of h1) (RpA.dp ds h2)
  | _, .tuple ds, h => by
    cases h with
    | tup h1 h2 => exact .tup h1 (RpA.dp ds h2)
  | _, .dict _, h => by cases h
theorem RpA.dp : ∀ {vs : List V} (ds : List D), RpA K F vs ds → DpAll K F vs ds
  | _, [], h => by cases h; exact .nil
  | _, d :: ds, h => by
    cases h with
    | cons h1 h2 => exact .cons (Rp.dp d h1) (RpA.dp ds h2)
end
mutual
theorem Rp.plain : ∀ {v : V} (d : D), Rp K F v d → d.plain = true
  | _, .none, h => rfl
  | _, .bool b, h => rfl
  | _, .int i, h => rfl
  | _, .str x, h => rfl
  | _, .list ds, h => by
    cases h with
    | lst h1 h2 => simp only [PyData.plain]; exact RpA.plain ds h2
  | _, .tuple ds, h => by
    cases h with
    | tup h1 h2 => simp only [PyData.plain]; exact RpA.plain ds h2
  | _, .dict _, h => by cases h
theorem RpA.plain : ∀ {vs : List V} (ds : List D), RpA K F vs ds → PyData.plainAll ds = true
  | _, [], h => rfl
  | _, d :: ds, h => by
    cases h with
    | cons h1 h2 => simp only [PyData.plainAll, Rp.plain d h1, RpA.plain ds h2, Bool.and_self]
end
theorem RpA.length : ∀ {vs : List V} {ds : List D}, RpA K F vs ds → vs.length = ds.length
  | _, _, .nil => rfl
  | _, _, .cons _ t => by simp [RpA.length t]
theorem RpA.get : ∀ {vs : List V} {ds : List D} {i : Nat} {d : D}, RpA K F vs ds → ds[i]? = some d → ∃ v, vs[i]? = some v ∧ Rp K F v d
  | _, _, _, _, .nil, e => by simp at e
  | _, _, 0, _, .cons r _, e => by simp at e; subst e; exact ⟨_, rfl, r⟩
  | _, _, i + 1, _, .cons _ t, e => by
    obtain ⟨v, h1, h2⟩ := RpA.get (i := i) t (by simpa using e)
    exact ⟨v, by simpa using h1, h2⟩
theorem RpA.getV : ∀ {vs : List V} {ds : List D} {i : Nat} {v : V}, RpA K F vs ds → vs[i]? = some v → ∃ d, ds[i]? = some d ∧ Rp K F v d
  | _, _, _, _, .nil, e => by simp at e
  | _, _, 0, _, .cons r _, e => by simp at e; subst e; exact ⟨_, rfl, r⟩
  | _, _, i + 1, _, .cons _ t, e => by
    obtain ⟨v, h1, h2⟩ := RpA.getV (i := i) t (by simpa using e)
    exact ⟨v, by simpa using h1, h2⟩
theorem RpA.append : ∀ {xs ys : List V} {ds es : List D}, RpA K F xs ds → RpA K F ys es → RpA K F (xs ++ ys) (ds ++ es)
  | _, _, _, _, .nil, s => s
  | _, _, _, _, .cons r t, s => .cons r (RpA.append t s)
theorem RpA.one {v : V} {d : D} (h : Rp K F v d) : RpA K F [v] [d] := .cons h .nil
theorem RpA.take : ∀ {xs : List V} {ds : List D} (n : Nat), RpA K F xs ds → RpA K F (xs.take n) (ds.take n)
  | _, _, 0, _ => by simp; exact .nil
  | _, _, _ + 1, .nil => .nil
  | _, _, n + 1, .cons r t => .cons r (RpA.take n t)
theorem RpA.drop : ∀ {xs : List V} {ds : List D} (n : Nat), RpA K F xs ds → RpA K F (xs.drop n) (ds.drop n)
  | _, _, 0, r => r
  | _, _, _ + 1, .nil => .nil
  | _, _, n + 1, .cons _ t => RpA.drop n t
theorem RpA.set {v : V} {d : D} (r : Rp K F v d) : ∀ {xs : List V} {ds : List D} (i : Nat), RpA K F xs ds → RpA K F (xs.set i v) (ds.set i d)
  | _, _, _, .nil => .nil
  | _, _, 0, .cons _ t => .cons r t
  | _, _, i + 1, .cons q t => .cons q (RpA.set r i t)
theorem RpA.eraseIdx : ∀ {xs : List V} {ds : List D} (i : Nat), RpA K F xs ds → RpA K F (xs.eraseIdx i) (ds.eraseIdx i)
  | _, _, _, .nil => .nil
  | _, _, 0, .cons _ t => t
  | _, _, i + 1, .cons q t => .cons q (RpA.eraseIdx i t)
theorem RpA.reverse : ∀ {xs : List V} {ds : List D}, RpA K F xs ds → RpA K F xs.reverse ds.reverse
  | _, _, .nil => .nil
  | _, _, .cons r t => by
    rw [List.reverse_cons, List.reverse_cons]
    exact (RpA.reverse t).append (.one r)
theorem RpA.rep {xs : List V} {ds : List D} (h : RpA K F xs ds) : ∀ n : Nat, RpA K F (List.replicate n xs).flatten (List.replicate n ds).flatten
  | 0 => .nil
  | n + 1 => by
    rw [List.replicate_succ, List.replicate_succ, List.flatten_cons, List.flatten_cons]
    exact h.append (RpA.rep h n)
theorem RpA.ints : ∀ (ns : List Int), RpA K F (ns.map V.int) (ns.map PyData.int)
  | [] => .nil
  | n :: ns => .cons (.int n) (RpA.ints ns)
end

abbrev BxA := Option (Addr × Addr)
structure BS where
  cells : List Int
  rest : List Int
def InB (bx : BxA) (a : Addr) : Prop := ∃ b c, bx = some (b, c) ∧ (a = b ∨ a = c)
def BoxOk (bx : BxA) (H : Hp) (B : BS) : Prop := ∀ b c, bx = some (b, c) → b ≠ c ∧ H b = some (.lst (.ref c :: B.rest.map V.int)) ∧ H c = some (.lst (B.cells.map V.int))
theorem InB.none {a : Addr} : ¬ InB none a := by rintro ⟨b, c, e, _⟩; cases e
theorem BoxOk.none {H : Hp} {B : BS} : BoxOk none H B := fun _ _ e => by cases e
theorem BoxOk.there {bx : BxA} {H : Hp} {B : BS} {a : Addr} (h : BoxOk bx H B) (i : InB bx a) : H a ≠ Option.none := by
  obtain ⟨b, c, e, i⟩ := i
  obtain ⟨_, h1, h2⟩ := h b c e
  rcases i with rfl | rfl
  · rw [h1]; intro z; cases z
  · rw [h2]; intro z; cases z

structure Stp (bx : BxA) (F H F' H' : Hp) : Prop where
  fex : Same F F'
  hex : ∀ a o, H a = some o → ¬ InB bx a → H' a = some o
  hin : ∀ a, H a ≠ none → H' a ≠ none
  new : ∀ a, F' a ≠ none → F a = none → H a = none
section
variable {bx : BxA} {F H F1 H1 F2 H2 : Hp}
theorem Stp.refl : Stp bx F H F H := ⟨Same.refl _, fun _ _ h _ => h, fun _ h => h, fun _ h e => absurd e h⟩
theorem Stp.trans (s : Stp bx F H F1 H1) (t : Stp bx F1 H1 F2 H2) : Stp bx F H F2 H2 where
  fex := s.fex.trans t.fex
  hex := fun a o h n => t.hex a o (s.hex a o h n) n
  hin := fun a h => t.hin a (s.hin a h)
  new := fun a h e => by
    by_cases q : F1 a = none
    · have z := t.new a h q
      by_cases y : H a = none
      · exact y
      · exact absurd z (s.hin a y)
    · exact s.new a q e
theorem Stp.of_none (s : Stp none F H F1 H1) : Stp bx F H F1 H1 := ⟨s.fex, fun a o h _ => s.hex a o h InB.none, s.hin, s.new⟩
theorem Stp.same (s : Stp none F H F1 H1) : Same H H1 := fun a o h => s.hex a o h InB.none
theorem Stp.laid {p : Addr} {o : HO} (h : H p = none) (sub : Same F H) : Stp bx F H (upd F p o) (upd H p o) where
  fex := fun b u e => by rw [upd_ne (ne_of_none (sub b u e) h)]; exact e
  hex := fun b u e _ => by rw [upd_ne (ne_of_none e h)]; exact e
  hin := fun b e => by
    unfold upd
    split
    · intro z; cases z
    · exact e
  new := fun b e q => by
    unfold upd at e
    split at e
    · rename_i z; subst z; exact h
    · exact absurd q e
theorem same_laid {p : Addr} {o : HO} (sub : Same F H) : Same (upd F p o) (upd H p o) := fun b u e => by
  unfold upd at e ⊢
  split
  · rename_i z; rw [if_pos z] at e; exact e
  · rename_i z; rw [if_neg z] at e; exact sub b u e
theorem Stp.own {p : Addr} {o : HO} (h : H p = none) : Stp bx F H F (upd H p o) where
  fex := Same.refl _
  hex := fun b u e _ => by rw [upd_ne (ne_of_none e h)]; exact e
  hin := fun b e => by
    unfold upd
    split
    · intro z; cases z
    · exact e
  new := fun b e q => absurd q e
theorem BoxOk.step {B : BS} (h : BoxOk bx H B) (e : Same H H1) : BoxOk bx H1 B := fun b c z => by
  obtain ⟨n, h1, h2⟩ := h b c z
  exact ⟨n, e _ _ h1, e _ _ h2⟩
theorem BoxOk.laid {B : BS} {p : Addr} {o : HO} (h : BoxOk bx H B) (hp : H p = Option.none) : BoxOk bx (upd H p o) B := h.step fun b u e => by rw [upd_ne (ne_of_none e hp)]; exact e
end

inductive Sl where
  | no | d (x : D) | own (xs : List D) | box | dk (kvs : List (Key × D))
abbrev Env := List Sl
structure RpK (K : PySem.W.Frag) (F : Hp) (vs : List (Key × V)) (ds : List (Key × D)) : Prop where
  ks : vs.map (·.1) = ds.map (·.1)
  vals : RpA K F (vs.map (·.2)) (ds.map (·.2))
theorem RpK.mono {K : PySem.W.Frag} {F F' : Hp} {vs : List (Key × V)} {ds : List (Key × D)} (e : RpK K F vs ds) (s : Same F F') : RpK K F' vs ds := ⟨e.ks, e.vals.mono s⟩
def SlOk (K : PySem.W.Frag) (H0 : Hp) (bx : BxA) (F H : Hp) (x : Option (Option V)) : Sl → Prop
  | .no => True
  | .d d => ∃ v, x = some (some v) ∧ Rp K F v d
  | .own ds => ∃ l vs, x = some (some (.ref l)) ∧ H l = some (.lst vs) ∧ RpA K F vs ds ∧ F l = none ∧ H0 l = none ∧ ¬ InB bx l
  | .box => ∃ b c, bx = some (b, c) ∧ x = some (some (.ref b))
  | .dk ds => ∃ l vs, x = some (some (.ref l)) ∧ H l = some (.dK vs) ∧ RpK K F vs ds ∧ F l = none ∧ H0 l = none ∧ ¬ InB bx l
structure Ok (K : PySem.W.Frag) (F0 H0 : Hp) (bx : BxA) (σ : St) (ρ : Env) (F H : Hp) (B : BS) : Prop where
  sub : Same F H
  bxF : ∀ a, InB bx a → F a = none
  box : BoxOk bx H B
  stp : Stp bx F0 H0 F H
  len : σ.length = ρ.length
  sl : ∀ (i : Nat) (s : Sl), ρ[i]? = some s → SlOk K H0 bx F H σ[i]? s
  dis : ∀ (i j : Nat) (xs ys : List D) (l : Addr), i ≠ j → ρ[i]? = some (.own xs) → ρ[j]? = some (.own ys) → σ[i]? = some (some (.ref l)) → σ[j]? ≠ some (some (.ref l))
section
variable {K : PySem.W.Frag} {F0 H0 F H F' H' : Hp} {bx : BxA} {σ : St} {ρ : Env} {B B' : BS}
theorem Ok.step (k : Ok K F0 H0 bx σ ρ F H B) (s : Stp bx F H F' H') (sub : Same F' H') (box : BoxOk bx H' B') : Ok K F0 H0 bx σ ρ F' H' B' where
  sub := sub
  bxF := fun a i => by
    by_cases q : F' a = none
    · exact q
    · exact absurd (s.new a q (k.bxF a i)) (k.box.there i)
  box := box
  stp := k.stp.trans s
  len := k.len
  sl := fun i x e => by
    have h := k.sl i x e
    cases x with
    | no => trivial
    | d d => obtain ⟨v, h1, h2⟩ := h; exact ⟨v, h1, h2.mono s.fex⟩
    | own ds =>
      obtain ⟨l, vs, h1, h2, h3, h4, h5, h6⟩ := h
      refine ⟨l, vs, h1, s.hex l _ h2 h6, h3.mono s.fex, ?_, h5, h6⟩
      by_cases q : F' l = none
      · exact q
      · have := s.new l q h4
        rw [h2] at this; cases this
    | dk ds =>
      obtain ⟨l, vs, h1, h2, h3, h4, h5, h6⟩ := h
      refine ⟨l, vs, h1, s.hex l _ h2 h6, h3.mono s.fex, ?_, h5, h6⟩
      by_cases q : F' l = none
      · exact q
      · have := s.new l q h4
        rw [h2] at this; cases this
    | box => exact h
  dis := k.dis
theorem Ok.setD {i : Nat} {v : V} {d : D} (k : Ok K F0 H0 bx σ ρ F H B) (r : Rp K F v d) : Ok K F0 H0 bx (σ.set i (some v)) (ρ.set i (.d d)) F H B where
  sub := k.sub
  bxF := k.bxF
  box := k.box
  stp := k.stp
  len := by simp [k.len]
  sl := fun j x e => by
    by_cases hj : j = i
    · subst hj
      have hlt : j < ρ.length := by
        have := (List.getElem?_eq_some_iff.mp e).1
        simpa using this
      rw [List.getElem?_set_self hlt] at e
      cases e
      exact ⟨v, List.getElem?_set_self (by rw [k.len]; exact hlt), r⟩
    · rw [List.getElem?_set_ne (Ne.symm hj)] at e ⊢
      exact k.sl j x e
  dis := fun a b xs ys l hab e1 e2 e3 => by
    have ha : a ≠ i := fun z => by
      subst z
      have hlt : a < ρ.length := by
        have := (List.getElem?_eq_some_iff.mp e1).1
        simpa using this
      rw [List.getElem?_set_self hlt] at e1; cases e1
    have hb : b ≠ i := fun z => by
      subst z
      have hlt : b < ρ.length := by
        have := (List.getElem?_eq_some_iff.mp e2).1
        simpa using this
      rw [List.getElem?_set_self hlt] at e2; cases e2
    rw [List.getElem?_set_ne (Ne.symm ha)] at e1 e3
    rw [List.getElem?_set_ne (Ne.symm hb)] at e2 ⊢
    exact k.dis a b xs ys l hab e1 e2 e3
theorem Ok.setO {i : Nat} {p : Addr} {vs : List V} {ds : List D} (k : Ok K F0 H0 bx σ ρ F H B) (hp : H p = some (.lst vs)) (r : RpA K F vs ds) (hF : F p = none) (h0 : H0 p = none) (hB : ¬ InB bx p)
    (hn : ∀ (j : Nat) (xs : List D), j ≠ i → ρ[j]? = some (.own xs) → σ[j]? ≠ some (some (.ref p))) : Ok K F0 H0 bx (σ.set i (some (.ref p))) (ρ.set i (.own ds)) F H B where
  sub := k.sub
  bxF := k.bxF
  box := k.box
  stp := k.stp
  len := by simp [k.len]
  sl := fun j x e => by
    by_cases hj : j = i
    · subst hj
      have hlt : j < ρ.length := by
        have := (List.getElem?_eq_some_iff.mp e).1
        simpa using this
      rw [List.getElem?_set_self hlt] at e
      cases e
      exact ⟨p, vs, List.getElem?_set_self (by rw [k.len]; exact hlt), hp, r, hF, h0, hB⟩
    · rw [List.getElem?_set_ne (Ne.symm hj)] at e ⊢
      exact k.sl j x e
  dis := fun a b xs ys l hab e1 e2 e3 => by
    by_cases ha : a = i
    · subst ha
      have hlt : a < ρ.length := by
        have := (List.getElem?_eq_some_iff.mp e1).1
        simpa using this
      rw [List.getElem?_set_self (by rw [k.len]; exact hlt)] at e3
      cases e3
      have hb : b ≠ a := Ne.symm hab
      rw [List.getElem?_set_ne hab] at e2 ⊢
      exact hn b ys hb e2
    · rw [List.getElem?_set_ne (Ne.symm ha)] at e1 e3
      by_cases hb : b = i
      · subst hb
        have hlt : b < ρ.length := by
          have := (List.getElem?_eq_some_iff.mp e2).1
          simpa using this
        rw [List.getElem?_set_self (by rw [k.len]; exact hlt)]
        intro z
        cases z
        exact hn a xs ha e1 e3
      · rw [List.getElem?_set_ne (Ne.symm hb)] at e2 ⊢
        exact k.dis a b xs ys l hab e1 e2 e3
theorem Ok.wipe1 {i : Nat} (k : Ok K F0 H0 bx σ ρ F H B) : Ok K F0 H0 bx (σ.set i none) (ρ.set i .no) F H B where
  sub := k.sub
  bxF := k.bxF
  box := k.box
  stp := k.stp
  len := by simp [k.len]
  sl := fun j x e => by
    by_cases hj : j = i
    · subst hj
      have hlt : j < ρ.length := by
        have := (List.getElem?_eq_some_iff.mp e).1
        simpa using this
      rw [List.getElem?_set_self hlt] at e
      cases e
      trivial
    · rw [List.getElem?_set_ne (Ne.symm hj)] at e ⊢
      exact k.sl j x e
  dis := fun a b xs ys l hab e1 e2 e3 => by
    have ha : a ≠ i := fun z => by
      subst z
      have hlt : a < ρ.length := by
        have := (List.getElem?_eq_some_iff.mp e1).1
        simpa using this
      rw [List.getElem?_set_self hlt] at e1; cases e1
    have hb : b ≠ i := fun z => by
      subst z
      have hlt : b < ρ.length := by
        have := (List.getElem?_eq_some_iff.mp e2).1
        simpa using this
      rw [List.getElem?_set_self hlt] at e2; cases e2
    rw [List.getElem?_set_ne (Ne.symm ha)] at e1 e3
    rw [List.getElem?_set_ne (Ne.symm hb)] at e2 ⊢
    exact k.dis a b xs ys l hab e1 e2 e3
def wipeE (ρ : Env) : List Nat → Env
  | [] => ρ
  | v :: vs => (wipeE ρ vs).set v .no
theorem Ok.wipe (k : Ok K F0 H0 bx σ ρ F H B) : ∀ vs : List Nat, Ok K F0 H0 bx (L2.wipe σ vs) (wipeE ρ vs) F H B
  | [] => k
  | _ :: vs => (Ok.wipe k vs).wipe1
theorem Ok.chg {i : Nat} {l : Addr} {vs' : List V} {ds ds' : List D} (k : Ok K F0 H0 bx σ ρ F H B) (e : ρ[i]? = some (.own ds)) (es : σ[i]? = some (some (.ref l))) (r : RpA K F vs' ds') : Ok K F0 H0 bx σ (ρ.set i (.own ds')) F (upd H l (.lst vs')) B := by
  obtain ⟨l', vs0, h1, h2, h3, h4, h5, h6⟩ := k.sl i _ e
  rw [es] at h1
  cases h1
  have hlt : i < ρ.length := (List.getElem?_eq_some_iff.mp e).1
  refine ⟨fun b u q => ?_, k.bxF, fun b c z => ?_, ?_, by simp [k.len], fun j x ej => ?_, fun a b xs ys m hab e1 e2 e3 => ?_⟩
  · rw [upd_ne]
    · exact k.sub b u q
    · intro z; subst z; rw [h4] at q; cases q
  · obtain ⟨n, q1, q2⟩ := k.box b c z
    have n1 : b ≠ l := fun z' => h6 ⟨b, c, z, .inl z'.symm⟩
    have n2 : c ≠ l := fun z' => h6 ⟨b, c, z, .inr z'.symm⟩
    exact ⟨n, by rw [upd_ne n1]; exact q1, by rw [upd_ne n2]; exact q2⟩
  · refine ⟨k.stp.fex, fun b u q n => ?_, fun b q => ?_, fun b q z => k.stp.new b q z⟩
    · rw [upd_ne (ne_of_none q h5)]; exact k.stp.hex b u q n
    · unfold upd
      split
      · intro z; cases z
      · exact k.stp.hin b q
  · by_cases hj : j = i
    · subst hj
      rw [List.getElem?_set_self hlt] at ej
      cases ej
      exact ⟨l, vs', es, upd_same, r, h4, h5, h6⟩
    · rw [List.getElem?_set_ne (Ne.symm hj)] at ej
      have q := k.sl j x ej
      cases x with
      | no => trivial
      | d d => exact q
      | box => exact q
      | own zs =>
        obtain ⟨m, ws, g1, g2, g3, g4, g5, g6⟩ := q
        refine ⟨m, ws, g1, ?_, g3, g4, g5, g6⟩
        have nm : m ≠ l := fun z => by subst z; exact k.dis i j ds zs m (Ne.symm hj) e ej es g1
        rw [upd_ne nm]
        exact g2
      | dk zs =>
        obtain ⟨m, ws, g1, g2, g3, g4, g5, g6⟩ := q
        refine ⟨m, ws, g1, ?_, g3, g4, g5, g6⟩
        have nm : m ≠ l := fun z => by subst z; rw [h2] at g2; cases g2
        rw [upd_ne nm]
        exact g2
  · have own_of : ∀ (a : Nat) (xs : List D), (ρ.set i (.own ds'))[a]? = some (.own xs) → ∃ ys, ρ[a]? = some (.own ys) := fun a xs q => by
      by_cases ha : a = i
      · subst ha; exact ⟨ds, e⟩
      · rw [List.getElem?_set_ne (Ne.symm ha)] at q; exact ⟨xs, q⟩
    obtain ⟨xs', q1⟩ := own_of a xs e1
    obtain ⟨ys', q2⟩ := own_of b ys e2
    exact k.dis a b xs' ys' m hab q1 q2 e3
theorem Ok.frzX {i : Nat} {ds : List D} (k : Ok K F0 H0 bx σ ρ F H B) (e : ρ[i]? = some (.own ds)) : ∃ l vs, (H l = some (.lst vs) ∧ RpA K F vs ds ∧ F l = none ∧ ¬ InB bx l) ∧ Same F (upd F l (.lst vs)) ∧ Ok K F0 H0 bx σ (ρ.set i (.d (.list ds))) (upd F l (.lst vs)) H B := by
  obtain ⟨l, vs, h1, h2, h3, h4, h5, h6⟩ := k.sl i _ e
  have hlt : i < ρ.length := (List.getElem?_eq_some_iff.mp e).1
  have sm : Same F (upd F l (.lst vs)) := fun b u q => by
    rw [upd_ne (ne_of_none q h4)]; exact q
  refine ⟨l, vs, ⟨h2, h3, h4, h6⟩, sm, fun b u q => ?_, fun a q => ?_, k.box, ?_, by simp [k.len], fun j x ej => ?_, fun a b xs ys m hab e1 e2 e3 => ?_⟩
  · unfold upd at q
    split at q
    · rename_i z; subst z; cases q; exact h2
    · exact k.sub b u q
  · rw [upd_ne (fun (z : a = l) => h6 (by rw [← z]; exact q))]; exact k.bxF a q
  · refine ⟨k.stp.fex.trans sm, k.stp.hex, k.stp.hin, fun b q z => ?_⟩
    unfold upd at q
    split at q
    · rename_i w; subst w; exact h5
    · exact k.stp.new b q z
  · by_cases hj : j = i
    · subst hj
      rw [List.getElem?_set_self hlt] at ej
      cases ej
      exact ⟨.ref l, h1, .lst upd_same (h3.mono sm)⟩
    · rw [List.getElem?_set_ne (Ne.symm hj)] at ej
      have q := k.sl j x ej
      cases x with
      | no => trivial
      | d d => obtain ⟨v, q1, q2⟩ := q; exact ⟨v, q1, q2.mono sm⟩
      | box => exact q
      | own zs =>
        obtain ⟨m, ws, g1, g2, g3, g4, g5, g6⟩ := q
        have nm : m ≠ l := fun z => by subst z; exact k.dis i j ds zs m (Ne.symm hj) e ej h1 g1
        exact ⟨m, ws, g1, g2, g3.mono sm, by rw [upd_ne nm]; exact g4, g5, g6⟩
      | dk zs =>
        obtain ⟨m, ws, g1, g2, g3, g4, g5, g6⟩ := q
        have nm : m ≠ l := fun z => by subst z; rw [h2] at g2; cases g2
        exact ⟨m, ws, g1, g2, g3.mono sm, by rw [upd_ne nm]; exact g4, g5, g6⟩
  · have ha : a ≠ i := fun z => by
      subst z
      rw [List.getElem?_set_self hlt] at e1; cases e1
    have hb : b ≠ i := fun z => by
      subst z
      rw [List.getElem?_set_self hlt] at e2; cases e2
    rw [List.getElem?_set_ne (Ne.symm ha)] at e1
    rw [List.getElem?_set_ne (Ne.symm hb)] at e2
    exact k.dis a b xs ys m hab e1 e2 e3
theorem Ok.frz {i : Nat} {ds : List D} (k : Ok K F0 H0 bx σ ρ F H B) (e : ρ[i]? = some (.own ds)) : ∃ F', Same F F' ∧ Ok K F0 H0 bx σ (ρ.set i (.d (.list ds))) F' H B := by
  obtain ⟨l, vs, _, h1, h2⟩ := k.frzX e
  exact ⟨_, h1, h2⟩
end

abbrev M (α : Type) := BS → Option (α × BS)
inductive Out where
  | nx (ρ : Env) | ret (d : D) | brk (ρ : Env) | cnt (ρ : Env)
def RS (K : PySem.W.Frag) (bx : BxA) (F H : Hp) (v : V) (d : D) : Prop := Rp K F v d ∨ ∃ l vs ds, v = .ref l ∧ d = .list ds ∧ H l = some (.lst vs) ∧ RpA K F vs ds ∧ ¬ InB bx l
def RSA (K : PySem.W.Frag) (bx : BxA) (F H : Hp) : List V → List D → Prop
  | [], [] => True
  | v :: vs, d :: ds => RS K bx F H v d ∧ RSA K bx F H vs ds
  | _, _ => False
section
variable (K : PySem.W.Frag)
def tD (f : Env → M D) : TE := fun σ H Q => ∃ F0 H0 bx ρ F B d B', f ρ B = some (d, B') ∧ Ok K F0 H0 bx σ ρ F H B ∧ ∀ v F' H', Stp bx F H F' H' → Same F' H' → BoxOk bx H' B' → Rp K F' v d → Q v H'
def tS (f : Env → M D) : TE := fun σ H Q => ∃ F0 H0 bx ρ F B d B', f ρ B = some (d, B') ∧ Ok K F0 H0 bx σ ρ F H B ∧ ∀ v F' H', Stp bx F H F' H' → Same F' H' → BoxOk bx H' B' → RS K bx F' H' v d → Q v H'
def tO (f : Env → M (List D)) : TE := fun σ H Q => ∃ F0 H0 bx ρ F B ds B', f ρ B = some (ds, B') ∧ Ok K F0 H0 bx σ ρ F H B ∧ ∀ p vs F' H', Stp bx F H F' H' → Same F' H' → BoxOk bx H' B' → F' p = none → H p = none → ¬ InB bx p → H' p = some (.lst vs) → RpA K F' vs ds → Q (.ref p) H'
def tT (f : Env → M Bool) : TT := fun σ H Q => ∃ F0 H0 bx ρ F B d B', f ρ B = some (d, B') ∧ Ok K F0 H0 bx σ ρ F H B ∧ ∀ F' H', Stp bx F H F' H' → Same F' H' → BoxOk bx H' B' → Q d H'
def tA (f : Env → M (List D)) : TA := fun σ H Q => ∃ F0 H0 bx ρ F B ds B', f ρ B = some (ds, B') ∧ Ok K F0 H0 bx σ ρ F H B ∧ ∀ vs F' H', Stp bx F H F' H' → Same F' H' → BoxOk bx H' B' → RpA K F' vs ds → Q vs H'
def tAS (f : Env → M (List D)) : TA := fun σ H Q => ∃ F0 H0 bx ρ F B ds B', f ρ B = some (ds, B') ∧ Ok K F0 H0 bx σ ρ F H B ∧ ∀ vs F' H', Stp bx F H F' H' → Same F' H' → BoxOk bx H' B' → RSA K bx F' H' vs ds → Q vs H'
def OutOk (F0 H0 : Hp) (bx : BxA) (F : Hp) (B' : BS) (E : Ends) : Out → Prop
  | .nx ρ => ∀ σ F' H', Same F F' → Ok K F0 H0 bx σ ρ F' H' B' → E.nx σ H'
  | .brk ρ => ∀ σ F' H', Same F F' → Ok K F0 H0 bx σ ρ F' H' B' → E.bk σ H'
  | .cnt ρ => ∀ σ F' H', Same F F' → Ok K F0 H0 bx σ ρ F' H' B' → E.ct σ H'
  | .ret d => ∀ v F' H', Same F F' → Stp bx F0 H0 F' H' → Same F' H' → BoxOk bx H' B' → Rp K F' v d → E.rt v H'
def tSt (g : Env → M Out) : TS := fun E σ H => ∃ F0 H0 bx ρ F B o B', g ρ B = some (o, B') ∧ Ok K F0 H0 bx σ ρ F H B ∧ OutOk K F0 H0 bx F B' E o
end
section
variable {X : Cx}
theorem PE.wk {e : Expr} {t t' : TE} (h : PE X e t) (w : ∀ σ H Q, t' σ H Q → t σ H Q) : PE X e t' := ⟨fun pins s σ H Q I q => h.run pins s σ H Q I (w σ H Q q)⟩
theorem PT.wk {e : Expr} {t t' : TT} (h : PT X e t) (w : ∀ σ H Q, t' σ H Q → t σ H Q) : PT X e t' := ⟨fun pins s σ H Q I q => h.run pins s σ H Q I (w σ H Q q)⟩
theorem PW.wk {e : Expr} {t t' : TT} (h : PW X e t) (w : ∀ σ H Q, t' σ H Q → t σ H Q) : PW X e t' := ⟨fun wh pins s σ H Q I q => h.run wh pins s σ H Q I (w σ H Q q)⟩
theorem PA.wk {e : List Expr} {t t' : TA} (h : PA X e t) (w : ∀ σ H Q, t' σ H Q → t σ H Q) : PA X e t' := ⟨fun pos pins s σ H Q I q => h.run pos pins s σ H Q I (w σ H Q q)⟩
theorem PS.wk {e : Stmt} {t t' : TS} (h : PS X e t) (w : ∀ E σ H, t' E σ H → t E σ H) : PS X e t' := ⟨fun pins s σ H E I q => h.run pins s σ H E I (w E σ H q)⟩
theorem PSs.wk {e : List Stmt} {t t' : TS} (h : PSs X e t) (w : ∀ E σ H, t' E σ H → t E σ H) : PSs X e t' := ⟨fun pins s σ H E I q => h.run pins s σ H E I (w E σ H q)⟩
theorem PI.wk {tg e : Expr} {t t' : TI} (h : PI X tg e t) (w : ∀ σ H R, t' σ H R → t σ H R) : PI X tg e t' := ⟨fun pins s σ H R I q => h.run pins s σ H R I (w σ H R q)⟩
end
section
variable {K : PySem.W.Frag} {bx : BxA} {F H F' H' : Hp}
theorem RS.step {v : V} {d : D} (h : RS K bx F H v d) (s : Stp bx F H F' H') : RS K bx F' H' v d := by
  rcases h with h | ⟨l, vs, ds, rfl, rfl, h1, h2, h3⟩
  · exact .inl (h.mono s.fex)
  · exact .inr ⟨l, vs, ds, rfl, rfl, s.hex _ _ h1 h3, h2.mono s.fex, h3⟩
theorem RS.dp {v : V} {d : D} (h : RS K bx F H v d) (sub : Same F H) : Dp K H v d := by
  rcases h with h | ⟨l, vs, ds, rfl, rfl, h1, h2, h3⟩
  · exact (h.mono sub).dp
  · exact .lst (.of h1) (h2.mono sub).dp
theorem RS.plain {v : V} {d : D} (h : RS K bx F H v d) : d.plain = true := by
  rcases h with h | ⟨l, vs, ds, rfl, rfl, h1, h2, h3⟩
  · exact h.plain
  · simp only [PyData.plain]; exact h2.plain
theorem RSA.step : ∀ {vs : List V} {ds : List D}, RSA K bx F H vs ds → Stp bx F H F' H' → RSA K bx F' H' vs ds
  | [], [], _, _ => trivial
  | _ :: _, _ :: _, h, s => ⟨h.1.step s, RSA.step h.2 s⟩
  | [], _ :: _, h, _ => h.elim
  | _ :: _, [], h, _ => h.elim
theorem RSA.one {vs : List V} {d : D} (h : RSA K bx F H vs [d]) : ∃ v, vs = [v] ∧ RS K bx F H v d := by
  cases vs with
  | nil => exact h.elim
  | cons v r =>
    cases r with
    | nil => exact ⟨v, rfl, h.1⟩
    | cons _ _ => exact h.2.elim
theorem RSA.two {vs : List V} {d e : D} (h : RSA K bx F H vs [d, e]) : ∃ v w, vs = [v, w] ∧ RS K bx F H v d ∧ RS K bx F H w e := by
  cases vs with
  | nil => exact h.elim
  | cons v r =>
    obtain ⟨w, rfl, q⟩ := RSA.one h.2
    exact ⟨v, w, rfl, h.1, q⟩
theorem RS.lst {v : V} {ds : List D} (h : RS K bx F H v (.list ds)) (sub : Same F H) : ∃ l vs, v = .ref l ∧ H l = some (.lst vs) ∧ RpA K F vs ds := by
  rcases h with h | ⟨l, vs, ds', rfl, e, h1, h2, h3⟩
  · cases h with
    | lst h1 h2 => exact ⟨_, _, rfl, sub _ _ h1, h2⟩
  · cases e
    exact ⟨l, vs, rfl, h1, h2⟩
theorem RS.tup {v : V} {ds : List D} (h : RS K bx F H v (.tuple ds)) : ∃ l vs, v = .ref l ∧ SqT K F l vs ∧ RpA K F vs ds := by
  rcases h with h | ⟨l, vs, ds', rfl, e, h1, h2, h3⟩
  · cases h with
    | tup h1 h2 => exact ⟨_, _, rfl, h1, h2⟩
  · cases e
theorem RS.int {v : V} {i : Int} (h : RS K bx F H v (.int i)) : v = .int i := by
  rcases h with h | ⟨l, vs, ds', rfl, e, h1, h2, h3⟩
  · cases h; rfl
  · cases e
theorem RS.str {v : V} {i : Str} (h : RS K bx F H v (.str i)) : v = .str i := by
  rcases h with h | ⟨l, vs, ds', rfl, e, h1, h2, h3⟩
  · cases h; rfl
  · cases e
theorem RS.bool {v : V} {i : Bool} (h : RS K bx F H v (.bool i)) : v = .bl i := by
  rcases h with h | ⟨l, vs, ds', rfl, e, h1, h2, h3⟩
  · cases h; rfl
  · cases e
theorem RS.none {v : V} (h : RS K bx F H v .none) : v = .non := by
  rcases h with h | ⟨l, vs, ds', rfl, e, h1, h2, h3⟩
  · cases h; rfl
  · cases e
end
end DL

namespace DL
open PySem PySem.Spec L2
section
def mb {α β : Type} (m : Option (α × BS)) (k : α → BS → Option β) : Option β := match m with
  | none => none
  | some (a, B) => k a B
@[simp] theorem mb_some {α β : Type} (a : α) (B : BS) (k : α → BS → Option β) : mb (some (a, B)) k = k a B := rfl
@[simp] theorem mb_none {α β : Type} (k : α → BS → Option β) : mb none k = none := rfl
theorem mb_eq {α β : Type} {m : Option (α × BS)} {k : α → BS → Option β} {r : β} (h : mb m k = some r) : ∃ a B, m = some (a, B) ∧ k a B = some r := by
  cases m with
  | none => cases h
  | some p => exact ⟨p.1, p.2, rfl, h⟩
def ob {α β : Type} (m : Option α) (k : α → Option β) : Option β := match m with
  | none => none
  | some a => k a
@[simp] theorem ob_some {α β : Type} (a : α) (k : α → Option β) : ob (some a) k = k a := rfl
@[simp] theorem ob_none {α β : Type} (k : α → Option β) : ob none k = none := rfl
theorem ob_eq {α β : Type} {m : Option α} {k : α → Option β} {r : β} (h : ob m k = some r) : ∃ a, m = some a ∧ k a = some r := by
  cases m with
  | none => cases h
  | some p => exact ⟨p, rfl, h⟩
def gd {β : Type} (c : Bool) (r : Option β) : Option β := if c = true then r else none
@[simp] theorem gd_t {β : Type} (r : Option β) : gd true r = r := rfl
@[simp] theorem gd_f {β : Type} (r : Option β) : gd false r = none := rfl
theorem gd_eq {β : Type} {c : Bool} {r : Option β} {b : β} (h : gd c r = some b) : c = true ∧ r = some b := by
  cases c with
  | true => exact ⟨rfl, h⟩
  | false => cases h

def fVar (i : Nat) : Env → M D := fun ρ B => match ρ[i]? with
  | some (.d x) => some (x, B)
  | _ => none
def fAny (i : Nat) : Env → M D := fun ρ B => match ρ[i]? with
  | some (.d x) => some (x, B)
  | some (.own ds) => some (.list ds, B)
  | _ => none
def fC (d : D) : Env → M D := fun _ B => some (d, B)
def fBin (g : D → D → Option D) (fa fb : Env → M D) : Env → M D := fun ρ B => mb (fa ρ B) fun x B1 => mb (fb ρ B1) fun y B2 => ob (g x y) fun d => some (d, B2)
def fUn (g : D → Option D) (fa : Env → M D) : Env → M D := fun ρ B => mb (fa ρ B) fun x B1 => ob (g x) fun d => some (d, B1)
def tru : D → Option Bool
  | .none => some false
  | .bool b => some b
  | .int i => some (i != 0)
  | .str s => gd (decide (s.length ≤ sizeLine)) (some ((s.length : Int) != 0))
  | .list ds => some (!ds.isEmpty)
  | .tuple ds => some (!ds.isEmpty)
  | .dict _ => none
def fTru (fa : Env → M D) : Env → M Bool := fun ρ B => mb (fa ρ B) fun x B1 => ob (tru x) fun k => some (k, B1)
def bl? : D → Option Bool
  | .bool b => some b
  | _ => none
def fBl (fa : Env → M D) : Env → M Bool := fun ρ B => mb (fa ρ B) fun x B1 => ob (bl? x) fun k => some (k, B1)
def fNotT (ft : Env → M Bool) : Env → M Bool := fun ρ B => mb (ft ρ B) fun c B1 => some (!c, B1)
def fAndT (ft fu : Env → M Bool) : Env → M Bool := fun ρ B => mb (ft ρ B) fun c B1 => bif c then fu ρ B1 else some (false, B1)
def fOrT (ft fu : Env → M Bool) : Env → M Bool := fun ρ B => mb (ft ρ B) fun c B1 => bif c then some (true, B1) else fu ρ B1
def fAndV (fa fb : Env → M D) : Env → M D := fun ρ B => mb (fa ρ B) fun x B1 => ob (tru x) fun k => bif k then fb ρ B1 else some (x, B1)
def fOrV (fa fb : Env → M D) : Env → M D := fun ρ B => mb (fa ρ B) fun x B1 => ob (tru x) fun k => bif k then some (x, B1) else fb ρ B1
def fNotV (fa : Env → M D) : Env → M D := fun ρ B => mb (fa ρ B) fun x B1 => ob (tru x) fun k => some (.bool (!k), B1)
def fIfE (ft : Env → M Bool) (fa fb : Env → M D) : Env → M D := fun ρ B => mb (ft ρ B) fun c B1 => bif c then fa ρ B1 else fb ρ B1
def fNil : Env → M (List D) := fun _ B => some ([], B)
def fCons (fa : Env → M D) (fs : Env → M (List D)) : Env → M (List D) := fun ρ B => mb (fa ρ B) fun x B1 => mb (fs ρ B1) fun xs B2 => some (x :: xs, B2)
def fTup (fs : Env → M (List D)) : Env → M D := fun ρ B => mb (fs ρ B) fun ds B1 => gd (decide (ds.length ≤ 1000)) (some (.tuple ds, B1))
def fLst (fs : Env → M (List D)) : Env → M (List D) := fun ρ B => mb (fs ρ B) fun ds B1 => gd (decide (ds.length ≤ 1000)) (some (ds, B1))
def fFr (f : Env → M (List D)) : Env → M D := fun ρ B => mb (f ρ B) fun ds B1 => some (.list ds, B1)
def fCB (g : List D → Option D) (fs : Env → M (List D)) : Env → M D := fun ρ B => mb (fs ρ B) fun ds B1 => ob (g ds) fun d => some (d, B1)
def fCO (g : List D → Option (List D)) (fs : Env → M (List D)) : Env → M (List D) := fun ρ B => mb (fs ρ B) fun ds B1 => ob (g ds) fun d => some (d, B1)
def fBinO (g : D → D → Option (List D)) (fa fb : Env → M D) : Env → M (List D) := fun ρ B => mb (fa ρ B) fun x B1 => mb (fb ρ B1) fun y B2 => ob (g x y) fun d => some (d, B2)
end

section
variable {X : Cx} {pos : Pos}
theorem se {e : Expr} {f : Env → M D} (h : PE X e (tD X.K f)) : PE X e (tS X.K f) := PE.wk h fun σ H Q ⟨F0, H0, bx, ρ, F, B, d, B', e, k, q⟩ =>
  ⟨F0, H0, bx, ρ, F, B, d, B', e, k, fun v F' H' s sub b r => q v F' H' s sub b (.inl r)⟩
theorem de_o {e : Expr} {f : Env → M (List D)} (h : PE X e (tO X.K f)) : PE X e (tD X.K (fFr f)) := PE.wk h fun σ H Q ⟨F0, H0, bx, ρ, F, B, d, B', e, k, q⟩ => by
  obtain ⟨ds, B1, e1, e2⟩ := mb_eq e
  cases e2
  refine ⟨F0, H0, bx, ρ, F, B, ds, _, e1, k, fun p vs F' H' s sub b h1 h2 h3 h4 h5 => ?_⟩
  have sm : Same F' (upd F' p (.lst vs)) := fun c u z => by rw [upd_ne (ne_of_none z h1)]; exact z
  refine q (.ref p) (upd F' p (.lst vs)) H' ⟨s.fex.trans sm, s.hex, s.hin, fun a z w => ?_⟩ (fun c u z => ?_) b (.lst upd_same (h5.mono sm))
  · by_cases ha : a = p
    · rw [ha]; exact h2
    · rw [upd_ne ha] at z; exact s.new a z w
  · by_cases hc : c = p
    · rw [hc] at z ⊢; rw [upd_same] at z; cases z; exact h4
    · rw [upd_ne hc] at z; exact sub c u z

theorem de_var (i : Nat) {x : Str} (hN : X.N[i]? = some x := by rfl) (hv : Vis X.env.scope x := by first | exact Or.inl rfl | exact Or.inr (Or.inl rfl) | exact Or.inr (Or.inr rfl)) (hd : (x == ("__debug__" : Str)) = false := by decide)
    (hcd : (x == ("__classdict__" : Str)) = false := by decide) : PE X (.Name x pos) (tD X.K (fVar i)) := PE.wk (pe_var hN hv hd hcd) fun σ H Q ⟨F0, H0, bx, ρ, F, B, d, B', e, k, q⟩ => by
  unfold fVar at e
  split at e
  · rename_i x hx
    cases e
    obtain ⟨v, h1, h2⟩ := k.sl i _ hx
    exact ⟨v, h1, q v F H .refl k.sub k.box h2⟩
  · cases e
theorem se_var (i : Nat) {x : Str} (hN : X.N[i]? = some x := by rfl) (hv : Vis X.env.scope x := by first | exact Or.inl rfl | exact Or.inr (Or.inl rfl) | exact Or.inr (Or.inr rfl)) (hd : (x == ("__debug__" : Str)) = false := by decide)
    (hcd : (x == ("__classdict__" : Str)) = false := by decide) : PE X (.Name x pos) (tS X.K (fAny i)) := PE.wk (pe_var hN hv hd hcd) fun σ H Q ⟨F0, H0, bx, ρ, F, B, d, B', e, k, q⟩ => by
  unfold fAny at e
  split at e
  · rename_i x hx
    cases e
    obtain ⟨v, h1, h2⟩ := k.sl i _ hx
    exact ⟨v, h1, q v F H .refl k.sub k.box (.inl h2)⟩
  · rename_i ds hx
    cases e
    obtain ⟨l, vs, h1, h2, h3, h4, h5, h6⟩ := k.sl i _ hx
    exact ⟨.ref l, h1, q (.ref l) F H .refl k.sub k.box (.inr ⟨l, vs, ds, rfl, rfl, h2, h3, h6⟩)⟩
  · cases e
theorem de_c {e : Expr} {v : V} {d : D} (h : PE X e (tC v)) (r : ∀ F, Rp X.K F v d) : PE X e (tD X.K (fC d)) := PE.wk h fun σ H Q ⟨F0, H0, bx, ρ, F, B, d', B', e, k, q⟩ => by
  cases e
  exact q v F H .refl k.sub k.box (r F)
theorem de_int {i : Int} {j} : PE X (.Constant (.int i) j pos) (tD X.K (fC (.int i))) := de_c pe_int fun _ => .int i
theorem de_str {i : Str} {j} : PE X (.Constant (.str i) j pos) (tD X.K (fC (.str i))) := de_c pe_str fun _ => .str i
theorem de_bl {i : Bool} {j} : PE X (.Constant (.bool i) j pos) (tD X.K (fC (.bool i))) := de_c pe_bl fun _ => .bl i
theorem de_non {j} : PE X (.Constant .none j pos) (tD X.K (fC .none)) := de_c pe_non fun _ => .non

def rOp (K : PySem.W.Frag) (g : D → D → Option D) : R2 := fun v u H Q => ∃ bx F x y d, Same F H ∧ RS K bx F H v x ∧ RS K bx F H u y ∧ g x y = some d ∧ ∀ w F' H', Stp none F H F' H' → Same F' H' → Rp K F' w d → Q w H'
def OpD (X : Cx) (f : Value → Value → Sem Value) (g : D → D → Option D) : Prop := OpR X f (rOp X.K g)
theorem two_go {K : PySem.W.Frag} {g : D → D → Option D} {fa fb : Env → M D} {σ : L2.St} {H : Hp} {Q : VK} (h : tD K (fBin g fa fb) σ H Q) : tOp (rOp K g) (tS K fa) (tS K fb) σ H Q := by
  obtain ⟨F0, H0, bx, ρ, F, B, d, B', e, k, q⟩ := h
  obtain ⟨x, B1, e1, e2⟩ := mb_eq e
  obtain ⟨y, B2, e3, e4⟩ := mb_eq e2
  obtain ⟨z, e5, e6⟩ := ob_eq e4
  cases e6
  refine ⟨F0, H0, bx, ρ, F, B, x, B1, e1, k, fun v F1 H1 s1 sub1 b1 r1 => ?_⟩
  have k1 := k.step s1 sub1 b1
  refine ⟨F0, H0, bx, ρ, F1, B1, y, _, e3, k1, fun u F2 H2 s2 sub2 b2 r2 => ?_⟩
  refine ⟨bx, F2, x, y, d, sub2, r1.step s2, r2, e5, fun w F3 H3 s3 sub3 r3 => ?_⟩
  exact q w F3 H3 (s1.trans (s2.trans s3.of_none)) sub3 (b2.step s3.same) r3
variable {a b : Expr} {fa fb : Env → M D}
theorem de_bin {op : Operator} {g : D → D → Option D} (ho : OpD X (binaryOp op) g) (ha : PE X a (tS X.K fa)) (hb : PE X b (tS X.K fb)) : PE X (.BinOp a op b pos) (tD X.K (fBin g fa fb)) := PE.wk (pe_op ho ha hb) fun _ _ _ h => two_go h
theorem de_cmp {op : CmpOp} {g : D → D → Option D} (ho : OpD X (compareOp op) g) (ha : PE X a (tS X.K fa)) (hb : PE X b (tS X.K fb)) (hm : behindInMarks op b = false := by first | exact nobehind _ (by decide) (by decide) | rfl) : PE X (.Compare a [op] [b] pos) (tD X.K (fBin g fa fb)) := PE.wk (pe_cmpR ho ha hb hm) fun _ _ _ h => two_go h
theorem dt_cmp {op : CmpOp} {g : D → D → Option D} (ho : OpD X (compareOp op) g) (ha : PE X a (tS X.K fa)) (hb : PE X b (tS X.K fb)) (hm : behindInMarks op b = false := by first | exact nobehind _ (by decide) (by decide) | rfl) : PT X (.Compare a [op] [b] pos) (tT X.K (fBl (fBin g fa fb))) := PT.wk (pt_cmpR ho ha hb hm) fun σ H Q ⟨F0, H0, bx, ρ, F, B, d, B', e, k, q⟩ => by
  obtain ⟨x, B1, e1, e2⟩ := mb_eq e
  obtain ⟨c, e3, e4⟩ := ob_eq e2
  cases e4
  refine two_go ⟨F0, H0, bx, ρ, F, B, x, _, e1, k, fun v F' H' s sub b r => ?_⟩
  cases x <;> simp only [bl?] at e3 <;> cases e3
  cases r
  exact ⟨_, rfl, q F' H' s sub b⟩
def rUn (K : PySem.W.Frag) (g : D → Option D) : V → Hp → VK → Prop := fun v H Q => ∃ bx F x d, Same F H ∧ RS K bx F H v x ∧ g x = some d ∧ ∀ w F' H', Stp none F H F' H' → Same F' H' → Rp K F' w d → Q w H'
def UnD (X : Cx) (f : Value → Sem Value) (g : D → Option D) : Prop := UnR X f (rUn X.K g)
theorem de_un {op : UnaryOp} {g : D → Option D} (ho : UnD X (unaryOp op) g) (ha : PE X a (tS X.K fa)) : PE X (.UnaryOp op a pos) (tD X.K (fUn g fa)) := PE.wk (pe_un ho ha) fun σ H Q ⟨F0, H0, bx, ρ, F, B, d, B', e, k, q⟩ => by
  obtain ⟨x, B1, e1, e2⟩ := mb_eq e
  obtain ⟨z, e5, e6⟩ := ob_eq e2
  cases e6
  refine ⟨F0, H0, bx, ρ, F, B, x, _, e1, k, fun v F1 H1 s1 sub1 b1 r1 => ⟨bx, F1, x, d, sub1, r1, e5, fun w F3 H3 s3 sub3 r3 => ?_⟩⟩
  exact q w F3 H3 (s1.trans s3.of_none) sub3 (b1.step s3.same) r3
theorem de_ix {g : D → D → Option D} (ho : IxR X (rOp X.K g)) (ha : PE X a (tS X.K fa)) (hb : PE X b (tS X.K fb)) (hs : PlainIx b := by intro _ _; rfl) : PE X (.Subscript a b pos) (tD X.K (fBin g fa fb)) := PE.wk (pe_ix ho ha hb hs) fun _ _ _ h => two_go h

theorem tru_ok {K : PySem.W.Frag} {bx : BxA} {F H : Hp} {v : V} {d : D} {k : Bool} (r : RS K bx F H v d) (sub : Same F H) (e : tru d = some k) : TruV K v H k := by
  cases d with
  | none => cases r.none; cases e; rfl
  | bool b => cases r.bool; cases e; rfl
  | int i => cases r.int; cases e; rfl
  | str x =>
    cases r.str
    obtain ⟨h1, h2⟩ := gd_eq e
    cases h2
    exact ⟨of_decide_eq_true h1, rfl⟩
  | list ds =>
    obtain ⟨l, vs, rfl, h1, h2⟩ := r.lst sub
    cases e
    refine .inl ⟨vs, .of h1, ?_⟩
    cases h2 <;> rfl
  | tuple ds =>
    obtain ⟨l, vs, rfl, h1, h2⟩ := r.tup
    cases e
    refine .inr (.inl ⟨vs, sqt_mono sub h1, ?_⟩)
    cases h2 <;> rfl
  | dict _ => cases e
theorem dt_tru (ha : PE X a (tS X.K fa)) (he : ∀ whole, isTrue a X.env whole = (do let v ← whole; standAt a.pos; holding [v] (truthy v)) := by intro _; rfl) : PT X a (tT X.K (fTru fa)) := PT.wk (pt_truth ha he) fun σ H Q ⟨F0, H0, bx, ρ, F, B, d, B', e, k, q⟩ => by
  obtain ⟨x, B1, e1, e2⟩ := mb_eq e
  obtain ⟨z, e5, e6⟩ := ob_eq e2
  cases e6
  exact ⟨F0, H0, bx, ρ, F, B, x, _, e1, k, fun v F1 H1 s1 sub1 b1 r1 => ⟨_, tru_ok r1 sub1 e5, q F1 H1 s1 sub1 b1⟩⟩
variable {ft fu : Env → M Bool} {rest : List Expr}
theorem dt_not (ha : PT X a (tT X.K ft)) : PT X (.UnaryOp .Not a pos) (tT X.K (fNotT ft)) := PT.wk (pt_not ha) fun σ H Q ⟨F0, H0, bx, ρ, F, B, d, B', e, k, q⟩ => by
  obtain ⟨x, B1, e1, e2⟩ := mb_eq e
  cases e2
  exact ⟨F0, H0, bx, ρ, F, B, x, _, e1, k, fun F1 H1 s1 sub1 b1 => q F1 H1 s1 sub1 b1⟩
theorem and_go {K : PySem.W.Frag} {σ : L2.St} {H : Hp} {Q : Bool → Hp → Prop} (h : tT K (fAndT ft fu) σ H Q) : tAnd (tT K ft) (tT K fu) σ H Q := by
  obtain ⟨F0, H0, bx, ρ, F, B, d, B', e, k, q⟩ := h
  obtain ⟨c, B1, e1, e2⟩ := mb_eq e
  refine ⟨F0, H0, bx, ρ, F, B, c, B1, e1, k, fun F1 H1 s1 sub1 b1 => ?_⟩
  cases c with
  | true =>
    rw [if_pos rfl]
    exact ⟨F0, H0, bx, ρ, F1, B1, d, B', e2, k.step s1 sub1 b1, fun F2 H2 s2 sub2 b2 => q F2 H2 (s1.trans s2) sub2 b2⟩
  | false =>
    rw [if_neg Bool.false_ne_true]
    cases e2
    exact q F1 H1 s1 sub1 b1
theorem or_go {K : PySem.W.Frag} {σ : L2.St} {H : Hp} {Q : Bool → Hp → Prop} (h : tT K (fOrT ft fu) σ H Q) : tOr (tT K ft) (tT K fu) σ H Q := by
  obtain ⟨F0, H0, bx, ρ, F, B, d, B', e, k, q⟩ := h
  obtain ⟨c, B1, e1, e2⟩ := mb_eq e
  refine ⟨F0, H0, bx, ρ, F, B, c, B1, e1, k, fun F1 H1 s1 sub1 b1 => ?_⟩
  cases c with
  | false =>
    rw [if_neg Bool.false_ne_true]
    exact ⟨F0, H0, bx, ρ, F1, B1, d, B', e2, k.step s1 sub1 b1, fun F2 H2 s2 sub2 b2 => q F2 H2 (s1.trans s2) sub2 b2⟩
  | true =>
    rw [if_pos rfl]
    cases e2
    exact q F1 H1 s1 sub1 b1
theorem dw_and1 (ha : PT X a (tT X.K ft)) : PW X (.BoolOp .And [a] pos) (tT X.K ft) := pw_and1 ha
theorem dw_or1 (ha : PT X a (tT X.K ft)) : PW X (.BoolOp .Or [a] pos) (tT X.K ft) := pw_or1 ha
theorem dw_and (ha : PT X a (tT X.K ft)) (hb : PW X (.BoolOp .And (b :: rest) pos) (tT X.K fu)) : PW X (.BoolOp .And (a :: b :: rest) pos) (tT X.K (fAndT ft fu)) := PW.wk (pw_and ha hb) fun _ _ _ h => and_go h
theorem dw_or (ha : PT X a (tT X.K ft)) (hb : PW X (.BoolOp .Or (b :: rest) pos) (tT X.K fu)) : PW X (.BoolOp .Or (a :: b :: rest) pos) (tT X.K (fOrT ft fu)) := PW.wk (pw_or ha hb) fun _ _ _ h => or_go h
theorem de_one {op} (ha : PE X a (tD X.K fa)) : PE X (.BoolOp op [a] pos) (tD X.K fa) := pe_one ha
theorem de_and (ha : PE X a (tD X.K fa)) (hb : PE X (.BoolOp .And (b :: rest) pos) (tD X.K fb)) : PE X (.BoolOp .And (a :: b :: rest) pos) (tD X.K (fAndV fa fb)) := PE.wk (pe_andT ha hb) fun σ H Q ⟨F0, H0, bx, ρ, F, B, d, B', e, k, q⟩ => by
  obtain ⟨x, B1, e1, e2⟩ := mb_eq e
  obtain ⟨c, e3, e4⟩ := ob_eq e2
  refine ⟨F0, H0, bx, ρ, F, B, x, B1, e1, k, fun v F1 H1 s1 sub1 b1 r1 => ⟨c, tru_ok (bx := bx) (.inl r1) sub1 e3, ?_⟩⟩
  cases c with
  | true =>
    rw [if_pos rfl]
    exact ⟨F0, H0, bx, ρ, F1, B1, d, B', e4, k.step s1 sub1 b1, fun w F2 H2 s2 sub2 b2 => q w F2 H2 (s1.trans s2) sub2 b2⟩
  | false =>
    rw [if_neg Bool.false_ne_true]
    cases e4
    exact q v F1 H1 s1 sub1 b1 r1
theorem de_or (ha : PE X a (tD X.K fa)) (hb : PE X (.BoolOp .Or (b :: rest) pos) (tD X.K fb)) : PE X (.BoolOp .Or (a :: b :: rest) pos) (tD X.K (fOrV fa fb)) := PE.wk (pe_orT ha hb) fun σ H Q ⟨F0, H0, bx, ρ, F, B, d, B', e, k, q⟩ => by
  obtain ⟨x, B1, e1, e2⟩ := mb_eq e
  obtain ⟨c, e3, e4⟩ := ob_eq e2
  refine ⟨F0, H0, bx, ρ, F, B, x, B1, e1, k, fun v F1 H1 s1 sub1 b1 r1 => ⟨c, tru_ok (bx := bx) (.inl r1) sub1 e3, ?_⟩⟩
  cases c with
  | false =>
    rw [if_neg Bool.false_ne_true]
    exact ⟨F0, H0, bx, ρ, F1, B1, d, B', e4, k.step s1 sub1 b1, fun w F2 H2 s2 sub2 b2 => q w F2 H2 (s1.trans s2) sub2 b2⟩
  | true =>
    rw [if_pos rfl]
    cases e4
    exact q v F1 H1 s1 sub1 b1 r1
theorem de_not (ha : PE X a (tS X.K fa)) : PE X (.UnaryOp .Not a pos) (tD X.K (fNotV fa)) := PE.wk (pe_notT ha) fun σ H Q ⟨F0, H0, bx, ρ, F, B, d, B', e, k, q⟩ => by
  obtain ⟨x, B1, e1, e2⟩ := mb_eq e
  obtain ⟨c, e3, e4⟩ := ob_eq e2
  cases e4
  exact ⟨F0, H0, bx, ρ, F, B, x, _, e1, k, fun v F1 H1 s1 sub1 b1 r1 => ⟨c, tru_ok r1 sub1 e3, q _ F1 H1 s1 sub1 b1 (.bl _)⟩⟩
theorem de_if {c : Expr} (hc : PT X c (tT X.K ft)) (ha : PE X a (tD X.K fa)) (hb : PE X b (tD X.K fb)) : PE X (.IfExp c a b pos) (tD X.K (fIfE ft fa fb)) := PE.wk (pe_ifExp hc ha hb) fun σ H Q ⟨F0, H0, bx, ρ, F, B, d, B', e, k, q⟩ => by
  obtain ⟨c, B1, e1, e2⟩ := mb_eq e
  refine ⟨F0, H0, bx, ρ, F, B, c, B1, e1, k, fun F1 H1 s1 sub1 b1 => ?_⟩
  cases c with
  | true =>
    rw [if_pos rfl]
    exact ⟨F0, H0, bx, ρ, F1, B1, d, B', e2, k.step s1 sub1 b1, fun w F2 H2 s2 sub2 b2 => q w F2 H2 (s1.trans s2) sub2 b2⟩
  | false =>
    rw [if_neg Bool.false_ne_true]
    exact ⟨F0, H0, bx, ρ, F1, B1, d, B', e2, k.step s1 sub1 b1, fun w F2 H2 s2 sub2 b2 => q w F2 H2 (s1.trans s2) sub2 b2⟩

variable {fs : Env → M (List D)} {es : List Expr}
theorem da_nil : PA X [] (tA X.K fNil) := PA.wk pa_nil fun σ H Q ⟨F0, H0, bx, ρ, F, B, d, B', e, k, q⟩ => by
  cases e
  exact q [] F H .refl k.sub k.box .nil
theorem da_cons (ha : PE X a (tD X.K fa)) (hr : PA X es (tA X.K fs)) (hs : starEach (a :: es) X.env = (false, eval a X.env) :: starEach es X.env := by rfl) : PA X (a :: es) (tA X.K (fCons fa fs)) := PA.wk (pa_cons ha hr hs) fun σ H Q ⟨F0, H0, bx, ρ, F, B, d, B', e, k, q⟩ => by
  obtain ⟨x, B1, e1, e2⟩ := mb_eq e
  obtain ⟨xs, B2, e3, e4⟩ := mb_eq e2
  cases e4
  exact ⟨F0, H0, bx, ρ, F, B, x, B1, e1, k, fun v F1 H1 s1 sub1 b1 r1 => ⟨F0, H0, bx, ρ, F1, B1, xs, _, e3, k.step s1 sub1 b1, fun vs F2 H2 s2 sub2 b2 r2 => q (v :: vs) F2 H2 (s1.trans s2) sub2 b2 (.cons (r1.mono s2.fex) r2)⟩⟩
theorem das_nil : PA X [] (tAS X.K fNil) := PA.wk pa_nil fun σ H Q ⟨F0, H0, bx, ρ, F, B, d, B', e, k, q⟩ => by
  cases e
  exact q [] F H .refl k.sub k.box trivial
theorem das_cons (ha : PE X a (tS X.K fa)) (hr : PA X es (tAS X.K fs)) (hs : starEach (a :: es) X.env = (false, eval a X.env) :: starEach es X.env := by rfl) : PA X (a :: es) (tAS X.K (fCons fa fs)) := PA.wk (pa_cons ha hr hs) fun σ H Q ⟨F0, H0, bx, ρ, F, B, d, B', e, k, q⟩ => by
  obtain ⟨x, B1, e1, e2⟩ := mb_eq e
  obtain ⟨xs, B2, e3, e4⟩ := mb_eq e2
  cases e4
  exact ⟨F0, H0, bx, ρ, F, B, x, B1, e1, k, fun v F1 H1 s1 sub1 b1 r1 => ⟨F0, H0, bx, ρ, F1, B1, xs, _, e3, k.step s1 sub1 b1, fun vs F2 H2 s2 sub2 b2 r2 => q (v :: vs) F2 H2 (s1.trans s2) sub2 b2 ⟨r1.step s2, r2⟩⟩⟩
theorem thousand {n : Nat} (h : decide (n ≤ 1000) = true) : n ≤ sizeLine := Nat.le_of_lt (small1000 (of_decide_eq_true h))
theorem de_tup {k1} (h : PA X es (tA X.K fs)) : PE X (.Tuple es k1 pos) (tD X.K (fTup fs)) := PE.wk (pe_tup h) fun σ H Q ⟨F0, H0, bx, ρ, F, B, d, B', e, k, q⟩ => by
  obtain ⟨ds, B1, e1, e2⟩ := mb_eq e
  obtain ⟨h1, h2⟩ := gd_eq e2
  cases h2
  refine ⟨F0, H0, bx, ρ, F, B, ds, _, e1, k, fun vs F1 H1 s1 sub1 b1 r1 => ⟨by rw [r1.length]; exact thousand h1, fun p hp => ?_⟩⟩
  have sm : Same F1 (upd F1 p (.tup vs)) := (Stp.laid (bx := none) hp sub1).fex
  exact q (.ref p) _ _ (s1.trans (.laid hp sub1)) (same_laid sub1) (b1.laid hp) (.tup (.of upd_same) (r1.mono sm))
theorem lay_o {K : PySem.W.Frag} {bx : BxA} {F H F1 H1 : Hp} {B : BS} {vs : List V} {ds : List D} {Q : VK} (s1 : Stp bx F H F1 H1) (sub1 : Same F1 H1) (b1 : BoxOk bx H1 B) (r : RpA K F1 vs ds)
    (q : ∀ p vs F' H', Stp bx F H F' H' → Same F' H' → BoxOk bx H' B → F' p = none → H p = none → ¬ InB bx p → H' p = some (.lst vs) → RpA K F' vs ds → Q (.ref p) H') : ∀ p, H1 p = none → Q (.ref p) (upd H1 p (.lst vs)) := fun p hp => by
  have f1 : F1 p = none := by
    cases z : F1 p with
    | none => rfl
    | some o => rw [sub1 p o z] at hp; cases hp
  refine q p vs F1 _ (s1.trans (.own hp)) (fun c u z => ?_) (b1.laid hp) f1 ?_ (fun i => b1.there i hp) upd_same r
  · rw [upd_ne (ne_of_none z f1)]; exact sub1 c u z
  · by_cases z : H p = none
    · exact z
    · exact absurd hp (s1.hin p z)
theorem oe_lst (h : PA X es (tA X.K fs)) : PE X (.List es pos) (tO X.K (fLst fs)) := PE.wk (pe_lst h) fun σ H Q ⟨F0, H0, bx, ρ, F, B, d, B', e, k, q⟩ => by
  obtain ⟨ds, B1, e1, e2⟩ := mb_eq e
  obtain ⟨h1, h2⟩ := gd_eq e2
  cases h2
  exact ⟨F0, H0, bx, ρ, F, B, d, _, e1, k, fun vs F1 H1 s1 sub1 b1 r1 => ⟨by rw [r1.length]; exact thousand h1, lay_o s1 sub1 b1 r1 q⟩⟩

def rC (K : PySem.W.Frag) (g : List D → Option D) : List V → Hp → VK → Prop := fun vs H Q => ∃ bx F ds d, Same F H ∧ RSA K bx F H vs ds ∧ g ds = some d ∧ ∀ w F' H', Stp none F H F' H' → Same F' H' → Rp K F' w d → Q w H'
def CalD (X : Cx) (f : Value) (g : List D → Option D) : Prop := CallR X f (rC X.K g)
def rCO (K : PySem.W.Frag) (g : List D → Option (List D)) : List V → Hp → VK → Prop := fun vs H Q => ∃ bx F ds d, Same F H ∧ RSA K bx F H vs ds ∧ g ds = some d ∧ ∀ p ws F' H', Stp none F H F' H' → Same F' H' → F' p = none → H p = none → H' p = some (.lst ws) → RpA K F' ws d → Q (.ref p) H'
def CalO (X : Cx) (f : Value) (g : List D → Option (List D)) : Prop := CallR X f (rCO X.K g)
theorem cal_go {K : PySem.W.Frag} {g : List D → Option D} {σ : L2.St} {H : Hp} {Q : VK} (h : tD K (fCB g fs) σ H Q) : tCB (rC K g) (tAS K fs) σ H Q := by
  obtain ⟨F0, H0, bx, ρ, F, B, d, B', e, k, q⟩ := h
  obtain ⟨ds, B1, e1, e2⟩ := mb_eq e
  obtain ⟨z, e3, e4⟩ := ob_eq e2
  cases e4
  exact ⟨F0, H0, bx, ρ, F, B, ds, _, e1, k, fun vs F1 H1 s1 sub1 b1 r1 => ⟨bx, F1, ds, d, sub1, r1, e3, fun w F' H' s sub r => q w F' H' (s1.trans s.of_none) sub (b1.step s.same) r⟩⟩
theorem calO_go {K : PySem.W.Frag} {g : List D → Option (List D)} {σ : L2.St} {H : Hp} {Q : VK} (h : tO K (fCO g fs) σ H Q) : tCB (rCO K g) (tAS K fs) σ H Q := by
  obtain ⟨F0, H0, bx, ρ, F, B, d, B', e, k, q⟩ := h
  obtain ⟨ds, B1, e1, e2⟩ := mb_eq e
  obtain ⟨z, e3, e4⟩ := ob_eq e2
  cases e4
  refine ⟨F0, H0, bx, ρ, F, B, ds, _, e1, k, fun vs F1 H1 s1 sub1 b1 r1 => ⟨bx, F1, ds, d, sub1, r1, e3, fun p ws F' H' s sub h1 h2 h3 r => q p ws F' H' (s1.trans s.of_none) sub (b1.step s.same) h1 ?_ ?_ h3 r⟩⟩
  · by_cases z : H p = none
    · exact z
    · exact absurd h2 (s1.hin p z)
  · exact fun i => b1.there i h2
variable {x : Str} {p : Pos}
theorem de_cb {id : String} {g : List D → Option D} (hc : CalD X (.builtin id) g) (hg : Gl X x) (hm : X.mg x = none) (hv : bootBuiltins x = some (.builtin id)) (ha : PA X (a :: es) (tAS X.K fs)) (hn : x ≠ "__name__" := by decide) (hd : (x == ("__debug__" : Str)) = false := by decide)
    (he : starEach (a :: es) X.env = (false, eval a X.env) :: starEach es X.env := by rfl) (hpl : (backTo pos (starEach es X.env)).any (·.1) = false := by rfl) : PE X (.Call (.Name x p) (a :: es) [] pos) (tD X.K (fCB g fs)) :=
  PE.wk (pe_callB hc hg hm hv ha hn hd he hpl) fun _ _ _ h => cal_go h
theorem de_ct {T : String} {g : List D → Option D} (hc : CalD X (.type T) g) (hg : Gl X x) (hm : X.mg x = none) (hv : bootBuiltins x = some (.type T)) (ha : PA X (a :: es) (tAS X.K fs)) (hn : x ≠ "__name__" := by decide) (hd : (x == ("__debug__" : Str)) = false := by decide)
    (he : starEach (a :: es) X.env = (false, eval a X.env) :: starEach es X.env := by rfl) (hpl : (backTo pos (starEach es X.env)).any (·.1) = false := by rfl) : PE X (.Call (.Name x p) (a :: es) [] pos) (tD X.K (fCB g fs)) :=
  PE.wk (pe_callTy hc hg hm hv ha hn hd he hpl) fun _ _ _ h => cal_go h
theorem oe_cb {id : String} {g : List D → Option (List D)} (hc : CalO X (.builtin id) g) (hg : Gl X x) (hm : X.mg x = none) (hv : bootBuiltins x = some (.builtin id)) (ha : PA X (a :: es) (tAS X.K fs)) (hn : x ≠ "__name__" := by decide) (hd : (x == ("__debug__" : Str)) = false := by decide)
    (he : starEach (a :: es) X.env = (false, eval a X.env) :: starEach es X.env := by rfl) (hpl : (backTo pos (starEach es X.env)).any (·.1) = false := by rfl) : PE X (.Call (.Name x p) (a :: es) [] pos) (tO X.K (fCO g fs)) :=
  PE.wk (pe_callB hc hg hm hv ha hn hd he hpl) fun _ _ _ h => calO_go h
theorem oe_ct {T : String} {g : List D → Option (List D)} (hc : CalO X (.type T) g) (hg : Gl X x) (hm : X.mg x = none) (hv : bootBuiltins x = some (.type T)) (ha : PA X (a :: es) (tAS X.K fs)) (hn : x ≠ "__name__" := by decide) (hd : (x == ("__debug__" : Str)) = false := by decide)
    (he : starEach (a :: es) X.env = (false, eval a X.env) :: starEach es X.env := by rfl) (hpl : (backTo pos (starEach es X.env)).any (·.1) = false := by rfl) : PE X (.Call (.Name x p) (a :: es) [] pos) (tO X.K (fCO g fs)) :=
  PE.wk (pe_callTy hc hg hm hv ha hn hd he hpl) fun _ _ _ h => calO_go h
end
end DL

namespace DL
open PySem PySem.Spec L2
theorem wipe_set (x : Option V) : ∀ (vs : List Nat) (σ : L2.St) (i : Nat), i ∈ vs → wipe (σ.set i x) vs = wipe σ vs
  | [], _, _, h => nomatch h
  | v :: vs, σ, i, h => by
    show (wipe (σ.set i x) vs).set v none = (wipe σ vs).set v none
    by_cases hv : i ∈ vs
    · rw [wipe_set x vs σ i hv]
    · have hi : i = v := by
        rcases List.mem_cons.mp h with z | z
        · exact z
        · exact absurd z hv
      subst hi
      have sw : ∀ (ws : List Nat), i ∉ ws → wipe (σ.set i x) ws = (wipe σ ws).set i x := fun ws => by
        induction ws with
        | nil => intro _; rfl
        | cons w ws ih =>
          intro hw
          show (wipe (σ.set i x) ws).set w none = ((wipe σ ws).set w none).set i x
          rw [ih (fun z => hw (List.mem_cons_of_mem _ z))]
          exact List.set_comm _ _ (fun z => hw (by rw [z]; exact List.mem_cons_self))
      rw [sw vs hv, List.set_set]
theorem wipe_get (i : Nat) : ∀ (vs : List Nat) (σ : L2.St), i ∈ vs → (wipe σ vs)[i]? = none ∨ (wipe σ vs)[i]? = some none
  | [], _, h => nomatch h
  | v :: vs, σ, h => by
    show ((wipe σ vs).set v none)[i]? = none ∨ ((wipe σ vs).set v none)[i]? = some none
    by_cases hv : i = v
    · subst hv
      by_cases hl : i < (wipe σ vs).length
      · exact .inr (List.getElem?_set_self hl)
      · exact .inl (by rw [List.getElem?_eq_none_iff, List.length_set]; omega)
    · rw [List.getElem?_set_ne (Ne.symm hv)]
      exact wipe_get i vs σ ((List.mem_cons.mp h).resolve_left hv)
theorem wipe_wipe (vs : List Nat) (σ : L2.St) : ∀ ws : List Nat, (∀ i ∈ ws, i ∈ vs) → wipe (wipe σ vs) ws = wipe σ vs
  | [], _ => rfl
  | w :: ws, h => by
    show (wipe (wipe σ vs) ws).set w none = wipe σ vs
    rw [wipe_wipe vs σ ws (fun i hi => h i (List.mem_cons_of_mem _ hi))]
    rcases wipe_get w vs σ (h w List.mem_cons_self) with z | z
    · exact List.set_eq_of_length_le (List.getElem?_eq_none_iff.mp z)
    · obtain ⟨hl, e⟩ := List.getElem?_eq_some_iff.mp z
      exact List.ext_getElem? fun j => by
        by_cases hj : j = w
        · subst hj; rw [List.getElem?_set_self hl, z]
        · rw [List.getElem?_set_ne (Ne.symm hj)]
def SetsAt (idx : List Nat) (σ σ' : L2.St) : Prop := ∀ vs : List Nat, (∀ i ∈ idx, i ∈ vs) → wipe σ' vs = wipe σ vs
def tG (K : PySem.W.Frag) (idx : List Nat) (g : D → Env → Option Env) : TG := fun v σ H Q => ∃ F0 H0 bx ρ F B d ρ', Ok K F0 H0 bx σ ρ F H B ∧ Rp K F v d ∧ g d ρ = some ρ' ∧ ∀ σ', Ok K F0 H0 bx σ' ρ' F H B → SetsAt idx σ σ' → Q σ' H
def tGs (K : PySem.W.Frag) (idx : List Nat) (g : List D → Env → Option Env) : TGs := fun vs σ H Q => ∃ F0 H0 bx ρ F B ds ρ', Ok K F0 H0 bx σ ρ F H B ∧ RpA K F vs ds ∧ g ds ρ = some ρ' ∧ ∀ σ', Ok K F0 H0 bx σ' ρ' F H B → SetsAt idx σ σ' → Q σ' H
def gSet (i : Nat) : D → Env → Option Env := fun d ρ => some (ρ.set i (.d d))
def gsNil : List D → Env → Option Env := fun ds ρ => match ds with
  | [] => some ρ
  | _ => none
def gsCons (g : D → Env → Option Env) (gs : List D → Env → Option Env) : List D → Env → Option Env := fun ds ρ => match ds with
  | d :: ds => ob (g d ρ) fun ρ1 => gs ds ρ1
  | _ => none
def gTupD (gs : List D → Env → Option Env) : D → Env → Option Env := fun d ρ => match d with
  | .tuple ds => gs ds ρ
  | _ => none
section
variable {X : Cx} {pos : Pos}
theorem PG.wk {e : Expr} {t t' : TG} (h : PG X e t) (w : ∀ v σ H Q, t' v σ H Q → t v σ H Q) : PG X e t' := ⟨fun pins s σ H v u Q I r q => h.run pins s σ H v u Q I r (w v σ H Q q)⟩
theorem PGs.wk {e : List Expr} {t t' : TGs} (h : PGs X e t) (w : ∀ v σ H Q, t' v σ H Q → t v σ H Q) : PGs X e t' := ⟨fun pins s σ H v u Q I r q => h.run pins s σ H v u Q I r (w v σ H Q q)⟩
theorem dg_name (i : Nat) {x : Str} (hN : X.N.Nodup) (hi : X.N[i]? = some x := by rfl) (hx : Loc X.env.scope x := by first | exact Or.inl rfl | exact Or.inr rfl) (hf : X.fn x = true ∨ X.env.scope.names.lookup x = some .local := by first | exact .inl rfl | exact .inr rfl | assumption) : PG X (.Name x pos) (tG X.K [i] (gSet i)) :=
  PG.wk (pg_name hN hi hx hf) fun v σ H Q ⟨F0, H0, bx, ρ, F, B, d, ρ', k, r, e, q⟩ => by
    cases e
    exact q _ (k.setD r) fun vs h => wipe_set _ vs σ i (h i (by simp))
theorem dgs_nil : PGs X [] (tGs X.K [] gsNil) := PGs.wk pgs_nil fun v σ H Q ⟨F0, H0, bx, ρ, F, B, d, ρ', k, r, e, q⟩ => by
  cases r with
  | nil => cases e; exact ⟨rfl, q _ k fun _ _ => rfl⟩
  | cons _ _ => cases e
theorem dgs_cons {e : Expr} {es : List Expr} {ix iy : List Nat} {g : D → Env → Option Env} {gs : List D → Env → Option Env} (h1 : PG X e (tG X.K ix g)) (h2 : PGs X es (tGs X.K iy gs)) (hs : (assignEach (e :: es) X.env).map (·.2) = assign e X.env :: (assignEach es X.env).map (·.2) := by rfl) : PGs X (e :: es) (tGs X.K (ix ++ iy) (gsCons g gs)) :=
  PGs.wk (pgs_cons h1 h2 hs) fun v σ H Q ⟨F0, H0, bx, ρ, F, B, d, ρ', k, r, e, q⟩ => by
    cases r with
    | nil => cases e
    | cons r1 r2 =>
      obtain ⟨ρ1, e1, e2⟩ := ob_eq e
      refine ⟨_, _, rfl, F0, H0, bx, ρ, F, B, _, ρ1, k, r1, e1, fun σ1 k1 s1 => ⟨F0, H0, bx, ρ1, F, B, _, ρ', k1, r2, e2, fun σ2 k2 s2 => q σ2 k2 fun vs h => ?_⟩⟩
      rw [s2 vs (fun i hi => h i (List.mem_append_right _ hi)), s1 vs (fun i hi => h i (List.mem_append_left _ hi))]
theorem rpa_len {K : PySem.W.Frag} {F : Hp} {vs : List V} {ds : List D} (h : RpA K F vs ds) : vs.length = ds.length := h.length
theorem dg_tup {es : List Expr} {k : Nat} {ix : List Nat} {gs : List D → Env → Option Env} {n : Nat} (hc : X.calm = true) (h : PGs X es (tGs X.K ix gs)) (hl : ∀ ds ρ ρ', gs ds ρ = some ρ' → ds.length = n)
    (hn : (assignEach es X.env).length = n := by rfl) (hst : (assignEach es X.env).findIdx? (·.1) = none := by rfl) : PG X (.Tuple es k pos) (tG X.K ix (gTupD gs)) :=
  PG.wk (pg_tup hc h hn hst) fun v σ H Q ⟨F0, H0, bx, ρ, F, B, d, ρ', k, r, e, q⟩ => by
    cases d with
    | tuple ds =>
      cases r with
      | tup h1 h2 => exact ⟨_, _, rfl, sqt_mono k.sub h1, by rw [h2.length]; exact hl ds ρ ρ' e, F0, H0, bx, ρ, F, B, ds, ρ', k, h2, e, q⟩
    | _ => cases e
end
theorem gl_nil : ∀ (ds : List D) (ρ ρ' : Env), gsNil ds ρ = some ρ' → ds.length = 0
  | [], _, _, _ => rfl
  | _ :: _, _, _, h => by cases h
theorem gl_cons {g : D → Env → Option Env} {gs : List D → Env → Option Env} {n : Nat} (h : ∀ (ds : List D) (ρ ρ' : Env), gs ds ρ = some ρ' → ds.length = n) : ∀ (ds : List D) (ρ ρ' : Env), gsCons g gs ds ρ = some ρ' → ds.length = n + 1
  | [], _, _, e => by cases e
  | d :: ds, ρ, ρ', e => by
    obtain ⟨ρ1, _, e2⟩ := ob_eq e
    rw [List.length_cons, h ds ρ1 ρ' e2]

def Goes (K : PySem.W.Frag) (J : It) (F1 : Hp) (ds : List D) : Prop := ∀ (i : Nat) (F2 H2 : Hp), Same F1 F2 → Same F2 H2 →
  (∀ d, ds[i]? = some d → J.go i H2 ∧ ∀ x H3, J.yld i H2 x H3 → ∃ F3, Stp none F2 H2 F3 H3 ∧ Same F3 H3 ∧ Rp K F3 x d) ∧ (ds.length ≤ i → J.stop i H2)
def GoesO (K : PySem.W.Frag) (J : It) (bx : BxA) (F1 H1 : Hp) (ds : List D) : Prop := ∀ (i : Nat) (F2 H2 : Hp), Stp bx F1 H1 F2 H2 → Same F2 H2 →
  (∀ d, ds[i]? = some d → J.go i H2 ∧ ∀ x H3, J.yld i H2 x H3 → ∃ F3, Stp none F2 H2 F3 H3 ∧ Same F3 H3 ∧ Rp K F3 x d) ∧ (ds.length ≤ i → J.stop i H2)
def tI (K : PySem.W.Frag) (f : Env → M (List D)) : TI := fun σ H R => ∃ F0 H0 bx ρ F B ds B', f ρ B = some (ds, B') ∧ Ok K F0 H0 bx σ ρ F H B ∧ ∀ J F' H', Stp bx F H F' H' → Same F' H' → BoxOk bx H' B' → Goes K J F' ds → R J H'
def tIo (K : PySem.W.Frag) (f : Env → M (List D)) : TI := fun σ H R => ∃ F0 H0 bx ρ F B ds B', f ρ B = some (ds, B') ∧ Ok K F0 H0 bx σ ρ F H B ∧ ∀ J F' H', Stp bx F H F' H' → Same F' H' → BoxOk bx H' B' → GoesO K J bx F' H' ds → R J H'
section
variable {X : Cx} {tg e : Expr}
theorem dio {f : Env → M (List D)} (h : PI X tg e (tI X.K f)) : PI X tg e (tIo X.K f) := PI.wk h fun σ H R ⟨F0, H0, bx, ρ, F, B, ds, B', e, k, q⟩ =>
  ⟨F0, H0, bx, ρ, F, B, ds, B', e, k, fun J F' H' s sub b g => q J F' H' s sub b fun i F2 H2 s2 sub2 => g i F2 H2 s2.fex sub2⟩
theorem goes_list {K : PySem.W.Frag} {a : Addr} {F1 : Hp} {vs : List V} {ds : List D} (h : F1 a = some (.lst vs)) (r : RpA K F1 vs ds) : Goes K (Itl K a) F1 ds := fun i F2 H2 s sub => by
  have ha : H2 a = some (.lst vs) := sub _ _ (s _ _ h)
  refine ⟨fun d hd => ?_, fun hi => ⟨vs, .of ha, by rw [r.length]; exact hi⟩⟩
  obtain ⟨v, hv, rv⟩ := r.get hd
  refine ⟨⟨vs, v, .of ha, hv⟩, fun x H3 y => ?_⟩
  obtain ⟨rfl, y⟩ := y
  have := y vs (.of ha)
  rw [hv] at this; cases this
  exact ⟨F2, .refl, sub, rv.mono s⟩
theorem goes_tup {K : PySem.W.Frag} {a : Addr} {F1 : Hp} {vs : List V} {ds : List D} (h : SqT K F1 a vs) (r : RpA K F1 vs ds) : Goes K (Itt K a) F1 ds := fun i F2 H2 s sub => by
  have ha : SqT K H2 a vs := sqt_mono sub (sqt_mono s h)
  refine ⟨fun d hd => ?_, fun hi => ⟨vs, ha, by rw [r.length]; exact hi⟩⟩
  obtain ⟨v, hv, rv⟩ := r.get hd
  refine ⟨⟨vs, v, ha, hv⟩, fun x H3 y => ?_⟩
  obtain ⟨rfl, y⟩ := y
  have := y vs ha
  rw [hv] at this; cases this
  exact ⟨F2, .refl, sub, rv.mono s⟩
theorem goes_listO {K : PySem.W.Frag} {bx : BxA} {a : Addr} {F1 H1 : Hp} {vs : List V} {ds : List D} (h : H1 a = some (.lst vs)) (nb : ¬ InB bx a) (r : RpA K F1 vs ds) : GoesO K (Itl K a) bx F1 H1 ds := fun i F2 H2 s sub => by
  have ha : H2 a = some (.lst vs) := s.hex _ _ h nb
  refine ⟨fun d hd => ?_, fun hi => ⟨vs, .of ha, by rw [r.length]; exact hi⟩⟩
  obtain ⟨v, hv, rv⟩ := r.get hd
  refine ⟨⟨vs, v, .of ha, hv⟩, fun x H3 y => ?_⟩
  obtain ⟨rfl, y⟩ := y
  have := y vs (.of ha)
  rw [hv] at this; cases this
  exact ⟨F2, .refl, sub, rv.mono s.fex⟩
theorem goes_range {K : PySem.W.Frag} {F1 : Hp} {lo : Int} {n : Nat} : Goes K (Itr lo n) F1 ((List.range n).map fun (i : Nat) => PyData.int (lo + (i : Int))) := fun i F2 H2 s sub => by
  refine ⟨fun d hd => ?_, fun hi => (show n ≤ i by simpa using hi)⟩
  rw [List.getElem?_map] at hd
  by_cases hl : i < n
  · rw [List.getElem?_range hl] at hd
    cases hd
    refine ⟨hl, fun x H3 y => ?_⟩
    obtain ⟨rfl, rfl⟩ := y
    exact ⟨F2, .refl, sub, .int _⟩
  · rw [List.getElem?_eq_none (by simp; omega)] at hd
    cases hd
theorem goes_rangeC {K : PySem.W.Frag} {F1 : Hp} {lo c : Int} {n : Nat} : Goes K (Itc lo c n) F1 ((List.range n).map fun (i : Nat) => PyData.int (lo + (i : Int) * c)) := fun i F2 H2 s sub => by
  refine ⟨fun d hd => ?_, fun hi => (show n ≤ i by simpa using hi)⟩
  rw [List.getElem?_map] at hd
  by_cases hl : i < n
  · rw [List.getElem?_range hl] at hd
    cases hd
    refine ⟨hl, fun x H3 y => ?_⟩
    obtain ⟨rfl, rfl⟩ := y
    exact ⟨F2, .refl, sub, .int _⟩
  · rw [List.getElem?_eq_none (by simp; omega)] at hd
    cases hd
def iSeq (K : PySem.W.Frag) (tl : TE) : TI := fun σ H R => tl σ H fun x H1 => ∃ a, x = .ref a ∧ ((∃ xs, SqL K H1 a xs) ∧ R (Itl K a) H1 ∨ (∃ xs, SqT K H1 a xs) ∧ R (Itt K a) H1)
theorem pi_seq {l : Expr} {tl : TE} (hl : PE X l tl) : PI X tg l (iSeq X.K tl) := by
  refine ⟨fun pins s σ H R I h => ?_⟩
  refine thn (hl.run pins s σ H _ I h) fun v s1 ⟨x, H1, I1, r1, q1⟩ => ?_
  obtain ⟨a, e, q⟩ := q1
  subst e
  cases r1
  rcases q with ⟨⟨xs, hq⟩, q⟩ | ⟨⟨xs, hq⟩, q⟩
  · obtain ⟨its, rv, p, hz⟩ := I1.list hq
    refine wpAny_pyIter_list p.isList ?_
    refine ⟨s1.heap.objs.size, [s1.heap.objs.size], _, _, H1, rfl, I1.kept (t' := s1.toks) fun b o e => Heap.get?_push_of_some _ e, turn_list a _, ⟨_, Heap.get?_push_size _ rfl, rfl, rfl⟩, fun b hb => ?_, q⟩
    have e : b = s1.heap.objs.size := by simpa using hb
    subst e
    exact I1.fpOk (Nat.le_refl _) (I1.hok.fresh (Nat.le_refl _))
  · obtain ⟨its, rv, p, hz⟩ := I1.tuple hq
    refine wpAny_pyIter_tuple (show s1.heap.IsTuple a its.toArray from p) ?_
    refine ⟨s1.heap.objs.size, [s1.heap.objs.size], _, _, H1, rfl, I1.kept (t' := s1.toks) fun b o e => Heap.get?_push_of_some _ e, turn_tuple a _, ⟨_, Heap.get?_push_size _ rfl, rfl, rfl⟩, fun b hb => ?_, q⟩
    have e : b = s1.heap.objs.size := by simpa using hb
    subst e
    exact I1.fpOk (Nat.le_refl _) (I1.hok.fresh (Nat.le_refl _))
def items? : D → Option (List D)
  | .list ds => some ds
  | .tuple ds => some ds
  | _ => none
def fIt (f : Env → M D) : Env → M (List D) := fun ρ B => mb (f ρ B) fun d B1 => ob (items? d) fun ds => some (ds, B1)
theorem di {f : Env → M D} (h : PE X e (tD X.K f)) : PI X tg e (tI X.K (fIt f)) := PI.wk (pi_seq h) fun σ H R ⟨F0, H0, bx, ρ, F, B, ds, B', e, k, q⟩ => by
  obtain ⟨d, B1, e1, e2⟩ := mb_eq e
  obtain ⟨z, e3, e4⟩ := ob_eq e2
  cases e4
  refine ⟨F0, H0, bx, ρ, F, B, d, _, e1, k, fun v F1 H1 s1 sub1 b1 r1 => ?_⟩
  cases d <;> simp only [items?] at e3 <;> cases e3
  · cases r1 with
    | lst h1 h2 => exact ⟨_, rfl, .inl ⟨⟨_, .of (sub1 _ _ h1)⟩, q _ F1 H1 s1 sub1 b1 (goes_list h1 h2)⟩⟩
  · cases r1 with
    | tup h1 h2 => exact ⟨_, rfl, .inr ⟨⟨_, sqt_mono sub1 h1⟩, q _ F1 H1 s1 sub1 b1 (goes_tup h1 h2)⟩⟩
theorem dis {f : Env → M D} (h : PE X e (tS X.K f)) : PI X tg e (tIo X.K (fIt f)) := PI.wk (pi_seq h) fun σ H R ⟨F0, H0, bx, ρ, F, B, ds, B', e, k, q⟩ => by
  obtain ⟨d, B1, e1, e2⟩ := mb_eq e
  obtain ⟨z, e3, e4⟩ := ob_eq e2
  cases e4
  refine ⟨F0, H0, bx, ρ, F, B, d, _, e1, k, fun v F1 H1 s1 sub1 b1 r1 => ?_⟩
  cases d <;> simp only [items?] at e3 <;> cases e3
  · rcases r1 with r1 | ⟨l, vs, ds', rfl, e, h1, h2, h3⟩
    · cases r1 with
      | lst h1 h2 => exact ⟨_, rfl, .inl ⟨⟨_, .of (sub1 _ _ h1)⟩, q _ F1 H1 s1 sub1 b1 fun i F2 H2 s2 sub2 => goes_list h1 h2 i F2 H2 s2.fex sub2⟩⟩
    · cases e
      exact ⟨l, rfl, .inl ⟨⟨_, .of h1⟩, q _ F1 H1 s1 sub1 b1 (goes_listO h1 h3 h2)⟩⟩
  · obtain ⟨l, vs, rfl, h1, h2⟩ := r1.tup
    exact ⟨_, rfl, .inr ⟨⟨_, sqt_mono sub1 h1⟩, q _ F1 H1 s1 sub1 b1 fun i F2 H2 s2 sub2 => goes_tup h1 h2 i F2 H2 s2.fex sub2⟩⟩
def rng1 : List D → Option (List D)
  | [.int j] => gd (decide (-(2 ^ 62) ≤ j ∧ j < 2 ^ 62)) (some ((List.range j.toNat).map fun (i : Nat) => PyData.int (0 + (i : Int))))
  | _ => none
def rng2 : List D → Option (List D)
  | [.int i, .int j] => gd (decide (-(2 ^ 62) ≤ i ∧ i < 2 ^ 62 ∧ -(2 ^ 62) ≤ j ∧ j < 2 ^ 62)) (some ((List.range (j - i).toNat).map fun (k : Nat) => PyData.int (i + (k : Int))))
  | _ => none
def rng3 : List D → Option (List D)
  | [.int i, .int j, .int c] => gd (decide (c = -1 ∧ -(2 ^ 62) ≤ i ∧ i < 2 ^ 62 ∧ -(2 ^ 62) ≤ j ∧ j < 2 ^ 62)) (some ((List.range (i - j).toNat).map fun (k : Nat) => PyData.int (i + (k : Int) * -1)))
  | _ => none
variable {a b c : Expr} {fs : Env → M (List D)} {p pos : Pos}
theorem di_range1 (hg : Gl X "range") (hm : X.mg "range" = none) (ha : PA X [a] (tAS X.K fs)) (hs : starEach [a] X.env = [(false, eval a X.env)] := by rfl) : PI X tg (.Call (.Name "range" p) [a] [] pos) (tI X.K (fCO rng1 fs)) :=
  PI.wk (pi_range1 hg hm ha hs) fun σ H R ⟨F0, H0, bx, ρ, F, B, ds, B', e, k, q⟩ => by
    obtain ⟨d, B1, e1, e2⟩ := mb_eq e
    obtain ⟨z, e3, e4⟩ := ob_eq e2
    cases e4
    refine ⟨F0, H0, bx, ρ, F, B, d, _, e1, k, fun vs F1 H1 s1 sub1 b1 r1 => ?_⟩
    unfold rng1 at e3
    split at e3
    · obtain ⟨h1, h2⟩ := gd_eq e3
      cases h2
      obtain ⟨v, rfl, r⟩ := r1.one
      cases r.int
      have h := of_decide_eq_true h1
      exact ⟨_, rfl, h.1, h.2, q _ F1 H1 s1 sub1 b1 goes_range⟩
    · cases e3
theorem di_range2 (hg : Gl X "range") (hm : X.mg "range" = none) (ha : PA X [a, b] (tAS X.K fs)) (hs : starEach [a, b] X.env = [(false, eval a X.env), (false, eval b X.env)] := by rfl) (hs2 : starEach [b] X.env = [(false, eval b X.env)] := by rfl) : PI X tg (.Call (.Name "range" p) [a, b] [] pos) (tI X.K (fCO rng2 fs)) :=
  PI.wk (pi_range2 hg hm ha hs hs2) fun σ H R ⟨F0, H0, bx, ρ, F, B, ds, B', e, k, q⟩ => by
    obtain ⟨d, B1, e1, e2⟩ := mb_eq e
    obtain ⟨z, e3, e4⟩ := ob_eq e2
    cases e4
    refine ⟨F0, H0, bx, ρ, F, B, d, _, e1, k, fun vs F1 H1 s1 sub1 b1 r1 => ?_⟩
    unfold rng2 at e3
    split at e3
    · obtain ⟨h1, h2⟩ := gd_eq e3
      cases h2
      obtain ⟨v, w, rfl, r, r'⟩ := r1.two
      cases r.int
      cases r'.int
      have h := of_decide_eq_true h1
      exact ⟨_, _, rfl, h, q _ F1 H1 s1 sub1 b1 goes_range⟩
    · cases e3
theorem RSA.three {K : PySem.W.Frag} {bx : BxA} {F H : Hp} {vs : List V} {d e f : D} (h : RSA K bx F H vs [d, e, f]) : ∃ v w u, vs = [v, w, u] ∧ RS K bx F H v d ∧ RS K bx F H w e ∧ RS K bx F H u f := by
  cases vs with
  | nil => exact h.elim
  | cons v r =>
    obtain ⟨w, u, rfl, q, q'⟩ := RSA.two h.2
    exact ⟨v, w, u, rfl, h.1, q, q'⟩
theorem di_range3 (hg : Gl X "range") (hm : X.mg "range" = none) (ha : PA X [a, b, c] (tAS X.K fs)) (hs : starEach [a, b, c] X.env = (false, eval a X.env) :: starEach [b, c] X.env := by rfl) (hpl : (backTo pos (starEach [b, c] X.env)).any (·.1) = false := by rfl) : PI X tg (.Call (.Name "range" p) [a, b, c] [] pos) (tI X.K (fCO rng3 fs)) :=
  PI.wk (pi_range3 hg hm ha hs hpl) fun σ H R ⟨F0, H0, bx, ρ, F, B, ds, B', e, k, q⟩ => by
    obtain ⟨d, B1, e1, e2⟩ := mb_eq e
    obtain ⟨z, e3, e4⟩ := ob_eq e2
    cases e4
    refine ⟨F0, H0, bx, ρ, F, B, d, _, e1, k, fun vs F1 H1 s1 sub1 b1 r1 => ?_⟩
    unfold rng3 at e3
    split at e3
    · obtain ⟨h1, h2⟩ := gd_eq e3
      cases h2
      obtain ⟨v, w, u, rfl, r, r', r''⟩ := r1.three
      cases r.int
      cases r'.int
      cases r''.int
      obtain ⟨rfl, g1, g2, g3, g4⟩ := of_decide_eq_true h1
      exact ⟨_, _, _, _, rfl, RgC.neg g1 g2 g3 g4, q _ F1 H1 s1 sub1 b1 goes_rangeC⟩
    · cases e3
end

def lcL (g : D → Env → Option Env) (ft : Env → M Bool) (fe : Env → M D) (ρ : Env) : List D → List D → M (List D)
  | [], acc => fun B => some (acc, B)
  | d :: ds, acc => fun B => ob (g d ρ) fun ρ1 => mb (ft ρ1 B) fun b B1 => bif b then mb (fe ρ1 B1) fun y B2 => gd (decide (acc.length < sizeLine)) (lcL g ft fe ρ ds (acc ++ [y]) B2) else lcL g ft fe ρ ds acc B1
def fLc (fi : Env → M (List D)) (g : D → Env → Option Env) (ft : Env → M Bool) (fe : Env → M D) (vs : List Nat) : Env → M (List D) := fun ρ B => mb (fi ρ B) fun ds B1 => lcL g ft fe (wipeE ρ vs) ds [] B1
def fYes : Env → M Bool := fun _ B => some (true, B)
section
variable {X : Cx} {pos : Pos}
theorem PTs.wk {e : List Expr} {t t' : TT} (h : PTs X e t) (w : ∀ σ H Q, t' σ H Q → t σ H Q) : PTs X e t' := ⟨fun pins s σ H Q I q => h.run pins s σ H Q I (w σ H Q q)⟩
theorem dts_nil : PTs X [] (tT X.K fYes) := PTs.wk pts_nil fun σ H Q ⟨F0, H0, bx, ρ, F, B, d, B', e, k, q⟩ => by
  cases e
  exact q F H .refl k.sub k.box
theorem dts_one {c : Expr} {f : Env → M Bool} (h : PT X c (tT X.K f)) : PTs X [c] (tT X.K f) := pts_one h
theorem lc_go {K : PySem.W.Frag} {fi : Env → M (List D)} {g : D → Env → Option Env} {ft : Env → M Bool} {fe : Env → M D} {vs ix : List Nat} (hix : ∀ i ∈ ix, i ∈ vs) {σ : L2.St} {H : Hp} {Q : VK} (h : tO K (fLc fi g ft fe vs) σ H Q) :
    tLc (tIo K fi) (tG K ix g) (tT K ft) (tD K fe) vs σ H Q := by
  obtain ⟨F0, H0, bx, ρ, F, B, ds, B', e, k, q⟩ := h
  obtain ⟨items, B1, e1, e2⟩ := mb_eq e
  refine ⟨F0, H0, bx, ρ, F, B, items, B1, e1, k, fun J F1 H1 s1 sub1 b1 go D hD => ?_⟩
  have k1 := k.step s1 sub1 b1
  have f1 : F1 D = none := by
    cases z : F1 D with
    | none => rfl
    | some o => rw [sub1 D o z] at hD; cases hD
  have nD : ¬ InB bx D := fun i => b1.there i hD
  have hD0 : H D = none := by
    by_cases z : H D = none
    · exact z
    · exact absurd hD (s1.hin D z)
  refine ⟨fun i m H2 => m = items.length - i ∧ i ≤ items.length ∧ ∃ F2 Bc acc accV, Stp bx F1 H1 F2 H2 ∧ Same F2 H2 ∧ BoxOk bx H2 Bc ∧ F2 D = none ∧ H2 D = some (.lst accV) ∧ RpA K F2 accV acc ∧ lcL g ft fe (wipeE ρ vs) (items.drop i) acc Bc = some (ds, B'), ?_, ?_⟩
  · refine ⟨items.length, by simp, Nat.zero_le _, F1, B1, [], [], .own hD, fun c u z => ?_, b1.laid hD, f1, upd_same, .nil, e2⟩
    rw [upd_ne (ne_of_none z f1)]; exact sub1 c u z
  rintro i m H2 ⟨rfl, hi, F2, Bc, acc, accV, s2, sub2, b2, fD, h2, racc, e3⟩
  by_cases hlt : i < items.length
  · refine .inr ?_
    have hd : items[i]? = some items[i] := List.getElem?_eq_getElem hlt
    obtain ⟨hg, hy⟩ := (go i F2 H2 s2 sub2).1 _ hd
    refine ⟨hg, fun H' => ∃ F2 Bc acc accV, Stp bx F1 H1 F2 H' ∧ Same F2 H' ∧ BoxOk bx H' Bc ∧ F2 D = none ∧ H' D = some (.lst accV) ∧ RpA K F2 accV acc ∧ lcL g ft fe (wipeE ρ vs) (items.drop (i + 1)) acc Bc = some (ds, B'), fun H' hw => ⟨items.length - (i + 1), by omega, rfl, by omega, hw⟩, fun x H3 y => ?_⟩
    obtain ⟨F3, s3, sub3, r3⟩ := hy x H3 y
    have k2 := (k1.step s2 sub2 b2).wipe vs
    have k3 := k2.step s3.of_none sub3 (b2.step s3.same)
    rw [List.drop_eq_getElem_cons hlt] at e3
    obtain ⟨ρ1, e4, e5⟩ := ob_eq e3
    obtain ⟨b, B3, e6, e7⟩ := mb_eq e5
    refine ⟨F0, H0, bx, wipeE ρ vs, F3, Bc, items[i], ρ1, k3, r3, e4, fun σ' k4 st => ⟨?_, ?_⟩⟩
    · rw [st vs hix]; exact wipe_wipe vs σ vs fun _ z => z
    refine ⟨F0, H0, bx, ρ1, F3, Bc, b, B3, e6, k4, fun F4 H4 s4 sub4 b4 => ?_⟩
    have keepD : ∀ {Fa Ha Fb Hb : Hp}, Stp bx Fa Ha Fb Hb → Fa D = none → ∀ {o}, Ha D = some o → Fb D = none ∧ Hb D = some o := fun {Fa Ha Fb Hb} s z {o} w => by
      refine ⟨?_, s.hex D o w nD⟩
      by_cases c : Fb D = none
      · exact c
      · have := s.new D c z
        rw [w] at this; cases this
    obtain ⟨d3, d3'⟩ := keepD (s3.of_none (bx := bx)) fD h2
    obtain ⟨d4, d4'⟩ := keepD s4 d3 d3'
    have s14 := s2.trans (s3.of_none.trans s4)
    cases b with
    | false =>
      refine iteF ?_
      exact ⟨F4, B3, acc, accV, s14, sub4, b4, d4, d4', racc.mono (s3.fex.trans s4.fex), e7⟩
    | true =>
      refine iteT ?_
      obtain ⟨y, B5, e8, e9⟩ := mb_eq e7
      obtain ⟨hs, e10⟩ := gd_eq e9
      refine ⟨F0, H0, bx, ρ1, F4, B3, y, B5, e8, k4.step s4 sub4 b4, fun v F5 H5 s5 sub5 b5 r5 => ⟨accV, (keepD s5 d4 d4').2, ?_, ?_⟩⟩
      · rw [racc.length]; exact of_decide_eq_true hs
      · obtain ⟨d5, d5'⟩ := keepD s5 d4 d4'
        have s15 := s14.trans s5
        refine ⟨F5, B5, acc ++ [y], accV ++ [v], ⟨s15.fex, fun a o z n => ?_, fun a z => ?_, s15.new⟩, fun a o z => ?_, fun b' c' z => ?_, d5, upd_same, (racc.mono (s3.fex.trans (s4.fex.trans s5.fex))).append (.one r5), e10⟩
        · rw [upd_ne (ne_of_none z hD)]; exact s15.hex a o z n
        · unfold upd
          split
          · intro w; cases w
          · exact s15.hin a z
        · rw [upd_ne (ne_of_none z d5)]; exact sub5 a o z
        · obtain ⟨n0, n1, n2⟩ := b5 b' c' z
          have m1 : b' ≠ D := fun w => nD ⟨b', c', z, .inl w.symm⟩
          have m2 : c' ≠ D := fun w => nD ⟨b', c', z, .inr w.symm⟩
          exact ⟨n0, by rw [upd_ne m1]; exact n1, by rw [upd_ne m2]; exact n2⟩
  · have hie : i = items.length := by omega
    subst hie
    refine .inl ⟨(go _ F2 H2 s2 sub2).2 (Nat.le_refl _), ?_⟩
    rw [List.drop_length] at e3
    cases e3
    exact q D accV F2 H2 (s1.trans s2) sub2 b2 fD hD0 nD h2 racc
theorem oe_lc {elt tg iter : Expr} {ifs : List Expr} {scope : Scope} (own : List (Str × Nat)) {fi : Env → M (List D)} {g : D → Env → Option Env} {ix : List Nat} {ft : Env → M Bool} {fe : Env → M D} (hc : X.calm = true) (hN : X.N.Nodup) (hi : PI X tg iter (tIo X.K fi)) (ok : BlkOk X.N X.env.scope scope own)
    (hg : ∀ (s : Shared) (H : Hp) (C : Addr) (cl : List (Str × Addr)) (fp : List Addr), PG (X.blk s H scope (compEnvC scope cl C X.env) fp) tg (tG X.K ix g)) (hix : ∀ i ∈ ix, i ∈ own.map (·.2)) (ht : ∀ (s : Shared) (H : Hp) (C : Addr) (cl : List (Str × Addr)) (fp : List Addr), PTs (X.blk s H scope (compEnvC scope cl C X.env) fp) ifs (tT X.K ft))
    (he : ∀ (s : Shared) (H : Hp) (C : Addr) (cl : List (Str × Addr)) (fp : List Addr), PE (X.blk s H scope (compEnvC scope cl C X.env) fp) elt (tD X.K fe)) (hs : ∀ x, foldedSetIterable iter X.env x = pure x := by intro _; rfl) :
    PE X (.ListComp elt [⟨tg, iter, ifs, 0⟩] scope pos) (tO X.K (fLc fi g ft fe (own.map (·.2)))) := PE.wk (pe_lc hc hN hi ok hg ht he hs) fun _ _ _ h => lc_go hix h
end
end DL

namespace DL
open PySem PySem.Spec L2
def fSet (i : Nat) (f : Env → M D) : Env → M Out := fun ρ B => mb (f ρ B) fun d B1 => some (.nx (ρ.set i (.d d)), B1)
def fSetO (i : Nat) (f : Env → M (List D)) : Env → M Out := fun ρ B => mb (f ρ B) fun ds B1 => some (.nx (ρ.set i (.own ds)), B1)
def fAsg (g : D → Env → Option Env) (f : Env → M D) : Env → M Out := fun ρ B => mb (f ρ B) fun d B1 => ob (g d ρ) fun ρ' => some (.nx ρ', B1)
def fPar (i j : Nat) (fs : Env → M (List D)) : Env → M Out := fun ρ B => mb (fs ρ B) fun ds B1 => match ds with
  | [d, e] => some (.nx ((ρ.set i (.d d)).set j (.d e)), B1)
  | _ => none
def int? : D → Option Int
  | .int i => some i
  | _ => none
def slD : Option Sl → Option D
  | some (.d x) => some x
  | _ => none
def slO : Option Sl → Option (List D)
  | some (.own x) => some x
  | _ => none
def fAug (i : Nat) (h : Int → Int → Int) (f : Env → M D) : Env → M Out := fun ρ B => ob (slD ρ[i]?) fun x => ob (int? x) fun a => mb (f ρ B) fun y B1 => ob (int? y) fun b => some (.nx (ρ.set i (.d (.int (h a b)))), B1)
def fApp (i : Nat) (f : Env → M D) : Env → M Out := fun ρ B => ob (slO ρ[i]?) fun ds => mb (f ρ B) fun d B1 => gd (decide (ds.length < sizeLine)) (some (.nx (ρ.set i (.own (ds ++ [d]))), B1))
def list? : D → Option (List D)
  | .list ds => some ds
  | _ => none
def fExt (i : Nat) (f : Env → M D) : Env → M Out := fun ρ B => ob (slO ρ[i]?) fun ds => mb (f ρ B) fun d B1 => ob (list? d) fun es => gd (decide (ds.length + es.length ≤ sizeLine)) (some (.nx (ρ.set i (.own (ds ++ es))), B1))
def fIns (i : Nat) (fi f : Env → M D) : Env → M Out := fun ρ B => ob (slO ρ[i]?) fun ds => mb (fi ρ B) fun x B1 => ob (int? x) fun j => mb (f ρ B1) fun d B2 => gd (decide (ds.length < sizeLine ∧ 0 ≤ j ∧ j < 2 ^ 63)) (some (.nx (ρ.set i (.own (ds.take j.toNat ++ [d] ++ ds.drop j.toNat))), B2))
def fSetIx (i : Nat) (fi f : Env → M D) : Env → M Out := fun ρ B => ob (slO ρ[i]?) fun ds => mb (f ρ B) fun d B1 => mb (fi ρ B1) fun x B2 => ob (int? x) fun j => ob (ixN ds.length j) fun n => some (.nx (ρ.set i (.own (ds.set n d))), B2)
def fRet (f : Env → M D) : Env → M Out := fun ρ B => mb (f ρ B) fun d B1 => some (.ret d, B1)
def fRetN : Env → M Out := fun _ B => some (.ret .none, B)
def fDrop (f : Env → M D) : Env → M Out := fun ρ B => mb (f ρ B) fun _ B1 => some (.nx ρ, B1)
def fNext : Env → M Out := fun ρ B => some (.nx ρ, B)
def fBrk : Env → M Out := fun ρ B => some (.brk ρ, B)
def fCnt : Env → M Out := fun ρ B => some (.cnt ρ, B)
def fIf (ft : Env → M Bool) (g h : Env → M Out) : Env → M Out := fun ρ B => mb (ft ρ B) fun c B1 => bif c then g ρ B1 else h ρ B1
def seqK (g : Env → M Out) : Out → M Out
  | .nx ρ1 => g ρ1
  | o => fun B => some (o, B)
def fSeq (g h : Env → M Out) : Env → M Out := fun ρ B => mb (g ρ B) fun o B1 => seqK h o B1
def frzE (j : Nat) (ρ : Env) : Env := match ρ[j]? with
  | some (.own ds) => ρ.set j (.d (.list ds))
  | _ => ρ
def fFrz (j : Nat) (g : Env → M Out) : Env → M Out := fun ρ B => g (frzE j ρ) B
def turnK (k : Env → M Out) : Out → M Out
  | .nx ρ => k ρ
  | .cnt ρ => k ρ
  | .brk ρ => fun B => some (.nx ρ, B)
  | .ret d => fun B => some (.ret d, B)
def forL (g : D → Env → Option Env) (fb : Env → M Out) : List D → Env → M Out
  | [], ρ => fun B => some (.nx ρ, B)
  | d :: ds, ρ => fun B => ob (g d ρ) fun ρ1 => mb (fb ρ1 B) fun o B2 => turnK (forL g fb ds) o B2
def fFor (fi : Env → M (List D)) (g : D → Env → Option Env) (fb : Env → M Out) : Env → M Out := fun ρ B => mb (fi ρ B) fun ds B1 => forL g fb ds ρ B1
def whileF (ft : Env → M Bool) (fb : Env → M Out) : Nat → Env → M Out
  | 0, _ => fun _ => none
  | n + 1, ρ => fun B => mb (ft ρ B) fun c B1 => bif c then mb (fb ρ B1) fun o B2 => turnK (whileF ft fb n) o B2 else some (.nx ρ, B1)
def wfuel : Nat := 1000000
def fWhile (ft : Env → M Bool) (fb : Env → M Out) : Env → M Out := fun ρ B => whileF ft fb wfuel ρ B
theorem whileF_more (ft : Env → M Bool) (fb : Env → M Out) : ∀ (n m : Nat) (ρ : Env) (B : BS) (r : Out × BS), n ≤ m → whileF ft fb n ρ B = some r → whileF ft fb m ρ B = some r
  | 0, _, _, _, _, _, h => by cases h
  | n + 1, 0, _, _, _, hl, _ => by omega
  | n + 1, m + 1, ρ, B, r, hl, h => by
    obtain ⟨c, B1, e1, e2⟩ := mb_eq h
    show mb (ft ρ B) _ = _
    rw [e1]
    cases c with
    | false => exact e2
    | true =>
      obtain ⟨o, B2, e3, e4⟩ := mb_eq e2
      show mb (fb ρ B1) _ = _
      rw [e3]
      cases o with
      | nx ρ2 => exact whileF_more ft fb n m ρ2 B2 r (by omega) e4
      | cnt ρ2 => exact whileF_more ft fb n m ρ2 B2 r (by omega) e4
      | brk ρ2 => exact e4
      | ret d => exact e4
theorem fWhile_of {ft : Env → M Bool} {fb : Env → M Out} {n : Nat} {ρ : Env} {B : BS} {r : Out × BS} (h : whileF ft fb n ρ B = some r) (hn : n ≤ 1000000) : fWhile ft fb ρ B = some r := whileF_more ft fb n wfuel ρ B r hn h

section
variable {K : PySem.W.Frag} {F0 H0 F F' H : Hp} {bx : BxA} {B B' : BS} {E : Ends}
theorem OutOk.mono (e : Same F F') : ∀ {o : Out}, OutOk K F0 H0 bx F B' E o → OutOk K F0 H0 bx F' B' E o
  | .nx _, h => fun σ F2 H2 s => h σ F2 H2 (e.trans s)
  | .brk _, h => fun σ F2 H2 s => h σ F2 H2 (e.trans s)
  | .cnt _, h => fun σ F2 H2 s => h σ F2 H2 (e.trans s)
  | .ret _, h => fun v F2 H2 s => h v F2 H2 (e.trans s)
end

section
variable {X : Cx} {pos : Pos} {e : Expr} {f : Env → M D} {i : Nat}
theorem set_go {K : PySem.W.Frag} {E : Ends} {σ : L2.St} {H : Hp} (h : tSt K (fSet i f) E σ H) : tAsg (tD K f) (gName i) E σ H := by
  obtain ⟨F0, H0, bx, ρ, F, B, o, B', e, k, q⟩ := h
  obtain ⟨d, B1, e1, e2⟩ := mb_eq e
  cases e2
  exact ⟨F0, H0, bx, ρ, F, B, d, _, e1, k, fun v F1 H1 s1 sub1 b1 r1 => q _ F1 H1 s1.fex ((k.step s1 sub1 b1).setD r1)⟩
theorem setO_go {K : PySem.W.Frag} {fo : Env → M (List D)} {E : Ends} {σ : L2.St} {H : Hp} (h : tSt K (fSetO i fo) E σ H) : tAsg (tO K fo) (gName i) E σ H := by
  obtain ⟨F0, H0, bx, ρ, F, B, o, B', e, k, q⟩ := h
  obtain ⟨d, B1, e1, e2⟩ := mb_eq e
  cases e2
  refine ⟨F0, H0, bx, ρ, F, B, d, _, e1, k, fun p vs F1 H1 s1 sub1 b1 hF hH hB hp r => q _ F1 H1 s1.fex ((k.step s1 sub1 b1).setO hp r hF ?_ hB fun j xs hj ej => ?_)⟩
  · by_cases z : H0 p = none
    · exact z
    · exact absurd hH (k.stp.hin p z)
  · obtain ⟨l, ws, g1, g2, _⟩ := k.sl j _ ej
    rw [g1]
    intro z
    cases z
    rw [hH] at g2; cases g2
theorem oD {K : PySem.W.Frag} {fo : Env → M (List D)} {σ : L2.St} {H : Hp} {Q : VK} (h : tD K (fFr fo) σ H Q) : tO K fo σ H Q := by
  obtain ⟨F0, H0, bx, ρ, F, B, d, B', e, k, q⟩ := h
  obtain ⟨ds, B1, e1, e2⟩ := mb_eq e
  cases e2
  refine ⟨F0, H0, bx, ρ, F, B, ds, _, e1, k, fun p vs F' H' s sub b h1 h2 h3 h4 h5 => ?_⟩
  have sm : Same F' (upd F' p (.lst vs)) := fun c u z => by rw [upd_ne (ne_of_none z h1)]; exact z
  refine q (.ref p) (upd F' p (.lst vs)) H' ⟨s.fex.trans sm, s.hex, s.hin, fun a z w => ?_⟩ (fun c u z => ?_) b (.lst upd_same (h5.mono sm))
  · by_cases ha : a = p
    · rw [ha]; exact h2
    · rw [upd_ne ha] at z; exact s.new a z w
  · by_cases hc : c = p
    · rw [hc] at z ⊢; rw [upd_same] at z; cases z; exact h4
    · rw [upd_ne hc] at z; exact sub c u z
variable {x : Str} {pos' : Pos}
theorem ds_set (i : Nat) (hN : X.N.Nodup) (he : PE X e (tD X.K f)) (hi : X.N[i]? = some x := by rfl) (hx : Loc X.env.scope x := by first | exact Or.inl rfl | exact Or.inr rfl) (hs : swapsWith e (some (.Name x pos')) pos.line X.env = pure false := by rfl)
    (hf : X.fn x = true ∨ X.env.scope.names.lookup x = some .local := by first | exact .inl rfl | exact .inr rfl | assumption) : PS X (.Assign [.Name x pos'] e pos) (tSt X.K (fSet i f)) :=
  PS.wk (ps_set hN hi hx he hs hf) fun _ _ _ h => set_go h
theorem ds_setO (i : Nat) {fo : Env → M (List D)} (hN : X.N.Nodup) (he : PE X e (tO X.K fo)) (hi : X.N[i]? = some x := by rfl) (hx : Loc X.env.scope x := by first | exact Or.inl rfl | exact Or.inr rfl) (hs : swapsWith e (some (.Name x pos')) pos.line X.env = pure false := by rfl)
    (hf : X.fn x = true ∨ X.env.scope.names.lookup x = some .local := by first | exact .inl rfl | exact .inr rfl | assumption) : PS X (.Assign [.Name x pos'] e pos) (tSt X.K (fSetO i fo)) :=
  PS.wk (ps_set hN hi hx he hs hf) fun _ _ _ h => setO_go h
section
variable {elt tg iter : Expr} {ifs : List Expr} {scope : Scope} {fi : Env → M (List D)} {g : D → Env → Option Env} {ix : List Nat} {ft : Env → M Bool} {fe : Env → M D}
theorem ds_lc (i : Nat) (own : List (Str × Nat)) (hc : X.calm = true) (hN : X.N.Nodup) (hsw : swapsWith (.ListComp elt [⟨tg, iter, ifs, 0⟩] scope pos) (some (.Name x pos')) pos'.line X.env = pure true) (hi : PI X tg iter (tIo X.K fi)) (ok : BlkOk X.N X.env.scope scope own)
    (hg : ∀ (s : Shared) (H : Hp) (C : Addr) (cl : List (Str × Addr)) (fp : List Addr), PG (X.blk s H scope (compEnvC scope cl C X.env) fp) tg (tG X.K ix g)) (hix : ∀ i ∈ ix, i ∈ own.map (·.2)) (ht : ∀ (s : Shared) (H : Hp) (C : Addr) (cl : List (Str × Addr)) (fp : List Addr), PTs (X.blk s H scope (compEnvC scope cl C X.env) fp) ifs (tT X.K ft))
    (he : ∀ (s : Shared) (H : Hp) (C : Addr) (cl : List (Str × Addr)) (fp : List Addr), PE (X.blk s H scope (compEnvC scope cl C X.env) fp) elt (tD X.K fe)) {spos : Pos} (hsl : spos.line = pos'.line := by rfl) (hy : X.N[i]? = some x := by rfl) (hyl : X.env.scope.names.lookup x = some .local := by rfl) (hs : ∀ x, foldedSetIterable iter X.env x = pure x := by intro _; rfl) :
    PS X (.Assign [.Name x pos'] (.ListComp elt [⟨tg, iter, ifs, 0⟩] scope pos) spos) (tSt X.K (fSet i (fFr (fLc fi g ft fe (own.map (·.2)))))) :=
  PS.wk (ps_setLc hc hN hy hyl (by rw [hsl]; exact hsw) hi ok hg ht he hs) fun E σ H h => lc_go hix (oD (set_go h))
theorem ds_lcO (i : Nat) (own : List (Str × Nat)) (hc : X.calm = true) (hN : X.N.Nodup) (hsw : swapsWith (.ListComp elt [⟨tg, iter, ifs, 0⟩] scope pos) (some (.Name x pos')) pos'.line X.env = pure true) (hi : PI X tg iter (tIo X.K fi)) (ok : BlkOk X.N X.env.scope scope own)
    (hg : ∀ (s : Shared) (H : Hp) (C : Addr) (cl : List (Str × Addr)) (fp : List Addr), PG (X.blk s H scope (compEnvC scope cl C X.env) fp) tg (tG X.K ix g)) (hix : ∀ i ∈ ix, i ∈ own.map (·.2)) (ht : ∀ (s : Shared) (H : Hp) (C : Addr) (cl : List (Str × Addr)) (fp : List Addr), PTs (X.blk s H scope (compEnvC scope cl C X.env) fp) ifs (tT X.K ft))
    (he : ∀ (s : Shared) (H : Hp) (C : Addr) (cl : List (Str × Addr)) (fp : List Addr), PE (X.blk s H scope (compEnvC scope cl C X.env) fp) elt (tD X.K fe)) {spos : Pos} (hsl : spos.line = pos'.line := by rfl) (hy : X.N[i]? = some x := by rfl) (hyl : X.env.scope.names.lookup x = some .local := by rfl) (hs : ∀ x, foldedSetIterable iter X.env x = pure x := by intro _; rfl) :
    PS X (.Assign [.Name x pos'] (.ListComp elt [⟨tg, iter, ifs, 0⟩] scope pos) spos) (tSt X.K (fSetO i (fLc fi g ft fe (own.map (·.2))))) :=
  PS.wk (ps_setLc hc hN hy hyl (by rw [hsl]; exact hsw) hi ok hg ht he hs) fun E σ H h => lc_go hix (setO_go h)
end
theorem ds_asg {tg : Expr} {ix : List Nat} {g : D → Env → Option Env} (he : PE X e (tD X.K f)) (hg : PG X tg (tG X.K ix g)) (hs : swapsWithSole [tg] e pos.line X.env = pure false := by rfl) (hw : swappedStores [tg] e X.env = pure none := by rfl)
    (h1 : (assignEach [tg] X.env).map (·.2) = [assign tg X.env] := by rfl) : PS X (.Assign [tg] e pos) (tSt X.K (fAsg g f)) := PS.wk (ps_asg he hg hs hw h1) fun E σ H ⟨F0, H0, bx, ρ, F, B, o, B', e, k, q⟩ => by
  obtain ⟨d, B1, e1, e2⟩ := mb_eq e
  obtain ⟨ρ', e3, e4⟩ := ob_eq e2
  cases e4
  exact ⟨F0, H0, bx, ρ, F, B, d, _, e1, k, fun v F1 H1 s1 sub1 b1 r1 => ⟨F0, H0, bx, ρ, F1, _, d, ρ', k.step s1 sub1 b1, r1, e3, fun σ' k' _ => q σ' F1 H1 s1.fex k'⟩⟩
theorem ds_par (i j : Nat) {y : Str} {a b : Expr} {fs : Env → M (List D)} {px py pt : Pos} {kt k2 pt2} (hc : X.calm = true) (hN : X.N.Nodup) (ha : PA X [a, b] (tA X.K fs)) (hij : i ≠ j) (hi : X.N[i]? = some x := by rfl) (hj : X.N[j]? = some y := by rfl)
    (hx : X.env.scope.names.lookup x = some .local := by rfl) (hy : X.env.scope.names.lookup y = some .local := by rfl)
    (hw : swappedStores [.Tuple [.Name x px, .Name y py] kt pt] (.Tuple [a, b] k2 pt2) X.env = pure (some [x, y]) := by rfl)
    (hs : swapsWithSole [.Tuple [.Name x px, .Name y py] kt pt] (.Tuple [a, b] k2 pt2) pos.line X.env = pure false := by rfl) :
    PS X (.Assign [.Tuple [.Name x px, .Name y py] kt pt] (.Tuple [a, b] k2 pt2) pos) (tSt X.K (fPar i j fs)) := PS.wk (ps_par hc hN hi hj hij hx hy ha hw hs) fun E σ H ⟨F0, H0, bx, ρ, F, B, o, B', e, k, q⟩ => by
  obtain ⟨ds, B1, e1, e2⟩ := mb_eq e
  refine ⟨F0, H0, bx, ρ, F, B, ds, B1, e1, k, fun vs F1 H1 s1 sub1 b1 r1 => ?_⟩
  split at e2
  · cases e2
    cases r1 with
    | cons r1 r2 =>
      cases r2 with
      | cons r2 r3 =>
        cases r3
        exact ⟨_, _, rfl, q _ F1 H1 s1.fex (((k.step s1 sub1 b1).setD r1).setD r2)⟩
  · cases e2
theorem ds_aug (i : Nat) {op : Operator} {h : Int → Int → Int} (ho : PIp X op (ipI h)) (hN : X.N.Nodup) (he : PE X e (tD X.K f)) (hi : X.N[i]? = some x := by rfl) (hx : Loc X.env.scope x := by first | exact Or.inl rfl | exact Or.inr rfl)
    (hf : X.fn x = true ∨ X.env.scope.names.lookup x = some .local := by first | exact .inl rfl | exact .inr rfl | assumption) : PS X (.AugAssign (.Name x pos') op e pos) (tSt X.K (fAug i h f)) := PS.wk (ps_aug hN hi hx he ho hf) fun E σ H ⟨F0, H0, bx, ρ, F, B, o, B', e, k, q⟩ => by
  obtain ⟨xd, e1, e2⟩ := ob_eq e
  obtain ⟨a, e3, e4⟩ := ob_eq e2
  obtain ⟨y, B1, e5, e6⟩ := mb_eq e4
  obtain ⟨b, e7, e8⟩ := ob_eq e6
  cases e8
  have e9 : ρ[i]? = some (.d xd) := by
    unfold slD at e1
    split at e1
    · rename_i z hz; cases e1; exact hz
    · cases e1
  obtain ⟨v, g1, g2⟩ := k.sl i _ e9
  cases xd <;> simp only [int?] at e3 <;> cases e3
  cases g2
  refine ⟨_, g1, F0, H0, bx, ρ, F, B, y, _, e5, k, fun w F1 H1 s1 sub1 b1 r1 => ?_⟩
  cases y <;> simp only [int?] at e7 <;> cases e7
  cases r1
  exact ⟨_, _, rfl, rfl, q _ F1 H1 s1.fex ((k.step s1 sub1 b1).setD (.int _))⟩
theorem own_at {K : PySem.W.Frag} {F0 H0 F H : Hp} {bx : BxA} {σ : L2.St} {ρ : Env} {B : BS} {i : Nat} {ds : List D} (k : Ok K F0 H0 bx σ ρ F H B) (e : slO ρ[i]? = some ds) : ρ[i]? = some (.own ds) ∧ ∃ l vs, σ[i]? = some (some (.ref l)) ∧ H l = some (.lst vs) ∧ RpA K F vs ds ∧ ¬ InB bx l := by
  have e9 : ρ[i]? = some (.own ds) := by
    unfold slO at e
    split at e
    · rename_i z hz; cases e; exact hz
    · cases e
  obtain ⟨l, vs, h1, h2, h3, h4, h5, h6⟩ := k.sl i _ e9
  exact ⟨e9, l, vs, h1, h2, h3, h6⟩
theorem app_go {K : PySem.W.Frag} {E : Ends} {σ : L2.St} {H : Hp} (h : tSt K (fApp i f) E σ H) : tDrop (tBM K "list" rAppend (tVar i) (tCons (tD K f) tNil)) E σ H := by
  obtain ⟨F0, H0, bx, ρ, F, B, o, B', e, k, q⟩ := h
  obtain ⟨ds, e1, e2⟩ := ob_eq e
  obtain ⟨d, B1, e3, e4⟩ := mb_eq e2
  obtain ⟨hz, e5⟩ := gd_eq e4
  cases e5
  obtain ⟨e6, l, vs, g1, g2, g3, g4⟩ := own_at k e1
  refine ⟨.ref l, g1, .inl ⟨rfl, vs, .of g2⟩, F0, H0, bx, ρ, F, B, d, _, e3, k, fun v F1 H1 s1 sub1 b1 r1 => ?_⟩
  have k1 := k.step s1 sub1 b1
  obtain ⟨_, l', vs', g1', g2', g3', g4'⟩ := own_at k1 e1
  rw [g1] at g1'; cases g1'
  refine ⟨l, vs', v, rfl, rfl, g2', by rw [g3'.length]; exact of_decide_eq_true hz, ?_⟩
  exact q σ F1 _ s1.fex (k1.chg e6 g1 (g3'.append (.one r1)))
theorem ext_go {K : PySem.W.Frag} {E : Ends} {σ : L2.St} {H : Hp} (h : tSt K (fExt i f) E σ H) : tDrop (tBM K "list" rExtend (tVar i) (tCons (tS K f) tNil)) E σ H := by
  obtain ⟨F0, H0, bx, ρ, F, B, o, B', e, k, q⟩ := h
  obtain ⟨ds, e1, e2⟩ := ob_eq e
  obtain ⟨d, B1, e3, e4⟩ := mb_eq e2
  obtain ⟨es, e5, e7⟩ := ob_eq e4
  obtain ⟨hz, e8⟩ := gd_eq e7
  cases e8
  obtain ⟨e6, l, vs, g1, g2, g3, g4⟩ := own_at k e1
  refine ⟨.ref l, g1, .inl ⟨rfl, vs, .of g2⟩, F0, H0, bx, ρ, F, B, d, _, e3, k, fun v F1 H1 s1 sub1 b1 r1 => ?_⟩
  have k1 := k.step s1 sub1 b1
  obtain ⟨_, l', vs', g1', g2', g3', g4'⟩ := own_at k1 e1
  rw [g1] at g1'; cases g1'
  cases d <;> simp only [list?] at e5 <;> cases e5
  obtain ⟨b, ws, rfl, h1, h2⟩ := r1.lst sub1
  refine ⟨l, b, vs', ws, rfl, rfl, g2', h1, by rw [g3'.length, h2.length]; exact of_decide_eq_true hz, ?_⟩
  exact q σ F1 _ s1.fex (k1.chg e6 g1 (g3'.append h2))
def rInsert : V → List V → Hp → VK → Prop := fun x vs H Q => ∃ (l : Addr) (xs : List V) (i : Int) (y : V), x = .ref l ∧ vs = [.int i, y] ∧ H l = some (.lst xs) ∧ xs.length < sizeLine ∧ 0 ≤ i ∧ i < 2 ^ 63 ∧ Q .non (upd H l (.lst (xs.take i.toNat ++ [y] ++ xs.drop i.toNat)))
theorem ins_go {K : PySem.W.Frag} {fi : Env → M D} {E : Ends} {σ : L2.St} {H : Hp} (h : tSt K (fIns i fi f) E σ H) : tDrop (tBM K "list" rInsert (tVar i) (tCons (tD K fi) (tCons (tD K f) tNil))) E σ H := by
  obtain ⟨F0, H0, bx, ρ, F, B, o, B', e, k, q⟩ := h
  obtain ⟨ds, e1, e2⟩ := ob_eq e
  obtain ⟨x, B1, e3, e4⟩ := mb_eq e2
  obtain ⟨j, e5, e7⟩ := ob_eq e4
  obtain ⟨d, B2, e8, e9⟩ := mb_eq e7
  obtain ⟨hz, e10⟩ := gd_eq e9
  cases e10
  obtain ⟨e6, l, vs, g1, g2, g3, g4⟩ := own_at k e1
  refine ⟨.ref l, g1, .inl ⟨rfl, vs, .of g2⟩, F0, H0, bx, ρ, F, B, x, _, e3, k, fun v F1 H1 s1 sub1 b1 r1 => ?_⟩
  have k1 := k.step s1 sub1 b1
  refine ⟨F0, H0, bx, ρ, F1, B1, d, _, e8, k1, fun w F2 H2 s2 sub2 b2 r2 => ?_⟩
  have k2 := k1.step s2 sub2 b2
  obtain ⟨_, l', vs', g1', g2', g3', g4'⟩ := own_at k2 e1
  rw [g1] at g1'; cases g1'
  cases x <;> simp only [int?] at e5 <;> cases e5
  cases r1
  obtain ⟨z1, z2, z3⟩ := of_decide_eq_true hz
  refine ⟨l, vs', j, w, rfl, rfl, g2', by rw [g3'.length]; exact z1, z2, z3, ?_⟩
  exact q σ F2 _ (s1.fex.trans s2.fex) (k2.chg e6 g1 (((g3'.take _).append (.one r2)).append (g3'.drop _)))
theorem setIx_go {K : PySem.W.Frag} {fi : Env → M D} {E : Ends} {σ : L2.St} {H : Hp} (h : tSt K (fSetIx i fi f) E σ H) : tAsg (tD K f) (gSub (tVar i) (tD K fi) rSetL) E σ H := by
  obtain ⟨F0, H0, bx, ρ, F, B, o, B', e, k, q⟩ := h
  obtain ⟨ds, e1, e2⟩ := ob_eq e
  obtain ⟨d, B1, e3, e4⟩ := mb_eq e2
  obtain ⟨x, B2, e5, e7⟩ := mb_eq e4
  obtain ⟨j, e8, e9⟩ := ob_eq e7
  obtain ⟨n, e10, e11⟩ := ob_eq e9
  cases e11
  refine ⟨F0, H0, bx, ρ, F, B, d, _, e3, k, fun v F1 H1 s1 sub1 b1 r1 => ?_⟩
  have k1 := k.step s1 sub1 b1
  obtain ⟨e6, l, vs, g1, g2, g3, g4⟩ := own_at k1 e1
  refine ⟨.ref l, g1, F0, H0, bx, ρ, F1, B1, x, _, e5, k1, fun w F2 H2 s2 sub2 b2 r2 => ?_⟩
  have k2 := k1.step s2 sub2 b2
  obtain ⟨_, l', vs', g1', g2', g3', g4'⟩ := own_at k2 e1
  rw [g1] at g1'; cases g1'
  cases x <;> simp only [int?] at e8 <;> cases e8
  cases r2
  refine ⟨l, vs', j, n, rfl, rfl, g2', by rw [g3'.length]; exact e10, ?_⟩
  exact q σ F2 _ (s1.fex.trans s2.fex) (k2.chg e6 g1 (RpA.set (r1.mono s2.fex) n g3'))
variable {p1 p2 p3 : Pos} {a b : Expr}
theorem ds_ret (he : PE X e (tD X.K f)) : PS X (.Return (some e) pos) (tSt X.K (fRet f)) := PS.wk (ps_ret he) fun E σ H ⟨F0, H0, bx, ρ, F, B, o, B', e, k, q⟩ => by
  obtain ⟨d, B1, e1, e2⟩ := mb_eq e
  cases e2
  exact ⟨F0, H0, bx, ρ, F, B, d, _, e1, k, fun v F1 H1 s1 sub1 b1 r1 => q v F1 H1 s1.fex (k.stp.trans s1) sub1 b1 r1⟩
theorem ds_retN : PS X (.Return none pos) (tSt X.K fRetN) := PS.wk ps_retN fun E σ H ⟨F0, H0, bx, ρ, F, B, o, B', e, k, q⟩ => by
  cases e
  exact q .non F H (Same.refl _) k.stp k.sub k.box .non
theorem ds_drop (he : PE X e (tD X.K f)) (hs : swapsWith e none pos.line X.env = pure false := by rfl) : PS X (.Expr e pos) (tSt X.K (fDrop f)) := PS.wk (ps_expr he hs) fun E σ H ⟨F0, H0, bx, ρ, F, B, o, B', e, k, q⟩ => by
  obtain ⟨d, B1, e1, e2⟩ := mb_eq e
  cases e2
  exact ⟨F0, H0, bx, ρ, F, B, d, _, e1, k, fun v F1 H1 s1 sub1 b1 r1 => q σ F1 H1 s1.fex (k.step s1 sub1 b1)⟩
theorem ds_pass : PS X (.Pass pos) (tSt X.K fNext) := PS.wk ps_pass fun E σ H ⟨F0, H0, bx, ρ, F, B, o, B', e, k, q⟩ => by
  cases e
  exact q σ F H (Same.refl _) k
theorem ds_break : PS X (.Break pos) (tSt X.K fBrk) := PS.wk ps_break fun E σ H ⟨F0, H0, bx, ρ, F, B, o, B', e, k, q⟩ => by
  cases e
  exact q σ F H (Same.refl _) k
theorem ds_cont : PS X (.Continue pos) (tSt X.K fCnt) := PS.wk ps_continue fun E σ H ⟨F0, H0, bx, ρ, F, B, o, B', e, k, q⟩ => by
  cases e
  exact q σ F H (Same.refl _) k
variable {st : Stmt} {rest sa sb : List Stmt} {g h : Env → M Out} {ft : Env → M Bool} {c : Expr}
theorem dss_nil : PSs X [] (tSt X.K fNext) := PSs.wk pss_nil fun E σ H ⟨F0, H0, bx, ρ, F, B, o, B', e, k, q⟩ => by
  cases e
  exact q σ F H (Same.refl _) k
theorem dss_one (h1 : PS X st (tSt X.K g)) : PSs X [st] (tSt X.K g) := pss_one h1
theorem dss_cons (h1 : PS X st (tSt X.K g)) (h2 : PSs X rest (tSt X.K h)) : PSs X (st :: rest) (tSt X.K (fSeq g h)) := PSs.wk (pss_cons h1 h2) fun E σ H ⟨F0, H0, bx, ρ, F, B, o, B', e, k, q⟩ => by
  obtain ⟨o1, B1, e1, e2⟩ := mb_eq e
  refine ⟨F0, H0, bx, ρ, F, B, o1, B1, e1, k, ?_⟩
  cases o1 with
  | nx ρ1 => exact fun σ1 F1 H1 s1 k1 => ⟨F0, H0, bx, ρ1, F1, B1, o, B', e2, k1, q.mono s1⟩
  | ret d => cases e2; exact q
  | brk ρ1 => cases e2; exact q
  | cnt ρ1 => cases e2; exact q
theorem ds_if (hc : PT X c (tT X.K ft)) (ha : PSs X sa (tSt X.K g)) (hb : PSs X sb (tSt X.K h)) : PS X (.If c sa sb pos) (tSt X.K (fIf ft g h)) := PS.wk (ps_if hc ha hb) fun E σ H ⟨F0, H0, bx, ρ, F, B, o, B', e, k, q⟩ => by
  obtain ⟨b, B1, e1, e2⟩ := mb_eq e
  refine ⟨F0, H0, bx, ρ, F, B, b, B1, e1, k, fun F1 H1 s1 sub1 b1 => ?_⟩
  cases b with
  | true => exact iteT ⟨F0, H0, bx, ρ, F1, B1, o, B', e2, k.step s1 sub1 b1, q.mono s1.fex⟩
  | false => exact iteF ⟨F0, H0, bx, ρ, F1, B1, o, B', e2, k.step s1 sub1 b1, q.mono s1.fex⟩
theorem ds_frz (j : Nat) (h1 : PS X st (tSt X.K g)) : PS X st (tSt X.K (fFrz j g)) := PS.wk h1 fun E σ H ⟨F0, H0, bx, ρ, F, B, o, B', e, k, q⟩ => by
  unfold fFrz frzE at e
  split at e
  · rename_i ds hd
    obtain ⟨F', sm, k'⟩ := k.frz hd
    exact ⟨F0, H0, bx, _, F', B, o, B', e, k', q.mono sm⟩
  · exact ⟨F0, H0, bx, ρ, F, B, o, B', e, k, q⟩
theorem ds_for {tg iter : Expr} {fi : Env → M (List D)} {ix : List Nat} {gt : D → Env → Option Env} (hp : PassesOwn (model X.prog X.w) X.A X.env X.xe) (hc : X.calm = true) (hi : PI X tg iter (tI X.K fi)) (hg : PG X tg (tG X.K ix gt)) (hb : PSs X sa (tSt X.K g)) (hs : ∀ x, foldedSetIterable iter X.env x = pure x := by intro _; rfl) :
    PS X (.For tg iter sa [] pos) (tSt X.K (fFor fi gt g)) := PS.wk (ps_for hp hc hi hg hb hs) fun E σ H ⟨F0, H0, bx, ρ, F, B, o, B', e, k, q⟩ => by
  obtain ⟨items, B1, e1, e2⟩ := mb_eq e
  refine ⟨F0, H0, bx, ρ, F, B, items, B1, e1, k, fun J F1 H1 s1 sub1 b1 go => ?_⟩
  refine ⟨fun i m σ H => m = items.length - i ∧ i ≤ items.length ∧ ∃ ρ F2 Bc, Ok X.K F0 H0 bx σ ρ F2 H Bc ∧ Same F1 F2 ∧ forL gt g (items.drop i) ρ Bc = some (o, B'), ⟨items.length, by simp, Nat.zero_le _, ρ, F1, B1, k.step s1 sub1 b1, Same.refl _, e2⟩, ?_⟩
  rintro i m σ2 H2 ⟨rfl, hi, ρ2, F2, Bc, k2, s2, e3⟩
  by_cases hlt : i < items.length
  · refine .inr ?_
    have hd : items[i]? = some items[i] := List.getElem?_eq_getElem hlt
    obtain ⟨hgo, hy⟩ := (go i F2 H2 s2 k2.sub).1 _ hd
    refine ⟨hgo, fun σ' H' => ∃ ρ F2 Bc, Ok X.K F0 H0 bx σ' ρ F2 H' Bc ∧ Same F1 F2 ∧ forL gt g (items.drop (i + 1)) ρ Bc = some (o, B'), fun σ' H' hw => ⟨items.length - (i + 1), by omega, rfl, by omega, hw⟩, fun x H3 y => ?_⟩
    obtain ⟨F3, s3, sub3, r3⟩ := hy x H3 y
    have k3 := k2.step s3.of_none sub3 (k2.box.step s3.same)
    rw [List.drop_eq_getElem_cons hlt] at e3
    obtain ⟨ρ1, e4, e5⟩ := ob_eq e3
    obtain ⟨o1, B3, e6, e7⟩ := mb_eq e5
    refine ⟨F0, H0, bx, ρ2, F3, Bc, items[i], ρ1, k3, r3, e4, fun σ' k4 _ => ⟨F0, H0, bx, ρ1, F3, Bc, o1, B3, e6, k4, ?_⟩⟩
    have s13 : Same F1 F3 := s2.trans s3.fex
    cases o1 with
    | nx ρ4 => exact fun σ4 F4 H4 s4 k5 => ⟨ρ4, F4, B3, k5, s13.trans s4, e7⟩
    | cnt ρ4 => exact fun σ4 F4 H4 s4 k5 => ⟨ρ4, F4, B3, k5, s13.trans s4, e7⟩
    | brk ρ4 => cases e7; exact OutOk.mono (o := .nx ρ4) (s1.fex.trans s13) q
    | ret d => cases e7; exact OutOk.mono (o := .ret d) (s1.fex.trans s13) q
  · have hie : i = items.length := by omega
    subst hie
    rw [List.drop_length] at e3
    cases e3
    exact .inl ⟨(go _ F2 H2 s2 k2.sub).2 (Nat.le_refl _), q σ2 F2 H2 (s1.fex.trans s2) k2⟩
theorem ds_while (hp : PassesOwn (model X.prog X.w) X.A X.env X.xe) (hc : PT X c (tT X.K ft)) (hb : PSs X sa (tSt X.K g)) : PS X (.While c sa [] pos) (tSt X.K (fWhile ft g)) := PS.wk (ps_while hp hc hb) fun E σ H ⟨F0, H0, bx, ρ, F, B, o, B', e, k, q⟩ => by
  refine ⟨fun n σ H => ∃ ρ F2 Bc, Ok X.K F0 H0 bx σ ρ F2 H Bc ∧ Same F F2 ∧ whileF ft g n ρ Bc = some (o, B'), ⟨wfuel, ρ, F, B, k, Same.refl _, e⟩, ?_⟩
  rintro n σ2 H2 ⟨ρ2, F2, Bc, k2, s2, e3⟩
  cases n with
  | zero => cases e3
  | succ n =>
    obtain ⟨b, B1, e4, e5⟩ := mb_eq e3
    refine ⟨F0, H0, bx, ρ2, F2, Bc, b, B1, e4, k2, fun F3 H3 s3 sub3 b3 => ?_⟩
    have k3 := k2.step s3 sub3 b3
    cases b with
    | false =>
      cases e5
      exact iteF (q σ2 F3 H3 (s2.trans s3.fex) k3)
    | true =>
      refine iteT ?_
      obtain ⟨o1, B3, e6, e7⟩ := mb_eq e5
      refine ⟨fun σ H => ∃ ρ F2 Bc, Ok X.K F0 H0 bx σ ρ F2 H Bc ∧ Same F F2 ∧ whileF ft g n ρ Bc = some (o, B'), fun σ' H' hw => ⟨n, by omega, hw⟩, F0, H0, bx, ρ2, F3, B1, o1, B3, e6, k3, ?_⟩
      have s13 : Same F F3 := s2.trans s3.fex
      cases o1 with
      | nx ρ4 => exact fun σ4 F4 H4 s4 k5 => ⟨ρ4, F4, B3, k5, s13.trans s4, e7⟩
      | cnt ρ4 => exact fun σ4 F4 H4 s4 k5 => ⟨ρ4, F4, B3, k5, s13.trans s4, e7⟩
      | brk ρ4 => cases e7; exact OutOk.mono (o := .nx ρ4) s13 q
      | ret d => cases e7; exact OutOk.mono (o := .ret d) s13 q
end

section
variable {X : Cx} {st : Stmt} {f fi : Env → M D} {i : Nat}
theorem ds_append (h : PS X st (tDrop (tBM X.K "list" rAppend (tVar i) (tCons (tD X.K f) tNil)))) : PS X st (tSt X.K (fApp i f)) := PS.wk h fun _ _ _ h => app_go h
theorem ds_extend (h : PS X st (tDrop (tBM X.K "list" rExtend (tVar i) (tCons (tS X.K f) tNil)))) : PS X st (tSt X.K (fExt i f)) := PS.wk h fun _ _ _ h => ext_go h
theorem ds_insert (h : PS X st (tDrop (tBM X.K "list" rInsert (tVar i) (tCons (tD X.K fi) (tCons (tD X.K f) tNil))))) : PS X st (tSt X.K (fIns i fi f)) := PS.wk h fun _ _ _ h => ins_go h
theorem ds_setix (h : PS X st (tAsg (tD X.K f) (gSub (tVar i) (tD X.K fi) rSetL))) : PS X st (tSt X.K (fSetIx i fi f)) := PS.wk h fun _ _ _ h => setIx_go h
end

def spP (K : PySem.W.Frag) (n : Nat) (G : List D → Option D) : Sp := fun vs H Q _ => ∃ F ds d, Same F H ∧ RpA K F vs ds ∧ ds.length = n ∧ G ds = some d ∧ ∀ v F' H', Stp none F H F' H' → Same F' H' → Rp K F' v d → Q v H'
def spB (K : PySem.W.Frag) (n : Nat) (G : List D → M D) : Sp := fun vs H Q _ => ∃ b c ws F ds B d B', vs = .ref b :: ws ∧ Same F H ∧ F b = none ∧ F c = none ∧ BoxOk (some (b, c)) H B ∧ RpA K F ws ds ∧ ds.length + 1 = n ∧ G ds B = some (d, B') ∧
  ∀ v F' H', Stp (some (b, c)) F H F' H' → Same F' H' → BoxOk (some (b, c)) H' B' → Rp K F' v d → Q v H'
def outD : Option (Out × BS) → Option (D × BS)
  | some (.ret d, B) => some (d, B)
  | some (.nx _, B) => some (.none, B)
  | _ => none
def envP (m : Nat) (ds : List D) : Env := ds.map Sl.d ++ List.replicate (m - ds.length) Sl.no
def runP (m n : Nat) (g : Env → M Out) (ds : List D) : Option D := gd (decide (ds.length = n)) (mb (outD (g (envP m ds) ⟨[], []⟩)) fun d _ => some d)
def runB (m n : Nat) (g : Env → M Out) (ds : List D) : M D := fun B => gd (decide (ds.length + 1 = n)) (outD (g (.box :: envP (m - 1) ds) B))
section
variable {P : Program} {w : World} {K : PySem.W.Frag} {mg : Str → Option Value} {base : Heap}
theorem ok_start {F H : Hp} {B : BS} {vs : List V} {ds : List D} (sub : Same F H) (r : RpA K F vs ds) {N : List Str} (hl : vs.length ≤ N.length) : Ok K F H none (L2.start N vs) (envP N.length ds) F H B where
  sub := sub
  bxF := fun a i => absurd i InB.none
  box := BoxOk.none
  stp := .refl
  len := by
    have := r.length
    unfold L2.start envP
    simp
    omega
  sl := fun i s e => by
    have hrl := r.length
    unfold envP at e
    unfold L2.start
    by_cases hi : i < ds.length
    · rw [List.getElem?_append_left (by simpa using hi), List.getElem?_map] at e
      rw [List.getElem?_append_left (by simp; omega), List.getElem?_map]
      cases q : ds[i]? with
      | none => rw [q] at e; cases e
      | some d =>
        rw [q] at e
        cases e
        obtain ⟨v, hv, rv⟩ := r.get q
        exact ⟨v, by rw [hv]; rfl, rv⟩
    · rw [List.getElem?_append_right (by simp; omega)] at e
      obtain ⟨_, e⟩ := List.getElem?_eq_some_iff.mp e
      rw [List.getElem_replicate] at e
      subst e
      trivial
  dis := fun i j xs ys l hij e1 e2 e3 => by
    unfold envP at e1
    by_cases hi : i < ds.length
    · rw [List.getElem?_append_left (by simpa using hi), List.getElem?_map] at e1
      cases q : ds[i]? with
      | none => rw [q] at e1; cases e1
      | some d => rw [q] at e1; cases e1
    · rw [List.getElem?_append_right (by simp; omega)] at e1
      obtain ⟨_, e1⟩ := List.getElem?_eq_some_iff.mp e1
      rw [List.getElem_replicate] at e1
      cases e1
theorem start_cons {v : V} {vs : List V} {x : Str} {N : List Str} : L2.start (x :: N) (v :: vs) = some v :: L2.start N vs := by
  unfold L2.start
  simp
theorem ok_startB {F H : Hp} {B : BS} {b c : Addr} {vs : List V} {ds : List D} (sub : Same F H) (fb : F b = none) (fc : F c = none) (bo : BoxOk (some (b, c)) H B) (r : RpA K F vs ds) {x : Str} {N : List Str} (hl : vs.length ≤ N.length) :
    Ok K F H (some (b, c)) (L2.start (x :: N) (.ref b :: vs)) (.box :: envP N.length ds) F H B := by
  have k := ok_start (K := K) (B := B) sub r hl
  rw [start_cons]
  refine ⟨sub, fun a i => ?_, bo, .refl, by simp [k.len], fun i s e => ?_, fun i j xs ys l hij e1 e2 e3 => ?_⟩
  · obtain ⟨b', c', e, i⟩ := i
    cases e
    rcases i with rfl | rfl
    · exact fb
    · exact fc
  · cases i with
    | zero => cases e; exact ⟨b, c, rfl, rfl⟩
    | succ i =>
      have q := k.sl i s e
      cases s with
      | no => trivial
      | d d => exact q
      | own ds' =>
        exfalso
        have e' : (envP N.length ds)[i]? = some (.own ds') := e
        unfold envP at e'
        by_cases hi : i < ds.length
        · rw [List.getElem?_append_left (by simpa using hi), List.getElem?_map] at e'
          cases q : ds[i]? with
          | none => rw [q] at e'; cases e'
          | some d => rw [q] at e'; cases e'
        · rw [List.getElem?_append_right (by simp; omega)] at e'
          obtain ⟨_, e'⟩ := List.getElem?_eq_some_iff.mp e'
          rw [List.getElem_replicate] at e'
          cases e'
      | dk ds' =>
        exfalso
        have e' : (envP N.length ds)[i]? = some (.dk ds') := e
        unfold envP at e'
        by_cases hi : i < ds.length
        · rw [List.getElem?_append_left (by simpa using hi), List.getElem?_map] at e'
          cases q : ds[i]? with
          | none => rw [q] at e'; cases e'
          | some d => rw [q] at e'; cases e'
        · rw [List.getElem?_append_right (by simp; omega)] at e'
          obtain ⟨_, e'⟩ := List.getElem?_eq_some_iff.mp e'
          rw [List.getElem_replicate] at e'
          cases e'
      | box => obtain ⟨_, _, z, _⟩ := q; cases z
  · cases i with
    | zero => cases e1
    | succ i =>
      cases j with
      | zero => cases e2
      | succ j => exact k.dis i j xs ys l (by omega) e1 e2 e3
theorem fn_p {x : Str} {st : Stmt} {f : Addr} {fd : FuncData} {N ps : List Str} {k n : Nat} {g : Env → M Out} (F : Fun K x x st f fd) (S : FnScope N ps (defScope st)) (hn : ps.length = n) (hm : n ≤ N.length)
    (hb : ∀ (cdv : Value) (A : Around) (o : List PySem.Env) (s : Shared) (H : Hp) (E : XK), Room k (A.deeper (PyProof.Rows.envOfC x (defScope st) s.heap.objs.size f cdv)) → PSs (cxOf CX0 P w K mg base N x (defScope st) f cdv A o s H E).nox (defBody st) (tSt K g)) :
    FnOk P w K mg base CX0 (k + 1) f fd ps (spP K n (runP N.length n g)) := by
  refine F.ok S (fun vs H Q E h => ?_) (fun cdv A outer s H vs Q E hr h => ⟨tSt K g, hb cdv A outer s H E hr, ?_⟩)
  · obtain ⟨F, ds, d, _, r, hl, _⟩ := h
    rw [r.length, hl, hn]
  · obtain ⟨F, ds, d, sub, r, hl, e, q⟩ := h
    obtain ⟨_, e⟩ := gd_eq e
    obtain ⟨d', B', e1, e2⟩ := mb_eq e
    cases e2
    have kk := ok_start (K := K) (B := ⟨[], []⟩) sub r (N := N) (by rw [r.length, hl]; exact hm)
    cases e3 : g (envP N.length ds) ⟨[], []⟩ with
    | none => rw [e3] at e1; cases e1
    | some o =>
      obtain ⟨o, B2⟩ := o
      rw [e3] at e1
      refine ⟨F, H, none, _, F, _, o, B2, e3, kk, ?_⟩
      cases o with
      | nx ρ => cases e1; exact fun σ F' H' _ k' => q .non F' H' k'.stp k'.sub .non
      | ret d => cases e1; exact fun v F' H' _ st sub' _ r' => q v F' H' st sub' r'
      | brk _ => cases e1
      | cnt _ => cases e1
theorem fn_b {x y : Str} {st : Stmt} {f : Addr} {fd : FuncData} {N ps : List Str} {k n : Nat} {g : Env → M Out} (F : Fun K x x st f fd) (S : FnScope (y :: N) ps (defScope st)) (hn : ps.length = n) (hm : n ≤ N.length + 1)
    (hb : ∀ (cdv : Value) (A : Around) (o : List PySem.Env) (s : Shared) (H : Hp) (E : XK), Room k (A.deeper (PyProof.Rows.envOfC x (defScope st) s.heap.objs.size f cdv)) → PSs (cxOf CX0 P w K mg base (y :: N) x (defScope st) f cdv A o s H E).nox (defBody st) (tSt K g)) :
    FnOk P w K mg base CX0 (k + 1) f fd ps (spB K n (runB (N.length + 1) n g)) := by
  refine F.ok S (fun vs H Q E h => ?_) (fun cdv A outer s H vs Q E hr h => ⟨tSt K g, hb cdv A outer s H E hr, ?_⟩)
  · obtain ⟨b, c, ws, F, ds, B, d, B', rfl, _, _, _, _, r, hl, _⟩ := h
    rw [List.length_cons, r.length, hl, hn]
  · obtain ⟨b, c, ws, F, ds, B, d, B', rfl, sub, fb, fc, bo, r, hl, e, q⟩ := h
    obtain ⟨_, e1⟩ := gd_eq e
    have kk := ok_startB (K := K) sub fb fc bo r (x := y) (N := N) (by rw [r.length]; omega)
    cases e3 : g (.box :: envP N.length ds) B with
    | none => rw [show N.length + 1 - 1 = N.length from rfl, e3] at e1; cases e1
    | some o =>
      obtain ⟨o, B2⟩ := o
      rw [show N.length + 1 - 1 = N.length from rfl, e3] at e1
      refine ⟨F, H, some (b, c), _, F, _, o, B2, e3, kk, ?_⟩
      cases o with
      | nx ρ => cases e1; exact fun σ F' H' _ k' => q .non F' H' k'.stp k'.sub k'.box .non
      | ret d => cases e1; exact fun v F' H' _ st sub' b' r' => q v F' H' st sub' b' r'
      | brk _ => cases e1
      | cnt _ => cases e1
end
structure CalS (P : Program) (w : World) (K : PySem.W.Frag) (mg : Str → Option Value) (base : Heap) (x : Str) (k : Nat) (sp : Sp) : Prop where
  ex : ∃ f fd ps, FnOk P w K mg base CX0 k f fd ps sp ∧ Binds K fd ps [] ∧ mg x = some (.ref f) ∧ PySem.W.keepIn K (.ref f) = true
def Cal (P : Program) (w : World) (K : PySem.W.Frag) (mg : Str → Option Value) (base : Heap) (x : Str) (k n : Nat) (G : List D → Option D) : Prop := CalS P w K mg base x k (spP K n G)
def CalB (P : Program) (w : World) (K : PySem.W.Frag) (mg : Str → Option Value) (base : Heap) (x : Str) (k n : Nat) (G : List D → M D) : Prop := CalS P w K mg base x k (spB K n G)
theorem CalS.mono {P : Program} {w : World} {K : PySem.W.Frag} {mg : Str → Option Value} {base : Heap} {x : Str} {j k : Nat} {sp : Sp} (h : CalS P w K mg base x j sp) (hk : j ≤ k) : CalS P w K mg base x k sp := by
  obtain ⟨f, fd, ps, h1, h2⟩ := h.ex
  exact ⟨f, fd, ps, h1.mono hk, h2⟩
theorem Cal.none_left {P : Program} {w : World} {K : PySem.W.Frag} {mg : Str → Option Value} {base : Heap} {x : Str} {f : Addr} {fd : FuncData} {ps : List Str} {n : Nat} (hb : Binds K fd ps []) (hm : mg x = some (.ref f)) (hk : PySem.W.keepIn K (.ref f) = true) : Cal P w K mg base x 0 n (fun _ => none) := by
  have no : ∀ vs H Q E, ¬ spP K n (fun _ => none) vs H Q E := fun vs H Q E h => by
    obtain ⟨_, _, _, _, _, _, e, _⟩ := h
    cases e
  exact ⟨f, fd, ps, ⟨fun vs H Q E h => absurd h (no vs H Q E), fun A outer s H args us vs Q E _ _ _ _ h => absurd h (no vs H Q E)⟩, hb, hm, hk⟩
def fCall (n : Nat) (G : List D → Option D) (fs : Env → M (List D)) : Env → M D := fun ρ B => mb (fs ρ B) fun ds B1 => gd (decide (ds.length = n)) (ob (G ds) fun d => some (d, B1))
def isBox : Option Sl → Bool
  | some .box => true
  | _ => false
def fCallB (i n : Nat) (G : List D → M D) (fs : Env → M (List D)) : Env → M D := fun ρ B => gd (isBox ρ[i]?) (mb (fs ρ B) fun ds B1 => gd (decide (ds.length + 1 = n)) (G ds B1))
section
variable {X : Cx} {x : Str} {e : Expr} {es : List Expr} {fs : Env → M (List D)} {pos p : Pos}
theorem de_call {j k n : Nat} {G : List D → Option D} (C : Cal X.prog X.w X.K X.mg X.base x j n G) (hr : Room k X.A) (hk : j ≤ k) (hg : Gl X x) (ha : PA X (e :: es) (tA X.K fs)) (hdb : (x == ("__debug__" : Str)) = false := by decide)
    (he : starEach (e :: es) X.env = (false, eval e X.env) :: starEach es X.env := by rfl) (hpl : (backTo pos (starEach es X.env)).any (·.1) = false := by rfl) : PE X (.Call (.Name x p) (e :: es) [] pos) (tD X.K (fCall n G fs)) := by
  obtain ⟨f, fd, ps, h1, h2, h3, h4⟩ := C.ex
  refine PE.wk (pe_call h1 (hr.mono hk) hg h3 h4 h2 .nil pass0 ha hdb he hpl) fun σ H Q ⟨F0, H0, bx, ρ, F, B, d, B', e, k, q⟩ => ?_
  obtain ⟨ds, B1, e1, e2⟩ := mb_eq e
  obtain ⟨hl, e3⟩ := gd_eq e2
  obtain ⟨d', e4, e5⟩ := ob_eq e3
  cases e5
  refine ⟨F0, H0, bx, ρ, F, B, ds, _, e1, k, fun vs F1 H1 s1 sub1 b1 r1 => ?_⟩
  show spP X.K n G (vs ++ []) H1 Q E0
  rw [List.append_nil]
  exact ⟨F1, ds, d, sub1, r1, of_decide_eq_true hl, e4, fun v F' H' s sub r => q v F' H' (s1.trans s.of_none) sub (b1.step s.same) r⟩
theorem de_callB (i : Nat) {y : Str} {py : Pos} {j k n : Nat} {G : List D → M D} (C : CalB X.prog X.w X.K X.mg X.base x j n G) (hr : Room k X.A) (hk : j ≤ k) (hg : Gl X x) (ha : PA X es (tA X.K fs)) (hN : X.N[i]? = some y := by rfl) (hv : Vis X.env.scope y := by first | exact Or.inl rfl | exact Or.inr (Or.inl rfl) | exact Or.inr (Or.inr rfl)) (hdb : (x == ("__debug__" : Str)) = false := by decide)
    (he : starEach (.Name y py :: es) X.env = (false, eval (.Name y py) X.env) :: starEach es X.env := by rfl) (hpl : (backTo pos (starEach es X.env)).any (·.1) = false := by rfl) (hd : (y == ("__debug__" : Str)) = false := by decide) (hcd : (y == ("__classdict__" : Str)) = false := by decide) : PE X (.Call (.Name x p) (.Name y py :: es) [] pos) (tD X.K (fCallB i n G fs)) := by
  obtain ⟨f, fd, ps, h1, h2, h3, h4⟩ := C.ex
  refine PE.wk (pe_call h1 (hr.mono hk) hg h3 h4 h2 .nil pass0 (pa_cons (pe_var hN hv hd hcd) ha he) hdb he hpl) fun σ H Q ⟨F0, H0, bx, ρ, F, B, d, B', e, k, q⟩ => ?_
  obtain ⟨hb, e0⟩ := gd_eq e
  obtain ⟨ds, B1, e1, e2⟩ := mb_eq e0
  obtain ⟨hl, e3⟩ := gd_eq e2
  have e9 : ρ[i]? = some .box := by
    unfold isBox at hb
    split at hb
    · assumption
    · cases hb
  obtain ⟨b, c, rfl, g2⟩ := k.sl i _ e9
  refine ⟨.ref b, g2, F0, H0, _, ρ, F, B, ds, _, e1, k, fun vs F1 H1 s1 sub1 b1 r1 => ?_⟩
  show spB X.K n G (V.ref b :: vs ++ []) H1 Q E0
  rw [List.append_nil]
  have k1 := k.step s1 sub1 b1
  exact ⟨b, c, vs, F1, ds, B1, d, B', rfl, sub1, k1.bxF b ⟨b, c, rfl, .inl rfl⟩, k1.bxF c ⟨b, c, rfl, .inr rfl⟩, b1, r1, of_decide_eq_true hl, e3, fun v F' H' s sub b r => q v F' H' (s1.trans s) sub b r⟩
end
end DL

namespace DL
open PySem PySem.Spec L2
def gAdd : D → D → Option D
  | .int i, .int j => some (.int (i + j))
  | .str s, .str t => gd (decide (s.length + t.length ≤ sizeLine)) (some (.str (s ++ t)))
  | .list xs, .list ys => gd (decide (xs.length + ys.length ≤ sizeLine)) (some (.list (xs ++ ys)))
  | .tuple xs, .tuple ys => gd (decide (xs.length + ys.length ≤ sizeLine)) (some (.tuple (xs ++ ys)))
  | _, _ => none
def gSub : D → D → Option D
  | .int i, .int j => some (.int (i - j))
  | _, _ => none
def small64 (i : Int) : Bool := decide (-(2 ^ 64) < i ∧ i < 2 ^ 64)
def gMul : D → D → Option D
  | .int i, .int j => gd (small64 i || small64 j) (some (.int (i * j)))
  | .list xs, .int k => gd (decide (-(2 ^ 63) ≤ k ∧ k < 2 ^ 63 ∧ xs.length * k.toNat ≤ sizeLine)) (some (.list (List.replicate k.toNat xs).flatten))
  | _, _ => none
def gMod : D → D → Option D
  | .int i, .int j => gd (decide (0 < j)) (some (.int (i % j)))
  | _, _ => none
def gFdiv : D → D → Option D
  | .int i, .int j => gd (decide (0 < j ∧ j < 1073741824)) (some (.int (i / j)))
  | _, _ => none
def gShl : D → D → Option D
  | .int i, .int j => gd (decide (0 ≤ j ∧ j ≤ 1000000 ∧ i.natAbs < 2 ^ 64)) (some (.int (i * 2 ^ j.toNat)))
  | _, _ => none
def gNeg : D → Option D
  | .int i => some (.int (-i))
  | _ => none
def gEq : D → D → Option D := fun d e => gd (decide (min d.depth e.depth ≤ 150)) (some (.bool (PyData.eqv d e)))
def gNe : D → D → Option D := fun d e => gd (decide (min d.depth e.depth ≤ 150)) (some (.bool (!PyData.eqv d e)))
def gLt : D → D → Option D
  | .int i, .int j => some (.bool (decide (i < j)))
  | _, _ => none
def gLe : D → D → Option D
  | .int i, .int j => some (.bool (decide (i ≤ j)))
  | _, _ => none
def gGt : D → D → Option D
  | .int i, .int j => some (.bool (decide (j < i)))
  | _, _ => none
def gGe : D → D → Option D
  | .int i, .int j => some (.bool (decide (j ≤ i)))
  | _, _ => none
def isNone : D → Bool
  | .none => true
  | _ => false
def isBool (b : Bool) : D → Bool
  | .bool c => c == b
  | _ => false
def gIs : D → D → Option D
  | d, .none => some (.bool (isNone d))
  | d, .bool b => some (.bool (isBool b d))
  | _, _ => none
def gIsNot : D → D → Option D
  | d, .none => some (.bool (!isNone d))
  | d, .bool b => some (.bool (!isBool b d))
  | _, _ => none
def gIn : D → D → Option D
  | d, .list xs => gd (decide (min (PyData.depthAll xs) d.depth ≤ 150)) (some (.bool (xs.any fun y => PyData.eqv y d)))
  | d, .tuple xs => gd (decide (min (PyData.depthAll xs) d.depth ≤ 150)) (some (.bool (xs.any fun y => PyData.eqv y d)))
  | _, _ => none
def gNotIn : D → D → Option D
  | d, .list xs => gd (decide (min (PyData.depthAll xs) d.depth ≤ 150)) (some (.bool (!xs.any fun y => PyData.eqv y d)))
  | d, .tuple xs => gd (decide (min (PyData.depthAll xs) d.depth ≤ 150)) (some (.bool (!xs.any fun y => PyData.eqv y d)))
  | _, _ => none
def gIx : D → D → Option D
  | .list ds, .int i => atI ds i
  | .tuple ds, .int i => atI ds i
  | .str z, .int i => gd (decide (z.length ≤ sizeLine)) (ob (atI z.cps.toList i) fun c => some (.str ⟨#[c]⟩))
  | _, _ => none

section
variable {K : PySem.W.Frag} {bx : BxA} {F H : Hp}
theorem rpA_atI {vs : List V} {ds : List D} {i : Int} {d : D} (h : RpA K F vs ds) (e : atI ds i = some d) : ∃ v, atI vs i = some v ∧ Rp K F v d := by
  unfold atI at e ⊢
  rw [← h.length] at e
  cases q : ixN vs.length i with
  | none => rw [q] at e; cases e
  | some j =>
    rw [q] at e
    exact h.get e
theorem Rp.of_lst_new {p : Addr} {vs : List V} {ds : List D} (hp : H p = none) (sub : Same F H) (r : RpA K F vs ds) {Q : VK} (q : ∀ w F' H', Stp none F H F' H' → Same F' H' → Rp K F' w (.list ds) → Q w H') : Q (.ref p) (upd H p (.lst vs)) :=
  q _ _ _ (.laid hp sub) (same_laid sub) (.lst upd_same (r.mono (Stp.laid (bx := Option.none) hp sub).fex))
theorem Rp.of_tup_new {p : Addr} {vs : List V} {ds : List D} (hp : H p = none) (sub : Same F H) (r : RpA K F vs ds) {Q : VK} (q : ∀ w F' H', Stp none F H F' H' → Same F' H' → Rp K F' w (.tuple ds) → Q w H') : Q (.ref p) (upd H p (.tup vs)) :=
  q _ _ _ (.laid hp sub) (same_laid sub) (.tup (.of upd_same) (r.mono (Stp.laid (bx := Option.none) hp sub).fex))
end
section
variable {X : Cx}
theorem od_add : OpD X (binaryOp .Add) gAdd := by
  intro pins s σ H x y v u Q I rx ry h
  obtain ⟨bx, F, a, b, d, sub, ra, rb, e, q⟩ := h
  unfold gAdd at e
  split at e
  · cases e; cases ra.int; cases rb.int
    exact op_add pins s σ H _ _ v u Q I rx ry ⟨_, _, rfl, rfl, q _ F H .refl sub (.int _)⟩
  · obtain ⟨h1, h2⟩ := gd_eq e
    cases h2; cases ra.str; cases rb.str
    exact op_add_str pins s σ H _ _ v u Q I rx ry ⟨_, _, rfl, rfl, of_decide_eq_true h1, q _ F H .refl sub (.str _)⟩
  · obtain ⟨h1, h2⟩ := gd_eq e
    cases h2
    obtain ⟨l, vs, rfl, g1, g2⟩ := ra.lst sub
    obtain ⟨m, ws, rfl, g3, g4⟩ := rb.lst sub
    exact op_cat pins s σ H _ _ v u Q I rx ry ⟨l, m, vs, ws, rfl, rfl, g1, g3, by rw [g2.length, g4.length]; exact of_decide_eq_true h1, fun p hp => Rp.of_lst_new hp sub (g2.append g4) q⟩
  · obtain ⟨h1, h2⟩ := gd_eq e
    cases h2
    obtain ⟨l, vs, rfl, g1, g2⟩ := ra.tup
    obtain ⟨m, ws, rfl, g3, g4⟩ := rb.tup
    refine op_catA pins s σ H _ _ v u Q I rx ry ⟨l, m, vs, ws, rfl, rfl, sqt_mono sub g1, sqt_mono sub g3, by rw [g2.length, g4.length]; exact of_decide_eq_true h1, fun z => ?_, fun _ z => ?_, fun _ _ p hp => Rp.of_tup_new hp sub (g2.append g4) q⟩
    · subst z; cases g2
      exact q _ F H .refl sub (.tup g3 g4)
    · subst z; cases g4
      rw [List.append_nil] at q
      exact q _ F H .refl sub (.tup g1 g2)
  · cases e
theorem od_sub : OpD X (binaryOp .Sub) gSub := by
  intro pins s σ H x y v u Q I rx ry h
  obtain ⟨bx, F, a, b, d, sub, ra, rb, e, q⟩ := h
  unfold gSub at e
  split at e
  · cases e; cases ra.int; cases rb.int
    exact op_sub pins s σ H _ _ v u Q I rx ry ⟨_, _, rfl, rfl, q _ F H .refl sub (.int _)⟩
  · cases e
theorem od_mul : OpD X (binaryOp .Mult) gMul := by
  intro pins s σ H x y v u Q I rx ry h
  obtain ⟨bx, F, a, b, d, sub, ra, rb, e, q⟩ := h
  unfold gMul at e
  split at e
  · obtain ⟨h1, h2⟩ := gd_eq e
    cases h2; cases ra.int; cases rb.int
    refine op_mul pins s σ H _ _ v u Q I rx ry ⟨_, _, rfl, rfl, ?_, q _ F H .refl sub (.int _)⟩
    rcases Bool.or_eq_true_iff.mp h1 with z | z
    · exact .inl (of_decide_eq_true z)
    · exact .inr (of_decide_eq_true z)
  · obtain ⟨h1, h2⟩ := gd_eq e
    cases h2; cases rb.int
    obtain ⟨l, vs, rfl, g1, g2⟩ := ra.lst sub
    obtain ⟨z1, z2, z3⟩ := of_decide_eq_true h1
    exact op_rep pins s σ H _ _ v u Q I rx ry ⟨l, _, vs, rfl, rfl, g1, z1, z2, by rw [g2.length]; exact z3, fun p hp => Rp.of_lst_new hp sub (g2.rep _) q⟩
  · cases e
theorem od_mod : OpD X (binaryOp .Mod) gMod := by
  intro pins s σ H x y v u Q I rx ry h
  obtain ⟨bx, F, a, b, d, sub, ra, rb, e, q⟩ := h
  unfold gMod at e
  split at e
  · obtain ⟨h1, h2⟩ := gd_eq e
    cases h2; cases ra.int; cases rb.int
    exact op_mod pins s σ H _ _ v u Q I rx ry ⟨_, _, rfl, rfl, of_decide_eq_true h1, q _ F H .refl sub (.int _)⟩
  · cases e
theorem od_fdiv : OpD X (binaryOp .FloorDiv) gFdiv := by
  intro pins s σ H x y v u Q I rx ry h
  obtain ⟨bx, F, a, b, d, sub, ra, rb, e, q⟩ := h
  unfold gFdiv at e
  split at e
  · obtain ⟨h1, h2⟩ := gd_eq e
    cases h2; cases ra.int; cases rb.int
    have h1 := of_decide_eq_true h1
    exact op_fdiv pins s σ H _ _ v u Q I rx ry ⟨_, _, rfl, rfl, h1, q _ F H .refl sub (.int _)⟩
  · cases e
theorem od_shl : OpD X (binaryOp .LShift) gShl := by
  intro pins s σ H x y v u Q I rx ry h
  obtain ⟨bx, F, a, b, d, sub, ra, rb, e, q⟩ := h
  unfold gShl at e
  split at e
  · obtain ⟨h1, h2⟩ := gd_eq e
    cases h2; cases ra.int; cases rb.int
    have h1 := of_decide_eq_true h1
    exact op_shl pins s σ H _ _ v u Q I rx ry ⟨_, _, rfl, rfl, h1, q _ F H .refl sub (.int _)⟩
  · cases e
theorem ud_neg : UnD X (unaryOp .USub) gNeg := by
  intro pins s σ H x v Q I rx h
  obtain ⟨bx, F, a, d, sub, ra, e, q⟩ := h
  unfold gNeg at e
  split at e
  · cases e; cases ra.int
    exact un_neg pins s σ H _ v Q I rx ⟨_, rfl, q _ F H .refl sub (.int _)⟩
  · cases e
theorem od_eq (hu : X.A.units + 200 < cLine) : OpD X (compareOp .Eq) gEq := by
  intro pins s σ H x y v u Q I rx ry h
  obtain ⟨bx, F, a, b, d, sub, ra, rb, e, q⟩ := h
  obtain ⟨h1, h2⟩ := gd_eq e
  cases h2
  obtain ⟨as, r1⟩ := Dp.reads I a x v (ra.dp sub) rx
  obtain ⟨bs, r2⟩ := Dp.reads I b y u (rb.dp sub) ry
  have h1 := of_decide_eq_true h1
  exact PySem.SeqAt.eq_plain r1 r2 ra.plain rb.plain (by omega) ⟨.bl _, H, I, rfl, q _ F H .refl sub (.bl _)⟩
theorem od_ne (hu : X.A.units + 200 < cLine) : OpD X (compareOp .NotEq) gNe := by
  intro pins s σ H x y v u Q I rx ry h
  obtain ⟨bx, F, a, b, d, sub, ra, rb, e, q⟩ := h
  obtain ⟨h1, h2⟩ := gd_eq e
  cases h2
  obtain ⟨as, r1⟩ := Dp.reads I a x v (ra.dp sub) rx
  obtain ⟨bs, r2⟩ := Dp.reads I b y u (rb.dp sub) ry
  have h1 := of_decide_eq_true h1
  exact PySem.SeqAt.ne_plain r1 r2 ra.plain rb.plain (by omega) ⟨.bl _, H, I, rfl, q _ F H .refl sub (.bl _)⟩
theorem od_lt : OpD X (compareOp .Lt) gLt := by
  intro pins s σ H x y v u Q I rx ry h
  obtain ⟨bx, F, a, b, d, sub, ra, rb, e, q⟩ := h
  unfold gLt at e
  split at e
  · cases e; cases ra.int; cases rb.int
    exact op_lt pins s σ H _ _ v u Q I rx ry ⟨_, _, rfl, rfl, q _ F H .refl sub (.bl _)⟩
  · cases e
theorem od_le : OpD X (compareOp .LtE) gLe := by
  intro pins s σ H x y v u Q I rx ry h
  obtain ⟨bx, F, a, b, d, sub, ra, rb, e, q⟩ := h
  unfold gLe at e
  split at e
  · cases e; cases ra.int; cases rb.int
    exact op_le pins s σ H _ _ v u Q I rx ry ⟨_, _, rfl, rfl, q _ F H .refl sub (.bl _)⟩
  · cases e
theorem od_gt : OpD X (compareOp .Gt) gGt := by
  intro pins s σ H x y v u Q I rx ry h
  obtain ⟨bx, F, a, b, d, sub, ra, rb, e, q⟩ := h
  unfold gGt at e
  split at e
  · cases e; cases ra.int; cases rb.int
    exact op_gt pins s σ H _ _ v u Q I rx ry ⟨_, _, rfl, rfl, q _ F H .refl sub (.bl _)⟩
  · cases e
theorem od_ge : OpD X (compareOp .GtE) gGe := by
  intro pins s σ H x y v u Q I rx ry h
  obtain ⟨bx, F, a, b, d, sub, ra, rb, e, q⟩ := h
  unfold gGe at e
  split at e
  · cases e; cases ra.int; cases rb.int
    exact op_ge pins s σ H _ _ v u Q I rx ry ⟨_, _, rfl, rfl, q _ F H .refl sub (.bl _)⟩
  · cases e
theorem rs_none {K : PySem.W.Frag} {bx : BxA} {F H : Hp} {v : V} {u : Value} {d : D} (r : RS K bx F H v d) (ru : RelV v u) : (u == Value.none) = isNone d := by
  rw [ru.none_iff]
  rcases r with r | ⟨l, vs, ds, rfl, rfl, _⟩
  · cases r <;> rfl
  · rfl
theorem rs_bool {K : PySem.W.Frag} {bx : BxA} {F H : Hp} {v : V} {u : Value} {d : D} (b : Bool) (r : RS K bx F H v d) (ru : RelV v u) : (u == Value.bool b) = isBool b d ∧ plainIs u (.bool b) = true := by
  rcases r with r | ⟨l, vs, ds, rfl, rfl, _⟩
  · cases r with
    | non => cases ru; exact ⟨rfl, rfl⟩
    | bl c => cases ru; cases b <;> cases c <;> exact ⟨rfl, rfl⟩
    | int i => obtain ⟨t, rfl⟩ := ru; exact ⟨rfl, rfl⟩
    | str i => obtain ⟨t, rfl⟩ := ru; exact ⟨rfl, rfl⟩
    | lst _ _ => cases ru; exact ⟨rfl, rfl⟩
    | tup _ _ => cases ru; exact ⟨rfl, rfl⟩
  · cases ru; exact ⟨rfl, rfl⟩
theorem od_is : OpD X (compareOp .Is) gIs := by
  intro pins s σ H x y v u Q I rx ry h
  obtain ⟨bx, F, a, b, d, sub, ra, rb, e, q⟩ := h
  unfold gIs at e
  split at e
  · cases e; cases rb.none; cases ry
    exact PyProof.Rows.is_none_gen ⟨.bl _, H, I, by rw [rs_none ra rx]; rfl, q _ F H .refl sub (.bl _)⟩
  · cases e; cases rb.bool; cases ry
    obtain ⟨h1, h2⟩ := rs_bool _ ra rx
    exact wpAny_is_plain h2 ⟨.bl _, H, I, by rw [h1]; rfl, q _ F H .refl sub (.bl _)⟩
  · cases e
theorem od_isnot : OpD X (compareOp .IsNot) gIsNot := by
  intro pins s σ H x y v u Q I rx ry h
  obtain ⟨bx, F, a, b, d, sub, ra, rb, e, q⟩ := h
  unfold gIsNot at e
  split at e
  · cases e; cases rb.none; cases ry
    exact PyProof.Rows.isnot_none_gen ⟨.bl _, H, I, by rw [rs_none ra rx]; rfl, q _ F H .refl sub (.bl _)⟩
  · cases e; cases rb.bool; cases ry
    obtain ⟨h1, h2⟩ := rs_bool _ ra rx
    exact wpAny_isNot_plain h2 ⟨.bl _, H, I, by rw [h1]; rfl, q _ F H .refl sub (.bl _)⟩
  · cases e
theorem plain_list {xs : List D} (h : (PyData.list xs).plain = true) : PyData.plainAll xs = true := by simpa [PyData.plain] using h
theorem plain_tuple {xs : List D} (h : (PyData.tuple xs).plain = true) : PyData.plainAll xs = true := by simpa [PyData.plain] using h
theorem od_in (hu : X.A.units + 200 < cLine) : OpD X (compareOp .In) gIn := by
  intro pins s σ H x y v u Q I rx ry h
  obtain ⟨bx, F, a, b, d, sub, ra, rb, e, q⟩ := h
  obtain ⟨as, r1⟩ := Dp.reads I a x v (ra.dp sub) rx
  obtain ⟨bs, r2⟩ := Dp.reads I b y u (rb.dp sub) ry
  unfold gIn at e
  split at e
  · obtain ⟨h1, h2⟩ := gd_eq e
    cases h2
    have h1 := of_decide_eq_true h1
    exact PySem.SeqAt.in_list_data r2 r1 (plain_list rb.plain) ra.plain (by omega) ⟨.bl _, H, I, rfl, q _ F H .refl sub (.bl _)⟩
  · obtain ⟨h1, h2⟩ := gd_eq e
    cases h2
    have h1 := of_decide_eq_true h1
    exact PySem.SeqAt.in_tuple_data r2 r1 (plain_tuple rb.plain) ra.plain (by omega) ⟨.bl _, H, I, rfl, q _ F H .refl sub (.bl _)⟩
  · cases e
theorem od_notin (hu : X.A.units + 200 < cLine) : OpD X (compareOp .NotIn) gNotIn := by
  intro pins s σ H x y v u Q I rx ry h
  obtain ⟨bx, F, a, b, d, sub, ra, rb, e, q⟩ := h
  obtain ⟨as, r1⟩ := Dp.reads I a x v (ra.dp sub) rx
  obtain ⟨bs, r2⟩ := Dp.reads I b y u (rb.dp sub) ry
  unfold gNotIn at e
  split at e
  · obtain ⟨h1, h2⟩ := gd_eq e
    cases h2
    have h1 := of_decide_eq_true h1
    exact PySem.SeqAt.notIn_list_data r2 r1 (plain_list rb.plain) ra.plain (by omega) ⟨.bl _, H, I, rfl, q _ F H .refl sub (.bl _)⟩
  · obtain ⟨h1, h2⟩ := gd_eq e
    cases h2
    have h1 := of_decide_eq_true h1
    exact PySem.SeqAt.notIn_tuple_data r2 r1 (plain_tuple rb.plain) ra.plain (by omega) ⟨.bl _, H, I, rfl, q _ F H .refl sub (.bl _)⟩
  · cases e
theorem xd_ix : IxR X (rOp X.K gIx) := by
  intro value slice pins s σ H x y v u Q I rx ry h hs
  obtain ⟨bx, F, a, b, d, sub, ra, rb, e, q⟩ := h
  refine ix_seq value slice pins s σ H x y v u Q I rx ry ?_ hs
  unfold gIx at e
  split at e
  · cases rb.int
    obtain ⟨l, vs, rfl, g1, g2⟩ := ra.lst sub
    obtain ⟨w, hw, rw'⟩ := rpA_atI g2 e
    exact .inl ⟨l, vs, _, w, rfl, rfl, .of g1, hw, q _ F H .refl sub rw'⟩
  · cases rb.int
    obtain ⟨l, vs, rfl, g1, g2⟩ := ra.tup
    obtain ⟨w, hw, rw'⟩ := rpA_atI g2 e
    exact .inr (.inl ⟨l, vs, _, w, rfl, rfl, sqt_mono sub g1, hw, q _ F H .refl sub rw'⟩)
  · cases rb.int; cases ra.str
    obtain ⟨h1, h2⟩ := gd_eq e
    obtain ⟨c, h3, h4⟩ := ob_eq h2
    cases h4
    exact .inr (.inr ⟨_, _, c, rfl, rfl, of_decide_eq_true h1, h3, q _ F H .refl sub (.str _)⟩)
  · cases e
end

def tPO (K : PySem.W.Frag) (f : Env → M (Option Int)) : TO := fun σ H Q => ∃ F0 H0 bx ρ F B d B', f ρ B = some (d, B') ∧ Ok K F0 H0 bx σ ρ F H B ∧ ∀ F' H', Stp bx F H F' H' → Same F' H' → BoxOk bx H' B' → Q d H'
def fPNo : Env → M (Option Int) := fun _ B => some (none, B)
def fPSo (f : Env → M D) : Env → M (Option Int) := fun ρ B => mb (f ρ B) fun d B1 => ob (int? d) fun i => some (some i, B1)
def cutD (xs : List D) (lo hi : Option Int) : List D := (xs.drop (HT.sIx xs.length 0 lo)).take (HT.sIx xs.length xs.length hi - HT.sIx xs.length 0 lo)
def gSl : D → Option Int → Option Int → Option D
  | .tuple xs, lo, hi => some (.tuple (cutD xs lo hi))
  | .str z, lo, hi => gd (decide (z.length ≤ sizeLine)) (some (.str (cutS z lo hi)))
  | .list xs, lo, hi => some (.list (cutD xs lo hi))
  | _, _, _ => none
def fSl (f : Env → M D) (fl fh : Env → M (Option Int)) : Env → M D := fun ρ B => mb (f ρ B) fun d B1 => mb (fl ρ B1) fun lo B2 => mb (fh ρ B2) fun hi B3 => ob (gSl d lo hi) fun r => some (r, B3)
def fSlO (f : Env → M D) (fl fh : Env → M (Option Int)) : Env → M (List D) := fun ρ B => mb (f ρ B) fun d B1 => ob (list? d) fun xs => mb (fl ρ B1) fun lo B2 => mb (fh ρ B2) fun hi B3 => some (cutD xs lo hi, B3)
section
variable {X : Cx} {e : Expr} {lo hi : Option Expr} {f : Env → M D} {fl fh : Env → M (Option Int)} {pos p2 : Pos}
theorem PO.wk {e : Option Expr} {t t' : TO} (h : PO X e t) (w : ∀ σ H Q, t' σ H Q → t σ H Q) : PO X e t' := ⟨fun pins s σ H Q I q => h.run pins s σ H Q I (w σ H Q q)⟩
theorem dp_no : PO X none (tPO X.K fPNo) := PO.wk po_none fun σ H Q ⟨F0, H0, bx, ρ, F, B, d, B', e, k, q⟩ => by
  cases e
  exact q F H .refl k.sub k.box
theorem dp_so (h : PE X e (tD X.K f)) : PO X (some e) (tPO X.K (fPSo f)) := PO.wk (po_some h) fun σ H Q ⟨F0, H0, bx, ρ, F, B, d, B', e, k, q⟩ => by
  obtain ⟨x, B1, e1, e2⟩ := mb_eq e
  obtain ⟨i, e3, e4⟩ := ob_eq e2
  cases e4
  refine ⟨F0, H0, bx, ρ, F, B, x, _, e1, k, fun v F1 H1 s1 sub1 b1 r1 => ?_⟩
  cases x <;> simp only [int?] at e3 <;> cases e3
  cases r1
  exact ⟨_, rfl, q F1 H1 s1 sub1 b1⟩
theorem rpA_cut {K : PySem.W.Frag} {F : Hp} {vs : List V} {ds : List D} (h : RpA K F vs ds) (lo hi : Option Int) : RpA K F (cutV vs lo hi) (cutD ds lo hi) := by
  unfold cutV cutD
  rw [h.length]
  exact (h.drop _).take _
def rSlD (K : PySem.W.Frag) : V → Option Int → Option Int → Hp → VK → Prop := fun v lo hi H Q => ∃ bx F x d, Same F H ∧ RS K bx F H v x ∧ gSl x lo hi = some d ∧ ∀ w F' H', Stp none F H F' H' → Same F' H' → Rp K F' w d → Q w H'
theorem take_all {α : Type} {xs : List α} {a b : Nat} (h : a = 0 ∧ b = xs.length) : (xs.drop a).take (b - a) = xs := by
  obtain ⟨rfl, rfl⟩ := h
  simp
theorem sd_sl : SlR X (rSlD X.K) := by
  intro pins s σ H x v vl vu lo hi sl Q I rx hs pl pu h
  obtain ⟨bx, F, a, d, sub, ra, e, q⟩ := h
  cases a with
  | tuple xs =>
    cases e
    obtain ⟨l, vs, rfl, g1, g2⟩ := ra.tup
    refine sl_tupA pins s σ H _ v vl vu lo hi sl Q I rx hs pl pu ⟨l, vs, rfl, sqt_mono sub g1, fun z => ?_, fun _ p hp => Rp.of_tup_new hp sub (rpA_cut g2 lo hi) q⟩
    have : cutD xs lo hi = xs := by
      unfold cutD
      rw [g2.length] at z
      exact take_all z
    rw [this] at q
    exact q _ F H .refl sub (.tup g1 g2)
  | str z =>
    obtain ⟨h1, h2⟩ := gd_eq e
    cases h2; cases ra.str
    exact sl_str pins s σ H _ v vl vu lo hi sl Q I rx hs pl pu ⟨z, rfl, of_decide_eq_true h1, q _ F H .refl sub (.str _)⟩
  | list xs =>
    cases e
    obtain ⟨l, vs, rfl, g1, g2⟩ := ra.lst sub
    exact sl_list pins s σ H _ v vl vu lo hi sl Q I rx hs pl pu ⟨l, vs, rfl, .of g1, fun p hp => Rp.of_lst_new hp sub (rpA_cut g2 lo hi) q⟩
  | _ => cases e
theorem de_sl (he : PE X e (tS X.K f)) (hl : PO X lo (tPO X.K fl)) (hu : PO X hi (tPO X.K fh)) : PE X (.Subscript e (.Slice lo hi none p2) pos) (tD X.K (fSl f fl fh)) := PE.wk (pe_slice sd_sl he hl hu) fun σ H Q ⟨F0, H0, bx, ρ, F, B, d, B', e, k, q⟩ => by
  obtain ⟨x, B1, e1, e2⟩ := mb_eq e
  obtain ⟨lo, B2, e3, e4⟩ := mb_eq e2
  obtain ⟨hi, B3, e5, e6⟩ := mb_eq e4
  obtain ⟨r, e7, e8⟩ := ob_eq e6
  cases e8
  refine ⟨F0, H0, bx, ρ, F, B, x, B1, e1, k, fun v F1 H1 s1 sub1 b1 r1 => ?_⟩
  have k1 := k.step s1 sub1 b1
  refine ⟨F0, H0, bx, ρ, F1, B1, lo, B2, e3, k1, fun F2 H2 s2 sub2 b2 => ?_⟩
  have k2 := k1.step s2 sub2 b2
  exact ⟨F0, H0, bx, ρ, F2, B2, hi, _, e5, k2, fun F3 H3 s3 sub3 b3 => ⟨bx, F3, x, d, sub3, (r1.step s2).step s3, e7, fun w F4 H4 s4 sub4 r4 => q w F4 H4 (s1.trans (s2.trans (s3.trans s4.of_none))) sub4 (b3.step s4.same) r4⟩⟩
theorem oe_sl (he : PE X e (tS X.K f)) (hl : PO X lo (tPO X.K fl)) (hu : PO X hi (tPO X.K fh)) : PE X (.Subscript e (.Slice lo hi none p2) pos) (tO X.K (fSlO f fl fh)) := PE.wk (pe_slice sl_list he hl hu) fun σ H Q ⟨F0, H0, bx, ρ, F, B, d, B', e, k, q⟩ => by
  obtain ⟨x, B1, e1, e2⟩ := mb_eq e
  obtain ⟨xs, e0, e2⟩ := ob_eq e2
  obtain ⟨lo, B2, e3, e4⟩ := mb_eq e2
  obtain ⟨hi, B3, e5, e6⟩ := mb_eq e4
  cases e6
  refine ⟨F0, H0, bx, ρ, F, B, x, B1, e1, k, fun v F1 H1 s1 sub1 b1 r1 => ?_⟩
  have k1 := k.step s1 sub1 b1
  refine ⟨F0, H0, bx, ρ, F1, B1, lo, B2, e3, k1, fun F2 H2 s2 sub2 b2 => ?_⟩
  have k2 := k1.step s2 sub2 b2
  refine ⟨F0, H0, bx, ρ, F2, B2, hi, _, e5, k2, fun F3 H3 s3 sub3 b3 => ?_⟩
  cases x <;> simp only [list?] at e0 <;> cases e0
  obtain ⟨l, vs, rfl, g1, g2⟩ := ((r1.step s2).step s3).lst sub3
  exact ⟨l, vs, rfl, .of g1, lay_o (s1.trans (s2.trans s3)) sub3 b3 (rpA_cut g2 lo hi) q⟩
end

def gLen : List D → Option D
  | [.str z] => gd (decide (z.length ≤ sizeLine)) (some (.int (z.length : Nat)))
  | [.list xs] => some (.int (xs.length : Nat))
  | [.tuple xs] => some (.int (xs.length : Nat))
  | _ => none
def gTuple : List D → Option D
  | [.list xs] => some (.tuple xs)
  | [.tuple xs] => some (.tuple xs)
  | _ => none
def gList : List D → Option (List D)
  | [.list xs] => some xs
  | [.tuple xs] => some xs
  | _ => none
def bools? : List D → Option (List Bool)
  | [] => some []
  | .bool b :: r => ob (bools? r) fun bs => some (b :: bs)
  | _ => none
def ints? : List D → Option (List Int)
  | [] => some []
  | .int b :: r => ob (ints? r) fun bs => some (b :: bs)
  | _ => none
def gAll : List D → Option D
  | [.list xs] => ob (bools? xs) fun bs => some (.bool (bs.all id))
  | _ => none
def gAny : List D → Option D
  | [.list xs] => ob (bools? xs) fun bs => some (.bool (bs.any id))
  | _ => none
def gSum : List D → Option D
  | [.list xs] => ob (ints? xs) fun bs => some (.int bs.sum)
  | _ => none
def gMax2 : List D → Option D
  | [.int i, .int j] => some (.int (if j > i then j else i))
  | _ => none
def gMin2 : List D → Option D
  | [.int i, .int j] => some (.int (if j < i then j else i))
  | _ => none
def gInt : List D → Option D
  | [.int i] => some (.int i)
  | [.bool b] => some (.int (if b then 1 else 0))
  | _ => none
def gStr : List D → Option D
  | [.int i] => gd (decide (i.natAbs.log2 < 1920)) (some (.str (toString i)))
  | _ => none
def alikeL (xs : List D) : Bool := xs.all fun d => xs.all fun e => PySem.W.alike d e
def ordable (xs : List D) : Bool := decide (PyData.depthAll xs ≤ 150) && alikeL xs && xs.all fun d => !isNone d
def gMinL : List D → Option D
  | [.list (x :: xs)] => gd (ordable (x :: xs)) (some (PySem.W.minD x xs))
  | _ => none
def gMaxL : List D → Option D
  | [.list (x :: xs)] => gd (ordable (x :: xs)) (some (PySem.W.maxD x xs))
  | _ => none
section
variable {X : Cx}
theorem cd_len : CalD X (.builtin "len") gLen := by
  intro pins s σ H xs us Q I r h
  obtain ⟨bx, F, ds, d, sub, rs, e, q⟩ := h
  refine call_len pins s σ H xs us Q I r ?_
  unfold gLen at e
  split at e
  · obtain ⟨h1, h2⟩ := gd_eq e
    cases h2
    obtain ⟨v, rfl, rv⟩ := rs.one
    cases rv.str
    exact ⟨_, _, rfl, ⟨of_decide_eq_true h1, rfl⟩, q _ F H .refl sub (.int _)⟩
  · cases e
    obtain ⟨v, rfl, rv⟩ := rs.one
    obtain ⟨l, vs, rfl, g1, g2⟩ := rv.lst sub
    exact ⟨_, _, rfl, .inl ⟨vs, .of g1, rfl⟩, by rw [g2.length]; exact q _ F H .refl sub (.int _)⟩
  · cases e
    obtain ⟨v, rfl, rv⟩ := rs.one
    obtain ⟨l, vs, rfl, g1, g2⟩ := rv.tup
    exact ⟨_, _, rfl, .inr ⟨vs, sqt_mono sub g1, rfl⟩, by rw [g2.length]; exact q _ F H .refl sub (.int _)⟩
  · cases e
theorem cd_tuple : CalD X (.type "tuple") gTuple := by
  intro pins s σ H xs us Q I r h
  obtain ⟨bx, F, ds, d, sub, rs, e, q⟩ := h
  refine call_tuple_of pins s σ H xs us Q I r ?_
  unfold gTuple at e
  split at e
  · cases e
    obtain ⟨v, rfl, rv⟩ := rs.one
    obtain ⟨l, vs, rfl, g1, g2⟩ := rv.lst sub
    exact ⟨l, vs, rfl, .inl ⟨.of g1, fun p hp => Rp.of_tup_new hp sub g2 q⟩⟩
  · cases e
    obtain ⟨v, rfl, rv⟩ := rs.one
    obtain ⟨l, vs, rfl, g1, g2⟩ := rv.tup
    exact ⟨l, vs, rfl, .inr ⟨sqt_mono sub g1, q _ F H .refl sub (.tup g1 g2)⟩⟩
  · cases e
theorem lay_n {K : PySem.W.Frag} {F H : Hp} {vs : List V} {ds : List D} {Q : VK} (sub : Same F H) (r : RpA K F vs ds)
    (q : ∀ p ws F' H', Stp none F H F' H' → Same F' H' → F' p = none → H p = none → H' p = some (.lst ws) → RpA K F' ws ds → Q (.ref p) H') : ∀ p, H p = none → Q (.ref p) (upd H p (.lst vs)) := fun p hp => by
  have f1 : F p = none := by
    cases z : F p with
    | none => rfl
    | some o => rw [sub p o z] at hp; cases hp
  refine q p vs F _ (.own hp) (fun c u z => ?_) f1 hp upd_same r
  rw [upd_ne (ne_of_none z f1)]; exact sub c u z
theorem co_list : CalO X (.type "list") gList := by
  intro pins s σ H xs us Q I r h
  obtain ⟨bx, F, ds, d, sub, rs, e, q⟩ := h
  refine call_list_of pins s σ H xs us Q I r ?_
  unfold gList at e
  split at e
  · cases e
    obtain ⟨v, rfl, rv⟩ := rs.one
    obtain ⟨l, vs, rfl, g1, g2⟩ := rv.lst sub
    exact ⟨l, vs, rfl, .inl (.of g1), lay_n sub g2 q⟩
  · cases e
    obtain ⟨v, rfl, rv⟩ := rs.one
    obtain ⟨l, vs, rfl, g1, g2⟩ := rv.tup
    exact ⟨l, vs, rfl, .inr (sqt_mono sub g1), lay_n sub g2 q⟩
  · cases e
theorem rpA_bools {K : PySem.W.Frag} {F : Hp} : ∀ {vs : List V} {ds : List D} {bs : List Bool}, RpA K F vs ds → bools? ds = some bs → vs = bs.map V.bl
  | _, _, _, .nil, e => by cases e; rfl
  | _, _, _, .cons (d := d) r t, e => by
    cases d <;> simp only [bools?] at e <;> try cases e
    obtain ⟨bs', e1, e2⟩ := ob_eq e
    cases e2
    cases r
    rw [rpA_bools t e1]; rfl
theorem rpA_ints {K : PySem.W.Frag} {F : Hp} : ∀ {vs : List V} {ds : List D} {bs : List Int}, RpA K F vs ds → ints? ds = some bs → vs = bs.map V.int
  | _, _, _, .nil, e => by cases e; rfl
  | _, _, _, .cons (d := d) r t, e => by
    cases d <;> simp only [ints?] at e <;> try cases e
    obtain ⟨bs', e1, e2⟩ := ob_eq e
    cases e2
    cases r
    rw [rpA_ints t e1]; rfl
theorem cd_all (hc : X.calm = true) : CalD X (.builtin "all") gAll := by
  intro pins s σ H xs us Q I r h
  obtain ⟨bx, F, ds, d, sub, rs, e, q⟩ := h
  refine cr_all hc pins s σ H xs us Q I r ?_
  unfold gAll at e
  split at e
  · obtain ⟨bs, e1, e2⟩ := ob_eq e
    cases e2
    obtain ⟨v, rfl, rv⟩ := rs.one
    obtain ⟨l, vs, rfl, g1, g2⟩ := rv.lst sub
    cases rpA_bools g2 e1
    exact ⟨l, bs, rfl, .of g1, q _ F H .refl sub (.bl _)⟩
  · cases e
theorem cd_any (hc : X.calm = true) : CalD X (.builtin "any") gAny := by
  intro pins s σ H xs us Q I r h
  obtain ⟨bx, F, ds, d, sub, rs, e, q⟩ := h
  refine cr_any hc pins s σ H xs us Q I r ?_
  unfold gAny at e
  split at e
  · obtain ⟨bs, e1, e2⟩ := ob_eq e
    cases e2
    obtain ⟨v, rfl, rv⟩ := rs.one
    obtain ⟨l, vs, rfl, g1, g2⟩ := rv.lst sub
    cases rpA_bools g2 e1
    exact ⟨l, bs, rfl, .of g1, q _ F H .refl sub (.bl _)⟩
  · cases e
theorem cd_sum (hc : X.calm = true) : CalD X (.builtin "sum") gSum := by
  intro pins s σ H xs us Q I r h
  obtain ⟨bx, F, ds, d, sub, rs, e, q⟩ := h
  refine cr_sum hc pins s σ H xs us Q I r ?_
  unfold gSum at e
  split at e
  · obtain ⟨bs, e1, e2⟩ := ob_eq e
    cases e2
    obtain ⟨v, rfl, rv⟩ := rs.one
    obtain ⟨l, vs, rfl, g1, g2⟩ := rv.lst sub
    cases rpA_ints g2 e1
    exact ⟨l, bs, rfl, .of g1, q _ F H .refl sub (.int _)⟩
  · cases e
theorem cd_max2 (hc : X.calm = true) : CalD X (.builtin "max") gMax2 := by
  intro pins s σ H xs us Q I r h
  obtain ⟨bx, F, ds, d, sub, rs, e, q⟩ := h
  refine call_max2 hc pins s σ H xs us Q I r ?_
  unfold gMax2 at e
  split at e
  · cases e
    obtain ⟨v, w, rfl, rv, rw'⟩ := rs.two
    cases rv.int; cases rw'.int
    exact ⟨_, _, rfl, q _ F H .refl sub (.int _)⟩
  · cases e
theorem cd_min2 (hc : X.calm = true) : CalD X (.builtin "min") gMin2 := by
  intro pins s σ H xs us Q I r h
  obtain ⟨bx, F, ds, d, sub, rs, e, q⟩ := h
  refine call_min2 hc pins s σ H xs us Q I r ?_
  unfold gMin2 at e
  split at e
  · cases e
    obtain ⟨v, w, rfl, rv, rw'⟩ := rs.two
    cases rv.int; cases rw'.int
    exact ⟨_, _, rfl, q _ F H .refl sub (.int _)⟩
  · cases e
theorem cd_int : CalD X (.type "int") gInt := by
  intro pins s σ H xs us Q I r h
  obtain ⟨bx, F, ds, d, sub, rs, e, q⟩ := h
  refine call_int1 pins s σ H xs us Q I r ?_
  unfold gInt at e
  split at e
  · cases e
    obtain ⟨v, rfl, rv⟩ := rs.one
    cases rv.int
    exact .inl ⟨_, rfl, q _ F H .refl sub (.int _)⟩
  · cases e
    obtain ⟨v, rfl, rv⟩ := rs.one
    cases rv.bool
    exact .inr ⟨_, rfl, q _ F H .refl sub (.int _)⟩
  · cases e
theorem cd_str : CalD X (.type "str") gStr := by
  intro pins s σ H xs us Q I r h
  obtain ⟨bx, F, ds, d, sub, rs, e, q⟩ := h
  refine call_str_int pins s σ H xs us Q I r ?_
  unfold gStr at e
  split at e
  · obtain ⟨h1, h2⟩ := gd_eq e
    cases h2
    obtain ⟨v, rfl, rv⟩ := rs.one
    cases rv.int
    exact ⟨_, rfl, of_decide_eq_true h1, q _ F H .refl sub (.str _)⟩
  · cases e
theorem ordable_iff {xs : List D} (h : ordable xs = true) : PyData.depthAll xs ≤ 150 ∧ PySem.W.AllAlike xs ∧ ∀ d ∈ xs, d ≠ .none := by
  unfold ordable alikeL at h
  simp only [Bool.and_eq_true, decide_eq_true_eq, List.all_eq_true] at h
  refine ⟨h.1.1, fun d hd e he => h.1.2 d hd e he, fun d hd z => ?_⟩
  have := h.2 d hd
  rw [z] at this
  cases this
end
end DL

namespace DL
open PySem PySem.Spec L2
section
variable {X : Cx}
theorem one_val {v : V} {us : List Value} (r : Vals [v] us) : ∃ u, us = [u] ∧ RelV v u := by
  cases r with
  | cons r rr => cases rr; exact ⟨_, rfl, r⟩
theorem found_item {pins : List (Addr × Obj)} {s : Shared} {σ : L2.St} {F H : Hp} {vs : List V} {its : List Value} {ds : List D} {i : Nat} {v : Value} {d : D} {h' : Heap} {bs : List Addr} (I : Inv X pins σ H s) (sub : Same F H) (r : RpA X.K F vs ds) (rv : Vals vs its) (hv : its.toArray[i]? = some v)
    (hk : ∀ b o, s.heap.get? b = some o → h'.get? b = some o) (rd : Reads h' v d bs) : ∃ w, RelV w v ∧ Rp X.K F w d := by
  have hv' : its[i]? = some v := by simpa using hv
  have hl : i < vs.length := by
    rw [rv.length]
    exact (List.getElem?_eq_some_iff.mp hv').1
  obtain ⟨u, hu, ru⟩ := rv.get (List.getElem?_eq_getElem hl)
  rw [hv'] at hu; cases hu
  obtain ⟨e, he, re⟩ := r.getV (List.getElem?_eq_getElem hl)
  obtain ⟨as, rr⟩ := Dp.reads I e _ v (re.mono sub).dp ru
  have rr' := PyProof.Rows.Reads.keeps hk rr
  have := PySem.SeqAt.plain_unique e d v as bs re.plain rr' rd
  subst this
  exact ⟨_, ru, re⟩
theorem cd_minL (hc : X.calm = true) (hu : X.A.units + 200 < cLine) : CalD X (.builtin "min") gMinL := by
  intro pins s σ H xs us Q I r h
  obtain ⟨bx, F, ds, d, sub, rs, e, q⟩ := h
  unfold gMinL at e
  split at e
  · obtain ⟨h1, h2⟩ := gd_eq e
    cases h2
    obtain ⟨h3, h4, h5⟩ := ordable_iff h1
    obtain ⟨v, rfl, rv⟩ := rs.one
    obtain ⟨l, vs, rfl, g1, g2⟩ := rv.lst sub
    obtain ⟨u, rfl, ru⟩ := one_val r
    cases ru
    obtain ⟨its, rvs, hp, _⟩ := I.list (.of g1)
    obtain ⟨as, hr⟩ := Dp.readsAll I _ vs its (g2.mono sub).dp rvs
    refine PySem.W.min_list_data (I.ok.hd hc) hp.isList hr ⟨fun a ha b hb => h4 a ha b hb, h5⟩ (by omega) fun i v h' tk bs hv rd hk => ?_
    obtain ⟨w, rw', rp⟩ := found_item I sub g2 rvs hv hk rd
    exact ⟨w, H, I.kept (t' := tk) hk, rw', q w F H .refl sub rp⟩
  · cases e
theorem cd_maxL (hc : X.calm = true) (hu : X.A.units + 200 < cLine) : CalD X (.builtin "max") gMaxL := by
  intro pins s σ H xs us Q I r h
  obtain ⟨bx, F, ds, d, sub, rs, e, q⟩ := h
  unfold gMaxL at e
  split at e
  · obtain ⟨h1, h2⟩ := gd_eq e
    cases h2
    obtain ⟨h3, h4, h5⟩ := ordable_iff h1
    obtain ⟨v, rfl, rv⟩ := rs.one
    obtain ⟨l, vs, rfl, g1, g2⟩ := rv.lst sub
    obtain ⟨u, rfl, ru⟩ := one_val r
    cases ru
    obtain ⟨its, rvs, hp, _⟩ := I.list (.of g1)
    obtain ⟨as, hr⟩ := Dp.readsAll I _ vs its (g2.mono sub).dp rvs
    refine PySem.W.max_list_data (I.ok.hd hc) hp.isList hr ⟨fun a ha b hb => h4 a ha b hb, h5⟩ (by omega) fun i v h' tk bs hv rd hk => ?_
    obtain ⟨w, rw', rp⟩ := found_item I sub g2 rvs hv hk rd
    exact ⟨w, H, I.kept (t' := tk) hk, rw', q w F H .refl sub rp⟩
  · cases e

def tyName : D → String
  | .none => "NoneType"
  | .bool _ => "bool"
  | .int _ => "int"
  | .str _ => "str"
  | .list _ => "list"
  | .tuple _ => "tuple"
  | .dict _ => "dict"
def isD (T : String) : D → Bool
  | .none => false
  | .bool _ => T == "bool" || T == "int"
  | .int _ => T == "int"
  | .str _ => T == "str"
  | .list _ => T == "list"
  | .tuple _ => T == "tuple"
  | .dict _ => T == "dict"
def KitOk (T : String) : Prop := kitB "NoneType" T = some (isD T .none) ∧ kitB "bool" T = some (isD T (.bool true)) ∧ kitB "int" T = some (isD T (.int 0)) ∧ kitB "str" T = some (isD T (.str "")) ∧ kitB "list" T = some (isD T (.list [])) ∧ kitB "tuple" T = some (isD T (.tuple []))
theorem kit_tuple : KitOk "tuple" := by unfold KitOk; decide +kernel
theorem kit_list : KitOk "list" := by unfold KitOk; decide +kernel
theorem kit_dict : KitOk "dict" := by unfold KitOk; decide +kernel
theorem kit_bool : KitOk "bool" := by unfold KitOk; decide +kernel
theorem kit_int : KitOk "int" := by unfold KitOk; decide +kernel
theorem kit_str : KitOk "str" := by unfold KitOk; decide +kernel
def fIsi (T : String) (f : Env → M D) : Env → M D := fun ρ B => mb (f ρ B) fun d B1 => some (.bool (isD T d), B1)
theorem ty_of {K : PySem.W.Frag} {bx : BxA} {F H : Hp} {v : V} {d : D} {T : String} (r : RS K bx F H v d) (sub : Same F H) (k : KitOk T) : ∃ t, TyX K H v t ∧ PySem.W.kitOne K t (.type T) = some (isD T d) := by
  obtain ⟨k1, k2, k3, k4, k5, k6⟩ := k
  cases d with
  | none => cases r.none; exact ⟨_, .base .non, kit_ty k1⟩
  | bool b => cases r.bool; exact ⟨_, .base (.bl b), kit_ty k2⟩
  | int b => cases r.int; exact ⟨_, .base (.int b), kit_ty k3⟩
  | str b => cases r.str; exact ⟨_, .base (.str b), kit_ty k4⟩
  | list ds =>
    obtain ⟨l, vs, rfl, h1, h2⟩ := r.lst sub
    exact ⟨_, .base (.lst h1), kit_ty k5⟩
  | tuple ds =>
    obtain ⟨l, vs, rfl, h1, h2⟩ := r.tup
    refine ⟨.type "tuple", ?_, kit_ty k6⟩
    rcases sqt_mono sub h1 with (h | ⟨o, h⟩) | ⟨o, its, n, h, hc, _⟩
    · exact .base (.tup h)
    · exact .fTuple h
    · exact .kTuple h hc
  | dict _ =>
    rcases r with r | ⟨l, vs, ds', rfl, e, _⟩
    · cases r
    · cases e
theorem de_isi {a : Expr} {fa : Env → M D} {T : String} {Ts : Str} {p p2 pos : Pos} (k : KitOk T) (ha : PE X a (tS X.K fa)) (hg : Gl X "isinstance") (hm : X.mg "isinstance" = none) (hgT : Gl X Ts) (hmT : X.mg Ts = none) (hvT : bootBuiltins Ts = some (.type T)) (hnT : Ts ≠ "__name__" := by decide) (hdT : (Ts == ("__debug__" : Str)) = false := by decide)
    (he2 : starEach [Expr.Name Ts p2] X.env = (false, eval (.Name Ts p2) X.env) :: starEach [] X.env := by rfl)
    (he : starEach [a, .Name Ts p2] X.env = (false, eval a X.env) :: starEach [.Name Ts p2] X.env := by rfl) (hpl : (backTo pos (starEach [.Name Ts p2] X.env)).any (·.1) = false := by rfl) : PE X (.Call (.Name "isinstance" p) [a, .Name Ts p2] [] pos) (tD X.K (fIsi T fa)) :=
  PE.wk (pe_callB call_isi hg hm PyProof.Rows.boot_isinstance (pa_cons ha (pa_cons (pe_bltn (v := .ty T) hgT hmT hvT rfl hnT hdT) pa_nil he2) he) (by decide) (by decide) he hpl) fun σ H Q ⟨F0, H0, bx, ρ, F, B, d, B', e, k', q⟩ => by
    obtain ⟨x, B1, e1, e2⟩ := mb_eq e
    cases e2
    refine ⟨F0, H0, bx, ρ, F, B, x, _, e1, k', fun v F1 H1 s1 sub1 b1 r1 => ?_⟩
    obtain ⟨t, g1, g2⟩ := ty_of r1 sub1 k
    exact ⟨v, .ty T, t, .type T, _, rfl, .ty T, g1, g2, q _ F1 H1 s1 sub1 b1 (.bl _)⟩

def sortable (ds : List D) : Bool := (ds.all fun d => match d with | .tuple (_ :: _) => true | _ => false) || (ds.all fun d => match d with | .tuple _ => false | .none => false | _ => true)
def sortD (ds : List D) : List D := ds.mergeSort (PySem.W.dataLe false id)
def gSorted : List D → Option (List D)
  | [.list xs] => gd (alikeL xs && sortable xs && decide (PyData.depthAll xs ≤ 150 ∧ xs.length ≤ sizeLine)) (some (sortD xs))
  | _ => none
theorem sortable_ok {ds : List D} (h : sortable ds = true) : PySem.W.Sortable ds := by
  unfold sortable at h
  rcases Bool.or_eq_true_iff.mp h with h | h
  · refine .inl fun d hd => ?_
    have := List.all_eq_true.mp h d hd
    split at this
    · exact ⟨_, _, rfl⟩
    · cases this
  · refine .inr fun d hd => ?_
    have := List.all_eq_true.mp h d hd
    constructor
    · rintro rfl; cases this
    · rintro xs rfl; cases this
theorem depth_le_all : ∀ {ds : List D} {d : D}, d ∈ ds → d.depth ≤ PyData.depthAll ds
  | [], _, h => nomatch h
  | e :: ds, d, h => by
    rw [PyData.depthAll]
    rcases List.mem_cons.mp h with rfl | h
    · omega
    · have := depth_le_all h
      omega
theorem pairs_each {K : PySem.W.Frag} {F : Hp} : ∀ {vs : List V} {us : List Value} {ds : List D}, RpA K F vs ds → Vals vs us → PySem.W.EachIs (fun (u : Value) (p : V × D) => RelV p.1 u ∧ Rp K F p.1 p.2) us (vs.zip ds)
  | _, _, _, .nil, .nil => .nil
  | _, _, _, .cons r t, .cons r' t' => .cons ⟨r', r⟩ (pairs_each t t')
theorem each_pairs {K : PySem.W.Frag} {F : Hp} : ∀ {us : List Value} {ps : List (V × D)}, PySem.W.EachIs (fun (u : Value) (p : V × D) => RelV p.1 u ∧ Rp K F p.1 p.2) us ps → Vals (ps.map (·.1)) us ∧ RpA K F (ps.map (·.1)) (ps.map (·.2))
  | _, _, .nil => ⟨.nil, .nil⟩
  | _, _, .cons ⟨r, r'⟩ t => ⟨.cons r (each_pairs t).1, .cons r' (each_pairs t).2⟩
theorem zip_snd {α β : Type} : ∀ {xs : List α} {ys : List β}, xs.length = ys.length → (xs.zip ys).map (·.2) = ys
  | [], [], _ => rfl
  | x :: xs, y :: ys, h => by
    simp only [List.zip_cons_cons, List.map_cons]
    rw [zip_snd (by simpa using h)]
  | [], _ :: _, h => by simp at h
  | _ :: _, [], h => by simp at h
theorem sort_pairs (ps : List (V × D)) : (ps.mergeSort (PySem.W.dataLe false fun p : V × D => p.2)).map (·.2) = sortD (ps.map (·.2)) := by
  unfold sortD
  exact List.map_mergeSort fun _ _ _ _ => rfl
theorem co_sorted (hu : X.A.units + 200 < cLine) : CalO X (.builtin "sorted") gSorted := by
  intro pins s σ H xs us Q I r h
  obtain ⟨bx, F, ds, d, sub, rs, e, q⟩ := h
  unfold gSorted at e
  split at e
  · rename_i xs'
    obtain ⟨h1, h2⟩ := gd_eq e
    cases h2
    simp only [Bool.and_eq_true, decide_eq_true_eq] at h1
    obtain ⟨⟨h3, h4⟩, h5, h6⟩ := h1
    obtain ⟨v, rfl, rv⟩ := rs.one
    obtain ⟨l, vs, rfl, g1, g2⟩ := rv.lst sub
    obtain ⟨u, rfl, ru⟩ := one_val r
    cases ru
    obtain ⟨its, rvs, hp, _⟩ := I.list (.of g1)
    have hz : (vs.zip xs').map (·.2) = xs' := zip_snd g2.length
    have hlen : (vs.zip xs').length = xs'.length := by rw [List.length_zip, g2.length]; omega
    refine PySem.W.sorted_data (R := fun (u : Value) (p : V × D) => RelV p.1 u ∧ Rp X.K F p.1 p.2) (bs := vs.zip xs') (enc := fun p => p.2) hp.isList (pairs_each g2 rvs) ?_ ?_ ?_ (by rw [hlen]; exact h6) (fun p hp' => ?_) fun out ho eo => ?_
    · exact (pairs_each g2 rvs).mono fun u p ⟨z1, z2⟩ => Dp.reads I p.2 p.1 u (z2.mono sub).dp z1
    · show PySem.W.AllAlike ((vs.zip xs').map (·.2))
      rw [hz]
      intro a ha b hb
      exact List.all_eq_true.mp (List.all_eq_true.mp h3 a ha) b hb
    · show PySem.W.Sortable ((vs.zip xs').map (·.2))
      rw [hz]
      exact sortable_ok h4
    · have hm : p.2 ∈ xs' := by
        rw [← hz]
        exact List.mem_map.mpr ⟨p, hp', rfl⟩
      have := depth_le_all hm
      omega
    · obtain ⟨o1, o2⟩ := each_pairs eo
      have es := sort_pairs (vs.zip xs')
      rw [hz] at es
      rw [es] at o2
      have hp0 : H (s.heap.objs.size + 1) = none := I.hok.fresh (by omega)
      have hsz : ((vs.zip xs').mergeSort (PySem.W.dataLe false fun p : V × D => p.2)).length ≤ sizeLine := by
        rw [List.length_mergeSort, hlen]; exact h6
      refine ⟨.ref (s.heap.objs.size + 1), upd H (s.heap.objs.size + 1) (.lst (((vs.zip xs').mergeSort (PySem.W.dataLe false fun p : V × D => p.2)).map (·.1))), ?_, rfl, lay_n sub o2 q _ hp0⟩
      refine I.laid (t' := s.toks) (fun b u hb => PyProof.Rows.sortedAll_old hb) (by omega) ?_
      obtain ⟨n, hn⟩ := PyProof.Rows.sortedAll_at s.heap its out.toArray
      exact ⟨by rw [List.length_map]; exact hsz, out, n, o1, hn⟩
  · cases e
end
end DL

namespace DL
open PySem PySem.Spec L2
def fNever : Env → M Out := fun _ _ => none
def gCatO : D → D → Option (List D)
  | .list xs, .list ys => gd (decide (xs.length + ys.length ≤ sizeLine)) (some (xs ++ ys))
  | _, _ => none
def fCatO (fa fb : Env → M D) : Env → M (List D) := fBinO gCatO fa fb
def fParO (i j : Nat) (fa fb : Env → M (List D)) : Env → M Out := fun ρ B => mb (fa ρ B) fun xs B1 => mb (fb ρ B1) fun ys B2 => some (.nx ((ρ.set i (.own xs)).set j (.own ys)), B2)
theorem hu2 {A : Around} {k : Nat} (hr : Room k A) : A.units + 200 < cLine := by
  have := hr.un
  omega
section
variable {X : Cx} {pos : Pos}
theorem dss_never {sts : List Stmt} : PSs X sts (tSt X.K fNever) := ⟨fun _ _ _ _ _ _ h => by
  obtain ⟨F0, H0, bx, ρ, F, B, o, B', e, k, q⟩ := h
  cases e⟩
theorem oe_cat {a b : Expr} {fa fb : Env → M D} (ha : PE X a (tS X.K fa)) (hb : PE X b (tS X.K fb)) : PE X (.BinOp a .Add b pos) (tO X.K (fCatO fa fb)) := PE.wk (pe_op op_cat ha hb) fun σ H Q ⟨F0, H0, bx, ρ, F, B, d, B', e, k, q⟩ => by
  obtain ⟨x, B1, e1, e2⟩ := mb_eq e
  obtain ⟨y, B2, e3, e4⟩ := mb_eq e2
  obtain ⟨z, e5, e6⟩ := ob_eq e4
  cases e6
  refine ⟨F0, H0, bx, ρ, F, B, x, B1, e1, k, fun v F1 H1 s1 sub1 b1 r1 => ?_⟩
  have k1 := k.step s1 sub1 b1
  refine ⟨F0, H0, bx, ρ, F1, B1, y, _, e3, k1, fun u F2 H2 s2 sub2 b2 r2 => ?_⟩
  unfold gCatO at e5
  split at e5
  · obtain ⟨h1, h2⟩ := gd_eq e5
    cases h2
    obtain ⟨l, vs, rfl, g1, g2⟩ := (r1.step s2).lst sub2
    obtain ⟨m, ws, rfl, g3, g4⟩ := r2.lst sub2
    exact ⟨l, m, vs, ws, rfl, rfl, g1, g3, by rw [g2.length, g4.length]; exact of_decide_eq_true h1, lay_o (s1.trans s2) sub2 b2 (g2.append g4) q⟩
  · cases e5
theorem ds_parO (i j : Nat) {x y : Str} {a b : Expr} {fa fb : Env → M (List D)} {px py pt : Pos} {kt k2 pt2} (hc : X.calm = true) (hN : X.N.Nodup) (ha : PE X a (tO X.K fa)) (hb : PE X b (tO X.K fb)) (hij : i ≠ j) (hi : X.N[i]? = some x := by rfl) (hj : X.N[j]? = some y := by rfl)
    (hx : X.env.scope.names.lookup x = some .local := by rfl) (hy : X.env.scope.names.lookup y = some .local := by rfl)
    (hw : swappedStores [.Tuple [.Name x px, .Name y py] kt pt] (.Tuple [a, b] k2 pt2) X.env = pure (some [x, y]) := by rfl)
    (hs : swapsWithSole [.Tuple [.Name x px, .Name y py] kt pt] (.Tuple [a, b] k2 pt2) pos.line X.env = pure false := by rfl)
    (hsa : starEach [a, b] X.env = (false, eval a X.env) :: starEach [b] X.env := by rfl) (hsb : starEach [b] X.env = (false, eval b X.env) :: starEach [] X.env := by rfl) :
    PS X (.Assign [.Tuple [.Name x px, .Name y py] kt pt] (.Tuple [a, b] k2 pt2) pos) (tSt X.K (fParO i j fa fb)) := PS.wk (ps_par hc hN hi hj hij hx hy (pa_cons ha (pa_cons hb pa_nil hsb) hsa) hw hs) fun E σ H ⟨F0, H0, bx, ρ, F, B, o, B', e, k, q⟩ => by
  obtain ⟨xs, B1, e1, e2⟩ := mb_eq e
  obtain ⟨ys, B2, e3, e4⟩ := mb_eq e2
  cases e4
  refine ⟨F0, H0, bx, ρ, F, B, xs, B1, e1, k, fun p vs F1 H1 s1 sub1 b1 hF hH hB hp r => ?_⟩
  have k1 := k.step s1 sub1 b1
  refine ⟨F0, H0, bx, ρ, F1, B1, ys, _, e3, k1, fun p2 ws F2 H2 s2 sub2 b2 hF2 hH2 hB2 hp2 r2 => ⟨_, _, rfl, ?_⟩⟩
  have k2 := k1.step s2 sub2 b2
  have h0 : ∀ {a : Addr}, H a = none → H0 a = none := fun {a} h => by
    by_cases z : H0 a = none
    · exact z
    · exact absurd h (k.stp.hin a z)
  have back : ∀ {a : Addr}, H1 a = none → H a = none := fun {a} h => by
    by_cases z : H a = none
    · exact z
    · exact absurd h (s1.hin a z)
  have hF2p : F2 p = none := by
    by_cases z : F2 p = none
    · exact z
    · have := s2.new p z hF
      rw [hp] at this; cases this
  have n12 : p ≠ p2 := fun z => by subst z; rw [hp] at hH2; cases hH2
  have free : ∀ {a : Addr}, H a = none → ∀ (j' : Nat) (zs : List D), ρ[j']? = some (.own zs) → σ[j']? ≠ some (some (.ref a)) := fun {a} ha j' zs ej z => by
    obtain ⟨l, us, g1, g2, _⟩ := k.sl j' _ ej
    rw [g1] at z; cases z
    rw [ha] at g2; cases g2
  have ka := k2.setO (i := i) (s2.hex p _ hp hB) (r.mono s2.fex) hF2p (h0 hH) hB fun j' zs hj' ej => free hH j' zs ej
  refine q _ F2 H2 (s1.fex.trans s2.fex) (ka.setO (i := j) hp2 r2 hF2 (h0 (back hH2)) hB2 fun j' zs hj' ej => ?_)
  by_cases hji : j' = i
  · subst hji
    have hlt : j' < ρ.length := by
      have := (List.getElem?_eq_some_iff.mp ej).1
      simpa using this
    rw [List.getElem?_set_self (by rw [k.len]; exact hlt)]
    intro z
    cases z
    exact n12 rfl
  · rw [List.getElem?_set_ne (Ne.symm hji)] at ej ⊢
    exact free (back hH2) j' zs ej
end

def seedNext (s : Int) : Int × Int :=
  let first := (s * 48271 + 17) % 2147483629
  let second := (first * 69621 + 5) % 2147483587
  let s' := (second * 40692 + 3) % 2147483563
  (first * 4611686014132420609 + second * 2147483647 + s', s')
def loadG (cs : List Int) (acc seed : Int) (r : List Int) : Int × BS := ((seedNext seed).1, ⟨cs, acc :: (seedNext seed).2 :: r⟩)
def loadF (B : BS) : Option (Int × BS) := match B.rest with
  | acc :: seed :: r => match B.cells with
    | [] => some (loadG [] acc seed r)
    | cell :: cs =>
      let size := if 0 ≤ cell then 2 * cell else -2 * cell - 1
      if 1000000000000000000 ≤ size then some (size, ⟨cs, acc :: seed :: r⟩) else some (loadG cs acc ((seed * 69621 + size * 48271 + 11) % 2147483647) r)
  | _ => none
def drawA (B : BS) (many : Int) : Option BS := match B.rest with
  | acc :: r => if acc < many then ob (loadF B) fun p => match p.2.rest with
      | _ :: r' => some ⟨p.2.cells, p.1 :: r'⟩
      | _ => none
    else some B
  | _ => none
def digitF (B1 : BS) (many : Int) : Option (Int × BS) := match B1.rest with
  | acc :: r => some (acc % many, ⟨B1.cells, acc / many :: r⟩)
  | _ => none
def drawF (B : BS) (many : Int) : Option (Int × BS) := gd (decide (0 < many ∧ many < 1073741824)) (ob (drawA B many) fun B1 => digitF B1 many)
def G_Lload : List D → M D := fun ds B => match ds with
  | [] => ob (loadF B) fun p => some (.int p.1, p.2)
  | _ => none
def G_Ldraw : List D → M D := fun ds B => match ds with
  | [.int many] => ob (drawF B many) fun p => some (.int p.1, p.2)
  | _ => none
def BS.ok (B : BS) : Prop := 2 ≤ B.rest.length
theorem loadF_ok {B : BS} (h : B.ok) : ∃ p, loadF B = some p ∧ p.2.rest.length = B.rest.length := by
  obtain ⟨cells, rest⟩ := B
  match rest, h with
  | acc :: seed :: r, _ =>
    unfold loadF
    match cells with
    | [] => exact ⟨_, rfl, rfl⟩
    | c :: cs =>
      simp only
      split
      · split
        · exact ⟨_, rfl, rfl⟩
        · exact ⟨_, rfl, rfl⟩
      · split
        · exact ⟨_, rfl, rfl⟩
        · exact ⟨_, rfl, rfl⟩
theorem draw_ok {B : BS} (h : B.ok) {many : Int} (h0 : 0 < many) (h1 : many < 1073741824) : ∃ d B', G_Ldraw [.int many] B = some (.int d, B') ∧ 0 ≤ d ∧ d < many ∧ B'.ok := by
  have hd : decide (0 < many ∧ many < 1073741824) = true := decide_eq_true ⟨h0, h1⟩
  have main : ∃ B1, drawA B many = some B1 ∧ B1.rest.length = B.rest.length := by
    obtain ⟨cells, rest⟩ := B
    match rest, h with
    | acc :: seed :: r, h =>
      unfold drawA
      simp only
      split
      · obtain ⟨p, e, hl⟩ := loadF_ok h
        rw [e]
        obtain ⟨v, ⟨cs, rs⟩⟩ := p
        match rs, hl with
        | x :: rs, hl => exact ⟨_, rfl, hl⟩
      · exact ⟨_, rfl, rfl⟩
  obtain ⟨B1, e1, hl⟩ := main
  obtain ⟨cs, rs⟩ := B1
  have hl2 : 2 ≤ rs.length := by
    have : rs.length = B.rest.length := hl
    have h2 : 2 ≤ B.rest.length := h
    omega
  match rs, hl2 with
  | acc :: x :: r, _ =>
    refine ⟨acc % many, ⟨cs, acc / many :: x :: r⟩, ?_, Int.emod_nonneg _ (by omega), Int.emod_lt_of_pos _ h0, by show 2 ≤ (acc / many :: x :: r).length; simp⟩
    unfold G_Ldraw drawF
    simp only [hd, gd_t, e1, ob_some, digitF]
end DL

namespace DL
open PySem PySem.Spec L2
theorem atI_cast {α : Type} (l : List α) (k : Nat) : atI l (k : Int) = l[k]? := by
  unfold atI ixN
  rw [if_pos (by omega)]
  by_cases h : (k : Int) < l.length
  · rw [if_pos h]; rfl
  · rw [if_neg h]
    symm
    show l[k]? = none
    rw [List.getElem?_eq_none_iff]; omega
theorem atI_lit {α : Type} (l : List α) {i : Int} (k : Nat) (h : i = (k : Int)) : atI l i = l[k]? := by rw [h, atI_cast]
theorem atI_zero {α : Type} (l : List α) : atI l 0 = l[0]? := atI_cast l 0
theorem atI_one {α : Type} (l : List α) : atI l 1 = l[1]? := atI_cast l 1
theorem atI_two {α : Type} (l : List α) : atI l 2 = l[2]? := atI_cast l 2
theorem atI_succ {α : Type} (l : List α) (k : Nat) : atI l ((k : Int) + 1) = l[k + 1]? := atI_cast l (k + 1)
theorem atI_m1 {α : Type} (l : List α) : atI l (-1) = l.getLast? := by
  rcases List.eq_nil_or_concat l with rfl | ⟨r, x, rfl⟩
  · rfl
  · rw [List.concat_eq_append, atI_last, List.getLast?_append]; rfl
theorem gEq_int (i j : Int) : gEq (.int i) (.int j) = some (.bool (decide (i = j))) := by
  unfold gEq
  rw [show decide (min (PyData.int i).depth (PyData.int j).depth ≤ 150) = true from rfl, gd_t]
  show some (PyData.bool (i == j)) = _
  rw [Bool.beq_eq_decide_eq]
theorem gNe_int (i j : Int) : gNe (.int i) (.int j) = some (.bool (!decide (i = j))) := by
  unfold gNe
  rw [show decide (min (PyData.int i).depth (PyData.int j).depth ≤ 150) = true from rfl, gd_t]
  show some (PyData.bool (!(i == j))) = _
  rw [Bool.beq_eq_decide_eq]
theorem eqv_str (s t : Str) : PyData.eqv (.str s) (.str t) = decide (s = t) := by
  show (s == t) = _
  by_cases h : s = t
  · subst h; simp
  · rw [decide_eq_false h]; exact beq_eq_false_iff_ne.mpr h
theorem gEq_str (s t : Str) : gEq (.str s) (.str t) = some (.bool (decide (s = t))) := by
  unfold gEq
  rw [show decide (min (PyData.str s).depth (PyData.str t).depth ≤ 150) = true from rfl, gd_t, eqv_str]
theorem gNe_str (s t : Str) : gNe (.str s) (.str t) = some (.bool (!decide (s = t))) := by
  unfold gNe
  rw [show decide (min (PyData.str s).depth (PyData.str t).depth ≤ 150) = true from rfl, gd_t, eqv_str]

theorem isD_tuple_none  : isD "tuple" (.none ) = false := by simp [isD]
theorem isD_tuple_bool (b : Bool) : isD "tuple" (.bool b) = false := by simp [isD]
theorem isD_tuple_int (i : Int) : isD "tuple" (.int i) = false := by simp [isD]
theorem isD_tuple_str (s : Str) : isD "tuple" (.str s) = false := by simp [isD]
theorem isD_tuple_list (xs : List D) : isD "tuple" (.list xs) = false := by simp [isD]
theorem isD_tuple_tuple (xs : List D) : isD "tuple" (.tuple xs) = true := by simp [isD]
theorem isD_list_none  : isD "list" (.none ) = false := by simp [isD]
theorem isD_list_bool (b : Bool) : isD "list" (.bool b) = false := by simp [isD]
theorem isD_list_int (i : Int) : isD "list" (.int i) = false := by simp [isD]
theorem isD_list_str (s : Str) : isD "list" (.str s) = false := by simp [isD]
theorem isD_list_list (xs : List D) : isD "list" (.list xs) = true := by simp [isD]
theorem isD_list_tuple (xs : List D) : isD "list" (.tuple xs) = false := by simp [isD]
theorem isD_dict_none  : isD "dict" (.none ) = false := by simp [isD]
theorem isD_dict_bool (b : Bool) : isD "dict" (.bool b) = false := by simp [isD]
theorem isD_dict_int (i : Int) : isD "dict" (.int i) = false := by simp [isD]
theorem isD_dict_str (s : Str) : isD "dict" (.str s) = false := by simp [isD]
theorem isD_dict_list (xs : List D) : isD "dict" (.list xs) = false := by simp [isD]
theorem isD_dict_tuple (xs : List D) : isD "dict" (.tuple xs) = false := by simp [isD]
theorem isD_bool_none  : isD "bool" (.none ) = false := by simp [isD]
theorem isD_bool_bool (b : Bool) : isD "bool" (.bool b) = true := by simp [isD]
theorem isD_bool_int (i : Int) : isD "bool" (.int i) = false := by simp [isD]
theorem isD_bool_str (s : Str) : isD "bool" (.str s) = false := by simp [isD]
theorem isD_bool_list (xs : List D) : isD "bool" (.list xs) = false := by simp [isD]
theorem isD_bool_tuple (xs : List D) : isD "bool" (.tuple xs) = false := by simp [isD]
theorem isD_int_none  : isD "int" (.none ) = false := by simp [isD]
theorem isD_int_bool (b : Bool) : isD "int" (.bool b) = true := by simp [isD]
theorem isD_int_int (i : Int) : isD "int" (.int i) = true := by simp [isD]
theorem isD_int_str (s : Str) : isD "int" (.str s) = false := by simp [isD]
theorem isD_int_list (xs : List D) : isD "int" (.list xs) = false := by simp [isD]
theorem isD_int_tuple (xs : List D) : isD "int" (.tuple xs) = false := by simp [isD]
theorem isD_str_none  : isD "str" (.none ) = false := by simp [isD]
theorem isD_str_bool (b : Bool) : isD "str" (.bool b) = false := by simp [isD]
theorem isD_str_int (i : Int) : isD "str" (.int i) = false := by simp [isD]
theorem isD_str_str (s : Str) : isD "str" (.str s) = true := by simp [isD]
theorem isD_str_list (xs : List D) : isD "str" (.list xs) = false := by simp [isD]
theorem isD_str_tuple (xs : List D) : isD "str" (.tuple xs) = false := by simp [isD]
mutual
def szD : D → Prop
  | .list xs => xs.length ≤ sizeLine ∧ szA xs
  | .tuple xs => xs.length ≤ sizeLine ∧ szA xs
  | .dict _ => False
  | _ => True
def szA : List D → Prop
  | [] => True
  | x :: xs => szD x ∧ szA xs
end
theorem szA_get : ∀ {xs : List D} {k : Nat} {d : D}, szA xs → xs[k]? = some d → szD d
  | _ :: _, 0, _, h, e => by simp at e; subst e; exact h.1
  | _ :: _, k + 1, _, h, e => szA_get (k := k) h.2 (by simpa using e)
  | [], _, _, _, e => by simp at e
theorem szA_of : ∀ {xs : List D}, (∀ d ∈ xs, szD d) → szA xs
  | [], _ => trivial
  | x :: xs, h => ⟨h x List.mem_cons_self, szA_of fun d hd => h d (List.mem_cons_of_mem _ hd)⟩
section
variable {g : D → Env → Option Env} {fb : Env → M Out} {ft : Env → M Bool} {fe : Env → M D}
theorem forL_inv (I : List D → Env → BS → Prop) (h : ∀ d r ρ B, I (d :: r) ρ B → ∃ ρ1 ρ2 B2, g d ρ = some ρ1 ∧ fb ρ1 B = some (.nx ρ2, B2) ∧ I r ρ2 B2) :
    ∀ (items : List D) (ρ : Env) (B : BS), I items ρ B → ∃ ρ' B', forL g fb items ρ B = some (.nx ρ', B') ∧ I [] ρ' B'
  | [], ρ, B, i => ⟨ρ, B, rfl, i⟩
  | d :: r, ρ, B, i => by
    obtain ⟨ρ1, ρ2, B2, e1, e2, i2⟩ := h d r ρ B i
    obtain ⟨ρ', B', e3, i3⟩ := forL_inv I h r ρ2 B2 i2
    refine ⟨ρ', B', ?_, i3⟩
    show ob (g d ρ) _ = _
    rw [e1, ob_some, e2, mb_some]
    exact e3
theorem forL_search (P : D → Bool) (v : D) (I : Env → Prop) (B : BS) : ∀ (items : List D) (ρ : Env), (∀ d ∈ items, ∀ ρ, I ρ → ∃ ρ1, g d ρ = some ρ1 ∧ ((P d = true ∧ fb ρ1 B = some (.ret v, B)) ∨ (P d = false ∧ ∃ ρ2, fb ρ1 B = some (.nx ρ2, B) ∧ I ρ2))) → I ρ →
    (items.any P = true ∧ forL g fb items ρ B = some (.ret v, B)) ∨ (items.any P = false ∧ ∃ ρ', forL g fb items ρ B = some (.nx ρ', B) ∧ I ρ')
  | [], ρ, _, i => .inr ⟨rfl, ρ, rfl, i⟩
  | d :: r, ρ, h, i => by
    obtain ⟨ρ1, e1, q⟩ := h d List.mem_cons_self ρ i
    rcases q with ⟨p, e2⟩ | ⟨p, ρ2, e2, i2⟩
    · refine .inl ⟨by rw [List.any_cons, p]; rfl, ?_⟩
      show ob (g d ρ) _ = _
      rw [e1, ob_some, e2, mb_some]; rfl
    · rcases forL_search P v I B r ρ2 (fun d hd => h d (List.mem_cons_of_mem _ hd)) i2 with ⟨a, e3⟩ | ⟨a, ρ', e3, i3⟩
      · refine .inl ⟨by rw [List.any_cons, p, a]; rfl, ?_⟩
        show ob (g d ρ) _ = _
        rw [e1, ob_some, e2, mb_some]; exact e3
      · refine .inr ⟨by rw [List.any_cons, p, a]; rfl, ρ', ?_, i3⟩
        show ob (g d ρ) _ = _
        rw [e1, ob_some, e2, mb_some]; exact e3
theorem whileF_inv (I : Nat → Env → BS → Prop) (E : Env → BS → Prop) (h : ∀ n ρ B, I n ρ B → ∃ c B1, ft ρ B = some (c, B1) ∧ (c = true → ∃ ρ2 B2, fb ρ B1 = some (.nx ρ2, B2) ∧ ∃ n', n' < n ∧ I n' ρ2 B2) ∧ (c = false → E ρ B1)) :
    ∀ (m n : Nat) (ρ : Env) (B : BS), n < m → I n ρ B → ∃ ρ' B', whileF ft fb m ρ B = some (.nx ρ', B') ∧ E ρ' B'
  | 0, n, _, _, hm, _ => absurd hm (Nat.not_lt_zero _)
  | m + 1, n, ρ, B, hm, i => by
    obtain ⟨c, B1, e1, t, f⟩ := h n ρ B i
    cases c with
    | false =>
      refine ⟨ρ, B1, ?_, f rfl⟩
      show mb (ft ρ B) _ = _
      rw [e1]; rfl
    | true =>
      obtain ⟨ρ2, B2, e2, n', hn, i2⟩ := t rfl
      obtain ⟨ρ', B', e3, q⟩ := whileF_inv I E h m n' ρ2 B2 (by omega) i2
      refine ⟨ρ', B', ?_, q⟩
      show mb (ft ρ B) _ = _
      rw [e1, mb_some]
      show mb (fb ρ B1) _ = _
      rw [e2]; exact e3
theorem fWhile_inv (I : Nat → Env → BS → Prop) (E : Env → BS → Prop) (h : ∀ n ρ B, I n ρ B → ∃ c B1, ft ρ B = some (c, B1) ∧ (c = true → ∃ ρ2 B2, fb ρ B1 = some (.nx ρ2, B2) ∧ ∃ n', n' < n ∧ I n' ρ2 B2) ∧ (c = false → E ρ B1))
    {n : Nat} {ρ : Env} {B : BS} (hn : n < 1000000) (i : I n ρ B) : ∃ ρ' B', fWhile ft fb ρ B = some (.nx ρ', B') ∧ E ρ' B' := whileF_inv I E h wfuel n ρ B hn i
theorem lcL_pure {ρ : Env} {B : BS} (P : D → Bool) (f : D → D) : ∀ (items acc : List D), (∀ d ∈ items, ∃ ρ1, g d ρ = some ρ1 ∧ ft ρ1 B = some (P d, B) ∧ (P d = true → fe ρ1 B = some (f d, B))) → acc.length + items.length ≤ sizeLine → lcL g ft fe ρ items acc B = some (acc ++ (items.filter P).map f, B)
  | [], acc, _, _ => by simp [lcL]
  | d :: r, acc, h, hl => by
    obtain ⟨ρ1, e1, e2, e3⟩ := h d List.mem_cons_self
    rw [List.length_cons] at hl
    show ob (g d ρ) _ = _
    rw [e1, ob_some, e2, mb_some]
    cases hp : P d with
    | true =>
      show mb (fe ρ1 B) _ = _
      rw [e3 hp, mb_some, decide_eq_true (by omega), gd_t, lcL_pure P f r (acc ++ [f d]) (fun d hd => h d (List.mem_cons_of_mem _ hd)) (by rw [List.length_append, List.length_singleton]; omega)]
      rw [List.filter_cons_of_pos hp, List.map_cons, List.append_assoc]; rfl
    | false =>
      show lcL g ft fe ρ r acc B = _
      rw [lcL_pure P f r acc (fun d hd => h d (List.mem_cons_of_mem _ hd)) (by omega), List.filter_cons_of_neg (by rw [hp]; exact Bool.false_ne_true)]
theorem lcL_map {ρ : Env} {B : BS} (f : D → D) (items : List D) (h : ∀ d ∈ items, ∃ ρ1, g d ρ = some ρ1 ∧ ft ρ1 B = some (true, B) ∧ fe ρ1 B = some (f d, B)) (hl : items.length ≤ sizeLine) : lcL g ft fe ρ items [] B = some (items.map f, B) := by
  rw [lcL_pure (fun _ => true) f items [] (fun d hd => by obtain ⟨ρ1, a, b, c⟩ := h d hd; exact ⟨ρ1, a, b, fun _ => c⟩) (by simpa using hl)]
  rw [List.filter_eq_self.mpr (fun _ _ => rfl), List.nil_append]
theorem lcL_draw {ρ : Env} (I : BS → Prop) (R : D → D → Prop) : ∀ (items acc : List D) (B : BS), I B → (∀ d ∈ items, ∀ B, I B → ∃ ρ1 B1 y, g d ρ = some ρ1 ∧ ft ρ1 B = some (true, B) ∧ fe ρ1 B = some (y, B1) ∧ R d y ∧ I B1) → acc.length + items.length ≤ sizeLine →
    ∃ out B', lcL g ft fe ρ items acc B = some (acc ++ out, B') ∧ I B' ∧ out.length = items.length ∧ ∀ (k : Nat) (d y : D), items[k]? = some d → out[k]? = some y → R d y
  | [], acc, B, i, _, _ => ⟨[], B, by simp [lcL], i, rfl, fun k d y h => by simp at h⟩
  | d :: r, acc, B, i, h, hl => by
    obtain ⟨ρ1, B1, y, e1, e2, e3, ry, i1⟩ := h d List.mem_cons_self B i
    rw [List.length_cons] at hl
    obtain ⟨out, B', e4, i2, l, q⟩ := lcL_draw I R r (acc ++ [y]) B1 i1 (fun d hd => h d (List.mem_cons_of_mem _ hd)) (by rw [List.length_append, List.length_singleton]; omega)
    refine ⟨y :: out, B', ?_, i2, by rw [List.length_cons, List.length_cons, l], fun k d' y' h1 h2 => ?_⟩
    · show ob (g d ρ) _ = _
      rw [e1, ob_some, e2, mb_some]
      show mb (fe ρ1 B) _ = _
      rw [e3, mb_some, decide_eq_true (by omega), gd_t, e4, List.append_assoc]; rfl
    · cases k with
      | zero => simp at h1 h2; subst h1 h2; exact ry
      | succ k => exact q k d' y' (by simpa using h1) (by simpa using h2)
theorem lcL_keep {ρ : Env} (I : BS → Prop) (f : D → D) : ∀ (items acc : List D) (B : BS), I B → (∀ d ∈ items, ∀ B, I B → ∃ ρ1 B1 b, g d ρ = some ρ1 ∧ ft ρ1 B = some (b, B1) ∧ I B1 ∧ (b = true → fe ρ1 B1 = some (f d, B1))) → acc.length + items.length ≤ sizeLine →
    ∃ (out : List D) (B' : BS), lcL g ft fe ρ items acc B = some (acc ++ out.map f, B') ∧ I B' ∧ out.Sublist items
  | [], acc, B, i, _, _ => ⟨[], B, by simp [lcL], i, List.Sublist.refl _⟩
  | d :: r, acc, B, i, h, hl => by
    obtain ⟨ρ1, B1, b, e1, e2, i1, e3⟩ := h d List.mem_cons_self B i
    rw [List.length_cons] at hl
    cases b with
    | false =>
      obtain ⟨out, B', e4, i2, l⟩ := lcL_keep I f r acc B1 i1 (fun d hd => h d (List.mem_cons_of_mem _ hd)) (by omega)
      refine ⟨out, B', ?_, i2, l.cons _⟩
      show ob (g d ρ) _ = _
      rw [e1, ob_some, e2, mb_some]; exact e4
    | true =>
      obtain ⟨out, B', e4, i2, l⟩ := lcL_keep I f r (acc ++ [f d]) B1 i1 (fun d hd => h d (List.mem_cons_of_mem _ hd)) (by rw [List.length_append, List.length_singleton]; omega)
      refine ⟨d :: out, B', ?_, i2, l.cons_cons _⟩
      show ob (g d ρ) _ = _
      rw [e1, ob_some, e2, mb_some]
      show mb (fe ρ1 B1) _ = _
      rw [e3 rfl, mb_some, decide_eq_true (by omega), gd_t, e4, List.map_cons, List.append_assoc]; rfl
end
theorem runP_of {m n : Nat} {g : Env → M Out} {ds : List D} {ρ : Env} {v : D} {B' : BS} (hl : ds.length = n) (he : envP m ds = ρ) (h : g ρ ⟨[], []⟩ = some (.ret v, B')) : runP m n g ds = some v := by
  unfold runP
  rw [decide_eq_true hl, gd_t, he, h]; rfl
theorem runB_of {m n : Nat} {g : Env → M Out} {ds : List D} {ρ : Env} {B B' : BS} {v : D} (hl : ds.length + 1 = n) (he : envP (m - 1) ds = ρ) (h : g (.box :: ρ) B = some (.ret v, B')) : runB m n g ds B = some (v, B') := by
  unfold runB
  rw [decide_eq_true hl, gd_t, he, h]; rfl
theorem seq_nx {g h : Env → M Out} {ρ ρ1 : Env} {B B1 : BS} (e : g ρ B = some (.nx ρ1, B1)) : fSeq g h ρ B = h ρ1 B1 := by
  unfold fSeq
  rw [e]; rfl
theorem seq_ret {g h : Env → M Out} {ρ : Env} {v : D} {B B1 : BS} (e : g ρ B = some (.ret v, B1)) : fSeq g h ρ B = some (.ret v, B1) := by
  unfold fSeq
  rw [e]; rfl
theorem ints_map (ns : List Int) : ints? (ns.map PyData.int) = some ns := by
  induction ns with
  | nil => rfl
  | cons n ns ih => simp [ints?, ih]
theorem bools_map (ns : List Bool) : bools? (ns.map PyData.bool) = some ns := by
  induction ns with
  | nil => rfl
  | cons n ns ih => simp [bools?, ih]
theorem rng1_nat {n : Nat} (h : n < 4611686018427387904) : rng1 [.int (n : Int)] = some ((List.range n).map fun (i : Nat) => PyData.int (i : Int)) := by
  show gd (decide (-(2 ^ 62) ≤ (n : Int) ∧ (n : Int) < 2 ^ 62)) _ = _
  rw [decide_eq_true (by omega), gd_t]
  simp
theorem rng2_nat {a b : Nat} (ha : a < 4611686018427387904) (hb : b < 4611686018427387904) : rng2 [.int (a : Int), .int (b : Int)] = some ((List.range' a (b - a)).map fun (i : Nat) => PyData.int (i : Int)) := by
  show gd (decide (-(2 ^ 62) ≤ (a : Int) ∧ (a : Int) < 2 ^ 62 ∧ -(2 ^ 62) ≤ (b : Int) ∧ (b : Int) < 2 ^ 62)) _ = _
  rw [decide_eq_true (by omega), gd_t]
  rw [show ((b : Int) - (a : Int)).toNat = b - a by omega, List.range'_eq_map_range, List.map_map]
  simp [Function.comp_def]
theorem sizeLine_big {n : Nat} (h : n ≤ 16777216) : n ≤ sizeLine := h
end DL

namespace DL
open PySem PySem.Spec L2
section
variable {ρ ρ1 : Env} {B B1 B2 B3 : BS} {x y d : D} {xs ds es : List D} {fa fb f : Env → M D} {fs fl : Env → M (List D)} {ft fu : Env → M Bool} {b c : Bool} {i j n m : Nat}
theorem ev_var (h : ρ[i]? = some (.d d)) : fVar i ρ B = some (d, B) := by unfold fVar; rw [h]
theorem ev_any (h : ρ[i]? = some (.d d)) : fAny i ρ B = some (d, B) := by unfold fAny; rw [h]
theorem ev_own (h : ρ[i]? = some (.own ds)) : fAny i ρ B = some (.list ds, B) := by unfold fAny; rw [h]
theorem ev_c : fC d ρ B = some (d, B) := rfl
theorem ev_bin {g : D → D → Option D} (h1 : fa ρ B = some (x, B1)) (h2 : fb ρ B1 = some (y, B2)) (h3 : g x y = some d) : fBin g fa fb ρ B = some (d, B2) := by
  unfold fBin; rw [h1, mb_some, h2, mb_some, h3]; rfl
theorem ev_un {g : D → Option D} (h1 : fa ρ B = some (x, B1)) (h3 : g x = some d) : fUn g fa ρ B = some (d, B1) := by
  unfold fUn; rw [h1, mb_some, h3]; rfl
theorem ev_nil : fNil ρ B = some ([], B) := rfl
theorem ev_cons (h1 : fa ρ B = some (x, B1)) (h2 : fs ρ B1 = some (xs, B2)) : fCons fa fs ρ B = some (x :: xs, B2) := by
  unfold fCons; rw [h1, mb_some, h2]; rfl
theorem ev_tup (h1 : fs ρ B = some (xs, B1)) (h : xs.length ≤ 1000) : fTup fs ρ B = some (.tuple xs, B1) := by
  unfold fTup; rw [h1, mb_some, decide_eq_true h]; rfl
theorem ev_lst (h1 : fs ρ B = some (xs, B1)) (h : xs.length ≤ 1000) : fLst fs ρ B = some (xs, B1) := by
  unfold fLst; rw [h1, mb_some, decide_eq_true h]; rfl
theorem ev_fr (h1 : fs ρ B = some (xs, B1)) : fFr fs ρ B = some (.list xs, B1) := by
  unfold fFr; rw [h1]; rfl
theorem ev_cb {g : List D → Option D} (h1 : fs ρ B = some (xs, B1)) (h : g xs = some d) : fCB g fs ρ B = some (d, B1) := by
  unfold fCB; rw [h1, mb_some, h]; rfl
theorem ev_co {g : List D → Option (List D)} (h1 : fs ρ B = some (xs, B1)) (h : g xs = some ds) : fCO g fs ρ B = some (ds, B1) := by
  unfold fCO; rw [h1, mb_some, h]; rfl
theorem ev_it (h1 : fa ρ B = some (x, B1)) (h : items? x = some ds) : fIt fa ρ B = some (ds, B1) := by
  unfold fIt; rw [h1, mb_some, h]; rfl
theorem ev_cat (h1 : fa ρ B = some (.list xs, B1)) (h2 : fb ρ B1 = some (.list ds, B2)) (h : xs.length + ds.length ≤ sizeLine) : fCatO fa fb ρ B = some (xs ++ ds, B2) := by
  unfold fCatO fBinO; rw [h1, mb_some, h2, mb_some]; show ob (gd (decide (xs.length + ds.length ≤ sizeLine)) _) _ = _; rw [decide_eq_true h]; rfl
theorem ev_bl (h1 : fa ρ B = some (.bool b, B1)) : fBl fa ρ B = some (b, B1) := by
  unfold fBl; rw [h1]; rfl
theorem ev_tru (h1 : fa ρ B = some (x, B1)) (h : tru x = some b) : fTru fa ρ B = some (b, B1) := by
  unfold fTru; rw [h1, mb_some, h]; rfl
theorem ev_not (h1 : ft ρ B = some (b, B1)) : fNotT ft ρ B = some (!b, B1) := by
  unfold fNotT; rw [h1]; rfl
theorem ev_and (h1 : ft ρ B = some (true, B1)) (h2 : fu ρ B1 = some (b, B2)) : fAndT ft fu ρ B = some (b, B2) := by
  unfold fAndT; rw [h1]; exact h2
theorem ev_and0 (h1 : ft ρ B = some (false, B1)) : fAndT ft fu ρ B = some (false, B1) := by
  unfold fAndT; rw [h1]; rfl
theorem ev_or (h1 : ft ρ B = some (false, B1)) (h2 : fu ρ B1 = some (b, B2)) : fOrT ft fu ρ B = some (b, B2) := by
  unfold fOrT; rw [h1]; exact h2
theorem ev_or1 (h1 : ft ρ B = some (true, B1)) : fOrT ft fu ρ B = some (true, B1) := by
  unfold fOrT; rw [h1]; rfl
theorem ev_andV (h1 : fa ρ B = some (x, B1)) (ht : tru x = some true) (h2 : fb ρ B1 = some (y, B2)) : fAndV fa fb ρ B = some (y, B2) := by
  unfold fAndV; rw [h1, mb_some, ht]; exact h2
theorem ev_andV0 (h1 : fa ρ B = some (x, B1)) (ht : tru x = some false) : fAndV fa fb ρ B = some (x, B1) := by
  unfold fAndV; rw [h1, mb_some, ht]; rfl
theorem ev_ifE1 (h1 : ft ρ B = some (true, B1)) (h2 : fa ρ B1 = some (x, B2)) : fIfE ft fa fb ρ B = some (x, B2) := by
  unfold fIfE; rw [h1]; exact h2
theorem ev_ifE0 (h1 : ft ρ B = some (false, B1)) (h2 : fb ρ B1 = some (x, B2)) : fIfE ft fa fb ρ B = some (x, B2) := by
  unfold fIfE; rw [h1]; exact h2
theorem ev_sl {gl gh : Env → M (Option Int)} {lo hi : Option Int} (h1 : f ρ B = some (d, B1)) (h2 : gl ρ B1 = some (lo, B2)) (h3 : gh ρ B2 = some (hi, B3)) (h : gSl d lo hi = some x) : fSl f gl gh ρ B = some (x, B3) := by
  unfold fSl; rw [h1, mb_some, h2, mb_some, h3, mb_some, h]; rfl
theorem ev_pno : fPNo ρ B = some (none, B) := rfl
theorem ev_pso {k : Int} (h : f ρ B = some (.int k, B1)) : fPSo f ρ B = some (some k, B1) := by
  unfold fPSo; rw [h]; rfl
theorem ev_call {G : List D → Option D} (h1 : fs ρ B = some (xs, B1)) (hl : xs.length = n) (h : G xs = some d) : fCall n G fs ρ B = some (d, B1) := by
  unfold fCall; rw [h1, mb_some, decide_eq_true hl, gd_t, h]; rfl
theorem ev_callB {G : List D → M D} (hb : ρ[i]? = some .box) (h1 : fs ρ B = some (xs, B1)) (hl : xs.length + 1 = n) (h : G xs B1 = some (d, B2)) : fCallB i n G fs ρ B = some (d, B2) := by
  unfold fCallB; rw [hb]; show gd true _ = _; rw [gd_t, h1, mb_some, decide_eq_true hl, gd_t, h]
theorem ev_lc {g : D → Env → Option Env} {fe : Env → M D} {vs : List Nat} (h1 : fl ρ B = some (xs, B1)) (h2 : lcL g ft fe (wipeE ρ vs) xs [] B1 = some (ds, B2)) : fLc fl g ft fe vs ρ B = some (ds, B2) := by
  unfold fLc; rw [h1, mb_some, h2]
variable {o : Out} {g h : Env → M Out}
theorem ev_set (h1 : f ρ B = some (d, B1)) : fSet i f ρ B = some (.nx (ρ.set i (.d d)), B1) := by
  unfold fSet; rw [h1]; rfl
theorem ev_setO (h1 : fs ρ B = some (xs, B1)) : fSetO i fs ρ B = some (.nx (ρ.set i (.own xs)), B1) := by
  unfold fSetO; rw [h1]; rfl
theorem ev_asg {gg : D → Env → Option Env} (h1 : f ρ B = some (d, B1)) (h2 : gg d ρ = some ρ1) : fAsg gg f ρ B = some (.nx ρ1, B1) := by
  unfold fAsg; rw [h1, mb_some, h2]; rfl
theorem ev_par (h1 : fs ρ B = some ([x, y], B1)) : fPar i j fs ρ B = some (.nx ((ρ.set i (.d x)).set j (.d y)), B1) := by
  unfold fPar; rw [h1]; rfl
theorem ev_parO {fl2 : Env → M (List D)} (h1 : fs ρ B = some (xs, B1)) (h2 : fl2 ρ B1 = some (ds, B2)) : fParO i j fs fl2 ρ B = some (.nx ((ρ.set i (.own xs)).set j (.own ds)), B2) := by
  unfold fParO; rw [h1, mb_some, h2]; rfl
theorem ev_aug {k : Int → Int → Int} {a e : Int} (h0 : ρ[i]? = some (.d (.int a))) (h1 : f ρ B = some (.int e, B1)) : fAug i k f ρ B = some (.nx (ρ.set i (.d (.int (k a e)))), B1) := by
  unfold fAug; rw [h0]; show mb (f ρ B) _ = _; rw [h1]; rfl
theorem ev_app (h0 : ρ[i]? = some (.own ds)) (h1 : f ρ B = some (d, B1)) (hl : ds.length < sizeLine) : fApp i f ρ B = some (.nx (ρ.set i (.own (ds ++ [d]))), B1) := by
  unfold fApp; rw [h0]; show mb (f ρ B) _ = _; rw [h1, mb_some, decide_eq_true hl]; rfl
theorem ev_ext (h0 : ρ[i]? = some (.own ds)) (h1 : f ρ B = some (.list es, B1)) (hl : ds.length + es.length ≤ sizeLine) : fExt i f ρ B = some (.nx (ρ.set i (.own (ds ++ es))), B1) := by
  unfold fExt; rw [h0]; show mb (f ρ B) _ = _; rw [h1, mb_some]; show gd _ _ = _; rw [decide_eq_true hl]; rfl
theorem ev_ins {k : Nat} (h0 : ρ[i]? = some (.own ds)) (h1 : fa ρ B = some (.int (k : Int), B1)) (h2 : f ρ B1 = some (d, B2)) (hl : ds.length < sizeLine) (hk : k < 1073741824) : fIns i fa f ρ B = some (.nx (ρ.set i (.own (ds.take k ++ [d] ++ ds.drop k))), B2) := by
  unfold fIns; rw [h0]; show mb (fa ρ B) _ = _; rw [h1, mb_some]; show mb (f ρ B1) _ = _; rw [h2, mb_some]
  have : decide (ds.length < sizeLine ∧ (0 : Int) ≤ (k : Int) ∧ (k : Int) < 2 ^ 63) = true := decide_eq_true ⟨hl, by omega, by omega⟩
  rw [this]; rfl
theorem ev_ret (h1 : f ρ B = some (d, B1)) : fRet f ρ B = some (.ret d, B1) := by
  unfold fRet; rw [h1]; rfl
theorem ev_if1 (h1 : ft ρ B = some (true, B1)) (h2 : g ρ B1 = some (o, B2)) : fIf ft g h ρ B = some (o, B2) := by
  unfold fIf; rw [h1]; exact h2
theorem ev_if0 (h1 : ft ρ B = some (false, B1)) (h2 : h ρ B1 = some (o, B2)) : fIf ft g h ρ B = some (o, B2) := by
  unfold fIf; rw [h1]; exact h2
theorem ev_next : fNext ρ B = some (.nx ρ, B) := rfl
theorem ev_for {gg : D → Env → Option Env} (h1 : fl ρ B = some (xs, B1)) (h2 : forL gg g xs ρ B1 = some (o, B2)) : fFor fl gg g ρ B = some (o, B2) := by
  unfold fFor; rw [h1, mb_some, h2]
theorem ev_seq (h1 : g ρ B = some (.nx ρ1, B1)) (h2 : h ρ1 B1 = some (o, B2)) : fSeq g h ρ B = some (o, B2) := by
  rw [seq_nx h1, h2]
end
theorem cutD_to {xs : List D} {k : Nat} : cutD xs none (some (k : Int)) = xs.take k := by
  unfold cutD
  rw [HT.sIx_nat, HT.sIx_none, Nat.sub_zero, List.drop_zero]
  by_cases h : k ≤ xs.length
  · rw [Nat.min_eq_left h]
  · rw [Nat.min_eq_right (by omega), List.take_of_length_le (Nat.le_refl _), List.take_of_length_le (by omega)]
theorem cutD_from {xs : List D} {k : Nat} : cutD xs (some (k : Int)) none = xs.drop k := by
  unfold cutD
  rw [HT.sIx_nat, HT.sIx_none]
  by_cases h : k ≤ xs.length
  · rw [Nat.min_eq_left h, List.take_of_length_le (by simp)]
  · rw [Nat.min_eq_right (by omega), Nat.sub_self, List.take_zero, List.drop_eq_nil_of_le (by omega)]
theorem cutD_mid {xs : List D} {a b : Nat} : cutD xs (some (a : Int)) (some (b : Int)) = (xs.take b).drop a := by
  unfold cutD
  rw [HT.sIx_nat, HT.sIx_nat, List.drop_take]
  by_cases h : a ≤ xs.length
  · rw [Nat.min_eq_left h]
    by_cases h2 : b ≤ xs.length
    · rw [Nat.min_eq_left h2]
    · rw [Nat.min_eq_right (by omega : xs.length ≤ b), List.take_of_length_le (by simp), List.take_of_length_le (by simp; omega)]
  · rw [Nat.min_eq_right (by omega : xs.length ≤ a), List.drop_eq_nil_of_le (Nat.le_refl _), List.drop_eq_nil_of_le (by omega : xs.length ≤ a), List.take_nil, List.take_nil]
theorem gAdd_int (i j : Int) : gAdd (.int i) (.int j) = some (.int (i + j)) := rfl
theorem gSub_int (i j : Int) : DL.gSub (.int i) (.int j) = some (.int (i - j)) := rfl
theorem gLt_int (i j : Int) : gLt (.int i) (.int j) = some (.bool (decide (i < j))) := rfl
theorem gGt_int (i j : Int) : gGt (.int i) (.int j) = some (.bool (decide (j < i))) := rfl
theorem gLen_list (xs : List D) : gLen [.list xs] = some (.int (xs.length : Int)) := rfl
theorem gLen_tuple (xs : List D) : gLen [.tuple xs] = some (.int (xs.length : Int)) := rfl
theorem gIx_list (xs : List D) (k : Nat) : gIx (.list xs) (.int (k : Int)) = xs[k]? := by show atI _ _ = _; rw [atI_cast]
theorem gIx_tuple (xs : List D) (k : Nat) : gIx (.tuple xs) (.int (k : Int)) = xs[k]? := by show atI _ _ = _; rw [atI_cast]
theorem gAdd_list {xs ys : List D} (h : xs.length + ys.length ≤ sizeLine) : gAdd (.list xs) (.list ys) = some (.list (xs ++ ys)) := by
  show gd _ _ = _
  rw [decide_eq_true h]; rfl
theorem gMul_list {xs : List D} {k : Nat} (h : xs.length * k ≤ sizeLine) (hk : k < 1073741824) : gMul (.list xs) (.int (k : Int)) = some (.list (List.replicate k xs).flatten) := by
  show gd _ _ = _
  rw [decide_eq_true ⟨by omega, by omega, by rw [Int.toNat_natCast]; exact h⟩]; rfl
theorem gSl_list (xs : List D) (lo hi : Option Int) : gSl (.list xs) lo hi = some (.list (cutD xs lo hi)) := rfl
theorem gSl_tuple (xs : List D) (lo hi : Option Int) : gSl (.tuple xs) lo hi = some (.tuple (cutD xs lo hi)) := rfl
theorem draw_n {B : BS} (h : B.ok) (m : Nat) (h0 : 0 < m) (h1 : m < 1073741824) : ∃ (k : Nat) (B' : BS), k < m ∧ B'.ok ∧ G_Ldraw [.int (m : Int)] B = some (.int (k : Int), B') := by
  obtain ⟨d, B', e, a, b, o⟩ := draw_ok h (many := (m : Int)) (by omega) (by omega)
  exact ⟨d.toNat, B', by omega, o, by rw [e, Int.toNat_of_nonneg a]⟩
theorem ev_draw {ρ : Env} {B B1 : BS} {i : Nat} {f : Env → M D} (m : Nat) (hb : ρ[i]? = some .box) (hf : f ρ B = some (.int (m : Int), B1)) (h : B1.ok) (h0 : 0 < m) (h1 : m < 1073741824) : ∃ (k : Nat) (B' : BS), k < m ∧ B'.ok ∧ fCallB i 2 G_Ldraw (fCons f fNil) ρ B = some (.int (k : Int), B') := by
  obtain ⟨k, B', a, o, e⟩ := draw_n h m h0 h1
  exact ⟨k, B', a, o, ev_callB hb (ev_cons hf ev_nil) rfl e⟩
theorem ev_drawC {ρ : Env} {B : BS} {i : Nat} (m : Nat) (hb : ρ[i]? = some .box) (h : B.ok) (h0 : 0 < m) (h1 : m < 1073741824) : ∃ (k : Nat) (B' : BS), k < m ∧ B'.ok ∧ fCallB i 2 G_Ldraw (fCons (fC (.int (m : Int))) fNil) ρ B = some (.int (k : Int), B') := ev_draw m hb ev_c h h0 h1
theorem ev_pick {ρ : Env} {B : BS} {i : Nat} {fs : Env → M (List D)} (ss : List Str) (m : Nat) (hb : ρ[i]? = some .box) (h : B.ok) (hF : fs ρ B = some (ss.map .str, B)) (hl : ss.length = m) (h0 : 0 < m) (h1 : m ≤ 1000) : ∃ (x : Str) (B' : BS), x ∈ ss ∧ B'.ok ∧ fBin gIx (fFr (fLst fs)) (fCallB i 2 G_Ldraw (fCons (fC (.int (m : Int))) fNil)) ρ B = some (.str x, B') := by
  obtain ⟨k, B', a, o, e⟩ := ev_drawC (ρ := ρ) (B := B) (i := i) m hb h h0 (by omega)
  subst hl
  refine ⟨ss[k], B', List.getElem_mem a, o, ev_bin (ev_fr (ev_lst hF (by simpa using h1))) e ?_⟩
  rw [gIx_list, List.getElem?_map, List.getElem?_eq_getElem a]; rfl
theorem strs_of {out : List D} (h : ∀ (k : Nat) (y : D), out[k]? = some y → ∃ x, y = .str x) : ∃ xs : List Str, out = xs.map .str ∧ xs.length = out.length := by
  induction out with
  | nil => exact ⟨[], rfl, rfl⟩
  | cons y r ih =>
    obtain ⟨x, rfl⟩ := h 0 y rfl
    obtain ⟨xs, e, l⟩ := ih fun k y hy => h (k + 1) y (by simpa using hy)
    exact ⟨x :: xs, by rw [e]; rfl, by simp [l]⟩
theorem minD_least {m : D} : ∀ (xs : List D) (x : D), m ∈ x :: xs → (∀ y ∈ x :: xs, y = m ∨ (PySem.W.dataLt m y = true ∧ PySem.W.dataLt y m = false)) → PySem.W.minD x xs = m
  | [], x, hm, _ => by
    rw [List.mem_singleton.mp hm]; rfl
  | y :: ys, x, hm, h => by
    show PySem.W.minD (if PySem.W.dataLt y x then y else x) ys = m
    have hx := h x List.mem_cons_self
    have hy := h y (List.mem_cons_of_mem _ List.mem_cons_self)
    have rest : ∀ z ∈ ys, z = m ∨ (PySem.W.dataLt m z = true ∧ PySem.W.dataLt z m = false) := fun z hz => h z (List.mem_cons_of_mem _ (List.mem_cons_of_mem _ hz))
    by_cases ex : x = m
    · subst ex
      have : PySem.W.dataLt y x = false := by
        rcases hy with rfl | hy
        · exact PySem.W.dataLt_self _
        · exact hy.2
      rw [this, if_neg Bool.false_ne_true]
      refine minD_least ys x List.mem_cons_self fun z hz => ?_
      rcases List.mem_cons.mp hz with rfl | hz
      · exact .inl rfl
      · exact rest z hz
    · by_cases ey : y = m
      · subst ey
        have : PySem.W.dataLt y x = true := by
          rcases hx with hx | hx
          · exact absurd hx ex
          · exact hx.1
        rw [this, if_pos rfl]
        refine minD_least ys y List.mem_cons_self fun z hz => ?_
        rcases List.mem_cons.mp hz with rfl | hz
        · exact .inl rfl
        · exact rest z hz
      · have hm2 : m ∈ ys := by
          rcases List.mem_cons.mp hm with e | hm
          · exact absurd e.symm ex
          · rcases List.mem_cons.mp hm with e | hm
            · exact absurd e.symm ey
            · exact hm
        refine minD_least ys _ (List.mem_cons_of_mem _ hm2) fun z hz => ?_
        rcases List.mem_cons.mp hz with rfl | hz
        · split
          · exact hy
          · exact hx
        · exact rest z hz
theorem foldl_max {m : Int} : ∀ (ns : List Int) (n : Int), m ∈ n :: ns → (∀ k ∈ n :: ns, k ≤ m) → ns.foldl max n = m
  | [], n, hm, _ => (List.mem_singleton.mp hm).symm
  | k :: ns, n, hm, h => by
    show ns.foldl max (max n k) = m
    have hn := h n List.mem_cons_self
    have hk := h k (List.mem_cons_of_mem _ List.mem_cons_self)
    refine foldl_max ns _ ?_ fun z hz => ?_
    · rcases List.mem_cons.mp hm with rfl | hm
      · rw [Int.max_eq_left hk]; exact List.mem_cons_self
      · rcases List.mem_cons.mp hm with rfl | hm
        · rw [Int.max_eq_right hn]; exact List.mem_cons_self
        · exact List.mem_cons_of_mem _ hm
    · rcases List.mem_cons.mp hz with rfl | hz
      · omega
      · exact h z (List.mem_cons_of_mem _ (List.mem_cons_of_mem _ hz))
end DL

namespace DL
open PySem PySem.Spec L2
def lcL2 (g : D → Env → Option Env) (ft : Env → M Bool) (fi1 : Env → M (List D)) (g1 : D → Env → Option Env) (ft1 : Env → M Bool) (fe : Env → M D) (vs1 : List Nat) (ρ : Env) : List D → List D → M (List D)
  | [], acc => fun B => some (acc, B)
  | d :: ds, acc => fun B => ob (g d ρ) fun ρ1 => mb (ft ρ1 B) fun b B1 => bif b then mb (fi1 ρ1 B1) fun items B2 => mb (lcL g1 ft1 fe (wipeE ρ1 vs1) items acc B2) fun acc' B3 => lcL2 g ft fi1 g1 ft1 fe vs1 ρ ds acc' B3 else lcL2 g ft fi1 g1 ft1 fe vs1 ρ ds acc B1
def fLc2 (fi : Env → M (List D)) (g : D → Env → Option Env) (ft : Env → M Bool) (fi1 : Env → M (List D)) (g1 : D → Env → Option Env) (ft1 : Env → M Bool) (fe : Env → M D) (vs vs1 : List Nat) : Env → M (List D) := fun ρ B => mb (fi ρ B) fun ds B1 => lcL2 g ft fi1 g1 ft1 fe vs1 (wipeE ρ vs) ds [] B1
theorem wipeE_own {ρ : Env} {i : Nat} {xs : List D} : ∀ {vs : List Nat}, (wipeE ρ vs)[i]? = some (.own xs) → ρ[i]? = some (.own xs) ∧ i ∉ vs
  | [], h => ⟨h, by simp⟩
  | v :: vs, h => by
    unfold wipeE at h
    by_cases e : i = v
    · subst e
      have hlt : i < (wipeE ρ vs).length := by
        have := (List.getElem?_eq_some_iff.mp h).1
        simpa using this
      rw [List.getElem?_set_self hlt] at h; cases h
    · rw [List.getElem?_set_ne (Ne.symm e)] at h
      obtain ⟨h1, h2⟩ := wipeE_own h
      exact ⟨h1, by simp [e, h2]⟩
def NoOwn (g : D → Env → Option Env) : Prop := ∀ d ρ ρ1, g d ρ = some ρ1 → ∀ (i : Nat) (xs : List D), ρ1[i]? = some (.own xs) → ρ[i]? = some (.own xs)
theorem noOwn_set (j : Nat) : NoOwn (gSet j) := fun d ρ ρ1 e i xs h => by
  cases e
  by_cases c : i = j
  · subst c
    have hlt : i < ρ.length := by
      have := (List.getElem?_eq_some_iff.mp h).1
      simpa using this
    rw [List.getElem?_set_self hlt] at h; cases h
  · rw [List.getElem?_set_ne (Ne.symm c)] at h; exact h
def NoOwns (g : List D → Env → Option Env) : Prop := ∀ ds ρ ρ1, g ds ρ = some ρ1 → ∀ (i : Nat) (xs : List D), ρ1[i]? = some (.own xs) → ρ[i]? = some (.own xs)
theorem noOwns_nil : NoOwns gsNil := fun ds ρ ρ1 e i xs h => by
  unfold gsNil at e
  split at e
  · cases e; exact h
  · cases e
theorem noOwns_cons {g : D → Env → Option Env} {gs : List D → Env → Option Env} (hg : NoOwn g) (hs : NoOwns gs) : NoOwns (gsCons g gs) := fun ds ρ ρ1 e i xs h => by
  unfold gsCons at e
  split at e
  · obtain ⟨ρ2, e1, e2⟩ := ob_eq e
    exact hg _ _ _ e1 i xs (hs _ _ _ e2 i xs h)
  · cases e
theorem noOwn_tup {gs : List D → Env → Option Env} (hs : NoOwns gs) : NoOwn (gTupD gs) := fun d ρ ρ1 e i xs h => by
  unfold gTupD at e
  split at e
  · exact hs _ _ _ e i xs h
  · cases e
theorem Ok.updD {K : PySem.W.Frag} {F0 H0 F H : Hp} {bx : BxA} {σ : L2.St} {ρ : Env} {B : BS} {p : Addr} {o : HO} (k : Ok K F0 H0 bx σ ρ F H B) (hF : F p = none) (h0 : H0 p = none) (nD : ¬ InB bx p) {us : List V} (hp : H p = some (.lst us)) (no : ∀ (i : Nat) (xs : List D), ρ[i]? = some (.own xs) → σ[i]? ≠ some (some (.ref p))) : Ok K F0 H0 bx σ ρ F (upd H p o) B where
  sub := fun a u z => by rw [upd_ne (ne_of_none z hF)]; exact k.sub a u z
  bxF := k.bxF
  box := fun b' c' z => by
    obtain ⟨n0, n1, n2⟩ := k.box b' c' z
    have m1 : b' ≠ p := fun w => nD ⟨b', c', z, .inl w.symm⟩
    have m2 : c' ≠ p := fun w => nD ⟨b', c', z, .inr w.symm⟩
    exact ⟨n0, by rw [upd_ne m1]; exact n1, by rw [upd_ne m2]; exact n2⟩
  stp := ⟨k.stp.fex, fun a u z n => by rw [upd_ne (ne_of_none z h0)]; exact k.stp.hex a u z n, fun a z => by
    unfold upd
    split
    · intro w; cases w
    · exact k.stp.hin a z, k.stp.new⟩
  len := k.len
  sl := fun i s e => by
    have h := k.sl i s e
    cases s with
    | no => trivial
    | d d => exact h
    | own ds =>
      obtain ⟨l, vs, h1, h2, h3, h4, h5, h6⟩ := h
      have : l ≠ p := fun w => no i ds e (by rw [h1, w])
      exact ⟨l, vs, h1, by rw [upd_ne this]; exact h2, h3, h4, h5, h6⟩
    | dk ds =>
      obtain ⟨l, vs, h1, h2, h3, h4, h5, h6⟩ := h
      have : l ≠ p := fun w => by subst w; rw [hp] at h2; cases h2
      exact ⟨l, vs, h1, by rw [upd_ne this]; exact h2, h3, h4, h5, h6⟩
    | box => exact h
  dis := k.dis
section
variable {X : Cx} {pos : Pos}
theorem lc2_go {K : PySem.W.Frag} {fi fi1 : Env → M (List D)} {g g1 : D → Env → Option Env} {ft ft1 : Env → M Bool} {fe : Env → M D} {vs vs1 ix ix1 : List Nat} (hix : ∀ i ∈ ix, i ∈ vs) (hix1 : ∀ i ∈ ix1, i ∈ vs1) (hno : NoOwn g) {σ : L2.St} {H : Hp} {Q : VK} (h : tO K (fLc2 fi g ft fi1 g1 ft1 fe vs vs1) σ H Q) :
    tLc2 (tIo K fi) (tG K ix g) (tT K ft) (tI K fi1) (tG K ix1 g1) (tT K ft1) (tD K fe) vs vs1 σ H Q := by
  obtain ⟨F0, H0, bx, ρ, F, B, ds, B', e, k, q⟩ := h
  obtain ⟨items, B1, e1, e2⟩ := mb_eq e
  refine ⟨F0, H0, bx, ρ, F, B, items, B1, e1, k, fun J F1 H1 s1 sub1 b1 go D hD => ?_⟩
  have k1 := k.step s1 sub1 b1
  have f1 : F1 D = none := by
    cases z : F1 D with
    | none => rfl
    | some o => rw [sub1 D o z] at hD; cases hD
  have nD : ¬ InB bx D := fun i => b1.there i hD
  have hD0 : H D = none := by
    by_cases z : H D = none
    · exact z
    · exact absurd hD (s1.hin D z)
  have keepD : ∀ {Fa Ha Fb Hb : Hp}, Stp bx Fa Ha Fb Hb → Fa D = none → ∀ {o}, Ha D = some o → Fb D = none ∧ Hb D = some o := fun {Fa Ha Fb Hb} s z {o} w => by
    refine ⟨?_, s.hex D o w nD⟩
    by_cases c : Fb D = none
    · exact c
    · have := s.new D c z
      rw [w] at this; cases this
  refine ⟨fun i m H2 => m = items.length - i ∧ i ≤ items.length ∧ ∃ F2 Bc acc accV, Stp bx F1 H1 F2 H2 ∧ Same F2 H2 ∧ BoxOk bx H2 Bc ∧ F2 D = none ∧ H2 D = some (.lst accV) ∧ RpA K F2 accV acc ∧ lcL2 g ft fi1 g1 ft1 fe vs1 (wipeE ρ vs) (items.drop i) acc Bc = some (ds, B'), ?_, ?_⟩
  · refine ⟨items.length, by simp, Nat.zero_le _, F1, B1, [], [], .own hD, fun c u z => ?_, b1.laid hD, f1, upd_same, .nil, e2⟩
    rw [upd_ne (ne_of_none z f1)]; exact sub1 c u z
  rintro i m H2 ⟨rfl, hi, F2, Bc, acc, accV, s2, sub2, b2, fD, h2, racc, e3⟩
  by_cases hlt : i < items.length
  · refine .inr ?_
    have hd : items[i]? = some items[i] := List.getElem?_eq_getElem hlt
    obtain ⟨hg, hy⟩ := (go i F2 H2 s2 sub2).1 _ hd
    refine ⟨hg, fun H' => ∃ F2 Bc acc accV, Stp bx F1 H1 F2 H' ∧ Same F2 H' ∧ BoxOk bx H' Bc ∧ F2 D = none ∧ H' D = some (.lst accV) ∧ RpA K F2 accV acc ∧ lcL2 g ft fi1 g1 ft1 fe vs1 (wipeE ρ vs) (items.drop (i + 1)) acc Bc = some (ds, B'), fun H' hw => ⟨items.length - (i + 1), by omega, rfl, by omega, hw⟩, fun x H3 y => ?_⟩
    obtain ⟨F3, s3, sub3, r3⟩ := hy x H3 y
    have k2 := (k1.step s2 sub2 b2).wipe vs
    have k3 := k2.step s3.of_none sub3 (b2.step s3.same)
    rw [List.drop_eq_getElem_cons hlt] at e3
    obtain ⟨ρ1, e4, e5⟩ := ob_eq e3
    obtain ⟨b, B3, e6, e7⟩ := mb_eq e5
    refine ⟨F0, H0, bx, wipeE ρ vs, F3, Bc, items[i], ρ1, k3, r3, e4, fun σ' k4 st => ⟨?_, ?_⟩⟩
    · rw [st vs hix]; exact wipe_wipe vs σ vs fun _ z => z
    refine ⟨F0, H0, bx, ρ1, F3, Bc, b, B3, e6, k4, fun F4 H4 s4 sub4 b4 => ?_⟩
    obtain ⟨d3, d3'⟩ := keepD (s3.of_none (bx := bx)) fD h2
    obtain ⟨d4, d4'⟩ := keepD s4 d3 d3'
    have s14 := s2.trans (s3.of_none.trans s4)
    cases b with
    | false =>
      refine iteF ?_
      exact ⟨F4, B3, acc, accV, s14, sub4, b4, d4, d4', racc.mono (s3.fex.trans s4.fex), e7⟩
    | true =>
      refine iteT ?_
      obtain ⟨items1, B5, e8, e9⟩ := mb_eq e7
      have k5 := k4.step s4 sub4 b4
      have noD : ∀ (i : Nat) (xs : List PyData), ρ1[i]? = some (.own xs) → σ'[i]? ≠ some (some (.ref D)) := fun i xs ei es => by
        obtain ⟨w1, w2⟩ := wipeE_own (hno _ _ _ e4 i xs ei)
        have w3 : σ[i]? = σ'[i]? := by
          have := congrArg (fun z => z[i]?) ((st vs hix).trans (wipe_wipe vs σ vs fun _ z => z))
          have this : (L2.wipe σ' vs)[i]? = (L2.wipe σ vs)[i]? := this
          rw [wipe_out w2, wipe_out w2] at this
          exact this.symm
        obtain ⟨l, us, g1', g2', _⟩ := k1.sl i _ w1
        rw [w3, es] at g1'
        cases g1'
        rw [hD] at g2'; cases g2'
      have h0D : H0 D = none := by
        by_cases z : H0 D = none
        · exact z
        · exact absurd hD (k1.stp.hin D z)
      refine ⟨F0, H0, bx, ρ1, F4, B3, items1, B5, e8, k5, fun J1 F5 H5 s5 sub5 b5 go1 => ?_⟩
      obtain ⟨d5, d5'⟩ := keepD s5 d4 d4'
      have s15 := s14.trans s5
      have k6 := k5.step s5 sub5 b5
      refine ⟨fun j m H6 => m = items1.length - j ∧ j ≤ items1.length ∧ ∃ F6 Bc acc accV, Same F5 F6 ∧ Stp bx F1 H1 F6 H6 ∧ Same F6 H6 ∧ BoxOk bx H6 Bc ∧ F6 D = none ∧ H6 D = some (.lst accV) ∧ RpA K F6 accV acc ∧ Ok K F0 H0 bx σ' ρ1 F6 H6 Bc ∧ mb (lcL g1 ft1 fe (wipeE ρ1 vs1) (items1.drop j) acc Bc) (fun acc' B3 => lcL2 g ft fi1 g1 ft1 fe vs1 (wipeE ρ vs) (items.drop (i + 1)) acc' B3) = some (ds, B'), ?_, ?_⟩
      · exact ⟨items1.length, by simp, Nat.zero_le _, F5, B5, acc, accV, Same.refl _, s15, sub5, b5, d5, d5', racc.mono (s3.fex.trans (s4.fex.trans s5.fex)), k6, e9⟩
      rintro j m6 H6 ⟨rfl, hj, F6, Bc6, acc6, accV6, fx6, s6, sub6, b6, fD6, h6, racc6, kk6, e10⟩
      by_cases hlt1 : j < items1.length
      · refine .inr ?_
        have hd1 : items1[j]? = some items1[j] := List.getElem?_eq_getElem hlt1
        obtain ⟨hg1, hy1⟩ := (go1 j F6 H6 fx6 sub6).1 _ hd1
        refine ⟨hg1, fun H' => ∃ F6 Bc acc accV, Same F5 F6 ∧ Stp bx F1 H1 F6 H' ∧ Same F6 H' ∧ BoxOk bx H' Bc ∧ F6 D = none ∧ H' D = some (.lst accV) ∧ RpA K F6 accV acc ∧ Ok K F0 H0 bx σ' ρ1 F6 H' Bc ∧ mb (lcL g1 ft1 fe (wipeE ρ1 vs1) (items1.drop (j + 1)) acc Bc) (fun acc' B3 => lcL2 g ft fi1 g1 ft1 fe vs1 (wipeE ρ vs) (items.drop (i + 1)) acc' B3) = some (ds, B'), fun H' hw => ⟨items1.length - (j + 1), by omega, rfl, by omega, hw⟩, fun x H7 y => ?_⟩
        obtain ⟨F7, s7, sub7, r7⟩ := hy1 x H7 y
        have kk7 := (kk6.wipe vs1).step (s7.of_none (bx := bx)) sub7 (b6.step s7.same)
        have kq7 := kk6.step (s7.of_none (bx := bx)) sub7 (b6.step s7.same)
        rw [List.drop_eq_getElem_cons hlt1] at e10
        obtain ⟨out, Bo, e11, e12⟩ := mb_eq e10
        obtain ⟨ρ2, e13, e14⟩ := ob_eq e11
        obtain ⟨b2', B7, e15, e16⟩ := mb_eq e14
        refine ⟨F0, H0, bx, wipeE ρ1 vs1, F7, Bc6, items1[j], ρ2, kk7, r7, e13, fun σ2' k8 st1 => ⟨?_, ?_⟩⟩
        · rw [st1 vs1 hix1]; exact wipe_wipe vs1 σ' vs1 fun _ z => z
        refine ⟨F0, H0, bx, ρ2, F7, Bc6, b2', B7, e15, k8, fun F8 H8 s8 sub8 b8 => ?_⟩
        obtain ⟨d7, d7'⟩ := keepD (s7.of_none (bx := bx)) fD6 h6
        obtain ⟨d8, d8'⟩ := keepD s8 d7 d7'
        have s18 := s6.trans (s7.of_none.trans s8)
        have kq8 := kq7.step s8 sub8 b8
        cases b2' with
        | false =>
          refine iteF ?_
          refine ⟨F8, B7, acc6, accV6, fx6.trans (s7.fex.trans s8.fex), s18, sub8, b8, d8, d8', racc6.mono (s7.fex.trans s8.fex), kq8, ?_⟩
          rw [show lcL g1 ft1 fe (wipeE ρ1 vs1) (items1.drop (j + 1)) acc6 B7 = some (out, Bo) from e16]
          exact e12
        | true =>
          refine iteT ?_
          obtain ⟨y, B9, e17, e18⟩ := mb_eq e16
          obtain ⟨hs, e19⟩ := gd_eq e18
          refine ⟨F0, H0, bx, ρ2, F8, B7, y, B9, e17, k8.step s8 sub8 b8, fun v F9 H9 s9 sub9 b9 r9 => ⟨accV6, (keepD s9 d8 d8').2, ?_, ?_⟩⟩
          · rw [racc6.length]; exact of_decide_eq_true hs
          · obtain ⟨d9, d9'⟩ := keepD s9 d8 d8'
            have s19 := s18.trans s9
            have kq9 := kq8.step s9 sub9 b9
            have box9 : BoxOk bx (upd H9 D (.lst (accV6 ++ [v]))) B9 := fun b' c' z => by
              obtain ⟨n0, n1, n2⟩ := b9 b' c' z
              have m1 : b' ≠ D := fun w => nD ⟨b', c', z, .inl w.symm⟩
              have m2 : c' ≠ D := fun w => nD ⟨b', c', z, .inr w.symm⟩
              exact ⟨n0, by rw [upd_ne m1]; exact n1, by rw [upd_ne m2]; exact n2⟩
            have sub9' : Same F9 (upd H9 D (.lst (accV6 ++ [v]))) := fun a o z => by
              rw [upd_ne (ne_of_none z d9)]; exact sub9 a o z
            have st9 : Stp bx F1 H1 F9 (upd H9 D (.lst (accV6 ++ [v]))) := ⟨s19.fex, fun a o z n => by rw [upd_ne (ne_of_none z hD)]; exact s19.hex a o z n, fun a z => by
              unfold upd
              split
              · intro w; cases w
              · exact s19.hin a z, s19.new⟩
            refine ⟨F9, B9, acc6 ++ [y], accV6 ++ [v], fx6.trans (s7.fex.trans (s8.fex.trans s9.fex)), st9, sub9', box9, d9, upd_same, (racc6.mono (s7.fex.trans (s8.fex.trans s9.fex))).append (.one r9), ?_, ?_⟩
            · exact kq9.updD d9 h0D nD d9' noD
            · rw [show lcL g1 ft1 fe (wipeE ρ1 vs1) (items1.drop (j + 1)) (acc6 ++ [y]) B9 = some (out, Bo) from e19]
              exact e12
      · have hje : j = items1.length := by omega
        subst hje
        refine .inl ⟨(go1 _ F6 H6 fx6 sub6).2 (Nat.le_refl _), ?_⟩
        rw [List.drop_length] at e10
        exact ⟨F6, Bc6, acc6, accV6, s6, sub6, b6, fD6, h6, racc6, e10⟩
  · have hie : i = items.length := by omega
    subst hie
    refine .inl ⟨(go _ F2 H2 s2 sub2).2 (Nat.le_refl _), ?_⟩
    rw [List.drop_length] at e3
    cases e3
    exact q D accV F2 H2 (s1.trans s2) sub2 b2 fD hD0 nD h2 racc
theorem oe_lc2 {elt tg iter tg1 iter1 : Expr} {ifs ifs1 : List Expr} {scope : Scope} (own : List (Str × Nat)) (vs1 : List Nat) {fi fi1 : Env → M (List D)} {g g1 : D → Env → Option Env} {ix ix1 : List Nat} {ft ft1 : Env → M Bool} {fe : Env → M D} (hc : X.calm = true) (hN : X.N.Nodup) (hi : PI X tg iter (tIo X.K fi)) (ok : BlkOk X.N X.env.scope scope own) (hv : ∀ i ∈ vs1, i ∈ own.map (·.2))
    (hg : ∀ (s : Shared) (H : Hp) (C : Addr) (cl : List (Str × Addr)) (fp : List Addr), PG (X.blk s H scope (compEnvC scope cl C X.env) fp) tg (tG X.K ix g)) (hix : ∀ i ∈ ix, i ∈ own.map (·.2)) (hno : NoOwn g) (ht : ∀ (s : Shared) (H : Hp) (C : Addr) (cl : List (Str × Addr)) (fp : List Addr), PTs (X.blk s H scope (compEnvC scope cl C X.env) fp) ifs (tT X.K ft))
    (hi1 : ∀ (s : Shared) (H : Hp) (C : Addr) (cl : List (Str × Addr)) (fp : List Addr), PI (X.blk s H scope (compEnvC scope cl C X.env) fp) tg1 iter1 (tI X.K fi1))
    (hg1 : ∀ (s : Shared) (H : Hp) (C : Addr) (cl : List (Str × Addr)) (fp : List Addr), PG (X.blk s H scope (compEnvC scope cl C X.env) fp) tg1 (tG X.K ix1 g1)) (hix1 : ∀ i ∈ ix1, i ∈ vs1) (ht1 : ∀ (s : Shared) (H : Hp) (C : Addr) (cl : List (Str × Addr)) (fp : List Addr), PTs (X.blk s H scope (compEnvC scope cl C X.env) fp) ifs1 (tT X.K ft1))
    (he : ∀ (s : Shared) (H : Hp) (C : Addr) (cl : List (Str × Addr)) (fp : List Addr), PE (X.blk s H scope (compEnvC scope cl C X.env) fp) elt (tD X.K fe)) (hs : ∀ x, foldedSetIterable iter X.env x = pure x := by intro _; rfl) (hs1 : ∀ env x, foldedSetIterable iter1 env x = pure x := by intro _ _; rfl) :
    PE X (.ListComp elt [⟨tg, iter, ifs, 0⟩, ⟨tg1, iter1, ifs1, 0⟩] scope pos) (tO X.K (fLc2 fi g ft fi1 g1 ft1 fe (own.map (·.2)) vs1)) := PE.wk (pe_lc2 hc hN hi ok hv hg ht hi1 hg1 ht1 he hs hs1) fun _ _ _ h => lc2_go hix hix1 hno h
end
mutual
def noSub (z : List D) : D → Bool
  | .list ds => !PyData.eqvAll ds z && noSubs z ds
  | .tuple ds => noSubs z ds
  | _ => true
def noSubs (z : List D) : List D → Bool
  | [] => true
  | d :: ds => noSub z d && noSubs z ds
end
section
variable {X : Cx} {pins : List (Addr × Obj)} {σ : L2.St} {F F' H : Hp} {s : Shared}
theorem not_both {a : Addr} {xs ys : List V} (I : Inv X pins σ H s) (h : SqL X.K H a xs) (h' : SqT X.K H a ys) : False := by
  obtain ⟨its, r, ⟨o, n, e, c, _, d⟩, _⟩ := I.list h
  obtain ⟨its', r', ⟨o', e', c', n', d'⟩, _⟩ := I.tuple h'
  rw [e] at e'; cases e'
  rw [c] at c'
  exact absurd c' (by decide)
mutual
theorem Rp.det (I : Inv X pins σ H s) (sub : Same F H) : ∀ {v : V} (d e : D), Rp X.K F v d → Rp X.K F v e → d = e
  | _, .none, _, h, h' => by cases h; cases h'; rfl
  | _, .bool _, _, h, h' => by cases h; cases h'; rfl
  | _, .int _, _, h, h' => by cases h; cases h'; rfl
  | _, .str _, _, h, h' => by cases h; cases h'; rfl
  | _, .list ds, e, h, h' => by
    cases h with
    | lst h1 h2 =>
      cases h' with
      | lst g1 g2 =>
        rw [h1] at g1; cases g1
        rw [RpA.det I sub ds _ h2 g2]
      | tup g1 g2 => exact (not_both I (.of (sub _ _ h1)) (sqt_mono sub g1)).elim
  | _, .tuple ds, e, h, h' => by
    cases h with
    | tup h1 h2 =>
      cases h' with
      | lst g1 g2 => exact (not_both I (.of (sub _ _ g1)) (sqt_mono sub h1)).elim
      | tup g1 g2 =>
        have := I.tuple_inj (sqt_mono sub h1) (sqt_mono sub g1)
        subst this
        rw [RpA.det I sub ds _ h2 g2]
  | _, .dict _, _, h, _ => by cases h
theorem RpA.det (I : Inv X pins σ H s) (sub : Same F H) : ∀ {vs : List V} (ds es : List D), RpA X.K F vs ds → RpA X.K F vs es → ds = es
  | _, [], _, h, h' => by cases h; cases h'; rfl
  | _, d :: ds, _, h, h' => by
    cases h with
    | cons h1 h2 =>
      cases h' with
      | cons g1 g2 => rw [Rp.det I sub d _ h1 g1, RpA.det I sub ds _ h2 g2]
end
def off (F : Hp) (l : Addr) : Hp := fun a => if a = l then none else F a
theorem off_ne {F : Hp} {a l : Addr} (h : a ≠ l) : off F l a = F a := by unfold off; rw [if_neg h]
theorem off_some {F : Hp} {a l : Addr} {o : HO} (h : off F l a = some o) : a ≠ l ∧ F a = some o := by
  unfold off at h
  split at h
  · cases h
  · rename_i c; exact ⟨c, h⟩
mutual
theorem Rp.off (I : Inv X pins σ H s) (sub : Same F H) {l : Addr} {vs : List V} {z : List D} (hl : F l = some (.lst vs)) (rz : RpA X.K F vs z) : ∀ {v : V} (d : D), Rp X.K F v d → noSub z d = true → Rp X.K (off F l) v d
  | _, .none, h, _ => by cases h; exact .non
  | _, .bool b, h, _ => by cases h; exact .bl b
  | _, .int i, h, _ => by cases h; exact .int i
  | _, .str x, h, _ => by cases h; exact .str x
  | _, .list ds, h, n => by
    rw [noSub, Bool.and_eq_true] at n
    cases h with
    | lst h1 h2 =>
      rename_i a xs
      by_cases c : a = l
      · subst c
        rw [h1] at hl; cases hl
        have e := RpA.det I sub ds z h2 rz
        subst e
        have := n.1
        rw [PySem.SeqAt.eqvAll_refl_plain ds (RpA.plain ds h2)] at this
        cases this
      · exact .lst (by rw [off_ne c]; exact h1) (RpA.off I sub hl rz ds h2 n.2)
  | _, .tuple ds, h, n => by
    rw [noSub] at n
    cases h with
    | tup h1 h2 =>
      rename_i a xs
      refine .tup ?_ (RpA.off I sub hl rz ds h2 n)
      rcases h1 with (h1 | ⟨o, h1⟩) | h1
      · have c : a ≠ l := fun c => by subst c; rw [h1] at hl; cases hl
        exact .inl (.inl (by rw [off_ne c]; exact h1))
      · have c : a ≠ l := fun c => by subst c; rw [h1] at hl; cases hl
        exact .inl (.inr ⟨o, by rw [off_ne c]; exact h1⟩)
      · exact .inr h1
  | _, .dict _, h, _ => by cases h
theorem RpA.off (I : Inv X pins σ H s) (sub : Same F H) {l : Addr} {vs : List V} {z : List D} (hl : F l = some (.lst vs)) (rz : RpA X.K F vs z) : ∀ {us : List V} (ds : List D), RpA X.K F us ds → noSubs z ds = true → RpA X.K (off F l) us ds
  | _, [], h, _ => by cases h; exact .nil
  | _, d :: ds, h, n => by
    rw [noSubs, Bool.and_eq_true] at n
    cases h with
    | cons h1 h2 => exact .cons (Rp.off I sub hl rz d h1 n.1) (RpA.off I sub hl rz ds h2 n.2)
end
end
def fLend (j : Nat) (f : Env → M D) : Env → M D := fun ρ B => match ρ[j]? with
  | some (.own ds) => mb (f (ρ.set j (.d (.list ds))) B) fun d B1 => gd (noSub ds d) (some (d, B1))
  | _ => f ρ B
theorem de_lend {X : Cx} {e : Expr} (j : Nat) {f : Env → M D} (h : PE X e (tD X.K f)) : PE X e (tD X.K (fLend j f)) := ⟨fun pins s σ H Q I ⟨F0, H0, bx, ρ, F, B, d, B', e, k, q⟩ => by
  unfold fLend at e
  split at e
  · rename_i ds hd
    obtain ⟨d1, B1, e1, e2⟩ := mb_eq e
    obtain ⟨n, e3⟩ := gd_eq e2
    cases e3
    obtain ⟨l, vs, ⟨g1, g2, g3, g4⟩, sm, k'⟩ := k.frzX hd
    refine thn (h.run pins s σ H (fun v H' => ∃ F', Stp bx (upd F l (.lst vs)) H F' H' ∧ Same F' H' ∧ BoxOk bx H' B' ∧ Rp X.K F' v d) I ⟨F0, H0, bx, _, _, B, d, B', e1, k', fun v F' H' s1 sub1 b1 r1 => ⟨F', s1, sub1, b1, r1⟩⟩) fun u s1 ⟨x, H1, I1, r1, F', st, sub1, b1, rp⟩ => ?_
    have hl : F' l = some (.lst vs) := st.fex l _ upd_same
    have rz : RpA X.K F' vs ds := (g2.mono sm).mono st.fex
    refine ⟨x, H1, I1, r1, q x (off F' l) H1 ⟨fun a o z => ?_, st.hex, st.hin, fun a z w => ?_⟩ (fun a o z => sub1 a o (off_some z).2) b1 (Rp.off I1 sub1 hl rz d rp n)⟩
    · have c : a ≠ l := fun c => by subst c; rw [g3] at z; cases z
      rw [off_ne c]
      exact st.fex a o (sm a o z)
    · cases y : off F' l a with
      | none => exact absurd y z
      | some o =>
        obtain ⟨c, y'⟩ := off_some y
        exact st.new a (by rw [y']; exact fun e => nomatch e) (by rw [upd_ne c]; exact w)
  · exact h.run pins s σ H Q I ⟨F0, H0, bx, ρ, F, B, d, B', e, k, q⟩⟩
end DL

namespace DL
open PySem PySem.Spec L2
def enumD (ds : List D) : List D := ds.mapIdx fun i d => .tuple [.int (i : Int), d]
def fEnum (f : Env → M D) : Env → M (List D) := fun ρ B => mb (f ρ B) fun d B1 => ob (list? d) fun ds => some (enumD ds, B1)
theorem goes_enum {K : PySem.W.Frag} {a : Addr} {F1 : Hp} {vs : List V} {ds : List D} (h : F1 a = some (.lst vs)) (r : RpA K F1 vs ds) : Goes K (Ite K a) F1 (enumD ds) := fun i F2 H2 s sub => by
  have ha : H2 a = some (.lst vs) := sub _ _ (s _ _ h)
  refine ⟨fun d hd => ?_, fun hi => ⟨vs, .of ha, by rw [r.length]; simpa [enumD] using hi⟩⟩
  unfold enumD at hd
  rw [List.getElem?_mapIdx] at hd
  obtain ⟨d0, hd0, rfl⟩ := Option.map_eq_some_iff.mp hd
  obtain ⟨v, hv, rv⟩ := r.get hd0
  refine ⟨⟨vs, v, .of ha, hv⟩, fun x H3 y => ?_⟩
  obtain ⟨T, x', rfl, hT, rfl, y⟩ := y
  have e := y vs (.of ha)
  rw [hv] at e; cases e
  refine ⟨upd F2 T (.tup [.int (i : Nat), v]), .laid hT sub, same_laid sub, .tup (.of upd_same) (.cons (.int _) (.one ?_))⟩
  exact (rv.mono s).mono (Stp.laid (bx := Option.none) hT sub).fex
section
variable {X : Cx}
theorem di_enum {e : Expr} {f : Env → M D} {p pos tpos : Pos} {elts : List Expr} {kk : Nat} (hg : Gl X "enumerate") (hm : X.mg "enumerate" = none) (ha : PE X e (tD X.K f)) (hs : starEach [e] X.env = [(false, eval e X.env)] := by rfl) :
    PI X (.Tuple elts kk tpos) (.Call (.Name "enumerate" p) [e] [] pos) (tI X.K (fEnum f)) :=
  PI.wk (pi_enum hg hm (pa_cons ha pa_nil hs) hs) fun σ H R ⟨F0, H0, bx, ρ, F, B, ds, B', e, k, q⟩ => by
    obtain ⟨d, B1, e1, e2⟩ := mb_eq e
    obtain ⟨z, e3, e4⟩ := ob_eq e2
    cases e4
    refine ⟨F0, H0, bx, ρ, F, B, d, _, e1, k, fun v F1 H1 s1 sub1 b1 r1 => ?_⟩
    cases d <;> simp only [list?] at e3 <;> cases e3
    cases r1 with
    | lst h1 h2 => exact ⟨_, _, rfl, .of (sub1 _ _ h1), q _ F1 H1 s1 sub1 b1 (goes_enum h1 h2)⟩
end
def gMax3 : List D → Option D
  | [.int i, .int j, .int k] => some (.int (max (max i j) k))
  | _ => none
theorem RSA.three' {K : PySem.W.Frag} {bx : BxA} {F H : Hp} {vs : List V} {d e f : D} (h : RSA K bx F H vs [d, e, f]) : ∃ v w u, vs = [v, w, u] ∧ RS K bx F H v d ∧ RS K bx F H w e ∧ RS K bx F H u f := h.three
theorem max_if (i j : Int) : (if decide (i < j) = true then V.int j else V.int i) = V.int (max i j) := by
  by_cases c : i < j
  · rw [decide_eq_true c, if_pos rfl, Int.max_eq_right (by omega)]
  · rw [decide_eq_false c, if_neg Bool.false_ne_true, Int.max_eq_left (by omega)]
theorem cd_max3 {X : Cx} (hc : X.calm = true) : CalD X (.builtin "max") gMax3 := by
  intro pins s σ H xs us Q I r h
  obtain ⟨bx, F, ds, d, sub, rs, e, q⟩ := h
  refine call_max3Nu hc pins s σ H xs us Q I r ?_
  unfold gMax3 at e
  split at e
  · rename_i i j k
    cases e
    obtain ⟨v, w, u, rfl, rv, rw', ru⟩ := rs.three
    cases rv.int; cases rw'.int; cases ru.int
    refine ⟨_, _, _, _, rfl, ?_, q _ F H .refl sub (.int _)⟩
    show (nuMax2 (.int i) (.int j)).bind (fun m => nuMax2 m (.int k)) = _
    have two : ∀ a b : Int, nuMax2 (.int a) (.int b) = some (.int (max a b)) := fun a b => by
      show some (if decide (a < b) = true then V.int b else V.int a) = _
      rw [max_if]
    rw [two]
    exact two _ _
  · cases e
def key? : D → Option Key
  | .int i => some (.inl i)
  | .str s => some (.inr s)
  | _ => none
def valD (kvs : List (Key × D)) (k : Key) : Option D := (kvs.find? fun kv => decide (kv.1 = k)).map (·.2)
def putD (kvs : List (Key × D)) (k : Key) (v : D) : List (Key × D) :=
  if (kvs.any fun kv => decide (kv.1 = k)) = true then kvs.map (fun kv => if kv.1 = k then (kv.1, v) else kv) else kvs ++ [(k, v)]
theorem Rp.key {K : PySem.W.Frag} {F : Hp} {v : V} {d : D} {k : Key} (h : Rp K F v d) (e : key? d = some k) : v = kV k := by
  cases d <;> simp only [key?] at e <;> cases e <;> cases h <;> rfl
theorem RS.key {K : PySem.W.Frag} {bx : BxA} {F H : Hp} {v : V} {d : D} {k : Key} (h : RS K bx F H v d) (e : key? d = some k) : v = kV k := by
  rcases h with h | ⟨_, _, _, _, rfl, _⟩
  · exact h.key e
  · cases e
section
variable {K : PySem.W.Frag} {F : Hp}
theorem RpK.val : ∀ {vs : List (Key × V)} {ds : List (Key × D)} (k : Key), RpK K F vs ds → (valV vs k = none ∧ valD ds k = none) ∨ ∃ v d, valV vs k = some v ∧ valD ds k = some d ∧ Rp K F v d
  | [], [], _, _ => .inl ⟨rfl, rfl⟩
  | [], _ :: _, _, h => by cases h.ks
  | _ :: _, [], _, h => by cases h.ks
  | (a, v) :: vs, (b, d) :: ds, k, ⟨h1, h2⟩ => by
    have e : a = b := (List.cons.inj h1).1
    have t : vs.map (·.1) = ds.map (·.1) := (List.cons.inj h1).2
    subst e
    cases h2 with
    | cons r rs =>
      by_cases c : a = k
      · exact .inr ⟨v, d, valV_pos c, by unfold valD; rw [List.find?_cons, decide_eq_true c]; rfl, r⟩
      · rw [valV_neg c]
        have : valD ((a, d) :: ds) k = valD ds k := by unfold valD; rw [List.find?_cons, decide_eq_false c]
        rw [this]
        exact RpK.val k ⟨t, rs⟩
theorem any_ks {α β : Type} : ∀ {vs : List (Key × α)} {ds : List (Key × β)} (k : Key), vs.map (·.1) = ds.map (·.1) → (vs.any fun kv => decide (kv.1 = k)) = (ds.any fun kv => decide (kv.1 = k))
  | [], [], _, _ => rfl
  | [], _ :: _, _, h => by cases h
  | _ :: _, [], _, h => by cases h
  | (a, v) :: vs, (b, d) :: ds, k, h => by
    obtain ⟨e, t⟩ := List.cons.inj h
    simp only at e
    subst e
    rw [List.any_cons, List.any_cons, any_ks k t]
theorem put_repl {v : V} {d : D} (r : Rp K F v d) (k : Key) : ∀ {vs : List (Key × V)} {ds : List (Key × D)}, RpK K F vs ds → RpK K F (vs.map fun kv => if kv.1 = k then (kv.1, v) else kv) (ds.map fun kv => if kv.1 = k then (kv.1, d) else kv)
  | [], [], _ => ⟨rfl, .nil⟩
  | [], _ :: _, h => by cases h.ks
  | _ :: _, [], h => by cases h.ks
  | (a, u) :: vs, (b, e) :: ds, ⟨h1, h2⟩ => by
    obtain ⟨x, t⟩ := List.cons.inj h1
    simp only at x
    subst x
    cases h2 with
    | cons p ps =>
      obtain ⟨g1, g2⟩ := put_repl r k (vs := vs) (ds := ds) ⟨t, ps⟩
      rw [List.map_cons, List.map_cons]
      by_cases c : a = k
      · rw [if_pos c, if_pos c]
        exact ⟨by rw [List.map_cons, List.map_cons, g1], .cons r g2⟩
      · rw [if_neg c, if_neg c]
        exact ⟨by rw [List.map_cons, List.map_cons, g1], .cons p g2⟩
theorem RpK.put {vs : List (Key × V)} {ds : List (Key × D)} {v : V} {d : D} (h : RpK K F vs ds) (k : Key) (r : Rp K F v d) : RpK K F (putK vs k v) (putD ds k d) := by
  unfold putK putD
  rw [any_ks k h.ks]
  split
  · exact put_repl r k h
  · refine ⟨by rw [List.map_append, List.map_append, h.ks]; rfl, ?_⟩
    rw [List.map_append, List.map_append]
    exact h.vals.append (.one r)
theorem RpK.length {vs : List (Key × V)} {ds : List (Key × D)} (h : RpK K F vs ds) : vs.length = ds.length := by
  have := congrArg List.length h.ks
  simpa using this
end
def tDk (K : PySem.W.Frag) (f : Env → M (List (Key × D))) : TE := fun σ H Q => ∃ F0 H0 bx ρ F B ds B', f ρ B = some (ds, B') ∧ Ok K F0 H0 bx σ ρ F H B ∧ ∀ p vs F' H', Stp bx F H F' H' → Same F' H' → BoxOk bx H' B' → F' p = none → H p = none → ¬ InB bx p → H' p = some (.dK vs) → RpK K F' vs ds → Q (.ref p) H'
def dcL (g : D → Env → Option Env) (ft : Env → M Bool) (fk fe : Env → M D) (ρ : Env) : List D → List (Key × D) → M (List (Key × D))
  | [], acc => fun B => some (acc, B)
  | d :: ds, acc => fun B => ob (g d ρ) fun ρ1 => mb (ft ρ1 B) fun b B1 => bif b then mb (fk ρ1 B1) fun x B2 => ob (key? x) fun k => mb (fe ρ1 B2) fun y B3 => gd (decide (acc.length < sizeLine)) (dcL g ft fk fe ρ ds (putD acc k y) B3) else dcL g ft fk fe ρ ds acc B1
def fDc (fi : Env → M (List D)) (g : D → Env → Option Env) (ft : Env → M Bool) (fk fe : Env → M D) (vs : List Nat) : Env → M (List (Key × D)) := fun ρ B => mb (fi ρ B) fun ds B1 => dcL g ft fk fe (wipeE ρ vs) ds [] B1
def fSetDk (i : Nat) (f : Env → M (List (Key × D))) : Env → M Out := fun ρ B => mb (f ρ B) fun ds B1 => some (.nx (ρ.set i (.dk ds)), B1)
def dk? : Option Sl → Option (List (Key × D))
  | some (.dk x) => some x
  | _ => none
def fDGet (i : Nat) (fk : Env → M D) : Env → M D := fun ρ B => ob (dk? ρ[i]?) fun kvs => mb (fk ρ B) fun x B1 => ob (key? x) fun k => ob (valD kvs k) fun v => some (v, B1)
def fDIn (i : Nat) (fk : Env → M D) : Env → M D := fun ρ B => ob (dk? ρ[i]?) fun kvs => mb (fk ρ B) fun x B1 => ob (key? x) fun k => some (.bool (valD kvs k).isSome, B1)
section
variable {X : Cx} {pos : Pos}
theorem Ok.setDk {K : PySem.W.Frag} {F0 H0 F H : Hp} {bx : BxA} {σ : L2.St} {ρ : Env} {B : BS} {i : Nat} {p : Addr} {vs : List (Key × V)} {ds : List (Key × D)} (k : Ok K F0 H0 bx σ ρ F H B) (hp : H p = some (.dK vs)) (r : RpK K F vs ds) (hF : F p = none) (h0 : H0 p = none) (hB : ¬ InB bx p) : Ok K F0 H0 bx (σ.set i (some (.ref p))) (ρ.set i (.dk ds)) F H B where
  sub := k.sub
  bxF := k.bxF
  box := k.box
  stp := k.stp
  len := by simp [k.len]
  sl := fun j x e => by
    by_cases hj : j = i
    · subst hj
      have hlt : j < ρ.length := by
        have := (List.getElem?_eq_some_iff.mp e).1
        simpa using this
      rw [List.getElem?_set_self hlt] at e
      cases e
      exact ⟨p, vs, List.getElem?_set_self (by rw [k.len]; exact hlt), hp, r, hF, h0, hB⟩
    · rw [List.getElem?_set_ne (Ne.symm hj)] at e ⊢
      exact k.sl j x e
  dis := fun a b xs ys l hab e1 e2 e3 => by
    have ne : ∀ (a : Nat) (xs : List D), (ρ.set i (.dk ds))[a]? = some (.own xs) → a ≠ i := fun a xs e z => by
      subst z
      have hlt : a < ρ.length := by
        have := (List.getElem?_eq_some_iff.mp e).1
        simpa using this
      rw [List.getElem?_set_self hlt] at e; cases e
    have ha := ne a xs e1
    have hb := ne b ys e2
    rw [List.getElem?_set_ne (Ne.symm ha)] at e1 e3
    rw [List.getElem?_set_ne (Ne.symm hb)] at e2 ⊢
    exact k.dis a b xs ys l hab e1 e2 e3
theorem dc_go {K : PySem.W.Frag} {fi : Env → M (List D)} {g : D → Env → Option Env} {ft : Env → M Bool} {fk fe : Env → M D} {vs ix : List Nat} (hix : ∀ i ∈ ix, i ∈ vs) {σ : L2.St} {H : Hp} {Q : VK} (h : tDk K (fDc fi g ft fk fe vs) σ H Q) :
    tDc (tIo K fi) (tG K ix g) (tT K ft) (tD K fk) (tD K fe) vs σ H Q := by
  obtain ⟨F0, H0, bx, ρ, F, B, ds, B', e, k, q⟩ := h
  obtain ⟨items, B1, e1, e2⟩ := mb_eq e
  refine ⟨F0, H0, bx, ρ, F, B, items, B1, e1, k, fun J F1 H1 s1 sub1 b1 go D hD => ?_⟩
  have k1 := k.step s1 sub1 b1
  have f1 : F1 D = none := by
    cases z : F1 D with
    | none => rfl
    | some o => rw [sub1 D o z] at hD; cases hD
  have nD : ¬ InB bx D := fun i => b1.there i hD
  have hD0 : H D = none := by
    by_cases z : H D = none
    · exact z
    · exact absurd hD (s1.hin D z)
  have keepD : ∀ {Fa Ha Fb Hb : Hp}, Stp bx Fa Ha Fb Hb → Fa D = none → ∀ {o}, Ha D = some o → Fb D = none ∧ Hb D = some o := fun {Fa Ha Fb Hb} s z {o} w => by
    refine ⟨?_, s.hex D o w nD⟩
    by_cases c : Fb D = none
    · exact c
    · have := s.new D c z
      rw [w] at this; cases this
  refine ⟨fun i m H2 => m = items.length - i ∧ i ≤ items.length ∧ ∃ F2 Bc acc accV, Stp bx F1 H1 F2 H2 ∧ Same F2 H2 ∧ BoxOk bx H2 Bc ∧ F2 D = none ∧ H2 D = some (.dK accV) ∧ RpK K F2 accV acc ∧ dcL g ft fk fe (wipeE ρ vs) (items.drop i) acc Bc = some (ds, B'), ?_, ?_⟩
  · refine ⟨items.length, by simp, Nat.zero_le _, F1, B1, [], [], .own hD, fun c u z => ?_, b1.laid hD, f1, upd_same, ⟨rfl, .nil⟩, e2⟩
    rw [upd_ne (ne_of_none z f1)]; exact sub1 c u z
  rintro i m H2 ⟨rfl, hi, F2, Bc, acc, accV, s2, sub2, b2, fD, h2, racc, e3⟩
  by_cases hlt : i < items.length
  · refine .inr ?_
    have hd : items[i]? = some items[i] := List.getElem?_eq_getElem hlt
    obtain ⟨hg, hy⟩ := (go i F2 H2 s2 sub2).1 _ hd
    refine ⟨hg, fun H' => ∃ F2 Bc acc accV, Stp bx F1 H1 F2 H' ∧ Same F2 H' ∧ BoxOk bx H' Bc ∧ F2 D = none ∧ H' D = some (.dK accV) ∧ RpK K F2 accV acc ∧ dcL g ft fk fe (wipeE ρ vs) (items.drop (i + 1)) acc Bc = some (ds, B'), fun H' hw => ⟨items.length - (i + 1), by omega, rfl, by omega, hw⟩, fun x H3 y => ?_⟩
    obtain ⟨F3, s3, sub3, r3⟩ := hy x H3 y
    have k2 := (k1.step s2 sub2 b2).wipe vs
    have k3 := k2.step s3.of_none sub3 (b2.step s3.same)
    rw [List.drop_eq_getElem_cons hlt] at e3
    obtain ⟨ρ1, e4, e5⟩ := ob_eq e3
    obtain ⟨b, B3, e6, e7⟩ := mb_eq e5
    refine ⟨F0, H0, bx, wipeE ρ vs, F3, Bc, items[i], ρ1, k3, r3, e4, fun σ' k4 st => ⟨?_, ?_⟩⟩
    · rw [st vs hix]; exact wipe_wipe vs σ vs fun _ z => z
    refine ⟨F0, H0, bx, ρ1, F3, Bc, b, B3, e6, k4, fun F4 H4 s4 sub4 b4 => ?_⟩
    obtain ⟨d3, d3'⟩ := keepD (s3.of_none (bx := bx)) fD h2
    obtain ⟨d4, d4'⟩ := keepD s4 d3 d3'
    have s14 := s2.trans (s3.of_none.trans s4)
    cases b with
    | false =>
      refine iteF ?_
      exact ⟨F4, B3, acc, accV, s14, sub4, b4, d4, d4', racc.mono (s3.fex.trans s4.fex), e7⟩
    | true =>
      refine iteT ?_
      obtain ⟨xk, Bk, e8k, e9k⟩ := mb_eq e7
      obtain ⟨kk, e8q, e9q⟩ := ob_eq e9k
      obtain ⟨y, B5, e8, e9⟩ := mb_eq e9q
      obtain ⟨hs, e10⟩ := gd_eq e9
      have k5 := k4.step s4 sub4 b4
      refine ⟨F0, H0, bx, ρ1, F4, B3, xk, Bk, e8k, k5, fun vk Fk Hk sk subk bk rk => ?_⟩
      obtain ⟨dk, dk'⟩ := keepD sk d4 d4'
      refine ⟨F0, H0, bx, ρ1, Fk, Bk, y, B5, e8, k5.step sk subk bk, fun v F5 H5 s5 sub5 b5 r5 => ⟨accV, kk, rk.key e8q, (keepD s5 dk dk').2, ?_, ?_⟩⟩
      · rw [racc.length]; exact of_decide_eq_true hs
      · obtain ⟨d5, d5'⟩ := keepD s5 dk dk'
        have s15 := (s14.trans sk).trans s5
        refine ⟨F5, B5, putD acc kk y, putK accV kk v, ⟨s15.fex, fun a o z n => ?_, fun a z => ?_, s15.new⟩, fun a o z => ?_, fun b' c' z => ?_, d5, upd_same, ?_, e10⟩
        · rw [upd_ne (ne_of_none z hD)]; exact s15.hex a o z n
        · unfold upd
          split
          · intro w; cases w
          · exact s15.hin a z
        · rw [upd_ne (ne_of_none z d5)]; exact sub5 a o z
        · obtain ⟨n0, n1, n2⟩ := b5 b' c' z
          have m1 : b' ≠ D := fun w => nD ⟨b', c', z, .inl w.symm⟩
          have m2 : c' ≠ D := fun w => nD ⟨b', c', z, .inr w.symm⟩
          exact ⟨n0, by rw [upd_ne m1]; exact n1, by rw [upd_ne m2]; exact n2⟩
        · exact (racc.mono (s3.fex.trans (s4.fex.trans (sk.fex.trans s5.fex)))).put kk r5
  · have hie : i = items.length := by omega
    subst hie
    refine .inl ⟨(go _ F2 H2 s2 sub2).2 (Nat.le_refl _), ?_⟩
    rw [List.drop_length] at e3
    cases e3
    exact q D accV F2 H2 (s1.trans s2) sub2 b2 fD hD0 nD h2 racc
theorem ke_dc {kx vx tg iter : Expr} {ifs : List Expr} {scope : Scope} (own : List (Str × Nat)) {fi : Env → M (List D)} {g : D → Env → Option Env} {ix : List Nat} {ft : Env → M Bool} {fk fe : Env → M D} (hc : X.calm = true) (hN : X.N.Nodup) (hi : PI X tg iter (tIo X.K fi)) (ok : BlkOk X.N X.env.scope scope own)
    (hg : ∀ (s : Shared) (H : Hp) (C : Addr) (cl : List (Str × Addr)) (fp : List Addr), PG (X.blk s H scope (compEnvC scope cl C X.env) fp) tg (tG X.K ix g)) (hix : ∀ i ∈ ix, i ∈ own.map (·.2)) (ht : ∀ (s : Shared) (H : Hp) (C : Addr) (cl : List (Str × Addr)) (fp : List Addr), PTs (X.blk s H scope (compEnvC scope cl C X.env) fp) ifs (tT X.K ft))
    (hk : ∀ (s : Shared) (H : Hp) (C : Addr) (cl : List (Str × Addr)) (fp : List Addr), PE (X.blk s H scope (compEnvC scope cl C X.env) fp) kx (tD X.K fk))
    (he : ∀ (s : Shared) (H : Hp) (C : Addr) (cl : List (Str × Addr)) (fp : List Addr), PE (X.blk s H scope (compEnvC scope cl C X.env) fp) vx (tD X.K fe)) (hs : ∀ x, foldedSetIterable iter X.env x = pure x := by intro _; rfl) :
    PE X (.DictComp kx vx [⟨tg, iter, ifs, 0⟩] scope pos) (tDk X.K (fDc fi g ft fk fe (own.map (·.2)))) := PE.wk (pe_dc hc hN hi ok hg ht hk he hs) fun _ _ _ h => dc_go hix h
theorem setDk_go {K : PySem.W.Frag} {i : Nat} {fo : Env → M (List (Key × D))} {E : Ends} {σ : L2.St} {H : Hp} (h : tSt K (fSetDk i fo) E σ H) : tAsg (tDk K fo) (gName i) E σ H := by
  obtain ⟨F0, H0, bx, ρ, F, B, o, B', e, k, q⟩ := h
  obtain ⟨d, B1, e1, e2⟩ := mb_eq e
  cases e2
  refine ⟨F0, H0, bx, ρ, F, B, d, _, e1, k, fun p vs F1 H1 s1 sub1 b1 hF hH hB hp r => q _ F1 H1 s1.fex ((k.step s1 sub1 b1).setDk hp r hF ?_ hB)⟩
  by_cases z : H0 p = none
  · exact z
  · exact absurd hH (k.stp.hin p z)
theorem ds_setDk (i : Nat) {x : Str} {e : Expr} {pos' : Pos} {fo : Env → M (List (Key × D))} (hN : X.N.Nodup) (he : PE X e (tDk X.K fo)) (hi : X.N[i]? = some x := by rfl) (hx : Loc X.env.scope x := by first | exact Or.inl rfl | exact Or.inr rfl) (hs : swapsWith e (some (.Name x pos')) pos.line X.env = pure false := by rfl)
    (hf : X.fn x = true ∨ X.env.scope.names.lookup x = some .local := by first | exact .inl rfl | exact .inr rfl | assumption) : PS X (.Assign [.Name x pos'] e pos) (tSt X.K (fSetDk i fo)) :=
  PS.wk (ps_set hN hi hx he hs hf) fun _ _ _ h => setDk_go h
theorem dget_go {K : PySem.W.Frag} {i : Nat} {fk : Env → M D} {σ : L2.St} {H : Hp} {Q : VK} (h : tD K (fDGet i fk) σ H Q) : tDGet (tVar i) (tS K fk) σ H Q := by
  obtain ⟨F0, H0, bx, ρ, F, B, d, B', e, k, q⟩ := h
  obtain ⟨kvs, e1, e2⟩ := ob_eq e
  obtain ⟨x, B1, e3, e4⟩ := mb_eq e2
  obtain ⟨kk, e5, e6⟩ := ob_eq e4
  obtain ⟨v, e7, e8⟩ := ob_eq e6
  cases e8
  have hs : ρ[i]? = some (.dk kvs) := by
    unfold dk? at e1
    split at e1
    · rename_i z; cases e1; exact z
    · cases e1
  obtain ⟨l, vs, g1, g2, g3, g4, g5, g6⟩ := k.sl i _ hs
  refine ⟨.ref l, g1, F0, H0, bx, ρ, F, B, x, _, e3, k, fun y F1 H1 s1 sub1 b1 r1 => ?_⟩
  have hy := r1.key e5
  rcases (g3.mono s1.fex).val kk with ⟨_, z⟩ | ⟨v', d', z1, z2, z3⟩
  · rw [e7] at z; cases z
  · rw [e7] at z2; cases z2
    exact ⟨l, v', rfl, by rw [hy, ← z1]; exact .k (s1.hex l _ g2 g6), q _ F1 H1 s1 sub1 b1 z3⟩
theorem de_dget (hu : X.A.units + 200 < cLine) (i : Nat) {x : Str} {e : Expr} {p : Pos} {fk : Env → M D} (hx : PE X (.Name x p) (tVar i)) (he : PE X e (tS X.K fk)) (hs : NoSl e := by exact fun _ _ => rfl) : PE X (.Subscript (.Name x p) e pos) (tD X.K (fDGet i fk)) := PE.wk (pe_dget (by omega) hx he hs) fun _ _ _ h => dget_go h
theorem din_go {K : PySem.W.Frag} {i : Nat} {fk : Env → M D} {σ : L2.St} {H : Hp} {Q : VK} (h : tD K (fDIn i fk) σ H Q) : tDIn (tS K fk) (tVar i) σ H Q := by
  obtain ⟨F0, H0, bx, ρ, F, B, d, B', e, k, q⟩ := h
  obtain ⟨kvs, e1, e2⟩ := ob_eq e
  obtain ⟨x, B1, e3, e4⟩ := mb_eq e2
  obtain ⟨kk, e5, e6⟩ := ob_eq e4
  cases e6
  have hs : ρ[i]? = some (.dk kvs) := by
    unfold dk? at e1
    split at e1
    · rename_i z; cases e1; exact z
    · cases e1
  obtain ⟨l, vs, g1, g2, g3, g4, g5, g6⟩ := k.sl i _ hs
  refine ⟨F0, H0, bx, ρ, F, B, x, _, e3, k, fun y F1 H1 s1 sub1 b1 r1 => ⟨.ref l, g1, l, valV vs kk, rfl, by rw [r1.key e5]; exact .k (s1.hex l _ g2 g6), ?_⟩⟩
  rcases (g3.mono s1.fex).val kk with ⟨z1, z2⟩ | ⟨v', d', z1, z2, z3⟩
  · rw [z1]; rw [z2] at q; exact q _ F1 H1 s1 sub1 b1 (.bl _)
  · rw [z1]; rw [z2] at q; exact q _ F1 H1 s1 sub1 b1 (.bl _)
theorem de_din (hu : X.A.units + 200 < cLine) (i : Nat) {x : Str} {e : Expr} {p : Pos} {fk : Env → M D} (he : PE X e (tS X.K fk)) (hx : PE X (.Name x p) (tVar i)) (hm : behindInMarks .In (.Name x p) = false := by rfl) : PE X (.Compare e [.In] [.Name x p] pos) (tD X.K (fDIn i fk)) := PE.wk (pe_cmp (pc_din (by omega) he hx) hm) fun _ _ _ h => din_go h
theorem dt_din (hu : X.A.units + 200 < cLine) (i : Nat) {x : Str} {e : Expr} {p : Pos} {fk : Env → M D} (he : PE X e (tS X.K fk)) (hx : PE X (.Name x p) (tVar i)) (hm : behindInMarks .In (.Name x p) = false := by rfl) : PT X (.Compare e [.In] [.Name x p] pos) (tT X.K (fBl (fDIn i fk))) := PT.wk (pt_cmp (pc_din (by omega) he hx) hm) fun σ H Q ⟨F0, H0, bx, ρ, F, B, d, B', e, k, q⟩ => by
  obtain ⟨x, B1, e1, e2⟩ := mb_eq e
  obtain ⟨c, e3, e4⟩ := ob_eq e2
  cases e4
  refine din_go ⟨F0, H0, bx, ρ, F, B, x, _, e1, k, fun v F' H' s sub b r => ?_⟩
  cases x <;> simp only [bl?] at e3 <;> cases e3
  cases r
  exact ⟨_, rfl, q F' H' s sub b⟩
end
theorem ev_dc {fl : Env → M (List D)} {g : D → Env → Option Env} {ft : Env → M Bool} {fk fe : Env → M D} {vs : List Nat} {ρ : Env} {B B1 B2 : BS} {xs : List D} {ds : List (Key × D)} (h1 : fl ρ B = some (xs, B1)) (h2 : dcL g ft fk fe (wipeE ρ vs) xs [] B1 = some (ds, B2)) : fDc fl g ft fk fe vs ρ B = some (ds, B2) := by
  unfold fDc; rw [h1, mb_some, h2]
theorem ev_setDk {i : Nat} {f : Env → M (List (Key × D))} {ρ : Env} {B B1 : BS} {kv : List (Key × D)} (h : f ρ B = some (kv, B1)) : fSetDk i f ρ B = some (.nx (ρ.set i (.dk kv)), B1) := by
  unfold fSetDk; rw [h]; rfl
theorem ev_enum {f : Env → M D} {ρ : Env} {B B1 : BS} {ds : List D} (h : f ρ B = some (.list ds, B1)) : fEnum f ρ B = some (enumD ds, B1) := by
  unfold fEnum; rw [h]; rfl
theorem forL_step {g : D → Env → Option Env} {fb : Env → M Out} {d : D} {ds : List D} {ρ ρ1 ρ2 : Env} {B B2 : BS} (e1 : g d ρ = some ρ1) (e2 : fb ρ1 B = some (.nx ρ2, B2)) : forL g fb (d :: ds) ρ B = forL g fb ds ρ2 B2 := by
  show ob (g d ρ) _ = _
  rw [e1, ob_some, e2, mb_some]; rfl
theorem forL_ret {g : D → Env → Option Env} {fb : Env → M Out} {d v : D} {ds : List D} {ρ ρ1 : Env} {B B2 : BS} (e1 : g d ρ = some ρ1) (e2 : fb ρ1 B = some (.ret v, B2)) : forL g fb (d :: ds) ρ B = some (.ret v, B2) := by
  show ob (g d ρ) _ = _
  rw [e1, ob_some, e2, mb_some]; rfl
end DL

namespace DL
open PySem PySem.Spec L2 PyProof.Rows HT
section
variable {prog : Program} {w : World} {A : Around} {E : Value → Shared → Prop} {s : Shared}
theorem applied_rev {sl : Addr} {vs : Value} {n : Nat} {Q : Int × Int × Nat → Shared → Prop} (hs : s.heap.IsSliceOf sl .none .none vs) (ps : IsPart vs (some (-1)))
    (h : Q ((n : Int) - 1, -1, n) s) : wpAny (model prog w) A (Builtin.Slice.sliceApplied (.ref sl) (pure (n : Int))) Q E s := by
  obtain ⟨os, hos, hcs, hds⟩ := id hs
  unfold Builtin.Slice.sliceApplied Builtin.Slice.sliceFields
  refine wpAny_bind (wpAny_bind (wpAny_field hos hds (x := .none) rfl (wpAny_bind (wpAny_field hos hds (x := .none) rfl (wpAny_bind (wpAny_field hos hds (x := vs) rfl (wpAny_pure ?_)))))))
  refine wpAny_bind (HT.slicePart_ ps ?_)
  show wpAny _ _ (if ((-1 : Int) == 0) = true then _ else _) _ _ s
  rw [if_neg (by decide)]
  refine wpAny_bind (slicePart_none (wpAny_bind (slicePart_none (wpAny_bind (wpAny_pure ?_)))))
  show wpAny _ _ (pure ((n : Int) - 1, (-1 : Int), Builtin.Slice.slicePlaces ((n : Int) - 1) (-1) (-1))) _ _ s
  have e : Builtin.Slice.slicePlaces ((n : Int) - 1) (-1) (-1) = n := by
    unfold Builtin.Slice.slicePlaces
    rw [if_neg (by decide)]
    by_cases c : (n : Int) - 1 > -1
    · rw [if_pos c, show -(-1 : Int) = 1 by decide, Int.ediv_one]; omega
    · rw [if_neg c]; omega
  rw [e]
  exact wpAny_pure h
theorem fm_congr {α β : Type} {f g : α → Option β} : ∀ {l : List α}, (∀ x ∈ l, f x = g x) → l.filterMap f = l.filterMap g
  | [], _ => rfl
  | x :: l, h => by
    rw [List.filterMap_cons, List.filterMap_cons, h x List.mem_cons_self, fm_congr fun y hy => h y (List.mem_cons_of_mem _ hy)]
theorem pick_rev (xs : Array Value) : ((List.range xs.size).filterMap fun (m : Nat) => xs[((xs.size : Int) - 1 + (m : Int) * -1).toNat]?).toArray = xs.toList.reverse.toArray := by
  have e : ((List.range xs.size).filterMap fun (m : Nat) => xs[((xs.size : Int) - 1 + (m : Int) * -1).toNat]?) = (((List.range xs.size).map fun k => xs.size - 1 - k).filterMap (xs[·]?)) := by
    rw [List.filterMap_map]
    refine fm_congr fun m hm => ?_
    have := List.mem_range.mp hm
    show xs[((xs.size : Int) - 1 + (m : Int) * -1).toNat]? = xs[xs.size - 1 - m]?
    rw [show ((xs.size : Int) - 1 + (m : Int) * -1).toNat = xs.size - 1 - m by omega]
  rw [e, PySem.W.krv_range, List.filterMap_reverse, PySem.W.krv_all]
theorem getItem_tuple_rev {t sl : Addr} {items : Array Value} {vs : Value} {Q : Value → Shared → Prop} (ht : IsTup s.heap t items) (hs : s.heap.IsSliceOf sl .none .none vs) (ps : IsPart vs (some (-1)))
    (h : Q (.ref s.heap.objs.size) { s with heap := s.heap.push { cls := .type "tuple", data := .seq items.toList.reverse.toArray } })
    (hsz : items.size ≤ sizeLine) : wpAny (model prog w) A (getItem (.ref t) (.ref sl)) Q E s := by
  have htake : sizeOk (.seq items.toList.reverse.toArray) := by
    show items.toList.reverse.toArray.size ≤ sizeLine
    rw [List.size_toArray, List.length_reverse, Array.length_toList]
    exact hsz
  obtain ⟨os, hos, hcs, hds⟩ := id hs
  have hTs : s.TypeIs (.ref sl) "slice" := ⟨os, hos, hcs⟩
  unfold getItem
  try with_reducible refine wpAny_holding ?_
  first | refine wpAny_bind (wpAny_pure ?_) | skip
  refine wpAny_bind (wpAny_sequenceKey ht.typeIs (by decide) ?_)
  refine wpAny_bind (wpAny_callSpecial?_slot (name := Str.ofString "__getitem__") ht.typeIs PyProof.Rows.slot_tuple_getitem
    (wpAny_call_entry PyProof.Rows.slot_tuple_getitem ht.typeIs entry_tuple_getitem ?_ (args_tuple_getitem _ _)))
  show wpAny _ _ (Builtin.Tuple.tupleItemsOf (.ref t) >>= _) _ _ s
  refine wpAny_bind (tupleItemsOf_ ht ?_)
  refine wpAny_bind (wpAny_typeOf hTs ?_)
  rw [if_pos (by decide)]
  refine wpAny_bind (applied_rev (n := items.size) hs ps ?_)
  have hno : ¬ ((((items.size : Int) - 1) == 0 && (-1 : Int) == 1 && items.size == items.size) = true) := by
    rw [show ((-1 : Int) == 1) = false by decide, Bool.and_false, Bool.false_and]
    exact Bool.false_ne_true
  show wpAny _ _ (if (((items.size : Int) - 1) == 0 && (-1 : Int) == 1 && items.size == items.size) = true then _ else _) _ _ s
  rw [if_neg hno, pick_rev]
  first
    | exact wpAny_bind (m := Builtin.Tuple.tupleExact _) (wpAny_newObj_type (wpAny_pure ⟨_, rfl, wpAny_pure h⟩) htake)
    | exact wpAny_bind (m := Builtin.Tuple.tupleExact _) (wpAny_newObj_type (wpAny_bind (wpAny_pure (wpAny_pure ⟨_, rfl, wpAny_pure h⟩))) htake)
    | exact wpAny_bind (wpAny_bind (m := Builtin.Tuple.tupleExact _) (wpAny_newObj_type (wpAny_pure (wpAny_pure ⟨_, rfl, wpAny_pure h⟩)) htake))
    | exact wpAny_bind (wpAny_bind (m := Builtin.Tuple.tupleExact _) (wpAny_newObj_type (wpAny_pure ⟨_, rfl, wpAny_pure h⟩) htake))
end
section
variable {X : Cx}
def gRevTup : D → Option D
  | .tuple xs => some (.tuple xs.reverse)
  | _ => none
def tRevB (K : PySem.W.Frag) (te : TE) : TE := fun σ H Q => te σ H fun x H1 => (∃ a xs, x = .ref a ∧ SqT K H1 a xs ∧ ∀ p, H1 p = none → Q (.ref p) (upd H1 p (.tup xs.reverse)))
theorem pe_revB {e : Expr} {te : TE} {k : Nat} {p1 p2 p3 pos : Pos} (he : PE X e te) : PE X (.Subscript e (.Slice none none (some (.UnaryOp .USub (.Constant (.int 1) k p1) p2)) p3) pos) (tRevB X.K te) := by
  refine ⟨fun pins s σ H Q I h => ?_⟩
  refine Subscript_ (thn (he.run pins s σ H _ I h) fun v s1 ⟨x, H1, I1, r1, q1⟩ => ?_)
  obtain ⟨a, xs, ex, hx, q⟩ := q1
  subst ex
  cases r1
  have hst : PO X (some (.UnaryOp .USub (.Constant (.int 1) k p1) p2)) (tPart (tUn (rU fun i => .int (-i)) (tC (.int 1)))) := po_some (pe_un un_neg pe_int)
  refine wpAny_Slice (thn (po_none.run pins s1 σ H1 (fun o H2 => o = none ∧ H2 = H1) I1 ⟨rfl, rfl⟩) fun vl s2 ⟨l, H2, I2, pl, el, e2⟩ => ?_)
  subst el e2
  refine thn (po_none.run pins s2 σ H2 (fun o H3 => o = none ∧ H3 = H2) I2 ⟨rfl, rfl⟩) fun vu s3 ⟨u, H3, I3, pu, eu, e3⟩ => ?_
  subst eu e3
  refine thn (hst.run pins s3 σ H3 (fun o H4 => o = some (-1) ∧ H4 = H3) I3 ⟨1, rfl, -1, rfl, rfl, rfl⟩) fun vs s4 ⟨o, H4, I4, ps, eo, e4⟩ => ?_
  subst eo e4
  cases pl
  cases pu
  have I5 : Inv X pins σ H4 { s4 with heap := s4.heap.push { cls := .type "slice", data := .fields #[.none, .none, vs] } } := I4.kept (t' := s4.toks) fun b ob q => Heap.get?_push_of_some _ q
  obtain ⟨its, r, ht, hz⟩ := I5.tuple hx
  have hlen := r.length
  show wpAny (model X.prog X.w) X.A (subscriptTail e (.Slice none none (some (.UnaryOp .USub (.Constant (.int 1) k p1) p2)) p3) (.ref a) (.ref s4.heap.objs.size)) (EP X pins σ Q) X.xe { s4 with heap := s4.heap.push { cls := .type "slice", data := .fields #[.none, .none, vs] } }
  refine tail_any (ops := [.ref a, .ref s4.heap.objs.size]) ht.typeIs PyProof.Rows.slot_tuple_getitem.lookup ?_ (by with_unfolding_all rfl)
  refine getItem_tuple_rev ht (Heap.IsSliceOf.new _ .none .none vs) ps ?_ (by rw [List.size_toArray]; omega)
  refine ⟨.ref _, _, I5.laid (t' := s4.toks) (o := .tup xs.reverse) (fun b ob q => Heap.get?_push_of_some _ q) (Nat.le_refl _) ?_, rfl, q _ (I5.hok.fresh (Nat.le_refl _))⟩
  exact ⟨by rw [List.length_reverse]; exact hz, _, r.reverse, IsTup.new _ _⟩
theorem de_revT {e : Expr} {f : Env → M D} {k : Nat} {p1 p2 p3 pos : Pos} (he : PE X e (tS X.K f)) : PE X (.Subscript e (.Slice none none (some (.UnaryOp .USub (.Constant (.int 1) k p1) p2)) p3) pos) (tD X.K (fUn gRevTup f)) := PE.wk (pe_revB he) fun σ H Q ⟨F0, H0, bx, ρ, F, B, d, B', e, k, q⟩ => by
  obtain ⟨x, B1, e1, e2⟩ := mb_eq e
  obtain ⟨y, e3, e4⟩ := ob_eq e2
  cases e4
  refine ⟨F0, H0, bx, ρ, F, B, x, _, e1, k, fun v F1 H1 s1 sub1 b1 r1 => ?_⟩
  unfold gRevTup at e3
  split at e3
  · cases e3
    obtain ⟨l, vs, rfl, g1, g2⟩ := r1.tup
    refine ⟨l, vs, rfl, sqt_mono sub1 g1, fun p hp => ?_⟩
    exact Rp.of_tup_new hp sub1 g2.reverse fun w F' H' st sub' rw => q w F' H' (s1.trans st.of_none) sub' (b1.step st.same) rw
  · cases e3
end
end DL
namespace DL
open PySem PySem.Spec L2 PyProof.Rows HT
theorem tuple_mul1 (l : Addr) (items : Array Value) (n : Nat) (dd : Option Addr) (sl : Array (Option Value)) (x : Int) (u : Tok) (c0 : (decide (x < -(2 ^ 63)) || decide (x ≥ 2 ^ 63)) = false) (c1 : (items.isEmpty || x == 1) = true) :
    Meets (Builtin.«tuple.__mul__» ⟨[.ref l, .int x u], []⟩) (fun _ R s => s.heap.get? l = some { cls := .type "tuple", dict := dd, data := .seq items n, slots := sl } ∧
      R (.ok (.ret (Value.ref l))) { s with heap := s.heap, toks := s.toks }) :=
  .of_wp fun prog w A R s h => by
    obtain ⟨hp, g, d, tk, os⟩ := s
    obtain ⟨hl, h⟩ := h
    have f1 := AutoSeq1.idx_int
    have f2 := AutoSeq1.sub_tuple_tuple
    wp_walk using wpAny_loadPart' hl
    repeat (first
      | (refine wpAny_ite_false (decide_eq_false (by rw [c0]; exact Bool.false_ne_true)) ?_; wp_walk using wpAny_loadPart' hl)
      | (refine wpAny_ite_true (decide_eq_true (by rw [c1])) ?_; wp_walk using wpAny_loadPart' hl))
    exact ⟨_, rfl, h⟩
end DL
namespace DL
open PySem PySem.Spec L2 PyProof.Rows HT
section
variable {X : Cx}
theorem op_repT1 : OpR X (binaryOp .Mult) (fun x y H Q => ∃ l xs, x = .ref l ∧ y = .int 1 ∧ SqT X.K H l xs ∧ Q (.ref l) H) := by
  intro pins s σ H x y v u Q I rx ry h
  obtain ⟨l, xs, rfl, rfl, hT, q⟩ := h
  cases rx
  obtain ⟨t, rfl⟩ := ry
  obtain ⟨its, r, ⟨⟨cls, dd, data, sl⟩, ho, hc, n, hd⟩, hs⟩ := I.tuple hT
  simp only at hc hd
  subst hc hd
  have c0 : (decide ((1 : Int) < -(2 ^ 63)) || decide ((1 : Int) ≥ 2 ^ 63)) = false := by decide
  have c1 : (its.toArray.isEmpty || (1 : Int) == 1) = true := by rw [show ((1 : Int) == 1) = true by decide, Bool.or_true]
  refine wpAny_binaryOp_repeat_ref (T := "tuple") (U := "int") (by decide) ⟨_, ho, rfl⟩ (fun s' => typeIs_int s' 1 t) noFill_tuple_mul F.fills_int_mul F.slot_int_rmul repeat_tuple F.slot_int_index.lookup
    (call_meets F.slot_int_rmul (typeIs_int s 1 t) F.entry_int_rmul (F.args_int_rmul_2 _ _) (int_rmul_tuple 1 t l its.toArray n dd sl)
      ⟨ho, rfl, ⟨_, ho, rfl⟩, call_meets F.slot_tuple_mul ⟨_, ho, rfl⟩ F.entry_tuple_mul (F.args_tuple_mul_2 _ _) (tuple_mul1 l its.toArray n dd sl 1 t c0 c1) ⟨ho, ?_⟩⟩)
  exact ⟨.ref l, H, I, rfl, q⟩
def gMulT : D → D → Option D
  | .tuple xs, .int k => gd (decide (1 ≤ k ∧ k ≤ 1000 ∧ 1 ≤ xs.length ∧ xs.length ≤ 1000)) (some (.tuple (List.replicate k.toNat xs).flatten))
  | _, _ => none
theorem od_mulT : OpD X (binaryOp .Mult) gMulT := by
  intro pins s σ H x y v u Q I rx ry h
  obtain ⟨bx, F, a, b, d, sub, ra, rb, e, q⟩ := h
  unfold gMulT at e
  split at e
  · rename_i xs k
    obtain ⟨h1, h2⟩ := gd_eq e
    cases h2; cases rb.int
    obtain ⟨l, vs, rfl, g1, g2⟩ := ra.tup
    obtain ⟨z1, z2, z3, z4⟩ := of_decide_eq_true h1
    have hl := g2.length
    by_cases hk : k = 1
    · subst hk
      refine op_repT1 pins s σ H _ _ v u Q I rx ry ⟨l, vs, rfl, rfl, sqt_mono sub g1, q _ F H .refl sub ?_⟩
      have : (List.replicate (1 : Int).toNat xs).flatten = xs := by simp
      rw [this]
      exact .tup g1 g2
    · refine op_repT pins s σ H _ _ v u Q I rx ry ⟨l, k, vs, rfl, rfl, sqt_mono sub g1, ?_, by omega, z2, by omega, fun p hp => Rp.of_tup_new hp sub (g2.rep _) q⟩
      intro z
      rw [z] at hl
      simp at hl
      omega
  · cases e
end
end DL
namespace DL
open PySem PySem.Spec L2 PyProof.Rows HT
section
variable {prog : Program} {w : World} {A : Around} {E : Value → Shared → Prop} {s : Shared}
theorem sorted_tup0 {t : Addr} {vs : List Value} {Q : Value → Shared → Prop} (ht : IsTup s.heap t vs.toArray) (hL : vs.length ≤ sizeLine)
    (h : ∀ h' : Heap, (∀ b o, s.heap.get? b = some o → h'.get? b = some o) →
      wpAny (model prog w) A.in1 (call (.builtin "list.sort") [.ref h'.objs.size]) (fun _ s' => Q (.ref h'.objs.size) s') E { s with heap := h'.push { cls := .type "list", data := .seq vs.toArray } }) :
    wpAny (model prog w) A (call (.builtin "sorted") [.ref t]) Q E s := by
  obtain ⟨o, ho, hc, n, hd⟩ := id ht
  refine Calls.call_function_entry kind_sorted plain_sorted entry_sorted (args_sorted1 _) ?_
  unfold Builtin.«sorted»
  refine wpAny_bind (m := checkCount "sorted" 1 1 _) (wpAny_pure ?_)
  refine wpAny_bind (wpAny_collect_seq t (T := "tuple") (.inr rfl) ho hc hd (fun h' hk => ?_) (by rw [List.size_toArray]; exact hL))
  refine wpAny_bind (wpAny_newList ?_ (by simpa using hL))
  have hg := h h' hk
  refine wpAny_bind (wpAny_holding (wpAny_mono hg (fun _ s' x => ?_) fun _ _ e => e))
  exact wpAny_pure ⟨_, rfl, x⟩
theorem sorted_tup {t : Addr} {vs : List Value} {β : Type} {R : Value → β → Prop} {bs : List β} {enc : β → PyData} {Q : Value → Shared → Prop} (ht : IsTup s.heap t vs.toArray) (e : PySem.W.EachIs R vs bs) (er : PySem.W.EachIs (fun v b => ∃ as, Reads s.heap v (enc b) as) vs bs) (hal : PySem.W.AllAlike (bs.map enc)) (hk : PySem.W.Sortable (bs.map enc)) (hL : bs.length ≤ sizeLine)
    (hu : ∀ b, b ∈ bs → A.units + 2 + (enc b).depth < cLine)
    (h : ∀ (h0 h' : Heap) (D : Addr) (out : List Value), (∀ b o, s.heap.get? b = some o → h0.get? b = some o) → h0.objs.size ≤ D → (∀ b o, s.heap.get? b = some o → h'.get? b = some o) → (∃ n, h'.get? D = some (seqObj "list" out.toArray n)) → out.length = bs.length → PySem.W.EachIs R out (bs.mergeSort (PySem.W.dataLe false enc)) → Q (.ref D) { s with heap := h' }) :
    wpAny (model prog w) A (call (.builtin "sorted") [.ref t]) Q E s := by
  refine sorted_tup0 ht (by rw [e.length]; exact hL) fun h' keep => ?_
  have ho : (h'.push { cls := .type "list", data := .seq vs.toArray }).get? h'.objs.size = some (seqObj "list" vs.toArray 0) := Heap.get?_push_size _ rfl
  have keep2 : ∀ b o, s.heap.get? b = some o → b ≠ h'.objs.size ∧ (h'.push { cls := .type "list", data := .seq vs.toArray }).get? b = some o := fun b o hb => ⟨Nat.ne_of_lt (Heap.lt_size (keep b o hb)), Heap.get?_push_of_some _ (keep b o hb)⟩
  have er' : PySem.W.EachIs (fun v b => ∃ as, Reads (PySem.W.sortingHeap (h'.push { cls := .type "list", data := .seq vs.toArray }) h'.objs.size vs) v (enc b) as) vs bs := er.mono fun _ _ ⟨as, r⟩ => ⟨as, PyProof.Rows.Reads.keeps (fun b o hb => PySem.W.sortingHeap_old (keep2 b o hb).1 (keep2 b o hb).2) r⟩
  refine wpAny_call_entry slot_list_sort ⟨_, ho, rfl⟩ entry_list_sort (PySem.W.list_sort_vals (s := { s with heap := h'.push { cls := .type "list", data := .seq vs.toArray } }) (κ := PySem.W.dataKind (PySem.W.sortingHeap (h'.push { cls := .type "list", data := .seq vs.toArray }) h'.objs.size vs) (bs.map enc)) ho (PySem.W.SortsAt.data (s := { s with heap := PySem.W.sortingHeap (h'.push { cls := .type "list", data := .seq vs.toArray }) h'.objs.size vs }) (PySem.W.each_map (R := fun v d => ∃ as, Reads (PySem.W.sortingHeap (h'.push { cls := .type "list", data := .seq vs.toArray }) h'.objs.size vs) v d as) enc er') hal hk (PySem.W.bound_map hu)) (by rw [e.length]; exact hL) ⟨.none, rfl, ?_⟩) (args_list_sort _)
  have eo := PySem.W.sortVals_data false e er' hal
  refine h h' _ h'.objs.size _ keep (Nat.le_refl _) (fun b o hb => ?_) (sortedHeap_at ho) (by rw [PySem.W.sortVals_length false rfl]; exact e.length) eo
  rw [sortedHeap_old (keep2 b o hb).1 (Heap.lt_size (keep2 b o hb).2)]
  exact (keep2 b o hb).2
end
section
variable {X : Cx}
def gSortedT : List D → Option (List D)
  | [.list xs] => gd (alikeL xs && sortable xs && decide (PyData.depthAll xs ≤ 150 ∧ xs.length ≤ sizeLine)) (some (sortD xs))
  | [.tuple xs] => gd (alikeL xs && sortable xs && decide (PyData.depthAll xs ≤ 150 ∧ xs.length ≤ sizeLine)) (some (sortD xs))
  | _ => none
theorem co_sortedT (hu : X.A.units + 200 < cLine) : CalO X (.builtin "sorted") gSortedT := by
  intro pins s σ H xs us Q I r h
  obtain ⟨bx, F, ds, d, sub, rs, e, q⟩ := h
  unfold gSortedT at e
  split at e
  · exact co_sorted hu pins s σ H xs us Q I r ⟨bx, F, _, d, sub, rs, e, q⟩
  · rename_i xs'
    obtain ⟨h1, h2⟩ := gd_eq e
    cases h2
    simp only [Bool.and_eq_true, decide_eq_true_eq] at h1
    obtain ⟨⟨h3, h4⟩, h5, h6⟩ := h1
    obtain ⟨v, rfl, rv⟩ := rs.one
    obtain ⟨l, vs, rfl, g1, g2⟩ := rv.tup
    obtain ⟨u, rfl, ru⟩ := one_val r
    cases ru
    obtain ⟨its, rvs, hp, _⟩ := I.tuple (sqt_mono sub g1)
    have hz : (vs.zip xs').map (·.2) = xs' := zip_snd g2.length
    have hlen : (vs.zip xs').length = xs'.length := by rw [List.length_zip, g2.length]; omega
    refine sorted_tup (R := fun (u : Value) (p : V × D) => RelV p.1 u ∧ Rp X.K F p.1 p.2) (bs := vs.zip xs') (enc := fun p => p.2) hp (pairs_each g2 rvs) ?_ ?_ ?_ (by rw [hlen]; exact h6) (fun p hp' => ?_) fun h0 h' p0 out k0 hD k1 hnew ho eo => ?_
    · exact (pairs_each g2 rvs).mono fun u p ⟨z1, z2⟩ => Dp.reads I p.2 p.1 u (z2.mono sub).dp z1
    · show PySem.W.AllAlike ((vs.zip xs').map (·.2))
      rw [hz]
      intro a ha b hb
      exact List.all_eq_true.mp (List.all_eq_true.mp h3 a ha) b hb
    · show PySem.W.Sortable ((vs.zip xs').map (·.2))
      rw [hz]
      exact sortable_ok h4
    · have hm : p.2 ∈ xs' := by
        rw [← hz]
        exact List.mem_map.mpr ⟨p, hp', rfl⟩
      have := depth_le_all hm
      omega
    · obtain ⟨o1, o2⟩ := each_pairs eo
      have es := sort_pairs (vs.zip xs')
      rw [hz] at es
      rw [es] at o2
      have hn : H p0 = none := (I.hok.kept k0).fresh hD
      have hg : s.heap.get? p0 = none := by
        cases z : s.heap.get? p0 with
        | none => rfl
        | some o => exact absurd (Nat.lt_of_lt_of_le (Heap.lt_size (k0 _ _ z)) hD) (Nat.lt_irrefl _)
      obtain ⟨n, hn2⟩ := hnew
      refine ⟨.ref p0, upd H p0 (.lst (((vs.zip xs').mergeSort (PySem.W.dataLe false fun p : V × D => p.2)).map (·.1))), I.laidN (t' := s.toks) k1 hg hn ?_, rfl, lay_n sub o2 q _ hn⟩
      refine ⟨?_, out, n, o1, hn2⟩
      rw [List.length_map, List.length_mergeSort, hlen]; exact h6
  · cases e
end
end DL
namespace DL
open PySem PySem.Spec L2 PyProof.Rows HT
section
variable {X : Cx} {pos : Pos}
def gLtD : D → D → Option D := fun a b => gd (PySem.W.alike a b && !isNone a && decide (min a.depth b.depth ≤ 150)) (some (.bool (PySem.W.dataLt a b)))
theorem od_ltD (hu : X.A.units + 200 < cLine) : OpD X (compareOp .Lt) gLtD := by
  intro pins s σ H x y v u Q I rx ry h
  obtain ⟨bx, F, a, b, d, sub, ra, rb, e, q⟩ := h
  obtain ⟨h1, h2⟩ := gd_eq e
  cases h2
  simp only [Bool.and_eq_true, decide_eq_true_eq] at h1
  obtain ⟨⟨h3, h4⟩, h5⟩ := h1
  obtain ⟨as, r1⟩ := Dp.reads I a x v (ra.dp sub) rx
  obtain ⟨bs, r2⟩ := Dp.reads I b y u (rb.dp sub) ry
  exact PySem.W.lt_data r1 r2 h3 (fun z => by rw [z] at h4; exact absurd h4 (by decide)) (by omega) ⟨.bl _, H, I, rfl, q _ F H .refl sub (.bl _)⟩
def gIndex : D → D → Option D
  | .list ds, d => gd (SeqAt.shaped (.list ds) && SeqAt.shaped d) (ob (ds.findIdx? fun z => PyData.eqv z d) fun j => some (.int (j : Int)))
  | _, _ => none
def fIndex (f fx : Env → M D) : Env → M D := fBin gIndex f fx
theorem index_go {K : PySem.W.Frag} {f fx : Env → M D} {σ : L2.St} {H : Hp} {Q : VK} (h : tD K (fIndex f fx) σ H Q) : tBM K "list" (rIndexD K) (tD K f) (tCons (tS K fx) tNil) σ H Q := by
  obtain ⟨F0, H0, bx, ρ, F, B, d, B', e, k, q⟩ := h
  obtain ⟨x, B1, e1, e2⟩ := mb_eq e
  obtain ⟨y, B2, e3, e4⟩ := mb_eq e2
  obtain ⟨z, e5, e6⟩ := ob_eq e4
  cases e6
  unfold gIndex at e5
  split at e5
  · rename_i ds
    obtain ⟨h1, h2⟩ := gd_eq e5
    obtain ⟨j, h3, h4⟩ := ob_eq h2
    cases h4
    obtain ⟨s1, s2⟩ := Bool.and_eq_true_iff.mp h1
    refine ⟨F0, H0, bx, ρ, F, B, _, B1, e1, k, fun v F1 H1 st1 sub1 b1 r1 => ?_⟩
    cases r1 with
    | lst g1 g2 =>
      rename_i a vs
      have k1 := k.step st1 sub1 b1
      refine ⟨.inl ⟨rfl, vs, .of (sub1 _ _ g1)⟩, F0, H0, bx, ρ, F1, B1, y, _, e3, k1, fun u F2 H2 st2 sub2 b2 r2 => ?_⟩
      obtain ⟨hj, hp, hno⟩ := List.findIdx?_eq_some_iff_getElem.mp h3
      refine ⟨a, u, y, ds, j, ds[j], rfl, rfl, (((Rp.lst g1 g2).mono st2.fex).mono sub2).dp, r2.dp sub2, s1, s2, List.getElem?_eq_getElem hj, hp, fun m z' hm hz => ?_, q _ F2 H2 (st1.trans st2) sub2 b2 (.int _)⟩
      obtain ⟨hml, hz⟩ := List.getElem?_eq_some_iff.mp hz
      have := hno m hm
      rw [hz] at this
      exact Bool.eq_false_iff.mpr this
  · cases e5
theorem de_index {o x : Expr} {f fx : Env → M D} {apos cpos : Pos} (hu : X.A.units + 200 < cLine) (ho : PE X (.Call (.Attribute o "index" apos) [x] [] cpos) (tBM X.K "list" (rIndexD X.K) (tD X.K f) (tCons (tS X.K fx) tNil))) : PE X (.Call (.Attribute o "index" apos) [x] [] cpos) (tD X.K (fIndex f fx)) := PE.wk ho fun _ _ _ h => index_go h
end
theorem hu65 {A : Around} (h : A.units + 200 < cLine) : A.units + 65 < cLine := by omega
end DL

namespace K72
open PySem PySem.Spec L2 DL
def topS (i : Nat) : Stmt := PySem.Challenge.pw_oncefolded_k72_samples_and_greedy_ones.main.body.getD i (.Pass ⟨0, 0, 0, 0⟩)
structure Bn (mg : Str → Option Value) : Prop where
  all : mg "all" = none
  any : mg "any" = none
  bool : mg "bool" = none
  int : mg "int" = none
  isinstance : mg "isinstance" = none
  len : mg "len" = none
  list : mg "list" = none
  max : mg "max" = none
  min : mg "min" = none
  range : mg "range" = none
  sorted : mg "sorted" = none
  str : mg "str" = none
  tuple : mg "tuple" = none

abbrev st_Lbox : Stmt := topS 14
abbrev N_Lbox : List Str := ["script"]
theorem sc_Lbox : FnScope N_Lbox ["script"] (defScope st_Lbox) := ⟨rfl, rfl, rfl, by decide +kernel, rfl, by decide +kernel, by decide +kernel⟩
abbrev st_Lload : Stmt := topS 15
abbrev N_Lload : List Str := ["box", "cells", "cell", "size", "first", "second"]
theorem sc_Lload : FnScope N_Lload ["box"] (defScope st_Lload) := ⟨rfl, rfl, rfl, by decide +kernel, rfl, by decide +kernel, by decide +kernel⟩
abbrev st_Ldraw : Stmt := topS 16
abbrev N_Ldraw : List Str := ["box", "many", "digit"]
theorem sc_Ldraw : FnScope N_Ldraw ["box", "many"] (defScope st_Ldraw) := ⟨rfl, rfl, rfl, by decide +kernel, rfl, by decide +kernel, by decide +kernel⟩
abbrev st_Lsame : Stmt := topS 13
abbrev N_Lsame : List Str := ["a", "b", "k"]
theorem sc_Lsame : FnScope N_Lsame ["a", "b"] (defScope st_Lsame) := ⟨rfl, rfl, rfl, by decide +kernel, rfl, by decide +kernel, by decide +kernel⟩
def e1_Lsame (Gs : List D → Option D) : DL.Env → M D :=
  (fCall 2 Gs (fCons (fBin gIx (fAny 0) (fAny 2)) (fCons (fBin gIx (fAny 1) (fAny 2)) fNil)))
def s_Lsame (Gs : List D → Option D) : DL.Env → M Out :=
  (fSeq (fIf (fOrT (fAndT (fTru (fIsi "tuple" (fAny 0))) (fTru (fIsi "tuple" (fAny 1)))) (fAndT (fTru (fIsi "list" (fAny 0))) (fTru (fIsi "list" (fAny 1))))) (fRet (fAndV (fBin gEq (fCB gLen (fCons (fAny 0) fNil)) (fCB gLen (fCons (fAny 1) fNil))) (fCB gAll (fCons (fFr (fLc (fCO rng1 (fCons (fCB gLen (fCons (fAny 0) fNil)) fNil)) (gSet 2) fYes (e1_Lsame Gs) [2])) fNil)))) fNext)
    (fSeq (fIf (fOrT (fTru (fIsi "bool" (fAny 0))) (fTru (fIsi "bool" (fAny 1)))) (fRet (fAndV (fIsi "bool" (fAny 0)) (fAndV (fIsi "bool" (fAny 1)) (fBin gEq (fAny 0) (fAny 1))))) fNext)
    (fSeq (fIf (fOrT (fAndT (fTru (fIsi "int" (fAny 0))) (fTru (fIsi "int" (fAny 1)))) (fAndT (fTru (fIsi "str" (fAny 0))) (fTru (fIsi "str" (fAny 1))))) (fRet (fBin gEq (fAny 0) (fAny 1))) fNext)
    (fRet (fAndV (fBin gIs (fAny 0) (fC .none)) (fBin gIs (fAny 1) (fC .none)))))))
def G_Lsame : Nat → List D → Option D
  | 0 => fun _ => none
  | j + 1 => runP 3 2 (s_Lsame (G_Lsame j))
abbrev st_Ldiagram : Stmt := topS 19
abbrev N_Ldiagram : List Str := ["truths", "i", "half", "low", "high"]
theorem sc_Ldiagram : FnScope N_Ldiagram ["truths", "i"] (defScope st_Ldiagram) := ⟨rfl, rfl, rfl, by decide +kernel, rfl, by decide +kernel, by decide +kernel⟩
def s_Ldiagram (Gs : List D → Option D) : DL.Env → M Out :=
  (fSeq (fIf (fBl (fBin gEq (fCB gLen (fCons (fAny 0) fNil)) (fC (.int 1)))) (fRet (fBin gIx (fAny 0) (fC (.int 0)))) fNext)
    (fSeq (fSet 2 (fBin gFdiv (fCB gLen (fCons (fAny 0) fNil)) (fC (.int 2))))
    (fSeq (fPar 3 4 (fCons (fCall 2 Gs (fCons (fSl (fAny 0) fPNo (fPSo (fVar 2))) (fCons (fBin gAdd (fAny 1) (fC (.int 1))) fNil))) (fCons (fCall 2 Gs (fCons (fSl (fAny 0) (fPSo (fVar 2)) fPNo) (fCons (fBin gAdd (fAny 1) (fC (.int 1))) fNil))) fNil)))
    (fRet (fIfE (fTru (fCall 2 (G_Lsame 8) (fCons (fVar 3) (fCons (fVar 4) fNil)))) (fVar 3) (fTup (fCons (fVar 1) (fCons (fVar 3) (fCons (fVar 4) fNil)))))))))
def G_Ldiagram : Nat → List D → Option D
  | 0 => fun _ => none
  | j + 1 => runP 5 2 (s_Ldiagram (G_Ldiagram j))
abbrev st_Lconfigs : Stmt := topS 17
abbrev N_Lconfigs : List Str := ["n", "rows", "k", "longer", "row"]
theorem sc_Lconfigs : FnScope N_Lconfigs ["n"] (defScope st_Lconfigs) := ⟨rfl, rfl, rfl, by decide +kernel, rfl, by decide +kernel, by decide +kernel⟩
def b1_Lconfigs : DL.Env → M Out :=
  (fExt 3 (fFr (fLst (fCons (fBin gAdd (fAny 4) (fTup (fCons (fC (.int 0)) fNil))) (fCons (fBin gAdd (fAny 4) (fTup (fCons (fC (.int 1)) fNil))) fNil)))))
def b2_Lconfigs : DL.Env → M Out :=
  (fSeq (fSetO 3 (fLst fNil))
    (fSeq (fFor (fIt (fVar 1)) (gSet 4) b1_Lconfigs)
    (fFrz 3 (fSet 1 (fVar 3)))))
def s_Lconfigs : DL.Env → M Out :=
  (fSeq (fSet 1 (fFr (fLst (fCons (fTup fNil) fNil))))
    (fSeq (fFor (fCO rng1 (fCons (fAny 0) fNil)) (gSet 2) b2_Lconfigs)
    (fRet (fVar 1))))
def G_Lconfigs : List D → Option D := runP 5 1 s_Lconfigs
abbrev st_Lsome : Stmt := topS 20
abbrev N_Lsome : List Str := ["box", "n", "often", "kind", "i", "truths", "row"]
theorem sc_Lsome : FnScope N_Lsome ["box", "n", "often"] (defScope st_Lsome) := ⟨rfl, rfl, rfl, by decide +kernel, rfl, by decide +kernel, by decide +kernel⟩
def e1_Lsome : DL.Env → M D :=
  (fBin gEq (fCallB 0 2 G_Ldraw (fCons (fC (.int 2)) fNil)) (fC (.int 0)))
def s_Lsome : DL.Env → M Out :=
  (fSeq (fSet 3 (fCallB 0 2 G_Ldraw (fCons (fVar 2) fNil)))
    (fSeq (fIf (fBl (fBin gGt (fAny 3) (fC (.int 2)))) (fRet (fC (.bool true))) fNext)
    (fSeq (fSet 4 (fCallB 0 2 G_Ldraw (fCons (fVar 1) fNil)))
    (fSeq (fIf (fBl (fBin gLt (fAny 3) (fC (.int 2)))) (fRet (fBin gIx (fFr (fLst (fCons (fTup (fCons (fVar 4) (fCons (fC (.bool false)) (fCons (fC (.bool true)) fNil)))) (fCons (fTup (fCons (fVar 4) (fCons (fC (.bool true)) (fCons (fC (.bool false)) fNil)))) fNil)))) (fCallB 0 2 G_Ldraw (fCons (fC (.int 2)) fNil)))) fNext)
    (fSeq (fSet 5 (fFr (fLc (fIt (fCall 1 G_Lconfigs (fCons (fVar 1) fNil))) (gSet 6) fYes e1_Lsome [6])))
    (fRet (fIfE (fTru (fCB gAny (fCons (fAny 5) fNil))) (fCall 2 (G_Ldiagram 6) (fCons (fVar 5) (fCons (fC (.int 0)) fNil))) (fC (.bool true)))))))))
def G_Lsome : List D → M D := runB 7 3 s_Lsome
abbrev st_Lsettings : Stmt := topS 21
abbrev N_Lsettings : List Str := ["n", "t", "found", "turn", "longer", "row", "i"]
theorem sc_Lsettings : FnScope N_Lsettings ["n", "t"] (defScope st_Lsettings) := ⟨rfl, rfl, rfl, by decide +kernel, rfl, by decide +kernel, by decide +kernel⟩
def b1_Lsettings : DL.Env → M Out :=
  (fExt 4 (fFr (fLst (fCons (fBin gAdd (fAny 5) (fTup (fCons (fTup (fCons (fVar 6) (fCons (fC (.int 0)) fNil))) fNil))) (fCons (fBin gAdd (fAny 5) (fTup (fCons (fTup (fCons (fVar 6) (fCons (fC (.int 1)) fNil))) fNil))) fNil)))))
def b2_Lsettings : DL.Env → M Out :=
  (fFor (fCO rng2 (fCons (fIfE (fBl (fBin gNe (fAny 5) (fTup fNil))) (fBin gAdd (fBin gIx (fBin gIx (fAny 5) (fUn gNeg (fC (.int 1)))) (fC (.int 0))) (fC (.int 1))) (fC (.int 0))) (fCons (fAny 0) fNil))) (gSet 6) b1_Lsettings)
def b3_Lsettings : DL.Env → M Out :=
  (fSeq (fSetO 4 (fLst fNil))
    (fSeq (fFor (fIt (fVar 2)) (gSet 5) b2_Lsettings)
    (fFrz 4 (fSet 2 (fVar 4)))))
def s_Lsettings : DL.Env → M Out :=
  (fSeq (fSet 2 (fFr (fLst (fCons (fTup fNil) fNil))))
    (fSeq (fFor (fCO rng1 (fCons (fAny 1) fNil)) (gSet 3) b3_Lsettings)
    (fRet (fVar 2))))
def G_Lsettings : List D → Option D := runP 7 2 s_Lsettings
abbrev st_Lhas : Stmt := topS 22
abbrev N_Lhas : List Str := ["one", "setting", "i", "v"]
theorem sc_Lhas : FnScope N_Lhas ["one", "setting"] (defScope st_Lhas) := ⟨rfl, rfl, rfl, by decide +kernel, rfl, by decide +kernel, by decide +kernel⟩
def e1_Lhas : DL.Env → M D :=
  (fBin gEq (fBin gIx (fAny 0) (fAny 2)) (fAny 3))
def s_Lhas : DL.Env → M Out :=
  (fRet (fCB gAll (fCons (fFr (fLc (fIt (fAny 1)) (gTupD (gsCons (gSet 2) (gsCons (gSet 3) gsNil))) fYes e1_Lhas [2, 3])) fNil)))
def G_Lhas : List D → Option D := runP 4 2 s_Lhas
abbrev st_Lpossible : Stmt := topS 23
abbrev N_Lpossible : List Str := ["valid", "n", "t", "setting", "one"]
theorem sc_Lpossible : FnScope N_Lpossible ["valid", "n", "t"] (defScope st_Lpossible) := ⟨rfl, rfl, rfl, by decide +kernel, rfl, by decide +kernel, by decide +kernel⟩
def e1_Lpossible : DL.Env → M D :=
  (fCall 2 G_Lhas (fCons (fVar 4) (fCons (fVar 3) fNil)))
def c1_Lpossible : DL.Env → M Bool :=
  (fTru (fCB gAny (fCons (fFr (fLc (fIt (fAny 0)) (gSet 4) fYes e1_Lpossible [4])) fNil)))
def s_Lpossible : DL.Env → M Out :=
  (fRet (fFr (fLc (fIt (fCall 2 G_Lsettings (fCons (fVar 1) (fCons (fVar 2) fNil)))) (gSet 3) c1_Lpossible (fVar 3) [3])))
def G_Lpossible : List D → Option D := runP 5 3 s_Lpossible
abbrev st_Lgreedy : Stmt := topS 24
abbrev N_Lgreedy : List Str := ["valid", "settings_v", "left", "taken", "turn", "counts", "one", "setting"]
theorem sc_Lgreedy : FnScope N_Lgreedy ["valid", "settings_v"] (defScope st_Lgreedy) := ⟨rfl, rfl, rfl, by decide +kernel, rfl, by decide +kernel, by decide +kernel⟩
def c1_Lgreedy : DL.Env → M Bool :=
  (fTru (fCall 2 G_Lhas (fCons (fVar 6) (fCons (fVar 7) fNil))))
def e1_Lgreedy : DL.Env → M D :=
  (fCB gLen (fCons (fFr (fLc (fIt (fAny 2)) (gSet 7) c1_Lgreedy (fVar 7) [7])) fNil))
def c2_Lgreedy : DL.Env → M Bool :=
  (fNotT (fTru (fCall 2 G_Lhas (fCons (fVar 6) (fCons (fVar 7) fNil)))))
def b1_Lgreedy : DL.Env → M Out :=
  (fIf (fBl (fBin gNe (fAny 2) (fFr (fLst fNil)))) (fSeq (fSet 5 (fFr (fLc (fIt (fAny 0)) (gSet 6) fYes e1_Lgreedy [6])))
    (fSeq (fSet 6 (fBin gIx (fAny 0) (fIndex (fVar 5) (fCB gMaxL (fCons (fAny 5) fNil)))))
    (fSeq (fApp 3 (fVar 6))
    (fSet 2 (fFr (fLc (fIt (fAny 2)) (gSet 7) c2_Lgreedy (fVar 7) [7])))))) fNext)
def s_Lgreedy : DL.Env → M Out :=
  (fSeq (fSet 2 (fFr (fCO gList (fCons (fAny 1) fNil))))
    (fSeq (fSetO 3 (fLst fNil))
    (fSeq (fFor (fCO rng1 (fCons (fCB gLen (fCons (fAny 1) fNil)) fNil)) (gSet 4) b1_Lgreedy)
    (fRet (fCB gTuple (fCons (fFr (fCO gSortedT (fCons (fAny 3) fNil))) fNil))))))
def G_Lgreedy : List D → Option D := runP 8 2 s_Lgreedy
abbrev st_Lholds : Stmt := topS 18
abbrev N_Lholds : List Str := ["diagram", "configuration", "i"]
theorem sc_Lholds : FnScope N_Lholds ["diagram", "configuration"] (defScope st_Lholds) := ⟨rfl, rfl, rfl, by decide +kernel, rfl, by decide +kernel, by decide +kernel⟩
def b1_Lholds : DL.Env → M Out :=
  (fIf (fAndT (fTru (fIsi "tuple" (fAny 0))) (fBl (fBin gEq (fBin gIx (fAny 0) (fC (.int 0))) (fAny 2)))) (fSet 0 (fBin gIx (fAny 0) (fBin gAdd (fC (.int 1)) (fBin gIx (fAny 1) (fAny 2))))) fNext)
def s_Lholds : DL.Env → M Out :=
  (fSeq (fFor (fCO rng1 (fCons (fCB gLen (fCons (fAny 1) fNil)) fNil)) (gSet 2) b1_Lholds)
    (fRet (fVar 0)))
def G_Lholds : List D → Option D := runP 3 2 s_Lholds
abbrev st_chosen : Stmt := topS 2
abbrev N_chosen : List Str := ["d", "count", "found", "i", "longer", "configuration", "rest", "bit", "inner"]
theorem sc_chosen : FnScope N_chosen ["d", "count"] (defScope st_chosen) := ⟨rfl, rfl, rfl, by decide +kernel, rfl, by decide +kernel, by decide +kernel⟩
def b1_chosen : DL.Env → M Out :=
  (fSeq (fSet 8 (fIfE (fAndT (fTru (fIsi "tuple" (fAny 6))) (fBl (fBin gEq (fBin gIx (fAny 6) (fC (.int 0))) (fAny 3)))) (fBin gIx (fAny 6) (fBin gAdd (fC (.int 1)) (fAny 7))) (fVar 6)))
    (fIf (fBl (fBin gIsNot (fAny 8) (fC (.bool false)))) (fApp 4 (fTup (fCons (fBin gAdd (fAny 5) (fTup (fCons (fVar 7) fNil))) (fCons (fVar 8) fNil)))) fNext))
def b2_chosen : DL.Env → M Out :=
  (fFor (fIt (fTup (fCons (fC (.int 0)) (fCons (fC (.int 1)) fNil)))) (gSet 7) b1_chosen)
def b3_chosen : DL.Env → M Out :=
  (fSeq (fSetO 4 (fLst fNil))
    (fSeq (fFor (fIt (fVar 2)) (gTupD (gsCons (gSet 5) (gsCons (gSet 6) gsNil))) b2_chosen)
    (fFrz 4 (fSet 2 (fVar 4)))))
def c1_chosen : DL.Env → M Bool :=
  (fBl (fBin gIs (fAny 6) (fC (.bool true))))
def s_chosen : DL.Env → M Out :=
  (fSeq (fSet 2 (fFr (fLst (fCons (fTup (fCons (fTup fNil) (fCons (fVar 0) fNil))) fNil))))
    (fSeq (fFor (fCO rng1 (fCons (fAny 1) fNil)) (gSet 3) b3_chosen)
    (fRet (fFr (fLc (fIt (fAny 2)) (gTupD (gsCons (gSet 5) (gsCons (gSet 6) gsNil))) c1_chosen (fVar 5) [5, 6])))))
def G_chosen : List D → Option D := runP 9 2 s_chosen
abbrev st_settings : Stmt := topS 4
abbrev N_settings : List Str := ["n", "t", "found", "_", "longer", "setting", "first", "i", "v"]
theorem sc_settings : FnScope N_settings ["n", "t"] (defScope st_settings) := ⟨rfl, rfl, rfl, by decide +kernel, rfl, by decide +kernel, by decide +kernel⟩
def e1_settings : DL.Env → M D :=
  (fBin gAdd (fAny 5) (fTup (fCons (fTup (fCons (fVar 7) (fCons (fVar 8) fNil))) fNil)))
def b1_settings : DL.Env → M Out :=
  (fSeq (fSet 6 (fIfE (fTru (fAny 5)) (fBin gAdd (fBin gIx (fBin gIx (fAny 5) (fUn gNeg (fC (.int 1)))) (fC (.int 0))) (fC (.int 1))) (fC (.int 0))))
    (fExt 4 (fFr (fLc2 (fCO rng2 (fCons (fAny 6) (fCons (fAny 0) fNil))) (gSet 7) fYes (fIt (fTup (fCons (fC (.int 0)) (fCons (fC (.int 1)) fNil)))) (gSet 8) fYes e1_settings [7, 8] [8]))))
def b2_settings : DL.Env → M Out :=
  (fSeq (fSetO 4 (fLst fNil))
    (fSeq (fFor (fIt (fVar 2)) (gSet 5) b1_settings)
    (fFrz 4 (fSet 2 (fVar 4)))))
def s_settings : DL.Env → M Out :=
  (fSeq (fSet 2 (fFr (fLst (fCons (fTup fNil) fNil))))
    (fSeq (fFor (fCO rng1 (fCons (fAny 1) fNil)) (gSet 3) b2_settings)
    (fRet (fVar 2))))
def G_settings : List D → Option D := runP 9 2 s_settings
abbrev st_has : Stmt := topS 5
abbrev N_has : List Str := ["configuration", "setting", "i", "v"]
theorem sc_has : FnScope N_has ["configuration", "setting"] (defScope st_has) := ⟨rfl, rfl, rfl, by decide +kernel, rfl, by decide +kernel, by decide +kernel⟩
def e1_has : DL.Env → M D :=
  (fBin gEq (fBin gIx (fAny 0) (fAny 2)) (fAny 3))
def s_has : DL.Env → M Out :=
  (fRet (fCB gAll (fCons (fFr (fLc (fIt (fAny 1)) (gTupD (gsCons (gSet 2) (gsCons (gSet 3) gsNil))) fYes e1_has [2, 3])) fNil)))
def G_has : List D → Option D := runP 4 2 s_has
abbrev st_possible : Stmt := topS 6
abbrev N_possible : List Str := ["d", "n", "t", "valid", "setting", "one"]
theorem sc_possible : FnScope N_possible ["d", "n", "t"] (defScope st_possible) := ⟨rfl, rfl, rfl, by decide +kernel, rfl, by decide +kernel, by decide +kernel⟩
def e1_possible : DL.Env → M D :=
  (fCall 2 G_has (fCons (fVar 5) (fCons (fVar 4) fNil)))
def c1_possible : DL.Env → M Bool :=
  (fTru (fCB gAny (fCons (fFr (fLc (fIt (fAny 3)) (gSet 5) fYes e1_possible [5])) fNil)))
def s_possible : DL.Env → M Out :=
  (fSeq (fSet 3 (fCall 2 G_chosen (fCons (fVar 0) (fCons (fVar 1) fNil))))
    (fRet (fFr (fLc (fIt (fCall 2 G_settings (fCons (fVar 1) (fCons (fVar 2) fNil)))) (gSet 4) c1_possible (fVar 4) [4]))))
def G_possible : List D → Option D := runP 6 3 s_possible
abbrev st_holds : Stmt := topS 1
abbrev N_holds : List Str := ["d", "configuration"]
theorem sc_holds : FnScope N_holds ["d", "configuration"] (defScope st_holds) := ⟨rfl, rfl, rfl, by decide +kernel, rfl, by decide +kernel, by decide +kernel⟩
def b1_holds : DL.Env → M Out :=
  (fSet 0 (fBin gIx (fAny 0) (fBin gAdd (fC (.int 1)) (fBin gIx (fAny 1) (fBin gIx (fAny 0) (fC (.int 0)))))))
def s_holds : DL.Env → M Out :=
  (fSeq (fWhile (fTru (fIsi "tuple" (fAny 0))) b1_holds)
    (fRet (fVar 0)))
def G_holds : List D → Option D := runP 2 2 s_holds
abbrev st_is_configuration : Stmt := topS 7
abbrev N_is_configuration : List Str := ["d", "n", "value", "bit"]
theorem sc_is_configuration : FnScope N_is_configuration ["d", "n", "value"] (defScope st_is_configuration) := ⟨rfl, rfl, rfl, by decide +kernel, rfl, by decide +kernel, by decide +kernel⟩
def e1_is_configuration : DL.Env → M D :=
  (fAndV (fIsi "int" (fAny 3)) (fAndV (fNotV (fIsi "bool" (fAny 3))) (fBin gIn (fAny 3) (fTup (fCons (fC (.int 0)) (fCons (fC (.int 1)) fNil))))))
def s_is_configuration : DL.Env → M Out :=
  (fSeq (fIf (fOrT (fNotT (fTru (fIsi "tuple" (fAny 2)))) (fBl (fBin gNe (fCB gLen (fCons (fAny 2) fNil)) (fAny 1)))) (fRet (fC (.bool false))) fNext)
    (fSeq (fIf (fNotT (fTru (fCB gAll (fCons (fFr (fLc (fIt (fAny 2)) (gSet 3) fYes e1_is_configuration [3])) fNil)))) (fRet (fC (.bool false))) fNext)
    (fRet (fBin gIs (fCall 2 G_holds (fCons (fVar 0) (fCons (fVar 2) fNil))) (fC (.bool true))))))
def G_is_configuration : List D → Option D := runP 4 3 s_is_configuration
abbrev st_is_sample : Stmt := topS 8
abbrev N_is_sample : List Str := ["d", "n", "value", "one", "k"]
theorem sc_is_sample : FnScope N_is_sample ["d", "n", "value"] (defScope st_is_sample) := ⟨rfl, rfl, rfl, by decide +kernel, rfl, by decide +kernel, by decide +kernel⟩
def e1_is_sample : DL.Env → M D :=
  (fCall 3 G_is_configuration (fCons (fVar 0) (fCons (fVar 1) (fCons (fVar 3) fNil))))
def e2_is_sample : DL.Env → M D :=
  (fBin gLtD (fBin gIx (fAny 2) (fAny 4)) (fBin gIx (fAny 2) (fBin gAdd (fAny 4) (fC (.int 1)))))
def s_is_sample : DL.Env → M Out :=
  (fSeq (fIf (fOrT (fNotT (fTru (fIsi "tuple" (fAny 2)))) (fNotT (fTru (fCB gAll (fCons (fFr (fLc (fIt (fAny 2)) (gSet 3) fYes e1_is_sample [3])) fNil))))) (fRet (fC (.bool false))) fNext)
    (fRet (fCB gAll (fCons (fFr (fLc (fCO rng1 (fCons (fBin gSub (fCB gLen (fCons (fAny 2) fNil)) (fC (.int 1))) fNil)) (gSet 4) fYes e2_is_sample [4])) fNil))))
def G_is_sample : List D → Option D := runP 5 3 s_is_sample
abbrev st_open_settings : Stmt := topS 9
abbrev N_open_settings : List Str := ["d", "n", "t", "taken", "setting", "one"]
theorem sc_open_settings : FnScope N_open_settings ["d", "n", "t", "taken"] (defScope st_open_settings) := ⟨rfl, rfl, rfl, by decide +kernel, rfl, by decide +kernel, by decide +kernel⟩
def e1_open_settings : DL.Env → M D :=
  (fCall 2 G_has (fCons (fVar 5) (fCons (fVar 4) fNil)))
def c1_open_settings : DL.Env → M Bool :=
  (fNotT (fTru (fCB gAny (fCons (fFr (fLc (fIt (fAny 3)) (gSet 5) fYes e1_open_settings [5])) fNil))))
def s_open_settings : DL.Env → M Out :=
  (fRet (fFr (fLc (fIt (fCall 3 G_possible (fCons (fVar 0) (fCons (fVar 1) (fCons (fVar 2) fNil))))) (gSet 4) c1_open_settings (fVar 4) [4])))
def G_open_settings : List D → Option D := runP 6 4 s_open_settings
abbrev st_covers_size : Stmt := topS 10
abbrev N_covers_size : List Str := ["d", "n", "t", "sample"]
theorem sc_covers_size : FnScope N_covers_size ["d", "n", "t", "sample"] (defScope st_covers_size) := ⟨rfl, rfl, rfl, by decide +kernel, rfl, by decide +kernel, by decide +kernel⟩
def s_covers_size : DL.Env → M Out :=
  (fRet (fBin gEq (fCall 4 G_open_settings (fCons (fVar 0) (fCons (fVar 1) (fCons (fVar 2) (fCons (fVar 3) fNil))))) (fFr (fLst fNil))))
def G_covers_size : List D → Option D := runP 4 4 s_covers_size
abbrev st_greedy_sample : Stmt := topS 11
abbrev N_greedy_sample : List Str := ["d", "n", "t", "taken", "left", "counts", "one", "setting"]
theorem sc_greedy_sample : FnScope N_greedy_sample ["d", "n", "t"] (defScope st_greedy_sample) := ⟨rfl, rfl, rfl, by decide +kernel, rfl, by decide +kernel, by decide +kernel⟩
def c1_greedy_sample : DL.Env → M Bool :=
  (fTru (fCall 2 G_has (fCons (fVar 6) (fCons (fVar 7) fNil))))
def e1_greedy_sample : DL.Env → M D :=
  (fTup (fCons (fUn gNeg (fCB gLen (fCons (fFr (fLc (fIt (fAny 4)) (gSet 7) c1_greedy_sample (fVar 7) [7])) fNil))) (fCons (fVar 6) fNil)))
def b1_greedy_sample : DL.Env → M Out :=
  (fSeq (fSet 5 (fFr (fLc (fIt (fCall 2 G_chosen (fCons (fVar 0) (fCons (fVar 1) fNil)))) (gSet 6) fYes e1_greedy_sample [6])))
    (fSeq (fApp 3 (fBin gIx (fCB gMinL (fCons (fAny 5) fNil)) (fC (.int 1))))
    (fSet 4 (fLend 3 (fCall 4 G_open_settings (fCons (fVar 0) (fCons (fVar 1) (fCons (fVar 2) (fCons (fVar 3) fNil)))))))))
def s_greedy_sample : DL.Env → M Out :=
  (fSeq (fSetO 3 (fLst fNil))
    (fSeq (fSet 4 (fLend 3 (fCall 4 G_open_settings (fCons (fVar 0) (fCons (fVar 1) (fCons (fVar 2) (fCons (fVar 3) fNil)))))))
    (fSeq (fWhile (fTru (fAny 4)) b1_greedy_sample)
    (fRet (fCB gTuple (fCons (fFr (fCO gSortedT (fCons (fAny 3) fNil))) fNil))))))
def G_greedy_sample : List D → Option D := runP 8 3 s_greedy_sample
abbrev st_Lbad : Stmt := topS 25
abbrev N_Lbad : List Str := ["box", "n", "valid", "sample", "lost", "one", "rows", "bad"]
theorem sc_Lbad : FnScope N_Lbad ["box", "n", "valid", "sample"] (defScope st_Lbad) := ⟨rfl, rfl, rfl, by decide +kernel, rfl, by decide +kernel, by decide +kernel⟩
def s_Lbad : DL.Env → M Out :=
  (fSeq (fSet 4 (fFr (fLc (fIt (fCall 1 G_Lconfigs (fCons (fVar 1) fNil))) (gSet 5) (fBl (fBin gNotIn (fAny 5) (fAny 2))) (fVar 5) [5])))
    (fSeq (fSetO 6 (fLst (fCons (fC .none) (fCons (fC (.int 5)) (fCons (fC (.str "sample")) (fCons (fBin gAdd (fAny 3) (fTup (fCons (fC .none) fNil))) (fCons (fBin gAdd (fAny 3) (fTup (fCons (fTup fNil) fNil))) (fCons (fBin gAdd (fAny 3) (fTup (fCons (fBin gMulT (fTup (fCons (fC (.int 2)) fNil)) (fAny 1)) fNil))) (fCons (fTup (fCons (fBin gMulT (fTup (fCons (fC (.bool true)) fNil)) (fAny 1)) fNil)) (fCons (fTup (fCons (fBin gMulT (fTup (fCons (fC (.int 0)) fNil)) (fBin gAdd (fAny 1) (fC (.int 1)))) fNil)) (fCons (fTup (fCons (fC (.int 0)) fNil)) (fCons (fBin gAdd (fAny 3) (fSl (fAny 3) (fPSo (fUn gNeg (fC (.int 1)))) fPNo)) (fCons (fBin gAdd (fUn gRevTup (fAny 3)) (fSl (fAny 3) fPNo (fPSo (fC (.int 1))))) (fCons (fTup (fCons (fBin gMulT (fTup (fCons (fC (.str "0")) fNil)) (fAny 1)) fNil)) fNil))))))))))))))
    (fSeq (fIf (fBl (fBin gNe (fAny 4) (fFr (fLst fNil)))) (fApp 6 (fCB gTuple (fCons (fFr (fCO gSortedT (fCons (fBin gAdd (fAny 3) (fTup (fCons (fBin gIx (fAny 4) (fCallB 0 2 G_Ldraw (fCons (fCB gLen (fCons (fAny 4) fNil)) fNil))) fNil))) fNil))) fNil))) fNext)
    (fSeq (fSet 7 (fBin gIx (fAny 6) (fCallB 0 2 G_Ldraw (fCons (fCB gLen (fCons (fAny 6) fNil)) fNil))))
    (fRet (fIfE (fBl (fBin gNe (fAny 7) (fTup fNil))) (fVar 7) (fC .none)))))))
def G_Lbad : List D → M D := runB 8 4 s_Lbad
abbrev st_law : Stmt := topS 26
abbrev N_law : List Str := ["script", "box", "n", "d", "valid", "one", "t", "settings_v", "rate", "sample", "covers", "setting", "less", "due"]
theorem sc_law : FnScope N_law ["script"] (defScope st_law) := ⟨rfl, rfl, rfl, by decide +kernel, rfl, by decide +kernel, by decide +kernel⟩
def c1_law : DL.Env → M Bool :=
  (fTru (fCall 2 G_Lholds (fCons (fVar 3) (fCons (fVar 5) fNil))))
def c2_law : DL.Env → M Bool :=
  (fBl (fBin gEq (fCallB 1 2 G_Ldraw (fCons (fVar 8) fNil)) (fC (.int 0))))
def e1_law : DL.Env → M D :=
  (fCall 2 G_Lhas (fCons (fVar 5) (fCons (fVar 11) fNil)))
def e2_law : DL.Env → M D :=
  (fCB gAny (fCons (fFr (fLc (fIt (fAny 9)) (gSet 5) fYes e1_law [5])) fNil))
def e3_law : DL.Env → M D :=
  (fBin gIs (fCall 4 G_covers_size (fCons (fVar 3) (fCons (fVar 2) (fCons (fVar 12) (fCons (fVar 9) fNil))))) (fC (.bool true)))
def s_law : DL.Env → M Out :=
  (fSeq (fSet 2 (fBin gAdd (fC (.int 1)) (fCallB 1 2 G_Ldraw (fCons (fC (.int 5)) fNil))))
    (fSeq (fSet 3 (fCallB 1 3 G_Lsome (fCons (fVar 2) (fCons (fC (.int 4)) fNil))))
    (fSeq (fSet 4 (fFr (fLc (fIt (fCall 1 G_Lconfigs (fCons (fVar 2) fNil))) (gSet 5) c1_law (fVar 5) [5])))
    (fSeq (fSet 6 (fBin gAdd (fC (.int 1)) (fCallB 1 2 G_Ldraw (fCons (fVar 2) fNil))))
    (fSeq (fSet 7 (fCall 3 G_Lpossible (fCons (fVar 4) (fCons (fVar 2) (fCons (fVar 6) fNil)))))
    (fSeq (fIf (fNotT (fTru (fCall 2 (G_Lsame 8) (fCons (fCall 3 G_possible (fCons (fVar 3) (fCons (fVar 2) (fCons (fVar 6) fNil)))) (fCons (fVar 7) fNil))))) (fRet (fC (.bool false))) fNext)
    (fSeq (fSet 8 (fBin gAdd (fC (.int 1)) (fCallB 1 2 G_Ldraw (fCons (fC (.int 4)) fNil))))
    (fSeq (fSet 9 (fCB gTuple (fCons (fFr (fLc (fIt (fAny 4)) (gSet 5) c2_law (fVar 5) [5])) fNil)))
    (fSeq (fIf (fOrT (fBl (fBin gIsNot (fCall 3 G_is_sample (fCons (fVar 3) (fCons (fVar 2) (fCons (fVar 9) fNil)))) (fC (.bool true)))) (fBl (fBin gIsNot (fCall 3 G_is_sample (fCons (fVar 3) (fCons (fVar 2) (fCons (fCallB 1 4 G_Lbad (fCons (fVar 2) (fCons (fVar 4) (fCons (fVar 9) fNil)))) fNil)))) (fC (.bool false))))) (fRet (fC (.bool false))) fNext)
    (fSeq (fSet 10 (fCB gAll (fCons (fFr (fLc (fIt (fAny 7)) (gSet 11) fYes e2_law [11])) fNil)))
    (fSeq (fIf (fNotT (fTru (fCall 2 (G_Lsame 8) (fCons (fCall 4 G_covers_size (fCons (fVar 3) (fCons (fVar 2) (fCons (fVar 6) (fCons (fVar 9) fNil))))) (fCons (fVar 10) fNil))))) (fRet (fC (.bool false))) fNext)
    (fSeq (fIf (fAndT (fTru (fAny 10)) (fNotT (fTru (fCB gAll (fCons (fFr (fLc (fCO rng2 (fCons (fC (.int 1)) (fCons (fAny 6) fNil))) (gSet 12) fYes e3_law [12])) fNil))))) (fRet (fC (.bool false))) fNext)
    (fSeq (fSet 13 (fCall 2 G_Lgreedy (fCons (fVar 4) (fCons (fVar 7) fNil))))
    (fRet (fAndV (fCall 2 (G_Lsame 8) (fCons (fCall 3 G_greedy_sample (fCons (fVar 3) (fCons (fVar 2) (fCons (fVar 6) fNil)))) (fCons (fVar 13) fNil))) (fBin gIs (fCall 4 G_covers_size (fCons (fVar 3) (fCons (fVar 2) (fCons (fVar 6) (fCons (fVar 13) fNil))))) (fC (.bool true))))))))))))))))))
section
variable {P : Program} {w : World} {K : PySem.W.Frag} {mg : Str → Option Value} {base : Heap}
theorem cal_Lsame (T : Bn mg) {f : Addr} {fd : FuncData} (F : Fun K "_law_same" "_law_same" st_Lsame f fd) (b : Binds K fd ["a", "b"] []) (m : mg "_law_same" = some (.ref f)) : ∀ j : Nat, Cal P w K mg base "_law_same" (0 + j) 2 (G_Lsame j)
  | 0 => (Cal.none_left b m F.kp).mono (by omega)
  | j + 1 => by
    have Cs := cal_Lsame T F b m j
    exact ⟨f, fd, _, fn_p F sc_Lsame rfl (by decide) (fun cdv A o s H E hr => by
      have hu := hu2 hr
      exact (dss_cons (ds_if (PW.pt (dw_or (PW.pt (dw_and (dt_tru (se (de_isi kit_tuple (se_var 0) (by rfl) T.isinstance (by rfl) T.tuple PyProof.Rows.boot_tuple))) (dw_and1 (dt_tru (se (de_isi kit_tuple (se_var 1) (by rfl) T.isinstance (by rfl) T.tuple PyProof.Rows.boot_tuple)))))) (dw_or1 (PW.pt (dw_and (dt_tru (se (de_isi kit_list (se_var 0) (by rfl) T.isinstance (by rfl) T.list PyProof.Rows.boot_list))) (dw_and1 (dt_tru (se (de_isi kit_list (se_var 1) (by rfl) T.isinstance (by rfl) T.list PyProof.Rows.boot_list))))))))) (dss_one (ds_ret (de_and (de_cmp (od_eq hu) (se (de_cb (cd_len) (by rfl) T.len PySem.boot_len (das_cons (se_var 0) das_nil))) (se (de_cb (cd_len) (by rfl) T.len PySem.boot_len (das_cons (se_var 1) das_nil)))) (de_one (de_cb (cd_all rfl) (by rfl) T.all (by decide +kernel) (das_cons (se (de_o (oe_lc [("k", 2)] rfl sc_Lsame.nd (dio (di_range1 (by rfl) T.range (das_cons (se (de_cb (cd_len) (by rfl) T.len PySem.boot_len (das_cons (se_var 0) das_nil))) das_nil))) (blkOk_by (N := N_Lsame) (sc := defScope st_Lsame) (by decide +kernel)) (fun _ _ _ _ _ => (dg_name 2 sc_Lsame.nd)) (by decide) (fun _ _ _ _ _ => dts_nil) (fun _ _ _ _ _ => (de_call Cs hr (Nat.le_refl _) (by rfl) (da_cons (de_ix xd_ix (se_var 0) (se_var 2)) (da_cons (de_ix xd_ix (se_var 1) (se_var 2)) da_nil))))))) das_nil)))))) dss_nil)
      (dss_cons (ds_if (PW.pt (dw_or (dt_tru (se (de_isi kit_bool (se_var 0) (by rfl) T.isinstance (by rfl) T.bool PyProof.Rows.boot_bool))) (dw_or1 (dt_tru (se (de_isi kit_bool (se_var 1) (by rfl) T.isinstance (by rfl) T.bool PyProof.Rows.boot_bool)))))) (dss_one (ds_ret (de_and (de_isi kit_bool (se_var 0) (by rfl) T.isinstance (by rfl) T.bool PyProof.Rows.boot_bool) (de_and (de_isi kit_bool (se_var 1) (by rfl) T.isinstance (by rfl) T.bool PyProof.Rows.boot_bool) (de_one (de_cmp (od_eq hu) (se_var 0) (se_var 1))))))) dss_nil)
      (dss_cons (ds_if (PW.pt (dw_or (PW.pt (dw_and (dt_tru (se (de_isi kit_int (se_var 0) (by rfl) T.isinstance (by rfl) T.int PyProof.Rows.boot_int))) (dw_and1 (dt_tru (se (de_isi kit_int (se_var 1) (by rfl) T.isinstance (by rfl) T.int PyProof.Rows.boot_int)))))) (dw_or1 (PW.pt (dw_and (dt_tru (se (de_isi kit_str (se_var 0) (by rfl) T.isinstance (by rfl) T.str PyProof.Rows.boot_str))) (dw_and1 (dt_tru (se (de_isi kit_str (se_var 1) (by rfl) T.isinstance (by rfl) T.str PyProof.Rows.boot_str))))))))) (dss_one (ds_ret (de_cmp (od_eq hu) (se_var 0) (se_var 1)))) dss_nil)
      (dss_one (ds_ret (de_and (de_cmp (od_is) (se_var 0) (se de_non)) (de_one (de_cmp (od_is) (se_var 1) (se de_non)))))))))), b, m, F.kp⟩
theorem cal_Ldiagram (T : Bn mg) (C_Lsame : Cal P w K mg base "_law_same" 8 2 (G_Lsame 8)) {f : Addr} {fd : FuncData} (F : Fun K "_law_diagram" "_law_diagram" st_Ldiagram f fd) (b : Binds K fd ["truths", "i"] []) (m : mg "_law_diagram" = some (.ref f)) : ∀ j : Nat, Cal P w K mg base "_law_diagram" (8 + j) 2 (G_Ldiagram j)
  | 0 => (Cal.none_left b m F.kp).mono (by omega)
  | j + 1 => by
    have Cs := cal_Ldiagram T C_Lsame F b m j
    exact ⟨f, fd, _, fn_p F sc_Ldiagram rfl (by decide) (fun cdv A o s H E hr => by
      have hu := hu2 hr
      exact (dss_cons (ds_if (dt_cmp (od_eq hu) (se (de_cb (cd_len) (by rfl) T.len PySem.boot_len (das_cons (se_var 0) das_nil))) (se de_int)) (dss_one (ds_ret (de_ix xd_ix (se_var 0) (se de_int)))) dss_nil)
      (dss_cons (ds_set 2 sc_Ldiagram.nd (de_bin od_fdiv (se (de_cb (cd_len) (by rfl) T.len PySem.boot_len (das_cons (se_var 0) das_nil))) (se de_int)))
      (dss_cons (ds_par 3 4 rfl sc_Ldiagram.nd (da_cons (de_call Cs hr (Nat.le_refl _) (by rfl) (da_cons (de_sl (se_var 0) dp_no (dp_so (de_var 2))) (da_cons (de_bin od_add (se_var 1) (se de_int)) da_nil))) (da_cons (de_call Cs hr (Nat.le_refl _) (by rfl) (da_cons (de_sl (se_var 0) (dp_so (de_var 2)) dp_no) (da_cons (de_bin od_add (se_var 1) (se de_int)) da_nil))) da_nil)) (by decide))
      (dss_one (ds_ret (de_if (dt_tru (se (de_call C_Lsame hr (by first | omega | exact Nat.le_trans (by decide) (Nat.le_add_right _ _)) (by rfl) (da_cons (de_var 3) (da_cons (de_var 4) da_nil))))) (de_var 3) (de_tup (da_cons (de_var 1) (da_cons (de_var 3) (da_cons (de_var 4) da_nil))))))))))), b, m, F.kp⟩
theorem cal_Lconfigs (T : Bn mg) {f : Addr} {fd : FuncData} (F : Fun K "_law_configs" "_law_configs" st_Lconfigs f fd) (b : Binds K fd ["n"] []) (m : mg "_law_configs" = some (.ref f)) : Cal P w K mg base "_law_configs" 1 1 G_Lconfigs :=
  ⟨f, fd, _, fn_p F sc_Lconfigs rfl (by decide) (fun cdv A o s H E hr => by
    have hu := hu2 hr
    exact (dss_cons (ds_set 1 sc_Lconfigs.nd (de_o (oe_lst (da_cons (de_tup da_nil) da_nil))))
      (dss_cons (ds_for PassesOwn.never rfl (di_range1 (by rfl) T.range (das_cons (se_var 0) das_nil)) (dg_name 2 sc_Lconfigs.nd) (dss_cons (ds_setO 3 sc_Lconfigs.nd (oe_lst da_nil))
      (dss_cons (ds_for PassesOwn.never rfl (di (de_var 1)) (dg_name 4 sc_Lconfigs.nd) (dss_one (ds_extend (ps_expr (pe_bm PySem.F.plainAttrs_list PySem.F.slot_list_extend PySem.F.type_list_extend mt_extend (pv 3) (pa_cons (se (de_o (oe_lst (da_cons (de_bin od_add (se_var 4) (se (de_tup (da_cons de_int da_nil)))) (da_cons (de_bin od_add (se_var 4) (se (de_tup (da_cons de_int da_nil)))) da_nil))))) pa_nil))))))
      (dss_one (ds_frz 3 (ds_set 1 sc_Lconfigs.nd (de_var 3)))))))
      (dss_one (ds_ret (de_var 1)))))), b, m, F.kp⟩
theorem cal_Lsome (T : Bn mg) (C_Ldraw : CalB P w K mg base "_law_draw" 2 2 G_Ldraw) (C_Lconfigs : Cal P w K mg base "_law_configs" 1 1 G_Lconfigs) (C_Ldiagram : Cal P w K mg base "_law_diagram" 14 2 (G_Ldiagram 6)) {f : Addr} {fd : FuncData} (F : Fun K "_law_some" "_law_some" st_Lsome f fd) (b : Binds K fd ["box", "n", "often"] []) (m : mg "_law_some" = some (.ref f)) : CalB P w K mg base "_law_some" 15 3 G_Lsome :=
  ⟨f, fd, _, fn_b F sc_Lsome rfl (by decide) (fun cdv A o s H E hr => by
    have hu := hu2 hr
    exact (dss_cons (ds_set 3 sc_Lsome.nd (de_callB 0 C_Ldraw hr (by decide) (by rfl) (da_cons (de_var 2) da_nil)))
      (dss_cons (ds_if (dt_cmp (od_gt) (se_var 3) (se de_int)) (dss_one (ds_ret de_bl)) dss_nil)
      (dss_cons (ds_set 4 sc_Lsome.nd (de_callB 0 C_Ldraw hr (by decide) (by rfl) (da_cons (de_var 1) da_nil)))
      (dss_cons (ds_if (dt_cmp (od_lt) (se_var 3) (se de_int)) (dss_one (ds_ret (de_ix xd_ix (se (de_o (oe_lst (da_cons (de_tup (da_cons (de_var 4) (da_cons de_bl (da_cons de_bl da_nil)))) (da_cons (de_tup (da_cons (de_var 4) (da_cons de_bl (da_cons de_bl da_nil)))) da_nil))))) (se (de_callB 0 C_Ldraw hr (by decide) (by rfl) (da_cons de_int da_nil)))))) dss_nil)
      (dss_cons (ds_lc 5 [("row", 6)] rfl sc_Lsome.nd (sw_true rfl rfl rfl (by decide +kernel)) (dis (se (de_call C_Lconfigs hr (by decide) (by rfl) (da_cons (de_var 1) da_nil)))) (blkOk_by (N := N_Lsome) (sc := defScope st_Lsome) (by decide +kernel)) (fun _ _ _ _ _ => (dg_name 6 sc_Lsome.nd)) (by decide) (fun _ _ _ _ _ => dts_nil) (fun _ _ _ _ _ => (de_cmp (od_eq hu) (se (de_callB 0 C_Ldraw hr (by decide) (by rfl) (da_cons de_int da_nil))) (se de_int))))
      (dss_one (ds_ret (de_if (dt_tru (se (de_cb (cd_any rfl) (by rfl) T.any (by decide +kernel) (das_cons (se_var 5) das_nil)))) (de_call C_Ldiagram hr (by decide) (by rfl) (da_cons (de_var 5) (da_cons de_int da_nil))) de_bl))))))))), b, m, F.kp⟩
theorem cal_Lsettings (T : Bn mg) {f : Addr} {fd : FuncData} (F : Fun K "_law_settings" "_law_settings" st_Lsettings f fd) (b : Binds K fd ["n", "t"] []) (m : mg "_law_settings" = some (.ref f)) : Cal P w K mg base "_law_settings" 1 2 G_Lsettings :=
  ⟨f, fd, _, fn_p F sc_Lsettings rfl (by decide) (fun cdv A o s H E hr => by
    have hu := hu2 hr
    exact (dss_cons (ds_set 2 sc_Lsettings.nd (de_o (oe_lst (da_cons (de_tup da_nil) da_nil))))
      (dss_cons (ds_for PassesOwn.never rfl (di_range1 (by rfl) T.range (das_cons (se_var 1) das_nil)) (dg_name 3 sc_Lsettings.nd) (dss_cons (ds_setO 4 sc_Lsettings.nd (oe_lst da_nil))
      (dss_cons (ds_for PassesOwn.never rfl (di (de_var 2)) (dg_name 5 sc_Lsettings.nd) (dss_one (ds_for PassesOwn.never rfl (di_range2 (by rfl) T.range (das_cons (se (de_if (dt_cmp (od_ne hu) (se_var 5) (se (de_tup da_nil))) (de_bin od_add (se (de_ix xd_ix (se (de_ix xd_ix (se_var 5) (se (de_un ud_neg (se de_int))))) (se de_int))) (se de_int)) de_int)) (das_cons (se_var 0) das_nil))) (dg_name 6 sc_Lsettings.nd) (dss_one (ds_extend (ps_expr (pe_bm PySem.F.plainAttrs_list PySem.F.slot_list_extend PySem.F.type_list_extend mt_extend (pv 4) (pa_cons (se (de_o (oe_lst (da_cons (de_bin od_add (se_var 5) (se (de_tup (da_cons (de_tup (da_cons (de_var 6) (da_cons de_int da_nil))) da_nil)))) (da_cons (de_bin od_add (se_var 5) (se (de_tup (da_cons (de_tup (da_cons (de_var 6) (da_cons de_int da_nil))) da_nil)))) da_nil))))) pa_nil))))))))
      (dss_one (ds_frz 4 (ds_set 2 sc_Lsettings.nd (de_var 4)))))))
      (dss_one (ds_ret (de_var 2)))))), b, m, F.kp⟩
theorem cal_Lhas (T : Bn mg) {f : Addr} {fd : FuncData} (F : Fun K "_law_has" "_law_has" st_Lhas f fd) (b : Binds K fd ["one", "setting"] []) (m : mg "_law_has" = some (.ref f)) : Cal P w K mg base "_law_has" 1 2 G_Lhas :=
  ⟨f, fd, _, fn_p F sc_Lhas rfl (by decide) (fun cdv A o s H E hr => by
    have hu := hu2 hr
    exact (dss_one (ds_ret (de_cb (cd_all rfl) (by rfl) T.all (by decide +kernel) (das_cons (se (de_o (oe_lc [("i", 2), ("v", 3)] rfl sc_Lhas.nd (dis (se_var 1)) (blkOk_by (N := N_Lhas) (sc := defScope st_Lhas) (by decide +kernel)) (fun _ _ _ _ _ => (dg_tup rfl (dgs_cons (dg_name 2 sc_Lhas.nd) (dgs_cons (dg_name 3 sc_Lhas.nd) dgs_nil)) (gl_cons (gl_cons gl_nil)))) (by decide) (fun _ _ _ _ _ => dts_nil) (fun _ _ _ _ _ => (de_cmp (od_eq hu) (se (de_ix xd_ix (se_var 0) (se_var 2))) (se_var 3)))))) das_nil))))), b, m, F.kp⟩
theorem cal_Lpossible (T : Bn mg) (C_Lsettings : Cal P w K mg base "_law_settings" 1 2 G_Lsettings) (C_Lhas : Cal P w K mg base "_law_has" 1 2 G_Lhas) {f : Addr} {fd : FuncData} (F : Fun K "_law_possible" "_law_possible" st_Lpossible f fd) (b : Binds K fd ["valid", "n", "t"] []) (m : mg "_law_possible" = some (.ref f)) : Cal P w K mg base "_law_possible" 2 3 G_Lpossible :=
  ⟨f, fd, _, fn_p F sc_Lpossible rfl (by decide) (fun cdv A o s H E hr => by
    have hu := hu2 hr
    exact (dss_one (ds_ret (de_o (oe_lc [("setting", 3)] rfl sc_Lpossible.nd (dis (se (de_call C_Lsettings hr (by decide) (by rfl) (da_cons (de_var 1) (da_cons (de_var 2) da_nil))))) (blkOk_by (N := N_Lpossible) (sc := defScope st_Lpossible) (by decide +kernel)) (fun _ _ _ _ _ => (dg_name 3 sc_Lpossible.nd)) (by decide) (fun _ _ _ _ _ => (dts_one (dt_tru (se (de_cb (cd_any rfl) (by rfl) T.any (by decide +kernel) (das_cons (se (de_o (oe_lc [("one", 4)] rfl sc_Lpossible.nd (dis (se_var 0)) (blkOk_by (by rfl)) (fun _ _ _ _ _ => (dg_name 4 sc_Lpossible.nd)) (by decide) (fun _ _ _ _ _ => dts_nil) (fun _ _ _ _ _ => (de_call C_Lhas hr (by decide) (by rfl) (da_cons (de_var 4) (da_cons (de_var 3) da_nil))))))) das_nil)))))) (fun _ _ _ _ _ => (de_var 3))))))), b, m, F.kp⟩
theorem cal_Lgreedy (T : Bn mg) (C_Lhas : Cal P w K mg base "_law_has" 1 2 G_Lhas) {f : Addr} {fd : FuncData} (F : Fun K "_law_greedy" "_law_greedy" st_Lgreedy f fd) (b : Binds K fd ["valid", "settings_v"] []) (m : mg "_law_greedy" = some (.ref f)) : Cal P w K mg base "_law_greedy" 2 2 G_Lgreedy :=
  ⟨f, fd, _, fn_p F sc_Lgreedy rfl (by decide) (fun cdv A o s H E hr => by
    have hu := hu2 hr
    exact (dss_cons (ds_set 2 sc_Lgreedy.nd (de_o (oe_ct co_list (by rfl) T.list PyProof.Rows.boot_list (das_cons (se_var 1) das_nil))))
      (dss_cons (ds_setO 3 sc_Lgreedy.nd (oe_lst da_nil))
      (dss_cons (ds_for PassesOwn.never rfl (di_range1 (by rfl) T.range (das_cons (se (de_cb (cd_len) (by rfl) T.len PySem.boot_len (das_cons (se_var 1) das_nil))) das_nil)) (dg_name 4 sc_Lgreedy.nd) (dss_one (ds_if (dt_cmp (od_ne hu) (se_var 2) (se (de_o (oe_lst da_nil)))) (dss_cons (ds_lc 5 [("one", 6)] rfl sc_Lgreedy.nd (sw_true rfl rfl rfl (by decide +kernel)) (dis (se_var 0)) (blkOk_by (N := N_Lgreedy) (sc := defScope st_Lgreedy) (by decide +kernel)) (fun _ _ _ _ _ => (dg_name 6 sc_Lgreedy.nd)) (by decide) (fun _ _ _ _ _ => dts_nil) (fun _ _ _ _ _ => (de_cb (cd_len) (by rfl) T.len PySem.boot_len (das_cons (se (de_o (oe_lc [("setting", 7)] rfl sc_Lgreedy.nd (dis (se_var 2)) (blkOk_by (by rfl)) (fun _ _ _ _ _ => (dg_name 7 sc_Lgreedy.nd)) (by decide) (fun _ _ _ _ _ => (dts_one (dt_tru (se (de_call C_Lhas hr (by decide) (by rfl) (da_cons (de_var 6) (da_cons (de_var 7) da_nil))))))) (fun _ _ _ _ _ => (de_var 7))))) das_nil))))
      (dss_cons (ds_set 6 sc_Lgreedy.nd (de_ix xd_ix (se_var 0) (se (de_index hu (pe_bm PySem.F.plainAttrs_list PySem.F.slot_list_index PySem.F.type_list_index (mt_indexD (hu65 hu)) (de_var 5) (pa_cons (se (de_cb (cd_maxL rfl hu) (by rfl) T.max (by decide +kernel) (das_cons (se_var 5) das_nil))) pa_nil))))))
      (dss_cons (ds_append (ps_expr (pe_bm PySem.F.plainAttrs_list PySem.F.slot_list_append PySem.F.type_list_append mt_append (pv 3) (pa_cons (de_var 6) pa_nil))))
      (dss_one (ds_set 2 sc_Lgreedy.nd (de_o (oe_lc [("setting", 7)] rfl sc_Lgreedy.nd (dis (se_var 2)) (blkOk_by (N := N_Lgreedy) (sc := defScope st_Lgreedy) (by decide +kernel)) (fun _ _ _ _ _ => (dg_name 7 sc_Lgreedy.nd)) (by decide) (fun _ _ _ _ _ => (dts_one (dt_not (dt_tru (se (de_call C_Lhas hr (by decide) (by rfl) (da_cons (de_var 6) (da_cons (de_var 7) da_nil)))))))) (fun _ _ _ _ _ => (de_var 7))))))))) dss_nil)))
      (dss_one (ds_ret (de_ct (cd_tuple) (by rfl) T.tuple PyProof.Rows.boot_tuple (das_cons (se (de_o (oe_cb (co_sortedT hu) (by rfl) T.sorted PyProof.Rows.boot_sorted (das_cons (se_var 3) das_nil)))) das_nil)))))))), b, m, F.kp⟩
theorem cal_Lholds (T : Bn mg) {f : Addr} {fd : FuncData} (F : Fun K "_law_holds" "_law_holds" st_Lholds f fd) (b : Binds K fd ["diagram", "configuration"] []) (m : mg "_law_holds" = some (.ref f)) : Cal P w K mg base "_law_holds" 1 2 G_Lholds :=
  ⟨f, fd, _, fn_p F sc_Lholds rfl (by decide) (fun cdv A o s H E hr => by
    have hu := hu2 hr
    exact (dss_cons (ds_for PassesOwn.never rfl (di_range1 (by rfl) T.range (das_cons (se (de_cb (cd_len) (by rfl) T.len PySem.boot_len (das_cons (se_var 1) das_nil))) das_nil)) (dg_name 2 sc_Lholds.nd) (dss_one (ds_if (PW.pt (dw_and (dt_tru (se (de_isi kit_tuple (se_var 0) (by rfl) T.isinstance (by rfl) T.tuple PyProof.Rows.boot_tuple))) (dw_and1 (dt_cmp (od_eq hu) (se (de_ix xd_ix (se_var 0) (se de_int))) (se_var 2))))) (dss_one (ds_set 0 sc_Lholds.nd (de_ix xd_ix (se_var 0) (se (de_bin od_add (se de_int) (se (de_ix xd_ix (se_var 1) (se_var 2)))))))) dss_nil)))
      (dss_one (ds_ret (de_var 0))))), b, m, F.kp⟩
theorem cal_chosen (T : Bn mg) {f : Addr} {fd : FuncData} (F : Fun K "chosen" "chosen" st_chosen f fd) (b : Binds K fd ["d", "count"] []) (m : mg "chosen" = some (.ref f)) : Cal P w K mg base "chosen" 1 2 G_chosen :=
  ⟨f, fd, _, fn_p F sc_chosen rfl (by decide) (fun cdv A o s H E hr => by
    have hu := hu2 hr
    exact (dss_cons (ds_set 2 sc_chosen.nd (de_o (oe_lst (da_cons (de_tup (da_cons (de_tup da_nil) (da_cons (de_var 0) da_nil))) da_nil))))
      (dss_cons (ds_for PassesOwn.never rfl (di_range1 (by rfl) T.range (das_cons (se_var 1) das_nil)) (dg_name 3 sc_chosen.nd) (dss_cons (ds_setO 4 sc_chosen.nd (oe_lst da_nil))
      (dss_cons (ds_for PassesOwn.never rfl (di (de_var 2)) (dg_tup rfl (dgs_cons (dg_name 5 sc_chosen.nd) (dgs_cons (dg_name 6 sc_chosen.nd) dgs_nil)) (gl_cons (gl_cons gl_nil))) (dss_one (ds_for PassesOwn.never rfl (di (de_tup (da_cons de_int (da_cons de_int da_nil)))) (dg_name 7 sc_chosen.nd) (dss_cons (ds_set 8 sc_chosen.nd (de_if (PW.pt (dw_and (dt_tru (se (de_isi kit_tuple (se_var 6) (by rfl) T.isinstance (by rfl) T.tuple PyProof.Rows.boot_tuple))) (dw_and1 (dt_cmp (od_eq hu) (se (de_ix xd_ix (se_var 6) (se de_int))) (se_var 3))))) (de_ix xd_ix (se_var 6) (se (de_bin od_add (se de_int) (se_var 7)))) (de_var 6)))
      (dss_one (ds_if (dt_cmp (od_isnot) (se_var 8) (se de_bl)) (dss_one (ds_append (ps_expr (pe_bm PySem.F.plainAttrs_list PySem.F.slot_list_append PySem.F.type_list_append mt_append (pv 4) (pa_cons (de_tup (da_cons (de_bin od_add (se_var 5) (se (de_tup (da_cons (de_var 7) da_nil)))) (da_cons (de_var 8) da_nil))) pa_nil))))) dss_nil))))))
      (dss_one (ds_frz 4 (ds_set 2 sc_chosen.nd (de_var 4)))))))
      (dss_one (ds_ret (de_o (oe_lc [("configuration", 5), ("rest", 6)] rfl sc_chosen.nd (dis (se_var 2)) (blkOk_by (N := N_chosen) (sc := defScope st_chosen) (by decide +kernel)) (fun _ _ _ _ _ => (dg_tup rfl (dgs_cons (dg_name 5 sc_chosen.nd) (dgs_cons (dg_name 6 sc_chosen.nd) dgs_nil)) (gl_cons (gl_cons gl_nil)))) (by decide) (fun _ _ _ _ _ => (dts_one (dt_cmp (od_is) (se_var 6) (se de_bl)))) (fun _ _ _ _ _ => (de_var 5))))))))), b, m, F.kp⟩
theorem cal_settings (T : Bn mg) {f : Addr} {fd : FuncData} (F : Fun K "settings" "settings" st_settings f fd) (b : Binds K fd ["n", "t"] []) (m : mg "settings" = some (.ref f)) : Cal P w K mg base "settings" 1 2 G_settings :=
  ⟨f, fd, _, fn_p F sc_settings rfl (by decide) (fun cdv A o s H E hr => by
    have hu := hu2 hr
    exact (dss_cons (ds_set 2 sc_settings.nd (de_o (oe_lst (da_cons (de_tup da_nil) da_nil))))
      (dss_cons (ds_for PassesOwn.never rfl (di_range1 (by rfl) T.range (das_cons (se_var 1) das_nil)) (dg_name 3 sc_settings.nd) (dss_cons (ds_setO 4 sc_settings.nd (oe_lst da_nil))
      (dss_cons (ds_for PassesOwn.never rfl (di (de_var 2)) (dg_name 5 sc_settings.nd) (dss_cons (ds_set 6 sc_settings.nd (de_if (dt_tru (se_var 5)) (de_bin od_add (se (de_ix xd_ix (se (de_ix xd_ix (se_var 5) (se (de_un ud_neg (se de_int))))) (se de_int))) (se de_int)) de_int))
      (dss_one (ds_extend (ps_expr (pe_bm PySem.F.plainAttrs_list PySem.F.slot_list_extend PySem.F.type_list_extend mt_extend (pv 4) (pa_cons (se (de_o (oe_lc2 [("i", 7), ("v", 8)] [8] rfl sc_settings.nd (dio (di_range2 (by rfl) T.range (das_cons (se_var 6) (das_cons (se_var 0) das_nil)))) (blkOk_by (N := N_settings) (sc := defScope st_settings) (by decide +kernel)) (by decide) (fun _ _ _ _ _ => (dg_name 7 sc_settings.nd)) (by decide) (noOwn_set 7) (fun _ _ _ _ _ => dts_nil) (fun _ _ _ _ _ => (di (de_tup (da_cons de_int (da_cons de_int da_nil))))) (fun _ _ _ _ _ => (dg_name 8 sc_settings.nd)) (by decide) (fun _ _ _ _ _ => dts_nil) (fun _ _ _ _ _ => (de_bin od_add (se_var 5) (se (de_tup (da_cons (de_tup (da_cons (de_var 7) (da_cons (de_var 8) da_nil))) da_nil)))))))) pa_nil)))))))
      (dss_one (ds_frz 4 (ds_set 2 sc_settings.nd (de_var 4)))))))
      (dss_one (ds_ret (de_var 2)))))), b, m, F.kp⟩
theorem cal_has (T : Bn mg) {f : Addr} {fd : FuncData} (F : Fun K "has" "has" st_has f fd) (b : Binds K fd ["configuration", "setting"] []) (m : mg "has" = some (.ref f)) : Cal P w K mg base "has" 1 2 G_has :=
  ⟨f, fd, _, fn_p F sc_has rfl (by decide) (fun cdv A o s H E hr => by
    have hu := hu2 hr
    exact (dss_one (ds_ret (de_cb (cd_all rfl) (by rfl) T.all (by decide +kernel) (das_cons (se (de_o (oe_lc [("i", 2), ("v", 3)] rfl sc_has.nd (dis (se_var 1)) (blkOk_by (N := N_has) (sc := defScope st_has) (by decide +kernel)) (fun _ _ _ _ _ => (dg_tup rfl (dgs_cons (dg_name 2 sc_has.nd) (dgs_cons (dg_name 3 sc_has.nd) dgs_nil)) (gl_cons (gl_cons gl_nil)))) (by decide) (fun _ _ _ _ _ => dts_nil) (fun _ _ _ _ _ => (de_cmp (od_eq hu) (se (de_ix xd_ix (se_var 0) (se_var 2))) (se_var 3)))))) das_nil))))), b, m, F.kp⟩
theorem cal_possible (T : Bn mg) (C_chosen : Cal P w K mg base "chosen" 1 2 G_chosen) (C_settings : Cal P w K mg base "settings" 1 2 G_settings) (C_has : Cal P w K mg base "has" 1 2 G_has) {f : Addr} {fd : FuncData} (F : Fun K "possible" "possible" st_possible f fd) (b : Binds K fd ["d", "n", "t"] []) (m : mg "possible" = some (.ref f)) : Cal P w K mg base "possible" 2 3 G_possible :=
  ⟨f, fd, _, fn_p F sc_possible rfl (by decide) (fun cdv A o s H E hr => by
    have hu := hu2 hr
    exact (dss_cons (ds_set 3 sc_possible.nd (de_call C_chosen hr (by decide) (by rfl) (da_cons (de_var 0) (da_cons (de_var 1) da_nil))))
      (dss_one (ds_ret (de_o (oe_lc [("setting", 4)] rfl sc_possible.nd (dis (se (de_call C_settings hr (by decide) (by rfl) (da_cons (de_var 1) (da_cons (de_var 2) da_nil))))) (blkOk_by (N := N_possible) (sc := defScope st_possible) (by decide +kernel)) (fun _ _ _ _ _ => (dg_name 4 sc_possible.nd)) (by decide) (fun _ _ _ _ _ => (dts_one (dt_tru (se (de_cb (cd_any rfl) (by rfl) T.any (by decide +kernel) (das_cons (se (de_o (oe_lc [("one", 5)] rfl sc_possible.nd (dis (se_var 3)) (blkOk_by (by rfl)) (fun _ _ _ _ _ => (dg_name 5 sc_possible.nd)) (by decide) (fun _ _ _ _ _ => dts_nil) (fun _ _ _ _ _ => (de_call C_has hr (by decide) (by rfl) (da_cons (de_var 5) (da_cons (de_var 4) da_nil))))))) das_nil)))))) (fun _ _ _ _ _ => (de_var 4)))))))), b, m, F.kp⟩
theorem cal_holds (T : Bn mg) {f : Addr} {fd : FuncData} (F : Fun K "holds" "holds" st_holds f fd) (b : Binds K fd ["d", "configuration"] []) (m : mg "holds" = some (.ref f)) : Cal P w K mg base "holds" 1 2 G_holds :=
  ⟨f, fd, _, fn_p F sc_holds rfl (by decide) (fun cdv A o s H E hr => by
    have hu := hu2 hr
    exact (dss_cons (ds_while PassesOwn.never (dt_tru (se (de_isi kit_tuple (se_var 0) (by rfl) T.isinstance (by rfl) T.tuple PyProof.Rows.boot_tuple))) (dss_one (ds_set 0 sc_holds.nd (de_ix xd_ix (se_var 0) (se (de_bin od_add (se de_int) (se (de_ix xd_ix (se_var 1) (se (de_ix xd_ix (se_var 0) (se de_int)))))))))))
      (dss_one (ds_ret (de_var 0))))), b, m, F.kp⟩
theorem cal_is_configuration (T : Bn mg) (C_holds : Cal P w K mg base "holds" 1 2 G_holds) {f : Addr} {fd : FuncData} (F : Fun K "is_configuration" "is_configuration" st_is_configuration f fd) (b : Binds K fd ["d", "n", "value"] []) (m : mg "is_configuration" = some (.ref f)) : Cal P w K mg base "is_configuration" 2 3 G_is_configuration :=
  ⟨f, fd, _, fn_p F sc_is_configuration rfl (by decide) (fun cdv A o s H E hr => by
    have hu := hu2 hr
    exact (dss_cons (ds_if (PW.pt (dw_or (dt_not (dt_tru (se (de_isi kit_tuple (se_var 2) (by rfl) T.isinstance (by rfl) T.tuple PyProof.Rows.boot_tuple)))) (dw_or1 (dt_cmp (od_ne hu) (se (de_cb (cd_len) (by rfl) T.len PySem.boot_len (das_cons (se_var 2) das_nil))) (se_var 1))))) (dss_one (ds_ret de_bl)) dss_nil)
      (dss_cons (ds_if (dt_not (dt_tru (se (de_cb (cd_all rfl) (by rfl) T.all (by decide +kernel) (das_cons (se (de_o (oe_lc [("bit", 3)] rfl sc_is_configuration.nd (dis (se_var 2)) (blkOk_by (N := N_is_configuration) (sc := defScope st_is_configuration) (by decide +kernel)) (fun _ _ _ _ _ => (dg_name 3 sc_is_configuration.nd)) (by decide) (fun _ _ _ _ _ => dts_nil) (fun _ _ _ _ _ => (de_and (de_isi kit_int (se_var 3) (by rfl) T.isinstance (by rfl) T.int PyProof.Rows.boot_int) (de_and (de_not (se (de_isi kit_bool (se_var 3) (by rfl) T.isinstance (by rfl) T.bool PyProof.Rows.boot_bool))) (de_one (de_cmp (od_in hu) (se_var 3) (se (de_tup (da_cons de_int (da_cons de_int da_nil)))))))))))) das_nil))))) (dss_one (ds_ret de_bl)) dss_nil)
      (dss_one (ds_ret (de_cmp (od_is) (se (de_call C_holds hr (by decide) (by rfl) (da_cons (de_var 0) (da_cons (de_var 2) da_nil)))) (se de_bl))))))), b, m, F.kp⟩
theorem cal_is_sample (T : Bn mg) (C_is_configuration : Cal P w K mg base "is_configuration" 2 3 G_is_configuration) {f : Addr} {fd : FuncData} (F : Fun K "is_sample" "is_sample" st_is_sample f fd) (b : Binds K fd ["d", "n", "value"] []) (m : mg "is_sample" = some (.ref f)) : Cal P w K mg base "is_sample" 3 3 G_is_sample :=
  ⟨f, fd, _, fn_p F sc_is_sample rfl (by decide) (fun cdv A o s H E hr => by
    have hu := hu2 hr
    exact (dss_cons (ds_if (PW.pt (dw_or (dt_not (dt_tru (se (de_isi kit_tuple (se_var 2) (by rfl) T.isinstance (by rfl) T.tuple PyProof.Rows.boot_tuple)))) (dw_or1 (dt_not (dt_tru (se (de_cb (cd_all rfl) (by rfl) T.all (by decide +kernel) (das_cons (se (de_o (oe_lc [("one", 3)] rfl sc_is_sample.nd (dis (se_var 2)) (blkOk_by (N := N_is_sample) (sc := defScope st_is_sample) (by decide +kernel)) (fun _ _ _ _ _ => (dg_name 3 sc_is_sample.nd)) (by decide) (fun _ _ _ _ _ => dts_nil) (fun _ _ _ _ _ => (de_call C_is_configuration hr (by decide) (by rfl) (da_cons (de_var 0) (da_cons (de_var 1) (da_cons (de_var 3) da_nil)))))))) das_nil)))))))) (dss_one (ds_ret de_bl)) dss_nil)
      (dss_one (ds_ret (de_cb (cd_all rfl) (by rfl) T.all (by decide +kernel) (das_cons (se (de_o (oe_lc [("k", 4)] rfl sc_is_sample.nd (dio (di_range1 (by rfl) T.range (das_cons (se (de_bin od_sub (se (de_cb (cd_len) (by rfl) T.len PySem.boot_len (das_cons (se_var 2) das_nil))) (se de_int))) das_nil))) (blkOk_by (N := N_is_sample) (sc := defScope st_is_sample) (by decide +kernel)) (fun _ _ _ _ _ => (dg_name 4 sc_is_sample.nd)) (by decide) (fun _ _ _ _ _ => dts_nil) (fun _ _ _ _ _ => (de_cmp (od_ltD hu) (se (de_ix xd_ix (se_var 2) (se_var 4))) (se (de_ix xd_ix (se_var 2) (se (de_bin od_add (se_var 4) (se de_int)))))))))) das_nil)))))), b, m, F.kp⟩
theorem cal_open_settings (T : Bn mg) (C_possible : Cal P w K mg base "possible" 2 3 G_possible) (C_has : Cal P w K mg base "has" 1 2 G_has) {f : Addr} {fd : FuncData} (F : Fun K "open_settings" "open_settings" st_open_settings f fd) (b : Binds K fd ["d", "n", "t", "taken"] []) (m : mg "open_settings" = some (.ref f)) : Cal P w K mg base "open_settings" 3 4 G_open_settings :=
  ⟨f, fd, _, fn_p F sc_open_settings rfl (by decide) (fun cdv A o s H E hr => by
    have hu := hu2 hr
    exact (dss_one (ds_ret (de_o (oe_lc [("setting", 4)] rfl sc_open_settings.nd (dis (se (de_call C_possible hr (by decide) (by rfl) (da_cons (de_var 0) (da_cons (de_var 1) (da_cons (de_var 2) da_nil)))))) (blkOk_by (N := N_open_settings) (sc := defScope st_open_settings) (by decide +kernel)) (fun _ _ _ _ _ => (dg_name 4 sc_open_settings.nd)) (by decide) (fun _ _ _ _ _ => (dts_one (dt_not (dt_tru (se (de_cb (cd_any rfl) (by rfl) T.any (by decide +kernel) (das_cons (se (de_o (oe_lc [("one", 5)] rfl sc_open_settings.nd (dis (se_var 3)) (blkOk_by (by rfl)) (fun _ _ _ _ _ => (dg_name 5 sc_open_settings.nd)) (by decide) (fun _ _ _ _ _ => dts_nil) (fun _ _ _ _ _ => (de_call C_has hr (by decide) (by rfl) (da_cons (de_var 5) (da_cons (de_var 4) da_nil))))))) das_nil))))))) (fun _ _ _ _ _ => (de_var 4))))))), b, m, F.kp⟩
theorem cal_covers_size (T : Bn mg) (C_open_settings : Cal P w K mg base "open_settings" 3 4 G_open_settings) {f : Addr} {fd : FuncData} (F : Fun K "covers_size" "covers_size" st_covers_size f fd) (b : Binds K fd ["d", "n", "t", "sample"] []) (m : mg "covers_size" = some (.ref f)) : Cal P w K mg base "covers_size" 4 4 G_covers_size :=
  ⟨f, fd, _, fn_p F sc_covers_size rfl (by decide) (fun cdv A o s H E hr => by
    have hu := hu2 hr
    exact (dss_one (ds_ret (de_cmp (od_eq hu) (se (de_call C_open_settings hr (by decide) (by rfl) (da_cons (de_var 0) (da_cons (de_var 1) (da_cons (de_var 2) (da_cons (de_var 3) da_nil)))))) (se (de_o (oe_lst da_nil))))))), b, m, F.kp⟩
theorem cal_greedy_sample (T : Bn mg) (C_open_settings : Cal P w K mg base "open_settings" 3 4 G_open_settings) (C_chosen : Cal P w K mg base "chosen" 1 2 G_chosen) (C_has : Cal P w K mg base "has" 1 2 G_has) {f : Addr} {fd : FuncData} (F : Fun K "greedy_sample" "greedy_sample" st_greedy_sample f fd) (b : Binds K fd ["d", "n", "t"] []) (m : mg "greedy_sample" = some (.ref f)) : Cal P w K mg base "greedy_sample" 4 3 G_greedy_sample :=
  ⟨f, fd, _, fn_p F sc_greedy_sample rfl (by decide) (fun cdv A o s H E hr => by
    have hu := hu2 hr
    exact (dss_cons (ds_setO 3 sc_greedy_sample.nd (oe_lst da_nil))
      (dss_cons (ds_set 4 sc_greedy_sample.nd (de_lend 3 (de_call C_open_settings hr (by decide) (by rfl) (da_cons (de_var 0) (da_cons (de_var 1) (da_cons (de_var 2) (da_cons (de_var 3) da_nil)))))))
      (dss_cons (ds_while PassesOwn.never (dt_tru (se_var 4)) (dss_cons (ds_lc 5 [("one", 6)] rfl sc_greedy_sample.nd (sw_true rfl rfl rfl (by decide +kernel)) (dis (se (de_call C_chosen hr (by decide) (by rfl) (da_cons (de_var 0) (da_cons (de_var 1) da_nil))))) (blkOk_by (N := N_greedy_sample) (sc := defScope st_greedy_sample) (by decide +kernel)) (fun _ _ _ _ _ => (dg_name 6 sc_greedy_sample.nd)) (by decide) (fun _ _ _ _ _ => dts_nil) (fun _ _ _ _ _ => (de_tup (da_cons (de_un ud_neg (se (de_cb (cd_len) (by rfl) T.len PySem.boot_len (das_cons (se (de_o (oe_lc [("setting", 7)] rfl sc_greedy_sample.nd (dis (se_var 4)) (blkOk_by (by rfl)) (fun _ _ _ _ _ => (dg_name 7 sc_greedy_sample.nd)) (by decide) (fun _ _ _ _ _ => (dts_one (dt_tru (se (de_call C_has hr (by decide) (by rfl) (da_cons (de_var 6) (da_cons (de_var 7) da_nil))))))) (fun _ _ _ _ _ => (de_var 7))))) das_nil)))) (da_cons (de_var 6) da_nil)))))
      (dss_cons (ds_append (ps_expr (pe_bm PySem.F.plainAttrs_list PySem.F.slot_list_append PySem.F.type_list_append mt_append (pv 3) (pa_cons (de_ix xd_ix (se (de_cb (cd_minL rfl hu) (by rfl) T.min (by decide +kernel) (das_cons (se_var 5) das_nil))) (se de_int)) pa_nil))))
      (dss_one (ds_set 4 sc_greedy_sample.nd (de_lend 3 (de_call C_open_settings hr (by decide) (by rfl) (da_cons (de_var 0) (da_cons (de_var 1) (da_cons (de_var 2) (da_cons (de_var 3) da_nil)))))))))))
      (dss_one (ds_ret (de_ct (cd_tuple) (by rfl) T.tuple PyProof.Rows.boot_tuple (das_cons (se (de_o (oe_cb (co_sortedT hu) (by rfl) T.sorted PyProof.Rows.boot_sorted (das_cons (se_var 3) das_nil)))) das_nil)))))))), b, m, F.kp⟩
theorem cal_Lbad (T : Bn mg) (C_Lconfigs : Cal P w K mg base "_law_configs" 1 1 G_Lconfigs) (C_Ldraw : CalB P w K mg base "_law_draw" 2 2 G_Ldraw) {f : Addr} {fd : FuncData} (F : Fun K "_law_bad" "_law_bad" st_Lbad f fd) (b : Binds K fd ["box", "n", "valid", "sample"] []) (m : mg "_law_bad" = some (.ref f)) : CalB P w K mg base "_law_bad" 3 4 G_Lbad :=
  ⟨f, fd, _, fn_b F sc_Lbad rfl (by decide) (fun cdv A o s H E hr => by
    have hu := hu2 hr
    exact (dss_cons (ds_lc 4 [("one", 5)] rfl sc_Lbad.nd (sw_true rfl rfl rfl (by decide +kernel)) (dis (se (de_call C_Lconfigs hr (by decide) (by rfl) (da_cons (de_var 1) da_nil)))) (blkOk_by (N := N_Lbad) (sc := defScope st_Lbad) (by decide +kernel)) (fun _ _ _ _ _ => (dg_name 5 sc_Lbad.nd)) (by decide) (fun _ _ _ _ _ => (dts_one (dt_cmp (od_notin hu) (se_var 5) (se_var 2)))) (fun _ _ _ _ _ => (de_var 5)))
      (dss_cons (ds_setO 6 sc_Lbad.nd (oe_lst (da_cons de_non (da_cons de_int (da_cons de_str (da_cons (de_bin od_add (se_var 3) (se (de_tup (da_cons de_non da_nil)))) (da_cons (de_bin od_add (se_var 3) (se (de_tup (da_cons (de_tup da_nil) da_nil)))) (da_cons (de_bin od_add (se_var 3) (se (de_tup (da_cons (de_bin od_mulT (se (de_tup (da_cons de_int da_nil))) (se_var 1)) da_nil)))) (da_cons (de_tup (da_cons (de_bin od_mulT (se (de_tup (da_cons de_bl da_nil))) (se_var 1)) da_nil)) (da_cons (de_tup (da_cons (de_bin od_mulT (se (de_tup (da_cons de_int da_nil))) (se (de_bin od_add (se_var 1) (se de_int)))) da_nil)) (da_cons (de_tup (da_cons de_int da_nil)) (da_cons (de_bin od_add (se_var 3) (se (de_sl (se_var 3) (dp_so (de_un ud_neg (se de_int))) dp_no))) (da_cons (de_bin od_add (se (de_revT (se_var 3))) (se (de_sl (se_var 3) dp_no (dp_so de_int)))) (da_cons (de_tup (da_cons (de_bin od_mulT (se (de_tup (da_cons de_str da_nil))) (se_var 1)) da_nil)) da_nil))))))))))))))
      (dss_cons (ds_if (dt_cmp (od_ne hu) (se_var 4) (se (de_o (oe_lst da_nil)))) (dss_one (ds_append (ps_expr (pe_bm PySem.F.plainAttrs_list PySem.F.slot_list_append PySem.F.type_list_append mt_append (pv 6) (pa_cons (de_ct (cd_tuple) (by rfl) T.tuple PyProof.Rows.boot_tuple (das_cons (se (de_o (oe_cb (co_sortedT hu) (by rfl) T.sorted PyProof.Rows.boot_sorted (das_cons (se (de_bin od_add (se_var 3) (se (de_tup (da_cons (de_ix xd_ix (se_var 4) (se (de_callB 0 C_Ldraw hr (by decide) (by rfl) (da_cons (de_cb (cd_len) (by rfl) T.len PySem.boot_len (das_cons (se_var 4) das_nil)) da_nil)))) da_nil))))) das_nil)))) das_nil)) pa_nil))))) dss_nil)
      (dss_cons (ds_set 7 sc_Lbad.nd (de_ix xd_ix (se_var 6) (se (de_callB 0 C_Ldraw hr (by decide) (by rfl) (da_cons (de_cb (cd_len) (by rfl) T.len PySem.boot_len (das_cons (se_var 6) das_nil)) da_nil)))))
      (dss_one (ds_ret (de_if (dt_cmp (od_ne hu) (se_var 7) (se (de_tup da_nil))) (de_var 7) de_non)))))))), b, m, F.kp⟩
theorem body_law (T : Bn mg) (C_Ldraw : CalB P w K mg base "_law_draw" 2 2 G_Ldraw) (C_Lsome : CalB P w K mg base "_law_some" 15 3 G_Lsome) (C_Lconfigs : Cal P w K mg base "_law_configs" 1 1 G_Lconfigs) (C_Lholds : Cal P w K mg base "_law_holds" 1 2 G_Lholds) (C_Lpossible : Cal P w K mg base "_law_possible" 2 3 G_Lpossible) (C_Lsame : Cal P w K mg base "_law_same" 8 2 (G_Lsame 8)) (C_possible : Cal P w K mg base "possible" 2 3 G_possible) (C_is_sample : Cal P w K mg base "is_sample" 3 3 G_is_sample) (C_Lbad : CalB P w K mg base "_law_bad" 3 4 G_Lbad) (C_Lhas : Cal P w K mg base "_law_has" 1 2 G_Lhas) (C_covers_size : Cal P w K mg base "covers_size" 4 4 G_covers_size) (C_Lgreedy : Cal P w K mg base "_law_greedy" 2 2 G_Lgreedy) (C_greedy_sample : Cal P w K mg base "greedy_sample" 4 3 G_greedy_sample) {f : Addr} {cdv : Value} {A : Around} {o : List PySem.Env} {s : Shared} {H : Hp} {E : XK} (hr : Room 15 (A.deeper (PyProof.Rows.envOfC "law" (defScope st_law) s.heap.objs.size f cdv))) : PSs (cxOf CX0 P w K mg base N_law "law" (defScope st_law) f cdv A o s H E).nox ((defBody st_law).drop 1) (tSt K s_law) := by
  have hu := hu2 hr
  exact (dss_cons (ds_set 2 sc_law.nd (de_bin od_add (se de_int) (se (de_callB 1 C_Ldraw hr (by decide) (by rfl) (da_cons de_int da_nil)))))
      (dss_cons (ds_set 3 sc_law.nd (de_callB 1 C_Lsome hr (by decide) (by rfl) (da_cons (de_var 2) (da_cons de_int da_nil))))
      (dss_cons (ds_lc 4 [("one", 5)] rfl sc_law.nd (sw_true rfl rfl rfl (by decide +kernel)) (dis (se (de_call C_Lconfigs hr (by decide) (by rfl) (da_cons (de_var 2) da_nil)))) (blkOk_by (N := N_law) (sc := defScope st_law) (by decide +kernel)) (fun _ _ _ _ _ => (dg_name 5 sc_law.nd)) (by decide) (fun _ _ _ _ _ => (dts_one (dt_tru (se (de_call C_Lholds hr (by decide) (by rfl) (da_cons (de_var 3) (da_cons (de_var 5) da_nil))))))) (fun _ _ _ _ _ => (de_var 5)))
      (dss_cons (ds_set 6 sc_law.nd (de_bin od_add (se de_int) (se (de_callB 1 C_Ldraw hr (by decide) (by rfl) (da_cons (de_var 2) da_nil)))))
      (dss_cons (ds_set 7 sc_law.nd (de_call C_Lpossible hr (by decide) (by rfl) (da_cons (de_var 4) (da_cons (de_var 2) (da_cons (de_var 6) da_nil)))))
      (dss_cons (ds_if (dt_not (dt_tru (se (de_call C_Lsame hr (by decide) (by rfl) (da_cons (de_call C_possible hr (by decide) (by rfl) (da_cons (de_var 3) (da_cons (de_var 2) (da_cons (de_var 6) da_nil)))) (da_cons (de_var 7) da_nil)))))) (dss_one (ds_ret de_bl)) dss_nil)
      (dss_cons (ds_set 8 sc_law.nd (de_bin od_add (se de_int) (se (de_callB 1 C_Ldraw hr (by decide) (by rfl) (da_cons de_int da_nil)))))
      (dss_cons (ds_set 9 sc_law.nd (de_ct (cd_tuple) (by rfl) T.tuple PyProof.Rows.boot_tuple (das_cons (se (de_o (oe_lc [("one", 5)] rfl sc_law.nd (dis (se_var 4)) (blkOk_by (N := N_law) (sc := defScope st_law) (by decide +kernel)) (fun _ _ _ _ _ => (dg_name 5 sc_law.nd)) (by decide) (fun _ _ _ _ _ => (dts_one (dt_cmp (od_eq hu) (se (de_callB 1 C_Ldraw hr (by decide) (by rfl) (da_cons (de_var 8) da_nil))) (se de_int)))) (fun _ _ _ _ _ => (de_var 5))))) das_nil)))
      (dss_cons (ds_if (PW.pt (dw_or (dt_cmp (od_isnot) (se (de_call C_is_sample hr (by decide) (by rfl) (da_cons (de_var 3) (da_cons (de_var 2) (da_cons (de_var 9) da_nil))))) (se de_bl)) (dw_or1 (dt_cmp (od_isnot) (se (de_call C_is_sample hr (by decide) (by rfl) (da_cons (de_var 3) (da_cons (de_var 2) (da_cons (de_callB 1 C_Lbad hr (by decide) (by rfl) (da_cons (de_var 2) (da_cons (de_var 4) (da_cons (de_var 9) da_nil)))) da_nil))))) (se de_bl))))) (dss_one (ds_ret de_bl)) dss_nil)
      (dss_cons (ds_set 10 sc_law.nd (de_cb (cd_all rfl) (by rfl) T.all (by decide +kernel) (das_cons (se (de_o (oe_lc [("setting", 11)] rfl sc_law.nd (dis (se_var 7)) (blkOk_by (N := N_law) (sc := defScope st_law) (by decide +kernel)) (fun _ _ _ _ _ => (dg_name 11 sc_law.nd)) (by decide) (fun _ _ _ _ _ => dts_nil) (fun _ _ _ _ _ => (de_cb (cd_any rfl) (by rfl) T.any (by decide +kernel) (das_cons (se (de_o (oe_lc [("one", 5)] rfl sc_law.nd (dis (se_var 9)) (blkOk_by (by rfl)) (fun _ _ _ _ _ => (dg_name 5 sc_law.nd)) (by decide) (fun _ _ _ _ _ => dts_nil) (fun _ _ _ _ _ => (de_call C_Lhas hr (by decide) (by rfl) (da_cons (de_var 5) (da_cons (de_var 11) da_nil))))))) das_nil)))))) das_nil)))
      (dss_cons (ds_if (dt_not (dt_tru (se (de_call C_Lsame hr (by decide) (by rfl) (da_cons (de_call C_covers_size hr (by decide) (by rfl) (da_cons (de_var 3) (da_cons (de_var 2) (da_cons (de_var 6) (da_cons (de_var 9) da_nil))))) (da_cons (de_var 10) da_nil)))))) (dss_one (ds_ret de_bl)) dss_nil)
      (dss_cons (ds_if (PW.pt (dw_and (dt_tru (se_var 10)) (dw_and1 (dt_not (dt_tru (se (de_cb (cd_all rfl) (by rfl) T.all (by decide +kernel) (das_cons (se (de_o (oe_lc [("less", 12)] rfl sc_law.nd (dio (di_range2 (by rfl) T.range (das_cons (se de_int) (das_cons (se_var 6) das_nil)))) (blkOk_by (N := N_law) (sc := defScope st_law) (by decide +kernel)) (fun _ _ _ _ _ => (dg_name 12 sc_law.nd)) (by decide) (fun _ _ _ _ _ => dts_nil) (fun _ _ _ _ _ => (de_cmp (od_is) (se (de_call C_covers_size hr (by decide) (by rfl) (da_cons (de_var 3) (da_cons (de_var 2) (da_cons (de_var 12) (da_cons (de_var 9) da_nil)))))) (se de_bl)))))) das_nil)))))))) (dss_one (ds_ret de_bl)) dss_nil)
      (dss_cons (ds_set 13 sc_law.nd (de_call C_Lgreedy hr (by decide) (by rfl) (da_cons (de_var 4) (da_cons (de_var 7) da_nil))))
      (dss_one (ds_ret (de_and (de_call C_Lsame hr (by decide) (by rfl) (da_cons (de_call C_greedy_sample hr (by decide) (by rfl) (da_cons (de_var 3) (da_cons (de_var 2) (da_cons (de_var 6) da_nil)))) (da_cons (de_var 13) da_nil))) (de_one (de_cmp (od_is) (se (de_call C_covers_size hr (by decide) (by rfl) (da_cons (de_var 3) (da_cons (de_var 2) (da_cons (de_var 6) (da_cons (de_var 13) da_nil)))))) (se de_bl)))))))))))))))))))
end
end K72

namespace K72
open PySem PySem.Spec L2 DL
theorem posI {n : Nat} : (0 : Int) < ((n + 1 : Nat) : Int) := by omega
theorem at0 {α : Type} {a : α} {l : List α} : atI (a :: l) 0 = some a := by
  unfold atI ixN
  simp only [List.length_cons]
  rw [if_pos (by omega), if_pos (by omega)]; rfl
theorem at1 {α : Type} {a b : α} {l : List α} : atI (a :: b :: l) 1 = some b := by
  unfold atI ixN
  simp only [List.length_cons]
  rw [if_pos (by omega), if_pos (by omega)]; rfl
theorem at2 {α : Type} {a b c : α} {l : List α} : atI (a :: b :: c :: l) 2 = some c := by
  unfold atI ixN
  simp only [List.length_cons]
  rw [if_pos (by omega), if_pos (by omega)]; rfl
theorem ix1 {n : Nat} : ixN (n + 2) 1 = some 1 := by
  unfold ixN
  rw [if_pos (by omega), if_pos (by omega)]; rfl
theorem ix2 {n : Nat} : ixN (n + 3) 2 = some 2 := by
  unfold ixN
  rw [if_pos (by omega), if_pos (by omega)]; rfl
section
variable {P : Program} {w : World} {K : PySem.W.Frag} {mg : Str → Option Value} {base : Heap}
abbrev tailT (K : PySem.W.Frag) : TS :=
  tSeq (tAsg (tOp (rI (fun _ j => 0 < j) fun i j => V.int (i % j)) (tCB (fun xs H Q => (∃ i, xs = [.int i] ∧ Q (.int i) H) ∨ ∃ k, xs = [.bl k] ∧ Q (.int (if k then 1 else 0)) H) (tCons (tOp (rI0 fun i j => .int (i + j)) (tOp (rI CMul fun i j => .int (i * j)) (tOp (rIxL K) (tVar 0) (tC (.int 2))) (tC (.int 48271))) (tC (.int 17))) tNil)) (tC (.int 2147483629))) (gName 4)) (tSeq (tAsg (tOp (rI (fun _ j => 0 < j) fun i j => V.int (i % j)) (tCB (fun xs H Q => (∃ i, xs = [.int i] ∧ Q (.int i) H) ∨ ∃ k, xs = [.bl k] ∧ Q (.int (if k then 1 else 0)) H) (tCons (tOp (rI0 fun i j => .int (i + j)) (tOp (rI CMul fun i j => .int (i * j)) (tVar 4) (tC (.int 69621))) (tC (.int 5))) tNil)) (tC (.int 2147483587))) (gName 5))
        (tSeq (tAsg (tOp (rI (fun _ j => 0 < j) fun i j => V.int (i % j)) (tCB (fun xs H Q => (∃ i, xs = [.int i] ∧ Q (.int i) H) ∨ ∃ k, xs = [.bl k] ∧ Q (.int (if k then 1 else 0)) H) (tCons (tOp (rI0 fun i j => .int (i + j)) (tOp (rI CMul fun i j => .int (i * j)) (tVar 5) (tC (.int 40692))) (tC (.int 3))) tNil)) (tC (.int 2147483563))) (gSub (tVar 0) (tC (.int 2)) rSetL))
        (tRet (tOp (rI0 fun i j => .int (i + j)) (tOp (rI0 fun i j => .int (i + j)) (tOp (rI CMul fun i j => .int (i * j)) (tVar 4) (tC (.int 4611686014132420609))) (tOp (rI CMul fun i j => .int (i * j)) (tVar 5) (tC (.int 2147483647)))) (tOp (rIxL K) (tVar 0) (tC (.int 2)))))))
theorem cal_Lload (T : Bn mg) {f : Addr} {fd : FuncData} (F : Fun K "_law_load" "_law_load" st_Lload f fd) (b : Binds K fd ["box"] []) (m : mg "_law_load" = some (.ref f)) : CalB P w K mg base "_law_load" 1 1 G_Lload := by
  refine ⟨f, fd, _, F.ok sc_Lload (fun vs H Q E h => ?_) (fun cdv A outer s H vs Q E hr h => ?_), b, m, F.kp⟩
  · obtain ⟨_, _, ws, F, ds, B, d, B', rfl, _, _, _, _, r, hl, _⟩ := h
    rw [List.length_cons, r.length, hl]; rfl
  obtain ⟨bA, cA, ws, F, ds, B, d, B', rfl, sub, fb, fc, bo, r, hl, e, q⟩ := h
  cases r with
  | cons _ _ => cases hl
  | nil => ?_
  obtain ⟨⟨val, B2⟩, e1, e2⟩ := ob_eq (show ob (loadF B) (fun p => some (PyData.int p.1, p.2)) = some (d, B') from e)
  cases e2
  refine ⟨_, pss_cons (ps_set (i := 1) sc_Lload.nd rfl (.inl rfl) (pe_ix ix_list (pv 0) pe_int (fun _ _ => rfl)))
    (pss_cons (ps_if (pt_cmpR op_gt (pe_callB call_len_seq (by rfl) T.len PySem.boot_len (pa_cons (pv 1) pa_nil)) pe_int (nomark _))
      (pss_cons (ps_set (i := 2) sc_Lload.nd rfl (.inl rfl) (pe_callTy call_int1 (by rfl) T.int PyProof.Rows.boot_int (pa_cons (pe_bm PySem.F.plainAttrs_list PySem.F.slot_list_pop PySem.F.type_list_pop mt_popAt (pv 1) (pa_cons pe_int pa_nil)) pa_nil)))
      (pss_cons (ps_set (i := 3) sc_Lload.nd rfl (.inl rfl) (pe_ifExp (pt_cmpR op_ge (pv 2) pe_int (nomark _)) (pe_op op_mul pe_int (pv 2)) (pe_op op_sub (pe_op op_mul (pe_un un_neg pe_int) (pv 2)) pe_int)))
      (pss_cons (ps_if (pt_cmpR op_ge (pv 3) pe_int (nomark _)) (pss_one (ps_ret (pv 3))) pss_nil)
      (pss_one (ps_asg (pe_op op_mod (pe_callTy call_int1 (by rfl) T.int PyProof.Rows.boot_int (pa_cons (pe_op op_add (pe_op op_add (pe_op op_mul (pe_ix ix_list (pv 0) pe_int (fun _ _ => rfl)) pe_int) (pe_op op_mul (pv 3) pe_int)) pe_int) pa_nil)) pe_int) (pg_sub (pv 0) pe_int set_list))))))
      pss_nil)
    (pss_cons (ps_set (i := 4) sc_Lload.nd rfl (.inl rfl) (pe_op op_mod (pe_callTy call_int1 (by rfl) T.int PyProof.Rows.boot_int (pa_cons (pe_op op_add (pe_op op_mul (pe_ix ix_list (pv 0) pe_int (fun _ _ => rfl)) pe_int) pe_int) pa_nil)) pe_int))
    (pss_cons (ps_set (i := 5) sc_Lload.nd rfl (.inl rfl) (pe_op op_mod (pe_callTy call_int1 (by rfl) T.int PyProof.Rows.boot_int (pa_cons (pe_op op_add (pe_op op_mul (pv 4) pe_int) pe_int) pa_nil)) pe_int))
    (pss_cons (ps_asg (pe_op op_mod (pe_callTy call_int1 (by rfl) T.int PyProof.Rows.boot_int (pa_cons (pe_op op_add (pe_op op_mul (pv 5) pe_int) pe_int) pa_nil)) pe_int) (pg_sub (pv 0) pe_int set_list))
    (pss_one (ps_ret (pe_op op_add (pe_op op_add (pe_op op_mul (pv 4) pe_int) (pe_op op_mul (pv 5) pe_int)) (pe_ix ix_list (pv 0) pe_int (fun _ _ => rfl))))))))), ?_⟩
  obtain ⟨cells, rest⟩ := B
  match rest, e1, bo with
  | acc :: seed :: r, e1, bo => ?_
  | [], e1, _ => cases e1
  | [_], e1, _ => cases e1
  obtain ⟨nbc, hb, hc⟩ := bo bA cA rfl
  have small : ∀ (x : Int), CMul x 48271 := fun x => .inr ⟨by decide, by decide⟩
  refine ⟨.ref bA, rfl, bA, _, 0, .ref cA, rfl, rfl, .of hb, at0, ?_⟩
  have tail : ∀ (cs : List Int) (sd : Int) (v2 v3 : Option V) (H1 : Hp), Stp (some (bA, cA)) F H F H1 → Same F H1 → H1 bA = some (.lst (.ref cA :: .int acc :: .int sd :: r.map V.int)) → H1 cA = some (.lst (cs.map V.int)) → (val, B2) = loadG cs acc sd r →
      tailT K
        { nx := fun _ H' => Q .non H', rt := Q } [some (.ref bA), some (.ref cA), v2, v3, none, none] H1 := by
    intro cs sd v2 v3 H1 st sub1 h1 h2 ev
    refine ⟨.ref bA, rfl, bA, _, 2, .int sd, rfl, rfl, .of h1, at2, _, _, rfl, rfl, .inr ⟨by decide, by decide⟩, _, _, rfl, rfl, .inl ⟨_, rfl, _, _, rfl, rfl, posI, ?_⟩⟩
    refine ⟨_, rfl, _, _, rfl, rfl, .inr ⟨by decide, by decide⟩, _, _, rfl, rfl, .inl ⟨_, rfl, _, _, rfl, rfl, posI, ?_⟩⟩
    refine ⟨_, rfl, _, _, rfl, rfl, .inr ⟨by decide, by decide⟩, _, _, rfl, rfl, .inl ⟨_, rfl, _, _, rfl, rfl, posI, ?_⟩⟩
    refine ⟨.ref bA, rfl, bA, _, 2, 2, rfl, rfl, h1, ix2, ?_⟩
    refine ⟨_, rfl, _, _, rfl, rfl, .inr ⟨by decide, by decide⟩, _, rfl, _, _, rfl, rfl, .inr ⟨by decide, by decide⟩, _, _, rfl, rfl, .ref bA, rfl, bA, _, 2, _, rfl, rfl, .of upd_same, at2, _, _, rfl, rfl, ?_⟩
    have ev1 := congrArg Prod.fst ev
    have ev2 := congrArg Prod.snd ev
    subst ev1 ev2
    refine q _ F _ (st.trans ?_) (fun c u z => ?_) (fun b' c' z => ?_) (.int _)
    · refine ⟨Same.refl _, fun a o z n => ?_, fun a z => ?_, fun a z z' => absurd z' z⟩
      · rw [upd_ne (fun z' => n ⟨bA, cA, rfl, .inl z'⟩)]; exact z
      · unfold upd
        split
        · intro z'; cases z'
        · exact z
    · rw [upd_ne (fun z' => by subst z'; rw [fb] at z; cases z)]; exact sub1 c u z
    · cases z
      refine ⟨nbc, upd_same, ?_⟩
      rw [upd_ne (Ne.symm nbc)]; exact h2
  refine ⟨.ref cA, rfl, cA, _, rfl, .inl (.of hc), _, _, rfl, rfl, _, rfl, ?_⟩
  cases cells with
  | nil =>
    refine iteF ?_
    exact tail [] seed none none H .refl sub hb hc (Option.some.inj e1).symm
  | cons cell cs =>
    refine ite2 (fun _ => ?_) (fun z => absurd (decide_eq_true (by simp)) z)
    have hsub : Same F (upd H cA (.lst (cs.map V.int))) := fun c u z => by
      rw [upd_ne (fun z' => by subst z'; rw [fc] at z; cases z)]; exact sub c u z
    have st1 : Stp (some (bA, cA)) F H F (upd H cA (.lst (cs.map V.int))) := ⟨Same.refl _, fun a o z n => by rw [upd_ne (fun z' => n ⟨bA, cA, rfl, .inr z'⟩)]; exact z, fun a z => by
      unfold upd
      split
      · intro z'; cases z'
      · exact z, fun a z z' => absurd z' z⟩
    have hb1 : upd H cA (.lst (cs.map V.int)) bA = some (.lst (.ref cA :: .int acc :: .int seed :: r.map V.int)) := by rw [upd_ne nbc]; exact hb
    refine ⟨.ref cA, rfl, .inl ⟨rfl, _, .of hc⟩, cA, _, 0, 0, .int cell, rfl, rfl, hc, by decide, by decide, by unfold seqIndex?; simp, rfl, .inl ⟨cell, rfl, ?_⟩⟩
    have back : ∀ (size : Int), size = (if 0 ≤ cell then 2 * cell else -2 * cell - 1) → 
        tSeq (tIfS (tTest (tOp (rI0 fun i j => .bl (decide (j ≤ i))) (tVar 3) (tC (.int 1000000000000000000)))) (tRet (tVar 3)) tNext)
          (tAsg (tOp (rI (fun _ j => 0 < j) fun i j => V.int (i % j)) (tCB (fun xs H Q => (∃ i, xs = [.int i] ∧ Q (.int i) H) ∨ ∃ k, xs = [.bl k] ∧ Q (.int (if k then 1 else 0)) H) (tCons (tOp (rI0 fun i j => .int (i + j)) (tOp (rI0 fun i j => .int (i + j)) (tOp (rI CMul fun i j => .int (i * j)) (tOp (rIxL K) (tVar 0) (tC (.int 2))) (tC (.int 69621))) (tOp (rI CMul fun i j => .int (i * j)) (tVar 3) (tC (.int 48271)))) (tC (.int 11))) tNil)) (tC (.int 2147483647))) (gSub (tVar 0) (tC (.int 2)) rSetL))
          { nx := tailT K { nx := fun _ H' => Q .non H', rt := Q }, rt := Q } [some (.ref bA), some (.ref cA), some (.int cell), some (.int size), none, none] (upd H cA (.lst (cs.map V.int))) := by
      intro size hs
      refine ⟨_, rfl, _, _, rfl, rfl, _, rfl, ite2 (fun hz => ?_) (fun hz => ?_)⟩
      · refine ⟨_, rfl, ?_⟩
        have hz := of_decide_eq_true hz
        have e1' : some (size, (⟨cs, acc :: seed :: r⟩ : BS)) = some (val, B2) := by
          rw [← e1]
          unfold loadF
          simp only
          rw [← hs, if_pos hz]
        cases e1'
        refine q _ F _ st1 hsub (fun b' c' z => ?_) (.int _)
        cases z
        exact ⟨nbc, hb1, upd_same⟩
      · have hz : ¬ (1000000000000000000 : Int) ≤ size := fun z => hz (decide_eq_true z)
        have e1' : (val, B2) = loadG cs acc ((seed * 69621 + size * 48271 + 11) % 2147483647) r := by
          have : some (loadG cs acc ((seed * 69621 + size * 48271 + 11) % 2147483647) r) = some (val, B2) := by
            rw [← e1]
            unfold loadF
            simp only
            rw [← hs, if_neg hz]
          exact (Option.some.inj this).symm
        refine ⟨.ref bA, rfl, bA, _, 2, .int seed, rfl, rfl, .of hb1, at2, _, _, rfl, rfl, .inr ⟨by decide, by decide⟩, _, rfl, _, _, rfl, rfl, .inr ⟨by decide, by decide⟩, _, _, rfl, rfl, _, _, rfl, rfl, .inl ⟨_, rfl, _, _, rfl, rfl, posI, ?_⟩⟩
        refine ⟨.ref bA, rfl, bA, _, 2, 2, rfl, rfl, hb1, ix2, ?_⟩
        refine tail cs _ _ _ _ (st1.trans ?_) (fun c u z => ?_) upd_same ?_ e1'
        · refine ⟨Same.refl _, fun a o z n => ?_, fun a z => ?_, fun a z z' => absurd z' z⟩
          · rw [upd_ne (fun z' => n ⟨bA, cA, rfl, .inl z'⟩)]; exact z
          · unfold upd
            split
            · intro z'; cases z'
            · exact z
        · rw [upd_ne (fun z' => by subst z'; rw [fb] at z; cases z)]; exact hsub c u z
        · rw [upd_ne (Ne.symm nbc)]; exact upd_same
    refine ⟨_, rfl, _, _, rfl, rfl, _, rfl, ite2 (fun hz => ?_) (fun hz => ?_)⟩
    · refine ⟨_, rfl, _, _, rfl, rfl, .inl ⟨by decide, by decide⟩, ?_⟩
      exact back _ (by rw [if_pos (of_decide_eq_true hz)])
    · refine ⟨_, rfl, _, rfl, _, _, rfl, rfl, .inl ⟨by decide, by decide⟩, _, _, rfl, rfl, ?_⟩
      exact back _ (by rw [if_neg (fun z => hz (decide_eq_true z))])
theorem cal_Ldraw (T : Bn mg) (C_Lload : CalB P w K mg base "_law_load" 1 1 G_Lload) {f : Addr} {fd : FuncData} (F : Fun K "_law_draw" "_law_draw" st_Ldraw f fd) (b : Binds K fd ["box", "many"] []) (m : mg "_law_draw" = some (.ref f)) : CalB P w K mg base "_law_draw" 2 2 G_Ldraw := by
  obtain ⟨fl, fdl, psl, L1, L2', L3, L4⟩ := C_Lload.ex
  refine ⟨f, fd, _, F.ok sc_Ldraw (fun vs H Q E h => ?_) (fun cdv A outer s H vs Q E hr h => ?_), b, m, F.kp⟩
  · obtain ⟨_, _, ws, F, ds, B, d, B', rfl, _, _, _, _, r, hl, _⟩ := h
    rw [List.length_cons, r.length, hl]; rfl
  obtain ⟨bA, cA, ws, F, ds, B, d, B', rfl, sub, fb, fc, bo, r, hl, e, q⟩ := h
  unfold G_Ldraw at e
  split at e
  · rename_i many
    cases r with
    | cons r1 r2 => ?_
    cases r2
    cases r1
    obtain ⟨⟨val, B2⟩, e1, e2⟩ := ob_eq e
    cases e2
    obtain ⟨hm, e3⟩ := gd_eq e1
    have hm := of_decide_eq_true hm
    obtain ⟨B1, e4, e5⟩ := ob_eq e3
    refine ⟨_, pss_cons (ps_if (pt_cmpR op_lt (pe_ix ix_list (pv 0) pe_int (fun _ _ => rfl)) (pv 1) (nomark _))
        (pss_one (ps_asg (pe_call L1 hr (by rfl) L3 L4 L2' .nil pass0 (pa_cons (pv 0) pa_nil)) (pg_sub (pv 0) pe_int set_list))) pss_nil)
      (pss_cons (ps_set (i := 2) sc_Ldraw.nd rfl (.inl rfl) (pe_op op_mod (pe_callTy call_int1 (by rfl) T.int PyProof.Rows.boot_int (pa_cons (pe_ix ix_list (pv 0) pe_int (fun _ _ => rfl)) pa_nil)) (pv 1)))
      (pss_cons (ps_asg (pe_op op_fdiv (pe_ix ix_list (pv 0) pe_int (fun _ _ => rfl)) (pv 1)) (pg_sub (pv 0) pe_int set_list))
      (pss_one (ps_ret (pv 2))))), ?_⟩
    have tail : ∀ (B1 : BS) (F1 H1 : Hp), Stp (some (bA, cA)) F H F1 H1 → Same F1 H1 → BoxOk (some (bA, cA)) H1 B1 → digitF B1 many = some (val, B2) →
        tSeq (tAsg (tOp (rI (fun _ j => 0 < j) fun i j => V.int (i % j)) (tCB (fun xs H Q => (∃ i, xs = [.int i] ∧ Q (.int i) H) ∨ ∃ k, xs = [.bl k] ∧ Q (.int (if k then 1 else 0)) H) (tCons (tOp (rIxL K) (tVar 0) (tC (.int 1))) tNil)) (tVar 1)) (gName 2))
          (tSeq (tAsg (tOp (rI CDiv fun i j => V.int (i / j)) (tOp (rIxL K) (tVar 0) (tC (.int 1))) (tVar 1)) (gSub (tVar 0) (tC (.int 1)) rSetL)) (tRet (tVar 2)))
          { nx := fun _ H' => Q .non H', rt := Q } [some (.ref bA), some (.int many), none] H1 := by
      intro B1 F1 H1 st sub1 b1 ev
      have fb1 : F1 bA = none := by
        by_cases z : F1 bA = none
        · exact z
        · have := st.new bA z fb
          rw [(bo bA cA rfl).2.1] at this; cases this
      obtain ⟨cells, rest⟩ := B1
      cases rest with
      | nil => cases ev
      | cons acc r =>
        cases ev
        obtain ⟨nbc, hb, hc⟩ := b1 bA cA rfl
        refine ⟨.ref bA, rfl, bA, _, 1, .int acc, rfl, rfl, .of hb, at1, .inl ⟨_, rfl, _, rfl, _, _, rfl, rfl, hm.1, ?_⟩⟩
        refine ⟨.ref bA, rfl, bA, _, 1, .int acc, rfl, rfl, .of hb, at1, _, rfl, _, _, rfl, rfl, hm, .ref bA, rfl, bA, _, 1, 1, rfl, rfl, hb, ix1, ?_⟩
        refine ⟨_, rfl, ?_⟩
        refine q _ F1 _ (st.trans ?_) (fun c u z => ?_) (fun b' c' z => ?_) (.int _)
        · refine ⟨Same.refl _, fun a o z n => ?_, fun a z => ?_, fun a z z' => absurd z' z⟩
          · rw [upd_ne (fun z' => n ⟨bA, cA, rfl, .inl z'⟩)]; exact z
          · unfold upd
            split
            · intro z'; cases z'
            · exact z
        · rw [upd_ne (fun z' => by subst z'; rw [fb1] at z; cases z)]; exact sub1 c u z
        · cases z
          refine ⟨nbc, upd_same, ?_⟩
          rw [upd_ne (Ne.symm nbc)]; exact hc
    obtain ⟨cells, rest⟩ := B
    cases rest with
    | nil => cases e4
    | cons acc r =>
      obtain ⟨nbc, hb, hc⟩ := bo bA cA rfl
      unfold drawA at e4
      refine ⟨.ref bA, rfl, bA, _, 1, .int acc, rfl, rfl, .of hb, at1, _, rfl, _, _, rfl, rfl, _, rfl, ite2 (fun hz => ?_) (fun hz => ?_)⟩
      · have hz := of_decide_eq_true hz
        simp only [if_pos hz] at e4
        obtain ⟨⟨v, ⟨cs, rs⟩⟩, e6, e7⟩ := ob_eq e4
        refine ⟨.ref bA, rfl, ?_⟩
        show spB K 1 G_Lload ([.ref bA] ++ []) H _ E0
        refine ⟨bA, cA, [], F, [], ⟨cells, acc :: r⟩, .int v, ⟨cs, rs⟩, rfl, sub, fb, fc, bo, .nil, rfl, by show ob (loadF _) _ = _; rw [e6]; rfl, fun v' F1 H1 st sub1 b1 r1 => ?_⟩
        cases r1
        cases rs with
        | nil => cases e7
        | cons x rs =>
          cases e7
          obtain ⟨_, hb1, hc1⟩ := b1 bA cA rfl
          have fb1 : F1 bA = none := by
            by_cases z : F1 bA = none
            · exact z
            · have := st.new bA z fb
              rw [hb] at this; cases this
          refine ⟨.ref bA, rfl, bA, _, 1, 1, rfl, rfl, hb1, ix1, ?_⟩
          refine tail _ F1 _ (st.trans ?_) (fun c u z => ?_) (fun b' c' z => ?_) e5
          · refine ⟨Same.refl _, fun a o z n => ?_, fun a z => ?_, fun a z z' => absurd z' z⟩
            · rw [upd_ne (fun z' => n ⟨bA, cA, rfl, .inl z'⟩)]; exact z
            · unfold upd
              split
              · intro z'; cases z'
              · exact z
          · rw [upd_ne (fun z' => by subst z'; rw [fb1] at z; cases z)]; exact sub1 c u z
          · cases z
            refine ⟨nbc, upd_same, ?_⟩
            rw [upd_ne (Ne.symm nbc)]; exact hc1
      · have hz : ¬ acc < many := fun z => hz (decide_eq_true z)
        simp only [if_neg hz] at e4
        cases e4
        exact tail _ F H .refl sub bo e5
  · cases e
end
end K72

namespace K72
open PySem PySem.Spec L2 DL
theorem same_e1 {Gs : List D → Option D} {d x : D} {xs : List D} {k : Nat} (hd : d = .list xs ∨ d = .tuple xs) (hk : xs[k]? = some x) (hG : Gs [x, x] = some (.bool true)) (B : BS) : e1_Lsame Gs [.d d, .d d, .d (.int (k : Int))] B = some (.bool true, B) := by
  have ix : gIx d (.int (k : Int)) = some x := by
    rcases hd with rfl | rfl
    · show atI _ _ = _; rw [atI_cast, hk]
    · show atI _ _ = _; rw [atI_cast, hk]
  unfold e1_Lsame
  simp -implicitDefEqProofs only [fCall, fCons, fNil, fBin, fAny, List.getElem?_cons_zero, List.getElem?_cons_succ, mb_some, ob_some, ix, List.length_cons, List.length_nil, decide_true, gd_t, hG]
theorem all_true (n : Nat) : (List.replicate n true).all id = true := by
  induction n with
  | zero => rfl
  | succ n ih => rw [List.replicate_succ, List.all_cons, ih]; rfl
theorem same_seq {Gs : List D → Option D} {d : D} {xs : List D} (hd : d = .list xs ∨ d = .tuple xs) (hl : xs.length ≤ sizeLine) (hG : ∀ x ∈ xs, Gs [x, x] = some (.bool true)) (B : BS) :
    (fAndV (fBin gEq (fCB gLen (fCons (fAny 0) fNil)) (fCB gLen (fCons (fAny 1) fNil))) (fCB gAll (fCons (fFr (fLc (fCO rng1 (fCons (fCB gLen (fCons (fAny 0) fNil)) fNil)) (gSet 2) fYes (e1_Lsame Gs) [2])) fNil))) ([.d d, .d d, .no]) B = some (.bool true, B) := by
  have len : gLen [d] = some (.int (xs.length : Int)) := by rcases hd with rfl | rfl <;> rfl
  have hr := rng1_nat (n := xs.length) (Nat.lt_of_le_of_lt hl (by decide))
  have L := lcL_map (g := gSet 2) (ft := fYes) (fe := e1_Lsame Gs) (ρ := [.d d, .d d, .no]) (B := B) (fun _ => .bool true) ((List.range xs.length).map fun (i : Nat) => PyData.int (i : Int)) (by
    intro q hq
    obtain ⟨k, hk, rfl⟩ := List.mem_map.mp hq
    have hk := List.mem_range.mp hk
    exact ⟨_, rfl, rfl, same_e1 hd (List.getElem?_eq_getElem hk) (hG _ (List.getElem_mem hk)) B⟩) (by simpa using hl)
  have bs : bools? (((List.range xs.length).map fun (i : Nat) => PyData.int (i : Int)).map fun _ => PyData.bool true) = some (List.replicate xs.length true) := by
    rw [List.map_map]
    have : ((List.range xs.length).map ((fun _ => PyData.bool true) ∘ fun (i : Nat) => PyData.int (i : Int))) = (List.replicate xs.length true).map PyData.bool := by
      rw [List.map_replicate, List.eq_replicate_iff]
      exact ⟨by simp, fun b hb => by obtain ⟨_, _, rfl⟩ := List.mem_map.mp hb; rfl⟩
    rw [this, bools_map]
  simp -implicitDefEqProofs only [fAndV, fBin, fCB, fCons, fNil, fAny, List.getElem?_cons_zero, List.getElem?_cons_succ, mb_some, ob_some, len, gEq_int, decide_true, tru, cond_true, fFr, fLc, fCO, hr, wipeE, List.set_cons_succ, List.set_cons_zero, L, gAll, bs, all_true]
theorem depth_mem {xs : List D} {x : D} (h : x ∈ xs) : x.depth ≤ PyData.depthAll xs := depth_le_all h
theorem same_refl : ∀ (j : Nat) (d : D), szD d → d.depth < j → G_Lsame j [d, d] = some (.bool true)
  | 0, _, _, h => absurd h (Nat.not_lt_zero _)
  | j + 1, d, hs, h => by
    refine runP_of (ρ := [.d d, .d d, .no]) rfl rfl (B' := ⟨[], []⟩) ?_
    have rec_ : ∀ xs : List D, (d = .list xs ∨ d = .tuple xs) → xs.length ≤ sizeLine → szA xs → (fAndV (fBin gEq (fCB gLen (fCons (fAny 0) fNil)) (fCB gLen (fCons (fAny 1) fNil))) (fCB gAll (fCons (fFr (fLc (fCO rng1 (fCons (fCB gLen (fCons (fAny 0) fNil)) fNil)) (gSet 2) fYes (e1_Lsame (G_Lsame j)) [2])) fNil))) ([.d d, .d d, .no]) ⟨[], []⟩ = some (.bool true, ⟨[], []⟩) := fun xs hd hl ha => by
      refine same_seq hd hl (fun x hx => same_refl j x ?_ ?_) _
      · obtain ⟨k, hk, e⟩ := List.mem_iff_getElem.mp hx
        exact szA_get ha (by rw [List.getElem?_eq_getElem hk, e])
      · have := depth_mem hx
        rcases hd with rfl | rfl
        · simp only [PyData.depth] at h; omega
        · simp only [PyData.depth] at h; omega
    unfold s_Lsame
    cases d with
    | list xs =>
      have r := rec_ xs (.inl rfl) hs.1 hs.2
      refine seq_ret ?_
      simp -implicitDefEqProofs only [fIf, fOrT, fAndT, fTru, fIsi, fAny, List.getElem?_cons_zero, List.getElem?_cons_succ, mb_some, ob_some, tru, isD_tuple_none, isD_tuple_bool, isD_tuple_int, isD_tuple_str, isD_tuple_list, isD_tuple_tuple, isD_list_none, isD_list_bool, isD_list_int, isD_list_str, isD_list_list, isD_list_tuple, isD_dict_none, isD_dict_bool, isD_dict_int, isD_dict_str, isD_dict_list, isD_dict_tuple, isD_bool_none, isD_bool_bool, isD_bool_int, isD_bool_str, isD_bool_list, isD_bool_tuple, isD_int_none, isD_int_bool, isD_int_int, isD_int_str, isD_int_list, isD_int_tuple, isD_str_none, isD_str_bool, isD_str_int, isD_str_str, isD_str_list, isD_str_tuple, cond_true, cond_false, fRet, r]
    | tuple xs =>
      have r := rec_ xs (.inr rfl) hs.1 hs.2
      refine seq_ret ?_
      simp -implicitDefEqProofs only [fIf, fOrT, fAndT, fTru, fIsi, fAny, List.getElem?_cons_zero, List.getElem?_cons_succ, mb_some, ob_some, tru, isD_tuple_none, isD_tuple_bool, isD_tuple_int, isD_tuple_str, isD_tuple_list, isD_tuple_tuple, isD_list_none, isD_list_bool, isD_list_int, isD_list_str, isD_list_list, isD_list_tuple, isD_dict_none, isD_dict_bool, isD_dict_int, isD_dict_str, isD_dict_list, isD_dict_tuple, isD_bool_none, isD_bool_bool, isD_bool_int, isD_bool_str, isD_bool_list, isD_bool_tuple, isD_int_none, isD_int_bool, isD_int_int, isD_int_str, isD_int_list, isD_int_tuple, isD_str_none, isD_str_bool, isD_str_int, isD_str_str, isD_str_list, isD_str_tuple, cond_true, cond_false, fRet, r]
    | dict _ => exact hs.elim
    | none =>
      simp -implicitDefEqProofs only [fSeq, seqK, fNext, fIf, fOrT, fAndT, fTru, fIsi, fAny, List.getElem?_cons_zero, List.getElem?_cons_succ, mb_some, ob_some, tru, isD_tuple_none, isD_tuple_bool, isD_tuple_int, isD_tuple_str, isD_tuple_list, isD_tuple_tuple, isD_list_none, isD_list_bool, isD_list_int, isD_list_str, isD_list_list, isD_list_tuple, isD_dict_none, isD_dict_bool, isD_dict_int, isD_dict_str, isD_dict_list, isD_dict_tuple, isD_bool_none, isD_bool_bool, isD_bool_int, isD_bool_str, isD_bool_list, isD_bool_tuple, isD_int_none, isD_int_bool, isD_int_int, isD_int_str, isD_int_list, isD_int_tuple, isD_str_none, isD_str_bool, isD_str_int, isD_str_str, isD_str_list, isD_str_tuple, cond_true, cond_false, fRet, fAndV, fBin, fC, gIs, isNone]
    | bool b =>
      have e : gEq (.bool b) (.bool b) = some (.bool true) := by cases b <;> rfl
      simp -implicitDefEqProofs only [fSeq, seqK, fNext, fIf, fOrT, fAndT, fTru, fIsi, fAny, List.getElem?_cons_zero, List.getElem?_cons_succ, mb_some, ob_some, tru, isD_tuple_none, isD_tuple_bool, isD_tuple_int, isD_tuple_str, isD_tuple_list, isD_tuple_tuple, isD_list_none, isD_list_bool, isD_list_int, isD_list_str, isD_list_list, isD_list_tuple, isD_dict_none, isD_dict_bool, isD_dict_int, isD_dict_str, isD_dict_list, isD_dict_tuple, isD_bool_none, isD_bool_bool, isD_bool_int, isD_bool_str, isD_bool_list, isD_bool_tuple, isD_int_none, isD_int_bool, isD_int_int, isD_int_str, isD_int_list, isD_int_tuple, isD_str_none, isD_str_bool, isD_str_int, isD_str_str, isD_str_list, isD_str_tuple, cond_true, cond_false, fRet, fAndV, fBin, e]
    | int i =>
      simp -implicitDefEqProofs only [fSeq, seqK, fNext, fIf, fOrT, fAndT, fTru, fIsi, fAny, List.getElem?_cons_zero, List.getElem?_cons_succ, mb_some, ob_some, tru, isD_tuple_none, isD_tuple_bool, isD_tuple_int, isD_tuple_str, isD_tuple_list, isD_tuple_tuple, isD_list_none, isD_list_bool, isD_list_int, isD_list_str, isD_list_list, isD_list_tuple, isD_dict_none, isD_dict_bool, isD_dict_int, isD_dict_str, isD_dict_list, isD_dict_tuple, isD_bool_none, isD_bool_bool, isD_bool_int, isD_bool_str, isD_bool_list, isD_bool_tuple, isD_int_none, isD_int_bool, isD_int_int, isD_int_str, isD_int_list, isD_int_tuple, isD_str_none, isD_str_bool, isD_str_int, isD_str_str, isD_str_list, isD_str_tuple, cond_true, cond_false, fRet, fAndV, fBin, gEq_int, decide_true]
    | str s =>
      simp -implicitDefEqProofs only [fSeq, seqK, fNext, fIf, fOrT, fAndT, fTru, fIsi, fAny, List.getElem?_cons_zero, List.getElem?_cons_succ, mb_some, ob_some, tru, isD_tuple_none, isD_tuple_bool, isD_tuple_int, isD_tuple_str, isD_tuple_list, isD_tuple_tuple, isD_list_none, isD_list_bool, isD_list_int, isD_list_str, isD_list_list, isD_list_tuple, isD_dict_none, isD_dict_bool, isD_dict_int, isD_dict_str, isD_dict_list, isD_dict_tuple, isD_bool_none, isD_bool_bool, isD_bool_int, isD_bool_str, isD_bool_list, isD_bool_tuple, isD_int_none, isD_int_bool, isD_int_int, isD_int_str, isD_int_list, isD_int_tuple, isD_str_none, isD_str_bool, isD_str_int, isD_str_str, isD_str_list, isD_str_tuple, cond_true, cond_false, fRet, fAndV, fBin, gEq_str, decide_true]
end K72

namespace K72
open PySem PySem.Spec L2 DL
inductive BD where
  | lf (b : Bool)
  | nd (i : Nat) (lo hi : BD)
deriving DecidableEq
def dD : BD → D
  | .lf b => .bool b
  | .nd i lo hi => .tuple [.int (i : Int), dD lo, dD hi]
def dep : BD → Nat
  | .lf _ => 0
  | .nd _ lo hi => max (dep lo) (dep hi) + 1
def wf (n : Nat) : Nat → BD → Prop
  | _, .lf _ => True
  | i, .nd j lo hi => i ≤ j ∧ j < n ∧ wf n (j + 1) lo ∧ wf n (j + 1) hi
def ev : BD → List Bool → Bool
  | .lf b, _ => b
  | .nd i lo hi, c => if (c[i]?).getD false then ev hi c else ev lo c
theorem wf.mono {n i j : Nat} (h : i ≤ j) : ∀ {d : BD}, wf n j d → wf n i d
  | .lf _, _ => trivial
  | .nd _ _ _, ⟨a, b, c, d⟩ => ⟨Nat.le_trans h a, b, c, d⟩
theorem wf.up {n m i : Nat} (h : n ≤ m) : ∀ {d : BD} {i : Nat}, wf n i d → wf m i d
  | .lf _, _, _ => trivial
  | .nd _ _ _, _, ⟨a, b, c, d⟩ => ⟨a, Nat.lt_of_lt_of_le b h, wf.up (i := 0) h c, wf.up (i := 0) h d⟩
theorem dD_depth : ∀ d : BD, (dD d).depth = dep d
  | .lf _ => by simp [dD, dep, PyData.depth]
  | .nd i lo hi => by
    simp only [dD, dep, PyData.depth, PyData.depthAll, dD_depth lo, dD_depth hi]
    omega
theorem wf_dep {n : Nat} : ∀ {d : BD} {i : Nat}, i ≤ n → wf n i d → dep d + i ≤ n
  | .lf _, i, hi, _ => by show 0 + i ≤ n; omega
  | .nd j lo hi, i, _, ⟨a, b, c, e⟩ => by
    have h1 := wf_dep (by omega) c
    have h2 := wf_dep (by omega) e
    show max (dep lo) (dep hi) + 1 + i ≤ n
    omega
def natD : D → Nat
  | .int k => k.toNat
  | _ => 0
theorem same_int2 (j : Nat) (a b : Int) : G_Lsame (j + 1) [.int a, .int b] = some (.bool (decide (a = b))) := by
  refine runP_of (ρ := [.d (.int a), .d (.int b), .no]) rfl rfl (B' := ⟨[], []⟩) ?_
  have t1 : ∀ T : String, isD T (.int a) = false → fTru (fIsi T (fAny 0)) [.d (.int a), .d (.int b), .no] ⟨[], []⟩ = some (false, ⟨[], []⟩) := fun T h => by
    unfold fTru fIsi fAny
    simp -implicitDefEqProofs only [List.getElem?_cons_zero, mb_some, h, tru, ob_some]
  have t2 : ∀ T : String, isD T (.int b) = false → fTru (fIsi T (fAny 1)) [.d (.int a), .d (.int b), .no] ⟨[], []⟩ = some (false, ⟨[], []⟩) := fun T h => by
    unfold fTru fIsi fAny
    simp -implicitDefEqProofs only [List.getElem?_cons_zero, List.getElem?_cons_succ, mb_some, h, tru, ob_some]
  have t3 : fTru (fIsi "int" (fAny 0)) [.d (.int a), .d (.int b), .no] ⟨[], []⟩ = some (true, ⟨[], []⟩) := by
    unfold fTru fIsi fAny
    simp -implicitDefEqProofs only [List.getElem?_cons_zero, mb_some, isD_int_int, tru, ob_some]
  have t4 : fTru (fIsi "int" (fAny 1)) [.d (.int a), .d (.int b), .no] ⟨[], []⟩ = some (true, ⟨[], []⟩) := by
    unfold fTru fIsi fAny
    simp -implicitDefEqProofs only [List.getElem?_cons_zero, List.getElem?_cons_succ, mb_some, isD_int_int, tru, ob_some]
  unfold s_Lsame
  refine ev_seq (ev_if0 (ev_or (ev_and0 (t1 _ (isD_tuple_int a))) (ev_and0 (t1 _ (isD_list_int a)))) ev_next) ?_
  refine ev_seq (ev_if0 (ev_or (t1 _ (isD_bool_int a)) (t2 _ (isD_bool_int b))) ev_next) ?_
  refine seq_ret (ev_if1 (ev_or1 (ev_and t3 t4)) (ev_ret (ev_bin (ev_any rfl) (ev_any rfl) (gEq_int _ _))))
theorem isi_ev {ρ : DL.Env} {B : BS} {i : Nat} {d : D} {T : String} {b : Bool} (h : ρ[i]? = some (.d d)) (hb : isD T d = b) : fTru (fIsi T (fAny i)) ρ B = some (b, B) := by
  unfold fTru fIsi
  rw [ev_any h, mb_some, hb]
  rfl
theorem isiV_ev {ρ : DL.Env} {B : BS} {i : Nat} {d : D} {T : String} {b : Bool} (h : ρ[i]? = some (.d d)) (hb : isD T d = b) : fIsi T (fAny i) ρ B = some (.bool b, B) := by
  unfold fIsi
  rw [ev_any h, mb_some, hb]
theorem bool3 (a b c : Bool) : gAll [.list [.bool a, .bool b, .bool c]] = some (.bool (a && (b && c))) := by
  cases a <;> cases b <;> cases c <;> rfl
theorem same_bd : ∀ (j : Nat) (d e : BD), dep d < j → dep e < j → G_Lsame (j + 1) [dD d, dD e] = some (.bool (decide (d = e)))
  | 0, _, _, h, _ => absurd h (Nat.not_lt_zero _)
  | j + 1, .lf a, .lf b, _, _ => by
    refine runP_of (ρ := [.d (.bool a), .d (.bool b), .no]) rfl rfl (B' := ⟨[], []⟩) ?_
    unfold s_Lsame
    refine ev_seq (ev_if0 (ev_or (ev_and0 (isi_ev rfl (by simp [isD, dD]))) (ev_and0 (isi_ev rfl (by simp [isD, dD])))) ev_next) ?_
    refine seq_ret (ev_if1 (ev_or1 (isi_ev rfl (by simp [isD, dD]))) (ev_ret (ev_andV (isiV_ev rfl (by simp [isD, dD])) rfl (ev_andV (isiV_ev rfl (by simp [isD, dD])) rfl (ev_bin (ev_any rfl) (ev_any rfl) ?_)))))
    cases a <;> cases b <;> rfl
  | j + 1, .lf a, .nd i lo hi, _, _ => by
    refine runP_of (ρ := [.d (.bool a), .d (dD (.nd i lo hi)), .no]) rfl rfl (B' := ⟨[], []⟩) ?_
    unfold s_Lsame
    refine ev_seq (ev_if0 (ev_or (ev_and0 (isi_ev rfl (by simp [isD, dD]))) (ev_and0 (isi_ev rfl (by simp [isD, dD])))) ev_next) ?_
    refine seq_ret (ev_if1 (ev_or1 (isi_ev rfl (by simp [isD, dD]))) (ev_ret (ev_andV (isiV_ev rfl (by simp [isD, dD])) rfl ((ev_andV0 (isiV_ev rfl (by simp [isD, dD])) rfl).trans ?_))))
    rw [decide_eq_false (fun z => BD.noConfusion z)]
  | j + 1, .nd i lo hi, .lf a, _, _ => by
    refine runP_of (ρ := [.d (dD (.nd i lo hi)), .d (.bool a), .no]) rfl rfl (B' := ⟨[], []⟩) ?_
    unfold s_Lsame
    refine ev_seq (ev_if0 (ev_or (ev_and (isi_ev rfl (by simp [isD, dD])) (isi_ev rfl (by simp [isD, dD]))) (ev_and0 (isi_ev rfl (by simp [isD, dD])))) ev_next) ?_
    refine seq_ret (ev_if1 (ev_or (isi_ev rfl (by simp [isD, dD])) (isi_ev rfl (by simp [isD, dD]))) (ev_ret ((ev_andV0 (isiV_ev rfl (by simp [isD, dD])) rfl).trans ?_)))
    rw [decide_eq_false (fun z => BD.noConfusion z)]
  | j + 1, .nd i lo hi, .nd i' lo' hi', h, h' => by
    have h1 : dep lo < j ∧ dep hi < j := by have : max (dep lo) (dep hi) + 1 < j + 1 := h; omega
    have h2 : dep lo' < j ∧ dep hi' < j := by have : max (dep lo') (dep hi') + 1 < j + 1 := h'; omega
    have slo := same_bd j lo lo' h1.1 h2.1
    have shi := same_bd j hi hi' h1.2 h2.2
    have si := same_int2 j i i'
    refine runP_of (ρ := [.d (dD (.nd i lo hi)), .d (dD (.nd i' lo' hi')), .no]) rfl rfl (B' := ⟨[], []⟩) ?_
    unfold s_Lsame
    refine seq_ret (ev_if1 (ev_or1 (ev_and (isi_ev rfl (by simp [isD, dD])) (isi_ev rfl (by simp [isD, dD])))) (ev_ret ?_))
    have lens : fBin gEq (fCB gLen (fCons (fAny 0) fNil)) (fCB gLen (fCons (fAny 1) fNil)) [.d (dD (.nd i lo hi)), .d (dD (.nd i' lo' hi')), .no] ⟨[], []⟩ = some (.bool true, ⟨[], []⟩) := ev_bin (ev_cb (ev_cons (ev_any rfl) ev_nil) rfl) (ev_cb (ev_cons (ev_any rfl) ev_nil) rfl) (gEq_int _ _)
    refine ev_andV lens rfl (ev_cb (ev_cons (ev_fr (ev_lc (ev_co (ev_cons (ev_cb (ev_cons (ev_any rfl) ev_nil) rfl) ev_nil) (rng1_nat (n := 3) (by decide))) (lcL_map (fun d => if natD d = 0 then .bool (decide ((i : Int) = (i' : Int))) else if natD d = 1 then .bool (decide (lo = lo')) else .bool (decide (hi = hi'))) _ (fun d hd => ?_) (by simp; decide)))) ev_nil) ?_)
    · obtain ⟨k, hk, rfl⟩ := List.mem_map.mp hd
      have hk := List.mem_range.mp hk
      match k, hk with
      | 0, _ => exact ⟨_, rfl, rfl, ev_call (ev_cons (ev_bin (ev_any rfl) (ev_any rfl) rfl) (ev_cons (ev_bin (ev_any rfl) (ev_any rfl) rfl) ev_nil)) rfl si⟩
      | 1, _ => exact ⟨_, rfl, rfl, ev_call (ev_cons (ev_bin (ev_any rfl) (ev_any rfl) rfl) (ev_cons (ev_bin (ev_any rfl) (ev_any rfl) rfl) ev_nil)) rfl slo⟩
      | 2, _ => exact ⟨_, rfl, rfl, ev_call (ev_cons (ev_bin (ev_any rfl) (ev_any rfl) rfl) (ev_cons (ev_bin (ev_any rfl) (ev_any rfl) rfl) ev_nil)) rfl shi⟩
    · refine (bool3 _ _ _).trans ?_
      have : (BD.nd i lo hi = BD.nd i' lo' hi') ↔ ((i : Int) = (i' : Int) ∧ lo = lo' ∧ hi = hi') := by
        constructor
        · intro z; injection z with a b c; exact ⟨by omega, b, c⟩
        · rintro ⟨a, b, c⟩
          have : i = i' := by omega
          rw [this, b, c]
      rw [decide_eq_decide.mpr this, Bool.decide_and, Bool.decide_and]
def mkD : Nat → List Bool → Nat → BD
  | 0, ts, _ => .lf (ts.headD false)
  | m + 1, ts, i => if mkD m (ts.take (2 ^ m)) (i + 1) = mkD m (ts.drop (2 ^ m)) (i + 1) then mkD m (ts.take (2 ^ m)) (i + 1) else .nd i (mkD m (ts.take (2 ^ m)) (i + 1)) (mkD m (ts.drop (2 ^ m)) (i + 1))
theorem mkD_wf : ∀ (m : Nat) (ts : List Bool) (i : Nat), wf (i + m) i (mkD m ts i)
  | 0, _, _ => trivial
  | m + 1, ts, i => by
    have a := mkD_wf m (ts.take (2 ^ m)) (i + 1)
    have b := mkD_wf m (ts.drop (2 ^ m)) (i + 1)
    rw [show i + 1 + m = i + (m + 1) by omega] at a b
    rw [mkD]
    split
    · exact a.mono (by omega)
    · exact ⟨Nat.le_refl _, by omega, a, b⟩
theorem mkD_true : ∀ (m : Nat) (ts : List Bool) (i : Nat), ts.length = 2 ^ m → true ∈ ts → ∀ p : List Bool, p.length = i → ∃ c : List Bool, c.length = m ∧ ev (mkD m ts i) (p ++ c) = true
  | 0, ts, i, hl, ht, p, hp => by
    match ts, hl with
    | [b], _ =>
      have : true = b := by simpa using ht
      subst this
      exact ⟨[], rfl, rfl⟩
  | m + 1, ts, i, hl, ht, p, hp => by
    have l1 : (ts.take (2 ^ m)).length = 2 ^ m := by rw [List.length_take, hl, Nat.pow_succ]; omega
    have l2 : (ts.drop (2 ^ m)).length = 2 ^ m := by rw [List.length_drop, hl, Nat.pow_succ]; omega
    have side : ∀ (b : Bool), true ∈ (if b then ts.drop (2 ^ m) else ts.take (2 ^ m)) → ∃ c : List Bool, c.length = m + 1 ∧ ev (mkD (m + 1) ts i) (p ++ c) = true := fun b hb => by
      have at_ : ∀ c' : List Bool, (p ++ b :: c')[i]? = some b := fun c' => by rw [← hp]; simp
      rw [mkD]
      split
      · rename_i e
        obtain ⟨c', hc, he⟩ := mkD_true m (if b then ts.drop (2 ^ m) else ts.take (2 ^ m)) (i + 1) (by cases b; exact l1; exact l2) hb (p ++ [b]) (by simp [hp])
        refine ⟨b :: c', by simp [hc], ?_⟩
        rw [List.append_assoc] at he
        cases b with
        | false => exact he
        | true => rw [e]; exact he
      · obtain ⟨c', hc, he⟩ := mkD_true m (if b then ts.drop (2 ^ m) else ts.take (2 ^ m)) (i + 1) (by cases b; exact l1; exact l2) hb (p ++ [b]) (by simp [hp])
        refine ⟨b :: c', by simp [hc], ?_⟩
        rw [List.append_assoc] at he
        rw [ev, at_]
        cases b with
        | false => exact he
        | true => exact he
    rw [← List.take_append_drop (2 ^ m) ts] at ht
    rcases List.mem_append.mp ht with ht | ht
    · exact side false ht
    · exact side true ht
theorem diagram_eq : ∀ (m : Nat) (ts : List Bool) (i j : Nat), m ≤ 5 → m ≤ j → ts.length = 2 ^ m → G_Ldiagram (j + 1) [.list (ts.map .bool), .int (i : Int)] = some (dD (mkD m ts i))
  | 0, ts, i, j, _, _, hl => by
    match ts, hl with
    | [b], _ =>
      refine runP_of (ρ := [.d (.list [.bool b]), .d (.int (i : Int)), .no, .no, .no]) rfl rfl (B' := ⟨[], []⟩) ?_
      exact seq_ret (ev_if1 (ev_bl (ev_bin (ev_cb (ev_cons (ev_any rfl) ev_nil) rfl) ev_c (gEq_int _ _))) (ev_ret (ev_bin (ev_any rfl) ev_c rfl)))
  | m + 1, ts, i, 0, _, hj, _ => by omega
  | m + 1, ts, i, j + 1, hm, hj, hl => by
    have l1 : (ts.take (2 ^ m)).length = 2 ^ m := by rw [List.length_take, hl, Nat.pow_succ]; omega
    have l2 : (ts.drop (2 ^ m)).length = 2 ^ m := by rw [List.length_drop, hl, Nat.pow_succ]; omega
    have e1 := diagram_eq m (ts.take (2 ^ m)) (i + 1) j (by omega) (by omega) l1
    have e2 := diagram_eq m (ts.drop (2 ^ m)) (i + 1) j (by omega) (by omega) l2
    have w1 := mkD_wf m (ts.take (2 ^ m)) (i + 1)
    have w2 := mkD_wf m (ts.drop (2 ^ m)) (i + 1)
    have d1 := wf_dep (by omega) w1
    have d2 := wf_dep (by omega) w2
    have sm := same_bd 7 (mkD m (ts.take (2 ^ m)) (i + 1)) (mkD m (ts.drop (2 ^ m)) (i + 1)) (by omega) (by omega)
    have hl2 : ((ts.map PyData.bool).length : Int) = ((2 ^ (m + 1) : Nat) : Int) := by rw [List.length_map, hl]
    have pos : 0 < 2 ^ m := Nat.pow_pos (by decide)
    refine runP_of (ρ := [.d (.list (ts.map .bool)), .d (.int (i : Int)), .no, .no, .no]) rfl rfl (B' := ⟨[], []⟩) ?_
    refine ev_seq (ev_if0 (ev_bl (ev_bin (ev_cb (ev_cons (ev_any rfl) ev_nil) (gLen_list _)) ev_c ?_)) ev_next) ?_
    · rw [gEq_int, hl2, decide_eq_false (by rw [Nat.pow_succ]; omega)]
    have half : gFdiv (.int ((ts.map PyData.bool).length : Int)) (.int 2) = some (.int ((2 ^ m : Nat) : Int)) := by
      show gd (decide ((0 : Int) < 2 ∧ (2 : Int) < 1073741824)) _ = _
      rw [show decide ((0 : Int) < 2 ∧ (2 : Int) < 1073741824) = true by decide, gd_t, hl2]
      rw [show ((2 ^ (m + 1) : Nat) : Int) / 2 = ((2 ^ m : Nat) : Int) by rw [Nat.pow_succ]; omega]
    have s1 : gSl (.list (ts.map PyData.bool)) none (some ((2 ^ m : Nat) : Int)) = some (.list ((ts.take (2 ^ m)).map .bool)) := by rw [gSl_list, cutD_to, List.map_take]
    have s2 : gSl (.list (ts.map PyData.bool)) (some ((2 ^ m : Nat) : Int)) none = some (.list ((ts.drop (2 ^ m)).map .bool)) := by rw [gSl_list, cutD_from, List.map_drop]
    have i1 : gAdd (.int (i : Int)) (.int 1) = some (.int ((i + 1 : Nat) : Int)) := by rw [gAdd_int]; rfl
    refine ev_seq (ev_set (ev_bin (ev_cb (ev_cons (ev_any rfl) ev_nil) (gLen_list _)) ev_c half)) (ev_seq (ev_par (ev_cons (ev_call (ev_cons (ev_sl (ev_any rfl) ev_pno (ev_pso (ev_var rfl)) s1) (ev_cons (ev_bin (ev_any rfl) ev_c i1) ev_nil)) rfl e1) (ev_cons (ev_call (ev_cons (ev_sl (ev_any rfl) (ev_pso (ev_var rfl)) ev_pno s2) (ev_cons (ev_bin (ev_any rfl) ev_c i1) ev_nil)) rfl e2) ev_nil))) (ev_ret ?_))
    rw [mkD]
    by_cases c : mkD m (ts.take (2 ^ m)) (i + 1) = mkD m (ts.drop (2 ^ m)) (i + 1)
    · rw [decide_eq_true c] at sm
      rw [if_pos c]
      exact ev_ifE1 (ev_tru (ev_call (ev_cons (ev_var rfl) (ev_cons (ev_var rfl) ev_nil)) rfl sm) rfl) (ev_var rfl)
    · rw [decide_eq_false c] at sm
      rw [if_neg c]
      exact ev_ifE0 (ev_tru (ev_call (ev_cons (ev_var rfl) (ev_cons (ev_var rfl) ev_nil)) rfl sm) rfl) (ev_tup (ev_cons (ev_var rfl) (ev_cons (ev_var rfl) (ev_cons (ev_var rfl) ev_nil))) (by simp))
end K72

namespace K72
open PySem PySem.Spec L2 DL
def bI (b : Bool) : Int := if b then 1 else 0
def cD (c : List Bool) : D := .tuple (c.map fun b => .int (bI b))
def cfgs : Nat → List (List Bool)
  | 0 => [[]]
  | k + 1 => (cfgs k).flatMap fun c => [c ++ [false], c ++ [true]]
theorem cfgs_len : ∀ (k : Nat), ∀ c ∈ cfgs k, c.length = k
  | 0, c, h => by rw [List.mem_singleton.mp h]; rfl
  | k + 1, c, h => by
    obtain ⟨r, hr, hc⟩ := List.mem_flatMap.mp h
    have := cfgs_len k r hr
    simp only [List.mem_cons, List.not_mem_nil, or_false] at hc
    rcases hc with rfl | rfl <;> simp [this]
theorem flat2_len {α : Type} (f g : α → α) : ∀ l : List α, (l.flatMap fun c => [f c, g c]).length = 2 * l.length
  | [] => rfl
  | c :: l => by rw [List.flatMap_cons, List.length_append, flat2_len f g l, List.length_cons]; simp; omega
theorem cfgs_count : ∀ k : Nat, (cfgs k).length = 2 ^ k
  | 0 => rfl
  | k + 1 => by
    rw [cfgs, flat2_len (fun c => c ++ [false]) (fun c => c ++ [true]), cfgs_count k, Nat.pow_succ]; omega
theorem cfgs_mem : ∀ (c : List Bool) (k : Nat), c.length = k → c ∈ cfgs k := fun c => by
  induction hn : c.length generalizing c with
  | zero =>
    intro k hk
    have : c = [] := List.eq_nil_of_length_eq_zero hn
    subst this hk
    exact List.mem_singleton.mpr rfl
  | succ n ih =>
    intro k hk
    subst hk
    rcases List.eq_nil_or_concat c with rfl | ⟨r, b, rfl⟩
    · cases hn
    · rw [List.concat_eq_append] at *
      have hr : r.length = n := by simpa using hn
      refine List.mem_flatMap.mpr ⟨r, ih r hr n rfl, ?_⟩
      cases b <;> simp
theorem gAdd_tup {xs ys : List D} (h : xs.length + ys.length ≤ sizeLine) : gAdd (.tuple xs) (.tuple ys) = some (.tuple (xs ++ ys)) := by
  show gd _ _ = _
  rw [decide_eq_true h]; rfl
theorem cD_app (c : List Bool) (b : Bool) : cD (c ++ [b]) = .tuple (c.map (fun b => PyData.int (bI b)) ++ [.int (bI b)]) := by
  unfold cD; rw [List.map_append]; rfl
theorem gAdd_cD {c : List Bool} (h : c.length ≤ 1000) (b : Bool) : gAdd (cD c) (.tuple [.int (bI b)]) = some (cD (c ++ [b])) := by
  rw [cD_app]
  refine gAdd_tup ?_
  rw [List.length_map]
  exact Nat.le_trans (by simp; omega : c.length + [PyData.int (bI b)].length ≤ 1001) (by decide)
theorem configs_eq {n : Nat} (hn : n ≤ 5) : G_Lconfigs [.int (n : Int)] = some (.list ((cfgs n).map cD)) := by
  have sz : (2000 : Nat) ≤ sizeLine := by decide
  obtain ⟨ρ', B', e, s2, s3, s4, k, hk, hi, rfl, rfl⟩ := forL_inv (g := gSet 2) (fb := b2_Lconfigs) (fun items ρ B => ∃ s2 s3 s4 k, k ≤ n ∧ items = (List.range' k (n - k)).map (fun (i : Nat) => PyData.int (i : Int)) ∧ ρ = [.d (.int (n : Int)), .d (.list ((cfgs k).map cD)), s2, s3, s4] ∧ B = (⟨[], []⟩ : BS)) (by
    rintro d r ρ B ⟨s2, s3, s4, k, hk, hi, rfl, rfl⟩
    have hkn : k < n := by
      by_cases c : k < n
      · exact c
      · rw [show n - k = 0 by omega] at hi; cases hi
    rw [show n - k = (n - (k + 1)) + 1 by omega, List.range'_succ, List.map_cons] at hi
    injection hi with h1 h2
    subst h1 h2
    refine ⟨[.d (.int (n : Int)), .d (.list ((cfgs k).map cD)), .d (.int (k : Int)), s3, s4], ?_⟩
    have pw : (cfgs k).length ≤ 32 := by
      rw [cfgs_count]; exact Nat.pow_le_pow_right (by decide) (by omega : k ≤ 5)
    obtain ⟨ρ2, B2, e2, t4, done, rest, hr, hri, rfl, rfl⟩ := forL_inv (g := gSet 4) (fb := b1_Lconfigs) (fun items ρ B => ∃ t4 done rest, cfgs k = done ++ rest ∧ items = rest.map cD ∧ ρ = [.d (.int (n : Int)), .d (.list ((cfgs k).map cD)), .d (.int (k : Int)), .own ((done.flatMap fun c => [c ++ [false], c ++ [true]]).map cD), t4] ∧ B = (⟨[], []⟩ : BS)) (by
      rintro d r ρ B ⟨t4, done, rest, hr, hri, rfl, rfl⟩
      cases rest with
      | nil => cases hri
      | cons c rest =>
        rw [List.map_cons] at hri
        injection hri with h1 h2
        subst h1 h2
        have hcl : c.length = k := cfgs_len k c (by rw [hr]; simp)
        have hdl : done.length ≤ 32 := by
          have := congrArg List.length hr
          rw [List.length_append] at this; omega
        refine ⟨[.d (.int (n : Int)), .d (.list ((cfgs k).map cD)), .d (.int (k : Int)), .own ((done.flatMap fun c => [c ++ [false], c ++ [true]]).map cD), .d (cD c)], _, _, rfl, ev_ext rfl (ev_fr (ev_lst (ev_cons (ev_bin (ev_any rfl) (ev_tup (ev_cons ev_c ev_nil) (by simp)) (gAdd_cD (by omega) false)) (ev_cons (ev_bin (ev_any rfl) (ev_tup (ev_cons ev_c ev_nil) (by simp)) (gAdd_cD (by omega) true)) ev_nil)) (by simp))) ?_, .d (cD c), done ++ [c], rest, by rw [hr, List.append_assoc]; rfl, rfl, ?_, rfl⟩
        · rw [List.length_map, flat2_len (fun c => c ++ [false]) (fun c => c ++ [true])]; simp; omega
        · rw [List.flatMap_append, List.map_append]; rfl) ((cfgs k).map cD) [.d (.int (n : Int)), .d (.list ((cfgs k).map cD)), .d (.int (k : Int)), .own [], s4] ⟨[], []⟩ ⟨s4, [], cfgs k, rfl, rfl, rfl, rfl⟩
    have hr0 : rest = [] := by
      cases rest with
      | nil => rfl
      | cons _ _ => cases hri
    subst hr0
    rw [List.append_nil] at hr
    refine ⟨[.d (.int (n : Int)), .d (.list ((cfgs (k + 1)).map cD)), .d (.int (k : Int)), .d (.list ((cfgs (k + 1)).map cD)), t4], _, rfl, ev_seq (ev_setO (ev_lst ev_nil (by simp))) (ev_seq (ev_for (ev_it (ev_var rfl) rfl) e2) ?_), .d (.int k), _, t4, k + 1, hkn, rfl, rfl, rfl⟩
    rw [cfgs, hr]
    exact ev_set (ev_var rfl)) ((List.range n).map fun (i : Nat) => PyData.int (i : Int)) [.d (.int (n : Int)), .d (.list ((cfgs 0).map cD)), .no, .no, .no] ⟨[], []⟩ ⟨.no, .no, .no, 0, Nat.zero_le _, by rw [List.range_eq_range']; rfl, rfl, rfl⟩
  have hkn : k = n := by
    by_cases c : k < n
    · rw [show n - k = (n - (k + 1)) + 1 by omega, List.range'_succ] at hi; cases hi
    · omega
  subst hkn
  exact runP_of (ρ := [.d (.int (k : Int)), .no, .no, .no, .no]) rfl rfl (ev_seq (ev_set (ev_fr (ev_lst (ev_cons (ev_tup ev_nil (by simp)) ev_nil) (by simp)))) (ev_seq (ev_for (ev_co (ev_cons (ev_any rfl) ev_nil) (rng1_nat (by omega))) e) (ev_ret (ev_var rfl))))
def stepD (i : Nat) (b : Bool) : BD → BD
  | .lf b' => .lf b'
  | .nd j lo hi => if j = i then (if b then hi else lo) else .nd j lo hi
theorem step_wf {n i : Nat} {b : Bool} : ∀ {d : BD}, wf n i d → wf n (i + 1) (stepD i b d)
  | .lf _, _ => trivial
  | .nd j lo hi, ⟨h1, h2, h3, h4⟩ => by
    show wf n (i + 1) (if j = i then (if b then hi else lo) else .nd j lo hi)
    by_cases c : j = i
    · subst c
      rw [if_pos rfl]
      cases b
      · exact h3
      · exact h4
    · rw [if_neg c]
      exact ⟨by omega, h2, h3, h4⟩
theorem step_ev {i : Nat} {d : BD} {c : List Bool} {b : Bool} (h : c[i]? = some b) : ev (stepD i b d) c = ev d c := by
  cases d with
  | lf _ => rfl
  | nd j lo hi =>
    show ev (if j = i then (if b then hi else lo) else .nd j lo hi) c = _
    by_cases e : j = i
    · subst e
      rw [if_pos rfl, ev, h]
      cases b <;> rfl
    · rw [if_neg e]
theorem ix_cD {c : List Bool} {i : Nat} {b : Bool} (h : c[i]? = some b) : gIx (cD c) (.int (i : Int)) = some (.int (bI b)) := by
  unfold cD
  rw [gIx_tuple, List.getElem?_map, h]; rfl
theorem pick_bit (j : Nat) (lo hi : BD) (b : Bool) : gIx (dD (.nd j lo hi)) (.int (1 + bI b)) = some (dD (if b then hi else lo)) := by
  cases b <;> rfl
theorem wf_end {n : Nat} {d : BD} (h : wf n n d) : ∃ b, d = .lf b := by
  cases d with
  | lf b => exact ⟨b, rfl⟩
  | nd j lo hi => obtain ⟨a, b, _⟩ := h; omega
theorem Lholds_eq {n : Nat} {d : BD} {c : List Bool} (hn : n ≤ 1000) (hw : wf n 0 d) (hc : c.length = n) : G_Lholds [dD d, cD c] = some (.bool (ev d c)) := by
  obtain ⟨ρ', B', e, d', s2, k, hk, hi, hwk, hev, rfl, rfl⟩ := forL_inv (g := gSet 2) (fb := b1_Lholds) (fun items ρ B => ∃ d' s2 k, k ≤ n ∧ items = (List.range' k (n - k)).map (fun (i : Nat) => PyData.int (i : Int)) ∧ wf n k d' ∧ ev d' c = ev d c ∧ ρ = [.d (dD d'), .d (cD c), s2] ∧ B = (⟨[], []⟩ : BS)) (by
    rintro x r ρ B ⟨d', s2, k, hk, hi, hwk, hev, rfl, rfl⟩
    have hkn : k < n := by
      by_cases c : k < n
      · exact c
      · rw [show n - k = 0 by omega] at hi; cases hi
    rw [show n - k = (n - (k + 1)) + 1 by omega, List.range'_succ, List.map_cons] at hi
    injection hi with h1 h2
    subst h1 h2
    have hck : c[k]? = some c[k] := List.getElem?_eq_getElem (by omega)
    refine ⟨[.d (dD d'), .d (cD c), .d (.int (k : Int))], [.d (dD (stepD k c[k] d')), .d (cD c), .d (.int (k : Int))], _, rfl, ?_, stepD k c[k] d', .d (.int k), k + 1, hkn, rfl, step_wf hwk, (step_ev hck).trans hev, rfl, rfl⟩
    cases d' with
    | lf b => exact ev_if0 (ev_and0 (isi_ev rfl (by simp [isD, dD]))) ev_next
    | nd j lo hi =>
      have t1 : fTru (fIsi "tuple" (fAny 0)) [.d (dD (.nd j lo hi)), .d (cD c), .d (.int (k : Int))] ⟨[], []⟩ = some (true, ⟨[], []⟩) := isi_ev rfl (by simp [isD, dD])
      have t2 : fBl (fBin gEq (fBin gIx (fAny 0) (fC (.int 0))) (fAny 2)) [.d (dD (.nd j lo hi)), .d (cD c), .d (.int (k : Int))] ⟨[], []⟩ = some (decide ((j : Int) = (k : Int)), ⟨[], []⟩) := ev_bl (ev_bin (ev_bin (ev_any rfl) ev_c rfl) (ev_any rfl) (gEq_int _ _))
      show fIf _ _ _ _ _ = some (.nx [.d (dD (if j = k then (if c[k] then hi else lo) else .nd j lo hi)), _, _], _)
      by_cases q : j = k
      · subst q
        rw [decide_eq_true rfl] at t2
        rw [if_pos rfl]
        exact ev_if1 (ev_and t1 t2) (ev_set (ev_bin (ev_any rfl) (ev_bin ev_c (ev_bin (ev_any rfl) (ev_any rfl) (ix_cD hck)) (gAdd_int _ _)) (pick_bit j lo hi c[j])))
      · rw [decide_eq_false (by omega)] at t2
        rw [if_neg q]
        exact ev_if0 (ev_and t1 t2) ev_next) ((List.range n).map fun (i : Nat) => PyData.int (i : Int)) [.d (dD d), .d (cD c), .no] ⟨[], []⟩ ⟨d, .no, 0, Nat.zero_le _, by rw [List.range_eq_range']; rfl, hw, rfl, rfl, rfl⟩
  have hkn : k = n := by
    by_cases c : k < n
    · rw [show n - k = (n - (k + 1)) + 1 by omega, List.range'_succ] at hi; cases hi
    · omega
  subst hkn
  obtain ⟨b, rfl⟩ := wf_end hwk
  rw [← hev]
  refine runP_of (ρ := [.d (dD d), .d (cD c), .no]) rfl rfl (ev_seq (ev_for (ev_co (ev_cons (ev_cb (ev_cons (ev_any rfl) ev_nil) (gLen_tuple _)) ev_nil) (by rw [List.length_map, hc]; exact rng1_nat (by omega))) e) (ev_ret (ev_var rfl)))
theorem holds_eq {n : Nat} {d : BD} {c : List Bool} (hn : n ≤ 1000) (hw : wf n 0 d) (hc : c.length = n) : G_holds [dD d, cD c] = some (.bool (ev d c)) := by
  obtain ⟨ρ', B', e, d', b, rfl, hev, rfl, rfl⟩ := fWhile_inv (ft := fTru (fIsi "tuple" (fAny 0))) (fb := b1_holds) (fun m ρ B => ∃ d', m = dep d' ∧ (∃ i, wf n i d') ∧ ev d' c = ev d c ∧ ρ = [.d (dD d'), .d (cD c)] ∧ B = (⟨[], []⟩ : BS)) (fun ρ B => ∃ d' b, d' = BD.lf b ∧ ev d' c = ev d c ∧ ρ = [.d (dD d'), .d (cD c)] ∧ B = (⟨[], []⟩ : BS)) (by
    rintro m ρ B ⟨d', rfl, ⟨i, hwi⟩, hev, rfl, rfl⟩
    cases d' with
    | lf b =>
      refine ⟨false, _, isi_ev rfl (by simp [isD, dD]), fun z => (nomatch z), fun _ => ⟨_, b, rfl, hev, rfl, rfl⟩⟩
    | nd j lo hi =>
      obtain ⟨h1, h2, h3, h4⟩ := hwi
      have hcj : c[j]? = some c[j] := List.getElem?_eq_getElem (by omega)
      refine ⟨true, _, isi_ev rfl (by simp [isD, dD]), fun _ => ⟨[.d (dD (if c[j] then hi else lo)), .d (cD c)], _, ev_set (ev_bin (ev_any rfl) (ev_bin ev_c (ev_bin (ev_any rfl) (ev_bin (ev_any rfl) ev_c rfl) (ix_cD hcj)) (gAdd_int _ _)) (pick_bit j lo hi c[j])), dep (if c[j] then hi else lo), ?_, _, rfl, ⟨j + 1, ?_⟩, ?_, rfl, rfl⟩, fun z => (nomatch z)⟩
      · show dep (if c[j] then hi else lo) < max (dep lo) (dep hi) + 1
        cases c[j] <;> simp <;> omega
      · cases c[j]
        · exact h3
        · exact h4
      · rw [← hev, ev, hcj]
        cases c[j] <;> rfl) (n := dep d) (B := ⟨[], []⟩) (ρ := [.d (dD d), .d (cD c)]) (by have := wf_dep (Nat.zero_le n) hw; omega) ⟨d, rfl, ⟨0, hw⟩, rfl, rfl, rfl⟩
  rw [← hev]
  exact runP_of (ρ := [.d (dD d), .d (cD c)]) rfl rfl (ev_seq e (ev_ret (ev_var rfl)))
end K72

namespace K72
open PySem PySem.Spec L2 DL
def restD (d : BD) : Nat → List Bool → BD
  | _, [] => d
  | i, b :: c => restD (stepD i b d) (i + 1) c
theorem restD_app (b : Bool) : ∀ (c : List Bool) (d : BD) (i : Nat), restD d i (c ++ [b]) = stepD (i + c.length) b (restD d i c)
  | [], d, i => rfl
  | x :: c, d, i => by
    show restD (stepD i x d) (i + 1) (c ++ [b]) = stepD (i + (c.length + 1)) b (restD (stepD i x d) (i + 1) c)
    rw [restD_app b c, show i + 1 + c.length = i + (c.length + 1) by omega]
theorem restD_wf {n : Nat} : ∀ (c : List Bool) (d : BD) (i : Nat), wf n i d → wf n (i + c.length) (restD d i c)
  | [], _, _, h => h
  | b :: c, d, i, h => by
    have := restD_wf c (stepD i b d) (i + 1) (step_wf h)
    rw [show i + 1 + c.length = i + (b :: c).length by simp; omega] at this
    exact this
theorem restD_ev : ∀ (c : List Bool) (d : BD) (p : List Bool), ev (restD d p.length c) (p ++ c) = ev d (p ++ c)
  | [], _, _ => rfl
  | b :: c, d, p => by
    have h := restD_ev c (stepD p.length b d) (p ++ [b])
    rw [List.length_append, List.length_singleton, List.append_assoc] at h
    show ev (restD (stepD p.length b d) (p.length + 1) c) (p ++ b :: c) = _
    refine h.trans (step_ev ?_)
    simp
theorem restD_lf (b : Bool) : ∀ (c : List Bool) (i : Nat), restD (.lf b) i c = .lf b
  | [], _ => rfl
  | _ :: c, i => restD_lf b c (i + 1)
def valid (d : BD) (n : Nat) : List (List Bool) := (cfgs n).filter fun c => ev d c
def alive (d : BD) (k : Nat) : List (List Bool) := (cfgs k).filter fun c => decide (restD d 0 c ≠ .lf false)
def crD (d : BD) (c : List Bool) : D := .tuple [cD c, dD (restD d 0 c)]
def kids (d : BD) (c : List Bool) : List (List Bool) := [c ++ [false], c ++ [true]].filter fun c => decide (restD d 0 c ≠ .lf false)
theorem flat_filter {α β : Type} (f : α → List β) (p : β → Bool) (q : α → Bool) (h : ∀ a, q a = false → (f a).filter p = []) : ∀ l : List α, (l.flatMap f).filter p = (l.filter q).flatMap fun a => (f a).filter p
  | [] => rfl
  | a :: l => by
    rw [List.flatMap_cons, List.filter_append, flat_filter f p q h l]
    cases e : q a with
    | true => rw [List.filter_cons_of_pos e, List.flatMap_cons]
    | false => rw [List.filter_cons_of_neg (by rw [e]; exact Bool.false_ne_true), h a e, List.nil_append]
theorem alive_succ (d : BD) (k : Nat) : alive d (k + 1) = (alive d k).flatMap (kids d) := by
  unfold alive kids
  rw [cfgs]
  refine flat_filter (fun c => [c ++ [false], c ++ [true]]) _ _ (fun c h => ?_) _
  have e : restD d 0 c = .lf false := by simpa using h
  have : ∀ b : Bool, restD d 0 (c ++ [b]) = .lf false := fun b => by rw [restD_app, e]; rfl
  rw [List.filter_cons_of_neg (by rw [this]; simp), List.filter_cons_of_neg (by rw [this]; simp)]; rfl
theorem alive_len (d : BD) (k : Nat) : (alive d k).length ≤ 2 ^ k := by
  unfold alive
  rw [← cfgs_count]
  exact List.length_filter_le _ _
theorem pick_bit2 (j : Nat) (lo hi : BD) (b : Bool) : gIx (dD (.nd j lo hi)) (.int (1 + bI b)) = some (dD (if b then hi else lo)) := pick_bit j lo hi b
theorem bit_turn {n : Nat} {d : BD} {c : List Bool} {s2 : Sl} {k : Nat} {acc : List D} {s7 s8 : Sl} (hk : c.length = k) (hk2 : k ≤ 100) (ha : acc.length ≤ 100) (b : Bool) (B : BS) :
    ∃ s8', b1_chosen [.d (dD d), .d (.int (n : Int)), s2, .d (.int (k : Int)), .own acc, .d (cD c), .d (dD (restD d 0 c)), .d (.int (bI b)), s8] B = some (.nx [.d (dD d), .d (.int (n : Int)), s2, .d (.int (k : Int)), .own (acc ++ (if restD d 0 (c ++ [b]) = .lf false then [] else [crD d (c ++ [b])])), .d (cD c), .d (dD (restD d 0 c)), .d (.int (bI b)), s8'], B) := by
  have hr : restD d 0 (c ++ [b]) = stepD k b (restD d 0 c) := by rw [restD_app, Nat.zero_add, hk]
  have e1 : fIfE (fAndT (fTru (fIsi "tuple" (fAny 6))) (fBl (fBin gEq (fBin gIx (fAny 6) (fC (.int 0))) (fAny 3)))) (fBin gIx (fAny 6) (fBin gAdd (fC (.int 1)) (fAny 7))) (fVar 6) [.d (dD d), .d (.int (n : Int)), s2, .d (.int (k : Int)), .own acc, .d (cD c), .d (dD (restD d 0 c)), .d (.int (bI b)), s8] B = some (dD (restD d 0 (c ++ [b])), B) := by
    rw [hr]
    cases restD d 0 c with
    | lf b' => exact ev_ifE0 (ev_and0 (isi_ev rfl (by simp [isD, dD]))) (ev_var rfl)
    | nd j lo hi =>
      have t1 : fTru (fIsi "tuple" (fAny 6)) [.d (dD d), .d (.int (n : Int)), s2, .d (.int (k : Int)), .own acc, .d (cD c), .d (dD (.nd j lo hi)), .d (.int (bI b)), s8] B = some (true, B) := isi_ev rfl (by simp [isD, dD])
      have t2 : fBl (fBin gEq (fBin gIx (fAny 6) (fC (.int 0))) (fAny 3)) [.d (dD d), .d (.int (n : Int)), s2, .d (.int (k : Int)), .own acc, .d (cD c), .d (dD (.nd j lo hi)), .d (.int (bI b)), s8] B = some (decide ((j : Int) = (k : Int)), B) := ev_bl (ev_bin (ev_bin (ev_any rfl) ev_c rfl) (ev_any rfl) (gEq_int _ _))
      show _ = some (dD (if j = k then (if b then hi else lo) else .nd j lo hi), B)
      by_cases q : j = k
      · subst q
        rw [decide_eq_true rfl] at t2
        rw [if_pos rfl]
        exact ev_ifE1 (ev_and t1 t2) (ev_bin (ev_any rfl) (ev_bin ev_c (ev_any rfl) (gAdd_int _ _)) (pick_bit j lo hi b))
      · rw [decide_eq_false (by omega)] at t2
        rw [if_neg q]
        exact ev_ifE0 (ev_and t1 t2) (ev_var rfl)
  refine ⟨.d (dD (restD d 0 (c ++ [b]))), ev_seq (ev_set e1) ?_⟩
  have t3 : fBl (fBin gIsNot (fAny 8) (fC (.bool false))) [.d (dD d), .d (.int (n : Int)), s2, .d (.int (k : Int)), .own acc, .d (cD c), .d (dD (restD d 0 c)), .d (.int (bI b)), .d (dD (restD d 0 (c ++ [b])))] B = some (!isBool false (dD (restD d 0 (c ++ [b]))), B) := ev_bl (ev_bin (ev_any rfl) ev_c rfl)
  by_cases q : restD d 0 (c ++ [b]) = .lf false
  · rw [if_pos q, List.append_nil]
    rw [q] at t3 ⊢
    exact ev_if0 t3 ev_next
  · rw [if_neg q]
    have hb : isBool false (dD (restD d 0 (c ++ [b]))) = false := by
      cases z : restD d 0 (c ++ [b]) with
      | lf b' =>
        cases b' with
        | false => exact absurd z q
        | true => rfl
      | nd _ _ _ => rfl
    rw [hb] at t3
    exact ev_if1 t3 (ev_app rfl (ev_tup (ev_cons (ev_bin (ev_any rfl) (ev_tup (ev_cons (ev_var rfl) ev_nil) (by simp)) (gAdd_cD (by omega) b)) (ev_cons (ev_var rfl) ev_nil)) (by simp)) (Nat.lt_of_le_of_lt ha (by decide)))
theorem kids_eq (d : BD) (c : List Bool) : (kids d c).map (crD d) = (if restD d 0 (c ++ [false]) = .lf false then [] else [crD d (c ++ [false])]) ++ (if restD d 0 (c ++ [true]) = .lf false then [] else [crD d (c ++ [true])]) := by
  unfold kids
  by_cases h1 : restD d 0 (c ++ [false]) = .lf false
  · by_cases h2 : restD d 0 (c ++ [true]) = .lf false
    · simp [h1, h2]
    · simp [h1, h2]
  · by_cases h2 : restD d 0 (c ++ [true]) = .lf false
    · simp [h1, h2]
    · simp [h1, h2]
theorem rest_end {n : Nat} {d : BD} (hw : wf n 0 d) {c : List Bool} (hc : c.length = n) : restD d 0 c = .lf (ev d c) := by
  have h := restD_wf c d 0 hw
  rw [Nat.zero_add, hc] at h
  obtain ⟨b, hb⟩ := wf_end h
  have e := restD_ev c d []
  rw [List.length_nil, hb, List.nil_append] at e
  rw [hb, ← e]; rfl
theorem alive_end {n : Nat} {d : BD} (hw : wf n 0 d) : alive d n = valid d n := by
  unfold alive valid
  refine List.filter_congr fun c hc => ?_
  rw [rest_end hw (cfgs_len n c hc)]
  cases ev d c <;> simp
theorem chosen_eq {n : Nat} {d : BD} (hn : n ≤ 5) (hw : wf n 0 d) (hd : d ≠ .lf false) : G_chosen [dD d, .int (n : Int)] = some (.list ((valid d n).map cD)) := by
  have sz : (2000 : Nat) ≤ sizeLine := by decide
  have al0 : alive d 0 = [[]] := by
    unfold alive
    rw [cfgs, List.filter_cons_of_pos (by show decide (restD d 0 [] ≠ .lf false) = true; exact decide_eq_true hd)]; rfl
  obtain ⟨ρ', B', e, s3, s4, s5, s6, s7, s8, k, hk, hi, rfl, rfl⟩ := forL_inv (g := gSet 3) (fb := b3_chosen) (fun items ρ B => ∃ s3 s4 s5 s6 s7 s8 k, k ≤ n ∧ items = (List.range' k (n - k)).map (fun (i : Nat) => PyData.int (i : Int)) ∧ ρ = [.d (dD d), .d (.int (n : Int)), .d (.list ((alive d k).map (crD d))), s3, s4, s5, s6, s7, s8] ∧ B = (⟨[], []⟩ : BS)) (by
    rintro x r ρ B ⟨s3, s4, s5, s6, s7, s8, k, hk, hi, rfl, rfl⟩
    have hkn : k < n := by
      by_cases c : k < n
      · exact c
      · rw [show n - k = 0 by omega] at hi; cases hi
    rw [show n - k = (n - (k + 1)) + 1 by omega, List.range'_succ, List.map_cons] at hi
    injection hi with h1 h2
    subst h1 h2
    refine ⟨[.d (dD d), .d (.int (n : Int)), .d (.list ((alive d k).map (crD d))), .d (.int (k : Int)), s4, s5, s6, s7, s8], ?_⟩
    have pw : (alive d k).length ≤ 32 := Nat.le_trans (alive_len d k) (Nat.pow_le_pow_right (by decide) (by omega : k ≤ 5))
    have al : ∀ c ∈ alive d k, c.length = k := fun c hc => cfgs_len k c (List.mem_filter.mp hc).1
    obtain ⟨ρ2, B2, e2, t5, t6, t7, t8, done, rest, hr, hri, rfl, rfl⟩ := forL_inv (g := gTupD (gsCons (gSet 5) (gsCons (gSet 6) gsNil))) (fb := b2_chosen) (fun items ρ B => ∃ t5 t6 t7 t8 done rest, alive d k = done ++ rest ∧ items = rest.map (crD d) ∧ ρ = [.d (dD d), .d (.int (n : Int)), .d (.list ((alive d k).map (crD d))), .d (.int (k : Int)), .own ((done.flatMap (kids d)).map (crD d)), t5, t6, t7, t8] ∧ B = (⟨[], []⟩ : BS)) (by
      rintro x r ρ B ⟨t5, t6, t7, t8, done, rest, hr, hri, rfl, rfl⟩
      cases rest with
      | nil => cases hri
      | cons c rest =>
        rw [List.map_cons] at hri
        injection hri with h1 h2
        subst h1 h2
        have hcl : c.length = k := al c (by rw [hr]; simp)
        have hdl : done.length ≤ 32 := by
          have := congrArg List.length hr
          rw [List.length_append] at this; omega
        have kl : ∀ l : List (List Bool), (l.flatMap (kids d)).length ≤ 2 * l.length := fun l => by
          induction l with
          | nil => exact Nat.le_refl _
          | cons x l ih =>
            rw [List.flatMap_cons, List.length_append, List.length_cons]
            have : (kids d x).length ≤ 2 := List.length_filter_le _ _
            omega
        have k1 := kl done
        obtain ⟨u8, eb0⟩ := bit_turn (n := n) (s2 := .d (.list ((alive d k).map (crD d)))) (s8 := t8) (s7 := t7) (acc := (done.flatMap (kids d)).map (crD d)) hcl (by omega) (by rw [List.length_map]; omega) false ⟨[], []⟩
        obtain ⟨v8, eb1⟩ := bit_turn (n := n) (s2 := .d (.list ((alive d k).map (crD d)))) (s8 := u8) (s7 := t7) (acc := (done.flatMap (kids d)).map (crD d) ++ (if restD d 0 (c ++ [false]) = .lf false then [] else [crD d (c ++ [false])])) hcl (by omega) (by
          rw [List.length_append, List.length_map]
          have : (if restD d 0 (c ++ [false]) = BD.lf false then ([] : List D) else [crD d (c ++ [false])]).length ≤ 1 := by split <;> simp
          omega) true ⟨[], []⟩
        refine ⟨[.d (dD d), .d (.int (n : Int)), .d (.list ((alive d k).map (crD d))), .d (.int (k : Int)), .own ((done.flatMap (kids d)).map (crD d)), .d (cD c), .d (dD (restD d 0 c)), t7, t8], [.d (dD d), .d (.int (n : Int)), .d (.list ((alive d k).map (crD d))), .d (.int (k : Int)), .own (((done.flatMap (kids d)).map (crD d) ++ (if restD d 0 (c ++ [false]) = .lf false then [] else [crD d (c ++ [false])])) ++ (if restD d 0 (c ++ [true]) = .lf false then [] else [crD d (c ++ [true])])), .d (cD c), .d (dD (restD d 0 c)), .d (.int (bI true)), v8], _, rfl, ?_, .d (cD c), .d (dD (restD d 0 c)), .d (.int (bI true)), v8, done ++ [c], rest, by rw [hr, List.append_assoc]; rfl, rfl, ?_, rfl⟩
        · refine ev_for (ev_it (ev_tup (ev_cons ev_c (ev_cons ev_c ev_nil)) (by simp)) rfl) ?_
          exact (forL_step rfl eb0).trans ((forL_step rfl eb1).trans rfl)
        · rw [List.flatMap_append, List.map_append, List.flatMap_singleton, kids_eq, List.append_assoc]) ((alive d k).map (crD d)) [.d (dD d), .d (.int (n : Int)), .d (.list ((alive d k).map (crD d))), .d (.int (k : Int)), .own [], s5, s6, s7, s8] ⟨[], []⟩ ⟨s5, s6, s7, s8, [], alive d k, rfl, rfl, rfl, rfl⟩
    have hr0 : rest = [] := by
      cases rest with
      | nil => rfl
      | cons _ _ => cases hri
    subst hr0
    rw [List.append_nil] at hr
    refine ⟨[.d (dD d), .d (.int (n : Int)), .d (.list ((alive d (k + 1)).map (crD d))), .d (.int (k : Int)), .d (.list ((alive d (k + 1)).map (crD d))), t5, t6, t7, t8], _, rfl, ev_seq (ev_setO (ev_lst ev_nil (by simp))) (ev_seq (ev_for (ev_it (ev_var rfl) rfl) e2) ?_), .d (.int k), _, t5, t6, t7, t8, k + 1, hkn, rfl, rfl, rfl⟩
    rw [alive_succ, hr]
    exact ev_set (ev_var rfl)) ((List.range n).map fun (i : Nat) => PyData.int (i : Int)) [.d (dD d), .d (.int (n : Int)), .d (.list [crD d []]), .no, .no, .no, .no, .no, .no] ⟨[], []⟩ ⟨.no, .no, .no, .no, .no, .no, 0, Nat.zero_le _, by rw [List.range_eq_range']; rfl, by rw [al0]; rfl, rfl⟩
  have hkn : k = n := by
    by_cases c : k < n
    · rw [show n - k = (n - (k + 1)) + 1 by omega, List.range'_succ] at hi; cases hi
    · omega
  subst hkn
  have pw : (alive d k).length ≤ 32 := Nat.le_trans (alive_len d k) (Nat.pow_le_pow_right (by decide) (by omega : k ≤ 5))
  have L := lcL_pure (g := gTupD (gsCons (gSet 5) (gsCons (gSet 6) gsNil))) (ft := c1_chosen) (fe := fVar 5) (ρ := wipeE [.d (dD d), .d (.int (k : Int)), .d (.list ((alive d k).map (crD d))), s3, s4, s5, s6, s7, s8] [5, 6]) (B := ⟨[], []⟩) (fun _ => true) (fun x => match x with | .tuple (c :: _) => c | _ => .none) ((alive d k).map (crD d)) [] (fun x hx => by
    obtain ⟨c, hc, rfl⟩ := List.mem_map.mp hx
    have hv : ev d c = true := by rw [alive_end hw] at hc; exact (List.mem_filter.mp hc).2
    have hr := rest_end hw (cfgs_len k c (List.mem_filter.mp hc).1)
    rw [hv] at hr
    refine ⟨[.d (dD d), .d (.int (k : Int)), .d (.list ((alive d k).map (crD d))), s3, s4, .d (cD c), .d (dD (restD d 0 c)), s7, s8], rfl, ?_, fun _ => ev_var rfl⟩
    rw [hr]
    exact ev_bl (ev_bin (ev_any rfl) ev_c rfl)) (by simp; omega)
  have res : (((alive d k).map (crD d)).filter fun _ => true).map (fun x => match x with | .tuple (c :: _) => c | _ => PyData.none) = (valid d k).map cD := by
    rw [List.filter_eq_self.mpr (fun _ _ => rfl), List.map_map, alive_end hw]
    rfl
  rw [res, List.nil_append] at L
  exact runP_of (ρ := [.d (dD d), .d (.int (k : Int)), .no, .no, .no, .no, .no, .no, .no]) rfl rfl (ev_seq (ev_set (ev_fr (ev_lst (ev_cons (ev_tup (ev_cons (ev_tup ev_nil (by simp)) (ev_cons (ev_var rfl) ev_nil)) (by simp)) ev_nil) (by simp)))) (ev_seq (ev_for (ev_co (ev_cons (ev_any rfl) ev_nil) (rng1_nat (by omega))) e) (ev_ret (ev_fr (ev_lc (ev_it (ev_any rfl) rfl) L)))))
end K72

namespace DL
open PySem PySem.Spec L2
theorem lcL2_map {g : D → Env → Option Env} {ft : Env → M Bool} {fi1 : Env → M (List D)} {g1 : D → Env → Option Env} {ft1 : Env → M Bool} {fe : Env → M D} {vs1 : List Nat} {ρ : Env} {B : BS} (ins : D → List D) (f : D → D → D) : ∀ (items acc : List D), (∀ d ∈ items, ∃ ρ1, g d ρ = some ρ1 ∧ ft ρ1 B = some (true, B) ∧ fi1 ρ1 B = some (ins d, B) ∧ ∀ x ∈ ins d, ∃ ρ2, g1 x (wipeE ρ1 vs1) = some ρ2 ∧ ft1 ρ2 B = some (true, B) ∧ fe ρ2 B = some (f d x, B)) → acc.length + (items.flatMap ins).length ≤ sizeLine →
    lcL2 g ft fi1 g1 ft1 fe vs1 ρ items acc B = some (acc ++ items.flatMap fun d => (ins d).map (f d), B)
  | [], acc, _, _ => by simp [lcL2]
  | d :: r, acc, h, hl => by
    obtain ⟨ρ1, e1, e2, e3, e4⟩ := h d List.mem_cons_self
    rw [List.flatMap_cons, List.length_append] at hl
    have inner := lcL_pure (g := g1) (ft := ft1) (fe := fe) (ρ := wipeE ρ1 vs1) (B := B) (fun _ => true) (f d) (ins d) acc (fun x hx => by
      obtain ⟨ρ2, a, b, c⟩ := e4 x hx
      exact ⟨ρ2, a, b, fun _ => c⟩) (by omega)
    rw [List.filter_eq_self.mpr (fun _ _ => rfl)] at inner
    show ob (g d ρ) _ = _
    rw [e1, ob_some, e2, mb_some]
    show mb (fi1 ρ1 B) _ = _
    rw [e3, mb_some, inner, mb_some]
    rw [lcL2_map ins f r (acc ++ (ins d).map (f d)) (fun d hd => h d (List.mem_cons_of_mem _ hd)) (by rw [List.length_append, List.length_map]; omega)]
    rw [List.flatMap_cons, List.append_assoc]
theorem ev_lc2 {fl : Env → M (List D)} {g : D → Env → Option Env} {ft : Env → M Bool} {fi1 : Env → M (List D)} {g1 : D → Env → Option Env} {ft1 : Env → M Bool} {fe : Env → M D} {vs vs1 : List Nat} {ρ : Env} {B B1 B2 : BS} {xs ds : List D} (h1 : fl ρ B = some (xs, B1)) (h2 : lcL2 g ft fi1 g1 ft1 fe vs1 (wipeE ρ vs) xs [] B1 = some (ds, B2)) : fLc2 fl g ft fi1 g1 ft1 fe vs vs1 ρ B = some (ds, B2) := by
  unfold fLc2; rw [h1, mb_some, h2]
end DL
namespace K72
open PySem PySem.Spec L2 DL
abbrev St := List (Nat × Bool)
def pD (p : Nat × Bool) : D := .tuple [.int (p.1 : Int), .int (bI p.2)]
def sD (s : St) : D := .tuple (s.map pD)
def fstS (s : St) : Nat := match s.getLast? with
  | some p => p.1 + 1
  | none => 0
def kidS (n : Nat) (s : St) : List St := (List.range' (fstS s) (n - fstS s)).flatMap fun i => [s ++ [(i, false)], s ++ [(i, true)]]
def sets (n : Nat) : Nat → List St
  | 0 => [[]]
  | t + 1 => (sets n t).flatMap (kidS n)
theorem fm_len {α β : Type} {f : α → List β} {k : Nat} : ∀ {l : List α}, (∀ x ∈ l, (f x).length ≤ k) → (l.flatMap f).length ≤ k * l.length
  | [], _ => Nat.zero_le _
  | x :: l, h => by
    rw [List.flatMap_cons, List.length_append, List.length_cons, Nat.mul_succ]
    have a := h x List.mem_cons_self
    have b := fm_len (l := l) fun y hy => h y (List.mem_cons_of_mem _ hy)
    omega
theorem kidS_len (n : Nat) (s : St) : (kidS n s).length ≤ 2 * n := by
  unfold kidS
  refine Nat.le_trans (fm_len (k := 2) fun i _ => by simp) ?_
  rw [List.length_range']
  exact Nat.mul_le_mul_left _ (Nat.sub_le _ _)
theorem sets_len (n : Nat) : ∀ t : Nat, (sets n t).length ≤ (2 * n) ^ t
  | 0 => Nat.le_refl _
  | t + 1 => by
    rw [sets]
    refine Nat.le_trans (fm_len fun s _ => kidS_len n s) ?_
    rw [Nat.pow_succ, Nat.mul_comm]
    exact Nat.mul_le_mul_right _ (sets_len n t)
theorem sets_small {n t : Nat} (hn : n ≤ 5) (ht : t ≤ 5) : (sets n t).length ≤ 100000 := by
  refine Nat.le_trans (sets_len n t) ?_
  refine Nat.le_trans (Nat.pow_le_pow_left (by omega : 2 * n ≤ 10) t) ?_
  exact Nat.pow_le_pow_right (by decide) ht
theorem sets_size (n : Nat) : ∀ t : Nat, ∀ s ∈ sets n t, s.length = t
  | 0, s, h => by rw [List.mem_singleton.mp h]; rfl
  | t + 1, s, h => by
    obtain ⟨r, hr, hs⟩ := List.mem_flatMap.mp h
    have := sets_size n t r hr
    obtain ⟨i, _, hs⟩ := List.mem_flatMap.mp hs
    simp only [List.mem_cons, List.not_mem_nil, or_false] at hs
    rcases hs with rfl | rfl <;> simp [this]
theorem last_lt {s : St} (h : s.Pairwise fun p p' => p.1 < p'.1) : ∀ p ∈ s, p.1 < fstS s := by
  intro p hp
  rcases List.eq_nil_or_concat s with rfl | ⟨r, l, rfl⟩
  · cases hp
  · rw [List.concat_eq_append] at *
    unfold fstS
    rw [List.getLast?_append]
    simp only [List.getLast?_singleton, Option.or_some]
    rcases List.mem_append.mp hp with hp | hp
    · have := (List.pairwise_append.mp h).2.2 p hp l (by simp)
      simp; omega
    · rw [List.mem_singleton.mp hp]; simp
theorem sets_mem (n : Nat) : ∀ (t : Nat) (s : St), s ∈ sets n t ↔ s.length = t ∧ s.Pairwise (fun p p' => p.1 < p'.1) ∧ ∀ p ∈ s, p.1 < n
  | 0, s => by
    rw [sets, List.mem_singleton]
    constructor
    · rintro rfl; exact ⟨rfl, List.Pairwise.nil, fun _ h => nomatch h⟩
    · rintro ⟨h, _⟩; exact List.eq_nil_of_length_eq_zero h
  | t + 1, s => by
    rw [sets, List.mem_flatMap]
    constructor
    · rintro ⟨r, hr, hs⟩
      obtain ⟨h1, h2, h3⟩ := (sets_mem n t r).mp hr
      obtain ⟨i, hi, hs⟩ := List.mem_flatMap.mp hs
      have hi := List.mem_range'_1.mp hi
      have good : ∀ b : Bool, s = r ++ [(i, b)] → s.length = t + 1 ∧ s.Pairwise (fun p p' => p.1 < p'.1) ∧ ∀ p ∈ s, p.1 < n := fun b e => by
        subst e
        refine ⟨by simp [h1], List.pairwise_append.mpr ⟨h2, List.pairwise_singleton _ _, fun p hp p' hp' => ?_⟩, fun p hp => ?_⟩
        · rw [List.mem_singleton.mp hp']
          have := last_lt h2 p hp
          show p.1 < i
          omega
        · rcases List.mem_append.mp hp with hp | hp
          · exact h3 p hp
          · rw [List.mem_singleton.mp hp]; show i < n; omega
      simp only [List.mem_cons, List.not_mem_nil, or_false] at hs
      rcases hs with e | e
      · exact good _ e
      · exact good _ e
    · rintro ⟨h1, h2, h3⟩
      rcases List.eq_nil_or_concat s with rfl | ⟨r, l, rfl⟩
      · cases h1
      · rw [List.concat_eq_append] at *
        obtain ⟨u1, _, u3⟩ := List.pairwise_append.mp h2
        refine ⟨r, (sets_mem n t r).mpr ⟨by simpa using h1, u1, fun p hp => h3 p (List.mem_append_left _ hp)⟩, List.mem_flatMap.mpr ⟨l.1, List.mem_range'_1.mpr ⟨?_, ?_⟩, ?_⟩⟩
        · unfold fstS
          split
          · rename_i p hp
            have := u3 p (List.mem_of_getLast? hp) l (by simp)
            omega
          · exact Nat.zero_le _
        · have a := h3 l (by simp)
          have : fstS r ≤ l.1 := by
            unfold fstS
            split
            · rename_i p hp
              have := u3 p (List.mem_of_getLast? hp) l (by simp)
              omega
            · exact Nat.zero_le _
          omega
        · obtain ⟨i, b⟩ := l
          cases b <;> simp
theorem sets_fst (n t : Nat) (s : St) (h : s ∈ sets n t) : fstS s ≤ n := by
  obtain ⟨_, _, h3⟩ := (sets_mem n t s).mp h
  unfold fstS
  split
  · rename_i p hp
    exact h3 p (List.mem_of_getLast? hp)
  · exact Nat.zero_le _
theorem sD_app (s : St) (p : Nat × Bool) : sD (s ++ [p]) = .tuple (s.map pD ++ [pD p]) := by
  unfold sD; rw [List.map_append]; rfl
theorem gAdd_sD {s : St} (h : s.length ≤ 1000) (p : Nat × Bool) : gAdd (sD s) (.tuple [pD p]) = some (sD (s ++ [p])) := by
  rw [sD_app]
  refine gAdd_tup ?_
  rw [List.length_map]
  exact Nat.le_trans (by simp; omega : s.length + [pD p].length ≤ 1001) (by decide)
theorem last_sD {s : St} {p : Nat × Bool} (h : s.getLast? = some p) : gIx (sD s) (.int (-1)) = some (pD p) := by
  show atI _ _ = _
  rw [atI_m1, List.getLast?_map, h]; rfl
theorem gNe_nilT (xs : List D) : gNe (.tuple xs) (.tuple []) = some (.bool (!xs.isEmpty)) := by
  unfold gNe
  rw [decide_eq_true (by
    have : (PyData.tuple ([] : List D)).depth = 1 := rfl
    omega), gd_t]
  cases xs <;> rfl
theorem empty_last {s : St} : (s.map pD).isEmpty = s.getLast?.isNone := by
  cases s with
  | nil => rfl
  | cons p s =>
    cases h : (p :: s).getLast? with
    | none => have := List.getLast?_eq_none_iff.mp h; cases this
    | some _ => rfl
theorem first_ev {ρ : DL.Env} {B : BS} {i : Nat} {s : St} {ft : DL.Env → M Bool} (hs : ρ[i]? = some (.d (sD s))) (ht : ft ρ B = some (!(s.map pD).isEmpty, B)) : fIfE ft (fBin gAdd (fBin gIx (fBin gIx (fAny i) (fUn gNeg (fC (.int 1)))) (fC (.int 0))) (fC (.int 1))) (fC (.int 0)) ρ B = some (.int (fstS s : Int), B) := by
  rw [empty_last] at ht
  unfold fstS
  cases hl : s.getLast? with
  | none =>
    rw [hl] at ht
    exact ev_ifE0 ht ev_c
  | some p =>
    rw [hl] at ht
    exact ev_ifE1 ht (ev_bin (ev_bin (ev_bin (ev_any hs) (ev_un ev_c rfl) (last_sD hl)) ev_c rfl) ev_c (gAdd_int _ _))
theorem settings_eq {n t : Nat} (hn : n ≤ 5) (ht : t ≤ 5) : G_settings [.int (n : Int), .int (t : Int)] = some (.list ((sets n t).map sD)) := by
  have sz : (2000000 : Nat) ≤ sizeLine := by decide
  obtain ⟨ρ', B', e, s3, s4, s5, s6, s7, s8, k, hk, hi, rfl, rfl⟩ := forL_inv (g := gSet 3) (fb := b2_settings) (fun items ρ B => ∃ s3 s4 s5 s6 s7 s8 k, k ≤ t ∧ items = (List.range' k (t - k)).map (fun (i : Nat) => PyData.int (i : Int)) ∧ ρ = [.d (.int (n : Int)), .d (.int (t : Int)), .d (.list ((sets n k).map sD)), s3, s4, s5, s6, s7, s8] ∧ B = (⟨[], []⟩ : BS)) (by
    rintro x r ρ B ⟨s3, s4, s5, s6, s7, s8, k, hk, hi, rfl, rfl⟩
    have hkt : k < t := by
      by_cases c : k < t
      · exact c
      · rw [show t - k = 0 by omega] at hi; cases hi
    rw [show t - k = (t - (k + 1)) + 1 by omega, List.range'_succ, List.map_cons] at hi
    injection hi with h1 h2
    subst h1 h2
    refine ⟨[.d (.int (n : Int)), .d (.int (t : Int)), .d (.list ((sets n k).map sD)), .d (.int (k : Int)), s4, s5, s6, s7, s8], ?_⟩
    have pw := sets_small hn (by omega : k ≤ 5)
    obtain ⟨ρ2, B2, e2, t5, t6, t7, t8, done, rest, hr, hri, rfl, rfl⟩ := forL_inv (g := gSet 5) (fb := b1_settings) (fun items ρ B => ∃ t5 t6 t7 t8 done rest, sets n k = done ++ rest ∧ items = rest.map sD ∧ ρ = [.d (.int (n : Int)), .d (.int (t : Int)), .d (.list ((sets n k).map sD)), .d (.int (k : Int)), .own ((done.flatMap (kidS n)).map sD), t5, t6, t7, t8] ∧ B = (⟨[], []⟩ : BS)) (by
      rintro x r ρ B ⟨t5, t6, t7, t8, done, rest, hr, hri, rfl, rfl⟩
      cases rest with
      | nil => cases hri
      | cons s rest =>
        rw [List.map_cons] at hri
        injection hri with h1 h2
        subst h1 h2
        have hsl : s.length = k := sets_size n k s (by rw [hr]; simp)
        have hdl : done.length ≤ 100000 := by
          have := congrArg List.length hr
          rw [List.length_append] at this; omega
        have k1 := fm_len (l := done) (f := kidS n) fun s _ => kidS_len n s
        have k2 : 2 * n * done.length ≤ 10 * 100000 := Nat.mul_le_mul (by omega) hdl
        have k3 := kidS_len n s
        have a1 : fSet 6 (fIfE (fTru (fAny 5)) (fBin gAdd (fBin gIx (fBin gIx (fAny 5) (fUn gNeg (fC (.int 1)))) (fC (.int 0))) (fC (.int 1))) (fC (.int 0))) [.d (.int (n : Int)), .d (.int (t : Int)), .d (.list ((sets n k).map sD)), .d (.int (k : Int)), .own ((done.flatMap (kidS n)).map sD), .d (sD s), t6, t7, t8] ⟨[], []⟩ = some (.nx [.d (.int (n : Int)), .d (.int (t : Int)), .d (.list ((sets n k).map sD)), .d (.int (k : Int)), .own ((done.flatMap (kidS n)).map sD), .d (sD s), .d (.int (fstS s : Int)), t7, t8], ⟨[], []⟩) := ev_set (first_ev rfl (ev_tru (ev_any rfl) rfl))
        have L := lcL2_map (g := gSet 7) (ft := fYes) (fi1 := fIt (fTup (fCons (fC (.int 0)) (fCons (fC (.int 1)) fNil)))) (g1 := gSet 8) (ft1 := fYes) (fe := e1_settings) (vs1 := [8]) (ρ := wipeE [.d (.int (n : Int)), .d (.int (t : Int)), .d (.list ((sets n k).map sD)), .d (.int (k : Int)), .own ((done.flatMap (kidS n)).map sD), .d (sD s), .d (.int (fstS s : Int)), t7, t8] [7, 8]) (B := ⟨[], []⟩) (fun _ => [.int 0, .int 1]) (fun d x => sD (s ++ [(natD d, decide (natD x = 1))])) ((List.range' (fstS s) (n - fstS s)).map fun (i : Nat) => PyData.int (i : Int)) [] (fun d hd => by
          obtain ⟨i, hi, rfl⟩ := List.mem_map.mp hd
          have en : natD (.int (i : Int)) = i := Int.toNat_natCast i
          refine ⟨_, rfl, rfl, ev_it (ev_tup (ev_cons ev_c (ev_cons ev_c ev_nil)) (by simp)) rfl, fun x hx => ?_⟩
          rw [en]
          simp only [List.mem_cons, List.not_mem_nil, or_false] at hx
          rcases hx with rfl | rfl
          · exact ⟨_, rfl, rfl, ev_bin (ev_any rfl) (ev_tup (ev_cons (ev_tup (ev_cons (ev_var rfl) (ev_cons (ev_var rfl) ev_nil)) (by simp)) ev_nil) (by simp)) (gAdd_sD (by omega) (i, false))⟩
          · exact ⟨_, rfl, rfl, ev_bin (ev_any rfl) (ev_tup (ev_cons (ev_tup (ev_cons (ev_var rfl) (ev_cons (ev_var rfl) ev_nil)) (by simp)) ev_nil) (by simp)) (gAdd_sD (by omega) (i, true))⟩) (by
          have := fm_len (l := (List.range' (fstS s) (n - fstS s)).map fun (i : Nat) => PyData.int (i : Int)) (f := fun _ => [PyData.int 0, .int 1]) (k := 2) (fun _ _ => Nat.le_refl _)
          rw [List.length_map, List.length_range'] at this
          exact Nat.le_trans (by rw [List.length_nil, Nat.zero_add]; exact this) (by omega))
        have res : (((List.range' (fstS s) (n - fstS s)).map fun (i : Nat) => PyData.int (i : Int)).flatMap fun d => [PyData.int 0, .int 1].map fun x => sD (s ++ [(natD d, decide (natD x = 1))])) = (kidS n s).map sD := by
          unfold kidS
          rw [List.flatMap_map, List.map_flatMap]
          refine congrArg (fun f => List.flatMap f _) (funext fun i => ?_)
          show [sD (s ++ [(natD (.int (i : Int)), false)]), sD (s ++ [(natD (.int (i : Int)), true)])] = _
          rw [show natD (.int (i : Int)) = i from Int.toNat_natCast i]; rfl
        rw [res, List.nil_append] at L
        have hr2 := rng2_nat (a := fstS s) (b := n) (by
          have := sets_fst n k s (by rw [hr]; simp)
          omega) (by omega)
        refine ⟨[.d (.int (n : Int)), .d (.int (t : Int)), .d (.list ((sets n k).map sD)), .d (.int (k : Int)), .own ((done.flatMap (kidS n)).map sD), .d (sD s), t6, t7, t8], _, _, rfl, ev_seq a1 (ev_ext rfl (ev_fr (ev_lc2 (ev_co (ev_cons (ev_any rfl) (ev_cons (ev_any rfl) ev_nil)) hr2) L)) (by rw [List.length_map, List.length_map]; omega)), .d (sD s), .d (.int (fstS s : Int)), t7, t8, done ++ [s], rest, by rw [hr, List.append_assoc]; rfl, rfl, ?_, rfl⟩
        rw [List.flatMap_append, List.map_append, List.flatMap_singleton]; rfl) ((sets n k).map sD) [.d (.int (n : Int)), .d (.int (t : Int)), .d (.list ((sets n k).map sD)), .d (.int (k : Int)), .own [], s5, s6, s7, s8] ⟨[], []⟩ ⟨s5, s6, s7, s8, [], sets n k, rfl, rfl, rfl, rfl⟩
    have hr0 : rest = [] := by
      cases rest with
      | nil => rfl
      | cons _ _ => cases hri
    subst hr0
    rw [List.append_nil] at hr
    refine ⟨[.d (.int (n : Int)), .d (.int (t : Int)), .d (.list ((sets n (k + 1)).map sD)), .d (.int (k : Int)), .d (.list ((sets n (k + 1)).map sD)), t5, t6, t7, t8], _, rfl, ev_seq (ev_setO (ev_lst ev_nil (by simp))) (ev_seq (ev_for (ev_it (ev_var rfl) rfl) e2) ?_), .d (.int k), _, t5, t6, t7, t8, k + 1, hkt, rfl, rfl, rfl⟩
    rw [sets, hr]
    exact ev_set (ev_var rfl)) ((List.range t).map fun (i : Nat) => PyData.int (i : Int)) [.d (.int (n : Int)), .d (.int (t : Int)), .d (.list ((sets n 0).map sD)), .no, .no, .no, .no, .no, .no] ⟨[], []⟩ ⟨.no, .no, .no, .no, .no, .no, 0, Nat.zero_le _, by rw [List.range_eq_range']; rfl, rfl, rfl⟩
  have hkt : k = t := by
    by_cases c : k < t
    · rw [show t - k = (t - (k + 1)) + 1 by omega, List.range'_succ] at hi; cases hi
    · omega
  subst hkt
  exact runP_of (ρ := [.d (.int (n : Int)), .d (.int (k : Int)), .no, .no, .no, .no, .no, .no, .no]) rfl rfl (ev_seq (ev_set (ev_fr (ev_lst (ev_cons (ev_tup ev_nil (by simp)) ev_nil) (by simp)))) (ev_seq (ev_for (ev_co (ev_cons (ev_any rfl) ev_nil) (rng1_nat (by omega))) e) (ev_ret (ev_var rfl))))
end K72

namespace K72
open PySem PySem.Spec L2 DL
theorem Lsettings_eq {n t : Nat} (hn : n ≤ 5) (ht : t ≤ 5) : G_Lsettings [.int (n : Int), .int (t : Int)] = some (.list ((sets n t).map sD)) := by
  have sz : (2000000 : Nat) ≤ sizeLine := by decide
  obtain ⟨ρ', B', e, s3, s4, s5, s6, k, hk, hi, rfl, rfl⟩ := forL_inv (g := gSet 3) (fb := b3_Lsettings) (fun items ρ B => ∃ s3 s4 s5 s6 k, k ≤ t ∧ items = (List.range' k (t - k)).map (fun (i : Nat) => PyData.int (i : Int)) ∧ ρ = [.d (.int (n : Int)), .d (.int (t : Int)), .d (.list ((sets n k).map sD)), s3, s4, s5, s6] ∧ B = (⟨[], []⟩ : BS)) (by
    rintro x r ρ B ⟨s3, s4, s5, s6, k, hk, hi, rfl, rfl⟩
    have hkt : k < t := by
      by_cases c : k < t
      · exact c
      · rw [show t - k = 0 by omega] at hi; cases hi
    rw [show t - k = (t - (k + 1)) + 1 by omega, List.range'_succ, List.map_cons] at hi
    injection hi with h1 h2
    subst h1 h2
    refine ⟨[.d (.int (n : Int)), .d (.int (t : Int)), .d (.list ((sets n k).map sD)), .d (.int (k : Int)), s4, s5, s6], ?_⟩
    have pw := sets_small hn (by omega : k ≤ 5)
    obtain ⟨ρ2, B2, e2, t5, t6, done, rest, hr, hri, rfl, rfl⟩ := forL_inv (g := gSet 5) (fb := b2_Lsettings) (fun items ρ B => ∃ t5 t6 done rest, sets n k = done ++ rest ∧ items = rest.map sD ∧ ρ = [.d (.int (n : Int)), .d (.int (t : Int)), .d (.list ((sets n k).map sD)), .d (.int (k : Int)), .own ((done.flatMap (kidS n)).map sD), t5, t6] ∧ B = (⟨[], []⟩ : BS)) (by
      rintro x r ρ B ⟨t5, t6, done, rest, hr, hri, rfl, rfl⟩
      cases rest with
      | nil => cases hri
      | cons s rest =>
        rw [List.map_cons] at hri
        injection hri with h1 h2
        subst h1 h2
        have hsl : s.length = k := sets_size n k s (by rw [hr]; simp)
        have hfs := sets_fst n k s (by rw [hr]; simp)
        have hdl : done.length ≤ 100000 := by
          have := congrArg List.length hr
          rw [List.length_append] at this; omega
        have k1 := fm_len (l := done) (f := kidS n) fun s _ => kidS_len n s
        have k2 : 2 * n * done.length ≤ 10 * 100000 := Nat.mul_le_mul (by omega) hdl
        obtain ⟨ρ3, B3, e3, u6, j, hj, hji, rfl, rfl⟩ := forL_inv (g := gSet 6) (fb := b1_Lsettings) (fun items ρ B => ∃ u6 j, j ≤ n - fstS s ∧ items = (List.range' (fstS s + j) (n - fstS s - j)).map (fun (i : Nat) => PyData.int (i : Int)) ∧ ρ = [.d (.int (n : Int)), .d (.int (t : Int)), .d (.list ((sets n k).map sD)), .d (.int (k : Int)), .own ((done.flatMap (kidS n)).map sD ++ ((List.range' (fstS s) j).flatMap fun i => [s ++ [(i, false)], s ++ [(i, true)]]).map sD), .d (sD s), u6] ∧ B = (⟨[], []⟩ : BS)) (by
          rintro x r ρ B ⟨u6, j, hj, hji, rfl, rfl⟩
          have hjn : j < n - fstS s := by
            by_cases c : j < n - fstS s
            · exact c
            · rw [show n - fstS s - j = 0 by omega] at hji; cases hji
          rw [show n - fstS s - j = (n - fstS s - (j + 1)) + 1 by omega, List.range'_succ, List.map_cons] at hji
          injection hji with h1 h2
          subst h1 h2
          have k4 := fm_len (l := List.range' (fstS s) j) (f := fun i => [s ++ [(i, false)], s ++ [(i, true)]]) (k := 2) (fun _ _ => by simp)
          rw [List.length_range'] at k4
          refine ⟨[.d (.int (n : Int)), .d (.int (t : Int)), .d (.list ((sets n k).map sD)), .d (.int (k : Int)), .own ((done.flatMap (kidS n)).map sD ++ ((List.range' (fstS s) j).flatMap fun i => [s ++ [(i, false)], s ++ [(i, true)]]).map sD), .d (sD s), .d (.int ((fstS s + j : Nat) : Int))], _, _, rfl, ev_ext rfl (ev_fr (ev_lst (ev_cons (ev_bin (ev_any rfl) (ev_tup (ev_cons (ev_tup (ev_cons (ev_var rfl) (ev_cons ev_c ev_nil)) (by simp)) ev_nil) (by simp)) (gAdd_sD (by omega) (fstS s + j, false))) (ev_cons (ev_bin (ev_any rfl) (ev_tup (ev_cons (ev_tup (ev_cons (ev_var rfl) (ev_cons ev_c ev_nil)) (by simp)) ev_nil) (by simp)) (gAdd_sD (by omega) (fstS s + j, true))) ev_nil)) (by simp))) ?_, .d (.int ((fstS s + j : Nat) : Int)), j + 1, hjn, ?_, ?_, rfl⟩
          · rw [List.length_append, List.length_map, List.length_map]
            simp only [List.length_cons, List.length_nil]
            omega
          · rw [Nat.add_assoc]
          · rw [List.range'_concat, List.flatMap_append, List.map_append, ← List.append_assoc, Nat.one_mul]
            rfl) ((List.range' (fstS s) (n - fstS s)).map fun (i : Nat) => PyData.int (i : Int)) [.d (.int (n : Int)), .d (.int (t : Int)), .d (.list ((sets n k).map sD)), .d (.int (k : Int)), .own ((done.flatMap (kidS n)).map sD), .d (sD s), t6] ⟨[], []⟩ ⟨t6, 0, Nat.zero_le _, rfl, by simp, rfl⟩
        have hjn : j = n - fstS s := by
          by_cases c : j < n - fstS s
          · rw [show n - fstS s - j = (n - fstS s - (j + 1)) + 1 by omega, List.range'_succ] at hji; cases hji
          · omega
        subst hjn
        have hr2 := rng2_nat (a := fstS s) (b := n) (by omega) (by omega)
        have first : fIfE (fBl (fBin gNe (fAny 5) (fTup fNil))) (fBin gAdd (fBin gIx (fBin gIx (fAny 5) (fUn gNeg (fC (.int 1)))) (fC (.int 0))) (fC (.int 1))) (fC (.int 0)) [.d (.int (n : Int)), .d (.int (t : Int)), .d (.list ((sets n k).map sD)), .d (.int (k : Int)), .own ((done.flatMap (kidS n)).map sD), .d (sD s), t6] ⟨[], []⟩ = some (.int (fstS s : Int), ⟨[], []⟩) := first_ev rfl (ev_bl (ev_bin (ev_any rfl) (ev_tup ev_nil (by simp)) (gNe_nilT _)))
        refine ⟨[.d (.int (n : Int)), .d (.int (t : Int)), .d (.list ((sets n k).map sD)), .d (.int (k : Int)), .own ((done.flatMap (kidS n)).map sD), .d (sD s), t6], _, _, rfl, ev_for (ev_co (ev_cons first (ev_cons (ev_any rfl) ev_nil)) hr2) e3, .d (sD s), u6, done ++ [s], rest, by rw [hr, List.append_assoc]; rfl, rfl, ?_, rfl⟩
        rw [List.flatMap_append, List.map_append, List.flatMap_singleton]; rfl) ((sets n k).map sD) [.d (.int (n : Int)), .d (.int (t : Int)), .d (.list ((sets n k).map sD)), .d (.int (k : Int)), .own [], s5, s6] ⟨[], []⟩ ⟨s5, s6, [], sets n k, rfl, rfl, rfl, rfl⟩
    have hr0 : rest = [] := by
      cases rest with
      | nil => rfl
      | cons _ _ => cases hri
    subst hr0
    rw [List.append_nil] at hr
    refine ⟨[.d (.int (n : Int)), .d (.int (t : Int)), .d (.list ((sets n (k + 1)).map sD)), .d (.int (k : Int)), .d (.list ((sets n (k + 1)).map sD)), t5, t6], _, rfl, ev_seq (ev_setO (ev_lst ev_nil (by simp))) (ev_seq (ev_for (ev_it (ev_var rfl) rfl) e2) ?_), .d (.int k), _, t5, t6, k + 1, hkt, rfl, rfl, rfl⟩
    rw [sets, hr]
    exact ev_set (ev_var rfl)) ((List.range t).map fun (i : Nat) => PyData.int (i : Int)) [.d (.int (n : Int)), .d (.int (t : Int)), .d (.list ((sets n 0).map sD)), .no, .no, .no, .no] ⟨[], []⟩ ⟨.no, .no, .no, .no, 0, Nat.zero_le _, by rw [List.range_eq_range']; rfl, rfl, rfl⟩
  have hkt : k = t := by
    by_cases c : k < t
    · rw [show t - k = (t - (k + 1)) + 1 by omega, List.range'_succ] at hi; cases hi
    · omega
  subst hkt
  exact runP_of (ρ := [.d (.int (n : Int)), .d (.int (k : Int)), .no, .no, .no, .no, .no]) rfl rfl (ev_seq (ev_set (ev_fr (ev_lst (ev_cons (ev_tup ev_nil (by simp)) ev_nil) (by simp)))) (ev_seq (ev_for (ev_co (ev_cons (ev_any rfl) ev_nil) (rng1_nat (by omega))) e) (ev_ret (ev_var rfl))))
def hasB (c : List Bool) (s : St) : Bool := s.all fun p => decide (c[p.1]? = some p.2)
def fitP (c : List Bool) : D → Bool
  | .tuple [.int i, .int v] => decide (c[i.toNat]? = some (decide (v = 1)))
  | _ => false
theorem fit_pD (c : List Bool) (p : Nat × Bool) : fitP c (pD p) = decide (c[p.1]? = some p.2) := by
  show decide (c[((p.1 : Int)).toNat]? = some (decide (bI p.2 = 1))) = _
  rw [Int.toNat_natCast]
  obtain ⟨i, b⟩ := p
  cases b <;> rfl
theorem bI_eq (a b : Bool) : decide (bI a = bI b) = decide (a = b) := by cases a <;> cases b <;> rfl
theorem all_bools (p : D → Bool) (ds : List D) : gAll [.list (ds.map fun d => .bool (p d))] = some (.bool (ds.all p)) := by
  have : (ds.map fun d => PyData.bool (p d)) = (ds.map p).map PyData.bool := by rw [List.map_map]; rfl
  rw [this]
  show ob (bools? _) _ = _
  rw [bools_map, ob_some, List.all_map]
  rfl
theorem any_bools (p : D → Bool) (ds : List D) : gAny [.list (ds.map fun d => .bool (p d))] = some (.bool (ds.any p)) := by
  have : (ds.map fun d => PyData.bool (p d)) = (ds.map p).map PyData.bool := by rw [List.map_map]; rfl
  rw [this]
  show ob (bools? _) _ = _
  rw [bools_map, ob_some, List.any_map]
  rfl
theorem all_sD (c : List Bool) (s : St) : (s.map pD).all (fitP c) = hasB c s := by
  unfold hasB
  rw [List.all_map]
  exact congrArg (fun f => s.all f) (funext fun p => fit_pD c p)
theorem has_one {c : List Bool} {p : Nat × Bool} (h : p.1 < c.length) (B : BS) {ρ : DL.Env} (h0 : ρ[0]? = some (.d (cD c))) (h2 : ρ[2]? = some (.d (.int (p.1 : Int)))) (h3 : ρ[3]? = some (.d (.int (bI p.2)))) : fBin gEq (fBin gIx (fAny 0) (fAny 2)) (fAny 3) ρ B = some (.bool (fitP c (pD p)), B) := by
  have hc : c[p.1]? = some c[p.1] := List.getElem?_eq_getElem h
  refine ev_bin (ev_bin (ev_any h0) (ev_any h2) (ix_cD hc)) (ev_any h3) ?_
  rw [gEq_int, fit_pD, hc, bI_eq]
  congr 2
  exact decide_eq_decide.mpr ⟨fun e => by rw [e], fun e => Option.some.inj e⟩
theorem has_eq {c : List Bool} {s : St} (hl : s.length ≤ 1000) (h : ∀ p ∈ s, p.1 < c.length) : G_has [cD c, sD s] = some (.bool (hasB c s)) := by
  have sz : (2000 : Nat) ≤ sizeLine := by decide
  refine runP_of (ρ := [.d (cD c), .d (sD s), .no, .no]) rfl rfl (B' := ⟨[], []⟩) (ev_ret (ev_cb (ev_cons (ev_fr (ev_lc (ev_it (ev_any rfl) rfl) (lcL_map (fun d => .bool (fitP c d)) _ (fun d hd => ?_) (by simp; omega)))) ev_nil) ((all_bools _ _).trans (by rw [all_sD]))))
  obtain ⟨p, hp, rfl⟩ := List.mem_map.mp hd
  exact ⟨[.d (cD c), .d (sD s), .d (.int (p.1 : Int)), .d (.int (bI p.2))], rfl, rfl, has_one (h p hp) _ rfl rfl rfl⟩
theorem Lhas_eq {c : List Bool} {s : St} (hl : s.length ≤ 1000) (h : ∀ p ∈ s, p.1 < c.length) : G_Lhas [cD c, sD s] = some (.bool (hasB c s)) := by
  have sz : (2000 : Nat) ≤ sizeLine := by decide
  refine runP_of (ρ := [.d (cD c), .d (sD s), .no, .no]) rfl rfl (B' := ⟨[], []⟩) (ev_ret (ev_cb (ev_cons (ev_fr (ev_lc (ev_it (ev_any rfl) rfl) (lcL_map (fun d => .bool (fitP c d)) _ (fun d hd => ?_) (by simp; omega)))) ev_nil) ((all_bools _ _).trans (by rw [all_sD]))))
  obtain ⟨p, hp, rfl⟩ := List.mem_map.mp hd
  exact ⟨[.d (cD c), .d (sD s), .d (.int (p.1 : Int)), .d (.int (bI p.2))], rfl, rfl, has_one (h p hp) _ rfl rfl rfl⟩
end K72

namespace K72
open PySem PySem.Spec L2 DL
def oneB : D → Bool
  | .int v => decide (v = 1)
  | _ => false
def decC : D → List Bool
  | .tuple ds => ds.map oneB
  | _ => []
def decP : D → Nat × Bool
  | .tuple [.int i, .int v] => (i.toNat, decide (v = 1))
  | _ => (0, false)
def decS : D → St
  | .tuple ds => ds.map decP
  | _ => []
theorem oneB_bI (b : Bool) : oneB (.int (bI b)) = b := by cases b <;> rfl
theorem decC_cD (c : List Bool) : decC (cD c) = c := by
  show (c.map fun b => PyData.int (bI b)).map oneB = c
  rw [List.map_map]
  have : (oneB ∘ fun b => PyData.int (bI b)) = id := funext oneB_bI
  rw [this, List.map_id]
theorem decP_pD (p : Nat × Bool) : decP (pD p) = p := by
  obtain ⟨i, b⟩ := p
  show (((i : Int)).toNat, decide (bI b = 1)) = (i, b)
  rw [Int.toNat_natCast]
  cases b <;> rfl
theorem decS_sD (s : St) : decS (sD s) = s := by
  show (s.map pD).map decP = s
  rw [List.map_map]
  have : (decP ∘ pD) = id := funext decP_pD
  rw [this, List.map_id]
theorem filter_dec {α : Type} (enc : α → D) (dec : D → α) (h : ∀ a, dec (enc a) = a) (p : α → Bool) (l : List α) : (l.map enc).filter (fun d => p (dec d)) = (l.filter p).map enc := by
  rw [List.filter_map]
  have : ((fun d => p (dec d)) ∘ enc) = p := funext fun a => by show p (dec (enc a)) = p a; rw [h]
  rw [this]
theorem any_dec {α : Type} (enc : α → D) (dec : D → α) (h : ∀ a, dec (enc a) = a) (p : α → Bool) (l : List α) : (l.map enc).any (fun d => p (dec d)) = l.any p := by
  rw [List.any_map]
  have : ((fun d => p (dec d)) ∘ enc) = p := funext fun a => by show p (dec (enc a)) = p a; rw [h]
  rw [this]
theorem any_ev {G : List D → Option D} {V : List (List Bool)} {s : St} (hG : ∀ c ∈ V, G [cD c, sD s] = some (.bool (hasB c s))) {ρ : DL.Env} {B : BS} {iV iO iS : Nat} {dV : D} (hV : ρ[iV]? = some (.d dV)) (hI : DL.items? dV = some (V.map cD)) (hS : ρ[iS]? = some (.d (sD s))) (hO : iO < ρ.length) (hne : iS ≠ iO) (hz : V.length ≤ 100000) :
    fCB gAny (fCons (fFr (fLc (fIt (fAny iV)) (gSet iO) fYes (fCall 2 G (fCons (fVar iO) (fCons (fVar iS) fNil))) [iO])) fNil) ρ B = some (.bool (V.any fun c => hasB c s), B) := by
  have L := lcL_map (g := gSet iO) (ft := fYes) (fe := fCall 2 G (fCons (fVar iO) (fCons (fVar iS) fNil))) (ρ := wipeE ρ [iO]) (B := B) (fun d => .bool (hasB (decC d) s)) (V.map cD) (fun d hd => by
    obtain ⟨c, hc, rfl⟩ := List.mem_map.mp hd
    rw [decC_cD]
    refine ⟨_, rfl, rfl, ev_call (ev_cons (ev_var ?_) (ev_cons (ev_var ?_) ev_nil)) rfl (hG c hc)⟩
    · show ((ρ.set iO .no).set iO (.d (cD c)))[iO]? = _
      rw [List.getElem?_set_self (by rw [List.length_set]; exact hO)]
    · show ((ρ.set iO .no).set iO (.d (cD c)))[iS]? = _
      rw [List.getElem?_set_ne (Ne.symm hne), List.getElem?_set_ne (Ne.symm hne), hS]) (by rw [List.length_map]; exact Nat.le_trans hz (by decide))
  exact ev_cb (ev_cons (ev_fr (ev_lc (ev_it (ev_any hV) hI) L)) ev_nil) ((any_bools _ _).trans (by rw [any_dec cD decC decC_cD fun c => hasB c s]))
def poss (V : List (List Bool)) (n t : Nat) : List St := (sets n t).filter fun s => V.any fun c => hasB c s
def openS (V T : List (List Bool)) (n t : Nat) : List St := (poss V n t).filter fun s => !T.any fun c => hasB c s
theorem sets_lt {n t : Nat} {s : St} (h : s ∈ sets n t) : s.length = t ∧ ∀ p ∈ s, p.1 < n := ⟨((sets_mem n t s).mp h).1, ((sets_mem n t s).mp h).2.2⟩
theorem poss_mem {V : List (List Bool)} {n t : Nat} {s : St} (h : s ∈ poss V n t) : s ∈ sets n t := (List.mem_filter.mp h).1
theorem has_all {V : List (List Bool)} {n t : Nat} (hV : ∀ c ∈ V, c.length = n) (ht : t ≤ 5) {s : St} (hs : s ∈ sets n t) : (∀ c ∈ V, G_has [cD c, sD s] = some (.bool (hasB c s))) ∧ ∀ c ∈ V, G_Lhas [cD c, sD s] = some (.bool (hasB c s)) := by
  obtain ⟨h1, h2⟩ := sets_lt hs
  exact ⟨fun c hc => has_eq (by omega) fun p hp => by rw [hV c hc]; exact h2 p hp, fun c hc => Lhas_eq (by omega) fun p hp => by rw [hV c hc]; exact h2 p hp⟩
theorem valid_len {d : BD} {n : Nat} : ∀ c ∈ valid d n, c.length = n := fun c hc => cfgs_len n c (List.mem_filter.mp hc).1
theorem valid_small {d : BD} {n : Nat} (hn : n ≤ 5) : (valid d n).length ≤ 32 := by
  unfold valid
  refine Nat.le_trans (List.length_filter_le _ _) ?_
  rw [cfgs_count]
  exact Nat.pow_le_pow_right (by decide) hn
theorem possible_eq {n t : Nat} {d : BD} (hn : n ≤ 5) (ht : t ≤ 5) (hw : wf n 0 d) (hd : d ≠ .lf false) : G_possible [dD d, .int (n : Int), .int (t : Int)] = some (.list ((poss (valid d n) n t).map sD)) := by
  have sz : (200000 : Nat) ≤ sizeLine := by decide
  have vs := valid_small (d := d) hn
  have ss := sets_small hn ht
  have L := lcL_pure (g := gSet 4) (ft := c1_possible) (fe := fVar 4) (ρ := wipeE [.d (dD d), .d (.int (n : Int)), .d (.int (t : Int)), .d (.list ((valid d n).map cD)), .no, .no] [4]) (B := ⟨[], []⟩) (fun x => (valid d n).any fun c => hasB c (decS x)) id ((sets n t).map sD) [] (fun x hx => by
    obtain ⟨s, hs, rfl⟩ := List.mem_map.mp hx
    rw [decS_sD]
    exact ⟨[.d (dD d), .d (.int (n : Int)), .d (.int (t : Int)), .d (.list ((valid d n).map cD)), .d (sD s), .no], rfl, ev_tru (any_ev (has_all valid_len ht hs).1 (iV := 3) rfl rfl rfl (by simp) (by decide) (by omega)) rfl, fun _ => ev_var rfl⟩) (by simp; omega)
  rw [filter_dec sD decS decS_sD (fun s => (valid d n).any fun c => hasB c s), List.map_id, List.nil_append] at L
  exact runP_of (ρ := [.d (dD d), .d (.int (n : Int)), .d (.int (t : Int)), .no, .no, .no]) rfl rfl (ev_seq (ev_set (ev_call (ev_cons (ev_var rfl) (ev_cons (ev_var rfl) ev_nil)) rfl (chosen_eq hn hw hd))) (ev_ret (ev_fr (ev_lc (ev_it (ev_call (ev_cons (ev_var rfl) (ev_cons (ev_var rfl) ev_nil)) rfl (settings_eq hn ht)) rfl) L))))
theorem Lpossible_eq {n t : Nat} {V : List (List Bool)} (hn : n ≤ 5) (ht : t ≤ 5) (hV : ∀ c ∈ V, c.length = n) (vs : V.length ≤ 32) : G_Lpossible [.list (V.map cD), .int (n : Int), .int (t : Int)] = some (.list ((poss V n t).map sD)) := by
  have sz : (200000 : Nat) ≤ sizeLine := by decide
  have ss := sets_small hn ht
  have L := lcL_pure (g := gSet 3) (ft := c1_Lpossible) (fe := fVar 3) (ρ := wipeE [.d (.list (V.map cD)), .d (.int (n : Int)), .d (.int (t : Int)), .no, .no] [3]) (B := ⟨[], []⟩) (fun x => V.any fun c => hasB c (decS x)) id ((sets n t).map sD) [] (fun x hx => by
    obtain ⟨s, hs, rfl⟩ := List.mem_map.mp hx
    rw [decS_sD]
    exact ⟨[.d (.list (V.map cD)), .d (.int (n : Int)), .d (.int (t : Int)), .d (sD s), .no], rfl, ev_tru (any_ev (has_all hV ht hs).2 (iV := 0) rfl rfl rfl (by simp) (by decide) (by omega)) rfl, fun _ => ev_var rfl⟩) (by simp; omega)
  rw [filter_dec sD decS decS_sD (fun s => V.any fun c => hasB c s), List.map_id, List.nil_append] at L
  exact runP_of (ρ := [.d (.list (V.map cD)), .d (.int (n : Int)), .d (.int (t : Int)), .no, .no]) rfl rfl (ev_ret (ev_fr (ev_lc (ev_it (ev_call (ev_cons (ev_var rfl) (ev_cons (ev_var rfl) ev_nil)) rfl (Lsettings_eq hn ht)) rfl) L)))
theorem open_eq {n t : Nat} {d : BD} {T : List (List Bool)} {dT : D} (hn : n ≤ 5) (ht : t ≤ 5) (hw : wf n 0 d) (hd : d ≠ .lf false) (hT : ∀ c ∈ T, c.length = n) (hl : T.length ≤ 100000) (hI : DL.items? dT = some (T.map cD)) : G_open_settings [dD d, .int (n : Int), .int (t : Int), dT] = some (.list ((openS (valid d n) T n t).map sD)) := by
  have sz : (200000 : Nat) ≤ sizeLine := by decide
  have ss := sets_small hn ht
  have ps : (poss (valid d n) n t).length ≤ 100000 := Nat.le_trans (List.length_filter_le _ _) ss
  have L := lcL_pure (g := gSet 4) (ft := c1_open_settings) (fe := fVar 4) (ρ := wipeE [.d (dD d), .d (.int (n : Int)), .d (.int (t : Int)), .d dT, .no, .no] [4]) (B := ⟨[], []⟩) (fun x => !T.any fun c => hasB c (decS x)) id ((poss (valid d n) n t).map sD) [] (fun x hx => by
    obtain ⟨s, hs, rfl⟩ := List.mem_map.mp hx
    rw [decS_sD]
    exact ⟨[.d (dD d), .d (.int (n : Int)), .d (.int (t : Int)), .d dT, .d (sD s), .no], rfl, ev_not (ev_tru (any_ev (has_all hT ht (poss_mem hs)).1 (iV := 3) rfl hI rfl (by simp) (by decide) hl) rfl), fun _ => ev_var rfl⟩) (by simp; omega)
  rw [filter_dec sD decS decS_sD (fun s => !T.any fun c => hasB c s), List.map_id, List.nil_append] at L
  exact runP_of (ρ := [.d (dD d), .d (.int (n : Int)), .d (.int (t : Int)), .d dT, .no, .no]) rfl rfl (ev_ret (ev_fr (ev_lc (ev_it (ev_call (ev_cons (ev_var rfl) (ev_cons (ev_var rfl) (ev_cons (ev_var rfl) ev_nil))) rfl (possible_eq hn ht hw hd)) rfl) L)))
theorem gEq_nilL (xs : List D) : gEq (.list xs) (.list []) = some (.bool xs.isEmpty) := by
  unfold gEq
  rw [decide_eq_true (by
    have : (PyData.list ([] : List D)).depth = 1 := rfl
    omega), gd_t]
  cases xs <;> rfl
theorem gNe_nilL (xs : List D) : gNe (.list xs) (.list []) = some (.bool (!xs.isEmpty)) := by
  unfold gNe
  rw [decide_eq_true (by
    have : (PyData.list ([] : List D)).depth = 1 := rfl
    omega), gd_t]
  cases xs <;> rfl
theorem covers_eq {n t : Nat} {d : BD} {T : List (List Bool)} {dT : D} (hn : n ≤ 5) (ht : t ≤ 5) (hw : wf n 0 d) (hd : d ≠ .lf false) (hT : ∀ c ∈ T, c.length = n) (hl : T.length ≤ 100000) (hI : DL.items? dT = some (T.map cD)) : G_covers_size [dD d, .int (n : Int), .int (t : Int), dT] = some (.bool (openS (valid d n) T n t).isEmpty) := by
  refine runP_of (ρ := [.d (dD d), .d (.int (n : Int)), .d (.int (t : Int)), .d dT]) rfl rfl (B' := ⟨[], []⟩) (ev_ret (ev_bin (ev_call (ev_cons (ev_var rfl) (ev_cons (ev_var rfl) (ev_cons (ev_var rfl) (ev_cons (ev_var rfl) ev_nil)))) rfl (open_eq hn ht hw hd hT hl hI)) (ev_fr (ev_lst ev_nil (by simp))) ((gEq_nilL _).trans ?_)))
  cases openS (valid d n) T n t <;> rfl
end K72

namespace K72
open PySem PySem.Spec L2 DL
def okBit : D → Bool
  | .int v => decide (v = 0 ∨ v = 1)
  | _ => false
def plainD : D → Bool
  | .int _ => true
  | .bool _ => true
  | .str _ => true
  | .none => true
  | _ => false
theorem notV_ev {ρ : DL.Env} {B : BS} {fa : DL.Env → M D} {b : Bool} (h : fa ρ B = some (.bool b, B)) : fNotV fa ρ B = some (.bool (!b), B) := by
  unfold fNotV; rw [h]; rfl
theorem gIn01 (v : Int) : gIn (.int v) (.tuple [.int 0, .int 1]) = some (.bool (decide (v = 0 ∨ v = 1))) := by
  show gd _ _ = _
  rw [decide_eq_true (by
    have : (PyData.int v).depth = 0 := by simp [PyData.depth]
    omega : min (PyData.depthAll [.int 0, .int 1]) (PyData.int v).depth ≤ 150), gd_t]
  show some (PyData.bool ((0 == v) || ((1 == v) || false))) = _
  by_cases h0 : v = 0
  · subst h0; rfl
  · by_cases h1 : v = 1
    · subst h1; rfl
    · rw [decide_eq_false (by omega), beq_eq_false_iff_ne.mpr (Ne.symm h0), beq_eq_false_iff_ne.mpr (Ne.symm h1)]; rfl
theorem bit_ok {x : D} (hp : plainD x = true) {ρ : DL.Env} {B : BS} (h : ρ[3]? = some (.d x)) : e1_is_configuration ρ B = some (.bool (okBit x), B) := by
  unfold e1_is_configuration
  cases x with
  | int v => exact ev_andV (isiV_ev h (by simp [isD])) rfl (ev_andV (notV_ev (isiV_ev (b := false) h (by simp [isD]))) rfl (ev_bin (ev_any h) (ev_tup (ev_cons ev_c (ev_cons ev_c ev_nil)) (by simp)) (gIn01 v)))
  | bool b => exact ev_andV (isiV_ev h (by simp [isD])) rfl (ev_andV0 (notV_ev (isiV_ev (b := true) h (by simp [isD]))) rfl)
  | str s => exact ev_andV0 (isiV_ev (b := false) h (by simp [isD])) rfl
  | none => exact ev_andV0 (isiV_ev (b := false) h (by simp [isD])) rfl
  | list _ => cases hp
  | tuple _ => cases hp
  | dict _ => cases hp
section
variable {n : Nat} {d : BD} (hn : n ≤ 5) (hw : wf n 0 d)
include hn hw
theorem isc_kind {v : D} (h : isD "tuple" v = false) : G_is_configuration [dD d, .int (n : Int), v] = some (.bool false) :=
  runP_of (ρ := [.d (dD d), .d (.int (n : Int)), .d v, .no]) rfl rfl (B' := ⟨[], []⟩) (seq_ret (ev_if1 (ev_or1 (ev_not (b := false) (isi_ev rfl h))) (ev_ret ev_c)))
theorem isc_len {xs : List D} (h : xs.length ≠ n) : G_is_configuration [dD d, .int (n : Int), .tuple xs] = some (.bool false) := by
  refine runP_of (ρ := [.d (dD d), .d (.int (n : Int)), .d (.tuple xs), .no]) rfl rfl (B' := ⟨[], []⟩) (seq_ret (ev_if1 (ev_or (ev_not (b := true) (isi_ev rfl (by simp [isD]))) (ev_bl (ev_bin (ev_cb (ev_cons (ev_any rfl) ev_nil) (gLen_tuple _)) (ev_any rfl) ?_))) (ev_ret ev_c)))
  rw [gNe_int, decide_eq_false (by omega)]; rfl
theorem isc_run {xs : List D} (hl : xs.length = n) (hp : ∀ x ∈ xs, plainD x = true) : fTru (fCB gAll (fCons (fFr (fLc (fIt (fAny 2)) (gSet 3) fYes e1_is_configuration [3])) fNil)) [.d (dD d), .d (.int (n : Int)), .d (.tuple xs), .no] ⟨[], []⟩ = some (xs.all okBit, ⟨[], []⟩) := by
  have sz : (2000 : Nat) ≤ sizeLine := by decide
  exact ev_tru (ev_cb (ev_cons (ev_fr (ev_lc (ev_it (ev_any rfl) rfl) (lcL_map (fun x => .bool (okBit x)) xs (fun x hx => ⟨[.d (dD d), .d (.int (n : Int)), .d (.tuple xs), .d x], rfl, rfl, bit_ok (hp x hx) rfl⟩) (by omega)))) ev_nil) (all_bools _ _)) rfl
theorem isc_bit {xs : List D} (hl : xs.length = n) (hp : ∀ x ∈ xs, plainD x = true) (h : xs.all okBit = false) : G_is_configuration [dD d, .int (n : Int), .tuple xs] = some (.bool false) := by
  have r := isc_run hn hw hl hp
  rw [h] at r
  refine runP_of (ρ := [.d (dD d), .d (.int (n : Int)), .d (.tuple xs), .no]) rfl rfl (B' := ⟨[], []⟩) (ev_seq (ev_if0 (ev_or (ev_not (b := true) (isi_ev rfl (by simp [isD]))) (ev_bl (ev_bin (ev_cb (ev_cons (ev_any rfl) ev_nil) (gLen_tuple _)) (ev_any rfl) ?_))) ev_next) (seq_ret (ev_if1 (ev_not r) (ev_ret ev_c))))
  rw [gNe_int, decide_eq_true (by omega)]; rfl
theorem isc_ok {c : List Bool} (hc : c.length = n) : G_is_configuration [dD d, .int (n : Int), cD c] = some (.bool (ev d c)) := by
  have hl : (c.map fun b => PyData.int (bI b)).length = n := by rw [List.length_map, hc]
  have r := isc_run hn hw hl (fun x hx => by
    obtain ⟨b, _, rfl⟩ := List.mem_map.mp hx
    rfl)
  have al : (c.map fun b => PyData.int (bI b)).all okBit = true := by
    rw [List.all_map, List.all_eq_true]
    intro b _
    cases b <;> rfl
  rw [al] at r
  refine runP_of (ρ := [.d (dD d), .d (.int (n : Int)), .d (cD c), .no]) rfl rfl (B' := ⟨[], []⟩) (ev_seq (ev_if0 (ev_or (ev_not (b := true) (isi_ev rfl (by simp [isD, cD]))) (ev_bl (ev_bin (ev_cb (ev_cons (ev_any rfl) ev_nil) (gLen_tuple _)) (ev_any rfl) ?_))) ev_next) (ev_seq (ev_if0 (ev_not r) ev_next) (ev_ret (ev_bin (ev_call (ev_cons (ev_var rfl) (ev_cons (ev_var rfl) ev_nil)) rfl (holds_eq (by omega) hw hc)) ev_c ?_))))
  · rw [gNe_int, decide_eq_true (by omega)]; rfl
  · cases ev d c <;> rfl
theorem iss_kind {v : D} (h : isD "tuple" v = false) : G_is_sample [dD d, .int (n : Int), v] = some (.bool false) :=
  runP_of (ρ := [.d (dD d), .d (.int (n : Int)), .d v, .no, .no]) rfl rfl (B' := ⟨[], []⟩) (seq_ret (ev_if1 (ev_or1 (ev_not (b := false) (isi_ev rfl h))) (ev_ret ev_c)))
theorem iss_all {xs : List D} {P : D → Bool} (hl : xs.length ≤ 1000) (h : ∀ x ∈ xs, G_is_configuration [dD d, .int (n : Int), x] = some (.bool (P x))) : fTru (fCB gAll (fCons (fFr (fLc (fIt (fAny 2)) (gSet 3) fYes e1_is_sample [3])) fNil)) [.d (dD d), .d (.int (n : Int)), .d (.tuple xs), .no, .no] ⟨[], []⟩ = some (xs.all P, ⟨[], []⟩) := by
  have sz : (2000 : Nat) ≤ sizeLine := by decide
  exact ev_tru (ev_cb (ev_cons (ev_fr (ev_lc (ev_it (ev_any rfl) rfl) (lcL_map (fun x => .bool (P x)) xs (fun x hx => ⟨[.d (dD d), .d (.int (n : Int)), .d (.tuple xs), .d x, .no], rfl, rfl, ev_call (ev_cons (ev_var rfl) (ev_cons (ev_var rfl) (ev_cons (ev_var rfl) ev_nil))) rfl (h x hx)⟩) (by omega)))) ev_nil) (all_bools _ _)) rfl
theorem iss_elem {xs : List D} {P : D → Bool} (hl : xs.length ≤ 1000) (h : ∀ x ∈ xs, G_is_configuration [dD d, .int (n : Int), x] = some (.bool (P x))) (hb : xs.all P = false) : G_is_sample [dD d, .int (n : Int), .tuple xs] = some (.bool false) := by
  have r := iss_all hn hw hl h
  rw [hb] at r
  exact runP_of (ρ := [.d (dD d), .d (.int (n : Int)), .d (.tuple xs), .no, .no]) rfl rfl (B' := ⟨[], []⟩) (seq_ret (ev_if1 (ev_or (ev_not (b := true) (isi_ev rfl (by simp [isD]))) (ev_not r)) (ev_ret ev_c)))
def ltC (c c' : List Bool) : Bool := PySem.W.dataLt (cD c) (cD c')
omit hn hw in
theorem cD_alike (c c' : List Bool) : PySem.W.alike (cD c) (cD c') = true := by
  have h := PySem.W.DatumOrd.alike (⟨c.map bI⟩ : PySem.W.Tup Int) (⟨c'.map bI⟩ : PySem.W.Tup Int)
  have e : ∀ c : List Bool, PySem.W.Datum.toD (⟨c.map bI⟩ : PySem.W.Tup Int) = cD c := fun c => by
    show PyData.tuple ((c.map bI).map PyData.int) = _
    rw [List.map_map]; rfl
  rw [e, e] at h
  exact h
omit hn hw in
theorem ltC_list (c c' : List Bool) : ltC c c' = PySem.W.listLt (c.map bI) (c'.map bI) := by
  have h := PySem.W.DatumOrd.lt_eq (⟨c.map bI⟩ : PySem.W.Tup Int) (⟨c'.map bI⟩ : PySem.W.Tup Int)
  have e : ∀ c : List Bool, PySem.W.Datum.toD (⟨c.map bI⟩ : PySem.W.Tup Int) = cD c := fun c => by
    show PyData.tuple ((c.map bI).map PyData.int) = _
    rw [List.map_map]; rfl
  rw [e, e] at h
  exact h
omit hn hw in
theorem cD_depth (c : List Bool) : (cD c).depth ≤ 1 := by
  have : ∀ l : List Bool, PyData.depthAll (l.map fun b => PyData.int (bI b)) = 0 := fun l => by
    induction l with
    | nil => simp [PyData.depthAll]
    | cons b l ih => simp only [List.map_cons, PyData.depthAll, ih, PyData.depth]; rfl
  simp only [cD, PyData.depth, this]; omega
omit hn hw in
theorem gLtD_cD (c c' : List Bool) : gLtD (cD c) (cD c') = some (.bool (ltC c c')) := by
  unfold gLtD
  have := cD_depth c
  rw [cD_alike, decide_eq_true (by omega : min (cD c).depth (cD c').depth ≤ 150)]
  rfl
theorem iss_run {C : List (List Bool)} (hl : C.length ≤ 1000) (hC : ∀ c ∈ C, c.length = n ∧ ev d c = true) : G_is_sample [dD d, .int (n : Int), .tuple (C.map cD)] = some (.bool ((List.range (C.length - 1)).all fun k => ltC (C[k]?.getD []) (C[k + 1]?.getD []))) := by
  have sz : (2000 : Nat) ≤ sizeLine := by decide
  have r := iss_all hn hw (xs := C.map cD) (P := fun _ => true) (by rw [List.length_map]; exact hl) (fun x hx => by
    obtain ⟨c, hc, rfl⟩ := List.mem_map.mp hx
    obtain ⟨h1, h2⟩ := hC c hc
    rw [isc_ok hn hw h1, h2])
  have al : (C.map cD).all (fun _ => true) = true := by rw [List.all_eq_true]; intro _ _; rfl
  rw [al] at r
  have rg : rng1 [.int ((C.length : Int) - 1)] = some ((List.range (C.length - 1)).map fun (i : Nat) => PyData.int (i : Int)) := by
    by_cases c : C.length = 0
    · rw [c]; rfl
    · rw [show (C.length : Int) - 1 = ((C.length - 1 : Nat) : Int) by omega]
      exact rng1_nat (by omega)
  refine runP_of (ρ := [.d (dD d), .d (.int (n : Int)), .d (.tuple (C.map cD)), .no, .no]) rfl rfl (B' := ⟨[], []⟩) (ev_seq (ev_if0 (ev_or (ev_not (b := true) (isi_ev rfl (by simp [isD]))) (ev_not r)) ev_next) (ev_ret (ev_cb (ev_cons (ev_fr (ev_lc (ev_co (ev_cons (ev_bin (ev_cb (ev_cons (ev_any rfl) ev_nil) (gLen_tuple _)) ev_c (gSub_int _ _)) ev_nil) (by rw [List.length_map]; exact rg)) (lcL_map (fun x => .bool (ltC (C[natD x]?.getD []) (C[natD x + 1]?.getD []))) _ (fun x hx => ?_) (by simp; omega)))) ev_nil) ?_)))
  · obtain ⟨k, hk, rfl⟩ := List.mem_map.mp hx
    have hk := List.mem_range.mp hk
    have en : natD (.int (k : Int)) = k := Int.toNat_natCast k
    rw [en]
    have g1 : C[k]? = some C[k] := List.getElem?_eq_getElem (by omega)
    have g2 : C[k + 1]? = some C[k + 1] := List.getElem?_eq_getElem (by omega)
    have i1 : gIx (.tuple (C.map cD)) (.int (k : Int)) = some (cD C[k]) := by rw [gIx_tuple, List.getElem?_map, g1]; rfl
    have i2 : gIx (.tuple (C.map cD)) (.int ((k : Int) + 1)) = some (cD C[k + 1]) := by
      rw [show (k : Int) + 1 = ((k + 1 : Nat) : Int) by omega, gIx_tuple, List.getElem?_map, g2]; rfl
    refine ⟨[.d (dD d), .d (.int (n : Int)), .d (.tuple (C.map cD)), .no, .d (.int (k : Int))], rfl, rfl, ?_⟩
    rw [g1, g2]
    exact ev_bin (ev_bin (ev_any rfl) (ev_any rfl) i1) (ev_bin (ev_any rfl) (ev_bin (ev_any rfl) ev_c (gAdd_int _ _)) i2) (gLtD_cD _ _)
  · refine (all_bools (fun x => ltC (C[natD x]?.getD []) (C[natD x + 1]?.getD [])) _).trans ?_
    rw [List.all_map]
    exact congrArg (fun f => some (PyData.bool (List.all _ f))) (funext fun k => by
      show ltC (C[natD (.int (k : Int))]?.getD []) (C[natD (.int (k : Int)) + 1]?.getD []) = _
      rw [show natD (.int (k : Int)) = k from Int.toNat_natCast k])
end
theorem listLt_app {x y : List Int} : ∀ {c c' : List Int}, c.length = c'.length → PySem.W.listLt c c' = true → PySem.W.listLt (c ++ x) (c' ++ y) = true
  | [], [], _, h => by cases h
  | [], _ :: _, h, _ => by cases h
  | _ :: _, [], h, _ => by cases h
  | a :: c, b :: c', hl, h => by
    show PySem.W.listLt (a :: (c ++ x)) (b :: (c' ++ y)) = true
    rw [PySem.W.listLt] at h ⊢
    by_cases e : a = b
    · rw [if_pos e] at h ⊢
      exact listLt_app (by simpa using hl) h
    · rw [if_neg e] at h ⊢
      exact h
theorem listLt_last (c : List Int) {a b : Int} (h : a < b) : PySem.W.listLt (c ++ [a]) (c ++ [b]) = true := by
  induction c with
  | nil =>
    show PySem.W.listLt [a] [b] = true
    rw [PySem.W.listLt, if_neg (by omega)]
    exact decide_eq_true h
  | cons x c ih =>
    show PySem.W.listLt (x :: (c ++ [a])) (x :: (c ++ [b])) = true
    rw [PySem.W.listLt, if_pos rfl, ih]
theorem cfgs_sorted : ∀ k : Nat, (cfgs k).Pairwise fun c c' => ltC c c' = true
  | 0 => List.pairwise_singleton _ _
  | k + 1 => by
    have ih := cfgs_sorted k
    rw [cfgs, List.pairwise_flatMap]
    refine ⟨fun c _ => ?_, ?_⟩
    · refine List.pairwise_cons.mpr ⟨fun c' hc' => ?_, List.pairwise_singleton _ _⟩
      rw [List.mem_singleton.mp hc', ltC_list, List.map_append, List.map_append]
      exact listLt_last _ (by decide)
    · refine List.Pairwise.imp_of_mem (fun {c c'} hc hc' h x hx y hy => ?_) ih
      have l1 := cfgs_len k c hc
      have l2 := cfgs_len k c' hc'
      rw [ltC_list] at h
      have all : ∀ b b' : Bool, ltC (c ++ [b]) (c' ++ [b']) = true := fun b b' => by
        rw [ltC_list, List.map_append, List.map_append]
        exact listLt_app (by rw [List.length_map, List.length_map, l1, l2]) h
      simp only [List.mem_cons, List.not_mem_nil, or_false] at hx hy
      rcases hx with rfl | rfl <;> rcases hy with rfl | rfl <;> exact all _ _
theorem ltC_irr (c : List Bool) : ltC c c = false := PySem.W.dataLt_self _
theorem sorted_all {C : List (List Bool)} (h : C.Pairwise fun c c' => ltC c c' = true) : ((List.range (C.length - 1)).all fun k => ltC (C[k]?.getD []) (C[k + 1]?.getD [])) = true := by
  rw [List.all_eq_true]
  intro k hk
  have hk := List.mem_range.mp hk
  rw [List.getElem?_eq_getElem (by omega : k < C.length), List.getElem?_eq_getElem (by omega : k + 1 < C.length)]
  exact List.pairwise_iff_getElem.mp h k (k + 1) (by omega) (by omega) (by omega)
end K72

namespace K72
open PySem PySem.Spec L2 DL
theorem depthAll_le {n : Nat} : ∀ {xs : List D}, (∀ d ∈ xs, d.depth ≤ n) → PyData.depthAll xs ≤ n
  | [], _ => by simp [PyData.depthAll]
  | x :: xs, h => by
    have a := h x List.mem_cons_self
    have b := depthAll_le (xs := xs) fun d hd => h d (List.mem_cons_of_mem _ hd)
    simp only [PyData.depthAll]; omega
theorem eqvAll_bits : ∀ c : List Bool, PyData.eqvAll (c.map fun b => PyData.int (bI b)) (c.map fun b => PyData.int (bI b)) = true
  | [] => rfl
  | b :: c => by
    simp only [List.map_cons, PyData.eqvAll, eqvAll_bits c, Bool.and_true]
    cases b <;> rfl
theorem eqv_cD (c : List Bool) : PyData.eqv (cD c) (cD c) = true := by
  show PyData.eqv (.tuple _) (.tuple _) = true
  rw [PyData.eqv]
  exact eqvAll_bits c
theorem all_depth (C : List (List Bool)) : PyData.depthAll (C.map cD) ≤ 1 := depthAll_le fun d hd => by
  obtain ⟨c, _, rfl⟩ := List.mem_map.mp hd
  exact cD_depth c
theorem gNotIn_cD (V : List (List Bool)) (c : List Bool) : gNotIn (cD c) (.list (V.map cD)) = some (.bool (!(V.map cD).any fun y => PyData.eqv y (cD c))) := by
  show gd _ _ = _
  have := cD_depth c
  rw [decide_eq_true (by omega : min (PyData.depthAll (V.map cD)) (cD c).depth ≤ 150), gd_t]
theorem mulT1 (x : D) {n : Nat} (h0 : 1 ≤ n) (h1 : n ≤ 1000) : gMulT (.tuple [x]) (.int (n : Int)) = some (.tuple (List.replicate n x)) := by
  show gd _ _ = _
  rw [decide_eq_true (by simp; omega), gd_t, Int.toNat_natCast]
  have : ∀ m : Nat, (List.replicate m [x]).flatten = List.replicate m x := fun m => by
    induction m with
    | zero => rfl
    | succ m ih => rw [List.replicate_succ, List.flatten_cons, ih]; rfl
  rw [this]
theorem sortedT_cD {C : List (List Bool)} {n : Nat} (h0 : 1 ≤ n) (hC : ∀ c ∈ C, c.length = n) (hl : C.length ≤ 100000) : gSortedT [.tuple (C.map cD)] = some (sortD (C.map cD)) ∧ gSortedT [.list (C.map cD)] = some (sortD (C.map cD)) := by
  have sz : (200000 : Nat) ≤ sizeLine := by decide
  have g : (alikeL (C.map cD) && sortable (C.map cD) && decide (PyData.depthAll (C.map cD) ≤ 150 ∧ (C.map cD).length ≤ sizeLine)) = true := by
    have a := all_depth C
    rw [Bool.and_eq_true, Bool.and_eq_true, decide_eq_true_eq]
    refine ⟨⟨?_, ?_⟩, by omega, by rw [List.length_map]; omega⟩
    · refine List.all_eq_true.mpr fun x hx => List.all_eq_true.mpr fun y hy => ?_
      obtain ⟨c, _, rfl⟩ := List.mem_map.mp hx
      obtain ⟨c', _, rfl⟩ := List.mem_map.mp hy
      exact cD_alike c c'
    · unfold sortable
      rw [Bool.or_eq_true]
      refine .inl (List.all_eq_true.mpr fun x hx => ?_)
      obtain ⟨c, hc, rfl⟩ := List.mem_map.mp hx
      have := hC c hc
      cases c with
      | nil => simp at this; omega
      | cons b c => rfl
  constructor
  · show gd _ _ = _
    rw [g, gd_t]
  · show gd _ _ = _
    rw [g, gd_t]
theorem gNe_nilV (v : D) : ∃ b, gNe v (.tuple []) = some (.bool b) ∧ (b = false → v = .tuple []) ∧ (v = .tuple [] → b = false) := by
  by_cases c : v = .tuple []
  · subst c
    exact ⟨false, by rw [gNe_nilT]; rfl, fun _ => rfl, fun _ => rfl⟩
  · refine ⟨true, ?_, (fun h => nomatch h), fun e => absurd e c⟩
    unfold gNe
    rw [decide_eq_true (by
      have : (PyData.tuple ([] : List D)).depth = 1 := rfl
      omega), gd_t]
    cases v with
    | tuple xs =>
      cases xs with
      | nil => exact absurd rfl c
      | cons => rfl
    | _ => rfl
section
variable {n : Nat} {d : BD} (h0 : 1 ≤ n) (hn : n ≤ 5) (hw : wf n 0 d)
include h0 hn hw
def badV (n : Nat) (d : BD) (v : D) : Prop := v = .tuple [] ∨ G_is_sample [dD d, .int (n : Int), v] = some (.bool false)
open Classical in
theorem iss_some {xs : List D} (hl : xs.length ≤ 1000) (hx : ∀ x ∈ xs, ∃ b, G_is_configuration [dD d, .int (n : Int), x] = some (.bool b)) (hb : ∃ x ∈ xs, G_is_configuration [dD d, .int (n : Int), x] = some (.bool false)) : G_is_sample [dD d, .int (n : Int), .tuple xs] = some (.bool false) := by
  refine iss_elem hn hw (P := fun x => decide (G_is_configuration [dD d, .int (n : Int), x] = some (.bool true))) hl (fun x h => ?_) ?_
  · obtain ⟨b, e⟩ := hx x h
    rw [e]
    cases b <;> simp
  · obtain ⟨x, h, e⟩ := hb
    refine List.all_eq_false.mpr ⟨x, h, ?_⟩
    rw [e]; simp
theorem bad_app {T : List (List Bool)} {x : D} (hT : ∀ c ∈ T, c.length = n ∧ ev d c = true) (hl : T.length ≤ 900) (hx : G_is_configuration [dD d, .int (n : Int), x] = some (.bool false)) : badV n d (.tuple (T.map cD ++ [x])) := by
  refine .inr (iss_some h0 hn hw (by simp; omega) (fun y hy => ?_) ⟨x, by simp, hx⟩)
  rcases List.mem_append.mp hy with hy | hy
  · obtain ⟨c, hc, rfl⟩ := List.mem_map.mp hy
    exact ⟨_, isc_ok hn hw (hT c hc).1⟩
  · rw [List.mem_singleton.mp hy]
    exact ⟨_, hx⟩
theorem bad_rep {T : List (List Bool)} {c : List Bool} (hT : ∀ c' ∈ T ++ [c, c], c'.length = n ∧ ev d c' = true) (hl : T.length ≤ 900) : badV n d (.tuple ((T ++ [c, c]).map cD)) := by
  refine .inr ((iss_run hn hw (by simp; omega) hT).trans (congrArg (fun b => some (PyData.bool b)) (List.all_eq_false.mpr ⟨T.length, List.mem_range.mpr (by simp), ?_⟩)))
  have e1 : (T ++ [c, c])[T.length]? = some c := by rw [List.getElem?_append_right (Nat.le_refl _)]; simp
  have e2 : (T ++ [c, c])[T.length + 1]? = some c := by rw [List.getElem?_append_right (by omega)]; simp
  rw [e1, e2]
  show ¬ltC c c = true
  rw [ltC_irr]; exact Bool.false_ne_true
theorem rep_len (x : D) (h : plainD x = true) (hb : okBit x = false) : G_is_configuration [dD d, .int (n : Int), .tuple (List.replicate n x)] = some (.bool false) := by
  refine isc_bit hn hw (by simp) (fun y hy => by rw [(List.mem_replicate.mp hy).2]; exact h) (List.all_eq_false.mpr ⟨x, List.mem_replicate.mpr ⟨by omega, rfl⟩, by rw [hb]; exact Bool.false_ne_true⟩)
end
end K72

namespace K72
open PySem PySem.Spec L2 DL
section
variable {n : Nat} {d : BD} (h0 : 1 ≤ n) (hn : n ≤ 5) (hw : wf n 0 d)
include h0 hn hw
theorem plus_ev {S : List (List Bool)} (hl : S.length ≤ 900) {ρ : DL.Env} {B : BS} {f : DL.Env → M (List D)} {x : D} (h3 : ρ[3]? = some (.d (.tuple (S.map cD)))) (hf : f ρ B = some ([x], B)) : fBin gAdd (fAny 3) (fTup f) ρ B = some (.tuple (S.map cD ++ [x]), B) := by
  have sz : (2000 : Nat) ≤ sizeLine := by decide
  exact ev_bin (ev_any h3) (ev_tup hf (by simp)) (gAdd_tup (by simp; omega))
theorem last_cut {S : List (List Bool)} : cutD (S.map cD) (some (-1)) none = (S.drop (S.length - 1)).map cD := by
  have e : HT.sIx (S.map cD).length 0 (some (-1)) = S.length - 1 := by
    show (if (-1 : Int) < 0 then ((-1 : Int) + (((S.map cD).length : Nat) : Int)).toNat else min (-1 : Int).toNat (S.map cD).length) = _
    rw [if_pos (by decide), List.length_map]; omega
  unfold cutD
  rw [e, HT.sIx_none, ← List.map_drop, List.take_of_length_le (by simp)]
theorem row9 {S : List (List Bool)} (hS : ∀ c ∈ S, c.length = n ∧ ev d c = true) (hl : S.length ≤ 900) : badV n d (.tuple ((S ++ S.drop (S.length - 1)).map cD)) := by
  rcases S.eq_nil_or_concat with rfl | ⟨T, c, rfl⟩
  · exact .inl rfl
  · simp only [List.concat_eq_append] at hS hl ⊢
    rw [show (T ++ [c]) ++ (T ++ [c]).drop ((T ++ [c]).length - 1) = T ++ [c, c] by simp]
    refine bad_rep h0 hn hw (fun c' h => hS c' ?_) (by simp at hl; omega)
    simp at h ⊢; exact h
theorem row10 {S : List (List Bool)} (hS : ∀ c ∈ S, c.length = n ∧ ev d c = true) (hl : S.length ≤ 900) : badV n d (.tuple ((S.reverse ++ S.take 1).map cD)) := by
  cases S with
  | nil => exact .inl rfl
  | cons c T =>
    rw [show (c :: T).reverse ++ (c :: T).take 1 = T.reverse ++ [c, c] by simp]
    refine bad_rep h0 hn hw (fun c' h => hS c' ?_) (by simp at hl; simp; omega)
    simp at h ⊢
    rcases h with h | h
    · exact .inr h
    · exact .inl h
def rowsD (n : Nat) (S : List (List Bool)) : List D := [.none, .int 5, .str "sample", .tuple (S.map cD ++ [.none]), .tuple (S.map cD ++ [.tuple []]), .tuple (S.map cD ++ [.tuple (List.replicate n (.int 2))]), .tuple [.tuple (List.replicate n (.bool true))], .tuple [.tuple (List.replicate (n + 1) (.int 0))], .tuple [.int 0], .tuple ((S ++ S.drop (S.length - 1)).map cD), .tuple ((S.reverse ++ S.take 1).map cD), .tuple [.tuple (List.replicate n (.str "0"))]]
theorem rows_bad {S : List (List Bool)} (hS : ∀ c ∈ S, c.length = n ∧ ev d c = true) (hl : S.length ≤ 900) : ∀ v ∈ rowsD n S, badV n d v := by
  have e : ∀ x : D, G_is_configuration [dD d, .int (n : Int), x] = some (.bool false) → badV n d (.tuple [x]) := fun x h => bad_app h0 hn hw (T := []) (fun c h => nomatch h) (by simp) h
  intro v hv
  simp only [rowsD, List.mem_cons, List.not_mem_nil, or_false] at hv
  rcases hv with rfl | rfl | rfl | rfl | rfl | rfl | rfl | rfl | rfl | rfl | rfl | rfl
  · exact .inr (iss_kind hn hw rfl)
  · exact .inr (iss_kind hn hw rfl)
  · exact .inr (iss_kind hn hw rfl)
  · exact bad_app h0 hn hw hS hl (isc_kind hn hw rfl)
  · exact bad_app h0 hn hw hS hl (isc_len hn hw (by simp; omega))
  · exact bad_app h0 hn hw hS hl (rep_len h0 hn hw _ rfl rfl)
  · exact e _ (rep_len h0 hn hw _ rfl rfl)
  · exact e _ (isc_len hn hw (by simp))
  · exact e _ (isc_kind hn hw rfl)
  · exact row9 h0 hn hw hS hl
  · exact row10 h0 hn hw hS hl
  · exact e _ (rep_len h0 hn hw _ rfl rfl)
theorem bad_ok {S : List (List Bool)} (hS : S.Sublist (valid d n)) (hv : (valid d n).length ≤ 32) {B : BS} (o : B.ok) : ∃ v B', B'.ok ∧ G_Lbad [.int (n : Int), .list ((valid d n).map cD), .tuple (S.map cD)] B = some (v, B') ∧ G_is_sample [dD d, .int (n : Int), v] = some (.bool false) := by
  have sz : (2000 : Nat) ≤ sizeLine := by decide
  have hS2 : ∀ c ∈ S, c.length = n ∧ ev d c = true := fun c hc => by
    have := List.mem_filter.mp (hS.subset hc)
    exact ⟨cfgs_len n c this.1, this.2⟩
  have hl : S.length ≤ 32 := Nat.le_trans hS.length_le hv
  obtain ⟨ρ0, hρ0⟩ : ∃ ρ0 : DL.Env, ρ0 = [.box, .d (.int (n : Int)), .d (.list ((valid d n).map cD)), .d (.tuple (S.map cD)), .no, .no, .no, .no] := ⟨_, rfl⟩
  have cn : (cfgs n).length ≤ 32 := by
    rw [cfgs_count]
    exact Nat.pow_le_pow_right (by decide) hn
  obtain ⟨L, hL, hLl, eL⟩ : ∃ L : List (List Bool), (∀ c ∈ L, c.length = n ∧ ev d c = false) ∧ L.length ≤ 32 ∧ fFr (fLc (fIt (fCall 1 G_Lconfigs (fCons (fVar 1) fNil))) (gSet 5) (fBl (fBin gNotIn (fAny 5) (fAny 2))) (fVar 5) [5]) ρ0 B = some (.list (L.map cD), B) := by
    refine ⟨(cfgs n).filter fun c => !((valid d n).map cD).any fun y => PyData.eqv y (cD c), fun c hc => ?_, Nat.le_trans (List.length_filter_le _ _) cn, ?_⟩
    · obtain ⟨h1, h2⟩ := List.mem_filter.mp hc
      refine ⟨cfgs_len n c h1, ?_⟩
      cases e : ev d c with
      | false => rfl
      | true =>
        have : ((valid d n).map cD).any (fun y => PyData.eqv y (cD c)) = true := List.any_eq_true.mpr ⟨cD c, List.mem_map.mpr ⟨c, List.mem_filter.mpr ⟨h1, e⟩, rfl⟩, eqv_cD c⟩
        rw [this] at h2; cases h2
    · have L := lcL_pure (g := gSet 5) (ft := fBl (fBin gNotIn (fAny 5) (fAny 2))) (fe := fVar 5) (ρ := wipeE ρ0 [5]) (B := B) (fun x => !((valid d n).map cD).any fun y => PyData.eqv y x) id ((cfgs n).map cD) [] (fun x hx => by
        obtain ⟨c, _, rfl⟩ := List.mem_map.mp hx
        subst hρ0
        exact ⟨[.box, .d (.int (n : Int)), .d (.list ((valid d n).map cD)), .d (.tuple (S.map cD)), .no, .d (cD c), .no, .no], rfl, ev_bl (ev_bin (ev_any rfl) (ev_any rfl) (gNotIn_cD _ _)), fun _ => ev_var rfl⟩) (by simp; omega)
      rw [List.map_id, List.nil_append, List.filter_map] at L
      refine ev_fr (ev_lc (ev_it (ev_call (ev_cons (ev_var (d := .int (n : Int)) (by rw [hρ0]; rfl)) ev_nil) rfl (configs_eq hn)) rfl) L)
  subst hρ0
  have a2 : ∀ B : BS, fLst (fCons (fC .none) (fCons (fC (.int 5)) (fCons (fC (.str "sample")) (fCons (fBin gAdd (fAny 3) (fTup (fCons (fC .none) fNil))) (fCons (fBin gAdd (fAny 3) (fTup (fCons (fTup fNil) fNil))) (fCons (fBin gAdd (fAny 3) (fTup (fCons (fBin gMulT (fTup (fCons (fC (.int 2)) fNil)) (fAny 1)) fNil))) (fCons (fTup (fCons (fBin gMulT (fTup (fCons (fC (.bool true)) fNil)) (fAny 1)) fNil)) (fCons (fTup (fCons (fBin gMulT (fTup (fCons (fC (.int 0)) fNil)) (fBin gAdd (fAny 1) (fC (.int 1)))) fNil)) (fCons (fTup (fCons (fC (.int 0)) fNil)) (fCons (fBin gAdd (fAny 3) (fSl (fAny 3) (fPSo (fUn gNeg (fC (.int 1)))) fPNo)) (fCons (fBin gAdd (fUn gRevTup (fAny 3)) (fSl (fAny 3) fPNo (fPSo (fC (.int 1))))) (fCons (fTup (fCons (fBin gMulT (fTup (fCons (fC (.str "0")) fNil)) (fAny 1)) fNil)) fNil)))))))))))) [.box, .d (.int (n : Int)), .d (.list ((valid d n).map cD)), .d (.tuple (S.map cD)), .d (.list (L.map cD)), .no, .no, .no] B = some (rowsD n S, B) := fun B => by
    refine ev_lst (ev_cons ev_c (ev_cons ev_c (ev_cons ev_c (ev_cons (plus_ev h0 hn hw (by omega) rfl (ev_cons ev_c ev_nil)) (ev_cons (plus_ev h0 hn hw (by omega) rfl (ev_cons (ev_tup ev_nil (by simp)) ev_nil)) (ev_cons (plus_ev h0 hn hw (by omega) rfl (ev_cons (ev_bin (ev_tup (ev_cons ev_c ev_nil) (by simp)) (ev_any rfl) (mulT1 _ h0 (by omega))) ev_nil)) (ev_cons (ev_tup (ev_cons (ev_bin (ev_tup (ev_cons ev_c ev_nil) (by simp)) (ev_any rfl) (mulT1 _ h0 (by omega))) ev_nil) (by simp)) (ev_cons (ev_tup (ev_cons (ev_bin (ev_tup (ev_cons ev_c ev_nil) (by simp)) (ev_bin (ev_any rfl) ev_c (gAdd_int _ _)) ?_) ev_nil) (by simp)) (ev_cons (ev_tup (ev_cons ev_c ev_nil) (by simp)) (ev_cons (B1 := B) ?_ (ev_cons (B1 := B) ?_ (ev_cons (ev_tup (ev_cons (ev_bin (ev_tup (ev_cons ev_c ev_nil) (by simp)) (ev_any rfl) (mulT1 _ h0 (by omega))) ev_nil) (by simp)) ev_nil)))))))))))) (by simp [rowsD])
    · exact mulT1 _ (n := n + 1) (by omega) (by omega)
    · refine ev_bin (ev_any rfl) (ev_sl (ev_any rfl) (ev_pso (ev_un ev_c rfl)) ev_pno (by rw [gSl_tuple, last_cut h0 hn hw])) ?_
      rw [gAdd_tup (by simp; omega), ← List.map_append]
    · refine ev_bin (ev_un (ev_any rfl) (show gRevTup (.tuple (S.map cD)) = some (.tuple (S.map cD).reverse) from rfl)) (ev_sl (ev_any rfl) ev_pno (ev_pso ev_c) (by rw [gSl_tuple, show (1 : Int) = ((1 : Nat) : Int) from rfl, cutD_to])) ?_
      rw [gAdd_tup (by simp; omega), ← List.map_reverse, ← List.map_take, ← List.map_append]
  have rb := rows_bad h0 hn hw hS2 (by omega)
  obtain ⟨R, B1, o1, hR, hR0, hRl, e3⟩ : ∃ (R : List D) (B1 : BS), B1.ok ∧ (∀ v ∈ R, badV n d v) ∧ 0 < R.length ∧ R.length ≤ 13 ∧ fIf (fBl (fBin gNe (fAny 4) (fFr (fLst fNil)))) (fApp 6 (fCB gTuple (fCons (fFr (fCO gSortedT (fCons (fBin gAdd (fAny 3) (fTup (fCons (fBin gIx (fAny 4) (fCallB 0 2 G_Ldraw (fCons (fCB gLen (fCons (fAny 4) fNil)) fNil))) fNil))) fNil))) fNil))) fNext [.box, .d (.int (n : Int)), .d (.list ((valid d n).map cD)), .d (.tuple (S.map cD)), .d (.list (L.map cD)), .no, .own (rowsD n S), .no] B = some (.nx [.box, .d (.int (n : Int)), .d (.list ((valid d n).map cD)), .d (.tuple (S.map cD)), .d (.list (L.map cD)), .no, .own R, .no], B1) := by
    cases L with
    | nil => exact ⟨rowsD n S, B, o, rb, by simp [rowsD], by simp [rowsD], ev_if0 (ev_bl (ev_bin (ev_any rfl) (ev_fr (ev_lst ev_nil (by simp))) (gNe_nilL _))) ev_next⟩
    | cons c0 L =>
      obtain ⟨k, B1, hk, o1, ed⟩ := ev_draw (ρ := [.box, .d (.int (n : Int)), .d (.list ((valid d n).map cD)), .d (.tuple (S.map cD)), .d (.list ((c0 :: L).map cD)), .no, .own (rowsD n S), .no]) (B := B) (B1 := B) (i := 0) (f := fCB gLen (fCons (fAny 4) fNil)) (c0 :: L).length rfl (ev_cb (ev_cons (ev_any rfl) ev_nil) (by rw [gLen_list, List.length_map])) o (by simp) (by omega)
      have gk : (c0 :: L)[k]? = some (c0 :: L)[k] := List.getElem?_eq_getElem hk
      obtain ⟨hc, hb⟩ := hL _ (List.getElem_mem hk)
      obtain ⟨c, hcc⟩ : ∃ c, c = (c0 :: L)[k] := ⟨_, rfl⟩
      rw [← hcc] at gk hc hb
      have hC : ∀ c' ∈ S ++ [c], c'.length = n := fun c' h => by
        rcases List.mem_append.mp h with h | h
        · exact (hS2 c' h).1
        · rw [List.mem_singleton.mp h]; exact hc
      have srt := (sortedT_cD h0 hC (by simp; omega)).1
      have pm : (sortD ((S ++ [c]).map cD)).Perm ((S ++ [c]).map cD) := List.mergeSort_perm _ _
      refine ⟨rowsD n S ++ [.tuple (sortD ((S ++ [c]).map cD))], B1, o1, fun v hv => ?_, by simp, by simp [rowsD], ?_⟩
      · rcases List.mem_append.mp hv with hv | hv
        · exact rb v hv
        · rw [List.mem_singleton.mp hv]
          refine .inr (iss_some h0 hn hw (by rw [pm.length_eq]; simp; omega) (fun x hx => ?_) ⟨cD c, pm.mem_iff.mpr (by simp), ?_⟩)
          · obtain ⟨c', hc', rfl⟩ := List.mem_map.mp (pm.mem_iff.mp hx)
            exact ⟨_, isc_ok hn hw (hC c' hc')⟩
          · rw [isc_ok hn hw hc, hb]
      · refine ev_if1 (ev_bl (ev_bin (ev_any rfl) (ev_fr (ev_lst ev_nil (by simp))) (gNe_nilL _))) ((ev_app (i := 6) (ds := rowsD n S) rfl (ev_cb (ev_cons (ev_fr (ev_co (ev_cons (ev_bin (ev_any rfl) (ev_tup (ev_cons (ev_bin (ev_any rfl) ed (show gIx (.list ((c0 :: L).map cD)) (.int (k : Int)) = some (cD c) by rw [gIx_list, List.getElem?_map, gk]; rfl)) ev_nil) (by simp)) (show gAdd (.tuple (S.map cD)) (.tuple [cD c]) = some (.tuple ((S ++ [c]).map cD)) by rw [gAdd_tup (by simp; omega)]; simp)) ev_nil) srt)) ev_nil) rfl) (by show 12 < sizeLine; omega)).trans rfl)
  obtain ⟨k, B2, hk, o2, ed⟩ := ev_draw (ρ := [.box, .d (.int (n : Int)), .d (.list ((valid d n).map cD)), .d (.tuple (S.map cD)), .d (.list (L.map cD)), .no, .own R, .no]) (B := B1) (B1 := B1) (i := 0) (f := fCB gLen (fCons (fAny 6) fNil)) R.length rfl (ev_cb (ev_cons (ev_own rfl) ev_nil) (gLen_list _)) o1 hR0 (by omega)
  obtain ⟨v, hvv⟩ : ∃ v, v = R[k] := ⟨_, rfl⟩
  have gk : R[k]? = some v := by rw [List.getElem?_eq_getElem hk, hvv]
  have bv := hR v (by rw [hvv]; exact List.getElem_mem hk)
  obtain ⟨b, en, n1, n2⟩ := gNe_nilV v
  have tail : ∀ (w : D), (if b then v else .none) = w → G_Lbad [.int (n : Int), .list ((valid d n).map cD), .tuple (S.map cD)] B = some (w, B2) := fun w hww => by
    refine runB_of (ρ := [.d (.int (n : Int)), .d (.list ((valid d n).map cD)), .d (.tuple (S.map cD)), .no, .no, .no, .no]) rfl rfl ?_
    refine ev_seq (ev_set eL) (ev_seq (ev_setO (a2 B)) (ev_seq e3 (ev_seq (ev_set (ev_bin (ev_own rfl) ed (show gIx (.list R) (.int (k : Int)) = some v by rw [gIx_list, gk]))) (ev_ret ?_))))
    have et : fBl (fBin gNe (fAny 7) (fTup fNil)) [.box, .d (.int (n : Int)), .d (.list ((valid d n).map cD)), .d (.tuple (S.map cD)), .d (.list (L.map cD)), .no, .own R, .d v] B2 = some (b, B2) := ev_bl (ev_bin (ev_any rfl) (ev_tup ev_nil (by simp)) en)
    cases b with
    | true => rw [← hww]; exact ev_ifE1 et (ev_var rfl)
    | false => rw [← hww]; exact ev_ifE0 et ev_c
  cases b with
  | true =>
    refine ⟨v, B2, o2, tail v rfl, ?_⟩
    rcases bv with h | h
    · cases n2 h
    · exact h
  | false => exact ⟨.none, B2, o2, tail .none rfl, iss_kind hn hw rfl⟩
end
end K72

namespace K72
open PySem PySem.Spec L2 DL
theorem bools_of : ∀ {out : List D}, (∀ (k : Nat) (y : D), out[k]? = some y → ∃ b : Bool, y = .bool b) → ∃ ts : List Bool, out = ts.map .bool
  | [], _ => ⟨[], rfl⟩
  | y :: out, h => by
    obtain ⟨b, rfl⟩ := h 0 y rfl
    obtain ⟨ts, rfl⟩ := bools_of (out := out) fun k y hy => h (k + 1) y (by simpa using hy)
    exact ⟨b :: ts, rfl⟩
theorem any_true (ts : List Bool) : gAny [.list (ts.map .bool)] = some (.bool (ts.any id)) := by
  have := any_bools (fun x => match x with | .bool b => b | _ => false) (ts.map .bool)
  rw [List.map_map, List.any_map] at this
  exact this
theorem some_ok {n : Nat} (h0 : 1 ≤ n) (hn : n ≤ 5) {B : BS} (o : B.ok) : ∃ d B', B'.ok ∧ G_Lsome [.int (n : Int), .int 4] B = some (dD d, B') ∧ wf n 0 d ∧ ∃ c : List Bool, c.length = n ∧ ev d c = true := by
  have sz : (2000 : Nat) ≤ sizeLine := by decide
  obtain ⟨kind, B1, hk, o1, e1⟩ := ev_draw (ρ := [.box, .d (.int (n : Int)), .d (.int 4), .no, .no, .no, .no]) (B := B) (B1 := B) (i := 0) (f := fVar 2) 4 rfl (ev_var rfl) o (by decide) (by decide)
  by_cases c3 : 2 < kind
  · refine ⟨.lf true, B1, o1, runB_of (ρ := [.d (.int (n : Int)), .d (.int 4), .no, .no, .no, .no]) rfl rfl (ev_seq (ev_set e1) (seq_ret (ev_if1 (ev_bl (ev_bin (ev_any rfl) ev_c (by rw [gGt_int, decide_eq_true (by omega)]))) (ev_ret ev_c)))), trivial, List.replicate n false, by simp, rfl⟩
  obtain ⟨i, B2, hi, o2, e2⟩ := ev_draw (ρ := [.box, .d (.int (n : Int)), .d (.int 4), .d (.int (kind : Int)), .no, .no, .no]) (B := B1) (B1 := B1) (i := 0) (f := fVar 1) n rfl (ev_var rfl) o1 h0 (by omega)
  have pre : ∀ {r : Out × BS}, (fSeq (fIf (fBl (fBin gLt (fAny 3) (fC (.int 2)))) (fRet (fBin gIx (fFr (fLst (fCons (fTup (fCons (fVar 4) (fCons (fC (.bool false)) (fCons (fC (.bool true)) fNil)))) (fCons (fTup (fCons (fVar 4) (fCons (fC (.bool true)) (fCons (fC (.bool false)) fNil)))) fNil)))) (fCallB 0 2 G_Ldraw (fCons (fC (.int 2)) fNil)))) fNext) (fSeq (fSet 5 (fFr (fLc (fIt (fCall 1 G_Lconfigs (fCons (fVar 1) fNil))) (gSet 6) fYes e1_Lsome [6]))) (fRet (fIfE (fTru (fCB gAny (fCons (fAny 5) fNil))) (fCall 2 (G_Ldiagram 6) (fCons (fVar 5) (fCons (fC (.int 0)) fNil))) (fC (.bool true)))))) [.box, .d (.int (n : Int)), .d (.int 4), .d (.int (kind : Int)), .d (.int (i : Int)), .no, .no] B2 = some r → s_Lsome [.box, .d (.int (n : Int)), .d (.int 4), .no, .no, .no, .no] B = some r := fun {r} h => ev_seq (ev_set e1) (ev_seq (ev_if0 (ev_bl (ev_bin (ev_any rfl) ev_c (by rw [gGt_int, decide_eq_false (by omega)]))) ev_next) (ev_seq (ev_set e2) h))
  by_cases c2 : kind < 2
  · obtain ⟨k, B3, hk3, o3, e3⟩ := ev_drawC (ρ := [.box, .d (.int (n : Int)), .d (.int 4), .d (.int (kind : Int)), .d (.int (i : Int)), .no, .no]) (B := B2) (i := 0) 2 rfl o2 (by decide) (by decide)
    obtain ⟨b, hb⟩ : ∃ b : Bool, ([PyData.tuple [.int (i : Int), .bool false, .bool true], PyData.tuple [.int (i : Int), .bool true, .bool false]] : List D)[k]? = some (dD (.nd i (.lf b) (.lf (!b)))) := by
      match k, hk3 with
      | 0, _ => exact ⟨false, rfl⟩
      | 1, _ => exact ⟨true, rfl⟩
    refine ⟨.nd i (.lf b) (.lf (!b)), B3, o3, runB_of (ρ := [.d (.int (n : Int)), .d (.int 4), .no, .no, .no, .no]) rfl rfl (pre (seq_ret (ev_if1 (ev_bl (ev_bin (ev_any rfl) ev_c (by rw [gLt_int, decide_eq_true (by omega)]))) (ev_ret (ev_bin (ev_fr (ev_lst (ev_cons (ev_tup (ev_cons (ev_var rfl) (ev_cons ev_c (ev_cons ev_c ev_nil))) (by simp)) (ev_cons (ev_tup (ev_cons (ev_var rfl) (ev_cons ev_c (ev_cons ev_c ev_nil))) (by simp)) ev_nil)) (by simp))) e3 ((gIx_list _ _).trans hb)))))), ⟨Nat.zero_le _, hi, trivial, trivial⟩, List.replicate n (!b), by simp, ?_⟩
    have : (List.replicate n (!b))[i]? = some (!b) := by rw [List.getElem?_replicate, if_pos hi]
    rw [ev, this]
    cases b <;> rfl
  · have cn : (cfgs n).length ≤ 32 := by
      rw [cfgs_count]
      exact Nat.pow_le_pow_right (by decide) hn
    obtain ⟨out, B3, el, o3, ll, q⟩ := lcL_draw (g := gSet 6) (ft := fYes) (fe := e1_Lsome) (ρ := [.box, .d (.int (n : Int)), .d (.int 4), .d (.int (kind : Int)), .d (.int (i : Int)), .no, .no]) BS.ok (fun _ y => ∃ b : Bool, y = .bool b) ((cfgs n).map cD) [] B2 o2 (fun x _ C oc => by
      obtain ⟨k, C1, _, o4, e4⟩ := ev_drawC (ρ := [.box, .d (.int (n : Int)), .d (.int 4), .d (.int (kind : Int)), .d (.int (i : Int)), .no, .d x]) (B := C) (i := 0) 2 rfl oc (by decide) (by decide)
      exact ⟨_, C1, _, rfl, rfl, ev_bin e4 ev_c (gEq_int _ _), ⟨_, rfl⟩, o4⟩) (by simp; omega)
    obtain ⟨ts, rfl⟩ := bools_of (out := out) fun k y hy => by
      have hk : k < ((cfgs n).map cD).length := by have := (List.getElem?_eq_some_iff.mp hy).1; omega
      exact q k _ y (List.getElem?_eq_getElem hk) hy
    have tl : ts.length = 2 ^ n := by rw [List.length_map, List.length_map, cfgs_count] at ll; exact ll
    rw [List.nil_append] at el
    have main : ∀ {v : D}, fIfE (fTru (fCB gAny (fCons (fAny 5) fNil))) (fCall 2 (G_Ldiagram 6) (fCons (fVar 5) (fCons (fC (.int 0)) fNil))) (fC (.bool true)) [.box, .d (.int (n : Int)), .d (.int 4), .d (.int (kind : Int)), .d (.int (i : Int)), .d (.list (ts.map .bool)), .no] B3 = some (v, B3) → G_Lsome [.int (n : Int), .int 4] B = some (v, B3) := fun {v} h => runB_of (ρ := [.d (.int (n : Int)), .d (.int 4), .no, .no, .no, .no]) rfl rfl (pre (ev_seq (ev_if0 (ev_bl (ev_bin (ev_any rfl) ev_c (by rw [gLt_int, decide_eq_false (by omega)]))) ev_next) (ev_seq (ev_set (ev_fr (ev_lc (ev_it (ev_call (ev_cons (ev_var rfl) ev_nil) rfl (configs_eq hn)) rfl) el))) (ev_ret h))))
    cases ha : ts.any id with
    | false => exact ⟨.lf true, B3, o3, main (ev_ifE0 (ev_tru (ev_cb (ev_cons (ev_any rfl) ev_nil) ((any_true ts).trans (by rw [ha]))) rfl) ev_c), trivial, List.replicate n false, by simp, rfl⟩
    | true =>
      have ht : true ∈ ts := by
        obtain ⟨b, hb, e⟩ := List.any_eq_true.mp ha
        have e : b = true := e
        rw [← e]; exact hb
      obtain ⟨c, hc, he⟩ := mkD_true n ts 0 tl ht [] rfl
      have w := mkD_wf n ts 0
      rw [Nat.zero_add] at w
      exact ⟨mkD n ts 0, B3, o3, main (ev_ifE1 (ev_tru (ev_cb (ev_cons (ev_any rfl) ev_nil) ((any_true ts).trans (by rw [ha]))) rfl) (ev_call (ev_cons (ev_var rfl) (ev_cons ev_c ev_nil)) rfl (diagram_eq n ts 0 5 hn hn tl))), w, c, hc, he⟩
end K72

namespace K72
open PySem PySem.Spec L2 DL
def cnt (left : List St) (c : List Bool) : Nat := (left.filter (hasB c)).length
def BestAt (V : List (List Bool)) (left : List St) (c : List Bool) (j : Nat) : Prop := V[j]? = some c ∧ (∀ c' ∈ V, cnt left c' ≤ cnt left c) ∧ ∀ j' < j, ∀ c', V[j']? = some c' → cnt left c' < cnt left c
theorem exBest (left : List St) : ∀ V : List (List Bool), V ≠ [] → ∃ c j, BestAt V left c j
  | [], h => absurd rfl h
  | [c], _ => ⟨c, 0, rfl, fun c' h => by rw [List.mem_singleton.mp h]; exact Nat.le_refl _, fun j' h => absurd h (Nat.not_lt_zero _)⟩
  | c :: c2 :: V, _ => by
    obtain ⟨b, j, h1, h2, h3⟩ := exBest left (c2 :: V) (by simp)
    by_cases h : cnt left b ≤ cnt left c
    · refine ⟨c, 0, rfl, fun c' hc' => ?_, fun j' h => absurd h (Nat.not_lt_zero _)⟩
      rcases List.mem_cons.mp hc' with rfl | hc'
      · exact Nat.le_refl _
      · exact Nat.le_trans (h2 c' hc') h
    · refine ⟨b, j + 1, by simpa using h1, fun c' hc' => ?_, fun j' hj' c' e => ?_⟩
      · rcases List.mem_cons.mp hc' with rfl | hc'
        · omega
        · exact h2 c' hc'
      · cases j' with
        | zero =>
          have e : c = c' := by simpa using e
          subst e; omega
        | succ j' => exact h3 j' (by omega) c' (by simpa using e)
inductive Run (V : List (List Bool)) : List St → List (List Bool) → List (List Bool) → Prop
  | nil (taken : List (List Bool)) : Run V [] taken taken
  | step {left : List St} {taken out : List (List Bool)} {c : List Bool} {j : Nat} (h : left ≠ []) (b : BestAt V left c j) (r : Run V (left.filter fun s => !hasB c s) (taken ++ [c]) out) : Run V left taken out
def Cov (V : List (List Bool)) (left : List St) : Prop := ∀ s ∈ left, ∃ c ∈ V, hasB c s = true
theorem Cov.filter {V : List (List Bool)} {left : List St} (h : Cov V left) (p : St → Bool) : Cov V (left.filter p) := fun s hs => h s (List.mem_filter.mp hs).1
theorem best_less {V : List (List Bool)} {left : List St} {c : List Bool} {j : Nat} (h : left ≠ []) (cov : Cov V left) (b : BestAt V left c j) : (left.filter fun s => !hasB c s).length < left.length := by
  obtain ⟨h1, h2, h3⟩ := b
  cases left with
  | nil => exact absurd rfl h
  | cons s left =>
    obtain ⟨c', hc', hs⟩ := cov s List.mem_cons_self
    have h4 := h2 c' hc'
    have p : 0 < cnt (s :: left) c' := List.length_pos_of_mem (List.mem_filter.mpr ⟨List.mem_cons_self, hs⟩)
    have q : 0 < cnt (s :: left) c := by omega
    obtain ⟨s', hs'⟩ := List.exists_mem_of_length_pos q
    obtain ⟨m1, m2⟩ := List.mem_filter.mp hs'
    exact List.length_filter_lt_length_iff_exists.mpr ⟨s', m1, by rw [m2]; simp⟩
theorem exRun {V : List (List Bool)} (hV : V ≠ []) : ∀ (k : Nat) (left : List St) (taken : List (List Bool)), left.length ≤ k → Cov V left → ∃ out, Run V left taken out
  | k, [], taken, _, _ => ⟨taken, .nil _⟩
  | 0, _ :: _, _, h, _ => absurd h (by simp)
  | k + 1, s :: left, taken, h, cov => by
    obtain ⟨c, j, b⟩ := exBest (s :: left) V hV
    have l := best_less (by simp) cov b
    obtain ⟨out, r⟩ := exRun hV k ((s :: left).filter fun s => !hasB c s) (taken ++ [c]) (by omega) (cov.filter _)
    exact ⟨out, .step (by simp) b r⟩
theorem run_sub {V : List (List Bool)} {left : List St} {taken out : List (List Bool)} (r : Run V left taken out) : (∀ c ∈ taken, c ∈ V) → ∀ c ∈ out, c ∈ V := by
  induction r with
  | nil => exact id
  | step h b r ih =>
    intro hT
    refine ih fun c hc => ?_
    rcases List.mem_append.mp hc with hc | hc
    · exact hT c hc
    · rw [List.mem_singleton.mp hc]
      exact List.mem_of_getElem? b.1
theorem run_len {V : List (List Bool)} {left : List St} {taken out : List (List Bool)} (r : Run V left taken out) : Cov V left → out.length ≤ taken.length + left.length := by
  induction r with
  | nil => intro _; simp
  | step h b r ih =>
    intro cov
    have h1 := ih (cov.filter _)
    have h2 := best_less h cov b
    rw [List.length_append, List.length_singleton] at h1
    omega
theorem run_cov {V : List (List Bool)} {left : List St} {taken out : List (List Bool)} (r : Run V left taken out) : (∀ c ∈ taken, c ∈ out) ∧ ∀ s ∈ left, ∃ c ∈ out, hasB c s = true := by
  induction r with
  | nil => exact ⟨fun _ h => h, fun s h => nomatch h⟩
  | @step left taken out c j h b r ih =>
    refine ⟨fun c' hc' => ih.1 c' (List.mem_append_left _ hc'), fun s hs => ?_⟩
    cases e : hasB c s with
    | true => exact ⟨c, ih.1 c (by simp), e⟩
    | false => exact ih.2 s (List.mem_filter.mpr ⟨hs, by rw [e]; rfl⟩)
theorem listLt_asym : ∀ {x y : List Int}, PySem.W.listLt x y = true → PySem.W.listLt y x = false
  | [], [], h => by cases h
  | [], _ :: _, _ => rfl
  | _ :: _, [], h => by cases h
  | a :: x, b :: y, h => by
    rw [PySem.W.listLt] at h ⊢
    by_cases e : a = b
    · rw [if_pos e] at h
      rw [if_pos e.symm]
      exact listLt_asym h
    · rw [if_neg e] at h
      rw [if_neg (Ne.symm e)]
      have h : a < b := of_decide_eq_true h
      exact decide_eq_false (by omega)
theorem ltC_asym {c c' : List Bool} (h : ltC c c' = true) : ltC c' c = false := by
  rw [ltC_list] at h ⊢
  exact listLt_asym h
def kD (a : Int) (c : List Bool) : D := .tuple [.int a, cD c]
theorem kD_toD (a : Int) (c : List Bool) : PySem.W.Datum.toD ((a, (⟨c.map bI⟩ : PySem.W.Tup Int)) : Int × PySem.W.Tup Int) = kD a c := by
  show PyData.tuple [PyData.int a, PyData.tuple ((c.map bI).map PyData.int)] = _
  rw [List.map_map]; rfl
theorem kD_alike (a b : Int) (c c' : List Bool) : PySem.W.alike (kD a c) (kD b c') = true := by
  rw [← kD_toD, ← kD_toD]; exact PySem.W.DatumOrd.alike _ _
theorem kD_lt (a b : Int) (c c' : List Bool) : PySem.W.dataLt (kD a c) (kD b c') = if a = b then ltC c c' else decide (a < b) := by
  rw [← kD_toD, ← kD_toD, ltC_list]; exact PySem.W.DatumOrd.lt_eq _ _
theorem kD_depth (a : Int) (c : List Bool) : (kD a c).depth ≤ 2 := by
  have := depthAll_le (n := 1) (xs := [.int a, cD c]) fun d hd => by
    simp only [List.mem_cons, List.not_mem_nil, or_false] at hd
    rcases hd with rfl | rfl
    · simp [PyData.depth]
    · exact cD_depth c
  simp only [kD, PyData.depth]; omega
theorem ord_of {xs : List D} (hd : ∀ d ∈ xs, d.depth ≤ 150) (ha : ∀ x ∈ xs, ∀ y ∈ xs, PySem.W.alike x y = true) (hn : ∀ x ∈ xs, isNone x = false) : ordable xs = true := by
  unfold ordable alikeL
  rw [decide_eq_true (depthAll_le hd), List.all_eq_true.mpr fun x hx => List.all_eq_true.mpr (ha x hx), List.all_eq_true.mpr fun x hx => by rw [hn x hx]; rfl]
  rfl
theorem max_eq {V : List (List Bool)} {left : List St} {c : List Bool} {j : Nat} (b : BestAt V left c j) : gMaxL [.list (V.map fun c => PyData.int (cnt left c : Int))] = some (.int (cnt left c : Int)) := by
  obtain ⟨h1, h2, h3⟩ := b
  have hm := List.mem_of_getElem? h1
  cases V with
  | nil => cases hm
  | cons q r =>
    have od := ord_of (xs := (q :: r).map fun c => PyData.int (cnt left c : Int)) (fun d hd => by obtain ⟨p, _, rfl⟩ := List.mem_map.mp hd; simp [PyData.depth]) (fun x hx y hy => by
      obtain ⟨p, _, rfl⟩ := List.mem_map.mp hx
      obtain ⟨p, _, rfl⟩ := List.mem_map.mp hy
      simp only [PySem.W.alike]) (fun x hx => by obtain ⟨p, _, rfl⟩ := List.mem_map.mp hx; rfl)
    show gd (ordable ((q :: r).map fun c => PyData.int (cnt left c : Int))) (some (PySem.W.maxD (.int (cnt left q : Int)) (r.map fun c => PyData.int (cnt left c : Int)))) = _
    rw [od, gd_t]
    have : (r.map fun c => PyData.int (cnt left c : Int)) = (r.map fun c => (cnt left c : Int)).map PyData.int := by rw [List.map_map]; rfl
    rw [this, PySem.W.maxD_ints, foldl_max (m := (cnt left c : Int))]
    · rcases List.mem_cons.mp hm with rfl | hm
      · exact List.mem_cons_self
      · exact List.mem_cons_of_mem _ (List.mem_map.mpr ⟨c, hm, rfl⟩)
    · intro k hk
      rcases List.mem_cons.mp hk with rfl | hk
      · have := h2 q List.mem_cons_self; omega
      · obtain ⟨p, hp, rfl⟩ := List.mem_map.mp hk
        have := h2 p (List.mem_cons_of_mem _ hp); omega
theorem min_eq {V : List (List Bool)} (sorted : V.Pairwise fun c c' => ltC c c' = true) {left : List St} {c : List Bool} {j : Nat} (b : BestAt V left c j) : gMinL [.list (V.map fun c => kD (-(cnt left c : Int)) c)] = some (kD (-(cnt left c : Int)) c) := by
  obtain ⟨h1, h2, h3⟩ := b
  have hm := List.mem_of_getElem? h1
  have key : ∀ c' ∈ V, kD (-(cnt left c' : Int)) c' = kD (-(cnt left c : Int)) c ∨ (PySem.W.dataLt (kD (-(cnt left c : Int)) c) (kD (-(cnt left c' : Int)) c') = true ∧ PySem.W.dataLt (kD (-(cnt left c' : Int)) c') (kD (-(cnt left c : Int)) c) = false) := fun c' hc' => by
    rw [kD_lt, kD_lt]
    have le := h2 c' hc'
    by_cases e : cnt left c' = cnt left c
    · rw [e, if_pos rfl, if_pos rfl]
      obtain ⟨j', hj', g⟩ := List.mem_iff_getElem.mp hc'
      have g2 : V[j']? = some c' := by rw [List.getElem?_eq_getElem hj', g]
      obtain ⟨hj, g3⟩ := List.getElem?_eq_some_iff.mp h1
      by_cases x : j' < j
      · have := h3 j' x c' g2; omega
      · by_cases y : j' = j
        · subst y
          rw [h1] at g2
          injection g2 with g2
          rw [g2]; exact .inl rfl
        · have := List.pairwise_iff_getElem.mp sorted j j' hj hj' (by omega)
          rw [g3, g] at this
          exact .inr ⟨this, ltC_asym this⟩
    · right
      rw [if_neg (by omega), if_neg (by omega)]
      exact ⟨decide_eq_true (by omega), decide_eq_false (by omega)⟩
  cases V with
  | nil => cases hm
  | cons q r =>
    have od := ord_of (xs := (q :: r).map fun c => kD (-(cnt left c : Int)) c) (fun d hd => by
      obtain ⟨p, _, rfl⟩ := List.mem_map.mp hd
      have := kD_depth (-(cnt left p : Int)) p; omega) (fun x hx y hy => by
      obtain ⟨p, _, rfl⟩ := List.mem_map.mp hx
      obtain ⟨p, _, rfl⟩ := List.mem_map.mp hy
      exact kD_alike _ _ _ _) (fun x hx => by obtain ⟨p, _, rfl⟩ := List.mem_map.mp hx; rfl)
    show gd (ordable ((q :: r).map fun c => kD (-(cnt left c : Int)) c)) (some (PySem.W.minD (kD (-(cnt left q : Int)) q) (r.map fun c => kD (-(cnt left c : Int)) c))) = _
    rw [od, gd_t, minD_least (m := kD (-(cnt left c : Int)) c)]
    · have : kD (-(cnt left c : Int)) c ∈ (q :: r).map fun c => kD (-(cnt left c : Int)) c := List.mem_map.mpr ⟨c, hm, rfl⟩
      exact this
    · intro y hy
      have hy : y ∈ (q :: r).map fun c => kD (-(cnt left c : Int)) c := hy
      obtain ⟨p, hp, rfl⟩ := List.mem_map.mp hy
      exact key p hp
theorem canLay_ints (f : List Bool → Int) : ∀ V : List (List Bool), PyData.canLayAll0 (V.map fun c => PyData.int (f c)) = true
  | [] => by simp [PyData.canLayAll0]
  | c :: V => by simp only [List.map_cons, PyData.canLayAll0, canLay_ints f V, PyData.canLay0, Bool.and_self]
theorem index_eq {V : List (List Bool)} {left : List St} {c : List Bool} {j : Nat} (b : BestAt V left c j) : gIndex (.list (V.map fun c => PyData.int (cnt left c : Int))) (.int (cnt left c : Int)) = some (.int (j : Int)) := by
  obtain ⟨h1, h2, h3⟩ := b
  obtain ⟨hj, g3⟩ := List.getElem?_eq_some_iff.mp h1
  have d0 : PyData.depthAll (V.map fun c => PyData.int (cnt left c : Int)) ≤ 0 := depthAll_le fun d hd => by
    obtain ⟨p, _, rfl⟩ := List.mem_map.mp hd
    simp [PyData.depth]
  have s1 : SeqAt.shaped (.list (V.map fun c => PyData.int (cnt left c : Int))) = true := by
    unfold SeqAt.shaped
    rw [PyData.canLay0, canLay_ints (fun c => (cnt left c : Int)), Bool.true_and, decide_eq_true_eq]
    simp only [PyData.depth]; omega
  have s2 : SeqAt.shaped (.int (cnt left c : Int)) = true := by
    unfold SeqAt.shaped
    rw [PyData.canLay0, Bool.true_and, decide_eq_true_eq]
    simp only [PyData.depth]; omega
  show gd _ _ = _
  rw [s1, s2, show (true && true) = true from rfl, gd_t]
  have : (V.map fun c => PyData.int (cnt left c : Int)).findIdx? (fun z => PyData.eqv z (.int (cnt left c : Int))) = some j := by
    rw [List.findIdx?_eq_some_iff_getElem]
    refine ⟨by rw [List.length_map]; exact hj, ?_, fun j' hj' => ?_⟩
    · rw [List.getElem_map, g3]
      show ((cnt left c : Int) == (cnt left c : Int)) = true
      simp
    · rw [List.getElem_map]
      have := h3 j' hj' V[j'] (List.getElem?_eq_getElem (by omega))
      show ¬((cnt left V[j'] : Int) == (cnt left c : Int)) = true
      simp; omega
  rw [this]; rfl
end K72

namespace K72
open PySem PySem.Spec L2 DL
theorem keep_ev {iL iS : Nat} {ft : DL.Env → M Bool} {ρ : DL.Env} {B : BS} {left : List St} (p : St → Bool) (hL : ρ[iL]? = some (.d (.list (left.map sD)))) (hl : left.length ≤ 100000) (h : ∀ s ∈ left, ∃ ρ1, gSet iS (sD s) (wipeE ρ [iS]) = some ρ1 ∧ ft ρ1 B = some (p s, B) ∧ ρ1[iS]? = some (.d (sD s))) : fFr (fLc (fIt (fAny iL)) (gSet iS) ft (fVar iS) [iS]) ρ B = some (.list ((left.filter p).map sD), B) := by
  have sz : (200000 : Nat) ≤ sizeLine := by decide
  have L := lcL_pure (g := gSet iS) (ft := ft) (fe := fVar iS) (ρ := wipeE ρ [iS]) (B := B) (fun x => p (decS x)) id (left.map sD) [] (fun x hx => by
    obtain ⟨s, hs, rfl⟩ := List.mem_map.mp hx
    obtain ⟨ρ1, e1, e2, e3⟩ := h s hs
    rw [decS_sD]
    exact ⟨ρ1, e1, e2, fun _ => ev_var e3⟩) (by simp; omega)
  rw [filter_dec sD decS decS_sD p, List.map_id, List.nil_append] at L
  exact ev_fr (ev_lc (ev_it (ev_any hL) rfl) L)
theorem decC_map (V : List (List Bool)) (f : List Bool → D) : (V.map cD).map (fun x => f (decC x)) = V.map f := by
  rw [List.map_map]
  exact List.map_congr_left fun c _ => by
    show f (decC (cD c)) = f c
    rw [decC_cD]
section
variable {n t : Nat} (h0 : 1 ≤ n) (hn : n ≤ 5) (t0 : 1 ≤ t) (ht : t ≤ 5) {V : List (List Bool)} (hV : ∀ c ∈ V, c.length = n) (vs : V.length ≤ 32)
include h0 hn t0 ht hV vs
theorem sortOut {out : List (List Bool)} (ho : ∀ c ∈ out, c ∈ V) (hl : out.length ≤ 100000) : gSortedT [.list (out.map cD)] = some (sortD (out.map cD)) := (sortedT_cD h0 (fun c hc => hV c (ho c hc)) hl).2
theorem Lgreedy_eq {T0 : List St} {out : List (List Bool)} (hT : ∀ s ∈ T0, s ∈ sets n t) (hl : T0.length ≤ 100000) (cov : Cov V T0) (run : Run V T0 [] out) : G_Lgreedy [.list (V.map cD), .list (T0.map sD)] = some (.tuple (sortD (out.map cD))) := by
  have sz : (200000 : Nat) ≤ sizeLine := by decide
  have ho := run_sub run (fun c hc => nomatch hc)
  have hol := run_len run cov
  have has := fun (s : St) (hs : s ∈ sets n t) => (has_all hV ht hs).2
  obtain ⟨ρ', B', ef, ⟨rfl, left, taken, s4, s5, s6, s7, rfl, r, lr, _⟩⟩ := forL_inv (g := gSet 4) (fb := b1_Lgreedy) (fun r ρ B => B = ⟨[], []⟩ ∧ ∃ left taken s4 s5 s6 s7, ρ = [.d (.list (V.map cD)), .d (.list (T0.map sD)), .d (.list (left.map sD)), .own (taken.map cD), s4, s5, s6, s7] ∧ Run V left taken out ∧ left.length ≤ r.length ∧ (∀ s ∈ left, s ∈ sets n t) ∧ Cov V left ∧ taken.length + left.length ≤ 100000) (fun d r ρ B ⟨hB, left, taken, s4, s5, s6, s7, hρ, run, lr, hs, cov, hb⟩ => by
    subst hB hρ
    by_cases c : left = []
    · subst c
      refine ⟨[.d (.list (V.map cD)), .d (.list (T0.map sD)), .d (.list []), .own (taken.map cD), .d d, s5, s6, s7], _, ⟨[], []⟩, rfl, ev_if0 (ev_bl (ev_bin (ev_any rfl) (ev_fr (ev_lst ev_nil (by simp))) (gNe_nilL _))) ev_next, rfl, [], taken, .d d, s5, s6, s7, rfl, run, Nat.zero_le _, hs, cov, hb⟩
    · cases run with
      | nil => exact absurd rfl c
      | @step _ _ _ ch j _ b run =>
        have lt := best_less c cov b
        have hch : ch ∈ V := List.mem_of_getElem? b.1
        have em : left.isEmpty = false := by cases left with | nil => exact absurd rfl c | cons => rfl
        have bl : left.length ≤ 100000 := by omega
        have a5 : fFr (fLc (fIt (fAny 0)) (gSet 6) fYes e1_Lgreedy [6]) [.d (.list (V.map cD)), .d (.list (T0.map sD)), .d (.list (left.map sD)), .own (taken.map cD), .d d, s5, s6, s7] ⟨[], []⟩ = some (.list (V.map fun c => .int (cnt left c : Int)), ⟨[], []⟩) := by
          have L := lcL_map (g := gSet 6) (ft := fYes) (fe := e1_Lgreedy) (ρ := [.d (.list (V.map cD)), .d (.list (T0.map sD)), .d (.list (left.map sD)), .own (taken.map cD), .d d, s5, .no, s7]) (B := ⟨[], []⟩) (fun x => .int (cnt left (decC x) : Int)) (V.map cD) (fun x hx => by
            obtain ⟨c', hc', rfl⟩ := List.mem_map.mp hx
            rw [decC_cD]
            exact ⟨[.d (.list (V.map cD)), .d (.list (T0.map sD)), .d (.list (left.map sD)), .own (taken.map cD), .d d, s5, .d (cD c'), s7], rfl, rfl, ev_cb (ev_cons (keep_ev (hasB c') rfl bl fun s hs' => ⟨[.d (.list (V.map cD)), .d (.list (T0.map sD)), .d (.list (left.map sD)), .own (taken.map cD), .d d, s5, .d (cD c'), .d (sD s)], rfl, ev_tru (ev_call (ev_cons (ev_var rfl) (ev_cons (ev_var rfl) ev_nil)) rfl (has s (hs s hs') c' hc')) rfl, rfl⟩) ev_nil) (by rw [gLen_list, List.length_map]; rfl)⟩) (by simp; omega)
          rw [decC_map V fun c => .int (cnt left c : Int)] at L
          exact ev_fr (ev_lc (ev_it (ev_any rfl) rfl) L)
        have a8 : ∀ s5' : Sl, fFr (fLc (fIt (fAny 2)) (gSet 7) c2_Lgreedy (fVar 7) [7]) [.d (.list (V.map cD)), .d (.list (T0.map sD)), .d (.list (left.map sD)), .own ((taken ++ [ch]).map cD), .d d, s5', .d (cD ch), s7] ⟨[], []⟩ = some (.list ((left.filter fun s => !hasB ch s).map sD), ⟨[], []⟩) := fun s5' =>
          keep_ev (fun s => !hasB ch s) rfl bl fun s hs' => ⟨[.d (.list (V.map cD)), .d (.list (T0.map sD)), .d (.list (left.map sD)), .own ((taken ++ [ch]).map cD), .d d, s5', .d (cD ch), .d (sD s)], rfl, ev_not (ev_tru (ev_call (ev_cons (ev_var rfl) (ev_cons (ev_var rfl) ev_nil)) rfl (has s (hs s hs') ch hch)) rfl), rfl⟩
        refine ⟨[.d (.list (V.map cD)), .d (.list (T0.map sD)), .d (.list (left.map sD)), .own (taken.map cD), .d d, s5, s6, s7], _, ⟨[], []⟩, rfl, ev_if1 (ev_bl (ev_bin (ev_any rfl) (ev_fr (ev_lst ev_nil (by simp))) ((gNe_nilL _).trans (by rw [List.isEmpty_map, em]; rfl)))) (ev_seq (ev_set a5) (ev_seq (ev_set (ev_bin (ev_any rfl) (ev_bin (ev_var rfl) (ev_cb (ev_cons (ev_any rfl) ev_nil) (max_eq b)) (index_eq b)) (show gIx (.list (V.map cD)) (.int (j : Int)) = some (cD ch) by rw [gIx_list, List.getElem?_map, b.1]; rfl))) (ev_seq ((ev_app (i := 3) (ds := taken.map cD) rfl (ev_var rfl) (by rw [List.length_map]; omega)).trans (show _ = some (Out.nx [.d (.list (V.map cD)), .d (.list (T0.map sD)), .d (.list (left.map sD)), .own ((taken ++ [ch]).map cD), .d d, .d (.list (V.map fun c => .int (cnt left c : Int))), .d (cD ch), s7], (⟨[], []⟩ : BS)) by rw [List.map_append]; rfl)) (ev_set (a8 _))))), rfl, left.filter fun s => !hasB ch s, taken ++ [ch], .d d, _, _, _, rfl, run, by rw [List.length_cons] at lr; omega, fun s hs' => hs s (List.mem_filter.mp hs').1, cov.filter _, by rw [List.length_append, List.length_singleton]; omega⟩) ((List.range T0.length).map fun (i : Nat) => PyData.int (i : Int)) [.d (.list (V.map cD)), .d (.list (T0.map sD)), .d (.list (T0.map sD)), .own [], .no, .no, .no, .no] ⟨[], []⟩ ⟨rfl, T0, [], .no, .no, .no, .no, rfl, run, by simp, hT, cov, by simpa using hl⟩
  have le : left = [] := by cases left with | nil => rfl | cons => simp at lr
  subst le
  cases r with
  | step h => exact absurd rfl h
  | nil =>
    refine runP_of (ρ := [.d (.list (V.map cD)), .d (.list (T0.map sD)), .no, .no, .no, .no, .no, .no]) rfl rfl (ev_seq (ev_set (ev_fr (ev_co (ev_cons (ev_any rfl) ev_nil) rfl))) (ev_seq (ev_setO (ev_lst ev_nil (by simp))) (ev_seq (ev_for (ev_co (ev_cons (ev_cb (ev_cons (ev_any rfl) ev_nil) (by rw [gLen_list, List.length_map])) ev_nil) (rng1_nat (by omega))) ef) (ev_ret (ev_cb (ev_cons (ev_fr (ev_co (ev_cons (ev_own rfl) ev_nil) (sortOut h0 hn t0 ht hV vs ho (by simp at hol; omega)))) ev_nil) rfl)))))
end
end K72

namespace K72
open PySem PySem.Spec L2 DL
theorem noSub_pD (z : List D) (p : Nat × Bool) : noSub z (pD p) = true := by simp [pD, noSub, noSubs]
theorem noSubs_pD (z : List D) : ∀ s : St, noSubs z (s.map pD) = true
  | [] => by simp [noSubs]
  | p :: s => by simp only [List.map_cons, noSubs, noSub_pD, noSubs_pD z s, Bool.and_self]
theorem noSubs_sD (z : List D) : ∀ left : List St, noSubs z (left.map sD) = true
  | [] => by simp [noSubs]
  | s :: left => by
    have : noSub z (sD s) = true := by
      rw [sD, noSub]; exact noSubs_pD z s
    simp only [List.map_cons, noSubs, this, noSubs_sD z left, Bool.and_self]
theorem noSub_ok {n t : Nat} (h0 : 1 ≤ n) (t0 : 1 ≤ t) {left : List St} {taken : List (List Bool)} (hl : ∀ s ∈ left, s.length = t) (ht : ∀ c ∈ taken, c.length = n) (h : taken = [] → left ≠ []) : noSub (taken.map cD) (.list (left.map sD)) = true := by
  have e : PyData.eqvAll (left.map sD) (taken.map cD) = false := by
    cases left with
    | nil =>
      cases taken with
      | nil => exact absurd rfl (h rfl)
      | cons c taken => rfl
    | cons s left =>
      cases taken with
      | nil => rfl
      | cons c taken =>
        have l1 := hl s List.mem_cons_self
        have l2 := ht c List.mem_cons_self
        cases s with
        | nil => simp at l1; omega
        | cons p s =>
          cases c with
          | nil => simp at l2; omega
          | cons b c =>
            show (PyData.eqv (sD (p :: s)) (cD (b :: c)) && PyData.eqvAll (left.map sD) (taken.map cD)) = false
            have : PyData.eqv (sD (p :: s)) (cD (b :: c)) = false := by
              show (PyData.eqv (pD p) (.int (bI b)) && PyData.eqvAll (s.map pD) (c.map fun b => PyData.int (bI b))) = false
              rw [show PyData.eqv (pD p) (.int (bI b)) = false from rfl, Bool.false_and]
            rw [this, Bool.false_and]
  rw [noSub, e, noSubs_sD]; rfl
theorem ev_lend {j : Nat} {f : DL.Env → M D} {ρ : DL.Env} {B B1 : BS} {ds : List D} {d : D} (h0 : ρ[j]? = some (.own ds)) (h1 : f (ρ.set j (.d (.list ds))) B = some (d, B1)) (h2 : noSub ds d = true) : fLend j f ρ B = some (d, B1) := by
  unfold fLend
  rw [h0]
  show mb (f _ B) _ = _
  rw [h1, mb_some, h2, gd_t]
theorem open_nil (V : List (List Bool)) (n t : Nat) : openS V [] n t = poss V n t := by
  unfold openS
  exact List.filter_eq_self.mpr fun _ _ => rfl
theorem open_app (V T : List (List Bool)) (c : List Bool) (n t : Nat) : openS V (T ++ [c]) n t = (openS V T n t).filter fun s => !hasB c s := by
  unfold openS
  rw [List.filter_filter]
  exact List.filter_congr fun s _ => by rw [List.any_append]; simp [Bool.and_comm]
theorem open_sets {V T : List (List Bool)} {n t : Nat} {s : St} (h : s ∈ openS V T n t) : s ∈ sets n t := poss_mem (List.mem_filter.mp h).1
theorem open_cov (V T : List (List Bool)) (n t : Nat) : Cov V (openS V T n t) := fun s hs => List.any_eq_true.mp (List.mem_filter.mp (List.mem_filter.mp hs).1).2
theorem valid_sorted (d : BD) (n : Nat) : (valid d n).Pairwise fun c c' => ltC c c' = true := (cfgs_sorted n).sublist List.filter_sublist
section
variable {n t : Nat} (h0 : 1 ≤ n) (hn : n ≤ 5) (t0 : 1 ≤ t) (ht : t ≤ 5) {d : BD} (hw : wf n 0 d) (hd : d ≠ .lf false)
include h0 hn t0 ht hw hd
theorem lend_ev {taken : List (List Bool)} (hT : ∀ c ∈ taken, c.length = n) (hl : taken.length ≤ 100000) (hne : taken = [] → poss (valid d n) n t ≠ []) (s4 s5 s6 s7 : Sl) (B : BS) : fLend 3 (fCall 4 G_open_settings (fCons (fVar 0) (fCons (fVar 1) (fCons (fVar 2) (fCons (fVar 3) fNil))))) [.d (dD d), .d (.int (n : Int)), .d (.int (t : Int)), .own (taken.map cD), s4, s5, s6, s7] B = some (.list ((openS (valid d n) taken n t).map sD), B) :=
  ev_lend rfl (ev_call (ev_cons (ev_var rfl) (ev_cons (ev_var rfl) (ev_cons (ev_var rfl) (ev_cons (ev_var rfl) ev_nil)))) rfl (open_eq hn ht hw hd hT hl rfl)) (noSub_ok h0 t0 (fun s hs => sets_size n t s (open_sets hs)) hT fun e => by
    subst e
    rw [open_nil]
    exact hne rfl)
theorem greedy_eq {out : List (List Bool)} (hne : poss (valid d n) n t ≠ []) (run : Run (valid d n) (poss (valid d n) n t) [] out) : G_greedy_sample [dD d, .int (n : Int), .int (t : Int)] = some (.tuple (sortD (out.map cD))) := by
  have sz : (200000 : Nat) ≤ sizeLine := by decide
  have vs := valid_small (d := d) hn
  have pl : (poss (valid d n) n t).length ≤ 100000 := Nat.le_trans (List.length_filter_le _ _) (sets_small hn ht)
  have ho := run_sub run (fun c hc => nomatch hc)
  have hol := run_len run (by have := open_cov (valid d n) [] n t; rw [open_nil] at this; exact this)
  have has := fun (s : St) (hs : s ∈ sets n t) => (has_all (V := valid d n) valid_len ht hs).1
  obtain ⟨ρ', B', ew, ⟨rfl, s4, s5, s6, s7, rfl⟩⟩ := fWhile_inv (ft := fTru (fAny 4)) (fb := b1_greedy_sample) (fun k ρ B => B = ⟨[], []⟩ ∧ ∃ taken s5 s6 s7, k = (openS (valid d n) taken n t).length ∧ ρ = [.d (dD d), .d (.int (n : Int)), .d (.int (t : Int)), .own (taken.map cD), .d (.list ((openS (valid d n) taken n t).map sD)), s5, s6, s7] ∧ Run (valid d n) (openS (valid d n) taken n t) taken out ∧ (∀ c ∈ taken, c ∈ valid d n) ∧ taken.length + (openS (valid d n) taken n t).length ≤ 100000) (fun ρ B => B = ⟨[], []⟩ ∧ ∃ s4 s5 s6 s7, ρ = [.d (dD d), .d (.int (n : Int)), .d (.int (t : Int)), .own (out.map cD), s4, s5, s6, s7]) (fun k ρ B ⟨hB, taken, s5, s6, s7, hk, hρ, run, hs, hb⟩ => by
    subst hB hρ
    obtain ⟨left, hleft⟩ : ∃ left, left = openS (valid d n) taken n t := ⟨_, rfl⟩
    have htr : fTru (fAny 4) [.d (dD d), .d (.int (n : Int)), .d (.int (t : Int)), .own (taken.map cD), .d (.list ((openS (valid d n) taken n t).map sD)), s5, s6, s7] ⟨[], []⟩ = some (!((openS (valid d n) taken n t).map sD).isEmpty, ⟨[], []⟩) := ev_tru (ev_any rfl) rfl
    have cov := open_cov (valid d n) taken n t
    have hsets : ∀ s ∈ openS (valid d n) taken n t, s ∈ sets n t := fun s hs => open_sets hs
    have happ := fun c => open_app (valid d n) taken c n t
    rw [← hleft] at run hb hk htr cov hsets happ ⊢
    refine ⟨_, _, htr, fun hc => ?_, fun hc => ?_⟩
    · cases run with
      | nil => cases hc
      | @step _ _ _ ch j h b run =>
        have lt := best_less h cov b
        have hch : ch ∈ valid d n := List.mem_of_getElem? b.1
        have bl : left.length ≤ 100000 := by omega
        have a5 : fFr (fLc (fIt (fCall 2 G_chosen (fCons (fVar 0) (fCons (fVar 1) fNil)))) (gSet 6) fYes e1_greedy_sample [6]) [.d (dD d), .d (.int (n : Int)), .d (.int (t : Int)), .own (taken.map cD), .d (.list (left.map sD)), s5, s6, s7] ⟨[], []⟩ = some (.list ((valid d n).map fun c => kD (-(cnt left c : Int)) c), ⟨[], []⟩) := by
          have L := lcL_map (g := gSet 6) (ft := fYes) (fe := e1_greedy_sample) (ρ := [.d (dD d), .d (.int (n : Int)), .d (.int (t : Int)), .own (taken.map cD), .d (.list (left.map sD)), s5, .no, s7]) (B := ⟨[], []⟩) (fun x => kD (-(cnt left (decC x) : Int)) (decC x)) ((valid d n).map cD) (fun x hx => by
            obtain ⟨c', hc', rfl⟩ := List.mem_map.mp hx
            rw [decC_cD]
            exact ⟨[.d (dD d), .d (.int (n : Int)), .d (.int (t : Int)), .own (taken.map cD), .d (.list (left.map sD)), s5, .d (cD c'), s7], rfl, rfl, ev_tup (ev_cons (ev_un (ev_cb (ev_cons (keep_ev (hasB c') rfl bl fun s hs' => ⟨[.d (dD d), .d (.int (n : Int)), .d (.int (t : Int)), .own (taken.map cD), .d (.list (left.map sD)), s5, .d (cD c'), .d (sD s)], rfl, ev_tru (ev_call (ev_cons (ev_var rfl) (ev_cons (ev_var rfl) ev_nil)) rfl (has s (hsets s hs') c' hc')) rfl, rfl⟩) ev_nil) (by rw [gLen_list, List.length_map])) rfl) (ev_cons (ev_var rfl) ev_nil)) (by simp)⟩) (by simp; omega)
          rw [decC_map (valid d n) fun c => kD (-(cnt left c : Int)) c] at L
          exact ev_fr (ev_lc (ev_it (ev_call (ev_cons (ev_var rfl) (ev_cons (ev_var rfl) ev_nil)) rfl (chosen_eq hn hw hd)) rfl) L)
        have hs2 : ∀ c ∈ taken ++ [ch], c ∈ valid d n := fun c hc => by
          rcases List.mem_append.mp hc with hc | hc
          · exact hs c hc
          · rw [List.mem_singleton.mp hc]; exact hch
        refine ⟨_, _, ev_seq (ev_set a5) (ev_seq ((ev_app (i := 3) (ds := taken.map cD) rfl (ev_bin (ev_cb (ev_cons (ev_any rfl) ev_nil) (min_eq (valid_sorted d n) b)) ev_c (show gIx (kD (-(cnt left ch : Int)) ch) (.int ((1 : Nat) : Int)) = some (cD ch) by unfold kD; rw [gIx_tuple]; rfl)) (by rw [List.length_map]; omega)).trans (show _ = some (Out.nx [.d (dD d), .d (.int (n : Int)), .d (.int (t : Int)), .own ((taken ++ [ch]).map cD), .d (.list (left.map sD)), .d (.list ((valid d n).map fun c => kD (-(cnt left c : Int)) c)), s6, s7], (⟨[], []⟩ : BS)) by rw [List.map_append]; rfl)) (ev_set (lend_ev h0 hn t0 ht hw hd (taken := taken ++ [ch]) (fun c hc => valid_len c (hs2 c hc)) (by rw [List.length_append, List.length_singleton]; omega) (fun e => by simp at e) _ _ _ _ _))), (openS (valid d n) (taken ++ [ch]) n t).length, ?_, rfl, taken ++ [ch], _, _, _, rfl, rfl, ?_, hs2, ?_⟩
        · rw [happ, hk]; exact lt
        · rw [happ]; exact run
        · rw [happ, List.length_append, List.length_singleton]; omega
    · cases run with
      | step h b run =>
        cases left with
        | nil => exact absurd rfl h
        | cons => cases hc
      | nil => exact ⟨rfl, _, _, _, _, rfl⟩) (n := (openS (valid d n) [] n t).length) (ρ := [.d (dD d), .d (.int (n : Int)), .d (.int (t : Int)), .own [], .d (.list ((openS (valid d n) [] n t).map sD)), .no, .no, .no]) (B := ⟨[], []⟩) (by rw [open_nil]; omega) ⟨rfl, [], .no, .no, .no, rfl, rfl, by rw [open_nil]; exact run, (fun c hc => nomatch hc), by rw [open_nil]; simpa using pl⟩
  refine runP_of (ρ := [.d (dD d), .d (.int (n : Int)), .d (.int (t : Int)), .no, .no, .no, .no, .no]) rfl rfl (ev_seq (ev_setO (ev_lst ev_nil (by simp))) (ev_seq (ev_set (lend_ev h0 hn t0 ht hw hd (taken := []) (fun c hc => nomatch hc) (by simp) (fun _ => hne) _ _ _ _ _)) (ev_seq ew (ev_ret (ev_cb (ev_cons (ev_fr (ev_co (ev_cons (ev_own rfl) ev_nil) (sortOut h0 hn t0 ht valid_len vs ho (by simp at hol; omega)))) ev_nil) rfl)))))
end
end K72

namespace K72
open PySem PySem.Spec L2 DL
def fullS (c : List Bool) (n : Nat) : St := (List.range n).map fun i => (i, (c[i]?).getD false)
theorem full_has {c : List Bool} {n : Nat} (h : c.length = n) : ∀ p ∈ fullS c n, c[p.1]? = some p.2 ∧ p.1 < n := fun p hp => by
  obtain ⟨i, hi, rfl⟩ := List.mem_map.mp hp
  have hi := List.mem_range.mp hi
  rw [List.getElem?_eq_getElem (by omega : i < c.length)]
  exact ⟨rfl, hi⟩
theorem full_up (c : List Bool) (n : Nat) : (fullS c n).Pairwise fun p p' => p.1 < p'.1 := by
  unfold fullS
  rw [List.pairwise_map]
  exact List.pairwise_lt_range
theorem full_mem {c : List Bool} {n : Nat} {p : Nat × Bool} (h1 : p.1 < n) (h2 : c[p.1]? = some p.2) : p ∈ fullS c n := List.mem_map.mpr ⟨p.1, List.mem_range.mpr h1, by rw [h2]; rfl⟩
theorem sub_sorted {s : St} : ∀ {F : St}, F.Pairwise (fun p p' => p.1 < p'.1) → s.Pairwise (fun p p' => p.1 < p'.1) → (∀ p ∈ s, p ∈ F) → s.Sublist F := fun {F} => by
  induction F generalizing s with
  | nil =>
    intro _ _ h
    cases s with
    | nil => exact List.Sublist.refl _
    | cons p s => exact nomatch h p List.mem_cons_self
  | cons f F ih =>
    intro hF hs h
    cases s with
    | nil => exact List.nil_sublist _
    | cons p s =>
      obtain ⟨f1, f2⟩ := List.pairwise_cons.mp hF
      obtain ⟨s1, s2⟩ := List.pairwise_cons.mp hs
      rcases List.mem_cons.mp (h p List.mem_cons_self) with rfl | hp
      · refine (ih f2 s2 fun q hq => ?_).cons_cons _
        rcases List.mem_cons.mp (h q (List.mem_cons_of_mem _ hq)) with rfl | hq2
        · have := s1 _ hq; omega
        · exact hq2
      · refine (ih f2 hs fun q hq => ?_).cons _
        have lt := f1 p hp
        rcases List.mem_cons.mp (h q hq) with rfl | hq2
        · rcases List.mem_cons.mp hq with e | hq
          · rw [e] at lt; omega
          · have := s1 _ hq; omega
        · exact hq2
theorem sub_ext {s F : St} (h : s.Sublist F) : ∀ t : Nat, s.length ≤ t → t ≤ F.length → ∃ s' : St, s.Sublist s' ∧ s'.Sublist F ∧ s'.length = t := by
  induction h with
  | slnil =>
    intro t _ ht
    exact ⟨[], List.Sublist.refl _, List.Sublist.refl _, by simp at ht; simp; omega⟩
  | @cons s l a h ih =>
    intro t h1 h2
    by_cases c : t ≤ l.length
    · obtain ⟨s', a1, a2, a3⟩ := ih t h1 c
      exact ⟨s', a1, a2.cons _, a3⟩
    · exact ⟨a :: l, h.cons _, List.Sublist.refl _, by simp at h2 ⊢; omega⟩
  | @cons_cons s l a h ih =>
    intro t h1 h2
    cases t with
    | zero => simp at h1
    | succ t =>
      obtain ⟨s', a1, a2, a3⟩ := ih t (by simp at h1; omega) (by simp at h2; omega)
      exact ⟨a :: s', a1.cons_cons _, a2.cons_cons _, by simp; omega⟩
theorem has_iff (c : List Bool) (s : St) : hasB c s = true ↔ ∀ p ∈ s, c[p.1]? = some p.2 := by
  unfold hasB
  rw [List.all_eq_true]
  exact ⟨fun h p hp => of_decide_eq_true (h p hp), fun h p hp => decide_eq_true (h p hp)⟩
theorem ext_poss {V : List (List Bool)} {n t : Nat} (hV : ∀ c ∈ V, c.length = n) (tn : t ≤ n) {s : St} (hl : s.length ≤ t) (hs : s.Pairwise fun p p' => p.1 < p'.1) (hb : ∀ p ∈ s, p.1 < n) {c : List Bool} (hc : c ∈ V) (hh : hasB c s = true) : ∃ s' ∈ poss V n t, s.Sublist s' := by
  have sub := sub_sorted (full_up c n) hs fun p hp => full_mem (hb p hp) ((has_iff c s).mp hh p hp)
  obtain ⟨s', a1, a2, a3⟩ := sub_ext sub t hl (by simp [fullS]; exact tn)
  refine ⟨s', List.mem_filter.mpr ⟨(sets_mem n t s').mpr ⟨a3, (full_up c n).sublist a2, fun p hp => (full_has (hV c hc) p (a2.subset hp)).2⟩, List.any_eq_true.mpr ⟨c, hc, (has_iff c s').mpr fun p hp => (full_has (hV c hc) p (a2.subset hp)).1⟩⟩, a1⟩
theorem less_cov {V S : List (List Bool)} {n l t : Nat} (hV : ∀ c ∈ V, c.length = n) (lt : l ≤ t) (tn : t ≤ n) (h : ∀ s ∈ poss V n t, ∃ c ∈ S, hasB c s = true) : ∀ s ∈ poss V n l, ∃ c ∈ S, hasB c s = true := fun s hs => by
  obtain ⟨h1, h2⟩ := List.mem_filter.mp hs
  obtain ⟨c, hc, hh⟩ := List.any_eq_true.mp h2
  obtain ⟨m1, m2, m3⟩ := (sets_mem n l s).mp h1
  obtain ⟨s', hs', sub⟩ := ext_poss hV tn (by omega) m2 m3 hc hh
  obtain ⟨c0, hc0, hh0⟩ := h s' hs'
  exact ⟨c0, hc0, (has_iff c0 s).mpr fun p hp => (has_iff c0 s').mp hh0 p (sub.subset hp)⟩
theorem poss_ne {V : List (List Bool)} {n t : Nat} (hV : ∀ c ∈ V, c.length = n) (tn : t ≤ n) (hne : V ≠ []) : poss V n t ≠ [] := by
  cases V with
  | nil => exact absurd rfl hne
  | cons c V =>
    obtain ⟨s', h, _⟩ := ext_poss hV tn (s := []) (Nat.zero_le _) List.Pairwise.nil (fun p hp => nomatch hp) List.mem_cons_self rfl
    exact List.ne_nil_of_mem h
theorem filter_none {α : Type} (p : α → Bool) : ∀ l : List α, (l.filter fun x => !p x).isEmpty = l.all p
  | [] => rfl
  | x :: l => by
    cases e : p x with
    | true => rw [List.filter_cons_of_neg (by rw [e]; decide), List.all_cons, e, filter_none p l]; rfl
    | false => rw [List.filter_cons_of_pos (by rw [e]; decide), List.all_cons, e]; rfl
theorem open_all (V S : List (List Bool)) (n t : Nat) : (openS V S n t).isEmpty = (poss V n t).all fun s => S.any fun c => hasB c s := filter_none _ _
theorem all_cov {V S : List (List Bool)} {n t : Nat} : ((poss V n t).all fun s => S.any fun c => hasB c s) = true ↔ ∀ s ∈ poss V n t, ∃ c ∈ S, hasB c s = true := by
  rw [List.all_eq_true]
  exact ⟨fun h s hs => List.any_eq_true.mp (h s hs), fun h s hs => List.any_eq_true.mpr (h s hs)⟩
theorem sz_cD {c : List Bool} (h : c.length ≤ 1000) : szD (cD c) := by
  have sz : (2000 : Nat) ≤ sizeLine := by decide
  refine ⟨by rw [List.length_map]; omega, szA_of fun d hd => ?_⟩
  obtain ⟨b, _, rfl⟩ := List.mem_map.mp hd
  trivial
theorem sz_sD {s : St} (h : s.length ≤ 1000) : szD (sD s) := by
  have sz : (2000 : Nat) ≤ sizeLine := by decide
  refine ⟨by rw [List.length_map]; omega, szA_of fun d hd => ?_⟩
  obtain ⟨b, _, rfl⟩ := List.mem_map.mp hd
  exact ⟨by show 2 ≤ sizeLine; omega, trivial, trivial, trivial⟩
theorem pD_depth (p : Nat × Bool) : (pD p).depth ≤ 1 := by simp [pD, PyData.depth, PyData.depthAll]
theorem sD_depth (s : St) : (sD s).depth ≤ 2 := by
  have := depthAll_le (n := 1) (xs := s.map pD) fun d hd => by
    obtain ⟨p, _, rfl⟩ := List.mem_map.mp hd
    exact pD_depth p
  simp only [sD, PyData.depth]; omega
theorem same_sets {L : List St} (hl : L.length ≤ 100000) (h : ∀ s ∈ L, s.length ≤ 1000) : G_Lsame 8 [.list (L.map sD), .list (L.map sD)] = some (.bool true) := by
  have sz : (200000 : Nat) ≤ sizeLine := by decide
  refine same_refl 8 _ ⟨by rw [List.length_map]; omega, szA_of fun d hd => ?_⟩ ?_
  · obtain ⟨s, hs, rfl⟩ := List.mem_map.mp hd
    exact sz_sD (h s hs)
  · have := depthAll_le (n := 2) (xs := L.map sD) fun d hd => by
      obtain ⟨s, hs, rfl⟩ := List.mem_map.mp hd
      exact sD_depth s
    simp only [PyData.depth]; omega
theorem same_cfgs {L : List (List Bool)} (hl : L.length ≤ 100000) (h : ∀ c ∈ L, c.length ≤ 1000) : G_Lsame 8 [.tuple (L.map cD), .tuple (L.map cD)] = some (.bool true) := by
  have sz : (200000 : Nat) ≤ sizeLine := by decide
  refine same_refl 8 _ ⟨by rw [List.length_map]; omega, szA_of fun d hd => ?_⟩ ?_
  · obtain ⟨c, hc, rfl⟩ := List.mem_map.mp hd
    exact sz_cD (h c hc)
  · have := all_depth L
    simp only [PyData.depth]; omega
theorem same_bool (b : Bool) : G_Lsame 8 [.bool b, .bool b] = some (.bool true) := same_refl 8 _ trivial (by simp [PyData.depth])
theorem sorted_dec (out : List (List Bool)) : ∃ T : List (List Bool), sortD (out.map cD) = T.map cD ∧ (∀ c, c ∈ T ↔ c ∈ out) ∧ T.length = out.length := by
  have pm : (sortD (out.map cD)).Perm (out.map cD) := List.mergeSort_perm _ _
  refine ⟨(sortD (out.map cD)).map decC, ?_, fun c => ?_, by rw [List.length_map, pm.length_eq, List.length_map]⟩
  · rw [List.map_map]
    refine (List.map_id _).symm.trans (List.map_congr_left fun x hx => ?_)
    obtain ⟨c, _, rfl⟩ := List.mem_map.mp (pm.mem_iff.mp hx)
    show cD c = cD (decC (cD c))
    rw [decC_cD]
  · constructor
    · intro h
      obtain ⟨x, hx, rfl⟩ := List.mem_map.mp h
      obtain ⟨c, hc, rfl⟩ := List.mem_map.mp (pm.mem_iff.mp hx)
      rw [decC_cD]; exact hc
    · intro h
      exact List.mem_map.mpr ⟨cD c, pm.mem_iff.mpr (List.mem_map.mpr ⟨c, h, rfl⟩), decC_cD c⟩
end K72

namespace K72
open PySem PySem.Spec L2 DL
theorem law_ok {B : BS} (o : B.ok) : ∃ B' : BS, B'.ok ∧ s_law [.no, .box, .no, .no, .no, .no, .no, .no, .no, .no, .no, .no, .no, .no] B = some (.ret (.bool true), B') := by
  have sz : (200000 : Nat) ≤ sizeLine := by decide
  obtain ⟨n0, B1, hn0, o1, e1⟩ := ev_drawC (ρ := [.no, .box, .no, .no, .no, .no, .no, .no, .no, .no, .no, .no, .no, .no]) (B := B) (i := 1) 5 rfl o (by decide) (by decide)
  obtain ⟨n, hnn⟩ : ∃ n, n = n0 + 1 := ⟨_, rfl⟩
  have h0 : 1 ≤ n := by omega
  have hn : n ≤ 5 := by omega
  have a1 : fBin gAdd (fC (.int 1)) (fCallB 1 2 G_Ldraw (fCons (fC (.int 5)) fNil)) [.no, .box, .no, .no, .no, .no, .no, .no, .no, .no, .no, .no, .no, .no] B = some (.int (n : Int), B1) := by
    refine (ev_bin ev_c e1 (gAdd_int _ _)).trans ?_
    rw [show (1 : Int) + (n0 : Int) = (n : Int) by omega]
  obtain ⟨d, B2, o2, e2, hw, c0, hc0, he0⟩ := some_ok h0 hn o1
  have hd : d ≠ .lf false := fun e => by rw [e] at he0; cases he0
  have vs := valid_small (d := d) hn
  have hV : ∀ c ∈ valid d n, c.length = n := valid_len
  have vne : valid d n ≠ [] := List.ne_nil_of_mem (List.mem_filter.mpr ⟨cfgs_mem c0 n hc0, he0⟩)
  have cn : (cfgs n).length ≤ 32 := by
    rw [cfgs_count]
    exact Nat.pow_le_pow_right (by decide) hn
  have a3 : fFr (fLc (fIt (fCall 1 G_Lconfigs (fCons (fVar 2) fNil))) (gSet 5) c1_law (fVar 5) [5]) [.no, .box, .d (.int (n : Int)), .d (dD d), .no, .no, .no, .no, .no, .no, .no, .no, .no, .no] B2 = some (.list ((valid d n).map cD), B2) := by
    have L := lcL_pure (g := gSet 5) (ft := c1_law) (fe := fVar 5) (ρ := [.no, .box, .d (.int (n : Int)), .d (dD d), .no, .no, .no, .no, .no, .no, .no, .no, .no, .no]) (B := B2) (fun x => ev d (decC x)) id ((cfgs n).map cD) [] (fun x hx => by
      obtain ⟨c, hc, rfl⟩ := List.mem_map.mp hx
      rw [decC_cD]
      exact ⟨[.no, .box, .d (.int (n : Int)), .d (dD d), .no, .d (cD c), .no, .no, .no, .no, .no, .no, .no, .no], rfl, ev_tru (ev_call (ev_cons (ev_var rfl) (ev_cons (ev_var rfl) ev_nil)) rfl (Lholds_eq (by omega) hw (cfgs_len n c hc))) rfl, fun _ => ev_var rfl⟩) (by simp; omega)
    rw [filter_dec cD decC decC_cD fun c => ev d c, List.map_id, List.nil_append] at L
    exact ev_fr (ev_lc (ev_it (ev_call (ev_cons (ev_var rfl) ev_nil) rfl (configs_eq hn)) rfl) L)
  obtain ⟨V, hVe⟩ : ∃ V, V = valid d n := ⟨_, rfl⟩
  obtain ⟨t1, B3, ht1, o3, e4⟩ := ev_draw (ρ := [.no, .box, .d (.int (n : Int)), .d (dD d), .d (.list ((valid d n).map cD)), .no, .no, .no, .no, .no, .no, .no, .no, .no]) (B := B2) (B1 := B2) (i := 1) (f := fVar 2) n rfl (ev_var rfl) o2 h0 (by omega)
  obtain ⟨t, htt⟩ : ∃ t, t = t1 + 1 := ⟨_, rfl⟩
  have t0 : 1 ≤ t := by omega
  have tn : t ≤ n := by omega
  have ht : t ≤ 5 := by omega
  have a4 : fBin gAdd (fC (.int 1)) (fCallB 1 2 G_Ldraw (fCons (fVar 2) fNil)) [.no, .box, .d (.int (n : Int)), .d (dD d), .d (.list ((valid d n).map cD)), .no, .no, .no, .no, .no, .no, .no, .no, .no] B2 = some (.int (t : Int), B3) := by
    refine (ev_bin ev_c e4 (gAdd_int _ _)).trans ?_
    rw [show (1 : Int) + (t1 : Int) = (t : Int) by omega]
  have pl : (poss (valid d n) n t).length ≤ 100000 := Nat.le_trans (List.length_filter_le _ _) (sets_small hn ht)
  have psz : ∀ s ∈ poss (valid d n) n t, s.length ≤ 1000 := fun s hs => by
    have := sets_size n t s (poss_mem hs); omega
  obtain ⟨r1, B4, hr1, o4, e8⟩ := ev_drawC (ρ := [.no, .box, .d (.int (n : Int)), .d (dD d), .d (.list ((valid d n).map cD)), .no, .d (.int (t : Int)), .d (.list ((poss (valid d n) n t).map sD)), .no, .no, .no, .no, .no, .no]) (B := B3) (i := 1) 4 rfl o3 (by decide) (by decide)
  obtain ⟨rate, hrr⟩ : ∃ rate, rate = r1 + 1 := ⟨_, rfl⟩
  have a8 : fBin gAdd (fC (.int 1)) (fCallB 1 2 G_Ldraw (fCons (fC (.int 4)) fNil)) [.no, .box, .d (.int (n : Int)), .d (dD d), .d (.list ((valid d n).map cD)), .no, .d (.int (t : Int)), .d (.list ((poss (valid d n) n t).map sD)), .no, .no, .no, .no, .no, .no] B3 = some (.int (rate : Int), B4) := by
    refine (ev_bin ev_c e8 (gAdd_int _ _)).trans ?_
    rw [show (1 : Int) + (r1 : Int) = (rate : Int) by omega]
  obtain ⟨out, B5, e9, o5, sub⟩ := lcL_keep (g := gSet 5) (ft := c2_law) (fe := fVar 5) (ρ := [.no, .box, .d (.int (n : Int)), .d (dD d), .d (.list ((valid d n).map cD)), .no, .d (.int (t : Int)), .d (.list ((poss (valid d n) n t).map sD)), .d (.int (rate : Int)), .no, .no, .no, .no, .no]) BS.ok id ((valid d n).map cD) [] B4 o4 (fun x _ C oc => by
    obtain ⟨k, C1, _, oc1, ek⟩ := ev_draw (ρ := [.no, .box, .d (.int (n : Int)), .d (dD d), .d (.list ((valid d n).map cD)), .d x, .d (.int (t : Int)), .d (.list ((poss (valid d n) n t).map sD)), .d (.int (rate : Int)), .no, .no, .no, .no, .no]) (B := C) (B1 := C) (i := 1) (f := fVar 8) rate rfl (ev_var rfl) oc (by omega) (by omega)
    exact ⟨[.no, .box, .d (.int (n : Int)), .d (dD d), .d (.list ((valid d n).map cD)), .d x, .d (.int (t : Int)), .d (.list ((poss (valid d n) n t).map sD)), .d (.int (rate : Int)), .no, .no, .no, .no, .no], C1, _, rfl, ev_bl (ev_bin ek ev_c (gEq_int _ _)), oc1, fun _ => ev_var rfl⟩) (by simp; omega)
  rw [List.map_id, List.nil_append] at e9
  obtain ⟨S, hS, rfl⟩ := List.sublist_map_iff.mp sub
  have hS2 : ∀ c ∈ S, c.length = n ∧ ev d c = true := fun c hc => by
    have := List.mem_filter.mp (hS.subset hc)
    exact ⟨cfgs_len n c this.1, this.2⟩
  have hSl : S.length ≤ 32 := Nat.le_trans hS.length_le vs
  have hSn : ∀ c ∈ S, c.length = n := fun c hc => (hS2 c hc).1
  have iss : G_is_sample [dD d, .int (n : Int), .tuple (S.map cD)] = some (.bool true) := by
    rw [iss_run hn hw (by omega) hS2, sorted_all ((valid_sorted d n).sublist hS)]
  obtain ⟨bad, B6, o6, eb, isb⟩ := bad_ok h0 hn hw hS vs o5
  obtain ⟨cv, hcv⟩ : ∃ cv, cv = (poss (valid d n) n t).all fun s => S.any fun c => hasB c s := ⟨_, rfl⟩
  have cov1 : ∀ l : Nat, l ≤ 5 → G_covers_size [dD d, .int (n : Int), .int (l : Int), .tuple (S.map cD)] = some (.bool (openS (valid d n) S n l).isEmpty) := fun l hl => covers_eq hn hl hw hd hSn (by omega) rfl
  have cvt := cov1 t ht
  rw [open_all, ← hcv] at cvt
  have a10 : fCB gAll (fCons (fFr (fLc (fIt (fAny 7)) (gSet 11) fYes e2_law [11])) fNil) [.no, .box, .d (.int (n : Int)), .d (dD d), .d (.list ((valid d n).map cD)), .no, .d (.int (t : Int)), .d (.list ((poss (valid d n) n t).map sD)), .d (.int (rate : Int)), .d (.tuple (S.map cD)), .no, .no, .no, .no] B6 = some (.bool cv, B6) := by
    have L := lcL_map (g := gSet 11) (ft := fYes) (fe := e2_law) (ρ := [.no, .box, .d (.int (n : Int)), .d (dD d), .d (.list ((valid d n).map cD)), .no, .d (.int (t : Int)), .d (.list ((poss (valid d n) n t).map sD)), .d (.int (rate : Int)), .d (.tuple (S.map cD)), .no, .no, .no, .no]) (B := B6) (fun x => .bool (S.any fun c => hasB c (decS x))) ((poss (valid d n) n t).map sD) (fun x hx => by
      obtain ⟨s, hs, rfl⟩ := List.mem_map.mp hx
      rw [decS_sD]
      exact ⟨[.no, .box, .d (.int (n : Int)), .d (dD d), .d (.list ((valid d n).map cD)), .no, .d (.int (t : Int)), .d (.list ((poss (valid d n) n t).map sD)), .d (.int (rate : Int)), .d (.tuple (S.map cD)), .no, .d (sD s), .no, .no], rfl, rfl, any_ev (has_all hSn ht (poss_mem hs)).2 (iV := 9) rfl rfl rfl (by simp) (by decide) (by omega)⟩) (by simp; omega)
    refine ev_cb (ev_cons (ev_fr (ev_lc (ev_it (ev_any rfl) rfl) L)) ev_nil) ((all_bools _ _).trans ?_)
    rw [List.all_map, hcv]
    refine congrArg (fun b => some (PyData.bool b)) (congrArg (fun f => List.all _ f) (funext fun s => ?_))
    show (S.any fun c => hasB c (decS (sD s))) = _
    rw [decS_sD]
  have a12 : fAndT (fTru (fAny 10)) (fNotT (fTru (fCB gAll (fCons (fFr (fLc (fCO rng2 (fCons (fC (.int 1)) (fCons (fAny 6) fNil))) (gSet 12) fYes e3_law [12])) fNil)))) [.no, .box, .d (.int (n : Int)), .d (dD d), .d (.list ((valid d n).map cD)), .no, .d (.int (t : Int)), .d (.list ((poss (valid d n) n t).map sD)), .d (.int (rate : Int)), .d (.tuple (S.map cD)), .d (.bool cv), .no, .no, .no] B6 = some (false, B6) := by
    cases hb : cv with
    | false => exact ev_and0 (ev_tru (ev_any rfl) rfl)
    | true =>
      rw [hb] at hcv
      have all := all_cov.mp hcv.symm
      have L := lcL_map (g := gSet 12) (ft := fYes) (fe := e3_law) (ρ := [.no, .box, .d (.int (n : Int)), .d (dD d), .d (.list ((valid d n).map cD)), .no, .d (.int (t : Int)), .d (.list ((poss (valid d n) n t).map sD)), .d (.int (rate : Int)), .d (.tuple (S.map cD)), .d (.bool true), .no, .no, .no]) (B := B6) (fun _ => .bool true) ((List.range' 1 (t - 1)).map fun (i : Nat) => PyData.int (i : Int)) (fun x hx => by
        obtain ⟨l, hl, rfl⟩ := List.mem_map.mp hx
        obtain ⟨l1, l2⟩ := List.mem_range'_1.mp hl
        have cl := cov1 l (by omega)
        rw [open_all, all_cov.mpr (less_cov hV (by omega) tn all)] at cl
        exact ⟨[.no, .box, .d (.int (n : Int)), .d (dD d), .d (.list ((valid d n).map cD)), .no, .d (.int (t : Int)), .d (.list ((poss (valid d n) n t).map sD)), .d (.int (rate : Int)), .d (.tuple (S.map cD)), .d (.bool true), .no, .d (.int (l : Int)), .no], rfl, rfl, ev_bin (ev_call (ev_cons (ev_var rfl) (ev_cons (ev_var rfl) (ev_cons (ev_var rfl) (ev_cons (ev_var rfl) ev_nil)))) rfl cl) ev_c rfl⟩) (by simp; omega)
      refine ev_and (ev_tru (ev_any rfl) rfl) (ev_not (b := true) (ev_tru (x := .bool true) (ev_cb (ev_cons (ev_fr (ev_lc (ev_co (ev_cons ev_c (ev_cons (ev_any rfl) ev_nil)) (rng2_nat (a := 1) (b := t) (by decide) (by omega))) L)) ev_nil) ((all_bools (fun _ => true) _).trans ?_)) rfl))
      rw [List.all_eq_true.mpr fun _ _ => rfl]
  have cov : Cov (valid d n) (poss (valid d n) n t) := by
    have := open_cov (valid d n) [] n t
    rw [open_nil] at this; exact this
  obtain ⟨G, run⟩ := exRun vne (poss (valid d n) n t).length (poss (valid d n) n t) [] (Nat.le_refl _) cov
  have gV := run_sub run (fun c hc => nomatch hc)
  have gl := run_len run cov
  have gc := run_cov run
  have eL := Lgreedy_eq h0 hn t0 ht hV vs (fun s hs => poss_mem hs) pl cov run
  have eG := greedy_eq h0 hn t0 ht hw hd (poss_ne hV tn vne) run
  obtain ⟨T, hT, mT, lT⟩ := sorted_dec G
  rw [hT] at eL eG
  have tl : T.length ≤ 100000 := by rw [List.length_nil, Nat.zero_add] at gl; omega
  have tn2 : ∀ c ∈ T, c.length = n := fun c hc => hV c (gV c ((mT c).mp hc))
  have cT : G_covers_size [dD d, .int (n : Int), .int (t : Int), .tuple (T.map cD)] = some (.bool true) := by
    rw [covers_eq hn ht hw hd tn2 tl rfl, open_all, all_cov.mpr fun s hs => ?_]
    obtain ⟨c, hc, hh⟩ := gc.2 s hs
    exact ⟨c, (mT c).mpr hc, hh⟩
  refine ⟨B6, o6, ?_⟩
  refine ev_seq (ev_set a1) (ev_seq (ev_set (ev_callB rfl (ev_cons (ev_var rfl) (ev_cons ev_c ev_nil)) rfl e2)) (ev_seq (ev_set a3) (ev_seq (ev_set a4) (ev_seq (ev_set (ev_call (ev_cons (ev_var rfl) (ev_cons (ev_var rfl) (ev_cons (ev_var rfl) ev_nil))) rfl (Lpossible_eq hn ht hV vs))) ?_))))
  refine ev_seq (ev_if0 (ev_not (b := true) (ev_tru (x := .bool true) (ev_call (ev_cons (ev_call (ev_cons (ev_var rfl) (ev_cons (ev_var rfl) (ev_cons (ev_var rfl) ev_nil))) rfl (possible_eq hn ht hw hd)) (ev_cons (ev_var rfl) ev_nil)) rfl (same_sets pl psz)) rfl)) ev_next) (ev_seq (ev_set a8) (ev_seq (ev_set (ev_cb (ev_cons (ev_fr (ev_lc (ev_it (ev_any rfl) rfl) e9)) ev_nil) rfl)) ?_))
  refine ev_seq (ev_if0 (ev_or (ev_bl (ev_bin (ev_call (ev_cons (ev_var rfl) (ev_cons (ev_var rfl) (ev_cons (ev_var rfl) ev_nil))) rfl iss) ev_c rfl)) (ev_bl (ev_bin (ev_call (ev_cons (ev_var rfl) (ev_cons (ev_var rfl) (ev_cons (ev_callB rfl (ev_cons (ev_var rfl) (ev_cons (ev_var rfl) (ev_cons (ev_var rfl) ev_nil))) rfl eb) ev_nil))) rfl isb) ev_c rfl))) ev_next) (ev_seq (ev_set a10) ?_)
  refine ev_seq (ev_if0 (ev_not (b := true) (ev_tru (x := .bool true) (ev_call (ev_cons (ev_call (ev_cons (ev_var rfl) (ev_cons (ev_var rfl) (ev_cons (ev_var rfl) (ev_cons (ev_var rfl) ev_nil)))) rfl cvt) (ev_cons (ev_var rfl) ev_nil)) rfl (same_bool cv)) rfl)) ev_next) (ev_seq (ev_if0 a12 ev_next) (ev_seq (ev_set (ev_call (ev_cons (ev_var rfl) (ev_cons (ev_var rfl) ev_nil)) rfl eL)) (ev_ret ?_)))
  exact ev_andV (ev_call (ev_cons (ev_call (ev_cons (ev_var rfl) (ev_cons (ev_var rfl) (ev_cons (ev_var rfl) ev_nil))) rfl eG) (ev_cons (ev_var rfl) ev_nil)) rfl (same_cfgs tl fun c hc => by have := tn2 c hc; omega)) rfl (ev_bin (ev_call (ev_cons (ev_var rfl) (ev_cons (ev_var rfl) (ev_cons (ev_var rfl) (ev_cons (ev_var rfl) ev_nil)))) rfl cT) ev_c rfl)
end K72

namespace K72
open PySem PySem.Spec L2 DL
section
variable {P : Program} {w : World} {K : PySem.W.Frag} {mg : Str → Option Value} {base : Heap}
theorem same_new {H : Hp} {p : Addr} {o : HO} (h : H p = none) : Same H (upd H p o) := fun b u q => by rw [upd_ne (ne_of_none q h)]; exact q
def spBox (K : PySem.W.Frag) : Sp := fun vs H Q _ => ∃ (a : Addr) (ns : List Int), vs = [.ref a] ∧ SqL K H a (ns.map V.int) ∧ ns.length ≤ 63 ∧ ∀ (b c : Addr) (H' : Hp), b ≠ c → H' b = some (.lst (.ref c :: [0, 4711 + (ns.length : Int)].map V.int)) → H' c = some (.lst (ns.map V.int)) → Q (.ref b) H'
theorem ok_box (T : Bn mg) {f : Addr} {fd : FuncData} (F : Fun K "_law_box" "_law_box" st_Lbox f fd) : FnOk P w K mg base CX0 1 f fd ["script"] (spBox K) := by
  refine F.ok sc_Lbox (fun vs H Q E h => ?_) (fun cdv A outer s H vs Q E hr h => ?_)
  · obtain ⟨a, ns, rfl, _⟩ := h
    rfl
  obtain ⟨a, ns, rfl, hS, h63, q⟩ := h
  refine ⟨_, pss_one (ps_ret (pe_lst (pa_cons (pe_callTy call_list_of (by rfl) T.list PyProof.Rows.boot_list (pa_cons (pe_slice sl_list (pv 0) po_none (po_some pe_int)) pa_nil)) (pa_cons pe_int (pa_cons (pe_op op_add pe_int (pe_callB call_len_seq (by rfl) T.len PySem.boot_len (pa_cons (pv 0) pa_nil))) pa_nil))))), ?_⟩
  have cut : cutV (ns.map V.int) none (some 63) = ns.map V.int := by
    unfold cutV
    rw [show (some (63 : Int)) = some ((63 : Nat) : Int) from rfl, HT.sIx_nat, HT.sIx_none, List.length_map, List.drop_zero, List.take_of_length_le (by rw [List.length_map]; omega)]
  refine ⟨.ref a, rfl, 63, rfl, a, _, rfl, hS, fun p hp => ?_⟩
  rw [cut]
  refine ⟨p, _, rfl, .inl (.inl (.inl upd_same)), fun c hc => ?_⟩
  refine ⟨.ref a, rfl, a, _, rfl, .inl ((same_new hc).seq ((same_new hp).seq hS)), _, _, rfl, rfl, by show 3 ≤ sizeLine; decide, fun b hb => ?_⟩
  have nbc : b ≠ c := fun e => by subst e; rw [upd_same] at hb; cases hb
  refine q b c _ nbc (by rw [upd_same, List.length_map]; rfl) ?_
  rw [upd_ne (Ne.symm nbc), upd_same]
def spLaw (K : PySem.W.Frag) : Sp := fun vs H Q _ => ∃ (a : Addr) (ns : List Int), vs = [.ref a] ∧ SqL K H a (ns.map V.int) ∧ ns.length ≤ 63 ∧ ∀ H', Q (.bl true) H'
theorem ok_law (T : Bn mg) {fb : Addr} {fbd : FuncData} (FB : Fun K "_law_box" "_law_box" st_Lbox fb fbd) (bB : Binds K fbd ["script"] []) (mB : mg "_law_box" = some (.ref fb))
   (C_Ldraw : CalB P w K mg base "_law_draw" 2 2 G_Ldraw) (C_Lsome : CalB P w K mg base "_law_some" 15 3 G_Lsome) (C_Lconfigs : Cal P w K mg base "_law_configs" 1 1 G_Lconfigs) (C_Lholds : Cal P w K mg base "_law_holds" 1 2 G_Lholds) (C_Lpossible : Cal P w K mg base "_law_possible" 2 3 G_Lpossible) (C_Lsame : Cal P w K mg base "_law_same" 8 2 (G_Lsame 8)) (C_possible : Cal P w K mg base "possible" 2 3 G_possible) (C_is_sample : Cal P w K mg base "is_sample" 3 3 G_is_sample) (C_Lbad : CalB P w K mg base "_law_bad" 3 4 G_Lbad) (C_Lhas : Cal P w K mg base "_law_has" 1 2 G_Lhas) (C_covers_size : Cal P w K mg base "covers_size" 4 4 G_covers_size) (C_Lgreedy : Cal P w K mg base "_law_greedy" 2 2 G_Lgreedy) (C_greedy_sample : Cal P w K mg base "greedy_sample" 4 3 G_greedy_sample)
    {f : Addr} {fd : FuncData} (F : Fun K "law" "law" st_law f fd) : FnOk P w K mg base CX0 16 f fd ["script"] (spLaw K) := by
  refine F.ok sc_law (fun vs H Q E h => ?_) (fun cdv A outer s H vs Q E hr h => ?_)
  · obtain ⟨a, ns, rfl, _⟩ := h
    rfl
  obtain ⟨a, ns, rfl, hS, h63, q⟩ := h
  refine ⟨_, pss_cons (ps_set (i := 1) sc_law.nd (by rfl) (by first | exact Or.inl rfl | exact Or.inr rfl) (pe_call (ok_box T FB) (hr.mono (by decide)) (by rfl) mB FB.kp bB .nil pass0 (pa_cons (pv 0) pa_nil))) (body_law T C_Ldraw C_Lsome C_Lconfigs C_Lholds C_Lpossible C_Lsame C_possible C_is_sample C_Lbad C_Lhas C_covers_size C_Lgreedy C_greedy_sample hr), ?_⟩
  refine ⟨.ref a, rfl, a, ns, rfl, hS, h63, fun b c H' nbc hb hc => ?_⟩
  obtain ⟨B', o, e⟩ := law_ok (B := ⟨ns, [0, 4711 + (ns.length : Int)]⟩) (by show 2 ≤ 2; decide)
  refine ⟨fun _ => none, H', some (b, c), [.no, .box, .no, .no, .no, .no, .no, .no, .no, .no, .no, .no, .no, .no], fun _ => none, _, _, B', e, ?_, fun v F' H2 _ _ _ _ r => ?_⟩
  · refine ⟨fun _ _ z => (by cases z), fun _ _ => rfl, fun b' c' z => ?_, .refl, rfl, fun i s z => ?_, fun i j xs ys l hij e1 => ?_⟩
    · cases z
      exact ⟨nbc, hb, hc⟩
    · match i, z with
      | 0, z => cases z; trivial
      | 1, z => cases z; exact ⟨b, c, rfl, rfl⟩
      | i + 2, z =>
        have z' : (List.replicate 12 Sl.no)[i]? = some s := z
        obtain ⟨_, z2⟩ := List.getElem?_eq_some_iff.mp z'
        rw [List.getElem_replicate] at z2
        subst z2
        trivial
    · exfalso
      match i, e1 with
      | 0, e1 => cases e1
      | 1, e1 => cases e1
      | i + 2, e1 =>
        have z' : (List.replicate 12 Sl.no)[i]? = some (.own xs) := e1
        obtain ⟨_, z2⟩ := List.getElem?_eq_some_iff.mp z'
        rw [List.getElem_replicate] at z2
        cases z2
  · cases r
    exact q H2
end
theorem all_mk {l : PySem.W.OpenLaw} {w : World} {K : PySem.W.Frag} {h : Heap} {mg : Str → Option Value} {fa f0 f1 f2 f3 f4 f5 f6 f7 f8 f9 f10 f11 f12 f13 f14 f15 f16 f17 f18 f19 f20 f21 f22 f23 : Addr} (X : K.In h) (G : h.Ns mainGlobals mg) (hfa : mg "law" = some (.ref fa))
    {od0 an0 od1 an1 od2 an2 od3 an3 od4 an4 od5 an5 od6 an6 od7 an7 od8 an8 od9 an9 od10 an10 od11 an11 od12 an12 od13 an13 od14 an14 od15 an15 od16 an16 od17 an17 od18 an18 od19 an19 od20 an20 od21 an21 od22 an22 od23 an23 : Option Addr} {sl0 sl1 sl2 sl3 sl4 sl5 sl6 sl7 sl8 sl9 sl10 sl11 sl12 sl13 sl14 sl15 sl16 sl17 sl18 sl19 sl20 sl21 sl22 sl23 : Array (Option Value)} {oc0 kV0 dc0 pm0 cd0 ct0 oc1 kV1 dc1 pm1 cd1 ct1 oc2 kV2 dc2 pm2 cd2 ct2 oc3 kV3 dc3 pm3 cd3 ct3 oc4 kV4 dc4 pm4 cd4 ct4 oc5 kV5 dc5 pm5 cd5 ct5 oc6 kV6 dc6 pm6 cd6 ct6 oc7 kV7 dc7 pm7 cd7 ct7 oc8 kV8 dc8 pm8 cd8 ct8 oc9 kV9 dc9 pm9 cd9 ct9 oc10 kV10 dc10 pm10 cd10 ct10 oc11 kV11 dc11 pm11 cd11 ct11 oc12 kV12 dc12 pm12 cd12 ct12 oc13 kV13 dc13 pm13 cd13 ct13 oc14 kV14 dc14 pm14 cd14 ct14 oc15 kV15 dc15 pm15 cd15 ct15 oc16 kV16 dc16 pm16 cd16 ct16 oc17 kV17 dc17 pm17 cd17 ct17 oc18 kV18 dc18 pm18 cd18 ct18 oc19 kV19 dc19 pm19 cd19 ct19 oc20 kV20 dc20 pm20 cd20 ct20 oc21 kV21 dc21 pm21 cd21 ct21 oc22 kV22 dc22 pm22 cd22 ct22 oc23 kV23 dc23 pm23 cd23 ct23 : Value}
    (a0 : PySem.W.nsIn K mainGlobals "_law_box" = some (some (.ref f0))) (l0 : K.lookup f0 = some ⟨oc0, od0, .func (PySem.W.fnOf "_law_box" "_law_box" (defArgs st_Lbox) (defBody st_Lbox) (defScope st_Lbox) .none kV0 dc0 pm0 an0 cd0 ct0), sl0⟩) (c0 : PySem.W.codeIn K cd0 "_law_box" = true) (k0 : PySem.W.keepIn K (.ref f0) = true)
    (a1 : PySem.W.nsIn K mainGlobals "_law_load" = some (some (.ref f1))) (l1 : K.lookup f1 = some ⟨oc1, od1, .func (PySem.W.fnOf "_law_load" "_law_load" (defArgs st_Lload) (defBody st_Lload) (defScope st_Lload) .none kV1 dc1 pm1 an1 cd1 ct1), sl1⟩) (c1 : PySem.W.codeIn K cd1 "_law_load" = true) (k1 : PySem.W.keepIn K (.ref f1) = true)
    (a2 : PySem.W.nsIn K mainGlobals "_law_draw" = some (some (.ref f2))) (l2 : K.lookup f2 = some ⟨oc2, od2, .func (PySem.W.fnOf "_law_draw" "_law_draw" (defArgs st_Ldraw) (defBody st_Ldraw) (defScope st_Ldraw) .none kV2 dc2 pm2 an2 cd2 ct2), sl2⟩) (c2 : PySem.W.codeIn K cd2 "_law_draw" = true) (k2 : PySem.W.keepIn K (.ref f2) = true)
    (a3 : PySem.W.nsIn K mainGlobals "_law_same" = some (some (.ref f3))) (l3 : K.lookup f3 = some ⟨oc3, od3, .func (PySem.W.fnOf "_law_same" "_law_same" (defArgs st_Lsame) (defBody st_Lsame) (defScope st_Lsame) .none kV3 dc3 pm3 an3 cd3 ct3), sl3⟩) (c3 : PySem.W.codeIn K cd3 "_law_same" = true) (k3 : PySem.W.keepIn K (.ref f3) = true)
    (a4 : PySem.W.nsIn K mainGlobals "_law_diagram" = some (some (.ref f4))) (l4 : K.lookup f4 = some ⟨oc4, od4, .func (PySem.W.fnOf "_law_diagram" "_law_diagram" (defArgs st_Ldiagram) (defBody st_Ldiagram) (defScope st_Ldiagram) .none kV4 dc4 pm4 an4 cd4 ct4), sl4⟩) (c4 : PySem.W.codeIn K cd4 "_law_diagram" = true) (k4 : PySem.W.keepIn K (.ref f4) = true)
    (a5 : PySem.W.nsIn K mainGlobals "_law_configs" = some (some (.ref f5))) (l5 : K.lookup f5 = some ⟨oc5, od5, .func (PySem.W.fnOf "_law_configs" "_law_configs" (defArgs st_Lconfigs) (defBody st_Lconfigs) (defScope st_Lconfigs) .none kV5 dc5 pm5 an5 cd5 ct5), sl5⟩) (c5 : PySem.W.codeIn K cd5 "_law_configs" = true) (k5 : PySem.W.keepIn K (.ref f5) = true)
    (a6 : PySem.W.nsIn K mainGlobals "_law_some" = some (some (.ref f6))) (l6 : K.lookup f6 = some ⟨oc6, od6, .func (PySem.W.fnOf "_law_some" "_law_some" (defArgs st_Lsome) (defBody st_Lsome) (defScope st_Lsome) .none kV6 dc6 pm6 an6 cd6 ct6), sl6⟩) (c6 : PySem.W.codeIn K cd6 "_law_some" = true) (k6 : PySem.W.keepIn K (.ref f6) = true)
    (a7 : PySem.W.nsIn K mainGlobals "_law_settings" = some (some (.ref f7))) (l7 : K.lookup f7 = some ⟨oc7, od7, .func (PySem.W.fnOf "_law_settings" "_law_settings" (defArgs st_Lsettings) (defBody st_Lsettings) (defScope st_Lsettings) .none kV7 dc7 pm7 an7 cd7 ct7), sl7⟩) (c7 : PySem.W.codeIn K cd7 "_law_settings" = true) (k7 : PySem.W.keepIn K (.ref f7) = true)
    (a8 : PySem.W.nsIn K mainGlobals "_law_has" = some (some (.ref f8))) (l8 : K.lookup f8 = some ⟨oc8, od8, .func (PySem.W.fnOf "_law_has" "_law_has" (defArgs st_Lhas) (defBody st_Lhas) (defScope st_Lhas) .none kV8 dc8 pm8 an8 cd8 ct8), sl8⟩) (c8 : PySem.W.codeIn K cd8 "_law_has" = true) (k8 : PySem.W.keepIn K (.ref f8) = true)
    (a9 : PySem.W.nsIn K mainGlobals "_law_possible" = some (some (.ref f9))) (l9 : K.lookup f9 = some ⟨oc9, od9, .func (PySem.W.fnOf "_law_possible" "_law_possible" (defArgs st_Lpossible) (defBody st_Lpossible) (defScope st_Lpossible) .none kV9 dc9 pm9 an9 cd9 ct9), sl9⟩) (c9 : PySem.W.codeIn K cd9 "_law_possible" = true) (k9 : PySem.W.keepIn K (.ref f9) = true)
    (a10 : PySem.W.nsIn K mainGlobals "_law_greedy" = some (some (.ref f10))) (l10 : K.lookup f10 = some ⟨oc10, od10, .func (PySem.W.fnOf "_law_greedy" "_law_greedy" (defArgs st_Lgreedy) (defBody st_Lgreedy) (defScope st_Lgreedy) .none kV10 dc10 pm10 an10 cd10 ct10), sl10⟩) (c10 : PySem.W.codeIn K cd10 "_law_greedy" = true) (k10 : PySem.W.keepIn K (.ref f10) = true)
    (a11 : PySem.W.nsIn K mainGlobals "_law_holds" = some (some (.ref f11))) (l11 : K.lookup f11 = some ⟨oc11, od11, .func (PySem.W.fnOf "_law_holds" "_law_holds" (defArgs st_Lholds) (defBody st_Lholds) (defScope st_Lholds) .none kV11 dc11 pm11 an11 cd11 ct11), sl11⟩) (c11 : PySem.W.codeIn K cd11 "_law_holds" = true) (k11 : PySem.W.keepIn K (.ref f11) = true)
    (a12 : PySem.W.nsIn K mainGlobals "chosen" = some (some (.ref f12))) (l12 : K.lookup f12 = some ⟨oc12, od12, .func (PySem.W.fnOf "chosen" "chosen" (defArgs st_chosen) (defBody st_chosen) (defScope st_chosen) .none kV12 dc12 pm12 an12 cd12 ct12), sl12⟩) (c12 : PySem.W.codeIn K cd12 "chosen" = true) (k12 : PySem.W.keepIn K (.ref f12) = true)
    (a13 : PySem.W.nsIn K mainGlobals "settings" = some (some (.ref f13))) (l13 : K.lookup f13 = some ⟨oc13, od13, .func (PySem.W.fnOf "settings" "settings" (defArgs st_settings) (defBody st_settings) (defScope st_settings) .none kV13 dc13 pm13 an13 cd13 ct13), sl13⟩) (c13 : PySem.W.codeIn K cd13 "settings" = true) (k13 : PySem.W.keepIn K (.ref f13) = true)
    (a14 : PySem.W.nsIn K mainGlobals "has" = some (some (.ref f14))) (l14 : K.lookup f14 = some ⟨oc14, od14, .func (PySem.W.fnOf "has" "has" (defArgs st_has) (defBody st_has) (defScope st_has) .none kV14 dc14 pm14 an14 cd14 ct14), sl14⟩) (c14 : PySem.W.codeIn K cd14 "has" = true) (k14 : PySem.W.keepIn K (.ref f14) = true)
    (a15 : PySem.W.nsIn K mainGlobals "possible" = some (some (.ref f15))) (l15 : K.lookup f15 = some ⟨oc15, od15, .func (PySem.W.fnOf "possible" "possible" (defArgs st_possible) (defBody st_possible) (defScope st_possible) .none kV15 dc15 pm15 an15 cd15 ct15), sl15⟩) (c15 : PySem.W.codeIn K cd15 "possible" = true) (k15 : PySem.W.keepIn K (.ref f15) = true)
    (a16 : PySem.W.nsIn K mainGlobals "holds" = some (some (.ref f16))) (l16 : K.lookup f16 = some ⟨oc16, od16, .func (PySem.W.fnOf "holds" "holds" (defArgs st_holds) (defBody st_holds) (defScope st_holds) .none kV16 dc16 pm16 an16 cd16 ct16), sl16⟩) (c16 : PySem.W.codeIn K cd16 "holds" = true) (k16 : PySem.W.keepIn K (.ref f16) = true)
    (a17 : PySem.W.nsIn K mainGlobals "is_configuration" = some (some (.ref f17))) (l17 : K.lookup f17 = some ⟨oc17, od17, .func (PySem.W.fnOf "is_configuration" "is_configuration" (defArgs st_is_configuration) (defBody st_is_configuration) (defScope st_is_configuration) .none kV17 dc17 pm17 an17 cd17 ct17), sl17⟩) (c17 : PySem.W.codeIn K cd17 "is_configuration" = true) (k17 : PySem.W.keepIn K (.ref f17) = true)
    (a18 : PySem.W.nsIn K mainGlobals "is_sample" = some (some (.ref f18))) (l18 : K.lookup f18 = some ⟨oc18, od18, .func (PySem.W.fnOf "is_sample" "is_sample" (defArgs st_is_sample) (defBody st_is_sample) (defScope st_is_sample) .none kV18 dc18 pm18 an18 cd18 ct18), sl18⟩) (c18 : PySem.W.codeIn K cd18 "is_sample" = true) (k18 : PySem.W.keepIn K (.ref f18) = true)
    (a19 : PySem.W.nsIn K mainGlobals "open_settings" = some (some (.ref f19))) (l19 : K.lookup f19 = some ⟨oc19, od19, .func (PySem.W.fnOf "open_settings" "open_settings" (defArgs st_open_settings) (defBody st_open_settings) (defScope st_open_settings) .none kV19 dc19 pm19 an19 cd19 ct19), sl19⟩) (c19 : PySem.W.codeIn K cd19 "open_settings" = true) (k19 : PySem.W.keepIn K (.ref f19) = true)
    (a20 : PySem.W.nsIn K mainGlobals "covers_size" = some (some (.ref f20))) (l20 : K.lookup f20 = some ⟨oc20, od20, .func (PySem.W.fnOf "covers_size" "covers_size" (defArgs st_covers_size) (defBody st_covers_size) (defScope st_covers_size) .none kV20 dc20 pm20 an20 cd20 ct20), sl20⟩) (c20 : PySem.W.codeIn K cd20 "covers_size" = true) (k20 : PySem.W.keepIn K (.ref f20) = true)
    (a21 : PySem.W.nsIn K mainGlobals "greedy_sample" = some (some (.ref f21))) (l21 : K.lookup f21 = some ⟨oc21, od21, .func (PySem.W.fnOf "greedy_sample" "greedy_sample" (defArgs st_greedy_sample) (defBody st_greedy_sample) (defScope st_greedy_sample) .none kV21 dc21 pm21 an21 cd21 ct21), sl21⟩) (c21 : PySem.W.codeIn K cd21 "greedy_sample" = true) (k21 : PySem.W.keepIn K (.ref f21) = true)
    (a22 : PySem.W.nsIn K mainGlobals "_law_bad" = some (some (.ref f22))) (l22 : K.lookup f22 = some ⟨oc22, od22, .func (PySem.W.fnOf "_law_bad" "_law_bad" (defArgs st_Lbad) (defBody st_Lbad) (defScope st_Lbad) .none kV22 dc22 pm22 an22 cd22 ct22), sl22⟩) (c22 : PySem.W.codeIn K cd22 "_law_bad" = true) (k22 : PySem.W.keepIn K (.ref f22) = true)
    (a23 : PySem.W.nsIn K mainGlobals "law" = some (some (.ref f23))) (l23 : K.lookup f23 = some ⟨oc23, od23, .func (PySem.W.fnOf "law" "law" (defArgs st_law) (defBody st_law) (defScope st_law) .none kV23 dc23 pm23 an23 cd23 ct23), sl23⟩) (c23 : PySem.W.codeIn K cd23 "law" = true) (k23 : PySem.W.keepIn K (.ref f23) = true)
    (z0 : PySem.W.nsIn K mainGlobals "all" = some none) (z1 : PySem.W.nsIn K mainGlobals "any" = some none) (z2 : PySem.W.nsIn K mainGlobals "bool" = some none) (z3 : PySem.W.nsIn K mainGlobals "int" = some none) (z4 : PySem.W.nsIn K mainGlobals "isinstance" = some none) (z5 : PySem.W.nsIn K mainGlobals "len" = some none) (z6 : PySem.W.nsIn K mainGlobals "list" = some none) (z7 : PySem.W.nsIn K mainGlobals "max" = some none) (z8 : PySem.W.nsIn K mainGlobals "min" = some none) (z9 : PySem.W.nsIn K mainGlobals "range" = some none) (z10 : PySem.W.nsIn K mainGlobals "sorted" = some none) (z11 : PySem.W.nsIn K mainGlobals "str" = some none) (z12 : PySem.W.nsIn K mainGlobals "tuple" = some none) :
    ∃ fd : FuncData, (∀ (s : Shared) (v : Value), BindsTo s fd ⟨[v], []⟩ [("script", v)]) ∧ ∀ base : Heap, K.In base → base.Ns mainGlobals mg → FnOk l.prog w K mg base CX0 16 fa fd ["script"] (spLaw K) := by
  have e := hfa.symm.trans (PySem.W.mg_of X G a23)
  cases e
  have T : Bn mg := ⟨PySem.W.mg_none_of X G z0, PySem.W.mg_none_of X G z1, PySem.W.mg_none_of X G z2, PySem.W.mg_none_of X G z3, PySem.W.mg_none_of X G z4, PySem.W.mg_none_of X G z5, PySem.W.mg_none_of X G z6, PySem.W.mg_none_of X G z7, PySem.W.mg_none_of X G z8, PySem.W.mg_none_of X G z9, PySem.W.mg_none_of X G z10, PySem.W.mg_none_of X G z11, PySem.W.mg_none_of X G z12⟩
  have F0 := fun_mk (st := st_Lbox) l0 c0 k0
  have b0 := F0.binds (ps := ["script"]) fun _ _ _ _ _ _ us hl => match us, hl with | [_], _ => rfl
  have F1 := fun_mk (st := st_Lload) l1 c1 k1
  have b1 := F1.binds (ps := ["box"]) fun _ _ _ _ _ _ us hl => match us, hl with | [_], _ => rfl
  have F2 := fun_mk (st := st_Ldraw) l2 c2 k2
  have b2 := F2.binds (ps := ["box", "many"]) fun _ _ _ _ _ _ us hl => match us, hl with | [_, _], _ => rfl
  have F3 := fun_mk (st := st_Lsame) l3 c3 k3
  have b3 := F3.binds (ps := ["a", "b"]) fun _ _ _ _ _ _ us hl => match us, hl with | [_, _], _ => rfl
  have F4 := fun_mk (st := st_Ldiagram) l4 c4 k4
  have b4 := F4.binds (ps := ["truths", "i"]) fun _ _ _ _ _ _ us hl => match us, hl with | [_, _], _ => rfl
  have F5 := fun_mk (st := st_Lconfigs) l5 c5 k5
  have b5 := F5.binds (ps := ["n"]) fun _ _ _ _ _ _ us hl => match us, hl with | [_], _ => rfl
  have F6 := fun_mk (st := st_Lsome) l6 c6 k6
  have b6 := F6.binds (ps := ["box", "n", "often"]) fun _ _ _ _ _ _ us hl => match us, hl with | [_, _, _], _ => rfl
  have F7 := fun_mk (st := st_Lsettings) l7 c7 k7
  have b7 := F7.binds (ps := ["n", "t"]) fun _ _ _ _ _ _ us hl => match us, hl with | [_, _], _ => rfl
  have F8 := fun_mk (st := st_Lhas) l8 c8 k8
  have b8 := F8.binds (ps := ["one", "setting"]) fun _ _ _ _ _ _ us hl => match us, hl with | [_, _], _ => rfl
  have F9 := fun_mk (st := st_Lpossible) l9 c9 k9
  have b9 := F9.binds (ps := ["valid", "n", "t"]) fun _ _ _ _ _ _ us hl => match us, hl with | [_, _, _], _ => rfl
  have F10 := fun_mk (st := st_Lgreedy) l10 c10 k10
  have b10 := F10.binds (ps := ["valid", "settings_v"]) fun _ _ _ _ _ _ us hl => match us, hl with | [_, _], _ => rfl
  have F11 := fun_mk (st := st_Lholds) l11 c11 k11
  have b11 := F11.binds (ps := ["diagram", "configuration"]) fun _ _ _ _ _ _ us hl => match us, hl with | [_, _], _ => rfl
  have F12 := fun_mk (st := st_chosen) l12 c12 k12
  have b12 := F12.binds (ps := ["d", "count"]) fun _ _ _ _ _ _ us hl => match us, hl with | [_, _], _ => rfl
  have F13 := fun_mk (st := st_settings) l13 c13 k13
  have b13 := F13.binds (ps := ["n", "t"]) fun _ _ _ _ _ _ us hl => match us, hl with | [_, _], _ => rfl
  have F14 := fun_mk (st := st_has) l14 c14 k14
  have b14 := F14.binds (ps := ["configuration", "setting"]) fun _ _ _ _ _ _ us hl => match us, hl with | [_, _], _ => rfl
  have F15 := fun_mk (st := st_possible) l15 c15 k15
  have b15 := F15.binds (ps := ["d", "n", "t"]) fun _ _ _ _ _ _ us hl => match us, hl with | [_, _, _], _ => rfl
  have F16 := fun_mk (st := st_holds) l16 c16 k16
  have b16 := F16.binds (ps := ["d", "configuration"]) fun _ _ _ _ _ _ us hl => match us, hl with | [_, _], _ => rfl
  have F17 := fun_mk (st := st_is_configuration) l17 c17 k17
  have b17 := F17.binds (ps := ["d", "n", "value"]) fun _ _ _ _ _ _ us hl => match us, hl with | [_, _, _], _ => rfl
  have F18 := fun_mk (st := st_is_sample) l18 c18 k18
  have b18 := F18.binds (ps := ["d", "n", "value"]) fun _ _ _ _ _ _ us hl => match us, hl with | [_, _, _], _ => rfl
  have F19 := fun_mk (st := st_open_settings) l19 c19 k19
  have b19 := F19.binds (ps := ["d", "n", "t", "taken"]) fun _ _ _ _ _ _ us hl => match us, hl with | [_, _, _, _], _ => rfl
  have F20 := fun_mk (st := st_covers_size) l20 c20 k20
  have b20 := F20.binds (ps := ["d", "n", "t", "sample"]) fun _ _ _ _ _ _ us hl => match us, hl with | [_, _, _, _], _ => rfl
  have F21 := fun_mk (st := st_greedy_sample) l21 c21 k21
  have b21 := F21.binds (ps := ["d", "n", "t"]) fun _ _ _ _ _ _ us hl => match us, hl with | [_, _, _], _ => rfl
  have F22 := fun_mk (st := st_Lbad) l22 c22 k22
  have b22 := F22.binds (ps := ["box", "n", "valid", "sample"]) fun _ _ _ _ _ _ us hl => match us, hl with | [_, _, _, _], _ => rfl
  have F23 := fun_mk (st := st_law) l23 c23 k23
  refine ⟨PySem.W.fnOf "law" "law" (defArgs st_law) (defBody st_law) (defScope st_law) .none kV23 dc23 pm23 an23 cd23 ct23, fun s v => .of_eq rfl, fun base _ _ => ?_⟩
  have C_Lload := cal_Lload (P := l.prog) (w := w) (base := base) T  F1 b1 (PySem.W.mg_of X G a1)
  have C_Ldraw := cal_Ldraw (P := l.prog) (w := w) (base := base) T C_Lload F2 b2 (PySem.W.mg_of X G a2)
  have C_Lconfigs := cal_Lconfigs (P := l.prog) (w := w) (base := base) T  F5 b5 (PySem.W.mg_of X G a5)
  have C_Lsame := cal_Lsame (P := l.prog) (w := w) (base := base) T  F3 b3 (PySem.W.mg_of X G a3) 8
  have C_Ldiagram := cal_Ldiagram (P := l.prog) (w := w) (base := base) T C_Lsame F4 b4 (PySem.W.mg_of X G a4) 6
  have C_Lsome := cal_Lsome (P := l.prog) (w := w) (base := base) T C_Ldraw C_Lconfigs C_Ldiagram F6 b6 (PySem.W.mg_of X G a6)
  have C_Lholds := cal_Lholds (P := l.prog) (w := w) (base := base) T  F11 b11 (PySem.W.mg_of X G a11)
  have C_Lsettings := cal_Lsettings (P := l.prog) (w := w) (base := base) T  F7 b7 (PySem.W.mg_of X G a7)
  have C_Lhas := cal_Lhas (P := l.prog) (w := w) (base := base) T  F8 b8 (PySem.W.mg_of X G a8)
  have C_Lpossible := cal_Lpossible (P := l.prog) (w := w) (base := base) T C_Lsettings C_Lhas F9 b9 (PySem.W.mg_of X G a9)
  have C_chosen := cal_chosen (P := l.prog) (w := w) (base := base) T  F12 b12 (PySem.W.mg_of X G a12)
  have C_settings := cal_settings (P := l.prog) (w := w) (base := base) T  F13 b13 (PySem.W.mg_of X G a13)
  have C_has := cal_has (P := l.prog) (w := w) (base := base) T  F14 b14 (PySem.W.mg_of X G a14)
  have C_possible := cal_possible (P := l.prog) (w := w) (base := base) T C_chosen C_settings C_has F15 b15 (PySem.W.mg_of X G a15)
  have C_holds := cal_holds (P := l.prog) (w := w) (base := base) T  F16 b16 (PySem.W.mg_of X G a16)
  have C_is_configuration := cal_is_configuration (P := l.prog) (w := w) (base := base) T C_holds F17 b17 (PySem.W.mg_of X G a17)
  have C_is_sample := cal_is_sample (P := l.prog) (w := w) (base := base) T C_is_configuration F18 b18 (PySem.W.mg_of X G a18)
  have C_Lbad := cal_Lbad (P := l.prog) (w := w) (base := base) T C_Lconfigs C_Ldraw F22 b22 (PySem.W.mg_of X G a22)
  have C_open_settings := cal_open_settings (P := l.prog) (w := w) (base := base) T C_possible C_has F19 b19 (PySem.W.mg_of X G a19)
  have C_covers_size := cal_covers_size (P := l.prog) (w := w) (base := base) T C_open_settings F20 b20 (PySem.W.mg_of X G a20)
  have C_Lgreedy := cal_Lgreedy (P := l.prog) (w := w) (base := base) T C_Lhas F10 b10 (PySem.W.mg_of X G a10)
  have C_greedy_sample := cal_greedy_sample (P := l.prog) (w := w) (base := base) T C_open_settings C_chosen C_has F21 b21 (PySem.W.mg_of X G a21)
  exact ok_law T F0 b0 (PySem.W.mg_of X G a0) C_Ldraw C_Lsome C_Lconfigs C_Lholds C_Lpossible C_Lsame C_possible C_is_sample C_Lbad C_Lhas C_covers_size C_Lgreedy C_greedy_sample F23
end K72
open PySem PySem.W PyProof.Rows
set_option maxHeartbeats 0 in
theorem PySem.Challenge.cw_oncefolded_k72_samples_and_greedy_ones_holds : PySem.Challenge.rw_oncefolded_k72_samples_and_greedy_ones.Holds := by
  w_on; o_law; k_head; (case hw => w_witness2)
  k_fill
  refine L2.walk_of (l := PySem.Challenge.rw_oncefolded_k72_samples_and_greedy_ones) (n := 63) (k := 16) (x := "script") (CX := fun _ => L2.CX0) (sp := fun w => K72.spLaw _) rfl (by decide) rfl ⟨rfl, by decide, by decide⟩ (fun w h Y => PySem.W.kIn_of Y) ?F (fun _ _ a ns hl _ hS => ⟨a, ns, rfl, hS, hl, fun _ => rfl⟩) (fun _ _ _ _ _ h => h)
  case F =>
    intro w mg fa h KX G hmg
    refine' K72.all_mk KX G hmg ?a0 ?l0 ?c0 ?k0 ?a1 ?l1 ?c1 ?k1 ?a2 ?l2 ?c2 ?k2 ?a3 ?l3 ?c3 ?k3 ?a4 ?l4 ?c4 ?k4 ?a5 ?l5 ?c5 ?k5 ?a6 ?l6 ?c6 ?k6 ?a7 ?l7 ?c7 ?k7 ?a8 ?l8 ?c8 ?k8 ?a9 ?l9 ?c9 ?k9 ?a10 ?l10 ?c10 ?k10 ?a11 ?l11 ?c11 ?k11 ?a12 ?l12 ?c12 ?k12 ?a13 ?l13 ?c13 ?k13 ?a14 ?l14 ?c14 ?k14 ?a15 ?l15 ?c15 ?k15 ?a16 ?l16 ?c16 ?k16 ?a17 ?l17 ?c17 ?k17 ?a18 ?l18 ?c18 ?k18 ?a19 ?l19 ?c19 ?k19 ?a20 ?l20 ?c20 ?k20 ?a21 ?l21 ?c21 ?k21 ?a22 ?l22 ?c22 ?k22 ?a23 ?l23 ?c23 ?k23 ?z0 ?z1 ?z2 ?z3 ?z4 ?z5 ?z6 ?z7 ?z8 ?z9 ?z10 ?z11 ?z12
    (case a0 => k_is); (case l0 => k_is); (case c0 => k_is); (case k0 => k_is)
    (case a1 => k_is); (case l1 => k_is); (case c1 => k_is); (case k1 => k_is)
    (case a2 => k_is); (case l2 => k_is); (case c2 => k_is); (case k2 => k_is)
    (case a3 => k_is); (case l3 => k_is); (case c3 => k_is); (case k3 => k_is)
    (case a4 => k_is); (case l4 => k_is); (case c4 => k_is); (case k4 => k_is)
    (case a5 => k_is); (case l5 => k_is); (case c5 => k_is); (case k5 => k_is)
    (case a6 => k_is); (case l6 => k_is); (case c6 => k_is); (case k6 => k_is)
    (case a7 => k_is); (case l7 => k_is); (case c7 => k_is); (case k7 => k_is)
    (case a8 => k_is); (case l8 => k_is); (case c8 => k_is); (case k8 => k_is)
    (case a9 => k_is); (case l9 => k_is); (case c9 => k_is); (case k9 => k_is)
    (case a10 => k_is); (case l10 => k_is); (case c10 => k_is); (case k10 => k_is)
    (case a11 => k_is); (case l11 => k_is); (case c11 => k_is); (case k11 => k_is)
    (case a12 => k_is); (case l12 => k_is); (case c12 => k_is); (case k12 => k_is)
    (case a13 => k_is); (case l13 => k_is); (case c13 => k_is); (case k13 => k_is)
    (case a14 => k_is); (case l14 => k_is); (case c14 => k_is); (case k14 => k_is)
    (case a15 => k_is); (case l15 => k_is); (case c15 => k_is); (case k15 => k_is)
    (case a16 => k_is); (case l16 => k_is); (case c16 => k_is); (case k16 => k_is)
    (case a17 => k_is); (case l17 => k_is); (case c17 => k_is); (case k17 => k_is)
    (case a18 => k_is); (case l18 => k_is); (case c18 => k_is); (case k18 => k_is)
    (case a19 => k_is); (case l19 => k_is); (case c19 => k_is); (case k19 => k_is)
    (case a20 => k_is); (case l20 => k_is); (case c20 => k_is); (case k20 => k_is)
    (case a21 => k_is); (case l21 => k_is); (case c21 => k_is); (case k21 => k_is)
    (case a22 => k_is); (case l22 => k_is); (case c22 => k_is); (case k22 => k_is)
    (case a23 => k_is); (case l23 => k_is); (case c23 => k_is); (case k23 => k_is)
    (case z0 => k_is)
    (case z1 => k_is)
    (case z2 => k_is)
    (case z3 => k_is)
    (case z4 => k_is)
    (case z5 => k_is)
    (case z6 => k_is)
    (case z7 => k_is)
    (case z8 => k_is)
    (case z9 => k_is)
    (case z10 => k_is)
    (case z11 => k_is)
    (case z12 => k_is)

