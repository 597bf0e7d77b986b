import PyProof.Rows.All
import Wide.All
import OpenK.AllK
import Wide.FinOn
import HandS.ForMost
import HandS.Exc
import HandS.TryOnly
import HandS.ExcOwn
import HandS.WordsExc
import HandS.CallSlots
import HandS.ExcCtx
import HandS.HotCalls
import HandS.RaiseFrom
import HandS.ExcInitHot
import HandS.Wide
import HandS.Style
import HandS.TupAny
import HandS.IsInst
import HandS.Rev
import HandS.Conv
import HandS.ExcInit
import KE.KExcSuper
import KE.RegKSuper
import KE.KExcIs
import HandS.ExcField
import HandS.SetFor
import HandS.Strs
import HandS.SortInts
import HandS.RevTup
import HandS.RevRange
import HandS.DictComp
import HandS.DictTup
import KE.GoesMore
import KE.SortData
import PySem.Challenge.RW_dealstory_k47_whole_talks_and_who_goes_b
import HandS.Defaults
set_option Elab.async false
set_option linter.all false
set_option maxRecDepth 100000
set_option maxHeartbeats 4000000
/-! data in place of addresses: what is frozen is its data, what may change stands in a memory -/
namespace Dl
open PySem PySem.Spec PyProof.Rows L2

/-- frozen data -/
inductive D where
  | non | bl (b : Bool) | int (i : Int) | str (s : Str)
  | tup (xs : List D) | lst (xs : List D) | seq (xs : List D)
  | ty (n : String) | adr (a : Addr)
  | exc (a C d : Addr) (x : D)

mutual
inductive Is (K : PySem.W.Frag) (F : Hp) : V → D → Prop
  | non : Is K F .non .non
  | bl (b : Bool) : Is K F (.bl b) (.bl b)
  | int (i : Int) : Is K F (.int i) (.int i)
  | str (s : Str) : Is K F (.str s) (.str s)
  | tup {a : Addr} {vs : List V} {ds : List D} : SqT K F a vs → IsA K F vs ds → Is K F (.ref a) (.tup ds)
  | lst {a : Addr} {vs : List V} {ds : List D} : F a = some (.lst vs) → IsA K F vs ds → Is K F (.ref a) (.lst ds)
  | seq {a : Addr} {vs : List V} {ds : List D} : SqL K F a vs → IsA K F vs ds → Is K F (.ref a) (.seq ds)
  | ty (n : String) : Is K F (.ty n) (.ty n)
  | adr (a : Addr) : Is K F (.ref a) (.adr a)
  | exc {a C d : Addr} {v : V} {x : D} : F d = some (.xd [(("at" : Str), v)]) → Is K F v x → Is K F (.ref a) (.exc a C d x)
inductive IsA (K : PySem.W.Frag) (F : Hp) : List V → List D → Prop
  | nil : IsA K F [] []
  | cons {v : V} {vs : List V} {d : D} {ds : List D} : Is K F v d → IsA K F vs ds → IsA K F (v :: vs) (d :: ds)
end

theorem Same.rd {H H' : Hp} {a : Addr} {u : HO} (e : Same H H') (h : Rd H a u) : Rd H' a u := by
  rcases h with h | ⟨o, h⟩
  · exact .inl (e _ _ h)
  · exact .inr ⟨o, e _ _ h⟩
theorem Same.tupS {K : PySem.W.Frag} {H H' : Hp} {a : Addr} {xs : List V} (e : Same H H') (h : SqT K H a xs) : SqT K H' a xs := by
  rcases h with h | h
  · exact .inl (Same.rd e h)
  · exact .inr h
theorem Same.new {H : Hp} {p : Addr} {o : HO} (h : H p = none) : Same H (upd H p o) := fun b x e => by
  rw [upd_ne (ne_of_none e h)]
  exact e

section
variable {K : PySem.W.Frag} {F F' : Hp}
mutual
theorem Is.mono (s : Same F F') : ∀ {v : V} {d : D}, Is K F v d → Is K F' v d
  | _, _, .non => .non
  | _, _, .bl b => .bl b
  | _, _, .int i => .int i
  | _, _, .str i => .str i
  | _, _, .tup h a => .tup (Same.tupS s h) (IsA.mono s a)
  | _, _, .lst h a => .lst (s _ _ h) (IsA.mono s a)
  | _, _, .seq h a => .seq (s.seq h) (IsA.mono s a)
  | _, _, .ty n => .ty n
  | _, _, .adr a => .adr a
  | _, _, .exc h a => .exc (s _ _ h) (a.mono s)
theorem IsA.mono (s : Same F F') : ∀ {vs : List V} {ds : List D}, IsA K F vs ds → IsA K F' vs ds
  | _, _, .nil => .nil
  | _, _, .cons h a => .cons (h.mono s) (a.mono s)
end
theorem IsA.length : ∀ {vs : List V} {ds : List D}, IsA K F vs ds → vs.length = ds.length
  | _, _, .nil => rfl
  | _, _, .cons _ a => by rw [List.length_cons, List.length_cons, a.length]
theorem IsA.get : ∀ {vs : List V} {ds : List D} {i : Nat} {d : D}, IsA K F vs ds → ds[i]? = some d → ∃ v, vs[i]? = some v ∧ Is K F v d
  | _, _, _, _, .nil, e => by simp at e
  | _, _, 0, _, .cons r _, e => by simp at e; subst e; exact ⟨_, rfl, r⟩
  | _, _, i + 1, x, .cons _ t, e => by
    obtain ⟨u, h1, h2⟩ := IsA.get (i := i) (d := x) t (by simpa using e)
    exact ⟨u, by simpa using h1, h2⟩
theorem IsA.get' : ∀ {vs : List V} {ds : List D} {i : Nat} {v : V}, IsA K F vs ds → vs[i]? = some v → ∃ d, ds[i]? = some d ∧ Is K F v d
  | _, _, _, _, .nil, e => by simp at e
  | _, _, 0, _, .cons r _, e => by simp at e; subst e; exact ⟨_, rfl, r⟩
  | _, _, i + 1, x, .cons _ t, e => by
    obtain ⟨u, h1, h2⟩ := IsA.get' (i := i) (v := x) t (by simpa using e)
    exact ⟨u, by simpa using h1, h2⟩
theorem IsA.append : ∀ {vs ws : List V} {ds es : List D}, IsA K F vs ds → IsA K F ws es → IsA K F (vs ++ ws) (ds ++ es)
  | _, _, _, _, .nil, s => s
  | _, _, _, _, .cons r t, s => .cons r (IsA.append t s)
theorem IsA.take : ∀ {vs : List V} {ds : List D} (n : Nat), IsA K F vs ds → IsA K F (vs.take n) (ds.take n)
  | _, _, 0, _ => .nil
  | _, _, _ + 1, .nil => .nil
  | _, _, n + 1, .cons r t => .cons r (IsA.take n t)
theorem IsA.drop : ∀ {vs : List V} {ds : List D} (n : Nat), IsA K F vs ds → IsA K F (vs.drop n) (ds.drop n)
  | _, _, 0, r => r
  | _, _, _ + 1, .nil => .nil
  | _, _, n + 1, .cons _ t => IsA.drop n t
theorem IsA.reverse {vs : List V} {ds : List D} (h : IsA K F vs ds) : IsA K F vs.reverse ds.reverse := by
  have key : ∀ {vs ws : List V} {ds es : List D}, IsA K F vs ds → IsA K F ws es → IsA K F (vs.reverse ++ ws) (ds.reverse ++ es) := by
    intro vs
    induction vs with
    | nil => intro ws ds es h k; cases h; exact k
    | cons v vs ih =>
      intro ws ds es h k
      cases h with
      | cons h1 h2 =>
        rw [List.reverse_cons, List.reverse_cons, List.append_assoc, List.append_assoc]
        exact ih h2 (.cons h1 k)
  have z := key h .nil
  rw [List.append_nil, List.append_nil] at z
  exact z
theorem IsA.set {v : V} {d : D} (r : Is K F v d) : ∀ {vs : List V} {ds : List D} (i : Nat), IsA K F vs ds → IsA K F (vs.set i v) (ds.set i d)
  | _, _, _, .nil => .nil
  | _, _, 0, .cons _ t => .cons r t
  | _, _, i + 1, .cons q t => .cons q (IsA.set r i t)
theorem IsA.dropLast {vs : List V} {ds : List D} (h : IsA K F vs ds) : IsA K F vs.dropLast ds.dropLast := by
  rw [List.dropLast_eq_take, List.dropLast_eq_take, h.length]
  exact h.take _
end

/-! ### the memory: what may change -/
inductive N where
  | lst (xs : List D)
  | dct (kvs : List (Key × D))
  | ins (C : Addr) (fs : List (Str × D))
  | raw (o : HO)
abbrev Mem := Addr → Option N
def updM (M : Mem) (p : Addr) (n : N) : Mem := fun b => if b = p then some n else M b
theorem updM_same {M : Mem} {p : Addr} {n : N} : updM M p n p = some n := by unfold updM; rw [if_pos rfl]
theorem updM_ne {M : Mem} {p b : Addr} {n : N} (h : b ≠ p) : updM M p n b = M b := by unfold updM; rw [if_neg h]
theorem updM_upd {M : Mem} {p : Addr} {n m : N} : updM (updM M p n) p m = updM M p m := by
  funext b; unfold updM; split <;> rfl
/-- pairs with like keys -/
abbrev IsK {κ : Type} (K : PySem.W.Frag) (F : Hp) : List (κ × V) → List (κ × D) → Prop := Paired fun p q => p.1 = q.1 ∧ Is K F p.2 q.2
theorem IsK.mono {κ : Type} {K : PySem.W.Frag} {F F' : Hp} (s : Same F F') {ws : List (κ × V)} {kvs : List (κ × D)} (h : IsK K F ws kvs) : IsK K F' ws kvs := Paired.mapP h fun _ _ z => ⟨z.1, z.2.mono s⟩
def NodeIs (K : PySem.W.Frag) (F H : Hp) (p : Addr) : N → Prop
  | .lst xs => ∃ vs, H p = some (.lst vs) ∧ IsA K F vs xs
  | .dct kvs => ∃ ws, H p = some (.dK ws) ∧ IsK K F ws kvs ∧ (kvs.map (·.1)).Nodup
  | .ins C fs => ∃ dx ws, H p = some (.ins C dx ws) ∧ IsK K F ws fs
  | .raw o => H p = some o
theorem NodeIs.some {K : PySem.W.Frag} {F H : Hp} {p : Addr} {n : N} (h : NodeIs K F H p n) : ∃ o, H p = Option.some o := by
  cases n with
  | lst xs => obtain ⟨vs, e, _⟩ := h; exact ⟨_, e⟩
  | dct xs => obtain ⟨vs, e, _, _⟩ := h; exact ⟨_, e⟩
  | ins C fs => obtain ⟨_, _, e, _⟩ := h; exact ⟨_, e⟩
  | raw o => exact ⟨_, h⟩
theorem NodeIs.keep {K : PySem.W.Frag} {F F' H H' : Hp} {p : Addr} {n : N} (h : NodeIs K F H p n) (s : Same F F') (e : H' p = H p) : NodeIs K F' H' p n := by
  cases n with
  | lst xs => obtain ⟨vs, q, r⟩ := h; exact ⟨vs, e.trans q, r.mono s⟩
  | dct xs => obtain ⟨vs, q, r, nd⟩ := h; exact ⟨vs, e.trans q, r.mono s, nd⟩
  | ins C fs => obtain ⟨dx, ws, q, r⟩ := h; exact ⟨dx, ws, e.trans q, r.mono s⟩
  | raw o => exact e.trans h
structure Lay (K : PySem.W.Frag) (F H : Hp) (M : Mem) : Prop where
  same : Same F H
  node : ∀ p n, M p = some n → F p = none ∧ NodeIs K F H p n
section
variable {K : PySem.W.Frag} {F H : Hp} {M : Mem} {p : Addr}
theorem Lay.fnone (L : Lay K F H M) (h : H p = none) : F p = none := by
  cases e : F p with
  | none => rfl
  | some o => rw [L.same p o e] at h; cases h
theorem Lay.mnone (L : Lay K F H M) (h : H p = none) : M p = none := by
  cases e : M p with
  | none => rfl
  | some n =>
    obtain ⟨o, q⟩ := (L.node p n e).2.some
    rw [q] at h; cases h
theorem Lay.tup (L : Lay K F H M) {a : Addr} {xs : List V} (h : SqT K F a xs) : SqT K H a xs := Same.tupS L.same h
theorem Lay.list (L : Lay K F H M) {a : Addr} {xs : List V} (h : SqL K F a xs) : SqL K H a xs := L.same.seq h
/-- a new frozen object -/
theorem Lay.frozen (L : Lay K F H M) (o : HO) (h : H p = none) : Lay K (upd F p o) (upd H p o) M := by
  have hf := L.fnone h
  refine ⟨fun b x e => ?_, fun q n e => ?_⟩
  · by_cases hb : b = p
    · subst hb; rw [upd_same] at e; rw [upd_same]; exact e
    · rw [upd_ne hb] at e; rw [upd_ne hb]; exact L.same b x e
  · obtain ⟨f0, nd⟩ := L.node q n e
    have hq : q ≠ p := fun z => by
      obtain ⟨o', q'⟩ := nd.some
      rw [z, h] at q'; cases q'
    exact ⟨by rw [upd_ne hq]; exact f0, nd.keep (Same.new hf) (upd_ne hq)⟩
/-- a new one that may change -/
theorem Lay.made (L : Lay K F H M) {o : HO} {n : N} (h : H p = none) (hn : NodeIs K F (upd H p o) p n) : Lay K F (upd H p o) (updM M p n) := by
  have hf := L.fnone h
  refine ⟨fun b x e => ?_, fun q m e => ?_⟩
  · have hb : b ≠ p := fun z => by rw [z, hf] at e; cases e
    rw [upd_ne hb]; exact L.same b x e
  · by_cases hq : q = p
    · subst hq
      rw [updM_same] at e
      cases e
      exact ⟨hf, hn⟩
    · rw [updM_ne hq] at e
      obtain ⟨f0, nd⟩ := L.node q m e
      exact ⟨f0, nd.keep (fun _ _ z => z) (upd_ne hq)⟩
/-- a hidden one is made, written, frozen, let into the memory -/
theorem Lay.hide (L : Lay K F H M) (o : HO) (hf : F p = none) (hm : M p = none) : Lay K F (upd H p o) M := by
  refine ⟨fun b x e => ?_, fun q m e => ?_⟩
  · have hb : b ≠ p := fun z => by rw [z, hf] at e; cases e
    rw [upd_ne hb]; exact L.same b x e
  · have hq : q ≠ p := fun z => by rw [z, hm] at e; cases e
    obtain ⟨f0, nd⟩ := L.node q m e
    exact ⟨f0, nd.keep (fun _ _ z => z) (upd_ne hq)⟩
theorem Lay.freeze (L : Lay K F H M) {o : HO} (hf : F p = none) (hm : M p = none) (h : H p = some o) : Lay K (upd F p o) H M := by
  refine ⟨fun b x e => ?_, fun q m e => ?_⟩
  · by_cases hb : b = p
    · subst hb; rw [upd_same] at e; rw [h]; exact e
    · rw [upd_ne hb] at e; exact L.same b x e
  · have hq : q ≠ p := fun z => by rw [z, hm] at e; cases e
    obtain ⟨f0, nd⟩ := L.node q m e
    exact ⟨by rw [upd_ne hq]; exact f0, nd.keep (Same.new hf) rfl⟩
theorem Lay.adopt (L : Lay K F H M) {n : N} (hf : F p = none) (hn : NodeIs K F H p n) : Lay K F H (updM M p n) := by
  refine ⟨L.same, fun q m e => ?_⟩
  by_cases hq : q = p
  · subst hq
    rw [updM_same] at e
    cases e
    exact ⟨hf, hn⟩
  · rw [updM_ne hq] at e
    exact L.node q m e
/-- one that is changed -/
theorem Lay.write (L : Lay K F H M) {o : HO} {n0 n : N} (h : M p = some n0) (hn : NodeIs K F (upd H p o) p n) : Lay K F (upd H p o) (updM M p n) := by
  have hf := (L.node p n0 h).1
  refine ⟨fun b x e => ?_, fun q m e => ?_⟩
  · have hb : b ≠ p := fun z => by rw [z, hf] at e; cases e
    rw [upd_ne hb]; exact L.same b x e
  · by_cases hq : q = p
    · subst hq
      rw [updM_same] at e
      cases e
      exact ⟨hf, hn⟩
    · rw [updM_ne hq] at e
      obtain ⟨f0, nd⟩ := L.node q m e
      exact ⟨f0, nd.keep (fun _ _ z => z) (upd_ne hq)⟩
end

/-- from one state to a later one: what is frozen stays; what stands hidden (neither frozen nor in the memory) is not touched -/
structure Grow (F H : Hp) (M : Mem) (F' H' : Hp) (M' : Mem) : Prop where
  same : Same F F'
  hid : ∀ a, H a ≠ none → F a = none → M a = none → H' a = H a ∧ F' a = none ∧ M' a = none
section
variable {F H F1 H1 F2 H2 : Hp} {M M1 M2 : Mem} {p : Addr}
theorem Grow.refl : Grow F H M F H M := ⟨Same.refl F, fun _ _ h2 h3 => ⟨rfl, h2, h3⟩⟩
theorem Grow.trans (a : Grow F H M F1 H1 M1) (b : Grow F1 H1 M1 F2 H2 M2) : Grow F H M F2 H2 M2 := ⟨a.same.trans b.same, fun x h1 h2 h3 => by
  obtain ⟨e1, e2, e3⟩ := a.hid x h1 h2 h3
  obtain ⟨q1, q2, q3⟩ := b.hid x (by rw [e1]; exact h1) e2 e3
  exact ⟨q1.trans e1, q2, q3⟩⟩
theorem Grow.frozen {o : HO} (hf : F p = none) (h : H p = none) : Grow F H M (upd F p o) (upd H p o) M := ⟨Same.new hf, fun x h1 h2 h3 => by
  have hx : x ≠ p := fun z => h1 (by rw [z]; exact h)
  rw [upd_ne hx, upd_ne hx]
  exact ⟨rfl, h2, h3⟩⟩
theorem Grow.made {o : HO} {n : N} (h : H p = none) : Grow F H M F (upd H p o) (updM M p n) := ⟨Same.refl F, fun x h1 h2 h3 => by
  have hx : x ≠ p := fun z => h1 (by rw [z]; exact h)
  rw [upd_ne hx, updM_ne hx]
  exact ⟨rfl, h2, h3⟩⟩
theorem Grow.write {o : HO} {n n0 : N} (h : M p = some n0) : Grow F H M F (upd H p o) (updM M p n) := ⟨Same.refl F, fun x h1 h2 h3 => by
  have hx : x ≠ p := fun z => by rw [z, h] at h3; cases h3
  rw [upd_ne hx, updM_ne hx]
  exact ⟨rfl, h2, h3⟩⟩
end

/-! ### readings over data -/
abbrev Rho := List (Option D)
structure Slots (K : PySem.W.Frag) (F : Hp) (σ : L2.St) (ρ : Rho) : Prop where
  len : σ.length = ρ.length
  at_ : ∀ (i : Nat) (d : D), ρ[i]? = some (some d) → ∃ v, σ[i]? = some (some v) ∧ Is K F v d
section
variable {K : PySem.W.Frag} {F F' : Hp} {σ : L2.St} {ρ : Rho} {v : V} {d : D}
theorem Slots.mono (S : Slots K F σ ρ) (s : Same F F') : Slots K F' σ ρ := ⟨S.len, fun i d e => by
  obtain ⟨v, h1, h2⟩ := S.at_ i d e
  exact ⟨v, h1, h2.mono s⟩⟩
theorem Slots.set (S : Slots K F σ ρ) (i : Nat) (h : Is K F v d) : Slots K F (σ.set i (some v)) (ρ.set i (some d)) := by
  refine ⟨by rw [List.length_set, List.length_set, S.len], fun j x e => ?_⟩
  by_cases hj : i = j
  · subst hj
    by_cases hl : i < ρ.length
    · rw [List.getElem?_set_self hl] at e
      cases e
      exact ⟨v, List.getElem?_set_self (by rw [S.len]; exact hl), h⟩
    · rw [List.getElem?_eq_none (by rw [List.length_set]; omega)] at e
      cases e
  · rw [List.getElem?_set_ne hj] at e
    rw [List.getElem?_set_ne hj]
    exact S.at_ j x e
theorem Slots.clear (S : Slots K F σ ρ) (i : Nat) : Slots K F (σ.set i none) (ρ.set i none) := by
  refine ⟨by rw [List.length_set, List.length_set, S.len], fun j x e => ?_⟩
  by_cases hj : i = j
  · subst hj
    by_cases hl : i < ρ.length
    · rw [List.getElem?_set_self hl] at e
      cases e
    · rw [List.getElem?_eq_none (by rw [List.length_set]; omega)] at e
      cases e
  · rw [List.getElem?_set_ne hj] at e
    rw [List.getElem?_set_ne hj]
    exact S.at_ j x e
def wipeD (ρ : Rho) : List Nat → Rho
  | [] => ρ
  | v :: vs => (wipeD ρ vs).set v none
theorem Slots.wipe (S : Slots K F σ ρ) : ∀ vs : List Nat, Slots K F (L2.wipe σ vs) (wipeD ρ vs)
  | [] => S
  | v :: vs => (S.wipe vs).clear v
end

abbrev Takes (X : Cx) (W : WX) : Prop := L2N.Takes X W
theorem takes0 {X : Cx} : Takes X (fun _ _ _ _ => False) := fun _ _ x => by
  obtain ⟨_, _, _, _, _, _, _, _, _, _, _, _, _, _, _, _, z⟩ := x
  exact z.elim
theorem passLN {X : Cx} : Passes (L2N.CX X.prog X.w) X E0 := fun _ _ _ _ _ _ _ h => by
  obtain ⟨_, _, _, _, _, _, _, _, _, _, _, _, z⟩ := h
  exact z.elim
abbrev XEx := Addr → D → Mem → Prop
abbrev WE := (D → Mem → Prop) → XEx → Rho → Mem → Prop
abbrev WT := (Bool → Mem → Prop) → XEx → Rho → Mem → Prop
abbrev WA := (List D → Mem → Prop) → XEx → Rho → Mem → Prop
structure Posts where
  nx : Rho → Mem → Prop
  rt : D → Mem → Prop
  bk : Rho → Mem → Prop := fun _ _ => False
  ct : Rho → Mem → Prop := fun _ _ => False
  ex : Addr → D → Rho → Mem → Prop := fun _ _ _ _ => False
abbrev WS := Posts → Rho → Mem → Prop
def ED (K : PySem.W.Frag) (W : WX) (te : TE) (we : WE) : Prop :=
  ∀ (F H : Hp) (σ : L2.St) (ρ : Rho) (M : Mem), Lay K F H M → Slots K F σ ρ → ∀ (Q : D → Mem → Prop) (E : XEx), we Q E ρ M → ∀ QV : VK,
    (∀ v d F' H' M', Grow F H M F' H' M' → Lay K F' H' M' → Is K F' v d → Q d M' → QV v H') →
    (∀ C dx v d F' H' M', Grow F H M F' H' M' → Lay K F' H' M' → F' dx = some (.xd [(("at" : Str), v)]) → Is K F' v d → E C d M' → W (.ref C) (some dx) σ H') → te σ H QV
def TD (K : PySem.W.Frag) (W : WX) (tt : TT) (wt : WT) : Prop :=
  ∀ (F H : Hp) (σ : L2.St) (ρ : Rho) (M : Mem), Lay K F H M → Slots K F σ ρ → ∀ (Q : Bool → Mem → Prop) (E : XEx), wt Q E ρ M → ∀ QV : Bool → Hp → Prop,
    (∀ b F' H' M', Grow F H M F' H' M' → Lay K F' H' M' → Q b M' → QV b H') →
    (∀ C dx v d F' H' M', Grow F H M F' H' M' → Lay K F' H' M' → F' dx = some (.xd [(("at" : Str), v)]) → Is K F' v d → E C d M' → W (.ref C) (some dx) σ H') → tt σ H QV
def AD (K : PySem.W.Frag) (W : WX) (ta : TA) (wa : WA) : Prop :=
  ∀ (F H : Hp) (σ : L2.St) (ρ : Rho) (M : Mem), Lay K F H M → Slots K F σ ρ → ∀ (Q : List D → Mem → Prop) (E : XEx), wa Q E ρ M → ∀ QV : List V → Hp → Prop,
    (∀ vs ds F' H' M', Grow F H M F' H' M' → Lay K F' H' M' → IsA K F' vs ds → Q ds M' → QV vs H') →
    (∀ C dx v d F' H' M', Grow F H M F' H' M' → Lay K F' H' M' → F' dx = some (.xd [(("at" : Str), v)]) → Is K F' v d → E C d M' → W (.ref C) (some dx) σ H') → ta σ H QV
def SD (K : PySem.W.Frag) (W : WX) (ts : TS) (ws : WS) : Prop :=
  ∀ (F H : Hp) (σ : L2.St) (ρ : Rho) (M : Mem), Lay K F H M → Slots K F σ ρ → ∀ P : Posts, ws P ρ M → ∀ E : Ends,
    (∀ F' H' σ' ρ' M', Grow F H M F' H' M' → Lay K F' H' M' → Slots K F' σ' ρ' → P.nx ρ' M' → E.nx σ' H') →
    (∀ v d F' H' M', Grow F H M F' H' M' → Lay K F' H' M' → Is K F' v d → P.rt d M' → E.rt v H') →
    (∀ F' H' σ' ρ' M', Grow F H M F' H' M' → Lay K F' H' M' → Slots K F' σ' ρ' → P.bk ρ' M' → E.bk σ' H') →
    (∀ F' H' σ' ρ' M', Grow F H M F' H' M' → Lay K F' H' M' → Slots K F' σ' ρ' → P.ct ρ' M' → E.ct σ' H') →
    (∀ C dx v d F' H' σ' ρ' M', Grow F H M F' H' M' → Lay K F' H' M' → Slots K F' σ' ρ' → F' dx = some (.xd [(("at" : Str), v)]) → Is K F' v d → P.ex C d ρ' M' → W (.ref C) (some dx) σ' H') → ts E σ H

/-! ### contexts -/
/-- what varies of a context -/
structure Md where
  A : Around
  s_0 : Shared
  H_0 : Hp
  env : Env
  outer : List Env
  stack : List Env
  ex : List Addr
  fn : Str → Bool
  calm : Bool
  pin : List (Addr × Obj) := []
abbrev mdX (X : Cx) (m : Md) (pn : List (Addr × Obj)) (xe : Value → Shared → Prop) : Cx :=
  { X with A := m.A, s_0 := m.s_0, H_0 := m.H_0, env := m.env, outer := m.outer, stack := m.stack, ex := m.ex, fn := m.fn, calm := m.calm, pn := m.pin ++ pn, xe := xe }
abbrev mdOf (X : Cx) : Md := ⟨X.A, X.s_0, X.H_0, X.env, X.outer, X.stack, X.ex, X.fn, X.calm, []⟩

section
variable (X : Cx) {ι : Type} (m : ι → Md)
def CE (e : Expr) (we : WE) : Prop := ∃ te : WX → TE, (∀ i pn xe W, Takes (mdX X (m i) pn xe) W → PE (mdX X (m i) pn xe) e (te W)) ∧ ∀ W, ED X.K W (te W) we
def CT (e : Expr) (wt : WT) : Prop := ∃ tt : WX → TT, (∀ i pn xe W, Takes (mdX X (m i) pn xe) W → PT (mdX X (m i) pn xe) e (tt W)) ∧ ∀ W, TD X.K W (tt W) wt
def CW (e : Expr) (wt : WT) : Prop := ∃ tt : WX → TT, (∀ i pn xe W, Takes (mdX X (m i) pn xe) W → PW (mdX X (m i) pn xe) e (tt W)) ∧ ∀ W, TD X.K W (tt W) wt
def CA (es : List Expr) (wa : WA) : Prop := ∃ ta : WX → TA, (∀ i pn xe W, Takes (mdX X (m i) pn xe) W → PA (mdX X (m i) pn xe) es (ta W)) ∧ ∀ W, AD X.K W (ta W) wa
def CS (st : Stmt) (ws : WS) : Prop := ∃ ts : WX → TS, (∀ i pn xe W, Takes (mdX X (m i) pn xe) W → PassesOwn (model X.prog X.w) (m i).A (m i).env xe → PS (mdX X (m i) pn xe) st (ts W)) ∧ ∀ W, SD X.K W (ts W) ws
def CB (st : List Stmt) (ws : WS) : Prop := ∃ ts : WX → TS, (∀ i pn xe W, Takes (mdX X (m i) pn xe) W → PassesOwn (model X.prog X.w) (m i).A (m i).env xe → PSs (mdX X (m i) pn xe) st (ts W)) ∧ ∀ W, SD X.K W (ts W) ws
end
end Dl

set_option Elab.async false
set_option linter.all false
set_option maxRecDepth 100000
set_option maxHeartbeats 4000000
/-! the rules for expressions, tests, arguments, calls -/
namespace Dl
open PySem PySem.Spec PyProof.Rows L2
section
variable {X : Cx} {ι : Type} {m : ι → Md} {K : PySem.W.Frag} {W : WX}

/-! names, constants -/
def wVar (i : Nat) : WE := fun Q _ ρ M => ∃ d, ρ[i]? = some (some d) ∧ Q d M
def wC (d : D) : WE := fun Q _ _ M => Q d M
theorem ed_var {i : Nat} : ED K W (tVar i) (wVar i) := fun F H σ ρ M L S Q E h QV hq hx => by
  obtain ⟨d, e, q⟩ := h
  obtain ⟨v, e1, r⟩ := S.at_ i d e
  exact ⟨v, e1, hq v d F H M .refl L r q⟩
theorem ed_c {v : V} {d : D} (r : ∀ F, Is K F v d) : ED K W (tC v) (wC d) := fun F H σ ρ M L S Q E h QV hq hx => hq v d F H M .refl L (r F) h
theorem ce_var (i : Nat) {x : Str} {pos : Pos} (hN : X.N[i]? = some x := by rfl) (hv : ∀ j, Vis (m j).env.scope x := by intro _; first | exact Or.inl rfl | exact Or.inr (Or.inl rfl) | exact Or.inr (Or.inr rfl))
    (hd : (x == ("__debug__" : Str)) = false := by decide) (hcd : (x == ("__classdict__" : Str)) = false := by decide) : CE X m (.Name x pos) (wVar i) :=
  ⟨fun _ => tVar i, fun j pn xe W tk => pe_var hN (hv j) hd hcd, fun W => ed_var⟩
theorem ce_int {i : Int} {j : Nat} {pos : Pos} : CE X m (.Constant (.int i) j pos) (wC (.int i)) := ⟨fun _ => tC (.int i), fun _ _ _ _ _ => pe_int, fun _ => ed_c fun _ => .int i⟩
theorem ce_bl {b : Bool} {j : Nat} {pos : Pos} : CE X m (.Constant (.bool b) j pos) (wC (.bl b)) := ⟨fun _ => tC (.bl b), fun _ _ _ _ _ => pe_bl, fun _ => ed_c fun _ => .bl b⟩
theorem ce_non {j : Nat} {pos : Pos} : CE X m (.Constant .none j pos) (wC .non) := ⟨fun _ => tC .non, fun _ _ _ _ _ => pe_non, fun _ => ed_c fun _ => .non⟩
theorem ce_str {x : Str} {j : Nat} {pos : Pos} : CE X m (.Constant (.str x) j pos) (wC (.str x)) := ⟨fun _ => tC (.str x), fun _ _ _ _ _ => pe_str, fun _ => ed_c fun _ => .str x⟩
/-- a module's constant, a class, a function as a value -/
theorem ce_glob {x : Str} {v : V} {u : Value} {d : D} {pos : Pos} (hg : ∀ j, (m j).env.kindOf x = some .globalImplicit) (hm : X.mg x = some u) (r : RelV v u) (rd : ∀ F, Is X.K F v d) (hd : (x == ("__debug__" : Str)) = false := by decide) : CE X m (.Name x pos) (wC d) :=
  ⟨fun _ => tC v, fun j _ _ _ _ => pe_glob (hg j) hm r hd, fun _ => ed_c rd⟩
theorem ce_bltn {x : Str} {n : String} {pos : Pos} (hg : ∀ j, (m j).env.kindOf x = some .globalImplicit) (hm : X.mg x = none) (hv : bootBuiltins x = some (.type n)) (hn : x ≠ "__name__" := by decide) (hd : (x == ("__debug__" : Str)) = false := by decide) : CE X m (.Name x pos) (wC (.ty n)) :=
  ⟨fun _ => tC (.ty n), fun j _ _ _ _ => pe_bltn (hg j) hm hv rfl hn hd, fun _ => ed_c fun _ => .ty n⟩

/-! two-place operations -/
def wOp (f : D → D → Mem → Option D) (wa wb : WE) : WE := fun Q E ρ M => wa (fun x M1 => wb (fun y M2 => ∃ z, f x y M2 = some z ∧ Q z M2) E ρ M1) E ρ M
def Lk2 (K : PySem.W.Frag) (r : R2) (f : D → D → Mem → Option D) : Prop :=
  ∀ x y dx dy dz F H M, Lay K F H M → Is K F x dx → Is K F y dy → f dx dy M = some dz → ∀ Q : VK, (∀ v F' H', Grow F H M F' H' M → Lay K F' H' M → Is K F' v dz → Q v H') → r x y H Q
theorem ed_op {r : R2} {f : D → D → Mem → Option D} {ta tb : TE} {wa wb : WE} (lk : Lk2 K r f) (ha : ED K W ta wa) (hb : ED K W tb wb) : ED K W (tOp r ta tb) (wOp f wa wb) := fun F H σ ρ M L S Q E h QV hq hx => by
  refine ha F H σ ρ M L S _ E h _ (fun x dx F1 H1 M1 g1 L1 i1 q1 => ?_) hx
  refine hb F1 H1 σ ρ M1 L1 (S.mono g1.same) _ E q1 _ (fun y dy F2 H2 M2 g2 L2 i2 q2 => ?_) (fun C dx v d F' H' M' g L' e r q => hx C dx v d F' H' M' (g1.trans g) L' e r q)
  obtain ⟨z, fz, q⟩ := q2
  exact lk x y dx dy z F2 H2 M2 L2 (i1.mono g2.same) i2 fz _ fun v F3 H3 g3 L3 i3 => hq v z F3 H3 M2 (g1.trans (g2.trans g3)) L3 i3 q
theorem ce_op {op : Operator} {r : R2} {f : D → D → Mem → Option D} {a b : Expr} {pos : Pos} {wa wb : WE} (ho : ∀ i pn xe, OpR (mdX X (m i) pn xe) (binaryOp op) r) (lk : Lk2 X.K r f) (ha : CE X m a wa) (hb : CE X m b wb) : CE X m (.BinOp a op b pos) (wOp f wa wb) := by
  obtain ⟨ta, pa, da⟩ := ha
  obtain ⟨tb, pb, db⟩ := hb
  exact ⟨fun W => tOp r (ta W) (tb W), fun i pn xe W tk => pe_op (ho i pn xe) (pa i pn xe W tk) (pb i pn xe W tk), fun W => ed_op lk (da W) (db W)⟩
theorem ce_cmp {op : CmpOp} {r : R2} {f : D → D → Mem → Option D} {a b : Expr} {pos : Pos} {wa wb : WE} (ho : ∀ i pn xe, OpR (mdX X (m i) pn xe) (compareOp op) r) (lk : Lk2 X.K r f) (ha : CE X m a wa) (hb : CE X m b wb) (hm : behindInMarks op b = false) : CE X m (.Compare a [op] [b] pos) (wOp f wa wb) := by
  obtain ⟨ta, pa, da⟩ := ha
  obtain ⟨tb, pb, db⟩ := hb
  exact ⟨fun W => tOp r (ta W) (tb W), fun i pn xe W tk => pe_cmpR (ho i pn xe) (pa i pn xe W tk) (pb i pn xe W tk) hm, fun W => ed_op lk (da W) (db W)⟩
def wTest (w : WE) : WT := fun Q E ρ M => w (fun d M1 => ∃ b, d = .bl b ∧ Q b M1) E ρ M
theorem td_test {te : TE} {we : WE} (h : ED K W te we) : TD K W (tTest te) (wTest we) := fun F H σ ρ M L S Q E h' QV hq hx => by
  refine h F H σ ρ M L S _ E h' _ (fun v d F1 H1 M1 g1 L1 i1 q1 => ?_) hx
  obtain ⟨b, rfl, q⟩ := q1
  cases i1
  exact ⟨b, rfl, hq b F1 H1 M1 g1 L1 q⟩
theorem ct_cmp {op : CmpOp} {r : R2} {f : D → D → Mem → Option D} {a b : Expr} {pos : Pos} {wa wb : WE} (ho : ∀ i pn xe, OpR (mdX X (m i) pn xe) (compareOp op) r) (lk : Lk2 X.K r f) (ha : CE X m a wa) (hb : CE X m b wb) (hm : behindInMarks op b = false) : CT X m (.Compare a [op] [b] pos) (wTest (wOp f wa wb)) := by
  obtain ⟨ta, pa, da⟩ := ha
  obtain ⟨tb, pb, db⟩ := hb
  exact ⟨fun W => tTest (tOp r (ta W) (tb W)), fun i pn xe W tk => pt_cmpR (ho i pn xe) (pa i pn xe W tk) (pb i pn xe W tk) hm, fun W => td_test (ed_op lk (da W) (db W))⟩
/-- an expression whose value is a bool -/
theorem ct_val {e : Expr} {we : WE} (h : CE X m e we) (he : ∀ (i : ι) whole, isTrue e (m i).env whole = (do let v ← whole; standAt e.pos; holding [v] (truthy v)) := by intro _ _; rfl) : CT X m e (wTest we) := by
  obtain ⟨te, pe, de⟩ := h
  exact ⟨fun W => tTest (te W), fun i pn xe W tk => pt_val (pe i pn xe W tk) (he i), fun W => td_test (de W)⟩
/-- a op b op' c -/
def wChain (f g : D → D → Mem → Option D) (wa wb wc : WE) : WE := fun Q E ρ M => wa (fun x M1 => wb (fun y M2 => ∃ k, f x y M2 = some (.bl k) ∧
  (if k = true then wc (fun z M3 => ∃ u, g y z M3 = some u ∧ Q u M3) E ρ M2 else Q (.bl false) M2)) E ρ M1) E ρ M
theorem ed_chain {r r' : R2} {f g : D → D → Mem → Option D} {ta tb tc : TE} {wa wb wc : WE} (lk : Lk2 K r f) (lk' : Lk2 K r' g) (ha : ED K W ta wa) (hb : ED K W tb wb) (hc : ED K W tc wc) : ED K W (tChain r r' ta tb tc) (wChain f g wa wb wc) := fun F H σ ρ M L S Q E h QV hq hx => by
  refine ha F H σ ρ M L S _ E h _ (fun x dx F1 H1 M1 g1 L1 i1 q1 => ?_) hx
  refine hb F1 H1 σ ρ M1 L1 (S.mono g1.same) _ E q1 _ (fun y dy F2 H2 M2 g2 L2 i2 q2 => ?_) (fun C dx v d F' H' M' g L' e r q => hx C dx v d F' H' M' (g1.trans g) L' e r q)
  obtain ⟨k, fz, q⟩ := q2
  refine lk x y dx dy (.bl k) F2 H2 M2 L2 (i1.mono g2.same) i2 fz _ fun v F3 H3 g3 L3 i3 => ?_
  cases i3
  refine ⟨k, rfl, ?_⟩
  cases k with
  | false =>
    rw [if_neg Bool.false_ne_true] at q ⊢
    exact hq _ _ F3 H3 M2 (g1.trans (g2.trans g3)) L3 (.bl false) q
  | true =>
    rw [if_pos rfl] at q ⊢
    refine hc F3 H3 σ ρ M2 L3 (S.mono (g1.same.trans (g2.same.trans g3.same))) _ E q _ (fun z dz F4 H4 M4 g4 L4 i4 q4 => ?_) (fun C dx v d F' H' M' g L' e r q => hx C dx v d F' H' M' (g1.trans (g2.trans (g3.trans g))) L' e r q)
    obtain ⟨u, fu, q5⟩ := q4
    exact lk' y z dy dz u F4 H4 M4 L4 (i2.mono (g3.same.trans g4.same)) i4 fu _ fun v F5 H5 g5 L5 i5 => hq v u F5 H5 M4 (g1.trans (g2.trans (g3.trans (g4.trans g5)))) L5 i5 q5
theorem ce_chain {op op' : CmpOp} {r r' : R2} {f g : D → D → Mem → Option D} {a b c : Expr} {pos : Pos} {wa wb wc : WE} (ho : ∀ i pn xe, OpR (mdX X (m i) pn xe) (compareOp op) r) (ho' : ∀ i pn xe, OpR (mdX X (m i) pn xe) (compareOp op') r') (lk : Lk2 X.K r f) (lk' : Lk2 X.K r' g)
    (ha : CE X m a wa) (hb : CE X m b wb) (hc : CE X m c wc) (hm : lastMarks [op, op'] [b, c] = false := by with_unfolding_all rfl) : CE X m (.Compare a [op, op'] [b, c] pos) (wChain f g wa wb wc) := by
  obtain ⟨ta, pa, da⟩ := ha
  obtain ⟨tb, pb, db⟩ := hb
  obtain ⟨tc, pc, dc⟩ := hc
  exact ⟨fun W => tChain r r' (ta W) (tb W) (tc W), fun i pn xe W tk => pe_chain (ho i pn xe) (ho' i pn xe) (pa i pn xe W tk) (pb i pn xe W tk) (pc i pn xe W tk) hm, fun W => ed_chain lk lk' (da W) (db W) (dc W)⟩
theorem ct_chain {op op' : CmpOp} {r r' : R2} {f g : D → D → Mem → Option D} {a b c : Expr} {pos : Pos} {wa wb wc : WE} (ho : ∀ i pn xe, OpR (mdX X (m i) pn xe) (compareOp op) r) (ho' : ∀ i pn xe, OpR (mdX X (m i) pn xe) (compareOp op') r') (lk : Lk2 X.K r f) (lk' : Lk2 X.K r' g)
    (ha : CE X m a wa) (hb : CE X m b wb) (hc : CE X m c wc) (hm : lastMarks [op, op'] [b, c] = false := by with_unfolding_all rfl) : CT X m (.Compare a [op, op'] [b, c] pos) (wTest (wChain f g wa wb wc)) := by
  obtain ⟨ta, pa, da⟩ := ha
  obtain ⟨tb, pb, db⟩ := hb
  obtain ⟨tc, pc, dc⟩ := hc
  exact ⟨fun W => tTest (tChain r r' (ta W) (tb W) (tc W)), fun i pn xe W tk => pt_chain (ho i pn xe) (ho' i pn xe) (pa i pn xe W tk) (pb i pn xe W tk) (pc i pn xe W tk) hm, fun W => td_test (ed_chain lk lk' (da W) (db W) (dc W))⟩

/-! one-place operations -/
def wUn (f : D → Mem → Option D) (wa : WE) : WE := fun Q E ρ M => wa (fun x M1 => ∃ z, f x M1 = some z ∧ Q z M1) E ρ M
def Lk1 (K : PySem.W.Frag) (r : V → Hp → VK → Prop) (f : D → Mem → Option D) : Prop :=
  ∀ x dx dz F H M, Lay K F H M → Is K F x dx → f dx M = some dz → ∀ Q : VK, (∀ v F' H', Grow F H M F' H' M → Lay K F' H' M → Is K F' v dz → Q v H') → r x H Q
theorem ed_un {r : V → Hp → VK → Prop} {f : D → Mem → Option D} {ta : TE} {wa : WE} (lk : Lk1 K r f) (ha : ED K W ta wa) : ED K W (tUn r ta) (wUn f wa) := fun F H σ ρ M L S Q E h QV hq hx => by
  refine ha F H σ ρ M L S _ E h _ (fun x dx F1 H1 M1 g1 L1 i1 q1 => ?_) hx
  obtain ⟨z, fz, q⟩ := q1
  exact lk x dx z F1 H1 M1 L1 i1 fz _ fun v F3 H3 g3 L3 i3 => hq v z F3 H3 M1 (g1.trans g3) L3 i3 q
theorem ce_un {op : UnaryOp} {r : V → Hp → VK → Prop} {f : D → Mem → Option D} {a : Expr} {pos : Pos} {wa : WE} (ho : ∀ i pn xe, UnR (mdX X (m i) pn xe) (unaryOp op) r) (lk : Lk1 X.K r f) (ha : CE X m a wa) : CE X m (.UnaryOp op a pos) (wUn f wa) := by
  obtain ⟨ta, pa, da⟩ := ha
  exact ⟨fun W => tUn r (ta W), fun i pn xe W tk => pe_un (ho i pn xe) (pa i pn xe W tk), fun W => ed_un lk (da W)⟩

/-! and, or, not, if else -/
def wAnd (a b : WT) : WT := fun Q E ρ M => a (fun c M1 => if c = true then b Q E ρ M1 else Q false M1) E ρ M
def wOr (a b : WT) : WT := fun Q E ρ M => a (fun c M1 => if c = true then Q true M1 else b Q E ρ M1) E ρ M
def wNot (a : WT) : WT := fun Q E ρ M => a (fun c M1 => Q (!c) M1) E ρ M
theorem td_and {t u : TT} {a b : WT} (ha : TD K W t a) (hb : TD K W u b) : TD K W (tAnd t u) (wAnd a b) := fun F H σ ρ M L S Q E h QV hq hx => by
  refine ha F H σ ρ M L S _ E h _ (fun c F1 H1 M1 g1 L1 q1 => ?_) hx
  cases c with
  | false =>
    rw [if_neg Bool.false_ne_true] at q1 ⊢
    exact hq _ F1 H1 M1 g1 L1 q1
  | true =>
    rw [if_pos rfl] at q1 ⊢
    exact hb F1 H1 σ ρ M1 L1 (S.mono g1.same) _ E q1 _ (fun b F' H' M' g L' q => hq b F' H' M' (g1.trans g) L' q) (fun C dx v d F' H' M' g L' e r q => hx C dx v d F' H' M' (g1.trans g) L' e r q)
theorem td_or {t u : TT} {a b : WT} (ha : TD K W t a) (hb : TD K W u b) : TD K W (tOr t u) (wOr a b) := fun F H σ ρ M L S Q E h QV hq hx => by
  refine ha F H σ ρ M L S _ E h _ (fun c F1 H1 M1 g1 L1 q1 => ?_) hx
  cases c with
  | true =>
    rw [if_pos rfl] at q1 ⊢
    exact hq _ F1 H1 M1 g1 L1 q1
  | false =>
    rw [if_neg Bool.false_ne_true] at q1 ⊢
    exact hb F1 H1 σ ρ M1 L1 (S.mono g1.same) _ E q1 _ (fun b F' H' M' g L' q => hq b F' H' M' (g1.trans g) L' q) (fun C dx v d F' H' M' g L' e r q => hx C dx v d F' H' M' (g1.trans g) L' e r q)
theorem td_not {t : TT} {a : WT} (ha : TD K W t a) : TD K W (tNot t) (wNot a) := fun F H σ ρ M L S Q E h QV hq hx =>
  ha F H σ ρ M L S _ E h _ (fun c F1 H1 M1 g1 L1 q1 => hq _ F1 H1 M1 g1 L1 q1) hx
theorem cw_and1 {a : Expr} {pos : Pos} {wa : WT} (ha : CT X m a wa) : CW X m (.BoolOp .And [a] pos) wa := by
  obtain ⟨ta, pa, da⟩ := ha
  exact ⟨ta, fun i pn xe W tk => pw_and1 (pa i pn xe W tk), da⟩
theorem cw_or1 {a : Expr} {pos : Pos} {wa : WT} (ha : CT X m a wa) : CW X m (.BoolOp .Or [a] pos) wa := by
  obtain ⟨ta, pa, da⟩ := ha
  exact ⟨ta, fun i pn xe W tk => pw_or1 (pa i pn xe W tk), da⟩
theorem cw_and {a b : Expr} {rest : List Expr} {pos : Pos} {wa wb : WT} (ha : CT X m a wa) (hb : CW X m (.BoolOp .And (b :: rest) pos) wb) : CW X m (.BoolOp .And (a :: b :: rest) pos) (wAnd wa wb) := by
  obtain ⟨ta, pa, da⟩ := ha
  obtain ⟨tb, pb, db⟩ := hb
  exact ⟨fun W => tAnd (ta W) (tb W), fun i pn xe W tk => pw_and (pa i pn xe W tk) (pb i pn xe W tk), fun W => td_and (da W) (db W)⟩
theorem cw_or {a b : Expr} {rest : List Expr} {pos : Pos} {wa wb : WT} (ha : CT X m a wa) (hb : CW X m (.BoolOp .Or (b :: rest) pos) wb) : CW X m (.BoolOp .Or (a :: b :: rest) pos) (wOr wa wb) := by
  obtain ⟨ta, pa, da⟩ := ha
  obtain ⟨tb, pb, db⟩ := hb
  exact ⟨fun W => tOr (ta W) (tb W), fun i pn xe W tk => pw_or (pa i pn xe W tk) (pb i pn xe W tk), fun W => td_or (da W) (db W)⟩
theorem ct_bool {e : Expr} {w : WT} (h : CW X m e w) : CT X m e w := by
  obtain ⟨ta, pa, da⟩ := h
  exact ⟨ta, fun i pn xe W tk => (pa i pn xe W tk).pt, da⟩
theorem ct_not {a : Expr} {pos : Pos} {wa : WT} (ha : CT X m a wa) : CT X m (.UnaryOp .Not a pos) (wNot wa) := by
  obtain ⟨ta, pa, da⟩ := ha
  exact ⟨fun W => tNot (ta W), fun i pn xe W tk => pt_not (pa i pn xe W tk), fun W => td_not (da W)⟩
def wAndV (a b : WE) : WE := fun Q E ρ M => a (fun x M1 => ∃ c, x = .bl c ∧ if c = true then b Q E ρ M1 else Q (.bl false) M1) E ρ M
def wOrV (a b : WE) : WE := fun Q E ρ M => a (fun x M1 => ∃ c, x = .bl c ∧ if c = true then Q (.bl true) M1 else b Q E ρ M1) E ρ M
def wNotV (a : WE) : WE := fun Q E ρ M => a (fun x M1 => ∃ c, x = .bl c ∧ Q (.bl (!c)) M1) E ρ M
theorem ed_and {t u : TE} {a b : WE} (ha : ED K W t a) (hb : ED K W u b) : ED K W (tAndV t u) (wAndV a b) := fun F H σ ρ M L S Q E h QV hq hx => by
  refine ha F H σ ρ M L S _ E h _ (fun x dx F1 H1 M1 g1 L1 i1 q1 => ?_) hx
  obtain ⟨c, rfl, q1⟩ := q1
  cases i1
  refine ⟨c, rfl, ?_⟩
  cases c with
  | false =>
    rw [if_neg Bool.false_ne_true] at q1 ⊢
    exact hq _ _ F1 H1 M1 g1 L1 (.bl false) q1
  | true =>
    rw [if_pos rfl] at q1 ⊢
    exact hb F1 H1 σ ρ M1 L1 (S.mono g1.same) _ E q1 _ (fun v b F' H' M' g L' r q => hq v b F' H' M' (g1.trans g) L' r q) (fun C dx v d F' H' M' g L' e r q => hx C dx v d F' H' M' (g1.trans g) L' e r q)
theorem ed_or {t u : TE} {a b : WE} (ha : ED K W t a) (hb : ED K W u b) : ED K W (tOrV t u) (wOrV a b) := fun F H σ ρ M L S Q E h QV hq hx => by
  refine ha F H σ ρ M L S _ E h _ (fun x dx F1 H1 M1 g1 L1 i1 q1 => ?_) hx
  obtain ⟨c, rfl, q1⟩ := q1
  cases i1
  refine ⟨c, rfl, ?_⟩
  cases c with
  | true =>
    rw [if_pos rfl] at q1 ⊢
    exact hq _ _ F1 H1 M1 g1 L1 (.bl true) q1
  | false =>
    rw [if_neg Bool.false_ne_true] at q1 ⊢
    exact hb F1 H1 σ ρ M1 L1 (S.mono g1.same) _ E q1 _ (fun v b F' H' M' g L' r q => hq v b F' H' M' (g1.trans g) L' r q) (fun C dx v d F' H' M' g L' e r q => hx C dx v d F' H' M' (g1.trans g) L' e r q)
theorem ed_not {t : TE} {a : WE} (ha : ED K W t a) : ED K W (tNotV t) (wNotV a) := fun F H σ ρ M L S Q E h QV hq hx => by
  refine ha F H σ ρ M L S _ E h _ (fun x dx F1 H1 M1 g1 L1 i1 q1 => ?_) hx
  obtain ⟨c, rfl, q1⟩ := q1
  cases i1
  exact ⟨c, rfl, hq _ _ F1 H1 M1 g1 L1 (.bl _) q1⟩
theorem ce_one {op : BoolOp} {a : Expr} {pos : Pos} {wa : WE} (ha : CE X m a wa) : CE X m (.BoolOp op [a] pos) wa := by
  obtain ⟨ta, pa, da⟩ := ha
  exact ⟨ta, fun i pn xe W tk => pe_one (pa i pn xe W tk), da⟩
theorem ce_and {a b : Expr} {rest : List Expr} {pos : Pos} {wa wb : WE} (ha : CE X m a wa) (hb : CE X m (.BoolOp .And (b :: rest) pos) wb) : CE X m (.BoolOp .And (a :: b :: rest) pos) (wAndV wa wb) := by
  obtain ⟨ta, pa, da⟩ := ha
  obtain ⟨tb, pb, db⟩ := hb
  exact ⟨fun W => tAndV (ta W) (tb W), fun i pn xe W tk => pe_and (pa i pn xe W tk) (pb i pn xe W tk), fun W => ed_and (da W) (db W)⟩
theorem ce_or {a b : Expr} {rest : List Expr} {pos : Pos} {wa wb : WE} (ha : CE X m a wa) (hb : CE X m (.BoolOp .Or (b :: rest) pos) wb) : CE X m (.BoolOp .Or (a :: b :: rest) pos) (wOrV wa wb) := by
  obtain ⟨ta, pa, da⟩ := ha
  obtain ⟨tb, pb, db⟩ := hb
  exact ⟨fun W => tOrV (ta W) (tb W), fun i pn xe W tk => pe_or (pa i pn xe W tk) (pb i pn xe W tk), fun W => ed_or (da W) (db W)⟩
theorem ce_not {a : Expr} {pos : Pos} {wa : WE} (ha : CE X m a wa) : CE X m (.UnaryOp .Not a pos) (wNotV wa) := by
  obtain ⟨ta, pa, da⟩ := ha
  exact ⟨fun W => tNotV (ta W), fun i pn xe W tk => pe_not (pa i pn xe W tk), fun W => ed_not (da W)⟩
def wIf (t : WT) (a b : WE) : WE := fun Q E ρ M => t (fun c M1 => if c = true then a Q E ρ M1 else b Q E ρ M1) E ρ M
theorem ed_if {t : TT} {ta tb : TE} {wt : WT} {a b : WE} (ht : TD K W t wt) (ha : ED K W ta a) (hb : ED K W tb b) : ED K W (tIf t ta tb) (wIf wt a b) := fun F H σ ρ M L S Q E h QV hq hx => by
  refine ht F H σ ρ M L S _ E h _ (fun c F1 H1 M1 g1 L1 q1 => ?_) hx
  cases c with
  | false =>
    rw [if_neg Bool.false_ne_true] at q1 ⊢
    exact hb F1 H1 σ ρ M1 L1 (S.mono g1.same) _ E q1 _ (fun v b F' H' M' g L' r q => hq v b F' H' M' (g1.trans g) L' r q) (fun C dx v d F' H' M' g L' e r q => hx C dx v d F' H' M' (g1.trans g) L' e r q)
  | true =>
    rw [if_pos rfl] at q1 ⊢
    exact ha F1 H1 σ ρ M1 L1 (S.mono g1.same) _ E q1 _ (fun v b F' H' M' g L' r q => hq v b F' H' M' (g1.trans g) L' r q) (fun C dx v d F' H' M' g L' e r q => hx C dx v d F' H' M' (g1.trans g) L' e r q)
theorem ce_if {c a b : Expr} {pos : Pos} {wt : WT} {wa wb : WE} (hc : CT X m c wt) (ha : CE X m a wa) (hb : CE X m b wb) : CE X m (.IfExp c a b pos) (wIf wt wa wb) := by
  obtain ⟨tc, pc, dc⟩ := hc
  obtain ⟨ta, pa, da⟩ := ha
  obtain ⟨tb, pb, db⟩ := hb
  exact ⟨fun W => tIf (tc W) (ta W) (tb W), fun i pn xe W tk => pe_ifExp (pc i pn xe W tk) (pa i pn xe W tk) (pb i pn xe W tk), fun W => ed_if (dc W) (da W) (db W)⟩

/-! arguments, displays -/
def wNil : WA := fun Q _ _ M => Q [] M
def wCons (wa : WE) (wr : WA) : WA := fun Q E ρ M => wa (fun x M1 => wr (fun xs M2 => Q (x :: xs) M2) E ρ M1) E ρ M
theorem ad_nil : AD K W tNil wNil := fun F H σ ρ M L S Q E h QV hq hx => hq [] [] F H M .refl L .nil h
theorem ad_cons {te : TE} {ta : TA} {we : WE} {wa : WA} (he : ED K W te we) (ha : AD K W ta wa) : AD K W (tCons te ta) (wCons we wa) := fun F H σ ρ M L S Q E h QV hq hx => by
  refine he F H σ ρ M L S _ E h _ (fun x dx F1 H1 M1 g1 L1 i1 q1 => ?_) hx
  exact ha F1 H1 σ ρ M1 L1 (S.mono g1.same) _ E q1 _ (fun vs ds F' H' M' g L' r q => hq (x :: vs) (dx :: ds) F' H' M' (g1.trans g) L' (.cons (i1.mono g.same) r) q) (fun C dx v d F' H' M' g L' e r q => hx C dx v d F' H' M' (g1.trans g) L' e r q)
theorem ca_nil : CA X m [] wNil := ⟨fun _ => tNil, fun _ _ _ _ _ => pa_nil, fun _ => ad_nil⟩
theorem ca_cons {e : Expr} {es : List Expr} {we : WE} {wa : WA} (he : CE X m e we) (ha : CA X m es wa) (hs : ∀ i, starEach (e :: es) (m i).env = (false, eval e (m i).env) :: starEach es (m i).env := by intro _; rfl) : CA X m (e :: es) (wCons we wa) := by
  obtain ⟨te, pe, de⟩ := he
  obtain ⟨ta, pa, da⟩ := ha
  exact ⟨fun W => tCons (te W) (ta W), fun i pn xe W tk => pa_cons (pe i pn xe W tk) (pa i pn xe W tk) (hs i), fun W => ad_cons (de W) (da W)⟩
def wTup (wa : WA) : WE := fun Q E ρ M => wa (fun ds M1 => ds.length ≤ sizeLine ∧ Q (.tup ds) M1) E ρ M
/-- a list that is never changed; one that may change -/
def wLst (wa : WA) : WE := fun Q E ρ M => wa (fun ds M1 => ds.length ≤ sizeLine ∧ Q (.lst ds) M1) E ρ M
def wLstM (wa : WA) : WE := fun Q E ρ M => wa (fun ds M1 => ds.length ≤ sizeLine ∧ ∀ p, M1 p = none → Q (.adr p) (updM M1 p (.lst ds))) E ρ M
theorem ed_tup {ta : TA} {wa : WA} (ha : AD K W ta wa) : ED K W (tTup ta) (wTup wa) := fun F H σ ρ M L S Q E h QV hq hx => by
  refine ha F H σ ρ M L S _ E h _ (fun vs ds F1 H1 M1 g1 L1 i1 q1 => ⟨by rw [i1.length]; exact q1.1, fun p hp => ?_⟩) hx
  have hf := L1.fnone hp
  exact hq _ _ (upd F1 p (.tup vs)) _ M1 (g1.trans (.frozen hf hp)) (L1.frozen _ hp) (.tup (.inl (.inl upd_same)) (i1.mono (Same.new hf))) q1.2
theorem ed_lst {ta : TA} {wa : WA} (ha : AD K W ta wa) : ED K W (tLst ta) (wLst wa) := fun F H σ ρ M L S Q E h QV hq hx => by
  refine ha F H σ ρ M L S _ E h _ (fun vs ds F1 H1 M1 g1 L1 i1 q1 => ⟨by rw [i1.length]; exact q1.1, fun p hp => ?_⟩) hx
  have hf := L1.fnone hp
  exact hq _ _ (upd F1 p (.lst vs)) _ M1 (g1.trans (.frozen hf hp)) (L1.frozen _ hp) (.lst upd_same (i1.mono (Same.new hf))) q1.2
theorem ed_lstM {ta : TA} {wa : WA} (ha : AD K W ta wa) : ED K W (tLst ta) (wLstM wa) := fun F H σ ρ M L S Q E h QV hq hx => by
  refine ha F H σ ρ M L S _ E h _ (fun vs ds F1 H1 M1 g1 L1 i1 q1 => ⟨by rw [i1.length]; exact q1.1, fun p hp => ?_⟩) hx
  exact hq _ _ F1 _ _ (g1.trans (.made (n := .lst ds) hp)) (L1.made (n := .lst ds) hp ⟨vs, upd_same, i1⟩) (.adr p) (q1.2 p (L1.mnone hp))
theorem ce_tup {es : List Expr} {k : Nat} {pos : Pos} {wa : WA} (ha : CA X m es wa) : CE X m (.Tuple es k pos) (wTup wa) := by
  obtain ⟨ta, pa, da⟩ := ha
  exact ⟨fun W => tTup (ta W), fun i pn xe W tk => pe_tup (pa i pn xe W tk), fun W => ed_tup (da W)⟩
theorem ce_lst {es : List Expr} {pos : Pos} {wa : WA} (ha : CA X m es wa) : CE X m (.List es pos) (wLst wa) := by
  obtain ⟨ta, pa, da⟩ := ha
  exact ⟨fun W => tLst (ta W), fun i pn xe W tk => pe_lst (pa i pn xe W tk), fun W => ed_lst (da W)⟩
theorem ce_lstM {es : List Expr} {pos : Pos} {wa : WA} (ha : CA X m es wa) : CE X m (.List es pos) (wLstM wa) := by
  obtain ⟨ta, pa, da⟩ := ha
  exact ⟨fun W => tLst (ta W), fun i pn xe W tk => pe_lst (pa i pn xe W tk), fun W => ed_lstM (da W)⟩

/-! subscripts -/
theorem ce_ix {r : R2} {f : D → D → Mem → Option D} {a b : Expr} {pos : Pos} {wa wb : WE} (hx : ∀ i pn xe, IxR (mdX X (m i) pn xe) r) (lk : Lk2 X.K r f) (ha : CE X m a wa) (hb : CE X m b wb) (hs : PlainIx b) : CE X m (.Subscript a b pos) (wOp f wa wb) := by
  obtain ⟨ta, pa, da⟩ := ha
  obtain ⟨tb, pb, db⟩ := hb
  exact ⟨fun W => tOp r (ta W) (tb W), fun i pn xe W tk => pe_ix (hx i pn xe) (pa i pn xe W tk) (pb i pn xe W tk) hs, fun W => ed_op lk (da W) (db W)⟩

/-! calls of built-ins with values -/
def wCB (f : List D → Mem → Option D) (wa : WA) : WE := fun Q E ρ M => wa (fun xs M1 => ∃ z, f xs M1 = some z ∧ Q z M1) E ρ M
def LkC (K : PySem.W.Frag) (r : List V → Hp → VK → Prop) (f : List D → Mem → Option D) : Prop :=
  ∀ vs ds dz F H M, Lay K F H M → IsA K F vs ds → f ds M = some dz → ∀ Q : VK, (∀ v F' H', Grow F H M F' H' M → Lay K F' H' M → Is K F' v dz → Q v H') → r vs H Q
theorem ed_cb {r : List V → Hp → VK → Prop} {f : List D → Mem → Option D} {ta : TA} {wa : WA} (lk : LkC K r f) (ha : AD K W ta wa) : ED K W (tCB r ta) (wCB f wa) := fun F H σ ρ M L S Q E h QV hq hx => by
  refine ha F H σ ρ M L S _ E h _ (fun vs ds F1 H1 M1 g1 L1 i1 q1 => ?_) hx
  obtain ⟨z, fz, q⟩ := q1
  exact lk vs ds z F1 H1 M1 L1 i1 fz _ fun v F3 H3 g3 L3 i3 => hq v z F3 H3 M1 (g1.trans g3) L3 i3 q
end
end Dl

set_option Elab.async false
set_option linter.all false
set_option maxRecDepth 100000
set_option maxHeartbeats 4000000
/-! calls, fields, methods, dicts -/
namespace Dl
open PySem PySem.Spec PyProof.Rows L2
section
variable {X : Cx} {ι : Type} {m : ι → Md} {K : PySem.W.Frag} {W : WX}

/-! built-in functions and types, called -/
theorem ce_callB {id : String} {r : List V → Hp → VK → Prop} {f : List D → Mem → Option D} {x : Str} {p pos : Pos} {e : Expr} {es : List Expr} {wa : WA} (hc : ∀ i pn xe, CallR (mdX X (m i) pn xe) (.builtin id) r) (lk : LkC X.K r f) (hm : X.mg x = none) (hv : bootBuiltins x = some (.builtin id)) (ha : CA X m (e :: es) wa)
    (hg : ∀ i, (m i).env.kindOf x = some .globalImplicit := by intro _; rfl) (hn : x ≠ "__name__" := by decide) (hdb : (x == ("__debug__" : Str)) = false := by decide)
    (he : ∀ i, starEach (e :: es) (m i).env = (false, eval e (m i).env) :: starEach es (m i).env := by intro _; rfl) (hpl : ∀ i, (backTo pos (starEach es (m i).env)).any (·.1) = false := by intro _; rfl) : CE X m (.Call (.Name x p) (e :: es) [] pos) (wCB f wa) := by
  obtain ⟨ta, pa, da⟩ := ha
  exact ⟨fun W => tCB r (ta W), fun i pn xe W tk => pe_callB (hc i pn xe) (hg i) hm hv (pa i pn xe W tk) hn hdb (he i) (hpl i), fun W => ed_cb lk (da W)⟩
theorem ce_callTy {T : String} {r : List V → Hp → VK → Prop} {f : List D → Mem → Option D} {x : Str} {p pos : Pos} {e : Expr} {es : List Expr} {wa : WA} (hc : ∀ i pn xe, CallR (mdX X (m i) pn xe) (.type T) r) (lk : LkC X.K r f) (hm : X.mg x = none) (hv : bootBuiltins x = some (.type T)) (ha : CA X m (e :: es) wa)
    (hg : ∀ i, (m i).env.kindOf x = some .globalImplicit := by intro _; rfl) (hn : x ≠ "__name__" := by decide) (hdb : (x == ("__debug__" : Str)) = false := by decide)
    (he : ∀ i, starEach (e :: es) (m i).env = (false, eval e (m i).env) :: starEach es (m i).env := by intro _; rfl) (hpl : ∀ i, (backTo pos (starEach es (m i).env)).any (·.1) = false := by intro _; rfl) : CE X m (.Call (.Name x p) (e :: es) [] pos) (wCB f wa) := by
  obtain ⟨ta, pa, da⟩ := ha
  exact ⟨fun W => tCB r (ta W), fun i pn xe W tk => pe_callTy (hc i pn xe) (hg i) hm hv (pa i pn xe W tk) hn hdb (he i) (hpl i), fun W => ed_cb lk (da W)⟩

/-! own defs -/
abbrev DSp := List D → Mem → (D → Mem → Prop) → XEx → Prop
def toSp (K : PySem.W.Frag) (s : DSp) : Sp := fun vs H QV EV => ∃ (F : Hp) (M : Mem) (ds : List D) (Q : D → Mem → Prop) (E : XEx), Lay K F H M ∧ IsA K F vs ds ∧ s ds M Q E ∧
  (∀ v d F' H' M', Grow F H M F' H' M' → Lay K F' H' M' → Is K F' v d → Q d M' → QV v H') ∧
  (∀ C dx v d F' H' M', Grow F H M F' H' M' → Lay K F' H' M' → F' dx = some (.xd [(("at" : Str), v)]) → Is K F' v d → E C d M' → EV (.ref C) (some dx) H')
abbrev FnD (P : Program) (w : World) (K : PySem.W.Frag) (mg : Str → Option Value) (base : Heap) (k : Nat) (f : Addr) (fd : FuncData) (ps : List Str) (s : DSp) : Prop := FnOk P w K mg base (L2N.CX P w) k f fd ps (toSp K s)
def wCall (s : DSp) (dds : List D) (wa : WA) : WE := fun Q E ρ M => wa (fun ds M1 => s (ds ++ dds) M1 Q E) E ρ M
theorem ed_call {s : DSp} {dvs : List V} {dds : List D} {ta : TA} {wa : WA} (hd : ∀ F, IsA K F dvs dds) (ha : AD K W ta wa) : ED K W (tCallSD (toSp K s) dvs (L2.WE W) ta) (wCall s dds wa) := fun F H σ ρ M L S Q E h QV hq hx => by
  refine ha F H σ ρ M L S _ E h _ (fun vs ds F1 H1 M1 g1 L1 i1 q1 => ?_) hx
  exact ⟨F1, M1, ds ++ dds, Q, E, L1, i1.append (hd F1), q1, fun v d F' H' M' g L' i q => hq v d F' H' M' (g1.trans g) L' i q, fun C dx v d F' H' M' g L' e r q => hx C dx v d F' H' M' (g1.trans g) L' e r q⟩
theorem ce_call {k : Nat} {f : Addr} {fd : FuncData} {ps : List Str} {s : DSp} {x : Str} {p pos : Pos} {e : Expr} {es : List Expr} {wa : WA} (F : FnD X.prog X.w X.K X.mg X.base k f fd ps s) (hr : ∀ i, Room k (m i).A) (hm : X.mg x = some (.ref f)) (hk : PySem.W.keepIn X.K (.ref f) = true) (hb : Binds X.K fd ps [])
    (ha : CA X m (e :: es) wa) (hg : ∀ i, (m i).env.kindOf x = some .globalImplicit := by intro _; rfl) (hdb : (x == ("__debug__" : Str)) = false := by decide)
    (he : ∀ i, starEach (e :: es) (m i).env = (false, eval e (m i).env) :: starEach es (m i).env := by intro _; rfl) (hpl : ∀ i, (backTo pos (starEach es (m i).env)).any (·.1) = false := by intro _; rfl) :
    CE X m (.Call (.Name x p) (e :: es) [] pos) (wCall s [] wa) := by
  obtain ⟨ta, pa, da⟩ := ha
  exact ⟨fun W => tCallSD (toSp X.K s) [] (L2.WE W) (ta W), fun i pn xe W tk => pe_callSD F (hr i) (hg i) hm hk hb .nil (fun σ => L2N.passAt tk σ) (pa i pn xe W tk) hdb (he i) (hpl i), fun W => ed_call (fun _ => .nil) (da W)⟩
/-- .. with defaults -/
theorem ce_callDf {k : Nat} {f : Addr} {fd : FuncData} {ps : List Str} {s : DSp} {dvs : List V} {dus : List Value} {dds : List D} {x : Str} {p pos : Pos} {e : Expr} {es : List Expr} {wa : WA} (F : FnD X.prog X.w X.K X.mg X.base k f fd ps s) (hr : ∀ i, Room k (m i).A) (hm : X.mg x = some (.ref f)) (hk : PySem.W.keepIn X.K (.ref f) = true) (hb : Binds X.K fd ps dus)
    (hd : Vals dvs dus) (hdd : ∀ F, IsA X.K F dvs dds) (ha : CA X m (e :: es) wa) (hg : ∀ i, (m i).env.kindOf x = some .globalImplicit := by intro _; rfl) (hdb : (x == ("__debug__" : Str)) = false := by decide)
    (he : ∀ i, starEach (e :: es) (m i).env = (false, eval e (m i).env) :: starEach es (m i).env := by intro _; rfl) (hpl : ∀ i, (backTo pos (starEach es (m i).env)).any (·.1) = false := by intro _; rfl) :
    CE X m (.Call (.Name x p) (e :: es) [] pos) (wCall s dds wa) := by
  obtain ⟨ta, pa, da⟩ := ha
  exact ⟨fun W => tCallSD (toSp X.K s) dvs (L2.WE W) (ta W), fun i pn xe W tk => pe_callSD F (hr i) (hg i) hm hk hb hd (fun σ => L2N.passAt tk σ) (pa i pn xe W tk) hdb (he i) (hpl i), fun W => ed_call hdd (da W)⟩
theorem FnD.imp {P : Program} {w : World} {mg : Str → Option Value} {base : Heap} {k : Nat} {f : Addr} {fd : FuncData} {ps : List Str} {s s' : DSp} (F : FnD P w K mg base k f fd ps s) (h : ∀ ds M Q E, s' ds M Q E → s ds M Q E) : FnD P w K mg base k f fd ps s' :=
  FnOk.imp F fun vs H Q E ⟨F1, M, ds, Q', E', L, i, hs, hq, hx⟩ => ⟨F1, M, ds, Q', E', L, i, h _ _ _ _ hs, hq, hx⟩

/-! methods of own classes -/
/-- o.m(..) of an instance of the class at C -/
def wMeth (C : Addr) (nm : Str) (s : DSp) (wo : WE) (wa : WA) : WE := fun Q E ρ M => wo (fun o M1 => ∃ a fs, o = .adr a ∧ M1 a = some (.ins C fs) ∧ fs.lookup nm = none ∧ wa (fun ds M2 => s (.adr a :: ds) M2 Q E) E ρ M1) E ρ M
def tMethS (C : Addr) (m : Str) (sp : Sp) (E : L2.St → XK) (ta : TE) (t : TA) : TE := fun σ H Q => ta σ H fun x H1 => ∃ a dx fs, x = .ref a ∧ H1 a = some (.ins C dx fs) ∧ fs.lookup m = none ∧
  t σ H1 fun vs H2 => sp (x :: vs) H2 Q (E σ)
theorem lookup_isK {F : Hp} {κ : Type} [BEq κ] [LawfulBEq κ] {f : κ} : ∀ {ws : List (κ × V)} {fs : List (κ × D)}, IsK K F ws fs → (fs.lookup f = none → ws.lookup f = none) ∧ ∀ d, fs.lookup f = some d → ∃ v, ws.lookup f = some v ∧ Is K F v d
  | _, _, .nil => ⟨fun _ => rfl, fun d h => by cases h⟩
  | (k, v) :: ws, (k', d) :: fs, .cons ⟨e, r⟩ t => by
    obtain ⟨i1, i2⟩ := lookup_isK (f := f) t
    have e : k = k' := e
    subst e
    refine ⟨fun h => ?_, fun d' h => ?_⟩
    · simp only [List.lookup] at h ⊢
      cases c : f == k with
      | true => rw [c] at h; cases h
      | false => rw [c] at h; exact i1 h
    · simp only [List.lookup] at h ⊢
      cases c : f == k with
      | true => rw [c] at h; cases h; exact ⟨v, rfl, r⟩
      | false => rw [c] at h; exact i2 d' h
theorem ed_meth {C : Addr} {nm : Str} {s : DSp} {to : TE} {ta : TA} {wo : WE} {wa : WA} (ho : ED K W to wo) (ha : AD K W ta wa) : ED K W (tMethS C nm (toSp K s) (L2.WE W) to ta) (wMeth C nm s wo wa) := fun F H σ ρ M L S Q E h QV hq hx => by
  refine ho F H σ ρ M L S _ E h _ (fun x o F1 H1 M1 g1 L1 i1 q1 => ?_) hx
  obtain ⟨a, fs, rfl, hm, hl, q1⟩ := q1
  cases i1
  obtain ⟨f0, dx, ws, ha1, r⟩ := L1.node a _ hm
  refine ⟨a, dx, ws, rfl, ha1, (lookup_isK (f := nm) r).1 hl, ?_⟩
  refine ha F1 H1 σ ρ M1 L1 (S.mono g1.same) _ E q1 _ (fun vs ds F2 H2 M2 g2 L2 i2 q2 => ?_) (fun C dx v d F' H' M' g L' e r q => hx C dx v d F' H' M' (g1.trans g) L' e r q)
  exact ⟨F2, M2, _, Q, E, L2, .cons (.adr a) i2, q2, fun v d F' H' M' g L' i q => hq v d F' H' M' (g1.trans (g2.trans g)) L' i q, fun C dx v d F' H' M' g L' e r q => hx C dx v d F' H' M' (g1.trans (g2.trans g)) L' e r q⟩
section
variable {Y : Cx} {CX : CXT} {k : Nat} {f C : Addr} {fd : FuncData} {ps : List Str} {sp : Sp} {E : L2.St → XK} {nm : Str} {pos apos : Pos} {o e : Expr} {es : List Expr} {to : TE} {t : TA}
theorem pe_methS {pl : Sem Bool} (he : PE Y o to) (c : Cls Y.K C) (hm : Meth Y.K C nm f) (F : FnOk Y.prog Y.w Y.K Y.mg Y.base CX k f fd ps sp) (hr : Room k Y.A) (hb : Binds Y.K fd ps []) (hx : ∀ σ, PassesAt CX Y σ (E σ)) (ha : PA Y (e :: es) t)
    (hst : starEach (e :: es) Y.env = (false, eval e Y.env) :: starEach es Y.env := by rfl) (hpl : (backTo pos (starEach es Y.env)).any (·.1) = false := by rfl)
    (ht : eval (.Call (.Attribute o nm apos) (e :: es) [] pos) Y.env = (do
      let ov ← eval o Y.env
      standAt apos.atName
      let (f, first) ← holding [ov] (getMethod ov nm pl)
      callWith pos f first (backTo pos (starEach (e :: es) Y.env)) (backToKw pos (keywordEach [] Y.env))) := by rfl) :
    PE Y (.Call (.Attribute o nm apos) (e :: es) [] pos) (tMethS C nm sp E to t) := by
  refine ⟨fun pins s σ H Q I h => ?_⟩
  refine PySem.W.methodCall_KW (pl := pl) (thn (he.run pins s σ H _ I h) fun u s1 ⟨x, H1, I1, rx, a, dx, fs, ex, ea, l, q⟩ => ?_) ht
  subst ex
  obtain rfl : u = Value.ref a := rx
  refine getmeth_ok I1 ea c hm l ?_
  refine PySem.W.callWith_K (first := [.ref a]) (h₀ := Y.base) I.ok.mod.kin hm.kp (thn (ha.run pos pins s1 σ H1 _ I1 q) fun us s2 ⟨vs, H2, I2, r, q2⟩ => ⟨I2.kIn, ?_⟩) hst hpl
  exact run_fnS (us := .ref a :: us) (vs := .ref a :: vs) F hr hb (hx σ) I2 (.cons rfl r) q2
theorem pe_methS0 {pl : Sem Bool} (he : PE Y o to) (c : Cls Y.K C) (hm : Meth Y.K C nm f) (F : FnOk Y.prog Y.w Y.K Y.mg Y.base CX k f fd ps sp) (hr : Room k Y.A) (hb : Binds Y.K fd ps []) (hx : ∀ σ, PassesAt CX Y σ (E σ))
    (ht : eval (.Call (.Attribute o nm apos) [] [] pos) Y.env = (do
      let ov ← eval o Y.env
      standAt apos.atName
      let (f, first) ← holding [ov] (getMethod ov nm pl)
      callWith pos f first (backTo pos (starEach [] Y.env)) (backToKw pos (keywordEach [] Y.env))) := by rfl) :
    PE Y (.Call (.Attribute o nm apos) [] [] pos) (tMethS C nm sp E to tNil) := by
  refine ⟨fun pins s σ H Q I h => ?_⟩
  refine PySem.W.methodCall_KW (pl := pl) (thn (he.run pins s σ H _ I h) fun u s1 ⟨x, H1, I1, rx, a, dx, fs, ex, ea, l, q⟩ => ?_) ht
  subst ex
  obtain rfl : u = Value.ref a := rx
  refine getmeth_ok I1 ea c hm l ?_
  exact PySem.W.callWith_K0 (first := [.ref a]) I1.kIn hm.kp (run_fnS (us := [.ref a]) (vs := [.ref a]) F hr hb (hx σ) I1 (.cons rfl .nil) q)
end
theorem ce_meth {pl : Sem Bool} {k : Nat} {f C : Addr} {fd : FuncData} {ps : List Str} {s : DSp} {nm : Str} {pos apos : Pos} {o e : Expr} {es : List Expr} {wo : WE} {wa : WA} (he : CE X m o wo) (c : Cls X.K C) (hm : Meth X.K C nm f) (F : FnD X.prog X.w X.K X.mg X.base k f fd ps s) (hr : ∀ i, Room k (m i).A) (hb : Binds X.K fd ps [])
    (ha : CA X m (e :: es) wa) (hst : ∀ i, starEach (e :: es) (m i).env = (false, eval e (m i).env) :: starEach es (m i).env := by intro _; rfl) (hpl : ∀ i, (backTo pos (starEach es (m i).env)).any (·.1) = false := by intro _; rfl)
    (ht : ∀ i, eval (.Call (.Attribute o nm apos) (e :: es) [] pos) (m i).env = (do
      let ov ← eval o (m i).env
      standAt apos.atName
      let (f, first) ← holding [ov] (getMethod ov nm pl)
      callWith pos f first (backTo pos (starEach (e :: es) (m i).env)) (backToKw pos (keywordEach [] (m i).env))) := by intro _; rfl) :
    CE X m (.Call (.Attribute o nm apos) (e :: es) [] pos) (wMeth C nm s wo wa) := by
  obtain ⟨to, po, od⟩ := he
  obtain ⟨ta, pa, da⟩ := ha
  exact ⟨fun W => tMethS C nm (toSp X.K s) (L2.WE W) (to W) (ta W), fun i pn xe W tk => pe_methS (po i pn xe W tk) c hm F (hr i) hb (fun σ => L2N.passAt tk σ) (pa i pn xe W tk) (hst i) (hpl i) (ht i), fun W => ed_meth (od W) (da W)⟩
theorem ce_meth0 {pl : Sem Bool} {k : Nat} {f C : Addr} {fd : FuncData} {ps : List Str} {s : DSp} {nm : Str} {pos apos : Pos} {o : Expr} {wo : WE} (he : CE X m o wo) (c : Cls X.K C) (hm : Meth X.K C nm f) (F : FnD X.prog X.w X.K X.mg X.base k f fd ps s) (hr : ∀ i, Room k (m i).A) (hb : Binds X.K fd ps [])
    (ht : ∀ i, eval (.Call (.Attribute o nm apos) [] [] pos) (m i).env = (do
      let ov ← eval o (m i).env
      standAt apos.atName
      let (f, first) ← holding [ov] (getMethod ov nm pl)
      callWith pos f first (backTo pos (starEach [] (m i).env)) (backToKw pos (keywordEach [] (m i).env))) := by intro _; rfl) :
    CE X m (.Call (.Attribute o nm apos) [] [] pos) (wMeth C nm s wo wNil) := by
  obtain ⟨to, po, od⟩ := he
  exact ⟨fun W => tMethS C nm (toSp X.K s) (L2.WE W) (to W) tNil, fun i pn xe W tk => pe_methS0 (po i pn xe W tk) c hm F (hr i) hb (fun σ => L2N.passAt tk σ) (ht i), fun W => ed_meth (od W) ad_nil⟩

/-! C(..): a new instance; its __init__ raises nothing -/
def wMake (C : Addr) (s : DSp) (wa : WA) : WE := fun Q E ρ M => wa (fun ds M1 => ∀ p, M1 p = none → s (.adr p :: ds) (updM M1 p (.ins C [])) (fun d M2 => d = .non ∧ Q (.adr p) M2) (fun _ _ _ => False)) E ρ M
theorem ed_make {C : Addr} {s : DSp} {ta : TA} {wa : WA} (ha : AD K W ta wa) : ED K W (tMake C (toSp K s) [] E0 ta) (wMake C s wa) := fun F H σ ρ M L S Q E h QV hq hx => by
  refine ha F H σ ρ M L S _ E h _ (fun vs ds F1 H1 M1 g1 L1 i1 q1 => fun x dx hxn hdn hne => ?_) hx
  have hx1 : upd H1 dx (.own x) x = none := by rw [upd_ne (Ne.symm hne)]; exact hxn
  have L2' : Lay K (upd F1 dx (.own x)) (upd H1 dx (.own x)) M1 := L1.frozen _ hdn
  have g2 : Grow F1 H1 M1 (upd F1 dx (.own x)) (upd H1 dx (.own x)) M1 := .frozen (L1.fnone hdn) hdn
  have L3 := L2'.made (n := .ins C []) (o := .ins C dx []) hx1 ⟨dx, [], upd_same, .nil⟩
  have g3 : Grow (upd F1 dx (.own x)) (upd H1 dx (.own x)) M1 (upd F1 dx (.own x)) (upd (upd H1 dx (.own x)) x (.ins C dx [])) (updM M1 x (.ins C [])) := .made hx1
  refine ⟨_, _, _, _, _, L3, .cons (.adr x) (by rw [List.append_nil]; exact i1.mono g2.same), q1 x (L1.mnone hxn), fun v d F' H' M' g L' i q => ?_, fun C dx v d F' H' M' g L' e r q => q.elim⟩
  obtain ⟨rfl, q⟩ := q
  cases i
  exact ⟨rfl, hq _ _ F' H' M' (g1.trans (g2.trans (g3.trans g))) L' (.adr x) q⟩
theorem ce_make {k : Nat} {f C : Addr} {fd : FuncData} {ps : List Str} {s : DSp} {x : Str} {p pos : Pos} {e : Expr} {es : List Expr} {wa : WA} (Mk' : Mk X.K C f) (F : FnD X.prog X.w X.K X.mg X.base k f fd ps s) (hr : ∀ i, Room (k + 1) (m i).A) (hm : X.mg x = some (.ref C)) (hb : Binds X.K fd ps [])
    (ha : CA X m (e :: es) wa) (hg : ∀ i, (m i).env.kindOf x = some .globalImplicit := by intro _; rfl) (hdb : (x == ("__debug__" : Str)) = false := by decide)
    (he : ∀ i, starEach (e :: es) (m i).env = (false, eval e (m i).env) :: starEach es (m i).env := by intro _; rfl) (hpl : ∀ i, (backTo pos (starEach es (m i).env)).any (·.1) = false := by intro _; rfl) :
    CE X m (.Call (.Name x p) (e :: es) [] pos) (wMake C s wa) := by
  obtain ⟨ta, pa, da⟩ := ha
  exact ⟨fun W => tMake C (toSp X.K s) [] E0 (ta W), fun i pn xe W tk => pe_make Mk' F (hr i) (hg i) hm hb .nil passLN (pa i pn xe W tk) hdb (he i) (hpl i), fun W => ed_make (da W)⟩
theorem ce_make0 {k : Nat} {f C : Addr} {fd : FuncData} {ps : List Str} {s : DSp} {x : Str} {p pos : Pos} (Mk' : Mk X.K C f) (F : FnD X.prog X.w X.K X.mg X.base k f fd ps s) (hr : ∀ i, Room (k + 1) (m i).A) (hm : X.mg x = some (.ref C)) (hb : Binds X.K fd ps [])
    (hg : ∀ i, (m i).env.kindOf x = some .globalImplicit := by intro _; rfl) (hdb : (x == ("__debug__" : Str)) = false := by decide) :
    CE X m (.Call (.Name x p) [] [] pos) (wMake C s wNil) :=
  ⟨fun W => tMake C (toSp X.K s) [] E0 tNil, fun i pn xe W tk => pe_make0 Mk' F (hr i) (hg i) hm hb .nil passLN hdb, fun W => ed_make ad_nil⟩

/-! fields -/
def wFld (C : Addr) (f : Str) (wo : WE) : WE := fun Q E ρ M => wo (fun o M1 => ∃ a fs d, o = .adr a ∧ M1 a = some (.ins C fs) ∧ fs.lookup f = some d ∧ Q d M1) E ρ M
theorem ed_fld {C : Addr} {f : Str} {to : TE} {wo : WE} (c : Cls K C) (n : NoAttr K C f) (ho : ED K W to wo) : ED K W (tFld K to f) (wFld C f wo) := fun F H σ ρ M L S Q E h QV hq hx => by
  refine ho F H σ ρ M L S _ E h _ (fun x o F1 H1 M1 g1 L1 i1 q1 => ?_) hx
  obtain ⟨a, fs, d, rfl, hm, hl, q⟩ := q1
  cases i1
  obtain ⟨f0, dx, ws, ha1, r⟩ := L1.node a _ hm
  obtain ⟨v, hv, iv⟩ := (lookup_isK (f := f) r).2 d hl
  exact ⟨a, C, dx, ws, v, rfl, ha1, c, n, hv, hq v d F1 H1 M1 g1 L1 iv q⟩
theorem ce_fld {C : Addr} {f : Str} {o : Expr} {pos : Pos} {wo : WE} (c : Cls X.K C) (n : NoAttr X.K C f) (ho : CE X m o wo) (hb : ∀ i, attributeBase o f (m i).env (eval o (m i).env) = eval o (m i).env := by intro _; rfl) : CE X m (.Attribute o f pos) (wFld C f wo) := by
  obtain ⟨to, po, od⟩ := ho
  exact ⟨fun W => tFld X.K (to W) f, fun i pn xe W tk => pe_fld (po i pn xe W tk) (hb i), fun W => ed_fld c n (od W)⟩

/-! methods of built-in types -/
abbrev GM := D → List D → Mem → (D → Mem → Prop) → Prop
def tyD (T : String) (d : D) (M : Mem) : Prop := match d with
  | .str _ => T = "str"
  | .int _ => T = "int"
  | .lst _ => T = "list"
  | .seq _ => T = "list"
  | .adr p => (T = "list" ∧ ∃ xs, M p = some (.lst xs)) ∨ (T = "dict" ∧ ∃ kvs, M p = some (.dct kvs))
  | _ => False
theorem tyD_tyV {T : String} {d : D} {v : V} {F H : Hp} {M : Mem} (L : Lay K F H M) (i : Is K F v d) (h : tyD T d M) : tyV K T v H := by
  cases i with
  | str s => exact h
  | int s => exact h
  | lst e a => exact .inl ⟨h, _, .inl (.inl (L.same _ _ e))⟩
  | seq e a => exact .inl ⟨h, _, L.list e⟩
  | adr a =>
    rcases h with ⟨rfl, xs, e⟩ | ⟨rfl, kvs, e⟩
    · obtain ⟨_, vs, e2, _⟩ := L.node a _ e
      exact .inl ⟨rfl, vs, .inl (.inl e2)⟩
    · obtain ⟨_, ws, e2, _, _⟩ := L.node a _ e
      exact .inr (.inr (.inl ⟨rfl, .inl ⟨ws, e2⟩⟩))
  | _ => exact h.elim
def LkM (K : PySem.W.Frag) (r : V → List V → Hp → VK → Prop) (g : GM) : Prop :=
  ∀ x vs dx ds F H M, Lay K F H M → Is K F x dx → IsA K F vs ds → ∀ Q, g dx ds M Q → ∀ QV : VK, (∀ v d F' H' M', Grow F H M F' H' M' → Lay K F' H' M' → Is K F' v d → Q d M' → QV v H') → r x vs H QV
def wBM (T : String) (g : GM) (wo : WE) (wa : WA) : WE := fun Q E ρ M => wo (fun o M1 => tyD T o M1 ∧ wa (fun ds M2 => g o ds M2 Q) E ρ M1) E ρ M
theorem ed_bm {T : String} {r : V → List V → Hp → VK → Prop} {g : GM} {to : TE} {ta : TA} {wo : WE} {wa : WA} (lk : LkM K r g) (ho : ED K W to wo) (ha : AD K W ta wa) : ED K W (tBM K T r to ta) (wBM T g wo wa) := fun F H σ ρ M L S Q E h QV hq hx => by
  refine ho F H σ ρ M L S _ E h _ (fun x o F1 H1 M1 g1 L1 i1 q1 => ⟨tyD_tyV L1 i1 q1.1, ?_⟩) hx
  refine ha F1 H1 σ ρ M1 L1 (S.mono g1.same) _ E q1.2 _ (fun vs ds F2 H2 M2 g2 L2 i2 q2 => ?_) (fun C dx v d F' H' M' g L' e r q => hx C dx v d F' H' M' (g1.trans g) L' e r q)
  exact lk x vs o ds F2 H2 M2 L2 (i1.mono g2.same) i2 Q q2 QV fun v d F3 H3 M3 g3 L3 i3 q3 => hq v d F3 H3 M3 (g1.trans (g2.trans g3)) L3 i3 q3
theorem ed_bm0 {T : String} {r : V → List V → Hp → VK → Prop} {g : GM} {to : TE} {wo : WE} (lk : LkM K r g) (ho : ED K W to wo) : ED K W (tBM0 K T r to) (wBM T g wo wNil) := fun F H σ ρ M L S Q E h QV hq hx => by
  refine ho F H σ ρ M L S _ E h _ (fun x o F1 H1 M1 g1 L1 i1 q1 => ⟨tyD_tyV L1 i1 q1.1, ?_⟩) hx
  exact lk x [] o [] F1 H1 M1 L1 i1 .nil Q q1.2 QV fun v d F3 H3 M3 g3 L3 i3 q3 => hq v d F3 H3 M3 (g1.trans g3) L3 i3 q3
theorem ce_bm {T id : String} {nm : Str} {r : V → List V → Hp → VK → Prop} {g : GM} {o e : Expr} {es : List Expr} {apos cpos : Pos} {wo : WE} {wa : WA} (pa : PlainAttrs T) (slot : Slot T nm id) (hty : typeOf (.builtin id) = pure (.type "method_descriptor")) (hm : ∀ i pn xe, MtR (mdX X (m i) pn xe) id r) (lk : LkM X.K r g)
    (ho : CE X m o wo) (ha : CA X m (e :: es) wa) (hbase : ∀ i, attributeBase o nm (m i).env (eval o (m i).env) = eval o (m i).env := by intro _; rfl)
    (hfew : ∀ i, ((backTo cpos (starEach (e :: es) (m i).env)).all (fun x => !x.1) && (backToKw cpos (keywordEach [] (m i).env)).all (fun x => x.1.isSome)
      && decide ((e :: es).length + ([] : List Keyword).length + (if ([] : List Keyword).isEmpty then 0 else 1) < 30)) = true := by intro _; rfl)
    (hline : (apos.endLine == cpos.line) = true := by rfl) (hs : ∀ i, starEach (e :: es) (m i).env = (false, eval e (m i).env) :: starEach es (m i).env := by intro _; rfl) (hplain : ∀ i, (backTo cpos (starEach es (m i).env)).any (·.1) = false := by intro _; rfl) :
    CE X m (.Call (.Attribute o nm apos) (e :: es) [] cpos) (wBM T g wo wa) := by
  obtain ⟨to, po, od⟩ := ho
  obtain ⟨ta, pa', da⟩ := ha
  exact ⟨fun W => tBM X.K T r (to W) (ta W), fun i pn xe W tk => pe_bm pa slot hty (hm i pn xe) (po i pn xe W tk) (pa' i pn xe W tk) (hbase i) (hfew i) hline (hs i) (hplain i), fun W => ed_bm lk (od W) (da W)⟩
theorem ce_bm0 {T id : String} {nm : Str} {r : V → List V → Hp → VK → Prop} {g : GM} {o : Expr} {apos cpos : Pos} {wo : WE} (pa : PlainAttrs T) (slot : Slot T nm id) (hty : typeOf (.builtin id) = pure (.type "method_descriptor")) (hm : ∀ i pn xe, MtR (mdX X (m i) pn xe) id r) (lk : LkM X.K r g)
    (ho : CE X m o wo) (hbase : ∀ i, attributeBase o nm (m i).env (eval o (m i).env) = eval o (m i).env := by intro _; rfl) (hline : (apos.endLine == cpos.line) = true := by rfl) : CE X m (.Call (.Attribute o nm apos) [] [] cpos) (wBM T g wo wNil) := by
  obtain ⟨to, po, od⟩ := ho
  exact ⟨fun W => tBM0 X.K T r (to W), fun i pn xe W tk => pe_bm0 pa slot hty (hm i pn xe) (po i pn xe W tk) (hbase i) hline, fun W => ed_bm0 lk (od W)⟩

/-! dicts -/
def kD : Key → D
  | .inl i => .int i
  | .inr x => .str x
def keyD : D → Option Key
  | .int i => some (.inl i)
  | .str x => some (.inr x)
  | _ => none
theorem keyD_kV {F : Hp} {v : V} {d : D} {k : Key} (i : Is K F v d) (h : keyD d = some k) : v = kV k := by
  cases i <;> first | (cases h; rfl) | cases h
section
variable {κ : Type} [DecidableEq κ]
def valD : List (κ × D) → κ → Option D
  | [], _ => none
  | p :: r, k => if p.1 = k then some p.2 else valD r k
def putD : List (κ × D) → κ → D → List (κ × D)
  | [], k, v => [(k, v)]
  | p :: r, k, v => if p.1 = k then (k, v) :: r else p :: putD r k v
theorem valV_cons {p : κ × V} {r : List (κ × V)} {k : κ} : valV (p :: r) k = if p.1 = k then some p.2 else valV r k := by
  by_cases e : p.1 = k
  · rw [if_pos e, valV_pos e]
  · rw [if_neg e, valV_neg e]
theorem isK_val {F : Hp} {k : κ} : ∀ {ws : List (κ × V)} {kvs : List (κ × D)}, IsK K F ws kvs → (valD kvs k = none → valV ws k = none) ∧ ∀ d, valD kvs k = some d → ∃ v, valV ws k = some v ∧ Is K F v d
  | _, _, .nil => ⟨fun _ => rfl, fun d h => by cases h⟩
  | (k1, v) :: ws, (k', d) :: fs, .cons ⟨e, r⟩ t => by
    obtain ⟨i1, i2⟩ := isK_val (k := k) t
    have e : k1 = k' := e
    subst e
    rw [valV_cons]
    have ev : valD ((k1, d) :: fs) k = if k1 = k then some d else valD fs k := rfl
    rw [ev]
    by_cases c : k1 = k
    · rw [if_pos c, if_pos c]
      exact ⟨fun z => (nomatch z), fun d' z => ⟨v, rfl, (Option.some.inj z) ▸ r⟩⟩
    · rw [if_neg c, if_neg c]
      exact ⟨i1, i2⟩
theorem valD_any (k : κ) : ∀ kvs : List (κ × V), (kvs.any fun kv => decide (kv.1 = k)) = (valV kvs k).isSome := valV_any k
theorem keys_nodup_put {k : κ} {v : V} : ∀ {ws : List (κ × V)}, valV ws k = none → putK ws k v = ws ++ [(k, v)] := fun {ws} h => by
  unfold putK
  rw [valV_any, h, if_neg (by simp)]
/-- where the keys stand once each -/
theorem isK_put {F : Hp} {k : κ} {v : V} {d : D} (r : Is K F v d) : ∀ {ws : List (κ × V)} {kvs : List (κ × D)}, IsK K F ws kvs → (kvs.map (·.1)).Nodup → IsK K F (putK ws k v) (putD kvs k d) := by
  intro ws kvs h nd
  have len : ∀ {ws : List (κ × V)} {kvs : List (κ × D)}, IsK K F ws kvs → ws.map (·.1) = kvs.map (·.1) := by
    intro ws kvs h
    induction h with
    | nil => rfl
    | cons a _ ih => rw [List.map_cons, List.map_cons, ih, a.1]
  by_cases c : (valV ws k).isSome = true
  · have e : putK ws k v = ws.map (fun kv => if kv.1 = k then (kv.1, v) else kv) := by
      unfold putK
      rw [valV_any, if_pos c]
    rw [e]
    clear e
    -- no further entry behind the first
    have key : ∀ {ws : List (κ × V)} {kvs : List (κ × D)}, IsK K F ws kvs → (kvs.map (·.1)).Nodup → (valV ws k).isSome = true → IsK K F (ws.map (fun kv => if kv.1 = k then (kv.1, v) else kv)) (putD kvs k d) := by
      intro ws kvs h
      induction h with
      | nil => intro _ z; cases z
      | @cons p q ws kvs a t ih =>
        intro nd z
        obtain ⟨e, r1⟩ := a
        rw [List.map_cons] at nd ⊢
        show IsK K F _ (if q.1 = k then (k, d) :: kvs else q :: putD kvs k d)
        by_cases c : p.1 = k
        · rw [if_pos c, if_pos (e ▸ c)]
          refine .cons ⟨c, r⟩ ?_
          have hn : k ∉ ws.map (·.1) := by
            rw [len t]
            have := (List.nodup_cons.mp nd).1
            rw [← e, c] at this
            exact this
          have e2 : ws.map (fun kv => if kv.1 = k then (kv.1, v) else kv) = ws := by
            have : ∀ kv ∈ ws, (fun kv : κ × V => if kv.1 = k then (kv.1, v) else kv) kv = kv := fun kv hkv => by
              have : ¬ kv.1 = k := fun z => hn (List.mem_map.mpr ⟨kv, hkv, z⟩)
              show (if kv.1 = k then (kv.1, v) else kv) = kv
              rw [if_neg this]
            exact (List.map_congr_left this).trans (List.map_id _)
          rw [e2]
          exact t
        · rw [if_neg c, if_neg (fun y => c (e.trans y))]
          refine .cons ⟨e, r1⟩ (ih (List.nodup_cons.mp nd).2 ?_)
          rw [valV_neg c] at z
          exact z
    exact key h nd c
  · have c' : valV ws k = none := by
      cases z : valV ws k with
      | none => rfl
      | some x => rw [z] at c; exact absurd rfl c
    rw [keys_nodup_put c']
    have key : ∀ {ws : List (κ × V)} {kvs : List (κ × D)}, IsK K F ws kvs → valV ws k = none → IsK K F (ws ++ [(k, v)]) (putD kvs k d) := by
      intro ws kvs h
      induction h with
      | nil => intro _; exact .cons ⟨rfl, r⟩ .nil
      | @cons p q ws kvs a t ih =>
        intro z
        obtain ⟨e, r1⟩ := a
        have c : ¬ p.1 = k := fun y => by rw [valV_pos y] at z; cases z
        rw [valV_neg c] at z
        rw [List.cons_append]
        show IsK K F _ (if q.1 = k then (k, d) :: kvs else q :: putD kvs k d)
        rw [if_neg (fun y => c (e.trans y))]
        exact .cons ⟨e, r1⟩ (ih z)
    exact key h c'
end
theorem isK_length {κ : Type} {F : Hp} {ws : List (κ × V)} {kvs : List (κ × D)} (h : IsK K F ws kvs) : ws.length = kvs.length := Paired.length h
/-- {} -/
def wNewDict : WE := fun Q E ρ M => ∀ p, M p = none → Q (.adr p) (updM M p (.dct []))
theorem ed_newDict : ED K W tDNewK wNewDict := fun F H σ ρ M L S Q E h QV hq hx => fun p hp =>
  hq _ _ F _ _ (.made (n := .dct []) hp) (L.made (n := .dct []) hp ⟨[], upd_same, .nil, List.nodup_nil⟩) (.adr p) (h p (L.mnone hp))
theorem ce_newDict {pos : Pos} : CE X m (.Dict [] [] pos) wNewDict := ⟨fun _ => tDNewK, fun _ _ _ _ _ => pe_dnewK, fun _ => ed_newDict⟩
/-- what stands at a key of the dict at an address -/
def DGetD (M : Mem) (o y : D) (r : Option D) : Prop := ∃ p kvs k, o = .adr p ∧ M p = some (.dct kvs) ∧ keyD y = some k ∧ r = valD kvs k
theorem dgetD {F H : Hp} {M : Mem} {o y : D} {ov yv : V} {r : Option D} (L : Lay K F H M) (io : Is K F ov o) (iy : Is K F yv y) (g : DGetD M o y r) : ∃ a rv, ov = .ref a ∧ DGet H a yv rv ∧ (r = none → rv = none) ∧ ∀ d, r = some d → ∃ v, rv = some v ∧ Is K F v d := by
  obtain ⟨p, kvs, k, rfl, hp, hk, rfl⟩ := g
  cases io
  obtain ⟨_, ws, e, rr, _⟩ := L.node p _ hp
  obtain ⟨i1, i2⟩ := isK_val (k := k) rr
  rw [keyD_kV iy hk]
  exact ⟨p, _, rfl, DGet.k e, i1, i2⟩
def wDGet (wo wi : WE) : WE := fun Q E ρ M => wo (fun o M1 => wi (fun y M2 => ∃ d, DGetD M2 o y (some d) ∧ Q d M2) E ρ M1) E ρ M
theorem ed_dget {to ti : TE} {wo wi : WE} (ho : ED K W to wo) (hi : ED K W ti wi) : ED K W (tDGet to ti) (wDGet wo wi) := fun F H σ ρ M L S Q E h QV hq hx => by
  refine ho F H σ ρ M L S _ E h _ (fun x dx F1 H1 M1 g1 L1 i1 q1 => ?_) hx
  refine hi F1 H1 σ ρ M1 L1 (S.mono g1.same) _ E q1 _ (fun y dy F2 H2 M2 g2 L2 i2 q2 => ?_) (fun C dx v d F' H' M' g L' e r q => hx C dx v d F' H' M' (g1.trans g) L' e r q)
  obtain ⟨d, g, q⟩ := q2
  obtain ⟨a, rv, e1, e2, _, e4⟩ := dgetD L2 (i1.mono g2.same) i2 g
  obtain ⟨v, e5, iv⟩ := e4 d rfl
  subst e5
  exact ⟨a, v, e1, e2, hq v d F2 H2 M2 (g1.trans g2) L2 iv q⟩
theorem ce_dget {o i : Expr} {pos : Pos} {wo wi : WE} (hu : ∀ i, (m i).A.units + 1 < cLine) (ho : CE X m o wo) (hi : CE X m i wi) (hs : NoSl i) : CE X m (.Subscript o i pos) (wDGet wo wi) := by
  obtain ⟨to, po, od⟩ := ho
  obtain ⟨ti, pi, di⟩ := hi
  exact ⟨fun W => tDGet (to W) (ti W), fun i pn xe W tk => pe_dget (hu i) (po i pn xe W tk) (pi i pn xe W tk) hs, fun W => ed_dget (od W) (di W)⟩
def wDIn (neg : Bool) (wi wo : WE) : WE := fun Q E ρ M => wi (fun y M1 => wo (fun o M2 => ∃ r, DGetD M2 o y r ∧ Q (.bl (if neg then !r.isSome else r.isSome)) M2) E ρ M1) E ρ M
theorem isSome_of {r : Option D} {rv : Option V} (h1 : r = none → rv = none) (h2 : ∀ d, r = some d → ∃ v, rv = some v ∧ True) : rv.isSome = r.isSome := by
  cases r with
  | none => rw [h1 rfl]; rfl
  | some d => obtain ⟨v, e, _⟩ := h2 d rfl; rw [e]; rfl
theorem ed_din {ti to : TE} {wi wo : WE} (hi : ED K W ti wi) (ho : ED K W to wo) : ED K W (tDIn ti to) (wDIn false wi wo) := fun F H σ ρ M L S Q E h QV hq hx => by
  refine hi F H σ ρ M L S _ E h _ (fun y dy F1 H1 M1 g1 L1 i1 q1 => ?_) hx
  refine ho F1 H1 σ ρ M1 L1 (S.mono g1.same) _ E q1 _ (fun x dx F2 H2 M2 g2 L2 i2 q2 => ?_) (fun C dx v d F' H' M' g L' e r q => hx C dx v d F' H' M' (g1.trans g) L' e r q)
  obtain ⟨r, g, q⟩ := q2
  obtain ⟨a, rv, e1, e2, e3, e4⟩ := dgetD L2 i2 (i1.mono g2.same) g
  refine ⟨a, rv, e1, e2, ?_⟩
  rw [isSome_of e3 fun d z => (e4 d z).imp fun _ w => ⟨w.1, trivial⟩]
  exact hq _ _ F2 H2 M2 (g1.trans g2) L2 (.bl _) q
theorem ed_dnotin {ti to : TE} {wi wo : WE} (hi : ED K W ti wi) (ho : ED K W to wo) : ED K W (tDNotIn ti to) (wDIn true wi wo) := fun F H σ ρ M L S Q E h QV hq hx => by
  refine hi F H σ ρ M L S _ E h _ (fun y dy F1 H1 M1 g1 L1 i1 q1 => ?_) hx
  refine ho F1 H1 σ ρ M1 L1 (S.mono g1.same) _ E q1 _ (fun x dx F2 H2 M2 g2 L2 i2 q2 => ?_) (fun C dx v d F' H' M' g L' e r q => hx C dx v d F' H' M' (g1.trans g) L' e r q)
  obtain ⟨r, g, q⟩ := q2
  obtain ⟨a, rv, e1, e2, e3, e4⟩ := dgetD L2 i2 (i1.mono g2.same) g
  refine ⟨a, rv, e1, e2, ?_⟩
  rw [isSome_of e3 fun d z => (e4 d z).imp fun _ w => ⟨w.1, trivial⟩]
  exact hq _ _ F2 H2 M2 (g1.trans g2) L2 (.bl _) q
theorem ce_din {o i : Expr} {pos : Pos} {wo wi : WE} (hu : ∀ i, (m i).A.units + 1 < cLine) (hi : CE X m i wi) (ho : CE X m o wo) (hb : behindInMarks .In o = false := by rfl) : CE X m (.Compare i [.In] [o] pos) (wDIn false wi wo) := by
  obtain ⟨to, po, od⟩ := ho
  obtain ⟨ti, pi, di⟩ := hi
  exact ⟨fun W => tDIn (ti W) (to W), fun i pn xe W tk => pe_cmp (pc_din (hu i) (pi i pn xe W tk) (po i pn xe W tk)) hb, fun W => ed_din (di W) (od W)⟩
theorem ce_dnotin {o i : Expr} {pos : Pos} {wo wi : WE} (hu : ∀ i, (m i).A.units + 1 < cLine) (hi : CE X m i wi) (ho : CE X m o wo) (hb : behindInMarks .NotIn o = false := by rfl) : CE X m (.Compare i [.NotIn] [o] pos) (wDIn true wi wo) := by
  obtain ⟨to, po, od⟩ := ho
  obtain ⟨ti, pi, di⟩ := hi
  exact ⟨fun W => tDNotIn (ti W) (to W), fun i pn xe W tk => pe_cmp (pc_dnotin (hu i) (pi i pn xe W tk) (po i pn xe W tk)) hb, fun W => ed_dnotin (di W) (od W)⟩
theorem ct_din {o i : Expr} {pos : Pos} {wo wi : WE} (hu : ∀ i, (m i).A.units + 1 < cLine) (hi : CE X m i wi) (ho : CE X m o wo) (hb : behindInMarks .In o = false := by rfl) : CT X m (.Compare i [.In] [o] pos) (wTest (wDIn false wi wo)) := by
  obtain ⟨to, po, od⟩ := ho
  obtain ⟨ti, pi, di⟩ := hi
  exact ⟨fun W => tTest (tDIn (ti W) (to W)), fun i pn xe W tk => pt_cmp (pc_din (hu i) (pi i pn xe W tk) (po i pn xe W tk)) hb, fun W => td_test (ed_din (di W) (od W))⟩
theorem ct_dnotin {o i : Expr} {pos : Pos} {wo wi : WE} (hu : ∀ i, (m i).A.units + 1 < cLine) (hi : CE X m i wi) (ho : CE X m o wo) (hb : behindInMarks .NotIn o = false := by rfl) : CT X m (.Compare i [.NotIn] [o] pos) (wTest (wDIn true wi wo)) := by
  obtain ⟨to, po, od⟩ := ho
  obtain ⟨ti, pi, di⟩ := hi
  exact ⟨fun W => tTest (tDNotIn (ti W) (to W)), fun i pn xe W tk => pt_cmp (pc_dnotin (hu i) (pi i pn xe W tk) (po i pn xe W tk)) hb, fun W => td_test (ed_dnotin (di W) (od W))⟩
/-- d.get(k, x) -/
def wDGet2 (wo wi wx : WE) : WE := fun Q E ρ M => wo (fun o M1 => (∃ p kvs, o = .adr p ∧ M1 p = some (.dct kvs)) ∧ wi (fun y M2 => wx (fun z M3 => ∃ r, DGetD M3 o y r ∧ Q (r.getD z) M3) E ρ M2) E ρ M1) E ρ M
theorem ed_dget2 {to ti tx : TE} {wo wi wx : WE} (ho : ED K W to wo) (hi : ED K W ti wi) (hxx : ED K W tx wx) : ED K W (tDGet2 to ti tx) (wDGet2 wo wi wx) := fun F H σ ρ M L S Q E h QV hq hx => by
  refine ho F H σ ρ M L S _ E h _ (fun x dx F1 H1 M1 g1 L1 i1 q1 => ?_) hx
  obtain ⟨⟨p, kvs, rfl, hp⟩, q1⟩ := q1
  cases i1
  obtain ⟨_, ws, e, _, _⟩ := L1.node p _ hp
  refine ⟨p, rfl, .inl ⟨ws, .inl e⟩, ?_⟩
  refine hi F1 H1 σ ρ M1 L1 (S.mono g1.same) _ E q1 _ (fun y dy F2 H2 M2 g2 L2 i2 q2 => ?_) (fun C dx v d F' H' M' g L' e r q => hx C dx v d F' H' M' (g1.trans g) L' e r q)
  refine hxx F2 H2 σ ρ M2 L2 (S.mono (g1.same.trans g2.same)) _ E q2 _ (fun z dz F3 H3 M3 g3 L3 i3 q3 => ?_) (fun C dx v d F' H' M' g L' e r q => hx C dx v d F' H' M' (g1.trans (g2.trans g)) L' e r q)
  obtain ⟨r, g, q⟩ := q3
  obtain ⟨a, rv, e1, e2, e3, e4⟩ := dgetD L3 (.adr p) (i2.mono g3.same) g
  cases e1
  refine ⟨rv, e2, ?_⟩
  have gg := g1.trans (g2.trans g3)
  cases r with
  | none =>
    rw [e3 rfl]
    exact hq _ _ F3 H3 M3 gg L3 i3 q
  | some d =>
    obtain ⟨v, e5, iv⟩ := e4 d rfl
    rw [e5]
    exact hq _ _ F3 H3 M3 gg L3 iv q
theorem ce_dget2 {o e f : Expr} {apos cpos : Pos} {wo wi wx : WE} (hu : ∀ i, (m i).A.units + 1 < cLine) (ho : CE X m o wo) (he : CE X m e wi) (hf : CE X m f wx)
    (mm : ∀ i pn xe, M2 (mdX X (m i) pn xe) o "get" apos e f cpos := by intro _ _ _; exact ⟨rfl, rfl, rfl, rfl⟩) : CE X m (.Call (.Attribute o "get" apos) [e, f] [] cpos) (wDGet2 wo wi wx) := by
  obtain ⟨to, po, od⟩ := ho
  obtain ⟨ti, pi, di⟩ := he
  obtain ⟨tx, px, dx⟩ := hf
  exact ⟨fun W => tDGet2 (to W) (ti W) (tx W), fun i pn xe W tk => pe_dget2 (hu i) (po i pn xe W tk) (pi i pn xe W tk) (px i pn xe W tk) (mm i pn xe), fun W => ed_dget2 (od W) (di W) (dx W)⟩
end
end Dl

set_option Elab.async false
set_option linter.all false
set_option maxRecDepth 100000
set_option maxHeartbeats 4000000
/-! targets, statements, loops, comprehensions -/
namespace Dl
open PySem PySem.Spec PyProof.Rows L2
section
variable {X : Cx} {ι : Type} {m : ι → Md} {K : PySem.W.Frag} {W : WX}

/-! ### targets -/
abbrev WG := D → (Rho → Mem → Prop) → Rho → Mem → Prop
abbrev WGs := List D → (Rho → Mem → Prop) → Rho → Mem → Prop
/-- ws: the slots that it sets -/
def GD (K : PySem.W.Frag) (g : TG) (wg : WG) (ws : List Nat) : Prop := ∀ (F H : Hp) (σ : L2.St) (ρ : Rho) (M : Mem), Lay K F H M → Slots K F σ ρ → ∀ v d, Is K F v d → ∀ Q : Rho → Mem → Prop, wg d Q ρ M → ∀ QV : L2.St → Hp → Prop,
  (∀ F' H' σ' ρ' M', Grow F H M F' H' M' → Lay K F' H' M' → Slots K F' σ' ρ' → (∀ vs : List Nat, (∀ i ∈ ws, i ∈ vs) → L2.wipe σ' vs = L2.wipe σ vs) → Q ρ' M' → QV σ' H') → g v σ H QV
def GsD (K : PySem.W.Frag) (g : TGs) (wg : WGs) (ws : List Nat) : Prop := ∀ (F H : Hp) (σ : L2.St) (ρ : Rho) (M : Mem), Lay K F H M → Slots K F σ ρ → ∀ v d, IsA K F v d → ∀ Q : Rho → Mem → Prop, wg d Q ρ M → ∀ QV : L2.St → Hp → Prop,
  (∀ F' H' σ' ρ' M', Grow F H M F' H' M' → Lay K F' H' M' → Slots K F' σ' ρ' → (∀ vs : List Nat, (∀ i ∈ ws, i ∈ vs) → L2.wipe σ' vs = L2.wipe σ vs) → Q ρ' M' → QV σ' H') → g v σ H QV
variable (X m) in
def CG (tg : Expr) (wg : WG) (ws : List Nat) : Prop := ∃ g : TG, (∀ i pn xe, PG (mdX X (m i) pn xe) tg g) ∧ GD X.K g wg ws
variable (X m) in
def CGs (tgs : List Expr) (wg : WGs) (ws : List Nat) : Prop := ∃ g : TGs, (∀ i pn xe, PGs (mdX X (m i) pn xe) tgs g) ∧ GsD X.K g wg ws
theorem wipe_get (σ : L2.St) : ∀ (vs : List Nat) (j : Nat), (L2.wipe σ vs)[j]? = if j ∈ vs then (if j < σ.length then some none else none) else σ[j]?
  | [], j => by simp [L2.wipe]
  | v :: vs, j => by
    have ih := wipe_get σ vs j
    show ((L2.wipe σ vs).set v none)[j]? = _
    have hl := L2.wipe_length σ vs
    by_cases hj : v = j
    · subst hj
      rw [if_pos List.mem_cons_self]
      by_cases hlt : v < σ.length
      · rw [if_pos hlt, List.getElem?_set_self (by rw [hl]; exact hlt)]
      · rw [if_neg hlt, List.getElem?_eq_none (by rw [List.length_set, hl]; omega)]
    · rw [List.getElem?_set_ne hj, ih]
      by_cases hm : j ∈ vs
      · rw [if_pos hm, if_pos (List.mem_cons_of_mem _ hm)]
      · rw [if_neg hm, if_neg (fun z => (List.mem_cons.mp z).elim (fun e => hj e.symm) hm)]
theorem wipe_set {σ : L2.St} {i : Nat} {x : Option V} {vs : List Nat} (h : i ∈ vs) : L2.wipe (σ.set i x) vs = L2.wipe σ vs := by
  apply List.ext_getElem?
  intro j
  have e1 := wipe_get (σ.set i x) vs j
  have e2 := wipe_get σ vs j
  rw [List.length_set] at e1
  by_cases hj : j ∈ vs
  · rw [if_pos hj] at e1 e2
    exact e1.trans e2.symm
  · rw [if_neg hj] at e1 e2
    rw [List.getElem?_set_ne (fun e : i = j => hj (by rw [← e]; exact h))] at e1
    exact e1.trans e2.symm
theorem wipe_wipe (σ : L2.St) (vs : List Nat) : L2.wipe (L2.wipe σ vs) vs = L2.wipe σ vs := by
  apply List.ext_getElem?
  intro j
  have e1 := wipe_get (L2.wipe σ vs) vs j
  have e2 := wipe_get σ vs j
  rw [L2.wipe_length] at e1
  by_cases hj : j ∈ vs
  · rw [if_pos hj] at e1 e2
    exact e1.trans e2.symm
  · rw [if_neg hj] at e1
    exact e1
def wgName (i : Nat) : WG := fun d Q ρ M => Q (ρ.set i (some d)) M
theorem gd_name {i : Nat} : GD K (gName i) (wgName i) [i] := fun F H σ ρ M L S v d r Q h QV hq =>
  hq F H _ _ M .refl L (S.set i r) (fun vs hv => wipe_set (hv i List.mem_cons_self)) h
theorem cg_name (i : Nat) {x : Str} {pos : Pos} (hN : X.N.Nodup) (hi : X.N[i]? = some x := by rfl) (hx : ∀ j, Loc (m j).env.scope x := by intro _; first | exact Or.inl rfl | exact Or.inr rfl)
    (hf : ∀ j, (m j).fn x = true ∨ (m j).env.scope.names.lookup x = some .local := by intro _; first | exact .inl rfl | exact .inr rfl) : CG X m (.Name x pos) (wgName i) [i] :=
  ⟨gName i, fun j pn xe => pg_name hN hi (hx j) (hf j), gd_name⟩
def wgNil : WGs := fun ds Q ρ M => ds = [] ∧ Q ρ M
def wgCons (a : WG) (b : WGs) : WGs := fun ds Q ρ M => ∃ d r, ds = d :: r ∧ a d (fun ρ1 M1 => b r Q ρ1 M1) ρ M
theorem gsd_nil : GsD K gNil wgNil [] := fun F H σ ρ M L S v d r Q h QV hq => by
  obtain ⟨rfl, q⟩ := h
  cases r
  exact ⟨rfl, hq F H σ ρ M .refl L S (fun _ _ => rfl) q⟩
theorem gsd_cons {g : TG} {gs : TGs} {a : WG} {b : WGs} {ws us : List Nat} (h1 : GD K g a ws) (h2 : GsD K gs b us) : GsD K (gCons g gs) (wgCons a b) (ws ++ us) := fun F H σ ρ M L S v d r Q h QV hq => by
  obtain ⟨x, dr, rfl, q⟩ := h
  cases r with
  | @cons v0 vs _ _ r1 r2 =>
    refine ⟨v0, vs, rfl, h1 F H σ ρ M L S v0 x r1 _ q _ fun F1 H1 σ1 ρ1 M1 g1 L1 S1 w1 q1 => ?_⟩
    exact h2 F1 H1 σ1 ρ1 M1 L1 S1 vs dr (r2.mono g1.same) Q q1 QV fun F2 H2 σ2 ρ2 M2 g2 L2 S2 w2 q2 => hq F2 H2 σ2 ρ2 M2 (g1.trans g2) L2 S2
      (fun vs hv => (w2 vs fun i hi => hv i (List.mem_append_right _ hi)).trans (w1 vs fun i hi => hv i (List.mem_append_left _ hi))) q2
theorem cgs_nil : CGs X m [] wgNil [] := ⟨gNil, fun _ _ _ => pgs_nil, gsd_nil⟩
theorem cgs_cons {e : Expr} {es : List Expr} {a : WG} {b : WGs} {ws us : List Nat} (h1 : CG X m e a ws) (h2 : CGs X m es b us) (hs : ∀ i, (assignEach (e :: es) (m i).env).map (·.2) = assign e (m i).env :: (assignEach es (m i).env).map (·.2) := by intro _; rfl) : CGs X m (e :: es) (wgCons a b) (ws ++ us) := by
  obtain ⟨g, p1, d1⟩ := h1
  obtain ⟨gs, p2, d2⟩ := h2
  exact ⟨gCons g gs, fun i pn xe => pgs_cons (p1 i pn xe) (p2 i pn xe) (hs i), gsd_cons d1 d2⟩
def wgTup (n : Nat) (a : WGs) : WG := fun d Q ρ M => ∃ ds, d = .tup ds ∧ ds.length = n ∧ a ds Q ρ M
theorem cg_tup {es : List Expr} {k n : Nat} {pos : Pos} {a : WGs} {ws : List Nat} (h : CGs X m es a ws) (hc : ∀ i, (m i).calm = true := by intro _; rfl) (hn : ∀ i, (assignEach es (m i).env).length = n := by intro _; rfl) (hst : ∀ i, (assignEach es (m i).env).findIdx? (·.1) = none := by intro _; rfl) : CG X m (.Tuple es k pos) (wgTup n a) ws := by
  obtain ⟨gs, p, d⟩ := h
  refine ⟨gTup X.K n gs, fun i pn xe => pg_tup (hc i) (p i pn xe) (hn i) (hst i), fun F H σ ρ M L S v dd r Q h QV hq => ?_⟩
  obtain ⟨ds, rfl, hl, q⟩ := h
  cases r with
  | @tup a vs _ ha hs => exact ⟨a, vs, rfl, L.tup ha, hs.length.trans hl, d F H σ ρ M L S vs ds hs Q q QV hq⟩

/-! ### blocks, small statements -/
def wNext : WS := fun P ρ M => P.nx ρ M
def wSeq (a b : WS) : WS := fun P ρ M => a { P with nx := fun ρ1 M1 => b P ρ1 M1 } ρ M
theorem sd_next : SD K W tNext wNext := fun F H σ ρ M L S P h E hn hr hb hc hx => hn F H σ ρ M .refl L S h
theorem sd_seq {t u : TS} {a b : WS} (ha : SD K W t a) (hb : SD K W u b) : SD K W (tSeq t u) (wSeq a b) := fun F H σ ρ M L S P h E hn hr hbk hct hx => by
  refine ha F H σ ρ M L S _ h { E with nx := u E } (fun F1 H1 σ1 ρ1 M1 g1 L1 S1 q1 => ?_) hr hbk hct hx
  exact hb F1 H1 σ1 ρ1 M1 L1 S1 P q1 E (fun F' H' σ' ρ' M' g L' S' q => hn F' H' σ' ρ' M' (g1.trans g) L' S' q) (fun v d F' H' M' g L' r q => hr v d F' H' M' (g1.trans g) L' r q)
    (fun F' H' σ' ρ' M' g L' S' q => hbk F' H' σ' ρ' M' (g1.trans g) L' S' q) (fun F' H' σ' ρ' M' g L' S' q => hct F' H' σ' ρ' M' (g1.trans g) L' S' q)
    (fun C dx v d F' H' σ' ρ' M' g L' S' e r q => hx C dx v d F' H' σ' ρ' M' (g1.trans g) L' S' e r q)
theorem cb_nil : CB X m [] wNext := ⟨fun _ => tNext, fun _ _ _ _ _ _ => pss_nil, fun _ => sd_next⟩
theorem cb_cons {st : Stmt} {rest : List Stmt} {a b : WS} (h1 : CS X m st a) (h2 : CB X m rest b) : CB X m (st :: rest) (wSeq a b) := by
  obtain ⟨t1, p1, d1⟩ := h1
  obtain ⟨t2, p2, d2⟩ := h2
  exact ⟨fun W => tSeq (t1 W) (t2 W), fun i pn xe W tk po => pss_cons (p1 i pn xe W tk po) (p2 i pn xe W tk po), fun W => sd_seq (d1 W) (d2 W)⟩
theorem cb_one {st : Stmt} {a : WS} (h1 : CS X m st a) : CB X m [st] a := by
  obtain ⟨t1, p1, d1⟩ := h1
  exact ⟨t1, fun i pn xe W tk po => pss_one (p1 i pn xe W tk po), d1⟩
theorem cs_pass {pos : Pos} : CS X m (.Pass pos) wNext := ⟨fun _ => tNext, fun _ _ _ _ _ _ => ps_pass, fun _ => sd_next⟩
def wBreak : WS := fun P ρ M => P.bk ρ M
def wCont : WS := fun P ρ M => P.ct ρ M
theorem cs_break {pos : Pos} : CS X m (.Break pos) wBreak := ⟨fun _ => tBreak, fun _ _ _ _ _ _ => ps_break, fun _ F H σ ρ M L S P h E hn hr hb hc hx => hb F H σ ρ M .refl L S h⟩
theorem cs_cont {pos : Pos} : CS X m (.Continue pos) wCont := ⟨fun _ => tCont, fun _ _ _ _ _ _ => ps_continue, fun _ F H σ ρ M L S P h E hn hr hb hc hx => hc F H σ ρ M .refl L S h⟩
abbrev exOf (P : Posts) (ρ : Rho) : XEx := fun C d M => P.ex C d ρ M
def wDrop (we : WE) : WS := fun P ρ M => we (fun _ M1 => P.nx ρ M1) (exOf P ρ) ρ M
def wRet (we : WE) : WS := fun P ρ M => we P.rt (exOf P ρ) ρ M
def wRetN : WS := fun P _ M => P.rt .non M
theorem cs_expr {e : Expr} {pos : Pos} {we : WE} (he : CE X m e we) (hs : ∀ i, swapsWith e none pos.line (m i).env = pure false := by intro _; rfl) : CS X m (.Expr e pos) (wDrop we) := by
  obtain ⟨te, p, d⟩ := he
  refine ⟨fun W => tDrop (te W), fun i pn xe W tk _ => ps_expr (p i pn xe W tk) (hs i), fun W F H σ ρ M L S P h E hn hr hb hc hx => ?_⟩
  exact d W F H σ ρ M L S _ _ h _ (fun v d F' H' M' g L' r q => hn F' H' σ ρ M' g L' (S.mono g.same) q) (fun C dx v d F' H' M' g L' e r q => hx C dx v d F' H' σ ρ M' g L' (S.mono g.same) e r q)
theorem cs_doc {x : Str} {j : Nat} {pos pos' : Pos} : CS X m (.Expr (.Constant (.str x) j pos) pos') wNext := ⟨fun _ => tNext, fun _ _ _ _ _ _ => ps_doc, fun _ => sd_next⟩
theorem cs_ret {e : Expr} {pos : Pos} {we : WE} (he : CE X m e we) : CS X m (.Return (some e) pos) (wRet we) := by
  obtain ⟨te, p, d⟩ := he
  refine ⟨fun W => tRet (te W), fun i pn xe W tk _ => ps_ret (p i pn xe W tk), fun W F H σ ρ M L S P h E hn hr hb hc hx => ?_⟩
  exact d W F H σ ρ M L S _ _ h _ (fun v d F' H' M' g L' r q => hr v d F' H' M' g L' r q) (fun C dx v d F' H' M' g L' e r q => hx C dx v d F' H' σ ρ M' g L' (S.mono g.same) e r q)
theorem cs_retN {pos : Pos} : CS X m (.Return none pos) wRetN := ⟨fun _ => tRetN, fun _ _ _ _ _ _ => ps_retN, fun _ F H σ ρ M L S P h E hn hr hb hc hx => hr _ _ F H M .refl L .non h⟩
def wIfS (wt : WT) (a b : WS) : WS := fun P ρ M => wt (fun c M1 => if c = true then a P ρ M1 else b P ρ M1) (exOf P ρ) ρ M
theorem cs_if {c : Expr} {a b : List Stmt} {pos : Pos} {wt : WT} {wa wb : WS} (hc : CT X m c wt) (ha : CB X m a wa) (hb : CB X m b wb) : CS X m (.If c a b pos) (wIfS wt wa wb) := by
  obtain ⟨tc, pc, dc⟩ := hc
  obtain ⟨ta, pa, da⟩ := ha
  obtain ⟨tb, pb, db⟩ := hb
  refine ⟨fun W => tIfS (tc W) (ta W) (tb W), fun i pn xe W tk po => ps_if (pc i pn xe W tk) (pa i pn xe W tk po) (pb i pn xe W tk po), fun W F H σ ρ M L S P h E hn hr hbk hct hx => ?_⟩
  refine dc W F H σ ρ M L S _ _ h _ (fun c F1 H1 M1 g1 L1 q1 => ?_) (fun C dx v d F' H' M' g L' e r q => hx C dx v d F' H' σ ρ M' g L' (S.mono g.same) e r q)
  have rest : ∀ {t : TS} {w : WS}, SD X.K W t w → w P ρ M1 → t E σ H1 := fun {t w} ht q => ht F1 H1 σ ρ M1 L1 (S.mono g1.same) P q E (fun F' H' σ' ρ' M' g L' S' q => hn F' H' σ' ρ' M' (g1.trans g) L' S' q) (fun v d F' H' M' g L' r q => hr v d F' H' M' (g1.trans g) L' r q)
    (fun F' H' σ' ρ' M' g L' S' q => hbk F' H' σ' ρ' M' (g1.trans g) L' S' q) (fun F' H' σ' ρ' M' g L' S' q => hct F' H' σ' ρ' M' (g1.trans g) L' S' q)
    (fun C dx v d F' H' σ' ρ' M' g L' S' e r q => hx C dx v d F' H' σ' ρ' M' (g1.trans g) L' S' e r q)
  cases c with
  | true =>
    rw [if_pos rfl] at q1 ⊢
    exact rest (da W) q1
  | false =>
    rw [if_neg Bool.false_ne_true] at q1 ⊢
    exact rest (db W) q1
/-- target = value -/
def wAsg (we : WE) (wg : WG) : WS := fun P ρ M => we (fun d M1 => wg d P.nx ρ M1) (exOf P ρ) ρ M
theorem sd_asg {te : TE} {g : TG} {we : WE} {wg : WG} {ws : List Nat} (he : ED K W te we) (hg : GD K g wg ws) : SD K W (tAsg te g) (wAsg we wg) := fun F H σ ρ M L S P h E hn hr hb hc hx => by
  refine he F H σ ρ M L S _ _ h _ (fun v d F1 H1 M1 g1 L1 r1 q1 => ?_) (fun C dx v d F' H' M' g L' e r q => hx C dx v d F' H' σ ρ M' g L' (S.mono g.same) e r q)
  exact hg F1 H1 σ ρ M1 L1 (S.mono g1.same) v d r1 _ q1 _ fun F2 H2 σ2 ρ2 M2 g2 L2 S2 _ q2 => hn F2 H2 σ2 ρ2 M2 (g1.trans g2) L2 S2 q2
theorem cs_set (i : Nat) {x : Str} {e : Expr} {pos pos' : Pos} {we : WE} (hN : X.N.Nodup) (he : CE X m e we) (hi : X.N[i]? = some x := by rfl) (hx : ∀ j, Loc (m j).env.scope x := by intro _; first | exact Or.inl rfl | exact Or.inr rfl)
    (hs : ∀ j, swapsWith e (some (.Name x pos')) pos.line (m j).env = pure false := by intro _; rfl) (hf : ∀ j, (m j).fn x = true ∨ (m j).env.scope.names.lookup x = some .local := by intro _; first | exact .inl rfl | exact .inr rfl) : CS X m (.Assign [.Name x pos'] e pos) (wAsg we (wgName i)) := by
  obtain ⟨te, p, d⟩ := he
  exact ⟨fun W => tAsg (te W) (gName i), fun j pn xe W tk _ => ps_set hN hi (hx j) (p j pn xe W tk) (hs j) (hf j), fun W => sd_asg (d W) gd_name⟩
theorem cs_asg {tg e : Expr} {pos : Pos} {we : WE} {wg : WG} {ws : List Nat} (he : CE X m e we) (hg : CG X m tg wg ws) (hs : ∀ i, swapsWithSole [tg] e pos.line (m i).env = pure false := by intro _; rfl) (hw : ∀ i, swappedStores [tg] e (m i).env = pure none := by intro _; rfl)
    (h1 : ∀ i, (assignEach [tg] (m i).env).map (·.2) = [assign tg (m i).env] := by intro _; rfl) : CS X m (.Assign [tg] e pos) (wAsg we wg) := by
  obtain ⟨te, p, d⟩ := he
  obtain ⟨g, pg, dg⟩ := hg
  exact ⟨fun W => tAsg (te W) g, fun i pn xe W tk _ => ps_asg (p i pn xe W tk) (pg i pn xe) (hs i) (hw i) (h1 i), fun W => sd_asg (d W) dg⟩
/-- a, b = x, y -/
def wPar (i j : Nat) (wa : WA) : WS := fun P ρ M => wa (fun ds M1 => ∃ x y, ds = [x, y] ∧ P.nx ((ρ.set i (some x)).set j (some y)) M1) (exOf P ρ) ρ M
theorem cs_par (i j : Nat) {x y : Str} {a b : Expr} {px py pt : Pos} {kt k2 : Nat} {pt2 pos : Pos} {wa : WA} (hN : X.N.Nodup) (ha : CA X m [a, b] wa) (hi : X.N[i]? = some x := by rfl) (hj : X.N[j]? = some y := by rfl) (hij : i ≠ j := by decide)
    (hx : ∀ l, (m l).env.scope.names.lookup x = some .local := by intro _; rfl) (hy : ∀ l, (m l).env.scope.names.lookup y = some .local := by intro _; rfl) (hc : ∀ i, (m i).calm = true := by intro _; rfl)
    (hw : ∀ l, swappedStores [.Tuple [.Name x px, .Name y py] kt pt] (.Tuple [a, b] k2 pt2) (m l).env = pure (some [x, y]) := by intro _; rfl)
    (hs : ∀ l, swapsWithSole [.Tuple [.Name x px, .Name y py] kt pt] (.Tuple [a, b] k2 pt2) pos.line (m l).env = pure false := by intro _; rfl) : CS X m (.Assign [.Tuple [.Name x px, .Name y py] kt pt] (.Tuple [a, b] k2 pt2) pos) (wPar i j wa) := by
  obtain ⟨ta, p, d⟩ := ha
  refine ⟨fun W => tPar i j (ta W), fun l pn xe W tk _ => ps_par (hc l) hN hi hj hij (hx l) (hy l) (p l pn xe W tk) (hw l) (hs l), fun W F H σ ρ M L S P h E hn hr hb hct hxx => ?_⟩
  refine d W F H σ ρ M L S _ _ h _ (fun vs ds F1 H1 M1 g1 L1 r1 q1 => ?_) (fun C dx v d F' H' M' g L' e r q => hxx C dx v d F' H' σ ρ M' g L' (S.mono g.same) e r q)
  obtain ⟨x1, y1, rfl, q1⟩ := q1
  cases r1 with
  | cons r1 r2 =>
    cases r2 with
    | cons r2 r3 =>
      cases r3
      exact ⟨_, _, rfl, hn F1 H1 _ _ M1 g1 L1 (((S.mono g1.same).set i r1).set j r2) q1⟩
/-- name op= e -/
def wAug (f : D → D → Mem → Option D) (i : Nat) (we : WE) : WS := fun P ρ M => ∃ x, ρ[i]? = some (some x) ∧ we (fun y M1 => ∃ z, f x y M1 = some z ∧ P.nx (ρ.set i (some z)) M1) (exOf P ρ) ρ M
theorem cs_aug (i : Nat) {op : Operator} {r : R2} {f : D → D → Mem → Option D} {x : Str} {e : Expr} {pos pos' : Pos} {we : WE} (hN : X.N.Nodup) (ho : ∀ i pn xe, OpR (mdX X (m i) pn xe) (inplaceOp op) r) (lk : Lk2 X.K r f) (he : CE X m e we) (hi : X.N[i]? = some x := by rfl) (hx : ∀ j, Loc (m j).env.scope x := by intro _; first | exact Or.inl rfl | exact Or.inr rfl)
    (hf : ∀ j, (m j).fn x = true ∨ (m j).env.scope.names.lookup x = some .local := by intro _; first | exact .inl rfl | exact .inr rfl) : CS X m (.AugAssign (.Name x pos') op e pos) (wAug f i we) := by
  obtain ⟨te, p, d⟩ := he
  refine ⟨fun W => tAug i (te W) r, fun j pn xe W tk _ => ps_aug hN hi (hx j) (p j pn xe W tk) (ho j pn xe) (hf j), fun W F H σ ρ M L S P h E hn hr hb hct hxx => ?_⟩
  obtain ⟨x0, ex, h⟩ := h
  obtain ⟨v0, ev, r0⟩ := S.at_ i x0 ex
  refine ⟨v0, ev, d W F H σ ρ M L S _ _ h _ (fun v y F1 H1 M1 g1 L1 r1 q1 => ?_) (fun C dx v d F' H' M' g L' e r q => hxx C dx v d F' H' σ ρ M' g L' (S.mono g.same) e r q)⟩
  obtain ⟨z, fz, q⟩ := q1
  exact lk v0 v x0 y z F1 H1 M1 L1 (r0.mono g1.same) r1 fz _ fun u F2 H2 g2 L2 r2 => hn F2 H2 _ _ M1 (g1.trans g2) L2 ((S.mono (g1.same.trans g2.same)).set i r2) q
/-- o.f = e -/
def putFD (f : Str) (v : D) : List (Str × D) → List (Str × D)
  | [] => [(f, v)]
  | (g, x) :: r => if g = f then (g, v) :: r else (g, x) :: putFD f v r
theorem isK_putF {F : Hp} {f : Str} {v : V} {d : D} (r : Is K F v d) : ∀ {ws : List (Str × V)} {fs : List (Str × D)}, IsK K F ws fs → IsK K F (putF f v ws) (putFD f d fs)
  | _, _, .nil => .cons ⟨rfl, r⟩ .nil
  | (k1, v1) :: ws, (k', d1) :: fs, .cons ⟨e, r1⟩ t => by
    have e : k1 = k' := e
    subst e
    show IsK K F (if k1 = f then (k1, v) :: ws else (k1, v1) :: putF f v ws) (if k1 = f then (k1, d) :: fs else (k1, d1) :: putFD f d fs)
    by_cases c : k1 = f
    · rw [if_pos c, if_pos c]
      exact .cons ⟨rfl, r⟩ t
    · rw [if_neg c, if_neg c]
      exact .cons ⟨rfl, r1⟩ (isK_putF r t)
def wFldS (C : Addr) (f : Str) (wo wv : WE) : WS := fun P ρ M => wv (fun y M1 => wo (fun o M2 => ∃ a fs, o = .adr a ∧ M2 a = some (.ins C fs) ∧ fs.length < 1000 ∧ P.nx ρ (updM M2 a (.ins C (putFD f y fs)))) (exOf P ρ) ρ M1) (exOf P ρ) ρ M
theorem cs_fld {C : Addr} {f : Str} {o e : Expr} {pos pos' : Pos} {wo wv : WE} (c : Cls X.K C) (n : NoAttr X.K C f) (ho : CE X m o wo) (hv : CE X m e wv) (hs : ∀ i, swapsWith e (some (.Attribute o f pos')) pos.line (m i).env = pure false := by intro _; rfl) : CS X m (.Assign [.Attribute o f pos'] e pos) (wFldS C f wo wv) := by
  obtain ⟨to, po, od⟩ := ho
  obtain ⟨tv, pv', dv⟩ := hv
  refine ⟨fun W => sFld X.K (to W) (tv W) f, fun i pn xe W tk _ => ps_fld (po i pn xe W tk) (pv' i pn xe W tk) (hs i), fun W F H σ ρ M L S P h E hn hr hb hct hx => ?_⟩
  refine dv W F H σ ρ M L S _ _ h _ (fun y dy F1 H1 M1 g1 L1 r1 q1 => ?_) (fun C dx v d F' H' M' g L' e r q => hx C dx v d F' H' σ ρ M' g L' (S.mono g.same) e r q)
  refine od W F1 H1 σ ρ M1 L1 (S.mono g1.same) _ _ q1 _ (fun x dx F2 H2 M2 g2 L2 r2 q2 => ?_) (fun C dx v d F' H' M' g L' e r q => hx C dx v d F' H' σ ρ M' (g1.trans g) L' (S.mono (g1.trans g).same) e r q)
  obtain ⟨a, fs, rfl, hm, hl, q⟩ := q2
  cases r2
  obtain ⟨f0, dx, ws, ha, rr⟩ := L2.node a _ hm
  refine ⟨a, C, dx, ws, rfl, ha, c, n, by rw [Paired.length rr]; exact hl, ?_⟩
  exact hn F2 _ σ ρ _ (g1.trans (g2.trans (.write hm))) (L2.write (n := .ins C (putFD f dy fs)) hm ⟨dx, _, upd_same, isK_putF (r1.mono g2.same) rr⟩) (S.mono (g1.same.trans g2.same)) q
/-- d[k] = e -/
def wDPut (wo wi wv : WE) : WS := fun P ρ M => wv (fun y M1 => wo (fun o M2 => wi (fun k M3 => ∃ p kvs kk, o = .adr p ∧ M3 p = some (.dct kvs) ∧ keyD k = some kk ∧ kvs.length < sizeLine ∧ P.nx ρ (updM M3 p (.dct (putD kvs kk y)))) (exOf P ρ) ρ M2) (exOf P ρ) ρ M1) (exOf P ρ) ρ M
theorem nodup_putD {κ : Type} [DecidableEq κ] {k : κ} {v : D} : ∀ {kvs : List (κ × D)}, (kvs.map (·.1)).Nodup → ((putD kvs k v).map (·.1)).Nodup := by
  have mem : ∀ {kvs : List (κ × D)} {j : κ}, j ∈ (putD kvs k v).map (·.1) → j = k ∨ j ∈ kvs.map (·.1) := by
    intro kvs
    induction kvs with
    | nil => intro j h; exact .inl (by simpa [putD] using h)
    | cons p r ih =>
      intro j h
      have e : putD (p :: r) k v = if p.1 = k then (k, v) :: r else p :: putD r k v := rfl
      rw [e] at h
      by_cases c : p.1 = k
      · rw [if_pos c, List.map_cons] at h
        rcases List.mem_cons.mp h with z | z
        · exact .inl z
        · exact .inr (List.mem_cons_of_mem _ z)
      · rw [if_neg c, List.map_cons] at h
        rcases List.mem_cons.mp h with z | z
        · exact .inr (by rw [z]; exact List.mem_cons_self)
        · rcases ih z with z | z
          · exact .inl z
          · exact .inr (List.mem_cons_of_mem _ z)
  intro kvs
  induction kvs with
  | nil => intro _; simp [putD]
  | cons p r ih =>
    intro nd
    have e : putD (p :: r) k v = if p.1 = k then (k, v) :: r else p :: putD r k v := rfl
    rw [e]
    rw [List.map_cons] at nd
    obtain ⟨n1, n2⟩ := List.nodup_cons.mp nd
    by_cases c : p.1 = k
    · rw [if_pos c, List.map_cons]
      exact List.nodup_cons.mpr ⟨by rw [← c]; exact n1, n2⟩
    · rw [if_neg c, List.map_cons]
      refine List.nodup_cons.mpr ⟨fun z => ?_, ih n2⟩
      rcases mem z with z | z
      · exact c z
      · exact n1 z
theorem cs_dput {o i e : Expr} {pos pos' : Pos} {wo wi wv : WE} (hu : ∀ i, (m i).A.units + 1 < cLine) (ho : CE X m o wo) (hi : CE X m i wi) (hv : CE X m e wv) (hs : ∀ j, swapsWith e (some (.Subscript o i pos')) pos.line (m j).env = pure false := by intro _; rfl) : CS X m (.Assign [.Subscript o i pos'] e pos) (wDPut wo wi wv) := by
  obtain ⟨to, po, od⟩ := ho
  obtain ⟨ti, pi, di⟩ := hi
  obtain ⟨tv, pv', dv⟩ := hv
  refine ⟨fun W => sDPut (to W) (ti W) (tv W), fun i pn xe W tk _ => ps_dput (hu i) (po i pn xe W tk) (pi i pn xe W tk) (pv' i pn xe W tk) (hs i), fun W F H σ ρ M L S P h E hn hr hb hct hx => ?_⟩
  refine dv W F H σ ρ M L S _ _ h _ (fun y dy F1 H1 M1 g1 L1 r1 q1 => ?_) (fun C dx v d F' H' M' g L' e r q => hx C dx v d F' H' σ ρ M' g L' (S.mono g.same) e r q)
  refine od W F1 H1 σ ρ M1 L1 (S.mono g1.same) _ _ q1 _ (fun x dx F2 H2 M2 g2 L2 r2 q2 => ?_) (fun C dx v d F' H' M' g L' e r q => hx C dx v d F' H' σ ρ M' (g1.trans g) L' (S.mono (g1.trans g).same) e r q)
  refine di W F2 H2 σ ρ M2 L2 (S.mono (g1.trans g2).same) _ _ q2 _ (fun z dz F3 H3 M3 g3 L3 r3 q3 => ?_) (fun C dx v d F' H' M' g L' e r q => hx C dx v d F' H' σ ρ M' (g1.trans (g2.trans g)) L' (S.mono (g1.trans (g2.trans g)).same) e r q)
  obtain ⟨p, kvs, kk, rfl, hm, hk, hl, q⟩ := q3
  cases r2
  obtain ⟨f0, ws, ha, rr, nd⟩ := L3.node p _ hm
  rw [keyD_kV r3 hk]
  refine ⟨p, _, rfl, DPut.k ha (by rw [Paired.length rr]; exact hl), ?_⟩
  have gg := g1.trans (g2.trans g3)
  exact hn F3 _ σ ρ _ (gg.trans (.write hm)) (L3.write (n := .dct (putD kvs kk dy)) hm ⟨_, upd_same, isK_put (r1.mono (g2.trans g3).same) rr nd, nodup_putD nd⟩) (S.mono gg.same) q
/-- xs[i] = e -/
def wLPut (wo wi wv : WE) : WS := fun P ρ M => wv (fun y M1 => wo (fun o M2 => wi (fun k M3 => ∃ p xs i j, o = .adr p ∧ M3 p = some (.lst xs) ∧ k = .int i ∧ ixN xs.length i = some j ∧ P.nx ρ (updM M3 p (.lst (xs.set j y)))) (exOf P ρ) ρ M2) (exOf P ρ) ρ M1) (exOf P ρ) ρ M
theorem cs_lput {o i e : Expr} {pos ps' : Pos} {wo wi wv : WE} (ho : CE X m o wo) (hi : CE X m i wi) (hv : CE X m e wv) (hs : ∀ j, swapsWithSole [.Subscript o i ps'] e pos.line (m j).env = pure false := by intro _; rfl) (hw : ∀ j, swappedStores [.Subscript o i ps'] e (m j).env = pure none := by intro _; rfl)
    (h1 : ∀ j, (assignEach [.Subscript o i ps'] (m j).env).map (·.2) = [assign (.Subscript o i ps') (m j).env] := by intro _; rfl)
    (ha : ∀ j v, assign (.Subscript o i ps') (m j).env v = (do
      let ov ← holding [v] (eval o (m j).env)
      let iv ← holding [v, ov] (eval i (m j).env)
      standAt ps'
      holding [v, ov, iv] (setItem ov iv v)
      release [v, ov, iv] []) := by intro _ _; rfl) : CS X m (.Assign [.Subscript o i ps'] e pos) (wLPut wo wi wv) := by
  obtain ⟨to, po, od⟩ := ho
  obtain ⟨ti, pi, di⟩ := hi
  obtain ⟨tv, pv', dv⟩ := hv
  refine ⟨fun W => tAsg (tv W) (gSub (to W) (ti W) rSetL), fun i pn xe W tk _ => ps_asg (pv' i pn xe W tk) (pg_sub (po i pn xe W tk) (pi i pn xe W tk) set_list (ha i)) (hs i) (hw i) (h1 i), fun W F H σ ρ M L S P h E hn hr hb hct hx => ?_⟩
  refine dv W F H σ ρ M L S _ _ h _ (fun y dy F1 H1 M1 g1 L1 r1 q1 => ?_) (fun C dx v d F' H' M' g L' e r q => hx C dx v d F' H' σ ρ M' g L' (S.mono g.same) e r q)
  refine od W F1 H1 σ ρ M1 L1 (S.mono g1.same) _ _ q1 _ (fun x dx F2 H2 M2 g2 L2 r2 q2 => ?_) (fun C dx v d F' H' M' g L' e r q => hx C dx v d F' H' σ ρ M' (g1.trans g) L' (S.mono (g1.trans g).same) e r q)
  refine di W F2 H2 σ ρ M2 L2 (S.mono (g1.trans g2).same) _ _ q2 _ (fun z dz F3 H3 M3 g3 L3 r3 q3 => ?_) (fun C dx v d F' H' M' g L' e r q => hx C dx v d F' H' σ ρ M' (g1.trans (g2.trans g)) L' (S.mono (g1.trans (g2.trans g)).same) e r q)
  obtain ⟨p, xs, i, j, rfl, hm, rfl, hj, q⟩ := q3
  cases r2
  cases r3
  obtain ⟨f0, ws, ha, rr⟩ := L3.node p _ hm
  have gg := g1.trans (g2.trans g3)
  exact ⟨p, ws, i, j, rfl, rfl, ha, by rw [rr.length]; exact hj, hn F3 _ σ ρ _ (gg.trans (.write hm)) (L3.write (n := .lst (xs.set j dy)) hm ⟨_, upd_same, rr.set (r1.mono (g2.trans g3).same) j⟩) (S.mono gg.same) q⟩

/-! ### what is walked -/
abbrev WI := (List D → Mem → Prop) → XEx → Rho → Mem → Prop
structure Walk (K : PySem.W.Frag) (J : It) (F : Hp) (ds : List D) : Prop where
  go : ∀ i F' H' M', Same F F' → Lay K F' H' M' → i < ds.length → J.go i H'
  yld : ∀ i d F' H' M' x H'', Same F F' → Lay K F' H' M' → ds[i]? = some d → J.yld i H' x H'' → ∃ F'', Grow F' H' M' F'' H'' M' ∧ Lay K F'' H'' M' ∧ Is K F'' x d
  stop : ∀ i F' H' M', Same F F' → Lay K F' H' M' → ds.length ≤ i → J.stop i H'
def ID (K : PySem.W.Frag) (W : WX) (wi : TI) (w : WI) : Prop := ∀ (F H : Hp) (σ : L2.St) (ρ : Rho) (M : Mem), Lay K F H M → Slots K F σ ρ → ∀ (Q : List D → Mem → Prop) (E : XEx), w Q E ρ M → ∀ R : It → Hp → Prop,
  (∀ J ds F' H' M', Grow F H M F' H' M' → Lay K F' H' M' → Walk K J F' ds → Q ds M' → R J H') →
  (∀ C dx v d F' H' M', Grow F H M F' H' M' → Lay K F' H' M' → F' dx = some (.xd [(("at" : Str), v)]) → Is K F' v d → E C d M' → W (.ref C) (some dx) σ H') → wi σ H R
variable (X m) in
def CI (tg iter : Expr) (w : WI) : Prop := ∃ wi : WX → TI, (∀ i pn xe W, Takes (mdX X (m i) pn xe) W → PI (mdX X (m i) pn xe) tg iter (wi W)) ∧ ∀ W, ID X.K W (wi W) w
theorem walk_list {F : Hp} {a : Addr} {vs : List V} {ds : List D} (h : SqL K F a vs) (r : IsA K F vs ds) : Walk K (Itl K a) F ds where
  go := fun i F' H' M' s L hi => by
    have hv : i < vs.length := by rw [r.length]; exact hi
    exact ⟨vs, vs[i], L.list (s.seq h), by simp [hv]⟩
  yld := fun i d F' H' M' x H'' s L e y => by
    obtain ⟨rfl, y⟩ := y
    obtain ⟨v, ev, rv⟩ := (r.mono s).get e
    have := y vs (L.list (s.seq h))
    rw [ev] at this
    cases this
    exact ⟨F', .refl, L, rv⟩
  stop := fun i F' H' M' s L hi => ⟨vs, L.list (s.seq h), by rw [r.length]; exact hi⟩
theorem walk_tup {F : Hp} {a : Addr} {vs : List V} {ds : List D} (h : SqT K F a vs) (r : IsA K F vs ds) : Walk K (Itt K a) F ds where
  go := fun i F' H' M' s L hi => by
    have hv : i < vs.length := by rw [r.length]; exact hi
    exact ⟨vs, vs[i], L.tup (Same.tupS s h), by simp [hv]⟩
  yld := fun i d F' H' M' x H'' s L e y => by
    obtain ⟨rfl, y⟩ := y
    obtain ⟨v, ev, rv⟩ := (r.mono s).get e
    have := y vs (L.tup (Same.tupS s h))
    rw [ev] at this
    cases this
    exact ⟨F', .refl, L, rv⟩
  stop := fun i F' H' M' s L hi => ⟨vs, L.tup (Same.tupS s h), by rw [r.length]; exact hi⟩
def intsFrom (lo : Int) (n : Nat) : List D := (List.range n).map fun (i : Nat) => D.int (lo + (i : Int))
theorem intsFrom_length {lo : Int} {n : Nat} : (intsFrom lo n).length = n := by simp [intsFrom]
theorem walk_range {F : Hp} {lo : Int} {n : Nat} : Walk K (Itr lo n) F (intsFrom lo n) where
  go := fun i F' H' M' s L hi => by rw [intsFrom_length] at hi; exact hi
  yld := fun i d F' H' M' x H'' s L e y => by
    obtain ⟨rfl, rfl⟩ := y
    have hi : i < n := by
      have := (List.getElem?_eq_some_iff.mp e).1
      rw [intsFrom_length] at this
      exact this
    have : d = .int (lo + i) := by
      have e2 : (intsFrom lo n)[i]? = some (.int (lo + i)) := by simp [intsFrom, hi]
      rw [e2] at e
      exact (Option.some.inj e).symm
    subst this
    exact ⟨F', .refl, L, .int _⟩
  stop := fun i F' H' M' s L hi => by rw [intsFrom_length] at hi; exact hi
/-- a list, a tuple -/
def wIterL (we : WE) : WI := fun Q E ρ M => we (fun o M1 => ∃ ds, (o = .lst ds ∨ o = .seq ds) ∧ Q ds M1) E ρ M
def wIterT (we : WE) : WI := fun Q E ρ M => we (fun o M1 => ∃ ds, o = .tup ds ∧ Q ds M1) E ρ M
theorem ci_list {tg e : Expr} {we : WE} (he : CE X m e we) : CI X m tg e (wIterL we) := by
  obtain ⟨te, p, d⟩ := he
  refine ⟨fun W => iList X.K (te W), fun i pn xe W tk => pi_list (p i pn xe W tk), fun W F H σ ρ M L S Q E h R hq hx => ?_⟩
  refine d W F H σ ρ M L S _ _ h _ (fun v o F1 H1 M1 g1 L1 r1 q1 => ?_) hx
  obtain ⟨ds, ho, q⟩ := q1
  have key : ∃ a vs, v = .ref a ∧ SqL X.K F1 a vs ∧ IsA X.K F1 vs ds := by
    rcases ho with rfl | rfl
    · cases r1 with
      | lst h a => exact ⟨_, _, rfl, .inl (.inl h), a⟩
    · cases r1 with
      | seq h a => exact ⟨_, _, rfl, h, a⟩
  obtain ⟨a, vs, rfl, h1, h2⟩ := key
  exact ⟨a, rfl, ⟨vs, L1.list h1⟩, hq _ ds F1 H1 M1 g1 L1 (walk_list h1 h2) q⟩
theorem ci_tup {tg e : Expr} {we : WE} (he : CE X m e we) : CI X m tg e (wIterT we) := by
  obtain ⟨te, p, d⟩ := he
  refine ⟨fun W => iTup X.K (te W), fun i pn xe W tk => pi_tup (p i pn xe W tk), fun W F H σ ρ M L S Q E h R hq hx => ?_⟩
  refine d W F H σ ρ M L S _ _ h _ (fun v o F1 H1 M1 g1 L1 r1 q1 => ?_) hx
  obtain ⟨ds, rfl, q⟩ := q1
  cases r1 with
  | @tup a vs _ h1 h2 => exact ⟨a, rfl, ⟨vs, L1.tup h1⟩, hq _ ds F1 H1 M1 g1 L1 (walk_tup h1 h2) q⟩
def wRange1 (wa : WA) : WI := fun Q E ρ M => wa (fun ds M1 => ∃ j : Int, ds = [.int j] ∧ -(2 ^ 62) ≤ j ∧ j < 2 ^ 62 ∧ Q (intsFrom 0 j.toNat) M1) E ρ M
def wRange2 (wa : WA) : WI := fun Q E ρ M => wa (fun ds M1 => ∃ i j : Int, ds = [.int i, .int j] ∧ (-(2 ^ 62) ≤ i ∧ i < 2 ^ 62 ∧ -(2 ^ 62) ≤ j ∧ j < 2 ^ 62) ∧ Q (intsFrom i (j - i).toNat) M1) E ρ M
theorem ci_range1 {tg a : Expr} {p pos : Pos} {wa : WA} (hm : X.mg "range" = none) (ha : CA X m [a] wa) (hg : ∀ i, (m i).env.kindOf "range" = some .globalImplicit := by intro _; rfl) (hs : ∀ i, starEach [a] (m i).env = [(false, eval a (m i).env)] := by intro _; rfl) : CI X m tg (.Call (.Name "range" p) [a] [] pos) (wRange1 wa) := by
  obtain ⟨ta, pa, d⟩ := ha
  refine ⟨fun W => iRng1 (ta W), fun i pn xe W tk => pi_range1 (hg i) hm (pa i pn xe W tk) (hs i), fun W F H σ ρ M L S Q E h R hq hx => ?_⟩
  refine d W F H σ ρ M L S _ _ h _ (fun vs ds F1 H1 M1 g1 L1 r1 q1 => ?_) hx
  obtain ⟨j, rfl, h1, h2, q⟩ := q1
  cases r1 with
  | cons r1 r2 =>
    cases r2
    cases r1
    exact ⟨j, rfl, h1, h2, hq _ _ F1 H1 M1 g1 L1 walk_range q⟩
theorem ci_range2 {tg a b : Expr} {p pos : Pos} {wa : WA} (hm : X.mg "range" = none) (ha : CA X m [a, b] wa) (hg : ∀ i, (m i).env.kindOf "range" = some .globalImplicit := by intro _; rfl) (hs : ∀ i, starEach [a, b] (m i).env = [(false, eval a (m i).env), (false, eval b (m i).env)] := by intro _; rfl)
    (hs2 : ∀ i, starEach [b] (m i).env = [(false, eval b (m i).env)] := by intro _; rfl) : CI X m tg (.Call (.Name "range" p) [a, b] [] pos) (wRange2 wa) := by
  obtain ⟨ta, pa, d⟩ := ha
  refine ⟨fun W => iRng2 (ta W), fun i pn xe W tk => pi_range2 (hg i) hm (pa i pn xe W tk) (hs i) (hs2 i), fun W F H σ ρ M L S Q E h R hq hx => ?_⟩
  refine d W F H σ ρ M L S _ _ h _ (fun vs ds F1 H1 M1 g1 L1 r1 q1 => ?_) hx
  obtain ⟨i, j, rfl, h1, q⟩ := q1
  cases r1 with
  | cons r1 r2 =>
    cases r2 with
    | cons r2 r3 =>
      cases r3
      cases r1
      cases r2
      exact ⟨i, j, rfl, h1, hq _ _ F1 H1 M1 g1 L1 walk_range q⟩

/-! ### for -/
def forD (wg : WG) (wb : WS) : List D → Posts → Rho → Mem → Prop
  | [], P, ρ, M => P.nx ρ M
  | d :: ds, P, ρ, M => wg d (fun ρ1 M1 => wb { P with nx := forD wg wb ds P, ct := forD wg wb ds P, bk := P.nx } ρ1 M1) ρ M
def wFor (w : WI) (wg : WG) (wb : WS) : WS := fun P ρ M => w (fun ds M1 => forD wg wb ds P ρ M1) (exOf P ρ) ρ M
theorem sd_for {wi : TI} {w : WI} {g : TG} {wg : WG} {ws : List Nat} {tb : TS} {wb : WS} (hi : ID K W wi w) (hg : GD K g wg ws) (hb : SD K W tb wb) : SD K W (tFor wi g tb) (wFor w wg wb) := fun F H σ ρ M L S P h E hn hr hbk hct hx => by
  refine hi F H σ ρ M L S _ _ h _ (fun J ds F1 H1 M1 g1 L1 wk q1 => ?_) (fun C dx v d F' H' M' g L' e r q => hx C dx v d F' H' σ ρ M' g L' (S.mono g.same) e r q)
  refine ⟨fun i n σ' H' => n = ds.length - i ∧ i ≤ ds.length ∧ ∃ F' ρ' M', Grow F1 H1 M1 F' H' M' ∧ Lay K F' H' M' ∧ Slots K F' σ' ρ' ∧ forD wg wb (ds.drop i) P ρ' M', ⟨ds.length, by simp, Nat.zero_le _, F1, ρ, M1, .refl, L1, S.mono g1.same, q1⟩, ?_⟩
  rintro i n σ' H' ⟨rfl, hi', F', ρ', M', g2, L2, S2, q2⟩
  by_cases hlt : i < ds.length
  · refine .inr ⟨wk.go i F' H' M' g2.same L2 hlt, fun σ3 H3 => ∃ F3 ρ3 M3, Grow F1 H1 M1 F3 H3 M3 ∧ Lay K F3 H3 M3 ∧ Slots K F3 σ3 ρ3 ∧ forD wg wb (ds.drop (i + 1)) P ρ3 M3, fun σ3 H3 z => ⟨ds.length - (i + 1), by omega, rfl, hlt, z⟩, fun x H3 y => ?_⟩
    rw [List.drop_eq_getElem_cons hlt] at q2
    obtain ⟨F3, g3, L3, ix⟩ := wk.yld i ds[i] F' H' M' x H3 g2.same L2 (List.getElem?_eq_getElem hlt) y
    refine hg F3 H3 σ' ρ' M' L3 (S2.mono g3.same) x _ ix _ q2 _ (fun F4 H4 σ4 ρ4 M4 g4 L4 S4 _ q4 => ?_)
    have g14 := g2.trans (g3.trans g4)
    exact hb F4 H4 σ4 ρ4 M4 L4 S4 _ q4 _ (fun F5 H5 σ5 ρ5 M5 g5 L5 S5 q5 => ⟨F5, ρ5, M5, g14.trans g5, L5, S5, q5⟩) (fun v d F5 H5 M5 g5 L5 r q => hr v d F5 H5 M5 (g1.trans (g14.trans g5)) L5 r q)
      (fun F5 H5 σ5 ρ5 M5 g5 L5 S5 q5 => hn F5 H5 σ5 ρ5 M5 (g1.trans (g14.trans g5)) L5 S5 q5) (fun F5 H5 σ5 ρ5 M5 g5 L5 S5 q5 => ⟨F5, ρ5, M5, g14.trans g5, L5, S5, q5⟩)
      (fun C dx v d F5 H5 σ5 ρ5 M5 g5 L5 S5 e r q => hx C dx v d F5 H5 σ5 ρ5 M5 (g1.trans (g14.trans g5)) L5 S5 e r q)
  · have e : ds.drop i = [] := List.drop_eq_nil_of_le (by omega)
    rw [e] at q2
    exact .inl ⟨wk.stop i F' H' M' g2.same L2 (by omega), hn F' H' σ' ρ' M' (g1.trans g2) L2 S2 q2⟩
theorem cs_for {tg iter : Expr} {body : List Stmt} {pos : Pos} {w : WI} {wg : WG} {ws : List Nat} {wb : WS} (hi : CI X m tg iter w) (hg : CG X m tg wg ws) (hb : CB X m body wb) (hc : ∀ i, (m i).calm = true := by intro _; rfl) (hs : ∀ i x, foldedSetIterable iter (m i).env x = pure x := by intro _ _; rfl) : CS X m (.For tg iter body [] pos) (wFor w wg wb) := by
  obtain ⟨wi, p1, d1⟩ := hi
  obtain ⟨g, p2, d2⟩ := hg
  obtain ⟨tb, p3, d3⟩ := hb
  exact ⟨fun W => tFor (wi W) g (tb W), fun i pn xe W tk po => ps_for po (hc i) (p1 i pn xe W tk) (p2 i pn xe) (p3 i pn xe W tk po) (hs i), fun W => sd_for (d1 W) d2 (d3 W)⟩

/-! ### while -/
def wWhile (wt : WT) (wb : WS) : WS := fun P ρ M => ∃ I : Nat → Rho → Mem → Prop, (∃ n, I n ρ M) ∧ ∀ n ρ M, I n ρ M →
  wt (fun b M1 => if b = true then wb { P with nx := fun ρ' M' => ∃ n', n' < n ∧ I n' ρ' M', ct := fun ρ' M' => ∃ n', n' < n ∧ I n' ρ' M', bk := P.nx } ρ M1 else P.nx ρ M1) (exOf P ρ) ρ M
theorem sd_while {tt : TT} {wt : WT} {tb : TS} {wb : WS} (ht : TD K W tt wt) (hb : SD K W tb wb) : SD K W (tWhile tt tb) (wWhile wt wb) := fun F H σ ρ M L S P h E hn hr hbk hct hx => by
  obtain ⟨I, ⟨n0, i0⟩, turn⟩ := h
  refine ⟨fun n σ' H' => ∃ F' ρ' M', Grow F H M F' H' M' ∧ Lay K F' H' M' ∧ Slots K F' σ' ρ' ∧ I n ρ' M', ⟨n0, F, ρ, M, .refl, L, S, i0⟩, ?_⟩
  rintro n σ' H' ⟨F', ρ', M', g1, L1, S1, i1⟩
  refine ht F' H' σ' ρ' M' L1 S1 _ _ (turn n ρ' M' i1) _ (fun b F2 H2 M2 g2 L2 q2 => ?_) (fun C dx v d F2 H2 M2 g2 L2 e r q => hx C dx v d F2 H2 σ' ρ' M2 (g1.trans g2) L2 (S1.mono g2.same) e r q)
  cases b with
  | false =>
    rw [if_neg Bool.false_ne_true] at q2 ⊢
    exact hn F2 H2 σ' ρ' M2 (g1.trans g2) L2 (S1.mono g2.same) q2
  | true =>
    rw [if_pos rfl] at q2 ⊢
    refine ⟨fun σ3 H3 => ∃ n', n' < n ∧ ∃ F3 ρ3 M3, Grow F H M F3 H3 M3 ∧ Lay K F3 H3 M3 ∧ Slots K F3 σ3 ρ3 ∧ I n' ρ3 M3, fun σ3 H3 z => z, ?_⟩
    have g12 := g1.trans g2
    exact hb F2 H2 σ' ρ' M2 L2 (S1.mono g2.same) _ q2 _ (fun F5 H5 σ5 ρ5 M5 g5 L5 S5 ⟨n', hn', q5⟩ => ⟨n', hn', F5, ρ5, M5, g12.trans g5, L5, S5, q5⟩) (fun v d F5 H5 M5 g5 L5 r q => hr v d F5 H5 M5 (g12.trans g5) L5 r q)
      (fun F5 H5 σ5 ρ5 M5 g5 L5 S5 q5 => hn F5 H5 σ5 ρ5 M5 (g12.trans g5) L5 S5 q5) (fun F5 H5 σ5 ρ5 M5 g5 L5 S5 ⟨n', hn', q5⟩ => ⟨n', hn', F5, ρ5, M5, g12.trans g5, L5, S5, q5⟩)
      (fun C dx v d F5 H5 σ5 ρ5 M5 g5 L5 S5 e r q => hx C dx v d F5 H5 σ5 ρ5 M5 (g12.trans g5) L5 S5 e r q)
theorem cs_while {c : Expr} {body : List Stmt} {pos : Pos} {wt : WT} {wb : WS} (hc : CT X m c wt) (hb : CB X m body wb) : CS X m (.While c body [] pos) (wWhile wt wb) := by
  obtain ⟨tc, p1, d1⟩ := hc
  obtain ⟨tb, p2, d2⟩ := hb
  exact ⟨fun W => tWhile (tc W) (tb W), fun i pn xe W tk po => ps_while po (p1 i pn xe W tk) (p2 i pn xe W tk po), fun W => sd_while (d1 W) (d2 W)⟩

/-! ### comprehensions -/
structure BIx (ι : Type) where
  i : ι
  s : Shared
  H : Hp
  C : Addr
  cl : List (Str × Addr)
  fp : List Addr
abbrev mBlk (m : ι → Md) (scope : Scope) : BIx ι → Md := fun b => { A := (m b.i).A, s_0 := b.s, H_0 := b.H, env := compEnvC scope b.cl b.C (m b.i).env, outer := (m b.i).stack, stack := (m b.i).stack, ex := b.fp, fn := fun x => scope.names.lookup x == some .cell, calm := (m b.i).calm }
abbrev NoX : XEx := fun _ _ _ => False
def W0 : WX := fun _ _ _ _ => False
def lcD (wg : WG) (wt : WT) (we : WE) (own : List Nat) (Q : List D → Mem → Prop) (ρ : Rho) : List D → List D → Mem → Prop
  | [], acc, M => Q acc M
  | d :: ds, acc, M => wg d (fun ρ1 M1 => wt (fun b M2 => if b = true then we (fun y M3 => acc.length < sizeLine ∧ lcD wg wt we own Q ρ ds (acc ++ [y]) M3) NoX ρ1 M2 else lcD wg wt we own Q ρ ds acc M2) NoX ρ1 M1) (wipeD ρ own) M
def wYes : WT := fun Q _ _ M => Q true M
theorem td_yes : TD K W tYes wYes := fun F H σ ρ M L S Q E h QV hq hx => hq true F H M .refl L h
variable (X m) in
def CTs (ifs : List Expr) (wt : WT) : Prop := ∃ tt : WX → TT, (∀ i pn xe W, Takes (mdX X (m i) pn xe) W → PTs (mdX X (m i) pn xe) ifs (tt W)) ∧ ∀ W, TD X.K W (tt W) wt
theorem cts_nil : CTs X m [] wYes := ⟨fun _ => tYes, fun _ _ _ _ _ => pts_nil, fun _ => td_yes⟩
theorem cts_one {c : Expr} {wt : WT} (h : CT X m c wt) : CTs X m [c] wt := by
  obtain ⟨tt, p, d⟩ := h
  exact ⟨tt, fun i pn xe W tk => pts_one (p i pn xe W tk), d⟩
/-- the end: R is what is made of the list at D -/
theorem ed_lcG {wi : TI} {w : WI} {g : TG} {wg : WG} {ws : List Nat} {tt : TT} {wt : WT} {te : TE} {we : WE} {own : List Nat} {RQ : (D → Mem → Prop) → List D → Mem → Prop} (hi : ID K W wi w) (hg : GD K g wg ws) (hws : ∀ i ∈ ws, i ∈ own) (ht : TD K W0 tt wt) (he : ED K W0 te we)
    (fin : ∀ (F H : Hp) (M : Mem) (p : Addr) (vs : List V) (acc : List D) (Q : D → Mem → Prop), Lay K F H M → F p = none → M p = none → H p = some (.lst vs) → IsA K F vs acc → RQ Q acc M → ∃ F' M' d, Lay K F' H M' ∧ Same F F' ∧ (∀ a, a ≠ p → F' a = F a ∧ M' a = M a) ∧ Is K F' (.ref p) d ∧ Q d M') :
    ED K W (tLc wi g tt te own) (fun Q E ρ M => w (fun ds M1 => lcD wg wt we own (RQ Q) ρ ds [] M1) E ρ M) := fun F H σ ρ M L S Q E h QV hq hx => by
  refine hi F H σ ρ M L S _ _ h _ (fun J ds F1 H1 M1 g1 L1 wk q1 => ?_) hx
  intro p hp
  have S1 := S.mono g1.same
  refine ⟨fun i n H' => n = ds.length - i ∧ i ≤ ds.length ∧ ∃ F' M' vs acc, Grow F1 H1 M1 F' H' M' ∧ Lay K F' H' M' ∧ F' p = none ∧ M' p = none ∧ H' p = some (.lst vs) ∧ IsA K F' vs acc ∧ lcD wg wt we own (RQ Q) ρ (ds.drop i) acc M',
    ⟨ds.length, by simp, Nat.zero_le _, F1, M1, [], [], ⟨Same.refl _, fun a h1 h2 h3 => ⟨upd_ne (fun z => h1 (by rw [z]; exact hp)), h2, h3⟩⟩, L1.hide _ (L1.fnone hp) (L1.mnone hp), L1.fnone hp, L1.mnone hp, upd_same, .nil, q1⟩, ?_⟩
  rintro i n H' ⟨rfl, hi', F', M', vs, acc, g2, Lb, f2, m2, h2, r2, q2⟩
  by_cases hlt : i < ds.length
  · refine .inr ⟨wk.go i F' H' M' g2.same Lb hlt, fun H3 => ∃ F' M' vs acc, Grow F1 H1 M1 F' H3 M' ∧ Lay K F' H3 M' ∧ F' p = none ∧ M' p = none ∧ H3 p = some (.lst vs) ∧ IsA K F' vs acc ∧ lcD wg wt we own (RQ Q) ρ (ds.drop (i + 1)) acc M', fun H3 z => ⟨ds.length - (i + 1), by omega, rfl, hlt, z⟩, fun x H3 y => ?_⟩
    rw [List.drop_eq_getElem_cons hlt] at q2
    obtain ⟨F3, g3, L3, ix⟩ := wk.yld i ds[i] F' H' M' x H3 g2.same Lb (List.getElem?_eq_getElem hlt) y
    have Sw : Slots K F3 (L2.wipe σ own) (wipeD ρ own) := (S1.mono (g2.same.trans g3.same)).wipe own
    refine hg F3 H3 _ _ M' L3 Sw x _ ix _ q2 _ (fun F4 H4 σ4 ρ4 M4 g4 L4 S4 w4 q4 => ⟨(w4 own hws).trans (wipe_wipe σ own), ?_⟩)
    refine ht F4 H4 σ4 ρ4 M4 L4 S4 _ _ q4 _ (fun b F5 H5 M5 g5 L5 q5 => ?_) (fun C dx v d F' H' M' g L' e r q => q.elim)
    have hp2 : H' p ≠ none := by rw [h2]; simp
    have gp : ∀ {F6 H6 : Hp} {M6 : Mem}, Grow F' H' M' F6 H6 M6 → H6 p = some (.lst vs) ∧ F6 p = none ∧ M6 p = none := fun {F6 H6 M6} g => by
      obtain ⟨e1, e2, e3⟩ := g.hid p hp2 f2 m2
      exact ⟨e1.trans h2, e2, e3⟩
    have g25 := g3.trans (g4.trans g5)
    cases b with
    | false =>
      rw [if_neg Bool.false_ne_true] at q5 ⊢
      obtain ⟨e1, e2, e3⟩ := gp g25
      exact ⟨F5, M5, vs, acc, g2.trans g25, L5, e2, e3, e1, r2.mono g25.same, q5⟩
    | true =>
      rw [if_pos rfl] at q5 ⊢
      refine he F5 H5 σ4 ρ4 M5 L5 (S4.mono g5.same) _ _ q5 _ (fun y d F6 H6 M6 g6 L6 r6 q6 => ?_) (fun C dx v d F' H' M' g L' e r q => q.elim)
      obtain ⟨hl, q6⟩ := q6
      have g26 := g25.trans g6
      obtain ⟨e1, e2, e3⟩ := gp g26
      refine ⟨vs, e1, by rw [r2.length]; exact hl, F6, M6, vs ++ [y], acc ++ [d], ⟨(g2.trans g26).same, fun a h1 h2 h3 => ?_⟩, L6.hide _ e2 e3, e2, e3, upd_same, (r2.mono g26.same).append (.cons r6 .nil), q6⟩
      obtain ⟨z1, z2, z3⟩ := (g2.trans g26).hid a h1 h2 h3
      exact ⟨(upd_ne (fun z => h1 (by rw [z]; exact hp))).trans z1, z2, z3⟩
  · have e : ds.drop i = [] := List.drop_eq_nil_of_le (by omega)
    rw [e] at q2
    obtain ⟨F6, M6, d, L6, s6, o6, r6, q6⟩ := fin F' H' M' p vs acc Q Lb f2 m2 h2 r2 q2
    refine .inl ⟨wk.stop i F' H' M' g2.same Lb (by omega), hq _ d F6 H' M6 (g1.trans (⟨g2.same.trans s6, fun a h1 h2 h3 => ?_⟩ : Grow F1 H1 M1 F6 H' M6)) L6 r6 q6⟩
    obtain ⟨z1, z2, z3⟩ := g2.hid a h1 h2 h3
    obtain ⟨z4, z5⟩ := o6 a (fun z => h1 (by rw [z]; exact hp))
    exact ⟨z1, z4.trans z2, z5.trans z3⟩
def wLc (w : WI) (wg : WG) (wt : WT) (we : WE) (own : List Nat) : WE := fun Q E ρ M => w (fun ds M1 => lcD wg wt we own (fun acc M2 => Q (.lst acc) M2) ρ ds [] M1) E ρ M
def wLcM (w : WI) (wg : WG) (wt : WT) (we : WE) (own : List Nat) : WE := fun Q E ρ M => w (fun ds M1 => lcD wg wt we own (fun acc M2 => ∀ p, M2 p = none → Q (.adr p) (updM M2 p (.lst acc))) ρ ds [] M1) E ρ M
theorem ed_lc {wi : TI} {w : WI} {g : TG} {wg : WG} {ws : List Nat} {tt : TT} {wt : WT} {te : TE} {we : WE} {own : List Nat} (hi : ID K W wi w) (hg : GD K g wg ws) (hws : ∀ i ∈ ws, i ∈ own) (ht : TD K W0 tt wt) (he : ED K W0 te we) : ED K W (tLc wi g tt te own) (wLc w wg wt we own) :=
  ed_lcG (RQ := fun Q acc M2 => Q (.lst acc) M2) hi hg hws ht he fun F H M p vs acc Q L hf hm h r q =>
    ⟨upd F p (.lst vs), M, .lst acc, L.freeze hf hm h, Same.new hf, fun a ha => ⟨upd_ne ha, rfl⟩, .lst upd_same (r.mono (Same.new hf)), q⟩
theorem ed_lcM {wi : TI} {w : WI} {g : TG} {wg : WG} {ws : List Nat} {tt : TT} {wt : WT} {te : TE} {we : WE} {own : List Nat} (hi : ID K W wi w) (hg : GD K g wg ws) (hws : ∀ i ∈ ws, i ∈ own) (ht : TD K W0 tt wt) (he : ED K W0 te we) : ED K W (tLc wi g tt te own) (wLcM w wg wt we own) :=
  ed_lcG (RQ := fun Q acc M2 => ∀ p, M2 p = none → Q (.adr p) (updM M2 p (.lst acc))) hi hg hws ht he fun F H M p vs acc Q L hf hm h r q =>
    ⟨F, updM M p (.lst acc), .adr p, L.adopt (n := .lst acc) hf ⟨vs, h, r⟩, Same.refl F, fun a ha => ⟨rfl, updM_ne ha⟩, .adr p, q p hm⟩
section
variable {elt tg iter : Expr} {ifs : List Expr} {scope : Scope} {own : List (Str × Nat)} {pos : Pos} {w : WI} {wg : WG} {ws : List Nat} {wt : WT} {we : WE}
theorem lc_pe (own : List (Str × Nat)) (hN : X.N.Nodup) (hi : CI X m tg iter w) (ok : ∀ i, BlkOk X.N (m i).env.scope scope own) (hg : CG X (mBlk m scope) tg wg ws) (ht : CTs X (mBlk m scope) ifs wt) (he : CE X (mBlk m scope) elt we) (hc : ∀ i, (m i).calm = true := by intro _; rfl) (hs : ∀ i x, foldedSetIterable iter (m i).env x = pure x := by intro _ _; rfl) :
    ∃ (wi : WX → TI) (g : TG) (tt : TT) (te : TE), (∀ i pn xe W, Takes (mdX X (m i) pn xe) W → PE (mdX X (m i) pn xe) (.ListComp elt [⟨tg, iter, ifs, 0⟩] scope pos) (tLc (wi W) g tt te (own.map (·.2)))) ∧ (∀ W, ID X.K W (wi W) w) ∧ GD X.K g wg ws ∧ TD X.K W0 tt wt ∧ ED X.K W0 te we := by
  obtain ⟨wi, p1, d1⟩ := hi
  obtain ⟨g, p2, d2⟩ := hg
  obtain ⟨tt, p3, d3⟩ := ht
  obtain ⟨te, p4, d4⟩ := he
  refine ⟨wi, g, tt W0, te W0, fun i pn xe W tk => ?_, d1, d2, d3 W0, d4 W0⟩
  exact pe_lc (hc i) hN (p1 i pn xe W tk) (ok i) (fun s H C cl fp => p2 ⟨i, s, H, C, cl, fp⟩ [] (fun _ _ => False)) (fun s H C cl fp => p3 ⟨i, s, H, C, cl, fp⟩ [] (fun _ _ => False) W0 takes0) (fun s H C cl fp => p4 ⟨i, s, H, C, cl, fp⟩ [] (fun _ _ => False) W0 takes0) (hs i)
theorem ce_lc (own : List (Str × Nat)) (hN : X.N.Nodup) (hi : CI X m tg iter w) (ok : ∀ i, BlkOk X.N (m i).env.scope scope own) (hg : CG X (mBlk m scope) tg wg ws) (ht : CTs X (mBlk m scope) ifs wt) (he : CE X (mBlk m scope) elt we) (hws : ∀ i ∈ ws, i ∈ own.map (·.2) := by decide) (hc : ∀ i, (m i).calm = true := by intro _; rfl) (hs : ∀ i x, foldedSetIterable iter (m i).env x = pure x := by intro _ _; rfl) :
    CE X m (.ListComp elt [⟨tg, iter, ifs, 0⟩] scope pos) (wLc w wg wt we (own.map (·.2))) := by
  obtain ⟨wi, g, tt, te, p, d1, d2, d3, d4⟩ := lc_pe (pos := pos) own hN hi ok hg ht he hc hs
  exact ⟨fun W => tLc (wi W) g tt te (own.map (·.2)), p, fun W => ed_lc (d1 W) d2 hws d3 d4⟩
theorem ce_lcM (own : List (Str × Nat)) (hN : X.N.Nodup) (hi : CI X m tg iter w) (ok : ∀ i, BlkOk X.N (m i).env.scope scope own) (hg : CG X (mBlk m scope) tg wg ws) (ht : CTs X (mBlk m scope) ifs wt) (he : CE X (mBlk m scope) elt we) (hws : ∀ i ∈ ws, i ∈ own.map (·.2) := by decide) (hc : ∀ i, (m i).calm = true := by intro _; rfl) (hs : ∀ i x, foldedSetIterable iter (m i).env x = pure x := by intro _ _; rfl) :
    CE X m (.ListComp elt [⟨tg, iter, ifs, 0⟩] scope pos) (wLcM w wg wt we (own.map (·.2))) := by
  obtain ⟨wi, g, tt, te, p, d1, d2, d3, d4⟩ := lc_pe (pos := pos) own hN hi ok hg ht he hc hs
  exact ⟨fun W => tLc (wi W) g tt te (own.map (·.2)), p, fun W => ed_lcM (d1 W) d2 hws d3 d4⟩
end
end

/-! ### a def -/
section
variable {P : Program} {w : World} {K : PySem.W.Frag} {mg : Str → Option Value} {base : Heap}
abbrev ctxD (P : Program) (w : World) (K : PySem.W.Frag) (mg : Str → Option Value) (base : Heap) (N : List Str) (qual : Str) (scope : Scope) (f : Addr) (cd : Value) (A : Around) (outer : List Env) (s : Shared) (H : Hp) (E : XK) : Cx := cxOf (L2N.CX P w) P w K mg base N qual scope f cd A outer s H E
theorem isA_get {F : Hp} : ∀ {vs : List V} {ds : List D}, IsA K F vs ds → ∀ (i : Nat) (d : D), ds[i]? = some d → ∃ v, vs[i]? = some v ∧ Is K F v d := fun h i d e => h.get e
theorem slots_start {F : Hp} {N : List Str} {vs : List V} {ds : List D} (h : IsA K F vs ds) : Slots K F (L2.start N vs) (ds.map some ++ List.replicate (N.length - ds.length) none) := by
  refine ⟨by simp [L2.start, h.length], fun i d e => ?_⟩
  by_cases hi : i < ds.length
  · rw [List.getElem?_append_left (by simpa using hi), List.getElem?_map] at e
    cases z : ds[i]? with
    | none => rw [z] at e; cases e
    | some x =>
      rw [z] at e
      cases e
      obtain ⟨v, h1, h2⟩ := h.get z
      refine ⟨v, ?_, h2⟩
      show (vs.map some ++ List.replicate (N.length - vs.length) none)[i]? = _
      rw [List.getElem?_append_left (by rw [List.length_map, h.length]; exact hi), List.getElem?_map, h1]
      rfl
  · rw [List.getElem?_append_right (by simpa using hi)] at e
    have := List.mem_of_getElem? e
    simp at this
/-- a def of the text as it stands behind the top, its defaults whatever they are -/
structure FunX (K : PySem.W.Frag) (x qual : Str) (st : Stmt) (f : Addr) (fd : FuncData) : Prop where
  ex : ∃ (oc : Value) (od : Option Addr) (dV kV doc pm : Value) (an : Option Addr) (cdv ct : Value) (osl : Array (Option Value)),
    fd = PySem.W.fnOf x qual (defArgs st) (defBody st) (defScope st) dV kV doc pm an cdv ct ∧ K.lookup f = some ⟨oc, od, .func fd, osl⟩ ∧ PySem.W.codeIn K cdv qual = true
  kp : PySem.W.keepIn K (.ref f) = true
theorem funx_mk {x qual : Str} {st : Stmt} {f : Addr} {oc : Value} {od an : Option Addr} {osl : Array (Option Value)} {dV kV doc pm cdv ct : Value} (l : K.lookup f = some ⟨oc, od, .func (PySem.W.fnOf x qual (defArgs st) (defBody st) (defScope st) dV kV doc pm an cdv ct), osl⟩)
    (c : PySem.W.codeIn K cdv qual = true) (k : PySem.W.keepIn K (.ref f) = true) : FunX K x qual st f (PySem.W.fnOf x qual (defArgs st) (defBody st) (defScope st) dV kV doc pm an cdv ct) := ⟨⟨oc, od, dV, kV, doc, pm, an, cdv, ct, osl, rfl, l, c⟩, k⟩
theorem FnD.never {k : Nat} {f : Addr} {fd : FuncData} {ps : List Str} : FnD P w K mg base k f fd ps (fun _ _ _ _ => False) :=
  ⟨fun _ _ _ _ ⟨_, _, _, _, _, _, _, h, _⟩ => h.elim, fun _ _ _ _ _ _ _ _ _ _ _ _ _ ⟨_, _, _, _, _, _, _, h, _⟩ => h.elim⟩
/-- THE RULE for a def -/
theorem FunD {x qual : Str} {st : Stmt} {f : Addr} {fd : FuncData} {N ps : List Str} {k : Nat} {sp : DSp} (F : FunX K x qual st f fd) (Sc : FnScope N ps (defScope st)) (len : ∀ ds M Q E, sp ds M Q E → ds.length = ps.length)
    (hbody : ∀ (cdv : Value) (A : Around) (outer : List Env) (s : Shared) (H : Hp) (E : XK), Room k (A.deeper (envOfC qual (defScope st) s.heap.objs.size f cdv)) →
      ∃ ws, CB (ctxD P w K mg base N qual (defScope st) f cdv A outer s H E) (fun _ : Unit => mdOf (ctxD P w K mg base N qual (defScope st) f cdv A outer s H E)) (defBody st) ws ∧
        ∀ ds M Q Ex, sp ds M Q Ex → ws { nx := fun _ M' => Q .non M', rt := Q, ex := fun C d _ M' => Ex C d M' } (ds.map some ++ List.replicate (N.length - ds.length) none) M) : FnD P w K mg base (k + 1) f fd ps sp := by
  obtain ⟨oc, od, dV, kV, doc, pm, an, cdv, ct, osl, rfl, lk, hcd⟩ := F.ex
  refine fn_of lk hcd Sc (fun vs H Q E ⟨F1, M, ds, Q', E', L, i, hs, hq, hx⟩ => i.length.trans (len ds M Q' E' hs)) fun A outer s H vs Q E hr h => ?_
  obtain ⟨F1, M, ds, Q', E', L, i, hs, hq, hx⟩ := h
  obtain ⟨ws, ⟨ts, pb, db⟩, hw⟩ := hbody cdv A outer s H E hr
  refine ⟨ts (fun cls d _ H => E cls d H), ?_, ?_⟩
  · exact pb () [] _ _ (L2N.takes_of rfl rfl rfl rfl) PassesOwn.leaving
  · refine db _ F1 H (L2.start N vs) _ M L (slots_start i) _ (hw ds M Q' E' hs) _ (fun F' H' σ' ρ' M' g L' S' q => hq _ _ F' H' M' g L' .non q) (fun v d F' H' M' g L' r q => hq v d F' H' M' g L' r q)
      (fun F' H' σ' ρ' M' g L' S' q => q.elim) (fun F' H' σ' ρ' M' g L' S' q => q.elim) (fun C dx v d F' H' σ' ρ' M' g L' S' e r q => hx C dx v d F' H' M' g L' e r q)
end
end Dl

set_option Elab.async false
set_option linter.all false
set_option maxRecDepth 100000
set_option maxHeartbeats 4000000
/-! the operations over data -/
namespace Dl
open PySem PySem.Spec PyProof.Rows L2
open Classical in
noncomputable def guardD (p : Prop) (d : D) : Option D := if p then some d else none
theorem guardD_pos {p : Prop} {d : D} (h : p) : guardD p d = some d := by unfold guardD; rw [if_pos h]
theorem guardD_inv {p : Prop} {d e : D} (h : guardD p d = some e) : p ∧ e = d := by
  unfold guardD at h
  split at h
  · rename_i hp; exact ⟨hp, (Option.some.inj h).symm⟩
  · cases h
section
variable {X : Cx} {K : PySem.W.Frag}

/-! + - * // % ** -/
def fSub : D → D → Mem → Option D
  | .int i, .int j, _ => some (.int (i - j))
  | _, _, _ => none
noncomputable def fAdd : D → D → Mem → Option D
  | .int i, .int j, _ => some (.int (i + j))
  | .str a, .str b, _ => guardD (a.length + b.length ≤ sizeLine) (.str (a ++ b))
  | .tup a, .tup b, _ => guardD (a.length + b.length ≤ sizeLine) (.tup (a ++ b))
  | .lst a, .lst b, _ => guardD (a.length + b.length ≤ sizeLine) (.lst (a ++ b))
  | _, _, _ => none
noncomputable def fMul : D → D → Mem → Option D
  | .int i, .int j, _ => guardD (CMul i j ∨ CMulW i j) (.int (i * j))
  | _, _, _ => none
noncomputable def fDiv : D → D → Mem → Option D
  | .int i, .int j, _ => guardD (CDiv i j ∨ CDivW i j) (.int (i / j))
  | _, _, _ => none
noncomputable def fMod : D → D → Mem → Option D
  | .int i, .int j, _ => guardD (0 < j) (.int (i % j))
  | _, _, _ => none
noncomputable def fPow : D → D → Mem → Option D
  | .int i, .int j, _ => guardD (CPow i j) (.int (i ^ j.toNat))
  | _, _, _ => none
def rAddS : R2 := fun x y H Q => ∃ i j, x = .str i ∧ y = .str j ∧ i.length + j.length ≤ sizeLine ∧ Q (.str (i ++ j)) H
def rAddA (K : PySem.W.Frag) : R2 := fun x y H Q => (rI0 (fun i j => .int (i + j)) x y H Q ∨ rAddS x y H Q) ∨ (rCatA K x y H Q ∨ rCat x y H Q)
theorem op_addA : OpR X (binaryOp .Add) (rAddA X.K) := (op_add.or op_add_str).or (op_catA.or op_cat)
theorem lk_add : Lk2 K (rAddA K) fAdd := by
  intro x y dx dy dz F H M L ix iy hf Q hq
  cases ix with
  | int i =>
    cases iy with
    | int j =>
      cases hf
      exact .inl (.inl ⟨i, j, rfl, rfl, hq _ F H .refl L (.int _)⟩)
    | _ => cases hf
  | str a =>
    cases iy with
    | str b =>
      obtain ⟨h, rfl⟩ := guardD_inv hf
      exact .inl (.inr ⟨a, b, rfl, rfl, h, hq _ F H .refl L (.str _)⟩)
    | _ => cases hf
  | @tup p vs ds h1 a1 =>
    cases iy with
    | @tup q ws es h2 a2 =>
      obtain ⟨h, rfl⟩ := guardD_inv hf
      refine .inr (.inl ⟨p, q, vs, ws, rfl, rfl, L.tup h1, L.tup h2, by rw [a1.length, a2.length]; exact h, fun e => ?_, fun _ e => ?_, fun _ _ r hr => ?_⟩)
      · subst e
        cases a1
        exact hq _ F H .refl L (.tup h2 a2)
      · subst e
        cases a2
        exact hq _ F H .refl L (.tup h1 (by rw [List.append_nil]; exact a1))
      · have hF := L.fnone hr
        exact hq _ _ _ (.frozen hF hr) (L.frozen _ hr) (.tup (.inl (.inl upd_same)) ((a1.append a2).mono (Same.new hF)))
    | _ => cases hf
  | @lst p vs ds h1 a1 =>
    cases iy with
    | @lst q ws es h2 a2 =>
      obtain ⟨h, rfl⟩ := guardD_inv hf
      refine .inr (.inr ⟨p, q, vs, ws, rfl, rfl, L.same _ _ h1, L.same _ _ h2, by rw [a1.length, a2.length]; exact h, fun r hr => ?_⟩)
      have hF := L.fnone hr
      exact hq _ _ _ (.frozen hF hr) (L.frozen _ hr) (.lst upd_same ((a1.append a2).mono (Same.new hF)))
    | _ => cases hf
  | _ => cases hf
theorem lk_int {C : Int → Int → Prop} {g : Int → Int → V} {f : D → D → Mem → Option D} (h : ∀ i j M z, f (.int i) (.int j) M = some z → C i j ∧ ∀ F, Is K F (g i j) z) (h2 : ∀ x y M z, f x y M = some z → (∃ i, x = .int i) ∧ ∃ j, y = .int j) : Lk2 K (rI C g) f := by
  intro x y dx dy dz F H M L ix iy hf Q hq
  obtain ⟨⟨i, rfl⟩, ⟨j, rfl⟩⟩ := h2 _ _ _ _ hf
  cases ix
  cases iy
  obtain ⟨hc, r⟩ := h i j M dz hf
  exact ⟨i, j, rfl, rfl, hc, hq _ F H .refl L (r F)⟩
theorem lk_sub : Lk2 K (rI0 fun i j => .int (i - j)) fSub := by
  intro x y dx dy dz F H M L ix iy hf Q hq
  cases ix with
  | int i =>
    cases iy with
    | int j =>
      cases hf
      exact ⟨i, j, rfl, rfl, hq _ F H .refl L (.int _)⟩
    | _ => cases hf
  | _ => cases hf
def rMulA : R2 := fun x y H Q => rI CMul (fun i j => .int (i * j)) x y H Q ∨ rI CMulW (fun i j => .int (i * j)) x y H Q
theorem op_mulA : OpR X (binaryOp .Mult) rMulA := op_mul.or op_mulW
theorem lk_mul : Lk2 K rMulA fMul := by
  intro x y dx dy dz F H M L ix iy hf Q hq
  cases ix with
  | int i =>
    cases iy with
    | int j =>
      obtain ⟨h, rfl⟩ := guardD_inv hf
      rcases h with h | h
      · exact .inl ⟨i, j, rfl, rfl, h, hq _ F H .refl L (.int _)⟩
      · exact .inr ⟨i, j, rfl, rfl, h, hq _ F H .refl L (.int _)⟩
    | _ => cases hf
  | _ => cases hf
def rDivA : R2 := fun x y H Q => rI CDiv (fun i j => .int (i / j)) x y H Q ∨ rI CDivW (fun i j => .int (i / j)) x y H Q
theorem op_divA : OpR X (binaryOp .FloorDiv) rDivA := op_fdiv.or op_fdivW
theorem lk_div : Lk2 K rDivA fDiv := by
  intro x y dx dy dz F H M L ix iy hf Q hq
  cases ix with
  | int i =>
    cases iy with
    | int j =>
      obtain ⟨h, rfl⟩ := guardD_inv hf
      rcases h with h | h
      · exact .inl ⟨i, j, rfl, rfl, h, hq _ F H .refl L (.int _)⟩
      · exact .inr ⟨i, j, rfl, rfl, h, hq _ F H .refl L (.int _)⟩
    | _ => cases hf
  | _ => cases hf
theorem lk_mod : Lk2 K (rI (fun _ j => 0 < j) fun i j => .int (i % j)) fMod := by
  intro x y dx dy dz F H M L ix iy hf Q hq
  cases ix with
  | int i =>
    cases iy with
    | int j =>
      obtain ⟨h, rfl⟩ := guardD_inv hf
      exact ⟨i, j, rfl, rfl, h, hq _ F H .refl L (.int _)⟩
    | _ => cases hf
  | _ => cases hf
theorem lk_pow : Lk2 K (rI CPow fun i j => .int (i ^ j.toNat)) fPow := by
  intro x y dx dy dz F H M L ix iy hf Q hq
  cases ix with
  | int i =>
    cases iy with
    | int j =>
      obtain ⟨h, rfl⟩ := guardD_inv hf
      exact ⟨i, j, rfl, rfl, h, hq _ F H .refl L (.int _)⟩
    | _ => cases hf
  | _ => cases hf
def fNeg : D → Mem → Option D
  | .int i, _ => some (.int (-i))
  | _, _ => none
theorem lk_neg : Lk1 K (rU fun i => .int (-i)) fNeg := by
  intro x dx dz F H M L ix hf Q hq
  cases ix with
  | int i => cases hf; exact ⟨i, rfl, hq _ F H .refl L (.int _)⟩
  | _ => cases hf

/-! comparisons -/
def fLt : D → D → Mem → Option D
  | .int i, .int j, _ => some (.bl (decide (i < j)))
  | _, _, _ => none
def fLe : D → D → Mem → Option D
  | .int i, .int j, _ => some (.bl (decide (i ≤ j)))
  | _, _, _ => none
def fGt : D → D → Mem → Option D
  | .int i, .int j, _ => some (.bl (decide (j < i)))
  | _, _, _ => none
def fGe : D → D → Mem → Option D
  | .int i, .int j, _ => some (.bl (decide (j ≤ i)))
  | _, _, _ => none
theorem lk_i0 {g : Int → Int → Bool} {f : D → D → Mem → Option D} (h : ∀ i j M, f (.int i) (.int j) M = some (.bl (g i j))) (h2 : ∀ x y M z, f x y M = some z → (∃ i, x = .int i) ∧ ∃ j, y = .int j) : Lk2 K (rI0 fun i j => .bl (g i j)) f := by
  intro x y dx dy dz F H M L ix iy hf Q hq
  obtain ⟨⟨i, rfl⟩, ⟨j, rfl⟩⟩ := h2 _ _ _ _ hf
  cases ix
  cases iy
  rw [h] at hf
  cases hf
  exact ⟨i, j, rfl, rfl, hq _ F H .refl L (.bl _)⟩
theorem two_ints {f : D → D → Mem → Option D} (h : ∀ x y M, (∃ i j, x = .int i ∧ y = .int j) ∨ f x y M = none) : ∀ x y M z, f x y M = some z → (∃ i, x = .int i) ∧ ∃ j, y = .int j := fun x y M z e => by
  rcases h x y M with ⟨i, j, rfl, rfl⟩ | z2
  · exact ⟨⟨i, rfl⟩, ⟨j, rfl⟩⟩
  · rw [z2] at e; cases e
theorem lk_lt : Lk2 K (rI0 fun i j => .bl (decide (i < j))) fLt := lk_i0 (fun _ _ _ => rfl) (two_ints fun x y M => by cases x <;> cases y <;> first | exact .inl ⟨_, _, rfl, rfl⟩ | exact .inr rfl)
theorem lk_le : Lk2 K (rI0 fun i j => .bl (decide (i ≤ j))) fLe := lk_i0 (fun _ _ _ => rfl) (two_ints fun x y M => by cases x <;> cases y <;> first | exact .inl ⟨_, _, rfl, rfl⟩ | exact .inr rfl)
theorem lk_gt : Lk2 K (rI0 fun i j => .bl (decide (j < i))) fGt := lk_i0 (fun _ _ _ => rfl) (two_ints fun x y M => by cases x <;> cases y <;> first | exact .inl ⟨_, _, rfl, rfl⟩ | exact .inr rfl)
theorem lk_ge : Lk2 K (rI0 fun i j => .bl (decide (j ≤ i))) fGe := lk_i0 (fun _ _ _ => rfl) (two_ints fun x y M => by cases x <;> cases y <;> first | exact .inl ⟨_, _, rfl, rfl⟩ | exact .inr rfl)
def isNon : D → Bool
  | .non => true
  | _ => false
def fIsN (neg : Bool) : D → D → Mem → Option D
  | x, .non, _ => some (.bl (if neg then !isNon x else isNon x))
  | _, _, _ => none
theorem isNon_V {F : Hp} {v : V} {d : D} (i : Is K F v d) : decide (v = .non) = isNon d := by
  cases i <;> rfl
theorem lk_isN : Lk2 K (fun x y H Q => y = .non ∧ Q (.bl (decide (x = .non))) H) (fIsN false) := by
  intro x y dx dy dz F H M L ix iy hf Q hq
  cases iy with
  | non =>
    cases hf
    rw [isNon_V ix]
    exact ⟨rfl, hq _ F H .refl L (.bl _)⟩
  | _ => cases hf
theorem lk_notN : Lk2 K (fun x y H Q => y = .non ∧ Q (.bl (!decide (x = .non))) H) (fIsN true) := by
  intro x y dx dy dz F H M L ix iy hf Q hq
  cases iy with
  | non =>
    cases hf
    rw [isNon_V ix]
    exact ⟨rfl, hq _ F H .refl L (.bl _)⟩
  | _ => cases hf
/-- == of flat values of like kinds (or None among them) -/
def eqS : D → D → Option Bool
  | .non, .non => some true | .non, .int _ => some false | .int _, .non => some false | .non, .bl _ => some false | .bl _, .non => some false | .non, .str _ => some false | .str _, .non => some false
  | .int i, .int j => some (decide (i = j)) | .bl a, .bl b => some (decide (a = b)) | .str a, .str b => some (decide (a = b))
  | .int _, .str _ => some false | .str _, .int _ => some false | .bl _, .str _ => some false | .str _, .bl _ => some false
  | _, _ => none
theorem eqS_V {F : Hp} {v w : V} {d e : D} {b : Bool} (i : Is K F v d) (j : Is K F w e) (h : eqS d e = some b) : scal v w = true ∧ decide (v = w) = b := by
  cases i <;> cases j <;> first
    | (cases h; exact ⟨rfl, rfl⟩)
    | (cases h; exact ⟨rfl, by simp⟩)
    | cases h
mutual
def toPy : D → Option PyData
  | .non => some .none
  | .bl b => some (.bool b)
  | .int i => some (.int i)
  | .str s => some (.str s)
  | .tup xs => (toPys xs).map .tuple
  | .lst xs => (toPys xs).map .list
  | .seq xs => (toPys xs).map .list
  | _ => none
def toPys : List D → Option (List PyData)
  | [] => some []
  | x :: xs => match toPy x, toPys xs with
    | some d, some ds => some (d :: ds)
    | _, _ => none
end
mutual
theorem is_dp {F : Hp} : ∀ {v : V} {d : D} {e : PyData}, Is K F v d → toPy d = some e → Dp K F v e
  | _, _, _, .non, h => by rw [toPy] at h; cases h; exact .non
  | _, _, _, .bl b, h => by rw [toPy] at h; cases h; exact .bl b
  | _, _, _, .int i, h => by rw [toPy] at h; cases h; exact .int i
  | _, _, _, .str s, h => by rw [toPy] at h; cases h; exact .str s
  | _, _, _, .tup h1 a, h => by
    rw [toPy] at h
    obtain ⟨es, h2, rfl⟩ := Option.map_eq_some_iff.mp h
    exact .tup h1 (isA_dp a h2)
  | _, _, _, .lst h1 a, h => by
    rw [toPy] at h
    obtain ⟨es, h2, rfl⟩ := Option.map_eq_some_iff.mp h
    exact .lst (.inl (.inl h1)) (isA_dp a h2)
  | _, _, _, .seq h1 a, h => by
    rw [toPy] at h
    obtain ⟨es, h2, rfl⟩ := Option.map_eq_some_iff.mp h
    exact .lst h1 (isA_dp a h2)
  | _, _, _, .ty n, h => by rw [toPy] at h; cases h; all_goals (intros; contradiction)
  | _, _, _, .adr a, h => by rw [toPy] at h; cases h; all_goals (intros; contradiction)
  | _, _, _, .exc _ _, h => by rw [toPy] at h; cases h; all_goals (intros; contradiction)
theorem isA_dp {F : Hp} : ∀ {vs : List V} {ds : List D} {es : List PyData}, IsA K F vs ds → toPys ds = some es → DpAll K F vs es
  | _, _, _, .nil, h => by rw [toPys] at h; cases h; exact .nil
  | _, _, _, .cons (d := x) (ds := xs) h1 a, h => by
    rw [toPys] at h
    cases e1 : toPy x with
    | none => rw [e1] at h; cases h
    | some d =>
      cases e2 : toPys xs with
      | none => rw [e1, e2] at h; cases h
      | some ds =>
        rw [e1, e2] at h
        cases h
        exact .cons (is_dp h1 e1) (isA_dp a e2)
end
mutual
theorem Dp.mono {F F' : Hp} (s : Same F F') : ∀ {v : V} {d : PyData}, Dp K F v d → Dp K F' v d
  | _, _, .non => .non
  | _, _, .bl b => .bl b
  | _, _, .int i => .int i
  | _, _, .str x => .str x
  | _, _, .lst h a => .lst (s.seq h) (DpAll.mono s a)
  | _, _, .tup h a => .tup (Same.tupS s h) (DpAll.mono s a)
theorem DpAll.mono {F F' : Hp} (s : Same F F') : ∀ {vs : List V} {ds : List PyData}, DpAll K F vs ds → DpAll K F' vs ds
  | _, _, .nil => .nil
  | _, _, .cons h a => .cons (Dp.mono s h) (DpAll.mono s a)
end
/-- .. a list of the memory too -/
def toPyM (M : Mem) : D → Option PyData
  | .adr p => match M p with
    | some (.lst xs) => (toPys xs).map .list
    | _ => none
  | d => toPy d
theorem toPyM_dp {F H : Hp} {M : Mem} {v : V} {d : D} {e : PyData} (L : Lay K F H M) (i : Is K F v d) (h : toPyM M d = some e) : Dp K H v e := by
  cases i with
  | adr p =>
    cases hm : M p with
    | none => simp [toPyM, hm] at h
    | some n =>
      cases n with
      | lst xs =>
        simp only [toPyM, hm] at h
        obtain ⟨es, h2, rfl⟩ := Option.map_eq_some_iff.mp h
        obtain ⟨_, vs, h3, a⟩ := L.node p _ hm
        exact .lst (.inl (.inl h3)) (DpAll.mono L.same (isA_dp a h2))
      | _ => simp [toPyM, hm] at h
  | non => exact Dp.mono L.same (is_dp .non h)
  | bl b => exact Dp.mono L.same (is_dp (.bl b) h)
  | int b => exact Dp.mono L.same (is_dp (.int b) h)
  | str b => exact Dp.mono L.same (is_dp (.str b) h)
  | tup a b => exact Dp.mono L.same (is_dp (.tup a b) h)
  | lst a b => exact Dp.mono L.same (is_dp (.lst a b) h)
  | seq a b => exact Dp.mono L.same (is_dp (.seq a b) h)
  | ty b => exact Dp.mono L.same (is_dp (.ty b) h)
  | exc a b => simp [toPyM, toPy] at h
/-- equality of two as data, where it may be asked -/
noncomputable def eqP (M : Mem) (x y : D) : Option Bool := match toPyM M x, toPyM M y with
  | some d, some e => open Classical in if SeqAt.shaped d = true ∧ SeqAt.shaped e = true then some (PyData.eqv d e) else none
  | _, _ => none
noncomputable def fEq : D → D → Mem → Option D := fun x y M => match eqS x y with
  | some b => some (.bl b)
  | none => (eqP M x y).map .bl
noncomputable def fNe : D → D → Mem → Option D := fun x y M => match eqS x y with
  | some b => some (.bl (!b))
  | none => (eqP M x y).map fun b => .bl (!b)
def rEqA (K : PySem.W.Frag) : R2 := fun x y H Q => rEq x y H Q ∨ rEqD K x y H Q
def rNeA (K : PySem.W.Frag) : R2 := fun x y H Q => rNe x y H Q ∨ rNeD K x y H Q
theorem op_eqA (hu : X.A.units + 64 < cLine) : OpR X (compareOp .Eq) (rEqA X.K) := op_eq.or (op_eqD hu)
theorem op_neA (hu : X.A.units + 64 < cLine) : OpR X (compareOp .NotEq) (rNeA X.K) := op_ne.or (op_neD hu)
theorem eqP_inv {M : Mem} {x y : D} {b : Bool} (h : eqP M x y = some b) : ∃ d e, toPyM M x = some d ∧ toPyM M y = some e ∧ SeqAt.shaped d = true ∧ SeqAt.shaped e = true ∧ PyData.eqv d e = b := by
  unfold eqP at h
  split at h
  · rename_i d e h1 h2
    split at h
    · rename_i hs
      exact ⟨d, e, h1, h2, hs.1, hs.2, Option.some.inj h⟩
    · cases h
  · cases h
theorem lk_eq : Lk2 K (rEqA K) fEq := by
  intro x y dx dy dz F H M L ix iy hf Q hq
  unfold fEq at hf
  split at hf
  · rename_i b hb
    cases hf
    obtain ⟨h1, h2⟩ := eqS_V ix iy hb
    refine .inl ⟨h1, ?_⟩
    rw [h2]
    exact hq _ F H .refl L (.bl b)
  · obtain ⟨b, hb, rfl⟩ := Option.map_eq_some_iff.mp hf
    obtain ⟨d, e, h1, h2, h3, h4, rfl⟩ := eqP_inv hb
    exact .inr ⟨d, e, toPyM_dp L ix h1, toPyM_dp L iy h2, h3, h4, hq _ F H .refl L (.bl _)⟩
theorem lk_ne : Lk2 K (rNeA K) fNe := by
  intro x y dx dy dz F H M L ix iy hf Q hq
  unfold fNe at hf
  split at hf
  · rename_i b hb
    cases hf
    obtain ⟨h1, h2⟩ := eqS_V ix iy hb
    refine .inl ⟨h1, ?_⟩
    rw [h2]
    exact hq _ F H .refl L (.bl _)
  · obtain ⟨b, hb, rfl⟩ := Option.map_eq_some_iff.mp hf
    obtain ⟨d, e, h1, h2, h3, h4, rfl⟩ := eqP_inv hb
    exact .inr ⟨d, e, toPyM_dp L ix h1, toPyM_dp L iy h2, h3, h4, hq _ F H .refl L (.bl _)⟩
/-- in, not in a list or tuple of flat values -/
def flatD : D → Bool
  | .non => true | .bl _ => true | .int _ => true | .str _ => true
  | _ => false
def eqF : D → D → Bool
  | .non, .non => true
  | .bl a, .bl b => a == b
  | .bl a, .int b => (if a then 1 else 0) == b
  | .int a, .bl b => a == (if b then 1 else 0)
  | .int a, .int b => a == b
  | .str a, .str b => a == b
  | _, _ => false
def inD (x : D) (xs : List D) : Bool := xs.any fun y => eqF y x
def itemsD (M : Mem) : D → Option (List D)
  | .tup xs => some xs
  | .lst xs => some xs
  | .seq xs => some xs
  | .adr p => match M p with
    | some (.lst xs) => some xs
    | _ => none
  | _ => none
def fIn (neg : Bool) : D → D → Mem → Option D := fun x y M => match itemsD M y with
  | some xs => if (flatD x && xs.all flatD) = true then some (.bl (if neg then !inD x xs else inD x xs)) else none
  | none => none
theorem flat_V {F : Hp} {v : V} {d : D} (i : Is K F v d) : flatV v = flatD d := by cases i <;> rfl
theorem eqF_V {F : Hp} {v w : V} {d e : D} (i : Is K F v d) (j : Is K F w e) (hd : flatD d = true) (he : flatD e = true) : eqV v w = eqF d e := by
  cases i <;> cases j <;> first | rfl | (simp [flatD] at hd) | (simp [flatD] at he)
theorem all_flat {F : Hp} : ∀ {vs : List V} {ds : List D}, IsA K F vs ds → vs.all flatV = ds.all flatD
  | _, _, .nil => rfl
  | _, _, .cons h a => by rw [List.all_cons, List.all_cons, flat_V h, all_flat a]
theorem inV_D {F : Hp} {v : V} {d : D} (i : Is K F v d) (hd : flatD d = true) : ∀ {vs : List V} {ds : List D}, IsA K F vs ds → ds.all flatD = true → inV v vs = inD d ds
  | _, _, .nil, _ => rfl
  | _, _, .cons (d := x) h a, hf => by
    rw [List.all_cons, Bool.and_eq_true] at hf
    have ih := inV_D i hd a hf.2
    unfold inV inD at ih ⊢
    rw [List.any_cons, List.any_cons, ih, eqF_V h i hf.1 hd]
theorem items_V {F H : Hp} {M : Mem} {v : V} {d : D} {ds : List D} (L : Lay K F H M) (i : Is K F v d) (h : itemsD M d = some ds) : ∃ p vs, v = .ref p ∧ (SqL K H p vs ∨ SqT K H p vs) ∧ IsA K F vs ds := by
  cases i with
  | tup h1 a => cases h; exact ⟨_, _, rfl, .inr (L.tup h1), a⟩
  | lst h1 a => cases h; exact ⟨_, _, rfl, .inl (.inl (.inl (L.same _ _ h1))), a⟩
  | seq h1 a => cases h; exact ⟨_, _, rfl, .inl (L.list h1), a⟩
  | adr p =>
    cases hm : M p with
    | none => simp [itemsD, hm] at h
    | some n =>
      cases n with
      | lst xs =>
        simp only [itemsD, hm] at h
        cases h
        obtain ⟨_, vs, h3, a⟩ := L.node p _ hm
        exact ⟨p, vs, rfl, .inl (.inl (.inl h3)), a⟩
      | _ => simp [itemsD, hm] at h
  | _ => cases h
theorem lk_in {neg : Bool} : Lk2 K (rIn K neg) (fIn neg) := by
  intro x y dx dy dz F H M L ix iy hf Q hq
  unfold fIn at hf
  split at hf
  · rename_i xs hx
    split at hf
    · rename_i hfl
      cases hf
      rw [Bool.and_eq_true] at hfl
      obtain ⟨p, vs, rfl, hs, a⟩ := items_V L iy hx
      refine ⟨p, vs, rfl, hs, by rw [flat_V ix]; exact hfl.1, by rw [all_flat a]; exact hfl.2, ?_⟩
      rw [inV_D ix hfl.1 a hfl.2]
      exact hq _ F H .refl L (.bl _)
    · cases hf
  · cases hf

/-! subscripts -/
noncomputable def fIx : D → D → Mem → Option D := fun x y M => match x, y with
  | .str z, .int i => match atI z.cps.toList i with
    | some c => guardD (z.length ≤ sizeLine) (.str ⟨#[c]⟩)
    | none => none
  | x, .int i => match itemsD M x with
    | some xs => atI xs i
    | none => none
  | _, _ => none
theorem atI_A {F : Hp} {vs : List V} {ds : List D} {i : Int} {d : D} (a : IsA K F vs ds) (h : atI ds i = some d) : ∃ v, atI vs i = some v ∧ Is K F v d := by
  unfold atI at h ⊢
  rw [a.length]
  cases e : ixN ds.length i with
  | none => rw [e] at h; cases h
  | some j =>
    rw [e, Option.bind_some] at h
    rw [Option.bind_some]
    exact a.get h
theorem fIx_seq {x : D} {i : Int} {M : Mem} {z : D} (h : fIx x (.int i) M = some z) (hs : ∀ s, x ≠ .str s) : ∃ xs, itemsD M x = some xs ∧ atI xs i = some z := by
  cases e : itemsD M x with
  | none => cases x <;> first | exact absurd rfl (hs _) | (simp [fIx, e] at h)
  | some xs => exact ⟨xs, rfl, by cases x <;> first | exact absurd rfl (hs _) | (simpa [fIx, e] using h)⟩
theorem lk_ix : Lk2 K (rIx K) fIx := by
  intro x y dx dy dz F H M L ix iy hf Q hq
  cases iy with
  | int i =>
    by_cases hs : ∃ s, dx = .str s
    · obtain ⟨z, rfl⟩ := hs
      cases ix
      have hf' : (match atI z.cps.toList i with | some c => guardD (z.length ≤ sizeLine) (.str ⟨#[c]⟩) | none => none) = some dz := hf
      split at hf'
      · rename_i c hc
        obtain ⟨hz, rfl⟩ := guardD_inv hf'
        exact .inr (.inr ⟨z, i, c, rfl, rfl, hz, hc, hq _ F H .refl L (.str _)⟩)
      · cases hf'
    · obtain ⟨xs, h1, h2⟩ := fIx_seq hf (fun s e => hs ⟨s, e⟩)
      obtain ⟨p, vs, rfl, hsq, a⟩ := items_V L ix h1
      obtain ⟨v, h3, iv⟩ := atI_A a h2
      rcases hsq with hsq | hsq
      · exact .inl ⟨p, vs, i, v, rfl, rfl, hsq, h3, hq _ F H .refl L iv⟩
      · exact .inr (.inl ⟨p, vs, i, v, rfl, rfl, hsq, h3, hq _ F H .refl L iv⟩)
  | _ => cases dx <;> cases hf

/-! built-ins -/
noncomputable def fLen : List D → Mem → Option D := fun xs M => match xs with
  | [.str z] => guardD (z.length ≤ sizeLine) (.int z.length)
  | [x] => (itemsD M x).map fun ys => .int ys.length
  | _ => none
theorem lk_len : LkC K (fun xs H Q => ∃ x n, xs = [x] ∧ LenV K x H n ∧ Q (.int n) H) fLen := by
  intro vs ds dz F H M L is hf Q hq
  cases is with
  | nil => cases hf
  | @cons v vs d ds r1 r2 =>
    cases r2 with
    | cons _ _ => cases d <;> cases hf
    | nil =>
      by_cases hs : ∃ s, d = .str s
      · obtain ⟨z, rfl⟩ := hs
        cases r1
        obtain ⟨h, rfl⟩ := guardD_inv (show guardD (z.length ≤ sizeLine) (.int z.length) = some dz from hf)
        exact ⟨_, z.length, rfl, ⟨h, rfl⟩, hq _ F H .refl L (.int _)⟩
      · have hf' : ((itemsD M d).map fun ys => D.int ys.length) = some dz := by
          cases d <;> first | exact hf | exact absurd ⟨_, rfl⟩ hs
        obtain ⟨ys, h1, rfl⟩ := Option.map_eq_some_iff.mp hf'
        obtain ⟨p, ws, rfl, hsq, a⟩ := items_V L r1 h1
        refine ⟨_, ys.length, rfl, ?_, hq _ F H .refl L (.int _)⟩
        rcases hsq with hsq | hsq
        · exact .inl ⟨ws, hsq, a.length.symm⟩
        · exact .inr ⟨ws, hsq, a.length.symm⟩
/-- len of a dict -/
def fAbs : List D → Mem → Option D
  | [.int i], _ => some (.int (if i < 0 then -i else i))
  | _, _ => none
theorem lk_abs : LkC K (fun xs H Q => ∃ i, xs = [.int i] ∧ Q (.int (if i < 0 then -i else i)) H) fAbs := by
  intro vs ds dz F H M L is hf Q hq
  cases is with
  | nil => cases hf
  | cons r1 r2 =>
    cases r2 with
    | cons _ _ => cases r1 <;> cases hf
    | nil =>
      cases r1 with
      | int i => cases hf; exact ⟨i, rfl, hq _ F H .refl L (.int _)⟩
      | _ => cases hf
def fInt : List D → Mem → Option D
  | [.int i], _ => some (.int i)
  | [.bl k], _ => some (.int (if k then 1 else 0))
  | _, _ => none
theorem lk_int1 : LkC K (fun xs H Q => (∃ i, xs = [.int i] ∧ Q (.int i) H) ∨ ∃ k, xs = [.bl k] ∧ Q (.int (if k then 1 else 0)) H) fInt := by
  intro vs ds dz F H M L is hf Q hq
  cases is with
  | nil => cases hf
  | cons r1 r2 =>
    cases r2 with
    | cons _ _ => cases r1 <;> cases hf
    | nil =>
      cases r1 with
      | int i => cases hf; exact .inl ⟨i, rfl, hq _ F H .refl L (.int _)⟩
      | bl i => cases hf; exact .inr ⟨i, rfl, hq _ F H .refl L (.int _)⟩
      | _ => cases hf
def fMax2 : List D → Mem → Option D
  | [.int i, .int j], _ => some (.int (if j > i then j else i))
  | _, _ => none
def fMin2 : List D → Mem → Option D
  | [.int i, .int j], _ => some (.int (if j < i then j else i))
  | _, _ => none
theorem lk_max2 : LkC K (fun xs H Q => ∃ i j, xs = [.int i, .int j] ∧ Q (.int (if j > i then j else i)) H) fMax2 := by
  intro vs ds dz F H M L is hf Q hq
  cases is with
  | nil => cases hf
  | cons r1 r2 =>
    cases r2 with
    | nil => cases r1 <;> cases hf
    | cons r2 r3 =>
      cases r3 with
      | cons _ _ => cases r1 <;> cases r2 <;> cases hf
      | nil =>
        cases r1 with
        | int i =>
          cases r2 with
          | int j => cases hf; exact ⟨i, j, rfl, hq _ F H .refl L (.int _)⟩
          | _ => cases hf
        | _ => cases r2 <;> cases hf
theorem lk_min2 : LkC K (fun xs H Q => ∃ i j, xs = [.int i, .int j] ∧ Q (.int (if j < i then j else i)) H) fMin2 := by
  intro vs ds dz F H M L is hf Q hq
  cases is with
  | nil => cases hf
  | cons r1 r2 =>
    cases r2 with
    | nil => cases r1 <;> cases hf
    | cons r2 r3 =>
      cases r3 with
      | cons _ _ => cases r1 <;> cases r2 <;> cases hf
      | nil =>
        cases r1 with
        | int i =>
          cases r2 with
          | int j => cases hf; exact ⟨i, j, rfl, hq _ F H .refl L (.int _)⟩
          | _ => cases hf
        | _ => cases r2 <;> cases hf
/-- isinstance by a built-in class -/
def kindD (M : Mem) : D → Option String
  | .non => some "NoneType" | .bl _ => some "bool" | .int _ => some "int" | .str _ => some "str"
  | .tup _ => some "tuple" | .lst _ => some "list" | .seq _ => some "list"
  | .adr p => match M p with
    | some (.lst _) => some "list"
    | some (.dct _) => some "dict"
    | _ => none
  | _ => none
def isTy (k n : String) : Bool := k == n || (k == "bool" && n == "int")
def fIsi : List D → Mem → Option D := fun xs M => match xs with
  | [x, .ty n] => if (["int", "bool", "str", "tuple", "list", "dict"].contains n) = true then (kindD M x).map fun k => .bl (isTy k n) else none
  | _ => none
theorem kit_known : ∀ k ∈ ["NoneType", "bool", "int", "str", "tuple", "list", "dict"], ∀ n ∈ ["int", "bool", "str", "tuple", "list", "dict"], kitB k n = some (isTy k n) := by decide +kernel
theorem kindD_ty {F H : Hp} {M : Mem} {v : V} {d : D} {k : String} (L : Lay K F H M) (i : Is K F v d) (h : kindD M d = some k) : TyX K H v (.type k) ∧ k ∈ ["NoneType", "bool", "int", "str", "tuple", "list", "dict"] := by
  cases i with
  | non => cases h; exact ⟨.base .non, by decide⟩
  | bl b => cases h; exact ⟨.base (.bl b), by decide⟩
  | int b => cases h; exact ⟨.base (.int b), by decide⟩
  | str b => cases h; exact ⟨.base (.str b), by decide⟩
  | tup h1 a =>
    cases h
    refine ⟨?_, by decide⟩
    rcases h1 with (h1 | ⟨o, h1⟩) | ⟨o, its, n, h1, h2, _⟩
    · exact .base (.tup (L.same _ _ h1))
    · exact .fTuple (L.same _ _ h1)
    · exact .kTuple h1 h2
  | lst h1 a => cases h; exact ⟨.base (.lst (L.same _ _ h1)), by decide⟩
  | seq h1 a =>
    cases h
    refine ⟨?_, by decide⟩
    rcases h1 with (h1 | ⟨o, h1⟩) | ⟨o, its, n, h1, h2, _⟩
    · exact .base (.lst (L.same _ _ h1))
    · exact .base (.frz (L.same _ _ h1))
    · exact .kList h1 h2
  | adr p =>
    cases hm : M p with
    | none => simp [kindD, hm] at h
    | some n =>
      cases n with
      | lst xs =>
        simp only [kindD, hm] at h
        cases h
        obtain ⟨_, vs, h3, _⟩ := L.node p _ hm
        exact ⟨.base (.lst h3), by decide⟩
      | dct xs =>
        simp only [kindD, hm] at h
        cases h
        obtain ⟨_, vs, h3, _⟩ := L.node p _ hm
        exact ⟨.base (.dK h3), by decide⟩
      | _ => simp [kindD, hm] at h
  | _ => cases h
theorem lk_isi : LkC K (rIsi K) fIsi := by
  intro vs ds dz F H M L is hf Q hq
  cases is with
  | nil => cases hf
  | @cons v1 _ x _ r1 r2 =>
    cases r2 with
    | nil => cases x <;> cases hf
    | @cons v2 _ y _ r2 r3 =>
      cases r3 with
      | cons _ _ => cases y <;> cases hf
      | nil =>
        cases r2 with
        | ty n =>
          have hf' : (if (["int", "bool", "str", "tuple", "list", "dict"].contains n) = true then (kindD M x).map fun k => D.bl (isTy k n) else none) = some dz := hf
          split at hf'
          · rename_i hn
            obtain ⟨k, hk, rfl⟩ := Option.map_eq_some_iff.mp hf'
            obtain ⟨ty, hm⟩ := kindD_ty L r1 hk
            exact ⟨v1, .ty n, .type k, .type n, isTy k n, rfl, .ty n, ty, kit_ty (kit_known k hm n (by simpa using hn)), hq _ F H .refl L (.bl _)⟩
          · cases hf'
        | _ => cases x <;> cases hf
/-- tuple(xs): a new tuple of a list; of a tuple the tuple -/
def fTuple : List D → Mem → Option D := fun xs M => match xs with
  | [x] => (itemsD M x).map .tup
  | _ => none
/-- list(xs), a new list that is never changed -/
def fList : List D → Mem → Option D := fun xs M => match xs with
  | [x] => (itemsD M x).map .lst
  | _ => none
end
end Dl

set_option Elab.async false
set_option linter.all false
set_option maxRecDepth 100000
set_option maxHeartbeats 4000000
/-! more built-ins: tuple, list, slices, methods of lists, all, max -/
namespace Dl
open PySem PySem.Spec PyProof.Rows L2
section
variable {X : Cx} {ι : Type} {m : ι → Md} {K : PySem.W.Frag} {W : WX}
theorem items_L {F H : Hp} {M : Mem} {v : V} {d : D} {ds : List D} (L : Lay K F H M) (i : Is K F v d) (h : itemsD M d = some ds) (hn : ∀ zs, d ≠ .tup zs) : ∃ p vs, v = .ref p ∧ SqL K H p vs ∧ IsA K F vs ds := by
  cases i with
  | tup h1 a => exact absurd rfl (hn _)
  | lst h1 a => cases h; exact ⟨_, _, rfl, .inl (.inl (L.same _ _ h1)), a⟩
  | seq h1 a => cases h; exact ⟨_, _, rfl, L.list h1, a⟩
  | adr p =>
    cases hm : M p with
    | none => simp [itemsD, hm] at h
    | some n =>
      cases n with
      | lst xs =>
        simp only [itemsD, hm] at h
        cases h
        obtain ⟨_, vs, h3, a⟩ := L.node p _ hm
        exact ⟨p, vs, rfl, .inl (.inl h3), a⟩
      | _ => simp [itemsD, hm] at h
  | _ => cases h
theorem lk_tuple : LkC K (fun xs H Q => ∃ p ys, xs = [.ref p] ∧ ((SqL K H p ys ∧ ∀ l, H l = none → Q (.ref l) (upd H l (.tup ys))) ∨ (SqT K H p ys ∧ Q (.ref p) H))) fTuple := by
  intro vs ds dz F H M L is hf Q hq
  cases is with
  | nil => cases hf
  | @cons v1 _ x _ r1 r2 =>
    cases r2 with
    | cons _ _ => cases hf
    | nil =>
      obtain ⟨ys, h1, rfl⟩ := Option.map_eq_some_iff.mp (show (itemsD M x).map D.tup = some dz from hf)
      by_cases ht : ∃ zs, x = .tup zs
      · obtain ⟨zs, rfl⟩ := ht
        cases h1
        cases r1 with
        | tup h a => exact ⟨_, _, rfl, .inr ⟨L.tup h, hq _ F H .refl L (.tup h a)⟩⟩
      · obtain ⟨p, ws, rfl, hs, a⟩ := items_L L r1 h1 fun zs e => ht ⟨zs, e⟩
        exact ⟨p, ws, rfl, .inl ⟨hs, fun l hl' => by
          have hF := L.fnone hl'
          exact hq _ _ _ (.frozen hF hl') (L.frozen _ hl') (.tup (.inl (.inl upd_same)) (a.mono (Same.new hF)))⟩⟩
theorem lk_list : LkC K (fun xs H Q => ∃ p ys, xs = [.ref p] ∧ (SqL K H p ys ∨ SqT K H p ys) ∧ ∀ l, H l = none → Q (.ref l) (upd H l (.lst ys))) fList := by
  intro vs ds dz F H M L is hf Q hq
  cases is with
  | nil => cases hf
  | @cons v1 _ x _ r1 r2 =>
    cases r2 with
    | cons _ _ => cases hf
    | nil =>
      obtain ⟨ys, h1, rfl⟩ := Option.map_eq_some_iff.mp (show (itemsD M x).map D.lst = some dz from hf)
      obtain ⟨p, ws, rfl, hs, a⟩ := items_V L r1 h1
      exact ⟨p, ws, rfl, hs, fun l hl' => by
        have hF := L.fnone hl'
        exact hq _ _ _ (.frozen hF hl') (L.frozen _ hl') (.lst upd_same (a.mono (Same.new hF)))⟩

/-! calls told by what follows -/
abbrev GC := List D → Mem → (D → Mem → Prop) → Prop
def wCR (g : GC) (wa : WA) : WE := fun Q E ρ M => wa (fun xs M1 => g xs M1 Q) E ρ M
def LkR (K : PySem.W.Frag) (r : List V → Hp → VK → Prop) (g : GC) : Prop :=
  ∀ vs ds F H M, Lay K F H M → IsA K F vs ds → ∀ Q, g ds M Q → ∀ QV : VK, (∀ v d F' H' M', Grow F H M F' H' M' → Lay K F' H' M' → Is K F' v d → Q d M' → QV v H') → r vs H QV
theorem ed_cr {r : List V → Hp → VK → Prop} {g : GC} {ta : TA} {wa : WA} (lk : LkR K r g) (ha : AD K W ta wa) : ED K W (tCB r ta) (wCR g wa) := fun F H σ ρ M L S Q E h QV hq hx => by
  refine ha F H σ ρ M L S _ E h _ (fun vs ds F1 H1 M1 g1 L1 i1 q1 => ?_) hx
  exact lk vs ds F1 H1 M1 L1 i1 Q q1 QV fun v d F3 H3 M3 g3 L3 i3 q3 => hq v d F3 H3 M3 (g1.trans g3) L3 i3 q3
theorem ce_crB {id : String} {r : List V → Hp → VK → Prop} {g : GC} {x : Str} {p pos : Pos} {e : Expr} {es : List Expr} {wa : WA} (hc : ∀ i pn xe, CallR (mdX X (m i) pn xe) (.builtin id) r) (lk : LkR X.K r g) (hm : X.mg x = none) (hv : bootBuiltins x = some (.builtin id)) (ha : CA X m (e :: es) wa)
    (hg : ∀ i, (m i).env.kindOf x = some .globalImplicit := by intro _; rfl) (hn : x ≠ "__name__" := by decide) (hdb : (x == ("__debug__" : Str)) = false := by decide)
    (he : ∀ i, starEach (e :: es) (m i).env = (false, eval e (m i).env) :: starEach es (m i).env := by intro _; rfl) (hpl : ∀ i, (backTo pos (starEach es (m i).env)).any (·.1) = false := by intro _; rfl) : CE X m (.Call (.Name x p) (e :: es) [] pos) (wCR g wa) := by
  obtain ⟨ta, pa, da⟩ := ha
  exact ⟨fun W => tCB r (ta W), fun i pn xe W tk => pe_callB (hc i pn xe) (hg i) hm hv (pa i pn xe W tk) hn hdb (he i) (hpl i), fun W => ed_cr lk (da W)⟩
theorem ce_crTy {T : String} {r : List V → Hp → VK → Prop} {g : GC} {x : Str} {p pos : Pos} {e : Expr} {es : List Expr} {wa : WA} (hc : ∀ i pn xe, CallR (mdX X (m i) pn xe) (.type T) r) (lk : LkR X.K r g) (hm : X.mg x = none) (hv : bootBuiltins x = some (.type T)) (ha : CA X m (e :: es) wa)
    (hg : ∀ i, (m i).env.kindOf x = some .globalImplicit := by intro _; rfl) (hn : x ≠ "__name__" := by decide) (hdb : (x == ("__debug__" : Str)) = false := by decide)
    (he : ∀ i, starEach (e :: es) (m i).env = (false, eval e (m i).env) :: starEach es (m i).env := by intro _; rfl) (hpl : ∀ i, (backTo pos (starEach es (m i).env)).any (·.1) = false := by intro _; rfl) : CE X m (.Call (.Name x p) (e :: es) [] pos) (wCR g wa) := by
  obtain ⟨ta, pa, da⟩ := ha
  exact ⟨fun W => tCB r (ta W), fun i pn xe W tk => pe_callTy (hc i pn xe) (hg i) hm hv (pa i pn xe W tk) hn hdb (he i) (hpl i), fun W => ed_cr lk (da W)⟩
/-- list(xs), to be changed -/
def gListM : GC := fun ds M Q => ∃ x ys, ds = [x] ∧ itemsD M x = some ys ∧ ∀ p, M p = none → Q (.adr p) (updM M p (.lst ys))
theorem lk_listM : LkR K (fun xs H Q => ∃ p ys, xs = [.ref p] ∧ (SqL K H p ys ∨ SqT K H p ys) ∧ ∀ l, H l = none → Q (.ref l) (upd H l (.lst ys))) gListM := by
  intro vs ds F H M L is Q h QV hq
  obtain ⟨x, ys, rfl, h1, h2⟩ := h
  cases is with
  | cons r1 r2 =>
    cases r2
    obtain ⟨p, ws, rfl, hs, a⟩ := items_V L r1 h1
    exact ⟨p, ws, rfl, hs, fun l hl => hq _ _ F _ _ (.made (n := .lst ys) hl) (L.made (n := .lst ys) hl ⟨ws, upd_same, a⟩) (.adr l) (h2 l (L.mnone hl))⟩
/-- the items of a list -/
def listD (M : Mem) : D → Option (List D)
  | .lst xs => some xs
  | .seq xs => some xs
  | .adr p => match M p with
    | some (.lst xs) => some xs
    | _ => none
  | _ => none
theorem list_V {F H : Hp} {M : Mem} {v : V} {d : D} {ds : List D} (L : Lay K F H M) (i : Is K F v d) (h : listD M d = some ds) : ∃ p vs, v = .ref p ∧ SqL K H p vs ∧ IsA K F vs ds :=
  items_L L i (by cases d <;> first | exact h | cases h) (fun zs e => by subst e; cases h)
def blsD : List D → Option (List Bool)
  | [] => some []
  | .bl b :: r => (blsD r).map (b :: ·)
  | _ :: _ => none
theorem bls_V {F : Hp} : ∀ {vs : List V} {ds : List D} {bs : List Bool}, IsA K F vs ds → blsD ds = some bs → vs = bs.map V.bl
  | _, _, _, .nil, h => by cases h; rfl
  | _, _, _, .cons (.bl b) a, h => by
    obtain ⟨cs, h1, rfl⟩ := Option.map_eq_some_iff.mp (show (blsD _).map (b :: ·) = some _ from h)
    rw [bls_V a h1]
    rfl
  | _, _, _, .cons .non a, h => by cases h
  | _, _, _, .cons (.int _) a, h => by cases h
  | _, _, _, .cons (.str _) a, h => by cases h
  | _, _, _, .cons (.tup _ _) a, h => by cases h
  | _, _, _, .cons (.lst _ _) a, h => by cases h
  | _, _, _, .cons (.seq _ _) a, h => by cases h
  | _, _, _, .cons (.ty _) a, h => by cases h
  | _, _, _, .cons (.adr _) a, h => by cases h
  | _, _, _, .cons (.exc _ _) a, h => by cases h
def intsD : List D → Option (List Int)
  | [] => some []
  | .int b :: r => (intsD r).map (b :: ·)
  | _ :: _ => none
theorem ints_V {F : Hp} : ∀ {vs : List V} {ds : List D} {bs : List Int}, IsA K F vs ds → intsD ds = some bs → vs = bs.map V.int
  | _, _, _, .nil, h => by cases h; rfl
  | _, _, _, .cons (.int b) a, h => by
    obtain ⟨cs, h1, rfl⟩ := Option.map_eq_some_iff.mp (show (intsD _).map (b :: ·) = some _ from h)
    rw [ints_V a h1]
    rfl
  | _, _, _, .cons .non a, h => by cases h
  | _, _, _, .cons (.bl _) a, h => by cases h
  | _, _, _, .cons (.str _) a, h => by cases h
  | _, _, _, .cons (.tup _ _) a, h => by cases h
  | _, _, _, .cons (.lst _ _) a, h => by cases h
  | _, _, _, .cons (.seq _ _) a, h => by cases h
  | _, _, _, .cons (.ty _) a, h => by cases h
  | _, _, _, .cons (.adr _) a, h => by cases h
  | _, _, _, .cons (.exc _ _) a, h => by cases h
theorem isA_ints {F : Hp} : ∀ ns : List Int, IsA K F (ns.map V.int) (ns.map D.int)
  | [] => .nil
  | n :: r => .cons (.int n) (isA_ints r)
theorem intsD_map (ns : List Int) : intsD (ns.map D.int) = some ns := by
  induction ns with
  | nil => rfl
  | cons n r ih => show (intsD (r.map D.int)).map (n :: ·) = _; rw [ih]; rfl
theorem blsD_map (ns : List Bool) : blsD (ns.map D.bl) = some ns := by
  induction ns with
  | nil => rfl
  | cons n r ih => show (blsD (r.map D.bl)).map (n :: ·) = _; rw [ih]; rfl
/-- all(xs), any(xs) of a list of bools -/
def gAll : GC := fun ds M Q => ∃ x ys bs, ds = [x] ∧ listD M x = some ys ∧ blsD ys = some bs ∧ Q (.bl (bs.all id)) M
def gAny : GC := fun ds M Q => ∃ x ys bs, ds = [x] ∧ listD M x = some ys ∧ blsD ys = some bs ∧ Q (.bl (bs.any id)) M
theorem lk_all : LkR K (rAll K) gAll := by
  intro vs ds F H M L is Q h QV hq
  obtain ⟨x, ys, bs, rfl, h1, h2, q⟩ := h
  cases is with
  | cons r1 r2 =>
    cases r2
    obtain ⟨p, ws, rfl, hs, a⟩ := list_V L r1 h1
    rw [bls_V a h2] at hs
    exact ⟨p, bs, rfl, hs, hq _ _ F H M .refl L (.bl _) q⟩
theorem lk_any : LkR K (rAny K) gAny := by
  intro vs ds F H M L is Q h QV hq
  obtain ⟨x, ys, bs, rfl, h1, h2, q⟩ := h
  cases is with
  | cons r1 r2 =>
    cases r2
    obtain ⟨p, ws, rfl, hs, a⟩ := list_V L r1 h1
    rw [bls_V a h2] at hs
    exact ⟨p, bs, rfl, hs, hq _ _ F H M .refl L (.bl _) q⟩
/-- sum, max, min of a list of ints -/
def gSum : GC := fun ds M Q => ∃ x ys ns, ds = [x] ∧ listD M x = some ys ∧ intsD ys = some ns ∧ Q (.int ns.sum) M
def gMax : GC := fun ds M Q => ∃ x ys ns, ds = [x] ∧ listD M x = some ys ∧ intsD ys = some ns ∧ 0 < ns.length ∧ ∀ k, k ∈ ns → (∀ y, y ∈ ns → y ≤ k) → Q (.int k) M
def gMin : GC := fun ds M Q => ∃ x ys ns, ds = [x] ∧ listD M x = some ys ∧ intsD ys = some ns ∧ 0 < ns.length ∧ ∀ k, k ∈ ns → (∀ y, y ∈ ns → k ≤ y) → Q (.int k) M
theorem lk_sum : LkR K (rSum K) gSum := by
  intro vs ds F H M L is Q h QV hq
  obtain ⟨x, ys, bs, rfl, h1, h2, q⟩ := h
  cases is with
  | cons r1 r2 =>
    cases r2
    obtain ⟨p, ws, rfl, hs, a⟩ := list_V L r1 h1
    rw [ints_V a h2] at hs
    exact ⟨p, bs, rfl, hs, hq _ _ F H M .refl L (.int _) q⟩
theorem lk_max : LkR K (rMax K) gMax := by
  intro vs ds F H M L is Q h QV hq
  obtain ⟨x, ys, bs, rfl, h1, h2, h3, q⟩ := h
  cases is with
  | cons r1 r2 =>
    cases r2
    obtain ⟨p, ws, rfl, hs, a⟩ := list_V L r1 h1
    rw [ints_V a h2] at hs
    exact ⟨p, bs, rfl, hs, h3, fun k hk hy => hq _ _ F H M .refl L (.int _) (q k hk hy)⟩
theorem lk_min : LkR K (rMin K) gMin := by
  intro vs ds F H M L is Q h QV hq
  obtain ⟨x, ys, bs, rfl, h1, h2, h3, q⟩ := h
  cases is with
  | cons r1 r2 =>
    cases r2
    obtain ⟨p, ws, rfl, hs, a⟩ := list_V L r1 h1
    rw [ints_V a h2] at hs
    exact ⟨p, bs, rfl, hs, h3, fun k hk hy => hq _ _ F H M .refl L (.int _) (q k hk hy)⟩

/-! methods of lists -/
def gAppend : GM := fun o ds M Q => ∃ p xs y, o = .adr p ∧ ds = [y] ∧ M p = some (.lst xs) ∧ xs.length < sizeLine ∧ Q .non (updM M p (.lst (xs ++ [y])))
def gPop : GM := fun o ds M Q => ∃ p xs y, o = .adr p ∧ ds = [] ∧ M p = some (.lst xs) ∧ xs[xs.length - 1]? = some y ∧ Q y (updM M p (.lst xs.dropLast))
def gExtend : GM := fun o ds M Q => ∃ p xs e ys, o = .adr p ∧ ds = [e] ∧ M p = some (.lst xs) ∧ (e = .lst ys ∨ ∃ q, e = .adr q ∧ M q = some (.lst ys)) ∧ xs.length + ys.length ≤ sizeLine ∧ Q .non (updM M p (.lst (xs ++ ys)))
theorem lk_append : LkM K rAppend gAppend := by
  intro x vs dx ds F H M L ix is Q h QV hq
  obtain ⟨p, xs, y, rfl, rfl, hm, hz, q⟩ := h
  cases ix
  obtain ⟨f0, ws, hp, a⟩ := L.node p _ hm
  cases is with
  | cons r1 r2 =>
    cases r2
    exact ⟨p, ws, _, rfl, rfl, hp, by rw [a.length]; exact hz, hq _ _ F _ _ (.write hm) (L.write (n := .lst (xs ++ [y])) hm ⟨_, upd_same, a.append (.cons r1 .nil)⟩) .non q⟩
theorem lk_pop : LkM K rPop gPop := by
  intro x vs dx ds F H M L ix is Q h QV hq
  obtain ⟨p, xs, y, rfl, rfl, hm, hy, q⟩ := h
  cases ix
  cases is
  obtain ⟨f0, ws, hp, a⟩ := L.node p _ hm
  obtain ⟨v, hv, rv⟩ := a.get hy
  refine ⟨p, ws, v, rfl, rfl, hp, by rw [a.length]; exact hv, hq _ _ F _ _ (.write hm) (L.write (n := .lst xs.dropLast) hm ⟨_, upd_same, a.dropLast⟩) rv q⟩
theorem lk_extend : LkM K rExtend gExtend := by
  intro x vs dx ds F H M L ix is Q h QV hq
  obtain ⟨p, xs, e, ys, rfl, rfl, hm, he, hz, q⟩ := h
  cases ix
  obtain ⟨f0, ws, hp, a⟩ := L.node p _ hm
  cases is with
  | @cons v1 _ _ _ r1 r2 =>
    cases r2
    have key : ∃ b zs, v1 = V.ref b ∧ H b = some (.lst zs) ∧ IsA K F zs ys := by
      rcases he with rfl | ⟨q', rfl, hm'⟩
      · cases r1 with
        | lst h a => exact ⟨_, _, rfl, L.same _ _ h, a⟩
      · cases r1
        obtain ⟨_, zs, h2, a2⟩ := L.node q' _ hm'
        exact ⟨_, _, rfl, h2, a2⟩
    obtain ⟨b, zs, rfl, hb, a2⟩ := key
    exact ⟨p, b, ws, zs, rfl, rfl, hp, hb, by rw [a.length, a2.length]; exact hz, hq _ _ F _ _ (.write hm) (L.write (n := .lst (xs ++ ys)) hm ⟨_, upd_same, a.append a2⟩) .non q⟩

/-! slices -/
def cutD (xs : List D) (lo hi : Option Int) : List D := (xs.drop (HT.sIx xs.length 0 lo)).take (HT.sIx xs.length xs.length hi - HT.sIx xs.length 0 lo)
theorem cut_A {F : Hp} {vs : List V} {ds : List D} {lo hi : Option Int} (a : IsA K F vs ds) : IsA K F (cutV vs lo hi) (cutD ds lo hi) := by
  unfold cutV cutD
  rw [a.length]
  exact (a.drop _).take _
abbrev WO := (Option Int → Mem → Prop) → XEx → Rho → Mem → Prop
def OD (K : PySem.W.Frag) (W : WX) (t : TO) (w : WO) : Prop :=
  ∀ (F H : Hp) (σ : L2.St) (ρ : Rho) (M : Mem), Lay K F H M → Slots K F σ ρ → ∀ (Q : Option Int → Mem → Prop) (E : XEx), w Q E ρ M → ∀ QV : Option Int → Hp → Prop,
    (∀ b F' H' M', Grow F H M F' H' M' → Lay K F' H' M' → Q b M' → QV b H') →
    (∀ C dx v d F' H' M', Grow F H M F' H' M' → Lay K F' H' M' → F' dx = some (.xd [(("at" : Str), v)]) → Is K F' v d → E C d M' → W (.ref C) (some dx) σ H') → t σ H QV
variable (X m) in
def CO (e : Option Expr) (w : WO) : Prop := ∃ t : WX → TO, (∀ i pn xe W, Takes (mdX X (m i) pn xe) W → PO (mdX X (m i) pn xe) e (t W)) ∧ ∀ W, OD X.K W (t W) w
def wNoPart : WO := fun Q _ _ M => Q none M
def wPart (we : WE) : WO := fun Q E ρ M => we (fun d M1 => ∃ i, d = .int i ∧ Q (some i) M1) E ρ M
theorem co_none : CO X m none wNoPart := ⟨fun _ => tNoPart, fun _ _ _ _ _ => po_none, fun W F H σ ρ M L S Q E h QV hq hx => hq none F H M .refl L h⟩
theorem co_some {e : Expr} {we : WE} (he : CE X m e we) : CO X m (some e) (wPart we) := by
  obtain ⟨te, p, d⟩ := he
  refine ⟨fun W => tPart (te W), fun i pn xe W tk => po_some (p i pn xe W tk), fun W F H σ ρ M L S Q E h QV hq hx => ?_⟩
  refine d W F H σ ρ M L S _ E h _ (fun v x F1 H1 M1 g1 L1 i1 q1 => ?_) hx
  obtain ⟨i, rfl, q⟩ := q1
  cases i1
  exact ⟨i, rfl, hq _ F1 H1 M1 g1 L1 q⟩
abbrev GS := D → Option Int → Option Int → Mem → (D → Mem → Prop) → Prop
def LkS (K : PySem.W.Frag) (r : V → Option Int → Option Int → Hp → VK → Prop) (g : GS) : Prop :=
  ∀ x dx lo hi F H M, Lay K F H M → Is K F x dx → ∀ Q, g dx lo hi M Q → ∀ QV : VK, (∀ v d F' H' M', Grow F H M F' H' M' → Lay K F' H' M' → Is K F' v d → Q d M' → QV v H') → r x lo hi H QV
def wSl (g : GS) (we : WE) (wl wh : WO) : WE := fun Q E ρ M => we (fun x M1 => wl (fun l M2 => wh (fun u M3 => g x l u M3 Q) E ρ M2) E ρ M1) E ρ M
theorem ce_slice {r : V → Option Int → Option Int → Hp → VK → Prop} {g : GS} {e : Expr} {lo hi : Option Expr} {p2 pos : Pos} {we : WE} {wl wh : WO} (hr : ∀ i pn xe, SlR (mdX X (m i) pn xe) r) (lk : LkS X.K r g) (he : CE X m e we) (hl : CO X m lo wl) (hh : CO X m hi wh) :
    CE X m (.Subscript e (.Slice lo hi none p2) pos) (wSl g we wl wh) := by
  obtain ⟨te, p, d⟩ := he
  obtain ⟨tl, pl, dl⟩ := hl
  obtain ⟨th, ph, dh⟩ := hh
  refine ⟨fun W => tSl r (te W) (tl W) (th W), fun i pn xe W tk => pe_slice (hr i pn xe) (p i pn xe W tk) (pl i pn xe W tk) (ph i pn xe W tk), fun W F H σ ρ M L S Q E h QV hq hx => ?_⟩
  refine d W F H σ ρ M L S _ E h _ (fun v x F1 H1 M1 g1 L1 i1 q1 => ?_) hx
  refine dl W F1 H1 σ ρ M1 L1 (S.mono g1.same) _ E q1 _ (fun l F2 H2 M2 g2 L2 q2 => ?_) (fun C dx v d F' H' M' g L' e r q => hx C dx v d F' H' M' (g1.trans g) L' e r q)
  refine dh W F2 H2 σ ρ M2 L2 (S.mono (g1.trans g2).same) _ E q2 _ (fun u F3 H3 M3 g3 L3 q3 => ?_) (fun C dx v d F' H' M' g L' e r q => hx C dx v d F' H' M' (g1.trans (g2.trans g)) L' e r q)
  exact lk v x l u F3 H3 M3 L3 (i1.mono (g2.trans g3).same) Q q3 QV fun v d F4 H4 M4 g4 L4 i4 q4 => hq v d F4 H4 M4 (g1.trans (g2.trans (g3.trans g4))) L4 i4 q4
/-- of a tuple; of a list, not to be changed (M: to be changed); of a text -/
def gSlT : GS := fun x lo hi M Q => ∃ ds, x = .tup ds ∧ Q (.tup (cutD ds lo hi)) M
def gSlL : GS := fun x lo hi M Q => ∃ ds, listD M x = some ds ∧ Q (.lst (cutD ds lo hi)) M
def gSlLM : GS := fun x lo hi M Q => ∃ ds, listD M x = some ds ∧ ∀ p, M p = none → Q (.adr p) (updM M p (.lst (cutD ds lo hi)))
def gSlS : GS := fun x lo hi M Q => ∃ z, x = .str z ∧ z.length ≤ sizeLine ∧ Q (.str (cutS z lo hi)) M
theorem cutV_whole {xs : List V} {lo hi : Option Int} (h : HT.sIx xs.length 0 lo = 0 ∧ HT.sIx xs.length xs.length hi = xs.length) : cutV xs lo hi = xs := by
  unfold cutV
  rw [h.1, h.2]
  simp
theorem lk_slT : LkS K (rSlA K) gSlT := by
  intro x dx lo hi F H M L ix Q h QV hq
  obtain ⟨ds, rfl, q⟩ := h
  cases ix with
  | @tup p vs _ h1 a =>
    refine ⟨p, vs, rfl, L.tup h1, fun hw => ?_, fun _ l hl => ?_⟩
    · have e := cut_A (lo := lo) (hi := hi) a
      rw [cutV_whole hw] at e
      exact hq _ _ F H M .refl L (.tup h1 e) q
    · have hF := L.fnone hl
      exact hq _ _ _ _ M (.frozen hF hl) (L.frozen _ hl) (.tup (.inl (.inl upd_same)) ((cut_A a).mono (Same.new hF))) q
theorem lk_slL : LkS K (rSlL K) gSlL := by
  intro x dx lo hi F H M L ix Q h QV hq
  obtain ⟨ds, h1, q⟩ := h
  obtain ⟨p, ws, rfl, hs, a⟩ := list_V L ix h1
  refine ⟨p, ws, rfl, hs, fun l hl => ?_⟩
  have hF := L.fnone hl
  exact hq _ _ _ _ M (.frozen hF hl) (L.frozen _ hl) (.lst upd_same ((cut_A a).mono (Same.new hF))) q
theorem lk_slLM : LkS K (rSlL K) gSlLM := by
  intro x dx lo hi F H M L ix Q h QV hq
  obtain ⟨ds, h1, q⟩ := h
  obtain ⟨p, ws, rfl, hs, a⟩ := list_V L ix h1
  exact ⟨p, ws, rfl, hs, fun l hl => hq _ _ F _ _ (.made (n := .lst (cutD ds lo hi)) hl) (L.made (n := .lst (cutD ds lo hi)) hl ⟨_, upd_same, cut_A a⟩) (.adr l) (q l (L.mnone hl))⟩
theorem lk_slS : LkS K rSlS gSlS := by
  intro x dx lo hi F H M L ix Q h QV hq
  obtain ⟨z, rfl, hz, q⟩ := h
  cases ix
  exact ⟨z, rfl, hz, hq _ _ F H M .refl L (.str _) q⟩
/-- xs[::-1], to be changed or not -/
def wRevL (we : WE) : WE := fun Q E ρ M => we (fun x M1 => ∃ ds, listD M1 x = some ds ∧ Q (.lst ds.reverse) M1) E ρ M
def wRevM (we : WE) : WE := fun Q E ρ M => we (fun x M1 => ∃ ds, listD M1 x = some ds ∧ ∀ p, M1 p = none → Q (.adr p) (updM M1 p (.lst ds.reverse))) E ρ M
theorem ce_revL {e : Expr} {k : Nat} {p1 p2 p3 pos : Pos} {we : WE} (he : CE X m e we) : CE X m (.Subscript e (.Slice none none (some (.UnaryOp .USub (.Constant (.int 1) k p1) p2)) p3) pos) (wRevL we) := by
  obtain ⟨te, p, d⟩ := he
  refine ⟨fun W => tRevL X.K (te W), fun i pn xe W tk => pe_revL (p i pn xe W tk), fun W F H σ ρ M L S Q E h QV hq hx => ?_⟩
  refine d W F H σ ρ M L S _ E h _ (fun v x F1 H1 M1 g1 L1 i1 q1 => ?_) hx
  obtain ⟨ds, h1, q⟩ := q1
  obtain ⟨p, ws, rfl, hs, a⟩ := list_V L1 i1 h1
  refine ⟨p, ws, rfl, hs, fun l hl => ?_⟩
  have hF := L1.fnone hl
  exact hq _ _ _ _ M1 (g1.trans (.frozen hF hl)) (L1.frozen _ hl) (.lst upd_same (a.reverse.mono (Same.new hF))) q
theorem ce_revM {e : Expr} {k : Nat} {p1 p2 p3 pos : Pos} {we : WE} (he : CE X m e we) : CE X m (.Subscript e (.Slice none none (some (.UnaryOp .USub (.Constant (.int 1) k p1) p2)) p3) pos) (wRevM we) := by
  obtain ⟨te, p, d⟩ := he
  refine ⟨fun W => tRevL X.K (te W), fun i pn xe W tk => pe_revL (p i pn xe W tk), fun W F H σ ρ M L S Q E h QV hq hx => ?_⟩
  refine d W F H σ ρ M L S _ E h _ (fun v x F1 H1 M1 g1 L1 i1 q1 => ?_) hx
  obtain ⟨ds, h1, q⟩ := q1
  obtain ⟨p, ws, rfl, hs, a⟩ := list_V L1 i1 h1
  exact ⟨p, ws, rfl, hs, fun l hl => hq _ _ F1 _ _ (g1.trans (.made (n := .lst ds.reverse) hl)) (L1.made (n := .lst ds.reverse) hl ⟨_, upd_same, a.reverse⟩) (.adr l) (q l (L1.mnone hl))⟩
end
end Dl

set_option Elab.async false
set_option linter.all false
set_option maxRecDepth 100000
set_option maxHeartbeats 4000000
/-! an own exception class over ValueError's children whose __init__ says super().__init__(at); self.at = at -/
namespace Dl
open PySem PySem.Spec PyProof.Rows L2
def supBody (p0 p1 p2 p3 p4 p5 p6 p7 p8 p9 : Pos) : List Stmt :=
  [.Expr (.Call (.Attribute (.Call (.Name "super" p0) [] [] p1) "__init__" p2) [.Name "at" p3] [] p4) p5, .Assign [.Attribute (.Name "self" p6) "at" p7] (.Name "at" p8) p9]
def supScope : Scope := { kind := .function, names := [("self", .local), ("at", .local), ("__class__", .free), ("super", .globalImplicit)], isGenerator := false, isCoroutine := false, more := [] }
/-- the context of its body -/
def cxS (P : Program) (w : World) (K : PySem.W.Frag) (mg : Str → Option Value) (base : Heap) (env : Env) (A : Around) (outer : List Env) (s : Shared) (H : Hp) : Cx where
  prog := P
  w := w
  K := K
  mg := mg
  base := base
  A := A.deeper env
  N := ["self", "at"]
  s_0 := s
  H_0 := H
  env := env
  outer := outer
  stack := env :: outer
  ex := []
  calm := true
  fn := fun _ => false
  pn := []
  xe := fun _ _ => False
def spXI (K : PySem.W.Frag) (C : Addr) : Sp := fun vs H Q _ => ∃ a v, vs = [.ref a, v] ∧ H a = some (exo a C none) ∧ ∀ dx, H dx = none → dx ≠ a → Q .non (upd (upd H dx (exd dx [("at", v)])) a (exo a C (some dx)))
theorem kindS {y : Str} {k : NameKind} (h : supScope.names.lookup y = some k) : (y = "self" ∧ k = .local) ∨ (y = "at" ∧ k = .local) ∨ (y = "__class__" ∧ k = .free) ∨ (y = "super" ∧ k = .globalImplicit) := by
  have m := PySem.mem_of_lookup h
  simp only [supScope, List.mem_cons, List.mem_nil_iff, or_false, Prod.mk.injEq] at m
  exact m
section
variable {P : Program} {w : World} {K : PySem.W.Frag} {mg : Str → Option Value} {base : Heap} {C f cc cda : Addr} {qual : Str} {params : Arguments} {dV kV doc pm ct oc ccl cl : Value} {an od cdd cld : Option Addr} {osl ccs csl : Array (Option Value)} {vs : Array Value} {file : Str} {tf : Tok} {ar : Arg} {k : Nat} {p0 p1 p2 p3 p4 p5 p6 p7 p8 p9 : Pos}
theorem init_super (T : OexC K C)
    (lk : K.lookup f = some ⟨oc, od, .func (PySem.W.ksFn "__init__" qual params (supBody p0 p1 p2 p3 p4 p5 p6 p7 p8 p9) supScope dV kV doc pm an (.ref cda) ct cc), osl⟩)
    (hcd : PySem.W.codeIn K (.ref cda) qual = true) (hp : (params.posonlyargs ++ params.args).head? = some ar) (har : ar.arg = "self")
    (hcode : K.lookup cda = some ⟨ccl, cdd, .fields vs, ccs⟩) (hvs : vs[2]? = some (.str file tf)) (hfile : ((P.main.file : Str) == file) = true)
    (hcell : K.lookup cc = some ⟨cl, cld, .cell (some (.ref C)), csl⟩) (hsub : PySem.W.mroIn K C (.ref C) = some true) (hsup : mg "super" = none) (ho : PySem.W.nsIn K cStatics "thirdparty.any" = some none)
    (hm : PySem.W.ks_superIn K C C "__init__" = some (some (.builtin "ValueError.__init__"))) (hB : PySem.W.subIn K (.ref C) (.type "ValueError") = some true) (hno : PySem.W.findIn K (.ref C) "at" = some none)
    (htop : (P.main.scope.names.lookup ("super" : Str)).isSome = false)
    {pl : Env → Sem Bool} (hev : ∀ env : Env, eval (.Call (.Attribute (.Call (.Name "super" p0) [] [] p1) "__init__" p2) [.Name "at" p3] [] p4) env = (do
      let ov ← attributeBase (.Call (.Name "super" p0) [] [] p1) "__init__" env (eval (.Call (.Name "super" p0) [] [] p1) env)
      standAt p2.atName
      let (f, first) ← holding [ov] (getMethod ov "__init__" (pl env))
      callWith p4 f first (backTo p4 (starEach [.Name "at" p3] env)) [])) :
    FnOk P w K mg base (L2N.CX P w) 1 f (PySem.W.ksFn "__init__" qual params (supBody p0 p1 p2 p3 p4 p5 p6 p7 p8 p9) supScope dV kV doc pm an (.ref cda) ct cc) ["self", "at"] (spXI K C) := by
  refine ⟨fun vs H Q E ⟨a, v, e, _⟩ => by rw [e]; rfl, fun A outer s H args us vs' Q E hr e0 hb r hsp => ?_⟩
  obtain ⟨a, v, rfl, ha, hq⟩ := hsp
  cases r with
  | cons ru rr =>
  rename_i ua us'
  cases rr with
  | cons rv rr =>
  rename_i uv us''
  cases rr
  obtain rfl : ua = Value.ref a := ru
  have KX : K.In s.heap := e0.mod.kin.keeps fun b o e => (e0.bs b o e).1
  have lim : s.heap.NoLimit := e0.mod.nolimit.keeps fun b o e => (e0.bs b o e).1
  have loc : ∀ x ∈ (["self", "at"] : List Str).zip [Value.ref a, uv], supScope.names.lookup x.1 = some .local := by
    intro x hx
    simp at hx
    rcases hx with rfl | rfl
    · rfl
    · rfl
  refine PySem.ks_codeAny_call_defAt (fd := PySem.W.ksFn "__init__" qual params (supBody p0 p1 p2 p3 p4 p5 p6 p7 p8 p9) supScope dV kV doc pm an (.ref cda) ct cc) (body := supBody p0 p1 p2 p3 p4 p5 p6 p7 p8 p9) hr.depth (KX _ _ lk) rfl lim (PySem.W.codeRec_of KX hcd) rfl hb (by show ∀ x ∈ supScope.names, x.2 ≠ .cell; decide) loc (fun h₁ hns hk => ?_)
  have I : Inv (cxS P w K mg base (PySem.W.ksEnv qual supScope s.heap.objs.size f (.ref cda) cc) A outer s H) [] [some (.ref a), some v] H ⟨h₁, s.gens, s.drawn, s.toks + 2, s.os⟩ := by
    refine ⟨⟨e0.mod, rfl, rfl, rfl, Nat.le_refl _, fun y z c h1 h2 => ?_, fun y hy => ?_, fun y c h => (by cases h), fun _ => hr.hd, Around.frames_deeper e0.frames, .inr ⟨rfl, rfl⟩, fun b z => absurd z (by simp [cxS]), e0.bs, e0.bsz, fun b _ _ => by simp [cxS], fun b z => absurd z (by simp [cxS]), e0.funs, e0.frf⟩,
      rfl, e0.bare, Un.kept hk, ⟨_, hns, fun i y v' h1 h2 h3 => ?_⟩, fun y c h => ?_, e0.hok.fresh (Nat.le_refl _), fun y c h => ?_, fun p hp => absurd hp (by simp [cxS]), e0.hok.kept hk, rfl⟩
    · have e1 := PySem.mem_of_lookup h1
      have e2 := PySem.mem_of_lookup h2
      simp [cxS] at e1 e2
      rw [e1.1, e2.1]
    · rcases hy with hy | hy
      · rcases kindS hy with ⟨_, e⟩ | ⟨_, e⟩ | ⟨_, e⟩ | ⟨_, e⟩ <;> cases e
      · rcases kindS hy with ⟨_, e⟩ | ⟨_, e⟩ | ⟨e, _⟩ | ⟨_, e⟩
        · cases e
        · cases e
        · subst e; exact ⟨cc, rfl⟩
        · cases e
    · have hi : i < 2 := by
        have := (List.getElem?_eq_some_iff.mp h2).1
        simpa using this
      match i, hi with
      | 0, _ =>
        cases h1; cases h2
        exact ⟨.ref a, rfl, .inl ⟨rfl, rfl⟩⟩
      | 1, _ =>
        cases h1; cases h2
        exact ⟨uv, rv, .inl ⟨rfl, rfl⟩⟩
    · have e1 := PySem.mem_of_lookup h
      simp [cxS] at e1
      rw [e1.2]
      exact ⟨_, _, hk _ _ (KX _ _ hcell), rfl⟩
    · have e1 := PySem.mem_of_lookup h
      simp [cxS] at e1
      rw [e1.2]
      exact (e0.bs _ _ (e0.mod.kin _ _ hcell)).2
  refine ks_wpAt_execs_cons ?_
  refine ks_wpAt_Expr_any ?_
  obtain ⟨nm, q, N, bs, bm, sn, sub, ab, col, dd, k0, k1, k2, k3, k5, hC, hbm⟩ := T.cls
  have hcl : PySem.W.clsIn K C = some { name := nm, bases := bs, mro := .ref C :: bm, ns := N, qualname := q, hasDict := true, slotNames := sn, subclasses := sub, abstract := ab, collection := col, hasDel := false } := by unfold PySem.W.clsIn; rw [hC] <;> rfl
  obtain ⟨t1, hoa⟩ := exo_at I.hok ha
  have X1 : K.In h₁ := I.kIn
  obtain ⟨mb, hb1, hb2⟩ := I.mod.blt
  have IA : PySem.W.InstAt h₁ a { cls := .ref C, dict := none, data := .fields #[.ref t1, .none, .none, .none, .bool false, .none] } C none := ⟨hoa, rfl, rfl, trivial⟩
  refine ks_wpAt_MethodCall (pl := pl _) ?_ (hev _)
  refine ks_wpAt_super_base (env := PySem.W.ksEnv qual supScope s.heap.objs.size f (.ref cda) cc) rfl rfl (by decide) rfl (X1 _ _ lk) rfl hp rfl (X1 _ _ hcode) rfl hvs hfile htop ?_
  refine PySem.W.ks_loadName_global rfl rfl (PySem.Calls.loadGlobal_builtin (env := PySem.W.ksEnv qual supScope s.heap.objs.size f (.ref cda) cc) (I.mod.glob.keeps I.bk) hsup (hb1.keeps I.bk) ((hb2 _ (by decide)).trans (by kernel_rfl)) ⟨rfl, ?_⟩)
  refine wpAny_loadName_free rfl rfl rfl ⟨_, X1 _ _ hcell, rfl⟩ ?_
  rw [har]
  refine wpAny_loadName_local rfl rfl hns rfl ?_
  have hCo := X1 _ _ hC
  refine ks_wpAny_isType_cls hCo rfl ⟨rfl, ?_⟩
  refine ks_wpAny_call_super hCo rfl IA.at_ IA.cls (fun c e => by cases e) (PySem.W.looks_mroIn X1 hsub) (fun h2 e2 up2 => ?_)
  have I2 := I.kept (t' := s.toks + 2) up2
  have X2 : K.In h2 := I2.kIn
  have hI2 : PySem.W.Looks (model P w) h2 (isInstance (.ref a) (.type "ValueError")) true := (show PySem.W.InstAt h2 a _ C none from ⟨up2 _ _ hoa, rfl, rfl, trivial⟩ : PySem.W.InstAt h2 a { cls := .ref C, dict := none, data := .fields #[.ref t1, .none, .none, .none, .bool false, .none] } C none).type.andThen (PySem.W.looks_subIn X2 hB)
  have hm' : PySem.W.alongIn K "__init__" (((Value.ref C :: bm).dropWhile (· != .ref C)).drop 1) = some (some (.builtin "ValueError.__init__")) := by
    unfold PySem.W.ks_superIn at hm
    rw [hcl] at hm
    exact hm
  have haC : a ≠ C := fun z => by
    rw [z, hCo] at hoa
    cases hoa
  refine PySem.W.kxs_getMethod PySem.W.kxs_ValueError e2 (PySem.W.looks_opaque X2 ho) (l₀ := .ref C :: bm) (fun A Q E s k q => wpAny_bind ((PySem.W.looks_clsIn X2 hcl) A _ E s k (wpAny_pure q))) rfl X2 hm' hI2 haC (by decide) ?_
  have hu0 : (h2.push (PySem.W.kxs_mw "ValueError.__init__" a)).get? h2.objs.size = some (PySem.W.kxs_mw "ValueError.__init__" a) := Heap.get?_push_at rfl rfl
  have up3 : ∀ b o, h2.get? b = some o → (h2.push (PySem.W.kxs_mw "ValueError.__init__" a)).get? b = some o := fun b o e => Heap.get?_push_of_some _ e
  have I3 := I2.kept (t' := s.toks + 2 + 1) up3
  have X3 : K.In (h2.push (PySem.W.kxs_mw "ValueError.__init__" a)) := I3.kIn
  have ha3 := up3 _ _ (up2 _ _ hoa)
  have he : starEach [Expr.Name "at" p3] (PySem.W.ksEnv qual supScope s.heap.objs.size f (.ref cda) cc) = (false, eval (Expr.Name "at" p3) (PySem.W.ksEnv qual supScope s.heap.objs.size f (.ref cda) cc)) :: starEach [] (PySem.W.ksEnv qual supScope s.heap.objs.size f (.ref cda) cc) := by rfl
  show wpAny _ _ (callWith p4 (Value.ref h2.objs.size) [] (backTo p4 (starEach [Expr.Name "at" p3] (PySem.W.ksEnv qual supScope s.heap.objs.size f (.ref cda) cc))) []) _ _ _
  refine PySem.W.kxs_callWith (i := "ValueError.__init__") (x := a) (by rw [he]; rfl) ?_
  rw [he]
  refine PySem.Calls.evalArgs_plain ?_
  have hpa : PA (cxS P w K mg base (PySem.W.ksEnv qual supScope s.heap.objs.size f (.ref cda) cc) A outer s H) [.Name "at" p3] (tCons (tVar 1) tNil) := pa_cons (pv 1) pa_nil
  have I4 : Inv (cxS P w K mg base (PySem.W.ksEnv qual supScope s.heap.objs.size f (.ref cda) cc) A outer s H) [(h2.objs.size, PySem.W.kxs_mw "ValueError.__init__" a)] [some (.ref a), some v] H ⟨h2.push (PySem.W.kxs_mw "ValueError.__init__" a), s.gens, s.drawn, s.toks + 2 + 1, s.os⟩ := by
    refine I3.pins_of fun p hp => ?_
    obtain rfl : p = (h2.objs.size, PySem.W.kxs_mw "ValueError.__init__" a) := by simpa using hp
    exact ⟨hu0, I2.hok.fresh (Nat.le_refl _), Nat.ne_of_gt I2.lt, I2.nofs (Nat.le_refl _), fun v z => by cases z⟩
  refine wpAny_mono (hpa.run p4 _ _ [some (.ref a), some v] H (fun vs H1 => vs = [v] ∧ H1 = H) I4 ⟨v, rfl, rfl, rfl⟩) (fun us4 s4 hh => ?_) (fun _ _ z => z.elim)
  obtain ⟨vs4, H4, J4, r4, rfl, rfl⟩ := hh
  have hu4 : s4.heap.get? h2.objs.size = some (PySem.W.kxs_mw "ValueError.__init__" a) := (J4.pin (h2.objs.size, _) (by simp [cxS])).1
  refine ⟨hu4, ?_⟩
  obtain ⟨t4, hoa4⟩ := exo_at J4.hok ha
  have J4' := J4.pins_of (pins' := []) (fun p hp => absurd hp (by simp))
  have hz : us4.length ≤ sizeLine := by
    rw [← Paired.length r4, sizeLine_eq]
    show 1 ≤ _
    omega
  obtain ⟨h4, g4, d4, tk4, os4⟩ := s4
  have hC4 := J4.kIn _ _ hC
  refine wpAny_call (codeAny_of_tree ?_)
  show wpAny _ _ (callAny (.ref h2.objs.size) ⟨us4, []⟩) _ _ _
  simp only [callAny]
  refine wpAny_bind (wpAny_load hu4 ?_)
  simp only [PySem.W.kxs_mw, show (Value.type "method-wrapper" == Value.type "method" || Value.type "method-wrapper" == Value.type "builtin_function_or_method" || Value.type "method-wrapper" == Value.type "method-wrapper") = true by decide, if_true]
  refine PySem.W.KFB.if_so (by decide) ?_
  refine wpAny_bind (PySem.W.check_bound_init F.excBase_ValueError.toExcCallFacts hC4 hoa4 rfl ?_)
  refine wpAny_bind (wpAny_pure (wpAny_pure ?_))
  refine ⟨plainId_quiet F.excBase_ValueError.init.plain _, codeAny_builtin F.excBase_ValueError.initEntry ?_⟩
  refine PySem.W.exc_init_tree (cls := .ref C) (t0 := t4) (dv := none) (c2 := .none) (c3 := .none) (b4 := .bool false) hoa4 hz fun h' k' e' t' => ?_
  have J := J4'.write (t' := tk4) (x := a) (e := a) (o := exo a C none) (by rw [ha]; exact True.intro) (.inl rfl) k' ⟨_, e'⟩ (exo_ok e')
  have eu : upd H4 a (exo a C none) = H4 := by
    funext b
    by_cases hb : b = a
    · rw [hb, upd_same, ha]
    · rw [upd_ne hb]
  rw [eu] at J
  have hs : PSs (cxS P w K mg base (PySem.W.ksEnv qual supScope s.heap.objs.size f (.ref cda) cc) A outer s H4) [.Assign [.Attribute (.Name "self" p6) "at" p7] (.Name "at" p8) p9] (tOst K "at" (tVar 0) (tVar 1)) := pss_one (ps_ost (pv 0) (pv 1))
  have hend : tOst K "at" (tVar 0) (tVar 1) { nx := fun _ H' => Q .non H', rt := Q } [some (.ref a), some v] H4 :=
    ⟨v, rfl, .ref a, rfl, a, C, rfl, T, hno, .inl ⟨ha, fun dx hd hne => hq dx hd hne⟩⟩
  refine wpAt_of_wpAny (wpAny_mono (hs.run [] _ _ H4 _ J hend) (fun fl s' hs => ?_) (fun _ _ z => z.elim))
  have fin : ∀ {σ' : L2.St} {H' : Hp} {v : V} {u : Value}, Inv (cxS P w K mg base (PySem.W.ksEnv qual supScope s.heap.objs.size f (.ref cda) cc) A outer s H4) [] σ' H' s' → RelV v u → Q v H' → L2.CE outer P w H4 s Q u s' :=
    fun {σ' H' v u} J rv q => ⟨v, H', J.os, J.bare, J.base, J.hok, rv, q⟩
  cases fl with
  | ret u =>
    obtain ⟨v, σ', H', J, rv, q⟩ := hs
    exact fin J rv q
  | next =>
    obtain ⟨σ', H', J, q⟩ := hs
    exact fin J (show RelV .non .none from rfl) q
  | brk =>
    obtain ⟨σ', H', J, q⟩ := hs
    exact q.elim
  | cont =>
    obtain ⟨σ', H', J, q⟩ := hs
    exact q.elim
end
end Dl

set_option Elab.async false
set_option linter.all false
set_option maxRecDepth 100000
set_option maxHeartbeats 4000000
/-! raise, try, what stands in an except suite; code that is never reached -/
namespace Dl
open PySem PySem.Spec PyProof.Rows L2
section
variable {X : Cx} {ι : Type} {m : ι → Md} {K : PySem.W.Frag} {W : WX}

/-! ### what is never reached -/
def wDead : WS := fun _ _ _ => False
def wDeadE : WE := fun _ _ _ _ => False
theorem cs_dead {st : Stmt} : CS X m st wDead := ⟨fun _ _ _ _ => False, fun _ _ _ _ _ _ => ⟨fun _ _ _ _ _ _ h => h.elim⟩, fun W F H σ ρ M L S P h E hn hr hb hc hx => h.elim⟩
theorem cb_dead {st : List Stmt} : CB X m st wDead := ⟨fun _ _ _ _ => False, fun _ _ _ _ _ _ => ⟨fun _ _ _ _ _ _ h => h.elim⟩, fun W F H σ ρ M L S P h E hn hr hb hc hx => h.elim⟩
theorem ce_dead {e : Expr} : CE X m e wDeadE := ⟨fun _ _ _ _ => False, fun _ _ _ _ _ => ⟨fun _ _ _ _ _ _ h => h.elim⟩, fun W F H σ ρ M L S Q E h QV hq hx => h.elim⟩

/-! ### raise -/
theorem pmkN {C fI : Addr} {k : Nat} {fd : FuncData} {ps : List Str} {sp : Sp} {x : Str} {e : Expr} {es : List Expr} {p pos : Pos} {ta : TA} (T : OexC X.K C) (iC : PySem.W.findIn X.K (.ref C) "__init__" = some (some (.ref fI))) (tI : PySem.W.typeIn X.K (.ref fI) = some (.type "function"))
    (F1 : FnOk X.prog X.w X.K X.mg X.base (L2N.CX X.prog X.w) k fI fd ps sp) (hr : Room (k + 1) X.A) (hb : Binds X.K fd ps []) (hg : Gl X x) (hm : X.mg x = some (.ref C)) (ha : PA X (e :: es) ta)
    (hdb : (x == ("__debug__" : Str)) = false := by decide) (he : starEach (e :: es) X.env = (false, eval e X.env) :: starEach es X.env := by rfl) (hpl : (backTo pos (starEach es X.env)).any (·.1) = false := by rfl) :
    L2N.PMk X (.Call (.Name x p) (e :: es) [] pos) (tMkO C sp [] ta) := by
  intro pins s σ H Q I h
  obtain ⟨nm, q, N, bs, bm, sn, sub, ab, col, dd, k0, k1, k2, k3, k5, hC, hbm⟩ := T.cls
  refine wpAny_Call_Name_kw (ld_glob I hg hm ?_ hdb)
  refine PySem.W.callWith_K (h₀ := X.base) I.ok.mod.kin T.kC (thn (ha.run pos pins s σ H _ I h) fun us s1 ⟨vs, H1, I1, r1, hz, q1⟩ => ⟨I1.kIn, ?_⟩) he hpl
  show wpAny _ _ (call (.ref C) us) _ _ _
  obtain ⟨hp, g, dr, tk, os⟩ := s1
  have hsz : hp.objs.size ≤ hp.objs.size + 1 := Nat.le_succ _
  have hn : H1 (hp.objs.size + 1) = none := I1.hok.fresh hsz
  have hq := q1 (hp.objs.size + 1) hn
  have kk : ∀ b o, hp.get? b = some o → ((hp.push (PySem.W.kdv_tup us)).push (PySem.HandSPX.excO C hp.objs.size)).get? b = some o := fun b o e => Heap.get?_push_of_some _ (Heap.get?_push_of_some _ e)
  have hget : ((hp.push (PySem.W.kdv_tup us)).push (PySem.HandSPX.excO C hp.objs.size)).get? (hp.objs.size + 1) = some (PySem.HandSPX.excO C hp.objs.size) := by heap_get
  have I2 : Inv X pins σ (upd H1 (hp.objs.size + 1) (exo (hp.objs.size + 1) C none)) ⟨(hp.push (PySem.W.kdv_tup us)).push (PySem.HandSPX.excO C hp.objs.size), g, dr, tk, os⟩ :=
    I1.laid (t' := tk) (a := hp.objs.size + 1) (o := exo (hp.objs.size + 1) C none) (h' := (hp.push (PySem.W.kdv_tup us)).push (PySem.HandSPX.excO C hp.objs.size)) kk hsz (exo_ok hget)
  have r2 : Vals (V.ref (hp.objs.size + 1) :: (vs ++ [])) (Value.ref (hp.objs.size + 1) :: us) := by rw [List.append_nil]; exact .cons rfl r1
  have hl : (Value.ref (hp.objs.size + 1) :: us ++ []).length = ps.length := by
    have e := r2.length
    rw [F1.len _ _ _ _ hq] at e
    rw [List.append_nil]
    exact e.symm
  have b2 := hb _ (Value.ref (hp.objs.size + 1) :: us) I2.kIn hl
  rw [List.append_nil] at b2
  have hus : us.length ≤ sizeLine := by
    rw [← Paired.length r1, sizeLine_eq]
    omega
  refine wpAny_call (PySem.HandSPX.call_own F.excBase_ValueError (fun Y => PySem.HandSPX.refsVE_contains Y bm hbm) (I1.kIn _ _ hC) (PySem.W.looks_findIn I1.kIn iC) (fun self => PySem.W.bind_fn I1.kIn self tI) hus
    (codeAny_mono (F1.run _ X.stack _ _ ⟨Value.ref (hp.objs.size + 1) :: us, []⟩ (Value.ref (hp.objs.size + 1) :: us) _ _ (fun _ _ _ => False) (hr.make C us []) (I2.env0.make C us []) b2 r2 hq) fun r s' hq' => ?_))
  cases r with
  | error er =>
    obtain ⟨_, _, _, _, _, _, _, _, _, _, _, _, z⟩ := hq'
    exact z.elim
  | ok fl =>
    cases fl with
    | ret u =>
      obtain ⟨v, H2, os2, bare2, un2, hok2, rv, ev, d, fs, ea, ed, hd1, q2⟩ := hq'
      subst ev
      obtain ⟨h2, g2, d2, t2, os'⟩ := s'
      obtain ⟨t0, G, J, kG, ge, hoe, na⟩ := mk_end0 (d2 := d2) (t2 := t2) I1 hsz kk un2 hok2 os2 bare2 ea ed hd1
      exact ⟨rv, hp.objs.size + 1, _, _, ⟨G, g2, d2, t2, os'⟩, _, .ref C, some d, rfl, J, kG, ge, hoe, ⟨rfl, rfl, fun vs hv => by cases hv; rfl⟩, rfl, rfl, na, rfl, bare2, raises_own T.exC T.tyC, q2⟩
    | next => exact False.elim hq'
    | brk => exact False.elim hq'
    | cont => exact False.elim hq'
/-- raise C(e), C's own __init__ keeping spXI -/
def wRaise (C : Addr) (wa : WA) : WS := fun P ρ M => wa (fun ds M1 => ∃ d, ds = [d] ∧ P.ex C d ρ M1) (exOf P ρ) ρ M
/-- what is asked of the class -/
structure RaiseC (K : PySem.W.Frag) (C fI : Addr) : Prop where
  T : OexC K C
  i : PySem.W.findIn K (.ref C) "__init__" = some (some (.ref fI))
  t : PySem.W.typeIn K (.ref fI) = some (.type "function")
theorem cs_raise {C fI : Addr} {k : Nat} {fd : FuncData} {x : Str} {e : Expr} {es : List Expr} {p pos pos' : Pos} {wa : WA} (R : RaiseC X.K C fI) (F1 : FnOk X.prog X.w X.K X.mg X.base (L2N.CX X.prog X.w) k fI fd ["self", "at"] (spXI X.K C)) (hr : ∀ i, Room (k + 1) (m i).A) (hb : Binds X.K fd ["self", "at"] [])
    (hm : X.mg x = some (.ref C)) (ha : CA X m (e :: es) wa) (hc : ∀ i, (m i).calm = true := by intro _; rfl) (hg : ∀ i, (m i).env.kindOf x = some .globalImplicit := by intro _; rfl) (hdb : (x == ("__debug__" : Str)) = false := by decide)
    (he : ∀ i, starEach (e :: es) (m i).env = (false, eval e (m i).env) :: starEach es (m i).env := by intro _; rfl) (hpl : ∀ i, (backTo pos (starEach es (m i).env)).any (·.1) = false := by intro _; rfl) :
    CS X m (.Raise (some (.Call (.Name x p) (e :: es) [] pos)) none pos') (wRaise C wa) := by
  obtain ⟨ta, pa, da⟩ := ha
  refine ⟨fun W => fun _ σ H => tMkO C (spXI X.K C) [] (ta W) σ H fun cls d H' => W cls d σ H', fun i pn xe W tk _ => L2N.ps_raise (hc i) tk (pmkN R.T R.i R.t F1 (hr i) hb (hg i) hm (pa i pn xe W tk) hdb (he i) (hpl i)), fun W F H σ ρ M L S P h E hn hrt hbk hct hx => ?_⟩
  refine da W F H σ ρ M L S _ _ h _ (fun vs ds F1 H1 M1 g1 L1 i1 q1 => ?_) (fun C dx v d F' H' M' g L' e r q => hx C dx v d F' H' σ ρ M' g L' (S.mono g.same) e r q)
  obtain ⟨d, rfl, q1⟩ := q1
  cases i1 with
  | @cons v _ _ _ r1 r2 =>
    cases r2
    refine ⟨by show 1 ≤ 1000; omega, fun a hna => ⟨a, v, rfl, upd_same, fun dx hd hne => ?_⟩⟩
    have hd1 : H1 dx = none := by rw [upd_ne hne] at hd; exact hd
    refine ⟨rfl, dx, [("at", v)], upd_same, by rw [upd_ne hne, upd_same], hd1, ?_⟩
    have eH : upd (del (upd (upd (upd H1 a (exo a C none)) dx (exd dx [("at", v)])) a (exo a C (some dx))) a) dx (.xd [("at", v)]) = upd H1 dx (.xd [("at", v)]) := by
      funext b
      by_cases hb : b = dx
      · subst hb; rw [upd_same, upd_same]
      · rw [upd_ne hb, upd_ne hb]
        by_cases hba : b = a
        · subst hba; rw [del_same, hna]
        · rw [del_ne hba, upd_ne hba, upd_ne hb, upd_ne hba]
    rw [eH]
    have hf := L1.fnone hd1
    have g2 : Grow F1 H1 M1 (upd F1 dx (.xd [("at", v)])) (upd H1 dx (.xd [("at", v)])) M1 := .frozen hf hd1
    exact hx C dx v d _ _ σ ρ M1 (g1.trans g2) (L1.frozen _ hd1) (S.mono (g1.trans g2).same) upd_same (r1.mono g2.same) q1

/-! ### an except suite: the exception at a, its class C, its dict d -/
structure SIx (ι : Type) (a C d : Addr) where
  i : ι
  oe : Obj
  hz : L2N.Zn (.ref C) (some d) oe
  hf : ∃ vs, oe.data = .fields vs
abbrev mSu (m : ι → Md) (a C d : Addr) : SIx ι a C d → Md := fun j => { m j.i with A := (m j.i).A.mark (some (.ref a)), calm := false, pin := [(a, j.oe)] }
theorem pe_ofNox {X : Cx} {e : Expr} {te : TE} (h : PE X.nox e te) : PE X e te := ⟨fun pins s σ H Q I q => wpAny_mono (h.run pins s σ H Q (I.wish _) q) (fun u s' ⟨v, H', J, r, q⟩ => ⟨v, H', J.unwish, r, q⟩) (fun _ _ z => z.elim)⟩
/-- e.at -/
def wAt (a C d : Addr) (i : Nat) : WE := fun Q _ ρ M => ∃ x, ρ[i]? = some (some (.exc a C d x)) ∧ Q x M
theorem ce_at {a C d : Addr} (i : Nat) {x : Str} {pos pos' : Pos} (T : XfC X.K C) (hno : PySem.W.findIn X.K (.ref C) "at" = some none) (hN : X.N[i]? = some x := by rfl) (hv : ∀ j, Vis (m j).env.scope x := by intro _; first | exact Or.inl rfl | exact Or.inr (Or.inl rfl) | exact Or.inr (Or.inr rfl))
    (hd : (x == ("__debug__" : Str)) = false := by decide) (hcd : (x == ("__classdict__" : Str)) = false := by decide) (hb : ∀ j, attributeBase (.Name x pos) "at" (m j).env (eval (.Name x pos) (m j).env) = eval (.Name x pos) (m j).env := by intro _; rfl) :
    CE X (mSu m a C d) (.Attribute (.Name x pos) "at" pos') (wAt a C d i) := by
  refine ⟨fun W => tXf a (.ref C) (some d) C "at" (tVar i), fun j pn xe W tk => ?_, fun W F H σ ρ M L S Q E h QV hq hx => ?_⟩
  · exact pe_ofNox (X := mdX X (mSu m a C d j) pn xe) (pe_xf (X := mdX X (m j.i) pn xe) (a := a) (C := C) (oe := j.oe) (cls := .ref C) (d := some d) (pn := pn) T hno j.hz.zc j.hf (pv i hN (hv j.i) hd hcd) (hb j.i))
  · obtain ⟨y, hy, q⟩ := h
    obtain ⟨v, hv, iv⟩ := S.at_ i _ hy
    cases iv with
    | @exc _ _ _ v' _ h1 h2 => exact ⟨.ref a, hv, rfl, rfl, d, [("at", v')], v', rfl, L.same _ _ h1, rfl, hq _ _ F H M .refl L h2 q⟩
/-- isinstance(e, D) -/
structure ExcX (K : PySem.W.Frag) (C : Addr) : Prop where
  hg : PySem.W.findIn K (.ref C) "__getattribute__" = some (some (.builtin "BaseException.__getattribute__"))
  hk : PySem.W.findIn K (.ref C) "__getattr__" = some none
  hs : PySem.W.subIn K (.ref C) (.type "BaseException") = some true
  hc : (PySem.W.clsIn K C).isSome = true
  ha : PySem.W.findIn K (.ref C) "__class__" = some (some (.builtin "object.__class__"))
  hn : PySem.W.specialIn K (.builtin "object.__class__") "__get__" = some (some (.builtin "getset_descriptor.__get__"))
  ht : PySem.W.takesIn K (.builtin "object.__class__") = some true
  hm : PySem.W.mroIn K C (.type "object") = some true
theorem call_isX {Y : Cx} {a C d : Addr} {oe : Obj} (E : ExcX Y.K C) (hz : L2N.Zn (.ref C) (some d) oe) (hf : ∃ vs, oe.data = .fields vs) (hp : (a, oe) ∈ Y.pn) :
    CallR Y (.builtin "isinstance") (fun xs H Q => ∃ (D : Addr) (b : Bool), xs = [.ref a, .ref D] ∧ (∃ fs, H d = some (.xd fs)) ∧ PySem.W.kitOne Y.K (.ref C) (.ref D) = some b ∧ Q (.bl b) H) := by
  intro pins s σ H xs us Q I r h
  obtain ⟨D, b, rfl, hd, e, q⟩ := h
  obtain ⟨fs, hd⟩ := hd
  obtain ⟨od, hod⟩ := objOk_get (I.hok d _ hd)
  cases r with
  | cons rx rr =>
    cases rr with
    | cons rt rr =>
      cases rr
      cases rx
      cases rt
      obtain ⟨hget, _⟩ := I.pin (a, oe) (List.mem_append.mpr (.inl hp))
      obtain ⟨vs, hv⟩ := hf
      have J : PySem.W.InstAt s.heap a oe C (some od) := by
        obtain ⟨oc, od', oda, osl⟩ := oe
        obtain ⟨h1, h2, _⟩ := hz
        dsimp only at h1 h2 hv
        subst h1 h2 hv
        exact ⟨hget, rfl, rfl, hod⟩
      exact PySem.W.kia_one (PySem.W.kitx_exc E.hc E.hg E.hk E.hs E.ha E.hn E.ht E.hm) I.kIn J e (fun z => nomatch z) fun tk => ⟨.bl b, H, I.kept (t' := tk) fun _ _ z => z, rfl, q⟩
def wIsX (isx : Addr → Addr → Option Bool) (a C d : Addr) (i : Nat) (D : Addr) : WE := fun Q _ ρ M => ∃ x b, ρ[i]? = some (some (.exc a C d x)) ∧ isx C D = some b ∧ Q (.bl b) M
theorem ce_isX {isx : Addr → Addr → Option Bool} {a C d D : Addr} (i : Nat) {x y : Str} {p p1 p2 pos : Pos} (E : ExcX X.K C) (hk : ∀ b, isx C D = some b → PySem.W.kitOne X.K (.ref C) (.ref D) = some b) (hm : X.mg "isinstance" = none) (hD : X.mg y = some (.ref D))
    (hN : X.N[i]? = some x := by rfl) (hv : ∀ j, Vis (m j).env.scope x := by intro _; first | exact Or.inl rfl | exact Or.inr (Or.inl rfl) | exact Or.inr (Or.inr rfl)) (hd : (x == ("__debug__" : Str)) = false := by decide) (hcd : (x == ("__classdict__" : Str)) = false := by decide) (hdy : (y == ("__debug__" : Str)) = false := by decide)
    (hg : ∀ j, (m j).env.kindOf "isinstance" = some .globalImplicit := by intro _; rfl) (hgy : ∀ j, (m j).env.kindOf y = some .globalImplicit := by intro _; rfl)
    (he : ∀ j, starEach [.Name x p1, .Name y p2] (m j).env = (false, eval (.Name x p1) (m j).env) :: starEach [.Name y p2] (m j).env := by intro _; rfl) (he2 : ∀ j, starEach [.Name y p2] (m j).env = (false, eval (.Name y p2) (m j).env) :: starEach [] (m j).env := by intro _; rfl) (hpl : ∀ j, (backTo pos (starEach [.Name y p2] (m j).env)).any (·.1) = false := by intro _; rfl) :
    CE X (mSu m a C d) (.Call (.Name "isinstance" p) [.Name x p1, .Name y p2] [] pos) (wIsX isx a C d i D) := by
  refine ⟨fun W => tCB (fun xs H Q => ∃ (D : Addr) (b : Bool), xs = [.ref a, .ref D] ∧ (∃ fs, H d = some (.xd fs)) ∧ PySem.W.kitOne X.K (.ref C) (.ref D) = some b ∧ Q (.bl b) H) (tCons (tVar i) (tCons (tC (.ref D)) tNil)), fun j pn xe W tk => ?_, fun W F H σ ρ M L S Q E h QV hq hx => ?_⟩
  · exact pe_callB (X := mdX X (mSu m a C d j) pn xe) (call_isX E j.hz j.hf List.mem_cons_self) (hg j.i) hm (by kernel_rfl) (pa_cons (pv i hN (hv j.i) hd hcd) (pa_cons (pe_glob (hgy j.i) hD rfl hdy) pa_nil (he2 j.i)) (he j.i)) (by decide) (by decide) (he j.i) (hpl j.i)
  · obtain ⟨y, b, hy, hb, q⟩ := h
    obtain ⟨v, hv, iv⟩ := S.at_ i _ hy
    cases iv with
    | @exc _ _ _ v' _ h1 h2 => exact ⟨.ref a, hv, D, b, rfl, ⟨_, L.same _ _ h1⟩, hk b hb, hq _ _ F H M .refl L (.bl b) q⟩

/-- what is asked of a class whose exceptions are caught -/
structure SuC (K : PySem.W.Frag) (C : Addr) : Prop where
  xf : XfC K C
  no : PySem.W.findIn K (.ref C) "at" = some none
  ex : ExcX K C
/-! ### try: body, except Cc as e: suite -/
/-- exm: does the clause take the class -/
def wTry (exm : Addr → Option Bool) (i : Nat) (wb : WS) (ws : Addr → Addr → Addr → WS) : WS := fun P ρ M =>
  wb { P with ex := fun C x ρ' M' => ∃ b, exm C = some b ∧ (b = true → ∀ a d, ws a C d { nx := fun ρ2 M2 => P.nx (ρ2.set i none) M2, rt := P.rt, bk := fun ρ2 M2 => P.bk (ρ2.set i none) M2, ct := fun ρ2 M2 => P.ct (ρ2.set i none) M2, ex := fun _ _ _ _ => False } (ρ'.set i (some (.exc a C d x))) M') ∧ (b = false → P.ex C x ρ' M') } ρ M
noncomputable def tsOf (t : Addr → Addr → Addr → WX → TS) (a : Addr) : Value → Option Addr → TS
  | .ref C, some d => t a C d W0
  | _, _ => fun _ _ _ => False
theorem cs_try {exm : Addr → Option Bool} {Cc : Addr} (i : Nat) {x n : Str} {body suite : List Stmt} {b₀ : Stmt} {np pos pos' : Pos} {wb : WS} {ws : Addr → Addr → Addr → WS} (hN : X.N.Nodup) (hm : X.mg x = some (.ref Cc)) (he : ∀ C b, exm C = some b → PySem.W.exmOne X.K (.ref C) (.ref Cc) = some b)
    (hb : CB X m body wb) (hsu : ∀ a C d, exm C = some true → CB X (mSu m a C d) (b₀ :: suite) (ws a C d)) (hi : X.N[i]? = some n := by rfl) (hln : ∀ j, (m j).env.kindOf n = some .local := by intro _; rfl) (hg : ∀ j, (m j).env.kindOf x = some .globalImplicit := by intro _; rfl) (hdb : (x == ("__debug__" : Str)) = false := by decide)
    (hs : ∀ j, (m j).stack = (m j).env :: (m j).outer := by intro _; rfl) (hf : ∀ j, (m j).env.frame = some (m j).env.locals := by intro _; rfl) (hp : ∀ j, (m j).pin = [] := by intro _; rfl) :
    CS X m (.Try body [.ExceptHandler (some (.Name x np)) (some n) (b₀ :: suite) pos'] [] [] pos) (wTry exm i wb ws) := by
  obtain ⟨tb, pb, db⟩ := hb
  obtain ⟨ts, ps⟩ : ∃ ts : Addr → Addr → Addr → WX → TS, ∀ a C d, (∀ i pn xe W, Takes (mdX X (mSu m a C d i) pn xe) W → PassesOwn (model X.prog X.w) (mSu m a C d i).A (mSu m a C d i).env xe → PSs (mdX X (mSu m a C d i) pn xe) (b₀ :: suite) (ts a C d W)) ∧ (exm C = some true → ∀ W, SD X.K W (ts a C d W) (ws a C d)) := by
    have key : ∀ q : Addr × Addr × Addr, ∃ t : WX → TS, (∀ i pn xe W, Takes (mdX X (mSu m q.1 q.2.1 q.2.2 i) pn xe) W → PassesOwn (model X.prog X.w) (mSu m q.1 q.2.1 q.2.2 i).A (mSu m q.1 q.2.1 q.2.2 i).env xe → PSs (mdX X (mSu m q.1 q.2.1 q.2.2 i) pn xe) (b₀ :: suite) (t W)) ∧ (exm q.2.1 = some true → ∀ W, SD X.K W (t W) (ws q.1 q.2.1 q.2.2)) := fun q => by
      by_cases h : exm q.2.1 = some true
      · obtain ⟨t, p, d⟩ := hsu q.1 q.2.1 q.2.2 h
        exact ⟨t, p, fun _ => d⟩
      · exact ⟨fun _ _ _ _ => False, fun _ _ _ _ _ _ => ⟨fun _ _ _ _ _ _ z => z.elim⟩, fun z => absurd z h⟩
    exact ⟨fun a C d => Classical.choose (key (a, C, d)), fun a C d => Classical.choose_spec (key (a, C, d))⟩
  refine ⟨fun W => fun D σ H => tb (wAs X.K (.ref Cc) i (fun a cls d => tsOf ts a cls d) W D) D σ H, fun j pn xe W tk po => ?_, fun W F H σ ρ M L S P h E hn hrt hbk hct hx => ?_⟩
  · refine L2N.ps_try_as (X := mdX X (m j) pn xe) (tb := tb) (hs j) (hf j) hN hi (hln j) ⟨hg j, hdb, .inl hm⟩ tk (fun W' pn' xe' tk' po' => ?_) (fun a oe cls d pn' hz hv => ?_)
    · have e : mdX X (m j) pn' xe' = { mdX X (m j) pn xe with pn := pn', xe := xe' } := by
        show ({ X with A := (m j).A, s_0 := (m j).s_0, H_0 := (m j).H_0, env := (m j).env, outer := (m j).outer, stack := (m j).stack, ex := (m j).ex, fn := (m j).fn, calm := (m j).calm, pn := (m j).pin ++ pn', xe := xe' } : Cx) = _
        rw [hp j]
        rfl
      have z := pb j pn' xe' W'
      rw [e] at z
      exact z tk' po'
    · cases cls with
      | ref C =>
        cases d with
        | some d => exact (ps a C d).1 ⟨j, oe, hz, hv⟩ pn' (fun _ _ => False) W0 takes0 (PassesOwn.never)
        | none => exact ⟨fun _ _ _ _ _ _ h => h.elim⟩
      | _ => exact ⟨fun _ _ _ _ _ _ h => h.elim⟩
  · refine db _ F H σ ρ M L S _ h E hn hrt hbk hct (fun C dx v d F' H' σ' ρ' M' g L' S' e r q => ?_)
    obtain ⟨b, hb, q1, q2⟩ := q
    refine ⟨b, he C b hb, fun hbt a ha => ?_, fun hbf => hx C dx v d F' H' σ' ρ' M' g L' S' e r (q2 hbf)⟩
    subst hbt
    exact (ps a C dx).2 hb W0 F' H' _ _ M' L' (S'.set i (.exc e r)) _ (q1 rfl a dx) _ (fun F2 H2 σ2 ρ2 M2 g2 L2 S2 q => hn F2 H2 _ _ M2 (g.trans g2) L2 (S2.clear i) q) (fun v d F2 H2 M2 g2 L2 r q => hrt v d F2 H2 M2 (g.trans g2) L2 r q)
      (fun F2 H2 σ2 ρ2 M2 g2 L2 S2 q => hbk F2 H2 _ _ M2 (g.trans g2) L2 (S2.clear i) q) (fun F2 H2 σ2 ρ2 M2 g2 L2 S2 q => hct F2 H2 _ _ M2 (g.trans g2) L2 (S2.clear i) q) (fun C dx v d F' H' σ' ρ' M' g L' S' e r q => q.elim)
end
end Dl

set_option Elab.async false
set_option linter.all false
set_option maxRecDepth 100000
set_option maxHeartbeats 4000000
/-! a, b = x, y within an except suite -/
namespace Dl
open PySem PySem.Spec PyProof.Rows L2
section
variable {prog : Program} {w : World} {A : Around} {E : Value → Shared → Prop} {s : Shared}
theorem next_tuple_end_hot {it t x1 : Addr} {i : Nat} {items : Array Value} {Q : Option Value → Shared → Prop} (hot : HotX.HotAt A x1 s.heap) (hne : x1 ≠ it)
    (hit : s.heap.IsTupleIter it t i) (ht : s.heap.IsTuple t items) (hx : items[i]? = none)
    (hQ : ∀ h', Heap.ExtBut it s.heap h' → Q none { s with heap := h' }) : wpAny (model prog w) A (pyNext (.ref it)) Q E s := by
  obtain ⟨hh, o1, vs1, h1, d1, c1⟩ := hot
  obtain ⟨o, ho, hc, hd⟩ := id hit
  obtain ⟨ol, hol, _, nl, hdl⟩ := ht
  unfold pyNext
  refine wpAny_bind (wpAny_attempt (wpAny_callSpecial?_slot (name := Str.ofString "__next__") hit.typeIs F.slot_tuple_iterator_next
    (wpAny_call_entry F.slot_tuple_iterator_next hit.typeIs F.entry_tuple_iterator_next ?_ (F.args_tuple_iterator_next_1 _))))
  show wpAny _ _ (field (.ref it) 0 >>= _) _ _ s
  refine wpAny_bind (wpAny_field ho hd (x := .ref t) rfl ?_)
  show wpAny _ _ (if (Value.ref t == Value.none) = true then _ else _) _ _ s
  rw [if_neg (show ¬ ((Value.ref t == Value.none) = true) from Bool.false_ne_true)]
  show wpAny _ _ (field (.ref it) 1 >>= _) _ _ s
  refine wpAny_bind (wpAny_field ho hd (x := .int i 0) rfl ?_)
  show wpAny _ _ (seqItems? (.ref t) >>= _) _ _ s
  refine wpAny_bind (wpAny_seqItems hol hdl ?_)
  simp only [Int.toNat_natCast, hx]
  refine wpAny_bind (wpAny_rule (wpAny_bind (wpAny_setField ho hd (by simp) ?_)))
  show wpAny _ _ (newExc (.type "StopIteration") [] >>= _) _ _ _
  refine wpAny_bind ?_
  simp only [newExc, newTuple]
  refine wpAny_bind (wpAny_newObj_type ?_ (by size_fits))
  refine wpAny_bind (m := firstArgMember _ _) (wpAny_of_eq (a := Value.none) (by first | rfl | (simp only [firstArgMember]; rfl)) ?_)
  refine wpAny_newObj_type ?_ (by size_fits)
  have h1u : ∀ f, (s.heap.update it f).get? x1 = some o1 := fun f => by rw [Heap.get?_update_other _ _ (Ne.symm hne)]; exact h1
  refine HotX.raiseNew_hot ⟨hh, o1, vs1, Heap.get?_push_of_some _ (Heap.get?_push_of_some _ (h1u _)), d1, c1⟩ (Nat.ne_of_lt (Heap.lt_size (Heap.get?_push_of_some _ (h1u _)))) (Heap.get?_push_size _ rfl) rfl (by first | (simp; done) | (simp; omega) | (simp only [Array.size_append]; simp; omega)) ?_
  refine wpAny_bind (wpAny_isInstance (T := "StopIteration") (b := true) ⟨_, Heap.get?_update_self _ (Heap.get?_push_size _ rfl) rfl, rfl⟩ isSubtype_stop ?_)
  refine wpAny_pure (hQ _ fun b o hb e => ?_)
  have hbu : ∀ f, (s.heap.update it f).get? b = some o := fun f => by rw [Heap.get?_update_other _ _ (Ne.symm hb)]; exact e
  rw [Heap.get?_update_other _ _ (Nat.ne_of_gt (Heap.lt_size (Heap.get?_push_of_some _ (hbu _))))]
  exact Heap.get?_push_of_some _ (Heap.get?_push_of_some _ (hbu _))
theorem unpackItems_tuple_hot {t x1 : Addr} {items : Array Value} {Q : List Value → Shared → Prop} (hot : HotX.HotAt A x1 s.heap) (ht : s.heap.IsTuple t items)
    (hQ : ∀ h', Heap.ExtBut s.heap.objs.size s.heap h' → Q items.toList { s with heap := h' }) : wpAny (model prog w) A (unpackItems (.ref t) items.size none) Q E s := by
  have hlt : t ≠ s.heap.objs.size := by obtain ⟨o, ho, _⟩ := ht; exact Nat.ne_of_lt (Heap.lt_size ho)
  have hx1 : x1 ≠ s.heap.objs.size := by obtain ⟨_, o, _, ho, _⟩ := hot; exact Nat.ne_of_lt (Heap.lt_size ho)
  unfold unpackItems
  refine wpAny_bind ?_
  unfold notIterableAtAll
  refine wpAny_bind (wpAny_specialOf ht.typeIs F.slot_tuple_iter.lookup ?_)
  refine wpAny_pure ?_
  simp only [Bool.false_eq_true, if_false]
  refine wpAny_bind (wpAny_holding (wpAny_pyIter_tuple ht ?_))
  refine wpAny_bind (wpAny_holding (wpAny_draw_tuple hlt items.size 0 _ _ ⟨_, Heap.get?_push_size _ rfl, rfl, rfl⟩ (ht.push _) (by omega) fun h₁ hit₁ hs₁ => ?_))
  have hall : List.take items.size (List.drop 0 items.toList) = items.toList := by
    rw [List.drop_zero]; exact List.take_of_length_le (by simp)
  rw [hall]
  rw [if_neg (by simp)]
  have ht₁ : h₁.IsTuple t items := (ht.push _).extBut hs₁.extBut hlt
  have hot₁ : HotX.HotAt A x1 h₁ := by
    obtain ⟨hh, o1, vs1, h1, d1, c1⟩ := hot
    exact ⟨hh, o1, vs1, hs₁.extBut x1 o1 hx1 (Heap.get?_push_of_some _ h1), d1, c1⟩
  refine wpAny_bind (wpAny_holding (next_tuple_end_hot hot₁ hx1 hit₁ ht₁ (by simp) fun h₂ he₂ => ?_))
  simp only [Option.isSome_none, Bool.false_eq_true, if_false]
  refine wpAny_pure (hQ h₂ fun b o hb e => he₂ b o hb (hs₁.extBut b o hb (Heap.get?_push_of_some _ e)))
end
theorem ps_parH {X : Cx} {i j : Nat} {x y : Str} {a b : Expr} {ta : TA} {px py pt pos : Pos} {kt k2 : Nat} {pt2 : Pos} (hc : L2H.HotC X) (hN : X.N.Nodup) (hi : X.N[i]? = some x) (hj : X.N[j]? = some y) (hij : i ≠ j)
    (hx : X.env.scope.names.lookup x = some .local) (hy : X.env.scope.names.lookup y = some .local) (ha : PA X [a, b] ta)
    (hw : swappedStores [.Tuple [.Name x px, .Name y py] kt pt] (.Tuple [a, b] k2 pt2) X.env = pure (some [x, y]))
    (hs : swapsWithSole [.Tuple [.Name x px, .Name y py] kt pt] (.Tuple [a, b] k2 pt2) pos.line X.env = pure false := by rfl) :
    PS X (.Assign [.Tuple [.Name x px, .Name y py] kt pt] (.Tuple [a, b] k2 pt2) pos) (tPar i j ta) := by
  refine ⟨fun pins s σ H D I h => ?_⟩
  rw [exec_Assign_arm]
  refine wpAny_bind (wpAny_standAt ?_)
  rw [hs]
  refine wpAny_bind (wpAny_pure ?_)
  rw [if_neg (by decide)]
  refine wpAny_bind (Tuple_ (thn (ha.run _ pins s σ H _ I h) fun us s1 ⟨vs, H1, I1, r1, q1⟩ => ?_))
  obtain ⟨v, w, e1, q1⟩ := q1
  subst e1
  obtain ⟨u1, u2, rfl, rv, rw'⟩ : ∃ u1 u2, us = [u1, u2] ∧ RelV v u1 ∧ RelV w u2 := by
    cases r1 with
    | cons p q =>
      cases q with
      | cons p' q' =>
        cases q'
        exact ⟨_, _, rfl, p, p'⟩
  refine wpAny_newObj_type ?_ (by show 2 ≤ sizeLine; decide)
  have I2 : Inv X pins σ H1 { s1 with heap := s1.heap.push { cls := .type "tuple", data := .seq [u1, u2].toArray } } := I1.kept (t' := s1.toks) fun b o e => Heap.get?_push_of_some _ e
  rw [hw]
  refine wpAny_bind (wpAny_pure ?_)
  show wpAny (model X.prog X.w) X.A (do rule "assign.swapped-stores"; let items ← unpackItems (.ref s1.heap.objs.size) 2 none; assignInOrder [fun v => bindName X.env y v, fun v => bindName X.env x v] items.reverse; pure Flow.next) _ _ _
  obtain ⟨x1, hot⟩ := hc.at I2
  have hT : Heap.IsTuple (s1.heap.push { cls := .type "tuple", data := .seq [u1, u2].toArray }) s1.heap.objs.size #[u1, u2] := ⟨_, Heap.get?_push_size _ rfl, rfl, 0, rfl⟩
  refine wpAny_bind (wpAny_rule (wpAny_bind (unpackItems_tuple_hot (items := #[u1, u2]) hot hT fun h' hx' => ?_)))
  have I3 := I2.kept (h' := h') (t' := s1.toks) fun b o e => hx' b o (Nat.ne_of_lt (Heap.lt_size e)) e
  show wpAny _ _ (assignInOrder [fun v => bindName X.env y v, fun v => bindName X.env x v] [u2, u1] >>= fun _ => pure Flow.next) _ _ _
  refine wpAny_bind (assignInOrder_cons (wpAny_bindName (store_ok I3 hN hj (.inl hy) rw' (fun s2 I4 => ?_) (.inr hy))))
  refine assignInOrder_cons (wpAny_bindName (store_ok I4 hN hi (.inl hx) rv (fun s3 I5 => assignInOrder_nil (wpAny_pure ?_)) (.inr hx)))
  rw [List.set_comm _ _ (Ne.symm hij)] at I5
  exact ⟨_, H1, I5, q1⟩
section
variable {X : Cx} {ι : Type} {m : ι → Md}
theorem cs_parH {a' C d : Addr} (i j : Nat) {x y : Str} {a b : Expr} {px py pt : Pos} {kt k2 : Nat} {pt2 pos : Pos} {wa : WA} (hN : X.N.Nodup) (ha : CA X (mSu m a' C d) [a, b] wa) (hi : X.N[i]? = some x := by rfl) (hj : X.N[j]? = some y := by rfl) (hij : i ≠ j := by decide)
    (hx : ∀ l, (m l).env.scope.names.lookup x = some .local := by intro _; rfl) (hy : ∀ l, (m l).env.scope.names.lookup y = some .local := by intro _; rfl)
    (hw : ∀ l, swappedStores [.Tuple [.Name x px, .Name y py] kt pt] (.Tuple [a, b] k2 pt2) (m l).env = pure (some [x, y]) := by intro _; rfl)
    (hs : ∀ l, swapsWithSole [.Tuple [.Name x px, .Name y py] kt pt] (.Tuple [a, b] k2 pt2) pos.line (m l).env = pure false := by intro _; rfl) : CS X (mSu m a' C d) (.Assign [.Tuple [.Name x px, .Name y py] kt pt] (.Tuple [a, b] k2 pt2) pos) (wPar i j wa) := by
  obtain ⟨ta, p, d'⟩ := ha
  refine ⟨fun W => tPar i j (ta W), fun l pn xe W tk _ => ?_, fun W F H σ ρ M L S P h E hn hr hb hct hxx => ?_⟩
  · obtain ⟨vs, hvs⟩ := l.hf
    exact ps_parH (X := mdX X (mSu m a' C d l) pn xe) ⟨(a', l.oe), ⟨rfl, vs, hvs, l.hz.2.2 vs hvs⟩, List.mem_cons_self⟩ hN hi hj hij (hx l.i) (hy l.i) (p l pn xe W tk) (hw l.i) (hs l.i)
  · refine d' W F H σ ρ M L S _ _ h _ (fun vs ds F1 H1 M1 g1 L1 r1 q1 => ?_) (fun C dx v d F' H' M' g L' e r q => hxx C dx v d F' H' σ ρ M' g L' (S.mono g.same) e r q)
    obtain ⟨x1, y1, rfl, q1⟩ := q1
    cases r1 with
    | cons r1 r2 =>
      cases r2 with
      | cons r2 r3 =>
        cases r3
        exact ⟨_, _, rfl, hn F1 H1 _ _ M1 g1 L1 (((S.mono g1.same).set i r1).set j r2) q1⟩
end
end Dl

set_option Elab.async false
set_option linter.all false
set_option maxRecDepth 100000
set_option maxHeartbeats 4000000
/-! sets of ints, sorted, list(dict), reversed, displays -/
namespace Dl
open PySem PySem.Spec PyProof.Rows L2
section
variable {P : Program} {w : World} {A : Around} {E : Value → Shared → Prop} {s : Shared}
/-- set(xs) of a list of ints, with its table -/
theorem call_set_listI {l : Addr} {items : Array Value} (ns : List Int) {Q : Value → Shared → Prop} (hh : A.handled = none) (hl : s.heap.IsList l items) (hit : IntsAre items.toList ns) (hb : ns.length + 1 < scanBound)
    (h : ∀ (h' : Heap) (tk c : Nat), SetR w h' s.heap.objs.size (fun j => decide (j ∈ ns)) c → c ≤ ns.length → (∀ b o, s.heap.get? b = some o → h'.get? b = some o) → Q (.ref s.heap.objs.size) { s with heap := h', toks := tk }) :
    wpAny (model P w) A (call (.type "set") [.ref l]) Q E s := by
  have hisz : items.size = ns.length := by
    have q := IntsAre.length hit
    rw [Array.length_toList] at q
    exact q
  obtain ⟨c, tl, hmro⟩ := F.called_set.mro
  have hmade := F.called_set.made
  have hsub := F.called_set.sub
  refine wpAny_call (codeAny_of_tree ?_)
  show wpAny _ _ (callAny (.type "set") _) _ _ _
  refine wpAny_pure ⟨Code.quiet_builtin _ (by decide +kernel), codeAny_builtin F.entry_type_call ?_⟩
  rw [Around.under_plain (weight_type_call_type "set" [.ref l] []) rfl]
  have h1 := F.called_set.notType
  have h2 := F.called_set.canCreate
  have hct := F.typeCall_set_1 (.ref l)
  repeat (any_goals (first | assumption | wp_step))

  refine codeAny_mono (code_set_led1 (.ref l) (E := E) (Q₁ := fun obj s₁ => obj = .ref s.heap.objs.size ∧ s₁ = { s with heap := s.heap.push { cls := .type "set", dict := none, data := .set #[] 0 (.fresh 0 0 (!w.params.followText "set-order")) } }) ⟨rfl, rfl⟩) fun r s₁ hr => ?_
  cases r with
  | error e => exact hr
  | ok fl =>
    cases fl with
    | ret obj =>
      obtain ⟨rfl, rfl⟩ := hr
      have hS : (s.heap.push { cls := .type "set", dict := none, data := .set #[] 0 (.fresh 0 0 (!w.params.followText "set-order")) }).get? s.heap.objs.size = some { cls := .type "set", dict := none, data := .set #[] 0 (.fresh 0 0 (!w.params.followText "set-order")) } := Heap.get?_push_size _ rfl
      have hT : Shared.TypeIs { s with heap := s.heap.push { cls := .type "set", dict := none, data := .set #[] 0 (.fresh 0 0 (!w.params.followText "set-order")) } } (.ref s.heap.objs.size) "set" := ⟨_, hS, rfl⟩
      have hli := F.called_set.init.lookup
      have hbi := F.called_set.init.bind (.ref s.heap.objs.size)
      repeat (any_goals (first | assumption | wp_step))

      refine codeAny_mono (codeAny_call_builtin (R := wants (fun r s₂ => r = .none ∧ ∃ h' tk c, s₂ = { s with heap := h', toks := tk } ∧ SetR w h' s.heap.objs.size (fun j => decide (j ∈ ns)) c ∧ c ≤ ns.length ∧
          (∀ b o, s.heap.get? b = some o → h'.get? b = some o)) E) F.called_set.init.plain F.entry_set_init (check_set_init_1 hT ?_)) fun r₂ s₂ hr₂ => ?_
      · obtain ⟨ol, hol, hcl, nl, hdl⟩ := hl
        obtain ⟨ocls, odict, odata, oslots⟩ := ol
        simp only at hcl hdl
        subst hcl; subst hdl
        have hol' : (s.heap.push { cls := .type "set", dict := none, data := .set #[] 0 (.fresh 0 0 (!w.params.followText "set-order")) }).get? l = some { cls := .type "list", dict := odict, data := .seq items nl, slots := oslots } := Heap.get?_push_of_some _ hol
        have hsls := F.sub_list_set
        have hslf := F.sub_list_frozenset
        have hne : (Value.type "list" == Value.type "dict") = false := by decide
        have hl1 : (s.heap.push { cls := .type "set", dict := none, data := .set #[] 0 (.fresh 0 0 (!w.params.followText "set-order")) }).IsList l items := ⟨_, hol', rfl, nl, rfl⟩
        unfold Builtin.«set.__init__» noKeywords Builtin.Frozenset.updateFrom
        generalize hPI : pyIter = PI
        wp_walk
        subst hPI

        refine wpAny_pyIter_list hl1 ?_
        refine wpAny_bind (wpAny_runValue ?_)
        have hlS : l < s.heap.objs.size := Heap.lt_size hol
        have hh3 : A.in1.in1.in1.handled = none := by simp [hh]
        have hz1 : (s.heap.push { cls := .type "set", dict := none, data := .set #[] 0 (.fresh 0 0 (!w.params.followText "set-order")) }).objs.size = s.heap.objs.size + 1 := Heap.size_push ..
        have hneI : l ≠ (s.heap.push { cls := .type "set", dict := none, data := .set #[] 0 (.fresh 0 0 (!w.params.followText "set-order")) }).objs.size := by
          rw [Heap.size_push]; exact Nat.ne_of_lt (Nat.lt_succ_of_lt hlS)
        have hSf : s.heap.objs.size ∉ [(s.heap.push { cls := .type "set", dict := none, data := .set #[] 0 (.fresh 0 0 (!w.params.followText "set-order")) }).objs.size, l] := by
          rw [Heap.size_push]; simp only [List.mem_cons, List.mem_singleton, List.not_mem_nil, or_false, not_or]
          exact ⟨Nat.ne_of_lt (Nat.lt_succ_self _), Nat.ne_of_gt hlS⟩
        have hval : ∀ (i : Nat) (v : Value), items[i]? = some v → ∃ k t, ns[i]? = some k ∧ v = .int k t := fun i v hv => by
          have hi : i < ns.length := by rw [← hisz]; exact (Array.getElem?_eq_some_iff.mp hv).1
          obtain ⟨t, e⟩ := PyProof.Rows.IntsAre.int_at hit i v (by rw [Array.getElem?_toList]; exact hv)
          refine ⟨ns[i], t, List.getElem?_eq_getElem hi, ?_⟩
          rw [e, List.getD_eq_getElem?_getD, List.getElem?_eq_getElem hi] <;> rfl
        refine set_update_ints ((Walks.list hh3 _ l hneI items).toS) s.heap.objs.size
          hSf ns hisz hb hval (items.size - 0) 0 _ (by omega) (Nat.zero_le _)
          ⟨⟨_, Heap.get?_push_size _ rfl, rfl, rfl⟩, (hl1.push _)⟩ ?hS0 ?hR
        case hS0 =>
          have hget : ((s.heap.push { cls := .type "set", dict := none, data := .set #[] 0 (.fresh 0 0 (!w.params.followText "set-order")) }).push { cls := .type "list_iterator", data := .fields #[.ref l, .int 0 0] }).get? s.heap.objs.size
              = some { cls := .type "set", dict := none, data := .set #[] 0 (.fresh 0 0 (!w.params.followText "set-order")) } := Heap.get?_push_of_some _ hS
          exact ⟨0, Nat.le_refl 0, setR_new_at hget⟩
        case hR =>
          intro s' c' hm hc' hS'
          obtain ⟨h', g2, d', tk', os'⟩ := s'
          have eg : g2 = s.gens := hm.gens
          have ed : d' = s.drawn := hm.drawn
          have eo : os' = s.os := hm.os
          subst eg; subst ed; subst eo
          show wpAny _ _ _ _ _ _
          refine wpAny_pure ?_
          show wpAny _ _ (ret Value.none) _ _ _
          rw [hisz] at hc'
          refine wpAny_pure ⟨rfl, h', tk', c', rfl, hS', hc', fun b o e => ?_⟩
          have hb0 : b < s.heap.objs.size := Heap.lt_size e
          have hb1 : b ≠ s.heap.objs.size := Nat.ne_of_lt hb0
          have hb2 : b ≠ (s.heap.push { cls := .type "set", dict := none, data := .set #[] 0 (.fresh 0 0 (!w.params.followText "set-order")) }).objs.size := by
            rw [Heap.size_push]; exact Nat.ne_of_lt (Nat.lt_succ_of_lt hb0)
          exact hm.heap b o (by simp only [List.mem_cons, List.mem_singleton, List.not_mem_nil, or_false, not_or]; exact ⟨hb1, hb2⟩) (Heap.get?_push_of_some _ (Heap.get?_push_of_some _ e))

      · cases r₂ with
        | error e => exact hr₂
        | ok fl₂ =>
          cases fl₂ with
          | ret r =>
            obtain ⟨rfl, h', tk, c', rfl, hS', hc', hk'⟩ := hr₂
            repeat (any_goals (first | assumption | wp_step))
            exact h _ _ _ hS' hc' hk'
          | _ => exact hr₂.elim
    | _ => exact hr.elim

end
end Dl

set_option Elab.async false
set_option linter.all false
set_option maxRecDepth 100000
set_option maxHeartbeats 4000000
/-! sets of ints, sorted, list(dict), reversed, displays -/
namespace Dl
open PySem PySem.Spec PyProof.Rows L2
/-- set(xs), xs a list of ints -/
def rSetL (K : PySem.W.Frag) (w : World) : List V → Hp → VK → Prop := fun xs H Q => ∃ (l : Addr) (ns : List Int), xs = [.ref l] ∧ SqL K H l (ns.map V.int) ∧ ns.length + 1 < scanBound ∧
  ∀ (p : Addr) (c : Nat), H p = none → c ≤ ns.length → Q (.ref p) (upd H p (SetO w p (fun j => decide (j ∈ ns)) c))
theorem cr_setL {X : Cx} (hc : X.calm = true) : CallR X (.type "set") (rSetL X.K X.w) := by
  intro pins s σ H vs us Q I r h
  obtain ⟨l, ns, rfl, hs, hb, q⟩ := h
  obtain ⟨its, rv, hl, hz⟩ := I.list hs
  rw [Vals.ref1 r]
  refine call_set_listI ns (I.ok.hd hc) hl.isList rv.ints hb fun h' tk c hS hle hk => ?_
  have hn : H s.heap.objs.size = none := I.hok.fresh (Nat.le_refl _)
  exact ⟨.ref _, upd H s.heap.objs.size (SetO X.w s.heap.objs.size (fun j => decide (j ∈ ns)) c), I.laid (t' := tk) hk (Nat.le_refl _) (setO_new hS), rfl, q _ c hn hle⟩
section
variable {X : Cx} {K : PySem.W.Frag}
/-- strictly rising, the members of ns -/
def gSet (w : World) : GC := fun ds M Q => ∃ x ys ns, ds = [x] ∧ listD M x = some ys ∧ intsD ys = some ns ∧ ns.length + 1 < scanBound ∧ ∀ p c, M p = none → c ≤ ns.length → Q (.adr p) (updM M p (.raw (SetO w p (fun j => decide (j ∈ ns)) c)))
theorem lk_set {w : World} : LkR K (rSetL K w) (gSet w) := by
  intro vs ds F H M L is Q h QV hq
  obtain ⟨x, ys, ns, rfl, h1, h2, h3, q⟩ := h
  cases is with
  | cons r1 r2 =>
    cases r2
    obtain ⟨p, ws, rfl, hs, a⟩ := list_V L r1 h1
    rw [ints_V a h2] at hs
    exact ⟨p, ns, rfl, hs, h3, fun p' c hp hle => hq _ _ F _ _ (.made (n := .raw _) hp) (L.made (n := .raw _) hp upd_same) (.adr p') (q p' c (L.mnone hp) hle)⟩
def gSortedSet (w : World) : GC := fun ds M Q => ∃ p S n, ds = [.adr p] ∧ M p = some (.raw (SetO w p S n)) ∧ n < 64 ∧ ∀ ns : List Int, ns.Pairwise (· < ·) → (∀ k : Int, k ∈ ns ↔ S k = true) → ns.length = n → Q (.lst (ns.map .int)) M
theorem lk_sortedSet {w : World} : LkR K (rSortedSet w) (gSortedSet w) := by
  intro vs ds F H M L is Q h QV hq
  obtain ⟨p, S, n, rfl, hm, h64, q⟩ := h
  cases is with
  | cons r1 r2 =>
    cases r2
    cases r1
    obtain ⟨f0, hp⟩ := L.node p _ hm
    exact ⟨p, S, n, rfl, hp, h64, fun ns l h1 h2 h3 hl => hq _ _ (upd F l (.lst (ns.map V.int))) _ M (.frozen (L.fnone hl) hl) (L.frozen _ hl) (.lst upd_same (isA_ints ns)) (q ns h1 h2 h3)⟩
/-- sorted(xs) of a list of ints -/
def gSorted : GC := fun ds M Q => ∃ x ys ns, ds = [x] ∧ listD M x = some ys ∧ intsD ys = some ns ∧ ∀ ns' : List Int, ns'.Perm ns → ns'.Pairwise (· ≤ ·) → Q (.lst (ns'.map .int)) M
theorem lk_sorted : LkR K (rSortedI K) gSorted := by
  intro vs ds F H M L is Q h QV hq
  obtain ⟨x, ys, ns, rfl, h1, h2, q⟩ := h
  cases is with
  | cons r1 r2 =>
    cases r2
    obtain ⟨p, ws, rfl, hs, a⟩ := list_V L r1 h1
    rw [ints_V a h2] at hs
    exact ⟨p, ns, rfl, hs, fun ns' l h3 h4 hl => hq _ _ (upd F l (.lst (ns'.map V.int))) _ M (.frozen (L.fnone hl) hl) (L.frozen _ hl) (.lst upd_same (isA_ints ns')) (q ns' h3 h4)⟩
end
end Dl

set_option Elab.async false
set_option linter.all false
set_option maxRecDepth 100000
set_option maxHeartbeats 4000000
/-! enumerate of a tuple -/
namespace Dl
open PySem PySem.Spec PyProof.Rows L2
open AutoSeq1 (wpAny_loadPart')
theorem enum_newT (l : Addr) (items : Array Value) (n : Nat) (dct : Option Addr) (sl : Array (Option Value)) :
    Meets (Builtin.«enumerate.__new__» ⟨[.type "enumerate", .ref l], []⟩) (fun _ R s => s.heap.get? l = some { cls := .type "tuple", dict := dct, data := .seq items n, slots := sl } ∧
      R (.ok (.ret (.ref (s.heap.push { cls := .type "tuple_iterator", data := .fields #[.ref l, .int 0 0] }).objs.size)))
        { s with heap := (s.heap.push { cls := .type "tuple_iterator", data := .fields #[.ref l, .int 0 0] }).push { cls := .type "enumerate", data := .fields #[.none, .bool false, .ref s.heap.objs.size, rawInt 0, .none, .none] } }) :=
  .of_wp fun prog w A R s h => by
    obtain ⟨hp, g, d, tk, os⟩ := s; obtain ⟨hl, h⟩ := h
    have hsub := sub_enumerate
    have hL : Heap.IsTuple (Shared.heap ⟨hp, g, d, tk, os⟩) l items := ⟨_, hl, rfl, n, rfl⟩
    wp_walk using wpAny_loadPart' hl
    refine wpAny_stack_any fun st => wpAny_pure ?_
    split
    · rename_i c _ _ _ _ _
      cases (c == Value.type "enumerate")
      · wp_walk using wpAny_loadPart' hl, wpAny_pyIter_tuple hL
        exact ⟨_, rfl, h⟩
      · wp_walk using wpAny_loadPart' hl, wpAny_pyIter_tuple hL
        exact ⟨_, rfl, h⟩
    · wp_walk using wpAny_loadPart' hl, wpAny_pyIter_tuple hL
      exact ⟨_, rfl, h⟩
section
variable {prog : Program} {w : World} {A : Around} {E : Value → Shared → Prop} {s : Shared}
theorem call_enumT {l : Addr} {items : Array Value} {Q : Value → Shared → Prop} (hL : s.heap.IsTuple l items)
    (h : ∀ h', IsEnum h' (s.heap.objs.size + 1) s.heap.objs.size 0 .none → h'.IsTupleIter s.heap.objs.size l 0 → h'.objs.size = s.heap.objs.size + 2 →
      (∀ b o, s.heap.get? b = some o → h'.get? b = some o) → Q (.ref (s.heap.objs.size + 1)) { s with heap := h' }) :
    wpAny (model prog w) A (call (.type "enumerate") [.ref l]) Q E s := by
  obtain ⟨⟨c, dct, dt, sl⟩, hl, hc, n, hd⟩ := hL
  replace hc : c = .type "tuple" := hc
  replace hd : dt = .seq items n := hd
  subst hc hd
  refine callType_new F.called_enumerate (by decide) (F.typeCall_enumerate_1 _) (F.newCall_enumerate_1 _) (fun obj => F.args_object_init_2 obj _) F.entry_enumerate_new
    (enum_newT l items n dct sl) ⟨hl, ?_⟩
  have hz : (s.heap.push { cls := .type "tuple_iterator", data := .fields #[.ref l, .int 0 0] }).objs.size = s.heap.objs.size + 1 := Heap.size_push ..
  show _ ∧ _
  rw [hz]
  have he : IsEnum ((s.heap.push { cls := .type "tuple_iterator", data := .fields #[.ref l, .int 0 0] }).push
      { cls := .type "enumerate", data := .fields #[.none, .bool false, .ref s.heap.objs.size, rawInt 0, .none, .none] }) (s.heap.objs.size + 1) s.heap.objs.size 0 .none := by
    have := Heap.get?_push_size (s.heap.push { cls := .type "tuple_iterator", data := .fields #[.ref l, .int 0 0] })
      (o := { cls := .type "enumerate", data := .fields #[.none, .bool false, .ref s.heap.objs.size, rawInt 0, .none, .none] }) rfl
    rw [hz] at this; exact this
  refine ⟨⟨_, he, rfl⟩, h _ he ⟨_, Heap.get?_push_of_some _ (Heap.get?_push_size _ rfl), rfl, rfl⟩ (by rw [Heap.size_push, hz]) fun b o x => Heap.get?_push_of_some _ (Heap.get?_push_of_some _ x)⟩
end
/-- the tuple at a, each item in a new pair -/
def IteT (K : PySem.W.Frag) (a : Addr) : It :=
  ⟨fun i H => ∃ (xs : List V) (x : V), SqT K H a xs ∧ xs[i]? = some x, fun i H v H' => ∃ T x, v = .ref T ∧ H T = none ∧ H' = upd H T (.tup [.int (i : Nat), x]) ∧ ∀ xs, SqT K H a xs → xs[i]? = some x, fun i H => ∃ xs : List V, SqT K H a xs ∧ xs.length ≤ i⟩
theorem turn_enumT {P : Program} {w : World} {K : PySem.W.Frag} {elts : List Expr} {kk : Nat} {tpos : Pos} (a e it : Addr) (hea : e ≠ a) (hai : a ≠ it) :
    Turn P w K (.Tuple elts kk tpos) (IteT K a) [e, it] e (fun i h => (∃ old, IsEnum h e it ((i : Nat) : Int) old) ∧ h.IsTupleIter it a i ∧ e ≠ it) where
  mem := by simp
  obj := fun i h st b hb => by
    obtain ⟨⟨old, he⟩, ⟨o, ho, hc, hd⟩, _⟩ := st
    have e' : b = e ∨ b = it := by simpa using hb
    rcases e' with z | z
    · rw [z]; exact ⟨_, he, fun v q => nomatch q⟩
    · rw [z]; exact ⟨o, ho, fun v q => by rw [hd] at q; cases q⟩
  keep := fun i h h' st k => let ⟨⟨old, he⟩, hi, hne⟩ := st; ⟨⟨old, k e (by simp) _ he⟩, hi.at fun o q => k it (by simp) o q, hne⟩
  item := by
    intro X hP hw hK hc i pins s σ H E I hf st hg
    subst hP hw hK
    obtain ⟨⟨old, he⟩, hit, hne⟩ := st
    obtain ⟨xs, x, hq, hx⟩ := hg
    obtain ⟨its, rv, p, hz⟩ := I.tuple hq
    obtain ⟨u, hu, ru⟩ := rv.get hx
    have hel : e < s.heap.objs.size := Heap.lt_size he
    have hil : it < s.heap.objs.size := by obtain ⟨_, q, _⟩ := hit; exact Heap.lt_size q
    have hin : i < its.toArray.size := by
      have := (List.getElem?_eq_some_iff.mp hu).1
      simpa using this
    refine wpAny_pyNext_enum_itemD (Draws.tuple (show X.A.in1.handled = none from I.ok.hd hc) it a hai its.toArray) he ⟨hit, p⟩ hin hne (by simp [hne, hea]) fun x' h' tk hx' ho hst hT hsz hk => ?_
    have hit' : h'.IsTupleIter it a (i + 1) := hst.1
    have ex : x' = u := by
      have z : its.toArray[i]? = some x' := hx'
      rw [List.getElem?_toArray, hu] at z
      exact (Option.some.inj z).symm
    subst ex
    refine ⟨_, rfl, wpAny_letOwnedTupleGo_enum (s := { s with heap := h', toks := tk + 1 }) ho fun h'' he' sb => ?_⟩
    have hT2 : h''.get? s.heap.objs.size = some { cls := .type "tuple", data := .seq #[.int i tk, x'] } := (sb.2 _ (Nat.ne_of_gt hel)).trans hT
    have new : ObjOk X.prog X.w (upd H s.heap.objs.size (.tup [.int (i : Nat), x])) h'' s.heap.objs.size (.tup [.int (i : Nat), x]) :=
      ⟨by show 2 ≤ sizeLine; decide, [.int i tk, x'], .cons ⟨_, rfl⟩ (.cons ru .nil), ⟨_, hT2, rfl, _, rfl⟩⟩
    have I1 : Inv X pins σ (upd H s.heap.objs.size (.tup [.int (i : Nat), x])) { s with heap := h'', toks := tk + 1 } :=
      I.turnedNew (ch := [e, it]) (fun b ob hb q => (sb.2 b (fun z => hb (by simp [z]))).trans (hk b ob (fun z => hb (by simp [z])) (fun z => hb (by simp [z])) q)) hf (Nat.le_refl _) new
    refine ⟨.ref s.heap.objs.size, _, I1, rfl, ⟨_, x, rfl, I.hok.fresh (Nat.le_refl _), rfl, fun ys hy => by rw [I.tuple_inj hy hq]; exact hx⟩, ⟨⟨x', ?_⟩, hit'.at fun o q => (sb.2 it (Ne.symm hne)).trans q, hne⟩, fun b hb => ?_⟩
    · have e1 : ((i + 1 : Nat) : Int) = (i : Int) + 1 := by omega
      rw [e1]; exact he'
    · have hb' : b < s.heap.objs.size := by
        have e' : b = e ∨ b = it := by simpa using hb
        rcases e' with z | z
        · rw [z]; exact hel
        · rw [z]; exact hil
      rw [upd_ne (Nat.ne_of_lt hb')]
      exact (hf b hb).1
  done := by
    intro X hP hw hK hc i pins s σ H E I hf st hg
    subst hP hw hK
    obtain ⟨⟨old, he⟩, hit, hne⟩ := st
    obtain ⟨xs, hq, hx⟩ := hg
    obtain ⟨its, rv, p, hz⟩ := I.tuple hq
    obtain ⟨f0, f1, f2, f3, f4, f5⟩ := hf it (by simp)
    have hl := rv.length
    have hT : s.TypeIs (.ref e) "enumerate" := ⟨_, he, rfl⟩
    unfold pyNext
    refine wpAny_bind (wpAny_attempt (wpAny_callSpecial?_slot (name := Str.ofString "__next__") hT F.slot_enumerate_next
      (wpAny_call_entry F.slot_enumerate_next hT F.entry_enumerate_next ?_ (F.args_enumerate_next_1 _))))
    show wpAny _ _ (field (.ref e) 2 >>= _) _ _ _
    refine wpAny_bind (wpAny_field he rfl (x := .ref it) rfl ?_)
    refine wpAny_bind (wpAny_nextOf_tuple_end (show X.A.in1.handled = none from I.ok.hd hc) hit p (by simp; omega) fun h' x he' hx' => ?_)
    obtain ⟨o, ho, hcc⟩ := hx'
    refine wpAny_bind (wpAny_isInstance (T := "StopIteration") (b := true) ⟨o, ho, hcc⟩ isSubtype_stop ?_)
    exact wpAny_pure ⟨rfl, I.turned (t' := s.toks) (fun b o hb q => he' b o hb q) f0 f1 f3 f4 f5⟩
  self := fun A i s Q E st h => let ⟨⟨_, he⟩, _⟩ := st; wpAny_pyIter_enum he h
def iEnumT (K : PySem.W.Frag) (ta : TA) : TI := fun σ H R => ta σ H fun vs H1 => ∃ a xs, vs = [.ref a] ∧ SqT K H1 a xs ∧ R (IteT K a) H1
theorem pi_enumT {X : Cx} {e : Expr} {ta : TA} {p pos tpos : Pos} {elts : List Expr} {kk : Nat} (hg : Gl X "enumerate") (hm : X.mg "enumerate" = none) (ha : PA X [e] ta) (hs : starEach [e] X.env = [(false, eval e X.env)] := by rfl) :
    PI X (.Tuple elts kk tpos) (.Call (.Name "enumerate" p) [e] [] pos) (iEnumT X.K ta) := by
  refine ⟨fun pins s σ H R I h => ?_⟩
  refine Call_ (ld_blt I hg hm boot_enumerate (PyProof.Rows.callWith_type1 (thn (ha.run pos pins s σ H _ I h) fun us s1 ⟨vs, H1, I1, r1, q1⟩ => ?_) hs rfl))
  obtain ⟨a, xs, ex, hq, q⟩ := q1
  subst ex
  cases r1 with
  | cons r rr =>
    cases rr
    cases r
    obtain ⟨its, rv, p', hz⟩ := I1.tuple hq
    have hlt : a < s1.heap.objs.size := by obtain ⟨o, ho, _⟩ := p'; exact Heap.lt_size ho
    refine call_enumT p' fun h' he hit hsz hk => wpAny_pyIter_enum he ?_
    have I2 : Inv X pins σ H1 { s1 with heap := h' } := I1.kept (t' := s1.toks) hk
    refine ⟨s1.heap.objs.size + 1, [s1.heap.objs.size + 1, s1.heap.objs.size], _, _, H1, rfl, I2, turn_enumT a (s1.heap.objs.size + 1) s1.heap.objs.size (Nat.ne_of_gt (Nat.lt_succ_of_lt hlt)) (Nat.ne_of_lt hlt), ⟨⟨.none, he⟩, hit, Nat.succ_ne_self _⟩, fun b hb => ?_, q⟩
    have e' : b = s1.heap.objs.size + 1 ∨ b = s1.heap.objs.size := by simpa using hb
    have hle : s1.heap.objs.size ≤ b := by
      rcases e' with z | z
      · rw [z]; exact Nat.le_add_right _ _
      · rw [z]; exact Nat.le_refl _
    exact I1.fpOk hle (I1.hok.fresh hle)
def enumFrom (k : Nat) : List D → List D
  | [] => []
  | x :: r => .tup [.int (k : Int), x] :: enumFrom (k + 1) r
theorem enumFrom_length : ∀ (k : Nat) (xs : List D), (enumFrom k xs).length = xs.length
  | _, [] => rfl
  | k, _ :: r => by show (enumFrom (k + 1) r).length + 1 = r.length + 1; rw [enumFrom_length]
theorem enumFrom_get : ∀ (k : Nat) (xs : List D) (i : Nat) (d : D), (enumFrom k xs)[i]? = some d → ∃ x, xs[i]? = some x ∧ d = .tup [.int ((k + i : Nat) : Int), x]
  | _, [], i, d, h => by simp [enumFrom] at h
  | k, x :: r, 0, d, h => by
    simp [enumFrom] at h
    exact ⟨x, rfl, h.symm⟩
  | k, x :: r, i + 1, d, h => by
    have h' : (enumFrom (k + 1) r)[i]? = some d := by simpa [enumFrom] using h
    obtain ⟨y, h1, h2⟩ := enumFrom_get (k + 1) r i d h'
    refine ⟨y, by simpa using h1, ?_⟩
    rw [h2, show k + 1 + i = k + (i + 1) by omega]
theorem walk_enumT {K : PySem.W.Frag} {F : Hp} {a : Addr} {vs : List V} {ds : List D} (h : SqT K F a vs) (r : IsA K F vs ds) : Walk K (IteT K a) F (enumFrom 0 ds) where
  go := fun i F' H' M' s L hi => by
    rw [enumFrom_length] at hi
    have hv : i < vs.length := by rw [r.length]; exact hi
    exact ⟨vs, vs[i], L.tup (Same.tupS s h), by simp [hv]⟩
  yld := fun i d F' H' M' x H'' s L e y => by
    obtain ⟨T, x1, rfl, hT, rfl, y⟩ := y
    obtain ⟨x2, e2, rfl⟩ := enumFrom_get 0 ds i d e
    obtain ⟨v, ev, rv⟩ := (r.mono s).get e2
    have := y vs (L.tup (Same.tupS s h))
    rw [ev] at this
    cases this
    have hf := L.fnone hT
    refine ⟨upd F' T (.tup [.int (i : Nat), _]), .frozen hf hT, L.frozen _ hT, .tup (.inl (.inl upd_same)) ?_⟩
    rw [Nat.zero_add]
    exact .cons (.int _) (.cons (rv.mono (Same.new hf)) .nil)
  stop := fun i F' H' M' s L hi => by
    rw [enumFrom_length] at hi
    exact ⟨vs, L.tup (Same.tupS s h), by rw [r.length]; exact hi⟩
section
variable {X : Cx} {ι : Type} {m : ι → Md} {K : PySem.W.Frag} {W : WX}
def wEnumT (wa : WA) : WI := fun Q E ρ M => wa (fun ds M1 => ∃ xs, ds = [.tup xs] ∧ Q (enumFrom 0 xs) M1) E ρ M
theorem ci_enumT {e : Expr} {p pos tpos : Pos} {elts : List Expr} {kk : Nat} {wa : WA} (hm : X.mg "enumerate" = none) (ha : CA X m [e] wa) (hg : ∀ i, (m i).env.kindOf "enumerate" = some .globalImplicit := by intro _; rfl) (hs : ∀ i, starEach [e] (m i).env = [(false, eval e (m i).env)] := by intro _; rfl) :
    CI X m (.Tuple elts kk tpos) (.Call (.Name "enumerate" p) [e] [] pos) (wEnumT wa) := by
  obtain ⟨ta, pa, d⟩ := ha
  refine ⟨fun W => iEnumT X.K (ta W), fun i pn xe W tk => pi_enumT (hg i) hm (pa i pn xe W tk) (hs i), fun W F H σ ρ M L S Q E h R hq hx => ?_⟩
  refine d W F H σ ρ M L S _ _ h _ (fun vs ds F1 H1 M1 g1 L1 r1 q1 => ?_) hx
  obtain ⟨xs, rfl, q⟩ := q1
  cases r1 with
  | cons r1 r2 =>
    cases r2
    cases r1 with
    | @tup a vs _ h1 h2 => exact ⟨a, vs, rfl, L1.tup h1, hq _ _ F1 H1 M1 g1 L1 (walk_enumT h1 h2) q⟩
/-! range(a, b, -1) -/
def intsDown (hi : Int) (n : Nat) : List D := (List.range n).map fun (i : Nat) => D.int (hi - (i : Int))
theorem intsDown_length {lo : Int} {n : Nat} : (intsDown lo n).length = n := by simp [intsDown]
theorem walk_down {F : Hp} {hi : Int} {n : Nat} : Walk K (Itc hi (-1) n) F (intsDown hi n) where
  go := fun i F' H' M' s L h => by rw [intsDown_length] at h; exact h
  yld := fun i d F' H' M' x H'' s L e y => by
    obtain ⟨rfl, rfl⟩ := y
    have h : i < n := by
      have := (List.getElem?_eq_some_iff.mp e).1
      rw [intsDown_length] at this
      exact this
    have : d = .int (hi + (i : Nat) * (-1)) := by
      have e2 : (intsDown hi n)[i]? = some (.int (hi - i)) := by simp [intsDown, h]
      rw [e2] at e
      rw [← Option.some.inj e]
      congr 1
      omega
    subst this
    exact ⟨F', .refl, L, .int _⟩
  stop := fun i F' H' M' s L h => by rw [intsDown_length] at h; exact h
def wRange3 (wa : WA) : WI := fun Q E ρ M => wa (fun ds M1 => ∃ i j : Int, ds = [.int i, .int j, .int (-1)] ∧ (-(2 ^ 62) ≤ i ∧ i < 2 ^ 62 ∧ -(2 ^ 62) ≤ j ∧ j < 2 ^ 62) ∧ Q (intsDown i (i - j).toNat) M1) E ρ M
theorem ci_range3 {tg a b c : Expr} {p pos : Pos} {wa : WA} (hm : X.mg "range" = none) (ha : CA X m [a, b, c] wa) (hg : ∀ i, (m i).env.kindOf "range" = some .globalImplicit := by intro _; rfl) (hs : ∀ i, starEach [a, b, c] (m i).env = (false, eval a (m i).env) :: starEach [b, c] (m i).env := by intro _; rfl) (hpl : ∀ i, (backTo pos (starEach [b, c] (m i).env)).any (·.1) = false := by intro _; rfl) : CI X m tg (.Call (.Name "range" p) [a, b, c] [] pos) (wRange3 wa) := by
  obtain ⟨ta, pa, d⟩ := ha
  refine ⟨fun W => iRng3 (ta W), fun i pn xe W tk => pi_range3 (hg i) hm (pa i pn xe W tk) (hs i) (hpl i), fun W F H σ ρ M L S Q E h R hq hx => ?_⟩
  refine d W F H σ ρ M L S _ _ h _ (fun vs ds F1 H1 M1 g1 L1 r1 q1 => ?_) hx
  obtain ⟨i, j, rfl, h1, q⟩ := q1
  cases r1 with
  | cons r1 r2 =>
    cases r2 with
    | cons r2 r3 =>
      cases r3 with
      | cons r3 r4 =>
        cases r4
        cases r1
        cases r2
        cases r3
        exact ⟨i, j, -1, _, rfl, .neg h1.1 h1.2.1 h1.2.2.1 h1.2.2.2, hq _ _ F1 H1 M1 g1 L1 walk_down q⟩
end
end Dl

set_option Elab.async false
set_option linter.all false
set_option maxRecDepth 100000
set_option maxHeartbeats 4000000
/-! tuple(reversed(list)), {k: v}, list(dict), names bound to comprehensions, the view of a dict's items -/
namespace Dl
open PySem PySem.Spec PyProof.Rows L2
section
variable {X : Cx} {ι : Type} {m : ι → Md} {K : PySem.W.Frag} {W : WX}
/-- tuple(reversed(xs)) -/
def wTupRev (we : WE) : WE := fun Q E ρ M => we (fun x M1 => ∃ ds, listD M1 x = some ds ∧ Q (.tup ds.reverse) M1) E ρ M
theorem ce_tupRev {e : Expr} {p p2 pos pos2 : Pos} {we : WE} (hm : X.mg "tuple" = none) (hm2 : X.mg "reversed" = none) (he : CE X m e we) (hc : ∀ i, (m i).calm = true := by intro _; rfl) (hg : ∀ i, (m i).env.kindOf "tuple" = some .globalImplicit := by intro _; rfl) (hg2 : ∀ i, (m i).env.kindOf "reversed" = some .globalImplicit := by intro _; rfl)
    (hs : ∀ i, starEach [e] (m i).env = (false, eval e (m i).env) :: starEach [] (m i).env := by intro _; rfl)
    (hs2 : ∀ i, starEach [.Call (.Name "reversed" p2) [e] [] pos2] (m i).env = (false, eval (.Call (.Name "reversed" p2) [e] [] pos2) (m i).env) :: starEach [] (m i).env := by intro _; rfl) :
    CE X m (.Call (.Name "tuple" p) [.Call (.Name "reversed" p2) [e] [] pos2] [] pos) (wTupRev we) := by
  obtain ⟨te, pe, d⟩ := he
  refine ⟨fun W => RT.tTupRev X.K (te W), fun i pn xe W tk => RT.pe_tupRev (hc i) (hg i) hm (hg2 i) hm2 (pe i pn xe W tk) (hs i) (hs2 i), fun W F H σ ρ M L S Q E h QV hq hx => ?_⟩
  refine d W F H σ ρ M L S _ E h _ (fun v x F1 H1 M1 g1 L1 i1 q1 => ?_) hx
  obtain ⟨ds, h1, q⟩ := q1
  obtain ⟨p, ws, rfl, hs, a⟩ := list_V L1 i1 h1
  refine ⟨p, ws, rfl, hs, fun l hl => ?_⟩
  have hF := L1.fnone hl
  exact hq _ _ _ _ M1 (g1.trans (.frozen hF hl)) (L1.frozen _ hl) (.tup (.inl (.inl upd_same)) (a.reverse.mono (Same.new hF))) q
/-- {k: v} -/
def wDict1 (wk wv : WE) : WE := fun Q E ρ M => ∀ p, M p = none → wk (fun dk M1 => wv (fun dv M2 => M2 p = some (.dct []) ∧ ∃ kk, keyD dk = some kk ∧ Q (.adr p) (updM M2 p (.dct [(kk, dv)]))) E ρ M1) E ρ (updM M p (.dct []))
theorem ce_dict1 {k v : Expr} {pos : Pos} {wk wv : WE} (hk : CE X m k wk) (hv : CE X m v wv) : CE X m (.Dict [some k] [v] pos) (wDict1 wk wv) := by
  obtain ⟨tk, pk, dk⟩ := hk
  obtain ⟨tv, pv', dv⟩ := hv
  refine ⟨fun W => tDisp [(tk W, tv W)], fun i pn xe W tk' => pe_disp (pps_cons (pk i pn xe W tk') (pv' i pn xe W tk') pps_nil) rfl rfl (by simp) (by simp), fun W F H σ ρ M L S Q E h QV hq hx => ?_⟩
  intro p hp
  have L0 : Lay X.K F (upd H p (.dK [])) (updM M p (.dct [])) := L.made (n := .dct []) hp ⟨[], upd_same, .nil, List.nodup_nil⟩
  have g0 : Grow F H M F (upd H p (.dK [])) (updM M p (.dct [])) := .made hp
  refine dk W F _ σ ρ _ L0 S _ E (h p (L.mnone hp)) _ (fun x dx F1 H1 M1 g1 L1 i1 q1 => ?_) (fun C dx v d F' H' M' g L' e r q => hx C dx v d F' H' M' (g0.trans g) L' e r q)
  refine dv W F1 H1 σ ρ M1 L1 (S.mono g1.same) _ E q1 _ (fun y dy F2 H2 M2 g2 L2 i2 q2 => ?_) (fun C dx v d F' H' M' g L' e r q => hx C dx v d F' H' M' (g0.trans (g1.trans g)) L' e r q)
  obtain ⟨hm, kk, hkk, q⟩ := q2
  obtain ⟨f0, ws, hp2, r0, _⟩ := L2.node p _ hm
  cases r0
  rw [keyD_kV i1 hkk]
  refine ⟨hp2, [(kk, y)], rfl, by simp, ?_⟩
  exact hq _ _ F2 _ _ (g0.trans (g1.trans (g2.trans (.write hm)))) (L2.write (n := .dct [(kk, dy)]) hm ⟨[(kk, y)], upd_same, .cons ⟨rfl, i2⟩ .nil, by simp⟩) (.adr p) q
/-- list(d) -/
def gListDict : GC := fun ds M Q => ∃ p kvs, ds = [.adr p] ∧ M p = some (.dct kvs) ∧ Q (.lst (kvs.map fun kv => kD kv.1)) M
theorem is_kD {F : Hp} (k : Key) : Is K F (kV k) (kD k) := by
  cases k with
  | inl i => exact .int i
  | inr x => exact .str x
theorem isA_keys {F : Hp} : ∀ {ws : List (Key × V)} {kvs : List (Key × D)}, IsK K F ws kvs → IsA K F (ws.map fun kv => kV kv.1) (kvs.map fun kv => kD kv.1)
  | _, _, .nil => .nil
  | (k, v) :: ws, (k', d) :: kvs, .cons ⟨e, r⟩ t => by
    have e : k = k' := e
    subst e
    exact .cons (is_kD k) (isA_keys t)
theorem lk_listDict : LkR K rListD gListDict := by
  intro vs ds F H M L is Q h QV hq
  obtain ⟨p, kvs, rfl, hm, q⟩ := h
  cases is with
  | cons r1 r2 =>
    cases r2
    cases r1
    obtain ⟨f0, ws, hp, r, nd⟩ := L.node p _ hm
    exact ⟨p, ws, rfl, hp, fun l hl => hq _ _ (upd F l (.lst (ws.map fun kv => kV kv.1))) _ M (.frozen (L.fnone hl) hl) (L.frozen _ hl) (.lst upd_same ((isA_keys r).mono (Same.new (L.fnone hl)))) q⟩
/-- name = [..], where the name is stored within the comprehension's frame -/
theorem cs_setLc (i : Nat) {y : Str} {py : Pos} {elt tg iter : Expr} {ifs : List Expr} {scope : Scope} {pos spos : Pos} {w : WI} {wg : WG} {ws : List Nat} {wt : WT} {we : WE} (own : List (Str × Nat)) (hN : X.N.Nodup) (hi : CI X m tg iter w) (ok : ∀ i, BlkOk X.N (m i).env.scope scope own) (hg : CG X (mBlk m scope) tg wg ws) (ht : CTs X (mBlk m scope) ifs wt) (he : CE X (mBlk m scope) elt we)
    (hy : X.N[i]? = some y := by rfl) (hyl : ∀ j, (m j).env.scope.names.lookup y = some .local := by intro _; rfl) (hsw : ∀ j, swapsWith (.ListComp elt [⟨tg, iter, ifs, 0⟩] scope pos) (some (.Name y py)) spos.line (m j).env = pure true := by intro _; rfl)
    (hws : ∀ i ∈ ws, i ∈ own.map (·.2) := by decide) (hc : ∀ i, (m i).calm = true := by intro _; rfl) (hs : ∀ i x, foldedSetIterable iter (m i).env x = pure x := by intro _ _; rfl) :
    CS X m (.Assign [.Name y py] (.ListComp elt [⟨tg, iter, ifs, 0⟩] scope pos) spos) (wAsg (wLc w wg wt we (own.map (·.2))) (wgName i)) := by
  obtain ⟨wi, p1, d1⟩ := hi
  obtain ⟨g, p2, d2⟩ := hg
  obtain ⟨tt, p3, d3⟩ := ht
  obtain ⟨te, p4, d4⟩ := he
  refine ⟨fun W => tAsg (tLc (wi W) g (tt W0) (te W0) (own.map (·.2))) (gName i), fun j pn xe W tk _ => ?_, fun W => sd_asg (ed_lc (d1 W) d2 hws (d3 W0) (d4 W0)) gd_name⟩
  exact ps_setLc (hc j) hN hy (hyl j) (hsw j) (p1 j pn xe W tk) (ok j) (fun s H C cl fp => p2 ⟨j, s, H, C, cl, fp⟩ [] (fun _ _ => False)) (fun s H C cl fp => p3 ⟨j, s, H, C, cl, fp⟩ [] (fun _ _ => False) W0 takes0) (fun s H C cl fp => p4 ⟨j, s, H, C, cl, fp⟩ [] (fun _ _ => False) W0 takes0) (hs j)
theorem cs_setLcM (i : Nat) {y : Str} {py : Pos} {elt tg iter : Expr} {ifs : List Expr} {scope : Scope} {pos spos : Pos} {w : WI} {wg : WG} {ws : List Nat} {wt : WT} {we : WE} (own : List (Str × Nat)) (hN : X.N.Nodup) (hi : CI X m tg iter w) (ok : ∀ i, BlkOk X.N (m i).env.scope scope own) (hg : CG X (mBlk m scope) tg wg ws) (ht : CTs X (mBlk m scope) ifs wt) (he : CE X (mBlk m scope) elt we)
    (hy : X.N[i]? = some y := by rfl) (hyl : ∀ j, (m j).env.scope.names.lookup y = some .local := by intro _; rfl) (hsw : ∀ j, swapsWith (.ListComp elt [⟨tg, iter, ifs, 0⟩] scope pos) (some (.Name y py)) spos.line (m j).env = pure true := by intro _; rfl)
    (hws : ∀ i ∈ ws, i ∈ own.map (·.2) := by decide) (hc : ∀ i, (m i).calm = true := by intro _; rfl) (hs : ∀ i x, foldedSetIterable iter (m i).env x = pure x := by intro _ _; rfl) :
    CS X m (.Assign [.Name y py] (.ListComp elt [⟨tg, iter, ifs, 0⟩] scope pos) spos) (wAsg (wLcM w wg wt we (own.map (·.2))) (wgName i)) := by
  obtain ⟨wi, p1, d1⟩ := hi
  obtain ⟨g, p2, d2⟩ := hg
  obtain ⟨tt, p3, d3⟩ := ht
  obtain ⟨te, p4, d4⟩ := he
  refine ⟨fun W => tAsg (tLc (wi W) g (tt W0) (te W0) (own.map (·.2))) (gName i), fun j pn xe W tk _ => ?_, fun W => sd_asg (ed_lcM (d1 W) d2 hws (d3 W0) (d4 W0)) gd_name⟩
  exact ps_setLc (hc j) hN hy (hyl j) (hsw j) (p1 j pn xe W tk) (ok j) (fun s H C cl fp => p2 ⟨j, s, H, C, cl, fp⟩ [] (fun _ _ => False)) (fun s H C cl fp => p3 ⟨j, s, H, C, cl, fp⟩ [] (fun _ _ => False) W0 takes0) (fun s H C cl fp => p4 ⟨j, s, H, C, cl, fp⟩ [] (fun _ _ => False) W0 takes0) (hs j)
/-- d.items(): the view -/
abbrev itemsO := L2.DX.itemsO
def rItemsK : V → List V → Hp → VK → Prop := fun x xs H Q => ∃ (a : Addr) (kvs : List (Key × V)), x = .ref a ∧ xs = [] ∧ H a = some (.dK kvs) ∧ ∀ p, H p = none → Q (.ref p) (upd H p (itemsO p a))
theorem mt_itemsK {Y : Cx} : MtR Y "dict.items" rItemsK := by
  intro pins s σ H x xs v us Q I rx rxs h
  obtain ⟨a, kvs, rfl, rfl, ha, q⟩ := h
  cases rx
  cases rxs
  obtain ⟨z, hd, vs, rel, dd⟩ := dk_of I.hok ha
  obtain ⟨o, es, ep, ho, hx, hdat, _⟩ := dd
  refine DT.callItems (es := es) (ep := ep) hd ⟨o, ho, hx, hdat⟩ ?_
  have hf : H s.heap.objs.size = none := I.hok.fresh (Nat.le_refl _)
  exact ⟨.ref s.heap.objs.size, upd H s.heap.objs.size (itemsO s.heap.objs.size a), I.laid (t' := s.toks) (fun b u e => Heap.get?_push_of_some _ e) (Nat.le_refl _) (L2.DX.itemsO_ok (Heap.get?_push_size _ rfl)), rfl, q _ hf⟩
def gItems : GM := fun o ds M Q => ∃ p kvs, o = .adr p ∧ ds = [] ∧ M p = some (.dct kvs) ∧ ∀ q, M q = none → Q (.adr q) (updM M q (.raw (itemsO q p)))
theorem lk_items : LkM K rItemsK gItems := by
  intro x vs dx ds F H M L ix is Q h QV hq
  obtain ⟨p, kvs, rfl, rfl, hm, q⟩ := h
  cases ix
  cases is
  obtain ⟨f0, ws, hp, r, nd⟩ := L.node p _ hm
  exact ⟨p, ws, rfl, rfl, hp, fun l hl => hq _ _ F _ _ (.made (n := .raw _) hl) (L.made (n := .raw _) hl upd_same) (.adr l) (q l (L.mnone hl))⟩
end
end Dl

set_option Elab.async false
set_option linter.all false
set_option maxRecDepth 100000
set_option maxHeartbeats 4000000
/-! sorted(d.items()), keys texts, values ints -/
namespace Dl
open PySem PySem.Spec PyProof.Rows L2
abbrev encP (q : Str × Int) : PyData := .tuple [.str q.1, .int q.2]
theorem each_of {α β : Type} {R : α → β → Prop} : ∀ {as : List α} {bs : List β}, as.length = bs.length → (∀ (j : Nat) a b, as[j]? = some a → bs[j]? = some b → R a b) → PySem.W.EachIs R as bs
  | [], [], _, _ => .nil
  | [], _ :: _, h, _ => by simp at h
  | _ :: _, [], h, _ => by simp at h
  | a :: as, b :: bs, h, f => .cons (f 0 a b rfl rfl) (each_of (by simpa using h) fun j x y h1 h2 => f (j + 1) x y (by simpa using h1) (by simpa using h2))
theorem each_split {as : List Addr} {ps : List (Str × Int)} : ∀ {out : List Value} {bs : List (Str × Int)}, PySem.W.EachIs (fun v q => ∃ (j : Nat) (b : Addr), v = .ref b ∧ as[j]? = some b ∧ ps[j]? = some q) out bs →
    ∃ zs : List (Addr × Str × Int), out = zs.map (fun z => .ref z.1) ∧ bs = zs.map (·.2) ∧ ∀ z ∈ zs, ∃ j : Nat, as[j]? = some z.1 ∧ ps[j]? = some z.2
  | _, _, .nil => ⟨[], rfl, rfl, fun _ h => nomatch h⟩
  | _, _, .cons (b := q) ⟨j, b, e, h1, h2⟩ t => by
    obtain ⟨zs, e1, e2, h⟩ := each_split t
    refine ⟨(b, q) :: zs, by rw [e, e1]; rfl, by rw [e2]; rfl, fun z hz => ?_⟩
    rcases List.mem_cons.mp hz with rfl | hz
    · exact ⟨j, h1, h2⟩
    · exact h z hz
theorem lt_pair (a b : Str × Int) : PySem.W.dataLt (encP a) (encP b) = if a.1 = b.1 then decide (a.2 < b.2) else decide (a.1.cps.toList < b.1.cps.toList) := by
  unfold encP
  rw [PySem.W.dataLt_pair (by simp [PySem.W.alike]) (by simp [PySem.W.alike]), PySem.W.dataLt_int, PySem.W.dataLt_str]
  simp only [PyData.eqv, beq_iff_eq]
  by_cases h1 : a.1 = b.1 <;> by_cases h2 : a.2 = b.2 <;> simp [h1, h2]
def rSortItK : List V → Hp → VK → Prop := fun vs H Q => ∃ (p a : Addr) (ps : List (Str × Int)), vs = [.ref p] ∧ H p = some (itemsO p a) ∧ H a = some (.dK (ps.map fun q => ((Sum.inr q.1 : Key), V.int q.2))) ∧
  ∀ (H' : Hp) (l : Addr) (zs : List (Addr × Str × Int)), (∀ b o, H b = some o → H' b = some o) → H l = none → (zs.map (·.2)).Perm ps → (zs.map (·.2)).Pairwise (fun e f => (!PySem.W.dataLt (encP f) (encP e)) = true) → H' l = some (.lst (zs.map fun z => V.ref z.1)) →
    (∀ z ∈ zs, H z.1 = none ∧ H' z.1 = some (.tup [.str z.2.1, .int z.2.2])) → Q (.ref l) H'
theorem cr_sortedItemsK {X : Cx} (hc : X.calm = true) (hu : X.A.units + 64 < cLine) : CallR X (.builtin "sorted") rSortItK := by
  intro pins s σ H xs us Q I r h
  obtain ⟨p, a, ps, rfl, hp, ha, q⟩ := h
  obtain rfl := Vals.ref1 r
  have view : s.heap.IsItemsView p a := (show ObjOk X.prog X.w H s.heap p (itemsO p a) from I.hok p _ hp).1
  obtain ⟨z, hd, vs, rel, o, es, ep, ho, hx, hdat, hks, hpr, hnd⟩ := dk_of I.hok ha
  have l1 : ps.length = vs.length := by have := Paired.length rel; rw [List.length_map] at this; exact this
  have l2 : es.size = vs.length := by rw [← Array.length_toList]; exact hpr.length
  rw [List.length_map] at z
  have hh : X.A.handled = none := I.ok.hd hc
  refine DT.sortedI (es := es) (ep := ep) hh view ⟨o, ho, hx, hdat⟩ (by omega) fun h' tk as hk hlt hl hG => ?_
  have lak : as.length = ps.length := by omega
  have nd : as.Nodup := List.Pairwise.imp (fun h => Nat.ne_of_lt h) hG.rise
  -- the pairs
  have pr : ∀ (j : Nat) (b : Addr), as[j]? = some b → ∃ (e : Str × Int) (t u : Tok), ps[j]? = some e ∧ h'.get? b = some { cls := .type "tuple", data := .seq #[Value.str e.1 t, Value.int e.2 u] } := by
    intro j b hj
    obtain ⟨en, he, hg⟩ := hG.pairs j b hj
    have hjl : j < ps.length := by rw [← lak]; exact (List.getElem?_eq_some_iff.mp hj).1
    have hpj : ps[j]? = some ps[j] := List.getElem?_eq_getElem hjl
    have hkv : (ps.map fun q => ((Sum.inr q.1 : Key), V.int q.2))[j]? = some (Sum.inr ps[j].1, V.int ps[j].2) := by rw [List.getElem?_map, hpj]; rfl
    obtain ⟨y, hy, r1, r2⟩ : ∃ y, vs[j]? = some y ∧ (Sum.inr ps[j].1 : Key) = y.1 ∧ RelV (.int ps[j].2) y.2 := by
      have key : ∀ {ks : List (Key × V)} {vs : List (Key × Value)}, KV ks vs → ∀ (j : Nat) x, ks[j]? = some x → ∃ y, vs[j]? = some y ∧ x.1 = y.1 ∧ RelV x.2 y.2 := by
        intro ks vs r
        unfold KV at r
        induction r with
        | nil => intro j x e; simp at e
        | cons a _ ih =>
          intro j x e
          cases j with
          | zero => simp at e; subst e; exact ⟨_, rfl, a.1, a.2⟩
          | succ j =>
            obtain ⟨y, h1, h2⟩ := ih j x (by simpa using e)
            exact ⟨y, by simpa using h1, h2⟩
      exact key rel j _ hkv
    obtain ⟨e1, e2⟩ : (mixKind X.prog X.w).is y.1 en.key = true ∧ en.val = y.2 := by
      have key : ∀ {es : List DictEntry} {vs : List (Key × Value)}, Pairs (mixKind X.prog X.w) es vs → ∀ (j : Nat) e y, es[j]? = some e → vs[j]? = some y → (mixKind X.prog X.w).is y.1 e.key = true ∧ e.val = y.2 := by
        intro es vs r
        induction r with
        | nil => intro j e y h1; simp at h1
        | cons a b _ ih =>
          intro j e y h1 h2
          cases j with
          | zero => simp at h1 h2; subst h1; subst h2; exact ⟨a, b⟩
          | succ j => exact ih j e y (by simpa using h1) (by simpa using h2)
      exact key hpr j en y (by rw [Array.getElem?_toList]; exact he) hy
    rw [← r1] at e1
    rcases keyIs_shape (show keyIs (Sum.inr ps[j].1) en.key = true from e1) with ⟨i, t, k1, k2⟩ | ⟨x, t, k1, k2⟩
    · cases k1
    · cases k1
      obtain ⟨u, hu'⟩ : ∃ u, y.2 = Value.int ps[j].2 u := r2
      refine ⟨ps[j], t, u, hpj, ?_⟩
      rw [hg, k2, e2, hu']
  -- the heap of the sort
  have hob : (h'.push { cls := .type "list", data := .seq (as.map Value.ref).toArray }).get? h'.objs.size = some (seqObj "list" (as.map Value.ref).toArray 0) := Heap.get?_push_size _ rfl
  have kb : ∀ b o, s.heap.get? b = some o → (h'.push { cls := .type "list", data := .seq (as.map Value.ref).toArray }).get? b = some o := fun b o e => Heap.get?_push_of_some _ (hk b o e)
  have ne0 : ∀ b o, h'.get? b = some o → b ≠ h'.objs.size := fun b o e => Nat.ne_of_lt (Heap.lt_size e)
  generalize hh2 : h'.push { cls := .type "list", data := .seq (as.map Value.ref).toArray } = h2 at hob kb ⊢
  have ka : ∀ b o, h'.get? b = some o → h2.get? b = some o := fun b o e => by rw [← hh2]; exact Heap.get?_push_of_some _ e
  have lv : (as.map Value.ref).length = ps.length := by rw [List.length_map, lak]
  have at2 : ∀ (j : Nat) v q, (as.map Value.ref)[j]? = some v → ps[j]? = some q → ∃ b, v = Value.ref b ∧ as[j]? = some b := fun j v q h1 h2 => by
    rw [List.getElem?_map] at h1
    cases e : as[j]? with
    | none => rw [e] at h1; cases h1
    | some b => rw [e] at h1; exact ⟨b, (Option.some.inj h1).symm, rfl⟩
  refine PySem.W.list_sort_data (s := { s with heap := h2, toks := tk }) (enc := encP) (bs := ps) (vs := as.map Value.ref) (R := fun v q => ∃ (j : Nat) (b : Addr), v = .ref b ∧ as[j]? = some b ∧ ps[j]? = some q) hob (each_of lv fun j v q h1 h2 => ?_) (each_of lv fun j v q h1 h2 => ?_)
    (PySem.W.AllAlike.of fun b b' => by simp [encP, PySem.W.alike, PySem.W.alikeAll]) (PySem.W.Sortable.tuples fun b => ⟨_, _, rfl⟩) z (fun b hb => ?_) fun out ho eo => ?_
  · obtain ⟨b, e1, e2⟩ := at2 j v q h1 h2
    exact ⟨j, b, e1, e2, h2⟩
  · obtain ⟨b, e1, e2⟩ := at2 j v q h1 h2
    obtain ⟨e, t, u, h3, h4⟩ := pr j b e2
    have ee : e = q := Option.some.inj (h3.symm.trans h2)
    subst ee
    subst e1
    exact ⟨[] ++ ([] ++ []), .tuple (ka _ _ h4) rfl rfl (.cons (.str _ _) (.cons (.int _ _) .nil)), by simp⟩
  · simp [encP, PyData.depth, PyData.depthAll]
    show X.A.units + 1 + 1 + 1 < cLine
    omega
  · obtain ⟨zs, e1, e2, hz⟩ := each_split eo
    have hperm : (zs.map (·.2)).Perm ps := by rw [← e2]; exact List.mergeSort_perm _ _
    have hsort : (zs.map (·.2)).Pairwise (fun e f => (!PySem.W.dataLt (encP f) (encP e)) = true) := by
      rw [← e2]
      have hT : PySem.W.TotalLe (PySem.W.dataLe false encP) := PySem.W.sortLe_total _ _ _
      have hP := PySem.W.sort_pairwise hT ps
      refine hP.imp fun {x y} h => ?_
      rw [PySem.W.dataLe_eq] at h
      exact h
    have kF : ∀ b o, b ≠ h'.objs.size → h2.get? b = some o → (sortedHeap h2 h'.objs.size (as.map Value.ref) out.toArray).get? b = some o := fun b o hb e => (PyProof.Rows.sortedHeap_old hb (Heap.lt_size e)).trans e
    have kS : ∀ b o, s.heap.get? b = some o → (sortedHeap h2 h'.objs.size (as.map Value.ref) out.toArray).get? b = some o := fun b o e => kF b o (ne0 _ _ (hk b o e)) (kb b o e)
    obtain ⟨eF, heF⟩ := PyProof.Rows.sortedHeap_at (vs := as.map Value.ref) (out := out.toArray) hob
    have I1 : Inv X pins σ H { s with heap := sortedHeap h2 h'.objs.size (as.map Value.ref) out.toArray, toks := tk } := I.kept (t' := tk) kS
    have hn0 : H h'.objs.size = none := I.hok.fresh (Nat.le_of_lt hlt)
    have hlen : (zs.map fun z => V.ref z.1).length ≤ sizeLine := by
      have e := hperm.length_eq
      rw [List.length_map] at e
      rw [List.length_map]
      omega
    have rv : Vals (zs.map fun z => V.ref z.1) out := by
      rw [e1]
      exact vals_maps (fun z : Addr × Str × Int => V.ref z.1) (fun z => Value.ref z.1) zs fun _ _ => rfl
    have I2 : Inv X pins σ (upd H h'.objs.size (.lst (zs.map fun z => V.ref z.1))) { s with heap := sortedHeap h2 h'.objs.size (as.map Value.ref) out.toArray, toks := tk } :=
      I1.take (h' := sortedHeap h2 h'.objs.size (as.map Value.ref) out.toArray) (t' := tk) (fun b ob _ e => e) (I.fpOk (Nat.le_of_lt hlt) hn0) ⟨hlen, out, eF, rv, heF⟩
    obtain ⟨H2, I3, g, qt⟩ := L2.DX.takeT (P := fun b vs => ∃ (j : Nat) (e : Str × Int), as[j]? = some b ∧ ps[j]? = some e ∧ vs = [.str e.1, .int e.2]) I as _ I2 nd fun b hb => by
      obtain ⟨j, hj⟩ := List.mem_iff_getElem?.mp hb
      obtain ⟨e, t, u, he, hg⟩ := pr j b hj
      have hbl : s.heap.objs.size ≤ b := Nat.le_of_lt (hG.above b hb)
      refine ⟨hbl, ?_, [.str e.1, .int e.2], ⟨j, e, hj, he, rfl⟩, fun H3 => ⟨(by rw [sizeLine_eq]; show 2 ≤ 16777216; omega), [Value.str e.1 t, Value.int e.2 u], .cons ⟨t, rfl⟩ (.cons ⟨u, rfl⟩ .nil), ⟨_, kF _ _ (ne0 _ _ hg) (ka _ _ hg), rfl, 0, rfl⟩⟩⟩
      rw [upd_ne (ne0 _ _ hg)]
      exact I.hok.fresh hbl
    have gr : ∀ b o, H b = some o → H2 b = some o := fun b o e => g b o (by rw [upd_ne (ne_of_none e hn0)]; exact e)
    refine ⟨.ref h'.objs.size, H2, I3, rfl, q H2 h'.objs.size zs gr hn0 hperm hsort (g _ _ upd_same) fun z' hz' => ?_⟩
    obtain ⟨i, i1, i2⟩ := hz z' hz'
    obtain ⟨vs, ⟨j, e, j1, j2, ev⟩, hH⟩ := qt z'.1 (List.mem_of_getElem? i1)
    have eij : i = j := (List.getElem?_inj (List.getElem?_eq_some_iff.mp i1).1 nd).mp (i1.trans j1.symm)
    subst eij
    have ee : e = z'.2 := Option.some.inj (j2.symm.trans i2)
    rw [ev, ee] at hH
    exact ⟨I.hok.fresh (Nat.le_of_lt (hG.above _ (List.mem_of_getElem? i1))), hH⟩

/-! over data -/
/-- what is new is frozen -/
noncomputable def newF (F H H' : Hp) : Hp := fun b => match H b with
  | none => H' b
  | some _ => F b
section
variable {K : PySem.W.Frag} {F H H' : Hp} {M : Mem}
theorem newF_old {b : Addr} {o : HO} (e : H b = some o) : newF F H H' b = F b := by unfold newF; rw [e]
theorem newF_new {b : Addr} (e : H b = none) : newF F H H' b = H' b := by unfold newF; rw [e]
theorem Lay.newF (L : Lay K F H M) (g : ∀ b o, H b = some o → H' b = some o) : Lay K (newF F H H') H' M ∧ Grow F H M (newF F H H') H' M := by
  have s : Same F (Dl.newF F H H') := fun b o e => by
    rw [newF_old (L.same b o e)]
    exact e
  refine ⟨⟨fun b o e => ?_, fun p n e => ?_⟩, s, fun a h1 h2 h3 => ?_⟩
  · cases hb : H b with
    | none => rw [newF_new hb] at e; exact e
    | some u =>
      rw [newF_old hb] at e
      exact g b o (L.same b o e)
  · obtain ⟨f0, nd⟩ := L.node p n e
    obtain ⟨o, ho⟩ := nd.some
    exact ⟨by rw [newF_old ho]; exact f0, nd.keep s ((g p o ho).trans ho.symm)⟩
  · cases ha : H a with
    | none => exact absurd ha h1
    | some o => exact ⟨g a o ha, by rw [newF_old ha]; exact h2, h3⟩
end
section
variable {K : PySem.W.Frag}
def kvD (ps : List (Str × Int)) : List (Key × D) := ps.map fun q => (Sum.inr q.1, D.int q.2)
theorem kvD_V {F : Hp} : ∀ {ws : List (Key × V)} {ps : List (Str × Int)}, IsK K F ws (kvD ps) → ws = ps.map fun q => ((Sum.inr q.1 : Key), V.int q.2)
  | _, [], h => by cases h; rfl
  | ws, q :: ps, h => by
    have h' : IsK K F ws ((Sum.inr q.1, D.int q.2) :: kvD ps) := h
    cases h' with
    | cons a t =>
      rename_i w0 ws'
      obtain ⟨k, v⟩ := w0
      obtain ⟨e, r⟩ := a
      have e2 : k = Sum.inr q.1 := e
      subst e2
      cases r
      rw [kvD_V t]
      rfl
def pairD (q : Str × Int) : D := .tup [.str q.1, .int q.2]
def gSortedItems : GC := fun ds M Q => ∃ p a ps, ds = [.adr p] ∧ M p = some (.raw (itemsO p a)) ∧ M a = some (.dct (kvD ps)) ∧
  ∀ qs : List (Str × Int), qs.Perm ps → qs.Pairwise (fun e f => (!PySem.W.dataLt (encP f) (encP e)) = true) → Q (.lst (qs.map pairD)) M
theorem lk_sortedItems : LkR K rSortItK gSortedItems := by
  intro vs ds F H M L is Q h QV hq
  obtain ⟨p, a, ps, rfl, hp, ha, q⟩ := h
  cases is with
  | cons r1 r2 =>
    cases r2
    cases r1
    obtain ⟨_, hp'⟩ := L.node p _ hp
    obtain ⟨_, ws, ha', rk, _⟩ := L.node a _ ha
    rw [kvD_V rk] at ha'
    refine ⟨p, a, ps, rfl, hp', ha', fun H' l zs g hl h1 h2 h3 h4 => ?_⟩
    obtain ⟨L', g'⟩ := L.newF g
    refine hq _ _ _ H' M g' L' (.lst ((newF_new hl).trans h3) ?_) (q (zs.map (·.2)) h1 h2)
    have key : ∀ zs : List (Addr × Str × Int), (∀ z ∈ zs, H z.1 = none ∧ H' z.1 = some (.tup [.str z.2.1, .int z.2.2])) → IsA K (newF F H H') (zs.map fun z => V.ref z.1) ((zs.map (·.2)).map pairD) := by
      intro zs
      induction zs with
      | nil => intro _; exact .nil
      | cons z zs ih =>
        intro h
        obtain ⟨e1, e2⟩ := h z List.mem_cons_self
        exact .cons (.tup (.inl (.inl ((newF_new e1).trans e2))) (.cons (.str _) (.cons (.int _) .nil))) (ih fun y hy => h y (List.mem_cons_of_mem _ hy))
    exact key zs h4
/-- two of them with the same pairs, each name once, come out alike -/
theorem sorted_unique {ps qs : List (Str × Int)} (hp : ps.Perm qs) (hn : (ps.map (·.1)).Nodup) (h1 : ps.Pairwise (fun e f => (!PySem.W.dataLt (encP f) (encP e)) = true)) (h2 : qs.Pairwise (fun e f => (!PySem.W.dataLt (encP f) (encP e)) = true)) : ps = qs := by
  have hn2 : (qs.map (·.1)).Nodup := (hp.map (·.1)).nodup_iff.mp hn
  have strict : ∀ {xs : List (Str × Int)}, (xs.map (·.1)).Nodup → xs.Pairwise (fun e f => (!PySem.W.dataLt (encP f) (encP e)) = true) → xs.Pairwise (fun e f => e.1.cps.toList < f.1.cps.toList) := by
    intro xs hn h
    rw [List.nodup_iff_pairwise_ne, List.pairwise_map] at hn
    refine (hn.and h).imp fun {a b} hab => ?_
    obtain ⟨ne, hab⟩ := hab
    rw [lt_pair, if_neg (fun e => ne e.symm)] at hab
    have hab' : ¬ b.1.cps.toList < a.1.cps.toList := by simpa using hab
    have hne : a.1.cps.toList ≠ b.1.cps.toList := fun e => ne (by
      cases ha : a.1
      cases hb : b.1
      rw [ha, hb] at e
      have e' := Array.toList_inj.mp e
      exact congrArg Str.mk e')
    rcases Nat.lt_or_ge 0 1 with _ | _
    · have hle := List.not_lt.mp hab'
      exact Classical.byContradiction fun z => hne (List.le_antisymm hle (List.not_lt.mp z))
    · omega
  refine List.Perm.eq_of_pairwise (le := fun e f : Str × Int => e.1.cps.toList < f.1.cps.toList) (fun a b _ _ h h' => ?_) (strict hn h1) (strict hn2 h2) hp
  exact absurd (List.lt_trans h h') (List.lt_irrefl _)
end
end Dl

set_option Elab.async false
set_option linter.all false
set_option maxRecDepth 100000
set_option maxHeartbeats 4000000
/-! {k: o.f[k] for k in o.f if o.f[k] > 0} -/
namespace Dl
open PySem PySem.Spec PyProof.Rows L2
def kvV (ns : List (Str × Int)) : List (Key × V) := ns.map fun q => ((Sum.inr q.1 : Key), V.int q.2)
theorem valV_kv : ∀ {ns : List (Str × Int)} {q : Str × Int}, (ns.map (·.1)).Nodup → q ∈ ns → valV (kvV ns) (Sum.inr q.1) = some (.int q.2)
  | p :: ns, q, nd, h => by
    rw [List.map_cons, List.nodup_cons] at nd
    have e : kvV (p :: ns) = ((Sum.inr p.1 : Key), V.int p.2) :: kvV ns := rfl
    rw [e, valV_cons]
    rcases List.mem_cons.mp h with rfl | h
    · rw [if_pos rfl]
    · rw [if_neg (fun z => nd.1 (by
        have z' : p.1 = q.1 := Sum.inr.inj z
        rw [z']; exact List.mem_map_of_mem h))]
      exact valV_kv nd.2 h
theorem valV_kv_none : ∀ {ns : List (Str × Int)} {x : Str}, x ∉ ns.map (·.1) → valV (kvV ns) (Sum.inr x) = none
  | [], _, _ => rfl
  | p :: ns, x, h => by
    rw [List.map_cons, List.mem_cons, not_or] at h
    have e : kvV (p :: ns) = ((Sum.inr p.1 : Key), V.int p.2) :: kvV ns := rfl
    rw [e, valV_cons, if_neg (fun z => h.1 (Sum.inr.inj z).symm)]
    exact valV_kv_none h.2
abbrev posQ (q : Str × Int) : Bool := decide (0 < q.2)
theorem kvV_length (ns : List (Str × Int)) : (kvV ns).length = ns.length := by unfold kvV; rw [List.length_map]
section
variable {X : Cx} {ι : Type} {m : ι → Md} {K : PySem.W.Frag} {W : WX}
def wPos (C : Addr) (f : Str) (i j : Nat) : WE := fun Q _ ρ M => ∃ a fs d ns, ρ[i]? = some (some (.adr a)) ∧ j < ρ.length ∧ M a = some (.ins C fs) ∧ fs.lookup f = some (.adr d) ∧ M d = some (.dct (kvD ns)) ∧ ns.length ≤ 1000 ∧ ∀ p, M p = none → Q (.adr p) (updM M p (.dct (kvD (ns.filter posQ))))
def tPosT (K : PySem.W.Frag) (f : Str) (i j : Nat) : TT := tTest (tOp (rI0 fun i j => .bl (decide (j < i))) (tDGet (tFld K (tVar i) f) (tVar j)) (tC (.int 0)))
def tPos (K : PySem.W.Frag) (f : Str) (i j : Nat) : TE := tLockE (tDc (iKeys (tFld K (tVar i) f)) (gName j) (tPosT K f i j) (tVar j) (tDGet (tFld K (tVar i) f) (tVar j)) [j])
theorem isK_kvD {F : Hp} : ∀ ns : List (Str × Int), IsK K F (kvV ns) (kvD ns)
  | [] => .nil
  | q :: ns => .cons ⟨rfl, .int _⟩ (isK_kvD ns)
theorem kvD_keys (ns : List (Str × Int)) : (kvD ns).map (·.1) = (ns.map (·.1)).map (Sum.inr : Str → Key) := by
  unfold kvD; rw [List.map_map, List.map_map]; rfl
theorem nodup_of_kvD {ns : List (Str × Int)} (h : ((kvD ns).map (·.1)).Nodup) : (ns.map (·.1)).Nodup := by
  rw [kvD_keys] at h
  rw [List.nodup_iff_pairwise_ne] at h ⊢
  exact (List.pairwise_map.mp h).imp fun z e => z (by rw [e])
theorem kvD_nodup {ns : List (Str × Int)} (h : (ns.map (·.1)).Nodup) : ((kvD ns).map (·.1)).Nodup := by
  rw [kvD_keys]
  rw [List.nodup_iff_pairwise_ne] at h ⊢
  exact List.pairwise_map.mpr (h.imp fun z e => z (Sum.inr.inj e))
theorem ed_pos {C : Addr} {f : Str} {i j : Nat} (c : Cls K C) (n : NoAttr K C f) (hij : i ≠ j) : ED K W (tPos K f i j) (wPos C f i j) := fun F H σ ρ M L S Q E h QV hq hx => by
  obtain ⟨a, fs, d, ns, hi, hj, ma, hl, md, hz, q⟩ := h
  obtain ⟨v, hv, iv⟩ := S.at_ i _ hi
  cases iv
  obtain ⟨_, dx, fv, ha, rf⟩ := L.node a _ ma
  obtain ⟨vd, hvd, ivd⟩ := (lookup_isK (f := f) rf).2 _ hl
  cases ivd
  obtain ⟨_, ws, hd, rk, nd⟩ := L.node d _ md
  have ews : ws = kvV ns := kvD_V rk
  subst ews
  have nd' := nodup_of_kvD nd
  have hsj : j < σ.length := by rw [S.len]; exact hj
  have nad : a ≠ d := fun z => by rw [z, hd] at ha; cases ha
  refine ⟨d, .dK (kvV ns), hd, trivial, fun od => ?_⟩
  have fld : ∀ {σ' : L2.St} {H' : Hp} {R : VK}, σ'[i]? = some (some (.ref a)) → H' a = some (.ins C dx fv) → R (.ref d) H' → tFld K (tVar i) f σ' H' R := fun h1 h2 h3 => ⟨.ref a, h1, a, C, dx, fv, .ref d, rfl, h2, c, n, hvd, h3⟩
  generalize eH : upd H d (.frz od (.dK (kvV ns))) = H1
  have h1d : H1 d = some (.frz od (.dK (kvV ns))) := by rw [← eH, upd_same]
  have h1a : H1 a = some (.ins C dx fv) := by rw [← eH, upd_ne nad]; exact ha
  unfold tDc iKeys
  refine fld (σ' := σ) (H' := H1) hv h1a ?_
  refine ⟨d, od, rfl, .inl ⟨kvV ns, h1d, fun D hD => ?_⟩⟩
  have nDd : D ≠ d := fun z => by rw [z, h1d] at hD; cases hD
  have nDa : D ≠ a := fun z => by rw [z, h1a] at hD; cases hD
  refine ⟨fun k mm H' => mm = ns.length - k ∧ k ≤ ns.length ∧ H' = upd H1 D (.dK (kvV ((ns.take k).filter posQ))), ⟨ns.length, by simp, Nat.zero_le _, rfl⟩, ?_⟩
  rintro k mm H' ⟨rfl, hk, rfl⟩
  have hd' : (upd H1 D (.dK (kvV ((ns.take k).filter posQ)))) d = some (.frz od (.dK (kvV ns))) := by rw [upd_ne (Ne.symm nDd)]; exact h1d
  have ha' : (upd H1 D (.dK (kvV ((ns.take k).filter posQ)))) a = some (.ins C dx fv) := by rw [upd_ne (Ne.symm nDa)]; exact h1a
  by_cases hlt : k < ns.length
  · refine .inr ⟨⟨hd', by rw [kvV_length]; exact hlt⟩, fun H'' => H'' = upd H1 D (.dK (kvV ((ns.take (k + 1)).filter posQ))), fun H'' e => ⟨ns.length - (k + 1), by omega, rfl, hlt, e⟩, fun x H'' y => ?_⟩
    obtain ⟨rfl, key, v, hkv, rfl⟩ := y
    have hnk : ns[k]? = some ns[k] := List.getElem?_eq_getElem hlt
    have e1 : (kvV ns)[k]? = some (Sum.inr ns[k].1, V.int ns[k].2) := by unfold kvV; rw [List.getElem?_map, hnk]; rfl
    rw [e1] at hkv
    cases hkv
    have hmem : ns[k] ∈ ns := List.getElem_mem hlt
    have hval := valV_kv nd' hmem
    refine ⟨?_, ?_⟩
    · rw [wipe_set (by simp), wipe_wipe]
    have s2i : ((L2.wipe σ [j]).set j (some (kV (Sum.inr ns[k].1))))[i]? = some (some (.ref a)) := by
      rw [List.getElem?_set_ne (Ne.symm hij), wipe_get, if_neg (by simp [hij])]
      exact hv
    have s2j : ((L2.wipe σ [j]).set j (some (kV (Sum.inr ns[k].1))))[j]? = some (some (kV (Sum.inr ns[k].1))) := List.getElem?_set_self (by rw [L2.wipe_length]; exact hsj)
    have dget : DGet (upd H1 D (.dK (kvV ((ns.take k).filter posQ)))) d (kV (Sum.inr ns[k].1)) (some (.int ns[k].2)) := .inl ⟨kvV ns, Sum.inr ns[k].1, .inr ⟨od, hd'⟩, rfl, hval.symm⟩
    unfold tPosT tTest tOp tDGet
    refine fld s2i ha' ?_
    refine ⟨kV (Sum.inr ns[k].1), s2j, d, .int ns[k].2, rfl, dget, ns[k].2, 0, rfl, rfl, decide (0 < ns[k].2), rfl, ?_⟩
    have etake : ns.take (k + 1) = ns.take k ++ [ns[k]] := by rw [List.take_add_one, hnk]; rfl
    cases hb : decide (0 < ns[k].2) with
    | false =>
      refine iteF ?_
      show upd H1 D _ = upd H1 D _
      rw [etake, List.filter_append]
      have : [ns[k]].filter posQ = [] := by simp [posQ, hb]
      rw [this, List.append_nil]
    | true =>
      refine iteT ?_
      refine ⟨kV (Sum.inr ns[k].1), s2j, ?_⟩
      refine fld s2i ha' ?_
      refine ⟨kV (Sum.inr ns[k].1), s2j, d, .int ns[k].2, rfl, dget, kvV ((ns.take k).filter posQ), Sum.inr ns[k].1, rfl, upd_same, ?_, ?_⟩
      · rw [kvV_length]
        refine small1000 (Nat.le_trans (List.length_filter_le _ _) ?_)
        rw [List.length_take]
        omega
      · show upd (upd H1 D _) D _ = upd H1 D _
        have hno : ns[k].1 ∉ ((ns.take k).filter posQ).map (·.1) := fun z => by
          obtain ⟨y, hy, ey⟩ := List.mem_map.mp z
          have hy' := (List.mem_filter.mp hy).1
          obtain ⟨t, ht, et⟩ := List.mem_iff_getElem.mp hy'
          rw [List.length_take] at ht
          rw [List.getElem_take] at et
          have hne := (List.nodup_iff_pairwise_ne.mp nd')
          have := List.pairwise_iff_getElem.mp hne t k (by simp; omega) (by simp; exact hlt) (by omega)
          apply this
          simp only [List.getElem_map]
          rw [et]
          exact ey
        have hpk : putK (kvV ((ns.take k).filter posQ)) (Sum.inr ns[k].1) (V.int ns[k].2) = kvV ((ns.take (k + 1)).filter posQ) := by
          rw [putK_new _ (valV_kv_none hno), etake, List.filter_append]
          have : [ns[k]].filter posQ = [ns[k]] := by simp [posQ, hb]
          rw [this]
          unfold kvV
          rw [List.map_append]
          rfl
        rw [hpk, upd_upd]
  · have ek : k = ns.length := by omega
    subst ek
    rw [List.take_length] at hd' ⊢
    refine .inl ⟨⟨hd', by rw [kvV_length]; exact Nat.le_refl _⟩, hd', ?_⟩
    have hDn : H D = none := by rw [← eH, upd_ne nDd] at hD; exact hD
    have e2 : upd (upd H1 D (.dK (kvV (ns.filter posQ)))) d (.dK (kvV ns)) = upd H D (.dK (kvV (ns.filter posQ))) := by
      funext b
      by_cases hb : b = d
      · subst hb; rw [upd_same, upd_ne (Ne.symm nDd), hd]
      · rw [upd_ne hb]
        by_cases hb2 : b = D
        · subst hb2; rw [upd_same, upd_same]
        · rw [upd_ne hb2, upd_ne hb2, ← eH, upd_ne hb]
    rw [e2]
    have ndf : ((ns.filter posQ).map (·.1)).Nodup := nd'.sublist (List.filter_sublist.map _)
    exact hq _ _ F _ _ (.made (n := .dct (kvD (ns.filter posQ))) hDn) (L.made (n := .dct (kvD (ns.filter posQ))) hDn ⟨kvV (ns.filter posQ), upd_same, isK_kvD _, kvD_nodup ndf⟩) (.adr D) (q D (L.mnone hDn))
theorem ce_pos {C : Addr} {f cn sn : Str} (i j : Nat) {scope : Scope} {p1 p2 p3 p4 p5 p6 p7 p8 p9 p10 p11 p12 p13 p14 pos : Pos} {k : Nat} (c : Cls X.K C) (n : NoAttr X.K C f) (hN : X.N.Nodup) (hu : ∀ i, (m i).A.units + 1 < cLine) (ok : ∀ l, BlkOk X.N (m l).env.scope scope [(cn, j)])
    (hni : X.N[i]? = some sn := by rfl) (hnj : X.N[j]? = some cn := by rfl) (hij : i ≠ j := by decide) (hc : ∀ i, (m i).calm = true := by intro _; rfl)
    (hvo : ∀ l, Vis (m l).env.scope sn := by intro _; first | exact Or.inl rfl | exact Or.inr (Or.inl rfl) | exact Or.inr (Or.inr rfl)) (hvs : ∀ l cl D, Vis (compEnvC scope cl D (m l).env).scope sn := by intro _ _ _; first | exact Or.inl rfl | exact Or.inr (Or.inl rfl) | exact Or.inr (Or.inr rfl)) (hvc : ∀ l cl D, Vis (compEnvC scope cl D (m l).env).scope cn := by intro _ _ _; first | exact Or.inl rfl | exact Or.inr (Or.inl rfl) | exact Or.inr (Or.inr rfl))
    (hlc : ∀ l cl D, (compEnvC scope cl D (m l).env).scope.names.lookup cn = some .local := by intro _ _ _; rfl) (hd1 : (sn == ("__debug__" : Str)) = false := by decide) (hd2 : (sn == ("__classdict__" : Str)) = false := by decide) (hd3 : (cn == ("__debug__" : Str)) = false := by decide) (hd4 : (cn == ("__classdict__" : Str)) = false := by decide)
    (hb : ∀ (p : Pos) (env : Env), attributeBase (.Name sn p) f env (eval (.Name sn p) env) = eval (.Name sn p) env := by intro _ _; rfl) (hs : ∀ l x, foldedSetIterable (.Attribute (.Name sn p7) f p8) (m l).env x = pure x := by intro _ _; rfl) :
    CE X m (.DictComp (.Name cn p1) (.Subscript (.Attribute (.Name sn p2) f p3) (.Name cn p4) p5) [⟨.Name cn p6, .Attribute (.Name sn p7) f p8, [.Compare (.Subscript (.Attribute (.Name sn p9) f p10) (.Name cn p11) p12) [.Gt] [.Constant (.int 0) k p13] p14], 0⟩] scope pos) (wPos C f i j) := by
  refine ⟨fun _ => tPos X.K f i j, fun l pn xe W tk => ?_, fun W => ed_pos c n hij⟩
  refine pe_lock (pe_dc (own := [(cn, j)]) (hc l) hN (pi_keys (pe_fld (pv i hni (hvo l) hd1 hd2) (hb _ _))) (ok l) (fun s H C cl fp => ?_) (fun s H C cl fp => ?_) (fun s H C cl fp => ?_) (fun s H C cl fp => ?_) (hs l))
  · exact pg_name hN hnj (.inl (hlc l cl C)) (.inr (hlc l cl C))
  · exact pts_one (pt_cmpR op_gt (pe_dget (hu l) (pe_fld (pv i hni (hvs l cl C) hd1 hd2) (hb _ _)) (pv j hnj (hvc l cl C) hd3 hd4) (fun _ _ => rfl)) pe_int (nomark _))
  · exact pv j hnj (hvc l cl C) hd3 hd4
  · exact pe_dget (hu l) (pe_fld (pv i hni (hvs l cl C) hd1 hd2) (hb _ _)) (pv j hnj (hvc l cl C) hd3 hd4) (fun _ _ => rfl)
end
end Dl

set_option Elab.async false
set_option linter.all false
set_option maxRecDepth 100000
set_option maxHeartbeats 4000000
/-! how readings are proved: loops by invariants, operations by their values -/
namespace Dl
open PySem PySem.Spec PyProof.Rows L2
theorem forD_inv {wg : WG} {wb : WS} {P : Posts} (ds : List D) (I : Nat → Rho → Mem → Prop)
    (step : ∀ k d rest ρ M, ds.drop k = d :: rest → ds[k]? = some d → I k ρ M → (∀ ρ' M', I (k + 1) ρ' M' → forD wg wb rest P ρ' M') → wg d (fun ρ1 M1 => wb { P with nx := forD wg wb rest P, ct := forD wg wb rest P, bk := P.nx } ρ1 M1) ρ M)
    (fin : ∀ ρ M, I ds.length ρ M → P.nx ρ M) {ρ : Rho} {M : Mem} (h0 : I 0 ρ M) : forD wg wb ds P ρ M := by
  have key : ∀ (n k : Nat), n = ds.length - k → k ≤ ds.length → ∀ ρ M, I k ρ M → forD wg wb (ds.drop k) P ρ M := by
    intro n
    induction n with
    | zero =>
      intro k hn hk ρ M i
      have e : k = ds.length := by omega
      subst e
      rw [List.drop_length]
      exact fin ρ M i
    | succ n ih =>
      intro k hn hk ρ M i
      have hlt : k < ds.length := by omega
      rw [List.drop_eq_getElem_cons hlt]
      exact step k ds[k] (ds.drop (k + 1)) ρ M (List.drop_eq_getElem_cons hlt) (List.getElem?_eq_getElem hlt) i fun ρ' M' i' => ih (k + 1) (by omega) hlt ρ' M' i'
  have := key ds.length 0 (by simp) (Nat.zero_le _) ρ M h0
  rwa [List.drop_zero] at this
theorem lcD_inv {wg : WG} {wt : WT} {we : WE} {own : List Nat} {Q : List D → Mem → Prop} {ρ : Rho} (ds : List D) (I : Nat → List D → Mem → Prop)
    (step : ∀ k d rest acc M, ds.drop k = d :: rest → ds[k]? = some d → I k acc M → (∀ acc' M', I (k + 1) acc' M' → lcD wg wt we own Q ρ rest acc' M') →
      wg d (fun ρ1 M1 => wt (fun b M2 => if b = true then we (fun y M3 => acc.length < sizeLine ∧ lcD wg wt we own Q ρ rest (acc ++ [y]) M3) NoX ρ1 M2 else lcD wg wt we own Q ρ rest acc M2) NoX ρ1 M1) (wipeD ρ own) M)
    (fin : ∀ acc M, I ds.length acc M → Q acc M) {M : Mem} (h0 : I 0 [] M) : lcD wg wt we own Q ρ ds [] M := by
  have key : ∀ (n k : Nat), n = ds.length - k → k ≤ ds.length → ∀ acc M, I k acc M → lcD wg wt we own Q ρ (ds.drop k) acc M := by
    intro n
    induction n with
    | zero =>
      intro k hn hk acc M i
      have e : k = ds.length := by omega
      subst e
      rw [List.drop_length]
      exact fin acc M i
    | succ n ih =>
      intro k hn hk acc M i
      have hlt : k < ds.length := by omega
      rw [List.drop_eq_getElem_cons hlt]
      exact step k ds[k] (ds.drop (k + 1)) acc M (List.drop_eq_getElem_cons hlt) (List.getElem?_eq_getElem hlt) i fun acc' M' i' => ih (k + 1) (by omega) hlt acc' M' i'
  have := key ds.length 0 (by simp) (Nat.zero_le _) [] M h0
  rwa [List.drop_zero] at this
/-- a comprehension whose elements are f's values, the memory as it is -/
theorem lcD_map {wg : WG} {we : WE} {own : List Nat} {Q : List D → Mem → Prop} {ρ : Rho} {M : Mem} (ds : List D) (f : D → D) (hz : ds.length ≤ sizeLine)
    (step : ∀ d, d ∈ ds → ∀ (R : D → Mem → Prop), R (f d) M → wg d (fun ρ1 M1 => we R NoX ρ1 M1) (wipeD ρ own) M) (fin : Q (ds.map f) M) : lcD wg wYes we own Q ρ ds [] M := by
  refine lcD_inv ds (fun k acc M' => acc = (ds.take k).map f ∧ M' = M) ?_ ?_ ⟨rfl, rfl⟩
  · rintro k d rest acc M' hd hk ⟨rfl, rfl⟩ next
    have hlt : k < ds.length := (List.getElem?_eq_some_iff.mp hk).1
    refine step d (List.mem_of_getElem? hk) _ ?_
    refine ⟨by rw [List.length_map, List.length_take]; omega, next _ _ ⟨?_, rfl⟩⟩
    rw [List.take_add_one, hk, List.map_append]
    rfl
  · rintro acc M' ⟨rfl, rfl⟩
    rw [List.take_length]
    exact fin
theorem ex_some {α : Type} {a : α} {p : α → Prop} : (∃ x, some a = some x ∧ p x) ↔ p a := ⟨fun ⟨x, e, h⟩ => by cases e; exact h, fun h => ⟨a, rfl, h⟩⟩
theorem ex_guard {p : Prop} {d : D} {q : D → Prop} : (∃ z, guardD p d = some z ∧ q z) ↔ p ∧ q d := ⟨fun ⟨z, e, h⟩ => by
  obtain ⟨hp, rfl⟩ := guardD_inv e
  exact ⟨hp, h⟩, fun ⟨hp, h⟩ => ⟨d, guardD_pos hp, h⟩⟩
theorem ex_bl {b : Bool} {p : Bool → Prop} : (∃ x, D.bl b = .bl x ∧ p x) ↔ p b := ⟨fun ⟨x, e, h⟩ => by cases e; exact h, fun h => ⟨b, rfl, h⟩⟩
theorem ex_adr {a : Addr} {p : Addr → Prop} : (∃ x, D.adr a = .adr x ∧ p x) ↔ p a := ⟨fun ⟨x, e, h⟩ => by cases e; exact h, fun h => ⟨a, rfl, h⟩⟩
theorem ex_int {a : Int} {p : Int → Prop} : (∃ x, D.int a = .int x ∧ p x) ↔ p a := ⟨fun ⟨x, e, h⟩ => by cases e; exact h, fun h => ⟨a, rfl, h⟩⟩
theorem ex_tup {a : List D} {p : List D → Prop} : (∃ x, D.tup a = .tup x ∧ p x) ↔ p a := ⟨fun ⟨x, e, h⟩ => by cases e; exact h, fun h => ⟨a, rfl, h⟩⟩
theorem ex_lst {a : List D} {p : List D → Prop} : (∃ x, (D.lst a = .lst x ∨ D.lst a = .seq x) ∧ p x) ↔ p a := by
  constructor
  · rintro ⟨x, e, h⟩
    rcases e with e | e
    · cases e; exact h
    · cases e
  · exact fun h => ⟨a, .inl rfl, h⟩
/-- what an object is: its class and one field -/
theorem dget_of {M : Mem} {p : Addr} {kvs : List (Key × D)} {y : D} {k : Key} {r : Option D} (h : M p = some (.dct kvs)) (hk : keyD y = some k) (hr : r = valD kvs k) : DGetD M (.adr p) y r := ⟨p, kvs, k, rfl, h, hk, hr⟩
theorem wSeq_step {a b : WS} {P : Posts} {ρ : Rho} {M : Mem} (I : Rho → Mem → Prop) (h1 : ∀ k : Rho → Mem → Prop, (∀ ρ1 M1, I ρ1 M1 → k ρ1 M1) → a { P with nx := k } ρ M) (h2 : ∀ ρ1 M1, I ρ1 M1 → b P ρ1 M1) : wSeq a b P ρ M := h1 _ h2
theorem ix_lst {M : Mem} {p : Addr} {xs : List D} {i : Int} {d : D} (h : M p = some (.lst xs)) (e : atI xs i = some d) : fIx (.adr p) (.int i) M = some d := by
  simp [fIx, itemsD, h, e]
theorem ix_tup {M : Mem} {xs : List D} {i : Int} {d : D} (e : atI xs i = some d) : fIx (.tup xs) (.int i) M = some d := by
  simp [fIx, itemsD, e]
theorem ix_flst {M : Mem} {xs : List D} {i : Int} {d : D} (e : atI xs i = some d) : fIx (.lst xs) (.int i) M = some d := by
  simp [fIx, itemsD, e]
theorem atI_at {α : Type} {xs : List α} {k : Nat} {d : α} (h : xs[k]? = some d) : atI xs (k : Int) = some d := by
  have hk := (List.getElem?_eq_some_iff.mp h).1
  unfold atI ixN
  rw [if_pos (by omega), if_pos (by omega), Option.bind_some]
  simpa using h
theorem atI_last' {α : Type} {xs : List α} {d : α} (h : xs[xs.length - 1]? = some d) : atI xs (-1) = some d := by
  have hk := (List.getElem?_eq_some_iff.mp h).1
  unfold atI ixN
  rw [if_neg (by omega), if_pos (by omega), Option.bind_some]
  have : ((-1 : Int) + (xs.length : Int)).toNat = xs.length - 1 := by omega
  rw [this]
  exact h
theorem toPys_ints : ∀ xs : List Int, toPys (xs.map .int) = some (xs.map PyData.int)
  | [] => by simp [toPys]
  | x :: r => by
    rw [List.map_cons, toPys, toPys_ints r]
    simp [toPy]
theorem canLay_ints : ∀ xs : List Int, PyData.canLayAll0 (xs.map .int) = true
  | [] => by simp [PyData.canLayAll0]
  | x :: r => by
    rw [List.map_cons, PyData.canLayAll0, canLay_ints r]
    simp [PyData.canLay0]
theorem depthAll_ints : ∀ xs : List Int, PyData.depthAll (xs.map .int) = 0
  | [] => by simp [PyData.depthAll]
  | x :: r => by
    rw [List.map_cons, PyData.depthAll, depthAll_ints r]
    simp [PyData.depth]
theorem shaped_ints (xs : List Int) : SeqAt.shaped (.list (xs.map .int)) = true := by
  unfold SeqAt.shaped
  rw [PyData.canLay0, canLay_ints, PyData.depth, depthAll_ints]
  decide
theorem eqP_nil {M : Mem} {q : Addr} {xs : List Int} (h : M q = some (.lst (xs.map .int))) : eqP M (.adr q) (.lst []) = some (decide (xs = [])) := by
  unfold eqP
  have e1 : toPyM M (.adr q) = some (.list (xs.map .int)) := by simp [toPyM, h, toPys_ints]
  have e2 : toPyM M (.lst []) = some (.list []) := by simp [toPyM, toPy, toPys]
  rw [e1, e2]
  have s2 : SeqAt.shaped (.list []) = true := shaped_ints []
  simp only [shaped_ints, s2, and_self, if_true]
  cases xs with
  | nil => simp [PyData.eqv, PyData.eqvAll]
  | cons x r => simp [PyData.eqv, PyData.eqvAll]
theorem ne_nil {M : Mem} {q : Addr} {xs : List Int} (h : M q = some (.lst (xs.map .int))) : fNe (.adr q) (.lst []) M = some (.bl (!decide (xs = []))) := by
  unfold fNe
  have : eqS (.adr q) (.lst []) = none := rfl
  rw [this, eqP_nil h]
  rfl
theorem eq_int {M : Mem} {i j : Int} : fEq (.int i) (.int j) M = some (.bl (decide (i = j))) := rfl
theorem ne_int {M : Mem} {i j : Int} : fNe (.int i) (.int j) M = some (.bl (!decide (i = j))) := rfl
theorem eq_str {M : Mem} {i j : Str} : fEq (.str i) (.str j) M = some (.bl (decide (i = j))) := rfl
theorem ne_str {M : Mem} {i j : Str} : fNe (.str i) (.str j) M = some (.bl (!decide (i = j))) := rfl
theorem ifT {A B : Prop} {b : Bool} (h : b = true) (a : A) : if b = true then A else B := by rw [if_pos h]; exact a
theorem ifF {A B : Prop} {b : Bool} (h : b = false) (a : B) : if b = true then A else B := by rw [if_neg (by rw [h]; exact Bool.false_ne_true)]; exact a
end Dl

set_option Elab.async false
set_option linter.all false
set_option maxRecDepth 100000
set_option maxHeartbeats 4000000
namespace K47
open PySem PySem.Spec PyProof.Rows L2 Dl
structure Ad where
  w : World
  f_NotYet___init : Addr
  d_NotYet___init : FuncData
  f_TooOld___init : Addr
  d_TooOld___init : FuncData
  f_moment_for : Addr
  d_moment_for : FuncData
  f_Tokens___init : Addr
  d_Tokens___init : FuncData
  f_Tokens_of : Addr
  d_Tokens_of : FuncData
  f_Tokens_see : Addr
  d_Tokens_see : FuncData
  f_Tokens_talk : Addr
  d_Tokens_talk : FuncData
  f_Tokens_all_of : Addr
  d_Tokens_all_of : FuncData
  f_tokens_behind : Addr
  d_tokens_behind : FuncData
  f_back_in : Addr
  d_back_in : FuncData
  f_known_by : Addr
  d_known_by : FuncData
  f_witness_of : Addr
  d_witness_of : FuncData
  f_is_witness : Addr
  d_is_witness : FuncData
  f_law_heap : Addr
  d_law_heap : FuncData
  f_law_draw : Addr
  d_law_draw : FuncData
  f_law_pick : Addr
  d_law_pick : FuncData
  f_law_same : Addr
  d_law_same : FuncData
  f_law_is_number : Addr
  d_law_is_number : FuncData
  f_law_bent : Addr
  d_law_bent : FuncData
  f_law_talks : Addr
  d_law_talks : FuncData
  f_law_knowing : Addr
  d_law_knowing : FuncData
  f_law_moment : Addr
  d_law_moment : FuncData
  f_law : Addr
  d_law : FuncData
  c_StoryError : Addr
  c_NotYet : Addr
  c_TooOld : Addr
  c_Tokens : Addr
  isx : Addr → Addr → Option Bool
  exm_StoryError : Addr → Option Bool
structure ZOk (Z : Ad) : Prop where
  e1 : Z.exm_StoryError Z.c_NotYet = some true
  e2 : Z.exm_StoryError Z.c_TooOld = some true
  x11 : Z.isx Z.c_NotYet Z.c_NotYet = some true
  x12 : Z.isx Z.c_NotYet Z.c_TooOld = some false
  x21 : Z.isx Z.c_TooOld Z.c_NotYet = some false
  x22 : Z.isx Z.c_TooOld Z.c_TooOld = some true
/-! ### the tokens: an object whose dict holds, of each name, a number -/
/-- what stands at a: its dict d holds the pairs ns -/
structure TokAt (Z : Ad) (M : Mem) (a d : Addr) (ns : List (Str × Int)) : Prop where
  ins : M a = some (.ins Z.c_Tokens [("_seen", .adr d)])
  dct : M d = some (.dct (kvD ns))
  nd : (ns.map (·.1)).Nodup
def look (ns : List (Str × Int)) (x : Str) : Int := ((ns.find? fun q => decide (q.1 = x)).map (·.2)).getD 0
def putN (ns : List (Str × Int)) (x : Str) (v : Int) : List (Str × Int) := match ns with
  | [] => [(x, v)]
  | q :: r => if q.1 = x then (x, v) :: r else q :: putN r x v
theorem valD_kvD (x : Str) : ∀ ns : List (Str × Int), valD (kvD ns) (Sum.inr x) = (ns.find? fun q => decide (q.1 = x)).map fun q => D.int q.2
  | [] => rfl
  | q :: r => by
    show (if (Sum.inr q.1 : Key) = Sum.inr x then some (D.int q.2) else valD (kvD r) (Sum.inr x)) = _
    rw [List.find?_cons]
    by_cases h : q.1 = x
    · rw [if_pos (by rw [h]), decide_eq_true h]; rfl
    · rw [if_neg (fun z => h (Sum.inr.inj z)), decide_eq_false h]; exact valD_kvD x r
theorem valD_look (ns : List (Str × Int)) (x : Str) : (valD (kvD ns) (Sum.inr x)).getD (.int 0) = .int (look ns x) := by
  rw [valD_kvD]
  unfold look
  cases ns.find? fun q => decide (q.1 = x) <;> rfl
theorem putD_kvD (x : Str) (v : Int) : ∀ ns : List (Str × Int), putD (kvD ns) (Sum.inr x) (.int v) = kvD (putN ns x v)
  | [] => rfl
  | q :: r => by
    show (if (Sum.inr q.1 : Key) = Sum.inr x then _ else (Sum.inr q.1, D.int q.2) :: putD (kvD r) (Sum.inr x) (.int v)) = _
    unfold putN
    by_cases h : q.1 = x
    · rw [if_pos (by rw [h]), if_pos h]; rfl
    · rw [if_neg (fun z => h (Sum.inr.inj z)), if_neg h, putD_kvD x v r]; rfl
theorem look_put (x y : Str) (v : Int) : ∀ ns : List (Str × Int), look (putN ns x v) y = if y = x then v else look ns y
  | [] => by
    unfold putN look
    by_cases h : y = x
    · subst h; simp
    · have h2 : ¬ x = y := fun e => h e.symm
      simp [h, h2]
  | q :: r => by
    have ih := look_put x y v r
    unfold putN
    unfold look at ih ⊢
    by_cases h : q.1 = x
    · rw [if_pos h]
      by_cases hy : y = x
      · subst hy; simp
      · have h2 : ¬ x = y := fun e => hy e.symm
        have h3 : ¬ q.1 = y := fun e => hy (e.symm.trans h)
        simp [hy, h2, h3]
    · rw [if_neg h]
      by_cases hq : q.1 = y
      · have : ¬ y = x := fun e => h (hq.trans e)
        simp [hq, this]
      · simp only [List.find?_cons, decide_eq_false hq]
        exact ih
theorem mem_put {x : Str} {v : Int} {z : Str} : ∀ {ns : List (Str × Int)}, z ∈ (putN ns x v).map (·.1) → z = x ∨ z ∈ ns.map (·.1)
  | [], h => .inl (by simpa [putN] using h)
  | q :: r, h => by
    unfold putN at h
    by_cases c : q.1 = x
    · rw [if_pos c, List.map_cons] at h
      rcases List.mem_cons.mp h with e | e
      · exact .inl e
      · exact .inr (List.mem_cons_of_mem _ e)
    · rw [if_neg c, List.map_cons] at h
      rcases List.mem_cons.mp h with e | e
      · exact .inr (by rw [e]; exact List.mem_cons_self)
      · rcases mem_put e with e | e
        · exact .inl e
        · exact .inr (List.mem_cons_of_mem _ e)
theorem nodup_put {x : Str} {v : Int} : ∀ {ns : List (Str × Int)}, (ns.map (·.1)).Nodup → ((putN ns x v).map (·.1)).Nodup
  | [], _ => by simp [putN]
  | q :: r, h => by
    rw [List.map_cons, List.nodup_cons] at h
    unfold putN
    by_cases c : q.1 = x
    · rw [if_pos c, List.map_cons, List.nodup_cons, ← c]
      exact h
    · rw [if_neg c, List.map_cons, List.nodup_cons]
      refine ⟨fun z => ?_, nodup_put h.2⟩
      rcases mem_put z with e | e
      · exact c e
      · exact h.1 e
theorem len_put {x : Str} {v : Int} : ∀ {ns : List (Str × Int)}, (putN ns x v).length ≤ ns.length + 1
  | [] => by simp [putN]
  | q :: r => by
    have ih := len_put (x := x) (v := v) (ns := r)
    unfold putN
    by_cases c : q.1 = x
    · rw [if_pos c]; simp
    · rw [if_neg c]; simp; omega
theorem kvD_len (ns : List (Str × Int)) : (kvD ns).length = ns.length := by unfold kvD; rw [List.length_map]
/-- M' is M but for the dict at d -/
def OnlyAt (M M' : Mem) (d : Addr) : Prop := ∀ b, b ≠ d → M' b = M b
theorem TokAt.ne {Z : Ad} {M : Mem} {a d : Addr} {ns : List (Str × Int)} (T : TokAt Z M a d ns) : a ≠ d := fun z => by
  have := T.ins
  rw [z, T.dct] at this
  cases this
theorem TokAt.put {Z : Ad} {M : Mem} {a d : Addr} {ns ns' : List (Str × Int)} (T : TokAt Z M a d ns) (nd : (ns'.map (·.1)).Nodup) : TokAt Z (updM M d (.dct (kvD ns'))) a d ns' :=
  ⟨by rw [updM_ne T.ne]; exact T.ins, updM_same, nd⟩
def sp_Tokens___init (Z : Ad) : DSp := fun ds M Q _ => ∃ a, ds = [.adr a] ∧ M a = some (.ins Z.c_Tokens []) ∧ ∀ d, M d = none → Q .non (updM (updM M d (.dct [])) a (.ins Z.c_Tokens [("_seen", .adr d)]))
def sp_Tokens_of (Z : Ad) : DSp := fun ds M Q _ => ∃ a d ns x, ds = [.adr a, .str x] ∧ TokAt Z M a d ns ∧ Q (.int (look ns x)) M
def sp_Tokens_see (Z : Ad) : DSp := fun ds M Q _ => ∃ a d ns x v, ds = [.adr a, .str x, .int v] ∧ TokAt Z M a d ns ∧ ns.length ≤ 900 ∧ Q .non (updM M d (.dct (kvD (putN ns x (if v > look ns x then v else look ns x)))))
def sp_Tokens_talk (Z : Ad) : DSp := fun ds M Q _ => ∃ a d ns x y, ds = [.adr a, .str x, .str y] ∧ TokAt Z M a d ns ∧ ns.length ≤ 900 ∧ Q .non (updM M d (.dct (kvD (putN ns y (if look ns x > look ns y then look ns x else look ns y)))))
def sp_Tokens_all_of (Z : Ad) : DSp := fun ds M Q _ => ∃ a d ns, ds = [.adr a] ∧ TokAt Z M a d ns ∧ ns.length ≤ 900 ∧ ∀ p, M p = none → Q (.adr p) (updM M p (.dct (kvD (ns.filter posQ))))
noncomputable def w_Tokens___init (Z : Ad) : WS := wFldS Z.c_Tokens (PySem.Str.ofString "_seen") (wVar 0) (wNewDict)
noncomputable def w_Tokens_of (Z : Ad) : WS := wRet (wDGet2 (wFld Z.c_Tokens (PySem.Str.ofString "_seen") (wVar 0)) (wVar 1) (wC (.int 0)))
noncomputable def w_Tokens_see (Z : Ad) : WS := wDPut (wFld Z.c_Tokens (PySem.Str.ofString "_seen") (wVar 0)) (wVar 1) (wCB fMax2 (wCons (wMeth Z.c_Tokens (PySem.Str.ofString "of") (sp_Tokens_of Z) (wVar 0) (wCons (wVar 1) (wNil))) (wCons (wVar 2) (wNil))))
noncomputable def w_Tokens_talk (Z : Ad) : WS := wDrop (wMeth Z.c_Tokens (PySem.Str.ofString "see") (sp_Tokens_see Z) (wVar 0) (wCons (wVar 2) (wCons (wMeth Z.c_Tokens (PySem.Str.ofString "of") (sp_Tokens_of Z) (wVar 0) (wCons (wVar 1) (wNil))) (wNil))))
noncomputable def w_Tokens_all_of (Z : Ad) : WS := wRet (wPos Z.c_Tokens (PySem.Str.ofString "_seen") 0 1)
theorem rd_Tokens___init (Z : Ad) (z : ZOk Z) : ∀ (ds : List D) (M : Mem) (Q : D → Mem → Prop) (Ex : XEx), sp_Tokens___init Z ds M Q Ex → w_Tokens___init Z { nx := fun _ M' => Q .non M', rt := Q, ex := fun C d _ M' => Ex C d M' } (ds.map some ++ List.replicate (1 - ds.length) none) M := by
  intro ds M Q Ex h
  obtain ⟨a, rfl, ha, q⟩ := h
  simp only [w_Tokens___init, wSeq, wIfS, wTest, wOp, wVar, wC, wRet, wRetN, wAsg, wgName, wgTup, wgCons, wgNil, wDrop, wCall, wCons, wNil, wTup, wLst, wLstM, wCB, wCR, wIf, wAnd, wOr, wNot, wAndV, wOrV, wNotV, wChain, wUn, wFld, wMeth, wDGet, wDGet2, wDIn, wDPut, wBM, wNext, wPar, wAug, wIterT, wIterL, wRange1, wRange2, wRange3, wMake, wFldS, wNewDict, wDict1, wSl, wNoPart, wPart, wRevL, wRevM, wTupRev, wPos, wRaise, wTry, wAt, wIsX, wEnumT, wLc, wLcM, wFor, wWhile, wBreak, wCont, wYes, exOf, wLPut]
  intro d hd
  have hne : a ≠ d := fun z => by rw [z, hd] at ha; cases ha
  refine ⟨.adr a, rfl, a, [], rfl, by rw [updM_ne hne]; exact ha, by decide, ?_⟩
  exact q d hd
theorem rd_Tokens_of (Z : Ad) (z : ZOk Z) : ∀ (ds : List D) (M : Mem) (Q : D → Mem → Prop) (Ex : XEx), sp_Tokens_of Z ds M Q Ex → w_Tokens_of Z { nx := fun _ M' => Q .non M', rt := Q, ex := fun C d _ M' => Ex C d M' } (ds.map some ++ List.replicate (2 - ds.length) none) M := by
  intro ds M Q Ex h
  obtain ⟨a, d, ns, x, rfl, T, q⟩ := h
  simp only [w_Tokens_of, wSeq, wIfS, wTest, wOp, wVar, wC, wRet, wRetN, wAsg, wgName, wgTup, wgCons, wgNil, wDrop, wCall, wCons, wNil, wTup, wLst, wLstM, wCB, wCR, wIf, wAnd, wOr, wNot, wAndV, wOrV, wNotV, wChain, wUn, wFld, wMeth, wDGet, wDGet2, wDIn, wDPut, wBM, wNext, wPar, wAug, wIterT, wIterL, wRange1, wRange2, wRange3, wMake, wFldS, wNewDict, wDict1, wSl, wNoPart, wPart, wRevL, wRevM, wTupRev, wPos, wRaise, wTry, wAt, wIsX, wEnumT, wLc, wLcM, wFor, wWhile, wBreak, wCont, wYes, exOf, wLPut]
  refine ⟨.adr a, rfl, a, _, _, rfl, T.ins, rfl, ⟨d, _, rfl, T.dct⟩, .str x, rfl, _, dget_of T.dct rfl rfl, ?_⟩
  rw [valD_look]
  exact q
theorem rd_Tokens_see (Z : Ad) (z : ZOk Z) : ∀ (ds : List D) (M : Mem) (Q : D → Mem → Prop) (Ex : XEx), sp_Tokens_see Z ds M Q Ex → w_Tokens_see Z { nx := fun _ M' => Q .non M', rt := Q, ex := fun C d _ M' => Ex C d M' } (ds.map some ++ List.replicate (3 - ds.length) none) M := by
  intro ds M Q Ex h
  obtain ⟨a, d, ns, x, v, rfl, T, hl, q⟩ := h
  simp only [w_Tokens_see, wSeq, wIfS, wTest, wOp, wVar, wC, wRet, wRetN, wAsg, wgName, wgTup, wgCons, wgNil, wDrop, wCall, wCons, wNil, wTup, wLst, wLstM, wCB, wCR, wIf, wAnd, wOr, wNot, wAndV, wOrV, wNotV, wChain, wUn, wFld, wMeth, wDGet, wDGet2, wDIn, wDPut, wBM, wNext, wPar, wAug, wIterT, wIterL, wRange1, wRange2, wRange3, wMake, wFldS, wNewDict, wDict1, wSl, wNoPart, wPart, wRevL, wRevM, wTupRev, wPos, wRaise, wTry, wAt, wIsX, wEnumT, wLc, wLcM, wFor, wWhile, wBreak, wCont, wYes, exOf, wLPut]
  refine ⟨.adr a, rfl, a, _, rfl, T.ins, by rfl, .str x, rfl, ?_⟩
  refine ⟨a, d, ns, x, rfl, T, ?_⟩
  refine ⟨.int v, rfl, _, rfl, .adr a, rfl, a, _, _, rfl, T.ins, rfl, .str x, rfl, d, _, _, rfl, T.dct, rfl, ?_, ?_⟩
  · rw [kvD_len]; exact small1000 (by omega)
  · rw [putD_kvD]
    exact q
theorem rd_Tokens_talk (Z : Ad) (z : ZOk Z) : ∀ (ds : List D) (M : Mem) (Q : D → Mem → Prop) (Ex : XEx), sp_Tokens_talk Z ds M Q Ex → w_Tokens_talk Z { nx := fun _ M' => Q .non M', rt := Q, ex := fun C d _ M' => Ex C d M' } (ds.map some ++ List.replicate (3 - ds.length) none) M := by
  intro ds M Q Ex h
  obtain ⟨a, d, ns, x, y, rfl, T, hl, q⟩ := h
  simp only [w_Tokens_talk, wSeq, wIfS, wTest, wOp, wVar, wC, wRet, wRetN, wAsg, wgName, wgTup, wgCons, wgNil, wDrop, wCall, wCons, wNil, wTup, wLst, wLstM, wCB, wCR, wIf, wAnd, wOr, wNot, wAndV, wOrV, wNotV, wChain, wUn, wFld, wMeth, wDGet, wDGet2, wDIn, wDPut, wBM, wNext, wPar, wAug, wIterT, wIterL, wRange1, wRange2, wRange3, wMake, wFldS, wNewDict, wDict1, wSl, wNoPart, wPart, wRevL, wRevM, wTupRev, wPos, wRaise, wTry, wAt, wIsX, wEnumT, wLc, wLcM, wFor, wWhile, wBreak, wCont, wYes, exOf, wLPut]
  refine ⟨.adr a, rfl, a, _, rfl, T.ins, by rfl, .str y, rfl, .adr a, rfl, a, _, rfl, T.ins, by rfl, .str x, rfl, ?_⟩
  exact ⟨a, d, ns, x, rfl, T, a, d, ns, y, _, rfl, T, hl, q⟩
theorem rd_Tokens_all_of (Z : Ad) (z : ZOk Z) : ∀ (ds : List D) (M : Mem) (Q : D → Mem → Prop) (Ex : XEx), sp_Tokens_all_of Z ds M Q Ex → w_Tokens_all_of Z { nx := fun _ M' => Q .non M', rt := Q, ex := fun C d _ M' => Ex C d M' } (ds.map some ++ List.replicate (2 - ds.length) none) M := by
  intro ds M Q Ex h
  obtain ⟨a, d, ns, rfl, T, hl, q⟩ := h
  simp only [w_Tokens_all_of, wSeq, wIfS, wTest, wOp, wVar, wC, wRet, wRetN, wAsg, wgName, wgTup, wgCons, wgNil, wDrop, wCall, wCons, wNil, wTup, wLst, wLstM, wCB, wCR, wIf, wAnd, wOr, wNot, wAndV, wOrV, wNotV, wChain, wUn, wFld, wMeth, wDGet, wDGet2, wDIn, wDPut, wBM, wNext, wPar, wAug, wIterT, wIterL, wRange1, wRange2, wRange3, wMake, wFldS, wNewDict, wDict1, wSl, wNoPart, wPart, wRevL, wRevM, wTupRev, wPos, wRaise, wTry, wAt, wIsX, wEnumT, wLc, wLcM, wFor, wWhile, wBreak, wCont, wYes, exOf, wLPut]
  exact ⟨a, _, d, ns, rfl, by simp, T.ins, rfl, T.dct, by omega, q⟩
end K47

set_option Elab.async false
set_option linter.all false
set_option maxRecDepth 100000
set_option maxHeartbeats 4000000
namespace K47
open PySem PySem.Spec PyProof.Rows L2 Dl
/-! ### the law's heap of draws -/
def HeapAt (M : Mem) (p q : Addr) : Prop := ∃ (xs : List Int) (s c : Int), M p = some (.lst [.adr q, .int s, .int c]) ∧ M q = some (.lst (xs.map .int)) ∧ xs.length ≤ 100
/-- what else stands stays -/
def HSame (p q : Addr) (M M' : Mem) : Prop := ∀ b n, b ≠ p → b ≠ q → M b = some n → M' b = some n
theorem HSame.refl {p q : Addr} {M : Mem} : HSame p q M M := fun _ _ _ _ h => h
theorem HSame.trans {p q : Addr} {M M1 M2 : Mem} (a : HSame p q M M1) (b : HSame p q M1 M2) : HSame p q M M2 := fun x n h1 h2 h => b x n h1 h2 (a x n h1 h2 h)
theorem HSame.p {p q : Addr} {M : Mem} {n : N} : HSame p q M (updM M p n) := fun b m h1 h2 h => by rw [updM_ne h1]; exact h
theorem HSame.q {p q : Addr} {M : Mem} {n : N} : HSame p q M (updM M q n) := fun b m h1 h2 h => by rw [updM_ne h2]; exact h
theorem HSame.new {p q a : Addr} {M : Mem} {n : N} (h : M a = none) : HSame p q M (updM M a n) := fun b m h1 h2 hb => by
  rw [updM_ne (fun z => by rw [z, h] at hb; cases hb)]; exact hb
theorem HSame.upd {p q a : Addr} {M M1 : Mem} {n : N} (s : HSame p q M M1) (h : M a = none) : HSame p q M (updM M1 a n) := fun b m h1 h2 hb => by
  rw [updM_ne (fun z => by rw [z, h] at hb; cases hb)]; exact s b m h1 h2 hb
theorem heap_ne {M : Mem} {p q : Addr} {xs : List Int} {s c : Int} (h1 : M p = some (.lst [.adr q, .int s, .int c])) (h2 : M q = some (.lst (xs.map .int))) : p ≠ q := fun z => by
  rw [z, h2] at h1
  cases xs with
  | nil => cases h1
  | cons x r =>
    have := Option.some.inj h1
    injection this with this
    rw [List.map_cons] at this
    injection this with e1 e2
    cases e1
theorem HeapAt.keep {M : Mem} {p q a : Addr} {n : N} (h : HeapAt M p q) (ha : M a = none) : HeapAt (updM M a n) p q := by
  obtain ⟨xs, s, c, h1, h2, h3⟩ := h
  have e1 : p ≠ a := fun z => by rw [z, ha] at h1; cases h1
  have e2 : q ≠ a := fun z => by rw [z, ha] at h2; cases h2
  exact ⟨xs, s, c, by rw [updM_ne e1]; exact h1, by rw [updM_ne e2]; exact h2, h3⟩
theorem HeapAt.keep' {M : Mem} {p q a : Addr} {n : N} (h : HeapAt M p q) (h1 : a ≠ p) (h2 : a ≠ q) : HeapAt (updM M a n) p q := by
  obtain ⟨xs, s, c, e1, e2, h3⟩ := h
  exact ⟨xs, s, c, by rw [updM_ne (Ne.symm h1)]; exact e1, by rw [updM_ne (Ne.symm h2)]; exact e2, h3⟩
def sp_law_draw (Z : Ad) : DSp := fun ds M Q _ => ∃ (p q : Addr) (many : Int), ds = [.adr p, .int many] ∧ 0 < many ∧ many < 1073741824 ∧ HeapAt M p q ∧ ∀ (r : Int) (M' : Mem), 0 ≤ r → r < many → HeapAt M' p q → HSame p q M M' → Q (.int r) M'
def sp_law_pick (Z : Ad) : DSp := fun ds M Q _ => ∃ (p q : Addr) (xs : List D), ds = [.adr p, .lst xs] ∧ 0 < xs.length ∧ xs.length < 1073741824 ∧ HeapAt M p q ∧ ∀ (x : D) (M' : Mem), x ∈ xs → HeapAt M' p q → HSame p q M M' → Q x M'
noncomputable def w_law_draw (Z : Ad) : WS := wSeq (wWhile (wAnd (wTest (wOp fNe (wOp fIx (wVar 0) (wC (.int 0))) (wLst (wNil)))) (wTest (wOp fEq (wOp fIx (wOp fIx (wVar 0) (wC (.int 0))) (wUn fNeg (wC (.int 1)))) (wC (.int 0))))) (wDrop (wBM "list" gPop (wOp fIx (wVar 0) (wC (.int 0))) wNil))) (wSeq (wIfS (wTest (wOp fNe (wOp fIx (wVar 0) (wC (.int 0))) (wLst (wNil)))) (wSeq (wAsg (wBM "list" gPop (wOp fIx (wVar 0) (wC (.int 0))) wNil) (wgName 2)) (wSeq (wDrop (wBM "list" gAppend (wOp fIx (wVar 0) (wC (.int 0))) (wCons (wOp fDiv (wVar 2) (wVar 1)) (wNil)))) (wRet (wOp fMod (wCB fInt (wCons (wVar 2) (wNil))) (wVar 1))))) (wNext)) (wSeq (wLPut (wVar 0) (wC (.int 2)) (wOp fAdd (wOp fIx (wVar 0) (wC (.int 2))) (wC (.int 1)))) (wSeq (wLPut (wVar 0) (wC (.int 1)) (wOp fMod (wCB fInt (wCons (wOp fAdd (wOp fAdd (wOp fMul (wOp fIx (wVar 0) (wC (.int 1))) (wC (.int 48271))) (wC (.int 17))) (wOp fIx (wVar 0) (wC (.int 2)))) (wNil))) (wC (.int 2147483647)))) (wRet (wOp fMod (wCB fInt (wCons (wOp fDiv (wOp fIx (wVar 0) (wC (.int 1))) (wC (.int 32))) (wNil))) (wVar 1))))))
noncomputable def w_law_pick (Z : Ad) : WS := wRet (wOp fIx (wVar 1) (wCall (sp_law_draw Z) [] (wCons (wVar 0) (wCons (wCB fLen (wCons (wVar 1) (wNil))) (wNil)))))
theorem rd_law_draw (Z : Ad) (z : ZOk Z) : ∀ (ds : List D) (M : Mem) (Q : D → Mem → Prop) (Ex : XEx), sp_law_draw Z ds M Q Ex → w_law_draw Z { nx := fun _ M' => Q .non M', rt := Q, ex := fun C d _ M' => Ex C d M' } (ds.map some ++ List.replicate (3 - ds.length) none) M := by
  intro ds M Q Ex h
  obtain ⟨p, q, many, rfl, hm0, hm1, ⟨xs, s, c, hp, hq, hx⟩, post⟩ := h
  have hne := heap_ne hp hq
  unfold w_law_draw
  refine wSeq_step (fun ρ M' => ρ = [some (.adr p), some (.int many), none] ∧ HSame p q M M' ∧ ∃ (xs : List Int), M' p = some (.lst [.adr q, .int s, .int c]) ∧ M' q = some (.lst (xs.map .int)) ∧ xs.length ≤ 100) (fun k hk => ?_) ?_
  · simp only [wSeq, wIfS, wTest, wOp, wVar, wC, wRet, wRetN, wAsg, wgName, wgTup, wgCons, wgNil, wDrop, wCall, wCons, wNil, wTup, wLst, wLstM, wCB, wCR, wIf, wAnd, wOr, wNot, wAndV, wOrV, wNotV, wChain, wUn, wFld, wMeth, wDGet, wDGet2, wDIn, wDPut, wBM, wNext, wPar, wAug, wIterT, wIterL, wRange1, wRange2, wRange3, wMake, wFldS, wNewDict, wDict1, wSl, wNoPart, wPart, wRevL, wRevM, wTupRev, wPos, wRaise, wTry, wAt, wIsX, wEnumT, wLc, wLcM, wFor, wWhile, wBreak, wCont, wYes, exOf, wLPut]
    refine ⟨fun n ρ M' => ρ = [some (.adr p), some (.int many), none] ∧ HSame p q M M' ∧ ∃ (xs : List Int), n = xs.length ∧ M' p = some (.lst [.adr q, .int s, .int c]) ∧ M' q = some (.lst (xs.map .int)) ∧ xs.length ≤ 100, ⟨_, rfl, .refl, xs, rfl, hp, hq, hx⟩, ?_⟩
    rintro n ρ M' ⟨rfl, sm, xs, rfl, hp, hq, hx⟩
    refine ⟨.adr p, rfl, .adr q, ix_lst hp rfl, by simp, .bl _, ne_nil hq, _, rfl, ?_⟩
    by_cases hxn : xs = []
    · subst hxn
      rw [if_neg (by simp), if_neg (by simp)]
      exact hk _ _ ⟨rfl, sm, [], hp, hq, by simp⟩
    · rw [if_pos (by simp [hxn])]
      have hlen : 0 < xs.length := List.length_pos_iff.mpr hxn
      obtain ⟨v, hv⟩ : ∃ v, xs[xs.length - 1]? = some v := ⟨xs[xs.length - 1], List.getElem?_eq_getElem (by omega)⟩
      have hv' : (xs.map D.int)[(xs.map D.int).length - 1]? = some (.int v) := by rw [List.length_map, List.getElem?_map, hv]; rfl
      refine ⟨.adr p, rfl, .adr q, ix_lst hp rfl, .int (-1), rfl, .int v, ix_lst hq (atI_last' hv'), .bl (decide (v = 0)), eq_int, _, rfl, ?_⟩
      by_cases h0 : v = 0
      · rw [if_pos (by simp [h0])]
        refine ⟨.adr p, rfl, .adr q, ix_lst hp rfl, .inl ⟨rfl, _, hq⟩, q, _, .int v, rfl, rfl, hq, hv', ?_⟩
        refine ⟨xs.length - 1, by omega, rfl, sm.trans .q, xs.dropLast, by rw [List.length_dropLast], by rw [updM_ne hne]; exact hp, ?_, by rw [List.length_dropLast]; omega⟩
        rw [updM_same, List.map_dropLast]
      · rw [if_neg (by simp [h0])]
        exact hk _ _ ⟨rfl, sm, xs, hp, hq, hx⟩
  · rintro ρ M' ⟨rfl, sm, xs, hp, hq, hx⟩
    refine wSeq_step (fun ρ M'' => M'' = M' ∧ ρ = [some (.adr p), some (.int many), none]) (fun k hk => ?_) ?_
    · simp only [wSeq, wIfS, wTest, wOp, wVar, wC, wRet, wRetN, wAsg, wgName, wgTup, wgCons, wgNil, wDrop, wCall, wCons, wNil, wTup, wLst, wLstM, wCB, wCR, wIf, wAnd, wOr, wNot, wAndV, wOrV, wNotV, wChain, wUn, wFld, wMeth, wDGet, wDGet2, wDIn, wDPut, wBM, wNext, wPar, wAug, wIterT, wIterL, wRange1, wRange2, wRange3, wMake, wFldS, wNewDict, wDict1, wSl, wNoPart, wPart, wRevL, wRevM, wTupRev, wPos, wRaise, wTry, wAt, wIsX, wEnumT, wLc, wLcM, wFor, wWhile, wBreak, wCont, wYes, exOf, wLPut]
      refine ⟨.adr p, rfl, .adr q, ix_lst hp rfl, by simp, .bl _, ne_nil hq, _, rfl, ?_⟩
      by_cases hxn : xs = []
      · rw [if_neg (by simp [hxn])]
        exact hk _ _ ⟨rfl, rfl⟩
      · rw [if_pos (by simp [hxn])]
        have hlen : 0 < xs.length := List.length_pos_iff.mpr hxn
        obtain ⟨v, hv⟩ : ∃ v, xs[xs.length - 1]? = some v := ⟨xs[xs.length - 1], List.getElem?_eq_getElem (by omega)⟩
        have hv' : (xs.map D.int)[(xs.map D.int).length - 1]? = some (.int v) := by rw [List.length_map, List.getElem?_map, hv]; rfl
        refine ⟨.adr p, rfl, .adr q, ix_lst hp rfl, .inl ⟨rfl, _, hq⟩, q, _, .int v, rfl, rfl, hq, hv', ?_⟩
        have hp1 : (updM M' q (.lst (xs.map D.int).dropLast)) p = some (.lst [.adr q, .int s, .int c]) := by rw [updM_ne hne]; exact hp
        have hq1 : (updM M' q (.lst (xs.map D.int).dropLast)) q = some (.lst (xs.map D.int).dropLast) := updM_same
        have hl1 : (xs.map D.int).dropLast.length < 100 := by rw [List.length_dropLast, List.length_map]; omega
        refine ⟨.adr p, rfl, .adr q, ix_lst hp1 rfl, .inl ⟨rfl, _, hq1⟩, .int v, rfl, .int many, rfl, .int (v / many), guardD_pos (.inl ⟨hm0, hm1⟩), q, _, _, rfl, rfl, hq1, small1000 (by omega), ?_⟩
        refine ⟨.int v, rfl, .int v, rfl, .int many, rfl, .int (v % many), guardD_pos hm0, ?_⟩
        refine post (v % many) _ (Int.emod_nonneg _ (by omega)) (Int.emod_lt_of_pos _ hm0) ⟨xs.dropLast ++ [v / many], s, c, by rw [updM_ne hne]; exact hp1, ?_, by simp; omega⟩ (sm.trans (HSame.q.trans .q))
        rw [updM_same, List.map_append, List.map_dropLast]
        rfl
    · rintro ρ M'' ⟨rfl, rfl⟩
      simp only [wSeq, wIfS, wTest, wOp, wVar, wC, wRet, wRetN, wAsg, wgName, wgTup, wgCons, wgNil, wDrop, wCall, wCons, wNil, wTup, wLst, wLstM, wCB, wCR, wIf, wAnd, wOr, wNot, wAndV, wOrV, wNotV, wChain, wUn, wFld, wMeth, wDGet, wDGet2, wDIn, wDPut, wBM, wNext, wPar, wAug, wIterT, wIterL, wRange1, wRange2, wRange3, wMake, wFldS, wNewDict, wDict1, wSl, wNoPart, wPart, wRevL, wRevM, wTupRev, wPos, wRaise, wTry, wAt, wIsX, wEnumT, wLc, wLcM, wFor, wWhile, wBreak, wCont, wYes, exOf, wLPut]
      refine ⟨.adr p, rfl, .int c, ix_lst hp rfl, .int (c + 1), rfl, .adr p, rfl, p, _, 2, 2, rfl, hp, rfl, rfl, ?_⟩
      have hp2 : (updM M'' p (.lst [.adr q, .int s, .int (c + 1)])) p = some (.lst [.adr q, .int s, .int (c + 1)]) := updM_same
      refine ⟨.adr p, rfl, .int s, ix_lst hp2 rfl, .int (s * 48271), guardD_pos (.inl (.inr ⟨by decide, by decide⟩)), .int (s * 48271 + 17), rfl, .adr p, rfl, .int (c + 1), ix_lst hp2 rfl, .int (s * 48271 + 17 + (c + 1)), rfl, .int (s * 48271 + 17 + (c + 1)), rfl, .int ((s * 48271 + 17 + (c + 1)) % 2147483647), guardD_pos (by decide), .adr p, rfl, p, _, 1, 1, rfl, hp2, rfl, rfl, ?_⟩
      generalize (s * 48271 + 17 + (c + 1)) % 2147483647 = s'
      have hp3 : (updM (updM M'' p (.lst [.adr q, .int s, .int (c + 1)])) p (.lst [.adr q, .int s', .int (c + 1)])) p = some (.lst [.adr q, .int s', .int (c + 1)]) := updM_same
      refine ⟨.adr p, rfl, .int s', ix_lst hp3 rfl, .int (s' / 32), guardD_pos (.inl ⟨by decide, by decide⟩), .int (s' / 32), rfl, .int many, rfl, .int (s' / 32 % many), guardD_pos hm0, ?_⟩
      refine post (s' / 32 % many) _ (Int.emod_nonneg _ (by omega)) (Int.emod_lt_of_pos _ hm0) ⟨xs, s', c + 1, hp3, ?_, hx⟩ (sm.trans (HSame.p.trans .p))
      exact (updM_ne (Ne.symm hne)).trans ((updM_ne (Ne.symm hne)).trans hq)
theorem rd_law_pick (Z : Ad) (z : ZOk Z) : ∀ (ds : List D) (M : Mem) (Q : D → Mem → Prop) (Ex : XEx), sp_law_pick Z ds M Q Ex → w_law_pick Z { nx := fun _ M' => Q .non M', rt := Q, ex := fun C d _ M' => Ex C d M' } (ds.map some ++ List.replicate (2 - ds.length) none) M := by
  intro ds M Q Ex h
  obtain ⟨p, q, xs, rfl, h0, h1, hh, post⟩ := h
  simp only [w_law_pick, wSeq, wIfS, wTest, wOp, wVar, wC, wRet, wRetN, wAsg, wgName, wgTup, wgCons, wgNil, wDrop, wCall, wCons, wNil, wTup, wLst, wLstM, wCB, wCR, wIf, wAnd, wOr, wNot, wAndV, wOrV, wNotV, wChain, wUn, wFld, wMeth, wDGet, wDGet2, wDIn, wDPut, wBM, wNext, wPar, wAug, wIterT, wIterL, wRange1, wRange2, wRange3, wMake, wFldS, wNewDict, wDict1, wSl, wNoPart, wPart, wRevL, wRevM, wTupRev, wPos, wRaise, wTry, wAt, wIsX, wEnumT, wLc, wLcM, wFor, wWhile, wBreak, wCont, wYes, exOf, wLPut]
  refine ⟨.lst xs, rfl, .adr p, rfl, .lst xs, rfl, .int xs.length, rfl, p, q, _, rfl, by omega, by omega, hh, fun r M' r0 r1 hh' sm => ?_⟩
  have hr : r.toNat < xs.length := by omega
  have e : atI xs r = some xs[r.toNat] := by
    have := atI_at (xs := xs) (k := r.toNat) (List.getElem?_eq_getElem hr)
    rwa [Int.toNat_of_nonneg r0] at this
  exact ⟨xs[r.toNat], ix_flst e, post _ _ (List.getElem_mem hr) hh' sm⟩
end K47

set_option Elab.async false
set_option linter.all false
set_option maxRecDepth 100000
set_option maxHeartbeats 4000000
namespace K47
open PySem PySem.Spec PyProof.Rows L2 Dl
theorem cutD_ints (ns : List Int) (lo hi : Option Int) : ∃ ms : List Int, Dl.cutD (ns.map .int) lo hi = ms.map .int ∧ ms.length ≤ ns.length := by
  refine ⟨((ns.drop (HT.sIx (ns.map D.int).length 0 lo)).take (HT.sIx (ns.map D.int).length (ns.map D.int).length hi - HT.sIx (ns.map D.int).length 0 lo)), ?_, ?_⟩
  · unfold Dl.cutD
    rw [List.map_take, List.map_drop]
  · rw [List.length_take, List.length_drop]
    omega
def cellD : D → D
  | .int n => .int (2 * (if n < 0 then -n else n) + (if decide (n < 0) then 1 else 0))
  | d => d
theorem cellD_ints (ms : List Int) : ∃ cs : List Int, (ms.map D.int).map cellD = cs.map .int ∧ cs.length = ms.length := by
  refine ⟨ms.map fun n => 2 * (if n < 0 then -n else n) + (if decide (n < 0) then 1 else 0), ?_, by simp⟩
  rw [List.map_map, List.map_map]
  rfl
def sp_law_heap (Z : Ad) : DSp := fun ds M Q _ => ∃ ns : List Int, ds = [.seq (ns.map .int)] ∧ ns.length ≤ 63 ∧ ∀ (p q : Addr) (M' : Mem), M p = none → M q = none → HeapAt M' p q → (∀ b n, M b = some n → M' b = some n) → Q (.adr p) M'
noncomputable def w_law_heap (Z : Ad) : WS := wSeq (wPar 2 3 (wCons (wLc (wIterL (wSl gSlL (wVar 0) (wNoPart) (wPart (wC (.int 63))))) (wgName 1) (wYes) (wOp fAdd (wOp fMul (wC (.int 2)) (wCB fAbs (wCons (wVar 1) (wNil)))) (wCB fInt (wCons (wOp fLt (wVar 1) (wC (.int 0))) (wNil)))) [1]) (wCons (wC (.int 83701)) (wNil)))) (wSeq (wFor (wIterL (wVar 2)) (wgName 1) (wAsg (wOp fMod (wCB fInt (wCons (wOp fAdd (wOp fAdd (wOp fMul (wVar 3) (wC (.int 69621))) (wOp fMod (wCB fInt (wCons (wVar 1) (wNil))) (wC (.int 2147483563)))) (wC (.int 31))) (wNil))) (wC (.int 2147483647))) (wgName 3))) (wRet (wLstM (wCons (wRevM (wLc (wIterL (wVar 2)) (wgName 1) (wTest (wOp fGe (wVar 1) (wOp fPow (wC (.int 10)) (wC (.int 18))))) (wOp fMod (wCB fInt (wCons (wVar 1) (wNil))) (wOp fMul (wOp fMul (wOp fMul (wOp fPow (wC (.int 10)) (wC (.int 60))) (wOp fPow (wC (.int 10)) (wC (.int 60)))) (wOp fPow (wC (.int 10)) (wC (.int 60)))) (wOp fPow (wC (.int 10)) (wC (.int 60))))) [1])) (wCons (wVar 3) (wCons (wC (.int 0)) (wNil)))))))
theorem rd_law_heap (Z : Ad) (z : ZOk Z) : ∀ (ds : List D) (M : Mem) (Q : D → Mem → Prop) (Ex : XEx), sp_law_heap Z ds M Q Ex → w_law_heap Z { nx := fun _ M' => Q .non M', rt := Q, ex := fun C d _ M' => Ex C d M' } (ds.map some ++ List.replicate (4 - ds.length) none) M := by
  intro ds M Q Ex h
  obtain ⟨ns, rfl, hl, post⟩ := h
  obtain ⟨ms, hcut, hms⟩ := cutD_ints ns none (some 63)
  obtain ⟨cs, hcs, hcl⟩ := cellD_ints ms
  unfold w_law_heap
  refine wSeq_step (fun ρ M' => M' = M ∧ ρ = [some (.seq (ns.map .int)), none, some (.lst (cs.map .int)), some (.int 83701)]) (fun k hk => ?_) ?_
  · simp only [wSeq, wIfS, wTest, wOp, wVar, wC, wRet, wRetN, wAsg, wgName, wgTup, wgCons, wgNil, wDrop, wCall, wCons, wNil, wTup, wLst, wLstM, wCB, wCR, wIf, wAnd, wOr, wNot, wAndV, wOrV, wNotV, wChain, wUn, wFld, wMeth, wDGet, wDGet2, wDIn, wDPut, wBM, wNext, wPar, wAug, wIterT, wIterL, wRange1, wRange2, wRange3, wMake, wFldS, wNewDict, wDict1, wSl, wNoPart, wPart, wRevL, wRevM, wTupRev, wPos, wRaise, wTry, wAt, wIsX, wEnumT, wLc, wLcM, wFor, wWhile, wBreak, wCont, wYes, exOf, wLPut]
    refine ⟨.seq (ns.map .int), rfl, 63, rfl, ns.map .int, rfl, _, .inl rfl, ?_⟩
    rw [hcut]
    refine lcD_map _ cellD (by rw [List.length_map]; exact Nat.le_of_lt (small1000 (by omega))) (fun d hd R hR => ?_) ?_
    · obtain ⟨n, _, rfl⟩ := List.mem_map.mp hd
      refine ⟨.int n, rfl, .int (if n < 0 then -n else n), rfl, .int (2 * (if n < 0 then -n else n)), guardD_pos (.inl (.inl ⟨by decide, by decide⟩)), .int n, rfl, .bl (decide (n < 0)), rfl, .int _, rfl, .int _, rfl, hR⟩
    · rw [hcs]
      exact ⟨_, _, rfl, hk _ _ ⟨rfl, rfl⟩⟩
  · rintro ρ M' ⟨rfl, rfl⟩
    refine wSeq_step (fun ρ M'' => M'' = M' ∧ ∃ x s, ρ = [some (.seq (ns.map .int)), x, some (.lst (cs.map .int)), some (.int s)]) (fun k hk => ?_) ?_
    · unfold wFor wIterL
      simp only [wSeq, wIfS, wTest, wOp, wVar, wC, wRet, wRetN, wAsg, wgName, wgTup, wgCons, wgNil, wDrop, wCall, wCons, wNil, wTup, wLst, wLstM, wCB, wCR, wIf, wAnd, wOr, wNot, wAndV, wOrV, wNotV, wChain, wUn, wFld, wMeth, wDGet, wDGet2, wDIn, wDPut, wBM, wNext, wPar, wAug, wIterT, wIterL, wRange1, wRange2, wRange3, wMake, wFldS, wNewDict, wDict1, wSl, wNoPart, wPart, wRevL, wRevM, wTupRev, wPos, wRaise, wTry, wAt, wIsX, wEnumT, wLc, wLcM, wFor, wWhile, wBreak, wCont, wYes, exOf, wLPut]
      refine ⟨.lst (cs.map .int), rfl, cs.map .int, .inl rfl, ?_⟩
      refine forD_inv _ (fun _ ρ M'' => M'' = M' ∧ ∃ x s, ρ = [some (.seq (ns.map .int)), x, some (.lst (cs.map .int)), some (.int s)]) ?_ (fun ρ M2 h => hk _ _ h) ⟨rfl, none, 83701, rfl⟩
      rintro j d rest ρ M2 hdr hd ⟨rfl, x, s, rfl⟩ next
      obtain ⟨c, _, rfl⟩ := List.mem_map.mp (List.mem_of_getElem? hd)
      refine ⟨.int s, rfl, .int (s * 69621), guardD_pos (.inl (.inr ⟨by decide, by decide⟩)), .int c, rfl, .int c, rfl, .int (c % 2147483563), guardD_pos (by decide), .int _, rfl, .int _, rfl, .int _, rfl, .int _, guardD_pos (by decide), ?_⟩
      exact next _ _ ⟨rfl, _, _, rfl⟩
    · rintro ρ M2 ⟨rfl, x, s, rfl⟩
      simp only [wSeq, wIfS, wTest, wOp, wVar, wC, wRet, wRetN, wAsg, wgName, wgTup, wgCons, wgNil, wDrop, wCall, wCons, wNil, wTup, wLst, wLstM, wCB, wCR, wIf, wAnd, wOr, wNot, wAndV, wOrV, wNotV, wChain, wUn, wFld, wMeth, wDGet, wDGet2, wDIn, wDPut, wBM, wNext, wPar, wAug, wIterT, wIterL, wRange1, wRange2, wRange3, wMake, wFldS, wNewDict, wDict1, wSl, wNoPart, wPart, wRevL, wRevM, wTupRev, wPos, wRaise, wTry, wAt, wIsX, wEnumT, wLc, wLcM, wFor, wWhile, wBreak, wCont, wYes, exOf, wLPut]
      refine ⟨.lst (cs.map .int), rfl, cs.map .int, .inl rfl, ?_⟩
      refine lcD_inv _ (fun k acc M3 => M3 = M2 ∧ ∃ ys : List Int, acc = ys.map .int ∧ ys.length ≤ k) ?_ ?_ ⟨rfl, [], rfl, by simp⟩
      · rintro k d rest acc M3 hdr hd ⟨rfl, ys, rfl, hy⟩ next
        obtain ⟨c, _, rfl⟩ := List.mem_map.mp (List.mem_of_getElem? hd)
        have hk : k < cs.length := by
          have := (List.getElem?_eq_some_iff.mp hd).1
          rwa [List.length_map] at this
        refine ⟨.int c, rfl, .int (10 ^ (18 : Int).toNat), guardD_pos ⟨by decide, by decide, by decide⟩, .bl _, rfl, _, rfl, ?_⟩
        by_cases hc : (10 : Int) ^ (18 : Int).toNat ≤ c
        · refine ifT (decide_eq_true hc) ?_
          refine ⟨.int c, rfl, .int c, rfl, .int (10 ^ (60 : Int).toNat), guardD_pos ⟨by decide, by decide, by decide⟩, .int (10 ^ (60 : Int).toNat), guardD_pos ⟨by decide, by decide, by decide⟩, .int (10 ^ (60 : Int).toNat * 10 ^ (60 : Int).toNat), guardD_pos (.inr (by unfold CMulW; decide +kernel)),
            .int (10 ^ (60 : Int).toNat), guardD_pos ⟨by decide, by decide, by decide⟩, .int (10 ^ (60 : Int).toNat * 10 ^ (60 : Int).toNat * 10 ^ (60 : Int).toNat), guardD_pos (.inr (by unfold CMulW; decide +kernel)), .int (10 ^ (60 : Int).toNat), guardD_pos ⟨by decide, by decide, by decide⟩, .int (10 ^ (60 : Int).toNat * 10 ^ (60 : Int).toNat * 10 ^ (60 : Int).toNat * 10 ^ (60 : Int).toNat), guardD_pos (.inr (by unfold CMulW; decide +kernel)), .int _, guardD_pos (by decide +kernel), ?_, ?_⟩
          · rw [List.length_map]
            exact small1000 (by omega)
          · refine next _ _ ⟨rfl, ys ++ [c % (10 ^ (60 : Int).toNat * 10 ^ (60 : Int).toNat * 10 ^ (60 : Int).toNat * 10 ^ (60 : Int).toNat)], ?_, by rw [List.length_append]; show ys.length + 1 ≤ k + 1; omega⟩
            rw [List.map_append]
            rfl
        · refine ifF (decide_eq_false hc) ?_
          exact next _ _ ⟨rfl, ys, rfl, by omega⟩
      · rintro acc M3 ⟨rfl, ys, rfl, hy⟩
        rw [List.length_map] at hy
        refine ⟨ys.map .int, rfl, fun q hq => ⟨.int s, rfl, by show 3 ≤ sizeLine; decide, fun p hp => ?_⟩⟩
        have hne : q ≠ p := fun z => by rw [z, updM_same] at hp; cases hp
        have hp' : M3 p = none := by rw [updM_ne (Ne.symm hne)] at hp; exact hp
        refine post p q _ hp' hq ⟨ys.reverse, s, 0, updM_same, ?_, by rw [List.length_reverse]; omega⟩ fun b n hb => ?_
        · rw [updM_ne hne, updM_same, List.map_reverse]
        · have e1 : b ≠ p := fun z => by rw [z, hp'] at hb; cases hb
          have e2 : b ≠ q := fun z => by rw [z, hq] at hb; cases hb
          rw [updM_ne e1, updM_ne e2]
          exact hb
end K47

set_option Elab.async false
set_option linter.all false
set_option maxRecDepth 100000
set_option maxHeartbeats 4000000
namespace K47
open PySem PySem.Spec PyProof.Rows L2 Dl
/-- data that _law_same reads -/
def plainD : Nat → D → Prop
  | 0, _ => False
  | j + 1, d => d = .non ∨ (∃ b, d = .bl b) ∨ (∃ i, d = .int i) ∨ (∃ s, d = .str s) ∨ ∃ xs, d = .tup xs ∧ xs.length ≤ 1000 ∧ ∀ x ∈ xs, plainD j x
def spr_law_same (Z : Ad) : Nat → DSp
  | 0 => fun _ _ _ _ => False
  | j + 1 => fun ds M Q _ => ∃ v, ds = [v, v] ∧ plainD (j + 1) v ∧ Q (.bl true) M
def sp_law_same (Z : Ad) : DSp := spr_law_same Z 4
def sp_law_is_number (Z : Ad) : DSp := fun ds M Q _ => ∃ v b, ds = [v] ∧ (∃ k, kindD M v = some k ∧ (k = "int" → ∃ i, v = .int i)) ∧ b = (match v with | .int i => decide (0 ≤ i) | _ => false) ∧ Q (.bl b) M
noncomputable def w_law_same (Z : Ad) (j : Nat) : WS := wSeq (wIfS (wTest (wCB fIsi (wCons (wVar 1) (wCons (wC (.ty "tuple")) (wNil))))) (wRet (wAndV (wCB fIsi (wCons (wVar 0) (wCons (wC (.ty "tuple")) (wNil)))) (wAndV (wOp fEq (wCB fLen (wCons (wVar 0) (wNil))) (wCB fLen (wCons (wVar 1) (wNil)))) (wCR gAll (wCons (wLc (wRange1 (wCons (wCB fLen (wCons (wVar 1) (wNil))) (wNil))) (wgName 2) (wYes) (wCall (spr_law_same Z j) [] (wCons (wOp fIx (wVar 0) (wVar 2)) (wCons (wOp fIx (wVar 1) (wVar 2)) (wNil)))) [2]) (wNil)))))) (wNext)) (wSeq (wIfS (wOr (wTest (wOp (fIsN false) (wVar 1) (wC .non))) (wTest (wCB fIsi (wCons (wVar 1) (wCons (wC (.ty "str")) (wNil)))))) (wRet (wAndV (wOp fEq (wOp (fIsN false) (wVar 0) (wC .non)) (wOp (fIsN false) (wVar 1) (wC .non))) (wAndV (wOp fEq (wCB fIsi (wCons (wVar 0) (wCons (wC (.ty "str")) (wNil)))) (wCB fIsi (wCons (wVar 1) (wCons (wC (.ty "str")) (wNil))))) (wOp fEq (wVar 0) (wVar 1))))) (wNext)) (wSeq (wIfS (wTest (wCB fIsi (wCons (wVar 1) (wCons (wC (.ty "int")) (wNil))))) (wRet (wAndV (wCB fIsi (wCons (wVar 0) (wCons (wC (.ty "int")) (wNil)))) (wAndV (wOp fEq (wCB fIsi (wCons (wVar 0) (wCons (wC (.ty "bool")) (wNil)))) (wCB fIsi (wCons (wVar 1) (wCons (wC (.ty "bool")) (wNil))))) (wOp fEq (wVar 0) (wVar 1))))) (wNext)) (wRet (wOp fEq (wVar 0) (wVar 1)))))
noncomputable def w_law_is_number (Z : Ad) : WS := wRet (wAndV (wCB fIsi (wCons (wVar 0) (wCons (wC (.ty "int")) (wNil)))) (wAndV (wNotV (wCB fIsi (wCons (wVar 0) (wCons (wC (.ty "bool")) (wNil))))) (wOp fGe (wVar 0) (wC (.int 0)))))
theorem rd_law_same (Z : Ad) (z : ZOk Z) (j : Nat) : ∀ (ds : List D) (M : Mem) (Q : D → Mem → Prop) (Ex : XEx), spr_law_same Z (j + 1) ds M Q Ex → w_law_same Z j { nx := fun _ M' => Q .non M', rt := Q, ex := fun C d _ M' => Ex C d M' } (ds.map some ++ List.replicate (3 - ds.length) none) M := by
  intro ds M Q Ex h
  obtain ⟨v, rfl, hv, q⟩ := h
  unfold w_law_same
  have test : ∀ {k : Rho → Mem → Prop} (b : Bool), True := fun _ => trivial
  rcases hv with rfl | ⟨b, rfl⟩ | ⟨i, rfl⟩ | ⟨s, rfl⟩ | ⟨xs, rfl, hl, hx⟩
  · simp only [wSeq, wIfS, wTest, wOp, wVar, wC, wRet, wRetN, wAsg, wgName, wgTup, wgCons, wgNil, wDrop, wCall, wCons, wNil, wTup, wLst, wLstM, wCB, wCR, wIf, wAnd, wOr, wNot, wAndV, wOrV, wNotV, wChain, wUn, wFld, wMeth, wDGet, wDGet2, wDIn, wDPut, wBM, wNext, wPar, wAug, wIterT, wIterL, wRange1, wRange2, wRange3, wMake, wFldS, wNewDict, wDict1, wSl, wNoPart, wPart, wRevL, wRevM, wTupRev, wPos, wRaise, wTry, wAt, wIsX, wEnumT, wLc, wLcM, wFor, wWhile, wBreak, wCont, wYes, exOf, wLPut]
    refine ⟨.non, rfl, .bl false, by simp [fIsi, kindD, isTy], _, rfl, ifF rfl ?_⟩
    refine ⟨.non, rfl, .bl true, rfl, _, rfl, ifT rfl ?_⟩
    refine ⟨.non, rfl, .bl true, rfl, .non, rfl, .bl true, rfl, .bl true, by simp [fEq, eqS], _, rfl, ifT rfl ?_⟩
    refine ⟨.non, rfl, .bl false, by simp [fIsi, kindD, isTy], .non, rfl, .bl false, by simp [fIsi, kindD, isTy], .bl true, by simp [fEq, eqS], _, rfl, ifT rfl ?_⟩
    exact ⟨.non, rfl, .non, rfl, .bl true, rfl, q⟩
  · simp only [wSeq, wIfS, wTest, wOp, wVar, wC, wRet, wRetN, wAsg, wgName, wgTup, wgCons, wgNil, wDrop, wCall, wCons, wNil, wTup, wLst, wLstM, wCB, wCR, wIf, wAnd, wOr, wNot, wAndV, wOrV, wNotV, wChain, wUn, wFld, wMeth, wDGet, wDGet2, wDIn, wDPut, wBM, wNext, wPar, wAug, wIterT, wIterL, wRange1, wRange2, wRange3, wMake, wFldS, wNewDict, wDict1, wSl, wNoPart, wPart, wRevL, wRevM, wTupRev, wPos, wRaise, wTry, wAt, wIsX, wEnumT, wLc, wLcM, wFor, wWhile, wBreak, wCont, wYes, exOf, wLPut]
    refine ⟨.bl b, rfl, .bl false, by simp [fIsi, kindD, isTy], _, rfl, ifF rfl ?_⟩
    refine ⟨.bl b, rfl, .bl false, rfl, _, rfl, ifF rfl ?_⟩
    refine ⟨.bl b, rfl, .bl false, by simp [fIsi, kindD, isTy], _, rfl, ifF rfl ?_⟩
    refine ⟨.bl b, rfl, .bl true, by simp [fIsi, kindD, isTy], _, rfl, ifT rfl ?_⟩
    refine ⟨.bl b, rfl, .bl true, by simp [fIsi, kindD, isTy], _, rfl, ifT rfl ?_⟩
    refine ⟨.bl b, rfl, .bl true, by simp [fIsi, kindD, isTy], .bl b, rfl, .bl true, by simp [fIsi, kindD, isTy], .bl true, by simp [fEq, eqS], _, rfl, ifT rfl ?_⟩
    exact ⟨.bl b, rfl, .bl b, rfl, .bl true, by simp [fEq, eqS], q⟩
  · simp only [wSeq, wIfS, wTest, wOp, wVar, wC, wRet, wRetN, wAsg, wgName, wgTup, wgCons, wgNil, wDrop, wCall, wCons, wNil, wTup, wLst, wLstM, wCB, wCR, wIf, wAnd, wOr, wNot, wAndV, wOrV, wNotV, wChain, wUn, wFld, wMeth, wDGet, wDGet2, wDIn, wDPut, wBM, wNext, wPar, wAug, wIterT, wIterL, wRange1, wRange2, wRange3, wMake, wFldS, wNewDict, wDict1, wSl, wNoPart, wPart, wRevL, wRevM, wTupRev, wPos, wRaise, wTry, wAt, wIsX, wEnumT, wLc, wLcM, wFor, wWhile, wBreak, wCont, wYes, exOf, wLPut]
    refine ⟨.int i, rfl, .bl false, by simp [fIsi, kindD, isTy], _, rfl, ifF rfl ?_⟩
    refine ⟨.int i, rfl, .bl false, rfl, _, rfl, ifF rfl ?_⟩
    refine ⟨.int i, rfl, .bl false, by simp [fIsi, kindD, isTy], _, rfl, ifF rfl ?_⟩
    refine ⟨.int i, rfl, .bl true, by simp [fIsi, kindD, isTy], _, rfl, ifT rfl ?_⟩
    refine ⟨.int i, rfl, .bl true, by simp [fIsi, kindD, isTy], _, rfl, ifT rfl ?_⟩
    refine ⟨.int i, rfl, .bl false, by simp [fIsi, kindD, isTy], .int i, rfl, .bl false, by simp [fIsi, kindD, isTy], .bl true, by simp [fEq, eqS], _, rfl, ifT rfl ?_⟩
    exact ⟨.int i, rfl, .int i, rfl, .bl true, by simp [fEq, eqS], q⟩
  · simp only [wSeq, wIfS, wTest, wOp, wVar, wC, wRet, wRetN, wAsg, wgName, wgTup, wgCons, wgNil, wDrop, wCall, wCons, wNil, wTup, wLst, wLstM, wCB, wCR, wIf, wAnd, wOr, wNot, wAndV, wOrV, wNotV, wChain, wUn, wFld, wMeth, wDGet, wDGet2, wDIn, wDPut, wBM, wNext, wPar, wAug, wIterT, wIterL, wRange1, wRange2, wRange3, wMake, wFldS, wNewDict, wDict1, wSl, wNoPart, wPart, wRevL, wRevM, wTupRev, wPos, wRaise, wTry, wAt, wIsX, wEnumT, wLc, wLcM, wFor, wWhile, wBreak, wCont, wYes, exOf, wLPut]
    refine ⟨.str s, rfl, .bl false, by simp [fIsi, kindD, isTy], _, rfl, ifF rfl ?_⟩
    refine ⟨.str s, rfl, .bl false, rfl, _, rfl, ifF rfl ?_⟩
    refine ⟨.str s, rfl, .bl true, by simp [fIsi, kindD, isTy], _, rfl, ifT rfl ?_⟩
    refine ⟨.str s, rfl, .bl false, rfl, .str s, rfl, .bl false, rfl, .bl true, by simp [fEq, eqS], _, rfl, ifT rfl ?_⟩
    refine ⟨.str s, rfl, .bl true, by simp [fIsi, kindD, isTy], .str s, rfl, .bl true, by simp [fIsi, kindD, isTy], .bl true, by simp [fEq, eqS], _, rfl, ifT rfl ?_⟩
    exact ⟨.str s, rfl, .str s, rfl, .bl true, by simp [fEq, eqS], q⟩
  · simp only [wSeq, wIfS, wTest, wOp, wVar, wC, wRet, wRetN, wAsg, wgName, wgTup, wgCons, wgNil, wDrop, wCall, wCons, wNil, wTup, wLst, wLstM, wCB, wCR, wIf, wAnd, wOr, wNot, wAndV, wOrV, wNotV, wChain, wUn, wFld, wMeth, wDGet, wDGet2, wDIn, wDPut, wBM, wNext, wPar, wAug, wIterT, wIterL, wRange1, wRange2, wRange3, wMake, wFldS, wNewDict, wDict1, wSl, wNoPart, wPart, wRevL, wRevM, wTupRev, wPos, wRaise, wTry, wAt, wIsX, wEnumT, wLc, wLcM, wFor, wWhile, wBreak, wCont, wYes, exOf, wLPut]
    refine ⟨.tup xs, rfl, .bl true, by simp [fIsi, kindD, isTy], _, rfl, ifT rfl ?_⟩
    refine ⟨.tup xs, rfl, .bl true, by simp [fIsi, kindD, isTy], _, rfl, ifT rfl ?_⟩
    refine ⟨.tup xs, rfl, .int xs.length, rfl, .tup xs, rfl, .int xs.length, rfl, .bl true, by simp [fEq, eqS], _, rfl, ifT rfl ?_⟩
    refine ⟨.tup xs, rfl, .int xs.length, rfl, xs.length, rfl, by omega, by omega, ?_⟩
    refine lcD_map _ (fun _ => .bl true) (by rw [intsFrom_length]; exact Nat.le_of_lt (small1000 (by omega))) (fun d hd R hR => ?_) ?_
    · obtain ⟨k, hk, rfl⟩ := List.mem_map.mp hd
      have hk' : k < xs.length := by simpa using hk
      have hz : ((0 : Int) + (k : Int)) = (k : Int) := by omega
      have e : atI xs ((0 : Int) + (k : Int)) = some xs[k] := by rw [hz]; exact atI_at (List.getElem?_eq_getElem hk')
      refine ⟨.tup xs, rfl, .int (0 + (k : Int)), rfl, xs[k], ix_tup e, .tup xs, rfl, .int (0 + (k : Int)), rfl, xs[k], ix_tup e, ?_⟩
      cases j with
      | zero => exact (hx _ (List.getElem_mem hk')).elim
      | succ j => exact ⟨xs[k], rfl, hx _ (List.getElem_mem hk'), hR⟩
    · refine ⟨.lst ((intsFrom 0 (xs.length : Int).toNat).map fun _ => .bl true), _, (intsFrom 0 (xs.length : Int).toNat).map fun _ => true, rfl, rfl, ?_, ?_⟩
      · have := blsD_map ((intsFrom 0 (xs.length : Int).toNat).map fun _ => true)
        rw [List.map_map] at this
        exact this
      · have : ((intsFrom 0 (xs.length : Int).toNat).map fun _ => true).all id = true := by simp
        rw [this]
        exact q
theorem lenr_law_same (Z : Ad) : ∀ (j : Nat) (ds : List D) (M : Mem) (Q : D → Mem → Prop) (E : XEx), spr_law_same Z j ds M Q E → ds.length = 2
  | 0, _, _, _, _, h => h.elim
  | j + 1, _, _, _, _, ⟨v, e, _⟩ => by rw [e]; rfl
theorem rd_law_is_number (Z : Ad) (z : ZOk Z) : ∀ (ds : List D) (M : Mem) (Q : D → Mem → Prop) (Ex : XEx), sp_law_is_number Z ds M Q Ex → w_law_is_number Z { nx := fun _ M' => Q .non M', rt := Q, ex := fun C d _ M' => Ex C d M' } (ds.map some ++ List.replicate (1 - ds.length) none) M := by
  intro ds M Q Ex h
  obtain ⟨v, b, rfl, ⟨k, hk, hi⟩, rfl, q⟩ := h
  simp only [w_law_is_number, wSeq, wIfS, wTest, wOp, wVar, wC, wRet, wRetN, wAsg, wgName, wgTup, wgCons, wgNil, wDrop, wCall, wCons, wNil, wTup, wLst, wLstM, wCB, wCR, wIf, wAnd, wOr, wNot, wAndV, wOrV, wNotV, wChain, wUn, wFld, wMeth, wDGet, wDGet2, wDIn, wDPut, wBM, wNext, wPar, wAug, wIterT, wIterL, wRange1, wRange2, wRange3, wMake, wFldS, wNewDict, wDict1, wSl, wNoPart, wPart, wRevL, wRevM, wTupRev, wPos, wRaise, wTry, wAt, wIsX, wEnumT, wLc, wLcM, wFor, wWhile, wBreak, wCont, wYes, exOf, wLPut]
  have other : ∀ {v : D} {k : String}, kindD M v = some k → isTy k "int" = false → Q (.bl false) M → ∃ d, ([v].map some ++ List.replicate (1 - [v].length) none)[0]? = some (some d) ∧ ∃ z, fIsi [d, .ty "int"] M = some z ∧ ∃ c, z = .bl c ∧
      if c = true then (∃ d, ([v].map some ++ List.replicate (1 - [v].length) none)[0]? = some (some d) ∧ ∃ z, fIsi [d, .ty "bool"] M = some z ∧ ∃ c, z = .bl c ∧ ∃ c_1, D.bl (!c) = .bl c_1 ∧ if c_1 = true then (∃ d, ([v].map some ++ List.replicate (1 - [v].length) none)[0]? = some (some d) ∧ ∃ z, fGe d (.int 0) M = some z ∧ Q z M) else Q (.bl false) M) else Q (.bl false) M := fun {v k} hk ht q =>
    ⟨v, rfl, .bl false, by simp [fIsi, hk, ht], _, rfl, ifF rfl q⟩
  cases v with
  | int i => exact ⟨.int i, rfl, .bl true, by simp [fIsi, kindD, isTy], _, rfl, ifT rfl ⟨.int i, rfl, .bl false, by simp [fIsi, kindD, isTy], _, rfl, _, rfl, ifT rfl ⟨.int i, rfl, _, rfl, q⟩⟩⟩
  | bl b => exact ⟨.bl b, rfl, .bl true, by simp [fIsi, kindD, isTy], _, rfl, ifT rfl ⟨.bl b, rfl, .bl true, by simp [fIsi, kindD, isTy], _, rfl, _, rfl, ifF rfl q⟩⟩
  | non => exact other (k := "NoneType") rfl (by decide) q
  | str s => exact other (k := "str") rfl (by decide) q
  | tup s => exact other (k := "tuple") rfl (by decide) q
  | lst s => exact other (k := "list") rfl (by decide) q
  | seq s => exact other (k := "list") rfl (by decide) q
  | adr a =>
    have : k = "list" ∨ k = "dict" := by
      unfold kindD at hk
      cases hm : M a with
      | none => simp [hm] at hk
      | some n => cases n <;> simp [hm] at hk <;> simp [← hk]
    rcases this with rfl | rfl
    · exact other hk (by decide) q
    · exact other hk (by decide) q
  | ty n => cases hk
  | exc _ _ _ _ => cases hk
end K47

set_option Elab.async false
set_option linter.all false
set_option maxRecDepth 100000
set_option maxHeartbeats 4000000
namespace K47
open PySem PySem.Spec PyProof.Rows L2 Dl
inductive Talk where
  | talk (a b : Str)
  | saw (a : Str) (v : Int)
def talkD : Talk → D
  | .talk a b => .tup [.str "talk", .str a, .str b]
  | .saw a v => .tup [.str "saw", .str a, .int v]
def four : List Str := ["ann", "bob", "cid", "dan"]
def okT : Talk → Prop
  | .talk a b => a ∈ four ∧ b ∈ four
  | .saw a v => a ∈ four ∧ 0 ≤ v
def sp_law_talks (Z : Ad) : DSp := fun ds M Q _ => ∃ p q, ds = [.adr p] ∧ HeapAt M p q ∧ ∀ (ts : List Talk) (M' : Mem), ts.length ≤ 13 → (∀ t ∈ ts, okT t) → HeapAt M' p q → HSame p q M M' → Q (.tup (ts.map talkD)) M'
theorem some_names {r : Int} (h0 : 0 ≤ r) (h1 : r < 4) : ∃ nm : List Str, Dl.cutD (four.map .str) none (some (1 + r)) = nm.map .str ∧ 0 < nm.length ∧ nm.length ≤ 4 ∧ ∀ x ∈ nm, x ∈ four := by
  have : r = 0 ∨ r = 1 ∨ r = 2 ∨ r = 3 := by omega
  rcases this with rfl | rfl | rfl | rfl
  · exact ⟨["ann"], rfl, by decide, by decide, by decide⟩
  · exact ⟨["ann", "bob"], rfl, by decide, by decide, by decide⟩
  · exact ⟨["ann", "bob", "cid"], rfl, by decide, by decide, by decide⟩
  · exact ⟨["ann", "bob", "cid", "dan"], rfl, by decide, by decide, by decide⟩
def talksI (M : Mem) (p q t : Addr) (nm : List Str) (rs : Int) (k : Nat) (ρ : Rho) (M3 : Mem) : Prop := ∃ (mo : Int) (x5 : Option D) (ts : List Talk), ρ = [some (.adr p), some (.lst (nm.map .str)), some (.int rs), some (.int mo), some (.adr t), x5] ∧ 0 ≤ mo ∧ M3 t = some (.lst (ts.map talkD)) ∧ ts.length ≤ k ∧ (∀ t ∈ ts, okT t) ∧ HeapAt M3 p q ∧ HSame p q M M3
noncomputable def w_law_talks (Z : Ad) : WS := wSeq (wAsg (wTup (wCons (wSl gSlL (wLst (wCons (wC (.str (PySem.Str.ofString "ann"))) (wCons (wC (.str (PySem.Str.ofString "bob"))) (wCons (wC (.str (PySem.Str.ofString "cid"))) (wCons (wC (.str (PySem.Str.ofString "dan"))) (wNil)))))) (wNoPart) (wPart (wOp fAdd (wC (.int 1)) (wCall (sp_law_draw Z) [] (wCons (wVar 0) (wCons (wC (.int 4)) (wNil))))))) (wCons (wCall (sp_law_draw Z) [] (wCons (wVar 0) (wCons (wC (.int 3)) (wNil)))) (wCons (wC (.int 0)) (wCons (wLstM (wNil)) (wNil)))))) (wgTup 4 (wgCons (wgName 1) (wgCons (wgName 2) (wgCons (wgName 3) (wgCons (wgName 4) (wgNil))))))) (wSeq (wFor (wRange1 (wCons (wCall (sp_law_draw Z) [] (wCons (wVar 0) (wCons (wC (.int 14)) (wNil)))) (wNil))) (wgName 5) (wIfS (wTest (wOp fEq (wCall (sp_law_draw Z) [] (wCons (wVar 0) (wCons (wC (.int 3)) (wNil)))) (wC (.int 0)))) (wDrop (wBM "list" gAppend (wVar 4) (wCons (wTup (wCons (wC (.str (PySem.Str.ofString "talk"))) (wCons (wCall (sp_law_pick Z) [] (wCons (wVar 0) (wCons (wVar 1) (wNil)))) (wCons (wCall (sp_law_pick Z) [] (wCons (wVar 0) (wCons (wVar 1) (wNil)))) (wNil))))) (wNil)))) (wSeq (wAsg (wOp fAdd (wVar 3) (wCall (sp_law_draw Z) [] (wCons (wVar 0) (wCons (wC (.int 2)) (wNil))))) (wgName 3)) (wDrop (wBM "list" gAppend (wVar 4) (wCons (wTup (wCons (wC (.str (PySem.Str.ofString "saw"))) (wCons (wCall (sp_law_pick Z) [] (wCons (wVar 0) (wCons (wVar 1) (wNil)))) (wCons (wIf (wAnd (wTest (wOp fGt (wVar 2) (wC (.int 0)))) (wTest (wOp fGt (wCall (sp_law_draw Z) [] (wCons (wVar 0) (wCons (wC (.int 8)) (wNil)))) (wC (.int 0))))) (wVar 3) (wCall (sp_law_draw Z) [] (wCons (wVar 0) (wCons (wC (.int 9)) (wNil))))) (wNil))))) (wNil))))))) (wRet (wCB fTuple (wCons (wVar 4) (wNil)))))
theorem rd_law_talks (Z : Ad) (z : ZOk Z) : ∀ (ds : List D) (M : Mem) (Q : D → Mem → Prop) (Ex : XEx), sp_law_talks Z ds M Q Ex → w_law_talks Z { nx := fun _ M' => Q .non M', rt := Q, ex := fun C d _ M' => Ex C d M' } (ds.map some ++ List.replicate (6 - ds.length) none) M := by
  intro ds M Q Ex h
  obtain ⟨p, q, rfl, hh, post⟩ := h
  unfold w_law_talks
  refine wSeq_step (fun ρ M' => ∃ (nm : List Str) (rs : Int) (t : Addr), ρ = [some (.adr p), some (.lst (nm.map .str)), some (.int rs), some (.int 0), some (.adr t), none] ∧ (0 < nm.length ∧ nm.length ≤ 4 ∧ ∀ x ∈ nm, x ∈ four) ∧ M' t = some (.lst []) ∧ HeapAt M' p q ∧ HSame p q M M' ∧ t ≠ p ∧ t ≠ q ∧ M t = none) (fun k hk => ?_) ?_
  · simp only [wSeq, wIfS, wTest, wOp, wVar, wC, wRet, wRetN, wAsg, wgName, wgTup, wgCons, wgNil, wDrop, wCall, wCons, wNil, wTup, wLst, wLstM, wCB, wCR, wIf, wAnd, wOr, wNot, wAndV, wOrV, wNotV, wChain, wUn, wFld, wMeth, wDGet, wDGet2, wDIn, wDPut, wBM, wNext, wPar, wAug, wIterT, wIterL, wRange1, wRange2, wRange3, wMake, wFldS, wNewDict, wDict1, wSl, wNoPart, wPart, wRevL, wRevM, wTupRev, wPos, wRaise, wTry, wAt, wIsX, wEnumT, wLc, wLcM, wFor, wWhile, wBreak, wCont, wYes, exOf, wLPut]
    refine ⟨by decide, .adr p, rfl, p, q, 4, rfl, by decide, by decide, hh, fun r M1 r0 r1 hh1 s1 => ⟨.int (1 + r), rfl, 1 + r, rfl, four.map .str, rfl, ?_⟩⟩
    obtain ⟨nm, hnm, h0, h4, hin⟩ := some_names r0 r1
    rw [hnm]
    refine ⟨.adr p, rfl, p, q, 3, rfl, by decide, by decide, hh1, fun rs M2 _ _ hh2 s2 => ⟨by decide, fun t ht => ⟨by show 4 ≤ sizeLine; decide, [.lst (nm.map .str), .int rs, .int 0, .adr t], rfl, rfl, _, _, rfl, _, _, rfl, _, _, rfl, _, _, rfl, rfl, ?_⟩⟩⟩
    have e1 : t ≠ p := fun z => by obtain ⟨_, _, _, h, _⟩ := hh2; rw [z, h] at ht; cases ht
    have e2 : t ≠ q := fun z => by obtain ⟨_, _, _, _, h, _⟩ := hh2; rw [z, h] at ht; cases ht
    refine hk _ _ ⟨nm, rs, t, rfl, ⟨h0, h4, hin⟩, updM_same, hh2.keep ht, (s1.trans s2).trans (.new ht), e1, e2, ?_⟩
    cases hm : M t with
    | none => rfl
    | some n =>
      have := (s1.trans s2) t n e1 e2 hm
      rw [ht] at this
      cases this
  · rintro ρ M1 ⟨nm, rs, t, rfl, ⟨n0, n4, nin⟩, ht, hh, sm, tp, tq, tn⟩
    have pick : ∀ {M' : Mem} {R : D → Mem → Prop}, HeapAt M' p q → (∀ (x : Str) (M'' : Mem), x ∈ four → HeapAt M'' p q → HSame p q M' M'' → R (.str x) M'') → ∀ E : XEx, sp_law_pick Z [.adr p, .lst (nm.map .str)] M' R E := fun hh' hR E => by
      refine ⟨p, q, _, rfl, by rw [List.length_map]; exact n0, by rw [List.length_map]; omega, hh', fun x M'' hx h1 h2 => ?_⟩
      obtain ⟨y, hy, rfl⟩ := List.mem_map.mp hx
      exact hR y M'' (nin y hy) h1 h2
    refine wSeq_step (fun ρ M2 => ∃ (x3 x5 : Option D) (ts : List Talk), ρ = [some (.adr p), some (.lst (nm.map .str)), some (.int rs), x3, some (.adr t), x5] ∧ M2 t = some (.lst (ts.map talkD)) ∧ ts.length ≤ 13 ∧ (∀ t ∈ ts, okT t) ∧ HeapAt M2 p q ∧ HSame p q M M2) (fun k hk => ?_) ?_
    · unfold wFor wRange1
      simp only [wSeq, wIfS, wTest, wOp, wVar, wC, wRet, wRetN, wAsg, wgName, wgTup, wgCons, wgNil, wDrop, wCall, wCons, wNil, wTup, wLst, wLstM, wCB, wCR, wIf, wAnd, wOr, wNot, wAndV, wOrV, wNotV, wChain, wUn, wFld, wMeth, wDGet, wDGet2, wDIn, wDPut, wBM, wNext, wPar, wAug, wIterT, wIterL, wRange1, wRange2, wRange3, wMake, wFldS, wNewDict, wDict1, wSl, wNoPart, wPart, wRevL, wRevM, wTupRev, wPos, wRaise, wTry, wAt, wIsX, wEnumT, wLc, wLcM, wFor, wWhile, wBreak, wCont, wYes, exOf, wLPut]
      refine ⟨.adr p, rfl, p, q, 14, rfl, by decide, by decide, hh, fun r M2 r0 r1 hh2 s2 => ⟨r, rfl, by omega, by omega, ?_⟩⟩
      refine forD_inv _ (talksI M p q t nm rs) ?_ ?_ ⟨0, none, [], rfl, by decide, s2 t _ tp tq ht, by simp, by simp, hh2, sm.trans s2⟩
      · rintro k d rest ρ M3 hdr hd ⟨mo, x5, ts, rfl, hmo, hts, hlen, hok, hh3, s3⟩ next
        have hk13 : k < 14 := by
          have := (List.getElem?_eq_some_iff.mp hd).1
          rw [intsFrom_length] at this
          omega
        refine ⟨.adr p, rfl, p, q, 3, rfl, by decide, by decide, hh3, fun c M4 c0 c1 hh4 s4 => ⟨_, eq_int, _, rfl, ?_⟩⟩
        by_cases hc : c = 0
        · refine ifT (decide_eq_true hc) ?_
          have ht4 := s4 t _ tp tq hts
          refine ⟨.adr t, rfl, .inl ⟨rfl, _, ht4⟩, .adr p, rfl, .lst (nm.map .str), rfl, pick hh4 (fun a M5 ha hh5 s5 => ?_) NoX⟩
          refine ⟨.adr p, rfl, .lst (nm.map .str), rfl, pick hh5 (fun b M6 hb hh6 s6 => ?_) NoX⟩
          have ht6 := s6 t _ tp tq (s5 t _ tp tq ht4)
          refine ⟨by show 3 ≤ sizeLine; decide, t, _, _, rfl, rfl, ht6, by rw [List.length_map]; exact small1000 (by omega), ?_⟩
          refine next _ _ ⟨mo, _, ts ++ [.talk a b], rfl, hmo, ?_, by simp; omega, ?_, hh6.keep' tp tq, ((s3.trans s4).trans (s5.trans s6)).upd tn⟩
          · rw [updM_same, List.map_append]; rfl
          · intro u hu
            rcases List.mem_append.mp hu with hu | hu
            · exact hok u hu
            · rw [List.mem_singleton.mp hu]; exact ⟨ha, hb⟩
        · refine ifF (decide_eq_false hc) ?_
          have ht4 := s4 t _ tp tq hts
          refine ⟨.int mo, rfl, .adr p, rfl, p, q, 2, rfl, by decide, by decide, hh4, fun e M5 e0 e1 hh5 s5 => ⟨.int (mo + e), rfl, ?_⟩⟩
          have ht5 := s5 t _ tp tq ht4
          refine ⟨.adr t, rfl, .inl ⟨rfl, _, ht5⟩, .adr p, rfl, .lst (nm.map .str), rfl, pick hh5 (fun a M6 ha hh6 s6 => ?_) NoX⟩
          have ht6 := s6 t _ tp tq ht5
          have hsz : (ts.map talkD).length < sizeLine := by rw [List.length_map]; exact small1000 (by omega)
          have inv : ∀ (v : Int) (M7 : Mem), 0 ≤ v → HeapAt M7 p q → HSame p q M6 M7 → talksI M p q t nm rs (k + 1) [some (.adr p), some (.lst (nm.map .str)), some (.int rs), some (.int (mo + e)), some (.adr t), some d] (updM M7 t (.lst (ts.map talkD ++ [talkD (.saw a v)]))) := fun v M7 hv hh7 s7 => by
            refine ⟨mo + e, _, ts ++ [.saw a v], rfl, by omega, ?_, by simp; omega, ?_, hh7.keep' tp tq, ((s3.trans s4).trans ((s5.trans s6).trans s7)).upd tn⟩
            · rw [updM_same, List.map_append]; rfl
            · intro u hu
              rcases List.mem_append.mp hu with hu | hu
              · exact hok u hu
              · rw [List.mem_singleton.mp hu]; exact ⟨ha, hv⟩
          refine ⟨.int rs, rfl, .bl (decide (0 < rs)), rfl, _, rfl, ?_⟩
          by_cases hrs : 0 < rs
          · refine ifT (decide_eq_true hrs) ?_
            refine ⟨.adr p, rfl, p, q, 8, rfl, by decide, by decide, hh6, fun g M7 g0 g1 hh7 s7 => ⟨.bl (decide (0 < g)), rfl, _, rfl, ?_⟩⟩
            by_cases hg : 0 < g
            · refine ifT (decide_eq_true hg) ?_
              exact ⟨.int (mo + e), rfl, ⟨by show 3 ≤ sizeLine; decide, t, _, _, rfl, rfl, s7 t _ tp tq ht6, hsz, next _ _ (inv (mo + e) M7 (by omega) hh7 s7)⟩⟩
            · refine ifF (decide_eq_false hg) ?_
              exact ⟨.adr p, rfl, p, q, 9, rfl, by decide, by decide, hh7, fun v M8 v0 v1 hh8 s8 => ⟨by show 3 ≤ sizeLine; decide, t, _, _, rfl, rfl, (s7.trans s8) t _ tp tq ht6, hsz, next _ _ (inv v M8 v0 hh8 (s7.trans s8))⟩⟩
          · refine ifF (decide_eq_false hrs) ?_
            exact ⟨.adr p, rfl, p, q, 9, rfl, by decide, by decide, hh6, fun v M8 v0 v1 hh8 s8 => ⟨by show 3 ≤ sizeLine; decide, t, _, _, rfl, rfl, s8 t _ tp tq ht6, hsz, next _ _ (inv v M8 v0 hh8 s8)⟩⟩
      · rintro ρ M3 ⟨mo, x5, ts, rfl, hmo, hts, hlen, hok, hh3, s3⟩
        rw [intsFrom_length] at hlen
        exact hk _ _ ⟨_, _, ts, rfl, hts, by omega, hok, hh3, s3⟩
    · rintro ρ M2 ⟨x3, x5, ts, rfl, hts, hlen, hok, hh2, s2⟩
      simp only [wSeq, wIfS, wTest, wOp, wVar, wC, wRet, wRetN, wAsg, wgName, wgTup, wgCons, wgNil, wDrop, wCall, wCons, wNil, wTup, wLst, wLstM, wCB, wCR, wIf, wAnd, wOr, wNot, wAndV, wOrV, wNotV, wChain, wUn, wFld, wMeth, wDGet, wDGet2, wDIn, wDPut, wBM, wNext, wPar, wAug, wIterT, wIterL, wRange1, wRange2, wRange3, wMake, wFldS, wNewDict, wDict1, wSl, wNoPart, wPart, wRevL, wRevM, wTupRev, wPos, wRaise, wTry, wAt, wIsX, wEnumT, wLc, wLcM, wFor, wWhile, wBreak, wCont, wYes, exOf, wLPut]
      refine ⟨.adr t, rfl, .tup (ts.map talkD), by simp [fTuple, itemsD, hts], post ts M2 hlen hok hh2 s2⟩
end K47

set_option Elab.async false
set_option linter.all false
set_option maxRecDepth 100000
set_option maxHeartbeats 4000000
namespace K47
open PySem PySem.Spec PyProof.Rows L2 Dl
/-! ### who knows what: forwards -/
def knB (ts : List Talk) : Nat → Str → Nat → Bool
  | 0, _, _ => false
  | k + 1, n, i => match ts[k]? with
    | some (.talk a b) => knB ts k n i || (decide (n = b) && knB ts k a i)
    | some (.saw a _) => knB ts k n i || (decide (n = a) && decide (i = k))
    | none => knB ts k n i
def mx (a b : Int) : Int := if b > a then b else a
def tok (ts : List Talk) : Nat → Str → Int
  | 0, _ => 0
  | k + 1, n => match ts[k]? with
    | some (.talk a b) => if n = b then mx (tok ts k b) (tok ts k a) else tok ts k n
    | some (.saw a v) => if n = a then mx (tok ts k a) v else tok ts k n
    | none => tok ts k n
def valT (ts : List Talk) (i : Nat) : Int := match ts[i]? with
  | some (.saw _ v) => v
  | _ => 0
def sawAt (ts : List Talk) (i : Nat) : Prop := ∃ a v, ts[i]? = some (.saw a v)
theorem knB_lt (ts : List Talk) : ∀ (k : Nat) (n : Str) (i : Nat), knB ts k n i = true → i < k ∧ sawAt ts i
  | 0, n, i, h => by simp [knB] at h
  | k + 1, n, i, h => by
    unfold knB at h
    have ih := knB_lt ts k
    split at h
    · rename_i a b e
      rcases Bool.or_eq_true_iff.mp h with h | h
      · exact ⟨Nat.lt_succ_of_lt (ih n i h).1, (ih n i h).2⟩
      · exact ⟨Nat.lt_succ_of_lt (ih a i (Bool.and_eq_true_iff.mp h).2).1, (ih a i (Bool.and_eq_true_iff.mp h).2).2⟩
    · rename_i a v e
      rcases Bool.or_eq_true_iff.mp h with h | h
      · exact ⟨Nat.lt_succ_of_lt (ih n i h).1, (ih n i h).2⟩
      · have h2 := of_decide_eq_true (Bool.and_eq_true_iff.mp h).2
        subst h2
        exact ⟨Nat.lt_succ_self _, a, v, e⟩
    · exact ⟨Nat.lt_succ_of_lt (ih n i h).1, (ih n i h).2⟩
theorem knB_self (ts : List Talk) (k : Nat) (n : Str) : knB ts k n k = false := by
  cases h : knB ts k n k with
  | false => rfl
  | true => exact absurd (knB_lt ts k n k h).1 (Nat.lt_irrefl _)
def knL (ts : List Talk) (k : Nat) (n : Str) : List Nat := (List.range k).filter (knB ts k n)
theorem mem_knL {ts : List Talk} {k : Nat} {n : Str} {i : Nat} : i ∈ knL ts k n ↔ knB ts k n i = true := by
  unfold knL
  rw [List.mem_filter, List.mem_range]
  exact ⟨fun h => h.2, fun h => ⟨(knB_lt ts k n i h).1, h⟩⟩
theorem knL_sorted (ts : List Talk) (k : Nat) (n : Str) : (knL ts k n).Pairwise (· < ·) := List.pairwise_lt_range.sublist List.filter_sublist
theorem knL_len (ts : List Talk) (k : Nat) (n : Str) : (knL ts k n).length ≤ k := by
  have := List.length_filter_le (knB ts k n) (List.range k)
  rwa [List.length_range] at this
theorem mx_le {a b c : Int} : mx a b ≤ c ↔ a ≤ c ∧ b ≤ c := by unfold mx; split <;> omega
theorem le_mx {a b c : Int} : c ≤ mx a b ↔ c ≤ a ∨ c ≤ b := by unfold mx; split <;> omega
theorem mx_or (a b : Int) : mx a b = a ∨ mx a b = b := by unfold mx; split <;> simp
/-- the token is the greatest moment known -/
theorem tok_max {ts : List Talk} (ok : ∀ t ∈ ts, okT t) : ∀ (k : Nat) (n : Str), 0 ≤ tok ts k n ∧ (∀ i, knB ts k n i = true → valT ts i ≤ tok ts k n) ∧ (tok ts k n = 0 ∨ ∃ i, knB ts k n i = true ∧ valT ts i = tok ts k n)
  | 0, n => ⟨by simp [tok], fun i h => by simp [knB] at h, .inl rfl⟩
  | k + 1, n => by
    have ih := tok_max ok k
    cases e : ts[k]? with
    | none =>
      have e1 : tok ts (k + 1) n = tok ts k n := by simp [tok, e]
      have e2 : ∀ i, knB ts (k + 1) n i = knB ts k n i := fun i => by simp [knB, e]
      rw [e1]
      refine ⟨(ih n).1, fun i h => (ih n).2.1 i (by rw [← e2]; exact h), ?_⟩
      rcases (ih n).2.2 with h | ⟨i, h1, h2⟩
      · exact .inl h
      · exact .inr ⟨i, by rw [e2]; exact h1, h2⟩
    | some t =>
      cases t with
      | talk a b =>
        have e1 : tok ts (k + 1) n = if n = b then mx (tok ts k b) (tok ts k a) else tok ts k n := by simp [tok, e]
        have e2 : ∀ i, knB ts (k + 1) n i = (knB ts k n i || (decide (n = b) && knB ts k a i)) := fun i => by simp [knB, e]
        rw [e1]
        by_cases hb : n = b
        · subst hb
          rw [if_pos rfl]
          refine ⟨le_mx.mpr (.inl (ih n).1), fun i h => ?_, ?_⟩
          · rw [e2] at h
            rcases Bool.or_eq_true_iff.mp h with h | h
            · exact le_mx.mpr (.inl ((ih n).2.1 i h))
            · exact le_mx.mpr (.inr ((ih a).2.1 i (Bool.and_eq_true_iff.mp h).2))
          · rcases mx_or (tok ts k n) (tok ts k a) with hm | hm
            · rw [hm]
              rcases (ih n).2.2 with h | ⟨i, h1, h2⟩
              · exact .inl h
              · exact .inr ⟨i, by rw [e2, h1]; rfl, h2⟩
            · rw [hm]
              rcases (ih a).2.2 with h | ⟨i, h1, h2⟩
              · exact .inl h
              · exact .inr ⟨i, by rw [e2, h1]; simp, h2⟩
        · rw [if_neg hb]
          refine ⟨(ih n).1, fun i h => ?_, ?_⟩
          · rw [e2, decide_eq_false hb] at h
            exact (ih n).2.1 i (by simpa using h)
          · rcases (ih n).2.2 with h | ⟨i, h1, h2⟩
            · exact .inl h
            · exact .inr ⟨i, by rw [e2, h1]; rfl, h2⟩
      | saw a v =>
        have hv : 0 ≤ v := (ok _ (List.mem_of_getElem? e)).2
        have e1 : tok ts (k + 1) n = if n = a then mx (tok ts k a) v else tok ts k n := by simp [tok, e]
        have e2 : ∀ i, knB ts (k + 1) n i = (knB ts k n i || (decide (n = a) && decide (i = k))) := fun i => by simp [knB, e]
        have ev : valT ts k = v := by simp [valT, e]
        rw [e1]
        by_cases hb : n = a
        · subst hb
          rw [if_pos rfl]
          refine ⟨le_mx.mpr (.inl (ih n).1), fun i h => ?_, ?_⟩
          · rw [e2] at h
            rcases Bool.or_eq_true_iff.mp h with h | h
            · exact le_mx.mpr (.inl ((ih n).2.1 i h))
            · have hi := of_decide_eq_true (Bool.and_eq_true_iff.mp h).2
              subst hi
              exact le_mx.mpr (.inr (by rw [ev]; exact Int.le_refl _))
          · rcases mx_or (tok ts k n) v with hm | hm
            · rw [hm]
              rcases (ih n).2.2 with h | ⟨i, h1, h2⟩
              · exact .inl h
              · exact .inr ⟨i, by rw [e2, h1]; rfl, h2⟩
            · rw [hm]
              exact .inr ⟨k, by rw [e2]; simp, ev⟩
        · rw [if_neg hb]
          refine ⟨(ih n).1, fun i h => ?_, ?_⟩
          · rw [e2, decide_eq_false hb] at h
            exact (ih n).2.1 i (by simpa using h)
          · rcases (ih n).2.2 with h | ⟨i, h1, h2⟩
            · exact .inl h
            · exact .inr ⟨i, by rw [e2, h1]; rfl, h2⟩
/-- who is told of in the talks -/
theorem tok_four {ts : List Talk} (ok : ∀ t ∈ ts, okT t) {k : Nat} {n : Str} (h : n ∉ four) : tok ts k n = 0 := by
  induction k with
  | zero => rfl
  | succ k ih =>
    cases e : ts[k]? with
    | none => simp [tok, e, ih]
    | some t =>
      have o := ok _ (List.mem_of_getElem? e)
      cases t with
      | talk a b =>
        have : ¬ n = b := fun z => h (by rw [z]; exact o.2)
        simp [tok, e, this, ih]
      | saw a v =>
        have : ¬ n = a := fun z => h (by rw [z]; exact o.1)
        simp [tok, e, this, ih]
/-! ### .. and backwards: the names that lead to c -/
structure BackI (ts : List Talk) (place : Nat) (c : Str) (j : Nat) (B : Str → Prop) : Prop where
  eq : ∀ i, i < j → (knB ts place c i = true ↔ ∃ n, B n ∧ knB ts j n i = true)
theorem BackI.start {ts : List Talk} {place : Nat} {c : Str} : BackI ts place c place (fun n => n = c) :=
  ⟨fun i _ => ⟨fun h => ⟨c, rfl, h⟩, fun ⟨n, e, h⟩ => by rw [← e]; exact h⟩⟩
theorem BackI.talk {ts : List Talk} {place j : Nat} {c a b : Str} {B : Str → Prop} (I : BackI ts place c (j + 1) B) (e : ts[j]? = some (.talk a b)) :
    BackI ts place c j (fun n => B n ∨ (B b ∧ n = a)) ∧ knB ts place c j = false := by
  have e2 : ∀ n i, knB ts (j + 1) n i = (knB ts j n i || (decide (n = b) && knB ts j a i)) := fun n i => by simp [knB, e]
  refine ⟨⟨fun i hi => ?_⟩, ?_⟩
  · rw [I.eq i (by omega)]
    constructor
    · rintro ⟨n, hn, h⟩
      rw [e2] at h
      rcases Bool.or_eq_true_iff.mp h with h | h
      · exact ⟨n, .inl hn, h⟩
      · obtain ⟨h1, h2⟩ := Bool.and_eq_true_iff.mp h
        have h1 := of_decide_eq_true h1
        subst h1
        exact ⟨a, .inr ⟨hn, rfl⟩, h2⟩
    · rintro ⟨n, hn, h⟩
      rcases hn with hn | ⟨hb, rfl⟩
      · exact ⟨n, hn, by rw [e2, h]; rfl⟩
      · exact ⟨b, hb, by rw [e2, h]; simp⟩
  · cases h : knB ts place c j with
    | false => rfl
    | true =>
      obtain ⟨n, hn, h⟩ := (I.eq j (by omega)).mp h
      rw [e2, knB_self, knB_self] at h
      simp at h
theorem BackI.saw {ts : List Talk} {place j : Nat} {c a : Str} {v : Int} {B : Str → Prop} (I : BackI ts place c (j + 1) B) (e : ts[j]? = some (.saw a v)) :
    BackI ts place c j B ∧ (knB ts place c j = true ↔ B a) := by
  have e2 : ∀ n i, knB ts (j + 1) n i = (knB ts j n i || (decide (n = a) && decide (i = j))) := fun n i => by simp [knB, e]
  refine ⟨⟨fun i hi => ?_⟩, ?_⟩
  · rw [I.eq i (by omega)]
    have : decide (i = j) = false := decide_eq_false (by omega)
    constructor
    · rintro ⟨n, hn, h⟩
      rw [e2, this] at h
      exact ⟨n, hn, by simpa using h⟩
    · rintro ⟨n, hn, h⟩
      exact ⟨n, hn, by rw [e2, h]; rfl⟩
  · rw [I.eq j (by omega)]
    constructor
    · rintro ⟨n, hn, h⟩
      rw [e2, knB_self] at h
      have h1 : n = a := by simpa using h
      rw [← h1]; exact hn
    · intro h
      exact ⟨a, h, by rw [e2]; simp⟩
theorem filter_step {K : Nat → Bool} {j : Nat} : ∀ {p : Nat}, j < p → (List.range p).filter (fun i => decide (j ≤ i) && K i) = (if K j = true then [j] else []) ++ (List.range p).filter (fun i => decide (j + 1 ≤ i) && K i)
  | 0, h => absurd h (Nat.not_lt_zero _)
  | p + 1, h => by
    rw [List.range_succ, List.filter_append, List.filter_append]
    by_cases hp : j = p
    · subst hp
      have e1 : (List.range j).filter (fun i => decide (j ≤ i) && K i) = [] := List.filter_eq_nil_iff.mpr fun i hi => by
        have := List.mem_range.mp hi
        simp; intro; omega
      have e2 : (List.range j).filter (fun i => decide (j + 1 ≤ i) && K i) = [] := List.filter_eq_nil_iff.mpr fun i hi => by
        have := List.mem_range.mp hi
        simp; intro; omega
      rw [e1, e2]
      cases hk : K j <;> simp [hk]
    · have a1 : decide (j ≤ p) = true := decide_eq_true (by omega)
      have a2 : decide (j + 1 ≤ p) = true := decide_eq_true (by omega)
      have e : [p].filter (fun i => decide (j ≤ i) && K i) = [p].filter (fun i => decide (j + 1 ≤ i) && K i) := by
        rw [List.filter_cons, List.filter_cons, a1, a2]
        rfl
      rw [filter_step (p := p) (by omega), List.append_assoc, e]
theorem filter_full {K : Nat → Bool} (p : Nat) : (List.range p).filter (fun i => decide (0 ≤ i) && K i) = (List.range p).filter K := List.filter_congr fun i _ => by
  rw [decide_eq_true (Nat.zero_le i)]; rfl
theorem filter_none {K : Nat → Bool} (p : Nat) : (List.range p).filter (fun i => decide (p ≤ i) && K i) = [] := List.filter_eq_nil_iff.mpr fun i hi => by
  have := List.mem_range.mp hi
  rw [decide_eq_false (by omega)]
  simp
/-- two strictly rising rows with the same members are one -/
theorem rising_unique : ∀ {xs ys : List Int}, xs.Pairwise (· < ·) → ys.Pairwise (· < ·) → (∀ k, k ∈ xs ↔ k ∈ ys) → xs = ys := fun {xs ys} h1 h2 h => by
  have n1 : xs.Nodup := List.nodup_iff_pairwise_ne.mpr (h1.imp fun h => by omega)
  have n2 : ys.Nodup := List.nodup_iff_pairwise_ne.mpr (h2.imp fun h => by omega)
  exact List.Perm.eq_of_pairwise (le := (· < ·)) (fun a b _ _ h h' => by omega) h1 h2 ((List.perm_ext_iff_of_nodup n1 n2).mpr h)
end K47

set_option Elab.async false
set_option linter.all false
set_option maxRecDepth 100000
set_option maxHeartbeats 4000000
namespace K47
open PySem PySem.Spec PyProof.Rows L2 Dl
/-- nothing that stood is touched -/
def Kept (M M' : Mem) : Prop := ∀ b n, M b = some n → M' b = some n
theorem Kept.refl {M : Mem} : Kept M M := fun _ _ h => h
theorem Kept.trans {M M1 M2 : Mem} (a : Kept M M1) (b : Kept M1 M2) : Kept M M2 := fun x n h => b x n (a x n h)
theorem Kept.new {M : Mem} {a : Addr} {n : N} (h : M a = none) : Kept M (updM M a n) := fun b m hb => by
  rw [updM_ne (fun z => by rw [z, h] at hb; cases hb)]; exact hb
theorem Kept.upd {M M1 : Mem} {a : Addr} {n : N} (k : Kept M M1) (h : M a = none) : Kept M (updM M1 a n) := fun b m hb => by
  rw [updM_ne (fun z => by rw [z, h] at hb; cases hb)]; exact k b m hb
/-- the tokens at a, behind the first k talks -/
structure TokK (Z : Ad) (ts : List Talk) (k : Nat) (M : Mem) (a d : Addr) : Prop where
  ex : ∃ ns, TokAt Z M a d ns ∧ (∀ x, look ns x = tok ts k x) ∧ (∀ x ∈ ns.map (·.1), x ∈ four) ∧ ns.length ≤ k
theorem atTalk {ts : List Talk} {k : Nat} {d : D} (h : (ts.map talkD)[k]? = some d) : ∃ t, ts[k]? = some t ∧ d = talkD t := by
  rw [List.getElem?_map] at h
  cases e : ts[k]? with
  | none => rw [e] at h; cases h
  | some t => rw [e] at h; exact ⟨t, rfl, (Option.some.inj h).symm⟩
def sp_tokens_behind (Z : Ad) : DSp := fun ds M Q _ => ∃ ts : List Talk, ds = [.tup (ts.map talkD)] ∧ ts.length ≤ 100 ∧ (∀ t ∈ ts, okT t) ∧ ∀ (a d : Addr) (M' : Mem), M a = none → M d = none → TokK Z ts ts.length M' a d → Kept M M' → Q (.adr a) M'
noncomputable def w_tokens_behind (Z : Ad) : WS := wSeq (wAsg (wMake Z.c_Tokens (sp_Tokens___init Z) wNil) (wgName 1)) (wSeq (wFor (wIterT (wVar 0)) (wgName 2) (wIfS (wTest (wOp fEq (wOp fIx (wVar 2) (wC (.int 0))) (wC (.str (PySem.Str.ofString "saw"))))) (wDrop (wMeth Z.c_Tokens (PySem.Str.ofString "see") (sp_Tokens_see Z) (wVar 1) (wCons (wOp fIx (wVar 2) (wC (.int 1))) (wCons (wOp fIx (wVar 2) (wC (.int 2))) (wNil))))) (wDrop (wMeth Z.c_Tokens (PySem.Str.ofString "talk") (sp_Tokens_talk Z) (wVar 1) (wCons (wOp fIx (wVar 2) (wC (.int 1))) (wCons (wOp fIx (wVar 2) (wC (.int 2))) (wNil))))))) (wRet (wVar 1)))
theorem tok_made {Z : Ad} {ts : List Talk} {M : Mem} {a d : Addr} (ha : M a = none) (hd : (updM M a (.ins Z.c_Tokens [])) d = none) :
    TokK Z ts 0 (updM (updM (updM M a (.ins Z.c_Tokens [])) d (.dct [])) a (.ins Z.c_Tokens [("_seen", .adr d)])) a d ∧ Kept M (updM (updM (updM M a (.ins Z.c_Tokens [])) d (.dct [])) a (.ins Z.c_Tokens [("_seen", .adr d)])) ∧ M d = none := by
  have hne : d ≠ a := fun z => by rw [z, updM_same] at hd; cases hd
  have hd' : M d = none := by rw [updM_ne hne] at hd; exact hd
  refine ⟨⟨[], ⟨updM_same, by rw [updM_ne hne, updM_same]; rfl, List.nodup_nil⟩, fun x => rfl, fun x hx => (nomatch hx), Nat.le_refl _⟩, ((Kept.new ha).upd hd').upd ha, hd'⟩
theorem TokK.see {Z : Ad} {ts : List Talk} {k : Nat} {M : Mem} {a d : Addr} {x : Str} {v : Int} (T : TokK Z ts k M a d) (hk : k ≤ 900) (e : ts[k]? = some (.saw x v)) (hx : x ∈ four) {R : D → Mem → Prop} (h : ∀ M', TokK Z ts (k + 1) M' a d → (∀ b, b ≠ d → M' b = M b) → R .non M') (E : XEx) :
    sp_Tokens_see Z [.adr a, .str x, .int v] M R E := by
  obtain ⟨ns, T, hl, hf, hn⟩ := T.ex
  refine ⟨a, d, ns, x, v, rfl, T, by omega, h _ ⟨_, T.put (nodup_put T.nd), fun y => ?_, fun y hy => ?_, Nat.le_trans len_put (by omega)⟩ fun b hb => updM_ne hb⟩
  · rw [look_put]
    simp only [tok, e, hl]
    rfl
  · rcases mem_put hy with rfl | hy
    · exact hx
    · exact hf y hy
theorem TokK.talk {Z : Ad} {ts : List Talk} {k : Nat} {M : Mem} {a d : Addr} {x y : Str} (T : TokK Z ts k M a d) (hk : k ≤ 900) (e : ts[k]? = some (.talk x y)) (hx : y ∈ four) {R : D → Mem → Prop} (h : ∀ M', TokK Z ts (k + 1) M' a d → (∀ b, b ≠ d → M' b = M b) → R .non M') (E : XEx) :
    sp_Tokens_talk Z [.adr a, .str x, .str y] M R E := by
  obtain ⟨ns, T, hl, hf, hn⟩ := T.ex
  refine ⟨a, d, ns, x, y, rfl, T, by omega, h _ ⟨_, T.put (nodup_put T.nd), fun z => ?_, fun z hz => ?_, Nat.le_trans len_put (by omega)⟩ fun b hb => updM_ne hb⟩
  · rw [look_put]
    simp only [tok, e, hl]
    rfl
  · rcases mem_put hz with rfl | hz
    · exact hx
    · exact hf z hz
theorem Kept.off {M M1 M2 : Mem} {d : Addr} (k : Kept M M1) (h : M d = none) (o : ∀ b, b ≠ d → M2 b = M1 b) : Kept M M2 := fun b m hb => by
  rw [o b (fun z => by rw [z, h] at hb; cases hb)]; exact k b m hb
theorem rd_tokens_behind (Z : Ad) (z : ZOk Z) : ∀ (ds : List D) (M : Mem) (Q : D → Mem → Prop) (Ex : XEx), sp_tokens_behind Z ds M Q Ex → w_tokens_behind Z { nx := fun _ M' => Q .non M', rt := Q, ex := fun C d _ M' => Ex C d M' } (ds.map some ++ List.replicate (3 - ds.length) none) M := by
  intro ds M Q Ex h
  obtain ⟨ts, rfl, hl, hok, post⟩ := h
  unfold w_tokens_behind
  refine wSeq_step (fun ρ M' => ∃ a d, ρ = [some (.tup (ts.map talkD)), some (.adr a), none] ∧ M a = none ∧ M d = none ∧ TokK Z ts 0 M' a d ∧ Kept M M') (fun k hk => ?_) ?_
  · simp only [wSeq, wIfS, wTest, wOp, wVar, wC, wRet, wRetN, wAsg, wgName, wgTup, wgCons, wgNil, wDrop, wCall, wCons, wNil, wTup, wLst, wLstM, wCB, wCR, wIf, wAnd, wOr, wNot, wAndV, wOrV, wNotV, wChain, wUn, wFld, wMeth, wDGet, wDGet2, wDIn, wDPut, wBM, wNext, wPar, wAug, wIterT, wIterL, wRange1, wRange2, wRange3, wMake, wFldS, wNewDict, wDict1, wSl, wNoPart, wPart, wRevL, wRevM, wTupRev, wPos, wRaise, wTry, wAt, wIsX, wEnumT, wLc, wLcM, wFor, wWhile, wBreak, wCont, wYes, exOf, wLPut]
    intro a ha
    refine ⟨a, rfl, updM_same, fun d hd => ⟨rfl, ?_⟩⟩
    obtain ⟨t, kp, hd'⟩ := tok_made (ts := ts) ha hd
    exact hk _ _ ⟨a, d, rfl, ha, hd', t, kp⟩
  · rintro ρ M1 ⟨a, d, rfl, ha, hd, T, kp⟩
    refine wSeq_step (fun ρ M' => ∃ x, ρ = [some (.tup (ts.map talkD)), some (.adr a), x] ∧ TokK Z ts ts.length M' a d ∧ Kept M M') (fun k hk => ?_) ?_
    · unfold wFor wIterT
      simp only [wSeq, wIfS, wTest, wOp, wVar, wC, wRet, wRetN, wAsg, wgName, wgTup, wgCons, wgNil, wDrop, wCall, wCons, wNil, wTup, wLst, wLstM, wCB, wCR, wIf, wAnd, wOr, wNot, wAndV, wOrV, wNotV, wChain, wUn, wFld, wMeth, wDGet, wDGet2, wDIn, wDPut, wBM, wNext, wPar, wAug, wIterT, wIterL, wRange1, wRange2, wRange3, wMake, wFldS, wNewDict, wDict1, wSl, wNoPart, wPart, wRevL, wRevM, wTupRev, wPos, wRaise, wTry, wAt, wIsX, wEnumT, wLc, wLcM, wFor, wWhile, wBreak, wCont, wYes, exOf, wLPut]
      refine ⟨_, rfl, _, rfl, ?_⟩
      refine forD_inv _ (fun k ρ M' => ∃ x, ρ = [some (.tup (ts.map talkD)), some (.adr a), x] ∧ TokK Z ts k M' a d ∧ Kept M M') ?_ (fun ρ M' h => hk _ _ (by rw [List.length_map] at h; exact h)) ⟨none, rfl, T, kp⟩
      rintro k dd rest ρ M2 hdr hd2 ⟨x, rfl, T2, kp2⟩ next
      obtain ⟨t, et, rfl⟩ := atTalk hd2
      have hlt : k < ts.length := (List.getElem?_eq_some_iff.mp et).1
      have ot := hok t (List.mem_of_getElem? et)
      obtain ⟨ns, TA, _⟩ := T2.ex
      simp only [wSeq, wIfS, wTest, wOp, wVar, wC, wRet, wRetN, wAsg, wgName, wgTup, wgCons, wgNil, wDrop, wCall, wCons, wNil, wTup, wLst, wLstM, wCB, wCR, wIf, wAnd, wOr, wNot, wAndV, wOrV, wNotV, wChain, wUn, wFld, wMeth, wDGet, wDGet2, wDIn, wDPut, wBM, wNext, wPar, wAug, wIterT, wIterL, wRange1, wRange2, wRange3, wMake, wFldS, wNewDict, wDict1, wSl, wNoPart, wPart, wRevL, wRevM, wTupRev, wPos, wRaise, wTry, wAt, wIsX, wEnumT, wLc, wLcM, wFor, wWhile, wBreak, wCont, wYes, exOf, wLPut]
      cases t with
      | saw n v =>
        refine ⟨talkD (.saw n v), rfl, _, ix_tup rfl, .bl true, by simp [fEq, eqS], _, rfl, ifT rfl ?_⟩
        refine ⟨.adr a, rfl, a, _, rfl, TA.ins, by rfl, talkD (.saw n v), rfl, _, ix_tup rfl, talkD (.saw n v), rfl, _, ix_tup rfl, ?_⟩
        refine T2.see (by omega) et ot.1 (fun M' T3 o => ?_) _
        exact next _ _ ⟨_, rfl, T3, kp2.off hd o⟩
      | talk n m =>
        refine ⟨talkD (.talk n m), rfl, _, ix_tup rfl, .bl false, by simp [fEq, eqS, talkD]; decide, _, rfl, ifF rfl ?_⟩
        refine ⟨.adr a, rfl, a, _, rfl, TA.ins, by rfl, talkD (.talk n m), rfl, _, ix_tup rfl, talkD (.talk n m), rfl, _, ix_tup rfl, ?_⟩
        refine T2.talk (by omega) et ot.2 (fun M' T3 o => ?_) _
        exact next _ _ ⟨_, rfl, T3, kp2.off hd o⟩
    · rintro ρ M2 ⟨x, rfl, T2, kp2⟩
      simp only [wSeq, wIfS, wTest, wOp, wVar, wC, wRet, wRetN, wAsg, wgName, wgTup, wgCons, wgNil, wDrop, wCall, wCons, wNil, wTup, wLst, wLstM, wCB, wCR, wIf, wAnd, wOr, wNot, wAndV, wOrV, wNotV, wChain, wUn, wFld, wMeth, wDGet, wDGet2, wDIn, wDPut, wBM, wNext, wPar, wAug, wIterT, wIterL, wRange1, wRange2, wRange3, wMake, wFldS, wNewDict, wDict1, wSl, wNoPart, wPart, wRevL, wRevM, wTupRev, wPos, wRaise, wTry, wAt, wIsX, wEnumT, wLc, wLcM, wFor, wWhile, wBreak, wCont, wYes, exOf, wLPut]
      exact ⟨.adr a, rfl, post a d M2 ha hd T2 kp2⟩
end K47

set_option Elab.async false
set_option linter.all false
set_option maxRecDepth 100000
set_option maxHeartbeats 4000000
namespace K47
open PySem PySem.Spec PyProof.Rows L2 Dl
/-- a client goes back at k -/
def hitB (ts : List Talk) (k : Nat) : Prop := ∃ a v, ts[k]? = some (.saw a v) ∧ v < tok ts k a
def IsBack (ts : List Talk) : Option Nat → Prop
  | none => ∀ j, j < ts.length → ¬ hitB ts j
  | some k => k < ts.length ∧ hitB ts k ∧ ∀ j, j < k → ¬ hitB ts j
def optD : Option Nat → D
  | none => .non
  | some k => .int (k : Int)
def sp_back_in (Z : Ad) : DSp := fun ds M Q _ => ∃ ts : List Talk, ds = [.tup (ts.map talkD)] ∧ ts.length ≤ 100 ∧ (∀ t ∈ ts, okT t) ∧ ∀ (r : Option Nat) (M' : Mem), IsBack ts r → Kept M M' → Q (optD r) M'
noncomputable def w_back_in (Z : Ad) : WS := wSeq (wAsg (wMake Z.c_Tokens (sp_Tokens___init Z) wNil) (wgName 1)) (wSeq (wFor (wEnumT (wCons (wVar 0) (wNil))) (wgTup 2 (wgCons (wgName 2) (wgCons (wgName 3) (wgNil)))) (wIfS (wTest (wOp fEq (wOp fIx (wVar 3) (wC (.int 0))) (wC (.str (PySem.Str.ofString "talk"))))) (wDrop (wMeth Z.c_Tokens (PySem.Str.ofString "talk") (sp_Tokens_talk Z) (wVar 1) (wCons (wOp fIx (wVar 3) (wC (.int 1))) (wCons (wOp fIx (wVar 3) (wC (.int 2))) (wNil))))) (wIfS (wTest (wOp fLt (wOp fIx (wVar 3) (wC (.int 2))) (wMeth Z.c_Tokens (PySem.Str.ofString "of") (sp_Tokens_of Z) (wVar 1) (wCons (wOp fIx (wVar 3) (wC (.int 1))) (wNil))))) (wRet (wVar 2)) (wDrop (wMeth Z.c_Tokens (PySem.Str.ofString "see") (sp_Tokens_see Z) (wVar 1) (wCons (wOp fIx (wVar 3) (wC (.int 1))) (wCons (wOp fIx (wVar 3) (wC (.int 2))) (wNil)))))))) (wRet (wC .non)))
theorem rd_back_in (Z : Ad) (z : ZOk Z) : ∀ (ds : List D) (M : Mem) (Q : D → Mem → Prop) (Ex : XEx), sp_back_in Z ds M Q Ex → w_back_in Z { nx := fun _ M' => Q .non M', rt := Q, ex := fun C d _ M' => Ex C d M' } (ds.map some ++ List.replicate (4 - ds.length) none) M := by
  intro ds M Q Ex h
  obtain ⟨ts, rfl, hl, hok, post⟩ := h
  unfold w_back_in
  refine wSeq_step (fun ρ M' => ∃ a d, ρ = [some (.tup (ts.map talkD)), some (.adr a), none, none] ∧ M a = none ∧ M d = none ∧ TokK Z ts 0 M' a d ∧ Kept M M') (fun k hk => ?_) ?_
  · simp only [wSeq, wIfS, wTest, wOp, wVar, wC, wRet, wRetN, wAsg, wgName, wgTup, wgCons, wgNil, wDrop, wCall, wCons, wNil, wTup, wLst, wLstM, wCB, wCR, wIf, wAnd, wOr, wNot, wAndV, wOrV, wNotV, wChain, wUn, wFld, wMeth, wDGet, wDGet2, wDIn, wDPut, wBM, wNext, wPar, wAug, wIterT, wIterL, wRange1, wRange2, wRange3, wMake, wFldS, wNewDict, wDict1, wSl, wNoPart, wPart, wRevL, wRevM, wTupRev, wPos, wRaise, wTry, wAt, wIsX, wEnumT, wLc, wLcM, wFor, wWhile, wBreak, wCont, wYes, exOf, wLPut]
    intro a ha
    refine ⟨a, rfl, updM_same, fun d hd => ⟨rfl, ?_⟩⟩
    obtain ⟨t, kp, hd'⟩ := tok_made (ts := ts) ha hd
    exact hk _ _ ⟨a, d, rfl, ha, hd', t, kp⟩
  · rintro ρ M1 ⟨a, d, rfl, ha, hd, T, kp⟩
    refine wSeq_step (fun ρ M' => (∃ x y, ρ = [some (.tup (ts.map talkD)), some (.adr a), x, y]) ∧ (∀ j, j < ts.length → ¬ hitB ts j) ∧ Kept M M') (fun k hk => ?_) ?_
    · unfold wFor wEnumT
      simp only [wSeq, wIfS, wTest, wOp, wVar, wC, wRet, wRetN, wAsg, wgName, wgTup, wgCons, wgNil, wDrop, wCall, wCons, wNil, wTup, wLst, wLstM, wCB, wCR, wIf, wAnd, wOr, wNot, wAndV, wOrV, wNotV, wChain, wUn, wFld, wMeth, wDGet, wDGet2, wDIn, wDPut, wBM, wNext, wPar, wAug, wIterT, wIterL, wRange1, wRange2, wRange3, wMake, wFldS, wNewDict, wDict1, wSl, wNoPart, wPart, wRevL, wRevM, wTupRev, wPos, wRaise, wTry, wAt, wIsX, wEnumT, wLc, wLcM, wFor, wWhile, wBreak, wCont, wYes, exOf, wLPut]
      refine ⟨_, rfl, _, rfl, ?_⟩
      refine forD_inv _ (fun k ρ M' => (∃ x y, ρ = [some (.tup (ts.map talkD)), some (.adr a), x, y]) ∧ (∀ j, j < k → ¬ hitB ts j) ∧ TokK Z ts k M' a d ∧ Kept M M') ?_ (fun ρ M' h => hk _ _ ⟨h.1, fun j hj => h.2.1 j (by rw [enumFrom_length, List.length_map]; exact hj), h.2.2.2⟩) ⟨⟨none, none, rfl⟩, fun j hj => absurd hj (Nat.not_lt_zero _), T, kp⟩
      rintro k dd rest ρ M2 hdr hd2 ⟨⟨x, y, rfl⟩, hno, T2, kp2⟩ next
      obtain ⟨d3, hd3, rfl⟩ := enumFrom_get 0 _ k dd hd2
      obtain ⟨t, et, rfl⟩ := atTalk hd3
      have hlt : k < ts.length := (List.getElem?_eq_some_iff.mp et).1
      have ot := hok t (List.mem_of_getElem? et)
      obtain ⟨ns, TA, hlk, _⟩ := T2.ex
      have grow : ∀ {P : Prop}, ¬ hitB ts k → ((∀ j, j < k + 1 → ¬ hitB ts j) → P) → P := fun hk h => h fun j hj => by
        by_cases e : j = k
        · rw [e]; exact hk
        · exact hno j (by omega)
      simp only [wSeq, wIfS, wTest, wOp, wVar, wC, wRet, wRetN, wAsg, wgName, wgTup, wgCons, wgNil, wDrop, wCall, wCons, wNil, wTup, wLst, wLstM, wCB, wCR, wIf, wAnd, wOr, wNot, wAndV, wOrV, wNotV, wChain, wUn, wFld, wMeth, wDGet, wDGet2, wDIn, wDPut, wBM, wNext, wPar, wAug, wIterT, wIterL, wRange1, wRange2, wRange3, wMake, wFldS, wNewDict, wDict1, wSl, wNoPart, wPart, wRevL, wRevM, wTupRev, wPos, wRaise, wTry, wAt, wIsX, wEnumT, wLc, wLcM, wFor, wWhile, wBreak, wCont, wYes, exOf, wLPut]
      refine ⟨_, rfl, rfl, _, _, rfl, _, _, rfl, rfl, ?_⟩
      cases t with
      | talk n m =>
        refine ⟨talkD (.talk n m), rfl, _, ix_tup rfl, .bl true, by simp [fEq, eqS], _, rfl, ifT rfl ?_⟩
        refine ⟨.adr a, rfl, a, _, rfl, TA.ins, by rfl, talkD (.talk n m), rfl, _, ix_tup rfl, talkD (.talk n m), rfl, _, ix_tup rfl, ?_⟩
        refine T2.talk (by omega) et ot.2 (fun M' T3 o => ?_) _
        have hno' : ¬ hitB ts k := fun ⟨a', v', e', _⟩ => by rw [et] at e'; cases e'
        exact grow hno' fun g => next _ _ ⟨⟨_, _, rfl⟩, g, T3, kp2.off hd o⟩
      | saw n v =>
        refine ⟨talkD (.saw n v), rfl, _, ix_tup rfl, .bl false, by simp [fEq, eqS, talkD]; decide, _, rfl, ifF rfl ?_⟩
        refine ⟨talkD (.saw n v), rfl, _, ix_tup rfl, .adr a, rfl, a, _, rfl, TA.ins, by rfl, talkD (.saw n v), rfl, _, ix_tup rfl, a, d, ns, n, rfl, TA, .bl (decide (v < look ns n)), rfl, _, rfl, ?_⟩
        by_cases hb : v < look ns n
        · refine ifT (decide_eq_true hb) ⟨.int ((0 + k : Nat) : Int), rfl, ?_⟩
          rw [Nat.zero_add]
          exact post (some k) M2 ⟨hlt, ⟨n, v, et, by rw [← hlk]; exact hb⟩, hno⟩ kp2
        · refine ifF (decide_eq_false hb) ?_
          refine ⟨.adr a, rfl, a, _, rfl, TA.ins, by rfl, talkD (.saw n v), rfl, _, ix_tup rfl, talkD (.saw n v), rfl, _, ix_tup rfl, ?_⟩
          refine T2.see (by omega) et ot.1 (fun M' T3 o => ?_) _
          have hno' : ¬ hitB ts k := fun ⟨a', v', e', h'⟩ => by
            rw [et] at e'
            cases e'
            rw [hlk] at hb
            exact hb h'
          exact grow hno' fun g => next _ _ ⟨⟨_, _, rfl⟩, g, T3, kp2.off hd o⟩
    · rintro ρ M2 ⟨⟨x, y, rfl⟩, hno, kp2⟩
      simp only [wSeq, wIfS, wTest, wOp, wVar, wC, wRet, wRetN, wAsg, wgName, wgTup, wgCons, wgNil, wDrop, wCall, wCons, wNil, wTup, wLst, wLstM, wCB, wCR, wIf, wAnd, wOr, wNot, wAndV, wOrV, wNotV, wChain, wUn, wFld, wMeth, wDGet, wDGet2, wDIn, wDPut, wBM, wNext, wPar, wAug, wIterT, wIterL, wRange1, wRange2, wRange3, wMake, wFldS, wNewDict, wDict1, wSl, wNoPart, wPart, wRevL, wRevM, wTupRev, wPos, wRaise, wTry, wAt, wIsX, wEnumT, wLc, wLcM, wFor, wWhile, wBreak, wCont, wYes, exOf, wLPut]
      exact post none M2 hno kp2
/-! ### known_by -/
def natD (i : Nat) : D := .int (i : Int)
def sp_known_by (Z : Ad) : DSp := fun ds M Q _ => ∃ (ts : List Talk) (place : Nat) (c : Str) (v : Int), ds = [.tup (ts.map talkD), .int (place : Int)] ∧ ts.length ≤ 100 ∧ ts[place]? = some (.saw c v) ∧ ∀ M' : Mem, Kept M M' → Q (.tup ((knL ts place c).map natD)) M'
noncomputable def w_known_by (Z : Ad) : WS := wSeq (wAsg (wDict1 (wOp fIx (wOp fIx (wVar 0) (wVar 1)) (wC (.int 1))) (wC (.int 1))) (wgName 2)) (wSeq (wAsg (wLstM (wNil)) (wgName 3)) (wSeq (wFor (wRange3 (wCons (wOp fSub (wVar 1) (wC (.int 1))) (wCons (wUn fNeg (wC (.int 1))) (wCons (wUn fNeg (wC (.int 1))) (wNil))))) (wgName 4) (wSeq (wAsg (wOp fIx (wVar 0) (wVar 4)) (wgName 5)) (wIfS (wTest (wOp fEq (wOp fIx (wVar 5) (wC (.int 0))) (wC (.str (PySem.Str.ofString "talk"))))) (wIfS (wTest (wDIn false (wOp fIx (wVar 5) (wC (.int 2))) (wVar 2))) (wDPut (wVar 2) (wOp fIx (wVar 5) (wC (.int 1))) (wC (.int 1))) (wNext)) (wIfS (wTest (wDIn false (wOp fIx (wVar 5) (wC (.int 1))) (wVar 2))) (wDrop (wBM "list" gAppend (wVar 3) (wCons (wVar 4) (wNil)))) (wNext))))) (wRet (wTupRev (wVar 3)))))
theorem isSome_kv (ns : List (Str × Int)) (x : Str) : (valD (kvD ns) (Sum.inr x)).isSome = decide (x ∈ ns.map (·.1)) := by
  rw [valD_kvD, Option.isSome_map]
  induction ns with
  | nil => rfl
  | cons q r ih =>
    rw [List.find?_cons]
    by_cases h : q.1 = x
    · rw [decide_eq_true h]
      simp [h]
    · rw [decide_eq_false h]
      have h' : ¬ x = q.1 := fun e => h e.symm
      simp only [ih, List.map_cons, List.mem_cons, h', false_or]
theorem mem_putN {x : Str} {v : Int} {z : Str} : ∀ {ns : List (Str × Int)}, z ∈ (putN ns x v).map (·.1) ↔ z = x ∨ z ∈ ns.map (·.1)
  | [] => by simp [putN]
  | q :: r => by
    have ih := mem_putN (x := x) (v := v) (z := z) (ns := r)
    unfold putN
    by_cases c : q.1 = x
    · rw [if_pos c, List.map_cons, List.map_cons, List.mem_cons, List.mem_cons, ← c]
      constructor
      · rintro (h | h)
        · exact .inl h
        · exact .inr (.inr h)
      · rintro (h | h | h)
        · exact .inl h
        · exact .inl h
        · exact .inr h
    · rw [if_neg c, List.map_cons, List.map_cons, List.mem_cons, List.mem_cons, ih]
      constructor
      · rintro (h | h | h)
        · exact .inr (.inl h)
        · exact .inl h
        · exact .inr (.inr h)
      · rintro (h | h | h)
        · exact .inr (.inl h)
        · exact .inl h
        · exact .inr (.inr h)
/-- behind the steps down to j -/
def knownI (M : Mem) (ts : List Talk) (place : Nat) (c : Str) (nd kn : Addr) (t : Nat) (ρ : Rho) (M3 : Mem) : Prop :=
  ∃ (x4 x5 : Option D) (ns : List (Str × Int)), ρ = [some (.tup (ts.map talkD)), some (.int (place : Int)), some (.adr nd), some (.adr kn), x4, x5] ∧ M3 nd = some (.dct (kvD ns)) ∧ ns.length ≤ t + 1 ∧ t ≤ place ∧
    M3 kn = some (.lst (((List.range place).filter fun i => decide (place - t ≤ i) && knB ts place c i).reverse.map natD)) ∧ BackI ts place c (place - t) (fun n => n ∈ ns.map (·.1)) ∧ Kept M M3
theorem rd_known_by (Z : Ad) (z : ZOk Z) : ∀ (ds : List D) (M : Mem) (Q : D → Mem → Prop) (Ex : XEx), sp_known_by Z ds M Q Ex → w_known_by Z { nx := fun _ M' => Q .non M', rt := Q, ex := fun C d _ M' => Ex C d M' } (ds.map some ++ List.replicate (6 - ds.length) none) M := by
  intro ds M Q Ex h
  obtain ⟨ts, place, c, v, rfl, hl, ep, post⟩ := h
  have hpl : place < ts.length := (List.getElem?_eq_some_iff.mp ep).1
  have hat : ∀ {i : Nat} {t : Talk}, ts[i]? = some t → atI (ts.map talkD) (i : Int) = some (talkD t) := fun {i t} h => atI_at (by rw [List.getElem?_map, h]; rfl)
  unfold w_known_by
  refine wSeq_step (fun ρ M' => ∃ nd, ρ = [some (.tup (ts.map talkD)), some (.int (place : Int)), some (.adr nd), none, none, none] ∧ M nd = none ∧ M' nd = some (.dct (kvD [(c, 1)])) ∧ Kept M M') (fun k hk => ?_) ?_
  · simp only [wSeq, wIfS, wTest, wOp, wVar, wC, wRet, wRetN, wAsg, wgName, wgTup, wgCons, wgNil, wDrop, wCall, wCons, wNil, wTup, wLst, wLstM, wCB, wCR, wIf, wAnd, wOr, wNot, wAndV, wOrV, wNotV, wChain, wUn, wFld, wMeth, wDGet, wDGet2, wDIn, wDPut, wBM, wNext, wPar, wAug, wIterT, wIterL, wRange1, wRange2, wRange3, wMake, wFldS, wNewDict, wDict1, wSl, wNoPart, wPart, wRevL, wRevM, wTupRev, wPos, wRaise, wTry, wAt, wIsX, wEnumT, wLc, wLcM, wFor, wWhile, wBreak, wCont, wYes, exOf, wLPut]
    intro nd hnd
    refine ⟨_, rfl, _, rfl, _, ix_tup (hat ep), _, ix_tup rfl, updM_same, _, rfl, ?_⟩
    exact hk _ _ ⟨nd, rfl, hnd, updM_same, (Kept.new hnd).upd hnd⟩
  · rintro ρ M1 ⟨nd, rfl, hnd, h1, kp1⟩
    refine wSeq_step (fun ρ M' => ∃ kn, knownI M ts place c nd kn 0 ρ M' ∧ nd ≠ kn ∧ M kn = none) (fun k hk => ?_) ?_
    · simp only [wSeq, wIfS, wTest, wOp, wVar, wC, wRet, wRetN, wAsg, wgName, wgTup, wgCons, wgNil, wDrop, wCall, wCons, wNil, wTup, wLst, wLstM, wCB, wCR, wIf, wAnd, wOr, wNot, wAndV, wOrV, wNotV, wChain, wUn, wFld, wMeth, wDGet, wDGet2, wDIn, wDPut, wBM, wNext, wPar, wAug, wIterT, wIterL, wRange1, wRange2, wRange3, wMake, wFldS, wNewDict, wDict1, wSl, wNoPart, wPart, wRevL, wRevM, wTupRev, wPos, wRaise, wTry, wAt, wIsX, wEnumT, wLc, wLcM, wFor, wWhile, wBreak, wCont, wYes, exOf, wLPut]
      refine ⟨by decide, fun kn hkn => ?_⟩
      have hne : nd ≠ kn := fun z => by rw [z, hkn] at h1; cases h1
      have hkM : M kn = none := by
        cases hm : M kn with
        | none => rfl
        | some n => rw [kp1 _ _ hm] at hkn; cases hkn
      refine hk _ _ ⟨kn, ⟨none, none, [(c, 1)], rfl, by rw [updM_ne hne]; exact h1, Nat.le_refl _, Nat.zero_le _, ?_, ?_, kp1.upd hkM⟩, hne, hkM⟩
      · rw [updM_same, Nat.sub_zero, filter_none]; rfl
      · have := BackI.start (ts := ts) (place := place) (c := c)
        rw [Nat.sub_zero]
        exact ⟨fun i hi => (this.eq i hi).trans ⟨fun ⟨n, h1, h2⟩ => ⟨n, by simp [h1], h2⟩, fun ⟨n, h1, h2⟩ => ⟨n, by simpa using h1, h2⟩⟩⟩
    · rintro ρ M2 ⟨kn, I0, hne, hkM⟩
      refine wSeq_step (fun ρ M' => knownI M ts place c nd kn place ρ M') (fun k hk => ?_) ?_
      · unfold wFor wRange3
        obtain ⟨x4, x5, ns, rfl, _⟩ := id I0
        simp only [wSeq, wIfS, wTest, wOp, wVar, wC, wRet, wRetN, wAsg, wgName, wgTup, wgCons, wgNil, wDrop, wCall, wCons, wNil, wTup, wLst, wLstM, wCB, wCR, wIf, wAnd, wOr, wNot, wAndV, wOrV, wNotV, wChain, wUn, wFld, wMeth, wDGet, wDGet2, wDIn, wDPut, wBM, wNext, wPar, wAug, wIterT, wIterL, wRange1, wRange2, wRange3, wMake, wFldS, wNewDict, wDict1, wSl, wNoPart, wPart, wRevL, wRevM, wTupRev, wPos, wRaise, wTry, wAt, wIsX, wEnumT, wLc, wLcM, wFor, wWhile, wBreak, wCont, wYes, exOf, wLPut]
        refine ⟨_, rfl, _, rfl, _, rfl, _, rfl, (place : Int) - 1, -1, rfl, ⟨by omega, by omega, by omega, by omega⟩, ?_⟩
        have elen : (intsDown ((place : Int) - 1) ((place : Int) - 1 - -1).toNat).length = place := by
          rw [intsDown_length]; omega
        refine forD_inv _ (knownI M ts place c nd kn) ?_ (fun ρ M' h => hk _ _ (by rw [elen] at h; exact h)) I0
        rintro t d rest ρ M3 hdr hd ⟨x4, x5, ns, rfl, hn, hnl, ht, hkn, BI, kp⟩ next
        have htl : t < place := by
          have := (List.getElem?_eq_some_iff.mp hd).1
          omega
        have ed : d = .int ((place - (t + 1) : Nat) : Int) := by
          have e2 : (intsDown ((place : Int) - 1) ((place : Int) - 1 - -1).toNat)[t]? = some (.int ((place : Int) - 1 - (t : Int))) := by
            unfold intsDown
            rw [List.getElem?_map, List.getElem?_range (by omega)]
            rfl
          rw [e2] at hd
          rw [← Option.some.inj hd]
          congr 1
          omega
        subst ed
        generalize hj : place - (t + 1) = j
        have hj1 : place - t = j + 1 := by omega
        have hjl : j < ts.length := by omega
        obtain ⟨tk, etk⟩ : ∃ tk, ts[j]? = some tk := ⟨ts[j], List.getElem?_eq_getElem hjl⟩
        rw [hj1] at BI hkn
        have hfs := filter_step (K := knB ts place c) (j := j) (p := place) (by omega)
        simp only [wSeq, wIfS, wTest, wOp, wVar, wC, wRet, wRetN, wAsg, wgName, wgTup, wgCons, wgNil, wDrop, wCall, wCons, wNil, wTup, wLst, wLstM, wCB, wCR, wIf, wAnd, wOr, wNot, wAndV, wOrV, wNotV, wChain, wUn, wFld, wMeth, wDGet, wDGet2, wDIn, wDPut, wBM, wNext, wPar, wAug, wIterT, wIterL, wRange1, wRange2, wRange3, wMake, wFldS, wNewDict, wDict1, wSl, wNoPart, wPart, wRevL, wRevM, wTupRev, wPos, wRaise, wTry, wAt, wIsX, wEnumT, wLc, wLcM, wFor, wWhile, wBreak, wCont, wYes, exOf, wLPut]
        refine ⟨_, rfl, _, rfl, _, ix_tup (hat etk), talkD tk, rfl, ?_⟩
        cases tk with
        | talk a b =>
          obtain ⟨B', kf⟩ := BI.talk etk
          refine ⟨_, ix_tup rfl, .bl true, by simp [fEq, eqS], _, rfl, ifT rfl ?_⟩
          refine ⟨_, rfl, _, ix_tup rfl, .adr nd, rfl, _, dget_of hn rfl rfl, _, rfl, ?_⟩
          rw [isSome_kv]
          by_cases hb : b ∈ ns.map (·.1)
          · refine ifT (decide_eq_true hb) ?_
            refine ⟨.adr nd, rfl, _, rfl, _, ix_tup rfl, nd, _, _, rfl, hn, rfl, by rw [kvD_len]; exact small1000 (by omega), ?_⟩
            rw [putD_kvD]
            refine next _ _ ⟨_, _, _, rfl, updM_same, Nat.le_trans len_put (by omega), by omega, ?_, ?_, kp.upd hnd⟩
            · rw [updM_ne (Ne.symm hne), hkn, hj, hfs, kf]
              rfl
            · rw [hj]
              exact ⟨fun i hi => (B'.eq i hi).trans ⟨fun ⟨n, h1, h2⟩ => ⟨n, mem_putN.mpr (h1.symm.imp (fun h => h.2) id), h2⟩, fun ⟨n, h1, h2⟩ => ⟨n, (mem_putN.mp h1).symm.imp id (fun h => ⟨hb, h⟩), h2⟩⟩⟩
          · refine ifF (decide_eq_false hb) ?_
            refine next _ _ ⟨_, _, ns, rfl, hn, by omega, by omega, ?_, ?_, kp⟩
            · rw [hkn, hj, hfs, kf]
              rfl
            · rw [hj]
              exact ⟨fun i hi => (B'.eq i hi).trans ⟨fun ⟨n, h1, h2⟩ => ⟨n, h1.resolve_right (fun h => hb h.1), h2⟩, fun ⟨n, h1, h2⟩ => ⟨n, .inl h1, h2⟩⟩⟩
        | saw a w =>
          obtain ⟨B', kf⟩ := BI.saw etk
          refine ⟨_, ix_tup rfl, .bl false, by simp [fEq, eqS, talkD]; decide, _, rfl, ifF rfl ?_⟩
          refine ⟨_, rfl, _, ix_tup rfl, .adr nd, rfl, _, dget_of hn rfl rfl, _, rfl, ?_⟩
          rw [isSome_kv]
          by_cases hb : a ∈ ns.map (·.1)
          · refine ifT (decide_eq_true hb) ?_
            refine ⟨.adr kn, rfl, .inl ⟨rfl, _, hkn⟩, _, rfl, kn, _, _, rfl, rfl, hkn, ?_, ?_⟩
            · rw [List.length_map, List.length_reverse]
              refine small1000 (Nat.le_trans (List.length_filter_le _ _) ?_)
              rw [List.length_range]
              omega
            · refine next _ _ ⟨_, _, ns, rfl, by rw [updM_ne hne]; exact hn, by omega, by omega, ?_, by rw [hj]; exact B', kp.upd hkM⟩
              rw [updM_same, hj, hfs, if_pos (kf.mpr hb), List.reverse_append, List.map_append]
              rfl
          · refine ifF (decide_eq_false hb) ?_
            refine next _ _ ⟨_, _, ns, rfl, hn, by omega, by omega, ?_, by rw [hj]; exact B', kp⟩
            rw [hkn, hj, hfs, if_neg (fun h => hb (kf.mp h))]
            rfl
      · rintro ρ M3 ⟨x4, x5, ns, rfl, hn, hnl, ht, hkn, BI, kp⟩
        simp only [wSeq, wIfS, wTest, wOp, wVar, wC, wRet, wRetN, wAsg, wgName, wgTup, wgCons, wgNil, wDrop, wCall, wCons, wNil, wTup, wLst, wLstM, wCB, wCR, wIf, wAnd, wOr, wNot, wAndV, wOrV, wNotV, wChain, wUn, wFld, wMeth, wDGet, wDGet2, wDIn, wDPut, wBM, wNext, wPar, wAug, wIterT, wIterL, wRange1, wRange2, wRange3, wMake, wFldS, wNewDict, wDict1, wSl, wNoPart, wPart, wRevL, wRevM, wTupRev, wPos, wRaise, wTry, wAt, wIsX, wEnumT, wLc, wLcM, wFor, wWhile, wBreak, wCont, wYes, exOf, wLPut]
        rw [Nat.sub_self, filter_full] at hkn
        refine ⟨.adr kn, rfl, _, (by simp only [listD, hkn]; rfl), ?_⟩
        rw [← List.map_reverse, List.reverse_reverse]
        exact post M3 kp
end K47

set_option Elab.async false
set_option linter.all false
set_option maxRecDepth 100000
set_option maxHeartbeats 4000000
namespace K47
open PySem PySem.Spec PyProof.Rows L2 Dl
/-! ### the witness -/
def firstBest (ts : List Talk) (k : Nat) (c : Str) : Option Nat := (knL ts k c).find? fun i => decide (valT ts i = tok ts k c)
def WitOk (ts : List Talk) (r : D) : Prop := (IsBack ts none ∧ r = .non) ∨ ∃ (k : Nat) (c : Str) (v : Int) (b : Nat), IsBack ts (some k) ∧ ts[k]? = some (.saw c v) ∧ firstBest ts k c = some b ∧ r = .tup [natD b, natD k]
def sp_witness_of (Z : Ad) : DSp := fun ds M Q _ => ∃ ts : List Talk, ds = [.tup (ts.map talkD)] ∧ ts.length ≤ 100 ∧ (∀ t ∈ ts, okT t) ∧ ∀ (r : D) (M' : Mem), WitOk ts r → Kept M M' → Q r M'
noncomputable def w_witness_of (Z : Ad) : WS := wSeq (wAsg (wCall (sp_back_in Z) [] (wCons (wVar 0) (wNil))) (wgName 1)) (wSeq (wIfS (wTest (wOp (fIsN false) (wVar 1) (wC .non))) (wRet (wC .non)) (wNext)) (wSeq (wAsg (wC .non) (wgName 2)) (wSeq (wFor (wIterT (wCall (sp_known_by Z) [] (wCons (wVar 0) (wCons (wVar 1) (wNil))))) (wgName 3) (wIfS (wOr (wTest (wOp (fIsN false) (wVar 2) (wC .non))) (wTest (wOp fGt (wOp fIx (wOp fIx (wVar 0) (wVar 3)) (wC (.int 2))) (wOp fIx (wOp fIx (wVar 0) (wVar 2)) (wC (.int 2)))))) (wAsg (wVar 3) (wgName 2)) (wNext))) (wRet (wTup (wCons (wVar 2) (wCons (wVar 1) (wNil))))))))
noncomputable def w_is_witness (Z : Ad) : WS := wSeq (wIfS (wOr (wNot (wTest (wCB fIsi (wCons (wVar 1) (wCons (wC (.ty "tuple")) (wNil)))))) (wTest (wOp fNe (wCB fLen (wCons (wVar 1) (wNil))) (wC (.int 2))))) (wRet (wC (.bl false))) (wNext)) (wSeq (wFor (wIterT (wVar 1)) (wgName 2) (wSeq (wIfS (wOr (wNot (wTest (wCB fIsi (wCons (wVar 2) (wCons (wC (.ty "int")) (wNil)))))) (wOr (wTest (wCB fIsi (wCons (wVar 2) (wCons (wC (.ty "bool")) (wNil))))) (wNot (wTest (wChain fLe fLt (wC (.int 0)) (wVar 2) (wCB fLen (wCons (wVar 0) (wNil)))))))) (wRet (wC (.bl false))) (wNext)) (wIfS (wTest (wOp fNe (wOp fIx (wOp fIx (wVar 0) (wVar 2)) (wC (.int 0))) (wC (.str (PySem.Str.ofString "saw"))))) (wRet (wC (.bl false))) (wNext)))) (wSeq (wAsg (wVar 1) (wgTup 2 (wgCons (wgName 3) (wgCons (wgName 4) (wgNil))))) (wRet (wAndV (wOp (fIn false) (wVar 3) (wCall (sp_known_by Z) [] (wCons (wVar 0) (wCons (wVar 4) (wNil))))) (wOp fGt (wOp fIx (wOp fIx (wVar 0) (wVar 3)) (wC (.int 2))) (wOp fIx (wOp fIx (wVar 0) (wVar 4)) (wC (.int 2))))))))
def BestI (ts : List Talk) (L : List Nat) (j : Nat) (bo : Option Nat) : Prop :=
  (j = 0 ∧ bo = none) ∨ ∃ (b : Nat) (pre post : List Nat), bo = some b ∧ L.take j = pre ++ b :: post ∧ (∀ i ∈ pre, valT ts i < valT ts b) ∧ ∀ i ∈ post, valT ts i ≤ valT ts b
theorem BestI.first {ts : List Talk} {L : List Nat} {i : Nat} (h : L[0]? = some i) : BestI ts L 1 (some i) := .inr ⟨i, [], [], rfl, by
  rw [List.take_add_one, h]; rfl, fun _ h => (nomatch h), fun _ h => (nomatch h)⟩
theorem BestI.more {ts : List Talk} {L : List Nat} {j i b : Nat} (B : BestI ts L j (some b)) (h : L[j]? = some i) (c : valT ts b < valT ts i) : BestI ts L (j + 1) (some i) := by
  rcases B with ⟨_, h⟩ | ⟨b', pre, post, e, et, h1, h2⟩
  · cases h
  · cases e
    refine .inr ⟨i, L.take j, [], rfl, by rw [List.take_add_one, h]; rfl, fun x hx => ?_, fun _ h => (nomatch h)⟩
    rw [et] at hx
    rcases List.mem_append.mp hx with hx | hx
    · exact Int.lt_trans (h1 x hx) c
    · rcases List.mem_cons.mp hx with rfl | hx
      · exact c
      · exact Int.lt_of_le_of_lt (h2 x hx) c
theorem BestI.less {ts : List Talk} {L : List Nat} {j i b : Nat} (B : BestI ts L j (some b)) (h : L[j]? = some i) (c : ¬ valT ts b < valT ts i) : BestI ts L (j + 1) (some b) := by
  rcases B with ⟨_, h⟩ | ⟨b', pre, post, e, et, h1, h2⟩
  · cases h
  · cases e
    refine .inr ⟨b, pre, post ++ [i], rfl, by rw [List.take_add_one, h, et]; simp, h1, fun x hx => ?_⟩
    rcases List.mem_append.mp hx with hx | hx
    · exact h2 x hx
    · rw [List.mem_singleton.mp hx]; omega
theorem BestI.mem {ts : List Talk} {L : List Nat} {j b : Nat} (B : BestI ts L j (some b)) : b ∈ L := by
  rcases B with ⟨_, h⟩ | ⟨b', pre, post, e, et, h1, h2⟩
  · cases h
  · cases e
    have : b ∈ L.take j := by rw [et]; simp
    exact List.mem_of_mem_take this
theorem BestI.fin {ts : List Talk} (ok : ∀ t ∈ ts, okT t) {k : Nat} {c : Str} (h0 : 0 < tok ts k c) {bo : Option Nat} (B : BestI ts (knL ts k c) (knL ts k c).length bo) : ∃ b, bo = some b ∧ firstBest ts k c = some b := by
  obtain ⟨i, hi, ei⟩ : ∃ i, knB ts k c i = true ∧ valT ts i = tok ts k c := by
    rcases (tok_max ok k c).2.2 with h | h
    · omega
    · exact h
  have hm := mem_knL.mpr hi
  rcases B with ⟨h, _⟩ | ⟨b, pre, post, rfl, et, h1, h2⟩
  · rw [List.length_eq_zero_iff.mp h] at hm; cases hm
  · rw [List.take_length] at et
    have hb : b ∈ knL ts k c := by rw [et]; simp
    have hle := (tok_max ok k c).2.1 b (mem_knL.mp hb)
    have hge : valT ts i ≤ valT ts b := by
      rw [et] at hm
      rcases List.mem_append.mp hm with hx | hx
      · exact Int.le_of_lt (h1 _ hx)
      · rcases List.mem_cons.mp hx with rfl | hx
        · exact Int.le_refl _
        · exact h2 _ hx
    have eb : valT ts b = tok ts k c := by omega
    refine ⟨b, rfl, ?_⟩
    unfold firstBest
    rw [et, List.find?_append]
    have : pre.find? (fun i => decide (valT ts i = tok ts k c)) = none := List.find?_eq_none.mpr fun x hx => by
      have := h1 x hx
      simp; omega
    rw [this, List.find?_cons, decide_eq_true eb]
    rfl
theorem atT {ts : List Talk} {i : Nat} {t : Talk} (h : ts[i]? = some t) : atI (ts.map talkD) (i : Int) = some (talkD t) := atI_at (by rw [List.getElem?_map, h]; rfl)
theorem knL_saw {ts : List Talk} {k : Nat} {c : Str} {i : Nat} (h : i ∈ knL ts k c) : ∃ a, ts[i]? = some (.saw a (valT ts i)) := by
  obtain ⟨_, a, v, e⟩ := knB_lt ts k c i (mem_knL.mp h)
  exact ⟨a, by rw [e]; simp [valT, e]⟩
theorem rd_witness_of (Z : Ad) (z : ZOk Z) : ∀ (ds : List D) (M : Mem) (Q : D → Mem → Prop) (Ex : XEx), sp_witness_of Z ds M Q Ex → w_witness_of Z { nx := fun _ M' => Q .non M', rt := Q, ex := fun C d _ M' => Ex C d M' } (ds.map some ++ List.replicate (4 - ds.length) none) M := by
  intro ds M Q Ex h
  obtain ⟨ts, rfl, hl, hok, post⟩ := h
  unfold w_witness_of
  refine wSeq_step (fun ρ M' => ∃ r, ρ = [some (.tup (ts.map talkD)), some (optD r), none, none] ∧ IsBack ts r ∧ Kept M M') (fun k hk => ?_) ?_
  · simp only [wSeq, wIfS, wTest, wOp, wVar, wC, wRet, wRetN, wAsg, wgName, wgTup, wgCons, wgNil, wDrop, wCall, wCons, wNil, wTup, wLst, wLstM, wCB, wCR, wIf, wAnd, wOr, wNot, wAndV, wOrV, wNotV, wChain, wUn, wFld, wMeth, wDGet, wDGet2, wDIn, wDPut, wBM, wNext, wPar, wAug, wIterT, wIterL, wRange1, wRange2, wRange3, wMake, wFldS, wNewDict, wDict1, wSl, wNoPart, wPart, wRevL, wRevM, wTupRev, wPos, wRaise, wTry, wAt, wIsX, wEnumT, wLc, wLcM, wFor, wWhile, wBreak, wCont, wYes, exOf, wLPut]
    exact ⟨_, rfl, ts, rfl, hl, hok, fun r M' h1 h2 => hk _ _ ⟨r, rfl, h1, h2⟩⟩
  · rintro ρ M1 ⟨r, rfl, hb, kp⟩
    cases r with
    | none =>
      simp only [wSeq, wIfS, wTest, wOp, wVar, wC, wRet, wRetN, wAsg, wgName, wgTup, wgCons, wgNil, wDrop, wCall, wCons, wNil, wTup, wLst, wLstM, wCB, wCR, wIf, wAnd, wOr, wNot, wAndV, wOrV, wNotV, wChain, wUn, wFld, wMeth, wDGet, wDGet2, wDIn, wDPut, wBM, wNext, wPar, wAug, wIterT, wIterL, wRange1, wRange2, wRange3, wMake, wFldS, wNewDict, wDict1, wSl, wNoPart, wPart, wRevL, wRevM, wTupRev, wPos, wRaise, wTry, wAt, wIsX, wEnumT, wLc, wLcM, wFor, wWhile, wBreak, wCont, wYes, exOf, wLPut]
      refine ⟨_, rfl, .bl true, rfl, _, rfl, ifT rfl ?_⟩
      exact post _ _ (.inl ⟨hb, rfl⟩) kp
    | some k0 =>
      obtain ⟨hlt, ⟨c, v, e, hv⟩, _⟩ := id hb
      refine wSeq_step (fun ρ M' => ρ = [some (.tup (ts.map talkD)), some (natD k0), none, none] ∧ Kept M M') (fun k hk => ?_) ?_
      · simp only [wSeq, wIfS, wTest, wOp, wVar, wC, wRet, wRetN, wAsg, wgName, wgTup, wgCons, wgNil, wDrop, wCall, wCons, wNil, wTup, wLst, wLstM, wCB, wCR, wIf, wAnd, wOr, wNot, wAndV, wOrV, wNotV, wChain, wUn, wFld, wMeth, wDGet, wDGet2, wDIn, wDPut, wBM, wNext, wPar, wAug, wIterT, wIterL, wRange1, wRange2, wRange3, wMake, wFldS, wNewDict, wDict1, wSl, wNoPart, wPart, wRevL, wRevM, wTupRev, wPos, wRaise, wTry, wAt, wIsX, wEnumT, wLc, wLcM, wFor, wWhile, wBreak, wCont, wYes, exOf, wLPut]
        refine ⟨_, rfl, .bl false, rfl, _, rfl, ifF rfl ?_⟩
        exact hk _ _ ⟨rfl, kp⟩
      · rintro ρ M2 ⟨rfl, kp2⟩
        refine wSeq_step (fun ρ M' => ρ = [some (.tup (ts.map talkD)), some (natD k0), some .non, none] ∧ Kept M M') (fun k hk => hk _ _ ⟨rfl, kp2⟩) ?_
        rintro ρ M3 ⟨rfl, kp3⟩
        refine wSeq_step (fun ρ M' => ∃ b x, ρ = [some (.tup (ts.map talkD)), some (natD k0), some (natD b), x] ∧ firstBest ts k0 c = some b ∧ Kept M M') (fun k hk => ?_) ?_
        · unfold wFor wIterT
          simp only [wSeq, wIfS, wTest, wOp, wVar, wC, wRet, wRetN, wAsg, wgName, wgTup, wgCons, wgNil, wDrop, wCall, wCons, wNil, wTup, wLst, wLstM, wCB, wCR, wIf, wAnd, wOr, wNot, wAndV, wOrV, wNotV, wChain, wUn, wFld, wMeth, wDGet, wDGet2, wDIn, wDPut, wBM, wNext, wPar, wAug, wIterT, wIterL, wRange1, wRange2, wRange3, wMake, wFldS, wNewDict, wDict1, wSl, wNoPart, wPart, wRevL, wRevM, wTupRev, wPos, wRaise, wTry, wAt, wIsX, wEnumT, wLc, wLcM, wFor, wWhile, wBreak, wCont, wYes, exOf, wLPut]
          refine ⟨_, rfl, _, rfl, ts, k0, c, v, rfl, hl, e, fun M4 kp4 => ⟨_, rfl, ?_⟩⟩
          refine forD_inv _ (fun j ρ M' => ∃ (bo : Option Nat) (x : Option D), ρ = [some (.tup (ts.map talkD)), some (natD k0), some (optD bo), x] ∧ BestI ts (knL ts k0 c) j bo ∧ Kept M M') ?_ ?_ ⟨none, none, rfl, .inl ⟨rfl, rfl⟩, kp3.trans kp4⟩
          · rintro j d rest ρ M5 hdr hd ⟨bo, x, rfl, B, kp5⟩ next
            rw [List.getElem?_map] at hd
            obtain ⟨i, hi, rfl⟩ := Option.map_eq_some_iff.mp hd
            simp only [wSeq, wIfS, wTest, wOp, wVar, wC, wRet, wRetN, wAsg, wgName, wgTup, wgCons, wgNil, wDrop, wCall, wCons, wNil, wTup, wLst, wLstM, wCB, wCR, wIf, wAnd, wOr, wNot, wAndV, wOrV, wNotV, wChain, wUn, wFld, wMeth, wDGet, wDGet2, wDIn, wDPut, wBM, wNext, wPar, wAug, wIterT, wIterL, wRange1, wRange2, wRange3, wMake, wFldS, wNewDict, wDict1, wSl, wNoPart, wPart, wRevL, wRevM, wTupRev, wPos, wRaise, wTry, wAt, wIsX, wEnumT, wLc, wLcM, wFor, wWhile, wBreak, wCont, wYes, exOf, wLPut]
            cases bo with
            | none =>
              refine ⟨_, rfl, .bl true, rfl, _, rfl, ?_⟩
              refine ifT rfl ?_
              refine ⟨_, rfl, next _ _ ⟨some i, _, rfl, ?_, kp5⟩⟩
              rcases B with ⟨rfl, _⟩ | ⟨b, _, _, h, _⟩
              · exact BestI.first hi
              · cases h
            | some b =>
              obtain ⟨ai, ei⟩ := knL_saw (List.mem_of_getElem? hi)
              obtain ⟨ab, eb⟩ := knL_saw B.mem
              refine ⟨_, rfl, .bl false, rfl, _, rfl, ifF rfl ?_⟩
              refine ⟨_, rfl, natD i, rfl, _, ix_tup (atT ei), _, ix_tup rfl, _, rfl, natD b, rfl, _, ix_tup (atT eb), _, ix_tup rfl, .bl (decide (valT ts b < valT ts i)), rfl, _, rfl, ?_⟩
              by_cases hc : valT ts b < valT ts i
              · exact ifT (decide_eq_true hc) ⟨_, rfl, next _ _ ⟨some i, _, rfl, B.more hi hc, kp5⟩⟩
              · exact ifF (decide_eq_false hc) (next _ _ ⟨some b, _, rfl, B.less hi hc, kp5⟩)
          · rintro ρ M5 ⟨bo, x, rfl, B, kp5⟩
            rw [List.length_map] at B
            have hv0 : 0 ≤ v := (hok _ (List.mem_of_getElem? e)).2
            obtain ⟨b, rfl, hfb⟩ := BestI.fin hok (by omega) B
            exact hk _ _ ⟨b, x, rfl, hfb, kp5⟩
        · rintro ρ M4 ⟨b, x, rfl, hfb, kp4⟩
          simp only [wSeq, wIfS, wTest, wOp, wVar, wC, wRet, wRetN, wAsg, wgName, wgTup, wgCons, wgNil, wDrop, wCall, wCons, wNil, wTup, wLst, wLstM, wCB, wCR, wIf, wAnd, wOr, wNot, wAndV, wOrV, wNotV, wChain, wUn, wFld, wMeth, wDGet, wDGet2, wDIn, wDPut, wBM, wNext, wPar, wAug, wIterT, wIterL, wRange1, wRange2, wRange3, wMake, wFldS, wNewDict, wDict1, wSl, wNoPart, wPart, wRevL, wRevM, wTupRev, wPos, wRaise, wTry, wAt, wIsX, wEnumT, wLc, wLcM, wFor, wWhile, wBreak, wCont, wYes, exOf, wLPut]
          exact ⟨_, rfl, _, rfl, by show 2 ≤ sizeLine; decide, post _ _ (.inr ⟨k0, c, v, b, hb, e, hfb, rfl⟩) kp4⟩
/-! ### any value as a witness -/
def partD (d : D) : Prop := d = .non ∨ (∃ b, d = .bl b) ∨ (∃ i, d = .int i) ∨ (∃ s, d = .str s) ∨ ∃ xs, d = .tup xs
def valOk (M : Mem) (v : D) : Prop := (∃ ds, v = .tup ds ∧ ds.length ≤ 1000 ∧ ∀ d ∈ ds, partD d) ∨ ∃ k, kindD M v = some k ∧ k ≠ "tuple"
def rightN (ts : List Talk) (a b : Nat) : Bool := match ts[b]? with
  | some (.saw c v) => knB ts b c a && decide (v < valT ts a)
  | _ => false
def rightB (ts : List Talk) : D → Bool
  | .tup [.int a, .int b] => decide (0 ≤ a) && decide (0 ≤ b) && rightN ts a.toNat b.toNat
  | _ => false
def good (ts : List Talk) (d : D) : Prop := ∃ i : Nat, d = natD i ∧ sawAt ts i
theorem right_good {ts : List Talk} {ds : List D} (h : rightB ts (.tup ds) = true) : ∃ a b : Nat, ds = [natD a, natD b] ∧ good ts (natD a) ∧ good ts (natD b) ∧ rightN ts a b = true := by
  unfold rightB at h
  split at h
  · rename_i a b e
    injection e with e
    subst e
    obtain ⟨h1, h2⟩ := Bool.and_eq_true_iff.mp h
    obtain ⟨ha, hb⟩ := Bool.and_eq_true_iff.mp h1
    have ha := of_decide_eq_true ha
    have hb := of_decide_eq_true hb
    obtain ⟨a', rfl⟩ := Int.eq_ofNat_of_zero_le ha
    obtain ⟨b', rfl⟩ := Int.eq_ofNat_of_zero_le hb
    rw [Int.toNat_natCast, Int.toNat_natCast] at h2
    have h3 := h2
    unfold rightN at h3
    split at h3
    · rename_i c v e2
      exact ⟨a', b', rfl, ⟨a', rfl, (knB_lt _ _ _ _ (Bool.and_eq_true_iff.mp h3).1).2⟩, ⟨b', rfl, c, v, e2⟩, h2⟩
    · cases h3
  · cases h
theorem not_right {ts : List Talk} {ds : List D} {d : D} (hd : d ∈ ds) (h : ¬ good ts d) : rightB ts (.tup ds) = false := by
  cases e : rightB ts (.tup ds) with
  | false => rfl
  | true =>
    obtain ⟨a, b, rfl, ga, gb, _⟩ := right_good e
    rcases List.mem_cons.mp hd with rfl | hd
    · exact absurd ga h
    · rcases List.mem_cons.mp hd with rfl | hd
      · exact absurd gb h
      · cases hd
theorem right_nat {ts : List Talk} {a b : Nat} : rightB ts (.tup [natD a, natD b]) = rightN ts a b := by
  show (decide ((0 : Int) ≤ (a : Int)) && decide ((0 : Int) ≤ (b : Int)) && rightN ts ((a : Int)).toNat ((b : Int)).toNat) = _
  rw [decide_eq_true (Int.natCast_nonneg a), decide_eq_true (Int.natCast_nonneg b), Int.toNat_natCast, Int.toNat_natCast]
  rfl
theorem right_len {ts : List Talk} {ds : List D} (h : ds.length ≠ 2) : rightB ts (.tup ds) = false := by
  cases e : rightB ts (.tup ds) with
  | false => rfl
  | true =>
    obtain ⟨a, b, rfl, _⟩ := right_good e
    exact absurd rfl h
theorem right_kind {ts : List Talk} {M : Mem} {v : D} {k : String} (h : kindD M v = some k) (hk : k ≠ "tuple") : rightB ts v = false := by
  cases v with
  | tup xs => exact absurd (Option.some.inj h).symm hk
  | _ => rfl
def sp_is_witness (Z : Ad) : DSp := fun ds M Q _ => ∃ (ts : List Talk) (v : D), ds = [.tup (ts.map talkD), v] ∧ ts.length ≤ 100 ∧ valOk M v ∧ ∀ M' : Mem, Kept M M' → Q (.bl (rightB ts v)) M'
theorem in_nats {a : Nat} : ∀ {L : List Nat}, inD (natD a) (L.map natD) = decide (a ∈ L)
  | [] => rfl
  | x :: r => by
    have ih := in_nats (a := a) (L := r)
    unfold inD at ih ⊢
    rw [List.map_cons, List.any_cons, ih]
    have e : eqF (natD x) (natD a) = decide (a = x) := by
      show ((x : Int) == (a : Int)) = _
      by_cases h : a = x
      · rw [h]; simp
      · have : ¬ x = a := fun e => h e.symm
        simp [h]; omega
    rw [e]
    by_cases h : a = x
    · simp [h]
    · simp [h]
theorem rd_is_witness (Z : Ad) (z : ZOk Z) : ∀ (ds : List D) (M : Mem) (Q : D → Mem → Prop) (Ex : XEx), sp_is_witness Z ds M Q Ex → w_is_witness Z { nx := fun _ M' => Q .non M', rt := Q, ex := fun C d _ M' => Ex C d M' } (ds.map some ++ List.replicate (5 - ds.length) none) M := by
  intro ds M Q Ex h
  obtain ⟨ts, v, rfl, hl, hv, post⟩ := h
  unfold w_is_witness
  rcases hv with ⟨es, rfl, hel, hes⟩ | ⟨k, hk, hk2⟩
  · by_cases h2 : es.length = 2
    · refine wSeq_step (fun ρ M' => ρ = [some (.tup (ts.map talkD)), some (.tup es), none, none, none] ∧ M' = M) (fun k hk => ?_) ?_
      · simp only [wSeq, wIfS, wTest, wOp, wVar, wC, wRet, wRetN, wAsg, wgName, wgTup, wgCons, wgNil, wDrop, wCall, wCons, wNil, wTup, wLst, wLstM, wCB, wCR, wIf, wAnd, wOr, wNot, wAndV, wOrV, wNotV, wChain, wUn, wFld, wMeth, wDGet, wDGet2, wDIn, wDPut, wBM, wNext, wPar, wAug, wIterT, wIterL, wRange1, wRange2, wRange3, wMake, wFldS, wNewDict, wDict1, wSl, wNoPart, wPart, wRevL, wRevM, wTupRev, wPos, wRaise, wTry, wAt, wIsX, wEnumT, wLc, wLcM, wFor, wWhile, wBreak, wCont, wYes, exOf, wLPut]
        refine ⟨_, rfl, .bl true, by simp [fIsi, kindD, isTy], _, rfl, ifF rfl ?_⟩
        refine ⟨_, rfl, .int (es.length : Int), by simp [fLen, itemsD], _, ne_int, _, rfl, ?_⟩
        rw [h2]
        exact ifF rfl (hk _ _ ⟨rfl, rfl⟩)
      · rintro ρ M1 ⟨rfl, rfl⟩
        refine wSeq_step (fun ρ M' => (∃ x, ρ = [some (.tup (ts.map talkD)), some (.tup es), x, none, none]) ∧ M' = M1 ∧ ∀ d ∈ es, good ts d) (fun k hk => ?_) ?_
        · unfold wFor wIterT
          simp only [wSeq, wIfS, wTest, wOp, wVar, wC, wRet, wRetN, wAsg, wgName, wgTup, wgCons, wgNil, wDrop, wCall, wCons, wNil, wTup, wLst, wLstM, wCB, wCR, wIf, wAnd, wOr, wNot, wAndV, wOrV, wNotV, wChain, wUn, wFld, wMeth, wDGet, wDGet2, wDIn, wDPut, wBM, wNext, wPar, wAug, wIterT, wIterL, wRange1, wRange2, wRange3, wMake, wFldS, wNewDict, wDict1, wSl, wNoPart, wPart, wRevL, wRevM, wTupRev, wPos, wRaise, wTry, wAt, wIsX, wEnumT, wLc, wLcM, wFor, wWhile, wBreak, wCont, wYes, exOf, wLPut]
          refine ⟨_, rfl, _, rfl, ?_⟩
          refine forD_inv _ (fun j ρ M' => (∃ x, ρ = [some (.tup (ts.map talkD)), some (.tup es), x, none, none]) ∧ M' = M1 ∧ ∀ d ∈ es.take j, good ts d) ?_ (fun ρ M' h => hk _ _ ⟨h.1, h.2.1, by have := h.2.2; rwa [List.take_length] at this⟩) ⟨⟨none, rfl⟩, rfl, fun d hd => by cases hd⟩
          rintro j d rest ρ M5 hdr hd ⟨⟨x, rfl⟩, rfl, hg⟩ next
          have hmem := List.mem_of_getElem? hd
          have bad : ¬ good ts d → Q (.bl false) M5 := fun hn => by
            have := post M5 .refl
            rwa [not_right hmem hn] at this
          simp only [wSeq, wIfS, wTest, wOp, wVar, wC, wRet, wRetN, wAsg, wgName, wgTup, wgCons, wgNil, wDrop, wCall, wCons, wNil, wTup, wLst, wLstM, wCB, wCR, wIf, wAnd, wOr, wNot, wAndV, wOrV, wNotV, wChain, wUn, wFld, wMeth, wDGet, wDGet2, wDIn, wDPut, wBM, wNext, wPar, wAug, wIterT, wIterL, wRange1, wRange2, wRange3, wMake, wFldS, wNewDict, wDict1, wSl, wNoPart, wPart, wRevL, wRevM, wTupRev, wPos, wRaise, wTry, wAt, wIsX, wEnumT, wLc, wLcM, wFor, wWhile, wBreak, wCont, wYes, exOf, wLPut]
          rcases hes d hmem with rfl | ⟨b, rfl⟩ | ⟨i, rfl⟩ | ⟨s, rfl⟩ | ⟨xs, rfl⟩
          · refine ⟨_, rfl, .bl false, by simp [fIsi, kindD, isTy], _, rfl, ?_⟩
            refine ifT rfl ?_
            exact bad fun ⟨i, h, _⟩ => by cases h
          · refine ⟨_, rfl, .bl true, by simp [fIsi, kindD, isTy], _, rfl, ifF rfl ?_⟩
            refine ⟨_, rfl, .bl true, by simp [fIsi, kindD, isTy], _, rfl, ?_⟩
            refine ifT rfl ?_
            exact bad fun ⟨i, h, _⟩ => by cases h
          · refine ⟨_, rfl, .bl true, by simp [fIsi, kindD, isTy], _, rfl, ifF rfl ?_⟩
            refine ⟨_, rfl, .bl false, by simp [fIsi, kindD, isTy], _, rfl, ifF rfl ?_⟩
            refine ⟨_, rfl, decide (0 ≤ i), rfl, ?_⟩
            by_cases h0 : 0 ≤ i
            · refine ifT (decide_eq_true h0) ?_
              refine ⟨_, rfl, .int ((ts.map talkD).length : Int), by simp [fLen, itemsD], .bl (decide (i < ((ts.map talkD).length : Int))), rfl, _, rfl, ?_⟩
              by_cases h1 : i < ((ts.map talkD).length : Int)
              · rw [decide_eq_true h1]
                refine ifF rfl ?_
                obtain ⟨i', rfl⟩ := Int.eq_ofNat_of_zero_le h0
                rw [List.length_map] at h1
                have hi' : i' < ts.length := by omega
                obtain ⟨t, et⟩ : ∃ t, ts[i']? = some t := ⟨ts[i'], List.getElem?_eq_getElem hi'⟩
                refine ⟨_, rfl, _, rfl, _, ix_tup (atT et), ?_⟩
                cases t with
                | talk a b =>
                  refine ⟨_, ix_tup rfl, .bl true, by simp [fNe, eqS, talkD]; decide, _, rfl, ?_⟩
                  refine ifT rfl ?_
                  refine bad ?_
                  rintro ⟨i, h, a', v', e'⟩
                  injection h with h
                  have : i = i' := by omega
                  rw [this, et] at e'
                  cases e'
                | saw a w =>
                  refine ⟨_, ix_tup rfl, .bl false, by simp [fNe, eqS, talkD], _, rfl, ifF rfl (next _ _ ⟨⟨_, rfl⟩, rfl, ?_⟩)⟩
                  rw [List.take_add_one, hd]
                  intro d hd'
                  rcases List.mem_append.mp hd' with hd' | hd'
                  · exact hg d hd'
                  · rw [List.mem_singleton.mp hd']
                    exact ⟨i', rfl, a, w, et⟩
              · rw [decide_eq_false h1]
                refine ifT rfl ?_
                refine bad ?_
                rintro ⟨i', h, a', v', e'⟩
                injection h with h
                have := (List.getElem?_eq_some_iff.mp e').1
                rw [List.length_map] at h1
                omega
            · refine ifF (decide_eq_false h0) ?_
              refine ⟨false, rfl, ?_⟩
              refine ifT rfl ?_
              refine bad ?_
              rintro ⟨i', h, _⟩
              injection h with h
              omega
          · refine ⟨_, rfl, .bl false, by simp [fIsi, kindD, isTy], _, rfl, ?_⟩
            refine ifT rfl ?_
            exact bad fun ⟨i, h, _⟩ => by cases h
          · refine ⟨_, rfl, .bl false, by simp [fIsi, kindD, isTy], _, rfl, ?_⟩
            refine ifT rfl ?_
            exact bad fun ⟨i, h, _⟩ => by cases h
        · rintro ρ M2 ⟨⟨x, rfl⟩, rfl, hg⟩
          obtain ⟨d1, d2, rfl⟩ : ∃ d1 d2, es = [d1, d2] := by
            match es, h2 with
            | [d1, d2], _ => exact ⟨d1, d2, rfl⟩
          obtain ⟨a, rfl, a', va, ea⟩ := hg d1 (by simp)
          obtain ⟨b, rfl, b', vb, eb⟩ := hg d2 (by simp)
          simp only [wSeq, wIfS, wTest, wOp, wVar, wC, wRet, wRetN, wAsg, wgName, wgTup, wgCons, wgNil, wDrop, wCall, wCons, wNil, wTup, wLst, wLstM, wCB, wCR, wIf, wAnd, wOr, wNot, wAndV, wOrV, wNotV, wChain, wUn, wFld, wMeth, wDGet, wDGet2, wDIn, wDPut, wBM, wNext, wPar, wAug, wIterT, wIterL, wRange1, wRange2, wRange3, wMake, wFldS, wNewDict, wDict1, wSl, wNoPart, wPart, wRevL, wRevM, wTupRev, wPos, wRaise, wTry, wAt, wIsX, wEnumT, wLc, wLcM, wFor, wWhile, wBreak, wCont, wYes, exOf, wLPut]
          refine ⟨_, rfl, _, rfl, rfl, natD a, _, rfl, natD b, _, rfl, rfl, ?_⟩
          refine ⟨natD a, rfl, _, rfl, natD b, rfl, ts, b, b', vb, rfl, hl, eb, fun M3 kp3 => ?_⟩
          have hpost := post M3 kp3
          rw [right_nat] at hpost
          unfold rightN at hpost
          simp only [eb] at hpost
          have hin : fIn false (natD a) (.tup ((knL ts b b').map natD)) M3 = some (.bl (knB ts b b' a)) := by
            rw [show fIn false (natD a) (.tup ((knL ts b b').map natD)) M3 = if (flatD (natD a) && ((knL ts b b').map natD).all flatD) = true then some (.bl (inD (natD a) ((knL ts b b').map natD))) else none from rfl]
            rw [if_pos (by simp [natD, flatD]), in_nats]
            congr 2
            cases hk : knB ts b b' a with
            | true => exact decide_eq_true (mem_knL.mpr hk)
            | false => exact decide_eq_false fun h => by rw [mem_knL.mp h] at hk; cases hk
          refine ⟨_, hin, _, rfl, ?_⟩
          cases hkn : knB ts b b' a with
          | false => 
            rw [hkn] at hpost
            exact ifF rfl hpost
          | true =>
            rw [hkn] at hpost
            refine ifT rfl ?_
            have : valT ts a = va := by simp [valT, ea]
            rw [this] at hpost
            exact ⟨_, rfl, natD a, rfl, _, ix_tup (atT ea), _, ix_tup rfl, _, rfl, natD b, rfl, _, ix_tup (atT eb), _, ix_tup rfl, .bl (decide (vb < va)), rfl, hpost⟩
    · have hp := post M .refl
      rw [right_len h2] at hp
      simp only [wSeq, wIfS, wTest, wOp, wVar, wC, wRet, wRetN, wAsg, wgName, wgTup, wgCons, wgNil, wDrop, wCall, wCons, wNil, wTup, wLst, wLstM, wCB, wCR, wIf, wAnd, wOr, wNot, wAndV, wOrV, wNotV, wChain, wUn, wFld, wMeth, wDGet, wDGet2, wDIn, wDPut, wBM, wNext, wPar, wAug, wIterT, wIterL, wRange1, wRange2, wRange3, wMake, wFldS, wNewDict, wDict1, wSl, wNoPart, wPart, wRevL, wRevM, wTupRev, wPos, wRaise, wTry, wAt, wIsX, wEnumT, wLc, wLcM, wFor, wWhile, wBreak, wCont, wYes, exOf, wLPut]
      refine ⟨_, rfl, .bl true, by simp [fIsi, kindD, isTy], _, rfl, ifF rfl ?_⟩
      refine ⟨_, rfl, .int (es.length : Int), by simp [fLen, itemsD], _, ne_int, _, rfl, ifT ?_ hp⟩
      rw [decide_eq_false (by omega)]; rfl
  · have hp := post M .refl
    rw [right_kind hk hk2] at hp
    simp only [wSeq, wIfS, wTest, wOp, wVar, wC, wRet, wRetN, wAsg, wgName, wgTup, wgCons, wgNil, wDrop, wCall, wCons, wNil, wTup, wLst, wLstM, wCB, wCR, wIf, wAnd, wOr, wNot, wAndV, wOrV, wNotV, wChain, wUn, wFld, wMeth, wDGet, wDGet2, wDIn, wDPut, wBM, wNext, wPar, wAug, wIterT, wIterL, wRange1, wRange2, wRange3, wMake, wFldS, wNewDict, wDict1, wSl, wNoPart, wPart, wRevL, wRevM, wTupRev, wPos, wRaise, wTry, wAt, wIsX, wEnumT, wLc, wLcM, wFor, wWhile, wBreak, wCont, wYes, exOf, wLPut]
    refine ⟨_, rfl, .bl false, ?_, _, rfl, ifT rfl hp⟩
    have : isTy k "tuple" = false := by
      unfold isTy
      simp [hk2]
    simp [fIsi, hk, this]
end K47

set_option Elab.async false
set_option linter.all false
set_option maxRecDepth 100000
set_option maxHeartbeats 4000000
namespace K47
open PySem PySem.Spec PyProof.Rows L2 Dl
/-! ### which moment is read -/
def moD : Option Int → D
  | none => .non
  | some m => .int m
def sp_moment_for (Z : Ad) : DSp := fun ds M Q E => ∃ (t k f : Int) (mo : Option Int) (hs : List Int), ds = [.int t, moD mo, .int k, .int f, .tup (hs.map .int)] ∧
  (match mo with
  | none => if k < t then E Z.c_NotYet (.int t) M else Q (.int k) M
  | some m => if k < m then E Z.c_NotYet (.int m) M else if m < f ∧ m ∉ hs then E Z.c_TooOld (.int f) M else Q (.int m) M)
noncomputable def w_moment_for (Z : Ad) : WS := wSeq (wIfS (wTest (wOp (fIsN false) (wVar 1) (wC .non))) (wSeq (wIfS (wTest (wOp fLt (wVar 2) (wVar 0))) (wRaise Z.c_NotYet (wCons (wVar 0) (wNil))) (wNext)) (wRet (wVar 2))) (wNext)) (wSeq (wIfS (wTest (wOp fGt (wVar 1) (wVar 2))) (wRaise Z.c_NotYet (wCons (wVar 1) (wNil))) (wNext)) (wSeq (wIfS (wAnd (wTest (wOp fLt (wVar 1) (wVar 3))) (wTest (wOp (fIn true) (wVar 1) (wVar 4)))) (wRaise Z.c_TooOld (wCons (wVar 3) (wNil))) (wNext)) (wRet (wVar 1))))
theorem in_ints {a : Int} : ∀ {L : List Int}, inD (.int a) (L.map .int) = decide (a ∈ L)
  | [] => rfl
  | x :: r => by
    have ih := in_ints (a := a) (L := r)
    unfold inD at ih ⊢
    rw [List.map_cons, List.any_cons, ih]
    have e : eqF (.int x) (.int a) = decide (a = x) := by
      show (x == a) = _
      by_cases h : a = x
      · rw [h]; simp
      · simp [h]; omega
    rw [e]
    by_cases h : a = x
    · simp [h]
    · simp [h]
theorem fIn_ints {neg : Bool} {a : Int} {L : List Int} {M : Mem} : fIn neg (.int a) (.tup (L.map .int)) M = some (.bl (if neg then !decide (a ∈ L) else decide (a ∈ L))) := by
  rw [show fIn neg (.int a) (.tup (L.map .int)) M = if (flatD (.int a) && (L.map D.int).all flatD) = true then some (.bl (if neg then !inD (.int a) (L.map .int) else inD (.int a) (L.map .int))) else none from rfl]
  rw [if_pos (by simp [flatD]), in_ints]
theorem rd_moment_for (Z : Ad) (z : ZOk Z) : ∀ (ds : List D) (M : Mem) (Q : D → Mem → Prop) (Ex : XEx), sp_moment_for Z ds M Q Ex → w_moment_for Z { nx := fun _ M' => Q .non M', rt := Q, ex := fun C d _ M' => Ex C d M' } (ds.map some ++ List.replicate (5 - ds.length) none) M := by
  intro ds M Q Ex h
  obtain ⟨t, k, f, mo, hs, rfl, post⟩ := h
  unfold w_moment_for
  cases mo with
  | none =>
    simp only [wSeq, wIfS, wTest, wOp, wVar, wC, wRet, wRetN, wAsg, wgName, wgTup, wgCons, wgNil, wDrop, wCall, wCons, wNil, wTup, wLst, wLstM, wCB, wCR, wIf, wAnd, wOr, wNot, wAndV, wOrV, wNotV, wChain, wUn, wFld, wMeth, wDGet, wDGet2, wDIn, wDPut, wBM, wNext, wPar, wAug, wIterT, wIterL, wRange1, wRange2, wRange3, wMake, wFldS, wNewDict, wDict1, wSl, wNoPart, wPart, wRevL, wRevM, wTupRev, wPos, wRaise, wTry, wAt, wIsX, wEnumT, wLc, wLcM, wFor, wWhile, wBreak, wCont, wYes, exOf, wLPut]
    simp only [] at post
    refine ⟨_, rfl, .bl true, rfl, _, rfl, ifT rfl ?_⟩
    refine ⟨_, rfl, _, rfl, .bl (decide (k < t)), rfl, _, rfl, ?_⟩
    by_cases c : k < t
    · rw [if_pos c] at post
      refine ifT (decide_eq_true c) ?_
      exact ⟨_, rfl, _, rfl, post⟩
    · rw [if_neg c] at post
      refine ifF (decide_eq_false c) ?_
      exact ⟨_, rfl, post⟩
  | some m =>
    simp only [wSeq, wIfS, wTest, wOp, wVar, wC, wRet, wRetN, wAsg, wgName, wgTup, wgCons, wgNil, wDrop, wCall, wCons, wNil, wTup, wLst, wLstM, wCB, wCR, wIf, wAnd, wOr, wNot, wAndV, wOrV, wNotV, wChain, wUn, wFld, wMeth, wDGet, wDGet2, wDIn, wDPut, wBM, wNext, wPar, wAug, wIterT, wIterL, wRange1, wRange2, wRange3, wMake, wFldS, wNewDict, wDict1, wSl, wNoPart, wPart, wRevL, wRevM, wTupRev, wPos, wRaise, wTry, wAt, wIsX, wEnumT, wLc, wLcM, wFor, wWhile, wBreak, wCont, wYes, exOf, wLPut]
    simp only [] at post
    refine ⟨_, rfl, .bl false, rfl, _, rfl, ifF rfl ?_⟩
    refine ⟨_, rfl, _, rfl, .bl (decide (k < m)), rfl, _, rfl, ?_⟩
    by_cases c : k < m
    · rw [if_pos c] at post
      refine ifT (decide_eq_true c) ?_
      exact ⟨_, rfl, _, rfl, post⟩
    · rw [if_neg c] at post
      refine ifF (decide_eq_false c) ?_
      refine ⟨_, rfl, _, rfl, .bl (decide (m < f)), rfl, _, rfl, ?_⟩
      by_cases c2 : m < f
      · refine ifT (decide_eq_true c2) ?_
        refine ⟨_, rfl, _, rfl, _, fIn_ints, _, rfl, ?_⟩
        by_cases c3 : m ∈ hs
        · rw [if_neg (fun h => h.2 c3)] at post
          refine ifF (by simp [c3]) ?_
          exact ⟨_, rfl, post⟩
        · rw [if_pos ⟨c2, c3⟩] at post
          refine ifT (by simp [c3]) ?_
          exact ⟨_, rfl, _, rfl, post⟩
      · rw [if_neg (fun h => c2 h.1)] at post
        refine ifF (decide_eq_false c2) ?_
        exact ⟨_, rfl, post⟩
/-- what is due -/
def momV (t : Int) (mo : Option Int) (k f : Int) (hs : List Int) (bare : Bool) : D := match mo with
  | none => if k < t then .tup [.str "late", .int t] else .tup [.str "read", .int k]
  | some m => if k < m then .tup [.str "late", .int m] else if m < f ∧ (bare = true ∨ m ∉ hs) then .tup [.str "old", .int f] else .tup [.str "read", .int m]
def sp_law_moment (Z : Ad) : DSp := fun ds M Q _ => ∃ (t k f : Int) (mo : Option Int) (hs : List Int) (bare : Bool), ds = [.int t, moD mo, .int k, .int f, .tup (hs.map .int), .bl bare] ∧ Q (momV t mo k f hs bare) M
noncomputable def w_law_moment (Z : Ad) : WS := wTry Z.exm_StoryError 6 (wSeq (wIfS (wTest (wVar 5)) (wRet (wTup (wCons (wC (.str (PySem.Str.ofString "read"))) (wCons (wCall (sp_moment_for Z) [.tup []] (wCons (wVar 0) (wCons (wVar 1) (wCons (wVar 2) (wCons (wVar 3) (wNil)))))) (wNil))))) (wNext)) (wRet (wTup (wCons (wC (.str (PySem.Str.ofString "read"))) (wCons (wCall (sp_moment_for Z) [] (wCons (wVar 0) (wCons (wVar 1) (wCons (wVar 2) (wCons (wVar 3) (wCons (wVar 4) (wNil))))))) (wNil)))))) (fun a C d => wSeq (wPar 7 8 (wCons (wIsX Z.isx a C d 6 Z.c_NotYet) (wCons (wIsX Z.isx a C d 6 Z.c_TooOld) (wNil)))) (wRet (wTup (wCons (wIf (wAnd (wTest (wVar 7)) (wNot (wTest (wVar 8)))) (wC (.str (PySem.Str.ofString "late"))) (wIf (wAnd (wTest (wVar 8)) (wNot (wTest (wVar 7)))) (wC (.str (PySem.Str.ofString "old"))) (wC (.str (PySem.Str.ofString "other"))))) (wCons (wAt a C d 6) (wNil))))))
theorem rd_law_moment (Z : Ad) (z : ZOk Z) : ∀ (ds : List D) (M : Mem) (Q : D → Mem → Prop) (Ex : XEx), sp_law_moment Z ds M Q Ex → w_law_moment Z { nx := fun _ M' => Q .non M', rt := Q, ex := fun C d _ M' => Ex C d M' } (ds.map some ++ List.replicate (9 - ds.length) none) M := by
  intro ds M Q Ex h
  obtain ⟨t, k, f, mo, hs, bare, rfl, post⟩ := h
  unfold w_law_moment
  simp only [wSeq, wIfS, wTest, wOp, wVar, wC, wRet, wRetN, wAsg, wgName, wgTup, wgCons, wgNil, wDrop, wCall, wCons, wNil, wTup, wLst, wLstM, wCB, wCR, wIf, wAnd, wOr, wNot, wAndV, wOrV, wNotV, wChain, wUn, wFld, wMeth, wDGet, wDGet2, wDIn, wDPut, wBM, wNext, wPar, wAug, wIterT, wIterL, wRange1, wRange2, wRange3, wMake, wFldS, wNewDict, wDict1, wSl, wNoPart, wPart, wRevL, wRevM, wTupRev, wPos, wRaise, wTry, wAt, wIsX, wEnumT, wLc, wLcM, wFor, wWhile, wBreak, wCont, wYes, exOf, wLPut]
  have two : (2 : Nat) ≤ sizeLine := by decide
  have split : ∀ (hs' : List Int) (bare' : Bool) (R : D → Mem → Prop) (E : XEx), (∀ m : Int, Q (.tup [.str "read", .int m]) M → R (.int m) M) → (∀ m : Int, Q (.tup [.str "late", .int m]) M → E Z.c_NotYet (.int m) M) → (∀ m : Int, Q (.tup [.str "old", .int m]) M → E Z.c_TooOld (.int m) M) → Q (momV t mo k f hs bare') M → hs' = (if bare' = true then [] else hs) → sp_moment_for Z [.int t, moD mo, .int k, .int f, .tup (hs'.map .int)] M R E := by
    intro hs' bare' R E h1 h2 h3 hq hh
    refine ⟨t, k, f, mo, hs', rfl, ?_⟩
    unfold momV at hq
    cases mo with
    | none =>
      simp only [] at hq ⊢
      by_cases c : k < t
      · rw [if_pos c] at hq ⊢; exact h2 _ hq
      · rw [if_neg c] at hq ⊢; exact h1 _ hq
    | some m =>
      simp only [] at hq ⊢
      by_cases c : k < m
      · rw [if_pos c] at hq ⊢; exact h2 _ hq
      · rw [if_neg c] at hq ⊢
        have e : (m < f ∧ m ∉ hs') ↔ (m < f ∧ (bare' = true ∨ m ∉ hs)) := by
          rw [hh]
          cases bare' <;> simp
        by_cases c2 : m < f ∧ m ∉ hs'
        · rw [if_pos (e.mp c2)] at hq
          rw [if_pos c2]; exact h3 _ hq
        · rw [if_neg (fun h => c2 (e.mpr h))] at hq
          rw [if_neg c2]; exact h1 _ hq
  cases bare with
  | true =>
    refine ⟨_, rfl, _, rfl, ?_⟩
    refine ifT rfl ?_
    refine ⟨_, rfl, _, rfl, _, rfl, _, rfl, split [] true _ _ ?_ ?_ ?_ post rfl⟩
    · exact fun m h => ⟨two, h⟩
    · exact fun m h => ⟨true, z.e1, fun _ a d => ⟨_, true, rfl, z.x11, _, false, rfl, z.x12, _, _, rfl, _, rfl, true, rfl, ifT rfl ⟨_, rfl, false, rfl, ifT rfl ⟨_, rfl, two, h⟩⟩⟩, fun h => (nomatch h)⟩
    · refine fun m h => ⟨true, z.e2, fun _ a d => ⟨_, false, rfl, z.x21, _, true, rfl, z.x22, _, _, rfl, _, rfl, false, rfl, ?_⟩, fun h => (nomatch h)⟩
      refine ifF (by decide) ?_
      refine ifF (by decide) ?_
      exact ⟨_, rfl, true, rfl, ifT rfl ⟨_, rfl, false, rfl, ifT rfl ⟨_, rfl, two, h⟩⟩⟩
  | false =>
    refine ⟨_, rfl, _, rfl, ?_⟩
    refine ifF rfl ?_
    refine ⟨_, rfl, _, rfl, _, rfl, _, rfl, _, rfl, split hs false _ _ ?_ ?_ ?_ post rfl⟩
    · exact fun m h => ⟨two, h⟩
    · exact fun m h => ⟨true, z.e1, fun _ a d => ⟨_, true, rfl, z.x11, _, false, rfl, z.x12, _, _, rfl, _, rfl, true, rfl, ifT rfl ⟨_, rfl, false, rfl, ifT rfl ⟨_, rfl, two, h⟩⟩⟩, fun h => (nomatch h)⟩
    · refine fun m h => ⟨true, z.e2, fun _ a d => ⟨_, false, rfl, z.x21, _, true, rfl, z.x22, _, _, rfl, _, rfl, false, rfl, ?_⟩, fun h => (nomatch h)⟩
      refine ifF (by decide) ?_
      refine ifF (by decide) ?_
      exact ⟨_, rfl, true, rfl, ifT rfl ⟨_, rfl, false, rfl, ifT rfl ⟨_, rfl, two, h⟩⟩⟩
end K47

set_option Elab.async false
set_option linter.all false
set_option maxRecDepth 100000
set_option maxHeartbeats 4000000
namespace K47
open PySem PySem.Spec PyProof.Rows L2 Dl
/-! ### dicts -/
section
variable {κ : Type} [DecidableEq κ]
theorem valD_put {k k' : κ} {v : D} : ∀ {kvs : List (κ × D)}, valD (putD kvs k v) k' = if k = k' then some v else valD kvs k'
  | [] => by
    show (if k = k' then some v else none) = _
    by_cases h : k = k'
    · rw [if_pos h, if_pos h]
    · rw [if_neg h, if_neg h]; rfl
  | p :: r => by
    have ih := valD_put (k := k) (k' := k') (v := v) (kvs := r)
    unfold putD
    by_cases c : p.1 = k
    · rw [if_pos c]
      show (if k = k' then some v else valD r k') = _
      by_cases h : k = k'
      · rw [if_pos h, if_pos h]
      · rw [if_neg h, if_neg h]
        show _ = if p.1 = k' then some p.2 else valD r k'
        rw [if_neg (fun e => h (c.symm.trans e))]
    · rw [if_neg c]
      show (if p.1 = k' then some p.2 else valD (putD r k v) k') = _
      rw [ih]
      show _ = if k = k' then some v else if p.1 = k' then some p.2 else valD r k'
      by_cases h : k = k'
      · rw [if_pos h, if_pos h, if_neg (fun e => c (e.trans h.symm))]
      · rw [if_neg h, if_neg h]
theorem putD_len {k : κ} {v : D} : ∀ {kvs : List (κ × D)}, (putD kvs k v).length ≤ kvs.length + 1
  | [] => Nat.le_refl _
  | p :: r => by
    unfold putD
    by_cases c : p.1 = k
    · rw [if_pos c]; simp
    · rw [if_neg c]; simp [putD_len]
theorem putD_new {k : κ} {v : D} : ∀ {kvs : List (κ × D)}, k ∉ kvs.map (·.1) → putD kvs k v = kvs ++ [(k, v)]
  | [], _ => rfl
  | p :: r, h => by
    unfold putD
    rw [if_neg (fun e => h (by rw [← e]; simp)), putD_new (fun e => h (by simp at e ⊢; exact .inr e))]
    rfl
theorem valD_key {k : κ} : ∀ {kvs : List (κ × D)}, (valD kvs k).isSome = decide (k ∈ kvs.map (·.1))
  | [] => rfl
  | p :: r => by
    have ih := valD_key (k := k) (kvs := r)
    show (if p.1 = k then some p.2 else valD r k).isSome = _
    by_cases c : p.1 = k
    · rw [if_pos c, decide_eq_true (by rw [← c]; simp)]; rfl
    · rw [if_neg c, ih]
      have c' : ¬ k = p.1 := fun e => c e.symm
      simp only [List.map_cons, List.mem_cons, c', false_or]
end
/-! ### who knows what, as the law finds it -/
def sawB (ts : List Talk) (i : Nat) : Bool := match ts[i]? with
  | some (.saw _ _) => true
  | _ => false
def KnownD (ts : List Talk) (k : Nat) (kvs : List (Key × D)) : Prop := (∀ x : Str, (valD kvs (.inr x)).getD (.lst []) = .lst ((knL ts k x).map natD)) ∧ kvs.length ≤ k
def FoundD (ts : List Talk) (k : Nat) (fvs : List (Key × D)) : Prop :=
  fvs.map (·.1) = ((List.range k).filter (sawB ts)).map (fun (i : Nat) => (Sum.inl (i : Int) : Key)) ∧ ∀ (i : Nat) (c : Str) (v : Int), i < k → ts[i]? = some (.saw c v) → valD fvs (.inl (i : Int)) = some (.tup ((knL ts i c).map natD))
theorem FoundD.len {ts : List Talk} {k : Nat} {fvs : List (Key × D)} (F : FoundD ts k fvs) : fvs.length ≤ k := by
  have := congrArg List.length F.1
  rw [List.length_map, List.length_map] at this
  rw [this]
  have := List.length_filter_le (sawB ts) (List.range k)
  rwa [List.length_range] at this
theorem knL_same {ts : List Talk} {k : Nat} {x : Str} (h : ∀ i, knB ts (k + 1) x i = knB ts k x i) : knL ts (k + 1) x = knL ts k x := by
  unfold knL
  rw [List.range_succ, List.filter_append, List.filter_congr (fun i _ => h i)]
  have : [k].filter (knB ts (k + 1) x) = [] := by simp [h, knB_self]
  rw [this, List.append_nil]
theorem KnownD.talk {ts : List Talk} {k : Nat} {kvs : List (Key × D)} (K : KnownD ts k kvs) {a b : Str} (e : ts[k]? = some (.talk a b)) : KnownD ts (k + 1) (putD kvs (.inr b) (.lst ((knL ts (k + 1) b).map natD))) := by
  refine ⟨fun x => ?_, Nat.le_trans putD_len (by have := K.2; omega)⟩
  rw [valD_put]
  by_cases h : b = x
  · rw [h, if_pos rfl]; rfl
  · rw [if_neg (fun z => h (Sum.inr.inj z)), K.1 x, knL_same (fun i => ?_)]
    have : ¬ x = b := fun z => h z.symm
    simp [knB, e, this]
theorem KnownD.saw {ts : List Talk} {k : Nat} {kvs : List (Key × D)} (K : KnownD ts k kvs) {a : Str} {v : Int} (e : ts[k]? = some (.saw a v)) : KnownD ts (k + 1) (putD kvs (.inr a) (.lst ((knL ts (k + 1) a).map natD))) := by
  refine ⟨fun x => ?_, Nat.le_trans putD_len (by have := K.2; omega)⟩
  rw [valD_put]
  by_cases h : a = x
  · rw [h, if_pos rfl]; rfl
  · rw [if_neg (fun z => h (Sum.inr.inj z)), K.1 x, knL_same (fun i => ?_)]
    have : ¬ x = a := fun z => h z.symm
    simp [knB, e, this]
theorem FoundD.talk {ts : List Talk} {k : Nat} {fvs : List (Key × D)} (F : FoundD ts k fvs) {a b : Str} (e : ts[k]? = some (.talk a b)) : FoundD ts (k + 1) fvs := by
  refine ⟨?_, fun i c v hi ei => ?_⟩
  · rw [F.1, List.range_succ, List.filter_append]
    have : [k].filter (sawB ts) = [] := by simp [sawB, e]
    rw [this, List.append_nil]
  · by_cases h : i = k
    · rw [h, e] at ei; cases ei
    · exact F.2 i c v (by omega) ei
theorem FoundD.saw {ts : List Talk} {k : Nat} {fvs : List (Key × D)} (F : FoundD ts k fvs) {a : Str} {v : Int} (e : ts[k]? = some (.saw a v)) : FoundD ts (k + 1) (putD fvs (.inl (k : Int)) (.tup ((knL ts k a).map natD))) := by
  have hn : (Sum.inl (k : Int) : Key) ∉ fvs.map (·.1) := by
    rw [F.1]
    intro h
    obtain ⟨i, hi, ei⟩ := List.mem_map.mp h
    have h1 := List.mem_range.mp (List.mem_filter.mp hi).1
    have h2 := Sum.inl.inj ei
    omega
  refine ⟨?_, fun i c w hi ei => ?_⟩
  · rw [putD_new hn, List.map_append, F.1, List.range_succ, List.filter_append]
    have : [k].filter (sawB ts) = [k] := by simp [sawB, e]
    rw [this, List.map_append]
    rfl
  · rw [valD_put]
    by_cases h : i = k
    · subst h
      rw [e] at ei
      cases ei
      rw [if_pos rfl]
    · rw [if_neg (fun z => h (by have := Sum.inl.inj z; omega))]
      exact F.2 i c w (by omega) ei
theorem natInts (L : List Nat) : L.map natD = (L.map fun (i : Nat) => (i : Int)).map D.int := by rw [List.map_map]; rfl
theorem rising_nat {L : List Nat} (h : L.Pairwise (· < ·)) : (L.map fun (i : Nat) => (i : Int)).Pairwise (· < ·) := by
  rw [List.pairwise_map]
  exact h.imp fun h => by omega
/-- sorted(set(xs)) is L -/
theorem sorted_is {L : List Nat} (hL : L.Pairwise (· < ·)) {S : Int → Bool} (hS : ∀ i : Int, S i = true ↔ ∃ n : Nat, i = (n : Int) ∧ n ∈ L) {ns : List Int} (h1 : ns.Pairwise (· < ·)) (h2 : ∀ k : Int, k ∈ ns ↔ S k = true) : ns.map D.int = L.map natD := by
  rw [natInts]
  congr 1
  refine rising_unique h1 (rising_nat hL) fun k => ?_
  rw [h2, hS, List.mem_map]
  exact ⟨fun ⟨n, e, h⟩ => ⟨n, h, e.symm⟩, fun ⟨n, h, e⟩ => ⟨n, e.symm, h⟩⟩
theorem intsFrom_at {n k : Nat} {d : D} (h : (Dl.intsFrom 0 n)[k]? = some d) : k < n ∧ d = natD k := by
  have hk : k < n := by
    have := (List.getElem?_eq_some_iff.mp h).1
    rwa [intsFrom_length] at this
  refine ⟨hk, ?_⟩
  unfold Dl.intsFrom at h
  rw [List.getElem?_map, List.getElem?_range hk] at h
  rw [← Option.some.inj h]
  show D.int (0 + (k : Int)) = _
  rw [Int.zero_add]
  rfl
theorem sorted_step {w : World} {A L : List Nat} {M2 : Mem} {R : D → Mem → Prop} (hA : A.length ≤ 60) (hL : L.Pairwise (· < ·)) (hm : ∀ n, n ∈ L ↔ n ∈ A) (h : ∀ M3, Kept M2 M3 → R (.lst (L.map natD)) M3) : gSet w [.lst (A.map natD)] M2 (fun x M1 => gSortedSet w [x] M1 R) := by
  refine ⟨_, A.map natD, A.map (fun (i : Nat) => (i : Int)), rfl, rfl, by rw [natInts, intsD_map], ?_, fun p c hp hc => ?_⟩
  · rw [List.length_map]
    exact Nat.lt_of_le_of_lt (Nat.succ_le_succ hA) (by decide)
  · rw [List.length_map] at hc
    refine ⟨p, _, c, rfl, updM_same, by omega, fun ns h1 h2 _ => ?_⟩
    rw [sorted_is hL (fun i => ?_) h1 h2]
    · exact h _ (Kept.new hp)
    · rw [decide_eq_true_iff, List.mem_map]
      exact ⟨fun ⟨n, hn, e⟩ => ⟨n, e.symm, (hm n).mpr hn⟩, fun ⟨n, e, hn⟩ => ⟨n, (hm n).mp hn, e.symm⟩⟩
def sp_law_knowing (Z : Ad) : DSp := fun ds M Q _ => ∃ ts : List Talk, ds = [.tup (ts.map talkD)] ∧ ts.length ≤ 20 ∧ ∀ (kn fo : Addr) (kvs fvs : List (Key × D)) (M' : Mem), KnownD ts ts.length kvs → FoundD ts ts.length fvs → M kn = none → M fo = none → M' kn = some (.dct kvs) → M' fo = some (.dct fvs) → Kept M M' → Q (.tup [.adr kn, .adr fo]) M'
noncomputable def w_law_knowing (Z : Ad) : WS := wSeq (wPar 1 2 (wCons (wNewDict) (wCons (wNewDict) (wNil)))) (wSeq (wFor (wRange1 (wCons (wCB fLen (wCons (wVar 0) (wNil))) (wNil))) (wgName 3) (wSeq (wAsg (wOp fIx (wVar 0) (wVar 3)) (wgName 4)) (wIfS (wTest (wOp fEq (wOp fIx (wVar 4) (wC (.int 0))) (wC (.str (PySem.Str.ofString "talk"))))) (wDPut (wVar 1) (wOp fIx (wVar 4) (wC (.int 2))) (wCR (gSortedSet Z.w) (wCons (wCR (gSet Z.w) (wCons (wOp fAdd (wDGet2 (wVar 1) (wOp fIx (wVar 4) (wC (.int 2))) (wLst (wNil))) (wDGet2 (wVar 1) (wOp fIx (wVar 4) (wC (.int 1))) (wLst (wNil)))) (wNil))) (wNil)))) (wSeq (wDPut (wVar 2) (wVar 3) (wCB fTuple (wCons (wDGet2 (wVar 1) (wOp fIx (wVar 4) (wC (.int 1))) (wLst (wNil))) (wNil)))) (wDPut (wVar 1) (wOp fIx (wVar 4) (wC (.int 1))) (wCR (gSortedSet Z.w) (wCons (wCR (gSet Z.w) (wCons (wOp fAdd (wDGet2 (wVar 1) (wOp fIx (wVar 4) (wC (.int 1))) (wLst (wNil))) (wLst (wCons (wVar 3) (wNil)))) (wNil))) (wNil)))))))) (wRet (wTup (wCons (wVar 1) (wCons (wVar 2) (wNil))))))
def knowI (M : Mem) (ts : List Talk) (kn fo : Addr) (k : Nat) (ρ : Rho) (M' : Mem) : Prop :=
  ∃ (x3 x4 : Option D) (kvs fvs : List (Key × D)), ρ = [some (.tup (ts.map talkD)), some (.adr kn), some (.adr fo), x3, x4] ∧ M' kn = some (.dct kvs) ∧ M' fo = some (.dct fvs) ∧ KnownD ts k kvs ∧ FoundD ts k fvs ∧ Kept M M'
theorem rd_law_knowing (Z : Ad) (z : ZOk Z) : ∀ (ds : List D) (M : Mem) (Q : D → Mem → Prop) (Ex : XEx), sp_law_knowing Z ds M Q Ex → w_law_knowing Z { nx := fun _ M' => Q .non M', rt := Q, ex := fun C d _ M' => Ex C d M' } (ds.map some ++ List.replicate (5 - ds.length) none) M := by
  intro ds M Q Ex h
  obtain ⟨ts, rfl, hl, post⟩ := h
  unfold w_law_knowing
  refine wSeq_step (fun ρ M' => ∃ kn fo, knowI M ts kn fo 0 ρ M' ∧ M kn = none ∧ M fo = none ∧ kn ≠ fo) (fun k hk => ?_) ?_
  · simp only [wSeq, wIfS, wTest, wOp, wVar, wC, wRet, wRetN, wAsg, wgName, wgTup, wgCons, wgNil, wDrop, wCall, wCons, wNil, wTup, wLst, wLstM, wCB, wCR, wIf, wAnd, wOr, wNot, wAndV, wOrV, wNotV, wChain, wUn, wFld, wMeth, wDGet, wDGet2, wDIn, wDPut, wBM, wNext, wPar, wAug, wIterT, wIterL, wRange1, wRange2, wRange3, wMake, wFldS, wNewDict, wDict1, wSl, wNoPart, wPart, wRevL, wRevM, wTupRev, wPos, wRaise, wTry, wAt, wIsX, wEnumT, wLc, wLcM, wFor, wWhile, wBreak, wCont, wYes, exOf, wLPut]
    intro kn hkn fo hfo
    have hne : kn ≠ fo := fun e => by rw [← e, updM_same] at hfo; cases hfo
    have hfM : M fo = none := by rw [updM_ne (Ne.symm hne)] at hfo; exact hfo
    refine ⟨_, _, rfl, hk _ _ ⟨kn, fo, ⟨none, none, [], [], rfl, by rw [updM_ne hne, updM_same], by rw [updM_same], ⟨fun x => rfl, Nat.le_refl _⟩, ⟨rfl, fun i c v h => absurd h (Nat.not_lt_zero _)⟩, (Kept.new hkn).upd hfM⟩, hkn, hfM, hne⟩⟩
  · rintro ρ M1 ⟨kn, fo, I0, hkn, hfo, hne⟩
    refine wSeq_step (fun ρ M' => knowI M ts kn fo ts.length ρ M') (fun k hk => ?_) ?_
    · unfold wFor wRange1
      obtain ⟨x3, x4, kvs, fvs, rfl, _⟩ := id I0
      simp only [wSeq, wIfS, wTest, wOp, wVar, wC, wRet, wRetN, wAsg, wgName, wgTup, wgCons, wgNil, wDrop, wCall, wCons, wNil, wTup, wLst, wLstM, wCB, wCR, wIf, wAnd, wOr, wNot, wAndV, wOrV, wNotV, wChain, wUn, wFld, wMeth, wDGet, wDGet2, wDIn, wDPut, wBM, wNext, wPar, wAug, wIterT, wIterL, wRange1, wRange2, wRange3, wMake, wFldS, wNewDict, wDict1, wSl, wNoPart, wPart, wRevL, wRevM, wTupRev, wPos, wRaise, wTry, wAt, wIsX, wEnumT, wLc, wLcM, wFor, wWhile, wBreak, wCont, wYes, exOf, wLPut]
      refine ⟨_, rfl, .int (ts.map talkD).length, by simp [fLen, itemsD], _, rfl, by omega, by rw [List.length_map]; omega, ?_⟩
      refine forD_inv _ (knowI M ts kn fo) ?_ (fun ρ M' h => hk _ _ (by rwa [intsFrom_length, List.length_map, Int.toNat_natCast] at h)) I0
      rintro k d rest ρ M2 hdr hd ⟨x3, x4, kvs, fvs, rfl, hk1, hf1, KD, FD, kp⟩ next
      obtain ⟨hlt, rfl⟩ := intsFrom_at hd
      rw [List.length_map, Int.toNat_natCast] at hlt
      obtain ⟨t, et⟩ : ∃ t, ts[k]? = some t := ⟨ts[k], List.getElem?_eq_getElem hlt⟩
      have kz : ∀ (x : Str), (knL ts k x).length ≤ 20 := fun x => Nat.le_trans (knL_len ts k x) (by omega)
      simp only [wSeq, wIfS, wTest, wOp, wVar, wC, wRet, wRetN, wAsg, wgName, wgTup, wgCons, wgNil, wDrop, wCall, wCons, wNil, wTup, wLst, wLstM, wCB, wCR, wIf, wAnd, wOr, wNot, wAndV, wOrV, wNotV, wChain, wUn, wFld, wMeth, wDGet, wDGet2, wDIn, wDPut, wBM, wNext, wPar, wAug, wIterT, wIterL, wRange1, wRange2, wRange3, wMake, wFldS, wNewDict, wDict1, wSl, wNoPart, wPart, wRevL, wRevM, wTupRev, wPos, wRaise, wTry, wAt, wIsX, wEnumT, wLc, wLcM, wFor, wWhile, wBreak, wCont, wYes, exOf, wLPut]
      refine ⟨_, rfl, natD k, rfl, _, ix_tup (atT et), ?_⟩
      cases t with
      | talk a b =>
        refine ⟨_, rfl, _, ix_tup rfl, .bl true, by simp [fEq, eqS], _, rfl, ifT rfl ?_⟩
        refine ⟨_, rfl, ⟨kn, kvs, rfl, hk1⟩, _, rfl, _, ix_tup rfl, by decide, _, ⟨kn, kvs, _, rfl, hk1, rfl, rfl⟩, ?_⟩
        refine ⟨_, rfl, ⟨kn, kvs, rfl, hk1⟩, _, rfl, _, ix_tup rfl, by decide, _, ⟨kn, kvs, _, rfl, hk1, rfl, rfl⟩, ?_⟩
        rw [KD.1 b, KD.1 a]
        refine ⟨_, guardD_pos (by rw [List.length_map, List.length_map]; exact Nat.le_of_lt (small1000 (by have := kz a; have := kz b; omega))), ?_⟩
        rw [← List.map_append]
        refine sorted_step (L := knL ts (k + 1) b) (by rw [List.length_append]; have := kz a; have := kz b; omega) (knL_sorted _ _ _) (fun n => ?_) (fun M3 kp3 => ?_)
        · rw [mem_knL, List.mem_append, mem_knL, mem_knL]
          simp [knB, et]
        · refine ⟨_, rfl, _, rfl, _, ix_tup rfl, kn, kvs, _, rfl, kp3 _ _ hk1, rfl, small1000 (by have := KD.2; omega), ?_⟩
          exact next _ _ ⟨_, _, _, fvs, rfl, updM_same, by rw [updM_ne (Ne.symm hne)]; exact kp3 _ _ hf1, KD.talk et, FD.talk et, (kp.trans kp3).upd hkn⟩
      | saw a v =>
        refine ⟨_, rfl, _, ix_tup rfl, .bl false, by simp [fEq, eqS, talkD]; decide, _, rfl, ifF rfl ?_⟩
        refine ⟨_, rfl, ⟨kn, kvs, rfl, hk1⟩, _, rfl, _, ix_tup rfl, by decide, _, ⟨kn, kvs, _, rfl, hk1, rfl, rfl⟩, ?_⟩
        rw [KD.1 a]
        refine ⟨_, rfl, _, rfl, _, rfl, fo, fvs, _, rfl, hf1, rfl, small1000 (by have := FD.len; omega), ?_⟩
        have hk2 : (updM M2 fo (.dct (putD fvs (.inl (k : Int)) (.tup ((knL ts k a).map natD))))) kn = some (.dct kvs) := by rw [updM_ne hne]; exact hk1
        refine ⟨_, rfl, ⟨kn, kvs, rfl, hk2⟩, _, rfl, _, ix_tup rfl, by decide, _, ⟨kn, kvs, _, rfl, hk2, rfl, rfl⟩, ?_⟩
        rw [KD.1 a]
        refine ⟨_, rfl, by show 1 ≤ sizeLine; decide, ?_⟩
        refine ⟨_, guardD_pos (by rw [List.length_map]; exact Nat.le_of_lt (small1000 (by have := kz a; simp; omega))), ?_⟩
        rw [show (knL ts k a).map natD ++ [natD k] = (knL ts k a ++ [k]).map natD by rw [List.map_append]; rfl]
        refine sorted_step (L := knL ts (k + 1) a) (by rw [List.length_append]; have := kz a; simp; omega) (knL_sorted _ _ _) (fun n => ?_) (fun M3 kp3 => ?_)
        · rw [mem_knL, List.mem_append, mem_knL]
          simp [knB, et]
        · refine ⟨_, rfl, _, rfl, _, ix_tup rfl, kn, kvs, _, rfl, kp3 _ _ hk2, rfl, small1000 (by have := KD.2; omega), ?_⟩
          exact next _ _ ⟨_, _, _, _, rfl, updM_same, by rw [updM_ne (Ne.symm hne)]; exact kp3 _ _ updM_same, KD.saw et, FD.saw et, ((kp.upd hfo).trans kp3).upd hkn⟩
    · rintro ρ M2 ⟨x3, x4, kvs, fvs, rfl, hk1, hf1, KD, FD, kp⟩
      simp only [wSeq, wIfS, wTest, wOp, wVar, wC, wRet, wRetN, wAsg, wgName, wgTup, wgCons, wgNil, wDrop, wCall, wCons, wNil, wTup, wLst, wLstM, wCB, wCR, wIf, wAnd, wOr, wNot, wAndV, wOrV, wNotV, wChain, wUn, wFld, wMeth, wDGet, wDGet2, wDIn, wDPut, wBM, wNext, wPar, wAug, wIterT, wIterL, wRange1, wRange2, wRange3, wMake, wFldS, wNewDict, wDict1, wSl, wNoPart, wPart, wRevL, wRevM, wTupRev, wPos, wRaise, wTry, wAt, wIsX, wEnumT, wLc, wLcM, wFor, wWhile, wBreak, wCont, wYes, exOf, wLPut]
      exact ⟨_, rfl, _, rfl, by show 2 ≤ sizeLine; decide, post kn fo kvs fvs M2 KD FD hkn hfo hk1 hf1 kp⟩
end K47

set_option Elab.async false
set_option linter.all false
set_option maxRecDepth 100000
set_option maxHeartbeats 4000000
namespace K47
open PySem PySem.Spec PyProof.Rows L2 Dl
/-! ### bent pairs -/
def spr_law_bent (Z : Ad) : Nat → DSp
  | 0 => fun _ _ _ _ => False
  | j + 1 => fun ds M Q _ => ∃ (p q : Addr) (x y : Int) (ps : List D), ds = [.adr p, .tup [.int x, .int y], .lst ps] ∧ ps.length ≤ 100 ∧ (∀ d ∈ ps, partD d) ∧ HeapAt M p q ∧ ∀ (v : D) (M' : Mem), valOk M' v → HeapAt M' p q → HSame p q M M' → Q v M'
def sp_law_bent (Z : Ad) : DSp := spr_law_bent Z 2
noncomputable def w_law_bent (Z : Ad) (j : Nat) : WS := wSeq (wAsg (wCall (sp_law_draw Z) [] (wCons (wVar 0) (wCons (wC (.int 10)) (wNil)))) (wgName 3)) (wSeq (wIfS (wOr (wTest (wOp fEq (wVar 3) (wC (.int 0)))) (wTest (wOp fEq (wCB fLen (wCons (wVar 1) (wNil))) (wC (.int 0))))) (wRet (wCall (sp_law_pick Z) [] (wCons (wVar 0) (wCons (wLst (wCons (wSl gSlT (wVar 1) (wNoPart) (wPart (wUn fNeg (wC (.int 1))))) (wCons (wOp fAdd (wVar 1) (wTup (wCons (wC (.int 0)) (wNil)))) (wCons (wCB fList (wCons (wVar 1) (wNil))) (wCons (wC .non) (wCons (wTup (wNil)) (wCons (wSl gSlT (wVar 1) (wNoPart) (wPart (wC (.int 1)))) (wCons (wC (.int 5)) (wCons (wC (.str (PySem.Str.ofString "more"))) (wCons (wTup (wCons (wTup (wCons (wC (.int 0)) (wNil))) (wNil))) (wCons (wNewDict) (wNil)))))))))))) (wNil))))) (wNext)) (wSeq (wAsg (wCall (sp_law_draw Z) [] (wCons (wVar 0) (wCons (wCB fLen (wCons (wVar 1) (wNil))) (wNil)))) (wgName 4)) (wSeq (wIfS (wAnd (wTest (wOp fLt (wVar 3) (wC (.int 5)))) (wAnd (wTest (wCB fIsi (wCons (wOp fIx (wVar 1) (wVar 4)) (wCons (wC (.ty "tuple")) (wNil))))) (wTest (wOp fGt (wCB fLen (wCons (wOp fIx (wVar 1) (wVar 4)) (wNil))) (wC (.int 0)))))) (wAsg (wIf (wTest (wOp fLt (wVar 3) (wC (.int 4)))) (wCall (spr_law_bent Z j) [] (wCons (wVar 0) (wCons (wOp fIx (wVar 1) (wVar 4)) (wCons (wVar 2) (wNil))))) (wCB fList (wCons (wOp fIx (wVar 1) (wVar 4)) (wNil)))) (wgName 5)) (wIfS (wAnd (wTest (wOp fLt (wVar 3) (wC (.int 8)))) (wTest (wCB fIsi (wCons (wOp fIx (wVar 1) (wVar 4)) (wCons (wC (.ty "int")) (wNil)))))) (wAsg (wOp fAdd (wOp fIx (wVar 1) (wVar 4)) (wCall (sp_law_pick Z) [] (wCons (wVar 0) (wCons (wLst (wCons (wC (.int 1)) (wCons (wC (.int 1)) (wCons (wOp fSub (wC (.int 0)) (wC (.int 1))) (wCons (wC (.int 2)) (wNil)))))) (wNil))))) (wgName 5)) (wAsg (wCall (sp_law_pick Z) [] (wCons (wVar 0) (wCons (wOp fAdd (wCB fList (wCons (wVar 2) (wNil))) (wLst (wCons (wC .non) (wCons (wC (.bl true)) (wCons (wOp fSub (wC (.int 0)) (wC (.int 1))) (wCons (wC (.int 0)) (wCons (wC (.int 1)) (wCons (wC (.str (PySem.Str.ofString "mark"))) (wCons (wTup (wNil)) (wCons (wTup (wCons (wC (.int 0)) (wNil))) (wCons (wOp fPow (wC (.int 10)) (wC (.int 9))) (wNil)))))))))))) (wNil)))) (wgName 5)))) (wRet (wOp fAdd (wOp fAdd (wSl gSlT (wVar 1) (wNoPart) (wPart (wVar 4))) (wTup (wCons (wVar 5) (wNil)))) (wSl gSlT (wVar 1) (wPart (wOp fAdd (wVar 4) (wC (.int 1)))) (wNoPart)))))))
theorem lenr_law_bent (Z : Ad) : ∀ (j : Nat) (ds : List D) (M : Mem) (Q : D → Mem → Prop) (E : XEx), spr_law_bent Z j ds M Q E → ds.length = 3 := by
  intro j ds M Q E h
  cases j with
  | zero => exact h.elim
  | succ j =>
    obtain ⟨p, q, x, y, ps, rfl, _⟩ := h
    rfl
theorem cut_mem {xs : List D} {lo hi : Option Int} {d : D} (h : d ∈ Dl.cutD xs lo hi) : d ∈ xs := List.mem_of_mem_drop (List.mem_of_mem_take h)
theorem cut_len {xs : List D} {lo hi : Option Int} : (Dl.cutD xs lo hi).length ≤ xs.length := by
  unfold Dl.cutD
  rw [List.length_take, List.length_drop]
  omega
theorem part_int {i : Int} : partD (.int i) := .inr (.inr (.inl ⟨i, rfl⟩))
theorem part_tup {xs : List D} : partD (.tup xs) := .inr (.inr (.inr (.inr ⟨xs, rfl⟩)))
theorem ifS_false {wt : WT} {a b : WS} {P : Posts} {ρ : Rho} {M : Mem} (h : ∀ (R : Bool → Mem → Prop) (E : XEx), R false M → wt R E ρ M) (hb : b P ρ M) : wIfS wt a b P ρ M := h _ _ (ifF rfl hb)
theorem rd_law_bent (Z : Ad) (z : ZOk Z) (j : Nat) : ∀ (ds : List D) (M : Mem) (Q : D → Mem → Prop) (Ex : XEx), spr_law_bent Z (j + 1) ds M Q Ex → w_law_bent Z j { nx := fun _ M' => Q .non M', rt := Q, ex := fun C d _ M' => Ex C d M' } (ds.map some ++ List.replicate (6 - ds.length) none) M := by
  intro ds M Q Ex h
  obtain ⟨p, q, x, y, ps, rfl, hpl, hps, hh, post⟩ := h
  have two : ∀ d ∈ [D.int x, D.int y], partD d := fun d hd => by
    rcases List.mem_cons.mp hd with rfl | hd
    · exact part_int
    · rw [List.mem_singleton.mp hd]; exact part_int
  have small : ∀ {n : Nat}, n ≤ 200 → n ≤ sizeLine := fun h => Nat.le_of_lt (small1000 (by omega))
  unfold w_law_bent
  refine wSeq_step (fun ρ M' => ∃ kd : Int, ρ = [some (.adr p), some (.tup [.int x, .int y]), some (.lst ps), some (.int kd), none, none] ∧ HeapAt M' p q ∧ HSame p q M M') (fun k hk => ?_) ?_
  · simp only [wSeq, wIfS, wTest, wOp, wVar, wC, wRet, wRetN, wAsg, wgName, wgTup, wgCons, wgNil, wDrop, wCall, wCons, wNil, wTup, wLst, wLstM, wCB, wCR, wIf, wAnd, wOr, wNot, wAndV, wOrV, wNotV, wChain, wUn, wFld, wMeth, wDGet, wDGet2, wDIn, wDPut, wBM, wNext, wPar, wAug, wIterT, wIterL, wRange1, wRange2, wRange3, wMake, wFldS, wNewDict, wDict1, wSl, wNoPart, wPart, wRevL, wRevM, wTupRev, wPos, wRaise, wTry, wAt, wIsX, wEnumT, wLc, wLcM, wFor, wWhile, wBreak, wCont, wYes, exOf, wLPut]
    exact ⟨_, rfl, p, q, 10, rfl, by decide, by decide, hh, fun r M' _ _ h1 h2 => hk _ _ ⟨r, rfl, h1, h2⟩⟩
  · rintro ρ M1 ⟨kd, rfl, hh1, sm1⟩
    refine wSeq_step (fun ρ M' => ρ = [some (.adr p), some (.tup [.int x, .int y]), some (.lst ps), some (.int kd), none, none] ∧ HeapAt M' p q ∧ HSame p q M M') (fun k hk => ?_) ?_
    · simp only [wSeq, wIfS, wTest, wOp, wVar, wC, wRet, wRetN, wAsg, wgName, wgTup, wgCons, wgNil, wDrop, wCall, wCons, wNil, wTup, wLst, wLstM, wCB, wCR, wIf, wAnd, wOr, wNot, wAndV, wOrV, wNotV, wChain, wUn, wFld, wMeth, wDGet, wDGet2, wDIn, wDPut, wBM, wNext, wPar, wAug, wIterT, wIterL, wRange1, wRange2, wRange3, wMake, wFldS, wNewDict, wDict1, wSl, wNoPart, wPart, wRevL, wRevM, wTupRev, wPos, wRaise, wTry, wAt, wIsX, wEnumT, wLc, wLcM, wFor, wWhile, wBreak, wCont, wYes, exOf, wLPut]
      refine ⟨_, rfl, .bl (decide (kd = 0)), rfl, _, rfl, ?_⟩
      by_cases h0 : kd = 0
      · refine ifT (decide_eq_true h0) ?_
        have hd : ∀ {n : Nat}, n ≤ 20 → n ≤ sizeLine := fun h => small (by omega)
        refine ⟨_, rfl, _, rfl, _, rfl, -1, rfl, _, rfl, _, rfl, hd (by show 1 ≤ 20; decide), _, guardD_pos (hd (by show 3 ≤ 20; decide)), _, rfl, _, rfl, hd (by show 0 ≤ 20; decide), _, rfl, 1, rfl, _, rfl, hd (by show 1 ≤ 20; decide), hd (by show 1 ≤ 20; decide), fun l hl => ⟨hd (by show 10 ≤ 20; decide), p, q, _, rfl, by show 0 < 10; decide, by show 10 < 1073741824; decide, hh1.keep hl, fun v M2 hv h1 h2 => ?_⟩⟩
        have hlp : l ≠ p := fun e => by obtain ⟨_, _, _, h, _⟩ := hh1; rw [e, h] at hl; cases hl
        have hlq : l ≠ q := fun e => by obtain ⟨_, _, _, _, h, _⟩ := hh1; rw [e, h] at hl; cases hl
        refine post v M2 ?_ h1 (sm1.trans ((HSame.new hl).trans h2))
        have cut2 : ∀ {lo hi : Option Int}, valOk M2 (.tup (Dl.cutD [.int x, .int y] lo hi)) := fun {lo hi} => .inl ⟨_, rfl, Nat.le_trans cut_len (by show 2 ≤ 1000; decide), fun d hd => two d (cut_mem hd)⟩
        simp only [List.mem_cons, List.not_mem_nil, or_false] at hv
        rcases hv with rfl | rfl | rfl | rfl | rfl | rfl | rfl | rfl | rfl | rfl
        · exact cut2
        · refine .inl ⟨_, rfl, by show 3 ≤ 1000; decide, fun d hd => ?_⟩
          rcases List.mem_append.mp hd with hd | hd
          · exact two d hd
          · rw [List.mem_singleton.mp hd]; exact part_int
        · exact .inr ⟨"list", rfl, by decide⟩
        · exact .inr ⟨"NoneType", rfl, by decide⟩
        · exact .inl ⟨[], rfl, by decide, fun d hd => (nomatch hd)⟩
        · exact cut2
        · exact .inr ⟨"int", rfl, by decide⟩
        · exact .inr ⟨"str", rfl, by decide⟩
        · exact .inl ⟨_, rfl, by decide, fun d hd => by rw [List.mem_singleton.mp hd]; exact part_tup⟩
        · refine .inr ⟨"dict", ?_, by decide⟩
          show (match M2 l with | some (.lst _) => some "list" | some (.dct _) => some "dict" | _ => none) = _
          rw [h2 l _ hlp hlq updM_same]
      · refine ifF (decide_eq_false h0) ?_
        exact ⟨_, rfl, .int 2, rfl, .bl false, rfl, _, rfl, ifF rfl (hk _ _ ⟨rfl, hh1, sm1⟩)⟩
    · rintro ρ M2 ⟨rfl, hh2, sm2⟩
      refine wSeq_step (fun ρ M' => ∃ at_ : Nat, at_ < 2 ∧ ρ = [some (.adr p), some (.tup [.int x, .int y]), some (.lst ps), some (.int kd), some (natD at_), none] ∧ HeapAt M' p q ∧ HSame p q M M') (fun k hk => ?_) ?_
      · simp only [wSeq, wIfS, wTest, wOp, wVar, wC, wRet, wRetN, wAsg, wgName, wgTup, wgCons, wgNil, wDrop, wCall, wCons, wNil, wTup, wLst, wLstM, wCB, wCR, wIf, wAnd, wOr, wNot, wAndV, wOrV, wNotV, wChain, wUn, wFld, wMeth, wDGet, wDGet2, wDIn, wDPut, wBM, wNext, wPar, wAug, wIterT, wIterL, wRange1, wRange2, wRange3, wMake, wFldS, wNewDict, wDict1, wSl, wNoPart, wPart, wRevL, wRevM, wTupRev, wPos, wRaise, wTry, wAt, wIsX, wEnumT, wLc, wLcM, wFor, wWhile, wBreak, wCont, wYes, exOf, wLPut]
        refine ⟨_, rfl, _, rfl, .int 2, rfl, p, q, 2, rfl, by decide, by decide, hh2, fun r M' h0 h1 h2 h3 => ?_⟩
        obtain ⟨r', rfl⟩ := Int.eq_ofNat_of_zero_le h0
        exact hk _ _ ⟨r', by omega, rfl, h2, sm2.trans h3⟩
      · rintro ρ M3 ⟨at_, hat, rfl, hh3, sm3⟩
        obtain ⟨v, hv⟩ : ∃ v, fIx (.tup [.int x, .int y]) (natD at_) M3 = some (.int v) := by
          have : at_ = 0 ∨ at_ = 1 := by omega
          rcases this with rfl | rfl
          · exact ⟨x, rfl⟩
          · exact ⟨y, rfl⟩
        refine wSeq_step (fun ρ M' => ∃ part : D, partD part ∧ ρ = [some (.adr p), some (.tup [.int x, .int y]), some (.lst ps), some (.int kd), some (natD at_), some part] ∧ HeapAt M' p q ∧ HSame p q M M') (fun k hk => ?_) ?_
        · refine ifS_false (fun R E h => ?_) ?_
          · simp only [wSeq, wIfS, wTest, wOp, wVar, wC, wRet, wRetN, wAsg, wgName, wgTup, wgCons, wgNil, wDrop, wCall, wCons, wNil, wTup, wLst, wLstM, wCB, wCR, wIf, wAnd, wOr, wNot, wAndV, wOrV, wNotV, wChain, wUn, wFld, wMeth, wDGet, wDGet2, wDIn, wDPut, wBM, wNext, wPar, wAug, wIterT, wIterL, wRange1, wRange2, wRange3, wMake, wFldS, wNewDict, wDict1, wSl, wNoPart, wPart, wRevL, wRevM, wTupRev, wPos, wRaise, wTry, wAt, wIsX, wEnumT, wLc, wLcM, wFor, wWhile, wBreak, wCont, wYes, exOf, wLPut]
            refine ⟨_, rfl, .bl (decide (kd < 5)), rfl, _, rfl, ?_⟩
            by_cases c : kd < 5
            · refine ifT (decide_eq_true c) ?_
              exact ⟨_, rfl, _, rfl, _, hv, .bl false, by simp [fIsi, kindD, isTy], _, rfl, ifF rfl h⟩
            · exact ifF (decide_eq_false c) h
          · simp only [wSeq, wIfS, wTest, wOp, wVar, wC, wRet, wRetN, wAsg, wgName, wgTup, wgCons, wgNil, wDrop, wCall, wCons, wNil, wTup, wLst, wLstM, wCB, wCR, wIf, wAnd, wOr, wNot, wAndV, wOrV, wNotV, wChain, wUn, wFld, wMeth, wDGet, wDGet2, wDIn, wDPut, wBM, wNext, wPar, wAug, wIterT, wIterL, wRange1, wRange2, wRange3, wMake, wFldS, wNewDict, wDict1, wSl, wNoPart, wPart, wRevL, wRevM, wTupRev, wPos, wRaise, wTry, wAt, wIsX, wEnumT, wLc, wLcM, wFor, wWhile, wBreak, wCont, wYes, exOf, wLPut]
            refine ⟨_, rfl, .bl (decide (kd < 8)), rfl, _, rfl, ?_⟩
            by_cases c : kd < 8
            · refine ifT (decide_eq_true c) ?_
              refine ⟨_, rfl, _, rfl, _, hv, .bl true, by simp [fIsi, kindD, isTy], _, rfl, ifT rfl ?_⟩
              refine ⟨_, rfl, _, rfl, _, hv, _, rfl, _, rfl, by show 4 ≤ sizeLine; exact small (by decide), p, q, _, rfl, by show 0 < 4; decide, by show 4 < 1073741824; decide, hh3, fun w M' hw h1 h2 => ?_⟩
              have : ∃ i, w = .int i := by
                simp only [List.mem_cons, List.not_mem_nil, or_false] at hw
                rcases hw with rfl | rfl | rfl | rfl <;> exact ⟨_, rfl⟩
              obtain ⟨i, rfl⟩ := this
              exact ⟨_, rfl, hk _ _ ⟨_, part_int, rfl, h1, sm3.trans h2⟩⟩
            · refine ifF (decide_eq_false c) ?_
              refine ⟨_, rfl, _, rfl, _, rfl, _, rfl, small (by show 0 ≤ 200; decide), small (by show 1 ≤ 200; decide), _, guardD_pos ⟨by decide, by decide, by decide⟩, small (by show 9 ≤ 200; decide), _, guardD_pos (small (by simp; omega)), p, q, _, rfl, by simp, ?_, hh3, fun w M' hw h1 h2 => ?_⟩
              · simp; omega
              · refine hk _ _ ⟨w, ?_, rfl, h1, sm3.trans h2⟩
                rcases List.mem_append.mp hw with hw | hw
                · exact hps w hw
                · simp only [List.mem_cons, List.not_mem_nil, or_false] at hw
                  rcases hw with rfl | rfl | rfl | rfl | rfl | rfl | rfl | rfl | rfl
                  · exact .inl rfl
                  · exact .inr (.inl ⟨_, rfl⟩)
                  · exact part_int
                  · exact part_int
                  · exact part_int
                  · exact .inr (.inr (.inr (.inl ⟨_, rfl⟩)))
                  · exact part_tup
                  · exact part_tup
                  · exact part_int
        · rintro ρ M4 ⟨part, hp, rfl, hh4, sm4⟩
          simp only [wSeq, wIfS, wTest, wOp, wVar, wC, wRet, wRetN, wAsg, wgName, wgTup, wgCons, wgNil, wDrop, wCall, wCons, wNil, wTup, wLst, wLstM, wCB, wCR, wIf, wAnd, wOr, wNot, wAndV, wOrV, wNotV, wChain, wUn, wFld, wMeth, wDGet, wDGet2, wDIn, wDPut, wBM, wNext, wPar, wAug, wIterT, wIterL, wRange1, wRange2, wRange3, wMake, wFldS, wNewDict, wDict1, wSl, wNoPart, wPart, wRevL, wRevM, wTupRev, wPos, wRaise, wTry, wAt, wIsX, wEnumT, wLc, wLcM, wFor, wWhile, wBreak, wCont, wYes, exOf, wLPut]
          have l1 : (Dl.cutD [D.int x, D.int y] none (some (at_ : Int))).length ≤ 2 := cut_len
          have l2 : (Dl.cutD [D.int x, D.int y] (some ((at_ : Int) + 1)) none).length ≤ 2 := cut_len
          refine ⟨_, rfl, _, rfl, (at_ : Int), rfl, _, rfl, _, rfl, small (by show 1 ≤ 200; decide), _, guardD_pos (small (by show _ + 1 ≤ 200; omega)), _, rfl, _, rfl, .int ((at_ : Int) + 1), rfl, (at_ : Int) + 1, rfl, _, rfl, _, guardD_pos (small (by rw [List.length_append]; show _ + 1 + _ ≤ 200; omega)), ?_⟩
          refine post _ _ (.inl ⟨_, rfl, by rw [List.length_append, List.length_append]; show _ + 1 + _ ≤ 1000; omega, fun d hd => ?_⟩) hh4 sm4
          rcases List.mem_append.mp hd with hd | hd
          · rcases List.mem_append.mp hd with hd | hd
            · exact two d (cut_mem hd)
            · rw [List.mem_singleton.mp hd]; exact hp
          · exact two d (cut_mem hd)
end K47

set_option Elab.async false
set_option linter.all false
set_option maxRecDepth 100000
set_option maxHeartbeats 4000000
namespace K47
open PySem PySem.Spec PyProof.Rows L2 Dl
structure LawS (Z : Ad) (ts : List Talk) (p q kn fo a d : Addr) (M : Mem) : Prop where
  heap : HeapAt M p q
  kno : ∃ kvs, M kn = some (.dct kvs) ∧ KnownD ts ts.length kvs
  fou : ∃ fvs, M fo = some (.dct fvs) ∧ FoundD ts ts.length fvs
  tok : TokK Z ts ts.length M a d
theorem TokK.kept {Z : Ad} {ts : List Talk} {k : Nat} {M M' : Mem} {a d : Addr} (T : TokK Z ts k M a d) (ha : ∀ n, M a = some n → M' a = some n) (hd : ∀ n, M d = some n → M' d = some n) : TokK Z ts k M' a d := by
  obtain ⟨ns, T, h⟩ := T.ex
  exact ⟨ns, ⟨ha _ T.ins, hd _ T.dct, T.nd⟩, h⟩
theorem HeapAt.kept {p q : Addr} {M M' : Mem} (h : HeapAt M p q) (k : Kept M M') : HeapAt M' p q := by
  obtain ⟨xs, s, c, h1, h2, h3⟩ := h
  exact ⟨xs, s, c, k _ _ h1, k _ _ h2, h3⟩
theorem LawS.kept {Z : Ad} {ts : List Talk} {p q kn fo a d : Addr} {M M' : Mem} (S : LawS Z ts p q kn fo a d M) (k : Kept M M') : LawS Z ts p q kn fo a d M' := by
  obtain ⟨kvs, h1, h2⟩ := S.kno
  obtain ⟨fvs, h3, h4⟩ := S.fou
  exact ⟨S.heap.kept k, ⟨kvs, k _ _ h1, h2⟩, ⟨fvs, k _ _ h3, h4⟩, S.tok.kept (k _) (k _)⟩
theorem LawS.hsame {Z : Ad} {ts : List Talk} {p q kn fo a d : Addr} {M M' : Mem} (S : LawS Z ts p q kn fo a d M) (hh : HeapAt M' p q) (k : HSame p q M M') : LawS Z ts p q kn fo a d M' := by
  obtain ⟨kvs, h1, h2⟩ := S.kno
  obtain ⟨fvs, h3, h4⟩ := S.fou
  obtain ⟨xs, s, c, e1, e2, _⟩ := S.heap
  obtain ⟨ns, T, _⟩ := S.tok.ex
  have nd : ∀ {x : Addr} {kv : List (Key × D)}, M x = some (.dct kv) → x ≠ p ∧ x ≠ q := fun h => ⟨fun e => by (rw [e, e1] at h; cases h), fun e => by (rw [e, e2] at h; cases h)⟩
  have na : a ≠ p ∧ a ≠ q := ⟨fun e => by (have := T.ins; rw [e, e1] at this; cases this), fun e => by (have := T.ins; rw [e, e2] at this; cases this)⟩
  exact ⟨hh, ⟨kvs, k _ _ (nd h1).1 (nd h1).2 h1, h2⟩, ⟨fvs, k _ _ (nd h3).1 (nd h3).2 h3, h4⟩, S.tok.kept (fun n => k _ n na.1 na.2) (fun n => k _ n (nd T.dct).1 (nd T.dct).2)⟩
/-! ### the greatest moment known -/
def valF (ts : List Talk) : D → D
  | .int i => .int (valT ts i.toNat)
  | d => d
theorem valF_map {ts : List Talk} (L : List Nat) : (L.map natD).map (valF ts) = (L.map (valT ts)).map D.int := by
  rw [List.map_map, List.map_map]
  refine List.map_congr_left fun i _ => ?_
  show D.int (valT ts ((i : Int)).toNat) = _
  rw [Int.toNat_natCast]
  rfl
theorem max_is {ts : List Talk} (ok : ∀ t ∈ ts, okT t) {k : Nat} (hk : k ≤ 100) {c : Str} {R : D → Mem → Prop} {M : Mem} (h : R (.int (tok ts k c)) M) : ∃ z, fAdd (.lst [.int 0]) (.lst (((knL ts k c).map natD).map (valF ts))) M = some z ∧ gMax [z] M R := by
  have hl := knL_len ts k c
  refine ⟨_, guardD_pos (by rw [List.length_map, List.length_map]; exact Nat.le_of_lt (small1000 (by show 1 + _ ≤ 1000; omega))), ?_⟩
  rw [valF_map]
  refine ⟨_, _, 0 :: (knL ts k c).map (valT ts), rfl, rfl, intsD_map (0 :: (knL ts k c).map (valT ts)), by simp, fun m hm hmax => ?_⟩
  have tm := tok_max ok k c
  have : m = tok ts k c := by
    have h1 : m ≤ tok ts k c := by
      rcases List.mem_cons.mp hm with rfl | hm
      · exact tm.1
      · obtain ⟨i, hi, rfl⟩ := List.mem_map.mp hm
        exact tm.2.1 i (mem_knL.mp hi)
    have h2 : tok ts k c ≤ m := by
      rcases tm.2.2 with h | ⟨i, hi, e⟩
      · rw [h]; exact hmax 0 List.mem_cons_self
      · rw [← e]; exact hmax _ (List.mem_cons_of_mem _ (List.mem_map.mpr ⟨i, mem_knL.mpr hi, rfl⟩))
    omega
  rw [this]
  exact h
/-! ### what is due -/
def five : List Str := ["ann", "bob", "cid", "dan", "eve"]
def dueL (ts : List Talk) (names : List Str) : List (Str × Int) := (names.filter fun n => decide (0 < tok ts ts.length n)).map fun n => (n, tok ts ts.length n)
theorem putN_new {x : Str} {v : Int} : ∀ {ns : List (Str × Int)}, x ∉ ns.map (·.1) → putN ns x v = ns ++ [(x, v)]
  | [], _ => rfl
  | q :: r, h => by
    unfold putN
    rw [if_neg (fun e => h (by rw [← e]; simp)), putN_new (fun e => h (by rw [List.map_cons]; exact List.mem_cons_of_mem _ e))]
    rfl
theorem due_keys {ts : List Talk} {names : List Str} {x : Str} (h : x ∈ (dueL ts names).map (·.1)) : x ∈ names := by
  obtain ⟨q, hq, rfl⟩ := List.mem_map.mp h
  obtain ⟨n, hn, rfl⟩ := List.mem_map.mp hq
  exact (List.mem_filter.mp hn).1
theorem due_step {ts : List Talk} {names : List Str} {x : Str} (h : x ∉ names) (h0 : 0 < tok ts ts.length x) : putN (dueL ts names) x (tok ts ts.length x) = dueL ts (names ++ [x]) := by
  rw [putN_new (fun e => h (due_keys e))]
  unfold dueL
  rw [List.filter_append, List.map_append]
  simp [h0]
theorem due_skip {ts : List Talk} {names : List Str} {x : Str} (h0 : ¬ 0 < tok ts ts.length x) : dueL ts names = dueL ts (names ++ [x]) := by
  unfold dueL
  rw [List.filter_append, List.map_append]
  simp [h0]
theorem due_len {ts : List Talk} {names : List Str} : (dueL ts names).length ≤ names.length := by
  unfold dueL
  rw [List.length_map]
  exact List.length_filter_le _ _
theorem five_nodup : five.Nodup := by decide
theorem due_nodup {ts : List Talk} : ((dueL ts five).map (·.1)).Nodup := by
  unfold dueL
  rw [List.map_map]
  have : (fun q : Str × Int => q.1) ∘ (fun n => (n, tok ts ts.length n)) = id := rfl
  rw [this, List.map_id]
  exact five_nodup.sublist List.filter_sublist
theorem look_mem {ns : List (Str × Int)} (nd : (ns.map (·.1)).Nodup) {x : Str} {v : Int} (h : (x, v) ∈ ns) : look ns x = v := by
  induction ns with
  | nil => cases h
  | cons q r ih =>
    rw [List.map_cons, List.nodup_cons] at nd
    unfold look
    rw [List.find?_cons]
    rcases List.mem_cons.mp h with rfl | h
    · simp
    · have : ¬ q.1 = x := fun e => nd.1 (by rw [e]; exact List.mem_map.mpr ⟨_, h, rfl⟩)
      rw [decide_eq_false this]
      exact ih nd.2 h
theorem look_none {ns : List (Str × Int)} {x : Str} (h : x ∉ ns.map (·.1)) : look ns x = 0 := by
  unfold look
  rw [List.find?_eq_none.mpr (fun q hq => by
    have : ¬ q.1 = x := fun e => h (List.mem_map.mpr ⟨q, hq, e⟩)
    simp [this])]
  rfl
theorem look_due {ts : List Talk} (ok : ∀ t ∈ ts, okT t) {x : Str} (hx : x ∈ five) : look (dueL ts five) x = tok ts ts.length x := by
  by_cases h : 0 < tok ts ts.length x
  · refine look_mem due_nodup ?_
    unfold dueL
    exact List.mem_map.mpr ⟨x, List.mem_filter.mpr ⟨hx, decide_eq_true h⟩, rfl⟩
  · rw [look_none]
    · have := (tok_max ok ts.length x).1
      omega
    · intro e
      obtain ⟨q, hq, rfl⟩ := List.mem_map.mp e
      obtain ⟨n, hn, rfl⟩ := List.mem_map.mp hq
      exact h (of_decide_eq_true (List.mem_filter.mp hn).2)
theorem due_perm {ts : List Talk} {ns : List (Str × Int)} (nd : (ns.map (·.1)).Nodup) (hl : ∀ x, look ns x = tok ts ts.length x) (h4 : ∀ x ∈ ns.map (·.1), x ∈ four) : (ns.filter posQ).Perm (dueL ts five) := by
  have n1 : ((ns.filter posQ).map (·.1)).Nodup := nd.sublist (List.filter_sublist.map _)
  refine (List.perm_ext_iff_of_nodup ?_ ?_).mpr fun q => ?_
  · exact List.Pairwise.of_map (f := (·.1)) (fun a b h e => h (by rw [e])) n1
  · exact List.Pairwise.of_map (f := (·.1)) (fun a b h e => h (by rw [e])) due_nodup
  · constructor
    · intro h
      obtain ⟨h1, h2⟩ := List.mem_filter.mp h
      have h2 : 0 < q.2 := of_decide_eq_true h2
      have e : tok ts ts.length q.1 = q.2 := by rw [← hl]; exact look_mem nd h1
      have h5 : q.1 ∈ five := by
        have := h4 q.1 (List.mem_map.mpr ⟨q, h1, rfl⟩)
        have sub : ∀ x ∈ four, x ∈ five := by decide
        exact sub _ this
      exact List.mem_map.mpr ⟨q.1, List.mem_filter.mpr ⟨h5, decide_eq_true (by rw [e]; exact h2)⟩, by rw [e]⟩
    · intro h
      obtain ⟨n, hn, rfl⟩ := List.mem_map.mp h
      obtain ⟨h1, h2⟩ := List.mem_filter.mp hn
      have h2 : 0 < tok ts ts.length n := of_decide_eq_true h2
      refine List.mem_filter.mpr ⟨?_, decide_eq_true h2⟩
      rw [← hl] at h2 ⊢
      have : n ∈ ns.map (·.1) := Classical.byContradiction fun c => by rw [look_none c] at h2; omega
      obtain ⟨q, hq, rfl⟩ := List.mem_map.mp this
      rw [look_mem nd hq]
      exact hq
/-! ### who goes back, found once -/
theorem back_unique {ts : List Talk} : ∀ {r r' : Option Nat}, IsBack ts r → IsBack ts r' → r = r'
  | none, none, _, _ => rfl
  | none, some k, h, h' => absurd h'.2.1 (h k h'.1)
  | some k, none, h, h' => absurd h.2.1 (h' k h.1)
  | some k, some k', h, h' => by
    have h1 : ¬ k < k' := fun c => h'.2.2 k c h.2.1
    have h2 : ¬ k' < k := fun c => h.2.2 k' c h'.2.1
    rw [show k = k' by omega]
def FirstD (ts : List Talk) (f b : D) : Prop := (f = .non ∧ b = .non ∧ IsBack ts none) ∨ ∃ (k : Nat) (c : Str) (v : Int) (i : Nat), f = natD k ∧ b = natD i ∧ IsBack ts (some k) ∧ ts[k]? = some (.saw c v) ∧ firstBest ts k c = some i
theorem FirstD.back {ts : List Talk} {f b : D} (F : FirstD ts f b) {r : Option Nat} (h : IsBack ts r) : optD r = f := by
  rcases F with ⟨rfl, rfl, h'⟩ | ⟨k, c, v, i, rfl, rfl, h', _⟩
  · rw [back_unique h h']; rfl
  · rw [back_unique h h']; rfl
theorem FirstD.wit {ts : List Talk} {f b : D} (F : FirstD ts f b) {r : D} (h : WitOk ts r) : (f = .non ∧ r = .non) ∨ ((∃ k, f = natD k) ∧ r = .tup [b, f]) := by
  rcases h with ⟨h, rfl⟩ | ⟨k, c, v, i, h, e, fb, rfl⟩
  · exact .inl ⟨(F.back h).symm, rfl⟩
  · right
    rcases F with ⟨rfl, rfl, h'⟩ | ⟨k', c', v', i', rfl, rfl, h', e', fb'⟩
    · have := back_unique h h'; cases this
    · have := back_unique h h'
      cases this
      rw [e] at e'
      cases e'
      rw [fb] at fb'
      cases fb'
      exact ⟨⟨k, rfl⟩, rfl⟩
def FirstJ (ts : List Talk) (L : List Nat) (f b : D) : Prop := (f = .non ∧ b = .non ∧ ∀ i ∈ L, ¬ hitB ts i) ∨ ∃ (k : Nat) (c : Str) (v : Int) (i : Nat), f = natD k ∧ b = natD i ∧ IsBack ts (some k) ∧ ts[k]? = some (.saw c v) ∧ firstBest ts k c = some i
def places (ts : List Talk) : List Nat := (List.range ts.length).filter (sawB ts)
theorem hit_saw {ts : List Talk} {j : Nat} (h : hitB ts j) : j ∈ places ts := by
  obtain ⟨a, v, e, _⟩ := h
  exact List.mem_filter.mpr ⟨List.mem_range.mpr (List.getElem?_eq_some_iff.mp e).1, by simp [sawB, e]⟩
theorem FirstJ.fin {ts : List Talk} {f b : D} (F : FirstJ ts (places ts) f b) : FirstD ts f b := by
  rcases F with ⟨h1, h2, h⟩ | h
  · exact .inl ⟨h1, h2, fun j hj hh => h j (hit_saw hh) hh⟩
  · exact .inr h
theorem places_sorted (ts : List Talk) : (places ts).Pairwise (· < ·) := List.pairwise_lt_range.sublist List.filter_sublist
theorem first_back {ts : List Talk} {j i : Nat} (hi : (places ts)[j]? = some i) (no : ∀ i ∈ (places ts).take j, ¬ hitB ts i) (hh : hitB ts i) : IsBack ts (some i) := by
  have hm := List.mem_filter.mp (hit_saw hh)
  refine ⟨List.mem_range.mp hm.1, hh, fun k hk h => ?_⟩
  have hkm := hit_saw h
  obtain ⟨jk, ek⟩ := List.getElem?_of_mem hkm
  have hlt : jk < j := by
    refine Classical.byContradiction fun c => ?_
    have hj := List.getElem?_eq_some_iff.mp hi
    have hjk := List.getElem?_eq_some_iff.mp ek
    obtain ⟨l1, e1⟩ := hj
    obtain ⟨l2, e2⟩ := hjk
    by_cases e : jk = j
    · subst e; omega
    · have := List.pairwise_iff_getElem.mp (places_sorted ts) j jk l1 l2 (by omega)
      omega
  refine no k ?_ h
  refine List.mem_of_getElem? (i := jk) ?_
  rw [List.getElem?_take, if_pos hlt]
  exact ek
/-! ### plain values -/
theorem plain_int {j : Nat} {i : Int} : plainD (j + 1) (.int i) := .inr (.inr (.inl ⟨i, rfl⟩))
theorem plain_str {j : Nat} {i : Str} : plainD (j + 1) (.str i) := .inr (.inr (.inr (.inl ⟨i, rfl⟩)))
theorem plain_bl {j : Nat} {b : Bool} : plainD (j + 1) (.bl b) := .inr (.inl ⟨b, rfl⟩)
theorem plain_non {j : Nat} : plainD (j + 1) .non := .inl rfl
theorem plain_tup {j : Nat} {xs : List D} (hl : xs.length ≤ 1000) (h : ∀ x ∈ xs, plainD j x) : plainD (j + 1) (.tup xs) := .inr (.inr (.inr (.inr ⟨xs, rfl, hl, h⟩)))
theorem same_of {Z : Ad} {v v' : D} (e : v' = v) (h : plainD 4 v) {M : Mem} {Q : D → Mem → Prop} {E : XEx} (q : Q (.bl true) M) : sp_law_same Z [v, v'] M Q E := ⟨v, by rw [e], h, q⟩
def numB (n : Nat) : D → Bool
  | .int i => decide (0 ≤ i) && decide (i < (n : Int))
  | _ => false
end K47

set_option Elab.async false
set_option linter.all false
set_option maxRecDepth 100000
set_option maxHeartbeats 4000000
namespace K47
open PySem PySem.Spec PyProof.Rows L2 Dl
def sp_law (Z : Ad) : DSp := fun ds M Q _ => ∃ ns : List Int, ds = [.seq (ns.map .int)] ∧ ns.length ≤ 63 ∧ ∀ M', Q (.bl true) M'
noncomputable def w_law (Z : Ad) : WS := wSeq (wAsg (wCall (sp_law_heap Z) [] (wCons (wVar 0) (wNil))) (wgName 1)) (wSeq (wAsg (wCall (sp_law_talks Z) [] (wCons (wVar 1) (wNil))) (wgName 2)) (wSeq (wAsg (wCall (sp_law_knowing Z) [] (wCons (wVar 2) (wNil))) (wgTup 2 (wgCons (wgName 3) (wgCons (wgName 4) (wgNil))))) (wSeq (wAsg (wCall (sp_tokens_behind Z) [] (wCons (wVar 2) (wNil))) (wgName 5)) (wSeq (wAsg (wNewDict) (wgName 6)) (wSeq (wFor (wIterL (wLst (wCons (wC (.str (PySem.Str.ofString "ann"))) (wCons (wC (.str (PySem.Str.ofString "bob"))) (wCons (wC (.str (PySem.Str.ofString "cid"))) (wCons (wC (.str (PySem.Str.ofString "dan"))) (wCons (wC (.str (PySem.Str.ofString "eve"))) (wNil)))))))) (wgName 7) (wSeq (wAsg (wCR gMax (wCons (wOp fAdd (wLst (wCons (wC (.int 0)) (wNil))) (wLc (wIterL (wDGet2 (wVar 3) (wVar 7) (wLst (wNil)))) (wgName 8) (wYes) (wOp fIx (wOp fIx (wVar 2) (wVar 8)) (wC (.int 2))) [8])) (wNil))) (wgName 9)) (wSeq (wIfS (wTest (wOp fGt (wVar 9) (wC (.int 0)))) (wDPut (wVar 6) (wVar 7) (wVar 9)) (wNext)) (wIfS (wNot (wTest (wCall (sp_law_same Z) [] (wCons (wMeth Z.c_Tokens (PySem.Str.ofString "of") (sp_Tokens_of Z) (wVar 5) (wCons (wVar 7) (wNil))) (wCons (wVar 9) (wNil)))))) (wRet (wC (.bl false))) (wNext))))) (wSeq (wAsg (wMeth Z.c_Tokens (PySem.Str.ofString "all_of") (sp_Tokens_all_of Z) (wVar 5) wNil) (wgName 10)) (wSeq (wIfS (wOr (wNot (wTest (wCB fIsi (wCons (wVar 10) (wCons (wC (.ty "dict")) (wNil)))))) (wNot (wTest (wCall (sp_law_same Z) [] (wCons (wCB fTuple (wCons (wCR gSortedItems (wCons (wBM "dict" gItems (wVar 10) wNil) (wNil))) (wNil))) (wCons (wCB fTuple (wCons (wCR gSortedItems (wCons (wBM "dict" gItems (wVar 6) wNil) (wNil))) (wNil))) (wNil))))))) (wRet (wC (.bl false))) (wNext)) (wSeq (wDPut (wVar 10) (wC (.str (PySem.Str.ofString "ann"))) (wC (.int 99))) (wSeq (wIfS (wOr (wNot (wTest (wCall (sp_law_same Z) [] (wCons (wMeth Z.c_Tokens (PySem.Str.ofString "of") (sp_Tokens_of Z) (wVar 5) (wCons (wC (.str (PySem.Str.ofString "ann"))) (wNil))) (wCons (wDGet2 (wVar 6) (wC (.str (PySem.Str.ofString "ann"))) (wC (.int 0))) (wNil)))))) (wNot (wTest (wCall (sp_law_same Z) [] (wCons (wMeth Z.c_Tokens (PySem.Str.ofString "of") (sp_Tokens_of Z) (wMake Z.c_Tokens (sp_Tokens___init Z) wNil) (wCons (wC (.str (PySem.Str.ofString "ann"))) (wNil))) (wCons (wC (.int 0)) (wNil))))))) (wRet (wC (.bl false))) (wNext)) (wSeq (wAsg (wTup (wCons (wC .non) (wCons (wC .non) (wNil)))) (wgTup 2 (wgCons (wgName 11) (wgCons (wgName 12) (wgNil))))) (wSeq (wFor (wIterL (wCR gSorted (wCons (wCR gListDict (wCons (wVar 4) (wNil))) (wNil)))) (wgName 8) (wSeq (wIfS (wNot (wTest (wCall (sp_law_same Z) [] (wCons (wCall (sp_known_by Z) [] (wCons (wVar 2) (wCons (wVar 8) (wNil)))) (wCons (wDGet (wVar 4) (wVar 8)) (wNil)))))) (wRet (wC (.bl false))) (wNext)) (wSeq (wAsg (wCR gMax (wCons (wOp fAdd (wLst (wCons (wC (.int 0)) (wNil))) (wLc (wIterT (wDGet (wVar 4) (wVar 8))) (wgName 23) (wYes) (wOp fIx (wOp fIx (wVar 2) (wVar 23)) (wC (.int 2))) [23])) (wNil))) (wgName 13)) (wIfS (wAnd (wTest (wOp (fIsN false) (wVar 11) (wC .non))) (wTest (wOp fGt (wVar 13) (wOp fIx (wOp fIx (wVar 2) (wVar 8)) (wC (.int 2)))))) (wSeq (wAsg (wVar 8) (wgName 11)) (wAsg (wOp fIx (wLc (wIterT (wDGet (wVar 4) (wVar 8))) (wgName 23) (wTest (wOp fEq (wOp fIx (wOp fIx (wVar 2) (wVar 23)) (wC (.int 2))) (wVar 13))) (wVar 23) [23]) (wC (.int 0))) (wgName 12))) (wNext))))) (wSeq (wIfS (wOr (wNot (wTest (wCall (sp_law_same Z) [] (wCons (wCall (sp_back_in Z) [] (wCons (wVar 2) (wNil))) (wCons (wVar 11) (wNil)))))) (wNot (wTest (wCall (sp_law_same Z) [] (wCons (wCall (sp_witness_of Z) [] (wCons (wVar 2) (wNil))) (wCons (wIf (wTest (wOp (fIsN true) (wVar 11) (wC .non))) (wTup (wCons (wVar 12) (wCons (wVar 11) (wNil)))) (wC .non)) (wNil))))))) (wRet (wC (.bl false))) (wNext)) (wSeq (wFor (wRange1 (wCons (wC (.int 6)) (wNil))) (wgName 14) (wSeq (wAsg (wTup (wCons (wCall (sp_law_draw Z) [] (wCons (wVar 1) (wCons (wOp fAdd (wCB fLen (wCons (wVar 2) (wNil))) (wC (.int 1))) (wNil)))) (wCons (wCall (sp_law_draw Z) [] (wCons (wVar 1) (wCons (wOp fAdd (wCB fLen (wCons (wVar 2) (wNil))) (wC (.int 1))) (wNil)))) (wNil)))) (wgName 15)) (wSeq (wAsg (wIf (wAnd (wTest (wOp (fIsN true) (wVar 11) (wC .non))) (wTest (wOp fEq (wVar 14) (wC (.int 0))))) (wTup (wCons (wVar 12) (wCons (wVar 11) (wNil)))) (wIf (wTest (wOp fLt (wVar 14) (wC (.int 4)))) (wVar 15) (wCall (sp_law_bent Z) [] (wCons (wVar 1) (wCons (wVar 15) (wCons (wLst (wCons (wVar 11) (wCons (wTup (wCons (wVar 12) (wCons (wVar 11) (wNil)))) (wNil)))) (wNil))))))) (wgName 16)) (wSeq (wAsg (wAndV (wCB fIsi (wCons (wVar 16) (wCons (wC (.ty "tuple")) (wNil)))) (wAndV (wOp fEq (wCB fLen (wCons (wVar 16) (wNil))) (wC (.int 2))) (wCR gAll (wCons (wLc (wIterT (wVar 16)) (wgName 8) (wYes) (wAndV (wCall (sp_law_is_number Z) [] (wCons (wVar 8) (wNil))) (wOp fLt (wVar 8) (wCB fLen (wCons (wVar 2) (wNil))))) [8]) (wNil))))) (wgName 17)) (wSeq (wAsg (wAndV (wVar 17) (wAndV (wDIn false (wOp fIx (wVar 16) (wC (.int 1))) (wVar 4)) (wAndV (wOp (fIn false) (wOp fIx (wVar 16) (wC (.int 0))) (wDGet (wVar 4) (wOp fIx (wVar 16) (wC (.int 1))))) (wOp fGt (wOp fIx (wOp fIx (wVar 2) (wOp fIx (wVar 16) (wC (.int 0)))) (wC (.int 2))) (wOp fIx (wOp fIx (wVar 2) (wOp fIx (wVar 16) (wC (.int 1)))) (wC (.int 2))))))) (wgName 17)) (wIfS (wNot (wTest (wCall (sp_law_same Z) [] (wCons (wCall (sp_is_witness Z) [] (wCons (wVar 2) (wCons (wVar 16) (wNil)))) (wCons (wVar 17) (wNil)))))) (wRet (wC (.bl false))) (wNext))))))) (wSeq (wAsg (wTup (wCons (wCall (sp_law_draw Z) [] (wCons (wVar 1) (wCons (wC (.int 9)) (wNil)))) (wCons (wCall (sp_law_draw Z) [] (wCons (wVar 1) (wCons (wC (.int 9)) (wNil)))) (wNil)))) (wgTup 2 (wgCons (wgName 9) (wgCons (wgName 18) (wgNil))))) (wSeq (wPar 19 20 (wCons (wCall (sp_law_draw Z) [] (wCons (wVar 1) (wCons (wOp fAdd (wVar 18) (wC (.int 1))) (wNil)))) (wCons (wCB fTuple (wCons (wCR (gSortedSet Z.w) (wCons (wCR (gSet Z.w) (wCons (wLc (wRange1 (wCons (wCall (sp_law_draw Z) [] (wCons (wVar 1) (wCons (wC (.int 3)) (wNil)))) (wNil))) (wgName 14) (wYes) (wCall (sp_law_draw Z) [] (wCons (wVar 1) (wCons (wOp fAdd (wVar 18) (wC (.int 1))) (wNil)))) [14]) (wNil))) (wNil))) (wNil))) (wNil)))) (wSeq (wIfS (wNot (wTest (wCall (sp_law_same Z) [] (wCons (wCall (sp_law_moment Z) [] (wCons (wVar 9) (wCons (wC .non) (wCons (wVar 18) (wCons (wVar 19) (wCons (wVar 20) (wCons (wC (.bl false)) (wNil)))))))) (wCons (wIf (wTest (wOp fLt (wVar 18) (wVar 9))) (wTup (wCons (wC (.str (PySem.Str.ofString "late"))) (wCons (wVar 9) (wNil)))) (wTup (wCons (wC (.str (PySem.Str.ofString "read"))) (wCons (wVar 18) (wNil))))) (wNil)))))) (wRet (wC (.bl false))) (wNext)) (wSeq (wFor (wRange1 (wCons (wC (.int 11)) (wNil))) (wgName 21) (wSeq (wAsg (wOp fEq (wOp fMod (wCB fInt (wCons (wOp fAdd (wVar 21) (wVar 9)) (wNil))) (wC (.int 3))) (wC (.int 0))) (wgName 22)) (wSeq (wAsg (wIf (wTest (wOp fGt (wVar 21) (wVar 18))) (wTup (wCons (wC (.str (PySem.Str.ofString "late"))) (wCons (wVar 21) (wNil)))) (wIf (wAnd (wTest (wOp fLt (wVar 21) (wVar 19))) (wOr (wTest (wVar 22)) (wTest (wOp (fIn true) (wVar 21) (wVar 20))))) (wTup (wCons (wC (.str (PySem.Str.ofString "old"))) (wCons (wVar 19) (wNil)))) (wTup (wCons (wC (.str (PySem.Str.ofString "read"))) (wCons (wVar 21) (wNil)))))) (wgName 17)) (wIfS (wNot (wTest (wCall (sp_law_same Z) [] (wCons (wCall (sp_law_moment Z) [] (wCons (wVar 9) (wCons (wVar 21) (wCons (wVar 18) (wCons (wVar 19) (wCons (wVar 20) (wCons (wVar 22) (wNil)))))))) (wCons (wVar 17) (wNil)))))) (wRet (wC (.bl false))) (wNext))))) (wRet (wC (.bl true))))))))))))))))))))
@[reducible] def R24 (sc p ts kn fo a du : D) (x7 x8 x9 x10 x11 x12 x13 x14 x15 x16 x17 x18 x19 x20 x21 x22 x23 : Option D) : Rho :=
  [some sc, some p, some ts, some kn, some fo, some a, some du, x7, x8, x9, x10, x11, x12, x13, x14, x15, x16, x17, x18, x19, x20, x21, x22, x23]
theorem five_at {j : Nat} {d : D} (h : (five.map D.str)[j]? = some d) : ∃ x, five[j]? = some x ∧ d = .str x ∧ x ∈ five ∧ x ∉ five.take j := by
  rw [List.getElem?_map] at h
  obtain ⟨x, hx, rfl⟩ := Option.map_eq_some_iff.mp h
  refine ⟨x, hx, rfl, List.mem_of_getElem? hx, fun hm => ?_⟩
  obtain ⟨i, hi⟩ := List.getElem?_of_mem hm
  obtain ⟨l, e⟩ := List.getElem?_eq_some_iff.mp hi
  rw [List.length_take] at l
  rw [List.getElem_take] at e
  obtain ⟨l2, e2⟩ := List.getElem?_eq_some_iff.mp hx
  have := List.pairwise_iff_getElem.mp (List.nodup_iff_pairwise_ne.mp five_nodup) i j (by omega) l2 (by omega)
  exact this (e.trans e2.symm)
theorem pair_right {ts : List Talk} {ds : List D} (h2 : ds.length = 2) (hn : (ds.map (numB ts.length)).all id = true) : ∃ x y : Nat, ds = [natD x, natD y] ∧ x < ts.length ∧ y < ts.length := by
  have key : ∀ d : D, numB ts.length d = true → ∃ x : Nat, d = natD x ∧ x < ts.length := fun d h => by
    cases d with
    | int i =>
      obtain ⟨h1, h2⟩ := Bool.and_eq_true_iff.mp h
      obtain ⟨x, rfl⟩ := Int.eq_ofNat_of_zero_le (of_decide_eq_true h1)
      have := of_decide_eq_true h2
      exact ⟨x, rfl, by omega⟩
    | _ => cases h
  match ds, h2 with
  | [d1, d2], _ =>
    have h := hn
    simp only [List.map_cons, List.map_nil, List.all_cons, List.all_nil, id, Bool.and_true] at h
    obtain ⟨h1, h2⟩ := Bool.and_eq_true_iff.mp h
    obtain ⟨x, rfl, hx⟩ := key d1 h1
    obtain ⟨y, rfl, hy⟩ := key d2 h2
    exact ⟨x, y, rfl, hx, hy⟩
theorem not_nums {ts : List Talk} {ds : List D} (hn : (ds.map (numB ts.length)).all id = false) : rightB ts (.tup ds) = false := by
  cases e : rightB ts (.tup ds) with
  | false => rfl
  | true =>
    obtain ⟨a, b, rfl, ⟨a', ea, _, _, e1⟩, ⟨b', eb, _, _, e2⟩, _⟩ := right_good e
    injection ea with ea
    injection eb with eb
    have la := (List.getElem?_eq_some_iff.mp e1).1
    have lb := (List.getElem?_eq_some_iff.mp e2).1
    have h1 : numB ts.length (natD a) = true := by
      show (decide ((0 : Int) ≤ (a : Int)) && decide ((a : Int) < (ts.length : Int))) = true
      rw [decide_eq_true (Int.natCast_nonneg a), decide_eq_true (by omega)]; rfl
    have h2 : numB ts.length (natD b) = true := by
      show (decide ((0 : Int) ≤ (b : Int)) && decide ((b : Int) < (ts.length : Int))) = true
      rw [decide_eq_true (Int.natCast_nonneg b), decide_eq_true (by omega)]; rfl
    simp [h1, h2] at hn
theorem valD_isSome {κ : Type} [DecidableEq κ] {k : κ} {kvs : List (κ × D)} : (valD kvs k).isSome = true ↔ k ∈ kvs.map (·.1) := by
  rw [valD_key, decide_eq_true_iff]
theorem isSome_found {ts : List Talk} {fvs : List (Key × D)} (F : FoundD ts ts.length fvs) {y : Nat} (hy : y < ts.length) : (valD fvs (.inl (y : Int))).isSome = sawB ts y := by
  have hm : (Sum.inl (y : Int) : Key) ∈ fvs.map (·.1) ↔ sawB ts y = true := by
    rw [F.1]
    constructor
    · intro c
      obtain ⟨i, hi, ei⟩ := List.mem_map.mp c
      have : i = y := by have := Sum.inl.inj ei; omega
      rw [this] at hi
      exact (List.mem_filter.mp hi).2
    · exact fun h => List.mem_map.mpr ⟨y, List.mem_filter.mpr ⟨List.mem_range.mpr hy, h⟩, rfl⟩
  cases h : sawB ts y with
  | true => exact valD_isSome.mpr (hm.mpr h)
  | false =>
    cases hv : (valD fvs (.inl (y : Int))).isSome with
    | false => rfl
    | true => rw [hm.mp (valD_isSome.mp hv)] at h; cases h
theorem fIn_nats {ts : List Talk} {a k : Nat} {c : Str} {M : Mem} : fIn false (natD a) (.tup ((knL ts k c).map natD)) M = some (.bl (knB ts k c a)) := by
  rw [show fIn false (natD a) (.tup ((knL ts k c).map natD)) M = if (flatD (natD a) && ((knL ts k c).map natD).all flatD) = true then some (.bl (inD (natD a) ((knL ts k c).map natD))) else none from rfl]
  rw [if_pos (by simp [natD, flatD]), in_nats]
  congr 2
  cases hk : knB ts k c a with
  | true => exact decide_eq_true (mem_knL.mpr hk)
  | false => exact decide_eq_false fun h => by rw [mem_knL.mp h] at hk; cases hk
theorem part_first {ts : List Talk} {f b : D} (F : FirstD ts f b) : partD f ∧ partD b ∧ (f ≠ .non → ∃ k i : Nat, f = natD k ∧ b = natD i) := by
  rcases F with ⟨rfl, rfl, _⟩ | ⟨k, c, v, i, rfl, rfl, _⟩
  · exact ⟨.inl rfl, .inl rfl, fun h => absurd rfl h⟩
  · exact ⟨part_int, part_int, fun _ => ⟨k, i, rfl, rfl⟩⟩
theorem HeapAt.lk {p q : Addr} {M : Mem} (h : HeapAt M p q) : True := trivial
theorem rd_law (Z : Ad) (z : ZOk Z) : ∀ (ds : List D) (M : Mem) (Q : D → Mem → Prop) (Ex : XEx), sp_law Z ds M Q Ex → w_law Z { nx := fun _ M' => Q .non M', rt := Q, ex := fun C d _ M' => Ex C d M' } (ds.map some ++ List.replicate (24 - ds.length) none) M := by
  intro ds M Q Ex h
  obtain ⟨ns, rfl, hl, post⟩ := h
  have small : ∀ {n : Nat}, n ≤ 200 → n ≤ sizeLine := fun h => Nat.le_of_lt (small1000 (by omega))
  generalize hsc : D.seq (ns.map .int) = sc
  unfold w_law
  refine wSeq_step (fun ρ M' => ∃ p q, ρ = [some sc, some (.adr p), none, none, none, none, none, none, none, none, none, none, none, none, none, none, none, none, none, none, none, none, none, none] ∧ HeapAt M' p q) (fun k hk => ?_) ?_
  · simp only [wSeq, wIfS, wTest, wOp, wVar, wC, wRet, wRetN, wAsg, wgName, wgTup, wgCons, wgNil, wDrop, wCall, wCons, wNil, wTup, wLst, wLstM, wCB, wCR, wIf, wAnd, wOr, wNot, wAndV, wOrV, wNotV, wChain, wUn, wFld, wMeth, wDGet, wDGet2, wDIn, wDPut, wBM, wNext, wPar, wAug, wIterT, wIterL, wRange1, wRange2, wRange3, wMake, wFldS, wNewDict, wDict1, wSl, wNoPart, wPart, wRevL, wRevM, wTupRev, wPos, wRaise, wTry, wAt, wIsX, wEnumT, wLc, wLcM, wFor, wWhile, wBreak, wCont, wYes, exOf, wLPut]
    exact ⟨_, rfl, ns, by rw [hsc]; rfl, hl, fun p q M' _ _ h _ => hk _ _ ⟨p, q, rfl, h⟩⟩
  rintro ρ M1 ⟨p, q, rfl, hh⟩
  refine wSeq_step (fun ρ M' => ∃ ts : List Talk, ρ = [some sc, some (.adr p), some (.tup (ts.map talkD)), none, none, none, none, none, none, none, none, none, none, none, none, none, none, none, none, none, none, none, none, none] ∧ HeapAt M' p q ∧ ts.length ≤ 13 ∧ ∀ t ∈ ts, okT t) (fun k hk => ?_) ?_
  · simp only [wSeq, wIfS, wTest, wOp, wVar, wC, wRet, wRetN, wAsg, wgName, wgTup, wgCons, wgNil, wDrop, wCall, wCons, wNil, wTup, wLst, wLstM, wCB, wCR, wIf, wAnd, wOr, wNot, wAndV, wOrV, wNotV, wChain, wUn, wFld, wMeth, wDGet, wDGet2, wDIn, wDPut, wBM, wNext, wPar, wAug, wIterT, wIterL, wRange1, wRange2, wRange3, wMake, wFldS, wNewDict, wDict1, wSl, wNoPart, wPart, wRevL, wRevM, wTupRev, wPos, wRaise, wTry, wAt, wIsX, wEnumT, wLc, wLcM, wFor, wWhile, wBreak, wCont, wYes, exOf, wLPut]
    exact ⟨_, rfl, p, q, rfl, hh, fun ts M' h1 h2 h3 _ => hk _ _ ⟨ts, rfl, h3, h1, h2⟩⟩
  rintro ρ M2 ⟨ts, rfl, hh2, htl, hok⟩
  refine wSeq_step (fun ρ M' => ∃ kn fo kvs fvs, ρ = [some sc, some (.adr p), some (.tup (ts.map talkD)), some (.adr kn), some (.adr fo), none, none, none, none, none, none, none, none, none, none, none, none, none, none, none, none, none, none, none] ∧ HeapAt M' p q ∧ M' kn = some (.dct kvs) ∧ KnownD ts ts.length kvs ∧ M' fo = some (.dct fvs) ∧ FoundD ts ts.length fvs) (fun k hk => ?_) ?_
  · simp only [wSeq, wIfS, wTest, wOp, wVar, wC, wRet, wRetN, wAsg, wgName, wgTup, wgCons, wgNil, wDrop, wCall, wCons, wNil, wTup, wLst, wLstM, wCB, wCR, wIf, wAnd, wOr, wNot, wAndV, wOrV, wNotV, wChain, wUn, wFld, wMeth, wDGet, wDGet2, wDIn, wDPut, wBM, wNext, wPar, wAug, wIterT, wIterL, wRange1, wRange2, wRange3, wMake, wFldS, wNewDict, wDict1, wSl, wNoPart, wPart, wRevL, wRevM, wTupRev, wPos, wRaise, wTry, wAt, wIsX, wEnumT, wLc, wLcM, wFor, wWhile, wBreak, wCont, wYes, exOf, wLPut]
    exact ⟨_, rfl, ts, rfl, by omega, fun kn fo kvs fvs M' h1 h2 _ _ h3 h4 h5 => ⟨_, rfl, rfl, _, _, rfl, _, _, rfl, rfl, hk _ _ ⟨kn, fo, kvs, fvs, rfl, hh2.kept h5, h3, h1, h4, h2⟩⟩⟩
  rintro ρ M3 ⟨kn, fo, kvs, fvs, rfl, hh3, hkn, hKD, hfo, hFD⟩
  refine wSeq_step (fun ρ M' => ∃ a d, ρ = [some sc, some (.adr p), some (.tup (ts.map talkD)), some (.adr kn), some (.adr fo), some (.adr a), none, none, none, none, none, none, none, none, none, none, none, none, none, none, none, none, none, none] ∧ LawS Z ts p q kn fo a d M') (fun k hk => ?_) ?_
  · simp only [wSeq, wIfS, wTest, wOp, wVar, wC, wRet, wRetN, wAsg, wgName, wgTup, wgCons, wgNil, wDrop, wCall, wCons, wNil, wTup, wLst, wLstM, wCB, wCR, wIf, wAnd, wOr, wNot, wAndV, wOrV, wNotV, wChain, wUn, wFld, wMeth, wDGet, wDGet2, wDIn, wDPut, wBM, wNext, wPar, wAug, wIterT, wIterL, wRange1, wRange2, wRange3, wMake, wFldS, wNewDict, wDict1, wSl, wNoPart, wPart, wRevL, wRevM, wTupRev, wPos, wRaise, wTry, wAt, wIsX, wEnumT, wLc, wLcM, wFor, wWhile, wBreak, wCont, wYes, exOf, wLPut]
    exact ⟨_, rfl, ts, rfl, by omega, hok, fun a d M' _ _ h1 h2 => hk _ _ ⟨a, d, rfl, hh3.kept h2, ⟨kvs, h2 _ _ hkn, hKD⟩, ⟨fvs, h2 _ _ hfo, hFD⟩, h1⟩⟩
  rintro ρ M4 ⟨a, d, rfl, LS⟩
  clear hh hh2 hh3 hkn hfo hKD hFD
  refine wSeq_step (fun ρ M' => ∃ du, ρ = R24 sc (.adr p) (.tup (ts.map talkD)) (.adr kn) (.adr fo) (.adr a) (.adr du) none none none none none none none none none none none none none none none none none ∧ M4 du = none ∧ M' du = some (.dct (kvD (dueL ts (five.take 0)))) ∧ Kept M4 M') (fun k hk => ?_) ?_
  · simp only [wSeq, wIfS, wTest, wOp, wVar, wC, wRet, wRetN, wAsg, wgName, wgTup, wgCons, wgNil, wDrop, wCall, wCons, wNil, wTup, wLst, wLstM, wCB, wCR, wIf, wAnd, wOr, wNot, wAndV, wOrV, wNotV, wChain, wUn, wFld, wMeth, wDGet, wDGet2, wDIn, wDPut, wBM, wNext, wPar, wAug, wIterT, wIterL, wRange1, wRange2, wRange3, wMake, wFldS, wNewDict, wDict1, wSl, wNoPart, wPart, wRevL, wRevM, wTupRev, wPos, wRaise, wTry, wAt, wIsX, wEnumT, wLc, wLcM, wFor, wWhile, wBreak, wCont, wYes, exOf, wLPut]
    exact fun du hdu => hk _ _ ⟨du, rfl, hdu, updM_same, Kept.new hdu⟩
  rintro ρ M5 ⟨du, rfl, hdu, hd5, kp5⟩
  -- the names
  refine wSeq_step (fun ρ M' => ∃ x7 x9, ρ = R24 sc (.adr p) (.tup (ts.map talkD)) (.adr kn) (.adr fo) (.adr a) (.adr du) x7 none x9 none none none none none none none none none none none none none none ∧ M' du = some (.dct (kvD (dueL ts five))) ∧ Kept M4 M') (fun k hk => ?_) ?_
  · unfold wFor wIterL
    simp only [wSeq, wIfS, wTest, wOp, wVar, wC, wRet, wRetN, wAsg, wgName, wgTup, wgCons, wgNil, wDrop, wCall, wCons, wNil, wTup, wLst, wLstM, wCB, wCR, wIf, wAnd, wOr, wNot, wAndV, wOrV, wNotV, wChain, wUn, wFld, wMeth, wDGet, wDGet2, wDIn, wDPut, wBM, wNext, wPar, wAug, wIterT, wIterL, wRange1, wRange2, wRange3, wMake, wFldS, wNewDict, wDict1, wSl, wNoPart, wPart, wRevL, wRevM, wTupRev, wPos, wRaise, wTry, wAt, wIsX, wEnumT, wLc, wLcM, wFor, wWhile, wBreak, wCont, wYes, exOf, wLPut]
    refine ⟨small (by show 5 ≤ 200; decide), five.map .str, .inl rfl, ?_⟩
    refine forD_inv _ (fun j ρ M' => ∃ x7 x9, ρ = R24 sc (.adr p) (.tup (ts.map talkD)) (.adr kn) (.adr fo) (.adr a) (.adr du) x7 none x9 none none none none none none none none none none none none none none ∧ M' du = some (.dct (kvD (dueL ts (five.take j)))) ∧ Kept M4 M') ?_ (fun ρ M' h => hk _ _ h) ⟨none, none, rfl, hd5, kp5⟩
    rintro j dd rest ρ M6 hdr hd ⟨x7, x9, rfl, hdu6, kp6⟩ next
    obtain ⟨x, ex, rfl, hx5, hxn⟩ := five_at hd
    have LS6 := LS.kept kp6
    obtain ⟨kvs, hkn, KD⟩ := LS6.kno
    simp only [wSeq, wIfS, wTest, wOp, wVar, wC, wRet, wRetN, wAsg, wgName, wgTup, wgCons, wgNil, wDrop, wCall, wCons, wNil, wTup, wLst, wLstM, wCB, wCR, wIf, wAnd, wOr, wNot, wAndV, wOrV, wNotV, wChain, wUn, wFld, wMeth, wDGet, wDGet2, wDIn, wDPut, wBM, wNext, wPar, wAug, wIterT, wIterL, wRange1, wRange2, wRange3, wMake, wFldS, wNewDict, wDict1, wSl, wNoPart, wPart, wRevL, wRevM, wTupRev, wPos, wRaise, wTry, wAt, wIsX, wEnumT, wLc, wLcM, wFor, wWhile, wBreak, wCont, wYes, exOf, wLPut]
    refine ⟨small (by show 1 ≤ 200; decide), _, rfl, ⟨kn, kvs, rfl, hkn⟩, .str x, rfl, by decide, _, ⟨kn, kvs, _, rfl, hkn, rfl, rfl⟩, _, .inl (KD.1 x), ?_⟩
    refine lcD_map _ (valF ts) (by rw [List.length_map]; have := knL_len ts ts.length x; exact small (by omega)) (fun dd hdd R hR => ?_) ?_
    · obtain ⟨i, hi, rfl⟩ := List.mem_map.mp hdd
      obtain ⟨ai, ei⟩ := knL_saw hi
      refine ⟨_, rfl, natD i, rfl, _, ix_tup (atT ei), _, ix_tup rfl, ?_⟩
      have : valF ts (natD i) = .int (valT ts i) := by show D.int (valT ts ((i : Int)).toNat) = _; rw [Int.toNat_natCast]
      rw [this] at hR
      exact hR
    · refine max_is hok (by omega) ?_
      refine ⟨_, rfl, .bl (decide (0 < tok ts ts.length x)), rfl, _, rfl, ?_⟩
      have rest' : ∀ M7, Kept M4 M7 → M7 du = some (.dct (kvD (dueL ts (five.take (j + 1))))) → True := fun _ _ _ => trivial
      have etake : five.take (j + 1) = five.take j ++ [x] := by rw [List.take_add_one, ex]; rfl
      obtain ⟨tns, TA, hlook, hfour, hlen⟩ := LS6.tok.ex
      by_cases h0 : 0 < tok ts ts.length x
      · refine ifT (decide_eq_true h0) ?_
        refine ⟨_, rfl, _, rfl, _, rfl, du, _, _, rfl, hdu6, rfl, ?_, ?_⟩
        · rw [kvD_len]
          have := due_len (ts := ts) (names := five.take j)
          have : (five.take j).length ≤ 5 := by rw [List.length_take]; exact Nat.min_le_right _ _
          exact small1000 (by omega)
        · rw [putD_kvD, due_step hxn h0, ← etake]
          have kp7 := kp6.upd (n := .dct (kvD (dueL ts (five.take (j + 1))))) hdu
          obtain ⟨tns, TA, hlook, hfour, hlen⟩ := (LS.kept kp7).tok.ex
          refine ⟨_, rfl, a, _, rfl, TA.ins, by rfl, _, rfl, a, d, tns, x, rfl, TA, _, rfl, same_of (by rw [hlook]) plain_int ?_⟩
          refine ⟨true, rfl, ifF rfl ?_⟩
          exact next _ _ ⟨_, _, rfl, updM_same, kp7⟩
      · refine ifF (decide_eq_false h0) ?_
        refine ⟨_, rfl, a, _, rfl, TA.ins, by rfl, _, rfl, a, d, tns, x, rfl, TA, _, rfl, same_of (by rw [hlook]) plain_int ?_⟩
        refine ⟨true, rfl, ifF rfl ?_⟩
        exact next _ _ ⟨_, _, rfl, by rw [etake, ← due_skip h0]; exact hdu6, kp6⟩
  rintro ρ M7 ⟨x7, x9, rfl, hd7, kp7⟩
  clear hd5 kp5
  obtain ⟨tns, TA4, hlook, hfour, htlen⟩ := LS.tok.ex
  have TA : ∀ {M' : Mem}, Kept M4 M' → TokAt Z M' a d tns := fun k => ⟨k _ _ TA4.ins, k _ _ TA4.dct, TA4.nd⟩
  have LSk : ∀ {M' : Mem}, Kept M4 M' → LawS Z ts p q kn fo a d M' := fun k => LS.kept k
  have permd := due_perm TA4.nd hlook hfour
  -- all_of
  refine wSeq_step (fun ρ M' => ∃ x7 x9 al, ρ = R24 sc (.adr p) (.tup (ts.map talkD)) (.adr kn) (.adr fo) (.adr a) (.adr du) x7 none x9 (some (.adr al)) none none none none none none none none none none none none none ∧ M' du = some (.dct (kvD (dueL ts five))) ∧ M' al = some (.dct (kvD (tns.filter posQ))) ∧ M4 al = none ∧ al ≠ du ∧ Kept M4 M') (fun k hk => ?_) ?_
  · simp only [wSeq, wIfS, wTest, wOp, wVar, wC, wRet, wRetN, wAsg, wgName, wgTup, wgCons, wgNil, wDrop, wCall, wCons, wNil, wTup, wLst, wLstM, wCB, wCR, wIf, wAnd, wOr, wNot, wAndV, wOrV, wNotV, wChain, wUn, wFld, wMeth, wDGet, wDGet2, wDIn, wDPut, wBM, wNext, wPar, wAug, wIterT, wIterL, wRange1, wRange2, wRange3, wMake, wFldS, wNewDict, wDict1, wSl, wNoPart, wPart, wRevL, wRevM, wTupRev, wPos, wRaise, wTry, wAt, wIsX, wEnumT, wLc, wLcM, wFor, wWhile, wBreak, wCont, wYes, exOf, wLPut]
    refine ⟨_, rfl, a, _, rfl, (TA kp7).ins, by rfl, a, d, tns, rfl, TA kp7, by omega, fun al hal => hk _ _ ⟨_, _, al, rfl, ?_⟩⟩
    have h1 : M4 al = none := by
      cases h : M4 al with
      | none => rfl
      | some n => rw [kp7 _ _ h] at hal; cases hal
    have h2 : al ≠ du := fun e => by rw [e, hd7] at hal; cases hal
    exact ⟨by rw [updM_ne (Ne.symm h2)]; exact hd7, updM_same, h1, h2, kp7.upd h1⟩
  rintro ρ M8 ⟨x7, x9, al, rfl, hd8, hal8, hal4, hne, kp8⟩
  refine wSeq_step (fun ρ M' => ∃ x7 x9, ρ = R24 sc (.adr p) (.tup (ts.map talkD)) (.adr kn) (.adr fo) (.adr a) (.adr du) x7 none x9 (some (.adr al)) none none none none none none none none none none none none none ∧ M' du = some (.dct (kvD (dueL ts five))) ∧ M' al = some (.dct (kvD (tns.filter posQ))) ∧ Kept M4 M') (fun k hk => ?_) ?_
  · simp only [wSeq, wIfS, wTest, wOp, wVar, wC, wRet, wRetN, wAsg, wgName, wgTup, wgCons, wgNil, wDrop, wCall, wCons, wNil, wTup, wLst, wLstM, wCB, wCR, wIf, wAnd, wOr, wNot, wAndV, wOrV, wNotV, wChain, wUn, wFld, wMeth, wDGet, wDGet2, wDIn, wDPut, wBM, wNext, wPar, wAug, wIterT, wIterL, wRange1, wRange2, wRange3, wMake, wFldS, wNewDict, wDict1, wSl, wNoPart, wPart, wRevL, wRevM, wTupRev, wPos, wRaise, wTry, wAt, wIsX, wEnumT, wLc, wLcM, wFor, wWhile, wBreak, wCont, wYes, exOf, wLPut]
    refine ⟨_, rfl, .bl true, by simp [fIsi, kindD, isTy, hal8], _, rfl, ifF rfl ?_⟩
    refine ⟨_, rfl, .inr ⟨rfl, _, hal8⟩, al, _, rfl, rfl, hal8, fun i1 hi1 => ⟨i1, al, tns.filter posQ, rfl, updM_same, ?_, fun qs1 hp1 hs1 => ⟨_, rfl, ?_⟩⟩⟩
    · rw [updM_ne (fun e => by rw [e, hi1] at hal8; cases hal8)]; exact hal8
    have hdu1 : (updM M8 i1 (.raw (itemsO i1 al))) du = some (.dct (kvD (dueL ts five))) := by rw [updM_ne (fun e => by rw [e, hi1] at hd8; cases hd8)]; exact hd8
    refine ⟨_, rfl, .inr ⟨rfl, _, hdu1⟩, du, _, rfl, rfl, hdu1, fun i2 hi2 => ⟨i2, du, dueL ts five, rfl, updM_same, ?_, fun qs2 hp2 hs2 => ⟨_, rfl, ?_⟩⟩⟩
    · rw [updM_ne (fun e => by rw [e, hi2] at hdu1; cases hdu1)]; exact hdu1
    have eq : qs1 = qs2 := sorted_unique (hp1.trans (permd.trans hp2.symm)) ((hp1.map (·.1)).nodup_iff.mpr (TA4.nd.sublist (List.filter_sublist.map _))) hs1 hs2
    subst eq
    have lq : qs1.length ≤ 5 := by
      rw [hp2.length_eq]
      exact due_len
    refine same_of rfl (plain_tup (by rw [List.length_map]; omega) fun x hx => ?_) ?_
    · obtain ⟨e, _, rfl⟩ := List.mem_map.mp hx
      refine plain_tup (by show 2 ≤ 1000; decide) fun y hy => ?_
      rcases List.mem_cons.mp hy with rfl | hy
      · exact plain_str
      · rw [List.mem_singleton.mp hy]; exact plain_int
    · refine ⟨true, rfl, ifF rfl ?_⟩
      have e1 : ∀ {b : Addr} {n : N}, M8 b = some n → (updM (updM M8 i1 (.raw (itemsO i1 al))) i2 (.raw (itemsO i2 du))) b = some n := fun {b n} h => by
        have : (updM M8 i1 (.raw (itemsO i1 al))) b = some n := by rw [updM_ne (fun e => by rw [e, hi1] at h; cases h)]; exact h
        rw [updM_ne (fun e => by rw [e, hi2] at this; cases this)]; exact this
      exact hk _ _ ⟨_, _, rfl, e1 hd8, e1 hal8, fun b n h => e1 (kp8 b n h)⟩
  rintro ρ M9 ⟨x7, x9, rfl, hd9, hal9, kp9⟩
  -- all_of["ann"] = 99
  refine wSeq_step (fun ρ M' => ∃ x7 x9, ρ = R24 sc (.adr p) (.tup (ts.map talkD)) (.adr kn) (.adr fo) (.adr a) (.adr du) x7 none x9 (some (.adr al)) none none none none none none none none none none none none none ∧ M' du = some (.dct (kvD (dueL ts five))) ∧ Kept M4 M') (fun k hk => ?_) ?_
  · simp only [wSeq, wIfS, wTest, wOp, wVar, wC, wRet, wRetN, wAsg, wgName, wgTup, wgCons, wgNil, wDrop, wCall, wCons, wNil, wTup, wLst, wLstM, wCB, wCR, wIf, wAnd, wOr, wNot, wAndV, wOrV, wNotV, wChain, wUn, wFld, wMeth, wDGet, wDGet2, wDIn, wDPut, wBM, wNext, wPar, wAug, wIterT, wIterL, wRange1, wRange2, wRange3, wMake, wFldS, wNewDict, wDict1, wSl, wNoPart, wPart, wRevL, wRevM, wTupRev, wPos, wRaise, wTry, wAt, wIsX, wEnumT, wLc, wLcM, wFor, wWhile, wBreak, wCont, wYes, exOf, wLPut]
    refine ⟨_, rfl, al, _, _, rfl, hal9, rfl, ?_, hk _ _ ⟨_, _, rfl, ?_, kp9.upd hal4⟩⟩
    · rw [kvD_len]
      have := List.length_filter_le posQ tns
      exact small1000 (by omega)
    · rw [updM_ne (Ne.symm hne)]; exact hd9
  rintro ρ M10 ⟨x7, x9, rfl, hd10, kp10⟩
  refine wSeq_step (fun ρ M' => ∃ x7 x9, ρ = R24 sc (.adr p) (.tup (ts.map talkD)) (.adr kn) (.adr fo) (.adr a) (.adr du) x7 none x9 (some (.adr al)) none none none none none none none none none none none none none ∧ Kept M4 M') (fun k hk => ?_) ?_
  · simp only [wSeq, wIfS, wTest, wOp, wVar, wC, wRet, wRetN, wAsg, wgName, wgTup, wgCons, wgNil, wDrop, wCall, wCons, wNil, wTup, wLst, wLstM, wCB, wCR, wIf, wAnd, wOr, wNot, wAndV, wOrV, wNotV, wChain, wUn, wFld, wMeth, wDGet, wDGet2, wDIn, wDPut, wBM, wNext, wPar, wAug, wIterT, wIterL, wRange1, wRange2, wRange3, wMake, wFldS, wNewDict, wDict1, wSl, wNoPart, wPart, wRevL, wRevM, wTupRev, wPos, wRaise, wTry, wAt, wIsX, wEnumT, wLc, wLcM, wFor, wWhile, wBreak, wCont, wYes, exOf, wLPut]
    refine ⟨_, rfl, a, _, rfl, (TA kp10).ins, by rfl, a, d, tns, _, rfl, TA kp10, _, rfl, ⟨du, _, rfl, hd10⟩, _, ⟨du, _, _, rfl, hd10, rfl, rfl⟩, ?_⟩
    rw [valD_look]
    refine same_of (by rw [hlook, look_due hok (by decide)]) plain_int ?_
    refine ⟨true, rfl, ifF rfl ?_⟩
    intro n1 hn1
    refine ⟨n1, rfl, updM_same, fun n2 hn2 => ⟨rfl, ?_⟩⟩
    obtain ⟨tk, kp, _⟩ := tok_made (Z := Z) (ts := []) hn1 hn2
    obtain ⟨ns0, T0, hl0, _, _⟩ := tk.ex
    refine ⟨n1, _, rfl, T0.ins, by rfl, n1, n2, ns0, _, rfl, T0, same_of (by rw [hl0]; rfl) plain_int ?_⟩
    refine ⟨true, rfl, ifF rfl ?_⟩
    exact hk _ _ ⟨_, _, rfl, kp10.trans kp⟩
  rintro ρ M11 ⟨x7, x9, rfl, kp11⟩
  have LS11 := LSk kp11
  clear kp11 hd10 hd9 hal9 hd8 hal8 hd7 hdu hal4 hne kp10 kp9 kp8 kp7 LS LSk TA TA4 hlook hfour htlen permd
  -- first, best
  refine wSeq_step (fun ρ M' => ∃ x7 x9, ρ = R24 sc (.adr p) (.tup (ts.map talkD)) (.adr kn) (.adr fo) (.adr a) (.adr du) x7 none x9 (some (.adr al)) (some .non) (some .non) none none none none none none none none none none none ∧ LawS Z ts p q kn fo a d M') (fun k hk => ?_) ?_
  · simp only [wSeq, wIfS, wTest, wOp, wVar, wC, wRet, wRetN, wAsg, wgName, wgTup, wgCons, wgNil, wDrop, wCall, wCons, wNil, wTup, wLst, wLstM, wCB, wCR, wIf, wAnd, wOr, wNot, wAndV, wOrV, wNotV, wChain, wUn, wFld, wMeth, wDGet, wDGet2, wDIn, wDPut, wBM, wNext, wPar, wAug, wIterT, wIterL, wRange1, wRange2, wRange3, wMake, wFldS, wNewDict, wDict1, wSl, wNoPart, wPart, wRevL, wRevM, wTupRev, wPos, wRaise, wTry, wAt, wIsX, wEnumT, wLc, wLcM, wFor, wWhile, wBreak, wCont, wYes, exOf, wLPut]
    exact ⟨small (by show 2 ≤ 200; decide), _, rfl, rfl, _, _, rfl, _, _, rfl, rfl, hk _ _ ⟨_, _, rfl, LS11⟩⟩
  rintro ρ M12 ⟨x7, x9, rfl, LS12⟩
  -- who goes back first
  refine wSeq_step (fun ρ M' => ∃ x7 x8 x9 x13 f b, ρ = R24 sc (.adr p) (.tup (ts.map talkD)) (.adr kn) (.adr fo) (.adr a) (.adr du) x7 x8 x9 (some (.adr al)) (some f) (some b) x13 none none none none none none none none none none ∧ FirstD ts f b ∧ LawS Z ts p q kn fo a d M') (fun k hk => ?_) ?_
  · unfold wFor wIterL
    obtain ⟨fvs, hfo, FD⟩ := LS12.fou
    have ek : fvs.map (fun kv => kD kv.1) = (places ts).map natD := by
      have := congrArg (List.map kD) FD.1
      rw [List.map_map, List.map_map] at this
      exact this
    simp only [wSeq, wIfS, wTest, wOp, wVar, wC, wRet, wRetN, wAsg, wgName, wgTup, wgCons, wgNil, wDrop, wCall, wCons, wNil, wTup, wLst, wLstM, wCB, wCR, wIf, wAnd, wOr, wNot, wAndV, wOrV, wNotV, wChain, wUn, wFld, wMeth, wDGet, wDGet2, wDIn, wDPut, wBM, wNext, wPar, wAug, wIterT, wIterL, wRange1, wRange2, wRange3, wMake, wFldS, wNewDict, wDict1, wSl, wNoPart, wPart, wRevL, wRevM, wTupRev, wPos, wRaise, wTry, wAt, wIsX, wEnumT, wLc, wLcM, wFor, wWhile, wBreak, wCont, wYes, exOf, wLPut]
    refine ⟨_, rfl, fo, fvs, rfl, hfo, _, _, (places ts).map (fun (i : Nat) => (i : Int)), rfl, rfl, by rw [ek, natInts, intsD_map], fun ns' hp hs => ⟨_, .inl rfl, ?_⟩⟩
    have ens : ns' = (places ts).map (fun (i : Nat) => (i : Int)) := by
      refine List.Perm.eq_of_pairwise (le := (· ≤ ·)) (fun a b _ _ h h' => by omega) hs ?_ hp
      exact (rising_nat (places_sorted ts)).imp fun h => by omega
    rw [ens, ← natInts]
    refine forD_inv _ (fun j ρ M' => ∃ x7 x8 x9 x13 f b, ρ = R24 sc (.adr p) (.tup (ts.map talkD)) (.adr kn) (.adr fo) (.adr a) (.adr du) x7 x8 x9 (some (.adr al)) (some f) (some b) x13 none none none none none none none none none none ∧ FirstJ ts ((places ts).take j) f b ∧ LawS Z ts p q kn fo a d M') ?_ ?_ ⟨_, _, _, _, _, _, rfl, .inl ⟨rfl, rfl, fun i hi => by cases hi⟩, LS12⟩
    · rintro j dd rest ρ M13 hdr hd ⟨x7, x8, x9, x13, f, b, rfl, FJ, LS13⟩ next
      rw [List.getElem?_map] at hd
      obtain ⟨i, hi, rfl⟩ := Option.map_eq_some_iff.mp hd
      obtain ⟨c, v, e⟩ : ∃ c v, ts[i]? = some (.saw c v) := by
        have := (List.mem_filter.mp (List.mem_of_getElem? hi)).2
        unfold sawB at this
        split at this
        · rename_i c v e; exact ⟨c, v, e⟩
        · cases this
      have hil : i < ts.length := (List.getElem?_eq_some_iff.mp e).1
      have hkl := knL_len ts i c
      have hv0 : 0 ≤ v := (hok _ (List.mem_of_getElem? e)).2
      have get : ∀ {M' : Mem}, LawS Z ts p q kn fo a d M' → DGetD M' (.adr fo) (natD i) (some (.tup ((knL ts i c).map natD))) := fun L => by
        obtain ⟨fvs, hfo, FD⟩ := L.fou
        exact ⟨fo, fvs, _, rfl, hfo, rfl, (FD.2 i c v hil e).symm⟩
      simp only [wSeq, wIfS, wTest, wOp, wVar, wC, wRet, wRetN, wAsg, wgName, wgTup, wgCons, wgNil, wDrop, wCall, wCons, wNil, wTup, wLst, wLstM, wCB, wCR, wIf, wAnd, wOr, wNot, wAndV, wOrV, wNotV, wChain, wUn, wFld, wMeth, wDGet, wDGet2, wDIn, wDPut, wBM, wNext, wPar, wAug, wIterT, wIterL, wRange1, wRange2, wRange3, wMake, wFldS, wNewDict, wDict1, wSl, wNoPart, wPart, wRevL, wRevM, wTupRev, wPos, wRaise, wTry, wAt, wIsX, wEnumT, wLc, wLcM, wFor, wWhile, wBreak, wCont, wYes, exOf, wLPut]
      refine ⟨_, rfl, natD i, rfl, ts, i, c, v, rfl, by omega, e, fun M14 kp => ?_⟩
      have LS14 := LS13.kept kp
      refine ⟨_, rfl, natD i, rfl, _, get LS14, same_of rfl (plain_tup (by rw [List.length_map]; omega) fun x hx => ?_) ⟨true, rfl, ifF rfl ?_⟩⟩
      · obtain ⟨o, _, rfl⟩ := List.mem_map.mp hx
        exact plain_int
      refine ⟨small (by show 1 ≤ 200; decide), _, rfl, natD i, rfl, _, get LS14, _, rfl, ?_⟩
      have comp : ∀ {o : Nat}, o ∈ knL ts i c → ∃ t, atI (ts.map talkD) (o : Int) = some (talkD t) ∧ ∃ a', t = .saw a' (valT ts o) := fun ho => by
        obtain ⟨ao, eo⟩ := knL_saw ho
        exact ⟨_, atT eo, ao, rfl⟩
      refine lcD_map _ (valF ts) (by rw [List.length_map]; exact small (by omega)) (fun dd hdd R hR => ?_) ?_
      · obtain ⟨o, ho, rfl⟩ := List.mem_map.mp hdd
        obtain ⟨ao, eo⟩ := knL_saw ho
        refine ⟨_, rfl, natD o, rfl, _, ix_tup (atT eo), _, ix_tup rfl, ?_⟩
        have : valF ts (natD o) = .int (valT ts o) := by show D.int (valT ts ((o : Int)).toNat) = _; rw [Int.toNat_natCast]
        rw [this] at hR
        exact hR
      refine max_is hok (by omega) ?_
      have hit : hitB ts i ↔ v < tok ts i c := ⟨fun ⟨a', v', e', h⟩ => by rw [e] at e'; cases e'; exact h, fun h => ⟨c, v, e, h⟩⟩
      rcases FJ with ⟨rfl, rfl, no⟩ | FJ
      · refine ⟨_, rfl, .bl true, rfl, _, rfl, ifT rfl ?_⟩
        refine ⟨_, rfl, _, rfl, natD i, rfl, _, ix_tup (atT e), _, ix_tup rfl, .bl (decide (v < tok ts i c)), rfl, _, rfl, ?_⟩
        by_cases hh : v < tok ts i c
        · refine ifT (decide_eq_true hh) ?_
          refine ⟨_, rfl, ?_⟩
          refine ⟨_, rfl, natD i, rfl, _, get LS14, _, rfl, ?_⟩
          refine lcD_inv _ (fun j acc M' => acc = (((knL ts i c).take j).filter (fun o => decide (valT ts o = tok ts i c))).map natD ∧ M' = M14) ?_ ?_ ⟨rfl, rfl⟩
          · rintro j2 dd rest2 acc M15 hdr2 hd2 ⟨rfl, rfl⟩ next2
            rw [List.getElem?_map] at hd2
            obtain ⟨o, ho, rfl⟩ := Option.map_eq_some_iff.mp hd2
            obtain ⟨ao, eo⟩ := knL_saw (List.mem_of_getElem? ho)
            refine ⟨_, rfl, natD o, rfl, _, ix_tup (atT eo), _, ix_tup rfl, _, rfl, _, eq_int, _, rfl, ?_⟩
            have et : (knL ts i c).take (j2 + 1) = (knL ts i c).take j2 ++ [o] := by rw [List.take_add_one, ho]; rfl
            by_cases hq : valT ts o = tok ts i c
            · refine ifT (decide_eq_true hq) ?_
              refine ⟨_, rfl, ?_, next2 _ _ ⟨?_, rfl⟩⟩
              · rw [List.length_map]
                refine small1000 (Nat.le_trans (List.length_filter_le _ _) ?_)
                rw [List.length_take]
                omega
              · rw [et, List.filter_append, List.map_append]
                simp [hq]
            · refine ifF (decide_eq_false hq) (next2 _ _ ⟨?_, rfl⟩)
              rw [et, List.filter_append, List.map_append]
              simp [hq]
          · rintro acc M15 ⟨rfl, rfl⟩
            rw [List.length_map, List.take_length]
            obtain ⟨b, hb⟩ : ∃ b, firstBest ts i c = some b := by
              rcases (tok_max hok i c).2.2 with h | ⟨o, ho, eo⟩
              · omega
              · cases hf : firstBest ts i c with
                | some b => exact ⟨b, rfl⟩
                | none =>
                  have := List.find?_eq_none.mp hf o (mem_knL.mpr ho)
                  simp [eo] at this
            have hb2 : ((knL ts i c).filter (fun o => decide (valT ts o = tok ts i c)))[0]? = some b := by
              rw [← List.head?_eq_getElem?, List.head?_filter]
              exact hb
            refine ⟨natD b, ix_flst (atI_at (k := 0) (by rw [List.getElem?_map, hb2]; rfl)), ?_⟩
            refine next _ _ ⟨_, _, _, _, _, _, rfl, .inr ⟨i, c, v, b, rfl, rfl, first_back hi no (hit.mpr hh), e, hb⟩, LS14⟩
        · refine ifF (decide_eq_false hh) ?_
          refine next _ _ ⟨_, _, _, _, _, _, rfl, .inl ⟨rfl, rfl, fun k hk => ?_⟩, LS14⟩
          rw [List.take_add_one, hi] at hk
          rcases List.mem_append.mp hk with hk | hk
          · exact no k hk
          · have : k = i := by simpa using hk
            rw [this]
            exact fun h => hh (hit.mp h)
      · obtain ⟨k0, c0, v0, i0, rfl, rfl, hrest⟩ := FJ
        refine ⟨_, rfl, .bl false, rfl, _, rfl, ifF rfl ?_⟩
        exact next _ _ ⟨_, _, _, _, _, _, rfl, .inr ⟨k0, c0, v0, i0, rfl, rfl, hrest⟩, LS14⟩
    · rintro ρ M13 ⟨x7, x8, x9, x13, f, b, rfl, FJ, LS13⟩
      rw [List.length_map, List.take_length] at FJ
      exact hk _ _ ⟨_, _, _, _, _, _, rfl, FJ.fin, LS13⟩
  rintro ρ M13 ⟨x7, x8, x9, x13, f, b, rfl, FF, LS13⟩
  clear LS12 LS11
  refine wSeq_step (fun ρ M' => ρ = R24 sc (.adr p) (.tup (ts.map talkD)) (.adr kn) (.adr fo) (.adr a) (.adr du) x7 x8 x9 (some (.adr al)) (some f) (some b) x13 none none none none none none none none none none ∧ LawS Z ts p q kn fo a d M') (fun k hk => ?_) ?_
  · simp only [wSeq, wIfS, wTest, wOp, wVar, wC, wRet, wRetN, wAsg, wgName, wgTup, wgCons, wgNil, wDrop, wCall, wCons, wNil, wTup, wLst, wLstM, wCB, wCR, wIf, wAnd, wOr, wNot, wAndV, wOrV, wNotV, wChain, wUn, wFld, wMeth, wDGet, wDGet2, wDIn, wDPut, wBM, wNext, wPar, wAug, wIterT, wIterL, wRange1, wRange2, wRange3, wMake, wFldS, wNewDict, wDict1, wSl, wNoPart, wPart, wRevL, wRevM, wTupRev, wPos, wRaise, wTry, wAt, wIsX, wEnumT, wLc, wLcM, wFor, wWhile, wBreak, wCont, wYes, exOf, wLPut]
    refine ⟨_, rfl, ts, rfl, by omega, hok, fun r M14 hr kp => ⟨f, rfl, same_of (FF.back hr).symm ?_ ⟨true, rfl, ifF rfl ?_⟩⟩⟩
    · cases r with
      | none => exact plain_non
      | some k => exact plain_int
    refine ⟨_, rfl, ts, rfl, by omega, hok, fun r M15 hr kp2 => ?_⟩
    rcases FF.wit hr with ⟨rfl, rfl⟩ | ⟨⟨k0, rfl⟩, rfl⟩
    · refine ⟨_, rfl, .bl false, rfl, _, rfl, ifF rfl (same_of rfl plain_non ⟨true, rfl, ifF rfl ?_⟩)⟩
      exact hk _ _ ⟨rfl, (LS13.kept kp).kept kp2⟩
    · obtain ⟨_, i, _, rfl⟩ := (part_first FF).2.2 (by intro h; cases h)
      refine ⟨_, rfl, .bl true, rfl, _, rfl, ifT rfl ⟨_, rfl, _, rfl, small (by show 2 ≤ 200; decide), same_of rfl (plain_tup (by show 2 ≤ 1000; decide) fun x hx => ?_) ⟨true, rfl, ifF rfl ?_⟩⟩⟩
      · rcases List.mem_cons.mp hx with rfl | hx
        · exact plain_int
        · rw [List.mem_singleton.mp hx]; exact plain_int
      · exact hk _ _ ⟨rfl, (LS13.kept kp).kept kp2⟩
  rintro ρ M14 ⟨rfl, LS14⟩
  clear LS13
  -- pairs and bent pairs
  refine wSeq_step (fun ρ M' => ∃ x7 x8 x9 x13 x14 x15 x16 x17, ρ = R24 sc (.adr p) (.tup (ts.map talkD)) (.adr kn) (.adr fo) (.adr a) (.adr du) x7 x8 x9 (some (.adr al)) (some f) (some b) x13 x14 x15 x16 x17 none none none none none none ∧ LawS Z ts p q kn fo a d M') (fun k hk => ?_) ?_
  · unfold wFor wRange1
    simp only [wSeq, wIfS, wTest, wOp, wVar, wC, wRet, wRetN, wAsg, wgName, wgTup, wgCons, wgNil, wDrop, wCall, wCons, wNil, wTup, wLst, wLstM, wCB, wCR, wIf, wAnd, wOr, wNot, wAndV, wOrV, wNotV, wChain, wUn, wFld, wMeth, wDGet, wDGet2, wDIn, wDPut, wBM, wNext, wPar, wAug, wIterT, wIterL, wRange1, wRange2, wRange3, wMake, wFldS, wNewDict, wDict1, wSl, wNoPart, wPart, wRevL, wRevM, wTupRev, wPos, wRaise, wTry, wAt, wIsX, wEnumT, wLc, wLcM, wFor, wWhile, wBreak, wCont, wYes, exOf, wLPut]
    refine ⟨6, rfl, by omega, by omega, ?_⟩
    refine forD_inv _ (fun j ρ M' => ∃ x7 x8 x9 x13 x14 x15 x16 x17, ρ = R24 sc (.adr p) (.tup (ts.map talkD)) (.adr kn) (.adr fo) (.adr a) (.adr du) x7 x8 x9 (some (.adr al)) (some f) (some b) x13 x14 x15 x16 x17 none none none none none none ∧ LawS Z ts p q kn fo a d M') ?_ (fun ρ M' h => hk _ _ h) ⟨_, _, _, _, _, _, _, _, rfl, LS14⟩
    rintro j dd rest ρ M15 hdr hd ⟨x7, x8, x9, x13, x14, x15, x16, x17, rfl, LS15⟩ next
    obtain ⟨hj6, rfl⟩ := intsFrom_at hd
    have many : (0 : Int) < (ts.length : Int) + 1 ∧ (ts.length : Int) + 1 < 1073741824 := ⟨by omega, by omega⟩
    have hlen : fLen [.tup (ts.map talkD)] = fun _ => some (.int (ts.length : Int)) := by
      funext M
      simp [fLen, itemsD]
    refine wSeq_step (fun ρ M' => ∃ x y : Int, ρ = R24 sc (.adr p) (.tup (ts.map talkD)) (.adr kn) (.adr fo) (.adr a) (.adr du) x7 x8 x9 (some (.adr al)) (some f) (some b) x13 (some (natD j)) (some (.tup [.int x, .int y])) x16 x17 none none none none none none ∧ LawS Z ts p q kn fo a d M') (fun k2 hk2 => ?_) ?_
    · simp only [wSeq, wIfS, wTest, wOp, wVar, wC, wRet, wRetN, wAsg, wgName, wgTup, wgCons, wgNil, wDrop, wCall, wCons, wNil, wTup, wLst, wLstM, wCB, wCR, wIf, wAnd, wOr, wNot, wAndV, wOrV, wNotV, wChain, wUn, wFld, wMeth, wDGet, wDGet2, wDIn, wDPut, wBM, wNext, wPar, wAug, wIterT, wIterL, wRange1, wRange2, wRange3, wMake, wFldS, wNewDict, wDict1, wSl, wNoPart, wPart, wRevL, wRevM, wTupRev, wPos, wRaise, wTry, wAt, wIsX, wEnumT, wLc, wLcM, wFor, wWhile, wBreak, wCont, wYes, exOf, wLPut]
      refine ⟨_, rfl, _, rfl, .int (ts.length : Int), by rw [hlen], _, rfl, p, q, _, rfl, many.1, many.2, LS15.heap, fun x M16 _ _ h1 h2 => ?_⟩
      refine ⟨_, rfl, _, rfl, .int (ts.length : Int), by rw [hlen], _, rfl, p, q, _, rfl, many.1, many.2, h1, fun y M17 _ _ h3 h4 => ?_⟩
      exact ⟨small (by show 2 ≤ 200; decide), hk2 _ _ ⟨x, y, rfl, (LS15.hsame h1 h2).hsame h3 h4⟩⟩
    rintro ρ M16 ⟨x, y, rfl, LS16⟩
    refine wSeq_step (fun ρ M' => ∃ v, ρ = R24 sc (.adr p) (.tup (ts.map talkD)) (.adr kn) (.adr fo) (.adr a) (.adr du) x7 x8 x9 (some (.adr al)) (some f) (some b) x13 (some (natD j)) (some (.tup [.int x, .int y])) (some v) x17 none none none none none none ∧ LawS Z ts p q kn fo a d M' ∧ valOk M' v) (fun k2 hk2 => ?_) ?_
    · have two : ∀ {u w : D}, partD u → partD w → ∀ e ∈ [u, w], partD e := fun hu hw e he => by
        rcases List.mem_cons.mp he with rfl | he
        · exact hu
        · rw [List.mem_singleton.mp he]; exact hw
      have pf := part_first FF
      have rest2 : (wIf (wTest (wOp fLt (wVar 14) (wC (.int 4)))) (wVar 15) (wCall (sp_law_bent Z) [] (wCons (wVar 1) (wCons (wVar 15) (wCons (wLst (wCons (wVar 11) (wCons (wTup (wCons (wVar 12) (wCons (wVar 11) (wNil)))) (wNil)))) (wNil)))))) (fun v M' => k2 (R24 sc (.adr p) (.tup (ts.map talkD)) (.adr kn) (.adr fo) (.adr a) (.adr du) x7 x8 x9 (some (.adr al)) (some f) (some b) x13 (some (natD j)) (some (.tup [.int x, .int y])) (some v) x17 none none none none none none) M') (fun C d M' => Ex C d M') (R24 sc (.adr p) (.tup (ts.map talkD)) (.adr kn) (.adr fo) (.adr a) (.adr du) x7 x8 x9 (some (.adr al)) (some f) (some b) x13 (some (natD j)) (some (.tup [.int x, .int y])) x16 x17 none none none none none none) M16 := by
        simp only [wSeq, wIfS, wTest, wOp, wVar, wC, wRet, wRetN, wAsg, wgName, wgTup, wgCons, wgNil, wDrop, wCall, wCons, wNil, wTup, wLst, wLstM, wCB, wCR, wIf, wAnd, wOr, wNot, wAndV, wOrV, wNotV, wChain, wUn, wFld, wMeth, wDGet, wDGet2, wDIn, wDPut, wBM, wNext, wPar, wAug, wIterT, wIterL, wRange1, wRange2, wRange3, wMake, wFldS, wNewDict, wDict1, wSl, wNoPart, wPart, wRevL, wRevM, wTupRev, wPos, wRaise, wTry, wAt, wIsX, wEnumT, wLc, wLcM, wFor, wWhile, wBreak, wCont, wYes, exOf, wLPut]
        refine ⟨_, rfl, .bl (decide ((j : Int) < 4)), rfl, _, rfl, ?_⟩
        by_cases c4 : (j : Int) < 4
        · refine ifT (decide_eq_true c4) ?_
          exact ⟨_, rfl, hk2 _ _ ⟨_, rfl, LS16, .inl ⟨_, rfl, by show 2 ≤ 1000; decide, two part_int part_int⟩⟩⟩
        · refine ifF (decide_eq_false c4) ?_
          refine ⟨_, rfl, _, rfl, _, rfl, _, rfl, _, rfl, small (by show 2 ≤ 200; decide), small (by show 2 ≤ 200; decide), p, q, x, y, _, rfl, by show 2 ≤ 100; decide, two pf.1 part_tup, LS16.heap, fun v M17 hv h1 h2 => ?_⟩
          exact hk2 _ _ ⟨v, rfl, LS16.hsame h1 h2, hv⟩
      by_cases hf : f = .non
      · subst hf
        refine ⟨_, rfl, .bl false, rfl, _, rfl, ifF rfl ?_⟩
        exact ifF rfl rest2
      · obtain ⟨k0, i0, rfl, rfl⟩ := pf.2.2 hf
        refine ⟨_, rfl, .bl true, rfl, _, rfl, ifT rfl ?_⟩
        refine ⟨_, rfl, .bl (decide ((j : Int) = 0)), rfl, _, rfl, ?_⟩
        by_cases hj : (j : Int) = 0
        · refine ifT (decide_eq_true hj) ?_
          exact ⟨_, rfl, _, rfl, small (by show 2 ≤ 200; decide), hk2 _ _ ⟨_, rfl, LS16, .inl ⟨_, rfl, by show 2 ≤ 1000; decide, two part_int part_int⟩⟩⟩
        · exact ifF (decide_eq_false hj) rest2
    rintro ρ M17 ⟨v, rfl, LS17, hv⟩
    refine wSeq_step (fun ρ M' => ∃ r : Bool, ρ = R24 sc (.adr p) (.tup (ts.map talkD)) (.adr kn) (.adr fo) (.adr a) (.adr du) x7 x8 x9 (some (.adr al)) (some f) (some b) x13 (some (natD j)) (some (.tup [.int x, .int y])) (some v) (some (.bl r)) none none none none none none ∧ M' = M17 ∧ ((r = true ∧ ∃ x y : Nat, v = .tup [natD x, natD y] ∧ x < ts.length ∧ y < ts.length) ∨ (r = false ∧ rightB ts v = false))) (fun k2 hk2 => ?_) ?_
    · simp only [wSeq, wIfS, wTest, wOp, wVar, wC, wRet, wRetN, wAsg, wgName, wgTup, wgCons, wgNil, wDrop, wCall, wCons, wNil, wTup, wLst, wLstM, wCB, wCR, wIf, wAnd, wOr, wNot, wAndV, wOrV, wNotV, wChain, wUn, wFld, wMeth, wDGet, wDGet2, wDIn, wDPut, wBM, wNext, wPar, wAug, wIterT, wIterL, wRange1, wRange2, wRange3, wMake, wFldS, wNewDict, wDict1, wSl, wNoPart, wPart, wRevL, wRevM, wTupRev, wPos, wRaise, wTry, wAt, wIsX, wEnumT, wLc, wLcM, wFor, wWhile, wBreak, wCont, wYes, exOf, wLPut]
      rcases hv with ⟨es, rfl, hel, hes⟩ | ⟨kk, hkk, hkt⟩
      · refine ⟨_, rfl, .bl true, by simp [fIsi, kindD, isTy], true, rfl, ifT rfl ?_⟩
        refine ⟨_, rfl, .int (es.length : Int), by simp [fLen, itemsD], _, eq_int, _, rfl, ?_⟩
        by_cases h2 : es.length = 2
        · refine ifT (decide_eq_true (by omega)) ?_
          refine ⟨_, rfl, _, rfl, ?_⟩
          refine lcD_map _ (fun d => .bl (numB ts.length d)) (Nat.le_of_lt (small1000 hel)) (fun dd hdd R hR => ?_) ?_
          · refine ⟨_, rfl, dd, _, rfl, ?_, rfl, _, rfl, ?_⟩
            · rcases hes dd hdd with rfl | ⟨b, rfl⟩ | ⟨i, rfl⟩ | ⟨s, rfl⟩ | ⟨xs, rfl⟩
              · exact ⟨_, rfl, fun h => absurd h (by decide)⟩
              · exact ⟨_, rfl, fun h => absurd h (by decide)⟩
              · exact ⟨_, rfl, fun _ => ⟨i, rfl⟩⟩
              · exact ⟨_, rfl, fun h => absurd h (by decide)⟩
              · exact ⟨_, rfl, fun h => absurd h (by decide)⟩
            · cases dd with
              | int i =>
                by_cases h0 : 0 ≤ i
                · refine ifT (decide_eq_true h0) ?_
                  refine ⟨_, rfl, _, rfl, .int (ts.length : Int), by rw [hlen], _, rfl, ?_⟩
                  have : numB ts.length (.int i) = decide (i < (ts.length : Int)) := by
                    show (decide (0 ≤ i) && _) = _
                    rw [decide_eq_true h0]; rfl
                  rw [this] at hR
                  exact hR
                · refine ifF (decide_eq_false h0) ?_
                  have : numB ts.length (.int i) = false := by
                    show (decide (0 ≤ i) && _) = _
                    rw [decide_eq_false h0]; rfl
                  rw [this] at hR
                  exact hR
              | _ => exact ifF rfl hR
          · have em : es.map (fun d => D.bl (numB ts.length d)) = (es.map (numB ts.length)).map .bl := by rw [List.map_map]; rfl
            rw [em]
            refine ⟨_, _, _, rfl, rfl, blsD_map _, ?_⟩
            refine hk2 _ _ ⟨_, rfl, rfl, ?_⟩
            cases hn : (es.map (numB ts.length)).all id with
            | true =>
              obtain ⟨x', y', rfl, h⟩ := pair_right h2 hn
              exact .inl ⟨rfl, x', y', rfl, h⟩
            | false => exact .inr ⟨rfl, not_nums hn⟩
        · refine ifF (decide_eq_false (by omega)) ?_
          exact hk2 _ _ ⟨false, rfl, rfl, .inr ⟨rfl, right_len h2⟩⟩
      · have hty : isTy kk "tuple" = false := by
          unfold isTy
          simp [hkt]
        refine ⟨_, rfl, .bl false, by simp [fIsi, hkk, hty], false, rfl, ifF rfl ?_⟩
        exact hk2 _ _ ⟨false, rfl, rfl, .inr ⟨rfl, right_kind hkk hkt⟩⟩
    rintro ρ M18 ⟨r, rfl, rfl, hr⟩
    refine wSeq_step (fun ρ M' => ρ = R24 sc (.adr p) (.tup (ts.map talkD)) (.adr kn) (.adr fo) (.adr a) (.adr du) x7 x8 x9 (some (.adr al)) (some f) (some b) x13 (some (natD j)) (some (.tup [.int x, .int y])) (some v) (some (.bl (rightB ts v))) none none none none none none ∧ M' = M18) (fun k2 hk2 => ?_) ?_
    · simp only [wSeq, wIfS, wTest, wOp, wVar, wC, wRet, wRetN, wAsg, wgName, wgTup, wgCons, wgNil, wDrop, wCall, wCons, wNil, wTup, wLst, wLstM, wCB, wCR, wIf, wAnd, wOr, wNot, wAndV, wOrV, wNotV, wChain, wUn, wFld, wMeth, wDGet, wDGet2, wDIn, wDPut, wBM, wNext, wPar, wAug, wIterT, wIterL, wRange1, wRange2, wRange3, wMake, wFldS, wNewDict, wDict1, wSl, wNoPart, wPart, wRevL, wRevM, wTupRev, wPos, wRaise, wTry, wAt, wIsX, wEnumT, wLc, wLcM, wFor, wWhile, wBreak, wCont, wYes, exOf, wLPut]
      rcases hr with ⟨rfl, x', y', rfl, hx', hy'⟩ | ⟨rfl, hrf⟩
      · refine ⟨_, rfl, true, rfl, ifT rfl ?_⟩
        obtain ⟨fvs, hfo, FD⟩ := LS17.fou
        have i1 : fIx (.tup [natD x', natD y']) (.int 1) M18 = some (natD y') := rfl
        have i0 : fIx (.tup [natD x', natD y']) (.int 0) M18 = some (natD x') := rfl
        refine ⟨_, rfl, _, i1, _, rfl, _, ⟨fo, fvs, _, rfl, hfo, rfl, rfl⟩, _, rfl, ?_⟩
        rw [right_nat] at hk2
        have es := isSome_found FD hy'
        cases hs : sawB ts y' with
        | false =>
          have hnr : rightN ts x' y' = false := by
            unfold rightN
            unfold sawB at hs
            split
            · rename_i c w e; rw [e] at hs; cases hs
            · rfl
          rw [hnr] at hk2
          refine ifF (es.trans hs) ?_
          exact hk2 _ _ ⟨rfl, rfl⟩
        | true =>
          obtain ⟨c, w, e⟩ : ∃ c w, ts[y']? = some (.saw c w) := by
            unfold sawB at hs
            split at hs
            · rename_i c v e; exact ⟨c, v, e⟩
            · cases hs
          have hR : rightN ts x' y' = (knB ts y' c x' && decide (w < valT ts x')) := by
            unfold rightN
            simp only [e]
          rw [hR] at hk2
          refine ifT (es.trans hs) ?_
          refine ⟨_, rfl, _, i0, _, rfl, _, rfl, _, i1, _, ⟨fo, fvs, _, rfl, hfo, rfl, (FD.2 y' c w hy' e).symm⟩, ?_⟩
          refine ⟨_, fIn_nats, _, rfl, ?_⟩
          cases hkn : knB ts y' c x' with
          | false =>
            rw [hkn] at hk2
            exact ifF rfl (hk2 _ _ ⟨rfl, rfl⟩)
          | true =>
            rw [hkn] at hk2
            obtain ⟨ax, ex⟩ := knL_saw (mem_knL.mpr hkn)
            refine ifT rfl ?_
            exact ⟨_, rfl, _, rfl, _, i0, _, ix_tup (atT ex), _, ix_tup rfl, _, rfl, _, rfl, _, i1, _, ix_tup (atT e), _, ix_tup rfl, .bl (decide (w < valT ts x')), rfl, hk2 _ _ ⟨rfl, rfl⟩⟩
      · refine ⟨_, rfl, false, rfl, ifF rfl ?_⟩
        rw [hrf] at hk2
        exact hk2 _ _ ⟨rfl, rfl⟩
    rintro ρ M19 ⟨rfl, rfl⟩
    simp only [wSeq, wIfS, wTest, wOp, wVar, wC, wRet, wRetN, wAsg, wgName, wgTup, wgCons, wgNil, wDrop, wCall, wCons, wNil, wTup, wLst, wLstM, wCB, wCR, wIf, wAnd, wOr, wNot, wAndV, wOrV, wNotV, wChain, wUn, wFld, wMeth, wDGet, wDGet2, wDIn, wDPut, wBM, wNext, wPar, wAug, wIterT, wIterL, wRange1, wRange2, wRange3, wMake, wFldS, wNewDict, wDict1, wSl, wNoPart, wPart, wRevL, wRevM, wTupRev, wPos, wRaise, wTry, wAt, wIsX, wEnumT, wLc, wLcM, wFor, wWhile, wBreak, wCont, wYes, exOf, wLPut]
    refine ⟨_, rfl, _, rfl, ts, v, rfl, by omega, hv, fun M20 kp => ⟨_, rfl, same_of rfl plain_bl ⟨true, rfl, ifF rfl ?_⟩⟩⟩
    exact next _ _ ⟨_, _, _, _, _, _, _, _, rfl, LS17.kept kp⟩
  rintro ρ M15 ⟨x7', x8', x9', x13', x14, x15, x16, x17, rfl, LS15⟩
  have hp15 := LS15.heap
  clear LS15 LS14 FF
  -- token and mark
  refine wSeq_step (fun ρ M' => ∃ t k : Int, 0 ≤ k ∧ k < 9 ∧ ρ = R24 sc (.adr p) (.tup (ts.map talkD)) (.adr kn) (.adr fo) (.adr a) (.adr du) x7' x8' (some (.int t)) (some (.adr al)) (some f) (some b) x13' x14 x15 x16 x17 (some (.int k)) none none none none none ∧ HeapAt M' p q) (fun k hk => ?_) ?_
  · simp only [wSeq, wIfS, wTest, wOp, wVar, wC, wRet, wRetN, wAsg, wgName, wgTup, wgCons, wgNil, wDrop, wCall, wCons, wNil, wTup, wLst, wLstM, wCB, wCR, wIf, wAnd, wOr, wNot, wAndV, wOrV, wNotV, wChain, wUn, wFld, wMeth, wDGet, wDGet2, wDIn, wDPut, wBM, wNext, wPar, wAug, wIterT, wIterL, wRange1, wRange2, wRange3, wMake, wFldS, wNewDict, wDict1, wSl, wNoPart, wPart, wRevL, wRevM, wTupRev, wPos, wRaise, wTry, wAt, wIsX, wEnumT, wLc, wLcM, wFor, wWhile, wBreak, wCont, wYes, exOf, wLPut]
    exact ⟨_, rfl, p, q, 9, rfl, by decide, by decide, hp15, fun t M16 _ _ h1 _ => ⟨_, rfl, p, q, 9, rfl, by decide, by decide, h1, fun k M17 k0 k9 h2 _ => ⟨small (by show 2 ≤ 200; decide), _, rfl, rfl, _, _, rfl, _, _, rfl, rfl, hk _ _ ⟨t, k, k0, k9, rfl, h2⟩⟩⟩⟩
  rintro ρ M16 ⟨t, k, k0, k9, rfl, hp16⟩
  refine wSeq_step (fun ρ M' => ∃ (g : Int) (hs : List Int), ρ = R24 sc (.adr p) (.tup (ts.map talkD)) (.adr kn) (.adr fo) (.adr a) (.adr du) x7' x8' (some (.int t)) (some (.adr al)) (some f) (some b) x13' x14 x15 x16 x17 (some (.int k)) (some (.int g)) (some (.tup (hs.map .int))) none none none) (fun k2 hk2 => ?_) ?_
  · simp only [wSeq, wIfS, wTest, wOp, wVar, wC, wRet, wRetN, wAsg, wgName, wgTup, wgCons, wgNil, wDrop, wCall, wCons, wNil, wTup, wLst, wLstM, wCB, wCR, wIf, wAnd, wOr, wNot, wAndV, wOrV, wNotV, wChain, wUn, wFld, wMeth, wDGet, wDGet2, wDIn, wDPut, wBM, wNext, wPar, wAug, wIterT, wIterL, wRange1, wRange2, wRange3, wMake, wFldS, wNewDict, wDict1, wSl, wNoPart, wPart, wRevL, wRevM, wTupRev, wPos, wRaise, wTry, wAt, wIsX, wEnumT, wLc, wLcM, wFor, wWhile, wBreak, wCont, wYes, exOf, wLPut]
    refine ⟨_, rfl, _, rfl, _, rfl, p, q, _, rfl, by omega, by omega, hp16, fun g M17 _ _ h1 _ => ?_⟩
    refine ⟨_, rfl, p, q, 3, rfl, by decide, by decide, h1, fun n M18 n0 n3 h2 _ => ⟨n, rfl, by omega, by omega, ?_⟩⟩
    refine lcD_inv _ (fun j acc M' => (∃ ns : List Int, acc = ns.map .int ∧ ns.length ≤ j) ∧ HeapAt M' p q) ?_ ?_ ⟨⟨[], rfl, Nat.le_refl _⟩, h2⟩
    · rintro j dd rest acc M19 hdr hd ⟨⟨ns, rfl, hnl⟩, h3⟩ next
      obtain ⟨hj, rfl⟩ := intsFrom_at hd
      refine ⟨_, rfl, _, rfl, _, rfl, p, q, _, rfl, by omega, by omega, h3, fun r M20 _ _ h4 _ => ⟨by rw [List.length_map]; exact small1000 (by omega), next _ _ ⟨⟨ns ++ [r], by rw [List.map_append]; rfl, by rw [List.length_append]; show _ + 1 ≤ _; omega⟩, h4⟩⟩⟩
    · rintro acc M19 ⟨⟨ns, rfl, hnl⟩, h3⟩
      rw [intsFrom_length] at hnl
      refine ⟨_, _, ns, rfl, rfl, intsD_map ns, Nat.lt_of_le_of_lt (show ns.length + 1 ≤ 60 by omega) (by decide), fun c cnt hc hcnt => ⟨c, _, cnt, rfl, updM_same, by omega, fun ns' _ _ _ => ⟨_, rfl, _, _, rfl, hk2 _ _ ⟨g, ns', rfl⟩⟩⟩⟩
  rintro ρ M17 ⟨g, hs, rfl⟩
  have lateP : ∀ (s : Str) (m : Int), plainD 4 (.tup [.str s, .int m]) := fun s m => plain_tup (by show 2 ≤ 1000; decide) fun x hx => by
    rcases List.mem_cons.mp hx with rfl | hx
    · exact plain_str
    · rw [List.mem_singleton.mp hx]; exact plain_int
  refine wSeq_step (fun ρ M' => ρ = R24 sc (.adr p) (.tup (ts.map talkD)) (.adr kn) (.adr fo) (.adr a) (.adr du) x7' x8' (some (.int t)) (some (.adr al)) (some f) (some b) x13' x14 x15 x16 x17 (some (.int k)) (some (.int g)) (some (.tup (hs.map .int))) none none none) (fun k2 hk2 => ?_) ?_
  · simp only [wSeq, wIfS, wTest, wOp, wVar, wC, wRet, wRetN, wAsg, wgName, wgTup, wgCons, wgNil, wDrop, wCall, wCons, wNil, wTup, wLst, wLstM, wCB, wCR, wIf, wAnd, wOr, wNot, wAndV, wOrV, wNotV, wChain, wUn, wFld, wMeth, wDGet, wDGet2, wDIn, wDPut, wBM, wNext, wPar, wAug, wIterT, wIterL, wRange1, wRange2, wRange3, wMake, wFldS, wNewDict, wDict1, wSl, wNoPart, wPart, wRevL, wRevM, wTupRev, wPos, wRaise, wTry, wAt, wIsX, wEnumT, wLc, wLcM, wFor, wWhile, wBreak, wCont, wYes, exOf, wLPut]
    refine ⟨_, rfl, _, rfl, _, rfl, _, rfl, t, k, g, none, hs, false, rfl, _, rfl, _, rfl, .bl (decide (k < t)), rfl, _, rfl, ?_⟩
    by_cases c : k < t
    · refine ifT (decide_eq_true c) ⟨_, rfl, small (by show 2 ≤ 200; decide), same_of (by simp only [momV, if_pos c]) (by simp only [momV, if_pos c]; exact lateP _ _) ⟨true, rfl, ifF rfl (hk2 _ _ rfl)⟩⟩
    · refine ifF (decide_eq_false c) ⟨_, rfl, small (by show 2 ≤ 200; decide), same_of (by simp only [momV, if_neg c]) (by simp only [momV, if_neg c]; exact lateP _ _) ⟨true, rfl, ifF rfl (hk2 _ _ rfl)⟩⟩
  rintro ρ M18 rfl
  refine wSeq_step (fun ρ M' => True) (fun k2 hk2 => ?_) ?_
  · unfold wFor wRange1
    simp only [wSeq, wIfS, wTest, wOp, wVar, wC, wRet, wRetN, wAsg, wgName, wgTup, wgCons, wgNil, wDrop, wCall, wCons, wNil, wTup, wLst, wLstM, wCB, wCR, wIf, wAnd, wOr, wNot, wAndV, wOrV, wNotV, wChain, wUn, wFld, wMeth, wDGet, wDGet2, wDIn, wDPut, wBM, wNext, wPar, wAug, wIterT, wIterL, wRange1, wRange2, wRange3, wMake, wFldS, wNewDict, wDict1, wSl, wNoPart, wPart, wRevL, wRevM, wTupRev, wPos, wRaise, wTry, wAt, wIsX, wEnumT, wLc, wLcM, wFor, wWhile, wBreak, wCont, wYes, exOf, wLPut]
    refine ⟨11, rfl, by omega, by omega, ?_⟩
    refine forD_inv _ (fun j ρ M' => ∃ x17 x21 x22, ρ = R24 sc (.adr p) (.tup (ts.map talkD)) (.adr kn) (.adr fo) (.adr a) (.adr du) x7' x8' (some (.int t)) (some (.adr al)) (some f) (some b) x13' x14 x15 x16 x17 (some (.int k)) (some (.int g)) (some (.tup (hs.map .int))) x21 x22 none) ?_ (fun ρ M' h => hk2 _ _ trivial) ⟨_, _, _, rfl⟩
    rintro j dd rest ρ M19 hdr hd ⟨x17, x21, x22, rfl⟩ next
    obtain ⟨hj, rfl⟩ := intsFrom_at hd
    refine wSeq_step (fun ρ M' => ∃ bare, ρ = R24 sc (.adr p) (.tup (ts.map talkD)) (.adr kn) (.adr fo) (.adr a) (.adr du) x7' x8' (some (.int t)) (some (.adr al)) (some f) (some b) x13' x14 x15 x16 x17 (some (.int k)) (some (.int g)) (some (.tup (hs.map .int))) (some (natD j)) (some (.bl bare)) none) (fun k3 hk3 => ?_) ?_
    · simp only [wSeq, wIfS, wTest, wOp, wVar, wC, wRet, wRetN, wAsg, wgName, wgTup, wgCons, wgNil, wDrop, wCall, wCons, wNil, wTup, wLst, wLstM, wCB, wCR, wIf, wAnd, wOr, wNot, wAndV, wOrV, wNotV, wChain, wUn, wFld, wMeth, wDGet, wDGet2, wDIn, wDPut, wBM, wNext, wPar, wAug, wIterT, wIterL, wRange1, wRange2, wRange3, wMake, wFldS, wNewDict, wDict1, wSl, wNoPart, wPart, wRevL, wRevM, wTupRev, wPos, wRaise, wTry, wAt, wIsX, wEnumT, wLc, wLcM, wFor, wWhile, wBreak, wCont, wYes, exOf, wLPut]
      exact ⟨_, rfl, _, rfl, .int ((j : Int) + t), rfl, .int ((j : Int) + t), rfl, .int (((j : Int) + t) % 3), guardD_pos (by decide), _, eq_int, hk3 _ _ ⟨_, rfl⟩⟩
    rintro ρ M20 ⟨bare, rfl⟩
    refine wSeq_step (fun ρ M' => ρ = R24 sc (.adr p) (.tup (ts.map talkD)) (.adr kn) (.adr fo) (.adr a) (.adr du) x7' x8' (some (.int t)) (some (.adr al)) (some f) (some b) x13' x14 x15 x16 (some (momV t (some (j : Int)) k g hs bare)) (some (.int k)) (some (.int g)) (some (.tup (hs.map .int))) (some (natD j)) (some (.bl bare)) none) (fun k3 hk3 => ?_) ?_
    · simp only [wSeq, wIfS, wTest, wOp, wVar, wC, wRet, wRetN, wAsg, wgName, wgTup, wgCons, wgNil, wDrop, wCall, wCons, wNil, wTup, wLst, wLstM, wCB, wCR, wIf, wAnd, wOr, wNot, wAndV, wOrV, wNotV, wChain, wUn, wFld, wMeth, wDGet, wDGet2, wDIn, wDPut, wBM, wNext, wPar, wAug, wIterT, wIterL, wRange1, wRange2, wRange3, wMake, wFldS, wNewDict, wDict1, wSl, wNoPart, wPart, wRevL, wRevM, wTupRev, wPos, wRaise, wTry, wAt, wIsX, wEnumT, wLc, wLcM, wFor, wWhile, wBreak, wCont, wYes, exOf, wLPut]
      have two : ∀ {d1 d2 : D}, [d1, d2].length ≤ sizeLine := fun {d1 d2} => small (by show 2 ≤ 200; decide)
      refine ⟨_, rfl, _, rfl, .bl (decide (k < (j : Int))), rfl, _, rfl, ?_⟩
      by_cases c : k < (j : Int)
      · refine ifT (decide_eq_true c) ⟨_, rfl, two, hk3 _ _ ?_⟩
        simp only [momV, if_pos c]
        rfl
      · refine ifF (decide_eq_false c) ?_
        refine ⟨_, rfl, _, rfl, .bl (decide ((j : Int) < g)), rfl, _, rfl, ?_⟩
        by_cases c2 : (j : Int) < g
        · refine ifT (decide_eq_true c2) ?_
          refine ⟨_, rfl, bare, rfl, ?_⟩
          cases bare with
          | true =>
            refine ifT rfl ?_
            refine ⟨_, rfl, two, hk3 _ _ ?_⟩
            simp only [momV, if_neg c, c2]
            rfl
          | false =>
            refine ifF rfl ?_
            refine ⟨_, rfl, _, rfl, _, fIn_ints, _, rfl, ?_⟩
            by_cases c3 : (j : Int) ∈ hs
            · refine ifF (by simp [c3]) ⟨_, rfl, two, hk3 _ _ ?_⟩
              simp [momV, c, c2, c3]
              rfl
            · refine ifT (by simp [c3]) ⟨_, rfl, two, hk3 _ _ ?_⟩
              simp [momV, c, c2, c3]
        · refine ifF (decide_eq_false c2) ?_
          refine ⟨_, rfl, two, hk3 _ _ ?_⟩
          simp [momV, c, c2]
          rfl
    rintro ρ M21 rfl
    simp only [wSeq, wIfS, wTest, wOp, wVar, wC, wRet, wRetN, wAsg, wgName, wgTup, wgCons, wgNil, wDrop, wCall, wCons, wNil, wTup, wLst, wLstM, wCB, wCR, wIf, wAnd, wOr, wNot, wAndV, wOrV, wNotV, wChain, wUn, wFld, wMeth, wDGet, wDGet2, wDIn, wDPut, wBM, wNext, wPar, wAug, wIterT, wIterL, wRange1, wRange2, wRange3, wMake, wFldS, wNewDict, wDict1, wSl, wNoPart, wPart, wRevL, wRevM, wTupRev, wPos, wRaise, wTry, wAt, wIsX, wEnumT, wLc, wLcM, wFor, wWhile, wBreak, wCont, wYes, exOf, wLPut]
    refine ⟨_, rfl, _, rfl, _, rfl, _, rfl, _, rfl, _, rfl, t, k, g, some (j : Int), hs, bare, rfl, _, rfl, same_of rfl ?_ ⟨true, rfl, ifF rfl (next _ _ ⟨_, _, _, rfl⟩)⟩⟩
    simp only [momV]
    split
    · exact lateP _ _
    · split
      · exact lateP _ _
      · exact lateP _ _
  rintro ρ M19 _
  simp only [wSeq, wIfS, wTest, wOp, wVar, wC, wRet, wRetN, wAsg, wgName, wgTup, wgCons, wgNil, wDrop, wCall, wCons, wNil, wTup, wLst, wLstM, wCB, wCR, wIf, wAnd, wOr, wNot, wAndV, wOrV, wNotV, wChain, wUn, wFld, wMeth, wDGet, wDGet2, wDIn, wDPut, wBM, wNext, wPar, wAug, wIterT, wIterL, wRange1, wRange2, wRange3, wMake, wFldS, wNewDict, wDict1, wSl, wNoPart, wPart, wRevL, wRevM, wTupRev, wPos, wRaise, wTry, wAt, wIsX, wEnumT, wLc, wLcM, wFor, wWhile, wBreak, wCont, wYes, exOf, wLPut]
  exact post _
end K47

set_option Elab.async false
set_option linter.all false
set_option maxRecDepth 100000
set_option maxHeartbeats 4000000
namespace K47
open PySem PySem.Spec PyProof.Rows L2 Dl
def topS (i : Nat) : Stmt := PySem.Challenge.pw_dealstory_k47_whole_talks_and_who_goes_b.main.body.getD i (.Pass ⟨0, 0, 0, 0⟩)
abbrev s_NotYet___init : Stmt := inClass (topS 2) 0
abbrev s_TooOld___init : Stmt := inClass (topS 3) 0
abbrev s_moment_for : Stmt := topS 5
abbrev nm_moment_for : List Str := ["token", "moment", "mark", "floor", "holds"]
theorem sc_moment_for : FnScope nm_moment_for ["token", "moment", "mark", "floor", "holds"] (defScope s_moment_for) := ⟨rfl, rfl, rfl, by decide +kernel, rfl, by decide +kernel, by decide +kernel⟩
abbrev s_Tokens___init : Stmt := inClass (topS 6) 0
abbrev nm_Tokens___init : List Str := ["self"]
theorem sc_Tokens___init : FnScope nm_Tokens___init ["self"] (defScope s_Tokens___init) := ⟨rfl, rfl, rfl, by decide +kernel, rfl, by decide +kernel, by decide +kernel⟩
abbrev s_Tokens_of : Stmt := inClass (topS 6) 1
abbrev nm_Tokens_of : List Str := ["self", "client"]
theorem sc_Tokens_of : FnScope nm_Tokens_of ["self", "client"] (defScope s_Tokens_of) := ⟨rfl, rfl, rfl, by decide +kernel, rfl, by decide +kernel, by decide +kernel⟩
abbrev s_Tokens_see : Stmt := inClass (topS 6) 2
abbrev nm_Tokens_see : List Str := ["self", "client", "moment"]
theorem sc_Tokens_see : FnScope nm_Tokens_see ["self", "client", "moment"] (defScope s_Tokens_see) := ⟨rfl, rfl, rfl, by decide +kernel, rfl, by decide +kernel, by decide +kernel⟩
abbrev s_Tokens_talk : Stmt := inClass (topS 6) 3
abbrev nm_Tokens_talk : List Str := ["self", "client", "other"]
theorem sc_Tokens_talk : FnScope nm_Tokens_talk ["self", "client", "other"] (defScope s_Tokens_talk) := ⟨rfl, rfl, rfl, by decide +kernel, rfl, by decide +kernel, by decide +kernel⟩
abbrev s_Tokens_all_of : Stmt := inClass (topS 6) 4
abbrev nm_Tokens_all_of : List Str := ["self", "client"]
theorem sc_Tokens_all_of : FnScope nm_Tokens_all_of ["self"] (defScope s_Tokens_all_of) := ⟨rfl, rfl, rfl, by decide +kernel, rfl, by decide +kernel, by decide +kernel⟩
abbrev s_tokens_behind : Stmt := topS 7
abbrev nm_tokens_behind : List Str := ["talks", "tokens", "talk"]
theorem sc_tokens_behind : FnScope nm_tokens_behind ["talks"] (defScope s_tokens_behind) := ⟨rfl, rfl, rfl, by decide +kernel, rfl, by decide +kernel, by decide +kernel⟩
abbrev s_back_in : Stmt := topS 8
abbrev nm_back_in : List Str := ["talks", "tokens", "place", "talk"]
theorem sc_back_in : FnScope nm_back_in ["talks"] (defScope s_back_in) := ⟨rfl, rfl, rfl, by decide +kernel, rfl, by decide +kernel, by decide +kernel⟩
abbrev s_known_by : Stmt := topS 9
abbrev nm_known_by : List Str := ["talks", "place", "names", "known", "at", "talk"]
theorem sc_known_by : FnScope nm_known_by ["talks", "place"] (defScope s_known_by) := ⟨rfl, rfl, rfl, by decide +kernel, rfl, by decide +kernel, by decide +kernel⟩
abbrev s_witness_of : Stmt := topS 10
abbrev nm_witness_of : List Str := ["talks", "later", "best", "at"]
theorem sc_witness_of : FnScope nm_witness_of ["talks"] (defScope s_witness_of) := ⟨rfl, rfl, rfl, by decide +kernel, rfl, by decide +kernel, by decide +kernel⟩
abbrev s_is_witness : Stmt := topS 11
abbrev nm_is_witness : List Str := ["talks", "value", "at", "earlier", "later"]
theorem sc_is_witness : FnScope nm_is_witness ["talks", "value"] (defScope s_is_witness) := ⟨rfl, rfl, rfl, by decide +kernel, rfl, by decide +kernel, by decide +kernel⟩
abbrev s_law_heap : Stmt := topS 13
abbrev nm_law_heap : List Str := ["script", "cell", "cells", "stir"]
theorem sc_law_heap : FnScope nm_law_heap ["script"] (defScope s_law_heap) := ⟨rfl, rfl, rfl, by decide +kernel, rfl, by decide +kernel, by decide +kernel⟩
abbrev s_law_draw : Stmt := topS 14
abbrev nm_law_draw : List Str := ["heap", "many", "rest"]
theorem sc_law_draw : FnScope nm_law_draw ["heap", "many"] (defScope s_law_draw) := ⟨rfl, rfl, rfl, by decide +kernel, rfl, by decide +kernel, by decide +kernel⟩
abbrev s_law_pick : Stmt := topS 15
abbrev nm_law_pick : List Str := ["heap", "some"]
theorem sc_law_pick : FnScope nm_law_pick ["heap", "some"] (defScope s_law_pick) := ⟨rfl, rfl, rfl, by decide +kernel, rfl, by decide +kernel, by decide +kernel⟩
abbrev s_law_same : Stmt := topS 16
abbrev nm_law_same : List Str := ["value", "due", "at"]
theorem sc_law_same : FnScope nm_law_same ["value", "due"] (defScope s_law_same) := ⟨rfl, rfl, rfl, by decide +kernel, rfl, by decide +kernel, by decide +kernel⟩
abbrev s_law_is_number : Stmt := topS 17
abbrev nm_law_is_number : List Str := ["value"]
theorem sc_law_is_number : FnScope nm_law_is_number ["value"] (defScope s_law_is_number) := ⟨rfl, rfl, rfl, by decide +kernel, rfl, by decide +kernel, by decide +kernel⟩
abbrev s_law_bent : Stmt := topS 18
abbrev nm_law_bent : List Str := ["heap", "value", "parts", "kind", "at", "part"]
theorem sc_law_bent : FnScope nm_law_bent ["heap", "value", "parts"] (defScope s_law_bent) := ⟨rfl, rfl, rfl, by decide +kernel, rfl, by decide +kernel, by decide +kernel⟩
abbrev s_law_talks : Stmt := topS 19
abbrev nm_law_talks : List Str := ["heap", "names", "rising", "most", "talks", "turn"]
theorem sc_law_talks : FnScope nm_law_talks ["heap"] (defScope s_law_talks) := ⟨rfl, rfl, rfl, by decide +kernel, rfl, by decide +kernel, by decide +kernel⟩
abbrev s_law_knowing : Stmt := topS 20
abbrev nm_law_knowing : List Str := ["talks", "known", "found", "at", "talk"]
theorem sc_law_knowing : FnScope nm_law_knowing ["talks"] (defScope s_law_knowing) := ⟨rfl, rfl, rfl, by decide +kernel, rfl, by decide +kernel, by decide +kernel⟩
abbrev s_law_moment : Stmt := topS 21
abbrev nm_law_moment : List Str := ["token", "moment", "mark", "floor", "holds", "bare", "e", "late", "old"]
theorem sc_law_moment : FnScope nm_law_moment ["token", "moment", "mark", "floor", "holds", "bare"] (defScope s_law_moment) := ⟨rfl, rfl, rfl, by decide +kernel, rfl, by decide +kernel, by decide +kernel⟩
abbrev s_law : Stmt := topS 22
abbrev nm_law : List Str := ["script", "heap", "talks", "known", "found", "tokens", "due", "name", "at", "token", "all_of", "first", "best", "top", "turn", "pair", "value", "right", "mark", "floor", "holds", "moment", "bare", "one"]
theorem sc_law : FnScope nm_law ["script"] (defScope s_law) := ⟨rfl, rfl, rfl, by decide +kernel, rfl, by decide +kernel, by decide +kernel⟩
structure Txt (P : Program) (K : PySem.W.Frag) (mg : Str → Option Value) (base : Heap) (Z : Ad) : Prop where
  z : ZOk Z
  exm_StoryError : ∀ C b, Z.exm_StoryError C = some b → PySem.W.exmOne K (.ref C) (.ref Z.c_StoryError) = some b
  su : ∀ C, Z.exm_StoryError C = some true → SuC K C
  isx : ∀ C D b, Z.isx C D = some b → PySem.W.kitOne K (.ref C) (.ref D) = some b
  b_abs : mg "abs" = none
  b_all : mg "all" = none
  b_bool : mg "bool" = none
  b_dict : mg "dict" = none
  b_enumerate : mg "enumerate" = none
  b_int : mg "int" = none
  b_isinstance : mg "isinstance" = none
  b_len : mg "len" = none
  b_list : mg "list" = none
  b_max : mg "max" = none
  b_range : mg "range" = none
  b_reversed : mg "reversed" = none
  b_set : mg "set" = none
  b_sorted : mg "sorted" = none
  b_str : mg "str" = none
  b_tuple : mg "tuple" = none
  F_moment_for : FunX K "moment_for" "moment_for" s_moment_for Z.f_moment_for Z.d_moment_for
  B_moment_for : Binds K Z.d_moment_for ["token", "moment", "mark", "floor", "holds"] []
  BD_moment_for : ∃ (v : V) (u : Value), Vals [v] [u] ∧ (∀ F, IsA K F [v] [.tup []]) ∧ Binds K Z.d_moment_for ["token", "moment", "mark", "floor", "holds"] [u]
  g_moment_for : mg "moment_for" = some (.ref Z.f_moment_for)
  F_Tokens___init : FunX K "__init__" "Tokens.__init__" s_Tokens___init Z.f_Tokens___init Z.d_Tokens___init
  B_Tokens___init : Binds K Z.d_Tokens___init ["self"] []
  F_Tokens_of : FunX K "of" "Tokens.of" s_Tokens_of Z.f_Tokens_of Z.d_Tokens_of
  B_Tokens_of : Binds K Z.d_Tokens_of ["self", "client"] []
  F_Tokens_see : FunX K "see" "Tokens.see" s_Tokens_see Z.f_Tokens_see Z.d_Tokens_see
  B_Tokens_see : Binds K Z.d_Tokens_see ["self", "client", "moment"] []
  F_Tokens_talk : FunX K "talk" "Tokens.talk" s_Tokens_talk Z.f_Tokens_talk Z.d_Tokens_talk
  B_Tokens_talk : Binds K Z.d_Tokens_talk ["self", "client", "other"] []
  F_Tokens_all_of : FunX K "all_of" "Tokens.all_of" s_Tokens_all_of Z.f_Tokens_all_of Z.d_Tokens_all_of
  B_Tokens_all_of : Binds K Z.d_Tokens_all_of ["self"] []
  F_tokens_behind : FunX K "tokens_behind" "tokens_behind" s_tokens_behind Z.f_tokens_behind Z.d_tokens_behind
  B_tokens_behind : Binds K Z.d_tokens_behind ["talks"] []
  g_tokens_behind : mg "tokens_behind" = some (.ref Z.f_tokens_behind)
  F_back_in : FunX K "back_in" "back_in" s_back_in Z.f_back_in Z.d_back_in
  B_back_in : Binds K Z.d_back_in ["talks"] []
  g_back_in : mg "back_in" = some (.ref Z.f_back_in)
  F_known_by : FunX K "known_by" "known_by" s_known_by Z.f_known_by Z.d_known_by
  B_known_by : Binds K Z.d_known_by ["talks", "place"] []
  g_known_by : mg "known_by" = some (.ref Z.f_known_by)
  F_witness_of : FunX K "witness_of" "witness_of" s_witness_of Z.f_witness_of Z.d_witness_of
  B_witness_of : Binds K Z.d_witness_of ["talks"] []
  g_witness_of : mg "witness_of" = some (.ref Z.f_witness_of)
  F_is_witness : FunX K "is_witness" "is_witness" s_is_witness Z.f_is_witness Z.d_is_witness
  B_is_witness : Binds K Z.d_is_witness ["talks", "value"] []
  g_is_witness : mg "is_witness" = some (.ref Z.f_is_witness)
  F_law_heap : FunX K "_law_heap" "_law_heap" s_law_heap Z.f_law_heap Z.d_law_heap
  B_law_heap : Binds K Z.d_law_heap ["script"] []
  g_law_heap : mg "_law_heap" = some (.ref Z.f_law_heap)
  F_law_draw : FunX K "_law_draw" "_law_draw" s_law_draw Z.f_law_draw Z.d_law_draw
  B_law_draw : Binds K Z.d_law_draw ["heap", "many"] []
  g_law_draw : mg "_law_draw" = some (.ref Z.f_law_draw)
  F_law_pick : FunX K "_law_pick" "_law_pick" s_law_pick Z.f_law_pick Z.d_law_pick
  B_law_pick : Binds K Z.d_law_pick ["heap", "some"] []
  g_law_pick : mg "_law_pick" = some (.ref Z.f_law_pick)
  F_law_same : FunX K "_law_same" "_law_same" s_law_same Z.f_law_same Z.d_law_same
  B_law_same : Binds K Z.d_law_same ["value", "due"] []
  g_law_same : mg "_law_same" = some (.ref Z.f_law_same)
  F_law_is_number : FunX K "_law_is_number" "_law_is_number" s_law_is_number Z.f_law_is_number Z.d_law_is_number
  B_law_is_number : Binds K Z.d_law_is_number ["value"] []
  g_law_is_number : mg "_law_is_number" = some (.ref Z.f_law_is_number)
  F_law_bent : FunX K "_law_bent" "_law_bent" s_law_bent Z.f_law_bent Z.d_law_bent
  B_law_bent : Binds K Z.d_law_bent ["heap", "value", "parts"] []
  g_law_bent : mg "_law_bent" = some (.ref Z.f_law_bent)
  F_law_talks : FunX K "_law_talks" "_law_talks" s_law_talks Z.f_law_talks Z.d_law_talks
  B_law_talks : Binds K Z.d_law_talks ["heap"] []
  g_law_talks : mg "_law_talks" = some (.ref Z.f_law_talks)
  F_law_knowing : FunX K "_law_knowing" "_law_knowing" s_law_knowing Z.f_law_knowing Z.d_law_knowing
  B_law_knowing : Binds K Z.d_law_knowing ["talks"] []
  g_law_knowing : mg "_law_knowing" = some (.ref Z.f_law_knowing)
  F_law_moment : FunX K "_law_moment" "_law_moment" s_law_moment Z.f_law_moment Z.d_law_moment
  B_law_moment : Binds K Z.d_law_moment ["token", "moment", "mark", "floor", "holds", "bare"] []
  g_law_moment : mg "_law_moment" = some (.ref Z.f_law_moment)
  F_law : FunX K "law" "law" s_law Z.f_law Z.d_law
  B_law : Binds K Z.d_law ["script"] []
  g_law : mg "law" = some (.ref Z.f_law)
  g_StoryError : mg "StoryError" = some (.ref Z.c_StoryError)
  g_NotYet : mg "NotYet" = some (.ref Z.c_NotYet)
  g_TooOld : mg "TooOld" = some (.ref Z.c_TooOld)
  g_Tokens : mg "Tokens" = some (.ref Z.c_Tokens)
  cl_Tokens : Cls K Z.c_Tokens
  na_Tokens_seen : NoAttr K Z.c_Tokens "_seen"
  mk_Tokens : Mk K Z.c_Tokens Z.f_Tokens___init
  m_Tokens_of : Meth K Z.c_Tokens "of" Z.f_Tokens_of
  m_Tokens_see : Meth K Z.c_Tokens "see" Z.f_Tokens_see
  m_Tokens_talk : Meth K Z.c_Tokens "talk" Z.f_Tokens_talk
  m_Tokens_all_of : Meth K Z.c_Tokens "all_of" Z.f_Tokens_all_of
  x_NotYet : RaiseC K Z.c_NotYet Z.f_NotYet___init
  I_NotYet : FnOk P Z.w K mg base (L2N.CX P Z.w) 1 Z.f_NotYet___init Z.d_NotYet___init ["self", "at"] (spXI K Z.c_NotYet)
  BI_NotYet : Binds K Z.d_NotYet___init ["self", "at"] []
  x_TooOld : RaiseC K Z.c_TooOld Z.f_TooOld___init
  I_TooOld : FnOk P Z.w K mg base (L2N.CX P Z.w) 1 Z.f_TooOld___init Z.d_TooOld___init ["self", "at"] (spXI K Z.c_TooOld)
  BI_TooOld : Binds K Z.d_TooOld___init ["self", "at"] []
theorem len_moment_for (Z : Ad) : ∀ (ds : List D) (M : Mem) (Q : D → Mem → Prop) (E : XEx), sp_moment_for Z ds M Q E → ds.length = 5 := by
  intro ds M Q E h
  unfold sp_moment_for at h
  repeat (obtain ⟨_, h⟩ := h)
  subst_vars
  rfl
theorem len_Tokens___init (Z : Ad) : ∀ (ds : List D) (M : Mem) (Q : D → Mem → Prop) (E : XEx), sp_Tokens___init Z ds M Q E → ds.length = 1 := by
  intro ds M Q E h
  unfold sp_Tokens___init at h
  repeat (obtain ⟨_, h⟩ := h)
  subst_vars
  rfl
theorem len_Tokens_of (Z : Ad) : ∀ (ds : List D) (M : Mem) (Q : D → Mem → Prop) (E : XEx), sp_Tokens_of Z ds M Q E → ds.length = 2 := by
  intro ds M Q E h
  unfold sp_Tokens_of at h
  repeat (obtain ⟨_, h⟩ := h)
  subst_vars
  rfl
theorem len_Tokens_see (Z : Ad) : ∀ (ds : List D) (M : Mem) (Q : D → Mem → Prop) (E : XEx), sp_Tokens_see Z ds M Q E → ds.length = 3 := by
  intro ds M Q E h
  unfold sp_Tokens_see at h
  repeat (obtain ⟨_, h⟩ := h)
  subst_vars
  rfl
theorem len_Tokens_talk (Z : Ad) : ∀ (ds : List D) (M : Mem) (Q : D → Mem → Prop) (E : XEx), sp_Tokens_talk Z ds M Q E → ds.length = 3 := by
  intro ds M Q E h
  unfold sp_Tokens_talk at h
  repeat (obtain ⟨_, h⟩ := h)
  subst_vars
  rfl
theorem len_Tokens_all_of (Z : Ad) : ∀ (ds : List D) (M : Mem) (Q : D → Mem → Prop) (E : XEx), sp_Tokens_all_of Z ds M Q E → ds.length = 1 := by
  intro ds M Q E h
  unfold sp_Tokens_all_of at h
  repeat (obtain ⟨_, h⟩ := h)
  subst_vars
  rfl
theorem len_tokens_behind (Z : Ad) : ∀ (ds : List D) (M : Mem) (Q : D → Mem → Prop) (E : XEx), sp_tokens_behind Z ds M Q E → ds.length = 1 := by
  intro ds M Q E h
  unfold sp_tokens_behind at h
  repeat (obtain ⟨_, h⟩ := h)
  subst_vars
  rfl
theorem len_back_in (Z : Ad) : ∀ (ds : List D) (M : Mem) (Q : D → Mem → Prop) (E : XEx), sp_back_in Z ds M Q E → ds.length = 1 := by
  intro ds M Q E h
  unfold sp_back_in at h
  repeat (obtain ⟨_, h⟩ := h)
  subst_vars
  rfl
theorem len_known_by (Z : Ad) : ∀ (ds : List D) (M : Mem) (Q : D → Mem → Prop) (E : XEx), sp_known_by Z ds M Q E → ds.length = 2 := by
  intro ds M Q E h
  unfold sp_known_by at h
  repeat (obtain ⟨_, h⟩ := h)
  subst_vars
  rfl
theorem len_witness_of (Z : Ad) : ∀ (ds : List D) (M : Mem) (Q : D → Mem → Prop) (E : XEx), sp_witness_of Z ds M Q E → ds.length = 1 := by
  intro ds M Q E h
  unfold sp_witness_of at h
  repeat (obtain ⟨_, h⟩ := h)
  subst_vars
  rfl
theorem len_is_witness (Z : Ad) : ∀ (ds : List D) (M : Mem) (Q : D → Mem → Prop) (E : XEx), sp_is_witness Z ds M Q E → ds.length = 2 := by
  intro ds M Q E h
  unfold sp_is_witness at h
  repeat (obtain ⟨_, h⟩ := h)
  subst_vars
  rfl
theorem len_law_heap (Z : Ad) : ∀ (ds : List D) (M : Mem) (Q : D → Mem → Prop) (E : XEx), sp_law_heap Z ds M Q E → ds.length = 1 := by
  intro ds M Q E h
  unfold sp_law_heap at h
  repeat (obtain ⟨_, h⟩ := h)
  subst_vars
  rfl
theorem len_law_draw (Z : Ad) : ∀ (ds : List D) (M : Mem) (Q : D → Mem → Prop) (E : XEx), sp_law_draw Z ds M Q E → ds.length = 2 := by
  intro ds M Q E h
  unfold sp_law_draw at h
  repeat (obtain ⟨_, h⟩ := h)
  subst_vars
  rfl
theorem len_law_pick (Z : Ad) : ∀ (ds : List D) (M : Mem) (Q : D → Mem → Prop) (E : XEx), sp_law_pick Z ds M Q E → ds.length = 2 := by
  intro ds M Q E h
  unfold sp_law_pick at h
  repeat (obtain ⟨_, h⟩ := h)
  subst_vars
  rfl
theorem len_law_is_number (Z : Ad) : ∀ (ds : List D) (M : Mem) (Q : D → Mem → Prop) (E : XEx), sp_law_is_number Z ds M Q E → ds.length = 1 := by
  intro ds M Q E h
  unfold sp_law_is_number at h
  repeat (obtain ⟨_, h⟩ := h)
  subst_vars
  rfl
theorem len_law_talks (Z : Ad) : ∀ (ds : List D) (M : Mem) (Q : D → Mem → Prop) (E : XEx), sp_law_talks Z ds M Q E → ds.length = 1 := by
  intro ds M Q E h
  unfold sp_law_talks at h
  repeat (obtain ⟨_, h⟩ := h)
  subst_vars
  rfl
theorem len_law_knowing (Z : Ad) : ∀ (ds : List D) (M : Mem) (Q : D → Mem → Prop) (E : XEx), sp_law_knowing Z ds M Q E → ds.length = 1 := by
  intro ds M Q E h
  unfold sp_law_knowing at h
  repeat (obtain ⟨_, h⟩ := h)
  subst_vars
  rfl
theorem len_law_moment (Z : Ad) : ∀ (ds : List D) (M : Mem) (Q : D → Mem → Prop) (E : XEx), sp_law_moment Z ds M Q E → ds.length = 6 := by
  intro ds M Q E h
  unfold sp_law_moment at h
  repeat (obtain ⟨_, h⟩ := h)
  subst_vars
  rfl
theorem len_law (Z : Ad) : ∀ (ds : List D) (M : Mem) (Q : D → Mem → Prop) (E : XEx), sp_law Z ds M Q E → ds.length = 1 := by
  intro ds M Q E h
  unfold sp_law at h
  repeat (obtain ⟨_, h⟩ := h)
  subst_vars
  rfl
variable {P : Program} {K : PySem.W.Frag} {mg : Str → Option Value} {base : Heap} {Z : Ad}
theorem ok_moment_for (T : Txt P K mg base Z) : FnD P Z.w K mg base 3 Z.f_moment_for Z.d_moment_for ["token", "moment", "mark", "floor", "holds"] (sp_moment_for Z) := by
  have nd := sc_moment_for.nd
  refine FunD T.F_moment_for sc_moment_for (len_moment_for Z) fun cdv A outer s H E hr => ⟨w_moment_for Z, ?_, rd_moment_for Z T.z⟩
  exact cb_cons (cs_if (ct_cmp (fun _ _ _ => op_isN) lk_isN (ce_var 1) (ce_non) (nomark _)) (cb_cons (cs_if (ct_cmp (fun _ _ _ => op_lt) lk_lt (ce_var 2) (ce_var 0) (nomark _)) (cb_one (cs_raise T.x_NotYet (T.I_NotYet) (fun _ => hr.mono (by decide)) T.BI_NotYet T.g_NotYet (ca_cons (ce_var 0) (ca_nil)))) (cb_nil)) (cb_one (cs_ret (ce_var 2)))) (cb_nil)) (cb_cons (cs_if (ct_cmp (fun _ _ _ => op_gt) lk_gt (ce_var 1) (ce_var 2) (nomark _)) (cb_one (cs_raise T.x_NotYet (T.I_NotYet) (fun _ => hr.mono (by decide)) T.BI_NotYet T.g_NotYet (ca_cons (ce_var 1) (ca_nil)))) (cb_nil)) (cb_cons (cs_if (ct_bool (cw_and (ct_cmp (fun _ _ _ => op_lt) lk_lt (ce_var 1) (ce_var 3) (nomark _)) (cw_and1 (ct_cmp (fun _ _ _ => op_notIn_seq) lk_in (ce_var 1) (ce_var 4) (by rfl))))) (cb_one (cs_raise T.x_TooOld (T.I_TooOld) (fun _ => hr.mono (by decide)) T.BI_TooOld T.g_TooOld (ca_cons (ce_var 3) (ca_nil)))) (cb_nil)) (cb_one (cs_ret (ce_var 1)))))
theorem ok_Tokens___init (T : Txt P K mg base Z) : FnD P Z.w K mg base 1 Z.f_Tokens___init Z.d_Tokens___init ["self"] (sp_Tokens___init Z) := by
  have nd := sc_Tokens___init.nd
  refine FunD T.F_Tokens___init sc_Tokens___init (len_Tokens___init Z) fun cdv A outer s H E hr => ⟨w_Tokens___init Z, ?_, rd_Tokens___init Z T.z⟩
  exact cb_one (cs_fld T.cl_Tokens T.na_Tokens_seen (ce_var 0) (ce_newDict))
theorem ok_Tokens_of (T : Txt P K mg base Z) : FnD P Z.w K mg base 1 Z.f_Tokens_of Z.d_Tokens_of ["self", "client"] (sp_Tokens_of Z) := by
  have nd := sc_Tokens_of.nd
  refine FunD T.F_Tokens_of sc_Tokens_of (len_Tokens_of Z) fun cdv A outer s H E hr => ⟨w_Tokens_of Z, ?_, rd_Tokens_of Z T.z⟩
  exact cb_one (cs_ret (ce_dget2 (fun _ => hu_of hr) (ce_fld T.cl_Tokens T.na_Tokens_seen (ce_var 0)) (ce_var 1) (ce_int)))
theorem ok_Tokens_see (T : Txt P K mg base Z) : FnD P Z.w K mg base 2 Z.f_Tokens_see Z.d_Tokens_see ["self", "client", "moment"] (sp_Tokens_see Z) := by
  have nd := sc_Tokens_see.nd
  refine FunD T.F_Tokens_see sc_Tokens_see (len_Tokens_see Z) fun cdv A outer s H E hr => ⟨w_Tokens_see Z, ?_, rd_Tokens_see Z T.z⟩
  exact cb_one (cs_dput (fun _ => hu_of hr) (ce_fld T.cl_Tokens T.na_Tokens_seen (ce_var 0)) (ce_var 1) (ce_callB (fun _ _ _ => call_max2 rfl) lk_max2 T.b_max (by decide +kernel) (ca_cons (ce_meth (ce_var 0) T.cl_Tokens T.m_Tokens_of (ok_Tokens_of T) (fun _ => hr.mono (by decide)) T.B_Tokens_of (ca_cons (ce_var 1) (ca_nil))) (ca_cons (ce_var 2) (ca_nil)))))
theorem ok_Tokens_talk (T : Txt P K mg base Z) : FnD P Z.w K mg base 3 Z.f_Tokens_talk Z.d_Tokens_talk ["self", "client", "other"] (sp_Tokens_talk Z) := by
  have nd := sc_Tokens_talk.nd
  refine FunD T.F_Tokens_talk sc_Tokens_talk (len_Tokens_talk Z) fun cdv A outer s H E hr => ⟨w_Tokens_talk Z, ?_, rd_Tokens_talk Z T.z⟩
  exact cb_one (cs_expr (ce_meth (ce_var 0) T.cl_Tokens T.m_Tokens_see (ok_Tokens_see T) (fun _ => hr.mono (by decide)) T.B_Tokens_see (ca_cons (ce_var 2) (ca_cons (ce_meth (ce_var 0) T.cl_Tokens T.m_Tokens_of (ok_Tokens_of T) (fun _ => hr.mono (by decide)) T.B_Tokens_of (ca_cons (ce_var 1) (ca_nil))) (ca_nil)))))
theorem ok_Tokens_all_of (T : Txt P K mg base Z) : FnD P Z.w K mg base 1 Z.f_Tokens_all_of Z.d_Tokens_all_of ["self"] (sp_Tokens_all_of Z) := by
  have nd := sc_Tokens_all_of.nd
  refine FunD T.F_Tokens_all_of sc_Tokens_all_of (len_Tokens_all_of Z) fun cdv A outer s H E hr => ⟨w_Tokens_all_of Z, ?_, rd_Tokens_all_of Z T.z⟩
  exact cb_one (cs_ret (ce_pos 0 1 T.cl_Tokens T.na_Tokens_seen nd (fun _ => hu_of hr) (fun _ => blkOk_by (N := nm_Tokens_all_of) (sc := defScope s_Tokens_all_of) (by decide +kernel))))
theorem ok_tokens_behind (T : Txt P K mg base Z) : FnD P Z.w K mg base 4 Z.f_tokens_behind Z.d_tokens_behind ["talks"] (sp_tokens_behind Z) := by
  have nd := sc_tokens_behind.nd
  refine FunD T.F_tokens_behind sc_tokens_behind (len_tokens_behind Z) fun cdv A outer s H E hr => ⟨w_tokens_behind Z, ?_, rd_tokens_behind Z T.z⟩
  exact cb_cons (cs_set 1 nd (ce_make0 T.mk_Tokens (ok_Tokens___init T) (fun _ => hr.mono (by decide)) T.g_Tokens T.B_Tokens___init)) (cb_cons (cs_for (ci_tup (ce_var 0)) (cg_name 2 nd) (cb_one (cs_if (ct_cmp (fun _ _ _ => op_eqA hr.units) lk_eq (ce_ix (fun _ _ _ => ix_seq) lk_ix (ce_var 2) (ce_int) (fun _ _ => rfl)) (ce_str) (nomark _)) (cb_one (cs_expr (ce_meth (ce_var 1) T.cl_Tokens T.m_Tokens_see (ok_Tokens_see T) (fun _ => hr.mono (by decide)) T.B_Tokens_see (ca_cons (ce_ix (fun _ _ _ => ix_seq) lk_ix (ce_var 2) (ce_int) (fun _ _ => rfl)) (ca_cons (ce_ix (fun _ _ _ => ix_seq) lk_ix (ce_var 2) (ce_int) (fun _ _ => rfl)) (ca_nil)))))) (cb_one (cs_expr (ce_meth (ce_var 1) T.cl_Tokens T.m_Tokens_talk (ok_Tokens_talk T) (fun _ => hr.mono (by decide)) T.B_Tokens_talk (ca_cons (ce_ix (fun _ _ _ => ix_seq) lk_ix (ce_var 2) (ce_int) (fun _ _ => rfl)) (ca_cons (ce_ix (fun _ _ _ => ix_seq) lk_ix (ce_var 2) (ce_int) (fun _ _ => rfl)) (ca_nil))))))))) (cb_one (cs_ret (ce_var 1))))
theorem ok_back_in (T : Txt P K mg base Z) : FnD P Z.w K mg base 4 Z.f_back_in Z.d_back_in ["talks"] (sp_back_in Z) := by
  have nd := sc_back_in.nd
  refine FunD T.F_back_in sc_back_in (len_back_in Z) fun cdv A outer s H E hr => ⟨w_back_in Z, ?_, rd_back_in Z T.z⟩
  exact cb_cons (cs_set 1 nd (ce_make0 T.mk_Tokens (ok_Tokens___init T) (fun _ => hr.mono (by decide)) T.g_Tokens T.B_Tokens___init)) (cb_cons (cs_for (ci_enumT T.b_enumerate (ca_cons (ce_var 0) (ca_nil))) (cg_tup (cgs_cons (cg_name 2 nd) (cgs_cons (cg_name 3 nd) (cgs_nil)))) (cb_one (cs_if (ct_cmp (fun _ _ _ => op_eqA hr.units) lk_eq (ce_ix (fun _ _ _ => ix_seq) lk_ix (ce_var 3) (ce_int) (fun _ _ => rfl)) (ce_str) (nomark _)) (cb_one (cs_expr (ce_meth (ce_var 1) T.cl_Tokens T.m_Tokens_talk (ok_Tokens_talk T) (fun _ => hr.mono (by decide)) T.B_Tokens_talk (ca_cons (ce_ix (fun _ _ _ => ix_seq) lk_ix (ce_var 3) (ce_int) (fun _ _ => rfl)) (ca_cons (ce_ix (fun _ _ _ => ix_seq) lk_ix (ce_var 3) (ce_int) (fun _ _ => rfl)) (ca_nil)))))) (cb_one (cs_if (ct_cmp (fun _ _ _ => op_lt) lk_lt (ce_ix (fun _ _ _ => ix_seq) lk_ix (ce_var 3) (ce_int) (fun _ _ => rfl)) (ce_meth (ce_var 1) T.cl_Tokens T.m_Tokens_of (ok_Tokens_of T) (fun _ => hr.mono (by decide)) T.B_Tokens_of (ca_cons (ce_ix (fun _ _ _ => ix_seq) lk_ix (ce_var 3) (ce_int) (fun _ _ => rfl)) (ca_nil))) (nomark _)) (cb_one (cs_ret (ce_var 2))) (cb_one (cs_expr (ce_meth (ce_var 1) T.cl_Tokens T.m_Tokens_see (ok_Tokens_see T) (fun _ => hr.mono (by decide)) T.B_Tokens_see (ca_cons (ce_ix (fun _ _ _ => ix_seq) lk_ix (ce_var 3) (ce_int) (fun _ _ => rfl)) (ca_cons (ce_ix (fun _ _ _ => ix_seq) lk_ix (ce_var 3) (ce_int) (fun _ _ => rfl)) (ca_nil))))))))))) (cb_one (cs_ret (ce_non))))
theorem ok_known_by (T : Txt P K mg base Z) : FnD P Z.w K mg base 1 Z.f_known_by Z.d_known_by ["talks", "place"] (sp_known_by Z) := by
  have nd := sc_known_by.nd
  refine FunD T.F_known_by sc_known_by (len_known_by Z) fun cdv A outer s H E hr => ⟨w_known_by Z, ?_, rd_known_by Z T.z⟩
  exact cb_cons (cs_set 2 nd (ce_dict1 (ce_ix (fun _ _ _ => ix_seq) lk_ix (ce_ix (fun _ _ _ => ix_seq) lk_ix (ce_var 0) (ce_var 1) (fun _ _ => rfl)) (ce_int) (fun _ _ => rfl)) (ce_int))) (cb_cons (cs_set 3 nd (ce_lstM (ca_nil))) (cb_cons (cs_for (ci_range3 T.b_range (ca_cons (ce_op (fun _ _ _ => op_sub) lk_sub (ce_var 1) (ce_int)) (ca_cons (ce_un (fun _ _ _ => un_neg) lk_neg (ce_int)) (ca_cons (ce_un (fun _ _ _ => un_neg) lk_neg (ce_int)) (ca_nil))))) (cg_name 4 nd) (cb_cons (cs_set 5 nd (ce_ix (fun _ _ _ => ix_seq) lk_ix (ce_var 0) (ce_var 4) (fun _ _ => rfl))) (cb_one (cs_if (ct_cmp (fun _ _ _ => op_eqA hr.units) lk_eq (ce_ix (fun _ _ _ => ix_seq) lk_ix (ce_var 5) (ce_int) (fun _ _ => rfl)) (ce_str) (nomark _)) (cb_one (cs_if (ct_din (fun _ => hu_of hr) (ce_ix (fun _ _ _ => ix_seq) lk_ix (ce_var 5) (ce_int) (fun _ _ => rfl)) (ce_var 2)) (cb_one (cs_dput (fun _ => hu_of hr) (ce_var 2) (ce_ix (fun _ _ _ => ix_seq) lk_ix (ce_var 5) (ce_int) (fun _ _ => rfl)) (ce_int))) (cb_nil))) (cb_one (cs_if (ct_din (fun _ => hu_of hr) (ce_ix (fun _ _ _ => ix_seq) lk_ix (ce_var 5) (ce_int) (fun _ _ => rfl)) (ce_var 2)) (cb_one (cs_expr (ce_bm PySem.F.plainAttrs_list PySem.F.slot_list_append PySem.F.type_list_append (fun _ _ _ => mt_append) lk_append (ce_var 3) (ca_cons (ce_var 4) (ca_nil))))) (cb_nil))))))) (cb_one (cs_ret (ce_tupRev T.b_tuple T.b_reversed (ce_var 3))))))
theorem ok_witness_of (T : Txt P K mg base Z) : FnD P Z.w K mg base 5 Z.f_witness_of Z.d_witness_of ["talks"] (sp_witness_of Z) := by
  have nd := sc_witness_of.nd
  refine FunD T.F_witness_of sc_witness_of (len_witness_of Z) fun cdv A outer s H E hr => ⟨w_witness_of Z, ?_, rd_witness_of Z T.z⟩
  exact cb_cons (cs_set 1 nd (ce_call (ok_back_in T) (fun _ => hr.mono (by decide)) T.g_back_in T.F_back_in.kp T.B_back_in (ca_cons (ce_var 0) (ca_nil)))) (cb_cons (cs_if (ct_cmp (fun _ _ _ => op_isN) lk_isN (ce_var 1) (ce_non) (nomark _)) (cb_one (cs_ret (ce_non))) (cb_nil)) (cb_cons (cs_set 2 nd (ce_non)) (cb_cons (cs_for (ci_tup (ce_call (ok_known_by T) (fun _ => hr.mono (by decide)) T.g_known_by T.F_known_by.kp T.B_known_by (ca_cons (ce_var 0) (ca_cons (ce_var 1) (ca_nil))))) (cg_name 3 nd) (cb_one (cs_if (ct_bool (cw_or (ct_cmp (fun _ _ _ => op_isN) lk_isN (ce_var 2) (ce_non) (nomark _)) (cw_or1 (ct_cmp (fun _ _ _ => op_gt) lk_gt (ce_ix (fun _ _ _ => ix_seq) lk_ix (ce_ix (fun _ _ _ => ix_seq) lk_ix (ce_var 0) (ce_var 3) (fun _ _ => rfl)) (ce_int) (fun _ _ => rfl)) (ce_ix (fun _ _ _ => ix_seq) lk_ix (ce_ix (fun _ _ _ => ix_seq) lk_ix (ce_var 0) (ce_var 2) (fun _ _ => rfl)) (ce_int) (fun _ _ => rfl)) (nomark _))))) (cb_one (cs_set 2 nd (ce_var 3))) (cb_nil)))) (cb_one (cs_ret (ce_tup (ca_cons (ce_var 2) (ca_cons (ce_var 1) (ca_nil)))))))))
theorem ok_is_witness (T : Txt P K mg base Z) : FnD P Z.w K mg base 2 Z.f_is_witness Z.d_is_witness ["talks", "value"] (sp_is_witness Z) := by
  have nd := sc_is_witness.nd
  refine FunD T.F_is_witness sc_is_witness (len_is_witness Z) fun cdv A outer s H E hr => ⟨w_is_witness Z, ?_, rd_is_witness Z T.z⟩
  exact cb_cons (cs_if (ct_bool (cw_or (ct_not (ct_val (ce_callB (fun _ _ _ => call_isi) lk_isi T.b_isinstance (by decide +kernel) (ca_cons (ce_var 1) (ca_cons (ce_bltn (fun _ => rfl) T.b_tuple (by decide +kernel)) (ca_nil)))))) (cw_or1 (ct_cmp (fun _ _ _ => op_neA hr.units) lk_ne (ce_callB (fun _ _ _ => call_len) lk_len T.b_len (by decide +kernel) (ca_cons (ce_var 1) (ca_nil))) (ce_int) (nomark _))))) (cb_one (cs_ret (ce_bl))) (cb_nil)) (cb_cons (cs_for (ci_tup (ce_var 1)) (cg_name 2 nd) (cb_cons (cs_if (ct_bool (cw_or (ct_not (ct_val (ce_callB (fun _ _ _ => call_isi) lk_isi T.b_isinstance (by decide +kernel) (ca_cons (ce_var 2) (ca_cons (ce_bltn (fun _ => rfl) T.b_int (by decide +kernel)) (ca_nil)))))) (cw_or (ct_val (ce_callB (fun _ _ _ => call_isi) lk_isi T.b_isinstance (by decide +kernel) (ca_cons (ce_var 2) (ca_cons (ce_bltn (fun _ => rfl) T.b_bool (by decide +kernel)) (ca_nil))))) (cw_or1 (ct_not (ct_chain (fun _ _ _ => op_le) (fun _ _ _ => op_lt) lk_le lk_lt (ce_int) (ce_var 2) (ce_callB (fun _ _ _ => call_len) lk_len T.b_len (by decide +kernel) (ca_cons (ce_var 0) (ca_nil))))))))) (cb_one (cs_ret (ce_bl))) (cb_nil)) (cb_one (cs_if (ct_cmp (fun _ _ _ => op_neA hr.units) lk_ne (ce_ix (fun _ _ _ => ix_seq) lk_ix (ce_ix (fun _ _ _ => ix_seq) lk_ix (ce_var 0) (ce_var 2) (fun _ _ => rfl)) (ce_int) (fun _ _ => rfl)) (ce_str) (nomark _)) (cb_one (cs_ret (ce_bl))) (cb_nil))))) (cb_cons (cs_asg (ce_var 1) (cg_tup (cgs_cons (cg_name 3 nd) (cgs_cons (cg_name 4 nd) (cgs_nil))))) (cb_one (cs_ret (ce_and (ce_cmp (fun _ _ _ => op_in_seq) lk_in (ce_var 3) (ce_call (ok_known_by T) (fun _ => hr.mono (by decide)) T.g_known_by T.F_known_by.kp T.B_known_by (ca_cons (ce_var 0) (ca_cons (ce_var 4) (ca_nil)))) (by rfl)) (ce_one (ce_cmp (fun _ _ _ => op_gt) lk_gt (ce_ix (fun _ _ _ => ix_seq) lk_ix (ce_ix (fun _ _ _ => ix_seq) lk_ix (ce_var 0) (ce_var 3) (fun _ _ => rfl)) (ce_int) (fun _ _ => rfl)) (ce_ix (fun _ _ _ => ix_seq) lk_ix (ce_ix (fun _ _ _ => ix_seq) lk_ix (ce_var 0) (ce_var 4) (fun _ _ => rfl)) (ce_int) (fun _ _ => rfl)) (nomark _))))))))
theorem ok_law_heap (T : Txt P K mg base Z) : FnD P Z.w K mg base 1 Z.f_law_heap Z.d_law_heap ["script"] (sp_law_heap Z) := by
  have nd := sc_law_heap.nd
  refine FunD T.F_law_heap sc_law_heap (len_law_heap Z) fun cdv A outer s H E hr => ⟨w_law_heap Z, ?_, rd_law_heap Z T.z⟩
  exact cb_cons (cs_par 2 3 nd (ca_cons (ce_lc [((PySem.Str.ofString "cell"), 1)] nd (ci_list (ce_slice (fun _ _ _ => sl_list) lk_slL (ce_var 0) (co_none) (co_some (ce_int)))) (fun _ => blkOk_by (N := nm_law_heap) (sc := defScope s_law_heap) (by decide +kernel)) (cg_name 1 nd) (cts_nil) (ce_op (fun _ _ _ => op_addA) lk_add (ce_op (fun _ _ _ => op_mulA) lk_mul (ce_int) (ce_callB (fun _ _ _ => call_abs) lk_abs T.b_abs (by decide +kernel) (ca_cons (ce_var 1) (ca_nil)))) (ce_callTy (fun _ _ _ => call_int1) lk_int1 T.b_int (by decide +kernel) (ca_cons (ce_cmp (fun _ _ _ => op_lt) lk_lt (ce_var 1) (ce_int) (nomark _)) (ca_nil))))) (ca_cons (ce_int) (ca_nil)))) (cb_cons (cs_for (ci_list (ce_var 2)) (cg_name 1 nd) (cb_one (cs_set 3 nd (ce_op (fun _ _ _ => op_mod) lk_mod (ce_callTy (fun _ _ _ => call_int1) lk_int1 T.b_int (by decide +kernel) (ca_cons (ce_op (fun _ _ _ => op_addA) lk_add (ce_op (fun _ _ _ => op_addA) lk_add (ce_op (fun _ _ _ => op_mulA) lk_mul (ce_var 3) (ce_int)) (ce_op (fun _ _ _ => op_mod) lk_mod (ce_callTy (fun _ _ _ => call_int1) lk_int1 T.b_int (by decide +kernel) (ca_cons (ce_var 1) (ca_nil))) (ce_int))) (ce_int)) (ca_nil))) (ce_int))))) (cb_one (cs_ret (ce_lstM (ca_cons (ce_revM (ce_lc [((PySem.Str.ofString "cell"), 1)] nd (ci_list (ce_var 2)) (fun _ => blkOk_by (N := nm_law_heap) (sc := defScope s_law_heap) (by decide +kernel)) (cg_name 1 nd) (cts_one (ct_cmp (fun _ _ _ => op_ge) lk_ge (ce_var 1) (ce_op (fun _ _ _ => op_pow) lk_pow (ce_int) (ce_int)) (nomark _))) (ce_op (fun _ _ _ => op_mod) lk_mod (ce_callTy (fun _ _ _ => call_int1) lk_int1 T.b_int (by decide +kernel) (ca_cons (ce_var 1) (ca_nil))) (ce_op (fun _ _ _ => op_mulA) lk_mul (ce_op (fun _ _ _ => op_mulA) lk_mul (ce_op (fun _ _ _ => op_mulA) lk_mul (ce_op (fun _ _ _ => op_pow) lk_pow (ce_int) (ce_int)) (ce_op (fun _ _ _ => op_pow) lk_pow (ce_int) (ce_int))) (ce_op (fun _ _ _ => op_pow) lk_pow (ce_int) (ce_int))) (ce_op (fun _ _ _ => op_pow) lk_pow (ce_int) (ce_int)))))) (ca_cons (ce_var 3) (ca_cons (ce_int) (ca_nil))))))))
theorem ok_law_draw (T : Txt P K mg base Z) : FnD P Z.w K mg base 1 Z.f_law_draw Z.d_law_draw ["heap", "many"] (sp_law_draw Z) := by
  have nd := sc_law_draw.nd
  refine FunD T.F_law_draw sc_law_draw (len_law_draw Z) fun cdv A outer s H E hr => ⟨w_law_draw Z, ?_, rd_law_draw Z T.z⟩
  exact cb_cons (cs_while (ct_bool (cw_and (ct_cmp (fun _ _ _ => op_neA hr.units) lk_ne (ce_ix (fun _ _ _ => ix_seq) lk_ix (ce_var 0) (ce_int) (fun _ _ => rfl)) (ce_lst (ca_nil)) (nomark _)) (cw_and1 (ct_cmp (fun _ _ _ => op_eqA hr.units) lk_eq (ce_ix (fun _ _ _ => ix_seq) lk_ix (ce_ix (fun _ _ _ => ix_seq) lk_ix (ce_var 0) (ce_int) (fun _ _ => rfl)) (ce_un (fun _ _ _ => un_neg) lk_neg (ce_int)) (fun _ _ => rfl)) (ce_int) (nomark _))))) (cb_one (cs_expr (ce_bm0 PySem.F.plainAttrs_list PySem.F.slot_list_pop PySem.F.type_list_pop (fun _ _ _ => mt_pop) lk_pop (ce_ix (fun _ _ _ => ix_seq) lk_ix (ce_var 0) (ce_int) (fun _ _ => rfl)))))) (cb_cons (cs_if (ct_cmp (fun _ _ _ => op_neA hr.units) lk_ne (ce_ix (fun _ _ _ => ix_seq) lk_ix (ce_var 0) (ce_int) (fun _ _ => rfl)) (ce_lst (ca_nil)) (nomark _)) (cb_cons (cs_set 2 nd (ce_bm0 PySem.F.plainAttrs_list PySem.F.slot_list_pop PySem.F.type_list_pop (fun _ _ _ => mt_pop) lk_pop (ce_ix (fun _ _ _ => ix_seq) lk_ix (ce_var 0) (ce_int) (fun _ _ => rfl)))) (cb_cons (cs_expr (ce_bm PySem.F.plainAttrs_list PySem.F.slot_list_append PySem.F.type_list_append (fun _ _ _ => mt_append) lk_append (ce_ix (fun _ _ _ => ix_seq) lk_ix (ce_var 0) (ce_int) (fun _ _ => rfl)) (ca_cons (ce_op (fun _ _ _ => op_divA) lk_div (ce_var 2) (ce_var 1)) (ca_nil)))) (cb_one (cs_ret (ce_op (fun _ _ _ => op_mod) lk_mod (ce_callTy (fun _ _ _ => call_int1) lk_int1 T.b_int (by decide +kernel) (ca_cons (ce_var 2) (ca_nil))) (ce_var 1)))))) (cb_nil)) (cb_cons (cs_lput (ce_var 0) (ce_int) (ce_op (fun _ _ _ => op_addA) lk_add (ce_ix (fun _ _ _ => ix_seq) lk_ix (ce_var 0) (ce_int) (fun _ _ => rfl)) (ce_int))) (cb_cons (cs_lput (ce_var 0) (ce_int) (ce_op (fun _ _ _ => op_mod) lk_mod (ce_callTy (fun _ _ _ => call_int1) lk_int1 T.b_int (by decide +kernel) (ca_cons (ce_op (fun _ _ _ => op_addA) lk_add (ce_op (fun _ _ _ => op_addA) lk_add (ce_op (fun _ _ _ => op_mulA) lk_mul (ce_ix (fun _ _ _ => ix_seq) lk_ix (ce_var 0) (ce_int) (fun _ _ => rfl)) (ce_int)) (ce_int)) (ce_ix (fun _ _ _ => ix_seq) lk_ix (ce_var 0) (ce_int) (fun _ _ => rfl))) (ca_nil))) (ce_int))) (cb_one (cs_ret (ce_op (fun _ _ _ => op_mod) lk_mod (ce_callTy (fun _ _ _ => call_int1) lk_int1 T.b_int (by decide +kernel) (ca_cons (ce_op (fun _ _ _ => op_divA) lk_div (ce_ix (fun _ _ _ => ix_seq) lk_ix (ce_var 0) (ce_int) (fun _ _ => rfl)) (ce_int)) (ca_nil))) (ce_var 1)))))))
theorem ok_law_pick (T : Txt P K mg base Z) : FnD P Z.w K mg base 2 Z.f_law_pick Z.d_law_pick ["heap", "some"] (sp_law_pick Z) := by
  have nd := sc_law_pick.nd
  refine FunD T.F_law_pick sc_law_pick (len_law_pick Z) fun cdv A outer s H E hr => ⟨w_law_pick Z, ?_, rd_law_pick Z T.z⟩
  exact cb_one (cs_ret (ce_ix (fun _ _ _ => ix_seq) lk_ix (ce_var 1) (ce_call (ok_law_draw T) (fun _ => hr.mono (by decide)) T.g_law_draw T.F_law_draw.kp T.B_law_draw (ca_cons (ce_var 0) (ca_cons (ce_callB (fun _ _ _ => call_len) lk_len T.b_len (by decide +kernel) (ca_cons (ce_var 1) (ca_nil))) (ca_nil)))) (fun _ _ => rfl)))
theorem okr_law_same (T : Txt P K mg base Z) : ∀ j : Nat, FnD P Z.w K mg base (0 + j) Z.f_law_same Z.d_law_same ["value", "due"] (spr_law_same Z j)
  | 0 => FnD.never
  | j + 1 => by
    have nd := sc_law_same.nd
    refine FunD T.F_law_same sc_law_same (lenr_law_same Z (j + 1)) fun cdv A outer s H E hr => ⟨w_law_same Z j, ?_, rd_law_same Z T.z j⟩
    have hr : Room (0 + j) _ := hr
    exact cb_cons (cs_if (ct_val (ce_callB (fun _ _ _ => call_isi) lk_isi T.b_isinstance (by decide +kernel) (ca_cons (ce_var 1) (ca_cons (ce_bltn (fun _ => rfl) T.b_tuple (by decide +kernel)) (ca_nil))))) (cb_one (cs_ret (ce_and (ce_callB (fun _ _ _ => call_isi) lk_isi T.b_isinstance (by decide +kernel) (ca_cons (ce_var 0) (ca_cons (ce_bltn (fun _ => rfl) T.b_tuple (by decide +kernel)) (ca_nil)))) (ce_and (ce_cmp (fun _ _ _ => op_eqA hr.units) lk_eq (ce_callB (fun _ _ _ => call_len) lk_len T.b_len (by decide +kernel) (ca_cons (ce_var 0) (ca_nil))) (ce_callB (fun _ _ _ => call_len) lk_len T.b_len (by decide +kernel) (ca_cons (ce_var 1) (ca_nil))) (nomark _)) (ce_one (ce_crB (fun _ _ _ => cr_all rfl) lk_all T.b_all (by decide +kernel) (ca_cons (ce_lc [((PySem.Str.ofString "at"), 2)] nd (ci_range1 T.b_range (ca_cons (ce_callB (fun _ _ _ => call_len) lk_len T.b_len (by decide +kernel) (ca_cons (ce_var 1) (ca_nil))) (ca_nil))) (fun _ => blkOk_by (N := nm_law_same) (sc := defScope s_law_same) (by decide +kernel)) (cg_name 2 nd) (cts_nil) (ce_call (okr_law_same T j) (fun _ => hr.mono (by omega)) T.g_law_same T.F_law_same.kp T.B_law_same (ca_cons (ce_ix (fun _ _ _ => ix_seq) lk_ix (ce_var 0) (ce_var 2) (fun _ _ => rfl)) (ca_cons (ce_ix (fun _ _ _ => ix_seq) lk_ix (ce_var 1) (ce_var 2) (fun _ _ => rfl)) (ca_nil))))) (ca_nil)))))))) (cb_nil)) (cb_cons (cs_if (ct_bool (cw_or (ct_cmp (fun _ _ _ => op_isN) lk_isN (ce_var 1) (ce_non) (nomark _)) (cw_or1 (ct_val (ce_callB (fun _ _ _ => call_isi) lk_isi T.b_isinstance (by decide +kernel) (ca_cons (ce_var 1) (ca_cons (ce_bltn (fun _ => rfl) T.b_str (by decide +kernel)) (ca_nil)))))))) (cb_one (cs_ret (ce_and (ce_cmp (fun _ _ _ => op_eqA hr.units) lk_eq (ce_cmp (fun _ _ _ => op_isN) lk_isN (ce_var 0) (ce_non) (nomark _)) (ce_cmp (fun _ _ _ => op_isN) lk_isN (ce_var 1) (ce_non) (nomark _)) (nomark _)) (ce_and (ce_cmp (fun _ _ _ => op_eqA hr.units) lk_eq (ce_callB (fun _ _ _ => call_isi) lk_isi T.b_isinstance (by decide +kernel) (ca_cons (ce_var 0) (ca_cons (ce_bltn (fun _ => rfl) T.b_str (by decide +kernel)) (ca_nil)))) (ce_callB (fun _ _ _ => call_isi) lk_isi T.b_isinstance (by decide +kernel) (ca_cons (ce_var 1) (ca_cons (ce_bltn (fun _ => rfl) T.b_str (by decide +kernel)) (ca_nil)))) (nomark _)) (ce_one (ce_cmp (fun _ _ _ => op_eqA hr.units) lk_eq (ce_var 0) (ce_var 1) (nomark _))))))) (cb_nil)) (cb_cons (cs_if (ct_val (ce_callB (fun _ _ _ => call_isi) lk_isi T.b_isinstance (by decide +kernel) (ca_cons (ce_var 1) (ca_cons (ce_bltn (fun _ => rfl) T.b_int (by decide +kernel)) (ca_nil))))) (cb_one (cs_ret (ce_and (ce_callB (fun _ _ _ => call_isi) lk_isi T.b_isinstance (by decide +kernel) (ca_cons (ce_var 0) (ca_cons (ce_bltn (fun _ => rfl) T.b_int (by decide +kernel)) (ca_nil)))) (ce_and (ce_cmp (fun _ _ _ => op_eqA hr.units) lk_eq (ce_callB (fun _ _ _ => call_isi) lk_isi T.b_isinstance (by decide +kernel) (ca_cons (ce_var 0) (ca_cons (ce_bltn (fun _ => rfl) T.b_bool (by decide +kernel)) (ca_nil)))) (ce_callB (fun _ _ _ => call_isi) lk_isi T.b_isinstance (by decide +kernel) (ca_cons (ce_var 1) (ca_cons (ce_bltn (fun _ => rfl) T.b_bool (by decide +kernel)) (ca_nil)))) (nomark _)) (ce_one (ce_cmp (fun _ _ _ => op_eqA hr.units) lk_eq (ce_var 0) (ce_var 1) (nomark _))))))) (cb_nil)) (cb_one (cs_ret (ce_cmp (fun _ _ _ => op_eqA hr.units) lk_eq (ce_var 0) (ce_var 1) (nomark _))))))
theorem ok_law_same (T : Txt P K mg base Z) : FnD P Z.w K mg base 4 Z.f_law_same Z.d_law_same ["value", "due"] (sp_law_same Z) := okr_law_same T 4
theorem ok_law_is_number (T : Txt P K mg base Z) : FnD P Z.w K mg base 1 Z.f_law_is_number Z.d_law_is_number ["value"] (sp_law_is_number Z) := by
  have nd := sc_law_is_number.nd
  refine FunD T.F_law_is_number sc_law_is_number (len_law_is_number Z) fun cdv A outer s H E hr => ⟨w_law_is_number Z, ?_, rd_law_is_number Z T.z⟩
  exact cb_one (cs_ret (ce_and (ce_callB (fun _ _ _ => call_isi) lk_isi T.b_isinstance (by decide +kernel) (ca_cons (ce_var 0) (ca_cons (ce_bltn (fun _ => rfl) T.b_int (by decide +kernel)) (ca_nil)))) (ce_and (ce_not (ce_callB (fun _ _ _ => call_isi) lk_isi T.b_isinstance (by decide +kernel) (ca_cons (ce_var 0) (ca_cons (ce_bltn (fun _ => rfl) T.b_bool (by decide +kernel)) (ca_nil))))) (ce_one (ce_cmp (fun _ _ _ => op_ge) lk_ge (ce_var 0) (ce_int) (nomark _))))))
theorem okr_law_bent (T : Txt P K mg base Z) : ∀ j : Nat, FnD P Z.w K mg base (2 + j) Z.f_law_bent Z.d_law_bent ["heap", "value", "parts"] (spr_law_bent Z j)
  | 0 => FnD.never
  | j + 1 => by
    have nd := sc_law_bent.nd
    refine FunD T.F_law_bent sc_law_bent (lenr_law_bent Z (j + 1)) fun cdv A outer s H E hr => ⟨w_law_bent Z j, ?_, rd_law_bent Z T.z j⟩
    have hr : Room (2 + j) _ := hr
    exact cb_cons (cs_set 3 nd (ce_call (ok_law_draw T) (fun _ => hr.mono (by omega)) T.g_law_draw T.F_law_draw.kp T.B_law_draw (ca_cons (ce_var 0) (ca_cons (ce_int) (ca_nil))))) (cb_cons (cs_if (ct_bool (cw_or (ct_cmp (fun _ _ _ => op_eqA hr.units) lk_eq (ce_var 3) (ce_int) (nomark _)) (cw_or1 (ct_cmp (fun _ _ _ => op_eqA hr.units) lk_eq (ce_callB (fun _ _ _ => call_len) lk_len T.b_len (by decide +kernel) (ca_cons (ce_var 1) (ca_nil))) (ce_int) (nomark _))))) (cb_one (cs_ret (ce_call (ok_law_pick T) (fun _ => hr.mono (by omega)) T.g_law_pick T.F_law_pick.kp T.B_law_pick (ca_cons (ce_var 0) (ca_cons (ce_lst (ca_cons (ce_slice (fun _ _ _ => sl_tupA) lk_slT (ce_var 1) (co_none) (co_some (ce_un (fun _ _ _ => un_neg) lk_neg (ce_int)))) (ca_cons (ce_op (fun _ _ _ => op_addA) lk_add (ce_var 1) (ce_tup (ca_cons (ce_int) (ca_nil)))) (ca_cons (ce_callTy (fun _ _ _ => call_list_of) lk_list T.b_list (by decide +kernel) (ca_cons (ce_var 1) (ca_nil))) (ca_cons (ce_non) (ca_cons (ce_tup (ca_nil)) (ca_cons (ce_slice (fun _ _ _ => sl_tupA) lk_slT (ce_var 1) (co_none) (co_some (ce_int))) (ca_cons (ce_int) (ca_cons (ce_str) (ca_cons (ce_tup (ca_cons (ce_tup (ca_cons (ce_int) (ca_nil))) (ca_nil))) (ca_cons (ce_newDict) (ca_nil)))))))))))) (ca_nil)))))) (cb_nil)) (cb_cons (cs_set 4 nd (ce_call (ok_law_draw T) (fun _ => hr.mono (by omega)) T.g_law_draw T.F_law_draw.kp T.B_law_draw (ca_cons (ce_var 0) (ca_cons (ce_callB (fun _ _ _ => call_len) lk_len T.b_len (by decide +kernel) (ca_cons (ce_var 1) (ca_nil))) (ca_nil))))) (cb_cons (cs_if (ct_bool (cw_and (ct_cmp (fun _ _ _ => op_lt) lk_lt (ce_var 3) (ce_int) (nomark _)) (cw_and (ct_val (ce_callB (fun _ _ _ => call_isi) lk_isi T.b_isinstance (by decide +kernel) (ca_cons (ce_ix (fun _ _ _ => ix_seq) lk_ix (ce_var 1) (ce_var 4) (fun _ _ => rfl)) (ca_cons (ce_bltn (fun _ => rfl) T.b_tuple (by decide +kernel)) (ca_nil))))) (cw_and1 (ct_cmp (fun _ _ _ => op_gt) lk_gt (ce_callB (fun _ _ _ => call_len) lk_len T.b_len (by decide +kernel) (ca_cons (ce_ix (fun _ _ _ => ix_seq) lk_ix (ce_var 1) (ce_var 4) (fun _ _ => rfl)) (ca_nil))) (ce_int) (nomark _)))))) (cb_one (cs_set 5 nd (ce_if (ct_cmp (fun _ _ _ => op_lt) lk_lt (ce_var 3) (ce_int) (nomark _)) (ce_call (okr_law_bent T j) (fun _ => hr.mono (by omega)) T.g_law_bent T.F_law_bent.kp T.B_law_bent (ca_cons (ce_var 0) (ca_cons (ce_ix (fun _ _ _ => ix_seq) lk_ix (ce_var 1) (ce_var 4) (fun _ _ => rfl)) (ca_cons (ce_var 2) (ca_nil))))) (ce_callTy (fun _ _ _ => call_list_of) lk_list T.b_list (by decide +kernel) (ca_cons (ce_ix (fun _ _ _ => ix_seq) lk_ix (ce_var 1) (ce_var 4) (fun _ _ => rfl)) (ca_nil)))))) (cb_one (cs_if (ct_bool (cw_and (ct_cmp (fun _ _ _ => op_lt) lk_lt (ce_var 3) (ce_int) (nomark _)) (cw_and1 (ct_val (ce_callB (fun _ _ _ => call_isi) lk_isi T.b_isinstance (by decide +kernel) (ca_cons (ce_ix (fun _ _ _ => ix_seq) lk_ix (ce_var 1) (ce_var 4) (fun _ _ => rfl)) (ca_cons (ce_bltn (fun _ => rfl) T.b_int (by decide +kernel)) (ca_nil)))))))) (cb_one (cs_set 5 nd (ce_op (fun _ _ _ => op_addA) lk_add (ce_ix (fun _ _ _ => ix_seq) lk_ix (ce_var 1) (ce_var 4) (fun _ _ => rfl)) (ce_call (ok_law_pick T) (fun _ => hr.mono (by omega)) T.g_law_pick T.F_law_pick.kp T.B_law_pick (ca_cons (ce_var 0) (ca_cons (ce_lst (ca_cons (ce_int) (ca_cons (ce_int) (ca_cons (ce_op (fun _ _ _ => op_sub) lk_sub (ce_int) (ce_int)) (ca_cons (ce_int) (ca_nil)))))) (ca_nil))))))) (cb_one (cs_set 5 nd (ce_call (ok_law_pick T) (fun _ => hr.mono (by omega)) T.g_law_pick T.F_law_pick.kp T.B_law_pick (ca_cons (ce_var 0) (ca_cons (ce_op (fun _ _ _ => op_addA) lk_add (ce_callTy (fun _ _ _ => call_list_of) lk_list T.b_list (by decide +kernel) (ca_cons (ce_var 2) (ca_nil))) (ce_lst (ca_cons (ce_non) (ca_cons (ce_bl) (ca_cons (ce_op (fun _ _ _ => op_sub) lk_sub (ce_int) (ce_int)) (ca_cons (ce_int) (ca_cons (ce_int) (ca_cons (ce_str) (ca_cons (ce_tup (ca_nil)) (ca_cons (ce_tup (ca_cons (ce_int) (ca_nil))) (ca_cons (ce_op (fun _ _ _ => op_pow) lk_pow (ce_int) (ce_int)) (ca_nil)))))))))))) (ca_nil))))))))) (cb_one (cs_ret (ce_op (fun _ _ _ => op_addA) lk_add (ce_op (fun _ _ _ => op_addA) lk_add (ce_slice (fun _ _ _ => sl_tupA) lk_slT (ce_var 1) (co_none) (co_some (ce_var 4))) (ce_tup (ca_cons (ce_var 5) (ca_nil)))) (ce_slice (fun _ _ _ => sl_tupA) lk_slT (ce_var 1) (co_some (ce_op (fun _ _ _ => op_addA) lk_add (ce_var 4) (ce_int))) (co_none))))))))
theorem ok_law_bent (T : Txt P K mg base Z) : FnD P Z.w K mg base 4 Z.f_law_bent Z.d_law_bent ["heap", "value", "parts"] (sp_law_bent Z) := okr_law_bent T 2
theorem ok_law_talks (T : Txt P K mg base Z) : FnD P Z.w K mg base 3 Z.f_law_talks Z.d_law_talks ["heap"] (sp_law_talks Z) := by
  have nd := sc_law_talks.nd
  refine FunD T.F_law_talks sc_law_talks (len_law_talks Z) fun cdv A outer s H E hr => ⟨w_law_talks Z, ?_, rd_law_talks Z T.z⟩
  exact cb_cons (cs_asg (ce_tup (ca_cons (ce_slice (fun _ _ _ => sl_list) lk_slL (ce_lst (ca_cons (ce_str) (ca_cons (ce_str) (ca_cons (ce_str) (ca_cons (ce_str) (ca_nil)))))) (co_none) (co_some (ce_op (fun _ _ _ => op_addA) lk_add (ce_int) (ce_call (ok_law_draw T) (fun _ => hr.mono (by decide)) T.g_law_draw T.F_law_draw.kp T.B_law_draw (ca_cons (ce_var 0) (ca_cons (ce_int) (ca_nil))))))) (ca_cons (ce_call (ok_law_draw T) (fun _ => hr.mono (by decide)) T.g_law_draw T.F_law_draw.kp T.B_law_draw (ca_cons (ce_var 0) (ca_cons (ce_int) (ca_nil)))) (ca_cons (ce_int) (ca_cons (ce_lstM (ca_nil)) (ca_nil)))))) (cg_tup (cgs_cons (cg_name 1 nd) (cgs_cons (cg_name 2 nd) (cgs_cons (cg_name 3 nd) (cgs_cons (cg_name 4 nd) (cgs_nil))))))) (cb_cons (cs_for (ci_range1 T.b_range (ca_cons (ce_call (ok_law_draw T) (fun _ => hr.mono (by decide)) T.g_law_draw T.F_law_draw.kp T.B_law_draw (ca_cons (ce_var 0) (ca_cons (ce_int) (ca_nil)))) (ca_nil))) (cg_name 5 nd) (cb_one (cs_if (ct_cmp (fun _ _ _ => op_eqA hr.units) lk_eq (ce_call (ok_law_draw T) (fun _ => hr.mono (by decide)) T.g_law_draw T.F_law_draw.kp T.B_law_draw (ca_cons (ce_var 0) (ca_cons (ce_int) (ca_nil)))) (ce_int) (nomark _)) (cb_one (cs_expr (ce_bm PySem.F.plainAttrs_list PySem.F.slot_list_append PySem.F.type_list_append (fun _ _ _ => mt_append) lk_append (ce_var 4) (ca_cons (ce_tup (ca_cons (ce_str) (ca_cons (ce_call (ok_law_pick T) (fun _ => hr.mono (by decide)) T.g_law_pick T.F_law_pick.kp T.B_law_pick (ca_cons (ce_var 0) (ca_cons (ce_var 1) (ca_nil)))) (ca_cons (ce_call (ok_law_pick T) (fun _ => hr.mono (by decide)) T.g_law_pick T.F_law_pick.kp T.B_law_pick (ca_cons (ce_var 0) (ca_cons (ce_var 1) (ca_nil)))) (ca_nil))))) (ca_nil))))) (cb_cons (cs_set 3 nd (ce_op (fun _ _ _ => op_addA) lk_add (ce_var 3) (ce_call (ok_law_draw T) (fun _ => hr.mono (by decide)) T.g_law_draw T.F_law_draw.kp T.B_law_draw (ca_cons (ce_var 0) (ca_cons (ce_int) (ca_nil)))))) (cb_one (cs_expr (ce_bm PySem.F.plainAttrs_list PySem.F.slot_list_append PySem.F.type_list_append (fun _ _ _ => mt_append) lk_append (ce_var 4) (ca_cons (ce_tup (ca_cons (ce_str) (ca_cons (ce_call (ok_law_pick T) (fun _ => hr.mono (by decide)) T.g_law_pick T.F_law_pick.kp T.B_law_pick (ca_cons (ce_var 0) (ca_cons (ce_var 1) (ca_nil)))) (ca_cons (ce_if (ct_bool (cw_and (ct_cmp (fun _ _ _ => op_gt) lk_gt (ce_var 2) (ce_int) (nomark _)) (cw_and1 (ct_cmp (fun _ _ _ => op_gt) lk_gt (ce_call (ok_law_draw T) (fun _ => hr.mono (by decide)) T.g_law_draw T.F_law_draw.kp T.B_law_draw (ca_cons (ce_var 0) (ca_cons (ce_int) (ca_nil)))) (ce_int) (nomark _))))) (ce_var 3) (ce_call (ok_law_draw T) (fun _ => hr.mono (by decide)) T.g_law_draw T.F_law_draw.kp T.B_law_draw (ca_cons (ce_var 0) (ca_cons (ce_int) (ca_nil))))) (ca_nil))))) (ca_nil))))))))) (cb_one (cs_ret (ce_callTy (fun _ _ _ => call_tuple_of) lk_tuple T.b_tuple (by decide +kernel) (ca_cons (ce_var 4) (ca_nil))))))
theorem ok_law_knowing (T : Txt P K mg base Z) : FnD P Z.w K mg base 1 Z.f_law_knowing Z.d_law_knowing ["talks"] (sp_law_knowing Z) := by
  have nd := sc_law_knowing.nd
  refine FunD T.F_law_knowing sc_law_knowing (len_law_knowing Z) fun cdv A outer s H E hr => ⟨w_law_knowing Z, ?_, rd_law_knowing Z T.z⟩
  exact cb_cons (cs_par 1 2 nd (ca_cons (ce_newDict) (ca_cons (ce_newDict) (ca_nil)))) (cb_cons (cs_for (ci_range1 T.b_range (ca_cons (ce_callB (fun _ _ _ => call_len) lk_len T.b_len (by decide +kernel) (ca_cons (ce_var 0) (ca_nil))) (ca_nil))) (cg_name 3 nd) (cb_cons (cs_set 4 nd (ce_ix (fun _ _ _ => ix_seq) lk_ix (ce_var 0) (ce_var 3) (fun _ _ => rfl))) (cb_one (cs_if (ct_cmp (fun _ _ _ => op_eqA hr.units) lk_eq (ce_ix (fun _ _ _ => ix_seq) lk_ix (ce_var 4) (ce_int) (fun _ _ => rfl)) (ce_str) (nomark _)) (cb_one (cs_dput (fun _ => hu_of hr) (ce_var 1) (ce_ix (fun _ _ _ => ix_seq) lk_ix (ce_var 4) (ce_int) (fun _ _ => rfl)) (ce_crB (fun _ _ _ => cr_sortedSet rfl) lk_sortedSet T.b_sorted (by decide +kernel) (ca_cons (ce_crTy (fun _ _ _ => cr_setL rfl) lk_set T.b_set (by decide +kernel) (ca_cons (ce_op (fun _ _ _ => op_addA) lk_add (ce_dget2 (fun _ => hu_of hr) (ce_var 1) (ce_ix (fun _ _ _ => ix_seq) lk_ix (ce_var 4) (ce_int) (fun _ _ => rfl)) (ce_lst (ca_nil))) (ce_dget2 (fun _ => hu_of hr) (ce_var 1) (ce_ix (fun _ _ _ => ix_seq) lk_ix (ce_var 4) (ce_int) (fun _ _ => rfl)) (ce_lst (ca_nil)))) (ca_nil))) (ca_nil))))) (cb_cons (cs_dput (fun _ => hu_of hr) (ce_var 2) (ce_var 3) (ce_callTy (fun _ _ _ => call_tuple_of) lk_tuple T.b_tuple (by decide +kernel) (ca_cons (ce_dget2 (fun _ => hu_of hr) (ce_var 1) (ce_ix (fun _ _ _ => ix_seq) lk_ix (ce_var 4) (ce_int) (fun _ _ => rfl)) (ce_lst (ca_nil))) (ca_nil)))) (cb_one (cs_dput (fun _ => hu_of hr) (ce_var 1) (ce_ix (fun _ _ _ => ix_seq) lk_ix (ce_var 4) (ce_int) (fun _ _ => rfl)) (ce_crB (fun _ _ _ => cr_sortedSet rfl) lk_sortedSet T.b_sorted (by decide +kernel) (ca_cons (ce_crTy (fun _ _ _ => cr_setL rfl) lk_set T.b_set (by decide +kernel) (ca_cons (ce_op (fun _ _ _ => op_addA) lk_add (ce_dget2 (fun _ => hu_of hr) (ce_var 1) (ce_ix (fun _ _ _ => ix_seq) lk_ix (ce_var 4) (ce_int) (fun _ _ => rfl)) (ce_lst (ca_nil))) (ce_lst (ca_cons (ce_var 3) (ca_nil)))) (ca_nil))) (ca_nil)))))))))) (cb_one (cs_ret (ce_tup (ca_cons (ce_var 1) (ca_cons (ce_var 2) (ca_nil)))))))
theorem ok_law_moment (T : Txt P K mg base Z) : FnD P Z.w K mg base 4 Z.f_law_moment Z.d_law_moment ["token", "moment", "mark", "floor", "holds", "bare"] (sp_law_moment Z) := by
  have nd := sc_law_moment.nd
  obtain ⟨v0, u0, hv0, hd0, hb0⟩ := T.BD_moment_for
  refine FunD T.F_law_moment sc_law_moment (len_law_moment Z) fun cdv A outer s H E hr => ⟨w_law_moment Z, ?_, rd_law_moment Z T.z⟩
  exact cb_one (cs_try 6 nd T.g_StoryError T.exm_StoryError (cb_cons (cs_if (ct_val (ce_var 5)) (cb_one (cs_ret (ce_tup (ca_cons (ce_str) (ca_cons (ce_callDf (ok_moment_for T) (fun _ => hr.mono (by decide)) T.g_moment_for T.F_moment_for.kp hb0 hv0 hd0 (ca_cons (ce_var 0) (ca_cons (ce_var 1) (ca_cons (ce_var 2) (ca_cons (ce_var 3) (ca_nil)))))) (ca_nil)))))) (cb_nil)) (cb_one (cs_ret (ce_tup (ca_cons (ce_str) (ca_cons (ce_call (ok_moment_for T) (fun _ => hr.mono (by decide)) T.g_moment_for T.F_moment_for.kp T.B_moment_for (ca_cons (ce_var 0) (ca_cons (ce_var 1) (ca_cons (ce_var 2) (ca_cons (ce_var 3) (ca_cons (ce_var 4) (ca_nil))))))) (ca_nil))))))) (fun a C d hC => cb_cons (cs_parH 7 8 nd (ca_cons (ce_isX 6 (T.su C hC).ex (T.isx _ _) T.b_isinstance T.g_NotYet) (ca_cons (ce_isX 6 (T.su C hC).ex (T.isx _ _) T.b_isinstance T.g_TooOld) (ca_nil)))) (cb_one (cs_ret (ce_tup (ca_cons (ce_if (ct_bool (cw_and (ct_val (ce_var 7)) (cw_and1 (ct_not (ct_val (ce_var 8)))))) (ce_str) (ce_if (ct_bool (cw_and (ct_val (ce_var 8)) (cw_and1 (ct_not (ct_val (ce_var 7)))))) (ce_str) (ce_str))) (ca_cons (ce_at 6 (T.su C hC).xf (T.su C hC).no) (ca_nil))))))))
theorem ok_law (T : Txt P K mg base Z) : FnD P Z.w K mg base 6 Z.f_law Z.d_law ["script"] (sp_law Z) := by
  have nd := sc_law.nd
  refine FunD T.F_law sc_law (len_law Z) fun cdv A outer s H E hr => ⟨w_law Z, ?_, rd_law Z T.z⟩
  exact cb_cons (cs_set 1 nd (ce_call (ok_law_heap T) (fun _ => hr.mono (by decide)) T.g_law_heap T.F_law_heap.kp T.B_law_heap (ca_cons (ce_var 0) (ca_nil)))) (cb_cons (cs_set 2 nd (ce_call (ok_law_talks T) (fun _ => hr.mono (by decide)) T.g_law_talks T.F_law_talks.kp T.B_law_talks (ca_cons (ce_var 1) (ca_nil)))) (cb_cons (cs_asg (ce_call (ok_law_knowing T) (fun _ => hr.mono (by decide)) T.g_law_knowing T.F_law_knowing.kp T.B_law_knowing (ca_cons (ce_var 2) (ca_nil))) (cg_tup (cgs_cons (cg_name 3 nd) (cgs_cons (cg_name 4 nd) (cgs_nil))))) (cb_cons (cs_set 5 nd (ce_call (ok_tokens_behind T) (fun _ => hr.mono (by decide)) T.g_tokens_behind T.F_tokens_behind.kp T.B_tokens_behind (ca_cons (ce_var 2) (ca_nil)))) (cb_cons (cs_set 6 nd (ce_newDict)) (cb_cons (cs_for (ci_list (ce_lst (ca_cons (ce_str) (ca_cons (ce_str) (ca_cons (ce_str) (ca_cons (ce_str) (ca_cons (ce_str) (ca_nil)))))))) (cg_name 7 nd) (cb_cons (cs_set 9 nd (ce_crB (fun _ _ _ => cr_max rfl) lk_max T.b_max (by decide +kernel) (ca_cons (ce_op (fun _ _ _ => op_addA) lk_add (ce_lst (ca_cons (ce_int) (ca_nil))) (ce_lc [((PySem.Str.ofString "at"), 8)] nd (ci_list (ce_dget2 (fun _ => hu_of hr) (ce_var 3) (ce_var 7) (ce_lst (ca_nil)))) (fun _ => blkOk_by (N := nm_law) (sc := defScope s_law) (by decide +kernel)) (cg_name 8 nd) (cts_nil) (ce_ix (fun _ _ _ => ix_seq) lk_ix (ce_ix (fun _ _ _ => ix_seq) lk_ix (ce_var 2) (ce_var 8) (fun _ _ => rfl)) (ce_int) (fun _ _ => rfl)))) (ca_nil)))) (cb_cons (cs_if (ct_cmp (fun _ _ _ => op_gt) lk_gt (ce_var 9) (ce_int) (nomark _)) (cb_one (cs_dput (fun _ => hu_of hr) (ce_var 6) (ce_var 7) (ce_var 9))) (cb_nil)) (cb_one (cs_if (ct_not (ct_val (ce_call (ok_law_same T) (fun _ => hr.mono (by decide)) T.g_law_same T.F_law_same.kp T.B_law_same (ca_cons (ce_meth (ce_var 5) T.cl_Tokens T.m_Tokens_of (ok_Tokens_of T) (fun _ => hr.mono (by decide)) T.B_Tokens_of (ca_cons (ce_var 7) (ca_nil))) (ca_cons (ce_var 9) (ca_nil)))))) (cb_one (cs_ret (ce_bl))) (cb_nil)))))) (cb_cons (cs_set 10 nd (ce_meth0 (ce_var 5) T.cl_Tokens T.m_Tokens_all_of (ok_Tokens_all_of T) (fun _ => hr.mono (by decide)) T.B_Tokens_all_of)) (cb_cons (cs_if (ct_bool (cw_or (ct_not (ct_val (ce_callB (fun _ _ _ => call_isi) lk_isi T.b_isinstance (by decide +kernel) (ca_cons (ce_var 10) (ca_cons (ce_bltn (fun _ => rfl) T.b_dict (by decide +kernel)) (ca_nil)))))) (cw_or1 (ct_not (ct_val (ce_call (ok_law_same T) (fun _ => hr.mono (by decide)) T.g_law_same T.F_law_same.kp T.B_law_same (ca_cons (ce_callTy (fun _ _ _ => call_tuple_of) lk_tuple T.b_tuple (by decide +kernel) (ca_cons (ce_crB (fun _ _ _ => cr_sortedItemsK rfl hr.units) lk_sortedItems T.b_sorted (by decide +kernel) (ca_cons (ce_bm0 PySem.F.plainAttrs_dict PySem.F.slot_dict_items PySem.F.type_dict_items (fun _ _ _ => mt_itemsK) lk_items (ce_var 10)) (ca_nil))) (ca_nil))) (ca_cons (ce_callTy (fun _ _ _ => call_tuple_of) lk_tuple T.b_tuple (by decide +kernel) (ca_cons (ce_crB (fun _ _ _ => cr_sortedItemsK rfl hr.units) lk_sortedItems T.b_sorted (by decide +kernel) (ca_cons (ce_bm0 PySem.F.plainAttrs_dict PySem.F.slot_dict_items PySem.F.type_dict_items (fun _ _ _ => mt_itemsK) lk_items (ce_var 6)) (ca_nil))) (ca_nil))) (ca_nil))))))))) (cb_one (cs_ret (ce_bl))) (cb_nil)) (cb_cons (cs_dput (fun _ => hu_of hr) (ce_var 10) (ce_str) (ce_int)) (cb_cons (cs_if (ct_bool (cw_or (ct_not (ct_val (ce_call (ok_law_same T) (fun _ => hr.mono (by decide)) T.g_law_same T.F_law_same.kp T.B_law_same (ca_cons (ce_meth (ce_var 5) T.cl_Tokens T.m_Tokens_of (ok_Tokens_of T) (fun _ => hr.mono (by decide)) T.B_Tokens_of (ca_cons (ce_str) (ca_nil))) (ca_cons (ce_dget2 (fun _ => hu_of hr) (ce_var 6) (ce_str) (ce_int)) (ca_nil)))))) (cw_or1 (ct_not (ct_val (ce_call (ok_law_same T) (fun _ => hr.mono (by decide)) T.g_law_same T.F_law_same.kp T.B_law_same (ca_cons (ce_meth (ce_make0 T.mk_Tokens (ok_Tokens___init T) (fun _ => hr.mono (by decide)) T.g_Tokens T.B_Tokens___init) T.cl_Tokens T.m_Tokens_of (ok_Tokens_of T) (fun _ => hr.mono (by decide)) T.B_Tokens_of (ca_cons (ce_str) (ca_nil))) (ca_cons (ce_int) (ca_nil))))))))) (cb_one (cs_ret (ce_bl))) (cb_nil)) (cb_cons (cs_asg (ce_tup (ca_cons (ce_non) (ca_cons (ce_non) (ca_nil)))) (cg_tup (cgs_cons (cg_name 11 nd) (cgs_cons (cg_name 12 nd) (cgs_nil))))) (cb_cons (cs_for (ci_list (ce_crB (fun _ _ _ => cr_sortedI) lk_sorted T.b_sorted (by decide +kernel) (ca_cons (ce_crTy (fun _ _ _ => call_list_dK rfl) lk_listDict T.b_list (by decide +kernel) (ca_cons (ce_var 4) (ca_nil))) (ca_nil)))) (cg_name 8 nd) (cb_cons (cs_if (ct_not (ct_val (ce_call (ok_law_same T) (fun _ => hr.mono (by decide)) T.g_law_same T.F_law_same.kp T.B_law_same (ca_cons (ce_call (ok_known_by T) (fun _ => hr.mono (by decide)) T.g_known_by T.F_known_by.kp T.B_known_by (ca_cons (ce_var 2) (ca_cons (ce_var 8) (ca_nil)))) (ca_cons (ce_dget (fun _ => hu_of hr) (ce_var 4) (ce_var 8) (fun _ _ => rfl)) (ca_nil)))))) (cb_one (cs_ret (ce_bl))) (cb_nil)) (cb_cons (cs_set 13 nd (ce_crB (fun _ _ _ => cr_max rfl) lk_max T.b_max (by decide +kernel) (ca_cons (ce_op (fun _ _ _ => op_addA) lk_add (ce_lst (ca_cons (ce_int) (ca_nil))) (ce_lc [((PySem.Str.ofString "one"), 23)] nd (ci_tup (ce_dget (fun _ => hu_of hr) (ce_var 4) (ce_var 8) (fun _ _ => rfl))) (fun _ => blkOk_by (N := nm_law) (sc := defScope s_law) (by decide +kernel)) (cg_name 23 nd) (cts_nil) (ce_ix (fun _ _ _ => ix_seq) lk_ix (ce_ix (fun _ _ _ => ix_seq) lk_ix (ce_var 2) (ce_var 23) (fun _ _ => rfl)) (ce_int) (fun _ _ => rfl)))) (ca_nil)))) (cb_one (cs_if (ct_bool (cw_and (ct_cmp (fun _ _ _ => op_isN) lk_isN (ce_var 11) (ce_non) (nomark _)) (cw_and1 (ct_cmp (fun _ _ _ => op_gt) lk_gt (ce_var 13) (ce_ix (fun _ _ _ => ix_seq) lk_ix (ce_ix (fun _ _ _ => ix_seq) lk_ix (ce_var 2) (ce_var 8) (fun _ _ => rfl)) (ce_int) (fun _ _ => rfl)) (nomark _))))) (cb_cons (cs_set 11 nd (ce_var 8)) (cb_one (cs_set 12 nd (ce_ix (fun _ _ _ => ix_seq) lk_ix (ce_lc [((PySem.Str.ofString "one"), 23)] nd (ci_tup (ce_dget (fun _ => hu_of hr) (ce_var 4) (ce_var 8) (fun _ _ => rfl))) (fun _ => blkOk_by (N := nm_law) (sc := defScope s_law) (by decide +kernel)) (cg_name 23 nd) (cts_one (ct_cmp (fun _ _ _ => op_eqA hr.units) lk_eq (ce_ix (fun _ _ _ => ix_seq) lk_ix (ce_ix (fun _ _ _ => ix_seq) lk_ix (ce_var 2) (ce_var 23) (fun _ _ => rfl)) (ce_int) (fun _ _ => rfl)) (ce_var 13) (nomark _))) (ce_var 23)) (ce_int) (fun _ _ => rfl))))) (cb_nil)))))) (cb_cons (cs_if (ct_bool (cw_or (ct_not (ct_val (ce_call (ok_law_same T) (fun _ => hr.mono (by decide)) T.g_law_same T.F_law_same.kp T.B_law_same (ca_cons (ce_call (ok_back_in T) (fun _ => hr.mono (by decide)) T.g_back_in T.F_back_in.kp T.B_back_in (ca_cons (ce_var 2) (ca_nil))) (ca_cons (ce_var 11) (ca_nil)))))) (cw_or1 (ct_not (ct_val (ce_call (ok_law_same T) (fun _ => hr.mono (by decide)) T.g_law_same T.F_law_same.kp T.B_law_same (ca_cons (ce_call (ok_witness_of T) (fun _ => hr.mono (by decide)) T.g_witness_of T.F_witness_of.kp T.B_witness_of (ca_cons (ce_var 2) (ca_nil))) (ca_cons (ce_if (ct_cmp (fun _ _ _ => op_notN) lk_notN (ce_var 11) (ce_non) (nomark _)) (ce_tup (ca_cons (ce_var 12) (ca_cons (ce_var 11) (ca_nil)))) (ce_non)) (ca_nil))))))))) (cb_one (cs_ret (ce_bl))) (cb_nil)) (cb_cons (cs_for (ci_range1 T.b_range (ca_cons (ce_int) (ca_nil))) (cg_name 14 nd) (cb_cons (cs_set 15 nd (ce_tup (ca_cons (ce_call (ok_law_draw T) (fun _ => hr.mono (by decide)) T.g_law_draw T.F_law_draw.kp T.B_law_draw (ca_cons (ce_var 1) (ca_cons (ce_op (fun _ _ _ => op_addA) lk_add (ce_callB (fun _ _ _ => call_len) lk_len T.b_len (by decide +kernel) (ca_cons (ce_var 2) (ca_nil))) (ce_int)) (ca_nil)))) (ca_cons (ce_call (ok_law_draw T) (fun _ => hr.mono (by decide)) T.g_law_draw T.F_law_draw.kp T.B_law_draw (ca_cons (ce_var 1) (ca_cons (ce_op (fun _ _ _ => op_addA) lk_add (ce_callB (fun _ _ _ => call_len) lk_len T.b_len (by decide +kernel) (ca_cons (ce_var 2) (ca_nil))) (ce_int)) (ca_nil)))) (ca_nil))))) (cb_cons (cs_set 16 nd (ce_if (ct_bool (cw_and (ct_cmp (fun _ _ _ => op_notN) lk_notN (ce_var 11) (ce_non) (nomark _)) (cw_and1 (ct_cmp (fun _ _ _ => op_eqA hr.units) lk_eq (ce_var 14) (ce_int) (nomark _))))) (ce_tup (ca_cons (ce_var 12) (ca_cons (ce_var 11) (ca_nil)))) (ce_if (ct_cmp (fun _ _ _ => op_lt) lk_lt (ce_var 14) (ce_int) (nomark _)) (ce_var 15) (ce_call (ok_law_bent T) (fun _ => hr.mono (by decide)) T.g_law_bent T.F_law_bent.kp T.B_law_bent (ca_cons (ce_var 1) (ca_cons (ce_var 15) (ca_cons (ce_lst (ca_cons (ce_var 11) (ca_cons (ce_tup (ca_cons (ce_var 12) (ca_cons (ce_var 11) (ca_nil)))) (ca_nil)))) (ca_nil)))))))) (cb_cons (cs_set 17 nd (ce_and (ce_callB (fun _ _ _ => call_isi) lk_isi T.b_isinstance (by decide +kernel) (ca_cons (ce_var 16) (ca_cons (ce_bltn (fun _ => rfl) T.b_tuple (by decide +kernel)) (ca_nil)))) (ce_and (ce_cmp (fun _ _ _ => op_eqA hr.units) lk_eq (ce_callB (fun _ _ _ => call_len) lk_len T.b_len (by decide +kernel) (ca_cons (ce_var 16) (ca_nil))) (ce_int) (nomark _)) (ce_one (ce_crB (fun _ _ _ => cr_all rfl) lk_all T.b_all (by decide +kernel) (ca_cons (ce_lc [((PySem.Str.ofString "at"), 8)] nd (ci_tup (ce_var 16)) (fun _ => blkOk_by (N := nm_law) (sc := defScope s_law) (by decide +kernel)) (cg_name 8 nd) (cts_nil) (ce_and (ce_call (ok_law_is_number T) (fun _ => hr.mono (by decide)) T.g_law_is_number T.F_law_is_number.kp T.B_law_is_number (ca_cons (ce_var 8) (ca_nil))) (ce_one (ce_cmp (fun _ _ _ => op_lt) lk_lt (ce_var 8) (ce_callB (fun _ _ _ => call_len) lk_len T.b_len (by decide +kernel) (ca_cons (ce_var 2) (ca_nil))) (nomark _))))) (ca_nil))))))) (cb_cons (cs_set 17 nd (ce_and (ce_var 17) (ce_and (ce_din (fun _ => hu_of hr) (ce_ix (fun _ _ _ => ix_seq) lk_ix (ce_var 16) (ce_int) (fun _ _ => rfl)) (ce_var 4)) (ce_and (ce_cmp (fun _ _ _ => op_in_seq) lk_in (ce_ix (fun _ _ _ => ix_seq) lk_ix (ce_var 16) (ce_int) (fun _ _ => rfl)) (ce_dget (fun _ => hu_of hr) (ce_var 4) (ce_ix (fun _ _ _ => ix_seq) lk_ix (ce_var 16) (ce_int) (fun _ _ => rfl)) (fun _ _ => rfl)) (by rfl)) (ce_one (ce_cmp (fun _ _ _ => op_gt) lk_gt (ce_ix (fun _ _ _ => ix_seq) lk_ix (ce_ix (fun _ _ _ => ix_seq) lk_ix (ce_var 2) (ce_ix (fun _ _ _ => ix_seq) lk_ix (ce_var 16) (ce_int) (fun _ _ => rfl)) (fun _ _ => rfl)) (ce_int) (fun _ _ => rfl)) (ce_ix (fun _ _ _ => ix_seq) lk_ix (ce_ix (fun _ _ _ => ix_seq) lk_ix (ce_var 2) (ce_ix (fun _ _ _ => ix_seq) lk_ix (ce_var 16) (ce_int) (fun _ _ => rfl)) (fun _ _ => rfl)) (ce_int) (fun _ _ => rfl)) (nomark _))))))) (cb_one (cs_if (ct_not (ct_val (ce_call (ok_law_same T) (fun _ => hr.mono (by decide)) T.g_law_same T.F_law_same.kp T.B_law_same (ca_cons (ce_call (ok_is_witness T) (fun _ => hr.mono (by decide)) T.g_is_witness T.F_is_witness.kp T.B_is_witness (ca_cons (ce_var 2) (ca_cons (ce_var 16) (ca_nil)))) (ca_cons (ce_var 17) (ca_nil)))))) (cb_one (cs_ret (ce_bl))) (cb_nil)))))))) (cb_cons (cs_asg (ce_tup (ca_cons (ce_call (ok_law_draw T) (fun _ => hr.mono (by decide)) T.g_law_draw T.F_law_draw.kp T.B_law_draw (ca_cons (ce_var 1) (ca_cons (ce_int) (ca_nil)))) (ca_cons (ce_call (ok_law_draw T) (fun _ => hr.mono (by decide)) T.g_law_draw T.F_law_draw.kp T.B_law_draw (ca_cons (ce_var 1) (ca_cons (ce_int) (ca_nil)))) (ca_nil)))) (cg_tup (cgs_cons (cg_name 9 nd) (cgs_cons (cg_name 18 nd) (cgs_nil))))) (cb_cons (cs_par 19 20 nd (ca_cons (ce_call (ok_law_draw T) (fun _ => hr.mono (by decide)) T.g_law_draw T.F_law_draw.kp T.B_law_draw (ca_cons (ce_var 1) (ca_cons (ce_op (fun _ _ _ => op_addA) lk_add (ce_var 18) (ce_int)) (ca_nil)))) (ca_cons (ce_callTy (fun _ _ _ => call_tuple_of) lk_tuple T.b_tuple (by decide +kernel) (ca_cons (ce_crB (fun _ _ _ => cr_sortedSet rfl) lk_sortedSet T.b_sorted (by decide +kernel) (ca_cons (ce_crTy (fun _ _ _ => cr_setL rfl) lk_set T.b_set (by decide +kernel) (ca_cons (ce_lc [((PySem.Str.ofString "turn"), 14)] nd (ci_range1 T.b_range (ca_cons (ce_call (ok_law_draw T) (fun _ => hr.mono (by decide)) T.g_law_draw T.F_law_draw.kp T.B_law_draw (ca_cons (ce_var 1) (ca_cons (ce_int) (ca_nil)))) (ca_nil))) (fun _ => blkOk_by (N := nm_law) (sc := defScope s_law) (by decide +kernel)) (cg_name 14 nd) (cts_nil) (ce_call (ok_law_draw T) (fun _ => hr.mono (by decide)) T.g_law_draw T.F_law_draw.kp T.B_law_draw (ca_cons (ce_var 1) (ca_cons (ce_op (fun _ _ _ => op_addA) lk_add (ce_var 18) (ce_int)) (ca_nil))))) (ca_nil))) (ca_nil))) (ca_nil))) (ca_nil)))) (cb_cons (cs_if (ct_not (ct_val (ce_call (ok_law_same T) (fun _ => hr.mono (by decide)) T.g_law_same T.F_law_same.kp T.B_law_same (ca_cons (ce_call (ok_law_moment T) (fun _ => hr.mono (by decide)) T.g_law_moment T.F_law_moment.kp T.B_law_moment (ca_cons (ce_var 9) (ca_cons (ce_non) (ca_cons (ce_var 18) (ca_cons (ce_var 19) (ca_cons (ce_var 20) (ca_cons (ce_bl) (ca_nil)))))))) (ca_cons (ce_if (ct_cmp (fun _ _ _ => op_lt) lk_lt (ce_var 18) (ce_var 9) (nomark _)) (ce_tup (ca_cons (ce_str) (ca_cons (ce_var 9) (ca_nil)))) (ce_tup (ca_cons (ce_str) (ca_cons (ce_var 18) (ca_nil))))) (ca_nil)))))) (cb_one (cs_ret (ce_bl))) (cb_nil)) (cb_cons (cs_for (ci_range1 T.b_range (ca_cons (ce_int) (ca_nil))) (cg_name 21 nd) (cb_cons (cs_set 22 nd (ce_cmp (fun _ _ _ => op_eqA hr.units) lk_eq (ce_op (fun _ _ _ => op_mod) lk_mod (ce_callTy (fun _ _ _ => call_int1) lk_int1 T.b_int (by decide +kernel) (ca_cons (ce_op (fun _ _ _ => op_addA) lk_add (ce_var 21) (ce_var 9)) (ca_nil))) (ce_int)) (ce_int) (nomark _))) (cb_cons (cs_set 17 nd (ce_if (ct_cmp (fun _ _ _ => op_gt) lk_gt (ce_var 21) (ce_var 18) (nomark _)) (ce_tup (ca_cons (ce_str) (ca_cons (ce_var 21) (ca_nil)))) (ce_if (ct_bool (cw_and (ct_cmp (fun _ _ _ => op_lt) lk_lt (ce_var 21) (ce_var 19) (nomark _)) (cw_and1 (ct_bool (cw_or (ct_val (ce_var 22)) (cw_or1 (ct_cmp (fun _ _ _ => op_notIn_seq) lk_in (ce_var 21) (ce_var 20) (by rfl)))))))) (ce_tup (ca_cons (ce_str) (ca_cons (ce_var 19) (ca_nil)))) (ce_tup (ca_cons (ce_str) (ca_cons (ce_var 21) (ca_nil))))))) (cb_one (cs_if (ct_not (ct_val (ce_call (ok_law_same T) (fun _ => hr.mono (by decide)) T.g_law_same T.F_law_same.kp T.B_law_same (ca_cons (ce_call (ok_law_moment T) (fun _ => hr.mono (by decide)) T.g_law_moment T.F_law_moment.kp T.B_law_moment (ca_cons (ce_var 9) (ca_cons (ce_var 21) (ca_cons (ce_var 18) (ca_cons (ce_var 19) (ca_cons (ce_var 20) (ca_cons (ce_var 22) (ca_nil)))))))) (ca_cons (ce_var 17) (ca_nil)))))) (cb_one (cs_ret (ce_bl))) (cb_nil)))))) (cb_one (cs_ret (ce_bl))))))))))))))))))))
end K47

set_option Elab.async false
set_option linter.all false
set_option maxRecDepth 100000
set_option maxHeartbeats 4000000
namespace K47
open PySem PySem.Spec PyProof.Rows L2 Dl
theorem isA_intsL {K : PySem.W.Frag} {F : Hp} : ∀ ns : List Int, IsA K F (ns.map V.int) (ns.map D.int)
  | [] => .nil
  | _ :: r => .cons (.int _) (isA_intsL r)
/-- law's promise as the head enters it -/
def spL (K : PySem.W.Frag) : Sp := fun vs H Q _ => ∃ (a : Addr) (ns : List Int), vs = [.ref a] ∧ SqL K H a (ns.map V.int) ∧ ns.length ≤ 63 ∧ ∀ H', Q (.bl true) H'
theorem fn_sp {P : Program} {w : World} {K : PySem.W.Frag} {mg : Str → Option Value} {base : Heap} {k : Nat} {f : Addr} {fd : FuncData} {Z : Ad} (F : FnD P w K mg base k f fd ["script"] (sp_law Z)) : FnOk P w K mg base (L2N.CX P w) k f fd ["script"] (spL K) := by
  obtain ⟨h1, h2⟩ := F
  refine ⟨fun vs H Q E ⟨a, ns, e, _⟩ => by rw [e]; rfl, fun A outer s H args us vs' Q E hr e0 hb r hsp => h2 A outer s H args us vs' Q E hr e0 hb r ?_⟩
  obtain ⟨a, ns, rfl, hS, hl, q⟩ := hsp
  exact ⟨H, fun _ => none, [.seq (ns.map .int)], fun d _ => d = .bl true, fun _ _ _ => False, ⟨fun _ _ e => e, fun _ _ e => (nomatch e)⟩, .cons (.seq hS (isA_intsL ns)) .nil, ⟨ns, rfl, hl, fun _ => rfl⟩,
    fun v d F' H' M' _ _ ri e => by
      subst e
      cases ri
      exact q H', fun _ _ _ _ _ _ _ _ _ _ _ e => e.elim⟩
theorem all_mk {l : PySem.W.OpenLaw} {w : World} {K : PySem.W.Frag} {h : Heap} {mg : Str → Option Value} (X : K.In h) (G : h.Ns mainGlobals mg)
    {fa c_StoryError c_NotYet c_TooOld c_Tokens : Addr}
    {f_NotYet___init f_TooOld___init f_moment_for f_Tokens___init f_Tokens_of f_Tokens_see f_Tokens_talk f_Tokens_all_of f_tokens_behind f_back_in f_known_by f_witness_of f_is_witness f_law_heap f_law_draw f_law_pick f_law_same f_law_is_number f_law_bent f_law_talks f_law_knowing f_law_moment f_law : Addr}
    {T_mf Te_mf : Addr} {tc_mf : Option Addr} {n_mf : Nat} {ts_mf : Array (Option Value)} {ec_mf : Option Addr} {en_mf : Nat} {es_mf : Array (Option Value)}
    {oc_moment_for kV_moment_for doc_moment_for pm_moment_for cd_moment_for ct_moment_for : Value} {od_moment_for an_moment_for : Option Addr} {sl_moment_for : Array (Option Value)}
    {oc_Tokens___init kV_Tokens___init doc_Tokens___init pm_Tokens___init cd_Tokens___init ct_Tokens___init : Value} {od_Tokens___init an_Tokens___init : Option Addr} {sl_Tokens___init : Array (Option Value)}
    {oc_Tokens_of kV_Tokens_of doc_Tokens_of pm_Tokens_of cd_Tokens_of ct_Tokens_of : Value} {od_Tokens_of an_Tokens_of : Option Addr} {sl_Tokens_of : Array (Option Value)}
    {oc_Tokens_see kV_Tokens_see doc_Tokens_see pm_Tokens_see cd_Tokens_see ct_Tokens_see : Value} {od_Tokens_see an_Tokens_see : Option Addr} {sl_Tokens_see : Array (Option Value)}
    {oc_Tokens_talk kV_Tokens_talk doc_Tokens_talk pm_Tokens_talk cd_Tokens_talk ct_Tokens_talk : Value} {od_Tokens_talk an_Tokens_talk : Option Addr} {sl_Tokens_talk : Array (Option Value)}
    {oc_Tokens_all_of kV_Tokens_all_of doc_Tokens_all_of pm_Tokens_all_of cd_Tokens_all_of ct_Tokens_all_of : Value} {od_Tokens_all_of an_Tokens_all_of : Option Addr} {sl_Tokens_all_of : Array (Option Value)}
    {oc_tokens_behind kV_tokens_behind doc_tokens_behind pm_tokens_behind cd_tokens_behind ct_tokens_behind : Value} {od_tokens_behind an_tokens_behind : Option Addr} {sl_tokens_behind : Array (Option Value)}
    {oc_back_in kV_back_in doc_back_in pm_back_in cd_back_in ct_back_in : Value} {od_back_in an_back_in : Option Addr} {sl_back_in : Array (Option Value)}
    {oc_known_by kV_known_by doc_known_by pm_known_by cd_known_by ct_known_by : Value} {od_known_by an_known_by : Option Addr} {sl_known_by : Array (Option Value)}
    {oc_witness_of kV_witness_of doc_witness_of pm_witness_of cd_witness_of ct_witness_of : Value} {od_witness_of an_witness_of : Option Addr} {sl_witness_of : Array (Option Value)}
    {oc_is_witness kV_is_witness doc_is_witness pm_is_witness cd_is_witness ct_is_witness : Value} {od_is_witness an_is_witness : Option Addr} {sl_is_witness : Array (Option Value)}
    {oc_law_heap kV_law_heap doc_law_heap pm_law_heap cd_law_heap ct_law_heap : Value} {od_law_heap an_law_heap : Option Addr} {sl_law_heap : Array (Option Value)}
    {oc_law_draw kV_law_draw doc_law_draw pm_law_draw cd_law_draw ct_law_draw : Value} {od_law_draw an_law_draw : Option Addr} {sl_law_draw : Array (Option Value)}
    {oc_law_pick kV_law_pick doc_law_pick pm_law_pick cd_law_pick ct_law_pick : Value} {od_law_pick an_law_pick : Option Addr} {sl_law_pick : Array (Option Value)}
    {oc_law_same kV_law_same doc_law_same pm_law_same cd_law_same ct_law_same : Value} {od_law_same an_law_same : Option Addr} {sl_law_same : Array (Option Value)}
    {oc_law_is_number kV_law_is_number doc_law_is_number pm_law_is_number cd_law_is_number ct_law_is_number : Value} {od_law_is_number an_law_is_number : Option Addr} {sl_law_is_number : Array (Option Value)}
    {oc_law_bent kV_law_bent doc_law_bent pm_law_bent cd_law_bent ct_law_bent : Value} {od_law_bent an_law_bent : Option Addr} {sl_law_bent : Array (Option Value)}
    {oc_law_talks kV_law_talks doc_law_talks pm_law_talks cd_law_talks ct_law_talks : Value} {od_law_talks an_law_talks : Option Addr} {sl_law_talks : Array (Option Value)}
    {oc_law_knowing kV_law_knowing doc_law_knowing pm_law_knowing cd_law_knowing ct_law_knowing : Value} {od_law_knowing an_law_knowing : Option Addr} {sl_law_knowing : Array (Option Value)}
    {oc_law_moment kV_law_moment doc_law_moment pm_law_moment cd_law_moment ct_law_moment : Value} {od_law_moment an_law_moment : Option Addr} {sl_law_moment : Array (Option Value)}
    {oc_law kV_law doc_law pm_law cd_law ct_law : Value} {od_law an_law : Option Addr} {sl_law : Array (Option Value)}
    {nm_NotYet qn_NotYet fl_NotYet : Str} {N_NotYet cc_NotYet cda_NotYet : Addr} {bs_NotYet bm_NotYet : List Value} {sn_NotYet : List Str} {sub_NotYet : List Value} {ab_NotYet : Bool} {col_NotYet : Option Bool} {dd_NotYet : Option Addr} {m0_NotYet m1_NotYet m2_NotYet m3_NotYet m5_NotYet : Option Value}
    {oc_NotYet kV_NotYet doc_NotYet pm_NotYet ct_NotYet ccl_NotYet cl_NotYet : Value} {od_NotYet an_NotYet cdd_NotYet cld_NotYet : Option Addr} {sl_NotYet ccs_NotYet csl_NotYet : Array (Option Value)} {vs_NotYet : Array Value} {tf_NotYet : Tok}
    {nm_TooOld qn_TooOld fl_TooOld : Str} {N_TooOld cc_TooOld cda_TooOld : Addr} {bs_TooOld bm_TooOld : List Value} {sn_TooOld : List Str} {sub_TooOld : List Value} {ab_TooOld : Bool} {col_TooOld : Option Bool} {dd_TooOld : Option Addr} {m0_TooOld m1_TooOld m2_TooOld m3_TooOld m5_TooOld : Option Value}
    {oc_TooOld kV_TooOld doc_TooOld pm_TooOld ct_TooOld ccl_TooOld cl_TooOld : Value} {od_TooOld an_TooOld cdd_TooOld cld_TooOld : Option Addr} {sl_TooOld ccs_TooOld csl_TooOld : Array (Option Value)} {vs_TooOld : Array Value} {tf_TooOld : Tok}
    (hfa : mg "law" = some (.ref fa))
    (aC_StoryError : PySem.W.nsIn K mainGlobals "StoryError" = some (some (.ref c_StoryError)))
    (aC_NotYet : PySem.W.nsIn K mainGlobals "NotYet" = some (some (.ref c_NotYet)))
    (aC_TooOld : PySem.W.nsIn K mainGlobals "TooOld" = some (some (.ref c_TooOld)))
    (aC_Tokens : PySem.W.nsIn K mainGlobals "Tokens" = some (some (.ref c_Tokens)))
    (a_moment_for : PySem.W.nsIn K mainGlobals "moment_for" = some (some (.ref f_moment_for)))
    (l_moment_for : K.lookup f_moment_for = some ⟨oc_moment_for, od_moment_for, .func (PySem.W.fnOf "moment_for" "moment_for" (defArgs s_moment_for) (defBody s_moment_for) (defScope s_moment_for) (.ref T_mf) kV_moment_for doc_moment_for pm_moment_for an_moment_for cd_moment_for ct_moment_for), sl_moment_for⟩)
    (cd_moment_for_ : PySem.W.codeIn K cd_moment_for "moment_for" = true)
    (k_moment_for : PySem.W.keepIn K (.ref f_moment_for) = true)
    (a_Tokens___init : PySem.W.findIn K (.ref c_Tokens) "__init__" = some (some (.ref f_Tokens___init)))
    (i_Tokens___init : PySem.W.isFn K (.ref f_Tokens___init) = true)
    (l_Tokens___init : K.lookup f_Tokens___init = some ⟨oc_Tokens___init, od_Tokens___init, .func (PySem.W.fnOf "__init__" "Tokens.__init__" (defArgs s_Tokens___init) (defBody s_Tokens___init) (defScope s_Tokens___init) .none kV_Tokens___init doc_Tokens___init pm_Tokens___init an_Tokens___init cd_Tokens___init ct_Tokens___init), sl_Tokens___init⟩)
    (cd_Tokens___init_ : PySem.W.codeIn K cd_Tokens___init "Tokens.__init__" = true)
    (k_Tokens___init : PySem.W.keepIn K (.ref f_Tokens___init) = true)
    (a_Tokens_of : PySem.W.findIn K (.ref c_Tokens) "of" = some (some (.ref f_Tokens_of)))
    (i_Tokens_of : PySem.W.isFn K (.ref f_Tokens_of) = true)
    (l_Tokens_of : K.lookup f_Tokens_of = some ⟨oc_Tokens_of, od_Tokens_of, .func (PySem.W.fnOf "of" "Tokens.of" (defArgs s_Tokens_of) (defBody s_Tokens_of) (defScope s_Tokens_of) .none kV_Tokens_of doc_Tokens_of pm_Tokens_of an_Tokens_of cd_Tokens_of ct_Tokens_of), sl_Tokens_of⟩)
    (cd_Tokens_of_ : PySem.W.codeIn K cd_Tokens_of "Tokens.of" = true)
    (k_Tokens_of : PySem.W.keepIn K (.ref f_Tokens_of) = true)
    (a_Tokens_see : PySem.W.findIn K (.ref c_Tokens) "see" = some (some (.ref f_Tokens_see)))
    (i_Tokens_see : PySem.W.isFn K (.ref f_Tokens_see) = true)
    (l_Tokens_see : K.lookup f_Tokens_see = some ⟨oc_Tokens_see, od_Tokens_see, .func (PySem.W.fnOf "see" "Tokens.see" (defArgs s_Tokens_see) (defBody s_Tokens_see) (defScope s_Tokens_see) .none kV_Tokens_see doc_Tokens_see pm_Tokens_see an_Tokens_see cd_Tokens_see ct_Tokens_see), sl_Tokens_see⟩)
    (cd_Tokens_see_ : PySem.W.codeIn K cd_Tokens_see "Tokens.see" = true)
    (k_Tokens_see : PySem.W.keepIn K (.ref f_Tokens_see) = true)
    (a_Tokens_talk : PySem.W.findIn K (.ref c_Tokens) "talk" = some (some (.ref f_Tokens_talk)))
    (i_Tokens_talk : PySem.W.isFn K (.ref f_Tokens_talk) = true)
    (l_Tokens_talk : K.lookup f_Tokens_talk = some ⟨oc_Tokens_talk, od_Tokens_talk, .func (PySem.W.fnOf "talk" "Tokens.talk" (defArgs s_Tokens_talk) (defBody s_Tokens_talk) (defScope s_Tokens_talk) .none kV_Tokens_talk doc_Tokens_talk pm_Tokens_talk an_Tokens_talk cd_Tokens_talk ct_Tokens_talk), sl_Tokens_talk⟩)
    (cd_Tokens_talk_ : PySem.W.codeIn K cd_Tokens_talk "Tokens.talk" = true)
    (k_Tokens_talk : PySem.W.keepIn K (.ref f_Tokens_talk) = true)
    (a_Tokens_all_of : PySem.W.findIn K (.ref c_Tokens) "all_of" = some (some (.ref f_Tokens_all_of)))
    (i_Tokens_all_of : PySem.W.isFn K (.ref f_Tokens_all_of) = true)
    (l_Tokens_all_of : K.lookup f_Tokens_all_of = some ⟨oc_Tokens_all_of, od_Tokens_all_of, .func (PySem.W.fnOf "all_of" "Tokens.all_of" (defArgs s_Tokens_all_of) (defBody s_Tokens_all_of) (defScope s_Tokens_all_of) .none kV_Tokens_all_of doc_Tokens_all_of pm_Tokens_all_of an_Tokens_all_of cd_Tokens_all_of ct_Tokens_all_of), sl_Tokens_all_of⟩)
    (cd_Tokens_all_of_ : PySem.W.codeIn K cd_Tokens_all_of "Tokens.all_of" = true)
    (k_Tokens_all_of : PySem.W.keepIn K (.ref f_Tokens_all_of) = true)
    (a_tokens_behind : PySem.W.nsIn K mainGlobals "tokens_behind" = some (some (.ref f_tokens_behind)))
    (l_tokens_behind : K.lookup f_tokens_behind = some ⟨oc_tokens_behind, od_tokens_behind, .func (PySem.W.fnOf "tokens_behind" "tokens_behind" (defArgs s_tokens_behind) (defBody s_tokens_behind) (defScope s_tokens_behind) .none kV_tokens_behind doc_tokens_behind pm_tokens_behind an_tokens_behind cd_tokens_behind ct_tokens_behind), sl_tokens_behind⟩)
    (cd_tokens_behind_ : PySem.W.codeIn K cd_tokens_behind "tokens_behind" = true)
    (k_tokens_behind : PySem.W.keepIn K (.ref f_tokens_behind) = true)
    (a_back_in : PySem.W.nsIn K mainGlobals "back_in" = some (some (.ref f_back_in)))
    (l_back_in : K.lookup f_back_in = some ⟨oc_back_in, od_back_in, .func (PySem.W.fnOf "back_in" "back_in" (defArgs s_back_in) (defBody s_back_in) (defScope s_back_in) .none kV_back_in doc_back_in pm_back_in an_back_in cd_back_in ct_back_in), sl_back_in⟩)
    (cd_back_in_ : PySem.W.codeIn K cd_back_in "back_in" = true)
    (k_back_in : PySem.W.keepIn K (.ref f_back_in) = true)
    (a_known_by : PySem.W.nsIn K mainGlobals "known_by" = some (some (.ref f_known_by)))
    (l_known_by : K.lookup f_known_by = some ⟨oc_known_by, od_known_by, .func (PySem.W.fnOf "known_by" "known_by" (defArgs s_known_by) (defBody s_known_by) (defScope s_known_by) .none kV_known_by doc_known_by pm_known_by an_known_by cd_known_by ct_known_by), sl_known_by⟩)
    (cd_known_by_ : PySem.W.codeIn K cd_known_by "known_by" = true)
    (k_known_by : PySem.W.keepIn K (.ref f_known_by) = true)
    (a_witness_of : PySem.W.nsIn K mainGlobals "witness_of" = some (some (.ref f_witness_of)))
    (l_witness_of : K.lookup f_witness_of = some ⟨oc_witness_of, od_witness_of, .func (PySem.W.fnOf "witness_of" "witness_of" (defArgs s_witness_of) (defBody s_witness_of) (defScope s_witness_of) .none kV_witness_of doc_witness_of pm_witness_of an_witness_of cd_witness_of ct_witness_of), sl_witness_of⟩)
    (cd_witness_of_ : PySem.W.codeIn K cd_witness_of "witness_of" = true)
    (k_witness_of : PySem.W.keepIn K (.ref f_witness_of) = true)
    (a_is_witness : PySem.W.nsIn K mainGlobals "is_witness" = some (some (.ref f_is_witness)))
    (l_is_witness : K.lookup f_is_witness = some ⟨oc_is_witness, od_is_witness, .func (PySem.W.fnOf "is_witness" "is_witness" (defArgs s_is_witness) (defBody s_is_witness) (defScope s_is_witness) .none kV_is_witness doc_is_witness pm_is_witness an_is_witness cd_is_witness ct_is_witness), sl_is_witness⟩)
    (cd_is_witness_ : PySem.W.codeIn K cd_is_witness "is_witness" = true)
    (k_is_witness : PySem.W.keepIn K (.ref f_is_witness) = true)
    (a_law_heap : PySem.W.nsIn K mainGlobals "_law_heap" = some (some (.ref f_law_heap)))
    (l_law_heap : K.lookup f_law_heap = some ⟨oc_law_heap, od_law_heap, .func (PySem.W.fnOf "_law_heap" "_law_heap" (defArgs s_law_heap) (defBody s_law_heap) (defScope s_law_heap) .none kV_law_heap doc_law_heap pm_law_heap an_law_heap cd_law_heap ct_law_heap), sl_law_heap⟩)
    (cd_law_heap_ : PySem.W.codeIn K cd_law_heap "_law_heap" = true)
    (k_law_heap : PySem.W.keepIn K (.ref f_law_heap) = true)
    (a_law_draw : PySem.W.nsIn K mainGlobals "_law_draw" = some (some (.ref f_law_draw)))
    (l_law_draw : K.lookup f_law_draw = some ⟨oc_law_draw, od_law_draw, .func (PySem.W.fnOf "_law_draw" "_law_draw" (defArgs s_law_draw) (defBody s_law_draw) (defScope s_law_draw) .none kV_law_draw doc_law_draw pm_law_draw an_law_draw cd_law_draw ct_law_draw), sl_law_draw⟩)
    (cd_law_draw_ : PySem.W.codeIn K cd_law_draw "_law_draw" = true)
    (k_law_draw : PySem.W.keepIn K (.ref f_law_draw) = true)
    (a_law_pick : PySem.W.nsIn K mainGlobals "_law_pick" = some (some (.ref f_law_pick)))
    (l_law_pick : K.lookup f_law_pick = some ⟨oc_law_pick, od_law_pick, .func (PySem.W.fnOf "_law_pick" "_law_pick" (defArgs s_law_pick) (defBody s_law_pick) (defScope s_law_pick) .none kV_law_pick doc_law_pick pm_law_pick an_law_pick cd_law_pick ct_law_pick), sl_law_pick⟩)
    (cd_law_pick_ : PySem.W.codeIn K cd_law_pick "_law_pick" = true)
    (k_law_pick : PySem.W.keepIn K (.ref f_law_pick) = true)
    (a_law_same : PySem.W.nsIn K mainGlobals "_law_same" = some (some (.ref f_law_same)))
    (l_law_same : K.lookup f_law_same = some ⟨oc_law_same, od_law_same, .func (PySem.W.fnOf "_law_same" "_law_same" (defArgs s_law_same) (defBody s_law_same) (defScope s_law_same) .none kV_law_same doc_law_same pm_law_same an_law_same cd_law_same ct_law_same), sl_law_same⟩)
    (cd_law_same_ : PySem.W.codeIn K cd_law_same "_law_same" = true)
    (k_law_same : PySem.W.keepIn K (.ref f_law_same) = true)
    (a_law_is_number : PySem.W.nsIn K mainGlobals "_law_is_number" = some (some (.ref f_law_is_number)))
    (l_law_is_number : K.lookup f_law_is_number = some ⟨oc_law_is_number, od_law_is_number, .func (PySem.W.fnOf "_law_is_number" "_law_is_number" (defArgs s_law_is_number) (defBody s_law_is_number) (defScope s_law_is_number) .none kV_law_is_number doc_law_is_number pm_law_is_number an_law_is_number cd_law_is_number ct_law_is_number), sl_law_is_number⟩)
    (cd_law_is_number_ : PySem.W.codeIn K cd_law_is_number "_law_is_number" = true)
    (k_law_is_number : PySem.W.keepIn K (.ref f_law_is_number) = true)
    (a_law_bent : PySem.W.nsIn K mainGlobals "_law_bent" = some (some (.ref f_law_bent)))
    (l_law_bent : K.lookup f_law_bent = some ⟨oc_law_bent, od_law_bent, .func (PySem.W.fnOf "_law_bent" "_law_bent" (defArgs s_law_bent) (defBody s_law_bent) (defScope s_law_bent) .none kV_law_bent doc_law_bent pm_law_bent an_law_bent cd_law_bent ct_law_bent), sl_law_bent⟩)
    (cd_law_bent_ : PySem.W.codeIn K cd_law_bent "_law_bent" = true)
    (k_law_bent : PySem.W.keepIn K (.ref f_law_bent) = true)
    (a_law_talks : PySem.W.nsIn K mainGlobals "_law_talks" = some (some (.ref f_law_talks)))
    (l_law_talks : K.lookup f_law_talks = some ⟨oc_law_talks, od_law_talks, .func (PySem.W.fnOf "_law_talks" "_law_talks" (defArgs s_law_talks) (defBody s_law_talks) (defScope s_law_talks) .none kV_law_talks doc_law_talks pm_law_talks an_law_talks cd_law_talks ct_law_talks), sl_law_talks⟩)
    (cd_law_talks_ : PySem.W.codeIn K cd_law_talks "_law_talks" = true)
    (k_law_talks : PySem.W.keepIn K (.ref f_law_talks) = true)
    (a_law_knowing : PySem.W.nsIn K mainGlobals "_law_knowing" = some (some (.ref f_law_knowing)))
    (l_law_knowing : K.lookup f_law_knowing = some ⟨oc_law_knowing, od_law_knowing, .func (PySem.W.fnOf "_law_knowing" "_law_knowing" (defArgs s_law_knowing) (defBody s_law_knowing) (defScope s_law_knowing) .none kV_law_knowing doc_law_knowing pm_law_knowing an_law_knowing cd_law_knowing ct_law_knowing), sl_law_knowing⟩)
    (cd_law_knowing_ : PySem.W.codeIn K cd_law_knowing "_law_knowing" = true)
    (k_law_knowing : PySem.W.keepIn K (.ref f_law_knowing) = true)
    (a_law_moment : PySem.W.nsIn K mainGlobals "_law_moment" = some (some (.ref f_law_moment)))
    (l_law_moment : K.lookup f_law_moment = some ⟨oc_law_moment, od_law_moment, .func (PySem.W.fnOf "_law_moment" "_law_moment" (defArgs s_law_moment) (defBody s_law_moment) (defScope s_law_moment) .none kV_law_moment doc_law_moment pm_law_moment an_law_moment cd_law_moment ct_law_moment), sl_law_moment⟩)
    (cd_law_moment_ : PySem.W.codeIn K cd_law_moment "_law_moment" = true)
    (k_law_moment : PySem.W.keepIn K (.ref f_law_moment) = true)
    (a_law : PySem.W.nsIn K mainGlobals "law" = some (some (.ref f_law)))
    (l_law : K.lookup f_law = some ⟨oc_law, od_law, .func (PySem.W.fnOf "law" "law" (defArgs s_law) (defBody s_law) (defScope s_law) .none kV_law doc_law pm_law an_law cd_law ct_law), sl_law⟩)
    (cd_law_ : PySem.W.codeIn K cd_law "law" = true)
    (k_law : PySem.W.keepIn K (.ref f_law) = true)
    (lT_mf : K.lookup T_mf = some ⟨.type "tuple", tc_mf, .seq #[.ref Te_mf] n_mf, ts_mf⟩)
    (lTe_mf : K.lookup Te_mf = some ⟨.type "tuple", ec_mf, .seq #[] en_mf, es_mf⟩)
    (pg_Tokens : PySem.W.plainGet K c_Tokens Str.empty = true)
    (hd_Tokens : PySem.W.hasDictIn K c_Tokens = true)
    (po_Tokens : PySem.W.plainOver K c_Tokens = true)
    (sa_Tokens : PySem.W.findIn K (.ref c_Tokens) "__setattr__" = some (some (.builtin "object.__setattr__")))
    (mk_Tokens : PySem.W.makesIn K c_Tokens = true)
    (kc_Tokens : PySem.W.keepIn K (.ref c_Tokens) = true)
    (na_Tokens_seen : PySem.W.findIn K (.ref c_Tokens) "_seen" = some none)
    (xL_NotYet : K.lookup c_NotYet = some (excClassObj nm_NotYet qn_NotYet c_NotYet N_NotYet bs_NotYet bm_NotYet true sn_NotYet sub_NotYet ab_NotYet col_NotYet dd_NotYet m0_NotYet m1_NotYet m2_NotYet m3_NotYet m5_NotYet "ValueError.__new__"))
    (xr_NotYet : PySem.HandSPX.refsVE bm_NotYet = true)
    (xs_NotYet : PySem.W.findIn K (.ref c_NotYet) "__setattr__" = some (some (.builtin "object.__setattr__")))
    (xe_NotYet : PySem.W.subIn K (.ref c_NotYet) (.type "BaseException") = some true)
    (xt_NotYet : PySem.W.typeIn K (.ref c_NotYet) = some (.type "type"))
    (xk_NotYet : PySem.W.keepIn K (.ref c_NotYet) = true)
    (xi_NotYet : PySem.W.findIn K (.ref c_NotYet) "__init__" = some (some (.ref f_NotYet___init)))
    (xf_NotYet : PySem.W.typeIn K (.ref f_NotYet___init) = some (.type "function"))
    (xl_NotYet : K.lookup f_NotYet___init = some ⟨oc_NotYet, od_NotYet, .func (PySem.W.ksFn "__init__" "NotYet.__init__" (defArgs s_NotYet___init) (defBody s_NotYet___init) (defScope s_NotYet___init) .none kV_NotYet doc_NotYet pm_NotYet an_NotYet (.ref cda_NotYet) ct_NotYet cc_NotYet), sl_NotYet⟩)
    (xc_NotYet : PySem.W.codeIn K (.ref cda_NotYet) "NotYet.__init__" = true)
    (xC_NotYet : K.lookup cda_NotYet = some ⟨ccl_NotYet, cdd_NotYet, .fields vs_NotYet, ccs_NotYet⟩)
    (xv_NotYet : vs_NotYet[2]? = some (.str fl_NotYet tf_NotYet))
    (xF_NotYet : ((l.prog.main.file : Str) == fl_NotYet) = true)
    (xcell_NotYet : K.lookup cc_NotYet = some ⟨cl_NotYet, cld_NotYet, .cell (some (.ref c_NotYet)), csl_NotYet⟩)
    (xm_NotYet : PySem.W.mroIn K c_NotYet (.ref c_NotYet) = some true)
    (xS_NotYet : PySem.W.ks_superIn K c_NotYet c_NotYet "__init__" = some (some (.builtin "ValueError.__init__")))
    (xB_NotYet : PySem.W.subIn K (.ref c_NotYet) (.type "ValueError") = some true)
    (xn_NotYet : PySem.W.findIn K (.ref c_NotYet) "at" = some none)
    (ga_NotYet : PySem.W.findIn K (.ref c_NotYet) "__getattribute__" = some (some (.builtin "BaseException.__getattribute__")))
    (gg_NotYet : PySem.W.findIn K (.ref c_NotYet) "__getattr__" = some none)
    (xh_NotYet : PySem.W.hasDictIn K c_NotYet = true)
    (xq_NotYet : PySem.W.isClsIn K c_NotYet = true)
    (xa_NotYet : PySem.W.findIn K (.ref c_NotYet) "__class__" = some (some (.builtin "object.__class__")))
    (xo_NotYet : PySem.W.mroIn K c_NotYet (.type "object") = some true)
    (em_NotYet : PySem.W.exmOne K (.ref c_NotYet) (.ref c_StoryError) = some true)
    (xL_TooOld : K.lookup c_TooOld = some (excClassObj nm_TooOld qn_TooOld c_TooOld N_TooOld bs_TooOld bm_TooOld true sn_TooOld sub_TooOld ab_TooOld col_TooOld dd_TooOld m0_TooOld m1_TooOld m2_TooOld m3_TooOld m5_TooOld "ValueError.__new__"))
    (xr_TooOld : PySem.HandSPX.refsVE bm_TooOld = true)
    (xs_TooOld : PySem.W.findIn K (.ref c_TooOld) "__setattr__" = some (some (.builtin "object.__setattr__")))
    (xe_TooOld : PySem.W.subIn K (.ref c_TooOld) (.type "BaseException") = some true)
    (xt_TooOld : PySem.W.typeIn K (.ref c_TooOld) = some (.type "type"))
    (xk_TooOld : PySem.W.keepIn K (.ref c_TooOld) = true)
    (xi_TooOld : PySem.W.findIn K (.ref c_TooOld) "__init__" = some (some (.ref f_TooOld___init)))
    (xf_TooOld : PySem.W.typeIn K (.ref f_TooOld___init) = some (.type "function"))
    (xl_TooOld : K.lookup f_TooOld___init = some ⟨oc_TooOld, od_TooOld, .func (PySem.W.ksFn "__init__" "TooOld.__init__" (defArgs s_TooOld___init) (defBody s_TooOld___init) (defScope s_TooOld___init) .none kV_TooOld doc_TooOld pm_TooOld an_TooOld (.ref cda_TooOld) ct_TooOld cc_TooOld), sl_TooOld⟩)
    (xc_TooOld : PySem.W.codeIn K (.ref cda_TooOld) "TooOld.__init__" = true)
    (xC_TooOld : K.lookup cda_TooOld = some ⟨ccl_TooOld, cdd_TooOld, .fields vs_TooOld, ccs_TooOld⟩)
    (xv_TooOld : vs_TooOld[2]? = some (.str fl_TooOld tf_TooOld))
    (xF_TooOld : ((l.prog.main.file : Str) == fl_TooOld) = true)
    (xcell_TooOld : K.lookup cc_TooOld = some ⟨cl_TooOld, cld_TooOld, .cell (some (.ref c_TooOld)), csl_TooOld⟩)
    (xm_TooOld : PySem.W.mroIn K c_TooOld (.ref c_TooOld) = some true)
    (xS_TooOld : PySem.W.ks_superIn K c_TooOld c_TooOld "__init__" = some (some (.builtin "ValueError.__init__")))
    (xB_TooOld : PySem.W.subIn K (.ref c_TooOld) (.type "ValueError") = some true)
    (xn_TooOld : PySem.W.findIn K (.ref c_TooOld) "at" = some none)
    (ga_TooOld : PySem.W.findIn K (.ref c_TooOld) "__getattribute__" = some (some (.builtin "BaseException.__getattribute__")))
    (gg_TooOld : PySem.W.findIn K (.ref c_TooOld) "__getattr__" = some none)
    (xh_TooOld : PySem.W.hasDictIn K c_TooOld = true)
    (xq_TooOld : PySem.W.isClsIn K c_TooOld = true)
    (xa_TooOld : PySem.W.findIn K (.ref c_TooOld) "__class__" = some (some (.builtin "object.__class__")))
    (xo_TooOld : PySem.W.mroIn K c_TooOld (.type "object") = some true)
    (em_TooOld : PySem.W.exmOne K (.ref c_TooOld) (.ref c_StoryError) = some true)
    (ki_NotYet_NotYet : PySem.W.kitOne K (.ref c_NotYet) (.ref c_NotYet) = some true)
    (ki_NotYet_TooOld : PySem.W.kitOne K (.ref c_NotYet) (.ref c_TooOld) = some false)
    (ki_TooOld_NotYet : PySem.W.kitOne K (.ref c_TooOld) (.ref c_NotYet) = some false)
    (ki_TooOld_TooOld : PySem.W.kitOne K (.ref c_TooOld) (.ref c_TooOld) = some true)
    (sp1 : PySem.W.specialIn K (.builtin "object.__class__") "__get__" = some (some (.builtin "getset_descriptor.__get__")))
    (sp2 : PySem.W.takesIn K (.builtin "object.__class__") = some true)
    (tp : PySem.W.nsIn K cStatics "thirdparty.any" = some none)
    (zsuper : PySem.W.nsIn K mainGlobals "super" = some none)
    (htop : (l.prog.main.scope.names.lookup ("super" : Str)).isSome = false)
    (z_abs : PySem.W.nsIn K mainGlobals "abs" = some none)
    (z_all : PySem.W.nsIn K mainGlobals "all" = some none)
    (z_bool : PySem.W.nsIn K mainGlobals "bool" = some none)
    (z_dict : PySem.W.nsIn K mainGlobals "dict" = some none)
    (z_enumerate : PySem.W.nsIn K mainGlobals "enumerate" = some none)
    (z_int : PySem.W.nsIn K mainGlobals "int" = some none)
    (z_isinstance : PySem.W.nsIn K mainGlobals "isinstance" = some none)
    (z_len : PySem.W.nsIn K mainGlobals "len" = some none)
    (z_list : PySem.W.nsIn K mainGlobals "list" = some none)
    (z_max : PySem.W.nsIn K mainGlobals "max" = some none)
    (z_range : PySem.W.nsIn K mainGlobals "range" = some none)
    (z_reversed : PySem.W.nsIn K mainGlobals "reversed" = some none)
    (z_set : PySem.W.nsIn K mainGlobals "set" = some none)
    (z_sorted : PySem.W.nsIn K mainGlobals "sorted" = some none)
    (z_str : PySem.W.nsIn K mainGlobals "str" = some none)
    (z_tuple : PySem.W.nsIn K mainGlobals "tuple" = some none) :
    ∃ fd : FuncData, (∀ (s : Shared) (v : Value), BindsTo s fd ⟨[v], []⟩ [("script", v)]) ∧ ∀ base : Heap, K.In base → base.Ns mainGlobals mg → FnOk l.prog w K mg base (L2N.CX l.prog w) 6 fa fd ["script"] (spL K) := by
  have e := hfa.symm.trans (PySem.W.mg_of X G a_law)
  have e' : f_law = fa := by
    injection e with e
    injection e with e
    exact e.symm
  subst e'

  have F_moment_for := funx_mk (st := s_moment_for) l_moment_for cd_moment_for_ k_moment_for
  have F_Tokens___init := funx_mk (st := s_Tokens___init) l_Tokens___init cd_Tokens___init_ k_Tokens___init
  have B_Tokens___init := (fun_mk (st := s_Tokens___init) l_Tokens___init cd_Tokens___init_ k_Tokens___init).binds (ps := ["self"]) fun _ _ _ _ _ _ us hl => match us, hl with | [_], _ => rfl
  have F_Tokens_of := funx_mk (st := s_Tokens_of) l_Tokens_of cd_Tokens_of_ k_Tokens_of
  have B_Tokens_of := (fun_mk (st := s_Tokens_of) l_Tokens_of cd_Tokens_of_ k_Tokens_of).binds (ps := ["self", "client"]) fun _ _ _ _ _ _ us hl => match us, hl with | [_, _], _ => rfl
  have F_Tokens_see := funx_mk (st := s_Tokens_see) l_Tokens_see cd_Tokens_see_ k_Tokens_see
  have B_Tokens_see := (fun_mk (st := s_Tokens_see) l_Tokens_see cd_Tokens_see_ k_Tokens_see).binds (ps := ["self", "client", "moment"]) fun _ _ _ _ _ _ us hl => match us, hl with | [_, _, _], _ => rfl
  have F_Tokens_talk := funx_mk (st := s_Tokens_talk) l_Tokens_talk cd_Tokens_talk_ k_Tokens_talk
  have B_Tokens_talk := (fun_mk (st := s_Tokens_talk) l_Tokens_talk cd_Tokens_talk_ k_Tokens_talk).binds (ps := ["self", "client", "other"]) fun _ _ _ _ _ _ us hl => match us, hl with | [_, _, _], _ => rfl
  have F_Tokens_all_of := funx_mk (st := s_Tokens_all_of) l_Tokens_all_of cd_Tokens_all_of_ k_Tokens_all_of
  have B_Tokens_all_of := (fun_mk (st := s_Tokens_all_of) l_Tokens_all_of cd_Tokens_all_of_ k_Tokens_all_of).binds (ps := ["self"]) fun _ _ _ _ _ _ us hl => match us, hl with | [_], _ => rfl
  have F_tokens_behind := funx_mk (st := s_tokens_behind) l_tokens_behind cd_tokens_behind_ k_tokens_behind
  have B_tokens_behind := (fun_mk (st := s_tokens_behind) l_tokens_behind cd_tokens_behind_ k_tokens_behind).binds (ps := ["talks"]) fun _ _ _ _ _ _ us hl => match us, hl with | [_], _ => rfl
  have F_back_in := funx_mk (st := s_back_in) l_back_in cd_back_in_ k_back_in
  have B_back_in := (fun_mk (st := s_back_in) l_back_in cd_back_in_ k_back_in).binds (ps := ["talks"]) fun _ _ _ _ _ _ us hl => match us, hl with | [_], _ => rfl
  have F_known_by := funx_mk (st := s_known_by) l_known_by cd_known_by_ k_known_by
  have B_known_by := (fun_mk (st := s_known_by) l_known_by cd_known_by_ k_known_by).binds (ps := ["talks", "place"]) fun _ _ _ _ _ _ us hl => match us, hl with | [_, _], _ => rfl
  have F_witness_of := funx_mk (st := s_witness_of) l_witness_of cd_witness_of_ k_witness_of
  have B_witness_of := (fun_mk (st := s_witness_of) l_witness_of cd_witness_of_ k_witness_of).binds (ps := ["talks"]) fun _ _ _ _ _ _ us hl => match us, hl with | [_], _ => rfl
  have F_is_witness := funx_mk (st := s_is_witness) l_is_witness cd_is_witness_ k_is_witness
  have B_is_witness := (fun_mk (st := s_is_witness) l_is_witness cd_is_witness_ k_is_witness).binds (ps := ["talks", "value"]) fun _ _ _ _ _ _ us hl => match us, hl with | [_, _], _ => rfl
  have F_law_heap := funx_mk (st := s_law_heap) l_law_heap cd_law_heap_ k_law_heap
  have B_law_heap := (fun_mk (st := s_law_heap) l_law_heap cd_law_heap_ k_law_heap).binds (ps := ["script"]) fun _ _ _ _ _ _ us hl => match us, hl with | [_], _ => rfl
  have F_law_draw := funx_mk (st := s_law_draw) l_law_draw cd_law_draw_ k_law_draw
  have B_law_draw := (fun_mk (st := s_law_draw) l_law_draw cd_law_draw_ k_law_draw).binds (ps := ["heap", "many"]) fun _ _ _ _ _ _ us hl => match us, hl with | [_, _], _ => rfl
  have F_law_pick := funx_mk (st := s_law_pick) l_law_pick cd_law_pick_ k_law_pick
  have B_law_pick := (fun_mk (st := s_law_pick) l_law_pick cd_law_pick_ k_law_pick).binds (ps := ["heap", "some"]) fun _ _ _ _ _ _ us hl => match us, hl with | [_, _], _ => rfl
  have F_law_same := funx_mk (st := s_law_same) l_law_same cd_law_same_ k_law_same
  have B_law_same := (fun_mk (st := s_law_same) l_law_same cd_law_same_ k_law_same).binds (ps := ["value", "due"]) fun _ _ _ _ _ _ us hl => match us, hl with | [_, _], _ => rfl
  have F_law_is_number := funx_mk (st := s_law_is_number) l_law_is_number cd_law_is_number_ k_law_is_number
  have B_law_is_number := (fun_mk (st := s_law_is_number) l_law_is_number cd_law_is_number_ k_law_is_number).binds (ps := ["value"]) fun _ _ _ _ _ _ us hl => match us, hl with | [_], _ => rfl
  have F_law_bent := funx_mk (st := s_law_bent) l_law_bent cd_law_bent_ k_law_bent
  have B_law_bent := (fun_mk (st := s_law_bent) l_law_bent cd_law_bent_ k_law_bent).binds (ps := ["heap", "value", "parts"]) fun _ _ _ _ _ _ us hl => match us, hl with | [_, _, _], _ => rfl
  have F_law_talks := funx_mk (st := s_law_talks) l_law_talks cd_law_talks_ k_law_talks
  have B_law_talks := (fun_mk (st := s_law_talks) l_law_talks cd_law_talks_ k_law_talks).binds (ps := ["heap"]) fun _ _ _ _ _ _ us hl => match us, hl with | [_], _ => rfl
  have F_law_knowing := funx_mk (st := s_law_knowing) l_law_knowing cd_law_knowing_ k_law_knowing
  have B_law_knowing := (fun_mk (st := s_law_knowing) l_law_knowing cd_law_knowing_ k_law_knowing).binds (ps := ["talks"]) fun _ _ _ _ _ _ us hl => match us, hl with | [_], _ => rfl
  have F_law_moment := funx_mk (st := s_law_moment) l_law_moment cd_law_moment_ k_law_moment
  have B_law_moment := (fun_mk (st := s_law_moment) l_law_moment cd_law_moment_ k_law_moment).binds (ps := ["token", "moment", "mark", "floor", "holds", "bare"]) fun _ _ _ _ _ _ us hl => match us, hl with | [_, _, _, _, _, _], _ => rfl
  have F_law := funx_mk (st := s_law) l_law cd_law_ k_law
  have B_law := (fun_mk (st := s_law) l_law cd_law_ k_law).binds (ps := ["script"]) fun _ _ _ _ _ _ us hl => match us, hl with | [_], _ => rfl
  have T_NotYet : OexC K c_NotYet := ⟨⟨nm_NotYet, qn_NotYet, N_NotYet, bs_NotYet, bm_NotYet, sn_NotYet, sub_NotYet, ab_NotYet, col_NotYet, dd_NotYet, m0_NotYet, m1_NotYet, m2_NotYet, m3_NotYet, m5_NotYet, xL_NotYet, xr_NotYet⟩, xs_NotYet, xe_NotYet, xt_NotYet, xk_NotYet⟩
  have S_NotYet : SuC K c_NotYet := ⟨⟨ga_NotYet, gg_NotYet, xe_NotYet, xh_NotYet⟩, xn_NotYet, ⟨ga_NotYet, gg_NotYet, xe_NotYet, xq_NotYet, xa_NotYet, sp1, sp2, xo_NotYet⟩⟩
  have T_TooOld : OexC K c_TooOld := ⟨⟨nm_TooOld, qn_TooOld, N_TooOld, bs_TooOld, bm_TooOld, sn_TooOld, sub_TooOld, ab_TooOld, col_TooOld, dd_TooOld, m0_TooOld, m1_TooOld, m2_TooOld, m3_TooOld, m5_TooOld, xL_TooOld, xr_TooOld⟩, xs_TooOld, xe_TooOld, xt_TooOld, xk_TooOld⟩
  have S_TooOld : SuC K c_TooOld := ⟨⟨ga_TooOld, gg_TooOld, xe_TooOld, xh_TooOld⟩, xn_TooOld, ⟨ga_TooOld, gg_TooOld, xe_TooOld, xq_TooOld, xa_TooOld, sp1, sp2, xo_TooOld⟩⟩
  let Z : Ad := { w := w, f_NotYet___init := f_NotYet___init, d_NotYet___init := PySem.W.ksFn "__init__" "NotYet.__init__" (defArgs s_NotYet___init) (defBody s_NotYet___init) (defScope s_NotYet___init) .none kV_NotYet doc_NotYet pm_NotYet an_NotYet (.ref cda_NotYet) ct_NotYet cc_NotYet, f_TooOld___init := f_TooOld___init, d_TooOld___init := PySem.W.ksFn "__init__" "TooOld.__init__" (defArgs s_TooOld___init) (defBody s_TooOld___init) (defScope s_TooOld___init) .none kV_TooOld doc_TooOld pm_TooOld an_TooOld (.ref cda_TooOld) ct_TooOld cc_TooOld, f_moment_for := f_moment_for, d_moment_for := PySem.W.fnOf "moment_for" "moment_for" (defArgs s_moment_for) (defBody s_moment_for) (defScope s_moment_for) (.ref T_mf) kV_moment_for doc_moment_for pm_moment_for an_moment_for cd_moment_for ct_moment_for, f_Tokens___init := f_Tokens___init, d_Tokens___init := PySem.W.fnOf "__init__" "Tokens.__init__" (defArgs s_Tokens___init) (defBody s_Tokens___init) (defScope s_Tokens___init) .none kV_Tokens___init doc_Tokens___init pm_Tokens___init an_Tokens___init cd_Tokens___init ct_Tokens___init, f_Tokens_of := f_Tokens_of, d_Tokens_of := PySem.W.fnOf "of" "Tokens.of" (defArgs s_Tokens_of) (defBody s_Tokens_of) (defScope s_Tokens_of) .none kV_Tokens_of doc_Tokens_of pm_Tokens_of an_Tokens_of cd_Tokens_of ct_Tokens_of, f_Tokens_see := f_Tokens_see, d_Tokens_see := PySem.W.fnOf "see" "Tokens.see" (defArgs s_Tokens_see) (defBody s_Tokens_see) (defScope s_Tokens_see) .none kV_Tokens_see doc_Tokens_see pm_Tokens_see an_Tokens_see cd_Tokens_see ct_Tokens_see, f_Tokens_talk := f_Tokens_talk, d_Tokens_talk := PySem.W.fnOf "talk" "Tokens.talk" (defArgs s_Tokens_talk) (defBody s_Tokens_talk) (defScope s_Tokens_talk) .none kV_Tokens_talk doc_Tokens_talk pm_Tokens_talk an_Tokens_talk cd_Tokens_talk ct_Tokens_talk, f_Tokens_all_of := f_Tokens_all_of, d_Tokens_all_of := PySem.W.fnOf "all_of" "Tokens.all_of" (defArgs s_Tokens_all_of) (defBody s_Tokens_all_of) (defScope s_Tokens_all_of) .none kV_Tokens_all_of doc_Tokens_all_of pm_Tokens_all_of an_Tokens_all_of cd_Tokens_all_of ct_Tokens_all_of, f_tokens_behind := f_tokens_behind, d_tokens_behind := PySem.W.fnOf "tokens_behind" "tokens_behind" (defArgs s_tokens_behind) (defBody s_tokens_behind) (defScope s_tokens_behind) .none kV_tokens_behind doc_tokens_behind pm_tokens_behind an_tokens_behind cd_tokens_behind ct_tokens_behind, f_back_in := f_back_in, d_back_in := PySem.W.fnOf "back_in" "back_in" (defArgs s_back_in) (defBody s_back_in) (defScope s_back_in) .none kV_back_in doc_back_in pm_back_in an_back_in cd_back_in ct_back_in, f_known_by := f_known_by, d_known_by := PySem.W.fnOf "known_by" "known_by" (defArgs s_known_by) (defBody s_known_by) (defScope s_known_by) .none kV_known_by doc_known_by pm_known_by an_known_by cd_known_by ct_known_by, f_witness_of := f_witness_of, d_witness_of := PySem.W.fnOf "witness_of" "witness_of" (defArgs s_witness_of) (defBody s_witness_of) (defScope s_witness_of) .none kV_witness_of doc_witness_of pm_witness_of an_witness_of cd_witness_of ct_witness_of, f_is_witness := f_is_witness, d_is_witness := PySem.W.fnOf "is_witness" "is_witness" (defArgs s_is_witness) (defBody s_is_witness) (defScope s_is_witness) .none kV_is_witness doc_is_witness pm_is_witness an_is_witness cd_is_witness ct_is_witness, f_law_heap := f_law_heap, d_law_heap := PySem.W.fnOf "_law_heap" "_law_heap" (defArgs s_law_heap) (defBody s_law_heap) (defScope s_law_heap) .none kV_law_heap doc_law_heap pm_law_heap an_law_heap cd_law_heap ct_law_heap, f_law_draw := f_law_draw, d_law_draw := PySem.W.fnOf "_law_draw" "_law_draw" (defArgs s_law_draw) (defBody s_law_draw) (defScope s_law_draw) .none kV_law_draw doc_law_draw pm_law_draw an_law_draw cd_law_draw ct_law_draw, f_law_pick := f_law_pick, d_law_pick := PySem.W.fnOf "_law_pick" "_law_pick" (defArgs s_law_pick) (defBody s_law_pick) (defScope s_law_pick) .none kV_law_pick doc_law_pick pm_law_pick an_law_pick cd_law_pick ct_law_pick, f_law_same := f_law_same, d_law_same := PySem.W.fnOf "_law_same" "_law_same" (defArgs s_law_same) (defBody s_law_same) (defScope s_law_same) .none kV_law_same doc_law_same pm_law_same an_law_same cd_law_same ct_law_same, f_law_is_number := f_law_is_number, d_law_is_number := PySem.W.fnOf "_law_is_number" "_law_is_number" (defArgs s_law_is_number) (defBody s_law_is_number) (defScope s_law_is_number) .none kV_law_is_number doc_law_is_number pm_law_is_number an_law_is_number cd_law_is_number ct_law_is_number, f_law_bent := f_law_bent, d_law_bent := PySem.W.fnOf "_law_bent" "_law_bent" (defArgs s_law_bent) (defBody s_law_bent) (defScope s_law_bent) .none kV_law_bent doc_law_bent pm_law_bent an_law_bent cd_law_bent ct_law_bent, f_law_talks := f_law_talks, d_law_talks := PySem.W.fnOf "_law_talks" "_law_talks" (defArgs s_law_talks) (defBody s_law_talks) (defScope s_law_talks) .none kV_law_talks doc_law_talks pm_law_talks an_law_talks cd_law_talks ct_law_talks, f_law_knowing := f_law_knowing, d_law_knowing := PySem.W.fnOf "_law_knowing" "_law_knowing" (defArgs s_law_knowing) (defBody s_law_knowing) (defScope s_law_knowing) .none kV_law_knowing doc_law_knowing pm_law_knowing an_law_knowing cd_law_knowing ct_law_knowing, f_law_moment := f_law_moment, d_law_moment := PySem.W.fnOf "_law_moment" "_law_moment" (defArgs s_law_moment) (defBody s_law_moment) (defScope s_law_moment) .none kV_law_moment doc_law_moment pm_law_moment an_law_moment cd_law_moment ct_law_moment, f_law := f_law, d_law := PySem.W.fnOf "law" "law" (defArgs s_law) (defBody s_law) (defScope s_law) .none kV_law doc_law pm_law an_law cd_law ct_law, c_StoryError := c_StoryError, c_NotYet := c_NotYet, c_TooOld := c_TooOld, c_Tokens := c_Tokens, isx := fun C D => PySem.W.kitOne K (.ref C) (.ref D), exm_StoryError := fun C => if C = c_NotYet ∨ C = c_TooOld then some true else none }
  have z : ZOk Z := ⟨if_pos (.inl rfl), if_pos (.inr rfl), ki_NotYet_NotYet, ki_NotYet_TooOld, ki_TooOld_NotYet, ki_TooOld_TooOld⟩
  have hem : ∀ C b, Z.exm_StoryError C = some b → (C = c_NotYet ∨ C = c_TooOld) ∧ b = true := fun C b hb => by
    have hb' : (if C = c_NotYet ∨ C = c_TooOld then some true else none) = some b := hb
    by_cases hc : C = c_NotYet ∨ C = c_TooOld
    · rw [if_pos hc] at hb'
      exact ⟨hc, (Option.some.inj hb').symm⟩
    · rw [if_neg hc] at hb'
      cases hb'
  refine ⟨Z.d_law, fun s v => .of_eq rfl, fun base KB NB => ?_⟩
  have T : Txt l.prog K mg base Z := ?_
  · exact fn_sp (ok_law T)
  have me : ∀ {x : Str} {f : Addr}, PySem.W.nsIn K mainGlobals x = some (some (.ref f)) → mg x = some (.ref f) := fun a => PySem.W.mg_of X G a
  have mn : ∀ {x : Str}, PySem.W.nsIn K mainGlobals x = some none → mg x = none := fun a => PySem.W.mg_none_of X G a
  have I_NotYet : FnOk l.prog w K mg base (L2N.CX l.prog w) 1 f_NotYet___init Z.d_NotYet___init ["self", "at"] (spXI K c_NotYet) := init_super T_NotYet xl_NotYet xc_NotYet rfl rfl xC_NotYet xv_NotYet xF_NotYet xcell_NotYet xm_NotYet (mn zsuper) tp xS_NotYet xB_NotYet xn_NotYet htop (fun _ => rfl)
  have BI_NotYet : Binds K Z.d_NotYet___init ["self", "at"] [] := .all fun us hl => match us, hl with | [_, _], _ => rfl
  have I_TooOld : FnOk l.prog w K mg base (L2N.CX l.prog w) 1 f_TooOld___init Z.d_TooOld___init ["self", "at"] (spXI K c_TooOld) := init_super T_TooOld xl_TooOld xc_TooOld rfl rfl xC_TooOld xv_TooOld xF_TooOld xcell_TooOld xm_TooOld (mn zsuper) tp xS_TooOld xB_TooOld xn_TooOld htop (fun _ => rfl)
  have BI_TooOld : Binds K Z.d_TooOld___init ["self", "at"] [] := .all fun us hl => match us, hl with | [_, _], _ => rfl
  have hexm : ∀ C b, Z.exm_StoryError C = some b → PySem.W.exmOne K (.ref C) (.ref c_StoryError) = some b := fun C b hb => by
    obtain ⟨h1, hb2⟩ := hem C b hb
    rw [hb2]
    rcases h1 with h | h
    · rw [h]; exact em_NotYet
    · rw [h]; exact em_TooOld
  have hsu : ∀ C, Z.exm_StoryError C = some true → SuC K C := fun C hc => by
    rcases (hem C true hc).1 with h | h
    · rw [h]; exact S_NotYet
    · rw [h]; exact S_TooOld
  have FD_moment_for : L2.FunD K "moment_for" "moment_for" (defArgs s_moment_for) (defBody s_moment_for) (defScope s_moment_for) [.ref Te_mf] [] f_moment_for Z.d_moment_for := ⟨⟨oc_moment_for, od_moment_for, .ref T_mf, kV_moment_for, doc_moment_for, pm_moment_for, an_moment_for, cd_moment_for, ct_moment_for, sl_moment_for, rfl, l_moment_for, cd_moment_for_, .inr ⟨by simp, T_mf, _, [.ref Te_mf], n_mf, rfl, lT_mf, rfl, .cons rfl .nil⟩, .inl rfl⟩, k_moment_for⟩
  obtain ⟨ds5, hv5, hb5⟩ := FD_moment_for.binds1 (ps := ["token", "moment", "mark", "floor", "holds"]) 5 1 (by simp) rfl fun T kV doc pm an cdv ct us its hu hi => match us, its, hu, hi with | [_, _, _, _, _], [_], _, _ => ⟨_, rfl, rfl⟩
  obtain ⟨ds4, hv4, hb4⟩ := FD_moment_for.binds1 (ps := ["token", "moment", "mark", "floor", "holds"]) 4 0 (by simp) rfl fun T kV doc pm an cdv ct us its hu hi => match us, its, hu, hi with | [_, _, _, _], [_], _, _ => ⟨_, rfl, rfl⟩
  have B_moment_for : Binds K Z.d_moment_for ["token", "moment", "mark", "floor", "holds"] [] := by
    have hv : Vals [] ds5 := hv5
    cases hv
    exact hb5
  have BD_moment_for : ∃ (v : V) (u : Value), Vals [v] [u] ∧ (∀ F, IsA K F [v] [.tup []]) ∧ Binds K Z.d_moment_for ["token", "moment", "mark", "floor", "holds"] [u] := by
    have hv : Vals [V.ref Te_mf] ds4 := hv4
    cases hv with
    | cons r t =>
      cases t
      exact ⟨.ref Te_mf, _, .cons r .nil, fun F => .cons (.tup (.inr ⟨_, #[], en_mf, lTe_mf, rfl, rfl, Nat.zero_le _, .nil⟩) .nil) .nil, hb4⟩
  exact { z := z, exm_StoryError := hexm, su := hsu, isx := fun _ _ _ hh => hh,
            b_abs := mn z_abs,
            b_all := mn z_all,
            b_bool := mn z_bool,
            b_dict := mn z_dict,
            b_enumerate := mn z_enumerate,
            b_int := mn z_int,
            b_isinstance := mn z_isinstance,
            b_len := mn z_len,
            b_list := mn z_list,
            b_max := mn z_max,
            b_range := mn z_range,
            b_reversed := mn z_reversed,
            b_set := mn z_set,
            b_sorted := mn z_sorted,
            b_str := mn z_str,
            b_tuple := mn z_tuple,
            F_moment_for := F_moment_for,
            B_moment_for := B_moment_for, BD_moment_for := BD_moment_for,
            g_moment_for := me a_moment_for,
            F_Tokens___init := F_Tokens___init,
            B_Tokens___init := B_Tokens___init,
            F_Tokens_of := F_Tokens_of,
            B_Tokens_of := B_Tokens_of,
            F_Tokens_see := F_Tokens_see,
            B_Tokens_see := B_Tokens_see,
            F_Tokens_talk := F_Tokens_talk,
            B_Tokens_talk := B_Tokens_talk,
            F_Tokens_all_of := F_Tokens_all_of,
            B_Tokens_all_of := B_Tokens_all_of,
            F_tokens_behind := F_tokens_behind,
            B_tokens_behind := B_tokens_behind,
            g_tokens_behind := me a_tokens_behind,
            F_back_in := F_back_in,
            B_back_in := B_back_in,
            g_back_in := me a_back_in,
            F_known_by := F_known_by,
            B_known_by := B_known_by,
            g_known_by := me a_known_by,
            F_witness_of := F_witness_of,
            B_witness_of := B_witness_of,
            g_witness_of := me a_witness_of,
            F_is_witness := F_is_witness,
            B_is_witness := B_is_witness,
            g_is_witness := me a_is_witness,
            F_law_heap := F_law_heap,
            B_law_heap := B_law_heap,
            g_law_heap := me a_law_heap,
            F_law_draw := F_law_draw,
            B_law_draw := B_law_draw,
            g_law_draw := me a_law_draw,
            F_law_pick := F_law_pick,
            B_law_pick := B_law_pick,
            g_law_pick := me a_law_pick,
            F_law_same := F_law_same,
            B_law_same := B_law_same,
            g_law_same := me a_law_same,
            F_law_is_number := F_law_is_number,
            B_law_is_number := B_law_is_number,
            g_law_is_number := me a_law_is_number,
            F_law_bent := F_law_bent,
            B_law_bent := B_law_bent,
            g_law_bent := me a_law_bent,
            F_law_talks := F_law_talks,
            B_law_talks := B_law_talks,
            g_law_talks := me a_law_talks,
            F_law_knowing := F_law_knowing,
            B_law_knowing := B_law_knowing,
            g_law_knowing := me a_law_knowing,
            F_law_moment := F_law_moment,
            B_law_moment := B_law_moment,
            g_law_moment := me a_law_moment,
            F_law := F_law,
            B_law := B_law,
            g_law := me a_law,
            g_StoryError := me aC_StoryError,
            g_NotYet := me aC_NotYet,
            g_TooOld := me aC_TooOld,
            g_Tokens := me aC_Tokens,
            cl_Tokens := ⟨pg_Tokens, hd_Tokens, po_Tokens, sa_Tokens⟩, na_Tokens_seen := na_Tokens_seen, mk_Tokens := ⟨mk_Tokens, a_Tokens___init, i_Tokens___init, kc_Tokens⟩,
            m_Tokens_of := ⟨a_Tokens_of, i_Tokens_of, k_Tokens_of⟩,
            m_Tokens_see := ⟨a_Tokens_see, i_Tokens_see, k_Tokens_see⟩,
            m_Tokens_talk := ⟨a_Tokens_talk, i_Tokens_talk, k_Tokens_talk⟩,
            m_Tokens_all_of := ⟨a_Tokens_all_of, i_Tokens_all_of, k_Tokens_all_of⟩,
            x_NotYet := ⟨T_NotYet, xi_NotYet, xf_NotYet⟩, I_NotYet := I_NotYet, BI_NotYet := BI_NotYet,
            x_TooOld := ⟨T_TooOld, xi_TooOld, xf_TooOld⟩, I_TooOld := I_TooOld, BI_TooOld := BI_TooOld }
end K47

open PySem PySem.W PyProof.Rows
set_option Elab.async false
set_option linter.all false
set_option maxRecDepth 100000 in
set_option maxHeartbeats 0 in
theorem PySem.Challenge.cw_dealstory_k47_whole_talks_and_who_goes_b_holds : PySem.Challenge.rw_dealstory_k47_whole_talks_and_who_goes_b.Holds := by
  w_on; o_law; k_head; (case hw => w_witness2)
  k_fill
  refine L2.walk_of (l := PySem.Challenge.rw_dealstory_k47_whole_talks_and_who_goes_b) (n := 63) (k := 6) (x := "script") (CX := fun w => L2N.CX (PySem.Challenge.rw_dealstory_k47_whole_talks_and_who_goes_b).prog w) (sp := fun w => K47.spL _) rfl (by decide) rfl ⟨rfl, by decide, by decide⟩ (fun w h Y => PySem.W.kIn_of Y) ?F (fun _ _ a ns hl _ hS => ⟨a, ns, rfl, hS, hl, fun _ => rfl⟩) (fun _ _ _ _ _ ⟨_, _, _, _, _, _, _, _, _, _, _, _, h⟩ => h)
  case F =>
    intro w mg fa h KX G hmg
    refine' K47.all_mk KX G hmg ?aC_StoryError ?aC_NotYet ?aC_TooOld ?aC_Tokens ?a_moment_for ?l_moment_for ?cd_moment_for_ ?k_moment_for ?a_Tokens___init ?i_Tokens___init ?l_Tokens___init ?cd_Tokens___init_ ?k_Tokens___init ?a_Tokens_of ?i_Tokens_of ?l_Tokens_of ?cd_Tokens_of_ ?k_Tokens_of ?a_Tokens_see ?i_Tokens_see ?l_Tokens_see ?cd_Tokens_see_ ?k_Tokens_see ?a_Tokens_talk ?i_Tokens_talk ?l_Tokens_talk ?cd_Tokens_talk_ ?k_Tokens_talk ?a_Tokens_all_of ?i_Tokens_all_of ?l_Tokens_all_of ?cd_Tokens_all_of_ ?k_Tokens_all_of ?a_tokens_behind ?l_tokens_behind ?cd_tokens_behind_ ?k_tokens_behind ?a_back_in ?l_back_in ?cd_back_in_ ?k_back_in ?a_known_by ?l_known_by ?cd_known_by_ ?k_known_by ?a_witness_of ?l_witness_of ?cd_witness_of_ ?k_witness_of ?a_is_witness ?l_is_witness ?cd_is_witness_ ?k_is_witness ?a_law_heap ?l_law_heap ?cd_law_heap_ ?k_law_heap ?a_law_draw ?l_law_draw ?cd_law_draw_ ?k_law_draw ?a_law_pick ?l_law_pick ?cd_law_pick_ ?k_law_pick ?a_law_same ?l_law_same ?cd_law_same_ ?k_law_same ?a_law_is_number ?l_law_is_number ?cd_law_is_number_ ?k_law_is_number ?a_law_bent ?l_law_bent ?cd_law_bent_ ?k_law_bent ?a_law_talks ?l_law_talks ?cd_law_talks_ ?k_law_talks ?a_law_knowing ?l_law_knowing ?cd_law_knowing_ ?k_law_knowing ?a_law_moment ?l_law_moment ?cd_law_moment_ ?k_law_moment ?a_law ?l_law ?cd_law_ ?k_law ?lT_mf ?lTe_mf ?pg_Tokens ?hd_Tokens ?po_Tokens ?sa_Tokens ?mk_Tokens ?kc_Tokens ?na_Tokens_seen ?xL_NotYet ?xr_NotYet ?xs_NotYet ?xe_NotYet ?xt_NotYet ?xk_NotYet ?xi_NotYet ?xf_NotYet ?xl_NotYet ?xc_NotYet ?xC_NotYet ?xv_NotYet ?xF_NotYet ?xcell_NotYet ?xm_NotYet ?xS_NotYet ?xB_NotYet ?xn_NotYet ?ga_NotYet ?gg_NotYet ?xh_NotYet ?xq_NotYet ?xa_NotYet ?xo_NotYet ?em_NotYet ?xL_TooOld ?xr_TooOld ?xs_TooOld ?xe_TooOld ?xt_TooOld ?xk_TooOld ?xi_TooOld ?xf_TooOld ?xl_TooOld ?xc_TooOld ?xC_TooOld ?xv_TooOld ?xF_TooOld ?xcell_TooOld ?xm_TooOld ?xS_TooOld ?xB_TooOld ?xn_TooOld ?ga_TooOld ?gg_TooOld ?xh_TooOld ?xq_TooOld ?xa_TooOld ?xo_TooOld ?em_TooOld ?ki_NotYet_NotYet ?ki_NotYet_TooOld ?ki_TooOld_NotYet ?ki_TooOld_TooOld ?sp1 ?sp2 ?tp ?zsuper ?htop ?z_abs ?z_all ?z_bool ?z_dict ?z_enumerate ?z_int ?z_isinstance ?z_len ?z_list ?z_max ?z_range ?z_reversed ?z_set ?z_sorted ?z_str ?z_tuple
    (case aC_StoryError => k_is)
    (case aC_NotYet => k_is)
    (case aC_TooOld => k_is)
    (case aC_Tokens => k_is)
    (case a_moment_for => k_is)
    (case l_moment_for => k_is)
    (case cd_moment_for_ => k_is)
    (case k_moment_for => k_is)
    (case a_Tokens___init => k_is)
    (case i_Tokens___init => k_is)
    (case l_Tokens___init => k_is)
    (case cd_Tokens___init_ => k_is)
    (case k_Tokens___init => k_is)
    (case a_Tokens_of => k_is)
    (case i_Tokens_of => k_is)
    (case l_Tokens_of => k_is)
    (case cd_Tokens_of_ => k_is)
    (case k_Tokens_of => k_is)
    (case a_Tokens_see => k_is)
    (case i_Tokens_see => k_is)
    (case l_Tokens_see => k_is)
    (case cd_Tokens_see_ => k_is)
    (case k_Tokens_see => k_is)
    (case a_Tokens_talk => k_is)
    (case i_Tokens_talk => k_is)
    (case l_Tokens_talk => k_is)
    (case cd_Tokens_talk_ => k_is)
    (case k_Tokens_talk => k_is)
    (case a_Tokens_all_of => k_is)
    (case i_Tokens_all_of => k_is)
    (case l_Tokens_all_of => k_is)
    (case cd_Tokens_all_of_ => k_is)
    (case k_Tokens_all_of => k_is)
    (case a_tokens_behind => k_is)
    (case l_tokens_behind => k_is)
    (case cd_tokens_behind_ => k_is)
    (case k_tokens_behind => k_is)
    (case a_back_in => k_is)
    (case l_back_in => k_is)
    (case cd_back_in_ => k_is)
    (case k_back_in => k_is)
    (case a_known_by => k_is)
    (case l_known_by => k_is)
    (case cd_known_by_ => k_is)
    (case k_known_by => k_is)
    (case a_witness_of => k_is)
    (case l_witness_of => k_is)
    (case cd_witness_of_ => k_is)
    (case k_witness_of => k_is)
    (case a_is_witness => k_is)
    (case l_is_witness => k_is)
    (case cd_is_witness_ => k_is)
    (case k_is_witness => k_is)
    (case a_law_heap => k_is)
    (case l_law_heap => k_is)
    (case cd_law_heap_ => k_is)
    (case k_law_heap => k_is)
    (case a_law_draw => k_is)
    (case l_law_draw => k_is)
    (case cd_law_draw_ => k_is)
    (case k_law_draw => k_is)
    (case a_law_pick => k_is)
    (case l_law_pick => k_is)
    (case cd_law_pick_ => k_is)
    (case k_law_pick => k_is)
    (case a_law_same => k_is)
    (case l_law_same => k_is)
    (case cd_law_same_ => k_is)
    (case k_law_same => k_is)
    (case a_law_is_number => k_is)
    (case l_law_is_number => k_is)
    (case cd_law_is_number_ => k_is)
    (case k_law_is_number => k_is)
    (case a_law_bent => k_is)
    (case l_law_bent => k_is)
    (case cd_law_bent_ => k_is)
    (case k_law_bent => k_is)
    (case a_law_talks => k_is)
    (case l_law_talks => k_is)
    (case cd_law_talks_ => k_is)
    (case k_law_talks => k_is)
    (case a_law_knowing => k_is)
    (case l_law_knowing => k_is)
    (case cd_law_knowing_ => k_is)
    (case k_law_knowing => k_is)
    (case a_law_moment => k_is)
    (case l_law_moment => k_is)
    (case cd_law_moment_ => k_is)
    (case k_law_moment => k_is)
    (case a_law => k_is)
    (case l_law => k_is)
    (case cd_law_ => k_is)
    (case k_law => k_is)
    (case lT_mf => k_is)
    (case lTe_mf => k_is)
    (case pg_Tokens => k_is)
    (case hd_Tokens => k_is)
    (case po_Tokens => k_is)
    (case sa_Tokens => k_is)
    (case mk_Tokens => k_is)
    (case kc_Tokens => k_is)
    (case na_Tokens_seen => k_is)
    (case xL_NotYet => k_is)
    (case xr_NotYet => first | rfl | decide +kernel | k_is)
    (case xs_NotYet => k_is)
    (case xe_NotYet => k_is)
    (case xt_NotYet => k_is)
    (case xk_NotYet => k_is)
    (case xi_NotYet => k_is)
    (case xf_NotYet => k_is)
    (case xl_NotYet => k_is)
    (case xc_NotYet => k_is)
    (case xC_NotYet => k_is)
    (case xv_NotYet => first | rfl | decide +kernel | k_is)
    (case xF_NotYet => first | rfl | decide +kernel | k_is)
    (case xcell_NotYet => k_is)
    (case xm_NotYet => k_is)
    (case xS_NotYet => first | k_is | rfl | decide +kernel)
    (case xB_NotYet => k_is)
    (case xn_NotYet => k_is)
    (case ga_NotYet => k_is)
    (case gg_NotYet => k_is)
    (case xh_NotYet => k_is)
    (case xq_NotYet => k_is)
    (case xa_NotYet => k_is)
    (case xo_NotYet => k_is)
    (case em_NotYet => first | k_is | rfl | decide +kernel)
    (case xL_TooOld => k_is)
    (case xr_TooOld => first | rfl | decide +kernel | k_is)
    (case xs_TooOld => k_is)
    (case xe_TooOld => k_is)
    (case xt_TooOld => k_is)
    (case xk_TooOld => k_is)
    (case xi_TooOld => k_is)
    (case xf_TooOld => k_is)
    (case xl_TooOld => k_is)
    (case xc_TooOld => k_is)
    (case xC_TooOld => k_is)
    (case xv_TooOld => first | rfl | decide +kernel | k_is)
    (case xF_TooOld => first | rfl | decide +kernel | k_is)
    (case xcell_TooOld => k_is)
    (case xm_TooOld => k_is)
    (case xS_TooOld => first | k_is | rfl | decide +kernel)
    (case xB_TooOld => k_is)
    (case xn_TooOld => k_is)
    (case ga_TooOld => k_is)
    (case gg_TooOld => k_is)
    (case xh_TooOld => k_is)
    (case xq_TooOld => k_is)
    (case xa_TooOld => k_is)
    (case xo_TooOld => k_is)
    (case em_TooOld => first | k_is | rfl | decide +kernel)
    (case ki_NotYet_NotYet => first | k_is | rfl | decide +kernel)
    (case ki_NotYet_TooOld => first | k_is | rfl | decide +kernel)
    (case ki_TooOld_NotYet => first | k_is | rfl | decide +kernel)
    (case ki_TooOld_TooOld => first | k_is | rfl | decide +kernel)
    (case sp1 => k_is)
    (case sp2 => k_is)
    (case tp => k_is)
    (case zsuper => k_is)
    (case htop => first | rfl | decide +kernel | k_is)
    (case z_abs => k_is)
    (case z_all => k_is)
    (case z_bool => k_is)
    (case z_dict => k_is)
    (case z_enumerate => k_is)
    (case z_int => k_is)
    (case z_isinstance => k_is)
    (case z_len => k_is)
    (case z_list => k_is)
    (case z_max => k_is)
    (case z_range => k_is)
    (case z_reversed => k_is)
    (case z_set => k_is)
    (case z_sorted => k_is)
    (case z_str => k_is)
    (case z_tuple => k_is)

