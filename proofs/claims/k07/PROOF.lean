import PyProof.Rows.All
import Wide.All
import OpenK.AllK
import Wide.FinOn
import HandS.ForMost
import HandS.TupAny
import HandS.Zip
import HandS.Style
import HandS.Deep
import HandS.IsInst
import KE.SortData
import HandS.SetFor
import PySem.Challenge.RW_latecoming_k07_differences
set_option Elab.async false
set_option linter.all false
set_option maxRecDepth 100000
set_option maxHeartbeats 4000000
/-! Values without addresses (D), what stands for them in an abstract heap (Rep), slots that may own a list (Slot), and the judgements of HandS told by functions on slots. -/
namespace PD
open PySem PySem.Spec PyProof.Rows L2

/-- a value of Python without addresses; frl: a list that is only read (the script); obj: class, field names, field values -/
inductive D where
  | non | bl (b : Bool) | int (i : Int) | str (x : Str)
  | tup (ds : List D) | lst (ds : List D) | frl (ds : List D)
  | obj (c : Nat) (ks : List Str) (ds : List D)
  deriving Inhabited

mutual
def Rep (K : PySem.W.Frag) (ct : Nat → Addr) (H : Hp) : D → V → Prop
  | .non, v => v = .non
  | .bl b, v => v = .bl b
  | .int i, v => v = .int i
  | .str x, v => v = .str x
  | .tup ds, v => ∃ a xs, v = .ref a ∧ SqT K H a xs ∧ RepL K ct H ds xs
  | .lst ds, v => ∃ a xs, v = .ref a ∧ H a = some (.lst xs) ∧ RepL K ct H ds xs
  | .frl ds, v => ∃ a xs, v = .ref a ∧ SqL K H a xs ∧ RepL K ct H ds xs
  | .obj c ks ds, v => ∃ a dx xs, v = .ref a ∧ H a = some (.ins (ct c) dx (ks.zip xs)) ∧ ks.length = ds.length ∧ RepL K ct H ds xs
def RepL (K : PySem.W.Frag) (ct : Nat → Addr) (H : Hp) : List D → List V → Prop
  | [], xs => xs = []
  | d :: ds, xs => ∃ y ys, xs = y :: ys ∧ Rep K ct H d y ∧ RepL K ct H ds ys
end

theorem same_sqt {K : PySem.W.Frag} {H H' : Hp} {a : Addr} {xs : List V} (e : Same H H') (h : SqT K H a xs) : SqT K H' a xs := by
  rcases h with (h | ⟨o, h⟩) | h
  · exact .inl (.inl (e _ _ h))
  · exact .inl (.inr ⟨o, e _ _ h⟩)
  · exact .inr h

section
variable {K : PySem.W.Frag} {ct : Nat → Addr} {H H' : Hp}
mutual
theorem Rep.mono (e : Same H H') : ∀ {d : D} {v : V}, Rep K ct H d v → Rep K ct H' d v
  | .non, _, h => h
  | .bl _, _, h => h
  | .int _, _, h => h
  | .str _, _, h => h
  | .tup ds, _, h => by
    simp only [Rep] at h ⊢
    obtain ⟨a, xs, hv, ht, hl⟩ := h
    exact ⟨a, xs, hv, same_sqt e ht, RepL.mono e hl⟩
  | .lst ds, _, h => by
    simp only [Rep] at h ⊢
    obtain ⟨a, xs, hv, ht, hl⟩ := h
    exact ⟨a, xs, hv, e _ _ ht, RepL.mono e hl⟩
  | .frl ds, _, h => by
    simp only [Rep] at h ⊢
    obtain ⟨a, xs, hv, ht, hl⟩ := h
    exact ⟨a, xs, hv, e.seq ht, RepL.mono e hl⟩
  | .obj c ks ds, _, h => by
    simp only [Rep] at h ⊢
    obtain ⟨a, dx, xs, hv, ht, hk, hl⟩ := h
    exact ⟨a, dx, xs, hv, e _ _ ht, hk, RepL.mono e hl⟩
theorem RepL.mono (e : Same H H') : ∀ {ds : List D} {xs : List V}, RepL K ct H ds xs → RepL K ct H' ds xs
  | [], _, h => by
    simp only [RepL] at h ⊢
    exact h
  | d :: ds, _, h => by
    simp only [RepL] at h ⊢
    obtain ⟨y, ys, hv, hd, hl⟩ := h
    exact ⟨y, ys, hv, Rep.mono e hd, RepL.mono e hl⟩
end
theorem RepL.length : ∀ {ds : List D} {xs : List V}, RepL K ct H ds xs → xs.length = ds.length
  | [], _, h => by
    simp only [RepL] at h
    rw [h]
    rfl
  | d :: ds, _, h => by
    simp only [RepL] at h
    obtain ⟨y, ys, rfl, _, hl⟩ := h
    simp [RepL.length hl]
theorem RepL.get : ∀ {ds : List D} {xs : List V} {i : Nat} {d : D}, RepL K ct H ds xs → ds[i]? = some d → ∃ v, xs[i]? = some v ∧ Rep K ct H d v
  | [], _, _, _, _, h => by simp at h
  | d :: ds, _, 0, _, h, e => by
    simp only [RepL] at h
    obtain ⟨y, ys, rfl, hd, _⟩ := h
    simp at e
    subst e
    exact ⟨y, rfl, hd⟩
  | d :: ds, _, i + 1, _, h, e => by
    simp only [RepL] at h
    obtain ⟨y, ys, rfl, _, hl⟩ := h
    simp only [List.getElem?_cons_succ] at e ⊢
    exact RepL.get hl e
theorem RepL.append : ∀ {ds es : List D} {xs ys : List V}, RepL K ct H ds xs → RepL K ct H es ys → RepL K ct H (ds ++ es) (xs ++ ys)
  | [], _, _, _, h, h' => by
    simp only [RepL] at h
    subst h
    exact h'
  | d :: ds, _, _, _, h, h' => by
    simp only [RepL] at h
    obtain ⟨y, zs, rfl, hd, hl⟩ := h
    simp only [List.cons_append, RepL]
    exact ⟨y, _, rfl, hd, RepL.append hl h'⟩
theorem RepL.one {d : D} {v : V} (h : Rep K ct H d v) : RepL K ct H [d] [v] := by
  simp only [RepL]
  exact ⟨v, [], rfl, h, rfl⟩
theorem RepL.nil : RepL K ct H [] [] := by simp only [RepL]
theorem RepL.cons {d : D} {v : V} {ds : List D} {xs : List V} (h : Rep K ct H d v) (hl : RepL K ct H ds xs) : RepL K ct H (d :: ds) (v :: xs) := by
  simp only [RepL]
  exact ⟨v, xs, rfl, h, hl⟩
theorem RepL.uncons {d : D} {ds : List D} {xs : List V} (h : RepL K ct H (d :: ds) xs) : ∃ y ys, xs = y :: ys ∧ Rep K ct H d y ∧ RepL K ct H ds ys := by
  simp only [RepL] at h
  exact h
theorem RepL.of_nil {xs : List V} (h : RepL K ct H [] xs) : xs = [] := by
  simp only [RepL] at h
  exact h
theorem RepL.take : ∀ {ds : List D} {xs : List V} (n : Nat), RepL K ct H ds xs → RepL K ct H (ds.take n) (xs.take n)
  | _, _, 0, _ => RepL.nil
  | [], _, n + 1, h => by
    rw [h.of_nil]
    exact RepL.nil
  | d :: ds, _, n + 1, h => by
    obtain ⟨y, ys, rfl, hd, hl⟩ := h.uncons
    exact RepL.cons hd (RepL.take n hl)
theorem RepL.drop : ∀ {ds : List D} {xs : List V} (n : Nat), RepL K ct H ds xs → RepL K ct H (ds.drop n) (xs.drop n)
  | _, _, 0, h => h
  | [], _, n + 1, h => by
    rw [h.of_nil]
    exact RepL.nil
  | d :: ds, _, n + 1, h => by
    obtain ⟨y, ys, rfl, hd, hl⟩ := h.uncons
    exact RepL.drop n hl
theorem RepL.set {d : D} {v : V} (r : Rep K ct H d v) : ∀ {ds : List D} {xs : List V} (i : Nat), RepL K ct H ds xs → RepL K ct H (ds.set i d) (xs.set i v)
  | [], _, _, h => by
    rw [h.of_nil]
    exact RepL.nil
  | e :: ds, _, 0, h => by
    obtain ⟨y, ys, rfl, hd, hl⟩ := h.uncons
    exact RepL.cons r hl
  | e :: ds, _, i + 1, h => by
    obtain ⟨y, ys, rfl, hd, hl⟩ := h.uncons
    exact RepL.cons hd (RepL.set r i hl)
theorem RepL.reverse : ∀ {ds : List D} {xs : List V}, RepL K ct H ds xs → RepL K ct H ds.reverse xs.reverse
  | [], _, h => by
    rw [h.of_nil]
    exact RepL.nil
  | d :: ds, _, h => by
    obtain ⟨y, ys, rfl, hd, hl⟩ := h.uncons
    rw [List.reverse_cons, List.reverse_cons]
    exact (RepL.reverse hl).append (RepL.one hd)
theorem RepL.ints : ∀ {ns : List Int} {xs : List V}, RepL K ct H (ns.map D.int) xs → xs = ns.map V.int
  | [], _, h => h.of_nil
  | n :: ns, _, h => by
    obtain ⟨y, ys, rfl, hd, hl⟩ := h.uncons
    simp only [Rep] at hd
    rw [hd, RepL.ints hl]
    rfl
theorem RepL.of_ints : ∀ (ns : List Int), RepL K ct H (ns.map D.int) (ns.map V.int)
  | [] => RepL.nil
  | n :: ns => RepL.cons (by simp only [Rep]) (RepL.of_ints ns)
theorem RepL.strs : ∀ {ns : List Str} {xs : List V}, RepL K ct H (ns.map D.str) xs → xs = ns.map V.str
  | [], _, h => h.of_nil
  | n :: ns, _, h => by
    obtain ⟨y, ys, rfl, hd, hl⟩ := h.uncons
    simp only [Rep] at hd
    rw [hd, RepL.strs hl]
    rfl
theorem RepL.of_strs : ∀ (ns : List Str), RepL K ct H (ns.map D.str) (ns.map V.str)
  | [] => RepL.nil
  | n :: ns => RepL.cons (by simp only [Rep]) (RepL.of_strs ns)
end

/-- what stands at an address for a list or an object -/
def HoR (K : PySem.W.Frag) (ct : Nat → Addr) (H : Hp) : D → HO → Prop
  | .lst ds, .lst xs => RepL K ct H ds xs
  | .obj c ks ds, .ins C _ fs => ∃ xs, C = ct c ∧ fs = ks.zip xs ∧ ks.length = ds.length ∧ RepL K ct H ds xs
  | _, _ => False
theorem HoR.mono {K : PySem.W.Frag} {ct : Nat → Addr} {H H' : Hp} (e : Same H H') {d : D} {o : HO} (h : HoR K ct H d o) : HoR K ct H' d o := by
  unfold HoR at h ⊢
  split at h
  · exact RepL.mono e h
  · obtain ⟨xs, h1, h2, h3, h4⟩ := h
    exact ⟨xs, h1, h2, h3, h4.mono e⟩
  · exact h.elim
theorem HoR.rep {K : PySem.W.Frag} {ct : Nat → Addr} {H : Hp} {d : D} {o : HO} {a : Addr} (h : HoR K ct H d o) (ha : H a = some o) : Rep K ct H d (.ref a) := by
  unfold HoR at h
  split at h
  · simp only [Rep]
    exact ⟨a, _, rfl, ha, h⟩
  · obtain ⟨xs, h1, h2, h3, h4⟩ := h
    subst h1 h2
    simp only [Rep]
    exact ⟨a, _, xs, rfl, ha, h3, h4⟩
  · exact h.elim

inductive Slot where
  | un | val (d : D) | own (d : D)
  deriving Inhabited
abbrev Env := List Slot

/-- the slots' values: HF: what the callers hold for themselves, H0: what all may read and nobody changes, H: all -/
structure StOk (K : PySem.W.Frag) (ct : Nat → Addr) (HF H0 H : Hp) (ρ : Env) (σ : L2.St) : Prop where
  e0 : Same H0 H
  ef : Same HF H
  dj : ∀ a o, HF a = some o → H0 a = none
  len : σ.length = ρ.length
  val : ∀ (i : Nat) (d : D), ρ[i]? = some (.val d) → ∃ v, σ[i]? = some (some v) ∧ Rep K ct H0 d v
  own : ∀ (i : Nat) (d : D), ρ[i]? = some (.own d) → ∃ a o, σ[i]? = some (some (.ref a)) ∧ HF a = none ∧ H0 a = none ∧ H a = some o ∧ HoR K ct H0 d o
  apart : ∀ (i j : Nat) (d e : D) (a : Addr), ρ[i]? = some (.own d) → ρ[j]? = some (.own e) → σ[i]? = some (some (.ref a)) → σ[j]? = some (some (.ref a)) → i = j

section
variable {K : PySem.W.Frag} {ct : Nat → Addr} {HF H0 H : Hp} {ρ : Env} {σ : L2.St}
theorem same_upd {H : Hp} {p : Addr} {o : HO} (h : H p = none) : Same H (upd H p o) := fun b x e => by
  rw [upd_ne (ne_of_none e h)]
  exact e
theorem same_upd2 {H0 H : Hp} {p : Addr} {o : HO} (e : Same H0 H) (h : H p = none) : Same (upd H0 p o) (upd H p o) := fun b x q => by
  by_cases hb : b = p
  · subst hb
    rw [upd_same] at q ⊢
    exact q
  · rw [upd_ne hb] at q ⊢
    exact e _ _ q
theorem StOk.fresh0 (S : StOk K ct HF H0 H ρ σ) {p : Addr} (h : H p = none) : H0 p = none := S.e0.free h
theorem StOk.freshF (S : StOk K ct HF H0 H ρ σ) {p : Addr} (h : H p = none) : HF p = none := S.ef.free h
/-- a new object that all may read -/
theorem StOk.new (S : StOk K ct HF H0 H ρ σ) {p : Addr} {o : HO} (h : H p = none) : StOk K ct HF (upd H0 p o) (upd H p o) ρ σ where
  e0 := same_upd2 S.e0 h
  ef := S.ef.trans (same_upd h)
  dj := fun a u e => by
    have ha : a ≠ p := ne_of_none e (S.freshF h)
    rw [upd_ne ha]
    exact S.dj a u e
  len := S.len
  val := fun i d e => by
    obtain ⟨v, h1, h2⟩ := S.val i d e
    exact ⟨v, h1, h2.mono (same_upd (S.fresh0 h))⟩
  own := fun i d e => by
    obtain ⟨a, u, h1, h2, h3, h4, h5⟩ := S.own i d e
    have ha : a ≠ p := ne_of_none h4 h
    refine ⟨a, u, h1, h2, by rw [upd_ne ha]; exact h3, by rw [upd_ne ha]; exact h4, h5.mono (same_upd (S.fresh0 h))⟩
  apart := S.apart
/-- a new object that is not yet given to anyone -/
theorem StOk.mine (S : StOk K ct HF H0 H ρ σ) {p : Addr} {o : HO} (h : H p = none) : StOk K ct HF H0 (upd H p o) ρ σ where
  e0 := S.e0.trans (same_upd h)
  ef := S.ef.trans (same_upd h)
  dj := S.dj
  len := S.len
  val := S.val
  own := fun i d e => by
    obtain ⟨a, u, h1, h2, h3, h4, h5⟩ := S.own i d e
    exact ⟨a, u, h1, h2, h3, same_upd h _ _ h4, h5⟩
  apart := S.apart
/-- what stands for itself is given to all -/
theorem StOk.give (S : StOk K ct HF H0 H ρ σ) {p : Addr} {o : HO} (h : H p = some o) (hF : HF p = none) (h0 : H0 p = none)
    (ho : ∀ (i : Nat) (d : D) (a : Addr), ρ[i]? = some (.own d) → σ[i]? = some (some (.ref a)) → a ≠ p) : StOk K ct HF (upd H0 p o) H ρ σ where
  e0 := fun b x q => by
    by_cases hb : b = p
    · subst hb
      rw [upd_same] at q
      rw [h]
      exact q
    · rw [upd_ne hb] at q
      exact S.e0 _ _ q
  ef := S.ef
  dj := fun a u e => by
    have ha : a ≠ p := ne_of_none e hF
    rw [upd_ne ha]
    exact S.dj a u e
  len := S.len
  val := fun i d e => by
    obtain ⟨v, h1, h2⟩ := S.val i d e
    exact ⟨v, h1, h2.mono (same_upd h0)⟩
  own := fun i d e => by
    obtain ⟨a, u, h1, h2, h3, h4, h5⟩ := S.own i d e
    have ha : a ≠ p := ho i d a e h1
    exact ⟨a, u, h1, h2, by rw [upd_ne ha]; exact h3, h4, h5.mono (same_upd h0)⟩
  apart := S.apart

theorem get_set {α : Type} (l : List α) (i j : Nat) (x : α) : (l.set i x)[j]? = if i = j then (if j < l.length then some x else none) else l[j]? := by
  by_cases h : i = j
  · subst h
    rw [if_pos rfl]
    by_cases hi : i < l.length
    · rw [if_pos hi, List.getElem?_set_self hi]
    · rw [if_neg hi, List.getElem?_eq_none (by rw [List.length_set]; omega)]
  · rw [if_neg h, List.getElem?_set_ne h]

/-- a slot is forgotten -/
theorem StOk.forget (S : StOk K ct HF H0 H ρ σ) (i : Nat) : StOk K ct HF H0 H (ρ.set i .un) σ where
  e0 := S.e0
  ef := S.ef
  dj := S.dj
  len := by rw [List.length_set]; exact S.len
  val := fun j d e => by
    rw [get_set] at e
    split at e
    · split at e <;> cases e
    · exact S.val j d e
  own := fun j d e => by
    rw [get_set] at e
    split at e
    · split at e <;> cases e
    · exact S.own j d e
  apart := fun j k d e a h1 h2 => by
    rw [get_set] at h1 h2
    split at h1
    · split at h1 <;> cases h1
    · split at h2
      · split at h2 <;> cases h2
      · exact S.apart j k d e a h1 h2
/-- a forgotten slot may hold anything -/
theorem StOk.wiped (S : StOk K ct HF H0 H ρ σ) (i : Nat) (x : Option V) : StOk K ct HF H0 H (ρ.set i .un) (σ.set i x) where
  e0 := S.e0
  ef := S.ef
  dj := S.dj
  len := by rw [List.length_set, List.length_set]; exact S.len
  val := fun j d e => by
    rw [get_set] at e
    split at e
    · split at e <;> cases e
    · rename_i hj
      obtain ⟨v, h1, h2⟩ := S.val j d e
      exact ⟨v, by rw [get_set, if_neg hj]; exact h1, h2⟩
  own := fun j d e => by
    rw [get_set] at e
    split at e
    · split at e <;> cases e
    · rename_i hj
      obtain ⟨a, o, h1, h2⟩ := S.own j d e
      exact ⟨a, o, by rw [get_set, if_neg hj]; exact h1, h2⟩
  apart := fun j k d e a h1 h2 h3 h4 => by
    rw [get_set] at h1 h2
    split at h1
    · split at h1 <;> cases h1
    · split at h2
      · split at h2 <;> cases h2
      · rename_i hj hk
        rw [get_set, if_neg hj] at h3
        rw [get_set, if_neg hk] at h4
        exact S.apart j k d e a h1 h2 h3 h4
/-- a slot takes a value -/
theorem StOk.setVal (S : StOk K ct HF H0 H ρ σ) (i : Nat) {d : D} {v : V} (r : Rep K ct H0 d v) : StOk K ct HF H0 H (ρ.set i (.val d)) (σ.set i (some v)) where
  e0 := S.e0
  ef := S.ef
  dj := S.dj
  len := by rw [List.length_set, List.length_set]; exact S.len
  val := fun j e h => by
    rw [get_set] at h
    split at h
    · rename_i hj
      split at h
      · rename_i hl
        cases h
        exact ⟨v, by rw [get_set, if_pos hj, if_pos (by rw [S.len]; exact hl)], r⟩
      · cases h
    · rename_i hj
      obtain ⟨w, h1, h2⟩ := S.val j e h
      exact ⟨w, by rw [get_set, if_neg hj]; exact h1, h2⟩
  own := fun j e h => by
    rw [get_set] at h
    split at h
    · split at h <;> cases h
    · rename_i hj
      obtain ⟨a, o, h1, h2⟩ := S.own j e h
      exact ⟨a, o, by rw [get_set, if_neg hj]; exact h1, h2⟩
  apart := fun j k d e a h1 h2 h3 h4 => by
    rw [get_set] at h1 h2
    split at h1
    · split at h1 <;> cases h1
    · split at h2
      · split at h2 <;> cases h2
      · rename_i hj hk
        rw [get_set, if_neg hj] at h3
        rw [get_set, if_neg hk] at h4
        exact S.apart j k d e a h1 h2 h3 h4
/-- a slot takes a list or an object for itself -/
theorem StOk.setOwn (S : StOk K ct HF H0 H ρ σ) (i : Nat) {d : D} {p : Addr} {o : HO} (hF : HF p = none) (h0 : H0 p = none) (hp : H p = some o) (r : HoR K ct H0 d o)
    (ho : ∀ (j : Nat) (e : D) (a : Addr), ρ[j]? = some (.own e) → σ[j]? = some (some (.ref a)) → a ≠ p) : StOk K ct HF H0 H (ρ.set i (.own d)) (σ.set i (some (.ref p))) where
  e0 := S.e0
  ef := S.ef
  dj := S.dj
  len := by rw [List.length_set, List.length_set]; exact S.len
  val := fun j e h => by
    rw [get_set] at h
    split at h
    · split at h <;> cases h
    · rename_i hj
      obtain ⟨w, h1, h2⟩ := S.val j e h
      exact ⟨w, by rw [get_set, if_neg hj]; exact h1, h2⟩
  own := fun j e h => by
    rw [get_set] at h
    split at h
    · rename_i hj
      split at h
      · rename_i hl
        cases h
        exact ⟨p, o, by rw [get_set, if_pos hj, if_pos (by rw [S.len]; exact hl)], hF, h0, hp, r⟩
      · cases h
    · rename_i hj
      obtain ⟨a, u, h1, h2⟩ := S.own j e h
      exact ⟨a, u, by rw [get_set, if_neg hj]; exact h1, h2⟩
  apart := fun j k d e a h1 h2 h3 h4 => by
    rw [get_set] at h1 h2 h3 h4
    by_cases hj : i = j
    · by_cases hk : i = k
      · exact hj.symm.trans hk
      · rw [if_pos hj] at h3
        rw [if_neg hk] at h2 h4
        split at h3
        · cases h3
          exact absurd rfl (ho k e p h2 h4)
        · cases h3
    · by_cases hk : i = k
      · rw [if_pos hk] at h4
        rw [if_neg hj] at h1 h3
        split at h4
        · cases h4
          exact absurd rfl (ho j d p h1 h3)
        · cases h4
      · rw [if_neg hj] at h1 h3
        rw [if_neg hk] at h2 h4
        exact S.apart j k d e a h1 h2 h3 h4
/-- an own list or object gets another content -/
theorem StOk.change (S : StOk K ct HF H0 H ρ σ) {i : Nat} {d d' : D} {p : Addr} {o : HO} (hi : ρ[i]? = some (.own d)) (hs : σ[i]? = some (some (.ref p))) (r : HoR K ct H0 d' o) :
    StOk K ct HF H0 (upd H p o) (ρ.set i (.own d')) σ := by
  obtain ⟨a, u, h1, h2, h3, h4, h5⟩ := S.own i d hi
  have ea : a = p := by
    rw [hs] at h1
    cases h1
    rfl
  subst ea
  refine ⟨fun b x q => ?_, fun b x q => ?_, S.dj, by rw [List.length_set]; exact S.len, fun j e h => ?_, fun j e h => ?_, fun j k d1 e1 b h1' h2' h3' h4' => ?_⟩
  · rw [upd_ne (ne_of_none q h3)]
    exact S.e0 _ _ q
  · rw [upd_ne (ne_of_none q h2)]
    exact S.ef _ _ q
  · rw [get_set] at h
    split at h
    · split at h <;> cases h
    · exact S.val j e h
  · rw [get_set] at h
    split at h
    · rename_i hj
      subst hj
      split at h
      · cases h
        exact ⟨a, o, h1, h2, h3, upd_same, r⟩
      · cases h
    · rename_i hj
      obtain ⟨b, w, g1, g2, g3, g4, g5⟩ := S.own j e h
      have hb : b ≠ a := fun z => by
        subst z
        exact hj (S.apart i j d e b hi h h1 g1)
      exact ⟨b, w, g1, g2, g3, by rw [upd_ne hb]; exact g4, g5⟩
  · rw [get_set] at h1' h2'
    by_cases hj : i = j
    · by_cases hk : i = k
      · exact hj.symm.trans hk
      · rw [if_neg hk] at h2'
        subst hj
        exact absurd (S.apart i k d e1 b hi h2' h3' h4') hk
    · by_cases hk : i = k
      · rw [if_neg hj] at h1'
        subst hk
        exact absurd (S.apart i j d d1 b hi h1' h4' h3') hj
      · rw [if_neg hj] at h1'
        rw [if_neg hk] at h2'
        exact S.apart j k d1 e1 b h1' h2' h3' h4'
end
/-- a slot that owns gives what it owns to all -/
def frz1 (i : Nat) (ρ : Env) : Env := match ρ[i]? with
  | some (.own d) => ρ.set i (.val d)
  | _ => ρ
def frz (is : List Nat) (ρ : Env) : Env := is.foldl (fun ρ i => frz1 i ρ) ρ
def clr (is : List Nat) (ρ : Env) : Env := is.foldl (fun ρ i => ρ.set i .un) ρ
section
variable {K : PySem.W.Frag} {ct : Nat → Addr} {HF H0 H : Hp} {ρ : Env} {σ : L2.St}
theorem StOk.frz1 (S : StOk K ct HF H0 H ρ σ) (i : Nat) : ∃ H0', Same H0 H0' ∧ StOk K ct HF H0' H (PD.frz1 i ρ) σ := by
  unfold PD.frz1
  split
  · rename_i d hi
    obtain ⟨a, u, h1, h2, h3, h4, h5⟩ := S.own i d hi
    have S1 := S.forget i
    have S2 := S1.give h4 h2 h3 (fun j e b hj hb z => by
      subst z
      rw [get_set] at hj
      split at hj
      · split at hj <;> cases hj
      · rename_i hne
        exact hne (S.apart i j d e b hi hj h1 hb))
    have hil : i < ρ.length := (List.getElem?_eq_some_iff.mp hi).1
    have S3 := S2.setVal i (d := d) (v := .ref a) ((h5.mono (same_upd h3)).rep upd_same)
    have e1 : (ρ.set i .un).set i (.val d) = ρ.set i (.val d) := by rw [List.set_set]
    have e2 : σ.set i (some (.ref a)) = σ := by
      apply List.ext_getElem?
      intro j
      rw [get_set]
      split
      · rename_i hj
        subst hj
        rw [if_pos (by rw [S.len]; exact hil)]
        exact h1.symm
      · rfl
    rw [e1, e2] at S3
    exact ⟨_, same_upd h3, S3⟩
  · exact ⟨H0, Same.refl _, S⟩
theorem StOk.frz : ∀ (is : List Nat) {H0 : Hp} {ρ : Env}, StOk K ct HF H0 H ρ σ → ∃ H0', Same H0 H0' ∧ StOk K ct HF H0' H (PD.frz is ρ) σ
  | [], H0, _, S => ⟨H0, Same.refl _, S⟩
  | i :: is, H0, ρ, S => by
    obtain ⟨H1, e1, S1⟩ := S.frz1 i
    obtain ⟨H2, e2, S2⟩ := StOk.frz is S1
    exact ⟨H2, e1.trans e2, S2⟩
theorem StOk.clr : ∀ (is : List Nat) {ρ : Env}, StOk K ct HF H0 H ρ σ → StOk K ct HF H0 H (PD.clr is ρ) σ
  | [], _, S => S
  | i :: is, ρ, S => StOk.clr is (S.forget i)
end
end PD

/-! Expressions: their values by functions on slots. -/
namespace PD
open PySem PySem.Spec PyProof.Rows L2

/-- x, where p holds (the kernel never looks into p) -/
noncomputable def gd {α : Type} (p : Prop) (x : α) : Option α := @ite _ p (Classical.propDecidable p) (some x) none
theorem gd_some {α : Type} {p : Prop} {x y : α} (h : gd p x = some y) : p ∧ x = y := by
  unfold gd at h
  by_cases hp : p
  · rw [if_pos hp] at h
    exact ⟨hp, Option.some.inj h⟩
  · rw [if_neg hp] at h
    cases h
theorem gd_pos {α : Type} {p : Prop} {x : α} (h : p) : gd p x = some x := by
  unfold gd
  rw [if_pos h]
section
variable (K : PySem.W.Frag) (ct : Nat → Addr)
/-- a value, or what a slot owns -/
def BRep (ρ : Env) (σ : L2.St) (H0 : Hp) (d : D) (v : V) : Prop := Rep K ct H0 d v ∨ ∃ i : Nat, ρ[i]? = some (.own d) ∧ σ[i]? = some (some v)
def tD (f : Env → Option D) : TE := fun σ H Q => ∃ HF H0 ρ d, StOk K ct HF H0 H ρ σ ∧ f ρ = some d ∧ ∀ v H0' H', Same H0 H0' → StOk K ct HF H0' H' ρ σ → Rep K ct H0' d v → Q v H'
def tBo (f : Env → Option D) : TE := fun σ H Q => ∃ HF H0 ρ d, StOk K ct HF H0 H ρ σ ∧ f ρ = some d ∧ ∀ v H0' H', Same H0 H0' → StOk K ct HF H0' H' ρ σ → BRep K ct ρ σ H0' d v → Q v H'
/-- a new object that nobody else holds -/
structure Fresh (HF H0 H : Hp) (ρ : Env) (σ : L2.St) (p : Addr) (d : D) (o : HO) : Prop where
  hF : HF p = none
  h0 : H0 p = none
  h : H p = some o
  r : HoR K ct H0 d o
  ne : ∀ (i : Nat) (e : D) (a : Addr), ρ[i]? = some (.own e) → σ[i]? = some (some (.ref a)) → a ≠ p
def tO (f : Env → Option D) : TE := fun σ H Q => ∃ HF H0 ρ d, StOk K ct HF H0 H ρ σ ∧ f ρ = some d ∧ ∀ p o H0' H', Same H0 H0' → StOk K ct HF H0' H' ρ σ → Fresh K ct HF H0' H' ρ σ p d o → Q (.ref p) H'
def tTe (f : Env → Option Bool) : TT := fun σ H Q => ∃ HF H0 ρ b, StOk K ct HF H0 H ρ σ ∧ f ρ = some b ∧ ∀ H0' H', Same H0 H0' → StOk K ct HF H0' H' ρ σ → Q b H'
def tAr (f : Env → Option (List D)) : TA := fun σ H Q => ∃ HF H0 ρ ds, StOk K ct HF H0 H ρ σ ∧ f ρ = some ds ∧ ∀ vs H0' H', Same H0 H0' → StOk K ct HF H0' H' ρ σ → RepL K ct H0' ds vs → Q vs H'
end

section
variable {X : Cx} {e : Expr}
theorem _root_.L2.PE.weak {t t' : TE} (h : PE X e t) (w : ∀ σ H Q, t' σ H Q → t σ H Q) : PE X e t' := ⟨fun pins s σ H Q I q => h.run pins s σ H Q I (w _ _ _ q)⟩
theorem _root_.L2.PT.weak {t t' : TT} (h : PT X e t) (w : ∀ σ H Q, t' σ H Q → t σ H Q) : PT X e t' := ⟨fun pins s σ H Q I q => h.run pins s σ H Q I (w _ _ _ q)⟩
theorem _root_.L2.PW.weak {t t' : TT} (h : PW X e t) (w : ∀ σ H Q, t' σ H Q → t σ H Q) : PW X e t' := ⟨fun wh pins s σ H Q I q => h.run wh pins s σ H Q I (w _ _ _ q)⟩
theorem _root_.L2.PA.weak {es : List Expr} {t t' : TA} (h : PA X es t) (w : ∀ σ H Q, t' σ H Q → t σ H Q) : PA X es t' := ⟨fun pos pins s σ H Q I q => h.run pos pins s σ H Q I (w _ _ _ q)⟩
end

section
variable {K : PySem.W.Frag} {ct : Nat → Addr} {HF H0 H : Hp} {ρ : Env} {σ : L2.St} {d : D} {v : V}
/-- behind the own heap all is read alike -/
theorem BRep.full (S : StOk K ct HF H0 H ρ σ) (h : BRep K ct ρ σ H0 d v) : Rep K ct H d v := by
  rcases h with h | ⟨i, hi, hs⟩
  · exact h.mono S.e0
  · obtain ⟨a, o, h1, h2, h3, h4, h5⟩ := S.own i d hi
    rw [hs] at h1
    cases h1
    exact (h5.mono S.e0).rep h4
theorem BRep.mono {H0' : Hp} (e : Same H0 H0') (h : BRep K ct ρ σ H0 d v) : BRep K ct ρ σ H0' d v := by
  rcases h with h | h
  · exact .inl (h.mono e)
  · exact .inr h
theorem BRep.lst {ds : List D} (S : StOk K ct HF H0 H ρ σ) (h : BRep K ct ρ σ H0 (.lst ds) v) : ∃ a xs, v = .ref a ∧ H a = some (.lst xs) ∧ RepL K ct H0 ds xs := by
  rcases h with h | ⟨i, hi, hs⟩
  · simp only [Rep] at h
    obtain ⟨a, xs, h1, h2, h3⟩ := h
    exact ⟨a, xs, h1, S.e0 _ _ h2, h3⟩
  · obtain ⟨a, o, h1, h2, h3, h4, h5⟩ := S.own i _ hi
    rw [hs] at h1
    cases h1
    unfold HoR at h5
    split at h5
    · rename_i ds' xs e
      cases e
      exact ⟨a, xs, rfl, h4, h5⟩
    · rename_i e
      cases e
    · exact h5.elim
theorem BRep.obj {c : Nat} {ks : List Str} {ds : List D} (S : StOk K ct HF H0 H ρ σ) (h : BRep K ct ρ σ H0 (.obj c ks ds) v) :
    ∃ a dx xs, v = .ref a ∧ H a = some (.ins (ct c) dx (ks.zip xs)) ∧ ks.length = ds.length ∧ RepL K ct H0 ds xs := by
  rcases h with h | ⟨i, hi, hs⟩
  · simp only [Rep] at h
    obtain ⟨a, dx, xs, h1, h2, h3⟩ := h
    exact ⟨a, dx, xs, h1, S.e0 _ _ h2, h3⟩
  · obtain ⟨a, o, h1, h2, h3, h4, h5⟩ := S.own i _ hi
    rw [hs] at h1
    cases h1
    unfold HoR at h5
    split at h5
    · rename_i e
      cases e
    · rename_i e
      cases e
      obtain ⟨xs, rfl, rfl, g3, g4⟩ := h5
      exact ⟨a, _, xs, rfl, h4, g3, g4⟩
    · exact h5.elim
/-- what is no list and no object is never owned -/
theorem BRep.imm (S : StOk K ct HF H0 H ρ σ) (h : BRep K ct ρ σ H0 d v) (hd : ∀ o, ¬ HoR K ct H0 d o) : Rep K ct H0 d v := by
  rcases h with h | ⟨i, hi, hs⟩
  · exact h
  · obtain ⟨a, o, h1, h2, h3, h4, h5⟩ := S.own i _ hi
    exact (hd o h5).elim
theorem BRep.int {i : Int} (S : StOk K ct HF H0 H ρ σ) (h : BRep K ct ρ σ H0 (.int i) v) : v = .int i := by
  have q := h.full S
  simpa only [Rep] using q
theorem BRep.str {x : Str} (S : StOk K ct HF H0 H ρ σ) (h : BRep K ct ρ σ H0 (.str x) v) : v = .str x := by
  have q := h.full S
  simpa only [Rep] using q
theorem BRep.bl {b : Bool} (S : StOk K ct HF H0 H ρ σ) (h : BRep K ct ρ σ H0 (.bl b) v) : v = .bl b := by
  have q := h.full S
  simpa only [Rep] using q
theorem BRep.non (S : StOk K ct HF H0 H ρ σ) (h : BRep K ct ρ σ H0 .non v) : v = .non := by
  have q := h.full S
  simpa only [Rep] using q
theorem BRep.tup {ds : List D} (S : StOk K ct HF H0 H ρ σ) (h : BRep K ct ρ σ H0 (.tup ds) v) : ∃ a xs, v = .ref a ∧ SqT K H a xs ∧ RepL K ct H0 ds xs := by
  have q := h.imm S (fun o q => by unfold HoR at q; split at q <;> first | (rename_i e; cases e) | exact q.elim)
  simp only [Rep] at q
  obtain ⟨a, xs, h1, h2, h3⟩ := q
  exact ⟨a, xs, h1, same_sqt S.e0 h2, h3⟩
theorem BRep.tup0 {ds : List D} (S : StOk K ct HF H0 H ρ σ) (h : BRep K ct ρ σ H0 (.tup ds) v) : ∃ a xs, v = .ref a ∧ SqT K H0 a xs ∧ RepL K ct H0 ds xs := by
  have q := h.imm S (fun o q => by unfold HoR at q; split at q <;> first | (rename_i e; cases e) | exact q.elim)
  simp only [Rep] at q
  obtain ⟨a, xs, h1, h2, h3⟩ := q
  exact ⟨a, xs, h1, h2, h3⟩
theorem BRep.frl {ds : List D} (S : StOk K ct HF H0 H ρ σ) (h : BRep K ct ρ σ H0 (.frl ds) v) : ∃ a xs, v = .ref a ∧ SqL K H a xs ∧ RepL K ct H0 ds xs := by
  have q := h.imm S (fun o q => by unfold HoR at q; split at q <;> first | (rename_i e; cases e) | exact q.elim)
  simp only [Rep] at q
  obtain ⟨a, xs, h1, h2, h3⟩ := q
  exact ⟨a, xs, h1, S.e0.seq h2, h3⟩
/-- the items of a list or a tuple -/
def seqD : D → Option (List D)
  | .lst ds => some ds
  | .frl ds => some ds
  | .tup ds => some ds
  | _ => none
theorem BRep.seq {ds : List D} (S : StOk K ct HF H0 H ρ σ) (h : BRep K ct ρ σ H0 d v) (hd : seqD d = some ds) : ∃ a xs, v = .ref a ∧ (SqL K H a xs ∨ SqT K H a xs) ∧ RepL K ct H0 ds xs := by
  cases d with
  | lst es =>
    cases hd
    obtain ⟨a, xs, h1, h2, h3⟩ := h.lst S
    exact ⟨a, xs, h1, .inl (SqL.of h2), h3⟩
  | frl es =>
    cases hd
    obtain ⟨a, xs, h1, h2, h3⟩ := h.frl S
    exact ⟨a, xs, h1, .inl h2, h3⟩
  | tup es =>
    cases hd
    obtain ⟨a, xs, h1, h2, h3⟩ := h.tup S
    exact ⟨a, xs, h1, .inr h2, h3⟩
  | _ => cases hd
/-- a new object laid: nobody else holds it -/
theorem StOk.fresh (S : StOk K ct HF H0 H ρ σ) {p : Addr} {o : HO} (h : H p = none) (r : HoR K ct H0 d o) : StOk K ct HF H0 (upd H p o) ρ σ ∧ Fresh K ct HF H0 (upd H p o) ρ σ p d o :=
  ⟨S.mine h, S.freshF h, S.fresh0 h, upd_same, r, fun i e a h1 h2 => by
    obtain ⟨b, u, g1, _, _, g4, _⟩ := S.own i e h1
    rw [h2] at g1
    cases g1
    exact ne_of_none g4 h⟩
theorem Fresh.give {p : Addr} {o : HO} (S : StOk K ct HF H0 H ρ σ) (F : Fresh K ct HF H0 H ρ σ p d o) : Same H0 (upd H0 p o) ∧ StOk K ct HF (upd H0 p o) H ρ σ ∧ Rep K ct (upd H0 p o) d (.ref p) :=
  ⟨same_upd F.h0, S.give F.h F.hF F.h0 F.ne, (F.r.mono (same_upd F.h0)).rep upd_same⟩
theorem StOk.newTup (S : StOk K ct HF H0 H ρ σ) {p : Addr} {ds : List D} {xs : List V} (h : H p = none) (r : RepL K ct H0 ds xs) :
    Same H0 (upd H0 p (.tup xs)) ∧ StOk K ct HF (upd H0 p (.tup xs)) (upd H p (.tup xs)) ρ σ ∧ Rep K ct (upd H0 p (.tup xs)) (.tup ds) (.ref p) :=
  ⟨same_upd (S.fresh0 h), S.new h, by
    simp only [Rep]
    exact ⟨p, xs, rfl, SqT.of upd_same, r.mono (same_upd (S.fresh0 h))⟩⟩
end

section
variable {X : Cx} {ct : Nat → Addr} {e a b c : Expr} {pos : Pos} {fa fb fc : Env → Option D}
theorem PE.bo (h : PE X e (tD X.K ct fa)) : PE X e (tBo X.K ct fa) := h.weak fun σ H Q => by
  rintro ⟨HF, H0, ρ, d, S, hf, q⟩
  exact ⟨HF, H0, ρ, d, S, hf, fun v H0' H' e1 S1 r => q v H0' H' e1 S1 (.inl r)⟩
theorem PE.ow (h : PE X e (tO X.K ct fa)) : PE X e (tD X.K ct fa) := h.weak fun σ H Q => by
  rintro ⟨HF, H0, ρ, d, S, hf, q⟩
  refine ⟨HF, H0, ρ, d, S, hf, fun p o H0' H' e1 S1 F => ?_⟩
  obtain ⟨e2, S2, r⟩ := F.give S1
  exact q _ _ _ (e1.trans e2) S2 r

/-! ### names and constants -/
def fVar (i : Nat) : Env → Option D := fun ρ => match ρ[i]? with
  | some (.val d) => some d
  | _ => none
def fBor (i : Nat) : Env → Option D := fun ρ => match ρ[i]? with
  | some (.val d) => some d
  | some (.own d) => some d
  | _ => none
theorem e_var (i : Nat) (h : PE X e (tVar i)) : PE X e (tD X.K ct (fVar i)) := h.weak fun σ H Q => by
  rintro ⟨HF, H0, ρ, d, S, hf, q⟩
  unfold fVar at hf
  split at hf
  · rename_i d' hi
    cases hf
    obtain ⟨v, h1, h2⟩ := S.val i d hi
    exact ⟨v, h1, q v H0 H (Same.refl _) S h2⟩
  · cases hf
theorem b_var (i : Nat) (h : PE X e (tVar i)) : PE X e (tBo X.K ct (fBor i)) := h.weak fun σ H Q => by
  rintro ⟨HF, H0, ρ, d, S, hf, q⟩
  unfold fBor at hf
  split at hf
  · rename_i d' hi
    cases hf
    obtain ⟨v, h1, h2⟩ := S.val i d hi
    exact ⟨v, h1, q v H0 H (Same.refl _) S (.inl h2)⟩
  · rename_i d' hi
    cases hf
    obtain ⟨a, o, h1, _⟩ := S.own i d hi
    exact ⟨_, h1, q _ H0 H (Same.refl _) S (.inr ⟨i, hi, h1⟩)⟩
  · cases hf
def fC (d : D) : Env → Option D := fun _ => some d
theorem e_c {v : V} {d : D} (h : PE X e (tC v)) (r : ∀ H, Rep X.K ct H d v) : PE X e (tD X.K ct (fC d)) := h.weak fun σ H Q => by
  rintro ⟨HF, H0, ρ, d', S, hf, q⟩
  cases hf
  exact q v H0 H (Same.refl _) S (r _)
theorem e_int {i : Int} {j : Nat} : PE X (.Constant (.int i) j pos) (tD X.K ct (fC (.int i))) := e_c pe_int fun _ => by simp only [Rep]
theorem e_str {x : Str} {j : Nat} : PE X (.Constant (.str x) j pos) (tD X.K ct (fC (.str x))) := e_c pe_str fun _ => by simp only [Rep]
theorem e_bl {x : Bool} {j : Nat} : PE X (.Constant (.bool x) j pos) (tD X.K ct (fC (.bl x))) := e_c pe_bl fun _ => by simp only [Rep]
theorem e_non {j : Nat} : PE X (.Constant .none j pos) (tD X.K ct (fC .non)) := e_c pe_non fun _ => by simp only [Rep]

/-! ### operations on one value, on two -/
def f1 (fa : Env → Option D) (g : D → Option D) : Env → Option D := fun ρ => (fa ρ).bind g
def f2 (fa fb : Env → Option D) (g : D → D → Option D) : Env → Option D := fun ρ => (fa ρ).bind fun x => (fb ρ).bind fun y => g x y
/-- r gives g's value | a new object -/
def Op2 (K : PySem.W.Frag) (ct : Nat → Addr) (r : R2) (g : D → D → Option D) : Prop := ∀ (HF H0 H : Hp) (ρ : Env) (σ : L2.St) (x y z : D) (v u : V) (Q : VK), StOk K ct HF H0 H ρ σ → BRep K ct ρ σ H0 x v → BRep K ct ρ σ H0 y u → g x y = some z →
  (∀ w H0' H', Same H0 H0' → StOk K ct HF H0' H' ρ σ → Rep K ct H0' z w → Q w H') → r v u H Q
def Op2O (K : PySem.W.Frag) (ct : Nat → Addr) (r : R2) (g : D → D → Option D) : Prop := ∀ (HF H0 H : Hp) (ρ : Env) (σ : L2.St) (x y z : D) (v u : V) (Q : VK), StOk K ct HF H0 H ρ σ → BRep K ct ρ σ H0 x v → BRep K ct ρ σ H0 y u → g x y = some z →
  (∀ p o H0' H', Same H0 H0' → StOk K ct HF H0' H' ρ σ → Fresh K ct HF H0' H' ρ σ p z o → Q (.ref p) H') → r v u H Q
def Op1 (K : PySem.W.Frag) (ct : Nat → Addr) (r : V → Hp → VK → Prop) (g : D → Option D) : Prop := ∀ (HF H0 H : Hp) (ρ : Env) (σ : L2.St) (x z : D) (v : V) (Q : VK), StOk K ct HF H0 H ρ σ → BRep K ct ρ σ H0 x v → g x = some z →
  (∀ w H0' H', Same H0 H0' → StOk K ct HF H0' H' ρ σ → Rep K ct H0' z w → Q w H') → r v H Q
def Op1O (K : PySem.W.Frag) (ct : Nat → Addr) (r : V → Hp → VK → Prop) (g : D → Option D) : Prop := ∀ (HF H0 H : Hp) (ρ : Env) (σ : L2.St) (x z : D) (v : V) (Q : VK), StOk K ct HF H0 H ρ σ → BRep K ct ρ σ H0 x v → g x = some z →
  (∀ p o H0' H', Same H0 H0' → StOk K ct HF H0' H' ρ σ → Fresh K ct HF H0' H' ρ σ p z o → Q (.ref p) H') → r v H Q
theorem bind_some {α β : Type} {o : Option α} {k : α → Option β} {z : β} (h : o.bind k = some z) : ∃ x, o = some x ∧ k x = some z := by
  cases o with
  | none => cases h
  | some x => exact ⟨x, rfl, h⟩
theorem two {K : PySem.W.Frag} {r : R2} {g : D → D → Option D} (hg : Op2 K ct r g) {σ : L2.St} {H : Hp} {Q : VK} (h : tD K ct (f2 fa fb g) σ H Q) : tOp r (tBo K ct fa) (tBo K ct fb) σ H Q := by
  obtain ⟨HF, H0, ρ, z, S, hf, q⟩ := h
  obtain ⟨x, hx, hf⟩ := bind_some hf
  obtain ⟨y, hy, hz⟩ := bind_some hf
  refine ⟨HF, H0, ρ, x, S, hx, fun v H1 H' e1 S1 r1 => ⟨HF, H1, ρ, y, S1, hy, fun u H2 H'' e2 S2 r2 => ?_⟩⟩
  exact hg HF H2 H'' ρ σ x y z v u Q S2 (r1.mono e2) r2 hz fun w H3 H3' e3 S3 r3 => q w H3 H3' ((e1.trans e2).trans e3) S3 r3
theorem twoO {K : PySem.W.Frag} {r : R2} {g : D → D → Option D} (hg : Op2O K ct r g) {σ : L2.St} {H : Hp} {Q : VK} (h : tO K ct (f2 fa fb g) σ H Q) : tOp r (tBo K ct fa) (tBo K ct fb) σ H Q := by
  obtain ⟨HF, H0, ρ, z, S, hf, q⟩ := h
  obtain ⟨x, hx, hf⟩ := bind_some hf
  obtain ⟨y, hy, hz⟩ := bind_some hf
  refine ⟨HF, H0, ρ, x, S, hx, fun v H1 H' e1 S1 r1 => ⟨HF, H1, ρ, y, S1, hy, fun u H2 H'' e2 S2 r2 => ?_⟩⟩
  exact hg HF H2 H'' ρ σ x y z v u Q S2 (r1.mono e2) r2 hz fun p o H3 H3' e3 S3 r3 => q p o H3 H3' ((e1.trans e2).trans e3) S3 r3
theorem one {K : PySem.W.Frag} {r : V → Hp → VK → Prop} {g : D → Option D} (hg : Op1 K ct r g) {σ : L2.St} {H : Hp} {Q : VK} (h : tD K ct (f1 fa g) σ H Q) : tUn r (tBo K ct fa) σ H Q := by
  obtain ⟨HF, H0, ρ, z, S, hf, q⟩ := h
  obtain ⟨x, hx, hz⟩ := bind_some hf
  refine ⟨HF, H0, ρ, x, S, hx, fun v H1 H' e1 S1 r1 => ?_⟩
  exact hg HF H1 H' ρ σ x z v Q S1 r1 hz fun w H3 H3' e3 S3 r3 => q w H3 H3' (e1.trans e3) S3 r3
theorem oneO {K : PySem.W.Frag} {r : V → Hp → VK → Prop} {g : D → Option D} (hg : Op1O K ct r g) {σ : L2.St} {H : Hp} {Q : VK} (h : tO K ct (f1 fa g) σ H Q) : tUn r (tBo K ct fa) σ H Q := by
  obtain ⟨HF, H0, ρ, z, S, hf, q⟩ := h
  obtain ⟨x, hx, hz⟩ := bind_some hf
  refine ⟨HF, H0, ρ, x, S, hx, fun v H1 H' e1 S1 r1 => ?_⟩
  exact hg HF H1 H' ρ σ x z v Q S1 r1 hz fun p o H3 H3' e3 S3 r3 => q p o H3 H3' (e1.trans e3) S3 r3
theorem e_bin {op : Operator} {r : R2} {g : D → D → Option D} (ho : OpR X (binaryOp op) r) (hg : Op2 X.K ct r g) (ha : PE X a (tBo X.K ct fa)) (hb : PE X b (tBo X.K ct fb)) : PE X (.BinOp a op b pos) (tD X.K ct (f2 fa fb g)) :=
  (pe_op ho ha hb).weak fun _ _ _ => two hg
theorem o_bin {op : Operator} {r : R2} {g : D → D → Option D} (ho : OpR X (binaryOp op) r) (hg : Op2O X.K ct r g) (ha : PE X a (tBo X.K ct fa)) (hb : PE X b (tBo X.K ct fb)) : PE X (.BinOp a op b pos) (tO X.K ct (f2 fa fb g)) :=
  (pe_op ho ha hb).weak fun _ _ _ => twoO hg
theorem e_un {op : UnaryOp} {r : V → Hp → VK → Prop} {g : D → Option D} (ho : UnR X (unaryOp op) r) (hg : Op1 X.K ct r g) (ha : PE X a (tBo X.K ct fa)) : PE X (.UnaryOp op a pos) (tD X.K ct (f1 fa g)) :=
  (pe_un ho ha).weak fun _ _ _ => one hg
theorem e_cmp {op : CmpOp} {r : R2} {g : D → D → Option D} (ho : OpR X (compareOp op) r) (hg : Op2 X.K ct r g) (ha : PE X a (tBo X.K ct fa)) (hb : PE X b (tBo X.K ct fb)) (hm : behindInMarks op b = false) :
    PE X (.Compare a [op] [b] pos) (tD X.K ct (f2 fa fb g)) := (pe_cmpR ho ha hb hm).weak fun _ _ _ => two hg
/-- a comparison's answer -/
def fT (f : Env → Option D) : Env → Option Bool := fun ρ => match f ρ with
  | some (.bl b) => some b
  | _ => none
theorem fT_some {f : Env → Option D} {ρ : Env} {b : Bool} (h : fT f ρ = some b) : f ρ = some (.bl b) := by
  unfold fT at h
  split at h
  · cases h
    assumption
  · cases h
theorem t_of {K : PySem.W.Frag} {σ : L2.St} {H : Hp} {Q : Bool → Hp → Prop} {f : Env → Option D} (h : tTe K ct (fT f) σ H Q) : tD K ct f σ H fun x H' => ∃ k, x = .bl k ∧ Q k H' := by
  obtain ⟨HF, H0, ρ, z, S, hf, q⟩ := h
  refine ⟨HF, H0, ρ, .bl z, S, fT_some hf, fun v H1 H' e1 S1 r1 => ⟨z, ?_, q H1 H' e1 S1⟩⟩
  simpa only [Rep] using r1
theorem t_cmp {op : CmpOp} {r : R2} {g : D → D → Option D} (ho : OpR X (compareOp op) r) (hg : Op2 X.K ct r g) (ha : PE X a (tBo X.K ct fa)) (hb : PE X b (tBo X.K ct fb)) (hm : behindInMarks op b = false) :
    PT X (.Compare a [op] [b] pos) (tTe X.K ct (fT (f2 fa fb g))) := (pt_cmpR ho ha hb hm).weak fun σ H Q h => two hg (t_of h)
/-- a value that is True or False, as a test -/
theorem t_val {f : Env → Option D} (h : PE X e (tD X.K ct f)) (he : ∀ whole, isTrue e X.env whole = (do let v ← whole; standAt e.pos; holding [v] (truthy v)) := by intro _; rfl) : PT X e (tTe X.K ct (fT f)) :=
  (pt_val h he).weak fun σ H Q q => t_of q
noncomputable def truD : D → Option Bool
  | .non => some false
  | .bl b => some b
  | .int i => some (i != 0)
  | .str x => gd (x.length ≤ sizeLine) ((x.length : Int) != 0)
  | .tup ds => some (!ds.isEmpty)
  | .lst ds => some (!ds.isEmpty)
  | .frl ds => some (!ds.isEmpty)
  | .obj .. => none
theorem RepL.isEmpty {K : PySem.W.Frag} {H : Hp} {ds : List D} {xs : List V} (h : RepL K ct H ds xs) : xs.isEmpty = ds.isEmpty := by
  have e := h.length
  cases ds <;> cases xs <;> first | rfl | (simp at e)
theorem tru_of {K : PySem.W.Frag} {HF H0 H : Hp} {ρ : Env} {σ : L2.St} {d : D} {v : V} {k : Bool} (S : StOk K ct HF H0 H ρ σ) (h : BRep K ct ρ σ H0 d v) (hd : truD d = some k) : TruV K v H k := by
  have hs : ∀ ds, seqD d = some ds → k = !ds.isEmpty → TruV K v H k := fun ds e hk => by
    obtain ⟨a, xs, rfl, q, r⟩ := h.seq S e
    rw [← r.isEmpty] at hk
    rcases q with q | q
    · exact .inl ⟨xs, q, hk⟩
    · exact .inr (.inl ⟨xs, q, hk⟩)
  cases d with
  | non => rw [h.non S]; cases hd; rfl
  | bl b => rw [h.bl S]; cases hd; rfl
  | int i => rw [h.int S]; cases hd; rfl
  | str x =>
    rw [h.str S]
    simp only [truD] at hd
    obtain ⟨hz, rfl⟩ := gd_some hd
    exact ⟨hz, rfl⟩
  | tup ds => cases hd; exact hs ds rfl rfl
  | lst ds => cases hd; exact hs ds rfl rfl
  | frl ds => cases hd; exact hs ds rfl rfl
  | obj c ks ds => cases hd
noncomputable def fTru (f : Env → Option D) : Env → Option Bool := fun ρ => (f ρ).bind truD
theorem t_truth (h : PE X e (tBo X.K ct fa)) (he : ∀ whole, isTrue e X.env whole = (do let v ← whole; standAt e.pos; holding [v] (truthy v)) := by intro _; rfl) : PT X e (tTe X.K ct (fTru fa)) :=
  (pt_truth h he).weak fun σ H Q => by
    rintro ⟨HF, H0, ρ, z, S, hf, q⟩
    obtain ⟨x, hx, hz⟩ := bind_some hf
    exact ⟨HF, H0, ρ, x, S, hx, fun v H1 H' e1 S1 r1 => ⟨z, tru_of S1 r1 hz, q H1 H' e1 S1⟩⟩
/-! and, or, not -/
def fAnd (f g : Env → Option Bool) : Env → Option Bool := fun ρ => (f ρ).bind fun b => if b then g ρ else some false
def fOr (f g : Env → Option Bool) : Env → Option Bool := fun ρ => (f ρ).bind fun b => if b then some true else g ρ
def fNot (f : Env → Option Bool) : Env → Option Bool := fun ρ => (f ρ).map (!·)
section
variable {rest : List Expr} {ft gt : Env → Option Bool}
theorem w_and1 (h : PT X a (tTe X.K ct ft)) : PW X (.BoolOp .And [a] pos) (tTe X.K ct ft) := pw_and1 h
theorem w_or1 (h : PT X a (tTe X.K ct ft)) : PW X (.BoolOp .Or [a] pos) (tTe X.K ct ft) := pw_or1 h
theorem w_and (ha : PT X a (tTe X.K ct ft)) (hb : PW X (.BoolOp .And (b :: rest) pos) (tTe X.K ct gt)) : PW X (.BoolOp .And (a :: b :: rest) pos) (tTe X.K ct (fAnd ft gt)) :=
  (pw_and ha hb).weak fun σ H Q => by
    rintro ⟨HF, H0, ρ, z, S, hf, q⟩
    obtain ⟨x, hx, hz⟩ := bind_some hf
    refine ⟨HF, H0, ρ, x, S, hx, fun H1 H' e1 S1 => ?_⟩
    cases x with
    | true => exact iteT ⟨HF, H1, ρ, z, S1, hz, fun H2 H'' e2 S2 => q H2 H'' (e1.trans e2) S2⟩
    | false =>
      cases hz
      exact iteF (q H1 H' e1 S1)
theorem w_or (ha : PT X a (tTe X.K ct ft)) (hb : PW X (.BoolOp .Or (b :: rest) pos) (tTe X.K ct gt)) : PW X (.BoolOp .Or (a :: b :: rest) pos) (tTe X.K ct (fOr ft gt)) :=
  (pw_or ha hb).weak fun σ H Q => by
    rintro ⟨HF, H0, ρ, z, S, hf, q⟩
    obtain ⟨x, hx, hz⟩ := bind_some hf
    refine ⟨HF, H0, ρ, x, S, hx, fun H1 H' e1 S1 => ?_⟩
    cases x with
    | true =>
      cases hz
      exact iteT (q H1 H' e1 S1)
    | false => exact iteF ⟨HF, H1, ρ, z, S1, hz, fun H2 H'' e2 S2 => q H2 H'' (e1.trans e2) S2⟩
theorem t_not (ha : PT X a (tTe X.K ct ft)) : PT X (.UnaryOp .Not a pos) (tTe X.K ct (fNot ft)) := (pt_not ha).weak fun σ H Q => by
    rintro ⟨HF, H0, ρ, z, S, hf, q⟩
    unfold fNot at hf
    cases hx : ft ρ with
    | none => rw [hx] at hf; cases hf
    | some x =>
      rw [hx] at hf
      cases hf
      exact ⟨HF, H0, ρ, x, S, hx, fun H1 H' e1 S1 => q H1 H' e1 S1⟩
end
/-- and, or, not as values: the parts but the last are True or False -/
def fAndV (f g : Env → Option D) : Env → Option D := fun ρ => (fT f ρ).bind fun b => if b then g ρ else some (.bl false)
def fOrV (f g : Env → Option D) : Env → Option D := fun ρ => (fT f ρ).bind fun b => if b then some (.bl true) else g ρ
def fNotV (f : Env → Option D) : Env → Option D := fun ρ => (fT f ρ).map fun b => .bl (!b)
theorem e_one {op : BoolOp} (h : PE X a (tD X.K ct fa)) : PE X (.BoolOp op [a] pos) (tD X.K ct fa) := pe_one h
theorem e_and {rest : List Expr} (ha : PE X a (tD X.K ct fa)) (hb : PE X (.BoolOp .And (b :: rest) pos) (tD X.K ct fb)) : PE X (.BoolOp .And (a :: b :: rest) pos) (tD X.K ct (fAndV fa fb)) :=
  (pe_and ha hb).weak fun σ H Q => by
    rintro ⟨HF, H0, ρ, z, S, hf, q⟩
    obtain ⟨x, hx, hz⟩ := bind_some hf
    refine ⟨HF, H0, ρ, .bl x, S, fT_some hx, fun v H1 H' e1 S1 r1 => ⟨x, by simpa only [Rep] using r1, ?_⟩⟩
    cases x with
    | true => exact iteT ⟨HF, H1, ρ, z, S1, hz, fun w H2 H'' e2 S2 => q w H2 H'' (e1.trans e2) S2⟩
    | false =>
      cases hz
      exact iteF (q _ H1 H' e1 S1 (by simp only [Rep]))
theorem e_or {rest : List Expr} (ha : PE X a (tD X.K ct fa)) (hb : PE X (.BoolOp .Or (b :: rest) pos) (tD X.K ct fb)) : PE X (.BoolOp .Or (a :: b :: rest) pos) (tD X.K ct (fOrV fa fb)) :=
  (pe_or ha hb).weak fun σ H Q => by
    rintro ⟨HF, H0, ρ, z, S, hf, q⟩
    obtain ⟨x, hx, hz⟩ := bind_some hf
    refine ⟨HF, H0, ρ, .bl x, S, fT_some hx, fun v H1 H' e1 S1 r1 => ⟨x, by simpa only [Rep] using r1, ?_⟩⟩
    cases x with
    | false => exact iteF ⟨HF, H1, ρ, z, S1, hz, fun w H2 H'' e2 S2 => q w H2 H'' (e1.trans e2) S2⟩
    | true =>
      cases hz
      exact iteT (q _ H1 H' e1 S1 (by simp only [Rep]))
theorem e_not (ha : PE X a (tD X.K ct fa)) : PE X (.UnaryOp .Not a pos) (tD X.K ct (fNotV fa)) := (pe_not ha).weak fun σ H Q => by
    rintro ⟨HF, H0, ρ, z, S, hf, q⟩
    unfold fNotV at hf
    cases hx : fT fa ρ with
    | none => rw [hx] at hf; cases hf
    | some x =>
      rw [hx] at hf
      cases hf
      exact ⟨HF, H0, ρ, .bl x, S, fT_some hx, fun v H1 H' e1 S1 r1 => ⟨x, by simpa only [Rep] using r1, q _ H1 H' e1 S1 (by simp only [Rep])⟩⟩
/-- a if c else b -/
def fIf (fc : Env → Option Bool) (fa fb : Env → Option D) : Env → Option D := fun ρ => (fc ρ).bind fun b => if b then fa ρ else fb ρ
theorem e_if {ft : Env → Option Bool} (hc : PT X c (tTe X.K ct ft)) (ha : PE X a (tD X.K ct fa)) (hb : PE X b (tD X.K ct fb)) : PE X (.IfExp c a b pos) (tD X.K ct (fIf ft fa fb)) :=
  (pe_ifExp hc ha hb).weak fun σ H Q => by
    rintro ⟨HF, H0, ρ, z, S, hf, q⟩
    obtain ⟨x, hx, hz⟩ := bind_some hf
    refine ⟨HF, H0, ρ, x, S, hx, fun H1 H' e1 S1 => ?_⟩
    cases x with
    | true => exact iteT ⟨HF, H1, ρ, z, S1, hz, fun w H2 H'' e2 S2 => q w H2 H'' (e1.trans e2) S2⟩
    | false => exact iteF ⟨HF, H1, ρ, z, S1, hz, fun w H2 H'' e2 S2 => q w H2 H'' (e1.trans e2) S2⟩
/-- a < b < c -/
def fChain (fa fb fc : Env → Option D) (g g' : D → D → Option D) : Env → Option D := fun ρ => (fa ρ).bind fun x => (fb ρ).bind fun y => (g x y).bind fun k => match k with
  | .bl true => (fc ρ).bind fun z => g' y z
  | .bl false => some (.bl false)
  | _ => none
theorem chain {K : PySem.W.Frag} {r r' : R2} {g g' : D → D → Option D} (hg : Op2 K ct r g) (hg' : Op2 K ct r' g') {σ : L2.St} {H : Hp} {Q : VK} (h : tD K ct (fChain fa fb fc g g') σ H Q) :
    tChain r r' (tBo K ct fa) (tBo K ct fb) (tBo K ct fc) σ H Q := by
  obtain ⟨HF, H0, ρ, z, S, hf, q⟩ := h
  obtain ⟨x, hx, hf⟩ := bind_some hf
  obtain ⟨y, hy, hf⟩ := bind_some hf
  obtain ⟨k, hk, hf⟩ := bind_some hf
  refine ⟨HF, H0, ρ, x, S, hx, fun v H1 H' e1 S1 r1 => ⟨HF, H1, ρ, y, S1, hy, fun u H2 H'' e2 S2 r2 => ?_⟩⟩
  refine hg HF H2 H'' ρ σ x y k v u _ S2 (r1.mono e2) r2 hk fun w H3 H3' e3 S3 r3 => ?_
  split at hf
  · refine ⟨true, by simpa only [Rep] using r3, iteT ?_⟩
    obtain ⟨t, ht, hz⟩ := bind_some hf
    refine ⟨HF, H3, ρ, t, S3, ht, fun w2 H4 H4' e4 S4 r4 => ?_⟩
    exact hg' HF H4 H4' ρ σ y t z u w2 Q S4 ((r2.mono e3).mono e4) r4 hz fun w5 H5 H5' e5 S5 r5 => q w5 H5 H5' ((((e1.trans e2).trans e3).trans e4).trans e5) S5 r5
  · cases hf
    exact ⟨false, by simpa only [Rep] using r3, iteF (q _ H3 H3' ((e1.trans e2).trans e3) S3 (by simp only [Rep]))⟩
  · cases hf
end
end PD

/-! Operators by values. -/
namespace PD
open PySem PySem.Spec PyProof.Rows L2

section
variable {K : PySem.W.Frag} {ct : Nat → Addr}
theorem Op2O.d {r : R2} {g : D → D → Option D} (h : Op2O K ct r g) : Op2 K ct r g := fun HF H0 H ρ σ x y z v u Q S hx hy hz q =>
  h HF H0 H ρ σ x y z v u Q S hx hy hz fun p o H0' H' e1 S1 F => by
    obtain ⟨e2, S2, r⟩ := F.give S1
    exact q _ _ _ (e1.trans e2) S2 r
theorem Op1O.d {r : V → Hp → VK → Prop} {g : D → Option D} (h : Op1O K ct r g) : Op1 K ct r g := fun HF H0 H ρ σ x z v Q S hx hz q =>
  h HF H0 H ρ σ x z v Q S hx hz fun p o H0' H' e1 S1 F => by
    obtain ⟨e2, S2, r⟩ := F.give S1
    exact q _ _ _ (e1.trans e2) S2 r
theorem Op2.or {r r' : R2} {g g' k : D → D → Option D} (h : Op2 K ct r g) (h' : Op2 K ct r' g') (hk : ∀ x y z, k x y = some z → g x y = some z ∨ g' x y = some z) : Op2 K ct (fun x y H Q => r x y H Q ∨ r' x y H Q) k := fun HF H0 H ρ σ x y z v u Q S hx hy hz q => by
  rcases hk x y z hz with e | e
  · exact .inl (h HF H0 H ρ σ x y z v u Q S hx hy e q)
  · exact .inr (h' HF H0 H ρ σ x y z v u Q S hx hy e q)

/-! ### ints -/
noncomputable def intD (C : Int → Int → Prop) (g : Int → Int → D) : D → D → Option D
  | .int i, .int j => gd (C i j) (g i j)
  | _, _ => none
theorem intD_some {C : Int → Int → Prop} {g : Int → Int → D} {x y z : D} (h : intD C g x y = some z) : ∃ i j, x = .int i ∧ y = .int j ∧ C i j ∧ z = g i j := by
  unfold intD at h
  split at h
  · obtain ⟨hc, rfl⟩ := gd_some h
    exact ⟨_, _, rfl, rfl, hc, rfl⟩
  · cases h
/-- .. without a condition -/
def intD0 (g : Int → Int → D) : D → D → Option D
  | .int i, .int j => some (g i j)
  | _, _ => none
theorem intD0_some {g : Int → Int → D} {x y z : D} (h : intD0 g x y = some z) : ∃ i j, x = .int i ∧ y = .int j ∧ True ∧ z = g i j := by
  unfold intD0 at h
  split at h
  · cases h
    exact ⟨_, _, rfl, rfl, trivial, rfl⟩
  · cases h
theorem op2_int {C : Int → Int → Prop} {g : Int → Int → V} {g' : Int → Int → D} (hg : ∀ i j H, Rep K ct H (g' i j) (g i j)) : Op2 K ct (rI C g) (intD C g') := fun HF H0 H ρ σ x y z v u Q S hx hy hz q => by
  obtain ⟨i, j, rfl, rfl, hc, rfl⟩ := intD_some hz
  exact ⟨i, j, hx.int S, hy.int S, hc, q _ _ _ (Same.refl _) S (hg i j _)⟩
theorem op2_int0 {g : Int → Int → V} {g' : Int → Int → D} (hg : ∀ i j H, Rep K ct H (g' i j) (g i j)) : Op2 K ct (rI0 g) (intD0 g') := fun HF H0 H ρ σ x y z v u Q S hx hy hz q => by
  obtain ⟨i, j, rfl, rfl, hc, rfl⟩ := intD0_some hz
  exact ⟨i, j, hx.int S, hy.int S, q _ _ _ (Same.refl _) S (hg i j _)⟩
def subD : D → D → Option D := intD0 fun i j => .int (i - j)
noncomputable def fdivD : D → D → Option D := intD CDivN fun i j => .int (i.fdiv j)
noncomputable def modD : D → D → Option D := intD (fun _ j => j ≠ 0) fun i j => .int (i.fmod j)
noncomputable def powD : D → D → Option D := intD CPow fun i j => .int (i ^ j.toNat)
def ltD : D → D → Option D := intD0 fun i j => .bl (decide (i < j))
def leD : D → D → Option D := intD0 fun i j => .bl (decide (i ≤ j))
def gtD : D → D → Option D := intD0 fun i j => .bl (decide (j < i))
def geD : D → D → Option D := intD0 fun i j => .bl (decide (j ≤ i))
theorem sub_ok : Op2 K ct (rI0 fun i j => .int (i - j)) subD := op2_int0 fun _ _ _ => by simp only [Rep]
theorem fdiv_ok : Op2 K ct (rI CDivN fun i j => .int (i.fdiv j)) fdivD := op2_int fun _ _ _ => by simp only [Rep]
theorem mod_ok : Op2 K ct (rI (fun _ j => j ≠ 0) fun i j => .int (i.fmod j)) modD := op2_int fun _ _ _ => by simp only [Rep]
theorem pow_ok : Op2 K ct (rI CPow fun i j => .int (i ^ j.toNat)) powD := op2_int fun _ _ _ => by simp only [Rep]
theorem lt_ok : Op2 K ct (rI0 fun i j => .bl (decide (i < j))) ltD := op2_int0 fun _ _ _ => by simp only [Rep]
theorem le_ok : Op2 K ct (rI0 fun i j => .bl (decide (i ≤ j))) leD := op2_int0 fun _ _ _ => by simp only [Rep]
theorem gt_ok : Op2 K ct (rI0 fun i j => .bl (decide (j < i))) gtD := op2_int0 fun _ _ _ => by simp only [Rep]
theorem ge_ok : Op2 K ct (rI0 fun i j => .bl (decide (j ≤ i))) geD := op2_int0 fun _ _ _ => by simp only [Rep]

/-! ### + -/
noncomputable def addLst : D → D → Option D
  | .lst a, .lst b => gd (a.length + b.length ≤ sizeLine) (.lst (a ++ b))
  | _, _ => none
noncomputable def addStr : D → D → Option D
  | .str a, .str b => gd (a.length + b.length ≤ sizeLine) (.str (a ++ b))
  | _, _ => none
noncomputable def addTup : D → D → Option D
  | .tup a, .tup b => gd (a.length + b.length ≤ sizeLine) (.tup (a ++ b))
  | _, _ => none
def addInt : D → D → Option D := intD0 fun i j => .int (i + j)
noncomputable def addD : D → D → Option D
  | .int i, .int j => some (.int (i + j))
  | .str a, .str b => gd (a.length + b.length ≤ sizeLine) (.str (a ++ b))
  | .tup a, .tup b => gd (a.length + b.length ≤ sizeLine) (.tup (a ++ b))
  | .lst a, .lst b => gd (a.length + b.length ≤ sizeLine) (.lst (a ++ b))
  | _, _ => none
theorem addInt_ok : Op2 K ct (rI0 fun i j => .int (i + j)) addInt := op2_int0 fun _ _ _ => by simp only [Rep]
def rAddS : R2 := fun x y H Q => ∃ i j, x = .str i ∧ y = .str j ∧ i.length + j.length ≤ sizeLine ∧ Q (.str (i ++ j)) H
theorem addStr_ok : Op2 K ct rAddS addStr := fun HF H0 H ρ σ x y z v u Q S hx hy hz q => by
  unfold addStr at hz
  split at hz
  · obtain ⟨hl, rfl⟩ := gd_some hz
    exact ⟨_, _, hx.str S, hy.str S, hl, q _ _ _ (Same.refl _) S (by simp only [Rep])⟩
  · cases hz
theorem addTup_ok : Op2 K ct (rCatA K) addTup := fun HF H0 H ρ σ x y z v u Q S hx hy hz q => by
  unfold addTup at hz
  split at hz
  · rename_i a b
    obtain ⟨hl, rfl⟩ := gd_some hz
    obtain ⟨p, xs, rfl, hp, r1⟩ := hx.tup0 S
    obtain ⟨p2, ys, rfl, hp2, r2⟩ := hy.tup0 S
    refine ⟨p, p2, xs, ys, rfl, rfl, same_sqt S.e0 hp, same_sqt S.e0 hp2, by rw [r1.length, r2.length]; exact hl, fun e => ?_, fun e e2 => ?_, fun _ _ t ht => ?_⟩
    · subst e
      have ea : a = [] := List.length_eq_zero_iff.mp (by rw [← r1.length]; rfl)
      subst ea
      exact q _ _ _ (Same.refl _) S (by simp only [Rep]; exact ⟨p2, ys, rfl, hp2, r2⟩)
    · subst e2
      have eb : b = [] := List.length_eq_zero_iff.mp (by rw [← r2.length]; rfl)
      subst eb
      rw [List.append_nil] at q
      exact q _ _ _ (Same.refl _) S (by simp only [Rep]; exact ⟨p, xs, rfl, hp, r1⟩)
    · obtain ⟨e1, S1, r⟩ := S.newTup ht (r1.append r2)
      exact q _ _ _ e1 S1 r
  · cases hz
theorem addLst_ok : Op2O K ct rCat addLst := fun HF H0 H ρ σ x y z v u Q S hx hy hz q => by
  unfold addLst at hz
  split at hz
  · obtain ⟨hl, rfl⟩ := gd_some hz
    obtain ⟨p, xs, rfl, hp, r1⟩ := hx.lst S
    obtain ⟨p2, ys, rfl, hp2, r2⟩ := hy.lst S
    refine ⟨p, p2, xs, ys, rfl, rfl, hp, hp2, by rw [r1.length, r2.length]; exact hl, fun t ht => ?_⟩
    obtain ⟨S1, F⟩ := S.fresh (d := .lst _) (o := .lst (xs ++ ys)) ht (r1.append r2)
    exact q _ _ _ _ (Same.refl _) S1 F
  · cases hz
def rAddAny (K : PySem.W.Frag) : R2 := fun x y H Q => ((rI0 fun i j => .int (i + j)) x y H Q ∨ rAddS x y H Q) ∨ (rCatA K x y H Q ∨ rCat x y H Q)
theorem add_ok : Op2 K ct (rAddAny K) addD := by
  refine Op2.or (Op2.or addInt_ok addStr_ok (k := fun x y => match x, y with | .int i, .int j => some (.int (i + j)) | .str a, .str b => addStr (.str a) (.str b) | _, _ => none) ?_) (Op2.or addTup_ok addLst_ok.d (k := fun x y => match x, y with | .tup i, .tup j => addTup (.tup i) (.tup j) | .lst a, .lst b => addLst (.lst a) (.lst b) | _, _ => none) ?_) ?_
  · intro x y z h
    split at h
    · exact .inl h
    · exact .inr h
    · cases h
  · intro x y z h
    split at h
    · exact .inl h
    · exact .inr h
    · cases h
  · intro x y z h
    unfold addD at h
    split at h
    · exact .inl h
    · exact .inl h
    · exact .inr h
    · exact .inr h
    · cases h
theorem op_addAny {X : Cx} : OpR X (binaryOp .Add) (rAddAny X.K) := (op_add.or op_add_str).or (op_catA.or op_cat)

/-! ### * -/
noncomputable def repLst : D → D → Option D
  | .lst a, .int k => gd (-(2 ^ 63) ≤ k ∧ k < 2 ^ 63 ∧ a.length * k.toNat ≤ sizeLine) (.lst (List.replicate k.toNat a).flatten)
  | _, _ => none
noncomputable def mulInt : D → D → Option D := intD CMul fun i j => .int (i * j)
noncomputable def mulD (x y : D) : Option D := match x with
  | .lst a => repLst (.lst a) y
  | _ => mulInt x y
theorem mulInt_ok : Op2 K ct (rI CMul fun i j => .int (i * j)) mulInt := op2_int fun _ _ _ => by simp only [Rep]
theorem RepL.rep {H : Hp} {ds : List D} {xs : List V} (h : RepL K ct H ds xs) : ∀ k : Nat, RepL K ct H (List.replicate k ds).flatten (List.replicate k xs).flatten
  | 0 => RepL.nil
  | k + 1 => by
    simp only [List.replicate_succ, List.flatten_cons]
    exact h.append (RepL.rep h k)
theorem repLst_ok : Op2O K ct rRep repLst := fun HF H0 H ρ σ x y z v u Q S hx hy hz q => by
  unfold repLst at hz
  split at hz
  · obtain ⟨hl, rfl⟩ := gd_some hz
    obtain ⟨p, xs, rfl, hp, r1⟩ := hx.lst S
    refine ⟨p, _, xs, rfl, hy.int S, hp, hl.1, hl.2.1, by rw [r1.length]; exact hl.2.2, fun t ht => ?_⟩
    obtain ⟨S1, F⟩ := S.fresh (d := .lst _) (o := .lst _) ht (r1.rep _)
    exact q _ _ _ _ (Same.refl _) S1 F
  · cases hz
def rMulAny : R2 := fun x y H Q => (rI CMul fun i j => .int (i * j)) x y H Q ∨ rRep x y H Q
theorem mul_ok : Op2 K ct rMulAny mulD := Op2.or mulInt_ok repLst_ok.d fun x y z h => by
  unfold mulD at h
  split at h
  · exact .inr h
  · exact .inl h
theorem op_mulAny {X : Cx} : OpR X (binaryOp .Mult) rMulAny := op_mul.or op_rep

/-! ### ==, != -/
mutual
def toPy : D → PyData
  | .non => .none
  | .bl b => .bool b
  | .int i => .int i
  | .str x => .str x
  | .tup ds => .tuple (toPyL ds)
  | .lst ds => .list (toPyL ds)
  | .frl ds => .list (toPyL ds)
  | .obj .. => .none
def toPyL : List D → List PyData
  | [] => []
  | d :: ds => toPy d :: toPyL ds
end
mutual
def plainD : D → Bool
  | .obj .. => false
  | .tup ds => plainL ds
  | .lst ds => plainL ds
  | .frl ds => plainL ds
  | _ => true
def plainL : List D → Bool
  | [] => true
  | d :: ds => plainD d && plainL ds
end
mutual
theorem dp_of {H : Hp} : ∀ {d : D} {v : V}, Rep K ct H d v → plainD d = true → Dp K H v (toPy d)
  | .non, _, h, _ => by
    simp only [Rep] at h
    subst h
    exact .non
  | .bl _, _, h, _ => by
    simp only [Rep] at h
    subst h
    exact .bl _
  | .int _, _, h, _ => by
    simp only [Rep] at h
    subst h
    exact .int _
  | .str _, _, h, _ => by
    simp only [Rep] at h
    subst h
    exact .str _
  | .tup ds, _, h, p => by
    simp only [Rep] at h
    simp only [plainD] at p
    obtain ⟨a, xs, rfl, ht, hl⟩ := h
    simp only [toPy]
    exact .tup ht (dpAll_of hl p)
  | .lst ds, _, h, p => by
    simp only [Rep] at h
    simp only [plainD] at p
    obtain ⟨a, xs, rfl, ht, hl⟩ := h
    simp only [toPy]
    exact .lst (SqL.of ht) (dpAll_of hl p)
  | .frl ds, _, h, p => by
    simp only [Rep] at h
    simp only [plainD] at p
    obtain ⟨a, xs, rfl, ht, hl⟩ := h
    simp only [toPy]
    exact .lst ht (dpAll_of hl p)
  | .obj .., _, _, p => by simp only [plainD] at p; cases p
theorem dpAll_of {H : Hp} : ∀ {ds : List D} {xs : List V}, RepL K ct H ds xs → plainL ds = true → DpAll K H xs (toPyL ds)
  | [], _, h, _ => by
    rw [h.of_nil]
    simp only [toPyL]
    exact .nil
  | d :: ds, _, h, p => by
    obtain ⟨y, ys, rfl, hd, hl⟩ := h.uncons
    simp only [plainL, Bool.and_eq_true] at p
    simp only [toPyL]
    exact .cons (dp_of hd p.1) (dpAll_of hl p.2)
end
def okD (d : D) : Bool := plainD d && SeqAt.shaped (toPy d)
def eqDeep (d e : D) : Bool := PyData.eqv (toPy d) (toPy e)
noncomputable def eqO (neg : Bool) : D → D → Option D
  | .int i, .int j => some (.bl (neg != decide (i = j)))
  | .str i, .str j => some (.bl (neg != decide (i = j)))
  | .bl i, .bl j => some (.bl (neg != decide (i = j)))
  | .non, .non => some (.bl (neg != true))
  | d, e => gd ((okD d && okD e) = true) (.bl (neg != eqDeep d e))
def rEqAny (K : PySem.W.Frag) : R2 := fun x y H Q => rEq x y H Q ∨ rEqD K x y H Q
def rNeAny (K : PySem.W.Frag) : R2 := fun x y H Q => rNe x y H Q ∨ rNeD K x y H Q
theorem deep_ok {H : Hp} {d : D} {v : V} (r : Rep K ct H d v) (h : okD d = true) : Dp K H v (toPy d) ∧ SeqAt.shaped (toPy d) = true := by
  unfold okD at h
  rw [Bool.and_eq_true] at h
  exact ⟨dp_of r h.1, h.2⟩
theorem V.dec_inj {α : Type} [DecidableEq α] {f : α → V} (hf : ∀ a b, f a = f b → a = b) (a b : α) : decide (f a = f b) = decide (a = b) := by
  by_cases h : a = b
  · rw [h, decide_eq_true rfl, decide_eq_true rfl]
  · rw [decide_eq_false h, decide_eq_false fun e => h (hf _ _ e)]
theorem eq_ok : Op2 K ct (rEqAny K) (eqO false) := fun HF H0 H ρ σ x y z v u Q S hx hy hz q => by
  unfold eqO at hz
  split at hz
  · cases hz
    rw [hx.int S, hy.int S]
    exact .inl ⟨rfl, by rw [V.dec_inj (f := V.int) fun _ _ e => V.int.inj e]; exact q _ _ _ (Same.refl _) S (by simp only [Rep, Bool.false_bne])⟩
  · cases hz
    rw [hx.str S, hy.str S]
    exact .inl ⟨rfl, by rw [V.dec_inj (f := V.str) fun _ _ e => V.str.inj e]; exact q _ _ _ (Same.refl _) S (by simp only [Rep, Bool.false_bne])⟩
  · cases hz
    rw [hx.bl S, hy.bl S]
    exact .inl ⟨rfl, by rw [V.dec_inj (f := V.bl) fun _ _ e => V.bl.inj e]; exact q _ _ _ (Same.refl _) S (by simp only [Rep, Bool.false_bne])⟩
  · cases hz
    rw [hx.non S, hy.non S]
    exact .inl ⟨rfl, q _ _ _ (Same.refl _) S (by simp only [Rep]; rfl)⟩
  · obtain ⟨hk, rfl⟩ := gd_some hz
    rw [Bool.and_eq_true] at hk
    obtain ⟨d1, s1⟩ := deep_ok (hx.full S) hk.1
    obtain ⟨d2, s2⟩ := deep_ok (hy.full S) hk.2
    exact .inr ⟨_, _, d1, d2, s1, s2, q _ _ _ (Same.refl _) S (by simp only [Rep, Bool.false_bne, eqDeep])⟩
theorem ne_ok : Op2 K ct (rNeAny K) (eqO true) := fun HF H0 H ρ σ x y z v u Q S hx hy hz q => by
  unfold eqO at hz
  split at hz
  · cases hz
    rw [hx.int S, hy.int S]
    exact .inl ⟨rfl, by rw [V.dec_inj (f := V.int) fun _ _ e => V.int.inj e]; exact q _ _ _ (Same.refl _) S (by simp only [Rep, Bool.true_bne])⟩
  · cases hz
    rw [hx.str S, hy.str S]
    exact .inl ⟨rfl, by rw [V.dec_inj (f := V.str) fun _ _ e => V.str.inj e]; exact q _ _ _ (Same.refl _) S (by simp only [Rep, Bool.true_bne])⟩
  · cases hz
    rw [hx.bl S, hy.bl S]
    exact .inl ⟨rfl, by rw [V.dec_inj (f := V.bl) fun _ _ e => V.bl.inj e]; exact q _ _ _ (Same.refl _) S (by simp only [Rep, Bool.true_bne])⟩
  · cases hz
    rw [hx.non S, hy.non S]
    exact .inl ⟨rfl, q _ _ _ (Same.refl _) S (by simp only [Rep]; rfl)⟩
  · obtain ⟨hk, rfl⟩ := gd_some hz
    rw [Bool.and_eq_true] at hk
    obtain ⟨d1, s1⟩ := deep_ok (hx.full S) hk.1
    obtain ⟨d2, s2⟩ := deep_ok (hy.full S) hk.2
    exact .inr ⟨_, _, d1, d2, s1, s2, q _ _ _ (Same.refl _) S (by simp only [Rep, Bool.true_bne, eqDeep])⟩
theorem op_eqAny {X : Cx} (hu : X.A.units + 64 < cLine) : OpR X (compareOp .Eq) (rEqAny X.K) := op_eq.or (op_eqD hu)
theorem op_neAny {X : Cx} (hu : X.A.units + 64 < cLine) : OpR X (compareOp .NotEq) (rNeAny X.K) := op_ne.or (op_neD hu)

/-! ### is None, is not None -/
def isNonD : D → Bool
  | .non => true
  | _ => false
def isN (neg : Bool) : D → D → Option D
  | x, .non => some (.bl (neg != isNonD x))
  | _, _ => none
theorem isNon {H : Hp} {d : D} {v : V} (r : Rep K ct H d v) : decide (v = .non) = isNonD d := by
  cases d with
  | non => simp only [Rep] at r; subst r; rfl
  | bl => simp only [Rep] at r; subst r; rfl
  | int => simp only [Rep] at r; subst r; rfl
  | str => simp only [Rep] at r; subst r; rfl
  | tup => simp only [Rep] at r; obtain ⟨a, xs, rfl, _⟩ := r; rfl
  | lst => simp only [Rep] at r; obtain ⟨a, xs, rfl, _⟩ := r; rfl
  | frl => simp only [Rep] at r; obtain ⟨a, xs, rfl, _⟩ := r; rfl
  | obj => simp only [Rep] at r; obtain ⟨a, dx, xs, rfl, _⟩ := r; rfl
theorem isN_ok : Op2 K ct (fun x y H Q => y = .non ∧ Q (.bl (decide (x = .non))) H) (isN false) := fun HF H0 H ρ σ x y z v u Q S hx hy hz q => by
  unfold isN at hz
  split at hz
  · cases hz
    refine ⟨hy.non S, ?_⟩
    rw [isNon (hx.full S)]
    exact q _ _ _ (Same.refl _) S (by simp only [Rep, Bool.false_bne])
  · cases hz
theorem notN_ok : Op2 K ct (fun x y H Q => y = .non ∧ Q (.bl (!decide (x = .non))) H) (isN true) := fun HF H0 H ρ σ x y z v u Q S hx hy hz q => by
  unfold isN at hz
  split at hz
  · cases hz
    refine ⟨hy.non S, ?_⟩
    rw [isNon (hx.full S)]
    exact q _ _ _ (Same.refl _) S (by simp only [Rep, Bool.true_bne])
  · cases hz

/-! ### in, not in -/
def flatD : D → Bool
  | .non => true | .bl _ => true | .int _ => true | .str _ => true | _ => false
/-- flat things in a list or a tuple; data in a list -/
noncomputable def inSq (neg : Bool) (x c : D) : Option D := match seqD c with
  | some ds => gd ((flatD x && ds.all flatD) = true) (.bl (neg != ds.any fun z => eqDeep z x))
  | none => none
noncomputable def inDeep (neg : Bool) (x : D) : D → Option D
  | .lst ds => gd ((okD x && okD (.lst ds)) = true) (.bl (neg != ds.any fun z => eqDeep z x))
  | _ => none
noncomputable def inD (neg : Bool) (x c : D) : Option D := match inSq neg x c with
  | some z => some z
  | none => inDeep neg x c
theorem flat_rep {H : Hp} {d : D} {v : V} (r : Rep K ct H d v) (f : flatD d = true) : flatV v = true := by
  cases d <;> simp only [Rep] at r <;> first | (subst r; rfl) | cases f
theorem eqV_rep {H : Hp} {d e : D} {v u : V} (r : Rep K ct H d v) (r' : Rep K ct H e u) (f : flatD d = true) (f' : flatD e = true) : eqV v u = eqDeep d e := by
  cases d <;> cases e <;> first | (exfalso; simp [flatD] at f; done) | (exfalso; simp [flatD] at f'; done) | (simp only [Rep] at r r'; subst r; subst r'; unfold eqDeep; simp only [toPy, PyData.eqv, eqV])
theorem inV_rep {H : Hp} {d : D} {v : V} (r : Rep K ct H d v) (f : flatD d = true) : ∀ {ds : List D} {xs : List V}, RepL K ct H ds xs → ds.all flatD = true → inV v xs = (ds.any fun z => eqDeep z d) ∧ xs.all flatV = true
  | [], _, h, _ => by
    rw [h.of_nil]
    exact ⟨rfl, rfl⟩
  | e :: ds, _, h, p => by
    obtain ⟨y, ys, rfl, hd, hl⟩ := h.uncons
    rw [List.all_cons, Bool.and_eq_true] at p
    obtain ⟨h1, h2⟩ := inV_rep r f hl p.2
    constructor
    · unfold inV at h1 ⊢
      rw [List.any_cons, List.any_cons, h1, eqV_rep hd r p.1 f]
    · rw [List.all_cons, flat_rep hd p.1, h2]
      rfl
theorem RepL.toPyL_any {x : D} : ∀ ds : List D, ((toPyL ds).any fun z => PyData.eqv z (toPy x)) = ds.any fun z => eqDeep z x
  | [] => rfl
  | d :: ds => by
    simp only [toPyL, List.any_cons, eqDeep]
    rw [RepL.toPyL_any ds]
    rfl
theorem inSq_ok (neg : Bool) : Op2 K ct (rIn K neg) (inSq neg) := fun HF H0 H ρ σ x y z v u Q S hx hy hz q => by
  unfold inSq at hz
  split at hz
  · rename_i ds hs
    obtain ⟨hf, rfl⟩ := gd_some hz
    rw [Bool.and_eq_true] at hf
    obtain ⟨a, xs, rfl, hq, r⟩ := hy.seq S hs
    obtain ⟨h1, h2⟩ := inV_rep (hx.full S) hf.1 (r.mono S.e0) hf.2
    refine ⟨a, xs, rfl, hq, flat_rep (hx.full S) hf.1, h2, ?_⟩
    rw [h1]
    cases neg
    · exact q _ _ _ (Same.refl _) S (by simp only [Rep, Bool.false_bne]; rfl)
    · exact q _ _ _ (Same.refl _) S (by simp only [Rep, Bool.true_bne]; rfl)
  · cases hz
theorem inDeep_ok : Op2 K ct (rInD K) (inDeep false) := fun HF H0 H ρ σ x y z v u Q S hx hy hz q => by
  unfold inDeep at hz
  split at hz
  · obtain ⟨hf, rfl⟩ := gd_some hz
    rw [Bool.and_eq_true] at hf
    obtain ⟨d1, s1⟩ := deep_ok (hx.full S) hf.1
    obtain ⟨d2, s2⟩ := deep_ok (hy.full S) hf.2
    refine ⟨_, _, d1, by simpa only [toPy] using d2, s1, by simpa only [toPy] using s2, ?_⟩
    rw [RepL.toPyL_any]
    exact q _ _ _ (Same.refl _) S (by simp only [Rep, Bool.false_bne])
  · cases hz
theorem notInDeep_ok : Op2 K ct (rNotInD K) (inDeep true) := fun HF H0 H ρ σ x y z v u Q S hx hy hz q => by
  unfold inDeep at hz
  split at hz
  · obtain ⟨hf, rfl⟩ := gd_some hz
    rw [Bool.and_eq_true] at hf
    obtain ⟨d1, s1⟩ := deep_ok (hx.full S) hf.1
    obtain ⟨d2, s2⟩ := deep_ok (hy.full S) hf.2
    refine ⟨_, _, d1, by simpa only [toPy] using d2, s1, by simpa only [toPy] using s2, ?_⟩
    rw [RepL.toPyL_any]
    exact q _ _ _ (Same.refl _) S (by simp only [Rep, Bool.true_bne])
  · cases hz
def rInAny (K : PySem.W.Frag) : R2 := fun x y H Q => rIn K false x y H Q ∨ rInD K x y H Q
def rNotInAny (K : PySem.W.Frag) : R2 := fun x y H Q => rIn K true x y H Q ∨ rNotInD K x y H Q
theorem inD_cases {neg : Bool} {x c z : D} (h : inD neg x c = some z) : inSq neg x c = some z ∨ inDeep neg x c = some z := by
  unfold inD at h
  split at h
  · cases h
    exact .inl (by assumption)
  · exact .inr h
theorem in_ok : Op2 K ct (rInAny K) (inD false) := Op2.or (inSq_ok false) inDeep_ok fun _ _ _ => inD_cases
theorem notIn_ok : Op2 K ct (rNotInAny K) (inD true) := Op2.or (inSq_ok true) notInDeep_ok fun _ _ _ => inD_cases
theorem op_inAny {X : Cx} (hu : X.A.units + 65 < cLine) : OpR X (compareOp .In) (rInAny X.K) := op_in_seq.or (op_inD hu)
theorem op_notInAny {X : Cx} (hu : X.A.units + 65 < cLine) : OpR X (compareOp .NotIn) (rNotInAny X.K) := op_notIn_seq.or (op_notInD hu)
def negD : D → Option D
  | .int i => some (.int (-i))
  | _ => none
theorem neg_ok : Op1 K ct (rU fun i => .int (-i)) negD := fun HF H0 H ρ σ x z v Q S hx hz q => by
  unfold negD at hz
  split at hz
  · cases hz
    exact ⟨_, hx.int S, q _ _ _ (Same.refl _) S (by simp only [Rep])⟩
  · cases hz
end
end PD

/-! Displays, subscripts, slices, calls of built-ins, attributes. -/
namespace PD
open PySem PySem.Spec PyProof.Rows L2

section
variable {X : Cx} {ct : Nat → Addr} {e a b c : Expr} {es : List Expr} {pos : Pos} {fa fb fc : Env → Option D}
/-! ### arguments, displays -/
def aNil : Env → Option (List D) := fun _ => some []
def aCons (fa : Env → Option D) (fr : Env → Option (List D)) : Env → Option (List D) := fun ρ => (fa ρ).bind fun x => (fr ρ).bind fun xs => some (x :: xs)
theorem a_nil : PA X [] (tAr X.K ct aNil) := pa_nil.weak fun σ H Q => by
  rintro ⟨HF, H0, ρ, ds, S, hf, q⟩
  cases hf
  exact q [] H0 H (Same.refl _) S RepL.nil
theorem a_cons {fr : Env → Option (List D)} (ha : PE X e (tD X.K ct fa)) (hr : PA X es (tAr X.K ct fr)) (hs : starEach (e :: es) X.env = (false, eval e X.env) :: starEach es X.env := by rfl) : PA X (e :: es) (tAr X.K ct (aCons fa fr)) :=
  (pa_cons ha hr hs).weak fun σ H Q => by
    rintro ⟨HF, H0, ρ, ds, S, hf, q⟩
    obtain ⟨x, hx, hf⟩ := bind_some hf
    obtain ⟨xs, hxs, hz⟩ := bind_some hf
    cases hz
    exact ⟨HF, H0, ρ, x, S, hx, fun v H1 H' e1 S1 r1 => ⟨HF, H1, ρ, xs, S1, hxs, fun vs H2 H'' e2 S2 r2 => q (v :: vs) H2 H'' (e1.trans e2) S2 (RepL.cons (r1.mono e2) r2)⟩⟩
noncomputable def fTup (f : Env → Option (List D)) : Env → Option D := fun ρ => (f ρ).bind fun ds => gd (ds.length ≤ sizeLine) (.tup ds)
noncomputable def fLst (f : Env → Option (List D)) : Env → Option D := fun ρ => (f ρ).bind fun ds => gd (ds.length ≤ sizeLine) (.lst ds)
theorem e_tup {k : Nat} {f : Env → Option (List D)} (h : PA X es (tAr X.K ct f)) : PE X (.Tuple es k pos) (tD X.K ct (fTup f)) := (pe_tup h).weak fun σ H Q => by
  rintro ⟨HF, H0, ρ, d, S, hf, q⟩
  obtain ⟨ds, hds, hf⟩ := bind_some hf
  refine ⟨HF, H0, ρ, ds, S, hds, fun vs H1 H' e1 S1 r1 => ?_⟩
  obtain ⟨hl, rfl⟩ := gd_some hf
  refine ⟨by rw [r1.length]; exact hl, fun p hp => ?_⟩
  obtain ⟨e2, S2, r2⟩ := S1.newTup hp r1
  exact q _ _ _ (e1.trans e2) S2 r2
theorem o_lst {f : Env → Option (List D)} (h : PA X es (tAr X.K ct f)) : PE X (.List es pos) (tO X.K ct (fLst f)) := (pe_lst h).weak fun σ H Q => by
  rintro ⟨HF, H0, ρ, d, S, hf, q⟩
  obtain ⟨ds, hds, hf⟩ := bind_some hf
  refine ⟨HF, H0, ρ, ds, S, hds, fun vs H1 H' e1 S1 r1 => ?_⟩
  obtain ⟨hl, rfl⟩ := gd_some hf
  refine ⟨by rw [r1.length]; exact hl, fun p hp => ?_⟩
  obtain ⟨S2, F⟩ := S1.fresh (d := .lst ds) (o := .lst vs) hp r1
  exact q _ _ _ _ e1 S2 F

/-! ### subscripts -/
noncomputable def ixD : D → D → Option D
  | .lst ds, .int i => atI ds i
  | .tup ds, .int i => atI ds i
  | .frl ds, .int i => atI ds i
  | .str z, .int i => (gd (z.length ≤ sizeLine) z).bind fun z => (atI z.cps.toList i).map fun c => .str ⟨#[c]⟩
  | _, _ => none
theorem RepL.at {K : PySem.W.Frag} {H : Hp} {ds : List D} {xs : List V} {i : Int} {d : D} (h : RepL K ct H ds xs) (e : atI ds i = some d) : ∃ v, atI xs i = some v ∧ Rep K ct H d v := by
  unfold atI at e ⊢
  rw [h.length]
  obtain ⟨j, hj, hd⟩ := bind_some e
  obtain ⟨v, hv, r⟩ := h.get hd
  exact ⟨v, by rw [hj]; exact hv, r⟩
theorem ix_ok {K : PySem.W.Frag} : Op2 K ct (rIx K) ixD := fun HF H0 H ρ σ x y z v u Q S hx hy hz q => by
  unfold ixD at hz
  split at hz
  · obtain ⟨p, xs, rfl, hp, r⟩ := hx.lst S
    obtain ⟨w, hw, rw⟩ := r.at hz
    exact .inl ⟨p, xs, _, w, rfl, hy.int S, SqL.of hp, hw, q _ _ _ (Same.refl _) S rw⟩
  · obtain ⟨p, xs, rfl, hp, r⟩ := hx.tup S
    obtain ⟨w, hw, rw⟩ := r.at hz
    exact .inr (.inl ⟨p, xs, _, w, rfl, hy.int S, hp, hw, q _ _ _ (Same.refl _) S rw⟩)
  · obtain ⟨p, xs, rfl, hp, r⟩ := hx.frl S
    obtain ⟨w, hw, rw⟩ := r.at hz
    exact .inl ⟨p, xs, _, w, rfl, hy.int S, hp, hw, q _ _ _ (Same.refl _) S rw⟩
  · obtain ⟨w, hw, hz⟩ := bind_some hz
    obtain ⟨hl, rfl⟩ := gd_some hw
    cases hc : atI _ _ with
    | none => rw [hc] at hz; cases hz
    | some c =>
      rw [hc] at hz
      cases hz
      exact .inr (.inr ⟨_, _, c, hx.str S, hy.int S, hl, hc, q _ _ _ (Same.refl _) S (by simp only [Rep])⟩)
  · cases hz
theorem e_ix (ha : PE X a (tBo X.K ct fa)) (hb : PE X b (tBo X.K ct fb)) (hs : PlainIx b := by exact fun _ _ => rfl) : PE X (.Subscript a b pos) (tD X.K ct (f2 fa fb ixD)) := (pe_ix ix_seq ha hb hs).weak fun _ _ _ => two ix_ok

/-! ### slices -/
def tPo (K : PySem.W.Frag) (ct : Nat → Addr) (f : Env → Option (Option Int)) : TO := fun σ H Q => ∃ HF H0 ρ o, StOk K ct HF H0 H ρ σ ∧ f ρ = some o ∧ ∀ H0' H', Same H0 H0' → StOk K ct HF H0' H' ρ σ → Q o H'
theorem _root_.L2.PO.weak {e : Option Expr} {t t' : TO} (h : PO X e t) (w : ∀ σ H Q, t' σ H Q → t σ H Q) : PO X e t' := ⟨fun pins s σ H Q I q => h.run pins s σ H Q I (w _ _ _ q)⟩
def pNone : Env → Option (Option Int) := fun _ => some none
def pSome (f : Env → Option D) : Env → Option (Option Int) := fun ρ => match f ρ with
  | some (.int i) => some (some i)
  | _ => none
theorem p_none : PO X none (tPo X.K ct pNone) := po_none.weak fun σ H Q => by
  rintro ⟨HF, H0, ρ, o, S, hf, q⟩
  cases hf
  exact q H0 H (Same.refl _) S
theorem p_some (h : PE X e (tBo X.K ct fa)) : PO X (some e) (tPo X.K ct (pSome fa)) := (po_some h).weak fun σ H Q => by
  rintro ⟨HF, H0, ρ, o, S, hf, q⟩
  unfold pSome at hf
  split at hf
  · rename_i i hi
    cases hf
    exact ⟨HF, H0, ρ, _, S, hi, fun v H1 H' e1 S1 r1 => ⟨i, r1.int S1, q H1 H' e1 S1⟩⟩
  · cases hf
def cutL {α : Type} (xs : List α) (lo hi : Option Int) : List α := (xs.drop (HT.sIx xs.length 0 lo)).take (HT.sIx xs.length xs.length hi - HT.sIx xs.length 0 lo)
theorem RepL.cut {K : PySem.W.Frag} {H : Hp} {ds : List D} {xs : List V} (h : RepL K ct H ds xs) (lo hi : Option Int) : RepL K ct H (cutL ds lo hi) (cutV xs lo hi) := by
  unfold cutL cutV
  rw [h.length]
  exact (h.drop _).take _
def fSl (fa : Env → Option D) (fl fh : Env → Option (Option Int)) (g : D → Option Int → Option Int → Option D) : Env → Option D := fun ρ => (fa ρ).bind fun x => (fl ρ).bind fun l => (fh ρ).bind fun h => g x l h
/-- a slice: of a tuple or a text -/
noncomputable def slD : D → Option Int → Option Int → Option D
  | .tup ds, l, h => some (.tup (cutL ds l h))
  | .str z, l, h => gd (z.length ≤ sizeLine) (.str (cutS z l h))
  | .lst ds, l, h => some (.lst (cutL ds l h))
  | .frl ds, l, h => some (.lst (cutL ds l h))
  | _, _, _ => none
def slL : D → Option Int → Option Int → Option D
  | .lst ds, l, h => some (.lst (cutL ds l h))
  | .frl ds, l, h => some (.lst (cutL ds l h))
  | _, _, _ => none
theorem sl_run {K : PySem.W.Frag} {r : V → Option Int → Option Int → Hp → VK → Prop} {g : D → Option Int → Option Int → Option D} {fl fh : Env → Option (Option Int)}
    (hg : ∀ (HF H0 H : Hp) (ρ : Env) (σ : L2.St) (x z : D) (v : V) (lo hi : Option Int) (Q : VK), StOk K ct HF H0 H ρ σ → BRep K ct ρ σ H0 x v → g x lo hi = some z →
      (∀ w H0' H', Same H0 H0' → StOk K ct HF H0' H' ρ σ → Rep K ct H0' z w → Q w H') → r v lo hi H Q) {σ : L2.St} {H : Hp} {Q : VK} (h : tD K ct (fSl fa fl fh g) σ H Q) : tSl r (tBo K ct fa) (tPo K ct fl) (tPo K ct fh) σ H Q := by
  obtain ⟨HF, H0, ρ, z, S, hf, q⟩ := h
  obtain ⟨x, hx, hf⟩ := bind_some hf
  obtain ⟨l, hl, hf⟩ := bind_some hf
  obtain ⟨u, hu, hz⟩ := bind_some hf
  refine ⟨HF, H0, ρ, x, S, hx, fun v H1 H' e1 S1 r1 => ⟨HF, H1, ρ, l, S1, hl, fun H2 H'' e2 S2 => ⟨HF, H2, ρ, u, S2, hu, fun H3 H3' e3 S3 => ?_⟩⟩⟩
  exact hg HF H3 H3' ρ σ x z v l u Q S3 ((r1.mono e2).mono e3) hz fun w H4 H4' e4 S4 r4 => q w H4 H4' (((e1.trans e2).trans e3).trans e4) S4 r4
theorem sl_runO {K : PySem.W.Frag} {r : V → Option Int → Option Int → Hp → VK → Prop} {g : D → Option Int → Option Int → Option D} {fl fh : Env → Option (Option Int)}
    (hg : ∀ (HF H0 H : Hp) (ρ : Env) (σ : L2.St) (x z : D) (v : V) (lo hi : Option Int) (Q : VK), StOk K ct HF H0 H ρ σ → BRep K ct ρ σ H0 x v → g x lo hi = some z →
      (∀ p o H0' H', Same H0 H0' → StOk K ct HF H0' H' ρ σ → Fresh K ct HF H0' H' ρ σ p z o → Q (.ref p) H') → r v lo hi H Q) {σ : L2.St} {H : Hp} {Q : VK} (h : tO K ct (fSl fa fl fh g) σ H Q) : tSl r (tBo K ct fa) (tPo K ct fl) (tPo K ct fh) σ H Q := by
  obtain ⟨HF, H0, ρ, z, S, hf, q⟩ := h
  obtain ⟨x, hx, hf⟩ := bind_some hf
  obtain ⟨l, hl, hf⟩ := bind_some hf
  obtain ⟨u, hu, hz⟩ := bind_some hf
  refine ⟨HF, H0, ρ, x, S, hx, fun v H1 H' e1 S1 r1 => ⟨HF, H1, ρ, l, S1, hl, fun H2 H'' e2 S2 => ⟨HF, H2, ρ, u, S2, hu, fun H3 H3' e3 S3 => ?_⟩⟩⟩
  exact hg HF H3 H3' ρ σ x z v l u Q S3 ((r1.mono e2).mono e3) hz fun w o H4 H4' e4 S4 r4 => q w o H4 H4' (((e1.trans e2).trans e3).trans e4) S4 r4
theorem slL_ok {K : PySem.W.Frag} (HF H0 H : Hp) (ρ : Env) (σ : L2.St) (x z : D) (v : V) (lo hi : Option Int) (Q : VK) (S : StOk K ct HF H0 H ρ σ) (hx : BRep K ct ρ σ H0 x v) (hz : slL x lo hi = some z)
    (q : ∀ p o H0' H', Same H0 H0' → StOk K ct HF H0' H' ρ σ → Fresh K ct HF H0' H' ρ σ p z o → Q (.ref p) H') : rSlL K v lo hi H Q := by
  have hs : ∃ ds, seqD x = some ds ∧ z = .lst (cutL ds lo hi) ∧ ∃ a xs, v = .ref a ∧ SqL K H a xs ∧ RepL K ct H0 ds xs := by
    unfold slL at hz
    split at hz
    · cases hz
      obtain ⟨p, xs, h1, h2, h3⟩ := hx.lst S
      exact ⟨_, rfl, rfl, p, xs, h1, SqL.of h2, h3⟩
    · cases hz
      obtain ⟨p, xs, h1, h2, h3⟩ := hx.frl S
      exact ⟨_, rfl, rfl, p, xs, h1, h2, h3⟩
    · cases hz
  obtain ⟨ds, _, rfl, a, xs, rfl, h2, h3⟩ := hs
  refine ⟨a, xs, rfl, h2, fun p hp => ?_⟩
  obtain ⟨S2, F⟩ := S.fresh (d := .lst _) (o := .lst _) hp (h3.cut lo hi)
  exact q _ _ _ _ (Same.refl _) S2 F
theorem o_slice {p2 : Pos} {lo hi : Option Expr} {fl fh : Env → Option (Option Int)} (he : PE X e (tBo X.K ct fa)) (hl : PO X lo (tPo X.K ct fl)) (hh : PO X hi (tPo X.K ct fh)) :
    PE X (.Subscript e (.Slice lo hi none p2) pos) (tO X.K ct (fSl fa fl fh slL)) := (pe_slice sl_list he hl hh).weak fun _ _ _ => sl_runO slL_ok
def rSlAny (K : PySem.W.Frag) : V → Option Int → Option Int → Hp → VK → Prop := fun x lo hi H Q => rSlL K x lo hi H Q ∨ (rSlA K x lo hi H Q ∨ rSlS x lo hi H Q)
theorem slD_ok {K : PySem.W.Frag} (HF H0 H : Hp) (ρ : Env) (σ : L2.St) (x z : D) (v : V) (lo hi : Option Int) (Q : VK) (S : StOk K ct HF H0 H ρ σ) (hx : BRep K ct ρ σ H0 x v) (hz : slD x lo hi = some z)
    (q : ∀ w H0' H', Same H0 H0' → StOk K ct HF H0' H' ρ σ → Rep K ct H0' z w → Q w H') : rSlAny K v lo hi H Q := by
  have viaL : slL x lo hi = some z → rSlAny K v lo hi H Q := fun h => .inl (slL_ok HF H0 H ρ σ x z v lo hi Q S hx h fun p o H0' H' e1 S1 F => by
    obtain ⟨e2, S2, r⟩ := F.give S1
    exact q _ _ _ (e1.trans e2) S2 r)
  cases x with
  | tup ds =>
    simp only [slD] at hz
    cases hz
    obtain ⟨p, xs, rfl, hp, r⟩ := hx.tup0 S
    refine .inr (.inl ⟨p, xs, rfl, same_sqt S.e0 hp, fun hw => ?_, fun hw t ht => ?_⟩)
    · have ec : cutL ds lo hi = ds := by
        unfold cutL
        rw [← r.length, hw.1, hw.2, List.drop_zero, r.length, Nat.sub_zero, List.take_length]
      rw [ec] at q
      exact q _ _ _ (Same.refl _) S (by simp only [Rep]; exact ⟨p, xs, rfl, hp, r⟩)
    · obtain ⟨e2, S2, r2⟩ := S.newTup ht (r.cut lo hi)
      exact q _ _ _ e2 S2 r2
  | str y =>
    simp only [slD] at hz
    obtain ⟨hl, rfl⟩ := gd_some hz
    exact .inr (.inr ⟨_, hx.str S, hl, q _ _ _ (Same.refl _) S (by simp only [Rep])⟩)
  | lst ds => exact viaL hz
  | frl ds => exact viaL hz
  | _ => cases hz
theorem e_slice {p2 : Pos} {lo hi : Option Expr} {fl fh : Env → Option (Option Int)} (he : PE X e (tBo X.K ct fa)) (hl : PO X lo (tPo X.K ct fl)) (hh : PO X hi (tPo X.K ct fh)) :
    PE X (.Subscript e (.Slice lo hi none p2) pos) (tD X.K ct (fSl fa fl fh slD)) := (pe_slice (sl_list.or (sl_tupA.or sl_str)) he hl hh).weak fun _ _ _ => sl_run slD_ok
/-- xs[::-1] -/
def revD : D → Option D
  | .lst ds => some (.lst ds.reverse)
  | .frl ds => some (.lst ds.reverse)
  | _ => none
theorem o_rev {k : Nat} {p1 p2 p3 : Pos} (he : PE X e (tBo X.K ct fa)) : PE X (.Subscript e (.Slice none none (some (.UnaryOp .USub (.Constant (.int 1) k p1) p2)) p3) pos) (tO X.K ct (f1 fa revD)) := (pe_revL he).weak fun σ H Q => by
  rintro ⟨HF, H0, ρ, z, S, hf, q⟩
  obtain ⟨x, hx, hz⟩ := bind_some hf
  refine ⟨HF, H0, ρ, x, S, hx, fun v H1 H' e1 S1 r1 => ?_⟩
  have hs : ∃ ds, z = .lst ds.reverse ∧ ∃ a xs, v = .ref a ∧ SqL X.K H' a xs ∧ RepL X.K ct H1 ds xs := by
    unfold revD at hz
    split at hz
    · cases hz
      obtain ⟨p, xs, h1, h2, h3⟩ := r1.lst S1
      exact ⟨_, rfl, p, xs, h1, SqL.of h2, h3⟩
    · cases hz
      obtain ⟨p, xs, h1, h2, h3⟩ := r1.frl S1
      exact ⟨_, rfl, p, xs, h1, h2, h3⟩
    · cases hz
  obtain ⟨ds, rfl, a, xs, rfl, h2, h3⟩ := hs
  refine ⟨a, xs, rfl, h2, fun p hp => ?_⟩
  obtain ⟨S2, F⟩ := S1.fresh (d := .lst _) (o := .lst _) hp h3.reverse
  exact q _ _ _ _ e1 S2 F

/-! ### built-ins of one argument, of two -/
def Fn1 (K : PySem.W.Frag) (ct : Nat → Addr) (r : List V → Hp → VK → Prop) (g : D → Option D) : Prop := Op1 K ct (fun x H Q => r [x] H Q) g
def Fn1O (K : PySem.W.Frag) (ct : Nat → Addr) (r : List V → Hp → VK → Prop) (g : D → Option D) : Prop := Op1O K ct (fun x H Q => r [x] H Q) g
def Fn2 (K : PySem.W.Frag) (ct : Nat → Addr) (r : List V → Hp → VK → Prop) (g : D → D → Option D) : Prop := Op2 K ct (fun x y H Q => r [x, y] H Q) g
section
variable {x : Str} {p : Pos} {id T : String} {r : List V → Hp → VK → Prop} {g : D → Option D} {g2 : D → D → Option D}
theorem e_fn1 (hc : CallR X (.builtin id) r) (hg : Fn1 X.K ct r g) (hgl : Gl X x) (hm : X.mg x = none) (hv : bootBuiltins x = some (.builtin id)) (ha : PE X a (tBo X.K ct fa)) (hs : starEach [a] X.env = (false, eval a X.env) :: starEach [] X.env := by rfl) (hn : x ≠ "__name__" := by decide +kernel)
    (hdb : (x == ("__debug__" : Str)) = false := by decide +kernel) : PE X (.Call (.Name x p) [a] [] pos) (tD X.K ct (f1 fa g)) := (pe_callB hc hgl hm hv (pa_cons ha pa_nil hs) hn hdb hs (by rfl)).weak fun _ _ _ => one hg
theorem o_fn1 (hc : CallR X (.builtin id) r) (hg : Fn1O X.K ct r g) (hgl : Gl X x) (hm : X.mg x = none) (hv : bootBuiltins x = some (.builtin id)) (ha : PE X a (tBo X.K ct fa)) (hs : starEach [a] X.env = (false, eval a X.env) :: starEach [] X.env := by rfl) (hn : x ≠ "__name__" := by decide +kernel)
    (hdb : (x == ("__debug__" : Str)) = false := by decide +kernel) : PE X (.Call (.Name x p) [a] [] pos) (tO X.K ct (f1 fa g)) := (pe_callB hc hgl hm hv (pa_cons ha pa_nil hs) hn hdb hs (by rfl)).weak fun _ _ _ => oneO hg
theorem e_ty1 (hc : CallR X (.type T) r) (hg : Fn1 X.K ct r g) (hgl : Gl X x) (hm : X.mg x = none) (hv : bootBuiltins x = some (.type T)) (ha : PE X a (tBo X.K ct fa)) (hs : starEach [a] X.env = (false, eval a X.env) :: starEach [] X.env := by rfl) (hn : x ≠ "__name__" := by decide +kernel)
    (hdb : (x == ("__debug__" : Str)) = false := by decide +kernel) : PE X (.Call (.Name x p) [a] [] pos) (tD X.K ct (f1 fa g)) := (pe_callTy hc hgl hm hv (pa_cons ha pa_nil hs) hn hdb hs (by rfl)).weak fun _ _ _ => one hg
theorem o_ty1 (hc : CallR X (.type T) r) (hg : Fn1O X.K ct r g) (hgl : Gl X x) (hm : X.mg x = none) (hv : bootBuiltins x = some (.type T)) (ha : PE X a (tBo X.K ct fa)) (hs : starEach [a] X.env = (false, eval a X.env) :: starEach [] X.env := by rfl) (hn : x ≠ "__name__" := by decide +kernel)
    (hdb : (x == ("__debug__" : Str)) = false := by decide +kernel) : PE X (.Call (.Name x p) [a] [] pos) (tO X.K ct (f1 fa g)) := (pe_callTy hc hgl hm hv (pa_cons ha pa_nil hs) hn hdb hs (by rfl)).weak fun _ _ _ => oneO hg
theorem e_fn2 (hc : CallR X (.builtin id) r) (hg : Fn2 X.K ct r g2) (hgl : Gl X x) (hm : X.mg x = none) (hv : bootBuiltins x = some (.builtin id)) (ha : PE X a (tBo X.K ct fa)) (hb : PE X b (tBo X.K ct fb)) (hs : starEach [a, b] X.env = (false, eval a X.env) :: starEach [b] X.env := by rfl)
    (hs2 : starEach [b] X.env = (false, eval b X.env) :: starEach [] X.env := by rfl) (hpl : (backTo pos (starEach [b] X.env)).any (·.1) = false := by rfl) (hn : x ≠ "__name__" := by decide +kernel) (hdb : (x == ("__debug__" : Str)) = false := by decide +kernel) :
    PE X (.Call (.Name x p) [a, b] [] pos) (tD X.K ct (f2 fa fb g2)) := (pe_callB hc hgl hm hv (pa_cons ha (pa_cons hb pa_nil hs2) hs) hn hdb hs hpl).weak fun _ _ _ => two hg
end
section
variable {K : PySem.W.Frag}
noncomputable def lenD : D → Option D
  | .lst ds => some (.int (ds.length : Nat))
  | .frl ds => some (.int (ds.length : Nat))
  | .tup ds => some (.int (ds.length : Nat))
  | .str z => gd (z.length ≤ sizeLine) (.int (z.length : Nat))
  | _ => none
theorem len_ok : Fn1 K ct (fun xs H Q => ∃ x n, xs = [x] ∧ LenV K x H n ∧ Q (.int (n : Nat)) H) lenD := fun HF H0 H ρ σ x z v Q S hx hz q => by
  have hs : ∀ ds, seqD x = some ds → z = .int (ds.length : Nat) → ∃ x n, [v] = [x] ∧ LenV K x H n ∧ Q (.int (n : Nat)) H := fun ds e hk => by
    obtain ⟨a, xs, rfl, h, r⟩ := hx.seq S e
    refine ⟨.ref a, xs.length, rfl, ?_, ?_⟩
    · rcases h with h | h
      · exact .inl ⟨xs, h, rfl⟩
      · exact .inr ⟨xs, h, rfl⟩
    · rw [r.length]
      subst hk
      exact q _ _ _ (Same.refl _) S (by simp only [Rep])
  unfold lenD at hz
  split at hz
  · cases hz; exact hs _ rfl rfl
  · cases hz; exact hs _ rfl rfl
  · cases hz; exact hs _ rfl rfl
  · obtain ⟨hl, rfl⟩ := gd_some hz
    rw [hx.str S]
    exact ⟨_, _, rfl, ⟨hl, rfl⟩, q _ _ _ (Same.refl _) S (by simp only [Rep])⟩
  · cases hz
def listD (x : D) : Option D := (seqD x).map .lst
theorem list_ok : Fn1O K ct (fun xs H Q => ∃ p ys, xs = [.ref p] ∧ (SqL K H p ys ∨ SqT K H p ys) ∧ ∀ l, H l = none → Q (.ref l) (upd H l (.lst ys))) listD := fun HF H0 H ρ σ x z v Q S hx hz q => by
  unfold listD at hz
  cases hs : seqD x with
  | none => rw [hs] at hz; cases hz
  | some ds =>
    rw [hs] at hz
    cases hz
    obtain ⟨a, xs, rfl, h, r⟩ := hx.seq S hs
    refine ⟨a, xs, rfl, h, fun l hl => ?_⟩
    obtain ⟨S2, F⟩ := S.fresh (d := .lst ds) (o := .lst xs) hl r
    exact q _ _ _ _ (Same.refl _) S2 F
def tupleD (x : D) : Option D := (seqD x).map .tup
theorem tuple_ok : Fn1 K ct (fun xs H Q => ∃ p ys, xs = [.ref p] ∧ ((SqL K H p ys ∧ ∀ l, H l = none → Q (.ref l) (upd H l (.tup ys))) ∨ (SqT K H p ys ∧ Q (.ref p) H))) tupleD := fun HF H0 H ρ σ x z v Q S hx hz q => by
  unfold tupleD at hz
  have viaL : ∀ ds a xs, v = .ref a → SqL K H a xs → RepL K ct H0 ds xs → z = .tup ds → ∃ p ys, [v] = [V.ref p] ∧ ((SqL K H p ys ∧ ∀ l, H l = none → Q (.ref l) (upd H l (.tup ys))) ∨ (SqT K H p ys ∧ Q (.ref p) H)) := fun ds a xs e1 h r e2 => by
    subst e1 e2
    refine ⟨a, xs, rfl, .inl ⟨h, fun l hl => ?_⟩⟩
    obtain ⟨e2, S2, r2⟩ := S.newTup hl r
    exact q _ _ _ e2 S2 r2
  cases x with
  | lst ds =>
    cases hz
    obtain ⟨a, xs, h1, h2, h3⟩ := hx.lst S
    exact viaL ds a xs h1 (SqL.of h2) h3 rfl
  | frl ds =>
    cases hz
    obtain ⟨a, xs, h1, h2, h3⟩ := hx.frl S
    exact viaL ds a xs h1 h2 h3 rfl
  | tup ds =>
    cases hz
    obtain ⟨a, xs, rfl, h2, h3⟩ := hx.tup0 S
    exact ⟨a, xs, rfl, .inr ⟨same_sqt S.e0 h2, q _ _ _ (Same.refl _) S (by simp only [Rep]; exact ⟨a, xs, rfl, h2, h3⟩)⟩⟩
  | _ => cases hz
def toIntD : D → Option D
  | .int i => some (.int i)
  | .bl b => some (.int (if b then 1 else 0))
  | _ => none
theorem toInt_ok : Fn1 K ct (fun xs H Q => (∃ i, xs = [.int i] ∧ Q (.int i) H) ∨ ∃ k, xs = [.bl k] ∧ Q (.int (if k then 1 else 0)) H) toIntD := fun HF H0 H ρ σ x z v Q S hx hz q => by
  unfold toIntD at hz
  split at hz
  · cases hz
    exact .inl ⟨_, by rw [hx.int S], q _ _ _ (Same.refl _) S (by simp only [Rep])⟩
  · cases hz
    exact .inr ⟨_, by rw [hx.bl S], q _ _ _ (Same.refl _) S (by simp only [Rep])⟩
  · cases hz
noncomputable def toStrD : D → Option D
  | .int i => gd (i.natAbs.log2 < 1920) (.str (toString i))
  | _ => none
theorem toStr_ok : Fn1 K ct (fun xs H Q => ∃ i, xs = [.int i] ∧ i.natAbs.log2 < 1920 ∧ Q (.str (toString i)) H) toStrD := fun HF H0 H ρ σ x z v Q S hx hz q => by
  unfold toStrD at hz
  split at hz
  · obtain ⟨hl, rfl⟩ := gd_some hz
    exact ⟨_, by rw [hx.int S], hl, q _ _ _ (Same.refl _) S (by simp only [Rep])⟩
  · cases hz
def max2D : D → D → Option D := intD0 fun i j => .int (if j > i then j else i)
def min2D : D → D → Option D := intD0 fun i j => .int (if j < i then j else i)
theorem max2_ok : Fn2 K ct (fun xs H Q => ∃ i j, xs = [.int i, .int j] ∧ Q (.int (if j > i then j else i)) H) max2D := fun HF H0 H ρ σ x y z v u Q S hx hy hz q => by
  obtain ⟨i, j, rfl, rfl, hc, rfl⟩ := intD0_some hz
  exact ⟨i, j, by rw [hx.int S, hy.int S], q _ _ _ (Same.refl _) S (by simp only [Rep])⟩
theorem min2_ok : Fn2 K ct (fun xs H Q => ∃ i j, xs = [.int i, .int j] ∧ Q (.int (if j < i then j else i)) H) min2D := fun HF H0 H ρ σ x y z v u Q S hx hy hz q => by
  obtain ⟨i, j, rfl, rfl, hc, rfl⟩ := intD0_some hz
  exact ⟨i, j, by rw [hx.int S, hy.int S], q _ _ _ (Same.refl _) S (by simp only [Rep])⟩
/-- the ints | the texts of a list -/
def intsOf : List D → Option (List Int)
  | [] => some []
  | .int i :: ds => (intsOf ds).map (i :: ·)
  | _ :: _ => none
def strsOf : List D → Option (List Str)
  | [] => some []
  | .str i :: ds => (strsOf ds).map (i :: ·)
  | _ :: _ => none
theorem intsOf_some : ∀ {ds : List D} {ns : List Int}, intsOf ds = some ns → ds = ns.map D.int
  | [], _, h => by cases h; rfl
  | d :: ds, ns, h => by
    cases d with
    | int i =>
      simp only [intsOf] at h
      cases e : intsOf ds with
      | none => rw [e] at h; cases h
      | some ms =>
        rw [e] at h
        cases h
        rw [intsOf_some e]
        rfl
    | _ => simp only [intsOf] at h; cases h
theorem strsOf_some : ∀ {ds : List D} {ns : List Str}, strsOf ds = some ns → ds = ns.map D.str
  | [], _, h => by cases h; rfl
  | d :: ds, ns, h => by
    cases d with
    | str i =>
      simp only [strsOf] at h
      cases e : strsOf ds with
      | none => rw [e] at h; cases h
      | some ms =>
        rw [e] at h
        cases h
        rw [strsOf_some e]
        rfl
    | _ => simp only [strsOf] at h; cases h
theorem intsOf_map : ∀ ns : List Int, intsOf (ns.map D.int) = some ns
  | [] => rfl
  | n :: ns => by simp only [List.map_cons, intsOf, intsOf_map ns, Option.map_some]
theorem strsOf_map : ∀ ns : List Str, strsOf (ns.map D.str) = some ns
  | [] => rfl
  | n :: ns => by simp only [List.map_cons, strsOf, strsOf_map ns, Option.map_some]
/-- max, min of a list of ints -/
def maxL : List Int → Option Int
  | [] => none
  | n :: ns => some (ns.foldl (fun a b => if a < b then b else a) n)
def minL : List Int → Option Int
  | [] => none
  | n :: ns => some (ns.foldl (fun a b => if b < a then b else a) n)
theorem foldl_max : ∀ (ns : List Int) (a : Int), (ns.foldl (fun a b => if a < b then b else a) a = a ∨ ns.foldl (fun a b => if a < b then b else a) a ∈ ns) ∧ a ≤ ns.foldl (fun a b => if a < b then b else a) a ∧ ∀ y ∈ ns, y ≤ ns.foldl (fun a b => if a < b then b else a) a
  | [], a => ⟨.inl rfl, Int.le_refl _, fun y h => by cases h⟩
  | n :: ns, a => by
    simp only [List.foldl_cons]
    obtain ⟨h1, h2, h3⟩ := foldl_max ns (if a < n then n else a)
    have ha : a ≤ (if a < n then n else a) ∧ n ≤ (if a < n then n else a) := by split <;> omega
    refine ⟨?_, Int.le_trans ha.1 h2, fun y hy => ?_⟩
    · rcases h1 with h1 | h1
      · rw [h1]
        split
        · exact .inr List.mem_cons_self
        · exact .inl rfl
      · exact .inr (List.mem_cons_of_mem _ h1)
    · rcases List.mem_cons.mp hy with e | hy
      · rw [e]
        exact Int.le_trans ha.2 h2
      · exact h3 y hy
theorem foldl_min : ∀ (ns : List Int) (a : Int), (ns.foldl (fun a b => if b < a then b else a) a = a ∨ ns.foldl (fun a b => if b < a then b else a) a ∈ ns) ∧ ns.foldl (fun a b => if b < a then b else a) a ≤ a ∧ ∀ y ∈ ns, ns.foldl (fun a b => if b < a then b else a) a ≤ y
  | [], a => ⟨.inl rfl, Int.le_refl _, fun y h => by cases h⟩
  | n :: ns, a => by
    simp only [List.foldl_cons]
    obtain ⟨h1, h2, h3⟩ := foldl_min ns (if n < a then n else a)
    have ha : (if n < a then n else a) ≤ a ∧ (if n < a then n else a) ≤ n := by split <;> omega
    refine ⟨?_, Int.le_trans h2 ha.1, fun y hy => ?_⟩
    · rcases h1 with h1 | h1
      · rw [h1]
        split
        · exact .inr List.mem_cons_self
        · exact .inl rfl
      · exact .inr (List.mem_cons_of_mem _ h1)
    · rcases List.mem_cons.mp hy with e | hy
      · rw [e]
        exact Int.le_trans h2 ha.2
      · exact h3 y hy
theorem max_eq {ns : List Int} {m k : Int} (h : maxL ns = some m) (hk : k ∈ ns) (hy : ∀ y ∈ ns, y ≤ k) : k = m := by
  cases ns with
  | nil => cases h
  | cons n ns =>
    cases h
    obtain ⟨h1, h2, h3⟩ := foldl_max ns n
    have a : ns.foldl (fun a b => if a < b then b else a) n ≤ k := by
      rcases h1 with h1 | h1
      · rw [h1]; exact hy _ List.mem_cons_self
      · exact hy _ (List.mem_cons_of_mem _ h1)
    have b : k ≤ ns.foldl (fun a b => if a < b then b else a) n := by
      rcases List.mem_cons.mp hk with e | e
      · rw [e]; exact h2
      · exact h3 _ e
    omega
theorem min_eq {ns : List Int} {m k : Int} (h : minL ns = some m) (hk : k ∈ ns) (hy : ∀ y ∈ ns, k ≤ y) : k = m := by
  cases ns with
  | nil => cases h
  | cons n ns =>
    cases h
    obtain ⟨h1, h2, h3⟩ := foldl_min ns n
    have a : k ≤ ns.foldl (fun a b => if b < a then b else a) n := by
      rcases h1 with h1 | h1
      · rw [h1]; exact hy _ List.mem_cons_self
      · exact hy _ (List.mem_cons_of_mem _ h1)
    have b : ns.foldl (fun a b => if b < a then b else a) n ≤ k := by
      rcases List.mem_cons.mp hk with e | e
      · rw [e]; exact h2
      · exact h3 _ e
    omega
def lstOf : D → Option (List D)
  | .lst ds => some ds
  | .frl ds => some ds
  | _ => none
theorem BRep.lstOf {HF H0 H : Hp} {ρ : Env} {σ : L2.St} {d : D} {v : V} {ds : List D} (S : StOk K ct HF H0 H ρ σ) (h : BRep K ct ρ σ H0 d v) (hd : lstOf d = some ds) : ∃ a xs, v = .ref a ∧ SqL K H a xs ∧ RepL K ct H0 ds xs := by
  cases d with
  | lst es =>
    cases hd
    obtain ⟨a, xs, h1, h2, h3⟩ := h.lst S
    exact ⟨a, xs, h1, SqL.of h2, h3⟩
  | frl es =>
    cases hd
    obtain ⟨a, xs, h1, h2, h3⟩ := h.frl S
    exact ⟨a, xs, h1, h2, h3⟩
  | _ => cases hd
def maxD (x : D) : Option D := ((lstOf x).bind intsOf).bind fun ns => (maxL ns).map .int
def minD (x : D) : Option D := ((lstOf x).bind intsOf).bind fun ns => (minL ns).map .int
theorem maxD_ok : Fn1 K ct (rMax K) maxD := fun HF H0 H ρ σ x z v Q S hx hz q => by
  obtain ⟨ns, hn, hz⟩ := bind_some hz
  obtain ⟨ds, hd, hn⟩ := bind_some hn
  have e := intsOf_some hn
  subst e
  obtain ⟨a, xs, rfl, h, r⟩ := hx.lstOf S hd
  have e := r.ints
  subst e
  cases hm : maxL ns with
  | none => rw [hm] at hz; cases hz
  | some m =>
    rw [hm] at hz
    cases hz
    refine ⟨a, ns, rfl, h, ?_, fun k hk hy => ?_⟩
    · cases ns with
      | nil => cases hm
      | cons n ns => simp
    · rw [max_eq hm hk hy]
      exact q _ _ _ (Same.refl _) S (by simp only [Rep])
theorem minD_ok : Fn1 K ct (rMin K) minD := fun HF H0 H ρ σ x z v Q S hx hz q => by
  obtain ⟨ns, hn, hz⟩ := bind_some hz
  obtain ⟨ds, hd, hn⟩ := bind_some hn
  have e := intsOf_some hn
  subst e
  obtain ⟨a, xs, rfl, h, r⟩ := hx.lstOf S hd
  have e := r.ints
  subst e
  cases hm : minL ns with
  | none => rw [hm] at hz; cases hz
  | some m =>
    rw [hm] at hz
    cases hz
    refine ⟨a, ns, rfl, h, ?_, fun k hk hy => ?_⟩
    · cases ns with
      | nil => cases hm
      | cons n ns => simp
    · rw [min_eq hm hk hy]
      exact q _ _ _ (Same.refl _) S (by simp only [Rep])

/-! ### isinstance of a built-in class -/
def tyN : D → Option String
  | .non => some "NoneType"
  | .bl _ => some "bool"
  | .int _ => some "int"
  | .str _ => some "str"
  | .tup _ => some "tuple"
  | .lst _ => some "list"
  | _ => none
def isiD (T : String) (x : D) : Option D := (tyN x).bind fun t => (kitB t T).map .bl
theorem tyX_of {H : Hp} {d : D} {v : V} {t : String} (r : Rep K ct H d v) (h : tyN d = some t) : TyX K H v (.type t) := by
  cases d <;> simp only [Rep] at r <;> cases h
  · subst r; exact .base .non
  · subst r; exact .base (.bl _)
  · subst r; exact .base (.int _)
  · subst r; exact .base (.str _)
  · obtain ⟨a, xs, rfl, (⟨h | ⟨o, h⟩⟩ | ⟨o, its, n, h1, h2, _⟩), _⟩ := r
    · exact .base (.tup h)
    · exact .fTuple h
    · exact .kTuple h1 h2
  · obtain ⟨a, xs, rfl, h, _⟩ := r
    exact .base (.lst h)
theorem isi_ok (T : String) : Op1 K ct (fun x H Q => rIsi K [x, .ty T] H Q) (isiD T) := fun HF H0 H ρ σ x z v Q S hx hz q => by
  obtain ⟨t, ht, hz⟩ := bind_some hz
  cases hk : kitB t T with
  | none => rw [hk] at hz; cases hz
  | some b =>
    rw [hk] at hz
    cases hz
    exact ⟨v, .ty T, .type t, .type T, b, rfl, .ty T, tyX_of (hx.full S) ht, kit_ty hk, q _ _ _ (Same.refl _) S (by simp only [Rep])⟩
end
section
variable {x y : Str} {p p2 : Pos} {T : String}
theorem e_isi (hgl : Gl X "isinstance") (hm : X.mg "isinstance" = none) (hgy : Gl X y) (hmy : X.mg y = none) (hvy : bootBuiltins y = some (.type T)) (ha : PE X a (tBo X.K ct fa)) (hs : starEach [a, .Name y p2] X.env = (false, eval a X.env) :: starEach [.Name y p2] X.env := by rfl)
    (hn : y ≠ "__name__" := by decide +kernel) (hdb : (y == ("__debug__" : Str)) = false := by decide +kernel) : PE X (.Call (.Name "isinstance" p) [a, .Name y p2] [] pos) (tD X.K ct (f1 fa (isiD T))) :=
  (pe_callB call_isi hgl hm (by decide +kernel) (pa_cons ha (pa_cons (pe_bltn (v := .ty T) hgy hmy hvy rfl hn hdb) pa_nil) hs) (by decide +kernel) (by decide +kernel) hs (by rfl)).weak fun σ H Q h => one (isi_ok T) h
end
end
end PD

/-! Statements, loops, comprehensions, calls. -/
namespace PD
open PySem PySem.Spec PyProof.Rows L2

inductive Out where
  | nx (ρ : Env) | rt (d : D) | bk (ρ : Env) | ct (ρ : Env)

section
variable (K : PySem.W.Frag) (ct : Nat → Addr)
def PostO (HF H0 : Hp) (E : Ends) : Out → Prop
  | .nx ρ => ∀ σ H0' H', Same H0 H0' → StOk K ct HF H0' H' ρ σ → E.nx σ H'
  | .bk ρ => ∀ σ H0' H', Same H0 H0' → StOk K ct HF H0' H' ρ σ → E.bk σ H'
  | .ct ρ => ∀ σ H0' H', Same H0 H0' → StOk K ct HF H0' H' ρ σ → E.ct σ H'
  | .rt d => ∀ v H0' H', Same H0 H0' → Same H0' H' → Same HF H' → (∀ a o, HF a = some o → H0' a = none) → Rep K ct H0' d v → E.rt v H'
def tSt (f : Env → Option Out) : TS := fun E σ H => ∃ HF H0 ρ o, StOk K ct HF H0 H ρ σ ∧ f ρ = some o ∧ PostO K ct HF H0 E o
/-- a target: it stores at the slots js alone -/
def tG (js : List Nat) (ft : D → Env → Option Env) : TG := fun v σ H Q => ∃ HF H0 ρ d ρ', StOk K ct HF H0 H ρ σ ∧ Rep K ct H0 d v ∧ ft d ρ = some ρ' ∧
  ∀ σ' : L2.St, σ'.length = σ.length → (∀ j : Nat, j ∉ js → σ'[j]? = σ[j]?) → StOk K ct HF H0 H ρ' σ' → Q σ' H
def tGs (js : List Nat) (ft : List D → Env → Option Env) : TGs := fun vs σ H Q => ∃ HF H0 ρ ds ρ', StOk K ct HF H0 H ρ σ ∧ RepL K ct H0 ds vs ∧ ft ds ρ = some ρ' ∧
  ∀ σ' : L2.St, σ'.length = σ.length → (∀ j : Nat, j ∉ js → σ'[j]? = σ[j]?) → StOk K ct HF H0 H ρ' σ' → Q σ' H
/-- what is walked: these items, one after another -/
def WalkD (H1 : Hp) (ds : List D) (J : It) : Prop := ∀ H, Same H1 H → (∀ (i : Nat) (d : D), ds[i]? = some d → J.go i H ∧ ∀ x H', J.yld i H x H' → (H' = H ∧ Rep K ct H1 d x) ∨
  ∃ T xs es, H T = none ∧ x = .ref T ∧ H' = upd H T (.tup xs) ∧ d = .tup es ∧ RepL K ct H1 es xs) ∧ J.stop ds.length H
def tI (f : Env → Option (List D)) : TI := fun σ H R => ∃ HF H0 ρ ds, StOk K ct HF H0 H ρ σ ∧ f ρ = some ds ∧ ∀ J H0' H', Same H0 H0' → StOk K ct HF H0' H' ρ σ → WalkD K ct H0' ds J → R J H'
end
section
variable {K : PySem.W.Frag} {ct : Nat → Addr}
theorem PostO.mono {HF H0 H1 : Hp} {E : Ends} (e : Same H0 H1) : ∀ {o : Out}, PostO K ct HF H0 E o → PostO K ct HF H1 E o
  | .nx _, h => fun σ H0' H' e1 S => h σ H0' H' (e.trans e1) S
  | .bk _, h => fun σ H0' H' e1 S => h σ H0' H' (e.trans e1) S
  | .ct _, h => fun σ H0' H' e1 S => h σ H0' H' (e.trans e1) S
  | .rt _, h => fun v H0' H' e1 => h v H0' H' (e.trans e1)
end
section
variable {X : Cx} {st : Stmt} {rest : List Stmt}
theorem _root_.L2.PS.weak {t t' : TS} (h : PS X st t) (w : ∀ E σ H, t' E σ H → t E σ H) : PS X st t' := ⟨fun pins s σ H E I q => h.run pins s σ H E I (w _ _ _ q)⟩
theorem _root_.L2.PSs.weak {t t' : TS} (h : PSs X rest t) (w : ∀ E σ H, t' E σ H → t E σ H) : PSs X rest t' := ⟨fun pins s σ H E I q => h.run pins s σ H E I (w _ _ _ q)⟩
theorem _root_.L2.PG.weak {e : Expr} {t t' : TG} (h : PG X e t) (w : ∀ v σ H Q, t' v σ H Q → t v σ H Q) : PG X e t' := ⟨fun pins s σ H v u Q I r q => h.run pins s σ H v u Q I r (w _ _ _ _ q)⟩
theorem _root_.L2.PGs.weak {es : List Expr} {t t' : TGs} (h : PGs X es t) (w : ∀ v σ H Q, t' v σ H Q → t v σ H Q) : PGs X es t' := ⟨fun pins s σ H v u Q I r q => h.run pins s σ H v u Q I r (w _ _ _ _ q)⟩
theorem _root_.L2.PI.weak {tg e : Expr} {t t' : TI} (h : PI X tg e t) (w : ∀ σ H R, t' σ H R → t σ H R) : PI X tg e t' := ⟨fun pins s σ H R I q => h.run pins s σ H R I (w _ _ _ q)⟩
end

section
variable {X : Cx} {ct : Nat → Addr} {e a b c : Expr} {es : List Expr} {pos : Pos} {fa fb fc : Env → Option D} {st : Stmt} {rest body orelse : List Stmt} {f g : Env → Option Out} {ft : Env → Option Bool}
/-! ### blocks -/
def sNext : Env → Option Out := fun ρ => some (.nx ρ)
def sSeq (f g : Env → Option Out) : Env → Option Out := fun ρ => (f ρ).bind fun o => match o with
  | .nx ρ' => g ρ'
  | o => some o
theorem s_nil : PSs X [] (tSt X.K ct sNext) := pss_nil.weak fun E σ H => by
  rintro ⟨HF, H0, ρ, o, S, hf, q⟩
  cases hf
  exact q σ H0 H (Same.refl _) S
theorem s_one (h : PS X st (tSt X.K ct f)) : PSs X [st] (tSt X.K ct f) := pss_one h
theorem s_seq (h : PS X st (tSt X.K ct f)) (h2 : PSs X rest (tSt X.K ct g)) : PSs X (st :: rest) (tSt X.K ct (sSeq f g)) := (pss_cons h h2).weak fun E σ H => by
  rintro ⟨HF, H0, ρ, o, S, hf, q⟩
  obtain ⟨o1, h1, hf⟩ := bind_some hf
  refine ⟨HF, H0, ρ, o1, S, h1, ?_⟩
  cases o1 with
  | nx ρ' => exact fun σ' H0' H' e1 S1 => ⟨HF, H0', ρ', o, S1, hf, q.mono e1⟩
  | rt d => cases hf; exact q
  | bk ρ' => cases hf; exact q
  | ct ρ' => cases hf; exact q
theorem s_frz (is : List Nat) (h : PS X st (tSt X.K ct f)) : PS X st (tSt X.K ct fun ρ => f (frz is ρ)) := h.weak fun E σ H => by
  rintro ⟨HF, H0, ρ, o, S, hf, q⟩
  obtain ⟨H1, e1, S1⟩ := S.frz is
  exact ⟨HF, H1, _, o, S1, hf, q.mono e1⟩
def sPass : Env → Option Out := fun ρ => some (.nx ρ)
def sBrk : Env → Option Out := fun ρ => some (.bk ρ)
def sCnt : Env → Option Out := fun ρ => some (.ct ρ)
theorem s_pass : PS X (.Pass pos) (tSt X.K ct sPass) := ps_pass.weak fun E σ H => by
  rintro ⟨HF, H0, ρ, o, S, hf, q⟩
  cases hf
  exact q σ H0 H (Same.refl _) S
theorem s_brk : PS X (.Break pos) (tSt X.K ct sBrk) := ps_break.weak fun E σ H => by
  rintro ⟨HF, H0, ρ, o, S, hf, q⟩
  cases hf
  exact q σ H0 H (Same.refl _) S
theorem s_cnt : PS X (.Continue pos) (tSt X.K ct sCnt) := ps_continue.weak fun E σ H => by
  rintro ⟨HF, H0, ρ, o, S, hf, q⟩
  cases hf
  exact q σ H0 H (Same.refl _) S
def sRet (fa : Env → Option D) : Env → Option Out := fun ρ => (fa ρ).map .rt
theorem map_some {α β : Type} {o : Option α} {k : α → β} {z : β} (h : o.map k = some z) : ∃ x, o = some x ∧ k x = z := by
  cases o with
  | none => cases h
  | some x => exact ⟨x, rfl, Option.some.inj h⟩
theorem s_ret (he : PE X e (tD X.K ct fa)) : PS X (.Return (some e) pos) (tSt X.K ct (sRet fa)) := (ps_ret he).weak fun E σ H => by
  rintro ⟨HF, H0, ρ, o, S, hf, q⟩
  obtain ⟨d, hd, rfl⟩ := map_some hf
  exact ⟨HF, H0, ρ, d, S, hd, fun v H1 H' e1 S1 r1 => q v H1 H' e1 S1.e0 S1.ef S1.dj r1⟩
def sRetN : Env → Option Out := fun _ => some (.rt .non)
theorem s_retN : PS X (.Return none pos) (tSt X.K ct sRetN) := ps_retN.weak fun E σ H => by
  rintro ⟨HF, H0, ρ, o, S, hf, q⟩
  cases hf
  exact q _ H0 H (Same.refl _) S.e0 S.ef S.dj (by simp only [Rep])
def sIf (ft : Env → Option Bool) (f g : Env → Option Out) : Env → Option Out := fun ρ => (ft ρ).bind fun b => if b then f ρ else g ρ
theorem s_if (hc : PT X c (tTe X.K ct ft)) (ha : PSs X body (tSt X.K ct f)) (hb : PSs X orelse (tSt X.K ct g)) : PS X (.If c body orelse pos) (tSt X.K ct (sIf ft f g)) := (ps_if hc ha hb).weak fun E σ H => by
  rintro ⟨HF, H0, ρ, o, S, hf, q⟩
  obtain ⟨k, hk, hf⟩ := bind_some hf
  refine ⟨HF, H0, ρ, k, S, hk, fun H1 H' e1 S1 => ?_⟩
  cases k with
  | true => exact iteT ⟨HF, H1, ρ, o, S1, hf, q.mono e1⟩
  | false => exact iteF ⟨HF, H1, ρ, o, S1, hf, q.mono e1⟩

/-! ### targets -/
def gN (i : Nat) : D → Env → Option Env := fun d ρ => some (ρ.set i (.val d))
theorem g_name (i : Nat) (h : PG X e (gName i)) : PG X e (tG X.K ct [i] (gN i)) := h.weak fun v σ H Q => by
  rintro ⟨HF, H0, ρ, d, ρ', S, r, hf, q⟩
  cases hf
  refine q _ (by rw [List.length_set]) (fun j hj => ?_) (S.setVal i r)
  rw [get_set, if_neg fun z => hj (by simp [z])]
def gsNil : List D → Env → Option Env := fun ds ρ => match ds with
  | [] => some ρ
  | _ => none
def gsCons (f : D → Env → Option Env) (fs : List D → Env → Option Env) : List D → Env → Option Env := fun ds ρ => match ds with
  | d :: ds => (f d ρ).bind (fs ds)
  | _ => none
theorem gs_nil : PGs X [] (tGs X.K ct [] gsNil) := pgs_nil.weak fun vs σ H Q => by
  rintro ⟨HF, H0, ρ, ds, ρ', S, r, hf, q⟩
  cases ds with
  | nil =>
    cases hf
    exact ⟨r.of_nil, q σ rfl (fun _ _ => rfl) S⟩
  | cons d ds => cases hf
theorem gs_cons {js ks : List Nat} {f : D → Env → Option Env} {fs : List D → Env → Option Env} (h1 : PG X e (tG X.K ct js f)) (h2 : PGs X es (tGs X.K ct ks fs))
    (ha : assignEach (e :: es) X.env = (match e with | .Starred x _ => (true, assign x X.env) | _ => (false, assign e X.env)) :: assignEach es X.env := by rfl) (hs : PGs X (e :: es) (gCons (tG X.K ct js f) (tGs X.K ct ks fs)) := by exact pgs_cons (by assumption) (by assumption)) :
    PGs X (e :: es) (tGs X.K ct (js ++ ks) (gsCons f fs)) := hs.weak fun vs σ H Q => by
  rintro ⟨HF, H0, ρ, ds, ρ', S, r, hf, q⟩
  cases ds with
  | nil => cases hf
  | cons d ds =>
    obtain ⟨ρ1, h3, h4⟩ := bind_some hf
    obtain ⟨y, ys, rfl, ry, rl⟩ := r.uncons
    refine ⟨y, ys, rfl, HF, H0, ρ, d, ρ1, S, ry, h3, fun σ1 l1 k1 S1 => ⟨HF, H0, ρ1, ds, ρ', S1, rl, h4, fun σ2 l2 k2 S2 => ?_⟩⟩
    exact q σ2 (l2.trans l1) (fun j hj => by
      rw [List.mem_append, not_or] at hj
      rw [k2 j hj.2, k1 j hj.1]) S2
def gT (n : Nat) (fs : List D → Env → Option Env) : D → Env → Option Env := fun d ρ => match d with
  | .tup ds => if ds.length = n then fs ds ρ else none
  | _ => none
theorem g_tup {js : List Nat} {fs : List D → Env → Option Env} {n : Nat} (h : PG X e (gTup X.K n (tGs X.K ct js fs))) : PG X e (tG X.K ct js (gT n fs)) := h.weak fun v σ H Q => by
  rintro ⟨HF, H0, ρ, d, ρ', S, r, hf, q⟩
  cases d with
  | tup ds =>
    simp only [gT] at hf
    split at hf
    · rename_i hl
      simp only [Rep] at r
      obtain ⟨a, xs, rfl, hs, rl⟩ := r
      exact ⟨a, xs, rfl, same_sqt S.e0 hs, by rw [rl.length]; exact hl, HF, H0, ρ, ds, ρ', S, rl, hf, q⟩
    · cases hf
  | _ => cases hf

/-! ### assignments -/
def sAsg (fa : Env → Option D) (ft : D → Env → Option Env) : Env → Option Out := fun ρ => (fa ρ).bind fun d => (ft d ρ).map .nx
theorem s_asg {js : List Nat} {tg : Expr} {ft : D → Env → Option Env} (he : PE X e (tD X.K ct fa)) (hg : PG X tg (tG X.K ct js ft)) (hs : swapsWithSole [tg] e pos.line X.env = pure false := by rfl) (hw : swappedStores [tg] e X.env = pure none := by rfl) (h1 : (assignEach [tg] X.env).map (·.2) = [assign tg X.env] := by rfl) :
    PS X (.Assign [tg] e pos) (tSt X.K ct (sAsg fa ft)) := (ps_asg he hg hs hw h1).weak fun E σ H => by
  rintro ⟨HF, H0, ρ, o, S, hf, q⟩
  obtain ⟨d, hd, hf⟩ := bind_some hf
  obtain ⟨ρ', h1, rfl⟩ := map_some hf
  exact ⟨HF, H0, ρ, d, S, hd, fun v H1 H' e1 S1 r1 => ⟨HF, H1, ρ, d, ρ', S1, r1, h1, fun σ' _ _ S2 => q σ' H1 H' e1 S2⟩⟩
/-- x = e, x keeps the new list for itself -/
def sOwn (i : Nat) (fa : Env → Option D) : Env → Option Out := fun ρ => (fa ρ).map fun d => .nx (ρ.set i (.own d))
theorem own_run {K : PySem.W.Frag} {i : Nat} {E : Ends} {σ : L2.St} {H : Hp} (h : tSt K ct (sOwn i fa) E σ H) : tO K ct fa σ H fun x H1 => gName i x σ H1 E.nx := by
  obtain ⟨HF, H0, ρ, o, S, hf, q⟩ := h
  obtain ⟨d, hd, rfl⟩ := map_some hf
  exact ⟨HF, H0, ρ, d, S, hd, fun p o H1 H' e1 S1 F => q _ H1 H' e1 (S1.setOwn i F.hF F.h0 F.h F.r F.ne)⟩
theorem s_own {i : Nat} {tg : Expr} (he : PE X e (tO X.K ct fa)) (hg : PG X tg (gName i)) (hs : swapsWithSole [tg] e pos.line X.env = pure false := by rfl) (hw : swappedStores [tg] e X.env = pure none := by rfl) (h1 : (assignEach [tg] X.env).map (·.2) = [assign tg X.env] := by rfl) :
    PS X (.Assign [tg] e pos) (tSt X.K ct (sOwn i fa)) := (ps_asg he hg hs hw h1).weak fun E σ H h => own_run h
/-- the same for a comprehension that the model stores from within -/
theorem s_asgIn {i : Nat} {te : TE} (h : PS X st (tAsg te (gName i))) (w : ∀ σ H Q, tD X.K ct fa σ H Q → te σ H Q) : PS X st (tSt X.K ct (sAsg fa (gN i))) := h.weak fun E σ H => by
  rintro ⟨HF, H0, ρ, o, S, hf, q⟩
  obtain ⟨d, hd, hf⟩ := bind_some hf
  obtain ⟨ρ', h1, rfl⟩ := map_some hf
  cases h1
  exact w _ _ _ ⟨HF, H0, ρ, d, S, hd, fun v H1 H' e1 S1 r1 => q _ H1 H' e1 (S1.setVal i r1)⟩
theorem s_ownIn {i : Nat} {te : TE} (h : PS X st (tAsg te (gName i))) (w : ∀ σ H Q, tO X.K ct fa σ H Q → te σ H Q) : PS X st (tSt X.K ct (sOwn i fa)) := h.weak fun E σ H q => w _ _ _ (own_run q)
/-- x += e -/
def sAug (i : Nat) (fa : Env → Option D) (g : D → D → Option D) : Env → Option Out := fun ρ => (fVar i ρ).bind fun x => (fa ρ).bind fun y => (g x y).map fun z => .nx (ρ.set i (.val z))
theorem s_aug {i : Nat} {ti : TIp} {g : D → D → Option D} (hg : Op2 X.K ct ti g) {te : TE} (h : PS X st (tAug i te ti)) (w : ∀ σ H Q, tBo X.K ct fa σ H Q → te σ H Q) : PS X st (tSt X.K ct (sAug i fa g)) := h.weak fun E σ H => by
  rintro ⟨HF, H0, ρ, o, S, hf, q⟩
  obtain ⟨x, hx, hf⟩ := bind_some hf
  obtain ⟨y, hy, hf⟩ := bind_some hf
  obtain ⟨z, hz, rfl⟩ := map_some hf
  unfold fVar at hx
  split at hx
  · rename_i d hi
    cases hx
    obtain ⟨v, h1, h2⟩ := S.val i _ hi
    refine ⟨v, h1, w _ _ _ ⟨HF, H0, ρ, y, S, hy, fun u H1 H' e1 S1 r1 => ?_⟩⟩
    exact hg HF H1 H' ρ σ _ y z v u _ S1 (.inl (h2.mono e1)) r1 hz fun w H2 H'' e2 S2 r2 => q _ H2 H'' (e1.trans e2) (S2.setVal i r2)
  · cases hx
/-- x.append(e), x a list of one's own -/
noncomputable def sApp (i : Nat) (fa : Env → Option D) : Env → Option Out := fun ρ => (fa ρ).bind fun d => match ρ[i]? with
  | some (.own (.lst ds)) => gd (ds.length < sizeLine) (.nx (ρ.set i (.own (.lst (ds ++ [d])))))
  | _ => none
theorem s_app {i : Nat} {te : TE} (h : PS X st (tDrop (tBM X.K "list" rAppend (tVar i) (tCons te tNil)))) (w : ∀ σ H Q, tD X.K ct fa σ H Q → te σ H Q) : PS X st (tSt X.K ct (sApp i fa)) := h.weak fun E σ H => by
  rintro ⟨HF, H0, ρ, o, S, hf, q⟩
  obtain ⟨d, hd, hf⟩ := bind_some hf
  split at hf
  · rename_i ds hi
    obtain ⟨hl, rfl⟩ := gd_some hf
    obtain ⟨p, ho, h1, h2, h3, h4, h5⟩ := S.own i _ hi
    cases ho with
    | lst xs =>
      have h5' : RepL X.K ct H0 ds xs := h5
      refine ⟨_, h1, .inl ⟨rfl, xs, .inl (.inl h4)⟩, w _ _ _ ⟨HF, H0, ρ, d, S, hd, fun v H1 H' e1 S1 r1 => ?_⟩⟩
      obtain ⟨p', ho', g1, g2, g3, g4, g5⟩ := S1.own i _ hi
      rw [h1] at g1
      cases g1
      cases ho' with
      | lst ys =>
        have g5' : RepL X.K ct H1 ds ys := g5
        refine ⟨p, ys, v, rfl, rfl, g4, by rw [g5'.length]; exact hl, ?_⟩
        exact q σ H1 _ e1 (S1.change (d' := .lst (ds ++ [d])) (o := .lst (ys ++ [v])) hi h1 (g5'.append (RepL.one r1)))
      | _ => exact (show False from g5).elim
    | _ => exact (show False from h5).elim
  · cases hf
/-- x[k] = e, x a list of one's own -/
def sSetIx (i : Nat) (fa fk : Env → Option D) : Env → Option Out := fun ρ => (fa ρ).bind fun d => (fk ρ).bind fun k => match ρ[i]?, k with
  | some (.own (.lst ds)), .int k => match ixN ds.length k with
    | some j => some (.nx (ρ.set i (.own (.lst (ds.set j d)))))
    | none => none
  | _, _ => none
theorem s_setIx {i : Nat} {o k tg : Expr} {fk : Env → Option D} (he : PE X e (tD X.K ct fa)) (hk : PE X k (tBo X.K ct fk)) (h : PS X st (tAsg (tD X.K ct fa) (gSub (tVar i) (tBo X.K ct fk) rSetL))) : PS X st (tSt X.K ct (sSetIx i fa fk)) := h.weak fun E σ H => by
  rintro ⟨HF, H0, ρ, o, S, hf, q⟩
  obtain ⟨d, hd, hf⟩ := bind_some hf
  obtain ⟨kd, hkd, hf⟩ := bind_some hf
  split at hf
  · rename_i ds n hi
    split at hf
    · rename_i j hj
      cases hf
      refine ⟨HF, H0, ρ, d, S, hd, fun v H1 H' e1 S1 r1 => ?_⟩
      obtain ⟨p, ho, h1, h2, h3, h4, h5⟩ := S1.own i _ hi
      refine ⟨_, h1, HF, H1, ρ, _, S1, hkd, fun u H2 H'' e2 S2 r2 => ?_⟩
      obtain ⟨p', ho', g1, g2, g3, g4, g5⟩ := S2.own i _ hi
      rw [h1] at g1
      cases g1
      cases ho' with
      | lst ys =>
        have g5' : RepL X.K ct H2 ds ys := g5
        refine ⟨p, ys, n, j, rfl, r2.int S2, g4, by rw [g5'.length]; exact hj, ?_⟩
        exact q σ H2 _ (e1.trans e2) (S2.change (d' := .lst (ds.set j d)) (o := .lst (ys.set j v)) hi h1 (g5'.set (r1.mono e2) j))
      | _ => exact (show False from g5).elim
    · cases hf
  · cases hf

/-! ### while -/
def whileF (ft : Env → Option Bool) (f : Env → Option Out) (is : List Nat) : Nat → Env → Option Out
  | 0, _ => none
  | n + 1, ρ => (ft ρ).bind fun b => if b then (f ρ).bind fun o => match o with
      | .nx ρ' => whileF ft f is n (clr is ρ')
      | .ct ρ' => whileF ft f is n (clr is ρ')
      | .bk ρ' => some (.nx (clr is ρ'))
      | .rt d => some (.rt d)
    else some (.nx ρ)
theorem s_while (is : List Nat) (n : Nat) (hp : PassesOwn (model X.prog X.w) X.A X.env X.xe) (hc : PT X c (tTe X.K ct ft)) (hb : PSs X body (tSt X.K ct f)) : PS X (.While c body [] pos) (tSt X.K ct (whileF ft f is n)) := (ps_while hp hc hb).weak fun E σ H => by
  rintro ⟨HF, H0, ρ, o, S, hf, q⟩
  refine ⟨fun m σ' H' => ∃ H1 ρ', Same H0 H1 ∧ StOk X.K ct HF H1 H' ρ' σ' ∧ whileF ft f is m ρ' = some o, ⟨n, H0, ρ, Same.refl _, S, hf⟩, fun m σ' H' => ?_⟩
  rintro ⟨H1, ρ', e1, S1, hf⟩
  cases m with
  | zero => cases hf
  | succ m =>
    simp only [whileF] at hf
    obtain ⟨b, hb, hf⟩ := bind_some hf
    refine ⟨HF, H1, ρ', b, S1, hb, fun H2 H'' e2 S2 => ?_⟩
    cases b with
    | false =>
      simp at hf
      subst hf
      exact iteF (q σ' H2 H'' (e1.trans e2) S2)
    | true =>
      simp only [if_true] at hf
      obtain ⟨o1, ho, hf⟩ := bind_some hf
      refine iteT ⟨fun σ3 H3 => ∃ H4 ρ3, Same H0 H4 ∧ StOk X.K ct HF H4 H3 ρ3 σ3 ∧ whileF ft f is m ρ3 = some o, fun σ3 H3 h3 => ⟨m, Nat.lt_succ_self _, h3⟩, HF, H2, ρ', o1, S2, ho, ?_⟩
      cases o1 with
      | nx ρ3 => exact fun σ3 H4 H3 e3 S3 => ⟨H4, _, (e1.trans e2).trans e3, S3.clr is, hf⟩
      | ct ρ3 => exact fun σ3 H4 H3 e3 S3 => ⟨H4, _, (e1.trans e2).trans e3, S3.clr is, hf⟩
      | bk ρ3 =>
        cases hf
        exact fun σ3 H4 H3 e3 S3 => q σ3 H4 H3 ((e1.trans e2).trans e3) (S3.clr is)
      | rt d =>
        cases hf
        exact q.mono (e1.trans e2)

/-! ### for -/
def forF (ft : D → Env → Option Env) (f : Env → Option Out) (is : List Nat) : List D → Env → Option Out
  | [], ρ => some (.nx ρ)
  | d :: ds, ρ => (ft d ρ).bind fun ρ1 => (f ρ1).bind fun o => match o with
      | .nx ρ' => forF ft f is ds (clr is ρ')
      | .ct ρ' => forF ft f is ds (clr is ρ')
      | .bk ρ' => some (.nx (clr is ρ'))
      | .rt d => some (.rt d)
def sFor (fi : Env → Option (List D)) (ft : D → Env → Option Env) (f : Env → Option Out) (is : List Nat) : Env → Option Out := fun ρ => (fi ρ).bind fun ds => forF ft f is ds ρ
/-- an item as it comes: it stands for its value -/
theorem item_in {K : PySem.W.Frag} {HF H0 H1 H H' : Hp} {ρ : Env} {σ : L2.St} {d : D} {x : V} (S : StOk K ct HF H1 H ρ σ) (e : Same H0 H1) (h : (H' = H ∧ Rep K ct H0 d x) ∨ ∃ T xs es, H T = none ∧ x = .ref T ∧ H' = upd H T (.tup xs) ∧ d = .tup es ∧ RepL K ct H0 es xs) :
    ∃ H2, Same H1 H2 ∧ StOk K ct HF H2 H' ρ σ ∧ Rep K ct H2 d x := by
  rcases h with ⟨rfl, r⟩ | ⟨T, xs, es, hT, rfl, rfl, rfl, r⟩
  · exact ⟨H1, Same.refl _, S, r.mono e⟩
  · obtain ⟨e2, S2, r2⟩ := S.newTup hT (r.mono e)
    exact ⟨_, e2, S2, r2⟩
theorem s_for {tg iter : Expr} {js : List Nat} {fi : Env → Option (List D)} {ft : D → Env → Option Env} (is : List Nat) (hp : PassesOwn (model X.prog X.w) X.A X.env X.xe) (hc : X.calm = true) (hi : PI X tg iter (tI X.K ct fi)) (hg : PG X tg (tG X.K ct js ft)) (hb : PSs X body (tSt X.K ct f))
    (hs : ∀ x, foldedSetIterable iter X.env x = pure x := by intro _; rfl) : PS X (.For tg iter body [] pos) (tSt X.K ct (sFor fi ft f is)) := (ps_for hp hc hi hg hb hs).weak fun E σ H => by
  rintro ⟨HF, H0, ρ, o, S, hf, q⟩
  obtain ⟨ds, hds, hf⟩ := bind_some hf
  refine ⟨HF, H0, ρ, ds, S, hds, fun J H1 H' e1 S1 W => ?_⟩
  refine ⟨fun i m σ' H' => i + m = ds.length ∧ ∃ H2 ρ', Same H1 H2 ∧ StOk X.K ct HF H2 H' ρ' σ' ∧ forF ft f is (ds.drop i) ρ' = some o, ⟨ds.length, by omega, H1, ρ, Same.refl _, S1, by rw [List.drop_zero]; exact hf⟩, fun i m σ' H' => ?_⟩
  rintro ⟨him, H2, ρ', e2, S2, hf⟩
  obtain ⟨hgo, hstop⟩ := W H' (e2.trans S2.e0)
  by_cases hi : i < ds.length
  · rw [List.drop_eq_getElem_cons hi] at hf
    simp only [forF] at hf
    obtain ⟨ρ1, h1, hf⟩ := bind_some hf
    obtain ⟨o1, ho, hf⟩ := bind_some hf
    obtain ⟨g1, g2⟩ := hgo i ds[i] (List.getElem?_eq_getElem hi)
    refine .inr ⟨g1, fun σ3 H3 => (i + 1) + (m - 1) = ds.length ∧ ∃ H4 ρ3, Same H1 H4 ∧ StOk X.K ct HF H4 H3 ρ3 σ3 ∧ forF ft f is (ds.drop (i + 1)) ρ3 = some o, fun σ3 H3 h3 => ⟨m - 1, by omega, h3⟩, fun x H3 hy => ?_⟩
    obtain ⟨H4, e4, S4, r4⟩ := item_in S2 e2 (g2 x H3 hy)
    refine ⟨HF, H4, ρ', ds[i], ρ1, S4, r4, h1, fun σ4 _ _ S5 => ⟨HF, H4, ρ1, o1, S5, ho, ?_⟩⟩
    cases o1 with
    | nx ρ3 => exact fun σ3 H5 H3 e5 S3 => ⟨by omega, H5, _, (e2.trans e4).trans e5, S3.clr is, hf⟩
    | ct ρ3 => exact fun σ3 H5 H3 e5 S3 => ⟨by omega, H5, _, (e2.trans e4).trans e5, S3.clr is, hf⟩
    | bk ρ3 =>
      cases hf
      exact fun σ3 H5 H3 e5 S3 => q σ3 H5 H3 (((e1.trans e2).trans e4).trans e5) (S3.clr is)
    | rt d =>
      cases hf
      exact q.mono ((e1.trans e2).trans e4)
  · have ei : i = ds.length := by omega
    subst ei
    rw [List.drop_length] at hf
    cases hf
    exact .inl ⟨hstop, q σ' H2 H' (e1.trans e2) S2⟩

/-! ### what is walked -/
def iSeq (fa : Env → Option D) : Env → Option (List D) := fun ρ => (fa ρ).bind seqD
def iLs (fa : Env → Option D) : Env → Option (List D) := fun ρ => (fa ρ).bind lstOf
def tupOf : D → Option (List D)
  | .tup ds => some ds
  | _ => none
def iTp (fa : Env → Option D) : Env → Option (List D) := fun ρ => (fa ρ).bind tupOf
theorem walk_l {K : PySem.W.Frag} {H1 : Hp} {a : Addr} {xs : List V} {ds : List D} (h : SqL K H1 a xs) (huniq : ∀ H ys, Same H1 H → SqL K H a ys → ys = xs) (r : RepL K ct H1 ds xs) : WalkD K ct H1 ds (Itl K a) := fun H e => by
  refine ⟨fun i d hd => ?_, xs, e.seq h, by rw [r.length]; exact Nat.le_refl _⟩
  obtain ⟨v, hv, rv⟩ := r.get hd
  refine ⟨⟨xs, v, e.seq h, hv⟩, fun x H' hy => .inl ⟨hy.1, ?_⟩⟩
  have := hy.2 xs (e.seq h)
  rw [hv] at this
  cases this
  exact rv
theorem walk_t {K : PySem.W.Frag} {H1 : Hp} {a : Addr} {xs : List V} {ds : List D} (h : SqT K H1 a xs) (r : RepL K ct H1 ds xs) : WalkD K ct H1 ds (Itt K a) := fun H e => by
  refine ⟨fun i d hd => ?_, xs, same_sqt e h, by rw [r.length]; exact Nat.le_refl _⟩
  obtain ⟨v, hv, rv⟩ := r.get hd
  refine ⟨⟨xs, v, same_sqt e h, hv⟩, fun x H' hy => .inl ⟨hy.1, ?_⟩⟩
  have := hy.2 xs (same_sqt e h)
  rw [hv] at this
  cases this
  exact rv
theorem i_lst {tg : Expr} (h : PE X e (tD X.K ct fa)) : PI X tg e (tI X.K ct (iLs fa)) := (pi_list h).weak fun σ H R => by
  rintro ⟨HF, H0, ρ, ds, S, hf, q⟩
  obtain ⟨d, hd, hs⟩ := bind_some hf
  refine ⟨HF, H0, ρ, d, S, hd, fun v H1 H' e1 S1 r1 => ?_⟩
  have hL : ∃ a xs, v = .ref a ∧ SqL X.K H1 a xs ∧ RepL X.K ct H1 ds xs := by
    cases d with
    | lst es =>
      cases hs
      simp only [Rep] at r1
      obtain ⟨a, xs, h1, h2, h3⟩ := r1
      exact ⟨a, xs, h1, SqL.of h2, h3⟩
    | frl es =>
      cases hs
      simp only [Rep] at r1
      exact r1
    | _ => cases hs
  obtain ⟨a, xs, rfl, h2, h3⟩ := hL
  refine ⟨a, rfl, ⟨xs, S1.e0.seq h2⟩, q _ H1 H' e1 S1 fun H e => ?_⟩
  refine ⟨fun i d hd => ?_, xs, e.seq h2, by rw [h3.length]; exact Nat.le_refl _⟩
  obtain ⟨v, hv, rv⟩ := h3.get hd
  refine ⟨⟨xs, v, e.seq h2, hv⟩, fun x H' hy => .inl ⟨hy.1, ?_⟩⟩
  have := hy.2 xs (e.seq h2)
  rw [hv] at this
  cases this
  exact rv
theorem i_tup {tg : Expr} (h : PE X e (tD X.K ct fa)) : PI X tg e (tI X.K ct (iTp fa)) := (pi_tup h).weak fun σ H R => by
  rintro ⟨HF, H0, ρ, ds, S, hf, q⟩
  obtain ⟨d, hd, hs⟩ := bind_some hf
  refine ⟨HF, H0, ρ, d, S, hd, fun v H1 H' e1 S1 r1 => ?_⟩
  cases d with
  | tup es =>
    cases hs
    simp only [Rep] at r1
    obtain ⟨a, xs, rfl, h2, h3⟩ := r1
    exact ⟨a, rfl, ⟨xs, same_sqt S1.e0 h2⟩, q _ H1 H' e1 S1 (walk_t h2 h3)⟩
  | _ => cases hs
/-- a list or a tuple, whatever comes -/
theorem _root_.L2.PI.or {tg iter : Expr} {w w' : TI} (h : PI X tg iter w) (h' : PI X tg iter w') : PI X tg iter (fun σ H R => w σ H R ∨ w' σ H R) := ⟨fun pins s σ H R I q => by
  rcases q with q | q
  · exact h.run pins s σ H R I q
  · exact h'.run pins s σ H R I q⟩
theorem i_seq {tg : Expr} (h : PE X e (tD X.K ct fa)) : PI X tg e (tI X.K ct (iSeq fa)) := ((i_lst h).or (i_tup h)).weak fun σ H R => by
  rintro ⟨HF, H0, ρ, ds, S, hf, q⟩
  obtain ⟨d, hd, hs⟩ := bind_some hf
  cases d with
  | lst es => exact .inl ⟨HF, H0, ρ, ds, S, by unfold iLs; rw [hd]; exact hs, q⟩
  | frl es => exact .inl ⟨HF, H0, ρ, ds, S, by unfold iLs; rw [hd]; exact hs, q⟩
  | tup es => exact .inr ⟨HF, H0, ρ, ds, S, by unfold iTp; rw [hd]; exact hs, q⟩
  | _ => cases hs
def rngL (lo : Int) (n : Nat) : List D := (List.range n).map fun i => .int (lo + (i : Nat))
theorem walk_r {K : PySem.W.Frag} {H1 : Hp} {lo : Int} {n : Nat} : WalkD K ct H1 (rngL lo n) (Itr lo n) := fun H e => by
  refine ⟨fun i d hd => ?_, by show n ≤ _; unfold rngL; simp⟩
  unfold rngL at hd
  rw [List.getElem?_map] at hd
  obtain ⟨j, hj, rfl⟩ := map_some hd
  obtain ⟨hl, ej⟩ := List.getElem?_eq_some_iff.mp hj
  rw [List.getElem_range] at ej
  subst ej
  rw [List.length_range] at hl
  exact ⟨hl, fun x H' hy => .inl ⟨hy.1, by simp only [Rep]; exact hy.2⟩⟩
noncomputable def iR1 (fa : Env → Option D) : Env → Option (List D) := fun ρ => match fa ρ with
  | some (.int j) => gd (-(2 ^ 62) ≤ j ∧ j < 2 ^ 62) (rngL 0 j.toNat)
  | _ => none
noncomputable def iR2 (fa fb : Env → Option D) : Env → Option (List D) := fun ρ => match fa ρ, fb ρ with
  | some (.int i), some (.int j) => gd (-(2 ^ 62) ≤ i ∧ i < 2 ^ 62 ∧ -(2 ^ 62) ≤ j ∧ j < 2 ^ 62) (rngL i (j - i).toNat)
  | _, _ => none
theorem i_r1 {tg : Expr} {p : Pos} (hg : Gl X "range") (hm : X.mg "range" = none) (ha : PE X a (tBo X.K ct fa)) (hs : starEach [a] X.env = (false, eval a X.env) :: starEach [] X.env := by rfl) : PI X tg (.Call (.Name "range" p) [a] [] pos) (tI X.K ct (iR1 fa)) :=
  (pi_range1 hg hm (pa_cons ha pa_nil hs) hs).weak fun σ H R => by
    rintro ⟨HF, H0, ρ, ds, S, hf, q⟩
    unfold iR1 at hf
    split at hf
    · rename_i j hj
      obtain ⟨hl, rfl⟩ := gd_some hf
      exact ⟨HF, H0, ρ, _, S, hj, fun v H1 H' e1 S1 r1 => ⟨j, by rw [r1.int S1], hl.1, hl.2, q _ H1 H' e1 S1 walk_r⟩⟩
    · cases hf
theorem i_r2 {tg : Expr} {p : Pos} (hg : Gl X "range") (hm : X.mg "range" = none) (ha : PE X a (tBo X.K ct fa)) (hb : PE X b (tBo X.K ct fb)) (hs : starEach [a, b] X.env = (false, eval a X.env) :: starEach [b] X.env := by rfl)
    (hs2 : starEach [b] X.env = (false, eval b X.env) :: starEach [] X.env := by rfl) (hs3 : starEach [a, b] X.env = [(false, eval a X.env), (false, eval b X.env)] := by rfl) (hs4 : starEach [b] X.env = [(false, eval b X.env)] := by rfl) : PI X tg (.Call (.Name "range" p) [a, b] [] pos) (tI X.K ct (iR2 fa fb)) :=
  (pi_range2 hg hm (pa_cons ha (pa_cons hb pa_nil hs2) hs) hs3 hs4).weak fun σ H R => by
    rintro ⟨HF, H0, ρ, ds, S, hf, q⟩
    unfold iR2 at hf
    split at hf
    · rename_i i j hi hj
      obtain ⟨hl, rfl⟩ := gd_some hf
      refine ⟨HF, H0, ρ, _, S, hi, fun v H1 H' e1 S1 r1 => ⟨HF, H1, ρ, _, S1, hj, fun u H2 H'' e2 S2 r2 => ⟨i, j, by rw [r1.int S1, r2.int S2], hl, q _ H2 H'' (e1.trans e2) S2 walk_r⟩⟩⟩
    · cases hf

/-! ### comprehensions -/
theorem wipe_get (vs : List Nat) (σ : L2.St) (j : Nat) : (wipe σ vs)[j]? = if j ∈ vs then (if j < σ.length then some none else none) else σ[j]? := by
  induction vs with
  | nil => simp [wipe]
  | cons v vs ih =>
    simp only [wipe]
    rw [get_set, wipe_length, ih]
    by_cases h : v = j
    · subst h
      simp
    · rw [if_neg h]
      by_cases hj : j ∈ vs
      · rw [if_pos hj, if_pos (List.mem_cons_of_mem _ hj)]
      · rw [if_neg hj, if_neg fun z => (List.mem_cons.mp z).elim (fun e => h e.symm) hj]
theorem wipe_eq {σ σ2 : L2.St} {vs : List Nat} (hl : σ2.length = σ.length) (h : ∀ j : Nat, j ∉ vs → σ2[j]? = (wipe σ vs)[j]?) : wipe σ2 vs = wipe σ vs := by
  apply List.ext_getElem?
  intro j
  by_cases hj : j ∈ vs
  · rw [wipe_get, wipe_get, if_pos hj, if_pos hj, hl]
  · rw [wipe_get, if_neg hj]
    exact h j hj
def wipeE (vs : List Nat) (ρ : Env) : Env := vs.foldr (fun v ρ => ρ.set v .un) ρ
theorem StOk.wipes {K : PySem.W.Frag} {HF H0 H : Hp} {ρ : Env} {σ : L2.St} : ∀ (vs : List Nat), StOk K ct HF H0 H ρ σ → StOk K ct HF H0 H (wipeE vs ρ) (wipe σ vs)
  | [], S => S
  | v :: vs, S => (StOk.wipes vs S).wiped v none
/-- a target's function changes the slots js alone -/
def Kp (js : List Nat) (ft : D → Env → Option Env) : Prop := ∀ d ρ ρ', ft d ρ = some ρ' → ∀ j : Nat, j ∉ js → ρ'[j]? = ρ[j]?
def Kps (js : List Nat) (ft : List D → Env → Option Env) : Prop := ∀ ds ρ ρ', ft ds ρ = some ρ' → ∀ j : Nat, j ∉ js → ρ'[j]? = ρ[j]?
theorem k_name (i : Nat) : Kp [i] (gN i) := fun d ρ ρ' h j hj => by
  cases h
  rw [get_set, if_neg fun z => hj (by simp [z])]
theorem ks_nil : Kps [] gsNil := fun ds ρ ρ' h j _ => by
  cases ds with
  | nil => cases h; rfl
  | cons d ds => cases h
theorem ks_cons {js ks : List Nat} {f : D → Env → Option Env} {fs : List D → Env → Option Env} (h1 : Kp js f) (h2 : Kps ks fs) : Kps (js ++ ks) (gsCons f fs) := fun ds ρ ρ' h j hj => by
  cases ds with
  | nil => cases h
  | cons d ds =>
    obtain ⟨ρ1, h3, h4⟩ := bind_some h
    rw [List.mem_append, not_or] at hj
    rw [h2 _ _ _ h4 j hj.2, h1 _ _ _ h3 j hj.1]
theorem k_tup {js : List Nat} {fs : List D → Env → Option Env} {n : Nat} (h : Kps js fs) : Kp js (gT n fs) := fun d ρ ρ' e j hj => by
  cases d with
  | tup ds =>
    simp only [gT] at e
    split at e
    · exact h _ _ _ e j hj
    · cases e
  | _ => cases e
theorem wipeE_get : ∀ (vs : List Nat) (ρ : Env) (j : Nat), j ∉ vs → (wipeE vs ρ)[j]? = ρ[j]?
  | [], _, _, _ => rfl
  | v :: vs, ρ, j, h => by
    rw [List.mem_cons, not_or] at h
    show ((wipeE vs ρ).set v .un)[j]? = _
    rw [get_set, if_neg fun z => h.1 z.symm]
    exact wipeE_get vs ρ j h.2
def noOwn (vs : List Nat) (ρ : Env) : Bool := vs.all fun v => match ρ[v]? with
  | some (.own _) => false
  | _ => true
theorem noOwn_at {vs : List Nat} {ρ : Env} (h : noOwn vs ρ = true) {i : Nat} {d : D} (hi : ρ[i]? = some (.own d)) : i ∉ vs := fun hm => by
  have := List.all_eq_true.mp h i hm
  rw [hi] at this
  cases this
def lcF (ft : D → Env → Option Env) (fq : Env → Option Bool) (fe : Env → Option D) (ρ : Env) : List D → Option (List D)
  | [] => some []
  | d :: ds => (ft d ρ).bind fun ρ1 => (fq ρ1).bind fun b => if b then (fe ρ1).bind fun y => (lcF ft fq fe ρ ds).map (y :: ·) else lcF ft fq fe ρ ds
noncomputable def fLc (vs : List Nat) (fi : Env → Option (List D)) (ft : D → Env → Option Env) (fq : Env → Option Bool) (fe : Env → Option D) : Env → Option D := fun ρ => (fi ρ).bind fun ds =>
  (lcF ft fq fe (wipeE vs ρ) ds).bind fun es => gd (ds.length ≤ sizeLine ∧ noOwn vs ρ = true) (.lst es)
/-- one's own list, met again under the callers' -/
theorem StOk.keepF {K : PySem.W.Frag} {HF H0 H : Hp} {ρ : Env} {σ : L2.St} {p : Addr} {o : HO} (S : StOk K ct HF H0 H ρ σ) (h : H p = some o) (hF : HF p = none) (h0 : H0 p = none) (ne : ∀ (i : Nat) (e : D) (a : Addr), ρ[i]? = some (.own e) → σ[i]? = some (some (.ref a)) → a ≠ p) :
    StOk K ct (upd HF p o) H0 H ρ σ where
  e0 := S.e0
  ef := fun b x q => by
    by_cases hb : b = p
    · subst hb
      rw [upd_same] at q
      rw [h]
      exact q
    · rw [upd_ne hb] at q
      exact S.ef _ _ q
  dj := fun a u e => by
    by_cases ha : a = p
    · subst ha
      exact h0
    · rw [upd_ne ha] at e
      exact S.dj a u e
  len := S.len
  val := S.val
  own := fun i d e => by
    obtain ⟨a, u, h1, h2, h3, h4, h5⟩ := S.own i d e
    exact ⟨a, u, h1, by rw [upd_ne (ne i d a e h1)]; exact h2, h3, h4, h5⟩
  apart := S.apart
/-- its content changes -/
theorem StOk.writeF {K : PySem.W.Frag} {HF H0 H : Hp} {ρ : Env} {σ : L2.St} {p : Addr} {o o' : HO} (S : StOk K ct (upd HF p o) H0 H ρ σ) : StOk K ct (upd HF p o') H0 (upd H p o') ρ σ where
  e0 := fun b x q => by
    rw [upd_ne (fun z => by
      subst z
      have := S.dj _ o upd_same
      rw [this] at q
      cases q)]
    exact S.e0 _ _ q
  ef := same_updF S.ef
  dj := fun a u e => by
    by_cases ha : a = p
    · subst ha
      exact S.dj _ o upd_same
    · rw [upd_ne ha] at e
      exact S.dj a u (by rw [upd_ne ha]; exact e)
  len := S.len
  val := S.val
  own := fun i d e => by
    obtain ⟨a, u, h1, h2, h3, h4, h5⟩ := S.own i d e
    have ha : a ≠ p := fun z => by
      subst z
      rw [upd_same] at h2
      cases h2
    rw [upd_ne ha] at h2
    exact ⟨a, u, h1, by rw [upd_ne ha]; exact h2, h3, by rw [upd_ne ha]; exact h4, h5⟩
  apart := S.apart
where
  same_updF {HF H : Hp} {p : Addr} {o o' : HO} (e : Same (upd HF p o) H) : Same (upd HF p o') (upd H p o') := fun b x q => by
    by_cases hb : b = p
    · subst hb
      rw [upd_same] at q ⊢
      exact q
    · rw [upd_ne hb] at q ⊢
      exact e b x (by rw [upd_ne hb]; exact q)
/-- it is no more the callers' -/
theorem StOk.dropF {K : PySem.W.Frag} {HF H0 H : Hp} {ρ : Env} {σ : L2.St} {p : Addr} {o : HO} (S : StOk K ct (upd HF p o) H0 H ρ σ) (hF : HF p = none) : StOk K ct HF H0 H ρ σ where
  e0 := S.e0
  ef := fun b x q => S.ef b x (by rw [upd_ne (ne_of_none q hF)]; exact q)
  dj := fun a u e => S.dj a u (by rw [upd_ne (ne_of_none e hF)]; exact e)
  len := S.len
  val := S.val
  own := fun i d e => by
    obtain ⟨a, u, h1, h2, h3, h4, h5⟩ := S.own i d e
    have ha : a ≠ p := fun z => by
      subst z
      rw [upd_same] at h2
      cases h2
    rw [upd_ne ha] at h2
    exact ⟨a, u, h1, h2, h3, h4, h5⟩
  apart := S.apart
theorem lc_run {K : PySem.W.Frag} {js vs : List Nat} {fi : Env → Option (List D)} {ft : D → Env → Option Env} {fq : Env → Option Bool} {fe : Env → Option D} (hjs : ∀ j ∈ js, j ∈ vs) (hk : Kp js ft) {σ : L2.St} {H : Hp} {Q : VK} (h : tO K ct (fLc vs fi ft fq fe) σ H Q) :
    tLc (tI K ct fi) (tG K ct js ft) (tTe K ct fq) (tD K ct fe) vs σ H Q := by
  obtain ⟨HF, H0, ρ, z, S, hf, q⟩ := h
  obtain ⟨ds, hds, hf⟩ := bind_some hf
  obtain ⟨es, hes, hf⟩ := bind_some hf
  obtain ⟨hsz, rfl⟩ := gd_some hf
  obtain ⟨hsz, hno⟩ := hsz
  generalize hρw : wipeE vs ρ = ρw at hes
  refine ⟨HF, H0, ρ, ds, S, hds, fun J H1 H' e1 S1 W D hD => ?_⟩
  have hF1 : HF D = none := S1.freshF hD
  have h01 : H1 D = none := S1.fresh0 hD
  obtain ⟨S2, F⟩ := S1.fresh (d := .lst []) (o := .lst []) hD (show RepL K ct H1 [] [] from RepL.nil)
  refine ⟨fun i m H' => i + m = ds.length ∧ ∃ H2 xs ys rest, Same H1 H2 ∧ H2 D = none ∧ StOk K ct (upd HF D (.lst xs)) H2 H' ρ σ ∧ RepL K ct H2 ys xs ∧ lcF ft fq fe ρw (ds.drop i) = some rest ∧ ys ++ rest = es ∧ ys.length ≤ i,
    ⟨ds.length, by omega, H1, [], [], es, Same.refl _, h01, S2.keepF upd_same hF1 h01 F.ne, RepL.nil, by rw [List.drop_zero]; exact hes, rfl, Nat.le_refl _⟩, fun i m H' => ?_⟩
  rintro ⟨him, H2, xs, ys, rest, e2, h2D, S3, rl, hrest, hes2, hyl⟩
  obtain ⟨hgo, hstop⟩ := W H' (e2.trans S3.e0)
  by_cases hi : i < ds.length
  · rw [List.drop_eq_getElem_cons hi] at hrest
    simp only [lcF] at hrest
    obtain ⟨ρ1, h1, hrest⟩ := bind_some hrest
    obtain ⟨b, hb, hrest⟩ := bind_some hrest
    obtain ⟨g1, g2⟩ := hgo i ds[i] (List.getElem?_eq_getElem hi)
    refine .inr ⟨g1, fun H3 => (i + 1) + (m - 1) = ds.length ∧ ∃ H4 xs ys rest, Same H1 H4 ∧ H4 D = none ∧ StOk K ct (upd HF D (.lst xs)) H4 H3 ρ σ ∧ RepL K ct H4 ys xs ∧ lcF ft fq fe ρw (ds.drop (i + 1)) = some rest ∧ ys ++ rest = es ∧ ys.length ≤ i + 1, fun H3 h3 => ⟨m - 1, by omega, h3⟩, fun x H3 hy => ?_⟩
    obtain ⟨H4, e4, S4, r4⟩ := item_in S3 e2 (g2 x H3 hy)
    have Sw := StOk.wipes vs S4
    rw [hρw] at Sw
    refine ⟨_, H4, ρw, ds[i], ρ1, Sw, r4, h1, fun σ4 l4 k4 S5 => ⟨?_, ?_⟩⟩
    · exact wipe_eq (by rw [l4, wipe_length]) fun j hj => k4 j fun z => hj (hjs j z)
    · refine ⟨_, H4, ρ1, b, S5, hb, fun H5 H5' e5 S6 => ?_⟩
      -- the block's slots are left: the def's own come back
      have back : ∀ {HF' H6 H6' : Hp}, StOk K ct HF' H6 H6' ρ1 σ4 → Same H2 H6 → (∀ xs', HF' = upd HF D (.lst xs') → StOk K ct (upd HF D (.lst xs')) H6 H6' ρ σ) := fun {HF' H6 H6'} T e6 xs' eF => by
        subst eF
        refine ⟨T.e0, T.ef, T.dj, S4.len, fun i d e => ?_, fun i d e => ?_, S4.apart⟩
        · obtain ⟨v, q1, q2⟩ := S3.val i d e
          exact ⟨v, q1, q2.mono e6⟩
        · have hiv := noOwn_at hno e
          have h1i : ρ1[i]? = some (.own d) := by
            rw [hk _ _ _ h1 i fun z => hiv (hjs i z), ← hρw, wipeE_get vs ρ i hiv]
            exact e
          have h4i : σ4[i]? = σ[i]? := by
            rw [k4 i fun z => hiv (hjs i z), wipe_get, if_neg hiv]
          obtain ⟨a, u, q1, q2⟩ := T.own i d h1i
          exact ⟨a, u, h4i ▸ q1, q2⟩
      cases b with
      | false =>
        simp at hrest
        refine iteF ⟨by omega, H5, xs, ys, rest, (e2.trans e4).trans e5, S6.dj _ _ upd_same, back S6 (e4.trans e5) xs rfl, rl.mono (e4.trans e5), hrest, hes2, by omega⟩
      | true =>
        simp only [if_true] at hrest
        obtain ⟨y, hy2, hrest⟩ := bind_some hrest
        obtain ⟨rest2, hr2, rfl⟩ := map_some hrest
        refine iteT ⟨_, H5, ρ1, y, S6, hy2, fun v H6 H6' e6 S7 r7 => ?_⟩
        have hxl : xs.length = ys.length := rl.length
        refine ⟨xs, S7.ef _ _ upd_same, by omega, by omega, H6, xs ++ [v], ys ++ [y], rest2, ((e2.trans e4).trans e5).trans e6, S7.dj _ _ upd_same, (back S7 ((e4.trans e5).trans e6) xs rfl).writeF, (rl.mono ((e4.trans e5).trans e6)).append (RepL.one r7), hr2, by rw [List.append_assoc]; exact hes2, by simp; omega⟩
  · have ei : i = ds.length := by omega
    subst ei
    rw [List.drop_length] at hrest
    cases hrest
    rw [List.append_nil] at hes2
    subst hes2
    refine .inl ⟨hstop, q D (.lst xs) H2 H' (e1.trans e2) (S3.dropF hF1) ⟨hF1, h2D, S3.ef _ _ upd_same, rl, F.ne⟩⟩
end
end PD

/-! Defs: their promises by functions, their calls. -/
namespace PD
open PySem PySem.Spec PyProof.Rows L2
open Classical in
/-- the callers' part, with what the slots own -/
noncomputable def ownF (ρ : Env) (σ : L2.St) (HF H : Hp) : Hp := fun a => if ∃ (i : Nat) (d : D), ρ[i]? = some (.own d) ∧ σ[i]? = some (some (.ref a)) then H a else HF a
section
variable {K : PySem.W.Frag} {ct : Nat → Addr} {HF H0 H : Hp} {ρ : Env} {σ : L2.St}
theorem ownF_at {a : Addr} {i : Nat} {d : D} (h : ρ[i]? = some (.own d)) (hs : σ[i]? = some (some (.ref a))) : ownF ρ σ HF H a = H a := by
  unfold ownF
  rw [if_pos ⟨i, d, h, hs⟩]
theorem StOk.ownF (S : StOk K ct HF H0 H ρ σ) : Same (ownF ρ σ HF H) H ∧ ∀ a o, ownF ρ σ HF H a = some o → H0 a = none := by
  constructor
  · intro a o h
    unfold PD.ownF at h
    split at h
    · exact h
    · exact S.ef a o h
  · intro a o h
    unfold PD.ownF at h
    split at h
    · rename_i hx
      obtain ⟨i, d, h1, h2⟩ := hx
      obtain ⟨b, u, g1, g2, g3, g4, g5⟩ := S.own i d h1
      rw [h2] at g1
      cases g1
      exact g3
    · exact S.dj a o h
theorem StOk.behind (S : StOk K ct HF H0 H ρ σ) {H0' H' : Hp} (e : Same H0 H0') (e0 : Same H0' H') (ef : Same (PD.ownF ρ σ HF H) H') (dj : ∀ a o, PD.ownF ρ σ HF H a = some o → H0' a = none) : StOk K ct HF H0' H' ρ σ := by
  have inF : ∀ a o, HF a = some o → PD.ownF ρ σ HF H a = some o := fun a o h => by
    unfold PD.ownF
    split
    · exact S.ef a o h
    · exact h
  refine ⟨e0, fun a o h => ef a o (inF a o h), fun a o h => dj a o (inF a o h), S.len, fun i d h => ?_, fun i d h => ?_, S.apart⟩
  · obtain ⟨v, h1, h2⟩ := S.val i d h
    exact ⟨v, h1, h2.mono e⟩
  · obtain ⟨a, u, h1, h2, h3, h4, h5⟩ := S.own i d h
    have q : PD.ownF ρ σ HF H a = some u := by rw [ownF_at h h1]; exact h4
    exact ⟨a, u, h1, h2, dj a u q, ef a u q, h5.mono e⟩
end
section
variable (K : PySem.W.Frag) (ct : Nat → Addr)
/-- a def that gives F of its arguments' values -/
def spD (n : Nat) (F : List D → Option D) : Sp := fun vs H Q _ => ∃ HF H0 ds d, vs.length = n ∧ Same H0 H ∧ Same HF H ∧ (∀ a o, HF a = some o → H0 a = none) ∧ RepL K ct H0 ds vs ∧ F ds = some d ∧
  ∀ v H0' H', Same H0 H0' → Same H0' H' → Same HF H' → (∀ a o, HF a = some o → H0' a = none) → Rep K ct H0' d v → Q v H'
end
/-- a body's value -/
def runF (N : Nat) (f : Env → Option Out) (ds : List D) : Option D := match f (ds.map .val ++ List.replicate (N - ds.length) .un) with
  | some (.rt d) => some d
  | some (.nx _) => some .non
  | _ => none
section
variable {X : Cx} {ct : Nat → Addr} {k : Nat} {f : Addr} {fd : FuncData} {ps : List Str} {x : Str} {p pos : Pos} {e : Expr} {es : List Expr} {fa : Env → Option (List D)} {F : List D → Option D} {n : Nat}
def fCall (F : List D → Option D) (dd : List D) (fa : Env → Option (List D)) : Env → Option D := fun ρ => (fa ρ).bind fun ds => F (ds ++ dd)
theorem call_run {K : PySem.W.Frag} {dvs : List V} {dd : List D} {E : XK} (hd : ∀ H, RepL K ct H dd dvs) {t : TA} (ht : ∀ σ H Q, tAr K ct fa σ H Q → t σ H Q) {σ : L2.St} {H : Hp} {Q : VK}
    (hn : ∀ ρ ds, fa ρ = some ds → ds.length + dd.length = n) (h : tD K ct (fCall F dd fa) σ H Q) : tCall (spD K ct n F) dvs E t σ H Q := by
  obtain ⟨HF, H0, ρ, z, S, hf, q⟩ := h
  obtain ⟨ds, hds, hz⟩ := bind_some hf
  refine ht _ _ _ ⟨HF, H0, ρ, ds, S, hds, fun vs H1 H' e1 S1 r1 => ?_⟩
  obtain ⟨hF, dj⟩ := S1.ownF
  refine ⟨PD.ownF ρ σ HF H', H1, ds ++ dd, z, ?_, S1.e0, hF, dj, r1.append (hd H1), hz, fun v H2 H'' e2 e3 e4 d4 r2 => ?_⟩
  · rw [List.length_append, r1.length, (hd H1).length]
    exact hn ρ ds hds
  · exact q v H2 H'' (e1.trans e2) (S1.behind e2 e3 e4 d4) r2
theorem aCons_len {fa : Env → Option D} {fr : Env → Option (List D)} {m : Nat} (h : ∀ ρ ds, fr ρ = some ds → ds.length = m) : ∀ ρ ds, aCons fa fr ρ = some ds → ds.length = m + 1 := fun ρ ds hd => by
  obtain ⟨x, hx, hd⟩ := bind_some hd
  obtain ⟨xs, hxs, hd⟩ := bind_some hd
  cases hd
  rw [List.length_cons, h ρ xs hxs]
theorem aNil_len : ∀ ρ ds, aNil ρ = some ds → ds.length = 0 := fun ρ ds h => by
  cases h
  rfl
theorem e_call {ds : List Value} {dvs : List V} {dd : List D} (G : FnOk X.prog X.w X.K X.mg X.base CX0 k f fd ps (spD X.K ct n F)) (hr : Room k X.A) (hg : Gl X x) (hm : X.mg x = some (.ref f)) (hk : PySem.W.keepIn X.K (.ref f) = true) (hb : Binds X.K fd ps ds) (hd : Vals dvs ds)
    (hdd : ∀ H, RepL X.K ct H dd dvs) (ha : PA X (e :: es) (tAr X.K ct fa)) (hn : ∀ ρ ds, fa ρ = some ds → ds.length + dd.length = n) (he : starEach (e :: es) X.env = (false, eval e X.env) :: starEach es X.env := by rfl) (hpl : (backTo pos (starEach es X.env)).any (·.1) = false := by rfl)
    (hdb : (x == ("__debug__" : Str)) = false := by decide +kernel) : PE X (.Call (.Name x p) (e :: es) [] pos) (tD X.K ct (fCall F dd fa)) :=
  (pe_call G hr hg hm hk hb hd pass0 ha hdb he hpl).weak fun σ H Q h => call_run hdd (fun _ _ _ h => h) hn h
theorem e_call0 (G : FnOk X.prog X.w X.K X.mg X.base CX0 k f fd ps (spD X.K ct 0 F)) (hr : Room k X.A) (hg : Gl X x) (hm : X.mg x = some (.ref f)) (hk : PySem.W.keepIn X.K (.ref f) = true) (hb : Binds X.K fd ps [])
    (hdb : (x == ("__debug__" : Str)) = false := by decide +kernel) : PE X (.Call (.Name x p) [] [] pos) (tD X.K ct (fCall F [] aNil)) :=
  (pe_call0 G hr hg hm hk hb .nil pass0 hdb).weak fun σ H Q h => call_run (fun _ => RepL.nil) (fun σ H Q ⟨HF, H0, ρ, ds, S, hf, q⟩ => by cases hf; exact q [] H0 H (Same.refl _) S RepL.nil) (fun ρ ds h => by cases h; rfl) h
end
section
variable {P : Program} {w : World} {K : PySem.W.Frag} {mg : Str → Option Value} {base : Heap} {ct : Nat → Addr}
theorem start_ok {HF H0 H : Hp} {ds : List D} {vs : List V} {N : List Str} (h0 : Same H0 H) (hF : Same HF H) (dj : ∀ a o, HF a = some o → H0 a = none) (r : RepL K ct H0 ds vs) (hn : vs.length ≤ N.length) :
    StOk K ct HF H0 H (ds.map .val ++ List.replicate (N.length - ds.length) .un) (L2.start N vs) where
  e0 := h0
  ef := hF
  dj := dj
  len := by
    unfold L2.start
    rw [List.length_append, List.length_append, List.length_map, List.length_map, List.length_replicate, List.length_replicate, r.length]
  val := fun i d h => by
    rw [List.getElem?_append] at h
    split at h
    · rename_i hi
      rw [List.length_map] at hi
      rw [List.getElem?_map] at h
      obtain ⟨d', hd, e⟩ := map_some h
      cases e
      obtain ⟨v, hv, rv⟩ := r.get hd
      refine ⟨v, ?_, rv⟩
      unfold L2.start
      rw [List.getElem?_append_left (by rw [List.length_map, r.length]; exact hi), List.getElem?_map, hv]
      rfl
    · rw [List.getElem?_replicate] at h
      split at h <;> cases h
  own := fun i d h => by
    rw [List.getElem?_append] at h
    split at h
    · rw [List.getElem?_map] at h
      obtain ⟨d', hd, e⟩ := map_some h
      cases e
    · rw [List.getElem?_replicate] at h
      split at h <;> cases h
  apart := fun i j d e a h => by
    rw [List.getElem?_append] at h
    split at h
    · rw [List.getElem?_map] at h
      obtain ⟨d', hd, e⟩ := map_some h
      cases e
    · rw [List.getElem?_replicate] at h
      split at h <;> cases h
/-- THE RULE for a def -/
theorem fn_ok {x qual : Str} {st : Stmt} {f : Addr} {fd : FuncData} {N ps : List Str} {k : Nat} {fb : Env → Option Out} (F : Fun K x qual st f fd) (S : FnScope N ps (defScope st))
    (hb : ∀ (cdv : Value) (A : Around) (outer : List PySem.Env) (s : Shared) (H : Hp) (E : XK), Room k (A.deeper (envOfC qual (defScope st) s.heap.objs.size f cdv)) →
      PSs (cxOf CX0 P w K mg base N qual (defScope st) f cdv A outer s H E).nox (defBody st) (tSt K ct fb)) (hN : ps.length ≤ N.length := by decide) :
    FnOk P w K mg base CX0 (k + 1) f fd ps (spD K ct ps.length (runF N.length fb)) := by
  refine F.ok S (fun vs H Q E h => ?_) (fun cdv A outer s H vs Q E hr h => ?_)
  · obtain ⟨HF, H0, ds, d, hl, _⟩ := h
    exact hl
  · obtain ⟨HF, H0, ds, d, hl, h0, hF, dj, r, hf, q⟩ := h
    refine ⟨_, hb cdv A outer s H E hr, ?_⟩
    unfold runF at hf
    split at hf
    · rename_i d' hd
      cases hf
      exact ⟨HF, H0, _, _, start_ok h0 hF dj r (by rw [hl]; exact hN), hd, fun v H1 H' e1 e2 e3 d3 r1 => q v H1 H' e1 e2 e3 d3 r1⟩
    · rename_i ρ hd
      cases hf
      exact ⟨HF, H0, _, _, start_ok h0 hF dj r (by rw [hl]; exact hN), hd, fun σ H1 H' e1 S1 => q .non H1 H' e1 S1.e0 S1.ef S1.dj (by simp only [Rep])⟩
    · cases hf
/-- another function that says as much -/
theorem spD_imp {n : Nat} {F G : List D → Option D} (h : ∀ ds d, G ds = some d → F ds = some d) : ∀ vs H Q E, spD K ct n G vs H Q E → spD K ct n F vs H Q E := fun vs H Q E ⟨HF, H0, ds, d, h1, h2, h3, h4, h5, h6, h7⟩ => ⟨HF, H0, ds, d, h1, h2, h3, h4, h5, h _ _ h6, h7⟩
/-- the law's own end -/
theorem law_end {F : List D → Option D} {m : Nat} (h : ∀ ns : List Int, ns.length ≤ m → F [.frl (ns.map .int)] = some (.bl true)) {H : Hp} {a : Addr} {ns : List Int} (hl : ns.length ≤ m) (hS : SqL K H a (ns.map V.int)) :
    spD K ct 1 F [.ref a] H (fun v _ => v = .bl true) fun _ _ _ => False :=
  ⟨fun _ => none, H, _, _, rfl, (fun _ _ h => h), (fun _ _ h => by cases h), (fun _ _ h => by cases h), RepL.one (by simp only [Rep]; exact ⟨a, _, rfl, hS, RepL.of_ints ns⟩), h ns hl, fun v H0' H' _ _ _ _ r => by simpa only [Rep] using r⟩
end
end PD

/-! sorted of a list or a tuple of alike data; list.count of texts. -/
namespace PD
open PySem PySem.Spec PyProof.Rows L2

section
variable {prog : Program} {w : World} {A : Around} {E : Value → Shared → Prop} {s : Shared}
/-- what sorted makes first: a list of the items -/
theorem collect_sq {l : Addr} {o : Obj} {T : String} {n : Nat} {vs : List Value} {Q : List Value → Shared → Prop} (hT : T = "list" ∨ T = "tuple") (ho : s.heap.get? l = some o) (hc : o.cls = .type T) (hd : o.data = .seq vs.toArray n) (hz : vs.length ≤ sizeLine)
    (h : Q vs { s with heap := (s.heap.push (seqObj "list" #[] 0)).update s.heap.objs.size (Obj.mapSeq (· ++ vs.toArray)) }) : wpAny (model prog w) A (collect (.ref l)) Q E s := by
  rcases hT with rfl | rfl
  · exact collect_list ⟨o, ho, hc, n, hd⟩ h hz
  · unfold collect
    refine wpAny_bind (wpAny_runValue (codeAny_builtin entry_proto_collect' ?_))
    refine wpAny_bind (M := model prog w) (wpAny_newList (wpAny_pure ⟨Code.quiet_builtin _ (by decide +kernel), codeAny_builtin entry_list_iadd' ?_⟩))
    show wpAny _ _ (Builtin.List.listExtendWith (.ref s.heap.objs.size) (.ref l) (.ref s.heap.objs.size)) _ _ { s with heap := s.heap.push (seqObj "list" #[] 0) }
    unfold Builtin.List.listExtendWith
    have h2 : (s.heap.push (seqObj "list" #[] 0)).get? l = some o := Heap.get?_push_of_some _ ho
    have h3 : (s.heap.push (seqObj "list" #[] 0)).get? s.heap.objs.size = some (seqObj "list" #[] 0) := Heap.get?_push_size _ rfl
    refine wpAny_bind (wpAny_typeOf (T := "tuple") ⟨o, h2, hc⟩ ?_)
    rw [if_pos (by rw [show (Value.type "tuple" == Value.type "tuple") = true from by rfl]; simp)]
    refine wpAny_bind (listItems_at h2 hd (wpAny_bind (listItems_at (xs := #[]) (n := 0) h3 rfl ?_)))
    rw [if_neg (by simp)]
    refine wpAny_bind (listUpdate_at (xs := #[]) (n := 0) h3 rfl (wpAny_pure ?_) (Nat.zero_le _) (by simp only [Array.size_append, List.size_toArray, List.size_toArray, List.length_nil, Array.size_empty]; omega))
    refine wpAny_bind (wpAny_load (get?_update_seq h3 _) ?_)
    have e : ((#[] : Array Value) ++ vs.toArray).toList = vs := by simp
    exact wpAny_pure (by rw [e]; exact h)
/-- sorted of a list or a tuple whose items read as alike data -/
theorem sorted_sq {β : Type} {R : Value → β → Prop} {enc : β → PyData} {bs : List β} {l : Addr} {o : Obj} {T : String} {n : Nat} {vs : List Value} {Q : Value → Shared → Prop} (hT : T = "list" ∨ T = "tuple") (ho : s.heap.get? l = some o) (hc : o.cls = .type T) (hd : o.data = .seq vs.toArray n)
    (e : PySem.W.EachIs R vs bs) (er : PySem.W.EachIs (fun v b => ∃ as, Reads s.heap v (enc b) as) vs bs) (hal : PySem.W.AllAlike (bs.map enc)) (hk : PySem.W.Sortable (bs.map enc)) (hL : bs.length ≤ sizeLine) (hu : ∀ b, b ∈ bs → A.units + 2 + (enc b).depth < cLine)
    (h : ∀ out, out.length = bs.length → PySem.W.EachIs R out (bs.mergeSort (PySem.W.dataLe false enc)) → Q (.ref (s.heap.objs.size + 1)) { s with heap := sortedAll s.heap vs (List.toArray out) }) :
    wpAny (model prog w) A (call (.builtin "sorted") [.ref l]) Q E s := by
  have hvs : vs.length ≤ sizeLine := by rw [e.length]; exact hL
  refine PySem.Calls.call_function_entry kind_sorted plain_sorted entry_sorted (args_sorted1 _) ?_
  unfold Builtin.«sorted»
  refine wpAny_bind (m := checkCount "sorted" 1 1 _) (wpAny_pure (wpAny_bind (collect_sq hT ho hc hd hvs (wpAny_bind (wpAny_newList ?_ hvs)))))
  have er' : PySem.W.EachIs (fun v b => ∃ as, Reads (PySem.W.sortingHeap (PySem.W.copyHeap s.heap vs) (s.heap.objs.size + 1) vs) v (enc b) as) vs bs := er.mono fun _ _ ⟨as, r⟩ => ⟨as, PyProof.Rows.Reads.keeps (fun _ _ => PySem.W.sorting_copy_old) r⟩
  have hsz : ((s.heap.push (seqObj "list" #[] 0)).update s.heap.objs.size (Obj.mapSeq (· ++ vs.toArray))).objs.size = s.heap.objs.size + 1 := by rw [Heap.size_update, size_push']
  show wpAny _ _ _ _ _ { s with heap := PySem.W.copyHeap s.heap vs }
  rw [hsz]
  have body : ∀ E' : Value → Shared → Prop, wpAny (model prog w) A.in1.in1 (Builtin.«list.sort» ⟨[.ref (s.heap.objs.size + 1)], []⟩) (fun f s' => f = .done (.ret .none) ∧ Q (.ref (s.heap.objs.size + 1)) s') E' { s with heap := PySem.W.copyHeap s.heap vs } := fun E' =>
    PySem.W.list_sort_vals (s := { s with heap := PySem.W.copyHeap s.heap vs }) (PySem.W.copyHeap_at s.heap vs)
      (PySem.W.SortsAt.data (s := { s with heap := PySem.W.sortingHeap (PySem.W.copyHeap s.heap vs) (s.heap.objs.size + 1) vs }) (PySem.W.each_map (R := fun v d => ∃ as, Reads (PySem.W.sortingHeap (PySem.W.copyHeap s.heap vs) (s.heap.objs.size + 1) vs) v d as) enc er') hal hk (PySem.W.bound_map hu)) hvs
      ⟨rfl, h _ (by rw [PySem.W.sortVals_length false rfl]; exact e.length) (PySem.W.sortVals_data false e er' hal)⟩
  refine wpAny_bind (wpAny_holding (wpAny_call_entry slot_list_sort ⟨_, PySem.W.copyHeap_at s.heap vs, rfl⟩ entry_list_sort ?_ (args_list_sort _)))
  refine wpAny_mono (body _) (fun f s' hf => ?_) fun _ _ z => z
  obtain ⟨rfl, hq⟩ := hf
  exact ⟨_, rfl, wpAny_pure ⟨_, rfl, hq⟩⟩
end
section
variable {X : Cx}
def rSortA (K : PySem.W.Frag) : List V → Hp → VK → Prop := fun xs H Q => ∃ (a : Addr) (ys : List V) (ds : List D) (R : D → V → Prop), xs = [.ref a] ∧ (SqL K H a ys ∨ SqT K H a ys) ∧ Paired R ds ys ∧ (∀ d y, R d y → d ∈ ds → Dp K H y (toPy d)) ∧
  PySem.W.AllAlike (ds.map toPy) ∧ PySem.W.Sortable (ds.map toPy) ∧ (∀ d ∈ ds, (toPy d).depth ≤ 40) ∧ ∀ zs p, Paired R (ds.mergeSort (PySem.W.dataLe false toPy)) zs → H p = none → Q (.ref p) (upd H p (.lst zs))
theorem each_of : ∀ {R : D → V → Prop} {ds : List D} {ys : List V} {us : List Value}, Paired R ds ys → Vals ys us → PySem.W.EachIs (fun u d => ∃ y, R d y ∧ RelV y u) us ds
  | _, _, _, _, .nil, .nil => .nil
  | _, _, _, _, .cons r t, .cons q u => .cons ⟨_, r, q⟩ (each_of t u)
theorem of_each : ∀ {R : D → V → Prop} {ds : List D} {us : List Value}, PySem.W.EachIs (fun u d => ∃ y, R d y ∧ RelV y u) us ds → ∃ ys, Paired R ds ys ∧ Vals ys us
  | _, _, _, .nil => ⟨[], .nil, .nil⟩
  | _, _, _, .cons ⟨y, r, q⟩ t => by
    obtain ⟨ys, h1, h2⟩ := of_each t
    exact ⟨y :: ys, .cons r h1, .cons q h2⟩
theorem call_sortA (hu : X.A.units + 64 < cLine) : CallR X (.builtin "sorted") (rSortA X.K) := by
  intro pins s σ H xs us Q I r h
  obtain ⟨a, ys, ds, R, rfl, hq, hp, hdp, hal, hk, hdep, q⟩ := h
  obtain ⟨u, rfl, rx⟩ := vals1 r
  cases rx
  have main : ∀ (its : List Value) (o : Obj) (T : String) (n : Nat), (T = "list" ∨ T = "tuple") → Vals ys its → ys.length ≤ sizeLine → s.heap.get? a = some o → o.cls = .type T → o.data = .seq its.toArray n →
      wpAny (model X.prog X.w) X.A (call (.builtin "sorted") [.ref a]) (EP X pins σ Q) X.xe s := fun its o T n hT rv hz ho hc hd => by
    have e := each_of hp rv
    have hlen : ds.length ≤ sizeLine := by rw [hp.length]; exact hz
    refine sorted_sq (enc := toPy) hT ho hc hd e ?_ hal hk hlen (fun b hb => ?_) fun out ho2 he => ?_
    · refine (each_mem' e).mono fun v b ⟨⟨y, h1, h2⟩, hb⟩ => ?_
      exact Dp.reads I (toPy b) y v (hdp b y h1 hb) h2
    · have := hdep b hb
      omega
    · obtain ⟨zs, h1, h2⟩ := of_each he
      obtain ⟨ep, hat⟩ := sortedAll_at s.heap its out.toArray
      have hzl : zs.length ≤ sizeLine := by
        rw [← h1.length, List.length_mergeSort]
        exact hlen
      exact ⟨.ref _, upd H (s.heap.objs.size + 1) (.lst zs), I.laid (t' := s.toks) (fun _ _ => sortedAll_old) (Nat.le_succ _) ⟨hzl, out, ep, h2, hat⟩, rfl, q zs _ h1 (I.hok.fresh (Nat.le_succ _))⟩
  rcases hq with hq | hq
  · obtain ⟨its, rv, pl, hz⟩ := I.list hq
    obtain ⟨o, ho, hc, n, hd⟩ := pl.isList
    exact main its o "list" n (.inl rfl) rv hz ho hc hd
  · obtain ⟨its, rv, pl, hz⟩ := I.tuple hq
    obtain ⟨o, ho, hc, n, hd⟩ := pl
    exact main its o "tuple" n (.inr rfl) rv hz ho hc hd
where
  each_mem' {R : Value → D → Prop} : ∀ {us : List Value} {ds : List D}, PySem.W.EachIs R us ds → PySem.W.EachIs (fun v b => R v b ∧ b ∈ ds) us ds
    | _, _, .nil => .nil
    | _, _, .cons h t => .cons ⟨h, List.mem_cons_self⟩ ((each_mem' t).mono fun _ _ z => ⟨z.1, List.mem_cons_of_mem _ z.2⟩)
end
section
variable {K : PySem.W.Frag} {ct : Nat → Addr}
/-- what sorted takes here: alike data without objects, tuples that are not empty -/
def SortOk (ds : List D) : Prop := plainL ds = true ∧ PySem.W.AllAlike (ds.map toPy) ∧ PySem.W.Sortable (ds.map toPy) ∧ ∀ d ∈ ds, (toPy d).depth ≤ 40
open Classical in
noncomputable def sortedD (x : D) : Option D := (seqD x).bind fun ds => if SortOk ds then some (.lst (ds.mergeSort (PySem.W.dataLe false toPy))) else none
theorem plainL_mem : ∀ {ds : List D} {d : D}, plainL ds = true → d ∈ ds → plainD d = true
  | e :: ds, d, h, hm => by
    simp only [plainL, Bool.and_eq_true] at h
    rcases List.mem_cons.mp hm with rfl | hm
    · exact h.1
    · exact plainL_mem h.2 hm
theorem RepL.paired {H : Hp} : ∀ {ds : List D} {xs : List V}, RepL K ct H ds xs → Paired (fun d y => Rep K ct H d y) ds xs
  | [], _, h => by rw [h.of_nil]; exact .nil
  | d :: ds, _, h => by
    obtain ⟨y, ys, rfl, hd, hl⟩ := h.uncons
    exact .cons hd (RepL.paired hl)
theorem RepL.of_paired {H : Hp} : ∀ {ds : List D} {xs : List V}, Paired (fun d y => Rep K ct H d y) ds xs → RepL K ct H ds xs
  | _, _, .nil => RepL.nil
  | _, _, .cons h t => RepL.cons h (RepL.of_paired t)
theorem sorted_ok : Fn1O K ct (rSortA K) sortedD := fun HF H0 H ρ σ x z v Q S hx hz q => by
  unfold sortedD at hz
  obtain ⟨ds, hs, hz⟩ := bind_some hz
  split at hz
  · rename_i hok
    cases hz
    obtain ⟨a, xs, rfl, h, r⟩ := hx.seq S hs
    refine ⟨a, xs, ds, fun d y => Rep K ct H0 d y, rfl, h, r.paired, fun d y hr hm => dp_of (hr.mono S.e0) (plainL_mem hok.1 hm), hok.2.1, hok.2.2.1, hok.2.2.2, fun zs p hz hp => ?_⟩
    obtain ⟨S2, F⟩ := S.fresh (d := .lst _) (o := .lst zs) hp (RepL.of_paired hz)
    exact q _ _ _ _ (Same.refl _) S2 F
  · cases hz

/-! ### list.count of a text -/
def rCntS (K : PySem.W.Frag) : V → List V → Hp → VK → Prop := fun x xs H Q => ∃ (p : Addr) (ns : List Str) (k : Str), x = .ref p ∧ xs = [.str k] ∧ SqL K H p (ns.map V.str) ∧ Q (.int (ns.count k : Nat)) H
theorem countIn_strs (k : Str) : ∀ ns : List Str, countIn (.str k) (ns.map PyData.str) = ((ns.count k : Nat) : Int)
  | [] => rfl
  | n :: ns => by
    rw [List.map_cons, countIn, countIn_strs k ns, List.count_cons]
    simp only [same]
    rcases Bool.eq_false_or_eq_true (n == k) with hb | hb <;> simp only [hb, Bool.false_eq_true, if_true, if_false] <;> push_cast <;> omega
theorem mt_countS {X : Cx} : MtR X "list.count" (rCntS X.K) := by
  intro pins s σ H x xs v us Q I rx rxs h
  obtain ⟨p, ns, k, rfl, rfl, hs, q⟩ := h
  cases rx
  obtain ⟨u, rfl, ru⟩ := rxs.one
  obtain ⟨t, rfl⟩ := ru
  obtain ⟨its, rv, hl, hz⟩ := I.list hs
  refine count_list_strs hl.isList rv.strs ?_
  rw [countIn_strs]
  exact ⟨.int (ns.count k : Nat), H, I.tok _, ⟨_, rfl⟩, q⟩
def cntD (x y : D) : Option D := match y with
  | .str k => ((lstOf x).bind strsOf).map fun ns => .int (ns.count k : Nat)
  | _ => none
theorem cnt_ok : Op2 K ct (fun x y H Q => rCntS K x [y] H Q) cntD := fun HF H0 H ρ σ x y z v u Q S hx hy hz q => by
  unfold cntD at hz
  split at hz
  · rename_i k
    obtain ⟨ns, hn, rfl⟩ := map_some hz
    obtain ⟨ds, hd, hn⟩ := bind_some hn
    have e := strsOf_some hn
    subst e
    obtain ⟨a, xs, rfl, h, r⟩ := hx.lstOf S hd
    have e := r.strs
    subst e
    exact ⟨a, ns, k, rfl, by rw [hy.str S], h, q _ _ _ (Same.refl _) S (by simp only [Rep])⟩
  · cases hz
end
section
variable {X : Cx} {ct : Nat → Addr} {o e : Expr} {es : List Expr} {fa fb : Env → Option D} {T name id : String} {apos cpos : Pos} {r : V → List V → Hp → VK → Prop} {g : D → D → Option D}
/-- o.m(e), a method of a built-in type -/
theorem e_bm1 (pa : PlainAttrs T) (slot : PySem.Slot T name id) (hty : typeOf (.builtin id) = pure (.type "method_descriptor")) (hm : MtR X id r) (hg : Op2 X.K ct (fun x y H Q => r x [y] H Q) g) (ho : PE X o (tBo X.K ct fa)) (ha : PE X e (tBo X.K ct fb))
    (hT : ∀ HF H0 H ρ σ (x y z : D) (v : V), StOk X.K ct HF H0 H ρ σ → BRep X.K ct ρ σ H0 x v → g x y = some z → tyV X.K T v H)
    (hE : PE X (.Call (.Attribute o name apos) [e] [] cpos) (tBM X.K T r (tBo X.K ct fa) (tCons (tBo X.K ct fb) tNil))) :
    PE X (.Call (.Attribute o name apos) [e] [] cpos) (tD X.K ct (f2 fa fb g)) := hE.weak fun σ H Q => by
  rintro ⟨HF, H0, ρ, z, S, hf, q⟩
  obtain ⟨x, hx, hf⟩ := bind_some hf
  obtain ⟨y, hy, hz⟩ := bind_some hf
  refine ⟨HF, H0, ρ, x, S, hx, fun v H1 H' e1 S1 r1 => ⟨hT _ _ _ _ _ _ _ _ _ S1 r1 hz, HF, H1, ρ, y, S1, hy, fun u H2 H'' e2 S2 r2 => ?_⟩⟩
  exact hg HF H2 H'' ρ σ x y z v u Q S2 (r1.mono e2) r2 hz fun w H3 H3' e3 S3 r3 => q w H3 H3' ((e1.trans e2).trans e3) S3 r3
theorem cnt_ty {K : PySem.W.Frag} : ∀ HF H0 H ρ σ (x y z : D) (v : V), StOk K ct HF H0 H ρ σ → BRep K ct ρ σ H0 x v → cntD x y = some z → tyV K "list" v H := fun HF H0 H ρ σ x y z v S hx hz => by
  unfold cntD at hz
  split at hz
  · obtain ⟨ns, hn, _⟩ := map_some hz
    obtain ⟨ds, hd, hn⟩ := bind_some hn
    obtain ⟨a, xs, rfl, h, r⟩ := hx.lstOf S hd
    exact .inl ⟨rfl, xs, h⟩
  · cases hz
end
end PD

/-! Short forms for the printed derivations. -/
namespace PD
open PySem PySem.Spec PyProof.Rows L2

section
variable {X : Cx} {ct : Nat → Addr} {e a b c : Expr} {es : List Expr} {pos : Pos} {fa fb fc : Env → Option D}
theorem d_o {K : PySem.W.Frag} {σ : L2.St} {H : Hp} {Q : VK} (h : tD K ct fa σ H Q) : tO K ct fa σ H Q := by
  obtain ⟨HF, H0, ρ, d, S, hf, q⟩ := h
  refine ⟨HF, H0, ρ, d, S, hf, fun p o H0' H' e1 S1 F => ?_⟩
  obtain ⟨e2, S2, r⟩ := F.give S1
  exact q _ _ _ (e1.trans e2) S2 r
theorem e_chain {op op' : CmpOp} {r r' : R2} {g g' : D → D → Option D} (ho : OpR X (compareOp op) r) (hg : Op2 X.K ct r g) (ho' : OpR X (compareOp op') r') (hg' : Op2 X.K ct r' g') (ha : PE X a (tBo X.K ct fa)) (hb : PE X b (tBo X.K ct fb)) (hc : PE X c (tBo X.K ct fc))
    (hm : lastMarks [op, op'] [b, c] = false := by with_unfolding_all rfl) : PE X (.Compare a [op, op'] [b, c] pos) (tD X.K ct (fChain fa fb fc g g')) := (pe_chain ho ho' ha hb hc hm).weak fun _ _ _ => chain hg hg'
theorem t_chain {op op' : CmpOp} {r r' : R2} {g g' : D → D → Option D} (ho : OpR X (compareOp op) r) (hg : Op2 X.K ct r g) (ho' : OpR X (compareOp op') r') (hg' : Op2 X.K ct r' g') (ha : PE X a (tBo X.K ct fa)) (hb : PE X b (tBo X.K ct fb)) (hc : PE X c (tBo X.K ct fc))
    (hm : lastMarks [op, op'] [b, c] = false := by with_unfolding_all rfl) : PT X (.Compare a [op, op'] [b, c] pos) (tTe X.K ct (fT (fChain fa fb fc g g'))) := (pt_chain ho ho' ha hb hc hm).weak fun σ H Q h => chain hg hg' (t_of h)
def qYes : Env → Option Bool := fun _ => some true
theorem _root_.L2.PTs.weak {es : List Expr} {t t' : TT} (h : PTs X es t) (w : ∀ σ H Q, t' σ H Q → t σ H Q) : PTs X es t' := ⟨fun pins s σ H Q I q => h.run pins s σ H Q I (w _ _ _ q)⟩
theorem q_nil : PTs X [] (tTe X.K ct qYes) := pts_nil.weak fun σ H Q => by
  rintro ⟨HF, H0, ρ, b, S, hf, q⟩
  cases hf
  exact q H0 H (Same.refl _) S
theorem q_one {ft : Env → Option Bool} (h : PT X c (tTe X.K ct ft)) : PTs X [c] (tTe X.K ct ft) := pts_one h
section
variable {elt tg iter : Expr} {ifs : List Expr} {scope : Scope} {own : List (Str × Nat)} {js : List Nat} {fi : Env → Option (List D)} {ft : D → Env → Option Env} {fq : Env → Option Bool} {fe : Env → Option D}
theorem o_lc (hc : X.calm = true) (hN : X.N.Nodup) (ok : blkC X.N X.env.scope scope own = true) (hjs : (js.all fun j => decide (j ∈ own.map (·.2))) = true) (hk : Kp js ft) (hi : PI X tg iter (tI X.K ct fi))
    (hg : ∀ (s : Shared) (H : Hp) (C : Addr) (cl : List (Str × Addr)) (fp : List Addr), PG (X.blk s H scope (compEnvC scope cl C X.env) fp) tg (tG X.K ct js ft)) (ht : ∀ (s : Shared) (H : Hp) (C : Addr) (cl : List (Str × Addr)) (fp : List Addr), PTs (X.blk s H scope (compEnvC scope cl C X.env) fp) ifs (tTe X.K ct fq))
    (he : ∀ (s : Shared) (H : Hp) (C : Addr) (cl : List (Str × Addr)) (fp : List Addr), PE (X.blk s H scope (compEnvC scope cl C X.env) fp) elt (tD X.K ct fe)) (hs : ∀ x, foldedSetIterable iter X.env x = pure x := by intro _; rfl) :
    PE X (.ListComp elt [⟨tg, iter, ifs, 0⟩] scope pos) (tO X.K ct (fLc (own.map (·.2)) fi ft fq fe)) :=
  (pe_lc hc hN hi (blkOk_by ok) hg ht he hs).weak fun σ H Q h => lc_run (fun j hj => of_decide_eq_true (List.all_eq_true.mp hjs j hj)) hk h
theorem s_asgLc {i : Nat} {y : Str} {py spos : Pos} (hc : X.calm = true) (hN : X.N.Nodup) (hy : X.N[i]? = some y) (hyl : X.env.scope.names.lookup y = some .local) (hsw : swapsWith (.ListComp elt [⟨tg, iter, ifs, 0⟩] scope pos) (some (.Name y py)) spos.line X.env = pure true)
    (ok : blkC X.N X.env.scope scope own = true) (hjs : (js.all fun j => decide (j ∈ own.map (·.2))) = true) (hk : Kp js ft) (hi : PI X tg iter (tI X.K ct fi))
    (hg : ∀ (s : Shared) (H : Hp) (C : Addr) (cl : List (Str × Addr)) (fp : List Addr), PG (X.blk s H scope (compEnvC scope cl C X.env) fp) tg (tG X.K ct js ft)) (ht : ∀ (s : Shared) (H : Hp) (C : Addr) (cl : List (Str × Addr)) (fp : List Addr), PTs (X.blk s H scope (compEnvC scope cl C X.env) fp) ifs (tTe X.K ct fq))
    (he : ∀ (s : Shared) (H : Hp) (C : Addr) (cl : List (Str × Addr)) (fp : List Addr), PE (X.blk s H scope (compEnvC scope cl C X.env) fp) elt (tD X.K ct fe)) (hs : ∀ x, foldedSetIterable iter X.env x = pure x := by intro _; rfl) :
    PS X (.Assign [.Name y py] (.ListComp elt [⟨tg, iter, ifs, 0⟩] scope pos) spos) (tSt X.K ct (sAsg (fLc (own.map (·.2)) fi ft fq fe) (gN i))) :=
  s_asgIn (ps_setLc hc hN hy hyl hsw hi (blkOk_by ok) hg ht he hs) fun σ H Q h => lc_run (fun j hj => of_decide_eq_true (List.all_eq_true.mp hjs j hj)) hk (d_o h)
theorem s_ownLc {i : Nat} {y : Str} {py spos : Pos} (hc : X.calm = true) (hN : X.N.Nodup) (hy : X.N[i]? = some y) (hyl : X.env.scope.names.lookup y = some .local) (hsw : swapsWith (.ListComp elt [⟨tg, iter, ifs, 0⟩] scope pos) (some (.Name y py)) spos.line X.env = pure true)
    (ok : blkC X.N X.env.scope scope own = true) (hjs : (js.all fun j => decide (j ∈ own.map (·.2))) = true) (hk : Kp js ft) (hi : PI X tg iter (tI X.K ct fi))
    (hg : ∀ (s : Shared) (H : Hp) (C : Addr) (cl : List (Str × Addr)) (fp : List Addr), PG (X.blk s H scope (compEnvC scope cl C X.env) fp) tg (tG X.K ct js ft)) (ht : ∀ (s : Shared) (H : Hp) (C : Addr) (cl : List (Str × Addr)) (fp : List Addr), PTs (X.blk s H scope (compEnvC scope cl C X.env) fp) ifs (tTe X.K ct fq))
    (he : ∀ (s : Shared) (H : Hp) (C : Addr) (cl : List (Str × Addr)) (fp : List Addr), PE (X.blk s H scope (compEnvC scope cl C X.env) fp) elt (tD X.K ct fe)) (hs : ∀ x, foldedSetIterable iter X.env x = pure x := by intro _; rfl) :
    PS X (.Assign [.Name y py] (.ListComp elt [⟨tg, iter, ifs, 0⟩] scope pos) spos) (tSt X.K ct (sOwn i (fLc (own.map (·.2)) fi ft fq fe))) :=
  s_ownIn (ps_setLc hc hN hy hyl hsw hi (blkOk_by ok) hg ht he hs) fun σ H Q h => lc_run (fun j hj => of_decide_eq_true (List.all_eq_true.mp hjs j hj)) hk h
end
theorem u64 {k : Nat} {A : Around} (hr : Room k A) : A.units + 64 < cLine := by have := hr.un; omega
theorem u65 {k : Nat} {A : Around} (hr : Room k A) : A.units + 65 < cLine := by have := hr.un; omega
theorem boot_list' : bootBuiltins "list" = some (.type "list") := by decide +kernel
theorem boot_tuple' : bootBuiltins "tuple" = some (.type "tuple") := by decide +kernel
theorem boot_int' : bootBuiltins "int" = some (.type "int") := by decide +kernel
theorem boot_str' : bootBuiltins "str" = some (.type "str") := by decide +kernel
theorem boot_bool' : bootBuiltins "bool" = some (.type "bool") := by decide +kernel
theorem boot_len' : bootBuiltins "len" = some (.builtin "len") := by decide +kernel
theorem boot_min' : bootBuiltins "min" = some (.builtin "min") := by decide +kernel
theorem boot_max' : bootBuiltins "max" = some (.builtin "max") := by decide +kernel
theorem boot_sorted' : bootBuiltins "sorted" = some (.builtin "sorted") := by decide +kernel
section
variable {p : Pos} {x : Str}
/-- the built-ins by name -/
theorem c_len (hg : Gl X "len") (hm : X.mg "len" = none) (ha : PE X a (tBo X.K ct fa)) (hs : starEach [a] X.env = (false, eval a X.env) :: starEach [] X.env := by rfl) : PE X (.Call (.Name "len" p) [a] [] pos) (tD X.K ct (f1 fa lenD)) := e_fn1 call_len len_ok hg hm boot_len' ha hs
theorem c_list (hg : Gl X "list") (hm : X.mg "list" = none) (ha : PE X a (tBo X.K ct fa)) (hs : starEach [a] X.env = (false, eval a X.env) :: starEach [] X.env := by rfl) : PE X (.Call (.Name "list" p) [a] [] pos) (tO X.K ct (f1 fa listD)) := o_ty1 call_list_of list_ok hg hm boot_list' ha hs
theorem c_tuple (hg : Gl X "tuple") (hm : X.mg "tuple" = none) (ha : PE X a (tBo X.K ct fa)) (hs : starEach [a] X.env = (false, eval a X.env) :: starEach [] X.env := by rfl) : PE X (.Call (.Name "tuple" p) [a] [] pos) (tD X.K ct (f1 fa tupleD)) := e_ty1 call_tuple_of tuple_ok hg hm boot_tuple' ha hs
theorem c_int (hg : Gl X "int") (hm : X.mg "int" = none) (ha : PE X a (tBo X.K ct fa)) (hs : starEach [a] X.env = (false, eval a X.env) :: starEach [] X.env := by rfl) : PE X (.Call (.Name "int" p) [a] [] pos) (tD X.K ct (f1 fa toIntD)) := e_ty1 call_int1 toInt_ok hg hm boot_int' ha hs
theorem c_str (hg : Gl X "str") (hm : X.mg "str" = none) (ha : PE X a (tBo X.K ct fa)) (hs : starEach [a] X.env = (false, eval a X.env) :: starEach [] X.env := by rfl) : PE X (.Call (.Name "str" p) [a] [] pos) (tD X.K ct (f1 fa toStrD)) := e_ty1 call_str_int toStr_ok hg hm boot_str' ha hs
theorem c_sorted (hu : X.A.units + 64 < cLine) (hg : Gl X "sorted") (hm : X.mg "sorted" = none) (ha : PE X a (tBo X.K ct fa)) (hs : starEach [a] X.env = (false, eval a X.env) :: starEach [] X.env := by rfl) : PE X (.Call (.Name "sorted" p) [a] [] pos) (tO X.K ct (f1 fa sortedD)) := o_fn1 (call_sortA hu) sorted_ok hg hm boot_sorted' ha hs
theorem c_max1 (hc : X.calm = true) (hg : Gl X "max") (hm : X.mg "max" = none) (ha : PE X a (tBo X.K ct fa)) (hs : starEach [a] X.env = (false, eval a X.env) :: starEach [] X.env := by rfl) : PE X (.Call (.Name "max" p) [a] [] pos) (tD X.K ct (f1 fa maxD)) := e_fn1 (cr_max hc) maxD_ok hg hm boot_max' ha hs
theorem c_min1 (hc : X.calm = true) (hg : Gl X "min") (hm : X.mg "min" = none) (ha : PE X a (tBo X.K ct fa)) (hs : starEach [a] X.env = (false, eval a X.env) :: starEach [] X.env := by rfl) : PE X (.Call (.Name "min" p) [a] [] pos) (tD X.K ct (f1 fa minD)) := e_fn1 (cr_min hc) minD_ok hg hm boot_min' ha hs
theorem c_max2 (hc : X.calm = true) (hg : Gl X "max") (hm : X.mg "max" = none) (ha : PE X a (tBo X.K ct fa)) (hb : PE X b (tBo X.K ct fb)) (hs : starEach [a, b] X.env = (false, eval a X.env) :: starEach [b] X.env := by rfl)
    (hs2 : starEach [b] X.env = (false, eval b X.env) :: starEach [] X.env := by rfl) (hpl : (backTo pos (starEach [b] X.env)).any (·.1) = false := by rfl) : PE X (.Call (.Name "max" p) [a, b] [] pos) (tD X.K ct (f2 fa fb max2D)) := e_fn2 (call_max2 hc) max2_ok hg hm boot_max' ha hb hs hs2 hpl
theorem c_min2 (hc : X.calm = true) (hg : Gl X "min") (hm : X.mg "min" = none) (ha : PE X a (tBo X.K ct fa)) (hb : PE X b (tBo X.K ct fb)) (hs : starEach [a, b] X.env = (false, eval a X.env) :: starEach [b] X.env := by rfl)
    (hs2 : starEach [b] X.env = (false, eval b X.env) :: starEach [] X.env := by rfl) (hpl : (backTo pos (starEach [b] X.env)).any (·.1) = false := by rfl) : PE X (.Call (.Name "min" p) [a, b] [] pos) (tD X.K ct (f2 fa fb min2D)) := e_fn2 (call_min2 hc) min2_ok hg hm boot_min' ha hb hs hs2 hpl
end
end
end PD
namespace PD
open PySem PySem.Spec PyProof.Rows L2
theorem ipAdd_ok {K : PySem.W.Frag} {ct : Nat → Addr} : Op2 K ct (ipI fun i j => i + j) addInt := fun HF H0 H ρ σ x y z v u Q S hx hy hz q => by
  obtain ⟨i, j, rfl, rfl, hc, rfl⟩ := intD0_some hz
  exact ⟨i, j, hx.int S, hy.int S, q _ _ _ (Same.refl _) S (by simp only [Rep])⟩
end PD
namespace PD
open PySem PySem.Spec PyProof.Rows L2
theorem blkC_of {N : List Str} {sc scope : Scope} {own : List (Str × Nat)} (h : blkC N sc scope own = true) : blkC N sc scope own = true := h
end PD

/-! Evaluation: simp rules for the functions on slots; loops as folds. -/
namespace PD
open PySem PySem.Spec PyProof.Rows L2

section
variable {i : Nat} {ρ l : Env} {d : D} {s : Slot}
@[simp] theorem v_val : fVar 0 (.val d :: l) = some d := rfl
@[simp] theorem v_succ : fVar (i + 1) (s :: l) = fVar i l := rfl
@[simp] theorem b_val : fBor 0 (.val d :: l) = some d := rfl
@[simp] theorem b_own : fBor 0 (.own d :: l) = some d := rfl
@[simp] theorem b_succ : fBor (i + 1) (s :: l) = fBor i l := rfl
@[simp] theorem fC_at : fC d ρ = some d := rfl
@[simp] theorem f1_at {fa : Env → Option D} {g : D → Option D} : f1 fa g (s :: l) = match fa (s :: l) with
  | some x => g x
  | none => none := by
  unfold f1
  cases fa (s :: l) <;> rfl
@[simp] theorem f2_at {fa fb : Env → Option D} {g : D → D → Option D} : f2 fa fb g (s :: l) = match fa (s :: l) with
  | some x => (match fb (s :: l) with
    | some y => g x y
    | none => none)
  | none => none := by
  unfold f2
  cases fa (s :: l) <;> cases fb (s :: l) <;> rfl
@[simp] theorem fT_at {f : Env → Option D} : fT f (s :: l) = match f (s :: l) with
  | some (.bl b) => some b
  | _ => none := rfl
@[simp] theorem fTru_at {f : Env → Option D} : fTru f (s :: l) = match f (s :: l) with
  | some x => truD x
  | none => none := by
  unfold fTru
  cases f (s :: l) <;> rfl
@[simp] theorem fAnd_at {f g : Env → Option Bool} : fAnd f g (s :: l) = match f (s :: l) with
  | some true => g (s :: l)
  | some false => some false
  | none => none := by
  unfold fAnd
  cases f (s :: l) with
  | none => rfl
  | some b => cases b <;> rfl
@[simp] theorem fOr_at {f g : Env → Option Bool} : fOr f g (s :: l) = match f (s :: l) with
  | some true => some true
  | some false => g (s :: l)
  | none => none := by
  unfold fOr
  cases f (s :: l) with
  | none => rfl
  | some b => cases b <;> rfl
@[simp] theorem fNot_at {f : Env → Option Bool} : fNot f (s :: l) = match f (s :: l) with
  | some b => some (!b)
  | none => none := by
  unfold fNot
  cases f (s :: l) <;> rfl
@[simp] theorem fAndV_at {f g : Env → Option D} : fAndV f g (s :: l) = match f (s :: l) with
  | some (.bl true) => g (s :: l)
  | some (.bl false) => some (.bl false)
  | _ => none := by
  unfold fAndV fT
  cases f (s :: l) with
  | none => rfl
  | some d => cases d with
    | bl b => cases b <;> rfl
    | _ => rfl
@[simp] theorem fOrV_at {f g : Env → Option D} : fOrV f g (s :: l) = match f (s :: l) with
  | some (.bl true) => some (.bl true)
  | some (.bl false) => g (s :: l)
  | _ => none := by
  unfold fOrV fT
  cases f (s :: l) with
  | none => rfl
  | some d => cases d with
    | bl b => cases b <;> rfl
    | _ => rfl
@[simp] theorem fNotV_at {f : Env → Option D} : fNotV f (s :: l) = match f (s :: l) with
  | some (.bl b) => some (.bl (!b))
  | _ => none := by
  unfold fNotV fT
  cases f (s :: l) with
  | none => rfl
  | some d => cases d <;> rfl
@[simp] theorem fIf_at {c : Env → Option Bool} {f g : Env → Option D} : fIf c f g (s :: l) = match c (s :: l) with
  | some true => f (s :: l)
  | some false => g (s :: l)
  | none => none := by
  unfold fIf
  cases c (s :: l) with
  | none => rfl
  | some b => cases b <;> rfl
@[simp] theorem aNil_at : aNil ρ = some [] := rfl
@[simp] theorem aCons_at {fa : Env → Option D} {fr : Env → Option (List D)} : aCons fa fr (s :: l) = match fa (s :: l) with
  | some x => (match fr (s :: l) with
    | some xs => some (x :: xs)
    | none => none)
  | none => none := by
  unfold aCons
  cases fa (s :: l) <;> cases fr (s :: l) <;> rfl
@[simp] theorem fTup_at {f : Env → Option (List D)} : fTup f (s :: l) = match f (s :: l) with
  | some ds => gd (ds.length ≤ sizeLine) (.tup ds)
  | none => none := by
  unfold fTup
  cases f (s :: l) <;> rfl
@[simp] theorem fLst_at {f : Env → Option (List D)} : fLst f (s :: l) = match f (s :: l) with
  | some ds => gd (ds.length ≤ sizeLine) (.lst ds)
  | none => none := by
  unfold fLst
  cases f (s :: l) <;> rfl
@[simp] theorem pNone_at : pNone ρ = some none := rfl
@[simp] theorem pSome_at {f : Env → Option D} : pSome f (s :: l) = match f (s :: l) with
  | some (.int i) => some (some i)
  | _ => none := rfl
@[simp] theorem fSl_at {fa : Env → Option D} {fl fh : Env → Option (Option Int)} {g : D → Option Int → Option Int → Option D} : fSl fa fl fh g (s :: l) = match fa (s :: l) with
  | some x => (match fl (s :: l) with
    | some lo => (match fh (s :: l) with
      | some hi => g x lo hi
      | none => none)
    | none => none)
  | none => none := by
  unfold fSl
  cases fa (s :: l) <;> cases fl (s :: l) <;> cases fh (s :: l) <;> rfl
@[simp] theorem fCall_at {F : List D → Option D} {dd : List D} {fa : Env → Option (List D)} : fCall F dd fa (s :: l) = match fa (s :: l) with
  | some ds => F (ds ++ dd)
  | none => none := by
  unfold fCall
  cases fa (s :: l) <;> rfl
@[simp] theorem fChain_at {fa fb fc : Env → Option D} {g g' : D → D → Option D} : fChain fa fb fc g g' (s :: l) = match fa (s :: l) with
  | some x => (match fb (s :: l) with
    | some y => (match g x y with
      | some (.bl true) => (match fc (s :: l) with
        | some z => g' y z
        | none => none)
      | some (.bl false) => some (.bl false)
      | _ => none)
    | none => none)
  | none => none := by
  unfold fChain
  cases fa (s :: l) with
  | none => rfl
  | some x =>
    cases fb (s :: l) with
    | none => rfl
    | some y =>
      simp only [Option.bind_some]
      cases g x y with
      | none => rfl
      | some d => cases d with
        | bl b => cases b with
          | true => cases fc (s :: l) <;> rfl
          | false => rfl
        | _ => rfl
@[simp] theorem sNext_at : sNext ρ = some (.nx ρ) := rfl
@[simp] theorem sPass_at : sPass ρ = some (.nx ρ) := rfl
@[simp] theorem sBrk_at : sBrk ρ = some (.bk ρ) := rfl
@[simp] theorem sCnt_at : sCnt ρ = some (.ct ρ) := rfl
@[simp] theorem sSeq_at {f g : Env → Option Out} : sSeq f g (s :: l) = match f (s :: l) with
  | some (.nx ρ') => g ρ'
  | some (.rt d) => some (.rt d)
  | some (.bk ρ') => some (.bk ρ')
  | some (.ct ρ') => some (.ct ρ')
  | none => none := by
  unfold sSeq
  cases f (s :: l) with
  | none => rfl
  | some o => cases o <;> rfl
@[simp] theorem sRet_at {f : Env → Option D} : sRet f (s :: l) = match f (s :: l) with
  | some d => some (.rt d)
  | none => none := by
  unfold sRet
  cases f (s :: l) <;> rfl
@[simp] theorem sRetN_at : sRetN ρ = some (.rt .non) := rfl
@[simp] theorem sIf_at {c : Env → Option Bool} {f g : Env → Option Out} : sIf c f g (s :: l) = match c (s :: l) with
  | some true => f (s :: l)
  | some false => g (s :: l)
  | none => none := by
  unfold sIf
  cases c (s :: l) with
  | none => rfl
  | some b => cases b <;> rfl
@[simp] theorem gN_at : gN i d ρ = some (ρ.set i (.val d)) := rfl
@[simp] theorem gsNil_at : gsNil [] ρ = some ρ := rfl
@[simp] theorem gsCons_at {f : D → Env → Option Env} {fs : List D → Env → Option Env} {ds : List D} : gsCons f fs (d :: ds) ρ = match f d ρ with
  | some ρ' => fs ds ρ'
  | none => none := by
  unfold gsCons
  cases h : f d ρ <;> simp [h]
@[simp] theorem gT_at {n : Nat} {fs : List D → Env → Option Env} {ds : List D} : gT n fs (.tup ds) ρ = if ds.length = n then fs ds ρ else none := rfl
@[simp] theorem sAsg_at {fa : Env → Option D} {ft : D → Env → Option Env} : sAsg fa ft (s :: l) = match fa (s :: l) with
  | some d => (match ft d (s :: l) with
    | some ρ' => some (.nx ρ')
    | none => none)
  | none => none := by
  unfold sAsg
  cases fa (s :: l) with
  | none => rfl
  | some d => simp only [Option.bind_some]; cases ft d (s :: l) <;> rfl
@[simp] theorem sOwn_at {fa : Env → Option D} : sOwn i fa (s :: l) = match fa (s :: l) with
  | some d => some (.nx ((s :: l).set i (.own d)))
  | none => none := by
  unfold sOwn
  cases fa (s :: l) <;> rfl
@[simp] theorem sAug_at {fa : Env → Option D} {g : D → D → Option D} : sAug i fa g (s :: l) = match fVar i (s :: l) with
  | some x => (match fa (s :: l) with
    | some y => (match g x y with
      | some z => some (.nx ((s :: l).set i (.val z)))
      | none => none)
    | none => none)
  | none => none := by
  unfold sAug
  cases fVar i (s :: l) with
  | none => rfl
  | some x =>
    cases fa (s :: l) with
    | none => rfl
    | some y => simp only [Option.bind_some]; cases g x y <;> rfl
@[simp] theorem sFor_at {fi : Env → Option (List D)} {ft : D → Env → Option Env} {f : Env → Option Out} {is : List Nat} : sFor fi ft f is (s :: l) = match fi (s :: l) with
  | some ds => forF ft f is ds (s :: l)
  | none => none := by
  unfold sFor
  cases fi (s :: l) <;> rfl
@[simp] theorem iSeq_at {fa : Env → Option D} : iSeq fa (s :: l) = match fa (s :: l) with
  | some d => seqD d
  | none => none := by
  unfold iSeq
  cases fa (s :: l) <;> rfl
@[simp] theorem iR1_at {fa : Env → Option D} : iR1 fa (s :: l) = match fa (s :: l) with
  | some (.int j) => gd (-(2 ^ 62) ≤ j ∧ j < 2 ^ 62) (rngL 0 j.toNat)
  | _ => none := rfl
@[simp] theorem iR2_at {fa fb : Env → Option D} : iR2 fa fb (s :: l) = match fa (s :: l), fb (s :: l) with
  | some (.int i), some (.int j) => gd (-(2 ^ 62) ≤ i ∧ i < 2 ^ 62 ∧ -(2 ^ 62) ≤ j ∧ j < 2 ^ 62) (rngL i (j - i).toNat)
  | _, _ => none := rfl
@[simp] theorem fLc_at {vs : List Nat} {fi : Env → Option (List D)} {ft : D → Env → Option Env} {fq : Env → Option Bool} {fe : Env → Option D} : fLc vs fi ft fq fe (s :: l) = match fi (s :: l) with
  | some ds => (match lcF ft fq fe (wipeE vs (s :: l)) ds with
    | some es => gd (ds.length ≤ sizeLine ∧ noOwn vs (s :: l) = true) (.lst es)
    | none => none)
  | none => none := by
  unfold fLc
  cases fi (s :: l) with
  | none => rfl
  | some ds => simp only [Option.bind_some]; cases lcF ft fq fe (wipeE vs (s :: l)) ds <;> rfl
@[simp] theorem wipeE_nil : wipeE [] ρ = ρ := rfl
@[simp] theorem wipeE_cons {v : Nat} {vs : List Nat} : wipeE (v :: vs) ρ = (wipeE vs ρ).set v .un := rfl
@[simp] theorem noOwn_nil : noOwn [] ρ = true := rfl
/-- does slot i own? -/
def isOwn : Nat → Env → Bool
  | 0, .own _ :: _ => true
  | 0, _ => false
  | i + 1, _ :: l => isOwn i l
  | _ + 1, [] => false
@[simp] theorem isOwn_own : isOwn 0 (.own d :: l) = true := rfl
@[simp] theorem isOwn_val : isOwn 0 (.val d :: l) = false := rfl
@[simp] theorem isOwn_un : isOwn 0 (.un :: l) = false := rfl
@[simp] theorem isOwn_succ : isOwn (i + 1) (s :: l) = isOwn i l := rfl
theorem isOwn_get : ∀ (i : Nat) (ρ : Env), (match ρ[i]? with | some (.own _) => false | _ => true) = !isOwn i ρ
  | 0, [] => rfl
  | 0, .own _ :: _ => rfl
  | 0, .val _ :: _ => rfl
  | 0, .un :: _ => rfl
  | i + 1, [] => rfl
  | i + 1, _ :: l => isOwn_get i l
@[simp] theorem noOwn_cons {v : Nat} {vs : List Nat} : noOwn (v :: vs) ρ = (!isOwn v ρ && noOwn vs ρ) := by
  have h := isOwn_get v ρ
  unfold noOwn
  rw [List.all_cons]
  congr 1
/-- x.append(e) -/
noncomputable def appAt (i : Nat) (d : D) (ρ : Env) : Option Out := match ρ[i]? with
  | some (.own (.lst ds)) => gd (ds.length < sizeLine) (.nx (ρ.set i (.own (.lst (ds ++ [d])))))
  | _ => none
@[simp] theorem sApp_at {fa : Env → Option D} : sApp i fa (s :: l) = match fa (s :: l) with
  | some d => appAt i d (s :: l)
  | none => none := by
  unfold sApp appAt
  cases fa (s :: l) <;> rfl
@[simp] theorem appAt_zero {ds : List D} : appAt 0 d (.own (.lst ds) :: l) = gd (ds.length < sizeLine) (.nx (.own (.lst (ds ++ [d])) :: l)) := rfl
/-- a block's end, a slot ahead of it -/
def consO (s : Slot) : Option Out → Option Out
  | some (.nx ρ) => some (.nx (s :: ρ))
  | _ => none
@[simp] theorem consO_nx : consO s (some (.nx ρ)) = some (.nx (s :: ρ)) := rfl
@[simp] theorem appAt_succ : appAt (i + 1) d (s :: l) = consO s (appAt i d l) := by
  unfold appAt
  simp only [List.getElem?_cons_succ, List.set_cons_succ]
  cases h : l[i]? with
  | none => rfl
  | some x => cases x with
    | own d => cases d with
      | lst ds =>
        simp only
        unfold gd
        by_cases h : ds.length < sizeLine
        · rw [if_pos h, if_pos h]; rfl
        · rw [if_neg h, if_neg h]; rfl
      | _ => rfl
    | _ => rfl
theorem appAt_some {ds : List D} (h : ρ[i]? = some (.own (.lst ds))) (hl : ds.length < sizeLine) : appAt i d ρ = some (.nx (ρ.set i (.own (.lst (ds ++ [d]))))) := by
  unfold appAt
  rw [h]
  exact gd_pos hl
@[simp] theorem frz_nil : frz [] ρ = ρ := rfl
@[simp] theorem frz_cons {is : List Nat} : frz (i :: is) ρ = frz is (frz1 i ρ) := rfl
@[simp] theorem frz1_own {l : Env} : frz1 0 (.own d :: l) = .val d :: l := rfl
@[simp] theorem frz1_val {l : Env} : frz1 0 (.val d :: l) = .val d :: l := rfl
@[simp] theorem frz1_un {l : Env} : frz1 0 (.un :: l) = .un :: l := rfl
@[simp] theorem frz1_succ {l : Env} : frz1 (i + 1) (s :: l) = s :: frz1 i l := by
  unfold frz1
  simp only [List.getElem?_cons_succ, List.set_cons_succ]
  cases h : l[i]? with
  | none => rfl
  | some x => cases x <;> rfl
@[simp] theorem clr_nil : clr [] ρ = ρ := rfl
@[simp] theorem clr_cons {is : List Nat} : clr (i :: is) ρ = clr is (ρ.set i .un) := rfl
end
/-- one turn of a for loop -/
def turn (ft : D → Env → Option Env) (f : Env → Option Out) (is : List Nat) (d : D) (ρ : Env) : Option Out := (ft d ρ).bind fun ρ1 => (f ρ1).map fun o => match o with
  | .nx ρ' => .nx (clr is ρ')
  | .ct ρ' => .nx (clr is ρ')
  | .bk ρ' => .bk (clr is ρ')
  | .rt d => .rt d
@[simp] theorem turn_at {ft : D → Env → Option Env} {f : Env → Option Out} {is : List Nat} {d : D} {s : Slot} {l : Env} : turn ft f is d (s :: l) = match ft d (s :: l) with
  | some ρ1 => (match f ρ1 with
    | some (.nx ρ') => some (.nx (clr is ρ'))
    | some (.ct ρ') => some (.nx (clr is ρ'))
    | some (.bk ρ') => some (.bk (clr is ρ'))
    | some (.rt d) => some (.rt d)
    | none => none)
  | none => none := by
  unfold turn
  cases ft d (s :: l) with
  | none => rfl
  | some ρ1 =>
    simp only [Option.bind_some]
    cases f ρ1 with
    | none => rfl
    | some o => cases o <;> rfl
theorem forF_nil {ft : D → Env → Option Env} {f : Env → Option Out} {is : List Nat} {ρ : Env} : forF ft f is [] ρ = some (.nx ρ) := rfl
theorem forF_cons {ft : D → Env → Option Env} {f : Env → Option Out} {is : List Nat} {d : D} {ds : List D} {ρ : Env} : forF ft f is (d :: ds) ρ = (turn ft f is d ρ).bind fun o => match o with
    | .nx ρ' => forF ft f is ds ρ'
    | .bk ρ' => some (.nx ρ')
    | o => some o := by
  simp only [forF, turn]
  cases ft d ρ with
  | none => rfl
  | some ρ1 =>
    simp only [Option.bind_some]
    cases f ρ1 with
    | none => rfl
    | some o => cases o <;> rfl
/-- a loop is a fold -/
theorem forF_fold {S T : Type} {ft : D → Env → Option Env} {f : Env → Option Out} {is : List Nat} {enc : T → D} {R : S → Env} {g : S → T → S} : ∀ {ts : List T} {s : S}, (∀ s t, t ∈ ts → turn ft f is (enc t) (R s) = some (.nx (R (g s t)))) →
    forF ft f is (ts.map enc) (R s) = some (.nx (R (ts.foldl g s)))
  | [], s, _ => rfl
  | t :: ts, s, h => by
    rw [List.map_cons, forF_cons, h s t List.mem_cons_self]
    simp only [Option.bind_some, List.foldl_cons]
    exact forF_fold fun s' t' ht => h s' t' (List.mem_cons_of_mem _ ht)
/-- .. with what holds between the turns -/
theorem forF_inv {T : Type} {ft : D → Env → Option Env} {f : Env → Option Out} {is : List Nat} {enc : T → D} (I : List T → Env → Prop) : ∀ {ts pre : List T} {ρ : Env}, I pre ρ → (∀ pre t post ρ, pre ++ t :: post = pre ++ t :: post → t ∈ ts → I pre ρ → ∃ ρ', turn ft f is (enc t) ρ = some (.nx ρ') ∧ I (pre ++ [t]) ρ') →
    ∃ ρ', forF ft f is (ts.map enc) ρ = some (.nx ρ') ∧ I (pre ++ ts) ρ'
  | [], pre, ρ, h0, _ => ⟨ρ, rfl, by rw [List.append_nil]; exact h0⟩
  | t :: ts, pre, ρ, h0, h => by
    obtain ⟨ρ1, h1, h2⟩ := h pre t ts ρ rfl List.mem_cons_self h0
    rw [List.map_cons, forF_cons, h1]
    simp only [Option.bind_some]
    obtain ⟨ρ2, h3, h4⟩ := forF_inv I (ts := ts) (pre := pre ++ [t]) h2 fun pre' t' post' ρ' e ht => h pre' t' post' ρ' e (List.mem_cons_of_mem _ ht)
    exact ⟨ρ2, h3, by rw [List.append_assoc] at h4; exact h4⟩
theorem runF_rt {N : Nat} {f : Env → Option Out} {ds : List D} {d : D} (h : f (ds.map .val ++ List.replicate (N - ds.length) .un) = some (.rt d)) : runF N f ds = some d := by
  unfold runF
  rw [h]
theorem runF_nx {N : Nat} {f : Env → Option Out} {ds : List D} {ρ : Env} (h : f (ds.map .val ++ List.replicate (N - ds.length) .un) = some (.nx ρ)) : runF N f ds = some .non := by
  unfold runF
  rw [h]
theorem le_line {n : Nat} (h : n ≤ 16777216) : n ≤ sizeLine := by rw [sizeLine_eq]; exact h
@[simp] theorem gd_le {α : Type} {n : Nat} {x : α} (h : n ≤ 16777216) : gd (n ≤ sizeLine) x = some x := gd_pos (le_line h)
@[simp] theorem gd_lt {α : Type} {n : Nat} {x : α} (h : n < 16777216) : gd (n < sizeLine) x = some x := gd_pos (by rw [sizeLine_eq]; exact h)
@[simp] theorem gd_le2 {α : Type} {n : Nat} {p : Prop} {x : α} (h : n ≤ 16777216) (hp : p) : gd (n ≤ sizeLine ∧ p) x = some x := gd_pos ⟨le_line h, hp⟩
@[simp] theorem gd_rng {n : Int} {x : List D} (h1 : -4611686018427387904 ≤ n) (h2 : n < 4611686018427387904) : gd (-(2 ^ 62) ≤ n ∧ n < 2 ^ 62) x = some x := gd_pos ⟨h1, h2⟩
section
variable {i j : Int}
@[simp] theorem addD_int : addD (.int i) (.int j) = some (.int (i + j)) := rfl
@[simp] theorem subD_int : subD (.int i) (.int j) = some (.int (i - j)) := rfl
@[simp] theorem ltD_int : ltD (.int i) (.int j) = some (.bl (decide (i < j))) := rfl
@[simp] theorem leD_int : leD (.int i) (.int j) = some (.bl (decide (i ≤ j))) := rfl
@[simp] theorem gtD_int : gtD (.int i) (.int j) = some (.bl (decide (j < i))) := rfl
@[simp] theorem geD_int : geD (.int i) (.int j) = some (.bl (decide (j ≤ i))) := rfl
@[simp] theorem addInt_int : addInt (.int i) (.int j) = some (.int (i + j)) := rfl
@[simp] theorem max2D_int : max2D (.int i) (.int j) = some (.int (if j > i then j else i)) := rfl
@[simp] theorem min2D_int : min2D (.int i) (.int j) = some (.int (if j < i then j else i)) := rfl
theorem modD_int (h : j ≠ 0) : modD (.int i) (.int j) = some (.int (i.fmod j)) := gd_pos h
theorem modD_pos (h : 0 < j) : modD (.int i) (.int j) = some (.int (i % j)) := by
  rw [modD_int (by omega), Int.fmod_eq_emod_of_nonneg _ (by omega)]
theorem fdivD_pos (h : 0 < j) (h2 : j < 1073741824) : fdivD (.int i) (.int j) = some (.int (i / j)) := by
  have e : fdivD (.int i) (.int j) = some (.int (i.fdiv j)) := gd_pos ⟨by omega, by omega⟩
  rw [e, Int.fdiv_eq_ediv_of_nonneg _ (by omega)]
theorem mulD_right (h1 : -18446744073709551616 < j) (h2 : j < 18446744073709551616) : mulD (.int i) (.int j) = some (.int (i * j)) := gd_pos (.inr ⟨h1, h2⟩)
theorem mulD_left (h1 : -18446744073709551616 < i) (h2 : i < 18446744073709551616) : mulD (.int i) (.int j) = some (.int (i * j)) := gd_pos (.inl ⟨h1, h2⟩)
theorem powD_int (h1 : 0 ≤ j) (h2 : j ≤ 1000000) (h3 : i.natAbs < 2 ^ 64) : powD (.int i) (.int j) = some (.int (i ^ j.toNat)) := gd_pos ⟨h1, h2, h3⟩
@[simp] theorem toIntD_int : toIntD (.int i) = some (.int i) := rfl
@[simp] theorem toIntD_bl {b : Bool} : toIntD (.bl b) = some (.int (if b then 1 else 0)) := rfl
@[simp] theorem negD_int : negD (.int i) = some (.int (-i)) := rfl
end
section
variable {ds es : List D}
@[simp] theorem lenD_lst : lenD (.lst ds) = some (.int (ds.length : Nat)) := rfl
@[simp] theorem lenD_tup : lenD (.tup ds) = some (.int (ds.length : Nat)) := rfl
@[simp] theorem lenD_frl : lenD (.frl ds) = some (.int (ds.length : Nat)) := rfl
@[simp] theorem listD_lst : listD (.lst ds) = some (.lst ds) := rfl
@[simp] theorem listD_tup : listD (.tup ds) = some (.lst ds) := rfl
@[simp] theorem listD_frl : listD (.frl ds) = some (.lst ds) := rfl
@[simp] theorem tupleD_lst : tupleD (.lst ds) = some (.tup ds) := rfl
@[simp] theorem tupleD_tup : tupleD (.tup ds) = some (.tup ds) := rfl
@[simp] theorem seqD_lst : seqD (.lst ds) = some ds := rfl
@[simp] theorem seqD_tup : seqD (.tup ds) = some ds := rfl
@[simp] theorem seqD_frl : seqD (.frl ds) = some ds := rfl
@[simp] theorem ixD_lst {i : Int} : ixD (.lst ds) (.int i) = atI ds i := rfl
@[simp] theorem ixD_tup {i : Int} : ixD (.tup ds) (.int i) = atI ds i := rfl
@[simp] theorem ixD_frl {i : Int} : ixD (.frl ds) (.int i) = atI ds i := rfl
@[simp] theorem slD_lst {l h : Option Int} : slD (.lst ds) l h = some (.lst (cutL ds l h)) := rfl
@[simp] theorem slD_tup {l h : Option Int} : slD (.tup ds) l h = some (.tup (cutL ds l h)) := rfl
@[simp] theorem slD_frl {l h : Option Int} : slD (.frl ds) l h = some (.lst (cutL ds l h)) := rfl
@[simp] theorem slL_lst {l h : Option Int} : slL (.lst ds) l h = some (.lst (cutL ds l h)) := rfl
@[simp] theorem slL_frl {l h : Option Int} : slL (.frl ds) l h = some (.lst (cutL ds l h)) := rfl
theorem addD_lst (h : ds.length + es.length ≤ 16777216) : addD (.lst ds) (.lst es) = some (.lst (ds ++ es)) := gd_pos (le_line h)
theorem addLst_lst (h : ds.length + es.length ≤ 16777216) : addLst (.lst ds) (.lst es) = some (.lst (ds ++ es)) := gd_pos (le_line h)
theorem addD_tup (h : ds.length + es.length ≤ 16777216) : addD (.tup ds) (.tup es) = some (.tup (ds ++ es)) := gd_pos (le_line h)
theorem atI_lt {α : Type} {xs : List α} {i : Int} {n : Nat} {x : α} (hi : i = (n : Int)) (h : xs[n]? = some x) : atI xs i = some x := by
  subst hi
  exact atI_nat h
theorem cutL_to {α : Type} (xs : List α) (n : Nat) : cutL xs none (some (n : Int)) = xs.take n := by
  unfold cutL
  rw [HT.sIx_none, HT.sIx_nat, List.drop_zero, Nat.sub_zero]
  by_cases h : n ≤ xs.length
  · rw [Nat.min_eq_left h]
  · rw [Nat.min_eq_right (by omega), List.take_length, List.take_of_length_le (by omega)]
theorem cutL_from {α : Type} (xs : List α) (n : Nat) : cutL xs (some (n : Int)) none = xs.drop n := by
  unfold cutL
  rw [HT.sIx_none, HT.sIx_nat]
  by_cases h : n ≤ xs.length
  · rw [Nat.min_eq_left h]
    exact List.take_of_length_le (by rw [List.length_drop]; exact Nat.le_refl _)
  · rw [Nat.min_eq_right (by omega), List.drop_length, List.drop_of_length_le (by omega)]
    simp
theorem cutL_both {α : Type} (xs : List α) (m n : Nat) : cutL xs (some (m : Int)) (some (n : Int)) = (xs.drop m).take (n - m) := by
  unfold cutL
  rw [HT.sIx_nat, HT.sIx_nat]
  by_cases h : m ≤ xs.length
  · rw [Nat.min_eq_left h]
    by_cases h2 : n ≤ xs.length
    · rw [Nat.min_eq_left h2]
    · have e : (xs.drop m).length = xs.length - m := List.length_drop
      rw [Nat.min_eq_right (by omega), List.take_of_length_le (by omega), List.take_of_length_le (by omega)]
  · have e1 : min m xs.length = xs.length := by omega
    rw [e1, List.drop_length, List.drop_of_length_le (by omega)]
    simp
end
/-! the evaluation of a comprehension: a map, a filter -/
theorem lcF_map {T : Type} {ft : D → Env → Option Env} {fe : Env → Option D} {ρ : Env} {enc : T → D} {g : T → D} : ∀ {ts : List T}, (∀ t ∈ ts, (ft (enc t) ρ).bind fe = some (g t)) → lcF ft qYes fe ρ (ts.map enc) = some (ts.map g)
  | [], _ => rfl
  | t :: ts, h => by
    simp only [List.map_cons, lcF]
    have h1 := h t List.mem_cons_self
    obtain ⟨ρ1, h2, h3⟩ := bind_some h1
    rw [h2]
    simp only [Option.bind_some, qYes, if_true]
    rw [h3]
    simp only [Option.bind_some]
    rw [lcF_map fun t' ht => h t' (List.mem_cons_of_mem _ ht)]
    rfl
theorem lcF_filter {T : Type} {ft : D → Env → Option Env} {fq : Env → Option Bool} {fe : Env → Option D} {ρ : Env} {enc : T → D} {q : T → Bool} {g : T → D} : ∀ {ts : List T}, (∀ t ∈ ts, (ft (enc t) ρ).bind fq = some (q t) ∧ (q t = true → (ft (enc t) ρ).bind fe = some (g t))) →
    lcF ft fq fe ρ (ts.map enc) = some ((ts.filter q).map g)
  | [], _ => rfl
  | t :: ts, h => by
    simp only [List.map_cons, lcF]
    obtain ⟨h1, h2⟩ := h t List.mem_cons_self
    obtain ⟨ρ1, h3, h4⟩ := bind_some h1
    have ih := lcF_filter (ts := ts) (g := g) fun t' ht => h t' (List.mem_cons_of_mem _ ht)
    rw [h3]
    simp only [Option.bind_some]
    rw [h4]
    simp only [Option.bind_some, List.filter_cons]
    cases hq : q t with
    | false => simp only [Bool.false_eq_true, if_false]; exact ih
    | true =>
      have h5 := h2 hq
      rw [h3] at h5
      simp only [Option.bind_some] at h5
      simp only [if_true]
      rw [h5]
      simp only [Option.bind_some]
      rw [ih]
      rfl
end PD
namespace PD
open PySem PySem.Spec PyProof.Rows L2
@[simp] theorem rngL_zero {n : Nat} : rngL 0 n = (List.range n).map fun i : Nat => D.int (i : Int) := by
  unfold rngL
  simp
theorem lt_line {n : Nat} (h : n < 16777216) : n < sizeLine := by rw [sizeLine_eq]; exact h
end PD

/-! Equality of data, told by what the data are. -/
namespace PD
open PySem PySem.Spec PyProof.Rows L2

/-- no objects, texts of real code points, at most n deep -/
structure Gd (n : Nat) (d : D) : Prop where
  pl : plainD d = true
  cl : (toPy d).canLay0 = true
  dp : (toPy d).depth ≤ n
theorem Gd.mono {n m : Nat} {d : D} (h : Gd n d) (hm : n ≤ m) : Gd m d := ⟨h.pl, h.cl, Nat.le_trans h.dp hm⟩
theorem Gd.ok {n : Nat} {d : D} (h : Gd n d) (hm : n ≤ 64) : okD d = true := by
  unfold okD SeqAt.shaped
  rw [h.pl, h.cl, decide_eq_true (Nat.le_trans h.dp hm)]
  rfl
theorem Gd.int {i : Int} : Gd 0 (.int i) := ⟨rfl, rfl, Nat.le_refl _⟩
theorem Gd.bl {i : Bool} : Gd 0 (.bl i) := ⟨rfl, rfl, Nat.le_refl _⟩
theorem Gd.non : Gd 0 .non := ⟨rfl, rfl, Nat.le_refl _⟩
def okS (x : Str) : Prop := x.cps.all (· < 0x110000) = true
theorem Gd.str {x : Str} (h : okS x) : Gd 0 (.str x) := ⟨rfl, h, Nat.le_refl _⟩
theorem gdL {n : Nat} : ∀ {ds : List D}, (∀ d ∈ ds, Gd n d) → plainL ds = true ∧ PyData.canLayAll0 (toPyL ds) = true ∧ PyData.depthAll (toPyL ds) ≤ n
  | [], _ => ⟨rfl, rfl, Nat.zero_le _⟩
  | d :: ds, h => by
    obtain ⟨h1, h2, h3⟩ := gdL (ds := ds) fun e he => h e (List.mem_cons_of_mem _ he)
    have hd := h d List.mem_cons_self
    refine ⟨?_, ?_, ?_⟩
    · simp only [plainL, hd.pl, h1, Bool.and_self]
    · simp only [toPyL, PyData.canLayAll0, hd.cl, h2, Bool.and_self]
    · simp only [toPyL, PyData.depthAll]
      exact Nat.max_le.mpr ⟨hd.dp, h3⟩
theorem Gd.tup {n : Nat} {ds : List D} (h : ∀ d ∈ ds, Gd n d) : Gd (n + 1) (.tup ds) := by
  obtain ⟨h1, h2, h3⟩ := gdL h
  exact ⟨by simpa only [plainD] using h1, by simpa only [toPy, PyData.canLay0] using h2, by simp only [toPy, PyData.depth]; omega⟩
theorem Gd.lst {n : Nat} {ds : List D} (h : ∀ d ∈ ds, Gd n d) : Gd (n + 1) (.lst ds) := by
  obtain ⟨h1, h2, h3⟩ := gdL h
  exact ⟨by simpa only [plainD] using h1, by simpa only [toPy, PyData.canLay0] using h2, by simp only [toPy, PyData.depth]; omega⟩
theorem eqDeep_refl {d : D} (h : okD d = true) : eqDeep d d = true := by
  unfold okD at h
  rw [Bool.and_eq_true] at h
  exact SeqAt.eqv_refl _ (SeqAt.canLay_of_shaped h.2)
theorem eqO_ok {d e : D} {neg : Bool} (h : okD d = true) (h' : okD e = true) : eqO neg d e = some (.bl (neg != eqDeep d e)) := by
  unfold eqO
  split
  · rename_i i j
    simp only [eqDeep, toPy, PyData.eqv]
    rfl
  · rename_i i j
    simp only [eqDeep, toPy, PyData.eqv]
    rfl
  · rename_i i j
    simp only [eqDeep, toPy, PyData.eqv]
    cases i <;> cases j <;> rfl
  · rfl
  · rw [h, h']
    exact gd_pos rfl
theorem eqO_refl {d : D} (h : okD d = true) : eqO false d d = some (.bl true) := by rw [eqO_ok h h, eqDeep_refl h]; rfl
theorem neO_refl {d : D} (h : okD d = true) : eqO true d d = some (.bl false) := by rw [eqO_ok h h, eqDeep_refl h]; rfl
/-! without truth values (True == 1) equality is identity -/
mutual
def noB : D → Bool
  | .bl _ => false
  | .obj .. => false
  | .frl _ => false
  | .tup ds => noBL ds
  | .lst ds => noBL ds
  | _ => true
def noBL : List D → Bool
  | [] => true
  | d :: ds => noB d && noBL ds
end
mutual
theorem eq_noB : ∀ (d e : D), noB d = true → noB e = true → (eqDeep d e = true ↔ d = e)
  | .bl _, _, h, _ => by simp [noB] at h
  | .obj .., _, h, _ => by simp [noB] at h
  | .frl _, _, h, _ => by simp [noB] at h
  | .non, e, _, h' => by cases e <;> simp [noB] at h' <;> simp [eqDeep, toPy, PyData.eqv]
  | .int _, e, _, h' => by cases e <;> simp [noB] at h' <;> simp [eqDeep, toPy, PyData.eqv]
  | .str _, e, _, h' => by cases e <;> simp [noB] at h' <;> simp [eqDeep, toPy, PyData.eqv]
  | .tup ds, e, h, h' => by
    cases e <;> simp [noB] at h h' <;> simp [eqDeep, toPy, PyData.eqv]
    exact eq_noBL _ _ h h'
  | .lst ds, e, h, h' => by
    cases e <;> simp [noB] at h h' <;> simp [eqDeep, toPy, PyData.eqv]
    exact eq_noBL _ _ h h'
theorem eq_noBL : ∀ (ds es : List D), noBL ds = true → noBL es = true → (PyData.eqvAll (toPyL ds) (toPyL es) = true ↔ ds = es)
  | [], [], _, _ => by simp [toPyL, PyData.eqvAll]
  | [], _ :: _, _, _ => by simp [toPyL, PyData.eqvAll]
  | _ :: _, [], _, _ => by simp [toPyL, PyData.eqvAll]
  | d :: ds, e :: es, h, h' => by
    simp only [noBL, Bool.and_eq_true] at h h'
    have h1 := eq_noB d e h.1 h'.1
    have h2 := eq_noBL ds es h.2 h'.2
    unfold eqDeep at h1
    simp only [toPyL, PyData.eqvAll, Bool.and_eq_true, h1, h2, List.cons.injEq]
end
theorem noBL_mem : ∀ {ds : List D}, (∀ d ∈ ds, noB d = true) → noBL ds = true
  | [], _ => rfl
  | d :: ds, h => by
    simp only [noBL, h d List.mem_cons_self, noBL_mem fun e he => h e (List.mem_cons_of_mem _ he), Bool.and_self]
theorem noBL_map {T : Type} {ts : List T} {f : T → D} (h : ∀ t, noB (f t) = true) : noBL (ts.map f) = true := noBL_mem fun d hd => by
  obtain ⟨t, _, rfl⟩ := List.mem_map.mp hd
  exact h t
theorem eqDeep_eq {d e : D} (h : noB d = true) (h' : noB e = true) {p : Bool} (hp : p = true ↔ d = e) : eqDeep d e = p := by
  rw [Bool.eq_iff_iff, eq_noB d e h h', hp]
theorem eqO_is {d e : D} {neg : Bool} (o : okD d = true) (o' : okD e = true) (h : noB d = true) (h' : noB e = true) {p : Bool} (hp : p = true ↔ d = e) : eqO neg d e = some (.bl (neg != p)) := by
  rw [eqO_ok o o', eqDeep_eq h h' hp]
@[simp] theorem eqO_int {i j : Int} {neg : Bool} : eqO neg (.int i) (.int j) = some (.bl (neg != decide (i = j))) := rfl
@[simp] theorem eqO_str {i j : Str} {neg : Bool} : eqO neg (.str i) (.str j) = some (.bl (neg != decide (i = j))) := rfl
@[simp] theorem eqO_bl {i j : Bool} {neg : Bool} : eqO neg (.bl i) (.bl j) = some (.bl (neg != decide (i = j))) := rfl
/-! a loop with what holds between its turns: .. of the items so far -/
theorem forF_run {T : Type} {ft : D → Env → Option Env} {f : Env → Option Out} {is : List Nat} {enc : T → D} (I : List T → Env → Prop) (ts : List T) {ρ : Env} (h0 : I [] ρ)
    (h : ∀ pre t post ρ, ts = pre ++ t :: post → I pre ρ → ∃ ρ', turn ft f is (enc t) ρ = some (.nx ρ') ∧ I (pre ++ [t]) ρ') :
    ∃ ρ', forF ft f is (ts.map enc) ρ = some (.nx ρ') ∧ I ts ρ' := go [] ts ρ rfl h0
where
  go : ∀ (pre post : List T) (ρ : Env), ts = pre ++ post → I pre ρ → ∃ ρ', forF ft f is (post.map enc) ρ = some (.nx ρ') ∧ I ts ρ'
    | pre, [], ρ, e, h0 => ⟨ρ, rfl, by rw [e, List.append_nil]; exact h0⟩
    | pre, t :: post, ρ, e, h0 => by
      obtain ⟨ρ1, h1, h2⟩ := h pre t post ρ e h0
      rw [List.map_cons, forF_cons, h1]
      simp only [Option.bind_some]
      exact go (pre ++ [t]) post ρ1 (by rw [e]; simp) h2
@[simp] theorem gd_yes {α : Type} {p : Prop} {x : α} (h : p) : gd p x = some x := gd_pos h
/-- a while loop told by its states -/
theorem whileF_run {ft : Env → Option Bool} {f : Env → Option Out} {is : List Nat} (R : Nat → Env) : ∀ (N k m : Nat), (∀ i, k ≤ i → i < k + N → ft (R i) = some true ∧ ∃ ρ', f (R i) = some (.nx ρ') ∧ clr is ρ' = R (i + 1)) → ft (R (k + N)) = some false → N < m →
    whileF ft f is m (R k) = some (.nx (R (k + N)))
  | 0, k, m + 1, _, h2, _ => by
    simp only [whileF]
    rw [Nat.add_zero] at h2 ⊢
    rw [h2]
    rfl
  | N + 1, k, m + 1, h1, h2, hm => by
    obtain ⟨h3, ρ', h4, h5⟩ := h1 k (Nat.le_refl _) (by omega)
    simp only [whileF]
    rw [h3]
    simp only [Option.bind_some, if_true]
    rw [h4]
    simp only [Option.bind_some]
    rw [h5]
    have e : k + (N + 1) = k + 1 + N := by omega
    rw [e] at h2 ⊢
    exact whileF_run R N (k + 1) m (fun i hi hi2 => h1 i (by omega) (by omega)) h2 (by omega)
/-! a list or a tuple -/
def sqD (b : Bool) (ds : List D) : D := if b then .tup ds else .lst ds
section
variable {b : Bool} {ds es : List D} {i : Int} {l h : Option Int}
@[simp] theorem lenD_sq : lenD (sqD b ds) = some (.int (ds.length : Nat)) := by cases b <;> rfl
@[simp] theorem listD_sq : listD (sqD b ds) = some (.lst ds) := by cases b <;> rfl
@[simp] theorem seqD_sq : seqD (sqD b ds) = some ds := by cases b <;> rfl
@[simp] theorem ixD_sq : ixD (sqD b ds) (.int i) = atI ds i := by cases b <;> rfl
@[simp] theorem slD_sq : slD (sqD b ds) l h = some (sqD b (cutL ds l h)) := by cases b <;> rfl
@[simp] theorem tupleD_sq : tupleD (sqD b ds) = some (.tup ds) := by cases b <;> rfl
end
@[simp] theorem cntD_strs {xs : List PySem.Str} {x : PySem.Str} : cntD (.lst (xs.map .str)) (.str x) = some (.int (xs.count x : Nat)) := by
  simp only [cntD, lstOf, Option.bind_some, strsOf_map, Option.map_some]
theorem mulD_one {d : D} {k : Int} (h1 : -9223372036854775808 ≤ k) (h2 : k ≤ 16777216) : mulD (.lst [d]) (.int k) = some (.lst (List.replicate k.toNat d)) := by
  have e : (List.replicate k.toNat [d]).flatten = List.replicate k.toNat d := by
    generalize k.toNat = n
    induction n with
    | zero => rfl
    | succ n ih => rw [List.replicate_succ, List.flatten_cons, ih]; rfl
  simp only [mulD, repLst]
  rw [gd_pos ⟨by omega, by omega, le_line (by simp; omega)⟩, e]
/-! texts -/
theorem strIs {s t : String} (h : s ≠ t) : (PySem.Str.ofString s = PySem.Str.ofString t) = False := by
  apply propext
  refine ⟨fun e => h ?_, False.elim⟩
  rw [PySem.Str.ofString_eq_toList, PySem.Str.ofString_eq_toList] at e
  injection e with e
  have e2 := congrArg Array.toList e
  simp only [List.toList_toArray] at e2
  have e3 : s.toList = t.toList := (List.map_inj_right (fun a b hab => Char.ext (UInt32.toNat_inj.mp hab))).mp e2
  exact String.toList_injective e3
end PD

namespace PL
open PySem PySem.Spec PyProof.Rows L2 PD
noncomputable def loop_in_excess_1 : PD.Env → Option Out := (sAsg (f2 (fBor 3) (f2 (fLst (aCons (fVar 4) aNil)) (f2 (f2 (f1 (fBor 1) listD) (fBor 4) cntD) (f2 (f1 (fBor 2) listD) (fBor 4) cntD) subD) mulD) addD) (gN 3))
noncomputable def b_in_excess : PD.Env → Option Out := (sSeq (sAsg (fLst aNil) (gN 3))
    (sSeq (sFor (iSeq (fVar 0)) (gN 4) loop_in_excess_1 [4])
    (sRet (f1 (fBor 3) tupleD))))
noncomputable def F_in_excess : List D → Option D := runF 5 b_in_excess
noncomputable def loop_difference_1 : PD.Env → Option Out := (sAug 4 (fC (.int 1)) addInt)
noncomputable def test_difference_2 : PD.Env → Option Bool := (fAnd (fT (f2 (fBor 4) (f1 (fBor 2) lenD) ltD)) (fAnd (fT (f2 (fBor 4) (f1 (fBor 3) lenD) ltD)) (fT (f2 (f2 (fBor 2) (fBor 4) ixD) (f2 (fBor 3) (fBor 4) ixD) (eqO false)))))
noncomputable def b_difference : PD.Env → Option Out := (sSeq (sIf (fT (f2 (fBor 0) (fC (.str "ignored")) (eqO false))) (sRet (fTup (aCons (fTup aNil) (aCons (fTup aNil) aNil)))) sNext)
    (sSeq (sIf (fT (f2 (fBor 0) (fC (.str "unordered")) (eqO false))) (sRet (fTup (aCons (fCall F_in_excess [] (aCons (fVar 1) (aCons (fVar 2) (aCons (fVar 3) aNil)))) (aCons (fCall F_in_excess [] (aCons (fVar 1) (aCons (fVar 3) (aCons (fVar 2) aNil)))) aNil)))) sNext)
    (sSeq (sAsg (fC (.int 0)) (gN 4))
    (sSeq (whileF test_difference_2 loop_difference_1 [] 100000)
    (sRet (fTup (aCons (f1 (fSl (fBor 2) (pSome (fBor 4)) pNone slD) tupleD) (aCons (f1 (fSl (fBor 3) (pSome (fBor 4)) pNone slD) tupleD) aNil))))))))
noncomputable def F_difference : List D → Option D := runF 5 b_difference
noncomputable def b_looks_same : PD.Env → Option Out := (sSeq (sIf (fT (f2 (fBor 0) (fC (.str "ignored")) (eqO false))) (sRet (fC (.bl true))) sNext)
    (sSeq (sIf (fT (f2 (fBor 0) (fC (.str "unordered")) (eqO false))) (sRet (f2 (f1 (fBor 1) sortedD) (f1 (fBor 2) sortedD) (eqO false))) sNext)
    (sRet (f2 (f1 (fBor 1) listD) (f1 (fBor 2) listD) (eqO false)))))
noncomputable def F_looks_same : List D → Option D := runF 3 b_looks_same
noncomputable def b_law_cell : PD.Env → Option Out := (sSeq (sIf (fT (f2 (fBor 1) (f1 (fBor 0) lenD) ltD)) (sRet (f2 (fBor 0) (fBor 1) ixD)) sNext)
    (sRet (fC (.int 0))))
noncomputable def F_law_cell : List D → Option D := runF 2 b_law_cell
noncomputable def loop_law_row_1 : PD.Env → Option Out := (sIf (fT (f2 (fBor 0) (f2 (fC (.int 10)) (fC (.int 18)) powD) geD)) (sSeq (sApp 2 (f2 (f1 (fBor 3) toIntD) (fC (.int 840)) modD))
    (sAsg (f2 (fBor 3) (fC (.int 840)) fdivD) (gN 3))) (sSeq (sAsg (f2 (f1 (f2 (f2 (fBor 4) (fC (.int 48271)) mulD) (fBor 5) addD) toIntD) (fC (.int 2147483647)) modD) (gN 4))
    (sApp 2 (f2 (f2 (f2 (f1 (f2 (fBor 4) (fC (.int 69621)) mulD) toIntD) (fC (.int 2147483629)) modD) (fC (.int 7)) fdivD) (fC (.int 840)) modD))))
noncomputable def b_law_row : PD.Env → Option Out := (sSeq (sOwn 2 (fLst aNil))
    (sSeq (sAsg (fVar 0) (gN 3))
    (sSeq (sAsg (f2 (f2 (f1 (fBor 0) toIntD) (fC (.int 2147483629)) modD) (fC (.int 1)) addD) (gN 4))
    (sSeq (sFor (iR1 (fBor 1)) (gN 5) loop_law_row_1 [5])
    (fun ρ => (sRet (fVar 2)) (frz [2] ρ))))))
noncomputable def F_law_row : List D → Option D := runF 6 b_law_row
noncomputable def loop_law_lists_1 : PD.Env → Option Out := (sSeq (sAsg (f2 (f2 (fBor 4) (fC (.int 4)) fdivD) (f2 (f1 (fBor 5) lenD) (fC (.int 1)) addD) modD) (gN 6))
    (sIf (fT (f2 (f2 (fBor 4) (fC (.int 4)) modD) (fC (.int 0)) (eqO false))) (sAsg (f2 (f2 (fSl (fBor 5) pNone (pSome (fBor 6)) slD) (fLst (aCons (f2 (fBor 1) (f2 (f2 (fBor 4) (fC (.int 7)) fdivD) (f1 (fBor 1) lenD) modD) ixD) aNil)) addD) (fSl (fBor 5) (pSome (fBor 6)) pNone slD) addD) (gN 5)) (sIf (fT (f2 (f2 (fBor 4) (fC (.int 4)) modD) (fC (.int 1)) (eqO false))) (sAsg (f2 (fSl (fBor 5) pNone (pSome (fBor 6)) slD) (fSl (fBor 5) (pSome (f2 (fBor 6) (fC (.int 1)) addD)) pNone slD) addD) (gN 5)) (sIf (fT (f2 (f2 (fBor 4) (fC (.int 4)) modD) (fC (.int 2)) (eqO false))) (sAsg (f2 (fSl (fBor 5) pNone (pSome (fBor 6)) slD) (f1 (fSl (fBor 5) (pSome (fBor 6)) pNone slD) revD) addD) (gN 5)) (sAsg (f2 (f2 (fSl (fBor 5) pNone (pSome (fBor 6)) slD) (fLst (aCons (f2 (fBor 1) (f2 (f2 (fBor 4) (fC (.int 5)) fdivD) (f1 (fBor 1) lenD) modD) ixD) aNil)) addD) (fSl (fBor 5) (pSome (f2 (fBor 6) (fC (.int 1)) addD)) pNone slD) addD) (gN 5))))))
noncomputable def b_law_lists : PD.Env → Option Out := (sSeq (sAsg (fCall F_law_row [] (aCons (fCall F_law_cell [] (aCons (fVar 0) (aCons (fC (.int 0)) aNil))) (aCons (f2 (fCall F_law_cell [] (aCons (fVar 0) (aCons (fC (.int 1)) aNil))) (fC (.int 31)) modD) aNil))) (gN 2))
    (sSeq (sAsg (fLc [4] (iSeq (fVar 2)) (gN 4) qYes (f2 (fBor 1) (f2 (fBor 4) (f1 (fBor 1) lenD) modD) ixD)) (gN 3))
    (sSeq (sAsg (f1 (fBor 3) listD) (gN 5))
    (sSeq (sFor (iSeq (f2 (fCall F_law_row [] (aCons (fCall F_law_cell [] (aCons (fVar 0) (aCons (fC (.int 2)) aNil))) (aCons (f2 (fCall F_law_cell [] (aCons (fVar 0) (aCons (fC (.int 3)) aNil))) (fC (.int 5)) modD) aNil))) (fSl (fBor 0) (pSome (fC (.int 5))) pNone slD) addD)) (gN 4) loop_law_lists_1 [6])
    (sRet (fLst (aCons (fVar 3) (aCons (fVar 5) aNil))))))))
noncomputable def F_law_lists : List D → Option D := runF 7 b_law_lists
noncomputable def loop_law_excess_1 : PD.Env → Option Out := (sApp 3 (fVar 4))
noncomputable def loop_law_excess_2 : PD.Env → Option Out := (sFor (iR1 (f2 (f1 (fLc [6] (iSeq (fVar 1)) (gN 6) (fT (f2 (fBor 6) (fBor 4) (eqO false))) (fVar 6)) lenD) (f1 (fLc [6] (iSeq (fVar 2)) (gN 6) (fT (f2 (fBor 6) (fBor 4) (eqO false))) (fVar 6)) lenD) subD)) (gN 5) loop_law_excess_1 [5])
noncomputable def b_law_excess : PD.Env → Option Out := (sSeq (sOwn 3 (fLst aNil))
    (sSeq (sFor (iSeq (fVar 0)) (gN 4) loop_law_excess_2 [4, 5])
    (sRet (f1 (fBor 3) tupleD))))
noncomputable def F_law_excess : List D → Option D := runF 7 b_law_excess
noncomputable def loop_law_due_v3_1 : PD.Env → Option Out := (sIf (fAnd (fT (f2 (fBor 4) (fBor 5) (eqO false))) (fT (f2 (f2 (fBor 2) (fBor 5) ixD) (f2 (fBor 3) (fBor 5) ixD) (eqO false)))) (sAsg (f2 (fBor 5) (fC (.int 1)) addD) (gN 4)) sNext)
noncomputable def b_law_due_v3 : PD.Env → Option Out := (sSeq (sIf (fT (f2 (fBor 0) (fC (.str "ignored")) (eqO false))) (sRet (fTup (aCons (fTup aNil) (aCons (fTup aNil) aNil)))) sNext)
    (sSeq (sIf (fT (f2 (fBor 0) (fC (.str "unordered")) (eqO false))) (sRet (fTup (aCons (fCall F_law_excess [] (aCons (fVar 1) (aCons (fVar 2) (aCons (fVar 3) aNil)))) (aCons (fCall F_law_excess [] (aCons (fVar 1) (aCons (fVar 3) (aCons (fVar 2) aNil)))) aNil)))) sNext)
    (sSeq (sAsg (fC (.int 0)) (gN 4))
    (sSeq (sFor (iR1 (f2 (f1 (fBor 2) lenD) (f1 (fBor 3) lenD) min2D)) (gN 5) loop_law_due_v3_1 [5])
    (sRet (fTup (aCons (f1 (fSl (fBor 2) (pSome (fBor 4)) pNone slD) tupleD) (aCons (f1 (fSl (fBor 3) (pSome (fBor 4)) pNone slD) tupleD) aNil))))))))
noncomputable def F_law_due_v3 : List D → Option D := runF 6 b_law_due_v3
noncomputable def b_extended : PD.Env → Option Out := (sRet (fCall F_difference [] (aCons (fVar 0) (aCons (fVar 1) (aCons (f2 (f1 (f2 (fBor 2) (fC (.int 0)) ixD) listD) (f1 (fBor 3) listD) addD) (aCons (f2 (f1 (f2 (fBor 2) (fC (.int 1)) ixD) listD) (f1 (fBor 4) listD) addD) aNil))))))
noncomputable def F_extended : List D → Option D := runF 5 b_extended
noncomputable def b_law_some : PD.Env → Option Out := (sRet (fLc [2] (iSeq (fSl (fBor 0) pNone (pSome (f2 (f2 (fBor 0) (fC (.int 0)) ixD) (fC (.int 4)) modD)) slD)) (gN 2) qYes (f2 (fBor 1) (f2 (f2 (fBor 2) (fC (.int 4)) fdivD) (f1 (fBor 1) lenD) modD) ixD)))
noncomputable def F_law_some : List D → Option D := runF 3 b_law_some
end PL

/-! what every law begins with: a cell of the script, a row drawn from a cell -/
namespace PL
open PySem PySem.Spec PyProof.Rows L2 PD
def cellAt (ns : List Int) (k : Nat) : Int := ns.getD k 0
theorem cell_eq (ns : List Int) (k : Nat) : F_law_cell [.frl (ns.map .int), .int (k : Nat)] = some (.int (cellAt ns k)) := by
  unfold cellAt
  by_cases h : k < ns.length
  · refine runF_rt ?_
    have e : atI (ns.map D.int) ((k : Nat) : Int) = some (.int ns[k]) := atI_nat (by simp [h])
    simp [b_law_cell, h, e]
  · refine runF_rt ?_
    simp [b_law_cell, h]
theorem row_turn {c n i : Int} {r : List Int} {x s : Int} (hr : r.length ≤ 1000) :
    ∃ y x' s', turn (gN 5) loop_law_row_1 [5] (.int i) [.val (.int c), .val (.int n), .own (.lst (r.map .int)), .val (.int x), .val (.int s), .un] = some (.nx [.val (.int c), .val (.int n), .own (.lst ((r ++ [y]).map .int)), .val (.int x'), .val (.int s'), .un]) ∧ 0 ≤ y ∧ y < 840 := by
  have hl : r.length < sizeLine := Nat.lt_of_le_of_lt hr (by decide)
  have hl' : r.length < 16777216 := Nat.lt_of_le_of_lt hr (by decide)
  by_cases hc : 1000000000000000000 ≤ c
  · refine ⟨x % 840, x / 840, s, ?_, by omega, by omega⟩
    simp [loop_law_row_1, powD_int, hc, modD_pos, fdivD_pos, hl']
  · refine ⟨(s * 48271 + i) % 2147483647 * 69621 % 2147483629 / 7 % 840, x, (s * 48271 + i) % 2147483647, ?_, by omega, by omega⟩
    simp [loop_law_row_1, powD_int, hc, modD_pos, fdivD_pos, mulD_right, hl']
theorem row_eq (c : Int) (n : Nat) (hn : n ≤ 1000) : ∃ r : List Int, F_law_row [.int c, .int (n : Nat)] = some (.lst (r.map .int)) ∧ r.length = n ∧ ∀ x ∈ r, 0 ≤ x ∧ x < 840 := by
  have loop := forF_run (ft := gN 5) (f := loop_law_row_1) (is := [5]) (enc := fun i : Nat => D.int (i : Int)) (fun pre ρ => ∃ (r : List Int) (x s : Int), ρ = [.val (.int c), .val (.int n), .own (.lst (r.map .int)), .val (.int x), .val (.int s), .un] ∧ r.length = pre.length ∧ (∀ y ∈ r, 0 ≤ y ∧ y < 840)) (List.range n)
    (ρ := [.val (.int c), .val (.int n), .own (.lst []), .val (.int c), .val (.int (c % 2147483629 + 1)), .un]) ⟨[], c, _, rfl, rfl, (by simp)⟩ (by
      rintro pre t post ρ he ⟨r, x, s, rfl, h1, h2⟩
      have hl := congrArg List.length he
      simp at hl
      obtain ⟨y, x', s', h4, h5⟩ := row_turn (c := c) (n := n) (i := (t : Nat)) (r := r) (x := x) (s := s) (by omega)
      refine ⟨_, h4, r ++ [y], x', s', rfl, by simp [h1], fun z hz => ?_⟩
      rcases List.mem_append.mp hz with hz | hz
      · exact h2 z hz
      · rw [List.mem_singleton.mp hz]
        exact h5)
  obtain ⟨ρ', h1, r, x, s, rfl, h2, h3⟩ := loop
  refine ⟨r, runF_rt ?_, by simpa using h2, h3⟩
  have hn2 : (n : Int) < 4611686018427387904 := by omega
  have hn3 : (-4611686018427387904 : Int) ≤ n := by omega
  simp [b_law_row, modD_pos, hn2, hn3, h1]
end PL

/-! differences of two rows of signals -/
namespace PL
open PySem PySem.Spec PyProof.Rows L2 PD
abbrev St := PySem.Str
def strD (xs : List St) : List D := xs.map .str
def excess (sg xs ys : List St) : List St := sg.flatMap fun s => List.replicate (xs.count s - ys.count s) s
theorem excess_len (sg xs ys : List St) : (excess sg xs ys).length ≤ sg.length * xs.length := by
  unfold excess
  induction sg with
  | nil => simp
  | cons s sg ih =>
    rw [List.flatMap_cons, List.length_append, List.length_replicate, List.length_cons, Nat.succ_mul]
    have := List.count_le_length (a := s) (l := xs)
    omega
theorem in_excess_eq {b1 b2 b3 : Bool} {sg xs ys : List St} (h1 : sg.length ≤ 100) (h2 : xs.length ≤ 10000) (h3 : ys.length ≤ 10000) :
    F_in_excess [sqD b1 (strD sg), sqD b2 (strD xs), sqD b3 (strD ys)] = some (.tup (strD (excess sg xs ys))) := by
  unfold strD
  have loop := forF_run (ft := gN 4) (f := loop_in_excess_1) (is := [4]) (enc := fun s : St => D.str s) (fun pre ρ => ρ = [.val (sqD b1 (sg.map .str)), .val (sqD b2 (xs.map .str)), .val (sqD b3 (ys.map .str)), .val (.lst ((excess pre xs ys).map .str)), .un]) sg
    (ρ := [.val (sqD b1 (sg.map .str)), .val (sqD b2 (xs.map .str)), .val (sqD b3 (ys.map .str)), .val (.lst []), .un]) rfl (by
      rintro pre t post ρ he rfl
      refine ⟨_, ?_, rfl⟩
      have hl := congrArg List.length he
      simp at hl
      have e1 := excess_len pre xs ys
      have e0 : pre.length * xs.length ≤ 100 * 10000 := Nat.mul_le_mul (by omega) h2
      have e2 := List.count_le_length (a := t) (l := xs)
      have e3 := List.count_le_length (a := t) (l := ys)
      have e4 : ((xs.count t : Int) - (ys.count t : Int)).toNat = xs.count t - ys.count t := by omega
      have e5 : excess (pre ++ [t]) xs ys = excess pre xs ys ++ List.replicate (xs.count t - ys.count t) t := by
        unfold excess
        rw [List.flatMap_append]
        simp
      rw [e5]
      have e6 : -9223372036854775808 ≤ (xs.count t : Int) - (ys.count t : Int) := by omega
      have e7 : (xs.count t : Int) - (ys.count t : Int) ≤ 16777216 := by omega
      have e8 := addD_lst (ds := (excess pre xs ys).map D.str) (es := List.replicate (xs.count t - ys.count t) (.str t)) (by simp; omega)
      simp [loop_in_excess_1, mulD_one e6 e7, e4, e8])
  obtain ⟨ρ', h4, rfl⟩ := loop
  refine runF_rt ?_
  simp [b_in_excess, h4]
/-- how far both go alike -/
def alike : List St → List St → Nat
  | x :: xs, y :: ys => if x = y then alike xs ys + 1 else 0
  | _, _ => 0
theorem alike_le : ∀ xs ys : List St, alike xs ys ≤ xs.length ∧ alike xs ys ≤ ys.length
  | [], _ => ⟨Nat.zero_le _, Nat.zero_le _⟩
  | _ :: _, [] => ⟨Nat.zero_le _, Nat.zero_le _⟩
  | x :: xs, y :: ys => by
    have := alike_le xs ys
    unfold alike
    by_cases h : x = y
    · rw [if_pos h]
      simp only [List.length_cons]
      omega
    · rw [if_neg h]
      simp
theorem alike_lt : ∀ (xs ys : List St) (k : Nat), k < alike xs ys → ∃ x, xs[k]? = some x ∧ ys[k]? = some x
  | [], _, _, h => by simp [alike] at h
  | _ :: _, [], _, h => by simp [alike] at h
  | x :: xs, y :: ys, k, h => by
    unfold alike at h
    by_cases e : x = y
    · rw [if_pos e] at h
      cases k with
      | zero => exact ⟨x, rfl, by rw [e]; rfl⟩
      | succ k => exact alike_lt xs ys k (by omega)
    · rw [if_neg e] at h
      omega
theorem alike_at : ∀ (xs ys : List St) (x y : St), xs[alike xs ys]? = some x → ys[alike xs ys]? = some y → x ≠ y
  | [], _, _, _, h, _ => by simp at h
  | _ :: _, [], _, _, _, h => by simp at h
  | x :: xs, y :: ys, a, b, h, h' => by
    unfold alike at h h'
    by_cases e : x = y
    · rw [if_pos e] at h h'
      exact alike_at xs ys a b h h'
    · rw [if_neg e] at h h'
      cases h
      cases h'
      exact e
def diff (v : St) (sg xs ys : List St) : List St × List St :=
  if v = PySem.Str.ofString "ignored" then ([], [])
  else if v = PySem.Str.ofString "unordered" then (excess sg xs ys, excess sg ys xs)
  else (xs.drop (alike xs ys), ys.drop (alike xs ys))
def pairD (p : List St × List St) : D := .tup [.tup (strD p.1), .tup (strD p.2)]
theorem difference_eq {b1 b2 b3 : Bool} {v : St} {sg xs ys : List St} (h1 : sg.length ≤ 100) (h2 : xs.length ≤ 10000) (h3 : ys.length ≤ 10000) :
    F_difference [.str v, sqD b1 (strD sg), sqD b2 (strD xs), sqD b3 (strD ys)] = some (pairD (diff v sg xs ys)) := by
  refine runF_rt ?_
  unfold diff
  by_cases hv : v = PySem.Str.ofString "ignored"
  · subst hv
    simp [b_difference, pairD, strD]
  by_cases hv2 : v = PySem.Str.ofString "unordered"
  · subst hv2
    simp [b_difference, pairD, hv, in_excess_eq h1 h2 h3, in_excess_eq h1 h3 h2]
  have w := whileF_run (ft := test_difference_2) (f := loop_difference_1) (is := []) (fun k => [.val (.str v), .val (sqD b1 (strD sg)), .val (sqD b2 (strD xs)), .val (sqD b3 (strD ys)), .val (.int (k : Nat))]) (alike xs ys) 0 100000
    (fun i _ hi => by
      obtain ⟨x, e1, e2⟩ := alike_lt xs ys i (by omega)
      have l1 := alike_le xs ys
      have i1 : i < xs.length := by omega
      have i2 : i < ys.length := by omega
      have a1 := atI_lt (xs := strD xs) (i := (i : Int)) rfl (x := D.str x) (by unfold strD; rw [List.getElem?_map, e1]; rfl)
      have a2 := atI_lt (xs := strD ys) (i := (i : Int)) rfl (x := D.str x) (by unfold strD; rw [List.getElem?_map, e2]; rfl)
      have l2 : (strD xs).length = xs.length := List.length_map ..
      have l3 : (strD ys).length = ys.length := List.length_map ..
      refine ⟨?_, _, rfl, rfl⟩
      simp [test_difference_2, a1, a2, l2, l3, i1, i2])
    (by
      have l1 := alike_le xs ys
      have l2 : (strD xs).length = xs.length := List.length_map ..
      have l3 : (strD ys).length = ys.length := List.length_map ..
      rw [Nat.zero_add]
      by_cases i1 : alike xs ys < xs.length
      · by_cases i2 : alike xs ys < ys.length
        · have e1 := List.getElem?_eq_getElem i1
          have e2 := List.getElem?_eq_getElem i2
          have ne := alike_at xs ys _ _ e1 e2
          have a1 := atI_lt (xs := strD xs) (i := (alike xs ys : Int)) rfl (x := D.str xs[alike xs ys]) (by unfold strD; rw [List.getElem?_map, e1]; rfl)
          have a2 := atI_lt (xs := strD ys) (i := (alike xs ys : Int)) rfl (x := D.str ys[alike xs ys]) (by unfold strD; rw [List.getElem?_map, e2]; rfl)
          simp [test_difference_2, a1, a2, l2, l3, i1, i2, ne]
        · simp [test_difference_2, l2, l3, i1, i2]
      · simp [test_difference_2, l2, l3, i1])
    (by have l1 := alike_le xs ys; omega)
  rw [Nat.zero_add] at w
  have w' := w
  simp at w'
  unfold strD at w'
  simp [b_difference, pairD, hv, hv2, w', cutL_from, strD]
end PL

/-! rows of signals -/
namespace PL
open PySem PySem.Spec PyProof.Rows L2 PD
def pick (sg : List St) (x : Int) : St := sg.getD (x % (sg.length : Int)).toNat default
theorem pick_at {sg : List St} (h : 0 < sg.length) (x : Int) : (x % (sg.length : Int)).toNat < sg.length ∧ 0 ≤ x % (sg.length : Int) := by
  have h1 := Int.emod_nonneg x (b := (sg.length : Int)) (by omega)
  have h2 := Int.emod_lt_of_pos x (b := (sg.length : Int)) (by omega)
  omega
theorem pick_mem {sg : List St} (h : 0 < sg.length) (x : Int) : pick sg x ∈ sg := by
  unfold pick
  rw [List.getD_eq_getElem?_getD, List.getElem?_eq_getElem (pick_at h x).1]
  exact List.getElem_mem _
theorem atI_pick {sg : List St} (h : 0 < sg.length) (x : Int) : atI (sg.map D.str) (x % (sg.length : Int)) = some (.str (pick sg x)) := by
  have h1 := pick_at h x
  refine atI_lt (n := (x % (sg.length : Int)).toNat) (by omega) ?_
  unfold pick
  rw [List.getElem?_map, List.getElem?_eq_getElem h1.1, List.getD_eq_getElem?_getD, List.getElem?_eq_getElem h1.1]
  rfl
theorem diff_ign {sg xs ys : List St} : diff (PySem.Str.ofString "ignored") sg xs ys = ([], []) := if_pos rfl
theorem diff_uno {sg xs ys : List St} : diff (PySem.Str.ofString "unordered") sg xs ys = (excess sg xs ys, excess sg ys xs) := by
  unfold diff
  rw [if_neg (by rw [strIs (by decide)]; exact not_false), if_pos rfl]
theorem diff_ord {v : St} {sg xs ys : List St} (h1 : ¬ v = PySem.Str.ofString "ignored") (h2 : ¬ v = PySem.Str.ofString "unordered") : diff v sg xs ys = (xs.drop (alike xs ys), ys.drop (alike xs ys)) := by
  unfold diff
  rw [if_neg h1, if_neg h2]
theorem diff_sub {sg : List St} {v : St} {xs ys : List St} {p : St → Prop} (hs : ∀ s ∈ sg, p s) (hx : ∀ s ∈ xs, p s) (hy : ∀ s ∈ ys, p s) : (∀ s ∈ (diff v sg xs ys).1, p s) ∧ ∀ s ∈ (diff v sg xs ys).2, p s := by
  have ex : ∀ a b, ∀ s ∈ excess sg a b, p s := by
    intro a b s h
    obtain ⟨t, ht, h2⟩ := List.mem_flatMap.mp h
    rw [List.mem_replicate] at h2
    exact h2.2 ▸ hs t ht
  by_cases hv : v = PySem.Str.ofString "ignored"
  · subst hv
    simp [diff_ign]
  by_cases hv2 : v = PySem.Str.ofString "unordered"
  · subst hv2
    rw [diff_uno]
    exact ⟨ex _ _, ex _ _⟩
  · rw [diff_ord hv hv2]
    exact ⟨fun s h => hx s (List.mem_of_mem_drop h), fun s h => hy s (List.mem_of_mem_drop h)⟩
theorem gd_strs {xs : List St} (h : ∀ s ∈ xs, okS s) : ∀ d ∈ strD xs, Gd 0 d := by
  intro d hd
  obtain ⟨s, hs, rfl⟩ := List.mem_map.mp hd
  exact .str (h s hs)
theorem pair_ok {p : List St × List St} (h1 : ∀ s ∈ p.1, okS s) (h2 : ∀ s ∈ p.2, okS s) : okD (pairD p) = true := by
  refine (Gd.tup (n := 1) fun d hd => ?_).ok (by decide)
  rcases List.mem_cons.mp hd with rfl | hd
  · exact .tup (gd_strs h1)
  · rcases List.mem_cons.mp hd with rfl | hd
    · exact .tup (gd_strs h2)
    · cases hd
@[simp] theorem strD_len {xs : List St} : (strD xs).length = xs.length := List.length_map ..
@[simp] theorem strD_add {xs ys : List St} : strD xs ++ strD ys = strD (xs ++ ys) := (List.map_append ..).symm
theorem strD_cut {xs : List St} {n : Nat} : cutL (strD xs) (some (n : Int)) none = strD (xs.drop n) := by
  rw [cutL_from]
  exact (List.map_drop ..).symm
theorem difference_eq' {v : St} {sg xs ys : List St} (h1 : sg.length ≤ 100) (h2 : xs.length ≤ 10000) (h3 : ys.length ≤ 10000) : F_difference [.str v, .tup (strD sg), .lst (strD xs), .lst (strD ys)] = some (pairD (diff v sg xs ys)) :=
  difference_eq (b1 := true) (b2 := false) (b3 := false) h1 h2 h3
theorem diff_len (v : St) (sg xs ys : List St) : (diff v sg xs ys).1.length ≤ sg.length * xs.length + xs.length ∧ (diff v sg xs ys).2.length ≤ sg.length * ys.length + ys.length := by
  by_cases hv : v = PySem.Str.ofString "ignored"
  · subst hv
    simp [diff_ign]
  by_cases hv2 : v = PySem.Str.ofString "unordered"
  · subst hv2
    rw [diff_uno]
    exact ⟨Nat.le_trans (excess_len _ _ _) (by omega), Nat.le_trans (excess_len _ _ _) (by omega)⟩
  · rw [diff_ord hv hv2]
    simp only [List.length_drop]
    omega
structure Sg (sg : List St) : Prop where
  pos : 0 < sg.length
  le : sg.length ≤ 4
  nd : sg.Nodup
  ok : ∀ s ∈ sg, okS s
theorem pair_fst {p : List St × List St} : ixD (pairD p) (.int 0) = some (.tup (strD p.1)) := rfl
theorem pair_snd {p : List St × List St} : ixD (pairD p) (.int 1) = some (.tup (strD p.2)) := rfl
def four : List St := [PySem.Str.ofString "x", PySem.Str.ofString "y", PySem.Str.ofString "lit", PySem.Str.ofString "dark"]
theorem four_nd : four.Nodup := by decide +kernel
theorem four_ok : ∀ s ∈ four, okS s := by
  have h : (four.all fun s => s.cps.all (· < 0x110000)) = true := by decide +kernel
  intro s hs
  exact (List.all_eq_true.mp h) s hs
theorem four_sg (n : Nat) : Sg (four.take (1 + n)) where
  pos := by rw [List.length_take]; exact Nat.lt_min.mpr ⟨by omega, by decide⟩
  le := by rw [List.length_take]; exact Nat.le_trans (Nat.min_le_right _ _) (by decide)
  nd := four_nd.sublist (List.take_sublist _ _)
  ok := fun s h => four_ok s (List.mem_of_mem_take h)
end PL

/-! two rows of signals, looked at by a walk of the law's own -/
namespace PL
open PySem PySem.Spec PyProof.Rows L2 PD
/-! sorted texts -/
def leS (x y : St) : Bool := decide (x.cps.toList ≤ y.cps.toList)
theorem leS_trans (a b c : St) (h : leS a b = true) (h' : leS b c = true) : leS a c = true := decide_eq_true (List.le_trans (of_decide_eq_true h) (of_decide_eq_true h'))
theorem leS_total (a b : St) : (leS a b || leS b a) = true := by
  unfold leS
  rcases List.le_total a.cps.toList b.cps.toList with h | h
  · rw [decide_eq_true h]; rfl
  · rw [decide_eq_true h]; simp
theorem leS_anti (a b : St) (h : leS a b = true) (h' : leS b a = true) : a = b := by
  have e := List.le_antisymm (of_decide_eq_true h) (of_decide_eq_true h')
  cases a
  cases b
  simp only [Array.toList_inj] at e
  rw [e]
theorem dataLe_strs (x y : St) : PySem.W.dataLe false toPy (.str x) (.str y) = leS x y := by
  have h := congrFun (congrFun (PySem.W.dataLe_str (fun b : St => b)) x) y
  exact h
theorem depth_sm {xs : List St} : ∀ d ∈ strD xs, (toPy d).depth ≤ 40 := by
  intro d hd
  obtain ⟨s, _, rfl⟩ := List.mem_map.mp hd
  exact Nat.zero_le _
theorem plain_strs {xs : List St} : plainL (strD xs) = true := by
  induction xs with
  | nil => rfl
  | cons x xs ih => simpa [strD, plainL, plainD] using ih
theorem sortedD_strs {b : Bool} {xs : List St} : sortedD (sqD b (strD xs)) = some (.lst (strD (xs.mergeSort leS))) := by
  have ok : SortOk (strD xs) := by
    refine ⟨plain_strs, ?_, ?_, depth_sm⟩
    · unfold strD
      rw [List.map_map]
      exact PySem.W.AllAlike.of fun _ _ => rfl
    · unfold strD
      rw [List.map_map]
      exact PySem.W.Sortable.others fun _ => ⟨by simp [toPy], by simp [toPy]⟩
  unfold sortedD
  rw [seqD_sq]
  simp only [Option.bind_some]
  rw [if_pos ok]
  unfold strD
  rw [List.map_mergeSort (fun x _ y _ => (dataLe_strs x y).symm)]
theorem sort_iff (xs ys : List St) : xs.mergeSort leS = ys.mergeSort leS ↔ ∀ s, xs.count s = ys.count s := by
  rw [← List.perm_iff_count]
  constructor
  · intro h
    exact (List.mergeSort_perm xs leS).symm.trans (h ▸ List.mergeSort_perm ys leS)
  · intro h
    exact List.Perm.eq_of_pairwise (le := fun a b => leS a b = true) (fun a b _ _ => leS_anti a b) (List.pairwise_mergeSort leS_trans leS_total xs) (List.pairwise_mergeSort leS_trans leS_total ys) (((List.mergeSort_perm xs leS).trans h).trans (List.mergeSort_perm ys leS).symm)
theorem noB_strs {xs : List St} : noBL (strD xs) = true := noBL_map fun _ => rfl
theorem lst_ok {xs : List St} (h : ∀ s ∈ xs, okS s) : okD (.lst (strD xs)) = true := (Gd.lst (n := 0) (gd_strs h)).ok (by decide)
theorem strD_inj {xs ys : List St} : strD xs = strD ys ↔ xs = ys := by
  unfold strD
  exact ⟨fun h => List.map_inj_right (fun a b h => by injection h) |>.mp h, fun h => by rw [h]⟩
theorem eq_lst {xs ys : List St} {neg : Bool} (h : ∀ s ∈ xs, okS s) (h' : ∀ s ∈ ys, okS s) : eqO neg (.lst (strD xs)) (.lst (strD ys)) = some (.bl (neg != decide (xs = ys))) :=
  eqO_is (lst_ok h) (lst_ok h') noB_strs noB_strs (by rw [decide_eq_true_iff, D.lst.injEq, strD_inj])
theorem noB_pair {p : List St × List St} : noB (pairD p) = true := by simp [pairD, noB, noBL, noB_strs]
theorem pairD_inj {p q : List St × List St} : pairD p = pairD q ↔ p = q := by
  obtain ⟨a, b⟩ := p
  obtain ⟨c, d⟩ := q
  simp [pairD, strD_inj]
theorem eq_pair {p q : List St × List St} {neg : Bool} (h1 : ∀ s ∈ p.1, okS s) (h2 : ∀ s ∈ p.2, okS s) (h3 : ∀ s ∈ q.1, okS s) (h4 : ∀ s ∈ q.2, okS s) : eqO neg (pairD p) (pairD q) = some (.bl (neg != decide (p = q))) :=
  eqO_is (pair_ok h1 h2) (pair_ok h3 h4) noB_pair noB_pair (by rw [decide_eq_true_iff, pairD_inj])
/-- what looks_same returns -/
def looks (v : St) (xs ys : List St) : Bool :=
  if v = PySem.Str.ofString "ignored" then true
  else if v = PySem.Str.ofString "unordered" then decide (xs.mergeSort leS = ys.mergeSort leS)
  else decide (xs = ys)
theorem looks_eq {b1 b2 : Bool} {v : St} {xs ys : List St} (h : ∀ s ∈ xs, okS s) (h' : ∀ s ∈ ys, okS s) : F_looks_same [.str v, sqD b1 (strD xs), sqD b2 (strD ys)] = some (.bl (looks v xs ys)) := by
  refine runF_rt ?_
  unfold looks
  by_cases hv : v = PySem.Str.ofString "ignored"
  · subst hv
    simp [b_looks_same]
  by_cases hv2 : v = PySem.Str.ofString "unordered"
  · subst hv2
    have e := eq_lst (neg := false) (xs := xs.mergeSort leS) (ys := ys.mergeSort leS) (fun s hs => h s (List.mem_mergeSort.mp hs)) (fun s hs => h' s (List.mem_mergeSort.mp hs))
    simp [b_looks_same, hv, sortedD_strs, e]
  · have e := eq_lst (neg := false) h h'
    simp [b_looks_same, hv, hv2, e]
theorem alike_nil : ∀ xs ys : List St, (xs.drop (alike xs ys) = [] ∧ ys.drop (alike xs ys) = []) ↔ xs = ys
  | [], ys => by simp [alike]
  | _ :: _, [] => by simp [alike]
  | x :: xs, y :: ys => by
    by_cases e : x = y
    · subst e
      have ih := alike_nil xs ys
      simp only [alike, if_true, List.drop_succ_cons, ih, List.cons.injEq, true_and]
    · simp [alike, e]
theorem excess_nil {sg xs ys : List St} : excess sg xs ys = [] ↔ ∀ s ∈ sg, xs.count s ≤ ys.count s := by
  unfold excess
  rw [List.flatMap_eq_nil_iff]
  constructor
  · intro h s hs
    have := congrArg List.length (h s hs)
    simp at this
    omega
  · intro h s hs
    have := h s hs
    rw [Nat.sub_eq_zero_of_le this]
    rfl
theorem looks_diff {v : St} {sg xs ys : List St} (hx : ∀ s ∈ xs, s ∈ sg) (hy : ∀ s ∈ ys, s ∈ sg) : looks v xs ys = decide (diff v sg xs ys = ([], [])) := by
  by_cases hv : v = PySem.Str.ofString "ignored"
  · subst hv
    rw [diff_ign]
    simp [looks]
  by_cases hv2 : v = PySem.Str.ofString "unordered"
  · subst hv2
    rw [diff_uno]
    unfold looks
    rw [if_neg hv, if_pos rfl]
    apply decide_eq_decide.mpr
    rw [sort_iff, Prod.mk.injEq, excess_nil, excess_nil]
    constructor
    · intro h
      exact ⟨fun s _ => by rw [h s]; exact Nat.le_refl _, fun s _ => by rw [h s]; exact Nat.le_refl _⟩
    · intro h s
      by_cases hs : s ∈ sg
      · exact Nat.le_antisymm (h.1 s hs) (h.2 s hs)
      · rw [List.count_eq_zero.mpr fun q => hs (hx s q), List.count_eq_zero.mpr fun q => hs (hy s q)]
  · rw [diff_ord hv hv2]
    unfold looks
    rw [if_neg hv, if_neg hv2]
    apply decide_eq_decide.mpr
    rw [Prod.mk.injEq, alike_nil]
theorem alike_comm : ∀ xs ys : List St, alike xs ys = alike ys xs
  | [], [] => rfl
  | [], _ :: _ => rfl
  | _ :: _, [] => rfl
  | x :: xs, y :: ys => by
    by_cases e : x = y
    · simp only [alike, if_pos e, if_pos e.symm, alike_comm xs ys]
    · simp only [alike, if_neg e, if_neg fun h : y = x => e h.symm]
theorem diff_swap (v : St) (sg xs ys : List St) : diff v sg ys xs = ((diff v sg xs ys).2, (diff v sg xs ys).1) := by
  by_cases hv : v = PySem.Str.ofString "ignored"
  · subst hv
    simp [diff_ign]
  by_cases hv2 : v = PySem.Str.ofString "unordered"
  · subst hv2
    simp [diff_uno]
  · simp only [diff_ord hv hv2, alike_comm ys xs]

/-! the law's own walk -/
theorem filt_len (xs : List St) (t : St) : (xs.filter fun x => decide (x = t)).length = xs.count t := by
  rw [List.count, List.countP_eq_length_filter]
  congr 1
theorem excess_in {sg xs ys : List D} {t : St} (n : Nat) (ex : List St) (hl : ex.length + n ≤ 100000) (s6 : Slot) :
    forF (gN 5) loop_law_excess_1 [5] ((List.range n).map fun i : Nat => D.int (i : Int)) [.val (.tup sg), .val (.lst xs), .val (.lst ys), .own (.lst (strD ex)), .val (.str t), .un, s6] = some (.nx [.val (.tup sg), .val (.lst xs), .val (.lst ys), .own (.lst (strD (ex ++ List.replicate n t))), .val (.str t), .un, s6]) := by
  obtain ⟨ρ', h1, h2⟩ := forF_run (ft := gN 5) (f := loop_law_excess_1) (is := [5]) (enc := fun i : Nat => D.int (i : Int)) (fun pre ρ => ρ = [.val (.tup sg), .val (.lst xs), .val (.lst ys), .own (.lst (strD (ex ++ List.replicate pre.length t))), .val (.str t), .un, s6]) (List.range n)
    (ρ := [.val (.tup sg), .val (.lst xs), .val (.lst ys), .own (.lst (strD ex)), .val (.str t), .un, s6]) (by simp) (by
      rintro pre k post ρ he rfl
      have hl2 := congrArg List.length he
      simp at hl2
      refine ⟨_, ?_, rfl⟩
      have e : strD (ex ++ List.replicate pre.length t) ++ [D.str t] = strD (ex ++ List.replicate (pre ++ [k]).length t) := by
        unfold strD
        simp [List.replicate_succ']
      have hl3 : ex.length + pre.length < 16777216 := by omega
      simp [loop_law_excess_1, hl3]
      simpa using e)
  rw [h1, h2]
  simp
theorem law_excess_eq {sg xs ys : List St} (h1 : sg.length ≤ 100) (h2 : xs.length ≤ 100) (h3 : ys.length ≤ 100) :
    F_law_excess [.tup (strD sg), .lst (strD xs), .lst (strD ys)] = some (.tup (strD (excess sg xs ys))) := by
  have loop := forF_run (ft := gN 4) (f := loop_law_excess_2) (is := [4, 5]) (enc := D.str) (fun pre ρ => ρ = [.val (.tup (strD sg)), .val (.lst (strD xs)), .val (.lst (strD ys)), .own (.lst (strD (excess pre xs ys))), .un, .un, .un]) sg
    (ρ := [.val (.tup (strD sg)), .val (.lst (strD xs)), .val (.lst (strD ys)), .own (.lst []), .un, .un, .un]) rfl (by
      rintro pre t post ρ he rfl
      refine ⟨_, ?_, rfl⟩
      have hl := congrArg List.length he
      simp at hl
      have e1 := excess_len pre xs ys
      have e0 : pre.length * xs.length ≤ 100 * 100 := Nat.mul_le_mul (by omega) h2
      have e2 := List.count_le_length (a := t) (l := xs)
      have e3 := List.count_le_length (a := t) (l := ys)
      have e4 : ((xs.count t : Int) - (ys.count t : Int)).toNat = xs.count t - ys.count t := by omega
      have e5 : excess (pre ++ [t]) xs ys = excess pre xs ys ++ List.replicate (xs.count t - ys.count t) t := by
        unfold excess
        rw [List.flatMap_append]
        simp
      rw [e5]
      have flt : ∀ zs : List St, lcF (gN 6) (fT (f2 (fBor 6) (fBor 4) (eqO false))) (fVar 6) [.val (.tup (strD sg)), .val (.lst (strD xs)), .val (.lst (strD ys)), .own (.lst (strD (excess pre xs ys))), .val (.str t), .un, .un] (strD zs) = some (strD (zs.filter fun x => decide (x = t))) := fun zs =>
        lcF_filter (enc := D.str) (q := fun x => decide (x = t)) (g := D.str) fun x _ => ⟨by simp, fun _ => by simp⟩
      have i1 : (-4611686018427387904 : Int) ≤ (xs.count t : Int) - (ys.count t : Int) := by omega
      have i2 : (xs.count t : Int) - (ys.count t : Int) < 4611686018427387904 := by omega
      have inn := excess_in (sg := strD sg) (xs := strD xs) (ys := strD ys) (t := t) (xs.count t - ys.count t) (excess pre xs ys) (by omega) .un
      have l2 : xs.length ≤ 16777216 := by omega
      have l3 : ys.length ≤ 16777216 := by omega
      simp [loop_law_excess_2, flt, filt_len, i1, i2, e4, inn, l2, l3])
  obtain ⟨ρ', h4, rfl⟩ := loop
  refine runF_rt ?_
  unfold strD at h4 ⊢
  simp [b_law_excess, h4]
end PL
namespace PL
open PySem PySem.Spec PyProof.Rows L2 PD
theorem law_due_eq {v : St} {sg xs ys : List St} (h1 : sg.length ≤ 100) (h2 : xs.length ≤ 100) (h3 : ys.length ≤ 100) :
    F_law_due_v3 [.str v, .tup (strD sg), .lst (strD xs), .lst (strD ys)] = some (pairD (diff v sg xs ys)) := by
  refine runF_rt ?_
  by_cases hv : v = PySem.Str.ofString "ignored"
  · subst hv
    rw [diff_ign]
    simp [b_law_due_v3, pairD, strD]
  by_cases hv2 : v = PySem.Str.ofString "unordered"
  · subst hv2
    rw [diff_uno]
    simp [b_law_due_v3, pairD, hv, law_excess_eq h1 h2 h3, law_excess_eq h1 h3 h2]
  rw [diff_ord hv hv2]
  have l1 := alike_le xs ys
  have loop := forF_run (ft := gN 5) (f := loop_law_due_v3_1) (is := [5]) (enc := fun i : Nat => D.int (i : Int)) (fun pre ρ => ρ = [.val (.str v), .val (.tup (strD sg)), .val (.lst (strD xs)), .val (.lst (strD ys)), .val (.int (min (alike xs ys) pre.length : Nat)), .un]) (List.range (min xs.length ys.length))
    (ρ := [.val (.str v), .val (.tup (strD sg)), .val (.lst (strD xs)), .val (.lst (strD ys)), .val (.int 0), .un]) (by simp) (by
      rintro pre t post ρ he rfl
      refine ⟨_, ?_, rfl⟩
      have hl := congrArg List.length he
      simp only [List.length_range, List.length_append, List.length_cons] at hl
      have ht : t = pre.length := by
        have h := congrArg (fun l => l[pre.length]?) he
        simp only [List.getElem?_append_right (Nat.le_refl _), Nat.sub_self, List.getElem?_cons_zero] at h
        rw [List.getElem?_range (by omega)] at h
        injection h with h
        exact h.symm
      subst ht
      have i1 : pre.length < xs.length := by omega
      have i2 : pre.length < ys.length := by omega
      have g1 := List.getElem?_eq_getElem i1
      have g2 := List.getElem?_eq_getElem i2
      have a1 : atI (strD xs) (pre.length : Int) = some (.str xs[pre.length]) := atI_lt rfl (by unfold strD; rw [List.getElem?_map, g1]; rfl)
      have a2 : atI (strD ys) (pre.length : Int) = some (.str ys[pre.length]) := atI_lt rfl (by unfold strD; rw [List.getElem?_map, g2]; rfl)
      by_cases c1 : alike xs ys < pre.length
      · have m1 : min (alike xs ys) pre.length = alike xs ys := by omega
        have m2 : min (alike xs ys) (pre ++ [pre.length]).length = alike xs ys := by simp; omega
        have ne : ¬ (alike xs ys : Int) = (pre.length : Int) := by omega
        rw [m1, m2]
        simp [loop_law_due_v3_1, decide_eq_false ne]
      · by_cases c2 : alike xs ys = pre.length
        · have m1 : min (alike xs ys) pre.length = pre.length := by omega
          have m2 : min (alike xs ys) (pre ++ [pre.length]).length = pre.length := by simp; omega
          have ne := alike_at xs ys xs[pre.length] ys[pre.length] (by rw [c2]; exact g1) (by rw [c2]; exact g2)
          rw [m1, m2]
          simp [loop_law_due_v3_1, a1, a2, ne]
        · have m1 : min (alike xs ys) pre.length = pre.length := by omega
          have m2 : min (alike xs ys) (pre ++ [pre.length]).length = pre.length + 1 := by simp; omega
          obtain ⟨x, q1, q2⟩ := alike_lt xs ys pre.length (by omega)
          have eq : xs[pre.length] = ys[pre.length] := by
            rw [g1] at q1
            rw [g2] at q2
            exact (Option.some.inj q1).trans (Option.some.inj q2).symm
          rw [m1, m2]
          simp [loop_law_due_v3_1, a1, a2, eq])
  obtain ⟨ρ', h4, rfl⟩ := loop
  rw [List.length_range, show min (alike xs ys) (min xs.length ys.length) = alike xs ys by omega] at h4
  have mn : (if (ys.length : Int) < (xs.length : Int) then (ys.length : Int) else (xs.length : Int)) = ((min xs.length ys.length : Nat) : Int) := by split <;> omega
  have i1 : (-4611686018427387904 : Int) ≤ ((min xs.length ys.length : Nat) : Int) := by omega
  have i2 : ((min xs.length ys.length : Nat) : Int) < 4611686018427387904 := by omega
  have mt : (((min xs.length ys.length : Nat) : Int)).toNat = min xs.length ys.length := Int.toNat_natCast _
  generalize min xs.length ys.length = mm at *
  have mn' : min2D (.int (xs.length : Int)) (.int (ys.length : Int)) = some (.int mm) := by rw [min2D_int, mn]
  simp [-min2D_int, b_law_due_v3, hv, hv2, mn', i1, i2, h4, strD_cut, pairD]
end PL

namespace PL
open PySem PySem.Spec PyProof.Rows L2 PD
theorem strD_to {xs : List St} {n : Nat} : cutL (strD xs) none (some (n : Int)) = strD (xs.take n) := by
  rw [cutL_to]
  exact (List.map_take ..).symm
def envL (ns : List Int) (sg : List St) (row : List Int) (xs : List St) (s4 : Slot) (ys : List St) : PD.Env :=
  [.val (.frl (ns.map .int)), .val (.tup (strD sg)), .val (.lst (row.map .int)), .val (.lst (strD xs)), s4, .val (.lst (strD ys)), .un]
theorem turnL {ns row : List Int} {sg xs ys : List St} {z : Int} {s4 : Slot} (S : Sg sg) (ly : ys.length ≤ 1000) (hy : ∀ s ∈ ys, s ∈ sg) :
    ∃ ys' : List St, turn (gN 4) loop_law_lists_1 [6] (.int z) (envL ns sg row xs s4 ys) = some (.nx (envL ns sg row xs (.val (.int z)) ys')) ∧ ys'.length ≤ ys.length + 1 ∧ ∀ s ∈ ys', s ∈ sg := by
  obtain ⟨k, hk⟩ : ∃ k : Nat, z / 4 % ((ys.length : Int) + 1) = (k : Int) := ⟨(z / 4 % ((ys.length : Int) + 1)).toNat, by have := Int.emod_nonneg (z / 4) (b := (ys.length : Int) + 1) (by omega); omega⟩
  have hk2 : k ≤ ys.length := by have := Int.emod_lt_of_pos (z / 4) (b := (ys.length : Int) + 1) (by omega); omega
  have hm : modD (.int (z / 4)) (.int ((ys.length : Int) + 1)) = some (.int k) := by rw [modD_pos (by omega), hk]
  have hp : (0 : Int) < (sg.length : Int) := by have := S.pos; omega
  have c1 := strD_to (xs := ys) (n := k)
  have c2 := strD_cut (xs := ys) (n := k)
  have c3 := strD_cut (xs := ys) (n := k + 1)
  have t1 : ∀ s ∈ ys.take k, s ∈ sg := fun s h => hy s (List.mem_of_mem_take h)
  have t2 : ∀ s ∈ ys.drop k, s ∈ sg := fun s h => hy s (List.mem_of_mem_drop h)
  have t3 : ∀ s ∈ ys.drop (k + 1), s ∈ sg := fun s h => hy s (List.mem_of_mem_drop h)
  have n1 : (ys.take k).length = k := by rw [List.length_take]; omega
  have n2 : (ys.drop k).length = ys.length - k := List.length_drop ..
  have n3 : (ys.drop (k + 1)).length = ys.length - (k + 1) := List.length_drop ..
  generalize ys.take k = a at *
  generalize ys.drop k = b at *
  generalize ys.drop (k + 1) = c at *
  have p7 : atI (strD sg) (z / 7 % (sg.length : Int)) = some (.str (pick sg (z / 7))) := atI_pick S.pos _
  have p5 : atI (strD sg) (z / 5 % (sg.length : Int)) = some (.str (pick sg (z / 5))) := atI_pick S.pos _
  have q7 := pick_mem S.pos (z / 7)
  have q5 := pick_mem S.pos (z / 5)
  have c3' : cutL (strD ys) (some ((k : Int) + 1)) none = strD c := c3
  have s0 : ∀ x : St, addD (.lst (strD a)) (.lst [.str x]) = some (.lst (strD (a ++ [x]))) := fun x => by
    rw [addD_lst (by simp; omega)]
    unfold strD
    simp
  have s1 : ∀ x : St, addD (.lst (strD (a ++ [x]))) (.lst (strD b)) = some (.lst (strD (a ++ [x] ++ b))) := fun x => by rw [addD_lst (by simp; omega), strD_add]
  have s2 : addD (.lst (strD a)) (.lst (strD c)) = some (.lst (strD (a ++ c))) := by rw [addD_lst (by simp; omega), strD_add]
  have s3 : addD (.lst (strD a)) (.lst (strD b).reverse) = some (.lst (strD (a ++ b.reverse))) := by
    rw [addD_lst (by simp; omega)]
    unfold strD
    simp
  have s4' : ∀ x : St, addD (.lst (strD (a ++ [x]))) (.lst (strD c)) = some (.lst (strD (a ++ [x] ++ c))) := fun x => by rw [addD_lst (by simp; omega), strD_add]
  have rv : ∀ ds : List D, revD (.lst ds) = some (.lst ds.reverse) := fun _ => rfl
  by_cases z0 : z % 4 = 0
  · refine ⟨a ++ [pick sg (z / 7)] ++ b, ?_, by simp; omega, fun s h => ?_⟩
    · simp [envL, loop_law_lists_1, fdivD_pos, hm, modD_pos, modD_pos hp, z0, c1, c2, p7, s0, s1]
    · simp only [List.mem_append, List.mem_singleton] at h
      rcases h with (h | rfl) | h
      · exact t1 s h
      · exact q7
      · exact t2 s h
  by_cases z1 : z % 4 = 1
  · refine ⟨a ++ c, ?_, by simp; omega, fun s h => (List.mem_append.mp h).elim (t1 s) (t3 s)⟩
    simp [envL, loop_law_lists_1, fdivD_pos, hm, modD_pos, modD_pos hp, z0, z1, c1, c3', s2]
  by_cases z2 : z % 4 = 2
  · refine ⟨a ++ b.reverse, ?_, by simp; omega, fun s h => (List.mem_append.mp h).elim (t1 s) fun h => t2 s (List.mem_reverse.mp h)⟩
    simp [envL, loop_law_lists_1, fdivD_pos, hm, modD_pos, modD_pos hp, z0, z1, z2, c1, c2, rv, s3]
  · refine ⟨a ++ [pick sg (z / 5)] ++ c, ?_, by simp; omega, fun s h => ?_⟩
    · simp [envL, loop_law_lists_1, fdivD_pos, hm, modD_pos, modD_pos hp, z0, z1, z2, c1, c3', p5, s0, s4']
    · simp only [List.mem_append, List.mem_singleton] at h
      rcases h with (h | rfl) | h
      · exact t1 s h
      · exact q5
      · exact t3 s h
end PL

namespace Lk07
open PySem PySem.Spec PyProof.Rows L2 PD PL
def topS (i : Nat) : Stmt := PySem.Challenge.pw_latecoming_k07_differences.main.body.getD i (.Pass ⟨0, 0, 0, 0⟩)
abbrev s_in_excess : Stmt := topS 1
abbrev s_difference : Stmt := topS 2
abbrev s_looks_same : Stmt := topS 3
abbrev s__law_cell : Stmt := topS 5
abbrev s__law_row : Stmt := topS 6
abbrev s__law_lists : Stmt := topS 7
abbrev s__law_excess : Stmt := topS 8
abbrev s__law_due : Stmt := topS 9
abbrev s_law : Stmt := topS 10
noncomputable def loop_law_1 : PD.Env → Option Out := (sSeq (sAsg (f1 (f2 (fBor 2) (fC (.int 0)) ixD) listD) (gN 4))
    (sSeq (sAsg (f1 (f2 (fBor 2) (fC (.int 1)) ixD) listD) (gN 5))
    (sSeq (sAsg (fCall F_law_due_v3 [] (aCons (fVar 3) (aCons (fVar 1) (aCons (fVar 4) (aCons (fVar 5) aNil))))) (gN 6))
    (sSeq (sAsg (fCall F_difference [] (aCons (fVar 3) (aCons (fVar 1) (aCons (fVar 4) (aCons (fVar 5) aNil))))) (gN 7))
    (sSeq (sIf (fOr (fNot (fTru (f1 (fBor 7) (isiD "tuple")))) (fOr (fT (f2 (fBor 7) (fBor 6) (eqO true))) (fOr (fT (f2 (fBor 4) (f2 (fBor 2) (fC (.int 0)) ixD) (eqO true))) (fT (f2 (fBor 5) (f2 (fBor 2) (fC (.int 1)) ixD) (eqO true)))))) (sRet (fC (.bl false))) sNext)
    (sSeq (sIf (fT (f2 (fCall F_difference [] (aCons (fVar 3) (aCons (fVar 1) (aCons (fVar 5) (aCons (fVar 4) aNil))))) (fTup (aCons (f2 (fBor 6) (fC (.int 1)) ixD) (aCons (f2 (fBor 6) (fC (.int 0)) ixD) aNil))) (eqO true))) (sRet (fC (.bl false))) sNext)
    (sSeq (sIf (fOr (fT (f2 (fCall F_difference [] (aCons (fVar 3) (aCons (f1 (fBor 1) listD) (aCons (f1 (fBor 4) tupleD) (aCons (fVar 5) aNil))))) (fBor 6) (eqO true))) (fT (f2 (fCall F_looks_same [] (aCons (fVar 3) (aCons (f1 (fBor 4) tupleD) (aCons (fVar 5) aNil)))) (f2 (fBor 6) (fTup (aCons (fTup aNil) (aCons (fTup aNil) aNil))) (eqO false)) (eqO true)))) (sRet (fC (.bl false))) sNext)
    (sSeq (sAsg (fCall F_looks_same [] (aCons (fVar 3) (aCons (fVar 4) (aCons (fVar 5) aNil)))) (gN 8))
    (sIf (fOr (fNot (fTru (f1 (fBor 8) (isiD "bool")))) (fT (f2 (fBor 8) (f2 (fBor 6) (fTup (aCons (fTup aNil) (aCons (fTup aNil) aNil))) (eqO false)) (eqO true)))) (sRet (fC (.bl false))) sNext)))))))))
noncomputable def b_law : PD.Env → Option Out := (sSeq (sAsg (fSl (fTup (aCons (fC (.str "x")) (aCons (fC (.str "y")) (aCons (fC (.str "lit")) (aCons (fC (.str "dark")) aNil))))) pNone (pSome (f2 (fC (.int 1)) (f2 (fCall F_law_cell [] (aCons (fVar 0) (aCons (fC (.int 4)) aNil))) (fC (.int 4)) modD) addD)) slD) (gN 1))
    (sSeq (sAsg (fCall F_law_lists [] (aCons (fVar 0) (aCons (fVar 1) aNil))) (gN 2))
    (sSeq (sFor (iSeq (fLst (aCons (fC (.str "ordered")) (aCons (fC (.str "unordered")) (aCons (fC (.str "ignored")) aNil))))) (gN 3) loop_law_1 [3, 4, 5, 6, 7, 8])
    (sRet (fC (.bl true))))))
noncomputable def F_law : List D → Option D := runF 9 b_law
structure Ad where
  in_excess : Addr
  difference : Addr
  looks_same : Addr
  _law_cell : Addr
  _law_row : Addr
  _law_lists : Addr
  _law_excess : Addr
  _law_due : Addr
  law : Addr
structure Tx (K : PySem.W.Frag) (mg : Str → Option Value) (a : Ad) : Prop where
  z_bool : mg "bool" = none
  z_int : mg "int" = none
  z_isinstance : mg "isinstance" = none
  z_len : mg "len" = none
  z_list : mg "list" = none
  z_min : mg "min" = none
  z_range : mg "range" = none
  z_sorted : mg "sorted" = none
  z_tuple : mg "tuple" = none
  g_in_excess : mg "in_excess" = some (.ref a.in_excess)
  fn_in_excess : ∃ fd, Fun K "in_excess" "in_excess" s_in_excess a.in_excess fd ∧ Binds K fd ["signals", "first", "second"] []
  g_difference : mg "difference" = some (.ref a.difference)
  fn_difference : ∃ fd, Fun K "difference" "difference" s_difference a.difference fd ∧ Binds K fd ["view", "signals", "first", "second"] []
  g_looks_same : mg "looks_same" = some (.ref a.looks_same)
  fn_looks_same : ∃ fd, Fun K "looks_same" "looks_same" s_looks_same a.looks_same fd ∧ Binds K fd ["view", "first", "second"] []
  g__law_cell : mg "_law_cell" = some (.ref a._law_cell)
  fn__law_cell : ∃ fd, Fun K "_law_cell" "_law_cell" s__law_cell a._law_cell fd ∧ Binds K fd ["_law_script", "_law_k"] []
  g__law_row : mg "_law_row" = some (.ref a._law_row)
  fn__law_row : ∃ fd, Fun K "_law_row" "_law_row" s__law_row a._law_row fd ∧ Binds K fd ["_law_cell_here", "_law_count"] []
  g__law_lists : mg "_law_lists" = some (.ref a._law_lists)
  fn__law_lists : ∃ fd, Fun K "_law_lists" "_law_lists" s__law_lists a._law_lists fd ∧ Binds K fd ["_law_script", "_law_signals"] []
  g__law_excess : mg "_law_excess" = some (.ref a._law_excess)
  fn__law_excess : ∃ fd, Fun K "_law_excess" "_law_excess" s__law_excess a._law_excess fd ∧ Binds K fd ["_law_signals", "_law_first", "_law_second"] []
  g__law_due : mg "_law_due" = some (.ref a._law_due)
  fn__law_due : ∃ fd, Fun K "_law_due" "_law_due" s__law_due a._law_due fd ∧ Binds K fd ["_law_view", "_law_signals", "_law_first", "_law_second"] []
  g_law : mg "law" = some (.ref a.law)
  fn_law : ∃ fd, Fun K "law" "law" s_law a.law fd ∧ Binds K fd ["_law_script"] []
section
variable {P : Program} {w : World} {K : PySem.W.Frag} {mg : Str → Option Value} {base : Heap} {ct : Nat → Addr} {a : Ad}
theorem sc_in_excess : FnScope ["signals", "first", "second", "result", "signal"] ["signals", "first", "second"] (defScope s_in_excess) := ⟨rfl, rfl, rfl, by decide +kernel, rfl, by decide +kernel, by decide +kernel⟩
set_option maxRecDepth 100000 in
theorem ok_in_excess (T : Tx K mg a) {fd : FuncData} (F : Fun K "in_excess" "in_excess" s_in_excess a.in_excess fd) : FnOk P w K mg base CX0 1 a.in_excess fd ["signals", "first", "second"] (spD K ct 3 F_in_excess) := by
  have sc := sc_in_excess
  refine fn_ok F sc_in_excess (fun cdv A outer s H E hr => ?_)
  exact (s_seq (s_asg (PE.ow (o_lst a_nil)) (g_name 3 (pg_name (i := 3) sc.nd rfl (Or.inl rfl))))
      (s_seq (s_for (f := loop_in_excess_1) [4] PassesOwn.never rfl (i_seq (e_var 0 (pv 0))) (g_name 4 (pg_name (i := 4) sc.nd rfl (Or.inl rfl))) (s_one (s_asg (e_bin op_addAny add_ok (b_var 3 (pv 3)) (PE.bo (e_bin op_mulAny mul_ok (PE.bo (PE.ow (o_lst (a_cons (e_var 4 (pv 4)) a_nil)))) (PE.bo (e_bin op_sub sub_ok (PE.bo (e_bm1 PySem.F.plainAttrs_list PySem.F.slot_list_count PySem.F.type_list_count mt_countS cnt_ok (PE.bo (PE.ow (c_list (by rfl) T.z_list (b_var 1 (pv 1))))) (b_var 4 (pv 4)) cnt_ty (pe_bm PySem.F.plainAttrs_list PySem.F.slot_list_count PySem.F.type_list_count mt_countS (PE.bo (PE.ow (c_list (by rfl) T.z_list (b_var 1 (pv 1))))) (pa_cons (b_var 4 (pv 4)) pa_nil)))) (PE.bo (e_bm1 PySem.F.plainAttrs_list PySem.F.slot_list_count PySem.F.type_list_count mt_countS cnt_ok (PE.bo (PE.ow (c_list (by rfl) T.z_list (b_var 2 (pv 2))))) (b_var 4 (pv 4)) cnt_ty (pe_bm PySem.F.plainAttrs_list PySem.F.slot_list_count PySem.F.type_list_count mt_countS (PE.bo (PE.ow (c_list (by rfl) T.z_list (b_var 2 (pv 2))))) (pa_cons (b_var 4 (pv 4)) pa_nil))))))))) (g_name 3 (pg_name (i := 3) sc.nd rfl (Or.inl rfl))))))
      (s_one (s_ret (c_tuple (by rfl) T.z_tuple (b_var 3 (pv 3)))))))
theorem sc_difference : FnScope ["view", "signals", "first", "second", "k"] ["view", "signals", "first", "second"] (defScope s_difference) := ⟨rfl, rfl, rfl, by decide +kernel, rfl, by decide +kernel, by decide +kernel⟩
set_option maxRecDepth 100000 in
theorem ok_difference (T : Tx K mg a) {fd : FuncData} (F : Fun K "difference" "difference" s_difference a.difference fd) : FnOk P w K mg base CX0 2 a.difference fd ["view", "signals", "first", "second"] (spD K ct 4 F_difference) := by
  obtain ⟨fd_in_excess, fn_in_excess, b_in_excess'⟩ := T.fn_in_excess
  have k_in_excess := fn_in_excess.kp
  have G_in_excess := ok_in_excess (P := P) (w := w) (base := base) (ct := ct) T fn_in_excess
  have sc := sc_difference
  refine fn_ok F sc_difference (fun cdv A outer s H E hr => ?_)
  exact (s_seq (s_if (t_cmp (op_eqAny (u64 hr)) eq_ok (b_var 0 (pv 0)) (PE.bo e_str) (nomark _)) (s_one (s_ret (e_tup (a_cons (e_tup a_nil) (a_cons (e_tup a_nil) a_nil))))) s_nil)
      (s_seq (s_if (t_cmp (op_eqAny (u64 hr)) eq_ok (b_var 0 (pv 0)) (PE.bo e_str) (nomark _)) (s_one (s_ret (e_tup (a_cons (e_call G_in_excess (hr.mono (by decide)) (by rfl) T.g_in_excess k_in_excess b_in_excess' .nil (fun _ => RepL.nil) (a_cons (e_var 1 (pv 1)) (a_cons (e_var 2 (pv 2)) (a_cons (e_var 3 (pv 3)) a_nil))) (aCons_len (aCons_len (aCons_len aNil_len)))) (a_cons (e_call G_in_excess (hr.mono (by decide)) (by rfl) T.g_in_excess k_in_excess b_in_excess' .nil (fun _ => RepL.nil) (a_cons (e_var 1 (pv 1)) (a_cons (e_var 3 (pv 3)) (a_cons (e_var 2 (pv 2)) a_nil))) (aCons_len (aCons_len (aCons_len aNil_len)))) a_nil))))) s_nil)
      (s_seq (s_asg e_int (g_name 4 (pg_name (i := 4) sc.nd rfl (Or.inl rfl))))
      (s_seq (s_while (f := loop_difference_1) (ft := test_difference_2) [] 100000 PassesOwn.never (PW.pt (w_and (t_cmp op_lt lt_ok (b_var 4 (pv 4)) (PE.bo (c_len (by rfl) T.z_len (b_var 2 (pv 2)))) (nomark _)) (w_and (t_cmp op_lt lt_ok (b_var 4 (pv 4)) (PE.bo (c_len (by rfl) T.z_len (b_var 3 (pv 3)))) (nomark _)) (w_and1 (t_cmp (op_eqAny (u64 hr)) eq_ok (PE.bo (e_ix (b_var 2 (pv 2)) (b_var 4 (pv 4)))) (PE.bo (e_ix (b_var 3 (pv 3)) (b_var 4 (pv 4)))) (nomark _)))))) (s_one (s_aug ipAdd_ok (ps_aug (i := 4) sc.nd rfl (Or.inl rfl) (PE.bo e_int) ip_add) (fun _ _ _ h => h))))
      (s_one (s_ret (e_tup (a_cons (c_tuple (by rfl) T.z_tuple (PE.bo (e_slice (b_var 2 (pv 2)) (p_some (b_var 4 (pv 4))) p_none))) (a_cons (c_tuple (by rfl) T.z_tuple (PE.bo (e_slice (b_var 3 (pv 3)) (p_some (b_var 4 (pv 4))) p_none))) a_nil)))))))))
theorem sc_looks_same : FnScope ["view", "first", "second"] ["view", "first", "second"] (defScope s_looks_same) := ⟨rfl, rfl, rfl, by decide +kernel, rfl, by decide +kernel, by decide +kernel⟩
set_option maxRecDepth 100000 in
theorem ok_looks_same (T : Tx K mg a) {fd : FuncData} (F : Fun K "looks_same" "looks_same" s_looks_same a.looks_same fd) : FnOk P w K mg base CX0 1 a.looks_same fd ["view", "first", "second"] (spD K ct 3 F_looks_same) := by
  have sc := sc_looks_same
  refine fn_ok F sc_looks_same (fun cdv A outer s H E hr => ?_)
  exact (s_seq (s_if (t_cmp (op_eqAny (u64 hr)) eq_ok (b_var 0 (pv 0)) (PE.bo e_str) (nomark _)) (s_one (s_ret e_bl)) s_nil)
      (s_seq (s_if (t_cmp (op_eqAny (u64 hr)) eq_ok (b_var 0 (pv 0)) (PE.bo e_str) (nomark _)) (s_one (s_ret (e_cmp (op_eqAny (u64 hr)) eq_ok (PE.bo (PE.ow (c_sorted (u64 hr) (by rfl) T.z_sorted (b_var 1 (pv 1))))) (PE.bo (PE.ow (c_sorted (u64 hr) (by rfl) T.z_sorted (b_var 2 (pv 2))))) (nomark _)))) s_nil)
      (s_one (s_ret (e_cmp (op_eqAny (u64 hr)) eq_ok (PE.bo (PE.ow (c_list (by rfl) T.z_list (b_var 1 (pv 1))))) (PE.bo (PE.ow (c_list (by rfl) T.z_list (b_var 2 (pv 2))))) (nomark _))))))
theorem sc__law_cell : FnScope ["_law_script", "_law_k"] ["_law_script", "_law_k"] (defScope s__law_cell) := ⟨rfl, rfl, rfl, by decide +kernel, rfl, by decide +kernel, by decide +kernel⟩
set_option maxRecDepth 100000 in
theorem ok__law_cell (T : Tx K mg a) {fd : FuncData} (F : Fun K "_law_cell" "_law_cell" s__law_cell a._law_cell fd) : FnOk P w K mg base CX0 1 a._law_cell fd ["_law_script", "_law_k"] (spD K ct 2 F_law_cell) := by
  have sc := sc__law_cell
  refine fn_ok F sc__law_cell (fun cdv A outer s H E hr => ?_)
  exact (s_seq (s_if (t_cmp op_lt lt_ok (b_var 1 (pv 1)) (PE.bo (c_len (by rfl) T.z_len (b_var 0 (pv 0)))) (nomark _)) (s_one (s_ret (e_ix (b_var 0 (pv 0)) (b_var 1 (pv 1))))) s_nil)
      (s_one (s_ret e_int)))
theorem sc__law_row : FnScope ["_law_cell_here", "_law_count", "_law_row_here", "_law_rest", "_law_seed", "_law_k"] ["_law_cell_here", "_law_count"] (defScope s__law_row) := ⟨rfl, rfl, rfl, by decide +kernel, rfl, by decide +kernel, by decide +kernel⟩
set_option maxRecDepth 100000 in
theorem ok__law_row (T : Tx K mg a) {fd : FuncData} (F : Fun K "_law_row" "_law_row" s__law_row a._law_row fd) : FnOk P w K mg base CX0 1 a._law_row fd ["_law_cell_here", "_law_count"] (spD K ct 2 F_law_row) := by
  have sc := sc__law_row
  refine fn_ok F sc__law_row (fun cdv A outer s H E hr => ?_)
  exact (s_seq (s_own (o_lst a_nil) (pg_name (i := 2) sc.nd rfl (Or.inl rfl)))
      (s_seq (s_asg (e_var 0 (pv 0)) (g_name 3 (pg_name (i := 3) sc.nd rfl (Or.inl rfl))))
      (s_seq (s_asg (e_bin op_addAny add_ok (PE.bo (e_bin op_modN mod_ok (PE.bo (c_int (by rfl) T.z_int (b_var 0 (pv 0)))) (PE.bo e_int))) (PE.bo e_int)) (g_name 4 (pg_name (i := 4) sc.nd rfl (Or.inl rfl))))
      (s_seq (s_for (f := loop_law_row_1) [5] PassesOwn.never rfl (i_r1 (by rfl) T.z_range (b_var 1 (pv 1))) (g_name 5 (pg_name (i := 5) sc.nd rfl (Or.inl rfl))) (s_one (s_if (t_cmp op_ge ge_ok (b_var 0 (pv 0)) (PE.bo (e_bin op_pow pow_ok (PE.bo e_int) (PE.bo e_int))) (nomark _)) (s_seq (s_app (ps_expr (pe_bm PySem.F.plainAttrs_list PySem.F.slot_list_append PySem.F.type_list_append mt_append (pv 2) (pa_cons (e_bin op_modN mod_ok (PE.bo (c_int (by rfl) T.z_int (b_var 3 (pv 3)))) (PE.bo e_int)) pa_nil))) (fun _ _ _ h => h))
      (s_one (s_asg (e_bin op_fdivN fdiv_ok (b_var 3 (pv 3)) (PE.bo e_int)) (g_name 3 (pg_name (i := 3) sc.nd rfl (Or.inl rfl)))))) (s_seq (s_asg (e_bin op_modN mod_ok (PE.bo (c_int (by rfl) T.z_int (PE.bo (e_bin op_addAny add_ok (PE.bo (e_bin op_mulAny mul_ok (b_var 4 (pv 4)) (PE.bo e_int))) (b_var 5 (pv 5)))))) (PE.bo e_int)) (g_name 4 (pg_name (i := 4) sc.nd rfl (Or.inl rfl))))
      (s_one (s_app (ps_expr (pe_bm PySem.F.plainAttrs_list PySem.F.slot_list_append PySem.F.type_list_append mt_append (pv 2) (pa_cons (e_bin op_modN mod_ok (PE.bo (e_bin op_fdivN fdiv_ok (PE.bo (e_bin op_modN mod_ok (PE.bo (c_int (by rfl) T.z_int (PE.bo (e_bin op_mulAny mul_ok (b_var 4 (pv 4)) (PE.bo e_int))))) (PE.bo e_int))) (PE.bo e_int))) (PE.bo e_int)) pa_nil))) (fun _ _ _ h => h)))))))
      (s_one (s_frz [2] (s_ret (e_var 2 (pv 2)))))))))
theorem sc__law_lists : FnScope ["_law_script", "_law_signals", "_law_row_here", "_law_first", "_law_number", "_law_second", "_law_at"] ["_law_script", "_law_signals"] (defScope s__law_lists) := ⟨rfl, rfl, rfl, by decide +kernel, rfl, by decide +kernel, by decide +kernel⟩
set_option maxRecDepth 100000 in
theorem ok__law_lists (T : Tx K mg a) {fd : FuncData} (F : Fun K "_law_lists" "_law_lists" s__law_lists a._law_lists fd) : FnOk P w K mg base CX0 2 a._law_lists fd ["_law_script", "_law_signals"] (spD K ct 2 F_law_lists) := by
  obtain ⟨fd__law_row, fn__law_row, b__law_row'⟩ := T.fn__law_row
  have k__law_row := fn__law_row.kp
  have G__law_row := ok__law_row (P := P) (w := w) (base := base) (ct := ct) T fn__law_row
  obtain ⟨fd__law_cell, fn__law_cell, b__law_cell'⟩ := T.fn__law_cell
  have k__law_cell := fn__law_cell.kp
  have G__law_cell := ok__law_cell (P := P) (w := w) (base := base) (ct := ct) T fn__law_cell
  have sc := sc__law_lists
  refine fn_ok F sc__law_lists (fun cdv A outer s H E hr => ?_)
  exact (s_seq (s_asg (e_call G__law_row (hr.mono (by decide)) (by rfl) T.g__law_row k__law_row b__law_row' .nil (fun _ => RepL.nil) (a_cons (e_call G__law_cell (hr.mono (by decide)) (by rfl) T.g__law_cell k__law_cell b__law_cell' .nil (fun _ => RepL.nil) (a_cons (e_var 0 (pv 0)) (a_cons e_int a_nil)) (aCons_len (aCons_len aNil_len))) (a_cons (e_bin op_modN mod_ok (PE.bo (e_call G__law_cell (hr.mono (by decide)) (by rfl) T.g__law_cell k__law_cell b__law_cell' .nil (fun _ => RepL.nil) (a_cons (e_var 0 (pv 0)) (a_cons e_int a_nil)) (aCons_len (aCons_len aNil_len)))) (PE.bo e_int)) a_nil)) (aCons_len (aCons_len aNil_len))) (g_name 2 (pg_name (i := 2) sc.nd rfl (Or.inl rfl))))
      (s_seq (s_asgLc (i := 3) rfl sc.nd rfl rfl (sw_true rfl rfl rfl (by decide +kernel)) (own := [("_law_number", 4)]) (blkC_of (N := ["_law_script", "_law_signals", "_law_row_here", "_law_first", "_law_number", "_law_second", "_law_at"]) (sc := defScope s__law_lists) (by decide +kernel)) (by decide +kernel) (k_name 4) (i_seq (e_var 2 (pv 2))) (fun _ _ _ _ _ => (g_name 4 (pg_name (i := 4) sc.nd rfl (Or.inl rfl)))) (fun _ _ _ _ _ => q_nil) (fun _ _ _ _ _ => (e_ix (b_var 1 (pv 1)) (PE.bo (e_bin op_modN mod_ok (b_var 4 (pv 4)) (PE.bo (c_len (by rfl) T.z_len (b_var 1 (pv 1)))))))))
      (s_seq (s_asg (PE.ow (c_list (by rfl) T.z_list (b_var 3 (pv 3)))) (g_name 5 (pg_name (i := 5) sc.nd rfl (Or.inl rfl))))
      (s_seq (s_for (f := loop_law_lists_1) [6] PassesOwn.never rfl (i_seq (e_bin op_addAny add_ok (PE.bo (e_call G__law_row (hr.mono (by decide)) (by rfl) T.g__law_row k__law_row b__law_row' .nil (fun _ => RepL.nil) (a_cons (e_call G__law_cell (hr.mono (by decide)) (by rfl) T.g__law_cell k__law_cell b__law_cell' .nil (fun _ => RepL.nil) (a_cons (e_var 0 (pv 0)) (a_cons e_int a_nil)) (aCons_len (aCons_len aNil_len))) (a_cons (e_bin op_modN mod_ok (PE.bo (e_call G__law_cell (hr.mono (by decide)) (by rfl) T.g__law_cell k__law_cell b__law_cell' .nil (fun _ => RepL.nil) (a_cons (e_var 0 (pv 0)) (a_cons e_int a_nil)) (aCons_len (aCons_len aNil_len)))) (PE.bo e_int)) a_nil)) (aCons_len (aCons_len aNil_len)))) (PE.bo (e_slice (b_var 0 (pv 0)) (p_some (PE.bo e_int)) p_none)))) (g_name 4 (pg_name (i := 4) sc.nd rfl (Or.inl rfl))) (s_seq (s_asg (e_bin op_modN mod_ok (PE.bo (e_bin op_fdivN fdiv_ok (b_var 4 (pv 4)) (PE.bo e_int))) (PE.bo (e_bin op_addAny add_ok (PE.bo (c_len (by rfl) T.z_len (b_var 5 (pv 5)))) (PE.bo e_int)))) (g_name 6 (pg_name (i := 6) sc.nd rfl (Or.inl rfl))))
      (s_one (s_if (t_cmp (op_eqAny (u64 hr)) eq_ok (PE.bo (e_bin op_modN mod_ok (b_var 4 (pv 4)) (PE.bo e_int))) (PE.bo e_int) (nomark _)) (s_one (s_asg (e_bin op_addAny add_ok (PE.bo (e_bin op_addAny add_ok (PE.bo (e_slice (b_var 5 (pv 5)) p_none (p_some (b_var 6 (pv 6))))) (PE.bo (PE.ow (o_lst (a_cons (e_ix (b_var 1 (pv 1)) (PE.bo (e_bin op_modN mod_ok (PE.bo (e_bin op_fdivN fdiv_ok (b_var 4 (pv 4)) (PE.bo e_int))) (PE.bo (c_len (by rfl) T.z_len (b_var 1 (pv 1))))))) a_nil)))))) (PE.bo (e_slice (b_var 5 (pv 5)) (p_some (b_var 6 (pv 6))) p_none))) (g_name 5 (pg_name (i := 5) sc.nd rfl (Or.inl rfl))))) (s_one (s_if (t_cmp (op_eqAny (u64 hr)) eq_ok (PE.bo (e_bin op_modN mod_ok (b_var 4 (pv 4)) (PE.bo e_int))) (PE.bo e_int) (nomark _)) (s_one (s_asg (e_bin op_addAny add_ok (PE.bo (e_slice (b_var 5 (pv 5)) p_none (p_some (b_var 6 (pv 6))))) (PE.bo (e_slice (b_var 5 (pv 5)) (p_some (PE.bo (e_bin op_addAny add_ok (b_var 6 (pv 6)) (PE.bo e_int)))) p_none))) (g_name 5 (pg_name (i := 5) sc.nd rfl (Or.inl rfl))))) (s_one (s_if (t_cmp (op_eqAny (u64 hr)) eq_ok (PE.bo (e_bin op_modN mod_ok (b_var 4 (pv 4)) (PE.bo e_int))) (PE.bo e_int) (nomark _)) (s_one (s_asg (e_bin op_addAny add_ok (PE.bo (e_slice (b_var 5 (pv 5)) p_none (p_some (b_var 6 (pv 6))))) (PE.bo (PE.ow (o_rev (PE.bo (e_slice (b_var 5 (pv 5)) (p_some (b_var 6 (pv 6))) p_none)))))) (g_name 5 (pg_name (i := 5) sc.nd rfl (Or.inl rfl))))) (s_one (s_asg (e_bin op_addAny add_ok (PE.bo (e_bin op_addAny add_ok (PE.bo (e_slice (b_var 5 (pv 5)) p_none (p_some (b_var 6 (pv 6))))) (PE.bo (PE.ow (o_lst (a_cons (e_ix (b_var 1 (pv 1)) (PE.bo (e_bin op_modN mod_ok (PE.bo (e_bin op_fdivN fdiv_ok (b_var 4 (pv 4)) (PE.bo e_int))) (PE.bo (c_len (by rfl) T.z_len (b_var 1 (pv 1))))))) a_nil)))))) (PE.bo (e_slice (b_var 5 (pv 5)) (p_some (PE.bo (e_bin op_addAny add_ok (b_var 6 (pv 6)) (PE.bo e_int)))) p_none))) (g_name 5 (pg_name (i := 5) sc.nd rfl (Or.inl rfl)))))))))))))
      (s_one (s_ret (PE.ow (o_lst (a_cons (e_var 3 (pv 3)) (a_cons (e_var 5 (pv 5)) a_nil))))))))))
theorem sc__law_excess : FnScope ["_law_signals", "_law_first", "_law_second", "_law_excess_here", "_law_signal", "_law_k", "_law_x"] ["_law_signals", "_law_first", "_law_second"] (defScope s__law_excess) := ⟨rfl, rfl, rfl, by decide +kernel, rfl, by decide +kernel, by decide +kernel⟩
set_option maxRecDepth 100000 in
theorem ok__law_excess (T : Tx K mg a) {fd : FuncData} (F : Fun K "_law_excess" "_law_excess" s__law_excess a._law_excess fd) : FnOk P w K mg base CX0 1 a._law_excess fd ["_law_signals", "_law_first", "_law_second"] (spD K ct 3 F_law_excess) := by
  have sc := sc__law_excess
  refine fn_ok F sc__law_excess (fun cdv A outer s H E hr => ?_)
  exact (s_seq (s_own (o_lst a_nil) (pg_name (i := 3) sc.nd rfl (Or.inl rfl)))
      (s_seq (s_for (f := loop_law_excess_2) [4, 5] PassesOwn.never rfl (i_seq (e_var 0 (pv 0))) (g_name 4 (pg_name (i := 4) sc.nd rfl (Or.inr rfl))) (s_one (s_for (f := loop_law_excess_1) [5] PassesOwn.never rfl (i_r1 (by rfl) T.z_range (PE.bo (e_bin op_sub sub_ok (PE.bo (c_len (by rfl) T.z_len (PE.bo (PE.ow (o_lc rfl sc.nd (own := [("_law_x", 6)]) (blkC_of (N := ["_law_signals", "_law_first", "_law_second", "_law_excess_here", "_law_signal", "_law_k", "_law_x"]) (sc := defScope s__law_excess) (by decide +kernel)) (by decide +kernel) (k_name 6) (i_seq (e_var 1 (pv 1))) (fun _ _ _ _ _ => (g_name 6 (pg_name (i := 6) sc.nd rfl (Or.inl rfl)))) (fun _ _ _ _ _ => (q_one (t_cmp (op_eqAny (u64 hr)) eq_ok (b_var 6 (pv 6)) (b_var 4 (pv 4)) (nomark _)))) (fun _ _ _ _ _ => (e_var 6 (pv 6)))))))) (PE.bo (c_len (by rfl) T.z_len (PE.bo (PE.ow (o_lc rfl sc.nd (own := [("_law_x", 6)]) (blkC_of (N := ["_law_signals", "_law_first", "_law_second", "_law_excess_here", "_law_signal", "_law_k", "_law_x"]) (sc := defScope s__law_excess) (by decide +kernel)) (by decide +kernel) (k_name 6) (i_seq (e_var 2 (pv 2))) (fun _ _ _ _ _ => (g_name 6 (pg_name (i := 6) sc.nd rfl (Or.inl rfl)))) (fun _ _ _ _ _ => (q_one (t_cmp (op_eqAny (u64 hr)) eq_ok (b_var 6 (pv 6)) (b_var 4 (pv 4)) (nomark _)))) (fun _ _ _ _ _ => (e_var 6 (pv 6))))))))))) (g_name 5 (pg_name (i := 5) sc.nd rfl (Or.inl rfl))) (s_one (s_app (ps_expr (pe_bm PySem.F.plainAttrs_list PySem.F.slot_list_append PySem.F.type_list_append mt_append (pv 3) (pa_cons (e_var 4 (pv 4)) pa_nil))) (fun _ _ _ h => h))))))
      (s_one (s_ret (c_tuple (by rfl) T.z_tuple (b_var 3 (pv 3)))))))
theorem sc__law_due : FnScope ["_law_view", "_law_signals", "_law_first", "_law_second", "_law_common", "_law_k"] ["_law_view", "_law_signals", "_law_first", "_law_second"] (defScope s__law_due) := ⟨rfl, rfl, rfl, by decide +kernel, rfl, by decide +kernel, by decide +kernel⟩
set_option maxRecDepth 100000 in
theorem ok__law_due (T : Tx K mg a) {fd : FuncData} (F : Fun K "_law_due" "_law_due" s__law_due a._law_due fd) : FnOk P w K mg base CX0 2 a._law_due fd ["_law_view", "_law_signals", "_law_first", "_law_second"] (spD K ct 4 F_law_due_v3) := by
  obtain ⟨fd__law_excess, fn__law_excess, b__law_excess'⟩ := T.fn__law_excess
  have k__law_excess := fn__law_excess.kp
  have G__law_excess := ok__law_excess (P := P) (w := w) (base := base) (ct := ct) T fn__law_excess
  have sc := sc__law_due
  refine fn_ok F sc__law_due (fun cdv A outer s H E hr => ?_)
  exact (s_seq (s_if (t_cmp (op_eqAny (u64 hr)) eq_ok (b_var 0 (pv 0)) (PE.bo e_str) (nomark _)) (s_one (s_ret (e_tup (a_cons (e_tup a_nil) (a_cons (e_tup a_nil) a_nil))))) s_nil)
      (s_seq (s_if (t_cmp (op_eqAny (u64 hr)) eq_ok (b_var 0 (pv 0)) (PE.bo e_str) (nomark _)) (s_one (s_ret (e_tup (a_cons (e_call G__law_excess (hr.mono (by decide)) (by rfl) T.g__law_excess k__law_excess b__law_excess' .nil (fun _ => RepL.nil) (a_cons (e_var 1 (pv 1)) (a_cons (e_var 2 (pv 2)) (a_cons (e_var 3 (pv 3)) a_nil))) (aCons_len (aCons_len (aCons_len aNil_len)))) (a_cons (e_call G__law_excess (hr.mono (by decide)) (by rfl) T.g__law_excess k__law_excess b__law_excess' .nil (fun _ => RepL.nil) (a_cons (e_var 1 (pv 1)) (a_cons (e_var 3 (pv 3)) (a_cons (e_var 2 (pv 2)) a_nil))) (aCons_len (aCons_len (aCons_len aNil_len)))) a_nil))))) s_nil)
      (s_seq (s_asg e_int (g_name 4 (pg_name (i := 4) sc.nd rfl (Or.inl rfl))))
      (s_seq (s_for (f := loop_law_due_v3_1) [5] PassesOwn.never rfl (i_r1 (by rfl) T.z_range (PE.bo (c_min2 rfl (by rfl) T.z_min (PE.bo (c_len (by rfl) T.z_len (b_var 2 (pv 2)))) (PE.bo (c_len (by rfl) T.z_len (b_var 3 (pv 3))))))) (g_name 5 (pg_name (i := 5) sc.nd rfl (Or.inl rfl))) (s_one (s_if (PW.pt (w_and (t_cmp (op_eqAny (u64 hr)) eq_ok (b_var 4 (pv 4)) (b_var 5 (pv 5)) (nomark _)) (w_and1 (t_cmp (op_eqAny (u64 hr)) eq_ok (PE.bo (e_ix (b_var 2 (pv 2)) (b_var 5 (pv 5)))) (PE.bo (e_ix (b_var 3 (pv 3)) (b_var 5 (pv 5)))) (nomark _))))) (s_one (s_asg (e_bin op_addAny add_ok (b_var 5 (pv 5)) (PE.bo e_int)) (g_name 4 (pg_name (i := 4) sc.nd rfl (Or.inl rfl))))) s_nil)))
      (s_one (s_ret (e_tup (a_cons (c_tuple (by rfl) T.z_tuple (PE.bo (e_slice (b_var 2 (pv 2)) (p_some (b_var 4 (pv 4))) p_none))) (a_cons (c_tuple (by rfl) T.z_tuple (PE.bo (e_slice (b_var 3 (pv 3)) (p_some (b_var 4 (pv 4))) p_none))) a_nil)))))))))
theorem sc_law : FnScope ["_law_script", "_law_signals", "_law_lists_here", "_law_view", "_law_first", "_law_second", "_law_due_here", "_law_actual", "_law_said"] ["_law_script"] (defScope s_law) := ⟨rfl, rfl, rfl, by decide +kernel, rfl, by decide +kernel, by decide +kernel⟩
set_option maxRecDepth 100000 in
theorem ok_law (T : Tx K mg a) {fd : FuncData} (F : Fun K "law" "law" s_law a.law fd) : FnOk P w K mg base CX0 3 a.law fd ["_law_script"] (spD K ct 1 F_law) := by
  obtain ⟨fd__law_cell, fn__law_cell, b__law_cell'⟩ := T.fn__law_cell
  have k__law_cell := fn__law_cell.kp
  have G__law_cell := ok__law_cell (P := P) (w := w) (base := base) (ct := ct) T fn__law_cell
  obtain ⟨fd__law_lists, fn__law_lists, b__law_lists'⟩ := T.fn__law_lists
  have k__law_lists := fn__law_lists.kp
  have G__law_lists := ok__law_lists (P := P) (w := w) (base := base) (ct := ct) T fn__law_lists
  obtain ⟨fd__law_due, fn__law_due, b__law_due'⟩ := T.fn__law_due
  have k__law_due := fn__law_due.kp
  have G__law_due := ok__law_due (P := P) (w := w) (base := base) (ct := ct) T fn__law_due
  obtain ⟨fd_difference, fn_difference, b_difference'⟩ := T.fn_difference
  have k_difference := fn_difference.kp
  have G_difference := ok_difference (P := P) (w := w) (base := base) (ct := ct) T fn_difference
  obtain ⟨fd_looks_same, fn_looks_same, b_looks_same'⟩ := T.fn_looks_same
  have k_looks_same := fn_looks_same.kp
  have G_looks_same := ok_looks_same (P := P) (w := w) (base := base) (ct := ct) T fn_looks_same
  have sc := sc_law
  refine fn_ok F sc_law (fun cdv A outer s H E hr => ?_)
  exact (s_seq (s_asg (e_slice (PE.bo (e_tup (a_cons e_str (a_cons e_str (a_cons e_str (a_cons e_str a_nil)))))) p_none (p_some (PE.bo (e_bin op_addAny add_ok (PE.bo e_int) (PE.bo (e_bin op_modN mod_ok (PE.bo (e_call G__law_cell (hr.mono (by decide)) (by rfl) T.g__law_cell k__law_cell b__law_cell' .nil (fun _ => RepL.nil) (a_cons (e_var 0 (pv 0)) (a_cons e_int a_nil)) (aCons_len (aCons_len aNil_len)))) (PE.bo e_int))))))) (g_name 1 (pg_name (i := 1) sc.nd rfl (Or.inl rfl))))
      (s_seq (s_asg (e_call G__law_lists (hr.mono (by decide)) (by rfl) T.g__law_lists k__law_lists b__law_lists' .nil (fun _ => RepL.nil) (a_cons (e_var 0 (pv 0)) (a_cons (e_var 1 (pv 1)) a_nil)) (aCons_len (aCons_len aNil_len))) (g_name 2 (pg_name (i := 2) sc.nd rfl (Or.inl rfl))))
      (s_seq (s_for (f := loop_law_1) [3, 4, 5, 6, 7, 8] PassesOwn.never rfl (i_seq (PE.ow (o_lst (a_cons e_str (a_cons e_str (a_cons e_str a_nil)))))) (g_name 3 (pg_name (i := 3) sc.nd rfl (Or.inl rfl))) (s_seq (s_asg (PE.ow (c_list (by rfl) T.z_list (PE.bo (e_ix (b_var 2 (pv 2)) (PE.bo e_int))))) (g_name 4 (pg_name (i := 4) sc.nd rfl (Or.inl rfl))))
      (s_seq (s_asg (PE.ow (c_list (by rfl) T.z_list (PE.bo (e_ix (b_var 2 (pv 2)) (PE.bo e_int))))) (g_name 5 (pg_name (i := 5) sc.nd rfl (Or.inl rfl))))
      (s_seq (s_asg (e_call G__law_due (hr.mono (by decide)) (by rfl) T.g__law_due k__law_due b__law_due' .nil (fun _ => RepL.nil) (a_cons (e_var 3 (pv 3)) (a_cons (e_var 1 (pv 1)) (a_cons (e_var 4 (pv 4)) (a_cons (e_var 5 (pv 5)) a_nil)))) (aCons_len (aCons_len (aCons_len (aCons_len aNil_len))))) (g_name 6 (pg_name (i := 6) sc.nd rfl (Or.inl rfl))))
      (s_seq (s_asg (e_call G_difference (hr.mono (by decide)) (by rfl) T.g_difference k_difference b_difference' .nil (fun _ => RepL.nil) (a_cons (e_var 3 (pv 3)) (a_cons (e_var 1 (pv 1)) (a_cons (e_var 4 (pv 4)) (a_cons (e_var 5 (pv 5)) a_nil)))) (aCons_len (aCons_len (aCons_len (aCons_len aNil_len))))) (g_name 7 (pg_name (i := 7) sc.nd rfl (Or.inl rfl))))
      (s_seq (s_if (PW.pt (w_or (t_not (t_truth (PE.bo (e_isi (by rfl) T.z_isinstance (by rfl) T.z_tuple boot_tuple' (b_var 7 (pv 7)))))) (w_or (t_cmp (op_neAny (u64 hr)) ne_ok (b_var 7 (pv 7)) (b_var 6 (pv 6)) (nomark _)) (w_or (t_cmp (op_neAny (u64 hr)) ne_ok (b_var 4 (pv 4)) (PE.bo (e_ix (b_var 2 (pv 2)) (PE.bo e_int))) (nomark _)) (w_or1 (t_cmp (op_neAny (u64 hr)) ne_ok (b_var 5 (pv 5)) (PE.bo (e_ix (b_var 2 (pv 2)) (PE.bo e_int))) (nomark _))))))) (s_one (s_ret e_bl)) s_nil)
      (s_seq (s_if (t_cmp (op_neAny (u64 hr)) ne_ok (PE.bo (e_call G_difference (hr.mono (by decide)) (by rfl) T.g_difference k_difference b_difference' .nil (fun _ => RepL.nil) (a_cons (e_var 3 (pv 3)) (a_cons (e_var 1 (pv 1)) (a_cons (e_var 5 (pv 5)) (a_cons (e_var 4 (pv 4)) a_nil)))) (aCons_len (aCons_len (aCons_len (aCons_len aNil_len)))))) (PE.bo (e_tup (a_cons (e_ix (b_var 6 (pv 6)) (PE.bo e_int)) (a_cons (e_ix (b_var 6 (pv 6)) (PE.bo e_int)) a_nil)))) (nomark _)) (s_one (s_ret e_bl)) s_nil)
      (s_seq (s_if (PW.pt (w_or (t_cmp (op_neAny (u64 hr)) ne_ok (PE.bo (e_call G_difference (hr.mono (by decide)) (by rfl) T.g_difference k_difference b_difference' .nil (fun _ => RepL.nil) (a_cons (e_var 3 (pv 3)) (a_cons (PE.ow (c_list (by rfl) T.z_list (b_var 1 (pv 1)))) (a_cons (c_tuple (by rfl) T.z_tuple (b_var 4 (pv 4))) (a_cons (e_var 5 (pv 5)) a_nil)))) (aCons_len (aCons_len (aCons_len (aCons_len aNil_len)))))) (b_var 6 (pv 6)) (nomark _)) (w_or1 (t_cmp (op_neAny (u64 hr)) ne_ok (PE.bo (e_call G_looks_same (hr.mono (by decide)) (by rfl) T.g_looks_same k_looks_same b_looks_same' .nil (fun _ => RepL.nil) (a_cons (e_var 3 (pv 3)) (a_cons (c_tuple (by rfl) T.z_tuple (b_var 4 (pv 4))) (a_cons (e_var 5 (pv 5)) a_nil))) (aCons_len (aCons_len (aCons_len aNil_len))))) (PE.bo (e_cmp (op_eqAny (u64 hr)) eq_ok (b_var 6 (pv 6)) (PE.bo (e_tup (a_cons (e_tup a_nil) (a_cons (e_tup a_nil) a_nil)))) (nomark _))) (nomark _))))) (s_one (s_ret e_bl)) s_nil)
      (s_seq (s_asg (e_call G_looks_same (hr.mono (by decide)) (by rfl) T.g_looks_same k_looks_same b_looks_same' .nil (fun _ => RepL.nil) (a_cons (e_var 3 (pv 3)) (a_cons (e_var 4 (pv 4)) (a_cons (e_var 5 (pv 5)) a_nil))) (aCons_len (aCons_len (aCons_len aNil_len)))) (g_name 8 (pg_name (i := 8) sc.nd rfl (Or.inl rfl))))
      (s_one (s_if (PW.pt (w_or (t_not (t_truth (PE.bo (e_isi (by rfl) T.z_isinstance (by rfl) T.z_bool boot_bool' (b_var 8 (pv 8)))))) (w_or1 (t_cmp (op_neAny (u64 hr)) ne_ok (b_var 8 (pv 8)) (PE.bo (e_cmp (op_eqAny (u64 hr)) eq_ok (b_var 6 (pv 6)) (PE.bo (e_tup (a_cons (e_tup a_nil) (a_cons (e_tup a_nil) a_nil)))) (nomark _))) (nomark _))))) (s_one (s_ret e_bl)) s_nil)))))))))))
      (s_one (s_ret e_bl)))))
end
end Lk07

namespace PL
open PySem PySem.Spec PyProof.Rows L2 PD
theorem row_mod (c d : Int) (m : Int) (h1 : 0 < m) (h2 : m ≤ 1000) : ∃ r : List Int, F_law_row [.int c, .int (d % m)] = some (.lst (r.map .int)) ∧ (r.length : Int) < m := by
  have p1 := Int.emod_nonneg d (b := m) (by omega)
  have p2 := Int.emod_lt_of_pos d h1
  obtain ⟨r, e, l, _⟩ := row_eq c (d % m).toNat (by omega)
  rw [Int.toNat_of_nonneg p1] at e
  exact ⟨r, e, by omega⟩
theorem law_lists_eq {ns : List Int} {sg : List St} (S : Sg sg) (hn : ns.length ≤ 63) : ∃ xs ys : List St, F_law_lists [.frl (ns.map .int), .tup (strD sg)] = some (.lst [.lst (strD xs), .lst (strD ys)]) ∧ xs.length ≤ 100 ∧ ys.length ≤ 100 ∧ (∀ s ∈ xs, s ∈ sg) ∧ ∀ s ∈ ys, s ∈ sg := by
  have cl0 : F_law_cell [.frl (ns.map .int), .int 0] = some (.int (cellAt ns 0)) := cell_eq ns 0
  have cl1 : F_law_cell [.frl (ns.map .int), .int 1] = some (.int (cellAt ns 1)) := cell_eq ns 1
  have cl2 : F_law_cell [.frl (ns.map .int), .int 2] = some (.int (cellAt ns 2)) := cell_eq ns 2
  have cl3 : F_law_cell [.frl (ns.map .int), .int 3] = some (.int (cellAt ns 3)) := cell_eq ns 3
  obtain ⟨r, er, lr⟩ := row_mod (cellAt ns 0) (cellAt ns 1) 31 (by decide) (by decide)
  obtain ⟨q, eq, lq⟩ := row_mod (cellAt ns 2) (cellAt ns 3) 5 (by decide) (by decide)
  have hp : (0 : Int) < (sg.length : Int) := by have := S.pos; omega
  have m := lcF_map (ft := gN 4) (fe := f2 (fBor 1) (f2 (fBor 4) (f1 (fBor 1) lenD) modD) ixD) (ρ := [.val (.frl (ns.map .int)), .val (.tup (strD sg)), .val (.lst (r.map .int)), .un, .un, .un, .un]) (enc := D.int) (g := fun x => .str (pick sg x)) (ts := r)
      (fun x _ => by
        have hk : atI (strD sg) (x % (sg.length : Int)) = some (.str (pick sg x)) := atI_pick S.pos x
        simp [modD_pos hp, hk])
  have m' : lcF (gN 4) qYes (f2 (fBor 1) (f2 (fBor 4) (f1 (fBor 1) lenD) modD) ixD) [.val (.frl (ns.map .int)), .val (.tup (strD sg)), .val (.lst (r.map .int)), .un, .un, .un, .un] (r.map .int) = some (strD (r.map (pick sg))) := by
    rw [m]
    unfold strD
    rw [List.map_map]
    rfl
  have hs : ∀ s ∈ r.map (pick sg), s ∈ sg := by
    intro s h
    obtain ⟨x, _, rfl⟩ := List.mem_map.mp h
    exact pick_mem S.pos x
  have ls : (r.map (pick sg)).length ≤ 30 := by rw [List.length_map]; omega
  have lt2 : r.length ≤ 16777216 := by omega
  generalize r.map (pick sg) = xs at m' hs ls
  have cf : cutL (ns.map D.int) (some 5) none = (ns.drop 5).map D.int := by
    have h := cutL_from (ns.map D.int) 5
    rw [List.map_drop]
    exact h
  have lf : (ns.drop 5).length ≤ 58 := by rw [List.length_drop]; omega
  generalize ns.drop 5 = rest at cf lf
  have ad : addD (.lst (q.map D.int)) (.lst (rest.map D.int)) = some (.lst ((q ++ rest).map D.int)) := by rw [addD_lst (by simp; omega), List.map_append]
  have loop := forF_run (ft := gN 4) (f := loop_law_lists_1) (is := [6]) (enc := D.int) (fun pre ρ => ∃ s4 ys, ρ = envL ns sg r xs s4 ys ∧ ys.length ≤ 30 + pre.length ∧ ∀ s ∈ ys, s ∈ sg) (q ++ rest) (ρ := envL ns sg r xs .un xs) ⟨.un, xs, rfl, by simpa using ls, hs⟩ (by
      rintro pre z post ρ he ⟨s4, ys, rfl, ly, hy⟩
      have hl := congrArg List.length he
      simp at hl
      obtain ⟨ys', e1, e2, e3⟩ := turnL (ns := ns) (row := r) (xs := xs) (z := z) (s4 := s4) S (by omega) hy
      exact ⟨_, e1, _, ys', rfl, by simp; omega, e3⟩)
  obtain ⟨ρ', el, s4, ys, rfl, ly, hy⟩ := loop
  unfold envL at el
  refine ⟨xs, ys, runF_rt ?_, by omega, by simp at ly; omega, hs, hy⟩
  generalize (q ++ rest).map D.int = zs at *
  simp [b_law_lists, cl0, cl1, cl2, cl3, modD_pos, er, eq, m', lt2, cf, ad, el]
theorem looks_eq' {v : St} {xs ys : List St} (h : ∀ s ∈ xs, okS s) (h' : ∀ s ∈ ys, okS s) : F_looks_same [.str v, .lst (strD xs), .lst (strD ys)] = some (.bl (looks v xs ys)) ∧ F_looks_same [.str v, .tup (strD xs), .lst (strD ys)] = some (.bl (looks v xs ys)) :=
  ⟨looks_eq (b1 := false) (b2 := false) h h', looks_eq (b1 := true) (b2 := false) h h'⟩
def env7 (ns : List Int) (sg xs ys : List St) : PD.Env := [.val (.frl (ns.map .int)), .val (.tup (strD sg)), .val (.lst [.lst (strD xs), .lst (strD ys)]), .un, .un, .un, .un, .un, .un]
theorem isi_pair {p : List St × List St} : isiD "tuple" (pairD p) = some (.bl true) := rfl
theorem isi_bl {b : Bool} : isiD "bool" (.bl b) = some (.bl true) := rfl
@[simp] theorem truD_bl {b : Bool} : truD (.bl b) = some b := rfl
theorem turn7 {ns : List Int} {sg xs ys : List St} {v : St} (S : Sg sg) (lx : xs.length ≤ 100) (ly : ys.length ≤ 100) (hx : ∀ s ∈ xs, s ∈ sg) (hy : ∀ s ∈ ys, s ∈ sg) :
    turn (gN 3) Lk07.loop_law_1 [3, 4, 5, 6, 7, 8] (.str v) (env7 ns sg xs ys) = some (.nx (env7 ns sg xs ys)) := by
  have le := S.le
  have okx : ∀ s ∈ xs, okS s := fun s h => S.ok s (hx s h)
  have oky : ∀ s ∈ ys, okS s := fun s h => S.ok s (hy s h)
  have a0 : atI [D.lst (strD xs), D.lst (strD ys)] 0 = some (.lst (strD xs)) := rfl
  have a1 : atI [D.lst (strD xs), D.lst (strD ys)] 1 = some (.lst (strD ys)) := rfl
  have du := law_due_eq (v := v) (sg := sg) (xs := xs) (ys := ys) (by omega) lx ly
  have d := difference_eq' (v := v) (sg := sg) (xs := xs) (ys := ys) (by omega) (by omega) (by omega)
  have dw := difference_eq' (v := v) (sg := sg) (xs := ys) (ys := xs) (by omega) (by omega) (by omega)
  rw [diff_swap] at dw
  have dt : F_difference [.str v, .lst (strD sg), .tup (strD xs), .lst (strD ys)] = some (pairD (diff v sg xs ys)) := difference_eq (b1 := false) (b2 := true) (b3 := false) (by omega) (by omega) (by omega)
  obtain ⟨k1, k2⟩ := looks_eq' (v := v) okx oky
  rw [looks_diff hx hy] at k1 k2
  obtain ⟨s1, s2⟩ := diff_sub (v := v) (xs := xs) (ys := ys) S.ok okx oky
  have o := neO_refl (pair_ok s1 s2)
  have ow := neO_refl (pair_ok (p := ((diff v sg xs ys).2, (diff v sg xs ys).1)) s2 s1)
  have ow' : eqO true (pairD ((diff v sg xs ys).2, (diff v sg xs ys).1)) (.tup [.tup (strD (diff v sg xs ys).2), .tup (strD (diff v sg xs ys).1)]) = some (.bl false) := ow
  have ox := neO_refl (lst_ok okx)
  have oy := neO_refl (lst_ok oky)
  have e0 := eq_pair (q := ([], [])) (neg := false) s1 s2 (by simp) (by simp)
  have e0' : eqO false (pairD (diff v sg xs ys)) (.tup [.tup [], .tup []]) = some (.bl (false != decide (diff v sg xs ys = ([], [])))) := e0
  generalize hb : decide (diff v sg xs ys = ([], [])) = b at *
  simp [env7, Lk07.loop_law_1, a0, a1, du, d, dw, dt, isi_pair, isi_bl, k1, k2, o, ow', ox, oy, e0', pair_fst, pair_snd]
theorem law7 (ns : List Int) (hn : ns.length ≤ 63) : Lk07.F_law [.frl (ns.map .int)] = some (.bl true) := by
  have cl4 : F_law_cell [.frl (ns.map .int), .int 4] = some (.int (cellAt ns 4)) := cell_eq ns 4
  have S := four_sg (cellAt ns 4 % 4).toNat
  have c0 : cutL (strD four) none (some (1 + cellAt ns 4 % 4)) = strD (four.take (1 + (cellAt ns 4 % 4).toNat)) := by
    have e1 : 1 + cellAt ns 4 % 4 = ((1 + (cellAt ns 4 % 4).toNat : Nat) : Int) := by omega
    rw [e1]
    exact strD_to
  generalize four.take (1 + (cellAt ns 4 % 4).toNat) = sg at S c0
  have c0' : cutL [D.str (PySem.Str.ofString "x"), D.str (PySem.Str.ofString "y"), D.str (PySem.Str.ofString "lit"), D.str (PySem.Str.ofString "dark")] none (some (1 + cellAt ns 4 % 4)) = strD sg := c0
  obtain ⟨xs, ys, e, lx, ly, hx, hy⟩ := law_lists_eq (ns := ns) S hn
  have loop := forF_fold (ft := gN 3) (f := Lk07.loop_law_1) (is := [3, 4, 5, 6, 7, 8]) (enc := D.str) (R := fun _ : Unit => env7 ns sg xs ys) (g := fun _ _ => ()) (ts := [PySem.Str.ofString "ordered", PySem.Str.ofString "unordered", PySem.Str.ofString "ignored"]) (s := ())
    fun _ v _ => turn7 (v := v) S lx ly hx hy
  simp only [List.map_cons, List.map_nil, env7] at loop
  refine runF_rt ?_
  simp [Lk07.b_law, cl4, modD_pos, c0', e, loop]
end PL

namespace Lk07
open PySem PySem.Spec PyProof.Rows L2 PD PL
theorem tx_mk {K : PySem.W.Frag} {h : Heap} {mg : Str → Option Value} (X : K.In h) (G : h.Ns mainGlobals mg)
    {f0 : Addr} {od0 an0 : Option Addr} {sl0 : Array (Option Value)} {oc0 kV0 dc0 pm0 cd0 ct0 : Value}
    {f1 : Addr} {od1 an1 : Option Addr} {sl1 : Array (Option Value)} {oc1 kV1 dc1 pm1 cd1 ct1 : Value}
    {f2 : Addr} {od2 an2 : Option Addr} {sl2 : Array (Option Value)} {oc2 kV2 dc2 pm2 cd2 ct2 : Value}
    {f3 : Addr} {od3 an3 : Option Addr} {sl3 : Array (Option Value)} {oc3 kV3 dc3 pm3 cd3 ct3 : Value}
    {f4 : Addr} {od4 an4 : Option Addr} {sl4 : Array (Option Value)} {oc4 kV4 dc4 pm4 cd4 ct4 : Value}
    {f5 : Addr} {od5 an5 : Option Addr} {sl5 : Array (Option Value)} {oc5 kV5 dc5 pm5 cd5 ct5 : Value}
    {f6 : Addr} {od6 an6 : Option Addr} {sl6 : Array (Option Value)} {oc6 kV6 dc6 pm6 cd6 ct6 : Value}
    {f7 : Addr} {od7 an7 : Option Addr} {sl7 : Array (Option Value)} {oc7 kV7 dc7 pm7 cd7 ct7 : Value}
    {f8 : Addr} {od8 an8 : Option Addr} {sl8 : Array (Option Value)} {oc8 kV8 dc8 pm8 cd8 ct8 : Value}
    (a0 : PySem.W.nsIn K mainGlobals "in_excess" = some (some (.ref f0))) (l0 : K.lookup f0 = some ⟨oc0, od0, .func (PySem.W.fnOf "in_excess" "in_excess" (defArgs s_in_excess) (defBody s_in_excess) (defScope s_in_excess) .none kV0 dc0 pm0 an0 cd0 ct0), sl0⟩) (c0 : PySem.W.codeIn K cd0 "in_excess" = true) (k0 : PySem.W.keepIn K (.ref f0) = true)
    (a1 : PySem.W.nsIn K mainGlobals "difference" = some (some (.ref f1))) (l1 : K.lookup f1 = some ⟨oc1, od1, .func (PySem.W.fnOf "difference" "difference" (defArgs s_difference) (defBody s_difference) (defScope s_difference) .none kV1 dc1 pm1 an1 cd1 ct1), sl1⟩) (c1 : PySem.W.codeIn K cd1 "difference" = true) (k1 : PySem.W.keepIn K (.ref f1) = true)
    (a2 : PySem.W.nsIn K mainGlobals "looks_same" = some (some (.ref f2))) (l2 : K.lookup f2 = some ⟨oc2, od2, .func (PySem.W.fnOf "looks_same" "looks_same" (defArgs s_looks_same) (defBody s_looks_same) (defScope s_looks_same) .none kV2 dc2 pm2 an2 cd2 ct2), sl2⟩) (c2 : PySem.W.codeIn K cd2 "looks_same" = true) (k2 : PySem.W.keepIn K (.ref f2) = true)
    (a3 : PySem.W.nsIn K mainGlobals "_law_cell" = some (some (.ref f3))) (l3 : K.lookup f3 = some ⟨oc3, od3, .func (PySem.W.fnOf "_law_cell" "_law_cell" (defArgs s__law_cell) (defBody s__law_cell) (defScope s__law_cell) .none kV3 dc3 pm3 an3 cd3 ct3), sl3⟩) (c3 : PySem.W.codeIn K cd3 "_law_cell" = true) (k3 : PySem.W.keepIn K (.ref f3) = true)
    (a4 : PySem.W.nsIn K mainGlobals "_law_row" = some (some (.ref f4))) (l4 : K.lookup f4 = some ⟨oc4, od4, .func (PySem.W.fnOf "_law_row" "_law_row" (defArgs s__law_row) (defBody s__law_row) (defScope s__law_row) .none kV4 dc4 pm4 an4 cd4 ct4), sl4⟩) (c4 : PySem.W.codeIn K cd4 "_law_row" = true) (k4 : PySem.W.keepIn K (.ref f4) = true)
    (a5 : PySem.W.nsIn K mainGlobals "_law_lists" = some (some (.ref f5))) (l5 : K.lookup f5 = some ⟨oc5, od5, .func (PySem.W.fnOf "_law_lists" "_law_lists" (defArgs s__law_lists) (defBody s__law_lists) (defScope s__law_lists) .none kV5 dc5 pm5 an5 cd5 ct5), sl5⟩) (c5 : PySem.W.codeIn K cd5 "_law_lists" = true) (k5 : PySem.W.keepIn K (.ref f5) = true)
    (a6 : PySem.W.nsIn K mainGlobals "_law_excess" = some (some (.ref f6))) (l6 : K.lookup f6 = some ⟨oc6, od6, .func (PySem.W.fnOf "_law_excess" "_law_excess" (defArgs s__law_excess) (defBody s__law_excess) (defScope s__law_excess) .none kV6 dc6 pm6 an6 cd6 ct6), sl6⟩) (c6 : PySem.W.codeIn K cd6 "_law_excess" = true) (k6 : PySem.W.keepIn K (.ref f6) = true)
    (a7 : PySem.W.nsIn K mainGlobals "_law_due" = some (some (.ref f7))) (l7 : K.lookup f7 = some ⟨oc7, od7, .func (PySem.W.fnOf "_law_due" "_law_due" (defArgs s__law_due) (defBody s__law_due) (defScope s__law_due) .none kV7 dc7 pm7 an7 cd7 ct7), sl7⟩) (c7 : PySem.W.codeIn K cd7 "_law_due" = true) (k7 : PySem.W.keepIn K (.ref f7) = true)
    (a8 : PySem.W.nsIn K mainGlobals "law" = some (some (.ref f8))) (l8 : K.lookup f8 = some ⟨oc8, od8, .func (PySem.W.fnOf "law" "law" (defArgs s_law) (defBody s_law) (defScope s_law) .none kV8 dc8 pm8 an8 cd8 ct8), sl8⟩) (c8 : PySem.W.codeIn K cd8 "law" = true) (k8 : PySem.W.keepIn K (.ref f8) = true)
    (z0 : PySem.W.nsIn K mainGlobals "bool" = some none)
    (z1 : PySem.W.nsIn K mainGlobals "int" = some none)
    (z2 : PySem.W.nsIn K mainGlobals "isinstance" = some none)
    (z3 : PySem.W.nsIn K mainGlobals "len" = some none)
    (z4 : PySem.W.nsIn K mainGlobals "list" = some none)
    (z5 : PySem.W.nsIn K mainGlobals "min" = some none)
    (z6 : PySem.W.nsIn K mainGlobals "range" = some none)
    (z7 : PySem.W.nsIn K mainGlobals "sorted" = some none)
    (z8 : PySem.W.nsIn K mainGlobals "tuple" = some none)
    : Tx K mg ⟨f0, f1, f2, f3, f4, f5, f6, f7, f8⟩ where
  z_bool := PySem.W.mg_none_of X G z0
  z_int := PySem.W.mg_none_of X G z1
  z_isinstance := PySem.W.mg_none_of X G z2
  z_len := PySem.W.mg_none_of X G z3
  z_list := PySem.W.mg_none_of X G z4
  z_min := PySem.W.mg_none_of X G z5
  z_range := PySem.W.mg_none_of X G z6
  z_sorted := PySem.W.mg_none_of X G z7
  z_tuple := PySem.W.mg_none_of X G z8
  g_in_excess := PySem.W.mg_of X G a0
  fn_in_excess := ⟨_, fun_mk (st := s_in_excess) l0 c0 k0, (fun_mk (st := s_in_excess) l0 c0 k0).binds fun _ _ _ _ _ _ us hl => match us, hl with | [_, _, _], _ => rfl⟩
  g_difference := PySem.W.mg_of X G a1
  fn_difference := ⟨_, fun_mk (st := s_difference) l1 c1 k1, (fun_mk (st := s_difference) l1 c1 k1).binds fun _ _ _ _ _ _ us hl => match us, hl with | [_, _, _, _], _ => rfl⟩
  g_looks_same := PySem.W.mg_of X G a2
  fn_looks_same := ⟨_, fun_mk (st := s_looks_same) l2 c2 k2, (fun_mk (st := s_looks_same) l2 c2 k2).binds fun _ _ _ _ _ _ us hl => match us, hl with | [_, _, _], _ => rfl⟩
  g__law_cell := PySem.W.mg_of X G a3
  fn__law_cell := ⟨_, fun_mk (st := s__law_cell) l3 c3 k3, (fun_mk (st := s__law_cell) l3 c3 k3).binds fun _ _ _ _ _ _ us hl => match us, hl with | [_, _], _ => rfl⟩
  g__law_row := PySem.W.mg_of X G a4
  fn__law_row := ⟨_, fun_mk (st := s__law_row) l4 c4 k4, (fun_mk (st := s__law_row) l4 c4 k4).binds fun _ _ _ _ _ _ us hl => match us, hl with | [_, _], _ => rfl⟩
  g__law_lists := PySem.W.mg_of X G a5
  fn__law_lists := ⟨_, fun_mk (st := s__law_lists) l5 c5 k5, (fun_mk (st := s__law_lists) l5 c5 k5).binds fun _ _ _ _ _ _ us hl => match us, hl with | [_, _], _ => rfl⟩
  g__law_excess := PySem.W.mg_of X G a6
  fn__law_excess := ⟨_, fun_mk (st := s__law_excess) l6 c6 k6, (fun_mk (st := s__law_excess) l6 c6 k6).binds fun _ _ _ _ _ _ us hl => match us, hl with | [_, _, _], _ => rfl⟩
  g__law_due := PySem.W.mg_of X G a7
  fn__law_due := ⟨_, fun_mk (st := s__law_due) l7 c7 k7, (fun_mk (st := s__law_due) l7 c7 k7).binds fun _ _ _ _ _ _ us hl => match us, hl with | [_, _, _, _], _ => rfl⟩
  g_law := PySem.W.mg_of X G a8
  fn_law := ⟨_, fun_mk (st := s_law) l8 c8 k8, (fun_mk (st := s_law) l8 c8 k8).binds fun _ _ _ _ _ _ us hl => match us, hl with | [_], _ => rfl⟩
theorem walk {l : PySem.W.OpenLaw} {q : Program} {loose : List Str} {XP : (Str → Option Value) → Heap → Prop} {YP : World → Heap → Prop} {d : DefRec} {K : Params → PySem.W.Frag} (hn : l.most = some 63) (hdf : d.params.defaults = []) (hd : d.name = "law") (hY : ∀ (w : World) (h : Heap), YP w h → (K w.params).In h)
    (F : ∀ (w : World) (mg : Str → Option Value) (h : Heap), (K w.params).In h → h.Ns mainGlobals mg → ∃ a : Ad, Tx (K w.params) mg a) :
    PySem.W.WalkO q loose XP YP l.row.toRowW d [] (fun f vs => PySem.call f vs) :=
  L2.walk_of (n := 63) (k := 3) (x := "_law_script") (CX := fun _ => CX0) (sp := fun w => spD (K w.params) (fun _ => 0) 1 F_law) hn (by decide) hdf ⟨rfl, by decide, by decide⟩ hY (fun w mg fa h X G hfa => by
    obtain ⟨a, T⟩ := F w mg h X G
    rw [hd, T.g_law] at hfa
    cases hfa
    obtain ⟨fd, FF, _⟩ := T.fn_law
    have FF' := FF
    obtain ⟨oc, od, kV, doc, pm, an, cdv, ct, osl, rfl, lk, hcd⟩ := FF.ex
    exact ⟨_, fun s v => .of_eq rfl, fun base _ _ => ok_law T FF'⟩)
    (fun w H a ns hl _ hS => law_end (fun ns hn => PL.law7 ns hn) hl hS) fun _ _ _ _ _ z => z
end Lk07
open PySem PySem.W PyProof.Rows
set_option maxRecDepth 100000 in
set_option maxHeartbeats 0 in
theorem PySem.Challenge.cw_latecoming_k07_differences_holds : PySem.Challenge.rw_latecoming_k07_differences.Holds := by
  w_on; o_law; k_head; (case hw => w_witness2)
  k_fill
  refine Lk07.walk (l := PySem.Challenge.rw_latecoming_k07_differences) rfl rfl rfl (fun w h Y => PySem.W.kIn_of Y) ?F
  case F =>
    intro w mg h KX G
    refine' ⟨_, Lk07.tx_mk KX G ?a0 ?l0 ?c0 ?k0 ?a1 ?l1 ?c1 ?k1 ?a2 ?l2 ?c2 ?k2 ?a3 ?l3 ?c3 ?k3 ?a4 ?l4 ?c4 ?k4 ?a5 ?l5 ?c5 ?k5 ?a6 ?l6 ?c6 ?k6 ?a7 ?l7 ?c7 ?k7 ?a8 ?l8 ?c8 ?k8 ?z0 ?z1 ?z2 ?z3 ?z4 ?z5 ?z6 ?z7 ?z8⟩
    (case a0 => k_is)
    (case l0 => k_is)
    (case c0 => k_is)
    (case k0 => k_is)
    (case a1 => k_is)
    (case l1 => k_is)
    (case c1 => k_is)
    (case k1 => k_is)
    (case a2 => k_is)
    (case l2 => k_is)
    (case c2 => k_is)
    (case k2 => k_is)
    (case a3 => k_is)
    (case l3 => k_is)
    (case c3 => k_is)
    (case k3 => k_is)
    (case a4 => k_is)
    (case l4 => k_is)
    (case c4 => k_is)
    (case k4 => k_is)
    (case a5 => k_is)
    (case l5 => k_is)
    (case c5 => k_is)
    (case k5 => k_is)
    (case a6 => k_is)
    (case l6 => k_is)
    (case c6 => k_is)
    (case k6 => k_is)
    (case a7 => k_is)
    (case l7 => k_is)
    (case c7 => k_is)
    (case k7 => k_is)
    (case a8 => k_is)
    (case l8 => k_is)
    (case c8 => k_is)
    (case k8 => k_is)
    (case z0 => k_is)
    (case z1 => k_is)
    (case z2 => k_is)
    (case z3 => k_is)
    (case z4 => k_is)
    (case z5 => k_is)
    (case z6 => k_is)
    (case z7 => k_is)
    (case z8 => k_is)
#print axioms PySem.Challenge.cw_latecoming_k07_differences_holds

