import PyProof.Rows.All
import Wide.All
import OpenK.AllK
import Wide.FinOn
import HandS.ForMost
import HandS.TupAny
import HandS.Zip
import HandS.Style
import HandS.Deep
import HandS.IsInst
import KE.SortData
import HandS.SetFor
import HandS.Defaults
import PySem.Challenge.RW_latecoming_k23_what_receivers_hear
set_option Elab.async false
set_option linter.all false
set_option maxRecDepth 100000
set_option maxHeartbeats 4000000
/-! Values without addresses (D), what stands for them in an abstract heap (Rep), slots that may own a list (Slot), and the judgements of HandS told by functions on slots. -/
namespace PD
open PySem PySem.Spec PyProof.Rows L2

/-- a value of Python without addresses; frl: a list that is only read (the script); obj: class, field names, field values -/
inductive D where
  | non | bl (b : Bool) | int (i : Int) | str (x : Str)
  | tup (ds : List D) | lst (ds : List D) | frl (ds : List D)
  | obj (c : Nat) (ks : List Str) (ds : List D)
  deriving Inhabited

mutual
def Rep (K : PySem.W.Frag) (ct : Nat → Addr) (H : Hp) : D → V → Prop
  | .non, v => v = .non
  | .bl b, v => v = .bl b
  | .int i, v => v = .int i
  | .str x, v => v = .str x
  | .tup ds, v => ∃ a xs, v = .ref a ∧ SqT K H a xs ∧ RepL K ct H ds xs
  | .lst ds, v => ∃ a xs, v = .ref a ∧ H a = some (.lst xs) ∧ RepL K ct H ds xs
  | .frl ds, v => ∃ a xs, v = .ref a ∧ SqL K H a xs ∧ RepL K ct H ds xs
  | .obj c ks ds, v => ∃ a dx xs, v = .ref a ∧ H a = some (.ins (ct c) dx (ks.zip xs)) ∧ ks.length = ds.length ∧ RepL K ct H ds xs
def RepL (K : PySem.W.Frag) (ct : Nat → Addr) (H : Hp) : List D → List V → Prop
  | [], xs => xs = []
  | d :: ds, xs => ∃ y ys, xs = y :: ys ∧ Rep K ct H d y ∧ RepL K ct H ds ys
end

theorem same_sqt {K : PySem.W.Frag} {H H' : Hp} {a : Addr} {xs : List V} (e : Same H H') (h : SqT K H a xs) : SqT K H' a xs := by
  rcases h with (h | ⟨o, h⟩) | h
  · exact .inl (.inl (e _ _ h))
  · exact .inl (.inr ⟨o, e _ _ h⟩)
  · exact .inr h

section
variable {K : PySem.W.Frag} {ct : Nat → Addr} {H H' : Hp}
mutual
theorem Rep.mono (e : Same H H') : ∀ {d : D} {v : V}, Rep K ct H d v → Rep K ct H' d v
  | .non, _, h => h
  | .bl _, _, h => h
  | .int _, _, h => h
  | .str _, _, h => h
  | .tup ds, _, h => by
    simp only [Rep] at h ⊢
    obtain ⟨a, xs, hv, ht, hl⟩ := h
    exact ⟨a, xs, hv, same_sqt e ht, RepL.mono e hl⟩
  | .lst ds, _, h => by
    simp only [Rep] at h ⊢
    obtain ⟨a, xs, hv, ht, hl⟩ := h
    exact ⟨a, xs, hv, e _ _ ht, RepL.mono e hl⟩
  | .frl ds, _, h => by
    simp only [Rep] at h ⊢
    obtain ⟨a, xs, hv, ht, hl⟩ := h
    exact ⟨a, xs, hv, e.seq ht, RepL.mono e hl⟩
  | .obj c ks ds, _, h => by
    simp only [Rep] at h ⊢
    obtain ⟨a, dx, xs, hv, ht, hk, hl⟩ := h
    exact ⟨a, dx, xs, hv, e _ _ ht, hk, RepL.mono e hl⟩
theorem RepL.mono (e : Same H H') : ∀ {ds : List D} {xs : List V}, RepL K ct H ds xs → RepL K ct H' ds xs
  | [], _, h => by
    simp only [RepL] at h ⊢
    exact h
  | d :: ds, _, h => by
    simp only [RepL] at h ⊢
    obtain ⟨y, ys, hv, hd, hl⟩ := h
    exact ⟨y, ys, hv, Rep.mono e hd, RepL.mono e hl⟩
end
theorem RepL.length : ∀ {ds : List D} {xs : List V}, RepL K ct H ds xs → xs.length = ds.length
  | [], _, h => by
    simp only [RepL] at h
    rw [h]
    rfl
  | d :: ds, _, h => by
    simp only [RepL] at h
    obtain ⟨y, ys, rfl, _, hl⟩ := h
    simp [RepL.length hl]
theorem RepL.get : ∀ {ds : List D} {xs : List V} {i : Nat} {d : D}, RepL K ct H ds xs → ds[i]? = some d → ∃ v, xs[i]? = some v ∧ Rep K ct H d v
  | [], _, _, _, _, h => by simp at h
  | d :: ds, _, 0, _, h, e => by
    simp only [RepL] at h
    obtain ⟨y, ys, rfl, hd, _⟩ := h
    simp at e
    subst e
    exact ⟨y, rfl, hd⟩
  | d :: ds, _, i + 1, _, h, e => by
    simp only [RepL] at h
    obtain ⟨y, ys, rfl, _, hl⟩ := h
    simp only [List.getElem?_cons_succ] at e ⊢
    exact RepL.get hl e
theorem RepL.append : ∀ {ds es : List D} {xs ys : List V}, RepL K ct H ds xs → RepL K ct H es ys → RepL K ct H (ds ++ es) (xs ++ ys)
  | [], _, _, _, h, h' => by
    simp only [RepL] at h
    subst h
    exact h'
  | d :: ds, _, _, _, h, h' => by
    simp only [RepL] at h
    obtain ⟨y, zs, rfl, hd, hl⟩ := h
    simp only [List.cons_append, RepL]
    exact ⟨y, _, rfl, hd, RepL.append hl h'⟩
theorem RepL.one {d : D} {v : V} (h : Rep K ct H d v) : RepL K ct H [d] [v] := by
  simp only [RepL]
  exact ⟨v, [], rfl, h, rfl⟩
theorem RepL.nil : RepL K ct H [] [] := by simp only [RepL]
theorem RepL.cons {d : D} {v : V} {ds : List D} {xs : List V} (h : Rep K ct H d v) (hl : RepL K ct H ds xs) : RepL K ct H (d :: ds) (v :: xs) := by
  simp only [RepL]
  exact ⟨v, xs, rfl, h, hl⟩
theorem RepL.uncons {d : D} {ds : List D} {xs : List V} (h : RepL K ct H (d :: ds) xs) : ∃ y ys, xs = y :: ys ∧ Rep K ct H d y ∧ RepL K ct H ds ys := by
  simp only [RepL] at h
  exact h
theorem RepL.of_nil {xs : List V} (h : RepL K ct H [] xs) : xs = [] := by
  simp only [RepL] at h
  exact h
theorem RepL.take : ∀ {ds : List D} {xs : List V} (n : Nat), RepL K ct H ds xs → RepL K ct H (ds.take n) (xs.take n)
  | _, _, 0, _ => RepL.nil
  | [], _, n + 1, h => by
    rw [h.of_nil]
    exact RepL.nil
  | d :: ds, _, n + 1, h => by
    obtain ⟨y, ys, rfl, hd, hl⟩ := h.uncons
    exact RepL.cons hd (RepL.take n hl)
theorem RepL.drop : ∀ {ds : List D} {xs : List V} (n : Nat), RepL K ct H ds xs → RepL K ct H (ds.drop n) (xs.drop n)
  | _, _, 0, h => h
  | [], _, n + 1, h => by
    rw [h.of_nil]
    exact RepL.nil
  | d :: ds, _, n + 1, h => by
    obtain ⟨y, ys, rfl, hd, hl⟩ := h.uncons
    exact RepL.drop n hl
theorem RepL.set {d : D} {v : V} (r : Rep K ct H d v) : ∀ {ds : List D} {xs : List V} (i : Nat), RepL K ct H ds xs → RepL K ct H (ds.set i d) (xs.set i v)
  | [], _, _, h => by
    rw [h.of_nil]
    exact RepL.nil
  | e :: ds, _, 0, h => by
    obtain ⟨y, ys, rfl, hd, hl⟩ := h.uncons
    exact RepL.cons r hl
  | e :: ds, _, i + 1, h => by
    obtain ⟨y, ys, rfl, hd, hl⟩ := h.uncons
    exact RepL.cons hd (RepL.set r i hl)
theorem RepL.reverse : ∀ {ds : List D} {xs : List V}, RepL K ct H ds xs → RepL K ct H ds.reverse xs.reverse
  | [], _, h => by
    rw [h.of_nil]
    exact RepL.nil
  | d :: ds, _, h => by
    obtain ⟨y, ys, rfl, hd, hl⟩ := h.uncons
    rw [List.reverse_cons, List.reverse_cons]
    exact (RepL.reverse hl).append (RepL.one hd)
theorem RepL.ints : ∀ {ns : List Int} {xs : List V}, RepL K ct H (ns.map D.int) xs → xs = ns.map V.int
  | [], _, h => h.of_nil
  | n :: ns, _, h => by
    obtain ⟨y, ys, rfl, hd, hl⟩ := h.uncons
    simp only [Rep] at hd
    rw [hd, RepL.ints hl]
    rfl
theorem RepL.of_ints : ∀ (ns : List Int), RepL K ct H (ns.map D.int) (ns.map V.int)
  | [] => RepL.nil
  | n :: ns => RepL.cons (by simp only [Rep]) (RepL.of_ints ns)
theorem RepL.strs : ∀ {ns : List Str} {xs : List V}, RepL K ct H (ns.map D.str) xs → xs = ns.map V.str
  | [], _, h => h.of_nil
  | n :: ns, _, h => by
    obtain ⟨y, ys, rfl, hd, hl⟩ := h.uncons
    simp only [Rep] at hd
    rw [hd, RepL.strs hl]
    rfl
theorem RepL.of_strs : ∀ (ns : List Str), RepL K ct H (ns.map D.str) (ns.map V.str)
  | [] => RepL.nil
  | n :: ns => RepL.cons (by simp only [Rep]) (RepL.of_strs ns)
end

/-- what stands at an address for a list or an object -/
def HoR (K : PySem.W.Frag) (ct : Nat → Addr) (H : Hp) : D → HO → Prop
  | .lst ds, .lst xs => RepL K ct H ds xs
  | .obj c ks ds, .ins C _ fs => ∃ xs, C = ct c ∧ fs = ks.zip xs ∧ ks.length = ds.length ∧ RepL K ct H ds xs
  | _, _ => False
theorem HoR.mono {K : PySem.W.Frag} {ct : Nat → Addr} {H H' : Hp} (e : Same H H') {d : D} {o : HO} (h : HoR K ct H d o) : HoR K ct H' d o := by
  unfold HoR at h ⊢
  split at h
  · exact RepL.mono e h
  · obtain ⟨xs, h1, h2, h3, h4⟩ := h
    exact ⟨xs, h1, h2, h3, h4.mono e⟩
  · exact h.elim
theorem HoR.rep {K : PySem.W.Frag} {ct : Nat → Addr} {H : Hp} {d : D} {o : HO} {a : Addr} (h : HoR K ct H d o) (ha : H a = some o) : Rep K ct H d (.ref a) := by
  unfold HoR at h
  split at h
  · simp only [Rep]
    exact ⟨a, _, rfl, ha, h⟩
  · obtain ⟨xs, h1, h2, h3, h4⟩ := h
    subst h1 h2
    simp only [Rep]
    exact ⟨a, _, xs, rfl, ha, h3, h4⟩
  · exact h.elim

inductive Slot where
  | un | val (d : D) | own (d : D)
  deriving Inhabited
abbrev Env := List Slot

/-- the slots' values: HF: what the callers hold for themselves, H0: what all may read and nobody changes, H: all -/
structure StOk (K : PySem.W.Frag) (ct : Nat → Addr) (HF H0 H : Hp) (ρ : Env) (σ : L2.St) : Prop where
  e0 : Same H0 H
  ef : Same HF H
  dj : ∀ a o, HF a = some o → H0 a = none
  len : σ.length = ρ.length
  val : ∀ (i : Nat) (d : D), ρ[i]? = some (.val d) → ∃ v, σ[i]? = some (some v) ∧ Rep K ct H0 d v
  own : ∀ (i : Nat) (d : D), ρ[i]? = some (.own d) → ∃ a o, σ[i]? = some (some (.ref a)) ∧ HF a = none ∧ H0 a = none ∧ H a = some o ∧ HoR K ct H0 d o
  apart : ∀ (i j : Nat) (d e : D) (a : Addr), ρ[i]? = some (.own d) → ρ[j]? = some (.own e) → σ[i]? = some (some (.ref a)) → σ[j]? = some (some (.ref a)) → i = j

section
variable {K : PySem.W.Frag} {ct : Nat → Addr} {HF H0 H : Hp} {ρ : Env} {σ : L2.St}
theorem same_upd {H : Hp} {p : Addr} {o : HO} (h : H p = none) : Same H (upd H p o) := fun b x e => by
  rw [upd_ne (ne_of_none e h)]
  exact e
theorem same_upd2 {H0 H : Hp} {p : Addr} {o : HO} (e : Same H0 H) (h : H p = none) : Same (upd H0 p o) (upd H p o) := fun b x q => by
  by_cases hb : b = p
  · subst hb
    rw [upd_same] at q ⊢
    exact q
  · rw [upd_ne hb] at q ⊢
    exact e _ _ q
theorem StOk.fresh0 (S : StOk K ct HF H0 H ρ σ) {p : Addr} (h : H p = none) : H0 p = none := S.e0.free h
theorem StOk.freshF (S : StOk K ct HF H0 H ρ σ) {p : Addr} (h : H p = none) : HF p = none := S.ef.free h
/-- a new object that all may read -/
theorem StOk.new (S : StOk K ct HF H0 H ρ σ) {p : Addr} {o : HO} (h : H p = none) : StOk K ct HF (upd H0 p o) (upd H p o) ρ σ where
  e0 := same_upd2 S.e0 h
  ef := S.ef.trans (same_upd h)
  dj := fun a u e => by
    have ha : a ≠ p := ne_of_none e (S.freshF h)
    rw [upd_ne ha]
    exact S.dj a u e
  len := S.len
  val := fun i d e => by
    obtain ⟨v, h1, h2⟩ := S.val i d e
    exact ⟨v, h1, h2.mono (same_upd (S.fresh0 h))⟩
  own := fun i d e => by
    obtain ⟨a, u, h1, h2, h3, h4, h5⟩ := S.own i d e
    have ha : a ≠ p := ne_of_none h4 h
    refine ⟨a, u, h1, h2, by rw [upd_ne ha]; exact h3, by rw [upd_ne ha]; exact h4, h5.mono (same_upd (S.fresh0 h))⟩
  apart := S.apart
/-- a new object that is not yet given to anyone -/
theorem StOk.mine (S : StOk K ct HF H0 H ρ σ) {p : Addr} {o : HO} (h : H p = none) : StOk K ct HF H0 (upd H p o) ρ σ where
  e0 := S.e0.trans (same_upd h)
  ef := S.ef.trans (same_upd h)
  dj := S.dj
  len := S.len
  val := S.val
  own := fun i d e => by
    obtain ⟨a, u, h1, h2, h3, h4, h5⟩ := S.own i d e
    exact ⟨a, u, h1, h2, h3, same_upd h _ _ h4, h5⟩
  apart := S.apart
/-- what stands for itself is given to all -/
theorem StOk.give (S : StOk K ct HF H0 H ρ σ) {p : Addr} {o : HO} (h : H p = some o) (hF : HF p = none) (h0 : H0 p = none)
    (ho : ∀ (i : Nat) (d : D) (a : Addr), ρ[i]? = some (.own d) → σ[i]? = some (some (.ref a)) → a ≠ p) : StOk K ct HF (upd H0 p o) H ρ σ where
  e0 := fun b x q => by
    by_cases hb : b = p
    · subst hb
      rw [upd_same] at q
      rw [h]
      exact q
    · rw [upd_ne hb] at q
      exact S.e0 _ _ q
  ef := S.ef
  dj := fun a u e => by
    have ha : a ≠ p := ne_of_none e hF
    rw [upd_ne ha]
    exact S.dj a u e
  len := S.len
  val := fun i d e => by
    obtain ⟨v, h1, h2⟩ := S.val i d e
    exact ⟨v, h1, h2.mono (same_upd h0)⟩
  own := fun i d e => by
    obtain ⟨a, u, h1, h2, h3, h4, h5⟩ := S.own i d e
    have ha : a ≠ p := ho i d a e h1
    exact ⟨a, u, h1, h2, by rw [upd_ne ha]; exact h3, h4, h5.mono (same_upd h0)⟩
  apart := S.apart

theorem get_set {α : Type} (l : List α) (i j : Nat) (x : α) : (l.set i x)[j]? = if i = j then (if j < l.length then some x else none) else l[j]? := by
  by_cases h : i = j
  · subst h
    rw [if_pos rfl]
    by_cases hi : i < l.length
    · rw [if_pos hi, List.getElem?_set_self hi]
    · rw [if_neg hi, List.getElem?_eq_none (by rw [List.length_set]; omega)]
  · rw [if_neg h, List.getElem?_set_ne h]

/-- a slot is forgotten -/
theorem StOk.forget (S : StOk K ct HF H0 H ρ σ) (i : Nat) : StOk K ct HF H0 H (ρ.set i .un) σ where
  e0 := S.e0
  ef := S.ef
  dj := S.dj
  len := by rw [List.length_set]; exact S.len
  val := fun j d e => by
    rw [get_set] at e
    split at e
    · split at e <;> cases e
    · exact S.val j d e
  own := fun j d e => by
    rw [get_set] at e
    split at e
    · split at e <;> cases e
    · exact S.own j d e
  apart := fun j k d e a h1 h2 => by
    rw [get_set] at h1 h2
    split at h1
    · split at h1 <;> cases h1
    · split at h2
      · split at h2 <;> cases h2
      · exact S.apart j k d e a h1 h2
/-- a forgotten slot may hold anything -/
theorem StOk.wiped (S : StOk K ct HF H0 H ρ σ) (i : Nat) (x : Option V) : StOk K ct HF H0 H (ρ.set i .un) (σ.set i x) where
  e0 := S.e0
  ef := S.ef
  dj := S.dj
  len := by rw [List.length_set, List.length_set]; exact S.len
  val := fun j d e => by
    rw [get_set] at e
    split at e
    · split at e <;> cases e
    · rename_i hj
      obtain ⟨v, h1, h2⟩ := S.val j d e
      exact ⟨v, by rw [get_set, if_neg hj]; exact h1, h2⟩
  own := fun j d e => by
    rw [get_set] at e
    split at e
    · split at e <;> cases e
    · rename_i hj
      obtain ⟨a, o, h1, h2⟩ := S.own j d e
      exact ⟨a, o, by rw [get_set, if_neg hj]; exact h1, h2⟩
  apart := fun j k d e a h1 h2 h3 h4 => by
    rw [get_set] at h1 h2
    split at h1
    · split at h1 <;> cases h1
    · split at h2
      · split at h2 <;> cases h2
      · rename_i hj hk
        rw [get_set, if_neg hj] at h3
        rw [get_set, if_neg hk] at h4
        exact S.apart j k d e a h1 h2 h3 h4
/-- a slot takes a value -/
theorem StOk.setVal (S : StOk K ct HF H0 H ρ σ) (i : Nat) {d : D} {v : V} (r : Rep K ct H0 d v) : StOk K ct HF H0 H (ρ.set i (.val d)) (σ.set i (some v)) where
  e0 := S.e0
  ef := S.ef
  dj := S.dj
  len := by rw [List.length_set, List.length_set]; exact S.len
  val := fun j e h => by
    rw [get_set] at h
    split at h
    · rename_i hj
      split at h
      · rename_i hl
        cases h
        exact ⟨v, by rw [get_set, if_pos hj, if_pos (by rw [S.len]; exact hl)], r⟩
      · cases h
    · rename_i hj
      obtain ⟨w, h1, h2⟩ := S.val j e h
      exact ⟨w, by rw [get_set, if_neg hj]; exact h1, h2⟩
  own := fun j e h => by
    rw [get_set] at h
    split at h
    · split at h <;> cases h
    · rename_i hj
      obtain ⟨a, o, h1, h2⟩ := S.own j e h
      exact ⟨a, o, by rw [get_set, if_neg hj]; exact h1, h2⟩
  apart := fun j k d e a h1 h2 h3 h4 => by
    rw [get_set] at h1 h2
    split at h1
    · split at h1 <;> cases h1
    · split at h2
      · split at h2 <;> cases h2
      · rename_i hj hk
        rw [get_set, if_neg hj] at h3
        rw [get_set, if_neg hk] at h4
        exact S.apart j k d e a h1 h2 h3 h4
/-- a slot takes a list or an object for itself -/
theorem StOk.setOwn (S : StOk K ct HF H0 H ρ σ) (i : Nat) {d : D} {p : Addr} {o : HO} (hF : HF p = none) (h0 : H0 p = none) (hp : H p = some o) (r : HoR K ct H0 d o)
    (ho : ∀ (j : Nat) (e : D) (a : Addr), ρ[j]? = some (.own e) → σ[j]? = some (some (.ref a)) → a ≠ p) : StOk K ct HF H0 H (ρ.set i (.own d)) (σ.set i (some (.ref p))) where
  e0 := S.e0
  ef := S.ef
  dj := S.dj
  len := by rw [List.length_set, List.length_set]; exact S.len
  val := fun j e h => by
    rw [get_set] at h
    split at h
    · split at h <;> cases h
    · rename_i hj
      obtain ⟨w, h1, h2⟩ := S.val j e h
      exact ⟨w, by rw [get_set, if_neg hj]; exact h1, h2⟩
  own := fun j e h => by
    rw [get_set] at h
    split at h
    · rename_i hj
      split at h
      · rename_i hl
        cases h
        exact ⟨p, o, by rw [get_set, if_pos hj, if_pos (by rw [S.len]; exact hl)], hF, h0, hp, r⟩
      · cases h
    · rename_i hj
      obtain ⟨a, u, h1, h2⟩ := S.own j e h
      exact ⟨a, u, by rw [get_set, if_neg hj]; exact h1, h2⟩
  apart := fun j k d e a h1 h2 h3 h4 => by
    rw [get_set] at h1 h2 h3 h4
    by_cases hj : i = j
    · by_cases hk : i = k
      · exact hj.symm.trans hk
      · rw [if_pos hj] at h3
        rw [if_neg hk] at h2 h4
        split at h3
        · cases h3
          exact absurd rfl (ho k e p h2 h4)
        · cases h3
    · by_cases hk : i = k
      · rw [if_pos hk] at h4
        rw [if_neg hj] at h1 h3
        split at h4
        · cases h4
          exact absurd rfl (ho j d p h1 h3)
        · cases h4
      · rw [if_neg hj] at h1 h3
        rw [if_neg hk] at h2 h4
        exact S.apart j k d e a h1 h2 h3 h4
/-- an own list or object gets another content -/
theorem StOk.change (S : StOk K ct HF H0 H ρ σ) {i : Nat} {d d' : D} {p : Addr} {o : HO} (hi : ρ[i]? = some (.own d)) (hs : σ[i]? = some (some (.ref p))) (r : HoR K ct H0 d' o) :
    StOk K ct HF H0 (upd H p o) (ρ.set i (.own d')) σ := by
  obtain ⟨a, u, h1, h2, h3, h4, h5⟩ := S.own i d hi
  have ea : a = p := by
    rw [hs] at h1
    cases h1
    rfl
  subst ea
  refine ⟨fun b x q => ?_, fun b x q => ?_, S.dj, by rw [List.length_set]; exact S.len, fun j e h => ?_, fun j e h => ?_, fun j k d1 e1 b h1' h2' h3' h4' => ?_⟩
  · rw [upd_ne (ne_of_none q h3)]
    exact S.e0 _ _ q
  · rw [upd_ne (ne_of_none q h2)]
    exact S.ef _ _ q
  · rw [get_set] at h
    split at h
    · split at h <;> cases h
    · exact S.val j e h
  · rw [get_set] at h
    split at h
    · rename_i hj
      subst hj
      split at h
      · cases h
        exact ⟨a, o, h1, h2, h3, upd_same, r⟩
      · cases h
    · rename_i hj
      obtain ⟨b, w, g1, g2, g3, g4, g5⟩ := S.own j e h
      have hb : b ≠ a := fun z => by
        subst z
        exact hj (S.apart i j d e b hi h h1 g1)
      exact ⟨b, w, g1, g2, g3, by rw [upd_ne hb]; exact g4, g5⟩
  · rw [get_set] at h1' h2'
    by_cases hj : i = j
    · by_cases hk : i = k
      · exact hj.symm.trans hk
      · rw [if_neg hk] at h2'
        subst hj
        exact absurd (S.apart i k d e1 b hi h2' h3' h4') hk
    · by_cases hk : i = k
      · rw [if_neg hj] at h1'
        subst hk
        exact absurd (S.apart i j d d1 b hi h1' h4' h3') hj
      · rw [if_neg hj] at h1'
        rw [if_neg hk] at h2'
        exact S.apart j k d1 e1 b h1' h2' h3' h4'
end
/-- a slot that owns gives what it owns to all -/
def frz1 (i : Nat) (ρ : Env) : Env := match ρ[i]? with
  | some (.own d) => ρ.set i (.val d)
  | _ => ρ
def frz (is : List Nat) (ρ : Env) : Env := is.foldl (fun ρ i => frz1 i ρ) ρ
def clr (is : List Nat) (ρ : Env) : Env := is.foldl (fun ρ i => ρ.set i .un) ρ
section
variable {K : PySem.W.Frag} {ct : Nat → Addr} {HF H0 H : Hp} {ρ : Env} {σ : L2.St}
theorem StOk.frz1 (S : StOk K ct HF H0 H ρ σ) (i : Nat) : ∃ H0', Same H0 H0' ∧ StOk K ct HF H0' H (PD.frz1 i ρ) σ := by
  unfold PD.frz1
  split
  · rename_i d hi
    obtain ⟨a, u, h1, h2, h3, h4, h5⟩ := S.own i d hi
    have S1 := S.forget i
    have S2 := S1.give h4 h2 h3 (fun j e b hj hb z => by
      subst z
      rw [get_set] at hj
      split at hj
      · split at hj <;> cases hj
      · rename_i hne
        exact hne (S.apart i j d e b hi hj h1 hb))
    have hil : i < ρ.length := (List.getElem?_eq_some_iff.mp hi).1
    have S3 := S2.setVal i (d := d) (v := .ref a) ((h5.mono (same_upd h3)).rep upd_same)
    have e1 : (ρ.set i .un).set i (.val d) = ρ.set i (.val d) := by rw [List.set_set]
    have e2 : σ.set i (some (.ref a)) = σ := by
      apply List.ext_getElem?
      intro j
      rw [get_set]
      split
      · rename_i hj
        subst hj
        rw [if_pos (by rw [S.len]; exact hil)]
        exact h1.symm
      · rfl
    rw [e1, e2] at S3
    exact ⟨_, same_upd h3, S3⟩
  · exact ⟨H0, Same.refl _, S⟩
theorem StOk.frz : ∀ (is : List Nat) {H0 : Hp} {ρ : Env}, StOk K ct HF H0 H ρ σ → ∃ H0', Same H0 H0' ∧ StOk K ct HF H0' H (PD.frz is ρ) σ
  | [], H0, _, S => ⟨H0, Same.refl _, S⟩
  | i :: is, H0, ρ, S => by
    obtain ⟨H1, e1, S1⟩ := S.frz1 i
    obtain ⟨H2, e2, S2⟩ := StOk.frz is S1
    exact ⟨H2, e1.trans e2, S2⟩
theorem StOk.clr : ∀ (is : List Nat) {ρ : Env}, StOk K ct HF H0 H ρ σ → StOk K ct HF H0 H (PD.clr is ρ) σ
  | [], _, S => S
  | i :: is, ρ, S => StOk.clr is (S.forget i)
end
end PD

/-! Expressions: their values by functions on slots. -/
namespace PD
open PySem PySem.Spec PyProof.Rows L2

/-- x, where p holds (the kernel never looks into p) -/
noncomputable def gd {α : Type} (p : Prop) (x : α) : Option α := @ite _ p (Classical.propDecidable p) (some x) none
theorem gd_some {α : Type} {p : Prop} {x y : α} (h : gd p x = some y) : p ∧ x = y := by
  unfold gd at h
  by_cases hp : p
  · rw [if_pos hp] at h
    exact ⟨hp, Option.some.inj h⟩
  · rw [if_neg hp] at h
    cases h
theorem gd_pos {α : Type} {p : Prop} {x : α} (h : p) : gd p x = some x := by
  unfold gd
  rw [if_pos h]
section
variable (K : PySem.W.Frag) (ct : Nat → Addr)
/-- a value, or what a slot owns -/
def BRep (ρ : Env) (σ : L2.St) (H0 : Hp) (d : D) (v : V) : Prop := Rep K ct H0 d v ∨ ∃ i : Nat, ρ[i]? = some (.own d) ∧ σ[i]? = some (some v)
def tD (f : Env → Option D) : TE := fun σ H Q => ∃ HF H0 ρ d, StOk K ct HF H0 H ρ σ ∧ f ρ = some d ∧ ∀ v H0' H', Same H0 H0' → StOk K ct HF H0' H' ρ σ → Rep K ct H0' d v → Q v H'
def tBo (f : Env → Option D) : TE := fun σ H Q => ∃ HF H0 ρ d, StOk K ct HF H0 H ρ σ ∧ f ρ = some d ∧ ∀ v H0' H', Same H0 H0' → StOk K ct HF H0' H' ρ σ → BRep K ct ρ σ H0' d v → Q v H'
/-- a new object that nobody else holds -/
structure Fresh (HF H0 H : Hp) (ρ : Env) (σ : L2.St) (p : Addr) (d : D) (o : HO) : Prop where
  hF : HF p = none
  h0 : H0 p = none
  h : H p = some o
  r : HoR K ct H0 d o
  ne : ∀ (i : Nat) (e : D) (a : Addr), ρ[i]? = some (.own e) → σ[i]? = some (some (.ref a)) → a ≠ p
def tO (f : Env → Option D) : TE := fun σ H Q => ∃ HF H0 ρ d, StOk K ct HF H0 H ρ σ ∧ f ρ = some d ∧ ∀ p o H0' H', Same H0 H0' → StOk K ct HF H0' H' ρ σ → Fresh K ct HF H0' H' ρ σ p d o → Q (.ref p) H'
def tTe (f : Env → Option Bool) : TT := fun σ H Q => ∃ HF H0 ρ b, StOk K ct HF H0 H ρ σ ∧ f ρ = some b ∧ ∀ H0' H', Same H0 H0' → StOk K ct HF H0' H' ρ σ → Q b H'
def tAr (f : Env → Option (List D)) : TA := fun σ H Q => ∃ HF H0 ρ ds, StOk K ct HF H0 H ρ σ ∧ f ρ = some ds ∧ ∀ vs H0' H', Same H0 H0' → StOk K ct HF H0' H' ρ σ → RepL K ct H0' ds vs → Q vs H'
end

section
variable {X : Cx} {e : Expr}
theorem _root_.L2.PE.weak {t t' : TE} (h : PE X e t) (w : ∀ σ H Q, t' σ H Q → t σ H Q) : PE X e t' := ⟨fun pins s σ H Q I q => h.run pins s σ H Q I (w _ _ _ q)⟩
theorem _root_.L2.PT.weak {t t' : TT} (h : PT X e t) (w : ∀ σ H Q, t' σ H Q → t σ H Q) : PT X e t' := ⟨fun pins s σ H Q I q => h.run pins s σ H Q I (w _ _ _ q)⟩
theorem _root_.L2.PW.weak {t t' : TT} (h : PW X e t) (w : ∀ σ H Q, t' σ H Q → t σ H Q) : PW X e t' := ⟨fun wh pins s σ H Q I q => h.run wh pins s σ H Q I (w _ _ _ q)⟩
theorem _root_.L2.PA.weak {es : List Expr} {t t' : TA} (h : PA X es t) (w : ∀ σ H Q, t' σ H Q → t σ H Q) : PA X es t' := ⟨fun pos pins s σ H Q I q => h.run pos pins s σ H Q I (w _ _ _ q)⟩
end

section
variable {K : PySem.W.Frag} {ct : Nat → Addr} {HF H0 H : Hp} {ρ : Env} {σ : L2.St} {d : D} {v : V}
/-- behind the own heap all is read alike -/
theorem BRep.full (S : StOk K ct HF H0 H ρ σ) (h : BRep K ct ρ σ H0 d v) : Rep K ct H d v := by
  rcases h with h | ⟨i, hi, hs⟩
  · exact h.mono S.e0
  · obtain ⟨a, o, h1, h2, h3, h4, h5⟩ := S.own i d hi
    rw [hs] at h1
    cases h1
    exact (h5.mono S.e0).rep h4
theorem BRep.mono {H0' : Hp} (e : Same H0 H0') (h : BRep K ct ρ σ H0 d v) : BRep K ct ρ σ H0' d v := by
  rcases h with h | h
  · exact .inl (h.mono e)
  · exact .inr h
theorem BRep.lst {ds : List D} (S : StOk K ct HF H0 H ρ σ) (h : BRep K ct ρ σ H0 (.lst ds) v) : ∃ a xs, v = .ref a ∧ H a = some (.lst xs) ∧ RepL K ct H0 ds xs := by
  rcases h with h | ⟨i, hi, hs⟩
  · simp only [Rep] at h
    obtain ⟨a, xs, h1, h2, h3⟩ := h
    exact ⟨a, xs, h1, S.e0 _ _ h2, h3⟩
  · obtain ⟨a, o, h1, h2, h3, h4, h5⟩ := S.own i _ hi
    rw [hs] at h1
    cases h1
    unfold HoR at h5
    split at h5
    · rename_i ds' xs e
      cases e
      exact ⟨a, xs, rfl, h4, h5⟩
    · rename_i e
      cases e
    · exact h5.elim
theorem BRep.obj {c : Nat} {ks : List Str} {ds : List D} (S : StOk K ct HF H0 H ρ σ) (h : BRep K ct ρ σ H0 (.obj c ks ds) v) :
    ∃ a dx xs, v = .ref a ∧ H a = some (.ins (ct c) dx (ks.zip xs)) ∧ ks.length = ds.length ∧ RepL K ct H0 ds xs := by
  rcases h with h | ⟨i, hi, hs⟩
  · simp only [Rep] at h
    obtain ⟨a, dx, xs, h1, h2, h3⟩ := h
    exact ⟨a, dx, xs, h1, S.e0 _ _ h2, h3⟩
  · obtain ⟨a, o, h1, h2, h3, h4, h5⟩ := S.own i _ hi
    rw [hs] at h1
    cases h1
    unfold HoR at h5
    split at h5
    · rename_i e
      cases e
    · rename_i e
      cases e
      obtain ⟨xs, rfl, rfl, g3, g4⟩ := h5
      exact ⟨a, _, xs, rfl, h4, g3, g4⟩
    · exact h5.elim
/-- what is no list and no object is never owned -/
theorem BRep.imm (S : StOk K ct HF H0 H ρ σ) (h : BRep K ct ρ σ H0 d v) (hd : ∀ o, ¬ HoR K ct H0 d o) : Rep K ct H0 d v := by
  rcases h with h | ⟨i, hi, hs⟩
  · exact h
  · obtain ⟨a, o, h1, h2, h3, h4, h5⟩ := S.own i _ hi
    exact (hd o h5).elim
theorem BRep.int {i : Int} (S : StOk K ct HF H0 H ρ σ) (h : BRep K ct ρ σ H0 (.int i) v) : v = .int i := by
  have q := h.full S
  simpa only [Rep] using q
theorem BRep.str {x : Str} (S : StOk K ct HF H0 H ρ σ) (h : BRep K ct ρ σ H0 (.str x) v) : v = .str x := by
  have q := h.full S
  simpa only [Rep] using q
theorem BRep.bl {b : Bool} (S : StOk K ct HF H0 H ρ σ) (h : BRep K ct ρ σ H0 (.bl b) v) : v = .bl b := by
  have q := h.full S
  simpa only [Rep] using q
theorem BRep.non (S : StOk K ct HF H0 H ρ σ) (h : BRep K ct ρ σ H0 .non v) : v = .non := by
  have q := h.full S
  simpa only [Rep] using q
theorem BRep.tup {ds : List D} (S : StOk K ct HF H0 H ρ σ) (h : BRep K ct ρ σ H0 (.tup ds) v) : ∃ a xs, v = .ref a ∧ SqT K H a xs ∧ RepL K ct H0 ds xs := by
  have q := h.imm S (fun o q => by unfold HoR at q; split at q <;> first | (rename_i e; cases e) | exact q.elim)
  simp only [Rep] at q
  obtain ⟨a, xs, h1, h2, h3⟩ := q
  exact ⟨a, xs, h1, same_sqt S.e0 h2, h3⟩
theorem BRep.tup0 {ds : List D} (S : StOk K ct HF H0 H ρ σ) (h : BRep K ct ρ σ H0 (.tup ds) v) : ∃ a xs, v = .ref a ∧ SqT K H0 a xs ∧ RepL K ct H0 ds xs := by
  have q := h.imm S (fun o q => by unfold HoR at q; split at q <;> first | (rename_i e; cases e) | exact q.elim)
  simp only [Rep] at q
  obtain ⟨a, xs, h1, h2, h3⟩ := q
  exact ⟨a, xs, h1, h2, h3⟩
theorem BRep.frl {ds : List D} (S : StOk K ct HF H0 H ρ σ) (h : BRep K ct ρ σ H0 (.frl ds) v) : ∃ a xs, v = .ref a ∧ SqL K H a xs ∧ RepL K ct H0 ds xs := by
  have q := h.imm S (fun o q => by unfold HoR at q; split at q <;> first | (rename_i e; cases e) | exact q.elim)
  simp only [Rep] at q
  obtain ⟨a, xs, h1, h2, h3⟩ := q
  exact ⟨a, xs, h1, S.e0.seq h2, h3⟩
/-- the items of a list or a tuple -/
def seqD : D → Option (List D)
  | .lst ds => some ds
  | .frl ds => some ds
  | .tup ds => some ds
  | _ => none
theorem BRep.seq {ds : List D} (S : StOk K ct HF H0 H ρ σ) (h : BRep K ct ρ σ H0 d v) (hd : seqD d = some ds) : ∃ a xs, v = .ref a ∧ (SqL K H a xs ∨ SqT K H a xs) ∧ RepL K ct H0 ds xs := by
  cases d with
  | lst es =>
    cases hd
    obtain ⟨a, xs, h1, h2, h3⟩ := h.lst S
    exact ⟨a, xs, h1, .inl (SqL.of h2), h3⟩
  | frl es =>
    cases hd
    obtain ⟨a, xs, h1, h2, h3⟩ := h.frl S
    exact ⟨a, xs, h1, .inl h2, h3⟩
  | tup es =>
    cases hd
    obtain ⟨a, xs, h1, h2, h3⟩ := h.tup S
    exact ⟨a, xs, h1, .inr h2, h3⟩
  | _ => cases hd
/-- a new object laid: nobody else holds it -/
theorem StOk.fresh (S : StOk K ct HF H0 H ρ σ) {p : Addr} {o : HO} (h : H p = none) (r : HoR K ct H0 d o) : StOk K ct HF H0 (upd H p o) ρ σ ∧ Fresh K ct HF H0 (upd H p o) ρ σ p d o :=
  ⟨S.mine h, S.freshF h, S.fresh0 h, upd_same, r, fun i e a h1 h2 => by
    obtain ⟨b, u, g1, _, _, g4, _⟩ := S.own i e h1
    rw [h2] at g1
    cases g1
    exact ne_of_none g4 h⟩
theorem Fresh.give {p : Addr} {o : HO} (S : StOk K ct HF H0 H ρ σ) (F : Fresh K ct HF H0 H ρ σ p d o) : Same H0 (upd H0 p o) ∧ StOk K ct HF (upd H0 p o) H ρ σ ∧ Rep K ct (upd H0 p o) d (.ref p) :=
  ⟨same_upd F.h0, S.give F.h F.hF F.h0 F.ne, (F.r.mono (same_upd F.h0)).rep upd_same⟩
theorem StOk.newTup (S : StOk K ct HF H0 H ρ σ) {p : Addr} {ds : List D} {xs : List V} (h : H p = none) (r : RepL K ct H0 ds xs) :
    Same H0 (upd H0 p (.tup xs)) ∧ StOk K ct HF (upd H0 p (.tup xs)) (upd H p (.tup xs)) ρ σ ∧ Rep K ct (upd H0 p (.tup xs)) (.tup ds) (.ref p) :=
  ⟨same_upd (S.fresh0 h), S.new h, by
    simp only [Rep]
    exact ⟨p, xs, rfl, SqT.of upd_same, r.mono (same_upd (S.fresh0 h))⟩⟩
end

section
variable {X : Cx} {ct : Nat → Addr} {e a b c : Expr} {pos : Pos} {fa fb fc : Env → Option D}
theorem PE.bo (h : PE X e (tD X.K ct fa)) : PE X e (tBo X.K ct fa) := h.weak fun σ H Q => by
  rintro ⟨HF, H0, ρ, d, S, hf, q⟩
  exact ⟨HF, H0, ρ, d, S, hf, fun v H0' H' e1 S1 r => q v H0' H' e1 S1 (.inl r)⟩
theorem PE.ow (h : PE X e (tO X.K ct fa)) : PE X e (tD X.K ct fa) := h.weak fun σ H Q => by
  rintro ⟨HF, H0, ρ, d, S, hf, q⟩
  refine ⟨HF, H0, ρ, d, S, hf, fun p o H0' H' e1 S1 F => ?_⟩
  obtain ⟨e2, S2, r⟩ := F.give S1
  exact q _ _ _ (e1.trans e2) S2 r

/-! ### names and constants -/
def fVar (i : Nat) : Env → Option D := fun ρ => match ρ[i]? with
  | some (.val d) => some d
  | _ => none
def fBor (i : Nat) : Env → Option D := fun ρ => match ρ[i]? with
  | some (.val d) => some d
  | some (.own d) => some d
  | _ => none
theorem e_var (i : Nat) (h : PE X e (tVar i)) : PE X e (tD X.K ct (fVar i)) := h.weak fun σ H Q => by
  rintro ⟨HF, H0, ρ, d, S, hf, q⟩
  unfold fVar at hf
  split at hf
  · rename_i d' hi
    cases hf
    obtain ⟨v, h1, h2⟩ := S.val i d hi
    exact ⟨v, h1, q v H0 H (Same.refl _) S h2⟩
  · cases hf
theorem b_var (i : Nat) (h : PE X e (tVar i)) : PE X e (tBo X.K ct (fBor i)) := h.weak fun σ H Q => by
  rintro ⟨HF, H0, ρ, d, S, hf, q⟩
  unfold fBor at hf
  split at hf
  · rename_i d' hi
    cases hf
    obtain ⟨v, h1, h2⟩ := S.val i d hi
    exact ⟨v, h1, q v H0 H (Same.refl _) S (.inl h2)⟩
  · rename_i d' hi
    cases hf
    obtain ⟨a, o, h1, _⟩ := S.own i d hi
    exact ⟨_, h1, q _ H0 H (Same.refl _) S (.inr ⟨i, hi, h1⟩)⟩
  · cases hf
def fC (d : D) : Env → Option D := fun _ => some d
theorem e_c {v : V} {d : D} (h : PE X e (tC v)) (r : ∀ H, Rep X.K ct H d v) : PE X e (tD X.K ct (fC d)) := h.weak fun σ H Q => by
  rintro ⟨HF, H0, ρ, d', S, hf, q⟩
  cases hf
  exact q v H0 H (Same.refl _) S (r _)
theorem e_int {i : Int} {j : Nat} : PE X (.Constant (.int i) j pos) (tD X.K ct (fC (.int i))) := e_c pe_int fun _ => by simp only [Rep]
theorem e_str {x : Str} {j : Nat} : PE X (.Constant (.str x) j pos) (tD X.K ct (fC (.str x))) := e_c pe_str fun _ => by simp only [Rep]
theorem e_bl {x : Bool} {j : Nat} : PE X (.Constant (.bool x) j pos) (tD X.K ct (fC (.bl x))) := e_c pe_bl fun _ => by simp only [Rep]
theorem e_non {j : Nat} : PE X (.Constant .none j pos) (tD X.K ct (fC .non)) := e_c pe_non fun _ => by simp only [Rep]

/-! ### operations on one value, on two -/
def f1 (fa : Env → Option D) (g : D → Option D) : Env → Option D := fun ρ => (fa ρ).bind g
def f2 (fa fb : Env → Option D) (g : D → D → Option D) : Env → Option D := fun ρ => (fa ρ).bind fun x => (fb ρ).bind fun y => g x y
/-- r gives g's value | a new object -/
def Op2 (K : PySem.W.Frag) (ct : Nat → Addr) (r : R2) (g : D → D → Option D) : Prop := ∀ (HF H0 H : Hp) (ρ : Env) (σ : L2.St) (x y z : D) (v u : V) (Q : VK), StOk K ct HF H0 H ρ σ → BRep K ct ρ σ H0 x v → BRep K ct ρ σ H0 y u → g x y = some z →
  (∀ w H0' H', Same H0 H0' → StOk K ct HF H0' H' ρ σ → Rep K ct H0' z w → Q w H') → r v u H Q
def Op2O (K : PySem.W.Frag) (ct : Nat → Addr) (r : R2) (g : D → D → Option D) : Prop := ∀ (HF H0 H : Hp) (ρ : Env) (σ : L2.St) (x y z : D) (v u : V) (Q : VK), StOk K ct HF H0 H ρ σ → BRep K ct ρ σ H0 x v → BRep K ct ρ σ H0 y u → g x y = some z →
  (∀ p o H0' H', Same H0 H0' → StOk K ct HF H0' H' ρ σ → Fresh K ct HF H0' H' ρ σ p z o → Q (.ref p) H') → r v u H Q
def Op1 (K : PySem.W.Frag) (ct : Nat → Addr) (r : V → Hp → VK → Prop) (g : D → Option D) : Prop := ∀ (HF H0 H : Hp) (ρ : Env) (σ : L2.St) (x z : D) (v : V) (Q : VK), StOk K ct HF H0 H ρ σ → BRep K ct ρ σ H0 x v → g x = some z →
  (∀ w H0' H', Same H0 H0' → StOk K ct HF H0' H' ρ σ → Rep K ct H0' z w → Q w H') → r v H Q
def Op1O (K : PySem.W.Frag) (ct : Nat → Addr) (r : V → Hp → VK → Prop) (g : D → Option D) : Prop := ∀ (HF H0 H : Hp) (ρ : Env) (σ : L2.St) (x z : D) (v : V) (Q : VK), StOk K ct HF H0 H ρ σ → BRep K ct ρ σ H0 x v → g x = some z →
  (∀ p o H0' H', Same H0 H0' → StOk K ct HF H0' H' ρ σ → Fresh K ct HF H0' H' ρ σ p z o → Q (.ref p) H') → r v H Q
theorem bind_some {α β : Type} {o : Option α} {k : α → Option β} {z : β} (h : o.bind k = some z) : ∃ x, o = some x ∧ k x = some z := by
  cases o with
  | none => cases h
  | some x => exact ⟨x, rfl, h⟩
theorem two {K : PySem.W.Frag} {r : R2} {g : D → D → Option D} (hg : Op2 K ct r g) {σ : L2.St} {H : Hp} {Q : VK} (h : tD K ct (f2 fa fb g) σ H Q) : tOp r (tBo K ct fa) (tBo K ct fb) σ H Q := by
  obtain ⟨HF, H0, ρ, z, S, hf, q⟩ := h
  obtain ⟨x, hx, hf⟩ := bind_some hf
  obtain ⟨y, hy, hz⟩ := bind_some hf
  refine ⟨HF, H0, ρ, x, S, hx, fun v H1 H' e1 S1 r1 => ⟨HF, H1, ρ, y, S1, hy, fun u H2 H'' e2 S2 r2 => ?_⟩⟩
  exact hg HF H2 H'' ρ σ x y z v u Q S2 (r1.mono e2) r2 hz fun w H3 H3' e3 S3 r3 => q w H3 H3' ((e1.trans e2).trans e3) S3 r3
theorem twoO {K : PySem.W.Frag} {r : R2} {g : D → D → Option D} (hg : Op2O K ct r g) {σ : L2.St} {H : Hp} {Q : VK} (h : tO K ct (f2 fa fb g) σ H Q) : tOp r (tBo K ct fa) (tBo K ct fb) σ H Q := by
  obtain ⟨HF, H0, ρ, z, S, hf, q⟩ := h
  obtain ⟨x, hx, hf⟩ := bind_some hf
  obtain ⟨y, hy, hz⟩ := bind_some hf
  refine ⟨HF, H0, ρ, x, S, hx, fun v H1 H' e1 S1 r1 => ⟨HF, H1, ρ, y, S1, hy, fun u H2 H'' e2 S2 r2 => ?_⟩⟩
  exact hg HF H2 H'' ρ σ x y z v u Q S2 (r1.mono e2) r2 hz fun p o H3 H3' e3 S3 r3 => q p o H3 H3' ((e1.trans e2).trans e3) S3 r3
theorem one {K : PySem.W.Frag} {r : V → Hp → VK → Prop} {g : D → Option D} (hg : Op1 K ct r g) {σ : L2.St} {H : Hp} {Q : VK} (h : tD K ct (f1 fa g) σ H Q) : tUn r (tBo K ct fa) σ H Q := by
  obtain ⟨HF, H0, ρ, z, S, hf, q⟩ := h
  obtain ⟨x, hx, hz⟩ := bind_some hf
  refine ⟨HF, H0, ρ, x, S, hx, fun v H1 H' e1 S1 r1 => ?_⟩
  exact hg HF H1 H' ρ σ x z v Q S1 r1 hz fun w H3 H3' e3 S3 r3 => q w H3 H3' (e1.trans e3) S3 r3
theorem oneO {K : PySem.W.Frag} {r : V → Hp → VK → Prop} {g : D → Option D} (hg : Op1O K ct r g) {σ : L2.St} {H : Hp} {Q : VK} (h : tO K ct (f1 fa g) σ H Q) : tUn r (tBo K ct fa) σ H Q := by
  obtain ⟨HF, H0, ρ, z, S, hf, q⟩ := h
  obtain ⟨x, hx, hz⟩ := bind_some hf
  refine ⟨HF, H0, ρ, x, S, hx, fun v H1 H' e1 S1 r1 => ?_⟩
  exact hg HF H1 H' ρ σ x z v Q S1 r1 hz fun p o H3 H3' e3 S3 r3 => q p o H3 H3' (e1.trans e3) S3 r3
theorem e_bin {op : Operator} {r : R2} {g : D → D → Option D} (ho : OpR X (binaryOp op) r) (hg : Op2 X.K ct r g) (ha : PE X a (tBo X.K ct fa)) (hb : PE X b (tBo X.K ct fb)) : PE X (.BinOp a op b pos) (tD X.K ct (f2 fa fb g)) :=
  (pe_op ho ha hb).weak fun _ _ _ => two hg
theorem o_bin {op : Operator} {r : R2} {g : D → D → Option D} (ho : OpR X (binaryOp op) r) (hg : Op2O X.K ct r g) (ha : PE X a (tBo X.K ct fa)) (hb : PE X b (tBo X.K ct fb)) : PE X (.BinOp a op b pos) (tO X.K ct (f2 fa fb g)) :=
  (pe_op ho ha hb).weak fun _ _ _ => twoO hg
theorem e_un {op : UnaryOp} {r : V → Hp → VK → Prop} {g : D → Option D} (ho : UnR X (unaryOp op) r) (hg : Op1 X.K ct r g) (ha : PE X a (tBo X.K ct fa)) : PE X (.UnaryOp op a pos) (tD X.K ct (f1 fa g)) :=
  (pe_un ho ha).weak fun _ _ _ => one hg
theorem e_cmp {op : CmpOp} {r : R2} {g : D → D → Option D} (ho : OpR X (compareOp op) r) (hg : Op2 X.K ct r g) (ha : PE X a (tBo X.K ct fa)) (hb : PE X b (tBo X.K ct fb)) (hm : behindInMarks op b = false) :
    PE X (.Compare a [op] [b] pos) (tD X.K ct (f2 fa fb g)) := (pe_cmpR ho ha hb hm).weak fun _ _ _ => two hg
/-- a comparison's answer -/
def fT (f : Env → Option D) : Env → Option Bool := fun ρ => match f ρ with
  | some (.bl b) => some b
  | _ => none
theorem fT_some {f : Env → Option D} {ρ : Env} {b : Bool} (h : fT f ρ = some b) : f ρ = some (.bl b) := by
  unfold fT at h
  split at h
  · cases h
    assumption
  · cases h
theorem t_of {K : PySem.W.Frag} {σ : L2.St} {H : Hp} {Q : Bool → Hp → Prop} {f : Env → Option D} (h : tTe K ct (fT f) σ H Q) : tD K ct f σ H fun x H' => ∃ k, x = .bl k ∧ Q k H' := by
  obtain ⟨HF, H0, ρ, z, S, hf, q⟩ := h
  refine ⟨HF, H0, ρ, .bl z, S, fT_some hf, fun v H1 H' e1 S1 r1 => ⟨z, ?_, q H1 H' e1 S1⟩⟩
  simpa only [Rep] using r1
theorem t_cmp {op : CmpOp} {r : R2} {g : D → D → Option D} (ho : OpR X (compareOp op) r) (hg : Op2 X.K ct r g) (ha : PE X a (tBo X.K ct fa)) (hb : PE X b (tBo X.K ct fb)) (hm : behindInMarks op b = false) :
    PT X (.Compare a [op] [b] pos) (tTe X.K ct (fT (f2 fa fb g))) := (pt_cmpR ho ha hb hm).weak fun σ H Q h => two hg (t_of h)
/-- a value that is True or False, as a test -/
theorem t_val {f : Env → Option D} (h : PE X e (tD X.K ct f)) (he : ∀ whole, isTrue e X.env whole = (do let v ← whole; standAt e.pos; holding [v] (truthy v)) := by intro _; rfl) : PT X e (tTe X.K ct (fT f)) :=
  (pt_val h he).weak fun σ H Q q => t_of q
noncomputable def truD : D → Option Bool
  | .non => some false
  | .bl b => some b
  | .int i => some (i != 0)
  | .str x => gd (x.length ≤ sizeLine) ((x.length : Int) != 0)
  | .tup ds => some (!ds.isEmpty)
  | .lst ds => some (!ds.isEmpty)
  | .frl ds => some (!ds.isEmpty)
  | .obj .. => none
theorem RepL.isEmpty {K : PySem.W.Frag} {H : Hp} {ds : List D} {xs : List V} (h : RepL K ct H ds xs) : xs.isEmpty = ds.isEmpty := by
  have e := h.length
  cases ds <;> cases xs <;> first | rfl | (simp at e)
theorem tru_of {K : PySem.W.Frag} {HF H0 H : Hp} {ρ : Env} {σ : L2.St} {d : D} {v : V} {k : Bool} (S : StOk K ct HF H0 H ρ σ) (h : BRep K ct ρ σ H0 d v) (hd : truD d = some k) : TruV K v H k := by
  have hs : ∀ ds, seqD d = some ds → k = !ds.isEmpty → TruV K v H k := fun ds e hk => by
    obtain ⟨a, xs, rfl, q, r⟩ := h.seq S e
    rw [← r.isEmpty] at hk
    rcases q with q | q
    · exact .inl ⟨xs, q, hk⟩
    · exact .inr (.inl ⟨xs, q, hk⟩)
  cases d with
  | non => rw [h.non S]; cases hd; rfl
  | bl b => rw [h.bl S]; cases hd; rfl
  | int i => rw [h.int S]; cases hd; rfl
  | str x =>
    rw [h.str S]
    simp only [truD] at hd
    obtain ⟨hz, rfl⟩ := gd_some hd
    exact ⟨hz, rfl⟩
  | tup ds => cases hd; exact hs ds rfl rfl
  | lst ds => cases hd; exact hs ds rfl rfl
  | frl ds => cases hd; exact hs ds rfl rfl
  | obj c ks ds => cases hd
noncomputable def fTru (f : Env → Option D) : Env → Option Bool := fun ρ => (f ρ).bind truD
theorem t_truth (h : PE X e (tBo X.K ct fa)) (he : ∀ whole, isTrue e X.env whole = (do let v ← whole; standAt e.pos; holding [v] (truthy v)) := by intro _; rfl) : PT X e (tTe X.K ct (fTru fa)) :=
  (pt_truth h he).weak fun σ H Q => by
    rintro ⟨HF, H0, ρ, z, S, hf, q⟩
    obtain ⟨x, hx, hz⟩ := bind_some hf
    exact ⟨HF, H0, ρ, x, S, hx, fun v H1 H' e1 S1 r1 => ⟨z, tru_of S1 r1 hz, q H1 H' e1 S1⟩⟩
/-! and, or, not -/
def fAnd (f g : Env → Option Bool) : Env → Option Bool := fun ρ => (f ρ).bind fun b => if b then g ρ else some false
def fOr (f g : Env → Option Bool) : Env → Option Bool := fun ρ => (f ρ).bind fun b => if b then some true else g ρ
def fNot (f : Env → Option Bool) : Env → Option Bool := fun ρ => (f ρ).map (!·)
section
variable {rest : List Expr} {ft gt : Env → Option Bool}
theorem w_and1 (h : PT X a (tTe X.K ct ft)) : PW X (.BoolOp .And [a] pos) (tTe X.K ct ft) := pw_and1 h
theorem w_or1 (h : PT X a (tTe X.K ct ft)) : PW X (.BoolOp .Or [a] pos) (tTe X.K ct ft) := pw_or1 h
theorem w_and (ha : PT X a (tTe X.K ct ft)) (hb : PW X (.BoolOp .And (b :: rest) pos) (tTe X.K ct gt)) : PW X (.BoolOp .And (a :: b :: rest) pos) (tTe X.K ct (fAnd ft gt)) :=
  (pw_and ha hb).weak fun σ H Q => by
    rintro ⟨HF, H0, ρ, z, S, hf, q⟩
    obtain ⟨x, hx, hz⟩ := bind_some hf
    refine ⟨HF, H0, ρ, x, S, hx, fun H1 H' e1 S1 => ?_⟩
    cases x with
    | true => exact iteT ⟨HF, H1, ρ, z, S1, hz, fun H2 H'' e2 S2 => q H2 H'' (e1.trans e2) S2⟩
    | false =>
      cases hz
      exact iteF (q H1 H' e1 S1)
theorem w_or (ha : PT X a (tTe X.K ct ft)) (hb : PW X (.BoolOp .Or (b :: rest) pos) (tTe X.K ct gt)) : PW X (.BoolOp .Or (a :: b :: rest) pos) (tTe X.K ct (fOr ft gt)) :=
  (pw_or ha hb).weak fun σ H Q => by
    rintro ⟨HF, H0, ρ, z, S, hf, q⟩
    obtain ⟨x, hx, hz⟩ := bind_some hf
    refine ⟨HF, H0, ρ, x, S, hx, fun H1 H' e1 S1 => ?_⟩
    cases x with
    | true =>
      cases hz
      exact iteT (q H1 H' e1 S1)
    | false => exact iteF ⟨HF, H1, ρ, z, S1, hz, fun H2 H'' e2 S2 => q H2 H'' (e1.trans e2) S2⟩
theorem t_not (ha : PT X a (tTe X.K ct ft)) : PT X (.UnaryOp .Not a pos) (tTe X.K ct (fNot ft)) := (pt_not ha).weak fun σ H Q => by
    rintro ⟨HF, H0, ρ, z, S, hf, q⟩
    unfold fNot at hf
    cases hx : ft ρ with
    | none => rw [hx] at hf; cases hf
    | some x =>
      rw [hx] at hf
      cases hf
      exact ⟨HF, H0, ρ, x, S, hx, fun H1 H' e1 S1 => q H1 H' e1 S1⟩
end
/-- and, or, not as values: the parts but the last are True or False -/
def fAndV (f g : Env → Option D) : Env → Option D := fun ρ => (fT f ρ).bind fun b => if b then g ρ else some (.bl false)
def fOrV (f g : Env → Option D) : Env → Option D := fun ρ => (fT f ρ).bind fun b => if b then some (.bl true) else g ρ
def fNotV (f : Env → Option D) : Env → Option D := fun ρ => (fT f ρ).map fun b => .bl (!b)
theorem e_one {op : BoolOp} (h : PE X a (tD X.K ct fa)) : PE X (.BoolOp op [a] pos) (tD X.K ct fa) := pe_one h
theorem e_and {rest : List Expr} (ha : PE X a (tD X.K ct fa)) (hb : PE X (.BoolOp .And (b :: rest) pos) (tD X.K ct fb)) : PE X (.BoolOp .And (a :: b :: rest) pos) (tD X.K ct (fAndV fa fb)) :=
  (pe_and ha hb).weak fun σ H Q => by
    rintro ⟨HF, H0, ρ, z, S, hf, q⟩
    obtain ⟨x, hx, hz⟩ := bind_some hf
    refine ⟨HF, H0, ρ, .bl x, S, fT_some hx, fun v H1 H' e1 S1 r1 => ⟨x, by simpa only [Rep] using r1, ?_⟩⟩
    cases x with
    | true => exact iteT ⟨HF, H1, ρ, z, S1, hz, fun w H2 H'' e2 S2 => q w H2 H'' (e1.trans e2) S2⟩
    | false =>
      cases hz
      exact iteF (q _ H1 H' e1 S1 (by simp only [Rep]))
theorem e_or {rest : List Expr} (ha : PE X a (tD X.K ct fa)) (hb : PE X (.BoolOp .Or (b :: rest) pos) (tD X.K ct fb)) : PE X (.BoolOp .Or (a :: b :: rest) pos) (tD X.K ct (fOrV fa fb)) :=
  (pe_or ha hb).weak fun σ H Q => by
    rintro ⟨HF, H0, ρ, z, S, hf, q⟩
    obtain ⟨x, hx, hz⟩ := bind_some hf
    refine ⟨HF, H0, ρ, .bl x, S, fT_some hx, fun v H1 H' e1 S1 r1 => ⟨x, by simpa only [Rep] using r1, ?_⟩⟩
    cases x with
    | false => exact iteF ⟨HF, H1, ρ, z, S1, hz, fun w H2 H'' e2 S2 => q w H2 H'' (e1.trans e2) S2⟩
    | true =>
      cases hz
      exact iteT (q _ H1 H' e1 S1 (by simp only [Rep]))
theorem e_not (ha : PE X a (tD X.K ct fa)) : PE X (.UnaryOp .Not a pos) (tD X.K ct (fNotV fa)) := (pe_not ha).weak fun σ H Q => by
    rintro ⟨HF, H0, ρ, z, S, hf, q⟩
    unfold fNotV at hf
    cases hx : fT fa ρ with
    | none => rw [hx] at hf; cases hf
    | some x =>
      rw [hx] at hf
      cases hf
      exact ⟨HF, H0, ρ, .bl x, S, fT_some hx, fun v H1 H' e1 S1 r1 => ⟨x, by simpa only [Rep] using r1, q _ H1 H' e1 S1 (by simp only [Rep])⟩⟩
/-- a if c else b -/
def fIf (fc : Env → Option Bool) (fa fb : Env → Option D) : Env → Option D := fun ρ => (fc ρ).bind fun b => if b then fa ρ else fb ρ
theorem e_if {ft : Env → Option Bool} (hc : PT X c (tTe X.K ct ft)) (ha : PE X a (tD X.K ct fa)) (hb : PE X b (tD X.K ct fb)) : PE X (.IfExp c a b pos) (tD X.K ct (fIf ft fa fb)) :=
  (pe_ifExp hc ha hb).weak fun σ H Q => by
    rintro ⟨HF, H0, ρ, z, S, hf, q⟩
    obtain ⟨x, hx, hz⟩ := bind_some hf
    refine ⟨HF, H0, ρ, x, S, hx, fun H1 H' e1 S1 => ?_⟩
    cases x with
    | true => exact iteT ⟨HF, H1, ρ, z, S1, hz, fun w H2 H'' e2 S2 => q w H2 H'' (e1.trans e2) S2⟩
    | false => exact iteF ⟨HF, H1, ρ, z, S1, hz, fun w H2 H'' e2 S2 => q w H2 H'' (e1.trans e2) S2⟩
/-- a < b < c -/
def fChain (fa fb fc : Env → Option D) (g g' : D → D → Option D) : Env → Option D := fun ρ => (fa ρ).bind fun x => (fb ρ).bind fun y => (g x y).bind fun k => match k with
  | .bl true => (fc ρ).bind fun z => g' y z
  | .bl false => some (.bl false)
  | _ => none
theorem chain {K : PySem.W.Frag} {r r' : R2} {g g' : D → D → Option D} (hg : Op2 K ct r g) (hg' : Op2 K ct r' g') {σ : L2.St} {H : Hp} {Q : VK} (h : tD K ct (fChain fa fb fc g g') σ H Q) :
    tChain r r' (tBo K ct fa) (tBo K ct fb) (tBo K ct fc) σ H Q := by
  obtain ⟨HF, H0, ρ, z, S, hf, q⟩ := h
  obtain ⟨x, hx, hf⟩ := bind_some hf
  obtain ⟨y, hy, hf⟩ := bind_some hf
  obtain ⟨k, hk, hf⟩ := bind_some hf
  refine ⟨HF, H0, ρ, x, S, hx, fun v H1 H' e1 S1 r1 => ⟨HF, H1, ρ, y, S1, hy, fun u H2 H'' e2 S2 r2 => ?_⟩⟩
  refine hg HF H2 H'' ρ σ x y k v u _ S2 (r1.mono e2) r2 hk fun w H3 H3' e3 S3 r3 => ?_
  split at hf
  · refine ⟨true, by simpa only [Rep] using r3, iteT ?_⟩
    obtain ⟨t, ht, hz⟩ := bind_some hf
    refine ⟨HF, H3, ρ, t, S3, ht, fun w2 H4 H4' e4 S4 r4 => ?_⟩
    exact hg' HF H4 H4' ρ σ y t z u w2 Q S4 ((r2.mono e3).mono e4) r4 hz fun w5 H5 H5' e5 S5 r5 => q w5 H5 H5' ((((e1.trans e2).trans e3).trans e4).trans e5) S5 r5
  · cases hf
    exact ⟨false, by simpa only [Rep] using r3, iteF (q _ H3 H3' ((e1.trans e2).trans e3) S3 (by simp only [Rep]))⟩
  · cases hf
end
end PD

/-! Operators by values. -/
namespace PD
open PySem PySem.Spec PyProof.Rows L2

section
variable {K : PySem.W.Frag} {ct : Nat → Addr}
theorem Op2O.d {r : R2} {g : D → D → Option D} (h : Op2O K ct r g) : Op2 K ct r g := fun HF H0 H ρ σ x y z v u Q S hx hy hz q =>
  h HF H0 H ρ σ x y z v u Q S hx hy hz fun p o H0' H' e1 S1 F => by
    obtain ⟨e2, S2, r⟩ := F.give S1
    exact q _ _ _ (e1.trans e2) S2 r
theorem Op1O.d {r : V → Hp → VK → Prop} {g : D → Option D} (h : Op1O K ct r g) : Op1 K ct r g := fun HF H0 H ρ σ x z v Q S hx hz q =>
  h HF H0 H ρ σ x z v Q S hx hz fun p o H0' H' e1 S1 F => by
    obtain ⟨e2, S2, r⟩ := F.give S1
    exact q _ _ _ (e1.trans e2) S2 r
theorem Op2.or {r r' : R2} {g g' k : D → D → Option D} (h : Op2 K ct r g) (h' : Op2 K ct r' g') (hk : ∀ x y z, k x y = some z → g x y = some z ∨ g' x y = some z) : Op2 K ct (fun x y H Q => r x y H Q ∨ r' x y H Q) k := fun HF H0 H ρ σ x y z v u Q S hx hy hz q => by
  rcases hk x y z hz with e | e
  · exact .inl (h HF H0 H ρ σ x y z v u Q S hx hy e q)
  · exact .inr (h' HF H0 H ρ σ x y z v u Q S hx hy e q)

/-! ### ints -/
noncomputable def intD (C : Int → Int → Prop) (g : Int → Int → D) : D → D → Option D
  | .int i, .int j => gd (C i j) (g i j)
  | _, _ => none
theorem intD_some {C : Int → Int → Prop} {g : Int → Int → D} {x y z : D} (h : intD C g x y = some z) : ∃ i j, x = .int i ∧ y = .int j ∧ C i j ∧ z = g i j := by
  unfold intD at h
  split at h
  · obtain ⟨hc, rfl⟩ := gd_some h
    exact ⟨_, _, rfl, rfl, hc, rfl⟩
  · cases h
/-- .. without a condition -/
def intD0 (g : Int → Int → D) : D → D → Option D
  | .int i, .int j => some (g i j)
  | _, _ => none
theorem intD0_some {g : Int → Int → D} {x y z : D} (h : intD0 g x y = some z) : ∃ i j, x = .int i ∧ y = .int j ∧ True ∧ z = g i j := by
  unfold intD0 at h
  split at h
  · cases h
    exact ⟨_, _, rfl, rfl, trivial, rfl⟩
  · cases h
theorem op2_int {C : Int → Int → Prop} {g : Int → Int → V} {g' : Int → Int → D} (hg : ∀ i j H, Rep K ct H (g' i j) (g i j)) : Op2 K ct (rI C g) (intD C g') := fun HF H0 H ρ σ x y z v u Q S hx hy hz q => by
  obtain ⟨i, j, rfl, rfl, hc, rfl⟩ := intD_some hz
  exact ⟨i, j, hx.int S, hy.int S, hc, q _ _ _ (Same.refl _) S (hg i j _)⟩
theorem op2_int0 {g : Int → Int → V} {g' : Int → Int → D} (hg : ∀ i j H, Rep K ct H (g' i j) (g i j)) : Op2 K ct (rI0 g) (intD0 g') := fun HF H0 H ρ σ x y z v u Q S hx hy hz q => by
  obtain ⟨i, j, rfl, rfl, hc, rfl⟩ := intD0_some hz
  exact ⟨i, j, hx.int S, hy.int S, q _ _ _ (Same.refl _) S (hg i j _)⟩
def subD : D → D → Option D := intD0 fun i j => .int (i - j)
noncomputable def fdivD : D → D → Option D := intD CDivN fun i j => .int (i.fdiv j)
noncomputable def modD : D → D → Option D := intD (fun _ j => j ≠ 0) fun i j => .int (i.fmod j)
noncomputable def powD : D → D → Option D := intD CPow fun i j => .int (i ^ j.toNat)
def ltD : D → D → Option D := intD0 fun i j => .bl (decide (i < j))
def leD : D → D → Option D := intD0 fun i j => .bl (decide (i ≤ j))
def gtD : D → D → Option D := intD0 fun i j => .bl (decide (j < i))
def geD : D → D → Option D := intD0 fun i j => .bl (decide (j ≤ i))
theorem sub_ok : Op2 K ct (rI0 fun i j => .int (i - j)) subD := op2_int0 fun _ _ _ => by simp only [Rep]
theorem fdiv_ok : Op2 K ct (rI CDivN fun i j => .int (i.fdiv j)) fdivD := op2_int fun _ _ _ => by simp only [Rep]
theorem mod_ok : Op2 K ct (rI (fun _ j => j ≠ 0) fun i j => .int (i.fmod j)) modD := op2_int fun _ _ _ => by simp only [Rep]
theorem pow_ok : Op2 K ct (rI CPow fun i j => .int (i ^ j.toNat)) powD := op2_int fun _ _ _ => by simp only [Rep]
theorem lt_ok : Op2 K ct (rI0 fun i j => .bl (decide (i < j))) ltD := op2_int0 fun _ _ _ => by simp only [Rep]
theorem le_ok : Op2 K ct (rI0 fun i j => .bl (decide (i ≤ j))) leD := op2_int0 fun _ _ _ => by simp only [Rep]
theorem gt_ok : Op2 K ct (rI0 fun i j => .bl (decide (j < i))) gtD := op2_int0 fun _ _ _ => by simp only [Rep]
theorem ge_ok : Op2 K ct (rI0 fun i j => .bl (decide (j ≤ i))) geD := op2_int0 fun _ _ _ => by simp only [Rep]

/-! ### + -/
noncomputable def addLst : D → D → Option D
  | .lst a, .lst b => gd (a.length + b.length ≤ sizeLine) (.lst (a ++ b))
  | _, _ => none
noncomputable def addStr : D → D → Option D
  | .str a, .str b => gd (a.length + b.length ≤ sizeLine) (.str (a ++ b))
  | _, _ => none
noncomputable def addTup : D → D → Option D
  | .tup a, .tup b => gd (a.length + b.length ≤ sizeLine) (.tup (a ++ b))
  | _, _ => none
def addInt : D → D → Option D := intD0 fun i j => .int (i + j)
noncomputable def addD : D → D → Option D
  | .int i, .int j => some (.int (i + j))
  | .str a, .str b => gd (a.length + b.length ≤ sizeLine) (.str (a ++ b))
  | .tup a, .tup b => gd (a.length + b.length ≤ sizeLine) (.tup (a ++ b))
  | .lst a, .lst b => gd (a.length + b.length ≤ sizeLine) (.lst (a ++ b))
  | _, _ => none
theorem addInt_ok : Op2 K ct (rI0 fun i j => .int (i + j)) addInt := op2_int0 fun _ _ _ => by simp only [Rep]
def rAddS : R2 := fun x y H Q => ∃ i j, x = .str i ∧ y = .str j ∧ i.length + j.length ≤ sizeLine ∧ Q (.str (i ++ j)) H
theorem addStr_ok : Op2 K ct rAddS addStr := fun HF H0 H ρ σ x y z v u Q S hx hy hz q => by
  unfold addStr at hz
  split at hz
  · obtain ⟨hl, rfl⟩ := gd_some hz
    exact ⟨_, _, hx.str S, hy.str S, hl, q _ _ _ (Same.refl _) S (by simp only [Rep])⟩
  · cases hz
theorem addTup_ok : Op2 K ct (rCatA K) addTup := fun HF H0 H ρ σ x y z v u Q S hx hy hz q => by
  unfold addTup at hz
  split at hz
  · rename_i a b
    obtain ⟨hl, rfl⟩ := gd_some hz
    obtain ⟨p, xs, rfl, hp, r1⟩ := hx.tup0 S
    obtain ⟨p2, ys, rfl, hp2, r2⟩ := hy.tup0 S
    refine ⟨p, p2, xs, ys, rfl, rfl, same_sqt S.e0 hp, same_sqt S.e0 hp2, by rw [r1.length, r2.length]; exact hl, fun e => ?_, fun e e2 => ?_, fun _ _ t ht => ?_⟩
    · subst e
      have ea : a = [] := List.length_eq_zero_iff.mp (by rw [← r1.length]; rfl)
      subst ea
      exact q _ _ _ (Same.refl _) S (by simp only [Rep]; exact ⟨p2, ys, rfl, hp2, r2⟩)
    · subst e2
      have eb : b = [] := List.length_eq_zero_iff.mp (by rw [← r2.length]; rfl)
      subst eb
      rw [List.append_nil] at q
      exact q _ _ _ (Same.refl _) S (by simp only [Rep]; exact ⟨p, xs, rfl, hp, r1⟩)
    · obtain ⟨e1, S1, r⟩ := S.newTup ht (r1.append r2)
      exact q _ _ _ e1 S1 r
  · cases hz
theorem addLst_ok : Op2O K ct rCat addLst := fun HF H0 H ρ σ x y z v u Q S hx hy hz q => by
  unfold addLst at hz
  split at hz
  · obtain ⟨hl, rfl⟩ := gd_some hz
    obtain ⟨p, xs, rfl, hp, r1⟩ := hx.lst S
    obtain ⟨p2, ys, rfl, hp2, r2⟩ := hy.lst S
    refine ⟨p, p2, xs, ys, rfl, rfl, hp, hp2, by rw [r1.length, r2.length]; exact hl, fun t ht => ?_⟩
    obtain ⟨S1, F⟩ := S.fresh (d := .lst _) (o := .lst (xs ++ ys)) ht (r1.append r2)
    exact q _ _ _ _ (Same.refl _) S1 F
  · cases hz
def rAddAny (K : PySem.W.Frag) : R2 := fun x y H Q => ((rI0 fun i j => .int (i + j)) x y H Q ∨ rAddS x y H Q) ∨ (rCatA K x y H Q ∨ rCat x y H Q)
theorem add_ok : Op2 K ct (rAddAny K) addD := by
  refine Op2.or (Op2.or addInt_ok addStr_ok (k := fun x y => match x, y with | .int i, .int j => some (.int (i + j)) | .str a, .str b => addStr (.str a) (.str b) | _, _ => none) ?_) (Op2.or addTup_ok addLst_ok.d (k := fun x y => match x, y with | .tup i, .tup j => addTup (.tup i) (.tup j) | .lst a, .lst b => addLst (.lst a) (.lst b) | _, _ => none) ?_) ?_
  · intro x y z h
    split at h
    · exact .inl h
    · exact .inr h
    · cases h
  · intro x y z h
    split at h
    · exact .inl h
    · exact .inr h
    · cases h
  · intro x y z h
    unfold addD at h
    split at h
    · exact .inl h
    · exact .inl h
    · exact .inr h
    · exact .inr h
    · cases h
theorem op_addAny {X : Cx} : OpR X (binaryOp .Add) (rAddAny X.K) := (op_add.or op_add_str).or (op_catA.or op_cat)

/-! ### * -/
noncomputable def repLst : D → D → Option D
  | .lst a, .int k => gd (-(2 ^ 63) ≤ k ∧ k < 2 ^ 63 ∧ a.length * k.toNat ≤ sizeLine) (.lst (List.replicate k.toNat a).flatten)
  | _, _ => none
noncomputable def mulInt : D → D → Option D := intD CMul fun i j => .int (i * j)
noncomputable def mulD (x y : D) : Option D := match x with
  | .lst a => repLst (.lst a) y
  | _ => mulInt x y
theorem mulInt_ok : Op2 K ct (rI CMul fun i j => .int (i * j)) mulInt := op2_int fun _ _ _ => by simp only [Rep]
theorem RepL.rep {H : Hp} {ds : List D} {xs : List V} (h : RepL K ct H ds xs) : ∀ k : Nat, RepL K ct H (List.replicate k ds).flatten (List.replicate k xs).flatten
  | 0 => RepL.nil
  | k + 1 => by
    simp only [List.replicate_succ, List.flatten_cons]
    exact h.append (RepL.rep h k)
theorem repLst_ok : Op2O K ct rRep repLst := fun HF H0 H ρ σ x y z v u Q S hx hy hz q => by
  unfold repLst at hz
  split at hz
  · obtain ⟨hl, rfl⟩ := gd_some hz
    obtain ⟨p, xs, rfl, hp, r1⟩ := hx.lst S
    refine ⟨p, _, xs, rfl, hy.int S, hp, hl.1, hl.2.1, by rw [r1.length]; exact hl.2.2, fun t ht => ?_⟩
    obtain ⟨S1, F⟩ := S.fresh (d := .lst _) (o := .lst _) ht (r1.rep _)
    exact q _ _ _ _ (Same.refl _) S1 F
  · cases hz
def rMulAny : R2 := fun x y H Q => (rI CMul fun i j => .int (i * j)) x y H Q ∨ rRep x y H Q
theorem mul_ok : Op2 K ct rMulAny mulD := Op2.or mulInt_ok repLst_ok.d fun x y z h => by
  unfold mulD at h
  split at h
  · exact .inr h
  · exact .inl h
theorem op_mulAny {X : Cx} : OpR X (binaryOp .Mult) rMulAny := op_mul.or op_rep

/-! ### ==, != -/
mutual
def toPy : D → PyData
  | .non => .none
  | .bl b => .bool b
  | .int i => .int i
  | .str x => .str x
  | .tup ds => .tuple (toPyL ds)
  | .lst ds => .list (toPyL ds)
  | .frl ds => .list (toPyL ds)
  | .obj .. => .none
def toPyL : List D → List PyData
  | [] => []
  | d :: ds => toPy d :: toPyL ds
end
mutual
def plainD : D → Bool
  | .obj .. => false
  | .tup ds => plainL ds
  | .lst ds => plainL ds
  | .frl ds => plainL ds
  | _ => true
def plainL : List D → Bool
  | [] => true
  | d :: ds => plainD d && plainL ds
end
mutual
theorem dp_of {H : Hp} : ∀ {d : D} {v : V}, Rep K ct H d v → plainD d = true → Dp K H v (toPy d)
  | .non, _, h, _ => by
    simp only [Rep] at h
    subst h
    exact .non
  | .bl _, _, h, _ => by
    simp only [Rep] at h
    subst h
    exact .bl _
  | .int _, _, h, _ => by
    simp only [Rep] at h
    subst h
    exact .int _
  | .str _, _, h, _ => by
    simp only [Rep] at h
    subst h
    exact .str _
  | .tup ds, _, h, p => by
    simp only [Rep] at h
    simp only [plainD] at p
    obtain ⟨a, xs, rfl, ht, hl⟩ := h
    simp only [toPy]
    exact .tup ht (dpAll_of hl p)
  | .lst ds, _, h, p => by
    simp only [Rep] at h
    simp only [plainD] at p
    obtain ⟨a, xs, rfl, ht, hl⟩ := h
    simp only [toPy]
    exact .lst (SqL.of ht) (dpAll_of hl p)
  | .frl ds, _, h, p => by
    simp only [Rep] at h
    simp only [plainD] at p
    obtain ⟨a, xs, rfl, ht, hl⟩ := h
    simp only [toPy]
    exact .lst ht (dpAll_of hl p)
  | .obj .., _, _, p => by simp only [plainD] at p; cases p
theorem dpAll_of {H : Hp} : ∀ {ds : List D} {xs : List V}, RepL K ct H ds xs → plainL ds = true → DpAll K H xs (toPyL ds)
  | [], _, h, _ => by
    rw [h.of_nil]
    simp only [toPyL]
    exact .nil
  | d :: ds, _, h, p => by
    obtain ⟨y, ys, rfl, hd, hl⟩ := h.uncons
    simp only [plainL, Bool.and_eq_true] at p
    simp only [toPyL]
    exact .cons (dp_of hd p.1) (dpAll_of hl p.2)
end
def okD (d : D) : Bool := plainD d && SeqAt.shaped (toPy d)
def eqDeep (d e : D) : Bool := PyData.eqv (toPy d) (toPy e)
noncomputable def eqO (neg : Bool) : D → D → Option D
  | .int i, .int j => some (.bl (neg != decide (i = j)))
  | .str i, .str j => some (.bl (neg != decide (i = j)))
  | .bl i, .bl j => some (.bl (neg != decide (i = j)))
  | .non, .non => some (.bl (neg != true))
  | d, e => gd ((okD d && okD e) = true) (.bl (neg != eqDeep d e))
def rEqAny (K : PySem.W.Frag) : R2 := fun x y H Q => rEq x y H Q ∨ rEqD K x y H Q
def rNeAny (K : PySem.W.Frag) : R2 := fun x y H Q => rNe x y H Q ∨ rNeD K x y H Q
theorem deep_ok {H : Hp} {d : D} {v : V} (r : Rep K ct H d v) (h : okD d = true) : Dp K H v (toPy d) ∧ SeqAt.shaped (toPy d) = true := by
  unfold okD at h
  rw [Bool.and_eq_true] at h
  exact ⟨dp_of r h.1, h.2⟩
theorem V.dec_inj {α : Type} [DecidableEq α] {f : α → V} (hf : ∀ a b, f a = f b → a = b) (a b : α) : decide (f a = f b) = decide (a = b) := by
  by_cases h : a = b
  · rw [h, decide_eq_true rfl, decide_eq_true rfl]
  · rw [decide_eq_false h, decide_eq_false fun e => h (hf _ _ e)]
theorem eq_ok : Op2 K ct (rEqAny K) (eqO false) := fun HF H0 H ρ σ x y z v u Q S hx hy hz q => by
  unfold eqO at hz
  split at hz
  · cases hz
    rw [hx.int S, hy.int S]
    exact .inl ⟨rfl, by rw [V.dec_inj (f := V.int) fun _ _ e => V.int.inj e]; exact q _ _ _ (Same.refl _) S (by simp only [Rep, Bool.false_bne])⟩
  · cases hz
    rw [hx.str S, hy.str S]
    exact .inl ⟨rfl, by rw [V.dec_inj (f := V.str) fun _ _ e => V.str.inj e]; exact q _ _ _ (Same.refl _) S (by simp only [Rep, Bool.false_bne])⟩
  · cases hz
    rw [hx.bl S, hy.bl S]
    exact .inl ⟨rfl, by rw [V.dec_inj (f := V.bl) fun _ _ e => V.bl.inj e]; exact q _ _ _ (Same.refl _) S (by simp only [Rep, Bool.false_bne])⟩
  · cases hz
    rw [hx.non S, hy.non S]
    exact .inl ⟨rfl, q _ _ _ (Same.refl _) S (by simp only [Rep]; rfl)⟩
  · obtain ⟨hk, rfl⟩ := gd_some hz
    rw [Bool.and_eq_true] at hk
    obtain ⟨d1, s1⟩ := deep_ok (hx.full S) hk.1
    obtain ⟨d2, s2⟩ := deep_ok (hy.full S) hk.2
    exact .inr ⟨_, _, d1, d2, s1, s2, q _ _ _ (Same.refl _) S (by simp only [Rep, Bool.false_bne, eqDeep])⟩
theorem ne_ok : Op2 K ct (rNeAny K) (eqO true) := fun HF H0 H ρ σ x y z v u Q S hx hy hz q => by
  unfold eqO at hz
  split at hz
  · cases hz
    rw [hx.int S, hy.int S]
    exact .inl ⟨rfl, by rw [V.dec_inj (f := V.int) fun _ _ e => V.int.inj e]; exact q _ _ _ (Same.refl _) S (by simp only [Rep, Bool.true_bne])⟩
  · cases hz
    rw [hx.str S, hy.str S]
    exact .inl ⟨rfl, by rw [V.dec_inj (f := V.str) fun _ _ e => V.str.inj e]; exact q _ _ _ (Same.refl _) S (by simp only [Rep, Bool.true_bne])⟩
  · cases hz
    rw [hx.bl S, hy.bl S]
    exact .inl ⟨rfl, by rw [V.dec_inj (f := V.bl) fun _ _ e => V.bl.inj e]; exact q _ _ _ (Same.refl _) S (by simp only [Rep, Bool.true_bne])⟩
  · cases hz
    rw [hx.non S, hy.non S]
    exact .inl ⟨rfl, q _ _ _ (Same.refl _) S (by simp only [Rep]; rfl)⟩
  · obtain ⟨hk, rfl⟩ := gd_some hz
    rw [Bool.and_eq_true] at hk
    obtain ⟨d1, s1⟩ := deep_ok (hx.full S) hk.1
    obtain ⟨d2, s2⟩ := deep_ok (hy.full S) hk.2
    exact .inr ⟨_, _, d1, d2, s1, s2, q _ _ _ (Same.refl _) S (by simp only [Rep, Bool.true_bne, eqDeep])⟩
theorem op_eqAny {X : Cx} (hu : X.A.units + 64 < cLine) : OpR X (compareOp .Eq) (rEqAny X.K) := op_eq.or (op_eqD hu)
theorem op_neAny {X : Cx} (hu : X.A.units + 64 < cLine) : OpR X (compareOp .NotEq) (rNeAny X.K) := op_ne.or (op_neD hu)

/-! ### is None, is not None -/
def isNonD : D → Bool
  | .non => true
  | _ => false
def isN (neg : Bool) : D → D → Option D
  | x, .non => some (.bl (neg != isNonD x))
  | _, _ => none
theorem isNon {H : Hp} {d : D} {v : V} (r : Rep K ct H d v) : decide (v = .non) = isNonD d := by
  cases d with
  | non => simp only [Rep] at r; subst r; rfl
  | bl => simp only [Rep] at r; subst r; rfl
  | int => simp only [Rep] at r; subst r; rfl
  | str => simp only [Rep] at r; subst r; rfl
  | tup => simp only [Rep] at r; obtain ⟨a, xs, rfl, _⟩ := r; rfl
  | lst => simp only [Rep] at r; obtain ⟨a, xs, rfl, _⟩ := r; rfl
  | frl => simp only [Rep] at r; obtain ⟨a, xs, rfl, _⟩ := r; rfl
  | obj => simp only [Rep] at r; obtain ⟨a, dx, xs, rfl, _⟩ := r; rfl
theorem isN_ok : Op2 K ct (fun x y H Q => y = .non ∧ Q (.bl (decide (x = .non))) H) (isN false) := fun HF H0 H ρ σ x y z v u Q S hx hy hz q => by
  unfold isN at hz
  split at hz
  · cases hz
    refine ⟨hy.non S, ?_⟩
    rw [isNon (hx.full S)]
    exact q _ _ _ (Same.refl _) S (by simp only [Rep, Bool.false_bne])
  · cases hz
theorem notN_ok : Op2 K ct (fun x y H Q => y = .non ∧ Q (.bl (!decide (x = .non))) H) (isN true) := fun HF H0 H ρ σ x y z v u Q S hx hy hz q => by
  unfold isN at hz
  split at hz
  · cases hz
    refine ⟨hy.non S, ?_⟩
    rw [isNon (hx.full S)]
    exact q _ _ _ (Same.refl _) S (by simp only [Rep, Bool.true_bne])
  · cases hz

/-! ### in, not in -/
def flatD : D → Bool
  | .non => true | .bl _ => true | .int _ => true | .str _ => true | _ => false
/-- flat things in a list or a tuple; data in a list -/
noncomputable def inSq (neg : Bool) (x c : D) : Option D := match seqD c with
  | some ds => gd ((flatD x && ds.all flatD) = true) (.bl (neg != ds.any fun z => eqDeep z x))
  | none => none
noncomputable def inDeep (neg : Bool) (x : D) : D → Option D
  | .lst ds => gd ((okD x && okD (.lst ds)) = true) (.bl (neg != ds.any fun z => eqDeep z x))
  | _ => none
noncomputable def inD (neg : Bool) (x c : D) : Option D := match inSq neg x c with
  | some z => some z
  | none => inDeep neg x c
theorem flat_rep {H : Hp} {d : D} {v : V} (r : Rep K ct H d v) (f : flatD d = true) : flatV v = true := by
  cases d <;> simp only [Rep] at r <;> first | (subst r; rfl) | cases f
theorem eqV_rep {H : Hp} {d e : D} {v u : V} (r : Rep K ct H d v) (r' : Rep K ct H e u) (f : flatD d = true) (f' : flatD e = true) : eqV v u = eqDeep d e := by
  cases d <;> cases e <;> first | (exfalso; simp [flatD] at f; done) | (exfalso; simp [flatD] at f'; done) | (simp only [Rep] at r r'; subst r; subst r'; unfold eqDeep; simp only [toPy, PyData.eqv, eqV])
theorem inV_rep {H : Hp} {d : D} {v : V} (r : Rep K ct H d v) (f : flatD d = true) : ∀ {ds : List D} {xs : List V}, RepL K ct H ds xs → ds.all flatD = true → inV v xs = (ds.any fun z => eqDeep z d) ∧ xs.all flatV = true
  | [], _, h, _ => by
    rw [h.of_nil]
    exact ⟨rfl, rfl⟩
  | e :: ds, _, h, p => by
    obtain ⟨y, ys, rfl, hd, hl⟩ := h.uncons
    rw [List.all_cons, Bool.and_eq_true] at p
    obtain ⟨h1, h2⟩ := inV_rep r f hl p.2
    constructor
    · unfold inV at h1 ⊢
      rw [List.any_cons, List.any_cons, h1, eqV_rep hd r p.1 f]
    · rw [List.all_cons, flat_rep hd p.1, h2]
      rfl
theorem RepL.toPyL_any {x : D} : ∀ ds : List D, ((toPyL ds).any fun z => PyData.eqv z (toPy x)) = ds.any fun z => eqDeep z x
  | [] => rfl
  | d :: ds => by
    simp only [toPyL, List.any_cons, eqDeep]
    rw [RepL.toPyL_any ds]
    rfl
theorem inSq_ok (neg : Bool) : Op2 K ct (rIn K neg) (inSq neg) := fun HF H0 H ρ σ x y z v u Q S hx hy hz q => by
  unfold inSq at hz
  split at hz
  · rename_i ds hs
    obtain ⟨hf, rfl⟩ := gd_some hz
    rw [Bool.and_eq_true] at hf
    obtain ⟨a, xs, rfl, hq, r⟩ := hy.seq S hs
    obtain ⟨h1, h2⟩ := inV_rep (hx.full S) hf.1 (r.mono S.e0) hf.2
    refine ⟨a, xs, rfl, hq, flat_rep (hx.full S) hf.1, h2, ?_⟩
    rw [h1]
    cases neg
    · exact q _ _ _ (Same.refl _) S (by simp only [Rep, Bool.false_bne]; rfl)
    · exact q _ _ _ (Same.refl _) S (by simp only [Rep, Bool.true_bne]; rfl)
  · cases hz
theorem inDeep_ok : Op2 K ct (rInD K) (inDeep false) := fun HF H0 H ρ σ x y z v u Q S hx hy hz q => by
  unfold inDeep at hz
  split at hz
  · obtain ⟨hf, rfl⟩ := gd_some hz
    rw [Bool.and_eq_true] at hf
    obtain ⟨d1, s1⟩ := deep_ok (hx.full S) hf.1
    obtain ⟨d2, s2⟩ := deep_ok (hy.full S) hf.2
    refine ⟨_, _, d1, by simpa only [toPy] using d2, s1, by simpa only [toPy] using s2, ?_⟩
    rw [RepL.toPyL_any]
    exact q _ _ _ (Same.refl _) S (by simp only [Rep, Bool.false_bne])
  · cases hz
theorem notInDeep_ok : Op2 K ct (rNotInD K) (inDeep true) := fun HF H0 H ρ σ x y z v u Q S hx hy hz q => by
  unfold inDeep at hz
  split at hz
  · obtain ⟨hf, rfl⟩ := gd_some hz
    rw [Bool.and_eq_true] at hf
    obtain ⟨d1, s1⟩ := deep_ok (hx.full S) hf.1
    obtain ⟨d2, s2⟩ := deep_ok (hy.full S) hf.2
    refine ⟨_, _, d1, by simpa only [toPy] using d2, s1, by simpa only [toPy] using s2, ?_⟩
    rw [RepL.toPyL_any]
    exact q _ _ _ (Same.refl _) S (by simp only [Rep, Bool.true_bne])
  · cases hz
def rInAny (K : PySem.W.Frag) : R2 := fun x y H Q => rIn K false x y H Q ∨ rInD K x y H Q
def rNotInAny (K : PySem.W.Frag) : R2 := fun x y H Q => rIn K true x y H Q ∨ rNotInD K x y H Q
theorem inD_cases {neg : Bool} {x c z : D} (h : inD neg x c = some z) : inSq neg x c = some z ∨ inDeep neg x c = some z := by
  unfold inD at h
  split at h
  · cases h
    exact .inl (by assumption)
  · exact .inr h
theorem in_ok : Op2 K ct (rInAny K) (inD false) := Op2.or (inSq_ok false) inDeep_ok fun _ _ _ => inD_cases
theorem notIn_ok : Op2 K ct (rNotInAny K) (inD true) := Op2.or (inSq_ok true) notInDeep_ok fun _ _ _ => inD_cases
theorem op_inAny {X : Cx} (hu : X.A.units + 65 < cLine) : OpR X (compareOp .In) (rInAny X.K) := op_in_seq.or (op_inD hu)
theorem op_notInAny {X : Cx} (hu : X.A.units + 65 < cLine) : OpR X (compareOp .NotIn) (rNotInAny X.K) := op_notIn_seq.or (op_notInD hu)
def negD : D → Option D
  | .int i => some (.int (-i))
  | _ => none
theorem neg_ok : Op1 K ct (rU fun i => .int (-i)) negD := fun HF H0 H ρ σ x z v Q S hx hz q => by
  unfold negD at hz
  split at hz
  · cases hz
    exact ⟨_, hx.int S, q _ _ _ (Same.refl _) S (by simp only [Rep])⟩
  · cases hz
end
end PD

/-! Displays, subscripts, slices, calls of built-ins, attributes. -/
namespace PD
open PySem PySem.Spec PyProof.Rows L2

section
variable {X : Cx} {ct : Nat → Addr} {e a b c : Expr} {es : List Expr} {pos : Pos} {fa fb fc : Env → Option D}
/-! ### arguments, displays -/
def aNil : Env → Option (List D) := fun _ => some []
def aCons (fa : Env → Option D) (fr : Env → Option (List D)) : Env → Option (List D) := fun ρ => (fa ρ).bind fun x => (fr ρ).bind fun xs => some (x :: xs)
theorem a_nil : PA X [] (tAr X.K ct aNil) := pa_nil.weak fun σ H Q => by
  rintro ⟨HF, H0, ρ, ds, S, hf, q⟩
  cases hf
  exact q [] H0 H (Same.refl _) S RepL.nil
theorem a_cons {fr : Env → Option (List D)} (ha : PE X e (tD X.K ct fa)) (hr : PA X es (tAr X.K ct fr)) (hs : starEach (e :: es) X.env = (false, eval e X.env) :: starEach es X.env := by rfl) : PA X (e :: es) (tAr X.K ct (aCons fa fr)) :=
  (pa_cons ha hr hs).weak fun σ H Q => by
    rintro ⟨HF, H0, ρ, ds, S, hf, q⟩
    obtain ⟨x, hx, hf⟩ := bind_some hf
    obtain ⟨xs, hxs, hz⟩ := bind_some hf
    cases hz
    exact ⟨HF, H0, ρ, x, S, hx, fun v H1 H' e1 S1 r1 => ⟨HF, H1, ρ, xs, S1, hxs, fun vs H2 H'' e2 S2 r2 => q (v :: vs) H2 H'' (e1.trans e2) S2 (RepL.cons (r1.mono e2) r2)⟩⟩
noncomputable def fTup (f : Env → Option (List D)) : Env → Option D := fun ρ => (f ρ).bind fun ds => gd (ds.length ≤ sizeLine) (.tup ds)
noncomputable def fLst (f : Env → Option (List D)) : Env → Option D := fun ρ => (f ρ).bind fun ds => gd (ds.length ≤ sizeLine) (.lst ds)
theorem e_tup {k : Nat} {f : Env → Option (List D)} (h : PA X es (tAr X.K ct f)) : PE X (.Tuple es k pos) (tD X.K ct (fTup f)) := (pe_tup h).weak fun σ H Q => by
  rintro ⟨HF, H0, ρ, d, S, hf, q⟩
  obtain ⟨ds, hds, hf⟩ := bind_some hf
  refine ⟨HF, H0, ρ, ds, S, hds, fun vs H1 H' e1 S1 r1 => ?_⟩
  obtain ⟨hl, rfl⟩ := gd_some hf
  refine ⟨by rw [r1.length]; exact hl, fun p hp => ?_⟩
  obtain ⟨e2, S2, r2⟩ := S1.newTup hp r1
  exact q _ _ _ (e1.trans e2) S2 r2
theorem o_lst {f : Env → Option (List D)} (h : PA X es (tAr X.K ct f)) : PE X (.List es pos) (tO X.K ct (fLst f)) := (pe_lst h).weak fun σ H Q => by
  rintro ⟨HF, H0, ρ, d, S, hf, q⟩
  obtain ⟨ds, hds, hf⟩ := bind_some hf
  refine ⟨HF, H0, ρ, ds, S, hds, fun vs H1 H' e1 S1 r1 => ?_⟩
  obtain ⟨hl, rfl⟩ := gd_some hf
  refine ⟨by rw [r1.length]; exact hl, fun p hp => ?_⟩
  obtain ⟨S2, F⟩ := S1.fresh (d := .lst ds) (o := .lst vs) hp r1
  exact q _ _ _ _ e1 S2 F

/-! ### subscripts -/
noncomputable def ixD : D → D → Option D
  | .lst ds, .int i => atI ds i
  | .tup ds, .int i => atI ds i
  | .frl ds, .int i => atI ds i
  | .str z, .int i => (gd (z.length ≤ sizeLine) z).bind fun z => (atI z.cps.toList i).map fun c => .str ⟨#[c]⟩
  | _, _ => none
theorem RepL.at {K : PySem.W.Frag} {H : Hp} {ds : List D} {xs : List V} {i : Int} {d : D} (h : RepL K ct H ds xs) (e : atI ds i = some d) : ∃ v, atI xs i = some v ∧ Rep K ct H d v := by
  unfold atI at e ⊢
  rw [h.length]
  obtain ⟨j, hj, hd⟩ := bind_some e
  obtain ⟨v, hv, r⟩ := h.get hd
  exact ⟨v, by rw [hj]; exact hv, r⟩
theorem ix_ok {K : PySem.W.Frag} : Op2 K ct (rIx K) ixD := fun HF H0 H ρ σ x y z v u Q S hx hy hz q => by
  unfold ixD at hz
  split at hz
  · obtain ⟨p, xs, rfl, hp, r⟩ := hx.lst S
    obtain ⟨w, hw, rw⟩ := r.at hz
    exact .inl ⟨p, xs, _, w, rfl, hy.int S, SqL.of hp, hw, q _ _ _ (Same.refl _) S rw⟩
  · obtain ⟨p, xs, rfl, hp, r⟩ := hx.tup S
    obtain ⟨w, hw, rw⟩ := r.at hz
    exact .inr (.inl ⟨p, xs, _, w, rfl, hy.int S, hp, hw, q _ _ _ (Same.refl _) S rw⟩)
  · obtain ⟨p, xs, rfl, hp, r⟩ := hx.frl S
    obtain ⟨w, hw, rw⟩ := r.at hz
    exact .inl ⟨p, xs, _, w, rfl, hy.int S, hp, hw, q _ _ _ (Same.refl _) S rw⟩
  · obtain ⟨w, hw, hz⟩ := bind_some hz
    obtain ⟨hl, rfl⟩ := gd_some hw
    cases hc : atI _ _ with
    | none => rw [hc] at hz; cases hz
    | some c =>
      rw [hc] at hz
      cases hz
      exact .inr (.inr ⟨_, _, c, hx.str S, hy.int S, hl, hc, q _ _ _ (Same.refl _) S (by simp only [Rep])⟩)
  · cases hz
theorem e_ix (ha : PE X a (tBo X.K ct fa)) (hb : PE X b (tBo X.K ct fb)) (hs : PlainIx b := by exact fun _ _ => rfl) : PE X (.Subscript a b pos) (tD X.K ct (f2 fa fb ixD)) := (pe_ix ix_seq ha hb hs).weak fun _ _ _ => two ix_ok

/-! ### slices -/
def tPo (K : PySem.W.Frag) (ct : Nat → Addr) (f : Env → Option (Option Int)) : TO := fun σ H Q => ∃ HF H0 ρ o, StOk K ct HF H0 H ρ σ ∧ f ρ = some o ∧ ∀ H0' H', Same H0 H0' → StOk K ct HF H0' H' ρ σ → Q o H'
theorem _root_.L2.PO.weak {e : Option Expr} {t t' : TO} (h : PO X e t) (w : ∀ σ H Q, t' σ H Q → t σ H Q) : PO X e t' := ⟨fun pins s σ H Q I q => h.run pins s σ H Q I (w _ _ _ q)⟩
def pNone : Env → Option (Option Int) := fun _ => some none
def pSome (f : Env → Option D) : Env → Option (Option Int) := fun ρ => match f ρ with
  | some (.int i) => some (some i)
  | _ => none
theorem p_none : PO X none (tPo X.K ct pNone) := po_none.weak fun σ H Q => by
  rintro ⟨HF, H0, ρ, o, S, hf, q⟩
  cases hf
  exact q H0 H (Same.refl _) S
theorem p_some (h : PE X e (tBo X.K ct fa)) : PO X (some e) (tPo X.K ct (pSome fa)) := (po_some h).weak fun σ H Q => by
  rintro ⟨HF, H0, ρ, o, S, hf, q⟩
  unfold pSome at hf
  split at hf
  · rename_i i hi
    cases hf
    exact ⟨HF, H0, ρ, _, S, hi, fun v H1 H' e1 S1 r1 => ⟨i, r1.int S1, q H1 H' e1 S1⟩⟩
  · cases hf
def cutL {α : Type} (xs : List α) (lo hi : Option Int) : List α := (xs.drop (HT.sIx xs.length 0 lo)).take (HT.sIx xs.length xs.length hi - HT.sIx xs.length 0 lo)
theorem RepL.cut {K : PySem.W.Frag} {H : Hp} {ds : List D} {xs : List V} (h : RepL K ct H ds xs) (lo hi : Option Int) : RepL K ct H (cutL ds lo hi) (cutV xs lo hi) := by
  unfold cutL cutV
  rw [h.length]
  exact (h.drop _).take _
def fSl (fa : Env → Option D) (fl fh : Env → Option (Option Int)) (g : D → Option Int → Option Int → Option D) : Env → Option D := fun ρ => (fa ρ).bind fun x => (fl ρ).bind fun l => (fh ρ).bind fun h => g x l h
/-- a slice: of a tuple or a text -/
noncomputable def slD : D → Option Int → Option Int → Option D
  | .tup ds, l, h => some (.tup (cutL ds l h))
  | .str z, l, h => gd (z.length ≤ sizeLine) (.str (cutS z l h))
  | .lst ds, l, h => some (.lst (cutL ds l h))
  | .frl ds, l, h => some (.lst (cutL ds l h))
  | _, _, _ => none
def slL : D → Option Int → Option Int → Option D
  | .lst ds, l, h => some (.lst (cutL ds l h))
  | .frl ds, l, h => some (.lst (cutL ds l h))
  | _, _, _ => none
theorem sl_run {K : PySem.W.Frag} {r : V → Option Int → Option Int → Hp → VK → Prop} {g : D → Option Int → Option Int → Option D} {fl fh : Env → Option (Option Int)}
    (hg : ∀ (HF H0 H : Hp) (ρ : Env) (σ : L2.St) (x z : D) (v : V) (lo hi : Option Int) (Q : VK), StOk K ct HF H0 H ρ σ → BRep K ct ρ σ H0 x v → g x lo hi = some z →
      (∀ w H0' H', Same H0 H0' → StOk K ct HF H0' H' ρ σ → Rep K ct H0' z w → Q w H') → r v lo hi H Q) {σ : L2.St} {H : Hp} {Q : VK} (h : tD K ct (fSl fa fl fh g) σ H Q) : tSl r (tBo K ct fa) (tPo K ct fl) (tPo K ct fh) σ H Q := by
  obtain ⟨HF, H0, ρ, z, S, hf, q⟩ := h
  obtain ⟨x, hx, hf⟩ := bind_some hf
  obtain ⟨l, hl, hf⟩ := bind_some hf
  obtain ⟨u, hu, hz⟩ := bind_some hf
  refine ⟨HF, H0, ρ, x, S, hx, fun v H1 H' e1 S1 r1 => ⟨HF, H1, ρ, l, S1, hl, fun H2 H'' e2 S2 => ⟨HF, H2, ρ, u, S2, hu, fun H3 H3' e3 S3 => ?_⟩⟩⟩
  exact hg HF H3 H3' ρ σ x z v l u Q S3 ((r1.mono e2).mono e3) hz fun w H4 H4' e4 S4 r4 => q w H4 H4' (((e1.trans e2).trans e3).trans e4) S4 r4
theorem sl_runO {K : PySem.W.Frag} {r : V → Option Int → Option Int → Hp → VK → Prop} {g : D → Option Int → Option Int → Option D} {fl fh : Env → Option (Option Int)}
    (hg : ∀ (HF H0 H : Hp) (ρ : Env) (σ : L2.St) (x z : D) (v : V) (lo hi : Option Int) (Q : VK), StOk K ct HF H0 H ρ σ → BRep K ct ρ σ H0 x v → g x lo hi = some z →
      (∀ p o H0' H', Same H0 H0' → StOk K ct HF H0' H' ρ σ → Fresh K ct HF H0' H' ρ σ p z o → Q (.ref p) H') → r v lo hi H Q) {σ : L2.St} {H : Hp} {Q : VK} (h : tO K ct (fSl fa fl fh g) σ H Q) : tSl r (tBo K ct fa) (tPo K ct fl) (tPo K ct fh) σ H Q := by
  obtain ⟨HF, H0, ρ, z, S, hf, q⟩ := h
  obtain ⟨x, hx, hf⟩ := bind_some hf
  obtain ⟨l, hl, hf⟩ := bind_some hf
  obtain ⟨u, hu, hz⟩ := bind_some hf
  refine ⟨HF, H0, ρ, x, S, hx, fun v H1 H' e1 S1 r1 => ⟨HF, H1, ρ, l, S1, hl, fun H2 H'' e2 S2 => ⟨HF, H2, ρ, u, S2, hu, fun H3 H3' e3 S3 => ?_⟩⟩⟩
  exact hg HF H3 H3' ρ σ x z v l u Q S3 ((r1.mono e2).mono e3) hz fun w o H4 H4' e4 S4 r4 => q w o H4 H4' (((e1.trans e2).trans e3).trans e4) S4 r4
theorem slL_ok {K : PySem.W.Frag} (HF H0 H : Hp) (ρ : Env) (σ : L2.St) (x z : D) (v : V) (lo hi : Option Int) (Q : VK) (S : StOk K ct HF H0 H ρ σ) (hx : BRep K ct ρ σ H0 x v) (hz : slL x lo hi = some z)
    (q : ∀ p o H0' H', Same H0 H0' → StOk K ct HF H0' H' ρ σ → Fresh K ct HF H0' H' ρ σ p z o → Q (.ref p) H') : rSlL K v lo hi H Q := by
  have hs : ∃ ds, seqD x = some ds ∧ z = .lst (cutL ds lo hi) ∧ ∃ a xs, v = .ref a ∧ SqL K H a xs ∧ RepL K ct H0 ds xs := by
    unfold slL at hz
    split at hz
    · cases hz
      obtain ⟨p, xs, h1, h2, h3⟩ := hx.lst S
      exact ⟨_, rfl, rfl, p, xs, h1, SqL.of h2, h3⟩
    · cases hz
      obtain ⟨p, xs, h1, h2, h3⟩ := hx.frl S
      exact ⟨_, rfl, rfl, p, xs, h1, h2, h3⟩
    · cases hz
  obtain ⟨ds, _, rfl, a, xs, rfl, h2, h3⟩ := hs
  refine ⟨a, xs, rfl, h2, fun p hp => ?_⟩
  obtain ⟨S2, F⟩ := S.fresh (d := .lst _) (o := .lst _) hp (h3.cut lo hi)
  exact q _ _ _ _ (Same.refl _) S2 F
theorem o_slice {p2 : Pos} {lo hi : Option Expr} {fl fh : Env → Option (Option Int)} (he : PE X e (tBo X.K ct fa)) (hl : PO X lo (tPo X.K ct fl)) (hh : PO X hi (tPo X.K ct fh)) :
    PE X (.Subscript e (.Slice lo hi none p2) pos) (tO X.K ct (fSl fa fl fh slL)) := (pe_slice sl_list he hl hh).weak fun _ _ _ => sl_runO slL_ok
def rSlAny (K : PySem.W.Frag) : V → Option Int → Option Int → Hp → VK → Prop := fun x lo hi H Q => rSlL K x lo hi H Q ∨ (rSlA K x lo hi H Q ∨ rSlS x lo hi H Q)
theorem slD_ok {K : PySem.W.Frag} (HF H0 H : Hp) (ρ : Env) (σ : L2.St) (x z : D) (v : V) (lo hi : Option Int) (Q : VK) (S : StOk K ct HF H0 H ρ σ) (hx : BRep K ct ρ σ H0 x v) (hz : slD x lo hi = some z)
    (q : ∀ w H0' H', Same H0 H0' → StOk K ct HF H0' H' ρ σ → Rep K ct H0' z w → Q w H') : rSlAny K v lo hi H Q := by
  have viaL : slL x lo hi = some z → rSlAny K v lo hi H Q := fun h => .inl (slL_ok HF H0 H ρ σ x z v lo hi Q S hx h fun p o H0' H' e1 S1 F => by
    obtain ⟨e2, S2, r⟩ := F.give S1
    exact q _ _ _ (e1.trans e2) S2 r)
  cases x with
  | tup ds =>
    simp only [slD] at hz
    cases hz
    obtain ⟨p, xs, rfl, hp, r⟩ := hx.tup0 S
    refine .inr (.inl ⟨p, xs, rfl, same_sqt S.e0 hp, fun hw => ?_, fun hw t ht => ?_⟩)
    · have ec : cutL ds lo hi = ds := by
        unfold cutL
        rw [← r.length, hw.1, hw.2, List.drop_zero, r.length, Nat.sub_zero, List.take_length]
      rw [ec] at q
      exact q _ _ _ (Same.refl _) S (by simp only [Rep]; exact ⟨p, xs, rfl, hp, r⟩)
    · obtain ⟨e2, S2, r2⟩ := S.newTup ht (r.cut lo hi)
      exact q _ _ _ e2 S2 r2
  | str y =>
    simp only [slD] at hz
    obtain ⟨hl, rfl⟩ := gd_some hz
    exact .inr (.inr ⟨_, hx.str S, hl, q _ _ _ (Same.refl _) S (by simp only [Rep])⟩)
  | lst ds => exact viaL hz
  | frl ds => exact viaL hz
  | _ => cases hz
theorem e_slice {p2 : Pos} {lo hi : Option Expr} {fl fh : Env → Option (Option Int)} (he : PE X e (tBo X.K ct fa)) (hl : PO X lo (tPo X.K ct fl)) (hh : PO X hi (tPo X.K ct fh)) :
    PE X (.Subscript e (.Slice lo hi none p2) pos) (tD X.K ct (fSl fa fl fh slD)) := (pe_slice (sl_list.or (sl_tupA.or sl_str)) he hl hh).weak fun _ _ _ => sl_run slD_ok
/-- xs[::-1] -/
def revD : D → Option D
  | .lst ds => some (.lst ds.reverse)
  | .frl ds => some (.lst ds.reverse)
  | _ => none
theorem o_rev {k : Nat} {p1 p2 p3 : Pos} (he : PE X e (tBo X.K ct fa)) : PE X (.Subscript e (.Slice none none (some (.UnaryOp .USub (.Constant (.int 1) k p1) p2)) p3) pos) (tO X.K ct (f1 fa revD)) := (pe_revL he).weak fun σ H Q => by
  rintro ⟨HF, H0, ρ, z, S, hf, q⟩
  obtain ⟨x, hx, hz⟩ := bind_some hf
  refine ⟨HF, H0, ρ, x, S, hx, fun v H1 H' e1 S1 r1 => ?_⟩
  have hs : ∃ ds, z = .lst ds.reverse ∧ ∃ a xs, v = .ref a ∧ SqL X.K H' a xs ∧ RepL X.K ct H1 ds xs := by
    unfold revD at hz
    split at hz
    · cases hz
      obtain ⟨p, xs, h1, h2, h3⟩ := r1.lst S1
      exact ⟨_, rfl, p, xs, h1, SqL.of h2, h3⟩
    · cases hz
      obtain ⟨p, xs, h1, h2, h3⟩ := r1.frl S1
      exact ⟨_, rfl, p, xs, h1, h2, h3⟩
    · cases hz
  obtain ⟨ds, rfl, a, xs, rfl, h2, h3⟩ := hs
  refine ⟨a, xs, rfl, h2, fun p hp => ?_⟩
  obtain ⟨S2, F⟩ := S1.fresh (d := .lst _) (o := .lst _) hp h3.reverse
  exact q _ _ _ _ e1 S2 F

/-! ### built-ins of one argument, of two -/
def Fn1 (K : PySem.W.Frag) (ct : Nat → Addr) (r : List V → Hp → VK → Prop) (g : D → Option D) : Prop := Op1 K ct (fun x H Q => r [x] H Q) g
def Fn1O (K : PySem.W.Frag) (ct : Nat → Addr) (r : List V → Hp → VK → Prop) (g : D → Option D) : Prop := Op1O K ct (fun x H Q => r [x] H Q) g
def Fn2 (K : PySem.W.Frag) (ct : Nat → Addr) (r : List V → Hp → VK → Prop) (g : D → D → Option D) : Prop := Op2 K ct (fun x y H Q => r [x, y] H Q) g
section
variable {x : Str} {p : Pos} {id T : String} {r : List V → Hp → VK → Prop} {g : D → Option D} {g2 : D → D → Option D}
theorem e_fn1 (hc : CallR X (.builtin id) r) (hg : Fn1 X.K ct r g) (hgl : Gl X x) (hm : X.mg x = none) (hv : bootBuiltins x = some (.builtin id)) (ha : PE X a (tBo X.K ct fa)) (hs : starEach [a] X.env = (false, eval a X.env) :: starEach [] X.env := by rfl) (hn : x ≠ "__name__" := by decide +kernel)
    (hdb : (x == ("__debug__" : Str)) = false := by decide +kernel) : PE X (.Call (.Name x p) [a] [] pos) (tD X.K ct (f1 fa g)) := (pe_callB hc hgl hm hv (pa_cons ha pa_nil hs) hn hdb hs (by rfl)).weak fun _ _ _ => one hg
theorem o_fn1 (hc : CallR X (.builtin id) r) (hg : Fn1O X.K ct r g) (hgl : Gl X x) (hm : X.mg x = none) (hv : bootBuiltins x = some (.builtin id)) (ha : PE X a (tBo X.K ct fa)) (hs : starEach [a] X.env = (false, eval a X.env) :: starEach [] X.env := by rfl) (hn : x ≠ "__name__" := by decide +kernel)
    (hdb : (x == ("__debug__" : Str)) = false := by decide +kernel) : PE X (.Call (.Name x p) [a] [] pos) (tO X.K ct (f1 fa g)) := (pe_callB hc hgl hm hv (pa_cons ha pa_nil hs) hn hdb hs (by rfl)).weak fun _ _ _ => oneO hg
theorem e_ty1 (hc : CallR X (.type T) r) (hg : Fn1 X.K ct r g) (hgl : Gl X x) (hm : X.mg x = none) (hv : bootBuiltins x = some (.type T)) (ha : PE X a (tBo X.K ct fa)) (hs : starEach [a] X.env = (false, eval a X.env) :: starEach [] X.env := by rfl) (hn : x ≠ "__name__" := by decide +kernel)
    (hdb : (x == ("__debug__" : Str)) = false := by decide +kernel) : PE X (.Call (.Name x p) [a] [] pos) (tD X.K ct (f1 fa g)) := (pe_callTy hc hgl hm hv (pa_cons ha pa_nil hs) hn hdb hs (by rfl)).weak fun _ _ _ => one hg
theorem o_ty1 (hc : CallR X (.type T) r) (hg : Fn1O X.K ct r g) (hgl : Gl X x) (hm : X.mg x = none) (hv : bootBuiltins x = some (.type T)) (ha : PE X a (tBo X.K ct fa)) (hs : starEach [a] X.env = (false, eval a X.env) :: starEach [] X.env := by rfl) (hn : x ≠ "__name__" := by decide +kernel)
    (hdb : (x == ("__debug__" : Str)) = false := by decide +kernel) : PE X (.Call (.Name x p) [a] [] pos) (tO X.K ct (f1 fa g)) := (pe_callTy hc hgl hm hv (pa_cons ha pa_nil hs) hn hdb hs (by rfl)).weak fun _ _ _ => oneO hg
theorem e_fn2 (hc : CallR X (.builtin id) r) (hg : Fn2 X.K ct r g2) (hgl : Gl X x) (hm : X.mg x = none) (hv : bootBuiltins x = some (.builtin id)) (ha : PE X a (tBo X.K ct fa)) (hb : PE X b (tBo X.K ct fb)) (hs : starEach [a, b] X.env = (false, eval a X.env) :: starEach [b] X.env := by rfl)
    (hs2 : starEach [b] X.env = (false, eval b X.env) :: starEach [] X.env := by rfl) (hpl : (backTo pos (starEach [b] X.env)).any (·.1) = false := by rfl) (hn : x ≠ "__name__" := by decide +kernel) (hdb : (x == ("__debug__" : Str)) = false := by decide +kernel) :
    PE X (.Call (.Name x p) [a, b] [] pos) (tD X.K ct (f2 fa fb g2)) := (pe_callB hc hgl hm hv (pa_cons ha (pa_cons hb pa_nil hs2) hs) hn hdb hs hpl).weak fun _ _ _ => two hg
end
section
variable {K : PySem.W.Frag}
noncomputable def lenD : D → Option D
  | .lst ds => some (.int (ds.length : Nat))
  | .frl ds => some (.int (ds.length : Nat))
  | .tup ds => some (.int (ds.length : Nat))
  | .str z => gd (z.length ≤ sizeLine) (.int (z.length : Nat))
  | _ => none
theorem len_ok : Fn1 K ct (fun xs H Q => ∃ x n, xs = [x] ∧ LenV K x H n ∧ Q (.int (n : Nat)) H) lenD := fun HF H0 H ρ σ x z v Q S hx hz q => by
  have hs : ∀ ds, seqD x = some ds → z = .int (ds.length : Nat) → ∃ x n, [v] = [x] ∧ LenV K x H n ∧ Q (.int (n : Nat)) H := fun ds e hk => by
    obtain ⟨a, xs, rfl, h, r⟩ := hx.seq S e
    refine ⟨.ref a, xs.length, rfl, ?_, ?_⟩
    · rcases h with h | h
      · exact .inl ⟨xs, h, rfl⟩
      · exact .inr ⟨xs, h, rfl⟩
    · rw [r.length]
      subst hk
      exact q _ _ _ (Same.refl _) S (by simp only [Rep])
  unfold lenD at hz
  split at hz
  · cases hz; exact hs _ rfl rfl
  · cases hz; exact hs _ rfl rfl
  · cases hz; exact hs _ rfl rfl
  · obtain ⟨hl, rfl⟩ := gd_some hz
    rw [hx.str S]
    exact ⟨_, _, rfl, ⟨hl, rfl⟩, q _ _ _ (Same.refl _) S (by simp only [Rep])⟩
  · cases hz
def listD (x : D) : Option D := (seqD x).map .lst
theorem list_ok : Fn1O K ct (fun xs H Q => ∃ p ys, xs = [.ref p] ∧ (SqL K H p ys ∨ SqT K H p ys) ∧ ∀ l, H l = none → Q (.ref l) (upd H l (.lst ys))) listD := fun HF H0 H ρ σ x z v Q S hx hz q => by
  unfold listD at hz
  cases hs : seqD x with
  | none => rw [hs] at hz; cases hz
  | some ds =>
    rw [hs] at hz
    cases hz
    obtain ⟨a, xs, rfl, h, r⟩ := hx.seq S hs
    refine ⟨a, xs, rfl, h, fun l hl => ?_⟩
    obtain ⟨S2, F⟩ := S.fresh (d := .lst ds) (o := .lst xs) hl r
    exact q _ _ _ _ (Same.refl _) S2 F
def tupleD (x : D) : Option D := (seqD x).map .tup
theorem tuple_ok : Fn1 K ct (fun xs H Q => ∃ p ys, xs = [.ref p] ∧ ((SqL K H p ys ∧ ∀ l, H l = none → Q (.ref l) (upd H l (.tup ys))) ∨ (SqT K H p ys ∧ Q (.ref p) H))) tupleD := fun HF H0 H ρ σ x z v Q S hx hz q => by
  unfold tupleD at hz
  have viaL : ∀ ds a xs, v = .ref a → SqL K H a xs → RepL K ct H0 ds xs → z = .tup ds → ∃ p ys, [v] = [V.ref p] ∧ ((SqL K H p ys ∧ ∀ l, H l = none → Q (.ref l) (upd H l (.tup ys))) ∨ (SqT K H p ys ∧ Q (.ref p) H)) := fun ds a xs e1 h r e2 => by
    subst e1 e2
    refine ⟨a, xs, rfl, .inl ⟨h, fun l hl => ?_⟩⟩
    obtain ⟨e2, S2, r2⟩ := S.newTup hl r
    exact q _ _ _ e2 S2 r2
  cases x with
  | lst ds =>
    cases hz
    obtain ⟨a, xs, h1, h2, h3⟩ := hx.lst S
    exact viaL ds a xs h1 (SqL.of h2) h3 rfl
  | frl ds =>
    cases hz
    obtain ⟨a, xs, h1, h2, h3⟩ := hx.frl S
    exact viaL ds a xs h1 h2 h3 rfl
  | tup ds =>
    cases hz
    obtain ⟨a, xs, rfl, h2, h3⟩ := hx.tup0 S
    exact ⟨a, xs, rfl, .inr ⟨same_sqt S.e0 h2, q _ _ _ (Same.refl _) S (by simp only [Rep]; exact ⟨a, xs, rfl, h2, h3⟩)⟩⟩
  | _ => cases hz
def toIntD : D → Option D
  | .int i => some (.int i)
  | .bl b => some (.int (if b then 1 else 0))
  | _ => none
theorem toInt_ok : Fn1 K ct (fun xs H Q => (∃ i, xs = [.int i] ∧ Q (.int i) H) ∨ ∃ k, xs = [.bl k] ∧ Q (.int (if k then 1 else 0)) H) toIntD := fun HF H0 H ρ σ x z v Q S hx hz q => by
  unfold toIntD at hz
  split at hz
  · cases hz
    exact .inl ⟨_, by rw [hx.int S], q _ _ _ (Same.refl _) S (by simp only [Rep])⟩
  · cases hz
    exact .inr ⟨_, by rw [hx.bl S], q _ _ _ (Same.refl _) S (by simp only [Rep])⟩
  · cases hz
noncomputable def toStrD : D → Option D
  | .int i => gd (i.natAbs.log2 < 1920) (.str (toString i))
  | _ => none
theorem toStr_ok : Fn1 K ct (fun xs H Q => ∃ i, xs = [.int i] ∧ i.natAbs.log2 < 1920 ∧ Q (.str (toString i)) H) toStrD := fun HF H0 H ρ σ x z v Q S hx hz q => by
  unfold toStrD at hz
  split at hz
  · obtain ⟨hl, rfl⟩ := gd_some hz
    exact ⟨_, by rw [hx.int S], hl, q _ _ _ (Same.refl _) S (by simp only [Rep])⟩
  · cases hz
def max2D : D → D → Option D := intD0 fun i j => .int (if j > i then j else i)
def min2D : D → D → Option D := intD0 fun i j => .int (if j < i then j else i)
theorem max2_ok : Fn2 K ct (fun xs H Q => ∃ i j, xs = [.int i, .int j] ∧ Q (.int (if j > i then j else i)) H) max2D := fun HF H0 H ρ σ x y z v u Q S hx hy hz q => by
  obtain ⟨i, j, rfl, rfl, hc, rfl⟩ := intD0_some hz
  exact ⟨i, j, by rw [hx.int S, hy.int S], q _ _ _ (Same.refl _) S (by simp only [Rep])⟩
theorem min2_ok : Fn2 K ct (fun xs H Q => ∃ i j, xs = [.int i, .int j] ∧ Q (.int (if j < i then j else i)) H) min2D := fun HF H0 H ρ σ x y z v u Q S hx hy hz q => by
  obtain ⟨i, j, rfl, rfl, hc, rfl⟩ := intD0_some hz
  exact ⟨i, j, by rw [hx.int S, hy.int S], q _ _ _ (Same.refl _) S (by simp only [Rep])⟩
/-- the ints | the texts of a list -/
def intsOf : List D → Option (List Int)
  | [] => some []
  | .int i :: ds => (intsOf ds).map (i :: ·)
  | _ :: _ => none
def strsOf : List D → Option (List Str)
  | [] => some []
  | .str i :: ds => (strsOf ds).map (i :: ·)
  | _ :: _ => none
theorem intsOf_some : ∀ {ds : List D} {ns : List Int}, intsOf ds = some ns → ds = ns.map D.int
  | [], _, h => by cases h; rfl
  | d :: ds, ns, h => by
    cases d with
    | int i =>
      simp only [intsOf] at h
      cases e : intsOf ds with
      | none => rw [e] at h; cases h
      | some ms =>
        rw [e] at h
        cases h
        rw [intsOf_some e]
        rfl
    | _ => simp only [intsOf] at h; cases h
theorem strsOf_some : ∀ {ds : List D} {ns : List Str}, strsOf ds = some ns → ds = ns.map D.str
  | [], _, h => by cases h; rfl
  | d :: ds, ns, h => by
    cases d with
    | str i =>
      simp only [strsOf] at h
      cases e : strsOf ds with
      | none => rw [e] at h; cases h
      | some ms =>
        rw [e] at h
        cases h
        rw [strsOf_some e]
        rfl
    | _ => simp only [strsOf] at h; cases h
theorem intsOf_map : ∀ ns : List Int, intsOf (ns.map D.int) = some ns
  | [] => rfl
  | n :: ns => by simp only [List.map_cons, intsOf, intsOf_map ns, Option.map_some]
theorem strsOf_map : ∀ ns : List Str, strsOf (ns.map D.str) = some ns
  | [] => rfl
  | n :: ns => by simp only [List.map_cons, strsOf, strsOf_map ns, Option.map_some]
/-- max, min of a list of ints -/
def maxL : List Int → Option Int
  | [] => none
  | n :: ns => some (ns.foldl (fun a b => if a < b then b else a) n)
def minL : List Int → Option Int
  | [] => none
  | n :: ns => some (ns.foldl (fun a b => if b < a then b else a) n)
theorem foldl_max : ∀ (ns : List Int) (a : Int), (ns.foldl (fun a b => if a < b then b else a) a = a ∨ ns.foldl (fun a b => if a < b then b else a) a ∈ ns) ∧ a ≤ ns.foldl (fun a b => if a < b then b else a) a ∧ ∀ y ∈ ns, y ≤ ns.foldl (fun a b => if a < b then b else a) a
  | [], a => ⟨.inl rfl, Int.le_refl _, fun y h => by cases h⟩
  | n :: ns, a => by
    simp only [List.foldl_cons]
    obtain ⟨h1, h2, h3⟩ := foldl_max ns (if a < n then n else a)
    have ha : a ≤ (if a < n then n else a) ∧ n ≤ (if a < n then n else a) := by split <;> omega
    refine ⟨?_, Int.le_trans ha.1 h2, fun y hy => ?_⟩
    · rcases h1 with h1 | h1
      · rw [h1]
        split
        · exact .inr List.mem_cons_self
        · exact .inl rfl
      · exact .inr (List.mem_cons_of_mem _ h1)
    · rcases List.mem_cons.mp hy with e | hy
      · rw [e]
        exact Int.le_trans ha.2 h2
      · exact h3 y hy
theorem foldl_min : ∀ (ns : List Int) (a : Int), (ns.foldl (fun a b => if b < a then b else a) a = a ∨ ns.foldl (fun a b => if b < a then b else a) a ∈ ns) ∧ ns.foldl (fun a b => if b < a then b else a) a ≤ a ∧ ∀ y ∈ ns, ns.foldl (fun a b => if b < a then b else a) a ≤ y
  | [], a => ⟨.inl rfl, Int.le_refl _, fun y h => by cases h⟩
  | n :: ns, a => by
    simp only [List.foldl_cons]
    obtain ⟨h1, h2, h3⟩ := foldl_min ns (if n < a then n else a)
    have ha : (if n < a then n else a) ≤ a ∧ (if n < a then n else a) ≤ n := by split <;> omega
    refine ⟨?_, Int.le_trans h2 ha.1, fun y hy => ?_⟩
    · rcases h1 with h1 | h1
      · rw [h1]
        split
        · exact .inr List.mem_cons_self
        · exact .inl rfl
      · exact .inr (List.mem_cons_of_mem _ h1)
    · rcases List.mem_cons.mp hy with e | hy
      · rw [e]
        exact Int.le_trans h2 ha.2
      · exact h3 y hy
theorem max_eq {ns : List Int} {m k : Int} (h : maxL ns = some m) (hk : k ∈ ns) (hy : ∀ y ∈ ns, y ≤ k) : k = m := by
  cases ns with
  | nil => cases h
  | cons n ns =>
    cases h
    obtain ⟨h1, h2, h3⟩ := foldl_max ns n
    have a : ns.foldl (fun a b => if a < b then b else a) n ≤ k := by
      rcases h1 with h1 | h1
      · rw [h1]; exact hy _ List.mem_cons_self
      · exact hy _ (List.mem_cons_of_mem _ h1)
    have b : k ≤ ns.foldl (fun a b => if a < b then b else a) n := by
      rcases List.mem_cons.mp hk with e | e
      · rw [e]; exact h2
      · exact h3 _ e
    omega
theorem min_eq {ns : List Int} {m k : Int} (h : minL ns = some m) (hk : k ∈ ns) (hy : ∀ y ∈ ns, k ≤ y) : k = m := by
  cases ns with
  | nil => cases h
  | cons n ns =>
    cases h
    obtain ⟨h1, h2, h3⟩ := foldl_min ns n
    have a : k ≤ ns.foldl (fun a b => if b < a then b else a) n := by
      rcases h1 with h1 | h1
      · rw [h1]; exact hy _ List.mem_cons_self
      · exact hy _ (List.mem_cons_of_mem _ h1)
    have b : ns.foldl (fun a b => if b < a then b else a) n ≤ k := by
      rcases List.mem_cons.mp hk with e | e
      · rw [e]; exact h2
      · exact h3 _ e
    omega
def lstOf : D → Option (List D)
  | .lst ds => some ds
  | .frl ds => some ds
  | _ => none
theorem BRep.lstOf {HF H0 H : Hp} {ρ : Env} {σ : L2.St} {d : D} {v : V} {ds : List D} (S : StOk K ct HF H0 H ρ σ) (h : BRep K ct ρ σ H0 d v) (hd : lstOf d = some ds) : ∃ a xs, v = .ref a ∧ SqL K H a xs ∧ RepL K ct H0 ds xs := by
  cases d with
  | lst es =>
    cases hd
    obtain ⟨a, xs, h1, h2, h3⟩ := h.lst S
    exact ⟨a, xs, h1, SqL.of h2, h3⟩
  | frl es =>
    cases hd
    obtain ⟨a, xs, h1, h2, h3⟩ := h.frl S
    exact ⟨a, xs, h1, h2, h3⟩
  | _ => cases hd
def maxD (x : D) : Option D := ((lstOf x).bind intsOf).bind fun ns => (maxL ns).map .int
def minD (x : D) : Option D := ((lstOf x).bind intsOf).bind fun ns => (minL ns).map .int
theorem maxD_ok : Fn1 K ct (rMax K) maxD := fun HF H0 H ρ σ x z v Q S hx hz q => by
  obtain ⟨ns, hn, hz⟩ := bind_some hz
  obtain ⟨ds, hd, hn⟩ := bind_some hn
  have e := intsOf_some hn
  subst e
  obtain ⟨a, xs, rfl, h, r⟩ := hx.lstOf S hd
  have e := r.ints
  subst e
  cases hm : maxL ns with
  | none => rw [hm] at hz; cases hz
  | some m =>
    rw [hm] at hz
    cases hz
    refine ⟨a, ns, rfl, h, ?_, fun k hk hy => ?_⟩
    · cases ns with
      | nil => cases hm
      | cons n ns => simp
    · rw [max_eq hm hk hy]
      exact q _ _ _ (Same.refl _) S (by simp only [Rep])
theorem minD_ok : Fn1 K ct (rMin K) minD := fun HF H0 H ρ σ x z v Q S hx hz q => by
  obtain ⟨ns, hn, hz⟩ := bind_some hz
  obtain ⟨ds, hd, hn⟩ := bind_some hn
  have e := intsOf_some hn
  subst e
  obtain ⟨a, xs, rfl, h, r⟩ := hx.lstOf S hd
  have e := r.ints
  subst e
  cases hm : minL ns with
  | none => rw [hm] at hz; cases hz
  | some m =>
    rw [hm] at hz
    cases hz
    refine ⟨a, ns, rfl, h, ?_, fun k hk hy => ?_⟩
    · cases ns with
      | nil => cases hm
      | cons n ns => simp
    · rw [min_eq hm hk hy]
      exact q _ _ _ (Same.refl _) S (by simp only [Rep])

/-! ### isinstance of a built-in class -/
def tyN : D → Option String
  | .non => some "NoneType"
  | .bl _ => some "bool"
  | .int _ => some "int"
  | .str _ => some "str"
  | .tup _ => some "tuple"
  | .lst _ => some "list"
  | _ => none
def isiD (T : String) (x : D) : Option D := (tyN x).bind fun t => (kitB t T).map .bl
theorem tyX_of {H : Hp} {d : D} {v : V} {t : String} (r : Rep K ct H d v) (h : tyN d = some t) : TyX K H v (.type t) := by
  cases d <;> simp only [Rep] at r <;> cases h
  · subst r; exact .base .non
  · subst r; exact .base (.bl _)
  · subst r; exact .base (.int _)
  · subst r; exact .base (.str _)
  · obtain ⟨a, xs, rfl, (⟨h | ⟨o, h⟩⟩ | ⟨o, its, n, h1, h2, _⟩), _⟩ := r
    · exact .base (.tup h)
    · exact .fTuple h
    · exact .kTuple h1 h2
  · obtain ⟨a, xs, rfl, h, _⟩ := r
    exact .base (.lst h)
theorem isi_ok (T : String) : Op1 K ct (fun x H Q => rIsi K [x, .ty T] H Q) (isiD T) := fun HF H0 H ρ σ x z v Q S hx hz q => by
  obtain ⟨t, ht, hz⟩ := bind_some hz
  cases hk : kitB t T with
  | none => rw [hk] at hz; cases hz
  | some b =>
    rw [hk] at hz
    cases hz
    exact ⟨v, .ty T, .type t, .type T, b, rfl, .ty T, tyX_of (hx.full S) ht, kit_ty hk, q _ _ _ (Same.refl _) S (by simp only [Rep])⟩
end
section
variable {x y : Str} {p p2 : Pos} {T : String}
theorem e_isi (hgl : Gl X "isinstance") (hm : X.mg "isinstance" = none) (hgy : Gl X y) (hmy : X.mg y = none) (hvy : bootBuiltins y = some (.type T)) (ha : PE X a (tBo X.K ct fa)) (hs : starEach [a, .Name y p2] X.env = (false, eval a X.env) :: starEach [.Name y p2] X.env := by rfl)
    (hn : y ≠ "__name__" := by decide +kernel) (hdb : (y == ("__debug__" : Str)) = false := by decide +kernel) : PE X (.Call (.Name "isinstance" p) [a, .Name y p2] [] pos) (tD X.K ct (f1 fa (isiD T))) :=
  (pe_callB call_isi hgl hm (by decide +kernel) (pa_cons ha (pa_cons (pe_bltn (v := .ty T) hgy hmy hvy rfl hn hdb) pa_nil) hs) (by decide +kernel) (by decide +kernel) hs (by rfl)).weak fun σ H Q h => one (isi_ok T) h
end
end
end PD

/-! Statements, loops, comprehensions, calls. -/
namespace PD
open PySem PySem.Spec PyProof.Rows L2

inductive Out where
  | nx (ρ : Env) | rt (d : D) | bk (ρ : Env) | ct (ρ : Env)

section
variable (K : PySem.W.Frag) (ct : Nat → Addr)
def PostO (HF H0 : Hp) (E : Ends) : Out → Prop
  | .nx ρ => ∀ σ H0' H', Same H0 H0' → StOk K ct HF H0' H' ρ σ → E.nx σ H'
  | .bk ρ => ∀ σ H0' H', Same H0 H0' → StOk K ct HF H0' H' ρ σ → E.bk σ H'
  | .ct ρ => ∀ σ H0' H', Same H0 H0' → StOk K ct HF H0' H' ρ σ → E.ct σ H'
  | .rt d => ∀ v H0' H', Same H0 H0' → Same H0' H' → Same HF H' → (∀ a o, HF a = some o → H0' a = none) → Rep K ct H0' d v → E.rt v H'
def tSt (f : Env → Option Out) : TS := fun E σ H => ∃ HF H0 ρ o, StOk K ct HF H0 H ρ σ ∧ f ρ = some o ∧ PostO K ct HF H0 E o
/-- a target: it stores at the slots js alone -/
def tG (js : List Nat) (ft : D → Env → Option Env) : TG := fun v σ H Q => ∃ HF H0 ρ d ρ', StOk K ct HF H0 H ρ σ ∧ Rep K ct H0 d v ∧ ft d ρ = some ρ' ∧
  ∀ σ' : L2.St, σ'.length = σ.length → (∀ j : Nat, j ∉ js → σ'[j]? = σ[j]?) → StOk K ct HF H0 H ρ' σ' → Q σ' H
def tGs (js : List Nat) (ft : List D → Env → Option Env) : TGs := fun vs σ H Q => ∃ HF H0 ρ ds ρ', StOk K ct HF H0 H ρ σ ∧ RepL K ct H0 ds vs ∧ ft ds ρ = some ρ' ∧
  ∀ σ' : L2.St, σ'.length = σ.length → (∀ j : Nat, j ∉ js → σ'[j]? = σ[j]?) → StOk K ct HF H0 H ρ' σ' → Q σ' H
/-- what is walked: these items, one after another -/
def WalkD (H1 : Hp) (ds : List D) (J : It) : Prop := ∀ H, Same H1 H → (∀ (i : Nat) (d : D), ds[i]? = some d → J.go i H ∧ ∀ x H', J.yld i H x H' → (H' = H ∧ Rep K ct H1 d x) ∨
  ∃ T xs es, H T = none ∧ x = .ref T ∧ H' = upd H T (.tup xs) ∧ d = .tup es ∧ RepL K ct H1 es xs) ∧ J.stop ds.length H
def tI (f : Env → Option (List D)) : TI := fun σ H R => ∃ HF H0 ρ ds, StOk K ct HF H0 H ρ σ ∧ f ρ = some ds ∧ ∀ J H0' H', Same H0 H0' → StOk K ct HF H0' H' ρ σ → WalkD K ct H0' ds J → R J H'
end
section
variable {K : PySem.W.Frag} {ct : Nat → Addr}
theorem PostO.mono {HF H0 H1 : Hp} {E : Ends} (e : Same H0 H1) : ∀ {o : Out}, PostO K ct HF H0 E o → PostO K ct HF H1 E o
  | .nx _, h => fun σ H0' H' e1 S => h σ H0' H' (e.trans e1) S
  | .bk _, h => fun σ H0' H' e1 S => h σ H0' H' (e.trans e1) S
  | .ct _, h => fun σ H0' H' e1 S => h σ H0' H' (e.trans e1) S
  | .rt _, h => fun v H0' H' e1 => h v H0' H' (e.trans e1)
end
section
variable {X : Cx} {st : Stmt} {rest : List Stmt}
theorem _root_.L2.PS.weak {t t' : TS} (h : PS X st t) (w : ∀ E σ H, t' E σ H → t E σ H) : PS X st t' := ⟨fun pins s σ H E I q => h.run pins s σ H E I (w _ _ _ q)⟩
theorem _root_.L2.PSs.weak {t t' : TS} (h : PSs X rest t) (w : ∀ E σ H, t' E σ H → t E σ H) : PSs X rest t' := ⟨fun pins s σ H E I q => h.run pins s σ H E I (w _ _ _ q)⟩
theorem _root_.L2.PG.weak {e : Expr} {t t' : TG} (h : PG X e t) (w : ∀ v σ H Q, t' v σ H Q → t v σ H Q) : PG X e t' := ⟨fun pins s σ H v u Q I r q => h.run pins s σ H v u Q I r (w _ _ _ _ q)⟩
theorem _root_.L2.PGs.weak {es : List Expr} {t t' : TGs} (h : PGs X es t) (w : ∀ v σ H Q, t' v σ H Q → t v σ H Q) : PGs X es t' := ⟨fun pins s σ H v u Q I r q => h.run pins s σ H v u Q I r (w _ _ _ _ q)⟩
theorem _root_.L2.PI.weak {tg e : Expr} {t t' : TI} (h : PI X tg e t) (w : ∀ σ H R, t' σ H R → t σ H R) : PI X tg e t' := ⟨fun pins s σ H R I q => h.run pins s σ H R I (w _ _ _ q)⟩
end

section
variable {X : Cx} {ct : Nat → Addr} {e a b c : Expr} {es : List Expr} {pos : Pos} {fa fb fc : Env → Option D} {st : Stmt} {rest body orelse : List Stmt} {f g : Env → Option Out} {ft : Env → Option Bool}
/-! ### blocks -/
def sNext : Env → Option Out := fun ρ => some (.nx ρ)
def sSeq (f g : Env → Option Out) : Env → Option Out := fun ρ => (f ρ).bind fun o => match o with
  | .nx ρ' => g ρ'
  | o => some o
theorem s_nil : PSs X [] (tSt X.K ct sNext) := pss_nil.weak fun E σ H => by
  rintro ⟨HF, H0, ρ, o, S, hf, q⟩
  cases hf
  exact q σ H0 H (Same.refl _) S
theorem s_one (h : PS X st (tSt X.K ct f)) : PSs X [st] (tSt X.K ct f) := pss_one h
theorem s_seq (h : PS X st (tSt X.K ct f)) (h2 : PSs X rest (tSt X.K ct g)) : PSs X (st :: rest) (tSt X.K ct (sSeq f g)) := (pss_cons h h2).weak fun E σ H => by
  rintro ⟨HF, H0, ρ, o, S, hf, q⟩
  obtain ⟨o1, h1, hf⟩ := bind_some hf
  refine ⟨HF, H0, ρ, o1, S, h1, ?_⟩
  cases o1 with
  | nx ρ' => exact fun σ' H0' H' e1 S1 => ⟨HF, H0', ρ', o, S1, hf, q.mono e1⟩
  | rt d => cases hf; exact q
  | bk ρ' => cases hf; exact q
  | ct ρ' => cases hf; exact q
theorem s_frz (is : List Nat) (h : PS X st (tSt X.K ct f)) : PS X st (tSt X.K ct fun ρ => f (frz is ρ)) := h.weak fun E σ H => by
  rintro ⟨HF, H0, ρ, o, S, hf, q⟩
  obtain ⟨H1, e1, S1⟩ := S.frz is
  exact ⟨HF, H1, _, o, S1, hf, q.mono e1⟩
def sPass : Env → Option Out := fun ρ => some (.nx ρ)
def sBrk : Env → Option Out := fun ρ => some (.bk ρ)
def sCnt : Env → Option Out := fun ρ => some (.ct ρ)
theorem s_pass : PS X (.Pass pos) (tSt X.K ct sPass) := ps_pass.weak fun E σ H => by
  rintro ⟨HF, H0, ρ, o, S, hf, q⟩
  cases hf
  exact q σ H0 H (Same.refl _) S
theorem s_brk : PS X (.Break pos) (tSt X.K ct sBrk) := ps_break.weak fun E σ H => by
  rintro ⟨HF, H0, ρ, o, S, hf, q⟩
  cases hf
  exact q σ H0 H (Same.refl _) S
theorem s_cnt : PS X (.Continue pos) (tSt X.K ct sCnt) := ps_continue.weak fun E σ H => by
  rintro ⟨HF, H0, ρ, o, S, hf, q⟩
  cases hf
  exact q σ H0 H (Same.refl _) S
def sRet (fa : Env → Option D) : Env → Option Out := fun ρ => (fa ρ).map .rt
theorem map_some {α β : Type} {o : Option α} {k : α → β} {z : β} (h : o.map k = some z) : ∃ x, o = some x ∧ k x = z := by
  cases o with
  | none => cases h
  | some x => exact ⟨x, rfl, Option.some.inj h⟩
theorem s_ret (he : PE X e (tD X.K ct fa)) : PS X (.Return (some e) pos) (tSt X.K ct (sRet fa)) := (ps_ret he).weak fun E σ H => by
  rintro ⟨HF, H0, ρ, o, S, hf, q⟩
  obtain ⟨d, hd, rfl⟩ := map_some hf
  exact ⟨HF, H0, ρ, d, S, hd, fun v H1 H' e1 S1 r1 => q v H1 H' e1 S1.e0 S1.ef S1.dj r1⟩
def sRetN : Env → Option Out := fun _ => some (.rt .non)
theorem s_retN : PS X (.Return none pos) (tSt X.K ct sRetN) := ps_retN.weak fun E σ H => by
  rintro ⟨HF, H0, ρ, o, S, hf, q⟩
  cases hf
  exact q _ H0 H (Same.refl _) S.e0 S.ef S.dj (by simp only [Rep])
def sIf (ft : Env → Option Bool) (f g : Env → Option Out) : Env → Option Out := fun ρ => (ft ρ).bind fun b => if b then f ρ else g ρ
theorem s_if (hc : PT X c (tTe X.K ct ft)) (ha : PSs X body (tSt X.K ct f)) (hb : PSs X orelse (tSt X.K ct g)) : PS X (.If c body orelse pos) (tSt X.K ct (sIf ft f g)) := (ps_if hc ha hb).weak fun E σ H => by
  rintro ⟨HF, H0, ρ, o, S, hf, q⟩
  obtain ⟨k, hk, hf⟩ := bind_some hf
  refine ⟨HF, H0, ρ, k, S, hk, fun H1 H' e1 S1 => ?_⟩
  cases k with
  | true => exact iteT ⟨HF, H1, ρ, o, S1, hf, q.mono e1⟩
  | false => exact iteF ⟨HF, H1, ρ, o, S1, hf, q.mono e1⟩

/-! ### targets -/
def gN (i : Nat) : D → Env → Option Env := fun d ρ => some (ρ.set i (.val d))
theorem g_name (i : Nat) (h : PG X e (gName i)) : PG X e (tG X.K ct [i] (gN i)) := h.weak fun v σ H Q => by
  rintro ⟨HF, H0, ρ, d, ρ', S, r, hf, q⟩
  cases hf
  refine q _ (by rw [List.length_set]) (fun j hj => ?_) (S.setVal i r)
  rw [get_set, if_neg fun z => hj (by simp [z])]
def gsNil : List D → Env → Option Env := fun ds ρ => match ds with
  | [] => some ρ
  | _ => none
def gsCons (f : D → Env → Option Env) (fs : List D → Env → Option Env) : List D → Env → Option Env := fun ds ρ => match ds with
  | d :: ds => (f d ρ).bind (fs ds)
  | _ => none
theorem gs_nil : PGs X [] (tGs X.K ct [] gsNil) := pgs_nil.weak fun vs σ H Q => by
  rintro ⟨HF, H0, ρ, ds, ρ', S, r, hf, q⟩
  cases ds with
  | nil =>
    cases hf
    exact ⟨r.of_nil, q σ rfl (fun _ _ => rfl) S⟩
  | cons d ds => cases hf
theorem gs_cons {js ks : List Nat} {f : D → Env → Option Env} {fs : List D → Env → Option Env} (h1 : PG X e (tG X.K ct js f)) (h2 : PGs X es (tGs X.K ct ks fs))
    (hs : (assignEach (e :: es) X.env).map (·.2) = assign e X.env :: (assignEach es X.env).map (·.2) := by rfl) :
    PGs X (e :: es) (tGs X.K ct (js ++ ks) (gsCons f fs)) := (pgs_cons h1 h2 hs).weak fun vs σ H Q => by
  rintro ⟨HF, H0, ρ, ds, ρ', S, r, hf, q⟩
  cases ds with
  | nil => cases hf
  | cons d ds =>
    obtain ⟨ρ1, h3, h4⟩ := bind_some hf
    obtain ⟨y, ys, rfl, ry, rl⟩ := r.uncons
    refine ⟨y, ys, rfl, HF, H0, ρ, d, ρ1, S, ry, h3, fun σ1 l1 k1 S1 => ⟨HF, H0, ρ1, ds, ρ', S1, rl, h4, fun σ2 l2 k2 S2 => ?_⟩⟩
    exact q σ2 (l2.trans l1) (fun j hj => by
      rw [List.mem_append, not_or] at hj
      rw [k2 j hj.2, k1 j hj.1]) S2
def gT (n : Nat) (fs : List D → Env → Option Env) : D → Env → Option Env := fun d ρ => match d with
  | .tup ds => if ds.length = n then fs ds ρ else none
  | _ => none
theorem g_tup {js : List Nat} {fs : List D → Env → Option Env} {n : Nat} (h : PG X e (gTup X.K n (tGs X.K ct js fs))) : PG X e (tG X.K ct js (gT n fs)) := h.weak fun v σ H Q => by
  rintro ⟨HF, H0, ρ, d, ρ', S, r, hf, q⟩
  cases d with
  | tup ds =>
    simp only [gT] at hf
    split at hf
    · rename_i hl
      simp only [Rep] at r
      obtain ⟨a, xs, rfl, hs, rl⟩ := r
      exact ⟨a, xs, rfl, same_sqt S.e0 hs, by rw [rl.length]; exact hl, HF, H0, ρ, ds, ρ', S, rl, hf, q⟩
    · cases hf
  | _ => cases hf

/-! ### assignments -/
def sAsg (fa : Env → Option D) (ft : D → Env → Option Env) : Env → Option Out := fun ρ => (fa ρ).bind fun d => (ft d ρ).map .nx
theorem s_asg {js : List Nat} {tg : Expr} {ft : D → Env → Option Env} (he : PE X e (tD X.K ct fa)) (hg : PG X tg (tG X.K ct js ft)) (hs : swapsWithSole [tg] e pos.line X.env = pure false := by rfl) (hw : swappedStores [tg] e X.env = pure none := by rfl) (h1 : (assignEach [tg] X.env).map (·.2) = [assign tg X.env] := by rfl) :
    PS X (.Assign [tg] e pos) (tSt X.K ct (sAsg fa ft)) := (ps_asg he hg hs hw h1).weak fun E σ H => by
  rintro ⟨HF, H0, ρ, o, S, hf, q⟩
  obtain ⟨d, hd, hf⟩ := bind_some hf
  obtain ⟨ρ', h1, rfl⟩ := map_some hf
  exact ⟨HF, H0, ρ, d, S, hd, fun v H1 H' e1 S1 r1 => ⟨HF, H1, ρ, d, ρ', S1, r1, h1, fun σ' _ _ S2 => q σ' H1 H' e1 S2⟩⟩
/-- x = e, x keeps the new list for itself -/
def sOwn (i : Nat) (fa : Env → Option D) : Env → Option Out := fun ρ => (fa ρ).map fun d => .nx (ρ.set i (.own d))
theorem own_run {K : PySem.W.Frag} {i : Nat} {E : Ends} {σ : L2.St} {H : Hp} (h : tSt K ct (sOwn i fa) E σ H) : tO K ct fa σ H fun x H1 => gName i x σ H1 E.nx := by
  obtain ⟨HF, H0, ρ, o, S, hf, q⟩ := h
  obtain ⟨d, hd, rfl⟩ := map_some hf
  exact ⟨HF, H0, ρ, d, S, hd, fun p o H1 H' e1 S1 F => q _ H1 H' e1 (S1.setOwn i F.hF F.h0 F.h F.r F.ne)⟩
theorem s_own {i : Nat} {tg : Expr} (he : PE X e (tO X.K ct fa)) (hg : PG X tg (gName i)) (hs : swapsWithSole [tg] e pos.line X.env = pure false := by rfl) (hw : swappedStores [tg] e X.env = pure none := by rfl) (h1 : (assignEach [tg] X.env).map (·.2) = [assign tg X.env] := by rfl) :
    PS X (.Assign [tg] e pos) (tSt X.K ct (sOwn i fa)) := (ps_asg he hg hs hw h1).weak fun E σ H h => own_run h
/-- the same for a comprehension that the model stores from within -/
theorem s_asgIn {i : Nat} {te : TE} (h : PS X st (tAsg te (gName i))) (w : ∀ σ H Q, tD X.K ct fa σ H Q → te σ H Q) : PS X st (tSt X.K ct (sAsg fa (gN i))) := h.weak fun E σ H => by
  rintro ⟨HF, H0, ρ, o, S, hf, q⟩
  obtain ⟨d, hd, hf⟩ := bind_some hf
  obtain ⟨ρ', h1, rfl⟩ := map_some hf
  cases h1
  exact w _ _ _ ⟨HF, H0, ρ, d, S, hd, fun v H1 H' e1 S1 r1 => q _ H1 H' e1 (S1.setVal i r1)⟩
theorem s_ownIn {i : Nat} {te : TE} (h : PS X st (tAsg te (gName i))) (w : ∀ σ H Q, tO X.K ct fa σ H Q → te σ H Q) : PS X st (tSt X.K ct (sOwn i fa)) := h.weak fun E σ H q => w _ _ _ (own_run q)
/-- x += e -/
def sAug (i : Nat) (fa : Env → Option D) (g : D → D → Option D) : Env → Option Out := fun ρ => (fVar i ρ).bind fun x => (fa ρ).bind fun y => (g x y).map fun z => .nx (ρ.set i (.val z))
theorem s_aug {i : Nat} {ti : TIp} {g : D → D → Option D} (hg : Op2 X.K ct ti g) {te : TE} (h : PS X st (tAug i te ti)) (w : ∀ σ H Q, tBo X.K ct fa σ H Q → te σ H Q) : PS X st (tSt X.K ct (sAug i fa g)) := h.weak fun E σ H => by
  rintro ⟨HF, H0, ρ, o, S, hf, q⟩
  obtain ⟨x, hx, hf⟩ := bind_some hf
  obtain ⟨y, hy, hf⟩ := bind_some hf
  obtain ⟨z, hz, rfl⟩ := map_some hf
  unfold fVar at hx
  split at hx
  · rename_i d hi
    cases hx
    obtain ⟨v, h1, h2⟩ := S.val i _ hi
    refine ⟨v, h1, w _ _ _ ⟨HF, H0, ρ, y, S, hy, fun u H1 H' e1 S1 r1 => ?_⟩⟩
    exact hg HF H1 H' ρ σ _ y z v u _ S1 (.inl (h2.mono e1)) r1 hz fun w H2 H'' e2 S2 r2 => q _ H2 H'' (e1.trans e2) (S2.setVal i r2)
  · cases hx
/-- x.append(e), x a list of one's own -/
noncomputable def sApp (i : Nat) (fa : Env → Option D) : Env → Option Out := fun ρ => (fa ρ).bind fun d => match ρ[i]? with
  | some (.own (.lst ds)) => gd (ds.length < sizeLine) (.nx (ρ.set i (.own (.lst (ds ++ [d])))))
  | _ => none
theorem s_app {i : Nat} {te : TE} (h : PS X st (tDrop (tBM X.K "list" rAppend (tVar i) (tCons te tNil)))) (w : ∀ σ H Q, tD X.K ct fa σ H Q → te σ H Q) : PS X st (tSt X.K ct (sApp i fa)) := h.weak fun E σ H => by
  rintro ⟨HF, H0, ρ, o, S, hf, q⟩
  obtain ⟨d, hd, hf⟩ := bind_some hf
  split at hf
  · rename_i ds hi
    obtain ⟨hl, rfl⟩ := gd_some hf
    obtain ⟨p, ho, h1, h2, h3, h4, h5⟩ := S.own i _ hi
    cases ho with
    | lst xs =>
      have h5' : RepL X.K ct H0 ds xs := h5
      refine ⟨_, h1, .inl ⟨rfl, xs, .inl (.inl h4)⟩, w _ _ _ ⟨HF, H0, ρ, d, S, hd, fun v H1 H' e1 S1 r1 => ?_⟩⟩
      obtain ⟨p', ho', g1, g2, g3, g4, g5⟩ := S1.own i _ hi
      rw [h1] at g1
      cases g1
      cases ho' with
      | lst ys =>
        have g5' : RepL X.K ct H1 ds ys := g5
        refine ⟨p, ys, v, rfl, rfl, g4, by rw [g5'.length]; exact hl, ?_⟩
        exact q σ H1 _ e1 (S1.change (d' := .lst (ds ++ [d])) (o := .lst (ys ++ [v])) hi h1 (g5'.append (RepL.one r1)))
      | _ => exact (show False from g5).elim
    | _ => exact (show False from h5).elim
  · cases hf
/-- x[k] = e, x a list of one's own -/
def sSetIx (i : Nat) (fa fk : Env → Option D) : Env → Option Out := fun ρ => (fa ρ).bind fun d => (fk ρ).bind fun k => match ρ[i]?, k with
  | some (.own (.lst ds)), .int k => match ixN ds.length k with
    | some j => some (.nx (ρ.set i (.own (.lst (ds.set j d)))))
    | none => none
  | _, _ => none
theorem s_setIx {i : Nat} {o k tg : Expr} {fk : Env → Option D} (he : PE X e (tD X.K ct fa)) (hk : PE X k (tBo X.K ct fk)) (h : PS X st (tAsg (tD X.K ct fa) (gSub (tVar i) (tBo X.K ct fk) rSetL))) : PS X st (tSt X.K ct (sSetIx i fa fk)) := h.weak fun E σ H => by
  rintro ⟨HF, H0, ρ, o, S, hf, q⟩
  obtain ⟨d, hd, hf⟩ := bind_some hf
  obtain ⟨kd, hkd, hf⟩ := bind_some hf
  split at hf
  · rename_i ds n hi
    split at hf
    · rename_i j hj
      cases hf
      refine ⟨HF, H0, ρ, d, S, hd, fun v H1 H' e1 S1 r1 => ?_⟩
      obtain ⟨p, ho, h1, h2, h3, h4, h5⟩ := S1.own i _ hi
      refine ⟨_, h1, HF, H1, ρ, _, S1, hkd, fun u H2 H'' e2 S2 r2 => ?_⟩
      obtain ⟨p', ho', g1, g2, g3, g4, g5⟩ := S2.own i _ hi
      rw [h1] at g1
      cases g1
      cases ho' with
      | lst ys =>
        have g5' : RepL X.K ct H2 ds ys := g5
        refine ⟨p, ys, n, j, rfl, r2.int S2, g4, by rw [g5'.length]; exact hj, ?_⟩
        exact q σ H2 _ (e1.trans e2) (S2.change (d' := .lst (ds.set j d)) (o := .lst (ys.set j v)) hi h1 (g5'.set (r1.mono e2) j))
      | _ => exact (show False from g5).elim
    · cases hf
  · cases hf

/-! ### while -/
def whileF (ft : Env → Option Bool) (f : Env → Option Out) (is : List Nat) : Nat → Env → Option Out
  | 0, _ => none
  | n + 1, ρ => (ft ρ).bind fun b => if b then (f ρ).bind fun o => match o with
      | .nx ρ' => whileF ft f is n (clr is ρ')
      | .ct ρ' => whileF ft f is n (clr is ρ')
      | .bk ρ' => some (.nx (clr is ρ'))
      | .rt d => some (.rt d)
    else some (.nx ρ)
theorem s_while (is : List Nat) (n : Nat) (hp : PassesOwn (model X.prog X.w) X.A X.env X.xe) (hc : PT X c (tTe X.K ct ft)) (hb : PSs X body (tSt X.K ct f)) : PS X (.While c body [] pos) (tSt X.K ct (whileF ft f is n)) := (ps_while hp hc hb).weak fun E σ H => by
  rintro ⟨HF, H0, ρ, o, S, hf, q⟩
  refine ⟨fun m σ' H' => ∃ H1 ρ', Same H0 H1 ∧ StOk X.K ct HF H1 H' ρ' σ' ∧ whileF ft f is m ρ' = some o, ⟨n, H0, ρ, Same.refl _, S, hf⟩, fun m σ' H' => ?_⟩
  rintro ⟨H1, ρ', e1, S1, hf⟩
  cases m with
  | zero => cases hf
  | succ m =>
    simp only [whileF] at hf
    obtain ⟨b, hb, hf⟩ := bind_some hf
    refine ⟨HF, H1, ρ', b, S1, hb, fun H2 H'' e2 S2 => ?_⟩
    cases b with
    | false =>
      simp at hf
      subst hf
      exact iteF (q σ' H2 H'' (e1.trans e2) S2)
    | true =>
      simp only [if_true] at hf
      obtain ⟨o1, ho, hf⟩ := bind_some hf
      refine iteT ⟨fun σ3 H3 => ∃ H4 ρ3, Same H0 H4 ∧ StOk X.K ct HF H4 H3 ρ3 σ3 ∧ whileF ft f is m ρ3 = some o, fun σ3 H3 h3 => ⟨m, Nat.lt_succ_self _, h3⟩, HF, H2, ρ', o1, S2, ho, ?_⟩
      cases o1 with
      | nx ρ3 => exact fun σ3 H4 H3 e3 S3 => ⟨H4, _, (e1.trans e2).trans e3, S3.clr is, hf⟩
      | ct ρ3 => exact fun σ3 H4 H3 e3 S3 => ⟨H4, _, (e1.trans e2).trans e3, S3.clr is, hf⟩
      | bk ρ3 =>
        cases hf
        exact fun σ3 H4 H3 e3 S3 => q σ3 H4 H3 ((e1.trans e2).trans e3) (S3.clr is)
      | rt d =>
        cases hf
        exact q.mono (e1.trans e2)

/-! ### for -/
def forF (ft : D → Env → Option Env) (f : Env → Option Out) (is : List Nat) : List D → Env → Option Out
  | [], ρ => some (.nx ρ)
  | d :: ds, ρ => (ft d ρ).bind fun ρ1 => (f ρ1).bind fun o => match o with
      | .nx ρ' => forF ft f is ds (clr is ρ')
      | .ct ρ' => forF ft f is ds (clr is ρ')
      | .bk ρ' => some (.nx (clr is ρ'))
      | .rt d => some (.rt d)
def sFor (fi : Env → Option (List D)) (ft : D → Env → Option Env) (f : Env → Option Out) (is : List Nat) : Env → Option Out := fun ρ => (fi ρ).bind fun ds => forF ft f is ds ρ
/-- an item as it comes: it stands for its value -/
theorem item_in {K : PySem.W.Frag} {HF H0 H1 H H' : Hp} {ρ : Env} {σ : L2.St} {d : D} {x : V} (S : StOk K ct HF H1 H ρ σ) (e : Same H0 H1) (h : (H' = H ∧ Rep K ct H0 d x) ∨ ∃ T xs es, H T = none ∧ x = .ref T ∧ H' = upd H T (.tup xs) ∧ d = .tup es ∧ RepL K ct H0 es xs) :
    ∃ H2, Same H1 H2 ∧ StOk K ct HF H2 H' ρ σ ∧ Rep K ct H2 d x := by
  rcases h with ⟨rfl, r⟩ | ⟨T, xs, es, hT, rfl, rfl, rfl, r⟩
  · exact ⟨H1, Same.refl _, S, r.mono e⟩
  · obtain ⟨e2, S2, r2⟩ := S.newTup hT (r.mono e)
    exact ⟨_, e2, S2, r2⟩
theorem s_for {tg iter : Expr} {js : List Nat} {fi : Env → Option (List D)} {ft : D → Env → Option Env} (is : List Nat) (hp : PassesOwn (model X.prog X.w) X.A X.env X.xe) (hc : X.calm = true) (hi : PI X tg iter (tI X.K ct fi)) (hg : PG X tg (tG X.K ct js ft)) (hb : PSs X body (tSt X.K ct f))
    (hs : ∀ x, foldedSetIterable iter X.env x = pure x := by intro _; rfl) : PS X (.For tg iter body [] pos) (tSt X.K ct (sFor fi ft f is)) := (ps_for hp hc hi hg hb hs).weak fun E σ H => by
  rintro ⟨HF, H0, ρ, o, S, hf, q⟩
  obtain ⟨ds, hds, hf⟩ := bind_some hf
  refine ⟨HF, H0, ρ, ds, S, hds, fun J H1 H' e1 S1 W => ?_⟩
  refine ⟨fun i m σ' H' => i + m = ds.length ∧ ∃ H2 ρ', Same H1 H2 ∧ StOk X.K ct HF H2 H' ρ' σ' ∧ forF ft f is (ds.drop i) ρ' = some o, ⟨ds.length, by omega, H1, ρ, Same.refl _, S1, by rw [List.drop_zero]; exact hf⟩, fun i m σ' H' => ?_⟩
  rintro ⟨him, H2, ρ', e2, S2, hf⟩
  obtain ⟨hgo, hstop⟩ := W H' (e2.trans S2.e0)
  by_cases hi : i < ds.length
  · rw [List.drop_eq_getElem_cons hi] at hf
    simp only [forF] at hf
    obtain ⟨ρ1, h1, hf⟩ := bind_some hf
    obtain ⟨o1, ho, hf⟩ := bind_some hf
    obtain ⟨g1, g2⟩ := hgo i ds[i] (List.getElem?_eq_getElem hi)
    refine .inr ⟨g1, fun σ3 H3 => (i + 1) + (m - 1) = ds.length ∧ ∃ H4 ρ3, Same H1 H4 ∧ StOk X.K ct HF H4 H3 ρ3 σ3 ∧ forF ft f is (ds.drop (i + 1)) ρ3 = some o, fun σ3 H3 h3 => ⟨m - 1, by omega, h3⟩, fun x H3 hy => ?_⟩
    obtain ⟨H4, e4, S4, r4⟩ := item_in S2 e2 (g2 x H3 hy)
    refine ⟨HF, H4, ρ', ds[i], ρ1, S4, r4, h1, fun σ4 _ _ S5 => ⟨HF, H4, ρ1, o1, S5, ho, ?_⟩⟩
    cases o1 with
    | nx ρ3 => exact fun σ3 H5 H3 e5 S3 => ⟨by omega, H5, _, (e2.trans e4).trans e5, S3.clr is, hf⟩
    | ct ρ3 => exact fun σ3 H5 H3 e5 S3 => ⟨by omega, H5, _, (e2.trans e4).trans e5, S3.clr is, hf⟩
    | bk ρ3 =>
      cases hf
      exact fun σ3 H5 H3 e5 S3 => q σ3 H5 H3 (((e1.trans e2).trans e4).trans e5) (S3.clr is)
    | rt d =>
      cases hf
      exact q.mono ((e1.trans e2).trans e4)
  · have ei : i = ds.length := by omega
    subst ei
    rw [List.drop_length] at hf
    cases hf
    exact .inl ⟨hstop, q σ' H2 H' (e1.trans e2) S2⟩

/-! ### what is walked -/
def iSeq (fa : Env → Option D) : Env → Option (List D) := fun ρ => (fa ρ).bind seqD
def iLs (fa : Env → Option D) : Env → Option (List D) := fun ρ => (fa ρ).bind lstOf
def tupOf : D → Option (List D)
  | .tup ds => some ds
  | _ => none
def iTp (fa : Env → Option D) : Env → Option (List D) := fun ρ => (fa ρ).bind tupOf
theorem walk_l {K : PySem.W.Frag} {H1 : Hp} {a : Addr} {xs : List V} {ds : List D} (h : SqL K H1 a xs) (huniq : ∀ H ys, Same H1 H → SqL K H a ys → ys = xs) (r : RepL K ct H1 ds xs) : WalkD K ct H1 ds (Itl K a) := fun H e => by
  refine ⟨fun i d hd => ?_, xs, e.seq h, by rw [r.length]; exact Nat.le_refl _⟩
  obtain ⟨v, hv, rv⟩ := r.get hd
  refine ⟨⟨xs, v, e.seq h, hv⟩, fun x H' hy => .inl ⟨hy.1, ?_⟩⟩
  have := hy.2 xs (e.seq h)
  rw [hv] at this
  cases this
  exact rv
theorem walk_t {K : PySem.W.Frag} {H1 : Hp} {a : Addr} {xs : List V} {ds : List D} (h : SqT K H1 a xs) (r : RepL K ct H1 ds xs) : WalkD K ct H1 ds (Itt K a) := fun H e => by
  refine ⟨fun i d hd => ?_, xs, same_sqt e h, by rw [r.length]; exact Nat.le_refl _⟩
  obtain ⟨v, hv, rv⟩ := r.get hd
  refine ⟨⟨xs, v, same_sqt e h, hv⟩, fun x H' hy => .inl ⟨hy.1, ?_⟩⟩
  have := hy.2 xs (same_sqt e h)
  rw [hv] at this
  cases this
  exact rv
theorem i_lst {tg : Expr} (h : PE X e (tD X.K ct fa)) : PI X tg e (tI X.K ct (iLs fa)) := (pi_list h).weak fun σ H R => by
  rintro ⟨HF, H0, ρ, ds, S, hf, q⟩
  obtain ⟨d, hd, hs⟩ := bind_some hf
  refine ⟨HF, H0, ρ, d, S, hd, fun v H1 H' e1 S1 r1 => ?_⟩
  have hL : ∃ a xs, v = .ref a ∧ SqL X.K H1 a xs ∧ RepL X.K ct H1 ds xs := by
    cases d with
    | lst es =>
      cases hs
      simp only [Rep] at r1
      obtain ⟨a, xs, h1, h2, h3⟩ := r1
      exact ⟨a, xs, h1, SqL.of h2, h3⟩
    | frl es =>
      cases hs
      simp only [Rep] at r1
      exact r1
    | _ => cases hs
  obtain ⟨a, xs, rfl, h2, h3⟩ := hL
  refine ⟨a, rfl, ⟨xs, S1.e0.seq h2⟩, q _ H1 H' e1 S1 fun H e => ?_⟩
  refine ⟨fun i d hd => ?_, xs, e.seq h2, by rw [h3.length]; exact Nat.le_refl _⟩
  obtain ⟨v, hv, rv⟩ := h3.get hd
  refine ⟨⟨xs, v, e.seq h2, hv⟩, fun x H' hy => .inl ⟨hy.1, ?_⟩⟩
  have := hy.2 xs (e.seq h2)
  rw [hv] at this
  cases this
  exact rv
theorem i_tup {tg : Expr} (h : PE X e (tD X.K ct fa)) : PI X tg e (tI X.K ct (iTp fa)) := (pi_tup h).weak fun σ H R => by
  rintro ⟨HF, H0, ρ, ds, S, hf, q⟩
  obtain ⟨d, hd, hs⟩ := bind_some hf
  refine ⟨HF, H0, ρ, d, S, hd, fun v H1 H' e1 S1 r1 => ?_⟩
  cases d with
  | tup es =>
    cases hs
    simp only [Rep] at r1
    obtain ⟨a, xs, rfl, h2, h3⟩ := r1
    exact ⟨a, rfl, ⟨xs, same_sqt S1.e0 h2⟩, q _ H1 H' e1 S1 (walk_t h2 h3)⟩
  | _ => cases hs
/-- a list or a tuple, whatever comes -/
theorem _root_.L2.PI.or {tg iter : Expr} {w w' : TI} (h : PI X tg iter w) (h' : PI X tg iter w') : PI X tg iter (fun σ H R => w σ H R ∨ w' σ H R) := ⟨fun pins s σ H R I q => by
  rcases q with q | q
  · exact h.run pins s σ H R I q
  · exact h'.run pins s σ H R I q⟩
theorem i_seq {tg : Expr} (h : PE X e (tD X.K ct fa)) : PI X tg e (tI X.K ct (iSeq fa)) := ((i_lst h).or (i_tup h)).weak fun σ H R => by
  rintro ⟨HF, H0, ρ, ds, S, hf, q⟩
  obtain ⟨d, hd, hs⟩ := bind_some hf
  cases d with
  | lst es => exact .inl ⟨HF, H0, ρ, ds, S, by unfold iLs; rw [hd]; exact hs, q⟩
  | frl es => exact .inl ⟨HF, H0, ρ, ds, S, by unfold iLs; rw [hd]; exact hs, q⟩
  | tup es => exact .inr ⟨HF, H0, ρ, ds, S, by unfold iTp; rw [hd]; exact hs, q⟩
  | _ => cases hs
def rngL (lo : Int) (n : Nat) : List D := (List.range n).map fun i => .int (lo + (i : Nat))
theorem walk_r {K : PySem.W.Frag} {H1 : Hp} {lo : Int} {n : Nat} : WalkD K ct H1 (rngL lo n) (Itr lo n) := fun H e => by
  refine ⟨fun i d hd => ?_, by show n ≤ _; unfold rngL; simp⟩
  unfold rngL at hd
  rw [List.getElem?_map] at hd
  obtain ⟨j, hj, rfl⟩ := map_some hd
  obtain ⟨hl, ej⟩ := List.getElem?_eq_some_iff.mp hj
  rw [List.getElem_range] at ej
  subst ej
  rw [List.length_range] at hl
  exact ⟨hl, fun x H' hy => .inl ⟨hy.1, by simp only [Rep]; exact hy.2⟩⟩
noncomputable def iR1 (fa : Env → Option D) : Env → Option (List D) := fun ρ => match fa ρ with
  | some (.int j) => gd (-(2 ^ 62) ≤ j ∧ j < 2 ^ 62) (rngL 0 j.toNat)
  | _ => none
noncomputable def iR2 (fa fb : Env → Option D) : Env → Option (List D) := fun ρ => match fa ρ, fb ρ with
  | some (.int i), some (.int j) => gd (-(2 ^ 62) ≤ i ∧ i < 2 ^ 62 ∧ -(2 ^ 62) ≤ j ∧ j < 2 ^ 62) (rngL i (j - i).toNat)
  | _, _ => none
theorem i_r1 {tg : Expr} {p : Pos} (hg : Gl X "range") (hm : X.mg "range" = none) (ha : PE X a (tBo X.K ct fa)) (hs : starEach [a] X.env = (false, eval a X.env) :: starEach [] X.env := by rfl) : PI X tg (.Call (.Name "range" p) [a] [] pos) (tI X.K ct (iR1 fa)) :=
  (pi_range1 hg hm (pa_cons ha pa_nil hs) hs).weak fun σ H R => by
    rintro ⟨HF, H0, ρ, ds, S, hf, q⟩
    unfold iR1 at hf
    split at hf
    · rename_i j hj
      obtain ⟨hl, rfl⟩ := gd_some hf
      exact ⟨HF, H0, ρ, _, S, hj, fun v H1 H' e1 S1 r1 => ⟨j, by rw [r1.int S1], hl.1, hl.2, q _ H1 H' e1 S1 walk_r⟩⟩
    · cases hf
theorem i_r2 {tg : Expr} {p : Pos} (hg : Gl X "range") (hm : X.mg "range" = none) (ha : PE X a (tBo X.K ct fa)) (hb : PE X b (tBo X.K ct fb)) (hs : starEach [a, b] X.env = (false, eval a X.env) :: starEach [b] X.env := by rfl)
    (hs2 : starEach [b] X.env = (false, eval b X.env) :: starEach [] X.env := by rfl) (hs3 : starEach [a, b] X.env = [(false, eval a X.env), (false, eval b X.env)] := by rfl) (hs4 : starEach [b] X.env = [(false, eval b X.env)] := by rfl) : PI X tg (.Call (.Name "range" p) [a, b] [] pos) (tI X.K ct (iR2 fa fb)) :=
  (pi_range2 hg hm (pa_cons ha (pa_cons hb pa_nil hs2) hs) hs3 hs4).weak fun σ H R => by
    rintro ⟨HF, H0, ρ, ds, S, hf, q⟩
    unfold iR2 at hf
    split at hf
    · rename_i i j hi hj
      obtain ⟨hl, rfl⟩ := gd_some hf
      refine ⟨HF, H0, ρ, _, S, hi, fun v H1 H' e1 S1 r1 => ⟨HF, H1, ρ, _, S1, hj, fun u H2 H'' e2 S2 r2 => ⟨i, j, by rw [r1.int S1, r2.int S2], hl, q _ H2 H'' (e1.trans e2) S2 walk_r⟩⟩⟩
    · cases hf

/-! ### comprehensions -/
theorem wipe_get (vs : List Nat) (σ : L2.St) (j : Nat) : (wipe σ vs)[j]? = if j ∈ vs then (if j < σ.length then some none else none) else σ[j]? := by
  induction vs with
  | nil => simp [wipe]
  | cons v vs ih =>
    simp only [wipe]
    rw [get_set, wipe_length, ih]
    by_cases h : v = j
    · subst h
      simp
    · rw [if_neg h]
      by_cases hj : j ∈ vs
      · rw [if_pos hj, if_pos (List.mem_cons_of_mem _ hj)]
      · rw [if_neg hj, if_neg fun z => (List.mem_cons.mp z).elim (fun e => h e.symm) hj]
theorem wipe_eq {σ σ2 : L2.St} {vs : List Nat} (hl : σ2.length = σ.length) (h : ∀ j : Nat, j ∉ vs → σ2[j]? = (wipe σ vs)[j]?) : wipe σ2 vs = wipe σ vs := by
  apply List.ext_getElem?
  intro j
  by_cases hj : j ∈ vs
  · rw [wipe_get, wipe_get, if_pos hj, if_pos hj, hl]
  · rw [wipe_get, if_neg hj]
    exact h j hj
def wipeE (vs : List Nat) (ρ : Env) : Env := vs.foldr (fun v ρ => ρ.set v .un) ρ
theorem StOk.wipes {K : PySem.W.Frag} {HF H0 H : Hp} {ρ : Env} {σ : L2.St} : ∀ (vs : List Nat), StOk K ct HF H0 H ρ σ → StOk K ct HF H0 H (wipeE vs ρ) (wipe σ vs)
  | [], S => S
  | v :: vs, S => (StOk.wipes vs S).wiped v none
/-- a target's function changes the slots js alone -/
def Kp (js : List Nat) (ft : D → Env → Option Env) : Prop := ∀ d ρ ρ', ft d ρ = some ρ' → ∀ j : Nat, j ∉ js → ρ'[j]? = ρ[j]?
def Kps (js : List Nat) (ft : List D → Env → Option Env) : Prop := ∀ ds ρ ρ', ft ds ρ = some ρ' → ∀ j : Nat, j ∉ js → ρ'[j]? = ρ[j]?
theorem k_name (i : Nat) : Kp [i] (gN i) := fun d ρ ρ' h j hj => by
  cases h
  rw [get_set, if_neg fun z => hj (by simp [z])]
theorem ks_nil : Kps [] gsNil := fun ds ρ ρ' h j _ => by
  cases ds with
  | nil => cases h; rfl
  | cons d ds => cases h
theorem ks_cons {js ks : List Nat} {f : D → Env → Option Env} {fs : List D → Env → Option Env} (h1 : Kp js f) (h2 : Kps ks fs) : Kps (js ++ ks) (gsCons f fs) := fun ds ρ ρ' h j hj => by
  cases ds with
  | nil => cases h
  | cons d ds =>
    obtain ⟨ρ1, h3, h4⟩ := bind_some h
    rw [List.mem_append, not_or] at hj
    rw [h2 _ _ _ h4 j hj.2, h1 _ _ _ h3 j hj.1]
theorem k_tup {js : List Nat} {fs : List D → Env → Option Env} {n : Nat} (h : Kps js fs) : Kp js (gT n fs) := fun d ρ ρ' e j hj => by
  cases d with
  | tup ds =>
    simp only [gT] at e
    split at e
    · exact h _ _ _ e j hj
    · cases e
  | _ => cases e
theorem wipeE_get : ∀ (vs : List Nat) (ρ : Env) (j : Nat), j ∉ vs → (wipeE vs ρ)[j]? = ρ[j]?
  | [], _, _, _ => rfl
  | v :: vs, ρ, j, h => by
    rw [List.mem_cons, not_or] at h
    show ((wipeE vs ρ).set v .un)[j]? = _
    rw [get_set, if_neg fun z => h.1 z.symm]
    exact wipeE_get vs ρ j h.2
def noOwn (vs : List Nat) (ρ : Env) : Bool := vs.all fun v => match ρ[v]? with
  | some (.own _) => false
  | _ => true
theorem noOwn_at {vs : List Nat} {ρ : Env} (h : noOwn vs ρ = true) {i : Nat} {d : D} (hi : ρ[i]? = some (.own d)) : i ∉ vs := fun hm => by
  have := List.all_eq_true.mp h i hm
  rw [hi] at this
  cases this
def lcF (ft : D → Env → Option Env) (fq : Env → Option Bool) (fe : Env → Option D) (ρ : Env) : List D → Option (List D)
  | [] => some []
  | d :: ds => (ft d ρ).bind fun ρ1 => (fq ρ1).bind fun b => if b then (fe ρ1).bind fun y => (lcF ft fq fe ρ ds).map (y :: ·) else lcF ft fq fe ρ ds
noncomputable def fLc (vs : List Nat) (fi : Env → Option (List D)) (ft : D → Env → Option Env) (fq : Env → Option Bool) (fe : Env → Option D) : Env → Option D := fun ρ => (fi ρ).bind fun ds =>
  (lcF ft fq fe (wipeE vs ρ) ds).bind fun es => gd (ds.length ≤ sizeLine ∧ noOwn vs ρ = true) (.lst es)
/-- one's own list, met again under the callers' -/
theorem StOk.keepF {K : PySem.W.Frag} {HF H0 H : Hp} {ρ : Env} {σ : L2.St} {p : Addr} {o : HO} (S : StOk K ct HF H0 H ρ σ) (h : H p = some o) (hF : HF p = none) (h0 : H0 p = none) (ne : ∀ (i : Nat) (e : D) (a : Addr), ρ[i]? = some (.own e) → σ[i]? = some (some (.ref a)) → a ≠ p) :
    StOk K ct (upd HF p o) H0 H ρ σ where
  e0 := S.e0
  ef := fun b x q => by
    by_cases hb : b = p
    · subst hb
      rw [upd_same] at q
      rw [h]
      exact q
    · rw [upd_ne hb] at q
      exact S.ef _ _ q
  dj := fun a u e => by
    by_cases ha : a = p
    · subst ha
      exact h0
    · rw [upd_ne ha] at e
      exact S.dj a u e
  len := S.len
  val := S.val
  own := fun i d e => by
    obtain ⟨a, u, h1, h2, h3, h4, h5⟩ := S.own i d e
    exact ⟨a, u, h1, by rw [upd_ne (ne i d a e h1)]; exact h2, h3, h4, h5⟩
  apart := S.apart
/-- its content changes -/
theorem StOk.writeF {K : PySem.W.Frag} {HF H0 H : Hp} {ρ : Env} {σ : L2.St} {p : Addr} {o o' : HO} (S : StOk K ct (upd HF p o) H0 H ρ σ) : StOk K ct (upd HF p o') H0 (upd H p o') ρ σ where
  e0 := fun b x q => by
    rw [upd_ne (fun z => by
      subst z
      have := S.dj _ o upd_same
      rw [this] at q
      cases q)]
    exact S.e0 _ _ q
  ef := same_updF S.ef
  dj := fun a u e => by
    by_cases ha : a = p
    · subst ha
      exact S.dj _ o upd_same
    · rw [upd_ne ha] at e
      exact S.dj a u (by rw [upd_ne ha]; exact e)
  len := S.len
  val := S.val
  own := fun i d e => by
    obtain ⟨a, u, h1, h2, h3, h4, h5⟩ := S.own i d e
    have ha : a ≠ p := fun z => by
      subst z
      rw [upd_same] at h2
      cases h2
    rw [upd_ne ha] at h2
    exact ⟨a, u, h1, by rw [upd_ne ha]; exact h2, h3, by rw [upd_ne ha]; exact h4, h5⟩
  apart := S.apart
where
  same_updF {HF H : Hp} {p : Addr} {o o' : HO} (e : Same (upd HF p o) H) : Same (upd HF p o') (upd H p o') := fun b x q => by
    by_cases hb : b = p
    · subst hb
      rw [upd_same] at q ⊢
      exact q
    · rw [upd_ne hb] at q ⊢
      exact e b x (by rw [upd_ne hb]; exact q)
/-- it is no more the callers' -/
theorem StOk.dropF {K : PySem.W.Frag} {HF H0 H : Hp} {ρ : Env} {σ : L2.St} {p : Addr} {o : HO} (S : StOk K ct (upd HF p o) H0 H ρ σ) (hF : HF p = none) : StOk K ct HF H0 H ρ σ where
  e0 := S.e0
  ef := fun b x q => S.ef b x (by rw [upd_ne (ne_of_none q hF)]; exact q)
  dj := fun a u e => S.dj a u (by rw [upd_ne (ne_of_none e hF)]; exact e)
  len := S.len
  val := S.val
  own := fun i d e => by
    obtain ⟨a, u, h1, h2, h3, h4, h5⟩ := S.own i d e
    have ha : a ≠ p := fun z => by
      subst z
      rw [upd_same] at h2
      cases h2
    rw [upd_ne ha] at h2
    exact ⟨a, u, h1, h2, h3, h4, h5⟩
  apart := S.apart
theorem lc_run {K : PySem.W.Frag} {js vs : List Nat} {fi : Env → Option (List D)} {ft : D → Env → Option Env} {fq : Env → Option Bool} {fe : Env → Option D} (hjs : ∀ j ∈ js, j ∈ vs) (hk : Kp js ft) {σ : L2.St} {H : Hp} {Q : VK} (h : tO K ct (fLc vs fi ft fq fe) σ H Q) :
    tLc (tI K ct fi) (tG K ct js ft) (tTe K ct fq) (tD K ct fe) vs σ H Q := by
  obtain ⟨HF, H0, ρ, z, S, hf, q⟩ := h
  obtain ⟨ds, hds, hf⟩ := bind_some hf
  obtain ⟨es, hes, hf⟩ := bind_some hf
  obtain ⟨hsz, rfl⟩ := gd_some hf
  obtain ⟨hsz, hno⟩ := hsz
  generalize hρw : wipeE vs ρ = ρw at hes
  refine ⟨HF, H0, ρ, ds, S, hds, fun J H1 H' e1 S1 W D hD => ?_⟩
  have hF1 : HF D = none := S1.freshF hD
  have h01 : H1 D = none := S1.fresh0 hD
  obtain ⟨S2, F⟩ := S1.fresh (d := .lst []) (o := .lst []) hD (show RepL K ct H1 [] [] from RepL.nil)
  refine ⟨fun i m H' => i + m = ds.length ∧ ∃ H2 xs ys rest, Same H1 H2 ∧ H2 D = none ∧ StOk K ct (upd HF D (.lst xs)) H2 H' ρ σ ∧ RepL K ct H2 ys xs ∧ lcF ft fq fe ρw (ds.drop i) = some rest ∧ ys ++ rest = es ∧ ys.length ≤ i,
    ⟨ds.length, by omega, H1, [], [], es, Same.refl _, h01, S2.keepF upd_same hF1 h01 F.ne, RepL.nil, by rw [List.drop_zero]; exact hes, rfl, Nat.le_refl _⟩, fun i m H' => ?_⟩
  rintro ⟨him, H2, xs, ys, rest, e2, h2D, S3, rl, hrest, hes2, hyl⟩
  obtain ⟨hgo, hstop⟩ := W H' (e2.trans S3.e0)
  by_cases hi : i < ds.length
  · rw [List.drop_eq_getElem_cons hi] at hrest
    simp only [lcF] at hrest
    obtain ⟨ρ1, h1, hrest⟩ := bind_some hrest
    obtain ⟨b, hb, hrest⟩ := bind_some hrest
    obtain ⟨g1, g2⟩ := hgo i ds[i] (List.getElem?_eq_getElem hi)
    refine .inr ⟨g1, fun H3 => (i + 1) + (m - 1) = ds.length ∧ ∃ H4 xs ys rest, Same H1 H4 ∧ H4 D = none ∧ StOk K ct (upd HF D (.lst xs)) H4 H3 ρ σ ∧ RepL K ct H4 ys xs ∧ lcF ft fq fe ρw (ds.drop (i + 1)) = some rest ∧ ys ++ rest = es ∧ ys.length ≤ i + 1, fun H3 h3 => ⟨m - 1, by omega, h3⟩, fun x H3 hy => ?_⟩
    obtain ⟨H4, e4, S4, r4⟩ := item_in S3 e2 (g2 x H3 hy)
    have Sw := StOk.wipes vs S4
    rw [hρw] at Sw
    refine ⟨_, H4, ρw, ds[i], ρ1, Sw, r4, h1, fun σ4 l4 k4 S5 => ⟨?_, ?_⟩⟩
    · exact wipe_eq (by rw [l4, wipe_length]) fun j hj => k4 j fun z => hj (hjs j z)
    · refine ⟨_, H4, ρ1, b, S5, hb, fun H5 H5' e5 S6 => ?_⟩
      -- the block's slots are left: the def's own come back
      have back : ∀ {HF' H6 H6' : Hp}, StOk K ct HF' H6 H6' ρ1 σ4 → Same H2 H6 → (∀ xs', HF' = upd HF D (.lst xs') → StOk K ct (upd HF D (.lst xs')) H6 H6' ρ σ) := fun {HF' H6 H6'} T e6 xs' eF => by
        subst eF
        refine ⟨T.e0, T.ef, T.dj, S4.len, fun i d e => ?_, fun i d e => ?_, S4.apart⟩
        · obtain ⟨v, q1, q2⟩ := S3.val i d e
          exact ⟨v, q1, q2.mono e6⟩
        · have hiv := noOwn_at hno e
          have h1i : ρ1[i]? = some (.own d) := by
            rw [hk _ _ _ h1 i fun z => hiv (hjs i z), ← hρw, wipeE_get vs ρ i hiv]
            exact e
          have h4i : σ4[i]? = σ[i]? := by
            rw [k4 i fun z => hiv (hjs i z), wipe_get, if_neg hiv]
          obtain ⟨a, u, q1, q2⟩ := T.own i d h1i
          exact ⟨a, u, h4i ▸ q1, q2⟩
      cases b with
      | false =>
        simp at hrest
        refine iteF ⟨by omega, H5, xs, ys, rest, (e2.trans e4).trans e5, S6.dj _ _ upd_same, back S6 (e4.trans e5) xs rfl, rl.mono (e4.trans e5), hrest, hes2, by omega⟩
      | true =>
        simp only [if_true] at hrest
        obtain ⟨y, hy2, hrest⟩ := bind_some hrest
        obtain ⟨rest2, hr2, rfl⟩ := map_some hrest
        refine iteT ⟨_, H5, ρ1, y, S6, hy2, fun v H6 H6' e6 S7 r7 => ?_⟩
        have hxl : xs.length = ys.length := rl.length
        refine ⟨xs, S7.ef _ _ upd_same, by omega, by omega, H6, xs ++ [v], ys ++ [y], rest2, ((e2.trans e4).trans e5).trans e6, S7.dj _ _ upd_same, (back S7 ((e4.trans e5).trans e6) xs rfl).writeF, (rl.mono ((e4.trans e5).trans e6)).append (RepL.one r7), hr2, by rw [List.append_assoc]; exact hes2, by simp; omega⟩
  · have ei : i = ds.length := by omega
    subst ei
    rw [List.drop_length] at hrest
    cases hrest
    rw [List.append_nil] at hes2
    subst hes2
    refine .inl ⟨hstop, q D (.lst xs) H2 H' (e1.trans e2) (S3.dropF hF1) ⟨hF1, h2D, S3.ef _ _ upd_same, rl, F.ne⟩⟩
end
end PD

/-! Defs: their promises by functions, their calls. -/
namespace PD
open PySem PySem.Spec PyProof.Rows L2
open Classical in
/-- the callers' part, with what the slots own -/
noncomputable def ownF (ρ : Env) (σ : L2.St) (HF H : Hp) : Hp := fun a => if ∃ (i : Nat) (d : D), ρ[i]? = some (.own d) ∧ σ[i]? = some (some (.ref a)) then H a else HF a
section
variable {K : PySem.W.Frag} {ct : Nat → Addr} {HF H0 H : Hp} {ρ : Env} {σ : L2.St}
theorem ownF_at {a : Addr} {i : Nat} {d : D} (h : ρ[i]? = some (.own d)) (hs : σ[i]? = some (some (.ref a))) : ownF ρ σ HF H a = H a := by
  unfold ownF
  rw [if_pos ⟨i, d, h, hs⟩]
theorem StOk.ownF (S : StOk K ct HF H0 H ρ σ) : Same (ownF ρ σ HF H) H ∧ ∀ a o, ownF ρ σ HF H a = some o → H0 a = none := by
  constructor
  · intro a o h
    unfold PD.ownF at h
    split at h
    · exact h
    · exact S.ef a o h
  · intro a o h
    unfold PD.ownF at h
    split at h
    · rename_i hx
      obtain ⟨i, d, h1, h2⟩ := hx
      obtain ⟨b, u, g1, g2, g3, g4, g5⟩ := S.own i d h1
      rw [h2] at g1
      cases g1
      exact g3
    · exact S.dj a o h
theorem StOk.behind (S : StOk K ct HF H0 H ρ σ) {H0' H' : Hp} (e : Same H0 H0') (e0 : Same H0' H') (ef : Same (PD.ownF ρ σ HF H) H') (dj : ∀ a o, PD.ownF ρ σ HF H a = some o → H0' a = none) : StOk K ct HF H0' H' ρ σ := by
  have inF : ∀ a o, HF a = some o → PD.ownF ρ σ HF H a = some o := fun a o h => by
    unfold PD.ownF
    split
    · exact S.ef a o h
    · exact h
  refine ⟨e0, fun a o h => ef a o (inF a o h), fun a o h => dj a o (inF a o h), S.len, fun i d h => ?_, fun i d h => ?_, S.apart⟩
  · obtain ⟨v, h1, h2⟩ := S.val i d h
    exact ⟨v, h1, h2.mono e⟩
  · obtain ⟨a, u, h1, h2, h3, h4, h5⟩ := S.own i d h
    have q : PD.ownF ρ σ HF H a = some u := by rw [ownF_at h h1]; exact h4
    exact ⟨a, u, h1, h2, dj a u q, ef a u q, h5.mono e⟩
end
section
variable (K : PySem.W.Frag) (ct : Nat → Addr)
/-- a def that gives F of its arguments' values -/
def spD (n : Nat) (F : List D → Option D) : Sp := fun vs H Q _ => ∃ HF H0 ds d, vs.length = n ∧ Same H0 H ∧ Same HF H ∧ (∀ a o, HF a = some o → H0 a = none) ∧ RepL K ct H0 ds vs ∧ F ds = some d ∧
  ∀ v H0' H', Same H0 H0' → Same H0' H' → Same HF H' → (∀ a o, HF a = some o → H0' a = none) → Rep K ct H0' d v → Q v H'
end
/-- a body's value -/
def runF (N : Nat) (f : Env → Option Out) (ds : List D) : Option D := match f (ds.map .val ++ List.replicate (N - ds.length) .un) with
  | some (.rt d) => some d
  | some (.nx _) => some .non
  | _ => none
section
variable {X : Cx} {ct : Nat → Addr} {k : Nat} {f : Addr} {fd : FuncData} {ps : List Str} {x : Str} {p pos : Pos} {e : Expr} {es : List Expr} {fa : Env → Option (List D)} {F : List D → Option D} {n : Nat}
def fCall (F : List D → Option D) (dd : List D) (fa : Env → Option (List D)) : Env → Option D := fun ρ => (fa ρ).bind fun ds => F (ds ++ dd)
theorem call_run {K : PySem.W.Frag} {dvs : List V} {dd : List D} {E : XK} (hd : ∀ H, RepL K ct H dd dvs) {t : TA} (ht : ∀ σ H Q, tAr K ct fa σ H Q → t σ H Q) {σ : L2.St} {H : Hp} {Q : VK}
    (hn : ∀ ρ ds, fa ρ = some ds → ds.length + dd.length = n) (h : tD K ct (fCall F dd fa) σ H Q) : tCall (spD K ct n F) dvs E t σ H Q := by
  obtain ⟨HF, H0, ρ, z, S, hf, q⟩ := h
  obtain ⟨ds, hds, hz⟩ := bind_some hf
  refine ht _ _ _ ⟨HF, H0, ρ, ds, S, hds, fun vs H1 H' e1 S1 r1 => ?_⟩
  obtain ⟨hF, dj⟩ := S1.ownF
  refine ⟨PD.ownF ρ σ HF H', H1, ds ++ dd, z, ?_, S1.e0, hF, dj, r1.append (hd H1), hz, fun v H2 H'' e2 e3 e4 d4 r2 => ?_⟩
  · rw [List.length_append, r1.length, (hd H1).length]
    exact hn ρ ds hds
  · exact q v H2 H'' (e1.trans e2) (S1.behind e2 e3 e4 d4) r2
theorem aCons_len {fa : Env → Option D} {fr : Env → Option (List D)} {m : Nat} (h : ∀ ρ ds, fr ρ = some ds → ds.length = m) : ∀ ρ ds, aCons fa fr ρ = some ds → ds.length = m + 1 := fun ρ ds hd => by
  obtain ⟨x, hx, hd⟩ := bind_some hd
  obtain ⟨xs, hxs, hd⟩ := bind_some hd
  cases hd
  rw [List.length_cons, h ρ xs hxs]
theorem aNil_len : ∀ ρ ds, aNil ρ = some ds → ds.length = 0 := fun ρ ds h => by
  cases h
  rfl
theorem e_call {ds : List Value} {dvs : List V} {dd : List D} (G : FnOk X.prog X.w X.K X.mg X.base CX0 k f fd ps (spD X.K ct n F)) (hr : Room k X.A) (hg : Gl X x) (hm : X.mg x = some (.ref f)) (hk : PySem.W.keepIn X.K (.ref f) = true) (hb : Binds X.K fd ps ds) (hd : Vals dvs ds)
    (hdd : ∀ H, RepL X.K ct H dd dvs) (ha : PA X (e :: es) (tAr X.K ct fa)) (hn : ∀ ρ ds, fa ρ = some ds → ds.length + dd.length = n) (he : starEach (e :: es) X.env = (false, eval e X.env) :: starEach es X.env := by rfl) (hpl : (backTo pos (starEach es X.env)).any (·.1) = false := by rfl)
    (hdb : (x == ("__debug__" : Str)) = false := by decide +kernel) : PE X (.Call (.Name x p) (e :: es) [] pos) (tD X.K ct (fCall F dd fa)) :=
  (pe_call G hr hg hm hk hb hd pass0 ha hdb he hpl).weak fun σ H Q h => call_run hdd (fun _ _ _ h => h) hn h
theorem e_call0 (G : FnOk X.prog X.w X.K X.mg X.base CX0 k f fd ps (spD X.K ct 0 F)) (hr : Room k X.A) (hg : Gl X x) (hm : X.mg x = some (.ref f)) (hk : PySem.W.keepIn X.K (.ref f) = true) (hb : Binds X.K fd ps [])
    (hdb : (x == ("__debug__" : Str)) = false := by decide +kernel) : PE X (.Call (.Name x p) [] [] pos) (tD X.K ct (fCall F [] aNil)) :=
  (pe_call0 G hr hg hm hk hb .nil pass0 hdb).weak fun σ H Q h => call_run (fun _ => RepL.nil) (fun σ H Q ⟨HF, H0, ρ, ds, S, hf, q⟩ => by cases hf; exact q [] H0 H (Same.refl _) S RepL.nil) (fun ρ ds h => by cases h; rfl) h
end
section
variable {P : Program} {w : World} {K : PySem.W.Frag} {mg : Str → Option Value} {base : Heap} {ct : Nat → Addr}
theorem start_ok {HF H0 H : Hp} {ds : List D} {vs : List V} {N : List Str} (h0 : Same H0 H) (hF : Same HF H) (dj : ∀ a o, HF a = some o → H0 a = none) (r : RepL K ct H0 ds vs) (hn : vs.length ≤ N.length) :
    StOk K ct HF H0 H (ds.map .val ++ List.replicate (N.length - ds.length) .un) (L2.start N vs) where
  e0 := h0
  ef := hF
  dj := dj
  len := by
    unfold L2.start
    rw [List.length_append, List.length_append, List.length_map, List.length_map, List.length_replicate, List.length_replicate, r.length]
  val := fun i d h => by
    rw [List.getElem?_append] at h
    split at h
    · rename_i hi
      rw [List.length_map] at hi
      rw [List.getElem?_map] at h
      obtain ⟨d', hd, e⟩ := map_some h
      cases e
      obtain ⟨v, hv, rv⟩ := r.get hd
      refine ⟨v, ?_, rv⟩
      unfold L2.start
      rw [List.getElem?_append_left (by rw [List.length_map, r.length]; exact hi), List.getElem?_map, hv]
      rfl
    · rw [List.getElem?_replicate] at h
      split at h <;> cases h
  own := fun i d h => by
    rw [List.getElem?_append] at h
    split at h
    · rw [List.getElem?_map] at h
      obtain ⟨d', hd, e⟩ := map_some h
      cases e
    · rw [List.getElem?_replicate] at h
      split at h <;> cases h
  apart := fun i j d e a h => by
    rw [List.getElem?_append] at h
    split at h
    · rw [List.getElem?_map] at h
      obtain ⟨d', hd, e⟩ := map_some h
      cases e
    · rw [List.getElem?_replicate] at h
      split at h <;> cases h
/-- THE RULE for a def -/
theorem fn_ok {x qual : Str} {st : Stmt} {f : Addr} {fd : FuncData} {N ps : List Str} {k : Nat} {fb : Env → Option Out} (F : Fun K x qual st f fd) (S : FnScope N ps (defScope st))
    (hb : ∀ (cdv : Value) (A : Around) (outer : List PySem.Env) (s : Shared) (H : Hp) (E : XK), Room k (A.deeper (envOfC qual (defScope st) s.heap.objs.size f cdv)) →
      PSs (cxOf CX0 P w K mg base N qual (defScope st) f cdv A outer s H E).nox (defBody st) (tSt K ct fb)) (hN : ps.length ≤ N.length := by decide) :
    FnOk P w K mg base CX0 (k + 1) f fd ps (spD K ct ps.length (runF N.length fb)) := by
  refine F.ok S (fun vs H Q E h => ?_) (fun cdv A outer s H vs Q E hr h => ?_)
  · obtain ⟨HF, H0, ds, d, hl, _⟩ := h
    exact hl
  · obtain ⟨HF, H0, ds, d, hl, h0, hF, dj, r, hf, q⟩ := h
    refine ⟨_, hb cdv A outer s H E hr, ?_⟩
    unfold runF at hf
    split at hf
    · rename_i d' hd
      cases hf
      exact ⟨HF, H0, _, _, start_ok h0 hF dj r (by rw [hl]; exact hN), hd, fun v H1 H' e1 e2 e3 d3 r1 => q v H1 H' e1 e2 e3 d3 r1⟩
    · rename_i ρ hd
      cases hf
      exact ⟨HF, H0, _, _, start_ok h0 hF dj r (by rw [hl]; exact hN), hd, fun σ H1 H' e1 S1 => q .non H1 H' e1 S1.e0 S1.ef S1.dj (by simp only [Rep])⟩
    · cases hf
/-- another function that says as much -/
theorem spD_imp {n : Nat} {F G : List D → Option D} (h : ∀ ds d, G ds = some d → F ds = some d) : ∀ vs H Q E, spD K ct n G vs H Q E → spD K ct n F vs H Q E := fun vs H Q E ⟨HF, H0, ds, d, h1, h2, h3, h4, h5, h6, h7⟩ => ⟨HF, H0, ds, d, h1, h2, h3, h4, h5, h _ _ h6, h7⟩
/-- the law's own end -/
theorem law_end {F : List D → Option D} {m : Nat} (h : ∀ ns : List Int, ns.length ≤ m → F [.frl (ns.map .int)] = some (.bl true)) {H : Hp} {a : Addr} {ns : List Int} (hl : ns.length ≤ m) (hS : SqL K H a (ns.map V.int)) :
    spD K ct 1 F [.ref a] H (fun v _ => v = .bl true) fun _ _ _ => False :=
  ⟨fun _ => none, H, _, _, rfl, (fun _ _ h => h), (fun _ _ h => by cases h), (fun _ _ h => by cases h), RepL.one (by simp only [Rep]; exact ⟨a, _, rfl, hS, RepL.of_ints ns⟩), h ns hl, fun v H0' H' _ _ _ _ r => by simpa only [Rep] using r⟩
end
end PD

/-! sorted of a list or a tuple of alike data; list.count of texts. -/
namespace PD
open PySem PySem.Spec PyProof.Rows L2

section
variable {prog : Program} {w : World} {A : Around} {E : Value → Shared → Prop} {s : Shared}
/-- what sorted makes first: a list of the items -/
theorem collect_sq {l : Addr} {o : Obj} {T : String} {n : Nat} {vs : List Value} {Q : List Value → Shared → Prop} (hT : T = "list" ∨ T = "tuple") (ho : s.heap.get? l = some o) (hc : o.cls = .type T) (hd : o.data = .seq vs.toArray n) (hz : vs.length ≤ sizeLine)
    (h : Q vs { s with heap := (s.heap.push (seqObj "list" #[] 0)).update s.heap.objs.size (Obj.mapSeq (· ++ vs.toArray)) }) : wpAny (model prog w) A (collect (.ref l)) Q E s := by
  rcases hT with rfl | rfl
  · exact collect_list ⟨o, ho, hc, n, hd⟩ h hz
  · unfold collect
    refine wpAny_bind (wpAny_runValue (codeAny_builtin entry_proto_collect' ?_))
    refine wpAny_bind (M := model prog w) (wpAny_newList (wpAny_pure ⟨Code.quiet_builtin _ (by decide +kernel), codeAny_builtin entry_list_iadd' ?_⟩))
    show wpAny _ _ (Builtin.List.listExtendWith (.ref s.heap.objs.size) (.ref l) (.ref s.heap.objs.size)) _ _ { s with heap := s.heap.push (seqObj "list" #[] 0) }
    unfold Builtin.List.listExtendWith
    have h2 : (s.heap.push (seqObj "list" #[] 0)).get? l = some o := Heap.get?_push_of_some _ ho
    have h3 : (s.heap.push (seqObj "list" #[] 0)).get? s.heap.objs.size = some (seqObj "list" #[] 0) := Heap.get?_push_size _ rfl
    refine wpAny_bind (wpAny_typeOf (T := "tuple") ⟨o, h2, hc⟩ ?_)
    rw [if_pos (by rw [show (Value.type "tuple" == Value.type "tuple") = true from by rfl]; simp)]
    refine wpAny_bind (listItems_at h2 hd (wpAny_bind (listItems_at (xs := #[]) (n := 0) h3 rfl ?_)))
    rw [if_neg (by simp)]
    refine wpAny_bind (listUpdate_at (xs := #[]) (n := 0) h3 rfl (wpAny_pure ?_) (Nat.zero_le _) (by simp only [Array.size_append, List.size_toArray, List.size_toArray, List.length_nil, Array.size_empty]; omega))
    refine wpAny_bind (wpAny_load (get?_update_seq h3 _) ?_)
    have e : ((#[] : Array Value) ++ vs.toArray).toList = vs := by simp
    exact wpAny_pure (by rw [e]; exact h)
/-- sorted of a list or a tuple whose items read as alike data -/
theorem sorted_sq {β : Type} {R : Value → β → Prop} {enc : β → PyData} {bs : List β} {l : Addr} {o : Obj} {T : String} {n : Nat} {vs : List Value} {Q : Value → Shared → Prop} (hT : T = "list" ∨ T = "tuple") (ho : s.heap.get? l = some o) (hc : o.cls = .type T) (hd : o.data = .seq vs.toArray n)
    (e : PySem.W.EachIs R vs bs) (er : PySem.W.EachIs (fun v b => ∃ as, Reads s.heap v (enc b) as) vs bs) (hal : PySem.W.AllAlike (bs.map enc)) (hk : PySem.W.Sortable (bs.map enc)) (hL : bs.length ≤ sizeLine) (hu : ∀ b, b ∈ bs → A.units + 2 + (enc b).depth < cLine)
    (h : ∀ out, out.length = bs.length → PySem.W.EachIs R out (bs.mergeSort (PySem.W.dataLe false enc)) → Q (.ref (s.heap.objs.size + 1)) { s with heap := sortedAll s.heap vs (List.toArray out) }) :
    wpAny (model prog w) A (call (.builtin "sorted") [.ref l]) Q E s := by
  have hvs : vs.length ≤ sizeLine := by rw [e.length]; exact hL
  refine PySem.Calls.call_function_entry kind_sorted plain_sorted entry_sorted (args_sorted1 _) ?_
  unfold Builtin.«sorted»
  refine wpAny_bind (m := checkCount "sorted" 1 1 _) (wpAny_pure (wpAny_bind (collect_sq hT ho hc hd hvs (wpAny_bind (wpAny_newList ?_ hvs)))))
  have er' : PySem.W.EachIs (fun v b => ∃ as, Reads (PySem.W.sortingHeap (PySem.W.copyHeap s.heap vs) (s.heap.objs.size + 1) vs) v (enc b) as) vs bs := er.mono fun _ _ ⟨as, r⟩ => ⟨as, PyProof.Rows.Reads.keeps (fun _ _ => PySem.W.sorting_copy_old) r⟩
  have hsz : ((s.heap.push (seqObj "list" #[] 0)).update s.heap.objs.size (Obj.mapSeq (· ++ vs.toArray))).objs.size = s.heap.objs.size + 1 := by rw [Heap.size_update, size_push']
  show wpAny _ _ _ _ _ { s with heap := PySem.W.copyHeap s.heap vs }
  rw [hsz]
  have body : ∀ E' : Value → Shared → Prop, wpAny (model prog w) A.in1.in1 (Builtin.«list.sort» ⟨[.ref (s.heap.objs.size + 1)], []⟩) (fun f s' => f = .done (.ret .none) ∧ Q (.ref (s.heap.objs.size + 1)) s') E' { s with heap := PySem.W.copyHeap s.heap vs } := fun E' =>
    PySem.W.list_sort_vals (s := { s with heap := PySem.W.copyHeap s.heap vs }) (PySem.W.copyHeap_at s.heap vs)
      (PySem.W.SortsAt.data (s := { s with heap := PySem.W.sortingHeap (PySem.W.copyHeap s.heap vs) (s.heap.objs.size + 1) vs }) (PySem.W.each_map (R := fun v d => ∃ as, Reads (PySem.W.sortingHeap (PySem.W.copyHeap s.heap vs) (s.heap.objs.size + 1) vs) v d as) enc er') hal hk (PySem.W.bound_map hu)) hvs
      ⟨rfl, h _ (by rw [PySem.W.sortVals_length false rfl]; exact e.length) (PySem.W.sortVals_data false e er' hal)⟩
  refine wpAny_bind (wpAny_holding (wpAny_call_entry slot_list_sort ⟨_, PySem.W.copyHeap_at s.heap vs, rfl⟩ entry_list_sort ?_ (args_list_sort _)))
  refine wpAny_mono (body _) (fun f s' hf => ?_) fun _ _ z => z
  obtain ⟨rfl, hq⟩ := hf
  exact ⟨_, rfl, wpAny_pure ⟨_, rfl, hq⟩⟩
end
section
variable {X : Cx}
def rSortA (K : PySem.W.Frag) : List V → Hp → VK → Prop := fun xs H Q => ∃ (a : Addr) (ys : List V) (ds : List D) (R : D → V → Prop), xs = [.ref a] ∧ (SqL K H a ys ∨ SqT K H a ys) ∧ Paired R ds ys ∧ (∀ d y, R d y → d ∈ ds → Dp K H y (toPy d)) ∧
  PySem.W.AllAlike (ds.map toPy) ∧ PySem.W.Sortable (ds.map toPy) ∧ (∀ d ∈ ds, (toPy d).depth ≤ 40) ∧ ∀ zs p, Paired R (ds.mergeSort (PySem.W.dataLe false toPy)) zs → H p = none → Q (.ref p) (upd H p (.lst zs))
theorem each_of : ∀ {R : D → V → Prop} {ds : List D} {ys : List V} {us : List Value}, Paired R ds ys → Vals ys us → PySem.W.EachIs (fun u d => ∃ y, R d y ∧ RelV y u) us ds
  | _, _, _, _, .nil, .nil => .nil
  | _, _, _, _, .cons r t, .cons q u => .cons ⟨_, r, q⟩ (each_of t u)
theorem of_each : ∀ {R : D → V → Prop} {ds : List D} {us : List Value}, PySem.W.EachIs (fun u d => ∃ y, R d y ∧ RelV y u) us ds → ∃ ys, Paired R ds ys ∧ Vals ys us
  | _, _, _, .nil => ⟨[], .nil, .nil⟩
  | _, _, _, .cons ⟨y, r, q⟩ t => by
    obtain ⟨ys, h1, h2⟩ := of_each t
    exact ⟨y :: ys, .cons r h1, .cons q h2⟩
theorem call_sortA (hu : X.A.units + 64 < cLine) : CallR X (.builtin "sorted") (rSortA X.K) := by
  intro pins s σ H xs us Q I r h
  obtain ⟨a, ys, ds, R, rfl, hq, hp, hdp, hal, hk, hdep, q⟩ := h
  obtain ⟨u, rfl, rx⟩ := vals1 r
  cases rx
  have main : ∀ (its : List Value) (o : Obj) (T : String) (n : Nat), (T = "list" ∨ T = "tuple") → Vals ys its → ys.length ≤ sizeLine → s.heap.get? a = some o → o.cls = .type T → o.data = .seq its.toArray n →
      wpAny (model X.prog X.w) X.A (call (.builtin "sorted") [.ref a]) (EP X pins σ Q) X.xe s := fun its o T n hT rv hz ho hc hd => by
    have e := each_of hp rv
    have hlen : ds.length ≤ sizeLine := by rw [hp.length]; exact hz
    refine sorted_sq (enc := toPy) hT ho hc hd e ?_ hal hk hlen (fun b hb => ?_) fun out ho2 he => ?_
    · refine (each_mem' e).mono fun v b ⟨⟨y, h1, h2⟩, hb⟩ => ?_
      exact Dp.reads I (toPy b) y v (hdp b y h1 hb) h2
    · have := hdep b hb
      omega
    · obtain ⟨zs, h1, h2⟩ := of_each he
      obtain ⟨ep, hat⟩ := sortedAll_at s.heap its out.toArray
      have hzl : zs.length ≤ sizeLine := by
        rw [← h1.length, List.length_mergeSort]
        exact hlen
      exact ⟨.ref _, upd H (s.heap.objs.size + 1) (.lst zs), I.laid (t' := s.toks) (fun _ _ => sortedAll_old) (Nat.le_succ _) ⟨hzl, out, ep, h2, hat⟩, rfl, q zs _ h1 (I.hok.fresh (Nat.le_succ _))⟩
  rcases hq with hq | hq
  · obtain ⟨its, rv, pl, hz⟩ := I.list hq
    obtain ⟨o, ho, hc, n, hd⟩ := pl.isList
    exact main its o "list" n (.inl rfl) rv hz ho hc hd
  · obtain ⟨its, rv, pl, hz⟩ := I.tuple hq
    obtain ⟨o, ho, hc, n, hd⟩ := pl
    exact main its o "tuple" n (.inr rfl) rv hz ho hc hd
where
  each_mem' {R : Value → D → Prop} : ∀ {us : List Value} {ds : List D}, PySem.W.EachIs R us ds → PySem.W.EachIs (fun v b => R v b ∧ b ∈ ds) us ds
    | _, _, .nil => .nil
    | _, _, .cons h t => .cons ⟨h, List.mem_cons_self⟩ ((each_mem' t).mono fun _ _ z => ⟨z.1, List.mem_cons_of_mem _ z.2⟩)
end
section
variable {K : PySem.W.Frag} {ct : Nat → Addr}
/-- what sorted takes here: alike data without objects, tuples that are not empty -/
def SortOk (ds : List D) : Prop := plainL ds = true ∧ PySem.W.AllAlike (ds.map toPy) ∧ PySem.W.Sortable (ds.map toPy) ∧ ∀ d ∈ ds, (toPy d).depth ≤ 40
open Classical in
noncomputable def sortedD (x : D) : Option D := (seqD x).bind fun ds => if SortOk ds then some (.lst (ds.mergeSort (PySem.W.dataLe false toPy))) else none
theorem plainL_mem : ∀ {ds : List D} {d : D}, plainL ds = true → d ∈ ds → plainD d = true
  | e :: ds, d, h, hm => by
    simp only [plainL, Bool.and_eq_true] at h
    rcases List.mem_cons.mp hm with rfl | hm
    · exact h.1
    · exact plainL_mem h.2 hm
theorem RepL.paired {H : Hp} : ∀ {ds : List D} {xs : List V}, RepL K ct H ds xs → Paired (fun d y => Rep K ct H d y) ds xs
  | [], _, h => by rw [h.of_nil]; exact .nil
  | d :: ds, _, h => by
    obtain ⟨y, ys, rfl, hd, hl⟩ := h.uncons
    exact .cons hd (RepL.paired hl)
theorem RepL.of_paired {H : Hp} : ∀ {ds : List D} {xs : List V}, Paired (fun d y => Rep K ct H d y) ds xs → RepL K ct H ds xs
  | _, _, .nil => RepL.nil
  | _, _, .cons h t => RepL.cons h (RepL.of_paired t)
theorem sorted_ok : Fn1O K ct (rSortA K) sortedD := fun HF H0 H ρ σ x z v Q S hx hz q => by
  unfold sortedD at hz
  obtain ⟨ds, hs, hz⟩ := bind_some hz
  split at hz
  · rename_i hok
    cases hz
    obtain ⟨a, xs, rfl, h, r⟩ := hx.seq S hs
    refine ⟨a, xs, ds, fun d y => Rep K ct H0 d y, rfl, h, r.paired, fun d y hr hm => dp_of (hr.mono S.e0) (plainL_mem hok.1 hm), hok.2.1, hok.2.2.1, hok.2.2.2, fun zs p hz hp => ?_⟩
    obtain ⟨S2, F⟩ := S.fresh (d := .lst _) (o := .lst zs) hp (RepL.of_paired hz)
    exact q _ _ _ _ (Same.refl _) S2 F
  · cases hz

/-! ### list.count of a text -/
def rCntS (K : PySem.W.Frag) : V → List V → Hp → VK → Prop := fun x xs H Q => ∃ (p : Addr) (ns : List Str) (k : Str), x = .ref p ∧ xs = [.str k] ∧ SqL K H p (ns.map V.str) ∧ Q (.int (ns.count k : Nat)) H
theorem countIn_strs (k : Str) : ∀ ns : List Str, countIn (.str k) (ns.map PyData.str) = ((ns.count k : Nat) : Int)
  | [] => rfl
  | n :: ns => by
    rw [List.map_cons, countIn, countIn_strs k ns, List.count_cons]
    simp only [same]
    rcases Bool.eq_false_or_eq_true (n == k) with hb | hb <;> simp only [hb, Bool.false_eq_true, if_true, if_false] <;> push_cast <;> omega
theorem mt_countS {X : Cx} : MtR X "list.count" (rCntS X.K) := by
  intro pins s σ H x xs v us Q I rx rxs h
  obtain ⟨p, ns, k, rfl, rfl, hs, q⟩ := h
  cases rx
  obtain ⟨u, rfl, ru⟩ := rxs.one
  obtain ⟨t, rfl⟩ := ru
  obtain ⟨its, rv, hl, hz⟩ := I.list hs
  refine count_list_strs hl.isList rv.strs ?_
  rw [countIn_strs]
  exact ⟨.int (ns.count k : Nat), H, I.tok _, ⟨_, rfl⟩, q⟩
def cntD (x y : D) : Option D := match y with
  | .str k => ((lstOf x).bind strsOf).map fun ns => .int (ns.count k : Nat)
  | _ => none
theorem cnt_ok : Op2 K ct (fun x y H Q => rCntS K x [y] H Q) cntD := fun HF H0 H ρ σ x y z v u Q S hx hy hz q => by
  unfold cntD at hz
  split at hz
  · rename_i k
    obtain ⟨ns, hn, rfl⟩ := map_some hz
    obtain ⟨ds, hd, hn⟩ := bind_some hn
    have e := strsOf_some hn
    subst e
    obtain ⟨a, xs, rfl, h, r⟩ := hx.lstOf S hd
    have e := r.strs
    subst e
    exact ⟨a, ns, k, rfl, by rw [hy.str S], h, q _ _ _ (Same.refl _) S (by simp only [Rep])⟩
  · cases hz
end
section
variable {X : Cx} {ct : Nat → Addr} {o e : Expr} {es : List Expr} {fa fb : Env → Option D} {T name id : String} {apos cpos : Pos} {r : V → List V → Hp → VK → Prop} {g : D → D → Option D}
/-- o.m(e), a method of a built-in type -/
theorem e_bm1 (pa : PlainAttrs T) (slot : PySem.Slot T name id) (hty : typeOf (.builtin id) = pure (.type "method_descriptor")) (hm : MtR X id r) (hg : Op2 X.K ct (fun x y H Q => r x [y] H Q) g) (ho : PE X o (tBo X.K ct fa)) (ha : PE X e (tBo X.K ct fb))
    (hT : ∀ HF H0 H ρ σ (x y z : D) (v : V), StOk X.K ct HF H0 H ρ σ → BRep X.K ct ρ σ H0 x v → g x y = some z → tyV X.K T v H)
    (hE : PE X (.Call (.Attribute o name apos) [e] [] cpos) (tBM X.K T r (tBo X.K ct fa) (tCons (tBo X.K ct fb) tNil))) :
    PE X (.Call (.Attribute o name apos) [e] [] cpos) (tD X.K ct (f2 fa fb g)) := hE.weak fun σ H Q => by
  rintro ⟨HF, H0, ρ, z, S, hf, q⟩
  obtain ⟨x, hx, hf⟩ := bind_some hf
  obtain ⟨y, hy, hz⟩ := bind_some hf
  refine ⟨HF, H0, ρ, x, S, hx, fun v H1 H' e1 S1 r1 => ⟨hT _ _ _ _ _ _ _ _ _ S1 r1 hz, HF, H1, ρ, y, S1, hy, fun u H2 H'' e2 S2 r2 => ?_⟩⟩
  exact hg HF H2 H'' ρ σ x y z v u Q S2 (r1.mono e2) r2 hz fun w H3 H3' e3 S3 r3 => q w H3 H3' ((e1.trans e2).trans e3) S3 r3
theorem cnt_ty {K : PySem.W.Frag} : ∀ HF H0 H ρ σ (x y z : D) (v : V), StOk K ct HF H0 H ρ σ → BRep K ct ρ σ H0 x v → cntD x y = some z → tyV K "list" v H := fun HF H0 H ρ σ x y z v S hx hz => by
  unfold cntD at hz
  split at hz
  · obtain ⟨ns, hn, _⟩ := map_some hz
    obtain ⟨ds, hd, hn⟩ := bind_some hn
    obtain ⟨a, xs, rfl, h, r⟩ := hx.lstOf S hd
    exact .inl ⟨rfl, xs, h⟩
  · cases hz
end
end PD

/-! Short forms for the printed derivations. -/
namespace PD
open PySem PySem.Spec PyProof.Rows L2

section
variable {X : Cx} {ct : Nat → Addr} {e a b c : Expr} {es : List Expr} {pos : Pos} {fa fb fc : Env → Option D}
theorem d_o {K : PySem.W.Frag} {σ : L2.St} {H : Hp} {Q : VK} (h : tD K ct fa σ H Q) : tO K ct fa σ H Q := by
  obtain ⟨HF, H0, ρ, d, S, hf, q⟩ := h
  refine ⟨HF, H0, ρ, d, S, hf, fun p o H0' H' e1 S1 F => ?_⟩
  obtain ⟨e2, S2, r⟩ := F.give S1
  exact q _ _ _ (e1.trans e2) S2 r
theorem e_chain {op op' : CmpOp} {r r' : R2} {g g' : D → D → Option D} (ho : OpR X (compareOp op) r) (hg : Op2 X.K ct r g) (ho' : OpR X (compareOp op') r') (hg' : Op2 X.K ct r' g') (ha : PE X a (tBo X.K ct fa)) (hb : PE X b (tBo X.K ct fb)) (hc : PE X c (tBo X.K ct fc))
    (hm : lastMarks [op, op'] [b, c] = false := by with_unfolding_all rfl) : PE X (.Compare a [op, op'] [b, c] pos) (tD X.K ct (fChain fa fb fc g g')) := (pe_chain ho ho' ha hb hc hm).weak fun _ _ _ => chain hg hg'
theorem t_chain {op op' : CmpOp} {r r' : R2} {g g' : D → D → Option D} (ho : OpR X (compareOp op) r) (hg : Op2 X.K ct r g) (ho' : OpR X (compareOp op') r') (hg' : Op2 X.K ct r' g') (ha : PE X a (tBo X.K ct fa)) (hb : PE X b (tBo X.K ct fb)) (hc : PE X c (tBo X.K ct fc))
    (hm : lastMarks [op, op'] [b, c] = false := by with_unfolding_all rfl) : PT X (.Compare a [op, op'] [b, c] pos) (tTe X.K ct (fT (fChain fa fb fc g g'))) := (pt_chain ho ho' ha hb hc hm).weak fun σ H Q h => chain hg hg' (t_of h)
def qYes : Env → Option Bool := fun _ => some true
theorem _root_.L2.PTs.weak {es : List Expr} {t t' : TT} (h : PTs X es t) (w : ∀ σ H Q, t' σ H Q → t σ H Q) : PTs X es t' := ⟨fun pins s σ H Q I q => h.run pins s σ H Q I (w _ _ _ q)⟩
theorem q_nil : PTs X [] (tTe X.K ct qYes) := pts_nil.weak fun σ H Q => by
  rintro ⟨HF, H0, ρ, b, S, hf, q⟩
  cases hf
  exact q H0 H (Same.refl _) S
theorem q_one {ft : Env → Option Bool} (h : PT X c (tTe X.K ct ft)) : PTs X [c] (tTe X.K ct ft) := pts_one h
section
variable {elt tg iter : Expr} {ifs : List Expr} {scope : Scope} {own : List (Str × Nat)} {js : List Nat} {fi : Env → Option (List D)} {ft : D → Env → Option Env} {fq : Env → Option Bool} {fe : Env → Option D}
theorem o_lc (hc : X.calm = true) (hN : X.N.Nodup) (ok : blkC X.N X.env.scope scope own = true) (hjs : (js.all fun j => decide (j ∈ own.map (·.2))) = true) (hk : Kp js ft) (hi : PI X tg iter (tI X.K ct fi))
    (hg : ∀ (s : Shared) (H : Hp) (C : Addr) (cl : List (Str × Addr)) (fp : List Addr), PG (X.blk s H scope (compEnvC scope cl C X.env) fp) tg (tG X.K ct js ft)) (ht : ∀ (s : Shared) (H : Hp) (C : Addr) (cl : List (Str × Addr)) (fp : List Addr), PTs (X.blk s H scope (compEnvC scope cl C X.env) fp) ifs (tTe X.K ct fq))
    (he : ∀ (s : Shared) (H : Hp) (C : Addr) (cl : List (Str × Addr)) (fp : List Addr), PE (X.blk s H scope (compEnvC scope cl C X.env) fp) elt (tD X.K ct fe)) (hs : ∀ x, foldedSetIterable iter X.env x = pure x := by intro _; rfl) :
    PE X (.ListComp elt [⟨tg, iter, ifs, 0⟩] scope pos) (tO X.K ct (fLc (own.map (·.2)) fi ft fq fe)) :=
  (pe_lc hc hN hi (blkOk_by ok) hg ht he hs).weak fun σ H Q h => lc_run (fun j hj => of_decide_eq_true (List.all_eq_true.mp hjs j hj)) hk h
theorem s_asgLc {i : Nat} {y : Str} {py spos : Pos} (hc : X.calm = true) (hN : X.N.Nodup) (hy : X.N[i]? = some y) (hyl : X.env.scope.names.lookup y = some .local) (hsw : swapsWith (.ListComp elt [⟨tg, iter, ifs, 0⟩] scope pos) (some (.Name y py)) spos.line X.env = pure true)
    (ok : blkC X.N X.env.scope scope own = true) (hjs : (js.all fun j => decide (j ∈ own.map (·.2))) = true) (hk : Kp js ft) (hi : PI X tg iter (tI X.K ct fi))
    (hg : ∀ (s : Shared) (H : Hp) (C : Addr) (cl : List (Str × Addr)) (fp : List Addr), PG (X.blk s H scope (compEnvC scope cl C X.env) fp) tg (tG X.K ct js ft)) (ht : ∀ (s : Shared) (H : Hp) (C : Addr) (cl : List (Str × Addr)) (fp : List Addr), PTs (X.blk s H scope (compEnvC scope cl C X.env) fp) ifs (tTe X.K ct fq))
    (he : ∀ (s : Shared) (H : Hp) (C : Addr) (cl : List (Str × Addr)) (fp : List Addr), PE (X.blk s H scope (compEnvC scope cl C X.env) fp) elt (tD X.K ct fe)) (hs : ∀ x, foldedSetIterable iter X.env x = pure x := by intro _; rfl) :
    PS X (.Assign [.Name y py] (.ListComp elt [⟨tg, iter, ifs, 0⟩] scope pos) spos) (tSt X.K ct (sAsg (fLc (own.map (·.2)) fi ft fq fe) (gN i))) :=
  s_asgIn (ps_setLc hc hN hy hyl hsw hi (blkOk_by ok) hg ht he hs) fun σ H Q h => lc_run (fun j hj => of_decide_eq_true (List.all_eq_true.mp hjs j hj)) hk (d_o h)
theorem s_ownLc {i : Nat} {y : Str} {py spos : Pos} (hc : X.calm = true) (hN : X.N.Nodup) (hy : X.N[i]? = some y) (hyl : X.env.scope.names.lookup y = some .local) (hsw : swapsWith (.ListComp elt [⟨tg, iter, ifs, 0⟩] scope pos) (some (.Name y py)) spos.line X.env = pure true)
    (ok : blkC X.N X.env.scope scope own = true) (hjs : (js.all fun j => decide (j ∈ own.map (·.2))) = true) (hk : Kp js ft) (hi : PI X tg iter (tI X.K ct fi))
    (hg : ∀ (s : Shared) (H : Hp) (C : Addr) (cl : List (Str × Addr)) (fp : List Addr), PG (X.blk s H scope (compEnvC scope cl C X.env) fp) tg (tG X.K ct js ft)) (ht : ∀ (s : Shared) (H : Hp) (C : Addr) (cl : List (Str × Addr)) (fp : List Addr), PTs (X.blk s H scope (compEnvC scope cl C X.env) fp) ifs (tTe X.K ct fq))
    (he : ∀ (s : Shared) (H : Hp) (C : Addr) (cl : List (Str × Addr)) (fp : List Addr), PE (X.blk s H scope (compEnvC scope cl C X.env) fp) elt (tD X.K ct fe)) (hs : ∀ x, foldedSetIterable iter X.env x = pure x := by intro _; rfl) :
    PS X (.Assign [.Name y py] (.ListComp elt [⟨tg, iter, ifs, 0⟩] scope pos) spos) (tSt X.K ct (sOwn i (fLc (own.map (·.2)) fi ft fq fe))) :=
  s_ownIn (ps_setLc hc hN hy hyl hsw hi (blkOk_by ok) hg ht he hs) fun σ H Q h => lc_run (fun j hj => of_decide_eq_true (List.all_eq_true.mp hjs j hj)) hk h
end
theorem u64 {k : Nat} {A : Around} (hr : Room k A) : A.units + 64 < cLine := by have := hr.un; omega
theorem u65 {k : Nat} {A : Around} (hr : Room k A) : A.units + 65 < cLine := by have := hr.un; omega
theorem boot_list' : bootBuiltins "list" = some (.type "list") := by decide +kernel
theorem boot_tuple' : bootBuiltins "tuple" = some (.type "tuple") := by decide +kernel
theorem boot_int' : bootBuiltins "int" = some (.type "int") := by decide +kernel
theorem boot_str' : bootBuiltins "str" = some (.type "str") := by decide +kernel
theorem boot_bool' : bootBuiltins "bool" = some (.type "bool") := by decide +kernel
theorem boot_len' : bootBuiltins "len" = some (.builtin "len") := by decide +kernel
theorem boot_min' : bootBuiltins "min" = some (.builtin "min") := by decide +kernel
theorem boot_max' : bootBuiltins "max" = some (.builtin "max") := by decide +kernel
theorem boot_sorted' : bootBuiltins "sorted" = some (.builtin "sorted") := by decide +kernel
section
variable {p : Pos} {x : Str}
/-- the built-ins by name -/
theorem c_len (hg : Gl X "len") (hm : X.mg "len" = none) (ha : PE X a (tBo X.K ct fa)) (hs : starEach [a] X.env = (false, eval a X.env) :: starEach [] X.env := by rfl) : PE X (.Call (.Name "len" p) [a] [] pos) (tD X.K ct (f1 fa lenD)) := e_fn1 call_len len_ok hg hm boot_len' ha hs
theorem c_list (hg : Gl X "list") (hm : X.mg "list" = none) (ha : PE X a (tBo X.K ct fa)) (hs : starEach [a] X.env = (false, eval a X.env) :: starEach [] X.env := by rfl) : PE X (.Call (.Name "list" p) [a] [] pos) (tO X.K ct (f1 fa listD)) := o_ty1 call_list_of list_ok hg hm boot_list' ha hs
theorem c_tuple (hg : Gl X "tuple") (hm : X.mg "tuple" = none) (ha : PE X a (tBo X.K ct fa)) (hs : starEach [a] X.env = (false, eval a X.env) :: starEach [] X.env := by rfl) : PE X (.Call (.Name "tuple" p) [a] [] pos) (tD X.K ct (f1 fa tupleD)) := e_ty1 call_tuple_of tuple_ok hg hm boot_tuple' ha hs
theorem c_int (hg : Gl X "int") (hm : X.mg "int" = none) (ha : PE X a (tBo X.K ct fa)) (hs : starEach [a] X.env = (false, eval a X.env) :: starEach [] X.env := by rfl) : PE X (.Call (.Name "int" p) [a] [] pos) (tD X.K ct (f1 fa toIntD)) := e_ty1 call_int1 toInt_ok hg hm boot_int' ha hs
theorem c_str (hg : Gl X "str") (hm : X.mg "str" = none) (ha : PE X a (tBo X.K ct fa)) (hs : starEach [a] X.env = (false, eval a X.env) :: starEach [] X.env := by rfl) : PE X (.Call (.Name "str" p) [a] [] pos) (tD X.K ct (f1 fa toStrD)) := e_ty1 call_str_int toStr_ok hg hm boot_str' ha hs
theorem c_sorted (hu : X.A.units + 64 < cLine) (hg : Gl X "sorted") (hm : X.mg "sorted" = none) (ha : PE X a (tBo X.K ct fa)) (hs : starEach [a] X.env = (false, eval a X.env) :: starEach [] X.env := by rfl) : PE X (.Call (.Name "sorted" p) [a] [] pos) (tO X.K ct (f1 fa sortedD)) := o_fn1 (call_sortA hu) sorted_ok hg hm boot_sorted' ha hs
theorem c_max1 (hc : X.calm = true) (hg : Gl X "max") (hm : X.mg "max" = none) (ha : PE X a (tBo X.K ct fa)) (hs : starEach [a] X.env = (false, eval a X.env) :: starEach [] X.env := by rfl) : PE X (.Call (.Name "max" p) [a] [] pos) (tD X.K ct (f1 fa maxD)) := e_fn1 (cr_max hc) maxD_ok hg hm boot_max' ha hs
theorem c_min1 (hc : X.calm = true) (hg : Gl X "min") (hm : X.mg "min" = none) (ha : PE X a (tBo X.K ct fa)) (hs : starEach [a] X.env = (false, eval a X.env) :: starEach [] X.env := by rfl) : PE X (.Call (.Name "min" p) [a] [] pos) (tD X.K ct (f1 fa minD)) := e_fn1 (cr_min hc) minD_ok hg hm boot_min' ha hs
theorem c_max2 (hc : X.calm = true) (hg : Gl X "max") (hm : X.mg "max" = none) (ha : PE X a (tBo X.K ct fa)) (hb : PE X b (tBo X.K ct fb)) (hs : starEach [a, b] X.env = (false, eval a X.env) :: starEach [b] X.env := by rfl)
    (hs2 : starEach [b] X.env = (false, eval b X.env) :: starEach [] X.env := by rfl) (hpl : (backTo pos (starEach [b] X.env)).any (·.1) = false := by rfl) : PE X (.Call (.Name "max" p) [a, b] [] pos) (tD X.K ct (f2 fa fb max2D)) := e_fn2 (call_max2 hc) max2_ok hg hm boot_max' ha hb hs hs2 hpl
theorem c_min2 (hc : X.calm = true) (hg : Gl X "min") (hm : X.mg "min" = none) (ha : PE X a (tBo X.K ct fa)) (hb : PE X b (tBo X.K ct fb)) (hs : starEach [a, b] X.env = (false, eval a X.env) :: starEach [b] X.env := by rfl)
    (hs2 : starEach [b] X.env = (false, eval b X.env) :: starEach [] X.env := by rfl) (hpl : (backTo pos (starEach [b] X.env)).any (·.1) = false := by rfl) : PE X (.Call (.Name "min" p) [a, b] [] pos) (tD X.K ct (f2 fa fb min2D)) := e_fn2 (call_min2 hc) min2_ok hg hm boot_min' ha hb hs hs2 hpl
end
end
end PD
namespace PD
open PySem PySem.Spec PyProof.Rows L2
theorem ipAdd_ok {K : PySem.W.Frag} {ct : Nat → Addr} : Op2 K ct (ipI fun i j => i + j) addInt := fun HF H0 H ρ σ x y z v u Q S hx hy hz q => by
  obtain ⟨i, j, rfl, rfl, hc, rfl⟩ := intD0_some hz
  exact ⟨i, j, hx.int S, hy.int S, q _ _ _ (Same.refl _) S (by simp only [Rep])⟩
end PD
namespace PD
open PySem PySem.Spec PyProof.Rows L2
theorem blkC_of {N : List Str} {sc scope : Scope} {own : List (Str × Nat)} (h : blkC N sc scope own = true) : blkC N sc scope own = true := h
end PD

/-! Evaluation: simp rules for the functions on slots; loops as folds. -/
namespace PD
open PySem PySem.Spec PyProof.Rows L2

section
variable {i : Nat} {ρ l : Env} {d : D} {s : Slot}
@[simp] theorem v_val : fVar 0 (.val d :: l) = some d := rfl
@[simp] theorem v_succ : fVar (i + 1) (s :: l) = fVar i l := rfl
@[simp] theorem b_val : fBor 0 (.val d :: l) = some d := rfl
@[simp] theorem b_own : fBor 0 (.own d :: l) = some d := rfl
@[simp] theorem b_succ : fBor (i + 1) (s :: l) = fBor i l := rfl
@[simp] theorem fC_at : fC d ρ = some d := rfl
@[simp] theorem f1_at {fa : Env → Option D} {g : D → Option D} : f1 fa g (s :: l) = match fa (s :: l) with
  | some x => g x
  | none => none := by
  unfold f1
  cases fa (s :: l) <;> rfl
@[simp] theorem f2_at {fa fb : Env → Option D} {g : D → D → Option D} : f2 fa fb g (s :: l) = match fa (s :: l) with
  | some x => (match fb (s :: l) with
    | some y => g x y
    | none => none)
  | none => none := by
  unfold f2
  cases fa (s :: l) <;> cases fb (s :: l) <;> rfl
@[simp] theorem fT_at {f : Env → Option D} : fT f (s :: l) = match f (s :: l) with
  | some (.bl b) => some b
  | _ => none := rfl
@[simp] theorem fTru_at {f : Env → Option D} : fTru f (s :: l) = match f (s :: l) with
  | some x => truD x
  | none => none := by
  unfold fTru
  cases f (s :: l) <;> rfl
@[simp] theorem fAnd_at {f g : Env → Option Bool} : fAnd f g (s :: l) = match f (s :: l) with
  | some true => g (s :: l)
  | some false => some false
  | none => none := by
  unfold fAnd
  cases f (s :: l) with
  | none => rfl
  | some b => cases b <;> rfl
@[simp] theorem fOr_at {f g : Env → Option Bool} : fOr f g (s :: l) = match f (s :: l) with
  | some true => some true
  | some false => g (s :: l)
  | none => none := by
  unfold fOr
  cases f (s :: l) with
  | none => rfl
  | some b => cases b <;> rfl
@[simp] theorem fNot_at {f : Env → Option Bool} : fNot f (s :: l) = match f (s :: l) with
  | some b => some (!b)
  | none => none := by
  unfold fNot
  cases f (s :: l) <;> rfl
@[simp] theorem fAndV_at {f g : Env → Option D} : fAndV f g (s :: l) = match f (s :: l) with
  | some (.bl true) => g (s :: l)
  | some (.bl false) => some (.bl false)
  | _ => none := by
  unfold fAndV fT
  cases f (s :: l) with
  | none => rfl
  | some d => cases d with
    | bl b => cases b <;> rfl
    | _ => rfl
@[simp] theorem fOrV_at {f g : Env → Option D} : fOrV f g (s :: l) = match f (s :: l) with
  | some (.bl true) => some (.bl true)
  | some (.bl false) => g (s :: l)
  | _ => none := by
  unfold fOrV fT
  cases f (s :: l) with
  | none => rfl
  | some d => cases d with
    | bl b => cases b <;> rfl
    | _ => rfl
@[simp] theorem fNotV_at {f : Env → Option D} : fNotV f (s :: l) = match f (s :: l) with
  | some (.bl b) => some (.bl (!b))
  | _ => none := by
  unfold fNotV fT
  cases f (s :: l) with
  | none => rfl
  | some d => cases d <;> rfl
@[simp] theorem fIf_at {c : Env → Option Bool} {f g : Env → Option D} : fIf c f g (s :: l) = match c (s :: l) with
  | some true => f (s :: l)
  | some false => g (s :: l)
  | none => none := by
  unfold fIf
  cases c (s :: l) with
  | none => rfl
  | some b => cases b <;> rfl
@[simp] theorem aNil_at : aNil ρ = some [] := rfl
@[simp] theorem aCons_at {fa : Env → Option D} {fr : Env → Option (List D)} : aCons fa fr (s :: l) = match fa (s :: l) with
  | some x => (match fr (s :: l) with
    | some xs => some (x :: xs)
    | none => none)
  | none => none := by
  unfold aCons
  cases fa (s :: l) <;> cases fr (s :: l) <;> rfl
@[simp] theorem fTup_at {f : Env → Option (List D)} : fTup f (s :: l) = match f (s :: l) with
  | some ds => gd (ds.length ≤ sizeLine) (.tup ds)
  | none => none := by
  unfold fTup
  cases f (s :: l) <;> rfl
@[simp] theorem fLst_at {f : Env → Option (List D)} : fLst f (s :: l) = match f (s :: l) with
  | some ds => gd (ds.length ≤ sizeLine) (.lst ds)
  | none => none := by
  unfold fLst
  cases f (s :: l) <;> rfl
@[simp] theorem pNone_at : pNone ρ = some none := rfl
@[simp] theorem pSome_at {f : Env → Option D} : pSome f (s :: l) = match f (s :: l) with
  | some (.int i) => some (some i)
  | _ => none := rfl
@[simp] theorem fSl_at {fa : Env → Option D} {fl fh : Env → Option (Option Int)} {g : D → Option Int → Option Int → Option D} : fSl fa fl fh g (s :: l) = match fa (s :: l) with
  | some x => (match fl (s :: l) with
    | some lo => (match fh (s :: l) with
      | some hi => g x lo hi
      | none => none)
    | none => none)
  | none => none := by
  unfold fSl
  cases fa (s :: l) <;> cases fl (s :: l) <;> cases fh (s :: l) <;> rfl
@[simp] theorem fCall_at {F : List D → Option D} {dd : List D} {fa : Env → Option (List D)} : fCall F dd fa (s :: l) = match fa (s :: l) with
  | some ds => F (ds ++ dd)
  | none => none := by
  unfold fCall
  cases fa (s :: l) <;> rfl
@[simp] theorem fChain_at {fa fb fc : Env → Option D} {g g' : D → D → Option D} : fChain fa fb fc g g' (s :: l) = match fa (s :: l) with
  | some x => (match fb (s :: l) with
    | some y => (match g x y with
      | some (.bl true) => (match fc (s :: l) with
        | some z => g' y z
        | none => none)
      | some (.bl false) => some (.bl false)
      | _ => none)
    | none => none)
  | none => none := by
  unfold fChain
  cases fa (s :: l) with
  | none => rfl
  | some x =>
    cases fb (s :: l) with
    | none => rfl
    | some y =>
      simp only [Option.bind_some]
      cases g x y with
      | none => rfl
      | some d => cases d with
        | bl b => cases b with
          | true => cases fc (s :: l) <;> rfl
          | false => rfl
        | _ => rfl
@[simp] theorem sNext_at : sNext ρ = some (.nx ρ) := rfl
@[simp] theorem sPass_at : sPass ρ = some (.nx ρ) := rfl
@[simp] theorem sBrk_at : sBrk ρ = some (.bk ρ) := rfl
@[simp] theorem sCnt_at : sCnt ρ = some (.ct ρ) := rfl
@[simp] theorem sSeq_at {f g : Env → Option Out} : sSeq f g (s :: l) = match f (s :: l) with
  | some (.nx ρ') => g ρ'
  | some (.rt d) => some (.rt d)
  | some (.bk ρ') => some (.bk ρ')
  | some (.ct ρ') => some (.ct ρ')
  | none => none := by
  unfold sSeq
  cases f (s :: l) with
  | none => rfl
  | some o => cases o <;> rfl
@[simp] theorem sRet_at {f : Env → Option D} : sRet f (s :: l) = match f (s :: l) with
  | some d => some (.rt d)
  | none => none := by
  unfold sRet
  cases f (s :: l) <;> rfl
@[simp] theorem sRetN_at : sRetN ρ = some (.rt .non) := rfl
@[simp] theorem sIf_at {c : Env → Option Bool} {f g : Env → Option Out} : sIf c f g (s :: l) = match c (s :: l) with
  | some true => f (s :: l)
  | some false => g (s :: l)
  | none => none := by
  unfold sIf
  cases c (s :: l) with
  | none => rfl
  | some b => cases b <;> rfl
@[simp] theorem gN_at : gN i d ρ = some (ρ.set i (.val d)) := rfl
@[simp] theorem gsNil_at : gsNil [] ρ = some ρ := rfl
@[simp] theorem gsCons_at {f : D → Env → Option Env} {fs : List D → Env → Option Env} {ds : List D} : gsCons f fs (d :: ds) ρ = match f d ρ with
  | some ρ' => fs ds ρ'
  | none => none := by
  unfold gsCons
  cases h : f d ρ <;> simp [h]
@[simp] theorem gT_at {n : Nat} {fs : List D → Env → Option Env} {ds : List D} : gT n fs (.tup ds) ρ = if ds.length = n then fs ds ρ else none := rfl
@[simp] theorem sAsg_at {fa : Env → Option D} {ft : D → Env → Option Env} : sAsg fa ft (s :: l) = match fa (s :: l) with
  | some d => (match ft d (s :: l) with
    | some ρ' => some (.nx ρ')
    | none => none)
  | none => none := by
  unfold sAsg
  cases fa (s :: l) with
  | none => rfl
  | some d => simp only [Option.bind_some]; cases ft d (s :: l) <;> rfl
@[simp] theorem sOwn_at {fa : Env → Option D} : sOwn i fa (s :: l) = match fa (s :: l) with
  | some d => some (.nx ((s :: l).set i (.own d)))
  | none => none := by
  unfold sOwn
  cases fa (s :: l) <;> rfl
@[simp] theorem sAug_at {fa : Env → Option D} {g : D → D → Option D} : sAug i fa g (s :: l) = match fVar i (s :: l) with
  | some x => (match fa (s :: l) with
    | some y => (match g x y with
      | some z => some (.nx ((s :: l).set i (.val z)))
      | none => none)
    | none => none)
  | none => none := by
  unfold sAug
  cases fVar i (s :: l) with
  | none => rfl
  | some x =>
    cases fa (s :: l) with
    | none => rfl
    | some y => simp only [Option.bind_some]; cases g x y <;> rfl
@[simp] theorem sFor_at {fi : Env → Option (List D)} {ft : D → Env → Option Env} {f : Env → Option Out} {is : List Nat} : sFor fi ft f is (s :: l) = match fi (s :: l) with
  | some ds => forF ft f is ds (s :: l)
  | none => none := by
  unfold sFor
  cases fi (s :: l) <;> rfl
@[simp] theorem iSeq_at {fa : Env → Option D} : iSeq fa (s :: l) = match fa (s :: l) with
  | some d => seqD d
  | none => none := by
  unfold iSeq
  cases fa (s :: l) <;> rfl
@[simp] theorem iR1_at {fa : Env → Option D} : iR1 fa (s :: l) = match fa (s :: l) with
  | some (.int j) => gd (-(2 ^ 62) ≤ j ∧ j < 2 ^ 62) (rngL 0 j.toNat)
  | _ => none := rfl
@[simp] theorem iR2_at {fa fb : Env → Option D} : iR2 fa fb (s :: l) = match fa (s :: l), fb (s :: l) with
  | some (.int i), some (.int j) => gd (-(2 ^ 62) ≤ i ∧ i < 2 ^ 62 ∧ -(2 ^ 62) ≤ j ∧ j < 2 ^ 62) (rngL i (j - i).toNat)
  | _, _ => none := rfl
@[simp] theorem fLc_at {vs : List Nat} {fi : Env → Option (List D)} {ft : D → Env → Option Env} {fq : Env → Option Bool} {fe : Env → Option D} : fLc vs fi ft fq fe (s :: l) = match fi (s :: l) with
  | some ds => (match lcF ft fq fe (wipeE vs (s :: l)) ds with
    | some es => gd (ds.length ≤ sizeLine ∧ noOwn vs (s :: l) = true) (.lst es)
    | none => none)
  | none => none := by
  unfold fLc
  cases fi (s :: l) with
  | none => rfl
  | some ds => simp only [Option.bind_some]; cases lcF ft fq fe (wipeE vs (s :: l)) ds <;> rfl
@[simp] theorem wipeE_nil : wipeE [] ρ = ρ := rfl
@[simp] theorem wipeE_cons {v : Nat} {vs : List Nat} : wipeE (v :: vs) ρ = (wipeE vs ρ).set v .un := rfl
@[simp] theorem noOwn_nil : noOwn [] ρ = true := rfl
/-- does slot i own? -/
def isOwn : Nat → Env → Bool
  | 0, .own _ :: _ => true
  | 0, _ => false
  | i + 1, _ :: l => isOwn i l
  | _ + 1, [] => false
@[simp] theorem isOwn_own : isOwn 0 (.own d :: l) = true := rfl
@[simp] theorem isOwn_val : isOwn 0 (.val d :: l) = false := rfl
@[simp] theorem isOwn_un : isOwn 0 (.un :: l) = false := rfl
@[simp] theorem isOwn_succ : isOwn (i + 1) (s :: l) = isOwn i l := rfl
theorem isOwn_get : ∀ (i : Nat) (ρ : Env), (match ρ[i]? with | some (.own _) => false | _ => true) = !isOwn i ρ
  | 0, [] => rfl
  | 0, .own _ :: _ => rfl
  | 0, .val _ :: _ => rfl
  | 0, .un :: _ => rfl
  | i + 1, [] => rfl
  | i + 1, _ :: l => isOwn_get i l
@[simp] theorem noOwn_cons {v : Nat} {vs : List Nat} : noOwn (v :: vs) ρ = (!isOwn v ρ && noOwn vs ρ) := by
  have h := isOwn_get v ρ
  unfold noOwn
  rw [List.all_cons]
  congr 1
/-- x.append(e) -/
noncomputable def appAt (i : Nat) (d : D) (ρ : Env) : Option Out := match ρ[i]? with
  | some (.own (.lst ds)) => gd (ds.length < sizeLine) (.nx (ρ.set i (.own (.lst (ds ++ [d])))))
  | _ => none
@[simp] theorem sApp_at {fa : Env → Option D} : sApp i fa (s :: l) = match fa (s :: l) with
  | some d => appAt i d (s :: l)
  | none => none := by
  unfold sApp appAt
  cases fa (s :: l) <;> rfl
@[simp] theorem appAt_zero {ds : List D} : appAt 0 d (.own (.lst ds) :: l) = gd (ds.length < sizeLine) (.nx (.own (.lst (ds ++ [d])) :: l)) := rfl
/-- a block's end, a slot ahead of it -/
def consO (s : Slot) : Option Out → Option Out
  | some (.nx ρ) => some (.nx (s :: ρ))
  | _ => none
@[simp] theorem consO_nx : consO s (some (.nx ρ)) = some (.nx (s :: ρ)) := rfl
@[simp] theorem appAt_succ : appAt (i + 1) d (s :: l) = consO s (appAt i d l) := by
  unfold appAt
  simp only [List.getElem?_cons_succ, List.set_cons_succ]
  cases h : l[i]? with
  | none => rfl
  | some x => cases x with
    | own d => cases d with
      | lst ds =>
        simp only
        unfold gd
        by_cases h : ds.length < sizeLine
        · rw [if_pos h, if_pos h]; rfl
        · rw [if_neg h, if_neg h]; rfl
      | _ => rfl
    | _ => rfl
theorem appAt_some {ds : List D} (h : ρ[i]? = some (.own (.lst ds))) (hl : ds.length < sizeLine) : appAt i d ρ = some (.nx (ρ.set i (.own (.lst (ds ++ [d]))))) := by
  unfold appAt
  rw [h]
  exact gd_pos hl
@[simp] theorem frz_nil : frz [] ρ = ρ := rfl
@[simp] theorem frz_cons {is : List Nat} : frz (i :: is) ρ = frz is (frz1 i ρ) := rfl
@[simp] theorem frz1_own {l : Env} : frz1 0 (.own d :: l) = .val d :: l := rfl
@[simp] theorem frz1_val {l : Env} : frz1 0 (.val d :: l) = .val d :: l := rfl
@[simp] theorem frz1_un {l : Env} : frz1 0 (.un :: l) = .un :: l := rfl
@[simp] theorem frz1_succ {l : Env} : frz1 (i + 1) (s :: l) = s :: frz1 i l := by
  unfold frz1
  simp only [List.getElem?_cons_succ, List.set_cons_succ]
  cases h : l[i]? with
  | none => rfl
  | some x => cases x <;> rfl
@[simp] theorem clr_nil : clr [] ρ = ρ := rfl
@[simp] theorem clr_cons {is : List Nat} : clr (i :: is) ρ = clr is (ρ.set i .un) := rfl
end
/-- one turn of a for loop -/
def turn (ft : D → Env → Option Env) (f : Env → Option Out) (is : List Nat) (d : D) (ρ : Env) : Option Out := (ft d ρ).bind fun ρ1 => (f ρ1).map fun o => match o with
  | .nx ρ' => .nx (clr is ρ')
  | .ct ρ' => .nx (clr is ρ')
  | .bk ρ' => .bk (clr is ρ')
  | .rt d => .rt d
@[simp] theorem turn_at {ft : D → Env → Option Env} {f : Env → Option Out} {is : List Nat} {d : D} {s : Slot} {l : Env} : turn ft f is d (s :: l) = match ft d (s :: l) with
  | some ρ1 => (match f ρ1 with
    | some (.nx ρ') => some (.nx (clr is ρ'))
    | some (.ct ρ') => some (.nx (clr is ρ'))
    | some (.bk ρ') => some (.bk (clr is ρ'))
    | some (.rt d) => some (.rt d)
    | none => none)
  | none => none := by
  unfold turn
  cases ft d (s :: l) with
  | none => rfl
  | some ρ1 =>
    simp only [Option.bind_some]
    cases f ρ1 with
    | none => rfl
    | some o => cases o <;> rfl
theorem forF_nil {ft : D → Env → Option Env} {f : Env → Option Out} {is : List Nat} {ρ : Env} : forF ft f is [] ρ = some (.nx ρ) := rfl
theorem forF_cons {ft : D → Env → Option Env} {f : Env → Option Out} {is : List Nat} {d : D} {ds : List D} {ρ : Env} : forF ft f is (d :: ds) ρ = (turn ft f is d ρ).bind fun o => match o with
    | .nx ρ' => forF ft f is ds ρ'
    | .bk ρ' => some (.nx ρ')
    | o => some o := by
  simp only [forF, turn]
  cases ft d ρ with
  | none => rfl
  | some ρ1 =>
    simp only [Option.bind_some]
    cases f ρ1 with
    | none => rfl
    | some o => cases o <;> rfl
/-- a loop is a fold -/
theorem forF_fold {S T : Type} {ft : D → Env → Option Env} {f : Env → Option Out} {is : List Nat} {enc : T → D} {R : S → Env} {g : S → T → S} : ∀ {ts : List T} {s : S}, (∀ s t, t ∈ ts → turn ft f is (enc t) (R s) = some (.nx (R (g s t)))) →
    forF ft f is (ts.map enc) (R s) = some (.nx (R (ts.foldl g s)))
  | [], s, _ => rfl
  | t :: ts, s, h => by
    rw [List.map_cons, forF_cons, h s t List.mem_cons_self]
    simp only [Option.bind_some, List.foldl_cons]
    exact forF_fold fun s' t' ht => h s' t' (List.mem_cons_of_mem _ ht)
/-- .. with what holds between the turns -/
theorem forF_inv {T : Type} {ft : D → Env → Option Env} {f : Env → Option Out} {is : List Nat} {enc : T → D} (I : List T → Env → Prop) : ∀ {ts pre : List T} {ρ : Env}, I pre ρ → (∀ pre t post ρ, pre ++ t :: post = pre ++ t :: post → t ∈ ts → I pre ρ → ∃ ρ', turn ft f is (enc t) ρ = some (.nx ρ') ∧ I (pre ++ [t]) ρ') →
    ∃ ρ', forF ft f is (ts.map enc) ρ = some (.nx ρ') ∧ I (pre ++ ts) ρ'
  | [], pre, ρ, h0, _ => ⟨ρ, rfl, by rw [List.append_nil]; exact h0⟩
  | t :: ts, pre, ρ, h0, h => by
    obtain ⟨ρ1, h1, h2⟩ := h pre t ts ρ rfl List.mem_cons_self h0
    rw [List.map_cons, forF_cons, h1]
    simp only [Option.bind_some]
    obtain ⟨ρ2, h3, h4⟩ := forF_inv I (ts := ts) (pre := pre ++ [t]) h2 fun pre' t' post' ρ' e ht => h pre' t' post' ρ' e (List.mem_cons_of_mem _ ht)
    exact ⟨ρ2, h3, by rw [List.append_assoc] at h4; exact h4⟩
theorem runF_rt {N : Nat} {f : Env → Option Out} {ds : List D} {d : D} (h : f (ds.map .val ++ List.replicate (N - ds.length) .un) = some (.rt d)) : runF N f ds = some d := by
  unfold runF
  rw [h]
theorem runF_nx {N : Nat} {f : Env → Option Out} {ds : List D} {ρ : Env} (h : f (ds.map .val ++ List.replicate (N - ds.length) .un) = some (.nx ρ)) : runF N f ds = some .non := by
  unfold runF
  rw [h]
theorem le_line {n : Nat} (h : n ≤ 16777216) : n ≤ sizeLine := by rw [sizeLine_eq]; exact h
@[simp] theorem gd_le {α : Type} {n : Nat} {x : α} (h : n ≤ 16777216) : gd (n ≤ sizeLine) x = some x := gd_pos (le_line h)
@[simp] theorem gd_lt {α : Type} {n : Nat} {x : α} (h : n < 16777216) : gd (n < sizeLine) x = some x := gd_pos (by rw [sizeLine_eq]; exact h)
@[simp] theorem gd_le2 {α : Type} {n : Nat} {p : Prop} {x : α} (h : n ≤ 16777216) (hp : p) : gd (n ≤ sizeLine ∧ p) x = some x := gd_pos ⟨le_line h, hp⟩
@[simp] theorem gd_rng {n : Int} {x : List D} (h1 : -4611686018427387904 ≤ n) (h2 : n < 4611686018427387904) : gd (-(2 ^ 62) ≤ n ∧ n < 2 ^ 62) x = some x := gd_pos ⟨h1, h2⟩
section
variable {i j : Int}
@[simp] theorem addD_int : addD (.int i) (.int j) = some (.int (i + j)) := rfl
@[simp] theorem subD_int : subD (.int i) (.int j) = some (.int (i - j)) := rfl
@[simp] theorem ltD_int : ltD (.int i) (.int j) = some (.bl (decide (i < j))) := rfl
@[simp] theorem leD_int : leD (.int i) (.int j) = some (.bl (decide (i ≤ j))) := rfl
@[simp] theorem gtD_int : gtD (.int i) (.int j) = some (.bl (decide (j < i))) := rfl
@[simp] theorem geD_int : geD (.int i) (.int j) = some (.bl (decide (j ≤ i))) := rfl
@[simp] theorem addInt_int : addInt (.int i) (.int j) = some (.int (i + j)) := rfl
@[simp] theorem max2D_int : max2D (.int i) (.int j) = some (.int (if j > i then j else i)) := rfl
@[simp] theorem min2D_int : min2D (.int i) (.int j) = some (.int (if j < i then j else i)) := rfl
theorem modD_int (h : j ≠ 0) : modD (.int i) (.int j) = some (.int (i.fmod j)) := gd_pos h
theorem modD_pos (h : 0 < j) : modD (.int i) (.int j) = some (.int (i % j)) := by
  rw [modD_int (by omega), Int.fmod_eq_emod_of_nonneg _ (by omega)]
theorem fdivD_pos (h : 0 < j) (h2 : j < 1073741824) : fdivD (.int i) (.int j) = some (.int (i / j)) := by
  have e : fdivD (.int i) (.int j) = some (.int (i.fdiv j)) := gd_pos ⟨by omega, by omega⟩
  rw [e, Int.fdiv_eq_ediv_of_nonneg _ (by omega)]
theorem mulD_right (h1 : -18446744073709551616 < j) (h2 : j < 18446744073709551616) : mulD (.int i) (.int j) = some (.int (i * j)) := gd_pos (.inr ⟨h1, h2⟩)
theorem mulD_left (h1 : -18446744073709551616 < i) (h2 : i < 18446744073709551616) : mulD (.int i) (.int j) = some (.int (i * j)) := gd_pos (.inl ⟨h1, h2⟩)
theorem powD_int (h1 : 0 ≤ j) (h2 : j ≤ 1000000) (h3 : i.natAbs < 2 ^ 64) : powD (.int i) (.int j) = some (.int (i ^ j.toNat)) := gd_pos ⟨h1, h2, h3⟩
@[simp] theorem toIntD_int : toIntD (.int i) = some (.int i) := rfl
@[simp] theorem toIntD_bl {b : Bool} : toIntD (.bl b) = some (.int (if b then 1 else 0)) := rfl
@[simp] theorem negD_int : negD (.int i) = some (.int (-i)) := rfl
end
section
variable {ds es : List D}
@[simp] theorem lenD_lst : lenD (.lst ds) = some (.int (ds.length : Nat)) := rfl
@[simp] theorem lenD_tup : lenD (.tup ds) = some (.int (ds.length : Nat)) := rfl
@[simp] theorem lenD_frl : lenD (.frl ds) = some (.int (ds.length : Nat)) := rfl
@[simp] theorem listD_lst : listD (.lst ds) = some (.lst ds) := rfl
@[simp] theorem listD_tup : listD (.tup ds) = some (.lst ds) := rfl
@[simp] theorem listD_frl : listD (.frl ds) = some (.lst ds) := rfl
@[simp] theorem tupleD_lst : tupleD (.lst ds) = some (.tup ds) := rfl
@[simp] theorem tupleD_tup : tupleD (.tup ds) = some (.tup ds) := rfl
@[simp] theorem seqD_lst : seqD (.lst ds) = some ds := rfl
@[simp] theorem seqD_tup : seqD (.tup ds) = some ds := rfl
@[simp] theorem seqD_frl : seqD (.frl ds) = some ds := rfl
@[simp] theorem ixD_lst {i : Int} : ixD (.lst ds) (.int i) = atI ds i := rfl
@[simp] theorem ixD_tup {i : Int} : ixD (.tup ds) (.int i) = atI ds i := rfl
@[simp] theorem ixD_frl {i : Int} : ixD (.frl ds) (.int i) = atI ds i := rfl
@[simp] theorem slD_lst {l h : Option Int} : slD (.lst ds) l h = some (.lst (cutL ds l h)) := rfl
@[simp] theorem slD_tup {l h : Option Int} : slD (.tup ds) l h = some (.tup (cutL ds l h)) := rfl
@[simp] theorem slD_frl {l h : Option Int} : slD (.frl ds) l h = some (.lst (cutL ds l h)) := rfl
@[simp] theorem slL_lst {l h : Option Int} : slL (.lst ds) l h = some (.lst (cutL ds l h)) := rfl
@[simp] theorem slL_frl {l h : Option Int} : slL (.frl ds) l h = some (.lst (cutL ds l h)) := rfl
theorem addD_lst (h : ds.length + es.length ≤ 16777216) : addD (.lst ds) (.lst es) = some (.lst (ds ++ es)) := gd_pos (le_line h)
theorem addLst_lst (h : ds.length + es.length ≤ 16777216) : addLst (.lst ds) (.lst es) = some (.lst (ds ++ es)) := gd_pos (le_line h)
theorem addD_tup (h : ds.length + es.length ≤ 16777216) : addD (.tup ds) (.tup es) = some (.tup (ds ++ es)) := gd_pos (le_line h)
theorem atI_lt {α : Type} {xs : List α} {i : Int} {n : Nat} {x : α} (hi : i = (n : Int)) (h : xs[n]? = some x) : atI xs i = some x := by
  subst hi
  exact atI_nat h
theorem cutL_to {α : Type} (xs : List α) (n : Nat) : cutL xs none (some (n : Int)) = xs.take n := by
  unfold cutL
  rw [HT.sIx_none, HT.sIx_nat, List.drop_zero, Nat.sub_zero]
  by_cases h : n ≤ xs.length
  · rw [Nat.min_eq_left h]
  · rw [Nat.min_eq_right (by omega), List.take_length, List.take_of_length_le (by omega)]
theorem cutL_from {α : Type} (xs : List α) (n : Nat) : cutL xs (some (n : Int)) none = xs.drop n := by
  unfold cutL
  rw [HT.sIx_none, HT.sIx_nat]
  by_cases h : n ≤ xs.length
  · rw [Nat.min_eq_left h]
    exact List.take_of_length_le (by rw [List.length_drop]; exact Nat.le_refl _)
  · rw [Nat.min_eq_right (by omega), List.drop_length, List.drop_of_length_le (by omega)]
    simp
theorem cutL_both {α : Type} (xs : List α) (m n : Nat) : cutL xs (some (m : Int)) (some (n : Int)) = (xs.drop m).take (n - m) := by
  unfold cutL
  rw [HT.sIx_nat, HT.sIx_nat]
  by_cases h : m ≤ xs.length
  · rw [Nat.min_eq_left h]
    by_cases h2 : n ≤ xs.length
    · rw [Nat.min_eq_left h2]
    · have e : (xs.drop m).length = xs.length - m := List.length_drop
      rw [Nat.min_eq_right (by omega), List.take_of_length_le (by omega), List.take_of_length_le (by omega)]
  · have e1 : min m xs.length = xs.length := by omega
    rw [e1, List.drop_length, List.drop_of_length_le (by omega)]
    simp
end
/-! the evaluation of a comprehension: a map, a filter -/
theorem lcF_map {T : Type} {ft : D → Env → Option Env} {fe : Env → Option D} {ρ : Env} {enc : T → D} {g : T → D} : ∀ {ts : List T}, (∀ t ∈ ts, (ft (enc t) ρ).bind fe = some (g t)) → lcF ft qYes fe ρ (ts.map enc) = some (ts.map g)
  | [], _ => rfl
  | t :: ts, h => by
    simp only [List.map_cons, lcF]
    have h1 := h t List.mem_cons_self
    obtain ⟨ρ1, h2, h3⟩ := bind_some h1
    rw [h2]
    simp only [Option.bind_some, qYes, if_true]
    rw [h3]
    simp only [Option.bind_some]
    rw [lcF_map fun t' ht => h t' (List.mem_cons_of_mem _ ht)]
    rfl
theorem lcF_filter {T : Type} {ft : D → Env → Option Env} {fq : Env → Option Bool} {fe : Env → Option D} {ρ : Env} {enc : T → D} {q : T → Bool} {g : T → D} : ∀ {ts : List T}, (∀ t ∈ ts, (ft (enc t) ρ).bind fq = some (q t) ∧ (q t = true → (ft (enc t) ρ).bind fe = some (g t))) →
    lcF ft fq fe ρ (ts.map enc) = some ((ts.filter q).map g)
  | [], _ => rfl
  | t :: ts, h => by
    simp only [List.map_cons, lcF]
    obtain ⟨h1, h2⟩ := h t List.mem_cons_self
    obtain ⟨ρ1, h3, h4⟩ := bind_some h1
    have ih := lcF_filter (ts := ts) (g := g) fun t' ht => h t' (List.mem_cons_of_mem _ ht)
    rw [h3]
    simp only [Option.bind_some]
    rw [h4]
    simp only [Option.bind_some, List.filter_cons]
    cases hq : q t with
    | false => simp only [Bool.false_eq_true, if_false]; exact ih
    | true =>
      have h5 := h2 hq
      rw [h3] at h5
      simp only [Option.bind_some] at h5
      simp only [if_true]
      rw [h5]
      simp only [Option.bind_some]
      rw [ih]
      rfl
end PD
namespace PD
open PySem PySem.Spec PyProof.Rows L2
@[simp] theorem rngL_zero {n : Nat} : rngL 0 n = (List.range n).map fun i : Nat => D.int (i : Int) := by
  unfold rngL
  simp
theorem lt_line {n : Nat} (h : n < 16777216) : n < sizeLine := by rw [sizeLine_eq]; exact h
end PD

/-! Equality of data, told by what the data are. -/
namespace PD
open PySem PySem.Spec PyProof.Rows L2

/-- no objects, texts of real code points, at most n deep -/
structure Gd (n : Nat) (d : D) : Prop where
  pl : plainD d = true
  cl : (toPy d).canLay0 = true
  dp : (toPy d).depth ≤ n
theorem Gd.mono {n m : Nat} {d : D} (h : Gd n d) (hm : n ≤ m) : Gd m d := ⟨h.pl, h.cl, Nat.le_trans h.dp hm⟩
theorem Gd.ok {n : Nat} {d : D} (h : Gd n d) (hm : n ≤ 64) : okD d = true := by
  unfold okD SeqAt.shaped
  rw [h.pl, h.cl, decide_eq_true (Nat.le_trans h.dp hm)]
  rfl
theorem Gd.int {i : Int} : Gd 0 (.int i) := ⟨rfl, rfl, Nat.le_refl _⟩
theorem Gd.bl {i : Bool} : Gd 0 (.bl i) := ⟨rfl, rfl, Nat.le_refl _⟩
theorem Gd.non : Gd 0 .non := ⟨rfl, rfl, Nat.le_refl _⟩
def okS (x : Str) : Prop := x.cps.all (· < 0x110000) = true
theorem Gd.str {x : Str} (h : okS x) : Gd 0 (.str x) := ⟨rfl, h, Nat.le_refl _⟩
theorem gdL {n : Nat} : ∀ {ds : List D}, (∀ d ∈ ds, Gd n d) → plainL ds = true ∧ PyData.canLayAll0 (toPyL ds) = true ∧ PyData.depthAll (toPyL ds) ≤ n
  | [], _ => ⟨rfl, rfl, Nat.zero_le _⟩
  | d :: ds, h => by
    obtain ⟨h1, h2, h3⟩ := gdL (ds := ds) fun e he => h e (List.mem_cons_of_mem _ he)
    have hd := h d List.mem_cons_self
    refine ⟨?_, ?_, ?_⟩
    · simp only [plainL, hd.pl, h1, Bool.and_self]
    · simp only [toPyL, PyData.canLayAll0, hd.cl, h2, Bool.and_self]
    · simp only [toPyL, PyData.depthAll]
      exact Nat.max_le.mpr ⟨hd.dp, h3⟩
theorem Gd.tup {n : Nat} {ds : List D} (h : ∀ d ∈ ds, Gd n d) : Gd (n + 1) (.tup ds) := by
  obtain ⟨h1, h2, h3⟩ := gdL h
  exact ⟨by simpa only [plainD] using h1, by simpa only [toPy, PyData.canLay0] using h2, by simp only [toPy, PyData.depth]; omega⟩
theorem Gd.lst {n : Nat} {ds : List D} (h : ∀ d ∈ ds, Gd n d) : Gd (n + 1) (.lst ds) := by
  obtain ⟨h1, h2, h3⟩ := gdL h
  exact ⟨by simpa only [plainD] using h1, by simpa only [toPy, PyData.canLay0] using h2, by simp only [toPy, PyData.depth]; omega⟩
theorem eqDeep_refl {d : D} (h : okD d = true) : eqDeep d d = true := by
  unfold okD at h
  rw [Bool.and_eq_true] at h
  exact SeqAt.eqv_refl _ (SeqAt.canLay_of_shaped h.2)
theorem eqO_ok {d e : D} {neg : Bool} (h : okD d = true) (h' : okD e = true) : eqO neg d e = some (.bl (neg != eqDeep d e)) := by
  unfold eqO
  split
  · rename_i i j
    simp only [eqDeep, toPy, PyData.eqv]
    rfl
  · rename_i i j
    simp only [eqDeep, toPy, PyData.eqv]
    rfl
  · rename_i i j
    simp only [eqDeep, toPy, PyData.eqv]
    cases i <;> cases j <;> rfl
  · rfl
  · rw [h, h']
    exact gd_pos rfl
theorem eqO_refl {d : D} (h : okD d = true) : eqO false d d = some (.bl true) := by rw [eqO_ok h h, eqDeep_refl h]; rfl
theorem neO_refl {d : D} (h : okD d = true) : eqO true d d = some (.bl false) := by rw [eqO_ok h h, eqDeep_refl h]; rfl
/-! without truth values (True == 1) equality is identity -/
mutual
def noB : D → Bool
  | .bl _ => false
  | .obj .. => false
  | .frl _ => false
  | .tup ds => noBL ds
  | .lst ds => noBL ds
  | _ => true
def noBL : List D → Bool
  | [] => true
  | d :: ds => noB d && noBL ds
end
mutual
theorem eq_noB : ∀ (d e : D), noB d = true → noB e = true → (eqDeep d e = true ↔ d = e)
  | .bl _, _, h, _ => by simp [noB] at h
  | .obj .., _, h, _ => by simp [noB] at h
  | .frl _, _, h, _ => by simp [noB] at h
  | .non, e, _, h' => by cases e <;> simp [noB] at h' <;> simp [eqDeep, toPy, PyData.eqv]
  | .int _, e, _, h' => by cases e <;> simp [noB] at h' <;> simp [eqDeep, toPy, PyData.eqv]
  | .str _, e, _, h' => by cases e <;> simp [noB] at h' <;> simp [eqDeep, toPy, PyData.eqv]
  | .tup ds, e, h, h' => by
    cases e <;> simp [noB] at h h' <;> simp [eqDeep, toPy, PyData.eqv]
    exact eq_noBL _ _ h h'
  | .lst ds, e, h, h' => by
    cases e <;> simp [noB] at h h' <;> simp [eqDeep, toPy, PyData.eqv]
    exact eq_noBL _ _ h h'
theorem eq_noBL : ∀ (ds es : List D), noBL ds = true → noBL es = true → (PyData.eqvAll (toPyL ds) (toPyL es) = true ↔ ds = es)
  | [], [], _, _ => by simp [toPyL, PyData.eqvAll]
  | [], _ :: _, _, _ => by simp [toPyL, PyData.eqvAll]
  | _ :: _, [], _, _ => by simp [toPyL, PyData.eqvAll]
  | d :: ds, e :: es, h, h' => by
    simp only [noBL, Bool.and_eq_true] at h h'
    have h1 := eq_noB d e h.1 h'.1
    have h2 := eq_noBL ds es h.2 h'.2
    unfold eqDeep at h1
    simp only [toPyL, PyData.eqvAll, Bool.and_eq_true, h1, h2, List.cons.injEq]
end
theorem noBL_mem : ∀ {ds : List D}, (∀ d ∈ ds, noB d = true) → noBL ds = true
  | [], _ => rfl
  | d :: ds, h => by
    simp only [noBL, h d List.mem_cons_self, noBL_mem fun e he => h e (List.mem_cons_of_mem _ he), Bool.and_self]
theorem noBL_map {T : Type} {ts : List T} {f : T → D} (h : ∀ t, noB (f t) = true) : noBL (ts.map f) = true := noBL_mem fun d hd => by
  obtain ⟨t, _, rfl⟩ := List.mem_map.mp hd
  exact h t
theorem eqDeep_eq {d e : D} (h : noB d = true) (h' : noB e = true) {p : Bool} (hp : p = true ↔ d = e) : eqDeep d e = p := by
  rw [Bool.eq_iff_iff, eq_noB d e h h', hp]
theorem eqO_is {d e : D} {neg : Bool} (o : okD d = true) (o' : okD e = true) (h : noB d = true) (h' : noB e = true) {p : Bool} (hp : p = true ↔ d = e) : eqO neg d e = some (.bl (neg != p)) := by
  rw [eqO_ok o o', eqDeep_eq h h' hp]
@[simp] theorem eqO_int {i j : Int} {neg : Bool} : eqO neg (.int i) (.int j) = some (.bl (neg != decide (i = j))) := rfl
@[simp] theorem eqO_str {i j : Str} {neg : Bool} : eqO neg (.str i) (.str j) = some (.bl (neg != decide (i = j))) := rfl
@[simp] theorem eqO_bl {i j : Bool} {neg : Bool} : eqO neg (.bl i) (.bl j) = some (.bl (neg != decide (i = j))) := rfl
/-! a loop with what holds between its turns: .. of the items so far -/
theorem forF_run {T : Type} {ft : D → Env → Option Env} {f : Env → Option Out} {is : List Nat} {enc : T → D} (I : List T → Env → Prop) (ts : List T) {ρ : Env} (h0 : I [] ρ)
    (h : ∀ pre t post ρ, ts = pre ++ t :: post → I pre ρ → ∃ ρ', turn ft f is (enc t) ρ = some (.nx ρ') ∧ I (pre ++ [t]) ρ') :
    ∃ ρ', forF ft f is (ts.map enc) ρ = some (.nx ρ') ∧ I ts ρ' := go [] ts ρ rfl h0
where
  go : ∀ (pre post : List T) (ρ : Env), ts = pre ++ post → I pre ρ → ∃ ρ', forF ft f is (post.map enc) ρ = some (.nx ρ') ∧ I ts ρ'
    | pre, [], ρ, e, h0 => ⟨ρ, rfl, by rw [e, List.append_nil]; exact h0⟩
    | pre, t :: post, ρ, e, h0 => by
      obtain ⟨ρ1, h1, h2⟩ := h pre t post ρ e h0
      rw [List.map_cons, forF_cons, h1]
      simp only [Option.bind_some]
      exact go (pre ++ [t]) post ρ1 (by rw [e]; simp) h2
@[simp] theorem gd_yes {α : Type} {p : Prop} {x : α} (h : p) : gd p x = some x := gd_pos h
/-- a while loop told by its states -/
theorem whileF_run {ft : Env → Option Bool} {f : Env → Option Out} {is : List Nat} (R : Nat → Env) : ∀ (N k m : Nat), (∀ i, k ≤ i → i < k + N → ft (R i) = some true ∧ ∃ ρ', f (R i) = some (.nx ρ') ∧ clr is ρ' = R (i + 1)) → ft (R (k + N)) = some false → N < m →
    whileF ft f is m (R k) = some (.nx (R (k + N)))
  | 0, k, m + 1, _, h2, _ => by
    simp only [whileF]
    rw [Nat.add_zero] at h2 ⊢
    rw [h2]
    rfl
  | N + 1, k, m + 1, h1, h2, hm => by
    obtain ⟨h3, ρ', h4, h5⟩ := h1 k (Nat.le_refl _) (by omega)
    simp only [whileF]
    rw [h3]
    simp only [Option.bind_some, if_true]
    rw [h4]
    simp only [Option.bind_some]
    rw [h5]
    have e : k + (N + 1) = k + 1 + N := by omega
    rw [e] at h2 ⊢
    exact whileF_run R N (k + 1) m (fun i hi hi2 => h1 i (by omega) (by omega)) h2 (by omega)
theorem whileF_inv {ft : Env → Option Bool} {f : Env → Option Out} {is : List Nat} (I : Nat → Env → Prop) : ∀ (N k m : Nat) (ρ : Env), I k ρ → (∀ i ρ, k ≤ i → i < k + N → I i ρ → ft ρ = some true ∧ ∃ ρ', f ρ = some (.nx ρ') ∧ I (i + 1) (clr is ρ')) → (∀ ρ, I (k + N) ρ → ft ρ = some false) → N < m →
    ∃ ρ', whileF ft f is m ρ = some (.nx ρ') ∧ I (k + N) ρ'
  | 0, k, m + 1, ρ, h0, _, h2, _ => by
    simp only [whileF]
    rw [h2 ρ h0]
    exact ⟨ρ, rfl, h0⟩
  | N + 1, k, m + 1, ρ, h0, h1, h2, hm => by
    obtain ⟨h3, ρ', h4, h5⟩ := h1 k ρ (Nat.le_refl _) (by omega) h0
    simp only [whileF]
    rw [h3]
    simp only [Option.bind_some, if_true]
    rw [h4]
    simp only [Option.bind_some]
    have e : k + (N + 1) = k + 1 + N := by omega
    rw [e] at h2 ⊢
    exact whileF_inv I N (k + 1) m _ h5 (fun i ρ hi hi2 => h1 i ρ (by omega) (by omega)) h2 (by omega)
theorem range_at {n : Nat} {pre post : List Nat} {t : Nat} (he : List.range n = pre ++ t :: post) : t = pre.length ∧ pre.length < n := by
  have hl := congrArg List.length he
  simp only [List.length_range, List.length_append, List.length_cons] at hl
  have h := congrArg (fun l => l[pre.length]?) he
  simp only [List.getElem?_append_right (Nat.le_refl _), Nat.sub_self, List.getElem?_cons_zero] at h
  rw [List.getElem?_range (by omega)] at h
  injection h with h
  exact ⟨h.symm, by omega⟩
/-! a list or a tuple -/
def sqD (b : Bool) (ds : List D) : D := if b then .tup ds else .lst ds
section
variable {b : Bool} {ds es : List D} {i : Int} {l h : Option Int}
@[simp] theorem lenD_sq : lenD (sqD b ds) = some (.int (ds.length : Nat)) := by cases b <;> rfl
@[simp] theorem listD_sq : listD (sqD b ds) = some (.lst ds) := by cases b <;> rfl
@[simp] theorem seqD_sq : seqD (sqD b ds) = some ds := by cases b <;> rfl
@[simp] theorem ixD_sq : ixD (sqD b ds) (.int i) = atI ds i := by cases b <;> rfl
@[simp] theorem slD_sq : slD (sqD b ds) l h = some (sqD b (cutL ds l h)) := by cases b <;> rfl
@[simp] theorem tupleD_sq : tupleD (sqD b ds) = some (.tup ds) := by cases b <;> rfl
end
@[simp] theorem cntD_strs {xs : List PySem.Str} {x : PySem.Str} : cntD (.lst (xs.map .str)) (.str x) = some (.int (xs.count x : Nat)) := by
  simp only [cntD, lstOf, Option.bind_some, strsOf_map, Option.map_some]
theorem mulD_one {d : D} {k : Int} (h1 : -9223372036854775808 ≤ k) (h2 : k ≤ 16777216) : mulD (.lst [d]) (.int k) = some (.lst (List.replicate k.toNat d)) := by
  have e : (List.replicate k.toNat [d]).flatten = List.replicate k.toNat d := by
    generalize k.toNat = n
    induction n with
    | zero => rfl
    | succ n ih => rw [List.replicate_succ, List.flatten_cons, ih]; rfl
  simp only [mulD, repLst]
  rw [gd_pos ⟨by omega, by omega, le_line (by simp; omega)⟩, e]
/-! texts -/
theorem strIs {s t : String} (h : s ≠ t) : (PySem.Str.ofString s = PySem.Str.ofString t) = False := by
  apply propext
  refine ⟨fun e => h ?_, False.elim⟩
  rw [PySem.Str.ofString_eq_toList, PySem.Str.ofString_eq_toList] at e
  injection e with e
  have e2 := congrArg Array.toList e
  simp only [List.toList_toArray] at e2
  have e3 : s.toList = t.toList := (List.map_inj_right (fun a b hab => Char.ext (UInt32.toNat_inj.mp hab))).mp e2
  exact String.toList_injective e3
end PD

/-! Defs with defaults, calls with keywords, the module's constants, zip. -/
namespace PD
open PySem PySem.Spec PyProof.Rows L2
section
variable {P : Program} {w : World} {K : PySem.W.Frag} {mg : Str → Option Value} {base : Heap} {ct : Nat → Addr}
/-- THE RULE for a def with defaults -/
theorem fn_okD {x qual : Str} {st : Stmt} {dvs : List V} {kws : List (Str × V)} {f : Addr} {fd : FuncData} {N ps : List Str} {k : Nat} {fb : Env → Option Out} (F : FunD K x qual (defArgs st) (defBody st) (defScope st) dvs kws f fd) (S : FnScope N ps (defScope st))
    (hb : ∀ (cdv : Value) (A : Around) (outer : List PySem.Env) (s : Shared) (H : Hp) (E : XK), Room k (A.deeper (envOfC qual (defScope st) s.heap.objs.size f cdv)) →
      PSs (cxOf CX0 P w K mg base N qual (defScope st) f cdv A outer s H E).nox (defBody st) (tSt K ct fb)) (hN : ps.length ≤ N.length := by decide) :
    FnOk P w K mg base CX0 (k + 1) f fd ps (spD K ct ps.length (runF N.length fb)) := by
  refine F.ok S (fun vs H Q E h => ?_) (fun cdv A outer s H vs Q E hr h => ?_)
  · obtain ⟨HF, H0, ds, d, hl, _⟩ := h
    exact hl
  · obtain ⟨HF, H0, ds, d, hl, h0, hF, dj, r, hf, q⟩ := h
    refine ⟨_, (hb cdv A outer s H E hr).nox, ?_⟩
    unfold runF at hf
    split at hf
    · rename_i d' hd
      cases hf
      exact ⟨HF, H0, _, _, start_ok h0 hF dj r (by rw [hl]; exact hN), hd, fun v H1 H' e1 e2 e3 d3 r1 => q v H1 H' e1 e2 e3 d3 r1⟩
    · rename_i ρ hd
      cases hf
      exact ⟨HF, H0, _, _, start_ok h0 hF dj r (by rw [hl]; exact hN), hd, fun σ H1 H' e1 S1 => q .non H1 H' e1 S1.e0 S1.ef S1.dj (by simp only [Rep])⟩
    · cases hf
/-- f(e, .., k = v, ..) of a def with a tuple of defaults, without keyword-only parameters -/
theorem kbinds1 {x qual : Str} {params : Arguments} {body : List Stmt} {scope : Scope} {dvs : List V} {kws : List (Str × V)} {f : Addr} {fd : FuncData} {ps : List Str} (F : FunD K x qual params body scope dvs kws f fd) (n : Nat) (ks : List Str) (g : {α : Type} → List α → List α → List α → List α) (hd : dvs ≠ [])
    (hrel : ∀ {vs ds zs : List V} {us its ws : List Value}, Vals vs us → Vals ds its → Vals zs ws → Vals (g vs ds zs) (g us its ws))
    (h : ∀ (T : Addr) (kV doc pm : Value) (an : Option Addr) (cdv ct : Value) (us its ws : List Value), us.length = n → its.length = dvs.length → ws.length = ks.length →
      ∃ k, bindArgs (PySem.W.fnOf x qual params body scope (.ref T) kV doc pm an cdv ct) ⟨us, ks.zip ws⟩ = seqItems? (.ref T) >>= k ∧ k (some its.toArray) = pure (ps.zip (g us its ws))) :
    ∃ its : List Value, KBn K fd ps n ks (fun us ws => g us its ws) (fun vs zs => g vs dvs zs) := by
  obtain ⟨oc, od, dV, kV, doc, pm, an, cdv, ct, osl, rfl, lk, hcd, hD, hK⟩ := F.ex
  rcases hD with ⟨e, _⟩ | ⟨_, T, o, its, m, rfl, lT, oT, rT⟩
  · exact absurd e hd
  · refine ⟨its, ⟨fun s us ws X l1 l2 => ?_, fun r1 r2 => hrel r1 rT r2⟩⟩
    obtain ⟨k, e1, e2⟩ := h T kV doc pm an cdv ct us its ws l1 rT.length.symm l2
    refine BindsTo.of_looks fun M => ?_
    rw [e1]
    exact looks_items X lT oT (.of_pure e2)
theorem funD_mk {x qual : Str} {st : Stmt} {dvs : List V} {f T : Addr} {oc : Value} {od an : Option Addr} {osl : Array (Option Value)} {kV doc pm cdv ct : Value} {o : Obj} {its : List Value} {n : Nat} (hd : dvs ≠ [])
    (l : K.lookup f = some ⟨oc, od, .func (PySem.W.fnOf x qual (defArgs st) (defBody st) (defScope st) (.ref T) kV doc pm an cdv ct), osl⟩)
    (c : PySem.W.codeIn K cdv qual = true) (k : PySem.W.keepIn K (.ref f) = true) (lT : K.lookup T = some o) (oT : o.data = .seq its.toArray n) (rT : Vals dvs its) : FunD K x qual (defArgs st) (defBody st) (defScope st) dvs [] f (PySem.W.fnOf x qual (defArgs st) (defBody st) (defScope st) (.ref T) kV doc pm an cdv ct) :=
  ⟨⟨oc, od, .ref T, kV, doc, pm, an, cdv, ct, osl, rfl, l, c, .inr ⟨hd, T, o, its, n, rfl, lT, oT, rT⟩, .inl rfl⟩, k⟩
end
section
variable {X : Cx} {ct : Nat → Addr} {k : Nat} {f : Addr} {fd : FuncData} {ps ks : List Str} {x : Str} {p pos kpos : Pos} {e : Expr} {es : List Expr} {kws : List Keyword} {fa fk : Env → Option (List D)} {fe : Env → Option D} {F : List D → Option D} {n : Nat} {nm : Option Str}
theorem kw_nil : PK X [] (tAr X.K ct aNil) := ⟨fun pos pins s σ H Q I h => pk_nil.run pos pins s σ H Q I (by
  obtain ⟨HF, H0, ρ, ds, S, hf, q⟩ := h
  cases hf
  exact q [] H0 H (Same.refl _) S RepL.nil)⟩
theorem kw_cons (ha : PE X e (tD X.K ct fe)) (hr : PK X kws (tAr X.K ct fk)) : PK X (⟨nm, e, kpos⟩ :: kws) (tAr X.K ct (aCons fe fk)) := ⟨fun pos pins s σ H Q I h => (pk_cons ha hr).run pos pins s σ H Q I (by
  obtain ⟨HF, H0, ρ, ds, S, hf, q⟩ := h
  obtain ⟨x, hx, hf⟩ := bind_some hf
  obtain ⟨xs, hxs, hz⟩ := bind_some hf
  cases hz
  exact ⟨HF, H0, ρ, x, S, hx, fun v H1 H' e1 S1 r1 => ⟨HF, H1, ρ, xs, S1, hxs, fun vs H2 H'' e2 S2 r2 => q (v :: vs) H2 H'' (e1.trans e2) S2 (RepL.cons (r1.mono e2) r2)⟩⟩)⟩
def fCallK (F : List D → Option D) (g : List D → List D → List D) (fa fk : Env → Option (List D)) : Env → Option D := fun ρ => (fa ρ).bind fun ds => (fk ρ).bind fun es => F (g ds es)
@[simp] theorem fCallK_at {g : List D → List D → List D} {s : Slot} {l : Env} : fCallK F g fa fk (s :: l) = match fa (s :: l) with
  | some ds => (match fk (s :: l) with
    | some es => F (g ds es)
    | none => none)
  | none => none := by
  unfold fCallK
  cases fa (s :: l) with
  | none => rfl
  | some ds => simp only [Option.bind_some]; cases fk (s :: l) <;> rfl
/-- f(e, .., k = v, ..) -/
theorem e_callK {g : List D → List D → List D} {gW : List Value → List Value → List Value} {gV : List V → List V → List V} {m l : Nat} (G : FnOk X.prog X.w X.K X.mg X.base CX0 k f fd ps (spD X.K ct n F)) (hr : Room k X.A) (hg : Gl X x) (hm : X.mg x = some (.ref f)) (hk : PySem.W.keepIn X.K (.ref f) = true)
    (hb : KBn X.K fd ps m ks gW gV) (hrep : ∀ H ds es vs zs, RepL X.K ct H ds vs → RepL X.K ct H es zs → RepL X.K ct H (g ds es) (gV vs zs)) (hlen : ∀ vs zs, vs.length = m → zs.length = ks.length → (gV vs zs).length = n)
    (ha : PA X (e :: es) (tAr X.K ct fa)) (hkw : PK X kws (tAr X.K ct fk)) (hn : ∀ ρ ds, fa ρ = some ds → ds.length = m) (hn2 : ∀ ρ ds, fk ρ = some ds → ds.length = l) (hl : l = ks.length)
    (hall : (backToKw pos (keywordEach kws X.env)).all (·.1.isSome) = true := by rfl) (hks : (backToKw pos (keywordEach kws X.env)).filterMap (·.1) = ks := by rfl) (hdb : (x == ("__debug__" : Str)) = false := by decide +kernel)
    (he : starEach (e :: es) X.env = (false, eval e X.env) :: starEach es X.env := by rfl) (hpl : ((backTo pos (starEach (e :: es) X.env)).any (·.1) || (backToKw pos (keywordEach kws X.env)).any (·.1.isNone)) = false := by rfl) :
    PE X (.Call (.Name x p) (e :: es) kws pos) (tD X.K ct (fCallK F g fa fk)) :=
  (pe_callN G hr hg hm hk hb pass0 ha hkw hall hks hdb he hpl).weak fun σ H Q h => by
    obtain ⟨HF, H0, ρ, z, S, hf, q⟩ := h
    obtain ⟨ds, hds, hz⟩ := bind_some hf
    obtain ⟨es', hes, hz⟩ := bind_some hz
    refine ⟨HF, H0, ρ, ds, S, hds, fun vs H1 H' e1 S1 r1 => ⟨HF, H1, ρ, es', S1, hes, fun zs H2 H'' e2 S2 r2 => ?_⟩⟩
    have l1 : vs.length = m := by rw [r1.length]; exact hn ρ ds hds
    have l2 : zs.length = ks.length := by rw [r2.length, ← hl]; exact hn2 ρ es' hes
    obtain ⟨hF, dj⟩ := S2.ownF
    exact ⟨l1, l2, PD.ownF ρ σ HF H'', H2, g ds es', z, hlen vs zs l1 l2, S2.e0, hF, dj, hrep _ _ _ _ _ (r1.mono e2) r2, hz, fun v H3 H4 e3 e4 e5 d5 r3 => q v H3 H4 ((e1.trans e2).trans e3) (S2.behind e3 e4 e5 d5) r3⟩
/-- a constant of the module -/
theorem e_glob {x : Str} {d : D} {v : V} {u : Value} {pos : Pos} (hg : Gl X x) (hm : X.mg x = some u) (r : RelV v u) (hv : ∀ H, Rep X.K ct H d v) (hd : (x == ("__debug__" : Str)) = false := by decide +kernel) : PE X (.Name x pos) (tD X.K ct (fC d)) :=
  (pe_glob hg hm r hd).weak fun σ H Q h => by
    obtain ⟨HF, H0, ρ, z, S, hf, q⟩ := h
    cases hf
    exact q v H0 H (Same.refl _) S (hv _)
end
/-! ### zip -/
def zipD : D → D → Option (List D)
  | .tup a, .tup b => some ((a.zip b).map fun p => .tup [p.1, p.2])
  | .lst a, .lst b => some ((a.zip b).map fun p => .tup [p.1, p.2])
  | .frl a, .lst b => some ((a.zip b).map fun p => .tup [p.1, p.2])
  | .lst a, .frl b => some ((a.zip b).map fun p => .tup [p.1, p.2])
  | .frl a, .frl b => some ((a.zip b).map fun p => .tup [p.1, p.2])
  | _, _ => none
def iZip (fa : Env → Option (List D)) : Env → Option (List D) := fun ρ => match fa ρ with
  | some [a, b] => zipD a b
  | _ => none
@[simp] theorem iZip_at {fa : Env → Option (List D)} {s : Slot} {l : Env} : iZip fa (s :: l) = match fa (s :: l) with
  | some [a, b] => zipD a b
  | _ => none := rfl
section
variable {K : PySem.W.Frag} {ct : Nat → Addr}
theorem zip_at {ds es : List D} {i : Nat} {d : D} (h : ((ds.zip es).map fun p => D.tup [p.1, p.2])[i]? = some d) : ∃ a b, ds[i]? = some a ∧ es[i]? = some b ∧ d = .tup [a, b] := by
  rw [List.getElem?_map] at h
  obtain ⟨⟨a, b⟩, h1, rfl⟩ := map_some h
  rw [List.getElem?_zip_eq_some] at h1
  exact ⟨a, b, h1.1, h1.2, rfl⟩
theorem sqt_inj {H : Hp} {a : Addr} {xs ys : List V} (h : SqT K H a xs) (h' : xs = ys) : SqT K H a ys := h' ▸ h
theorem walk_zL {H1 : Hp} {a b : Addr} {xs ys : List V} {ds es : List D} (hx : SqL K H1 a xs) (hy : SqL K H1 b ys) (rx : RepL K ct H1 ds xs) (ry : RepL K ct H1 es ys) : WalkD K ct H1 ((ds.zip es).map fun p => .tup [p.1, p.2]) (Itz K a b) := fun H e => by
  refine ⟨fun i d hd => ?_, xs, ys, e.seq hx, e.seq hy, ?_⟩
  · obtain ⟨p, q, h1, h2, rfl⟩ := zip_at hd
    obtain ⟨v, hv, rv⟩ := rx.get h1
    obtain ⟨u, hu, ru⟩ := ry.get h2
    refine ⟨⟨xs, ys, v, u, e.seq hx, e.seq hy, hv, hu⟩, fun z H' hy' => .inr ?_⟩
    obtain ⟨T, x', y', rfl, hT, rfl, g1, g2⟩ := hy'
    have e1 := g1 xs (e.seq hx)
    have e2 := g2 ys (e.seq hy)
    rw [hv] at e1
    rw [hu] at e2
    cases e1
    cases e2
    exact ⟨T, [v, u], [p, q], hT, rfl, rfl, rfl, RepL.cons rv (RepL.one ru)⟩
  · rw [List.length_map, List.length_zip, ← rx.length, ← ry.length]
    omega
theorem walk_zT {H1 : Hp} {a b : Addr} {xs ys : List V} {ds es : List D} (hx : SqT K H1 a xs) (hy : SqT K H1 b ys) (rx : RepL K ct H1 ds xs) (ry : RepL K ct H1 es ys) : WalkD K ct H1 ((ds.zip es).map fun p => .tup [p.1, p.2]) (RZ.ItzT K a b) := fun H e => by
  refine ⟨fun i d hd => ?_, xs, ys, same_sqt e hx, same_sqt e hy, ?_⟩
  · obtain ⟨p, q, h1, h2, rfl⟩ := zip_at hd
    obtain ⟨v, hv, rv⟩ := rx.get h1
    obtain ⟨u, hu, ru⟩ := ry.get h2
    refine ⟨⟨xs, ys, v, u, same_sqt e hx, same_sqt e hy, hv, hu⟩, fun z H' hy' => .inr ?_⟩
    obtain ⟨T, x', y', rfl, hT, rfl, g1, g2⟩ := hy'
    have e1 := g1 xs (same_sqt e hx)
    have e2 := g2 ys (same_sqt e hy)
    rw [hv] at e1
    rw [hu] at e2
    cases e1
    cases e2
    exact ⟨T, [v, u], [p, q], hT, rfl, rfl, rfl, RepL.cons rv (RepL.one ru)⟩
  · rw [List.length_map, List.length_zip, ← rx.length, ← ry.length]
    omega
end
section
variable {X : Cx} {ct : Nat → Addr} {e e2 : Expr} {fa : Env → Option (List D)} {p pos tpos : Pos} {elts : List Expr} {kk : Nat}
theorem i_zip (hg : Gl X "zip") (hm : X.mg "zip" = none) (ha : PA X [e, e2] (tAr X.K ct fa)) (hs : starEach [e, e2] X.env = (false, eval e X.env) :: starEach [e2] X.env := by rfl) (hpl : (backTo pos (starEach [e2] X.env)).any (·.1) = false := by rfl) :
    PI X (.Tuple elts kk tpos) (.Call (.Name "zip" p) [e, e2] [] pos) (tI X.K ct (iZip fa)) := (RZ.pi_zipA hg hm ha hs hpl).weak fun σ H R => by
  rintro ⟨HF, H0, ρ, ds, S, hf, q⟩
  unfold iZip at hf
  split at hf
  · rename_i a b hab
    refine ⟨HF, H0, ρ, [a, b], S, hab, fun vs H1 H' e1 S1 r1 => ?_⟩
    obtain ⟨v, vs', rfl, ra, r2⟩ := r1.uncons
    obtain ⟨u, us', rfl, rb, r3⟩ := r2.uncons
    rw [r3.of_nil]
    have ll : ∀ {a b : D} {as bs : List D} {v u : V}, (a = .lst as ∨ a = .frl as) → (b = .lst bs ∨ b = .frl bs) → Rep X.K ct H1 a v → Rep X.K ct H1 b u → ∃ p q xs ys, v = .ref p ∧ u = .ref q ∧ SqL X.K H1 p xs ∧ SqL X.K H1 q ys ∧ RepL X.K ct H1 as xs ∧ RepL X.K ct H1 bs ys := by
      have one : ∀ {a : D} {as : List D} {v : V}, (a = .lst as ∨ a = .frl as) → Rep X.K ct H1 a v → ∃ p xs, v = .ref p ∧ SqL X.K H1 p xs ∧ RepL X.K ct H1 as xs := by
        rintro a as v (rfl | rfl) r
        · simp only [Rep] at r
          obtain ⟨p, xs, rfl, h, rl⟩ := r
          exact ⟨p, xs, rfl, SqL.of h, rl⟩
        · simp only [Rep] at r
          exact r
      intro a b as bs v u ha hb ra rb
      obtain ⟨p, xs, rfl, h1, h2⟩ := one ha ra
      obtain ⟨q, ys, rfl, h3, h4⟩ := one hb rb
      exact ⟨p, q, xs, ys, rfl, rfl, h1, h3, h2, h4⟩
    have lists : ∀ {as bs : List D}, (a = .lst as ∨ a = .frl as) → (b = .lst bs ∨ b = .frl bs) → ds = ((as.zip bs).map fun p => .tup [p.1, p.2]) → ∃ p q xs ys, ([v, u] : List V) = [.ref p, .ref q] ∧ ((SqL X.K H' p xs ∧ SqL X.K H' q ys ∧ R (Itz X.K p q) H') ∨ (SqT X.K H' p xs ∧ SqT X.K H' q ys ∧ R (RZ.ItzT X.K p q) H')) := by
      intro as bs ha hb he
      obtain ⟨p, q', xs, ys, rfl, rfl, h1, h2, h3, h4⟩ := ll ha hb ra rb
      subst he
      exact ⟨p, q', xs, ys, rfl, .inl ⟨S1.e0.seq h1, S1.e0.seq h2, q _ H1 H' e1 S1 (walk_zL h1 h2 h3 h4)⟩⟩
    unfold zipD at hf
    split at hf
    · cases hf
      simp only [Rep] at ra rb
      obtain ⟨p, xs, rfl, h1, h3⟩ := ra
      obtain ⟨q', ys, rfl, h2, h4⟩ := rb
      exact ⟨p, q', xs, ys, rfl, .inr ⟨same_sqt S1.e0 h1, same_sqt S1.e0 h2, q _ H1 H' e1 S1 (walk_zT h1 h2 h3 h4)⟩⟩
    · cases hf; exact lists (.inl rfl) (.inl rfl) rfl
    · cases hf; exact lists (.inr rfl) (.inl rfl) rfl
    · cases hf; exact lists (.inl rfl) (.inr rfl) rfl
    · cases hf; exact lists (.inr rfl) (.inr rfl) rfl
    · cases hf
  · cases hf
end
end PD

/-! rows of texts -/
namespace PL
open PySem PySem.Spec PyProof.Rows L2 PD
abbrev St := PySem.Str
def strD (xs : List St) : List D := xs.map .str
theorem strD_nil : strD [] = [] := rfl
theorem strD_one {x : St} : strD [x] = [.str x] := rfl
@[simp] theorem strD_len {xs : List St} : (strD xs).length = xs.length := List.length_map ..
@[simp] theorem strD_add {xs ys : List St} : strD xs ++ strD ys = strD (xs ++ ys) := (List.map_append ..).symm
theorem strD_cut {xs : List St} {n : Nat} : cutL (strD xs) (some (n : Int)) none = strD (xs.drop n) := by
  rw [cutL_from]
  exact (List.map_drop ..).symm
theorem strD_to {xs : List St} {n : Nat} : cutL (strD xs) none (some (n : Int)) = strD (xs.take n) := by
  rw [cutL_to]
  exact (List.map_take ..).symm
theorem gd_strs {xs : List St} (h : ∀ s ∈ xs, okS s) : ∀ d ∈ strD xs, Gd 0 d := by
  intro d hd
  obtain ⟨s, hs, rfl⟩ := List.mem_map.mp hd
  exact .str (h s hs)
theorem lst_ok {xs : List St} (h : ∀ s ∈ xs, okS s) : okD (.lst (strD xs)) = true := (Gd.lst (n := 0) (gd_strs h)).ok (by decide)
theorem noB_strs {xs : List St} : noBL (strD xs) = true := noBL_map fun _ => rfl
theorem strD_inj {xs ys : List St} : strD xs = strD ys ↔ xs = ys := by
  unfold strD
  exact ⟨fun h => List.map_inj_right (fun a b h => by injection h) |>.mp h, fun h => by rw [h]⟩
theorem eq_lst {xs ys : List St} {neg : Bool} (h : ∀ s ∈ xs, okS s) (h' : ∀ s ∈ ys, okS s) : eqO neg (.lst (strD xs)) (.lst (strD ys)) = some (.bl (neg != decide (xs = ys))) :=
  eqO_is (lst_ok h) (lst_ok h') noB_strs noB_strs (by rw [decide_eq_true_iff, D.lst.injEq, strD_inj])
end PL

namespace PL
open PySem PySem.Spec PyProof.Rows L2 PD
noncomputable def b_polled : PD.Env → Option Out := (sSeq (sAsg (f2 (f2 (fBor 1) (fC (.int 1)) addD) (fBor 2) modD) (gN 1))
    (sSeq (sIf (fT (f2 (fBor 1) (fBor 3) (eqO false))) (sRet (fTup (aCons (f2 (f1 (fBor 0) listD) (fLst (aCons (fC (.str "tick")) aNil)) addD) (aCons (fTup aNil) (aCons (fVar 1) aNil))))) sNext)
    (sRet (fTup (aCons (fLst (aCons (fC (.str "tick")) aNil)) (aCons (fVar 0) (aCons (fVar 1) aNil)))))))
noncomputable def F_polled : List D → Option D := runF 4 b_polled
noncomputable def b_held : PD.Env → Option Out := (sSeq (sAsg (fLc [2, 3] (iSeq (fVar 0)) (gT 2 (gsCons (gN 2) (gsCons (gN 3) gsNil))) (fT (f2 (fBor 3) (fC (.int 1)) (eqO false))) (fVar 2)) (gN 1))
    (sSeq (sAsg (f1 (fLc [2, 3] (iSeq (fVar 0)) (gT 2 (gsCons (gN 2) (gsCons (gN 3) gsNil))) (fT (f2 (fBor 3) (fC (.int 1)) gtD)) (fTup (aCons (fVar 2) (aCons (f2 (fBor 3) (fC (.int 1)) subD) aNil)))) tupleD) (gN 4))
    (sRet (fTup (aCons (f2 (fBor 1) (fLst (aCons (fC (.str "tick")) aNil)) addD) (aCons (fVar 4) aNil))))))
noncomputable def F_held : List D → Option D := runF 5 b_held
noncomputable def loop_heard_by_polling_1 : PD.Env → Option Out := (sIf (fT (f2 (fBor 6) (fC (.str "tick")) (eqO false))) (sSeq (sAsg (fCall F_polled [] (aCons (fVar 4) (aCons (fVar 5) (aCons (fVar 1) (aCons (fVar 2) aNil))))) (gT 3 (gsCons (gN 7) (gsCons (gN 4) (gsCons (gN 5) gsNil)))))
    (sAsg (f2 (fBor 3) (fBor 7) addD) (gN 3))) (sAsg (f2 (fBor 4) (fTup (aCons (fVar 6) aNil)) addD) (gN 4)))
noncomputable def loop_heard_by_polling_2 : PD.Env → Option Out := (sSeq (sAsg (fCall F_polled [] (aCons (fVar 4) (aCons (fVar 5) (aCons (fVar 1) (aCons (fVar 2) aNil))))) (gT 3 (gsCons (gN 7) (gsCons (gN 4) (gsCons (gN 5) gsNil)))))
    (sAsg (f2 (fBor 3) (fBor 7) addD) (gN 3)))
noncomputable def test_heard_by_polling_3 : PD.Env → Option Bool := (fTru (fBor 4))
noncomputable def b_heard_by_polling : PD.Env → Option Out := (sSeq (sAsg (fLst aNil) (gN 3))
    (sSeq (sAsg (fTup aNil) (gN 4))
    (sSeq (sAsg (fC (.int 0)) (gN 5))
    (sSeq (sFor (iSeq (fVar 0)) (gN 6) loop_heard_by_polling_1 [6])
    (sSeq (whileF test_heard_by_polling_3 loop_heard_by_polling_2 [] 100000)
    (sRet (fVar 3)))))))
noncomputable def F_heard_by_polling : List D → Option D := runF 8 b_heard_by_polling
noncomputable def loop_heard_by_holding_1 : PD.Env → Option Out := (sIf (fT (f2 (fBor 4) (fC (.str "tick")) (eqO false))) (sSeq (sAsg (fCall F_held [] (aCons (fVar 3) aNil)) (gT 2 (gsCons (gN 5) (gsCons (gN 3) gsNil))))
    (sAsg (f2 (fBor 2) (fBor 5) addD) (gN 2))) (sAsg (f2 (fBor 3) (fTup (aCons (fTup (aCons (fVar 4) (aCons (fVar 1) aNil))) aNil)) addD) (gN 3)))
noncomputable def loop_heard_by_holding_2 : PD.Env → Option Out := (sSeq (sAsg (fCall F_held [] (aCons (fVar 3) aNil)) (gT 2 (gsCons (gN 5) (gsCons (gN 3) gsNil))))
    (sAsg (f2 (fBor 2) (fBor 5) addD) (gN 2)))
noncomputable def test_heard_by_holding_3 : PD.Env → Option Bool := (fTru (fBor 3))
noncomputable def b_heard_by_holding : PD.Env → Option Out := (sSeq (sAsg (fLst aNil) (gN 2))
    (sSeq (sAsg (fTup aNil) (gN 3))
    (sSeq (sFor (iSeq (fVar 0)) (gN 4) loop_heard_by_holding_1 [4])
    (sSeq (whileF test_heard_by_holding_3 loop_heard_by_holding_2 [] 100000)
    (sRet (fVar 2))))))
noncomputable def F_heard_by_holding : List D → Option D := runF 6 b_heard_by_holding
noncomputable def b_law_cell : PD.Env → Option Out := (sSeq (sIf (fT (f2 (fBor 1) (f1 (fBor 0) lenD) ltD)) (sRet (f2 (fBor 0) (fBor 1) ixD)) sNext)
    (sRet (fC (.int 0))))
noncomputable def F_law_cell : List D → Option D := runF 2 b_law_cell
noncomputable def loop_law_row_1 : PD.Env → Option Out := (sIf (fT (f2 (fBor 0) (f2 (fC (.int 10)) (fC (.int 18)) powD) geD)) (sSeq (sApp 2 (f2 (f1 (fBor 3) toIntD) (fC (.int 840)) modD))
    (sAsg (f2 (fBor 3) (fC (.int 840)) fdivD) (gN 3))) (sSeq (sAsg (f2 (f1 (f2 (f2 (fBor 4) (fC (.int 48271)) mulD) (fBor 5) addD) toIntD) (fC (.int 2147483647)) modD) (gN 4))
    (sApp 2 (f2 (f2 (f2 (f1 (f2 (fBor 4) (fC (.int 69621)) mulD) toIntD) (fC (.int 2147483629)) modD) (fC (.int 7)) fdivD) (fC (.int 840)) modD))))
noncomputable def b_law_row : PD.Env → Option Out := (sSeq (sOwn 2 (fLst aNil))
    (sSeq (sAsg (fVar 0) (gN 3))
    (sSeq (sAsg (f2 (f2 (f1 (fBor 0) toIntD) (fC (.int 2147483629)) modD) (fC (.int 1)) addD) (gN 4))
    (sSeq (sFor (iR1 (fBor 1)) (gN 5) loop_law_row_1 [5])
    (fun ρ => (sRet (fVar 2)) (frz [2] ρ))))))
noncomputable def F_law_row : List D → Option D := runF 6 b_law_row
noncomputable def b_law_word : PD.Env → Option Out := (sSeq (sAsg (fC (.str "abcdefghijklmnopqrstuvwxyz")) (gN 1))
    (sSeq (sAsg (f2 (fBor 1) (f2 (fBor 0) (fC (.int 26)) modD) ixD) (gN 2))
    (sSeq (sIf (fT (f2 (f2 (f2 (fBor 0) (fC (.int 26)) fdivD) (fC (.int 3)) modD) (fC (.int 0)) gtD)) (sAsg (f2 (fBor 2) (f2 (fBor 1) (f2 (f2 (fBor 0) (fC (.int 3)) fdivD) (fC (.int 26)) modD) ixD) addD) (gN 2)) sNext)
    (sSeq (sIf (fT (f2 (f2 (f2 (fBor 0) (fC (.int 26)) fdivD) (fC (.int 3)) modD) (fC (.int 2)) (eqO false))) (sAsg (f2 (f2 (f2 (fBor 2) (f2 (fBor 1) (f2 (f2 (fBor 0) (fC (.int 5)) fdivD) (fC (.int 26)) modD) ixD) addD) (f2 (fBor 1) (f2 (f2 (fBor 0) (fC (.int 11)) fdivD) (fC (.int 26)) modD) ixD) addD) (f2 (fBor 1) (f2 (f2 (fBor 0) (fC (.int 2)) fdivD) (fC (.int 26)) modD) ixD) addD) (gN 2)) sNext)
    (sRet (fVar 2))))))
noncomputable def F_law_word : List D → Option D := runF 3 b_law_word
noncomputable def b_law_names_v3 : PD.Env → Option Out := (sSeq (sAsg (fCall F_law_word [] (aCons (f2 (fBor 0) (fC (.int 0)) ixD) aNil)) (gN 1))
    (sSeq (sAsg (fCall F_law_word [] (aCons (f2 (fBor 0) (fC (.int 1)) ixD) aNil)) (gN 2))
    (sSeq (sIf (fT (f2 (fBor 2) (fBor 1) (eqO false))) (sAsg (f2 (fBor 2) (fC (.str "q")) addD) (gN 2)) sNext)
    (sSeq (sIf (fT (f2 (f2 (f2 (fBor 0) (fC (.int 2)) ixD) (fC (.int 3)) modD) (fC (.int 0)) (eqO false))) (sRet (fLst (aCons (fVar 1) aNil))) sNext)
    (sRet (fLst (aCons (fVar 1) (aCons (fVar 2) aNil))))))))
noncomputable def F_law_names_v3 : List D → Option D := runF 3 b_law_names_v3
noncomputable def loop_law_polled_1 : PD.Env → Option Out := (sIf (fT (f2 (f2 (fBor 6) (fBor 7) ixD) (fC (.str "tick")) (eqO true))) (sApp 4 (f2 (fBor 6) (fBor 7) ixD)) (sIf (fOr (fT (f2 (fBor 7) (f1 (fBor 0) lenD) ltD)) (fT (f2 (f1 (fBor 4) lenD) (fC (.int 0)) gtD))) (sSeq (sAsg (f2 (fBor 5) (fC (.int 1)) addD) (gN 5))
    (sSeq (sIf (fT (f2 (f2 (f2 (fBor 5) (fBor 2) subD) (fBor 1) modD) (fC (.int 0)) (eqO false))) (sSeq (sOwn 3 (f2 (fBor 3) (fBor 4) addLst))
    (sOwn 4 (fLst aNil))) sNext)
    (sApp 3 (fC (.str "tick"))))) sNext))
noncomputable def b_law_polled : PD.Env → Option Out := (sSeq (sOwn 3 (fLst aNil))
    (sSeq (sOwn 4 (fLst aNil))
    (sSeq (sAsg (fC (.int 0)) (gN 5))
    (sSeq (sAsg (f2 (f1 (fBor 0) listD) (fLc [7] (iR1 (fC (.int 62))) (gN 7) qYes (fC (.str "tick"))) addD) (gN 6))
    (sSeq (sFor (iR1 (f1 (fBor 6) lenD)) (gN 7) loop_law_polled_1 [])
    (fun ρ => (sRet (fVar 3)) (frz [3] ρ)))))))
noncomputable def F_law_polled : List D → Option D := runF 8 b_law_polled
noncomputable def loop_law_held_1 : PD.Env → Option Out := (sIf (fT (f2 (fBor 4) (fC (.str "tick")) (eqO false))) (sAsg (f2 (fBor 3) (fC (.int 1)) addD) (gN 3)) (sApp 2 (fTup (aCons (f2 (fBor 3) (fBor 1) addD) (aCons (fVar 4) aNil)))))
noncomputable def loop_law_held_2 : PD.Env → Option Out := (fun ρ => (sAsg (f2 (f2 (fBor 7) (fLc [6] (iSeq (fVar 2)) (gN 6) (fT (f2 (f2 (fBor 6) (fC (.int 0)) ixD) (f2 (fBor 8) (fC (.int 1)) addD) (eqO false))) (f2 (fBor 6) (fC (.int 1)) ixD)) addD) (fLst (aCons (fC (.str "tick")) aNil)) addD) (gN 7)) (frz [2] ρ))
noncomputable def b_law_held : PD.Env → Option Out := (sSeq (sOwn 2 (fLst aNil))
    (sSeq (sAsg (fC (.int 0)) (gN 3))
    (sSeq (sFor (iSeq (fVar 0)) (gN 4) loop_law_held_1 [4])
    (sSeq (fun ρ => (sAsg (f1 (f2 (fLst (aCons (fVar 3) aNil)) (fLc [6] (iSeq (fVar 2)) (gN 6) qYes (f2 (fBor 6) (fC (.int 0)) ixD)) addD) maxD) (gN 5)) (frz [2] ρ))
    (sSeq (sAsg (fLst aNil) (gN 7))
    (sSeq (sFor (iR1 (fBor 5)) (gN 8) loop_law_held_2 [8])
    (sRet (fVar 7))))))))
noncomputable def F_law_held : List D → Option D := runF 9 b_law_held
end PL

/-! what every law begins with: a cell of the script, a row drawn from a cell -/
namespace PL
open PySem PySem.Spec PyProof.Rows L2 PD
def cellAt (ns : List Int) (k : Nat) : Int := ns.getD k 0
theorem cell_eq (ns : List Int) (k : Nat) : F_law_cell [.frl (ns.map .int), .int (k : Nat)] = some (.int (cellAt ns k)) := by
  unfold cellAt
  by_cases h : k < ns.length
  · refine runF_rt ?_
    have e : atI (ns.map D.int) ((k : Nat) : Int) = some (.int ns[k]) := atI_nat (by simp [h])
    simp [b_law_cell, h, e]
  · refine runF_rt ?_
    simp [b_law_cell, h]
theorem row_turn {c n i : Int} {r : List Int} {x s : Int} (hr : r.length ≤ 1000) :
    ∃ y x' s', turn (gN 5) loop_law_row_1 [5] (.int i) [.val (.int c), .val (.int n), .own (.lst (r.map .int)), .val (.int x), .val (.int s), .un] = some (.nx [.val (.int c), .val (.int n), .own (.lst ((r ++ [y]).map .int)), .val (.int x'), .val (.int s'), .un]) ∧ 0 ≤ y ∧ y < 840 := by
  have hl : r.length < sizeLine := Nat.lt_of_le_of_lt hr (by decide)
  have hl' : r.length < 16777216 := Nat.lt_of_le_of_lt hr (by decide)
  by_cases hc : 1000000000000000000 ≤ c
  · refine ⟨x % 840, x / 840, s, ?_, by omega, by omega⟩
    simp [loop_law_row_1, powD_int, hc, modD_pos, fdivD_pos, hl']
  · refine ⟨(s * 48271 + i) % 2147483647 * 69621 % 2147483629 / 7 % 840, x, (s * 48271 + i) % 2147483647, ?_, by omega, by omega⟩
    simp [loop_law_row_1, powD_int, hc, modD_pos, fdivD_pos, mulD_right, hl']
theorem row_eq (c : Int) (n : Nat) (hn : n ≤ 1000) : ∃ r : List Int, F_law_row [.int c, .int (n : Nat)] = some (.lst (r.map .int)) ∧ r.length = n ∧ ∀ x ∈ r, 0 ≤ x ∧ x < 840 := by
  have loop := forF_run (ft := gN 5) (f := loop_law_row_1) (is := [5]) (enc := fun i : Nat => D.int (i : Int)) (fun pre ρ => ∃ (r : List Int) (x s : Int), ρ = [.val (.int c), .val (.int n), .own (.lst (r.map .int)), .val (.int x), .val (.int s), .un] ∧ r.length = pre.length ∧ (∀ y ∈ r, 0 ≤ y ∧ y < 840)) (List.range n)
    (ρ := [.val (.int c), .val (.int n), .own (.lst []), .val (.int c), .val (.int (c % 2147483629 + 1)), .un]) ⟨[], c, _, rfl, rfl, (by simp)⟩ (by
      rintro pre t post ρ he ⟨r, x, s, rfl, h1, h2⟩
      have hl := congrArg List.length he
      simp at hl
      obtain ⟨y, x', s', h4, h5⟩ := row_turn (c := c) (n := n) (i := (t : Nat)) (r := r) (x := x) (s := s) (by omega)
      refine ⟨_, h4, r ++ [y], x', s', rfl, by simp [h1], fun z hz => ?_⟩
      rcases List.mem_append.mp hz with hz | hz
      · exact h2 z hz
      · rw [List.mem_singleton.mp hz]
        exact h5)
  obtain ⟨ρ', h1, r, x, s, rfl, h2, h3⟩ := loop
  refine ⟨r, runF_rt ?_, by simpa using h2, h3⟩
  have hn2 : (n : Int) < 4611686018427387904 := by omega
  have hn3 : (-4611686018427387904 : Int) ≤ n := by omega
  simp [b_law_row, modD_pos, hn2, hn3, h1]
end PL

/-! words -/
namespace PL
open PySem PySem.Spec PyProof.Rows L2 PD
def letters : St := PySem.Str.ofString "abcdefghijklmnopqrstuvwxyz"
theorem letters_len : letters.cps.toList.length = 26 := by decide +kernel
theorem letters_ok : ∀ c ∈ letters.cps.toList, 97 ≤ c ∧ c < 123 := by
  have h : (letters.cps.toList.all fun c => decide (97 ≤ c) && decide (c < 123)) = true := by decide +kernel
  intro c hc
  have := (List.all_eq_true.mp h) c hc
  rw [Bool.and_eq_true] at this
  exact ⟨of_decide_eq_true this.1, of_decide_eq_true this.2⟩
/-- small letters alone -/
def Low (s : St) : Prop := ∀ c ∈ s.cps.toList, 97 ≤ c ∧ c < 123
theorem Low.ok {s : St} (h : Low s) : okS s := by
  unfold okS
  rw [Array.all_eq_true']
  intro c hc
  have := h c (Array.mem_def.mp hc)
  exact decide_eq_true (by omega)
theorem Low.append {s t : St} (h : Low s) (h' : Low t) : Low (s ++ t) := by
  intro c hc
  rw [PySem.Str.cps_append, Array.toList_append] at hc
  exact (List.mem_append.mp hc).elim (h c) (h' c)
theorem str_len {s : St} : s.length = s.cps.toList.length := by
  unfold PySem.Str.length
  simp
theorem letter_at (i : Int) : ∃ w : St, ixD (.str letters) (.int (i % 26)) = some (.str w) ∧ w.length = 1 ∧ Low w := by
  have h1 : (i % 26).toNat < letters.cps.toList.length := by rw [letters_len]; omega
  have h2 : i % 26 = (((i % 26).toNat : Nat) : Int) := by omega
  refine ⟨⟨#[letters.cps.toList[(i % 26).toNat]]⟩, ?_, rfl, ?_⟩
  · have hl : letters.length ≤ sizeLine := by rw [str_len, letters_len]; exact le_line (by decide)
    have ha : atI letters.cps.toList (i % 26) = some letters.cps.toList[(i % 26).toNat] := atI_lt h2 (List.getElem?_eq_getElem h1)
    simp only [ixD]
    rw [gd_pos hl]
    simp only [Option.bind_some]
    rw [ha]
    rfl
  · intro c hc
    simp at hc
    subst hc
    exact letters_ok _ (List.getElem_mem _)
theorem addD_str {a b : St} (h : a.length + b.length ≤ 16777216) : addD (.str a) (.str b) = some (.str (a ++ b)) := gd_pos (le_line h)
theorem word_eq (n : Int) : ∃ w : St, F_law_word [.int n] = some (.str w) ∧ (w.length = 1 ∨ w.length = 2 ∨ w.length = 5) ∧ Low w := by
  obtain ⟨a, a1, a2, a3⟩ := letter_at n
  obtain ⟨b, b1, b2, b3⟩ := letter_at (n / 3)
  obtain ⟨c, c1, c2, c3⟩ := letter_at (n / 5)
  obtain ⟨d, d1, d2, d3⟩ := letter_at (n / 11)
  obtain ⟨e, e1, e2, e3⟩ := letter_at (n / 2)
  unfold letters at a1 b1 c1 d1 e1
  have ab := addD_str (a := a) (b := b) (by omega)
  have l1 := PySem.Str.length_append a b
  have abc := addD_str (a := a ++ b) (b := c) (by omega)
  have l2 := PySem.Str.length_append (a ++ b) c
  have abcd := addD_str (a := a ++ b ++ c) (b := d) (by omega)
  have l3 := PySem.Str.length_append (a ++ b ++ c) d
  have abcde := addD_str (a := a ++ b ++ c ++ d) (b := e) (by omega)
  have l4 := PySem.Str.length_append (a ++ b ++ c ++ d) e
  have hm := Int.emod_nonneg (n / 26) (b := 3) (by decide)
  have hm2 := Int.emod_lt_of_pos (n / 26) (b := 3) (by decide)
  by_cases h0 : n / 26 % 3 = 0
  · refine ⟨a, runF_rt ?_, .inl a2, a3⟩
    simp [b_law_word, modD_pos, fdivD_pos, a1, h0]
  by_cases h1 : n / 26 % 3 = 1
  · refine ⟨a ++ b, runF_rt ?_, .inr (.inl (by omega)), a3.append b3⟩
    simp [b_law_word, modD_pos, fdivD_pos, a1, b1, h1, ab]
  · have h2 : n / 26 % 3 = 2 := by omega
    refine ⟨a ++ b ++ c ++ d ++ e, runF_rt ?_, .inr (.inr (by omega)), (((a3.append b3).append c3).append d3).append e3⟩
    simp [b_law_word, modD_pos, fdivD_pos, a1, b1, c1, d1, e1, h2, ab, abc, abcd, abcde]
end PL

/-! what receivers hear -/
namespace PL
open PySem PySem.Spec PyProof.Rows L2 PD
theorem low_q : Low (PySem.Str.ofString "q") := by
  have h : (PySem.Str.ofString "q").cps.toList = [113] := by decide +kernel
  intro c hc
  rw [h] at hc
  simp at hc
  omega
theorem len_q : (PySem.Str.ofString "q").length = 1 := by decide +kernel
theorem names3_eq {r : List Int} (h : r.length = 3) : ∃ ns : List St, F_law_names_v3 [.lst (r.map .int)] = some (.lst (strD ns)) ∧ 0 < ns.length ∧ ns.length ≤ 2 ∧ ∀ s ∈ ns, okS s := by
  obtain ⟨x, y, z, rfl⟩ : ∃ x y z, r = [x, y, z] := by
    match r, h with
    | [x, y, z], _ => exact ⟨x, y, z, rfl⟩
  obtain ⟨a, a1, a2, a3⟩ := word_eq x
  obtain ⟨b, b1, b2, b3⟩ := word_eq y
  have i0 : atI [D.int x, D.int y, D.int z] 0 = some (.int x) := rfl
  have i1 : atI [D.int x, D.int y, D.int z] 1 = some (.int y) := rfl
  have i2 : atI [D.int x, D.int y, D.int z] 2 = some (.int z) := rfl
  have lq := len_q
  have bq := addD_str (a := b) (b := PySem.Str.ofString "q") (by omega)
  by_cases hz : z % 3 = 0
  · refine ⟨[a], runF_rt ?_, by simp, by simp, fun s hs => by rw [List.mem_singleton.mp hs]; exact a3.ok⟩
    by_cases hb : b = a
    · subst hb
      simp [b_law_names_v3, i0, i1, i2, a1, b1, modD_pos, hz, bq, strD]
    · simp [b_law_names_v3, i0, i1, i2, a1, b1, modD_pos, hz, hb, strD]
  · by_cases hb : b = a
    · refine ⟨[a, b ++ PySem.Str.ofString "q"], runF_rt ?_, by simp, by simp, fun s hs => ?_⟩
      · subst hb
        simp [b_law_names_v3, i0, i1, i2, a1, b1, modD_pos, hz, bq, strD]
      · simp at hs
        rcases hs with rfl | rfl
        · exact a3.ok
        · exact (b3.append low_q).ok
    · refine ⟨[a, b], runF_rt ?_, by simp, by simp, fun s hs => ?_⟩
      · simp [b_law_names_v3, i0, i1, i2, a1, b1, modD_pos, hz, hb, strD]
      · simp at hs
        rcases hs with rfl | rfl
        · exact a3.ok
        · exact b3.ok
/-! polling -/
abbrev tk : St := PySem.Str.ofString "tick"
theorem tk_ok : okS tk := by unfold okS; decide +kernel
structure Pst where
  w : List St
  t : Nat
  r : List St
def ptick (P o : Int) (s : Pst) : Pst := if ((s.t : Int) + 1 - o) % P = 0 then ⟨[], s.t + 1, s.r ++ (s.w ++ [tk])⟩ else ⟨s.w, s.t + 1, s.r ++ [tk]⟩
def phear (P o : Int) (s : Pst) (x : St) : Pst := if x = tk then ptick P o s else ⟨s.w ++ [x], s.t, s.r⟩
def pfl (P o : Int) (s : Pst) : Pst := if s.w = [] then s else ptick P o s
def psize (s : Pst) : Nat := s.w.length + s.r.length
theorem ptick_size {P o : Int} {s : Pst} : psize (ptick P o s) ≤ psize s + 1 := by
  unfold ptick psize
  split <;> simp <;> omega
theorem phear_size {P o : Int} {s : Pst} {x : St} : psize (phear P o s x) ≤ psize s + 1 := by
  unfold phear
  split
  · exact ptick_size
  · unfold psize
    simp
    omega
theorem polled_eq {P o : Int} (hP : 0 < P) (ho : 0 ≤ o) (ho2 : o < P) {w : List St} {t : Nat} (hw : w.length ≤ 10000) (r : List St) :
    ∃ rr : List St, F_polled [.tup (strD w), .int ((t : Int) % P), .int P, .int o] = some (.tup [.lst (strD rr), .tup (strD (ptick P o ⟨w, t, r⟩).w), .int (((ptick P o ⟨w, t, r⟩).t : Int) % P)]) ∧ r ++ rr = (ptick P o ⟨w, t, r⟩).r ∧ rr.length ≤ w.length + 1 := by
  have e : ((t : Int) % P + 1) % P = ((t : Int) + 1) % P := Int.emod_add_emod ..
  have c : ((t : Int) + 1) % P = o ↔ ((t : Int) + 1 - o) % P = 0 := by
    have h := Int.emod_eq_emod_iff_emod_sub_eq_zero (m := (t : Int) + 1) (k := o) (n := P)
    rw [Int.emod_eq_of_lt ho ho2] at h
    exact h
  have ad := addD_lst (ds := strD w) (es := [D.str tk]) (by simp; omega)
  have ad' : addD (.lst (strD w)) (.lst [D.str tk]) = some (.lst (strD (w ++ [tk]))) := by
    rw [ad]
    unfold strD
    simp
  unfold ptick
  by_cases h : ((t : Int) + 1 - o) % P = 0
  · have h' := c.mpr h
    simp only [h, if_true]
    refine ⟨w ++ [tk], runF_rt ?_, rfl, by simp⟩
    simp [b_polled, modD_pos hP, e, h', ad', strD_nil]
  · have h' : ¬ ((t : Int) + 1) % P = o := fun q => h (c.mp q)
    simp only [h, if_false]
    refine ⟨[tk], runF_rt ?_, rfl, by simp⟩
    simp [b_polled, modD_pos hP, e, h', strD_one]
def envP (b : Bool) (xs : List St) (P o : Int) (s : Pst) (s7 : Slot) : PD.Env :=
  [.val (sqD b (strD xs)), .val (.int P), .val (.int o), .val (.lst (strD s.r)), .val (.tup (strD s.w)), .val (.int ((s.t : Int) % P)), .un, s7]
theorem turnP {b : Bool} {xs : List St} {P o : Int} (hP : 0 < P) (ho : 0 ≤ o) (ho2 : o < P) {s : Pst} {s7 : Slot} (hs : psize s ≤ 10000) (x : St) :
    ∃ s7', turn (gN 6) loop_heard_by_polling_1 [6] (.str x) (envP b xs P o s s7) = some (.nx (envP b xs P o (phear P o s x) s7')) := by
  unfold psize at hs
  by_cases h : x = tk
  · subst h
    obtain ⟨rr, e1, e2, e3⟩ := polled_eq hP ho ho2 (w := s.w) (t := s.t) (by omega) s.r
    have ad := addD_lst (ds := strD s.r) (es := strD rr) (by simp; omega)
    rw [strD_add, e2] at ad
    have hh : phear P o s tk = ptick P o ⟨s.w, s.t, s.r⟩ := if_pos rfl
    rw [hh]
    exact ⟨_, by simp [envP, loop_heard_by_polling_1, e1, ad]; rfl⟩
  · have ad := addD_tup (ds := strD s.w) (es := [D.str x]) (by simp; omega)
    have ad' : addD (.tup (strD s.w)) (.tup [D.str x]) = some (.tup (strD (s.w ++ [x]))) := by
      rw [ad]
      unfold strD
      simp
    have hh : phear P o s x = ⟨s.w ++ [x], s.t, s.r⟩ := if_neg h
    rw [hh]
    exact ⟨_, by simp [envP, loop_heard_by_polling_1, h, ad']; rfl⟩
theorem bodyP {b : Bool} {xs : List St} {P o : Int} (hP : 0 < P) (ho : 0 ≤ o) (ho2 : o < P) {s : Pst} {s7 : Slot} (hs : psize s ≤ 10000) :
    ∃ s7', loop_heard_by_polling_2 (envP b xs P o s s7) = some (.nx (envP b xs P o (ptick P o s) s7')) := by
  unfold psize at hs
  obtain ⟨rr, e1, e2, e3⟩ := polled_eq hP ho ho2 (w := s.w) (t := s.t) (by omega) s.r
  have ad := addD_lst (ds := strD s.r) (es := strD rr) (by simp; omega)
  rw [strD_add, e2] at ad
  exact ⟨_, by simp [envP, loop_heard_by_polling_2, e1, ad]; rfl⟩

def iter (f : Pst → Pst) : Nat → Pst → Pst
  | 0, s => s
  | n + 1, s => iter f n (f s)
theorem iter_succ (f : Pst → Pst) : ∀ (n : Nat) (s : Pst), iter f (n + 1) s = f (iter f n s)
  | 0, _ => rfl
  | n + 1, s => iter_succ f n (f s)
theorem iter_size {P o : Int} : ∀ (n : Nat) (s : Pst), psize (iter (ptick P o) n s) ≤ psize s + n
  | 0, s => Nat.le_refl _
  | n + 1, s => by
    have := iter_size (P := P) (o := o) n (ptick P o s)
    have := ptick_size (P := P) (o := o) (s := s)
    unfold iter
    omega
theorem iter_idle {P o : Int} {s : Pst} (h : s.w = []) : ∀ n : Nat, iter (pfl P o) n s = s
  | 0 => rfl
  | n + 1 => by
    have e : pfl P o s = s := if_pos h
    unfold iter
    rw [e]
    exact iter_idle h n
theorem flush {P o : Int} : ∀ (d : Nat) (s : Pst), ((s.t : Int) + ((d + 1 : Nat) : Int) - o) % P = 0 → ∃ N : Nat, N ≤ d + 1 ∧ (∀ k, k < N → (iter (ptick P o) k s).w ≠ []) ∧ (iter (ptick P o) N s).w = [] ∧ ∀ M, N ≤ M → iter (pfl P o) M s = iter (ptick P o) N s
  | d, s, h => by
    by_cases hw : s.w = []
    · exact ⟨0, Nat.zero_le _, fun k hk => absurd hk (Nat.not_lt_zero k), hw, fun M _ => iter_idle hw M⟩
    have next : pfl P o s = ptick P o s := if_neg hw
    cases d with
    | zero =>
      have e : (ptick P o s).w = [] := by
        unfold ptick
        rw [if_pos (by simpa using h)]
      refine ⟨1, Nat.le_refl _, fun k hk => ?_, e, fun M hM => ?_⟩
      · have : k = 0 := by omega
        subst this
        exact hw
      · obtain ⟨M', rfl⟩ : ∃ M', M = M' + 1 := ⟨M - 1, by omega⟩
        show iter _ M' (pfl P o s) = _
        rw [next]
        exact iter_idle e M'
    | succ d =>
      have ht : (ptick P o s).t = s.t + 1 := by
        unfold ptick
        split <;> rfl
      obtain ⟨N, h1, h2, h3, h4⟩ := flush d (ptick P o s) (by
        rw [ht]
        have e : (((s.t + 1 : Nat) : Int) + ((d + 1 : Nat) : Int) - o) = (s.t : Int) + ((d + 1 + 1 : Nat) : Int) - o := by omega
        rw [e]
        exact h)
      refine ⟨N + 1, by omega, fun k hk => ?_, h3, fun M hM => ?_⟩
      · cases k with
        | zero => exact hw
        | succ k => exact h2 k (by omega)
      · obtain ⟨M', rfl⟩ : ∃ M', M = M' + 1 := ⟨M - 1, by omega⟩
        show iter _ M' (pfl P o s) = _
        rw [next]
        exact h4 M' (by omega)
theorem flush62 {P o : Int} (hP : 0 < P) (hP2 : P ≤ 60) (s : Pst) : ∃ N : Nat, N ≤ 62 ∧ (∀ k, k < N → (iter (ptick P o) k s).w ≠ []) ∧ (iter (ptick P o) N s).w = [] ∧ iter (pfl P o) 62 s = iter (ptick P o) N s := by
  have m1 := Int.emod_nonneg ((s.t : Int) - o) (b := P) (by omega)
  have m2 := Int.emod_lt_of_pos ((s.t : Int) - o) hP
  have q := Int.emod_add_mul_ediv ((s.t : Int) - o) P
  obtain ⟨d, hd⟩ : ∃ d : Nat, ((d + 1 : Nat) : Int) = P - ((s.t : Int) - o) % P := ⟨(P - ((s.t : Int) - o) % P - 1).toNat, by omega⟩
  have e : ((s.t : Int) + ((d + 1 : Nat) : Int) - o) % P = 0 := by
    have : (s.t : Int) + ((d + 1 : Nat) : Int) - o = P * (((s.t : Int) - o) / P + 1) := by
      rw [hd, Int.mul_add, Int.mul_one]
      omega
    rw [this, Int.mul_emod_right]
  obtain ⟨N, h1, h2, h3, h4⟩ := flush d s e
  exact ⟨N, by omega, h2, h3, h4 62 (by omega)⟩
def pstart : Pst := ⟨[], 0, []⟩
def pall (P o : Int) (xs : List St) : Pst := xs.foldl (phear P o) pstart
theorem pall_snoc {P o : Int} {xs : List St} {x : St} : pall P o (xs ++ [x]) = phear P o (pall P o xs) x := by
  unfold pall
  rw [List.foldl_append]
  rfl
theorem heard_polling_eq {b : Bool} {xs : List St} {P o : Int} (hP : 0 < P) (hP2 : P ≤ 60) (ho : 0 ≤ o) (ho2 : o < P) (hx : xs.length ≤ 1000) :
    F_heard_by_polling [sqD b (strD xs), .int P, .int o] = some (.lst (strD (iter (pfl P o) 62 (pall P o xs)).r)) := by
  have z : (((0 : Nat) : Int) % P) = 0 := by simp
  obtain ⟨ρ', h1, s7, rfl, h3⟩ := forF_run (ft := gN 6) (f := loop_heard_by_polling_1) (is := [6]) (enc := D.str) (fun pre ρ => ∃ s7, ρ = envP b xs P o (pall P o pre) s7 ∧ psize (pall P o pre) ≤ pre.length) xs
    (ρ := envP b xs P o pstart .un) ⟨.un, rfl, Nat.le_refl _⟩ (by
      rintro pre x post ρ he ⟨s7, rfl, hs⟩
      have hl := congrArg List.length he
      simp at hl
      obtain ⟨s7', e⟩ := turnP (b := b) (xs := xs) hP ho ho2 (s := pall P o pre) (s7 := s7) (by omega) x
      refine ⟨_, e, s7', by rw [pall_snoc], ?_⟩
      have := phear_size (P := P) (o := o) (s := pall P o pre) (x := x)
      rw [pall_snoc]
      simp
      omega)
  obtain ⟨N, n1, n2, n3, n4⟩ := flush62 (o := o) hP hP2 (pall P o xs)
  obtain ⟨ρ2, h4, s8, h5⟩ := whileF_inv (ft := test_heard_by_polling_3) (f := loop_heard_by_polling_2) (is := []) (fun k ρ => ∃ s7, ρ = envP b xs P o (iter (ptick P o) k (pall P o xs)) s7) N 0 100000 (envP b xs P o (pall P o xs) s7) ⟨s7, rfl⟩ (by
      rintro i ρ _ hi ⟨s7, rfl⟩
      have sz := iter_size (P := P) (o := o) i (pall P o xs)
      obtain ⟨s7', e⟩ := bodyP (b := b) (xs := xs) hP ho ho2 (s := iter (ptick P o) i (pall P o xs)) (s7 := s7) (by omega)
      have nw := n2 i (by omega)
      refine ⟨?_, _, e, s7', by rw [iter_succ]; rfl⟩
      have : (strD (iter (ptick P o) i (pall P o xs)).w).isEmpty = false := by
        cases hw : (iter (ptick P o) i (pall P o xs)).w with
        | nil => exact absurd hw nw
        | cons _ _ => rfl
      simp [test_heard_by_polling_3, envP, truD, this])
    (by
      rintro ρ ⟨s7, rfl⟩
      rw [Nat.zero_add]
      simp [test_heard_by_polling_3, envP, truD, n3, strD_nil])
    (by omega)
  rw [Nat.zero_add] at h5
  subst h5
  rw [n4]
  refine runF_rt ?_
  unfold envP at h1 h4
  unfold pstart at h1
  simp only [strD_nil, z] at h1
  unfold strD at h1 h4 ⊢
  simp [b_heard_by_polling, h1, h4]

/-! the law's own poll -/
def tks : List St := List.replicate 62 tk
theorem tks_len : tks.length = 62 := List.length_replicate ..
def pAt (P o : Int) (xs : List St) (k : Nat) : Pst := iter (pfl P o) (k - xs.length) (pall P o (xs.take k))
def envLP (xs : List St) (P o : Int) (s : Pst) (s7 : Slot) : PD.Env :=
  [.val (.lst (strD xs)), .val (.int P), .val (.int o), .own (.lst (strD s.r)), .own (.lst (strD s.w)), .val (.int (s.t : Nat)), .val (.lst (strD (xs ++ tks))), s7]
theorem pfl_size {P o : Int} {s : Pst} : psize (pfl P o s) ≤ psize s + 1 := by
  unfold pfl
  split
  · omega
  · exact ptick_size
theorem strD_snoc {xs : List St} {x : St} : strD xs ++ [D.str x] = strD (xs ++ [x]) := by
  unfold strD
  simp
theorem turnLP {xs : List St} {P o : Int} (hP : 0 < P) {s : Pst} {s7 : Slot} (hs : psize s ≤ 10000) {k : Nat} {x : St} (hk : (xs ++ tks)[k]? = some x) :
    turn (gN 7) loop_law_polled_1 [] (.int (k : Nat)) (envLP xs P o s s7) = some (.nx (envLP xs P o (if x = tk then (if k < xs.length then ptick P o s else pfl P o s) else ⟨s.w ++ [x], s.t, s.r⟩) (.val (.int (k : Nat))))) := by
  unfold psize at hs
  have at1 : atI (strD (xs ++ tks)) (k : Int) = some (.str x) := atI_lt rfl (by
    unfold strD
    rw [List.getElem?_map, hk]
    rfl)
  by_cases hx : x = tk
  · subst hx
    have l1 : (s.r).length < 16777216 := by omega
    have l2 : s.r.length + s.w.length < 16777216 := by omega
    have ad := addLst_lst (ds := strD s.r) (es := strD s.w) (by simp; omega)
    rw [strD_add] at ad
    have tickcase : ∀ (g : s.w ≠ [] ∨ k < xs.length), turn (gN 7) loop_law_polled_1 [] (.int (k : Nat)) (envLP xs P o s s7) = some (.nx (envLP xs P o (ptick P o s) (.val (.int (k : Nat))))) := by
      intro g
      unfold ptick
      by_cases c : ((s.t : Int) + 1 - o) % P = 0
      · rw [if_pos c]
        by_cases g1 : k < xs.length
        · simp [envLP, loop_law_polled_1, at1, g1, modD_pos hP, c, ad, l2, strD_nil, strD_snoc]
        · have g2 : 0 < s.w.length := by
            rcases g with g | g
            · exact List.length_pos_iff.mpr g
            · exact absurd g g1
          simp [envLP, loop_law_polled_1, at1, g1, g2, modD_pos hP, c, ad, l2, strD_nil, strD_snoc]
      · rw [if_neg c]
        by_cases g1 : k < xs.length
        · simp [envLP, loop_law_polled_1, at1, g1, modD_pos hP, c, l1, strD_snoc]
        · have g2 : 0 < s.w.length := by
            rcases g with g | g
            · exact List.length_pos_iff.mpr g
            · exact absurd g g1
          simp [envLP, loop_law_polled_1, at1, g1, g2, modD_pos hP, c, l1, strD_snoc]
    rw [if_pos rfl]
    by_cases g1 : k < xs.length
    · rw [if_pos g1]
      exact tickcase (.inr g1)
    · rw [if_neg g1]
      unfold pfl
      by_cases g2 : s.w = []
      · rw [if_pos g2]
        simp [envLP, loop_law_polled_1, at1, g1, g2, strD_nil]
      · rw [if_neg g2]
        exact tickcase (.inl g2)
  · rw [if_neg hx]
    have l1 : (s.w).length < 16777216 := by omega
    simp [envLP, loop_law_polled_1, at1, hx, l1, strD_snoc]
theorem law_polled_eq {xs : List St} {P o : Int} (hP : 0 < P) (hx : xs.length ≤ 1000) :
    F_law_polled [.lst (strD xs), .int P, .int o] = some (.lst (strD (iter (pfl P o) 62 (pall P o xs)).r)) := by
  obtain ⟨ρ', h1, h2⟩ := forF_run (ft := gN 7) (f := loop_law_polled_1) (is := []) (enc := fun i : Nat => D.int (i : Int)) (fun pre ρ => ∃ s7, ρ = envLP xs P o (pAt P o xs pre.length) s7 ∧ psize (pAt P o xs pre.length) ≤ pre.length) (List.range (xs.length + 62))
    (ρ := envLP xs P o pstart .un) ⟨.un, by simp [pAt, iter, pall], by simp [pAt, iter, pall, pstart, psize]⟩ (by
      rintro pre k post ρ he ⟨s7, rfl, hs⟩
      obtain ⟨rfl, hk⟩ := range_at he
      have el : (pre ++ [pre.length]).length = pre.length + 1 := by simp
      rw [el]
      generalize pre.length = k at hs hk
      by_cases g : k < xs.length
      · have hx1 : (xs ++ tks)[k]? = some xs[k] := by rw [List.getElem?_append_left g]; exact List.getElem?_eq_getElem g
        have t := turnLP (o := o) hP (s := pAt P o xs k) (s7 := s7) (by omega) hx1
        rw [if_pos g] at t
        have e : pAt P o xs (k + 1) = phear P o (pAt P o xs k) xs[k] := by
          unfold pAt
          rw [List.take_succ_eq_append_getElem g, pall_snoc, show k - xs.length = 0 by omega, show k + 1 - xs.length = 0 by omega]
          rfl
        have sz := phear_size (P := P) (o := o) (s := pAt P o xs k) (x := xs[k])
        unfold phear at e sz
        rw [← e] at t sz
        exact ⟨_, t, _, rfl, by omega⟩
      · have hx1 : (xs ++ tks)[k]? = some tk := by
          unfold tks
          rw [List.getElem?_append_right (by omega), List.getElem?_replicate, if_pos (by omega)]
        have t := turnLP (o := o) hP (s := pAt P o xs k) (s7 := s7) (by omega) hx1
        rw [if_pos rfl, if_neg g] at t
        have e : pAt P o xs (k + 1) = pfl P o (pAt P o xs k) := by
          unfold pAt
          rw [show k + 1 - xs.length = (k - xs.length) + 1 by omega, iter_succ, List.take_of_length_le (by omega), List.take_of_length_le (by omega)]
        have sz := pfl_size (P := P) (o := o) (s := pAt P o xs k)
        rw [← e] at t sz
        exact ⟨_, t, _, rfl, by omega⟩)
  obtain ⟨s7, rfl, h3⟩ := h2
  have e : pAt P o xs (List.range (xs.length + 62)).length = iter (pfl P o) 62 (pall P o xs) := by
    unfold pAt
    rw [List.length_range, List.take_of_length_le (by omega), show xs.length + 62 - xs.length = 62 by omega]
  rw [e] at h1
  have rp := lcF_map (ft := gN 7) (fe := fC (.str tk)) (ρ := [.val (.lst (strD xs)), .val (.int P), .val (.int o), .own (.lst []), .own (.lst []), .val (.int 0), .un, .un]) (enc := fun i : Nat => D.int (i : Int)) (g := fun _ => D.str tk) (ts := List.range 62) (fun x _ => by simp)
  have rp2 : (List.range 62).map (fun _ => D.str tk) = strD (tks) := by
    unfold strD tks
    rw [List.map_replicate, List.map_const', List.length_range]
  rw [rp2] at rp
  have ad := addD_lst (ds := strD xs) (es := strD (tks)) (by simp [tks_len]; omega)
  rw [strD_add] at ad
  refine runF_rt ?_
  unfold envLP pstart at h1
  simp only [strD_nil] at h1
  have i1 : (-4611686018427387904 : Int) ≤ ((xs.length + 62 : Nat) : Int) := by omega
  have i2 : ((xs.length + 62 : Nat) : Int) < 4611686018427387904 := by omega
  have lr : (strD (xs ++ tks)).length = xs.length + 62 := by simp [tks_len]
  have rng : rngL 0 (((xs.length + 62 : Nat) : Int)).toNat = (List.range (xs.length + 62)).map fun i : Nat => D.int (i : Int) := by rw [Int.toNat_natCast, rngL_zero]
  generalize hrest : strD (xs ++ tks) = rest at *
  generalize xs.length + 62 = L at *
  have ld : lenD (.lst rest) = some (.int (L : Nat)) := by rw [lenD_lst, lr]
  have rg : gd (-(2 ^ 62) ≤ ((L : Nat) : Int) ∧ ((L : Nat) : Int) < 2 ^ 62) (rngL 0 ((L : Nat) : Int).toNat) = some ((List.range L).map fun i : Nat => D.int (i : Int)) := by
    rw [rng]
    exact gd_rng i1 i2
  rw [show ((0 : Nat) : Int) = 0 from rfl] at h1
  generalize strD (tks) = tks at *
  simp [b_law_polled, rp, ad, h1, lr, i1, i2, ld, rg]
end PL

/-! holding -/
namespace PL
open PySem PySem.Spec PyProof.Rows L2 PD
abbrev Due := List (Nat × St)
def wEnc (t : Nat) (p : Nat × St) : D := .tup [.str p.2, .int ((p.1 : Int) - (t : Int))]
def wait (due : Due) (t : Nat) : Due := due.filter fun p => decide (t < p.1)
def wD (due : Due) (t : Nat) : List D := (wait due t).map (wEnc t)
def dueAt (due : Due) (k : Nat) : List St := (due.filter fun p => decide (p.1 = k + 1)).map (·.2)
def hres (due : Due) (t : Nat) : List St := (List.range t).flatMap fun k => dueAt due k ++ [tk]
theorem hres_succ (due : Due) (t : Nat) : hres due (t + 1) = hres due t ++ (dueAt due t ++ [tk]) := by
  unfold hres
  rw [List.range_succ, List.flatMap_append]
  simp
theorem dueAt_len (due : Due) (k : Nat) : (dueAt due k).length ≤ due.length := by
  unfold dueAt
  rw [List.length_map]
  exact List.length_filter_le ..
theorem hres_len (due : Due) : ∀ t : Nat, (hres due t).length ≤ t * (due.length + 1)
  | 0 => by simp [hres]
  | t + 1 => by
    rw [hres_succ, List.length_append, List.length_append, Nat.succ_mul]
    have := hres_len due t
    have := dueAt_len due t
    simp
    omega
theorem held_eq {due : Due} {t : Nat} (hd : due.length ≤ 1000) : F_held [.tup (wD due t)] = some (.tup [.lst (strD (dueAt due t ++ [tk])), .tup (wD due (t + 1))]) := by
  have lw : (wD due t).length ≤ 16777216 := by
    unfold wD wait
    rw [List.length_map]
    have := List.length_filter_le (fun p : Nat × St => decide (t < p.1)) due
    omega
  have f1 : lcF (gT 2 (gsCons (gN 2) (gsCons (gN 3) gsNil))) (fT (f2 (fBor 3) (fC (.int 1)) (eqO false))) (fVar 2) [.val (.tup (wD due t)), .un, .un, .un, .un] (wD due t) = some (strD (dueAt due t)) := by
    have h := lcF_filter (ft := gT 2 (gsCons (gN 2) (gsCons (gN 3) gsNil))) (fq := fT (f2 (fBor 3) (fC (.int 1)) (eqO false))) (fe := fVar 2) (ρ := [.val (.tup (wD due t)), .un, .un, .un, .un]) (enc := wEnc t) (q := fun p => decide ((p.1 : Int) - (t : Int) = 1)) (g := fun p => .str p.2) (ts := wait due t)
      (fun p _ => ⟨by simp [wEnc], fun _ => by simp [wEnc]⟩)
    refine h.trans ?_
    unfold strD dueAt wait
    rw [List.map_map, List.filter_filter]
    congr 2
    apply List.filter_congr
    intro p _
    rw [← Bool.decide_and]
    apply decide_eq_decide.mpr
    omega
  have f2' : ∀ (dd : D), lcF (gT 2 (gsCons (gN 2) (gsCons (gN 3) gsNil))) (fT (f2 (fBor 3) (fC (.int 1)) gtD)) (fTup (aCons (fVar 2) (aCons (f2 (fBor 3) (fC (.int 1)) subD) aNil))) [.val (.tup (wD due t)), .val dd, .un, .un, .un] (wD due t) = some (wD due (t + 1)) := by
    intro dd
    have h := lcF_filter (ft := gT 2 (gsCons (gN 2) (gsCons (gN 3) gsNil))) (fq := fT (f2 (fBor 3) (fC (.int 1)) gtD)) (fe := fTup (aCons (fVar 2) (aCons (f2 (fBor 3) (fC (.int 1)) subD) aNil))) (ρ := [.val (.tup (wD due t)), .val dd, .un, .un, .un]) (enc := wEnc t) (q := fun p => decide (1 < (p.1 : Int) - (t : Int))) (g := fun p => .tup [.str p.2, .int ((p.1 : Int) - (t : Int) - 1)]) (ts := wait due t)
      (fun p _ => ⟨by simp [wEnc], fun _ => by simp [wEnc]⟩)
    refine h.trans ?_
    unfold wD wait wEnc
    rw [List.filter_filter]
    congr 1
    have e : (due.filter fun a => decide (1 < (a.1 : Int) - (t : Int)) && decide (t < a.1)) = due.filter fun p => decide (t + 1 < p.1) := by
      apply List.filter_congr
      intro p _
      rw [← Bool.decide_and]
      apply decide_eq_decide.mpr
      omega
    rw [e]
    apply List.map_congr_left
    intro p _
    have : (p.1 : Int) - (t : Int) - 1 = (p.1 : Int) - ((t + 1 : Nat) : Int) := by omega
    rw [this]
  have l2 := dueAt_len due t
  have ad : addD (.lst (strD (dueAt due t))) (.lst [D.str tk]) = some (.lst (strD (dueAt due t ++ [tk]))) := by rw [addD_lst (by simp; omega), strD_snoc]
  refine runF_rt ?_
  simp [b_held, f1, f2', lw, ad]
/-- all that came: what is due, and how many ticks -/
def hstep (h : Nat) (s : Due × Nat) (x : St) : Due × Nat := if x = tk then (s.1, s.2 + 1) else (s.1 ++ [(s.2 + h, x)], s.2)
def hall (h : Nat) (xs : List St) : Due × Nat := xs.foldl (hstep h) ([], 0)
theorem hall_snoc {h : Nat} {xs : List St} {x : St} : hall h (xs ++ [x]) = hstep h (hall h xs) x := by
  unfold hall
  rw [List.foldl_append]
  rfl
theorem wD_new {due : Due} {t h : Nat} {x : St} (hh : 0 < h) : wD (due ++ [(t + h, x)]) t = wD due t ++ [.tup [.str x, .int (h : Nat)]] := by
  have e : ((t + h : Nat) : Int) - (t : Int) = (h : Int) := by omega
  unfold wD wait
  rw [List.filter_append]
  have : [(t + h, x)].filter (fun p : Nat × St => decide (t < p.1)) = [(t + h, x)] := by
    simp
    omega
  rw [this, List.map_append]
  simp only [List.map_cons, List.map_nil, wEnc, e]
theorem hres_new {due : Due} {t h : Nat} {x : St} (hh : 0 < h) : hres (due ++ [(t + h, x)]) t = hres due t := by
  unfold hres
  rw [List.flatMap_def, List.flatMap_def]
  congr 1
  apply List.map_congr_left
  intro k hk
  rw [List.mem_range] at hk
  unfold dueAt
  rw [List.filter_append]
  have : [(t + h, x)].filter (fun p : Nat × St => decide (p.1 = k + 1)) = [] := by
    simp
    omega
  rw [this, List.append_nil]
def envH (b : Bool) (xs : List St) (h : Nat) (s : Due × Nat) (s5 : Slot) : PD.Env := [.val (sqD b (strD xs)), .val (.int (h : Nat)), .val (.lst (strD (hres s.1 s.2))), .val (.tup (wD s.1 s.2)), .un, s5]
theorem tickH {due : Due} {t : Nat} (hd : due.length ≤ 1000) (ht : t ≤ 1100) : addD (.lst (strD (hres due t))) (.lst (strD (dueAt due t ++ [tk]))) = some (.lst (strD (hres due (t + 1)))) := by
  have l1 := hres_len due t
  have l2 := dueAt_len due t
  have l3 : t * (due.length + 1) ≤ 1100 * 1001 := Nat.mul_le_mul ht (by omega)
  rw [addD_lst (by simp; omega), strD_add, hres_succ]
theorem turnH {b : Bool} {xs : List St} {h : Nat} (hh : 0 < h) {s : Due × Nat} {s5 : Slot} (hd : s.1.length ≤ 999) (ht : s.2 ≤ 1000) (x : St) :
    ∃ s5', turn (gN 4) loop_heard_by_holding_1 [4] (.str x) (envH b xs h s s5) = some (.nx (envH b xs h (hstep h s x) s5')) := by
  by_cases hx : x = tk
  · subst hx
    have e1 := held_eq (due := s.1) (t := s.2) (by omega)
    have e2 := tickH (due := s.1) (t := s.2) (by omega) (by omega)
    rw [show hstep h s tk = (s.1, s.2 + 1) from if_pos rfl]
    exact ⟨_, by simp [envH, loop_heard_by_holding_1, e1, e2]; rfl⟩
  · rw [show hstep h s x = (s.1 ++ [(s.2 + h, x)], s.2) from if_neg hx]
    have lw : (wD s.1 s.2).length ≤ 999 := by
      unfold wD wait
      rw [List.length_map]
      have := List.length_filter_le (fun p : Nat × St => decide (s.2 < p.1)) s.1
      omega
    have ad := addD_tup (ds := wD s.1 s.2) (es := [D.tup [.str x, .int (h : Nat)]]) (by simp; omega)
    rw [← wD_new hh] at ad
    refine ⟨s5, ?_⟩
    simp [envH, loop_heard_by_holding_1, hx, ad, hres_new hh]
theorem bodyH {b : Bool} {xs : List St} {h : Nat} {due : Due} {t : Nat} {s5 : Slot} (hd : due.length ≤ 1000) (ht : t ≤ 1100) : ∃ s5', loop_heard_by_holding_2 (envH b xs h (due, t) s5) = some (.nx (envH b xs h (due, t + 1) s5')) := by
  have e1 := held_eq (due := due) (t := t) hd
  have e2 := tickH (due := due) (t := t) hd ht
  exact ⟨_, by simp [envH, loop_heard_by_holding_2, e1, e2]; rfl⟩
/-- the last tick at which something is due -/
def hlast (s : Due × Nat) : Nat := s.1.foldl (fun a p => max a p.1) s.2
theorem foldl_maxN : ∀ (due : Due) (a : Nat), (due.foldl (fun a p => max a p.1) a = a ∨ ∃ p ∈ due, p.1 = due.foldl (fun a p => max a p.1) a) ∧ a ≤ due.foldl (fun a p => max a p.1) a ∧ ∀ p ∈ due, p.1 ≤ due.foldl (fun a p => max a p.1) a
  | [], a => ⟨.inl rfl, Nat.le_refl _, fun y h => by cases h⟩
  | n :: ns, a => by
    simp only [List.foldl_cons]
    obtain ⟨h1, h2, h3⟩ := foldl_maxN ns (max a n.1)
    refine ⟨?_, by omega, fun y hy => ?_⟩
    · rcases h1 with h1 | ⟨p, hp, h1⟩
      · rw [h1]
        by_cases c : a < n.1
        · exact .inr ⟨n, List.mem_cons_self, by omega⟩
        · exact .inl (by omega)
      · exact .inr ⟨p, List.mem_cons_of_mem _ hp, h1⟩
    · rcases List.mem_cons.mp hy with e | hy
      · rw [e]; omega
      · exact h3 y hy
theorem hall_size {h : Nat} : ∀ xs : List St, (hall h xs).1.length + (hall h xs).2 = xs.length ∧ ∀ p ∈ (hall h xs).1, p.1 ≤ (hall h xs).2 + h := by
  intro xs
  rw [← List.reverse_reverse xs]
  induction xs.reverse with
  | nil => simp [hall]
  | cons x ys ih =>
    rw [List.reverse_cons, hall_snoc]
    obtain ⟨h1, h2⟩ := ih
    unfold hstep
    by_cases hx : x = tk
    · rw [if_pos hx]
      refine ⟨by simp at h1 ⊢; omega, fun p hp => ?_⟩
      have := h2 p hp
      show p.1 ≤ _ + 1 + h
      omega
    · rw [if_neg hx]
      refine ⟨by simp at h1 ⊢; omega, fun p hp => ?_⟩
      rcases List.mem_append.mp hp with hp | hp
      · exact h2 p hp
      · rw [List.mem_singleton.mp hp]
        exact Nat.le_refl _
end PL

namespace Lk23
open PySem PySem.Spec PyProof.Rows L2 PD PL
def topS (i : Nat) : Stmt := PySem.Challenge.pw_latecoming_k23_what_receivers_hear.main.body.getD i (.Pass ⟨0, 0, 0, 0⟩)
abbrev s_polled : Stmt := topS 2
abbrev s_held : Stmt := topS 3
abbrev s_heard_by_polling : Stmt := topS 4
abbrev s_heard_by_holding : Stmt := topS 5
abbrev s__law_cell : Stmt := topS 7
abbrev s__law_row : Stmt := topS 8
abbrev s__law_word : Stmt := topS 9
abbrev s__law_names : Stmt := topS 10
abbrev s__law_polled : Stmt := topS 11
abbrev s__law_held : Stmt := topS 12
abbrev s_law : Stmt := topS 13
noncomputable def b_law : PD.Env → Option Out := (sSeq (sAsg (fCall F_law_names_v3 [] (aCons (fCall F_law_row [] (aCons (fCall F_law_cell [] (aCons (fVar 0) (aCons (fC (.int 0)) aNil))) (aCons (fC (.int 3)) aNil))) aNil)) (gN 1))
    (sSeq (sAsg (f2 (fBor 1) (fLst (aCons (fC (.str "tick")) (aCons (fC (.str "tick")) aNil))) addD) (gN 2))
    (sSeq (sAsg (fLc [4] (iSeq (f2 (fCall F_law_row [] (aCons (fCall F_law_cell [] (aCons (fVar 0) (aCons (fC (.int 1)) aNil))) (aCons (f2 (fCall F_law_cell [] (aCons (fVar 0) (aCons (fC (.int 2)) aNil))) (fC (.int 30)) modD) aNil))) (fSl (fBor 0) (pSome (fC (.int 5))) pNone slD) addD)) (gN 4) qYes (f2 (fBor 2) (f2 (fBor 4) (f1 (fBor 2) lenD) modD) ixD)) (gN 3))
    (sSeq (sAsg (f2 (fC (.int 1)) (f2 (fCall F_law_cell [] (aCons (fVar 0) (aCons (fC (.int 3)) aNil))) (fC (.int 60)) modD) addD) (gN 5))
    (sSeq (sIf (fT (f2 (f2 (f2 (fCall F_law_cell [] (aCons (fVar 0) (aCons (fC (.int 3)) aNil))) (fC (.int 60)) fdivD) (fC (.int 2)) modD) (fC (.int 0)) (eqO false))) (sAsg (f2 (fC (.int 1)) (f2 (fCall F_law_cell [] (aCons (fVar 0) (aCons (fC (.int 3)) aNil))) (fC (.int 4)) modD) addD) (gN 5)) sNext)
    (sSeq (sAsg (f2 (fCall F_law_cell [] (aCons (fVar 0) (aCons (fC (.int 4)) aNil))) (fBor 5) modD) (gN 6))
    (sSeq (sAsg (f2 (fC (.int 1)) (f2 (f2 (fCall F_law_cell [] (aCons (fVar 0) (aCons (fC (.int 4)) aNil))) (fC (.int 60)) fdivD) (fC (.int 60)) modD) addD) (gN 7))
    (sSeq (sIf (fT (f2 (f2 (f2 (fCall F_law_cell [] (aCons (fVar 0) (aCons (fC (.int 3)) aNil))) (fC (.int 120)) fdivD) (fC (.int 2)) modD) (fC (.int 0)) (eqO false))) (sAsg (f2 (fC (.int 1)) (f2 (f2 (fCall F_law_cell [] (aCons (fVar 0) (aCons (fC (.int 4)) aNil))) (fC (.int 60)) fdivD) (fC (.int 3)) modD) addD) (gN 7)) sNext)
    (sSeq (sAsg (f1 (fBor 3) listD) (gN 8))
    (sSeq (sIf (fT (f2 (fCall F_heard_by_polling [] (aCons (fVar 8) (aCons (fVar 5) (aCons (fVar 6) aNil)))) (fCall F_law_polled [] (aCons (fVar 3) (aCons (fVar 5) (aCons (fVar 6) aNil)))) (eqO true))) (sRet (fC (.bl false))) sNext)
    (sSeq (sIf (fT (f2 (fCall F_heard_by_polling [(.int 0)] (aCons (fVar 8) (aCons (fVar 5) aNil))) (fCall F_law_polled [] (aCons (fVar 3) (aCons (fVar 5) (aCons (fC (.int 0)) aNil)))) (eqO true))) (sRet (fC (.bl false))) sNext)
    (sSeq (sIf (fT (f2 (fCallK F_heard_by_polling (fun vs zs => vs ++ zs) (aCons (f1 (fBor 3) tupleD) (aCons (fVar 5) aNil)) (aCons (fVar 6) aNil)) (fCall F_law_polled [] (aCons (fVar 3) (aCons (fVar 5) (aCons (fVar 6) aNil)))) (eqO true))) (sRet (fC (.bl false))) sNext)
    (sSeq (sIf (fT (f2 (fCall F_heard_by_holding [] (aCons (f1 (fBor 3) tupleD) (aCons (fVar 7) aNil))) (fCall F_law_held [] (aCons (fVar 3) (aCons (fVar 7) aNil))) (eqO true))) (sRet (fC (.bl false))) sNext)
    (sRet (fAndV (f2 (fCall F_heard_by_holding [] (aCons (fVar 8) (aCons (fVar 7) aNil))) (fCall F_law_held [] (aCons (fVar 3) (aCons (fVar 7) aNil))) (eqO false)) (f2 (fBor 8) (fBor 3) (eqO false)))))))))))))))))
noncomputable def F_law : List D → Option D := runF 9 b_law
structure Ad where
  polled : Addr
  held : Addr
  heard_by_polling : Addr
  heard_by_holding : Addr
  _law_cell : Addr
  _law_row : Addr
  _law_word : Addr
  _law_names : Addr
  _law_polled : Addr
  _law_held : Addr
  law : Addr
structure Tx (K : PySem.W.Frag) (mg : Str → Option Value) (a : Ad) : Prop where
  z_int : mg "int" = none
  z_len : mg "len" = none
  z_list : mg "list" = none
  z_max : mg "max" = none
  z_range : mg "range" = none
  z_tuple : mg "tuple" = none
  g_polled : mg "polled" = some (.ref a.polled)
  fn_polled : ∃ fd, Fun K "polled" "polled" s_polled a.polled fd ∧ Binds K fd ["waiting", "phase", "period", "offset"] []
  g_held : mg "held" = some (.ref a.held)
  fn_held : ∃ fd, Fun K "held" "held" s_held a.held fd ∧ Binds K fd ["waiting"] []
  g_heard_by_polling : mg "heard_by_polling" = some (.ref a.heard_by_polling)
  fn_heard_by_polling : ∃ fd, FunD K "heard_by_polling" "heard_by_polling" (defArgs s_heard_by_polling) (defBody s_heard_by_polling) (defScope s_heard_by_polling) [(.int 0)] [] a.heard_by_polling fd
  g_heard_by_holding : mg "heard_by_holding" = some (.ref a.heard_by_holding)
  fn_heard_by_holding : ∃ fd, Fun K "heard_by_holding" "heard_by_holding" s_heard_by_holding a.heard_by_holding fd ∧ Binds K fd ["items", "hold"] []
  g__law_cell : mg "_law_cell" = some (.ref a._law_cell)
  fn__law_cell : ∃ fd, Fun K "_law_cell" "_law_cell" s__law_cell a._law_cell fd ∧ Binds K fd ["_law_script", "_law_k"] []
  g__law_row : mg "_law_row" = some (.ref a._law_row)
  fn__law_row : ∃ fd, Fun K "_law_row" "_law_row" s__law_row a._law_row fd ∧ Binds K fd ["_law_cell_here", "_law_count"] []
  g__law_word : mg "_law_word" = some (.ref a._law_word)
  fn__law_word : ∃ fd, Fun K "_law_word" "_law_word" s__law_word a._law_word fd ∧ Binds K fd ["_law_number"] []
  g__law_names : mg "_law_names" = some (.ref a._law_names)
  fn__law_names : ∃ fd, Fun K "_law_names" "_law_names" s__law_names a._law_names fd ∧ Binds K fd ["_law_row_here"] []
  g__law_polled : mg "_law_polled" = some (.ref a._law_polled)
  fn__law_polled : ∃ fd, Fun K "_law_polled" "_law_polled" s__law_polled a._law_polled fd ∧ Binds K fd ["_law_items", "_law_period", "_law_offset"] []
  g__law_held : mg "_law_held" = some (.ref a._law_held)
  fn__law_held : ∃ fd, Fun K "_law_held" "_law_held" s__law_held a._law_held fd ∧ Binds K fd ["_law_items", "_law_hold"] []
  g_law : mg "law" = some (.ref a.law)
  fn_law : ∃ fd, Fun K "law" "law" s_law a.law fd ∧ Binds K fd ["_law_script"] []
  v_TICK : ∃ t, mg "TICK" = some (.str "tick" t)
section
variable {P : Program} {w : World} {K : PySem.W.Frag} {mg : Str → Option Value} {base : Heap} {ct : Nat → Addr} {a : Ad}
theorem sc_polled : FnScope ["waiting", "phase", "period", "offset"] ["waiting", "phase", "period", "offset"] (defScope s_polled) := ⟨rfl, rfl, rfl, by decide +kernel, rfl, by decide +kernel, by decide +kernel⟩
set_option maxRecDepth 100000 in
theorem ok_polled (T : Tx K mg a) {fd : FuncData} (F : Fun K "polled" "polled" s_polled a.polled fd) : FnOk P w K mg base CX0 1 a.polled fd ["waiting", "phase", "period", "offset"] (spD K ct 4 F_polled) := by
  obtain ⟨t_TICK, m_TICK⟩ := T.v_TICK
  have sc := sc_polled
  refine fn_ok F sc_polled (fun cdv A outer s H E hr => ?_)
  exact (s_seq (s_asg (e_bin op_modN mod_ok (PE.bo (e_bin op_addAny add_ok (b_var 1 (pv 1)) (PE.bo e_int))) (b_var 2 (pv 2))) (g_name 1 (pg_name (i := 1) sc.nd rfl (Or.inl rfl))))
      (s_seq (s_if (t_cmp (op_eqAny (u64 hr)) eq_ok (b_var 1 (pv 1)) (b_var 3 (pv 3)) (nomark _)) (s_one (s_ret (e_tup (a_cons (e_bin op_addAny add_ok (PE.bo (PE.ow (c_list (by rfl) T.z_list (b_var 0 (pv 0))))) (PE.bo (PE.ow (o_lst (a_cons (e_glob (v := (.str "tick")) (d := (.str "tick")) (by rfl) m_TICK ⟨_, rfl⟩ (fun _ => by simp only [Rep])) a_nil))))) (a_cons (e_tup a_nil) (a_cons (e_var 1 (pv 1)) a_nil)))))) s_nil)
      (s_one (s_ret (e_tup (a_cons (PE.ow (o_lst (a_cons (e_glob (v := (.str "tick")) (d := (.str "tick")) (by rfl) m_TICK ⟨_, rfl⟩ (fun _ => by simp only [Rep])) a_nil))) (a_cons (e_var 0 (pv 0)) (a_cons (e_var 1 (pv 1)) a_nil))))))))
theorem sc_held : FnScope ["waiting", "due", "item", "left", "rest"] ["waiting"] (defScope s_held) := ⟨rfl, rfl, rfl, by decide +kernel, rfl, by decide +kernel, by decide +kernel⟩
set_option maxRecDepth 100000 in
theorem ok_held (T : Tx K mg a) {fd : FuncData} (F : Fun K "held" "held" s_held a.held fd) : FnOk P w K mg base CX0 1 a.held fd ["waiting"] (spD K ct 1 F_held) := by
  obtain ⟨t_TICK, m_TICK⟩ := T.v_TICK
  have sc := sc_held
  refine fn_ok F sc_held (fun cdv A outer s H E hr => ?_)
  exact (s_seq (s_asgLc (i := 1) rfl sc.nd rfl rfl (sw_true rfl rfl rfl (by decide +kernel)) (own := [("item", 2), ("left", 3)]) (blkC_of (N := ["waiting", "due", "item", "left", "rest"]) (sc := defScope s_held) (by decide +kernel)) (by decide +kernel) (k_tup (ks_cons (k_name 2) (ks_cons (k_name 3) ks_nil))) (i_seq (e_var 0 (pv 0))) (fun _ _ _ _ _ => (g_tup (pg_tup rfl (gs_cons (g_name 2 (pg_name (i := 2) sc.nd rfl (Or.inl rfl))) (gs_cons (g_name 3 (pg_name (i := 3) sc.nd rfl (Or.inl rfl))) gs_nil))))) (fun _ _ _ _ _ => (q_one (t_cmp (op_eqAny (u64 hr)) eq_ok (b_var 3 (pv 3)) (PE.bo e_int) (nomark _)))) (fun _ _ _ _ _ => (e_var 2 (pv 2))))
      (s_seq (s_asg (c_tuple (by rfl) T.z_tuple (PE.bo (PE.ow (o_lc rfl sc.nd (own := [("item", 2), ("left", 3)]) (blkC_of (N := ["waiting", "due", "item", "left", "rest"]) (sc := defScope s_held) (by decide +kernel)) (by decide +kernel) (k_tup (ks_cons (k_name 2) (ks_cons (k_name 3) ks_nil))) (i_seq (e_var 0 (pv 0))) (fun _ _ _ _ _ => (g_tup (pg_tup rfl (gs_cons (g_name 2 (pg_name (i := 2) sc.nd rfl (Or.inl rfl))) (gs_cons (g_name 3 (pg_name (i := 3) sc.nd rfl (Or.inl rfl))) gs_nil))))) (fun _ _ _ _ _ => (q_one (t_cmp op_gt gt_ok (b_var 3 (pv 3)) (PE.bo e_int) (nomark _)))) (fun _ _ _ _ _ => (e_tup (a_cons (e_var 2 (pv 2)) (a_cons (e_bin op_sub sub_ok (b_var 3 (pv 3)) (PE.bo e_int)) a_nil)))))))) (g_name 4 (pg_name (i := 4) sc.nd rfl (Or.inl rfl))))
      (s_one (s_ret (e_tup (a_cons (e_bin op_addAny add_ok (b_var 1 (pv 1)) (PE.bo (PE.ow (o_lst (a_cons (e_glob (v := (.str "tick")) (d := (.str "tick")) (by rfl) m_TICK ⟨_, rfl⟩ (fun _ => by simp only [Rep])) a_nil))))) (a_cons (e_var 4 (pv 4)) a_nil)))))))
theorem sc_heard_by_polling : FnScope ["items", "period", "offset", "result", "waiting", "phase", "item", "heard_items"] ["items", "period", "offset"] (defScope s_heard_by_polling) := ⟨rfl, rfl, rfl, by decide +kernel, rfl, by decide +kernel, by decide +kernel⟩
set_option maxRecDepth 100000 in
theorem ok_heard_by_polling (T : Tx K mg a) {fd : FuncData} (F : FunD K "heard_by_polling" "heard_by_polling" (defArgs s_heard_by_polling) (defBody s_heard_by_polling) (defScope s_heard_by_polling) [(.int 0)] [] a.heard_by_polling fd) : FnOk P w K mg base CX0 2 a.heard_by_polling fd ["items", "period", "offset"] (spD K ct 3 F_heard_by_polling) := by
  obtain ⟨t_TICK, m_TICK⟩ := T.v_TICK
  obtain ⟨fd_polled, fn_polled, b_polled'⟩ := T.fn_polled
  have k_polled := fn_polled.kp
  have G_polled := ok_polled (P := P) (w := w) (base := base) (ct := ct) T fn_polled
  have sc := sc_heard_by_polling
  refine fn_okD F sc_heard_by_polling (fun cdv A outer s H E hr => ?_)
  exact (s_seq (s_asg (PE.ow (o_lst a_nil)) (g_name 3 (pg_name (i := 3) sc.nd rfl (Or.inl rfl))))
      (s_seq (s_asg (e_tup a_nil) (g_name 4 (pg_name (i := 4) sc.nd rfl (Or.inl rfl))))
      (s_seq (s_asg e_int (g_name 5 (pg_name (i := 5) sc.nd rfl (Or.inl rfl))))
      (s_seq (s_for (f := loop_heard_by_polling_1) [6] PassesOwn.never rfl (i_seq (e_var 0 (pv 0))) (g_name 6 (pg_name (i := 6) sc.nd rfl (Or.inl rfl))) (s_one (s_if (t_cmp (op_eqAny (u64 hr)) eq_ok (b_var 6 (pv 6)) (PE.bo (e_glob (v := (.str "tick")) (d := (.str "tick")) (by rfl) m_TICK ⟨_, rfl⟩ (fun _ => by simp only [Rep]))) (nomark _)) (s_seq (s_asg (e_call G_polled (hr.mono (by decide)) (by rfl) T.g_polled k_polled b_polled' .nil (dd := []) (fun _ => RepL.nil) (a_cons (e_var 4 (pv 4)) (a_cons (e_var 5 (pv 5)) (a_cons (e_var 1 (pv 1)) (a_cons (e_var 2 (pv 2)) a_nil)))) (aCons_len (aCons_len (aCons_len (aCons_len aNil_len))))) (g_tup (pg_tup rfl (gs_cons (g_name 7 (pg_name (i := 7) sc.nd rfl (Or.inl rfl))) (gs_cons (g_name 4 (pg_name (i := 4) sc.nd rfl (Or.inl rfl))) (gs_cons (g_name 5 (pg_name (i := 5) sc.nd rfl (Or.inl rfl))) gs_nil))))))
      (s_one (s_asg (e_bin op_addAny add_ok (b_var 3 (pv 3)) (b_var 7 (pv 7))) (g_name 3 (pg_name (i := 3) sc.nd rfl (Or.inl rfl)))))) (s_one (s_asg (e_bin op_addAny add_ok (b_var 4 (pv 4)) (PE.bo (e_tup (a_cons (e_var 6 (pv 6)) a_nil)))) (g_name 4 (pg_name (i := 4) sc.nd rfl (Or.inl rfl))))))))
      (s_seq (s_while (f := loop_heard_by_polling_2) (ft := test_heard_by_polling_3) [] 100000 PassesOwn.never (t_truth (b_var 4 (pv 4))) (s_seq (s_asg (e_call G_polled (hr.mono (by decide)) (by rfl) T.g_polled k_polled b_polled' .nil (dd := []) (fun _ => RepL.nil) (a_cons (e_var 4 (pv 4)) (a_cons (e_var 5 (pv 5)) (a_cons (e_var 1 (pv 1)) (a_cons (e_var 2 (pv 2)) a_nil)))) (aCons_len (aCons_len (aCons_len (aCons_len aNil_len))))) (g_tup (pg_tup rfl (gs_cons (g_name 7 (pg_name (i := 7) sc.nd rfl (Or.inl rfl))) (gs_cons (g_name 4 (pg_name (i := 4) sc.nd rfl (Or.inl rfl))) (gs_cons (g_name 5 (pg_name (i := 5) sc.nd rfl (Or.inl rfl))) gs_nil))))))
      (s_one (s_asg (e_bin op_addAny add_ok (b_var 3 (pv 3)) (b_var 7 (pv 7))) (g_name 3 (pg_name (i := 3) sc.nd rfl (Or.inl rfl)))))))
      (s_one (s_ret (e_var 3 (pv 3)))))))))
theorem sc_heard_by_holding : FnScope ["items", "hold", "result", "waiting", "item", "heard_items"] ["items", "hold"] (defScope s_heard_by_holding) := ⟨rfl, rfl, rfl, by decide +kernel, rfl, by decide +kernel, by decide +kernel⟩
set_option maxRecDepth 100000 in
theorem ok_heard_by_holding (T : Tx K mg a) {fd : FuncData} (F : Fun K "heard_by_holding" "heard_by_holding" s_heard_by_holding a.heard_by_holding fd) : FnOk P w K mg base CX0 2 a.heard_by_holding fd ["items", "hold"] (spD K ct 2 F_heard_by_holding) := by
  obtain ⟨t_TICK, m_TICK⟩ := T.v_TICK
  obtain ⟨fd_held, fn_held, b_held'⟩ := T.fn_held
  have k_held := fn_held.kp
  have G_held := ok_held (P := P) (w := w) (base := base) (ct := ct) T fn_held
  have sc := sc_heard_by_holding
  refine fn_ok F sc_heard_by_holding (fun cdv A outer s H E hr => ?_)
  exact (s_seq (s_asg (PE.ow (o_lst a_nil)) (g_name 2 (pg_name (i := 2) sc.nd rfl (Or.inl rfl))))
      (s_seq (s_asg (e_tup a_nil) (g_name 3 (pg_name (i := 3) sc.nd rfl (Or.inl rfl))))
      (s_seq (s_for (f := loop_heard_by_holding_1) [4] PassesOwn.never rfl (i_seq (e_var 0 (pv 0))) (g_name 4 (pg_name (i := 4) sc.nd rfl (Or.inl rfl))) (s_one (s_if (t_cmp (op_eqAny (u64 hr)) eq_ok (b_var 4 (pv 4)) (PE.bo (e_glob (v := (.str "tick")) (d := (.str "tick")) (by rfl) m_TICK ⟨_, rfl⟩ (fun _ => by simp only [Rep]))) (nomark _)) (s_seq (s_asg (e_call G_held (hr.mono (by decide)) (by rfl) T.g_held k_held b_held' .nil (dd := []) (fun _ => RepL.nil) (a_cons (e_var 3 (pv 3)) a_nil) (aCons_len aNil_len)) (g_tup (pg_tup rfl (gs_cons (g_name 5 (pg_name (i := 5) sc.nd rfl (Or.inl rfl))) (gs_cons (g_name 3 (pg_name (i := 3) sc.nd rfl (Or.inl rfl))) gs_nil)))))
      (s_one (s_asg (e_bin op_addAny add_ok (b_var 2 (pv 2)) (b_var 5 (pv 5))) (g_name 2 (pg_name (i := 2) sc.nd rfl (Or.inl rfl)))))) (s_one (s_asg (e_bin op_addAny add_ok (b_var 3 (pv 3)) (PE.bo (e_tup (a_cons (e_tup (a_cons (e_var 4 (pv 4)) (a_cons (e_var 1 (pv 1)) a_nil))) a_nil)))) (g_name 3 (pg_name (i := 3) sc.nd rfl (Or.inl rfl))))))))
      (s_seq (s_while (f := loop_heard_by_holding_2) (ft := test_heard_by_holding_3) [] 100000 PassesOwn.never (t_truth (b_var 3 (pv 3))) (s_seq (s_asg (e_call G_held (hr.mono (by decide)) (by rfl) T.g_held k_held b_held' .nil (dd := []) (fun _ => RepL.nil) (a_cons (e_var 3 (pv 3)) a_nil) (aCons_len aNil_len)) (g_tup (pg_tup rfl (gs_cons (g_name 5 (pg_name (i := 5) sc.nd rfl (Or.inl rfl))) (gs_cons (g_name 3 (pg_name (i := 3) sc.nd rfl (Or.inl rfl))) gs_nil)))))
      (s_one (s_asg (e_bin op_addAny add_ok (b_var 2 (pv 2)) (b_var 5 (pv 5))) (g_name 2 (pg_name (i := 2) sc.nd rfl (Or.inl rfl)))))))
      (s_one (s_ret (e_var 2 (pv 2))))))))
theorem sc__law_cell : FnScope ["_law_script", "_law_k"] ["_law_script", "_law_k"] (defScope s__law_cell) := ⟨rfl, rfl, rfl, by decide +kernel, rfl, by decide +kernel, by decide +kernel⟩
set_option maxRecDepth 100000 in
theorem ok__law_cell (T : Tx K mg a) {fd : FuncData} (F : Fun K "_law_cell" "_law_cell" s__law_cell a._law_cell fd) : FnOk P w K mg base CX0 1 a._law_cell fd ["_law_script", "_law_k"] (spD K ct 2 F_law_cell) := by
  have sc := sc__law_cell
  refine fn_ok F sc__law_cell (fun cdv A outer s H E hr => ?_)
  exact (s_seq (s_if (t_cmp op_lt lt_ok (b_var 1 (pv 1)) (PE.bo (c_len (by rfl) T.z_len (b_var 0 (pv 0)))) (nomark _)) (s_one (s_ret (e_ix (b_var 0 (pv 0)) (b_var 1 (pv 1))))) s_nil)
      (s_one (s_ret e_int)))
theorem sc__law_row : FnScope ["_law_cell_here", "_law_count", "_law_row_here", "_law_rest", "_law_seed", "_law_k"] ["_law_cell_here", "_law_count"] (defScope s__law_row) := ⟨rfl, rfl, rfl, by decide +kernel, rfl, by decide +kernel, by decide +kernel⟩
set_option maxRecDepth 100000 in
theorem ok__law_row (T : Tx K mg a) {fd : FuncData} (F : Fun K "_law_row" "_law_row" s__law_row a._law_row fd) : FnOk P w K mg base CX0 1 a._law_row fd ["_law_cell_here", "_law_count"] (spD K ct 2 F_law_row) := by
  have sc := sc__law_row
  refine fn_ok F sc__law_row (fun cdv A outer s H E hr => ?_)
  exact (s_seq (s_own (o_lst a_nil) (pg_name (i := 2) sc.nd rfl (Or.inl rfl)))
      (s_seq (s_asg (e_var 0 (pv 0)) (g_name 3 (pg_name (i := 3) sc.nd rfl (Or.inl rfl))))
      (s_seq (s_asg (e_bin op_addAny add_ok (PE.bo (e_bin op_modN mod_ok (PE.bo (c_int (by rfl) T.z_int (b_var 0 (pv 0)))) (PE.bo e_int))) (PE.bo e_int)) (g_name 4 (pg_name (i := 4) sc.nd rfl (Or.inl rfl))))
      (s_seq (s_for (f := loop_law_row_1) [5] PassesOwn.never rfl (i_r1 (by rfl) T.z_range (b_var 1 (pv 1))) (g_name 5 (pg_name (i := 5) sc.nd rfl (Or.inl rfl))) (s_one (s_if (t_cmp op_ge ge_ok (b_var 0 (pv 0)) (PE.bo (e_bin op_pow pow_ok (PE.bo e_int) (PE.bo e_int))) (nomark _)) (s_seq (s_app (ps_expr (pe_bm PySem.F.plainAttrs_list PySem.F.slot_list_append PySem.F.type_list_append mt_append (pv 2) (pa_cons (e_bin op_modN mod_ok (PE.bo (c_int (by rfl) T.z_int (b_var 3 (pv 3)))) (PE.bo e_int)) pa_nil))) (fun _ _ _ h => h))
      (s_one (s_asg (e_bin op_fdivN fdiv_ok (b_var 3 (pv 3)) (PE.bo e_int)) (g_name 3 (pg_name (i := 3) sc.nd rfl (Or.inl rfl)))))) (s_seq (s_asg (e_bin op_modN mod_ok (PE.bo (c_int (by rfl) T.z_int (PE.bo (e_bin op_addAny add_ok (PE.bo (e_bin op_mulAny mul_ok (b_var 4 (pv 4)) (PE.bo e_int))) (b_var 5 (pv 5)))))) (PE.bo e_int)) (g_name 4 (pg_name (i := 4) sc.nd rfl (Or.inl rfl))))
      (s_one (s_app (ps_expr (pe_bm PySem.F.plainAttrs_list PySem.F.slot_list_append PySem.F.type_list_append mt_append (pv 2) (pa_cons (e_bin op_modN mod_ok (PE.bo (e_bin op_fdivN fdiv_ok (PE.bo (e_bin op_modN mod_ok (PE.bo (c_int (by rfl) T.z_int (PE.bo (e_bin op_mulAny mul_ok (b_var 4 (pv 4)) (PE.bo e_int))))) (PE.bo e_int))) (PE.bo e_int))) (PE.bo e_int)) pa_nil))) (fun _ _ _ h => h)))))))
      (s_one (s_frz [2] (s_ret (e_var 2 (pv 2)))))))))
theorem sc__law_word : FnScope ["_law_number", "_law_letters", "_law_word_here"] ["_law_number"] (defScope s__law_word) := ⟨rfl, rfl, rfl, by decide +kernel, rfl, by decide +kernel, by decide +kernel⟩
set_option maxRecDepth 100000 in
theorem ok__law_word (T : Tx K mg a) {fd : FuncData} (F : Fun K "_law_word" "_law_word" s__law_word a._law_word fd) : FnOk P w K mg base CX0 1 a._law_word fd ["_law_number"] (spD K ct 1 F_law_word) := by
  have sc := sc__law_word
  refine fn_ok F sc__law_word (fun cdv A outer s H E hr => ?_)
  exact (s_seq (s_asg e_str (g_name 1 (pg_name (i := 1) sc.nd rfl (Or.inl rfl))))
      (s_seq (s_asg (e_ix (b_var 1 (pv 1)) (PE.bo (e_bin op_modN mod_ok (b_var 0 (pv 0)) (PE.bo e_int)))) (g_name 2 (pg_name (i := 2) sc.nd rfl (Or.inl rfl))))
      (s_seq (s_if (t_cmp op_gt gt_ok (PE.bo (e_bin op_modN mod_ok (PE.bo (e_bin op_fdivN fdiv_ok (b_var 0 (pv 0)) (PE.bo e_int))) (PE.bo e_int))) (PE.bo e_int) (nomark _)) (s_one (s_asg (e_bin op_addAny add_ok (b_var 2 (pv 2)) (PE.bo (e_ix (b_var 1 (pv 1)) (PE.bo (e_bin op_modN mod_ok (PE.bo (e_bin op_fdivN fdiv_ok (b_var 0 (pv 0)) (PE.bo e_int))) (PE.bo e_int)))))) (g_name 2 (pg_name (i := 2) sc.nd rfl (Or.inl rfl))))) s_nil)
      (s_seq (s_if (t_cmp (op_eqAny (u64 hr)) eq_ok (PE.bo (e_bin op_modN mod_ok (PE.bo (e_bin op_fdivN fdiv_ok (b_var 0 (pv 0)) (PE.bo e_int))) (PE.bo e_int))) (PE.bo e_int) (nomark _)) (s_one (s_asg (e_bin op_addAny add_ok (PE.bo (e_bin op_addAny add_ok (PE.bo (e_bin op_addAny add_ok (b_var 2 (pv 2)) (PE.bo (e_ix (b_var 1 (pv 1)) (PE.bo (e_bin op_modN mod_ok (PE.bo (e_bin op_fdivN fdiv_ok (b_var 0 (pv 0)) (PE.bo e_int))) (PE.bo e_int))))))) (PE.bo (e_ix (b_var 1 (pv 1)) (PE.bo (e_bin op_modN mod_ok (PE.bo (e_bin op_fdivN fdiv_ok (b_var 0 (pv 0)) (PE.bo e_int))) (PE.bo e_int))))))) (PE.bo (e_ix (b_var 1 (pv 1)) (PE.bo (e_bin op_modN mod_ok (PE.bo (e_bin op_fdivN fdiv_ok (b_var 0 (pv 0)) (PE.bo e_int))) (PE.bo e_int)))))) (g_name 2 (pg_name (i := 2) sc.nd rfl (Or.inl rfl))))) s_nil)
      (s_one (s_ret (e_var 2 (pv 2))))))))
theorem sc__law_names : FnScope ["_law_row_here", "_law_first", "_law_second"] ["_law_row_here"] (defScope s__law_names) := ⟨rfl, rfl, rfl, by decide +kernel, rfl, by decide +kernel, by decide +kernel⟩
set_option maxRecDepth 100000 in
theorem ok__law_names (T : Tx K mg a) {fd : FuncData} (F : Fun K "_law_names" "_law_names" s__law_names a._law_names fd) : FnOk P w K mg base CX0 2 a._law_names fd ["_law_row_here"] (spD K ct 1 F_law_names_v3) := by
  obtain ⟨fd__law_word, fn__law_word, b__law_word'⟩ := T.fn__law_word
  have k__law_word := fn__law_word.kp
  have G__law_word := ok__law_word (P := P) (w := w) (base := base) (ct := ct) T fn__law_word
  have sc := sc__law_names
  refine fn_ok F sc__law_names (fun cdv A outer s H E hr => ?_)
  exact (s_seq (s_asg (e_call G__law_word (hr.mono (by decide)) (by rfl) T.g__law_word k__law_word b__law_word' .nil (dd := []) (fun _ => RepL.nil) (a_cons (e_ix (b_var 0 (pv 0)) (PE.bo e_int)) a_nil) (aCons_len aNil_len)) (g_name 1 (pg_name (i := 1) sc.nd rfl (Or.inl rfl))))
      (s_seq (s_asg (e_call G__law_word (hr.mono (by decide)) (by rfl) T.g__law_word k__law_word b__law_word' .nil (dd := []) (fun _ => RepL.nil) (a_cons (e_ix (b_var 0 (pv 0)) (PE.bo e_int)) a_nil) (aCons_len aNil_len)) (g_name 2 (pg_name (i := 2) sc.nd rfl (Or.inl rfl))))
      (s_seq (s_if (t_cmp (op_eqAny (u64 hr)) eq_ok (b_var 2 (pv 2)) (b_var 1 (pv 1)) (nomark _)) (s_one (s_asg (e_bin op_addAny add_ok (b_var 2 (pv 2)) (PE.bo e_str)) (g_name 2 (pg_name (i := 2) sc.nd rfl (Or.inl rfl))))) s_nil)
      (s_seq (s_if (t_cmp (op_eqAny (u64 hr)) eq_ok (PE.bo (e_bin op_modN mod_ok (PE.bo (e_ix (b_var 0 (pv 0)) (PE.bo e_int))) (PE.bo e_int))) (PE.bo e_int) (nomark _)) (s_one (s_ret (PE.ow (o_lst (a_cons (e_var 1 (pv 1)) a_nil))))) s_nil)
      (s_one (s_ret (PE.ow (o_lst (a_cons (e_var 1 (pv 1)) (a_cons (e_var 2 (pv 2)) a_nil))))))))))
theorem sc__law_polled : FnScope ["_law_items", "_law_period", "_law_offset", "_law_heard", "_law_waiting", "_law_ticks", "_law_rest", "_law_k"] ["_law_items", "_law_period", "_law_offset"] (defScope s__law_polled) := ⟨rfl, rfl, rfl, by decide +kernel, rfl, by decide +kernel, by decide +kernel⟩
set_option maxRecDepth 100000 in
theorem ok__law_polled (T : Tx K mg a) {fd : FuncData} (F : Fun K "_law_polled" "_law_polled" s__law_polled a._law_polled fd) : FnOk P w K mg base CX0 1 a._law_polled fd ["_law_items", "_law_period", "_law_offset"] (spD K ct 3 F_law_polled) := by
  have sc := sc__law_polled
  refine fn_ok F sc__law_polled (fun cdv A outer s H E hr => ?_)
  exact (s_seq (s_own (o_lst a_nil) (pg_name (i := 3) sc.nd rfl (Or.inl rfl)))
      (s_seq (s_own (o_lst a_nil) (pg_name (i := 4) sc.nd rfl (Or.inl rfl)))
      (s_seq (s_asg e_int (g_name 5 (pg_name (i := 5) sc.nd rfl (Or.inl rfl))))
      (s_seq (s_asg (e_bin op_addAny add_ok (PE.bo (PE.ow (c_list (by rfl) T.z_list (b_var 0 (pv 0))))) (PE.bo (PE.ow (o_lc rfl sc.nd (own := [("_law_k", 7)]) (blkC_of (N := ["_law_items", "_law_period", "_law_offset", "_law_heard", "_law_waiting", "_law_ticks", "_law_rest", "_law_k"]) (sc := defScope s__law_polled) (by decide +kernel)) (by decide +kernel) (k_name 7) (i_r1 (by rfl) T.z_range (PE.bo e_int)) (fun _ _ _ _ _ => (g_name 7 (pg_name (i := 7) sc.nd rfl (Or.inl rfl)))) (fun _ _ _ _ _ => q_nil) (fun _ _ _ _ _ => e_str))))) (g_name 6 (pg_name (i := 6) sc.nd rfl (Or.inl rfl))))
      (s_seq (s_for (f := loop_law_polled_1) [] PassesOwn.never rfl (i_r1 (by rfl) T.z_range (PE.bo (c_len (by rfl) T.z_len (b_var 6 (pv 6))))) (g_name 7 (pg_name (i := 7) sc.nd rfl (Or.inl rfl))) (s_one (s_if (t_cmp (op_neAny (u64 hr)) ne_ok (PE.bo (e_ix (b_var 6 (pv 6)) (b_var 7 (pv 7)))) (PE.bo e_str) (nomark _)) (s_one (s_app (ps_expr (pe_bm PySem.F.plainAttrs_list PySem.F.slot_list_append PySem.F.type_list_append mt_append (pv 4) (pa_cons (e_ix (b_var 6 (pv 6)) (b_var 7 (pv 7))) pa_nil))) (fun _ _ _ h => h))) (s_one (s_if (PW.pt (w_or (t_cmp op_lt lt_ok (b_var 7 (pv 7)) (PE.bo (c_len (by rfl) T.z_len (b_var 0 (pv 0)))) (nomark _)) (w_or1 (t_cmp op_gt gt_ok (PE.bo (c_len (by rfl) T.z_len (b_var 4 (pv 4)))) (PE.bo e_int) (nomark _))))) (s_seq (s_asg (e_bin op_addAny add_ok (b_var 5 (pv 5)) (PE.bo e_int)) (g_name 5 (pg_name (i := 5) sc.nd rfl (Or.inl rfl))))
      (s_seq (s_if (t_cmp (op_eqAny (u64 hr)) eq_ok (PE.bo (e_bin op_modN mod_ok (PE.bo (e_bin op_sub sub_ok (b_var 5 (pv 5)) (b_var 2 (pv 2)))) (b_var 1 (pv 1)))) (PE.bo e_int) (nomark _)) (s_seq (s_own (o_bin op_cat addLst_ok (b_var 3 (pv 3)) (b_var 4 (pv 4))) (pg_name (i := 3) sc.nd rfl (Or.inl rfl)))
      (s_one (s_own (o_lst a_nil) (pg_name (i := 4) sc.nd rfl (Or.inl rfl))))) s_nil)
      (s_one (s_app (ps_expr (pe_bm PySem.F.plainAttrs_list PySem.F.slot_list_append PySem.F.type_list_append mt_append (pv 3) (pa_cons e_str pa_nil))) (fun _ _ _ h => h))))) s_nil)))))
      (s_one (s_frz [3] (s_ret (e_var 3 (pv 3))))))))))
theorem sc__law_held : FnScope ["_law_items", "_law_hold", "_law_due", "_law_ticks", "_law_item", "_law_last", "_law_pair", "_law_heard", "_law_k"] ["_law_items", "_law_hold"] (defScope s__law_held) := ⟨rfl, rfl, rfl, by decide +kernel, rfl, by decide +kernel, by decide +kernel⟩
set_option maxRecDepth 100000 in
theorem ok__law_held (T : Tx K mg a) {fd : FuncData} (F : Fun K "_law_held" "_law_held" s__law_held a._law_held fd) : FnOk P w K mg base CX0 1 a._law_held fd ["_law_items", "_law_hold"] (spD K ct 2 F_law_held) := by
  have sc := sc__law_held
  refine fn_ok F sc__law_held (fun cdv A outer s H E hr => ?_)
  exact (s_seq (s_own (o_lst a_nil) (pg_name (i := 2) sc.nd rfl (Or.inl rfl)))
      (s_seq (s_asg e_int (g_name 3 (pg_name (i := 3) sc.nd rfl (Or.inl rfl))))
      (s_seq (s_for (f := loop_law_held_1) [4] PassesOwn.never rfl (i_seq (e_var 0 (pv 0))) (g_name 4 (pg_name (i := 4) sc.nd rfl (Or.inl rfl))) (s_one (s_if (t_cmp (op_eqAny (u64 hr)) eq_ok (b_var 4 (pv 4)) (PE.bo e_str) (nomark _)) (s_one (s_asg (e_bin op_addAny add_ok (b_var 3 (pv 3)) (PE.bo e_int)) (g_name 3 (pg_name (i := 3) sc.nd rfl (Or.inl rfl))))) (s_one (s_app (ps_expr (pe_bm PySem.F.plainAttrs_list PySem.F.slot_list_append PySem.F.type_list_append mt_append (pv 2) (pa_cons (e_tup (a_cons (e_bin op_addAny add_ok (b_var 3 (pv 3)) (b_var 1 (pv 1))) (a_cons (e_var 4 (pv 4)) a_nil))) pa_nil))) (fun _ _ _ h => h))))))
      (s_seq (s_frz [2] (s_asg (c_max1 rfl (by rfl) T.z_max (PE.bo (e_bin op_addAny add_ok (PE.bo (PE.ow (o_lst (a_cons (e_var 3 (pv 3)) a_nil)))) (PE.bo (PE.ow (o_lc rfl sc.nd (own := [("_law_pair", 6)]) (blkC_of (N := ["_law_items", "_law_hold", "_law_due", "_law_ticks", "_law_item", "_law_last", "_law_pair", "_law_heard", "_law_k"]) (sc := defScope s__law_held) (by decide +kernel)) (by decide +kernel) (k_name 6) (i_seq (e_var 2 (pv 2))) (fun _ _ _ _ _ => (g_name 6 (pg_name (i := 6) sc.nd rfl (Or.inl rfl)))) (fun _ _ _ _ _ => q_nil) (fun _ _ _ _ _ => (e_ix (b_var 6 (pv 6)) (PE.bo e_int))))))))) (g_name 5 (pg_name (i := 5) sc.nd rfl (Or.inl rfl)))))
      (s_seq (s_asg (PE.ow (o_lst a_nil)) (g_name 7 (pg_name (i := 7) sc.nd rfl (Or.inl rfl))))
      (s_seq (s_for (f := loop_law_held_2) [8] PassesOwn.never rfl (i_r1 (by rfl) T.z_range (b_var 5 (pv 5))) (g_name 8 (pg_name (i := 8) sc.nd rfl (Or.inr rfl))) (s_one (s_frz [2] (s_asg (e_bin op_addAny add_ok (PE.bo (e_bin op_addAny add_ok (b_var 7 (pv 7)) (PE.bo (PE.ow (o_lc rfl sc.nd (own := [("_law_pair", 6)]) (blkC_of (N := ["_law_items", "_law_hold", "_law_due", "_law_ticks", "_law_item", "_law_last", "_law_pair", "_law_heard", "_law_k"]) (sc := defScope s__law_held) (by decide +kernel)) (by decide +kernel) (k_name 6) (i_seq (e_var 2 (pv 2))) (fun _ _ _ _ _ => (g_name 6 (pg_name (i := 6) sc.nd rfl (Or.inl rfl)))) (fun _ _ _ _ _ => (q_one (t_cmp (op_eqAny (u64 hr)) eq_ok (PE.bo (e_ix (b_var 6 (pv 6)) (PE.bo e_int))) (PE.bo (e_bin op_addAny add_ok (b_var 8 (pv 8)) (PE.bo e_int))) (nomark _)))) (fun _ _ _ _ _ => (e_ix (b_var 6 (pv 6)) (PE.bo e_int)))))))) (PE.bo (PE.ow (o_lst (a_cons e_str a_nil))))) (g_name 7 (pg_name (i := 7) sc.nd rfl (Or.inl rfl)))))))
      (s_one (s_ret (e_var 7 (pv 7))))))))))
theorem sc_law : FnScope ["_law_script", "_law_names_here", "_law_items", "_law_heard", "_law_number", "_law_period", "_law_offset", "_law_hold", "_law_given"] ["_law_script"] (defScope s_law) := ⟨rfl, rfl, rfl, by decide +kernel, rfl, by decide +kernel, by decide +kernel⟩
set_option maxRecDepth 100000 in
theorem ok_law (T : Tx K mg a) {fd : FuncData} (F : Fun K "law" "law" s_law a.law fd) : FnOk P w K mg base CX0 3 a.law fd ["_law_script"] (spD K ct 1 F_law) := by
  obtain ⟨fd__law_names, fn__law_names, b__law_names'⟩ := T.fn__law_names
  have k__law_names := fn__law_names.kp
  have G__law_names := ok__law_names (P := P) (w := w) (base := base) (ct := ct) T fn__law_names
  obtain ⟨fd__law_row, fn__law_row, b__law_row'⟩ := T.fn__law_row
  have k__law_row := fn__law_row.kp
  have G__law_row := ok__law_row (P := P) (w := w) (base := base) (ct := ct) T fn__law_row
  obtain ⟨fd__law_cell, fn__law_cell, b__law_cell'⟩ := T.fn__law_cell
  have k__law_cell := fn__law_cell.kp
  have G__law_cell := ok__law_cell (P := P) (w := w) (base := base) (ct := ct) T fn__law_cell
  obtain ⟨fd_heard_by_polling, fn_heard_by_polling⟩ := T.fn_heard_by_polling
  have k_heard_by_polling := fn_heard_by_polling.kp
  have G_heard_by_polling := ok_heard_by_polling (P := P) (w := w) (base := base) (ct := ct) T fn_heard_by_polling
  obtain ⟨fd__law_polled, fn__law_polled, b__law_polled'⟩ := T.fn__law_polled
  have k__law_polled := fn__law_polled.kp
  have G__law_polled := ok__law_polled (P := P) (w := w) (base := base) (ct := ct) T fn__law_polled
  obtain ⟨fd_heard_by_holding, fn_heard_by_holding, b_heard_by_holding'⟩ := T.fn_heard_by_holding
  have k_heard_by_holding := fn_heard_by_holding.kp
  have G_heard_by_holding := ok_heard_by_holding (P := P) (w := w) (base := base) (ct := ct) T fn_heard_by_holding
  obtain ⟨fd__law_held, fn__law_held, b__law_held'⟩ := T.fn__law_held
  have k__law_held := fn__law_held.kp
  have G__law_held := ok__law_held (P := P) (w := w) (base := base) (ct := ct) T fn__law_held
  obtain ⟨_, v0, w0⟩ := fn_heard_by_polling.binds1 (ps := ["items", "period", "offset"]) 3 1 (by simp) rfl (fun _ _ _ _ _ _ _ us its h1 h2 => match us, its, h1, h2 with | [_, _, _], [_], _, _ => ⟨_, rfl, rfl⟩)
  obtain ⟨_, v1, w1⟩ := fn_heard_by_polling.binds1 (ps := ["items", "period", "offset"]) 2 0 (by simp) rfl (fun _ _ _ _ _ _ _ us its h1 h2 => match us, its, h1, h2 with | [_, _], [_], _, _ => ⟨_, rfl, rfl⟩)
  obtain ⟨_, w2⟩ := kbinds1 (ps := ["items", "period", "offset"]) fn_heard_by_polling 2 ["offset"] (fun us _ ws => us ++ ws) (by simp) (fun r1 _ r3 => r1.append r3) (fun _ _ _ _ _ _ _ us its ws h1 h2 h3 => match us, its, ws, h1, h2, h3 with | [_, _], [_], [_], _, _, _ => ⟨_, rfl, rfl⟩)
  have sc := sc_law
  refine fn_ok F sc_law (fun cdv A outer s H E hr => ?_)
  exact (s_seq (s_asg (e_call G__law_names (hr.mono (by decide)) (by rfl) T.g__law_names k__law_names b__law_names' .nil (dd := []) (fun _ => RepL.nil) (a_cons (e_call G__law_row (hr.mono (by decide)) (by rfl) T.g__law_row k__law_row b__law_row' .nil (dd := []) (fun _ => RepL.nil) (a_cons (e_call G__law_cell (hr.mono (by decide)) (by rfl) T.g__law_cell k__law_cell b__law_cell' .nil (dd := []) (fun _ => RepL.nil) (a_cons (e_var 0 (pv 0)) (a_cons e_int a_nil)) (aCons_len (aCons_len aNil_len))) (a_cons e_int a_nil)) (aCons_len (aCons_len aNil_len))) a_nil) (aCons_len aNil_len)) (g_name 1 (pg_name (i := 1) sc.nd rfl (Or.inl rfl))))
      (s_seq (s_asg (e_bin op_addAny add_ok (b_var 1 (pv 1)) (PE.bo (PE.ow (o_lst (a_cons e_str (a_cons e_str a_nil)))))) (g_name 2 (pg_name (i := 2) sc.nd rfl (Or.inr rfl))))
      (s_seq (s_asgLc (i := 3) rfl sc.nd rfl rfl (sw_true rfl rfl rfl (by decide +kernel)) (own := [("_law_number", 4)]) (blkC_of (N := ["_law_script", "_law_names_here", "_law_items", "_law_heard", "_law_number", "_law_period", "_law_offset", "_law_hold", "_law_given"]) (sc := defScope s_law) (by decide +kernel)) (by decide +kernel) (k_name 4) (i_seq (e_bin op_addAny add_ok (PE.bo (e_call G__law_row (hr.mono (by decide)) (by rfl) T.g__law_row k__law_row b__law_row' .nil (dd := []) (fun _ => RepL.nil) (a_cons (e_call G__law_cell (hr.mono (by decide)) (by rfl) T.g__law_cell k__law_cell b__law_cell' .nil (dd := []) (fun _ => RepL.nil) (a_cons (e_var 0 (pv 0)) (a_cons e_int a_nil)) (aCons_len (aCons_len aNil_len))) (a_cons (e_bin op_modN mod_ok (PE.bo (e_call G__law_cell (hr.mono (by decide)) (by rfl) T.g__law_cell k__law_cell b__law_cell' .nil (dd := []) (fun _ => RepL.nil) (a_cons (e_var 0 (pv 0)) (a_cons e_int a_nil)) (aCons_len (aCons_len aNil_len)))) (PE.bo e_int)) a_nil)) (aCons_len (aCons_len aNil_len)))) (PE.bo (e_slice (b_var 0 (pv 0)) (p_some (PE.bo e_int)) p_none)))) (fun _ _ _ _ _ => (g_name 4 (pg_name (i := 4) sc.nd rfl (Or.inl rfl)))) (fun _ _ _ _ _ => q_nil) (fun _ _ _ _ _ => (e_ix (b_var 2 (pv 2)) (PE.bo (e_bin op_modN mod_ok (b_var 4 (pv 4)) (PE.bo (c_len (by rfl) T.z_len (b_var 2 (pv 2)))))))))
      (s_seq (s_asg (e_bin op_addAny add_ok (PE.bo e_int) (PE.bo (e_bin op_modN mod_ok (PE.bo (e_call G__law_cell (hr.mono (by decide)) (by rfl) T.g__law_cell k__law_cell b__law_cell' .nil (dd := []) (fun _ => RepL.nil) (a_cons (e_var 0 (pv 0)) (a_cons e_int a_nil)) (aCons_len (aCons_len aNil_len)))) (PE.bo e_int)))) (g_name 5 (pg_name (i := 5) sc.nd rfl (Or.inl rfl))))
      (s_seq (s_if (t_cmp (op_eqAny (u64 hr)) eq_ok (PE.bo (e_bin op_modN mod_ok (PE.bo (e_bin op_fdivN fdiv_ok (PE.bo (e_call G__law_cell (hr.mono (by decide)) (by rfl) T.g__law_cell k__law_cell b__law_cell' .nil (dd := []) (fun _ => RepL.nil) (a_cons (e_var 0 (pv 0)) (a_cons e_int a_nil)) (aCons_len (aCons_len aNil_len)))) (PE.bo e_int))) (PE.bo e_int))) (PE.bo e_int) (nomark _)) (s_one (s_asg (e_bin op_addAny add_ok (PE.bo e_int) (PE.bo (e_bin op_modN mod_ok (PE.bo (e_call G__law_cell (hr.mono (by decide)) (by rfl) T.g__law_cell k__law_cell b__law_cell' .nil (dd := []) (fun _ => RepL.nil) (a_cons (e_var 0 (pv 0)) (a_cons e_int a_nil)) (aCons_len (aCons_len aNil_len)))) (PE.bo e_int)))) (g_name 5 (pg_name (i := 5) sc.nd rfl (Or.inl rfl))))) s_nil)
      (s_seq (s_asg (e_bin op_modN mod_ok (PE.bo (e_call G__law_cell (hr.mono (by decide)) (by rfl) T.g__law_cell k__law_cell b__law_cell' .nil (dd := []) (fun _ => RepL.nil) (a_cons (e_var 0 (pv 0)) (a_cons e_int a_nil)) (aCons_len (aCons_len aNil_len)))) (b_var 5 (pv 5))) (g_name 6 (pg_name (i := 6) sc.nd rfl (Or.inl rfl))))
      (s_seq (s_asg (e_bin op_addAny add_ok (PE.bo e_int) (PE.bo (e_bin op_modN mod_ok (PE.bo (e_bin op_fdivN fdiv_ok (PE.bo (e_call G__law_cell (hr.mono (by decide)) (by rfl) T.g__law_cell k__law_cell b__law_cell' .nil (dd := []) (fun _ => RepL.nil) (a_cons (e_var 0 (pv 0)) (a_cons e_int a_nil)) (aCons_len (aCons_len aNil_len)))) (PE.bo e_int))) (PE.bo e_int)))) (g_name 7 (pg_name (i := 7) sc.nd rfl (Or.inl rfl))))
      (s_seq (s_if (t_cmp (op_eqAny (u64 hr)) eq_ok (PE.bo (e_bin op_modN mod_ok (PE.bo (e_bin op_fdivN fdiv_ok (PE.bo (e_call G__law_cell (hr.mono (by decide)) (by rfl) T.g__law_cell k__law_cell b__law_cell' .nil (dd := []) (fun _ => RepL.nil) (a_cons (e_var 0 (pv 0)) (a_cons e_int a_nil)) (aCons_len (aCons_len aNil_len)))) (PE.bo e_int))) (PE.bo e_int))) (PE.bo e_int) (nomark _)) (s_one (s_asg (e_bin op_addAny add_ok (PE.bo e_int) (PE.bo (e_bin op_modN mod_ok (PE.bo (e_bin op_fdivN fdiv_ok (PE.bo (e_call G__law_cell (hr.mono (by decide)) (by rfl) T.g__law_cell k__law_cell b__law_cell' .nil (dd := []) (fun _ => RepL.nil) (a_cons (e_var 0 (pv 0)) (a_cons e_int a_nil)) (aCons_len (aCons_len aNil_len)))) (PE.bo e_int))) (PE.bo e_int)))) (g_name 7 (pg_name (i := 7) sc.nd rfl (Or.inl rfl))))) s_nil)
      (s_seq (s_asg (PE.ow (c_list (by rfl) T.z_list (b_var 3 (pv 3)))) (g_name 8 (pg_name (i := 8) sc.nd rfl (Or.inl rfl))))
      (s_seq (s_if (t_cmp (op_neAny (u64 hr)) ne_ok (PE.bo (e_call G_heard_by_polling (hr.mono (by decide)) (by rfl) T.g_heard_by_polling k_heard_by_polling w0 v0 (dd := []) (fun _ => RepL.nil) (a_cons (e_var 8 (pv 8)) (a_cons (e_var 5 (pv 5)) (a_cons (e_var 6 (pv 6)) a_nil))) (fun ρ ds h => by rw [(aCons_len (aCons_len (aCons_len aNil_len))) ρ ds h]; rfl))) (PE.bo (e_call G__law_polled (hr.mono (by decide)) (by rfl) T.g__law_polled k__law_polled b__law_polled' .nil (dd := []) (fun _ => RepL.nil) (a_cons (e_var 3 (pv 3)) (a_cons (e_var 5 (pv 5)) (a_cons (e_var 6 (pv 6)) a_nil))) (aCons_len (aCons_len (aCons_len aNil_len))))) (nomark _)) (s_one (s_ret e_bl)) s_nil)
      (s_seq (s_if (t_cmp (op_neAny (u64 hr)) ne_ok (PE.bo (e_call G_heard_by_polling (hr.mono (by decide)) (by rfl) T.g_heard_by_polling k_heard_by_polling w1 v1 (dd := [(.int 0)]) (fun _ => (RepL.cons (by simp only [Rep]) RepL.nil)) (a_cons (e_var 8 (pv 8)) (a_cons (e_var 5 (pv 5)) a_nil)) (fun ρ ds h => by rw [(aCons_len (aCons_len aNil_len)) ρ ds h]; rfl))) (PE.bo (e_call G__law_polled (hr.mono (by decide)) (by rfl) T.g__law_polled k__law_polled b__law_polled' .nil (dd := []) (fun _ => RepL.nil) (a_cons (e_var 3 (pv 3)) (a_cons (e_var 5 (pv 5)) (a_cons e_int a_nil))) (aCons_len (aCons_len (aCons_len aNil_len))))) (nomark _)) (s_one (s_ret e_bl)) s_nil)
      (s_seq (s_if (t_cmp (op_neAny (u64 hr)) ne_ok (PE.bo (e_callK (g := fun vs zs => vs ++ zs) G_heard_by_polling (hr.mono (by decide)) (by rfl) T.g_heard_by_polling k_heard_by_polling w2 (fun _ _ _ _ _ r1 r2 => r1.append r2) (fun _ _ h1 h2 => by simp only [List.length_append, h1, h2]; rfl) (a_cons (c_tuple (by rfl) T.z_tuple (b_var 3 (pv 3))) (a_cons (e_var 5 (pv 5)) a_nil)) (kw_cons (e_var 6 (pv 6)) kw_nil) (aCons_len (aCons_len aNil_len)) (aCons_len aNil_len) rfl)) (PE.bo (e_call G__law_polled (hr.mono (by decide)) (by rfl) T.g__law_polled k__law_polled b__law_polled' .nil (dd := []) (fun _ => RepL.nil) (a_cons (e_var 3 (pv 3)) (a_cons (e_var 5 (pv 5)) (a_cons (e_var 6 (pv 6)) a_nil))) (aCons_len (aCons_len (aCons_len aNil_len))))) (nomark _)) (s_one (s_ret e_bl)) s_nil)
      (s_seq (s_if (t_cmp (op_neAny (u64 hr)) ne_ok (PE.bo (e_call G_heard_by_holding (hr.mono (by decide)) (by rfl) T.g_heard_by_holding k_heard_by_holding b_heard_by_holding' .nil (dd := []) (fun _ => RepL.nil) (a_cons (c_tuple (by rfl) T.z_tuple (b_var 3 (pv 3))) (a_cons (e_var 7 (pv 7)) a_nil)) (aCons_len (aCons_len aNil_len)))) (PE.bo (e_call G__law_held (hr.mono (by decide)) (by rfl) T.g__law_held k__law_held b__law_held' .nil (dd := []) (fun _ => RepL.nil) (a_cons (e_var 3 (pv 3)) (a_cons (e_var 7 (pv 7)) a_nil)) (aCons_len (aCons_len aNil_len)))) (nomark _)) (s_one (s_ret e_bl)) s_nil)
      (s_one (s_ret (e_and (e_cmp (op_eqAny (u64 hr)) eq_ok (PE.bo (e_call G_heard_by_holding (hr.mono (by decide)) (by rfl) T.g_heard_by_holding k_heard_by_holding b_heard_by_holding' .nil (dd := []) (fun _ => RepL.nil) (a_cons (e_var 8 (pv 8)) (a_cons (e_var 7 (pv 7)) a_nil)) (aCons_len (aCons_len aNil_len)))) (PE.bo (e_call G__law_held (hr.mono (by decide)) (by rfl) T.g__law_held k__law_held b__law_held' .nil (dd := []) (fun _ => RepL.nil) (a_cons (e_var 3 (pv 3)) (a_cons (e_var 7 (pv 7)) a_nil)) (aCons_len (aCons_len aNil_len)))) (nomark _)) (e_one (e_cmp (op_eqAny (u64 hr)) eq_ok (b_var 8 (pv 8)) (b_var 3 (pv 3)) (nomark _)))))))))))))))))))
end
end Lk23

namespace PL
open PySem PySem.Spec PyProof.Rows L2 PD
theorem wD_more {due : Due} {t : Nat} (h : ∃ p ∈ due, t < p.1) : (wD due t).isEmpty = false := by
  obtain ⟨p, hp, hl⟩ := h
  have : p ∈ wait due t := List.mem_filter.mpr ⟨hp, decide_eq_true hl⟩
  unfold wD
  cases hw : wait due t with
  | nil => rw [hw] at this; cases this
  | cons _ _ => rfl
theorem wD_none {due : Due} {t : Nat} (h : ∀ p ∈ due, p.1 ≤ t) : wD due t = [] := by
  unfold wD wait
  rw [List.filter_eq_nil_iff.mpr fun p hp => by have := h p hp; simp; omega]
  rfl
theorem heard_holding_eq {b : Bool} {xs : List St} {h : Nat} (hh : 0 < h) (hh2 : h ≤ 60) (hx : xs.length ≤ 900) :
    F_heard_by_holding [sqD b (strD xs), .int (h : Nat)] = some (.lst (strD (hres (hall h xs).1 (hlast (hall h xs))))) := by
  obtain ⟨ρ', h1, s5, rfl⟩ := forF_run (ft := gN 4) (f := loop_heard_by_holding_1) (is := [4]) (enc := D.str) (fun pre ρ => ∃ s5, ρ = envH b xs h (hall h pre) s5) xs (ρ := envH b xs h ([], 0) .un) ⟨.un, rfl⟩ (by
    rintro pre x post ρ he ⟨s5, rfl⟩
    have hl := congrArg List.length he
    simp at hl
    have sz := (hall_size (h := h) pre).1
    obtain ⟨s5', e⟩ := turnH (b := b) (xs := xs) hh (s := hall h pre) (s5 := s5) (by omega) (by omega) x
    exact ⟨_, e, s5', by rw [hall_snoc]⟩)
  obtain ⟨sz, db⟩ := hall_size (h := h) xs
  obtain ⟨m1, m2, m3⟩ := foldl_maxN (hall h xs).1 (hall h xs).2
  have m1' : hlast (hall h xs) = (hall h xs).2 ∨ ∃ p ∈ (hall h xs).1, p.1 = hlast (hall h xs) := m1
  have m2' : (hall h xs).2 ≤ hlast (hall h xs) := m2
  have m3' : ∀ p ∈ (hall h xs).1, p.1 ≤ hlast (hall h xs) := m3
  generalize hlast (hall h xs) = T at m1' m2' m3' ⊢
  generalize hall h xs = s at *
  obtain ⟨due, t0⟩ := s
  simp only at *
  have hT : T ≤ t0 + 60 := by
    rcases m1' with e | ⟨p, hp, e⟩
    · omega
    · have := db p hp; omega
  obtain ⟨N, rfl⟩ : ∃ N, T = t0 + N := ⟨T - t0, by omega⟩
  obtain ⟨ρ2, h4, s8, h5⟩ := whileF_inv (ft := test_heard_by_holding_3) (f := loop_heard_by_holding_2) (is := []) (fun k ρ => ∃ s5, ρ = envH b xs h (due, t0 + k) s5) N 0 100000 (envH b xs h (due, t0) s5) ⟨s5, rfl⟩ (by
      rintro i ρ _ hi ⟨s5, rfl⟩
      obtain ⟨s5', e⟩ := bodyH (b := b) (xs := xs) (h := h) (due := due) (t := t0 + i) (s5 := s5) (by omega) (by omega)
      refine ⟨?_, _, e, s5', rfl⟩
      have : (wD due (t0 + i)).isEmpty = false := by
        rcases m1' with q | ⟨p, hp, q⟩
        · omega
        · exact wD_more ⟨p, hp, by omega⟩
      simp [test_heard_by_holding_3, envH, truD, this])
    (by
      rintro ρ ⟨s5, rfl⟩
      rw [Nat.zero_add]
      simp [test_heard_by_holding_3, envH, truD, wD_none m3'])
    (by omega)
  rw [Nat.zero_add] at h5
  subst h5
  refine runF_rt ?_
  have w0 : wD [] 0 = [] := rfl
  have r0 : strD (hres [] 0) = [] := rfl
  unfold envH at h1 h4
  simp only [w0, r0] at h1
  unfold strD at h1 h4 ⊢
  simp [b_heard_by_holding, h1, h4]
def dEnc (p : Nat × St) : D := .tup [.int (p.1 : Nat), .str p.2]
def envLH (xs : List St) (h : Nat) (s : Due × Nat) : PD.Env := [.val (.lst (strD xs)), .val (.int (h : Nat)), .own (.lst (s.1.map dEnc)), .val (.int (s.2 : Nat)), .un, .un, .un, .un, .un]
theorem turnLH {xs : List St} {h : Nat} {s : Due × Nat} (hd : s.1.length ≤ 1000) (x : St) : turn (gN 4) loop_law_held_1 [4] (.str x) (envLH xs h s) = some (.nx (envLH xs h (hstep h s x))) := by
  by_cases hx : x = tk
  · subst hx
    rw [show hstep h s tk = (s.1, s.2 + 1) from if_pos rfl]
    simp [envLH, loop_law_held_1]
  · rw [show hstep h s x = (s.1 ++ [(s.2 + h, x)], s.2) from if_neg hx]
    have l : s.1.length < 16777216 := by omega
    simp [envLH, loop_law_held_1, hx, l, dEnc]
def envLH2 (xs : List St) (h : Nat) (s : Due × Nat) (T k : Nat) : PD.Env := [.val (.lst (strD xs)), .val (.int (h : Nat)), .val (.lst (s.1.map dEnc)), .val (.int (s.2 : Nat)), .un, .val (.int (T : Nat)), .un, .val (.lst (strD (hres s.1 k))), .un]
theorem turnLH2 {xs : List St} {h T k : Nat} {s : Due × Nat} (hd : s.1.length ≤ 1000) (hk : k ≤ 1100) : turn (gN 8) loop_law_held_2 [8] (.int (k : Nat)) (envLH2 xs h s T k) = some (.nx (envLH2 xs h s T (k + 1))) := by
  have l0 : s.1.length ≤ 16777216 := by omega
  have f1 : lcF (gN 6) (fT (f2 (f2 (fBor 6) (fC (.int 0)) ixD) (f2 (fBor 8) (fC (.int 1)) addD) (eqO false))) (f2 (fBor 6) (fC (.int 1)) ixD) [.val (.lst (strD xs)), .val (.int (h : Nat)), .val (.lst (s.1.map dEnc)), .val (.int (s.2 : Nat)), .un, .val (.int (T : Nat)), .un, .val (.lst (strD (hres s.1 k))), .val (.int (k : Nat))] (s.1.map dEnc) = some (strD (dueAt s.1 k)) := by
    have h := lcF_filter (ft := gN 6) (fq := fT (f2 (f2 (fBor 6) (fC (.int 0)) ixD) (f2 (fBor 8) (fC (.int 1)) addD) (eqO false))) (fe := f2 (fBor 6) (fC (.int 1)) ixD) (ρ := [.val (.lst (strD xs)), .val (.int (h : Nat)), .val (.lst (s.1.map dEnc)), .val (.int (s.2 : Nat)), .un, .val (.int (T : Nat)), .un, .val (.lst (strD (hres s.1 k))), .val (.int (k : Nat))]) (enc := dEnc) (q := fun p => decide ((p.1 : Int) = (k : Int) + 1)) (g := fun p => .str p.2) (ts := s.1)
      (fun p _ => by
        have i0 : atI [D.int (p.1 : Nat), D.str p.2] 0 = some (.int (p.1 : Nat)) := rfl
        have i1 : atI [D.int (p.1 : Nat), D.str p.2] 1 = some (.str p.2) := rfl
        exact ⟨by simp [dEnc, i0], fun _ => by simp [dEnc, i1]⟩)
    refine h.trans ?_
    unfold strD dueAt
    rw [List.map_map]
    congr 2
    apply List.filter_congr
    intro p _
    apply decide_eq_decide.mpr
    omega
  have l1 := hres_len s.1 k
  have l2 := dueAt_len s.1 k
  have l3 : k * (s.1.length + 1) ≤ 1100 * 1001 := Nat.mul_le_mul hk (by omega)
  have a1 : addD (.lst (strD (hres s.1 k))) (.lst (strD (dueAt s.1 k))) = some (.lst (strD (hres s.1 k ++ dueAt s.1 k))) := by rw [addD_lst (by simp; omega), strD_add]
  have a2 : addD (.lst (strD (hres s.1 k ++ dueAt s.1 k))) (.lst [D.str tk]) = some (.lst (strD (hres s.1 (k + 1)))) := by rw [addD_lst (by simp; omega), strD_snoc, hres_succ, List.append_assoc]
  generalize hm : s.1.map dEnc = m at *
  have lm : m.length ≤ 16777216 := by rw [← hm, List.length_map]; exact l0
  simp [envLH2, loop_law_held_2, hm, f1, lm, a1, a2]
theorem law_held_eq {xs : List St} {h : Nat} (hh : 0 < h) (hh2 : h ≤ 60) (hx : xs.length ≤ 900) :
    F_law_held [.lst (strD xs), .int (h : Nat)] = some (.lst (strD (hres (hall h xs).1 (hlast (hall h xs))))) := by
  obtain ⟨ρ', h1, rfl⟩ := forF_run (ft := gN 4) (f := loop_law_held_1) (is := [4]) (enc := D.str) (fun pre ρ => ρ = envLH xs h (hall h pre)) xs (ρ := envLH xs h ([], 0)) rfl (by
    rintro pre x post ρ he rfl
    have hl := congrArg List.length he
    simp at hl
    have sz := (hall_size (h := h) pre).1
    exact ⟨_, turnLH (by omega) x, by rw [hall_snoc]⟩)
  obtain ⟨sz, db⟩ := hall_size (h := h) xs
  obtain ⟨m1, m2, m3⟩ := foldl_maxN (hall h xs).1 (hall h xs).2
  have m1' : hlast (hall h xs) = (hall h xs).2 ∨ ∃ p ∈ (hall h xs).1, p.1 = hlast (hall h xs) := m1
  have m2' : (hall h xs).2 ≤ hlast (hall h xs) := m2
  have m3' : ∀ p ∈ (hall h xs).1, p.1 ≤ hlast (hall h xs) := m3
  generalize hlast (hall h xs) = T at m1' m2' m3' ⊢
  generalize hall h xs = s at *
  have hT : T ≤ 1000 := by
    rcases m1' with e | ⟨p, hp, e⟩
    · omega
    · have := db p hp; omega
  obtain ⟨ρ2, h4, h5⟩ := forF_run (ft := gN 8) (f := loop_law_held_2) (is := [8]) (enc := fun i : Nat => D.int (i : Int)) (fun pre ρ => ρ = envLH2 xs h s T pre.length) (List.range T) (ρ := envLH2 xs h s T 0) rfl (by
    rintro pre k post ρ he rfl
    obtain ⟨rfl, hk⟩ := range_at he
    exact ⟨_, turnLH2 (by omega) (by omega), by simp⟩)
  rw [List.length_range] at h5
  subst h5
  have fm := lcF_map (ft := gN 6) (fe := f2 (fBor 6) (fC (.int 0)) ixD) (ρ := [.val (.lst (strD xs)), .val (.int (h : Nat)), .val (.lst (s.1.map dEnc)), .val (.int (s.2 : Nat)), .un, .un, .un, .un, .un]) (enc := dEnc) (g := fun p => .int (p.1 : Nat)) (ts := s.1)
    (fun p _ => by
      have i0 : atI [D.int (p.1 : Nat), D.str p.2] 0 = some (.int (p.1 : Nat)) := rfl
      simp [dEnc, i0])
  have mx : maxD (.lst (D.int (s.2 : Nat) :: s.1.map fun p => D.int (p.1 : Nat))) = some (.int (T : Nat)) := by
    have e : (D.int (s.2 : Nat) :: s.1.map fun p => D.int (p.1 : Nat)) = ((s.2 : Int) :: s.1.map fun p => (p.1 : Int)).map D.int := by
      simp
    unfold maxD
    rw [e]
    simp only [lstOf, Option.bind_some, intsOf_map]
    cases hm : maxL ((s.2 : Int) :: s.1.map fun p => (p.1 : Int)) with
    | none => simp [maxL] at hm
    | some m =>
      have := max_eq hm (k := (T : Int)) (by
        rcases m1' with q | ⟨p, hp, q⟩
        · rw [q]; exact List.mem_cons_self
        · rw [← q]; exact List.mem_cons_of_mem _ (List.mem_map.mpr ⟨p, hp, rfl⟩)) (by
        intro y hy
        rcases List.mem_cons.mp hy with rfl | hy
        · omega
        · obtain ⟨p, hp, rfl⟩ := List.mem_map.mp hy
          have := m3' p hp
          omega)
      rw [this]
      rfl
  have ad := addD_lst (ds := [D.int (s.2 : Nat)]) (es := s.1.map fun p => D.int (p.1 : Nat)) (by simp; omega)
  have ad' : addD (.lst [D.int (s.2 : Nat)]) (.lst (s.1.map fun p => D.int (p.1 : Nat))) = some (.lst (D.int (s.2 : Nat) :: s.1.map fun p => D.int (p.1 : Nat))) := ad
  have w0 : ([] : Due).map dEnc = [] := rfl
  have r0 : strD (hres s.1 0) = [] := rfl
  unfold envLH at h1
  unfold envLH2 at h4
  rw [w0] at h1
  rw [r0] at h4
  have i1 : (-4611686018427387904 : Int) ≤ (T : Int) := by omega
  have i2 : (T : Int) < 4611686018427387904 := by omega
  generalize hds : s.1.map dEnc = ds at *
  have ld : ds.length ≤ 16777216 := by rw [← hds, List.length_map]; omega
  generalize (s.1.map fun p => D.int (p.1 : Nat)) = fs at *
  have h1' := h1
  rw [show ((([], 0) : Due × Nat).2 : Int) = 0 from rfl] at h1'
  unfold strD at h1' h4 fm ⊢
  refine runF_rt ?_
  simp [b_law_held, h1', fm, ld, ad', mx, i1, i2, h4]
end PL

namespace PL
open PySem PySem.Spec PyProof.Rows L2 PD
def pok (s : Pst) : Prop := (∀ x ∈ s.w, okS x) ∧ ∀ x ∈ s.r, okS x
theorem ptick_ok {P o : Int} {s : Pst} (h : pok s) : pok (ptick P o s) := by
  obtain ⟨h1, h2⟩ := h
  unfold ptick
  split
  · refine ⟨fun x hx => by simp at hx, fun x hx => ?_⟩
    simp only [List.mem_append, List.mem_singleton] at hx
    rcases hx with hx | hx | rfl
    · exact h2 x hx
    · exact h1 x hx
    · exact tk_ok
  · refine ⟨h1, fun x hx => ?_⟩
    simp only [List.mem_append, List.mem_singleton] at hx
    rcases hx with hx | rfl
    · exact h2 x hx
    · exact tk_ok
theorem pfl_ok {P o : Int} {s : Pst} (h : pok s) : pok (pfl P o s) := by
  unfold pfl
  split
  · exact h
  · exact ptick_ok h
theorem iter_ok {f : Pst → Pst} (hf : ∀ s, pok s → pok (f s)) : ∀ (n : Nat) (s : Pst), pok s → pok (iter f n s)
  | 0, _, h => h
  | n + 1, s, h => iter_ok hf n (f s) (hf s h)
theorem pall_ok {P o : Int} : ∀ (xs : List St) (s : Pst), (∀ x ∈ xs, okS x) → pok s → pok (xs.foldl (phear P o) s)
  | [], _, _, h => h
  | x :: xs, s, hx, h => by
    refine pall_ok xs (phear P o s x) (fun y hy => hx y (List.mem_cons_of_mem _ hy)) ?_
    unfold phear
    split
    · exact ptick_ok h
    · refine ⟨fun y hy => ?_, h.2⟩
      rcases List.mem_append.mp hy with hy | hy
      · exact h.1 y hy
      · rw [List.mem_singleton.mp hy]
        exact hx x List.mem_cons_self
theorem hall_ok {h : Nat} : ∀ (xs : List St) (s : Due × Nat), (∀ x ∈ xs, okS x) → (∀ p ∈ s.1, okS p.2) → ∀ p ∈ (xs.foldl (hstep h) s).1, okS p.2
  | [], _, _, h => h
  | x :: xs, s, hx, h => by
    refine hall_ok xs (hstep _ s x) (fun y hy => hx y (List.mem_cons_of_mem _ hy)) ?_
    unfold hstep
    split
    · exact h
    · intro p hp
      rcases List.mem_append.mp hp with hp | hp
      · exact h p hp
      · rw [List.mem_singleton.mp hp]
        exact hx x List.mem_cons_self
theorem hres_ok {due : Due} {t : Nat} (h : ∀ p ∈ due, okS p.2) : ∀ x ∈ hres due t, okS x := by
  intro x hx
  obtain ⟨k, _, hx⟩ := List.mem_flatMap.mp hx
  rcases List.mem_append.mp hx with hx | hx
  · obtain ⟨p, hp, rfl⟩ := List.mem_map.mp hx
    exact h p (List.mem_filter.mp hp).1
  · rw [List.mem_singleton.mp hx]
    exact tk_ok
def polR (xs : List St) (P o : Int) : List St := (iter (pfl P o) 62 (pall P o xs)).r
def holR (xs : List St) (h : Int) : List St := hres (hall h.toNat xs).1 (hlast (hall h.toNat xs))
theorem row_mod (c d : Int) (m : Int) (h1 : 0 < m) (h2 : m ≤ 1000) : ∃ r : List Int, F_law_row [.int c, .int (d % m)] = some (.lst (r.map .int)) ∧ (r.length : Int) < m := by
  have p1 := Int.emod_nonneg d (b := m) (by omega)
  have p2 := Int.emod_lt_of_pos d h1
  obtain ⟨r, e, l, _⟩ := row_eq c (d % m).toNat (by omega)
  rw [Int.toNat_of_nonneg p1] at e
  exact ⟨r, e, by omega⟩
def pick (sg : List St) (x : Int) : St := sg.getD (x % (sg.length : Int)).toNat default
theorem pick_at {sg : List St} (h : 0 < sg.length) (x : Int) : (x % (sg.length : Int)).toNat < sg.length ∧ 0 ≤ x % (sg.length : Int) := by
  have h1 := Int.emod_nonneg x (b := (sg.length : Int)) (by omega)
  have h2 := Int.emod_lt_of_pos x (b := (sg.length : Int)) (by omega)
  omega
theorem pick_mem {sg : List St} (h : 0 < sg.length) (x : Int) : pick sg x ∈ sg := by
  unfold pick
  rw [List.getD_eq_getElem?_getD, List.getElem?_eq_getElem (pick_at h x).1]
  exact List.getElem_mem _
theorem atI_pick {sg : List St} (h : 0 < sg.length) (x : Int) : atI (strD sg) (x % (sg.length : Int)) = some (.str (pick sg x)) := by
  have h1 := pick_at h x
  refine atI_lt (n := (x % (sg.length : Int)).toNat) (by omega) ?_
  unfold pick strD
  rw [List.getElem?_map, List.getElem?_eq_getElem h1.1, List.getD_eq_getElem?_getD, List.getElem?_eq_getElem h1.1]
  rfl
theorem law23 (ns : List Int) (hn : ns.length ≤ 63) : Lk23.F_law [.frl (ns.map .int)] = some (.bl true) := by
  have cl0 : F_law_cell [.frl (ns.map .int), .int 0] = some (.int (cellAt ns 0)) := cell_eq ns 0
  have cl1 : F_law_cell [.frl (ns.map .int), .int 1] = some (.int (cellAt ns 1)) := cell_eq ns 1
  have cl2 : F_law_cell [.frl (ns.map .int), .int 2] = some (.int (cellAt ns 2)) := cell_eq ns 2
  have cl3 : F_law_cell [.frl (ns.map .int), .int 3] = some (.int (cellAt ns 3)) := cell_eq ns 3
  have cl4 : F_law_cell [.frl (ns.map .int), .int 4] = some (.int (cellAt ns 4)) := cell_eq ns 4
  generalize cellAt ns 0 = c0 at *
  generalize cellAt ns 1 = c1 at *
  generalize cellAt ns 2 = c2 at *
  generalize cellAt ns 3 = c3 at *
  generalize cellAt ns 4 = c4 at *
  obtain ⟨r3, er3, lr3, _⟩ := row_eq c0 3 (by decide)
  have er3' : F_law_row [.int c0, .int 3] = some (.lst (r3.map .int)) := er3
  obtain ⟨names, en, n0, n2, nok⟩ := names3_eq lr3
  obtain ⟨q, eq, lq⟩ := row_mod c1 c2 30 (by decide) (by decide)
  have adn := addD_lst (ds := strD names) (es := strD [tk, tk]) (by simp; omega)
  rw [strD_add] at adn
  have adn' : addD (.lst (strD names)) (.lst [.str tk, .str tk]) = some (.lst (strD (names ++ [tk, tk]))) := adn
  have iok : ∀ s ∈ names ++ [tk, tk], okS s := by
    intro s hs
    simp at hs
    rcases hs with hs | rfl
    · exact nok s hs
    · exact tk_ok
  have il : 0 < (names ++ [tk, tk]).length := by simp
  have il2 : (names ++ [tk, tk]).length ≤ 4 := by simp; omega
  generalize names ++ [tk, tk] = items at *
  have cf : cutL (ns.map D.int) (some 5) none = (ns.drop 5).map D.int := by
    have h := cutL_from (ns.map D.int) 5
    rw [List.map_drop]
    exact h
  have lf : (ns.drop 5).length ≤ 58 := by rw [List.length_drop]; omega
  generalize ns.drop 5 = rest at cf lf
  have ad : addD (.lst (q.map D.int)) (.lst (rest.map D.int)) = some (.lst ((q ++ rest).map D.int)) := by rw [addD_lst (by simp; omega), List.map_append]
  have lz : (q ++ rest).length ≤ 87 := by simp; omega
  generalize q ++ rest = zs at *
  have hp : (0 : Int) < (items.length : Int) := by omega
  have m := lcF_map (ft := gN 4) (fe := f2 (fBor 2) (f2 (fBor 4) (f1 (fBor 2) lenD) modD) ixD) (ρ := [.val (.frl (ns.map .int)), .val (.lst (strD names)), .val (.lst (strD items)), .un, .un, .un, .un, .un, .un]) (enc := D.int) (g := fun x => .str (pick items x)) (ts := zs)
      (fun x _ => by simp [modD_pos hp, atI_pick il])
  have m' : lcF (gN 4) qYes (f2 (fBor 2) (f2 (fBor 4) (f1 (fBor 2) lenD) modD) ixD) [.val (.frl (ns.map .int)), .val (.lst (strD names)), .val (.lst (strD items)), .un, .un, .un, .un, .un, .un] (zs.map .int) = some (strD (zs.map (pick items))) := by
    rw [m]
    unfold strD
    rw [List.map_map]
    rfl
  have xok : ∀ s ∈ zs.map (pick items), okS s := by
    intro s h
    obtain ⟨x, _, rfl⟩ := List.mem_map.mp h
    exact iok _ (pick_mem il x)
  have lx : (zs.map (pick items)).length ≤ 87 := by rw [List.length_map]; exact lz
  have lz2 : zs.length ≤ 16777216 := by omega
  generalize zs.map (pick items) = xs at *
  generalize hzz : zs.map D.int = zz at *
  have lzz : zz.length ≤ 16777216 := by rw [← hzz, List.length_map]; exact lz2
  have p1 : ∀ P o : Int, 0 < P → P ≤ 60 → 0 ≤ o → o < P → F_heard_by_polling [.lst (strD xs), .int P, .int o] = some (.lst (strD (polR xs P o))) := fun P o h1 h2 h3 h4 => heard_polling_eq (b := false) h1 h2 h3 h4 (by omega)
  have p2 : ∀ P o : Int, 0 < P → P ≤ 60 → 0 ≤ o → o < P → F_heard_by_polling [.tup (strD xs), .int P, .int o] = some (.lst (strD (polR xs P o))) := fun P o h1 h2 h3 h4 => heard_polling_eq (b := true) h1 h2 h3 h4 (by omega)
  have p3 : ∀ P o : Int, 0 < P → F_law_polled [.lst (strD xs), .int P, .int o] = some (.lst (strD (polR xs P o))) := fun P o h1 => law_polled_eq h1 (by omega)
  have p4 : ∀ P o : Int, eqO true (.lst (strD (polR xs P o))) (.lst (strD (polR xs P o))) = some (.bl false) := fun P o => neO_refl (lst_ok (iter_ok (fun s h => pfl_ok h) 62 _ (pall_ok xs pstart xok ⟨fun x hx => (by cases hx), fun x hx => (by cases hx)⟩)).2)
  have toN : ∀ h : Int, 0 < h → ((h.toNat : Nat) : Int) = h := fun h hh => Int.toNat_of_nonneg (by omega)
  have h1 : ∀ h : Int, 0 < h → h ≤ 60 → F_heard_by_holding [.lst (strD xs), .int h] = some (.lst (strD (holR xs h))) := fun h g1 g2 => by
    have e := heard_holding_eq (b := false) (xs := xs) (h := h.toNat) (by omega) (by omega) (by omega)
    rw [toN h g1] at e
    exact e
  have h2 : ∀ h : Int, 0 < h → h ≤ 60 → F_heard_by_holding [.tup (strD xs), .int h] = some (.lst (strD (holR xs h))) := fun h g1 g2 => by
    have e := heard_holding_eq (b := true) (xs := xs) (h := h.toNat) (by omega) (by omega) (by omega)
    rw [toN h g1] at e
    exact e
  have h3 : ∀ h : Int, 0 < h → h ≤ 60 → F_law_held [.lst (strD xs), .int h] = some (.lst (strD (holR xs h))) := fun h g1 g2 => by
    have e := law_held_eq (xs := xs) (h := h.toNat) (by omega) (by omega) (by omega)
    rw [toN h g1] at e
    exact e
  have hok : ∀ h : Int, okD (.lst (strD (holR xs h))) = true := fun h => lst_ok (hres_ok (hall_ok xs ([], 0) xok fun p hp => by cases hp))
  have h4 : ∀ h : Int, eqO true (.lst (strD (holR xs h))) (.lst (strD (holR xs h))) = some (.bl false) := fun h => neO_refl (hok h)
  have h5 : ∀ h : Int, eqO false (.lst (strD (holR xs h))) (.lst (strD (holR xs h))) = some (.bl true) := fun h => eqO_refl (hok h)
  have h6 := eqO_refl (lst_ok xok)
  generalize polR xs = A at *
  generalize holR xs = B at *
  refine runF_rt ?_
  have main : ∀ P h : Int, 0 < P → P ≤ 60 → 0 < h → h ≤ 60 → (if c3 / 60 % 2 = 0 then 1 + c3 % 4 else 1 + c3 % 60) = P → (if c3 / 120 % 2 = 0 then 1 + c4 / 60 % 3 else 1 + c4 / 60 % 60) = h → Lk23.b_law ([D.frl (ns.map .int)].map .val ++ List.replicate (9 - [D.frl (ns.map .int)].length) .un) = some (.rt (.bl true)) := by
    intro P h hP hP2 hh hh2 eP eh
    have o1 := Int.emod_nonneg c4 (b := P) (by omega)
    have o2 := Int.emod_lt_of_pos c4 hP
    by_cases q1 : c3 / 60 % 2 = 0
    · rw [if_pos q1] at eP
      by_cases q2 : c3 / 120 % 2 = 0
      · rw [if_pos q2] at eh
        simp [Lk23.b_law, cl0, cl1, cl2, cl3, cl4, er3', en, adn', modD_pos, eq, cf, ad, m', lzz, fdivD_pos, q1, q2, eP, eh, modD_pos hP, p1 P _ hP hP2 o1 o2, p1 P 0 hP hP2 (Int.le_refl 0) hP, p2 P _ hP hP2 o1 o2, p3 P _ hP, p4, h1 h hh hh2, h2 h hh hh2, h3 h hh hh2, h4, h5, h6]
      · rw [if_neg q2] at eh
        simp [Lk23.b_law, cl0, cl1, cl2, cl3, cl4, er3', en, adn', modD_pos, eq, cf, ad, m', lzz, fdivD_pos, q1, q2, eP, eh, modD_pos hP, p1 P _ hP hP2 o1 o2, p1 P 0 hP hP2 (Int.le_refl 0) hP, p2 P _ hP hP2 o1 o2, p3 P _ hP, p4, h1 h hh hh2, h2 h hh hh2, h3 h hh hh2, h4, h5, h6]
    · rw [if_neg q1] at eP
      by_cases q2 : c3 / 120 % 2 = 0
      · rw [if_pos q2] at eh
        simp [Lk23.b_law, cl0, cl1, cl2, cl3, cl4, er3', en, adn', modD_pos, eq, cf, ad, m', lzz, fdivD_pos, q1, q2, eP, eh, modD_pos hP, p1 P _ hP hP2 o1 o2, p1 P 0 hP hP2 (Int.le_refl 0) hP, p2 P _ hP hP2 o1 o2, p3 P _ hP, p4, h1 h hh hh2, h2 h hh hh2, h3 h hh hh2, h4, h5, h6]
      · rw [if_neg q2] at eh
        simp [Lk23.b_law, cl0, cl1, cl2, cl3, cl4, er3', en, adn', modD_pos, eq, cf, ad, m', lzz, fdivD_pos, q1, q2, eP, eh, modD_pos hP, p1 P _ hP hP2 o1 o2, p1 P 0 hP hP2 (Int.le_refl 0) hP, p2 P _ hP hP2 o1 o2, p3 P _ hP, p4, h1 h hh hh2, h2 h hh hh2, h3 h hh hh2, h4, h5, h6]
  have b1 : (0 : Int) < (if c3 / 60 % 2 = 0 then 1 + c3 % 4 else 1 + c3 % 60) ∧ (if c3 / 60 % 2 = 0 then 1 + c3 % 4 else 1 + c3 % 60) ≤ 60 := by split <;> omega
  have b2 : (0 : Int) < (if c3 / 120 % 2 = 0 then 1 + c4 / 60 % 3 else 1 + c4 / 60 % 60) ∧ (if c3 / 120 % 2 = 0 then 1 + c4 / 60 % 3 else 1 + c4 / 60 % 60) ≤ 60 := by split <;> omega
  exact main _ _ b1.1 b1.2 b2.1 b2.2 rfl rfl
end PL

namespace Lk23
open PySem PySem.Spec PyProof.Rows L2 PD PL
theorem tx_mk {K : PySem.W.Frag} {h : Heap} {mg : Str → Option Value} (X : K.In h) (G : h.Ns mainGlobals mg)
    {f0 : Addr} {od0 an0 : Option Addr} {sl0 : Array (Option Value)} {oc0 kV0 dc0 pm0 cd0 ct0 : Value}
    {f1 : Addr} {od1 an1 : Option Addr} {sl1 : Array (Option Value)} {oc1 kV1 dc1 pm1 cd1 ct1 : Value}
    {f2 : Addr} {od2 an2 : Option Addr} {sl2 : Array (Option Value)} {oc2 kV2 dc2 pm2 cd2 ct2 : Value} {T2 : Addr} {oT2 : Obj} {it2 : List Value} {n2 : Nat}
    {f3 : Addr} {od3 an3 : Option Addr} {sl3 : Array (Option Value)} {oc3 kV3 dc3 pm3 cd3 ct3 : Value}
    {f4 : Addr} {od4 an4 : Option Addr} {sl4 : Array (Option Value)} {oc4 kV4 dc4 pm4 cd4 ct4 : Value}
    {f5 : Addr} {od5 an5 : Option Addr} {sl5 : Array (Option Value)} {oc5 kV5 dc5 pm5 cd5 ct5 : Value}
    {f6 : Addr} {od6 an6 : Option Addr} {sl6 : Array (Option Value)} {oc6 kV6 dc6 pm6 cd6 ct6 : Value}
    {f7 : Addr} {od7 an7 : Option Addr} {sl7 : Array (Option Value)} {oc7 kV7 dc7 pm7 cd7 ct7 : Value}
    {f8 : Addr} {od8 an8 : Option Addr} {sl8 : Array (Option Value)} {oc8 kV8 dc8 pm8 cd8 ct8 : Value}
    {f9 : Addr} {od9 an9 : Option Addr} {sl9 : Array (Option Value)} {oc9 kV9 dc9 pm9 cd9 ct9 : Value}
    {f10 : Addr} {od10 an10 : Option Addr} {sl10 : Array (Option Value)} {oc10 kV10 dc10 pm10 cd10 ct10 : Value}
    (a0 : PySem.W.nsIn K mainGlobals "polled" = some (some (.ref f0))) (l0 : K.lookup f0 = some ⟨oc0, od0, .func (PySem.W.fnOf "polled" "polled" (defArgs s_polled) (defBody s_polled) (defScope s_polled) .none kV0 dc0 pm0 an0 cd0 ct0), sl0⟩) (c0 : PySem.W.codeIn K cd0 "polled" = true) (k0 : PySem.W.keepIn K (.ref f0) = true)
    (a1 : PySem.W.nsIn K mainGlobals "held" = some (some (.ref f1))) (l1 : K.lookup f1 = some ⟨oc1, od1, .func (PySem.W.fnOf "held" "held" (defArgs s_held) (defBody s_held) (defScope s_held) .none kV1 dc1 pm1 an1 cd1 ct1), sl1⟩) (c1 : PySem.W.codeIn K cd1 "held" = true) (k1 : PySem.W.keepIn K (.ref f1) = true)
    (a2 : PySem.W.nsIn K mainGlobals "heard_by_polling" = some (some (.ref f2))) (l2 : K.lookup f2 = some ⟨oc2, od2, .func (PySem.W.fnOf "heard_by_polling" "heard_by_polling" (defArgs s_heard_by_polling) (defBody s_heard_by_polling) (defScope s_heard_by_polling) (.ref T2) kV2 dc2 pm2 an2 cd2 ct2), sl2⟩) (c2 : PySem.W.codeIn K cd2 "heard_by_polling" = true) (k2 : PySem.W.keepIn K (.ref f2) = true) (p2 : K.lookup T2 = some oT2) (q2 : oT2.data = .seq it2.toArray n2) (r2 : Vals [(.int 0)] it2)
    (a3 : PySem.W.nsIn K mainGlobals "heard_by_holding" = some (some (.ref f3))) (l3 : K.lookup f3 = some ⟨oc3, od3, .func (PySem.W.fnOf "heard_by_holding" "heard_by_holding" (defArgs s_heard_by_holding) (defBody s_heard_by_holding) (defScope s_heard_by_holding) .none kV3 dc3 pm3 an3 cd3 ct3), sl3⟩) (c3 : PySem.W.codeIn K cd3 "heard_by_holding" = true) (k3 : PySem.W.keepIn K (.ref f3) = true)
    (a4 : PySem.W.nsIn K mainGlobals "_law_cell" = some (some (.ref f4))) (l4 : K.lookup f4 = some ⟨oc4, od4, .func (PySem.W.fnOf "_law_cell" "_law_cell" (defArgs s__law_cell) (defBody s__law_cell) (defScope s__law_cell) .none kV4 dc4 pm4 an4 cd4 ct4), sl4⟩) (c4 : PySem.W.codeIn K cd4 "_law_cell" = true) (k4 : PySem.W.keepIn K (.ref f4) = true)
    (a5 : PySem.W.nsIn K mainGlobals "_law_row" = some (some (.ref f5))) (l5 : K.lookup f5 = some ⟨oc5, od5, .func (PySem.W.fnOf "_law_row" "_law_row" (defArgs s__law_row) (defBody s__law_row) (defScope s__law_row) .none kV5 dc5 pm5 an5 cd5 ct5), sl5⟩) (c5 : PySem.W.codeIn K cd5 "_law_row" = true) (k5 : PySem.W.keepIn K (.ref f5) = true)
    (a6 : PySem.W.nsIn K mainGlobals "_law_word" = some (some (.ref f6))) (l6 : K.lookup f6 = some ⟨oc6, od6, .func (PySem.W.fnOf "_law_word" "_law_word" (defArgs s__law_word) (defBody s__law_word) (defScope s__law_word) .none kV6 dc6 pm6 an6 cd6 ct6), sl6⟩) (c6 : PySem.W.codeIn K cd6 "_law_word" = true) (k6 : PySem.W.keepIn K (.ref f6) = true)
    (a7 : PySem.W.nsIn K mainGlobals "_law_names" = some (some (.ref f7))) (l7 : K.lookup f7 = some ⟨oc7, od7, .func (PySem.W.fnOf "_law_names" "_law_names" (defArgs s__law_names) (defBody s__law_names) (defScope s__law_names) .none kV7 dc7 pm7 an7 cd7 ct7), sl7⟩) (c7 : PySem.W.codeIn K cd7 "_law_names" = true) (k7 : PySem.W.keepIn K (.ref f7) = true)
    (a8 : PySem.W.nsIn K mainGlobals "_law_polled" = some (some (.ref f8))) (l8 : K.lookup f8 = some ⟨oc8, od8, .func (PySem.W.fnOf "_law_polled" "_law_polled" (defArgs s__law_polled) (defBody s__law_polled) (defScope s__law_polled) .none kV8 dc8 pm8 an8 cd8 ct8), sl8⟩) (c8 : PySem.W.codeIn K cd8 "_law_polled" = true) (k8 : PySem.W.keepIn K (.ref f8) = true)
    (a9 : PySem.W.nsIn K mainGlobals "_law_held" = some (some (.ref f9))) (l9 : K.lookup f9 = some ⟨oc9, od9, .func (PySem.W.fnOf "_law_held" "_law_held" (defArgs s__law_held) (defBody s__law_held) (defScope s__law_held) .none kV9 dc9 pm9 an9 cd9 ct9), sl9⟩) (c9 : PySem.W.codeIn K cd9 "_law_held" = true) (k9 : PySem.W.keepIn K (.ref f9) = true)
    (a10 : PySem.W.nsIn K mainGlobals "law" = some (some (.ref f10))) (l10 : K.lookup f10 = some ⟨oc10, od10, .func (PySem.W.fnOf "law" "law" (defArgs s_law) (defBody s_law) (defScope s_law) .none kV10 dc10 pm10 an10 cd10 ct10), sl10⟩) (c10 : PySem.W.codeIn K cd10 "law" = true) (k10 : PySem.W.keepIn K (.ref f10) = true)
    {tc0 : Tok} (y0 : PySem.W.nsIn K mainGlobals "TICK" = some (some (.str "tick" tc0)))
    (z0 : PySem.W.nsIn K mainGlobals "int" = some none)
    (z1 : PySem.W.nsIn K mainGlobals "len" = some none)
    (z2 : PySem.W.nsIn K mainGlobals "list" = some none)
    (z3 : PySem.W.nsIn K mainGlobals "max" = some none)
    (z4 : PySem.W.nsIn K mainGlobals "range" = some none)
    (z5 : PySem.W.nsIn K mainGlobals "tuple" = some none)
    : Tx K mg ⟨f0, f1, f2, f3, f4, f5, f6, f7, f8, f9, f10⟩ where
  z_int := PySem.W.mg_none_of X G z0
  z_len := PySem.W.mg_none_of X G z1
  z_list := PySem.W.mg_none_of X G z2
  z_max := PySem.W.mg_none_of X G z3
  z_range := PySem.W.mg_none_of X G z4
  z_tuple := PySem.W.mg_none_of X G z5
  v_TICK := ⟨_, PySem.W.mg_of X G y0⟩
  g_polled := PySem.W.mg_of X G a0
  fn_polled := ⟨_, fun_mk (st := s_polled) l0 c0 k0, (fun_mk (st := s_polled) l0 c0 k0).binds fun _ _ _ _ _ _ us hl => match us, hl with | [_, _, _, _], _ => rfl⟩
  g_held := PySem.W.mg_of X G a1
  fn_held := ⟨_, fun_mk (st := s_held) l1 c1 k1, (fun_mk (st := s_held) l1 c1 k1).binds fun _ _ _ _ _ _ us hl => match us, hl with | [_], _ => rfl⟩
  g_heard_by_polling := PySem.W.mg_of X G a2
  fn_heard_by_polling := ⟨_, funD_mk (st := s_heard_by_polling) (by simp) l2 c2 k2 p2 q2 r2⟩
  g_heard_by_holding := PySem.W.mg_of X G a3
  fn_heard_by_holding := ⟨_, fun_mk (st := s_heard_by_holding) l3 c3 k3, (fun_mk (st := s_heard_by_holding) l3 c3 k3).binds fun _ _ _ _ _ _ us hl => match us, hl with | [_, _], _ => rfl⟩
  g__law_cell := PySem.W.mg_of X G a4
  fn__law_cell := ⟨_, fun_mk (st := s__law_cell) l4 c4 k4, (fun_mk (st := s__law_cell) l4 c4 k4).binds fun _ _ _ _ _ _ us hl => match us, hl with | [_, _], _ => rfl⟩
  g__law_row := PySem.W.mg_of X G a5
  fn__law_row := ⟨_, fun_mk (st := s__law_row) l5 c5 k5, (fun_mk (st := s__law_row) l5 c5 k5).binds fun _ _ _ _ _ _ us hl => match us, hl with | [_, _], _ => rfl⟩
  g__law_word := PySem.W.mg_of X G a6
  fn__law_word := ⟨_, fun_mk (st := s__law_word) l6 c6 k6, (fun_mk (st := s__law_word) l6 c6 k6).binds fun _ _ _ _ _ _ us hl => match us, hl with | [_], _ => rfl⟩
  g__law_names := PySem.W.mg_of X G a7
  fn__law_names := ⟨_, fun_mk (st := s__law_names) l7 c7 k7, (fun_mk (st := s__law_names) l7 c7 k7).binds fun _ _ _ _ _ _ us hl => match us, hl with | [_], _ => rfl⟩
  g__law_polled := PySem.W.mg_of X G a8
  fn__law_polled := ⟨_, fun_mk (st := s__law_polled) l8 c8 k8, (fun_mk (st := s__law_polled) l8 c8 k8).binds fun _ _ _ _ _ _ us hl => match us, hl with | [_, _, _], _ => rfl⟩
  g__law_held := PySem.W.mg_of X G a9
  fn__law_held := ⟨_, fun_mk (st := s__law_held) l9 c9 k9, (fun_mk (st := s__law_held) l9 c9 k9).binds fun _ _ _ _ _ _ us hl => match us, hl with | [_, _], _ => rfl⟩
  g_law := PySem.W.mg_of X G a10
  fn_law := ⟨_, fun_mk (st := s_law) l10 c10 k10, (fun_mk (st := s_law) l10 c10 k10).binds fun _ _ _ _ _ _ us hl => match us, hl with | [_], _ => rfl⟩
theorem walk {l : PySem.W.OpenLaw} {q : Program} {loose : List Str} {XP : (Str → Option Value) → Heap → Prop} {YP : World → Heap → Prop} {d : DefRec} {K : Params → PySem.W.Frag} (hn : l.most = some 63) (hdf : d.params.defaults = []) (hd : d.name = "law") (hY : ∀ (w : World) (h : Heap), YP w h → (K w.params).In h)
    (F : ∀ (w : World) (mg : Str → Option Value) (h : Heap), (K w.params).In h → h.Ns mainGlobals mg → ∃ a : Ad, Tx (K w.params) mg a) :
    PySem.W.WalkO q loose XP YP l.row.toRowW d [] (fun f vs => PySem.call f vs) :=
  L2.walk_of (n := 63) (k := 3) (x := "_law_script") (CX := fun _ => CX0) (sp := fun w => spD (K w.params) (fun _ => 0) 1 F_law) hn (by decide) hdf ⟨rfl, by decide, by decide⟩ hY (fun w mg fa h X G hfa => by
    obtain ⟨a, T⟩ := F w mg h X G
    rw [hd, T.g_law] at hfa
    cases hfa
    obtain ⟨fd, FF, _⟩ := T.fn_law
    have FF' := FF
    obtain ⟨oc, od, kV, doc, pm, an, cdv, ct, osl, rfl, lk, hcd⟩ := FF.ex
    exact ⟨_, fun s v => .of_eq rfl, fun base _ _ => ok_law T FF'⟩)
    (fun w H a ns hl _ hS => law_end (fun ns hn => PL.law23 ns hn) hl hS) fun _ _ _ _ _ z => z
end Lk23
open PySem PySem.W PyProof.Rows
set_option maxRecDepth 100000 in
set_option maxHeartbeats 0 in
theorem PySem.Challenge.cw_latecoming_k23_what_receivers_hear_holds : PySem.Challenge.rw_latecoming_k23_what_receivers_hear.Holds := by
  w_on; o_law; k_head; (case hw => w_witness2)
  k_fill
  refine Lk23.walk (l := PySem.Challenge.rw_latecoming_k23_what_receivers_hear) rfl rfl rfl (fun w h Y => PySem.W.kIn_of Y) ?F
  case F =>
    intro w mg h KX G
    refine' ⟨_, Lk23.tx_mk KX G ?a0 ?l0 ?c0 ?k0 ?a1 ?l1 ?c1 ?k1 ?a2 ?l2 ?c2 ?k2 ?p2 ?q2 ?r2 ?a3 ?l3 ?c3 ?k3 ?a4 ?l4 ?c4 ?k4 ?a5 ?l5 ?c5 ?k5 ?a6 ?l6 ?c6 ?k6 ?a7 ?l7 ?c7 ?k7 ?a8 ?l8 ?c8 ?k8 ?a9 ?l9 ?c9 ?k9 ?a10 ?l10 ?c10 ?k10 ?y0 ?z0 ?z1 ?z2 ?z3 ?z4 ?z5⟩
    (case a0 => k_is)
    (case l0 => k_is)
    (case c0 => k_is)
    (case k0 => k_is)
    (case a1 => k_is)
    (case l1 => k_is)
    (case c1 => k_is)
    (case k1 => k_is)
    (case a2 => k_is)
    (case l2 => k_is)
    (case c2 => k_is)
    (case k2 => k_is)
    (case p2 => k_is)
    (case q2 => rfl)
    (case r2 => exact (.cons ⟨_, rfl⟩ .nil))
    (case a3 => k_is)
    (case l3 => k_is)
    (case c3 => k_is)
    (case k3 => k_is)
    (case a4 => k_is)
    (case l4 => k_is)
    (case c4 => k_is)
    (case k4 => k_is)
    (case a5 => k_is)
    (case l5 => k_is)
    (case c5 => k_is)
    (case k5 => k_is)
    (case a6 => k_is)
    (case l6 => k_is)
    (case c6 => k_is)
    (case k6 => k_is)
    (case a7 => k_is)
    (case l7 => k_is)
    (case c7 => k_is)
    (case k7 => k_is)
    (case a8 => k_is)
    (case l8 => k_is)
    (case c8 => k_is)
    (case k8 => k_is)
    (case a9 => k_is)
    (case l9 => k_is)
    (case c9 => k_is)
    (case k9 => k_is)
    (case a10 => k_is)
    (case l10 => k_is)
    (case c10 => k_is)
    (case k10 => k_is)
    (case y0 => k_is)
    (case z0 => k_is)
    (case z1 => k_is)
    (case z2 => k_is)
    (case z3 => k_is)
    (case z4 => k_is)
    (case z5 => k_is)
#print axioms PySem.Challenge.cw_latecoming_k23_what_receivers_hear_holds

