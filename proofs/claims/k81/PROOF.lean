import PyProof.Rows.All
import Wide.All
import OpenK.AllK
import Wide.FinOn
import HandS.ForMost
import HandS.IsInst
import HandS.Conv
import HandS.Deep
import HandS.Style
import HandS.Zip
import HandS.SortRule
import HandS.SortInts
import HandS.Flow
import HandS.ExcValue
import PyProof.ReprRoads
import PySem.Challenge.RW_partsmet_k81_whole_webs_and_rings
set_option Elab.async false
set_option linter.all false
set_option maxRecDepth 100000
namespace G81
/-! ### lists -/
section
variable {α : Type} [DecidableEq α]
theorem nodup_le : ∀ {F L : List α}, F.Nodup → (∀ x ∈ F, x ∈ L) → F.length ≤ L.length
  | [], _, _, _ => Nat.zero_le _
  | x :: F, L, h, s => by
    have hx : x ∈ L := s x List.mem_cons_self
    have h1 : F.length ≤ (L.erase x).length := nodup_le (List.nodup_cons.mp h).2 fun y hy => by
      have hne : y ≠ x := fun e => (List.nodup_cons.mp h).1 (e ▸ hy)
      exact (List.mem_erase_of_ne hne).mpr (s y (List.mem_cons_of_mem _ hy))
    rw [List.length_erase_of_mem hx] at h1
    have h2 : 0 < L.length := List.length_pos_of_mem hx
    rw [List.length_cons]
    omega
/-- as long, and all in: the other way too -/
theorem nodup_all {F L : List α} (hF : F.Nodup) (hL : L.Nodup) (s : ∀ x ∈ F, x ∈ L) (hl : L.length ≤ F.length) : ∀ x ∈ L, x ∈ F := fun x hx => by
  refine Classical.byContradiction fun hn => ?_
  have h := nodup_le (F := x :: F) (L := L) (List.nodup_cons.mpr ⟨hn, hF⟩) fun y hy => by
    rcases List.mem_cons.mp hy with rfl | hy
    · exact hx
    · exact s y hy
  rw [List.length_cons] at h
  omega
end

section
variable {α : Type} [DecidableEq α] {adj : α → α → Bool}
/-! ### ways -/
inductive Conn (adj : α → α → Bool) : α → α → Prop
  | refl (x : α) : Conn adj x x
  | step {x y z : α} : Conn adj x y → adj y z = true → Conn adj x z
theorem Conn.one {x y : α} (h : adj x y = true) : Conn adj x y := .step (.refl x) h
theorem Conn.trans {x y z : α} (h : Conn adj x y) (k : Conn adj y z) : Conn adj x z := by
  induction k with
  | refl => exact h
  | step _ e ih => exact .step ih e
theorem Conn.symm (hs : ∀ x y, adj x y = adj y x) {x y : α} (h : Conn adj x y) : Conn adj y x := by
  induction h with
  | refl => exact .refl _
  | step _ e ih => exact (Conn.one (by rw [hs]; exact e)).trans ih
theorem Conn.in {P : α → Prop} (hP : ∀ x y, P x → adj x y = true → P y) {x y : α} (h : Conn adj x y) (hx : P x) : P y := by
  induction h with
  | refl => exact hx
  | step _ e ih => exact hP _ _ ih e
theorem Conn.same {β : Type} {f : α → β} (hf : ∀ x y, adj x y = true → f x = f y) {x y : α} (h : Conn adj x y) : f x = f y := by
  induction h with
  | refl => rfl
  | step _ e ih => exact ih.trans (hf _ _ e)

/-! ### ties, neighbours -/
def deg (adj : α → α → Bool) (S : List α) (v : α) : Nat := (S.filter (adj v)).length
def E (adj : α → α → Bool) : List α → Nat
  | [] => 0
  | v :: S => E adj S + deg adj S v
theorem deg_cons (S : List α) (u v : α) : deg adj (u :: S) v = (if adj v u = true then 1 else 0) + deg adj S v := by
  unfold deg
  rw [List.filter_cons]
  by_cases h : adj v u = true
  · rw [if_pos h, if_pos h, List.length_cons]; omega
  · rw [if_neg h, if_neg h]; omega
theorem deg_self (hi : ∀ x, adj x x = false) (S : List α) (v : α) : deg adj (v :: S) v = deg adj S v := by
  rw [deg_cons, if_neg (by rw [hi]; decide)]; omega
theorem deg_perm {S S' : List α} (h : S.Perm S') (v : α) : deg adj S v = deg adj S' v := (h.filter _).length_eq
theorem E_perm (hs : ∀ x y, adj x y = adj y x) {S S' : List α} (h : S.Perm S') : E adj S = E adj S' := by
  induction h with
  | nil => rfl
  | cons x p ih => show E adj _ + _ = E adj _ + _; rw [ih, deg_perm p]
  | swap x y l =>
    show E adj l + deg adj l x + deg adj (x :: l) y = E adj l + deg adj l y + deg adj (y :: l) x
    rw [deg_cons, deg_cons, hs y x]; omega
  | trans _ _ a b => exact a.trans b
theorem sum_deg_cons (S : List α) (v : α) : ∀ L : List α, (L.map (deg adj (v :: S))).sum = (L.map (deg adj S)).sum + (L.filter fun x => adj x v).length
  | [] => rfl
  | x :: L => by
    rw [List.map_cons, List.sum_cons, List.map_cons, List.sum_cons, sum_deg_cons S v L, deg_cons, List.filter_cons]
    by_cases h : adj x v = true
    · rw [if_pos h, if_pos h, List.length_cons]; omega
    · rw [if_neg h, if_neg h]; omega
theorem handshake (hs : ∀ x y, adj x y = adj y x) (hi : ∀ x, adj x x = false) : ∀ S : List α, (S.map (deg adj S)).sum = 2 * E adj S
  | [] => rfl
  | v :: S => by
    rw [List.map_cons, List.sum_cons, sum_deg_cons, handshake hs hi S, deg_self hi]
    have e : (S.filter fun x => adj x v) = S.filter (adj v) := by
      congr 1
      funext x
      exact hs x v
    rw [e]
    show _ = 2 * (E adj S + deg adj S v)
    unfold deg
    omega
theorem sum_ge {f : α → Nat} {k : Nat} : ∀ {S : List α}, (∀ x ∈ S, k ≤ f x) → k * S.length ≤ (S.map f).sum
  | [], _ => by simp
  | x :: S, h => by
    have h1 := h x List.mem_cons_self
    have h2 := sum_ge (S := S) fun y hy => h y (List.mem_cons_of_mem _ hy)
    rw [List.map_cons, List.sum_cons, List.length_cons, Nat.mul_add]
    omega
theorem E_ge (hs : ∀ x y, adj x y = adj y x) (hi : ∀ x, adj x x = false) {S : List α} (h : ∀ x ∈ S, 2 ≤ deg adj S x) : S.length ≤ E adj S := by
  have h1 := sum_ge h
  rw [handshake hs hi] at h1
  omega
theorem deg_sub {S S' : List α} (h : ∀ p : α → Bool, (S.filter p).length ≤ (S'.filter p).length) (v : α) : deg adj S v ≤ deg adj S' v := h _

/-! ### those with less than two neighbours go -/
inductive Elim (adj : α → α → Bool) : List α → List α → List α → Prop
  | done {S K : List α} : S.Perm K → Elim adj S [] K
  | zero {S S' Z K : List α} {v : α} : S.Perm (v :: S') → deg adj S' v = 0 → Elim adj S' Z K → Elim adj S (v :: Z) K
  | one {S S' Z K : List α} {v : α} : S.Perm (v :: S') → deg adj S' v = 1 → Elim adj S' Z K → Elim adj S Z K
theorem Elim.perm {S S₁ Z K : List α} (p : S₁.Perm S) (h : Elim adj S Z K) : Elim adj S₁ Z K := by
  cases h with
  | done q => exact .done (p.trans q)
  | zero q d h => exact .zero (p.trans q) d h
  | one q d h => exact .one (p.trans q) d h
theorem Elim.trans {S Z K Z' K' : List α} (h : Elim adj S Z K) (k : Elim adj K Z' K') : Elim adj S (Z ++ Z') K' := by
  induction h with
  | done q => exact k.perm q
  | zero q d _ ih => exact .zero q d (ih k)
  | one q d _ ih => exact .one q d (ih k)
theorem elim_of (hi : ∀ x, adj x x = false) : ∀ (rem : List α) {K S : List α}, S.Perm (rem ++ K) → (∀ v ∈ rem, deg adj S v ≤ 1) → ∃ Z, Elim adj S Z K
  | [], K, S, p, _ => ⟨[], .done p⟩
  | v :: rem, K, S, p, h => by
    have p : S.Perm (v :: (rem ++ K)) := p
    have hd : deg adj (rem ++ K) v ≤ 1 := by
      have := h v List.mem_cons_self
      rw [deg_perm p, deg_self hi] at this
      exact this
    obtain ⟨Z, hZ⟩ := elim_of hi rem (K := K) (S := rem ++ K) (List.Perm.refl _) fun u hu => by
      have := h u (List.mem_cons_of_mem _ hu)
      rw [deg_perm p, deg_cons] at this
      omega
    by_cases h0 : deg adj (rem ++ K) v = 0
    · exact ⟨_, .zero p h0 hZ⟩
    · exact ⟨_, .one p (by omega) hZ⟩
/-- one round -/
theorem elim_round (hi : ∀ x, adj x x = false) (S : List α) : ∃ Z, Elim adj S Z (S.filter fun x => decide (1 < deg adj S x)) := by
  refine elim_of hi (S.filter fun x => !decide (1 < deg adj S x)) ?_ fun v hv => ?_
  · exact ((List.filter_append_perm (fun x => decide (1 < deg adj S x)) S).symm.trans List.perm_append_comm)
  · have := (List.mem_filter.mp hv).2
    simp at this
    exact this
theorem Elim.count (hs : ∀ x y, adj x y = adj y x) {S Z K : List α} (h : Elim adj S Z K) : E adj S + Z.length + K.length = E adj K + S.length := by
  induction h with
  | done p => rw [E_perm hs p, p.length_eq]; simp
  | zero p d _ ih =>
    rw [E_perm hs p, p.length_eq, List.length_cons, List.length_cons]
    show E adj _ + deg adj _ _ + _ + _ = _
    omega
  | one p d _ ih =>
    rw [E_perm hs p, p.length_eq, List.length_cons]
    show E adj _ + deg adj _ _ + _ + _ = _
    omega
theorem Elim.mem {S Z K : List α} (h : Elim adj S Z K) : (∀ z ∈ Z, z ∈ S) ∧ ∀ k ∈ K, k ∈ S := by
  induction h with
  | done p => exact ⟨fun z hz => (nomatch hz), fun k hk => p.mem_iff.mpr hk⟩
  | zero p d _ ih =>
    refine ⟨fun z hz => p.mem_iff.mpr ?_, fun k hk => p.mem_iff.mpr (List.mem_cons_of_mem _ (ih.2 k hk))⟩
    rcases List.mem_cons.mp hz with rfl | hz
    · exact List.mem_cons_self
    · exact List.mem_cons_of_mem _ (ih.1 z hz)
  | one p d _ ih => exact ⟨fun z hz => p.mem_iff.mpr (List.mem_cons_of_mem _ (ih.1 z hz)), fun k hk => p.mem_iff.mpr (List.mem_cons_of_mem _ (ih.2 k hk))⟩
theorem Elim.nodup {S Z K : List α} (h : Elim adj S Z K) (hS : S.Nodup) : Z.Nodup ∧ K.Nodup ∧ ∀ z ∈ Z, z ∉ K := by
  induction h with
  | done p => exact ⟨List.nodup_nil, p.nodup_iff.mp hS, fun z hz => nomatch hz⟩
  | zero p d e ih =>
    have q := List.nodup_cons.mp (p.nodup_iff.mp hS)
    obtain ⟨a, b, c⟩ := ih q.2
    refine ⟨List.nodup_cons.mpr ⟨fun hz => q.1 (e.mem.1 _ hz), a⟩, b, fun z hz => ?_⟩
    rcases List.mem_cons.mp hz with rfl | hz
    · exact fun hk => q.1 (e.mem.2 _ hk)
    · exact c z hz
  | one p d e ih =>
    have q := List.nodup_cons.mp (p.nodup_iff.mp hS)
    exact ih q.2
/-- each one comes to a root, or to one that stays -/
theorem Elim.root {S Z K : List α} (h : Elim adj S Z K) : ∀ x ∈ S, ∃ y, (y ∈ Z ∨ y ∈ K) ∧ Conn adj x y := by
  induction h with
  | done p => exact fun x hx => ⟨x, .inr (p.mem_iff.mp hx), .refl x⟩
  | zero p d _ ih =>
    intro x hx
    rcases List.mem_cons.mp (p.mem_iff.mp hx) with rfl | hx
    · exact ⟨x, .inl List.mem_cons_self, .refl x⟩
    · obtain ⟨y, hy, c⟩ := ih x hx
      exact ⟨y, hy.imp (List.mem_cons_of_mem _) id, c⟩
  | @one S S' Z K v p d _ ih =>
    intro x hx
    rcases List.mem_cons.mp (p.mem_iff.mp hx) with rfl | hx
    · have hp : 0 < (S'.filter (adj x)).length := by
        have : (S'.filter (adj x)).length = 1 := d
        omega
      obtain ⟨u, hu⟩ := List.exists_mem_of_length_pos hp
      obtain ⟨h1, h2⟩ := List.mem_filter.mp hu
      obtain ⟨y, hy, c⟩ := ih u h1
      exact ⟨y, hy, (Conn.one h2).trans c⟩
    · exact ih x hx
/-- a colour for each, the same along each tie; the roots have their own, those that stay none -/
theorem Elim.colour (hs : ∀ x y, adj x y = adj y x) (hi : ∀ x, adj x x = false) {S Z K : List α} (h : Elim adj S Z K) (hS : S.Nodup) :
    ∃ ρ : α → Option α, (∀ x ∈ S, ∀ y ∈ S, adj x y = true → ρ x = ρ y) ∧ (∀ z ∈ Z, ρ z = some z) ∧ ∀ k ∈ K, ρ k = none := by
  induction h with
  | done p => exact ⟨fun _ => none, fun _ _ _ _ _ => rfl, fun z hz => (nomatch hz), fun _ _ => rfl⟩
  | @zero S S' Z K v p d e ih =>
    have q := List.nodup_cons.mp (p.nodup_iff.mp hS)
    obtain ⟨ρ, h1, h2, h3⟩ := ih q.2
    have hne : ∀ x ∈ S', x ≠ v := fun x hx e => q.1 (e ▸ hx)
    have h0 : ∀ x ∈ S', adj v x = false := fun x hx => by
      have : (S'.filter (adj v)) = [] := List.length_eq_zero_iff.mp d
      have n : x ∉ S'.filter (adj v) := by rw [this]; exact fun z => nomatch z
      cases c : adj v x with
      | false => rfl
      | true => exact absurd (List.mem_filter.mpr ⟨hx, c⟩) n
    refine ⟨fun x => if x = v then some v else ρ x, fun x hx y hy a => ?_, fun z hz => ?_, fun k hk => ?_⟩
    · rcases List.mem_cons.mp (p.mem_iff.mp hx) with rfl | hx <;> rcases List.mem_cons.mp (p.mem_iff.mp hy) with rfl | hy
      · rfl
      · rw [h0 y hy] at a; cases a
      · rw [hs, h0 x hx] at a; cases a
      · simp only [if_neg (hne x hx), if_neg (hne y hy)]; exact h1 x hx y hy a
    · rcases List.mem_cons.mp hz with rfl | hz
      · simp
      · simp only [if_neg (hne z (e.mem.1 z hz))]; exact h2 z hz
    · simp only [if_neg (hne k (e.mem.2 k hk))]; exact h3 k hk
  | @one S S' Z K v p d e ih =>
    have q := List.nodup_cons.mp (p.nodup_iff.mp hS)
    obtain ⟨ρ, h1, h2, h3⟩ := ih q.2
    have hne : ∀ x ∈ S', x ≠ v := fun x hx e => q.1 (e ▸ hx)
    obtain ⟨u, hu⟩ := List.length_eq_one_iff.mp (show (S'.filter (adj v)).length = 1 from d)
    have h0 : ∀ x ∈ S', adj v x = true → x = u := fun x hx c => by
      have m : x ∈ S'.filter (adj v) := List.mem_filter.mpr ⟨hx, c⟩
      rw [hu] at m
      exact List.mem_singleton.mp m
    have hu' : u ∈ S' ∧ adj v u = true := List.mem_filter.mp (by rw [hu]; exact List.mem_singleton_self u)
    refine ⟨fun x => if x = v then ρ u else ρ x, fun x hx y hy a => ?_, fun z hz => ?_, fun k hk => ?_⟩
    · rcases List.mem_cons.mp (p.mem_iff.mp hx) with rfl | hx <;> rcases List.mem_cons.mp (p.mem_iff.mp hy) with rfl | hy
      · rfl
      · rw [h0 y hy a]
        simp only [if_neg (hne u hu'.1), if_true]
      · rw [hs] at a
        rw [h0 x hx a]
        simp only [if_neg (hne u hu'.1), if_true]
      · simp only [if_neg (hne x hx), if_neg (hne y hy)]; exact h1 x hx y hy a
    · simp only [if_neg (hne z (e.mem.1 z hz))]; exact h2 z hz
    · simp only [if_neg (hne k (e.mem.2 k hk))]; exact h3 k hk

/-! ### THE COUNT: there is one that stays exactly if there are more ties than copies less pieces -/
structure Reps (adj : α → α → Bool) (V : List α) (r : α → α) : Prop where
  mem : ∀ x ∈ V, r x ∈ V
  conn : ∀ x ∈ V, Conn adj x (r x)
  same : ∀ x ∈ V, ∀ y ∈ V, Conn adj x y → r x = r y
def fixed (V : List α) (r : α → α) : List α := V.filter fun x => decide (r x = x)
theorem Reps.idem {V : List α} {r : α → α} (R : Reps adj V r) {x : α} (hx : x ∈ V) : r (r x) = r x := (R.same x hx (r x) (R.mem x hx) (R.conn x hx)).symm
theorem Reps.fix {V : List α} {r : α → α} (R : Reps adj V r) {x : α} (hx : x ∈ V) : r x ∈ fixed V r := List.mem_filter.mpr ⟨R.mem x hx, decide_eq_true (R.idem hx)⟩
theorem core_iff (hs : ∀ x y, adj x y = adj y x) (hi : ∀ x, adj x x = false) {V K Z : List α} {r : α → α} (hV : V.Nodup) (hin : ∀ x y, adj x y = true → x ∈ V ∧ y ∈ V)
    (R : Reps adj V r) (el : Elim adj V Z K) (hK : ∀ x ∈ K, 2 ≤ deg adj K x) : V.length < E adj V + (fixed V r).length ↔ K ≠ [] := by
  have hc := el.count hs
  have hF : (fixed V r).Nodup := hV.filter _
  obtain ⟨hZ, hKn, _⟩ := el.nodup hV
  constructor
  · intro h e
    subst e
    have h1 : (fixed V r).length ≤ (Z.map r).length := nodup_le hF fun x hx => by
      obtain ⟨hxV, hxr⟩ := List.mem_filter.mp hx
      have hxr : r x = x := of_decide_eq_true hxr
      obtain ⟨y, hy, c⟩ := el.root x hxV
      rcases hy with hy | hy
      · refine List.mem_map.mpr ⟨y, hy, ?_⟩
        rw [← R.same x hxV y (el.mem.1 y hy) c, hxr]
      · cases hy
    rw [List.length_map] at h1
    have : E adj ([] : List α) = 0 := rfl
    rw [this] at hc
    simp at hc
    omega
  · intro h
    obtain ⟨ρ, h1, h2, h3⟩ := el.colour hs hi hV
    have hρ : ∀ x y, Conn adj x y → ρ x = ρ y := fun x y c => c.same fun a b e => h1 a (hin a b e).1 b (hin a b e).2 e
    obtain ⟨k, hk⟩ := List.exists_mem_of_ne_nil K h
    have hkV := el.mem.2 k hk
    have hl : (r k :: Z.map r).length ≤ (fixed V r).length := nodup_le (List.nodup_cons.mpr ⟨fun hm => ?_, ?_⟩) fun x hx => ?_
    · have hge := E_ge hs hi hK
      rw [List.length_cons, List.length_map] at hl
      omega
    · obtain ⟨z, hz, e⟩ := List.mem_map.mp hm
      have e1 : ρ k = ρ z := by
        rw [hρ k _ (R.conn k hkV), ← e, ← hρ z _ (R.conn z (el.mem.1 z hz))]
      rw [h2 z hz, h3 k hk] at e1
      cases e1
    · have aux : ∀ L : List α, L.Nodup → (∀ z ∈ L, z ∈ Z) → (L.map r).Nodup := by
        intro L
        induction L with
        | nil => exact fun _ _ => List.nodup_nil
        | cons a L ih =>
          intro hn hm
          have hn := List.nodup_cons.mp hn
          rw [List.map_cons]
          refine List.nodup_cons.mpr ⟨fun hm' => ?_, ih hn.2 fun z hz => hm z (List.mem_cons_of_mem _ hz)⟩
          obtain ⟨z, hz, e⟩ := List.mem_map.mp hm'
          have ha := hm a List.mem_cons_self
          have hz' := hm z (List.mem_cons_of_mem _ hz)
          have e1 : ρ a = ρ z := by
            rw [hρ a _ (R.conn a (el.mem.1 a ha)), ← e, ← hρ z _ (R.conn z (el.mem.1 z hz'))]
          rw [h2 z hz', h2 a ha] at e1
          exact hn.1 (Option.some.inj e1 ▸ hz)
      exact aux Z hZ fun _ hz => hz
    · rcases List.mem_cons.mp hx with rfl | hx
      · exact R.fix hkV
      · obtain ⟨z, hz, rfl⟩ := List.mem_map.mp hx
        exact R.fix (el.mem.1 z hz)
/-- one piece -/
theorem one_iff {V : List α} {r : α → α} (hV : V.Nodup) (R : Reps adj V r) {s : α} (hsV : s ∈ V) (hin : ∀ x y, adj x y = true → x ∈ V ∧ y ∈ V) (hs : ∀ x y, adj x y = adj y x) :
    (fixed V r).length = 1 ↔ ∀ x ∈ V, Conn adj s x := by
  have hF : (fixed V r).Nodup := hV.filter _
  constructor
  · intro h x hx
    obtain ⟨a, ha⟩ := List.length_eq_one_iff.mp h
    have h1 := R.fix hsV
    have h2 := R.fix hx
    rw [ha] at h1 h2
    have e : r s = r x := (List.mem_singleton.mp h1).trans (List.mem_singleton.mp h2).symm
    exact (R.conn s hsV).trans (by rw [e]; exact (R.conn x hx).symm hs)
  · intro h
    have h1 : (fixed V r).length ≤ [r s].length := nodup_le hF fun x hx => by
      obtain ⟨hxV, hxr⟩ := List.mem_filter.mp hx
      have hxr : r x = x := of_decide_eq_true hxr
      rw [← hxr, ← R.same s hsV x hxV (h x hxV)]
      exact List.mem_singleton_self _
    have h2 : 0 < (fixed V r).length := List.length_pos_of_mem (R.fix hsV)
    simp at h1
    omega
/-- the values of r, each once -/
theorem fixed_len {V D : List α} {r : α → α} (hV : V.Nodup) (R : Reps adj V r) (hD : D.Nodup) (h : ∀ x, x ∈ D ↔ x ∈ V.map r) : D.length = (fixed V r).length := by
  have hF : (fixed V r).Nodup := hV.filter _
  refine ((List.perm_ext_iff_of_nodup hD hF).mpr fun x => (h x).trans ⟨fun hx => ?_, fun hx => ?_⟩).length_eq
  · obtain ⟨y, hy, rfl⟩ := List.mem_map.mp hx
    exact R.fix hy
  · obtain ⟨h1, h2⟩ := List.mem_filter.mp hx
    exact List.mem_map.mpr ⟨x, h1, of_decide_eq_true h2⟩
end
end G81
namespace G81
section
variable {α : Type} [DecidableEq α] {adj : α → α → Bool} {V : List α}
def nbs (adj : α → α → Bool) (V : List α) (x : α) : List α := V.filter (adj x)
theorem mem_nbs (hin : ∀ x y, adj x y = true → x ∈ V ∧ y ∈ V) {x y : α} : y ∈ nbs adj V x ↔ adj x y = true := by
  unfold nbs
  rw [List.mem_filter]
  exact ⟨fun h => h.2, fun h => ⟨(hin x y h).2, h⟩⟩
def more (adj : α → α → Bool) (V : List α) (found : List α) (x : α) : List α := (nbs adj V x).filter fun y => !decide (y ∈ found)
theorem mem_more (hin : ∀ x y, adj x y = true → x ∈ V ∧ y ∈ V) {found : List α} {x y : α} : y ∈ more adj V found x ↔ adj x y = true ∧ y ∉ found := by
  unfold more
  rw [List.mem_filter, mem_nbs hin]
  simp
theorem more_nodup (hV : V.Nodup) (found : List α) (x : α) : (more adj V found x).Nodup := (hV.filter _).filter _

/-! ### found, further and further -/
structure Grow (adj : α → α → Bool) (V : List α) (s : α) (found : List α) : Prop where
  nd : found.Nodup
  src : s ∈ found
  inn : ∀ x ∈ found, x ∈ V ∧ Conn adj s x
theorem Grow.start {s : α} (h : s ∈ V) : Grow adj V s [s] := ⟨by simp, by simp, fun x hx => by
  obtain rfl := List.mem_singleton.mp hx
  exact ⟨h, .refl _⟩⟩
theorem Grow.step (hV : V.Nodup) (hin : ∀ x y, adj x y = true → x ∈ V ∧ y ∈ V) {s x : α} {found : List α} (g : Grow adj V s found) (hx : x ∈ found) : Grow adj V s (found ++ more adj V found x) := by
  refine ⟨List.nodup_append.mpr ⟨g.nd, more_nodup hV _ _, fun a ha b hb e => ?_⟩, List.mem_append_left _ g.src, fun y hy => ?_⟩
  · subst e
    exact ((mem_more hin).mp hb).2 ha
  · rcases List.mem_append.mp hy with hy | hy
    · exact g.inn y hy
    · have := ((mem_more hin).mp hy).1
      exact ⟨(hin _ _ this).2, .step (g.inn x hx).2 this⟩
theorem Grow.size {s : α} {found : List α} (g : Grow adj V s found) : found.length ≤ V.length := nodup_le g.nd fun x hx => (g.inn x hx).1
def Full (adj : α → α → Bool) (s : α) (found : List α) : Prop := ∀ y, Conn adj s y → y ∈ found
theorem full_of {s : α} {found : List α} (g : Grow adj V s found) (h : ∀ x ∈ found, ∀ y, adj x y = true → y ∈ found) : Full adj s found := fun _ c => c.in (fun x y hx a => h x hx y a) g.src

/-! ### web_reached -/
structure Reach (adj : α → α → Bool) (V : List α) (s : α) (found waiting : List α) : Prop where
  gr : Grow adj V s found
  sub : ∀ x ∈ waiting, x ∈ found
  cl : ∀ x ∈ found, x ∉ waiting → ∀ y, adj x y = true → y ∈ found
theorem Reach.start {s : α} (h : s ∈ V) : Reach adj V s [s] [s] := ⟨.start h, fun _ hx => hx, fun x hx n => absurd hx n⟩
theorem Reach.step (hV : V.Nodup) (hin : ∀ x y, adj x y = true → x ∈ V ∧ y ∈ V) {s x : α} {found w : List α} (r : Reach adj V s found (w ++ [x])) :
    Reach adj V s (found ++ more adj V found x) (w ++ more adj V found x) := by
  have hx : x ∈ found := r.sub x (by simp)
  refine ⟨r.gr.step hV hin hx, fun y hy => ?_, fun y hy n z a => ?_⟩
  · rcases List.mem_append.mp hy with hy | hy
    · exact List.mem_append_left _ (r.sub y (List.mem_append_left _ hy))
    · exact List.mem_append_right _ hy
  · rcases List.mem_append.mp hy with hy | hy
    · by_cases e : y = x
      · subst e
        by_cases hz : z ∈ found
        · exact List.mem_append_left _ hz
        · exact List.mem_append_right _ ((mem_more hin).mpr ⟨a, hz⟩)
      · refine List.mem_append_left _ (r.cl y hy (fun h => ?_) z a)
        rcases List.mem_append.mp h with h | h
        · exact n (List.mem_append_left _ h)
        · exact e (List.mem_singleton.mp h)
    · exact absurd (List.mem_append_right _ hy) n
theorem Reach.measure (hV : V.Nodup) (hin : ∀ x y, adj x y = true → x ∈ V ∧ y ∈ V) {s x : α} {found w : List α} (r : Reach adj V s found (w ++ [x])) :
    2 * (V.length - (found ++ more adj V found x).length) + (w ++ more adj V found x).length < 2 * (V.length - found.length) + (w ++ [x]).length := by
  have h1 := (r.step hV hin).gr.size
  simp only [List.length_append, List.length_singleton] at h1 ⊢
  omega
theorem Reach.len (hV : V.Nodup) {s : α} {found : List α} (r : Reach adj V s found []) : found.length = V.length ↔ ∀ x ∈ V, Conn adj s x := by
  have hf : Full adj s found := full_of r.gr fun x hx => r.cl x hx fun z => nomatch z
  constructor
  · intro e x hx
    exact (r.gr.inn x (nodup_all r.gr.nd hV (fun y hy => (r.gr.inn y hy).1) (by omega) x hx)).2
  · intro h
    have h1 := r.gr.size
    have h2 : V.length ≤ found.length := nodup_le hV fun x hx => hf x (h x hx)
    omega

/-! ### the law's pieces: six turns -/
/-- within a turn: those of the first i of F0 are in -/
structure Turn (adj : α → α → Bool) (V : List α) (s : α) (F0 : List α) (i : Nat) (found : List α) : Prop where
  gr : Grow adj V s found
  old : ∀ x ∈ F0, x ∈ found
  nbr : ∀ x ∈ F0.take i, ∀ y, adj x y = true → y ∈ found
theorem Turn.start {s : α} {F0 : List α} (g : Grow adj V s F0) : Turn adj V s F0 0 F0 := ⟨g, fun _ h => h, fun x h => by simp at h⟩
theorem Turn.step (hV : V.Nodup) (hin : ∀ x y, adj x y = true → x ∈ V ∧ y ∈ V) {s x : α} {F0 found : List α} {i : Nat} (t : Turn adj V s F0 i found) (hx : F0[i]? = some x) :
    Turn adj V s F0 (i + 1) (found ++ more adj V found x) := by
  have hm : x ∈ F0 := List.mem_of_getElem? hx
  refine ⟨t.gr.step hV hin (t.old x hm), fun y hy => List.mem_append_left _ (t.old y hy), fun y hy z a => ?_⟩
  rw [List.take_add_one, hx] at hy
  rcases List.mem_append.mp hy with hy | hy
  · exact List.mem_append_left _ (t.nbr y hy z a)
  · have hy : y ∈ [x] := hy
    obtain rfl := List.mem_singleton.mp hy
    by_cases hz : z ∈ found
    · exact List.mem_append_left _ hz
    · exact List.mem_append_right _ ((mem_more hin).mpr ⟨a, hz⟩)
def Six (adj : α → α → Bool) (V : List α) (s : α) (t : Nat) (found : List α) : Prop := Grow adj V s found ∧ (Full adj s found ∨ t + 1 ≤ found.length)
theorem Six.start {s : α} (h : s ∈ V) : Six adj V s 0 [s] := ⟨.start h, .inr (by simp)⟩
theorem Six.next {s : α} {F0 found : List α} {t : Nat} (h : Six adj V s t F0) (u : Turn adj V s F0 F0.length found) : Six adj V s (t + 1) found := by
  refine ⟨u.gr, ?_⟩
  rcases h.2 with f | l
  · exact .inl fun y c => u.old y (f y c)
  · by_cases hl : found.length ≤ F0.length
    · have hall := nodup_all h.1.nd u.gr.nd u.old hl
      refine .inl fun y c => u.old y (full_of h.1 (fun x hx z a => ?_) y c)
      exact hall z (u.nbr x (by rw [List.take_length]; exact hx) z a)
    · exact .inr (by omega)
theorem Six.full (hV : V.length ≤ 6) {s : α} {found : List α} (h : Six adj V s 6 found) : Full adj s found := by
  rcases h.2 with f | l
  · exact f
  · have := h.1.size
    omega

/-! ### the least of a piece -/
open Classical in
noncomputable def comp (adj : α → α → Bool) (V : List α) (x : α) : List α := V.filter fun y => decide (Conn adj x y)
theorem mem_comp {x y : α} : y ∈ comp adj V x ↔ y ∈ V ∧ Conn adj x y := by
  unfold comp
  rw [List.mem_filter]
  simp
noncomputable def rep (adj : α → α → Bool) (V : List α) (x : α) : α := (comp adj V x).headD x
theorem comp_head {x : α} (hx : x ∈ V) : ∃ r, comp adj V x = rep adj V x :: r := by
  have h : x ∈ comp adj V x := mem_comp.mpr ⟨hx, .refl x⟩
  unfold rep
  cases e : comp adj V x with
  | nil => rw [e] at h; cases h
  | cons a r => exact ⟨r, rfl⟩
theorem reps (hs : ∀ x y, adj x y = adj y x) : Reps adj V (rep adj V) := by
  have h0 : ∀ x ∈ V, rep adj V x ∈ comp adj V x := fun x hx => by
    obtain ⟨r, e⟩ := comp_head (adj := adj) hx
    rw [e]
    exact List.mem_cons_self
  refine ⟨fun x hx => (mem_comp.mp (h0 x hx)).1, fun x hx => (mem_comp.mp (h0 x hx)).2, fun x hx y hy c => ?_⟩
  have e : comp adj V x = comp adj V y := by
    unfold comp
    congr 1
    funext z
    exact decide_eq_decide.mpr ⟨fun k => (c.symm hs).trans k, fun k => c.trans k⟩
  obtain ⟨r, e1⟩ := comp_head (adj := adj) hx
  obtain ⟨r', e2⟩ := comp_head (adj := adj) hy
  rw [e, e2] at e1
  exact (List.cons.inj e1).1.symm
theorem comp_perm (hV : V.Nodup) {s : α} {found : List α} (g : Grow adj V s found) (f : Full adj s found) : found.Perm (comp adj V s) :=
  (List.perm_ext_iff_of_nodup g.nd (hV.filter _)).mpr fun _ => ⟨fun h => mem_comp.mpr (g.inn _ h), fun h => f _ (mem_comp.mp h).2⟩

/-! ### web_kept -/
def keep (adj : α → α → Bool) (V late : List α) : List α := late.filter fun x => decide (1 < ((nbs adj V x).filter fun y => decide (y ∈ late)).length)
theorem deg_late (hV : V.Nodup) {late : List α} (hl : late.Nodup) (hs : ∀ x ∈ late, x ∈ V) (x : α) : ((nbs adj V x).filter fun y => decide (y ∈ late)).length = deg adj late x := by
  refine ((List.perm_ext_iff_of_nodup ((hV.filter _).filter _) (hl.filter _)).mpr fun y => ?_).length_eq
  simp only [List.mem_filter, decide_eq_true_eq]
  exact ⟨fun h => ⟨h.2, h.1.2⟩, fun h => ⟨⟨hs y h.1, h.2⟩, h.1⟩⟩
theorem keep_eq (hV : V.Nodup) {late : List α} (hl : late.Nodup) (hs : ∀ x ∈ late, x ∈ V) : keep adj V late = late.filter fun x => decide (1 < deg adj late x) := by
  unfold keep
  congr 1
  funext x
  rw [deg_late hV hl hs]
structure Kept (adj : α → α → Bool) (V kept late : List α) : Prop where
  el : ∃ Z, Elim adj V Z kept
  nd : kept.Nodup
  sub : ∀ x ∈ kept, x ∈ V
  way : (kept = V ∧ late = []) ∨ (kept = keep adj V late ∧ kept = late.filter fun x => decide (1 < deg adj late x))
theorem Kept.start (hV : V.Nodup) : Kept adj V V [] := ⟨⟨[], .done (List.Perm.refl _)⟩, hV, fun _ h => h, .inl ⟨rfl, rfl⟩⟩
theorem Kept.step (hi : ∀ x, adj x x = false) (hV : V.Nodup) {kept late : List α} (k : Kept adj V kept late) : Kept adj V (keep adj V kept) kept := by
  have e := keep_eq (adj := adj) hV k.nd k.sub
  obtain ⟨Z, hZ⟩ := k.el
  obtain ⟨Z', hZ'⟩ := elim_round hi kept
  refine ⟨⟨Z ++ Z', ?_⟩, ?_, fun x hx => ?_, .inr ⟨rfl, e⟩⟩
  · rw [e]; exact hZ.trans hZ'
  · rw [e]; exact k.nd.filter _
  · rw [e] at hx; exact k.sub x (List.mem_filter.mp hx).1
def keptM (V kept late : List α) : Nat := if late = [] ∧ kept = V then V.length + 1 else late.length
theorem Kept.measure (hi : ∀ x, adj x x = false) (hV : V.Nodup) (hne0 : V ≠ []) {kept late : List α} (k : Kept adj V kept late) (hne : kept ≠ late) : keptM V (keep adj V kept) kept < keptM V kept late := by
  have hk : kept.length ≤ V.length := nodup_le k.nd k.sub
  have h1 : keptM V (keep adj V kept) kept ≤ kept.length ∨ (kept = [] ∧ V = []) := by
    unfold keptM
    by_cases e : kept = [] ∧ keep adj V kept = V
    · obtain ⟨e1, e2⟩ := e
      subst e1
      exact .inr ⟨rfl, e2.symm⟩
    · rw [if_neg e]; exact .inl (Nat.le_refl _)
  rcases k.way with ⟨e1, e2⟩ | ⟨_, e⟩
  · subst e1; subst e2
    rcases h1 with h1 | ⟨e, _⟩
    · have : keptM kept kept [] = kept.length + 1 := if_pos ⟨rfl, rfl⟩
      omega
    · exact absurd e hne
  · have hlt : kept.length < late.length := by
      refine Nat.lt_of_le_of_ne ?_ fun q => hne ?_
      · rw [e]; exact List.length_filter_le _ _
      · rw [e] at q ⊢
        exact List.filter_eq_self.mpr (List.length_filter_eq_length_iff.mp q)
    have hl : late ≠ [] := fun z => by rw [z] at hlt; simp at hlt
    have h2 : keptM V kept late = late.length := if_neg fun z => hl z.1
    rcases h1 with h1 | ⟨e1, e2⟩
    · omega
    · exact absurd e2 hne0
structure Core (adj : α → α → Bool) (V K : List α) : Prop where
  el : ∃ Z, Elim adj V Z K
  nd : K.Nodup
  sub : ∀ x ∈ K, x ∈ V
  two : ∀ x ∈ K, 2 ≤ deg adj K x
theorem Kept.done (hne : V ≠ []) {kept : List α} (k : Kept adj V kept kept) : Core adj V kept := by
  refine ⟨k.el, k.nd, k.sub, fun x hx => ?_⟩
  rcases k.way with ⟨e1, e2⟩ | ⟨_, e⟩
  · exact absurd (e1.symm.trans e2) hne
  · rw [e] at hx
    have := of_decide_eq_true (List.mem_filter.mp hx).2
    exact this
end
end G81
namespace G81
/-! ### a ring -/
section
variable {α : Type} [DecidableEq α] {adj : α → α → Bool} {V K : List α}
def linked (adj : α → α → Bool) (l : List α) : Prop := ∀ (i : Nat) (x y : α), l[i]? = some x → l[i + 1]? = some y → adj x y = true
structure Path (adj : α → α → Bool) (K path : List α) : Prop where
  ne : path ≠ []
  nd : path.Nodup
  inn : ∀ x ∈ path, x ∈ K
  lk : linked adj path
theorem Path.start {k : α} (h : k ∈ K) : Path adj K [k] := ⟨by simp, by simp, fun x hx => by
  obtain rfl := List.mem_singleton.mp hx
  exact h, fun i x y _ h2 => by simp at h2⟩
/-- path[-2:-1] -/
def ahead (path : List α) : List α := (path.drop (path.length - 2)).take (path.length - 1 - (path.length - 2))
theorem ahead_len (path : List α) : (ahead path).length ≤ 1 := by
  unfold ahead
  rw [List.length_take, List.length_drop]
  omega
theorem ahead_at {path : List α} {i : Nat} {x : α} (h : path[i]? = some x) (hi : i + 2 = path.length) : x ∈ ahead path := by
  unfold ahead
  have e : path.length - 2 = i := by omega
  rw [e]
  have e2 : path.length - 1 - i = 1 := by omega
  rw [e2]
  refine List.mem_of_getElem? (i := 0) ?_
  rw [List.getElem?_take, if_pos (by decide), List.getElem?_drop]
  exact h
def cand (adj : α → α → Bool) (V K path : List α) (last : α) : List α := (nbs adj V last).filter fun y => decide (y ∈ K) && !decide (y ∈ ahead path)
theorem cand_ne (c : Core adj V K) {path : List α} {last : α} (h : last ∈ K) : cand adj V K path last ≠ [] := fun e => by
  have hd := c.two last h
  have h1 : (K.filter (adj last)).length ≤ (ahead path).length := nodup_le (c.nd.filter _) fun x hx => by
    obtain ⟨hk, ha⟩ := List.mem_filter.mp hx
    refine Classical.byContradiction fun hn => ?_
    have : x ∈ cand adj V K path last := List.mem_filter.mpr ⟨List.mem_filter.mpr ⟨c.sub x hk, ha⟩, by simp [hk, hn]⟩
    rw [e] at this
    cases this
  have h2 := ahead_len path
  have h3 : 2 ≤ (K.filter (adj last)).length := hd
  omega
theorem mem_cand {path : List α} {last x : α} (h : x ∈ cand adj V K path last) : adj last x = true ∧ x ∈ K ∧ x ∉ ahead path := by
  obtain ⟨h1, h2⟩ := List.mem_filter.mp h
  have := (List.mem_filter.mp h1).2
  simp at h2
  exact ⟨this, h2⟩
theorem Path.step {path : List α} {last x : α} (p : Path adj K path) (hl : path[path.length - 1]? = some last) (hx : x ∈ cand adj V K path last) (hn : x ∉ path) : Path adj K (path ++ [x]) := by
  obtain ⟨h1, h2, _⟩ := mem_cand hx
  refine ⟨by simp, List.nodup_append.mpr ⟨p.nd, by simp, fun a ha b hb e => ?_⟩, fun y hy => ?_, fun i y z e1 e2 => ?_⟩
  · obtain rfl := List.mem_singleton.mp hb
    subst e
    exact hn ha
  · rcases List.mem_append.mp hy with hy | hy
    · exact p.inn y hy
    · obtain rfl := List.mem_singleton.mp hy
      exact h2
  · have hlt : i + 1 < (path ++ [x]).length := (List.getElem?_eq_some_iff.mp e2).1
    rw [List.length_append, List.length_singleton] at hlt
    rw [List.getElem?_append_left (by omega)] at e1
    by_cases hi : i + 1 < path.length
    · rw [List.getElem?_append_left hi] at e2
      exact p.lk i y z e1 e2
    · have e3 : i = path.length - 1 := by omega
      rw [e3, hl] at e1
      rw [show i + 1 = path.length by omega, List.getElem?_append_right (Nat.le_refl _), Nat.sub_self] at e2
      have e1 := Option.some.inj e1
      have e2 : x = z := Option.some.inj e2
      rw [← e1, ← e2]
      exact h1
theorem Path.size (c : Core adj V K) {path : List α} (p : Path adj K path) : path.length ≤ V.length := nodup_le p.nd fun x hx => c.sub x (p.inn x hx)
structure Ring (adj : α → α → Bool) (R : List α) : Prop where
  three : 3 ≤ R.length
  nd : R.Nodup
  lk : linked adj R
  back : ∀ x y, R[0]? = some x → R[R.length - 1]? = some y → adj y x = true
theorem Path.ring (hi : ∀ x, adj x x = false) {path : List α} {last x : α} {i : Nat} (p : Path adj K path) (hl : path[path.length - 1]? = some last) (hx : x ∈ cand adj V K path last) (hx2 : path[i]? = some x) : Ring adj (path.drop i) := by
  obtain ⟨h1, h2, h3⟩ := mem_cand hx
  have hlt : i < path.length := (List.getElem?_eq_some_iff.mp hx2).1
  have n1 : i ≠ path.length - 1 := fun e => by
    rw [e, hl] at hx2
    have := Option.some.inj hx2
    rw [this, hi] at h1
    cases h1
  have n2 : i + 2 ≠ path.length := fun e => h3 (ahead_at hx2 e)
  refine ⟨by rw [List.length_drop]; omega, ?_, fun j y z e1 e2 => ?_, fun y z e1 e2 => ?_⟩
  · exact List.Sublist.nodup (List.drop_sublist _ _) p.nd
  · rw [List.getElem?_drop] at e1 e2
    exact p.lk (i + j) y z e1 e2
  · rw [List.getElem?_drop] at e1 e2
    rw [List.length_drop, show i + (path.length - i - 1) = path.length - 1 by omega, hl] at e2
    rw [Nat.add_zero, hx2] at e1
    rw [← Option.some.inj e1, ← Option.some.inj e2]
    exact h1
end

/-! ### ties -/
abbrev Tie := Int × Int
def vs (n : Nat) : List Int := (List.range n).map fun (k : Nat) => (k : Int)
theorem mem_vs {n : Nat} {x : Int} : x ∈ vs n ↔ 0 ≤ x ∧ x < n := by
  unfold vs
  rw [List.mem_map]
  constructor
  · rintro ⟨k, hk, rfl⟩
    have := List.mem_range.mp hk
    omega
  · intro h
    exact ⟨x.toNat, List.mem_range.mpr (by omega), by omega⟩
theorem vs_lt (n : Nat) : (vs n).Pairwise (· < ·) := by
  unfold vs
  rw [List.pairwise_map]
  refine List.Pairwise.imp (fun {a b} h => ?_) (List.pairwise_lt_range (n := n))
  omega
theorem lt_nodup {l : List Int} (h : l.Pairwise (· < ·)) : l.Nodup := h.imp fun {a b} h e => by omega
theorem lt_le {l : List Int} (h : l.Pairwise (· < ·)) : l.Pairwise (· ≤ ·) := h.imp fun {a b} h => by omega
theorem vs_nodup (n : Nat) : (vs n).Nodup := lt_nodup (vs_lt n)
theorem vs_len (n : Nat) : (vs n).length = n := by unfold vs; simp
theorem sorted_one {l l' : List Int} (p : l.Perm l') (h : l.Pairwise (· ≤ ·)) (h' : l'.Pairwise (· ≤ ·)) : l = l' :=
  List.Perm.eq_of_pairwise (le := (· ≤ ·)) (fun a b _ _ x y => by omega) h h' p
def adjT (T : List Tie) (a b : Int) : Bool := decide ((a, b) ∈ T) || decide ((b, a) ∈ T)
theorem adjT_iff {T : List Tie} {a b : Int} : adjT T a b = true ↔ (a, b) ∈ T ∨ (b, a) ∈ T := by unfold adjT; simp
theorem adjT_symm (T : List Tie) (a b : Int) : adjT T a b = adjT T b a := by unfold adjT; rw [Bool.or_comm]
theorem adjT_perm {T T' : List Tie} (p : T.Perm T') : adjT T = adjT T' := by
  funext a b
  unfold adjT
  rw [decide_eq_decide.mpr (p.mem_iff (a := (a, b))), decide_eq_decide.mpr (p.mem_iff (a := (b, a)))]
structure Good (n : Nat) (T : List Tie) : Prop where
  nd : T.Nodup
  ok : ∀ p ∈ T, 0 ≤ p.1 ∧ p.1 < p.2 ∧ p.2 < n
theorem Good.perm {n : Nat} {T T' : List Tie} (g : Good n T) (p : T.Perm T') : Good n T' := ⟨p.nodup_iff.mp g.nd, fun q hq => g.ok q (p.mem_iff.mpr hq)⟩
section
variable {n : Nat} {T : List Tie}
theorem Good.irr (g : Good n T) (a : Int) : adjT T a a = false := by
  cases h : adjT T a a with
  | false => rfl
  | true =>
    rcases adjT_iff.mp h with h | h <;> have := g.ok _ h <;> simp at this
theorem Good.inn (g : Good n T) (a b : Int) (h : adjT T a b = true) : a ∈ vs n ∧ b ∈ vs n := by
  rw [mem_vs, mem_vs]
  rcases adjT_iff.mp h with h | h <;> have := g.ok _ h <;> simp at this <;> omega
theorem count_at {S : List Int} {v : Int} (g : Good n T) (hS : S.Nodup) (hlt : ∀ x ∈ S, v < x) : (T.filter fun p => decide (p.1 = v) && decide (p.2 ∈ S)).length = deg (adjT T) S v := by
  have e : ((T.filter fun p => decide (p.1 = v) && decide (p.2 ∈ S)).map (·.2)).Perm (S.filter (adjT T v)) := by
    refine (List.perm_ext_iff_of_nodup ?_ (hS.filter _)).mpr fun y => ?_
    · have hn := g.nd.filter fun p : Tie => decide (p.1 = v) && decide (p.2 ∈ S)
      refine (List.pairwise_map).mpr ?_
      refine List.Pairwise.imp_of_mem ?_ hn
      intro a b ha hb hne e
      have h1 := (List.mem_filter.mp ha).2
      have h2 := (List.mem_filter.mp hb).2
      simp at h1 h2
      exact hne (Prod.ext (h1.1.trans h2.1.symm) e)
    · rw [List.mem_map, List.mem_filter, adjT_iff]
      constructor
      · rintro ⟨p, hp, rfl⟩
        obtain ⟨h1, h2⟩ := List.mem_filter.mp hp
        simp at h2
        refine ⟨h2.2, .inl ?_⟩
        rw [← h2.1]
        exact h1
      · rintro ⟨h1, h2 | h2⟩
        · exact ⟨(v, y), List.mem_filter.mpr ⟨h2, by simp [h1]⟩, rfl⟩
        · have := g.ok _ h2
          have := hlt y h1
          simp at *
          omega
  have := e.length_eq
  rw [List.length_map] at this
  exact this
theorem E_within (g : Good n T) : ∀ {S : List Int}, S.Pairwise (· < ·) → E (adjT T) S = (T.filter fun p => decide (p.1 ∈ S) && decide (p.2 ∈ S)).length
  | [], _ => by
    show 0 = (T.filter fun p => decide (p.1 ∈ ([] : List Int)) && decide (p.2 ∈ ([] : List Int))).length
    rw [List.filter_eq_nil_iff.mpr (by simp)]
    rfl
  | v :: S, h => by
    obtain ⟨h1, h2⟩ := List.pairwise_cons.mp h
    show E (adjT T) S + deg (adjT T) S v = _
    rw [E_within g h2, ← count_at g (lt_nodup h2) h1]
    have key : ∀ L : List Tie, (∀ p ∈ L, p.1 < p.2) → (L.filter fun p => decide (p.1 ∈ S) && decide (p.2 ∈ S)).length + (L.filter fun p => decide (p.1 = v) && decide (p.2 ∈ S)).length
        = (L.filter fun p => decide (p.1 ∈ v :: S) && decide (p.2 ∈ v :: S)).length := by
      intro L
      induction L with
      | nil => exact fun _ => rfl
      | cons p L ih =>
        intro hL
        have ih := ih fun q hq => hL q (List.mem_cons_of_mem _ hq)
        have hp := hL p List.mem_cons_self
        rw [List.filter_cons, List.filter_cons, List.filter_cons]
        have hb : (decide (p.1 ∈ v :: S) && decide (p.2 ∈ v :: S)) = ((decide (p.1 ∈ S) && decide (p.2 ∈ S)) || (decide (p.1 = v) && decide (p.2 ∈ S))) := by
          by_cases a1 : p.1 ∈ S <;> by_cases a2 : p.2 ∈ S <;> by_cases a3 : p.1 = v <;> by_cases a4 : p.2 = v <;> simp [a1, a2, a3, a4]
          all_goals first
            | (have := h1 _ a1; omega)
            | omega
        rw [hb]
        have hne : (decide (p.1 ∈ S) && decide (p.2 ∈ S)) = true → (decide (p.1 = v) && decide (p.2 ∈ S)) = false := fun e => by
          simp at e
          have := h1 _ e.1
          have hnv : ¬ p.1 = v := by omega
          simp [hnv]
        cases c1 : (decide (p.1 ∈ S) && decide (p.2 ∈ S)) with
        | true =>
          rw [hne c1]
          simp only [Bool.or_false, if_true, List.length_cons, Bool.false_eq_true, if_false]
          omega
        | false =>
          cases c2 : (decide (p.1 = v) && decide (p.2 ∈ S)) with
          | true => simp only [Bool.or_true, if_true, List.length_cons, Bool.false_eq_true, if_false]; omega
          | false => simp only [Bool.or_false, Bool.false_eq_true, if_false]; omega
    exact key T fun p hp => (g.ok p hp).2.1
theorem Good.E (g : Good n T) : G81.E (adjT T) (vs n) = T.length := by
  rw [E_within g (vs_lt n)]
  congr 1
  refine List.filter_eq_self.mpr fun p hp => ?_
  have := g.ok p hp
  have h1 : p.1 ∈ vs n := mem_vs.mpr (by omega)
  have h2 : p.2 ∈ vs n := mem_vs.mpr (by omega)
  simp [h1, h2]
def highs (T : List Tie) (c : Int) : List Int := (T.filter fun p => decide (p.1 = c)).map (·.2)
def lows (T : List Tie) (c : Int) : List Int := (T.filter fun p => decide (p.2 = c)).map (·.1)
theorem mem_highs {c x : Int} : x ∈ highs T c ↔ (c, x) ∈ T := by
  unfold highs
  rw [List.mem_map]
  constructor
  · rintro ⟨p, hp, rfl⟩
    obtain ⟨h1, h2⟩ := List.mem_filter.mp hp
    simp at h2
    rw [← h2]
    exact h1
  · intro h
    exact ⟨(c, x), List.mem_filter.mpr ⟨h, by simp⟩, rfl⟩
theorem mem_lows {c x : Int} : x ∈ lows T c ↔ (x, c) ∈ T := by
  unfold lows
  rw [List.mem_map]
  constructor
  · rintro ⟨p, hp, rfl⟩
    obtain ⟨h1, h2⟩ := List.mem_filter.mp hp
    simp at h2
    rw [← h2]
    exact h1
  · intro h
    exact ⟨(x, c), List.mem_filter.mpr ⟨h, by simp⟩, rfl⟩
theorem highs_nodup (h : T.Nodup) (c : Int) : (highs T c).Nodup := by
  unfold highs
  refine (List.pairwise_map).mpr (List.Pairwise.imp_of_mem ?_ (h.filter _))
  intro a b ha hb hne e
  have h1 := (List.mem_filter.mp ha).2
  have h2 := (List.mem_filter.mp hb).2
  simp at h1 h2
  exact hne (Prod.ext (h1.trans h2.symm) e)
theorem lows_nodup (h : T.Nodup) (c : Int) : (lows T c).Nodup := by
  unfold lows
  refine (List.pairwise_map).mpr (List.Pairwise.imp_of_mem ?_ (h.filter _))
  intro a b ha hb hne e
  have h1 := (List.mem_filter.mp ha).2
  have h2 := (List.mem_filter.mp hb).2
  simp at h1 h2
  exact hne (Prod.ext e (h1.trans h2.symm))
/-- the neighbours of c -/
def nb (n : Nat) (T : List Tie) (c : Int) : List Int := nbs (adjT T) (vs n) c
theorem nb_lt (n : Nat) (T : List Tie) (c : Int) : (nb n T c).Pairwise (· < ·) := (vs_lt n).filter _
theorem near_eq (g : Good n T) (c : Int) {l : List Int} (p : l.Perm (highs T c ++ lows T c)) (h : l.Pairwise (· ≤ ·)) : l = nb n T c := by
  refine sorted_one (p.trans ((List.perm_ext_iff_of_nodup ?_ (lt_nodup (nb_lt n T c))).mpr fun x => ?_)) h (lt_le (nb_lt n T c))
  · refine List.nodup_append.mpr ⟨highs_nodup g.nd c, lows_nodup g.nd c, fun a ha b hb e => ?_⟩
    subst e
    have h1 := g.ok _ (mem_highs.mp ha)
    have h2 := g.ok _ (mem_lows.mp hb)
    simp at h1 h2
    omega
  · rw [List.mem_append, mem_highs, mem_lows, show nb n T c = nbs (adjT T) (vs n) c from rfl, mem_nbs g.inn, adjT_iff]
theorem near_eq' (g : Good n T) (c : Int) {l : List Int} (p : l.Perm (lows T c ++ highs T c)) (h : l.Pairwise (· ≤ ·)) : l = nb n T c := near_eq g c (p.trans List.perm_append_comm) h
end
/-! ### sorted ties -/
def tieLt (p q : Tie) : Prop := p.1 < q.1 ∨ (p.1 = q.1 ∧ p.2 < q.2)
theorem ties_one {T T' : List Tie} (p : T'.Perm T) (h : T.Pairwise tieLt) (h' : T'.Pairwise fun a b => ¬ tieLt b a) : T' = T := by
  refine List.Perm.eq_of_pairwise (le := fun a b => ¬ tieLt b a) (fun a b _ _ x y => ?_) h' (h.imp fun {a b} k => ?_) p
  · unfold tieLt at x y
    refine Prod.ext ?_ ?_ <;> omega
  · unfold tieLt at k ⊢
    omega
theorem tieLt_nodup {T : List Tie} (h : T.Pairwise tieLt) : T.Nodup := h.imp fun {a b} k e => by
  subst e
  unfold tieLt at k
  omega
end G81

namespace K81
open PySem PySem.Spec PyProof.Rows L2
/-! ### heaps -/
theorem same_upd {H : Hp} {p : Addr} {o : HO} (h : H p = none) : Same H (upd H p o) := fun b x e => by
  rw [upd_ne (ne_of_none e h)]
  exact e
theorem same_to {H H' : Hp} {p : Addr} {o : HO} (s : Same H H') (h : H p = none) : Same H (upd H' p o) := fun b x e => by
  rw [upd_ne (ne_of_none e h)]
  exact s b x e
theorem same_new {H H' : Hp} {p : Addr} {o : HO} (s : Same H H') (h : H' p = none) : Same H (upd H' p o) := L2.Same.trans s (same_upd h)
theorem same_tup {K : PySem.W.Frag} {H H' : Hp} {a : Addr} {xs : List V} (e : Same H H') (h : SqT K H a xs) : SqT K H' a xs := by
  rcases h with (h | ⟨o, h⟩) | h
  · exact .inl (.inl (e _ _ h))
  · exact .inl (.inr ⟨o, e _ _ h⟩)
  · exact .inr h

/-! ### what a comprehension has made so far: of the first i of T, those for which g gives something -/
structure Acc {β γ : Type} (e : γ → V) (g : β → Option γ) (T : List β) (H1 : Hp) (D : Addr) (i : Nat) (H : Hp) : Prop where
  same : Same H1 H
  put : H D = some (.lst (((T.take i).filterMap g).map e))
section
variable {β γ : Type} {e : γ → V} {g : β → Option γ} {T : List β} {H1 H H' : Hp} {D : Addr} {i : Nat} {x : β} {y : γ}
theorem Acc.start (h : H1 D = none) : Acc e g T H1 D 0 (upd H1 D (.lst [])) := ⟨same_upd h, upd_same⟩
theorem Acc.more (a : Acc e g T H1 D i H) (h : H1 D = none) (hx : T[i]? = some x) (s : Same H H') (hy : g x = some y) (hl : T.length < sizeLine) :
    ∃ acc, H' D = some (.lst acc) ∧ acc.length < sizeLine ∧ Acc e g T H1 D (i + 1) (upd H' D (.lst (acc ++ [e y]))) := by
  refine ⟨_, s _ _ a.put, ?_, same_to (a.same.trans s) h, ?_⟩
  · rw [List.length_map]
    exact Nat.lt_of_le_of_lt (Nat.le_trans (List.length_filterMap_le _ _) (by rw [List.length_take]; exact Nat.min_le_right _ _)) hl
  · rw [upd_same, List.take_add_one, hx, List.filterMap_append, List.map_append]
    show some (HO.lst _) = some (HO.lst (_ ++ (([x].filterMap g).map e)))
    rw [List.filterMap_cons, hy]
    rfl
theorem Acc.less (a : Acc e g T H1 D i H) (hx : T[i]? = some x) (s : Same H H') (hy : g x = none) : Acc e g T H1 D (i + 1) H' := by
  refine ⟨a.same.trans s, ?_⟩
  rw [List.take_add_one, hx, List.filterMap_append]
  show H' D = some (HO.lst ((_ ++ ([x].filterMap g)).map e))
  rw [List.filterMap_cons, hy, List.filterMap_nil, List.append_nil]
  exact s _ _ a.put
theorem Acc.done (a : Acc e g T H1 D T.length H) : Same H1 H ∧ H D = some (.lst ((T.filterMap g).map e)) := by
  have := a.put
  rw [List.take_length] at this
  exact ⟨a.same, this⟩
end
theorem filter_fm {α : Type} (p : α → Bool) (l : List α) : l.filterMap (fun x => if p x = true then some x else none) = l.filter p := by
  induction l with
  | nil => rfl
  | cons x l ih =>
    rw [List.filterMap_cons, List.filter_cons]
    by_cases h : p x = true
    · rw [if_pos h, if_pos h, ih]
    · rw [if_neg h, if_neg h, ih]
theorem all_fm {α β : Type} (f : α → β) (l : List α) : l.filterMap (fun x => some (f x)) = l.map f := by
  induction l with
  | nil => rfl
  | cons x l ih => rw [List.filterMap_cons, ih]; rfl

/-! ### ties in the heap -/
abbrev Tie := Int × Int
def TieV (H : Hp) (v : V) (p : Tie) : Prop := ∃ t, v = .ref t ∧ H t = some (.tup [.int p.1, .int p.2])
abbrev Ties (H : Hp) : List V → List Tie → Prop := Paired (TieV H)
theorem TieV.same {H H' : Hp} {v : V} {p : Tie} (s : Same H H') (h : TieV H v p) : TieV H' v p := by
  obtain ⟨t, e, q⟩ := h
  exact ⟨t, e, s _ _ q⟩
theorem Ties.same {H H' : Hp} {xs : List V} {T : List Tie} (s : Same H H') (h : Ties H xs T) : Ties H' xs T := Paired.mapP h fun _ _ q => q.same s
theorem paired_at {α β : Type} {F : α → β → Prop} : ∀ {xs : List α} {ys : List β} {i : Nat} {x : α}, Paired F xs ys → xs[i]? = some x → ∃ y, ys[i]? = some y ∧ F x y
  | _, _, _, _, .nil, e => by simp at e
  | _, _, 0, _, .cons r _, e => by simp at e; subst e; exact ⟨_, rfl, r⟩
  | _, _, i + 1, x, .cons _ t, e => by
    obtain ⟨y, h1, h2⟩ := paired_at (i := i) (x := x) t (by simpa using e)
    exact ⟨y, by simpa using h1, h2⟩
theorem paired_take {α β : Type} {F : α → β → Prop} : ∀ {xs : List α} {ys : List β} (n : Nat), Paired F xs ys → Paired F (xs.take n) (ys.take n)
  | _, _, 0, _ => .nil
  | _, _, _ + 1, .nil => .nil
  | _, _, n + 1, .cons r t => .cons r (paired_take n t)
theorem paired_append {α β : Type} {F : α → β → Prop} : ∀ {xs xs' : List α} {ys ys' : List β}, Paired F xs ys → Paired F xs' ys' → Paired F (xs ++ xs') (ys ++ ys')
  | _, _, _, _, .nil, h => h
  | _, _, _, _, .cons r t, h => .cons r (paired_append t h)
theorem paired_erase {α β : Type} {F : α → β → Prop} : ∀ {xs : List α} {ys : List β} (n : Nat), Paired F xs ys → Paired F (xs.eraseIdx n) (ys.eraseIdx n)
  | _, _, _, .nil => .nil
  | _, _, 0, .cons _ t => t
  | _, _, n + 1, .cons r t => .cons r (paired_erase n t)
theorem TieV.inj {H : Hp} {v : V} {p q : Tie} (h : TieV H v p) (k : TieV H v q) : p = q := by
  obtain ⟨t, rfl, e⟩ := h
  obtain ⟨u, eu, e'⟩ := k
  cases eu
  rw [e] at e'
  have e1 := Option.some.inj e'
  have e2 := HO.tup.inj e1
  injection e2 with a b
  injection b with b _
  exact Prod.ext (V.int.inj a) (V.int.inj b)
theorem paired_left {α β : Type} {F : α → β → Prop} : ∀ {xs : List α} {ys : List β}, Paired F xs ys → ∀ x ∈ xs, ∃ y, y ∈ ys ∧ F x y
  | _, _, .nil, _, h => by cases h
  | _, _, .cons r t, x, h => by
    rcases List.mem_cons.mp h with rfl | h
    · exact ⟨_, List.mem_cons_self, r⟩
    · obtain ⟨y, hy, q⟩ := paired_left t x h
      exact ⟨y, List.mem_cons_of_mem _ hy, q⟩
theorem paired_right {α β : Type} {F : α → β → Prop} : ∀ {xs : List α} {ys : List β}, Paired F xs ys → ∀ y ∈ ys, ∃ x, x ∈ xs ∧ F x y
  | _, _, .nil, _, h => by cases h
  | _, _, .cons r t, y, h => by
    rcases List.mem_cons.mp h with rfl | h
    · exact ⟨_, List.mem_cons_self, r⟩
    · obtain ⟨x, hx, q⟩ := paired_right t y h
      exact ⟨x, List.mem_cons_of_mem _ hx, q⟩
/-- the ties of a permuted list -/
theorem ties_perm {H : Hp} {xs : List V} {T : List Tie} (h : Ties H xs T) {ys : List V} (p : ys.Perm xs) : ∃ T', Ties H ys T' ∧ T'.Perm T := by
  induction p generalizing T with
  | nil => cases h; exact ⟨[], .nil, .refl _⟩
  | cons x _ ih =>
    cases h with
    | cons r t =>
      obtain ⟨T', h1, h2⟩ := ih t
      exact ⟨_, .cons r h1, h2.cons _⟩
  | swap x y l =>
    cases h with
    | cons r t =>
      cases t with
      | cons r' t => exact ⟨_, .cons r' (.cons r t), .swap _ _ _⟩
  | trans _ _ a b =>
    obtain ⟨T1, h1, p1⟩ := b h
    obtain ⟨T2, h2, p2⟩ := a h1
    exact ⟨T2, h2, p2.trans p1⟩

section
variable {X : Cx}
/-! ### x not in xs of ties -/
theorem tie_dp {K : PySem.W.Frag} {H : Hp} {v : V} {p : Tie} (h : TieV H v p) : Dp K H v (.tuple [.int p.1, .int p.2]) := by
  obtain ⟨t, rfl, e⟩ := h
  exact .tup (SqT.of e) (.cons (.int _) (.cons (.int _) .nil))
theorem ties_dp {K : PySem.W.Frag} {H : Hp} : ∀ {xs : List V} {T : List Tie}, Ties H xs T → DpAll K H xs (T.map fun p => PyData.tuple [.int p.1, .int p.2])
  | _, _, .nil => .nil
  | _, _, .cons r t => .cons (tie_dp r) (ties_dp t)
theorem tieD_eqv (p q : Tie) : PyData.eqv (.tuple [.int p.1, .int p.2]) (.tuple [.int q.1, .int q.2]) = decide (p = q) := by
  have e : PyData.eqv (.tuple [.int p.1, .int p.2]) (.tuple [.int q.1, .int q.2]) = ((p.1 == q.1) && ((p.2 == q.2) && true)) := by simp only [PyData.eqv, PyData.eqvAll]
  rw [e]
  by_cases h1 : p.1 = q.1 <;> by_cases h2 : p.2 = q.2 <;> simp [h1, h2, Prod.ext_iff]
theorem tieD_lay : ∀ T : List Tie, PyData.canLayAll0 (T.map fun p => PyData.tuple [.int p.1, .int p.2]) = true
  | [] => by simp [PyData.canLayAll0]
  | p :: T => by simp [PyData.canLayAll0, PyData.canLay0, tieD_lay T]
theorem tieD_depth : ∀ T : List Tie, PyData.depthAll (T.map fun p => PyData.tuple [.int p.1, .int p.2]) ≤ 1
  | [] => by simp [PyData.depthAll]
  | p :: T => by
    have h := tieD_depth T
    simp only [List.map_cons, PyData.depthAll, PyData.depth]
    omega
theorem any_tie (T : List Tie) (p : Tie) : ((T.map fun q => PyData.tuple [.int q.1, .int q.2]).any fun z => PyData.eqv z (.tuple [.int p.1, .int p.2])) = decide (p ∈ T) := by
  rw [List.any_map]
  induction T with
  | nil => simp
  | cons q T ih =>
    rw [List.any_cons, ih]
    show (PyData.eqv _ _ || _) = _
    rw [tieD_eqv]
    by_cases h1 : q = p
    · subst h1; simp
    · have h1' : ¬ p = q := fun e => h1 e.symm
      simp [h1, h1']
def rNotInP (K : PySem.W.Frag) : R2 := fun x y H Q => ∃ q xs T p, y = .ref q ∧ (SqL K H q xs ∨ SqT K H q xs) ∧ Ties H xs T ∧ TieV H x p ∧ Q (.bl (!decide (p ∈ T))) H
theorem op_notInP (hu : X.A.units + 65 < cLine) : OpR X (compareOp .NotIn) (rNotInP X.K) := by
  intro pins s σ H x y v u Q I rx ry h
  obtain ⟨q, xs, T, p, rfl, hs, hT, hx, k⟩ := h
  obtain ⟨as, r1⟩ := Dp.reads I _ x v (tie_dp hx) rx
  have hcl := tieD_lay T
  have hdx : (PyData.tuple [.int p.1, .int p.2]).canLay0 = true := by simp [PyData.canLay0, PyData.canLayAll0]
  have hdd := tieD_depth T
  have hroom : X.A.units + 1 + min (PyData.depthAll (T.map fun p => PyData.tuple [.int p.1, .int p.2])) (PyData.tuple [.int p.1, .int p.2]).depth < cLine := by omega
  rcases hs with hs | hs
  · obtain ⟨bs, r2⟩ := Dp.reads I (.list _) (.ref q) u (.lst hs (ties_dp hT)) ry
    exact SeqAt.notIn_list_reads r2 r1 hcl hdx hroom (by rw [any_tie]; exact ⟨.bl _, H, I, rfl, k⟩)
  · obtain ⟨bs, r2⟩ := Dp.reads I (.tuple _) (.ref q) u (.tup hs (ties_dp hT)) ry
    exact SeqAt.notIn_tuple_reads r2 r1 hcl hdx hroom (by rw [any_tie]; exact ⟨.bl _, H, I, rfl, k⟩)

/-! ### a call with keywords alone -/
theorem pe_callK0 {CX : CXT} {k : Nat} {f : Addr} {fd : FuncData} {ps ks : List Str} {sp : Sp} {E : XK} {x : Str} {p pos : Pos} {kws : List Keyword} {tk : TA} {g : List Value → List Value → List Value} {gV : List V → List V → List V}
    (F : FnOk X.prog X.w X.K X.mg X.base CX k f fd ps sp) (hr : Room k X.A) (hg : Gl X x) (hm : X.mg x = some (.ref f)) (hk : PySem.W.keepIn X.K (.ref f) = true) (hb : KBinds X.K fd ps ks g gV) (hx : Passes CX X E)
    (hkw : PK X kws tk) (hall : (backToKw pos (keywordEach kws X.env)).all (·.1.isSome) = true := by rfl) (hks : (backToKw pos (keywordEach kws X.env)).filterMap (·.1) = ks := by rfl)
    (hdb : (x == ("__debug__" : Str)) = false := by decide) (hpl : ((backTo pos (starEach [] X.env)).any (·.1) || (backToKw pos (keywordEach kws X.env)).any (·.1.isNone)) = false := by rfl) :
    PE X (.Call (.Name x p) [] kws pos) (tCallK sp gV E tNil tk) :=
  ⟨fun pins s σ H Q I h => wpAny_Call_Name_kw (ld_glob I hg hm (PySem.W.callWith_KW0 (h₀ := X.base) I.ok.mod.kin hk hall
    (thn (hkw.run pos pins s σ H _ I h) fun ws s2 ⟨zs, H2, I2, rz, q2⟩ => ⟨I2.kIn, by
      rw [hks]
      exact run_fnk F hr hb hx I2 .nil rz q2⟩) hpl) hdb)⟩

/-! ### len(set(xs)), xs a list of ints -/
theorem met_mem (ns : List Int) (x : Int) : x ∈ PyProof.Rows.firstMet (fun i => ns.getD i 0) ns.length ↔ x ∈ ns := by
  have h := PyProof.Rows.firstMet_any (fun i => ns.getD i 0) ns.length x
  have e : (List.range ns.length).map (fun i => ns.getD i 0) = ns := by
    apply List.ext_getElem?
    intro i
    rw [List.getElem?_map]
    by_cases hi : i < ns.length
    · rw [List.getElem?_range hi, List.getElem?_eq_getElem hi]
      simp [hi]
    · rw [List.getElem?_eq_none (by simpa using hi), List.getElem?_eq_none (by simpa using hi)]
      rfl
  rw [e] at h
  have key : ∀ l : List Int, l.any (· == x) = true ↔ x ∈ l := fun l => by
    rw [List.any_eq_true]
    constructor
    · rintro ⟨y, hy, e⟩
      rw [beq_iff_eq] at e
      exact e ▸ hy
    · exact fun hx => ⟨x, hx, by simp⟩
  rw [← key, ← key, h]
theorem met_nodup (val : Nat → Int) : ∀ i, (PyProof.Rows.firstMet val i).Nodup
  | 0 => by rw [PyProof.Rows.firstMet_zero]; exact List.nodup_nil
  | i + 1 => by
    rw [PyProof.Rows.firstMet_succ]
    unfold step_dedup
    have ih := met_nodup val i
    split
    · exact ih
    · rename_i hn
      refine List.nodup_append.mpr ⟨ih, by simp, fun a ha b hb e => hn ?_⟩
      obtain rfl := List.mem_singleton.mp hb
      exact List.any_eq_true.mpr ⟨a, ha, by simp [e]⟩
def tLenSet' (K : PySem.W.Frag) (ta : TE) : TE := fun σ H Q => ta σ H fun x H1 => ∃ (l : Addr) (ns : List Int), x = .ref l ∧ SqL K H1 l (ns.map V.int) ∧ ns.length ≤ 1000 ∧
  ∀ D : List Int, D.Nodup → (∀ x, x ∈ D ↔ x ∈ ns) → Q (.int (D.length : Nat)) H1
theorem pe_lenSet' {a : Expr} {ta : TE} {p p2 q pos : Pos} (hg : Gl X "len") (hm : X.mg "len" = none) (hg2 : Gl X "set") (hm2 : X.mg "set" = none) (hc : X.calm = true) (ha : PE X a ta)
    (na : starEach [a] X.env = (false, eval a X.env) :: starEach [] X.env := by rfl) : PE X (.Call (.Name "len" p) [.Call (.Name "set" p2) [a] [] q] [] pos) (tLenSet' X.K ta) := by
  constructor
  intro pins s σ H Q I h
  refine Call_ (ld_blt I hg hm boot_len (PyProof.Rows.callWith_builtin1 (PyProof.Rows.args_cons (Call_ (ld_blt I hg2 hm2 PyProof.Rows.boot_set (PyProof.Rows.callWith_type1 (PyProof.Rows.args_cons
    (thn (ha.run pins s σ H _ I h) fun v s1 hv => PyProof.Rows.args_nil ?_) na) na rfl))) rfl) rfl rfl))
  obtain ⟨x, H1, I1, r1, l, ns, rfl, hq, hl, k⟩ := hv
  cases r1
  obtain ⟨its, r, pl, hz⟩ := I1.list hq
  have hlen : its.toArray.size = ns.length := by rw [List.size_toArray, ← r.length, List.length_map]
  have hml := PyProof.Rows.firstMet_length_le (fun i => ns.getD i 0) ns.length
  refine call_set_list (I1.ok.hd hc) pl.isList (by simpa using r.ints) (by rw [hlen]; unfold scanBound; omega) fun h' tk hS hk => PyProof.Rows.args_nil ?_
  rw [hlen] at hS
  obtain ⟨o, es, ep, t, ho, hex, hd, _, _, _, hf, hn⟩ := hS
  have I2 : Inv X pins σ H1 { s1 with heap := h', toks := tk } := I1.kept fun b o e => hk b o (Heap.lt_size e) e
  exact call_len_set ho hex hd hf (by rw [hn] <;> omega) ⟨.int _, H1, I2.tok _, ⟨_, by rw [hn]⟩, k _ (met_nodup _ _) (met_mem ns)⟩
end

/-! ### sorted(xs) of ties, a list or a tuple -/
section
variable {prog : Program} {w : World} {A : Around} {E : Value → Shared → Prop} {s : Shared}
/-- a list or a tuple of pairs of ints: the new list bears them by their first, then by their second number -/
theorem sorted_seq {l : Addr} {T : String} {o : Obj} {n : Nat} {vs : List Value} {k : Value → Int × Int} {Q : Value → Shared → Prop} (hT : T = "list" ∨ T = "tuple") (ho : s.heap.get? l = some o) (hc : o.cls = .type T) (hd : o.data = .seq vs.toArray n)
    (hz : vs.length ≤ sizeLine) (hp : ∀ v ∈ vs, Srt.IsPair s.heap v (k v).1 (k v).2)
    (fin : ∀ (h2 : Heap) (d : Addr) (out : List Value), SrtO.Srtd (fun v u => SrtO.lexB (k v) (k u)) out → SrtO.Stb (fun v u => SrtO.lexB (k v) (k u)) out vs → (∀ b u, s.heap.get? b = some u → h2.get? b = some u) → s.heap.get? d = none →
      (∃ m, h2.get? d = some (seqObj "list" out.toArray m)) → Q (.ref d) { s with heap := h2 }) : wpAny (model prog w) A (call (.builtin "sorted") [.ref l]) Q E s := by
  refine Calls.call_function_entry kind_sorted plain_sorted entry_sorted (args_sorted1 _) ?_
  unfold Builtin.«sorted»
  refine wpAny_bind (m := checkCount "sorted" 1 1 _) (wpAny_pure (wpAny_bind (wpAny_collect_seq l hT ho hc hd (fun h1 k1 => ?_) (by simpa using hz))))
  rw [show vs.toArray.toList = vs by simp]
  -- the items in a list of their own, at the heap's end
  have hL : (h1.push (seqObj "list" vs.toArray 0)).get? h1.objs.size = some (seqObj "list" vs.toArray 0) := Heap.get?_push_size _ rfl
  have old : ∀ b u, s.heap.get? b = some u → b < h1.objs.size ∧ (h1.push (seqObj "list" vs.toArray 0)).get? b = some u := fun b u e => ⟨Heap.lt_size (k1 b u e), Heap.get?_push_of_some _ (k1 b u e)⟩
  refine wpAny_bind (wpAny_newList (wpAny_bind (wpAny_holding (wpAny_call_entry slot_list_sort ⟨_, hL, rfl⟩ entry_list_sort
    (SrtO.list_sort_ord (s := { s with heap := h1.push (seqObj "list" vs.toArray 0) }) (SrtO.swo_lex k) hL hz (fun h2 => ?_) fun out hs hb => ⟨_, rfl, wpAny_pure ⟨_, rfl, ?_⟩⟩) (args_list_sort _)))) hz)
  · refine SrtO.pairs_sortableO (s := { s with heap := h1.push (seqObj "list" vs.toArray 0) }) (by omega) (fun v hm => (hp v hm).keeps fun b u e _ => (old b u e).2) fun u e => ?_
    rw [show u = seqObj "list" vs.toArray 0 from Option.some.inj (e.symm.trans hL)]
    exact fun z => absurd (Value.type.inj z) (by decide)
  · obtain ⟨m, hm⟩ := sortedHeap_at (vs := vs) (out := out.toArray) hL
    refine fin _ h1.objs.size out hs hb (fun b u e => ?_) ?_ ⟨m, hm⟩
    · show (sortedHeap (h1.push (seqObj "list" vs.toArray 0)) h1.objs.size vs out.toArray).get? b = some u
      rw [sortedHeap_old (Nat.ne_of_lt (old b u e).1) (by rw [Heap.size_push]; exact Nat.lt_succ_of_lt (old b u e).1)]
      exact (old b u e).2
    · cases e : s.heap.get? h1.objs.size with
      | none => rfl
      | some u => exact absurd (old _ u e).1 (Nat.lt_irrefl _)
end
section
variable {X : Cx}
/-- the same pairs, none ahead of a lesser one -/
theorem sorted_ties {H : Hp} {xs ys : List V} {T : List Tie} {k : V → Tie} (hT : Ties H xs T) (hk : ∀ x ∈ xs, ∀ p, TieV H x p → k x = p) (hs : SrtO.Srtd (ltP k) ys) (hp : ys.Perm xs) :
    ∃ T', Ties H ys T' ∧ T'.Perm T ∧ T'.Pairwise fun a b => ¬ (b.1 < a.1 ∨ (b.1 = a.1 ∧ b.2 < a.2)) := by
  obtain ⟨T', h1, h2⟩ := ties_perm hT hp
  refine ⟨T', h1, h2, ?_⟩
  have hk' : ∀ x ∈ ys, ∀ p, TieV H x p → k x = p := fun x hx => hk x (hp.mem_iff.mp hx)
  clear h2 hp hk hT
  induction h1 with
  | nil => exact List.Pairwise.nil
  | @cons x p ys T' r t ih =>
    have hs' := List.pairwise_cons.mp hs
    refine List.pairwise_cons.mpr ⟨fun q hq => ?_, ih hs'.2 fun y hy => hk' y (List.mem_cons_of_mem _ hy)⟩
    obtain ⟨y, hy, r'⟩ := paired_right t q hq
    have h3 := hs'.1 y hy
    have e1 := hk' x List.mem_cons_self p r
    have e2 := hk' y (List.mem_cons_of_mem _ hy) q r'
    have h4 := SrtO.lexB_no.mp h3
    rw [e1, e2] at h4
    exact h4
/-- sorted(xs): a new list of the same ties -/
def rSortT (K : PySem.W.Frag) : List V → Hp → VK → Prop := fun vs H Q => ∃ (a : Addr) (xs : List V) (T : List Tie), vs = [V.ref a] ∧ (SqL K H a xs ∨ SqT K H a xs) ∧ Ties H xs T ∧
  ∀ ys T' p, Ties H ys T' → T'.Perm T → (T'.Pairwise fun a b => ¬ (b.1 < a.1 ∨ (b.1 = a.1 ∧ b.2 < a.2))) → H p = none → Q (.ref p) (upd H p (.lst ys))
open Classical in
noncomputable def keyOf' (H : Hp) (v : V) : Tie := if h : ∃ p, TieV H v p then h.choose else (0, 0)
theorem keyOf_eq {H : Hp} {v : V} {p : Tie} (h : TieV H v p) : keyOf' H v = p := by
  have e : ∃ p, TieV H v p := ⟨p, h⟩
  unfold keyOf'
  rw [dif_pos e]
  exact e.choose_spec.inj h
theorem cr_sortT' : CallR X (.builtin "sorted") (rSortT X.K) := by
  intro pins s σ H vs us Q I r h
  obtain ⟨a, xs, T, rfl, hs, hT, q⟩ := h
  have hx : ∀ x ∈ xs, ∃ t, x = V.ref t ∧ H t = some (.tup [.int (keyOf' H x).1, .int (keyOf' H x).2]) := fun x hx => by
    obtain ⟨p, _, r⟩ := paired_left hT x hx
    rw [keyOf_eq r]
    exact r
  -- the items, whichever of the two it is
  obtain ⟨its, rv, hz, T', o, n, hT', ho, hc, hd⟩ : ∃ its : List Value, Vals xs its ∧ xs.length ≤ sizeLine ∧ ∃ (T : String) (o : Obj) (n : Nat), (T = "list" ∨ T = "tuple") ∧ s.heap.get? a = some o ∧ o.cls = .type T ∧ o.data = .seq its.toArray n := by
    rcases hs with hs | hs
    · obtain ⟨its, rv, ⟨o, n, ho, hc, _, hd⟩, hz⟩ := I.list hs
      exact ⟨its, rv, hz, _, o, n, .inl rfl, ho, hc, hd⟩
    · obtain ⟨its, rv, ⟨o, ho, hc, n, hd⟩, hz⟩ := I.tuple hs
      exact ⟨its, rv, hz, _, o, n, .inr rfl, ho, hc, hd⟩
  have back := refs_back rv fun x m => let ⟨t, e, _⟩ := hx x m; ⟨t, e⟩
  rw [Vals.ref1 r]
  refine sorted_seq (k := fun u => keyOf' H (backV u)) hT' ho hc hd (by rw [← rv.length]; exact hz) (fun v hv => ?_) fun h2 d out h1 hb kp hno ⟨m, hm⟩ => ?_
  · obtain ⟨t, rfl⟩ := back.2 v hv
    obtain ⟨t', e, ht⟩ := hx (V.ref t) (by rw [back.1]; exact List.mem_map.mpr ⟨_, hv, rfl⟩)
    cases e
    obtain ⟨_, pr, r2, ob, g1, g2, m, g3⟩ := I.hok t _ ht
    obtain ⟨_, _, rfl, ⟨t1, rfl⟩, ⟨t2, rfl⟩⟩ := vals2 r2
    exact ⟨t, ob, t1, t2, m, rfl, g1, g2, g3⟩
  · have hp : (out.map backV).Perm xs := by
      rw [back.1]
      exact hb.perm.map _
    obtain ⟨T2, t1, t2, t3⟩ := sorted_ties hT (fun x _ p hp => keyOf_eq hp) (SrtO.srtd_map (lt := ltP (keyOf' H)) h1) hp
    refine ⟨.ref d, upd H d (.lst (out.map backV)), I.laidN (t' := s.toks) kp hno (I.hok.gone hno) ⟨?_, out, m, vals_back (fun u hu => back.2 u (hb.perm.mem_iff.mp hu)), hm⟩, rfl, q _ T2 d t1 t2 t3 (I.hok.gone hno)⟩
    rw [hp.length_eq]
    exact hz
end
end K81

namespace K81
open PySem PySem.Spec PyProof.Rows L2
/-! ### a def that is run where no repr is under way (repr of a list asks for that)
As the layer's FnOk, Fun.ok, pe_call and walk_of, but for one more fact about what runs around: that no guard stands there. -/
def calm0 (A : Around) : Prop := A.guards = some []
structure FnOkG (P : Program) (w : World) (K : PySem.W.Frag) (mg : Str → Option Value) (base : Heap) (CX : CXT) (k : Nat) (f : Addr) (fd : FuncData) (ps : List Str) (sp : Sp) : Prop where
  size : ∀ vs H Q E, sp vs H Q E → vs.length = ps.length
  run : ∀ A, calm0 A → ∀ (outer : List Env) (s : Shared) (H : Hp) (args : Args) (us : List Value) (vs : List V) (Q : VK) (E : XK), Room k A → Env0 P w K mg base A outer s H →
    BindsTo s fd args (ps.zip us) → Vals vs us → sp vs H Q E → codeAny (model P w) A (.call (.ref f) args) (CR CX outer P w H s Q E) s
section
variable {P : Program} {w : World} {K : PySem.W.Frag} {mg : Str → Option Value} {base : Heap}
theorem fun_okG {x qual : Str} {st : Stmt} {f : Addr} {fd : FuncData} {N ps : List Str} {k : Nat} {sp : Sp} (F : Fun K x qual st f fd) (S : FnScope N ps (defScope st)) (size : ∀ vs H Q E, sp vs H Q E → vs.length = ps.length)
    (body : ∀ (cdv : Value) (A : Around) (outer : List Env) (s : Shared) (H : Hp) (vs : List V) (Q : VK) (E : XK), calm0 A → Room k (A.deeper (envOfC qual (defScope st) s.heap.objs.size f cdv)) → sp vs H Q E →
      ∃ t, PSs (cxOf CX0 P w K mg base N qual (defScope st) f cdv A outer s H E).nox (defBody st) t ∧ t { nx := fun _ H' => Q .non H', rt := Q } (start N vs) H) : FnOkG P w K mg base CX0 (k + 1) f fd ps sp := by
  obtain ⟨_, _, _, _, _, _, cdv, _, _, rfl, lk, hcd⟩ := F.ex
  refine ⟨size, fun A hG outer s H args us vs Q E hr e0 hb r hsp => ?_⟩
  have kept : ∀ b o, base.get? b = some o → s.heap.get? b = some o := fun b o e => (e0.bs b o e).1
  have inS := e0.mod.kin.keeps kept
  refine codeAny_call_function hr.depth (inS _ _ lk) rfl S.co S.gen rfl (PySem.W.codeRec_of inS hcd) (hb _ _ _ _ (wpAny_newFunctionEnv_cells S.kind (fun y hy => ?_) fun env he s1 x => ?_))
  · exact (S.par y.1 (List.of_mem_zip hy).1).imp id fun q => ⟨q, PySem.W.cellsFrom_some _ _ _ (.inl q)⟩
  subst he
  obtain ⟨t, ht, hq⟩ := body cdv A outer s H vs Q E hG (hr.deeper _) hsp
  have I := inv_start (CX := CX0) (E := E) (cd := cdv) (f := f) (qual := qual) S hr.hd e0 (size _ _ _ _ hsp) r x
  refine ⟨(e0.mod.nolimit.keeps kept).keeps x.toInCall.keep, codeAny_func (wpAny_mono (ht.nox.run [] s1 (start N vs) H _ I hq) (fun fl s' hs => ?_) fun e s' z => z)⟩
  cases fl with
  | next => exact let ⟨_, H', J, q⟩ := hs; ⟨.non, H', J.os, J.bare, J.base, J.hok, rfl, q⟩
  | ret u => exact let ⟨v, _, H', J, g, q⟩ := hs; ⟨v, H', J.os, J.bare, J.base, J.hok, g, q⟩
  | brk => exact let ⟨_, _, _, q⟩ := hs; q.elim
  | cont => exact let ⟨_, _, _, q⟩ := hs; q.elim
/-- a call of such a def, by its name alone -/
theorem pe_callG {X : Cx} {k : Nat} {f : Addr} {fd : FuncData} {ps : List Str} {sp : Sp} {E : XK} {x : Str} {p pos : Pos} {e : Expr} {es : List Expr} {t : TA} (hG : calm0 X.A) (F : FnOkG X.prog X.w X.K X.mg X.base CX0 k f fd ps sp) (hr : Room k X.A) (hg : Gl X x) (hm : X.mg x = some (.ref f))
    (hk : PySem.W.keepIn X.K (.ref f) = true) (hb : Binds X.K fd ps []) (ha : PA X (e :: es) t) (hdb : (x == ("__debug__" : Str)) = false := by decide)
    (he : starEach (e :: es) X.env = (false, eval e X.env) :: starEach es X.env := by rfl) (hpl : (backTo pos (starEach es X.env)).any (·.1) = false := by rfl) : PE X (.Call (.Name x p) (e :: es) [] pos) (tCall sp [] E t) := by
  constructor
  intro pins s σ H Q I h
  refine wpAny_Call_Name_kw (ld_glob I hg hm (PySem.W.callWith_K (h₀ := X.base) I.ok.mod.kin hk (thn (ha.run pos pins s σ H _ I h) fun us s1 ⟨vs, H1, I1, r, q⟩ => ⟨I1.kIn, ?_⟩) he hpl) hdb)
  have q : sp (vs ++ []) H1 Q E := q
  rw [List.append_nil] at q
  have bound : BindsTo s1 fd ⟨us, []⟩ (ps.zip us) := by
    have := hb s1 us I1.kIn (by rw [List.append_nil, ← r.length]; exact F.size _ _ _ _ q)
    rw [List.append_nil] at this
    exact this
  refine wpAny_call (codeAny_mono (F.run X.A hG X.stack s1 H1 ⟨us, []⟩ us vs Q E hr I1.env0 bound r q) fun r s' hq => ?_)
  match r, hq with
  | .ok (.ret u), hq => exact I1.after hq
end
/-- repr([b1, b2]), a list of two truth values -/
def rReprB (K : PySem.W.Frag) : List V → Hp → VK → Prop := fun vs H Q => ∃ (a : Addr) (b c : Bool), vs = [.ref a] ∧ SqL K H a [.bl b, .bl c] ∧ Q (.str (PyData.shown (.list [.bool b, .bool c]))) H
theorem call_reprB {X : Cx} (hG : calm0 X.A) (hu : X.A.units + 64 < cLine) : CallR X (.builtin "repr") (rReprB X.K) := fun pins s σ H xs us Q I r h => by
  obtain ⟨a, b, c, rfl, hs, q⟩ := h
  rw [Vals.ref1 r]
  obtain ⟨as, rd⟩ := Dp.reads I _ (.ref a) (.ref a) (.lst hs (.cons (.bl b) (.cons (.bl c) .nil))) rfl
  refine repr_of_reads' rd (by simp [PyData.showable, PyData.showableAll]) (fun h => by simp [PyData.hasDict, PyData.hasDictAll] at h) hG (by simp [PyData.depth, PyData.depthAll]; omega) (fun _ _ e => e) (fun h' u tk hk => ?_) (by cases b <;> cases c <;> decide +kernel)
  exact ⟨.str _, H, I.kept hk, ⟨u, rfl⟩, q⟩

/-! ### the end, for a law of that kind -/
section
open Att
/-- what stands behind the top -/
structure Ready (K : PySem.W.Frag) (mg : Str → Option Value) (s : Shared) : Prop where
  kin : K.In s.heap
  names : s.heap.Ns mainGlobals mg
  built : ∃ mb, s.heap.Ns builtinsNs mb ∧ ∀ x : Str, x ≠ "__name__" → mb x = bootBuiltins x
  limit : s.heap.NoLimit
  gens : s.gens = #[]
/-- the call ends with True, and all that stood stands -/
abbrev EndsTrue (P : Program) (w : World) (fa a : Addr) (s : Shared) : Prop :=
  codeAny (model P w) callerA (.call (.ref fa) ⟨[.ref a], []⟩) (fun r s' => r = .ok (.ret (.bool true)) ∧ OldK s.heap s'.heap ∧ s'.os = s.os ∧ AllBare s'.gens) s
abbrev scriptObj (vs : List Value) : Obj := { cls := .type "list", data := .seq vs.toArray }
/-- from an abstract heap that tracks nothing, or just the script (which then is no object of the top) -/
theorem ends_from {P : Program} {w : World} {K : PySem.W.Frag} {mg : Str → Option Value} {k : Nat} {fa a : Addr} {fd : FuncData} {x : Str} {sp : Sp} {s : Shared} {vs : List Value} {H : Hp} (R : Ready K mg s) (ha : s.heap.get? a = some (scriptObj vs)) (hr : Room k callerA)
    (F : ∀ base : Heap, K.In base → base.Ns mainGlobals mg → FnOkG P w K mg base CX0 k fa fd [x] sp) (bind : ∀ (s : Shared) (u : Value), BindsTo s fd ⟨[u], []⟩ [(x, u)]) (hsp : sp [.ref a] H (fun v _ => v = .bl true) E0)
    (hok : HOk P w H s.heap) (just : ∀ b u, H b = some u → b = a ∧ K.lookup a = none ∧ ∃ o xs, u = .frz o (.lst xs)) : EndsTrue P w fa a s := by
  -- what is no script, or stands in the top, is seen with the tracked hidden
  have seen : ∀ {b : Addr} {o : Obj}, s.heap.get? b = some o → (b = a → o ≠ scriptObj vs ∨ K.lookup a ≠ none) → (hidT s.heap H).get? b = some o := fun {b o} e ne => hidT_get e (by
    cases q : H b with
    | none => rfl
    | some u =>
      obtain ⟨rfl, hk, _⟩ := just b u q
      rcases ne rfl with z | z
      · exact absurd (Option.some.inj (e.symm.trans ha)) z
      · exact absurd hk z)
  have ns : ∀ {b : Addr} {m : Str → Option Value}, s.heap.Ns b m → (hidT s.heap H).Ns b m := fun {b m} n => by
    obtain ⟨o, es, ep, e, d, r⟩ := n
    exact ⟨o, es, ep, seen e fun _ => .inl fun z => (by rw [z] at d; cases d), d, r⟩
  have kin : K.In (hidT s.heap H) := fun b o e => seen (R.kin b o e) fun z => .inr fun n => by rw [← z, e] at n; cases n
  obtain ⟨mb, b1, b2⟩ := R.built
  obtain ⟨mc, l1, l2⟩ := R.limit
  have env : Env0 P w K mg (hidT s.heap H) callerA [] s H :=
    { frames := rfl, mod := ⟨kin, ns R.names, ⟨mb, ns b1, b2⟩, ⟨mc, ns l1, l2⟩⟩, bs := fun b o e => of_hidT e, bsz := Nat.le_of_eq (hidT_size _ _), funs := trivial, frf := fun b hb => absurd (show b ∈ ([] : List Addr) from hb) List.not_mem_nil, hok := hok, bare := .of_eq R.gens }
  refine codeAny_mono ((F _ kin (ns R.names)).run callerA rfl [] s H ⟨[.ref a], []⟩ [.ref a] [.ref a] _ _ hr env (bind s (.ref a)) (.cons rfl .nil) hsp) fun r s' h => ?_
  match r, h with
  | .ok (.ret u), ⟨v, H', os, bare, un, hok', rv, q⟩ =>
    obtain rfl : v = V.bl true := q
    cases (show u = Value.bool true from rv)
    refine ⟨rfl, OldK.of_keep fun b o e => ?_, os, bare⟩
    cases q : H b with
    | none => exact un.keep b o e q List.not_mem_nil List.not_mem_nil
    | some u =>
      obtain ⟨_, _, ob, xs, rfl⟩ := just b u q
      rw [← e, (hok b _ q).1]
      exact (hok' b _ (un.frzs b ob _ q)).1
/-- the law's run from its promise -/
theorem ends_true {P : Program} {w : World} {K : PySem.W.Frag} {mg : Str → Option Value} {k : Nat} {fa a : Addr} {fd : FuncData} {x : Str} {sp : Sp} {s : Shared} {vs : List Value} {ns : List Int} (R : Ready K mg s) (ha : s.heap.get? a = some (scriptObj vs)) (hi : IntsAre vs ns)
    (hl : ns.length ≤ sizeLine) (hr : Room k callerA) (F : ∀ base : Heap, K.In base → base.Ns mainGlobals mg → FnOkG P w K mg base CX0 k fa fd [x] sp) (bind : ∀ (s : Shared) (u : Value), BindsTo s fd ⟨[u], []⟩ [(x, u)])
    (hsp : ∀ H : Hp, SqL K H a (ns.map V.int) → sp [.ref a] H (fun v _ => v = .bl true) E0) : EndsTrue P w fa a s := by
  have rv := vals_ints hi
  cases hk : K.lookup a with
  | some o =>
    obtain rfl : o = scriptObj vs := Option.some.inj ((R.kin a o hk).symm.trans ha)
    refine ends_from (H := fun _ => none) R ha hr F bind (hsp _ (.inr ⟨_, vs.toArray, _, hk, rfl, rfl, rfl, ?_, by simpa using rv⟩)) (fun b u z => nomatch z) fun b u z => nomatch z
    rw [List.size_toArray, hi.length]
    exact hl
  | none =>
    have at_a : ∀ b u, upd (fun _ => none) a (HO.frz (scriptObj vs) (.lst (ns.map V.int))) b = some u → b = a ∧ u = .frz (scriptObj vs) (.lst (ns.map V.int)) := fun b u z => by
      by_cases e : b = a
      · subst e
        rw [upd_same] at z
        exact ⟨rfl, (Option.some.inj z).symm⟩
      · rw [upd_ne e] at z
        cases z
    refine ends_from (H := upd (fun _ => none) a (.frz (scriptObj vs) (.lst (ns.map V.int)))) R ha hr F bind (hsp _ (.inl (.inr ⟨scriptObj vs, upd_same⟩))) (fun b u z => ?_) fun b u z => ?_
    · obtain ⟨rfl, rfl⟩ := at_a b u z
      exact ⟨ha, by rwa [List.length_map], vs, _, rv, ha⟩
    · obtain ⟨rfl, rfl⟩ := at_a b u z
      exact ⟨rfl, hk, _, _, rfl⟩
theorem walk_ofG {l : PySem.W.OpenLaw} {n k : Nat} {q : Program} {loose : List Str} {XP : (Str → Option Value) → Heap → Prop} {YP : World → Heap → Prop} {d : DefRec} {K : Params → PySem.W.Frag} {sp : PySem.W.Frag → Sp} {x : Str} (most : l.most = some n) (small : n ≤ sizeLine) (plain : d.params.defaults = [])
    (hr : Room k callerA) (hY : ∀ w h, YP w h → (K w.params).In h)
    (F : ∀ (w : World) mg fa h, (K w.params).In h → h.Ns mainGlobals mg → mg d.name = some (.ref fa) → ∃ fd : FuncData, (∀ s u, BindsTo s fd ⟨[u], []⟩ [(x, u)]) ∧
      ∀ base : Heap, (K w.params).In base → base.Ns mainGlobals mg → FnOkG l.prog w (K w.params) mg base CX0 k fa fd [x] (sp (K w.params)))
    (hsp : ∀ K H a (ns : List Int), ns.length ≤ n → SqL K H a (ns.map V.int) → sp K [.ref a] H (fun v _ => v = .bl true) E0) : PySem.W.WalkO q loose XP YP l.row.toRowW d [] fun f vs => PySem.call f vs := by
  refine Att.attach_call most plain fun w s₀ s mg mb fa o pm cd doc a vs ns G Y _ _ _ hmg hobj hints hlen hg => ?_
  have kin := hY w _ Y
  obtain ⟨fd, bind, hF⟩ := F w mg fa _ kin G.T.g hmg
  exact ends_true ⟨kin, G.T.g, ⟨mb, G.T.b, G.T.builtins⟩, G.T.nolimit, hg⟩ hobj hints (Nat.le_trans hlen small) hr hF bind fun H hS => hsp _ H a ns hlen hS
end
end K81

namespace K81
open PySem PySem.Spec PyProof.Rows L2
/-! ### the text by places -/
def topS (i : Nat) : Stmt := PySem.Challenge.pw_partsmet_k81_whole_webs_and_rings.main.body.getD i (.Pass ⟨0, 0, 0, 0⟩)
abbrev sInteger : Stmt := topS 5
abbrev sCount : Stmt := topS 6
abbrev sList : Stmt := topS 7
abbrev sTie : Stmt := topS 10
abbrev sWeb : Stmt := topS 11
abbrev sWant : Stmt := topS 12
abbrev sNbr : Stmt := topS 13
abbrev sReached : Stmt := topS 14
abbrev sKept : Stmt := topS 15
abbrev sRing : Stmt := topS 16
abbrev sIsWeb : Stmt := topS 17
abbrev sTold : Stmt := topS 18
abbrev sNeighbours : Stmt := topS 19
abbrev sJoined : Stmt := topS 20
abbrev sHasRing : Stmt := topS 21
abbrev sRingOf : Stmt := topS 22
abbrev sPot : Stmt := topS 24
abbrev sDraw : Stmt := topS 25
abbrev sLawWeb : Stmt := topS 27
abbrev sNear : Stmt := topS 28
abbrev sPiece : Stmt := topS 29
abbrev sIsRing : Stmt := topS 30
abbrev sRight : Stmt := topS 31
abbrev sLaw : Stmt := topS 32
/-- what the top leaves of names -/
structure Txt (mg : Str → Option Value) : Prop where
  isi : mg "isinstance" = none
  int : mg "int" = none
  bool : mg "bool" = none
  list : mg "list" = none
  tuple : mg "tuple" = none
  len : mg "len" = none
  all : mg "all" = none
  range : mg "range" = none
  sorted : mg "sorted" = none
  sum : mg "sum" = none
  abs : mg "abs" = none
  max : mg "max" = none
  divmod : mg "divmod" = none
  set : mg "set" = none
  enum : mg "enumerate" = none
  repr : mg "repr" = none
  most : ∃ t, mg "MOST_COPIES" = some (.int 6 t)

/-! ### plain facts about readings -/
theorem eqV_int (a b : Int) : eqV (.int a) (.int b) = decide (a = b) := by
  by_cases h : a = b <;> simp [eqV, h]
theorem inV_ints (k : Int) (ns : List Int) : inV (.int k) (ns.map V.int) = decide (k ∈ ns) := by
  unfold inV
  rw [List.any_map]
  induction ns with
  | nil => simp
  | cons n ns ih =>
    rw [List.any_cons, ih]
    show (eqV (.int n) (.int k) || _) = _
    rw [eqV_int]
    by_cases h : k = n
    · subst h; simp
    · have h' : ¬ n = k := fun e => h e.symm
      simp [h, h']
theorem flat_ints (ns : List Int) : (ns.map V.int).all flatV = true := by
  rw [List.all_map, List.all_eq_true]
  intro x _
  rfl
theorem ints_dp {K : PySem.W.Frag} {H : Hp} : ∀ ns : List Int, DpAll K H (ns.map V.int) (ns.map PyData.int)
  | [] => .nil
  | n :: ns => .cons (.int n) (ints_dp ns)
theorem ints_lay : ∀ ns : List Int, PyData.canLayAll0 (ns.map PyData.int) = true
  | [] => by simp [PyData.canLayAll0]
  | n :: ns => by simp [PyData.canLayAll0, PyData.canLay0, ints_lay ns]
theorem ints_depth : ∀ ns : List Int, PyData.depthAll (ns.map PyData.int) = 0
  | [] => by simp [PyData.depthAll]
  | n :: ns => by simp [PyData.depthAll, PyData.depth, ints_depth ns]
theorem ints_shaped (ns : List Int) : SeqAt.shaped (.list (ns.map PyData.int)) = true := by
  show (PyData.canLay0 (.list (ns.map PyData.int)) && decide (PyData.depth (.list (ns.map PyData.int)) ≤ 64)) = true
  simp [PyData.canLay0, PyData.depth, ints_lay, ints_depth]
theorem ints_eqvAll : ∀ ns ms : List Int, PyData.eqvAll (ns.map PyData.int) (ms.map PyData.int) = decide (ns = ms)
  | [], [] => by simp [PyData.eqvAll]
  | [], m :: ms => by simp [PyData.eqvAll]
  | n :: ns, [] => by simp [PyData.eqvAll]
  | n :: ns, m :: ms => by
    simp only [List.map_cons, PyData.eqvAll, PyData.eqv, ints_eqvAll ns ms]
    by_cases h1 : n = m <;> by_cases h2 : ns = ms <;> simp [h1, h2]
theorem ints_eqv (ns ms : List Int) : PyData.eqv (.list (ns.map PyData.int)) (.list (ms.map PyData.int)) = decide (ns = ms) := by
  rw [← ints_eqvAll]
  simp only [PyData.eqv]
/-- a list or a tuple of ours -/
def LT (H : Hp) (a : Addr) (xs : List V) : Prop := H a = some (.lst xs) ∨ H a = some (.tup xs)
theorem LT.same {H H' : Hp} {a : Addr} {xs : List V} (s : Same H H') (h : LT H a xs) : LT H' a xs := h.imp (s _ _) (s _ _)
theorem LT.seq {K : PySem.W.Frag} {H : Hp} {a : Addr} {xs : List V} (h : LT H a xs) : SqL K H a xs ∨ SqT K H a xs := h.imp SqL.of SqT.of
theorem cut_to (xs : List V) (i : Nat) (h : i ≤ xs.length) : cutV xs none (some (i : Int)) = xs.take i := by
  unfold cutV
  rw [HT.sIx_none, HT.sIx_nat]
  simp [Nat.min_eq_left h]
/-- a comprehension without an if -/
theorem yes_put {A B : Hp → Prop} {σ : L2.St} {H : Hp} (h : A H) : tYes σ H (fun b H3 => if b = true then A H3 else B H3) := by
  show (if true = true then A H else B H)
  rw [if_pos rfl]
  exact h
/-- what is walked gives the items of xs, as long as what stood at H1 stands -/
structure Over (J : It) (H1 : Hp) (xs : List V) : Prop where
  go : ∀ i H, Same H1 H → i < xs.length → J.go i H
  stop : ∀ i H, Same H1 H → xs.length ≤ i → J.stop i H
  yld : ∀ i H x H', Same H1 H → J.yld i H x H' → H' = H ∧ ∀ y, xs[i]? = some y → y = x
theorem over_list {K : PySem.W.Frag} {a : Addr} {xs : List V} {H1 : Hp} (h : H1 a = some (.lst xs)) : Over (Itl K a) H1 xs :=
  ⟨fun i H s hi => ⟨xs, xs[i], SqL.of (s _ _ h), List.getElem?_eq_getElem hi⟩, fun i H s hi => ⟨xs, SqL.of (s _ _ h), hi⟩, fun i H x H' s y => ⟨y.1, fun z hz => Option.some.inj (hz.symm.trans (y.2 xs (SqL.of (s _ _ h))))⟩⟩
theorem over_tup {K : PySem.W.Frag} {a : Addr} {xs : List V} {H1 : Hp} (h : H1 a = some (.tup xs)) : Over (Itt K a) H1 xs :=
  ⟨fun i H s hi => ⟨xs, xs[i], SqT.of (s _ _ h), List.getElem?_eq_getElem hi⟩, fun i H s hi => ⟨xs, SqT.of (s _ _ h), hi⟩, fun i H x H' s y => ⟨y.1, fun z hz => Option.some.inj (hz.symm.trans (y.2 xs (SqT.of (s _ _ h))))⟩⟩
theorem over_or {K : PySem.W.Frag} {a : Addr} {xs : List V} {H : Hp} {σ : L2.St} {j : Nat} {R : It → Hp → Prop} (hσ : σ[j]? = some (some (.ref a))) (hx : LT H a xs) (h : ∀ J, Over J H xs → R J H) : iList K (tVar j) σ H R ∨ iTup K (tVar j) σ H R := by
  rcases hx with hx | hx
  · exact .inl ⟨_, hσ, a, rfl, ⟨xs, SqL.of hx⟩, h _ (over_list hx)⟩
  · exact .inr ⟨_, hσ, a, rfl, ⟨xs, SqT.of hx⟩, h _ (over_tup hx)⟩
theorem lc_over {J : It} {xs : List V} {g : TG} {tt : TT} {te : TE} {vs : List Nat} {σ : L2.St} {H1 : Hp} {D : Addr} {Qd : Hp → Prop} (hJ : Over J H1 xs) (Pv : Nat → Hp → Prop) (h0 : Pv 0 (upd H1 D (.lst []))) (hl : ∀ i H, Pv i H → Same H1 H)
    (hs : ∀ i x H, xs[i]? = some x → Pv i H → g x (wipe σ vs) H fun σ2 H2 => wipe σ2 vs = wipe σ vs ∧ tt σ2 H2 fun b H3 =>
      if b = true then te σ2 H3 fun y H4 => ∃ acc, H4 D = some (.lst acc) ∧ acc.length < sizeLine ∧ Pv (i + 1) (upd H4 D (.lst (acc ++ [y]))) else Pv (i + 1) H3) (hd : ∀ H, Pv xs.length H → Qd H) :
    ∃ W : Nat → Nat → Hp → Prop, (∃ m, W 0 m (upd H1 D (.lst []))) ∧ ∀ i m H, W i m H →
      (J.stop i H ∧ Qd H) ∨ (J.go i H ∧ ∃ Nx : Hp → Prop, (∀ H', Nx H' → ∃ m', m' < m ∧ W (i + 1) m' H') ∧ ∀ x H', J.yld i H x H' → g x (wipe σ vs) H' fun σ2 H2 => wipe σ2 vs = wipe σ vs ∧ tt σ2 H2 fun b H3 =>
        if b = true then te σ2 H3 fun y H4 => ∃ acc, H4 D = some (.lst acc) ∧ acc.length < sizeLine ∧ Nx (upd H4 D (.lst (acc ++ [y]))) else Nx H3) := by
  refine ⟨fun i m H => m + i = xs.length ∧ Pv i H, ⟨xs.length, rfl, h0⟩, fun i m H ⟨e, p⟩ => ?_⟩
  have s := hl i H p
  by_cases hi : i < xs.length
  · refine .inr ⟨hJ.go i H s hi, Pv (i + 1), fun H' p' => ⟨m - 1, by omega, by omega, p'⟩, fun x H' y => ?_⟩
    obtain ⟨rfl, hy⟩ := hJ.yld i H x H' s y
    have hx := List.getElem?_eq_getElem hi
    rw [hy _ hx] at hx
    exact hs i x _ hx p
  · have ei : i = xs.length := by omega
    rw [ei] at p ⊢
    exact .inl ⟨hJ.stop _ H s (Nat.le_refl _), hd H p⟩
section
variable {X : Cx}
/-- a walk over a list or a tuple -/
theorem pi_or {tg l : Expr} {w1 w2 : TI} (h1 : PI X tg l w1) (h2 : PI X tg l w2) : PI X tg l (fun σ H R => w1 σ H R ∨ w2 σ H R) :=
  ⟨fun pins s σ H R I h => h.elim (h1.run pins s σ H R I) (h2.run pins s σ H R I)⟩
end
end K81

namespace K81
open PySem PySem.Spec PyProof.Rows L2
section
variable {P : Program} {w : World} {K : PySem.W.Frag} {mg : Str → Option Value} {base : Heap}
/-! ### is_integer, is_count, is_list -/
theorem scInteger : FnScope ["value"] ["value"] (defScope sInteger) := ⟨rfl, rfl, rfl, by decide +kernel, rfl, by decide +kernel, by decide +kernel⟩
def spInteger : Sp := fun vs H Q _ => ∃ i : Int, vs = [.int i] ∧ Q (.bl true) H
theorem ok_integer {f : Addr} {fd : FuncData} (F : Fun K "is_integer" "is_integer" sInteger f fd) (T : Txt mg) : FnOk P w K mg base CX0 1 f fd ["value"] spInteger := by
  refine F.ok scInteger (fun vs H Q E h => ?_) (fun cdv A outer s H vs Q E hr h => ?_)
  · obtain ⟨i, rfl, _⟩ := h
    rfl
  · obtain ⟨i, rfl, k⟩ := h
    refine ⟨_, pss_one (ps_ret (pe_and (pe_callB call_isi (by rfl) T.isi boot_isinstance (pa_cons (pv 0) (pa_cons (pe_bltn (v := .ty "int") (by rfl) T.int PyProof.Rows.boot_int rfl) pa_nil)))
      (pe_one (pe_not (pe_callB call_isi (by rfl) T.isi boot_isinstance (pa_cons (pv 0) (pa_cons (pe_bltn (v := .ty "bool") (by rfl) T.bool PyProof.Rows.boot_bool rfl) pa_nil))))))), ?_⟩
    refine ⟨_, rfl, _, _, _, _, true, rfl, .ty "int", .base (.int i), kit_ty (by decide +kernel), true, rfl, iteT ?_⟩
    exact ⟨_, rfl, _, _, _, _, false, rfl, .ty "bool", .base (.int i), kit_ty (by decide +kernel), false, rfl, k⟩
theorem scCount : FnScope ["value"] ["value"] (defScope sCount) := ⟨rfl, rfl, rfl, by decide +kernel, rfl, by decide +kernel, by decide +kernel⟩
def spCount : Sp := fun vs H Q _ => ∃ i : Int, vs = [.int i] ∧ 0 ≤ i ∧ Q (.bl true) H
theorem ok_count {f fI : Addr} {fd fdI : FuncData} (F : Fun K "is_count" "is_count" sCount f fd) (FI : Fun K "is_integer" "is_integer" sInteger fI fdI) (bI : Binds K fdI ["value"] []) (gI : mg "is_integer" = some (.ref fI)) (T : Txt mg) :
    FnOk P w K mg base CX0 2 f fd ["value"] spCount := by
  have GI : FnOk P w K mg base CX0 1 fI fdI ["value"] spInteger := ok_integer FI T
  refine F.ok scCount (fun vs H Q E h => ?_) (fun cdv A outer s H vs Q E hr h => ?_)
  · obtain ⟨i, rfl, _⟩ := h
    rfl
  · obtain ⟨i, rfl, h0, k⟩ := h
    refine ⟨_, pss_one (ps_ret (pe_and (pe_call GI hr (by rfl) gI FI.kp bI .nil pass0 (pa_cons (pv 0) pa_nil)) (pe_one (pe_cmp (pc_ge (pv 0) pe_int) rfl)))), ?_⟩
    refine ⟨_, rfl, i, rfl, true, rfl, iteT ⟨_, rfl, i, 0, rfl, rfl, ?_⟩⟩
    show Q (V.bl (decide (0 ≤ i))) H
    rw [decide_eq_true h0]
    exact k
theorem scList : FnScope ["value"] ["value"] (defScope sList) := ⟨rfl, rfl, rfl, by decide +kernel, rfl, by decide +kernel, by decide +kernel⟩
def spList : Sp := fun vs H Q _ => ∃ (a : Addr) (xs : List V), vs = [.ref a] ∧ LT H a xs ∧ ∀ H', Same H H' → Q (.bl true) H'
theorem ok_list {f : Addr} {fd : FuncData} (F : Fun K "is_list" "is_list" sList f fd) (T : Txt mg) : FnOk P w K mg base CX0 1 f fd ["value"] spList := by
  refine F.ok scList (fun vs H Q E h => ?_) (fun cdv A outer s H vs Q E hr h => ?_)
  · obtain ⟨a, xs, rfl, _⟩ := h
    rfl
  · obtain ⟨a, xs, rfl, hx, k⟩ := h
    refine ⟨_, pss_one (ps_ret (pe_callB call_isiT (by rfl) T.isi boot_isinstance (pa_cons (pv 0) (pa_cons (pe_tup (pa_cons (pe_bltn (v := .ty "list") (by rfl) T.list PyProof.Rows.boot_list rfl) (pa_cons (pe_bltn (v := .ty "tuple") (by rfl) T.tuple PyProof.Rows.boot_tuple rfl) pa_nil))) pa_nil)))), ?_⟩
    refine ⟨_, rfl, by decide, fun t nt => ?_⟩
    have st : Same H (upd H t (.tup [.ty "list", .ty "tuple"])) := same_upd nt
    rcases hx with hx | hx
    · exact ⟨_, t, _, .type "list", [.type "list", .type "tuple"], true, rfl, upd_same, .cons (.ty _) (.cons (.ty _) .nil), .base (.lst (st _ _ hx)), kitAny_cons (kit_ty (b := "list") (r := true) (by decide +kernel)) (fun z => nomatch z) (fun _ => rfl), k _ st⟩
    · exact ⟨_, t, _, .type "tuple", [.type "list", .type "tuple"], true, rfl, upd_same, .cons (.ty _) (.cons (.ty _) .nil), .base (.tup (st _ _ hx)), kitAny_cons (kit_ty (b := "list") (r := false) (by decide +kernel)) (fun _ => kitAny_cons (kit_ty (b := "tuple") (r := true) (by decide +kernel)) (fun z => nomatch z) (fun _ => rfl)) (fun z => nomatch z), k _ st⟩

/-! ### is_web_tie -/
theorem scTie : FnScope ["copies", "value", "copy"] ["copies", "value"] (defScope sTie) := ⟨rfl, rfl, rfl, by decide +kernel, rfl, by decide +kernel, by decide +kernel⟩
def spTie : Sp := fun vs H Q _ => ∃ (n : Int) (v : V) (p : Tie), vs = [.int n, v] ∧ TieV H v p ∧ 0 ≤ p.1 ∧ p.1 < p.2 ∧ p.2 < n ∧ ∀ H', Same H H' → Q (.bl true) H'
theorem ok_tie {f fC : Addr} {fd fdC : FuncData} (F : Fun K "is_web_tie" "is_web_tie" sTie f fd) (FC : Fun K "is_count" "is_count" sCount fC fdC) (bC : Binds K fdC ["value"] []) (gC : mg "is_count" = some (.ref fC)) (GC : FnOk P w K mg base CX0 2 fC fdC ["value"] spCount) (T : Txt mg) :
    FnOk P w K mg base CX0 3 f fd ["copies", "value"] spTie := by
  refine F.ok scTie (fun vs H Q E h => ?_) (fun cdv A outer s H vs Q E hr h => ?_)
  · obtain ⟨n, v, p, rfl, _⟩ := h
    rfl
  · obtain ⟨n, v, p, rfl, ⟨t, rfl, ht⟩, h0, h1, h2, k⟩ := h
    refine ⟨_, pss_cons (ps_if (PW.pt (pw_or (pt_not (pt_val (pe_callB call_isi (by rfl) T.isi boot_isinstance (pa_cons (pv 1) (pa_cons (pe_bltn (v := .ty "tuple") (by rfl) T.tuple PyProof.Rows.boot_tuple rfl) pa_nil)))))
        (pw_or (pt_cmpR op_ne (pe_callB call_len_seq (by rfl) T.len PySem.boot_len (pa_cons (pv 1) pa_nil)) pe_int (nomark _))
        (pw_or1 (pt_not (pt_val (pe_callB (cr_all rfl) (by rfl) T.all PyProof.Rows.boot_all (pa_cons
          (pe_lc (own := [("copy", 2)]) (g := gName 2) (tt := tYes) rfl scTie.nd (pi_tup (pv 1)) (blkOk_by (N := ["copies", "value", "copy"]) (sc := defScope sTie) (by decide +kernel)) (fun _ _ _ _ _ => pg_name (i := 2) scTie.nd rfl (Or.inl rfl)) (fun _ _ _ _ _ => pts_nil)
            (fun _ _ _ _ _ => pe_call GC hr (by rfl) gC FC.kp bC .nil pass0 (pa_cons (pv 2) pa_nil))) pa_nil))))))))
        (pss_one (ps_ret pe_bl)) pss_nil)
      (pss_one (ps_ret (pe_chain op_lt op_lt (pe_ix ix_tup (pv 1) pe_int (fun _ _ => rfl)) (pe_ix ix_tup (pv 1) pe_int (fun _ _ => rfl)) (pv 0)))), ?_⟩
    -- not isinstance(value, tuple)
    refine ⟨_, rfl, _, _, _, _, true, rfl, .ty "tuple", .base (.tup ht), kit_ty (by decide +kernel), true, rfl, iteF ?_⟩
    -- len(value) != 2
    refine ⟨_, rfl, t, _, rfl, .inr (SqT.of ht), rfl, _, rfl, iteNS (show V.int ((2 : Nat) : Int) = V.int 2 from rfl) ?_⟩
    -- not all([is_count(copy) for copy in value])
    refine ⟨_, rfl, t, rfl, ⟨_, SqT.of ht⟩, fun D nD => lc_tup (K := K) (a := t) (xs := [V.int p.1, V.int p.2]) (Acc V.bl (fun _ : Int => some true) [p.1, p.2] H D) (Acc.start nD) (fun i H' _ a => SqT.of (a.same _ _ ht)) (fun i x H' hx a => ?_) (fun H' a => ?_)⟩
    · have hi : ∃ z : Int, x = .int z ∧ 0 ≤ z ∧ ([p.1, p.2] : List Int)[i]? = some z := by
        match i, hx with
        | 0, hx => exact ⟨p.1, (Option.some.inj hx).symm, h0, rfl⟩
        | 1, hx => exact ⟨p.2, (Option.some.inj hx).symm, by omega, rfl⟩
        | i + 2, hx => cases hx
      obtain ⟨z, rfl, hz, he⟩ := hi
      refine ⟨rfl, yes_put ?_⟩
      exact ⟨_, rfl, z, rfl, hz, a.more nD he (Same.refl _) rfl (by show 2 < sizeLine; decide)⟩
    · obtain ⟨s1, hD⟩ := a.done
      refine ⟨D, [true, true], rfl, SqL.of hD, true, rfl, iteF ?_⟩
      refine ⟨_, rfl, t, _, 0, .int p.1, rfl, rfl, SqT.of (s1 _ _ ht), atI_nat (j := 0) rfl, _, rfl, t, _, 1, .int p.2, rfl, rfl, SqT.of (s1 _ _ ht), atI_nat (j := 1) rfl, p.1, p.2, rfl, rfl,
        true, congrArg V.bl (decide_eq_true h1), iteT ⟨_, rfl, p.2, n, rfl, rfl, ?_⟩⟩
      show Q (V.bl (decide (p.2 < n))) H'
      rw [decide_eq_true h2]
      exact k _ s1
end
end K81

namespace K81
open PySem PySem.Spec PyProof.Rows L2
section
variable {P : Program} {w : World} {K : PySem.W.Frag} {mg : Str → Option Value} {base : Heap}
/-! ### is_web_value -/
theorem scWeb : FnScope ["value", "copies", "ties", "tie", "at"] ["value"] (defScope sWeb) := ⟨rfl, rfl, rfl, by decide +kernel, rfl, by decide +kernel, by decide +kernel⟩
/-- a web at v: so many copies, its ties as they stand -/
structure WebAt (H : Hp) (v : V) (n : Nat) (T : List Tie) (L : Addr) (xs : List V) : Prop where
  tup : ∃ a, v = .ref a ∧ H a = some (.tup [.int n, .ref L])
  seq : LT H L xs
  ties : Ties H xs T
  good : G81.Good n T
  one : 1 ≤ n
  six : n ≤ 6
  size : T.length ≤ 100
theorem WebAt.same {H H' : Hp} {v : V} {n : Nat} {T : List Tie} {L : Addr} {xs : List V} (s : Same H H') (h : WebAt H v n T L xs) : WebAt H' v n T L xs :=
  ⟨let ⟨a, e, q⟩ := h.tup; ⟨a, e, s _ _ q⟩, h.seq.same s, h.ties.same s, h.good, h.one, h.six, h.size⟩
def spWeb : Sp := fun vs H Q _ => ∃ (v : V) (n : Nat) (T : List Tie) (L : Addr) (xs : List V), vs = [v] ∧ WebAt H v n T L xs ∧ ∀ H', Same H H' → Q (.bl true) H'
theorem ok_web {f fC fL fT : Addr} {fd fdC fdL fdT : FuncData} (F : Fun K "is_web_value" "is_web_value" sWeb f fd)
    (FC : Fun K "is_count" "is_count" sCount fC fdC) (bC : Binds K fdC ["value"] []) (gC : mg "is_count" = some (.ref fC)) (GC : FnOk P w K mg base CX0 2 fC fdC ["value"] spCount)
    (FL : Fun K "is_list" "is_list" sList fL fdL) (bL : Binds K fdL ["value"] []) (gL : mg "is_list" = some (.ref fL)) (GL : FnOk P w K mg base CX0 1 fL fdL ["value"] spList)
    (FT : Fun K "is_web_tie" "is_web_tie" sTie fT fdT) (bT : Binds K fdT ["copies", "value"] []) (gT : mg "is_web_tie" = some (.ref fT)) (GT : FnOk P w K mg base CX0 3 fT fdT ["copies", "value"] spTie) (T : Txt mg) :
    FnOk P w K mg base CX0 4 f fd ["value"] spWeb := by
  refine F.ok scWeb (fun vs H Q E h => ?_) (fun cdv A outer s H vs Q E hr h => ?_)
  · obtain ⟨v, n, T, L, xs, rfl, _⟩ := h
    rfl
  · obtain ⟨v, n, ts, L, xs, rfl, W, k⟩ := h
    obtain ⟨a, rfl, ha⟩ := W.tup
    obtain ⟨tk, m6⟩ := T.most
    have hu : A.units + 3 + 65 < cLine := by
      have := hr.un
      show _ < cLine
      have e : (A.deeper (envOfC "is_web_value" (defScope sWeb) s.heap.objs.size f cdv)).units = A.units + 3 := rfl
      omega
    refine ⟨_, pss_cons (ps_if (PW.pt (pw_or (pt_not (pt_val (pe_callB call_isi (by rfl) T.isi boot_isinstance (pa_cons (pv 0) (pa_cons (pe_bltn (v := .ty "tuple") (by rfl) T.tuple PyProof.Rows.boot_tuple rfl) pa_nil)))))
        (pw_or1 (pt_cmpR op_ne (pe_callB call_len_seq (by rfl) T.len PySem.boot_len (pa_cons (pv 0) pa_nil)) pe_int (nomark _))))) (pss_one (ps_ret pe_bl)) pss_nil)
      (pss_cons (ps_asg (pv 0) (pg_tup rfl (pgs_cons (pg_name (i := 1) scWeb.nd rfl (.inr rfl)) (pgs_cons (pg_name (i := 2) scWeb.nd rfl (.inr rfl)) pgs_nil))))
      (pss_cons (ps_if (PW.pt (pw_or (pt_not (pt_val (pe_call GC (hr.mono (by decide)) (by rfl) gC FC.kp bC .nil pass0 (pa_cons (pv 1) pa_nil))))
        (pw_or (pt_not (pt_chain op_le op_le pe_int (pv 1) (pe_glob (v := .int 6) (by rfl) m6 ⟨_, rfl⟩)))
        (pw_or1 (pt_not (pt_val (pe_call GL (hr.mono (by decide)) (by rfl) gL FL.kp bL .nil pass0 (pa_cons (pv 2) pa_nil)))))))) (pss_one (ps_ret pe_bl)) pss_nil)
      (pss_cons (ps_if (pt_not (pt_val (pe_callB (cr_all rfl) (by rfl) T.all PyProof.Rows.boot_all (pa_cons
          (pe_lc (own := [("tie", 3)]) (g := gName 3) (tt := tYes) rfl scWeb.nd (pi_or (pi_list (pv 2)) (pi_tup (pv 2))) (blkOk_by (N := ["value", "copies", "ties", "tie", "at"]) (sc := defScope sWeb) (by decide +kernel)) (fun _ _ _ _ _ => pg_name (i := 3) scWeb.nd rfl (Or.inl rfl)) (fun _ _ _ _ _ => pts_nil)
            (fun _ _ _ _ _ => pe_call GT hr (by rfl) gT FT.kp bT .nil pass0 (pa_cons (pv 1) (pa_cons (pv 3) pa_nil)))) pa_nil)))) (pss_one (ps_ret pe_bl)) pss_nil)
      (pss_one (ps_ret (pe_callB (cr_all rfl) (by rfl) T.all PyProof.Rows.boot_all (pa_cons
          (pe_lc (own := [("at", 4)]) (g := gName 4) (tt := tYes) rfl scWeb.nd (pi_range1 (by rfl) T.range (pa_cons (pe_callB call_len_seq (by rfl) T.len PySem.boot_len (pa_cons (pv 2) pa_nil)) pa_nil)) (blkOk_by (N := ["value", "copies", "ties", "tie", "at"]) (sc := defScope sWeb) (by decide +kernel)) (fun _ _ _ _ _ => pg_name (i := 4) scWeb.nd rfl (Or.inl rfl)) (fun _ _ _ _ _ => pts_nil)
            (fun _ _ _ _ _ => pe_cmpR (r := rNotInP K) (op_notInP hu) (pe_ix (r := rIx K) ix_seq (pv 2) (pv 4) (fun _ _ => rfl)) (pe_slice (r := fun x lo hi H Q => rSlL K x lo hi H Q ∨ rSlT K x lo hi H Q) (SlR.or (r := rSlL K) (r' := rSlT K) sl_list sl_tup) (pv 2) po_none (po_some (pv 4))) (by rfl))) pa_nil))))))), ?_⟩
    -- the tuple
    refine ⟨_, rfl, _, _, _, _, true, rfl, .ty "tuple", .base (.tup ha), kit_ty (by decide +kernel), true, rfl, iteF ?_⟩
    refine ⟨_, rfl, a, _, rfl, .inr (SqT.of ha), rfl, _, rfl, iteNS (show V.int ((2 : Nat) : Int) = V.int 2 from rfl) ?_⟩
    refine ⟨_, rfl, a, _, rfl, SqT.of ha, rfl, _, _, rfl, _, _, rfl, rfl, ?_⟩
    -- copies, then the list
    refine ⟨_, rfl, (n : Int), rfl, by omega, true, rfl, iteF ?_⟩
    have h1 : (1 : Int) ≤ (n : Int) := by have := W.one; omega
    have h6 : (n : Int) ≤ 6 := by have := W.six; omega
    refine ⟨_, rfl, 1, (n : Int), rfl, rfl, true, congrArg V.bl (decide_eq_true h1), iteT ⟨(n : Int), 6, rfl, rfl, true, congrArg V.bl (decide_eq_true h6), iteF ?_⟩⟩
    refine ⟨_, rfl, L, xs, rfl, W.seq, fun H1 s1 => ⟨true, rfl, iteF ?_⟩⟩
    have W1 := W.same s1
    have hlen : xs.length = ts.length := W.ties.length
    have hz : ts.length < sizeLine := Nat.lt_of_le_of_lt W.size (by decide)
    -- all([is_web_tie(copies, tie) for tie in ties])
    refine over_or (a := L) (xs := xs) ?_ W1.seq fun J hJ D nD => ?_
    · rfl
    refine lc_over hJ (Acc V.bl (fun _ : Tie => some true) ts H1 D) (Acc.start nD) (fun i H' c => c.same) (fun i x H' hx c => ?_) (fun H' c => ?_)
    · obtain ⟨p, hp, ht⟩ := paired_at (W1.ties.same c.same) hx
      have g := W.good.ok p (List.mem_of_getElem? hp)
      refine ⟨rfl, yes_put ?_⟩
      exact ⟨_, rfl, _, rfl, (n : Int), x, p, rfl, ht, g.1, g.2.1, g.2.2, fun H'' s'' => c.more nD hp s'' rfl hz⟩
    · rw [hlen] at c
      obtain ⟨s2, hD⟩ := c.done
      have e : (ts.filterMap fun _ : Tie => some true) = ts.map fun _ => true := all_fm _ _
      rw [e] at hD
      have W2 := W1.same s2
      refine ⟨D, _, rfl, SqL.of hD, true, ?_, iteF ?_⟩
      · refine congrArg V.bl ?_
        rw [List.all_map, List.all_eq_true]
        intro _ _
        rfl
      -- all([ties[at] not in ties[:at] for at in range(len(ties))])
      refine ⟨_, rfl, L, xs, rfl, W2.seq.seq, ((xs.length : Nat) : Int), rfl, by omega, by rw [hlen]; have := W.size; omega, fun D2 nD2 => ?_⟩
      refine lc_range (n := xs.length) (Acc V.bl (fun _ : Nat => some true) (List.range xs.length) H' D2) (Acc.start nD2) (fun i H3 hi c => ?_) (fun H3 c => ?_)
      · have W3 := W2.same c.same
        have hx : xs[i]? = some xs[i] := List.getElem?_eq_getElem hi
        obtain ⟨p, hp, ht⟩ := paired_at W3.ties hx
        have hr' : (List.range xs.length)[i]? = some i := List.getElem?_range hi
        have hz' : (List.range xs.length).length < sizeLine := by rw [List.length_range, hlen]; exact hz
        have hno : (!decide (p ∈ ts.take i)) = true := by
          have hnd := W.good.nd
          have hn : p ∉ ts.take i := fun hm => by
            obtain ⟨j, hj⟩ := List.getElem?_of_mem hm
            rw [List.getElem?_take] at hj
            split at hj
            · rename_i hji
              have := nd_ix hnd hj hp
              omega
            · cases hj
          rw [decide_eq_false hn]
          rfl
        have e0 : (0 : Int) + (i : Nat) = (i : Nat) := by omega
        refine ⟨rfl, yes_put ?_⟩
        rcases W3.seq with hq | hq
        · refine ⟨_, rfl, _, rfl, .inl ⟨L, xs, _, xs[i], rfl, rfl, SqL.of hq, by rw [e0]; exact atI_nat hx, ?_⟩⟩
          refine ⟨_, rfl, _, rfl, _, rfl, .inl ⟨L, xs, rfl, SqL.of hq, fun D3 nD3 => ?_⟩⟩
          have s3 : Same H3 (upd H3 D3 (.lst (cutV xs none (some (0 + (i : Int)))))) := same_upd nD3
          refine ⟨D3, xs.take i, ts.take i, p, rfl, .inl (SqL.of ?_), Ties.same s3 (paired_take i W3.ties), ht.same s3, ?_⟩
          · rw [upd_same, e0, cut_to xs i (Nat.le_of_lt hi)]
          · rw [hno]
            exact c.more nD2 hr' s3 rfl hz'
        · refine ⟨_, rfl, _, rfl, .inr (.inl ⟨L, xs, _, xs[i], rfl, rfl, SqT.of hq, by rw [e0]; exact atI_nat hx, ?_⟩)⟩
          refine ⟨_, rfl, _, rfl, _, rfl, .inr ⟨L, xs, rfl, SqT.of hq, ?_, fun D3 nD3 => ?_⟩⟩
          · rw [e0, HT.sIx_nat]
            omega
          have s3 : Same H3 (upd H3 D3 (.tup (cutV xs none (some (0 + (i : Int)))))) := same_upd nD3
          refine ⟨D3, xs.take i, ts.take i, p, rfl, .inr (SqT.of ?_), Ties.same s3 (paired_take i W3.ties), ht.same s3, ?_⟩
          · rw [upd_same, e0, cut_to xs i (Nat.le_of_lt hi)]
          · rw [hno]
            exact c.more nD2 hr' s3 rfl hz'
      · have c' : Acc V.bl (fun _ : Nat => some true) (List.range xs.length) H' D2 (List.range xs.length).length H3 := by rw [List.length_range]; exact c
        obtain ⟨s4, hD4⟩ := c'.done
        have e : ((List.range xs.length).filterMap fun _ : Nat => some true) = (List.range xs.length).map fun _ => true := all_fm _ _
        rw [e] at hD4
        refine ⟨D2, _, rfl, SqL.of hD4, ?_⟩
        have e5 : (((List.range xs.length).map fun _ => true).all id) = true := by
          rw [List.all_map, List.all_eq_true]
          intro _ _
          rfl
        rw [e5]
        exact k _ (s1.trans (s2.trans s4))
end
end K81

namespace K81
open PySem PySem.Spec PyProof.Rows L2
section
variable {P : Program} {w : World} {K : PySem.W.Frag} {mg : Str → Option Value} {base : Heap}
/-! ### want_web, is_web, told_web -/
abbrev tieGe (a b : Tie) : Prop := ¬ (b.1 < a.1 ∨ (b.1 = a.1 ∧ b.2 < a.2))
/-- behind H a new tuple stands at p: so many copies, and a new list of the same ties, sorted -/
structure Told (H H' : Hp) (p : Addr) (n : Nat) (T : List Tie) : Prop where
  same : Same H H'
  fresh : H p = none
  plc : ∃ (l : Addr) (ys : List V) (T' : List Tie), H l = none ∧ H' p = some (.tup [.int n, .ref l]) ∧ H' l = some (.lst ys) ∧ Ties H' ys T' ∧ T'.Perm T ∧ T'.Pairwise tieGe
def spWant : Sp := fun vs H Q _ => ∃ (v : V) (n : Nat) (T : List Tie) (L : Addr) (xs : List V), vs = [v] ∧ WebAt H v n T L xs ∧ ∀ H' p, Told H H' p n T → Q (.ref p) H'
theorem scWant : FnScope ["value"] ["value"] (defScope sWant) := ⟨rfl, rfl, rfl, by decide +kernel, rfl, by decide +kernel, by decide +kernel⟩
theorem ok_want {f fW : Addr} {fd fdW : FuncData} (F : Fun K "want_web" "want_web" sWant f fd)
    (FW : Fun K "is_web_value" "is_web_value" sWeb fW fdW) (bW : Binds K fdW ["value"] []) (gW : mg "is_web_value" = some (.ref fW)) (GW : FnOk P w K mg base CX0 4 fW fdW ["value"] spWeb) (T : Txt mg) :
    FnOk P w K mg base CX0 5 f fd ["value"] spWant := by
  refine F.ok scWant (fun vs H Q E h => ?_) (fun cdv A outer s H vs Q E hr h => ?_)
  · obtain ⟨v, n, T, L, xs, rfl, _⟩ := h
    rfl
  · obtain ⟨v, n, ts, L, xs, rfl, W, k⟩ := h
    obtain ⟨a, rfl, ha⟩ := W.tup
    refine ⟨_, pss_cons (ps_if (pt_not (pt_val (pe_call GW hr (by rfl) gW FW.kp bW .nil pass0 (pa_cons (pv 0) pa_nil)))) (pss_one ps_never) pss_nil)
      (pss_one (ps_ret (pe_tup (pa_cons (pe_ix ix_tup (pv 0) pe_int (fun _ _ => rfl)) (pa_cons (pe_callB cr_sortT' (by rfl) T.sorted boot_sorted (pa_cons (pe_ix ix_tup (pv 0) pe_int (fun _ _ => rfl)) pa_nil)) pa_nil))))), ?_⟩
    refine ⟨_, rfl, _, n, ts, L, xs, rfl, W, fun H1 s1 => ⟨true, rfl, iteF ?_⟩⟩
    have W1 := W.same s1
    have ha1 := s1 _ _ ha
    refine ⟨_, rfl, a, _, 0, _, rfl, rfl, SqT.of ha1, atI_nat (j := 0) rfl, _, rfl, a, _, 1, _, rfl, rfl, SqT.of ha1, atI_nat (j := 1) rfl, L, xs, ts, rfl, W1.seq.seq, W1.ties, fun ys T' l t1 t2 t3 nl => ?_⟩
    have s2 : Same H1 (upd H1 l (.lst ys)) := same_upd nl
    refine ⟨by show 2 ≤ sizeLine; decide, fun p np => ?_⟩
    have s3 : Same (upd H1 l (.lst ys)) (upd (upd H1 l (.lst ys)) p (.tup [.int n, .ref l])) := same_upd np
    exact k _ p ⟨s1.trans (s2.trans s3), (s1.trans s2).free np, l, ys, T', s1.free nl, upd_same, s3 _ _ upd_same, Ties.same (s2.trans s3) t1, t2, t3⟩
theorem scIsWeb : FnScope ["value"] ["value"] (defScope sIsWeb) := ⟨rfl, rfl, rfl, by decide +kernel, rfl, by decide +kernel, by decide +kernel⟩
theorem ok_isWeb {f fW : Addr} {fd fdW : FuncData} (F : Fun K "is_web" "is_web" sIsWeb f fd)
    (FW : Fun K "is_web_value" "is_web_value" sWeb fW fdW) (bW : Binds K fdW ["value"] []) (gW : mg "is_web_value" = some (.ref fW)) (GW : FnOk P w K mg base CX0 4 fW fdW ["value"] spWeb) :
    FnOk P w K mg base CX0 5 f fd ["value"] spWeb := by
  refine F.ok scIsWeb (fun vs H Q E h => ?_) (fun cdv A outer s H vs Q E hr h => ?_)
  · obtain ⟨v, n, T, L, xs, rfl, _⟩ := h
    rfl
  · obtain ⟨v, n, ts, L, xs, rfl, W, k⟩ := h
    refine ⟨_, pss_one (ps_ret (pe_call GW hr (by rfl) gW FW.kp bW .nil pass0 (pa_cons (pv 0) pa_nil))), ?_⟩
    exact ⟨_, rfl, v, n, ts, L, xs, rfl, W, k⟩
theorem scTold : FnScope ["web"] ["web"] (defScope sTold) := ⟨rfl, rfl, rfl, by decide +kernel, rfl, by decide +kernel, by decide +kernel⟩
theorem ok_told {f fW : Addr} {fd fdW : FuncData} (F : Fun K "told_web" "told_web" sTold f fd)
    (FW : Fun K "want_web" "want_web" sWant fW fdW) (bW : Binds K fdW ["value"] []) (gW : mg "want_web" = some (.ref fW)) (GW : FnOk P w K mg base CX0 5 fW fdW ["value"] spWant) :
    FnOk P w K mg base CX0 6 f fd ["web"] spWant := by
  refine F.ok scTold (fun vs H Q E h => ?_) (fun cdv A outer s H vs Q E hr h => ?_)
  · obtain ⟨v, n, T, L, xs, rfl, _⟩ := h
    rfl
  · obtain ⟨v, n, ts, L, xs, rfl, W, k⟩ := h
    refine ⟨_, pss_one (ps_ret (pe_call GW hr (by rfl) gW FW.kp bW .nil pass0 (pa_cons (pv 0) pa_nil))), ?_⟩
    exact ⟨_, rfl, v, n, ts, L, xs, rfl, W, k⟩

/-! ### web_neighbours -/
theorem scNbr : FnScope ["web", "copy", "found", "low", "high"] ["web", "copy"] (defScope sNbr) := ⟨rfl, rfl, rfl, by decide +kernel, rfl, by decide +kernel, by decide +kernel⟩
/-- a told web at v: the ties in a list -/
structure WebL (H : Hp) (v : V) (n : Nat) (T : List Tie) : Prop where
  plc : ∃ (a L : Addr) (xs : List V), v = .ref a ∧ H a = some (.tup [.int n, .ref L]) ∧ H L = some (.lst xs) ∧ Ties H xs T
  good : G81.Good n T
  size : T.length ≤ 100
theorem WebL.same {H H' : Hp} {v : V} {n : Nat} {T : List Tie} (s : Same H H') (h : WebL H v n T) : WebL H' v n T :=
  ⟨let ⟨a, L, xs, e, q1, q2, q3⟩ := h.plc; ⟨a, L, xs, e, s _ _ q1, s _ _ q2, q3.same s⟩, h.good, h.size⟩
def IntsNew (H H' : Hp) (p : Addr) (ns : List Int) : Prop := Same H H' ∧ H p = none ∧ H' p = some (.lst (ns.map V.int))
def spNbr : Sp := fun vs H Q _ => ∃ (v : V) (n : Nat) (T : List Tie) (c : Int), vs = [v, .int c] ∧ WebL H v n T ∧ ∀ H' p, IntsNew H H' p (G81.nb n T c) → Q (.ref p) H'
theorem lows_fm (T : List Tie) (c : Int) : T.filterMap (fun p : Tie => if p.2 = c then some p.1 else none) = G81.lows T c := by
  unfold G81.lows
  induction T with
  | nil => rfl
  | cons p T ih =>
    rw [List.filterMap_cons, List.filter_cons]
    by_cases h : p.2 = c
    · rw [if_pos h, ih, if_pos (decide_eq_true h)]
      rfl
    · rw [if_neg h, ih, if_neg (by simp [h])]
theorem highs_fm (T : List Tie) (c : Int) : T.filterMap (fun p : Tie => if p.1 = c then some p.2 else none) = G81.highs T c := by
  unfold G81.highs
  induction T with
  | nil => rfl
  | cons p T ih =>
    rw [List.filterMap_cons, List.filter_cons]
    by_cases h : p.1 = c
    · rw [if_pos h, ih, if_pos (decide_eq_true h)]
      rfl
    · rw [if_neg h, ih, if_neg (by simp [h])]
theorem ok_nbr {f : Addr} {fd : FuncData} (F : Fun K "web_neighbours" "web_neighbours" sNbr f fd) (T : Txt mg) : FnOk P w K mg base CX0 1 f fd ["web", "copy"] spNbr := by
  refine F.ok scNbr (fun vs H Q E h => ?_) (fun cdv A outer s H vs Q E hr h => ?_)
  · obtain ⟨v, n, T, c, rfl, _⟩ := h
    rfl
  · obtain ⟨v, n, ts, c, rfl, W, k⟩ := h
    obtain ⟨a, L, xs, rfl, ha, hL, hT⟩ := W.plc
    refine ⟨_, pss_cons (ps_set (i := 2) scNbr.nd rfl (Or.inl rfl) (pe_op op_cat
        (pe_lc (own := [("low", 3), ("high", 4)]) (g := gTup K 2 (gCons (gName 3) (gCons (gName 4) gNil))) rfl scNbr.nd (pi_list (pe_ix ix_tup (pv 0) pe_int (fun _ _ => rfl))) (blkOk_by (N := ["web", "copy", "found", "low", "high"]) (sc := defScope sNbr) (by decide +kernel))
          (fun _ _ _ _ _ => pg_tup rfl (pgs_cons (pg_name (i := 3) scNbr.nd rfl (.inl rfl)) (pgs_cons (pg_name (i := 4) scNbr.nd rfl (.inl rfl)) pgs_nil)))
          (fun _ _ _ _ _ => pts_one (pt_cmpR op_eq (pv 4) (pv 1) (nomark _))) (fun _ _ _ _ _ => pv 3))
        (pe_lc (own := [("low", 3), ("high", 4)]) (g := gTup K 2 (gCons (gName 3) (gCons (gName 4) gNil))) rfl scNbr.nd (pi_list (pe_ix ix_tup (pv 0) pe_int (fun _ _ => rfl))) (blkOk_by (N := ["web", "copy", "found", "low", "high"]) (sc := defScope sNbr) (by decide +kernel))
          (fun _ _ _ _ _ => pg_tup rfl (pgs_cons (pg_name (i := 3) scNbr.nd rfl (.inl rfl)) (pgs_cons (pg_name (i := 4) scNbr.nd rfl (.inl rfl)) pgs_nil)))
          (fun _ _ _ _ _ => pts_one (pt_cmpR op_eq (pv 3) (pv 1) (nomark _))) (fun _ _ _ _ _ => pv 4))))
      (pss_one (ps_ret (pe_callB cr_sortedI (by rfl) T.sorted boot_sorted (pa_cons (pv 2) pa_nil)))), ?_⟩
    have hz : ts.length < sizeLine := Nat.lt_of_le_of_lt W.size (by decide)
    refine ⟨_, rfl, a, _, 1, _, rfl, rfl, SqT.of ha, atI_nat (j := 1) rfl, L, rfl, ⟨_, SqL.of hL⟩, fun D nD => ?_⟩
    refine lc_list (K := K) (a := L) (xs := xs) (Acc V.int (fun p : Tie => if p.2 = c then some p.1 else none) ts H D) (Acc.start nD) (fun i H' _ b => SqL.of (b.same _ _ hL)) (fun i x H' hx b => ?_) (fun H1 b => ?_)
    · obtain ⟨p, hp, t, rfl, ht⟩ := paired_at (hT.same b.same) hx
      refine ⟨t, _, rfl, SqT.of ht, rfl, _, _, rfl, _, _, rfl, rfl, rfl, _, rfl, _, rfl, rfl, _, rfl, ?_⟩
      by_cases e : p.2 = c
      · refine (if_pos (decide_eq_true (congrArg V.int e))).mpr ?_
        exact ⟨_, rfl, b.more nD hp (Same.refl _) (if_pos e) hz⟩
      · refine (if_neg ?_).mpr (b.less hp (Same.refl _) (if_neg e))
        intro q
        exact e (V.int.inj (of_decide_eq_true q))
    rw [hT.length] at b
    obtain ⟨s1, hD⟩ := b.done
    rw [lows_fm] at hD
    have hT1 := hT.same s1
    refine ⟨_, rfl, a, _, 1, _, rfl, rfl, SqT.of (s1 _ _ ha), atI_nat (j := 1) rfl, L, rfl, ⟨_, SqL.of (s1 _ _ hL)⟩, fun D2 nD2 => ?_⟩
    refine lc_list (K := K) (a := L) (xs := xs) (Acc V.int (fun p : Tie => if p.1 = c then some p.2 else none) ts H1 D2) (Acc.start nD2) (fun i H' _ b => SqL.of (b.same _ _ (s1 _ _ hL))) (fun i x H' hx b => ?_) (fun H2 b => ?_)
    · obtain ⟨p, hp, t, rfl, ht⟩ := paired_at (hT1.same b.same) hx
      refine ⟨t, _, rfl, SqT.of ht, rfl, _, _, rfl, _, _, rfl, rfl, rfl, _, rfl, _, rfl, rfl, _, rfl, ?_⟩
      by_cases e : p.1 = c
      · refine (if_pos (decide_eq_true (congrArg V.int e))).mpr ?_
        exact ⟨_, rfl, b.more nD2 hp (Same.refl _) (if_pos e) hz⟩
      · refine (if_neg ?_).mpr (b.less hp (Same.refl _) (if_neg e))
        intro q
        exact e (V.int.inj (of_decide_eq_true q))
    rw [hT.length] at b
    obtain ⟨s2, hD2⟩ := b.done
    rw [highs_fm] at hD2
    refine ⟨D, D2, _, _, rfl, rfl, s2 _ _ hD, hD2, ?_, fun D3 nD3 => ?_⟩
    · have h1 : (G81.lows ts c).length ≤ ts.length := by unfold G81.lows; rw [List.length_map]; exact List.length_filter_le _ _
      have h2 : (G81.highs ts c).length ≤ ts.length := by unfold G81.highs; rw [List.length_map]; exact List.length_filter_le _ _
      have := W.size
      rw [List.length_map, List.length_map]
      exact Nat.le_trans (show _ ≤ 200 by omega) (by decide)
    rw [← List.map_append]
    have s3 := same_upd (o := .lst ((G81.lows ts c ++ G81.highs ts c).map V.int)) nD3
    refine ⟨_, rfl, D3, G81.lows ts c ++ G81.highs ts c, rfl, SqL.of upd_same, fun ns p hp hs np => ?_⟩
    have e := G81.near_eq' W.good c hp hs
    subst e
    exact k _ p ⟨s1.trans (s2.trans (s3.trans (same_upd np))), s1.free (s2.free (s3.free np)), upd_same⟩

/-! ### neighbours -/
theorem Told.web {H H' : Hp} {p : Addr} {n : Nat} {T : List Tie} (t : Told H H' p n T) (g : G81.Good n T) (z : T.length ≤ 100) : ∃ T', WebL H' (.ref p) n T' ∧ T'.Perm T := by
  obtain ⟨l, ys, T', _, h1, h2, h3, h4, _⟩ := t.plc
  exact ⟨T', ⟨⟨p, l, ys, rfl, h1, h2, h3⟩, g.perm h4.symm, by rw [h4.length_eq]; exact z⟩, h4⟩
theorem nb_perm {T T' : List Tie} (p : T'.Perm T) (n : Nat) (c : Int) : G81.nb n T' c = G81.nb n T c := by
  unfold G81.nb
  rw [G81.adjT_perm p]
theorem scNeighbours : FnScope ["web", "copy", "told"] ["web", "copy"] (defScope sNeighbours) := ⟨rfl, rfl, rfl, by decide +kernel, rfl, by decide +kernel, by decide +kernel⟩
def spNeighbours : Sp := fun vs H Q _ => ∃ (v : V) (n : Nat) (T : List Tie) (L : Addr) (xs : List V) (c : Int), vs = [v, .int c] ∧ WebAt H v n T L xs ∧ 0 ≤ c ∧ c < n ∧ ∀ H' p, IntsNew H H' p (G81.nb n T c) → Q (.ref p) H'
theorem ok_neighbours {f fW fC fN : Addr} {fd fdW fdC fdN : FuncData} (F : Fun K "neighbours" "neighbours" sNeighbours f fd)
    (FW : Fun K "want_web" "want_web" sWant fW fdW) (bW : Binds K fdW ["value"] []) (gW : mg "want_web" = some (.ref fW)) (GW : FnOk P w K mg base CX0 5 fW fdW ["value"] spWant)
    (FC : Fun K "is_count" "is_count" sCount fC fdC) (bC : Binds K fdC ["value"] []) (gC : mg "is_count" = some (.ref fC)) (GC : FnOk P w K mg base CX0 2 fC fdC ["value"] spCount)
    (FN : Fun K "web_neighbours" "web_neighbours" sNbr fN fdN) (bN : Binds K fdN ["web", "copy"] []) (gN : mg "web_neighbours" = some (.ref fN)) (GN : FnOk P w K mg base CX0 1 fN fdN ["web", "copy"] spNbr) :
    FnOk P w K mg base CX0 6 f fd ["web", "copy"] spNeighbours := by
  refine F.ok scNeighbours (fun vs H Q E h => ?_) (fun cdv A outer s H vs Q E hr h => ?_)
  · obtain ⟨v, n, T, L, xs, c, rfl, _⟩ := h
    rfl
  · obtain ⟨v, n, ts, L, xs, c, rfl, W, c0, c1, k⟩ := h
    refine ⟨_, pss_cons (ps_set (i := 2) scNeighbours.nd rfl (Or.inl rfl) (pe_call GW hr (by rfl) gW FW.kp bW .nil pass0 (pa_cons (pv 0) pa_nil)))
      (pss_cons (ps_if (PW.pt (pw_or (pt_not (pt_val (pe_call GC (hr.mono (by decide)) (by rfl) gC FC.kp bC .nil pass0 (pa_cons (pv 1) pa_nil)))) (pw_or1 (pt_cmpR op_ge (pv 1) (pe_ix ix_tup (pv 2) pe_int (fun _ _ => rfl)) (nomark _))))) (pss_one ps_never) pss_nil)
      (pss_one (ps_ret (pe_call GN (hr.mono (by decide)) (by rfl) gN FN.kp bN .nil pass0 (pa_cons (pv 2) (pa_cons (pv 1) pa_nil)))))), ?_⟩
    refine ⟨_, rfl, v, n, ts, L, xs, rfl, W, fun H1 p t => ?_⟩
    obtain ⟨T', WL, pm⟩ := t.web W.good W.size
    obtain ⟨l, ys, _, _, hp, _⟩ := t.plc
    refine ⟨_, rfl, c, rfl, c0, true, rfl, iteF ?_⟩
    refine ⟨_, rfl, _, rfl, p, _, 0, _, rfl, rfl, SqT.of hp, atI_nat (j := 0) rfl, c, (n : Int), rfl, rfl, false, congrArg V.bl (decide_eq_false (by omega)), iteF ?_⟩
    refine ⟨_, rfl, _, rfl, _, n, T', c, rfl, WL, fun H2 q hq => ?_⟩
    rw [nb_perm pm] at hq
    exact k H2 q ⟨t.same.trans hq.1, t.same.free hq.2.1, hq.2.2⟩
end
end K81

namespace K81
open PySem PySem.Spec PyProof.Rows L2
section
variable {P : Program} {w : World} {K : PySem.W.Frag} {mg : Str → Option Value} {base : Heap}
/-! ### web_reached -/
theorem scReached : FnScope ["web", "found", "waiting", "here", "more", "copy"] ["web"] (defScope sReached) := ⟨rfl, rfl, rfl, by decide +kernel, rfl, by decide +kernel, by decide +kernel⟩
def spReached : Sp := fun vs H Q _ => ∃ (v : V) (n : Nat) (T : List Tie), vs = [v] ∧ WebL H v n T ∧ 1 ≤ n ∧ n ≤ 6 ∧ ∀ H' p found, IntsNew H H' p found → G81.Reach (G81.adjT T) (G81.vs n) 0 found [] → Q (.ref p) H'
theorem last_split {α : Type} {l : List α} (h : l ≠ []) : ∃ r x, l = r ++ [x] := ⟨l.dropLast, l.getLast h, (List.dropLast_concat_getLast h).symm⟩
theorem last_at' (r : List Int) (x : Int) : ((r ++ [x]).map V.int)[((r ++ [x]).map V.int).length - 1]? = some (V.int x) := by simp
theorem drop_last' (r : List Int) (x : Int) : ((r ++ [x]).map V.int).dropLast = r.map V.int := by simp
theorem vs_six {n : Nat} {l : List Int} {s : Int} {adj : Int → Int → Bool} (hn : n ≤ 6) (g : G81.Grow adj (G81.vs n) s l) : l.length ≤ 6 := by
  have := g.size
  rw [G81.vs_len] at this
  omega
theorem ok_reached {f fN : Addr} {fd fdN : FuncData} (F : Fun K "web_reached" "web_reached" sReached f fd)
    (FN : Fun K "web_neighbours" "web_neighbours" sNbr fN fdN) (bN : Binds K fdN ["web", "copy"] []) (gN : mg "web_neighbours" = some (.ref fN)) (GN : FnOk P w K mg base CX0 1 fN fdN ["web", "copy"] spNbr) :
    FnOk P w K mg base CX0 2 f fd ["web"] spReached := by
  refine F.ok scReached (fun vs H Q E h => ?_) (fun cdv A outer s H vs Q E hr h => ?_)
  · obtain ⟨v, n, T, rfl, _⟩ := h
    rfl
  · obtain ⟨v, n, ts, rfl, W, n1, n6, k⟩ := h
    have hu := hr.units
    refine ⟨_, pss_cons (ps_asg (pe_tup (pa_cons (pe_lst (pa_cons pe_int pa_nil)) (pa_cons (pe_lst (pa_cons pe_int pa_nil)) pa_nil))) (pg_tup rfl (pgs_cons (pg_name (i := 1) scReached.nd rfl (.inr rfl)) (pgs_cons (pg_name (i := 2) scReached.nd rfl (.inl rfl)) pgs_nil))))
      (pss_cons (ps_while PassesOwn.never (pt_cmpR (op_neD hu) (pv 2) (pe_lst pa_nil) (nomark _))
        (pss_cons (ps_set (i := 3) scReached.nd rfl (.inl rfl) (pe_bm0 PySem.F.plainAttrs_list PySem.F.slot_list_pop PySem.F.type_list_pop mt_pop (pv 2)))
        (pss_cons (ps_setLc (i := 4) (own := [("copy", 5)]) (g := gName 5) rfl scReached.nd rfl rfl (sw_true rfl rfl rfl (by decide +kernel)) (pi_list (pe_call GN hr (by rfl) gN FN.kp bN .nil pass0 (pa_cons (pv 0) (pa_cons (pv 3) pa_nil))))
            (blkOk_by (N := ["web", "found", "waiting", "here", "more", "copy"]) (sc := defScope sReached) (by decide +kernel)) (fun _ _ _ _ _ => pg_name (i := 5) scReached.nd rfl (Or.inl rfl))
            (fun _ _ _ _ _ => pts_one (pt_cmpR (r := rIn K true) op_notIn_seq (pv 5) (pv 1) (by rfl))) (fun _ _ _ _ _ => pv 5))
        (pss_cons (ps_expr (pe_bm PySem.F.plainAttrs_list PySem.F.slot_list_extend PySem.F.type_list_extend mt_extend (pv 1) (pa_cons (pv 4) pa_nil)))
        (pss_one (ps_expr (pe_bm PySem.F.plainAttrs_list PySem.F.slot_list_extend PySem.F.type_list_extend mt_extend (pv 2) (pa_cons (pv 4) pa_nil))))))))
      (pss_one (ps_ret (pv 1)))), ?_⟩
    -- found, waiting = [0], [0]
    refine ⟨by show 1 ≤ sizeLine; decide, fun pf nf => ⟨by show 1 ≤ sizeLine; decide, fun pw nw => ⟨by show 2 ≤ sizeLine; decide, fun pt nt => ?_⟩⟩⟩
    have nfw : pf ≠ pw := ne_of_none upd_same nw
    have s1 : Same H (upd H pf (.lst [.int 0])) := same_upd nf
    have s2 : Same (upd H pf (.lst [.int 0])) (upd (upd H pf (.lst [.int 0])) pw (.lst [.int 0])) := same_upd nw
    have s3 := same_upd (o := .tup [.ref pf, .ref pw]) nt
    have w0 : H pw = none := s1.free nw
    refine ⟨pt, _, rfl, SqT.of upd_same, rfl, _, _, rfl, _, _, rfl, rfl, ?_⟩
    -- the loop
    refine ⟨fun m σ H' => ∃ (found waiting : List Int) (o3 o4 o5 : Option V), σ = [some v, some (.ref pf), some (.ref pw), o3, o4, o5] ∧ Same H H' ∧ H' pf = some (.lst (found.map V.int)) ∧ H' pw = some (.lst (waiting.map V.int)) ∧
        G81.Reach (G81.adjT ts) (G81.vs n) 0 found waiting ∧ m = 2 * ((G81.vs n).length - found.length) + waiting.length ∧ m ≤ 100,
      ⟨_, [0], [0], none, none, none, rfl, s1.trans (s2.trans s3), s3 _ _ (s2 _ _ upd_same), s3 _ _ upd_same, .start (G81.mem_vs.mpr ⟨Int.le_refl _, by omega⟩), rfl, by rw [G81.vs_len]; show 2 * (n - 1) + 1 ≤ 100; omega⟩, fun m σ H' hW => ?_⟩
    obtain ⟨found, waiting, o3, o4, o5, rfl, sH, hf, hw, R, rfl, m100⟩ := hW
    have nwf : pw ≠ pf := fun e => nfw e.symm
    refine ⟨_, rfl, Nat.zero_le _, fun pe ne => ?_⟩
    have se : Same H' (upd H' pe (.lst [])) := same_upd ne
    refine ⟨.list (waiting.map PyData.int), .list ([].map PyData.int), .lst (SqL.of (se _ _ hw)) (ints_dp waiting), .lst (SqL.of upd_same) .nil, ints_shaped waiting, ints_shaped [], !decide (waiting = []), ?_, ?_⟩
    · rw [ints_eqv]
    by_cases hne : waiting = []
    · -- the end
      refine (if_neg (by simp [hne])).mpr ?_
      subst hne
      exact ⟨_, rfl, k _ pf found ⟨sH.trans se, nf, se _ _ hf⟩ R⟩
    refine (if_pos (by simp [hne])).mpr ?_
    obtain ⟨wt, x, rfl⟩ := last_split hne
    refine ⟨fun σ' H2 => ∃ (found waiting : List Int) (o3 o4 o5 : Option V), σ' = [some v, some (.ref pf), some (.ref pw), o3, o4, o5] ∧ Same H H2 ∧ H2 pf = some (.lst (found.map V.int)) ∧ H2 pw = some (.lst (waiting.map V.int)) ∧
        G81.Reach (G81.adjT ts) (G81.vs n) 0 found waiting ∧ 2 * ((G81.vs n).length - found.length) + waiting.length < 2 * ((G81.vs n).length - _) + _, fun σ' H2 ⟨fo, wa, o3, o4, o5, e, a, b, c, r, l⟩ => ⟨_, l, fo, wa, o3, o4, o5, e, a, b, c, r, rfl, Nat.le_trans (Nat.le_of_lt l) m100⟩, ?_⟩
    -- here = waiting.pop()
    refine ⟨_, rfl, .inl ⟨rfl, _, SqL.of (se _ _ hw)⟩, pw, _, .int x, rfl, rfl, se _ _ hw, last_at' wt x, ?_⟩
    rw [drop_last']
    have nep : pe ≠ pw := fun e => by rw [e, hw] at ne; cases ne
    have nef : pe ≠ pf := fun e => by rw [e, hf] at ne; cases ne
    have sp : Same H (upd (upd H' pe (.lst [])) pw (.lst (wt.map V.int))) := same_to (sH.trans se) w0
    have hfp : (upd (upd H' pe (.lst [])) pw (.lst (wt.map V.int))) pf = some (.lst (found.map V.int)) := by
      rw [upd_ne nfw]
      exact se _ _ hf
    -- more = [..]
    refine ⟨_, rfl, _, rfl, v, n, ts, x, rfl, W.same sp, fun H2 q hq => ?_⟩
    obtain ⟨sq, _, hq⟩ := hq
    refine ⟨q, rfl, ⟨_, SqL.of hq⟩, fun D nD => ?_⟩
    have nd6 : (G81.nb n ts x).length ≤ 6 := by
      have : (G81.nb n ts x).length ≤ (G81.vs n).length := List.length_filter_le _ _
      rw [G81.vs_len] at this
      omega
    refine lc_list (K := K) (a := q) (xs := (G81.nb n ts x).map V.int) (Acc V.int (fun y : Int => if (!decide (y ∈ found)) = true then some y else none) (G81.nb n ts x) H2 D) (Acc.start nD) (fun i H3 _ b => SqL.of (b.same _ _ hq)) (fun i y H3 hy b => ?_) (fun H3 b => ?_)
    · rw [List.getElem?_map] at hy
      cases hz : (G81.nb n ts x)[i]? with
      | none => rw [hz] at hy; cases hy
      | some z =>
        rw [hz] at hy
        obtain rfl := Option.some.inj hy
        have hf3 := b.same _ _ (sq _ _ hfp)
        refine ⟨rfl, _, rfl, _, rfl, pf, found.map V.int, rfl, .inl (SqL.of hf3), rfl, flat_ints found, !decide (z ∈ found), by rw [if_pos rfl, inV_ints], ?_⟩
        by_cases hm : z ∈ found
        · refine (if_neg (by simp [hm])).mpr (b.less hz (Same.refl _) (if_neg (by simp [hm])))
        · refine (if_pos (by simp [hm])).mpr ?_
          exact ⟨_, rfl, b.more nD hz (Same.refl _) (if_pos (by simp [hm])) (Nat.lt_of_le_of_lt nd6 (by decide))⟩
    rw [List.length_map] at b
    obtain ⟨s5, hD⟩ := b.done
    rw [filter_fm] at hD
    have em : (G81.nb n ts x).filter (fun y => !decide (y ∈ found)) = G81.more (G81.adjT ts) (G81.vs n) found x := rfl
    rw [em] at hD
    have g' := R.step (G81.vs_nodup n) W.good.inn
    have l1 := vs_six n6 g'.gr
    have lm := R.measure (G81.vs_nodup n) W.good.inn
    have l2 : (wt ++ G81.more (G81.adjT ts) (G81.vs n) found x).length ≤ 100 := by
      omega
    rw [List.length_append] at l1 l2
    -- found.extend(more)
    have hf5 := s5 _ _ (sq _ _ hfp)
    have hw5 : H3 pw = some (.lst (wt.map V.int)) := s5 _ _ (sq _ _ upd_same)
    have nDf : D ≠ pf := fun e => by rw [e] at nD; rw [sq _ _ hfp] at nD; cases nD
    have nDw : D ≠ pw := fun e => by rw [e] at nD; rw [sq _ _ upd_same] at nD; cases nD
    refine ⟨_, rfl, .inl ⟨rfl, _, SqL.of hf5⟩, _, rfl, pf, D, _, _, rfl, rfl, hf5, hD, by rw [List.length_map, List.length_map]; exact Nat.le_trans l1 (by decide), ?_⟩
    rw [← List.map_append]
    refine ⟨_, rfl, .inl ⟨rfl, wt.map V.int, SqL.of ?_⟩, _, rfl, pw, D, wt.map V.int, (G81.more (G81.adjT ts) (G81.vs n) found x).map V.int, rfl, rfl, ?_, ?_, by rw [List.length_map, List.length_map]; exact Nat.le_trans l2 (by decide), ?_⟩
    · rw [upd_ne nwf]; exact hw5
    · rw [upd_ne nwf]; exact hw5
    · rw [upd_ne nDf]; exact hD
    rw [← List.map_append]
    refine ⟨_, _, _, _, _, rfl, same_to (same_to (sp.trans (sq.trans s5)) nf) w0, ?_, upd_same, g', lm⟩
    rw [upd_ne nfw, upd_same]
/-! ### is_joined -/
def Joined (n : Nat) (T : List Tie) : Prop := ∀ x ∈ G81.vs n, G81.Conn (G81.adjT T) 0 x
theorem scJoined : FnScope ["web", "told"] ["web"] (defScope sJoined) := ⟨rfl, rfl, rfl, by decide +kernel, rfl, by decide +kernel, by decide +kernel⟩
def spJoined : Sp := fun vs H Q _ => ∃ (v : V) (n : Nat) (T : List Tie) (L : Addr) (xs : List V), vs = [v] ∧ WebAt H v n T L xs ∧ ∀ H' b, Same H H' → (b = true ↔ Joined n T) → Q (.bl b) H'
theorem ok_joined {f fW fR : Addr} {fd fdW fdR : FuncData} (F : Fun K "is_joined" "is_joined" sJoined f fd)
    (FW : Fun K "want_web" "want_web" sWant fW fdW) (bW : Binds K fdW ["value"] []) (gW : mg "want_web" = some (.ref fW)) (GW : FnOk P w K mg base CX0 5 fW fdW ["value"] spWant)
    (FR : Fun K "web_reached" "web_reached" sReached fR fdR) (bR : Binds K fdR ["web"] []) (gR : mg "web_reached" = some (.ref fR)) (GR : FnOk P w K mg base CX0 2 fR fdR ["web"] spReached) (T : Txt mg) :
    FnOk P w K mg base CX0 6 f fd ["web"] spJoined := by
  refine F.ok scJoined (fun vs H Q E h => ?_) (fun cdv A outer s H vs Q E hr h => ?_)
  · obtain ⟨v, n, T, L, xs, rfl, _⟩ := h
    rfl
  · obtain ⟨v, n, ts, L, xs, rfl, W, k⟩ := h
    refine ⟨_, pss_cons (ps_set (i := 1) scJoined.nd rfl (Or.inl rfl) (pe_call GW hr (by rfl) gW FW.kp bW .nil pass0 (pa_cons (pv 0) pa_nil)))
      (pss_one (ps_ret (pe_cmpR op_eq (pe_callB call_len_seq (by rfl) T.len PySem.boot_len (pa_cons (pe_call GR (hr.mono (by decide)) (by rfl) gR FR.kp bR .nil pass0 (pa_cons (pv 1) pa_nil)) pa_nil)) (pe_ix ix_tup (pv 1) pe_int (fun _ _ => rfl)) (nomark _)))), ?_⟩
    refine ⟨_, rfl, v, n, ts, L, xs, rfl, W, fun H1 p t => ?_⟩
    obtain ⟨T', WL, pm⟩ := t.web W.good W.size
    obtain ⟨l, ys, _, _, hp, _⟩ := t.plc
    refine ⟨_, rfl, _, n, T', rfl, WL, W.one, W.six, fun H2 q found hq R => ?_⟩
    refine ⟨q, _, rfl, .inl (SqL.of hq.2.2), _, rfl, p, _, 0, _, rfl, rfl, SqT.of (hq.1 _ _ hp), atI_nat (j := 0) rfl, rfl, ?_⟩
    refine k _ _ (t.same.trans hq.1) ?_
    rw [G81.adjT_perm pm] at R
    rw [decide_eq_true_iff, List.length_map]
    have hl := R.len (G81.vs_nodup n)
    rw [G81.vs_len] at hl
    refine Iff.trans ?_ hl
    constructor
    · intro e
      have := V.int.inj e
      omega
    · intro e
      rw [e]
end
end K81

namespace K81
open PySem PySem.Spec PyProof.Rows L2
/-! ### places in the text -/
def lcScope : Expr → Scope
  | .ListComp _ _ sc _ => sc
  | _ => { kind := .function, names := [], isGenerator := false, isCoroutine := false }
def asgVal : Stmt → Expr
  | .Assign _ e _ => e
  | _ => .Constant .none 0 ⟨0, 0, 0, 0⟩
def whileBody : Stmt → List Stmt
  | .While _ b _ _ => b
  | _ => []
def rLenS (K : PySem.W.Frag) : List V → Hp → VK → Prop := fun xs H Q => ∃ p ys, xs = [.ref p] ∧ (SqL K H p ys ∨ SqT K H p ys) ∧ Q (.int ((ys.length : Nat) : Int)) H
theorem call_lenS {X : Cx} : CallR X (.builtin "len") (rLenS X.K) := call_len_seq
section
variable {P : Program} {w : World} {K : PySem.W.Frag} {mg : Str → Option Value} {base : Heap}
/-! ### web_kept -/
theorem scKept : FnScope ["web", "kept", "late", "copy", "one"] ["web"] (defScope sKept) := ⟨rfl, rfl, rfl, by decide +kernel, rfl, by decide +kernel, by decide +kernel⟩
abbrev keptScope : Scope := lcScope (asgVal ((whileBody ((defBody sKept).getD 1 (.Pass ⟨0, 0, 0, 0⟩))).getD 1 (.Pass ⟨0, 0, 0, 0⟩)))
def spKept : Sp := fun vs H Q _ => ∃ (v : V) (n : Nat) (T : List Tie), vs = [v] ∧ WebL H v n T ∧ 1 ≤ n ∧ n ≤ 6 ∧ ∀ H' p kept, IntsNew H H' p kept → G81.Core (G81.adjT T) (G81.vs n) kept → Q (.ref p) H'
theorem rg_vs (n : Nat) : rgV 0 (n : Int) = (G81.vs n).map V.int := by
  unfold rgV G81.vs
  simp
theorem six_of {n : Nat} {l : List Int} (h : n ≤ 6) (nd : l.Nodup) (s : ∀ x ∈ l, x ∈ G81.vs n) : l.length ≤ 6 := by
  have := G81.nodup_le nd s
  rw [G81.vs_len] at this
  omega
theorem ok_kept {f fN : Addr} {fd fdN : FuncData} (F : Fun K "web_kept" "web_kept" sKept f fd)
    (FN : Fun K "web_neighbours" "web_neighbours" sNbr fN fdN) (bN : Binds K fdN ["web", "copy"] []) (gN : mg "web_neighbours" = some (.ref fN)) (GN : FnOk P w K mg base CX0 1 fN fdN ["web", "copy"] spNbr) (T : Txt mg) :
    FnOk P w K mg base CX0 2 f fd ["web"] spKept := by
  refine F.ok scKept (fun vs H Q E h => ?_) (fun cdv A outer s H vs Q E hr h => ?_)
  · obtain ⟨v, n, T, rfl, _⟩ := h
    rfl
  · obtain ⟨v, n, ts, rfl, W, n1, n6, k⟩ := h
    have hu := hr.units
    obtain ⟨a, L, xs, rfl, ha, hL, hT⟩ := W.plc
    refine ⟨_, pss_cons (ps_asg (pe_tup (pa_cons (pe_listRg rfl (by rfl) T.list (prg_1 (by rfl) T.range (pe_ix ix_tup (pv 0) pe_int (fun _ _ => rfl)))) (pa_cons (pe_lst pa_nil) pa_nil))) (pg_tup rfl (pgs_cons (pg_name (i := 1) scKept.nd rfl (.inl rfl)) (pgs_cons (pg_name (i := 2) scKept.nd rfl (.inr rfl)) pgs_nil))))
      (pss_cons (ps_while PassesOwn.never (pt_cmpR (op_neD hu) (pv 1) (pv 2) (nomark _))
        (pss_cons (ps_set (i := 2) scKept.nd rfl (.inr rfl) (pv 1))
        (pss_one (ps_setLc (i := 1) (own := [("copy", 3)]) (g := gName 3) rfl scKept.nd rfl rfl (sw_true rfl rfl rfl (by decide +kernel)) (pi_list (pv 2))
            (blkOk_by (N := ["web", "kept", "late", "copy", "one"]) (sc := defScope sKept) (by decide +kernel)) (fun _ _ _ _ _ => pg_name (i := 3) scKept.nd rfl (Or.inl rfl))
            (fun _ _ _ _ _ => pts_one (pt_cmpR op_gt (pe_callB (r := rLenS K) call_lenS (by rfl) T.len PySem.boot_len (pa_cons
              (pe_lc (own := [("one", 4)]) (wi := iList K (tCall spNbr [] E0 (tCons (tVar 0) (tCons (tVar 3) tNil)))) (g := gName 4) (tt := tTest (tOp (rIn K false) (tVar 4) (tVar 2))) (te := tVar 4) rfl scKept.nd (pi_list (pe_call GN hr (by rfl) gN FN.kp bN .nil pass0 (pa_cons (pv 0) (pa_cons (pv 3) pa_nil))))
                (blkOk_by (N := ["web", "kept", "late", "copy", "one"]) (sc := relS keptScope (defScope sKept)) (by decide +kernel)) (fun _ _ _ _ _ => pg_name (i := 4) scKept.nd rfl (Or.inl rfl))
                (fun _ _ _ _ _ => pts_one (pt_cmpR (r := rIn K false) op_in_seq (pv 4) (pv 2) (by rfl))) (fun _ _ _ _ _ => pv 4)) pa_nil)) pe_int (nomark _))) (fun _ _ _ _ _ => pv 3)))))
      (pss_one (ps_ret (pv 1)))), ?_⟩
    -- kept, late = list(range(web[0])), []
    refine ⟨_, rfl, a, _, 0, _, rfl, rfl, SqT.of ha, atI_nat (j := 0) rfl, n, rfl, RgOk.of_le (by omega) (by omega) (by omega) (by omega), fun pk nk => ⟨Nat.zero_le _, fun pl nl => ⟨by show 2 ≤ sizeLine; decide, fun pt nt => ?_⟩⟩⟩
    rw [rg_vs] at nl nt ⊢
    have s1 : Same H (upd H pk (.lst ((G81.vs n).map V.int))) := same_upd nk
    have s2 : Same (upd H pk (.lst ((G81.vs n).map V.int))) (upd (upd H pk (.lst ((G81.vs n).map V.int))) pl (.lst [])) := same_upd nl
    have s3 := same_upd (o := .tup [.ref pk, .ref pl]) nt
    have hne0 : G81.vs n ≠ [] := fun e => by
      have := G81.vs_len n
      rw [e] at this
      simp at this
      omega
    have hV := G81.vs_nodup n
    refine ⟨pt, _, rfl, SqT.of upd_same, rfl, _, _, rfl, _, _, rfl, rfl, ?_⟩
    -- the loop
    refine ⟨fun m σ H' => ∃ (kept late : List Int) (pk pl : Addr) (o3 o4 : Option V), σ = [some (.ref a), some (.ref pk), some (.ref pl), o3, o4] ∧ Same H H' ∧ H pk = none ∧ H' pk = some (.lst (kept.map V.int)) ∧ H' pl = some (.lst (late.map V.int)) ∧
        G81.Kept (G81.adjT ts) (G81.vs n) kept late ∧ m = G81.keptM (G81.vs n) kept late,
      ⟨_, G81.vs n, [], pk, pl, none, none, rfl, s1.trans (s2.trans s3), nk, s3 _ _ (s2 _ _ upd_same), s3 _ _ upd_same, .start hV, rfl⟩, fun m σ H' hW => ?_⟩
    obtain ⟨kept, late, pk, pl, o3, o4, rfl, sH, nk, hk, hl, R, rfl⟩ := hW
    refine ⟨_, rfl, _, rfl, .list (kept.map PyData.int), .list (late.map PyData.int), .lst (SqL.of hk) (ints_dp kept), .lst (SqL.of hl) (ints_dp late), ints_shaped kept, ints_shaped late, !decide (kept = late), by rw [ints_eqv], ?_⟩
    by_cases hne : kept = late
    · refine (if_neg (by simp [hne])).mpr ?_
      subst hne
      exact ⟨_, rfl, k _ pk kept ⟨sH, nk, hk⟩ (R.done hne0)⟩
    refine (if_pos (by simp [hne])).mpr ?_
    have R' := R.step W.good.irr hV
    have lm := R.measure W.good.irr hV hne0 hne
    have h6 := six_of n6 R.nd R.sub
    have hz : kept.length < sizeLine := Nat.lt_of_le_of_lt h6 (by decide)
    refine ⟨fun σ' H2 => ∃ (kept' late' : List Int) (pk pl : Addr) (o3 o4 : Option V), σ' = [some (.ref a), some (.ref pk), some (.ref pl), o3, o4] ∧ Same H H2 ∧ H pk = none ∧ H2 pk = some (.lst (kept'.map V.int)) ∧ H2 pl = some (.lst (late'.map V.int)) ∧
        G81.Kept (G81.adjT ts) (G81.vs n) kept' late' ∧ G81.keptM (G81.vs n) kept' late' < G81.keptM (G81.vs n) kept late, fun σ' H2 ⟨ka, la, p1, p2, o3, o4, e, x1, x2, x3, x4, x5, l⟩ => ⟨_, l, ka, la, p1, p2, o3, o4, e, x1, x2, x3, x4, x5, rfl⟩, ?_⟩
    -- late = kept; kept = [..]
    refine ⟨_, rfl, _, rfl, pk, rfl, ⟨_, SqL.of hk⟩, fun D nD => ?_⟩
    refine lc_list (K := K) (a := pk) (xs := kept.map V.int) (Acc V.int (fun x : Int => if decide (1 < ((G81.nb n ts x).filter fun y => decide (y ∈ kept)).length) = true then some x else none) kept H' D) (Acc.start nD) (fun i H3 _ b => SqL.of (b.same _ _ hk)) (fun i y H3 hy b => ?_) (fun H3 b => ?_)
    · rw [List.getElem?_map] at hy
      cases hz' : kept[i]? with
      | none => rw [hz'] at hy; cases hy
      | some z =>
        rw [hz'] at hy
        obtain rfl := Option.some.inj hy
        have s3 : Same H H3 := sH.trans b.same
        have hk3 := b.same _ _ hk
        -- len([one for one in web_neighbours(web, copy) if one in late])
        refine ⟨rfl, _, rfl, _, rfl, .ref a, n, ts, z, rfl, W.same s3, fun H4 q hq => ?_⟩
        obtain ⟨sq, _, hq⟩ := hq
        refine ⟨q, rfl, ⟨_, SqL.of hq⟩, fun D2 nD2 => ?_⟩
        have nd6 : (G81.nb n ts z).length ≤ 6 := by
          have : (G81.nb n ts z).length ≤ (G81.vs n).length := List.length_filter_le _ _
          rw [G81.vs_len] at this
          omega
        refine lc_list (K := K) (a := q) (xs := (G81.nb n ts z).map V.int) (Acc V.int (fun y : Int => if decide (y ∈ kept) = true then some y else none) (G81.nb n ts z) H4 D2) (Acc.start nD2) (fun i H5 _ b => SqL.of (b.same _ _ hq)) (fun i y H5 hy c => ?_) (fun H5 c => ?_)
        · rw [List.getElem?_map] at hy
          cases hu' : (G81.nb n ts z)[i]? with
          | none => rw [hu'] at hy; cases hy
          | some u =>
            rw [hu'] at hy
            obtain rfl := Option.some.inj hy
            refine ⟨rfl, _, rfl, _, rfl, pk, kept.map V.int, rfl, .inl (SqL.of (c.same _ _ (sq _ _ hk3))), rfl, flat_ints kept, decide (u ∈ kept), by rw [if_neg (by decide), inV_ints], ?_⟩
            by_cases hm : u ∈ kept
            · refine (if_pos (by simp [hm])).mpr ?_
              exact ⟨_, rfl, c.more nD2 hu' (Same.refl _) (if_pos (by simp [hm])) (Nat.lt_of_le_of_lt nd6 (by decide))⟩
            · exact (if_neg (by simp [hm])).mpr (c.less hu' (Same.refl _) (if_neg (by simp [hm])))
        rw [List.length_map] at c
        obtain ⟨s5, hD2⟩ := c.done
        rw [filter_fm] at hD2
        have s35 : Same H3 H5 := sq.trans s5
        refine ⟨D2, _, rfl, .inl (SqL.of hD2), _, _, rfl, rfl, _, rfl, ?_⟩
        rw [List.length_map]
        by_cases hm : 1 < ((G81.nb n ts z).filter fun y => decide (y ∈ kept)).length
        · refine (if_pos (decide_eq_true (by omega))).mpr ?_
          exact ⟨_, rfl, b.more nD hz' s35 (if_pos (decide_eq_true hm)) hz⟩
        · refine (if_neg ?_).mpr (b.less hz' s35 (if_neg (by simp [hm])))
          intro q
          have := of_decide_eq_true q
          omega
    rw [List.length_map] at b
    obtain ⟨s5, hD⟩ := b.done
    rw [filter_fm] at hD
    have em : kept.filter (fun x => decide (1 < ((G81.nb n ts x).filter fun y => decide (y ∈ kept)).length)) = G81.keep (G81.adjT ts) (G81.vs n) kept := rfl
    rw [em] at hD
    exact ⟨_, kept, D, pk, _, _, rfl, sH.trans s5, sH.free nD, hD, s5 _ _ hk, R', lm⟩

/-! ### has_ring -/
theorem scHasRing : FnScope ["web"] ["web"] (defScope sHasRing) := ⟨rfl, rfl, rfl, by decide +kernel, rfl, by decide +kernel, by decide +kernel⟩
def spHasRing : Sp := fun vs H Q _ => ∃ (v : V) (n : Nat) (T : List Tie) (L : Addr) (xs : List V), vs = [v] ∧ WebAt H v n T L xs ∧ ∀ H' kept, Same H H' → G81.Core (G81.adjT T) (G81.vs n) kept → Q (.bl (!decide (kept = []))) H'
theorem ok_hasRing {f fW fR : Addr} {fd fdW fdR : FuncData} (F : Fun K "has_ring" "has_ring" sHasRing f fd)
    (FW : Fun K "want_web" "want_web" sWant fW fdW) (bW : Binds K fdW ["value"] []) (gW : mg "want_web" = some (.ref fW)) (GW : FnOk P w K mg base CX0 5 fW fdW ["value"] spWant)
    (FR : Fun K "web_kept" "web_kept" sKept fR fdR) (bR : Binds K fdR ["web"] []) (gR : mg "web_kept" = some (.ref fR)) (GR : FnOk P w K mg base CX0 2 fR fdR ["web"] spKept) :
    FnOk P w K mg base CX0 6 f fd ["web"] spHasRing := by
  refine F.ok scHasRing (fun vs H Q E h => ?_) (fun cdv A outer s H vs Q E hr h => ?_)
  · obtain ⟨v, n, T, L, xs, rfl, _⟩ := h
    rfl
  · obtain ⟨v, n, ts, L, xs, rfl, W, k⟩ := h
    refine ⟨_, pss_one (ps_ret (pe_cmpR (op_neD hr.units) (pe_call GR (hr.mono (by decide)) (by rfl) gR FR.kp bR .nil pass0 (pa_cons (pe_call GW hr (by rfl) gW FW.kp bW .nil pass0 (pa_cons (pv 0) pa_nil)) pa_nil)) (pe_lst pa_nil) (nomark _))), ?_⟩
    refine ⟨_, rfl, v, n, ts, L, xs, rfl, W, fun H1 p t => ?_⟩
    obtain ⟨T', WL, pm⟩ := t.web W.good W.size
    refine ⟨_, n, T', rfl, WL, W.one, W.six, fun H2 q kept hq R => ⟨Nat.zero_le _, fun e ne => ?_⟩⟩
    rw [G81.adjT_perm pm] at R
    have se : Same H2 (upd H2 e (.lst [])) := same_upd ne
    refine ⟨.list (kept.map PyData.int), .list ([].map PyData.int), .lst (SqL.of (se _ _ hq.2.2)) (ints_dp kept), .lst (SqL.of upd_same) .nil, ints_shaped kept, ints_shaped [], ?_⟩
    rw [ints_eqv]
    exact k _ kept (t.same.trans (hq.1.trans se)) R
end
end K81

namespace K81
open PySem PySem.Spec PyProof.Rows L2
section
variable {P : Program} {w : World} {K : PySem.W.Frag} {mg : Str → Option Value} {base : Heap}
/-! ### web_ring -/
theorem scRing : FnScope ["web", "kept", "path", "ahead", "here", "copy"] ["web"] (defScope sRing) := ⟨rfl, rfl, rfl, by decide +kernel, rfl, by decide +kernel, by decide +kernel⟩
def spRing : Sp := fun vs H Q _ => ∃ (v : V) (n : Nat) (T : List Tie), vs = [v] ∧ WebL H v n T ∧ 1 ≤ n ∧ n ≤ 6 ∧ (∀ H' kept, Same H H' → G81.Core (G81.adjT T) (G81.vs n) kept → kept = [] → Q .non H') ∧
  ∀ H' kept p R, IntsNew H H' p R → G81.Core (G81.adjT T) (G81.vs n) kept → kept ≠ [] → G81.Ring (G81.adjT T) R → Q (.ref p) H'
theorem cut_ahead (l : List Int) : cutV (l.map V.int) (some (-2)) (some (-1)) = (G81.ahead l).map V.int := by
  unfold cutV G81.ahead
  have e1 : HT.sIx (l.map V.int).length 0 (some (-2)) = l.length - 2 := by
    rw [List.length_map]
    show (if (-2 : Int) < 0 then ((-2 : Int) + (l.length : Int)).toNat else min (-2 : Int).toNat l.length) = _
    rw [if_pos (by decide)]
    omega
  have e2 : HT.sIx (l.map V.int).length (l.map V.int).length (some (-1)) = l.length - 1 := by
    rw [List.length_map]
    show (if (-1 : Int) < 0 then ((-1 : Int) + (l.length : Int)).toNat else min (-1 : Int).toNat l.length) = _
    rw [if_pos (by decide)]
    omega
  rw [e1, e2, List.map_take, List.map_drop]
theorem cut_from (l : List Int) (j : Nat) (h : j ≤ l.length) : cutV (l.map V.int) (some (j : Int)) none = (l.drop j).map V.int := by
  unfold cutV
  rw [HT.sIx_none, HT.sIx_nat, List.length_map, Nat.min_eq_left h, List.map_drop]
  rw [List.take_of_length_le (by simp)]
theorem last_ix {l : List Int} (h : l ≠ []) : ∃ x, l[l.length - 1]? = some x ∧ atI (l.map V.int) (-1) = some (.int x) := by
  obtain ⟨r, x, rfl⟩ := last_split h
  refine ⟨x, by simp, ?_⟩
  rw [List.map_append]
  exact atI_last _ _
theorem ok_ring {f fK fN : Addr} {fd fdK fdN : FuncData} (F : Fun K "web_ring" "web_ring" sRing f fd)
    (FK : Fun K "web_kept" "web_kept" sKept fK fdK) (bK : Binds K fdK ["web"] []) (gK : mg "web_kept" = some (.ref fK)) (GK : FnOk P w K mg base CX0 2 fK fdK ["web"] spKept)
    (FN : Fun K "web_neighbours" "web_neighbours" sNbr fN fdN) (bN : Binds K fdN ["web", "copy"] []) (gN : mg "web_neighbours" = some (.ref fN)) (GN : FnOk P w K mg base CX0 1 fN fdN ["web", "copy"] spNbr) :
    FnOk P w K mg base CX0 3 f fd ["web"] spRing := by
  refine F.ok scRing (fun vs H Q E h => ?_) (fun cdv A outer s H vs Q E hr h => ?_)
  · obtain ⟨v, n, T, rfl, _⟩ := h
    rfl
  · obtain ⟨v, n, ts, rfl, W, n1, n6, k0, k1⟩ := h
    have hu := hr.units
    refine ⟨_, pss_cons (ps_set (i := 1) scRing.nd rfl (.inr rfl) (pe_call GK hr (by rfl) gK FK.kp bK .nil pass0 (pa_cons (pv 0) pa_nil)))
      (pss_cons (ps_if (pt_cmpR (op_eqD hu) (pv 1) (pe_lst pa_nil) (nomark _)) (pss_one (ps_ret pe_non)) pss_nil)
      (pss_cons (ps_set (i := 2) scRing.nd rfl (.inl rfl) (pe_lst (pa_cons (pe_ix ix_list (pv 1) pe_int (fun _ _ => rfl)) pa_nil)))
      (pss_one (ps_while PassesOwn.never (pt_val pe_bl)
        (pss_cons (ps_set (i := 3) scRing.nd rfl (.inr rfl) (pe_slice sl_list (pv 2) (po_some (pe_un un_neg pe_int)) (po_some (pe_un un_neg pe_int))))
        (pss_cons (ps_set (i := 4) scRing.nd rfl (.inl rfl) (pe_ix ix_list
            (pe_lc (own := [("copy", 5)]) (g := gName 5) rfl scRing.nd (pi_list (pe_call GN (hr.mono (by decide)) (by rfl) gN FN.kp bN .nil pass0 (pa_cons (pv 0) (pa_cons (pe_ix ix_list (pv 2) (pe_un un_neg pe_int) (fun _ _ => rfl)) pa_nil))))
              (blkOk_by (N := ["web", "kept", "path", "ahead", "here", "copy"]) (sc := defScope sRing) (by decide +kernel)) (fun _ _ _ _ _ => pg_name (i := 5) scRing.nd rfl (Or.inl rfl))
              (fun _ _ _ _ _ => pts_one (PW.pt (pw_and (pt_cmpR (r := rIn K false) op_in_seq (pv 5) (pv 1) (by rfl)) (pw_and1 (pt_cmpR (r := rIn K true) op_notIn_seq (pv 5) (pv 3) (by rfl)))))) (fun _ _ _ _ _ => pv 5)) pe_int (fun _ _ => rfl)))
        (pss_cons (ps_if (pt_cmpR op_in_seq (pv 4) (pv 2) (by rfl))
            (pss_one (ps_ret (pe_slice sl_list (pv 2) (po_some (pe_bm PySem.F.plainAttrs_list PySem.F.slot_list_index PySem.F.type_list_index mt_index (pv 2) (pa_cons (pv 4) pa_nil))) po_none))) pss_nil)
        (pss_one (ps_expr (pe_bm PySem.F.plainAttrs_list PySem.F.slot_list_append PySem.F.type_list_append mt_append (pv 2) (pa_cons (pv 4) pa_nil))))))))))), ?_⟩
    refine ⟨_, rfl, v, n, ts, rfl, W, n1, n6, fun H1 pk kept hq C => ?_⟩
    obtain ⟨s1, nk, hk⟩ := hq
    have h6 := six_of n6 C.nd C.sub
    -- if kept == []
    refine ⟨_, rfl, Nat.zero_le _, fun pe ne => ?_⟩
    have se : Same H1 (upd H1 pe (.lst [])) := same_upd ne
    refine ⟨.list (kept.map PyData.int), .list ([].map PyData.int), .lst (SqL.of (se _ _ hk)) (ints_dp kept), .lst (SqL.of upd_same) .nil, ints_shaped kept, ints_shaped [], decide (kept = []), by rw [ints_eqv], ?_⟩
    by_cases hne : kept = []
    · exact (if_pos (by simp [hne])).mpr (k0 _ kept (s1.trans se) C hne)
    refine (if_neg (by simp [hne])).mpr ?_
    obtain ⟨x0, r0, rfl⟩ := List.exists_cons_of_ne_nil hne
    generalize hkk : x0 :: r0 = kept at *
    have hx0 : (kept.map V.int)[0]? = some (V.int x0) := by rw [← hkk]; rfl
    have hx0m : x0 ∈ kept := by rw [← hkk]; exact List.mem_cons_self
    have hk2 := se _ _ hk
    -- path = [kept[0]]
    refine ⟨_, rfl, pk, _, 0, _, rfl, rfl, SqL.of hk2, atI_nat (j := 0) hx0, by show 1 ≤ sizeLine; decide, fun pp np => ?_⟩
    have sp := same_upd (o := .lst [.int x0]) np
    have npk : pk ≠ pp := ne_of_none hk2 np
    have s12 : Same H (upd H1 pe (.lst [])) := s1.trans se
    refine ⟨fun m σ H' => ∃ (path : List Int) (o3 o4 o5 : Option V), σ = [some v, some (.ref pk), some (.ref pp), o3, o4, o5] ∧ Same H H' ∧ H' pk = some (.lst (kept.map V.int)) ∧ H' pp = some (.lst (path.map V.int)) ∧ G81.Path (G81.adjT ts) kept path ∧ m = 7 - path.length,
      ⟨_, [x0], none, none, none, rfl, s12.trans sp, sp _ _ hk2, upd_same, .start hx0m, rfl⟩, fun m σ H' hW => ?_⟩
    obtain ⟨path, o3, o4, o5, rfl, sH, hk', hp, R, rfl⟩ := hW
    have npp : H pp = none := s12.free np
    have p6 : path.length ≤ 6 := by
      have := R.size C
      rw [G81.vs_len] at this
      omega
    refine ⟨true, rfl, (if_pos rfl).mpr ?_⟩
    refine ⟨fun σ' H2 => ∃ (path' : List Int) (o3 o4 o5 : Option V), σ' = [some v, some (.ref pk), some (.ref pp), o3, o4, o5] ∧ Same H H2 ∧ H2 pk = some (.lst (kept.map V.int)) ∧ H2 pp = some (.lst (path'.map V.int)) ∧ G81.Path (G81.adjT ts) kept path' ∧ 7 - path'.length < 7 - path.length,
      fun σ' H2 ⟨pa, o3, o4, o5, e, x1, x2, x3, x4, l⟩ => ⟨_, l, pa, o3, o4, o5, e, x1, x2, x3, x4, rfl⟩, ?_⟩
    -- ahead = path[-2:-1]
    refine ⟨_, rfl, _, rfl, _, rfl, _, rfl, _, rfl, pp, _, rfl, SqL.of hp, fun pa na => ?_⟩
    rw [cut_ahead]
    have sa := same_upd (o := .lst ((G81.ahead path).map V.int)) na
    have hp2 := sa _ _ hp
    have hk3 := sa _ _ hk'
    obtain ⟨last, hl1, hl2⟩ := last_ix R.ne
    have hlast : last ∈ kept := R.inn _ (List.mem_of_getElem? hl1)
    -- here = [..][0]
    refine ⟨_, rfl, _, rfl, _, rfl, pp, _, _, _, rfl, rfl, SqL.of hp2, hl2, v, n, ts, last, rfl, W.same (sH.trans sa), fun H4 q hq => ?_⟩
    obtain ⟨sq, _, hq⟩ := hq
    refine ⟨q, rfl, ⟨_, SqL.of hq⟩, fun D nD => ?_⟩
    have nd6 : (G81.nb n ts last).length ≤ 6 := by
      have : (G81.nb n ts last).length ≤ (G81.vs n).length := List.length_filter_le _ _
      rw [G81.vs_len] at this
      omega
    refine lc_list (K := K) (a := q) (xs := (G81.nb n ts last).map V.int) (Acc V.int (fun y : Int => if (decide (y ∈ kept) && !decide (y ∈ G81.ahead path)) = true then some y else none) (G81.nb n ts last) H4 D) (Acc.start nD) (fun i H5 _ b => SqL.of (b.same _ _ hq)) (fun i y H5 hy b => ?_) (fun H5 b => ?_)
    · rw [List.getElem?_map] at hy
      cases hz : (G81.nb n ts last)[i]? with
      | none => rw [hz] at hy; cases hy
      | some z =>
        rw [hz] at hy
        obtain rfl := Option.some.inj hy
        refine ⟨rfl, _, rfl, _, rfl, pk, kept.map V.int, rfl, .inl (SqL.of (b.same _ _ (sq _ _ hk3))), rfl, flat_ints kept, decide (z ∈ kept), by rw [if_neg (by decide), inV_ints], ?_⟩
        by_cases hm : z ∈ kept
        · refine (if_pos (by simp [hm])).mpr ?_
          refine ⟨_, rfl, _, rfl, pa, (G81.ahead path).map V.int, rfl, .inl (SqL.of (b.same _ _ (sq _ _ upd_same))), rfl, flat_ints _, !decide (z ∈ G81.ahead path), by rw [if_pos rfl, inV_ints], ?_⟩
          by_cases hn : z ∈ G81.ahead path
          · exact (if_neg (by simp [hn])).mpr (b.less hz (Same.refl _) (if_neg (by simp [hn])))
          · refine (if_pos (by simp [hn])).mpr ?_
            exact ⟨_, rfl, b.more nD hz (Same.refl _) (if_pos (by simp [hm, hn])) (Nat.lt_of_le_of_lt nd6 (by decide))⟩
        · refine (if_neg (by simp [hm])).mpr ?_
          exact (if_neg (by decide)).mpr (b.less hz (Same.refl _) (if_neg (by simp [hm])))
    rw [List.length_map] at b
    obtain ⟨s5, hD⟩ := b.done
    rw [filter_fm] at hD
    have em : (G81.nb n ts last).filter (fun y => decide (y ∈ kept) && !decide (y ∈ G81.ahead path)) = G81.cand (G81.adjT ts) (G81.vs n) kept path last := rfl
    rw [em] at hD
    obtain ⟨here, rc, hc⟩ := List.exists_cons_of_ne_nil (G81.cand_ne (path := path) C hlast)
    have hhere : here ∈ G81.cand (G81.adjT ts) (G81.vs n) kept path last := by rw [hc]; exact List.mem_cons_self
    have s45 : Same H H5 := sH.trans (sa.trans (sq.trans s5))
    have hp5 : H5 pp = some (.lst (path.map V.int)) := s5 _ _ (sq _ _ hp2)
    have hk5 : H5 pk = some (.lst (kept.map V.int)) := s5 _ _ (sq _ _ hk3)
    refine ⟨D, _, 0, .int here, rfl, rfl, SqL.of hD, atI_nat (j := 0) (by rw [hc]; rfl), ?_⟩
    -- if here in path
    refine ⟨_, rfl, _, rfl, pp, path.map V.int, rfl, .inl (SqL.of hp5), rfl, flat_ints path, decide (here ∈ path), by rw [if_neg (by decide), inV_ints], ?_⟩
    by_cases hm : here ∈ path
    · refine (if_pos (by simp [hm])).mpr ?_
      obtain ⟨j, hj⟩ := List.getElem?_of_mem hm
      have hjl : j < path.length := (List.getElem?_eq_some_iff.mp hj).1
      refine ⟨_, rfl, _, rfl, .inl ⟨rfl, _, SqL.of hp5⟩, _, rfl, pp, path.map V.int, .int here, j, .int here, rfl, rfl, SqL.of hp5, rfl, flat_ints path, by rw [List.getElem?_map, hj]; rfl, by rw [eqV_int]; simp, fun i z' hi hz' => ?_, ?_⟩
      · rw [List.getElem?_map] at hz'
        cases hw : path[i]? with
        | none => rw [hw] at hz'; cases hz'
        | some u =>
          rw [hw] at hz'
          obtain rfl := Option.some.inj hz'
          rw [eqV_int, decide_eq_false]
          intro e
          rw [e] at hw
          have := nd_ix R.nd hw hj
          omega
      refine ⟨_, rfl, pp, _, rfl, SqL.of hp5, fun pr nr => ?_⟩
      rw [cut_from path j (Nat.le_of_lt hjl)]
      exact k1 _ kept pr _ ⟨s45.trans (same_upd nr), s45.free nr, upd_same⟩ C hne (R.ring W.good.irr hl1 hhere hj)
    · refine (if_neg (by simp [hm])).mpr ?_
      -- path.append(here)
      refine ⟨_, rfl, .inl ⟨rfl, _, SqL.of hp5⟩, _, rfl, pp, _, _, rfl, rfl, hp5, by rw [List.length_map]; exact Nat.lt_of_le_of_lt p6 (by decide), ?_⟩
      refine ⟨path ++ [here], _, _, _, rfl, same_to s45 npp, by rw [upd_ne npk]; exact hk5, by rw [upd_same, List.map_append]; rfl, R.step hl1 hhere hm, by rw [List.length_append, List.length_singleton]; omega⟩
end
end K81

namespace K81
open PySem PySem.Spec PyProof.Rows L2
section
variable {P : Program} {w : World} {K : PySem.W.Frag} {mg : Str → Option Value} {base : Heap}
/-! ### ring -/
theorem scRingOf : FnScope ["web"] ["web"] (defScope sRingOf) := ⟨rfl, rfl, rfl, by decide +kernel, rfl, by decide +kernel, by decide +kernel⟩
def spRingOf : Sp := fun vs H Q _ => ∃ (v : V) (n : Nat) (T : List Tie) (L : Addr) (xs : List V), vs = [v] ∧ WebAt H v n T L xs ∧ (∀ H' kept, Same H H' → G81.Core (G81.adjT T) (G81.vs n) kept → kept = [] → Q .non H') ∧
  ∀ H' kept p R, IntsNew H H' p R → G81.Core (G81.adjT T) (G81.vs n) kept → kept ≠ [] → G81.Ring (G81.adjT T) R → Q (.ref p) H'
theorem ok_ringOf {f fW fR : Addr} {fd fdW fdR : FuncData} (F : Fun K "ring" "ring" sRingOf f fd)
    (FW : Fun K "want_web" "want_web" sWant fW fdW) (bW : Binds K fdW ["value"] []) (gW : mg "want_web" = some (.ref fW)) (GW : FnOk P w K mg base CX0 5 fW fdW ["value"] spWant)
    (FR : Fun K "web_ring" "web_ring" sRing fR fdR) (bR : Binds K fdR ["web"] []) (gR : mg "web_ring" = some (.ref fR)) (GR : FnOk P w K mg base CX0 3 fR fdR ["web"] spRing) :
    FnOk P w K mg base CX0 6 f fd ["web"] spRingOf := by
  refine F.ok scRingOf (fun vs H Q E h => ?_) (fun cdv A outer s H vs Q E hr h => ?_)
  · obtain ⟨v, n, T, L, xs, rfl, _⟩ := h
    rfl
  · obtain ⟨v, n, ts, L, xs, rfl, W, k0, k1⟩ := h
    refine ⟨_, pss_one (ps_ret (pe_call GR (hr.mono (by decide)) (by rfl) gR FR.kp bR .nil pass0 (pa_cons (pe_call GW hr (by rfl) gW FW.kp bW .nil pass0 (pa_cons (pv 0) pa_nil)) pa_nil))), ?_⟩
    refine ⟨_, rfl, v, n, ts, L, xs, rfl, W, fun H1 p t => ?_⟩
    obtain ⟨T', WL, pm⟩ := t.web W.good W.size
    refine ⟨_, n, T', rfl, WL, W.one, W.six, fun H2 kept s2 C e => ?_, fun H2 kept q R hq C e hR => ?_⟩
    · rw [G81.adjT_perm pm] at C
      exact k0 H2 kept (t.same.trans s2) C e
    · rw [G81.adjT_perm pm] at C hR
      exact k1 H2 kept q R ⟨t.same.trans hq.1, t.same.free hq.2.1, hq.2.2⟩ C e hR

/-! ### the law's pot -/
structure Pot (x y : Int) : Prop where
  x0 : 0 ≤ x
  y0 : 0 ≤ y
  y1 : y < 4294967296
/-- all but p is as it was -/
def But (p : Addr) (H H' : Hp) : Prop := ∀ b o, b ≠ p → H b = some o → H' b = some o
theorem But.of {p : Addr} {H H' : Hp} (s : Same H H') : But p H H' := fun b o _ e => s b o e
theorem But.refl (p : Addr) (H : Hp) : But p H H := fun _ _ _ e => e
theorem But.trans {p : Addr} {H H1 H2 : Hp} (a : But p H H1) (b : But p H1 H2) : But p H H2 := fun c o n e => b c o n (a c o n e)
theorem But.upd {p : Addr} {H H' : Hp} {o : HO} (a : But p H H') : But p H (upd H' p o) := fun c u n e => by
  rw [upd_ne n]
  exact a c u n e
theorem But.new {p q : Addr} {H H' : Hp} {o : HO} (a : But p H H') (h : H' q = none) : But p H (L2.upd H' q o) := fun c u n e => by
  rw [upd_ne (ne_of_none (a c u n e) h)]
  exact a c u n e
theorem scPot : FnScope ["_law_script", "_law_k", "_law_cell"] ["_law_script", "_law_k"] (defScope sPot) := ⟨rfl, rfl, rfl, by decide +kernel, rfl, by decide +kernel, by decide +kernel⟩
def spPot (K : PySem.W.Frag) : Sp := fun vs H Q _ => ∃ (a : Addr) (ns : List Int), vs = [.ref a, .int 0] ∧ SqL K H a (ns.map V.int) ∧ ∀ H' p x y, Same H H' → H p = none → H' p = some (.lst [.int x, .int y]) → Pot x y → Q (.ref p) H'
theorem cut_one (ns : List Int) : cutV (ns.map V.int) none (some 1) = (ns.take 1).map V.int := by
  unfold cutV
  rw [HT.sIx_none, show HT.sIx (ns.map V.int).length (ns.map V.int).length (some 1) = min 1 (ns.map V.int).length from HT.sIx_nat _ _ 1, List.map_take, List.drop_zero, Nat.sub_zero]
  cases ns with
  | nil => rfl
  | cons x r => simp
theorem ok_pot {f : Addr} {fd : FuncData} (F : Fun K "_law_pot" "_law_pot" sPot f fd) (T : Txt mg) : FnOk P w K mg base CX0 1 f fd ["_law_script", "_law_k"] (spPot K) := by
  refine F.ok scPot (fun vs H Q E h => ?_) (fun cdv A outer s H vs Q E hr h => ?_)
  · obtain ⟨a, ns, rfl, _⟩ := h
    rfl
  · obtain ⟨a, ns, rfl, hS, k⟩ := h
    refine ⟨_, pss_cons (ps_set (i := 2) scPot.nd rfl (.inl rfl) (pe_op op_add (pe_op op_add (pe_op op_mul pe_int (pv 1)) pe_int)
          (pe_op op_mod (pe_callB (cr_sum rfl) (by rfl) T.sum boot_sum (pa_cons (pe_slice sl_list (pv 0) po_none (po_some pe_int)) pa_nil)) pe_int)))
      (pss_cons (ps_if (pt_cmpR op_lt (pv 1) (pe_callB call_len_seq (by rfl) T.len PySem.boot_len (pa_cons (pv 0) pa_nil)) (nomark _))
        (pss_one (ps_set (i := 2) scPot.nd rfl (.inl rfl) (pe_callB call_abs (by rfl) T.abs boot_abs (pa_cons (pe_ix ix_list (pv 0) (pv 1) (fun _ _ => rfl)) pa_nil)))) pss_nil)
      (pss_one (ps_ret (pe_lst (pa_cons (pe_callB (call_max2 rfl) (by rfl) T.max boot_max (pa_cons pe_int (pa_cons (pe_op op_sub (pv 2) (pe_op op_pow pe_int pe_int)) pa_nil)))
        (pa_cons (pe_op op_add (pe_op op_mod (pe_op op_mul (pe_op op_add (pe_op op_mod (pv 2) pe_int) pe_int) (pe_op op_pow (pe_op op_add (pe_op op_mul pe_int (pv 1)) pe_int) pe_int)) pe_int) pe_int) pa_nil)))))), ?_⟩
    refine ⟨_, rfl, _, _, rfl, rfl, .inl ⟨by decide, by decide⟩, _, _, rfl, rfl, _, rfl, _, rfl, a, _, rfl, hS, fun p np => ?_⟩
    have sp := same_upd (o := .lst (cutV (ns.map V.int) none (some 1))) np
    refine ⟨p, ns.take 1, rfl, SqL.of (by rw [upd_same, cut_one]), _, _, rfl, rfl, (by show (0 : Int) < 1000003; decide), _, _, rfl, rfl, ?_⟩
    have hS' := sp.seq hS
    -- what is handed back, for any cell
    have fin : ∀ c : Int, ∀ H', Same H H' → tRet (tLst (tCons (tCB (fun xs H Q => ∃ i j, xs = [V.int i, V.int j] ∧ Q (V.int (if j > i then j else i)) H) (tCons (tC (V.int 0)) (tCons (tOp (rI0 fun i j => .int (i - j)) (tVar 2) (tOp (rI CPow fun i j => .int (i ^ j.toNat)) (tC (V.int 10)) (tC (V.int 18)))) tNil)))
        (tCons (tOp (rI0 fun i j => .int (i + j)) (tOp (rI (fun _ j => 0 < j) fun i j => .int (i % j)) (tOp (rI CMul fun i j => .int (i * j)) (tOp (rI0 fun i j => .int (i + j)) (tOp (rI (fun _ j => 0 < j) fun i j => .int (i % j)) (tVar 2) (tC (V.int 2147483549))) (tC (V.int 151)))
          (tOp (rI CPow fun i j => .int (i ^ j.toNat)) (tOp (rI0 fun i j => .int (i + j)) (tOp (rI CMul fun i j => .int (i * j)) (tC (V.int 2)) (tVar 1)) (tC (V.int 95))) (tC (V.int 3)))) (tC (V.int 2147483477))) (tC (V.int 1))) tNil))) { nx := fun _ H' => Q .non H', rt := Q } [some (.ref a), some (.int 0), some (.int c)] H' := by
      intro c H' s'
      have hc := Int.emod_nonneg c (show (2147483549 : Int) ≠ 0 by decide)
      have hc' := Int.emod_lt_of_pos c (show (0 : Int) < 2147483549 by decide)
      refine ⟨_, rfl, _, _, rfl, rfl, ⟨by decide, by decide, by decide⟩, _, _, rfl, rfl, _, _, rfl, ?_⟩
      refine ⟨_, rfl, _, _, rfl, rfl, (by show (0 : Int) < 2147483549; decide), _, _, rfl, rfl, _, rfl, _, _, rfl, rfl, .inl ⟨by decide, by decide⟩, _, _, rfl, rfl, _, _, rfl, rfl, ⟨by decide, by decide, by decide⟩, _, _, rfl, rfl, .inl ⟨?_, ?_⟩, _, _, rfl, rfl, (by show (0 : Int) < 2147483477; decide), _, _, rfl, rfl, by show 2 ≤ sizeLine; decide, fun q nq => ?_⟩
      · show -(2 ^ 64) < c % 2147483549 + 151
        omega
      · show c % 2147483549 + 151 < 2 ^ 64
        omega
      refine k _ q _ _ (s'.trans (same_upd nq)) (s'.free nq) upd_same ⟨?_, ?_, ?_⟩
      · split <;> omega
      · have := Int.emod_nonneg ((c % 2147483549 + 151) * (2 * 0 + 95) ^ 3) (show (2147483477 : Int) ≠ 0 by decide)
        exact Int.add_nonneg this (by decide)
      · have := Int.emod_lt_of_pos ((c % 2147483549 + 151) * (2 * 0 + 95) ^ 3) (show (0 : Int) < 2147483477 by decide)
        exact Int.lt_trans (Int.add_lt_add_right this 1) (by decide)
    refine ⟨_, rfl, _, rfl, a, _, rfl, .inl hS', _, _, rfl, rfl, _, rfl, ite2 (fun e => ?_) (fun _ => fin _ _ sp)⟩
    have e := of_decide_eq_true e
    cases ns with
    | nil => simp at e
    | cons x r => exact ⟨_, rfl, _, rfl, a, _, _, _, rfl, rfl, hS', atI_nat (j := 0) rfl, x, rfl, fin _ _ sp⟩

/-! ### a draw -/
theorem scDraw : FnScope ["_law_pot_here", "_law_many", "_law_digit"] ["_law_pot_here", "_law_many"] (defScope sDraw) := ⟨rfl, rfl, rfl, by decide +kernel, rfl, by decide +kernel, by decide +kernel⟩
/-- the pot at p -/
def PotAt (H : Hp) (p : Addr) : Prop := ∃ x y, H p = some (.lst [.int x, .int y]) ∧ Pot x y
def spDraw : Sp := fun vs H Q _ => ∃ (p : Addr) (m : Int), vs = [.ref p, .int m] ∧ PotAt H p ∧ 1 ≤ m ∧ m ≤ 1000 ∧ ∀ H' d, But p H H' → PotAt H' p → 0 ≤ d → d < m → Q (.int d) H'
theorem ok_draw {f : Addr} {fd : FuncData} (F : Fun K "_law_draw" "_law_draw" sDraw f fd) (T : Txt mg) : FnOk P w K mg base CX0 1 f fd ["_law_pot_here", "_law_many"] spDraw := by
  refine F.ok scDraw (fun vs H Q E h => ?_) (fun cdv A outer s H vs Q E hr h => ?_)
  · obtain ⟨p, m, rfl, _⟩ := h
    rfl
  · obtain ⟨p, m, rfl, ⟨x, y, hp, hxy⟩, m1, m2, k⟩ := h
    refine ⟨_, pss_cons (ps_if (pt_cmpR op_gt (pe_ix ix_list (pv 0) pe_int (fun _ _ => rfl)) pe_int (nomark _))
        (pss_cons (ps_asg (pe_callB call_divmod (by rfl) T.divmod boot_divmod (pa_cons (pe_ix ix_list (pv 0) pe_int (fun _ _ => rfl)) (pa_cons (pv 1) pa_nil)))
          (pg_tup rfl (pgs_cons (pg_sub (pv 0) pe_int set_list) (pgs_cons (pg_name (i := 2) scDraw.nd rfl (.inl rfl)) pgs_nil)))) (pss_one (ps_ret (pv 2)))) pss_nil)
      (pss_cons (ps_asg (pe_op op_mod (pe_op op_add (pe_op op_mul (pe_ix ix_list (pv 0) pe_int (fun _ _ => rfl)) pe_int) pe_int) pe_int) (pg_sub (pv 0) pe_int set_list))
      (pss_one (ps_ret (pe_op op_mod (pe_op op_fdiv (pe_op op_mod (pe_op op_mul (pe_ix ix_list (pv 0) pe_int (fun _ _ => rfl)) (pe_ix ix_list (pv 0) pe_int (fun _ _ => rfl))) pe_int) pe_int) (pv 1))))), ?_⟩
    refine ⟨_, rfl, p, _, _, _, rfl, rfl, SqL.of hp, atI_nat (j := 0) rfl, x, _, rfl, rfl, _, rfl, ite2 (fun e => ?_) (fun _ => ?_)⟩
    · refine ⟨_, rfl, p, _, _, _, rfl, rfl, SqL.of hp, atI_nat (j := 0) rfl, _, rfl, x, m, rfl, ⟨by omega, by omega⟩, fun t nt => ?_⟩
      have st := same_upd (o := .tup [.int (x / m), .int (x % m)]) nt
      refine ⟨t, _, rfl, SqT.of upd_same, rfl, _, _, rfl, ⟨_, rfl, p, _, _, 0, rfl, rfl, st _ _ hp, rfl, ?_⟩⟩
      refine ⟨_, _, rfl, rfl, _, rfl, ?_⟩
      refine k _ _ (But.upd (But.of st)) ⟨x / m, y, upd_same, ⟨Int.ediv_nonneg hxy.x0 (by omega), hxy.y0, hxy.y1⟩⟩ (Int.emod_nonneg _ (by omega)) (Int.emod_lt_of_pos _ (by omega))
    · have h1 := Int.emod_nonneg (y * 48271 + 151) (show (2147483587 : Int) ≠ 0 by decide)
      have h2 := Int.emod_lt_of_pos (y * 48271 + 151) (show (0 : Int) < 2147483587 by decide)
      have y0 := hxy.y0
      have y1 := hxy.y1
      refine ⟨_, rfl, p, _, _, _, rfl, rfl, SqL.of hp, atI_nat (j := 1) rfl, y, _, rfl, rfl, .inl ⟨by omega, by omega⟩, _, _, rfl, rfl, _, _, rfl, rfl, (by show (0 : Int) < 2147483587; decide), ?_⟩
      refine ⟨_, rfl, p, _, _, 1, rfl, rfl, hp, rfl, ?_⟩
      refine ⟨_, rfl, p, _, _, _, rfl, rfl, SqL.of upd_same, atI_nat (j := 1) rfl, _, rfl, p, _, _, _, rfl, rfl, SqL.of upd_same, atI_nat (j := 1) rfl, _, _, rfl, rfl, .inl ⟨?_, ?_⟩, _, _, rfl, rfl, (by show (0 : Int) < 2147483549; decide), _, _, rfl, rfl, ⟨by decide, by decide⟩, _, rfl, _, _, rfl, rfl, by show 0 < m; omega, ?_⟩
      · show -(2 ^ 64) < (y * 48271 + 151) % 2147483587
        omega
      · show (y * 48271 + 151) % 2147483587 < 2 ^ 64
        omega
      exact k _ _ (But.upd (But.refl _ _)) ⟨x, (y * 48271 + 151) % 2147483587, upd_same, ⟨hxy.x0, h1, by omega⟩⟩ (Int.emod_nonneg _ (by omega)) (Int.emod_lt_of_pos _ (by omega))
end
end K81

namespace K81
open PySem PySem.Spec PyProof.Rows L2
section
variable {P : Program} {w : World} {K : PySem.W.Frag} {mg : Str → Option Value} {base : Heap}
/-! ### the law's web -/
theorem TieV.but {p : Addr} {H H' : Hp} {v : V} {q : Tie} (b : But p H H') (hp : PotAt H p) (h : TieV H v q) : TieV H' v q := by
  obtain ⟨x, y, e, _⟩ := hp
  obtain ⟨t, rfl, ht⟩ := h
  refine ⟨t, rfl, b t _ (fun z => ?_) ht⟩
  rw [z, e] at ht
  cases ht
theorem TieV.put {l : Addr} {H : Hp} {v : V} {q : Tie} {xs : List V} {o : HO} (hl : H l = some (.lst xs)) (h : TieV H v q) : TieV (upd H l o) v q := by
  obtain ⟨t, rfl, ht⟩ := h
  refine ⟨t, rfl, ?_⟩
  rw [upd_ne fun z => ?_]
  · exact ht
  · rw [z, hl] at ht
    cases ht
/-- the ties drawn so far: the row i, of it the first j -/
structure SoFar (n i j : Nat) (T : List Tie) : Prop where
  sorted : T.Pairwise G81.tieLt
  ok : ∀ q ∈ T, 0 ≤ q.1 ∧ q.1 < q.2 ∧ q.2 < n ∧ (q.1 < i ∨ (q.1 = i ∧ q.2 < i + 1 + j))
  size : T.length ≤ 6 * i + j
theorem SoFar.start (n : Nat) : SoFar n 0 0 [] := ⟨.nil, fun _ h => (nomatch h), Nat.le_refl _⟩
theorem SoFar.row {n i j : Nat} {T : List Tie} (h : SoFar n i j T) (hj : j ≤ 6) : SoFar n (i + 1) 0 T :=
  ⟨h.sorted, fun q hq => by have := h.ok q hq; omega, by have := h.size; omega⟩
theorem SoFar.skip {n i j : Nat} {T : List Tie} (h : SoFar n i j T) : SoFar n i (j + 1) T :=
  ⟨h.sorted, fun q hq => by have := h.ok q hq; omega, by have := h.size; omega⟩
theorem SoFar.add {n i j : Nat} {T : List Tie} (h : SoFar n i j T) (hj : i + 1 + j < n) : SoFar n i (j + 1) (T ++ [((i : Int), ((i + 1 + j : Nat) : Int))]) := by
  refine ⟨List.pairwise_append.mpr ⟨h.sorted, by simp, fun a ha b hb => ?_⟩, fun q hq => ?_, ?_⟩
  · obtain rfl := List.mem_singleton.mp hb
    have := h.ok a ha
    unfold G81.tieLt
    simp only
    omega
  · rcases List.mem_append.mp hq with hq | hq
    · have := h.ok q hq
      omega
    · obtain rfl := List.mem_singleton.mp hq
      show 0 ≤ (i : Int) ∧ (i : Int) < ((i + 1 + j : Nat) : Int) ∧ ((i + 1 + j : Nat) : Int) < (n : Int) ∧ ((i : Int) < (i : Int) ∨ ((i : Int) = (i : Int) ∧ ((i + 1 + j : Nat) : Int) < (i : Int) + 1 + ((j + 1 : Nat) : Int)))
      omega
  · have := h.size
    rw [List.length_append, List.length_singleton]
    omega
theorem SoFar.good {n i j : Nat} {T : List Tie} (h : SoFar n i j T) : G81.Good n T := ⟨G81.tieLt_nodup h.sorted, fun q hq => by have := h.ok q hq; omega⟩
theorem scLawWeb : FnScope ["_law_pot_here", "_law_least", "_law_most", "_law_many", "_law_ties", "_law_low", "_law_high"] ["_law_pot_here", "_law_least", "_law_most"] (defScope sLawWeb) := ⟨rfl, rfl, rfl, by decide +kernel, rfl, by decide +kernel, by decide +kernel⟩
def spLawWeb : Sp := fun vs H Q _ => ∃ p : Addr, vs = [.ref p, .int 1, .int 6] ∧ PotAt H p ∧ ∀ H' q l n xs T, But p H H' → PotAt H' p → H q = none → H l = none → H' q = some (.tup [.int (n : Nat), .ref l]) → H' l = some (.lst xs) → Ties H' xs T →
  T.Pairwise G81.tieLt → G81.Good n T → 1 ≤ n → n ≤ 6 → T.length ≤ 50 → Q (.ref q) H'
theorem but_free {p : Addr} {H H' : Hp} {q : Addr} (b : But p H H') (hp : PotAt H' p) (h : H' q = none) : H q = none := by
  cases e : H q with
  | none => rfl
  | some o =>
    obtain ⟨x, y, e2, _⟩ := hp
    have n : q ≠ p := fun z => by rw [z, e2] at h; cases h
    rw [b q o n e] at h
    cases h
theorem pot_new {p q : Addr} {H : Hp} {o : HO} (hp : PotAt H p) (h : H q = none) : PotAt (upd H q o) p := by
  obtain ⟨x, y, e, g⟩ := hp
  exact ⟨x, y, by rw [upd_ne (ne_of_none e h)]; exact e, g⟩
theorem pot_ne {p q : Addr} {H : Hp} {o : HO} (hp : PotAt H p) (h : p ≠ q) : PotAt (upd H q o) p := by
  obtain ⟨x, y, e, g⟩ := hp
  exact ⟨x, y, by rw [upd_ne h]; exact e, g⟩
theorem ok_lawWeb {f fD : Addr} {fd fdD : FuncData} (F : Fun K "_law_web" "_law_web" sLawWeb f fd)
    (FD : Fun K "_law_draw" "_law_draw" sDraw fD fdD) (bD : Binds K fdD ["_law_pot_here", "_law_many"] []) (gD : mg "_law_draw" = some (.ref fD)) (GD : FnOk P w K mg base CX0 1 fD fdD ["_law_pot_here", "_law_many"] spDraw) (T : Txt mg) :
    FnOk P w K mg base CX0 2 f fd ["_law_pot_here", "_law_least", "_law_most"] spLawWeb := by
  refine F.ok scLawWeb (fun vs H Q E h => ?_) (fun cdv A outer s H vs Q E hr h => ?_)
  · obtain ⟨p, rfl, _⟩ := h
    rfl
  · obtain ⟨p, rfl, hp, k⟩ := h
    refine ⟨_, pss_cons (ps_par (i := 3) (j := 4) (by rfl) scLawWeb.nd rfl rfl (by decide) rfl rfl (pa_cons (pe_op op_add (pv 1) (pe_call GD hr (by rfl) gD FD.kp bD .nil pass0 (pa_cons (pv 0) (pa_cons (pe_op op_add (pe_op op_sub (pv 2) (pv 1)) pe_int) pa_nil)))) (pa_cons (pe_lst pa_nil) pa_nil)) (by rfl))
      (pss_cons (ps_for PassesOwn.never rfl (pi_range1 (by rfl) T.range (pa_cons (pv 3) pa_nil)) (pg_name (i := 5) scLawWeb.nd rfl (.inl rfl))
        (pss_one (ps_for PassesOwn.never rfl (pi_range2 (by rfl) T.range (pa_cons (pe_op op_add (pv 5) pe_int) (pa_cons (pv 3) pa_nil))) (pg_name (i := 6) scLawWeb.nd rfl (.inl rfl))
          (pss_one (ps_if (pt_cmpR op_eq (pe_call GD hr (by rfl) gD FD.kp bD .nil pass0 (pa_cons (pv 0) (pa_cons pe_int pa_nil))) pe_int (nomark _))
            (pss_one (ps_expr (pe_bm PySem.F.plainAttrs_list PySem.F.slot_list_append PySem.F.type_list_append mt_append (pv 4) (pa_cons (pe_tup (pa_cons (pv 5) (pa_cons (pv 6) pa_nil))) pa_nil)))) pss_nil)))))
      (pss_one (ps_ret (pe_tup (pa_cons (pv 3) (pa_cons (pv 4) pa_nil)))))), ?_⟩
    -- how many
    refine ⟨_, rfl, _, rfl, _, rfl, _, rfl, _, _, rfl, rfl, _, _, rfl, rfl, p, _, rfl, hp, by decide, by decide, fun H1 d b1 p1 d0 d6 => ?_⟩
    refine ⟨_, _, rfl, rfl, Nat.zero_le _, fun l nl => ⟨_, _, rfl, ?_⟩⟩
    obtain ⟨n, hn⟩ : ∃ n : Nat, (1 + d : Int) = n := ⟨(1 + d).toNat, by omega⟩
    have n1 : 1 ≤ n := by omega
    have n6 : n ≤ 6 := by omega
    have l0 : H l = none := but_free b1 p1 nl
    have npl : p ≠ l := by
      obtain ⟨x, y, e, _⟩ := p1
      exact ne_of_none e nl
    have nlp : l ≠ p := fun e => npl e.symm
    show tSeq _ _ _ [some (.ref p), some (.int 1), some (.int 6), some (.int (1 + d)), some (.ref l), none, none] _
    rw [hn]
    refine ⟨_, rfl, (n : Int), rfl, by omega, by omega, for_range (lo := 0) (n := n) (fun i σ H' => ∃ (o5 o6 : Option V) (xs : List V) (T : List Tie), σ = [some (.ref p), some (.int 1), some (.int 6), some (.int n), some (.ref l), o5, o6] ∧ But p H H' ∧ PotAt H' p ∧ H' l = some (.lst xs) ∧ Ties H' xs T ∧ SoFar n i 0 T)
      ⟨none, none, [], [], rfl, b1.new nl, pot_new p1 nl, upd_same, .nil, .start n⟩ (fun i σ H' hi hP => ?_) (fun σ H' hP => ?_)⟩
    · -- a row
      obtain ⟨o5, o6, xs, ts, rfl, b, hpp, hl, hT, S⟩ := hP
      have ei : (0 : Int) + (i : Nat) = (i : Nat) := by omega
      have ec : ((n : Int) - ((0 : Int) + (i : Nat) + 1)).toNat = n - (i + 1) := by omega
      refine ⟨_, rfl, _, _, rfl, rfl, _, rfl, _, _, rfl, by omega, ?_⟩
      rw [ec]
      refine for_range (lo := 0 + (i : Nat) + 1) (n := n - (i + 1)) (fun j σ H' => ∃ (o6 : Option V) (xs : List V) (T : List Tie), σ = [some (.ref p), some (.int 1), some (.int 6), some (.int n), some (.ref l), some (.int (0 + (i : Nat))), o6] ∧ But p H H' ∧ PotAt H' p ∧ H' l = some (.lst xs) ∧ Ties H' xs T ∧ SoFar n i j T)
        ⟨o6, xs, ts, rfl, b, hpp, hl, hT, S⟩ (fun j σ H' hj hP => ?_) (fun σ H' hP => ?_)
      · obtain ⟨o6, xs, ts, rfl, b, hpp, hl, hT, S⟩ := hP
        refine ⟨_, rfl, p, 2, rfl, hpp, by decide, by decide, fun H2 e be pe _ _ => ?_⟩
        have hl2 : H2 l = some (.lst xs) := be _ _ nlp hl
        have hT2 : Ties H2 xs ts := Paired.mapP hT fun _ _ q => q.but be hpp
        have ev : (0 : Int) + (i : Nat) + 1 + (j : Nat) = ((i + 1 + j : Nat) : Int) := by omega
        refine ⟨rfl, _, rfl, ite2 (fun _ => ?_) (fun _ => ?_)⟩
        · refine ⟨_, rfl, .inl ⟨rfl, _, SqL.of hl2⟩, _, rfl, _, rfl, by show 2 ≤ sizeLine; decide, fun t nt => ?_⟩
          have hlt : l ≠ t := ne_of_none hl2 nt
          have hs := S.size
          have hlen := hT.length
          have hz : xs.length < sizeLine := Nat.lt_of_le_of_lt (show xs.length ≤ 100 by omega) (by decide)
          have hl3 : (upd H2 t (.tup [.int (0 + (i : Nat)), .int (0 + (i : Nat) + 1 + (j : Nat))])) l = some (.lst xs) := by rw [upd_ne hlt]; exact hl2
          refine ⟨l, xs, _, rfl, rfl, hl3, hz, ?_⟩
          refine ⟨_, xs ++ [.ref t], ts ++ [((i : Int), ((i + 1 + j : Nat) : Int))], rfl, ?_, ?_, upd_same, ?_, S.add (by omega)⟩
          · have b2 : But p H (upd H2 t (.tup [.int (0 + (i : Nat)), .int (0 + (i : Nat) + 1 + (j : Nat))])) := (b.trans be).new nt
            exact fun c u hc e => by
              rw [upd_ne (ne_of_none e l0)]
              exact b2 c u hc e
          · exact pot_ne (pot_new pe nt) npl
          · refine paired_append (Paired.mapP hT2 fun _ _ q => (q.same (same_upd nt)).put hl3) (.cons ⟨t, rfl, ?_⟩ .nil)
            rw [upd_ne (fun z => hlt z.symm), upd_same, ev, ei]
        · exact ⟨_, xs, ts, rfl, b.trans be, pe, hl2, hT2, S.skip⟩
      · obtain ⟨o6, xs, ts, rfl, b, hpp, hl, hT, S⟩ := hP
        exact ⟨_, o6, xs, ts, rfl, b, hpp, hl, hT, S.row (by omega)⟩
    · obtain ⟨o5, o6, xs, ts, rfl, b, hpp, hl, hT, S⟩ := hP
      refine ⟨_, rfl, _, rfl, by show 2 ≤ sizeLine; decide, fun q nq => ?_⟩
      have hs := S.size
      have sq := same_upd (o := .tup [.int (n : Int), .ref l]) nq
      exact k _ q l n xs ts (b.new nq) (pot_new hpp nq) (but_free b hpp nq) l0 upd_same (sq _ _ hl) (hT.same sq) S.sorted S.good n1 n6 (by omega)
end
end K81

namespace K81
open PySem PySem.Spec PyProof.Rows L2
section
variable {P : Program} {w : World} {K : PySem.W.Frag} {mg : Str → Option Value} {base : Heap}
/-! ### the law's neighbours -/
theorem scNear : FnScope ["_law_ties", "_law_copy", "_law_low", "_law_high"] ["_law_ties", "_law_copy"] (defScope sNear) := ⟨rfl, rfl, rfl, by decide +kernel, rfl, by decide +kernel, by decide +kernel⟩
/-- the law's own ties at v -/
structure TiesL (H : Hp) (v : V) (n : Nat) (T : List Tie) : Prop where
  plc : ∃ (L : Addr) (xs : List V), v = .ref L ∧ H L = some (.lst xs) ∧ Ties H xs T
  good : G81.Good n T
  size : T.length ≤ 100
theorem TiesL.same {H H' : Hp} {v : V} {n : Nat} {T : List Tie} (s : Same H H') (h : TiesL H v n T) : TiesL H' v n T :=
  ⟨let ⟨L, xs, e, q2, q3⟩ := h.plc; ⟨L, xs, e, s _ _ q2, q3.same s⟩, h.good, h.size⟩
def spNear : Sp := fun vs H Q _ => ∃ (v : V) (n : Nat) (T : List Tie) (c : Int), vs = [v, .int c] ∧ TiesL H v n T ∧ ∀ H' p, IntsNew H H' p (G81.nb n T c) → Q (.ref p) H'
theorem ok_near {f : Addr} {fd : FuncData} (F : Fun K "_law_near" "_law_near" sNear f fd) (T : Txt mg) : FnOk P w K mg base CX0 1 f fd ["_law_ties", "_law_copy"] spNear := by
  refine F.ok scNear (fun vs H Q E h => ?_) (fun cdv A outer s H vs Q E hr h => ?_)
  · obtain ⟨v, n, T, c, rfl, _⟩ := h
    rfl
  · obtain ⟨v, n, ts, c, rfl, W, k⟩ := h
    obtain ⟨L, xs, rfl, hL, hT⟩ := W.plc
    refine ⟨_, pss_one (ps_ret (pe_callB cr_sortedI (by rfl) T.sorted boot_sorted (pa_cons (pe_op op_cat
        (pe_lc (own := [("_law_low", 2), ("_law_high", 3)]) (g := gTup K 2 (gCons (gName 2) (gCons (gName 3) gNil))) rfl scNear.nd (pi_list (pv 0)) (blkOk_by (N := ["_law_ties", "_law_copy", "_law_low", "_law_high"]) (sc := defScope sNear) (by decide +kernel))
          (fun _ _ _ _ _ => pg_tup rfl (pgs_cons (pg_name (i := 2) scNear.nd rfl (.inl rfl)) (pgs_cons (pg_name (i := 3) scNear.nd rfl (.inl rfl)) pgs_nil)))
          (fun _ _ _ _ _ => pts_one (pt_cmpR op_eq (pv 2) (pv 1) (nomark _))) (fun _ _ _ _ _ => pv 3))
        (pe_lc (own := [("_law_low", 2), ("_law_high", 3)]) (g := gTup K 2 (gCons (gName 2) (gCons (gName 3) gNil))) rfl scNear.nd (pi_list (pv 0)) (blkOk_by (N := ["_law_ties", "_law_copy", "_law_low", "_law_high"]) (sc := defScope sNear) (by decide +kernel))
          (fun _ _ _ _ _ => pg_tup rfl (pgs_cons (pg_name (i := 2) scNear.nd rfl (.inl rfl)) (pgs_cons (pg_name (i := 3) scNear.nd rfl (.inl rfl)) pgs_nil)))
          (fun _ _ _ _ _ => pts_one (pt_cmpR op_eq (pv 3) (pv 1) (nomark _))) (fun _ _ _ _ _ => pv 2))) pa_nil))), ?_⟩
    have hz : ts.length < sizeLine := Nat.lt_of_le_of_lt W.size (by decide)
    refine ⟨_, rfl, L, rfl, ⟨_, SqL.of hL⟩, fun D nD => ?_⟩
    refine lc_list (K := K) (a := L) (xs := xs) (Acc V.int (fun p : Tie => if p.1 = c then some p.2 else none) ts H D) (Acc.start nD) (fun i H' _ b => SqL.of (b.same _ _ hL)) (fun i x H' hx b => ?_) (fun H1 b => ?_)
    · obtain ⟨p, hp, t, rfl, ht⟩ := paired_at (hT.same b.same) hx
      refine ⟨t, _, rfl, SqT.of ht, rfl, _, _, rfl, _, _, rfl, rfl, rfl, _, rfl, _, rfl, rfl, _, rfl, ?_⟩
      by_cases e : p.1 = c
      · refine (if_pos (decide_eq_true (congrArg V.int e))).mpr ?_
        exact ⟨_, rfl, b.more nD hp (Same.refl _) (if_pos e) hz⟩
      · refine (if_neg ?_).mpr (b.less hp (Same.refl _) (if_neg e))
        intro q
        exact e (V.int.inj (of_decide_eq_true q))
    rw [hT.length] at b
    obtain ⟨s1, hD⟩ := b.done
    rw [highs_fm] at hD
    have hT1 := hT.same s1
    refine ⟨_, rfl, L, rfl, ⟨_, SqL.of (s1 _ _ hL)⟩, fun D2 nD2 => ?_⟩
    refine lc_list (K := K) (a := L) (xs := xs) (Acc V.int (fun p : Tie => if p.2 = c then some p.1 else none) ts H1 D2) (Acc.start nD2) (fun i H' _ b => SqL.of (b.same _ _ (s1 _ _ hL))) (fun i x H' hx b => ?_) (fun H2 b => ?_)
    · obtain ⟨p, hp, t, rfl, ht⟩ := paired_at (hT1.same b.same) hx
      refine ⟨t, _, rfl, SqT.of ht, rfl, _, _, rfl, _, _, rfl, rfl, rfl, _, rfl, _, rfl, rfl, _, rfl, ?_⟩
      by_cases e : p.2 = c
      · refine (if_pos (decide_eq_true (congrArg V.int e))).mpr ?_
        exact ⟨_, rfl, b.more nD2 hp (Same.refl _) (if_pos e) hz⟩
      · refine (if_neg ?_).mpr (b.less hp (Same.refl _) (if_neg e))
        intro q
        exact e (V.int.inj (of_decide_eq_true q))
    rw [hT.length] at b
    obtain ⟨s2, hD2⟩ := b.done
    rw [lows_fm] at hD2
    refine ⟨D, D2, _, _, rfl, rfl, s2 _ _ hD, hD2, ?_, fun D3 nD3 => ?_⟩
    · have h1 : (G81.lows ts c).length ≤ ts.length := by unfold G81.lows; rw [List.length_map]; exact List.length_filter_le _ _
      have h2 : (G81.highs ts c).length ≤ ts.length := by unfold G81.highs; rw [List.length_map]; exact List.length_filter_le _ _
      have := W.size
      rw [List.length_map, List.length_map]
      exact Nat.le_trans (show _ ≤ 200 by omega) (by decide)
    rw [← List.map_append]
    have s3 := same_upd (o := .lst ((G81.highs ts c ++ G81.lows ts c).map V.int)) nD3
    refine ⟨D3, G81.highs ts c ++ G81.lows ts c, rfl, SqL.of upd_same, fun ns p hp hs np => ?_⟩
    have e := G81.near_eq W.good c hp hs
    subst e
    exact k _ p ⟨s1.trans (s2.trans (s3.trans (same_upd np))), s1.free (s2.free (s3.free np)), upd_same⟩

/-! ### the law's pieces -/
theorem scPiece : FnScope ["_law_ties", "_law_copy", "_law_found", "_law_turn", "_law_here", "_law_other"] ["_law_ties", "_law_copy"] (defScope sPiece) := ⟨rfl, rfl, rfl, by decide +kernel, rfl, by decide +kernel, by decide +kernel⟩
noncomputable abbrev pieceOf (n : Nat) (T : List Tie) (c : Int) : List Int := G81.comp (G81.adjT T) (G81.vs n) c
def spPiece : Sp := fun vs H Q _ => ∃ (v : V) (n : Nat) (T : List Tie) (c : Int), vs = [v, .int c] ∧ TiesL H v n T ∧ n ≤ 6 ∧ c ∈ G81.vs n ∧ ∀ H' p, IntsNew H H' p (pieceOf n T c) → Q (.ref p) H'
theorem ok_piece {f fN : Addr} {fd fdN : FuncData} (F : Fun K "_law_piece" "_law_piece" sPiece f fd)
    (FN : Fun K "_law_near" "_law_near" sNear fN fdN) (bN : Binds K fdN ["_law_ties", "_law_copy"] []) (gN : mg "_law_near" = some (.ref fN)) (GN : FnOk P w K mg base CX0 1 fN fdN ["_law_ties", "_law_copy"] spNear) (T : Txt mg) :
    FnOk P w K mg base CX0 2 f fd ["_law_ties", "_law_copy"] spPiece := by
  refine F.ok scPiece (fun vs H Q E h => ?_) (fun cdv A outer s H vs Q E hr h => ?_)
  · obtain ⟨v, n, T, c, rfl, _⟩ := h
    rfl
  · obtain ⟨v, n, ts, c, rfl, W, n6, hc, k⟩ := h
    refine ⟨_, pss_cons (ps_set (i := 2) scPiece.nd rfl (.inr rfl) (pe_lst (pa_cons (pv 1) pa_nil)))
      (pss_cons (ps_for PassesOwn.never rfl (pi_range1 (by rfl) T.range (pa_cons pe_int pa_nil)) (pg_name (i := 3) scPiece.nd rfl (.inl rfl))
        (pss_one (ps_for PassesOwn.never rfl (pi_list (pe_callTy call_list_of (by rfl) T.list PyProof.Rows.boot_list (pa_cons (pv 2) pa_nil))) (pg_name (i := 4) scPiece.nd rfl (.inl rfl))
          (pss_one (ps_set (i := 2) scPiece.nd rfl (.inr rfl) (pe_op op_cat (pv 2)
            (pe_lc (own := [("_law_other", 5)]) (g := gName 5) rfl scPiece.nd (pi_list (pe_call GN hr (by rfl) gN FN.kp bN .nil pass0 (pa_cons (pv 0) (pa_cons (pv 4) pa_nil))))
              (blkOk_by (N := ["_law_ties", "_law_copy", "_law_found", "_law_turn", "_law_here", "_law_other"]) (sc := defScope sPiece) (by decide +kernel)) (fun _ _ _ _ _ => pg_name (i := 5) scPiece.nd rfl (Or.inl rfl))
              (fun _ _ _ _ _ => pts_one (pt_cmpR (r := rIn K true) op_notIn_seq (pv 5) (pv 2) (by rfl))) (fun _ _ _ _ _ => pv 5))))))))
      (pss_one (ps_ret (pe_callB cr_sortedI (by rfl) T.sorted boot_sorted (pa_cons (pv 2) pa_nil))))), ?_⟩
    refine ⟨_, rfl, by show 1 ≤ sizeLine; decide, fun p0 np0 => ?_⟩
    have hV := G81.vs_nodup n
    refine ⟨6, rfl, by decide, by decide, for_range (lo := 0) (n := 6) (fun t σ H' => ∃ (o3 o4 o5 : Option V) (pf : Addr) (found : List Int), σ = [some v, some (.int c), some (.ref pf), o3, o4, o5] ∧ Same H H' ∧ H' pf = some (.lst (found.map V.int)) ∧ G81.Six (G81.adjT ts) (G81.vs n) c t found)
      ⟨none, none, none, p0, [c], rfl, same_upd np0, upd_same, .start hc⟩ (fun t σ H' ht hP => ?_) (fun σ H' hP => ?_)⟩
    · obtain ⟨o3, o4, o5, pf, found, rfl, sH, hf, S⟩ := hP
      -- for here in list(found)
      refine ⟨_, rfl, pf, _, rfl, .inl (SqL.of hf), fun pl npl => ?_⟩
      have sl := same_upd (o := .lst (found.map V.int)) npl
      refine ⟨pl, rfl, ⟨_, SqL.of upd_same⟩, for_list (K := K) (a := pl) (xs := found.map V.int) (fun i σ H2 => ∃ (o4 o5 : Option V) (pg : Addr) (fo : List Int), σ = [some v, some (.int c), some (.ref pg), some (.int (0 + (t : Nat))), o4, o5] ∧ Same (upd H' pl (.lst (found.map V.int))) H2 ∧ H2 pg = some (.lst (fo.map V.int)) ∧ G81.Turn (G81.adjT ts) (G81.vs n) c found i fo)
        ⟨o4, o5, pf, found, rfl, Same.refl _, sl _ _ hf, .start S.1⟩ (fun i σ H2 _ hQ => ?_) (fun i y σ H2 hy hQ => ?_) (fun σ H2 hQ => ?_)⟩
      · obtain ⟨_, _, _, _, _, s2, _⟩ := hQ
        exact SqL.of (s2 _ _ upd_same)
      · obtain ⟨o4, o5, pg, fo, rfl, s2, hg, U⟩ := hQ
        rw [List.getElem?_map] at hy
        cases hz : found[i]? with
        | none => rw [hz] at hy; cases hy
        | some x =>
          rw [hz] at hy
          obtain rfl := Option.some.inj hy
          have s02 : Same H H2 := sH.trans (sl.trans s2)
          refine ⟨_, rfl, _, rfl, _, rfl, v, n, ts, x, rfl, W.same s02, fun H3 q hq => ?_⟩
          obtain ⟨sq, _, hq⟩ := hq
          refine ⟨q, rfl, ⟨_, SqL.of hq⟩, fun D nD => ?_⟩
          have nd6 : (G81.nb n ts x).length ≤ 6 := by
            have : (G81.nb n ts x).length ≤ (G81.vs n).length := List.length_filter_le _ _
            rw [G81.vs_len] at this
            omega
          refine lc_list (K := K) (a := q) (xs := (G81.nb n ts x).map V.int) (Acc V.int (fun y : Int => if (!decide (y ∈ fo)) = true then some y else none) (G81.nb n ts x) H3 D) (Acc.start nD) (fun i H5 _ b => SqL.of (b.same _ _ hq)) (fun i y H5 hy b => ?_) (fun H5 b => ?_)
          · rw [List.getElem?_map] at hy
            cases hz' : (G81.nb n ts x)[i]? with
            | none => rw [hz'] at hy; cases hy
            | some z =>
              rw [hz'] at hy
              obtain rfl := Option.some.inj hy
              refine ⟨rfl, _, rfl, _, rfl, pg, fo.map V.int, rfl, .inl (SqL.of (b.same _ _ (sq _ _ hg))), rfl, flat_ints fo, !decide (z ∈ fo), by rw [if_pos rfl, inV_ints], ?_⟩
              by_cases hm : z ∈ fo
              · exact (if_neg (by simp [hm])).mpr (b.less hz' (Same.refl _) (if_neg (by simp [hm])))
              · refine (if_pos (by simp [hm])).mpr ?_
                exact ⟨_, rfl, b.more nD hz' (Same.refl _) (if_pos (by simp [hm])) (Nat.lt_of_le_of_lt nd6 (by decide))⟩
          rw [List.length_map] at b
          obtain ⟨s5, hD⟩ := b.done
          rw [filter_fm] at hD
          have em : (G81.nb n ts x).filter (fun y => !decide (y ∈ fo)) = G81.more (G81.adjT ts) (G81.vs n) fo x := rfl
          rw [em] at hD
          have U' := U.step hV W.good.inn hz
          have l6 := vs_six n6 U'.gr
          have hg5 := s5 _ _ (sq _ _ hg)
          refine ⟨pg, D, _, _, rfl, rfl, hg5, hD, by rw [List.length_map, List.length_map, ← List.length_append]; exact Nat.le_trans l6 (by decide), fun pn nn => ?_⟩
          rw [← List.map_append]
          exact ⟨_, _, pn, _, rfl, s2.trans (sq.trans (s5.trans (same_upd nn))), upd_same, U'⟩
      · obtain ⟨o4, o5, pg, fo, rfl, s2, hg, U⟩ := hQ
        rw [List.length_map] at U
        exact ⟨_, o4, o5, pg, fo, rfl, sH.trans (sl.trans s2), hg, S.next U⟩
    · obtain ⟨o3, o4, o5, pf, found, rfl, sH, hf, S⟩ := hP
      refine ⟨_, rfl, pf, found, rfl, SqL.of hf, fun ns p hp hs np => ?_⟩
      have hfull := S.full (by rw [G81.vs_len]; exact n6)
      have e : ns = pieceOf n ts c := G81.sorted_one (hp.trans (G81.comp_perm hV S.1 hfull)) hs (G81.lt_le ((G81.vs_lt n).filter _))
      subst e
      exact k _ p ⟨sH.trans (same_upd np), sH.free np, upd_same⟩

/-! ### whether a told ring is one -/
theorem scIsRing : FnScope ["_law_ties", "_law_value", "_law_place", "_law_copy"] ["_law_ties", "_law_value"] (defScope sIsRing) := ⟨rfl, rfl, rfl, by decide +kernel, rfl, by decide +kernel, by decide +kernel⟩
def spIsRing : Sp := fun vs H Q _ => ∃ (v : V) (n : Nat) (T : List Tie) (r : Addr) (R : List Int), vs = [v, .ref r] ∧ TiesL H v n T ∧ H r = some (.lst (R.map V.int)) ∧ R.length ≤ 60 ∧ G81.Ring (G81.adjT T) R ∧ ∀ H', Same H H' → Q (.bl true) H'
theorem ring_prev {adj : Int → Int → Bool} {R : List Int} (g : G81.Ring adj R) (hs : ∀ x y, adj x y = adj y x) {i : Nat} {x : Int} (hx : R[i]? = some x) : ∃ y, atI (R.map V.int) ((i : Int) - 1) = some (.int y) ∧ adj x y = true := by
  have hi : i < R.length := (List.getElem?_eq_some_iff.mp hx).1
  cases i with
  | zero =>
    obtain ⟨y, h1, h2⟩ := last_ix (l := R) (fun e => by rw [e] at hi; exact absurd hi (Nat.not_lt_zero _))
    refine ⟨y, h2, ?_⟩
    rw [hs]
    exact g.back x y hx h1
  | succ i =>
    have hy : R[i]? = some R[i] := List.getElem?_eq_getElem (by omega)
    refine ⟨R[i], ?_, ?_⟩
    · rw [show ((i + 1 : Nat) : Int) - 1 = (i : Nat) by omega]
      exact atI_nat (by rw [List.getElem?_map, hy]; rfl)
    · rw [hs]
      exact g.lk i _ x hy hx
theorem ok_isRing {f fN : Addr} {fd fdN : FuncData} (F : Fun K "_law_is_ring" "_law_is_ring" sIsRing f fd)
    (FN : Fun K "_law_near" "_law_near" sNear fN fdN) (bN : Binds K fdN ["_law_ties", "_law_copy"] []) (gN : mg "_law_near" = some (.ref fN)) (GN : FnOk P w K mg base CX0 1 fN fdN ["_law_ties", "_law_copy"] spNear) (T : Txt mg) :
    FnOk P w K mg base CX0 2 f fd ["_law_ties", "_law_value"] spIsRing := by
  refine F.ok scIsRing (fun vs H Q E h => ?_) (fun cdv A outer s H vs Q E hr h => ?_)
  · obtain ⟨v, n, T, r, R, rfl, _⟩ := h
    rfl
  · obtain ⟨v, n, ts, r, R, rfl, W, hR, hl, G, k⟩ := h
    refine ⟨_, pss_cons (ps_if (PW.pt (pw_or (pt_not (pt_val (pe_callB call_isi (by rfl) T.isi boot_isinstance (pa_cons (pv 1) (pa_cons (pe_bltn (v := .ty "list") (by rfl) T.list PyProof.Rows.boot_list rfl) pa_nil)))))
        (pw_or (pt_cmpR op_lt (pe_callB call_len_seq (by rfl) T.len PySem.boot_len (pa_cons (pv 1) pa_nil)) pe_int (nomark _))
        (pw_or1 (pt_cmpR op_ne (pe_lenSet' (by rfl) T.len (by rfl) T.set rfl (pv 1)) (pe_callB call_len_seq (by rfl) T.len PySem.boot_len (pa_cons (pv 1) pa_nil)) (nomark _)))))) (pss_one (ps_ret pe_bl)) pss_nil)
      (pss_cons (ps_for PassesOwn.never rfl (pi_enum (by rfl) T.enum (pa_cons (pv 1) pa_nil)) (pg_tup rfl (pgs_cons (pg_name (i := 2) scIsRing.nd rfl (.inl rfl)) (pgs_cons (pg_name (i := 3) scIsRing.nd rfl (.inl rfl)) pgs_nil)))
        (pss_one (ps_if (pt_cmpR op_notIn_seq (pe_ix ix_list (pv 1) (pe_op op_sub (pv 2) pe_int) (fun _ _ => rfl)) (pe_call GN hr (by rfl) gN FN.kp bN .nil pass0 (pa_cons (pv 0) (pa_cons (pv 3) pa_nil))) (by rfl)) (pss_one (ps_ret pe_bl)) pss_nil)))
      (pss_one (ps_ret pe_bl))), ?_⟩
    have h3 := G.three
    refine ⟨_, rfl, _, _, _, _, true, rfl, .ty "list", .base (.lst hR), kit_ty (by decide +kernel), true, rfl, iteF ?_⟩
    refine ⟨_, rfl, r, _, rfl, .inl (SqL.of hR), _, _, rfl, rfl, false, congrArg V.bl (decide_eq_false (by rw [List.length_map]; omega)), iteF ?_⟩
    refine ⟨_, rfl, r, R, rfl, SqL.of hR, by omega, fun D nD hD => ?_⟩
    have hDl : D.length = R.length := ((List.perm_ext_iff_of_nodup nD G.nd).mpr hD).length_eq
    refine ⟨_, rfl, r, _, rfl, .inl (SqL.of hR), rfl, _, rfl, iteNS (by rw [List.length_map, hDl]) ?_⟩
    -- the loop
    refine ⟨_, rfl, r, R.map V.int, rfl, SqL.of hR, fun i m σ H' => ∃ (o2 o3 : Option V), σ = [some v, some (.ref r), o2, o3] ∧ Same H H' ∧ m + i = R.length, ⟨R.length, none, none, rfl, Same.refl _, rfl⟩, fun i m σ H' hP => ?_⟩
    obtain ⟨o2, o3, rfl, sH, em⟩ := hP
    have hR' := sH _ _ hR
    by_cases hi : i < R.length
    · have hx : R[i]? = some R[i] := List.getElem?_eq_getElem hi
      have hxv : (R.map V.int)[i]? = some (.int R[i]) := by rw [List.getElem?_map, hx]; rfl
      refine .inr ⟨⟨_, _, SqL.of hR', hxv⟩, fun σ' H2 => ∃ (o2 o3 : Option V), σ' = [some v, some (.ref r), o2, o3] ∧ Same H H2, fun σ' H2 hQ => ?_, fun y H2 hy => ?_⟩
      · obtain ⟨o2, o3, e, s2⟩ := hQ
        exact ⟨m - 1, by omega, o2, o3, e, s2, by omega⟩
      · obtain ⟨t, y', rfl, nt, rfl, hy⟩ := hy
        have hy' := hy _ (SqL.of hR')
        rw [hxv] at hy'
        obtain rfl := Option.some.inj hy'
        have st := same_upd (o := .tup [.int (i : Nat), .int R[i]]) nt
        obtain ⟨z, hz, ha⟩ := ring_prev G (G81.adjT_symm ts) hx
        refine ⟨t, _, rfl, SqT.of upd_same, rfl, _, _, rfl, _, _, rfl, rfl, ?_⟩
        refine ⟨_, rfl, _, rfl, _, _, rfl, rfl, r, _, _, .int z, rfl, rfl, SqL.of (st _ _ hR'), hz, _, rfl, _, rfl, v, n, ts, R[i], rfl, W.same (sH.trans st), fun H3 q hq => ?_⟩
        refine ⟨q, _, rfl, .inl (SqL.of hq.2.2), rfl, flat_ints _, false, ?_, iteF ?_⟩
        · rw [if_pos rfl, inV_ints, decide_eq_true]
          · rfl
          · exact (G81.mem_nbs W.good.inn).mpr ha
        exact ⟨_, _, rfl, sH.trans (st.trans hq.1)⟩
    · refine .inl ⟨⟨_, SqL.of hR', by rw [List.length_map]; omega⟩, ?_⟩
      exact k _ sH
end
end K81

namespace K81
open PySem PySem.Spec PyProof.Rows L2
/-! ### data -/
abbrev tdata (T : List Tie) : List PyData := T.map fun p => PyData.tuple [.int p.1, .int p.2]
theorem tdata_eqvAll : ∀ T : List Tie, PyData.eqvAll (tdata T) (tdata T) = true
  | [] => by simp [PyData.eqvAll]
  | p :: T => by
    simp only [List.map_cons, PyData.eqvAll]
    rw [tieD_eqv, tdata_eqvAll T]
    simp
theorem tdata_nil (T : List Tie) : PyData.eqv (.list (tdata T)) (.list []) = decide (T = []) := by
  cases T with
  | nil => simp [PyData.eqv, PyData.eqvAll]
  | cons p T => simp [PyData.eqv, PyData.eqvAll]
theorem tdata_shaped (T : List Tie) : SeqAt.shaped (.list (tdata T)) = true := by
  have h := tieD_depth T
  show (PyData.canLay0 (.list (tdata T)) && decide (PyData.depth (.list (tdata T)) ≤ 64)) = true
  have h2 : PyData.depth (.list (tdata T)) ≤ 64 := by simp only [PyData.depth, tdata]; omega
  rw [decide_eq_true h2]
  simp [PyData.canLay0, tieD_lay T]
abbrev wdata (n : Nat) (T : List Tie) : PyData := .tuple [.int n, .list (tdata T)]
theorem wdata_eqv (n : Nat) (T : List Tie) : PyData.eqv (wdata n T) (wdata n T) = true := by
  simp only [PyData.eqv, PyData.eqvAll, tdata_eqvAll]
  simp
theorem wdata_shaped (n : Nat) (T : List Tie) : SeqAt.shaped (wdata n T) = true := by
  have h := tieD_depth T
  show (PyData.canLay0 (wdata n T) && decide (PyData.depth (wdata n T) ≤ 64)) = true
  have h2 : PyData.depth (wdata n T) ≤ 64 := by simp only [PyData.depth, PyData.depthAll, tdata]; omega
  rw [decide_eq_true h2]
  simp [PyData.canLay0, PyData.canLayAll0, tieD_lay T]
theorem wdata_dp {K : PySem.W.Frag} {H : Hp} {q l : Addr} {n : Nat} {xs : List V} {T : List Tie} (hq : H q = some (.tup [.int n, .ref l])) (hl : H l = some (.lst xs)) (hT : Ties H xs T) : Dp K H (.ref q) (wdata n T) :=
  .tup (SqT.of hq) (.cons (.int _) (.cons (.lst (SqL.of hl) (ties_dp hT)) .nil))
/-- the told ties are the sorted ones -/
theorem Told.sorted {H H' : Hp} {p : Addr} {n : Nat} {TG T : List Tie} (t : Told H H' p n TG) (pm : TG.Perm T) (hS : T.Pairwise G81.tieLt) : ∃ l ys, H l = none ∧ H' p = some (.tup [.int n, .ref l]) ∧ H' l = some (.lst ys) ∧ Ties H' ys T := by
  obtain ⟨l, ys, T', h0, h1, h2, h3, h4, h5⟩ := t.plc
  obtain rfl : T' = T := G81.ties_one (h4.trans pm) hS h5
  exact ⟨l, ys, h0, h1, h2, h3⟩
theorem perm_at {α : Type} : ∀ {l : List α} {k : Nat} {x : α}, l[k]? = some x → l.Perm (x :: l.eraseIdx k)
  | [], _, _, h => by simp at h
  | a :: l, 0, x, h => by
    have e : a = x := Option.some.inj h
    subst e
    exact .refl _
  | a :: l, k + 1, x, h => ((perm_at (l := l) (k := k) (x := x) h).cons a).trans (.swap _ _ _)
def swap2 {α : Type} : List α → List α → List α
  | [], [a, b] => [b, a]
  | _, _ => []
def solo {α : Type} : List α → List α → List α
  | [], [a] => [a]
  | _, _ => []
section
variable {P : Program} {w : World} {K : PySem.W.Frag} {mg : Str → Option Value} {base : Heap}
theorem kb_neighbours {f : Addr} {fd : FuncData} (F : Fun K "neighbours" "neighbours" sNeighbours f fd) : KBinds K fd ["web", "copy"] ["copy", "web"] swap2 swap2 := by
  obtain ⟨oc, od, kV, doc, pm, an, cdv, ct, osl, rfl, lk, hcd⟩ := F.ex
  refine ⟨fun s us ws _ hl => ?_, fun {vs us zs ws} r1 r2 => ?_⟩
  · match us, ws, hl with
    | [], [a, b], _ => exact .of_eq rfl
  · cases r1 with
    | cons _ _ => exact .nil
    | nil =>
      match zs, ws, r2 with
      | [], [], _ => exact .nil
      | [_], [_], _ => exact .nil
      | [a, b], [c, d], .cons h1 (.cons h2 .nil) => exact .cons h2 (.cons h1 .nil)
      | _ :: _ :: _ :: _, _ :: _ :: _ :: _, _ => exact .nil
theorem kb_told {f : Addr} {fd : FuncData} (F : Fun K "told_web" "told_web" sTold f fd) : KBinds K fd ["web"] ["web"] solo solo := by
  obtain ⟨oc, od, kV, doc, pm, an, cdv, ct, osl, rfl, lk, hcd⟩ := F.ex
  refine ⟨fun s us ws _ hl => ?_, fun {vs us zs ws} r1 r2 => ?_⟩
  · match us, ws, hl with
    | [], [a], _ => exact .of_eq rfl
  · cases r1 with
    | cons _ _ => exact .nil
    | nil =>
      match zs, ws, r2 with
      | [], [], _ => exact .nil
      | [_], [_], .cons h1 .nil => exact .cons h1 .nil
      | _ :: _ :: _, _ :: _ :: _, _ => exact .nil
/-- what the law calls, and where -/
structure Calls (P : Program) (w : World) (K : PySem.W.Frag) (mg : Str → Option Value) (base : Heap) (name : Str) (st : Stmt) (ps : List Str) (k : Nat) (sp : Sp) : Prop where
  ex : ∃ f fd, Fun K name name st f fd ∧ Binds K fd ps [] ∧ mg name = some (.ref f) ∧ FnOk P w K mg base CX0 k f fd ps sp

/-! ### the law's end: the web is made -/
abbrev nRight : List Str := ["_law_pot_here", "_law_many", "_law_ties", "_law_left", "_law_given", "_law_web_here", "_law_copy", "_law_pieces", "_law_due", "_law_told"]
theorem scRight : FnScope nRight ["_law_pot_here"] (defScope sRight) := ⟨rfl, rfl, rfl, by decide +kernel, rfl, by decide +kernel, by decide +kernel⟩
theorem right_tail {f : Addr} {cdv : Value} {A : Around} {outer : List Env} {s : Shared} {H0 : Hp} {E : XK}
    (cIs : Calls P w K mg base "is_web" sIsWeb ["value"] 5 spWeb) (cTo : Calls P w K mg base "told_web" sTold ["web"] 6 spWant) (cNb : Calls P w K mg base "neighbours" sNeighbours ["web", "copy"] 6 spNeighbours)
    (cJo : Calls P w K mg base "is_joined" sJoined ["web"] 6 spJoined) (cHr : Calls P w K mg base "has_ring" sHasRing ["web"] 6 spHasRing) (cRi : Calls P w K mg base "ring" sRingOf ["web"] 6 spRingOf)
    (cNe : Calls P w K mg base "_law_near" sNear ["_law_ties", "_law_copy"] 1 spNear) (cPi : Calls P w K mg base "_law_piece" sPiece ["_law_ties", "_law_copy"] 2 spPiece) (cIr : Calls P w K mg base "_law_is_ring" sIsRing ["_law_ties", "_law_value"] 2 spIsRing)
    (T : Txt mg) (hG : A.guards = some []) (hr : Room 6 (A.deeper (envOfC "_law_right" (defScope sRight) s.heap.objs.size f cdv))) :
    ∃ t, PSs (cxOf CX0 P w K mg base nRight "_law_right" (defScope sRight) f cdv A outer s H0 E).nox ((defBody sRight).drop 4) t ∧
      ∀ (D : Ends) (H : Hp) (n : Nat) (ts tg : List Tie) (l pw L : Addr) (zs : List V) (o0 o3 o4 o6 o7 o8 o9 : Option V), WebAt H (.ref pw) n tg L zs → TiesL H (.ref l) n ts → tg.Perm ts → ts.Pairwise G81.tieLt → (∀ H', D.rt (.bl true) H') →
        t D [o0, some (.int n), some (.ref l), o3, o4, some (.ref pw), o6, o7, o8, o9] H := by
  obtain ⟨fIs, dIs, FIs, bIs, gIs, GIs⟩ := cIs.ex
  obtain ⟨fTo, dTo, FTo, bTo, gTo, GTo⟩ := cTo.ex
  obtain ⟨fNb, dNb, FNb, bNb, gNb, GNb⟩ := cNb.ex
  obtain ⟨fJo, dJo, FJo, bJo, gJo, GJo⟩ := cJo.ex
  obtain ⟨fHr, dHr, FHr, bHr, gHr, GHr⟩ := cHr.ex
  obtain ⟨fRi, dRi, FRi, bRi, gRi, GRi⟩ := cRi.ex
  obtain ⟨fNe, dNe, FNe, bNe, gNe, GNe⟩ := cNe.ex
  obtain ⟨fPi, dPi, FPi, bPi, gPi, GPi⟩ := cPi.ex
  obtain ⟨fIr, dIr, FIr, bIr, gIr, GIr⟩ := cIr.ex
  have hu := hr.units
  have hr1 : Room 1 _ := hr.mono (by decide)
  have hr2 : Room 2 _ := hr.mono (by decide)
  have hr5 : Room 5 _ := hr.mono (by decide)
  refine ⟨_, pss_cons (ps_if (PW.pt (pw_or (pt_cmpR op_notBl (pe_call GIs hr5 (by rfl) gIs FIs.kp bIs .nil pass0 (pa_cons (pv 5) pa_nil)) pe_bl (nomark _)) (pw_or (pt_cmpR (op_neD hu) (pe_call GTo hr (by rfl) gTo FTo.kp bTo .nil pass0 (pa_cons (pv 5) pa_nil)) (pe_tup (pa_cons (pv 1) (pa_cons (pv 2) pa_nil))) (nomark _)) (pw_or1 (pt_not (pt_val (pe_callB call_isi (by rfl) T.isi boot_isinstance (pa_cons (pe_ix ix_tup (pe_call GTo hr (by rfl) gTo FTo.kp bTo .nil pass0 (pa_cons (pv 5) pa_nil)) pe_int (fun _ _ => rfl)) (pa_cons (pe_bltn (v := .ty "list") (by rfl) T.list PyProof.Rows.boot_list rfl) pa_nil))))))))) (pss_one (ps_ret pe_bl)) pss_nil) (pss_cons (ps_for PassesOwn.never rfl (pi_range1 (by rfl) T.range (pa_cons (pv 1) pa_nil)) (pg_name (i := 6) scRight.nd rfl (.inl rfl)) (pss_one (ps_if (PW.pt (pw_or (pt_cmpR (op_neD hu) (pe_call GNb hr (by rfl) gNb FNb.kp bNb .nil pass0 (pa_cons (pv 5) (pa_cons (pv 6) pa_nil))) (pe_call GNe hr1 (by rfl) gNe FNe.kp bNe .nil pass0 (pa_cons (pv 2) (pa_cons (pv 6) pa_nil))) (nomark _)) (pw_or1 (pt_cmpR (op_neD hu) (pe_callK0 GNb hr (by rfl) gNb FNb.kp (kb_neighbours FNb) pass0 (pk_cons (pv 6) (pk_cons (pv 5) pk_nil))) (pe_call GNe hr1 (by rfl) gNe FNe.kp bNe .nil pass0 (pa_cons (pv 2) (pa_cons (pv 6) pa_nil))) (nomark _))))) (pss_one (ps_ret pe_bl)) pss_nil))) (pss_cons (ps_set (i := 7) scRight.nd rfl (.inl rfl) (pe_lenSet' (by rfl) T.len (by rfl) T.set rfl (pe_lc (own := [("_law_copy", 6)]) (g := gName 6) (tt := tYes) rfl scRight.nd (pi_range1 (by rfl) T.range (pa_cons (pv 1) pa_nil)) (blkOk_by (N := nRight) (sc := defScope sRight) (by decide +kernel)) (fun _ _ _ _ _ => pg_name (i := 6) scRight.nd rfl (Or.inl rfl)) (fun _ _ _ _ _ => pts_nil) (fun _ _ _ _ _ => (pe_ix (r := rIxL K) ix_list (pe_call GPi hr2 (by rfl) gPi FPi.kp bPi .nil pass0 (pa_cons (pv 2) (pa_cons (pv 6) pa_nil))) pe_int (fun _ _ => rfl)))))) (pss_cons (ps_set (i := 8) scRight.nd rfl (.inl rfl) (pe_lst (pa_cons (pe_cmpR op_eq (pv 7) pe_int (nomark _)) (pa_cons (pe_cmpR op_gt (pe_callB call_len_seq (by rfl) T.len PySem.boot_len (pa_cons (pv 2) pa_nil)) (pe_op op_sub (pv 1) (pv 7)) (nomark _)) pa_nil)))) (pss_cons (ps_if (pt_cmpR op_ne (pe_callB (call_reprB hG hu) (by rfl) T.repr boot_repr (pa_cons (pe_lst (pa_cons (pe_call GJo hr (by rfl) gJo FJo.kp bJo .nil pass0 (pa_cons (pv 5) pa_nil)) (pa_cons (pe_call GHr hr (by rfl) gHr FHr.kp bHr .nil pass0 (pa_cons (pv 5) pa_nil)) pa_nil))) pa_nil)) (pe_callB (call_reprB hG hu) (by rfl) T.repr boot_repr (pa_cons (pv 8) pa_nil)) (nomark _)) (pss_one (ps_ret pe_bl)) pss_nil) (pss_cons (ps_set (i := 9) scRight.nd rfl (.inl rfl) (pe_call GRi hr (by rfl) gRi FRi.kp bRi .nil pass0 (pa_cons (pv 5) pa_nil))) (pss_cons (ps_if (pt_not (pt_val (pe_ix ix_list (pv 8) pe_int (fun _ _ => rfl)))) (pss_one (ps_ret (pe_cmpR op_isN (pv 9) pe_non (nomark _)))) pss_nil) (pss_cons (ps_expr (pe_bm PySem.F.plainAttrs_list PySem.F.slot_list_append PySem.F.type_list_append mt_append (pe_ix ix_tup (pe_call GTo hr (by rfl) gTo FTo.kp bTo .nil pass0 (pa_cons (pv 5) pa_nil)) pe_int (fun _ _ => rfl)) (pa_cons pe_non pa_nil))) (pss_one (ps_ret (pe_and (pe_call GIr hr2 (by rfl) gIr FIr.kp bIr .nil pass0 (pa_cons (pv 2) (pa_cons (pv 9) pa_nil))) (pe_one (pe_cmpR (op_eqD hu) (pe_callK0 GTo hr (by rfl) gTo FTo.kp (kb_told FTo) pass0 (pk_cons (pv 5) pk_nil)) (pe_tup (pa_cons (pv 1) (pa_cons (pv 2) pa_nil))) (nomark _))))))))))))), ?_⟩
  intro D H n ts tg l pw L zs o0 o3 o4 o6 o7 o8 o9 W U pm hS k
  obtain ⟨xl, hl, hT⟩ : ∃ xl, H l = some (.lst xl) ∧ Ties H xl ts := by
    obtain ⟨L', xs, e, h1, h2⟩ := U.plc
    cases e
    exact ⟨xs, h1, h2⟩
  have n1 := W.one
  have n6 := W.six
  have hV := G81.vs_nodup n
  have hadj := G81.adjT_perm pm
  -- is_web, told_web
  refine ⟨_, rfl, _, n, tg, L, zs, rfl, W, fun H1 s1 => ⟨true, true, rfl, rfl, false, rfl, iteF ?_⟩⟩
  refine ⟨_, rfl, _, n, tg, L, zs, rfl, W.same s1, fun H2 q t => ⟨_, rfl, _, rfl, by show 2 ≤ sizeLine; decide, fun r nr => ?_⟩⟩
  obtain ⟨l2, y2, _, hq2, hl2, hT2⟩ := t.sorted pm hS
  have s12 : Same H H2 := s1.trans t.same
  have sr := same_upd (o := .tup [.int (n : Int), .ref l]) nr
  have s13 := s12.trans sr
  refine ⟨wdata n ts, wdata n ts, wdata_dp (sr _ _ hq2) (sr _ _ hl2) (hT2.same sr), wdata_dp upd_same (s13 _ _ hl) (hT.same s13), wdata_shaped n ts, wdata_shaped n ts, false, by rw [wdata_eqv]; rfl, iteF ?_⟩
  refine ⟨_, rfl, _, n, tg, L, zs, rfl, W.same s13, fun H4 q4 t4 => ?_⟩
  obtain ⟨l4, y4, _, hq4, hl4, _⟩ := t4.sorted pm hS
  have s14 := s13.trans t4.same
  refine ⟨q4, _, 1, .ref l4, rfl, rfl, SqT.of hq4, atI_nat (j := 1) rfl, _, _, _, _, true, rfl, .ty "list", .base (.lst hl4), kit_ty (by decide +kernel), true, rfl, iteF ?_⟩
  -- the neighbours
  refine ⟨_, rfl, (n : Int), rfl, by omega, by omega, for_range (lo := 0) (n := n) (fun i σ H' => ∃ o6, σ = [o0, some (.int n), some (.ref l), o3, o4, some (.ref pw), o6, o7, o8, o9] ∧ Same H H') ⟨o6, rfl, s14⟩ (fun i σ H' hi hP => ?_) (fun σ H' hP => ?_)⟩
  · obtain ⟨o6, rfl, sH⟩ := hP
    have hc0 : (0 : Int) ≤ 0 + (i : Nat) := by omega
    have hc1 : (0 : Int) + (i : Nat) < n := by omega
    have enb : G81.nb n tg (0 + (i : Nat)) = G81.nb n ts (0 + (i : Nat)) := by unfold G81.nb; rw [hadj]
    refine ⟨_, rfl, _, rfl, _, n, tg, L, zs, _, rfl, W.same sH, hc0, hc1, fun H1 q hq => ⟨_, rfl, _, rfl, _, n, ts, _, rfl, U.same (sH.trans hq.1), fun H2 q2 hq2 => ?_⟩⟩
    rw [enb] at hq
    refine ⟨.list _, .list _, .lst (SqL.of (hq2.1 _ _ hq.2.2)) (ints_dp _), .lst (SqL.of hq2.2.2) (ints_dp _), ints_shaped _, ints_shaped _, false, by rw [ints_eqv]; simp, iteF ?_⟩
    have sH2 := sH.trans (hq.1.trans hq2.1)
    refine ⟨_, rfl, _, rfl, _, n, tg, L, zs, _, rfl, W.same sH2, hc0, hc1, fun H3 q3 hq3 => ⟨_, rfl, _, rfl, _, n, ts, _, rfl, U.same (sH2.trans hq3.1), fun H4 q4 hq4 => ?_⟩⟩
    rw [enb] at hq3
    refine ⟨.list _, .list _, .lst (SqL.of (hq4.1 _ _ hq3.2.2)) (ints_dp _), .lst (SqL.of hq4.2.2) (ints_dp _), ints_shaped _, ints_shaped _, false, by rw [ints_eqv]; simp, iteF ?_⟩
    exact ⟨_, rfl, sH2.trans (hq3.1.trans hq4.1)⟩
  obtain ⟨o6', rfl, sH⟩ := hP
  -- the pieces
  have hV' := U.same sH
  have hzr : (List.range n).length < sizeLine := by rw [List.length_range]; exact Nat.lt_of_le_of_lt n6 (by decide)
  refine ⟨_, rfl, (n : Int), rfl, by omega, by omega, fun D1 nD1 => ?_⟩
  refine lc_range (lo := 0) (n := n) (Acc V.int (fun i : Nat => some (G81.rep (G81.adjT ts) (G81.vs n) (i : Int))) (List.range n) H' D1) (Acc.start nD1) (fun i H3 hi c => ?_) (fun H3 c => ?_)
  · have ei : (0 : Int) + (i : Nat) = (i : Nat) := by omega
    have hm : (i : Int) ∈ G81.vs n := G81.mem_vs.mpr ⟨by omega, by omega⟩
    obtain ⟨rr, er⟩ := G81.comp_head (adj := G81.adjT ts) hm
    refine ⟨rfl, yes_put ?_⟩
    refine ⟨_, rfl, _, rfl, _, n, ts, _, rfl, hV'.same c.same, n6, by rw [ei]; exact hm, fun H4 q hq => ?_⟩
    rw [ei] at hq
    refine ⟨q, _, 0, .int (G81.rep (G81.adjT ts) (G81.vs n) (i : Int)), rfl, rfl, SqL.of hq.2.2, atI_nat (j := 0) (by unfold pieceOf; rw [er]; rfl), ?_⟩
    exact c.more nD1 (List.getElem?_range hi) hq.1 rfl hzr
  have c' : Acc V.int (fun i : Nat => some (G81.rep (G81.adjT ts) (G81.vs n) (i : Int))) (List.range n) H' D1 (List.range n).length H3 := by rw [List.length_range]; exact c
  obtain ⟨s3, hD1⟩ := c'.done
  have em : (List.range n).filterMap (fun i : Nat => some (G81.rep (G81.adjT ts) (G81.vs n) (i : Int))) = (G81.vs n).map (G81.rep (G81.adjT ts) (G81.vs n)) := by
    rw [all_fm]
    unfold G81.vs
    rw [List.map_map]
    rfl
  rw [em] at hD1
  have sH3 := sH.trans s3
  refine ⟨D1, (G81.vs n).map (G81.rep (G81.adjT ts) (G81.vs n)), rfl, SqL.of hD1, by rw [List.length_map, G81.vs_len]; omega, fun ds nds hds => ?_⟩
  -- how many, and what is due
  have R := G81.reps (V := G81.vs n) (G81.adjT_symm ts)
  have hlen := G81.fixed_len hV R nds hds
  have hin := U.good.inn
  have hE := U.good.E
  have h0 : (0 : Int) ∈ G81.vs n := G81.mem_vs.mpr ⟨Int.le_refl _, by omega⟩
  have hone := G81.one_iff hV R h0 hin (G81.adjT_symm ts)
  have hcore : ∀ kept, G81.Core (G81.adjT ts) (G81.vs n) kept → (n < ts.length + ds.length ↔ kept ≠ []) := fun kept C => by
    obtain ⟨Z, el⟩ := C.el
    have := G81.core_iff (G81.adjT_symm ts) U.good.irr hV hin R el C.two
    rw [G81.vs_len, hE, ← hlen] at this
    exact this
  have hl3 := sH3 _ _ hl
  refine ⟨_, rfl, rfl, _, rfl, l, _, rfl, .inl (SqL.of hl3), _, rfl, _, rfl, _, _, rfl, rfl, _, _, rfl, rfl, by show 2 ≤ sizeLine; decide, fun pd npd => ?_⟩
  rw [hT.length]
  dsimp only
  generalize hb1 : decide (V.int ((ds.length : Nat) : Int) = V.int 1) = b1
  generalize hb2 : decide ((n : Int) - ((ds.length : Nat) : Int) < ((ts.length : Nat) : Int)) = b2
  have hj : b1 = true ↔ Joined n tg := by
    rw [← hb1, decide_eq_true_iff]
    unfold Joined
    rw [hadj, ← hone, ← hlen]
    constructor
    · intro e
      have := V.int.inj e
      omega
    · intro e
      rw [e]
      rfl
  have hb2' : b2 = true ↔ n < ts.length + ds.length := by
    rw [← hb2, decide_eq_true_iff]
    omega
  have sd := same_upd (o := .lst [.bl b1, .bl b2]) npd
  have s15 := sH3.trans sd
  -- repr([is_joined(..), has_ring(..)]) against what is due
  refine ⟨_, rfl, _, n, tg, L, zs, rfl, W.same s15, fun H5 bj s5 hbj => ⟨_, rfl, _, n, tg, L, zs, rfl, W.same (s15.trans s5), fun H6 kept s6 C => ⟨by show 2 ≤ sizeLine; decide, fun pr npr => ?_⟩⟩⟩
  have s16 := s15.trans (s5.trans s6)
  rw [hadj] at C
  have e1 : bj = b1 := Bool.eq_iff_iff.mpr (hbj.trans hj.symm)
  have e2 : (!decide (kept = [])) = b2 := Bool.eq_iff_iff.mpr (by rw [hb2', hcore kept C]; simp)
  rw [e1, e2]
  have s17 := same_upd (o := .lst [.bl b1, .bl b2]) npr
  have hpd : H6 pd = some (.lst [.bl b1, .bl b2]) := s6 _ _ (s5 _ _ upd_same)
  refine ⟨pr, b1, b2, rfl, SqL.of upd_same, _, rfl, pd, b1, b2, rfl, SqL.of (s17 _ _ hpd), rfl, false, congrArg V.bl (by simp), iteF ?_⟩
  have s18 := s16.trans s17
  have hpd7 := s17 _ _ hpd
  -- a ring
  refine ⟨_, rfl, _, n, tg, L, zs, rfl, W.same s18, fun H7 k7 s7 C7 e7 => ?_, fun H7 k7 p7 R7 hq7 C7 e7 hR7 => ?_⟩
  · rw [hadj] at C7
    have e3 : b2 = false := by
      cases hb : b2 with
      | false => rfl
      | true => exact absurd e7 ((hcore k7 C7).mp (hb2'.mp hb))
    subst e3
    refine ⟨_, rfl, pd, _, _, _, rfl, rfl, SqL.of (s7 _ _ hpd7), atI_nat (j := 1) rfl, false, rfl, iteT ?_⟩
    exact ⟨_, rfl, rfl, k _⟩
  rw [hadj] at C7 hR7
  have e3 : b2 = true := hb2'.mpr ((hcore k7 C7).mpr e7)
  subst e3
  obtain ⟨s7, _, hp7⟩ := hq7
  have s19 := s18.trans s7
  refine ⟨_, rfl, pd, _, _, _, rfl, rfl, SqL.of (s7 _ _ hpd7), atI_nat (j := 1) rfl, true, rfl, iteF ?_⟩
  -- told_web(..)[1].append(None)
  refine ⟨_, rfl, _, n, tg, L, zs, rfl, W.same s19, fun H8 q8 t8 => ?_⟩
  obtain ⟨l8, y8, n8, hq8, hl8, hT8⟩ := t8.sorted pm hS
  refine ⟨q8, _, _, .ref l8, rfl, rfl, SqT.of hq8, atI_nat (j := 1) rfl, .inl ⟨rfl, _, SqL.of hl8⟩, l8, y8, _, rfl, rfl, hl8, ?_, ?_⟩
  · rw [hT8.length]
    exact Nat.lt_of_le_of_lt U.size (by decide)
  have s8 : Same H7 (upd H8 l8 (.lst (y8 ++ [.non]))) := same_to t8.same n8
  have s20 := s19.trans s8
  -- is it one
  have hR6 : R7.length ≤ 6 := six_of n6 hR7.nd fun x hx => by
    obtain ⟨i, hi⟩ := List.getElem?_of_mem hx
    obtain ⟨y, _, ha⟩ := ring_prev hR7 (G81.adjT_symm ts) hi
    exact (hin x y ha).1
  refine ⟨_, rfl, _, rfl, _, n, ts, p7, R7, rfl, U.same s20, s8 _ _ hp7, by omega, hR7, fun H10 s10 => ⟨true, rfl, iteT ?_⟩⟩
  have s21 := s20.trans s10
  refine ⟨_, rfl, _, n, tg, L, zs, rfl, W.same s21, fun H11 q11 t11 => ⟨_, rfl, _, rfl, by show 2 ≤ sizeLine; decide, fun r11 nr11 => ?_⟩⟩
  obtain ⟨l11, y11, _, hq11, hl11, hT11⟩ := t11.sorted pm hS
  have s22 := same_upd (o := .tup [.int (n : Int), .ref l]) nr11
  have s23 := s21.trans (t11.same.trans s22)
  refine ⟨wdata n ts, wdata n ts, wdata_dp (s22 _ _ hq11) (s22 _ _ hl11) (hT11.same s22), wdata_dp upd_same (s23 _ _ hl) (hT.same s23), wdata_shaped n ts, wdata_shaped n ts, ?_⟩
  rw [wdata_eqv]
  exact k _
end
end K81

namespace K81
open PySem PySem.Spec PyProof.Rows L2
section
variable {P : Program} {w : World} {K : PySem.W.Frag} {mg : Str → Option Value} {base : Heap}
/-! ### the law's front: a web is made, its ties in any sequence -/
def spRight : Sp := fun vs H Q _ => ∃ p : Addr, vs = [.ref p] ∧ PotAt H p ∧ ∀ H', Q (.bl true) H'
theorem ties_put {l : Addr} {H : Hp} {xs ys : List V} {T : List Tie} {o : HO} (hl : H l = some (.lst xs)) (h : Ties H ys T) : Ties (upd H l o) ys T := Paired.mapP h fun _ _ q => q.put hl
theorem ties_but {p : Addr} {H H' : Hp} {ys : List V} {T : List Tie} (b : But p H H') (hp : PotAt H p) (h : Ties H ys T) : Ties H' ys T := Paired.mapP h fun _ _ q => q.but b hp
theorem ties_cons {H : Hp} {ys : List V} {T : List Tie} {k : Nat} {v : V} (h : Ties H ys T) (hy : ys[k]? = some v) : ∃ q, T[k]? = some q ∧ TieV H v q := paired_at h hy
theorem seq_at {d : Int} {n : Nat} (h0 : 0 ≤ d) (h1 : d < n) : seqIndex? d n = some d.toNat := by
  unfold seqIndex?
  have e : ¬ d < 0 := by omega
  simp [e, h0, h1]
/-- while the ties are drawn: those left, those given -/
structure Drawn' (p l pl pg : Addr) (ts : List Tie) (xs : List V) (H : Hp) (ys zs : List V) (tl tg : List Tie) : Prop where
  pot : PotAt H p
  own : H l = some (.lst xs)
  ownT : Ties H xs ts
  left : H pl = some (.lst ys)
  leftT : Ties H ys tl
  gvn : H pg = some (.lst zs)
  gvnT : Ties H zs tg
  perm : (tg ++ tl).Perm ts
theorem ok_right {f : Addr} {fd : FuncData} (F : Fun K "_law_right" "_law_right" sRight f fd)
    (cIs : Calls P w K mg base "is_web" sIsWeb ["value"] 5 spWeb) (cTo : Calls P w K mg base "told_web" sTold ["web"] 6 spWant) (cNb : Calls P w K mg base "neighbours" sNeighbours ["web", "copy"] 6 spNeighbours)
    (cJo : Calls P w K mg base "is_joined" sJoined ["web"] 6 spJoined) (cHr : Calls P w K mg base "has_ring" sHasRing ["web"] 6 spHasRing) (cRi : Calls P w K mg base "ring" sRingOf ["web"] 6 spRingOf)
    (cNe : Calls P w K mg base "_law_near" sNear ["_law_ties", "_law_copy"] 1 spNear) (cPi : Calls P w K mg base "_law_piece" sPiece ["_law_ties", "_law_copy"] 2 spPiece) (cIr : Calls P w K mg base "_law_is_ring" sIsRing ["_law_ties", "_law_value"] 2 spIsRing)
    (cDr : Calls P w K mg base "_law_draw" sDraw ["_law_pot_here", "_law_many"] 1 spDraw) (cLw : Calls P w K mg base "_law_web" sLawWeb ["_law_pot_here", "_law_least", "_law_most"] 2 spLawWeb) (T : Txt mg) :
    FnOkG P w K mg base CX0 7 f fd ["_law_pot_here"] spRight := by
  refine fun_okG F scRight (fun vs H Q E h => ?_) (fun cdv A outer s H vs Q E hG hr h => ?_)
  · obtain ⟨p, rfl, _⟩ := h
    rfl
  · obtain ⟨p, rfl, hp, k⟩ := h
    obtain ⟨t, ht, hread⟩ := right_tail (f := f) (cdv := cdv) (outer := outer) (s := s) (H0 := H) (E := E) cIs cTo cNb cJo cHr cRi cNe cPi cIr T hG hr
    obtain ⟨fDr, dDr, FDr, bDr, gDr, GDr⟩ := cDr.ex
    obtain ⟨fLw, dLw, FLw, bLw, gLw, GLw⟩ := cLw.ex
    have hu := hr.units
    have hr1 : Room 1 _ := hr.mono (by decide)
    have hr2 : Room 2 _ := hr.mono (by decide)
    refine ⟨_, pss_cons (ps_asg (pe_call GLw hr2 (by rfl) gLw FLw.kp bLw .nil pass0 (pa_cons (pv 0) (pa_cons pe_int (pa_cons pe_int pa_nil)))) (pg_tup rfl (pgs_cons (pg_name (i := 1) scRight.nd rfl (.inl rfl)) (pgs_cons (pg_name (i := 2) scRight.nd rfl (.inr rfl)) pgs_nil)))) (pss_cons (ps_par (i := 3) (j := 4) (by rfl) scRight.nd rfl rfl (by decide) rfl rfl (pa_cons (pe_callTy call_list_of (by rfl) T.list PyProof.Rows.boot_list (pa_cons (pv 2) pa_nil)) (pa_cons (pe_lst pa_nil) pa_nil)) (by rfl)) (pss_cons (ps_while PassesOwn.never (pt_cmpR (op_neD hu) (pv 3) (pe_lst pa_nil) (nomark _)) (pss_one (ps_expr (pe_bm PySem.F.plainAttrs_list PySem.F.slot_list_append PySem.F.type_list_append mt_append (pv 4) (pa_cons (pe_bm PySem.F.plainAttrs_list PySem.F.slot_list_pop PySem.F.type_list_pop mt_popAt (pv 3) (pa_cons (pe_call GDr hr1 (by rfl) gDr FDr.kp bDr .nil pass0 (pa_cons (pv 0) (pa_cons (pe_callB call_len_seq (by rfl) T.len PySem.boot_len (pa_cons (pv 3) pa_nil)) pa_nil))) pa_nil)) pa_nil))))) (pss_cons (ps_set (i := 5) scRight.nd rfl (.inl rfl) (pe_tup (pa_cons (pv 1) (pa_cons (pe_ifExp (pt_cmpR op_eq (pe_call GDr hr1 (by rfl) gDr FDr.kp bDr .nil pass0 (pa_cons (pv 0) (pa_cons pe_int pa_nil))) pe_int (nomark _)) (pv 4) (pe_callTy call_tuple_of (by rfl) T.tuple PyProof.Rows.boot_tuple (pa_cons (pv 4) pa_nil))) pa_nil)))) ht))), ?_⟩
    -- the web
    refine ⟨_, rfl, p, rfl, hp, fun H1 q l n xs ts b1 p1 q0 l0 hq hl hT hS hg n1 n6 hz => ?_⟩
    refine ⟨q, _, rfl, SqT.of hq, rfl, _, _, rfl, _, _, rfl, rfl, ?_⟩
    -- left, given
    refine ⟨_, rfl, l, xs, rfl, .inl (SqL.of hl), fun pl npl => ⟨Nat.zero_le _, fun pg npg => ⟨_, _, rfl, ?_⟩⟩⟩
    have sl := same_upd (o := .lst xs) npl
    have sg := same_upd (o := .lst []) npg
    have nlpl : l ≠ pl := ne_of_none hl npl
    have npg' : H1 pg = none := sl.free npg
    have nlpg : l ≠ pg := ne_of_none hl npg'
    have npp : pl ≠ pg := ne_of_none upd_same npg
    have nppl : p ≠ pl := by
      obtain ⟨x, y, e, _⟩ := p1
      exact ne_of_none e npl
    have nppg : p ≠ pg := by
      obtain ⟨x, y, e, _⟩ := p1
      exact ne_of_none e npg'
    have npl' : l ≠ p := by
      obtain ⟨x, y, e, _⟩ := p1
      intro z
      rw [z, e] at hl
      cases hl
      cases hT with
      | cons r _ =>
        obtain ⟨_, e, _⟩ := r
        cases e
    refine ⟨fun m σ H' => ∃ (ys zs : List V) (tl tg : List Tie), σ = [some (.ref p), some (.int n), some (.ref l), some (.ref pl), some (.ref pg), none, none, none, none, none] ∧ Drawn' p l pl pg ts xs H' ys zs tl tg ∧ m = ys.length,
      ⟨_, xs, [], ts, [], rfl, ⟨pot_new (pot_new p1 npl) npg, sg _ _ (sl _ _ hl), Ties.same (sl.trans sg) hT, sg _ _ upd_same, Ties.same (sl.trans sg) hT, upd_same, .nil, .refl _⟩, rfl⟩, fun m σ H' hW => ?_⟩
    obtain ⟨ys, zs, tl, tg, rfl, R, rfl⟩ := hW
    refine ⟨_, rfl, Nat.zero_le _, fun pe ne => ?_⟩
    have se := same_upd (o := .lst []) ne
    refine ⟨.list (tdata tl), .list [], .lst (SqL.of (se _ _ R.left)) (ties_dp (R.leftT.same se)), .lst (SqL.of upd_same) .nil, tdata_shaped tl, tdata_shaped [], !decide (tl = []), by rw [tdata_nil], ?_⟩
    have hlt := R.leftT.length
    have hlg := R.gvnT.length
    have hpl := R.perm.length_eq
    rw [List.length_append] at hpl
    have R' : Drawn' p l pl pg ts xs (upd H' pe (.lst [])) ys zs tl tg := ⟨pot_new R.pot ne, se _ _ R.own, R.ownT.same se, se _ _ R.left, R.leftT.same se, se _ _ R.gvn, R.gvnT.same se, R.perm⟩
    by_cases hne : tl = []
    · refine (if_neg (by simp [hne])).mpr ?_
      subst hne
      have pm : tg.Perm ts := by
        have := R.perm
        rw [List.append_nil] at this
        exact this
      have z1 : tg.length ≤ 100 := by rw [pm.length_eq]; omega
      -- the pair, its ties a list or a tuple
      refine ⟨_, rfl, _, rfl, p, 2, rfl, R'.pot, by decide, by decide, fun H5 d b5 p5 _ _ => ⟨rfl, _, rfl, ?_⟩⟩
      have n_pg : pg ≠ p := fun e => nppg e.symm
      have hg5 : H5 pg = some (.lst zs) := b5 _ _ n_pg R'.gvn
      have hgT5 := ties_but b5 R'.pot R'.gvnT
      have hl5 : H5 l = some (.lst xs) := b5 _ _ npl' R'.own
      have hlT5 := ties_but b5 R'.pot R'.ownT
      refine ite2 (fun _ => ?_) (fun _ => ?_)
      · refine ⟨_, rfl, by show 2 ≤ sizeLine; decide, fun pw npw => ?_⟩
        have sw := same_upd (o := .tup [.int (n : Int), .ref pg]) npw
        exact hread _ _ n ts tg l pw pg zs _ _ _ _ _ _ _ ⟨⟨pw, rfl, upd_same⟩, .inl (sw _ _ hg5), hgT5.same sw, hg.perm pm.symm, n1, n6, z1⟩ ⟨⟨l, xs, rfl, sw _ _ hl5, hlT5.same sw⟩, hg, by omega⟩ pm hS (fun H' => k H')
      · refine ⟨_, rfl, pg, zs, rfl, .inl ⟨SqL.of hg5, fun pt npt => ⟨by show 2 ≤ sizeLine; decide, fun pw npw => ?_⟩⟩⟩
        have st := same_upd (o := .tup zs) npt
        have sw := same_upd (o := .tup [.int (n : Int), .ref pt]) npw
        have s5 := st.trans sw
        exact hread _ _ n ts tg l pw pt zs _ _ _ _ _ _ _ ⟨⟨pw, rfl, upd_same⟩, .inr (sw _ _ upd_same), hgT5.same s5, hg.perm pm.symm, n1, n6, z1⟩ ⟨⟨l, xs, rfl, s5 _ _ hl5, hlT5.same s5⟩, hg, by omega⟩ pm hS (fun H' => k H')
    refine (if_pos (by simp [hne])).mpr ?_
    have hpos : 0 < tl.length := List.length_pos_iff.mpr hne
    refine ⟨fun σ' H2 => ∃ (ys' zs' : List V) (tl' tg' : List Tie), σ' = [some (.ref p), some (.int n), some (.ref l), some (.ref pl), some (.ref pg), none, none, none, none, none] ∧ Drawn' p l pl pg ts xs H2 ys' zs' tl' tg' ∧ ys'.length < ys.length,
      fun σ' H2 ⟨y', z', l', g', e, r, h⟩ => ⟨_, h, y', z', l', g', e, r, rfl⟩, ?_⟩
    -- given.append(left.pop(draw(len(left))))
    refine ⟨_, rfl, .inl ⟨rfl, _, SqL.of R'.gvn⟩, _, rfl, .inl ⟨rfl, _, SqL.of R'.left⟩, _, rfl, _, rfl, pl, ys, rfl, .inl (SqL.of R'.left), p, _, rfl, R'.pot, by omega, by omega, fun H3 d b3 p3 d0 d1 => ?_⟩
    have n_pl : pl ≠ p := fun e => nppl e.symm
    have n_pg : pg ≠ p := fun e => nppg e.symm
    have hl3 := b3 _ _ n_pl R'.left
    have hg3 := b3 _ _ n_pg R'.gvn
    have ho3 := b3 _ _ npl' R'.own
    have hlT3 := ties_but b3 R'.pot R'.leftT
    have hgT3 := ties_but b3 R'.pot R'.gvnT
    have hoT3 := ties_but b3 R'.pot R'.ownT
    have hk : d.toNat < ys.length := by omega
    have hy : ys[d.toNat]? = some ys[d.toNat] := List.getElem?_eq_getElem hk
    obtain ⟨c, hc, hcv⟩ := ties_cons hlT3 hy
    refine ⟨pl, ys, d, d.toNat, ys[d.toNat], rfl, rfl, hl3, by omega, by omega, ?_, hy, ?_⟩
    · exact seq_at d0 d1
    have hg4 : (upd H3 pl (.lst (ys.eraseIdx d.toNat))) pg = some (.lst zs) := by rw [upd_ne (fun e => npp e.symm)]; exact hg3
    refine ⟨pg, zs, _, rfl, rfl, hg4, Nat.lt_of_le_of_lt (show zs.length ≤ 100 by omega) (by decide), ?_⟩
    refine ⟨ys.eraseIdx d.toNat, zs ++ [ys[d.toNat]], tl.eraseIdx d.toNat, tg ++ [c], rfl, ⟨?_, ?_, ?_, ?_, ?_, upd_same, ?_, ?_⟩, ?_⟩
    · exact pot_ne (pot_ne p3 nppl) nppg
    · rw [upd_ne nlpg, upd_ne nlpl]
      exact ho3
    · exact ties_put hg4 (ties_put hl3 hoT3)
    · rw [upd_ne npp, upd_same]
    · exact ties_put hg4 (ties_put hl3 (paired_erase _ hlT3))
    · exact ties_put hg4 (ties_put hl3 (paired_append hgT3 (.cons hcv .nil)))
    · rw [List.append_assoc]
      exact ((perm_at hc).symm.append_left tg).trans R.perm
    · rw [List.length_eraseIdx_of_lt hk]
      omega

/-! ### the law -/
theorem scLaw : FnScope ["_law_script"] ["_law_script"] (defScope sLaw) := ⟨rfl, rfl, rfl, by decide +kernel, rfl, by decide +kernel, by decide +kernel⟩
def spLaw (K : PySem.W.Frag) : Sp := fun vs H Q _ => ∃ (a : Addr) (ns : List Int), vs = [.ref a] ∧ SqL K H a (ns.map V.int) ∧ ∀ H', Q (.bl true) H'
theorem ok_law {f fR fP : Addr} {fd fdR fdP : FuncData} (F : Fun K "law" "law" sLaw f fd)
    (FR : Fun K "_law_right" "_law_right" sRight fR fdR) (bR : Binds K fdR ["_law_pot_here"] []) (gR : mg "_law_right" = some (.ref fR)) (GR : FnOkG P w K mg base CX0 7 fR fdR ["_law_pot_here"] spRight)
    (FP : Fun K "_law_pot" "_law_pot" sPot fP fdP) (bP : Binds K fdP ["_law_script", "_law_k"] []) (gP : mg "_law_pot" = some (.ref fP)) (GP : FnOk P w K mg base CX0 1 fP fdP ["_law_script", "_law_k"] (spPot K)) :
    FnOkG P w K mg base CX0 8 f fd ["_law_script"] (spLaw K) := by
  refine fun_okG F scLaw (fun vs H Q E h => ?_) (fun cdv A outer s H vs Q E hG hr h => ?_)
  · obtain ⟨a, ns, rfl, _⟩ := h
    rfl
  · obtain ⟨a, ns, rfl, hS, k⟩ := h
    refine ⟨_, pss_one (ps_ret (pe_callG (E := E0) hG GR hr (by rfl) gR FR.kp bR (pa_cons (pe_call GP (hr.mono (by decide)) (by rfl) gP FP.kp bP .nil pass0 (pa_cons (pv 0) (pa_cons pe_int pa_nil))) pa_nil))), ?_⟩
    exact ⟨_, rfl, a, ns, rfl, hS, fun H' p x y _ _ hp g => ⟨p, rfl, ⟨x, y, hp, g⟩, k⟩⟩
end
end K81

namespace K81
open PySem PySem.Spec PyProof.Rows L2
/-! ### what the top has written -/
/-- a def of the text stands under its name -/
def HasDef (K : PySem.W.Frag) (name : Str) (st : Stmt) : Prop := ∃ (f : Addr) (oc : Value) (od : Option Addr) (sl : Array (Option Value)) (kV dc pm : Value) (an : Option Addr) (cd ct : Value),
  PySem.W.nsIn K mainGlobals name = some (some (.ref f)) ∧ K.lookup f = some ⟨oc, od, .func (PySem.W.fnOf name name (defArgs st) (defBody st) (defScope st) .none kV dc pm an cd ct), sl⟩ ∧ PySem.W.codeIn K cd name = true ∧ PySem.W.keepIn K (.ref f) = true
theorem hasDef_mk {K : PySem.W.Frag} {name : Str} {st : Stmt} {f : Addr} {oc : Value} {od : Option Addr} {sl : Array (Option Value)} {kV dc pm : Value} {an : Option Addr} {cd ct : Value}
    (a : PySem.W.nsIn K mainGlobals name = some (some (.ref f))) (l : K.lookup f = some ⟨oc, od, .func (PySem.W.fnOf name name (defArgs st) (defBody st) (defScope st) .none kV dc pm an cd ct), sl⟩) (c : PySem.W.codeIn K cd name = true) (k : PySem.W.keepIn K (.ref f) = true) : HasDef K name st :=
  ⟨f, oc, od, sl, kV, dc, pm, an, cd, ct, a, l, c, k⟩
theorem hasInt_mk {K : PySem.W.Frag} {name : Str} {i : Int} {t : Tok} (a : PySem.W.nsIn K mainGlobals name = some (some (.int i t))) : ∃ t, PySem.W.nsIn K mainGlobals name = some (some (.int i t)) := ⟨t, a⟩
/-- .. as the walk wants it -/
def IsDef (K : PySem.W.Frag) (mg : Str → Option Value) (name : Str) (st : Stmt) (ps : List Str) : Prop := ∃ f fd, Fun K name name st f fd ∧ Binds K fd ps [] ∧ mg name = some (.ref f)
theorem isDef_of {K : PySem.W.Frag} {h : Heap} {mg : Str → Option Value} {name : Str} {st : Stmt} {ps : List Str} (X : K.In h) (G : h.Ns mainGlobals mg) (d : HasDef K name st)
    (hb : ∀ (kV doc pm : Value) (an : Option Addr) (cdv ct : Value) (us : List Value), us.length = ps.length → bindArgs (PySem.W.fnOf name name (defArgs st) (defBody st) (defScope st) .none kV doc pm an cdv ct) ⟨us, []⟩ = pure (ps.zip us)) : IsDef K mg name st ps := by
  obtain ⟨f, oc, od, sl, kV, dc, pm, an, cd, ct, a, l, c, k⟩ := d
  have F := fun_mk (st := st) l c k
  exact ⟨f, _, F, F.binds hb, PySem.W.mg_of X G a⟩

theorem all_mk {l : PySem.W.OpenLaw} {w : World} {K : PySem.W.Frag} {h : Heap} {mg : Str → Option Value} {fa : Addr} (X : K.In h) (G : h.Ns mainGlobals mg) (hfa : mg "law" = some (.ref fa))
    (dIn : HasDef K "is_integer" sInteger)
    (dCo : HasDef K "is_count" sCount)
    (dLi : HasDef K "is_list" sList)
    (dTi : HasDef K "is_web_tie" sTie)
    (dWe : HasDef K "is_web_value" sWeb)
    (dWa : HasDef K "want_web" sWant)
    (dNb : HasDef K "web_neighbours" sNbr)
    (dRe : HasDef K "web_reached" sReached)
    (dKe : HasDef K "web_kept" sKept)
    (dRg : HasDef K "web_ring" sRing)
    (dIs : HasDef K "is_web" sIsWeb)
    (dTo : HasDef K "told_web" sTold)
    (dNe : HasDef K "neighbours" sNeighbours)
    (dJo : HasDef K "is_joined" sJoined)
    (dHr : HasDef K "has_ring" sHasRing)
    (dRi : HasDef K "ring" sRingOf)
    (dPo : HasDef K "_law_pot" sPot)
    (dDr : HasDef K "_law_draw" sDraw)
    (dLw : HasDef K "_law_web" sLawWeb)
    (dNr : HasDef K "_law_near" sNear)
    (dPi : HasDef K "_law_piece" sPiece)
    (dIr : HasDef K "_law_is_ring" sIsRing)
    (dRt : HasDef K "_law_right" sRight)
    (dLaw : HasDef K "law" sLaw)
    (z_isi : PySem.W.nsIn K mainGlobals "isinstance" = some none)
    (z_int : PySem.W.nsIn K mainGlobals "int" = some none)
    (z_bool : PySem.W.nsIn K mainGlobals "bool" = some none)
    (z_list : PySem.W.nsIn K mainGlobals "list" = some none)
    (z_tuple : PySem.W.nsIn K mainGlobals "tuple" = some none)
    (z_len : PySem.W.nsIn K mainGlobals "len" = some none)
    (z_all : PySem.W.nsIn K mainGlobals "all" = some none)
    (z_range : PySem.W.nsIn K mainGlobals "range" = some none)
    (z_sorted : PySem.W.nsIn K mainGlobals "sorted" = some none)
    (z_sum : PySem.W.nsIn K mainGlobals "sum" = some none)
    (z_abs : PySem.W.nsIn K mainGlobals "abs" = some none)
    (z_max : PySem.W.nsIn K mainGlobals "max" = some none)
    (z_divmod : PySem.W.nsIn K mainGlobals "divmod" = some none)
    (z_set : PySem.W.nsIn K mainGlobals "set" = some none)
    (z_enum : PySem.W.nsIn K mainGlobals "enumerate" = some none)
    (z_repr : PySem.W.nsIn K mainGlobals "repr" = some none)
    (z_most : ∃ t, PySem.W.nsIn K mainGlobals "MOST_COPIES" = some (some (.int 6 t))) :
    ∃ fd : FuncData, (∀ (s : Shared) (v : Value), BindsTo s fd ⟨[v], []⟩ [("_law_script", v)]) ∧ ∀ base : Heap, K.In base → base.Ns mainGlobals mg → FnOkG l.prog w K mg base CX0 8 fa fd ["_law_script"] (spLaw K) := by
  obtain ⟨f, oc, od, sl, kV, dc, pm, an, cd, ct, a, lk, c, kp⟩ := dLaw
  have e := hfa.symm.trans (PySem.W.mg_of X G a)
  cases e
  have FL := fun_mk (st := sLaw) lk c kp
  obtain ⟨fIn, xIn, FIn, bIn, gIn⟩ := isDef_of (ps := ["value"]) X G dIn fun _ _ _ _ _ _ us hl => match us, hl with | [_], _ => rfl
  obtain ⟨fCo, xCo, FCo, bCo, gCo⟩ := isDef_of (ps := ["value"]) X G dCo fun _ _ _ _ _ _ us hl => match us, hl with | [_], _ => rfl
  obtain ⟨fLi, xLi, FLi, bLi, gLi⟩ := isDef_of (ps := ["value"]) X G dLi fun _ _ _ _ _ _ us hl => match us, hl with | [_], _ => rfl
  obtain ⟨fTi, xTi, FTi, bTi, gTi⟩ := isDef_of (ps := ["copies", "value"]) X G dTi fun _ _ _ _ _ _ us hl => match us, hl with | [_, _], _ => rfl
  obtain ⟨fWe, xWe, FWe, bWe, gWe⟩ := isDef_of (ps := ["value"]) X G dWe fun _ _ _ _ _ _ us hl => match us, hl with | [_], _ => rfl
  obtain ⟨fWa, xWa, FWa, bWa, gWa⟩ := isDef_of (ps := ["value"]) X G dWa fun _ _ _ _ _ _ us hl => match us, hl with | [_], _ => rfl
  obtain ⟨fNb, xNb, FNb, bNb, gNb⟩ := isDef_of (ps := ["web", "copy"]) X G dNb fun _ _ _ _ _ _ us hl => match us, hl with | [_, _], _ => rfl
  obtain ⟨fRe, xRe, FRe, bRe, gRe⟩ := isDef_of (ps := ["web"]) X G dRe fun _ _ _ _ _ _ us hl => match us, hl with | [_], _ => rfl
  obtain ⟨fKe, xKe, FKe, bKe, gKe⟩ := isDef_of (ps := ["web"]) X G dKe fun _ _ _ _ _ _ us hl => match us, hl with | [_], _ => rfl
  obtain ⟨fRg, xRg, FRg, bRg, gRg⟩ := isDef_of (ps := ["web"]) X G dRg fun _ _ _ _ _ _ us hl => match us, hl with | [_], _ => rfl
  obtain ⟨fIs, xIs, FIs, bIs, gIs⟩ := isDef_of (ps := ["value"]) X G dIs fun _ _ _ _ _ _ us hl => match us, hl with | [_], _ => rfl
  obtain ⟨fTo, xTo, FTo, bTo, gTo⟩ := isDef_of (ps := ["web"]) X G dTo fun _ _ _ _ _ _ us hl => match us, hl with | [_], _ => rfl
  obtain ⟨fNe, xNe, FNe, bNe, gNe⟩ := isDef_of (ps := ["web", "copy"]) X G dNe fun _ _ _ _ _ _ us hl => match us, hl with | [_, _], _ => rfl
  obtain ⟨fJo, xJo, FJo, bJo, gJo⟩ := isDef_of (ps := ["web"]) X G dJo fun _ _ _ _ _ _ us hl => match us, hl with | [_], _ => rfl
  obtain ⟨fHr, xHr, FHr, bHr, gHr⟩ := isDef_of (ps := ["web"]) X G dHr fun _ _ _ _ _ _ us hl => match us, hl with | [_], _ => rfl
  obtain ⟨fRi, xRi, FRi, bRi, gRi⟩ := isDef_of (ps := ["web"]) X G dRi fun _ _ _ _ _ _ us hl => match us, hl with | [_], _ => rfl
  obtain ⟨fPo, xPo, FPo, bPo, gPo⟩ := isDef_of (ps := ["_law_script", "_law_k"]) X G dPo fun _ _ _ _ _ _ us hl => match us, hl with | [_, _], _ => rfl
  obtain ⟨fDr, xDr, FDr, bDr, gDr⟩ := isDef_of (ps := ["_law_pot_here", "_law_many"]) X G dDr fun _ _ _ _ _ _ us hl => match us, hl with | [_, _], _ => rfl
  obtain ⟨fLw, xLw, FLw, bLw, gLw⟩ := isDef_of (ps := ["_law_pot_here", "_law_least", "_law_most"]) X G dLw fun _ _ _ _ _ _ us hl => match us, hl with | [_, _, _], _ => rfl
  obtain ⟨fNr, xNr, FNr, bNr, gNr⟩ := isDef_of (ps := ["_law_ties", "_law_copy"]) X G dNr fun _ _ _ _ _ _ us hl => match us, hl with | [_, _], _ => rfl
  obtain ⟨fPi, xPi, FPi, bPi, gPi⟩ := isDef_of (ps := ["_law_ties", "_law_copy"]) X G dPi fun _ _ _ _ _ _ us hl => match us, hl with | [_, _], _ => rfl
  obtain ⟨fIr, xIr, FIr, bIr, gIr⟩ := isDef_of (ps := ["_law_ties", "_law_value"]) X G dIr fun _ _ _ _ _ _ us hl => match us, hl with | [_, _], _ => rfl
  obtain ⟨fRt, xRt, FRt, bRt, gRt⟩ := isDef_of (ps := ["_law_pot_here"]) X G dRt fun _ _ _ _ _ _ us hl => match us, hl with | [_], _ => rfl
  obtain ⟨tk, zm⟩ := z_most
  have T : Txt mg := ⟨PySem.W.mg_none_of X G z_isi, PySem.W.mg_none_of X G z_int, PySem.W.mg_none_of X G z_bool, PySem.W.mg_none_of X G z_list, PySem.W.mg_none_of X G z_tuple, PySem.W.mg_none_of X G z_len, PySem.W.mg_none_of X G z_all, PySem.W.mg_none_of X G z_range, PySem.W.mg_none_of X G z_sorted, PySem.W.mg_none_of X G z_sum, PySem.W.mg_none_of X G z_abs, PySem.W.mg_none_of X G z_max, PySem.W.mg_none_of X G z_divmod, PySem.W.mg_none_of X G z_set, PySem.W.mg_none_of X G z_enum, PySem.W.mg_none_of X G z_repr, ⟨tk, PySem.W.mg_of X G zm⟩⟩
  refine ⟨PySem.W.fnOf "law" "law" (defArgs sLaw) (defBody sLaw) (defScope sLaw) .none kV dc pm an cd ct, fun s v => .of_eq rfl, fun base _ _ => ?_⟩
  have GCo : FnOk l.prog w K mg base CX0 2 fCo xCo ["value"] spCount := ok_count FCo FIn bIn gIn T
  have GLi : FnOk l.prog w K mg base CX0 1 fLi xLi ["value"] spList := ok_list FLi T
  have GTi : FnOk l.prog w K mg base CX0 3 fTi xTi ["copies", "value"] spTie := ok_tie FTi FCo bCo gCo GCo T
  have GWe : FnOk l.prog w K mg base CX0 4 fWe xWe ["value"] spWeb := ok_web FWe FCo bCo gCo GCo FLi bLi gLi GLi FTi bTi gTi GTi T
  have GWa : FnOk l.prog w K mg base CX0 5 fWa xWa ["value"] spWant := ok_want FWa FWe bWe gWe GWe T
  have GIs : FnOk l.prog w K mg base CX0 5 fIs xIs ["value"] spWeb := ok_isWeb FIs FWe bWe gWe GWe
  have GTo : FnOk l.prog w K mg base CX0 6 fTo xTo ["web"] spWant := ok_told FTo FWa bWa gWa GWa
  have GNb : FnOk l.prog w K mg base CX0 1 fNb xNb ["web", "copy"] spNbr := ok_nbr FNb T
  have GNe : FnOk l.prog w K mg base CX0 6 fNe xNe ["web", "copy"] spNeighbours := ok_neighbours FNe FWa bWa gWa GWa FCo bCo gCo GCo FNb bNb gNb GNb
  have GRe : FnOk l.prog w K mg base CX0 2 fRe xRe ["web"] spReached := ok_reached FRe FNb bNb gNb GNb
  have GJo : FnOk l.prog w K mg base CX0 6 fJo xJo ["web"] spJoined := ok_joined FJo FWa bWa gWa GWa FRe bRe gRe GRe T
  have GKe : FnOk l.prog w K mg base CX0 2 fKe xKe ["web"] spKept := ok_kept FKe FNb bNb gNb GNb T
  have GHr : FnOk l.prog w K mg base CX0 6 fHr xHr ["web"] spHasRing := ok_hasRing FHr FWa bWa gWa GWa FKe bKe gKe GKe
  have GRg : FnOk l.prog w K mg base CX0 3 fRg xRg ["web"] spRing := ok_ring FRg FKe bKe gKe GKe FNb bNb gNb GNb
  have GRi : FnOk l.prog w K mg base CX0 6 fRi xRi ["web"] spRingOf := ok_ringOf FRi FWa bWa gWa GWa FRg bRg gRg GRg
  have GPo : FnOk l.prog w K mg base CX0 1 fPo xPo ["_law_script", "_law_k"] (spPot K) := ok_pot FPo T
  have GDr : FnOk l.prog w K mg base CX0 1 fDr xDr ["_law_pot_here", "_law_many"] spDraw := ok_draw FDr T
  have GLw : FnOk l.prog w K mg base CX0 2 fLw xLw ["_law_pot_here", "_law_least", "_law_most"] spLawWeb := ok_lawWeb FLw FDr bDr gDr GDr T
  have GNr : FnOk l.prog w K mg base CX0 1 fNr xNr ["_law_ties", "_law_copy"] spNear := ok_near FNr T
  have GPi : FnOk l.prog w K mg base CX0 2 fPi xPi ["_law_ties", "_law_copy"] spPiece := ok_piece FPi FNr bNr gNr GNr T
  have GIr : FnOk l.prog w K mg base CX0 2 fIr xIr ["_law_ties", "_law_value"] spIsRing := ok_isRing FIr FNr bNr gNr GNr T
  have GRt : FnOkG l.prog w K mg base CX0 7 fRt xRt ["_law_pot_here"] spRight := ok_right FRt ⟨⟨fIs, xIs, FIs, bIs, gIs, GIs⟩⟩ ⟨⟨fTo, xTo, FTo, bTo, gTo, GTo⟩⟩ ⟨⟨fNe, xNe, FNe, bNe, gNe, GNe⟩⟩ ⟨⟨fJo, xJo, FJo, bJo, gJo, GJo⟩⟩ ⟨⟨fHr, xHr, FHr, bHr, gHr, GHr⟩⟩ ⟨⟨fRi, xRi, FRi, bRi, gRi, GRi⟩⟩ ⟨⟨fNr, xNr, FNr, bNr, gNr, GNr⟩⟩ ⟨⟨fPi, xPi, FPi, bPi, gPi, GPi⟩⟩ ⟨⟨fIr, xIr, FIr, bIr, gIr, GIr⟩⟩ ⟨⟨fDr, xDr, FDr, bDr, gDr, GDr⟩⟩ ⟨⟨fLw, xLw, FLw, bLw, gLw, GLw⟩⟩ T
  exact ok_law FL FRt bRt gRt GRt FPo bPo gPo GPo
end K81

open PySem PySem.W PyProof.Rows in
set_option maxRecDepth 100000 in
set_option maxHeartbeats 0 in
theorem PySem.Challenge.cw_partsmet_k81_whole_webs_and_rings_holds : PySem.Challenge.rw_partsmet_k81_whole_webs_and_rings.Holds := by
  w_on; o_law; k_head; (case hw => w_witness2)
  k_fill
  refine K81.walk_ofG (l := PySem.Challenge.rw_partsmet_k81_whole_webs_and_rings) (n := 63) (k := 8) (x := "_law_script") (sp := fun K => K81.spLaw K) rfl (by decide) rfl ⟨rfl, by decide, by decide⟩ (fun w h Y => PySem.W.kIn_of Y) ?F (fun K H a ns _ hS => ⟨a, ns, rfl, hS, fun _ => rfl⟩)
  case F =>
    intro w mg fa h KX G hmg
    refine' K81.all_mk KX G hmg ?dIn ?dCo ?dLi ?dTi ?dWe ?dWa ?dNb ?dRe ?dKe ?dRg ?dIs ?dTo ?dNe ?dJo ?dHr ?dRi ?dPo ?dDr ?dLw ?dNr ?dPi ?dIr ?dRt ?dLaw ?z_isi ?z_int ?z_bool ?z_list ?z_tuple ?z_len ?z_all ?z_range ?z_sorted ?z_sum ?z_abs ?z_max ?z_divmod ?z_set ?z_enum ?z_repr ?z_most
    (case dIn => refine' K81.hasDef_mk ?a ?l ?c ?k; (case a => k_is); (case l => k_is); (case c => k_is); (case k => k_is))
    (case dCo => refine' K81.hasDef_mk ?a ?l ?c ?k; (case a => k_is); (case l => k_is); (case c => k_is); (case k => k_is))
    (case dLi => refine' K81.hasDef_mk ?a ?l ?c ?k; (case a => k_is); (case l => k_is); (case c => k_is); (case k => k_is))
    (case dTi => refine' K81.hasDef_mk ?a ?l ?c ?k; (case a => k_is); (case l => k_is); (case c => k_is); (case k => k_is))
    (case dWe => refine' K81.hasDef_mk ?a ?l ?c ?k; (case a => k_is); (case l => k_is); (case c => k_is); (case k => k_is))
    (case dWa => refine' K81.hasDef_mk ?a ?l ?c ?k; (case a => k_is); (case l => k_is); (case c => k_is); (case k => k_is))
    (case dNb => refine' K81.hasDef_mk ?a ?l ?c ?k; (case a => k_is); (case l => k_is); (case c => k_is); (case k => k_is))
    (case dRe => refine' K81.hasDef_mk ?a ?l ?c ?k; (case a => k_is); (case l => k_is); (case c => k_is); (case k => k_is))
    (case dKe => refine' K81.hasDef_mk ?a ?l ?c ?k; (case a => k_is); (case l => k_is); (case c => k_is); (case k => k_is))
    (case dRg => refine' K81.hasDef_mk ?a ?l ?c ?k; (case a => k_is); (case l => k_is); (case c => k_is); (case k => k_is))
    (case dIs => refine' K81.hasDef_mk ?a ?l ?c ?k; (case a => k_is); (case l => k_is); (case c => k_is); (case k => k_is))
    (case dTo => refine' K81.hasDef_mk ?a ?l ?c ?k; (case a => k_is); (case l => k_is); (case c => k_is); (case k => k_is))
    (case dNe => refine' K81.hasDef_mk ?a ?l ?c ?k; (case a => k_is); (case l => k_is); (case c => k_is); (case k => k_is))
    (case dJo => refine' K81.hasDef_mk ?a ?l ?c ?k; (case a => k_is); (case l => k_is); (case c => k_is); (case k => k_is))
    (case dHr => refine' K81.hasDef_mk ?a ?l ?c ?k; (case a => k_is); (case l => k_is); (case c => k_is); (case k => k_is))
    (case dRi => refine' K81.hasDef_mk ?a ?l ?c ?k; (case a => k_is); (case l => k_is); (case c => k_is); (case k => k_is))
    (case dPo => refine' K81.hasDef_mk ?a ?l ?c ?k; (case a => k_is); (case l => k_is); (case c => k_is); (case k => k_is))
    (case dDr => refine' K81.hasDef_mk ?a ?l ?c ?k; (case a => k_is); (case l => k_is); (case c => k_is); (case k => k_is))
    (case dLw => refine' K81.hasDef_mk ?a ?l ?c ?k; (case a => k_is); (case l => k_is); (case c => k_is); (case k => k_is))
    (case dNr => refine' K81.hasDef_mk ?a ?l ?c ?k; (case a => k_is); (case l => k_is); (case c => k_is); (case k => k_is))
    (case dPi => refine' K81.hasDef_mk ?a ?l ?c ?k; (case a => k_is); (case l => k_is); (case c => k_is); (case k => k_is))
    (case dIr => refine' K81.hasDef_mk ?a ?l ?c ?k; (case a => k_is); (case l => k_is); (case c => k_is); (case k => k_is))
    (case dRt => refine' K81.hasDef_mk ?a ?l ?c ?k; (case a => k_is); (case l => k_is); (case c => k_is); (case k => k_is))
    (case dLaw => refine' K81.hasDef_mk ?a ?l ?c ?k; (case a => k_is); (case l => k_is); (case c => k_is); (case k => k_is))
    (case z_isi => k_is)
    (case z_int => k_is)
    (case z_bool => k_is)
    (case z_list => k_is)
    (case z_tuple => k_is)
    (case z_len => k_is)
    (case z_all => k_is)
    (case z_range => k_is)
    (case z_sorted => k_is)
    (case z_sum => k_is)
    (case z_abs => k_is)
    (case z_max => k_is)
    (case z_divmod => k_is)
    (case z_set => k_is)
    (case z_enum => k_is)
    (case z_repr => k_is)
    (case z_most => refine' K81.hasInt_mk ?a; (case a => k_is))
#print axioms PySem.Challenge.cw_partsmet_k81_whole_webs_and_rings_holds
