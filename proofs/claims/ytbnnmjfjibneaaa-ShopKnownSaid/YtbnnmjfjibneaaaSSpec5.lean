/- Plain words of the shop layer: a train that is late. No conditions. -/
import Derived.Test.YtbnnmjfjibneaaaSSpec4
set_option linter.unusedSimpArgs false
set_option linter.unusedVariables false
namespace Go.Rt.Sh
def late (t : Train) : Train := { t with days := t.days + 1 }
def setLate : List Train → Nat → List Train
  | [], _ => []
  | t :: l, 0 => late t :: l
  | t :: l, i + 1 => t :: setLate l i
theorem setLate_len : ∀ (l : List Train) (i : Nat), (setLate l i).length = l.length
  | [], _ => rfl
  | _ :: _, 0 => rfl
  | _ :: l, i + 1 => by simp [setLate, setLate_len l i]
def lateM (m : Market) (i : Nat) : Market := { m with trains := setLate m.trains i }
theorem trows_len (l : List Train) : (trows l).flatten.length = l.length * 4 := by
  induction l with
  | nil => rfl
  | cons f l ih => simp only [trows, List.map_cons, List.flatten_cons, List.length_append, List.length_cons] at ih ⊢; rw [ih]; simp [Train.cells]; omega
theorem trows_late : ∀ (l : List Train) (i : Nat) (hi : i < l.length), (trows l).flatten.set (i * 4 + 2) (.int .i64 (l[i].days + 1)) = (trows (setLate l i)).flatten
  | [], _, h => by simp at h
  | t :: l, 0, _ => by simp [trows, setLate, late, Train.cells]
  | t :: l, i + 1, h => by
    have ih := trows_late l i (by simpa using h)
    simp only [trows, List.map_cons, List.flatten_cons, setLate, List.getElem_cons_succ] at ih ⊢
    rw [show (i + 1) * 4 + 2 = t.cells.length + (i * 4 + 2) by simp [Train.cells]; omega, List.set_append_right _ _ (by omega), show t.cells.length + (i * 4 + 2) - t.cells.length = i * 4 + 2 by omega, ih]
theorem cells_late {cs : List Value} {l : List Train} {n i : Nat} (hn : l.length = n) (h : cs.take (n * 4) = (trows l).flatten) (hi : i < l.length) : (cs.set (i * 4 + 2) (.int .i64 (l[i].days + 1))).take (n * 4) = (trows (setLate l i)).flatten := by
  rw [List.take_set, h, trows_late l i hi]
theorem mem_setLate {l : List Train} {i : Nat} {t : Train} (h : t ∈ setLate l i) : t ∈ l ∨ ∃ t' ∈ l, t = late t' := by
  induction l generalizing i with
  | nil => simp [setLate] at h
  | cons x l ih =>
    cases i with
    | zero =>
      simp only [setLate, List.mem_cons] at h
      rcases h with rfl | h
      · exact .inr ⟨x, .head _, rfl⟩
      · exact .inl (.tail _ h)
    | succ i =>
      simp only [setLate, List.mem_cons] at h
      rcases h with rfl | h
      · exact .inl (.head _)
      · rcases ih h with h | ⟨t', h1, h2⟩
        · exact .inl (.tail _ h)
        · exact .inr ⟨t', .tail _ h1, h2⟩
theorem check_days {m : Market} (h : (check m).2.2 = 0) : ∀ t ∈ m.trains, t.days ≤ 5 := by
  obtain ⟨_, _, h3⟩ := check_parts h
  intro t ht
  obtain ⟨k, hk, rfl⟩ := List.getElem_of_mem ht
  have := trainE_zero ((failE_zero h3).2 k hk)
  omega
theorem lateM_ok {m : Market} (h : (check m).2.2 = 0) (i : Nat) : (lateM m i).Ok := by
  have hok := check_ok h
  have hd := check_days h
  refine ⟨hok.lr, hok.ls, by show (setLate _ _).length ≤ 6; rw [setLate_len]; exact hok.lt, hok.room, hok.shop, fun t ht => ?_⟩
  rcases mem_setLate ht with h | ⟨t', h1, rfl⟩
  · exact hok.train t h
  · have h2 := hok.train t' h1
    have h3 := hd t' h1
    show 0 ≤ t'.room ∧ t'.room < m.rooms.length ∧ 0 ≤ t'.shop ∧ t'.shop < m.shops.length ∧ 0 ≤ t'.days + 1 ∧ t'.days + 1 ≤ 6 ∧ 1 ≤ t'.cap ∧ t'.cap ≤ 60
    omega
theorem lateM_cells (m : Market) (i : Nat) (p : At3) : (lateM m i).cells p = [.slice p.ar m.rooms.length p.cr, .slice p.as m.shops.length p.cs, .slice p.at_ m.trains.length p.ct] := by simp [Market.cells, lateM, setLate_len]
theorem worstTo_bound {n sub : Nat} {lk : List Int} (h : ∀ b < 16, lk.getD b 0 ≤ 100000) : ∀ k ≤ 16, (worstTo n sub lk k).2 ≤ 100000
  | 0, _ => by simp [worstTo]
  | k + 1, hk => by
    have ih := worstTo_bound (n := n) (sub := sub) h k (by omega)
    simp only [worstTo, worstStep]
    split
    · exact ih
    · split
      · exact h k (by omega)
      · exact ih
theorem worst_bound {m : Market} (hok : m.Ok) {x : List Int} (hx : Small x) (sub : Nat) : 0 ≤ (worst m x sub).2 ∧ (worst m x sub).2 ≤ 100000 :=
  ⟨worstTo_pos _ _ _ _, worstTo_bound (fun b hb => by rw [lacksV_get hb]; exact (lackB_bound hok hx b).2) 16 (Nat.le_refl _)⟩
def lateP (m : Market) (r : Int) : Int × Int :=
  if enterE m m.trains.length [r] ≠ 0 then (0, enterE m m.trains.length [r]) else
    (max (0 : Int) ((worst (lateM m r.toNat) (allX m false) (1 <<< m.shops.length - 1)).2 - (worst m (allX m false) (1 <<< m.shops.length - 1)).2), 0)
theorem lateP_1 {m : Market} {r : Int} (h : enterE m m.trains.length [r] ≠ 0) : lateP m r = (0, enterE m m.trains.length [r]) := by unfold lateP; rw [if_pos h]
theorem lateP_2 {m : Market} {r : Int} (h : enterE m m.trains.length [r] = 0) : lateP m r = (max (0 : Int) ((worst (lateM m r.toNat) (allX m false) (1 <<< m.shops.length - 1)).2 - (worst m (allX m false) (1 <<< m.shops.length - 1)).2), 0) := by unfold lateP; rw [if_neg (by simp [h])]
end Go.Rt.Sh
