/- Own texts of this claim, joined. No conditions. -/
import Derived.Laws.RangeAny
import Derived.Maps.RangeRun
import Derived.Test.YtfodoljacfiehaaGreatHTopNumbera
import Derived.Test.YtfodoljacfiehaaGreatHTopNumberb
/- Plain words of the shop layer: a train that is late. No conditions. -/
set_option linter.unusedSimpArgs false
set_option linter.unusedVariables false
namespace Go.Rt.Sh
def late (t : Train) : Train := { t with days := t.days + 1 }
def setLate : List Train → Nat → List Train
  | [], _ => []
  | t :: l, 0 => late t :: l
  | t :: l, i + 1 => t :: setLate l i
theorem zEc : ∀ (l : List Train) (i : Nat), (setLate l i).length = l.length
  | [], _ => rfl
  | _ :: _, 0 => rfl
  | _ :: l, i + 1 => by simp [setLate, zEc l i]
def lateM (m : Market) (i : Nat) : Market := { m with trains := setLate m.trains i }
theorem trows_late : ∀ (l : List Train) (i : Nat) (hi : i < l.length), (trows l).flatten.set (i * 4 + 2) (.int .i64 (l[i].days + 1)) = (trows (setLate l i)).flatten
  | [], _, h => by simp at h
  | t :: l, 0, _ => by simp [trows, setLate, late, Train.cells]
  | t :: l, i + 1, h => by
    have ih := trows_late l i (by simpa using h)
    simp only [trows, List.map_cons, List.flatten_cons, setLate, List.getElem_cons_succ] at ih ⊢
    rw [show (i + 1) * 4 + 2 = t.cells.length + (i * 4 + 2) by simp [Train.cells]; omega, List.set_append_right _ _ (by omega), show t.cells.length + (i * 4 + 2) - t.cells.length = i * 4 + 2 by omega, ih]
theorem cells_late {cs : List Value} {l : List Train} {n i : Nat} (hn : l.length = n) (h : cs.take (n * 4) = (trows l).flatten) (hi : i < l.length) : (cs.set (i * 4 + 2) (.int .i64 (l[i].days + 1))).take (n * 4) = (trows (setLate l i)).flatten := by
  rw [List.take_set, h, trows_late l i hi]
theorem mem_setLate {l : List Train} {i : Nat} {t : Train} (h : t ∈ setLate l i) : t ∈ l ∨ ∃ t' ∈ l, t = late t' := by
  induction l generalizing i with
  | nil => simp [setLate] at h
  | cons x l ih =>
    cases i with
    | zero =>
      simp only [setLate, List.mem_cons] at h
      rcases h with rfl | h
      · exact .inr ⟨x, .head _, rfl⟩
      · exact .inl (.tail _ h)
    | succ i =>
      simp only [setLate, List.mem_cons] at h
      rcases h with rfl | h
      · exact .inl (.head _)
      · rcases ih h with h | ⟨t', h1, h2⟩
        · exact .inl (.tail _ h)
        · exact .inr ⟨t', .tail _ h1, h2⟩
theorem check_days {m : Market} (h : (check m).2.2 = 0) : ∀ t ∈ m.trains, t.days ≤ 5 := by
  obtain ⟨_, _, h3⟩ := check_parts h
  intro t ht
  obtain ⟨k, hk, rfl⟩ := List.getElem_of_mem ht
  have := trainE_zero ((failE_zero h3).2 k hk)
  omega
theorem lateM_ok {m : Market} (h : (check m).2.2 = 0) (i : Nat) : (lateM m i).Ok := by
  have hok := check_ok h
  have hd := check_days h
  refine ⟨hok.lr, hok.ls, by show (setLate _ _).length ≤ 6; rw [zEc]; exact hok.lt, hok.room, hok.shop, fun t ht => ?_⟩
  rcases mem_setLate ht with h | ⟨t', h1, rfl⟩
  · exact hok.train t h
  · have h2 := hok.train t' h1
    have h3 := hd t' h1
    show 0 ≤ t'.room ∧ t'.room < m.rooms.length ∧ 0 ≤ t'.shop ∧ t'.shop < m.shops.length ∧ 0 ≤ t'.days + 1 ∧ t'.days + 1 ≤ 6 ∧ 1 ≤ t'.cap ∧ t'.cap ≤ 60
    omega
theorem lateM_cells (m : Market) (i : Nat) (p : At3) : (lateM m i).cells p = [.slice p.ar m.rooms.length p.cr, .slice p.az m.shops.length p.cs, .slice p.at_ m.trains.length p.ct] := by simp [Market.cells, lateM, zEc]
theorem zGa {n sub : Nat} {lk : List Int} (h : ∀ b < 16, lk.getD b 0 ≤ 100000) : ∀ k ≤ 16, (worstTo n sub lk k).2 ≤ 100000
  | 0, _ => by simp [worstTo]
  | k + 1, hk => by
    have ih := zGa (n := n) (sub := sub) h k (by omega)
    simp only [worstTo, worstStep]
    split
    · exact ih
    · split
      · exact h k (by omega)
      · exact ih
theorem worst_bound {m : Market} (hok : m.Ok) {x : List Int} (hx : Small x) (sub : Nat) : 0 ≤ (worst m x sub).2 ∧ (worst m x sub).2 ≤ 100000 :=
  ⟨worstTo_pos _ _ _ _, zGa (fun b hb => by rw [lacksV_get hb]; exact (lackB_bound hok hx b).2) 16 (Nat.le_refl _)⟩
def lateP (m : Market) (r : Int) : Int × Int :=
  if enterE m m.trains.length [r] ≠ 0 then (0, enterE m m.trains.length [r]) else
    (max (0 : Int) ((worst (lateM m r.toNat) (allX m false) (1 <<< m.shops.length - 1)).2 - (worst m (allX m false) (1 <<< m.shops.length - 1)).2), 0)
theorem lateP_1 {m : Market} {r : Int} (h : enterE m m.trains.length [r] ≠ 0) : lateP m r = (0, enterE m m.trains.length [r]) := by unfold lateP; rw [if_pos h]
theorem lateP_2 {m : Market} {r : Int} (h : enterE m m.trains.length [r] = 0) : lateP m r = (max (0 : Int) ((worst (lateM m r.toNat) (allX m false) (1 <<< m.shops.length - 1)).2 - (worst m (allX m false) (1 <<< m.shops.length - 1)).2), 0) := by unfold lateP; rw [if_neg (by simp [h])]
end Go.Rt.Sh
/- Plain words of the shop layer: the loads that the program yields. No conditions. -/
namespace Go.Rt.Sh
def nx1 (x : List Int) : List Int := x.set 7 (x.getD 7 0 + 1)
def nx2 (x : List Int) (r : Nat) (n : Int) : List Int := (nx1 x).set r ((nx1 x).getD r 0 - n)
def nextX (x : List Int) (t : Train) (n : Int) : List Int := (nx2 x t.room.toNat n).set (3 + t.shop.toNat) ((nx2 x t.room.toNat n).getD (3 + t.shop.toNat) 0 - n)
def mostX (m : Market) (sub : Nat) (x : List Int) (t : Train) : Int := if leaves m t = true ∧ bit sub t.shop.toNat = 1 then min (min t.cap (x.getD t.room.toNat 0)) (x.getD (3 + t.shop.toNat) 0) else 0
def loadsX (m : Market) (sub : Nat) : Nat → List Int → List (List Int)
  | 0, _ => [[]]
  | rem + 1, x => match m.trains[(x.getD 7 0).toNat]? with
    | none => []
    | some t => (List.range ((mostX m sub x t).toNat + 1)).flatMap fun n : Nat => if servedS m (nextX x t n) sub then (loadsX m sub rem (nextX x t n)).map (fun l => (n : Int) :: l) else []
def segN (m : Market) (sub rem : Nat) (x : List Int) (t : Train) (pre : List Int) (n : Nat) : List (List Int) := if servedS m (nextX x t n) sub then (loadsX m sub rem (nextX x t n)).map (fun l => pre ++ ((n : Int) :: l)) else []
def pad6 (l : List Int) : List Int := l ++ List.replicate (6 - l.length) 0
structure GoodX (x : List Int) (d : Nat) : Prop where
  len : x.length = 8
  nn : ∀ z ∈ x, 0 ≤ z ∧ z ≤ 1000
  at7 : x.getD 7 0 = d
theorem GoodX.small {x : List Int} {d : Nat} (h : GoodX x d) : Small x := ⟨h.len, fun z hz => by have := h.nn z hz; omega⟩
theorem GoodX.get {x : List Int} {d : Nat} (h : GoodX x d) (i : Nat) : 0 ≤ x.getD i 0 ∧ x.getD i 0 ≤ 1000 := zEw (by omega) (by omega) h.nn i
theorem getD_other {x : List Int} {i j : Nat} {z : Int} (h : i ≠ j) : (x.set i z).getD j 0 = x.getD j 0 := by simp [List.getD, List.getElem?_set, h]
theorem zCz (x : List Int) : (nx1 x).length = x.length := by simp [nx1]
theorem nx2_len (x : List Int) (r : Nat) (n : Int) : (nx2 x r n).length = x.length := by simp [nx2, zCz]
theorem nx1_get {x : List Int} {j : Nat} (h : j ≠ 7) : (nx1 x).getD j 0 = x.getD j 0 := getD_other (Ne.symm h)
theorem nx2_get {x : List Int} {r j : Nat} {n : Int} (h : j ≠ 7) (h2 : j ≠ r) : (nx2 x r n).getD j 0 = x.getD j 0 := by unfold nx2; rw [getD_other (Ne.symm h2), nx1_get h]
theorem set_in {x : List Int} {i : Nat} {z a b : Int} (h : ∀ y ∈ x, a ≤ y ∧ y ≤ b) (hz : a ≤ z ∧ z ≤ b) : ∀ y ∈ x.set i z, a ≤ y ∧ y ≤ b := by
  intro y hy
  rcases List.mem_or_eq_of_mem_set hy with h1 | h1
  · exact h y h1
  · rw [h1]; exact hz
theorem nextX_good {x : List Int} {d : Nat} {t : Train} {n : Int} (h : GoodX x d) (hd : d < 100) (hr : t.room.toNat < 3) (hs : t.shop.toNat < 4) (hn : 0 ≤ n) (h1 : n ≤ x.getD t.room.toNat 0) (h2 : n ≤ x.getD (3 + t.shop.toNat) 0) : GoodX (nextX x t n) (d + 1) := by
  have g1 := h.get t.room.toNat
  have g2 := h.get (3 + t.shop.toNat)
  have e1 : (nx1 x).getD t.room.toNat 0 = x.getD t.room.toNat 0 := nx1_get (by omega)
  have e2 : (nx2 x t.room.toNat n).getD (3 + t.shop.toNat) 0 = x.getD (3 + t.shop.toNat) 0 := nx2_get (by omega) (by omega)
  refine ⟨by simp [nextX, nx2_len, h.len], ?_, ?_⟩
  · unfold nextX
    refine set_in ?_ (by rw [e2]; omega)
    unfold nx2
    refine set_in ?_ (by rw [e1]; omega)
    unfold nx1
    exact set_in h.nn (by rw [h.at7]; omega)
  · unfold nextX nx2
    rw [getD_other (by omega), getD_other (by omega)]
    unfold nx1
    rw [zFt (by rw [h.len]; omega), h.at7]
    push_cast; rfl
theorem mostX_no {m : Market} {sub : Nat} {x : List Int} {t : Train} (h : leaves m t = false ∨ ¬ bit sub t.shop.toNat = 1) : mostX m sub x t = 0 := by
  unfold mostX
  rw [if_neg]
  rintro ⟨h1, h2⟩
  rcases h with h | h
  · rw [h1] at h; cases h
  · exact h h2
theorem mostX_yes {m : Market} {sub : Nat} {x : List Int} {t : Train} (h1 : leaves m t = true) (h2 : bit sub t.shop.toNat = 1) : mostX m sub x t = min (min t.cap (x.getD t.room.toNat 0)) (x.getD (3 + t.shop.toNat) 0) := by unfold mostX; rw [if_pos ⟨h1, h2⟩]
theorem mostX_bound {m : Market} {sub : Nat} {x : List Int} {d : Nat} {t : Train} (h : GoodX x d) (hc : 1 ≤ t.cap ∧ t.cap ≤ 60) : 0 ≤ mostX m sub x t ∧ mostX m sub x t ≤ 60 ∧ mostX m sub x t ≤ x.getD t.room.toNat 0 ∧ mostX m sub x t ≤ x.getD (3 + t.shop.toNat) 0 := by
  have g1 := h.get t.room.toNat
  have g2 := h.get (3 + t.shop.toNat)
  unfold mostX
  split <;> omega
theorem loads_here {m : Market} {sub rem d : Nat} {x pre : List Int} (h : GoodX x d) (hd : d < m.trains.length) :
    (loadsX m sub (rem + 1) x).map (fun l => pad6 (pre ++ l)) = (List.range ((mostX m sub x m.trains[d]).toNat + 1)).flatMap fun n => (segN m sub rem x m.trains[d] pre n).map pad6 := by
  have e : m.trains[(x.getD 7 0).toNat]? = some m.trains[d] := by rw [h.at7, Int.toNat_natCast, List.getElem?_eq_getElem hd]
  simp only [loadsX, e]
  rw [List.map_flatMap]
  congr 1
  funext n
  unfold segN
  split
  · simp [List.map_map, Function.comp_def]
  · rfl
theorem range_drop {k n : Nat} (h : n < k) : (List.range k).drop n = n :: (List.range k).drop (n + 1) := by
  rw [List.drop_eq_getElem_cons (by simpa using h)]; simp
theorem zFq {k n : Nat} (h : k ≤ n) : (List.range k).drop n = [] := List.drop_of_length_le (by simpa using h)
theorem seg_yes {m : Market} {sub rem n : Nat} {x : List Int} {t : Train} {pre : List Int} (h : servedS m (nextX x t n) sub = true) : (segN m sub rem x t pre n).map pad6 = (loadsX m sub rem (nextX x t n)).map fun l => pad6 ((pre ++ [(n : Int)]) ++ l) := by
  unfold segN; rw [if_pos h]; simp [List.map_map, Function.comp_def]
theorem seg_no {m : Market} {sub rem n : Nat} {x : List Int} {t : Train} {pre : List Int} (h : servedS m (nextX x t n) sub = false) : (segN m sub rem x t pre n).map pad6 = [] := by unfold segN; rw [if_neg (by simp [h])]; rfl
theorem zFo {m : Market} {sub : Nat} : ∀ (rem : Nat) (x : List Int), ∀ l ∈ loadsX m sub rem x, l.length = rem ∧ ∀ z ∈ l, 0 ≤ z
  | 0, _, l, h => by simp [loadsX] at h; subst h; simp
  | rem + 1, x, l, h => by
    unfold loadsX at h
    cases e : m.trains[(x.getD 7 0).toNat]? with
    | none => rw [e] at h; simp at h
    | some t =>
      rw [e] at h
      simp only [List.mem_flatMap] at h
      obtain ⟨n, _, h⟩ := h
      split at h
      · obtain ⟨l', h1, rfl⟩ := List.mem_map.1 h
        have := zFo rem _ l' h1
        exact ⟨by simp [this.1], fun z hz => by rcases List.mem_cons.1 hz with rfl | hz; omega; exact this.2 z hz⟩
      · cases h
theorem zF0 {α : Type} {f : Nat → List α} : ∀ (k : Nat), (∀ n < k, (f n).Nodup) → (∀ n < k, ∀ n' < k, n ≠ n' → ∀ x ∈ f n, x ∉ f n') → ((List.range k).flatMap f).Nodup
  | 0, _, _ => by simp
  | k + 1, h1, h2 => by
    rw [List.range_succ, List.flatMap_append, List.nodup_append]
    refine ⟨zF0 k (fun n hn => h1 n (by omega)) (fun n hn n' hn' => h2 n (by omega) n' (by omega)), by simpa using h1 k (by omega), ?_⟩
    intro x hx y hy e
    subst e
    simp only [List.flatMap_cons, List.flatMap_nil, List.append_nil] at hy
    obtain ⟨n, hn, hx⟩ := List.mem_flatMap.1 hx
    rw [List.mem_range] at hn
    exact h2 n (by omega) k (by omega) (by omega) x hx hy
theorem loads_nodup {m : Market} {sub : Nat} : ∀ (rem : Nat) (x : List Int), (loadsX m sub rem x).Nodup
  | 0, _ => by simp [loadsX]
  | rem + 1, x => by
    unfold loadsX
    cases e : m.trains[(x.getD 7 0).toNat]? with
    | none => simp
    | some t =>
      refine zF0 _ (fun n _ => ?_) (fun n _ n' _ hne l hl hl' => ?_)
      · split
        · have hq := loads_nodup (m := m) (sub := sub) rem (nextX x t n)
          unfold List.Nodup at hq ⊢
          rw [List.pairwise_map]
          exact hq.imp fun hne e => hne (by simpa using e)
        · simp
      · split at hl
        · obtain ⟨a, _, rfl⟩ := List.mem_map.1 hl
          split at hl'
          · obtain ⟨b, _, h⟩ := List.mem_map.1 hl'
            simp only [List.cons.injEq] at h
            exact hne (by omega)
          · cases hl'
        · cases hl
theorem pad6_len {l : List Int} (h : l.length ≤ 6) : (pad6 l).length = 6 := by simp [pad6]; omega
theorem pad6_inj {a b : List Int} (h : a.length = b.length) (e : pad6 a = pad6 b) : a = b := by unfold pad6 at e; exact (List.append_inj e h).1
theorem allLoads_nodup {m : Market} {sub rem : Nat} {x : List Int} : ((loadsX m sub rem x).map pad6).Nodup := by
  have h := loads_nodup (m := m) (sub := sub) rem x
  unfold List.Nodup at h ⊢
  rw [List.pairwise_map]
  refine List.Pairwise.imp_of_mem ?_ h
  intro a b ha hb hne e
  exact hne (pad6_inj (by rw [(zFo rem x a ha).1, (zFo rem x b hb).1]) e)
theorem cur_pad6 {cur pre : List Int} {d : Nat} (hl : cur.length = 6) (hp : pre.length = d) (hd : d ≤ 6) (hk : cur.take d = pre) (hz : ∀ j, d ≤ j → cur.getD j 0 = 0) : cur = pad6 pre := by
  unfold pad6
  apply List.ext_getElem (by simp [hl, hp]; omega)
  intro j h1 h2
  by_cases hj : j < d
  · rw [List.getElem_append_left (by omega)]
    have : pre[j]'(by omega) = (cur.take d)[j]'(by simp [hl]; omega) := by congr 1; exact hk.symm
    rw [this, List.getElem_take]
  · rw [List.getElem_append_right (by omega)]
    have := hz j (by omega)
    simp only [List.getElem_replicate]
    simpa [List.getD, h1] using this
theorem set_take6 {cur pre : List Int} {d : Nat} {n : Int} (hk : cur.take d = pre) (hl : d < cur.length) : (cur.set d n).take (d + 1) = pre ++ [n] := by
  rw [List.take_succ_eq_append_getElem (by simpa using hl), List.getElem_set_self, List.take_set_of_le (Nat.le_refl _), hk]
theorem set_zero6 {cur : List Int} {d n : Nat} {z : Int} (h : d < n) (hz : ∀ j, n ≤ j → cur.getD j 0 = 0) : ∀ j, n ≤ j → (cur.set d z).getD j 0 = 0 := fun j hj => by rw [getD_other (by omega)]; exact hz j hj
theorem zEn {cur pre : List Int} {d : Nat} {n : Int} (h : cur.take (d + 1) = pre ++ [n]) (hp : pre.length = d) : cur.take d = pre := by
  have : (cur.take (d + 1)).take d = (pre ++ [n]).take d := by rw [h]
  rw [List.take_take, Nat.min_eq_left (by omega)] at this
  rw [this, ← hp]; simp
theorem zGx {α : Type} {L R : List α} {i : Nat} {x : α} (h : L.drop i = x :: R) : L.drop (i + 1) = R := by
  have : (L.drop i).drop 1 = R := by rw [h]; rfl
  rwa [List.drop_drop] at this
theorem zF3 {α : Type} {L R : List α} {i : Nat} {x : α} (h : L.drop i = x :: R) : i < L.length := by
  rcases Nat.lt_or_ge i L.length with h1 | h1
  · exact h1
  · rw [List.drop_of_length_le h1] at h; cases h
theorem drop_get1 {α : Type} {L R : List α} {i : Nat} {x : α} (h : L.drop i = x :: R) : L[i]'(zF3 h) = x := by
  have := List.drop_eq_getElem_cons (zF3 h)
  rw [h] at this
  exact (List.cons.inj this).1.symm
theorem drop_done {α : Type} {L : List α} {i : Nat} (h : i ≤ L.length) (hd : L.drop i = []) : i = L.length := by
  have := congrArg List.length hd
  simp at this; omega
def giveSub : Nat → List Int → Nat
  | s, [] => s
  | s, x :: l => giveSub (bitDiff s (1 <<< x.toNat)) l
theorem giveSub_step {s : Nat} {l : List Int} {i : Nat} (hi : i < l.length) : giveSub s (l.drop i) = giveSub (bitDiff s (1 <<< l[i].toNat)) (l.drop (i + 1)) := by rw [List.drop_eq_getElem_cons hi]; rfl
theorem giveSub_end {s : Nat} {l : List Int} {i : Nat} (hi : l.length ≤ i) : giveSub s (l.drop i) = s := by rw [List.drop_of_length_le hi]; rfl
def allLoads (m : Market) : List (List Int) := (loadsX m (giveSub (1 <<< m.shops.length - 1) (withoutL m)) m.trains.length (allX m false)).map pad6
def giveL (m : Market) : List Int := match allLoads m with
  | [] => List.replicate m.trains.length 0
  | l :: _ => l.take m.trains.length
def giveP (m : Market) : List Int × Int := if (check m).2.2 ≠ 0 then ([], (check m).2.2) else (giveL m, 0)
theorem zHt {m : Market} (hok : m.Ok) : ∀ l ∈ allLoads m, l.length = 6 := by
  intro l hl
  obtain ⟨q, hq, rfl⟩ := List.mem_map.1 hl
  exact pad6_len (by rw [(zFo _ _ q hq).1]; exact hok.lt)
theorem giveL_nil {m : Market} (h : (allLoads m).length = 0) : giveL m = List.replicate m.trains.length 0 := by unfold giveL; rw [List.length_eq_zero_iff.1 h]
theorem giveL_cons {m : Market} (h : 0 < (allLoads m).length) : giveL m = (allLoads m)[0].take m.trains.length := by
  unfold giveL
  split
  · rename_i e; rw [e] at h; simp at h
  · rename_i l r e; simp [e]
theorem giveL_len {m : Market} (hok : m.Ok) : (giveL m).length = m.trains.length := by
  rcases Nat.eq_zero_or_pos (allLoads m).length with h | h
  · rw [giveL_nil h]; simp
  · rw [giveL_cons h, List.length_take, zHt hok _ (List.getElem_mem h)]; have := hok.lt; omega
theorem giveL_copy {m : Market} (hok : m.Ok) (h : 0 < (allLoads m).length) : (allLoads m)[0].take m.trains.length ++ (List.replicate m.trains.length (0 : Int)).drop 6 = giveL m := by
  rw [giveL_cons h, List.drop_of_length_le (by rw [List.length_replicate]; exact hok.lt), List.append_nil]
theorem start_last {m : Market} {sub rem : Nat} {x : List Int} : [-1,0,0,0,0,0] ∉ (loadsX m sub rem x).map pad6 := by
  intro h
  obtain ⟨l, hl, e⟩ := List.mem_map.1 h
  have h2 := (zFo rem x l hl).2
  cases l with
  | nil => simp [pad6, List.replicate] at e
  | cons z l =>
    have hz := h2 z (.head _)
    simp only [pad6, List.cons_append, List.cons.injEq] at e
    omega
theorem allX_at7 (m : Market) (hr : m.rooms.length ≤ 3) (hs : m.shops.length ≤ 4) (t : Bool) : (allX m t).getD 7 0 = 0 := by
  have h1 : ∀ i, i ≤ 3 → (handsTo m t i).getD 7 0 = 0 := by
    intro i
    induction i with
    | zero => intro _; rfl
    | succ i ih => intro h; unfold handsTo; rw [getD_other (by omega)]; exact ih (by omega)
  have h2 : ∀ i, i ≤ 4 → (wantsTo m t i).getD 7 0 = 0 := by
    intro i
    induction i with
    | zero => intro _; exact h1 _ hr
    | succ i ih => intro h; unfold wantsTo; rw [getD_other (by omega)]; exact ih (by omega)
  exact h2 _ hs
theorem allX_good {m : Market} (hok : m.Ok) (t : Bool) : GoodX (allX m t) 0 :=
  ⟨allX_len m t, fun z hz => by have := allX_in hok t z hz; omega, by rw [allX_at7 m hok.lr hok.ls]; rfl⟩
theorem listL_in (b : Nat) : ∀ n, ∀ x ∈ listL b n, 0 ≤ x ∧ x < n
  | 0, x, h => by simp [listL] at h
  | n + 1, x, h => by
    simp only [listL, List.mem_append] at h
    rcases h with h | h
    · have := listL_in b n x h; omega
    · split at h
      · simp at h; omega
      · simp at h
theorem zHn (m : Market) : ∀ k, ∀ x ∈ withoutTo m k, 0 ≤ x ∧ x < m.shops.length
  | 0 => listL_in _ _
  | k + 1 => by
    simp only [withoutTo, withoutStep]
    split
    · exact listL_in _ _
    · exact zHn m k
theorem zFw {α : Type} {L R : List α} {i : Nat} {x : α} (hn : L.Nodup) (h : L.drop i = x :: R) : x ∉ R := by
  have := hn.sublist (List.drop_sublist i L)
  rw [h] at this
  exact (List.nodup_cons.1 this).1
end Go.Rt.Sh
/- Plain words of the shop layer: sets asked for by rising numbers. No conditions. -/
namespace Go.Rt.Sh
def rising (n : Int) : Int → List Int → Bool
  | _, [] => true
  | p, x :: l => !(decide (x ≤ p) || decide (n ≤ x)) && rising n x l
theorem rising_stop {n p : Int} {l : List Int} {i : Nat} (hi : i < l.length) (h : l[i] ≤ p ∨ n ≤ l[i]) : rising n p (l.drop i) = false := by
  rw [List.drop_eq_getElem_cons hi, rising]
  rcases h with h | h <;> simp [h]
theorem rising_step {n p : Int} {l : List Int} {i : Nat} (hi : i < l.length) (h : p < l[i]) (h2 : l[i] < n) : rising n p (l.drop i) = rising n l[i] (l.drop (i + 1)) := by
  rw [List.drop_eq_getElem_cons hi, rising]
  simp [h, h2]
theorem rising_end {n p : Int} {l : List Int} {i : Nat} (hi : l.length ≤ i) : rising n p (l.drop i) = true := by rw [List.drop_of_length_le hi]; rfl
end Go.Rt.Sh
/- Plain words of the shop layer's reference: lists in their order, all sets of some shops, the worst of them. No conditions. -/
namespace Go.Rt
namespace Sh
end Sh
end Go.Rt
/- What the law about numbers asks. No conditions. -/
namespace Go.Rt.Tn
def onD (day : Int) (r : Sh.Room) : Sh.Room := { r with fro := day, las := day }
def firstM (day : Int) (m : Sh.Market) : Sh.Market := { m with rooms := match m.rooms with | [] => [] | r :: l => onD day r :: l }
theorem first_set {day : Int} {m : Sh.Market} (h : 0 < m.rooms.length) : (firstM day m).rooms = m.rooms.set 0 (onD day m.rooms[0]) := by
  obtain ⟨rs, ss, ts⟩ := m
  cases rs with
  | nil => simp at h
  | cons r l => rfl
theorem zEq (day : Int) (m : Sh.Market) : (firstM day m).rooms.length = m.rooms.length := by
  obtain ⟨rs, ss, ts⟩ := m
  cases rs <;> rfl
theorem firstE_all {α : Type} {err : List α → α → Int} : ∀ (l b : List α) (i : Int), (∀ k (h : k < l.length), err (b ++ l.take k) l[k] = 0) → Sh.firstE err b i l = (0,0)
  | [], _,_, _ => rfl
  | x :: l, b, i, h => by
    have h0 := h 0 (by simp)
    simp only [List.take_zero, List.append_nil, List.getElem_cons_zero] at h0
    rw [Sh.firstE, if_pos h0]
    refine firstE_all l (b ++ [x]) (i + 1) fun k hk => ?_
    have := h (k + 1) (by simpa using hk)
    simpa using this
theorem failE_all {α : Type} {err : List α → α → Int} {most : Int} {l : List α} (hl : (l.length : Int) ≤ most) (h : ∀ k (h : k < l.length), err (l.take k) l[k] = 0) : Sh.failE err most l = (0,0) := by
  rw [Sh.failE, if_neg (by omega)]
  exact firstE_all l [] 0 (by simpa using h)
theorem roomE_on {b : List Sh.Room} {r : Sh.Room} {day : Int} (hd : 0 ≤ day ∧ day ≤ 9) (h : Sh.roomE b r = 0) : Sh.roomE b (onD day r) = 0 := by
  have h2 := Sh.roomE_zero h
  unfold Sh.roomE at h ⊢
  show (if Sh.nameE (b.map (·.name)) r.name ≠ 0 then Sh.nameE (b.map (·.name)) r.name else Sh.roomOwn (onD day r)) = 0
  split at h
  · rename_i h3; exact absurd h h3
  · rename_i h3
    rw [if_neg h3]
    unfold Sh.roomOwn out onD
    dsimp only
    rw [if_neg (by simp only [Bool.or_eq_true, decide_eq_true_eq]; omega), if_neg (by simp only [Bool.or_eq_true, decide_eq_true_eq]; omega)]
theorem roomE_names {b b' : List Sh.Room} (h : b.map (·.name) = b'.map (·.name)) (r : Sh.Room) : Sh.roomE b r = Sh.roomE b' r := by unfold Sh.roomE; rw [h]
theorem first_check {day : Int} {m : Sh.Market} (hd : 0 ≤ day ∧ day ≤ 9) (h : (Sh.check m).2.2 = 0) : (Sh.check (firstM day m)).2.2 = 0 := by
  obtain ⟨h1, h2, h3⟩ := Sh.check_parts h
  have h4 := Sh.failE_zero h1
  have e1 : Sh.failE Sh.roomE 3 (firstM day m).rooms = (0,0) := by
    obtain ⟨rs, ss, ts⟩ := m
    cases rs with
    | nil => exact failE_all (by simp [firstM]) (by intro k hk; simp [firstM] at hk)
    | cons r l =>
      refine failE_all (by simpa [firstM] using h4.1) fun k hk => ?_
      match k with
      | 0 => exact roomE_on hd (h4.2 0 (by simp))
      | k + 1 =>
        have h5 := h4.2 (k + 1) (by simpa [firstM] using hk)
        rw [roomE_names (b' := (r :: l).take (k + 1)) (by simp [firstM, onD])]
        simpa [firstM] using h5
  have e2 : Sh.trainE (firstM day m) = Sh.trainE m := by
    funext b t; unfold Sh.trainE; rw [zEq]; rfl
  unfold Sh.check
  rw [e1, if_neg (by simp), e2]
  show (if (Sh.failE Sh.shopE 4 m.shops).2 ≠ 0 then (2, Sh.failE Sh.shopE 4 m.shops) else if (Sh.failE (Sh.trainE m) 6 m.trains).2 ≠ 0 then (3, Sh.failE (Sh.trainE m) 6 m.trains) else (0,0,0) : Int × Int × Int).2.2 = 0
  rw [if_neg (by rw [h2]; simp), if_neg (by rw [h3]; simp)]
theorem zGs {m : Sh.Market} : ∀ {i : Nat} {z : Int}, z ∈ Sh.goesTo m i → ∃ k t, z = ((k : Nat) : Int) ∧ k < i ∧ m.trains[k]? = some t ∧ Sh.leaves m t = true
  | 0, z, h => by simp [Sh.goesTo] at h
  | i + 1, z, h => by
    unfold Sh.goesTo at h
    split at h
    · rename_i t ht
      split at h
      · rename_i hl
        rcases List.mem_append.1 h with h2 | h2
        · obtain ⟨k, t, h3, h4, h5⟩ := zGs h2
          exact ⟨k, t, h3, by omega, h5⟩
        · exact ⟨i, t, List.mem_singleton.1 h2, by omega, ht, hl⟩
      · obtain ⟨k, t, h3, h4, h5⟩ := zGs h
        exact ⟨k, t, h3, by omega, h5⟩
    · obtain ⟨k, t, h3, h4, h5⟩ := zGs h
      exact ⟨k, t, h3, by omega, h5⟩
theorem rising_snoc {n z : Int} (hz : z < n) : ∀ (l : List Int) (p : Int), p < z → (∀ x ∈ l, x < z) → Sh.rising n p l = true → Sh.rising n p (l ++ [z]) = true
  | [], p, hp, _, _ => by simp [Sh.rising]; omega
  | x :: l, p, hp, h, hr => by
    rw [Sh.rising, Bool.and_eq_true] at hr
    rw [List.cons_append, Sh.rising, hr.1, Bool.true_and]
    exact rising_snoc hz l x (h x (.head _)) (fun y hy => h y (.tail _ hy)) hr.2
theorem goes_rising {m : Sh.Market} {n : Int} : ∀ i : Nat, (i : Int) ≤ n → Sh.rising n (-1) (Sh.goesTo m i) = true
  | 0, _ => rfl
  | i + 1, hi => by
    have ih := goes_rising (m := m) (n := n) i (by omega)
    unfold Sh.goesTo
    split
    · split
      · refine rising_snoc (n := n) (z := (i : Int)) (by omega) _ (-1) (by omega) (fun x hx => ?_) ih
        obtain ⟨k, t, h3, h4, h5⟩ := zGs hx
        omega
      · exact ih
    · exact ih
theorem next_7 {x : List Int} {t : Sh.Train} {n : Int} (hl : x.length = 8) (hr : t.room.toNat < 3) (hs : t.shop.toNat < 4) : (Sh.nextX x t n).length = 8 ∧ (Sh.nextX x t n).getD 7 0 = x.getD 7 0 + 1 := by
  refine ⟨by simp [Sh.nextX, Sh.nx2_len, hl], ?_⟩
  unfold Sh.nextX Sh.nx2
  rw [Sh.getD_other (by omega), Sh.getD_other (by omega)]
  unfold Sh.nx1
  simp [List.getD, List.getElem?_set, hl]
theorem loads_leave {m : Sh.Market} (hok : m.Ok) {sub : Nat} : ∀ (rem d : Nat) (x : List Int), x.length = 8 → x.getD 7 0 = (d : Int) → ∀ l ∈ Sh.loadsX m sub rem x, ∀ k, l.getD k 0 ≠ 0 → ∃ t, m.trains[d + k]? = some t ∧ Sh.leaves m t = true
  | 0, d, x, _,_, l, hl, k, hk => by
    rw [Sh.loadsX, List.mem_singleton] at hl
    subst hl; simp at hk
  | rem + 1, d, x, h8, h7, l, hl, k, hk => by
    rw [Sh.loadsX, h7] at hl
    have e : ((d : Int)).toNat = d := by omega
    rw [e] at hl
    cases ht : m.trains[d]? with
    | none => rw [ht] at hl; simp at hl
    | some t =>
      rw [ht] at hl
      simp only [List.mem_flatMap, List.mem_range] at hl
      obtain ⟨n, hn, h2⟩ := hl
      have hd : d < m.trains.length := by
        refine Nat.lt_of_not_le fun h => ?_
        rw [List.getElem?_eq_none h] at ht; cases ht
      have htm : t ∈ m.trains := List.mem_of_getElem? ht
      have htr := hok.train t htm
      have hlr := hok.lr
      have hls := hok.ls
      have hx := next_7 (x := x) (t := t) (n := (n : Int)) h8 (by omega) (by omega)
      split at h2
      · obtain ⟨q, hq, rfl⟩ := List.mem_map.1 h2
        match k with
        | 0 =>
          refine ⟨t, by simpa using ht, Bool.of_not_eq_false fun hf => ?_⟩
          rw [Sh.mostX_no (.inl hf)] at hn
          have : n = 0 := by omega
          subst this
          simp at hk
        | k + 1 =>
          obtain ⟨t2, h3, h4⟩ := loads_leave hok rem (d + 1) _ hx.1 (by rw [hx.2, h7]; push_cast; rfl) q hq k (by simpa using hk)
          exact ⟨t2, by rw [show d + (k + 1) = d + 1 + k by omega]; exact h3, h4⟩
      · simp at h2
theorem give_leave {m : Sh.Market} (hok : m.Ok) {k : Nat} (hk : (Sh.giveL m).getD k 0 ≠ 0) : ∃ t, m.trains[k]? = some t ∧ Sh.leaves m t = true := by
  rcases Nat.eq_zero_or_pos (Sh.allLoads m).length with h | h
  · rw [Sh.giveL_nil h] at hk
    rw [List.getD_eq_getElem?_getD, List.getElem?_replicate] at hk
    split at hk <;> simp at hk
  · rw [Sh.giveL_cons h] at hk
    have h2 := List.getElem_mem h
    obtain ⟨q, hq, e⟩ := List.mem_map.1 h2
    rw [← e] at hk
    have h3 : q.getD k 0 ≠ 0 := by
      intro h4
      apply hk
      rw [List.getD_eq_getElem?_getD, List.getElem?_take]
      split
      · unfold Sh.pad6
        rw [List.getElem?_append]
        split
        · rw [List.getD_eq_getElem?_getD] at h4; exact h4
        · rw [List.getElem?_replicate]; split <;> rfl
      · rfl
    have := loads_leave hok m.trains.length 0 _ (Sh.allX_len m false) (by rw [Sh.allX_at7 m hok.lr hok.ls]; rfl) q hq k h3
    simpa using this
theorem leaves_day {m : Sh.Market} {day : Int} {t : Sh.Train} (hr : 0 < m.rooms.length) (h0 : t.room = 0) (hs : t.shop.toNat < m.shops.length) (h : Sh.leaves (firstM day m) t = true) : m.shops[t.shop.toNat].day - t.days = day := by
  rw [Sh.leaves_at (m := firstM day m) (by rw [h0, zEq]; exact hr) hs] at h
  have e : (firstM day m).rooms[t.room.toNat]'(by rw [h0, zEq]; exact hr) = onD day m.rooms[0] := by
    simp [first_set hr, h0]
  rw [e] at h
  unfold out onD at h
  simp only [Bool.not_eq_true', Bool.or_eq_false_iff, decide_eq_false_iff_not] at h
  have h2 := h.1
  have h3 := h.2
  show m.shops[t.shop.toNat].day - t.days = day
  have e2 : (firstM day m).shops = m.shops := rfl
  simp only [e2] at h2 h3
  omega
structure NumF (m : Sh.Market) (day : Int) : Prop where
  gp : Sh.giveP (firstM day m) = (Sh.giveL (firstM day m), 0)
  op : Sh.goesP (firstM day m) = (Sh.goesTo (firstM day m) m.trains.length, 0)
  gl : (Sh.giveL (firstM day m)).length = m.trains.length
  ri : Sh.rising (m.trains.length : Int) (-1) (Sh.goesTo (firstM day m) m.trains.length) = true
  gv : ∀ k (hk : k < m.trains.length) (hs : m.trains[k].shop.toNat < m.shops.length), m.trains[k].room = 0 → (0 < (Sh.giveL (firstM day m)).getD k 0 ∨ hasI (Sh.goesTo (firstM day m) m.trains.length) (k : Int) = true) → m.shops[m.trains[k].shop.toNat].day - m.trains[k].days = day
theorem num_facts {m : Sh.Market} {day : Int} (hd : 0 ≤ day ∧ day ≤ 9) (h : (Sh.check m).2.2 = 0) (hr : 0 < m.rooms.length) : NumF m day := by
  have hc := first_check hd h
  have hok := Sh.check_ok hc
  have et : (firstM day m).trains = m.trains := rfl
  refine ⟨by unfold Sh.giveP; rw [if_neg (by rw [hc]; simp)], by unfold Sh.goesP; rw [if_neg (by rw [hc]; simp)]; rfl, Sh.giveL_len hok, goes_rising _ (by omega), fun k hk hs h0 h2 => ?_⟩
  refine leaves_day hr h0 hs ?_
  rcases h2 with h2 | h2
  · obtain ⟨t, h3, h4⟩ := give_leave hok (show (Sh.giveL (firstM day m)).getD k 0 ≠ 0 by omega)
    rw [et, List.getElem?_eq_getElem hk] at h3
    rw [Option.some.inj h3]; exact h4
  · obtain ⟨j, t, h5, _, h3, h4⟩ := zGs (hasI_mem.1 h2)
    have : j = k := by omega
    subst this
    rw [et, List.getElem?_eq_getElem hk] at h3
    rw [Option.some.inj h3]; exact h4
theorem plan_gives {r : Ro.Room} (hr : r.Ok) {day want : Int} (hd : (r.ran.length : Int) ≤ day ∧ day ≤ r.days) {q : Ro.Plan} (h : Ro.planO r day want = some q) : ((q.l.length : Int) ≤ r.days - r.ran.length) ∧ (∀ z ∈ q.l, 0 ≤ z ∧ z < r.sets.length) ∧ Ro.become r q.l = (want, want) := by
  obtain ⟨hp, hl, hg⟩ := Ro.first_pok hr.ls.2 _ h
  refine ⟨by omega, hp.inn, ?_⟩
  unfold Ro.become
  rw [Ro.go_sum _ _ hp.inn _ hp.cnt]
  unfold Ro.gives at hg
  exact of_decide_eq_true hg
end Go.Rt.Tn
set_option maxRecDepth 20000
namespace Go.Proofs.Tn
open Go.Proofs.Tryz
open Go.Rt Go.Rt.Tn
attribute [local irreducible] WL WC Con Yd At Ats Sl Agree DW

theorem bi2 {a b : Bool} {c d : Int} (h : a = b) (k : c = d) : [Value.bool a, Value.int .i64 c] = [Value.bool b, Value.int .i64 d] := by rw [h, k]
theorem c14 {w0 w : World} {F : List (Nat × Obj)} (al : Option Addr) (cl : Nat) (l : List Int) (hll : l.length ≤ 1000000) (hl : Sl w0 F al 1 (l.map fun x => [Value.int .i64 x])) (z : Int) (hs : St w0 w F) :
  Con Tryz.prog 14 [.slice al l.length cl, .int .i64 z] w fun v w' => v = .bool (hasI l z) ∧ St w0 w' F := by
  refine zAo (n := 23) func14 rfl rfl (zNl rfl) ?_
  refine zAf (fun K2 g7 => (zAa (zA9 rfl rfl (zAe (zAb (g7 _ _ (zAf (fun K4 g8 => (zAa (zA9 rfl rfl (zAe (zAb (g8 _ _ (zAf (fun K6 g9 => (zAf (fun K8 ga => (zAa (zA9 rfl rfl ?_)))))))))))))))))))
  refine zAe (zAb (ga _ _ (zAw ?_)))
  refine zB2 [5,6,7,8,9,10,11,12,13,14,15,16,17,18,19,20,21] [5,6] (fun k vs w => ∃ i : Nat, vs = [.bool (hasI (l.take i) z), .int .i64 i] ∧ i ≤ l.length ∧ k = l.length - i ∧ St w0 w F) (l.length) ?_ ?_
  ·
   exact ⟨0, rfl, by omega, by omega, hs⟩
  intro k vs μ ge hI gf g5
  obtain ⟨i, rfl, hia, rfl, hs⟩ := hI
  generalize hb : hasI (l.take i) z = b
  refine zAf (fun gg gb => (zAf (fun gh gc => (zAa (zA2 rfl rfl (w_p (zAx rfl rfl) rfl (w_p (zBd underlying30 rfl rfl) rfl (w_p (zCb rfl rfl rfl rfl) rfl (zAe (zAb (gc _ _ (zAv rfl rfl (fun g3 => ?_) (fun g3 => ?_)))))))))))))
  ·
   try simp only [zS] at g3
   refine zAr (zAb (gb _ _ (zAf (fun gi g6 => (zAw ?_)))))
   have hi2 : i < l.length := by omega
   obtain ⟨bx, ox, hbx, hx⟩ := zCy hl hi2
   subst hbx
   refine zAa (w_p (zAn rfl rfl) rfl (w_p (zAn rfl rfl) rfl (zBk (fun g4 => ?_) (fun g4 => ?_))))
   ·
    subst g4
    refine zAg rfl rfl rfl ?_
    refine zAg rfl rfl rfl ?_
    refine zAg rfl rfl rfl ?_
    refine zAg rfl rfl rfl ?_
    refine zAg rfl rfl rfl ?_
    refine zAg rfl rfl rfl ?_
    refine w_p (zAt (v := _) rfl rfl rfl rfl) rfl (w_p (zAl rfl rfl) rfl (zAe (zAk (zAb (g6 _ _ (zAa (zA2 rfl rfl (w_p (zBe rfl rfl rfl rfl (by omega) (by omega)) rfl ?_))))))))
    refine zBg rfl rfl (zAe (zAb (g5 _ _ (nxI (l.length - (i + 1)) (by omega) ?_))))
    first
      | exact ⟨i + 1, bi2 (by rw [zGr hi2, hb]; simp) rfl, by omega, rfl, hs⟩
      | exact ⟨i + 1, bi2 (by rw [zGr hi2, hb]; rfl) rfl, by omega, rfl, hs⟩
   subst g4
   refine w_y rfl rfl rfl (zAx rfl rfl) rfl ?_
   refine w_y rfl rfl rfl (zAu rfl rfl) rfl ?_
   refine w_y rfl rfl rfl (zA7 underlying30 sizeOf3 rfl rfl rfl rfl (i := _) rfl (by omega)) rfl ?_
   refine w_y rfl rfl rfl (zAi isAgg3 hs rfl rfl hx) rfl ?_
   refine w_y rfl rfl rfl (zAu rfl rfl) rfl ?_
   refine w_y rfl rfl rfl (zCk rfl rfl rfl rfl) rfl ?_
   refine w_p (zBb (v := .bool _) rfl rfl rfl rfl) rfl (w_p (zAl rfl rfl) rfl (zAe (zAk (zAb (g6 _ _ (zAa (zA2 rfl rfl (w_p (zBe rfl rfl rfl rfl (by omega) (by omega)) rfl ?_))))))))
   refine zBg rfl rfl (zAe (zAb (g5 _ _ (nxI (l.length - (i + 1)) (by omega) ?_))))
   first
     | exact ⟨i + 1, bi2 (by rw [zGr hi2, hb]; simp) rfl, by omega, rfl, hs⟩
     | exact ⟨i + 1, bi2 (by rw [zGr hi2, hb]; rfl) rfl, by omega, rfl, hs⟩
  try simp only [zS] at g3
  refine zBr (zAj (zAj (zAy (zAb (g9 _ _ (zAf (fun gj gd => (zAa (w_p (zAn rfl rfl) rfl (w_p (zAl rfl rfl) rfl ?_))))))))))
  refine zAe (zAb (gd _ _ (zA0 (zA1 (l := [.tmp 4]) (vs := [_]) rfl ⟨⟨rfl, (rfl : _ = Value.bool _)⟩, trivial⟩ ?_))))
  exact ⟨congrArg Value.bool (by have hil : i = l.length := (by omega); subst hil; rw [List.take_length] at hb; exact hb.symm), hs⟩

theorem c13 {w0 w : World} {F : List (Nat × Obj)} (al : Option Addr) (cl : Nat) (l : List Int) (hll : l.length ≤ 1000000) (hl : Sl w0 F al 1 (l.map fun x => [Value.int .i64 x])) (n : Int) (hs : St w0 w F) :
  Con Tryz.prog 13 [.slice al l.length cl, .int .i64 n] w fun v w' => v = .bool (Sh.rising n (-1) l) ∧ St w0 w' F := by
  refine zAo (n := 31) func13 rfl rfl (zNl rfl) ?_
  refine zAf (fun K2 g7 => (zAa (zA9 rfl rfl (zAe (zAb (g7 _ _ (zAf (fun K4 g8 => (zAa (zA9 rfl rfl (zAe (zAb (g8 _ _ (zAf (fun K6 g9 => (zAf (fun K8 ga => (zAa (zA9 rfl rfl ?_)))))))))))))))))))
  refine zAe (zAb (ga _ _ (zAw ?_)))
  refine zB2 [4,5,6,7,8,9,10,11,12,13,14,15,16,17,18,19,20,21,22,23,24,25,26,27,28,29,30] [5,6] (fun k vs w => ∃ (i : Nat) (p : Int), vs = [.int .i64 p, .int .i64 i] ∧ i ≤ l.length ∧ k = l.length - i ∧ Sh.rising n (-1) l = Sh.rising n p (l.drop i) ∧ St w0 w F) (l.length) ?_ ?_
  ·
   exact ⟨0, -1, rfl, by omega, by omega, rfl, hs⟩
  intro k vs μ gj hI gk gb
  obtain ⟨i, p, rfl, hia, rfl, hri, hs⟩ := hI
  refine zAf (fun gm gc => (zAf (fun gn gd => (zAa (zA2 rfl rfl (w_p (zAx rfl rfl) rfl (w_p (zBd underlying30 rfl rfl) rfl (w_p (zCb rfl rfl rfl rfl) rfl (zAe (zAb (gd _ _ (zAv rfl rfl (fun g3 => ?_) (fun g3 => ?_)))))))))))))
  ·
   try simp only [zS] at g3
   refine zAr (zAb (gc _ _ (zAf (fun gq ge => (zAw ?_)))))
   refine zAf (fun gr gf => (zAf (fun gt g6 => ?_)))
   have hi2 : i < l.length := by omega
   obtain ⟨bx, ox, hbx, hx⟩ := zCy hl hi2
   subst hbx
   refine zAa (w_p (zAx rfl rfl) rfl (zA2 rfl rfl (w_p (zA7 underlying30 sizeOf3 rfl rfl rfl rfl (i := _) rfl (by omega)) rfl (w_p (zAi isAgg3 hs rfl rfl hx) rfl (zA2 rfl rfl (w_p (y_leq rfl rfl rfl rfl) rfl ?_))))))
   refine w_p (zAn rfl rfl) rfl (zBk (fun g4 => ?_) (fun g4 => ?_))
   ·
    try simp only [zS] at g4
    refine zAg rfl rfl rfl ?_
    refine zAg rfl rfl rfl ?_
    refine zAg rfl rfl rfl ?_
    refine zAg rfl rfl rfl ?_
    refine zAg rfl rfl rfl ?_
    refine zAg rfl rfl rfl ?_
    refine w_p (zAt (v := _) rfl rfl rfl rfl) rfl (zAe (zAb (g6 _ _ (zBz rfl rfl ?_))))
    refine zAf (fun gu gg => (zAa (zA9 rfl rfl (zAe (zAb (gg _ _ (zA0 (zAh (zAz (zAh (zAh (zAz (zAh (zA1 (l := [.tmp 4]) (vs := [_]) rfl ⟨⟨rfl, (rfl : _ = Value.bool _)⟩, trivial⟩ ?_))))))))))))))
    first
      | exact ⟨congrArg Value.bool (hri.trans (Sh.rising_end (by omega))).symm, hs⟩
      | exact ⟨congrArg Value.bool (hri.trans (Sh.rising_stop hi2 (by omega))).symm, hs⟩
   try simp only [zS] at g4
   refine w_y rfl rfl rfl (zAx rfl rfl) rfl ?_
   refine w_y rfl rfl rfl (zAu rfl rfl) rfl ?_
   refine w_y rfl rfl rfl (zA7 underlying30 sizeOf3 rfl rfl rfl rfl (i := _) rfl (by omega)) rfl ?_
   refine w_y rfl rfl rfl (zAi isAgg3 hs rfl rfl hx) rfl ?_
   refine w_y rfl rfl rfl (zAu rfl rfl) rfl ?_
   refine w_y rfl rfl rfl (zHv rfl rfl rfl rfl) rfl ?_
   refine w_p (zBb (v := .bool _) rfl rfl rfl rfl) rfl (zAe (zAb (g6 _ _ (zAv rfl rfl (fun g5 => ?_) (fun g5 => ?_)))))
   ·
    try simp only [zS] at g5
    refine zAf (fun gw gh => (zAa (zA9 rfl rfl (zAe (zAb (gh _ _ (zA0 (zAh (zAz (zAh (zAh (zAz (zAh (zA1 (l := [.tmp 4]) (vs := [_]) rfl ⟨⟨rfl, (rfl : _ = Value.bool _)⟩, trivial⟩ ?_))))))))))))))
    first
      | exact ⟨congrArg Value.bool (hri.trans (Sh.rising_end (by omega))).symm, hs⟩
      | exact ⟨congrArg Value.bool (hri.trans (Sh.rising_stop hi2 (by omega))).symm, hs⟩
   try simp only [zS] at g5
   refine zAr (zAb (gf _ _ (zAa (w_p (zAx rfl rfl) rfl (zA2 rfl rfl (w_p (zA7 underlying30 sizeOf3 rfl rfl rfl rfl (i := _) rfl (by omega)) rfl (w_p (zAi isAgg3 hs rfl rfl hx) rfl ?_)))))))
   refine zBg rfl rfl (zAe (zAk (zAb (ge _ _ (zAa (zA2 rfl rfl (w_p (zBe rfl rfl rfl rfl (by omega) (by omega)) rfl (zBg rfl rfl (zAe (zAb (gb _ _ (nxI (l.length - (i + 1)) (by omega) ?_))))))))))))
   exact ⟨i + 1, _, rfl, by omega, rfl, hri.trans (Sh.rising_step hi2 (by omega) (by omega)), hs⟩
  try simp only [zS] at g3
  refine zBr (zAj (zAj (zAy (zAb (g9 _ _ (zAf (fun gx gi => (zAa (zA9 rfl rfl (zAe (zAb (gi _ _ (zA0 (zA1 (l := [.tmp 4]) (vs := [_]) rfl ⟨⟨rfl, (rfl : _ = Value.bool _)⟩, trivial⟩ ?_))))))))))))))
  first
    | exact ⟨congrArg Value.bool (hri.trans (Sh.rising_end (by omega))).symm, hs⟩
    | exact ⟨congrArg Value.bool (hri.trans (Sh.rising_stop hi2 (by omega))).symm, hs⟩

end Go.Proofs.Tn
set_option maxRecDepth 20000
namespace Go.Proofs
open Go.Proofs.Tryz
open Go.Rt
attribute [local irreducible] WL WC Con Yd At Ats Sl Agree DW
theorem Try_B_fb0 (x0 : Int) (w : World) : (Instr.buildSlice 30 1 [(0, .int .i64 x0)].toArray).run Tryz.prog w = .ok (.slice (some ⟨w.heap.size, 0, none⟩) 1 1) (w.alloc (Go.Rt.blk 3 [.int .i64 x0])) := by kernel_rfl
theorem nmBytes_take (l : List UInt8) : ∀ (f : Bool) (i : Nat), nmBytes f l = true → nmBytes f (l.take i) = true := by
  induction l with
  | nil => intro f i h; simpa using h
  | cons x l ih =>
    intro f i h
    cases i with
    | zero => rfl
    | succ i =>
      simp only [nmBytes, Bool.and_eq_true] at h
      simp only [List.take_succ_cons, nmBytes, Bool.and_eq_true]
      exact ⟨h.1, ih _ i h.2⟩
theorem zFe (s : ByteArray) (i : Nat) (h : i < s.size) (hb : nmByte (decide (i = 0)) s[i] = false) : false = nmOk s := by
  symm
  unfold nmOk
  cases hn : nmBytes true s.data.toList with
  | false => simp
  | true =>
    have := nmBytes_take _ true (i + 1) hn
    rw [zEp s i h, hb] at this
    simp at this
theorem dec (s : ByteArray) (i : Nat) (h : i < s.size) : (s[i].toNat < 128 ∧ (Utf8.decode s i).1 = s[i].toNat ∧ (Utf8.decode s i).2 = 1) ∨ (128 ≤ s[i].toNat ∧ 128 ≤ (Utf8.decode s i).1 ∧ 1 ≤ (Utf8.decode s i).2) := by
  rcases Nat.lt_or_ge s[i].toNat 128 with hlt | hge
  · left; rw [decode_ascii s i h hlt]; exact ⟨hlt, rfl, rfl⟩
  · right; exact ⟨hge, decode_high s i h hge⟩
theorem c90 {w0 w : World} {F : List (Nat × Obj)} (s : ByteArray) (hls : s.size ≤ 9223372036854775807) (hs : St w0 w F) :
  Con Tryz.prog 90 [.string s] w fun v w' => v = .bool (nmOk s) ∧ St w0 w' F := by
  refine zAo (n := 41) func90 rfl rfl (zNl rfl) ?_
  refine zAf (fun K2 gk => (zAa (zA9 rfl rfl (zAe (zAb (gk _ _ (zAf (fun K4 gm => (zAf (fun K6 gn => (zAa (w_p (zBo (v := .string _) rfl rfl) rfl ?_))))))))))))
  refine w_rangeStr zAc underlying9 rfl rfl hs (fun b7 w8 gq => ?_)
  refine zAe (zAb (gn _ _ (zAw ?_)))
  refine zB2 [2,3,4,5,8,9,10,11,12,13,14,15,16,17,18,19,20,21,22,23,24,25,26,27,28,29,30,31,32,33,34,35] [] (fun k vs w => ∃ i : Nat, vs = [] ∧ i ≤ s.size ∧ k = s.size - i ∧ nmBytes true (s.data.toList.take i) = true ∧ St w0 w ((b7, .stringIter s i) :: F)) (s.size) ?_ ?_
  ·
   exact ⟨0, rfl, by omega, by omega, rfl, gq⟩
  intro k vs μ gD hI gE g4
  obtain ⟨i, rfl, hia, rfl, hpre, hs⟩ := hI
  refine zAf (fun gF gh => (zAa (w_nextStr (i := 0) zAc rfl rfl hs rfl (fun hp15 gG g3 => ?_) (fun hp15 => ?_))))
  ·
   refine w_p (zBf rfl rfl rfl) rfl (zAe (zAb (gh _ _ (zAf (fun gH gr => (zBz rfl rfl ?_))))))
   refine zAr (zAb (gr _ _ (zAw ?_)))
   refine zAf (fun gI gt => (zAa ?_))
   have hi2 : i < s.size := by omega
   have hd := dec s i hi2
   have hb2 := s[i].toNat_lt
   refine w_p (zAq rfl rfl rfl) rfl (w_p (zAq rfl rfl rfl) rfl (zBg rfl rfl (zBg rfl rfl (zAe (zAb (gt _ _ (zAf (fun gJ gi => (zAa (zA2 rfl rfl (w_p (zHv rfl rfl rfl rfl) rfl ?_)))))))))))
   refine w_p (zAn rfl rfl) rfl (zBk (fun g7 => ?_) (fun g7 => ?_))
   ·
    try simp only [zS] at g7
    refine w_y rfl rfl rfl (zAu rfl rfl) rfl ?_
    refine w_y rfl rfl rfl (y_leq rfl rfl rfl rfl) rfl ?_
    refine w_p (zAt (v := .bool _) rfl rfl rfl rfl) rfl (w_p (zAl rfl rfl) rfl (zAe (zAb (gi _ _ (zAf (fun gK g5 => (zAa (w_p (zAn rfl rfl) rfl ?_))))))))
    refine w_p (zC0 rfl rfl) rfl (w_p (zAn rfl rfl) rfl (zBk (fun g8 => ?_) (fun g8 => ?_)))
    ·
     try simp only [zS] at g8
     refine w_y rfl rfl rfl (zAu rfl rfl) rfl ?_
     refine w_y rfl rfl rfl (zCk rfl rfl rfl rfl) rfl ?_
     refine w_y rfl rfl rfl (zAn rfl rfl) rfl ?_
     refine zBk (fun g9 => ?_) (fun g9 => ?_)
     ·
      try simp only [zS] at g9
      refine zAg rfl rfl rfl ?_
      refine zAg rfl rfl rfl ?_
      refine zAg rfl rfl rfl ?_
      refine zBa rfl rfl rfl ?_
      refine zBa rfl rfl rfl ?_
      refine zBa rfl rfl rfl ?_
      refine zBa rfl rfl rfl ?_
      refine zBa rfl rfl rfl ?_
      refine zBa rfl rfl rfl ?_
      refine zAg rfl rfl rfl ?_
      refine w_y rfl rfl rfl (zAt (v := _) rfl rfl rfl rfl) rfl ?_
      refine w_p (zAt (v := .bool _) rfl rfl rfl rfl) rfl (zAe (zAb (g5 _ _ (zBz rfl rfl ?_))))
      refine zAf (fun gL gu => (zAa (zA9 rfl rfl (zAe (zAb (gu _ _ (zA0 (zAz (zAh (zAz (zAh (zA1 (l := [.tmp 2]) (vs := [_]) rfl ⟨⟨rfl, (rfl : _ = Value.bool _)⟩, trivial⟩ ?_))))))))))))
      first
        | exact ⟨congrArg Value.bool (zFe s i hi2 (by simp [nmByte]; omega)), g3.tail⟩
        | exact ⟨congrArg Value.bool (by have hil : i = s.size := (by omega); subst hil; rw [List.take_of_length_le (by simp)] at hpre; unfold nmOk; rw [hpre, Bool.eq_iff_iff]; simp [out] <;> omega), g3.tail.tail⟩
     try simp only [zS] at g9
     refine w_y rfl rfl rfl (zAu rfl rfl) rfl ?_
     refine w_y rfl rfl rfl (zCj rfl rfl rfl rfl) rfl ?_
     refine w_y rfl rfl rfl (zAn rfl rfl) rfl ?_
     refine zBk (fun ga => ?_) (fun ga => ?_)
     ·
      try simp only [zS] at ga
      refine w_y rfl rfl rfl (zAu rfl rfl) rfl ?_
      refine w_y rfl rfl rfl (zCb rfl rfl rfl rfl) rfl ?_
      refine w_y rfl rfl rfl (zAn rfl rfl) rfl ?_
      refine zBk (fun gb => ?_) (fun gb => ?_)
      ·
       try simp only [zS] at gb
       refine zAg rfl rfl rfl ?_
       refine zAg rfl rfl rfl ?_
       refine w_y rfl rfl rfl (zAt (v := _) rfl rfl rfl rfl) rfl ?_
       refine w_y rfl rfl rfl (zAt (v := .bool _) rfl rfl rfl rfl) rfl ?_
       refine w_y rfl rfl rfl (zBb (v := .bool _) rfl rfl rfl rfl) rfl ?_
       refine w_p (zAt (v := .bool _) rfl rfl rfl rfl) rfl (zAe (zAb (g5 _ _ (zBz rfl rfl ?_))))
       refine zAf (fun gM gw => (zAa (zA9 rfl rfl (zAe (zAb (gw _ _ (zA0 (zAz (zAh (zAz (zAh (zA1 (l := [.tmp 2]) (vs := [_]) rfl ⟨⟨rfl, (rfl : _ = Value.bool _)⟩, trivial⟩ ?_))))))))))))
       first
         | exact ⟨congrArg Value.bool (zFe s i hi2 (by simp [nmByte]; omega)), g3.tail⟩
         | exact ⟨congrArg Value.bool (by have hil : i = s.size := (by omega); subst hil; rw [List.take_of_length_le (by simp)] at hpre; unfold nmOk; rw [hpre, Bool.eq_iff_iff]; simp [out] <;> omega), g3.tail.tail⟩
      try simp only [zS] at gb
      refine w_y rfl rfl rfl (zAu rfl rfl) rfl ?_
      refine w_y rfl rfl rfl (zD5 rfl rfl rfl rfl) rfl ?_
      refine w_y rfl rfl rfl (zBb (v := .bool _) rfl rfl rfl rfl) rfl ?_
      refine w_y rfl rfl rfl (zAt (v := .bool _) rfl rfl rfl rfl) rfl ?_
      refine w_y rfl rfl rfl (zBb (v := .bool _) rfl rfl rfl rfl) rfl ?_
      refine w_p (zAt (v := .bool _) rfl rfl rfl rfl) rfl (zAe (zAb (g5 _ _ (zAv rfl rfl (fun gc => ?_) (fun gc => ?_)))))
      ·
       try simp only [zS] at gc
       refine zAf (fun gN gx => (zAa (zA9 rfl rfl (zAe (zAb (gx _ _ (zA0 (zAz (zAh (zAz (zAh (zA1 (l := [.tmp 2]) (vs := [_]) rfl ⟨⟨rfl, (rfl : _ = Value.bool _)⟩, trivial⟩ ?_))))))))))))
       first
         | exact ⟨congrArg Value.bool (zFe s i hi2 (by simp [nmByte]; omega)), g3.tail⟩
         | exact ⟨congrArg Value.bool (by have hil : i = s.size := (by omega); subst hil; rw [List.take_of_length_le (by simp)] at hpre; unfold nmOk; rw [hpre, Bool.eq_iff_iff]; simp [out] <;> omega), g3.tail.tail⟩
      try simp only [zS] at gc
      refine zAr (zAk (zAb (g4 _ _ (Nx.intro (s.size - (i + (Utf8.decode s i).2)) ((by omega)) (by repeat (first | exact zD4 | refine zD3 rfl ?_ | refine zD0 rfl ?_ _ | refine agree_mixin rfl ?_)) ?_))))
      have hd1 : s[i].toNat < 128 ∧ (Utf8.decode s i).1 = s[i].toNat ∧ (Utf8.decode s i).2 = 1 := (by rcases hd with h | h; exact h; (exfalso; first | omega | (simp only [Bool.or_eq_true, Bool.and_eq_true, decide_eq_true_eq, Bool.not_eq_true', decide_eq_false_iff_not] at *; omega)))
      have hn1 : nmByte (decide (i = 0)) s[i] = true := (by simp [nmByte]; omega)
      refine ⟨i + 1, rfl, by omega, by rw [hd1.2.2], ?_, by rw [← hd1.2.2]; exact g3⟩
      rw [zEp s i hi2, hpre, hn1]; rfl
     try simp only [zS] at ga
     refine zAg rfl rfl rfl ?_
     refine zAg rfl rfl rfl ?_
     refine zAg rfl rfl rfl ?_
     refine zBa rfl rfl rfl ?_
     refine zBa rfl rfl rfl ?_
     refine zAg rfl rfl rfl ?_
     refine w_y rfl rfl rfl (zBb (v := _) rfl rfl rfl rfl) rfl ?_
     refine w_y rfl rfl rfl (zBb (v := .bool _) rfl rfl rfl rfl) rfl ?_
     refine w_p (zAt (v := .bool _) rfl rfl rfl rfl) rfl (zAe (zAb (g5 _ _ (zBj rfl rfl ?_))))
     refine zAr (zAk (zAb (g4 _ _ (Nx.intro (s.size - (i + (Utf8.decode s i).2)) ((by omega)) (by repeat (first | exact zD4 | refine zD3 rfl ?_ | refine zD0 rfl ?_ _ | refine agree_mixin rfl ?_)) ?_))))
     have hd1 : s[i].toNat < 128 ∧ (Utf8.decode s i).1 = s[i].toNat ∧ (Utf8.decode s i).2 = 1 := (by rcases hd with h | h; exact h; (exfalso; first | omega | (simp only [Bool.or_eq_true, Bool.and_eq_true, decide_eq_true_eq, Bool.not_eq_true', decide_eq_false_iff_not] at *; omega)))
     have hn1 : nmByte (decide (i = 0)) s[i] = true := (by simp [nmByte]; omega)
     refine ⟨i + 1, rfl, by omega, by rw [hd1.2.2], ?_, by rw [← hd1.2.2]; exact g3⟩
     rw [zEp s i hi2, hpre, hn1]; rfl
    try simp only [zS] at g8
    refine zAg rfl rfl rfl ?_
    refine zAg rfl rfl rfl ?_
    refine zAg rfl rfl rfl ?_
    refine zBa rfl rfl rfl ?_
    refine zBa rfl rfl rfl ?_
    refine zBa rfl rfl rfl ?_
    refine zBa rfl rfl rfl ?_
    refine zBa rfl rfl rfl ?_
    refine zBa rfl rfl rfl ?_
    refine zBa rfl rfl rfl ?_
    refine zBa rfl rfl rfl ?_
    refine zBa rfl rfl rfl ?_
    refine zBa rfl rfl rfl ?_
    refine zAg rfl rfl rfl ?_
    refine w_p (zBb (v := _) rfl rfl rfl rfl) rfl (zAe (zAb (g5 _ _ (zBj rfl rfl ?_))))
    refine zAr (zAk (zAb (g4 _ _ (Nx.intro (s.size - (i + (Utf8.decode s i).2)) ((by omega)) (by repeat (first | exact zD4 | refine zD3 rfl ?_ | refine zD0 rfl ?_ _ | refine agree_mixin rfl ?_)) ?_))))
    have hd1 : s[i].toNat < 128 ∧ (Utf8.decode s i).1 = s[i].toNat ∧ (Utf8.decode s i).2 = 1 := (by rcases hd with h | h; exact h; (exfalso; first | omega | (simp only [Bool.or_eq_true, Bool.and_eq_true, decide_eq_true_eq, Bool.not_eq_true', decide_eq_false_iff_not] at *; omega)))
    have hn1 : nmByte (decide (i = 0)) s[i] = true := (by simp [nmByte]; omega)
    refine ⟨i + 1, rfl, by omega, by rw [hd1.2.2], ?_, by rw [← hd1.2.2]; exact g3⟩
    rw [zEp s i hi2, hpre, hn1]; rfl
   try simp only [zS] at g7
   refine zAg rfl rfl rfl ?_
   refine zAg rfl rfl rfl ?_
   refine w_p (zBb (v := _) rfl rfl rfl rfl) rfl (w_p (zAl rfl rfl) rfl (zAe (zAb (gi _ _ (zAf (fun gO g6 => (zAa (w_p (zAn rfl rfl) rfl ?_))))))))
   refine w_p (zC0 rfl rfl) rfl (w_p (zAn rfl rfl) rfl (w_y rfl rfl rfl (zAu rfl rfl) rfl (w_y rfl rfl rfl (zCk rfl rfl rfl rfl) rfl (w_y rfl rfl rfl (zAn rfl rfl) rfl (zBk (fun gd => ?_) (fun gd => ?_))))))
   ·
    try simp only [zS] at gd
    refine zAg rfl rfl rfl ?_
    refine zAg rfl rfl rfl ?_
    refine zAg rfl rfl rfl ?_
    refine zBa rfl rfl rfl ?_
    refine zBa rfl rfl rfl ?_
    refine zBa rfl rfl rfl ?_
    refine zBa rfl rfl rfl ?_
    refine zBa rfl rfl rfl ?_
    refine zBa rfl rfl rfl ?_
    refine zAg rfl rfl rfl ?_
    refine w_y rfl rfl rfl (zAt (v := _) rfl rfl rfl rfl) rfl ?_
    refine w_p (zAt (v := .bool _) rfl rfl rfl rfl) rfl (zAe (zAb (g6 _ _ (zBz rfl rfl ?_))))
    refine zAf (fun gP gy => (zAa (zA9 rfl rfl (zAe (zAb (gy _ _ (zA0 (zAz (zAh (zAz (zAh (zA1 (l := [.tmp 2]) (vs := [_]) rfl ⟨⟨rfl, (rfl : _ = Value.bool _)⟩, trivial⟩ ?_))))))))))))
    first
      | exact ⟨congrArg Value.bool (zFe s i hi2 (by simp [nmByte]; omega)), g3.tail⟩
      | exact ⟨congrArg Value.bool (by have hil : i = s.size := (by omega); subst hil; rw [List.take_of_length_le (by simp)] at hpre; unfold nmOk; rw [hpre, Bool.eq_iff_iff]; simp [out] <;> omega), g3.tail.tail⟩
   try simp only [zS] at gd
   refine w_y rfl rfl rfl (zAu rfl rfl) rfl ?_
   refine w_y rfl rfl rfl (zCj rfl rfl rfl rfl) rfl ?_
   refine w_y rfl rfl rfl (zAn rfl rfl) rfl ?_
   refine zBk (fun ge => ?_) (fun ge => ?_)
   ·
    try simp only [zS] at ge
    refine w_y rfl rfl rfl (zAu rfl rfl) rfl ?_
    refine w_y rfl rfl rfl (zCb rfl rfl rfl rfl) rfl ?_
    refine w_y rfl rfl rfl (zAn rfl rfl) rfl ?_
    refine zBk (fun gf => ?_) (fun gf => ?_)
    ·
     try simp only [zS] at gf
     refine zAg rfl rfl rfl ?_
     refine zAg rfl rfl rfl ?_
     refine w_y rfl rfl rfl (zAt (v := _) rfl rfl rfl rfl) rfl ?_
     refine w_y rfl rfl rfl (zAt (v := .bool _) rfl rfl rfl rfl) rfl ?_
     refine w_y rfl rfl rfl (zBb (v := .bool _) rfl rfl rfl rfl) rfl ?_
     refine w_p (zAt (v := .bool _) rfl rfl rfl rfl) rfl (zAe (zAb (g6 _ _ (zBz rfl rfl ?_))))
     refine zAf (fun gQ gz => (zAa (zA9 rfl rfl (zAe (zAb (gz _ _ (zA0 (zAz (zAh (zAz (zAh (zA1 (l := [.tmp 2]) (vs := [_]) rfl ⟨⟨rfl, (rfl : _ = Value.bool _)⟩, trivial⟩ ?_))))))))))))
     first
       | exact ⟨congrArg Value.bool (zFe s i hi2 (by simp [nmByte]; omega)), g3.tail⟩
       | exact ⟨congrArg Value.bool (by have hil : i = s.size := (by omega); subst hil; rw [List.take_of_length_le (by simp)] at hpre; unfold nmOk; rw [hpre, Bool.eq_iff_iff]; simp [out] <;> omega), g3.tail.tail⟩
    try simp only [zS] at gf
    refine w_y rfl rfl rfl (zAu rfl rfl) rfl ?_
    refine w_y rfl rfl rfl (zD5 rfl rfl rfl rfl) rfl ?_
    refine w_y rfl rfl rfl (zBb (v := .bool _) rfl rfl rfl rfl) rfl ?_
    refine w_y rfl rfl rfl (zAt (v := .bool _) rfl rfl rfl rfl) rfl ?_
    refine w_y rfl rfl rfl (zBb (v := .bool _) rfl rfl rfl rfl) rfl ?_
    refine w_p (zAt (v := .bool _) rfl rfl rfl rfl) rfl (zAe (zAb (g6 _ _ (zAv rfl rfl (fun gg => ?_) (fun gg => ?_)))))
    ·
     try simp only [zS] at gg
     refine zAf (fun gR gA => (zAa (zA9 rfl rfl (zAe (zAb (gA _ _ (zA0 (zAz (zAh (zAz (zAh (zA1 (l := [.tmp 2]) (vs := [_]) rfl ⟨⟨rfl, (rfl : _ = Value.bool _)⟩, trivial⟩ ?_))))))))))))
     first
       | exact ⟨congrArg Value.bool (zFe s i hi2 (by simp [nmByte]; omega)), g3.tail⟩
       | exact ⟨congrArg Value.bool (by have hil : i = s.size := (by omega); subst hil; rw [List.take_of_length_le (by simp)] at hpre; unfold nmOk; rw [hpre, Bool.eq_iff_iff]; simp [out] <;> omega), g3.tail.tail⟩
    try simp only [zS] at gg
    refine zAr (zAk (zAb (g4 _ _ (Nx.intro (s.size - (i + (Utf8.decode s i).2)) ((by omega)) (by repeat (first | exact zD4 | refine zD3 rfl ?_ | refine zD0 rfl ?_ _ | refine agree_mixin rfl ?_)) ?_))))
    have hd1 : s[i].toNat < 128 ∧ (Utf8.decode s i).1 = s[i].toNat ∧ (Utf8.decode s i).2 = 1 := (by rcases hd with h | h; exact h; (exfalso; first | omega | (simp only [Bool.or_eq_true, Bool.and_eq_true, decide_eq_true_eq, Bool.not_eq_true', decide_eq_false_iff_not] at *; omega)))
    have hn1 : nmByte (decide (i = 0)) s[i] = true := (by simp [nmByte]; omega)
    refine ⟨i + 1, rfl, by omega, by rw [hd1.2.2], ?_, by rw [← hd1.2.2]; exact g3⟩
    rw [zEp s i hi2, hpre, hn1]; rfl
   try simp only [zS] at ge
   refine zAg rfl rfl rfl ?_
   refine zAg rfl rfl rfl ?_
   refine zAg rfl rfl rfl ?_
   refine zBa rfl rfl rfl ?_
   refine zBa rfl rfl rfl ?_
   refine zAg rfl rfl rfl ?_
   refine w_y rfl rfl rfl (zBb (v := _) rfl rfl rfl rfl) rfl ?_
   refine w_y rfl rfl rfl (zBb (v := .bool _) rfl rfl rfl rfl) rfl ?_
   refine w_p (zAt (v := .bool _) rfl rfl rfl rfl) rfl (zAe (zAb (g6 _ _ (zBj rfl rfl ?_))))
   refine zAr (zAk (zAb (g4 _ _ (Nx.intro (s.size - (i + (Utf8.decode s i).2)) ((by omega)) (by repeat (first | exact zD4 | refine zD3 rfl ?_ | refine zD0 rfl ?_ _ | refine agree_mixin rfl ?_)) ?_))))
   have hd1 : s[i].toNat < 128 ∧ (Utf8.decode s i).1 = s[i].toNat ∧ (Utf8.decode s i).2 = 1 := (by rcases hd with h | h; exact h; (exfalso; first | omega | (simp only [Bool.or_eq_true, Bool.and_eq_true, decide_eq_true_eq, Bool.not_eq_true', decide_eq_false_iff_not] at *; omega)))
   have hn1 : nmByte (decide (i = 0)) s[i] = true := (by simp [nmByte]; omega)
   refine ⟨i + 1, rfl, by omega, by rw [hd1.2.2], ?_, by rw [← hd1.2.2]; exact g3⟩
   rw [zEp s i hi2, hpre, hn1]; rfl
  refine w_p (zBf rfl rfl rfl) rfl (zAe (zAb (gh _ _ (zAf (fun gS gT => (zBj rfl rfl ?_))))))
  refine zBr (zAj (zAj (zAy (zAb (gm _ _ (zAf (fun gU gB => (zAa (w_p (zBo (v := .string _) rfl rfl) rfl (w_p (y_lenStr underlying9 rfl rfl) rfl ?_))))))))))
  refine zBc (ps := [(0, _)]) (pv := [(0, .int _ _)]) (cs := [_]) zAc rfl rfl (fun w => Try_B_fb0 _ w) hs (fun gV gW gC => ?_)
  refine zCi zAc call115 rfl rfl rfl rfl (c115 _ _ _ [_] _ (by simp) (zBx (i := 0) (rows := [[_]]) rfl (by simp) rfl) gC) (fun gX gj => ?_)
  refine w_p (zC0 rfl rfl) rfl (w_p (zAl rfl rfl) rfl (zAe (zAb (gB _ _ (zA0 (zA1 (l := [.tmp 2]) (vs := [_]) rfl ⟨⟨rfl, (rfl : _ = Value.bool _)⟩, trivial⟩ ?_))))))
  first
    | exact ⟨congrArg Value.bool (zFe s i hi2 (by simp [nmByte]; omega)), gj.tail⟩
    | exact ⟨congrArg Value.bool (by have hil : i = s.size := (by omega); subst hil; rw [List.take_of_length_le (by simp)] at hpre; unfold nmOk; rw [hpre, Bool.eq_iff_iff]; simp [out] <;> omega), gj.tail.tail⟩

end Go.Proofs
/- The walking engine, part 12: ranges over functions that keep something of their own. No conditions. -/
namespace Go.Rt
open Go.RowKit
variable {r : Option Nat} {P : Program} {ops : Array Oper} {Q : Exit → Act → World → Prop} {rest : List Oper} {n : Nat} {ρ : Nat → Value} {ds : List Deferred} {w w0 : World} {L : List (Nat × Obj)}
def IterC (P : Program) (k : FuncId) (first captured : List Value) (xs : List Value) (w0 : World) (F : List (Nat × Obj)) (C : (Nat → List (Nat × Obj) → Prop) → (List (Nat × Obj) → Prop) → Prop) : Prop :=
  ∀ (J : Nat → List (Nat × Obj) → Prop) (Js : List (Nat × Obj) → Prop), C J Js → ∀ (yv : Value) (B X : List (Nat × Obj)) (w : World), (∃ f a b, yv = .func f a b) →
    (∀ i (hi : i < xs.length) B X w, J i B → St w0 w (X ++ (B ++ F)) → FCon P yv [xs[i]] w fun v w' => ∃ B', St w0 w' (X ++ (B' ++ F)) ∧ (v = .bool true ∧ J (i + 1) B' ∨ v = .bool false ∧ Js B')) →
    J 0 B → St w0 w (X ++ (B ++ F)) →
    Con P k (first ++ ([yv] ++ captured)) w fun _ w' => ∃ B', St w0 w' (X ++ (B' ++ F)) ∧ (J xs.length B' ∨ Js B')
def ClsM (K : List (Nat × Obj) → Prop) (J : Nat → List (Nat × Obj) → Prop) (Js : List (Nat × Obj) → Prop) : Prop :=
  ∃ (J0 : Nat → List (Nat × Obj) → Prop) (Js0 : List (Nat × Obj) → Prop), (∀ i Bx, J i Bx ↔ ∃ B M, Bx = B ++ M ∧ K M ∧ J0 i B) ∧ ∀ Bx, Js Bx ↔ ∃ B M, Bx = B ++ M ∧ K M ∧ Js0 B
theorem clsM_range {K : List (Nat × Obj) → Prop} {J : Nat → List (Nat × Obj) → Prop} {Js : Code → List (Nat × Obj) → Prop} (J0 : Nat → List (Nat × Obj) → Prop) (Js0 : Code → List (Nat × Obj) → Prop) (h1 : ∀ i Bx, J i Bx ↔ ∃ B M, Bx = B ++ M ∧ K M ∧ J0 i B) (h2 : ∀ c Bx, Js c Bx ↔ ∃ B M, Bx = B ++ M ∧ K M ∧ Js0 c B) (a b : Nat × Obj) (cc : Code → Nat × Obj) :
    ClsM K (fun i Bx => ∃ B, Bx = a :: b :: B ∧ J i B) (fun Bx => ∃ B c, Bx = cc c :: b :: B ∧ Js c B) := by
  refine ⟨fun i B => ∃ B0, B = a :: b :: B0 ∧ J0 i B0, fun B => ∃ B0 c, B = cc c :: b :: B0 ∧ Js0 c B0, fun i Bx => ⟨?_, ?_⟩, fun Bx => ⟨?_, ?_⟩⟩
  · rintro ⟨B, rfl, hJ⟩
    obtain ⟨B0, M, rfl, hK, h⟩ := (h1 i B).1 hJ
    exact ⟨a :: b :: B0, M, rfl, hK, B0, rfl, h⟩
  · rintro ⟨B, M, rfl, hK, B0, rfl, h⟩
    exact ⟨B0 ++ M, rfl, (h1 i _).2 ⟨B0, M, rfl, hK, h⟩⟩
  · rintro ⟨B, c, rfl, hJ⟩
    obtain ⟨B0, M, rfl, hK, h⟩ := (h2 c B).1 hJ
    exact ⟨cc c :: b :: B0, M, rfl, hK, B0, c, rfl, h⟩
  · rintro ⟨B, M, rfl, hK, B0, c, rfl, h⟩
    exact ⟨B0 ++ M, c, rfl, (h2 c _).2 ⟨B0, M, rfl, hK, h⟩⟩
theorem st_in {P X B R : List (Nat × Obj)} (h : St w0 w (P ++ (X ++ (B ++ R)))) : St w0 w ((P ++ (X ++ B)) ++ R) := by simpa only [List.append_assoc] using h
theorem st_out {P X B R : List (Nat × Obj)} (h : St w0 w ((P ++ (X ++ B)) ++ R)) : St w0 w (P ++ (X ++ (B ++ R))) := by simpa only [List.append_assoc] using h
theorem w_rangeC {C : (Nat → List (Nat × Obj) → Prop) → (List (Nat × Obj) → Prop) → Prop} {g : Operand} {pt : Nat} {assign body : Code} {k : FuncId} {first captured : Array Value} {xs : List Value} {F : List (Nat × Obj)} (B : List (Nat × Obj)) (J : Nat → List (Nat × Obj) → Prop) (Js : Code → List (Nat × Obj) → Prop)
    (hog : okO n g = true) (hg : ev ρ g = .func (.func k) first captured) (hpt : Nat.blt pt n = true) (hC : CF P k) (hit : IterC P k first.toList captured.toList xs w0 F C) (hcls : ∀ (a b : Nat × Obj) (cc : Code → Nat × Obj), C (fun i Bx => ∃ B, Bx = a :: b :: B ∧ J i B) (fun Bx => ∃ B c, Bx = cc c :: b :: B ∧ Js c B)) (hst : St w0 w L) (hperm : L.Perm (B ++ F)) (h0 : J 0 B)
    (round : ∀ l i (hi : i < xs.length) B X X' w, J i B → St w0 w (B ++ (X ++ F)) → ∀ K : Act → World → Prop,
      (∀ a w Y, St w0 w (Y ++ (X ++ F)) → (∀ w', St w0 w' (Y ++ (X' ++ F)) → WC (some l) P body (Rd w0 J Js i (X' ++ F)) a w') → K a w) →
      WC (some l) P assign (Exit.then K fun _ _ _ => False) (A n (upd ρ pt xs[i]) []) w)
    (hend : ∀ bd B w, J xs.length B → St w0 w ((bd, .deferred (some [])) :: (B ++ F)) → Q .normal (A n ρ (mk bd :: ds)) w)
    (hjump : ∀ bd c B w, Js c B → St w0 w ((bd, .deferred (some [])) :: (B ++ F)) → WC none P c Q (A n ρ (mk bd :: ds)) w) :
    WC none P (.rangeFunc g #[pt] assign body) Q (A n ρ ds) w := by
  refine wpIn_rangeFunc (F := FW none) fun fn _ => ?_
  have henter := run_enterLoop_outer (P := P) (w := w) fn (A n ρ ds).tmps #[pt] assign body
  let bd := w.heap.size
  let l := w.heap.size + 1
  let rc (s : LoopState) (pend : Option Code) : Obj := .loop { state := s, pending := pend, fn := fn, tmps := fa n ρ, params := #[pt], assign := assign, body := body, defers := bd }
  let w1 : World := (w.alloc (.deferred (some []))).alloc (rc .ready none)
  have hst1 : St w0 w1 ((l, rc .ready none) :: (bd, .deferred (some [])) :: L) := by
    have h1 := (hst.alloc (.deferred (some []))).alloc (rc .ready none)
    rw [World.size_alloc] at h1
    exact h1
  refine ⟨l, [mk bd], w1, { target := .fn (.func k) captured, args := first ++ #[.func (.yield l) #[] #[]] }, w1, k, first ++ #[.func (.yield l) #[] #[]] ++ captured, w1, henter, ?_, fun _ _ => trivial, ?_, fun h => (by simp at h), ?_⟩
  · have e1 : (#[Operand.const (Value.func (Fn.yield l) #[] #[])].map (A n ρ ds).eval) = #[Value.func (Fn.yield l) #[] #[]] := by simp [Act.eval]
    simp only [resolve, rangeCall, zB6 hog, hg, Deferred.ofValue, e1]
    rfl
  · exact hC (first ++ #[Value.func (Fn.yield l) #[] #[]] ++ captured) w1
  · have hperm1 : ((l, rc .ready none) :: (bd, .deferred (some [])) :: L).Perm ([] ++ (((l, rc .ready none) :: (bd, .deferred (some [])) :: B) ++ F)) := (List.Perm.cons _ (List.Perm.cons _ hperm))
    have hI := hit (fun i Bx => ∃ B, Bx = (l, rc .ready none) :: (bd, .deferred (some [])) :: B ∧ J i B) (fun Bx => ∃ B c, Bx = (l, rc .done (some c)) :: (bd, .deferred (some [])) :: B ∧ Js c B) (hcls (l, rc .ready none) (bd, .deferred (some [])) (fun c => (l, rc .done (some c)))) (.func (.yield l) #[] #[])
      ((l, rc .ready none) :: (bd, .deferred (some [])) :: B) [] w1 ⟨_, _,_, rfl⟩ ?_ ⟨B, rfl, h0⟩ (hst1.perm hperm1)
    · have hargs : (first ++ #[Value.func (Fn.yield l) #[] #[]] ++ captured) = (first.toList ++ ([Value.func (Fn.yield l) #[] #[]] ++ captured.toList)).toArray := by
        apply Array.ext'; simp
      rw [hargs]
      refine CallsIn.mono hI ?_
      rintro e w' ⟨v, rfl, B', hst', hB⟩
      rcases hB with ⟨B, rfl, hB⟩ | ⟨B, c, rfl, hB⟩
      · have hg' := hst'.get (i := 0) rfl
        refine ⟨none, _, run_endLoop hg' (by simp), ?_⟩
        exact hend bd B _ hB (hst'.putObj (i := 0) rfl _).tail
      · have hg' := hst'.get (i := 0) rfl
        refine ⟨some c, _, run_endLoop hg' (by simp), ?_⟩
        exact hjump bd c B _ hB (hst'.putObj (i := 0) rfl _).tail
    · rintro i hi Bx X w2 ⟨B, rfl, hB⟩ hst2
      have hp : (X ++ (((l, rc .ready none) :: (bd, .deferred (some [])) :: B) ++ F)).Perm ((l, rc .ready none) :: (bd, .deferred (some [])) :: (X ++ (B ++ F))) := zB3 X [(l, rc .ready none), (bd, .deferred (some []))] (B ++ F)
      have hst3 := hst2.perm hp
      have hg' := hst3.get (i := 0) rfl
      refine .inr ⟨l, fn, fa n (upd ρ pt xs[i]), assign, body, rfl, ?_, ?_⟩
      · rw [run_yield hg' rfl]
        simp [rc, fa_put]
      · refine roundIn_of_wpIn (F := FW none) trivial ?_
        have hp2 : ((l, rc .ready none) :: (bd, .deferred (some [])) :: (X ++ (B ++ F))).Perm (B ++ (((l, rc .ready none) :: (bd, .deferred (some [])) :: X) ++ F)) :=
          zB3 ((l, rc .ready none) :: (bd, .deferred (some [])) :: X) B F
        refine round l i hi B ((l, rc .ready none) :: (bd, .deferred (some [])) :: X) ((l, rc .busy none) :: (bd, .deferred (some [])) :: X) w2 hB (hst3.perm hp2) _ ?_
        intro a w3 Y hst4 hbody
        have hp3 : (Y ++ (((l, rc .ready none) :: (bd, .deferred (some [])) :: X) ++ F)).Perm ((l, rc .ready none) :: (Y ++ (((bd, .deferred (some [])) :: X) ++ F))) := zB3 Y [(l, rc .ready none)] _
        have hst5 := hst4.perm hp3
        have hg5 := hst5.get (i := 0) rfl
        refine ⟨_, run_beginRound hg5 rfl, ?_⟩
        have hst6 := hst5.putObj (i := 0) rfl (rc .busy none)
        have hp4 : ((l, rc .busy none) :: (Y ++ (((bd, .deferred (some [])) :: X) ++ F))).Perm (Y ++ (((l, rc .busy none) :: (bd, .deferred (some [])) :: X) ++ F)) := (zB3 Y [(l, rc .busy none)] _).symm
        refine w_mono (hbody _ (hst6.perm hp4)) ?_
        have back : ∀ (B' : List (Nat × Obj)) (w : World) (s : LoopState) (pend : Option Code), St w0 w (B' ++ (((l, rc .busy none) :: (bd, .deferred (some [])) :: X) ++ F)) → w.heap[l]? = some (rc .busy none) ∧
            St w0 (w.putObj l (rc s pend)) (X ++ (((l, rc s pend) :: (bd, .deferred (some [])) :: B') ++ F)) := by
          intro B' w s pend h
          have h1 := h.perm (zB3 B' [(l, rc .busy none)] (((bd, .deferred (some [])) :: X) ++ F))
          refine ⟨h1.get (i := 0) rfl, ?_⟩
          have h2 := h1.putObj (i := 0) rfl (rc s pend)
          refine h2.perm ?_
          show ((l, rc s pend) :: (B' ++ (((bd, .deferred (some [])) :: X) ++ F))).Perm _
          refine (List.Perm.cons _ (zB3 B' [(bd, .deferred (some []))] (X ++ F))).trans ?_
          refine (List.Perm.cons _ (List.Perm.cons _ (zB3 B' X F))).trans ?_
          exact (zB3 X [(l, rc s pend), (bd, .deferred (some []))] (B' ++ F)).symm
        intro e a' w' hq
        cases e with
        | normal =>
          obtain ⟨B', hs, hJ⟩ := hq
          obtain ⟨hb1, hb2⟩ := back B' w' .ready none hs
          exact ⟨_, _, run_endRound none hb1, _, rfl, _, hb2, .inl ⟨rfl, B', rfl, hJ⟩⟩
        | ret =>
          obtain ⟨B', hs, hJ⟩ := hq
          obtain ⟨hb1, hb2⟩ := back B' w' .done (some .ret) hs
          exact ⟨_, _, run_endRound (some .ret) hb1, _, rfl, _, hb2, .inr ⟨rfl, B', _, rfl, hJ⟩⟩
        | exit id =>
          obtain ⟨B', hs, hJ⟩ := hq
          obtain ⟨hb1, hb2⟩ := back B' w' .done (some (.exit id)) hs
          exact ⟨_, _, run_endRound (some (.exit id)) hb1, _, rfl, _, hb2, .inr ⟨rfl, B', _, rfl, hJ⟩⟩
        | goto t => exact hq.elim
        | panic c => exact hq.elim
        | outgrown => exact hq.elim

end Go.Rt
/- The walking engine, part 13: whole quotients. Plain theorems over the kit's fenced calculus. No conditions. -/
namespace Go.Rt
variable {r : Option Nat} {P : Program} {ops : Array Oper} {Q : Exit → Act → World → Prop} {rest : List Oper} {n : Nat} {ρ : Nat → Value} {ds : List Deferred} {w w0 : World} {d : Option Nat} {ty : TypeId} {p : String} {e : Array Edge} {g : Option (Nat × Bool)} {L : List (Nat × Obj)}
theorem y_quo {t t2 : TypeId} {x y : Operand} {a b : Int} (ho : okO n x = true) (ho1 : okO n y = true) (hx : ev ρ x = .int .i64 a) (hy : ev ρ y = .int .i64 b) (ha : 0 ≤ a) (hb : 0 < b) (hm : a ≤ 9223372036854775807) :
    Yd P (A n ρ ds) ⟨d, .binOp .quo t x y t2, ty, p, e, g⟩ w (.int .i64 (a / b)) := zFz ho ho1 hx hy fun w => by
  have h0 : b ≠ 0 := by omega
  have h1 : 0 ≤ a / b := Int.ediv_nonneg ha (by omega)
  have h2 : a / b ≤ a := Int.ediv_le_self _ ha
  have hw : IntKind.i64.wrap (a / b) = a / b := zE6 (by omega) (by omega)
  simp [binOp_quo, Op.intDiv, h0, Int.tdiv_eq_ediv_of_nonneg ha, hw]
theorem w_drawD {id : Nat} {l : List Oper} {Q : Exit → Act → World → Prop} {C0 C : World → Prop} (late : List Nat) (ord : List (Nat × Nat)) (hm : P.follows .mixedOrders = true) (hB : drawOK l.toArray late ord = true) (hC : C0 w) (h0 : ∀ w, C0 w → C w)
    (hdrew : ∀ w, C0 w → C0 { w with drawn := w.drawn + 1 }) (h : ∀ w', C0 w' → DW r P l.toArray (fun a w => Q .normal a w) C ord (A n ρ ds) w') : WC r P (.region id l.toArray true) Q (A n ρ ds) w := by
  unfold drawOK at hB
  simp only [Bool.and_eq_true] at hB
  obtain ⟨⟨⟨h1, h2⟩, h3⟩, h4⟩ := hB
  have hst' := hdrew _ hC
  have hsz : ord.length = l.toArray.size := Nat.eq_of_beq_eq_true h3
  have := zGc h1 h2 ord (Array.replicate l.toArray.size false) (A n ρ ds) _ (by simp) h4 (fun _ => h0 _ hst') (h _ hst')
  have hany := zEb _ _ _ _ this
  rw [hsz] at hany
  refine wpIn_mono (wpIn_region_any hm hany) ?_
  intro e a w hq
  cases e <;> first | exact hq | exact hq.elim
end Go.Rt
/- The walking engine, part 14: lookups that ask for the value alone. No conditions. -/
namespace Go.Rt
open Go.RowKit
variable {r : Option Nat} {P : Program} {ops : Array Oper} {Q : Exit → Act → World → Prop} {rest : List Oper} {n : Nat} {ρ : Nat → Value} {ds : List Deferred} {d : Option Nat} {ty : TypeId} {p : String} {e : Array Edge} {g : Option (Nat × Bool)} {w w0 : World} {L : List (Nat × Obj)}
end Go.Rt
/- The walking engine, part 15: loops that hold ranges over functions: the marks pile up. No conditions. -/
namespace Go.Rt
open Go.RowKit
variable {r : Option Nat} {P : Program} {ops : Array Oper} {Q : Exit → Act → World → Prop} {rest : List Oper} {n : Nat} {ρ : Nat → Value} {ds : List Deferred} {w w0 : World} {L : List (Nat × Obj)}
def mks (bs : List Nat) : List Deferred := bs.map mk
def dfs (bs : List Nat) : List (Nat × Obj) := bs.map fun b => (b, .deferred (some []))
def NxD (n : Nat) (D S : List Nat) (ρ : Nat → Value) (I : Nat → List Value → List Nat → World → Prop) (k : Nat) (a : Act) (w : World) : Prop :=
  ∃ ρ' k' bs', a = A n ρ' (mks bs') ∧ Agree D ρ ρ' ∧ k' < k ∧ I k' (S.map ρ') bs' w
theorem NxD.intro {D S : List Nat} {I : Nat → List Value → List Nat → World → Prop} {k : Nat} {ρ' : Nat → Value} (bs' : List Nat) (k' : Nat) (hk : k' < k) (ha : Agree D ρ ρ') (hI : I k' (S.map ρ') bs' w) : NxD n D S ρ I k (A n ρ' (mks bs')) w :=
  ⟨ρ', k', bs', rfl, ha, hk, hI⟩
open Classical in
theorem w_loopD {c : Code} (D S : List Nat) (I : Nat → List Value → List Nat → World → Prop) (k0 : Nat) (bs0 : List Nat) (h0 : I k0 (S.map ρ) bs0 w)
    (round : ∀ k vs μ bs w, I k vs bs w → ∀ K : Act → World → Prop, (∀ a w, NxD n D S ρ I k a w → K a w) → WC r P c (Exit.then K Q) (A n (updL (mix D ρ μ) S vs) (mks bs)) w) :
    WC r P (.loop c) Q (A n ρ (mks bs0)) w := by
  let J : Nat → Act → World → Prop := fun k a w => ∃ vs μ bs, a = A n (updL (mix D ρ μ) S vs) (mks bs) ∧ I k vs bs w
  refine wpIn_loop (fun a w => ∃ k, J k a w) (fun a w => leastOf fun k => J k a w) ⟨k0, S.map ρ, ρ, bs0, by rw [zFm S zHi], h0⟩ ?_
  intro a w hI
  obtain ⟨vs, μ, bs, ha, hi⟩ := (leastOf_spec hI).1
  subst ha
  refine wpIn_mono (round _ vs μ bs w hi _ fun _ _ h => h) ?_
  intro e a' w' hq
  cases e with
  | normal =>
    obtain ⟨ρ', k', bs', rfl, hag, hlt, hI'⟩ := hq
    have hJ : J k' (A n ρ' (mks bs')) w' := ⟨S.map ρ', ρ', bs', by rw [zFm S hag], hI'⟩
    exact show (∃ k, J k (A n ρ' (mks bs')) w') ∧ leastOf (fun k => J k (A n ρ' (mks bs')) w') < leastOf (fun k => J k _ w) from ⟨⟨k', hJ⟩, Nat.lt_of_le_of_lt ((leastOf_spec ⟨k', hJ⟩).2 k' hJ) hlt⟩
  | exit id => exact hq
  | goto l => exact hq
  | ret => exact hq
  | panic ch => exact hq
  | outgrown => exact hq
theorem leavesMM {fn : Func} {l : List ResultVar} {vs : List Value} {R : Value → World → Prop} (hl : fn.results = l.toArray) : ∀ (bs : List Nat) (w : World), St w0 w (dfs bs ++ L) → (∀ w', St w0 w' L → RVs P ρ n w' l vs ∧ R (retV vs) w') →
    LeavesInM (FW none) 0 P fn (fa n ρ) (fun e w' => ∃ v, e = .returned v ∧ R v w') (mks bs) .returning w
  | [], w, hst, h => by
    obtain ⟨h1, h2⟩ := h _ hst
    exact ⟨_, zFk hl h1, _, rfl, h2⟩
  | bd :: bs, w, hst, h => by
    have hst1 : St w0 w ((bd, .deferred (some [])) :: (dfs bs ++ L)) := hst
    exact ⟨by simp, .inl ⟨bd, _, rfl, run_takeDeferred (hst1.get (i := 0) rfl), leavesMM hl bs _ (hst1.putObj (i := 0) rfl _).tail h⟩⟩
theorem q_retMM {fn : Func} {l : List ResultVar} {vs : List Value} {R : Value → World → Prop} {bs : List Nat} (hst : St w0 w (dfs bs ++ L)) (hl : fn.results = l.toArray)
    (h : ∀ w', St w0 w' L → RVs P ρ n w' l vs ∧ R (retV vs) w') :
    bodyPostM (FW none) 0 P fn (fun e w' => ∃ v, e = .returned v ∧ R v w') .ret (A n ρ (mks bs)) w := leavesMM hl bs w hst h
end Go.Rt
/- The walking engine, part 16: the check of one order of a region, over numbers as sets of bits. No conditions. -/
namespace Go.Rt
open Go.RowKit
variable {r : Option Nat} {P : Program} {ops : Array Oper} {Q : Exit → Act → World → Prop} {rest : List Oper} {n : Nat} {ρ : Nat → Value} {ds : List Deferred} {w w0 : World} {L : List (Nat × Obj)}
def tb (m i : Nat) : Bool := Nat.beq (Nat.land (Nat.shiftRight m i) 1) 1
theorem tb_eq (m i : Nat) : tb m i = m.testBit i := by
  have h : Nat.land (Nat.shiftRight m i) 1 = (m >>> i) % 2 := by
    show (m >>> i) &&& 1 = _
    exact Nat.and_one_is_mod _
  have h2 : m.testBit i = decide ((m >>> i) % 2 = 1) := by rw [Nat.testBit_eq_decide_div_mod_eq, Nat.shiftRight_eq_div_pow]
  unfold tb
  rw [h, h2, Bool.eq_iff_iff, Nat.beq_eq, decide_eq_true_eq]
def orB (m i : Nat) : Nat := Nat.lor m (Nat.shiftLeft 1 i)
theorem tb_orB (m i j : Nat) : tb (orB m i) j = (tb m j || decide (i = j)) := by
  rw [tb_eq, tb_eq]
  show (m ||| (1 <<< i)).testBit j = _
  rw [Nat.testBit_or, Nat.shiftLeft_eq, Nat.one_mul, Nat.testBit_two_pow]
def maskOf : List Nat → Nat
  | [] => 0
  | x :: l => orB (maskOf l) x
theorem zG6 (j : Nat) : ∀ l : List Nat, tb (maskOf l) j = l.contains j
  | [] => by simp [maskOf, tb_eq]
  | x :: l => by
    simp only [maskOf, tb_orB, zG6 j l, List.contains_cons]
    rw [Bool.or_comm]
    congr 1
    rw [Bool.eq_iff_iff]; simp only [decide_eq_true_eq, beq_iff_eq, Nat.beq_eq]; exact eq_comm
def subN (a m : Nat) : Bool := Nat.beq (Nat.land a m) a
theorem sub_iff (a m : Nat) : subN a m = true ↔ ∀ j, tb a j = true → tb m j = true := by
  unfold subN
  rw [Nat.beq_eq]
  constructor
  · intro h j hj
    have h1 : (a &&& m).testBit j = a.testBit j := by rw [show a &&& m = a from h]
    rw [Nat.testBit_and] at h1
    rw [tb_eq] at hj ⊢
    rw [hj] at h1; simpa using h1
  · intro h
    show a &&& m = a
    apply Nat.eq_of_testBit_eq
    intro j
    rw [Nat.testBit_and]
    have := h j
    rw [tb_eq, tb_eq] at this
    cases ha : a.testBit j with
    | false => rfl
    | true => rw [this ha]; rfl
structure OpS where
  nd : Nat
  dst : Option Nat
  lk : Nat
def opS (ops : Array Oper) (o : Oper) : OpS := ⟨maskOf ((o.after.toList.filter (Region.binds .any)).map (·.on)), o.dst, maskOf (o.looksAt ops)⟩
def sumS (ops : Array Oper) : List OpS := ops.toList.map (opS ops)
def readyN : List OpS → Nat → Nat → List Nat
  | [], _, _ => []
  | x :: s, i, m => bif (!tb m i) && subN x.nd m then i :: readyN s (i + 1) m else readyN s (i + 1) m
def apartN (x y : OpS) : Bool :=
  (match x.dst with | some d => !tb y.lk d && y.dst != some d | none => true) && (match y.dst with | some d => !tb x.lk d | none => true)
def freeN (xi : OpS) (i m : Nat) : List OpS → Nat → Bool
  | [], _ => true
  | y :: s, j => (Nat.beq j i || tb m j || tb y.nd i || apartN xi y) && freeN xi i m s (j + 1)
def closeN (s : List OpS) (i : Nat) : Nat → Nat → Nat
  | 0, m => m
  | k + 1, m => closeN s i k ((readyN s 0 m).foldl (fun m j => bif Nat.beq j i then m else orB m j) m)
def memN (i : Nat) : List Nat → Bool
  | [] => false
  | j :: l => Nat.beq j i || memN i l
def onlyN (i : Nat) : List Nat → Bool
  | [j] => Nat.beq j i
  | _ => false
def drawN (s : List OpS) (n : Nat) (late : List Nat) : List (Nat × Nat) → Nat → Bool
  | [], m => match readyN s 0 m with | [] => true | _ => false
  | (i, t) :: rest, m =>
    (match t with
     | 0 => memN i (readyN s 0 m) && (match s[i]? with | some x => freeN x i m s 0 | none => false) && !memN i late
     | 1 => memN i (readyN s 0 m) && (match s[i]? with | some x => freeN x i m s 0 | none => false) && !memN i late &&
        (let c := closeN s i n m; ((readyN s 0 c).all fun j => Nat.beq j i) && !(late.any fun q => tb c q) && !tb c i && subN m c)
     | 2 => onlyN i (readyN s 0 m) && !memN i late
     | _ => onlyN i (readyN s 0 m) && memN i late) && drawN s n late rest (orB m i)
def drawOKN (ops : Array Oper) (late : List Nat) (ord : List (Nat × Nat)) : Bool :=
  Region.noSelect ops && noDefer ops && Nat.beq ord.length ops.size && drawN (sumS ops) ops.size late ord 0
def Rep (ops : Array Oper) (l : Array Bool) (m : Nat) : Prop := l.size = ops.size ∧ ∀ j, l.getD j false = tb m j
theorem zHe (i : Nat) : ∀ l : List Nat, memN i l = l.contains i
  | [] => rfl
  | j :: l => by
    simp only [memN, zHe i l, List.contains_cons]
    congr 1
    rw [Bool.eq_iff_iff]; simp only [decide_eq_true_eq, beq_iff_eq, Nat.beq_eq]; exact eq_comm
theorem zHy {i : Nat} {l : List Nat} (h : onlyN i l = true) : l = [i] := by
  match l with
  | [] => cases h
  | [j] => simp only [onlyN, Nat.beq_eq] at h; rw [h]
  | _ :: _ :: _ => cases h
theorem zGj {l : Array Bool} {m : Nat} (h : Rep ops l m) : Region.ready .any ops l = readyN (sumS ops) 0 m := by
  have key : ∀ (s : List Oper) (i : Nat), (∀ k (hk : k < s.length), ops[i + k]? = some s[k]) → (List.range' i s.length).filter (fun j => !l.getD j true && ((ops[j]?).map (·.after.all fun e => !Region.binds .any e || l.getD e.on false)).getD false) = readyN (s.map (opS ops)) i m := by
    intro s
    induction s with
    | nil => intro i _; rfl
    | cons x s ih =>
      intro i hk
      have hx : ops[i]? = some x := hk 0 (by simp)
      have hlt : i < ops.size := (Array.getElem?_eq_some_iff.1 hx).1
      have hih := ih (i + 1) (fun k hk2 => by have := hk (k + 1) (by simpa using hk2); rw [show i + 1 + k = i + (k + 1) by omega]; simpa using this)
      have hT : l.getD i true = tb m i := by
        rw [← h.2 i]
        have : i < l.size := by rw [h.1]; exact hlt
        simp [this]
      have hA : (x.after.all fun e => !Region.binds .any e || l.getD e.on false) = subN (opS ops x).nd m := by
        rw [Bool.eq_iff_iff, sub_iff, Array.all_eq_true_iff_forall_mem]
        unfold opS
        dsimp only
        constructor
        · intro hall j hj
          rw [zG6, List.contains_iff_mem] at hj
          obtain ⟨e, he, rfl⟩ := List.mem_map.1 hj
          obtain ⟨he1, he2⟩ := List.mem_filter.1 he
          have := hall e (by simpa using he1)
          rw [he2, h.2] at this
          simpa using this
        · intro hall e he
          rw [h.2]
          cases hb : Region.binds .any e with
          | false => rfl
          | true =>
            have := hall e.on (by rw [zG6, List.contains_iff_mem]; exact List.mem_map.2 ⟨e, List.mem_filter.2 ⟨by simpa using he, hb⟩, rfl⟩)
            simpa using this
      rw [List.length_cons, List.range'_succ, List.filter_cons, List.map_cons, readyN, ← hih]
      simp only [hx, hT, Option.map_some, Option.getD_some, hA]
      cases (!tb m i && subN (opS ops x).nd m) <;> rfl
  have := key ops.toList 0 (fun k hk => by rw [Nat.zero_add]; simp at hk ⊢)
  unfold Region.ready sumS
  rw [← this, List.range_eq_range', Array.length_toList]
theorem zGk {i m : Nat} (h : memN i (readyN (sumS ops) 0 m) = true) : i < ops.size := by
  have key : ∀ (s : List OpS) (b : Nat), memN i (readyN s b m) = true → i < b + s.length := by
    intro s
    induction s with
    | nil => intro b h; simp [readyN, memN] at h
    | cons x s ih =>
      intro b h
      simp only [readyN] at h
      cases hc : (!tb m b && subN x.nd m) with
      | false => rw [hc] at h; have := ih (b + 1) h; simp only [List.length_cons]; omega
      | true =>
        rw [hc] at h
        simp only [cond_true, memN, Bool.or_eq_true, Nat.beq_eq] at h
        rcases h with h | h
        · simp only [List.length_cons]; omega
        · have := ih (b + 1) h; simp only [List.length_cons]; omega
  have := key _ _ h
  simpa [sumS] using this
theorem rep_set {l : Array Bool} {m i : Nat} (h : Rep ops l m) (hi : i < ops.size) : Rep ops (l.setIfInBounds i true) (orB m i) := by
  refine ⟨by simpa using h.1, fun j => ?_⟩
  rw [tb_orB, ← h.2 j]
  by_cases e : i = j
  · subst e
    have : i < l.size := by rw [h.1]; exact hi
    simp [this]
  · simp [e, Array.getElem?_setIfInBounds_ne e]
theorem apart_rep (x y : Oper) : apartN (opS ops x) (opS ops y) = x.apart ops y := by
  unfold apartN Oper.apart opS
  dsimp only
  congr 1
  · cases x.dst with
    | none => rfl
    | some d => dsimp only; rw [zG6]
  · cases y.dst with
    | none => rfl
    | some d => dsimp only; rw [zG6]
theorem free_rep {l : Array Bool} {m i : Nat} (h : Rep ops l m) (hf : (match (sumS ops)[i]? with | some x => freeN x i m (sumS ops) 0 | none => false) = true) : Region.free .any ops l i = true := by
  unfold Region.free
  have hsum : (sumS ops)[i]? = (ops[i]?).map (opS ops) := by simp [sumS]
  rw [hsum] at hf
  cases hoi : ops[i]? with
  | none => rw [hoi] at hf; cases hf
  | some oi =>
    rw [hoi] at hf
    dsimp only [Option.map_some] at hf ⊢
    rw [List.all_eq_true]
    intro j hj
    rw [List.mem_range] at hj
    have key : ∀ (s : List Oper) (b : Nat), freeN (opS ops oi) i m (s.map (opS ops)) b = true → ∀ k (hk : k < s.length), (Nat.beq (b + k) i || tb m (b + k) || tb (opS ops s[k]).nd i || apartN (opS ops oi) (opS ops s[k])) = true := by
      intro s
      induction s with
      | nil => intro b _ k hk; simp at hk
      | cons x s ih =>
        intro b hb k hk
        simp only [List.map_cons, freeN] at hb
        rw [Bool.and_eq_true] at hb
        match k with
        | 0 => simpa using hb.1
        | k + 1 =>
          have := ih (b + 1) hb.2 k (by simpa using hk)
          rw [show b + (k + 1) = b + 1 + k by omega]
          simpa using this
    have hk := key ops.toList 0 hf j (by simpa using hj)
    rw [Nat.zero_add] at hk
    have hoj : ops[j]? = some ops[j] := by simp [hj]
    rw [hoj]
    dsimp only
    have hT : l.getD j true = tb m j := by
      rw [← h.2 j]
      have : j < l.size := by rw [h.1]; exact hj
      simp [this]
    rw [hT, ← apart_rep]
    simp only [Bool.or_eq_true, Nat.beq_eq] at hk ⊢
    rcases hk with ((hk | hk) | hk) | hk
    · left; left; simpa using hk
    · left; right; exact hk
    · right; left
      rw [Array.any_eq_true']
      unfold opS at hk
      dsimp only at hk
      rw [zG6, List.contains_iff_mem] at hk
      obtain ⟨e, he, hei⟩ := List.mem_map.1 hk
      obtain ⟨he1, he2⟩ := List.mem_filter.1 he
      exact ⟨e, by simpa using he1, by simp [he2, hei]⟩
    · right; right
      simpa using hk
theorem close_rep (i : Nat) : ∀ (k : Nat) {l : Array Bool} {m : Nat}, Rep ops l m → Rep ops (closeB ops i k l) (closeN (sumS ops) i k m)
  | 0, _,_, h => h
  | k + 1, l, m, h => by
    unfold closeB closeN
    refine close_rep i k ?_
    rw [zGj h]
    have key : ∀ (xs : List Nat) (l : Array Bool) (m : Nat), (∀ x ∈ xs, x < ops.size) → Rep ops l m → Rep ops (xs.foldl (fun l j => bif Nat.beq j i then l else l.setIfInBounds j true) l) (xs.foldl (fun m j => bif Nat.beq j i then m else orB m j) m) := by
      intro xs
      induction xs with
      | nil => intro l m _ h; exact h
      | cons x xs ih =>
        intro l m hx h
        rw [List.foldl_cons, List.foldl_cons]
        refine ih _ _ (fun y hy => hx y (.tail _ hy)) ?_
        cases Nat.beq x i
        · exact rep_set h (hx x (.head _))
        · exact h
    exact key _ _ _ (fun x hx => zGk (by rw [zHe, List.contains_iff_mem]; exact hx)) h
theorem draw_rep {late : List Nat} : ∀ (ord : List (Nat × Nat)) {l : Array Bool} {m : Nat}, Rep ops l m → drawN (sumS ops) ops.size late ord m = true → drawB ops late ord l = true
  | [], l, m, h, hd => by
    simp only [drawN] at hd
    simp only [drawB, zGj h]
    cases hr : readyN (sumS ops) 0 m with
    | nil => rfl
    | cons _ _ => rw [hr] at hd; cases hd
  | (i, t) :: rest, l, m, h, hd => by
    simp only [drawN, Bool.and_eq_true] at hd
    obtain ⟨h1, h2⟩ := hd
    simp only [drawB, Bool.and_eq_true]
    have hlt : i < ops.size := by
      match t, h1 with
      | 0, h1 => simp only [Bool.and_eq_true] at h1; exact zGk h1.1.1
      | 1, h1 => simp only [Bool.and_eq_true] at h1; exact zGk h1.1.1.1
      | 2, h1 => simp only [Bool.and_eq_true] at h1; exact zGk (m := m) (by rw [zHy h1.1]; simp [memN])
      | t + 3, h1 => simp only [Bool.and_eq_true] at h1; exact zGk (m := m) (by rw [zHy h1.1]; simp [memN])
    refine ⟨?_, draw_rep rest (rep_set h hlt) h2⟩
    rw [zGj h]
    match t, h1 with
    | 0, h1 =>
      simp only [Bool.and_eq_true, zHe] at h1 ⊢
      exact ⟨⟨h1.1.1, free_rep h h1.1.2⟩, h1.2⟩
    | 1, h1 =>
      simp only [Bool.and_eq_true, zHe] at h1 ⊢
      obtain ⟨⟨⟨a1, a2⟩, a3⟩, ⟨⟨⟨a4, a5⟩, a6⟩, a7⟩⟩ := h1
      have hc := close_rep i ops.size h
      refine ⟨⟨⟨a1, free_rep h a2⟩, a3⟩, ⟨⟨⟨?_, ?_⟩, ?_⟩, ?_⟩⟩
      · rw [zGj hc]; exact a4
      · rw [← a5]
        unfold badB
        congr 2
        funext q; exact hc.2 q
      · rw [hc.2]; exact a6
      · rw [List.all_eq_true]
        intro j _
        have := (sub_iff _ _).1 a7 j
        rw [h.2, hc.2]
        cases ht : tb m j with
        | false => rfl
        | true => rw [this ht]; rfl
    | 2, h1 =>
      simp only [Bool.and_eq_true, zHe] at h1 ⊢
      exact ⟨by rw [zHy h1.1]; simp, h1.2⟩
    | t + 3, h1 =>
      simp only [Bool.and_eq_true, zHe] at h1 ⊢
      exact ⟨by rw [zHy h1.1]; simp, h1.2⟩
theorem zBs {late : List Nat} {ord : List (Nat × Nat)} (h : drawOKN ops late ord = true) : drawOK ops late ord = true := by
  unfold drawOKN at h
  unfold drawOK
  simp only [Bool.and_eq_true] at h ⊢
  exact ⟨h.1, draw_rep ord ⟨by simp, fun j => by
    have : tb 0 j = false := by rw [tb_eq]; exact Nat.zero_testBit j
    rw [this]
    by_cases hj : j < ops.size
    · simp [hj]
    · simp [hj]⟩ h.2⟩
end Go.Rt
/- The walking engine, part 17: a number of sixteen bits as an int. No conditions. -/
namespace Go.Rt
open Go.RowKit
variable {P : Program} {n : Nat} {ρ : Nat → Value} {ds : List Deferred} {w : World} {d : Option Tmp} {ty : TypeId} {p : String} {e : Array Edge} {g : Option (Nat × Bool)}
end Go.Rt
/- The walking engine, part 18: maps as lists of keys and values; ranges over maps. No conditions. -/
set_option linter.unusedSectionVars false
namespace Go.Rt
open Go.RowKit
section
variable {α : Type} [DecidableEq α]
def ents (kv : α → Value) (l : List (α × Value × Nat)) : List MapEntry := l.map fun q => { key := kv q.1, val := q.2.1, born := q.2.2 }
def idxA (a : α) : List (α × Value × Nat) → Nat → Option (Nat × Value)
  | [], _ => none
  | q :: l, i => if q.1 = a then some (i, q.2.1) else idxA a l (i + 1)
def getA (a : α) : List (α × Value × Nat) → Option Value
  | [] => none
  | q :: l => if q.1 = a then some q.2.1 else getA a l
def putA (a : α) (v : Value) (ck : Nat) : List (α × Value × Nat) → List (α × Value × Nat)
  | [] => [(a, v, ck)]
  | q :: l => if q.1 = a then (a, v, q.2.2) :: l else q :: putA a v ck l
structure KeyG (P : Program) (t : TypeId) (kv : α → Value) (ok : α → Prop) : Prop where
  chk : ∀ (em : Bool) (a : α) (w : World), ok a → (Instr.checkKey em 10000 t (kv a)).run P w = .ok () w
  find : ∀ (a : α) (l : List (α × Value × Nat)) (w : World), ok a → (∀ q ∈ l, ok q.1) → (Instr.findKey t (kv a) (ents kv l)).run P w = .ok (idxA a l 0) w
  stay : ∀ a : α, ok a → Instr.sameBits 10000 (kv a) (kv a) = true
theorem idxA_get {a : α} : ∀ (l : List (α × Value × Nat)) (i : Nat), (idxA a l i).map (·.2) = getA a l
  | [], _ => rfl
  | q :: l, i => by
    by_cases h : q.1 = a
    · simp [idxA, getA, h]
    · simp [idxA, getA, h, idxA_get l]
theorem zGq {a : α} : ∀ (l : List (α × Value × Nat)) (i : Nat), idxA a l (i + 1) = (idxA a l i).map fun p => (p.1 + 1, p.2)
  | [], _ => rfl
  | q :: l, i => by
    by_cases h : q.1 = a
    · simp [idxA, h]
    · simp [idxA, h, zGq l]
theorem putA_none {a : α} {v : Value} {ck : Nat} : ∀ {l : List (α × Value × Nat)}, idxA a l 0 = none → putA a v ck l = l ++ [(a, v, ck)]
  | [], _ => rfl
  | q :: l, h => by
    by_cases e : q.1 = a
    · simp [idxA, e] at h
    · simp only [idxA, if_neg e] at h
      rw [zGq] at h
      simp only [putA, if_neg e, List.cons_append]
      rw [putA_none (by simpa using h)]
theorem putA_some {kv : α → Value} {a : α} {v : Value} {ck : Nat} : ∀ {l : List (α × Value × Nat)} {i : Nat} {u : Value}, idxA a l 0 = some (i, u) → ents kv (putA a v ck l) = (ents kv l).modify i (fun e => { e with key := kv a, val := v })
  | [], _,_, h => by simp [idxA] at h
  | q :: l, i, u, h => by
    by_cases e : q.1 = a
    · simp only [idxA, if_pos e] at h
      injection h with h; injection h with h1 h2
      subst h1
      simp [putA, e, ents]
    · simp only [idxA, if_neg e] at h
      rw [zGq] at h
      cases hq : idxA a l 0 with
      | none => rw [hq] at h; cases h
      | some p =>
        rw [hq] at h
        injection h with h; injection h with h1 h2
        subst h1
        have ih := putA_some (kv := kv) (v := v) (ck := ck) (show idxA a l 0 = some (p.1, p.2) from hq)
        have e1 : ents kv (putA a v ck (q :: l)) = { key := kv q.1, val := q.2.1, born := q.2.2 } :: ents kv (putA a v ck l) := by simp [putA, e, ents]
        rw [e1, ih]
        show _ = (_ :: ents kv l).modify (p.1 + 1) _
        simp
theorem idxA_at {kv : α → Value} {a : α} : ∀ {l : List (α × Value × Nat)} {i : Nat} {u : Value}, idxA a l 0 = some (i, u) → ((ents kv l)[i]?).map (·.key) = some (kv a)
  | [], _,_, h => by simp [idxA] at h
  | q :: l, i, u, h => by
    by_cases e : q.1 = a
    · simp only [idxA, if_pos e] at h
      injection h with h; injection h with h1 h2
      subst h1
      simp [ents, e]
    · simp only [idxA, if_neg e] at h
      rw [zGq] at h
      cases hq : idxA a l 0 with
      | none => rw [hq] at h; cases h
      | some p =>
        rw [hq] at h
        injection h with h; injection h with h1 h2
        subst h1
        have ih := idxA_at (kv := kv) (show idxA a l 0 = some (p.1, p.2) from hq)
        show ((_ :: ents kv l)[p.1 + 1]?).map _ = _
        simpa using ih
theorem zHz {a : α} {v : Value} {ck : Nat} {q : α × Value × Nat} : ∀ {l : List (α × Value × Nat)}, q ∈ putA a v ck l → (q.1 = a ∧ q.2.1 = v) ∨ q ∈ l
  | [], h => by simp [putA] at h; subst h; exact .inl ⟨rfl, rfl⟩
  | x :: l, h => by
    by_cases e : x.1 = a
    · simp only [putA, if_pos e] at h
      cases h with
      | head => exact .inl ⟨rfl, rfl⟩
      | tail _ h => exact .inr (.tail _ h)
    · simp only [putA, if_neg e] at h
      cases h with
      | head => exact .inr (.head _)
      | tail _ h =>
        rcases zHz h with h | h
        · exact .inl h
        · exact .inr (.tail _ h)
structure MOk (l : List (α × Value × Nat)) (ck : Nat) : Prop where
  born : ∀ q ∈ l, q.2.2 < ck
  bnd : (l.map (·.2.2)).Nodup
  key : (l.map (·.1)).Nodup
theorem mok_nil : MOk ([] : List (α × Value × Nat)) 0 := ⟨by simp, by simp, by simp⟩
theorem borns_putA {a : α} {v : Value} {ck : Nat} : ∀ {l : List (α × Value × Nat)}, (idxA a l 0 ≠ none ∧ (putA a v ck l).map (·.2.2) = l.map (·.2.2) ∧ (putA a v ck l).map (·.1) = l.map (·.1)) ∨ (idxA a l 0 = none ∧ (putA a v ck l).map (·.2.2) = l.map (·.2.2) ++ [ck] ∧ (putA a v ck l).map (·.1) = l.map (·.1) ++ [a] ∧ a ∉ l.map (·.1))
  | [] => .inr ⟨rfl, rfl, rfl, by simp⟩
  | x :: l => by
    by_cases e : x.1 = a
    · left; simp [idxA, putA, e]
    · have hx : idxA a (x :: l) 0 = (idxA a l 0).map fun p => (p.1 + 1, p.2) := by simp only [idxA, if_neg e]; exact zGq l 0
      rcases borns_putA (a := a) (v := v) (ck := ck) (l := l) with ⟨h1, h2, h3⟩ | ⟨h1, h2, h3, h4⟩
      · left
        refine ⟨by rw [hx]; intro h; simp at h; exact h1 h, by simp [putA, e, h2], by simp [putA, e, h3]⟩
      · right
        refine ⟨by rw [hx, h1]; rfl, by simp [putA, e, h2], by simp [putA, e, h3], ?_⟩
        rw [List.map_cons, List.mem_cons, not_or]
        exact ⟨fun h => e h.symm, h4⟩
theorem MOk.put {l : List (α × Value × Nat)} {ck : Nat} (h : MOk l ck) (a : α) (v : Value) : MOk (putA a v ck l) (if idxA a l 0 = none then ck + 1 else ck) := by
  have hb : ∀ z ∈ l.map (·.2.2), z < ck := by intro z hz; obtain ⟨q, hq, rfl⟩ := List.mem_map.1 hz; exact h.born q hq
  rcases borns_putA (a := a) (v := v) (ck := ck) (l := l) with ⟨h1, h2, h3⟩ | ⟨h1, h2, h3, h4⟩
  · rw [if_neg h1]
    exact ⟨fun q hq => hb _ (by rw [← h2]; exact List.mem_map_of_mem hq), by rw [h2]; exact h.bnd, by rw [h3]; exact h.key⟩
  · rw [if_pos h1]
    refine ⟨fun q hq => ?_, ?_, ?_⟩
    · have : q.2.2 ∈ (putA a v ck l).map (·.2.2) := List.mem_map_of_mem (f := fun q : α × Value × Nat => q.2.2) hq
      rw [h2, List.mem_append, List.mem_singleton] at this
      rcases this with h5 | h5
      · have := hb _ h5; omega
      · omega
    · rw [h2, List.nodup_append]
      refine ⟨h.bnd, by simp, fun x hx y hy => ?_⟩
      rw [List.mem_singleton] at hy
      subst hy
      have := hb _ hx; omega
    · rw [h3, List.nodup_append]
      refine ⟨h.key, by simp, fun x hx y hy e => ?_⟩
      rw [List.mem_singleton] at hy
      subst hy e
      exact h4 hx
end
section
variable {r : Option Nat} {P : Program} {ops : Array Oper} {Q : Exit → Act → World → Prop} {rest : List Oper} {n : Nat} {ρ : Nat → Value} {ds : List Deferred} {w w0 : World} {L : List (Nat × Obj)}
  {d : Option Tmp} {ty : TypeId} {p : String} {e : Array Edge} {g : Option (Nat × Bool)} {α : Type} [DecidableEq α] {kv : α → Value} {ok : α → Prop}
theorem G_lookS {mt kt el : TypeId} {x y : Operand} {a : α} {l : List (α × Value × Nat)} {m i ck : Nat} {v : Value} (hU : P.underlying mt = some (.map kt el)) (hK : KeyG P kt kv ok) (hok : ok a) (hall : ∀ q ∈ l, ok q.1)
    (hst : St w0 w L) (ho : okO n x = true) (ho1 : okO n y = true) (hx : ev ρ x = .map (some m)) (hy : ev ρ y = kv a) (hi : L[i]? = some (m, .map (ents kv l).toArray ck)) (hf : getA a l = some v) (both : Bool) :
    Yd P (A n ρ ds) ⟨d, .lookup mt x y both, ty, p, e, g⟩ w (if both then .tuple #[v, .bool true] else v) := by
  have hc := hK.chk (ents kv l).toArray.isEmpty a w hok
  have hg := hK.find a l w hok hall
  have hv := idxA_get (a := a) l 0
  rw [hf] at hv
  cases hq : idxA a l 0 with
  | none => rw [hq] at hv; cases hv
  | some q =>
    rw [hq] at hg hv
    obtain ⟨j, u⟩ := q
    have hu : u = v := by simpa using hv
    subst hu
    unfold Yd
    have : (Instr.lookup mt (.map (some m)) (kv a) both).run P w = .ok (if both then .tuple #[u, .bool true] else u) w := by
      simp only [Instr.lookup, Sem.run_bind, run_underlying hU, Result.andThen_ok, hst.obj hi, Sem.run_pure, hc, hg]
    simp only [execOp, zB6 ho, zB6 ho1, hx, hy, Sem.run_bind, this]
    rfl
theorem G_lookN {mt kt el : TypeId} {x y : Operand} {a : α} {l : List (α × Value × Nat)} {m i ck : Nat} {z : Value} (hU : P.underlying mt = some (.map kt el)) (hK : KeyG P kt kv ok) (hok : ok a) (hall : ∀ q ∈ l, ok q.1)
    (hz : ∀ w, (zeroValue el).run P w = .ok z w) (hst : St w0 w L) (ho : okO n x = true) (ho1 : okO n y = true) (hx : ev ρ x = .map (some m)) (hy : ev ρ y = kv a) (hi : L[i]? = some (m, .map (ents kv l).toArray ck)) (hf : getA a l = none) (both : Bool) :
    Yd P (A n ρ ds) ⟨d, .lookup mt x y both, ty, p, e, g⟩ w (if both then .tuple #[z, .bool false] else z) := by
  have hc := hK.chk (ents kv l).toArray.isEmpty a w hok
  have hg := hK.find a l w hok hall
  have hv := idxA_get (a := a) l 0
  rw [hf] at hv
  cases hq : idxA a l 0 with
  | some q => rw [hq] at hv; cases hv
  | none =>
    rw [hq] at hg
    unfold Yd
    have : (Instr.lookup mt (.map (some m)) (kv a) both).run P w = .ok (if both then .tuple #[z, .bool false] else z) w := by
      simp only [Instr.lookup, Sem.run_bind, run_underlying hU, Result.andThen_ok, hst.obj hi, Sem.run_pure, hc, hg, hz]
    simp only [execOp, zB6 ho, zB6 ho1, hx, hy, Sem.run_bind, this]
    rfl
theorem G_look2S {mt kt el : TypeId} {x y : Operand} {a : α} {l : List (α × Value × Nat)} {m i ck : Nat} {v : Value} (hU : P.underlying mt = some (.map kt el)) (hK : KeyG P kt kv ok) (hok : ok a) (hall : ∀ q ∈ l, ok q.1)
    (hst : St w0 w L) (ho : okO n x = true) (ho1 : okO n y = true) (hx : ev ρ x = .map (some m)) (hy : ev ρ y = kv a) (hi : L[i]? = some (m, .map (ents kv l).toArray ck)) (hf : getA a l = some v) :
    Yd P (A n ρ ds) ⟨d, .lookup mt x y true, ty, p, e, g⟩ w (.tuple #[v, .bool true]) := G_lookS hU hK hok hall hst ho ho1 hx hy hi hf true
theorem G_look2N {mt kt el : TypeId} {x y : Operand} {a : α} {l : List (α × Value × Nat)} {m i ck : Nat} {z : Value} (hU : P.underlying mt = some (.map kt el)) (hK : KeyG P kt kv ok) (hok : ok a) (hall : ∀ q ∈ l, ok q.1)
    (hz : ∀ w, (zeroValue el).run P w = .ok z w) (hst : St w0 w L) (ho : okO n x = true) (ho1 : okO n y = true) (hx : ev ρ x = .map (some m)) (hy : ev ρ y = kv a) (hi : L[i]? = some (m, .map (ents kv l).toArray ck)) (hf : getA a l = none) :
    Yd P (A n ρ ds) ⟨d, .lookup mt x y true, ty, p, e, g⟩ w (.tuple #[z, .bool false]) := G_lookN hU hK hok hall hz hst ho ho1 hx hy hi hf true
theorem G_put {mt kt el : TypeId} {x y z : Operand} {a : α} {v : Value} {l : List (α × Value × Nat)} {m i ck : Nat} (hw : Want ops (A n ρ ds) ⟨none, .mapUpdate mt x y z, ty, p, e, g⟩) (hU : P.underlying mt = some (.map kt el)) (hK : KeyG P kt kv ok) (hok : ok a) (hall : ∀ q ∈ l, ok q.1)
    (ho : okO n x = true) (ho1 : okO n y = true) (ho2 : okO n z = true) (hx : ev ρ x = .map (some m)) (hy : ev ρ y = kv a) (hz : ev ρ z = v) (hst : St w0 w L) (hi : L[i]? = some (m, .map (ents kv l).toArray ck))
    (hk2 : ∀ w', St w0 w' (L.set i (m, .map (ents kv (putA a v ck l)).toArray (if idxA a l 0 = none then ck + 1 else ck))) → WL r P ops Q rest (A n ρ ds) w') :
    WL r P ops Q (⟨none, .mapUpdate mt x y z, ty, p, e, g⟩ :: rest) (A n ρ ds) w := by
  refine w_unit hw (w' := w.putObj m (.map (ents kv (putA a v ck l)).toArray (if idxA a l 0 = none then ck + 1 else ck))) ?_ rfl (hk2 _ (hst.putObj hi _))
  have hc := hK.chk false a w hok
  have hg := hK.find a l w hok hall
  have hs : ∀ o, (setObj m o).run P w = .ok () (w.putObj m o) := by intro o; simp [setObj, Sem.run, hst.get hi, World.putObj]
  have : (Instr.mapUpdate mt (.map (some m)) (kv a) v).run P w = .ok () (w.putObj m (.map (ents kv (putA a v ck l)).toArray (if idxA a l 0 = none then ck + 1 else ck))) := by
    simp only [Instr.mapUpdate, Sem.run_bind, run_underlying hU, Result.andThen_ok, hst.obj hi, Sem.run_pure, hc, hg]
    cases hq : idxA a l 0 with
    | none =>
      simp only [hs, if_true]
      rw [putA_none hq]
      simp [ents]
    | some q =>
      obtain ⟨j, u⟩ := q
      have h1 := putA_some (kv := kv) (v := v) (ck := ck) hq
      have h2 := idxA_at (kv := kv) hq
      have h3 : (((ents kv l).toArray[j]?).map (·.key)).getD (kv a) = kv a := by rw [List.getElem?_toArray, h2]; rfl
      simp only [h3, Instr.keyThatStays, hK.stay a hok, if_true, Sem.run_bind, Sem.run_pure, Result.andThen_ok, hs]
      rw [h1, if_neg (by simp)]
      congr 3
      apply Array.toList_inj.1
      simp
  simp only [execOp, zB6 ho, zB6 ho1, zB6 ho2, hx, hy, hz, Sem.run_bind, this]
  rfl
end
theorem keyG_ia {P : Program} {t : TypeId} {k : Nat} (hK : KeyTy P t k) : KeyG P t (fun l : List Int => ia l) (fun l => l.length = k) where
  chk := fun em a w h => hK.chk em a w h
  find := fun a l w h hall => by
    obtain ⟨u, hu, hn, h0⟩ := hK.desc
    have key : ∀ (l : List (List Int × Value × Nat)) (i : Nat), (∀ q ∈ l, q.1.length = k) → (Instr.findAsking t (ia a) (ents (fun l : List Int => ia l) l) i).run P w = .ok (idxA a l i) w := by
      intro l
      induction l with
      | nil => intro i _; simp [Instr.findAsking, ents, idxA]
      | cons q l ih =>
        intro i hq
        have h1 := hK.eq a q.1 w h (hq q (.head _))
        show (Instr.findAsking t (ia a) (_ :: ents _ l) i).run P w = _
        by_cases e : q.1 = a
        · rw [decide_eq_true e.symm] at h1
          simp only [Instr.findAsking, Sem.run_bind, h1, Result.andThen_ok, idxA, if_pos e]
          rfl
        · rw [decide_eq_false (fun z => e z.symm)] at h1
          simp only [Instr.findAsking, Sem.run_bind, h1, Result.andThen_ok, idxA, if_neg e]
          exact ih (i + 1) fun x hx => hq x (.tail _ hx)
    cases l with
    | nil => exact h0 a w
    | cons q l =>
      have h1 := hn a { key := ia q.1, val := q.2.1, born := q.2.2 } (ents (fun l : List Int => ia l) l)
      have h2 := key (q :: l) 0 hall
      have h3 : ents (fun l : List Int => ia l) (q :: l) = { key := ia q.1, val := q.2.1, born := q.2.2 } :: ents (fun l : List Int => ia l) l := rfl
      rw [h3] at h2 ⊢
      simp only [Instr.findKey, Sem.run_bind, run_underlying hu, Result.andThen_ok, h1]
      exact h2
  stay := fun a _ => by
    show Instr.sameBits (9999 + 1) (.agg (iv a).toArray) (.agg (iv a).toArray) = true
    have : ∀ l : List Int, ((iv l).zip (iv l)).all (fun x => Instr.sameBits 9999 x.1 x.2) = true := by
      intro l
      induction l with
      | nil => rfl
      | cons z l ih => simp only [iv, List.map_cons, List.zip_cons_cons, List.all_cons]; rw [show Instr.sameBits 9999 (.int .i64 z) (.int .i64 z) = true by simp [Instr.sameBits]]; exact ih
    simp [Instr.sameBits]
    simpa using this a
end Go.Rt
/- The walking engine, part 19: structs of two ints and a bool compared; slices of bools that are made. No conditions. -/
namespace Go.Rt
open Go.RowKit
variable {r : Option Nat} {P : Program} {ops : Array Oper} {Q : Exit → Act → World → Prop} {rest : List Oper} {n : Nat} {ρ : Nat → Value} {ds : List Deferred} {w w0 : World} {L : List (Nat × Obj)}
  {d : Option Tmp} {ty : TypeId} {p : String} {e : Array Edge} {g : Option (Nat × Bool)}
end Go.Rt
/- Plain laws of maps as lists: what is left of a range, values that are ints. No conditions. -/
set_option linter.unusedSectionVars false
namespace Go.Rt
open Go.RowKit
section
variable {α : Type} [DecidableEq α]
def IntsTo (B : Int) (l : List (α × Value × Nat)) : Prop := ∀ q ∈ l, ∃ z : Int, q.2.1 = .int .i64 z ∧ 0 ≤ z ∧ z ≤ B
theorem IntsTo.put {B B' : Int} {l : List (α × Value × Nat)} (h : IntsTo B l) (hB : B ≤ B') {a : α} {z : Int} (hz : 0 ≤ z ∧ z ≤ B') (ck : Nat) : IntsTo B' (putA a (.int .i64 z) ck l) := by
  intro q hq
  rcases zHz hq with ⟨_, h2⟩ | h2
  · exact ⟨z, h2, hz⟩
  · obtain ⟨y, h3, h4⟩ := h q h2
    exact ⟨y, h3, by omega⟩
end
section
variable {P : Program} {n : Nat} {ρ : Nat → Value} {ds : List Deferred} {w w0 : World} {L : List (Nat × Obj)} {d : Option Tmp} {ty : TypeId} {p : String} {e : Array Edge} {g : Option (Nat × Bool)} {α : Type} [DecidableEq α] {kv : α → Value} {ok : α → Prop}
end
end Go.Rt
/- The walking engine, part 20: lookups in maps whose values are told by their keys. No conditions. -/
set_option linter.unusedSectionVars false
namespace Go.Rt
open Go.RowKit
variable {P : Program} {n : Nat} {ρ : Nat → Value} {ds : List Deferred} {w w0 : World} {L : List (Nat × Obj)} {d : Option Tmp} {ty : TypeId} {p : String} {e : Array Edge} {g : Option (Nat × Bool)} {α : Type} [DecidableEq α] {kv : α → Value} {ok : α → Prop}
theorem keyTy_array {t el : TypeId} {k : Nat} (hu : P.underlying t = some (.array k el)) (hel : P.underlying el = some (.int .i64)) (hs : ∀ w, (sizeOf el).run P w = .ok 1 w) (hf : flatInts P t k = true) : KeyTy P t k where
  chk := fun em l w hl => by
    unfold ia
    exact zHr (dd := 9998) hu (by first | simpa using hl | omega) hel hs
  eq := fun l m w hl hm => by
    show (Op.equalIn (9998 + 2) t (ia l) (ia m)).run P w = _
    exact zDt 9998 (by rw [hl]; exact hf) (by rw [hl, hm])
  desc := by
    refine ⟨_, hu, fun l e es => ?_, fun l w => ?_⟩
    · simp [Instr.findNow, Instr.sameNow]
    · simp [Instr.findKey, Sem.run_bind, run_underlying hu, Result.andThen, Instr.findNow]
end Go.Rt
set_option maxRecDepth 20000
namespace Go.Proofs.Ro
open Go.Proofs.Tryz
open Go.Rt Go.Rt.Ro
open Go.Rt.Ha (bit listL)
attribute [local irreducible] WL WC Con Yd At Ats Sl Agree DW
theorem zHm (x0 : Int) (w : World) : (Instr.buildSlice 30 1 [(0, .int .i64 x0)].toArray).run Tryz.prog w = .ok (.slice (some ⟨w.heap.size, 0, none⟩) 1 1) (w.alloc (Go.Rt.blk 3 [.int .i64 x0])) := by kernel_rfl
structure RIn (w0 : World) (F : List (Nat × Obj)) (r : Room) (p : AtR) : Prop where
  s : Sl w0 F p.as_ 3 (trows r.sets)
  n : Sl w0 F p.ar 1 (r.ran.map fun x => [Value.int .i64 x])
  l : Sl w0 F p.al 2 (lrows r.looks)
  ls : r.sets.length ≤ 9223372036854775807 ∧ r.sets.length ≤ p.cs
  ln : r.ran.length ≤ 9223372036854775807
  ll : r.looks.length ≤ 9223372036854775807
  nm : ∀ x ∈ r.sets, x.name.size ≤ 9223372036854775807
theorem RIn.mono {w0 : World} {F F' : List (Nat × Obj)} {r : Room} {p : AtR} (h : RIn w0 F r p) (hs : ∀ w, St w0 w F' → St w0 w F) : RIn w0 F' r p := ⟨h.s.mono hs, h.n.mono hs, h.l.mono hs, h.ls, h.ln, h.ll, h.nm⟩
theorem RIn.cons {w0 : World} {F : List (Nat × Obj)} {x : Nat × Obj} {r : Room} {p : AtR} (h : RIn w0 F r p) : RIn w0 (x :: F) r p := h.mono fun _ h => h.tail
theorem RIn.app {w0 : World} {F B : List (Nat × Obj)} {r : Room} {p : AtR} (h : RIn w0 F r p) : RIn w0 (B ++ F) r p := h.mono fun _ h => h.drop
theorem sl_trows {w0 : World} {F : List (Nat × Obj)} {a : Option Addr} {l : List Sett} {i : Nat} (h : Sl w0 F a 3 (trows l)) (hi : i < l.length) : ∃ b off, a = some ⟨b, off, none⟩ ∧ Ats w0 F b (off + i * 3) (l[i].cells) := by
  obtain ⟨b, off, ha, _, hat⟩ := h.at (i := i) (row := l[i].cells) (by simp [trows, hi])
  exact ⟨b, off, ha, hat⟩
theorem sl_lrows {w0 : World} {F : List (Nat × Obj)} {a : Option Addr} {l : List (Int × Int)} {i : Nat} (h : Sl w0 F a 2 (lrows l)) (hi : i < l.length) : ∃ b off, a = some ⟨b, off, none⟩ ∧ Ats w0 F b (off + i * 2) (lcells l[i]) := by
  obtain ⟨b, off, ha, _, hat⟩ := h.at (i := i) (row := lcells l[i]) (by simp [lrows, hi])
  exact ⟨b, off, ha, hat⟩
theorem zCq {P : Program} {a : Act} {o : Oper} {w : World} {x y : Option Addr} {l c : Nat} (h : x = y) (hy : Yd P a o w (.slice x l c)) : Yd P a o w (.slice y l c) := h ▸ hy
theorem zCt {P : Program} {a : Act} {o : Oper} {w : World} {k : IntKind} {z z' : Int} (h : z = z') (hy : Yd P a o w (.int k z)) : Yd P a o w (.int k z') := h ▸ hy
theorem c88 {w0 w : World} {F : List (Nat × Obj)} (a : Option Addr) (c : Nat) (l : List (Sett)) (lo most : Int) (hlm : lo ≤ l.length ∧ l.length ≤ most) (hbig : l.length ≤ 1000) (ha : Sl w0 F a 3 (trows l)) (fv : Value)
    (hp : ∀ (i : Nat) (hi : i < l.length) (X : List (Nat × Obj)) (w : World), St w0 w (X ++ F) → FCon Tryz.prog fv [.int .i64 (i : Int), .agg (l[i].cells).toArray] w fun v w' => v = .int .i64 0 ∧ St w0 w' (X ++ F)) (hs : St w0 w F) :
  Con Tryz.prog 88 [.slice a l.length c, .int .i64 lo, .int .i64 most, fv] w fun v w' => v = .tuple #[.int .i64 0, .int .i64 0] ∧ St w0 w' F := by
  refine zAo (n := 35) func88 rfl rfl (zNl rfl) ?_
  refine zAf (fun K2 g6 => (zAa (zA9 rfl rfl (zA9 rfl rfl (zAe (zAb (g6 _ _ (zAf (fun K4 g7 => (zAf (fun K6 g8 => (zAa (zA2 rfl rfl (zA2 rfl rfl ?_))))))))))))))
  refine w_p (zAx rfl rfl) rfl (w_p (zBd underlying29 rfl rfl) rfl (zBc (ps := [(0, _)]) (pv := [(0, .int _ _)]) (cs := [_]) zAc rfl rfl (fun w => zHm _ w) hs (fun b7 w8 g9 => ?_)))
  refine zCi zAc call51 rfl rfl rfl rfl (c51 _ _ _ [_] _ (by simp) (zBx (i := 0) (rows := [[_]]) rfl (by simp) rfl) g9) (fun gq ga => ?_)
  refine zAe (zAb (g8 _ _ (zAv rfl rfl (fun g3 => ?_) (fun g3 => ?_))))
  ·
   exfalso
   try simp only [zS] at g3
   simp [out] at g3; omega
  try simp only [zS] at g3
  refine zAr (zAb (g7 _ _ (zAf (fun gr gb => (zAf (fun gt gc => (zAa (w_p (zAx rfl rfl) rfl (w_p (zBd underlying29 rfl rfl) rfl (w_p (zBo (v := _) rfl rfl) rfl ?_))))))))))
  refine zAe (zAb (gc _ _ (zAw ?_)))
  refine zB2 [8,9,10,11,12,21,22,23,24,25,26,27,28,29,30,31,32,33,34] [21] (fun k vs w => ∃ (i : Nat), vs = [.int .i64 i] ∧ i ≤ l.length ∧ k = l.length - i ∧ St w0 w F) (l.length) ?_ ?_
  ·
   exact ⟨0, rfl, by omega, by omega, ga.tail⟩
  intro k vs μ gu hI gw gd
  clear hs
  obtain ⟨i, rfl, hia, rfl, hs⟩ := hI
  refine zAf (fun gx ge => (zAa (w_p (zCb rfl rfl rfl rfl) rfl (zAe (zAb (ge _ _ (zAf (fun gy gf => (zAv rfl rfl (fun g4 => ?_) (fun g4 => ?_))))))))))
  ·
   try simp only [zS] at g4
   refine zAr (zAb (gf _ _ (zAf (fun gz gg => (zAw ?_)))))
   refine zAf (fun gA gh => ?_)
   have hi2 : i < l.length := by omega
   obtain ⟨bx, ox, rfl, hx⟩ := sl_trows ha hi2
   refine zAa (zA2 rfl rfl (w_p (zA7 underlying29 sizeOf61 rfl rfl rfl rfl (i := _) rfl (by omega)) rfl (w_p (zAs (vs := [_,_,_]) isAgg61 sizeOf61 hs rfl rfl hx) rfl (zA5 (cs := [_,_,_]) zAc zeroValue61 rfl hs (fun gB gC gi => ?_)))))
   refine zBg rfl rfl (zBt 0 (.agg #[.string _, .int _ _, .int _ _]) [_,_,_] sizeOf61 gi (fun gD g5 => ?_))
   refine zAe (zAb (gh _ _ (zAf (fun gE gj => (zAa (w_p (zBo (v := fv) rfl rfl) rfl (zA2 rfl rfl (w_p (zAs (vs := [_,_,_]) isAgg61 sizeOf61 g5 rfl rfl (aow 0 [_,_,_])) rfl ?_))))))))
   refine zEa zAc rfl rfl rfl rfl (hp i hi2 [_] _ g5) ?_
   rintro _ gF ⟨rfl, gk⟩
   refine zBg rfl rfl (zAe (zAb (gj _ _ (zAf (fun gG gm => (zAa (zA2 rfl rfl (w_p (zCj rfl rfl rfl rfl) rfl (zAe (zAb (gm _ _ (zBj rfl rfl ?_))))))))))))
   refine zAr (zAk (zAb (gg _ _ (zAa (w_p (zBe rfl rfl rfl rfl (by omega) (by omega)) rfl (zA2 rfl rfl (zAe (zAb (gd _ _ (nxI (l.length - (i + 1)) (by omega) ?_))))))))))
   exact ⟨i + 1, rfl, by omega, rfl, gk.tail⟩
  try simp only [zS] at g4
  refine zBr (zAj (zAj (zAy (zAb (gb _ _ (zAf (fun gH gn => (zAa (zA9 rfl rfl (zA9 rfl rfl (zAe (zAb (gn _ _ (zA0 (zA1 (l := [.tmp 8, .tmp 9]) (vs := [_,_]) rfl ⟨⟨rfl, (rfl : _ = Value.int _ _)⟩, ⟨rfl, (rfl : _ = Value.int _ _)⟩, trivial⟩ ?_)))))))))))))))
  exact ⟨rfl, hs⟩

theorem c93 {w0 w : World} {F : List (Nat × Obj)} (a : Option Addr) (c : Nat) (l : List (Int)) (lo most : Int) (hlm : lo ≤ l.length ∧ l.length ≤ most) (hbig : l.length ≤ 1000) (ha : Sl w0 F a 1 (l.map fun x => [Value.int .i64 x])) (fv : Value)
    (hp : ∀ (i : Nat) (hi : i < l.length) (X : List (Nat × Obj)) (w : World), St w0 w (X ++ F) → FCon Tryz.prog fv [.int .i64 (i : Int), .int .i64 l[i]] w fun v w' => v = .int .i64 0 ∧ St w0 w' (X ++ F)) (hs : St w0 w F) :
  Con Tryz.prog 93 [.slice a l.length c, .int .i64 lo, .int .i64 most, fv] w fun v w' => v = .tuple #[.int .i64 0, .int .i64 0] ∧ St w0 w' F := by
  refine zAo (n := 35) func93 rfl rfl (zNl rfl) ?_
  refine zAf (fun K2 g5 => (zAa (zA9 rfl rfl (zA9 rfl rfl (zAe (zAb (g5 _ _ (zAf (fun K4 g6 => (zAf (fun K6 g7 => (zAa (zA2 rfl rfl (zA2 rfl rfl ?_))))))))))))))
  refine w_p (zAx rfl rfl) rfl (w_p (zBd underlying30 rfl rfl) rfl (zBc (ps := [(0, _)]) (pv := [(0, .int _ _)]) (cs := [_]) zAc rfl rfl (fun w => zHm _ w) hs (fun b7 w8 g8 => ?_)))
  refine zCi zAc call51 rfl rfl rfl rfl (c51 _ _ _ [_] _ (by simp) (zBx (i := 0) (rows := [[_]]) rfl (by simp) rfl) g8) (fun gm g9 => ?_)
  refine zAe (zAb (g7 _ _ (zAv rfl rfl (fun g3 => ?_) (fun g3 => ?_))))
  ·
   exfalso
   try simp only [zS] at g3
   simp [out] at g3; omega
  try simp only [zS] at g3
  refine zAr (zAb (g6 _ _ (zAf (fun gn ga => (zAf (fun gq gb => (zAa (w_p (zAx rfl rfl) rfl (w_p (zBd underlying30 rfl rfl) rfl (w_p (zBo (v := _) rfl rfl) rfl ?_))))))))))
  refine zAe (zAb (gb _ _ (zAw ?_)))
  refine zB2 [8,9,10,11,12,21,22,23,24,25,26,27,28,29,30,31,32,33,34] [21] (fun k vs w => ∃ (i : Nat), vs = [.int .i64 i] ∧ i ≤ l.length ∧ k = l.length - i ∧ St w0 w F) (l.length) ?_ ?_
  ·
   exact ⟨0, rfl, by omega, by omega, g9.tail⟩
  intro k vs μ gr hI gt gc
  clear hs
  obtain ⟨i, rfl, hia, rfl, hs⟩ := hI
  refine zAf (fun gu gd => (zAa (w_p (zCb rfl rfl rfl rfl) rfl (zAe (zAb (gd _ _ (zAf (fun gw ge => (zAv rfl rfl (fun g4 => ?_) (fun g4 => ?_))))))))))
  ·
   try simp only [zS] at g4
   refine zAr (zAb (ge _ _ (zAf (fun gx gf => (zAw ?_)))))
   refine zAf (fun gy gg => ?_)
   have hi2 : i < l.length := by omega
   obtain ⟨bx, ox, rfl, hx⟩ := zCy ha hi2
   refine zAa (zA2 rfl rfl (w_p (zA7 underlying30 sizeOf3 rfl rfl rfl rfl (i := _) rfl (by omega)) rfl (w_p (zAi isAgg3 hs rfl rfl hx) rfl (zBg rfl rfl (zBg rfl rfl (zAe (zAb (gg _ _ (zAf (fun gz gh => (zAa (w_p (zBo (v := fv) rfl rfl) rfl ?_))))))))))))
   refine zA2 rfl rfl (zA2 rfl rfl (zEa zAc rfl rfl rfl rfl (hp i hi2 [] _ hs) ?_))
   rintro _ gA ⟨rfl, gi⟩
   refine zBg rfl rfl (zAe (zAb (gh _ _ (zAf (fun gB gj => (zAa (zA2 rfl rfl (w_p (zCj rfl rfl rfl rfl) rfl (zAe (zAb (gj _ _ (zBj rfl rfl ?_))))))))))))
   refine zAr (zAk (zAb (gf _ _ (zAa (w_p (zBe rfl rfl rfl rfl (by omega) (by omega)) rfl (zA2 rfl rfl (zAe (zAb (gc _ _ (nxI (l.length - (i + 1)) (by omega) ?_))))))))))
   exact ⟨i + 1, rfl, by omega, rfl, gi⟩
  try simp only [zS] at g4
  refine zBr (zAj (zAj (zAy (zAb (ga _ _ (zAf (fun gC gk => (zAa (zA9 rfl rfl (zA9 rfl rfl (zAe (zAb (gk _ _ (zA0 (zA1 (l := [.tmp 8, .tmp 9]) (vs := [_,_]) rfl ⟨⟨rfl, (rfl : _ = Value.int _ _)⟩, ⟨rfl, (rfl : _ = Value.int _ _)⟩, trivial⟩ ?_)))))))))))))))
  exact ⟨rfl, hs⟩

theorem c95 {w0 w : World} {F : List (Nat × Obj)} (a : Option Addr) (c : Nat) (l : List (Int × Int)) (lo most : Int) (hlm : lo ≤ l.length ∧ l.length ≤ most) (hbig : l.length ≤ 1000) (ha : Sl w0 F a 2 (lrows l)) (fv : Value)
    (hp : ∀ (i : Nat) (hi : i < l.length) (X : List (Nat × Obj)) (w : World), St w0 w (X ++ F) → FCon Tryz.prog fv [.int .i64 (i : Int), .agg (lcells l[i]).toArray] w fun v w' => v = .int .i64 0 ∧ St w0 w' (X ++ F)) (hs : St w0 w F) :
  Con Tryz.prog 95 [.slice a l.length c, .int .i64 lo, .int .i64 most, fv] w fun v w' => v = .tuple #[.int .i64 0, .int .i64 0] ∧ St w0 w' F := by
  refine zAo (n := 35) func95 rfl rfl (zNl rfl) ?_
  refine zAf (fun K2 g6 => (zAa (zA9 rfl rfl (zA9 rfl rfl (zAe (zAb (g6 _ _ (zAf (fun K4 g7 => (zAf (fun K6 g8 => (zAa (zA2 rfl rfl (zA2 rfl rfl ?_))))))))))))))
  refine w_p (zAx rfl rfl) rfl (w_p (zBd underlying31 rfl rfl) rfl (zBc (ps := [(0, _)]) (pv := [(0, .int _ _)]) (cs := [_]) zAc rfl rfl (fun w => zHm _ w) hs (fun b7 w8 g9 => ?_)))
  refine zCi zAc call51 rfl rfl rfl rfl (c51 _ _ _ [_] _ (by simp) (zBx (i := 0) (rows := [[_]]) rfl (by simp) rfl) g9) (fun gq ga => ?_)
  refine zAe (zAb (g8 _ _ (zAv rfl rfl (fun g3 => ?_) (fun g3 => ?_))))
  ·
   exfalso
   try simp only [zS] at g3
   simp [out] at g3; omega
  try simp only [zS] at g3
  refine zAr (zAb (g7 _ _ (zAf (fun gr gb => (zAf (fun gt gc => (zAa (w_p (zAx rfl rfl) rfl (w_p (zBd underlying31 rfl rfl) rfl (w_p (zBo (v := _) rfl rfl) rfl ?_))))))))))
  refine zAe (zAb (gc _ _ (zAw ?_)))
  refine zB2 [8,9,10,11,12,21,22,23,24,25,26,27,28,29,30,31,32,33,34] [21] (fun k vs w => ∃ (i : Nat), vs = [.int .i64 i] ∧ i ≤ l.length ∧ k = l.length - i ∧ St w0 w F) (l.length) ?_ ?_
  ·
   exact ⟨0, rfl, by omega, by omega, ga.tail⟩
  intro k vs μ gu hI gw gd
  clear hs
  obtain ⟨i, rfl, hia, rfl, hs⟩ := hI
  refine zAf (fun gx ge => (zAa (w_p (zCb rfl rfl rfl rfl) rfl (zAe (zAb (ge _ _ (zAf (fun gy gf => (zAv rfl rfl (fun g4 => ?_) (fun g4 => ?_))))))))))
  ·
   try simp only [zS] at g4
   refine zAr (zAb (gf _ _ (zAf (fun gz gg => (zAw ?_)))))
   refine zAf (fun gA gh => ?_)
   have hi2 : i < l.length := by omega
   obtain ⟨bx, ox, rfl, hx⟩ := sl_lrows ha hi2
   refine zAa (zA2 rfl rfl (w_p (zA7 underlying31 sizeOf64 rfl rfl rfl rfl (i := _) rfl (by omega)) rfl (w_p (zAs (vs := [_,_]) isAgg64 sizeOf64 hs rfl rfl hx) rfl (zA5 (cs := [_,_]) zAc zeroValue64 rfl hs (fun gB gC gi => ?_)))))
   refine zBg rfl rfl (zBt 0 (.agg #[.int _ _, .int _ _]) [_,_] sizeOf64 gi (fun gD g5 => ?_))
   refine zAe (zAb (gh _ _ (zAf (fun gE gj => (zAa (w_p (zBo (v := fv) rfl rfl) rfl (zA2 rfl rfl (w_p (zAs (vs := [_,_]) isAgg64 sizeOf64 g5 rfl rfl (aow 0 [_,_])) rfl ?_))))))))
   refine zEa zAc rfl rfl rfl rfl (hp i hi2 [_] _ g5) ?_
   rintro _ gF ⟨rfl, gk⟩
   refine zBg rfl rfl (zAe (zAb (gj _ _ (zAf (fun gG gm => (zAa (zA2 rfl rfl (w_p (zCj rfl rfl rfl rfl) rfl (zAe (zAb (gm _ _ (zBj rfl rfl ?_))))))))))))
   refine zAr (zAk (zAb (gg _ _ (zAa (w_p (zBe rfl rfl rfl rfl (by omega) (by omega)) rfl (zA2 rfl rfl (zAe (zAb (gd _ _ (nxI (l.length - (i + 1)) (by omega) ?_))))))))))
   exact ⟨i + 1, rfl, by omega, rfl, gk.tail⟩
  try simp only [zS] at g4
  refine zBr (zAj (zAj (zAy (zAb (gb _ _ (zAf (fun gH gn => (zAa (zA9 rfl rfl (zA9 rfl rfl (zAe (zAb (gn _ _ (zA0 (zA1 (l := [.tmp 8, .tmp 9]) (vs := [_,_]) rfl ⟨⟨rfl, (rfl : _ = Value.int _ _)⟩, ⟨rfl, (rfl : _ = Value.int _ _)⟩, trivial⟩ ?_)))))))))))))))
  exact ⟨rfl, hs⟩

end Go.Proofs.Ro
set_option maxRecDepth 20000
namespace Go.Proofs.Ro
open Go.Proofs.Tryz
open Go.Rt Go.Rt.Ro
open Go.Rt.Ha (bit listL)
attribute [local irreducible] WL WC Con Yd At Ats Sl Agree DW
theorem zE5 (x0 : Int) (w : World) : (Instr.buildSlice 30 1 [(0, .int .i64 x0)].toArray).run Tryz.prog w = .ok (.slice (some ⟨w.heap.size, 0, none⟩) 1 1) (w.alloc (Go.Rt.blk 3 [.int .i64 x0])) := by kernel_rfl
theorem Try_QB_fb1 (x0 : Int) (x1 : Int) (w : World) : (Instr.buildSlice 30 2 [(0, .int .i64 x0),(1, .int .i64 x1)].toArray).run Tryz.prog w = .ok (.slice (some ⟨w.heap.size, 0, none⟩) 2 2) (w.alloc (Go.Rt.blk 3 [.int .i64 x0, .int .i64 x1])) := by kernel_rfl
theorem Try_QB_fb2 (x0 : Int) (x1 : Go.Fn) (a1 c1 : Array Value) (w : World) : (Instr.build 155 [(0, .int .i64 x0),(1, .func x1 a1 c1)].toArray).run Tryz.prog w = .ok (.agg #[.int .i64 x0, .func x1 a1 c1]) w := by kernel_rfl
theorem Try_QB_fb3 (x0 : Int) (x1 : Go.Fn) (a1 c1 : Array Value) (x2 : Int) (x3 : Go.Fn) (a3 c3 : Array Value) (w : World) : (Instr.buildSlice 151 2 [(0, .agg #[.int .i64 x0, .func x1 a1 c1]),(1, .agg #[.int .i64 x2, .func x3 a3 c3])].toArray).run Tryz.prog w = .ok (.slice (some ⟨w.heap.size, 0, none⟩) 2 2) (w.alloc (Go.Rt.blk 155 [.int .i64 x0, .func x1 a1 c1, .int .i64 x2, .func x3 a3 c3])) := by kernel_rfl
theorem c113 {w0 w : World} {F : List (Nat × Obj)} (r : Room) (p : AtR) (hr : r.Ok) (hs : St w0 w F) :
  Con Tryz.prog 113 [.agg (r.cells p).toArray] w fun v w' => v = .bool true ∧ St w0 w' F := by
  refine zAo (n := 26) func113 rfl rfl (zNl rfl) ?_
  have hd := hr.days
  have hst := hr.start
  have hop := hr.opens
  have hls := hr.ls
  have hlr := hr.lr
  have hll := hr.ll
  refine zAf (fun K2 g8 => (zAa (zCd (v := .agg #[.int _ _, .int _ _, .int _ _, .slice _ _ _, .int _ _, .slice _ _ _, .slice _ _ _]) (cs := [_,_,_,_,_,_,_]) zAc rfl rfl rfl hs (fun b3 w4 g6 => ?_))))
  refine zA9 rfl rfl (zAe (zAb (g8 _ _ (zAf (fun K7 g9 => (zAa (w_p (zAd (o := 0) (i := 0) underlying33 rfl sizeOf3 rfl rfl rfl) rfl (w_p (zAi isAgg3 g6 rfl rfl (aow 0 [_])) rfl ?_))))))))
  refine zBc (ps := [(0, _)]) (pv := [(0, .int _ _)]) (cs := [_]) zAc rfl rfl (fun w => zE5 _ w) g6 (fun b8 w9 ga => ?_)
  refine zCi zAc call51 rfl rfl rfl rfl (c51 _ _ _ [_] _ (by simp) (zBx (i := 0) (rows := [[_]]) rfl (by simp) rfl) ga) (fun ge g5 => ?_)
  refine w_p (zC0 rfl rfl) rfl (w_p (zAn rfl rfl) rfl (zBk (fun g3 => ?_) (fun g3 => ?_)))
  ·
   try simp only [zS] at g3
   refine w_y rfl rfl rfl (zAd (o := 1) (i := 1) underlying33 rfl sizeOf28 rfl rfl rfl) rfl ?_
   refine w_y rfl rfl rfl (zAd (o := 0) (i := 0) underlying28 rfl sizeOf3 rfl rfl rfl) rfl ?_
   refine w_y rfl rfl rfl (zAi isAgg3 g5 rfl rfl (aow 1 [_])) rfl ?_
   refine w_y rfl rfl rfl (zAd (o := 1) (i := 1) underlying33 rfl sizeOf28 rfl rfl rfl) rfl ?_
   refine w_y rfl rfl rfl (zAd (o := 1) (i := 1) underlying28 rfl sizeOf3 rfl rfl rfl) rfl ?_
   refine w_y rfl rfl rfl (zAi isAgg3 g5 rfl rfl (aow 1 [_])) rfl ?_
   refine zBc (ps := [(0, _),(1, _)]) (pv := [(0, .int _ _),(1, .int _ _)]) (cs := [_,_]) (zAm rfl rfl rfl) rfl rfl (fun w => Try_QB_fb1 _ _ w) g5 (fun gf gg gb => ?_)
   refine zA4 (zAm rfl rfl rfl) call51 rfl rfl rfl rfl (c51 _ _ _ [_,_] _ (by simp) (zBx (i := 0) (rows := [[_], [_]]) rfl (by simp) rfl) gb) ?_
   rintro _ gh ⟨rfl, g7⟩
   refine w_y rfl rfl rfl (zC0 rfl rfl) rfl ?_
   refine w_p (zAt (v := .bool _) rfl rfl rfl rfl) rfl (w_p (zAn rfl rfl) rfl (zBk (fun g4 => ?_) (fun g4 => ?_)))
   ·
    try simp only [zS] at g4
    refine w_y rfl rfl rfl (zAd (o := 4) (i := 3) underlying33 rfl sizeOf3 rfl rfl rfl) rfl ?_
    refine w_y rfl rfl rfl (zAi isAgg3 g7 rfl rfl (aow 2 [_])) rfl ?_
    refine zBc (ps := [(0, _)]) (pv := [(0, .int _ _)]) (cs := [_]) (zAm rfl rfl rfl) rfl rfl (fun w => zE5 _ w) g7 (fun gi gj gc => ?_)
    refine zA4 (zAm rfl rfl rfl) call51 rfl rfl rfl rfl (c51 _ _ _ [_] _ (by simp) (zBx (i := 0) (rows := [[_]]) rfl (by simp) rfl) gc) ?_
    rintro _ gk ⟨rfl, gd⟩
    refine w_y rfl rfl rfl (zC0 rfl rfl) rfl ?_
    refine w_p (zAt (v := .bool _) rfl rfl rfl rfl) rfl (w_p (zAl rfl rfl) rfl (zAe (zAb (g9 _ _ (zA0 (zA1 (l := [.tmp 2]) (vs := [_]) rfl ⟨⟨rfl, (rfl : _ = Value.bool _)⟩, trivial⟩ ?_))))))
    exact ⟨congrArg Value.bool (by simp [out]; omega), gd.tail.tail.tail.tail⟩
   exfalso
   try simp only [zS] at g4
   simp [out] at g4; omega
  exfalso
  try simp only [zS] at g3
  simp [out] at g3; omega

theorem c114 {w0 w : World} {F : List (Nat × Obj)} (r : Room) (p : AtR) (hr : r.Ok) (hs : St w0 w F) :
  Con Tryz.prog 114 [.agg (r.cells p).toArray] w fun v w' => v = .bool true ∧ St w0 w' F := by
  refine zAo (n := 10) func114 rfl rfl (zNl rfl) ?_
  have hd := hr.days
  have hst := hr.start
  have hop := hr.opens
  have hls := hr.ls
  have hlr := hr.lr
  have hll := hr.ll
  refine zAf (fun K2 g4 => (zAa (zCd (v := .agg #[.int _ _, .int _ _, .int _ _, .slice _ _ _, .int _ _, .slice _ _ _, .slice _ _ _]) (cs := [_,_,_,_,_,_,_]) zAc rfl rfl rfl hs (fun b3 w4 g3 => ?_))))
  refine zA9 rfl rfl (zAe (zAb (g4 _ _ (zAf (fun K7 g5 => (zAa (w_p (zAd (o := 1) (i := 1) underlying33 rfl sizeOf28 rfl rfl rfl) rfl (w_p (zAd (o := 0) (i := 0) underlying28 rfl sizeOf3 rfl rfl rfl) rfl ?_))))))))
  refine w_p (zAi isAgg3 g3 rfl rfl (aow 0 [_])) rfl (w_p (zAd (o := 1) (i := 1) underlying33 rfl sizeOf28 rfl rfl rfl) rfl (w_p (zAd (o := 1) (i := 1) underlying28 rfl sizeOf3 rfl rfl rfl) rfl (w_p (zAi isAgg3 g3 rfl rfl (aow 0 [_])) rfl ?_)))
  refine w_p (y_leq rfl rfl rfl rfl) rfl (w_p (zAl rfl rfl) rfl (zAe (zAb (g5 _ _ (zA0 (zA1 (l := [.tmp 2]) (vs := [_]) rfl ⟨⟨rfl, (rfl : _ = Value.bool _)⟩, trivial⟩ ?_))))))
  exact ⟨congrArg Value.bool (by simp; omega), g3.tail⟩

def rK : Nat → Nat
  | 0 => 113
  | _ => 114
def rE : Nat → Int
  | 0 => 7
  | _ => 2
def rCells : List Value := [.int .i64 7, .func (.func 113) #[] #[], .int .i64 2, .func (.func 114) #[] #[]]
theorem rule_at {w0 : World} {L : List (Nat × Obj)} {b i j : Nat} (hi : L[i]? = some (b, blk 155 rCells)) (hj : j < 2) : Ats w0 L b (0 + j * 2) [.int .i64 (rE j), .func (.func (rK j)) #[] #[]] := by
  match j, hj with
  | 0, _ => exact zBm hi rfl
  | 1, _ => exact zBm hi rfl
theorem rule_con {w0 w : World} {F : List (Nat × Obj)} (r : Room) (p : AtR) (hr : r.Ok) (j : Nat) (hj : j < 2) (hs : St w0 w F) : FCon Tryz.prog (.func (.func (rK j)) #[] #[]) [.agg (r.cells p).toArray] w fun v w' => v = .bool true ∧ St w0 w' F := by
  match j, hj with
  | 0, _ => exact zDs call113 (c113 r p hr hs)
  | 1, _ => exact zDs call114 (c114 r p hr hs)
theorem c87 {w0 w : World} {F : List (Nat × Obj)}  (hs : St w0 w F) :
  Con Tryz.prog 87 [] w fun v w' => ∃ b, v = .slice (some ⟨b, 0, none⟩) 2 2 ∧ St w0 w' ((b, blk 155 rCells) :: F) := by
  refine zAo (n := 4) func87 rfl rfl (zNl rfl) ?_
  refine zAf (fun K2 g3 => (zAa (zA9 rfl rfl (zAe (zAb (g3 _ _ (zAf (fun K4 g4 => (zAa (w_p (zCh (ps := [(0, _),(1, _)]) (pv := [(0, .int _ _),(1, .func _ _ _)]) rfl rfl (fun w => Try_QB_fb2 _ _ _ _ w)) rfl ?_))))))))))
  refine w_p (zCh (ps := [(0, _),(1, _)]) (pv := [(0, .int _ _),(1, .func _ _ _)]) rfl rfl (fun w => Try_QB_fb2 _ _ _ _ w)) rfl (zBc (ps := [(0, _),(1, _)]) (pv := [(0, .agg #[.int _ _, .func _ _ _]),(1, .agg #[.int _ _, .func _ _ _])]) (cs := [_,_,_,_]) zAc rfl rfl (fun w => Try_QB_fb3 _ _ _ _ _ _ _ _ w) hs (fun b5 w6 g5 => ?_))
  refine w_p (zBh rfl rfl) rfl (zAe (zAb (g4 _ _ (zA0 (zA1 (l := [.tmp 0]) (vs := [_]) rfl ⟨⟨rfl, show _ = (.slice _ _ _ : Value) from rfl⟩, trivial⟩ ?_)))))
  exact ⟨_, rfl, g5⟩

theorem c116 {w0 w : World} {F : List (Nat × Obj)} (a : Option Addr) (c : Nat) (l : List Sett) (hl : l.length ≤ 1000) (ha : Sl w0 F a 3 (trows l)) (fv : Value) (hp : ∀ (i : Nat) (hi : i < l.length) (X : List (Nat × Obj)) (w : World), St w0 w (X ++ F) → FCon Tryz.prog fv [.agg (l[i].cells).toArray] w fun v w' => v = .bool false ∧ St w0 w' (X ++ F)) (hs : St w0 w F) :
  Con Tryz.prog 116 [.slice a l.length c, fv] w fun v w' => v = .int .i64 (-1) ∧ St w0 w' F := by
  refine zAo (n := 19) func116 rfl rfl (zNl rfl) ?_
  refine zAf (fun K2 g4 => (zAa (zA9 rfl rfl (zAe (zAb (g4 _ _ (zAf (fun K4 g5 => (zAf (fun K6 g6 => (zAa (w_p (zAx rfl rfl) rfl ?_))))))))))))
  refine w_p (zBd underlying29 rfl rfl) rfl (w_p (zBo (v := _) rfl rfl) rfl (zAe (zAb (g6 _ _ (zAw ?_)))))
  refine zB2 [4,5,8,9,10,11,12,13,14,15,16,17,18] [8] (fun k vs w => ∃ i : Nat, vs = [.int .i64 i] ∧ i ≤ l.length ∧ k = l.length - i ∧ St w0 w F) (l.length) ?_ ?_
  ·
   exact ⟨0, rfl, by omega, by omega, hs⟩
  intro k vs μ w9 hI K8 g7
  clear hs
  obtain ⟨i, rfl, hia, rfl, hs⟩ := hI
  refine zAf (fun gf g8 => (zAa (w_p (zCb rfl rfl rfl rfl) rfl (zAe (zAb (g8 _ _ (zAf (fun gg g9 => (zAv rfl rfl (fun g3 => ?_) (fun g3 => ?_))))))))))
  ·
   try simp only [zS] at g3
   refine zAr (zAb (g9 _ _ (zAf (fun gh ga => (zAw ?_)))))
   refine zAf (fun gi gb => (zAa (zA2 rfl rfl (zBg rfl rfl (zAe (zAb (gb _ _ (zAf (fun gj gc => ?_)))))))))
   have hi2 : i < l.length := by omega
   obtain ⟨bx, ox, rfl, hx⟩ := sl_trows ha hi2
   refine zAa (w_p (zBo (v := fv) rfl rfl) rfl (w_p (zAx rfl rfl) rfl (zA2 rfl rfl (w_p (zA7 underlying29 sizeOf61 rfl rfl rfl rfl (i := _) rfl (by omega)) rfl (w_p (zAs (vs := [_,_,_]) isAgg61 sizeOf61 hs rfl rfl hx) rfl ?_)))))
   refine zEa zAc rfl rfl rfl rfl (hp i hi2 [] _ hs) ?_
   rintro _ gk ⟨rfl, gd⟩
   refine zAe (zAb (gc _ _ (zBj rfl rfl ?_)))
   refine zAr (zAk (zAb (ga _ _ (zAa (w_p (zBe rfl rfl rfl rfl (by omega) (by omega)) rfl (zA2 rfl rfl (zAe (zAb (g7 _ _ (nxI (l.length - (i + 1)) (by omega) ?_))))))))))
   exact ⟨i + 1, rfl, by omega, rfl, gd⟩
  try simp only [zS] at g3
  refine zBr (zAj (zAj (zAy (zAb (g5 _ _ (zAf (fun gm ge => (zAa (zA9 rfl rfl (zAe (zAb (ge _ _ (zA0 (zA1 (l := [.tmp 4]) (vs := [_]) rfl ⟨⟨rfl, (rfl : _ = Value.int _ _)⟩, trivial⟩ ?_))))))))))))))
  exact ⟨rfl, hs⟩

theorem c91 {w0 w : World} {F : List (Nat × Obj)} (a : Option Addr) (c : Nat) (l : List Sett) (hl : l.length ≤ 1000) (ha : Sl w0 F a 3 (trows l)) (fv : Value) (hp : ∀ (i : Nat) (hi : i < l.length) (X : List (Nat × Obj)) (w : World), St w0 w (X ++ F) → FCon Tryz.prog fv [.agg (l[i].cells).toArray] w fun v w' => v = .bool false ∧ St w0 w' (X ++ F)) (hs : St w0 w F) :
  Con Tryz.prog 91 [.slice a l.length c, fv] w fun v w' => v = .bool false ∧ St w0 w' F := by
  refine zAo (n := 9) func91 rfl rfl (zNl rfl) ?_
  refine zAf (fun K2 g3 => (zAa (zA9 rfl rfl (zAe (zAb (g3 _ _ (zAf (fun K4 g4 => (zAa (w_p (zAx rfl rfl) rfl (w_p (zBo (v := fv) rfl rfl) rfl ?_)))))))))))
  refine zCi zAc call116 rfl rfl rfl rfl (c116 a c l hl ha fv hp hs) (fun w6 g5 => ?_)
  refine w_p (zHv rfl rfl rfl rfl) rfl (w_p (zAl rfl rfl) rfl (zAe (zAb (g4 _ _ (zA0 (zA1 (l := [.tmp 4]) (vs := [_]) rfl ⟨⟨rfl, (rfl : _ = Value.bool _)⟩, trivial⟩ ?_))))))
  exact ⟨rfl, g5⟩

theorem c92 {w0 w : World} {F : List (Nat × Obj)} (s x : Sett) (hne : ¬ x.name = s.name) (hxs : x.name.size ≤ 1000) (hss : s.name.size ≤ 1000) (b4 : Nat) (h4 : Ats w0 F b4 0 s.cells) (hs : St w0 w F) :
  Con Tryz.prog 92 [.agg (x.cells).toArray, .pointer (some ⟨b4,0, none⟩)] w fun v w' => v = .bool false ∧ St w0 w' F := by
  refine zAo (n := 9) func92 rfl rfl (zNl rfl) ?_
  refine zAf (fun K2 g4 => (zAa (zCd (v := .agg #[.string _, .int _ _, .int _ _]) (cs := [_,_,_]) zAc rfl rfl rfl hs (fun b3 w4 g3 => ?_))))
  refine zA9 rfl rfl (zAe (zAb (g4 _ _ (zAf (fun K7 g5 => (zAa (w_p (zAd (o := 0) (i := 0) underlying61 rfl sizeOf9 rfl rfl rfl) rfl (w_p (zAi isAgg9 g3 rfl rfl (aow 0 [_])) rfl ?_))))))))
  refine w_p (zAd (o := 0) (i := 0) underlying61 rfl sizeOf9 rfl rfl rfl) rfl (w_p (zAi isAgg9 g3.tail rfl rfl (show Ats _ _ _ _ [_] from Ats.part h4 0 1)) rfl (w_p (y_strEq rfl rfl rfl rfl) rfl (w_p (zAl rfl rfl) rfl (zAe (zAb (g5 _ _ (zA0 (zA1 (l := [.tmp 3]) (vs := [_]) rfl ⟨⟨rfl, (rfl : _ = Value.bool _)⟩, trivial⟩ ?_))))))))
  exact ⟨congrArg Value.bool (by simpa using hne), g3.tail⟩

theorem nm_size {s : ByteArray} (h : nmOk s = true) : s.size ≤ 1000 := by unfold nmOk at h; simp only [Bool.and_eq_true, decide_eq_true_eq] at h; omega
theorem name_ne {l : List Sett} (h : (l.map (·.name)).Nodup) {i j : Nat} (hi : i < l.length) (hj : j < (l.take i).length) : ¬ (l.take i)[j].name = l[i].name := by
  rw [List.nodup_iff_pairwise_ne, List.pairwise_iff_getElem] at h
  have hl := List.length_take (i := i) (l := l)
  have h2 := h j i (by simp; omega) (by simpa using hi) (by omega)
  simpa using h2
theorem sl_pre {w0 : World} {F : List (Nat × Obj)} {a : Option Addr} {l : List Sett} {i c : Nat} (h : Sl w0 F a 3 (trows l)) (hi : i ≤ l.length) (hc : l.length ≤ c) : Sl w0 F (if c = 0 then a else a.map (·.add (0 * 3))) 3 (trows (l.take i)) := by
  have h1 := h.cut (l' := 0) (h' := i) (c := c) (by omega) (by simpa [trows] using hi) (by simpa [trows] using hc)
  simpa [trows, List.map_take] using h1
theorem c89 {w0 w : World} {F : List (Nat × Obj)} (r : Room) (p : AtR) (hm : RIn w0 F r p) (hr : r.Ok) (b1 : Nat) (h1 : Ats w0 F b1 0 (r.cells p)) (i : Nat) (hi : i < r.sets.length) (hs : St w0 w F) :
  Con Tryz.prog 89 [.int .i64 (i : Int), .agg (r.sets[i].cells).toArray, .pointer (some ⟨b1,0, none⟩)] w fun v w' => v = .int .i64 0 ∧ St w0 w' F := by
  refine zAo (n := 35) func89 rfl rfl (zNl rfl) ?_
  have hd := hr.days
  have hst := hr.start
  have hop := hr.opens
  have hls := hr.ls
  have hlr := hr.lr
  have hll := hr.ll
  have g5 := hr.sets _ (List.getElem_mem hi)
  have hsz := nm_size g5.1
  have hcs := hm.ls.2
  have htk : (r.sets.take i).length = i := by rw [List.length_take]; omega
  refine zAf (fun K2 gc => (zAa (zCd (v := .agg #[.string _, .int _ _, .int _ _]) (cs := [_,_,_]) zAc rfl rfl rfl hs (fun b3 w4 ga => ?_))))
  refine zA9 rfl rfl (zAe (zAb (gc _ _ (zAf (fun K7 gd => (zAw ?_))))))
  refine zAf (fun K9 ge => (zAa (w_p (zAd (o := 0) (i := 0) underlying61 rfl sizeOf9 rfl rfl rfl) rfl (w_p (zAi isAgg9 ga rfl rfl (aow 0 [_])) rfl ?_))))
  refine zCi zAc call90 rfl rfl rfl rfl (c90 _ (by omega) ga) (fun gk gb => ?_)
  refine w_p (zC0 rfl rfl) rfl (w_p (zAl rfl rfl) rfl (zAe (zAb (ge _ _ (zAv rfl rfl (fun g3 => ?_) (fun g3 => ?_))))))
  ·
   exfalso
   try simp only [zS] at g3
   rw [g5.1] at g3; simp at g3
  try simp only [zS] at g3
  refine zAf (fun gm gf => (zAa (w_p (zAd (o := 3) (i := 2) underlying33 rfl sizeOf29 rfl rfl rfl) rfl (w_p (zAi isAgg29 gb.tail rfl rfl (show Ats _ _ _ _ [_] from Ats.part h1 3 1)) rfl (zA2 rfl rfl (w_p (y_sliceS (l' := 0) (h' := i) underlying29 sizeOf61 rfl rfl rfl ⟨rfl, _,_, rfl, rfl⟩ (by omega) (by omega)) rfl ?_))))))
  refine w_p (zCl (fv := []) (cv := [_]) rfl rfl rfl rfl) rfl (zCi zAc call91 rfl rfl rfl rfl ((show Con Tryz.prog 91 [.slice (if p.cs = 0 then p.as_ else p.as_.map (·.add (0 * 3))) (i - 0) (p.cs - 0), .func (.func 92) #[] #[.pointer (some ⟨b3,0, none⟩)]] _ _ from by rw [Nat.sub_zero, show (i = (r.sets.take i).length) from htk.symm]; exact c91 _ _ (r.sets.take i) (by omega) (sl_pre hm.s.cons (by omega) (by omega)) (.func (.func 92) #[] #[.pointer (some ⟨b3,0, none⟩)]) (fun j hj X w hs => zDs call92 (c92 r.sets[i] _ (name_ne hr.nd hi hj) (nm_size (hr.sets _ (List.mem_of_mem_take (List.getElem_mem hj))).1) (nm_size g5.1) _ (Ats.app (zBm (i := 0) (vs := r.sets[i].cells) rfl rfl)) hs)) gb)) (fun gn g6 => ?_))
  refine w_p (zAl rfl rfl) rfl (zAe (zAb (gf _ _ (zAv rfl rfl (fun g7 => ?_) (fun g7 => ?_)))))
  ·
   exfalso; simp at g7
  try simp only [zS] at g7
  refine zAf (fun gq gg => (zAa (w_p (zAd (o := 1) (i := 1) underlying61 rfl sizeOf28 rfl rfl rfl) rfl (w_p (zAd (o := 0) (i := 0) underlying28 rfl sizeOf3 rfl rfl rfl) rfl (w_p (zAi isAgg3 g6 rfl rfl (aow 0 [_])) rfl ?_)))))
  refine w_p (zAd (o := 1) (i := 1) underlying61 rfl sizeOf28 rfl rfl rfl) rfl (w_p (zAd (o := 1) (i := 1) underlying28 rfl sizeOf3 rfl rfl rfl) rfl (w_p (zAi isAgg3 g6 rfl rfl (aow 0 [_])) rfl ?_))
  refine zBc (ps := [(0, _),(1, _)]) (pv := [(0, .int _ _),(1, .int _ _)]) (cs := [_,_]) zAc rfl rfl (fun w => Try_QB_fb1 _ _ w) g6 (fun gr gt gh => ?_)
  refine zCi zAc call51 rfl rfl rfl rfl (c51 _ _ _ [_,_] _ (by simp) (zBx (i := 0) (rows := [[_], [_]]) rfl (by simp) rfl) gh) (fun gu g8 => ?_)
  refine w_p (zAl rfl rfl) rfl (zAe (zAb (gg _ _ (zAv rfl rfl (fun g4 => ?_) (fun g4 => ?_)))))
  ·
   exfalso
   try simp only [zS] at g4
   simp [out] at g4; omega
  try simp only [zS] at g4
  refine zAf (fun gw gi => (zAa (w_p (zAd (o := 1) (i := 1) underlying61 rfl sizeOf28 rfl rfl rfl) rfl (w_p (zAd (o := 0) (i := 0) underlying28 rfl sizeOf3 rfl rfl rfl) rfl (w_p (zAi isAgg3 g8 rfl rfl (aow 1 [_])) rfl ?_)))))
  refine w_p (zAd (o := 1) (i := 1) underlying61 rfl sizeOf28 rfl rfl rfl) rfl (w_p (zAd (o := 1) (i := 1) underlying28 rfl sizeOf3 rfl rfl rfl) rfl (w_p (zAi isAgg3 g8 rfl rfl (aow 1 [_])) rfl (w_p (zD5 rfl rfl rfl rfl) rfl ?_)))
  refine w_p (zAl rfl rfl) rfl (zAe (zAb (gi _ _ (zAv rfl rfl (fun g9 => ?_) (fun g9 => ?_)))))
  ·
   exfalso
   try simp only [zS] at g9
   omega
  try simp only [zS] at g9
  refine zAr (zAk (zAb (gd _ _ (zAf (fun gx gj => (zAa (zA9 rfl rfl (zAe (zAb (gj _ _ (zA0 (zA1 (l := [.tmp 5]) (vs := [_]) rfl ⟨⟨rfl, (rfl : _ = Value.int _ _)⟩, trivial⟩ ?_))))))))))))
  exact ⟨rfl, g8.tail.tail⟩

theorem c94 {w0 w : World} {F : List (Nat × Obj)} (r : Room) (p : AtR) (hm : RIn w0 F r p) (hr : r.Ok) (b1 : Nat) (h1 : Ats w0 F b1 0 (r.cells p)) (i : Nat) (hi : i < r.ran.length) (hs : St w0 w F) :
  Con Tryz.prog 94 [.int .i64 (i : Int), .int .i64 r.ran[i], .pointer (some ⟨b1,0, none⟩)] w fun v w' => v = .int .i64 0 ∧ St w0 w' F := by
  refine zAo (n := 13) func94 rfl rfl (zNl rfl) ?_
  have hd := hr.days
  have hst := hr.start
  have hop := hr.opens
  have hls := hr.ls
  have hlr := hr.lr
  have hll := hr.ll
  have ga := hr.ran _ (List.getElem_mem hi)
  refine zAf (fun K2 g4 => (zAa (zA9 rfl rfl (zAe (zAb (g4 _ _ (zAf (fun K4 g5 => (zAf (fun K6 g6 => (zAa (w_p (zAd (o := 3) (i := 2) underlying33 rfl sizeOf29 rfl rfl rfl) rfl ?_))))))))))))
  refine w_p (zAi isAgg29 hs rfl rfl (show Ats _ _ _ _ [_] from Ats.part h1 3 1)) rfl (w_p (zBd underlying29 rfl rfl) rfl (w_p (zDk rfl rfl rfl rfl (by omega) (by omega)) rfl (zA2 rfl rfl (zBc (ps := [(0, _)]) (pv := [(0, .int _ _)]) (cs := [_]) zAc rfl rfl (fun w => zE5 _ w) hs (fun b7 w8 g7 => ?_)))))
  refine zCi zAc call51 rfl rfl rfl rfl (c51 _ _ _ [_] _ (by simp) (zBx (i := 0) (rows := [[_]]) rfl (by simp) rfl) g7) (fun gb g8 => ?_)
  refine zAe (zAb (g6 _ _ (zAv rfl rfl (fun g3 => ?_) (fun g3 => ?_))))
  ·
   exfalso
   try simp only [zS] at g3
   simp [out] at g3; omega
  try simp only [zS] at g3
  refine zAr (zAb (g5 _ _ (zAf (fun gc g9 => (zAa (zA9 rfl rfl (zAe (zAb (g9 _ _ (zA0 (zA1 (l := [.tmp 5]) (vs := [_]) rfl ⟨⟨rfl, (rfl : _ = Value.int _ _)⟩, trivial⟩ ?_)))))))))))
  exact ⟨rfl, g8.tail⟩

theorem c96 {w0 w : World} {F : List (Nat × Obj)} (r : Room) (p : AtR) (hm : RIn w0 F r p) (hr : r.Ok) (b1 : Nat) (h1 : Ats w0 F b1 0 (r.cells p)) (i : Nat) (hi : i < r.looks.length) (hs : St w0 w F) :
  Con Tryz.prog 96 [.int .i64 (i : Int), .agg (lcells r.looks[i]).toArray, .pointer (some ⟨b1,0, none⟩)] w fun v w' => v = .int .i64 0 ∧ St w0 w' F := by
  refine zAo (n := 19) func96 rfl rfl (zNl rfl) ?_
  have hd := hr.days
  have hst := hr.start
  have hop := hr.opens
  have hls := hr.ls
  have hlr := hr.lr
  have hll := hr.ll
  have ge := hr.looks _ (List.getElem_mem hi)
  refine zAf (fun K2 g7 => (zAa (zCd (v := .agg #[.int _ _, .int _ _]) (cs := [_,_]) zAc rfl rfl rfl hs (fun b3 w4 g5 => ?_))))
  refine zA9 rfl rfl (zAe (zAb (g7 _ _ (zAf (fun K7 g8 => (zAf (fun K9 g9 => (zAa (w_p (zAd (o := 5) (i := 4) underlying33 rfl sizeOf30 rfl rfl rfl) rfl ?_)))))))))
  refine w_p (zAi isAgg30 g5.tail rfl rfl (show Ats _ _ _ _ [_] from Ats.part h1 5 1)) rfl (w_p (zBd underlying30 rfl rfl) rfl (w_p (zAd (o := 0) (i := 0) underlying64 rfl sizeOf3 rfl rfl rfl) rfl (w_p (zAi isAgg3 g5 rfl rfl (aow 0 [_])) rfl ?_)))
  refine zBc (ps := [(0, _)]) (pv := [(0, .int _ _)]) (cs := [_]) zAc rfl rfl (fun w => zE5 _ w) g5 (fun gf gg ga => ?_)
  refine zCi zAc call51 rfl rfl rfl rfl (c51 _ _ _ [_] _ (by simp) (zBx (i := 0) (rows := [[_]]) rfl (by simp) rfl) ga) (fun gh g6 => ?_)
  refine w_p (zAn rfl rfl) rfl (zBk (fun g3 => ?_) (fun g3 => ?_))
  ·
   exfalso
   try simp only [zS] at g3
   simp [out] at g3; omega
  try simp only [zS] at g3
  refine w_y rfl rfl rfl (zAd (o := 1) (i := 1) underlying64 rfl sizeOf3 rfl rfl rfl) rfl ?_
  refine w_y rfl rfl rfl (zAi isAgg3 g6 rfl rfl (aow 1 [_])) rfl ?_
  refine zBc (ps := [(0, _)]) (pv := [(0, .int _ _)]) (cs := [_]) (zAm rfl rfl rfl) rfl rfl (fun w => zE5 _ w) g6 (fun gi gj gb => ?_)
  refine zA4 (zAm rfl rfl rfl) call51 rfl rfl rfl rfl (c51 _ _ _ [_] _ (by simp) (zBx (i := 0) (rows := [[_]]) rfl (by simp) rfl) gb) ?_
  rintro _ gk ⟨rfl, gc⟩
  refine w_p (zBb (v := .bool _) rfl rfl rfl rfl) rfl (zAe (zAb (g9 _ _ (zAv rfl rfl (fun g4 => ?_) (fun g4 => ?_)))))
  ·
   exfalso
   try simp only [zS] at g4
   simp [out] at g4; omega
  try simp only [zS] at g4
  refine zAr (zAb (g8 _ _ (zAf (fun gm gd => (zAa (zA9 rfl rfl (zAe (zAb (gd _ _ (zA0 (zA1 (l := [.tmp 5]) (vs := [_]) rfl ⟨⟨rfl, (rfl : _ = Value.int _ _)⟩, trivial⟩ ?_)))))))))))
  exact ⟨rfl, gc.tail.tail.tail⟩

theorem c62 {w0 w : World} {F : List (Nat × Obj)} (r : Room) (p : AtR) (hm : RIn w0 F r p) (hr : r.Ok)  (hs : St w0 w F) :
  Con Tryz.prog 62 [.agg (r.cells p).toArray] w fun v w' => v = .tuple #[.int .i64 0, .int .i64 0, .int .i64 0] ∧ St w0 w' F := by
  refine zAo (n := 56) func62 rfl rfl (zNl rfl) ?_
  have hd := hr.days
  have hst := hr.start
  have hop := hr.opens
  have hls := hr.ls
  have hlr := hr.lr
  have hll := hr.ll
  refine zAf (fun K2 g8 => (zAa (zCd (v := .agg #[.int _ _, .int _ _, .int _ _, .slice _ _ _, .int _ _, .slice _ _ _, .slice _ _ _]) (cs := [_,_,_,_,_,_,_]) zAc rfl rfl rfl hs (fun b3 w4 g9 => ?_))))
  refine zA9 rfl rfl (zA9 rfl rfl (zA9 rfl rfl (zAe (zAb (g8 _ _ (zAf (fun K7 ga => (zAf (fun K9 gb => (zAa (zA4 zAc call87 rfl rfl rfl rfl (c87 g9) ?_)))))))))))
  rintro _ gA ⟨bru, rfl, g3⟩
  replace g3 := (show St _ _ (_ :: _ :: F) from g3)
  refine w_p (zBd underlying151 rfl rfl) rfl (w_p (zBo (v := _) rfl rfl) rfl (zAe (zAb (gb _ _ (zAw ?_)))))
  refine zB2 [2,3,4,6,9,10,11,12,13,14,15,16,17,18,19,20] [9] (fun kk vs w => ∃ i : Nat, vs = [.int .i64 i] ∧ i ≤ 2 ∧ kk = 2 - i ∧ St w0 w ((bru, blk 155 rCells) :: (b3, blk 33 (r.cells p)) :: F)) (2) ?_ ?_
  ·
   exact ⟨0, rfl, by omega, by omega, g3⟩
  intro k vs μ gB hI gC gc
  clear hs
  obtain ⟨i, rfl, hia, rfl, hs⟩ := hI
  refine zAf (fun gD gd => (zAa (w_p (zCb rfl rfl rfl rfl) rfl (zAe (zAb (gd _ _ (zAf (fun gE ge => (zAv rfl rfl (fun g4 => ?_) (fun g4 => ?_))))))))))
  ·
   try simp only [zS] at g4
   refine zAr (zAb (ge _ _ (zAf (fun gF gf => (zAw ?_)))))
   refine zAf (fun gG gg => ?_)
   have hi2 : i < 2 := by omega
   have hx := rule_at (w0 := w0) (L := (bru, blk 155 rCells) :: (b3, blk 33 (r.cells p)) :: F) (i := 0) rfl hi2
   refine zAa (w_p (zA7 underlying151 sizeOf155 rfl rfl rfl rfl (i := _) rfl (by omega)) rfl (w_p (zAs (vs := [_,_]) isAgg155 sizeOf155 hs rfl rfl hx) rfl (zA5 (cs := [_,_]) zAc zeroValue155 rfl hs (fun gH gI gh => ?_))))
   refine zBt 0 (.agg #[.int _ _, .func _ _ _]) [_,_] sizeOf155 gh (fun gJ g5 => ?_)
   refine zAe (zAb (gg _ _ (zAf (fun gK gi => (zAa (w_p (zAd (o := 1) (i := 1) underlying155 rfl sizeOf153 rfl rfl rfl) rfl (w_p (zAi isAgg153 g5 rfl rfl (aow 0 [_])) rfl ?_)))))))
   refine w_p (zAs (vs := [_,_,_,_,_,_,_]) isAgg33 sizeOf33 g5 rfl rfl (aow 2 [_,_,_,_,_,_,_])) rfl ?_
   refine zEa zAc rfl rfl rfl rfl (rule_con r p hr i hi2 g5) ?_
   rintro _ gL ⟨rfl, gj⟩
   refine w_p (zC0 rfl rfl) rfl (zAe (zAb (gi _ _ (zBj rfl rfl ?_))))
   refine zAr (zAk (zAb (gf _ _ (zAa (w_p (zBe rfl rfl rfl rfl (by omega) (by omega)) rfl (zA2 rfl rfl (zAe (zAb (gc _ _ (nxI (2 - (i + 1)) (by omega) ?_))))))))))
   exact ⟨i + 1, rfl, by omega, rfl, gj.tail⟩
  try simp only [zS] at g4
  refine zBr (zAj (zAj (zAy (zAb (ga _ _ (zAf (fun gM gk => (zAa (w_p (zAd (o := 3) (i := 2) underlying33 rfl sizeOf29 rfl rfl rfl) rfl ?_)))))))))
  refine w_p (zAi isAgg29 hs rfl rfl (aow 1 [_])) rfl (w_p (zCl (fv := []) (cv := [_]) rfl rfl rfl rfl) rfl ?_)
  refine zCi zAc call88 rfl rfl rfl rfl (c88 _ _ r.sets 1 4 (by omega) (by omega) hm.s.cons.cons (.func (.func 89) #[] #[.pointer (some ⟨b3,0, none⟩)]) (fun i hi X w hs => zDs call89 (c89 (F := X ++ _) r p (RIn.app (hm.cons.cons)) hr _ (Ats.app (zBm (i := 1) (vs := r.cells p) rfl rfl)) i hi hs)) hs) (fun gN g6 => ?_)
  refine w_p (zA6 rfl rfl) rfl (w_p (zAq rfl rfl rfl) rfl (w_p (zAq rfl rfl rfl) rfl (zBg rfl rfl (zBg rfl rfl (zAe (zAb (gk _ _ (zAf (fun gO gm => (zAf (fun gP gn => (zAa (zA2 rfl rfl ?_)))))))))))))
  refine w_p (zCj rfl rfl rfl rfl) rfl (zAe (zAb (gn _ _ (zBj rfl rfl ?_))))
  refine zAr (zAb (gm _ _ (zAf (fun gQ gq => (zAa (w_p (zAd (o := 5) (i := 4) underlying33 rfl sizeOf30 rfl rfl rfl) rfl (w_p (zAi isAgg30 g6 rfl rfl (aow 1 [_])) rfl ?_)))))))
  refine w_p (zAd (o := 0) (i := 0) underlying33 rfl sizeOf3 rfl rfl rfl) rfl (w_p (zAi isAgg3 g6 rfl rfl (aow 1 [_])) rfl (w_p (zCl (fv := []) (cv := [_]) rfl rfl rfl rfl) rfl ?_))
  refine zCi zAc call93 rfl rfl rfl rfl (c93 _ _ r.ran 0 r.days (by omega) (by omega) hm.n.cons.cons (.func (.func 94) #[] #[.pointer (some ⟨b3,0, none⟩)]) (fun i hi X w hs => zDs call94 (c94 (F := X ++ _) r p (RIn.app (hm.cons.cons)) hr _ (Ats.app (zBm (i := 1) (vs := r.cells p) rfl rfl)) i hi hs)) g6) (fun gR g7 => ?_)
  refine w_p (zA6 rfl rfl) rfl (w_p (zAq rfl rfl rfl) rfl (w_p (zAq rfl rfl rfl) rfl (zBg rfl rfl (zBg rfl rfl (zAe (zAb (gq _ _ (zAf (fun gS gr => (zAf (fun gT gt => (zAa (zA2 rfl rfl ?_)))))))))))))
  refine w_p (zCj rfl rfl rfl rfl) rfl (zAe (zAb (gt _ _ (zBj rfl rfl ?_))))
  refine zAr (zAb (gr _ _ (zAf (fun gU gu => (zAa (w_p (zAd (o := 6) (i := 5) underlying33 rfl sizeOf31 rfl rfl rfl) rfl (w_p (zAi isAgg31 g7 rfl rfl (aow 1 [_])) rfl ?_)))))))
  refine w_p (zCl (fv := []) (cv := [_]) rfl rfl rfl rfl) rfl (zCi zAc call95 rfl rfl rfl rfl (c95 _ _ r.looks 0 4 (by omega) (by omega) hm.l.cons.cons (.func (.func 96) #[] #[.pointer (some ⟨b3,0, none⟩)]) (fun i hi X w hs => zDs call96 (c96 (F := X ++ _) r p (RIn.app (hm.cons.cons)) hr _ (Ats.app (zBm (i := 1) (vs := r.cells p) rfl rfl)) i hi hs)) g7) (fun gV gw => ?_))
  refine w_p (zA6 rfl rfl) rfl (w_p (zAq rfl rfl rfl) rfl (w_p (zAq rfl rfl rfl) rfl (zBg rfl rfl (zBg rfl rfl (zAe (zAb (gu _ _ (zAf (fun gW gx => (zAf (fun gX gy => (zAa (zA2 rfl rfl ?_)))))))))))))
  refine w_p (zCj rfl rfl rfl rfl) rfl (zAe (zAb (gy _ _ (zBj rfl rfl ?_))))
  refine zAr (zAb (gx _ _ (zAf (fun gY gz => (zAa (zA9 rfl rfl (zA9 rfl rfl (zA9 rfl rfl (zAe (zAb (gz _ _ (zA0 (zA1 (l := [.tmp 2, .tmp 3, .tmp 4]) (vs := [_,_,_]) rfl ⟨⟨rfl, (rfl : _ = Value.int _ _)⟩, ⟨rfl, (rfl : _ = Value.int _ _)⟩, ⟨rfl, (rfl : _ = Value.int _ _)⟩, trivial⟩ ?_)))))))))))))
  exact ⟨rfl, gw.tail.tail⟩

end Go.Proofs.Ro
set_option maxRecDepth 20000
namespace Go.Proofs.Ro
open Go.Proofs.Tryz
open Go.Rt Go.Rt.Ro
open Go.Rt.Ha (bit listL)
attribute [local irreducible] WL WC Con Yd At Ats Sl Agree DW
theorem zFy (x0 : Int) (x1 : Int) (w : World) : (Instr.build 28 [(0, .int .i64 x0),(1, .int .i64 x1)].toArray).run Tryz.prog w = .ok (.agg #[.int .i64 x0, .int .i64 x1]) w := by kernel_rfl
theorem Try_QC_fb1 (x0 : Int) (w : World) : (Instr.buildSlice 30 1 [(0, .int .i64 x0)].toArray).run Tryz.prog w = .ok (.slice (some ⟨w.heap.size, 0, none⟩) 1 1) (w.alloc (Go.Rt.blk 3 [.int .i64 x0])) := by kernel_rfl
theorem zDf : Tryz.prog.info? 3 = some Tryz.t3 := by kernel_rfl
theorem c52 {w0 w : World} {F : List (Nat × Obj)} (a1 a2 b1 b2 : Int) (ha1 : -100000 ≤ a1 ∧ a1 ≤ 100000) (ha2 : -100000 ≤ a2 ∧ a2 ≤ 100000) (hb1 : -100000 ≤ b1 ∧ b1 ≤ 100000) (hb2 : -100000 ≤ b2 ∧ b2 ≤ 100000) (hs : St w0 w F) :
  Con Tryz.prog 52 [.agg #[.int .i64 a1, .int .i64 a2], .agg #[.int .i64 b1, .int .i64 b2]] w fun v w' => v = .agg #[.int .i64 (a1 + b1), .int .i64 (a2 + b2)] ∧ St w0 w' F := by
  refine zAo (n := 16) func52 rfl rfl (zNl rfl) ?_
  refine zAf (fun K2 g5 => (zAa (zCd (v := .agg #[.int _ _, .int _ _]) (cs := [_,_]) zAc rfl rfl rfl hs (fun b3 w4 g6 => ?_))))
  refine zCd (v := .agg #[.int _ _, .int _ _]) (cs := [_,_]) zAc rfl rfl rfl g6 (fun b6 w7 g7 => ?_)
  refine zA5 (cs := [_,_]) zAc zeroValue28 rfl g7 (fun b9 g9 g3 => ?_)
  refine zAe (zAb (g5 _ _ (zAf (fun ga g8 => (zAa (w_p (zAd (o := 0) (i := 0) underlying28 rfl sizeOf3 rfl rfl rfl) rfl (w_p (zAi isAgg3 g3 rfl rfl (aow 2 [_])) rfl ?_)))))))
  refine w_p (zAd (o := 0) (i := 0) underlying28 rfl sizeOf3 rfl rfl rfl) rfl (w_p (zAi isAgg3 g3 rfl rfl (aow 1 [_])) rfl (w_p (zBe rfl rfl rfl rfl (by omega) (by omega)) rfl (w_p (zAd (o := 1) (i := 1) underlying28 rfl sizeOf3 rfl rfl rfl) rfl ?_)))
  refine w_p (zAi isAgg3 g3 rfl rfl (aow 2 [_])) rfl (w_p (zAd (o := 1) (i := 1) underlying28 rfl sizeOf3 rfl rfl rfl) rfl (w_p (zAi isAgg3 g3 rfl rfl (aow 1 [_])) rfl (w_p (zBe rfl rfl rfl rfl (by omega) (by omega)) rfl ?_)))
  refine w_p (zCh (ps := [(0, _),(1, _)]) (pv := [(0, .int _ _),(1, .int _ _)]) rfl rfl (fun w => zFy _ _ w)) rfl (zBt 0 (.agg #[.int _ _, .int _ _]) [_,_] sizeOf28 g3 (fun gb g4 => ?_))
  refine zAe (zAb (g8 _ _ (zA0 (zA1 (l := [.cell 4 28]) (vs := [_]) rfl ⟨⟨rfl, _, rfl, zBv (vs := [_,_]) isAgg28 sizeOf28 g4 (aow 0 [_,_])⟩, trivial⟩ ?_))))
  exact ⟨rfl, g4.tail.tail.tail⟩

theorem c97 {w0 w : World} {F : List (Nat × Obj)} (a1 a2 b1 b2 : Int) (hs : St w0 w F) :
  Con Tryz.prog 97 [.agg #[.int .i64 a1, .int .i64 a2], .agg #[.int .i64 b1, .int .i64 b2]] w fun v w' => v = .agg #[.int .i64 (max a1 b1), .int .i64 (min a2 b2)] ∧ St w0 w' F := by
  refine zAo (n := 16) func97 rfl rfl (zNl rfl) ?_
  refine zAf (fun K2 g5 => (zAa (zCd (v := .agg #[.int _ _, .int _ _]) (cs := [_,_]) zAc rfl rfl rfl hs (fun b3 w4 g6 => ?_))))
  refine zCd (v := .agg #[.int _ _, .int _ _]) (cs := [_,_]) zAc rfl rfl rfl g6 (fun b6 w7 g7 => ?_)
  refine zA5 (cs := [_,_]) zAc zeroValue28 rfl g7 (fun b9 g9 g3 => ?_)
  refine zAe (zAb (g5 _ _ (zAf (fun ga g8 => (zAa (w_p (zAd (o := 0) (i := 0) underlying28 rfl sizeOf3 rfl rfl rfl) rfl (w_p (zAi isAgg3 g3 rfl rfl (aow 2 [_])) rfl ?_)))))))
  refine w_p (zAd (o := 0) (i := 0) underlying28 rfl sizeOf3 rfl rfl rfl) rfl (w_p (zAi isAgg3 g3 rfl rfl (aow 1 [_])) rfl (w_p (y_max2 rfl rfl rfl rfl) rfl (w_p (zAd (o := 1) (i := 1) underlying28 rfl sizeOf3 rfl rfl rfl) rfl ?_)))
  refine w_p (zAi isAgg3 g3 rfl rfl (aow 2 [_])) rfl (w_p (zAd (o := 1) (i := 1) underlying28 rfl sizeOf3 rfl rfl rfl) rfl (w_p (zAi isAgg3 g3 rfl rfl (aow 1 [_])) rfl (w_p (y_min2 rfl rfl rfl rfl) rfl (w_p (zCh (ps := [(0, _),(1, _)]) (pv := [(0, .int _ _),(1, .int _ _)]) rfl rfl (fun w => zFy _ _ w)) rfl ?_))))
  refine zBt 0 (.agg #[.int _ _, .int _ _]) [_,_] sizeOf28 g3 (fun gb g4 => ?_)
  refine zAe (zAb (g8 _ _ (zA0 (zA1 (l := [.cell 4 28]) (vs := [_]) rfl ⟨⟨rfl, _, rfl, zBv (vs := [_,_]) isAgg28 sizeOf28 g4 (aow 0 [_,_])⟩, trivial⟩ ?_))))
  exact ⟨rfl, g4.tail.tail.tail⟩

theorem c98 {w0 w : World} {F : List (Nat × Obj)} (c : Int) (hc : 1 ≤ c ∧ c ≤ 7) (hs : St w0 w F) :
  Con Tryz.prog 98 [.int .i64 c] w fun v w' => v = .agg #[.int .i64 (ofC c).1, .int .i64 (ofC c).2] ∧ St w0 w' F := by
  refine zAo (n := 15) func98 rfl rfl (zNl rfl) ?_
  refine zAf (fun K2 g9 => (zAa (zA5 (cs := [_,_]) zAc zeroValue28 rfl hs (fun b3 w4 ga => ?_))))
  refine zAe (zAb (g9 _ _ (zAf (fun K7 gb => (zAa (zA2 rfl rfl (w_p (zDk rfl rfl rfl rfl (by omega) (by omega)) rfl (w_p (y_mul rfl rfl rfl rfl (by omega) (by omega)) rfl ?_))))))))
  refine zA2 rfl rfl (w_p (y_mul rfl rfl rfl rfl (by omega) (by omega)) rfl (w_p (zDk rfl rfl rfl rfl (by omega) (by omega)) rfl (w_p (zCh (ps := [(0, _),(1, _)]) (pv := [(0, .int _ _),(1, .int _ _)]) rfl rfl (fun w => zFy _ _ w)) rfl ?_)))
  refine zA5 (cs := [_,_]) zAc zeroValue28 rfl ga (fun b8 w9 gc => ?_)
  refine zBt 0 (.agg #[.int _ _, .int _ _]) [_,_] sizeOf28 gc (fun gg g3 => ?_)
  refine zAe (zAb (gb _ _ (zAf (fun gh g7 => (zAf (fun gi gd => (zAa (zA2 rfl rfl (w_p (zCk rfl rfl rfl rfl) rfl (zAe (zAb (gd _ _ (zAv rfl rfl (fun g4 => ?_) (fun g4 => ?_))))))))))))))
  ·
   try simp only [zS] at g4
   refine zAa (w_p (zAd (o := 1) (i := 1) underlying28 rfl sizeOf3 rfl rfl rfl) rfl (zBt 0 (.int _ _) [_] sizeOf3 g3 (fun gj g8 => ?_)))
   refine zAe (zAb (g7 _ _ (zAf (fun gk ge => (zAa (w_p (zAs (vs := [_,_]) isAgg28 sizeOf28 g8 rfl rfl (aow 0 [_,_])) rfl ?_))))))
   refine zBt 1 (.agg #[.int _ _, .int _ _]) [_,_] sizeOf28 g8 (fun gm g5 => ?_)
   refine zAe (zAb (ge _ _ (zA0 (zA1 (l := [.cell 2 28]) (vs := [_]) rfl ⟨⟨rfl, _, rfl, zBv (vs := [_,_]) isAgg28 sizeOf28 g5 (aow 1 [_,_])⟩, trivial⟩ ?_))))
   first
     | exact ⟨by unfold ofC; rw [if_pos (by assumption)]; rfl, g5.tail.tail⟩
     | exact ⟨by unfold ofC; rw [if_neg (by assumption)]; rfl, g5.tail.tail⟩
  try simp only [zS] at g4
  refine zAr (zAb (g7 _ _ (zAf (fun gn gf => (zAa (w_p (zAs (vs := [_,_]) isAgg28 sizeOf28 g3 rfl rfl (aow 0 [_,_])) rfl ?_))))))
  refine zBt 1 (.agg #[.int _ _, .int _ _]) [_,_] sizeOf28 g3 (fun gq g6 => ?_)
  refine zAe (zAb (gf _ _ (zA0 (zA1 (l := [.cell 2 28]) (vs := [_]) rfl ⟨⟨rfl, _, rfl, zBv (vs := [_,_]) isAgg28 sizeOf28 g6 (aow 1 [_,_])⟩, trivial⟩ ?_))))
  first
    | exact ⟨by unfold ofC; rw [if_pos (by assumption)]; rfl, g6.tail.tail⟩
    | exact ⟨by unfold ofC; rw [if_neg (by assumption)]; rfl, g6.tail.tail⟩

theorem c85 {w0 w : World} {F : List (Nat × Obj)} (x : Int) (hx : 0 ≤ x ∧ x ≤ 100000) (hs : St w0 w F) :
  Con Tryz.prog 85 [.int .i64 x] w fun v w' => v = .int .i64 (colour x) ∧ St w0 w' F := by
  refine zAo (n := 7) func85 rfl rfl (zNl rfl) ?_
  refine zAf (fun K2 g3 => (zAa (zA9 rfl rfl (zAe (zAb (g3 _ _ (zAf (fun K4 g4 => (zAa (zA2 rfl rfl (w_p (y_quo rfl rfl rfl rfl (by omega) (by omega) (by omega)) rfl ?_)))))))))))
  refine w_p (zBe rfl rfl rfl rfl (by omega) (by omega)) rfl (w_p (y_min2 rfl rfl rfl rfl) rfl (zBg rfl rfl (zAe (zAb (g4 _ _ (zA0 (zA1 (l := [.tmp 2]) (vs := [_]) rfl ⟨⟨rfl, (rfl : _ = Value.int _ _)⟩, trivial⟩ ?_)))))))
  exact ⟨rfl, hs⟩

theorem c53 {w0 w : World} {F : List (Nat × Obj)} (a b : Int) (ha : 0 ≤ a ∧ a ≤ 100000) (hb : 0 ≤ b ∧ b ≤ 100000) (hs : St w0 w F) :
  Con Tryz.prog 53 [.agg #[.int .i64 a, .int .i64 b]] w fun v w' => v = .agg #[.int .i64 (colour a), .int .i64 (colour b)] ∧ St w0 w' F := by
  refine zAo (n := 10) func53 rfl rfl (zNl rfl) ?_
  refine zAf (fun K2 g7 => (zAa (zCd (v := .agg #[.int _ _, .int _ _]) (cs := [_,_]) zAc rfl rfl rfl hs (fun b3 w4 g8 => ?_))))
  refine zA5 (cs := [_,_]) zAc zeroValue28 rfl g8 (fun b6 w7 g9 => ?_)
  refine zAe (zAb (g7 _ _ (zAf (fun gb ga => (zCc [7] [(0,0),(1,1),(3,0),(4,1),(2,2),(5,2),(6,0),(7,3)] zB7 (zBs (by kernel_rfl)) g9 (fun gc g3 => ?_))))))
  refine d_w rfl (fun _ => zAd (o := 0) (i := 0) underlying28 rfl sizeOf3 rfl rfl rfl) rfl ?_
  refine zA3 rfl zAc rfl g3 (fun _ hq => (zAi isAgg3 hq rfl rfl (aow 1 [_]))) ?_
  refine d_w rfl (fun _ => zAd (o := 1) (i := 1) underlying28 rfl sizeOf3 rfl rfl rfl) rfl ?_
  refine zA3 rfl zAc rfl g3 (fun _ hq => (zAi isAgg3 hq rfl rfl (aow 1 [_]))) ?_
  refine zB0 rfl ?_
  refine zCi zAc call85 rfl rfl rfl rfl (c85 _ (by omega) g3) (fun gd g4 => ?_)
  refine zAe (qn ⟨g4, ?_⟩)
  refine zB0 rfl ?_
  refine zCi zAc call85 rfl rfl rfl rfl (c85 _ (by omega) g4) (fun ge g5 => ?_)
  refine zAe (qn ⟨g5, ?_⟩)
  refine d_w rfl (fun _ => zCh (ps := [(0, _),(1, _)]) (pv := [(0, .int _ _),(1, .int _ _)]) rfl rfl (fun w => zFy _ _ w)) rfl ?_
  refine zCa rfl ?_
  refine zBt 0 (.agg #[.int _ _, .int _ _]) [_,_] sizeOf28 g5 (fun gf g6 => ?_)
  refine zAe (qn ?_)
  refine zB5 ?_
  refine zAb (ga _ _ (zA0 (zA1 (l := [.cell 2 28]) (vs := [_]) rfl ⟨⟨rfl, _, rfl, zBv (vs := [_,_]) isAgg28 sizeOf28 g6 (aow 0 [_,_])⟩, trivial⟩ ?_)))
  exact ⟨rfl, g6.tail.tail⟩

theorem zDm (b : Nat) : ∀ n, (listL b n).length ≤ n
  | 0 => Nat.le_refl _
  | n + 1 => by have := zDm b n; simp only [listL, List.length_append]; split <;> simp <;> omega
theorem shr_16 {x i : Nat} (h : x < 64) : x >>> i < 64 := by rw [Nat.shiftRight_eq_div_pow]; exact Nat.lt_of_le_of_lt (Nat.div_le_self _ _) h
theorem list_y {b i : Nat} (h : ((b >>> i &&& 1 : Nat) : Int) = 1) : listL b (i + 1) = listL b i ++ [(i : Int)] := by rw [listL, if_pos (by unfold bit; omega)]
theorem list_n {b i : Nat} (h : ¬ ((b >>> i &&& 1 : Nat) : Int) = 1) : listL b (i + 1) = listL b i := by rw [listL, if_neg (by unfold bit; omega), List.append_nil]
theorem zEi {v : Value} {t : TypeId} {l : List Int} {z : Int} {B : List (Nat × Obj)} (h : Rt.Own v t 1 (l.length + 1) (iv l ++ [[Value.int .i64 z]].flatten) B) : Rt.Own v t 1 (l ++ [z]).length (iv (l ++ [z])) B := by simpa [iv] using h
theorem own_nonil {v : Value} {t : TypeId} {sz n : Nat} {xs : List Value} {B : List (Nat × Obj)} (h : Rt.Own v t sz n xs B) {a : Option Addr} {m c : Nat} (h1 : v = .slice a m c) (ha : a = none) : c = 0 := by
  rcases h.2 with ⟨h3, _⟩ | ⟨b, cap, cs, h3, _⟩
  · rw [h3] at h1; injection h1 with _ _ h5; exact h5.symm
  · rw [h3] at h1; injection h1 with h5; rw [ha] at h5; cases h5
theorem zHx {w0 : World} {v : Value} {t : TypeId} {l : List Int} {B : List (Nat × Obj)} (h : Rt.Own v t 1 l.length (iv l) B) : ∃ a c, v = .slice a l.length c ∧ Sl w0 B a 1 (l.map fun x => [Value.int .i64 x]) ∧ (a = none → c = 0) := by
  obtain ⟨a, c, h1, h2⟩ := zEe (w0 := w0) h rfl []
  rw [List.append_nil] at h2
  exact ⟨a, c, h1, h2, fun ha => own_nonil h h1 ha⟩
theorem c64 {w0 w : World} {F : List (Nat × Obj)} (b n : Nat) (hb : b < 64) (hn : n ≤ 60) (hs : St w0 w F) :
  Con Tryz.prog 64 [.int .i64 (b : Int), .int .i64 (n : Int)] w fun v w' => ∃ B, Rt.Own v 3 1 (listL b n).length (iv (listL b n)) B ∧ St w0 w' (B ++ F) := by
  refine zAo (n := 21) func64 rfl rfl (zNl rfl) ?_
  have hll := zDm b
  refine zAf (fun K2 g8 => (zAa (zA9 rfl rfl (zAe (zAb (g8 _ _ (zAf (fun K4 g9 => (zAf (fun K6 ga => (zAa (zA2 rfl rfl (w_p (zBo (v := _) rfl rfl) rfl ?_)))))))))))))
  refine zAe (zAb (ga _ _ (zAw ?_)))
  refine zB2 [4,5,7,8,9,10,11,12,13,14,15,16,17,18,19] [4,7] (fun k vs w => ∃ (i : Nat) (v : Value) (LB : List (Nat × Obj)), vs = [v, .int .i64 i] ∧ i ≤ n ∧ k = n - i ∧ Rt.Own v 3 1 (listL b i).length (iv (listL b i)) LB ∧ St w0 w (LB ++ F)) (n) ?_ ?_
  ·
   exact ⟨0, _, [], rfl, by omega, by omega, zEv 3 1, hs⟩
  intro k vs μ w9 hI K8 g6
  clear hs
  obtain ⟨i, v, LB, rfl, hia, rfl, hown, hs⟩ := hI
  have hli := hll i
  have hsh := shr_16 (i := i) hb
  refine zAf (fun gk gb => (zAa (w_p (zCb rfl rfl rfl rfl) rfl (zAe (zAb (gb _ _ (zAf (fun gm gc => (zAv rfl rfl (fun g3 => ?_) (fun g3 => ?_))))))))))
  ·
   try simp only [zS] at g3
   refine zAr (zAb (gc _ _ (zAf (fun gn g7 => (zAw ?_)))))
   refine zAf (fun gq gd => (zAa (zA2 rfl rfl (zBg rfl rfl (zAe (zAb (gd _ _ (zAf (fun gr ge => (zAa (zA2 rfl rfl (zA2 rfl rfl (w_p (y_shr (x := b) (y := i) rfl rfl rfl rfl (by first | rfl | omega) (by first | rfl | omega) (by first | omega | exact zCs (by omega))) rfl ?_)))))))))))))
   refine w_p (y_and (x := b >>> i) (y := 1) rfl rfl rfl rfl (by first | rfl | omega) rfl (by first | omega | exact zCs (by omega)) (by first | omega | exact zCs (by omega))) rfl ?_
   refine w_p (zCk rfl rfl rfl rfl) rfl (zAe (zAb (ge _ _ (zAv rfl rfl (fun g4 => ?_) (fun g4 => ?_)))))
   ·
    try simp only [zS] at g4
    refine zAa (w_p (zBo (v := v) rfl rfl) rfl (zA2 rfl rfl (zBc (ps := [(0, _)]) (pv := [(0, .int _ _)]) (cs := [_]) zAc rfl rfl (fun w => Try_QC_fb1 _ w) hs (fun gt gu gf => ?_))))
    refine zDd (X := (_ :: [])) (B := LB) (rows := [[_]]) (sz := 1) (bytes := 8) zAc underlying30 zDf rfl rfl rfl rfl rfl rfl rfl rfl rfl gf hown (zBx (i := 0) rfl (by simp) rfl) rfl (by simp) (by simp [Value.oneCell']) (by simp only [maxLen]; omega) (by omega) (fun gg gw gh gi g5 => ?_)
    replace g5 := (show St _ _ (_ :: gh ++ (F)) from g5)
    refine w_p (zB9 (v := gg) rfl rfl) rfl (zAe (zAk (zAb (g7 _ _ (zAa (w_p (zBe rfl rfl rfl rfl (by omega) (by omega)) rfl (zA2 rfl rfl (zAe (zAb (g6 _ _ (nxI (n - (i + 1)) (by omega) ?_)))))))))))
    exact ⟨i + 1, _,_, rfl, by omega, rfl, by rw [list_y (by assumption)]; exact zEi gi, g5.tail⟩
   try simp only [zS] at g4
   refine zAr (zAk (zAb (g7 _ _ (zAa (w_p (zBe rfl rfl rfl rfl (by omega) (by omega)) rfl (zA2 rfl rfl (zAe (zAb (g6 _ _ (nxI (n - (i + 1)) (by omega) ?_))))))))))
   exact ⟨i + 1, v, LB, rfl, by omega, rfl, by rw [list_n (by assumption)]; exact hown, hs⟩
  try simp only [zS] at g3
  refine zBr (zAj (zAj (zAy (zAb (g9 _ _ (zAf (fun gx gj => (zAa (w_p (zBo (v := v) rfl rfl) rfl (w_p (zB9 (v := v) rfl rfl) rfl ?_))))))))))
  refine zAe (zAb (gj _ _ (zA0 (zA1 (l := [.tmp 4]) (vs := [_]) rfl ⟨⟨rfl, show _ = (v : Value) from rfl⟩, trivial⟩ ?_))))
  have hin : i = n := by omega
  subst hin
  exact ⟨LB, hown, hs⟩

end Go.Proofs.Ro
/- Rows of cells, one of which is set anew. No conditions. -/
namespace Go.Rt
theorem setMany_mid : ∀ (vs old pre post : List Value), old.length = vs.length → setMany (pre ++ (old ++ post)) pre.length vs = pre ++ (vs ++ post)
  | [], [], pre, post, _ => by simp [setMany]
  | v :: vs, o :: old, pre, post, h => by
    have ih := setMany_mid vs old (pre ++ [v]) post (by simpa using h)
    simp only [setMany]
    rw [List.set_append_right _ _ (Nat.le_refl _), Nat.sub_self, List.cons_append, List.set_cons_zero]
    simpa using ih
  | [], _ :: _,_,_, h => by simp at h
  | _ :: _, [], _,_, h => by simp at h
theorem flat_len_sz {rows : List (List Value)} {sz : Nat} (hr : ∀ row ∈ rows, row.length = sz) : rows.flatten.length = rows.length * sz := by
  induction rows with
  | nil => simp
  | cons r l ih => rw [List.flatten_cons, List.length_append, hr r (.head _), ih fun x hx => hr x (.tail _ hx), List.length_cons, Nat.succ_mul]; omega
theorem zHq {rows : List (List Value)} {sz i n : Nat} {row cs : List Value} (hn : rows.length = n) (hr : ∀ row ∈ rows, row.length = sz) (hi : i < rows.length) (hrow : row.length = sz) (h : cs.take (n * sz) = rows.flatten) : (setMany cs (i * sz) row).take (n * sz) = (rows.set i row).flatten := by
  have hpre : (rows.take i).flatten.length = i * sz := by
    rw [flat_len_sz (fun x hx => hr x (List.mem_of_mem_take hx)), List.length_take, Nat.min_eq_left (by omega)]
  have e1 : rows.flatten = (rows.take i).flatten ++ (rows[i] ++ (rows.drop (i + 1)).flatten) := by
    rw [← List.flatten_cons, ← List.drop_eq_getElem_cons hi, ← List.flatten_append, List.take_append_drop]
  have e2 : cs = (rows.take i).flatten ++ (rows[i] ++ ((rows.drop (i + 1)).flatten ++ cs.drop (n * sz))) := by
    have := List.take_append_drop (n * sz) cs
    rw [h, e1] at this
    simpa [List.append_assoc] using this.symm
  have e3 := setMany_mid row rows[i] (rows.take i).flatten ((rows.drop (i + 1)).flatten ++ cs.drop (n * sz)) (by rw [hrow, hr _ (List.getElem_mem hi)])
  rw [← e2, hpre] at e3
  rw [e3]
  have e4 : (rows.set i row).flatten = (rows.take i).flatten ++ (row ++ (rows.drop (i + 1)).flatten) := by
    rw [List.set_eq_take_append_cons_drop, if_pos hi, List.flatten_append, List.flatten_cons]
  have e5 : (rows.set i row).flatten.length = n * sz := by
    rw [flat_len_sz, List.length_set, hn]
    intro x hx
    rcases List.mem_or_eq_of_mem_set hx with h | h
    · exact hr x h
    · rw [h]; exact hrow
  have e6 : (rows.take i).flatten ++ (row ++ ((rows.drop (i + 1)).flatten ++ cs.drop (n * sz))) = (rows.set i row).flatten ++ cs.drop (n * sz) := by rw [e4]; simp [List.append_assoc]
  rw [e6, List.take_append_of_le_length (Nat.le_of_eq e5.symm), List.take_of_length_le (Nat.le_of_eq e5)]
theorem setMany_len : ∀ (vs cs : List Value) (off : Nat), (setMany cs off vs).length = cs.length
  | [], cs, off => rfl
  | v :: vs, cs, off => by simp only [setMany]; rw [setMany_len vs]; simp
end Go.Rt
/- The walking engine, part 23: slices of structs of numbers that are made; copies of rows. No conditions. -/
namespace Go.Rt
open Go.RowKit
variable {r : Option Nat} {P : Program} {ops : Array Oper} {Q : Exit → Act → World → Prop} {rest : List Oper} {n : Nat} {ρ : Nat → Value} {ds : List Deferred} {w w0 : World} {L : List (Nat × Obj)}
  {d : Option Tmp} {ty : TypeId} {p : String} {e : Array Edge} {g : Option (Nat × Bool)}
end Go.Rt
/- The walking engine, part 24: numbers that are turned into words without a sign, and into bytes; closed operations. No conditions. -/
namespace Go.Rt
variable {P : Program} {n : Nat} {ρ : Nat → Value} {ds : List Deferred} {w : World} {d : Option Nat} {ty : TypeId} {p : String} {e : Array Edge} {g : Option (Nat × Bool)}
end Go.Rt
