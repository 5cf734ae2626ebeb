/- Plain words of the shop layer: the loads that the program yields. No conditions. -/
import Derived.Test.YtbnnmjfjibneaaaSSpec5
set_option linter.unusedSimpArgs false
set_option linter.unusedVariables false
namespace Go.Rt.Sh
/-- What is left if a train has carried n. -/
def nx1 (x : List Int) : List Int := x.set 7 (x.getD 7 0 + 1)
def nx2 (x : List Int) (r : Nat) (n : Int) : List Int := (nx1 x).set r ((nx1 x).getD r 0 - n)
def nextX (x : List Int) (t : Train) (n : Int) : List Int := (nx2 x t.room.toNat n).set (3 + t.shop.toNat) ((nx2 x t.room.toNat n).getD (3 + t.shop.toNat) 0 - n)
def mostX (m : Market) (sub : Nat) (x : List Int) (t : Train) : Int := if leaves m t = true ∧ bit sub t.shop.toNat = 1 then min (min t.cap (x.getD t.room.toNat 0)) (x.getD (3 + t.shop.toNat) 0) else 0
def loadsX (m : Market) (sub : Nat) : Nat → List Int → List (List Int)
  | 0, _ => [[]]
  | rem + 1, x => match m.trains[(x.getD 7 0).toNat]? with
    | none => []
    | some t => (List.range ((mostX m sub x t).toNat + 1)).flatMap fun n : Nat => if servedS m (nextX x t n) sub then (loadsX m sub rem (nextX x t n)).map (fun l => (n : Int) :: l) else []
/-- A round of it, behind what was carried before. -/
def segN (m : Market) (sub rem : Nat) (x : List Int) (t : Train) (pre : List Int) (n : Nat) : List (List Int) := if servedS m (nextX x t n) sub then (loadsX m sub rem (nextX x t n)).map (fun l => pre ++ ((n : Int) :: l)) else []
def pad6 (l : List Int) : List Int := l ++ List.replicate (6 - l.length) 0
/-- Fine numbers, at train d. -/
structure GoodX (x : List Int) (d : Nat) : Prop where
  len : x.length = 8
  nn : ∀ z ∈ x, 0 ≤ z ∧ z ≤ 1000
  at7 : x.getD 7 0 = d
theorem GoodX.small {x : List Int} {d : Nat} (h : GoodX x d) : Small x := ⟨h.len, fun z hz => by have := h.nn z hz; omega⟩
theorem GoodX.get {x : List Int} {d : Nat} (h : GoodX x d) (i : Nat) : 0 ≤ x.getD i 0 ∧ x.getD i 0 ≤ 1000 := getD_in (by omega) (by omega) h.nn i
theorem getD_other {x : List Int} {i j : Nat} {z : Int} (h : i ≠ j) : (x.set i z).getD j 0 = x.getD j 0 := by simp [List.getD, List.getElem?_set, h]
theorem nx1_len (x : List Int) : (nx1 x).length = x.length := by simp [nx1]
theorem nx2_len (x : List Int) (r : Nat) (n : Int) : (nx2 x r n).length = x.length := by simp [nx2, nx1_len]
theorem nx1_get {x : List Int} {j : Nat} (h : j ≠ 7) : (nx1 x).getD j 0 = x.getD j 0 := getD_other (Ne.symm h)
theorem nx2_get {x : List Int} {r j : Nat} {n : Int} (h : j ≠ 7) (h2 : j ≠ r) : (nx2 x r n).getD j 0 = x.getD j 0 := by unfold nx2; rw [getD_other (Ne.symm h2), nx1_get h]
theorem set_in {x : List Int} {i : Nat} {z a b : Int} (h : ∀ y ∈ x, a ≤ y ∧ y ≤ b) (hz : a ≤ z ∧ z ≤ b) : ∀ y ∈ x.set i z, a ≤ y ∧ y ≤ b := by
  intro y hy
  rcases List.mem_or_eq_of_mem_set hy with h1 | h1
  · exact h y h1
  · rw [h1]; exact hz
theorem nextX_good {x : List Int} {d : Nat} {t : Train} {n : Int} (h : GoodX x d) (hd : d < 100) (hr : t.room.toNat < 3) (hs : t.shop.toNat < 4) (hn : 0 ≤ n) (h1 : n ≤ x.getD t.room.toNat 0) (h2 : n ≤ x.getD (3 + t.shop.toNat) 0) : GoodX (nextX x t n) (d + 1) := by
  have g1 := h.get t.room.toNat
  have g2 := h.get (3 + t.shop.toNat)
  have e1 : (nx1 x).getD t.room.toNat 0 = x.getD t.room.toNat 0 := nx1_get (by omega)
  have e2 : (nx2 x t.room.toNat n).getD (3 + t.shop.toNat) 0 = x.getD (3 + t.shop.toNat) 0 := nx2_get (by omega) (by omega)
  refine ⟨by simp [nextX, nx2_len, h.len], ?_, ?_⟩
  · unfold nextX
    refine set_in ?_ (by rw [e2]; omega)
    unfold nx2
    refine set_in ?_ (by rw [e1]; omega)
    unfold nx1
    exact set_in h.nn (by rw [h.at7]; omega)
  · unfold nextX nx2
    rw [getD_other (by omega), getD_other (by omega)]
    unfold nx1
    rw [getD_set (by rw [h.len]; omega), h.at7]
    push_cast; rfl
theorem mostX_no {m : Market} {sub : Nat} {x : List Int} {t : Train} (h : leaves m t = false ∨ ¬ bit sub t.shop.toNat = 1) : mostX m sub x t = 0 := by
  unfold mostX
  rw [if_neg]
  rintro ⟨h1, h2⟩
  rcases h with h | h
  · rw [h1] at h; cases h
  · exact h h2
theorem mostX_yes {m : Market} {sub : Nat} {x : List Int} {t : Train} (h1 : leaves m t = true) (h2 : bit sub t.shop.toNat = 1) : mostX m sub x t = min (min t.cap (x.getD t.room.toNat 0)) (x.getD (3 + t.shop.toNat) 0) := by unfold mostX; rw [if_pos ⟨h1, h2⟩]
theorem mostX_bound {m : Market} {sub : Nat} {x : List Int} {d : Nat} {t : Train} (h : GoodX x d) (hc : 1 ≤ t.cap ∧ t.cap ≤ 60) : 0 ≤ mostX m sub x t ∧ mostX m sub x t ≤ 60 ∧ mostX m sub x t ≤ x.getD t.room.toNat 0 ∧ mostX m sub x t ≤ x.getD (3 + t.shop.toNat) 0 := by
  have g1 := h.get t.room.toNat
  have g2 := h.get (3 + t.shop.toNat)
  unfold mostX
  split <;> omega
theorem loads_here {m : Market} {sub rem d : Nat} {x pre : List Int} (h : GoodX x d) (hd : d < m.trains.length) :
    (loadsX m sub (rem + 1) x).map (fun l => pad6 (pre ++ l)) = (List.range ((mostX m sub x m.trains[d]).toNat + 1)).flatMap fun n => (segN m sub rem x m.trains[d] pre n).map pad6 := by
  have e : m.trains[(x.getD 7 0).toNat]? = some m.trains[d] := by rw [h.at7, Int.toNat_natCast, List.getElem?_eq_getElem hd]
  simp only [loadsX, e]
  rw [List.map_flatMap]
  congr 1
  funext n
  unfold segN
  split
  · simp [List.map_map, Function.comp_def]
  · rfl
theorem range_drop {k n : Nat} (h : n < k) : (List.range k).drop n = n :: (List.range k).drop (n + 1) := by
  rw [List.drop_eq_getElem_cons (by simpa using h)]; simp
theorem range_done {k n : Nat} (h : k ≤ n) : (List.range k).drop n = [] := List.drop_of_length_le (by simpa using h)
theorem seg_yes {m : Market} {sub rem n : Nat} {x : List Int} {t : Train} {pre : List Int} (h : servedS m (nextX x t n) sub = true) : (segN m sub rem x t pre n).map pad6 = (loadsX m sub rem (nextX x t n)).map fun l => pad6 ((pre ++ [(n : Int)]) ++ l) := by
  unfold segN; rw [if_pos h]; simp [List.map_map, Function.comp_def]
theorem seg_no {m : Market} {sub rem n : Nat} {x : List Int} {t : Train} {pre : List Int} (h : servedS m (nextX x t n) sub = false) : (segN m sub rem x t pre n).map pad6 = [] := by unfold segN; rw [if_neg (by simp [h])]; rfl
theorem loads_len {m : Market} {sub : Nat} : ∀ (rem : Nat) (x : List Int), ∀ l ∈ loadsX m sub rem x, l.length = rem ∧ ∀ z ∈ l, 0 ≤ z
  | 0, _, l, h => by simp [loadsX] at h; subst h; simp
  | rem + 1, x, l, h => by
    unfold loadsX at h
    cases e : m.trains[(x.getD 7 0).toNat]? with
    | none => rw [e] at h; simp at h
    | some t =>
      rw [e] at h
      simp only [List.mem_flatMap] at h
      obtain ⟨n, _, h⟩ := h
      split at h
      · obtain ⟨l', h1, rfl⟩ := List.mem_map.1 h
        have := loads_len rem _ l' h1
        exact ⟨by simp [this.1], fun z hz => by rcases List.mem_cons.1 hz with rfl | hz; omega; exact this.2 z hz⟩
      · cases h
theorem nodup_flatMap' {α : Type} {f : Nat → List α} : ∀ (k : Nat), (∀ n < k, (f n).Nodup) → (∀ n < k, ∀ n' < k, n ≠ n' → ∀ x ∈ f n, x ∉ f n') → ((List.range k).flatMap f).Nodup
  | 0, _, _ => by simp
  | k + 1, h1, h2 => by
    rw [List.range_succ, List.flatMap_append, List.nodup_append]
    refine ⟨nodup_flatMap' k (fun n hn => h1 n (by omega)) (fun n hn n' hn' => h2 n (by omega) n' (by omega)), by simpa using h1 k (by omega), ?_⟩
    intro x hx y hy e
    subst e
    simp only [List.flatMap_cons, List.flatMap_nil, List.append_nil] at hy
    obtain ⟨n, hn, hx⟩ := List.mem_flatMap.1 hx
    rw [List.mem_range] at hn
    exact h2 n (by omega) k (by omega) (by omega) x hx hy
theorem loads_nodup {m : Market} {sub : Nat} : ∀ (rem : Nat) (x : List Int), (loadsX m sub rem x).Nodup
  | 0, _ => by simp [loadsX]
  | rem + 1, x => by
    unfold loadsX
    cases e : m.trains[(x.getD 7 0).toNat]? with
    | none => simp
    | some t =>
      refine nodup_flatMap' _ (fun n _ => ?_) (fun n _ n' _ hne l hl hl' => ?_)
      · split
        · have hq := loads_nodup (m := m) (sub := sub) rem (nextX x t n)
          unfold List.Nodup at hq ⊢
          rw [List.pairwise_map]
          exact hq.imp fun hne e => hne (by simpa using e)
        · simp
      · split at hl
        · obtain ⟨a, _, rfl⟩ := List.mem_map.1 hl
          split at hl'
          · obtain ⟨b, _, h⟩ := List.mem_map.1 hl'
            simp only [List.cons.injEq] at h
            exact hne (by omega)
          · cases hl'
        · cases hl
theorem pad6_len {l : List Int} (h : l.length ≤ 6) : (pad6 l).length = 6 := by simp [pad6]; omega
theorem pad6_inj {a b : List Int} (h : a.length = b.length) (e : pad6 a = pad6 b) : a = b := by unfold pad6 at e; exact (List.append_inj e h).1
theorem allLoads_nodup {m : Market} {sub rem : Nat} {x : List Int} : ((loadsX m sub rem x).map pad6).Nodup := by
  have h := loads_nodup (m := m) (sub := sub) rem x
  unfold List.Nodup at h ⊢
  rw [List.pairwise_map]
  refine List.Pairwise.imp_of_mem ?_ h
  intro a b ha hb hne e
  exact hne (pad6_inj (by rw [(loads_len rem x a ha).1, (loads_len rem x b hb).1]) e)
theorem cur_pad6 {cur pre : List Int} {d : Nat} (hl : cur.length = 6) (hp : pre.length = d) (hd : d ≤ 6) (hk : cur.take d = pre) (hz : ∀ j, d ≤ j → cur.getD j 0 = 0) : cur = pad6 pre := by
  unfold pad6
  apply List.ext_getElem (by simp [hl, hp]; omega)
  intro j h1 h2
  by_cases hj : j < d
  · rw [List.getElem_append_left (by omega)]
    have : pre[j]'(by omega) = (cur.take d)[j]'(by simp [hl]; omega) := by congr 1; exact hk.symm
    rw [this, List.getElem_take]
  · rw [List.getElem_append_right (by omega)]
    have := hz j (by omega)
    simp only [List.getElem_replicate]
    simpa [List.getD, h1] using this
theorem set_take6 {cur pre : List Int} {d : Nat} {n : Int} (hk : cur.take d = pre) (hl : d < cur.length) : (cur.set d n).take (d + 1) = pre ++ [n] := by
  rw [List.take_succ_eq_append_getElem (by simpa using hl), List.getElem_set_self, List.take_set_of_le (Nat.le_refl _), hk]
theorem set_zero6 {cur : List Int} {d n : Nat} {z : Int} (h : d < n) (hz : ∀ j, n ≤ j → cur.getD j 0 = 0) : ∀ j, n ≤ j → (cur.set d z).getD j 0 = 0 := fun j hj => by rw [getD_other (by omega)]; exact hz j hj
theorem take_less6 {cur pre : List Int} {d : Nat} {n : Int} (h : cur.take (d + 1) = pre ++ [n]) (hp : pre.length = d) : cur.take d = pre := by
  have : (cur.take (d + 1)).take d = (pre ++ [n]).take d := by rw [h]
  rw [List.take_take, Nat.min_eq_left (by omega)] at this
  rw [this, ← hp]; simp
theorem drop_next {α : Type} {L R : List α} {i : Nat} {x : α} (h : L.drop i = x :: R) : L.drop (i + 1) = R := by
  have : (L.drop i).drop 1 = R := by rw [h]; rfl
  rwa [List.drop_drop] at this
theorem drop_lt {α : Type} {L R : List α} {i : Nat} {x : α} (h : L.drop i = x :: R) : i < L.length := by
  rcases Nat.lt_or_ge i L.length with h1 | h1
  · exact h1
  · rw [List.drop_of_length_le h1] at h; cases h
theorem drop_get1 {α : Type} {L R : List α} {i : Nat} {x : α} (h : L.drop i = x :: R) : L[i]'(drop_lt h) = x := by
  have := List.drop_eq_getElem_cons (drop_lt h)
  rw [h] at this
  exact (List.cons.inj this).1.symm
theorem drop_done {α : Type} {L : List α} {i : Nat} (h : i ≤ L.length) (hd : L.drop i = []) : i = L.length := by
  have := congrArg List.length hd
  simp at this; omega
/-- What Give returns, as the program goes. -/
def giveSub : Nat → List Int → Nat
  | s, [] => s
  | s, x :: l => giveSub (bitDiff s (1 <<< x.toNat)) l
theorem giveSub_le : ∀ (l : List Int) (s : Nat), s < 1000 → giveSub s l < 1000
  | [], s, h => h
  | x :: l, s, h => giveSub_le l _ (by have := bitDiff_le s (1 <<< x.toNat) (by omega); omega)
theorem giveSub_step {s : Nat} {l : List Int} {i : Nat} (hi : i < l.length) : giveSub s (l.drop i) = giveSub (bitDiff s (1 <<< l[i].toNat)) (l.drop (i + 1)) := by rw [List.drop_eq_getElem_cons hi]; rfl
theorem giveSub_end {s : Nat} {l : List Int} {i : Nat} (hi : l.length ≤ i) : giveSub s (l.drop i) = s := by rw [List.drop_of_length_le hi]; rfl
def allLoads (m : Market) : List (List Int) := (loadsX m (giveSub (1 <<< m.shops.length - 1) (withoutL m)) m.trains.length (allX m false)).map pad6
def giveL (m : Market) : List Int := match allLoads m with
  | [] => List.replicate m.trains.length 0
  | l :: _ => l.take m.trains.length
def giveP (m : Market) : List Int × Int := if (check m).2.2 ≠ 0 then ([], (check m).2.2) else (giveL m, 0)
theorem allLoads_len {m : Market} (hok : m.Ok) : ∀ l ∈ allLoads m, l.length = 6 := by
  intro l hl
  obtain ⟨q, hq, rfl⟩ := List.mem_map.1 hl
  exact pad6_len (by rw [(loads_len _ _ q hq).1]; exact hok.lt)
theorem giveL_nil {m : Market} (h : (allLoads m).length = 0) : giveL m = List.replicate m.trains.length 0 := by unfold giveL; rw [List.length_eq_zero_iff.1 h]
theorem giveL_cons {m : Market} (h : 0 < (allLoads m).length) : giveL m = (allLoads m)[0].take m.trains.length := by
  unfold giveL
  split
  · rename_i e; rw [e] at h; simp at h
  · rename_i l r e; simp [e]
theorem giveL_len {m : Market} (hok : m.Ok) : (giveL m).length = m.trains.length := by
  rcases Nat.eq_zero_or_pos (allLoads m).length with h | h
  · rw [giveL_nil h]; simp
  · rw [giveL_cons h, List.length_take, allLoads_len hok _ (List.getElem_mem h)]; have := hok.lt; omega
theorem giveL_copy {m : Market} (hok : m.Ok) (h : 0 < (allLoads m).length) : (allLoads m)[0].take m.trains.length ++ (List.replicate m.trains.length (0 : Int)).drop 6 = giveL m := by
  rw [giveL_cons h, List.drop_of_length_le (by rw [List.length_replicate]; exact hok.lt), List.append_nil]
theorem start_last {m : Market} {sub rem : Nat} {x : List Int} : [-1, 0, 0, 0, 0, 0] ∉ (loadsX m sub rem x).map pad6 := by
  intro h
  obtain ⟨l, hl, e⟩ := List.mem_map.1 h
  have h2 := (loads_len rem x l hl).2
  cases l with
  | nil => simp [pad6, List.replicate] at e
  | cons z l =>
    have hz := h2 z (.head _)
    simp only [pad6, List.cons_append, List.cons.injEq] at e
    omega
theorem allX_at7 (m : Market) (hr : m.rooms.length ≤ 3) (hs : m.shops.length ≤ 4) (t : Bool) : (allX m t).getD 7 0 = 0 := by
  have h1 : ∀ i, i ≤ 3 → (handsTo m t i).getD 7 0 = 0 := by
    intro i
    induction i with
    | zero => intro _; rfl
    | succ i ih => intro h; unfold handsTo; rw [getD_other (by omega)]; exact ih (by omega)
  have h2 : ∀ i, i ≤ 4 → (wantsTo m t i).getD 7 0 = 0 := by
    intro i
    induction i with
    | zero => intro _; exact h1 _ hr
    | succ i ih => intro h; unfold wantsTo; rw [getD_other (by omega)]; exact ih (by omega)
  exact h2 _ hs
theorem allX_good {m : Market} (hok : m.Ok) (t : Bool) : GoodX (allX m t) 0 :=
  ⟨allX_len m t, fun z hz => by have := allX_in hok t z hz; omega, by rw [allX_at7 m hok.lr hok.ls]; rfl⟩
theorem listL_in (b : Nat) : ∀ n, ∀ x ∈ listL b n, 0 ≤ x ∧ x < n
  | 0, x, h => by simp [listL] at h
  | n + 1, x, h => by
    simp only [listL, List.mem_append] at h
    rcases h with h | h
    · have := listL_in b n x h; omega
    · split at h
      · simp at h; omega
      · simp at h
theorem withoutTo_in (m : Market) : ∀ k, ∀ x ∈ withoutTo m k, 0 ≤ x ∧ x < m.shops.length
  | 0 => listL_in _ _
  | k + 1 => by
    simp only [withoutTo, withoutStep]
    split
    · exact listL_in _ _
    · exact withoutTo_in m k
theorem drop_notin {α : Type} {L R : List α} {i : Nat} {x : α} (hn : L.Nodup) (h : L.drop i = x :: R) : x ∉ R := by
  have := hn.sublist (List.drop_sublist i L)
  rw [h] at this
  exact (List.nodup_cons.1 this).1
end Go.Rt.Sh
