/- Own texts of this claim, joined. No conditions. -/
import Derived.Test.YtgndnnpadkoagaaHChainWheela
import Derived.Test.YtgndnnpadkoagaaHChainWheelb
import Derived.Test.YtgndnnpadkoagaaHChainWheelc
import Derived.Test.YtgndnnpadkoagaaHChainWheeld
import Derived.Test.YtgndnnpadkoagaaHChainWheele
import Derived.Test.YtgndnnpadkoagaaHChainWheelf
/- Walks of this seat, printed by gen.py over the engine: what each function returns, in whatever world. No conditions but those of each contract. -/
set_option linter.unusedVariables false
set_option linter.unusedSimpArgs false
set_option maxRecDepth 20000
namespace Go.Proofs
open Go.Rt Go.Rt.Ch
open Go.Rt.Ha (firstE firstE_step firstE_stop firstE_end failE nameE felt spanL upto span_mem listL fewest fewTo bit before fewStep drop_lt drop_get drop_next drop_done drop_notin set_take set_zero take_less)
attribute [local irreducible] WL WC Con Yd At Ats Sl Agree DW
theorem Try_Q_fb3  (w : World) : (Instr.buildSlice 23 0 [].toArray).run Try.prog w = .ok (.slice (some ⟨w.heap.size, 0, none⟩) 0 0) (w.alloc (Go.Rt.blk 76 [])) := by kernel_rfl
theorem Try_info76 : Try.prog.info? 76 = some Try.t76 := by kernel_rfl
theorem Try_Q_fb5  (w : World) : (Instr.buildSlice 39 0 [].toArray).run Try.prog w = .ok (.slice (some ⟨w.heap.size, 0, none⟩) 0 0) (w.alloc (Go.Rt.blk 3 [])) := by kernel_rfl
theorem krows_one (l : List Ctr) (q : Nat → AtC) : ∀ row ∈ krows l q, ∀ u ∈ row, u.oneCell' = true := by
  intro row hr u hu
  obtain ⟨i, hi, rfl⟩ := List.getElem_of_mem hr
  simp only [krows, List.getElem_mapIdx, Ctr.cells, List.mem_cons, List.not_mem_nil, or_false] at hu
  rcases hu with rfl | rfl | rfl | rfl | rfl | rfl <;> rfl
theorem ints_rows (l : List Int) : (l.map fun x => [Value.int .i64 x]).flatten = iv l := by induction l with | nil => rfl | cons x l ih => simp only [List.map_cons, List.flatten_cons, ih]; rfl
theorem ints1_one (l : List Int) : ∀ row ∈ l.map (fun x => [Value.int .i64 x]), ∀ u ∈ row, u.oneCell' = true := by
  intro row hr u hu
  obtain ⟨x, _, rfl⟩ := List.mem_map.1 hr
  rw [List.mem_singleton] at hu; subst hu; rfl
/-- Where the counters' lists lie, of which the first so many have been copied. -/
def QC (p : AtB) (qc : Nat → AtC) (i : Nat) : Prop := (∀ j, i ≤ j → qc j = p.pc j) ∧ ∀ j, (qc j).az = (p.pc j).az ∧ (qc j).cz = (p.pc j).cz
def DS (w0 : World) (DB : List (Nat × Obj)) (b : Board) (s : Nat) (qc : Nat → AtC) (i : Nat) : Prop := ∀ k (hk : k < i) (hk2 : k < b.ctrs.length), Sl w0 DB (qc k).as 1 ((butC b.hours.length s k b.ctrs[k]).shown.map fun x => [Value.int .i64 x]) ∧ b.ctrs[k].shown.length ≤ (qc k).cs
theorem qc_zero (p : AtB) : QC p p.pc 0 := ⟨fun _ _ => rfl, fun _ => ⟨rfl, rfl⟩⟩
theorem QC.next {p : AtB} {qc : Nat → AtC} {i : Nat} (h : QC p qc i) (a : Option Addr) (c : Nat) : QC p (setPc qc i a c) (i + 1) := by
  refine ⟨fun j hj => ?_, fun j => ?_⟩
  · unfold setPc; rw [if_neg (by omega)]; exact h.1 j (by omega)
  · unfold setPc
    split
    · rename_i e; subst e; exact h.2 j
    · exact h.2 j
theorem ds_zero (w0 : World) (b : Board) (s : Nat) (qc : Nat → AtC) : DS w0 [] b s qc 0 := fun k hk => by omega
theorem DS.next {w0 : World} {DB B2 : List (Nat × Obj)} {b : Board} {s i : Nat} {qc : Nat → AtC} (h : DS w0 DB b s qc i) {a : Option Addr} {c : Nat} (hi : i < b.ctrs.length) (h2 : Sl w0 B2 a 1 ((butC b.hours.length s i b.ctrs[i]).shown.map fun x => [Value.int .i64 x])) (hc : b.ctrs[i].shown.length ≤ c) : DS w0 (B2 ++ DB) b s (setPc qc i a c) (i + 1) := by
  intro k hk hk2
  unfold setPc
  by_cases e : k = i
  · subst e
    rw [if_pos rfl]
    exact ⟨h2.top, hc⟩
  · rw [if_neg e]
    exact ⟨(h k (by omega) hk2).1.app, (h k (by omega) hk2).2⟩
theorem own_int_sl {w0 : World} {a : Option Addr} {n c : Nat} {l : List Int} {B : List (Nat × Obj)} (h : Rt.Own (.slice a n c) 3 1 n (iv l) B) (hl : l.length = n) : Sl w0 B a 1 (l.map fun x => [Value.int .i64 x]) ∧ n ≤ c := by
  obtain ⟨a', c', h1, h2, h3, _⟩ := own_rows0 (w0 := w0) (rows := l.map fun x => [Value.int .i64 x]) h (by intro row hr; obtain ⟨x, _, rfl⟩ := List.mem_map.1 hr; rfl) (by rw [List.length_map, hl]) (ints_rows l).symm
  injection h1 with e1 _ e3
  subst e1 e3
  exact ⟨h2, h3⟩
theorem drop_set_cell {cs : List Value} {k : Nat} {v : Value} (h : k < cs.length) : ((cs.set k v).drop k).take [v].length = [v] := by
  rw [List.drop_eq_getElem_cons (by simpa using h)]
  simp
theorem take_get {cs : List Value} {l : List Int} {m k : Nat} (h : cs.take (m * 1) = iv l) (hl : l.length = m) (hk : k < m) : (cs.drop (0 + k * 1)).take 1 = [.int .i64 (l.getD k 0)] := by
  have hlen : k < cs.length := by
    have := congrArg List.length h
    rw [List.length_take, List.length_map] at this; omega
  rw [Nat.mul_one, Nat.zero_add, List.drop_eq_getElem_cons hlen]
  have h2 : (cs.take (m * 1))[k]? = (iv l)[k]? := by rw [h]
  rw [List.getElem?_take, if_pos (by omega), List.getElem?_eq_getElem hlen] at h2
  simp only [iv, List.getElem?_map, List.getElem?_eq_getElem (show k < l.length by omega), Option.map_some, Option.some.injEq] at h2
  simp [h2, List.getD, show k < l.length by omega]
theorem take_put {cs : List Value} {l : List Int} {m k : Nat} {z : Int} (h : cs.take (m * 1) = iv l) : (setMany cs (0 + k * 1) [.int .i64 z]).take (m * 1) = iv (l.set k z) := by
  simp only [setMany, Nat.zero_add, Nat.mul_one]
  rw [List.take_set]
  rw [Nat.mul_one] at h
  rw [h]; simp [iv, List.map_set]
theorem but_bin {w0 : World} {F B1 DB : List (Nat × Obj)} {b : Board} {p : AtB} {s i cC : Nat} {aC : Option Addr} {qc : Nat → AtC} (hm : BIn w0 F b p) (hi : b.ctrs.length ≤ i) (hown : Rt.Own (.slice aC b.ctrs.length cC) 76 6 b.ctrs.length (krows (BL b s i) qc).flatten B1) (hq : QC p qc i) (hd : DS w0 DB b s qc i) : BIn w0 (B1 ++ (DB ++ F)) (butB b s) ⟨p.ah, p.ch, aC, cC, qc⟩ := by
  rw [BL_all hi] at hown
  obtain ⟨a', c', h1, h2, h3, _⟩ := own_rows0 (w0 := w0) (rows := krows (butB b s).ctrs qc) hown (krows_row _ _) (by rw [krows_len, butB_len]) rfl
  injection h1 with e1 _ e3
  subst e1 e3
  refine ⟨hm.h.app.app, h2.top, fun k hk => ?_, fun k hk => ?_, hm.lh, by rw [butB_len]; exact hm.lc, hm.ch, by rw [butB_len]; exact h3, fun k hk => ?_, fun k hk => ?_, fun x hx => ?_⟩
  · have hk2 : k < b.ctrs.length := by rw [butB_len] at hk; exact hk
    rw [butB_get hk2, show (qc k).az = (p.pc k).az from (hq.2 k).1]; exact (hm.z k hk2).app.app
  · have hk2 : k < b.ctrs.length := by rw [butB_len] at hk; exact hk
    rw [butB_get hk2]; exact (hd k (by omega) hk2).1.top.app
  · have hk2 : k < b.ctrs.length := by rw [butB_len] at hk; exact hk
    rw [butB_get hk2, show (qc k).cz = (p.pc k).cz from (hq.2 k).2]; exact hm.lz k hk2
  · have hk2 : k < b.ctrs.length := by rw [butB_len] at hk; exact hk
    rw [butB_get hk2, butC_slen]; exact ⟨(hm.ls k hk2).1, (hd k (by omega) hk2).2⟩
  · obtain ⟨k, hk, rfl⟩ := List.getElem_of_mem hx
    have hk2 : k < b.ctrs.length := by rw [butB_len] at hk; exact hk
    rw [butB_get hk2]; exact hm.nm b.ctrs[k] (List.getElem_mem hk2)
theorem c85 {w0 w : World} {F : List (Nat × Obj)} (a : Option Addr) (c : Nat) (l : List Ctr) (q : Nat → AtC) (hl : l.length ≤ 1000000) (ha : Sl w0 F a 6 (krows l q)) (hs : St w0 w F) :
  Con Try.prog 85 [.slice a l.length c] w fun v w' => ∃ a2 c2 B', v = .slice a2 l.length c2 ∧ Rt.Own (.slice a2 l.length c2) 76 6 l.length (krows l q).flatten B' ∧ St w0 w' (B' ++ F) := by
  refine con_of_wc (n := 8) Try.func85 rfl rfl (Nat.le_of_ble_eq_true rfl) ?_
  refine w_seq (fun K2 hK1 => ?_)
  refine w_region ?_
  refine w_p (y_assign (v := _) rfl rfl) rfl ?_
  refine w_nil ?_
  refine q_then (hK1 _ _ ?_)
  refine w_seq (fun K4 hK3 => ?_)
  refine w_seq (fun K6 hK5 => ?_)
  refine w_region ?_
  refine w_p (y_move (v := .slice _ _ _) rfl rfl) rfl ?_
  refine w_p (y_sliceNil Try.underlying23 rfl rfl rfl rfl) rfl ?_
  refine w_nil ?_
  refine q_then (hK5 _ _ ?_)
  refine w_cond rfl rfl (fun h7 => ?_) (fun h7 => ?_)
  ·
   try simp only [zA, zB, zC, zD, zE, zF] at h7
   refine w_seq (fun K9 hK8 => ?_)
   refine w_region ?_
   refine w_p (y_assign (v := _) rfl rfl) rfl ?_
   refine w_nil ?_
   refine q_then (hK8 _ _ ?_)
   refine w_ret ?_
   refine q_then_ret ?_
   refine q_ret (l := [.tmp 2]) (vs := [_]) rfl ⟨⟨rfl, show _ = (.slice _ _ _ : Value) from rfl⟩, trivial⟩ ?_
   have hr := sl_none (L := F) (w0 := w0) (by have : a = none := (by simpa using ‹a.isNone = true›); subst this; exact ha)
   have hl0 : l = [] := by simpa [krows] using hr
   subst hl0
   exact ⟨none, 0, [], rfl, own_nil 76 6, hs⟩
  ·
   try simp only [zA, zB, zC, zD, zE, zF] at h7
   refine w_skip ?_
   refine q_then (hK3 _ _ ?_)
   refine w_seq (fun K11 hK10 => ?_)
   refine w_region ?_
   refine w_bslice (ps := []) (pv := []) (cs := []) want_none rfl rfl (fun w => Try_Q_fb3  w) hs (fun b12 w13 hs14 => ?_)
   refine w_p (y_move (v := .slice _ _ _) rfl rfl) rfl ?_
   refine w_append (X := ([])) (B := [_]) (rows := krows l q) (sz := 6) (bytes := 88) want_none Try.underlying23 Try_info76 rfl rfl rfl rfl rfl rfl rfl rfl rfl hs14 own_made ha.cons (by simp [krows]) (fun h => by subst h; simp at h7) (krows_one l q) (by simp only [maxLen]; omega) (by omega) (fun v15 w16 B17 ho18 hs19 => ?_)
   replace hs19 := (show St _ _ (B17 ++ (F)) from hs19)
   refine w_p (y_assign (v := v15) rfl rfl) rfl ?_
   refine w_nil ?_
   refine q_then (hK10 _ _ ?_)
   refine w_ret ?_
   refine q_ret (l := [.tmp 2]) (vs := [_]) rfl ⟨⟨rfl, show _ = (v15 : Value) from rfl⟩, trivial⟩ ?_
   rw [Nat.zero_add, List.nil_append] at ho18
   have h9 := ho18
   obtain ⟨a2, c2, rfl⟩ := h9.slice
   exact ⟨a2, c2, _, rfl, h9, hs19⟩

theorem c86 {w0 w : World} {F : List (Nat × Obj)} (a : Option Addr) (c : Nat) (l : List Int) (hl : l.length ≤ 1000000) (ha : Sl w0 F a 1 (l.map fun x => [Value.int .i64 x])) (hs : St w0 w F) :
  Con Try.prog 86 [.slice a l.length c] w fun v w' => ∃ a2 c2 B', v = .slice a2 l.length c2 ∧ Rt.Own (.slice a2 l.length c2) 3 1 l.length (iv l) B' ∧ St w0 w' (B' ++ F) := by
  refine con_of_wc (n := 8) Try.func86 rfl rfl (Nat.le_of_ble_eq_true rfl) ?_
  refine w_seq (fun K2 hK1 => ?_)
  refine w_region ?_
  refine w_p (y_assign (v := _) rfl rfl) rfl ?_
  refine w_nil ?_
  refine q_then (hK1 _ _ ?_)
  refine w_seq (fun K4 hK3 => ?_)
  refine w_seq (fun K6 hK5 => ?_)
  refine w_region ?_
  refine w_p (y_move (v := .slice _ _ _) rfl rfl) rfl ?_
  refine w_p (y_sliceNil Try.underlying39 rfl rfl rfl rfl) rfl ?_
  refine w_nil ?_
  refine q_then (hK5 _ _ ?_)
  refine w_cond rfl rfl (fun h7 => ?_) (fun h7 => ?_)
  ·
   try simp only [zA, zB, zC, zD, zE, zF] at h7
   refine w_seq (fun K9 hK8 => ?_)
   refine w_region ?_
   refine w_p (y_assign (v := _) rfl rfl) rfl ?_
   refine w_nil ?_
   refine q_then (hK8 _ _ ?_)
   refine w_ret ?_
   refine q_then_ret ?_
   refine q_ret (l := [.tmp 2]) (vs := [_]) rfl ⟨⟨rfl, show _ = (.slice _ _ _ : Value) from rfl⟩, trivial⟩ ?_
   have hr := sl_none (L := F) (w0 := w0) (by have : a = none := (by simpa using ‹a.isNone = true›); subst this; exact ha)
   have hl0 : l = [] := by simpa [krows] using hr
   subst hl0
   exact ⟨none, 0, [], rfl, own_nil 3 1, hs⟩
  ·
   try simp only [zA, zB, zC, zD, zE, zF] at h7
   refine w_skip ?_
   refine q_then (hK3 _ _ ?_)
   refine w_seq (fun K11 hK10 => ?_)
   refine w_region ?_
   refine w_bslice (ps := []) (pv := []) (cs := []) want_none rfl rfl (fun w => Try_Q_fb5  w) hs (fun b12 w13 hs14 => ?_)
   refine w_p (y_move (v := .slice _ _ _) rfl rfl) rfl ?_
   refine w_append (X := ([])) (B := [_]) (rows := (l.map fun x => [Value.int .i64 x])) (sz := 1) (bytes := 8) want_none Try.underlying39 Try_info3 rfl rfl rfl rfl rfl rfl rfl rfl rfl hs14 own_made ha.cons (by simp) (fun h => by subst h; simp at h7) (ints1_one l) (by simp only [maxLen]; omega) (by omega) (fun v15 w16 B17 ho18 hs19 => ?_)
   replace hs19 := (show St _ _ (B17 ++ (F)) from hs19)
   refine w_p (y_assign (v := v15) rfl rfl) rfl ?_
   refine w_nil ?_
   refine q_then (hK10 _ _ ?_)
   refine w_ret ?_
   refine q_ret (l := [.tmp 2]) (vs := [_]) rfl ⟨⟨rfl, show _ = (v15 : Value) from rfl⟩, trivial⟩ ?_
   rw [Nat.zero_add, List.nil_append] at ho18
   have h9 := ho18
   obtain ⟨a2, c2, rfl⟩ := h9.slice
   exact ⟨a2, c2, _, rfl, (by rw [ints_rows] at h9; exact h9), hs19⟩

theorem c83 {w0 w : World} {F : List (Nat × Obj)} (b : Board) (p : AtB) (hm : BIn w0 F b p) (hck : (check b).2.2 = 0) (s : Nat) (hs1k : s < 1000) (bq bh : Nat) (h1 : Ats w0 F bq 0 (b.cells p)) (h2 : Ats w0 F bh 0 [.int .i64 (b.hours.length : Int)]) (hs : St w0 w F) :
  Con Try.prog 83 [.int .i64 (s : Int), .pointer (some ⟨bq, 0, none⟩), .pointer (some ⟨bh, 0, none⟩)] w fun v w' => v = .bool (wrongS b s) ∧ St w0 w' F := by
  refine con_of_wc (n := 73) Try.func83 rfl rfl (Nat.le_of_ble_eq_true rfl) ?_
  have hok := check_ok hck
  have hlh := hok.lh
  have hlc := hok.lc
  refine w_seq (fun K2 hK1 => ?_)
  refine w_region ?_
  refine w_p (y_assign (v := _) rfl rfl) rfl ?_
  refine w_nil ?_
  refine q_then (hK1 _ _ ?_)
  refine w_seq (fun K4 hK3 => ?_)
  refine w_region ?_
  refine w_p (y_loadN (vs := [_, _, _]) Try.isAgg25 Try.sizeOf25 hs rfl rfl h1) rfl ?_
  refine w_call want_none Try.call84 rfl rfl rfl rfl (c84 b p hs) ?_
  rintro _ w6 ⟨bb, mm, rfl, hs7⟩
  replace hs7 := (show St _ _ (_ :: _ :: F) from hs7)
  refine w_p (y_assign (v := .pointer _) rfl rfl) rfl ?_
  refine w_nil ?_
  refine q_then (hK3 _ _ ?_)
  refine w_seq (fun K9 hK8 => ?_)
  refine w_region ?_
  refine w_p (y_move (v := .pointer _) rfl rfl) rfl ?_
  refine w_p (y_fieldAddr (o := 2) (i := 2) Try.underlying25 rfl Try.sizeOf23 rfl rfl rfl) rfl ?_
  refine w_p (y_load1 Try.isAgg23 hs7.tail.tail rfl rfl (show Ats _ _ _ _ [_] from Ats.part h1 2 1)) rfl ?_
  refine w_call want_none Try.call85 rfl rfl rfl rfl (c85 _ _ b.ctrs p.pc (by omega) hm.c.cons.cons hs7) ?_
  rintro _ w11 ⟨aC, cC, B1, rfl, hown, hs12⟩
  have hs13 := (show St _ _ (B1 ++ ([_, _] ++ F)) from hs12).perm (perm_mid B1 [_, _] F)
  replace hs13 := (show St _ _ (_ :: _ :: B1 ++ (F)) from hs13)
  refine w_p (y_nilCheck rfl rfl) rfl ?_
  refine w_p (y_fieldAddr (o := 0) (i := 0) Try.underlying129 rfl Try.sizeOf25 rfl rfl rfl) rfl ?_
  refine w_p (y_fieldAddr (o := 2) (i := 2) Try.underlying25 rfl Try.sizeOf23 rfl rfl rfl) rfl ?_
  refine w_store (i := 0) (v := .slice _ _ _) (vs := [_]) want_none Try.sizeOf23 rfl rfl rfl rfl rfl (by simp [Value.oneCell']) hs13 rfl (Nat.le_of_ble_eq_true rfl) (fun w14 hs15 => ?_)
  refine w_nil ?_
  refine q_then (hK8 _ _ ?_)
  refine w_seq (fun K17 hK16 => ?_)
  refine w_seq (fun K19 hK18 => ?_)
  refine w_region ?_
  refine w_p (y_move (v := .pointer _) rfl rfl) rfl ?_
  refine w_p (y_nilCheck rfl rfl) rfl ?_
  refine w_p (y_fieldAddr (o := 0) (i := 0) Try.underlying129 rfl Try.sizeOf25 rfl rfl rfl) rfl ?_
  refine w_p (y_fieldAddr (o := 2) (i := 2) Try.underlying25 rfl Try.sizeOf23 rfl rfl rfl) rfl ?_
  refine w_p (y_load1 Try.isAgg23 hs15 rfl rfl (ats_own (i := 0) (vs := [_]) rfl rfl)) rfl ?_
  refine w_p (y_lenS Try.underlying23 rfl rfl) rfl ?_
  refine w_p (y_move (v := _) rfl rfl) rfl ?_
  refine w_nil ?_
  refine q_then (hK18 _ _ ?_)
  refine w_block ?_
  refine w_loop [4, 6, 7, 8, 24, 25, 26, 27, 28, 29, 30, 31, 32, 33, 34, 35, 36, 37, 38, 39, 40, 41, 42, 43, 44, 45, 46, 47, 48, 49, 50, 51, 52, 53, 54, 55, 56, 57, 58, 59, 60, 61, 62, 63, 64, 65, 66, 67, 68, 69, 70] [24] (fun kk vs w => ∃ (i : Nat) (B1 DB : List (Nat × Obj)) (qc : Nat → AtC), vs = [.int .i64 i] ∧ i ≤ b.ctrs.length ∧ kk = b.ctrs.length - i ∧ Rt.Own (.slice aC b.ctrs.length cC) 76 6 b.ctrs.length (krows (BL b s i) qc).flatten B1 ∧ QC p qc i ∧ DS w0 DB b s qc i ∧ WOK b s (i * b.hours.length + 0) ∧ St w0 w ((bb, blk 129 [.int .i64 b.holds, .slice p.ah b.hours.length p.ch, .slice aC b.ctrs.length cC, .map (some mm)]) :: (mm, .map #[] 0) :: (B1 ++ (DB ++ F)))) (b.ctrs.length) ?_ ?_
  ·
   exact ⟨0, B1, [], p.pc, rfl, by omega, by omega, by rw [BL_zero]; exact hown, qc_zero p, ds_zero w0 b s _, (fun j hj => by omega), hs15⟩
  ·
   intro k vs μ w22 hI K21 hN20
   clear hs hown
   obtain ⟨i, B1, DB, qc, rfl, hia, rfl, hown, hqc, hds, hwk, hs⟩ := hI
   refine w_seq (fun K24 hK23 => ?_)
   refine w_region ?_
   refine w_p (y_lss rfl rfl rfl rfl) rfl ?_
   refine w_nil ?_
   refine q_then (hK23 _ _ ?_)
   refine w_seq (fun K26 hK25 => ?_)
   refine w_cond rfl rfl (fun h27 => ?_) (fun h27 => ?_)
   ·
    try simp only [zA, zB, zC, zD, zE, zF] at h27
    refine w_skip ?_
    refine q_then (hK25 _ _ ?_)
    refine w_seq (fun K29 hK28 => ?_)
    refine w_block ?_
    refine w_seq (fun K31 hK30 => ?_)
    refine w_region ?_
    refine w_p (y_move (v := .int _ _) rfl rfl) rfl ?_
    refine w_p (y_assign (v := .int _ _) rfl rfl) rfl ?_
    refine w_nil ?_
    refine q_then (hK30 _ _ ?_)
    refine w_seq (fun K33 hK32 => ?_)
    have hi2 : i < b.ctrs.length := by omega
    have hci := hok.ctr _ (List.getElem_mem hi2)
    have hlz := hci.ls
    obtain ⟨bc, cs, rfl, rfl, hcap, hcapm, hcl, htk⟩ := own_some2 hown (by omega)
    replace hs := (show St _ _ (_ :: _ :: _ :: DB ++ (F)) from hs)
    obtain ⟨bx, ox, hbx2, hrow⟩ := sl_krows (sl_own (w0 := w0) (L := (bc, blk 76 cs) :: (DB ++ F)) (i := 0) rfl (krows_row (BL b s i) qc) (by rw [krows_len, BL_len (by omega)]; exact htk)) (i := i) (by rw [BL_len (by omega)]; exact hi2)
    cases hbx2
    rw [BL_get hi2, hqc.1 i (Nat.le_refl _)] at hrow
    refine w_region ?_
    refine w_p (y_move (v := .pointer _) rfl rfl) rfl ?_
    refine w_p (y_nilCheck rfl rfl) rfl ?_
    refine w_p (y_fieldAddr (o := 0) (i := 0) Try.underlying129 rfl Try.sizeOf25 rfl rfl rfl) rfl ?_
    refine w_p (y_fieldAddr (o := 2) (i := 2) Try.underlying25 rfl Try.sizeOf23 rfl rfl rfl) rfl ?_
    refine w_p (y_load1 Try.isAgg23 hs rfl rfl (ats_own (i := 0) (vs := [_]) rfl rfl)) rfl ?_
    refine w_p (y_move (v := .int _ _) rfl rfl) rfl ?_
    refine w_p (y_indexS Try.underlying23 Try.sizeOf76 rfl rfl rfl rfl (i := i) rfl hi2) rfl ?_
    refine w_p (y_assign (v := .pointer _) rfl rfl) rfl ?_
    refine w_nil ?_
    refine q_then (hK32 _ _ ?_)
    refine w_seq (fun K35 hK34 => ?_)
    refine w_region ?_
    refine w_p (y_move (v := .pointer _) rfl rfl) rfl ?_
    refine w_p (y_move (v := .pointer _) rfl rfl) rfl ?_
    refine w_p (y_nilCheck rfl rfl) rfl ?_
    refine w_p (y_fieldAddr (o := 5) (i := 5) Try.underlying76 rfl Try.sizeOf39 rfl rfl rfl) rfl ?_
    refine w_p (y_load1 Try.isAgg39 hs.tail.tail rfl rfl (show Ats _ _ _ _ [_] from Ats.part hrow 5 1)) rfl ?_
    refine w_call want_none Try.call86 rfl rfl rfl rfl (c86 _ _ (b.ctrs[i]'hi2).shown (by omega) (hm.s i hi2).app.cons.cons.cons hs) ?_
    rintro _ w37 ⟨a2, c2, B2, rfl, hown2, hs38⟩
    have hs39 := (show St _ _ (B2 ++ ([_, _, _] ++ (DB ++ F))) from hs38).perm (perm_mid B2 [_, _, _] (DB ++ F))
    replace hs39 := (show St _ _ (_ :: _ :: _ :: B2 ++ (DB ++ (F))) from hs39)
    refine w_p (y_nilCheck rfl rfl) rfl ?_
    refine w_p (y_fieldAddr (o := 5) (i := 5) Try.underlying76 rfl Try.sizeOf39 rfl rfl rfl) rfl ?_
    refine w_store (i := 2) (v := .slice _ _ _) (vs := [_]) want_none Try.sizeOf39 rfl rfl rfl rfl rfl (by simp [Value.oneCell']) hs39 rfl (by show 0 + i * 6 + 5 + 1 ≤ cs.length; omega) (fun w40 hs41 => ?_)
    replace hs41 := (show St _ _ (_ :: _ :: (bc, blk 76 (setMany cs (0 + i * 6 + 5) [(Value.slice a2 (b.ctrs[i]'hi2).shown.length c2)])) :: (B2 ++ (DB ++ F))) from hs41)
    have he0 : setMany cs (0 + i * 6 + 5) [(Value.slice a2 (b.ctrs[i]'hi2).shown.length c2)] = cs.set (i * 6 + 5) (Value.slice a2 (b.ctrs[i]'hi2).shown.length c2) := by simp only [setMany, Nat.zero_add]
    rw [he0] at hs41
    obtain ⟨cs1, hcs1⟩ : ∃ cs1, cs1 = cs.set (i * 6 + 5) (Value.slice a2 (b.ctrs[i]'hi2).shown.length c2) := ⟨_, rfl⟩
    rw [← hcs1] at hs41
    have hcell : (cs1.drop (0 + i * 6 + 5)).take [(Value.slice a2 (b.ctrs[i]'hi2).shown.length c2)].length = [(Value.slice a2 (b.ctrs[i]'hi2).shown.length c2)] := by rw [hcs1, Nat.zero_add]; exact drop_set_cell (by omega)
    refine w_nil ?_
    refine q_then (hK34 _ _ ?_)
    refine w_seq (fun K43 hK42 => ?_)
    refine w_region ?_
    refine w_p (y_load1 Try.isAgg3 hs41.tail.tail.tail.drop.drop rfl rfl h2) rfl ?_
    refine w_p (y_move (v := _) rfl rfl) rfl ?_
    refine w_nil ?_
    refine q_then (hK42 _ _ ?_)
    refine w_block ?_
    refine w_loop [4, 8, 43, 44, 45, 46, 47, 48, 49, 50, 51, 52, 53, 54, 55, 56, 57, 58, 59, 60, 61, 62, 63, 64, 65, 66, 67, 68, 69] [43] (fun kk vs w => ∃ (k : Nat) (B2 : List (Nat × Obj)), vs = [.int .i64 k] ∧ k ≤ b.hours.length ∧ kk = b.hours.length - k ∧ Rt.Own (Value.slice a2 (b.ctrs[i]'hi2).shown.length c2) 3 1 (b.ctrs[i]'hi2).shown.length (iv (shPart b.hours.length s i k (b.ctrs[i]'hi2).shown)) B2 ∧ WOK b s (i * b.hours.length + k) ∧ St w0 w ((bb, blk 129 [.int .i64 b.holds, .slice p.ah b.hours.length p.ch, .slice (some ⟨bc, 0, none⟩) b.ctrs.length cC, .map (some mm)]) :: (mm, .map #[] 0) :: (bc, blk 76 cs1) :: (B2 ++ (DB ++ F)))) (b.hours.length) ?_ ?_
    ·
     exact ⟨0, B2, rfl, by omega, by omega, by rw [shPart_zero]; exact hown2, hwk, hs41⟩
    ·
     intro k vs μ w46 hI K45 hN44
     clear hs hown2
     obtain ⟨k, B2, rfl, hka, rfl, hown2, hwk2, hs⟩ := hI
     refine w_seq (fun K48 hK47 => ?_)
     refine w_region ?_
     refine w_p (y_lss rfl rfl rfl rfl) rfl ?_
     refine w_nil ?_
     refine q_then (hK47 _ _ ?_)
     refine w_seq (fun K50 hK49 => ?_)
     refine w_cond rfl rfl (fun h51 => ?_) (fun h51 => ?_)
     ·
      try simp only [zA, zB, zC, zD, zE, zF] at h51
      refine w_skip ?_
      refine q_then (hK49 _ _ ?_)
      refine w_seq (fun K53 hK52 => ?_)
      refine w_block ?_
      refine w_seq (fun K55 hK54 => ?_)
      refine w_region ?_
      refine w_p (y_move (v := .int _ _) rfl rfl) rfl ?_
      refine w_p (y_assign (v := .int _ _) rfl rfl) rfl ?_
      refine w_nil ?_
      refine q_then (hK54 _ _ ?_)
      refine w_seq (fun K57 hK56 => ?_)
      refine w_seq (fun K59 hK58 => ?_)
      have hk2 : k < b.hours.length := by omega
      have hm8 := mul_in8 hlh hlc hi2 hk2
      have hmi : ((i : Int) * (b.hours.length : Int)) = ((i * b.hours.length : Nat) : Int) := by push_cast; rfl
      refine w_region ?_
      refine w_p (y_move (v := .int _ _) rfl rfl) rfl ?_
      refine w_p (y_move (v := .int _ _) rfl rfl) rfl ?_
      refine w_p (y_load1 Try.isAgg3 hs.tail.tail.tail.drop.drop rfl rfl h2) rfl ?_
      refine w_p (yd_cast (z' := ((i * b.hours.length : Nat) : Int)) hmi (y_mul rfl rfl rfl rfl (by omega) (by omega))) rfl ?_
      refine w_p (y_move (v := .int _ _) rfl rfl) rfl ?_
      refine w_p (yd_cast (z' := ((i * b.hours.length + k : Nat) : Int)) (by omega) (y_add rfl rfl rfl rfl (by omega) (by omega))) rfl ?_
      refine w_p (y_shr (x := s) (y := i * b.hours.length + k) rfl rfl rfl rfl (by first | rfl | omega) (by first | rfl | omega) (by first | omega | exact shr_lt (by omega))) rfl ?_
      refine w_p (show Yd _ _ _ _ (.int .i64 ((bit s (i * b.hours.length + k) : Nat) : Int)) from (y_and (x := _) (y := 1) rfl rfl rfl rfl rfl rfl (by first | omega | exact shr_lt (by omega)) (by first | omega | exact shr_lt (by omega)))) rfl ?_
      refine w_p (y_eql rfl rfl rfl rfl) rfl ?_
      refine w_nil ?_
      refine q_then (hK58 _ _ ?_)
      refine w_cond rfl rfl (fun h60 => ?_) (fun h60 => ?_)
      ·
       try simp only [zA, zB, zC, zD, zE, zF] at h60
       refine w_exit ?_
       refine q_then_exit ?_
       refine q_blk_this ?_
       refine q_then (hK52 _ _ ?_)
       refine w_region ?_
       refine w_p (y_add rfl rfl rfl rfl (by omega) (by omega)) rfl ?_
       refine w_p (y_move (v := .int _ _) rfl rfl) rfl ?_
       refine w_nil ?_
       refine q_then (hN44 _ _ (Nx.intro (b.hours.length - (k + 1)) (by omega) (by repeat (first | exact agree_mix | refine agree_upd rfl ?_ | refine agree_updL rfl ?_ _ | refine agree_mixin rfl ?_)) ?_))
       exact ⟨k + 1, B2, rfl, by omega, rfl, by rw [← shPart_no (by omega)]; exact hown2, wok_no hwk2 (by omega), hs⟩
      ·
       try simp only [zA, zB, zC, zD, zE, zF] at h60
       refine w_skip ?_
       refine q_then (hK56 _ _ ?_)
       refine w_seq (fun K62 hK61 => ?_)
       refine w_seq (fun K64 hK63 => ?_)
       have hk2 : k < b.hours.length := by omega
       obtain ⟨d, cs2, rfl, rfl, hcap2, hcapm2, hcl2, htk2⟩ := own_some2 hown2 (by omega)
       replace hs := (show St _ _ (_ :: _ :: _ :: _ :: DB ++ (F)) from hs)
       refine w_region ?_
       refine w_p (y_move (v := .pointer _) rfl rfl) rfl ?_
       refine w_p (y_nilCheck rfl rfl) rfl ?_
       refine w_p (y_fieldAddr (o := 5) (i := 5) Try.underlying76 rfl Try.sizeOf39 rfl rfl rfl) rfl ?_
       refine w_p (y_load1 Try.isAgg39 hs rfl rfl (ats_own (i := 2) (vs := [_]) rfl hcell)) rfl ?_
       refine w_p (y_move (v := .int _ _) rfl rfl) rfl ?_
       refine w_p (y_indexS Try.underlying39 Try.sizeOf3 rfl rfl rfl rfl (i := k) rfl (by omega)) rfl ?_
       refine w_p (y_load1 Try.isAgg3 hs rfl rfl (ats_own (i := 3) (vs := [_]) rfl (take_get htk2 (by rw [shPart_len]) (by omega)))) rfl ?_
       refine w_p (y_eql rfl rfl rfl rfl) rfl ?_
       refine w_nil ?_
       refine q_then (hK63 _ _ ?_)
       refine w_cond rfl rfl (fun h65 => ?_) (fun h65 => ?_)
       ·
        try simp only [zA, zB, zC, zD, zE, zF] at h65
        refine w_seq (fun K67 hK66 => ?_)
        refine w_region ?_
        refine w_p (y_assign (v := _) rfl rfl) rfl ?_
        refine w_nil ?_
        refine q_then (hK66 _ _ ?_)
        refine w_ret ?_
        refine q_then_ret ?_
        refine q_blk_ret ?_
        refine q_then_ret ?_
        refine q_then_ret ?_
        refine q_blk_ret ?_
        refine q_blk_ret ?_
        refine q_then_ret ?_
        refine q_then_ret ?_
        refine q_blk_ret ?_
        refine q_then_ret ?_
        refine q_ret (l := [.tmp 4]) (vs := [_]) rfl ⟨⟨rfl, show _ = (.bool _ : Value) from rfl⟩, trivial⟩ ?_
        exact ⟨congrArg Value.bool (wrongS_no hi2 hk2 (by have := bit_lt2 s (i * b.hours.length + k); omega) (by rw [← shPart_get (n := b.hours.length) (s := s) (i := i) (by omega)]; assumption)).symm, hs.tail.tail.tail.tail.drop⟩
       ·
        try simp only [zA, zB, zC, zD, zE, zF] at h65
        refine w_skip ?_
        refine q_then (hK61 _ _ ?_)
        refine w_region ?_
        refine w_p (y_move (v := .pointer _) rfl rfl) rfl ?_
        refine w_p (y_nilCheck rfl rfl) rfl ?_
        refine w_p (y_fieldAddr (o := 5) (i := 5) Try.underlying76 rfl Try.sizeOf39 rfl rfl rfl) rfl ?_
        refine w_p (y_load1 Try.isAgg39 hs rfl rfl (ats_own (i := 2) (vs := [_]) rfl hcell)) rfl ?_
        refine w_p (y_move (v := .int _ _) rfl rfl) rfl ?_
        refine w_p (y_indexS Try.underlying39 Try.sizeOf3 rfl rfl rfl rfl (i := k) rfl (by omega)) rfl ?_
        refine w_store (i := 3) (v := .int _ _) (vs := [_]) want_none Try.sizeOf3 rfl rfl rfl rfl rfl (by simp [Value.oneCell']) hs rfl (by show 0 + k * 1 + 1 ≤ cs2.length; omega) (fun w68 hs69 => ?_)
        refine w_nil ?_
        refine q_blk_normal ?_
        refine q_then (hK52 _ _ ?_)
        refine w_region ?_
        refine w_p (y_add rfl rfl rfl rfl (by omega) (by omega)) rfl ?_
        refine w_p (y_move (v := .int _ _) rfl rfl) rfl ?_
        refine w_nil ?_
        refine q_then (hN44 _ _ (Nx.intro (b.hours.length - (k + 1)) (by omega) (by repeat (first | exact agree_mix | refine agree_upd rfl ?_ | refine agree_updL rfl ?_ _ | refine agree_mixin rfl ?_)) ?_))
        exact ⟨k + 1, [(d, blk 3 (setMany cs2 (0 + k * 1) [.int .i64 (-1)]))], rfl, by omega, rfl, own_mk (by rw [List.length_map, shPart_len]; omega) hcap2 hcapm2 (by rw [setMany_len]; exact hcl2) (by rw [← shPart_yes (by omega) (by have := bit_lt2 s (i * b.hours.length + k); omega)]; exact take_put htk2), wok_yes hi2 hk2 hwk2 (by rw [← shPart_get (n := b.hours.length) (s := s) (i := i) (by omega)]; assumption), hs69⟩
     ·
      try simp only [zA, zB, zC, zD, zE, zF] at h51
      refine w_exit ?_
      refine q_then_exit ?_
      refine q_then_exit ?_
      refine q_blk_this ?_
      refine q_blk_normal ?_
      refine q_then (hK28 _ _ ?_)
      refine w_region ?_
      refine w_p (y_add rfl rfl rfl rfl (by omega) (by omega)) rfl ?_
      refine w_p (y_move (v := .int _ _) rfl rfl) rfl ?_
      refine w_nil ?_
      refine q_then (hN20 _ _ (Nx.intro (b.ctrs.length - (i + 1)) (by omega) (by repeat (first | exact agree_mix | refine agree_upd rfl ?_ | refine agree_updL rfl ?_ _ | refine agree_mixin rfl ?_)) ?_))
      have hsl2 := own_int_sl (w0 := w0) hown2 (shPart_len _ _ _ _ _)
      rw [shPart_all (by omega)] at hsl2
      exact ⟨i + 1, [(bc, blk 76 cs1)], B2 ++ DB, setPc qc i a2 c2, rfl, by omega, rfl, own_mk (by rw [flat_len_sz (krows_row _ _), krows_len, BL_len (by omega)]) hcap hcapm (by rw [hcs1, List.length_set]; exact hcl) (by
        rw [hcs1, take_cell (by omega) (krows_row (BL b s i) qc) (by rw [krows_len, BL_len (by omega)]; exact hi2) htk, BL_set hi2, ← krows_set (by rw [BL_len (by omega)]; exact hi2) (by simp only [BL_get hi2]; exact but_cells)]
        simp only [krows, List.getElem_mapIdx, BL_get hi2]), hqc.next _ _, hds.next hi2 hsl2.1 hsl2.2, wok_row (by omega) (by omega) hwk2, (by rw [List.append_assoc]; exact hs)⟩
   ·
    try simp only [zA, zB, zC, zD, zE, zF] at h27
    refine w_exit ?_
    refine q_then_exit ?_
    refine q_then_exit ?_
    refine q_blk_this ?_
    refine q_then (hK16 _ _ ?_)
    refine w_seq (fun K71 hK70 => ?_)
    have hs72 := swp2 hs
    replace hs72 := (show St _ _ (_ :: _ :: B1 ++ (DB ++ (F))) from hs72)
    have hkb : BK w0 ((bb, blk 129 [.int .i64 b.holds, .slice p.ah b.hours.length p.ch, .slice aC b.ctrs.length cC, .map (some mm)]) :: (B1 ++ (DB ++ F))) (butB b s) ⟨p.ah, p.ch, aC, cC, qc⟩ bb mm := ⟨(but_bin hm (by omega) hown hqc hds).cons, ats_own (i := 0) rfl (by simp only [butB_len]; rfl), butB_ok hok s⟩
    refine w_region ?_
    refine w_p (y_move (v := .pointer _) rfl rfl) rfl ?_
    refine w_call want_none Try.call87 rfl rfl rfl rfl (c87 (X := []) (M := [(mm, .map #[] 0)]) (butB b s) _ bb mm hkb (memo_new w0 _ mm) hs72) ?_
    rintro _ w74 ⟨rfl, M2, hM2, hs75⟩
    replace hs75 := (show St _ _ (M2 ++ (_ :: B1 ++ (DB ++ (F)))) from hs75)
    refine w_p (y_assign (v := .bool _) rfl rfl) rfl ?_
    refine w_nil ?_
    refine q_then (hK70 _ _ ?_)
    refine w_ret ?_
    refine q_ret (l := [.tmp 4]) (vs := [_]) rfl ⟨⟨rfl, show _ = (.bool _ : Value) from rfl⟩, trivial⟩ ?_
    exact ⟨congrArg Value.bool (wrongS_yes (by omega) hwk).symm, hs75.drop.tail.drop.drop⟩

end Go.Proofs
/- Walks of this seat, printed by gen.py over the engine: what each function returns, in whatever world. No conditions but those of each contract. -/
set_option linter.unusedVariables false
set_option linter.unusedSimpArgs false
set_option maxRecDepth 20000
namespace Go.Proofs
open Go.Rt Go.Rt.Ch
open Go.Rt.Ha (firstE firstE_step firstE_stop firstE_end failE nameE felt spanL upto span_mem listL fewest fewTo bit before fewStep drop_lt drop_get drop_next drop_done drop_notin set_take set_zero take_less)
attribute [local irreducible] WL WC Con Yd At Ats Sl Agree DW

theorem wrongP_e {b : Board} (h : ¬ (check b).2.2 = 0) : wrongP b = ([], (check b).2.2) := by unfold wrongP; rw [if_pos h]
theorem wrongP_y {b : Board} (h : (check b).2.2 = 0) : wrongP b = ((fewest (wrongS b) (b.hours.length * b.ctrs.length)).1, 0) := by unfold wrongP; rw [if_neg (by simp [h])]
theorem many_8 {b : Board} (h : b.Ok) : b.hours.length * b.ctrs.length ≤ 8 := by
  have h1 := Nat.mul_le_mul h.lh h.lc
  omega
theorem c30 {w0 w : World} {F : List (Nat × Obj)} (b : Board) (p : AtB) (hm : BIn w0 F b p)  (hs : St w0 w F) :
  Con Try.prog 30 [.agg (b.cells p).toArray] w fun v w' => ∃ B a' c, v = .tuple #[.slice a' (wrongP b).1.length c, .int .i64 (wrongP b).2] ∧ Sl w0 B a' 1 ((wrongP b).1.map fun x => [Value.int .i64 x]) ∧ St w0 w' (B ++ F) := by
  refine con_of_wc (n := 27) Try.func30 rfl rfl (Nat.le_of_ble_eq_true rfl) ?_
  have hlh0 := hm.lh
  have hlc0 := hm.lc
  refine w_seq (fun K2 hK1 => ?_)
  refine w_region ?_
  refine w_box (v := .agg #[.int _ _, .slice _ _ _, .slice _ _ _]) (cs := [_, _, _]) want_none rfl rfl rfl hs (fun b3 w4 hs5 => ?_)
  refine w_p (y_assign (v := _) rfl rfl) rfl ?_
  refine w_p (y_assign (v := _) rfl rfl) rfl ?_
  refine w_nil ?_
  refine q_then (hK1 _ _ ?_)
  refine w_seq (fun K7 hK6 => ?_)
  refine w_seq (fun K9 hK8 => ?_)
  refine w_region ?_
  refine w_p (y_loadN (vs := [_, _, _]) Try.isAgg25 Try.sizeOf25 hs5 rfl rfl (ats_own (i := 0) (vs := [_, _, _]) rfl rfl)) rfl ?_
  refine w_call want_none Try.call16 rfl rfl rfl rfl (c16 b _ hm.cons hs5) ?_
  rintro _ w11 ⟨rfl, hs12⟩
  refine w_p (y_move (v := .tuple _) rfl rfl) rfl ?_
  refine w_p (y_extract (v := .int _ _) rfl rfl rfl) rfl ?_
  refine w_p (y_extract (v := .int _ _) rfl rfl rfl) rfl ?_
  refine w_p (y_extract (v := .int _ _) rfl rfl rfl) rfl ?_
  refine w_p (y_assign (v := .int _ _) rfl rfl) rfl ?_
  refine w_p (y_assign (v := .int _ _) rfl rfl) rfl ?_
  refine w_p (y_assign (v := .int _ _) rfl rfl) rfl ?_
  refine w_nil ?_
  refine q_then (hK8 _ _ ?_)
  refine w_seq (fun K14 hK13 => ?_)
  refine w_region ?_
  refine w_p (y_move (v := .int _ _) rfl rfl) rfl ?_
  refine w_p (y_neq rfl rfl rfl rfl) rfl ?_
  refine w_nil ?_
  refine q_then (hK13 _ _ ?_)
  refine w_cond rfl rfl (fun h15 => ?_) (fun h15 => ?_)
  ·
   try simp only [zA, zB, zC, zD, zE, zF] at h15
   refine w_seq (fun K17 hK16 => ?_)
   refine w_region ?_
   refine w_p (y_move (v := .int _ _) rfl rfl) rfl ?_
   refine w_p (y_assign (v := _) rfl rfl) rfl ?_
   refine w_p (y_assign (v := .int _ _) rfl rfl) rfl ?_
   refine w_nil ?_
   refine q_then (hK16 _ _ ?_)
   refine w_ret ?_
   refine q_then_ret ?_
   refine q_ret (l := [.tmp 2, .tmp 3]) (vs := [_, _]) rfl ⟨⟨rfl, show _ = (.slice _ _ _ : Value) from rfl⟩, ⟨rfl, show _ = (.int _ _ : Value) from rfl⟩, trivial⟩ ?_
   exact ⟨[], none, 0, by rw [wrongP_e (by assumption)]; rfl, by rw [wrongP_e (by assumption)]; exact Sl.nil _ _, hs12.tail⟩
  ·
   try simp only [zA, zB, zC, zD, zE, zF] at h15
   refine w_skip ?_
   refine q_then (hK6 _ _ ?_)
   refine w_seq (fun K19 hK18 => ?_)
   have hck : (check b).2.2 = 0 := by assumption
   have hok := check_ok hck
   have h8 := many_8 hok
   have hmi : ((b.hours.length : Int) * (b.ctrs.length : Int)) = ((b.hours.length * b.ctrs.length : Nat) : Int) := by push_cast; rfl
   refine w_region ?_
   refine w_p (y_fieldAddr (o := 1) (i := 1) Try.underlying25 rfl Try.sizeOf22 rfl rfl rfl) rfl ?_
   refine w_p (y_load1 Try.isAgg22 hs12 rfl rfl (ats_own (i := 0) (vs := [_]) rfl rfl)) rfl ?_
   refine w_p (y_lenS Try.underlying22 rfl rfl) rfl ?_
   refine w_alloc (cs := [_]) want_none Try.zeroValue3 rfl hs12 (fun b20 w21 hs22 => ?_)
   refine w_store (i := 0) (v := .int _ _) (vs := [_]) want_none Try.sizeOf3 rfl rfl rfl rfl rfl (by simp [Value.oneCell']) hs22 rfl (Nat.le_of_ble_eq_true rfl) (fun w23 hs24 => ?_)
   refine w_nil ?_
   refine q_then (hK18 _ _ ?_)
   refine w_seq (fun K26 hK25 => ?_)
   refine w_region ?_
   refine w_p (y_load1 Try.isAgg3 hs24 rfl rfl (ats_own (i := 0) (vs := [_]) rfl rfl)) rfl ?_
   refine w_p (y_fieldAddr (o := 2) (i := 2) Try.underlying25 rfl Try.sizeOf23 rfl rfl rfl) rfl ?_
   refine w_p (y_load1 Try.isAgg23 hs24 rfl rfl (ats_own (i := 1) (vs := [_]) rfl rfl)) rfl ?_
   refine w_p (y_lenS Try.underlying23 rfl rfl) rfl ?_
   refine w_p (yd_cast (z' := ((b.hours.length * b.ctrs.length : Nat) : Int)) hmi (y_mul rfl rfl rfl rfl (by omega) (by omega))) rfl ?_
   refine w_p (y_makeFunc (fv := []) (cv := [_, _]) rfl rfl rfl rfl) rfl ?_
   refine w_call want_none Try.call78 rfl rfl rfl rfl (c78 (M := []) (F := (b20, blk 3 [.int .i64 (b.hours.length : Int)]) :: (b3, blk 25 (b.cells p)) :: F) (b.hours.length * b.ctrs.length) (many_8 hok) _ (wrongS b) (fun M => M = []) (fun s M X w hs1 hM hs => by subst hM; exact fcon_fn Try.call83 ((c83 b p hm.cons.cons.app hck s (by have := (shl_256 (many_8 hok)).2; omega) _ _ (Ats.app (ats_own (i := 1) (vs := b.cells p) rfl rfl)) (Ats.app (ats_own (i := 0) (vs := [_]) rfl rfl)) hs).mono fun v w h => ⟨h.1, [], rfl, h.2⟩)) rfl hs24) ?_
   rintro _ w28 ⟨B, M2, a2, c2, rfl, hslB, rfl, hs29⟩
   refine w_p (y_assign (v := .slice _ _ _) rfl rfl) rfl ?_
   refine w_p (y_assign (v := _) rfl rfl) rfl ?_
   refine w_nil ?_
   refine q_then (hK25 _ _ ?_)
   refine w_ret ?_
   refine q_ret (l := [.tmp 2, .tmp 3]) (vs := [_, _]) rfl ⟨⟨rfl, show _ = (.slice _ _ _ : Value) from rfl⟩, ⟨rfl, show _ = (.int _ _ : Value) from rfl⟩, trivial⟩ ?_
   exact ⟨B, a2, c2, by rw [wrongP_y hck]; rfl, by rw [wrongP_y hck]; exact hslB, keep_front (M := []) (P := [_, _]) hs29⟩

end Go.Proofs
/- Plain words of the chain layer: the document's example. No conditions. -/
set_option linter.unusedSimpArgs false
set_option linter.unusedVariables false
namespace Go.Rt.Ch
open Go.Rt.Ha
def nShip : ByteArray := ⟨#[115, 104, 105, 112]⟩
def nShore : ByteArray := ⟨#[115, 104, 111, 114, 101]⟩
def exB (n : Int) : Board := ⟨2, [⟨0, 10, 13⟩, ⟨0, 8, 11⟩, ⟨1, 10, 12⟩], [⟨nShip, 1, 0, 90, [0, 0, 0], [1, -1, 22]⟩, ⟨nShore, 0, 2, 0, [0, 2, 0], [13, 10, n]⟩]⟩
theorem ex_went1 : wentP (exB 21) 0 = ((11, 12), 0) := by decide +kernel
theorem ex_hold1 : holdP (exB 21) 0 = ((21, 22), 0) := by decide +kernel
theorem ex_right1 : rightP (exB 21) 0 = (0, 0) := by decide +kernel
theorem ex_right2 : rightP (exB 21) 1 = (2, 0) := by decide +kernel
theorem ex_zero1 : zeroP (exB 21) 1 1 = (1, 0) := by decide +kernel
theorem ex_looks1 : looksP (exB 21) 0 0 = ([0], 0) := by decide +kernel
theorem ex_looks2 : looksP (exB 21) 0 1 = ([], 0) := by decide +kernel
theorem ex_wrong1 : wrongP (exB 30) = ([5], 0) := by decide +kernel
theorem ex_went2 : wentP (exB 30) 0 = ((0, 0), 8) := by decide +kernel
theorem ex_looks3 : looksP (exB 21) 0 (-1) = ([], 7) := by decide +kernel
end Go.Rt.Ch
/- Walks of this seat, printed by gen.py over the engine: what each function returns, in whatever world. No conditions but those of each contract. -/
set_option linter.unusedVariables false
set_option linter.unusedSimpArgs false
set_option maxRecDepth 20000
namespace Go.Proofs
open Go.Rt Go.Rt.Ch
open Go.Rt.Ha (firstE firstE_step firstE_stop firstE_end failE nameE felt spanL upto span_mem listL fewest fewTo bit before fewStep drop_lt drop_get drop_next drop_done drop_notin set_take set_zero take_less)
attribute [local irreducible] WL WC Con Yd At Ats Sl Agree DW
theorem Try_Ya_fb7 (x0 : Int) (x1 : Int) (w : World) : (Instr.build 31 [(0, .int .i64 x0), (1, .int .i64 x1)].toArray).run Try.prog w = .ok (.agg #[.int .i64 x0, .int .i64 x1]) w := by kernel_rfl
theorem Try_Ya_fb8 (x0 : Int) (x1 : Int) (w : World) : (Instr.build 70 [(1, .agg #[.int .i64 x0, .int .i64 x1])].toArray).run Try.prog w = .ok (.agg #[.int .i64 0, .int .i64 x0, .int .i64 x1]) w := by kernel_rfl
theorem Try_Ya_fb9 (x0 : Int) (x1 : Int) (x2 : Int) (w : World) : (Instr.build 70 [(0, .int .i64 x0), (1, .agg #[.int .i64 x1, .int .i64 x2])].toArray).run Try.prog w = .ok (.agg #[.int .i64 x0, .int .i64 x1, .int .i64 x2]) w := by kernel_rfl
theorem Try_Ya_fb10 (x0 : Int) (x1 : Int) (x2 : Int) (x3 : Int) (x4 : Int) (x5 : Int) (x6 : Int) (x7 : Int) (x8 : Int) (w : World) : (Instr.buildSlice 22 3 [(0, .agg #[.int .i64 x0, .int .i64 x1, .int .i64 x2]), (1, .agg #[.int .i64 x3, .int .i64 x4, .int .i64 x5]), (2, .agg #[.int .i64 x6, .int .i64 x7, .int .i64 x8])].toArray).run Try.prog w = .ok (.slice (some ⟨w.heap.size, 0, none⟩) 3 3) (w.alloc (Go.Rt.blk 70 [.int .i64 x0, .int .i64 x1, .int .i64 x2, .int .i64 x3, .int .i64 x4, .int .i64 x5, .int .i64 x6, .int .i64 x7, .int .i64 x8])) := by kernel_rfl
theorem Try_Ya_fb11 (x0 : Int) (x1 : Int) (x2 : Int) (w : World) : (Instr.buildSlice 39 3 [(0, .int .i64 x0), (1, .int .i64 x1), (2, .int .i64 x2)].toArray).run Try.prog w = .ok (.slice (some ⟨w.heap.size, 0, none⟩) 3 3) (w.alloc (Go.Rt.blk 3 [.int .i64 x0, .int .i64 x1, .int .i64 x2])) := by kernel_rfl
theorem Try_Ya_fb12 (x0 : ByteArray) (x1 : Int) (x2 : Int) (x3 : Option Addr) (l3 c3 : Nat) (x4 : Option Addr) (l4 c4 : Nat) (w : World) : (Instr.build 76 [(0, .string x0), (1, .int .i64 x1), (3, .int .i64 x2), (4, .slice x3 l3 c3), (5, .slice x4 l4 c4)].toArray).run Try.prog w = .ok (.agg #[.string x0, .int .i64 x1, .int .i64 0, .int .i64 x2, .slice x3 l3 c3, .slice x4 l4 c4]) w := by kernel_rfl
theorem Try_Ya_fb13 (x0 : ByteArray) (x1 : Int) (x2 : Option Addr) (l2 c2 : Nat) (x3 : Option Addr) (l3 c3 : Nat) (w : World) : (Instr.build 76 [(0, .string x0), (2, .int .i64 x1), (4, .slice x2 l2 c2), (5, .slice x3 l3 c3)].toArray).run Try.prog w = .ok (.agg #[.string x0, .int .i64 0, .int .i64 x1, .int .i64 0, .slice x2 l2 c2, .slice x3 l3 c3]) w := by kernel_rfl
theorem Try_Ya_fb14 (x0 : ByteArray) (x1 : Int) (x2 : Int) (x3 : Int) (x4 : Option Addr) (l4 c4 : Nat) (x5 : Option Addr) (l5 c5 : Nat) (x6 : ByteArray) (x7 : Int) (x8 : Int) (x9 : Int) (x10 : Option Addr) (l10 c10 : Nat) (x11 : Option Addr) (l11 c11 : Nat) (w : World) : (Instr.buildSlice 23 2 [(0, .agg #[.string x0, .int .i64 x1, .int .i64 x2, .int .i64 x3, .slice x4 l4 c4, .slice x5 l5 c5]), (1, .agg #[.string x6, .int .i64 x7, .int .i64 x8, .int .i64 x9, .slice x10 l10 c10, .slice x11 l11 c11])].toArray).run Try.prog w = .ok (.slice (some ⟨w.heap.size, 0, none⟩) 2 2) (w.alloc (Go.Rt.blk 76 [.string x0, .int .i64 x1, .int .i64 x2, .int .i64 x3, .slice x4 l4 c4, .slice x5 l5 c5, .string x6, .int .i64 x7, .int .i64 x8, .int .i64 x9, .slice x10 l10 c10, .slice x11 l11 c11])) := by kernel_rfl
theorem Try_Ya_fb15 (x0 : Int) (x1 : Option Addr) (l1 c1 : Nat) (x2 : Option Addr) (l2 c2 : Nat) (w : World) : (Instr.build 25 [(0, .int .i64 x0), (1, .slice x1 l1 c1), (2, .slice x2 l2 c2)].toArray).run Try.prog w = .ok (.agg #[.int .i64 x0, .slice x1 l1 c1, .slice x2 l2 c2]) w := by kernel_rfl
theorem Try_flat31 : flatInts Try.prog 31 2 = true := by kernel_rfl
theorem Try_Ya_fb17 (x0 : Int) (w : World) : (Instr.buildSlice 39 1 [(0, .int .i64 x0)].toArray).run Try.prog w = .ok (.slice (some ⟨w.heap.size, 0, none⟩) 1 1) (w.alloc (Go.Rt.blk 3 [.int .i64 x0])) := by kernel_rfl
theorem ats_ofL {w0 w : World} {L : List (Nat × Obj)} {i b : Nat} {t : TypeId} {cs vs : List Value} (hs : St w0 w L) (hi : L[i]? = some (b, blk t cs)) (h : (cs.drop 0).take vs.length = vs) : Ats w0 L b 0 vs := ats_own hi h
theorem gen_Z {w0 w : World} {L : List (Nat × Obj)} (hs : St w0 w L) : ∃ Z, Z = L ∧ St w0 w Z := ⟨L, rfl, hs⟩
theorem con_true {k : FuncId} {args : List Value} {w : World} {x : Bool} {S : World → Prop} (h : Con Try.prog k args w fun v w' => v = .bool x ∧ S w') (hx : x = true) : Con Try.prog k args w fun v w' => v = .bool true ∧ S w' := by subst hx; exact h
theorem kz_own {w0 w : World} {B F : List (Nat × Obj)} {a : Nat × Obj} (h : St w0 w (B ++ (a :: F))) : St w0 w (B ++ F) := (h.perm (perm_mid B [a] F)).tail
def exP (bh bc z1 s1 z2 s2 : Nat) : AtB := ⟨some ⟨bh, 0, none⟩, 3, some ⟨bc, 0, none⟩, 2, fun i => if i = 0 then ⟨some ⟨z1, 0, none⟩, 3, some ⟨s1, 0, none⟩, 3⟩ else ⟨some ⟨z2, 0, none⟩, 3, some ⟨s2, 0, none⟩, 3⟩⟩
theorem ex_bin {w0 : World} {n : Int} {bh bc z1 s1 z2 s2 : Nat} :
    BIn w0 [(bc, blk 76 (krows (exB n).ctrs (exP bh bc z1 s1 z2 s2).pc).flatten), (s2, blk 3 (iv [13, 10, n])), (z2, blk 3 (iv [0, 2, 0])), (s1, blk 3 (iv [1, -1, 22])), (z1, blk 3 (iv [0, 0, 0])), (bh, blk 70 (hrows (exB n).hours).flatten)] (exB n) (exP bh bc z1 s1 z2 s2) where
  h := sl_own (i := 5) rfl (by intro row h; obtain ⟨q, _, rfl⟩ := List.mem_map.1 h; rfl) rfl
  c := sl_own (i := 0) rfl (krows_row _ _) rfl
  z := fun i hi => by
    match i, hi with
    | 0, _ => exact sl_own (i := 4) rfl (by intro row h; obtain ⟨q, _, rfl⟩ := List.mem_map.1 h; rfl) rfl
    | 1, _ => exact sl_own (i := 2) rfl (by intro row h; obtain ⟨q, _, rfl⟩ := List.mem_map.1 h; rfl) rfl
    | i + 2, hi => exact absurd hi (by simp [exB])
  s := fun i hi => by
    match i, hi with
    | 0, _ => exact sl_own (i := 3) rfl (by intro row h; obtain ⟨q, _, rfl⟩ := List.mem_map.1 h; rfl) rfl
    | 1, _ => exact sl_own (i := 1) rfl (by intro row h; obtain ⟨q, _, rfl⟩ := List.mem_map.1 h; rfl) rfl
    | i + 2, hi => exact absurd hi (by simp [exB])
  lh := by simp [exB]
  lc := by simp [exB]
  ch := by simp [exB, exP]
  cc := by simp [exB, exP]
  lz := fun i hi => by
    match i, hi with
    | 0, _ => exact ⟨by simp [exB], by simp [exB, exP]⟩
    | 1, _ => exact ⟨by simp [exB], by simp [exB, exP]⟩
    | i + 2, hi => exact absurd hi (by simp [exB])
  ls := fun i hi => by
    match i, hi with
    | 0, _ => exact ⟨by simp [exB], by simp [exB, exP]⟩
    | 1, _ => exact ⟨by simp [exB], by simp [exB, exP]⟩
    | i + 2, hi => exact absurd hi (by simp [exB])
  nm := by intro q hq; simp only [exB, List.mem_cons, List.not_mem_nil, or_false] at hq; rcases hq with rfl | rfl <;> (dsimp only; decide)
theorem c33 {w0 w : World} {F : List (Nat × Obj)} (x y : Int) (hs : St w0 w F) :
  Con Try.prog 33 [.int .i64 x, .int .i64 y] w fun v w' => v = .agg #[.int .i64 x, .int .i64 y] ∧ St w0 w' F := by
  refine con_of_wc (n := 8) Try.func33 rfl rfl (Nat.le_of_ble_eq_true rfl) ?_
  refine w_seq (fun K2 hK1 => ?_)
  refine w_region ?_
  refine w_alloc (cs := [_, _]) want_none Try.zeroValue31 rfl hs (fun b3 w4 hs5 => ?_)
  refine w_nil ?_
  refine q_then (hK1 _ _ ?_)
  refine w_seq (fun K7 hK6 => ?_)
  refine w_region ?_
  refine w_p (y_move (v := .int _ _) rfl rfl) rfl ?_
  refine w_p (y_move (v := .int _ _) rfl rfl) rfl ?_
  refine w_p (y_build (ps := [(0, _), (1, _)]) (pv := [(0, .int _ _), (1, .int _ _)]) rfl rfl (fun w => Try_Ya_fb7 _ _ w)) rfl ?_
  refine w_store (i := 0) (v := .agg #[.int _ _, .int _ _]) (vs := [_, _]) want_none Try.sizeOf31 rfl rfl rfl rfl rfl (by simp [Value.oneCell']) hs5 rfl (Nat.le_of_ble_eq_true rfl) (fun w8 hs9 => ?_)
  refine w_nil ?_
  refine q_then (hK6 _ _ ?_)
  refine w_ret ?_
  refine q_ret (l := [.cell 4 31]) (vs := [_]) rfl ⟨⟨rfl, _, rfl, run_loadVarN (vs := [_, _]) Try.isAgg31 Try.sizeOf31 hs9 (ats_own (i := 0) (vs := [_, _]) rfl rfl)⟩, trivial⟩ ?_
  exact ⟨rfl, hs9.tail⟩

theorem c32 {w0 w : World} {F : List (Nat × Obj)} (n : Int) (hs : St w0 w F) :
  Con Try.prog 32 [.int .i64 n] w fun v w' => ∃ p B, v = .agg ((exB n).cells p).toArray ∧ BIn w0 B (exB n) p ∧ St w0 w' (B ++ F) := by
  refine con_of_wc (n := 19) Try.func32 rfl rfl (Nat.le_of_ble_eq_true rfl) ?_
  refine w_seq (fun K2 hK1 => ?_)
  refine w_region ?_
  refine w_alloc (cs := [_, _, _]) want_none Try.zeroValue25 rfl hs (fun b3 w4 hs5 => ?_)
  refine w_nil ?_
  refine q_then (hK1 _ _ ?_)
  refine w_seq (fun K7 hK6 => ?_)
  refine w_region ?_
  refine w_call want_none Try.call33 rfl rfl rfl rfl (c33 _ _ hs5) ?_
  rintro _ w9 ⟨rfl, hs10⟩
  refine w_p (y_build (ps := [(1, _)]) (pv := [(1, .agg #[.int _ _, .int _ _])]) rfl rfl (fun w => Try_Ya_fb8 _ _ w)) rfl ?_
  refine w_call want_none Try.call33 rfl rfl rfl rfl (c33 _ _ hs10) ?_
  rintro _ w12 ⟨rfl, hs13⟩
  refine w_p (y_build (ps := [(1, _)]) (pv := [(1, .agg #[.int _ _, .int _ _])]) rfl rfl (fun w => Try_Ya_fb8 _ _ w)) rfl ?_
  refine w_call want_none Try.call33 rfl rfl rfl rfl (c33 _ _ hs13) ?_
  rintro _ w15 ⟨rfl, hs16⟩
  refine w_p (y_build (ps := [(0, _), (1, _)]) (pv := [(0, .int _ _), (1, .agg #[.int _ _, .int _ _])]) rfl rfl (fun w => Try_Ya_fb9 _ _ _ w)) rfl ?_
  refine w_bslice (ps := [(0, _), (1, _), (2, _)]) (pv := [(0, .agg #[.int _ _, .int _ _, .int _ _]), (1, .agg #[.int _ _, .int _ _, .int _ _]), (2, .agg #[.int _ _, .int _ _, .int _ _])]) (cs := [_, _, _, _, _, _, _, _, _]) want_none rfl rfl (fun w => Try_Ya_fb10 _ _ _ _ _ _ _ _ _ w) hs16 (fun b17 w18 hs19 => ?_)
  refine w_bslice (ps := [(0, _), (1, _), (2, _)]) (pv := [(0, .int _ _), (1, .int _ _), (2, .int _ _)]) (cs := [_, _, _]) want_none rfl rfl (fun w => Try_Ya_fb11 _ _ _ w) hs19 (fun b20 w21 hs22 => ?_)
  refine w_bslice (ps := [(0, _), (1, _), (2, _)]) (pv := [(0, .int _ _), (1, .int _ _), (2, .int _ _)]) (cs := [_, _, _]) want_none rfl rfl (fun w => Try_Ya_fb11 _ _ _ w) hs22 (fun b23 w24 hs25 => ?_)
  refine w_p (y_build (ps := [(0, _), (1, _), (3, _), (4, _), (5, _)]) (pv := [(0, .string _), (1, .int _ _), (3, .int _ _), (4, .slice _ _ _), (5, .slice _ _ _)]) rfl rfl (fun w => Try_Ya_fb12 _ _ _ _ _ _ _ _ _ w)) rfl ?_
  refine w_bslice (ps := [(0, _), (1, _), (2, _)]) (pv := [(0, .int _ _), (1, .int _ _), (2, .int _ _)]) (cs := [_, _, _]) want_none rfl rfl (fun w => Try_Ya_fb11 _ _ _ w) hs25 (fun b26 w27 hs28 => ?_)
  refine w_p (y_move (v := .int _ _) rfl rfl) rfl ?_
  refine w_bslice (ps := [(0, _), (1, _), (2, _)]) (pv := [(0, .int _ _), (1, .int _ _), (2, .int _ _)]) (cs := [_, _, _]) want_none rfl rfl (fun w => Try_Ya_fb11 _ _ _ w) hs28 (fun b29 w30 hs31 => ?_)
  refine w_p (y_build (ps := [(0, _), (2, _), (4, _), (5, _)]) (pv := [(0, .string _), (2, .int _ _), (4, .slice _ _ _), (5, .slice _ _ _)]) rfl rfl (fun w => Try_Ya_fb13 _ _ _ _ _ _ _ _ w)) rfl ?_
  refine w_bslice (ps := [(0, _), (1, _)]) (pv := [(0, .agg #[.string _, .int _ _, .int _ _, .int _ _, .slice _ _ _, .slice _ _ _]), (1, .agg #[.string _, .int _ _, .int _ _, .int _ _, .slice _ _ _, .slice _ _ _])]) (cs := [_, _, _, _, _, _, _, _, _, _, _, _]) want_none rfl rfl (fun w => Try_Ya_fb14 _ _ _ _ _ _ _ _ _ _ _ _ _ _ _ _ _ _ _ _ w) hs31 (fun b32 w33 hs34 => ?_)
  refine w_p (y_build (ps := [(0, _), (1, _), (2, _)]) (pv := [(0, .int _ _), (1, .slice _ _ _), (2, .slice _ _ _)]) rfl rfl (fun w => Try_Ya_fb15 _ _ _ _ _ _ _ w)) rfl ?_
  refine w_store (i := 6) (v := .agg #[.int _ _, .slice _ _ _, .slice _ _ _]) (vs := [_, _, _]) want_none Try.sizeOf25 rfl rfl rfl rfl rfl (by simp [Value.oneCell']) hs34 rfl (Nat.le_of_ble_eq_true rfl) (fun w35 hs36 => ?_)
  refine w_nil ?_
  refine q_then (hK6 _ _ ?_)
  refine w_ret ?_
  refine q_ret (l := [.cell 2 25]) (vs := [_]) rfl ⟨⟨rfl, _, rfl, run_loadVarN (vs := [_, _, _]) Try.isAgg25 Try.sizeOf25 hs36 (ats_own (i := 6) (vs := [_, _, _]) rfl rfl)⟩, trivial⟩ ?_
  exact ⟨exP b17 b32 b20 b23 b26 b29, [_, _, _, _, _, _], rfl, ex_bin, kz_own (B := [_, _, _, _, _, _]) hs36⟩

theorem c22 {w0 w : World} {F : List (Nat × Obj)}  (hs : St w0 w F) :
  Con Try.prog 22 [] w fun v w' => v = .bool true ∧ St w0 w' F := by
  refine con_of_wc (n := 150) Try.func22 rfl rfl (Nat.le_of_ble_eq_true rfl) ?_
  refine w_seq (fun K2 hK1 => ?_)
  refine w_region ?_
  refine w_p (y_assign (v := _) rfl rfl) rfl ?_
  refine w_nil ?_
  refine q_then (hK1 _ _ ?_)
  refine w_seq (fun K4 hK3 => ?_)
  refine w_region ?_
  refine w_call want_none Try.call32 rfl rfl rfl rfl (c32 21 hs) ?_
  rintro _ w6 ⟨p1, L1, rfl, hq1, hs7⟩
  replace hs7 := (show St _ _ (L1 ++ (F)) from hs7)
  refine w_call want_none Try.call32 rfl rfl rfl rfl (c32 30 hs7) ?_
  rintro _ w9 ⟨p2, L2, rfl, hq2, hs10⟩
  replace hs10 := (show St _ _ (L2 ++ (L1 ++ (F))) from hs10)
  refine w_alloc (cs := [_, _, _]) want_none Try.zeroValue25 rfl hs10 (fun b11 w12 hs13 => ?_)
  refine w_alloc (cs := [_, _, _]) want_none Try.zeroValue25 rfl hs13 (fun b14 w15 hs16 => ?_)
  refine w_store (i := 1) (v := .agg #[.int _ _, .slice _ _ _, .slice _ _ _]) (vs := [_, _, _]) want_none Try.sizeOf25 rfl rfl rfl rfl rfl (by simp [Value.oneCell']) hs16 rfl (Nat.le_of_ble_eq_true rfl) (fun w17 hs18 => ?_)
  refine w_store (i := 0) (v := .agg #[.int _ _, .slice _ _ _, .slice _ _ _]) (vs := [_, _, _]) want_none Try.sizeOf25 rfl rfl rfl rfl rfl (by simp [Value.oneCell']) hs18 rfl (Nat.le_of_ble_eq_true rfl) (fun w19 hs20 => ?_)
  refine w_nil ?_
  refine q_then (hK3 _ _ ?_)
  refine w_seq (fun K22 hK21 => ?_)
  obtain ⟨Z, hZ, hsZ⟩ := gen_Z hs20
  have hP1 : Ats w0 Z b11 0 ((exB 21).cells p1) := by rw [hZ]; exact ats_own (i := 1) (vs := (exB 21).cells p1) rfl rfl
  have hM1 : BIn w0 Z (exB 21) p1 := by rw [hZ]; exact BIn.mono hq1 (fun w h => h.tail.tail.drop.front)
  have hP2 : Ats w0 Z b14 0 ((exB 30).cells p2) := by rw [hZ]; exact ats_own (i := 0) (vs := (exB 30).cells p2) rfl rfl
  have hM2 : BIn w0 Z (exB 30) p2 := by rw [hZ]; exact BIn.mono hq2 (fun w h => h.tail.tail.front)
  refine w_region ?_
  refine w_p (y_loadN (vs := [_, _, _]) Try.isAgg25 Try.sizeOf25 hsZ rfl rfl hP1) rfl ?_
  refine w_call want_none Try.call18 rfl rfl rfl rfl ((c18 (exB 21) p1 hM1 0 hsZ).mono (fun v w' h => by rw [ex_went1] at h; exact h)) ?_
  rintro _ w24 ⟨rfl, hs25⟩
  refine w_p (y_move (v := .tuple _) rfl rfl) rfl ?_
  refine w_p (y_extract (v := .agg _) rfl rfl rfl) rfl ?_
  refine w_p (y_extract (v := .int _ _) rfl rfl rfl) rfl ?_
  refine w_alloc (cs := [_, _]) want_none Try.zeroValue31 rfl hs25 (fun b26 w27 hs28 => ?_)
  refine w_store (i := 0) (v := .agg #[.int _ _, .int _ _]) (vs := [_, _]) want_none Try.sizeOf31 rfl rfl rfl rfl rfl (by simp [Value.oneCell']) hs28 rfl (Nat.le_of_ble_eq_true rfl) (fun w29 hs30 => ?_)
  refine w_p (y_assign (v := .int _ _) rfl rfl) rfl ?_
  refine w_nil ?_
  refine q_then (hK21 _ _ ?_)
  refine w_seq (fun K32 hK31 => ?_)
  have hx3 := ats_ofL (i := 0) (vs := [_, _]) hs30 rfl rfl
  refine w_region ?_
  refine w_p (y_loadN (vs := [_, _, _]) Try.isAgg25 Try.sizeOf25 hs30.tail rfl rfl hP1) rfl ?_
  refine w_call want_none Try.call20 rfl rfl rfl rfl ((c20 (exB 21) p1 hM1.cons 0 hs30).mono (fun v w' h => by rw [ex_hold1] at h; exact h)) ?_
  rintro _ w34 ⟨rfl, hs35⟩
  refine w_p (y_move (v := .tuple _) rfl rfl) rfl ?_
  refine w_p (y_extract (v := .agg _) rfl rfl rfl) rfl ?_
  refine w_p (y_extract (v := .int _ _) rfl rfl rfl) rfl ?_
  refine w_alloc (cs := [_, _]) want_none Try.zeroValue31 rfl hs35 (fun b36 w37 hs38 => ?_)
  refine w_store (i := 0) (v := .agg #[.int _ _, .int _ _]) (vs := [_, _]) want_none Try.sizeOf31 rfl rfl rfl rfl rfl (by simp [Value.oneCell']) hs38 rfl (Nat.le_of_ble_eq_true rfl) (fun w39 hs40 => ?_)
  refine w_p (y_assign (v := .int _ _) rfl rfl) rfl ?_
  refine w_nil ?_
  refine q_then (hK31 _ _ ?_)
  refine w_seq (fun K42 hK41 => ?_)
  have hx5 := ats_ofL (i := 0) (vs := [_, _]) hs40 rfl rfl
  refine w_region ?_
  refine w_p (y_loadN (vs := [_, _, _]) Try.isAgg25 Try.sizeOf25 hs40.tail.tail rfl rfl hP1) rfl ?_
  refine w_call want_none Try.call23 rfl rfl rfl rfl ((c23 (exB 21) p1 hM1.cons.cons 0 hs40).mono (fun v w' h => by rw [ex_right1] at h; exact h)) ?_
  rintro _ w44 ⟨rfl, hs45⟩
  refine w_p (y_move (v := .tuple _) rfl rfl) rfl ?_
  refine w_p (y_extract (v := .int _ _) rfl rfl rfl) rfl ?_
  refine w_p (y_extract (v := .int _ _) rfl rfl rfl) rfl ?_
  refine w_p (y_assign (v := .int _ _) rfl rfl) rfl ?_
  refine w_p (y_assign (v := .int _ _) rfl rfl) rfl ?_
  refine w_nil ?_
  refine q_then (hK41 _ _ ?_)
  refine w_seq (fun K47 hK46 => ?_)
  refine w_region ?_
  refine w_p (y_loadN (vs := [_, _, _]) Try.isAgg25 Try.sizeOf25 hs45.tail.tail rfl rfl hP1) rfl ?_
  refine w_call want_none Try.call23 rfl rfl rfl rfl ((c23 (exB 21) p1 hM1.cons.cons 1 hs45).mono (fun v w' h => by rw [ex_right2] at h; exact h)) ?_
  rintro _ w49 ⟨rfl, hs50⟩
  refine w_p (y_move (v := .tuple _) rfl rfl) rfl ?_
  refine w_p (y_extract (v := .int _ _) rfl rfl rfl) rfl ?_
  refine w_p (y_extract (v := .int _ _) rfl rfl rfl) rfl ?_
  refine w_p (y_assign (v := .int _ _) rfl rfl) rfl ?_
  refine w_p (y_assign (v := .int _ _) rfl rfl) rfl ?_
  refine w_nil ?_
  refine q_then (hK46 _ _ ?_)
  refine w_seq (fun K52 hK51 => ?_)
  refine w_region ?_
  refine w_p (y_loadN (vs := [_, _, _]) Try.isAgg25 Try.sizeOf25 hs50.tail.tail rfl rfl hP1) rfl ?_
  refine w_call want_none Try.call25 rfl rfl rfl rfl ((c25 (exB 21) p1 hM1.cons.cons 1 1 hs50).mono (fun v w' h => by rw [ex_zero1] at h; exact h)) ?_
  rintro _ w54 ⟨rfl, hs55⟩
  refine w_p (y_move (v := .tuple _) rfl rfl) rfl ?_
  refine w_p (y_extract (v := .int _ _) rfl rfl rfl) rfl ?_
  refine w_p (y_extract (v := .int _ _) rfl rfl rfl) rfl ?_
  refine w_p (y_assign (v := .int _ _) rfl rfl) rfl ?_
  refine w_p (y_assign (v := .int _ _) rfl rfl) rfl ?_
  refine w_nil ?_
  refine q_then (hK51 _ _ ?_)
  refine w_seq (fun K57 hK56 => ?_)
  refine w_region ?_
  refine w_p (y_loadN (vs := [_, _, _]) Try.isAgg25 Try.sizeOf25 hs55.tail.tail rfl rfl hP1) rfl ?_
  refine w_call want_none Try.call27 rfl rfl rfl rfl ((c27 (exB 21) p1 hM1.cons.cons 0 0 hs55).mono (fun v w' h => by rw [ex_looks1] at h; exact h)) ?_
  rintro _ w59 ⟨B1, a1, c1, rfl, hr1, hs60⟩
  replace hs60 := (show St _ _ (B1 ++ (_ :: _ :: Z)) from hs60)
  refine w_p (y_move (v := .tuple _) rfl rfl) rfl ?_
  refine w_p (y_extract (v := .slice _ _ _) rfl rfl rfl) rfl ?_
  refine w_p (y_extract (v := .int _ _) rfl rfl rfl) rfl ?_
  refine w_p (y_assign (v := .slice _ _ _) rfl rfl) rfl ?_
  refine w_p (y_assign (v := .int _ _) rfl rfl) rfl ?_
  refine w_nil ?_
  refine q_then (hK56 _ _ ?_)
  refine w_seq (fun K62 hK61 => ?_)
  refine w_region ?_
  refine w_p (y_loadN (vs := [_, _, _]) Try.isAgg25 Try.sizeOf25 hs60.drop.tail.tail rfl rfl hP1) rfl ?_
  refine w_call want_none Try.call27 rfl rfl rfl rfl ((c27 (exB 21) p1 hM1.cons.cons.app 0 1 hs60).mono (fun v w' h => by rw [ex_looks2] at h; exact h)) ?_
  rintro _ w64 ⟨B2, a2, c2, rfl, hr2, hs65⟩
  replace hs65 := (show St _ _ (B2 ++ (B1 ++ (_ :: _ :: Z))) from hs65)
  refine w_p (y_move (v := .tuple _) rfl rfl) rfl ?_
  refine w_p (y_extract (v := .slice _ _ _) rfl rfl rfl) rfl ?_
  refine w_p (y_extract (v := .int _ _) rfl rfl rfl) rfl ?_
  refine w_p (y_assign (v := .slice _ _ _) rfl rfl) rfl ?_
  refine w_p (y_assign (v := .int _ _) rfl rfl) rfl ?_
  refine w_nil ?_
  refine q_then (hK61 _ _ ?_)
  refine w_seq (fun K67 hK66 => ?_)
  refine w_region ?_
  refine w_p (y_loadN (vs := [_, _, _]) Try.isAgg25 Try.sizeOf25 hs65.drop.drop.tail.tail rfl rfl hP2) rfl ?_
  refine w_call want_none Try.call30 rfl rfl rfl rfl ((c30 (exB 30) p2 hM2.cons.cons.app.app hs65).mono (fun v w' h => by rw [ex_wrong1] at h; exact h)) ?_
  rintro _ w69 ⟨B3, a3, c3, rfl, hr3, hs70⟩
  replace hs70 := (show St _ _ (B3 ++ (B2 ++ (B1 ++ (_ :: _ :: Z)))) from hs70)
  refine w_p (y_move (v := .tuple _) rfl rfl) rfl ?_
  refine w_p (y_extract (v := .slice _ _ _) rfl rfl rfl) rfl ?_
  refine w_p (y_extract (v := .int _ _) rfl rfl rfl) rfl ?_
  refine w_p (y_assign (v := .slice _ _ _) rfl rfl) rfl ?_
  refine w_p (y_assign (v := .int _ _) rfl rfl) rfl ?_
  refine w_nil ?_
  refine q_then (hK66 _ _ ?_)
  refine w_seq (fun K72 hK71 => ?_)
  refine w_region ?_
  refine w_p (y_loadN (vs := [_, _, _]) Try.isAgg25 Try.sizeOf25 hs70.drop.drop.drop.tail.tail rfl rfl hP2) rfl ?_
  refine w_call want_none Try.call18 rfl rfl rfl rfl ((c18 (exB 30) p2 hM2.cons.cons.app.app.app 0 hs70).mono (fun v w' h => by rw [ex_went2] at h; exact h)) ?_
  rintro _ w74 ⟨rfl, hs75⟩
  refine w_p (y_move (v := .tuple _) rfl rfl) rfl ?_
  refine w_p (y_extract (v := .agg _) rfl rfl rfl) rfl ?_
  refine w_p (y_extract (v := .int _ _) rfl rfl rfl) rfl ?_
  refine w_alloc (cs := [_, _]) want_none Try.zeroValue31 rfl hs75 (fun b76 w77 hs78 => ?_)
  refine w_store (i := 0) (v := .agg #[.int _ _, .int _ _]) (vs := [_, _]) want_none Try.sizeOf31 rfl rfl rfl rfl rfl (by simp [Value.oneCell']) hs78 rfl (Nat.le_of_ble_eq_true rfl) (fun w79 hs80 => ?_)
  refine w_p (y_assign (v := .int _ _) rfl rfl) rfl ?_
  refine w_nil ?_
  refine q_then (hK71 _ _ ?_)
  refine w_seq (fun K82 hK81 => ?_)
  refine w_region ?_
  refine w_p (y_loadN (vs := [_, _, _]) Try.isAgg25 Try.sizeOf25 hs80.tail.drop.drop.drop.tail.tail rfl rfl hP1) rfl ?_
  refine w_call want_none Try.call27 rfl rfl rfl rfl ((c27 (exB 21) p1 hM1.cons.cons.app.app.app.cons 0 (-1) hs80).mono (fun v w' h => by rw [ex_looks3] at h; exact h)) ?_
  rintro _ w84 ⟨B4, a4, c4, rfl, hr4, hs85⟩
  replace hs85 := (show St _ _ (B4 ++ (_ :: B3 ++ (B2 ++ (B1 ++ (_ :: _ :: Z))))) from hs85)
  refine w_p (y_move (v := .tuple _) rfl rfl) rfl ?_
  refine w_p (y_extract (v := .slice _ _ _) rfl rfl rfl) rfl ?_
  refine w_p (y_extract (v := .int _ _) rfl rfl rfl) rfl ?_
  refine w_p (y_assign (v := .slice _ _ _) rfl rfl) rfl ?_
  refine w_p (y_assign (v := .int _ _) rfl rfl) rfl ?_
  refine w_nil ?_
  refine q_then (hK81 _ _ ?_)
  refine w_seq (fun K87 hK86 => ?_)
  refine w_draw [] [(0, 0), (1, 0), (2, 0), (3, 0), (4, 0), (5, 0), (6, 0), (7, 0), (8, 0), (9, 0), (10, 0), (11, 0), (12, 0), (13, 0), (14, 0), (15, 0), (16, 0), (17, 0), (18, 0), (19, 0), (20, 0), (21, 0), (22, 0), (23, 0), (24, 0), (25, 0), (26, 0), (27, 0), (28, 0), (29, 0), (30, 0), (31, 0), (32, 0), (33, 0), (34, 0), (35, 0), (36, 0), (37, 0), (38, 0), (39, 1), (40, 2), (41, 0), (42, 0), (43, 0), (44, 1), (45, 2), (46, 0), (47, 0), (48, 0), (49, 0), (50, 0), (51, 0), (52, 0), (53, 0), (54, 0), (55, 0), (56, 0), (57, 0), (58, 0), (59, 0), (60, 0), (61, 0), (62, 2), (63, 2), (64, 0), (65, 0), (66, 0), (67, 0), (68, 0), (69, 0), (70, 0), (71, 0), (72, 2), (73, 2), (74, 0), (75, 0)] Try_mo (drawOK_of (by kernel_rfl)) hs85 (fun w88 hs89 => ?_)
  refine d_any rfl want_none rfl (fun _ => (y_move (v := .int _ _) rfl rfl)) ?_
  refine d_any rfl want_none rfl (fun _ => (y_eql rfl rfl rfl rfl)) ?_
  refine d_any rfl want_none rfl (fun _ => (y_move (v := .bool _) rfl rfl)) ?_
  refine d_any rfl (want_yes rfl rfl rfl) rfl (fun _ => (y_move (v := .int _ _) rfl rfl)) ?_
  refine d_any rfl (want_yes rfl rfl rfl) rfl (fun _ => (y_eql rfl rfl rfl rfl)) ?_
  refine d_any rfl want_none rfl (fun _ => (y_pickT (v := .bool _) rfl rfl rfl rfl)) ?_
  refine d_any rfl want_none rfl (fun _ => (y_move (v := .bool _) rfl rfl)) ?_
  refine d_any rfl (want_yes rfl rfl rfl) rfl (fun _ => (y_move (v := .int _ _) rfl rfl)) ?_
  refine d_any rfl (want_yes rfl rfl rfl) rfl (fun _ => (y_eql rfl rfl rfl rfl)) ?_
  refine d_any rfl want_none rfl (fun _ => (y_pickT (v := .bool _) rfl rfl rfl rfl)) ?_
  refine d_any rfl want_none rfl (fun _ => (y_move (v := .bool _) rfl rfl)) ?_
  refine d_any rfl (want_yes rfl rfl rfl) rfl (fun _ => (y_move (v := .int _ _) rfl rfl)) ?_
  refine d_any rfl (want_yes rfl rfl rfl) rfl (fun _ => (y_eql rfl rfl rfl rfl)) ?_
  refine d_any rfl want_none rfl (fun _ => (y_pickT (v := .bool _) rfl rfl rfl rfl)) ?_
  refine d_any rfl want_none rfl (fun _ => (y_move (v := .bool _) rfl rfl)) ?_
  refine d_any rfl (want_yes rfl rfl rfl) rfl (fun _ => (y_move (v := .int _ _) rfl rfl)) ?_
  refine d_any rfl (want_yes rfl rfl rfl) rfl (fun _ => (y_eql rfl rfl rfl rfl)) ?_
  refine d_any rfl want_none rfl (fun _ => (y_pickT (v := .bool _) rfl rfl rfl rfl)) ?_
  refine d_any rfl want_none rfl (fun _ => (y_move (v := .bool _) rfl rfl)) ?_
  refine d_any rfl (want_yes rfl rfl rfl) rfl (fun _ => (y_move (v := .int _ _) rfl rfl)) ?_
  refine d_any rfl (want_yes rfl rfl rfl) rfl (fun _ => (y_eql rfl rfl rfl rfl)) ?_
  refine d_any rfl want_none rfl (fun _ => (y_pickT (v := .bool _) rfl rfl rfl rfl)) ?_
  refine d_any rfl want_none rfl (fun _ => (y_move (v := .bool _) rfl rfl)) ?_
  refine d_any rfl (want_yes rfl rfl rfl) rfl (fun _ => (y_move (v := .int _ _) rfl rfl)) ?_
  refine d_any rfl (want_yes rfl rfl rfl) rfl (fun _ => (y_eql rfl rfl rfl rfl)) ?_
  refine d_any rfl want_none rfl (fun _ => (y_pickT (v := .bool _) rfl rfl rfl rfl)) ?_
  refine d_any rfl want_none rfl (fun _ => (y_move (v := .bool _) rfl rfl)) ?_
  refine d_any rfl (want_yes rfl rfl rfl) rfl (fun _ => (y_move (v := .int _ _) rfl rfl)) ?_
  refine d_any rfl (want_yes rfl rfl rfl) rfl (fun _ => (y_eql rfl rfl rfl rfl)) ?_
  refine d_any rfl want_none rfl (fun _ => (y_pickT (v := .bool _) rfl rfl rfl rfl)) ?_
  refine d_any rfl want_none rfl (fun _ => (y_move (v := .bool _) rfl rfl)) ?_
  refine d_any rfl (want_yes rfl rfl rfl) rfl (fun _ => (y_move (v := .int _ _) rfl rfl)) ?_
  refine d_any rfl (want_yes rfl rfl rfl) rfl (fun _ => (y_eql rfl rfl rfl rfl)) ?_
  refine d_any rfl want_none rfl (fun _ => (y_pickT (v := .bool _) rfl rfl rfl rfl)) ?_
  refine d_any rfl want_none rfl (fun _ => (y_move (v := .bool _) rfl rfl)) ?_
  refine d_any rfl (want_yes rfl rfl rfl) rfl (fun _ => (y_move (v := .int _ _) rfl rfl)) ?_
  refine d_any rfl (want_yes rfl rfl rfl) rfl (fun _ => (y_eql rfl rfl rfl rfl)) ?_
  refine d_any rfl want_none rfl (fun _ => (y_pickT (v := .bool _) rfl rfl rfl rfl)) ?_
  refine d_any rfl want_none rfl (fun _ => (y_move (v := .bool _) rfl rfl)) ?_
  refine d_take rfl (want_yes rfl rfl rfl) rfl hs89 (fun _ hq => (y_loadN (vs := [_, _]) Try.isAgg31 Try.sizeOf31 hq.drop.tail.drop.drop.drop.tail rfl rfl hx3)) ?_
  refine d_eff rfl ?_
  refine w_call (want_yes rfl rfl rfl) Try.call33 rfl rfl rfl rfl (c33 _ _ hs89) ?_
  rintro _ w91 ⟨rfl, hs92⟩
  refine w_nil ?_
  refine qn ⟨hs92, ?_⟩
  refine d_any rfl (want_yes rfl rfl rfl) rfl (fun _ => (y_eqFlat (l := [_, _]) (m := [_, _]) Try.eqGuardType31 Try_flat31 (by first | omega | rfl | (simp only [List.length_map, List.length_set, List.length_append, List.length_take, List.length_drop, List.length_replicate, List.length_cons, List.length_nil] <;> omega)) (by first | omega | rfl | (simp only [List.length_map, List.length_set, List.length_append, List.length_take, List.length_drop, List.length_replicate, List.length_cons, List.length_nil] <;> omega)) rfl rfl rfl rfl rfl rfl)) ?_
  refine d_any rfl want_none rfl (fun _ => (y_pickT (v := .bool _) rfl rfl rfl rfl)) ?_
  refine d_any rfl want_none rfl (fun _ => (y_move (v := .bool _) rfl rfl)) ?_
  refine d_split (fun h93 => ?_) (fun h93 => ?_)
  ·
   try simp only [zA, zB, zC, zD, zE, zF] at h93
   refine d_take rfl (want_yes rfl rfl rfl) rfl hs92 (fun _ hq => (y_loadN (vs := [_, _]) Try.isAgg31 Try.sizeOf31 hq.drop.tail.drop.drop.drop rfl rfl hx5)) ?_
   refine d_eff rfl ?_
   refine w_call (want_yes rfl rfl rfl) Try.call33 rfl rfl rfl rfl (c33 _ _ hs92) ?_
   rintro _ w95 ⟨rfl, hs96⟩
   refine w_nil ?_
   refine qn ⟨hs96, ?_⟩
   refine d_any rfl (want_yes rfl rfl rfl) rfl (fun _ => (y_eqFlat (l := [_, _]) (m := [_, _]) Try.eqGuardType31 Try_flat31 (by first | omega | rfl | (simp only [List.length_map, List.length_set, List.length_append, List.length_take, List.length_drop, List.length_replicate, List.length_cons, List.length_nil] <;> omega)) (by first | omega | rfl | (simp only [List.length_map, List.length_set, List.length_append, List.length_take, List.length_drop, List.length_replicate, List.length_cons, List.length_nil] <;> omega)) rfl rfl rfl rfl rfl rfl)) ?_
   refine d_any rfl want_none rfl (fun _ => (y_pickT (v := .bool _) rfl rfl rfl rfl)) ?_
   refine d_any rfl want_none rfl (fun _ => (y_move (v := .bool _) rfl rfl)) ?_
   refine d_split (fun h97 => ?_) (fun h97 => ?_)
   ·
    try simp only [zA, zB, zC, zD, zE, zF] at h97
    refine d_any rfl (want_yes rfl rfl rfl) rfl (fun _ => (y_move (v := .int _ _) rfl rfl)) ?_
    refine d_any rfl (want_yes rfl rfl rfl) rfl (fun _ => (y_eql rfl rfl rfl rfl)) ?_
    refine d_any rfl want_none rfl (fun _ => (y_pickT (v := .bool _) rfl rfl rfl rfl)) ?_
    refine d_any rfl want_none rfl (fun _ => (y_move (v := .bool _) rfl rfl)) ?_
    refine d_any rfl (want_yes rfl rfl rfl) rfl (fun _ => (y_move (v := .int _ _) rfl rfl)) ?_
    refine d_any rfl (want_yes rfl rfl rfl) rfl (fun _ => (y_eql rfl rfl rfl rfl)) ?_
    refine d_any rfl want_none rfl (fun _ => (y_pickT (v := .bool _) rfl rfl rfl rfl)) ?_
    refine d_any rfl want_none rfl (fun _ => (y_move (v := .bool _) rfl rfl)) ?_
    refine d_any rfl (want_yes rfl rfl rfl) rfl (fun _ => (y_move (v := .int _ _) rfl rfl)) ?_
    refine d_any rfl (want_yes rfl rfl rfl) rfl (fun _ => (y_eql rfl rfl rfl rfl)) ?_
    refine d_any rfl want_none rfl (fun _ => (y_pickT (v := .bool _) rfl rfl rfl rfl)) ?_
    refine d_any rfl want_none rfl (fun _ => (y_move (v := .bool _) rfl rfl)) ?_
    refine d_any rfl (want_yes rfl rfl rfl) rfl (fun _ => (y_move (v := .slice _ _ _) rfl rfl)) ?_
    refine d_eff rfl ?_
    refine w_bslice (ps := [(0, _)]) (pv := [(0, .int _ _)]) (cs := [_]) (want_yes rfl rfl rfl) rfl rfl (fun w => Try_Ya_fb17 _ w) hs96 (fun b98 w99 hs100 => ?_)
    refine w_nil ?_
    refine qn ⟨hs100.tail, ?_⟩
    refine d_eff rfl ?_
    refine w_call (want_yes rfl rfl rfl) Try.call29 rfl rfl rfl rfl (con_true (c29 _ _ [0] [0] _ _ (by decide) hr1.top.app.app.cons.app.cons (sl_own (i := 0) (rows := [[_]]) rfl (by simp) rfl) hs100) (by decide)) ?_
    rintro _ w102 ⟨rfl, hs103⟩
    refine w_nil ?_
    refine qn ⟨hs103.tail, ?_⟩
    refine d_any rfl want_none rfl (fun _ => (y_pickT (v := .bool _) rfl rfl rfl rfl)) ?_
    refine d_any rfl want_none rfl (fun _ => (y_move (v := .bool _) rfl rfl)) ?_
    refine d_any rfl (want_yes rfl rfl rfl) rfl (fun _ => (y_move (v := .slice _ _ _) rfl rfl)) ?_
    refine d_any rfl (want_yes rfl rfl rfl) rfl (fun _ => (y_lenS Try.underlying39 rfl rfl)) ?_
    refine d_any rfl (want_yes rfl rfl rfl) rfl (fun _ => (y_eql rfl rfl rfl rfl)) ?_
    refine d_any rfl want_none rfl (fun _ => (y_pickT (v := .bool _) rfl rfl rfl rfl)) ?_
    refine d_any rfl want_none rfl (fun _ => (y_move (v := .bool _) rfl rfl)) ?_
    refine d_split (fun h104 => ?_) (fun h104 => ?_)
    ·
     try simp only [zA, zB, zC, zD, zE, zF] at h104
     refine d_any rfl (want_yes rfl rfl rfl) rfl (fun _ => (y_move (v := .slice _ _ _) rfl rfl)) ?_
     refine d_eff rfl ?_
     refine w_bslice (ps := [(0, _)]) (pv := [(0, .int _ _)]) (cs := [_]) (want_yes rfl rfl rfl) rfl rfl (fun w => Try_Ya_fb17 _ w) hs103 (fun b105 w106 hs107 => ?_)
     refine w_nil ?_
     refine qn ⟨hs107.tail.tail, ?_⟩
     refine d_eff rfl ?_
     refine w_call (want_yes rfl rfl rfl) Try.call29 rfl rfl rfl rfl (con_true (c29 _ _ [5] [5] _ _ (by decide) hr3.top.cons.app.cons.cons (sl_own (i := 0) (rows := [[_]]) rfl (by simp) rfl) hs107) (by decide)) ?_
     rintro _ w109 ⟨rfl, hs110⟩
     refine w_nil ?_
     refine qn ⟨hs110.tail.tail, ?_⟩
     refine d_any rfl want_none rfl (fun _ => (y_pickT (v := .bool _) rfl rfl rfl rfl)) ?_
     refine d_any rfl want_none rfl (fun _ => (y_assign (v := .bool _) rfl rfl)) ?_
     refine d_nil ?_
     refine q_then (hK86 _ _ ?_)
     refine w_ret ?_
     refine q_ret (l := [.tmp 0]) (vs := [_]) rfl ⟨⟨rfl, show _ = (.bool _ : Value) from rfl⟩, trivial⟩ ?_
     exact ⟨rfl, (St.cast hZ hs110.tail.tail.drop.tail.drop.drop.drop.tail.tail).tail.tail.drop.drop⟩
    ·
     exfalso; simp at h104
   ·
    exfalso; simp at h97
  ·
   exfalso; simp at h93

end Go.Proofs
/- Walks of this seat, printed by gen.py over the engine: what each function returns, in whatever world. No conditions but those of each contract. -/
set_option linter.unusedVariables false
set_option linter.unusedSimpArgs false
set_option maxRecDepth 20000
set_option maxHeartbeats 1600000
namespace Go.Proofs
open Go.Rt Go.Rt.Ch
open Go.Rt.Ha (firstE firstE_step firstE_stop firstE_end failE nameE felt spanL upto span_mem listL fewest fewTo bit before fewStep drop_lt drop_get drop_next drop_done drop_notin set_take set_zero take_less Lot Bunch feltTo fTo fPart felt_zero felt_step fTo_succ fTo_len fPart_succ fPart_len fPart_all filt_yes filt_no upto_len at_ someOf choicesTo cfind_here cfind_next cfind_on choices_fin pick_idx pickL_in find_on find_next rising rising_step rising_end rising_stop list_rising before_fewer)
attribute [local irreducible] WL WC Con Yd At Ats Sl Agree DW
theorem Try_Zl_fb9  (w : World) : (Instr.buildSlice 23 0 [].toArray).run Try.prog w = .ok (.slice (some ⟨w.heap.size, 0, none⟩) 0 0) (w.alloc (Go.Rt.blk 76 [])) := by kernel_rfl
theorem Try_Zl_fb10 (x0 : Int) (w : World) : (Instr.buildSlice 39 1 [(0, .int .i64 x0)].toArray).run Try.prog w = .ok (.slice (some ⟨w.heap.size, 0, none⟩) 1 1) (w.alloc (Go.Rt.blk 3 [.int .i64 x0])) := by kernel_rfl
theorem krows_put2 {l : List Ctr} {q : Nat → AtC} {u : Nat} {d : Ctr} {at_ : AtC} {row : List Value} (hu : u < l.length) (hr : row = d.cells at_) : (krows l q).set u row = krows (l.set u d) (fun j => if j = u then at_ else q j) := by
  apply List.ext_getElem
  · simp [krows]
  · intro i h1 h2
    have hi : i < l.length := by simpa [krows] using h1
    simp only [krows, List.getElem_set, List.getElem_mapIdx]
    by_cases e : u = i
    · subst e; rw [if_pos rfl, if_pos rfl, if_pos rfl]; exact hr
    · rw [if_neg e, if_neg e, if_neg (fun h => e h.symm)]
theorem set_bin2 {w0 : World} {Z : List (Nat × Obj)} {b : Board} {p : AtB} {u cK : Nat} {aK : Option Addr} {d : Ctr} {at_ : AtC} (hm : BIn w0 Z b p) (hu : u < b.ctrs.length) (hK : Sl w0 Z aK 6 (krows (b.ctrs.set u d) (fun j => if j = u then at_ else p.pc j))) (hZ : Sl w0 Z at_.az 1 (d.zero.map fun x => [Value.int .i64 x])) (hS : Sl w0 Z at_.as 1 (d.shown.map fun x => [Value.int .i64 x])) (hlz : d.zero.length ≤ 9223372036854775807 ∧ d.zero.length ≤ at_.cz) (hls : d.shown.length ≤ 9223372036854775807 ∧ d.shown.length ≤ at_.cs) (hnm : d.name = b.ctrs[u].name) (hcK : b.ctrs.length ≤ cK) : BIn w0 Z (setC b u d) ⟨p.ah, p.ch, aK, cK, fun j => if j = u then at_ else p.pc j⟩ := by
  have hl : (setC b u d).ctrs.length = b.ctrs.length := List.length_set
  have get : ∀ i (hi : i < (setC b u d).ctrs.length), (i = u ∧ (setC b u d).ctrs[i] = d ∧ (if i = u then at_ else p.pc i) = at_) ∨ (∃ hi2 : i < b.ctrs.length, (setC b u d).ctrs[i] = b.ctrs[i] ∧ (if i = u then at_ else p.pc i) = p.pc i) := by
    intro i hi
    have hi2 : i < b.ctrs.length := by rw [hl] at hi; exact hi
    have e : (setC b u d).ctrs[i] = if u = i then d else b.ctrs[i] := List.getElem_set ..
    by_cases e2 : u = i
    · left; exact ⟨e2.symm, by rw [e, if_pos e2], if_pos e2.symm⟩
    · right; exact ⟨hi2, by rw [e, if_neg e2], if_neg (fun h => e2 h.symm)⟩
  refine ⟨hm.h, hK, fun i hi => ?_, fun i hi => ?_, hm.lh, by rw [hl]; exact hm.lc, hm.ch, by rw [hl]; exact hcK, fun i hi => ?_, fun i hi => ?_, fun x hx => ?_⟩
  · rcases get i hi with ⟨_, e2, e3⟩ | ⟨hi2, e2, e3⟩
    · rw [e2]; show Sl w0 Z (if i = u then at_ else p.pc i).az 1 _; rw [e3]; exact hZ
    · rw [e2]; show Sl w0 Z (if i = u then at_ else p.pc i).az 1 _; rw [e3]; exact hm.z i hi2
  · rcases get i hi with ⟨_, e2, e3⟩ | ⟨hi2, e2, e3⟩
    · rw [e2]; show Sl w0 Z (if i = u then at_ else p.pc i).as 1 _; rw [e3]; exact hS
    · rw [e2]; show Sl w0 Z (if i = u then at_ else p.pc i).as 1 _; rw [e3]; exact hm.s i hi2
  · rcases get i hi with ⟨_, e2, e3⟩ | ⟨hi2, e2, e3⟩
    · rw [e2]; show _ ∧ _ ≤ (if i = u then at_ else p.pc i).cz; rw [e3]; exact hlz
    · rw [e2]; show _ ∧ _ ≤ (if i = u then at_ else p.pc i).cz; rw [e3]; exact hm.lz i hi2
  · rcases get i hi with ⟨_, e2, e3⟩ | ⟨hi2, e2, e3⟩
    · rw [e2]; show _ ∧ _ ≤ (if i = u then at_ else p.pc i).cs; rw [e3]; exact hls
    · rw [e2]; show _ ∧ _ ≤ (if i = u then at_ else p.pc i).cs; rw [e3]; exact hm.ls i hi2
  · rcases List.mem_or_eq_of_mem_set hx with h | h
    · exact hm.nm x h
    · rw [h, hnm]; exact hm.nm _ (List.getElem_mem hu)
theorem swpK {w0 w : World} {a c : Nat × Obj} {L : List (Nat × Obj)} (h : St w0 w (a :: c :: L)) : St w0 w (c :: a :: L) := h.perm (.swap c a L)
theorem looks_short2 (b : Board) (x y : Int) : (looksP b x y).1.length ≤ 64 := by
  unfold looksP
  split
  · simp
  · rename_i h
    have hok := check_ok (enterE_ok (Decidable.not_not.1 h)).1
    have h1 := hok.lh
    have h2 := Go.Rt.Ch.few_len (tellsS b x y) b.hours.length (1 <<< b.hours.length)
    unfold Go.Rt.Ha.fewest; dsimp only; omega
theorem wrong_short2 (b : Board) : (wrongP b).1.length ≤ 64 := by
  unfold wrongP
  split
  · simp
  · rename_i h
    have hok := check_ok (Decidable.not_not.1 h)
    have h1 := (mN_le hok).1
    have h2 := Go.Rt.Ch.few_len (wrongS b) (mN b) (1 <<< mN b)
    unfold mN at h1 h2
    unfold Go.Rt.Ha.fewest; dsimp only; omega
theorem ats_castW {w0 : World} {L : List (Nat × Obj)} {b o : Nat} {vs vs2 : List Value} (h : Ats w0 L b o vs) (e : vs2 = vs) : Ats w0 L b o vs2 := by rw [e]; exact h
theorem more_y {m x : Int} (h : ¬ x = -1) : (x + m) % 100 = moreOf m x := by unfold moreOf; rw [if_neg h]
theorem more_n {m x : Int} (h : x = -1) : x = moreOf m x := by unfold moreOf; rw [if_pos h]; exact h
theorem own_more {l : List Int} {m : Int} {v : Value} {i : Nat} {B : List (Nat × Obj)} (hi : i < l.length) (h : Rt.Own v 3 1 (i + 1) (iv ((l.take i).map (moreOf m)) ++ [[Value.int .i64 (moreOf m l[i])]].flatten) B) : Rt.Own v 3 1 (i + 1) (iv ((l.take (i + 1)).map (moreOf m))) B := by
  rw [List.take_succ_eq_append_getElem hi, List.map_append]; simpa [iv] using h
theorem c50 {w0 w : World} {F : List (Nat × Obj)} (b : Board) (p : AtB) (hm : BIn w0 F b p) (z : Board) (pz : AtB) (hmz : BIn w0 F z pz) (hT : TwinB b z) (hcb : (check b).2.2 = 0) (hcz : (check z).2.2 = 0) (hs : St w0 w F) :
  Con Try.prog 50 [.agg (b.cells p).toArray, .agg (z.cells pz).toArray] w fun v w' => v = .bool true ∧ St w0 w' F := by
  refine con_of_wc (n := 149) Try.func50 rfl rfl (Nat.le_of_ble_eq_true rfl) ?_
  have hok := check_ok hcb
  have hlh := hok.lh
  have hlc := hok.lc
  have hho := hok.holds
  have hzl := hT.len
  have hzh := hT.hours
  have hzo := hT.holds
  refine w_seq (fun K2 hK1 => ?_)
  refine w_region ?_
  refine w_box (v := .agg #[.int _ _, .slice _ _ _, .slice _ _ _]) (cs := [_, _, _]) want_none rfl rfl rfl hs (fun b3 w4 hs5 => ?_)
  refine w_box (v := .agg #[.int _ _, .slice _ _ _, .slice _ _ _]) (cs := [_, _, _]) want_none rfl rfl rfl hs5 (fun b6 w7 hs8 => ?_)
  refine w_p (y_assign (v := _) rfl rfl) rfl ?_
  refine w_nil ?_
  refine q_then (hK1 _ _ ?_)
  refine w_seq (fun K10 hK9 => ?_)
  refine w_seq (fun K12 hK11 => ?_)
  have hbx := ats_ofK (i := 1) (vs := b.cells p) hs8 rfl rfl
  have hbz := ats_ofK (i := 0) (vs := z.cells pz) hs8 rfl rfl
  refine w_region ?_
  refine w_p (y_assign (v := _) rfl rfl) rfl ?_
  refine w_nil ?_
  refine q_then (hK11 _ _ ?_)
  refine w_block ?_
  refine w_loop [4, 5, 6, 7, 8, 9, 28, 29, 30, 31, 32, 33, 34, 35, 36, 37, 38, 39, 40, 41, 42, 43, 44, 45, 46, 47, 48, 49, 50, 51, 52, 53, 54] [5] (fun kk vs0 w => ∃ (q : Nat), vs0 = [.int .i64 q] ∧ q ≤ b.hours.length ∧ kk = b.hours.length - q ∧ St w0 w ((b6, blk 25 (z.cells pz)) :: (b3, blk 25 (b.cells p)) :: F)) (b.hours.length) ?_ ?_
  ·
   exact ⟨0, rfl, by omega, by omega, hs8⟩
  ·
   intro k vs μ w15 hI K14 hN13
   obtain ⟨q, rfl, hqa, rfl, hs⟩ := hI
   refine w_seq (fun K17 hK16 => ?_)
   refine w_seq (fun K19 hK18 => ?_)
   refine w_region ?_
   refine w_p (y_move (v := .int _ _) rfl rfl) rfl ?_
   refine w_p (y_fieldAddr (o := 1) (i := 1) Try.underlying25 rfl Try.sizeOf22 rfl rfl rfl) rfl ?_
   refine w_p (y_load1 Try.isAgg22 hs rfl rfl (show Ats _ _ _ _ [_] from Ats.part hbx 1 1)) rfl ?_
   refine w_p (y_lenS Try.underlying22 rfl rfl) rfl ?_
   refine w_p (y_lss rfl rfl rfl rfl) rfl ?_
   refine w_nil ?_
   refine q_then (hK18 _ _ ?_)
   refine w_cond rfl rfl (fun h20 => ?_) (fun h20 => ?_)
   ·
    try simp only [zA, zB, zC, zD, zE, zF] at h20
    refine w_skip ?_
    refine q_then (hK16 _ _ ?_)
    refine w_seq (fun K22 hK21 => ?_)
    refine w_block ?_
    refine w_seq (fun K24 hK23 => ?_)
    refine w_region ?_
    refine w_p (y_loadN (vs := [_, _, _]) Try.isAgg25 Try.sizeOf25 hs rfl rfl hbx) rfl ?_
    refine w_p (y_move (v := .int _ _) rfl rfl) rfl ?_
    refine w_call want_none Try.call18 rfl rfl rfl rfl (c18 b p hm.cons.cons (q : Int) hs) ?_
    rintro _ w26 ⟨rfl, hs27⟩
    refine w_p (y_move (v := .tuple _) rfl rfl) rfl ?_
    refine w_p (y_extract (v := .agg _) rfl rfl rfl) rfl ?_
    refine w_p (y_extract (v := .int _ _) rfl rfl rfl) rfl ?_
    refine w_alloc (cs := [_, _]) want_none Try.zeroValue31 rfl hs27 (fun b28 w29 hs30 => ?_)
    refine w_store (i := 0) (v := .agg #[.int _ _, .int _ _]) (vs := [_, _]) want_none Try.sizeOf31 rfl rfl rfl rfl rfl (by simp [Value.oneCell']) hs30 rfl (Nat.le_of_ble_eq_true rfl) (fun w31 hs32 => ?_)
    refine w_p (y_assign (v := .int _ _) rfl rfl) rfl ?_
    refine w_nil ?_
    refine q_then (hK23 _ _ ?_)
    refine w_seq (fun K34 hK33 => ?_)
    refine w_region ?_
    refine w_p (y_loadN (vs := [_, _, _]) Try.isAgg25 Try.sizeOf25 hs32.tail rfl rfl hbz) rfl ?_
    refine w_p (y_move (v := .int _ _) rfl rfl) rfl ?_
    refine w_call want_none Try.call18 rfl rfl rfl rfl ((c18 z pz hmz.cons.cons.cons (q : Int) hs32).mono (fun v w' h => by rw [twin_went hT hcb hcz] at h; exact h)) ?_
    rintro _ w36 ⟨rfl, hs37⟩
    refine w_p (y_move (v := .tuple _) rfl rfl) rfl ?_
    refine w_p (y_extract (v := .agg _) rfl rfl rfl) rfl ?_
    refine w_p (y_extract (v := .int _ _) rfl rfl rfl) rfl ?_
    refine w_alloc (cs := [_, _]) want_none Try.zeroValue31 rfl hs37 (fun b38 w39 hs40 => ?_)
    refine w_store (i := 0) (v := .agg #[.int _ _, .int _ _]) (vs := [_, _]) want_none Try.sizeOf31 rfl rfl rfl rfl rfl (by simp [Value.oneCell']) hs40 rfl (Nat.le_of_ble_eq_true rfl) (fun w41 hs42 => ?_)
    refine w_p (y_assign (v := .int _ _) rfl rfl) rfl ?_
    refine w_nil ?_
    refine q_then (hK33 _ _ ?_)
    refine w_seq (fun K44 hK43 => ?_)
    have hx6 := ats_ofL (i := 1) (vs := [_, _]) hs42 rfl rfl
    have hx8 := ats_ofL (i := 0) (vs := [_, _]) hs42 rfl rfl
    refine w_region ?_
    refine w_p (y_loadN (vs := [_, _]) Try.isAgg31 Try.sizeOf31 hs42 rfl rfl hx6) rfl ?_
    refine w_p (y_loadN (vs := [_, _]) Try.isAgg31 Try.sizeOf31 hs42 rfl rfl hx8) rfl ?_
    refine w_p (y_neFlat (l := [_, _]) (m := [_, _]) Try.eqGuardType31 Try_flat31 (by first | omega | rfl | (simp only [List.length_map, List.length_set, List.length_append, List.length_take, List.length_drop, List.length_replicate, List.length_cons, List.length_nil] <;> omega)) (by first | omega | rfl | (simp only [List.length_map, List.length_set, List.length_append, List.length_take, List.length_drop, List.length_replicate, List.length_cons, List.length_nil] <;> omega)) rfl rfl rfl rfl rfl rfl) rfl ?_
    refine w_p (y_move (v := .bool _) rfl rfl) rfl ?_
    refine w_split (fun h45 => ?_) (fun h45 => ?_)
    ·
     exfalso; simp at h45
    ·
     try simp only [zA, zB, zC, zD, zE, zF] at h45
     refine w_y rfl rfl rfl (y_move (v := .int _ _) rfl rfl) rfl ?_
     refine w_y rfl rfl rfl (y_move (v := .int _ _) rfl rfl) rfl ?_
     refine w_y rfl rfl rfl (y_neq rfl rfl rfl rfl) rfl ?_
     refine w_p (y_pickF (v := .bool _) rfl rfl rfl rfl) rfl ?_
     refine w_nil ?_
     refine q_then (hK43 _ _ ?_)
     refine w_cond rfl rfl (fun h46 => ?_) (fun h46 => ?_)
     ·
      exfalso; simp at h46
     ·
      try simp only [zA, zB, zC, zD, zE, zF] at h46
      refine w_skip ?_
      refine q_blk_normal ?_
      refine q_then (hK21 _ _ ?_)
      refine w_region ?_
      refine w_p (y_move (v := .int _ _) rfl rfl) rfl ?_
      refine w_p (y_add rfl rfl rfl rfl (by omega) (by omega)) rfl ?_
      refine w_p (y_assign (v := .int _ _) rfl rfl) rfl ?_
      refine w_nil ?_
      refine q_then (hN13 _ _ (Nx.intro (b.hours.length - (q + 1)) (by omega) (by repeat (first | exact agree_mix | refine agree_upd rfl ?_ | refine agree_updL rfl ?_ _ | refine agree_mixin rfl ?_)) ?_))
      exact ⟨q + 1, rfl, by omega, by omega, hs42.tail.tail⟩
   ·
    try simp only [zA, zB, zC, zD, zE, zF] at h20
    refine w_exit ?_
    refine q_then_exit ?_
    refine q_then_exit ?_
    refine q_blk_this ?_
    refine q_then (hK9 _ _ ?_)
    refine w_seq (fun K48 hK47 => ?_)
    refine w_seq (fun K50 hK49 => ?_)
    refine w_region ?_
    refine w_p (y_assign (v := _) rfl rfl) rfl ?_
    refine w_nil ?_
    refine q_then (hK49 _ _ ?_)
    refine w_block ?_
    refine w_loop [4, 10, 11, 12, 13, 14, 15, 16, 17, 18, 55, 56, 57, 58, 59, 60, 61, 62, 63, 64, 65, 66, 67, 68, 69, 70, 71, 72, 73, 74, 75, 76, 77, 78, 79, 80, 81, 82, 83, 84, 85, 86, 87, 88, 89, 90, 91, 92, 93, 94, 95, 96, 97, 98, 99, 100, 101, 102, 103] [10] (fun kk vs0 w => ∃ (q : Nat), vs0 = [.int .i64 q] ∧ (q : Int) ≤ b.holds ∧ kk = (b.holds - q).toNat ∧ St w0 w ((b6, blk 25 (z.cells pz)) :: (b3, blk 25 (b.cells p)) :: F)) (b.holds.toNat) ?_ ?_
    ·
     exact ⟨0, rfl, by omega, by omega, hs⟩
    ·
     intro k vs μ w53 hI K52 hN51
     obtain ⟨q, rfl, hqa, rfl, hs⟩ := hI
     refine w_seq (fun K55 hK54 => ?_)
     refine w_seq (fun K57 hK56 => ?_)
     refine w_region ?_
     refine w_p (y_move (v := .int _ _) rfl rfl) rfl ?_
     refine w_p (y_fieldAddr (o := 0) (i := 0) Try.underlying25 rfl Try.sizeOf3 rfl rfl rfl) rfl ?_
     refine w_p (y_load1 Try.isAgg3 hs rfl rfl (show Ats _ _ _ _ [_] from Ats.part hbx 0 1)) rfl ?_
     refine w_p (y_lss rfl rfl rfl rfl) rfl ?_
     refine w_nil ?_
     refine q_then (hK56 _ _ ?_)
     refine w_cond rfl rfl (fun h58 => ?_) (fun h58 => ?_)
     ·
      try simp only [zA, zB, zC, zD, zE, zF] at h58
      refine w_skip ?_
      refine q_then (hK54 _ _ ?_)
      refine w_seq (fun K60 hK59 => ?_)
      refine w_block ?_
      refine w_seq (fun K62 hK61 => ?_)
      refine w_region ?_
      refine w_p (y_loadN (vs := [_, _, _]) Try.isAgg25 Try.sizeOf25 hs rfl rfl hbx) rfl ?_
      refine w_p (y_move (v := .int _ _) rfl rfl) rfl ?_
      refine w_call want_none Try.call20 rfl rfl rfl rfl (c20 b p hm.cons.cons (q : Int) hs) ?_
      rintro _ w64 ⟨rfl, hs65⟩
      refine w_p (y_move (v := .tuple _) rfl rfl) rfl ?_
      refine w_p (y_extract (v := .agg _) rfl rfl rfl) rfl ?_
      refine w_p (y_extract (v := .int _ _) rfl rfl rfl) rfl ?_
      refine w_alloc (cs := [_, _]) want_none Try.zeroValue31 rfl hs65 (fun b66 w67 hs68 => ?_)
      refine w_store (i := 0) (v := .agg #[.int _ _, .int _ _]) (vs := [_, _]) want_none Try.sizeOf31 rfl rfl rfl rfl rfl (by simp [Value.oneCell']) hs68 rfl (Nat.le_of_ble_eq_true rfl) (fun w69 hs70 => ?_)
      refine w_p (y_assign (v := .int _ _) rfl rfl) rfl ?_
      refine w_nil ?_
      refine q_then (hK61 _ _ ?_)
      refine w_seq (fun K72 hK71 => ?_)
      refine w_region ?_
      refine w_p (y_loadN (vs := [_, _, _]) Try.isAgg25 Try.sizeOf25 hs70.tail rfl rfl hbz) rfl ?_
      refine w_p (y_move (v := .int _ _) rfl rfl) rfl ?_
      refine w_call want_none Try.call20 rfl rfl rfl rfl ((c20 z pz hmz.cons.cons.cons (q : Int) hs70).mono (fun v w' h => by rw [twin_hold hT hcb hcz] at h; exact h)) ?_
      rintro _ w74 ⟨rfl, hs75⟩
      refine w_p (y_move (v := .tuple _) rfl rfl) rfl ?_
      refine w_p (y_extract (v := .agg _) rfl rfl rfl) rfl ?_
      refine w_p (y_extract (v := .int _ _) rfl rfl rfl) rfl ?_
      refine w_alloc (cs := [_, _]) want_none Try.zeroValue31 rfl hs75 (fun b76 w77 hs78 => ?_)
      refine w_store (i := 0) (v := .agg #[.int _ _, .int _ _]) (vs := [_, _]) want_none Try.sizeOf31 rfl rfl rfl rfl rfl (by simp [Value.oneCell']) hs78 rfl (Nat.le_of_ble_eq_true rfl) (fun w79 hs80 => ?_)
      refine w_p (y_assign (v := .int _ _) rfl rfl) rfl ?_
      refine w_nil ?_
      refine q_then (hK71 _ _ ?_)
      refine w_seq (fun K82 hK81 => ?_)
      have hx11 := ats_ofL (i := 1) (vs := [_, _]) hs80 rfl rfl
      have hx13 := ats_ofL (i := 0) (vs := [_, _]) hs80 rfl rfl
      refine w_region ?_
      refine w_p (y_loadN (vs := [_, _, _]) Try.isAgg25 Try.sizeOf25 hs80.tail.tail rfl rfl hbx) rfl ?_
      refine w_p (y_move (v := .int _ _) rfl rfl) rfl ?_
      refine w_call want_none Try.call27 rfl rfl rfl rfl (c27 b p hm.cons.cons.cons.cons (q : Int) 1 hs80) ?_
      rintro _ w84 ⟨BLb, aLb, cLb, rfl, hqLb, hs85⟩
      replace hs85 := (show St _ _ (BLb ++ (_ :: _ :: _ :: _ :: F)) from hs85)
      refine w_p (y_move (v := .tuple _) rfl rfl) rfl ?_
      refine w_p (y_extract (v := .slice _ _ _) rfl rfl rfl) rfl ?_
      refine w_p (y_extract (v := .int _ _) rfl rfl rfl) rfl ?_
      refine w_p (y_assign (v := .slice _ _ _) rfl rfl) rfl ?_
      refine w_p (y_assign (v := .int _ _) rfl rfl) rfl ?_
      refine w_nil ?_
      refine q_then (hK81 _ _ ?_)
      refine w_seq (fun K87 hK86 => ?_)
      refine w_region ?_
      refine w_p (y_loadN (vs := [_, _, _]) Try.isAgg25 Try.sizeOf25 hs85.drop.tail.tail rfl rfl hbz) rfl ?_
      refine w_p (y_move (v := .int _ _) rfl rfl) rfl ?_
      refine w_call want_none Try.call27 rfl rfl rfl rfl ((c27 z pz hmz.cons.cons.cons.cons.app (q : Int) 1 hs85).mono (fun v w' h => by rw [twin_looks hT hcb hcz] at h; exact h)) ?_
      rintro _ w89 ⟨BLz, aLz, cLz, rfl, hqLz, hs90⟩
      replace hs90 := (show St _ _ (BLz ++ (BLb ++ (_ :: _ :: _ :: _ :: F))) from hs90)
      refine w_p (y_move (v := .tuple _) rfl rfl) rfl ?_
      refine w_p (y_extract (v := .slice _ _ _) rfl rfl rfl) rfl ?_
      refine w_p (y_extract (v := .int _ _) rfl rfl rfl) rfl ?_
      refine w_p (y_assign (v := .slice _ _ _) rfl rfl) rfl ?_
      refine w_p (y_assign (v := .int _ _) rfl rfl) rfl ?_
      refine w_nil ?_
      refine q_then (hK86 _ _ ?_)
      refine w_seq (fun K92 hK91 => ?_)
      refine w_region ?_
      refine w_p (y_loadN (vs := [_, _]) Try.isAgg31 Try.sizeOf31 hs90.drop.drop rfl rfl hx11) rfl ?_
      refine w_p (y_loadN (vs := [_, _]) Try.isAgg31 Try.sizeOf31 hs90.drop.drop rfl rfl hx13) rfl ?_
      refine w_p (y_neFlat (l := [_, _]) (m := [_, _]) Try.eqGuardType31 Try_flat31 (by first | omega | rfl | (simp only [List.length_map, List.length_set, List.length_append, List.length_take, List.length_drop, List.length_replicate, List.length_cons, List.length_nil] <;> omega)) (by first | omega | rfl | (simp only [List.length_map, List.length_set, List.length_append, List.length_take, List.length_drop, List.length_replicate, List.length_cons, List.length_nil] <;> omega)) rfl rfl rfl rfl rfl rfl) rfl ?_
      refine w_p (y_move (v := .bool _) rfl rfl) rfl ?_
      refine w_split (fun h93 => ?_) (fun h93 => ?_)
      ·
       exfalso; simp at h93
      ·
       try simp only [zA, zB, zC, zD, zE, zF] at h93
       refine w_y rfl rfl rfl (y_move (v := .int _ _) rfl rfl) rfl ?_
       refine w_y rfl rfl rfl (y_move (v := .int _ _) rfl rfl) rfl ?_
       refine w_y rfl rfl rfl (y_neq rfl rfl rfl rfl) rfl ?_
       refine w_p (y_pickF (v := .bool _) rfl rfl rfl rfl) rfl ?_
       refine w_p (y_move (v := .bool _) rfl rfl) rfl ?_
       refine w_split (fun h94 => ?_) (fun h94 => ?_)
       ·
        exfalso; simp at h94
       ·
        try simp only [zA, zB, zC, zD, zE, zF] at h94
        refine w_y rfl rfl rfl (y_move (v := .slice _ _ _) rfl rfl) rfl ?_
        refine w_y rfl rfl rfl (y_move (v := .slice _ _ _) rfl rfl) rfl ?_
        refine w_call (want_yes rfl rfl rfl) Try.call29 rfl rfl rfl rfl (c29 _ _ (looksP b (q : Int) 1).1 (looksP b (q : Int) 1).1 _ _ (by have := looks_short2 b (q : Int) 1; omega) hqLb.top.app hqLz.top hs90) ?_
        rintro _ w96 ⟨rfl, hs97⟩
        refine w_y rfl rfl rfl (y_not rfl rfl) rfl ?_
        refine w_p (y_pickF (v := .bool _) rfl rfl rfl rfl) rfl ?_
        refine w_p (y_move (v := .bool _) rfl rfl) rfl ?_
        refine w_split (fun h98 => ?_) (fun h98 => ?_)
        ·
         exfalso; simp at h98
        ·
         try simp only [zA, zB, zC, zD, zE, zF] at h98
         refine w_y rfl rfl rfl (y_move (v := .int _ _) rfl rfl) rfl ?_
         refine w_y rfl rfl rfl (y_move (v := .int _ _) rfl rfl) rfl ?_
         refine w_y rfl rfl rfl (y_neq rfl rfl rfl rfl) rfl ?_
         refine w_p (y_pickF (v := .bool _) rfl rfl rfl rfl) rfl ?_
         refine w_nil ?_
         refine q_then (hK91 _ _ ?_)
         refine w_cond rfl rfl (fun h99 => ?_) (fun h99 => ?_)
         ·
          exfalso; simp at h99
         ·
          try simp only [zA, zB, zC, zD, zE, zF] at h99
          refine w_skip ?_
          refine q_blk_normal ?_
          refine q_then (hK59 _ _ ?_)
          refine w_region ?_
          refine w_p (y_move (v := .int _ _) rfl rfl) rfl ?_
          refine w_p (y_add rfl rfl rfl rfl (by omega) (by omega)) rfl ?_
          refine w_p (y_assign (v := .int _ _) rfl rfl) rfl ?_
          refine w_nil ?_
          refine q_then (hN51 _ _ (Nx.intro ((b.holds - (q + 1)).toNat) (by omega) (by repeat (first | exact agree_mix | refine agree_upd rfl ?_ | refine agree_updL rfl ?_ _ | refine agree_mixin rfl ?_)) ?_))
          exact ⟨q + 1, rfl, by omega, by omega, hs97.drop.drop.tail.tail⟩
     ·
      try simp only [zA, zB, zC, zD, zE, zF] at h58
      refine w_exit ?_
      refine q_then_exit ?_
      refine q_then_exit ?_
      refine q_blk_this ?_
      refine q_then (hK47 _ _ ?_)
      refine w_seq (fun K101 hK100 => ?_)
      refine w_seq (fun K103 hK102 => ?_)
      refine w_region ?_
      refine w_p (y_assign (v := _) rfl rfl) rfl ?_
      refine w_nil ?_
      refine q_then (hK102 _ _ ?_)
      refine w_block ?_
      refine w_loop [4, 19, 20, 21, 22, 23, 104, 105, 106, 107, 108, 109, 110, 111, 112, 113, 114, 115, 116, 117, 118, 119, 120, 121, 122, 123, 124, 125, 126, 127, 128, 129, 130] [19] (fun kk vs0 w => ∃ (q : Nat), vs0 = [.int .i64 q] ∧ q ≤ b.ctrs.length ∧ kk = b.ctrs.length - q ∧ St w0 w ((b6, blk 25 (z.cells pz)) :: (b3, blk 25 (b.cells p)) :: F)) (b.ctrs.length) ?_ ?_
      ·
       exact ⟨0, rfl, by omega, by omega, hs⟩
      ·
       intro k vs μ w106 hI K105 hN104
       obtain ⟨q, rfl, hqa, rfl, hs⟩ := hI
       refine w_seq (fun K108 hK107 => ?_)
       refine w_seq (fun K110 hK109 => ?_)
       refine w_region ?_
       refine w_p (y_move (v := .int _ _) rfl rfl) rfl ?_
       refine w_p (y_fieldAddr (o := 2) (i := 2) Try.underlying25 rfl Try.sizeOf23 rfl rfl rfl) rfl ?_
       refine w_p (y_load1 Try.isAgg23 hs rfl rfl (show Ats _ _ _ _ [_] from Ats.part hbx 2 1)) rfl ?_
       refine w_p (y_lenS Try.underlying23 rfl rfl) rfl ?_
       refine w_p (y_lss rfl rfl rfl rfl) rfl ?_
       refine w_nil ?_
       refine q_then (hK109 _ _ ?_)
       refine w_cond rfl rfl (fun h111 => ?_) (fun h111 => ?_)
       ·
        try simp only [zA, zB, zC, zD, zE, zF] at h111
        refine w_skip ?_
        refine q_then (hK107 _ _ ?_)
        refine w_seq (fun K113 hK112 => ?_)
        refine w_block ?_
        refine w_seq (fun K115 hK114 => ?_)
        refine w_region ?_
        refine w_p (y_loadN (vs := [_, _, _]) Try.isAgg25 Try.sizeOf25 hs rfl rfl hbx) rfl ?_
        refine w_p (y_move (v := .int _ _) rfl rfl) rfl ?_
        refine w_call want_none Try.call23 rfl rfl rfl rfl (c23 b p hm.cons.cons (q : Int) hs) ?_
        rintro _ w117 ⟨rfl, hs118⟩
        refine w_p (y_move (v := .tuple _) rfl rfl) rfl ?_
        refine w_p (y_extract (v := .int _ _) rfl rfl rfl) rfl ?_
        refine w_p (y_extract (v := .int _ _) rfl rfl rfl) rfl ?_
        refine w_p (y_assign (v := .int _ _) rfl rfl) rfl ?_
        refine w_p (y_assign (v := .int _ _) rfl rfl) rfl ?_
        refine w_nil ?_
        refine q_then (hK114 _ _ ?_)
        refine w_seq (fun K120 hK119 => ?_)
        refine w_region ?_
        refine w_p (y_loadN (vs := [_, _, _]) Try.isAgg25 Try.sizeOf25 hs118 rfl rfl hbz) rfl ?_
        refine w_p (y_move (v := .int _ _) rfl rfl) rfl ?_
        refine w_call want_none Try.call23 rfl rfl rfl rfl ((c23 z pz hmz.cons.cons (q : Int) hs118).mono (fun v w' h => by rw [twin_right hT hcb hcz] at h; exact h)) ?_
        rintro _ w122 ⟨rfl, hs123⟩
        refine w_p (y_move (v := .tuple _) rfl rfl) rfl ?_
        refine w_p (y_extract (v := .int _ _) rfl rfl rfl) rfl ?_
        refine w_p (y_extract (v := .int _ _) rfl rfl rfl) rfl ?_
        refine w_p (y_assign (v := .int _ _) rfl rfl) rfl ?_
        refine w_p (y_assign (v := .int _ _) rfl rfl) rfl ?_
        refine w_nil ?_
        refine q_then (hK119 _ _ ?_)
        refine w_seq (fun K125 hK124 => ?_)
        refine w_region ?_
        refine w_p (y_move (v := .int _ _) rfl rfl) rfl ?_
        refine w_p (y_move (v := .int _ _) rfl rfl) rfl ?_
        refine w_p (y_neq rfl rfl rfl rfl) rfl ?_
        refine w_p (y_move (v := .bool _) rfl rfl) rfl ?_
        refine w_split (fun h126 => ?_) (fun h126 => ?_)
        ·
         exfalso; simp at h126
        ·
         try simp only [zA, zB, zC, zD, zE, zF] at h126
         refine w_y rfl rfl rfl (y_move (v := .int _ _) rfl rfl) rfl ?_
         refine w_y rfl rfl rfl (y_move (v := .int _ _) rfl rfl) rfl ?_
         refine w_y rfl rfl rfl (y_neq rfl rfl rfl rfl) rfl ?_
         refine w_p (y_pickF (v := .bool _) rfl rfl rfl rfl) rfl ?_
         refine w_nil ?_
         refine q_then (hK124 _ _ ?_)
         refine w_cond rfl rfl (fun h127 => ?_) (fun h127 => ?_)
         ·
          exfalso; simp at h127
         ·
          try simp only [zA, zB, zC, zD, zE, zF] at h127
          refine w_skip ?_
          refine q_blk_normal ?_
          refine q_then (hK112 _ _ ?_)
          refine w_region ?_
          refine w_p (y_move (v := .int _ _) rfl rfl) rfl ?_
          refine w_p (y_add rfl rfl rfl rfl (by omega) (by omega)) rfl ?_
          refine w_p (y_assign (v := .int _ _) rfl rfl) rfl ?_
          refine w_nil ?_
          refine q_then (hN104 _ _ (Nx.intro (b.ctrs.length - (q + 1)) (by omega) (by repeat (first | exact agree_mix | refine agree_upd rfl ?_ | refine agree_updL rfl ?_ _ | refine agree_mixin rfl ?_)) ?_))
          exact ⟨q + 1, rfl, by omega, by omega, hs123⟩
       ·
        try simp only [zA, zB, zC, zD, zE, zF] at h111
        refine w_exit ?_
        refine q_then_exit ?_
        refine q_then_exit ?_
        refine q_blk_this ?_
        refine q_then (hK100 _ _ ?_)
        refine w_seq (fun K129 hK128 => ?_)
        refine w_region ?_
        refine w_p (y_loadN (vs := [_, _, _]) Try.isAgg25 Try.sizeOf25 hs rfl rfl hbx) rfl ?_
        refine w_call want_none Try.call30 rfl rfl rfl rfl (c30 b p hm.cons.cons hs) ?_
        rintro _ w131 ⟨BWb, aWb, cWb, rfl, hqWb, hs132⟩
        replace hs132 := (show St _ _ (BWb ++ (_ :: _ :: F)) from hs132)
        refine w_p (y_move (v := .tuple _) rfl rfl) rfl ?_
        refine w_p (y_extract (v := .slice _ _ _) rfl rfl rfl) rfl ?_
        refine w_p (y_extract (v := .int _ _) rfl rfl rfl) rfl ?_
        refine w_p (y_assign (v := .slice _ _ _) rfl rfl) rfl ?_
        refine w_p (y_assign (v := .int _ _) rfl rfl) rfl ?_
        refine w_nil ?_
        refine q_then (hK128 _ _ ?_)
        refine w_seq (fun K134 hK133 => ?_)
        refine w_region ?_
        refine w_p (y_loadN (vs := [_, _, _]) Try.isAgg25 Try.sizeOf25 hs132.drop rfl rfl hbz) rfl ?_
        refine w_call want_none Try.call30 rfl rfl rfl rfl ((c30 z pz hmz.cons.cons.app hs132).mono (fun v w' h => by rw [twin_wrong hT hcb hcz] at h; exact h)) ?_
        rintro _ w136 ⟨BWz, aWz, cWz, rfl, hqWz, hs137⟩
        replace hs137 := (show St _ _ (BWz ++ (BWb ++ (_ :: _ :: F))) from hs137)
        refine w_p (y_move (v := .tuple _) rfl rfl) rfl ?_
        refine w_p (y_extract (v := .slice _ _ _) rfl rfl rfl) rfl ?_
        refine w_p (y_extract (v := .int _ _) rfl rfl rfl) rfl ?_
        refine w_p (y_assign (v := .slice _ _ _) rfl rfl) rfl ?_
        refine w_p (y_assign (v := .int _ _) rfl rfl) rfl ?_
        refine w_nil ?_
        refine q_then (hK133 _ _ ?_)
        refine w_seq (fun K139 hK138 => ?_)
        refine w_region ?_
        refine w_p (y_move (v := .slice _ _ _) rfl rfl) rfl ?_
        refine w_p (y_move (v := .slice _ _ _) rfl rfl) rfl ?_
        refine w_call want_none Try.call29 rfl rfl rfl rfl (c29 _ _ (wrongP b).1 (wrongP b).1 _ _ (by have := wrong_short2 b; omega) hqWb.top.app hqWz.top hs137) ?_
        rintro _ w141 ⟨rfl, hs142⟩
        refine w_p (y_move (v := .bool _) rfl rfl) rfl ?_
        refine w_split (fun h143 => ?_) (fun h143 => ?_)
        ·
         try simp only [zA, zB, zC, zD, zE, zF] at h143
         refine w_y rfl rfl rfl (y_move (v := .int _ _) rfl rfl) rfl ?_
         refine w_y rfl rfl rfl (y_move (v := .int _ _) rfl rfl) rfl ?_
         refine w_y rfl rfl rfl (y_eql rfl rfl rfl rfl) rfl ?_
         refine w_p (y_pickT (v := .bool _) rfl rfl rfl rfl) rfl ?_
         refine w_p (y_assign (v := .bool _) rfl rfl) rfl ?_
         refine w_nil ?_
         refine q_then (hK138 _ _ ?_)
         refine w_ret ?_
         refine q_ret (l := [.tmp 4]) (vs := [_]) rfl ⟨⟨rfl, show _ = (.bool _ : Value) from rfl⟩, trivial⟩ ?_
         first
           | exact ⟨rfl, hs142.drop.drop.tail.tail⟩
           | exact ⟨by rw [decide_eq_true rfl]; rfl, hs142.drop.drop.tail.tail⟩
        ·
         exfalso; simp at h143

theorem c14 {w0 w : World} {F : List (Nat × Obj)} (b : Board) (p : AtB) (hm : BIn w0 F b p) (hnc : p.ac = none → p.cc = 0) (e0 : Int) (he0 : 0 ≤ e0 ∧ e0 ≤ 255) (e1 : Int) (he1 : 0 ≤ e1 ∧ e1 ≤ 255) (hs : St w0 w F) :
  Con Try.prog 14 [.agg (b.cells p).toArray, .int .u8 e0, .int .u8 e1] w fun v w' => v = .bool true ∧ St w0 w' F := by
  refine con_of_wc (n := 100) Try.func14 rfl rfl (Nat.le_of_ble_eq_true rfl) ?_
  have hlh0 := hm.lh
  have hlc0 := hm.lc
  refine w_seq (fun K2 hK1 => ?_)
  refine w_region ?_
  refine w_box (v := .agg #[.int _ _, .slice _ _ _, .slice _ _ _]) (cs := [_, _, _]) want_none rfl rfl rfl hs (fun b3 w4 hs5 => ?_)
  refine w_p (y_assign (v := _) rfl rfl) rfl ?_
  refine w_nil ?_
  refine q_then (hK1 _ _ ?_)
  refine w_seq (fun K7 hK6 => ?_)
  refine w_seq (fun K9 hK8 => ?_)
  have hbx := ats_ofK (i := 0) (vs := b.cells p) hs5 rfl rfl
  refine w_region ?_
  refine w_p (y_loadN (vs := [_, _, _]) Try.isAgg25 Try.sizeOf25 hs5 rfl rfl hbx) rfl ?_
  refine w_call want_none Try.call34 rfl rfl rfl rfl (c34 b p hm.cons hs5) ?_
  rintro _ w11 ⟨rfl, hs12⟩
  refine w_p (y_not rfl rfl) rfl ?_
  refine w_p (y_move (v := .bool _) rfl rfl) rfl ?_
  refine w_split (fun h13 => ?_) (fun h13 => ?_)
  ·
   try simp only [zA, zB, zC, zD, zE, zF] at h13
   refine w_skipop rfl rfl rfl ?_
   refine w_skipop rfl rfl rfl ?_
   refine w_skipop rfl rfl rfl ?_
   refine w_skipop rfl rfl rfl ?_
   refine w_p (y_pickT (v := _) rfl rfl rfl rfl) rfl ?_
   refine w_nil ?_
   refine q_then (hK8 _ _ ?_)
   refine w_condT rfl rfl ?_
   refine w_seq (fun K15 hK14 => ?_)
   refine w_region ?_
   refine w_call want_none Try.call22 rfl rfl rfl rfl (c22 hs12) ?_
   rintro _ w17 ⟨rfl, hs18⟩
   refine w_p (y_assign (v := .bool _) rfl rfl) rfl ?_
   refine w_nil ?_
   refine q_then (hK14 _ _ ?_)
   refine w_ret ?_
   refine q_then_ret ?_
   refine q_ret (l := [.tmp 6]) (vs := [_]) rfl ⟨⟨rfl, show _ = (.bool _ : Value) from rfl⟩, trivial⟩ ?_
   exact ⟨rfl, hs18.tail⟩
  ·
   try simp only [zA, zB, zC, zD, zE, zF] at h13
   refine w_y rfl rfl rfl (y_fieldAddr (o := 2) (i := 2) Try.underlying25 rfl Try.sizeOf23 rfl rfl rfl) rfl ?_
   refine w_y rfl rfl rfl (y_load1 Try.isAgg23 hs12 rfl rfl (show Ats _ _ _ _ [_] from Ats.part hbx 2 1)) rfl ?_
   refine w_y rfl rfl rfl (y_lenS Try.underlying23 rfl rfl) rfl ?_
   refine w_y rfl rfl rfl (y_eql rfl rfl rfl rfl) rfl ?_
   refine w_p (y_pickF (v := .bool _) rfl rfl rfl rfl) rfl ?_
   refine w_nil ?_
   refine q_then (hK8 _ _ ?_)
   refine w_cond rfl rfl (fun h19 => ?_) (fun h19 => ?_)
   ·
    try simp only [zA, zB, zC, zD, zE, zF] at h19
    refine w_seq (fun K21 hK20 => ?_)
    refine w_region ?_
    refine w_call want_none Try.call22 rfl rfl rfl rfl (c22 hs12) ?_
    rintro _ w23 ⟨rfl, hs24⟩
    refine w_p (y_assign (v := .bool _) rfl rfl) rfl ?_
    refine w_nil ?_
    refine q_then (hK20 _ _ ?_)
    refine w_ret ?_
    refine q_then_ret ?_
    refine q_ret (l := [.tmp 6]) (vs := [_]) rfl ⟨⟨rfl, show _ = (.bool _ : Value) from rfl⟩, trivial⟩ ?_
    exact ⟨rfl, hs24.tail⟩
   ·
    try simp only [zA, zB, zC, zD, zE, zF] at h19
    refine w_skip ?_
    refine q_then (hK6 _ _ ?_)
    refine w_seq (fun K26 hK25 => ?_)
    have hck : (check b).2.2 = 0 := by assumption
    have hok := check_ok hck
    have hlh := hok.lh
    have hlc := hok.lc
    have hc0 : 0 < b.ctrs.length := by omega
    refine w_region ?_
    refine w_p (y_move (v := .int _ _) rfl rfl) rfl ?_
    refine w_p (y_u8int (by rw [Try.underlying5]; rfl) Try.underlying3 rfl rfl (by omega) (by omega)) rfl ?_
    refine w_p (y_fieldAddr (o := 2) (i := 2) Try.underlying25 rfl Try.sizeOf23 rfl rfl rfl) rfl ?_
    refine w_p (y_load1 Try.isAgg23 hs12 rfl rfl (show Ats _ _ _ _ [_] from Ats.part hbx 2 1)) rfl ?_
    refine w_p (y_lenS Try.underlying23 rfl rfl) rfl ?_
    refine w_p (y_rem rfl rfl rfl rfl (by omega) (by omega)) rfl ?_
    refine w_p (y_assign (v := .int _ _) rfl rfl) rfl ?_
    refine w_nil ?_
    refine q_then (hK25 _ _ ?_)
    refine w_seq (fun K28 hK27 => ?_)
    refine w_cut [8, 9, 30, 31] [8, 9] (fun vs w => ∃ bz8 bz9, vs = [.pointer (some ⟨bz8, 0, none⟩), .pointer (some ⟨bz9, 0, none⟩)] ∧ St w0 w ((bz9, blk 25 (b.cells p)) :: (bz8, blk 25 (b.cells p)) :: (b3, blk 25 (b.cells p)) :: F)) (fun K30 hC29 => ?_) ?_
    ·
     refine w_drawT (C := fun w => St w0 w _) [5] (.two [(0, 1), (1, 1)] 2 3 (.done [(3, 2), (4, 2), (5, 3)]) (.done [(2, 2), (4, 2), (5, 3)])) Try_mo (by kernel_rfl) hs12 (fun _ h => h.drew) (fun w31 hs32 => ?_)
     refine dt_two ?_
     refine d_take rfl want_none rfl hs32 (fun _ hq => (y_loadN (vs := [_, _, _]) Try.isAgg25 Try.sizeOf25 hq rfl rfl hbx)) ?_
     refine d_take rfl want_none rfl hs32 (fun _ hq => (y_loadN (vs := [_, _, _]) Try.isAgg25 Try.sizeOf25 hq rfl rfl hbx)) ?_
     refine d_two rfl rfl ?_ ?_
     ·
      refine w_alloc (cs := [_, _, _]) want_none Try.zeroValue25 rfl hs32 (fun b33 w34 hs35 => ?_)
      refine w_nil ?_
      refine qn ⟨hs35.tail, ?_⟩
      refine dt_done ?_
      refine d_eff rfl ?_
      refine w_alloc (cs := [_, _, _]) want_none Try.zeroValue25 rfl hs35 (fun b36 w37 hs38 => ?_)
      refine w_nil ?_
      refine qn ⟨hs38.tail.tail, ?_⟩
      refine d_eff rfl ?_
      refine w_store (i := 1) (v := .agg #[.int _ _, .slice _ _ _, .slice _ _ _]) (vs := [_, _, _]) want_none Try.sizeOf25 rfl rfl rfl rfl rfl (by simp [Value.oneCell']) hs38 rfl (Nat.le_of_ble_eq_true rfl) (fun w39 hs40 => ?_)
      refine w_nil ?_
      refine qn ⟨hs40.tail.tail, ?_⟩
      refine d_late rfl ?_
      refine w_store (i := 0) (v := .agg #[.int _ _, .slice _ _ _, .slice _ _ _]) (vs := [_, _, _]) want_none Try.sizeOf25 rfl rfl rfl rfl rfl (by simp [Value.oneCell']) hs40 rfl (Nat.le_of_ble_eq_true rfl) (fun w41 hs42 => ?_)
      refine w_nil ?_
      refine qn ?_
      refine d_nil ?_
      refine q_then (hC29 _ _ (Md.intro (by repeat (first | exact agree_refl | exact agree_mix | refine agree_upd rfl ?_ | refine agree_updL rfl ?_ _ | refine agree_mixin rfl ?_)) ?_))
      first
        | exact ⟨_, _, rfl, hs42⟩
        | exact ⟨_, _, rfl, swpK (show St _ _ (_ :: _ :: _) from hs42)⟩
     ·
      refine w_alloc (cs := [_, _, _]) want_none Try.zeroValue25 rfl hs32 (fun b43 w44 hs45 => ?_)
      refine w_nil ?_
      refine qn ⟨hs45.tail, ?_⟩
      refine dt_done ?_
      refine d_eff rfl ?_
      refine w_alloc (cs := [_, _, _]) want_none Try.zeroValue25 rfl hs45 (fun b46 w47 hs48 => ?_)
      refine w_nil ?_
      refine qn ⟨hs48.tail.tail, ?_⟩
      refine d_eff rfl ?_
      refine w_store (i := 0) (v := .agg #[.int _ _, .slice _ _ _, .slice _ _ _]) (vs := [_, _, _]) want_none Try.sizeOf25 rfl rfl rfl rfl rfl (by simp [Value.oneCell']) hs48 rfl (Nat.le_of_ble_eq_true rfl) (fun w49 hs50 => ?_)
      refine w_nil ?_
      refine qn ⟨hs50.tail.tail, ?_⟩
      refine d_late rfl ?_
      refine w_store (i := 1) (v := .agg #[.int _ _, .slice _ _ _, .slice _ _ _]) (vs := [_, _, _]) want_none Try.sizeOf25 rfl rfl rfl rfl rfl (by simp [Value.oneCell']) hs50 rfl (Nat.le_of_ble_eq_true rfl) (fun w51 hs52 => ?_)
      refine w_nil ?_
      refine qn ?_
      refine d_nil ?_
      refine q_then (hC29 _ _ (Md.intro (by repeat (first | exact agree_refl | exact agree_mix | refine agree_upd rfl ?_ | refine agree_updL rfl ?_ _ | refine agree_mixin rfl ?_)) ?_))
      first
        | exact ⟨_, _, rfl, hs52⟩
        | exact ⟨_, _, rfl, swpK (show St _ _ (_ :: _ :: _) from hs52)⟩
    ·
     intro vs μ w53 hM
     obtain ⟨bz8, bz9, rfl, hs⟩ := hM
     refine q_then (hK27 _ _ ?_)
     refine w_seq (fun K55 hK54 => ?_)
     refine w_cut [32, 33, 34, 35, 36, 37, 38, 39, 40, 41] [] (fun vs w => ∃ bK csK cK bJ csJ cJ, vs = [] ∧ (b.ctrs.length ≤ cK ∧ csK.length = cK * 6 ∧ csK.take (b.ctrs.length * 6) = (krows b.ctrs p.pc).flatten) ∧ (b.ctrs.length ≤ cJ ∧ csJ.length = cJ * 6 ∧ csJ.take (b.ctrs.length * 6) = (krows b.ctrs p.pc).flatten) ∧ St w0 w ((bJ, blk 76 csJ) :: (bK, blk 76 csK) :: (bz9, blk 25 [.int .i64 b.holds, .slice p.ah b.hours.length p.ch, .slice (some ⟨bJ, 0, none⟩) b.ctrs.length cJ]) :: (bz8, blk 25 [.int .i64 b.holds, .slice p.ah b.hours.length p.ch, .slice (some ⟨bK, 0, none⟩) b.ctrs.length cK]) :: (b3, blk 25 (b.cells p)) :: F)) (fun K57 hC56 => ?_) ?_
     ·
      refine w_drawT (C := fun w => St w0 w _) [9, 11] (.two [(1, 0), (2, 1), (5, 0), (6, 1)] 0 4 (.two [] 3 4 (.done [(8, 0), (4, 2), (7, 2), (9, 3), (10, 0), (11, 3)]) (.done [(3, 2), (8, 0), (7, 2), (9, 3), (10, 0), (11, 3)])) (.done [(0, 2), (3, 2), (8, 0), (7, 2), (9, 3), (10, 0), (11, 3)])) Try_mo (by kernel_rfl) hs (fun _ h => h.drew) (fun w58 hs59 => ?_)
      refine dt_two ?_
      refine d_any rfl want_none rfl (fun _ => (y_fieldAddr (o := 2) (i := 2) Try.underlying25 rfl Try.sizeOf23 rfl rfl rfl)) ?_
      refine d_take rfl want_none rfl hs59 (fun _ hq => (y_load1 Try.isAgg23 hq.tail.tail rfl rfl (show Ats _ _ _ _ [_] from Ats.part hbx 2 1))) ?_
      refine d_any rfl want_none rfl (fun _ => (y_fieldAddr (o := 2) (i := 2) Try.underlying25 rfl Try.sizeOf23 rfl rfl rfl)) ?_
      refine d_take rfl want_none rfl hs59 (fun _ hq => (y_load1 Try.isAgg23 hq.tail.tail rfl rfl (show Ats _ _ _ _ [_] from Ats.part hbx 2 1))) ?_
      refine d_two rfl rfl ?_ ?_
      ·
       refine w_bslice (ps := []) (pv := []) (cs := []) want_none rfl rfl (fun w => Try_Zl_fb9  w) hs59 (fun b60 w61 hs62 => ?_)
       refine w_nil ?_
       refine qn ⟨hs62.tail, ?_⟩
       refine dt_two ?_
       refine d_two rfl rfl ?_ ?_
       ·
        refine w_append (X := ([])) (B := [_]) (rows := (krows b.ctrs p.pc)) (sz := 6) (bytes := 88) want_none Try.underlying23 Try_info76 rfl rfl rfl rfl rfl rfl rfl rfl rfl hs62 own_made hm.c.cons.cons.cons.cons (by simp [krows]) hnc (krows_one _ _) (by simp only [maxLen]; omega) (by omega) (fun v63 w64 B65 ho66 hs67 => ?_)
        replace hs67 := (show St _ _ (B65 ++ (_ :: _ :: _ :: F)) from hs67)
        refine w_nil ?_
        refine qn ⟨hs67.drop, ?_⟩
        refine dt_done ?_
        refine d_any rfl want_none rfl (fun _ => (y_fieldAddr (o := 2) (i := 2) Try.underlying25 rfl Try.sizeOf23 rfl rfl rfl)) ?_
        refine d_eff rfl ?_
        refine w_bslice (ps := []) (pv := []) (cs := []) want_none rfl rfl (fun w => Try_Zl_fb9  w) hs67 (fun b68 w69 hs70 => ?_)
        refine w_nil ?_
        refine qn ⟨hs70.tail.drop, ?_⟩
        refine d_eff rfl ?_
        refine w_append (X := ([])) (B := [_]) (rows := (krows b.ctrs p.pc)) (sz := 6) (bytes := 88) want_none Try.underlying23 Try_info76 rfl rfl rfl rfl rfl rfl rfl rfl rfl hs70 own_made hm.c.cons.cons.cons.app.cons (by simp [krows]) hnc (krows_one _ _) (by simp only [maxLen]; omega) (by omega) (fun v71 w72 B73 ho74 hs75 => ?_)
        replace hs75 := (show St _ _ (B73 ++ (B65 ++ (_ :: _ :: _ :: F))) from hs75)
        refine w_nil ?_
        refine qn ⟨hs75.drop.drop, ?_⟩
        have hownK : Rt.Own v63 76 6 b.ctrs.length (krows b.ctrs p.pc).flatten B65 := by
          have h9 := ho66
          rw [Nat.zero_add, List.nil_append] at h9
          exact h9
        obtain ⟨aK, cK, rfl⟩ := hownK.slice
        obtain ⟨bK, csK, rfl, hBK, hcapK, hcapmK, hclK, htkK⟩ := own_some2 hownK (by omega)
        subst hBK
        have hownJ : Rt.Own v71 76 6 b.ctrs.length (krows b.ctrs p.pc).flatten B73 := by
          have h9 := ho74
          rw [Nat.zero_add, List.nil_append] at h9
          exact h9
        obtain ⟨aJ, cJ, rfl⟩ := hownJ.slice
        obtain ⟨bJ, csJ, rfl, hBJ, hcapJ, hcapmJ, hclJ, htkJ⟩ := own_some2 hownJ (by omega)
        subst hBJ
        replace hs75 := (show St _ _ (_ :: _ :: _ :: _ :: _ :: F) from hs75)
        refine d_late rfl ?_
        refine w_store (i := 3) (v := .slice _ _ _) (vs := [_]) want_none Try.sizeOf23 rfl rfl rfl rfl rfl (by simp [Value.oneCell']) hs75 rfl (Nat.le_of_ble_eq_true rfl) (fun w76 hs77 => ?_)
        refine w_nil ?_
        refine qn ?_
        refine d_any rfl want_none rfl (fun _ => (y_fieldAddr (o := 2) (i := 2) Try.underlying25 rfl Try.sizeOf23 rfl rfl rfl)) ?_
        refine d_late rfl ?_
        refine w_store (i := 2) (v := .slice _ _ _) (vs := [_]) want_none Try.sizeOf23 rfl rfl rfl rfl rfl (by simp [Value.oneCell']) hs77 rfl (Nat.le_of_ble_eq_true rfl) (fun w78 hs79 => ?_)
        refine w_nil ?_
        refine qn ?_
        refine d_nil ?_
        refine q_then (hC56 _ _ (Md.intro (by repeat (first | exact agree_refl | exact agree_mix | refine agree_upd rfl ?_ | refine agree_updL rfl ?_ _ | refine agree_mixin rfl ?_)) ?_))
        exact ⟨bK, csK, cK, bJ, csJ, cJ, rfl, ⟨hcapK, hclK, htkK⟩, ⟨hcapJ, hclJ, htkJ⟩, hs79⟩
       ·
        refine w_bslice (ps := []) (pv := []) (cs := []) want_none rfl rfl (fun w => Try_Zl_fb9  w) hs62 (fun b80 w81 hs82 => ?_)
        refine w_nil ?_
        refine qn ⟨hs82.tail.tail, ?_⟩
        refine dt_done ?_
        refine d_eff rfl ?_
        refine w_append (X := (_ :: [])) (B := [_]) (rows := (krows b.ctrs p.pc)) (sz := 6) (bytes := 88) want_none Try.underlying23 Try_info76 rfl rfl rfl rfl rfl rfl rfl rfl rfl hs82 own_made hm.c.cons.cons.cons.cons.cons (by simp [krows]) hnc (krows_one _ _) (by simp only [maxLen]; omega) (by omega) (fun v83 w84 B85 ho86 hs87 => ?_)
        replace hs87 := (show St _ _ (_ :: B85 ++ (_ :: _ :: _ :: F)) from hs87)
        refine w_nil ?_
        refine qn ⟨hs87.tail.drop, ?_⟩
        refine d_any rfl want_none rfl (fun _ => (y_fieldAddr (o := 2) (i := 2) Try.underlying25 rfl Try.sizeOf23 rfl rfl rfl)) ?_
        refine d_eff rfl ?_
        refine w_append (X := ([])) (B := [_]) (rows := (krows b.ctrs p.pc)) (sz := 6) (bytes := 88) want_none Try.underlying23 Try_info76 rfl rfl rfl rfl rfl rfl rfl rfl rfl hs87 own_made hm.c.cons.cons.cons.app.cons (by simp [krows]) hnc (krows_one _ _) (by simp only [maxLen]; omega) (by omega) (fun v88 w89 B90 ho91 hs92 => ?_)
        replace hs92 := (show St _ _ (B90 ++ (B85 ++ (_ :: _ :: _ :: F))) from hs92)
        refine w_nil ?_
        refine qn ⟨hs92.drop.drop, ?_⟩
        have hownK : Rt.Own v83 76 6 b.ctrs.length (krows b.ctrs p.pc).flatten B85 := by
          have h9 := ho86
          rw [Nat.zero_add, List.nil_append] at h9
          exact h9
        obtain ⟨aK, cK, rfl⟩ := hownK.slice
        obtain ⟨bK, csK, rfl, hBK, hcapK, hcapmK, hclK, htkK⟩ := own_some2 hownK (by omega)
        subst hBK
        have hownJ : Rt.Own v88 76 6 b.ctrs.length (krows b.ctrs p.pc).flatten B90 := by
          have h9 := ho91
          rw [Nat.zero_add, List.nil_append] at h9
          exact h9
        obtain ⟨aJ, cJ, rfl⟩ := hownJ.slice
        obtain ⟨bJ, csJ, rfl, hBJ, hcapJ, hcapmJ, hclJ, htkJ⟩ := own_some2 hownJ (by omega)
        subst hBJ
        replace hs92 := (show St _ _ (_ :: _ :: _ :: _ :: _ :: F) from hs92)
        refine d_late rfl ?_
        refine w_store (i := 3) (v := .slice _ _ _) (vs := [_]) want_none Try.sizeOf23 rfl rfl rfl rfl rfl (by simp [Value.oneCell']) hs92 rfl (Nat.le_of_ble_eq_true rfl) (fun w93 hs94 => ?_)
        refine w_nil ?_
        refine qn ?_
        refine d_any rfl want_none rfl (fun _ => (y_fieldAddr (o := 2) (i := 2) Try.underlying25 rfl Try.sizeOf23 rfl rfl rfl)) ?_
        refine d_late rfl ?_
        refine w_store (i := 2) (v := .slice _ _ _) (vs := [_]) want_none Try.sizeOf23 rfl rfl rfl rfl rfl (by simp [Value.oneCell']) hs94 rfl (Nat.le_of_ble_eq_true rfl) (fun w95 hs96 => ?_)
        refine w_nil ?_
        refine qn ?_
        refine d_nil ?_
        refine q_then (hC56 _ _ (Md.intro (by repeat (first | exact agree_refl | exact agree_mix | refine agree_upd rfl ?_ | refine agree_updL rfl ?_ _ | refine agree_mixin rfl ?_)) ?_))
        exact ⟨bK, csK, cK, bJ, csJ, cJ, rfl, ⟨hcapK, hclK, htkK⟩, ⟨hcapJ, hclJ, htkJ⟩, hs96⟩
      ·
       refine w_bslice (ps := []) (pv := []) (cs := []) want_none rfl rfl (fun w => Try_Zl_fb9  w) hs59 (fun b97 w98 hs99 => ?_)
       refine w_nil ?_
       refine qn ⟨hs99.tail, ?_⟩
       refine dt_done ?_
       refine d_eff rfl ?_
       refine w_bslice (ps := []) (pv := []) (cs := []) want_none rfl rfl (fun w => Try_Zl_fb9  w) hs99 (fun b100 w101 hs102 => ?_)
       refine w_nil ?_
       refine qn ⟨hs102.tail.tail, ?_⟩
       refine d_eff rfl ?_
       refine w_append (X := ([])) (B := [_]) (rows := (krows b.ctrs p.pc)) (sz := 6) (bytes := 88) want_none Try.underlying23 Try_info76 rfl rfl rfl rfl rfl rfl rfl rfl rfl hs102 own_made hm.c.cons.cons.cons.cons.cons (by simp [krows]) hnc (krows_one _ _) (by simp only [maxLen]; omega) (by omega) (fun v103 w104 B105 ho106 hs107 => ?_)
       replace hs107 := (show St _ _ (B105 ++ (_ :: _ :: _ :: _ :: F)) from hs107)
       refine w_nil ?_
       refine qn ⟨hs107.drop.tail, ?_⟩
       refine d_any rfl want_none rfl (fun _ => (y_fieldAddr (o := 2) (i := 2) Try.underlying25 rfl Try.sizeOf23 rfl rfl rfl)) ?_
       refine d_eff rfl ?_
       refine w_append (X := (B105)) (B := [_]) (rows := (krows b.ctrs p.pc)) (sz := 6) (bytes := 88) want_none Try.underlying23 Try_info76 rfl rfl rfl rfl rfl rfl rfl rfl rfl hs107 own_made hm.c.cons.cons.cons.cons.app (by simp [krows]) hnc (krows_one _ _) (by simp only [maxLen]; omega) (by omega) (fun v108 w109 B110 ho111 hs112 => ?_)
       replace hs112 := (show St _ _ (B105 ++ (B110 ++ (_ :: _ :: _ :: F))) from hs112)
       refine w_nil ?_
       refine qn ⟨hs112.drop.drop, ?_⟩
       have hownK : Rt.Own v103 76 6 b.ctrs.length (krows b.ctrs p.pc).flatten B105 := by
         have h9 := ho106
         rw [Nat.zero_add, List.nil_append] at h9
         exact h9
       obtain ⟨aK, cK, rfl⟩ := hownK.slice
       obtain ⟨bK, csK, rfl, hBK, hcapK, hcapmK, hclK, htkK⟩ := own_some2 hownK (by omega)
       subst hBK
       have hownJ : Rt.Own v108 76 6 b.ctrs.length (krows b.ctrs p.pc).flatten B110 := by
         have h9 := ho111
         rw [Nat.zero_add, List.nil_append] at h9
         exact h9
       obtain ⟨aJ, cJ, rfl⟩ := hownJ.slice
       obtain ⟨bJ, csJ, rfl, hBJ, hcapJ, hcapmJ, hclJ, htkJ⟩ := own_some2 hownJ (by omega)
       subst hBJ
       replace hs112 := (show St _ _ (_ :: _ :: _ :: _ :: _ :: F) from hs112)
       refine d_late rfl ?_
       refine w_store (i := 3) (v := .slice _ _ _) (vs := [_]) want_none Try.sizeOf23 rfl rfl rfl rfl rfl (by simp [Value.oneCell']) hs112 rfl (Nat.le_of_ble_eq_true rfl) (fun w113 hs114 => ?_)
       refine w_nil ?_
       refine qn ?_
       refine d_any rfl want_none rfl (fun _ => (y_fieldAddr (o := 2) (i := 2) Try.underlying25 rfl Try.sizeOf23 rfl rfl rfl)) ?_
       refine d_late rfl ?_
       refine w_store (i := 2) (v := .slice _ _ _) (vs := [_]) want_none Try.sizeOf23 rfl rfl rfl rfl rfl (by simp [Value.oneCell']) hs114 rfl (Nat.le_of_ble_eq_true rfl) (fun w115 hs116 => ?_)
       refine w_nil ?_
       refine qn ?_
       refine d_nil ?_
       refine q_then (hC56 _ _ (Md.intro (by repeat (first | exact agree_refl | exact agree_mix | refine agree_upd rfl ?_ | refine agree_updL rfl ?_ _ | refine agree_mixin rfl ?_)) ?_))
       exact ⟨bK, csK, cK, bJ, csJ, cJ, rfl, ⟨hcapK, hclK, htkK⟩, ⟨hcapJ, hclJ, htkJ⟩, swpK (show St _ _ (_ :: _ :: _) from hs116)⟩
     ·
      intro vs μ w117 hM
      obtain ⟨bK, csK, cK, bJ, csJ, cJ, rfl, ⟨hcapK, hclK, htkK⟩, ⟨hcapJ, hclJ, htkJ⟩, hs⟩ := hM
      refine q_then (hK54 _ _ ?_)
      refine w_seq (fun K119 hK118 => ?_)
      have hzmu := Int.emod_nonneg e0 (show (b.ctrs.length : Int) ≠ 0 by omega)
      have hzlu := Int.emod_lt_of_pos e0 (show 0 < (b.ctrs.length : Int) by omega)
      obtain ⟨u, hu⟩ : ∃ u : Nat, e0 % (b.ctrs.length : Int) = (u : Int) := ⟨(e0 % (b.ctrs.length : Int)).toNat, by omega⟩
      have hu2 : u < b.ctrs.length := by omega
      rw [hu]
      have hcu := hok.ctr _ (List.getElem_mem hu2)
      have hst := hcu.start
      have hls := hcu.ls
      obtain ⟨bq, oq, hbq, hrow⟩ := sl_krows hm.c (i := u) hu2
      refine w_region ?_
      refine w_p (y_fieldAddr (o := 2) (i := 2) Try.underlying25 rfl Try.sizeOf23 rfl rfl rfl) rfl ?_
      refine w_p (yd_slice hbq (y_load1 Try.isAgg23 hs.tail.tail.tail.tail rfl rfl (show Ats _ _ _ _ [_] from Ats.part hbx 2 1))) rfl ?_
      refine w_p (y_move (v := .int _ _) rfl rfl) rfl ?_
      refine w_p (y_indexS Try.underlying23 Try.sizeOf76 rfl rfl rfl rfl (i := u) rfl hu2) rfl ?_
      refine w_p (y_loadN (vs := [_, _, _, _, _, _]) Try.isAgg76 Try.sizeOf76 hs.tail.tail.tail.tail.tail rfl rfl hrow) rfl ?_
      refine w_alloc (cs := [_, _, _, _, _, _]) want_none Try.zeroValue76 rfl hs (fun b120 w121 hs122 => ?_)
      refine w_store (i := 0) (v := .agg #[.string _, .int _ _, .int _ _, .int _ _, .slice _ _ _, .slice _ _ _]) (vs := [_, _, _, _, _, _]) want_none Try.sizeOf76 rfl rfl rfl rfl rfl (by simp [Value.oneCell']) hs122 rfl (Nat.le_of_ble_eq_true rfl) (fun w123 hs124 => ?_)
      refine w_nil ?_
      refine q_then (hK118 _ _ ?_)
      refine w_seq (fun K126 hK125 => ?_)
      refine w_region ?_
      refine w_p (y_fieldAddr (o := 1) (i := 1) Try.underlying25 rfl Try.sizeOf22 rfl rfl rfl) rfl ?_
      refine w_p (y_load1 Try.isAgg22 hs124.tail.tail.tail.tail.tail rfl rfl (show Ats _ _ _ _ [_] from Ats.part hbx 1 1)) rfl ?_
      refine w_p (y_lenS Try.underlying22 rfl rfl) rfl ?_
      refine w_makeInts (k := b.hours.length) want_none Try.underlying39 Try_info3 rfl rfl (by omega) rfl rfl rfl rfl rfl hs124 (fun b127 w128 hs129 => ?_)
      refine w_p (y_fieldAddr (o := 4) (i := 4) Try.underlying76 rfl Try.sizeOf39 rfl rfl rfl) rfl ?_
      refine w_store (i := 1) (v := .slice _ _ _) (vs := [_]) want_none Try.sizeOf39 rfl rfl rfl rfl rfl (by simp [Value.oneCell']) hs129 rfl (Nat.le_of_ble_eq_true rfl) (fun w130 hs131 => ?_)
      refine w_nil ?_
      refine q_then (hK125 _ _ ?_)
      refine w_seq (fun K133 hK132 => ?_)
      refine w_region ?_
      refine w_p (y_fieldAddr (o := 2) (i := 2) Try.underlying25 rfl Try.sizeOf23 rfl rfl rfl) rfl ?_
      refine w_p (y_load1 Try.isAgg23 hs131 rfl rfl (ats_own (i := 5) (vs := [_]) rfl rfl)) rfl ?_
      refine w_p (y_move (v := .int _ _) rfl rfl) rfl ?_
      refine w_p (y_loadN (vs := [_, _, _, _, _, _]) Try.isAgg76 Try.sizeOf76 hs131 rfl rfl (ats_own (i := 1) (vs := [_, _, _, _, _, _]) rfl rfl)) rfl ?_
      refine w_p (y_indexS Try.underlying23 Try.sizeOf76 rfl rfl rfl rfl (i := u) rfl hu2) rfl ?_
      refine w_store (i := 3) (v := .agg #[_, _, _, _, _, _]) (vs := [_, _, _, _, _, _]) want_none Try.sizeOf76 rfl rfl rfl rfl rfl (by simp [Value.oneCell']) hs131 rfl (show 0 + u * 6 + 6 ≤ csK.length by omega) (fun w134 hs135 => ?_)
      replace hs135 := (show St _ _ (_ :: _ :: _ :: (bK, blk 76 (setMany csK (u * 6) [.string (b.ctrs[u]'hu2).name, .int .i64 (b.ctrs[u]'hu2).skip, .int .i64 (b.ctrs[u]'hu2).twice, .int .i64 (b.ctrs[u]'hu2).start, .slice (some ⟨b127, 0, none⟩) b.hours.length b.hours.length, .slice (p.pc u).as (b.ctrs[u]'hu2).shown.length (p.pc u).cs])) :: _ :: _ :: _ :: F) from (by have h6 := hs135; simp only [Nat.zero_add] at h6; exact h6))
      refine w_nil ?_
      refine q_then (hK132 _ _ ?_)
      refine w_seq (fun K137 hK136 => ?_)
      refine w_region ?_
      refine w_p (y_fieldAddr (o := 3) (i := 3) Try.underlying76 rfl Try.sizeOf3 rfl rfl rfl) rfl ?_
      refine w_p (y_load1 Try.isAgg3 hs135 rfl rfl (ats_own (i := 1) (vs := [_]) rfl rfl)) rfl ?_
      refine w_p (y_move (v := .int _ _) rfl rfl) rfl ?_
      refine w_p (y_u8int (by rw [Try.underlying5]; rfl) Try.underlying3 rfl rfl (by omega) (by omega)) rfl ?_
      refine w_p (y_add rfl rfl rfl rfl (by omega) (by omega)) rfl ?_
      refine w_p (y_rem rfl rfl rfl rfl (by omega) (by omega)) rfl ?_
      refine w_p (y_fieldAddr (o := 3) (i := 3) Try.underlying76 rfl Try.sizeOf3 rfl rfl rfl) rfl ?_
      refine w_store (i := 1) (v := .int _ _) (vs := [_]) want_none Try.sizeOf3 rfl rfl rfl rfl rfl (by simp [Value.oneCell']) hs135 rfl (Nat.le_of_ble_eq_true rfl) (fun w138 hs139 => ?_)
      refine w_nil ?_
      refine q_then (hK136 _ _ ?_)
      refine w_seq (fun K141 hK140 => ?_)
      refine w_region ?_
      refine w_p (y_assign (v := _) rfl rfl) rfl ?_
      refine w_nil ?_
      refine q_then (hK140 _ _ ?_)
      refine w_seq (fun K143 hK142 => ?_)
      refine w_seq (fun K145 hK144 => ?_)
      refine w_region ?_
      refine w_p (y_assign (v := _) rfl rfl) rfl ?_
      refine w_nil ?_
      refine q_then (hK144 _ _ ?_)
      refine w_block ?_
      refine w_loop [11, 12, 13, 64, 65, 66, 67, 68, 69, 70, 71, 72, 73, 74, 75, 76, 77, 78, 79, 80, 81, 82, 83, 84, 85, 86] [11, 12] (fun k vs0 w => ∃ (i : Nat) (vs : Value) (SQ : List (Nat × Obj)), vs0 = [vs, .int .i64 i] ∧ i ≤ (b.ctrs[u]'hu2).shown.length ∧ k = (b.ctrs[u]'hu2).shown.length - i ∧ Rt.Own vs 3 1 i (iv (((b.ctrs[u]'hu2).shown.take i).map (moreOf e1))) SQ ∧ St w0 w ((b127, blk 3 (iv (List.replicate b.hours.length 0))) :: (b120, blk 76 [.string (b.ctrs[u]'hu2).name, .int .i64 (b.ctrs[u]'hu2).skip, .int .i64 (b.ctrs[u]'hu2).twice, .int .i64 (((b.ctrs[u]'hu2).start + e1) % 100), .slice (some ⟨b127, 0, none⟩) b.hours.length b.hours.length, .slice (p.pc u).as (b.ctrs[u]'hu2).shown.length (p.pc u).cs]) :: (bJ, blk 76 csJ) :: (bK, blk 76 (setMany csK (u * 6) [.string (b.ctrs[u]'hu2).name, .int .i64 (b.ctrs[u]'hu2).skip, .int .i64 (b.ctrs[u]'hu2).twice, .int .i64 (b.ctrs[u]'hu2).start, .slice (some ⟨b127, 0, none⟩) b.hours.length b.hours.length, .slice (p.pc u).as (b.ctrs[u]'hu2).shown.length (p.pc u).cs])) :: (bz9, blk 25 [.int .i64 b.holds, .slice p.ah b.hours.length p.ch, .slice (some ⟨bJ, 0, none⟩) b.ctrs.length cJ]) :: (bz8, blk 25 [.int .i64 b.holds, .slice p.ah b.hours.length p.ch, .slice (some ⟨bK, 0, none⟩) b.ctrs.length cK]) :: (SQ ++ ((b3, blk 25 (b.cells p)) :: F)))) ((b.ctrs[u]'hu2).shown.length) ?_ ?_
      ·
       exact ⟨0, _, [], rfl, by omega, by omega, own_nil 3 1, hs139⟩
      ·
       intro k vs μ w148 hI K147 hN146
       obtain ⟨i, vs, SQ, rfl, hia, rfl, hoS, hs⟩ := hI
       refine w_seq (fun K150 hK149 => ?_)
       refine w_seq (fun K152 hK151 => ?_)
       refine w_region ?_
       refine w_p (y_move (v := .int _ _) rfl rfl) rfl ?_
       refine w_p (y_fieldAddr (o := 5) (i := 5) Try.underlying76 rfl Try.sizeOf39 rfl rfl rfl) rfl ?_
       refine w_p (y_load1 Try.isAgg39 hs rfl rfl (ats_own (i := 1) (vs := [_]) rfl rfl)) rfl ?_
       refine w_p (y_lenS Try.underlying39 rfl rfl) rfl ?_
       refine w_p (y_lss rfl rfl rfl rfl) rfl ?_
       refine w_nil ?_
       refine q_then (hK151 _ _ ?_)
       refine w_cond rfl rfl (fun h153 => ?_) (fun h153 => ?_)
       ·
        try simp only [zA, zB, zC, zD, zE, zF] at h153
        refine w_skip ?_
        refine q_then (hK149 _ _ ?_)
        refine w_seq (fun K155 hK154 => ?_)
        refine w_block ?_
        refine w_seq (fun K157 hK156 => ?_)
        have hi2 : i < (b.ctrs[u]'hu2).shown.length := by omega
        obtain ⟨bs, os, hbs, hsx⟩ := sl_ints (hm.s u hu2) hi2
        have hsn := hcu.shown _ (List.getElem_mem hi2)
        refine w_region ?_
        refine w_p (y_fieldAddr (o := 5) (i := 5) Try.underlying76 rfl Try.sizeOf39 rfl rfl rfl) rfl ?_
        refine w_p (yd_slice hbs (y_load1 Try.isAgg39 hs rfl rfl (ats_own (i := 1) (vs := [_]) rfl rfl))) rfl ?_
        refine w_p (y_move (v := .int _ _) rfl rfl) rfl ?_
        refine w_p (y_indexS Try.underlying39 Try.sizeOf3 rfl rfl rfl rfl (i := i) rfl hi2) rfl ?_
        refine w_p (y_load1 Try.isAgg3 hs.tail.tail.tail.tail.tail.tail.drop.tail rfl rfl hsx) rfl ?_
        refine w_p (y_assign (v := .int _ _) rfl rfl) rfl ?_
        refine w_nil ?_
        refine q_then (hK156 _ _ ?_)
        refine w_seq (fun K159 hK158 => ?_)
        refine w_cut [13, 76, 77, 78, 79, 80, 81, 82] [13] (fun vs w => vs = [.int .i64 (moreOf e1 ((b.ctrs[u]'hu2).shown[i]'hi2))] ∧ St w0 w ((b127, blk 3 (iv (List.replicate b.hours.length 0))) :: (b120, blk 76 [.string (b.ctrs[u]'hu2).name, .int .i64 (b.ctrs[u]'hu2).skip, .int .i64 (b.ctrs[u]'hu2).twice, .int .i64 (((b.ctrs[u]'hu2).start + e1) % 100), .slice (some ⟨b127, 0, none⟩) b.hours.length b.hours.length, .slice (p.pc u).as (b.ctrs[u]'hu2).shown.length (p.pc u).cs]) :: (bJ, blk 76 csJ) :: (bK, blk 76 (setMany csK (u * 6) [.string (b.ctrs[u]'hu2).name, .int .i64 (b.ctrs[u]'hu2).skip, .int .i64 (b.ctrs[u]'hu2).twice, .int .i64 (b.ctrs[u]'hu2).start, .slice (some ⟨b127, 0, none⟩) b.hours.length b.hours.length, .slice (p.pc u).as (b.ctrs[u]'hu2).shown.length (p.pc u).cs])) :: (bz9, blk 25 [.int .i64 b.holds, .slice p.ah b.hours.length p.ch, .slice (some ⟨bJ, 0, none⟩) b.ctrs.length cJ]) :: (bz8, blk 25 [.int .i64 b.holds, .slice p.ah b.hours.length p.ch, .slice (some ⟨bK, 0, none⟩) b.ctrs.length cK]) :: (SQ ++ ((b3, blk 25 (b.cells p)) :: F)))) (fun K161 hC160 => ?_) ?_
        ·
         refine w_seq (fun K163 hK162 => ?_)
         refine w_region ?_
         refine w_p (y_move (v := .int _ _) rfl rfl) rfl ?_
         refine w_p (y_neq rfl rfl rfl rfl) rfl ?_
         refine w_nil ?_
         refine q_then (hK162 _ _ ?_)
         refine w_cond rfl rfl (fun h164 => ?_) (fun h164 => ?_)
         ·
          try simp only [zA, zB, zC, zD, zE, zF] at h164
          refine w_region ?_
          refine w_p (y_move (v := .int _ _) rfl rfl) rfl ?_
          refine w_p (y_move (v := .int _ _) rfl rfl) rfl ?_
          refine w_p (y_u8int (by rw [Try.underlying5]; rfl) Try.underlying3 rfl rfl (by omega) (by omega)) rfl ?_
          refine w_p (y_add rfl rfl rfl rfl (by omega) (by omega)) rfl ?_
          refine w_p (y_rem rfl rfl rfl rfl (by omega) (by omega)) rfl ?_
          refine w_p (y_assign (v := .int _ _) rfl rfl) rfl ?_
          refine w_nil ?_
          refine q_then (hC160 _ _ (Md.intro (by repeat (first | exact agree_refl | exact agree_mix | refine agree_upd rfl ?_ | refine agree_updL rfl ?_ _ | refine agree_mixin rfl ?_)) ?_))
          first
            | exact ⟨congrArg (fun z => [Value.int .i64 z]) (more_y (by omega)), hs⟩
            | exact ⟨congrArg (fun z => [Value.int .i64 z]) (more_n (by omega)), hs⟩
         ·
          try simp only [zA, zB, zC, zD, zE, zF] at h164
          refine w_skip ?_
          refine q_then (hC160 _ _ (Md.intro (by repeat (first | exact agree_refl | exact agree_mix | refine agree_upd rfl ?_ | refine agree_updL rfl ?_ _ | refine agree_mixin rfl ?_)) ?_))
          first
            | exact ⟨congrArg (fun z => [Value.int .i64 z]) (more_y (by omega)), hs⟩
            | exact ⟨congrArg (fun z => [Value.int .i64 z]) (more_n (by omega)), hs⟩
        ·
         intro vs μ w165 hM
         obtain ⟨rfl, hs⟩ := hM
         have hmi := moreOf_in (m := e1) hsn
         refine q_then (hK158 _ _ ?_)
         refine w_region ?_
         refine w_p (y_move (v := vs) rfl rfl) rfl ?_
         refine w_p (y_move (v := .int _ _) rfl rfl) rfl ?_
         refine w_bslice (ps := [(0, _)]) (pv := [(0, .int _ _)]) (cs := [_]) want_none rfl rfl (fun w => Try_Zl_fb10 _ w) hs (fun b166 w167 hs168 => ?_)
         refine w_append (X := (_ :: _ :: _ :: _ :: _ :: _ :: _ :: [])) (B := SQ) (rows := [[_]]) (sz := 1) (bytes := 8) want_none Try.underlying39 Try_info3 rfl rfl rfl rfl rfl rfl rfl rfl rfl hs168 hoS (sl_own (i := 0) (b := b166) (t := 3) (cs := [_]) (rows := [[_]]) rfl (by simp) rfl) rfl (by simp) (by simp [Value.oneCell']) (by simp only [maxLen]; omega) (by omega) (fun v169 w170 B171 ho172 hs173 => ?_)
         replace hs173 := (show St _ _ (_ :: _ :: _ :: _ :: _ :: _ :: _ :: B171 ++ (_ :: F)) from hs173)
         refine w_p (y_assign (v := v169) rfl rfl) rfl ?_
         refine w_nil ?_
         refine q_blk_normal ?_
         refine q_then (hK154 _ _ ?_)
         refine w_region ?_
         refine w_p (y_move (v := .int _ _) rfl rfl) rfl ?_
         refine w_p (y_add rfl rfl rfl rfl (by omega) (by omega)) rfl ?_
         refine w_p (y_assign (v := .int _ _) rfl rfl) rfl ?_
         refine w_nil ?_
         refine q_then (hN146 _ _ (Nx.intro ((b.ctrs[u]'hu2).shown.length - (i + 1)) (by omega) (by repeat (first | exact agree_mix | refine agree_upd rfl ?_ | refine agree_updL rfl ?_ _ | refine agree_mixin rfl ?_)) ?_))
         exact ⟨i + 1, _, _, rfl, by omega, rfl, own_more hi2 ho172, hs173.tail⟩
       ·
        try simp only [zA, zB, zC, zD, zE, zF] at h153
        refine w_exit ?_
        refine q_then_exit ?_
        refine q_then_exit ?_
        refine q_blk_this ?_
        refine q_then (hK142 _ _ ?_)
        refine w_seq (fun K175 hK174 => ?_)
        have hin : i = (b.ctrs[u]'hu2).shown.length := by omega
        subst hin
        rw [List.take_length] at hoS
        obtain ⟨aS, cS, rfl⟩ := hoS.slice
        refine w_region ?_
        refine w_p (y_move (v := .slice _ _ _) rfl rfl) rfl ?_
        refine w_p (y_fieldAddr (o := 5) (i := 5) Try.underlying76 rfl Try.sizeOf39 rfl rfl rfl) rfl ?_
        refine w_store (i := 1) (v := .slice _ _ _) (vs := [_]) want_none Try.sizeOf39 rfl rfl rfl rfl rfl (by simp [Value.oneCell']) hs rfl (Nat.le_of_ble_eq_true rfl) (fun w176 hs177 => ?_)
        refine w_nil ?_
        refine q_then (hK174 _ _ ?_)
        refine w_seq (fun K179 hK178 => ?_)
        refine w_region ?_
        refine w_p (y_fieldAddr (o := 2) (i := 2) Try.underlying25 rfl Try.sizeOf23 rfl rfl rfl) rfl ?_
        refine w_p (y_load1 Try.isAgg23 hs177 rfl rfl (ats_own (i := 4) (vs := [_]) rfl rfl)) rfl ?_
        refine w_p (y_move (v := .int _ _) rfl rfl) rfl ?_
        refine w_p (y_loadN (vs := [_, _, _, _, _, _]) Try.isAgg76 Try.sizeOf76 hs177 rfl rfl (ats_own (i := 1) (vs := [_, _, _, _, _, _]) rfl rfl)) rfl ?_
        refine w_p (y_indexS Try.underlying23 Try.sizeOf76 rfl rfl rfl rfl (i := u) rfl hu2) rfl ?_
        refine w_store (i := 2) (v := .agg #[_, _, _, _, _, _]) (vs := [_, _, _, _, _, _]) want_none Try.sizeOf76 rfl rfl rfl rfl rfl (by simp [Value.oneCell']) hs177 rfl (show 0 + u * 6 + 6 ≤ csJ.length by omega) (fun w180 hs181 => ?_)
        replace hs181 := (show St _ _ (_ :: _ :: (bJ, blk 76 (setMany csJ (u * 6) [.string (b.ctrs[u]'hu2).name, .int .i64 (b.ctrs[u]'hu2).skip, .int .i64 (b.ctrs[u]'hu2).twice, .int .i64 (((b.ctrs[u]'hu2).start + e1) % 100), .slice (some ⟨b127, 0, none⟩) b.hours.length b.hours.length, .slice aS (b.ctrs[u]'hu2).shown.length cS])) :: _ :: _ :: _ :: SQ ++ (_ :: F)) from (by have h6 := hs181; simp only [Nat.zero_add] at h6; exact h6))
        refine w_nil ?_
        refine q_then (hK178 _ _ ?_)
        refine w_seq (fun K183 hK182 => ?_)
        have hkpK : (setMany csK (u * 6) [.string (b.ctrs[u]'hu2).name, .int .i64 (b.ctrs[u]'hu2).skip, .int .i64 (b.ctrs[u]'hu2).twice, .int .i64 (b.ctrs[u]'hu2).start, .slice (some ⟨b127, 0, none⟩) b.hours.length b.hours.length, .slice (p.pc u).as (b.ctrs[u]'hu2).shown.length (p.pc u).cs]).take (b.ctrs.length * 6) = (krows (b.ctrs.set u (still b.hours.length (b.ctrs[u]'hu2))) (fun j => if j = u then (⟨some ⟨b127, 0, none⟩, b.hours.length, (p.pc u).as, (p.pc u).cs⟩ : AtC) else p.pc j)).flatten := by
          rw [setMany_rows (rows := krows b.ctrs p.pc) (krows_len _ _) (krows_row _ _) (by rw [krows_len]; exact hu2) rfl htkK, krows_put2 (d := (still b.hours.length (b.ctrs[u]'hu2))) (at_ := (⟨some ⟨b127, 0, none⟩, b.hours.length, (p.pc u).as, (p.pc u).cs⟩ : AtC)) hu2 (by simp [Ctr.cells, still])]
        have hkpJ : (setMany csJ (u * 6) [.string (b.ctrs[u]'hu2).name, .int .i64 (b.ctrs[u]'hu2).skip, .int .i64 (b.ctrs[u]'hu2).twice, .int .i64 (((b.ctrs[u]'hu2).start + e1) % 100), .slice (some ⟨b127, 0, none⟩) b.hours.length b.hours.length, .slice aS (b.ctrs[u]'hu2).shown.length cS]).take (b.ctrs.length * 6) = (krows (b.ctrs.set u (shifted b.hours.length e1 (b.ctrs[u]'hu2))) (fun j => if j = u then (⟨some ⟨b127, 0, none⟩, b.hours.length, aS, cS⟩ : AtC) else p.pc j)).flatten := by
          rw [setMany_rows (rows := krows b.ctrs p.pc) (krows_len _ _) (krows_row _ _) (by rw [krows_len]; exact hu2) rfl htkJ, krows_put2 (d := (shifted b.hours.length e1 (b.ctrs[u]'hu2))) (at_ := (⟨some ⟨b127, 0, none⟩, b.hours.length, aS, cS⟩ : AtC)) hu2 (by simp [Ctr.cells, shifted])]
        have hoSs := own_int_sl (w0 := w0) hoS (by simp)
        have hcK : (setC b u (still b.hours.length (b.ctrs[u]'hu2))).cells (⟨p.ah, p.ch, some ⟨bK, 0, none⟩, cK, fun j => if j = u then (⟨some ⟨b127, 0, none⟩, b.hours.length, (p.pc u).as, (p.pc u).cs⟩ : AtC) else p.pc j⟩ : AtB) = [.int .i64 b.holds, .slice p.ah b.hours.length p.ch, .slice (some ⟨bK, 0, none⟩) b.ctrs.length cK] := by simp [Board.cells, setC]
        have hcJ : (setC b u (shifted b.hours.length e1 (b.ctrs[u]'hu2))).cells (⟨p.ah, p.ch, some ⟨bJ, 0, none⟩, cJ, fun j => if j = u then (⟨some ⟨b127, 0, none⟩, b.hours.length, aS, cS⟩ : AtC) else p.pc j⟩ : AtB) = [.int .i64 b.holds, .slice p.ah b.hours.length p.ch, .slice (some ⟨bJ, 0, none⟩) b.ctrs.length cJ] := by simp [Board.cells, setC]
        obtain ⟨Z, hZ, hsZ⟩ := gen_Z hs181
        have hb8 : Ats w0 Z bz8 0 ((setC b u (still b.hours.length (b.ctrs[u]'hu2))).cells (⟨p.ah, p.ch, some ⟨bK, 0, none⟩, cK, fun j => if j = u then (⟨some ⟨b127, 0, none⟩, b.hours.length, (p.pc u).as, (p.pc u).cs⟩ : AtC) else p.pc j⟩ : AtB)) := by rw [hZ]; exact ats_castW (ats_ofL (i := 5) (vs := [.int .i64 b.holds, .slice p.ah b.hours.length p.ch, .slice (some ⟨bK, 0, none⟩) b.ctrs.length cK]) hs181 rfl rfl) hcK
        have hb9 : Ats w0 Z bz9 0 ((setC b u (shifted b.hours.length e1 (b.ctrs[u]'hu2))).cells (⟨p.ah, p.ch, some ⟨bJ, 0, none⟩, cJ, fun j => if j = u then (⟨some ⟨b127, 0, none⟩, b.hours.length, aS, cS⟩ : AtC) else p.pc j⟩ : AtB)) := by rw [hZ]; exact ats_castW (ats_ofL (i := 4) (vs := [.int .i64 b.holds, .slice p.ah b.hours.length p.ch, .slice (some ⟨bJ, 0, none⟩) b.ctrs.length cJ]) hs181 rfl rfl) hcJ
        have hmZ : BIn w0 Z b p := by rw [hZ]; exact hm.cons.app.cons.cons.cons.cons.cons.cons
        have hsK : Sl w0 Z (some ⟨bK, 0, none⟩) 6 (krows (b.ctrs.set u (still b.hours.length (b.ctrs[u]'hu2))) (fun j => if j = u then (⟨some ⟨b127, 0, none⟩, b.hours.length, (p.pc u).as, (p.pc u).cs⟩ : AtC) else p.pc j)) := by rw [hZ]; exact sl_own (i := 3) rfl (krows_row _ _) (by rw [krows_len, List.length_set]; exact hkpK)
        have hsJ : Sl w0 Z (some ⟨bJ, 0, none⟩) 6 (krows (b.ctrs.set u (shifted b.hours.length e1 (b.ctrs[u]'hu2))) (fun j => if j = u then (⟨some ⟨b127, 0, none⟩, b.hours.length, aS, cS⟩ : AtC) else p.pc j)) := by rw [hZ]; exact sl_own (i := 2) rfl (krows_row _ _) (by rw [krows_len, List.length_set]; exact hkpJ)
        have hMZ : Sl w0 Z (some ⟨b127, 0, none⟩) 1 ((List.replicate b.hours.length (0 : Int)).map fun x => [Value.int .i64 x]) := by rw [hZ]; exact sl_ints_own (i := 0) rfl
        have hSZ : Sl w0 Z aS 1 ((shifted b.hours.length e1 (b.ctrs[u]'hu2)).shown.map fun x => [Value.int .i64 x]) := by rw [hZ]; exact hoSs.1.top.cons.cons.cons.cons.cons.cons
        have hmY : BIn w0 Z (setC b u (still b.hours.length (b.ctrs[u]'hu2))) (⟨p.ah, p.ch, some ⟨bK, 0, none⟩, cK, fun j => if j = u then (⟨some ⟨b127, 0, none⟩, b.hours.length, (p.pc u).as, (p.pc u).cs⟩ : AtC) else p.pc j⟩ : AtB) := set_bin2 (at_ := (⟨some ⟨b127, 0, none⟩, b.hours.length, (p.pc u).as, (p.pc u).cs⟩ : AtC)) hmZ hu2 hsK hMZ (hmZ.s u hu2) ⟨by simp [still]; omega, by simp [still]⟩ (hm.ls u hu2) rfl hcapK
        have hmX : BIn w0 Z (setC b u (shifted b.hours.length e1 (b.ctrs[u]'hu2))) (⟨p.ah, p.ch, some ⟨bJ, 0, none⟩, cJ, fun j => if j = u then (⟨some ⟨b127, 0, none⟩, b.hours.length, aS, cS⟩ : AtC) else p.pc j⟩ : AtB) := set_bin2 (at_ := (⟨some ⟨b127, 0, none⟩, b.hours.length, aS, cS⟩ : AtC)) hmZ hu2 hsJ hMZ hSZ ⟨by simp [shifted]; omega, by simp [shifted]⟩ ⟨by simp [shifted]; omega, by simpa [shifted] using hoSs.2⟩ rfl hcapJ
        have hcY := setC_check hck hu2 (d := (still b.hours.length (b.ctrs[u]'hu2))) rfl (still_ok hcu)
        have hcX := setC_check hck hu2 (d := (shifted b.hours.length e1 (b.ctrs[u]'hu2))) rfl (shifted_ok hcu)
        refine w_region ?_
        refine w_p (y_loadN (vs := [_, _, _]) Try.isAgg25 Try.sizeOf25 hsZ rfl rfl hb8) rfl ?_
        refine w_p (y_loadN (vs := [_, _, _]) Try.isAgg25 Try.sizeOf25 hsZ rfl rfl hb9) rfl ?_
        refine w_call want_none Try.call50 rfl rfl rfl rfl (c50 (setC b u (still b.hours.length (b.ctrs[u]'hu2))) _ hmY (setC b u (shifted b.hours.length e1 (b.ctrs[u]'hu2))) _ hmX (wheel_twin hu2 hcu) hcY hcX hsZ) ?_
        rintro _ w185 ⟨rfl, hs186⟩
        refine w_p (y_move (v := .bool _) rfl rfl) rfl ?_
        refine w_call (want_yes rfl rfl rfl) Try.call22 rfl rfl rfl rfl (c22 hs186) ?_
        rintro _ w188 ⟨rfl, hs189⟩
        refine w_p (y_pickT (v := .bool _) rfl rfl rfl rfl) rfl ?_
        refine w_p (y_assign (v := .bool _) rfl rfl) rfl ?_
        refine w_nil ?_
        refine q_then (hK182 _ _ ?_)
        refine w_ret ?_
        refine q_ret (l := [.tmp 6]) (vs := [_]) rfl ⟨⟨rfl, show _ = (.bool _ : Value) from rfl⟩, trivial⟩ ?_
        exact ⟨rfl, (St.cast hZ hs189).tail.tail.tail.tail.tail.tail.drop.tail⟩

end Go.Proofs
