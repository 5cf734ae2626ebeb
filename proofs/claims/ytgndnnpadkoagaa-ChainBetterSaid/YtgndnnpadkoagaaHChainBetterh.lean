/- Own texts of this claim, joined. No conditions. -/
import Derived.Test.YtgndnnpadkoagaaHChainBettera
import Derived.Test.YtgndnnpadkoagaaHChainBetterb
import Derived.Test.YtgndnnpadkoagaaHChainBetterc
import Derived.Test.YtgndnnpadkoagaaHChainBetterd
import Derived.Test.YtgndnnpadkoagaaHChainBettere
import Derived.Test.YtgndnnpadkoagaaHChainBetterf
import Derived.Test.YtgndnnpadkoagaaHChainBetterg
/- Walks of this seat, printed by gen.py over the engine: what each function returns, in whatever world. No conditions but those of each contract. -/
set_option linter.unusedVariables false
set_option linter.unusedSimpArgs false
set_option maxRecDepth 20000
namespace Go.Proofs
open Go.Rt Go.Rt.Ch
open Go.Rt.Ha (firstE firstE_step firstE_stop firstE_end failE nameE felt spanL upto span_mem listL fewest fewTo bit before fewStep drop_lt drop_get drop_next drop_done drop_notin set_take set_zero take_less)
attribute [local irreducible] WL WC Con Yd At Ats Sl Agree DW
theorem Try_Q_fb3  (w : World) : (Instr.buildSlice 23 0 [].toArray).run Try.prog w = .ok (.slice (some ⟨w.heap.size, 0, none⟩) 0 0) (w.alloc (Go.Rt.blk 76 [])) := by kernel_rfl
theorem Try_info76 : Try.prog.info? 76 = some Try.t76 := by kernel_rfl
theorem Try_Q_fb5  (w : World) : (Instr.buildSlice 39 0 [].toArray).run Try.prog w = .ok (.slice (some ⟨w.heap.size, 0, none⟩) 0 0) (w.alloc (Go.Rt.blk 3 [])) := by kernel_rfl
theorem krows_one (l : List Ctr) (q : Nat → AtC) : ∀ row ∈ krows l q, ∀ u ∈ row, u.oneCell' = true := by
  intro row hr u hu
  obtain ⟨i, hi, rfl⟩ := List.getElem_of_mem hr
  simp only [krows, List.getElem_mapIdx, Ctr.cells, List.mem_cons, List.not_mem_nil, or_false] at hu
  rcases hu with rfl | rfl | rfl | rfl | rfl | rfl <;> rfl
theorem ints_rows (l : List Int) : (l.map fun x => [Value.int .i64 x]).flatten = iv l := by induction l with | nil => rfl | cons x l ih => simp only [List.map_cons, List.flatten_cons, ih]; rfl
theorem ints1_one (l : List Int) : ∀ row ∈ l.map (fun x => [Value.int .i64 x]), ∀ u ∈ row, u.oneCell' = true := by
  intro row hr u hu
  obtain ⟨x, _, rfl⟩ := List.mem_map.1 hr
  rw [List.mem_singleton] at hu; subst hu; rfl
/-- Where the counters' lists lie, of which the first so many have been copied. -/
def QC (p : AtB) (qc : Nat → AtC) (i : Nat) : Prop := (∀ j, i ≤ j → qc j = p.pc j) ∧ ∀ j, (qc j).az = (p.pc j).az ∧ (qc j).cz = (p.pc j).cz
def DS (w0 : World) (DB : List (Nat × Obj)) (b : Board) (s : Nat) (qc : Nat → AtC) (i : Nat) : Prop := ∀ k (hk : k < i) (hk2 : k < b.ctrs.length), Sl w0 DB (qc k).as 1 ((butC b.hours.length s k b.ctrs[k]).shown.map fun x => [Value.int .i64 x]) ∧ b.ctrs[k].shown.length ≤ (qc k).cs
theorem qc_zero (p : AtB) : QC p p.pc 0 := ⟨fun _ _ => rfl, fun _ => ⟨rfl, rfl⟩⟩
theorem QC.next {p : AtB} {qc : Nat → AtC} {i : Nat} (h : QC p qc i) (a : Option Addr) (c : Nat) : QC p (setPc qc i a c) (i + 1) := by
  refine ⟨fun j hj => ?_, fun j => ?_⟩
  · unfold setPc; rw [if_neg (by omega)]; exact h.1 j (by omega)
  · unfold setPc
    split
    · rename_i e; subst e; exact h.2 j
    · exact h.2 j
theorem ds_zero (w0 : World) (b : Board) (s : Nat) (qc : Nat → AtC) : DS w0 [] b s qc 0 := fun k hk => by omega
theorem DS.next {w0 : World} {DB B2 : List (Nat × Obj)} {b : Board} {s i : Nat} {qc : Nat → AtC} (h : DS w0 DB b s qc i) {a : Option Addr} {c : Nat} (hi : i < b.ctrs.length) (h2 : Sl w0 B2 a 1 ((butC b.hours.length s i b.ctrs[i]).shown.map fun x => [Value.int .i64 x])) (hc : b.ctrs[i].shown.length ≤ c) : DS w0 (B2 ++ DB) b s (setPc qc i a c) (i + 1) := by
  intro k hk hk2
  unfold setPc
  by_cases e : k = i
  · subst e
    rw [if_pos rfl]
    exact ⟨h2.top, hc⟩
  · rw [if_neg e]
    exact ⟨(h k (by omega) hk2).1.app, (h k (by omega) hk2).2⟩
theorem own_int_sl {w0 : World} {a : Option Addr} {n c : Nat} {l : List Int} {B : List (Nat × Obj)} (h : Rt.Own (.slice a n c) 3 1 n (iv l) B) (hl : l.length = n) : Sl w0 B a 1 (l.map fun x => [Value.int .i64 x]) ∧ n ≤ c := by
  obtain ⟨a', c', h1, h2, h3, _⟩ := own_rows0 (w0 := w0) (rows := l.map fun x => [Value.int .i64 x]) h (by intro row hr; obtain ⟨x, _, rfl⟩ := List.mem_map.1 hr; rfl) (by rw [List.length_map, hl]) (ints_rows l).symm
  injection h1 with e1 _ e3
  subst e1 e3
  exact ⟨h2, h3⟩
theorem drop_set_cell {cs : List Value} {k : Nat} {v : Value} (h : k < cs.length) : ((cs.set k v).drop k).take [v].length = [v] := by
  rw [List.drop_eq_getElem_cons (by simpa using h)]
  simp
theorem take_get {cs : List Value} {l : List Int} {m k : Nat} (h : cs.take (m * 1) = iv l) (hl : l.length = m) (hk : k < m) : (cs.drop (0 + k * 1)).take 1 = [.int .i64 (l.getD k 0)] := by
  have hlen : k < cs.length := by
    have := congrArg List.length h
    rw [List.length_take, List.length_map] at this; omega
  rw [Nat.mul_one, Nat.zero_add, List.drop_eq_getElem_cons hlen]
  have h2 : (cs.take (m * 1))[k]? = (iv l)[k]? := by rw [h]
  rw [List.getElem?_take, if_pos (by omega), List.getElem?_eq_getElem hlen] at h2
  simp only [iv, List.getElem?_map, List.getElem?_eq_getElem (show k < l.length by omega), Option.map_some, Option.some.injEq] at h2
  simp [h2, List.getD, show k < l.length by omega]
theorem take_put {cs : List Value} {l : List Int} {m k : Nat} {z : Int} (h : cs.take (m * 1) = iv l) : (setMany cs (0 + k * 1) [.int .i64 z]).take (m * 1) = iv (l.set k z) := by
  simp only [setMany, Nat.zero_add, Nat.mul_one]
  rw [List.take_set]
  rw [Nat.mul_one] at h
  rw [h]; simp [iv, List.map_set]
theorem but_bin {w0 : World} {F B1 DB : List (Nat × Obj)} {b : Board} {p : AtB} {s i cC : Nat} {aC : Option Addr} {qc : Nat → AtC} (hm : BIn w0 F b p) (hi : b.ctrs.length ≤ i) (hown : Rt.Own (.slice aC b.ctrs.length cC) 76 6 b.ctrs.length (krows (BL b s i) qc).flatten B1) (hq : QC p qc i) (hd : DS w0 DB b s qc i) : BIn w0 (B1 ++ (DB ++ F)) (butB b s) ⟨p.ah, p.ch, aC, cC, qc⟩ := by
  rw [BL_all hi] at hown
  obtain ⟨a', c', h1, h2, h3, _⟩ := own_rows0 (w0 := w0) (rows := krows (butB b s).ctrs qc) hown (krows_row _ _) (by rw [krows_len, butB_len]) rfl
  injection h1 with e1 _ e3
  subst e1 e3
  refine ⟨hm.h.app.app, h2.top, fun k hk => ?_, fun k hk => ?_, hm.lh, by rw [butB_len]; exact hm.lc, hm.ch, by rw [butB_len]; exact h3, fun k hk => ?_, fun k hk => ?_, fun x hx => ?_⟩
  · have hk2 : k < b.ctrs.length := by rw [butB_len] at hk; exact hk
    rw [butB_get hk2, show (qc k).az = (p.pc k).az from (hq.2 k).1]; exact (hm.z k hk2).app.app
  · have hk2 : k < b.ctrs.length := by rw [butB_len] at hk; exact hk
    rw [butB_get hk2]; exact (hd k (by omega) hk2).1.top.app
  · have hk2 : k < b.ctrs.length := by rw [butB_len] at hk; exact hk
    rw [butB_get hk2, show (qc k).cz = (p.pc k).cz from (hq.2 k).2]; exact hm.lz k hk2
  · have hk2 : k < b.ctrs.length := by rw [butB_len] at hk; exact hk
    rw [butB_get hk2, butC_slen]; exact ⟨(hm.ls k hk2).1, (hd k (by omega) hk2).2⟩
  · obtain ⟨k, hk, rfl⟩ := List.getElem_of_mem hx
    have hk2 : k < b.ctrs.length := by rw [butB_len] at hk; exact hk
    rw [butB_get hk2]; exact hm.nm b.ctrs[k] (List.getElem_mem hk2)
theorem c85 {w0 w : World} {F : List (Nat × Obj)} (a : Option Addr) (c : Nat) (l : List Ctr) (q : Nat → AtC) (hl : l.length ≤ 1000000) (ha : Sl w0 F a 6 (krows l q)) (hs : St w0 w F) :
  Con Try.prog 85 [.slice a l.length c] w fun v w' => ∃ a2 c2 B', v = .slice a2 l.length c2 ∧ Rt.Own (.slice a2 l.length c2) 76 6 l.length (krows l q).flatten B' ∧ St w0 w' (B' ++ F) := by
  refine con_of_wc (n := 8) Try.func85 rfl rfl (Nat.le_of_ble_eq_true rfl) ?_
  refine w_seq (fun K2 hK1 => ?_)
  refine w_region ?_
  refine w_p (y_assign (v := _) rfl rfl) rfl ?_
  refine w_nil ?_
  refine q_then (hK1 _ _ ?_)
  refine w_seq (fun K4 hK3 => ?_)
  refine w_seq (fun K6 hK5 => ?_)
  refine w_region ?_
  refine w_p (y_move (v := .slice _ _ _) rfl rfl) rfl ?_
  refine w_p (y_sliceNil Try.underlying23 rfl rfl rfl rfl) rfl ?_
  refine w_nil ?_
  refine q_then (hK5 _ _ ?_)
  refine w_cond rfl rfl (fun h7 => ?_) (fun h7 => ?_)
  ·
   try simp only [zA, zB, zC, zD, zE, zF] at h7
   refine w_seq (fun K9 hK8 => ?_)
   refine w_region ?_
   refine w_p (y_assign (v := _) rfl rfl) rfl ?_
   refine w_nil ?_
   refine q_then (hK8 _ _ ?_)
   refine w_ret ?_
   refine q_then_ret ?_
   refine q_ret (l := [.tmp 2]) (vs := [_]) rfl ⟨⟨rfl, show _ = (.slice _ _ _ : Value) from rfl⟩, trivial⟩ ?_
   have hr := sl_none (L := F) (w0 := w0) (by have : a = none := (by simpa using ‹a.isNone = true›); subst this; exact ha)
   have hl0 : l = [] := by simpa [krows] using hr
   subst hl0
   exact ⟨none, 0, [], rfl, own_nil 76 6, hs⟩
  ·
   try simp only [zA, zB, zC, zD, zE, zF] at h7
   refine w_skip ?_
   refine q_then (hK3 _ _ ?_)
   refine w_seq (fun K11 hK10 => ?_)
   refine w_region ?_
   refine w_bslice (ps := []) (pv := []) (cs := []) want_none rfl rfl (fun w => Try_Q_fb3  w) hs (fun b12 w13 hs14 => ?_)
   refine w_p (y_move (v := .slice _ _ _) rfl rfl) rfl ?_
   refine w_append (X := ([])) (B := [_]) (rows := krows l q) (sz := 6) (bytes := 88) want_none Try.underlying23 Try_info76 rfl rfl rfl rfl rfl rfl rfl rfl rfl hs14 own_made ha.cons (by simp [krows]) (fun h => by subst h; simp at h7) (krows_one l q) (by simp only [maxLen]; omega) (by omega) (fun v15 w16 B17 ho18 hs19 => ?_)
   replace hs19 := (show St _ _ (B17 ++ (F)) from hs19)
   refine w_p (y_assign (v := v15) rfl rfl) rfl ?_
   refine w_nil ?_
   refine q_then (hK10 _ _ ?_)
   refine w_ret ?_
   refine q_ret (l := [.tmp 2]) (vs := [_]) rfl ⟨⟨rfl, show _ = (v15 : Value) from rfl⟩, trivial⟩ ?_
   rw [Nat.zero_add, List.nil_append] at ho18
   have h9 := ho18
   obtain ⟨a2, c2, rfl⟩ := h9.slice
   exact ⟨a2, c2, _, rfl, h9, hs19⟩

theorem c86 {w0 w : World} {F : List (Nat × Obj)} (a : Option Addr) (c : Nat) (l : List Int) (hl : l.length ≤ 1000000) (ha : Sl w0 F a 1 (l.map fun x => [Value.int .i64 x])) (hs : St w0 w F) :
  Con Try.prog 86 [.slice a l.length c] w fun v w' => ∃ a2 c2 B', v = .slice a2 l.length c2 ∧ Rt.Own (.slice a2 l.length c2) 3 1 l.length (iv l) B' ∧ St w0 w' (B' ++ F) := by
  refine con_of_wc (n := 8) Try.func86 rfl rfl (Nat.le_of_ble_eq_true rfl) ?_
  refine w_seq (fun K2 hK1 => ?_)
  refine w_region ?_
  refine w_p (y_assign (v := _) rfl rfl) rfl ?_
  refine w_nil ?_
  refine q_then (hK1 _ _ ?_)
  refine w_seq (fun K4 hK3 => ?_)
  refine w_seq (fun K6 hK5 => ?_)
  refine w_region ?_
  refine w_p (y_move (v := .slice _ _ _) rfl rfl) rfl ?_
  refine w_p (y_sliceNil Try.underlying39 rfl rfl rfl rfl) rfl ?_
  refine w_nil ?_
  refine q_then (hK5 _ _ ?_)
  refine w_cond rfl rfl (fun h7 => ?_) (fun h7 => ?_)
  ·
   try simp only [zA, zB, zC, zD, zE, zF] at h7
   refine w_seq (fun K9 hK8 => ?_)
   refine w_region ?_
   refine w_p (y_assign (v := _) rfl rfl) rfl ?_
   refine w_nil ?_
   refine q_then (hK8 _ _ ?_)
   refine w_ret ?_
   refine q_then_ret ?_
   refine q_ret (l := [.tmp 2]) (vs := [_]) rfl ⟨⟨rfl, show _ = (.slice _ _ _ : Value) from rfl⟩, trivial⟩ ?_
   have hr := sl_none (L := F) (w0 := w0) (by have : a = none := (by simpa using ‹a.isNone = true›); subst this; exact ha)
   have hl0 : l = [] := by simpa [krows] using hr
   subst hl0
   exact ⟨none, 0, [], rfl, own_nil 3 1, hs⟩
  ·
   try simp only [zA, zB, zC, zD, zE, zF] at h7
   refine w_skip ?_
   refine q_then (hK3 _ _ ?_)
   refine w_seq (fun K11 hK10 => ?_)
   refine w_region ?_
   refine w_bslice (ps := []) (pv := []) (cs := []) want_none rfl rfl (fun w => Try_Q_fb5  w) hs (fun b12 w13 hs14 => ?_)
   refine w_p (y_move (v := .slice _ _ _) rfl rfl) rfl ?_
   refine w_append (X := ([])) (B := [_]) (rows := (l.map fun x => [Value.int .i64 x])) (sz := 1) (bytes := 8) want_none Try.underlying39 Try_info3 rfl rfl rfl rfl rfl rfl rfl rfl rfl hs14 own_made ha.cons (by simp) (fun h => by subst h; simp at h7) (ints1_one l) (by simp only [maxLen]; omega) (by omega) (fun v15 w16 B17 ho18 hs19 => ?_)
   replace hs19 := (show St _ _ (B17 ++ (F)) from hs19)
   refine w_p (y_assign (v := v15) rfl rfl) rfl ?_
   refine w_nil ?_
   refine q_then (hK10 _ _ ?_)
   refine w_ret ?_
   refine q_ret (l := [.tmp 2]) (vs := [_]) rfl ⟨⟨rfl, show _ = (v15 : Value) from rfl⟩, trivial⟩ ?_
   rw [Nat.zero_add, List.nil_append] at ho18
   have h9 := ho18
   obtain ⟨a2, c2, rfl⟩ := h9.slice
   exact ⟨a2, c2, _, rfl, (by rw [ints_rows] at h9; exact h9), hs19⟩

theorem c83 {w0 w : World} {F : List (Nat × Obj)} (b : Board) (p : AtB) (hm : BIn w0 F b p) (hck : (check b).2.2 = 0) (s : Nat) (hs1k : s < 1000) (bq bh : Nat) (h1 : Ats w0 F bq 0 (b.cells p)) (h2 : Ats w0 F bh 0 [.int .i64 (b.hours.length : Int)]) (hs : St w0 w F) :
  Con Try.prog 83 [.int .i64 (s : Int), .pointer (some ⟨bq, 0, none⟩), .pointer (some ⟨bh, 0, none⟩)] w fun v w' => v = .bool (wrongS b s) ∧ St w0 w' F := by
  refine con_of_wc (n := 73) Try.func83 rfl rfl (Nat.le_of_ble_eq_true rfl) ?_
  have hok := check_ok hck
  have hlh := hok.lh
  have hlc := hok.lc
  refine w_seq (fun K2 hK1 => ?_)
  refine w_region ?_
  refine w_p (y_assign (v := _) rfl rfl) rfl ?_
  refine w_nil ?_
  refine q_then (hK1 _ _ ?_)
  refine w_seq (fun K4 hK3 => ?_)
  refine w_region ?_
  refine w_p (y_loadN (vs := [_, _, _]) Try.isAgg25 Try.sizeOf25 hs rfl rfl h1) rfl ?_
  refine w_call want_none Try.call84 rfl rfl rfl rfl (c84 b p hs) ?_
  rintro _ w6 ⟨bb, mm, rfl, hs7⟩
  replace hs7 := (show St _ _ (_ :: _ :: F) from hs7)
  refine w_p (y_assign (v := .pointer _) rfl rfl) rfl ?_
  refine w_nil ?_
  refine q_then (hK3 _ _ ?_)
  refine w_seq (fun K9 hK8 => ?_)
  refine w_region ?_
  refine w_p (y_move (v := .pointer _) rfl rfl) rfl ?_
  refine w_p (y_fieldAddr (o := 2) (i := 2) Try.underlying25 rfl Try.sizeOf23 rfl rfl rfl) rfl ?_
  refine w_p (y_load1 Try.isAgg23 hs7.tail.tail rfl rfl (show Ats _ _ _ _ [_] from Ats.part h1 2 1)) rfl ?_
  refine w_call want_none Try.call85 rfl rfl rfl rfl (c85 _ _ b.ctrs p.pc (by omega) hm.c.cons.cons hs7) ?_
  rintro _ w11 ⟨aC, cC, B1, rfl, hown, hs12⟩
  have hs13 := (show St _ _ (B1 ++ ([_, _] ++ F)) from hs12).perm (perm_mid B1 [_, _] F)
  replace hs13 := (show St _ _ (_ :: _ :: B1 ++ (F)) from hs13)
  refine w_p (y_nilCheck rfl rfl) rfl ?_
  refine w_p (y_fieldAddr (o := 0) (i := 0) Try.underlying129 rfl Try.sizeOf25 rfl rfl rfl) rfl ?_
  refine w_p (y_fieldAddr (o := 2) (i := 2) Try.underlying25 rfl Try.sizeOf23 rfl rfl rfl) rfl ?_
  refine w_store (i := 0) (v := .slice _ _ _) (vs := [_]) want_none Try.sizeOf23 rfl rfl rfl rfl rfl (by simp [Value.oneCell']) hs13 rfl (Nat.le_of_ble_eq_true rfl) (fun w14 hs15 => ?_)
  refine w_nil ?_
  refine q_then (hK8 _ _ ?_)
  refine w_seq (fun K17 hK16 => ?_)
  refine w_seq (fun K19 hK18 => ?_)
  refine w_region ?_
  refine w_p (y_move (v := .pointer _) rfl rfl) rfl ?_
  refine w_p (y_nilCheck rfl rfl) rfl ?_
  refine w_p (y_fieldAddr (o := 0) (i := 0) Try.underlying129 rfl Try.sizeOf25 rfl rfl rfl) rfl ?_
  refine w_p (y_fieldAddr (o := 2) (i := 2) Try.underlying25 rfl Try.sizeOf23 rfl rfl rfl) rfl ?_
  refine w_p (y_load1 Try.isAgg23 hs15 rfl rfl (ats_own (i := 0) (vs := [_]) rfl rfl)) rfl ?_
  refine w_p (y_lenS Try.underlying23 rfl rfl) rfl ?_
  refine w_p (y_move (v := _) rfl rfl) rfl ?_
  refine w_nil ?_
  refine q_then (hK18 _ _ ?_)
  refine w_block ?_
  refine w_loop [4, 6, 7, 8, 24, 25, 26, 27, 28, 29, 30, 31, 32, 33, 34, 35, 36, 37, 38, 39, 40, 41, 42, 43, 44, 45, 46, 47, 48, 49, 50, 51, 52, 53, 54, 55, 56, 57, 58, 59, 60, 61, 62, 63, 64, 65, 66, 67, 68, 69, 70] [24] (fun kk vs w => ∃ (i : Nat) (B1 DB : List (Nat × Obj)) (qc : Nat → AtC), vs = [.int .i64 i] ∧ i ≤ b.ctrs.length ∧ kk = b.ctrs.length - i ∧ Rt.Own (.slice aC b.ctrs.length cC) 76 6 b.ctrs.length (krows (BL b s i) qc).flatten B1 ∧ QC p qc i ∧ DS w0 DB b s qc i ∧ WOK b s (i * b.hours.length + 0) ∧ St w0 w ((bb, blk 129 [.int .i64 b.holds, .slice p.ah b.hours.length p.ch, .slice aC b.ctrs.length cC, .map (some mm)]) :: (mm, .map #[] 0) :: (B1 ++ (DB ++ F)))) (b.ctrs.length) ?_ ?_
  ·
   exact ⟨0, B1, [], p.pc, rfl, by omega, by omega, by rw [BL_zero]; exact hown, qc_zero p, ds_zero w0 b s _, (fun j hj => by omega), hs15⟩
  ·
   intro k vs μ w22 hI K21 hN20
   clear hs hown
   obtain ⟨i, B1, DB, qc, rfl, hia, rfl, hown, hqc, hds, hwk, hs⟩ := hI
   refine w_seq (fun K24 hK23 => ?_)
   refine w_region ?_
   refine w_p (y_lss rfl rfl rfl rfl) rfl ?_
   refine w_nil ?_
   refine q_then (hK23 _ _ ?_)
   refine w_seq (fun K26 hK25 => ?_)
   refine w_cond rfl rfl (fun h27 => ?_) (fun h27 => ?_)
   ·
    try simp only [zA, zB, zC, zD, zE, zF] at h27
    refine w_skip ?_
    refine q_then (hK25 _ _ ?_)
    refine w_seq (fun K29 hK28 => ?_)
    refine w_block ?_
    refine w_seq (fun K31 hK30 => ?_)
    refine w_region ?_
    refine w_p (y_move (v := .int _ _) rfl rfl) rfl ?_
    refine w_p (y_assign (v := .int _ _) rfl rfl) rfl ?_
    refine w_nil ?_
    refine q_then (hK30 _ _ ?_)
    refine w_seq (fun K33 hK32 => ?_)
    have hi2 : i < b.ctrs.length := by omega
    have hci := hok.ctr _ (List.getElem_mem hi2)
    have hlz := hci.ls
    obtain ⟨bc, cs, rfl, rfl, hcap, hcapm, hcl, htk⟩ := own_some2 hown (by omega)
    replace hs := (show St _ _ (_ :: _ :: _ :: DB ++ (F)) from hs)
    obtain ⟨bx, ox, hbx2, hrow⟩ := sl_krows (sl_own (w0 := w0) (L := (bc, blk 76 cs) :: (DB ++ F)) (i := 0) rfl (krows_row (BL b s i) qc) (by rw [krows_len, BL_len (by omega)]; exact htk)) (i := i) (by rw [BL_len (by omega)]; exact hi2)
    cases hbx2
    rw [BL_get hi2, hqc.1 i (Nat.le_refl _)] at hrow
    refine w_region ?_
    refine w_p (y_move (v := .pointer _) rfl rfl) rfl ?_
    refine w_p (y_nilCheck rfl rfl) rfl ?_
    refine w_p (y_fieldAddr (o := 0) (i := 0) Try.underlying129 rfl Try.sizeOf25 rfl rfl rfl) rfl ?_
    refine w_p (y_fieldAddr (o := 2) (i := 2) Try.underlying25 rfl Try.sizeOf23 rfl rfl rfl) rfl ?_
    refine w_p (y_load1 Try.isAgg23 hs rfl rfl (ats_own (i := 0) (vs := [_]) rfl rfl)) rfl ?_
    refine w_p (y_move (v := .int _ _) rfl rfl) rfl ?_
    refine w_p (y_indexS Try.underlying23 Try.sizeOf76 rfl rfl rfl rfl (i := i) rfl hi2) rfl ?_
    refine w_p (y_assign (v := .pointer _) rfl rfl) rfl ?_
    refine w_nil ?_
    refine q_then (hK32 _ _ ?_)
    refine w_seq (fun K35 hK34 => ?_)
    refine w_region ?_
    refine w_p (y_move (v := .pointer _) rfl rfl) rfl ?_
    refine w_p (y_move (v := .pointer _) rfl rfl) rfl ?_
    refine w_p (y_nilCheck rfl rfl) rfl ?_
    refine w_p (y_fieldAddr (o := 5) (i := 5) Try.underlying76 rfl Try.sizeOf39 rfl rfl rfl) rfl ?_
    refine w_p (y_load1 Try.isAgg39 hs.tail.tail rfl rfl (show Ats _ _ _ _ [_] from Ats.part hrow 5 1)) rfl ?_
    refine w_call want_none Try.call86 rfl rfl rfl rfl (c86 _ _ (b.ctrs[i]'hi2).shown (by omega) (hm.s i hi2).app.cons.cons.cons hs) ?_
    rintro _ w37 ⟨a2, c2, B2, rfl, hown2, hs38⟩
    have hs39 := (show St _ _ (B2 ++ ([_, _, _] ++ (DB ++ F))) from hs38).perm (perm_mid B2 [_, _, _] (DB ++ F))
    replace hs39 := (show St _ _ (_ :: _ :: _ :: B2 ++ (DB ++ (F))) from hs39)
    refine w_p (y_nilCheck rfl rfl) rfl ?_
    refine w_p (y_fieldAddr (o := 5) (i := 5) Try.underlying76 rfl Try.sizeOf39 rfl rfl rfl) rfl ?_
    refine w_store (i := 2) (v := .slice _ _ _) (vs := [_]) want_none Try.sizeOf39 rfl rfl rfl rfl rfl (by simp [Value.oneCell']) hs39 rfl (by show 0 + i * 6 + 5 + 1 ≤ cs.length; omega) (fun w40 hs41 => ?_)
    replace hs41 := (show St _ _ (_ :: _ :: (bc, blk 76 (setMany cs (0 + i * 6 + 5) [(Value.slice a2 (b.ctrs[i]'hi2).shown.length c2)])) :: (B2 ++ (DB ++ F))) from hs41)
    have he0 : setMany cs (0 + i * 6 + 5) [(Value.slice a2 (b.ctrs[i]'hi2).shown.length c2)] = cs.set (i * 6 + 5) (Value.slice a2 (b.ctrs[i]'hi2).shown.length c2) := by simp only [setMany, Nat.zero_add]
    rw [he0] at hs41
    obtain ⟨cs1, hcs1⟩ : ∃ cs1, cs1 = cs.set (i * 6 + 5) (Value.slice a2 (b.ctrs[i]'hi2).shown.length c2) := ⟨_, rfl⟩
    rw [← hcs1] at hs41
    have hcell : (cs1.drop (0 + i * 6 + 5)).take [(Value.slice a2 (b.ctrs[i]'hi2).shown.length c2)].length = [(Value.slice a2 (b.ctrs[i]'hi2).shown.length c2)] := by rw [hcs1, Nat.zero_add]; exact drop_set_cell (by omega)
    refine w_nil ?_
    refine q_then (hK34 _ _ ?_)
    refine w_seq (fun K43 hK42 => ?_)
    refine w_region ?_
    refine w_p (y_load1 Try.isAgg3 hs41.tail.tail.tail.drop.drop rfl rfl h2) rfl ?_
    refine w_p (y_move (v := _) rfl rfl) rfl ?_
    refine w_nil ?_
    refine q_then (hK42 _ _ ?_)
    refine w_block ?_
    refine w_loop [4, 8, 43, 44, 45, 46, 47, 48, 49, 50, 51, 52, 53, 54, 55, 56, 57, 58, 59, 60, 61, 62, 63, 64, 65, 66, 67, 68, 69] [43] (fun kk vs w => ∃ (k : Nat) (B2 : List (Nat × Obj)), vs = [.int .i64 k] ∧ k ≤ b.hours.length ∧ kk = b.hours.length - k ∧ Rt.Own (Value.slice a2 (b.ctrs[i]'hi2).shown.length c2) 3 1 (b.ctrs[i]'hi2).shown.length (iv (shPart b.hours.length s i k (b.ctrs[i]'hi2).shown)) B2 ∧ WOK b s (i * b.hours.length + k) ∧ St w0 w ((bb, blk 129 [.int .i64 b.holds, .slice p.ah b.hours.length p.ch, .slice (some ⟨bc, 0, none⟩) b.ctrs.length cC, .map (some mm)]) :: (mm, .map #[] 0) :: (bc, blk 76 cs1) :: (B2 ++ (DB ++ F)))) (b.hours.length) ?_ ?_
    ·
     exact ⟨0, B2, rfl, by omega, by omega, by rw [shPart_zero]; exact hown2, hwk, hs41⟩
    ·
     intro k vs μ w46 hI K45 hN44
     clear hs hown2
     obtain ⟨k, B2, rfl, hka, rfl, hown2, hwk2, hs⟩ := hI
     refine w_seq (fun K48 hK47 => ?_)
     refine w_region ?_
     refine w_p (y_lss rfl rfl rfl rfl) rfl ?_
     refine w_nil ?_
     refine q_then (hK47 _ _ ?_)
     refine w_seq (fun K50 hK49 => ?_)
     refine w_cond rfl rfl (fun h51 => ?_) (fun h51 => ?_)
     ·
      try simp only [zA, zB, zC, zD, zE, zF] at h51
      refine w_skip ?_
      refine q_then (hK49 _ _ ?_)
      refine w_seq (fun K53 hK52 => ?_)
      refine w_block ?_
      refine w_seq (fun K55 hK54 => ?_)
      refine w_region ?_
      refine w_p (y_move (v := .int _ _) rfl rfl) rfl ?_
      refine w_p (y_assign (v := .int _ _) rfl rfl) rfl ?_
      refine w_nil ?_
      refine q_then (hK54 _ _ ?_)
      refine w_seq (fun K57 hK56 => ?_)
      refine w_seq (fun K59 hK58 => ?_)
      have hk2 : k < b.hours.length := by omega
      have hm8 := mul_in8 hlh hlc hi2 hk2
      have hmi : ((i : Int) * (b.hours.length : Int)) = ((i * b.hours.length : Nat) : Int) := by push_cast; rfl
      refine w_region ?_
      refine w_p (y_move (v := .int _ _) rfl rfl) rfl ?_
      refine w_p (y_move (v := .int _ _) rfl rfl) rfl ?_
      refine w_p (y_load1 Try.isAgg3 hs.tail.tail.tail.drop.drop rfl rfl h2) rfl ?_
      refine w_p (yd_cast (z' := ((i * b.hours.length : Nat) : Int)) hmi (y_mul rfl rfl rfl rfl (by omega) (by omega))) rfl ?_
      refine w_p (y_move (v := .int _ _) rfl rfl) rfl ?_
      refine w_p (yd_cast (z' := ((i * b.hours.length + k : Nat) : Int)) (by omega) (y_add rfl rfl rfl rfl (by omega) (by omega))) rfl ?_
      refine w_p (y_shr (x := s) (y := i * b.hours.length + k) rfl rfl rfl rfl (by first | rfl | omega) (by first | rfl | omega) (by first | omega | exact shr_lt (by omega))) rfl ?_
      refine w_p (show Yd _ _ _ _ (.int .i64 ((bit s (i * b.hours.length + k) : Nat) : Int)) from (y_and (x := _) (y := 1) rfl rfl rfl rfl rfl rfl (by first | omega | exact shr_lt (by omega)) (by first | omega | exact shr_lt (by omega)))) rfl ?_
      refine w_p (y_eql rfl rfl rfl rfl) rfl ?_
      refine w_nil ?_
      refine q_then (hK58 _ _ ?_)
      refine w_cond rfl rfl (fun h60 => ?_) (fun h60 => ?_)
      ·
       try simp only [zA, zB, zC, zD, zE, zF] at h60
       refine w_exit ?_
       refine q_then_exit ?_
       refine q_blk_this ?_
       refine q_then (hK52 _ _ ?_)
       refine w_region ?_
       refine w_p (y_add rfl rfl rfl rfl (by omega) (by omega)) rfl ?_
       refine w_p (y_move (v := .int _ _) rfl rfl) rfl ?_
       refine w_nil ?_
       refine q_then (hN44 _ _ (Nx.intro (b.hours.length - (k + 1)) (by omega) (by repeat (first | exact agree_mix | refine agree_upd rfl ?_ | refine agree_updL rfl ?_ _ | refine agree_mixin rfl ?_)) ?_))
       exact ⟨k + 1, B2, rfl, by omega, rfl, by rw [← shPart_no (by omega)]; exact hown2, wok_no hwk2 (by omega), hs⟩
      ·
       try simp only [zA, zB, zC, zD, zE, zF] at h60
       refine w_skip ?_
       refine q_then (hK56 _ _ ?_)
       refine w_seq (fun K62 hK61 => ?_)
       refine w_seq (fun K64 hK63 => ?_)
       have hk2 : k < b.hours.length := by omega
       obtain ⟨d, cs2, rfl, rfl, hcap2, hcapm2, hcl2, htk2⟩ := own_some2 hown2 (by omega)
       replace hs := (show St _ _ (_ :: _ :: _ :: _ :: DB ++ (F)) from hs)
       refine w_region ?_
       refine w_p (y_move (v := .pointer _) rfl rfl) rfl ?_
       refine w_p (y_nilCheck rfl rfl) rfl ?_
       refine w_p (y_fieldAddr (o := 5) (i := 5) Try.underlying76 rfl Try.sizeOf39 rfl rfl rfl) rfl ?_
       refine w_p (y_load1 Try.isAgg39 hs rfl rfl (ats_own (i := 2) (vs := [_]) rfl hcell)) rfl ?_
       refine w_p (y_move (v := .int _ _) rfl rfl) rfl ?_
       refine w_p (y_indexS Try.underlying39 Try.sizeOf3 rfl rfl rfl rfl (i := k) rfl (by omega)) rfl ?_
       refine w_p (y_load1 Try.isAgg3 hs rfl rfl (ats_own (i := 3) (vs := [_]) rfl (take_get htk2 (by rw [shPart_len]) (by omega)))) rfl ?_
       refine w_p (y_eql rfl rfl rfl rfl) rfl ?_
       refine w_nil ?_
       refine q_then (hK63 _ _ ?_)
       refine w_cond rfl rfl (fun h65 => ?_) (fun h65 => ?_)
       ·
        try simp only [zA, zB, zC, zD, zE, zF] at h65
        refine w_seq (fun K67 hK66 => ?_)
        refine w_region ?_
        refine w_p (y_assign (v := _) rfl rfl) rfl ?_
        refine w_nil ?_
        refine q_then (hK66 _ _ ?_)
        refine w_ret ?_
        refine q_then_ret ?_
        refine q_blk_ret ?_
        refine q_then_ret ?_
        refine q_then_ret ?_
        refine q_blk_ret ?_
        refine q_blk_ret ?_
        refine q_then_ret ?_
        refine q_then_ret ?_
        refine q_blk_ret ?_
        refine q_then_ret ?_
        refine q_ret (l := [.tmp 4]) (vs := [_]) rfl ⟨⟨rfl, show _ = (.bool _ : Value) from rfl⟩, trivial⟩ ?_
        exact ⟨congrArg Value.bool (wrongS_no hi2 hk2 (by have := bit_lt2 s (i * b.hours.length + k); omega) (by rw [← shPart_get (n := b.hours.length) (s := s) (i := i) (by omega)]; assumption)).symm, hs.tail.tail.tail.tail.drop⟩
       ·
        try simp only [zA, zB, zC, zD, zE, zF] at h65
        refine w_skip ?_
        refine q_then (hK61 _ _ ?_)
        refine w_region ?_
        refine w_p (y_move (v := .pointer _) rfl rfl) rfl ?_
        refine w_p (y_nilCheck rfl rfl) rfl ?_
        refine w_p (y_fieldAddr (o := 5) (i := 5) Try.underlying76 rfl Try.sizeOf39 rfl rfl rfl) rfl ?_
        refine w_p (y_load1 Try.isAgg39 hs rfl rfl (ats_own (i := 2) (vs := [_]) rfl hcell)) rfl ?_
        refine w_p (y_move (v := .int _ _) rfl rfl) rfl ?_
        refine w_p (y_indexS Try.underlying39 Try.sizeOf3 rfl rfl rfl rfl (i := k) rfl (by omega)) rfl ?_
        refine w_store (i := 3) (v := .int _ _) (vs := [_]) want_none Try.sizeOf3 rfl rfl rfl rfl rfl (by simp [Value.oneCell']) hs rfl (by show 0 + k * 1 + 1 ≤ cs2.length; omega) (fun w68 hs69 => ?_)
        refine w_nil ?_
        refine q_blk_normal ?_
        refine q_then (hK52 _ _ ?_)
        refine w_region ?_
        refine w_p (y_add rfl rfl rfl rfl (by omega) (by omega)) rfl ?_
        refine w_p (y_move (v := .int _ _) rfl rfl) rfl ?_
        refine w_nil ?_
        refine q_then (hN44 _ _ (Nx.intro (b.hours.length - (k + 1)) (by omega) (by repeat (first | exact agree_mix | refine agree_upd rfl ?_ | refine agree_updL rfl ?_ _ | refine agree_mixin rfl ?_)) ?_))
        exact ⟨k + 1, [(d, blk 3 (setMany cs2 (0 + k * 1) [.int .i64 (-1)]))], rfl, by omega, rfl, own_mk (by rw [List.length_map, shPart_len]; omega) hcap2 hcapm2 (by rw [setMany_len]; exact hcl2) (by rw [← shPart_yes (by omega) (by have := bit_lt2 s (i * b.hours.length + k); omega)]; exact take_put htk2), wok_yes hi2 hk2 hwk2 (by rw [← shPart_get (n := b.hours.length) (s := s) (i := i) (by omega)]; assumption), hs69⟩
     ·
      try simp only [zA, zB, zC, zD, zE, zF] at h51
      refine w_exit ?_
      refine q_then_exit ?_
      refine q_then_exit ?_
      refine q_blk_this ?_
      refine q_blk_normal ?_
      refine q_then (hK28 _ _ ?_)
      refine w_region ?_
      refine w_p (y_add rfl rfl rfl rfl (by omega) (by omega)) rfl ?_
      refine w_p (y_move (v := .int _ _) rfl rfl) rfl ?_
      refine w_nil ?_
      refine q_then (hN20 _ _ (Nx.intro (b.ctrs.length - (i + 1)) (by omega) (by repeat (first | exact agree_mix | refine agree_upd rfl ?_ | refine agree_updL rfl ?_ _ | refine agree_mixin rfl ?_)) ?_))
      have hsl2 := own_int_sl (w0 := w0) hown2 (shPart_len _ _ _ _ _)
      rw [shPart_all (by omega)] at hsl2
      exact ⟨i + 1, [(bc, blk 76 cs1)], B2 ++ DB, setPc qc i a2 c2, rfl, by omega, rfl, own_mk (by rw [flat_len_sz (krows_row _ _), krows_len, BL_len (by omega)]) hcap hcapm (by rw [hcs1, List.length_set]; exact hcl) (by
        rw [hcs1, take_cell (by omega) (krows_row (BL b s i) qc) (by rw [krows_len, BL_len (by omega)]; exact hi2) htk, BL_set hi2, ← krows_set (by rw [BL_len (by omega)]; exact hi2) (by simp only [BL_get hi2]; exact but_cells)]
        simp only [krows, List.getElem_mapIdx, BL_get hi2]), hqc.next _ _, hds.next hi2 hsl2.1 hsl2.2, wok_row (by omega) (by omega) hwk2, (by rw [List.append_assoc]; exact hs)⟩
   ·
    try simp only [zA, zB, zC, zD, zE, zF] at h27
    refine w_exit ?_
    refine q_then_exit ?_
    refine q_then_exit ?_
    refine q_blk_this ?_
    refine q_then (hK16 _ _ ?_)
    refine w_seq (fun K71 hK70 => ?_)
    have hs72 := swp2 hs
    replace hs72 := (show St _ _ (_ :: _ :: B1 ++ (DB ++ (F))) from hs72)
    have hkb : BK w0 ((bb, blk 129 [.int .i64 b.holds, .slice p.ah b.hours.length p.ch, .slice aC b.ctrs.length cC, .map (some mm)]) :: (B1 ++ (DB ++ F))) (butB b s) ⟨p.ah, p.ch, aC, cC, qc⟩ bb mm := ⟨(but_bin hm (by omega) hown hqc hds).cons, ats_own (i := 0) rfl (by simp only [butB_len]; rfl), butB_ok hok s⟩
    refine w_region ?_
    refine w_p (y_move (v := .pointer _) rfl rfl) rfl ?_
    refine w_call want_none Try.call87 rfl rfl rfl rfl (c87 (X := []) (M := [(mm, .map #[] 0)]) (butB b s) _ bb mm hkb (memo_new w0 _ mm) hs72) ?_
    rintro _ w74 ⟨rfl, M2, hM2, hs75⟩
    replace hs75 := (show St _ _ (M2 ++ (_ :: B1 ++ (DB ++ (F)))) from hs75)
    refine w_p (y_assign (v := .bool _) rfl rfl) rfl ?_
    refine w_nil ?_
    refine q_then (hK70 _ _ ?_)
    refine w_ret ?_
    refine q_ret (l := [.tmp 4]) (vs := [_]) rfl ⟨⟨rfl, show _ = (.bool _ : Value) from rfl⟩, trivial⟩ ?_
    exact ⟨congrArg Value.bool (wrongS_yes (by omega) hwk).symm, hs75.drop.tail.drop.drop⟩

end Go.Proofs
/- Walks of this seat, printed by gen.py over the engine: what each function returns, in whatever world. No conditions but those of each contract. -/
set_option linter.unusedVariables false
set_option linter.unusedSimpArgs false
set_option maxRecDepth 20000
namespace Go.Proofs
open Go.Rt Go.Rt.Ch
open Go.Rt.Ha (firstE firstE_step firstE_stop firstE_end failE nameE felt spanL upto span_mem listL fewest fewTo bit before fewStep drop_lt drop_get drop_next drop_done drop_notin set_take set_zero take_less)
attribute [local irreducible] WL WC Con Yd At Ats Sl Agree DW

theorem wrongP_e {b : Board} (h : ¬ (check b).2.2 = 0) : wrongP b = ([], (check b).2.2) := by unfold wrongP; rw [if_pos h]
theorem wrongP_y {b : Board} (h : (check b).2.2 = 0) : wrongP b = ((fewest (wrongS b) (b.hours.length * b.ctrs.length)).1, 0) := by unfold wrongP; rw [if_neg (by simp [h])]
theorem many_8 {b : Board} (h : b.Ok) : b.hours.length * b.ctrs.length ≤ 8 := by
  have h1 := Nat.mul_le_mul h.lh h.lc
  omega
theorem c30 {w0 w : World} {F : List (Nat × Obj)} (b : Board) (p : AtB) (hm : BIn w0 F b p)  (hs : St w0 w F) :
  Con Try.prog 30 [.agg (b.cells p).toArray] w fun v w' => ∃ B a' c, v = .tuple #[.slice a' (wrongP b).1.length c, .int .i64 (wrongP b).2] ∧ Sl w0 B a' 1 ((wrongP b).1.map fun x => [Value.int .i64 x]) ∧ St w0 w' (B ++ F) := by
  refine con_of_wc (n := 27) Try.func30 rfl rfl (Nat.le_of_ble_eq_true rfl) ?_
  have hlh0 := hm.lh
  have hlc0 := hm.lc
  refine w_seq (fun K2 hK1 => ?_)
  refine w_region ?_
  refine w_box (v := .agg #[.int _ _, .slice _ _ _, .slice _ _ _]) (cs := [_, _, _]) want_none rfl rfl rfl hs (fun b3 w4 hs5 => ?_)
  refine w_p (y_assign (v := _) rfl rfl) rfl ?_
  refine w_p (y_assign (v := _) rfl rfl) rfl ?_
  refine w_nil ?_
  refine q_then (hK1 _ _ ?_)
  refine w_seq (fun K7 hK6 => ?_)
  refine w_seq (fun K9 hK8 => ?_)
  refine w_region ?_
  refine w_p (y_loadN (vs := [_, _, _]) Try.isAgg25 Try.sizeOf25 hs5 rfl rfl (ats_own (i := 0) (vs := [_, _, _]) rfl rfl)) rfl ?_
  refine w_call want_none Try.call16 rfl rfl rfl rfl (c16 b _ hm.cons hs5) ?_
  rintro _ w11 ⟨rfl, hs12⟩
  refine w_p (y_move (v := .tuple _) rfl rfl) rfl ?_
  refine w_p (y_extract (v := .int _ _) rfl rfl rfl) rfl ?_
  refine w_p (y_extract (v := .int _ _) rfl rfl rfl) rfl ?_
  refine w_p (y_extract (v := .int _ _) rfl rfl rfl) rfl ?_
  refine w_p (y_assign (v := .int _ _) rfl rfl) rfl ?_
  refine w_p (y_assign (v := .int _ _) rfl rfl) rfl ?_
  refine w_p (y_assign (v := .int _ _) rfl rfl) rfl ?_
  refine w_nil ?_
  refine q_then (hK8 _ _ ?_)
  refine w_seq (fun K14 hK13 => ?_)
  refine w_region ?_
  refine w_p (y_move (v := .int _ _) rfl rfl) rfl ?_
  refine w_p (y_neq rfl rfl rfl rfl) rfl ?_
  refine w_nil ?_
  refine q_then (hK13 _ _ ?_)
  refine w_cond rfl rfl (fun h15 => ?_) (fun h15 => ?_)
  ·
   try simp only [zA, zB, zC, zD, zE, zF] at h15
   refine w_seq (fun K17 hK16 => ?_)
   refine w_region ?_
   refine w_p (y_move (v := .int _ _) rfl rfl) rfl ?_
   refine w_p (y_assign (v := _) rfl rfl) rfl ?_
   refine w_p (y_assign (v := .int _ _) rfl rfl) rfl ?_
   refine w_nil ?_
   refine q_then (hK16 _ _ ?_)
   refine w_ret ?_
   refine q_then_ret ?_
   refine q_ret (l := [.tmp 2, .tmp 3]) (vs := [_, _]) rfl ⟨⟨rfl, show _ = (.slice _ _ _ : Value) from rfl⟩, ⟨rfl, show _ = (.int _ _ : Value) from rfl⟩, trivial⟩ ?_
   exact ⟨[], none, 0, by rw [wrongP_e (by assumption)]; rfl, by rw [wrongP_e (by assumption)]; exact Sl.nil _ _, hs12.tail⟩
  ·
   try simp only [zA, zB, zC, zD, zE, zF] at h15
   refine w_skip ?_
   refine q_then (hK6 _ _ ?_)
   refine w_seq (fun K19 hK18 => ?_)
   have hck : (check b).2.2 = 0 := by assumption
   have hok := check_ok hck
   have h8 := many_8 hok
   have hmi : ((b.hours.length : Int) * (b.ctrs.length : Int)) = ((b.hours.length * b.ctrs.length : Nat) : Int) := by push_cast; rfl
   refine w_region ?_
   refine w_p (y_fieldAddr (o := 1) (i := 1) Try.underlying25 rfl Try.sizeOf22 rfl rfl rfl) rfl ?_
   refine w_p (y_load1 Try.isAgg22 hs12 rfl rfl (ats_own (i := 0) (vs := [_]) rfl rfl)) rfl ?_
   refine w_p (y_lenS Try.underlying22 rfl rfl) rfl ?_
   refine w_alloc (cs := [_]) want_none Try.zeroValue3 rfl hs12 (fun b20 w21 hs22 => ?_)
   refine w_store (i := 0) (v := .int _ _) (vs := [_]) want_none Try.sizeOf3 rfl rfl rfl rfl rfl (by simp [Value.oneCell']) hs22 rfl (Nat.le_of_ble_eq_true rfl) (fun w23 hs24 => ?_)
   refine w_nil ?_
   refine q_then (hK18 _ _ ?_)
   refine w_seq (fun K26 hK25 => ?_)
   refine w_region ?_
   refine w_p (y_load1 Try.isAgg3 hs24 rfl rfl (ats_own (i := 0) (vs := [_]) rfl rfl)) rfl ?_
   refine w_p (y_fieldAddr (o := 2) (i := 2) Try.underlying25 rfl Try.sizeOf23 rfl rfl rfl) rfl ?_
   refine w_p (y_load1 Try.isAgg23 hs24 rfl rfl (ats_own (i := 1) (vs := [_]) rfl rfl)) rfl ?_
   refine w_p (y_lenS Try.underlying23 rfl rfl) rfl ?_
   refine w_p (yd_cast (z' := ((b.hours.length * b.ctrs.length : Nat) : Int)) hmi (y_mul rfl rfl rfl rfl (by omega) (by omega))) rfl ?_
   refine w_p (y_makeFunc (fv := []) (cv := [_, _]) rfl rfl rfl rfl) rfl ?_
   refine w_call want_none Try.call78 rfl rfl rfl rfl (c78 (M := []) (F := (b20, blk 3 [.int .i64 (b.hours.length : Int)]) :: (b3, blk 25 (b.cells p)) :: F) (b.hours.length * b.ctrs.length) (many_8 hok) _ (wrongS b) (fun M => M = []) (fun s M X w hs1 hM hs => by subst hM; exact fcon_fn Try.call83 ((c83 b p hm.cons.cons.app hck s (by have := (shl_256 (many_8 hok)).2; omega) _ _ (Ats.app (ats_own (i := 1) (vs := b.cells p) rfl rfl)) (Ats.app (ats_own (i := 0) (vs := [_]) rfl rfl)) hs).mono fun v w h => ⟨h.1, [], rfl, h.2⟩)) rfl hs24) ?_
   rintro _ w28 ⟨B, M2, a2, c2, rfl, hslB, rfl, hs29⟩
   refine w_p (y_assign (v := .slice _ _ _) rfl rfl) rfl ?_
   refine w_p (y_assign (v := _) rfl rfl) rfl ?_
   refine w_nil ?_
   refine q_then (hK25 _ _ ?_)
   refine w_ret ?_
   refine q_ret (l := [.tmp 2, .tmp 3]) (vs := [_, _]) rfl ⟨⟨rfl, show _ = (.slice _ _ _ : Value) from rfl⟩, ⟨rfl, show _ = (.int _ _ : Value) from rfl⟩, trivial⟩ ?_
   exact ⟨B, a2, c2, by rw [wrongP_y hck]; rfl, by rw [wrongP_y hck]; exact hslB, keep_front (M := []) (P := [_, _]) hs29⟩

end Go.Proofs
/- Plain words of the chain layer: the document's example. No conditions. -/
set_option linter.unusedSimpArgs false
set_option linter.unusedVariables false
namespace Go.Rt.Ch
open Go.Rt.Ha
def nShip : ByteArray := ⟨#[115, 104, 105, 112]⟩
def nShore : ByteArray := ⟨#[115, 104, 111, 114, 101]⟩
def exB (n : Int) : Board := ⟨2, [⟨0, 10, 13⟩, ⟨0, 8, 11⟩, ⟨1, 10, 12⟩], [⟨nShip, 1, 0, 90, [0, 0, 0], [1, -1, 22]⟩, ⟨nShore, 0, 2, 0, [0, 2, 0], [13, 10, n]⟩]⟩
theorem ex_went1 : wentP (exB 21) 0 = ((11, 12), 0) := by decide +kernel
theorem ex_hold1 : holdP (exB 21) 0 = ((21, 22), 0) := by decide +kernel
theorem ex_right1 : rightP (exB 21) 0 = (0, 0) := by decide +kernel
theorem ex_right2 : rightP (exB 21) 1 = (2, 0) := by decide +kernel
theorem ex_zero1 : zeroP (exB 21) 1 1 = (1, 0) := by decide +kernel
theorem ex_looks1 : looksP (exB 21) 0 0 = ([0], 0) := by decide +kernel
theorem ex_looks2 : looksP (exB 21) 0 1 = ([], 0) := by decide +kernel
theorem ex_wrong1 : wrongP (exB 30) = ([5], 0) := by decide +kernel
theorem ex_went2 : wentP (exB 30) 0 = ((0, 0), 8) := by decide +kernel
theorem ex_looks3 : looksP (exB 21) 0 (-1) = ([], 7) := by decide +kernel
end Go.Rt.Ch
/- Walks of this seat, printed by gen.py over the engine: what each function returns, in whatever world. No conditions but those of each contract. -/
set_option linter.unusedVariables false
set_option linter.unusedSimpArgs false
set_option maxRecDepth 20000
namespace Go.Proofs
open Go.Rt Go.Rt.Ch
open Go.Rt.Ha (firstE firstE_step firstE_stop firstE_end failE nameE felt spanL upto span_mem listL fewest fewTo bit before fewStep drop_lt drop_get drop_next drop_done drop_notin set_take set_zero take_less)
attribute [local irreducible] WL WC Con Yd At Ats Sl Agree DW
theorem Try_Ya_fb7 (x0 : Int) (x1 : Int) (w : World) : (Instr.build 31 [(0, .int .i64 x0), (1, .int .i64 x1)].toArray).run Try.prog w = .ok (.agg #[.int .i64 x0, .int .i64 x1]) w := by kernel_rfl
theorem Try_Ya_fb8 (x0 : Int) (x1 : Int) (w : World) : (Instr.build 70 [(1, .agg #[.int .i64 x0, .int .i64 x1])].toArray).run Try.prog w = .ok (.agg #[.int .i64 0, .int .i64 x0, .int .i64 x1]) w := by kernel_rfl
theorem Try_Ya_fb9 (x0 : Int) (x1 : Int) (x2 : Int) (w : World) : (Instr.build 70 [(0, .int .i64 x0), (1, .agg #[.int .i64 x1, .int .i64 x2])].toArray).run Try.prog w = .ok (.agg #[.int .i64 x0, .int .i64 x1, .int .i64 x2]) w := by kernel_rfl
theorem Try_Ya_fb10 (x0 : Int) (x1 : Int) (x2 : Int) (x3 : Int) (x4 : Int) (x5 : Int) (x6 : Int) (x7 : Int) (x8 : Int) (w : World) : (Instr.buildSlice 22 3 [(0, .agg #[.int .i64 x0, .int .i64 x1, .int .i64 x2]), (1, .agg #[.int .i64 x3, .int .i64 x4, .int .i64 x5]), (2, .agg #[.int .i64 x6, .int .i64 x7, .int .i64 x8])].toArray).run Try.prog w = .ok (.slice (some ⟨w.heap.size, 0, none⟩) 3 3) (w.alloc (Go.Rt.blk 70 [.int .i64 x0, .int .i64 x1, .int .i64 x2, .int .i64 x3, .int .i64 x4, .int .i64 x5, .int .i64 x6, .int .i64 x7, .int .i64 x8])) := by kernel_rfl
theorem Try_Ya_fb11 (x0 : Int) (x1 : Int) (x2 : Int) (w : World) : (Instr.buildSlice 39 3 [(0, .int .i64 x0), (1, .int .i64 x1), (2, .int .i64 x2)].toArray).run Try.prog w = .ok (.slice (some ⟨w.heap.size, 0, none⟩) 3 3) (w.alloc (Go.Rt.blk 3 [.int .i64 x0, .int .i64 x1, .int .i64 x2])) := by kernel_rfl
theorem Try_Ya_fb12 (x0 : ByteArray) (x1 : Int) (x2 : Int) (x3 : Option Addr) (l3 c3 : Nat) (x4 : Option Addr) (l4 c4 : Nat) (w : World) : (Instr.build 76 [(0, .string x0), (1, .int .i64 x1), (3, .int .i64 x2), (4, .slice x3 l3 c3), (5, .slice x4 l4 c4)].toArray).run Try.prog w = .ok (.agg #[.string x0, .int .i64 x1, .int .i64 0, .int .i64 x2, .slice x3 l3 c3, .slice x4 l4 c4]) w := by kernel_rfl
theorem Try_Ya_fb13 (x0 : ByteArray) (x1 : Int) (x2 : Option Addr) (l2 c2 : Nat) (x3 : Option Addr) (l3 c3 : Nat) (w : World) : (Instr.build 76 [(0, .string x0), (2, .int .i64 x1), (4, .slice x2 l2 c2), (5, .slice x3 l3 c3)].toArray).run Try.prog w = .ok (.agg #[.string x0, .int .i64 0, .int .i64 x1, .int .i64 0, .slice x2 l2 c2, .slice x3 l3 c3]) w := by kernel_rfl
theorem Try_Ya_fb14 (x0 : ByteArray) (x1 : Int) (x2 : Int) (x3 : Int) (x4 : Option Addr) (l4 c4 : Nat) (x5 : Option Addr) (l5 c5 : Nat) (x6 : ByteArray) (x7 : Int) (x8 : Int) (x9 : Int) (x10 : Option Addr) (l10 c10 : Nat) (x11 : Option Addr) (l11 c11 : Nat) (w : World) : (Instr.buildSlice 23 2 [(0, .agg #[.string x0, .int .i64 x1, .int .i64 x2, .int .i64 x3, .slice x4 l4 c4, .slice x5 l5 c5]), (1, .agg #[.string x6, .int .i64 x7, .int .i64 x8, .int .i64 x9, .slice x10 l10 c10, .slice x11 l11 c11])].toArray).run Try.prog w = .ok (.slice (some ⟨w.heap.size, 0, none⟩) 2 2) (w.alloc (Go.Rt.blk 76 [.string x0, .int .i64 x1, .int .i64 x2, .int .i64 x3, .slice x4 l4 c4, .slice x5 l5 c5, .string x6, .int .i64 x7, .int .i64 x8, .int .i64 x9, .slice x10 l10 c10, .slice x11 l11 c11])) := by kernel_rfl
theorem Try_Ya_fb15 (x0 : Int) (x1 : Option Addr) (l1 c1 : Nat) (x2 : Option Addr) (l2 c2 : Nat) (w : World) : (Instr.build 25 [(0, .int .i64 x0), (1, .slice x1 l1 c1), (2, .slice x2 l2 c2)].toArray).run Try.prog w = .ok (.agg #[.int .i64 x0, .slice x1 l1 c1, .slice x2 l2 c2]) w := by kernel_rfl
theorem Try_flat31 : flatInts Try.prog 31 2 = true := by kernel_rfl
theorem Try_Ya_fb17 (x0 : Int) (w : World) : (Instr.buildSlice 39 1 [(0, .int .i64 x0)].toArray).run Try.prog w = .ok (.slice (some ⟨w.heap.size, 0, none⟩) 1 1) (w.alloc (Go.Rt.blk 3 [.int .i64 x0])) := by kernel_rfl
theorem ats_ofL {w0 w : World} {L : List (Nat × Obj)} {i b : Nat} {t : TypeId} {cs vs : List Value} (hs : St w0 w L) (hi : L[i]? = some (b, blk t cs)) (h : (cs.drop 0).take vs.length = vs) : Ats w0 L b 0 vs := ats_own hi h
theorem gen_Z {w0 w : World} {L : List (Nat × Obj)} (hs : St w0 w L) : ∃ Z, Z = L ∧ St w0 w Z := ⟨L, rfl, hs⟩
theorem con_true {k : FuncId} {args : List Value} {w : World} {x : Bool} {S : World → Prop} (h : Con Try.prog k args w fun v w' => v = .bool x ∧ S w') (hx : x = true) : Con Try.prog k args w fun v w' => v = .bool true ∧ S w' := by subst hx; exact h
theorem kz_own {w0 w : World} {B F : List (Nat × Obj)} {a : Nat × Obj} (h : St w0 w (B ++ (a :: F))) : St w0 w (B ++ F) := (h.perm (perm_mid B [a] F)).tail
def exP (bh bc z1 s1 z2 s2 : Nat) : AtB := ⟨some ⟨bh, 0, none⟩, 3, some ⟨bc, 0, none⟩, 2, fun i => if i = 0 then ⟨some ⟨z1, 0, none⟩, 3, some ⟨s1, 0, none⟩, 3⟩ else ⟨some ⟨z2, 0, none⟩, 3, some ⟨s2, 0, none⟩, 3⟩⟩
theorem ex_bin {w0 : World} {n : Int} {bh bc z1 s1 z2 s2 : Nat} :
    BIn w0 [(bc, blk 76 (krows (exB n).ctrs (exP bh bc z1 s1 z2 s2).pc).flatten), (s2, blk 3 (iv [13, 10, n])), (z2, blk 3 (iv [0, 2, 0])), (s1, blk 3 (iv [1, -1, 22])), (z1, blk 3 (iv [0, 0, 0])), (bh, blk 70 (hrows (exB n).hours).flatten)] (exB n) (exP bh bc z1 s1 z2 s2) where
  h := sl_own (i := 5) rfl (by intro row h; obtain ⟨q, _, rfl⟩ := List.mem_map.1 h; rfl) rfl
  c := sl_own (i := 0) rfl (krows_row _ _) rfl
  z := fun i hi => by
    match i, hi with
    | 0, _ => exact sl_own (i := 4) rfl (by intro row h; obtain ⟨q, _, rfl⟩ := List.mem_map.1 h; rfl) rfl
    | 1, _ => exact sl_own (i := 2) rfl (by intro row h; obtain ⟨q, _, rfl⟩ := List.mem_map.1 h; rfl) rfl
    | i + 2, hi => exact absurd hi (by simp [exB])
  s := fun i hi => by
    match i, hi with
    | 0, _ => exact sl_own (i := 3) rfl (by intro row h; obtain ⟨q, _, rfl⟩ := List.mem_map.1 h; rfl) rfl
    | 1, _ => exact sl_own (i := 1) rfl (by intro row h; obtain ⟨q, _, rfl⟩ := List.mem_map.1 h; rfl) rfl
    | i + 2, hi => exact absurd hi (by simp [exB])
  lh := by simp [exB]
  lc := by simp [exB]
  ch := by simp [exB, exP]
  cc := by simp [exB, exP]
  lz := fun i hi => by
    match i, hi with
    | 0, _ => exact ⟨by simp [exB], by simp [exB, exP]⟩
    | 1, _ => exact ⟨by simp [exB], by simp [exB, exP]⟩
    | i + 2, hi => exact absurd hi (by simp [exB])
  ls := fun i hi => by
    match i, hi with
    | 0, _ => exact ⟨by simp [exB], by simp [exB, exP]⟩
    | 1, _ => exact ⟨by simp [exB], by simp [exB, exP]⟩
    | i + 2, hi => exact absurd hi (by simp [exB])
  nm := by intro q hq; simp only [exB, List.mem_cons, List.not_mem_nil, or_false] at hq; rcases hq with rfl | rfl <;> (dsimp only; decide)
theorem c33 {w0 w : World} {F : List (Nat × Obj)} (x y : Int) (hs : St w0 w F) :
  Con Try.prog 33 [.int .i64 x, .int .i64 y] w fun v w' => v = .agg #[.int .i64 x, .int .i64 y] ∧ St w0 w' F := by
  refine con_of_wc (n := 8) Try.func33 rfl rfl (Nat.le_of_ble_eq_true rfl) ?_
  refine w_seq (fun K2 hK1 => ?_)
  refine w_region ?_
  refine w_alloc (cs := [_, _]) want_none Try.zeroValue31 rfl hs (fun b3 w4 hs5 => ?_)
  refine w_nil ?_
  refine q_then (hK1 _ _ ?_)
  refine w_seq (fun K7 hK6 => ?_)
  refine w_region ?_
  refine w_p (y_move (v := .int _ _) rfl rfl) rfl ?_
  refine w_p (y_move (v := .int _ _) rfl rfl) rfl ?_
  refine w_p (y_build (ps := [(0, _), (1, _)]) (pv := [(0, .int _ _), (1, .int _ _)]) rfl rfl (fun w => Try_Ya_fb7 _ _ w)) rfl ?_
  refine w_store (i := 0) (v := .agg #[.int _ _, .int _ _]) (vs := [_, _]) want_none Try.sizeOf31 rfl rfl rfl rfl rfl (by simp [Value.oneCell']) hs5 rfl (Nat.le_of_ble_eq_true rfl) (fun w8 hs9 => ?_)
  refine w_nil ?_
  refine q_then (hK6 _ _ ?_)
  refine w_ret ?_
  refine q_ret (l := [.cell 4 31]) (vs := [_]) rfl ⟨⟨rfl, _, rfl, run_loadVarN (vs := [_, _]) Try.isAgg31 Try.sizeOf31 hs9 (ats_own (i := 0) (vs := [_, _]) rfl rfl)⟩, trivial⟩ ?_
  exact ⟨rfl, hs9.tail⟩

theorem c32 {w0 w : World} {F : List (Nat × Obj)} (n : Int) (hs : St w0 w F) :
  Con Try.prog 32 [.int .i64 n] w fun v w' => ∃ p B, v = .agg ((exB n).cells p).toArray ∧ BIn w0 B (exB n) p ∧ St w0 w' (B ++ F) := by
  refine con_of_wc (n := 19) Try.func32 rfl rfl (Nat.le_of_ble_eq_true rfl) ?_
  refine w_seq (fun K2 hK1 => ?_)
  refine w_region ?_
  refine w_alloc (cs := [_, _, _]) want_none Try.zeroValue25 rfl hs (fun b3 w4 hs5 => ?_)
  refine w_nil ?_
  refine q_then (hK1 _ _ ?_)
  refine w_seq (fun K7 hK6 => ?_)
  refine w_region ?_
  refine w_call want_none Try.call33 rfl rfl rfl rfl (c33 _ _ hs5) ?_
  rintro _ w9 ⟨rfl, hs10⟩
  refine w_p (y_build (ps := [(1, _)]) (pv := [(1, .agg #[.int _ _, .int _ _])]) rfl rfl (fun w => Try_Ya_fb8 _ _ w)) rfl ?_
  refine w_call want_none Try.call33 rfl rfl rfl rfl (c33 _ _ hs10) ?_
  rintro _ w12 ⟨rfl, hs13⟩
  refine w_p (y_build (ps := [(1, _)]) (pv := [(1, .agg #[.int _ _, .int _ _])]) rfl rfl (fun w => Try_Ya_fb8 _ _ w)) rfl ?_
  refine w_call want_none Try.call33 rfl rfl rfl rfl (c33 _ _ hs13) ?_
  rintro _ w15 ⟨rfl, hs16⟩
  refine w_p (y_build (ps := [(0, _), (1, _)]) (pv := [(0, .int _ _), (1, .agg #[.int _ _, .int _ _])]) rfl rfl (fun w => Try_Ya_fb9 _ _ _ w)) rfl ?_
  refine w_bslice (ps := [(0, _), (1, _), (2, _)]) (pv := [(0, .agg #[.int _ _, .int _ _, .int _ _]), (1, .agg #[.int _ _, .int _ _, .int _ _]), (2, .agg #[.int _ _, .int _ _, .int _ _])]) (cs := [_, _, _, _, _, _, _, _, _]) want_none rfl rfl (fun w => Try_Ya_fb10 _ _ _ _ _ _ _ _ _ w) hs16 (fun b17 w18 hs19 => ?_)
  refine w_bslice (ps := [(0, _), (1, _), (2, _)]) (pv := [(0, .int _ _), (1, .int _ _), (2, .int _ _)]) (cs := [_, _, _]) want_none rfl rfl (fun w => Try_Ya_fb11 _ _ _ w) hs19 (fun b20 w21 hs22 => ?_)
  refine w_bslice (ps := [(0, _), (1, _), (2, _)]) (pv := [(0, .int _ _), (1, .int _ _), (2, .int _ _)]) (cs := [_, _, _]) want_none rfl rfl (fun w => Try_Ya_fb11 _ _ _ w) hs22 (fun b23 w24 hs25 => ?_)
  refine w_p (y_build (ps := [(0, _), (1, _), (3, _), (4, _), (5, _)]) (pv := [(0, .string _), (1, .int _ _), (3, .int _ _), (4, .slice _ _ _), (5, .slice _ _ _)]) rfl rfl (fun w => Try_Ya_fb12 _ _ _ _ _ _ _ _ _ w)) rfl ?_
  refine w_bslice (ps := [(0, _), (1, _), (2, _)]) (pv := [(0, .int _ _), (1, .int _ _), (2, .int _ _)]) (cs := [_, _, _]) want_none rfl rfl (fun w => Try_Ya_fb11 _ _ _ w) hs25 (fun b26 w27 hs28 => ?_)
  refine w_p (y_move (v := .int _ _) rfl rfl) rfl ?_
  refine w_bslice (ps := [(0, _), (1, _), (2, _)]) (pv := [(0, .int _ _), (1, .int _ _), (2, .int _ _)]) (cs := [_, _, _]) want_none rfl rfl (fun w => Try_Ya_fb11 _ _ _ w) hs28 (fun b29 w30 hs31 => ?_)
  refine w_p (y_build (ps := [(0, _), (2, _), (4, _), (5, _)]) (pv := [(0, .string _), (2, .int _ _), (4, .slice _ _ _), (5, .slice _ _ _)]) rfl rfl (fun w => Try_Ya_fb13 _ _ _ _ _ _ _ _ w)) rfl ?_
  refine w_bslice (ps := [(0, _), (1, _)]) (pv := [(0, .agg #[.string _, .int _ _, .int _ _, .int _ _, .slice _ _ _, .slice _ _ _]), (1, .agg #[.string _, .int _ _, .int _ _, .int _ _, .slice _ _ _, .slice _ _ _])]) (cs := [_, _, _, _, _, _, _, _, _, _, _, _]) want_none rfl rfl (fun w => Try_Ya_fb14 _ _ _ _ _ _ _ _ _ _ _ _ _ _ _ _ _ _ _ _ w) hs31 (fun b32 w33 hs34 => ?_)
  refine w_p (y_build (ps := [(0, _), (1, _), (2, _)]) (pv := [(0, .int _ _), (1, .slice _ _ _), (2, .slice _ _ _)]) rfl rfl (fun w => Try_Ya_fb15 _ _ _ _ _ _ _ w)) rfl ?_
  refine w_store (i := 6) (v := .agg #[.int _ _, .slice _ _ _, .slice _ _ _]) (vs := [_, _, _]) want_none Try.sizeOf25 rfl rfl rfl rfl rfl (by simp [Value.oneCell']) hs34 rfl (Nat.le_of_ble_eq_true rfl) (fun w35 hs36 => ?_)
  refine w_nil ?_
  refine q_then (hK6 _ _ ?_)
  refine w_ret ?_
  refine q_ret (l := [.cell 2 25]) (vs := [_]) rfl ⟨⟨rfl, _, rfl, run_loadVarN (vs := [_, _, _]) Try.isAgg25 Try.sizeOf25 hs36 (ats_own (i := 6) (vs := [_, _, _]) rfl rfl)⟩, trivial⟩ ?_
  exact ⟨exP b17 b32 b20 b23 b26 b29, [_, _, _, _, _, _], rfl, ex_bin, kz_own (B := [_, _, _, _, _, _]) hs36⟩

theorem c22 {w0 w : World} {F : List (Nat × Obj)}  (hs : St w0 w F) :
  Con Try.prog 22 [] w fun v w' => v = .bool true ∧ St w0 w' F := by
  refine con_of_wc (n := 150) Try.func22 rfl rfl (Nat.le_of_ble_eq_true rfl) ?_
  refine w_seq (fun K2 hK1 => ?_)
  refine w_region ?_
  refine w_p (y_assign (v := _) rfl rfl) rfl ?_
  refine w_nil ?_
  refine q_then (hK1 _ _ ?_)
  refine w_seq (fun K4 hK3 => ?_)
  refine w_region ?_
  refine w_call want_none Try.call32 rfl rfl rfl rfl (c32 21 hs) ?_
  rintro _ w6 ⟨p1, L1, rfl, hq1, hs7⟩
  replace hs7 := (show St _ _ (L1 ++ (F)) from hs7)
  refine w_call want_none Try.call32 rfl rfl rfl rfl (c32 30 hs7) ?_
  rintro _ w9 ⟨p2, L2, rfl, hq2, hs10⟩
  replace hs10 := (show St _ _ (L2 ++ (L1 ++ (F))) from hs10)
  refine w_alloc (cs := [_, _, _]) want_none Try.zeroValue25 rfl hs10 (fun b11 w12 hs13 => ?_)
  refine w_alloc (cs := [_, _, _]) want_none Try.zeroValue25 rfl hs13 (fun b14 w15 hs16 => ?_)
  refine w_store (i := 1) (v := .agg #[.int _ _, .slice _ _ _, .slice _ _ _]) (vs := [_, _, _]) want_none Try.sizeOf25 rfl rfl rfl rfl rfl (by simp [Value.oneCell']) hs16 rfl (Nat.le_of_ble_eq_true rfl) (fun w17 hs18 => ?_)
  refine w_store (i := 0) (v := .agg #[.int _ _, .slice _ _ _, .slice _ _ _]) (vs := [_, _, _]) want_none Try.sizeOf25 rfl rfl rfl rfl rfl (by simp [Value.oneCell']) hs18 rfl (Nat.le_of_ble_eq_true rfl) (fun w19 hs20 => ?_)
  refine w_nil ?_
  refine q_then (hK3 _ _ ?_)
  refine w_seq (fun K22 hK21 => ?_)
  obtain ⟨Z, hZ, hsZ⟩ := gen_Z hs20
  have hP1 : Ats w0 Z b11 0 ((exB 21).cells p1) := by rw [hZ]; exact ats_own (i := 1) (vs := (exB 21).cells p1) rfl rfl
  have hM1 : BIn w0 Z (exB 21) p1 := by rw [hZ]; exact BIn.mono hq1 (fun w h => h.tail.tail.drop.front)
  have hP2 : Ats w0 Z b14 0 ((exB 30).cells p2) := by rw [hZ]; exact ats_own (i := 0) (vs := (exB 30).cells p2) rfl rfl
  have hM2 : BIn w0 Z (exB 30) p2 := by rw [hZ]; exact BIn.mono hq2 (fun w h => h.tail.tail.front)
  refine w_region ?_
  refine w_p (y_loadN (vs := [_, _, _]) Try.isAgg25 Try.sizeOf25 hsZ rfl rfl hP1) rfl ?_
  refine w_call want_none Try.call18 rfl rfl rfl rfl ((c18 (exB 21) p1 hM1 0 hsZ).mono (fun v w' h => by rw [ex_went1] at h; exact h)) ?_
  rintro _ w24 ⟨rfl, hs25⟩
  refine w_p (y_move (v := .tuple _) rfl rfl) rfl ?_
  refine w_p (y_extract (v := .agg _) rfl rfl rfl) rfl ?_
  refine w_p (y_extract (v := .int _ _) rfl rfl rfl) rfl ?_
  refine w_alloc (cs := [_, _]) want_none Try.zeroValue31 rfl hs25 (fun b26 w27 hs28 => ?_)
  refine w_store (i := 0) (v := .agg #[.int _ _, .int _ _]) (vs := [_, _]) want_none Try.sizeOf31 rfl rfl rfl rfl rfl (by simp [Value.oneCell']) hs28 rfl (Nat.le_of_ble_eq_true rfl) (fun w29 hs30 => ?_)
  refine w_p (y_assign (v := .int _ _) rfl rfl) rfl ?_
  refine w_nil ?_
  refine q_then (hK21 _ _ ?_)
  refine w_seq (fun K32 hK31 => ?_)
  have hx3 := ats_ofL (i := 0) (vs := [_, _]) hs30 rfl rfl
  refine w_region ?_
  refine w_p (y_loadN (vs := [_, _, _]) Try.isAgg25 Try.sizeOf25 hs30.tail rfl rfl hP1) rfl ?_
  refine w_call want_none Try.call20 rfl rfl rfl rfl ((c20 (exB 21) p1 hM1.cons 0 hs30).mono (fun v w' h => by rw [ex_hold1] at h; exact h)) ?_
  rintro _ w34 ⟨rfl, hs35⟩
  refine w_p (y_move (v := .tuple _) rfl rfl) rfl ?_
  refine w_p (y_extract (v := .agg _) rfl rfl rfl) rfl ?_
  refine w_p (y_extract (v := .int _ _) rfl rfl rfl) rfl ?_
  refine w_alloc (cs := [_, _]) want_none Try.zeroValue31 rfl hs35 (fun b36 w37 hs38 => ?_)
  refine w_store (i := 0) (v := .agg #[.int _ _, .int _ _]) (vs := [_, _]) want_none Try.sizeOf31 rfl rfl rfl rfl rfl (by simp [Value.oneCell']) hs38 rfl (Nat.le_of_ble_eq_true rfl) (fun w39 hs40 => ?_)
  refine w_p (y_assign (v := .int _ _) rfl rfl) rfl ?_
  refine w_nil ?_
  refine q_then (hK31 _ _ ?_)
  refine w_seq (fun K42 hK41 => ?_)
  have hx5 := ats_ofL (i := 0) (vs := [_, _]) hs40 rfl rfl
  refine w_region ?_
  refine w_p (y_loadN (vs := [_, _, _]) Try.isAgg25 Try.sizeOf25 hs40.tail.tail rfl rfl hP1) rfl ?_
  refine w_call want_none Try.call23 rfl rfl rfl rfl ((c23 (exB 21) p1 hM1.cons.cons 0 hs40).mono (fun v w' h => by rw [ex_right1] at h; exact h)) ?_
  rintro _ w44 ⟨rfl, hs45⟩
  refine w_p (y_move (v := .tuple _) rfl rfl) rfl ?_
  refine w_p (y_extract (v := .int _ _) rfl rfl rfl) rfl ?_
  refine w_p (y_extract (v := .int _ _) rfl rfl rfl) rfl ?_
  refine w_p (y_assign (v := .int _ _) rfl rfl) rfl ?_
  refine w_p (y_assign (v := .int _ _) rfl rfl) rfl ?_
  refine w_nil ?_
  refine q_then (hK41 _ _ ?_)
  refine w_seq (fun K47 hK46 => ?_)
  refine w_region ?_
  refine w_p (y_loadN (vs := [_, _, _]) Try.isAgg25 Try.sizeOf25 hs45.tail.tail rfl rfl hP1) rfl ?_
  refine w_call want_none Try.call23 rfl rfl rfl rfl ((c23 (exB 21) p1 hM1.cons.cons 1 hs45).mono (fun v w' h => by rw [ex_right2] at h; exact h)) ?_
  rintro _ w49 ⟨rfl, hs50⟩
  refine w_p (y_move (v := .tuple _) rfl rfl) rfl ?_
  refine w_p (y_extract (v := .int _ _) rfl rfl rfl) rfl ?_
  refine w_p (y_extract (v := .int _ _) rfl rfl rfl) rfl ?_
  refine w_p (y_assign (v := .int _ _) rfl rfl) rfl ?_
  refine w_p (y_assign (v := .int _ _) rfl rfl) rfl ?_
  refine w_nil ?_
  refine q_then (hK46 _ _ ?_)
  refine w_seq (fun K52 hK51 => ?_)
  refine w_region ?_
  refine w_p (y_loadN (vs := [_, _, _]) Try.isAgg25 Try.sizeOf25 hs50.tail.tail rfl rfl hP1) rfl ?_
  refine w_call want_none Try.call25 rfl rfl rfl rfl ((c25 (exB 21) p1 hM1.cons.cons 1 1 hs50).mono (fun v w' h => by rw [ex_zero1] at h; exact h)) ?_
  rintro _ w54 ⟨rfl, hs55⟩
  refine w_p (y_move (v := .tuple _) rfl rfl) rfl ?_
  refine w_p (y_extract (v := .int _ _) rfl rfl rfl) rfl ?_
  refine w_p (y_extract (v := .int _ _) rfl rfl rfl) rfl ?_
  refine w_p (y_assign (v := .int _ _) rfl rfl) rfl ?_
  refine w_p (y_assign (v := .int _ _) rfl rfl) rfl ?_
  refine w_nil ?_
  refine q_then (hK51 _ _ ?_)
  refine w_seq (fun K57 hK56 => ?_)
  refine w_region ?_
  refine w_p (y_loadN (vs := [_, _, _]) Try.isAgg25 Try.sizeOf25 hs55.tail.tail rfl rfl hP1) rfl ?_
  refine w_call want_none Try.call27 rfl rfl rfl rfl ((c27 (exB 21) p1 hM1.cons.cons 0 0 hs55).mono (fun v w' h => by rw [ex_looks1] at h; exact h)) ?_
  rintro _ w59 ⟨B1, a1, c1, rfl, hr1, hs60⟩
  replace hs60 := (show St _ _ (B1 ++ (_ :: _ :: Z)) from hs60)
  refine w_p (y_move (v := .tuple _) rfl rfl) rfl ?_
  refine w_p (y_extract (v := .slice _ _ _) rfl rfl rfl) rfl ?_
  refine w_p (y_extract (v := .int _ _) rfl rfl rfl) rfl ?_
  refine w_p (y_assign (v := .slice _ _ _) rfl rfl) rfl ?_
  refine w_p (y_assign (v := .int _ _) rfl rfl) rfl ?_
  refine w_nil ?_
  refine q_then (hK56 _ _ ?_)
  refine w_seq (fun K62 hK61 => ?_)
  refine w_region ?_
  refine w_p (y_loadN (vs := [_, _, _]) Try.isAgg25 Try.sizeOf25 hs60.drop.tail.tail rfl rfl hP1) rfl ?_
  refine w_call want_none Try.call27 rfl rfl rfl rfl ((c27 (exB 21) p1 hM1.cons.cons.app 0 1 hs60).mono (fun v w' h => by rw [ex_looks2] at h; exact h)) ?_
  rintro _ w64 ⟨B2, a2, c2, rfl, hr2, hs65⟩
  replace hs65 := (show St _ _ (B2 ++ (B1 ++ (_ :: _ :: Z))) from hs65)
  refine w_p (y_move (v := .tuple _) rfl rfl) rfl ?_
  refine w_p (y_extract (v := .slice _ _ _) rfl rfl rfl) rfl ?_
  refine w_p (y_extract (v := .int _ _) rfl rfl rfl) rfl ?_
  refine w_p (y_assign (v := .slice _ _ _) rfl rfl) rfl ?_
  refine w_p (y_assign (v := .int _ _) rfl rfl) rfl ?_
  refine w_nil ?_
  refine q_then (hK61 _ _ ?_)
  refine w_seq (fun K67 hK66 => ?_)
  refine w_region ?_
  refine w_p (y_loadN (vs := [_, _, _]) Try.isAgg25 Try.sizeOf25 hs65.drop.drop.tail.tail rfl rfl hP2) rfl ?_
  refine w_call want_none Try.call30 rfl rfl rfl rfl ((c30 (exB 30) p2 hM2.cons.cons.app.app hs65).mono (fun v w' h => by rw [ex_wrong1] at h; exact h)) ?_
  rintro _ w69 ⟨B3, a3, c3, rfl, hr3, hs70⟩
  replace hs70 := (show St _ _ (B3 ++ (B2 ++ (B1 ++ (_ :: _ :: Z)))) from hs70)
  refine w_p (y_move (v := .tuple _) rfl rfl) rfl ?_
  refine w_p (y_extract (v := .slice _ _ _) rfl rfl rfl) rfl ?_
  refine w_p (y_extract (v := .int _ _) rfl rfl rfl) rfl ?_
  refine w_p (y_assign (v := .slice _ _ _) rfl rfl) rfl ?_
  refine w_p (y_assign (v := .int _ _) rfl rfl) rfl ?_
  refine w_nil ?_
  refine q_then (hK66 _ _ ?_)
  refine w_seq (fun K72 hK71 => ?_)
  refine w_region ?_
  refine w_p (y_loadN (vs := [_, _, _]) Try.isAgg25 Try.sizeOf25 hs70.drop.drop.drop.tail.tail rfl rfl hP2) rfl ?_
  refine w_call want_none Try.call18 rfl rfl rfl rfl ((c18 (exB 30) p2 hM2.cons.cons.app.app.app 0 hs70).mono (fun v w' h => by rw [ex_went2] at h; exact h)) ?_
  rintro _ w74 ⟨rfl, hs75⟩
  refine w_p (y_move (v := .tuple _) rfl rfl) rfl ?_
  refine w_p (y_extract (v := .agg _) rfl rfl rfl) rfl ?_
  refine w_p (y_extract (v := .int _ _) rfl rfl rfl) rfl ?_
  refine w_alloc (cs := [_, _]) want_none Try.zeroValue31 rfl hs75 (fun b76 w77 hs78 => ?_)
  refine w_store (i := 0) (v := .agg #[.int _ _, .int _ _]) (vs := [_, _]) want_none Try.sizeOf31 rfl rfl rfl rfl rfl (by simp [Value.oneCell']) hs78 rfl (Nat.le_of_ble_eq_true rfl) (fun w79 hs80 => ?_)
  refine w_p (y_assign (v := .int _ _) rfl rfl) rfl ?_
  refine w_nil ?_
  refine q_then (hK71 _ _ ?_)
  refine w_seq (fun K82 hK81 => ?_)
  refine w_region ?_
  refine w_p (y_loadN (vs := [_, _, _]) Try.isAgg25 Try.sizeOf25 hs80.tail.drop.drop.drop.tail.tail rfl rfl hP1) rfl ?_
  refine w_call want_none Try.call27 rfl rfl rfl rfl ((c27 (exB 21) p1 hM1.cons.cons.app.app.app.cons 0 (-1) hs80).mono (fun v w' h => by rw [ex_looks3] at h; exact h)) ?_
  rintro _ w84 ⟨B4, a4, c4, rfl, hr4, hs85⟩
  replace hs85 := (show St _ _ (B4 ++ (_ :: B3 ++ (B2 ++ (B1 ++ (_ :: _ :: Z))))) from hs85)
  refine w_p (y_move (v := .tuple _) rfl rfl) rfl ?_
  refine w_p (y_extract (v := .slice _ _ _) rfl rfl rfl) rfl ?_
  refine w_p (y_extract (v := .int _ _) rfl rfl rfl) rfl ?_
  refine w_p (y_assign (v := .slice _ _ _) rfl rfl) rfl ?_
  refine w_p (y_assign (v := .int _ _) rfl rfl) rfl ?_
  refine w_nil ?_
  refine q_then (hK81 _ _ ?_)
  refine w_seq (fun K87 hK86 => ?_)
  refine w_draw [] [(0, 0), (1, 0), (2, 0), (3, 0), (4, 0), (5, 0), (6, 0), (7, 0), (8, 0), (9, 0), (10, 0), (11, 0), (12, 0), (13, 0), (14, 0), (15, 0), (16, 0), (17, 0), (18, 0), (19, 0), (20, 0), (21, 0), (22, 0), (23, 0), (24, 0), (25, 0), (26, 0), (27, 0), (28, 0), (29, 0), (30, 0), (31, 0), (32, 0), (33, 0), (34, 0), (35, 0), (36, 0), (37, 0), (38, 0), (39, 1), (40, 2), (41, 0), (42, 0), (43, 0), (44, 1), (45, 2), (46, 0), (47, 0), (48, 0), (49, 0), (50, 0), (51, 0), (52, 0), (53, 0), (54, 0), (55, 0), (56, 0), (57, 0), (58, 0), (59, 0), (60, 0), (61, 0), (62, 2), (63, 2), (64, 0), (65, 0), (66, 0), (67, 0), (68, 0), (69, 0), (70, 0), (71, 0), (72, 2), (73, 2), (74, 0), (75, 0)] Try_mo (drawOK_of (by kernel_rfl)) hs85 (fun w88 hs89 => ?_)
  refine d_any rfl want_none rfl (fun _ => (y_move (v := .int _ _) rfl rfl)) ?_
  refine d_any rfl want_none rfl (fun _ => (y_eql rfl rfl rfl rfl)) ?_
  refine d_any rfl want_none rfl (fun _ => (y_move (v := .bool _) rfl rfl)) ?_
  refine d_any rfl (want_yes rfl rfl rfl) rfl (fun _ => (y_move (v := .int _ _) rfl rfl)) ?_
  refine d_any rfl (want_yes rfl rfl rfl) rfl (fun _ => (y_eql rfl rfl rfl rfl)) ?_
  refine d_any rfl want_none rfl (fun _ => (y_pickT (v := .bool _) rfl rfl rfl rfl)) ?_
  refine d_any rfl want_none rfl (fun _ => (y_move (v := .bool _) rfl rfl)) ?_
  refine d_any rfl (want_yes rfl rfl rfl) rfl (fun _ => (y_move (v := .int _ _) rfl rfl)) ?_
  refine d_any rfl (want_yes rfl rfl rfl) rfl (fun _ => (y_eql rfl rfl rfl rfl)) ?_
  refine d_any rfl want_none rfl (fun _ => (y_pickT (v := .bool _) rfl rfl rfl rfl)) ?_
  refine d_any rfl want_none rfl (fun _ => (y_move (v := .bool _) rfl rfl)) ?_
  refine d_any rfl (want_yes rfl rfl rfl) rfl (fun _ => (y_move (v := .int _ _) rfl rfl)) ?_
  refine d_any rfl (want_yes rfl rfl rfl) rfl (fun _ => (y_eql rfl rfl rfl rfl)) ?_
  refine d_any rfl want_none rfl (fun _ => (y_pickT (v := .bool _) rfl rfl rfl rfl)) ?_
  refine d_any rfl want_none rfl (fun _ => (y_move (v := .bool _) rfl rfl)) ?_
  refine d_any rfl (want_yes rfl rfl rfl) rfl (fun _ => (y_move (v := .int _ _) rfl rfl)) ?_
  refine d_any rfl (want_yes rfl rfl rfl) rfl (fun _ => (y_eql rfl rfl rfl rfl)) ?_
  refine d_any rfl want_none rfl (fun _ => (y_pickT (v := .bool _) rfl rfl rfl rfl)) ?_
  refine d_any rfl want_none rfl (fun _ => (y_move (v := .bool _) rfl rfl)) ?_
  refine d_any rfl (want_yes rfl rfl rfl) rfl (fun _ => (y_move (v := .int _ _) rfl rfl)) ?_
  refine d_any rfl (want_yes rfl rfl rfl) rfl (fun _ => (y_eql rfl rfl rfl rfl)) ?_
  refine d_any rfl want_none rfl (fun _ => (y_pickT (v := .bool _) rfl rfl rfl rfl)) ?_
  refine d_any rfl want_none rfl (fun _ => (y_move (v := .bool _) rfl rfl)) ?_
  refine d_any rfl (want_yes rfl rfl rfl) rfl (fun _ => (y_move (v := .int _ _) rfl rfl)) ?_
  refine d_any rfl (want_yes rfl rfl rfl) rfl (fun _ => (y_eql rfl rfl rfl rfl)) ?_
  refine d_any rfl want_none rfl (fun _ => (y_pickT (v := .bool _) rfl rfl rfl rfl)) ?_
  refine d_any rfl want_none rfl (fun _ => (y_move (v := .bool _) rfl rfl)) ?_
  refine d_any rfl (want_yes rfl rfl rfl) rfl (fun _ => (y_move (v := .int _ _) rfl rfl)) ?_
  refine d_any rfl (want_yes rfl rfl rfl) rfl (fun _ => (y_eql rfl rfl rfl rfl)) ?_
  refine d_any rfl want_none rfl (fun _ => (y_pickT (v := .bool _) rfl rfl rfl rfl)) ?_
  refine d_any rfl want_none rfl (fun _ => (y_move (v := .bool _) rfl rfl)) ?_
  refine d_any rfl (want_yes rfl rfl rfl) rfl (fun _ => (y_move (v := .int _ _) rfl rfl)) ?_
  refine d_any rfl (want_yes rfl rfl rfl) rfl (fun _ => (y_eql rfl rfl rfl rfl)) ?_
  refine d_any rfl want_none rfl (fun _ => (y_pickT (v := .bool _) rfl rfl rfl rfl)) ?_
  refine d_any rfl want_none rfl (fun _ => (y_move (v := .bool _) rfl rfl)) ?_
  refine d_any rfl (want_yes rfl rfl rfl) rfl (fun _ => (y_move (v := .int _ _) rfl rfl)) ?_
  refine d_any rfl (want_yes rfl rfl rfl) rfl (fun _ => (y_eql rfl rfl rfl rfl)) ?_
  refine d_any rfl want_none rfl (fun _ => (y_pickT (v := .bool _) rfl rfl rfl rfl)) ?_
  refine d_any rfl want_none rfl (fun _ => (y_move (v := .bool _) rfl rfl)) ?_
  refine d_take rfl (want_yes rfl rfl rfl) rfl hs89 (fun _ hq => (y_loadN (vs := [_, _]) Try.isAgg31 Try.sizeOf31 hq.drop.tail.drop.drop.drop.tail rfl rfl hx3)) ?_
  refine d_eff rfl ?_
  refine w_call (want_yes rfl rfl rfl) Try.call33 rfl rfl rfl rfl (c33 _ _ hs89) ?_
  rintro _ w91 ⟨rfl, hs92⟩
  refine w_nil ?_
  refine qn ⟨hs92, ?_⟩
  refine d_any rfl (want_yes rfl rfl rfl) rfl (fun _ => (y_eqFlat (l := [_, _]) (m := [_, _]) Try.eqGuardType31 Try_flat31 (by first | omega | rfl | (simp only [List.length_map, List.length_set, List.length_append, List.length_take, List.length_drop, List.length_replicate, List.length_cons, List.length_nil] <;> omega)) (by first | omega | rfl | (simp only [List.length_map, List.length_set, List.length_append, List.length_take, List.length_drop, List.length_replicate, List.length_cons, List.length_nil] <;> omega)) rfl rfl rfl rfl rfl rfl)) ?_
  refine d_any rfl want_none rfl (fun _ => (y_pickT (v := .bool _) rfl rfl rfl rfl)) ?_
  refine d_any rfl want_none rfl (fun _ => (y_move (v := .bool _) rfl rfl)) ?_
  refine d_split (fun h93 => ?_) (fun h93 => ?_)
  ·
   try simp only [zA, zB, zC, zD, zE, zF] at h93
   refine d_take rfl (want_yes rfl rfl rfl) rfl hs92 (fun _ hq => (y_loadN (vs := [_, _]) Try.isAgg31 Try.sizeOf31 hq.drop.tail.drop.drop.drop rfl rfl hx5)) ?_
   refine d_eff rfl ?_
   refine w_call (want_yes rfl rfl rfl) Try.call33 rfl rfl rfl rfl (c33 _ _ hs92) ?_
   rintro _ w95 ⟨rfl, hs96⟩
   refine w_nil ?_
   refine qn ⟨hs96, ?_⟩
   refine d_any rfl (want_yes rfl rfl rfl) rfl (fun _ => (y_eqFlat (l := [_, _]) (m := [_, _]) Try.eqGuardType31 Try_flat31 (by first | omega | rfl | (simp only [List.length_map, List.length_set, List.length_append, List.length_take, List.length_drop, List.length_replicate, List.length_cons, List.length_nil] <;> omega)) (by first | omega | rfl | (simp only [List.length_map, List.length_set, List.length_append, List.length_take, List.length_drop, List.length_replicate, List.length_cons, List.length_nil] <;> omega)) rfl rfl rfl rfl rfl rfl)) ?_
   refine d_any rfl want_none rfl (fun _ => (y_pickT (v := .bool _) rfl rfl rfl rfl)) ?_
   refine d_any rfl want_none rfl (fun _ => (y_move (v := .bool _) rfl rfl)) ?_
   refine d_split (fun h97 => ?_) (fun h97 => ?_)
   ·
    try simp only [zA, zB, zC, zD, zE, zF] at h97
    refine d_any rfl (want_yes rfl rfl rfl) rfl (fun _ => (y_move (v := .int _ _) rfl rfl)) ?_
    refine d_any rfl (want_yes rfl rfl rfl) rfl (fun _ => (y_eql rfl rfl rfl rfl)) ?_
    refine d_any rfl want_none rfl (fun _ => (y_pickT (v := .bool _) rfl rfl rfl rfl)) ?_
    refine d_any rfl want_none rfl (fun _ => (y_move (v := .bool _) rfl rfl)) ?_
    refine d_any rfl (want_yes rfl rfl rfl) rfl (fun _ => (y_move (v := .int _ _) rfl rfl)) ?_
    refine d_any rfl (want_yes rfl rfl rfl) rfl (fun _ => (y_eql rfl rfl rfl rfl)) ?_
    refine d_any rfl want_none rfl (fun _ => (y_pickT (v := .bool _) rfl rfl rfl rfl)) ?_
    refine d_any rfl want_none rfl (fun _ => (y_move (v := .bool _) rfl rfl)) ?_
    refine d_any rfl (want_yes rfl rfl rfl) rfl (fun _ => (y_move (v := .int _ _) rfl rfl)) ?_
    refine d_any rfl (want_yes rfl rfl rfl) rfl (fun _ => (y_eql rfl rfl rfl rfl)) ?_
    refine d_any rfl want_none rfl (fun _ => (y_pickT (v := .bool _) rfl rfl rfl rfl)) ?_
    refine d_any rfl want_none rfl (fun _ => (y_move (v := .bool _) rfl rfl)) ?_
    refine d_any rfl (want_yes rfl rfl rfl) rfl (fun _ => (y_move (v := .slice _ _ _) rfl rfl)) ?_
    refine d_eff rfl ?_
    refine w_bslice (ps := [(0, _)]) (pv := [(0, .int _ _)]) (cs := [_]) (want_yes rfl rfl rfl) rfl rfl (fun w => Try_Ya_fb17 _ w) hs96 (fun b98 w99 hs100 => ?_)
    refine w_nil ?_
    refine qn ⟨hs100.tail, ?_⟩
    refine d_eff rfl ?_
    refine w_call (want_yes rfl rfl rfl) Try.call29 rfl rfl rfl rfl (con_true (c29 _ _ [0] [0] _ _ (by decide) hr1.top.app.app.cons.app.cons (sl_own (i := 0) (rows := [[_]]) rfl (by simp) rfl) hs100) (by decide)) ?_
    rintro _ w102 ⟨rfl, hs103⟩
    refine w_nil ?_
    refine qn ⟨hs103.tail, ?_⟩
    refine d_any rfl want_none rfl (fun _ => (y_pickT (v := .bool _) rfl rfl rfl rfl)) ?_
    refine d_any rfl want_none rfl (fun _ => (y_move (v := .bool _) rfl rfl)) ?_
    refine d_any rfl (want_yes rfl rfl rfl) rfl (fun _ => (y_move (v := .slice _ _ _) rfl rfl)) ?_
    refine d_any rfl (want_yes rfl rfl rfl) rfl (fun _ => (y_lenS Try.underlying39 rfl rfl)) ?_
    refine d_any rfl (want_yes rfl rfl rfl) rfl (fun _ => (y_eql rfl rfl rfl rfl)) ?_
    refine d_any rfl want_none rfl (fun _ => (y_pickT (v := .bool _) rfl rfl rfl rfl)) ?_
    refine d_any rfl want_none rfl (fun _ => (y_move (v := .bool _) rfl rfl)) ?_
    refine d_split (fun h104 => ?_) (fun h104 => ?_)
    ·
     try simp only [zA, zB, zC, zD, zE, zF] at h104
     refine d_any rfl (want_yes rfl rfl rfl) rfl (fun _ => (y_move (v := .slice _ _ _) rfl rfl)) ?_
     refine d_eff rfl ?_
     refine w_bslice (ps := [(0, _)]) (pv := [(0, .int _ _)]) (cs := [_]) (want_yes rfl rfl rfl) rfl rfl (fun w => Try_Ya_fb17 _ w) hs103 (fun b105 w106 hs107 => ?_)
     refine w_nil ?_
     refine qn ⟨hs107.tail.tail, ?_⟩
     refine d_eff rfl ?_
     refine w_call (want_yes rfl rfl rfl) Try.call29 rfl rfl rfl rfl (con_true (c29 _ _ [5] [5] _ _ (by decide) hr3.top.cons.app.cons.cons (sl_own (i := 0) (rows := [[_]]) rfl (by simp) rfl) hs107) (by decide)) ?_
     rintro _ w109 ⟨rfl, hs110⟩
     refine w_nil ?_
     refine qn ⟨hs110.tail.tail, ?_⟩
     refine d_any rfl want_none rfl (fun _ => (y_pickT (v := .bool _) rfl rfl rfl rfl)) ?_
     refine d_any rfl want_none rfl (fun _ => (y_assign (v := .bool _) rfl rfl)) ?_
     refine d_nil ?_
     refine q_then (hK86 _ _ ?_)
     refine w_ret ?_
     refine q_ret (l := [.tmp 0]) (vs := [_]) rfl ⟨⟨rfl, show _ = (.bool _ : Value) from rfl⟩, trivial⟩ ?_
     exact ⟨rfl, (St.cast hZ hs110.tail.tail.drop.tail.drop.drop.drop.tail.tail).tail.tail.drop.drop⟩
    ·
     exfalso; simp at h104
   ·
    exfalso; simp at h97
  ·
   exfalso; simp at h93

end Go.Proofs
/- Walks of this seat, printed by gen.py over the engine: what each function returns, in whatever world. No conditions but those of each contract. -/
set_option linter.unusedVariables false
set_option linter.unusedSimpArgs false
set_option maxRecDepth 20000
set_option maxHeartbeats 1600000
namespace Go.Proofs
open Go.Rt Go.Rt.Ch
open Go.Rt.Ha (firstE firstE_step firstE_stop firstE_end failE nameE felt spanL upto span_mem listL fewest fewTo bit before fewStep drop_lt drop_get drop_next drop_done drop_notin set_take set_zero take_less Lot Bunch feltTo fTo fPart felt_zero felt_step fTo_succ fTo_len fPart_succ fPart_len fPart_all filt_yes filt_no upto_len at_ someOf choicesTo cfind_here cfind_next cfind_on choices_fin pick_idx pickL_in find_on find_next rising rising_step rising_end rising_stop list_rising before_fewer)
attribute [local irreducible] WL WC Con Yd At Ats Sl Agree DW
theorem Try_Zj_fb9  (w : World) : (Instr.buildSlice 23 0 [].toArray).run Try.prog w = .ok (.slice (some ⟨w.heap.size, 0, none⟩) 0 0) (w.alloc (Go.Rt.blk 76 [])) := by kernel_rfl
theorem Try_Zj_fb10  (w : World) : (Instr.buildSlice 39 0 [].toArray).run Try.prog w = .ok (.slice (some ⟨w.heap.size, 0, none⟩) 0 0) (w.alloc (Go.Rt.blk 3 [])) := by kernel_rfl
theorem ats_castB {w0 : World} {L : List (Nat × Obj)} {b o : Nat} {vs vs2 : List Value} (h : Ats w0 L b o vs) (e : vs2 = vs) : Ats w0 L b o vs2 := by rw [e]; exact h
theorem krows_put {l : List Ctr} {q : Nat → AtC} {u : Nat} {d : Ctr} {a : Option Addr} {c : Nat} {row : List Value} (hu : u < l.length) (hr : row = d.cells (setPc q u a c u)) : (krows l q).set u row = krows (l.set u d) (setPc q u a c) := by
  apply List.ext_getElem
  · simp [krows]
  · intro i h1 h2
    have hi : i < l.length := by simpa [krows] using h1
    simp only [krows, List.getElem_set, List.getElem_mapIdx]
    by_cases e : u = i
    · subst e; rw [if_pos rfl, if_pos rfl]; exact hr
    · rw [if_neg e, if_neg e]; unfold setPc; rw [if_neg (fun h => e h.symm)]
theorem set_bin {w0 : World} {Z : List (Nat × Obj)} {b : Board} {p : AtB} {u cK c2 : Nat} {aK a2 : Option Addr} {d : Ctr} (hm : BIn w0 Z b p) (hu : u < b.ctrs.length) (hK : Sl w0 Z aK 6 (krows (b.ctrs.set u d) (setPc p.pc u a2 c2))) (hS : Sl w0 Z a2 1 (d.shown.map fun x => [Value.int .i64 x])) (hz : d.zero = b.ctrs[u].zero) (hls : d.shown.length ≤ 9223372036854775807 ∧ d.shown.length ≤ c2) (hnm : d.name = b.ctrs[u].name) (hcK : b.ctrs.length ≤ cK) : BIn w0 Z (setC b u d) ⟨p.ah, p.ch, aK, cK, setPc p.pc u a2 c2⟩ := by
  have hl : (setC b u d).ctrs.length = b.ctrs.length := List.length_set
  have get : ∀ i (hi : i < (setC b u d).ctrs.length), (i = u ∧ (setC b u d).ctrs[i] = d) ∨ (∃ hi2 : i < b.ctrs.length, i ≠ u ∧ (setC b u d).ctrs[i] = b.ctrs[i]) := by
    intro i hi
    have hi2 : i < b.ctrs.length := by rw [hl] at hi; exact hi
    have e : (setC b u d).ctrs[i] = if u = i then d else b.ctrs[i] := List.getElem_set ..
    by_cases e2 : u = i
    · left; exact ⟨e2.symm, by rw [e, if_pos e2]⟩
    · right; exact ⟨hi2, fun h => e2 h.symm, by rw [e, if_neg e2]⟩
  have pcu : setPc p.pc u a2 c2 u = { p.pc u with «as» := a2, cs := c2 } := by unfold setPc; rw [if_pos rfl]
  have pcn : ∀ i, i ≠ u → setPc p.pc u a2 c2 i = p.pc i := fun i h => by unfold setPc; rw [if_neg h]
  refine ⟨hm.h, hK, fun i hi => ?_, fun i hi => ?_, hm.lh, by rw [hl]; exact hm.lc, hm.ch, by rw [hl]; exact hcK, fun i hi => ?_, fun i hi => ?_, fun x hx => ?_⟩
  · rcases get i hi with ⟨e, e2⟩ | ⟨hi2, hn, e2⟩
    · subst e; rw [e2, hz]; show Sl w0 Z (setPc p.pc i a2 c2 i).az 1 _; rw [pcu]; exact hm.z i hu
    · rw [e2]; show Sl w0 Z (setPc p.pc u a2 c2 i).az 1 _; rw [pcn i hn]; exact hm.z i hi2
  · rcases get i hi with ⟨e, e2⟩ | ⟨hi2, hn, e2⟩
    · subst e; rw [e2]; show Sl w0 Z (setPc p.pc i a2 c2 i).as 1 _; rw [pcu]; exact hS
    · rw [e2]; show Sl w0 Z (setPc p.pc u a2 c2 i).as 1 _; rw [pcn i hn]; exact hm.s i hi2
  · rcases get i hi with ⟨e, e2⟩ | ⟨hi2, hn, e2⟩
    · subst e; rw [e2, hz]; show _ ∧ _ ≤ (setPc p.pc i a2 c2 i).cz; rw [pcu]; exact hm.lz i hu
    · rw [e2]; show _ ∧ _ ≤ (setPc p.pc u a2 c2 i).cz; rw [pcn i hn]; exact hm.lz i hi2
  · rcases get i hi with ⟨e, e2⟩ | ⟨hi2, hn, e2⟩
    · subst e; rw [e2]; show _ ∧ _ ≤ (setPc p.pc i a2 c2 i).cs; rw [pcu]; exact hls
    · rw [e2]; show _ ∧ _ ≤ (setPc p.pc u a2 c2 i).cs; rw [pcn i hn]; exact hm.ls i hi2
  · rcases List.mem_or_eq_of_mem_set hx with h | h
    · exact hm.nm x h
    · rw [h, hnm]; exact hm.nm _ (List.getElem_mem hu)
theorem wi_yB {a b c d : Int} (h : c ≤ a ∧ b ≤ d) : (decide (c ≤ a) && decide (b ≤ d)) = true := by simp [h]
theorem c12 {w0 w : World} {F : List (Nat × Obj)} (b : Board) (p : AtB) (hm : BIn w0 F b p) (hnl : ∀ i, i < b.ctrs.length → (p.pc i).as = none → (p.pc i).cs = 0) (hnc : p.ac = none → p.cc = 0) (e0 e1 e2 e3 e4 : Int) (he0 : 0 ≤ e0 ∧ e0 ≤ 255) (he1 : 0 ≤ e1 ∧ e1 ≤ 255) (he2 : 0 ≤ e2 ∧ e2 ≤ 255) (he3 : 0 ≤ e3 ∧ e3 ≤ 255) (he4 : 0 ≤ e4 ∧ e4 ≤ 255) (hs : St w0 w F) :
  Con Try.prog 12 [.agg (b.cells p).toArray, .agg #[.int .u8 e0, .int .u8 e1, .int .u8 e2, .int .u8 e3, .int .u8 e4]] w fun v w' => v = .bool true ∧ St w0 w' F := by
  refine con_of_wc (n := 223) Try.func12 rfl rfl (Nat.le_of_ble_eq_true rfl) ?_
  have hlh0 := hm.lh
  have hlc0 := hm.lc
  refine w_seq (fun K2 hK1 => ?_)
  refine w_region ?_
  refine w_box (v := .agg #[.int _ _, .slice _ _ _, .slice _ _ _]) (cs := [_, _, _]) want_none rfl rfl rfl hs (fun b3 w4 hs5 => ?_)
  refine w_box (v := .agg #[.int _ _, .int _ _, .int _ _, .int _ _, .int _ _]) (cs := [_, _, _, _, _]) want_none rfl rfl rfl hs5 (fun b6 w7 hs8 => ?_)
  refine w_p (y_assign (v := _) rfl rfl) rfl ?_
  refine w_nil ?_
  refine q_then (hK1 _ _ ?_)
  refine w_seq (fun K10 hK9 => ?_)
  refine w_seq (fun K12 hK11 => ?_)
  have hbx := ats_ofK (i := 1) (vs := b.cells p) hs8 rfl rfl
  have hb3 := ats_ofL (i := 0) (vs := [_, _, _, _, _]) hs8 rfl rfl
  refine w_region ?_
  refine w_p (y_loadN (vs := [_, _, _]) Try.isAgg25 Try.sizeOf25 hs8 rfl rfl hbx) rfl ?_
  refine w_call want_none Try.call45 rfl rfl rfl rfl (c45 b p hm.cons.cons hs8) ?_
  rintro _ w14 ⟨rfl, hs15⟩
  refine w_p (y_not rfl rfl) rfl ?_
  refine w_p (y_move (v := .bool _) rfl rfl) rfl ?_
  refine w_split (fun h16 => ?_) (fun h16 => ?_)
  ·
   try simp only [zA, zB, zC, zD, zE, zF] at h16
   refine w_skipop rfl rfl rfl ?_
   refine w_skipop rfl rfl rfl ?_
   refine w_skipop rfl rfl rfl ?_
   refine w_skipop rfl rfl rfl ?_
   refine w_p (y_pickT (v := _) rfl rfl rfl rfl) rfl ?_
   refine w_nil ?_
   refine q_then (hK11 _ _ ?_)
   refine w_condT rfl rfl ?_
   refine w_seq (fun K18 hK17 => ?_)
   refine w_region ?_
   refine w_call want_none Try.call22 rfl rfl rfl rfl (c22 hs15) ?_
   rintro _ w20 ⟨rfl, hs21⟩
   refine w_p (y_assign (v := .bool _) rfl rfl) rfl ?_
   refine w_nil ?_
   refine q_then (hK17 _ _ ?_)
   refine w_ret ?_
   refine q_then_ret ?_
   refine q_ret (l := [.tmp 4]) (vs := [_]) rfl ⟨⟨rfl, show _ = (.bool _ : Value) from rfl⟩, trivial⟩ ?_
   exact ⟨rfl, hs21.tail.tail⟩
  ·
   try simp only [zA, zB, zC, zD, zE, zF] at h16
   refine w_y rfl rfl rfl (y_fieldAddr (o := 2) (i := 2) Try.underlying25 rfl Try.sizeOf23 rfl rfl rfl) rfl ?_
   refine w_y rfl rfl rfl (y_load1 Try.isAgg23 hs15 rfl rfl (show Ats _ _ _ _ [_] from Ats.part hbx 2 1)) rfl ?_
   refine w_y rfl rfl rfl (y_lenS Try.underlying23 rfl rfl) rfl ?_
   refine w_y rfl rfl rfl (y_eql rfl rfl rfl rfl) rfl ?_
   refine w_p (y_pickF (v := .bool _) rfl rfl rfl rfl) rfl ?_
   refine w_nil ?_
   refine q_then (hK11 _ _ ?_)
   refine w_cond rfl rfl (fun h22 => ?_) (fun h22 => ?_)
   ·
    try simp only [zA, zB, zC, zD, zE, zF] at h22
    refine w_seq (fun K24 hK23 => ?_)
    refine w_region ?_
    refine w_call want_none Try.call22 rfl rfl rfl rfl (c22 hs15) ?_
    rintro _ w26 ⟨rfl, hs27⟩
    refine w_p (y_assign (v := .bool _) rfl rfl) rfl ?_
    refine w_nil ?_
    refine q_then (hK23 _ _ ?_)
    refine w_ret ?_
    refine q_then_ret ?_
    refine q_ret (l := [.tmp 4]) (vs := [_]) rfl ⟨⟨rfl, show _ = (.bool _ : Value) from rfl⟩, trivial⟩ ?_
    exact ⟨rfl, hs27.tail.tail⟩
   ·
    try simp only [zA, zB, zC, zD, zE, zF] at h22
    refine w_skip ?_
    refine q_then (hK9 _ _ ?_)
    refine w_seq (fun K29 hK28 => ?_)
    have hso : someB b = true := by assumption
    obtain ⟨hck, hok, hne⟩ := someB_y hso
    have hlh := hok.lh
    have hlc := hok.lc
    have hho := hok.holds
    have hc0 : 0 < b.ctrs.length := by omega
    refine w_region ?_
    refine w_p (y_loadN (vs := [_, _, _]) Try.isAgg25 Try.sizeOf25 hs15 rfl rfl hbx) rfl ?_
    refine w_alloc (cs := [_, _, _]) want_none Try.zeroValue25 rfl hs15 (fun b30 w31 hs32 => ?_)
    refine w_store (i := 0) (v := .agg #[.int _ _, .slice _ _ _, .slice _ _ _]) (vs := [_, _, _]) want_none Try.sizeOf25 rfl rfl rfl rfl rfl (by simp [Value.oneCell']) hs32 rfl (Nat.le_of_ble_eq_true rfl) (fun w33 hs34 => ?_)
    refine w_nil ?_
    refine q_then (hK28 _ _ ?_)
    refine w_seq (fun K36 hK35 => ?_)
    refine w_region ?_
    refine w_bslice (ps := []) (pv := []) (cs := []) want_none rfl rfl (fun w => Try_Zj_fb9  w) hs34 (fun b37 w38 hs39 => ?_)
    refine w_p (y_fieldAddr (o := 2) (i := 2) Try.underlying25 rfl Try.sizeOf23 rfl rfl rfl) rfl ?_
    refine w_p (y_load1 Try.isAgg23 hs39.tail.tail rfl rfl (show Ats _ _ _ _ [_] from Ats.part hbx 2 1)) rfl ?_
    refine w_append (X := ([])) (B := [_]) (rows := (krows b.ctrs p.pc)) (sz := 6) (bytes := 88) want_none Try.underlying23 Try_info76 rfl rfl rfl rfl rfl rfl rfl rfl rfl hs39 own_made hm.c.cons.cons.cons.cons (by simp [krows]) hnc (krows_one _ _) (by simp only [maxLen]; omega) (by omega) (fun v40 w41 B42 ho43 hs44 => ?_)
    replace hs44 := (show St _ _ (B42 ++ (_ :: _ :: _ :: F)) from hs44)
    have hs45 := St.perm (L := B42 ++ ([_] ++ _)) hs44 (perm_mid B42 [_] _)
    replace hs45 := (show St _ _ (_ :: (B42 ++ _)) from hs45)
    have hownK : Rt.Own v40 76 6 b.ctrs.length (krows b.ctrs p.pc).flatten B42 := by
      have h9 := ho43
      rw [Nat.zero_add, List.nil_append] at h9
      exact h9
    obtain ⟨aK, cK, rfl⟩ := hownK.slice
    obtain ⟨bK, csK, rfl, hBK, hcapK, hcapmK, hclK, htkK⟩ := own_some2 hownK (by omega)
    subst hBK
    replace hs45 := (show St _ _ (_ :: _ :: _ :: _ :: F) from hs45)
    refine w_p (y_fieldAddr (o := 2) (i := 2) Try.underlying25 rfl Try.sizeOf23 rfl rfl rfl) rfl ?_
    refine w_store (i := 0) (v := .slice _ _ _) (vs := [_]) want_none Try.sizeOf23 rfl rfl rfl rfl rfl (by simp [Value.oneCell']) hs45 rfl (Nat.le_of_ble_eq_true rfl) (fun w46 hs47 => ?_)
    refine w_nil ?_
    refine q_then (hK35 _ _ ?_)
    refine w_seq (fun K49 hK48 => ?_)
    refine w_region ?_
    refine w_p (y_fieldAddr (o := 0) (i := 0) Try.underlying74 rfl Try.sizeOf5 rfl rfl rfl) rfl ?_
    refine w_p (y_load1 Try.isAgg5 hs47.tail.tail rfl rfl (show Ats _ _ _ _ [_] from Ats.part hb3 0 1)) rfl ?_
    refine w_p (y_u8int (by rw [Try.underlying5]; rfl) Try.underlying3 rfl rfl (by omega) (by omega)) rfl ?_
    refine w_p (y_fieldAddr (o := 2) (i := 2) Try.underlying25 rfl Try.sizeOf23 rfl rfl rfl) rfl ?_
    refine w_p (y_load1 Try.isAgg23 hs47.tail.tail rfl rfl (show Ats _ _ _ _ [_] from Ats.part hbx 2 1)) rfl ?_
    refine w_p (y_lenS Try.underlying23 rfl rfl) rfl ?_
    refine w_p (y_rem rfl rfl rfl rfl (by omega) (by omega)) rfl ?_
    refine w_p (y_assign (v := .int _ _) rfl rfl) rfl ?_
    refine w_nil ?_
    refine q_then (hK48 _ _ ?_)
    refine w_seq (fun K51 hK50 => ?_)
    have hzmu := Int.emod_nonneg e0 (show (b.ctrs.length : Int) ≠ 0 by omega)
    have hzlu := Int.emod_lt_of_pos e0 (show 0 < (b.ctrs.length : Int) by omega)
    obtain ⟨u, hu⟩ : ∃ u : Nat, e0 % (b.ctrs.length : Int) = (u : Int) := ⟨(e0 % (b.ctrs.length : Int)).toNat, by omega⟩
    have hu2 : u < b.ctrs.length := by omega
    rw [hu]
    have hcu := hok.ctr _ (List.getElem_mem hu2)
    have hlu := hcu.ls
    have hsk := hcu.skip
    have htw := hcu.twice
    obtain ⟨bq, oq, hbq, hrow⟩ := sl_krows (sl_own (w0 := w0) (L := (bK, blk 76 csK) :: ((b6, blk 74 [.int .u8 e0, .int .u8 e1, .int .u8 e2, .int .u8 e3, .int .u8 e4]) :: (b3, blk 25 (b.cells p)) :: F)) (i := 0) rfl (krows_row b.ctrs p.pc) (by rw [krows_len]; exact htkK)) (i := u) hu2
    cases hbq
    refine w_region ?_
    refine w_p (y_fieldAddr (o := 2) (i := 2) Try.underlying25 rfl Try.sizeOf23 rfl rfl rfl) rfl ?_
    refine w_p (y_load1 Try.isAgg23 hs47 rfl rfl (ats_own (i := 0) (vs := [_]) rfl rfl)) rfl ?_
    refine w_p (y_move (v := .int _ _) rfl rfl) rfl ?_
    refine w_p (y_indexS Try.underlying23 Try.sizeOf76 rfl rfl rfl rfl (i := u) rfl hu2) rfl ?_
    refine w_p (y_loadN (vs := [_, _, _, _, _, _]) Try.isAgg76 Try.sizeOf76 hs47.tail rfl rfl hrow) rfl ?_
    refine w_alloc (cs := [_, _, _, _, _, _]) want_none Try.zeroValue76 rfl hs47 (fun b52 w53 hs54 => ?_)
    refine w_store (i := 0) (v := .agg #[.string _, .int _ _, .int _ _, .int _ _, .slice _ _ _, .slice _ _ _]) (vs := [_, _, _, _, _, _]) want_none Try.sizeOf76 rfl rfl rfl rfl rfl (by simp [Value.oneCell']) hs54 rfl (Nat.le_of_ble_eq_true rfl) (fun w55 hs56 => ?_)
    refine w_nil ?_
    refine q_then (hK50 _ _ ?_)
    refine w_seq (fun K58 hK57 => ?_)
    refine w_drawD (C0 := fun w => St w0 w _) (C := fun w => ∃ c : Int, St w0 w ((b52, blk 76 [.string (b.ctrs[u]'hu2).name, .int .i64 c, .int .i64 (b.ctrs[u]'hu2).twice, .int .i64 (b.ctrs[u]'hu2).start, .slice (p.pc u).az (b.ctrs[u]'hu2).zero.length (p.pc u).cz, .slice (p.pc u).as (b.ctrs[u]'hu2).shown.length (p.pc u).cs]) :: (b30, blk 25 [.int .i64 b.holds, .slice p.ah b.hours.length p.ch, .slice (some ⟨bK, 0, none⟩) b.ctrs.length cK]) :: (bK, blk 76 csK) :: ((b6, blk 74 [.int .u8 e0, .int .u8 e1, .int .u8 e2, .int .u8 e3, .int .u8 e4]) :: (b3, blk 25 (b.cells p)) :: F))) [19] [(0, 0), (2, 0), (3, 1), (4, 0), (5, 0), (8, 0), (9, 1), (10, 0), (11, 1), (12, 0), (13, 0), (14, 0), (15, 0), (1, 2), (6, 0), (7, 0), (16, 0), (17, 2), (18, 0), (19, 3)] Try_mo (drawOK_of (by kernel_rfl)) hs56 (fun _ h => ⟨_, h⟩) (fun _ h => h.drew) (fun w59 hs60 => ?_)
    refine d_any rfl want_none rfl (fun _ => (y_fieldAddr (o := 1) (i := 1) Try.underlying76 rfl Try.sizeOf3 rfl rfl rfl)) ?_
    refine d_any rfl want_none rfl (fun _ => (y_fieldAddr (o := 1) (i := 1) Try.underlying74 rfl Try.sizeOf5 rfl rfl rfl)) ?_
    refine d_takeC rfl want_none rfl ⟨_, hs60⟩ (fun _ ⟨c7, hq⟩ => (y_load1 Try.isAgg5 hq.tail.tail.tail rfl rfl (show Ats _ _ _ _ [_] from Ats.part hb3 1 1))) ?_
    refine d_any rfl want_none rfl (fun _ => (y_u8int (by rw [Try.underlying5]; rfl) Try.underlying3 rfl rfl (by omega) (by omega))) ?_
    refine d_any rfl want_none rfl (fun _ => (y_rem rfl rfl rfl rfl (by omega) (by omega))) ?_
    refine d_any rfl want_none rfl (fun _ => (y_fieldAddr (o := 2) (i := 2) Try.underlying76 rfl Try.sizeOf3 rfl rfl rfl)) ?_
    refine d_takeC rfl want_none rfl ⟨_, hs60⟩ (fun _ ⟨c7, hq⟩ => (y_load1 Try.isAgg3 hq rfl rfl (ats_own (i := 0) (vs := [_]) rfl rfl))) ?_
    refine d_any rfl want_none rfl (fun _ => (y_fieldAddr (o := 2) (i := 2) Try.underlying74 rfl Try.sizeOf5 rfl rfl rfl)) ?_
    refine d_takeC rfl want_none rfl ⟨_, hs60⟩ (fun _ ⟨c7, hq⟩ => (y_load1 Try.isAgg5 hq.tail.tail.tail rfl rfl (show Ats _ _ _ _ [_] from Ats.part hb3 2 1))) ?_
    refine d_any rfl want_none rfl (fun _ => (y_u8int (by rw [Try.underlying5]; rfl) Try.underlying3 rfl rfl (by omega) (by omega))) ?_
    refine d_any rfl want_none rfl (fun _ => (y_rem rfl rfl rfl rfl (by omega) (by omega))) ?_
    refine d_any rfl want_none rfl (fun _ => (y_sub rfl rfl rfl rfl (by omega) (by omega))) ?_
    refine d_any rfl want_none rfl (fun _ => (y_max2 rfl rfl rfl rfl)) ?_
    refine d_eff rfl ?_
    refine w_p (y_load1 Try.isAgg3 hs60 rfl rfl (ats_own (i := 0) (vs := [_]) rfl rfl)) rfl ?_
    refine w_nil ?_
    refine qn ⟨⟨_, hs60⟩, ?_⟩
    refine d_any rfl want_none rfl (fun _ => (y_sub rfl rfl rfl rfl (by omega) (by omega))) ?_
    refine d_any rfl want_none rfl (fun _ => (y_max2 rfl rfl rfl rfl)) ?_
    refine d_any rfl want_none rfl (fun _ => (y_fieldAddr (o := 1) (i := 1) Try.underlying76 rfl Try.sizeOf3 rfl rfl rfl)) ?_
    refine d_eff rfl ?_
    refine w_store (i := 0) (v := .int _ _) (vs := [_]) want_none Try.sizeOf3 rfl rfl rfl rfl rfl (by simp [Value.oneCell']) hs60 rfl (Nat.le_of_ble_eq_true rfl) (fun w61 hs62 => ?_)
    refine w_nil ?_
    refine qn ⟨⟨_, hs62⟩, ?_⟩
    refine d_any rfl want_none rfl (fun _ => (y_fieldAddr (o := 2) (i := 2) Try.underlying76 rfl Try.sizeOf3 rfl rfl rfl)) ?_
    refine d_late rfl ?_
    refine w_store (i := 0) (v := .int _ _) (vs := [_]) want_none Try.sizeOf3 rfl rfl rfl rfl rfl (by simp [Value.oneCell']) hs62 rfl (Nat.le_of_ble_eq_true rfl) (fun w63 hs64 => ?_)
    refine w_nil ?_
    refine qn ?_
    refine d_nil ?_
    refine q_then (hK57 _ _ ?_)
    refine w_seq (fun K66 hK65 => ?_)
    refine w_region ?_
    refine w_bslice (ps := []) (pv := []) (cs := []) want_none rfl rfl (fun w => Try_Zj_fb10  w) hs64 (fun b67 w68 hs69 => ?_)
    refine w_p (y_fieldAddr (o := 5) (i := 5) Try.underlying76 rfl Try.sizeOf39 rfl rfl rfl) rfl ?_
    refine w_p (y_load1 Try.isAgg39 hs69 rfl rfl (ats_own (i := 1) (vs := [_]) rfl rfl)) rfl ?_
    refine w_append (X := ([])) (B := [_]) (rows := ((b.ctrs[u]'hu2).shown.map fun x => [Value.int .i64 x])) (sz := 1) (bytes := 8) want_none Try.underlying39 Try_info3 rfl rfl rfl rfl rfl rfl rfl rfl rfl hs69 own_made (hm.s u hu2).cons.cons.cons.cons.cons.cons (by simp [krows]) (hnl u hu2) (ints1_one _) (by simp only [maxLen]; omega) (by omega) (fun v70 w71 B72 ho73 hs74 => ?_)
    replace hs74 := (show St _ _ (B72 ++ (_ :: _ :: _ :: _ :: _ :: F)) from hs74)
    have hs75 := St.perm (L := B72 ++ ([_, _, _] ++ _)) hs74 (perm_mid B72 [_, _, _] _)
    replace hs75 := (show St _ _ (_ :: _ :: _ :: (B72 ++ _)) from hs75)
    have hown2 : Rt.Own v70 3 1 (b.ctrs[u]'hu2).shown.length (iv (b.ctrs[u]'hu2).shown) B72 := by
      have h9 := ho73
      rw [Nat.zero_add, List.nil_append, ints_rows] at h9
      exact h9
    obtain ⟨a2, c2, rfl⟩ := hown2.slice
    refine w_p (y_fieldAddr (o := 5) (i := 5) Try.underlying76 rfl Try.sizeOf39 rfl rfl rfl) rfl ?_
    refine w_store (i := 0) (v := .slice _ _ _) (vs := [_]) want_none Try.sizeOf39 rfl rfl rfl rfl rfl (by simp [Value.oneCell']) hs75 rfl (Nat.le_of_ble_eq_true rfl) (fun w76 hs77 => ?_)
    refine w_nil ?_
    refine q_then (hK65 _ _ ?_)
    refine w_seq (fun K79 hK78 => ?_)
    refine w_cut [8, 76, 77, 78, 79, 80, 81, 82, 83, 84, 85, 86, 87, 88, 89, 90, 91, 92, 93, 94, 95, 96, 97, 98, 99, 100] [] (fun vs w => vs = [] ∧ ∃ (sh : List Int) (SB : List (Nat × Obj)), ShOk b.hours.length (b.ctrs[u]'hu2) sh ∧ Rt.Own (.slice a2 (b.ctrs[u]'hu2).shown.length c2) 3 1 (b.ctrs[u]'hu2).shown.length (iv sh) SB ∧ St w0 w ((b52, blk 76 [.string (b.ctrs[u]'hu2).name, .int .i64 (max 0 ((b.ctrs[u]'hu2).skip - e1 % 3)), .int .i64 (max 0 ((b.ctrs[u]'hu2).twice - e2 % 3)), .int .i64 (b.ctrs[u]'hu2).start, .slice (p.pc u).az (b.ctrs[u]'hu2).zero.length (p.pc u).cz, .slice a2 (b.ctrs[u]'hu2).shown.length c2]) :: (b30, blk 25 [.int .i64 b.holds, .slice p.ah b.hours.length p.ch, .slice (some ⟨bK, 0, none⟩) b.ctrs.length cK]) :: (bK, blk 76 csK) :: (SB ++ ((b6, blk 74 [.int .u8 e0, .int .u8 e1, .int .u8 e2, .int .u8 e3, .int .u8 e4]) :: (b3, blk 25 (b.cells p)) :: F)))) (fun K81 hC80 => ?_) ?_
    ·
     refine w_seq (fun K83 hK82 => ?_)
     refine w_region ?_
     refine w_p (y_fieldAddr (o := 1) (i := 1) Try.underlying25 rfl Try.sizeOf22 rfl rfl rfl) rfl ?_
     refine w_p (y_load1 Try.isAgg22 hs77.tail.tail.tail.drop rfl rfl (show Ats _ _ _ _ [_] from Ats.part hbx 1 1)) rfl ?_
     refine w_p (y_lenS Try.underlying22 rfl rfl) rfl ?_
     refine w_p (y_gtr rfl rfl rfl rfl) rfl ?_
     refine w_nil ?_
     refine q_then (hK82 _ _ ?_)
     refine w_cond rfl rfl (fun h84 => ?_) (fun h84 => ?_)
     ·
      try simp only [zA, zB, zC, zD, zE, zF] at h84
      refine w_seq (fun K86 hK85 => ?_)
      refine w_region ?_
      refine w_p (y_fieldAddr (o := 3) (i := 3) Try.underlying74 rfl Try.sizeOf5 rfl rfl rfl) rfl ?_
      refine w_p (y_load1 Try.isAgg5 hs77.tail.tail.tail.drop rfl rfl (show Ats _ _ _ _ [_] from Ats.part hb3 3 1)) rfl ?_
      refine w_p (y_u8int (by rw [Try.underlying5]; rfl) Try.underlying3 rfl rfl (by omega) (by omega)) rfl ?_
      refine w_p (y_fieldAddr (o := 1) (i := 1) Try.underlying25 rfl Try.sizeOf22 rfl rfl rfl) rfl ?_
      refine w_p (y_load1 Try.isAgg22 hs77.tail.tail.tail.drop rfl rfl (show Ats _ _ _ _ [_] from Ats.part hbx 1 1)) rfl ?_
      refine w_p (y_lenS Try.underlying22 rfl rfl) rfl ?_
      refine w_p (y_rem rfl rfl rfl rfl (by omega) (by omega)) rfl ?_
      refine w_p (y_assign (v := .int _ _) rfl rfl) rfl ?_
      refine w_nil ?_
      refine q_then (hK85 _ _ ?_)
      refine w_seq (fun K88 hK87 => ?_)
      have hzmy := Int.emod_nonneg e3 (show (b.hours.length : Int) ≠ 0 by omega)
      have hzly := Int.emod_lt_of_pos e3 (show 0 < (b.hours.length : Int) by omega)
      obtain ⟨y, hy⟩ : ∃ y : Nat, e3 % (b.hours.length : Int) = (y : Int) := ⟨(e3 % (b.hours.length : Int)).toNat, by omega⟩
      have hy2 : y < b.hours.length := by omega
      rw [hy]
      obtain ⟨d, cs2, rfl, hB2, hcap2, hcapm2, hcl2, htk2⟩ := own_some2 hown2 (by omega)
      subst hB2
      replace hs77 := (show St _ _ (_ :: _ :: _ :: _ :: _ :: _ :: F) from hs77)
      refine w_region ?_
      refine w_p (y_fieldAddr (o := 5) (i := 5) Try.underlying76 rfl Try.sizeOf39 rfl rfl rfl) rfl ?_
      refine w_p (y_load1 Try.isAgg39 hs77 rfl rfl (ats_own (i := 0) (vs := [_]) rfl rfl)) rfl ?_
      refine w_p (y_move (v := .int _ _) rfl rfl) rfl ?_
      refine w_p (y_indexS Try.underlying39 Try.sizeOf3 rfl rfl rfl rfl (i := y) rfl (by omega)) rfl ?_
      refine w_p (y_load1 Try.isAgg3 hs77 rfl rfl (ats_own (i := 3) (vs := [_]) rfl (take_get htk2 rfl (show y < (b.ctrs[u]'hu2).shown.length by omega)))) rfl ?_
      refine w_p (y_eql rfl rfl rfl rfl) rfl ?_
      refine w_nil ?_
      refine q_then (hK87 _ _ ?_)
      refine w_cond rfl rfl (fun h89 => ?_) (fun h89 => ?_)
      ·
       try simp only [zA, zB, zC, zD, zE, zF] at h89
       refine w_region ?_
       refine w_p (y_fieldAddr (o := 5) (i := 5) Try.underlying76 rfl Try.sizeOf39 rfl rfl rfl) rfl ?_
       refine w_p (y_load1 Try.isAgg39 hs77 rfl rfl (ats_own (i := 0) (vs := [_]) rfl rfl)) rfl ?_
       refine w_p (y_move (v := .int _ _) rfl rfl) rfl ?_
       refine w_p (y_fieldAddr (o := 4) (i := 4) Try.underlying74 rfl Try.sizeOf5 rfl rfl rfl) rfl ?_
       refine w_p (y_load1 Try.isAgg5 hs77.tail.tail.tail.tail rfl rfl (show Ats _ _ _ _ [_] from Ats.part hb3 4 1)) rfl ?_
       refine w_p (y_u8int (by rw [Try.underlying5]; rfl) Try.underlying3 rfl rfl (by omega) (by omega)) rfl ?_
       refine w_p (y_rem rfl rfl rfl rfl (by omega) (by omega)) rfl ?_
       refine w_p (y_indexS Try.underlying39 Try.sizeOf3 rfl rfl rfl rfl (i := y) rfl (by omega)) rfl ?_
       refine w_store (i := 3) (v := .int _ _) (vs := [_]) want_none Try.sizeOf3 rfl rfl rfl rfl rfl (by simp [Value.oneCell']) hs77 rfl (by show 0 + y * 1 + 1 ≤ cs2.length; omega) (fun w90 hs91 => ?_)
       refine w_nil ?_
       refine q_then (hC80 _ _ (Md.intro (by repeat (first | exact agree_refl | exact agree_mix | refine agree_upd rfl ?_ | refine agree_updL rfl ?_ _ | refine agree_mixin rfl ?_)) ?_))
       first
         | exact ⟨rfl, _, _, shOk_refl hcu, hown2, hs91⟩
         | exact ⟨rfl, (b.ctrs[u]'hu2).shown.set y (e4 % 100), [(d, blk 3 (setMany cs2 (0 + y * 1) [.int .i64 (e4 % 100)]))], shOk_set hcu (by omega) (by assumption), own_mk (by simp) hcap2 hcapm2 (by rw [setMany_len]; exact hcl2) (take_put htk2), hs91⟩
      ·
       try simp only [zA, zB, zC, zD, zE, zF] at h89
       refine w_skip ?_
       refine q_then (hC80 _ _ (Md.intro (by repeat (first | exact agree_refl | exact agree_mix | refine agree_upd rfl ?_ | refine agree_updL rfl ?_ _ | refine agree_mixin rfl ?_)) ?_))
       first
         | exact ⟨rfl, _, _, shOk_refl hcu, hown2, hs77⟩
         | exact ⟨rfl, (b.ctrs[u]'hu2).shown.set y (e4 % 100), [(d, blk 3 (setMany cs2 (0 + y * 1) [.int .i64 (e4 % 100)]))], shOk_set hcu (by omega) (by assumption), own_mk (by simp) hcap2 hcapm2 (by rw [setMany_len]; exact hcl2) (take_put htk2), hs77⟩
     ·
      try simp only [zA, zB, zC, zD, zE, zF] at h84
      refine w_skip ?_
      refine q_then (hC80 _ _ (Md.intro (by repeat (first | exact agree_refl | exact agree_mix | refine agree_upd rfl ?_ | refine agree_updL rfl ?_ _ | refine agree_mixin rfl ?_)) ?_))
      first
        | exact ⟨rfl, _, _, shOk_refl hcu, hown2, hs77⟩
        | exact ⟨rfl, (b.ctrs[u]'hu2).shown.set y (e4 % 100), [(d, blk 3 (setMany cs2 (0 + y * 1) [.int .i64 (e4 % 100)]))], shOk_set hcu (by omega) (by assumption), own_mk (by simp) hcap2 hcapm2 (by rw [setMany_len]; exact hcl2) (take_put htk2), hs77⟩
    ·
     intro vs μ w92 hM
     clear hown2
     obtain ⟨rfl, sh, SB, hsho, hown2, hs⟩ := hM
     replace hs := (show St _ _ (_ :: _ :: _ :: SB ++ (_ :: _ :: F)) from hs)
     refine q_then (hK78 _ _ ?_)
     refine w_seq (fun K94 hK93 => ?_)
     refine w_region ?_
     refine w_p (y_fieldAddr (o := 2) (i := 2) Try.underlying25 rfl Try.sizeOf23 rfl rfl rfl) rfl ?_
     refine w_p (y_load1 Try.isAgg23 hs rfl rfl (ats_own (i := 1) (vs := [_]) rfl rfl)) rfl ?_
     refine w_p (y_move (v := .int _ _) rfl rfl) rfl ?_
     refine w_p (y_loadN (vs := [_, _, _, _, _, _]) Try.isAgg76 Try.sizeOf76 hs rfl rfl (ats_own (i := 0) (vs := [_, _, _, _, _, _]) rfl rfl)) rfl ?_
     refine w_p (y_indexS Try.underlying23 Try.sizeOf76 rfl rfl rfl rfl (i := u) rfl hu2) rfl ?_
     refine w_store (i := 2) (v := .agg #[_, _, _, _, _, _]) (vs := [_, _, _, _, _, _]) want_none Try.sizeOf76 rfl rfl rfl rfl rfl (by simp [Value.oneCell']) hs rfl (show 0 + u * 6 + 6 ≤ csK.length by omega) (fun w95 hs96 => ?_)
     replace hs96 := (show St _ _ (_ :: _ :: (bK, blk 76 (setMany csK (u * 6) [.string (b.ctrs[u]'hu2).name, .int .i64 (max 0 ((b.ctrs[u]'hu2).skip - e1 % 3)), .int .i64 (max 0 ((b.ctrs[u]'hu2).twice - e2 % 3)), .int .i64 (b.ctrs[u]'hu2).start, .slice (p.pc u).az (b.ctrs[u]'hu2).zero.length (p.pc u).cz, .slice a2 (b.ctrs[u]'hu2).shown.length c2])) :: SB ++ (_ :: _ :: F)) from (by have h6 := hs96; simp only [Nat.zero_add] at h6; exact h6))
     refine w_nil ?_
     refine q_then (hK93 _ _ ?_)
     refine w_seq (fun K98 hK97 => ?_)
     refine w_seq (fun K100 hK99 => ?_)
     have hdOk := bet_ok hcu he1.1 he2.1 hsho
     have hfin := bet_fin hcu he1.1 he2.1 hsho
     have hzc : (check (setC b u (betC (b.ctrs[u]'hu2) e1 e2 sh))).2.2 = 0 := setC_check hck hu2 rfl hdOk
     have hts : ∀ l ∈ truths (setC b u (betC (b.ctrs[u]'hu2) e1 e2 sh)), l ∈ truths b := setC_truths hu2 hfin
     have hkp : (setMany csK (u * 6) [.string (b.ctrs[u]'hu2).name, .int .i64 (max 0 ((b.ctrs[u]'hu2).skip - e1 % 3)), .int .i64 (max 0 ((b.ctrs[u]'hu2).twice - e2 % 3)), .int .i64 (b.ctrs[u]'hu2).start, .slice (p.pc u).az (b.ctrs[u]'hu2).zero.length (p.pc u).cz, .slice a2 (b.ctrs[u]'hu2).shown.length c2]).take (b.ctrs.length * 6) = (krows (b.ctrs.set u (betC (b.ctrs[u]'hu2) e1 e2 sh)) (setPc p.pc u a2 c2)).flatten := by
       rw [setMany_rows (rows := krows b.ctrs p.pc) (krows_len _ _) (krows_row _ _) (by rw [krows_len]; exact hu2) rfl htkK, krows_put (d := betC (b.ctrs[u]'hu2) e1 e2 sh) (a := a2) (c := c2) hu2 (by unfold setPc; rw [if_pos rfl]; simp only [Ctr.cells, betC, hsho.len])]
     have hsl2 := own_int_sl (w0 := w0) hown2 hsho.len
     have hcZ : (setC b u (betC (b.ctrs[u]'hu2) e1 e2 sh)).cells (⟨p.ah, p.ch, some ⟨bK, 0, none⟩, cK, setPc p.pc u a2 c2⟩ : AtB) = [.int .i64 b.holds, .slice p.ah b.hours.length p.ch, .slice (some ⟨bK, 0, none⟩) b.ctrs.length cK] := by simp [Board.cells, setC]
     obtain ⟨Z, hZ, hsZ⟩ := gen_Z hs96
     have hb2 : Ats w0 Z b3 0 (b.cells p) := by rw [hZ]; exact hbx.app.cons.cons.cons
     have hb5 : Ats w0 Z b30 0 ((setC b u (betC (b.ctrs[u]'hu2) e1 e2 sh)).cells (⟨p.ah, p.ch, some ⟨bK, 0, none⟩, cK, setPc p.pc u a2 c2⟩ : AtB)) := by rw [hZ]; exact ats_castB (ats_ofL (i := 1) (vs := [.int .i64 b.holds, .slice p.ah b.hours.length p.ch, .slice (some ⟨bK, 0, none⟩) b.ctrs.length cK]) hs96 rfl rfl) hcZ
     have hmZ : BIn w0 Z b p := by rw [hZ]; exact hm.cons.cons.app.cons.cons.cons
     have hsK : Sl w0 Z (some ⟨bK, 0, none⟩) 6 (krows (b.ctrs.set u (betC (b.ctrs[u]'hu2) e1 e2 sh)) (setPc p.pc u a2 c2)) := by rw [hZ]; exact sl_own (i := 2) rfl (krows_row _ _) (by rw [krows_len, List.length_set]; exact hkp)
     have hsS : Sl w0 Z a2 1 (sh.map fun x => [Value.int .i64 x]) := by rw [hZ]; exact hsl2.1.top.cons.cons.cons
     have hmE : BIn w0 Z (setC b u (betC (b.ctrs[u]'hu2) e1 e2 sh)) (⟨p.ah, p.ch, some ⟨bK, 0, none⟩, cK, setPc p.pc u a2 c2⟩ : AtB) := set_bin hmZ hu2 hsK hsS rfl ⟨by show sh.length ≤ _; rw [hsho.len]; exact (hm.ls u hu2).1, by show sh.length ≤ c2; rw [hsho.len]; exact hsl2.2⟩ rfl hcapK
     refine w_region ?_
     refine w_p (y_loadN (vs := [_, _, _]) Try.isAgg25 Try.sizeOf25 hsZ rfl rfl hb5) rfl ?_
     refine w_call want_none Try.call45 rfl rfl rfl rfl (c45 (setC b u (betC (b.ctrs[u]'hu2) e1 e2 sh)) _ hmE hsZ) ?_
     rintro _ w102 ⟨rfl, hs103⟩
     refine w_p (y_not rfl rfl) rfl ?_
     refine w_nil ?_
     refine q_then (hK99 _ _ ?_)
     refine w_cond rfl rfl (fun h104 => ?_) (fun h104 => ?_)
     ·
      try simp only [zA, zB, zC, zD, zE, zF] at h104
      refine w_seq (fun K106 hK105 => ?_)
      have hzs : someB (setC b u (betC (b.ctrs[u]'hu2) e1 e2 sh)) = false := by assumption
      have h8 := hold_8 hzc hzs
      refine w_region ?_
      refine w_p (y_loadN (vs := [_, _, _]) Try.isAgg25 Try.sizeOf25 hs103 rfl rfl hb5) rfl ?_
      refine w_call want_none Try.call20 rfl rfl rfl rfl (c20 (setC b u (betC (b.ctrs[u]'hu2) e1 e2 sh)) _ hmE 0 hs103) ?_
      rintro _ w108 ⟨rfl, hs109⟩
      refine w_p (y_move (v := .tuple _) rfl rfl) rfl ?_
      refine w_p (y_extract (v := .agg _) rfl rfl rfl) rfl ?_
      refine w_p (y_extract (v := .int _ _) rfl rfl rfl) rfl ?_
      refine w_alloc (cs := [_, _]) want_none Try.zeroValue31 rfl hs109 (fun b110 w111 hs112 => ?_)
      refine w_store (i := 0) (v := .agg #[.int _ _, .int _ _]) (vs := [_, _]) want_none Try.sizeOf31 rfl rfl rfl rfl rfl (by simp [Value.oneCell']) hs112 rfl (Nat.le_of_ble_eq_true rfl) (fun w113 hs114 => ?_)
      refine w_p (y_assign (v := .int _ _) rfl rfl) rfl ?_
      refine w_nil ?_
      refine q_then (hK105 _ _ ?_)
      refine w_seq (fun K116 hK115 => ?_)
      refine w_region ?_
      refine w_p (y_move (v := .int _ _) rfl rfl) rfl ?_
      refine w_p (y_eql rfl rfl rfl rfl) rfl ?_
      refine w_p (y_move (v := .bool _) rfl rfl) rfl ?_
      refine w_split (fun h117 => ?_) (fun h117 => ?_)
      ·
       try simp only [zA, zB, zC, zD, zE, zF] at h117
       refine w_call (want_yes rfl rfl rfl) Try.call22 rfl rfl rfl rfl (c22 hs114) ?_
       rintro _ w119 ⟨rfl, hs120⟩
       refine w_p (y_pickT (v := .bool _) rfl rfl rfl rfl) rfl ?_
       refine w_p (y_assign (v := .bool _) rfl rfl) rfl ?_
       refine w_nil ?_
       refine q_then (hK115 _ _ ?_)
       refine w_ret ?_
       refine q_then_ret ?_
       refine q_ret (l := [.tmp 4]) (vs := [_]) rfl ⟨⟨rfl, show _ = (.bool _ : Value) from rfl⟩, trivial⟩ ?_
       exact ⟨rfl, (St.cast hZ hs120.tail).tail.tail.tail.drop.tail.tail⟩
      ·
       exfalso
       try simp only [zA, zB, zC, zD, zE, zF] at h117
       rw [h8] at h117; simp at h117
     ·
      try simp only [zA, zB, zC, zD, zE, zF] at h104
      refine w_skip ?_
      refine q_then (hK97 _ _ ?_)
      refine w_seq (fun K122 hK121 => ?_)
      refine w_seq (fun K124 hK123 => ?_)
      have hzs : someB (setC b u (betC (b.ctrs[u]'hu2) e1 e2 sh)) = true := by assumption
      refine w_region ?_
      refine w_p (y_assign (v := _) rfl rfl) rfl ?_
      refine w_nil ?_
      refine q_then (hK123 _ _ ?_)
      refine w_block ?_
      refine w_loop [4, 11, 12, 13, 14, 15, 119, 120, 121, 122, 123, 124, 125, 126, 127, 128, 129, 130, 131, 132, 133, 134, 135, 136, 137, 138, 139, 140, 141, 142, 143, 144, 145, 146, 147, 148, 149] [11] (fun kk vs0 w => ∃ (q : Nat), vs0 = [.int .i64 q] ∧ q ≤ b.hours.length ∧ kk = b.hours.length - q ∧ St w0 w Z) (b.hours.length) ?_ ?_
      ·
       exact ⟨0, rfl, by omega, by omega, hs103⟩
      ·
       intro k vs μ w127 hI K126 hN125
       obtain ⟨q, rfl, hqa, rfl, hs⟩ := hI
       refine w_seq (fun K129 hK128 => ?_)
       refine w_seq (fun K131 hK130 => ?_)
       refine w_region ?_
       refine w_p (y_move (v := .int _ _) rfl rfl) rfl ?_
       refine w_p (y_fieldAddr (o := 1) (i := 1) Try.underlying25 rfl Try.sizeOf22 rfl rfl rfl) rfl ?_
       refine w_p (y_load1 Try.isAgg22 hs rfl rfl (show Ats _ _ _ _ [_] from Ats.part hb2 1 1)) rfl ?_
       refine w_p (y_lenS Try.underlying22 rfl rfl) rfl ?_
       refine w_p (y_lss rfl rfl rfl rfl) rfl ?_
       refine w_nil ?_
       refine q_then (hK130 _ _ ?_)
       refine w_cond rfl rfl (fun h132 => ?_) (fun h132 => ?_)
       ·
        try simp only [zA, zB, zC, zD, zE, zF] at h132
        refine w_skip ?_
        refine q_then (hK128 _ _ ?_)
        refine w_seq (fun K134 hK133 => ?_)
        refine w_block ?_
        refine w_seq (fun K136 hK135 => ?_)
        have hq2 : q < b.hours.length := by omega
        have hws := went_sub hso hzs hts q
        refine w_region ?_
        refine w_p (y_loadN (vs := [_, _, _]) Try.isAgg25 Try.sizeOf25 hs rfl rfl hb2) rfl ?_
        refine w_p (y_move (v := .int _ _) rfl rfl) rfl ?_
        refine w_call want_none Try.call18 rfl rfl rfl rfl ((c18 b _ hmZ (q : Int) hs).mono (fun v w' h => by rw [went_at hso hq2] at h; dsimp only at h; exact h)) ?_
        rintro _ w138 ⟨rfl, hs139⟩
        refine w_p (y_move (v := .tuple _) rfl rfl) rfl ?_
        refine w_p (y_extract (v := .agg _) rfl rfl rfl) rfl ?_
        refine w_p (y_extract (v := .int _ _) rfl rfl rfl) rfl ?_
        refine w_alloc (cs := [_, _]) want_none Try.zeroValue31 rfl hs139 (fun b140 w141 hs142 => ?_)
        refine w_store (i := 0) (v := .agg #[.int _ _, .int _ _]) (vs := [_, _]) want_none Try.sizeOf31 rfl rfl rfl rfl rfl (by simp [Value.oneCell']) hs142 rfl (Nat.le_of_ble_eq_true rfl) (fun w143 hs144 => ?_)
        refine w_p (y_assign (v := .int _ _) rfl rfl) rfl ?_
        refine w_nil ?_
        refine q_then (hK135 _ _ ?_)
        refine w_seq (fun K146 hK145 => ?_)
        refine w_region ?_
        refine w_p (y_loadN (vs := [_, _, _]) Try.isAgg25 Try.sizeOf25 hs144.tail rfl rfl hb5) rfl ?_
        refine w_p (y_move (v := .int _ _) rfl rfl) rfl ?_
        refine w_call want_none Try.call18 rfl rfl rfl rfl ((c18 (setC b u (betC (b.ctrs[u]'hu2) e1 e2 sh)) _ hmE.cons (q : Int) hs144).mono (fun v w' h => by rw [went_at hzs (show q < (setC b u (betC (b.ctrs[u]'hu2) e1 e2 sh)).hours.length from hq2)] at h; dsimp only at h; exact h)) ?_
        rintro _ w148 ⟨rfl, hs149⟩
        refine w_p (y_move (v := .tuple _) rfl rfl) rfl ?_
        refine w_p (y_extract (v := .agg _) rfl rfl rfl) rfl ?_
        refine w_p (y_extract (v := .int _ _) rfl rfl rfl) rfl ?_
        refine w_alloc (cs := [_, _]) want_none Try.zeroValue31 rfl hs149 (fun b150 w151 hs152 => ?_)
        refine w_store (i := 0) (v := .agg #[.int _ _, .int _ _]) (vs := [_, _]) want_none Try.sizeOf31 rfl rfl rfl rfl rfl (by simp [Value.oneCell']) hs152 rfl (Nat.le_of_ble_eq_true rfl) (fun w153 hs154 => ?_)
        refine w_p (y_assign (v := .int _ _) rfl rfl) rfl ?_
        refine w_nil ?_
        refine q_then (hK145 _ _ ?_)
        refine w_seq (fun K156 hK155 => ?_)
        have hx12 := ats_ofL (i := 1) (vs := [_, _]) hs154 rfl rfl
        have hx14 := ats_ofL (i := 0) (vs := [_, _]) hs154 rfl rfl
        refine w_region ?_
        refine w_p (y_move (v := .int _ _) rfl rfl) rfl ?_
        refine w_p (y_neq rfl rfl rfl rfl) rfl ?_
        refine w_p (y_move (v := .bool _) rfl rfl) rfl ?_
        refine w_y rfl rfl rfl (y_move (v := .int _ _) rfl rfl) rfl ?_
        refine w_y rfl rfl rfl (y_neq rfl rfl rfl rfl) rfl ?_
        refine w_p (y_pickF (v := .bool _) rfl rfl rfl rfl) rfl ?_
        refine w_p (y_move (v := .bool _) rfl rfl) rfl ?_
        refine w_y rfl rfl rfl (y_loadN (vs := [_, _]) Try.isAgg31 Try.sizeOf31 hs154 rfl rfl hx14) rfl ?_
        refine w_y rfl rfl rfl (y_loadN (vs := [_, _]) Try.isAgg31 Try.sizeOf31 hs154 rfl rfl hx12) rfl ?_
        refine w_call (want_yes rfl rfl rfl) Try.call48 rfl rfl rfl rfl (con_true (c48 _ _ _ _ hs154) (wi_yB hws)) ?_
        rintro _ w158 ⟨rfl, hs159⟩
        refine w_y rfl rfl rfl (y_not rfl rfl) rfl ?_
        refine w_p (y_pickF (v := .bool _) rfl rfl rfl rfl) rfl ?_
        refine w_nil ?_
        refine q_then (hK155 _ _ ?_)
        refine w_condF rfl rfl ?_
        refine w_skip ?_
        refine q_blk_normal ?_
        refine q_then (hK133 _ _ ?_)
        refine w_region ?_
        refine w_p (y_move (v := .int _ _) rfl rfl) rfl ?_
        refine w_p (y_add rfl rfl rfl rfl (by omega) (by omega)) rfl ?_
        refine w_p (y_assign (v := .int _ _) rfl rfl) rfl ?_
        refine w_nil ?_
        refine q_then (hN125 _ _ (Nx.intro (b.hours.length - (q + 1)) (by omega) (by repeat (first | exact agree_mix | refine agree_upd rfl ?_ | refine agree_updL rfl ?_ _ | refine agree_mixin rfl ?_)) ?_))
        exact ⟨q + 1, rfl, by omega, rfl, hs159.tail.tail⟩
       ·
        try simp only [zA, zB, zC, zD, zE, zF] at h132
        refine w_exit ?_
        refine q_then_exit ?_
        refine q_then_exit ?_
        refine q_blk_this ?_
        refine q_then (hK121 _ _ ?_)
        refine w_seq (fun K161 hK160 => ?_)
        refine w_seq (fun K163 hK162 => ?_)
        refine w_region ?_
        refine w_p (y_assign (v := _) rfl rfl) rfl ?_
        refine w_nil ?_
        refine q_then (hK162 _ _ ?_)
        refine w_block ?_
        refine w_loop [4, 16, 17, 18, 19, 20, 21, 22, 23, 24, 150, 151, 152, 153, 154, 155, 156, 157, 158, 159, 160, 161, 162, 163, 164, 165, 166, 167, 168, 169, 170, 171, 172, 173, 174, 175, 176, 177, 178, 179, 180, 181, 182, 183, 184, 185, 186, 187, 188, 189, 190, 191, 192, 193, 194, 195, 196, 197, 198, 199, 200, 201, 202, 203, 204, 205, 206, 207, 208, 209, 210, 211, 212, 213, 214, 215, 216, 217, 218, 219, 220, 221] [16] (fun kk vs0 w => ∃ (h : Nat), vs0 = [.int .i64 h] ∧ (h : Int) ≤ b.holds ∧ kk = (b.holds - h).toNat ∧ St w0 w Z) (b.holds.toNat) ?_ ?_
        ·
         exact ⟨0, rfl, by omega, by omega, hs⟩
        ·
         intro k vs μ w166 hI K165 hN164
         clear hs
         obtain ⟨h, rfl, hha, rfl, hs⟩ := hI
         refine w_seq (fun K168 hK167 => ?_)
         refine w_seq (fun K170 hK169 => ?_)
         refine w_region ?_
         refine w_p (y_move (v := .int _ _) rfl rfl) rfl ?_
         refine w_p (y_fieldAddr (o := 0) (i := 0) Try.underlying25 rfl Try.sizeOf3 rfl rfl rfl) rfl ?_
         refine w_p (y_load1 Try.isAgg3 hs rfl rfl (show Ats _ _ _ _ [_] from Ats.part hb2 0 1)) rfl ?_
         refine w_p (y_lss rfl rfl rfl rfl) rfl ?_
         refine w_nil ?_
         refine q_then (hK169 _ _ ?_)
         refine w_cond rfl rfl (fun h171 => ?_) (fun h171 => ?_)
         ·
          try simp only [zA, zB, zC, zD, zE, zF] at h171
          refine w_skip ?_
          refine q_then (hK167 _ _ ?_)
          refine w_seq (fun K173 hK172 => ?_)
          refine w_block ?_
          refine w_seq (fun K175 hK174 => ?_)
          have hhs := hold_sub hso hzs hts (fun hold l => setC_in b u _ hold l) (h : Int)
          have hth := hull_th hso (h : Int)
          have hlb := looks_zero hso (hold := (h : Int)) (within := 2) ⟨by omega, by omega⟩ (by omega)
          have hlz := looks_zero hzs (hold := (h : Int)) (within := 2) ⟨by omega, by show (h : Int) < b.holds; omega⟩ (by omega)
          refine w_region ?_
          refine w_p (y_loadN (vs := [_, _, _]) Try.isAgg25 Try.sizeOf25 hs rfl rfl hb2) rfl ?_
          refine w_p (y_move (v := .int _ _) rfl rfl) rfl ?_
          refine w_call want_none Try.call20 rfl rfl rfl rfl ((c20 b _ hmZ (h : Int) hs).mono (fun v w' h => by rw [hold_at hso (by omega)] at h; dsimp only at h; exact h)) ?_
          rintro _ w177 ⟨rfl, hs178⟩
          refine w_p (y_move (v := .tuple _) rfl rfl) rfl ?_
          refine w_p (y_extract (v := .agg _) rfl rfl rfl) rfl ?_
          refine w_p (y_extract (v := .int _ _) rfl rfl rfl) rfl ?_
          refine w_alloc (cs := [_, _]) want_none Try.zeroValue31 rfl hs178 (fun b179 w180 hs181 => ?_)
          refine w_store (i := 0) (v := .agg #[.int _ _, .int _ _]) (vs := [_, _]) want_none Try.sizeOf31 rfl rfl rfl rfl rfl (by simp [Value.oneCell']) hs181 rfl (Nat.le_of_ble_eq_true rfl) (fun w182 hs183 => ?_)
          refine w_p (y_assign (v := .int _ _) rfl rfl) rfl ?_
          refine w_nil ?_
          refine q_then (hK174 _ _ ?_)
          refine w_seq (fun K185 hK184 => ?_)
          refine w_region ?_
          refine w_p (y_loadN (vs := [_, _, _]) Try.isAgg25 Try.sizeOf25 hs183.tail rfl rfl hb5) rfl ?_
          refine w_p (y_move (v := .int _ _) rfl rfl) rfl ?_
          refine w_call want_none Try.call20 rfl rfl rfl rfl ((c20 (setC b u (betC (b.ctrs[u]'hu2) e1 e2 sh)) _ hmE.cons (h : Int) hs183).mono (fun v w' h => by rw [hold_at hzs (by show _ < b.holds; omega)] at h; dsimp only at h; exact h)) ?_
          rintro _ w187 ⟨rfl, hs188⟩
          refine w_p (y_move (v := .tuple _) rfl rfl) rfl ?_
          refine w_p (y_extract (v := .agg _) rfl rfl rfl) rfl ?_
          refine w_p (y_extract (v := .int _ _) rfl rfl rfl) rfl ?_
          refine w_alloc (cs := [_, _]) want_none Try.zeroValue31 rfl hs188 (fun b189 w190 hs191 => ?_)
          refine w_store (i := 0) (v := .agg #[.int _ _, .int _ _]) (vs := [_, _]) want_none Try.sizeOf31 rfl rfl rfl rfl rfl (by simp [Value.oneCell']) hs191 rfl (Nat.le_of_ble_eq_true rfl) (fun w192 hs193 => ?_)
          refine w_p (y_assign (v := .int _ _) rfl rfl) rfl ?_
          refine w_nil ?_
          refine q_then (hK184 _ _ ?_)
          refine w_seq (fun K195 hK194 => ?_)
          have hx17 := ats_ofL (i := 1) (vs := [_, _]) hs193 rfl rfl
          have hx19 := ats_ofL (i := 0) (vs := [_, _]) hs193 rfl rfl
          refine w_region ?_
          refine w_p (y_loadN (vs := [_, _, _]) Try.isAgg25 Try.sizeOf25 hs193.tail.tail rfl rfl hb2) rfl ?_
          refine w_p (y_move (v := .int _ _) rfl rfl) rfl ?_
          refine w_call want_none Try.call27 rfl rfl rfl rfl (c27 b _ hmZ.cons.cons (h : Int) 2 hs193) ?_
          rintro _ w197 ⟨B1, a1, c1, rfl, hq1, hs198⟩
          replace hs198 := (show St _ _ (B1 ++ (_ :: _ :: Z)) from hs198)
          refine w_p (y_move (v := .tuple _) rfl rfl) rfl ?_
          refine w_p (y_extract (v := .slice _ _ _) rfl rfl rfl) rfl ?_
          refine w_p (y_extract (v := .int _ _) rfl rfl rfl) rfl ?_
          refine w_p (y_assign (v := .slice _ _ _) rfl rfl) rfl ?_
          refine w_p (y_assign (v := .int _ _) rfl rfl) rfl ?_
          refine w_nil ?_
          refine q_then (hK194 _ _ ?_)
          refine w_seq (fun K200 hK199 => ?_)
          refine w_region ?_
          refine w_p (y_loadN (vs := [_, _, _]) Try.isAgg25 Try.sizeOf25 hs198.drop.tail.tail rfl rfl hb5) rfl ?_
          refine w_p (y_move (v := .int _ _) rfl rfl) rfl ?_
          refine w_call want_none Try.call27 rfl rfl rfl rfl (c27 (setC b u (betC (b.ctrs[u]'hu2) e1 e2 sh)) _ hmE.cons.cons.app (h : Int) 2 hs198) ?_
          rintro _ w202 ⟨B2, a2_, c2_, rfl, hq2_, hs203⟩
          replace hs203 := (show St _ _ (B2 ++ (B1 ++ (_ :: _ :: Z))) from hs203)
          refine w_p (y_move (v := .tuple _) rfl rfl) rfl ?_
          refine w_p (y_extract (v := .slice _ _ _) rfl rfl rfl) rfl ?_
          refine w_p (y_extract (v := .int _ _) rfl rfl rfl) rfl ?_
          refine w_p (y_assign (v := .slice _ _ _) rfl rfl) rfl ?_
          refine w_p (y_assign (v := .int _ _) rfl rfl) rfl ?_
          refine w_nil ?_
          refine q_then (hK199 _ _ ?_)
          refine w_seq (fun K205 hK204 => ?_)
          refine w_region ?_
          refine w_p (y_move (v := .int _ _) rfl rfl) rfl ?_
          refine w_p (y_neq rfl rfl rfl rfl) rfl ?_
          refine w_p (y_move (v := .bool _) rfl rfl) rfl ?_
          refine w_y rfl rfl rfl (y_move (v := .int _ _) rfl rfl) rfl ?_
          refine w_y rfl rfl rfl (y_neq rfl rfl rfl rfl) rfl ?_
          refine w_p (y_pickF (v := .bool _) rfl rfl rfl rfl) rfl ?_
          refine w_p (y_move (v := .bool _) rfl rfl) rfl ?_
          refine w_y rfl rfl rfl (y_move (v := .int _ _) rfl rfl) rfl ?_
          refine w_y rfl rfl rfl (y_neq rfl rfl rfl rfl) rfl ?_
          refine w_p (y_pickF (v := .bool _) rfl rfl rfl rfl) rfl ?_
          refine w_p (y_move (v := .bool _) rfl rfl) rfl ?_
          refine w_split (fun h206 => ?_) (fun h206 => ?_)
          ·
           exfalso
           try simp only [zA, zB, zC, zD, zE, zF] at h206
           exact h206 hlb.1
          ·
           try simp only [zA, zB, zC, zD, zE, zF] at h206
           refine w_y rfl rfl rfl (y_move (v := .int _ _) rfl rfl) rfl ?_
           refine w_y rfl rfl rfl (y_neq rfl rfl rfl rfl) rfl ?_
           refine w_p (y_pickF (v := .bool _) rfl rfl rfl rfl) rfl ?_
           refine w_p (y_move (v := .bool _) rfl rfl) rfl ?_
           refine w_split (fun h207 => ?_) (fun h207 => ?_)
           ·
            exfalso
            try simp only [zA, zB, zC, zD, zE, zF] at h207
            exact h207 hlz.1
           ·
            try simp only [zA, zB, zC, zD, zE, zF] at h207
            refine w_y rfl rfl rfl (y_loadN (vs := [_, _]) Try.isAgg31 Try.sizeOf31 hs203.drop.drop rfl rfl hx19) rfl ?_
            refine w_y rfl rfl rfl (y_loadN (vs := [_, _]) Try.isAgg31 Try.sizeOf31 hs203.drop.drop rfl rfl hx17) rfl ?_
            refine w_call (want_yes rfl rfl rfl) Try.call48 rfl rfl rfl rfl (con_true (c48 _ _ _ _ hs203) (wi_yB ⟨hhs.1, hhs.2⟩)) ?_
            rintro _ w209 ⟨rfl, hs210⟩
            refine w_y rfl rfl rfl (y_not rfl rfl) rfl ?_
            refine w_p (y_pickF (v := .bool _) rfl rfl rfl rfl) rfl ?_
            refine w_p (y_move (v := .bool _) rfl rfl) rfl ?_
            refine w_y rfl rfl rfl (y_move (v := .slice _ _ _) rfl rfl) rfl ?_
            refine w_y rfl rfl rfl (y_lenS Try.underlying39 rfl rfl) rfl ?_
            refine w_y rfl rfl rfl (y_eql rfl rfl rfl rfl) rfl ?_
            refine w_y rfl rfl rfl (y_move (v := .bool _) rfl rfl) rfl ?_
            refine w_split (fun h211 => ?_) (fun h211 => ?_)
            ·
             try simp only [zA, zB, zC, zD, zE, zF] at h211
             refine w_y rfl rfl rfl (y_move (v := .slice _ _ _) rfl rfl) rfl ?_
             refine w_y rfl rfl rfl (y_lenS Try.underlying39 rfl rfl) rfl ?_
             refine w_y rfl rfl rfl (y_gtr rfl rfl rfl rfl) rfl ?_
             refine w_y rfl rfl rfl (y_pickT (v := .bool _) rfl rfl rfl rfl) rfl ?_
             refine w_p (y_pickF (v := .bool _) rfl rfl rfl rfl) rfl ?_
             refine w_p (y_move (v := .bool _) rfl rfl) rfl ?_
             refine w_split (fun h212 => ?_) (fun h212 => ?_)
             ·
              exfalso
              try simp only [zA, zB, zC, zD, zE, zF] at h212
              have h1 := hlz.2; have h2 := hlb.2; omega
             ·
              try simp only [zA, zB, zC, zD, zE, zF] at h212
              refine w_y rfl rfl rfl (y_move (v := .slice _ _ _) rfl rfl) rfl ?_
              refine w_y rfl rfl rfl (y_lenS Try.underlying39 rfl rfl) rfl ?_
              refine w_y rfl rfl rfl (y_eql rfl rfl rfl rfl) rfl ?_
              refine w_y rfl rfl rfl (y_fieldAddr (o := 1) (i := 1) Try.underlying31 rfl Try.sizeOf3 rfl rfl rfl) rfl ?_
              refine w_y rfl rfl rfl (y_load1 Try.isAgg3 hs210.drop.drop rfl rfl (show Ats _ _ _ _ [_] from Ats.part hx17 1 1)) rfl ?_
              refine w_y rfl rfl rfl (y_fieldAddr (o := 0) (i := 0) Try.underlying31 rfl Try.sizeOf3 rfl rfl rfl) rfl ?_
              refine w_y rfl rfl rfl (y_load1 Try.isAgg3 hs210.drop.drop rfl rfl (show Ats _ _ _ _ [_] from Ats.part hx17 0 1)) rfl ?_
              refine w_y rfl rfl rfl (y_sub rfl rfl rfl rfl (by omega) (by omega)) rfl ?_
              refine w_y rfl rfl rfl (y_leq rfl rfl rfl rfl) rfl ?_
              refine w_y rfl rfl rfl (y_neB Try.underlying4 rfl rfl rfl rfl) rfl ?_
              refine w_p (y_pickF (v := .bool _) rfl rfl rfl rfl) rfl ?_
              refine w_nil ?_
              refine q_then (hK204 _ _ ?_)
              refine w_cond rfl rfl (fun h213 => ?_) (fun h213 => ?_)
              ·
               exfalso
               try simp only [zA, zB, zC, zD, zE, zF] at h213
               have h2 := hlb.2
               simp only [bne_iff_ne, ne_eq, decide_eq_decide] at h213
               omega
              ·
               try simp only [zA, zB, zC, zD, zE, zF] at h213
               refine w_skip ?_
               refine q_blk_normal ?_
               refine q_then (hK172 _ _ ?_)
               refine w_region ?_
               refine w_p (y_move (v := .int _ _) rfl rfl) rfl ?_
               refine w_p (y_add rfl rfl rfl rfl (by omega) (by omega)) rfl ?_
               refine w_p (y_assign (v := .int _ _) rfl rfl) rfl ?_
               refine w_nil ?_
               refine q_then (hN164 _ _ (Nx.intro ((b.holds - (h + 1)).toNat) (by omega) (by repeat (first | exact agree_mix | refine agree_upd rfl ?_ | refine agree_updL rfl ?_ _ | refine agree_mixin rfl ?_)) ?_))
               exact ⟨h + 1, rfl, by omega, by omega, hs210.drop.drop.tail.tail⟩
            ·
             try simp only [zA, zB, zC, zD, zE, zF] at h211
             refine w_skipop rfl rfl rfl ?_
             refine w_skipop rfl rfl rfl ?_
             refine w_skipop rfl rfl rfl ?_
             refine w_y rfl rfl rfl (y_pickF (v := _) rfl rfl rfl rfl) rfl ?_
             refine w_p (y_pickF (v := .bool _) rfl rfl rfl rfl) rfl ?_
             refine w_p (y_move (v := .bool _) rfl rfl) rfl ?_
             refine w_y rfl rfl rfl (y_move (v := .slice _ _ _) rfl rfl) rfl ?_
             refine w_y rfl rfl rfl (y_lenS Try.underlying39 rfl rfl) rfl ?_
             refine w_y rfl rfl rfl (y_eql rfl rfl rfl rfl) rfl ?_
             refine w_y rfl rfl rfl (y_fieldAddr (o := 1) (i := 1) Try.underlying31 rfl Try.sizeOf3 rfl rfl rfl) rfl ?_
             refine w_y rfl rfl rfl (y_load1 Try.isAgg3 hs210.drop.drop rfl rfl (show Ats _ _ _ _ [_] from Ats.part hx17 1 1)) rfl ?_
             refine w_y rfl rfl rfl (y_fieldAddr (o := 0) (i := 0) Try.underlying31 rfl Try.sizeOf3 rfl rfl rfl) rfl ?_
             refine w_y rfl rfl rfl (y_load1 Try.isAgg3 hs210.drop.drop rfl rfl (show Ats _ _ _ _ [_] from Ats.part hx17 0 1)) rfl ?_
             refine w_y rfl rfl rfl (y_sub rfl rfl rfl rfl (by omega) (by omega)) rfl ?_
             refine w_y rfl rfl rfl (y_leq rfl rfl rfl rfl) rfl ?_
             refine w_y rfl rfl rfl (y_neB Try.underlying4 rfl rfl rfl rfl) rfl ?_
             refine w_p (y_pickF (v := .bool _) rfl rfl rfl rfl) rfl ?_
             refine w_nil ?_
             refine q_then (hK204 _ _ ?_)
             refine w_cond rfl rfl (fun h214 => ?_) (fun h214 => ?_)
             ·
              exfalso
              try simp only [zA, zB, zC, zD, zE, zF] at h214
              have h2 := hlb.2
              simp only [bne_iff_ne, ne_eq, decide_eq_decide] at h214
              omega
             ·
              try simp only [zA, zB, zC, zD, zE, zF] at h214
              refine w_skip ?_
              refine q_blk_normal ?_
              refine q_then (hK172 _ _ ?_)
              refine w_region ?_
              refine w_p (y_move (v := .int _ _) rfl rfl) rfl ?_
              refine w_p (y_add rfl rfl rfl rfl (by omega) (by omega)) rfl ?_
              refine w_p (y_assign (v := .int _ _) rfl rfl) rfl ?_
              refine w_nil ?_
              refine q_then (hN164 _ _ (Nx.intro ((b.holds - (h + 1)).toNat) (by omega) (by repeat (first | exact agree_mix | refine agree_upd rfl ?_ | refine agree_updL rfl ?_ _ | refine agree_mixin rfl ?_)) ?_))
              exact ⟨h + 1, rfl, by omega, by omega, hs210.drop.drop.tail.tail⟩
         ·
          try simp only [zA, zB, zC, zD, zE, zF] at h171
          refine w_exit ?_
          refine q_then_exit ?_
          refine q_then_exit ?_
          refine q_blk_this ?_
          refine q_then (hK160 _ _ ?_)
          refine w_seq (fun K216 hK215 => ?_)
          refine w_region ?_
          refine w_call want_none Try.call22 rfl rfl rfl rfl (c22 hs) ?_
          rintro _ w218 ⟨rfl, hs219⟩
          refine w_p (y_assign (v := .bool _) rfl rfl) rfl ?_
          refine w_nil ?_
          refine q_then (hK215 _ _ ?_)
          refine w_ret ?_
          refine q_ret (l := [.tmp 4]) (vs := [_]) rfl ⟨⟨rfl, show _ = (.bool _ : Value) from rfl⟩, trivial⟩ ?_
          exact ⟨rfl, (St.cast hZ hs219).tail.tail.tail.drop.tail.tail⟩

end Go.Proofs
