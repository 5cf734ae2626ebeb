/- Own texts of this claim, joined. No conditions. -/
import Derived.Test.YtgndnnpadkoagaaHChainTruea
import Derived.Test.YtgndnnpadkoagaaHChainTrueb
import Derived.Test.YtgndnnpadkoagaaHChainTruec
import Derived.Test.YtgndnnpadkoagaaHChainTrued
import Derived.Test.YtgndnnpadkoagaaHChainTruee
import Derived.Test.YtgndnnpadkoagaaHChainTruef
/- Walks of this seat, printed by gen.py over the engine: what each function returns, in whatever world. No conditions but those of each contract. -/
set_option linter.unusedVariables false
set_option linter.unusedSimpArgs false
set_option maxRecDepth 20000
namespace Go.Proofs
open Go.Rt Go.Rt.Ch
open Go.Rt.Ha (firstE firstE_step firstE_stop firstE_end failE nameE felt spanL upto span_mem listL fewest fewTo bit before fewStep drop_lt drop_get drop_next drop_done drop_notin set_take set_zero take_less)
attribute [local irreducible] WL WC Con Yd At Ats Sl Agree DW
theorem Try_Q_fb3  (w : World) : (Instr.buildSlice 23 0 [].toArray).run Try.prog w = .ok (.slice (some ⟨w.heap.size, 0, none⟩) 0 0) (w.alloc (Go.Rt.blk 76 [])) := by kernel_rfl
theorem Try_info76 : Try.prog.info? 76 = some Try.t76 := by kernel_rfl
theorem Try_Q_fb5  (w : World) : (Instr.buildSlice 39 0 [].toArray).run Try.prog w = .ok (.slice (some ⟨w.heap.size, 0, none⟩) 0 0) (w.alloc (Go.Rt.blk 3 [])) := by kernel_rfl
theorem krows_one (l : List Ctr) (q : Nat → AtC) : ∀ row ∈ krows l q, ∀ u ∈ row, u.oneCell' = true := by
  intro row hr u hu
  obtain ⟨i, hi, rfl⟩ := List.getElem_of_mem hr
  simp only [krows, List.getElem_mapIdx, Ctr.cells, List.mem_cons, List.not_mem_nil, or_false] at hu
  rcases hu with rfl | rfl | rfl | rfl | rfl | rfl <;> rfl
theorem ints_rows (l : List Int) : (l.map fun x => [Value.int .i64 x]).flatten = iv l := by induction l with | nil => rfl | cons x l ih => simp only [List.map_cons, List.flatten_cons, ih]; rfl
theorem ints1_one (l : List Int) : ∀ row ∈ l.map (fun x => [Value.int .i64 x]), ∀ u ∈ row, u.oneCell' = true := by
  intro row hr u hu
  obtain ⟨x, _, rfl⟩ := List.mem_map.1 hr
  rw [List.mem_singleton] at hu; subst hu; rfl
/-- Where the counters' lists lie, of which the first so many have been copied. -/
def QC (p : AtB) (qc : Nat → AtC) (i : Nat) : Prop := (∀ j, i ≤ j → qc j = p.pc j) ∧ ∀ j, (qc j).az = (p.pc j).az ∧ (qc j).cz = (p.pc j).cz
def DS (w0 : World) (DB : List (Nat × Obj)) (b : Board) (s : Nat) (qc : Nat → AtC) (i : Nat) : Prop := ∀ k (hk : k < i) (hk2 : k < b.ctrs.length), Sl w0 DB (qc k).as 1 ((butC b.hours.length s k b.ctrs[k]).shown.map fun x => [Value.int .i64 x]) ∧ b.ctrs[k].shown.length ≤ (qc k).cs
theorem qc_zero (p : AtB) : QC p p.pc 0 := ⟨fun _ _ => rfl, fun _ => ⟨rfl, rfl⟩⟩
theorem QC.next {p : AtB} {qc : Nat → AtC} {i : Nat} (h : QC p qc i) (a : Option Addr) (c : Nat) : QC p (setPc qc i a c) (i + 1) := by
  refine ⟨fun j hj => ?_, fun j => ?_⟩
  · unfold setPc; rw [if_neg (by omega)]; exact h.1 j (by omega)
  · unfold setPc
    split
    · rename_i e; subst e; exact h.2 j
    · exact h.2 j
theorem ds_zero (w0 : World) (b : Board) (s : Nat) (qc : Nat → AtC) : DS w0 [] b s qc 0 := fun k hk => by omega
theorem DS.next {w0 : World} {DB B2 : List (Nat × Obj)} {b : Board} {s i : Nat} {qc : Nat → AtC} (h : DS w0 DB b s qc i) {a : Option Addr} {c : Nat} (hi : i < b.ctrs.length) (h2 : Sl w0 B2 a 1 ((butC b.hours.length s i b.ctrs[i]).shown.map fun x => [Value.int .i64 x])) (hc : b.ctrs[i].shown.length ≤ c) : DS w0 (B2 ++ DB) b s (setPc qc i a c) (i + 1) := by
  intro k hk hk2
  unfold setPc
  by_cases e : k = i
  · subst e
    rw [if_pos rfl]
    exact ⟨h2.top, hc⟩
  · rw [if_neg e]
    exact ⟨(h k (by omega) hk2).1.app, (h k (by omega) hk2).2⟩
theorem own_int_sl {w0 : World} {a : Option Addr} {n c : Nat} {l : List Int} {B : List (Nat × Obj)} (h : Rt.Own (.slice a n c) 3 1 n (iv l) B) (hl : l.length = n) : Sl w0 B a 1 (l.map fun x => [Value.int .i64 x]) ∧ n ≤ c := by
  obtain ⟨a', c', h1, h2, h3, _⟩ := own_rows0 (w0 := w0) (rows := l.map fun x => [Value.int .i64 x]) h (by intro row hr; obtain ⟨x, _, rfl⟩ := List.mem_map.1 hr; rfl) (by rw [List.length_map, hl]) (ints_rows l).symm
  injection h1 with e1 _ e3
  subst e1 e3
  exact ⟨h2, h3⟩
theorem drop_set_cell {cs : List Value} {k : Nat} {v : Value} (h : k < cs.length) : ((cs.set k v).drop k).take [v].length = [v] := by
  rw [List.drop_eq_getElem_cons (by simpa using h)]
  simp
theorem take_get {cs : List Value} {l : List Int} {m k : Nat} (h : cs.take (m * 1) = iv l) (hl : l.length = m) (hk : k < m) : (cs.drop (0 + k * 1)).take 1 = [.int .i64 (l.getD k 0)] := by
  have hlen : k < cs.length := by
    have := congrArg List.length h
    rw [List.length_take, List.length_map] at this; omega
  rw [Nat.mul_one, Nat.zero_add, List.drop_eq_getElem_cons hlen]
  have h2 : (cs.take (m * 1))[k]? = (iv l)[k]? := by rw [h]
  rw [List.getElem?_take, if_pos (by omega), List.getElem?_eq_getElem hlen] at h2
  simp only [iv, List.getElem?_map, List.getElem?_eq_getElem (show k < l.length by omega), Option.map_some, Option.some.injEq] at h2
  simp [h2, List.getD, show k < l.length by omega]
theorem take_put {cs : List Value} {l : List Int} {m k : Nat} {z : Int} (h : cs.take (m * 1) = iv l) : (setMany cs (0 + k * 1) [.int .i64 z]).take (m * 1) = iv (l.set k z) := by
  simp only [setMany, Nat.zero_add, Nat.mul_one]
  rw [List.take_set]
  rw [Nat.mul_one] at h
  rw [h]; simp [iv, List.map_set]
theorem but_bin {w0 : World} {F B1 DB : List (Nat × Obj)} {b : Board} {p : AtB} {s i cC : Nat} {aC : Option Addr} {qc : Nat → AtC} (hm : BIn w0 F b p) (hi : b.ctrs.length ≤ i) (hown : Rt.Own (.slice aC b.ctrs.length cC) 76 6 b.ctrs.length (krows (BL b s i) qc).flatten B1) (hq : QC p qc i) (hd : DS w0 DB b s qc i) : BIn w0 (B1 ++ (DB ++ F)) (butB b s) ⟨p.ah, p.ch, aC, cC, qc⟩ := by
  rw [BL_all hi] at hown
  obtain ⟨a', c', h1, h2, h3, _⟩ := own_rows0 (w0 := w0) (rows := krows (butB b s).ctrs qc) hown (krows_row _ _) (by rw [krows_len, butB_len]) rfl
  injection h1 with e1 _ e3
  subst e1 e3
  refine ⟨hm.h.app.app, h2.top, fun k hk => ?_, fun k hk => ?_, hm.lh, by rw [butB_len]; exact hm.lc, hm.ch, by rw [butB_len]; exact h3, fun k hk => ?_, fun k hk => ?_, fun x hx => ?_⟩
  · have hk2 : k < b.ctrs.length := by rw [butB_len] at hk; exact hk
    rw [butB_get hk2, show (qc k).az = (p.pc k).az from (hq.2 k).1]; exact (hm.z k hk2).app.app
  · have hk2 : k < b.ctrs.length := by rw [butB_len] at hk; exact hk
    rw [butB_get hk2]; exact (hd k (by omega) hk2).1.top.app
  · have hk2 : k < b.ctrs.length := by rw [butB_len] at hk; exact hk
    rw [butB_get hk2, show (qc k).cz = (p.pc k).cz from (hq.2 k).2]; exact hm.lz k hk2
  · have hk2 : k < b.ctrs.length := by rw [butB_len] at hk; exact hk
    rw [butB_get hk2, butC_slen]; exact ⟨(hm.ls k hk2).1, (hd k (by omega) hk2).2⟩
  · obtain ⟨k, hk, rfl⟩ := List.getElem_of_mem hx
    have hk2 : k < b.ctrs.length := by rw [butB_len] at hk; exact hk
    rw [butB_get hk2]; exact hm.nm b.ctrs[k] (List.getElem_mem hk2)
theorem c85 {w0 w : World} {F : List (Nat × Obj)} (a : Option Addr) (c : Nat) (l : List Ctr) (q : Nat → AtC) (hl : l.length ≤ 1000000) (ha : Sl w0 F a 6 (krows l q)) (hs : St w0 w F) :
  Con Try.prog 85 [.slice a l.length c] w fun v w' => ∃ a2 c2 B', v = .slice a2 l.length c2 ∧ Rt.Own (.slice a2 l.length c2) 76 6 l.length (krows l q).flatten B' ∧ St w0 w' (B' ++ F) := by
  refine con_of_wc (n := 8) Try.func85 rfl rfl (Nat.le_of_ble_eq_true rfl) ?_
  refine w_seq (fun K2 hK1 => ?_)
  refine w_region ?_
  refine w_p (y_assign (v := _) rfl rfl) rfl ?_
  refine w_nil ?_
  refine q_then (hK1 _ _ ?_)
  refine w_seq (fun K4 hK3 => ?_)
  refine w_seq (fun K6 hK5 => ?_)
  refine w_region ?_
  refine w_p (y_move (v := .slice _ _ _) rfl rfl) rfl ?_
  refine w_p (y_sliceNil Try.underlying23 rfl rfl rfl rfl) rfl ?_
  refine w_nil ?_
  refine q_then (hK5 _ _ ?_)
  refine w_cond rfl rfl (fun h7 => ?_) (fun h7 => ?_)
  ·
   try simp only [zA, zB, zC, zD, zE, zF] at h7
   refine w_seq (fun K9 hK8 => ?_)
   refine w_region ?_
   refine w_p (y_assign (v := _) rfl rfl) rfl ?_
   refine w_nil ?_
   refine q_then (hK8 _ _ ?_)
   refine w_ret ?_
   refine q_then_ret ?_
   refine q_ret (l := [.tmp 2]) (vs := [_]) rfl ⟨⟨rfl, show _ = (.slice _ _ _ : Value) from rfl⟩, trivial⟩ ?_
   have hr := sl_none (L := F) (w0 := w0) (by have : a = none := (by simpa using ‹a.isNone = true›); subst this; exact ha)
   have hl0 : l = [] := by simpa [krows] using hr
   subst hl0
   exact ⟨none, 0, [], rfl, own_nil 76 6, hs⟩
  ·
   try simp only [zA, zB, zC, zD, zE, zF] at h7
   refine w_skip ?_
   refine q_then (hK3 _ _ ?_)
   refine w_seq (fun K11 hK10 => ?_)
   refine w_region ?_
   refine w_bslice (ps := []) (pv := []) (cs := []) want_none rfl rfl (fun w => Try_Q_fb3  w) hs (fun b12 w13 hs14 => ?_)
   refine w_p (y_move (v := .slice _ _ _) rfl rfl) rfl ?_
   refine w_append (X := ([])) (B := [_]) (rows := krows l q) (sz := 6) (bytes := 88) want_none Try.underlying23 Try_info76 rfl rfl rfl rfl rfl rfl rfl rfl rfl hs14 own_made ha.cons (by simp [krows]) (fun h => by subst h; simp at h7) (krows_one l q) (by simp only [maxLen]; omega) (by omega) (fun v15 w16 B17 ho18 hs19 => ?_)
   replace hs19 := (show St _ _ (B17 ++ (F)) from hs19)
   refine w_p (y_assign (v := v15) rfl rfl) rfl ?_
   refine w_nil ?_
   refine q_then (hK10 _ _ ?_)
   refine w_ret ?_
   refine q_ret (l := [.tmp 2]) (vs := [_]) rfl ⟨⟨rfl, show _ = (v15 : Value) from rfl⟩, trivial⟩ ?_
   rw [Nat.zero_add, List.nil_append] at ho18
   have h9 := ho18
   obtain ⟨a2, c2, rfl⟩ := h9.slice
   exact ⟨a2, c2, _, rfl, h9, hs19⟩

theorem c86 {w0 w : World} {F : List (Nat × Obj)} (a : Option Addr) (c : Nat) (l : List Int) (hl : l.length ≤ 1000000) (ha : Sl w0 F a 1 (l.map fun x => [Value.int .i64 x])) (hs : St w0 w F) :
  Con Try.prog 86 [.slice a l.length c] w fun v w' => ∃ a2 c2 B', v = .slice a2 l.length c2 ∧ Rt.Own (.slice a2 l.length c2) 3 1 l.length (iv l) B' ∧ St w0 w' (B' ++ F) := by
  refine con_of_wc (n := 8) Try.func86 rfl rfl (Nat.le_of_ble_eq_true rfl) ?_
  refine w_seq (fun K2 hK1 => ?_)
  refine w_region ?_
  refine w_p (y_assign (v := _) rfl rfl) rfl ?_
  refine w_nil ?_
  refine q_then (hK1 _ _ ?_)
  refine w_seq (fun K4 hK3 => ?_)
  refine w_seq (fun K6 hK5 => ?_)
  refine w_region ?_
  refine w_p (y_move (v := .slice _ _ _) rfl rfl) rfl ?_
  refine w_p (y_sliceNil Try.underlying39 rfl rfl rfl rfl) rfl ?_
  refine w_nil ?_
  refine q_then (hK5 _ _ ?_)
  refine w_cond rfl rfl (fun h7 => ?_) (fun h7 => ?_)
  ·
   try simp only [zA, zB, zC, zD, zE, zF] at h7
   refine w_seq (fun K9 hK8 => ?_)
   refine w_region ?_
   refine w_p (y_assign (v := _) rfl rfl) rfl ?_
   refine w_nil ?_
   refine q_then (hK8 _ _ ?_)
   refine w_ret ?_
   refine q_then_ret ?_
   refine q_ret (l := [.tmp 2]) (vs := [_]) rfl ⟨⟨rfl, show _ = (.slice _ _ _ : Value) from rfl⟩, trivial⟩ ?_
   have hr := sl_none (L := F) (w0 := w0) (by have : a = none := (by simpa using ‹a.isNone = true›); subst this; exact ha)
   have hl0 : l = [] := by simpa [krows] using hr
   subst hl0
   exact ⟨none, 0, [], rfl, own_nil 3 1, hs⟩
  ·
   try simp only [zA, zB, zC, zD, zE, zF] at h7
   refine w_skip ?_
   refine q_then (hK3 _ _ ?_)
   refine w_seq (fun K11 hK10 => ?_)
   refine w_region ?_
   refine w_bslice (ps := []) (pv := []) (cs := []) want_none rfl rfl (fun w => Try_Q_fb5  w) hs (fun b12 w13 hs14 => ?_)
   refine w_p (y_move (v := .slice _ _ _) rfl rfl) rfl ?_
   refine w_append (X := ([])) (B := [_]) (rows := (l.map fun x => [Value.int .i64 x])) (sz := 1) (bytes := 8) want_none Try.underlying39 Try_info3 rfl rfl rfl rfl rfl rfl rfl rfl rfl hs14 own_made ha.cons (by simp) (fun h => by subst h; simp at h7) (ints1_one l) (by simp only [maxLen]; omega) (by omega) (fun v15 w16 B17 ho18 hs19 => ?_)
   replace hs19 := (show St _ _ (B17 ++ (F)) from hs19)
   refine w_p (y_assign (v := v15) rfl rfl) rfl ?_
   refine w_nil ?_
   refine q_then (hK10 _ _ ?_)
   refine w_ret ?_
   refine q_ret (l := [.tmp 2]) (vs := [_]) rfl ⟨⟨rfl, show _ = (v15 : Value) from rfl⟩, trivial⟩ ?_
   rw [Nat.zero_add, List.nil_append] at ho18
   have h9 := ho18
   obtain ⟨a2, c2, rfl⟩ := h9.slice
   exact ⟨a2, c2, _, rfl, (by rw [ints_rows] at h9; exact h9), hs19⟩

theorem c83 {w0 w : World} {F : List (Nat × Obj)} (b : Board) (p : AtB) (hm : BIn w0 F b p) (hck : (check b).2.2 = 0) (s : Nat) (hs1k : s < 1000) (bq bh : Nat) (h1 : Ats w0 F bq 0 (b.cells p)) (h2 : Ats w0 F bh 0 [.int .i64 (b.hours.length : Int)]) (hs : St w0 w F) :
  Con Try.prog 83 [.int .i64 (s : Int), .pointer (some ⟨bq, 0, none⟩), .pointer (some ⟨bh, 0, none⟩)] w fun v w' => v = .bool (wrongS b s) ∧ St w0 w' F := by
  refine con_of_wc (n := 73) Try.func83 rfl rfl (Nat.le_of_ble_eq_true rfl) ?_
  have hok := check_ok hck
  have hlh := hok.lh
  have hlc := hok.lc
  refine w_seq (fun K2 hK1 => ?_)
  refine w_region ?_
  refine w_p (y_assign (v := _) rfl rfl) rfl ?_
  refine w_nil ?_
  refine q_then (hK1 _ _ ?_)
  refine w_seq (fun K4 hK3 => ?_)
  refine w_region ?_
  refine w_p (y_loadN (vs := [_, _, _]) Try.isAgg25 Try.sizeOf25 hs rfl rfl h1) rfl ?_
  refine w_call want_none Try.call84 rfl rfl rfl rfl (c84 b p hs) ?_
  rintro _ w6 ⟨bb, mm, rfl, hs7⟩
  replace hs7 := (show St _ _ (_ :: _ :: F) from hs7)
  refine w_p (y_assign (v := .pointer _) rfl rfl) rfl ?_
  refine w_nil ?_
  refine q_then (hK3 _ _ ?_)
  refine w_seq (fun K9 hK8 => ?_)
  refine w_region ?_
  refine w_p (y_move (v := .pointer _) rfl rfl) rfl ?_
  refine w_p (y_fieldAddr (o := 2) (i := 2) Try.underlying25 rfl Try.sizeOf23 rfl rfl rfl) rfl ?_
  refine w_p (y_load1 Try.isAgg23 hs7.tail.tail rfl rfl (show Ats _ _ _ _ [_] from Ats.part h1 2 1)) rfl ?_
  refine w_call want_none Try.call85 rfl rfl rfl rfl (c85 _ _ b.ctrs p.pc (by omega) hm.c.cons.cons hs7) ?_
  rintro _ w11 ⟨aC, cC, B1, rfl, hown, hs12⟩
  have hs13 := (show St _ _ (B1 ++ ([_, _] ++ F)) from hs12).perm (perm_mid B1 [_, _] F)
  replace hs13 := (show St _ _ (_ :: _ :: B1 ++ (F)) from hs13)
  refine w_p (y_nilCheck rfl rfl) rfl ?_
  refine w_p (y_fieldAddr (o := 0) (i := 0) Try.underlying129 rfl Try.sizeOf25 rfl rfl rfl) rfl ?_
  refine w_p (y_fieldAddr (o := 2) (i := 2) Try.underlying25 rfl Try.sizeOf23 rfl rfl rfl) rfl ?_
  refine w_store (i := 0) (v := .slice _ _ _) (vs := [_]) want_none Try.sizeOf23 rfl rfl rfl rfl rfl (by simp [Value.oneCell']) hs13 rfl (Nat.le_of_ble_eq_true rfl) (fun w14 hs15 => ?_)
  refine w_nil ?_
  refine q_then (hK8 _ _ ?_)
  refine w_seq (fun K17 hK16 => ?_)
  refine w_seq (fun K19 hK18 => ?_)
  refine w_region ?_
  refine w_p (y_move (v := .pointer _) rfl rfl) rfl ?_
  refine w_p (y_nilCheck rfl rfl) rfl ?_
  refine w_p (y_fieldAddr (o := 0) (i := 0) Try.underlying129 rfl Try.sizeOf25 rfl rfl rfl) rfl ?_
  refine w_p (y_fieldAddr (o := 2) (i := 2) Try.underlying25 rfl Try.sizeOf23 rfl rfl rfl) rfl ?_
  refine w_p (y_load1 Try.isAgg23 hs15 rfl rfl (ats_own (i := 0) (vs := [_]) rfl rfl)) rfl ?_
  refine w_p (y_lenS Try.underlying23 rfl rfl) rfl ?_
  refine w_p (y_move (v := _) rfl rfl) rfl ?_
  refine w_nil ?_
  refine q_then (hK18 _ _ ?_)
  refine w_block ?_
  refine w_loop [4, 6, 7, 8, 24, 25, 26, 27, 28, 29, 30, 31, 32, 33, 34, 35, 36, 37, 38, 39, 40, 41, 42, 43, 44, 45, 46, 47, 48, 49, 50, 51, 52, 53, 54, 55, 56, 57, 58, 59, 60, 61, 62, 63, 64, 65, 66, 67, 68, 69, 70] [24] (fun kk vs w => ∃ (i : Nat) (B1 DB : List (Nat × Obj)) (qc : Nat → AtC), vs = [.int .i64 i] ∧ i ≤ b.ctrs.length ∧ kk = b.ctrs.length - i ∧ Rt.Own (.slice aC b.ctrs.length cC) 76 6 b.ctrs.length (krows (BL b s i) qc).flatten B1 ∧ QC p qc i ∧ DS w0 DB b s qc i ∧ WOK b s (i * b.hours.length + 0) ∧ St w0 w ((bb, blk 129 [.int .i64 b.holds, .slice p.ah b.hours.length p.ch, .slice aC b.ctrs.length cC, .map (some mm)]) :: (mm, .map #[] 0) :: (B1 ++ (DB ++ F)))) (b.ctrs.length) ?_ ?_
  ·
   exact ⟨0, B1, [], p.pc, rfl, by omega, by omega, by rw [BL_zero]; exact hown, qc_zero p, ds_zero w0 b s _, (fun j hj => by omega), hs15⟩
  ·
   intro k vs μ w22 hI K21 hN20
   clear hs hown
   obtain ⟨i, B1, DB, qc, rfl, hia, rfl, hown, hqc, hds, hwk, hs⟩ := hI
   refine w_seq (fun K24 hK23 => ?_)
   refine w_region ?_
   refine w_p (y_lss rfl rfl rfl rfl) rfl ?_
   refine w_nil ?_
   refine q_then (hK23 _ _ ?_)
   refine w_seq (fun K26 hK25 => ?_)
   refine w_cond rfl rfl (fun h27 => ?_) (fun h27 => ?_)
   ·
    try simp only [zA, zB, zC, zD, zE, zF] at h27
    refine w_skip ?_
    refine q_then (hK25 _ _ ?_)
    refine w_seq (fun K29 hK28 => ?_)
    refine w_block ?_
    refine w_seq (fun K31 hK30 => ?_)
    refine w_region ?_
    refine w_p (y_move (v := .int _ _) rfl rfl) rfl ?_
    refine w_p (y_assign (v := .int _ _) rfl rfl) rfl ?_
    refine w_nil ?_
    refine q_then (hK30 _ _ ?_)
    refine w_seq (fun K33 hK32 => ?_)
    have hi2 : i < b.ctrs.length := by omega
    have hci := hok.ctr _ (List.getElem_mem hi2)
    have hlz := hci.ls
    obtain ⟨bc, cs, rfl, rfl, hcap, hcapm, hcl, htk⟩ := own_some2 hown (by omega)
    replace hs := (show St _ _ (_ :: _ :: _ :: DB ++ (F)) from hs)
    obtain ⟨bx, ox, hbx2, hrow⟩ := sl_krows (sl_own (w0 := w0) (L := (bc, blk 76 cs) :: (DB ++ F)) (i := 0) rfl (krows_row (BL b s i) qc) (by rw [krows_len, BL_len (by omega)]; exact htk)) (i := i) (by rw [BL_len (by omega)]; exact hi2)
    cases hbx2
    rw [BL_get hi2, hqc.1 i (Nat.le_refl _)] at hrow
    refine w_region ?_
    refine w_p (y_move (v := .pointer _) rfl rfl) rfl ?_
    refine w_p (y_nilCheck rfl rfl) rfl ?_
    refine w_p (y_fieldAddr (o := 0) (i := 0) Try.underlying129 rfl Try.sizeOf25 rfl rfl rfl) rfl ?_
    refine w_p (y_fieldAddr (o := 2) (i := 2) Try.underlying25 rfl Try.sizeOf23 rfl rfl rfl) rfl ?_
    refine w_p (y_load1 Try.isAgg23 hs rfl rfl (ats_own (i := 0) (vs := [_]) rfl rfl)) rfl ?_
    refine w_p (y_move (v := .int _ _) rfl rfl) rfl ?_
    refine w_p (y_indexS Try.underlying23 Try.sizeOf76 rfl rfl rfl rfl (i := i) rfl hi2) rfl ?_
    refine w_p (y_assign (v := .pointer _) rfl rfl) rfl ?_
    refine w_nil ?_
    refine q_then (hK32 _ _ ?_)
    refine w_seq (fun K35 hK34 => ?_)
    refine w_region ?_
    refine w_p (y_move (v := .pointer _) rfl rfl) rfl ?_
    refine w_p (y_move (v := .pointer _) rfl rfl) rfl ?_
    refine w_p (y_nilCheck rfl rfl) rfl ?_
    refine w_p (y_fieldAddr (o := 5) (i := 5) Try.underlying76 rfl Try.sizeOf39 rfl rfl rfl) rfl ?_
    refine w_p (y_load1 Try.isAgg39 hs.tail.tail rfl rfl (show Ats _ _ _ _ [_] from Ats.part hrow 5 1)) rfl ?_
    refine w_call want_none Try.call86 rfl rfl rfl rfl (c86 _ _ (b.ctrs[i]'hi2).shown (by omega) (hm.s i hi2).app.cons.cons.cons hs) ?_
    rintro _ w37 ⟨a2, c2, B2, rfl, hown2, hs38⟩
    have hs39 := (show St _ _ (B2 ++ ([_, _, _] ++ (DB ++ F))) from hs38).perm (perm_mid B2 [_, _, _] (DB ++ F))
    replace hs39 := (show St _ _ (_ :: _ :: _ :: B2 ++ (DB ++ (F))) from hs39)
    refine w_p (y_nilCheck rfl rfl) rfl ?_
    refine w_p (y_fieldAddr (o := 5) (i := 5) Try.underlying76 rfl Try.sizeOf39 rfl rfl rfl) rfl ?_
    refine w_store (i := 2) (v := .slice _ _ _) (vs := [_]) want_none Try.sizeOf39 rfl rfl rfl rfl rfl (by simp [Value.oneCell']) hs39 rfl (by show 0 + i * 6 + 5 + 1 ≤ cs.length; omega) (fun w40 hs41 => ?_)
    replace hs41 := (show St _ _ (_ :: _ :: (bc, blk 76 (setMany cs (0 + i * 6 + 5) [(Value.slice a2 (b.ctrs[i]'hi2).shown.length c2)])) :: (B2 ++ (DB ++ F))) from hs41)
    have he0 : setMany cs (0 + i * 6 + 5) [(Value.slice a2 (b.ctrs[i]'hi2).shown.length c2)] = cs.set (i * 6 + 5) (Value.slice a2 (b.ctrs[i]'hi2).shown.length c2) := by simp only [setMany, Nat.zero_add]
    rw [he0] at hs41
    obtain ⟨cs1, hcs1⟩ : ∃ cs1, cs1 = cs.set (i * 6 + 5) (Value.slice a2 (b.ctrs[i]'hi2).shown.length c2) := ⟨_, rfl⟩
    rw [← hcs1] at hs41
    have hcell : (cs1.drop (0 + i * 6 + 5)).take [(Value.slice a2 (b.ctrs[i]'hi2).shown.length c2)].length = [(Value.slice a2 (b.ctrs[i]'hi2).shown.length c2)] := by rw [hcs1, Nat.zero_add]; exact drop_set_cell (by omega)
    refine w_nil ?_
    refine q_then (hK34 _ _ ?_)
    refine w_seq (fun K43 hK42 => ?_)
    refine w_region ?_
    refine w_p (y_load1 Try.isAgg3 hs41.tail.tail.tail.drop.drop rfl rfl h2) rfl ?_
    refine w_p (y_move (v := _) rfl rfl) rfl ?_
    refine w_nil ?_
    refine q_then (hK42 _ _ ?_)
    refine w_block ?_
    refine w_loop [4, 8, 43, 44, 45, 46, 47, 48, 49, 50, 51, 52, 53, 54, 55, 56, 57, 58, 59, 60, 61, 62, 63, 64, 65, 66, 67, 68, 69] [43] (fun kk vs w => ∃ (k : Nat) (B2 : List (Nat × Obj)), vs = [.int .i64 k] ∧ k ≤ b.hours.length ∧ kk = b.hours.length - k ∧ Rt.Own (Value.slice a2 (b.ctrs[i]'hi2).shown.length c2) 3 1 (b.ctrs[i]'hi2).shown.length (iv (shPart b.hours.length s i k (b.ctrs[i]'hi2).shown)) B2 ∧ WOK b s (i * b.hours.length + k) ∧ St w0 w ((bb, blk 129 [.int .i64 b.holds, .slice p.ah b.hours.length p.ch, .slice (some ⟨bc, 0, none⟩) b.ctrs.length cC, .map (some mm)]) :: (mm, .map #[] 0) :: (bc, blk 76 cs1) :: (B2 ++ (DB ++ F)))) (b.hours.length) ?_ ?_
    ·
     exact ⟨0, B2, rfl, by omega, by omega, by rw [shPart_zero]; exact hown2, hwk, hs41⟩
    ·
     intro k vs μ w46 hI K45 hN44
     clear hs hown2
     obtain ⟨k, B2, rfl, hka, rfl, hown2, hwk2, hs⟩ := hI
     refine w_seq (fun K48 hK47 => ?_)
     refine w_region ?_
     refine w_p (y_lss rfl rfl rfl rfl) rfl ?_
     refine w_nil ?_
     refine q_then (hK47 _ _ ?_)
     refine w_seq (fun K50 hK49 => ?_)
     refine w_cond rfl rfl (fun h51 => ?_) (fun h51 => ?_)
     ·
      try simp only [zA, zB, zC, zD, zE, zF] at h51
      refine w_skip ?_
      refine q_then (hK49 _ _ ?_)
      refine w_seq (fun K53 hK52 => ?_)
      refine w_block ?_
      refine w_seq (fun K55 hK54 => ?_)
      refine w_region ?_
      refine w_p (y_move (v := .int _ _) rfl rfl) rfl ?_
      refine w_p (y_assign (v := .int _ _) rfl rfl) rfl ?_
      refine w_nil ?_
      refine q_then (hK54 _ _ ?_)
      refine w_seq (fun K57 hK56 => ?_)
      refine w_seq (fun K59 hK58 => ?_)
      have hk2 : k < b.hours.length := by omega
      have hm8 := mul_in8 hlh hlc hi2 hk2
      have hmi : ((i : Int) * (b.hours.length : Int)) = ((i * b.hours.length : Nat) : Int) := by push_cast; rfl
      refine w_region ?_
      refine w_p (y_move (v := .int _ _) rfl rfl) rfl ?_
      refine w_p (y_move (v := .int _ _) rfl rfl) rfl ?_
      refine w_p (y_load1 Try.isAgg3 hs.tail.tail.tail.drop.drop rfl rfl h2) rfl ?_
      refine w_p (yd_cast (z' := ((i * b.hours.length : Nat) : Int)) hmi (y_mul rfl rfl rfl rfl (by omega) (by omega))) rfl ?_
      refine w_p (y_move (v := .int _ _) rfl rfl) rfl ?_
      refine w_p (yd_cast (z' := ((i * b.hours.length + k : Nat) : Int)) (by omega) (y_add rfl rfl rfl rfl (by omega) (by omega))) rfl ?_
      refine w_p (y_shr (x := s) (y := i * b.hours.length + k) rfl rfl rfl rfl (by first | rfl | omega) (by first | rfl | omega) (by first | omega | exact shr_lt (by omega))) rfl ?_
      refine w_p (show Yd _ _ _ _ (.int .i64 ((bit s (i * b.hours.length + k) : Nat) : Int)) from (y_and (x := _) (y := 1) rfl rfl rfl rfl rfl rfl (by first | omega | exact shr_lt (by omega)) (by first | omega | exact shr_lt (by omega)))) rfl ?_
      refine w_p (y_eql rfl rfl rfl rfl) rfl ?_
      refine w_nil ?_
      refine q_then (hK58 _ _ ?_)
      refine w_cond rfl rfl (fun h60 => ?_) (fun h60 => ?_)
      ·
       try simp only [zA, zB, zC, zD, zE, zF] at h60
       refine w_exit ?_
       refine q_then_exit ?_
       refine q_blk_this ?_
       refine q_then (hK52 _ _ ?_)
       refine w_region ?_
       refine w_p (y_add rfl rfl rfl rfl (by omega) (by omega)) rfl ?_
       refine w_p (y_move (v := .int _ _) rfl rfl) rfl ?_
       refine w_nil ?_
       refine q_then (hN44 _ _ (Nx.intro (b.hours.length - (k + 1)) (by omega) (by repeat (first | exact agree_mix | refine agree_upd rfl ?_ | refine agree_updL rfl ?_ _ | refine agree_mixin rfl ?_)) ?_))
       exact ⟨k + 1, B2, rfl, by omega, rfl, by rw [← shPart_no (by omega)]; exact hown2, wok_no hwk2 (by omega), hs⟩
      ·
       try simp only [zA, zB, zC, zD, zE, zF] at h60
       refine w_skip ?_
       refine q_then (hK56 _ _ ?_)
       refine w_seq (fun K62 hK61 => ?_)
       refine w_seq (fun K64 hK63 => ?_)
       have hk2 : k < b.hours.length := by omega
       obtain ⟨d, cs2, rfl, rfl, hcap2, hcapm2, hcl2, htk2⟩ := own_some2 hown2 (by omega)
       replace hs := (show St _ _ (_ :: _ :: _ :: _ :: DB ++ (F)) from hs)
       refine w_region ?_
       refine w_p (y_move (v := .pointer _) rfl rfl) rfl ?_
       refine w_p (y_nilCheck rfl rfl) rfl ?_
       refine w_p (y_fieldAddr (o := 5) (i := 5) Try.underlying76 rfl Try.sizeOf39 rfl rfl rfl) rfl ?_
       refine w_p (y_load1 Try.isAgg39 hs rfl rfl (ats_own (i := 2) (vs := [_]) rfl hcell)) rfl ?_
       refine w_p (y_move (v := .int _ _) rfl rfl) rfl ?_
       refine w_p (y_indexS Try.underlying39 Try.sizeOf3 rfl rfl rfl rfl (i := k) rfl (by omega)) rfl ?_
       refine w_p (y_load1 Try.isAgg3 hs rfl rfl (ats_own (i := 3) (vs := [_]) rfl (take_get htk2 (by rw [shPart_len]) (by omega)))) rfl ?_
       refine w_p (y_eql rfl rfl rfl rfl) rfl ?_
       refine w_nil ?_
       refine q_then (hK63 _ _ ?_)
       refine w_cond rfl rfl (fun h65 => ?_) (fun h65 => ?_)
       ·
        try simp only [zA, zB, zC, zD, zE, zF] at h65
        refine w_seq (fun K67 hK66 => ?_)
        refine w_region ?_
        refine w_p (y_assign (v := _) rfl rfl) rfl ?_
        refine w_nil ?_
        refine q_then (hK66 _ _ ?_)
        refine w_ret ?_
        refine q_then_ret ?_
        refine q_blk_ret ?_
        refine q_then_ret ?_
        refine q_then_ret ?_
        refine q_blk_ret ?_
        refine q_blk_ret ?_
        refine q_then_ret ?_
        refine q_then_ret ?_
        refine q_blk_ret ?_
        refine q_then_ret ?_
        refine q_ret (l := [.tmp 4]) (vs := [_]) rfl ⟨⟨rfl, show _ = (.bool _ : Value) from rfl⟩, trivial⟩ ?_
        exact ⟨congrArg Value.bool (wrongS_no hi2 hk2 (by have := bit_lt2 s (i * b.hours.length + k); omega) (by rw [← shPart_get (n := b.hours.length) (s := s) (i := i) (by omega)]; assumption)).symm, hs.tail.tail.tail.tail.drop⟩
       ·
        try simp only [zA, zB, zC, zD, zE, zF] at h65
        refine w_skip ?_
        refine q_then (hK61 _ _ ?_)
        refine w_region ?_
        refine w_p (y_move (v := .pointer _) rfl rfl) rfl ?_
        refine w_p (y_nilCheck rfl rfl) rfl ?_
        refine w_p (y_fieldAddr (o := 5) (i := 5) Try.underlying76 rfl Try.sizeOf39 rfl rfl rfl) rfl ?_
        refine w_p (y_load1 Try.isAgg39 hs rfl rfl (ats_own (i := 2) (vs := [_]) rfl hcell)) rfl ?_
        refine w_p (y_move (v := .int _ _) rfl rfl) rfl ?_
        refine w_p (y_indexS Try.underlying39 Try.sizeOf3 rfl rfl rfl rfl (i := k) rfl (by omega)) rfl ?_
        refine w_store (i := 3) (v := .int _ _) (vs := [_]) want_none Try.sizeOf3 rfl rfl rfl rfl rfl (by simp [Value.oneCell']) hs rfl (by show 0 + k * 1 + 1 ≤ cs2.length; omega) (fun w68 hs69 => ?_)
        refine w_nil ?_
        refine q_blk_normal ?_
        refine q_then (hK52 _ _ ?_)
        refine w_region ?_
        refine w_p (y_add rfl rfl rfl rfl (by omega) (by omega)) rfl ?_
        refine w_p (y_move (v := .int _ _) rfl rfl) rfl ?_
        refine w_nil ?_
        refine q_then (hN44 _ _ (Nx.intro (b.hours.length - (k + 1)) (by omega) (by repeat (first | exact agree_mix | refine agree_upd rfl ?_ | refine agree_updL rfl ?_ _ | refine agree_mixin rfl ?_)) ?_))
        exact ⟨k + 1, [(d, blk 3 (setMany cs2 (0 + k * 1) [.int .i64 (-1)]))], rfl, by omega, rfl, own_mk (by rw [List.length_map, shPart_len]; omega) hcap2 hcapm2 (by rw [setMany_len]; exact hcl2) (by rw [← shPart_yes (by omega) (by have := bit_lt2 s (i * b.hours.length + k); omega)]; exact take_put htk2), wok_yes hi2 hk2 hwk2 (by rw [← shPart_get (n := b.hours.length) (s := s) (i := i) (by omega)]; assumption), hs69⟩
     ·
      try simp only [zA, zB, zC, zD, zE, zF] at h51
      refine w_exit ?_
      refine q_then_exit ?_
      refine q_then_exit ?_
      refine q_blk_this ?_
      refine q_blk_normal ?_
      refine q_then (hK28 _ _ ?_)
      refine w_region ?_
      refine w_p (y_add rfl rfl rfl rfl (by omega) (by omega)) rfl ?_
      refine w_p (y_move (v := .int _ _) rfl rfl) rfl ?_
      refine w_nil ?_
      refine q_then (hN20 _ _ (Nx.intro (b.ctrs.length - (i + 1)) (by omega) (by repeat (first | exact agree_mix | refine agree_upd rfl ?_ | refine agree_updL rfl ?_ _ | refine agree_mixin rfl ?_)) ?_))
      have hsl2 := own_int_sl (w0 := w0) hown2 (shPart_len _ _ _ _ _)
      rw [shPart_all (by omega)] at hsl2
      exact ⟨i + 1, [(bc, blk 76 cs1)], B2 ++ DB, setPc qc i a2 c2, rfl, by omega, rfl, own_mk (by rw [flat_len_sz (krows_row _ _), krows_len, BL_len (by omega)]) hcap hcapm (by rw [hcs1, List.length_set]; exact hcl) (by
        rw [hcs1, take_cell (by omega) (krows_row (BL b s i) qc) (by rw [krows_len, BL_len (by omega)]; exact hi2) htk, BL_set hi2, ← krows_set (by rw [BL_len (by omega)]; exact hi2) (by simp only [BL_get hi2]; exact but_cells)]
        simp only [krows, List.getElem_mapIdx, BL_get hi2]), hqc.next _ _, hds.next hi2 hsl2.1 hsl2.2, wok_row (by omega) (by omega) hwk2, (by rw [List.append_assoc]; exact hs)⟩
   ·
    try simp only [zA, zB, zC, zD, zE, zF] at h27
    refine w_exit ?_
    refine q_then_exit ?_
    refine q_then_exit ?_
    refine q_blk_this ?_
    refine q_then (hK16 _ _ ?_)
    refine w_seq (fun K71 hK70 => ?_)
    have hs72 := swp2 hs
    replace hs72 := (show St _ _ (_ :: _ :: B1 ++ (DB ++ (F))) from hs72)
    have hkb : BK w0 ((bb, blk 129 [.int .i64 b.holds, .slice p.ah b.hours.length p.ch, .slice aC b.ctrs.length cC, .map (some mm)]) :: (B1 ++ (DB ++ F))) (butB b s) ⟨p.ah, p.ch, aC, cC, qc⟩ bb mm := ⟨(but_bin hm (by omega) hown hqc hds).cons, ats_own (i := 0) rfl (by simp only [butB_len]; rfl), butB_ok hok s⟩
    refine w_region ?_
    refine w_p (y_move (v := .pointer _) rfl rfl) rfl ?_
    refine w_call want_none Try.call87 rfl rfl rfl rfl (c87 (X := []) (M := [(mm, .map #[] 0)]) (butB b s) _ bb mm hkb (memo_new w0 _ mm) hs72) ?_
    rintro _ w74 ⟨rfl, M2, hM2, hs75⟩
    replace hs75 := (show St _ _ (M2 ++ (_ :: B1 ++ (DB ++ (F)))) from hs75)
    refine w_p (y_assign (v := .bool _) rfl rfl) rfl ?_
    refine w_nil ?_
    refine q_then (hK70 _ _ ?_)
    refine w_ret ?_
    refine q_ret (l := [.tmp 4]) (vs := [_]) rfl ⟨⟨rfl, show _ = (.bool _ : Value) from rfl⟩, trivial⟩ ?_
    exact ⟨congrArg Value.bool (wrongS_yes (by omega) hwk).symm, hs75.drop.tail.drop.drop⟩

end Go.Proofs
/- Walks of this seat, printed by gen.py over the engine: what each function returns, in whatever world. No conditions but those of each contract. -/
set_option linter.unusedVariables false
set_option linter.unusedSimpArgs false
set_option maxRecDepth 20000
namespace Go.Proofs
open Go.Rt Go.Rt.Ch
open Go.Rt.Ha (firstE firstE_step firstE_stop firstE_end failE nameE felt spanL upto span_mem listL fewest fewTo bit before fewStep drop_lt drop_get drop_next drop_done drop_notin set_take set_zero take_less Lot Bunch feltTo fTo fPart felt_zero felt_step fTo_succ fTo_len fPart_succ fPart_len fPart_all filt_yes filt_no upto_len at_ someOf choicesTo cfind_here cfind_next cfind_on choices_fin pick_idx pickL_in find_on find_next)
attribute [local irreducible] WL WC Con Yd At Ats Sl Agree DW
end Go.Proofs
/- Walks of this seat, printed by gen.py over the engine: what each function returns, in whatever world. No conditions but those of each contract. -/
set_option linter.unusedVariables false
set_option linter.unusedSimpArgs false
set_option maxRecDepth 20000
namespace Go.Proofs
open Go.Rt Go.Rt.Ch
open Go.Rt.Ha (firstE firstE_step firstE_stop firstE_end failE nameE felt spanL upto span_mem listL fewest fewTo bit before fewStep drop_lt drop_get drop_next drop_done drop_notin set_take set_zero take_less Lot Bunch feltTo fTo fPart felt_zero felt_step fTo_succ fTo_len fPart_succ fPart_len fPart_all filt_yes filt_no upto_len at_ someOf choicesTo cfind_here cfind_next cfind_on choices_fin pick_idx pickL_in find_on find_next)
attribute [local irreducible] WL WC Con Yd At Ats Sl Agree DW
def BT (b : Board) (s i : Nat) : List Ctr := (butB b s).ctrs.take i
theorem krows_snoc {l : List Ctr} {c : Ctr} {q q2 : Nat → AtC} (h : ∀ j, j < l.length → q2 j = q j) : krows (l ++ [c]) q2 = krows l q ++ [c.cells (q2 l.length)] := by
  unfold krows
  rw [List.mapIdx_append]
  congr 1
  · apply List.ext_getElem
    · simp
    · intro j h1 h2
      have hj : j < l.length := by simpa using h1
      simp [h j hj]
  · simp
end Go.Proofs
/- Walks of this seat, printed by gen.py over the engine: what each function returns, in whatever world. No conditions but those of each contract. -/
set_option linter.unusedVariables false
set_option linter.unusedSimpArgs false
set_option maxRecDepth 20000
namespace Go.Proofs
open Go.Rt Go.Rt.Ch
open Go.Rt.Ha (firstE firstE_step firstE_stop firstE_end failE nameE felt spanL upto span_mem listL fewest fewTo bit before fewStep drop_lt drop_get drop_next drop_done drop_notin set_take set_zero take_less Lot Bunch feltTo fTo fPart felt_zero felt_step fTo_succ fTo_len fPart_succ fPart_len fPart_all filt_yes filt_no upto_len at_ someOf choicesTo cfind_here cfind_next cfind_on choices_fin pick_idx pickL_in find_on find_next rising rising_step rising_end rising_stop list_rising before_fewer)
attribute [local irreducible] WL WC Con Yd At Ats Sl Agree DW

theorem sl_u8 {w0 : World} {F : List (Nat × Obj)} {a : Option Addr} {l : List Int} {i : Nat} (h : Sl w0 F a 1 (l.map fun x => [Value.int .u8 x])) (hi : i < l.length) :
    ∃ b off, a = some ⟨b, off, none⟩ ∧ Ats w0 F b (off + i * 1) [.int .u8 l[i]] := by
  obtain ⟨b, off, ha, _, hat⟩ := h.at (i := i) (row := [.int .u8 l[i]]) (by simp [hi])
  exact ⟨b, off, ha, hat⟩
theorem c49 {w0 w : World} {F : List (Nat × Obj)} (ax : Option Addr) (cx : Nat) (x : List Int) (hxl : x.length ≤ 9223372036854775807) (hxs : Sl w0 F ax 1 (x.map fun n => [Value.int .u8 n])) (hxr : ∀ z ∈ x, 0 ≤ z ∧ z ≤ 255) (n : Nat) (hs : St w0 w F) : Con Try.prog 49 [.slice ax x.length cx, .int .i64 (n : Int)] w fun v w' => v = .int .i64 (turnOf x n) ∧ St w0 w' F := by
  refine con_of_wc (n := 16) Try.func49 rfl rfl (Nat.le_of_ble_eq_true rfl) ?_
  refine w_seq (fun K2 hK1 => ?_)
  refine w_region ?_
  refine w_p (y_assign (v := _) rfl rfl) rfl ?_
  refine w_nil ?_
  refine q_then (hK1 _ _ ?_)
  refine w_seq (fun K4 hK3 => ?_)
  refine w_seq (fun K6 hK5 => ?_)
  refine w_region ?_
  refine w_p (y_move (v := .slice _ _ _) rfl rfl) rfl ?_
  refine w_p (y_lenS Try.underlying47 rfl rfl) rfl ?_
  refine w_p (y_eql rfl rfl rfl rfl) rfl ?_
  refine w_nil ?_
  refine q_then (hK5 _ _ ?_)
  refine w_cond rfl rfl (fun h7 => ?_) (fun h7 => ?_)
  ·
   try simp only [zA, zB, zC, zD, zE, zF] at h7
   refine w_seq (fun K9 hK8 => ?_)
   refine w_region ?_
   refine w_p (y_assign (v := _) rfl rfl) rfl ?_
   refine w_nil ?_
   refine q_then (hK8 _ _ ?_)
   refine w_ret ?_
   refine q_then_ret ?_
   refine q_ret (l := [.tmp 4]) (vs := [_]) rfl ⟨⟨rfl, show _ = (.int _ _ : Value) from rfl⟩, trivial⟩ ?_
   first
     | exact ⟨congrArg (Value.int .i64) (by unfold turnOf; rw [if_pos (by omega)]), hs⟩
     | exact ⟨congrArg (Value.int .i64) (turn_at hx0), hs⟩
  ·
   try simp only [zA, zB, zC, zD, zE, zF] at h7
   refine w_skip ?_
   refine q_then (hK3 _ _ ?_)
   refine w_seq (fun K11 hK10 => ?_)
   have hx0 : 0 < x.length := by omega
   have hm := Nat.mod_lt n hx0
   obtain ⟨bx, ox, rfl, hx⟩ := sl_u8 hxs hm
   have hr := hxr _ (List.getElem_mem hm)
   refine w_region ?_
   refine w_p (y_move (v := .slice _ _ _) rfl rfl) rfl ?_
   refine w_p (y_move (v := .int _ _) rfl rfl) rfl ?_
   refine w_p (y_move (v := .slice _ _ _) rfl rfl) rfl ?_
   refine w_p (y_lenS Try.underlying47 rfl rfl) rfl ?_
   refine w_p (y_rem rfl rfl rfl rfl (by omega) (by omega)) rfl ?_
   refine w_p (y_indexS Try.underlying47 Try.sizeOf5 rfl rfl rfl rfl (i := n % x.length) (by simp) hm) rfl ?_
   refine w_p (y_load1 Try.isAgg5 hs rfl rfl hx) rfl ?_
   refine w_p (y_u8int (by rw [Try.underlying5]; rfl) Try.underlying3 rfl rfl (by omega) (by omega)) rfl ?_
   refine w_p (y_assign (v := .int _ _) rfl rfl) rfl ?_
   refine w_nil ?_
   refine q_then (hK10 _ _ ?_)
   refine w_ret ?_
   refine q_ret (l := [.tmp 4]) (vs := [_]) rfl ⟨⟨rfl, show _ = (.int _ _ : Value) from rfl⟩, trivial⟩ ?_
   first
     | exact ⟨congrArg (Value.int .i64) (by unfold turnOf; rw [if_pos (by omega)]), hs⟩
     | exact ⟨congrArg (Value.int .i64) (turn_at hx0), hs⟩

end Go.Proofs
/- Walks of this seat, printed by gen.py over the engine: what each function returns, in whatever world. No conditions but those of each contract. -/
set_option linter.unusedVariables false
set_option linter.unusedSimpArgs false
set_option maxRecDepth 20000
set_option maxHeartbeats 3200000
namespace Go.Proofs
open Go.Rt Go.Rt.Ch
open Go.Rt.Ha (firstE firstE_step firstE_stop firstE_end failE nameE felt spanL upto span_mem listL fewest fewTo bit before fewStep drop_lt drop_get drop_next drop_done drop_notin set_take set_zero take_less Lot Bunch feltTo fTo fPart felt_zero felt_step fTo_succ fTo_len fPart_succ fPart_len fPart_all filt_yes filt_no upto_len at_ someOf choicesTo cfind_here cfind_next cfind_on choices_fin pick_idx pickL_in find_on find_next rising rising_step rising_end rising_stop list_rising before_fewer)
attribute [local irreducible] WL WC Con Yd At Ats Sl Agree DW
theorem Try_Zn_fb10 (x0 : Int) (w : World) : (Instr.buildSlice 39 1 [(0, .int .i64 x0)].toArray).run Try.prog w = .ok (.slice (some ⟨w.heap.size, 0, none⟩) 1 1) (w.alloc (Go.Rt.blk 3 [.int .i64 x0])) := by kernel_rfl
theorem Try_Zn_fb11 (x0 : Bool) (w : World) : (Instr.buildSlice 50 1 [(0, .bool x0)].toArray).run Try.prog w = .ok (.slice (some ⟨w.heap.size, 0, none⟩) 1 1) (w.alloc (Go.Rt.blk 4 [.bool x0])) := by kernel_rfl
theorem Try_Zn_fb12  (w : World) : (Instr.buildSlice 23 0 [].toArray).run Try.prog w = .ok (.slice (some ⟨w.heap.size, 0, none⟩) 0 0) (w.alloc (Go.Rt.blk 76 [])) := by kernel_rfl
theorem Try_Zn_fb13 (x0 : ByteArray) (x1 : Int) (x2 : Int) (x3 : Int) (x4 : Option Addr) (l4 c4 : Nat) (x5 : Option Addr) (l5 c5 : Nat) (w : World) : (Instr.buildSlice 23 1 [(0, .agg #[.string x0, .int .i64 x1, .int .i64 x2, .int .i64 x3, .slice x4 l4 c4, .slice x5 l5 c5])].toArray).run Try.prog w = .ok (.slice (some ⟨w.heap.size, 0, none⟩) 1 1) (w.alloc (Go.Rt.blk 76 [.string x0, .int .i64 x1, .int .i64 x2, .int .i64 x3, .slice x4 l4 c4, .slice x5 l5 c5])) := by kernel_rfl
theorem Try_Zn_fb14  (w : World) : (Instr.buildSlice 51 0 [].toArray).run Try.prog w = .ok (.slice (some ⟨w.heap.size, 0, none⟩) 0 0) (w.alloc (Go.Rt.blk 50 [])) := by kernel_rfl
theorem Try_info50 : Try.prog.info? 50 = some Try.t50 := by kernel_rfl
theorem Try_Zn_fb16 (x0 : Option Addr) (l0 c0 : Nat) (w : World) : (Instr.buildSlice 51 1 [(0, .slice x0 l0 c0)].toArray).run Try.prog w = .ok (.slice (some ⟨w.heap.size, 0, none⟩) 1 1) (w.alloc (Go.Rt.blk 50 [.slice x0 l0 c0])) := by kernel_rfl
def PD (w0 : World) (DB : List (Nat × Obj)) (b : Board) (x : Past) (qc : Nat → AtC) (i : Nat) : Prop := ∀ k (hk : k < i) (hk2 : k < b.ctrs.length), Sl w0 DB (qc k).as 1 ((pShown b x b.ctrs[k] k b.hours.length).map fun x => [Value.int .i64 x]) ∧ b.hours.length ≤ (qc k).cs
theorem pd_zero (w0 : World) (b : Board) (x : Past) (qc : Nat → AtC) : PD w0 [] b x qc 0 := fun k hk => by omega
theorem PD.next {w0 : World} {DB SQ ZQ : List (Nat × Obj)} {b : Board} {x : Past} {i : Nat} {qc : Nat → AtC} (h : PD w0 DB b x qc i) {a : Option Addr} {c : Nat} (hi : i < b.ctrs.length) (h2 : Sl w0 SQ a 1 ((pShown b x b.ctrs[i] i b.hours.length).map fun x => [Value.int .i64 x])) (hc : b.hours.length ≤ c) : PD w0 (SQ ++ (ZQ ++ DB)) b x (setPc qc i a c) (i + 1) := by
  intro k hk hk2
  unfold setPc
  by_cases e : k = i
  · subst e; rw [if_pos rfl]; exact ⟨h2.top, hc⟩
  · rw [if_neg e]
    have := h k (by omega) hk2
    exact ⟨this.1.app.app, this.2⟩
def EB (w0 : World) (F : List (Nat × Obj)) (vs : List Value) (l : List (List Bool)) : Prop := vs.length = l.length ∧ ∀ k (h1 : k < vs.length) (h2 : k < l.length), ∃ a c, vs[k] = .slice a l[k].length c ∧ Sl w0 F a 1 (l[k].map fun r => [Value.bool r])
theorem EB.mono {w0 : World} {F F' : List (Nat × Obj)} {vs : List Value} {l : List (List Bool)} (h : EB w0 F vs l) (hs : ∀ w, St w0 w F' → St w0 w F) : EB w0 F' vs l := ⟨h.1, fun k h1 h2 => by obtain ⟨a, c, e, hl⟩ := h.2 k h1 h2; exact ⟨a, c, e, hl.mono hs⟩⟩
theorem EB.app {w0 : World} {F B : List (Nat × Obj)} {vs : List Value} {l : List (List Bool)} (h : EB w0 F vs l) : EB w0 (B ++ F) vs l := h.mono fun _ h => h.drop
theorem EB.cons {w0 : World} {F : List (Nat × Obj)} {x : Nat × Obj} {vs : List Value} {l : List (List Bool)} (h : EB w0 F vs l) : EB w0 (x :: F) vs l := h.mono fun _ h => h.tail
theorem EB.top {w0 : World} {F B : List (Nat × Obj)} {vs : List Value} {l : List (List Bool)} (h : EB w0 B vs l) : EB w0 (B ++ F) vs l := ⟨h.1, fun k h1 h2 => by obtain ⟨a, c, e, hl⟩ := h.2 k h1 h2; exact ⟨a, c, e, hl.top⟩⟩
theorem eb_nil (w0 : World) (F : List (Nat × Obj)) : EB w0 F [] [] := ⟨rfl, fun k h1 => absurd h1 (Nat.not_lt_zero _)⟩
theorem EB.snoc {w0 : World} {F : List (Nat × Obj)} {vs : List Value} {l : List (List Bool)} (h : EB w0 F vs l) {a : Option Addr} {r : List Bool} {n c : Nat} (hn : n = r.length) (hl : Sl w0 F a 1 (r.map fun r => [Value.bool r])) : EB w0 F (vs ++ [.slice a n c]) (l ++ [r]) := by
  subst hn
  refine ⟨by simp [h.1], fun k h1 h2 => ?_⟩
  have e0 := h.1
  by_cases hk : k < vs.length
  · obtain ⟨a', c', e, hl'⟩ := h.2 k hk (by omega)
    refine ⟨a', c', ?_, ?_⟩
    · rw [List.getElem_append_left hk, e, List.getElem_append_left (by omega)]
    · rw [List.getElem_append_left (by omega)]; exact hl'
  · have hk2 : k = vs.length := by simp at h1; omega
    subst hk2
    refine ⟨a, c, ?_, ?_⟩
    · simp [e0]
    · rw [List.getElem_append_right (by omega)]; simpa [e0] using hl
theorem eb_one {w0 : World} {F : List (Nat × Obj)} {vs : List Value} {l : List (List Bool)} (h : EB w0 F vs l) : ∀ row ∈ vs.map (fun v => [v]), ∀ u ∈ row, u.oneCell' = true := by
  intro row hr u hu
  obtain ⟨v, hv, rfl⟩ := List.mem_map.1 hr
  obtain ⟨k, hk, rfl⟩ := List.getElem_of_mem hv
  obtain ⟨a, c, e, _⟩ := h.2 k hk (by have := h.1; omega)
  rw [List.mem_singleton.1 hu, e]; rfl
theorem rows_one (vs : List Value) : (vs.map fun v => [v]).flatten = vs := by induction vs <;> simp_all
theorem rows_bool (l : List Bool) : (l.map fun r => [Value.bool r]).flatten = l.map Value.bool := by induction l <;> simp_all
theorem own_prow {b : Board} {x : Past} {i c2 : Nat} {a2 : Option Addr} {v : Value} {NB : List (Nat × Obj)} {p : AtB} {qc : Nat → AtC} (hq : QC p qc i) (hi : i < b.ctrs.length) (h : Rt.Own v 76 6 (i + 1) ((krows (pastT b x i) qc).flatten ++ [[Value.string b.ctrs[i].name, .int .i64 b.ctrs[i].skip, .int .i64 b.ctrs[i].twice, .int .i64 b.ctrs[i].start, .slice (p.pc i).az b.ctrs[i].zero.length (p.pc i).cz, .slice a2 b.hours.length c2]].flatten) NB) : Rt.Own v 76 6 (i + 1) (krows (pastT b x (i + 1)) (setPc qc i a2 c2)).flatten NB := by
  rw [pastT_next hi, krows_snoc (q := qc) (fun j hj => by rw [pastT_len (by omega)] at hj; unfold setPc; rw [if_neg (by omega)]), pastT_len (by omega), List.flatten_append]
  have e : (pastC b x i b.ctrs[i]).cells (setPc qc i a2 c2 i) = [Value.string b.ctrs[i].name, .int .i64 b.ctrs[i].skip, .int .i64 b.ctrs[i].twice, .int .i64 b.ctrs[i].start, .slice (p.pc i).az b.ctrs[i].zero.length (p.pc i).cz, .slice a2 b.hours.length c2] := by
    unfold setPc
    rw [if_pos rfl]
    have hl : (pastC b x i b.ctrs[i]).shown.length = b.hours.length := by simp [pastC, pShown]
    simp only [Ctr.cells, hl]
    rw [(hq.2 i).1, (hq.2 i).2]
    rfl
  rw [e]
  exact h
theorem own_psh {b : Board} {x : Past} {c : Ctr} {i k : Nat} {v : Value} {B : List (Nat × Obj)} (h : Rt.Own v 3 1 (k + 1) (iv (pShown b x c i k) ++ [[Value.int .i64 (pOwn b x c i k)]].flatten) B) : Rt.Own v 3 1 (k + 1) (iv (pShown b x c i (k + 1))) B := by
  unfold pShown at *; rw [List.range_succ, List.map_append]; simpa [iv] using h
theorem own_pze {b : Board} {x : Past} {c : Ctr} {i k : Nat} {s : Bool} {v : Value} {B : List (Nat × Obj)} (hs : pSet b.hours.length x c i k = s) (h : Rt.Own v 4 1 (k + 1) ((pZero b x c i k).map Value.bool ++ [[Value.bool s]].flatten) B) : Rt.Own v 4 1 (k + 1) ((pZero b x c i (k + 1)).map Value.bool) B := by
  subst hs; unfold pZero at *; rw [List.range_succ, List.map_append, List.map_append]; simpa using h
theorem own_pri {b : Board} {x : Past} {i : Nat} {r : Bool} {v : Value} {B : List (Nat × Obj)} (hi : i < b.ctrs.length) (hr : pRight b x b.ctrs[i] i b.hours.length = r) (h : Rt.Own v 4 1 (i + 1) (((pastR b x).take i).map Value.bool ++ [[Value.bool r]].flatten) B) : Rt.Own v 4 1 (i + 1) (((pastR b x).take (i + 1)).map Value.bool) B := by
  subst hr; rw [pastR_next hi, List.map_append]; simpa using h
theorem own_tlP {b : Board} {x : List Int} {m : Int} {v : Value} {i : Nat} {B : List (Nat × Obj)} (hm : m = telLoad b x i) (h : Rt.Own v 3 1 (i + 1) (iv (telLoads b x i) ++ [[Value.int .i64 m]].flatten) B) : Rt.Own v 3 1 (i + 1) (iv (telLoads b x (i + 1))) B := by
  subst hm; unfold telLoads at *; rw [List.range_succ, List.map_append]; simpa [iv] using h
theorem own_bools {w0 : World} {a : Option Addr} {n c : Nat} {l : List Bool} {B : List (Nat × Obj)} (h : Rt.Own (.slice a n c) 4 1 n (l.map Value.bool) B) (hl : l.length = n) : Sl w0 B a 1 (l.map fun r => [Value.bool r]) := by
  obtain ⟨a', c', h1, h2, _, _⟩ := own_rows0 (w0 := w0) (rows := l.map fun r => [Value.bool r]) h (by intro row hr; obtain ⟨x, _, rfl⟩ := List.mem_map.1 hr; rfl) (by rw [List.length_map, hl]) (rows_bool l).symm
  injection h1 with e1 _ e3
  subst e1; exact h2
theorem own_slices {w0 : World} {v : Value} {n : Nat} {vs : List Value} {B : List (Nat × Obj)} (h : Rt.Own v 50 1 n vs B) (hl : vs.length = n) : ∃ a c, v = .slice a n c ∧ Sl w0 B a 1 (vs.map fun v => [v]) ∧ n ≤ c ∧ (a = none → c = 0) :=
  own_rows0 (w0 := w0) (rows := vs.map fun v => [v]) h (by intro row hr; obtain ⟨x, _, rfl⟩ := List.mem_map.1 hr; rfl) (by rw [List.length_map, hl]) (rows_one vs).symm
theorem drop_in4 {w0 w : World} {x y z : Nat × Obj} {B Y R : List (Nat × Obj)} (h : St w0 w (x :: y :: z :: (B ++ (Y ++ R)))) : St w0 w (x :: y :: z :: (B ++ R)) := (St.perm (L := (x :: y :: z :: B) ++ (Y ++ R)) h (perm_mid (x :: y :: z :: B) Y R)).drop
theorem perm_told {w0 w : World} {o1 o2 x15 x y : Nat × Obj} {ZN NB RB ZB R : List (Nat × Obj)} (h : St w0 w (o1 :: (ZN ++ (o2 :: x15 :: x :: y :: (NB ++ (RB ++ (ZB ++ R))))))) : St w0 w (x :: y :: (NB ++ (RB ++ (ZN ++ R)))) := by
  have h1 := (St.perm (L := ZN ++ ([o2, x15, x, y] ++ (NB ++ (RB ++ (ZB ++ R))))) h.tail (perm_mid ZN [o2, x15, x, y] _))
  have h2 : St w0 w (x :: y :: (ZN ++ (NB ++ (RB ++ (ZB ++ R))))) := St.tail (St.tail (show St w0 w (o2 :: x15 :: x :: y :: (ZN ++ (NB ++ (RB ++ (ZB ++ R))))) from h1))
  have h3 := (St.perm (L := (x :: y :: (ZN ++ (NB ++ RB))) ++ (ZB ++ R)) (by simpa [List.append_assoc] using h2) (perm_mid _ ZB R)).drop
  have h4 : St w0 w ([x, y] ++ (ZN ++ ((NB ++ RB) ++ R))) := by simpa [List.append_assoc] using h3
  have h5 := h4.perm ((perm_mid ZN (NB ++ RB) R).append_left [x, y])
  simpa [List.append_assoc] using h5
theorem perm_sz {w0 w : World} {x y z : Nat × Obj} {A B C D E R : List (Nat × Obj)} (h : St w0 w (x :: y :: z :: (A ++ (B ++ (C ++ (D ++ (E ++ R))))))) : St w0 w (x :: y :: z :: (C ++ (D ++ (E ++ (A ++ (B ++ R)))))) := by
  have h2 := St.perm (L := [x, y, z] ++ ((A ++ B) ++ ((C ++ (D ++ E)) ++ R))) (by simpa [List.append_assoc] using h) ((perm_mid (A ++ B) (C ++ (D ++ E)) R).append_left [x, y, z])
  simpa [List.append_assoc] using h2
theorem past_bin {w0 : World} {F : List (Nat × Obj)} {b : Board} {x : Past} {p : AtB} {qc : Nat → AtC} {aN : Option Addr} {cN : Nat} (hok : b.Ok) (hm : BIn w0 F b p) (hK : Sl w0 F aN 6 (krows (pastB b x).ctrs qc)) (hcN : b.ctrs.length ≤ cN) (hq : QC p qc b.ctrs.length) (hd : PD w0 F b x qc b.ctrs.length) : BIn w0 F (pastB b x) ⟨p.ah, p.ch, aN, cN, qc⟩ := by
  have hs : ∀ i (h : i < b.ctrs.length), (pastC b x i b.ctrs[i]).shown.length = b.hours.length := fun i h => by simp [pastC, pShown]
  have hlh := hok.lh
  refine ⟨hm.h, hK, fun i hi => ?_, fun i hi => ?_, hm.lh, by rw [pastB_len]; exact hm.lc, hm.ch, by rw [pastB_len]; exact hcN, fun i hi => ?_, fun i hi => ?_, fun y hy => ?_⟩
  · have hi2 : i < b.ctrs.length := by rw [pastB_len] at hi; exact hi
    rw [pastB_get hi2 hi, show (qc i).az = (p.pc i).az from (hq.2 i).1]; exact hm.z i hi2
  · have hi2 : i < b.ctrs.length := by rw [pastB_len] at hi; exact hi
    rw [pastB_get hi2 hi]; exact (hd i hi2 hi2).1
  · have hi2 : i < b.ctrs.length := by rw [pastB_len] at hi; exact hi
    rw [pastB_get hi2 hi, show (qc i).cz = (p.pc i).cz from (hq.2 i).2]; exact hm.lz i hi2
  · have hi2 : i < b.ctrs.length := by rw [pastB_len] at hi; exact hi
    rw [pastB_get hi2 hi, hs i hi2]; exact ⟨by omega, (hd i hi2 hi2).2⟩
  · obtain ⟨i, hi, rfl⟩ := List.getElem_of_mem hy
    have hi2 : i < b.ctrs.length := by rw [pastB_len] at hi; exact hi
    rw [pastB_get hi2 hi]; exact hm.nm b.ctrs[i] (List.getElem_mem hi2)
theorem PD.mono {w0 : World} {F F' : List (Nat × Obj)} {b : Board} {x : Past} {qc : Nat → AtC} {i : Nat} (h : PD w0 F b x qc i) (hs : ∀ w, St w0 w F' → St w0 w F) : PD w0 F' b x qc i := fun k hk hk2 => ⟨(h k hk hk2).1.mono hs, (h k hk hk2).2⟩
theorem drop_two {w0 w : World} {A B C D E F : List (Nat × Obj)} {x y : Nat × Obj} (h : St w0 w (A ++ (B ++ (C ++ (D ++ (E ++ (x :: y :: F))))))) : St w0 w ((A ++ (B ++ (C ++ (D ++ E)))) ++ F) := kq_own (kq_own (by simpa [List.append_assoc] using h))
theorem p_vals {a b : Int} {r s : Bool} {v1 v2 v3 : Value} (h1 : a = b) (h2 : r = s) : [Value.int .i64 a, .bool r, v1, v2, v3] = [Value.int .i64 b, .bool s, v1, v2, v3] := by rw [h1, h2]
theorem c35 {w0 w : World} {F : List (Nat × Obj)} (b : Board) (p : AtB) (hm : BIn w0 F b p) (hok : b.Ok) (x : Past) (hx : x.Ok) (a1 a2 a3 : Option Addr) (c1 c2 c3 : Nat) (hl1 : x.loads.length ≤ 9223372036854775807) (hl2 : x.errs.length ≤ 9223372036854775807) (hl3 : x.zeros.length ≤ 9223372036854775807) (hs1 : Sl w0 F a1 1 (x.loads.map fun n => [Value.int .u8 n])) (hs2 : Sl w0 F a2 1 (x.errs.map fun n => [Value.int .u8 n])) (hs3 : Sl w0 F a3 1 (x.zeros.map fun n => [Value.int .u8 n])) (hs : St w0 w F) :
  Con Try.prog 35 [.agg (b.cells p).toArray, .agg #[.slice a1 x.loads.length c1, .slice a2 x.errs.length c2, .slice a3 x.zeros.length c3]] w fun v w' => ∃ (pz : AtB) (B : List (Nat × Obj)) (aL : Option Addr) (cL : Nat) (aR : Option Addr) (cR : Nat) (aV : Option Addr) (cV : Nat) (zs : List Value), v = .tuple #[.agg ((pastB b x).cells pz).toArray, .slice aL b.hours.length cL, .slice aR b.ctrs.length cR, .slice aV b.ctrs.length cV] ∧ BIn w0 (B ++ F) (pastB b x) pz ∧ Sl w0 B aL 1 ((pastL b x).map fun x => [Value.int .i64 x]) ∧ Sl w0 B aR 1 ((pastR b x).map fun r => [Value.bool r]) ∧ Sl w0 B aV 1 (zs.map fun v => [v]) ∧ EB w0 B zs (pastZ b x) ∧ St w0 w' (B ++ F) := by
  refine con_of_wc (n := 180) Try.func35 rfl rfl (Nat.le_of_ble_eq_true rfl) ?_
  have hlh := hok.lh
  have hlc := hok.lc
  refine w_seq (fun K2 hK1 => ?_)
  refine w_region ?_
  refine w_box (v := .agg #[.int _ _, .slice _ _ _, .slice _ _ _]) (cs := [_, _, _]) want_none rfl rfl rfl hs (fun b3 w4 hs5 => ?_)
  refine w_box (v := .agg #[.slice _ _ _, .slice _ _ _, .slice _ _ _]) (cs := [_, _, _]) want_none rfl rfl rfl hs5 (fun b6 w7 hs8 => ?_)
  refine w_alloc (cs := [_, _, _]) want_none Try.zeroValue25 rfl hs8 (fun b9 w10 hs11 => ?_)
  refine w_p (y_assign (v := _) rfl rfl) rfl ?_
  refine w_p (y_assign (v := _) rfl rfl) rfl ?_
  refine w_p (y_assign (v := _) rfl rfl) rfl ?_
  refine w_nil ?_
  refine q_then (hK1 _ _ ?_)
  refine w_seq (fun K13 hK12 => ?_)
  have hbx : Ats w0 ((b6, blk 49 [.slice a1 x.loads.length c1, .slice a2 x.errs.length c2, .slice a3 x.zeros.length c3]) :: (b3, blk 25 (b.cells p)) :: F) b3 0 (b.cells p) := ats_own (i := 1) (vs := b.cells p) rfl rfl
  have hb3 : Ats w0 ((b6, blk 49 [.slice a1 x.loads.length c1, .slice a2 x.errs.length c2, .slice a3 x.zeros.length c3]) :: (b3, blk 25 (b.cells p)) :: F) b6 0 [.slice a1 x.loads.length c1, .slice a2 x.errs.length c2, .slice a3 x.zeros.length c3] := ats_own (i := 0) (vs := [.slice a1 x.loads.length c1, .slice a2 x.errs.length c2, .slice a3 x.zeros.length c3]) rfl rfl
  refine w_region ?_
  refine w_p (y_assign (v := _) rfl rfl) rfl ?_
  refine w_nil ?_
  refine q_then (hK12 _ _ ?_)
  refine w_seq (fun K15 hK14 => ?_)
  refine w_seq (fun K17 hK16 => ?_)
  refine w_region ?_
  refine w_p (y_assign (v := _) rfl rfl) rfl ?_
  refine w_nil ?_
  refine q_then (hK16 _ _ ?_)
  refine w_block ?_
  refine w_loop [8, 9, 10, 25, 26, 27, 28, 29, 30, 31, 32, 33, 34, 35, 36, 37, 38, 39, 40, 41, 42, 43, 44, 45, 46, 47, 48, 49, 50, 51, 52, 53, 54] [8, 9] (fun k vs0 w => ∃ (i : Nat) (vl : Value) (LQ : List (Nat × Obj)), vs0 = [vl, .int .i64 i] ∧ i ≤ b.hours.length ∧ k = b.hours.length - i ∧ Rt.Own vl 3 1 i (iv (telLoads b x.loads i)) LQ ∧ St w0 w ((b9, blk 25 [.int .i64 0, .slice none 0 0, .slice none 0 0]) :: (LQ ++ ((b6, blk 49 [.slice a1 x.loads.length c1, .slice a2 x.errs.length c2, .slice a3 x.zeros.length c3]) :: (b3, blk 25 (b.cells p)) :: F)))) (b.hours.length) ?_ ?_
  ·
   exact ⟨0, _, [], rfl, by omega, by omega, own_nil 3 1, hs11⟩
  ·
   intro k vs μ w20 hI K19 hN18
   obtain ⟨i, vl, LQ, rfl, hia, rfl, hoL, hs⟩ := hI
   refine w_seq (fun K22 hK21 => ?_)
   refine w_seq (fun K24 hK23 => ?_)
   refine w_region ?_
   refine w_p (y_move (v := .int _ _) rfl rfl) rfl ?_
   refine w_p (y_fieldAddr (o := 1) (i := 1) Try.underlying25 rfl Try.sizeOf22 rfl rfl rfl) rfl ?_
   refine w_p (y_load1 Try.isAgg22 hs.tail.drop rfl rfl (show Ats _ _ _ _ [_] from Ats.part hbx 1 1)) rfl ?_
   refine w_p (y_lenS Try.underlying22 rfl rfl) rfl ?_
   refine w_p (y_lss rfl rfl rfl rfl) rfl ?_
   refine w_nil ?_
   refine q_then (hK23 _ _ ?_)
   refine w_cond rfl rfl (fun h25 => ?_) (fun h25 => ?_)
   ·
    try simp only [zA, zB, zC, zD, zE, zF] at h25
    refine w_skip ?_
    refine q_then (hK21 _ _ ?_)
    refine w_seq (fun K27 hK26 => ?_)
    refine w_block ?_
    refine w_seq (fun K29 hK28 => ?_)
    have hi2 : i < b.hours.length := by omega
    obtain ⟨by_, oy, hby, hy⟩ := sl_hrows hm.h hi2
    have hti := tel_in hok hx.loads hi2
    have htn := turn_nn hx.loads i
    have hho := hok.hour _ (List.getElem_mem hi2)
    have hh1 := hho.lo
    have hh2 := hho.le
    have hh3 := hho.hi
    have hte : telLoad b x.loads i = b.hours[i].lo + turnOf x.loads i % (b.hours[i].hi - b.hours[i].lo + 1) := by unfold telLoad; rw [hour_at hi2]
    rw [hte] at hti
    refine w_region ?_
    refine w_p (y_fieldAddr (o := 1) (i := 1) Try.underlying25 rfl Try.sizeOf22 rfl rfl rfl) rfl ?_
    refine w_p (yd_slice hby (y_load1 Try.isAgg22 hs.tail.drop rfl rfl (show Ats _ _ _ _ [_] from Ats.part hbx 1 1))) rfl ?_
    refine w_p (y_move (v := .int _ _) rfl rfl) rfl ?_
    refine w_p (y_indexS Try.underlying22 Try.sizeOf70 rfl rfl rfl rfl (i := i) rfl hi2) rfl ?_
    refine w_p (y_fieldAddr (o := 1) (i := 1) Try.underlying70 rfl Try.sizeOf31 rfl rfl rfl) rfl ?_
    refine w_p (y_loadN (vs := [_, _]) Try.isAgg31 Try.sizeOf31 hs.tail.drop.tail.tail rfl rfl (show Ats _ _ _ _ [_, _] from Ats.part hy 1 2)) rfl ?_
    refine w_alloc (cs := [_, _]) want_none Try.zeroValue31 rfl hs (fun b30 w31 hs32 => ?_)
    refine w_store (i := 0) (v := .agg #[.int _ _, .int _ _]) (vs := [_, _]) want_none Try.sizeOf31 rfl rfl rfl rfl rfl (by simp [Value.oneCell']) hs32 rfl (Nat.le_of_ble_eq_true rfl) (fun w33 hs34 => ?_)
    refine w_nil ?_
    refine q_then (hK28 _ _ ?_)
    refine w_drawD (C0 := fun w => St w0 w _) (C := fun w => ∃ B9 : List (Nat × Obj), St w0 w ((b30, blk 31 [.int .i64 (b.hours[i]'hi2).lo, .int .i64 (b.hours[i]'hi2).hi]) :: (b9, blk 25 [.int .i64 0, .slice none 0 0, .slice none 0 0]) :: (B9 ++ ((b6, blk 49 [.slice a1 x.loads.length c1, .slice a2 x.errs.length c2, .slice a3 x.zeros.length c3]) :: (b3, blk 25 (b.cells p)) :: F)))) [] [(0, 0), (1, 0), (2, 1), (3, 0), (4, 1), (5, 0), (7, 0), (8, 1), (9, 0), (10, 1), (11, 0), (12, 0), (6, 2), (13, 0), (14, 0), (15, 2), (16, 2), (17, 0)] Try_mo (drawOK_of (by kernel_rfl)) hs34 (fun _ h => ⟨_, h⟩) (fun _ h => h.drew) (fun w35 hs36 => ?_)
    refine d_any rfl want_none rfl (fun _ => (y_move (v := vl) rfl rfl)) ?_
    refine d_any rfl want_none rfl (fun _ => (y_fieldAddr (o := 0) (i := 0) Try.underlying31 rfl Try.sizeOf3 rfl rfl rfl)) ?_
    refine d_takeC rfl want_none rfl ⟨_, hs36⟩ (fun _ ⟨B9, hq⟩ => (y_load1 Try.isAgg3 hq rfl rfl (ats_own (i := 0) (vs := [_]) rfl rfl))) ?_
    refine d_any rfl want_none rfl (fun _ => (y_fieldAddr (o := 0) (i := 0) Try.underlying49 rfl Try.sizeOf47 rfl rfl rfl)) ?_
    refine d_takeC rfl want_none rfl ⟨_, hs36⟩ (fun _ ⟨B9, hq⟩ => (y_load1 Try.isAgg47 hq.tail.tail.drop rfl rfl (show Ats _ _ _ _ [_] from Ats.part hb3 0 1))) ?_
    refine d_any rfl want_none rfl (fun _ => (y_move (v := .int _ _) rfl rfl)) ?_
    refine d_any rfl want_none rfl (fun _ => (y_fieldAddr (o := 1) (i := 1) Try.underlying31 rfl Try.sizeOf3 rfl rfl rfl)) ?_
    refine d_takeC rfl want_none rfl ⟨_, hs36⟩ (fun _ ⟨B9, hq⟩ => (y_load1 Try.isAgg3 hq rfl rfl (ats_own (i := 0) (vs := [_]) rfl rfl))) ?_
    refine d_any rfl want_none rfl (fun _ => (y_fieldAddr (o := 0) (i := 0) Try.underlying31 rfl Try.sizeOf3 rfl rfl rfl)) ?_
    refine d_takeC rfl want_none rfl ⟨_, hs36⟩ (fun _ ⟨B9, hq⟩ => (y_load1 Try.isAgg3 hq rfl rfl (ats_own (i := 0) (vs := [_]) rfl rfl))) ?_
    refine d_any rfl want_none rfl (fun _ => (y_sub rfl rfl rfl rfl (by omega) (by omega))) ?_
    refine d_any rfl want_none rfl (fun _ => (y_add rfl rfl rfl rfl (by omega) (by omega))) ?_
    refine d_eff rfl ?_
    refine w_call want_none Try.call49 rfl rfl rfl rfl (c49 _ _ x.loads hl1 hs1.cons.cons.app.cons.cons hx.loads i hs36) ?_
    rintro _ w38 ⟨rfl, hs39⟩
    refine w_nil ?_
    refine qn ⟨⟨_, hs39⟩, ?_⟩
    refine d_any rfl want_none rfl (fun _ => (y_rem rfl rfl rfl rfl (by omega) (by omega))) ?_
    refine d_any rfl want_none rfl (fun _ => (y_add rfl rfl rfl rfl (by omega) (by omega))) ?_
    refine d_eff rfl ?_
    refine w_bslice (ps := [(0, _)]) (pv := [(0, .int _ _)]) (cs := [_]) want_none rfl rfl (fun w => Try_Zn_fb10 _ w) hs39 (fun b40 w41 hs42 => ?_)
    refine w_nil ?_
    refine qn ⟨⟨_, hs42.tail⟩, ?_⟩
    refine d_eff rfl ?_
    refine w_append (X := (_ :: _ :: _ :: [])) (B := LQ) (rows := [[_]]) (sz := 1) (bytes := 8) want_none Try.underlying39 Try_info3 rfl rfl rfl rfl rfl rfl rfl rfl rfl hs42 hoL (sl_own (i := 0) (b := b40) (t := 3) (cs := [_]) (rows := [[_]]) rfl (by simp) rfl) rfl (by simp) (by simp [Value.oneCell']) (by simp only [maxLen]; omega) (by omega) (fun v43 w44 B45 ho46 hs47 => ?_)
    replace hs47 := (show St _ _ (_ :: _ :: _ :: B45 ++ (_ :: _ :: F)) from hs47)
    refine w_nil ?_
    refine qn ⟨⟨_, hs47.tail⟩, ?_⟩
    refine d_any rfl want_none rfl (fun _ => (y_assign (v := v43) rfl rfl)) ?_
    refine d_nil ?_
    refine q_blk_normal ?_
    refine q_then (hK26 _ _ ?_)
    refine w_region ?_
    refine w_p (y_move (v := .int _ _) rfl rfl) rfl ?_
    refine w_p (y_add rfl rfl rfl rfl (by omega) (by omega)) rfl ?_
    refine w_p (y_assign (v := .int _ _) rfl rfl) rfl ?_
    refine w_nil ?_
    refine q_then (hN18 _ _ (Nx.intro (b.hours.length - (i + 1)) (by omega) (by repeat (first | exact agree_mix | refine agree_upd rfl ?_ | refine agree_updL rfl ?_ _ | refine agree_mixin rfl ?_)) ?_))
    exact ⟨i + 1, _, _, rfl, by omega, rfl, own_tlP hte.symm ho46, hs47.tail.tail⟩
   ·
    try simp only [zA, zB, zC, zD, zE, zF] at h25
    refine w_exit ?_
    refine q_then_exit ?_
    refine q_then_exit ?_
    refine q_blk_this ?_
    refine q_then (hK14 _ _ ?_)
    refine w_seq (fun K49 hK48 => ?_)
    have hin : i = b.hours.length := by omega
    subst hin
    obtain ⟨aL, cL, rfl⟩ := hoL.slice
    have hslL := own_int_sl (w0 := w0) hoL (by simp [telLoads])
    refine w_region ?_
    refine w_p (y_loadN (vs := [_, _, _]) Try.isAgg25 Try.sizeOf25 hs.tail.drop rfl rfl hbx) rfl ?_
    refine w_alloc (cs := [_, _, _]) want_none Try.zeroValue25 rfl hs (fun b50 w51 hs52 => ?_)
    refine w_store (i := 0) (v := .agg #[.int _ _, .slice _ _ _, .slice _ _ _]) (vs := [_, _, _]) want_none Try.sizeOf25 rfl rfl rfl rfl rfl (by simp [Value.oneCell']) hs52 rfl (Nat.le_of_ble_eq_true rfl) (fun w53 hs54 => ?_)
    refine w_nil ?_
    refine q_then (hK48 _ _ ?_)
    refine w_seq (fun K56 hK55 => ?_)
    refine w_region ?_
    refine w_p (y_fieldAddr (o := 2) (i := 2) Try.underlying25 rfl Try.sizeOf23 rfl rfl rfl) rfl ?_
    refine w_store (i := 0) (v := .slice _ _ _) (vs := [_]) want_none Try.sizeOf23 rfl rfl rfl rfl rfl (by simp [Value.oneCell']) hs54 rfl (Nat.le_of_ble_eq_true rfl) (fun w57 hs58 => ?_)
    refine w_nil ?_
    refine q_then (hK55 _ _ ?_)
    refine w_seq (fun K60 hK59 => ?_)
    refine w_region ?_
    refine w_p (y_assign (v := _) rfl rfl) rfl ?_
    refine w_nil ?_
    refine q_then (hK59 _ _ ?_)
    refine w_seq (fun K62 hK61 => ?_)
    refine w_region ?_
    refine w_p (y_assign (v := _) rfl rfl) rfl ?_
    refine w_nil ?_
    refine q_then (hK61 _ _ ?_)
    refine w_seq (fun K64 hK63 => ?_)
    refine w_seq (fun K66 hK65 => ?_)
    refine w_region ?_
    refine w_p (y_assign (v := _) rfl rfl) rfl ?_
    refine w_nil ?_
    refine q_then (hK65 _ _ ?_)
    refine w_block ?_
    refine w_loop [12, 13, 14, 15, 16, 17, 18, 19, 20, 21, 22, 23, 24, 57, 58, 59, 60, 61, 62, 63, 64, 65, 66, 67, 68, 69, 70, 71, 72, 73, 74, 75, 76, 77, 78, 79, 80, 81, 82, 83, 84, 85, 86, 87, 88, 89, 90, 91, 92, 93, 94, 95, 96, 97, 98, 99, 100, 101, 102, 103, 104, 105, 106, 107, 108, 109, 110, 111, 112, 113, 114, 115, 116, 117, 118, 119, 120, 121, 122, 123, 124, 125, 126, 127, 128, 129, 130, 131, 132, 133, 134, 135, 136, 137, 138, 139, 140, 141, 142, 143, 144, 145, 146, 147, 148, 149, 150, 151, 152, 153, 154, 155, 156, 157, 158, 159, 160, 161, 162, 163, 164, 165, 166, 167, 168, 169, 170, 171, 172, 173, 174, 175] [12, 13, 14] (fun kk vs0 w => ∃ (i : Nat) (vr vz : Value) (aN : Option Addr) (cN : Nat) (NB RB ZB DD : List (Nat × Obj)) (qc : Nat → AtC) (zs : List Value), vs0 = [vr, vz, .int .i64 i] ∧ i ≤ b.ctrs.length ∧ kk = b.ctrs.length - i ∧ Rt.Own (.slice aN i cN) 76 6 i (krows (pastT b x i) qc).flatten NB ∧ QC p qc i ∧ PD w0 DD b x qc i ∧ Rt.Own vr 4 1 i (((pastR b x).take i).map Value.bool) RB ∧ Rt.Own vz 50 1 i zs ZB ∧ EB w0 DD zs ((pastZ b x).take i) ∧ St w0 w ((b50, blk 25 [.int .i64 b.holds, .slice p.ah b.hours.length p.ch, .slice aN i cN]) :: (b9, blk 25 [.int .i64 0, .slice none 0 0, .slice none 0 0]) :: (NB ++ (RB ++ (ZB ++ (DD ++ (LQ ++ (((b6, blk 49 [.slice a1 x.loads.length c1, .slice a2 x.errs.length c2, .slice a3 x.zeros.length c3]) :: (b3, blk 25 (b.cells p)) :: F))))))))) (b.ctrs.length) ?_ ?_
    ·
     exact ⟨0, _, _, none, 0, [], [], [], [], p.pc, [], rfl, by omega, by omega, own_nil 76 6, qc_zero p, pd_zero w0 b x _, own_nil 4 1, own_nil 50 1, eb_nil _ _, hs58⟩
    ·
     intro k vs μ w69 hI K68 hN67
     obtain ⟨i, vr, vz, aN, cN, NB, RB, ZB, DD, qc, zs, rfl, hia, rfl, hoN, hqc, hpd, hoR, hoZ, heb, hs⟩ := hI
     have hzl : zs.length = i := by have h9 := heb.1; rw [List.length_take] at h9; simp [pastZ] at h9; omega
     obtain ⟨aV, cV, rfl, hslV, hcV, hnV⟩ := own_slices (w0 := w0) hoZ hzl
     obtain ⟨aN2, cN2, hvN, hslN, hcN, hnN⟩ := own_rows0 (w0 := w0) hoN (krows_row _ _) (by rw [krows_len, pastT_len (by omega)]) rfl
     injection hvN with hv1 _ hv3
     subst hv1 hv3
     refine w_seq (fun K71 hK70 => ?_)
     refine w_seq (fun K73 hK72 => ?_)
     refine w_region ?_
     refine w_p (y_move (v := .int _ _) rfl rfl) rfl ?_
     refine w_p (y_fieldAddr (o := 2) (i := 2) Try.underlying25 rfl Try.sizeOf23 rfl rfl rfl) rfl ?_
     refine w_p (y_load1 Try.isAgg23 hs.tail.tail.drop.drop.drop.drop.drop rfl rfl (show Ats _ _ _ _ [_] from Ats.part hbx 2 1)) rfl ?_
     refine w_p (y_lenS Try.underlying23 rfl rfl) rfl ?_
     refine w_p (y_lss rfl rfl rfl rfl) rfl ?_
     refine w_nil ?_
     refine q_then (hK72 _ _ ?_)
     refine w_cond rfl rfl (fun h74 => ?_) (fun h74 => ?_)
     ·
      try simp only [zA, zB, zC, zD, zE, zF] at h74
      refine w_skip ?_
      refine q_then (hK70 _ _ ?_)
      refine w_seq (fun K76 hK75 => ?_)
      refine w_block ?_
      refine w_seq (fun K78 hK77 => ?_)
      have hi2 : i < b.ctrs.length := by omega
      have hci := hok.ctr _ (List.getElem_mem hi2)
      have hst := hci.start
      have hsk := hci.skip
      have htw := hci.twice
      have hlz := hci.lz
      have hls := hci.ls
      obtain ⟨bq, oq, hbq, hrow⟩ := sl_krows hm.c hi2
      refine w_region ?_
      refine w_p (y_fieldAddr (o := 2) (i := 2) Try.underlying25 rfl Try.sizeOf23 rfl rfl rfl) rfl ?_
      refine w_p (yd_slice hbq (y_load1 Try.isAgg23 hs.tail.tail.drop.drop.drop.drop.drop rfl rfl (show Ats _ _ _ _ [_] from Ats.part hbx 2 1))) rfl ?_
      refine w_p (y_move (v := .int _ _) rfl rfl) rfl ?_
      refine w_p (y_indexS Try.underlying23 Try.sizeOf76 rfl rfl rfl rfl (i := i) rfl hi2) rfl ?_
      refine w_p (y_loadN (vs := [_, _, _, _, _, _]) Try.isAgg76 Try.sizeOf76 hs.tail.tail.drop.drop.drop.drop.drop.tail.tail rfl rfl hrow) rfl ?_
      refine w_alloc (cs := [_, _, _, _, _, _]) want_none Try.zeroValue76 rfl hs (fun b79 w80 hs81 => ?_)
      refine w_store (i := 0) (v := .agg #[.string _, .int _ _, .int _ _, .int _ _, .slice _ _ _, .slice _ _ _]) (vs := [_, _, _, _, _, _]) want_none Try.sizeOf76 rfl rfl rfl rfl rfl (by simp [Value.oneCell']) hs81 rfl (Nat.le_of_ble_eq_true rfl) (fun w82 hs83 => ?_)
      refine w_nil ?_
      refine q_then (hK77 _ _ ?_)
      refine w_seq (fun K85 hK84 => ?_)
      refine w_region ?_
      refine w_p (y_fieldAddr (o := 3) (i := 3) Try.underlying76 rfl Try.sizeOf3 rfl rfl rfl) rfl ?_
      refine w_p (y_load1 Try.isAgg3 hs83 rfl rfl (ats_own (i := 0) (vs := [_]) rfl rfl)) rfl ?_
      refine w_p (y_assign (v := .int _ _) rfl rfl) rfl ?_
      refine w_p (y_assign (v := _) rfl rfl) rfl ?_
      refine w_nil ?_
      refine q_then (hK84 _ _ ?_)
      refine w_seq (fun K87 hK86 => ?_)
      refine w_region ?_
      refine w_p (y_assign (v := _) rfl rfl) rfl ?_
      refine w_nil ?_
      refine q_then (hK86 _ _ ?_)
      refine w_seq (fun K89 hK88 => ?_)
      refine w_region ?_
      refine w_p (y_assign (v := _) rfl rfl) rfl ?_
      refine w_nil ?_
      refine q_then (hK88 _ _ ?_)
      refine w_seq (fun K91 hK90 => ?_)
      refine w_seq (fun K93 hK92 => ?_)
      refine w_region ?_
      refine w_p (y_assign (v := _) rfl rfl) rfl ?_
      refine w_nil ?_
      refine q_then (hK92 _ _ ?_)
      refine w_block ?_
      refine w_loop [16, 17, 18, 19, 20, 21, 22, 23, 24, 71, 72, 73, 74, 75, 76, 77, 78, 79, 80, 81, 82, 83, 84, 85, 86, 87, 88, 89, 90, 91, 92, 93, 94, 95, 96, 97, 98, 99, 100, 101, 102, 103, 104, 105, 106, 107, 108, 109, 110, 111, 112, 113, 114, 115, 116, 117, 118, 119, 120, 121, 122, 123, 124, 125, 126, 127, 128, 129, 130, 131, 132, 133, 134, 135, 136, 137, 138, 139, 140, 141, 142, 143, 144, 145, 146, 147, 148, 149, 150, 151, 152, 153, 154, 155] [16, 17, 18, 19, 20] (fun kk vs0 w => ∃ (k : Nat) (vs vw : Value) (SQ ZQ : List (Nat × Obj)), vs0 = [.int .i64 (pShow b x (b.ctrs[i]'hi2) i k), .bool (pRight b x (b.ctrs[i]'hi2) i k), vs, vw, .int .i64 k] ∧ k ≤ b.hours.length ∧ kk = b.hours.length - k ∧ Rt.Own vs 3 1 k (iv (pShown b x (b.ctrs[i]'hi2) i k)) SQ ∧ Rt.Own vw 4 1 k ((pZero b x (b.ctrs[i]'hi2) i k).map Value.bool) ZQ ∧ St w0 w ((b79, blk 76 [.string (b.ctrs[i]'hi2).name, .int .i64 (b.ctrs[i]'hi2).skip, .int .i64 (b.ctrs[i]'hi2).twice, .int .i64 (b.ctrs[i]'hi2).start, .slice (p.pc i).az (b.ctrs[i]'hi2).zero.length (p.pc i).cz, .slice (p.pc i).as (b.ctrs[i]'hi2).shown.length (p.pc i).cs]) :: (b50, blk 25 [.int .i64 b.holds, .slice p.ah b.hours.length p.ch, .slice aN i cN]) :: (b9, blk 25 [.int .i64 0, .slice none 0 0, .slice none 0 0]) :: (SQ ++ (ZQ ++ (NB ++ (RB ++ (ZB ++ (DD ++ (LQ ++ (((b6, blk 49 [.slice a1 x.loads.length c1, .slice a2 x.errs.length c2, .slice a3 x.zeros.length c3]) :: (b3, blk 25 (b.cells p)) :: F))))))))))) (b.hours.length) ?_ ?_
      ·
       exact ⟨0, _, _, [], [], rfl, by omega, by omega, own_nil 3 1, own_nil 4 1, hs83⟩
      ·
       intro k vs μ w96 hI K95 hN94
       clear hs
       obtain ⟨k, vs, vw, SQ, ZQ, rfl, hka, rfl, hoS, hoW, hs⟩ := hI
       generalize hcr : pRight b x (b.ctrs[i]'hi2) i k = ri
       refine w_seq (fun K98 hK97 => ?_)
       refine w_seq (fun K100 hK99 => ?_)
       refine w_region ?_
       refine w_p (y_move (v := .int _ _) rfl rfl) rfl ?_
       refine w_p (y_move (v := .slice _ _ _) rfl rfl) rfl ?_
       refine w_p (y_lenS Try.underlying39 rfl rfl) rfl ?_
       refine w_p (y_lss rfl rfl rfl rfl) rfl ?_
       refine w_nil ?_
       refine q_then (hK99 _ _ ?_)
       refine w_cond rfl rfl (fun h101 => ?_) (fun h101 => ?_)
       ·
        try simp only [zA, zB, zC, zD, zE, zF] at h101
        refine w_skip ?_
        refine q_then (hK97 _ _ ?_)
        refine w_seq (fun K103 hK102 => ?_)
        refine w_block ?_
        refine w_seq (fun K105 hK104 => ?_)
        have hk2 : k < b.hours.length := by omega
        have hmi : ((i : Int) * (b.hours.length : Int)) = ((i * b.hours.length : Nat) : Int) := by push_cast; rfl
        have hm8 := mul_in8 hlh hlc hi2 hk2
        have hkz : k < (b.ctrs[i]'hi2).zero.length := by omega
        have hks : k < (b.ctrs[i]'hi2).shown.length := by omega
        obtain ⟨bz, oz, hbz, hzx⟩ := sl_ints (hm.z i hi2) hkz
        obtain ⟨bs, os, hbs, hsx⟩ := sl_ints (hm.s i hi2) hks
        have hzk : (b.ctrs[i]'hi2).zero.getD k 0 = ((b.ctrs[i]'hi2).zero[k]'hkz) := by simp [List.getD, hkz]
        have hsk2 : (b.ctrs[i]'hi2).shown.getD k 0 = ((b.ctrs[i]'hi2).shown[k]'hks) := by simp [List.getD, hks]
        have hsi := pShow_in (b := b) (x := x) (c := (b.ctrs[i]'hi2)) (i := i) hst k
        have hri := pRest_in (n := b.hours.length) (x := x) (c := (b.ctrs[i]'hi2)) (i := i) (k := k) hsi
        have htl := tel_in hok hx.loads hk2
        have hho := hok.hour _ (List.getElem_mem hk2)
        have hh1 := hho.lo
        have hh3 := hho.hi
        have htu := turn_nn hx.zeros (i * b.hours.length + k)
        have hte := turn_nn hx.errs (i * b.hours.length + k)
        have he0 := pErr0_in (n := b.hours.length) (x := x) (c := (b.ctrs[i]'hi2)) (i := i) (k := k) hsk.1 htw.1
        have he0r : 0 - (b.ctrs[i]'hi2).skip ≤ (turnOf x.errs (i * b.hours.length + k) % ((b.ctrs[i]'hi2).skip + (b.ctrs[i]'hi2).twice + 1) - (b.ctrs[i]'hi2).skip) ∧ (turnOf x.errs (i * b.hours.length + k) % ((b.ctrs[i]'hi2).skip + (b.ctrs[i]'hi2).twice + 1) - (b.ctrs[i]'hi2).skip) ≤ (b.ctrs[i]'hi2).twice := he0
        obtain ⟨bl, ol, hbl, hlx⟩ := sl_ints (hslL.1.top (F := ((b6, blk 49 [.slice a1 x.loads.length c1, .slice a2 x.errs.length c2, .slice a3 x.zeros.length c3]) :: (b3, blk 25 (b.cells p)) :: F))) (show k < (telLoads b x.loads b.hours.length).length by simp [telLoads]; omega)
        subst hbl
        rw [show (telLoads b x.loads b.hours.length)[k]'(by simp [telLoads]; omega) = telLoad b x.loads k by simp [telLoads]] at hlx
        refine w_region ?_
        refine w_p (y_move (v := .int _ _) rfl rfl) rfl ?_
        refine w_p (y_move (v := .slice _ _ _) rfl rfl) rfl ?_
        refine w_p (y_lenS Try.underlying39 rfl rfl) rfl ?_
        refine w_p (yd_cast (z' := ((i * b.hours.length : Nat) : Int)) hmi (y_mul rfl rfl rfl rfl (by omega) (by omega))) rfl ?_
        refine w_p (y_move (v := .int _ _) rfl rfl) rfl ?_
        refine w_p (yd_cast (z' := ((i * b.hours.length + k : Nat) : Int)) (by omega) (y_add rfl rfl rfl rfl (by omega) (by omega))) rfl ?_
        refine w_p (y_assign (v := .int _ _) rfl rfl) rfl ?_
        refine w_nil ?_
        refine q_then (hK104 _ _ ?_)
        refine w_seq (fun K107 hK106 => ?_)
        refine w_cut [22, 83, 84, 85, 86, 87, 88, 89, 90, 91, 92, 93, 94, 95, 96, 97, 98, 99, 100, 101, 102, 103, 104] [22] (fun vs w => vs = [.bool (pSet b.hours.length x (b.ctrs[i]'hi2) i k)] ∧ St w0 w ((b79, blk 76 [.string (b.ctrs[i]'hi2).name, .int .i64 (b.ctrs[i]'hi2).skip, .int .i64 (b.ctrs[i]'hi2).twice, .int .i64 (b.ctrs[i]'hi2).start, .slice (p.pc i).az (b.ctrs[i]'hi2).zero.length (p.pc i).cz, .slice (p.pc i).as (b.ctrs[i]'hi2).shown.length (p.pc i).cs]) :: (b50, blk 25 [.int .i64 b.holds, .slice p.ah b.hours.length p.ch, .slice aN i cN]) :: (b9, blk 25 [.int .i64 0, .slice none 0 0, .slice none 0 0]) :: (SQ ++ (ZQ ++ (NB ++ (RB ++ (ZB ++ (DD ++ (LQ ++ (((b6, blk 49 [.slice a1 x.loads.length c1, .slice a2 x.errs.length c2, .slice a3 x.zeros.length c3]) :: (b3, blk 25 (b.cells p)) :: F))))))))))) (fun K109 hC108 => ?_) ?_
        ·
         refine w_region ?_
         refine w_p (y_fieldAddr (o := 4) (i := 4) Try.underlying76 rfl Try.sizeOf39 rfl rfl rfl) rfl ?_
         refine w_p (yd_slice hbz (y_load1 Try.isAgg39 hs rfl rfl (ats_own (i := 0) (vs := [_]) rfl rfl))) rfl ?_
         refine w_p (y_move (v := .int _ _) rfl rfl) rfl ?_
         refine w_p (y_indexS Try.underlying39 Try.sizeOf3 rfl rfl rfl rfl (i := k) rfl hkz) rfl ?_
         refine w_p (y_load1 Try.isAgg3 hs.tail.tail.tail.drop.drop.drop.drop.drop.drop.drop.tail.tail rfl rfl hzx) rfl ?_
         refine w_p (y_eql rfl rfl rfl rfl) rfl ?_
         refine w_p (y_move (v := .bool _) rfl rfl) rfl ?_
         refine w_split (fun h110 => ?_) (fun h110 => ?_)
         ·
          try simp only [zA, zB, zC, zD, zE, zF] at h110
          refine w_skipop rfl rfl rfl ?_
          refine w_skipop rfl rfl rfl ?_
          refine w_skipop rfl rfl rfl ?_
          refine w_skipop rfl rfl rfl ?_
          refine w_skipop rfl rfl rfl ?_
          refine w_skipop rfl rfl rfl ?_
          refine w_skipop rfl rfl rfl ?_
          refine w_skipop' rfl rfl rfl ?_
          refine w_skipop' rfl rfl rfl ?_
          refine w_skipop' rfl rfl rfl ?_
          refine w_skipop' rfl rfl rfl ?_
          refine w_skipop' rfl rfl rfl ?_
          refine w_skipop' rfl rfl rfl ?_
          refine w_skipop rfl rfl rfl ?_
          refine w_p (y_pickT (v := _) rfl rfl rfl rfl) rfl ?_
          refine w_p (y_assign (v := .bool _) rfl rfl) rfl ?_
          refine w_nil ?_
          refine q_then (hC108 _ _ (Md.intro (by repeat (first | exact agree_refl | exact agree_mix | refine agree_upd rfl ?_ | refine agree_updL rfl ?_ _ | refine agree_mixin rfl ?_)) ?_))
          first
            | exact ⟨congrArg (fun z => [Value.bool z]) (pSet_1 hzk (by omega)), hs⟩
            | exact ⟨congrArg (fun z => [Value.bool z]) (pSet_2 hzk (by omega) (by omega)), hs⟩
            | exact ⟨congrArg (fun z => [Value.bool z]) (pSet_0 hzk (by omega) (by omega)), hs⟩
         ·
          try simp only [zA, zB, zC, zD, zE, zF] at h110
          refine w_y rfl rfl rfl (y_fieldAddr (o := 4) (i := 4) Try.underlying76 rfl Try.sizeOf39 rfl rfl rfl) rfl ?_
          refine w_y rfl rfl rfl (yd_slice hbz (y_load1 Try.isAgg39 hs rfl rfl (ats_own (i := 0) (vs := [_]) rfl rfl))) rfl ?_
          refine w_y rfl rfl rfl (y_move (v := .int _ _) rfl rfl) rfl ?_
          refine w_y rfl rfl rfl (y_indexS Try.underlying39 Try.sizeOf3 rfl rfl rfl rfl (i := k) rfl hkz) rfl ?_
          refine w_y rfl rfl rfl (y_load1 Try.isAgg3 hs.tail.tail.tail.drop.drop.drop.drop.drop.drop.drop.tail.tail rfl rfl hzx) rfl ?_
          refine w_y rfl rfl rfl (y_eql rfl rfl rfl rfl) rfl ?_
          refine w_y rfl rfl rfl (y_move (v := .bool _) rfl rfl) rfl ?_
          refine w_split (fun h111 => ?_) (fun h111 => ?_)
          ·
           try simp only [zA, zB, zC, zD, zE, zF] at h111
           refine w_y rfl rfl rfl (y_fieldAddr (o := 2) (i := 2) Try.underlying49 rfl Try.sizeOf47 rfl rfl rfl) rfl ?_
           refine w_y rfl rfl rfl (y_load1 Try.isAgg47 hs.tail.tail.tail.drop.drop.drop.drop.drop.drop.drop rfl rfl (show Ats _ _ _ _ [_] from Ats.part hb3 2 1)) rfl ?_
           refine w_y rfl rfl rfl (y_move (v := .int _ _) rfl rfl) rfl ?_
           refine w_call (want_yes rfl rfl rfl) Try.call49 rfl rfl rfl rfl (c49 _ _ x.zeros hl3 hs3.cons.cons.app.app.app.app.app.app.app.cons.cons.cons hx.zeros (i * b.hours.length + k) hs) ?_
           rintro _ w113 ⟨rfl, hs114⟩
           refine w_y rfl rfl rfl (y_rem rfl rfl rfl rfl (by omega) (by omega)) rfl ?_
           refine w_y rfl rfl rfl (y_eql rfl rfl rfl rfl) rfl ?_
           refine w_y rfl rfl rfl (y_pickT (v := .bool _) rfl rfl rfl rfl) rfl ?_
           refine w_p (y_pickF (v := .bool _) rfl rfl rfl rfl) rfl ?_
           refine w_p (y_assign (v := .bool _) rfl rfl) rfl ?_
           refine w_nil ?_
           refine q_then (hC108 _ _ (Md.intro (by repeat (first | exact agree_refl | exact agree_mix | refine agree_upd rfl ?_ | refine agree_updL rfl ?_ _ | refine agree_mixin rfl ?_)) ?_))
           first
             | exact ⟨congrArg (fun z => [Value.bool z]) (pSet_1 hzk (by omega)), hs114⟩
             | exact ⟨congrArg (fun z => [Value.bool z]) (pSet_2 hzk (by omega) (by omega)), hs114⟩
             | exact ⟨congrArg (fun z => [Value.bool z]) (pSet_0 hzk (by omega) (by omega)), hs114⟩
          ·
           try simp only [zA, zB, zC, zD, zE, zF] at h111
           refine w_skipop rfl rfl rfl ?_
           refine w_skipop rfl rfl rfl ?_
           refine w_skipop rfl rfl rfl ?_
           refine w_skipop rfl rfl rfl ?_
           refine w_skipop rfl rfl rfl ?_
           refine w_skipop rfl rfl rfl ?_
           refine w_y rfl rfl rfl (y_pickF (v := _) rfl rfl rfl rfl) rfl ?_
           refine w_p (y_pickF (v := .bool _) rfl rfl rfl rfl) rfl ?_
           refine w_p (y_assign (v := .bool _) rfl rfl) rfl ?_
           refine w_nil ?_
           refine q_then (hC108 _ _ (Md.intro (by repeat (first | exact agree_refl | exact agree_mix | refine agree_upd rfl ?_ | refine agree_updL rfl ?_ _ | refine agree_mixin rfl ?_)) ?_))
           first
             | exact ⟨congrArg (fun z => [Value.bool z]) (pSet_1 hzk (by omega)), hs⟩
             | exact ⟨congrArg (fun z => [Value.bool z]) (pSet_2 hzk (by omega) (by omega)), hs⟩
             | exact ⟨congrArg (fun z => [Value.bool z]) (pSet_0 hzk (by omega) (by omega)), hs⟩
        ·
         intro vs μ w115 hM
         obtain ⟨rfl, hs⟩ := hM
         generalize hps : pSet b.hours.length x (b.ctrs[i]'hi2) i k = ps
         refine q_then (hK106 _ _ ?_)
         refine w_seq (fun K117 hK116 => ?_)
         refine w_cut [16, 105] [16] (fun vs w => vs = [.int .i64 (pRest b.hours.length x (b.ctrs[i]'hi2) i k (pShow b x (b.ctrs[i]'hi2) i k))] ∧ St w0 w ((b79, blk 76 [.string (b.ctrs[i]'hi2).name, .int .i64 (b.ctrs[i]'hi2).skip, .int .i64 (b.ctrs[i]'hi2).twice, .int .i64 (b.ctrs[i]'hi2).start, .slice (p.pc i).az (b.ctrs[i]'hi2).zero.length (p.pc i).cz, .slice (p.pc i).as (b.ctrs[i]'hi2).shown.length (p.pc i).cs]) :: (b50, blk 25 [.int .i64 b.holds, .slice p.ah b.hours.length p.ch, .slice aN i cN]) :: (b9, blk 25 [.int .i64 0, .slice none 0 0, .slice none 0 0]) :: (SQ ++ (ZQ ++ (NB ++ (RB ++ (ZB ++ (DD ++ (LQ ++ (((b6, blk 49 [.slice a1 x.loads.length c1, .slice a2 x.errs.length c2, .slice a3 x.zeros.length c3]) :: (b3, blk 25 (b.cells p)) :: F))))))))))) (fun K119 hC118 => ?_) ?_
         ·
          refine w_seq (fun K121 hK120 => ?_)
          refine w_region ?_
          refine w_p (y_move (v := .bool _) rfl rfl) rfl ?_
          refine w_nil ?_
          refine q_then (hK120 _ _ ?_)
          refine w_cond rfl rfl (fun h122 => ?_) (fun h122 => ?_)
          ·
           subst h122
           refine w_region ?_
           refine w_p (y_assign (v := _) rfl rfl) rfl ?_
           refine w_nil ?_
           refine q_then (hC118 _ _ (Md.intro (by repeat (first | exact agree_refl | exact agree_mix | refine agree_upd rfl ?_ | refine agree_updL rfl ?_ _ | refine agree_mixin rfl ?_)) ?_))
           first
             | exact ⟨congrArg (fun z => [Value.int .i64 z]) (pRest_y hps), hs⟩
             | exact ⟨congrArg (fun z => [Value.int .i64 z]) (pRest_n hps), hs⟩
          ·
           subst h122
           refine w_skip ?_
           refine q_then (hC118 _ _ (Md.intro (by repeat (first | exact agree_refl | exact agree_mix | refine agree_upd rfl ?_ | refine agree_updL rfl ?_ _ | refine agree_mixin rfl ?_)) ?_))
           first
             | exact ⟨congrArg (fun z => [Value.int .i64 z]) (pRest_y hps), hs⟩
             | exact ⟨congrArg (fun z => [Value.int .i64 z]) (pRest_n hps), hs⟩
         ·
          intro vs μ w123 hM
          obtain ⟨rfl, hs⟩ := hM
          refine q_then (hK116 _ _ ?_)
          refine w_seq (fun K125 hK124 => ?_)
          refine w_draw [] [(0, 0), (1, 1), (2, 0), (4, 0), (5, 1), (6, 0), (7, 1), (8, 0), (9, 0), (11, 0), (12, 1), (3, 2), (10, 0), (13, 0), (14, 0)] Try_mo (drawOK_of (by kernel_rfl)) hs (fun w126 hs127 => ?_)
          refine d_any rfl want_none rfl (fun _ => (y_fieldAddr (o := 1) (i := 1) Try.underlying49 rfl Try.sizeOf47 rfl rfl rfl)) ?_
          refine d_take rfl want_none rfl hs127 (fun _ hq => (y_load1 Try.isAgg47 hq.tail.tail.tail.drop.drop.drop.drop.drop.drop.drop rfl rfl (show Ats _ _ _ _ [_] from Ats.part hb3 1 1))) ?_
          refine d_any rfl want_none rfl (fun _ => (y_move (v := .int _ _) rfl rfl)) ?_
          refine d_any rfl want_none rfl (fun _ => (y_fieldAddr (o := 1) (i := 1) Try.underlying76 rfl Try.sizeOf3 rfl rfl rfl)) ?_
          refine d_take rfl want_none rfl hs127 (fun _ hq => (y_load1 Try.isAgg3 hq rfl rfl (ats_own (i := 0) (vs := [_]) rfl rfl))) ?_
          refine d_any rfl want_none rfl (fun _ => (y_fieldAddr (o := 2) (i := 2) Try.underlying76 rfl Try.sizeOf3 rfl rfl rfl)) ?_
          refine d_take rfl want_none rfl hs127 (fun _ hq => (y_load1 Try.isAgg3 hq rfl rfl (ats_own (i := 0) (vs := [_]) rfl rfl))) ?_
          refine d_any rfl want_none rfl (fun _ => (y_add rfl rfl rfl rfl (by omega) (by omega))) ?_
          refine d_any rfl want_none rfl (fun _ => (y_add rfl rfl rfl rfl (by omega) (by omega))) ?_
          refine d_any rfl want_none rfl (fun _ => (y_fieldAddr (o := 1) (i := 1) Try.underlying76 rfl Try.sizeOf3 rfl rfl rfl)) ?_
          refine d_take rfl want_none rfl hs127 (fun _ hq => (y_load1 Try.isAgg3 hq rfl rfl (ats_own (i := 0) (vs := [_]) rfl rfl))) ?_
          refine d_eff rfl ?_
          refine w_call want_none Try.call49 rfl rfl rfl rfl (c49 _ _ x.errs hl2 hs2.cons.cons.app.app.app.app.app.app.app.cons.cons.cons hx.errs (i * b.hours.length + k) hs127) ?_
          rintro _ w129 ⟨rfl, hs130⟩
          refine w_nil ?_
          refine qn ⟨hs130, ?_⟩
          refine d_any rfl want_none rfl (fun _ => (y_rem rfl rfl rfl rfl (by omega) (by omega))) ?_
          refine d_any rfl want_none rfl (fun _ => (y_sub rfl rfl rfl rfl (by omega) (by omega))) ?_
          refine d_any rfl want_none rfl (fun _ => (y_assign (v := .int _ _) rfl rfl)) ?_
          refine d_nil ?_
          refine q_then (hK124 _ _ ?_)
          refine w_seq (fun K132 hK131 => ?_)
          refine w_cut [23, 120, 121, 122, 123, 124, 125, 126] [23] (fun vs w => vs = [.int .i64 (pErr b x (b.ctrs[i]'hi2) i k)] ∧ St w0 w ((b79, blk 76 [.string (b.ctrs[i]'hi2).name, .int .i64 (b.ctrs[i]'hi2).skip, .int .i64 (b.ctrs[i]'hi2).twice, .int .i64 (b.ctrs[i]'hi2).start, .slice (p.pc i).az (b.ctrs[i]'hi2).zero.length (p.pc i).cz, .slice (p.pc i).as (b.ctrs[i]'hi2).shown.length (p.pc i).cs]) :: (b50, blk 25 [.int .i64 b.holds, .slice p.ah b.hours.length p.ch, .slice aN i cN]) :: (b9, blk 25 [.int .i64 0, .slice none 0 0, .slice none 0 0]) :: (SQ ++ (ZQ ++ (NB ++ (RB ++ (ZB ++ (DD ++ (LQ ++ (((b6, blk 49 [.slice a1 x.loads.length c1, .slice a2 x.errs.length c2, .slice a3 x.zeros.length c3]) :: (b3, blk 25 (b.cells p)) :: F))))))))))) (fun K134 hC133 => ?_) ?_
          ·
           refine w_seq (fun K136 hK135 => ?_)
           rw [show (turnOf x.errs (i * b.hours.length + k) % ((b.ctrs[i]'hi2).skip + (b.ctrs[i]'hi2).twice + 1) - (b.ctrs[i]'hi2).skip) = pErr0 b.hours.length x (b.ctrs[i]'hi2) i k from rfl]
           refine w_region ?_
           refine w_p (y_move (v := .slice _ _ _) rfl rfl) rfl ?_
           refine w_p (y_move (v := .int _ _) rfl rfl) rfl ?_
           refine w_p (y_indexS Try.underlying39 Try.sizeOf3 rfl rfl rfl rfl (i := k) rfl hk2) rfl ?_
           refine w_p (y_load1 Try.isAgg3 hs130.tail.tail.tail.drop.drop.drop.drop.drop.drop rfl rfl hlx) rfl ?_
           refine w_p (y_move (v := .int _ _) rfl rfl) rfl ?_
           refine w_p (y_add rfl rfl rfl rfl (by omega) (by omega)) rfl ?_
           refine w_p (y_lss rfl rfl rfl rfl) rfl ?_
           refine w_nil ?_
           refine q_then (hK135 _ _ ?_)
           refine w_cond rfl rfl (fun h137 => ?_) (fun h137 => ?_)
           ·
            try simp only [zA, zB, zC, zD, zE, zF] at h137
            refine w_region ?_
            refine w_p (y_assign (v := _) rfl rfl) rfl ?_
            refine w_nil ?_
            refine q_then (hC133 _ _ (Md.intro (by repeat (first | exact agree_refl | exact agree_mix | refine agree_upd rfl ?_ | refine agree_updL rfl ?_ _ | refine agree_mixin rfl ?_)) ?_))
            first
              | exact ⟨congrArg (fun z => [Value.int .i64 z]) (pErr_y (by omega)), hs130⟩
              | exact ⟨congrArg (fun z => [Value.int .i64 z]) (pErr_n (by omega)), hs130⟩
           ·
            try simp only [zA, zB, zC, zD, zE, zF] at h137
            refine w_skip ?_
            refine q_then (hC133 _ _ (Md.intro (by repeat (first | exact agree_refl | exact agree_mix | refine agree_upd rfl ?_ | refine agree_updL rfl ?_ _ | refine agree_mixin rfl ?_)) ?_))
            first
              | exact ⟨congrArg (fun z => [Value.int .i64 z]) (pErr_y (by omega)), hs130⟩
              | exact ⟨congrArg (fun z => [Value.int .i64 z]) (pErr_n (by omega)), hs130⟩
          ·
           intro vs μ w138 hM
           obtain ⟨rfl, hs⟩ := hM
           have hei := pErr_in (b := b) (x := x) (c := (b.ctrs[i]'hi2)) (i := i) (k := k) hsk htw (by omega)
           refine q_then (hK131 _ _ ?_)
           refine w_seq (fun K140 hK139 => ?_)
           refine w_cut [17, 127, 128, 129, 130, 131] [17] (fun vs w => vs = [.bool (pRight b x (b.ctrs[i]'hi2) i (k + 1))] ∧ St w0 w ((b79, blk 76 [.string (b.ctrs[i]'hi2).name, .int .i64 (b.ctrs[i]'hi2).skip, .int .i64 (b.ctrs[i]'hi2).twice, .int .i64 (b.ctrs[i]'hi2).start, .slice (p.pc i).az (b.ctrs[i]'hi2).zero.length (p.pc i).cz, .slice (p.pc i).as (b.ctrs[i]'hi2).shown.length (p.pc i).cs]) :: (b50, blk 25 [.int .i64 b.holds, .slice p.ah b.hours.length p.ch, .slice aN i cN]) :: (b9, blk 25 [.int .i64 0, .slice none 0 0, .slice none 0 0]) :: (SQ ++ (ZQ ++ (NB ++ (RB ++ (ZB ++ (DD ++ (LQ ++ (((b6, blk 49 [.slice a1 x.loads.length c1, .slice a2 x.errs.length c2, .slice a3 x.zeros.length c3]) :: (b3, blk 25 (b.cells p)) :: F))))))))))) (fun K142 hC141 => ?_) ?_
           ·
            refine w_region ?_
            refine w_p (y_move (v := .bool _) rfl rfl) rfl ?_
            refine w_p (y_move (v := .bool _) rfl rfl) rfl ?_
            refine w_split (fun h143 => ?_) (fun h143 => ?_)
            ·
             subst h143
             refine w_y rfl rfl rfl (y_move (v := .int _ _) rfl rfl) rfl ?_
             refine w_y rfl rfl rfl (y_eql rfl rfl rfl rfl) rfl ?_
             refine w_p (y_pickT (v := .bool _) rfl rfl rfl rfl) rfl ?_
             refine w_p (y_assign (v := .bool _) rfl rfl) rfl ?_
             refine w_nil ?_
             refine q_then (hC141 _ _ (Md.intro (by repeat (first | exact agree_refl | exact agree_mix | refine agree_upd rfl ?_ | refine agree_updL rfl ?_ _ | refine agree_mixin rfl ?_)) ?_))
             first
               | exact ⟨congrArg (fun z => [Value.bool z]) (by rw [pRight_step, hcr]; rfl), hs⟩
               | exact ⟨congrArg (fun z => [Value.bool z]) (by rw [pRight_step, hcr]; simp), hs⟩
            ·
             subst h143
             refine w_skipop rfl rfl rfl ?_
             refine w_skipop rfl rfl rfl ?_
             refine w_p (y_pickF (v := _) rfl rfl rfl rfl) rfl ?_
             refine w_p (y_assign (v := .bool _) rfl rfl) rfl ?_
             refine w_nil ?_
             refine q_then (hC141 _ _ (Md.intro (by repeat (first | exact agree_refl | exact agree_mix | refine agree_upd rfl ?_ | refine agree_updL rfl ?_ _ | refine agree_mixin rfl ?_)) ?_))
             first
               | exact ⟨congrArg (fun z => [Value.bool z]) (by rw [pRight_step, hcr]; rfl), hs⟩
               | exact ⟨congrArg (fun z => [Value.bool z]) (by rw [pRight_step, hcr]; simp), hs⟩
           ·
            intro vs μ w144 hM
            obtain ⟨rfl, hs⟩ := hM
            refine q_then (hK139 _ _ ?_)
            refine w_seq (fun K146 hK145 => ?_)
            refine w_region ?_
            refine w_p (y_move (v := .int _ _) rfl rfl) rfl ?_
            refine w_p (y_move (v := .slice _ _ _) rfl rfl) rfl ?_
            refine w_p (y_move (v := .int _ _) rfl rfl) rfl ?_
            refine w_p (y_indexS Try.underlying39 Try.sizeOf3 rfl rfl rfl rfl (i := k) rfl hk2) rfl ?_
            refine w_p (y_load1 Try.isAgg3 hs.tail.tail.tail.drop.drop.drop.drop.drop.drop rfl rfl hlx) rfl ?_
            refine w_p (y_add rfl rfl rfl rfl (by omega) (by omega)) rfl ?_
            refine w_p (y_move (v := .int _ _) rfl rfl) rfl ?_
            refine w_p (y_add rfl rfl rfl rfl (by omega) (by omega)) rfl ?_
            refine w_p (y_rem rfl rfl rfl rfl (by omega) (by omega)) rfl ?_
            refine w_p (y_assign (v := .int _ _) rfl rfl) rfl ?_
            refine w_nil ?_
            refine q_then (hK145 _ _ ?_)
            refine w_seq (fun K148 hK147 => ?_)
            refine w_region ?_
            refine w_p (y_move (v := .int _ _) rfl rfl) rfl ?_
            refine w_p (y_assign (v := .int _ _) rfl rfl) rfl ?_
            refine w_nil ?_
            refine q_then (hK147 _ _ ?_)
            refine w_seq (fun K150 hK149 => ?_)
            refine w_cut [24, 142, 143, 144, 145, 146, 147] [24] (fun vs w => vs = [.int .i64 (pOwn b x (b.ctrs[i]'hi2) i k)] ∧ St w0 w ((b79, blk 76 [.string (b.ctrs[i]'hi2).name, .int .i64 (b.ctrs[i]'hi2).skip, .int .i64 (b.ctrs[i]'hi2).twice, .int .i64 (b.ctrs[i]'hi2).start, .slice (p.pc i).az (b.ctrs[i]'hi2).zero.length (p.pc i).cz, .slice (p.pc i).as (b.ctrs[i]'hi2).shown.length (p.pc i).cs]) :: (b50, blk 25 [.int .i64 b.holds, .slice p.ah b.hours.length p.ch, .slice aN i cN]) :: (b9, blk 25 [.int .i64 0, .slice none 0 0, .slice none 0 0]) :: (SQ ++ (ZQ ++ (NB ++ (RB ++ (ZB ++ (DD ++ (LQ ++ (((b6, blk 49 [.slice a1 x.loads.length c1, .slice a2 x.errs.length c2, .slice a3 x.zeros.length c3]) :: (b3, blk 25 (b.cells p)) :: F))))))))))) (fun K152 hC151 => ?_) ?_
            ·
             refine w_seq (fun K154 hK153 => ?_)
             refine w_region ?_
             refine w_p (y_fieldAddr (o := 5) (i := 5) Try.underlying76 rfl Try.sizeOf39 rfl rfl rfl) rfl ?_
             refine w_p (yd_slice hbs (y_load1 Try.isAgg39 hs rfl rfl (ats_own (i := 0) (vs := [_]) rfl rfl))) rfl ?_
             refine w_p (y_move (v := .int _ _) rfl rfl) rfl ?_
             refine w_p (y_indexS Try.underlying39 Try.sizeOf3 rfl rfl rfl rfl (i := k) rfl hks) rfl ?_
             refine w_p (y_load1 Try.isAgg3 hs.tail.tail.tail.drop.drop.drop.drop.drop.drop.drop.tail.tail rfl rfl hsx) rfl ?_
             refine w_p (y_eql rfl rfl rfl rfl) rfl ?_
             refine w_nil ?_
             refine q_then (hK153 _ _ ?_)
             refine w_cond rfl rfl (fun h155 => ?_) (fun h155 => ?_)
             ·
              try simp only [zA, zB, zC, zD, zE, zF] at h155
              refine w_region ?_
              refine w_p (y_assign (v := _) rfl rfl) rfl ?_
              refine w_nil ?_
              refine q_then (hC151 _ _ (Md.intro (by repeat (first | exact agree_refl | exact agree_mix | refine agree_upd rfl ?_ | refine agree_updL rfl ?_ _ | refine agree_mixin rfl ?_)) ?_))
              first
                | exact ⟨congrArg (fun z => [Value.int .i64 z]) (pOwn_y hsk2 (by omega)), hs⟩
                | exact ⟨congrArg (fun z => [Value.int .i64 z]) (pOwn_n hsk2 (by omega)), hs⟩
             ·
              try simp only [zA, zB, zC, zD, zE, zF] at h155
              refine w_skip ?_
              refine q_then (hC151 _ _ (Md.intro (by repeat (first | exact agree_refl | exact agree_mix | refine agree_upd rfl ?_ | refine agree_updL rfl ?_ _ | refine agree_mixin rfl ?_)) ?_))
              first
                | exact ⟨congrArg (fun z => [Value.int .i64 z]) (pOwn_y hsk2 (by omega)), hs⟩
                | exact ⟨congrArg (fun z => [Value.int .i64 z]) (pOwn_n hsk2 (by omega)), hs⟩
            ·
             intro vs μ w156 hM
             obtain ⟨rfl, hs⟩ := hM
             refine q_then (hK149 _ _ ?_)
             refine w_region ?_
             refine w_p (y_move (v := vs) rfl rfl) rfl ?_
             refine w_p (y_move (v := .int _ _) rfl rfl) rfl ?_
             refine w_bslice (ps := [(0, _)]) (pv := [(0, .int _ _)]) (cs := [_]) want_none rfl rfl (fun w => Try_Zn_fb10 _ w) hs (fun b157 w158 hs159 => ?_)
             refine w_append (X := (_ :: _ :: _ :: _ :: [])) (B := SQ) (rows := [[_]]) (sz := 1) (bytes := 8) want_none Try.underlying39 Try_info3 rfl rfl rfl rfl rfl rfl rfl rfl rfl hs159 hoS (sl_own (i := 0) (b := b157) (t := 3) (cs := [_]) (rows := [[_]]) rfl (by simp) rfl) rfl (by simp) (by simp [Value.oneCell']) (by simp only [maxLen]; omega) (by omega) (fun v160 w161 B162 ho163 hs164 => ?_)
             replace hs164 := (show St _ _ (_ :: _ :: _ :: _ :: B162 ++ (ZQ ++ (NB ++ (RB ++ (ZB ++ (DD ++ (LQ ++ (_ :: _ :: F)))))))) from hs164)
             refine w_p (y_move (v := vw) rfl rfl) rfl ?_
             refine w_p (y_move (v := .bool _) rfl rfl) rfl ?_
             refine w_bslice (ps := [(0, _)]) (pv := [(0, .bool _)]) (cs := [_]) want_none rfl rfl (fun w => Try_Zn_fb11 _ w) hs164 (fun b165 w166 hs167 => ?_)
             refine w_append (X := (_ :: _ :: _ :: _ :: _ :: B162)) (B := ZQ) (rows := [[_]]) (sz := 1) (bytes := 1) want_none Try.underlying50 Try_info4 rfl rfl rfl rfl rfl rfl rfl rfl rfl hs167 hoW (sl_own (i := 0) (b := b165) (t := 4) (cs := [_]) (rows := [[_]]) rfl (by simp) rfl) rfl (by simp) (by simp [Value.oneCell']) (by simp only [maxLen]; omega) (by omega) (fun v168 w169 B170 ho171 hs172 => ?_)
             replace hs172 := (show St _ _ (_ :: _ :: _ :: _ :: _ :: B162 ++ (B170 ++ (NB ++ (RB ++ (ZB ++ (DD ++ (LQ ++ (_ :: _ :: F)))))))) from hs172)
             refine w_p (y_assign (v := v160) rfl rfl) rfl ?_
             refine w_p (y_assign (v := v168) rfl rfl) rfl ?_
             refine w_nil ?_
             refine q_blk_normal ?_
             refine q_then (hK102 _ _ ?_)
             refine w_region ?_
             refine w_p (y_move (v := .int _ _) rfl rfl) rfl ?_
             refine w_p (y_add rfl rfl rfl rfl (by omega) (by omega)) rfl ?_
             refine w_p (y_assign (v := .int _ _) rfl rfl) rfl ?_
             refine w_nil ?_
             refine q_then (hN94 _ _ (Nx.intro (b.hours.length - (k + 1)) (by omega) (by repeat (first | exact agree_mix | refine agree_upd rfl ?_ | refine agree_updL rfl ?_ _ | refine agree_mixin rfl ?_)) ?_))
             exact ⟨k + 1, _, _, _, _, p_vals rfl rfl, by omega, rfl, own_psh ho163, own_pze hps ho171, hs172.tail.tail⟩
       ·
        try simp only [zA, zB, zC, zD, zE, zF] at h101
        refine w_exit ?_
        refine q_then_exit ?_
        refine q_then_exit ?_
        refine q_blk_this ?_
        refine q_then (hK90 _ _ ?_)
        refine w_seq (fun K174 hK173 => ?_)
        have hs175 := perm_sz hs
        replace hs175 := (show St _ _ (_ :: _ :: _ :: NB ++ (RB ++ (ZB ++ (SQ ++ (ZQ ++ (DD ++ (LQ ++ (_ :: _ :: F)))))))) from hs175)
        have hkn : k = b.hours.length := by omega
        subst hkn
        obtain ⟨aS, cS, rfl⟩ := hoS.slice
        obtain ⟨aW, cW, rfl⟩ := hoW.slice
        have hslS := own_int_sl (w0 := w0) hoS (by simp [pShown])
        have hslW := own_bools (w0 := w0) hoW (by simp [pZero])
        refine w_region ?_
        refine w_p (y_move (v := .slice _ _ _) rfl rfl) rfl ?_
        refine w_p (y_fieldAddr (o := 5) (i := 5) Try.underlying76 rfl Try.sizeOf39 rfl rfl rfl) rfl ?_
        refine w_store (i := 0) (v := .slice _ _ _) (vs := [_]) want_none Try.sizeOf39 rfl rfl rfl rfl rfl (by simp [Value.oneCell']) hs175 rfl (Nat.le_of_ble_eq_true rfl) (fun w176 hs177 => ?_)
        refine w_nil ?_
        refine q_then (hK173 _ _ ?_)
        refine w_seq (fun K179 hK178 => ?_)
        refine w_cut [158, 159, 160, 161, 162, 163, 164, 165] [] (fun vs w => ∃ aM cM NM, vs = [] ∧ Rt.Own (.slice aM (i + 1) cM) 76 6 (i + 1) (krows (pastT b x (i + 1)) (setPc qc i aS cS)).flatten NM ∧ St w0 w ((b79, blk 76 [.string (b.ctrs[i]'hi2).name, .int .i64 (b.ctrs[i]'hi2).skip, .int .i64 (b.ctrs[i]'hi2).twice, .int .i64 (b.ctrs[i]'hi2).start, .slice (p.pc i).az (b.ctrs[i]'hi2).zero.length (p.pc i).cz, .slice aS b.hours.length cS]) :: (b50, blk 25 [.int .i64 b.holds, .slice p.ah b.hours.length p.ch, .slice aM (i + 1) cM]) :: (b9, blk 25 [.int .i64 0, .slice none 0 0, .slice none 0 0]) :: (NM ++ (RB ++ (ZB ++ (SQ ++ (ZQ ++ (DD ++ (LQ ++ (((b6, blk 49 [.slice a1 x.loads.length c1, .slice a2 x.errs.length c2, .slice a3 x.zeros.length c3]) :: (b3, blk 25 (b.cells p)) :: F))))))))))) (fun K181 hC180 => ?_) ?_
        ·
         refine w_drawT (C := fun w => St w0 w _) [8] (.two [(1, 0), (2, 1), (4, 1)] 0 5 (.two [] 3 5 (.done [(5, 2), (6, 2), (7, 0), (8, 3)]) (.done [(3, 2), (6, 2), (7, 0), (8, 3)])) (.done [(0, 2), (3, 2), (6, 2), (7, 0), (8, 3)])) Try_mo (by kernel_rfl) hs177 (fun _ h => h.drew) (fun w182 hs183 => ?_)
         refine dt_two ?_
         refine d_any rfl want_none rfl (fun _ => (y_fieldAddr (o := 2) (i := 2) Try.underlying25 rfl Try.sizeOf23 rfl rfl rfl)) ?_
         refine d_take rfl want_none rfl hs183 (fun _ hq => (y_load1 Try.isAgg23 hq rfl rfl (ats_own (i := 1) (vs := [_]) rfl rfl))) ?_
         refine d_take rfl want_none rfl hs183 (fun _ hq => (y_loadN (vs := [_, _, _, _, _, _]) Try.isAgg76 Try.sizeOf76 hq rfl rfl (ats_own (i := 0) (vs := [_, _, _, _, _, _]) rfl rfl))) ?_
         refine d_two rfl rfl ?_ ?_
         ·
          refine w_bslice (ps := []) (pv := []) (cs := []) want_none rfl rfl (fun w => Try_Zn_fb12  w) hs183 (fun b184 w185 hs186 => ?_)
          refine w_nil ?_
          refine qn ⟨hs186.tail, ?_⟩
          refine dt_two ?_
          refine d_two rfl rfl ?_ ?_
          ·
           refine w_append (X := ([])) (B := [_]) (rows := (krows (pastT b x i) qc)) (sz := 6) (bytes := 88) want_none Try.underlying23 Try_info76 rfl rfl rfl rfl rfl rfl rfl rfl rfl hs186 own_made hslN.top.cons.cons.cons.cons (by rw [krows_len, pastT_len (by omega)]) hnN (krows_one _ _) (by simp only [maxLen]; omega) (by omega) (fun v187 w188 B189 ho190 hs191 => ?_)
           replace hs191 := (show St _ _ (B189 ++ (_ :: _ :: _ :: NB ++ (RB ++ (ZB ++ (SQ ++ (ZQ ++ (DD ++ (LQ ++ (_ :: _ :: F))))))))) from hs191)
           refine w_nil ?_
           refine qn ⟨hs191.drop, ?_⟩
           refine dt_done ?_
           refine d_eff rfl ?_
           refine w_bslice (ps := [(0, _)]) (pv := [(0, .agg #[.string _, .int _ _, .int _ _, .int _ _, .slice _ _ _, .slice _ _ _])]) (cs := [_, _, _, _, _, _]) want_none rfl rfl (fun w => Try_Zn_fb13 _ _ _ _ _ _ _ _ _ _ w) hs191 (fun b192 w193 hs194 => ?_)
           refine w_nil ?_
           refine qn ⟨hs194.tail.drop, ?_⟩
           refine d_eff rfl ?_
           refine w_append (X := (_ :: [])) (B := B189) (rows := [[_, _, _, _, _, _]]) (sz := 6) (bytes := 88) want_none Try.underlying23 Try_info76 rfl rfl rfl rfl rfl rfl rfl rfl rfl hs194 ho190 (sl_own (i := 0) rfl (by simp) rfl) rfl (by simp) (by simp [Value.oneCell']) (by simp only [maxLen]; omega) (by omega) (fun v195 w196 B197 ho198 hs199 => ?_)
           replace hs199 := (show St _ _ (_ :: B197 ++ (_ :: _ :: _ :: NB ++ (RB ++ (ZB ++ (SQ ++ (ZQ ++ (DD ++ (LQ ++ (_ :: _ :: F))))))))) from hs199)
           refine w_nil ?_
           refine qn ⟨hs199.tail.drop, ?_⟩
           have hN : Rt.Own v195 76 6 (i + 1) (krows (pastT b x (i + 1)) (setPc qc i aS cS)).flatten B197 := own_prow hqc hi2 (by
             have h9 := ho198
             rw [Nat.zero_add, List.nil_append] at h9
             exact h9)
           obtain ⟨aM, cM, rfl⟩ := hN.slice
           have hs200 := St.perm (L := [_] ++ (B197 ++ ([_, _, _] ++ _))) hs199 ((perm_mid B197 [_, _, _] _).append_left [_])
           replace hs200 := (show St _ _ (_ :: _ :: _ :: _ :: (B197 ++ _)) from hs200)
           refine d_any rfl want_none rfl (fun _ => (y_fieldAddr (o := 2) (i := 2) Try.underlying25 rfl Try.sizeOf23 rfl rfl rfl)) ?_
           refine d_late rfl ?_
           refine w_store (i := 2) (v := .slice _ _ _) (vs := [_]) want_none Try.sizeOf23 rfl rfl rfl rfl rfl (by simp [Value.oneCell']) hs200 rfl (Nat.le_of_ble_eq_true rfl) (fun w201 hs202 => ?_)
           refine w_nil ?_
           refine qn ?_
           refine d_nil ?_
           refine q_then (hC180 _ _ (Md.intro (by repeat (first | exact agree_refl | exact agree_mix | refine agree_upd rfl ?_ | refine agree_updL rfl ?_ _ | refine agree_mixin rfl ?_)) ?_))
           exact ⟨aM, cM, _, rfl, hN, drop_in4 hs202.tail⟩
          ·
           refine w_bslice (ps := [(0, _)]) (pv := [(0, .agg #[.string _, .int _ _, .int _ _, .int _ _, .slice _ _ _, .slice _ _ _])]) (cs := [_, _, _, _, _, _]) want_none rfl rfl (fun w => Try_Zn_fb13 _ _ _ _ _ _ _ _ _ _ w) hs186 (fun b203 w204 hs205 => ?_)
           refine w_nil ?_
           refine qn ⟨hs205.tail.tail, ?_⟩
           refine dt_done ?_
           refine d_eff rfl ?_
           refine w_append (X := (_ :: [])) (B := [_]) (rows := (krows (pastT b x i) qc)) (sz := 6) (bytes := 88) want_none Try.underlying23 Try_info76 rfl rfl rfl rfl rfl rfl rfl rfl rfl hs205 own_made hslN.top.cons.cons.cons.cons.cons (by rw [krows_len, pastT_len (by omega)]) hnN (krows_one _ _) (by simp only [maxLen]; omega) (by omega) (fun v206 w207 B208 ho209 hs210 => ?_)
           replace hs210 := (show St _ _ (_ :: B208 ++ (_ :: _ :: _ :: NB ++ (RB ++ (ZB ++ (SQ ++ (ZQ ++ (DD ++ (LQ ++ (_ :: _ :: F))))))))) from hs210)
           refine w_nil ?_
           refine qn ⟨hs210.tail.drop, ?_⟩
           refine d_eff rfl ?_
           refine w_append (X := (_ :: [])) (B := B208) (rows := [[_, _, _, _, _, _]]) (sz := 6) (bytes := 88) want_none Try.underlying23 Try_info76 rfl rfl rfl rfl rfl rfl rfl rfl rfl hs210 ho209 (sl_own (i := 0) rfl (by simp) rfl) rfl (by simp) (by simp [Value.oneCell']) (by simp only [maxLen]; omega) (by omega) (fun v211 w212 B213 ho214 hs215 => ?_)
           replace hs215 := (show St _ _ (_ :: B213 ++ (_ :: _ :: _ :: NB ++ (RB ++ (ZB ++ (SQ ++ (ZQ ++ (DD ++ (LQ ++ (_ :: _ :: F))))))))) from hs215)
           refine w_nil ?_
           refine qn ⟨hs215.tail.drop, ?_⟩
           have hN : Rt.Own v211 76 6 (i + 1) (krows (pastT b x (i + 1)) (setPc qc i aS cS)).flatten B213 := own_prow hqc hi2 (by
             have h9 := ho214
             rw [Nat.zero_add, List.nil_append] at h9
             exact h9)
           obtain ⟨aM, cM, rfl⟩ := hN.slice
           have hs216 := St.perm (L := [_] ++ (B213 ++ ([_, _, _] ++ _))) hs215 ((perm_mid B213 [_, _, _] _).append_left [_])
           replace hs216 := (show St _ _ (_ :: _ :: _ :: _ :: (B213 ++ _)) from hs216)
           refine d_any rfl want_none rfl (fun _ => (y_fieldAddr (o := 2) (i := 2) Try.underlying25 rfl Try.sizeOf23 rfl rfl rfl)) ?_
           refine d_late rfl ?_
           refine w_store (i := 2) (v := .slice _ _ _) (vs := [_]) want_none Try.sizeOf23 rfl rfl rfl rfl rfl (by simp [Value.oneCell']) hs216 rfl (Nat.le_of_ble_eq_true rfl) (fun w217 hs218 => ?_)
           refine w_nil ?_
           refine qn ?_
           refine d_nil ?_
           refine q_then (hC180 _ _ (Md.intro (by repeat (first | exact agree_refl | exact agree_mix | refine agree_upd rfl ?_ | refine agree_updL rfl ?_ _ | refine agree_mixin rfl ?_)) ?_))
           exact ⟨aM, cM, _, rfl, hN, drop_in4 hs218.tail⟩
         ·
          refine w_bslice (ps := [(0, _)]) (pv := [(0, .agg #[.string _, .int _ _, .int _ _, .int _ _, .slice _ _ _, .slice _ _ _])]) (cs := [_, _, _, _, _, _]) want_none rfl rfl (fun w => Try_Zn_fb13 _ _ _ _ _ _ _ _ _ _ w) hs183 (fun b219 w220 hs221 => ?_)
          refine w_nil ?_
          refine qn ⟨hs221.tail, ?_⟩
          refine dt_done ?_
          refine d_eff rfl ?_
          refine w_bslice (ps := []) (pv := []) (cs := []) want_none rfl rfl (fun w => Try_Zn_fb12  w) hs221 (fun b222 w223 hs224 => ?_)
          refine w_nil ?_
          refine qn ⟨hs224.tail.tail, ?_⟩
          refine d_eff rfl ?_
          refine w_append (X := ([])) (B := [_]) (rows := (krows (pastT b x i) qc)) (sz := 6) (bytes := 88) want_none Try.underlying23 Try_info76 rfl rfl rfl rfl rfl rfl rfl rfl rfl hs224 own_made hslN.top.cons.cons.cons.cons.cons (by rw [krows_len, pastT_len (by omega)]) hnN (krows_one _ _) (by simp only [maxLen]; omega) (by omega) (fun v225 w226 B227 ho228 hs229 => ?_)
          replace hs229 := (show St _ _ (B227 ++ (_ :: _ :: _ :: _ :: NB ++ (RB ++ (ZB ++ (SQ ++ (ZQ ++ (DD ++ (LQ ++ (_ :: _ :: F))))))))) from hs229)
          refine w_nil ?_
          refine qn ⟨hs229.drop.tail, ?_⟩
          refine d_eff rfl ?_
          refine w_append (X := ([])) (B := B227) (rows := [[_, _, _, _, _, _]]) (sz := 6) (bytes := 88) want_none Try.underlying23 Try_info76 rfl rfl rfl rfl rfl rfl rfl rfl rfl hs229 ho228 (show Sl _ (B227 ++ _) _ _ _ from Sl.app (sl_own (i := 0) rfl (by simp) rfl)) rfl (by simp) (by simp [Value.oneCell']) (by simp only [maxLen]; omega) (by omega) (fun v230 w231 B232 ho233 hs234 => ?_)
          replace hs234 := (show St _ _ (B232 ++ (_ :: _ :: _ :: _ :: NB ++ (RB ++ (ZB ++ (SQ ++ (ZQ ++ (DD ++ (LQ ++ (_ :: _ :: F))))))))) from hs234)
          refine w_nil ?_
          refine qn ⟨hs234.drop.tail, ?_⟩
          have hN : Rt.Own v230 76 6 (i + 1) (krows (pastT b x (i + 1)) (setPc qc i aS cS)).flatten B232 := own_prow hqc hi2 (by
            have h9 := ho233
            rw [Nat.zero_add, List.nil_append] at h9
            exact h9)
          obtain ⟨aM, cM, rfl⟩ := hN.slice
          have hs235 := St.perm (L := B232 ++ ([_, _, _, _] ++ _)) hs234 (perm_mid B232 [_, _, _, _] _)
          replace hs235 := (show St _ _ (_ :: _ :: _ :: _ :: (B232 ++ _)) from hs235)
          refine d_any rfl want_none rfl (fun _ => (y_fieldAddr (o := 2) (i := 2) Try.underlying25 rfl Try.sizeOf23 rfl rfl rfl)) ?_
          refine d_late rfl ?_
          refine w_store (i := 2) (v := .slice _ _ _) (vs := [_]) want_none Try.sizeOf23 rfl rfl rfl rfl rfl (by simp [Value.oneCell']) hs235 rfl (Nat.le_of_ble_eq_true rfl) (fun w236 hs237 => ?_)
          refine w_nil ?_
          refine qn ?_
          refine d_nil ?_
          refine q_then (hC180 _ _ (Md.intro (by repeat (first | exact agree_refl | exact agree_mix | refine agree_upd rfl ?_ | refine agree_updL rfl ?_ _ | refine agree_mixin rfl ?_)) ?_))
          exact ⟨aM, cM, _, rfl, hN, drop_in4 hs237.tail⟩
        ·
         intro vs μ w238 hM
         clear hs
         obtain ⟨aM, cM, NM, rfl, hN, hs⟩ := hM
         refine q_then (hK178 _ _ ?_)
         refine w_seq (fun K240 hK239 => ?_)
         refine w_region ?_
         refine w_p (y_move (v := vr) rfl rfl) rfl ?_
         refine w_p (y_move (v := .bool _) rfl rfl) rfl ?_
         refine w_bslice (ps := [(0, _)]) (pv := [(0, .bool _)]) (cs := [_]) want_none rfl rfl (fun w => Try_Zn_fb11 _ w) hs (fun b241 w242 hs243 => ?_)
         refine w_append (X := (_ :: _ :: _ :: _ :: NM)) (B := RB) (rows := [[_]]) (sz := 1) (bytes := 1) want_none Try.underlying50 Try_info4 rfl rfl rfl rfl rfl rfl rfl rfl rfl hs243 hoR (sl_own (i := 0) (b := b241) (t := 4) (cs := [_]) (rows := [[_]]) rfl (by simp) rfl) rfl (by simp) (by simp [Value.oneCell']) (by simp only [maxLen]; omega) (by omega) (fun v244 w245 B246 ho247 hs248 => ?_)
         replace hs248 := (show St _ _ (_ :: _ :: _ :: _ :: NM ++ (B246 ++ (ZB ++ (SQ ++ (ZQ ++ (DD ++ (LQ ++ (_ :: _ :: F)))))))) from hs248)
         refine w_p (y_assign (v := v244) rfl rfl) rfl ?_
         refine w_nil ?_
         refine q_then (hK239 _ _ ?_)
         refine w_region ?_
         refine w_bslice (ps := []) (pv := []) (cs := []) want_none rfl rfl (fun w => Try_Zn_fb14  w) hs248 (fun b249 w250 hs251 => ?_)
         refine w_p (y_move (v := .slice _ _ _) rfl rfl) rfl ?_
         refine w_append (X := ([])) (B := [_]) (rows := (zs.map fun v => [v])) (sz := 1) (bytes := 24) want_none Try.underlying51 Try_info50 rfl rfl rfl rfl rfl rfl rfl rfl rfl hs251 own_made hslV.top.app.app.cons.cons.cons.cons.cons (by rw [List.length_map, hzl]) hnV (eb_one heb) (by simp only [maxLen]; omega) (by omega) (fun v252 w253 B254 ho255 hs256 => ?_)
         replace hs256 := (show St _ _ (B254 ++ (_ :: _ :: _ :: _ :: NM ++ (B246 ++ (ZB ++ (SQ ++ (ZQ ++ (DD ++ (LQ ++ (_ :: _ :: F))))))))) from hs256)
         refine w_p (y_move (v := .slice _ _ _) rfl rfl) rfl ?_
         refine w_bslice (ps := [(0, _)]) (pv := [(0, .slice _ _ _)]) (cs := [_]) want_none rfl rfl (fun w => Try_Zn_fb16 _ _ _ w) hs256 (fun b257 w258 hs259 => ?_)
         refine w_append (X := (_ :: [])) (B := B254) (rows := [[_]]) (sz := 1) (bytes := 24) want_none Try.underlying51 Try_info50 rfl rfl rfl rfl rfl rfl rfl rfl rfl hs259 ho255 (sl_own (i := 0) rfl (by simp) rfl) rfl (by simp) (by simp [Value.oneCell']) (by simp only [maxLen]; omega) (by omega) (fun v260 w261 B262 ho263 hs264 => ?_)
         replace hs264 := (show St _ _ (_ :: B262 ++ (_ :: _ :: _ :: _ :: NM ++ (B246 ++ (ZB ++ (SQ ++ (ZQ ++ (DD ++ (LQ ++ (_ :: _ :: F))))))))) from hs264)
         refine w_p (y_assign (v := v260) rfl rfl) rfl ?_
         refine w_nil ?_
         refine q_blk_normal ?_
         refine q_then (hK75 _ _ ?_)
         refine w_region ?_
         refine w_p (y_move (v := .int _ _) rfl rfl) rfl ?_
         refine w_p (y_add rfl rfl rfl rfl (by omega) (by omega)) rfl ?_
         refine w_p (y_assign (v := .int _ _) rfl rfl) rfl ?_
         refine w_nil ?_
         refine q_then (hN67 _ _ (Nx.intro (b.ctrs.length - (i + 1)) (by omega) (by repeat (first | exact agree_mix | refine agree_upd rfl ?_ | refine agree_updL rfl ?_ _ | refine agree_mixin rfl ?_)) ?_))
         exact ⟨i + 1, _, _, aM, cM, NM, _, _, SQ ++ (ZQ ++ DD), setPc qc i aS cS, zs ++ [.slice aW b.hours.length cW], rfl, by omega, rfl, hN, hqc.next _ _, hpd.next hi2 hslS.1 hslS.2, own_pri hi2 hcr ho247, (by have h9 := ho263; rw [Nat.zero_add, List.nil_append, rows_one] at h9; exact h9), (by rw [pastZ_next hi2]; exact EB.snoc heb.app.app (by simp [pZero]) hslW.top.app), (by have h9 := perm_told hs264; simpa [List.append_assoc] using h9)⟩
     ·
      try simp only [zA, zB, zC, zD, zE, zF] at h74
      refine w_exit ?_
      refine q_then_exit ?_
      refine q_then_exit ?_
      refine q_blk_this ?_
      refine q_then (hK63 _ _ ?_)
      refine w_seq (fun K266 hK265 => ?_)
      have hin : i = b.ctrs.length := by omega
      subst hin
      obtain ⟨aR, cR, rfl⟩ := hoR.slice
      refine w_region ?_
      refine w_p (y_loadN (vs := [_, _, _]) Try.isAgg25 Try.sizeOf25 hs rfl rfl (ats_own (i := 0) (vs := [_, _, _]) rfl rfl)) rfl ?_
      refine w_p (y_move (v := .slice _ _ _) rfl rfl) rfl ?_
      refine w_p (y_move (v := .slice _ _ _) rfl rfl) rfl ?_
      refine w_p (y_move (v := .slice _ _ _) rfl rfl) rfl ?_
      refine w_store (i := 1) (v := .agg #[.int _ _, .slice _ _ _, .slice _ _ _]) (vs := [_, _, _]) want_none Try.sizeOf25 rfl rfl rfl rfl rfl (by simp [Value.oneCell']) hs rfl (Nat.le_of_ble_eq_true rfl) (fun w267 hs268 => ?_)
      refine w_p (y_assign (v := .slice _ _ _) rfl rfl) rfl ?_
      refine w_p (y_assign (v := .slice _ _ _) rfl rfl) rfl ?_
      refine w_p (y_assign (v := .slice _ _ _) rfl rfl) rfl ?_
      refine w_nil ?_
      refine q_then (hK265 _ _ ?_)
      refine w_ret ?_
      refine q_ret (l := [.cell 4 25, .tmp 5, .tmp 6, .tmp 7]) (vs := [_, _, _, _]) rfl ⟨⟨rfl, _, rfl, run_loadVarN (vs := [_, _, _]) Try.isAgg25 Try.sizeOf25 hs268 (ats_own (i := 1) (vs := [_, _, _]) rfl rfl)⟩, ⟨rfl, show _ = (.slice _ _ _ : Value) from rfl⟩, ⟨rfl, show _ = (.slice _ _ _ : Value) from rfl⟩, ⟨rfl, show _ = (.slice _ _ _ : Value) from rfl⟩, trivial⟩ ?_
      rw [pastT_all] at hslN hoN
      rw [List.take_of_length_le (by simp [pastR])] at hoR
      rw [List.take_of_length_le (by simp [pastZ])] at heb
      have hslR := own_bools (w0 := w0) hoR (by simp [pastR])
      have hbin := past_bin (x := x) (F := (NB ++ (RB ++ (ZB ++ (DD ++ LQ)))) ++ F) hok hm.app hslN.top.top hcN hqc (hpd.mono fun _ h => (by have h9 := h.front; exact h9.drop.drop.drop.front))
      exact ⟨⟨p.ah, p.ch, aN, cN, qc⟩, NB ++ (RB ++ (ZB ++ (DD ++ LQ))), aL, cL, aR, cR, aV, cV, zs, by simp [Board.cells, pastB_len]; rfl, hbin, hslL.1.app.app.app.app, hslR.top.app, hslV.top.app.app, heb.top.app.app.app, drop_two hs268.tail.tail⟩

end Go.Proofs
/- Walks of this seat, printed by gen.py over the engine: what each function returns, in whatever world. No conditions but those of each contract. -/
set_option linter.unusedVariables false
set_option linter.unusedSimpArgs false
set_option maxRecDepth 20000
namespace Go.Proofs
open Go.Rt Go.Rt.Ch
open Go.Rt.Ha (firstE firstE_step firstE_stop firstE_end failE nameE felt spanL upto span_mem listL fewest fewTo bit before fewStep drop_lt drop_get drop_next drop_done drop_notin set_take set_zero take_less)
attribute [local irreducible] WL WC Con Yd At Ats Sl Agree DW

theorem wrongP_e {b : Board} (h : ¬ (check b).2.2 = 0) : wrongP b = ([], (check b).2.2) := by unfold wrongP; rw [if_pos h]
theorem wrongP_y {b : Board} (h : (check b).2.2 = 0) : wrongP b = ((fewest (wrongS b) (b.hours.length * b.ctrs.length)).1, 0) := by unfold wrongP; rw [if_neg (by simp [h])]
theorem many_8 {b : Board} (h : b.Ok) : b.hours.length * b.ctrs.length ≤ 8 := by
  have h1 := Nat.mul_le_mul h.lh h.lc
  omega
theorem c30 {w0 w : World} {F : List (Nat × Obj)} (b : Board) (p : AtB) (hm : BIn w0 F b p)  (hs : St w0 w F) :
  Con Try.prog 30 [.agg (b.cells p).toArray] w fun v w' => ∃ B a' c, v = .tuple #[.slice a' (wrongP b).1.length c, .int .i64 (wrongP b).2] ∧ Sl w0 B a' 1 ((wrongP b).1.map fun x => [Value.int .i64 x]) ∧ St w0 w' (B ++ F) := by
  refine con_of_wc (n := 27) Try.func30 rfl rfl (Nat.le_of_ble_eq_true rfl) ?_
  have hlh0 := hm.lh
  have hlc0 := hm.lc
  refine w_seq (fun K2 hK1 => ?_)
  refine w_region ?_
  refine w_box (v := .agg #[.int _ _, .slice _ _ _, .slice _ _ _]) (cs := [_, _, _]) want_none rfl rfl rfl hs (fun b3 w4 hs5 => ?_)
  refine w_p (y_assign (v := _) rfl rfl) rfl ?_
  refine w_p (y_assign (v := _) rfl rfl) rfl ?_
  refine w_nil ?_
  refine q_then (hK1 _ _ ?_)
  refine w_seq (fun K7 hK6 => ?_)
  refine w_seq (fun K9 hK8 => ?_)
  refine w_region ?_
  refine w_p (y_loadN (vs := [_, _, _]) Try.isAgg25 Try.sizeOf25 hs5 rfl rfl (ats_own (i := 0) (vs := [_, _, _]) rfl rfl)) rfl ?_
  refine w_call want_none Try.call16 rfl rfl rfl rfl (c16 b _ hm.cons hs5) ?_
  rintro _ w11 ⟨rfl, hs12⟩
  refine w_p (y_move (v := .tuple _) rfl rfl) rfl ?_
  refine w_p (y_extract (v := .int _ _) rfl rfl rfl) rfl ?_
  refine w_p (y_extract (v := .int _ _) rfl rfl rfl) rfl ?_
  refine w_p (y_extract (v := .int _ _) rfl rfl rfl) rfl ?_
  refine w_p (y_assign (v := .int _ _) rfl rfl) rfl ?_
  refine w_p (y_assign (v := .int _ _) rfl rfl) rfl ?_
  refine w_p (y_assign (v := .int _ _) rfl rfl) rfl ?_
  refine w_nil ?_
  refine q_then (hK8 _ _ ?_)
  refine w_seq (fun K14 hK13 => ?_)
  refine w_region ?_
  refine w_p (y_move (v := .int _ _) rfl rfl) rfl ?_
  refine w_p (y_neq rfl rfl rfl rfl) rfl ?_
  refine w_nil ?_
  refine q_then (hK13 _ _ ?_)
  refine w_cond rfl rfl (fun h15 => ?_) (fun h15 => ?_)
  ·
   try simp only [zA, zB, zC, zD, zE, zF] at h15
   refine w_seq (fun K17 hK16 => ?_)
   refine w_region ?_
   refine w_p (y_move (v := .int _ _) rfl rfl) rfl ?_
   refine w_p (y_assign (v := _) rfl rfl) rfl ?_
   refine w_p (y_assign (v := .int _ _) rfl rfl) rfl ?_
   refine w_nil ?_
   refine q_then (hK16 _ _ ?_)
   refine w_ret ?_
   refine q_then_ret ?_
   refine q_ret (l := [.tmp 2, .tmp 3]) (vs := [_, _]) rfl ⟨⟨rfl, show _ = (.slice _ _ _ : Value) from rfl⟩, ⟨rfl, show _ = (.int _ _ : Value) from rfl⟩, trivial⟩ ?_
   exact ⟨[], none, 0, by rw [wrongP_e (by assumption)]; rfl, by rw [wrongP_e (by assumption)]; exact Sl.nil _ _, hs12.tail⟩
  ·
   try simp only [zA, zB, zC, zD, zE, zF] at h15
   refine w_skip ?_
   refine q_then (hK6 _ _ ?_)
   refine w_seq (fun K19 hK18 => ?_)
   have hck : (check b).2.2 = 0 := by assumption
   have hok := check_ok hck
   have h8 := many_8 hok
   have hmi : ((b.hours.length : Int) * (b.ctrs.length : Int)) = ((b.hours.length * b.ctrs.length : Nat) : Int) := by push_cast; rfl
   refine w_region ?_
   refine w_p (y_fieldAddr (o := 1) (i := 1) Try.underlying25 rfl Try.sizeOf22 rfl rfl rfl) rfl ?_
   refine w_p (y_load1 Try.isAgg22 hs12 rfl rfl (ats_own (i := 0) (vs := [_]) rfl rfl)) rfl ?_
   refine w_p (y_lenS Try.underlying22 rfl rfl) rfl ?_
   refine w_alloc (cs := [_]) want_none Try.zeroValue3 rfl hs12 (fun b20 w21 hs22 => ?_)
   refine w_store (i := 0) (v := .int _ _) (vs := [_]) want_none Try.sizeOf3 rfl rfl rfl rfl rfl (by simp [Value.oneCell']) hs22 rfl (Nat.le_of_ble_eq_true rfl) (fun w23 hs24 => ?_)
   refine w_nil ?_
   refine q_then (hK18 _ _ ?_)
   refine w_seq (fun K26 hK25 => ?_)
   refine w_region ?_
   refine w_p (y_load1 Try.isAgg3 hs24 rfl rfl (ats_own (i := 0) (vs := [_]) rfl rfl)) rfl ?_
   refine w_p (y_fieldAddr (o := 2) (i := 2) Try.underlying25 rfl Try.sizeOf23 rfl rfl rfl) rfl ?_
   refine w_p (y_load1 Try.isAgg23 hs24 rfl rfl (ats_own (i := 1) (vs := [_]) rfl rfl)) rfl ?_
   refine w_p (y_lenS Try.underlying23 rfl rfl) rfl ?_
   refine w_p (yd_cast (z' := ((b.hours.length * b.ctrs.length : Nat) : Int)) hmi (y_mul rfl rfl rfl rfl (by omega) (by omega))) rfl ?_
   refine w_p (y_makeFunc (fv := []) (cv := [_, _]) rfl rfl rfl rfl) rfl ?_
   refine w_call want_none Try.call78 rfl rfl rfl rfl (c78 (M := []) (F := (b20, blk 3 [.int .i64 (b.hours.length : Int)]) :: (b3, blk 25 (b.cells p)) :: F) (b.hours.length * b.ctrs.length) (many_8 hok) _ (wrongS b) (fun M => M = []) (fun s M X w hs1 hM hs => by subst hM; exact fcon_fn Try.call83 ((c83 b p hm.cons.cons.app hck s (by have := (shl_256 (many_8 hok)).2; omega) _ _ (Ats.app (ats_own (i := 1) (vs := b.cells p) rfl rfl)) (Ats.app (ats_own (i := 0) (vs := [_]) rfl rfl)) hs).mono fun v w h => ⟨h.1, [], rfl, h.2⟩)) rfl hs24) ?_
   rintro _ w28 ⟨B, M2, a2, c2, rfl, hslB, rfl, hs29⟩
   refine w_p (y_assign (v := .slice _ _ _) rfl rfl) rfl ?_
   refine w_p (y_assign (v := _) rfl rfl) rfl ?_
   refine w_nil ?_
   refine q_then (hK25 _ _ ?_)
   refine w_ret ?_
   refine q_ret (l := [.tmp 2, .tmp 3]) (vs := [_, _]) rfl ⟨⟨rfl, show _ = (.slice _ _ _ : Value) from rfl⟩, ⟨rfl, show _ = (.int _ _ : Value) from rfl⟩, trivial⟩ ?_
   exact ⟨B, a2, c2, by rw [wrongP_y hck]; rfl, by rw [wrongP_y hck]; exact hslB, keep_front (M := []) (P := [_, _]) hs29⟩

end Go.Proofs
/- Plain words of the chain layer: the document's example. No conditions. -/
set_option linter.unusedSimpArgs false
set_option linter.unusedVariables false
namespace Go.Rt.Ch
open Go.Rt.Ha
def nShip : ByteArray := ⟨#[115, 104, 105, 112]⟩
def nShore : ByteArray := ⟨#[115, 104, 111, 114, 101]⟩
def exB (n : Int) : Board := ⟨2, [⟨0, 10, 13⟩, ⟨0, 8, 11⟩, ⟨1, 10, 12⟩], [⟨nShip, 1, 0, 90, [0, 0, 0], [1, -1, 22]⟩, ⟨nShore, 0, 2, 0, [0, 2, 0], [13, 10, n]⟩]⟩
theorem ex_went1 : wentP (exB 21) 0 = ((11, 12), 0) := by decide +kernel
theorem ex_hold1 : holdP (exB 21) 0 = ((21, 22), 0) := by decide +kernel
theorem ex_right1 : rightP (exB 21) 0 = (0, 0) := by decide +kernel
theorem ex_right2 : rightP (exB 21) 1 = (2, 0) := by decide +kernel
theorem ex_zero1 : zeroP (exB 21) 1 1 = (1, 0) := by decide +kernel
theorem ex_looks1 : looksP (exB 21) 0 0 = ([0], 0) := by decide +kernel
theorem ex_looks2 : looksP (exB 21) 0 1 = ([], 0) := by decide +kernel
theorem ex_wrong1 : wrongP (exB 30) = ([5], 0) := by decide +kernel
theorem ex_went2 : wentP (exB 30) 0 = ((0, 0), 8) := by decide +kernel
theorem ex_looks3 : looksP (exB 21) 0 (-1) = ([], 7) := by decide +kernel
end Go.Rt.Ch
/- Walks of this seat, printed by gen.py over the engine: what each function returns, in whatever world. No conditions but those of each contract. -/
set_option linter.unusedVariables false
set_option linter.unusedSimpArgs false
set_option maxRecDepth 20000
namespace Go.Proofs
open Go.Rt Go.Rt.Ch
open Go.Rt.Ha (firstE firstE_step firstE_stop firstE_end failE nameE felt spanL upto span_mem listL fewest fewTo bit before fewStep drop_lt drop_get drop_next drop_done drop_notin set_take set_zero take_less)
attribute [local irreducible] WL WC Con Yd At Ats Sl Agree DW
theorem Try_Ya_fb7 (x0 : Int) (x1 : Int) (w : World) : (Instr.build 31 [(0, .int .i64 x0), (1, .int .i64 x1)].toArray).run Try.prog w = .ok (.agg #[.int .i64 x0, .int .i64 x1]) w := by kernel_rfl
theorem Try_Ya_fb8 (x0 : Int) (x1 : Int) (w : World) : (Instr.build 70 [(1, .agg #[.int .i64 x0, .int .i64 x1])].toArray).run Try.prog w = .ok (.agg #[.int .i64 0, .int .i64 x0, .int .i64 x1]) w := by kernel_rfl
theorem Try_Ya_fb9 (x0 : Int) (x1 : Int) (x2 : Int) (w : World) : (Instr.build 70 [(0, .int .i64 x0), (1, .agg #[.int .i64 x1, .int .i64 x2])].toArray).run Try.prog w = .ok (.agg #[.int .i64 x0, .int .i64 x1, .int .i64 x2]) w := by kernel_rfl
theorem Try_Ya_fb10 (x0 : Int) (x1 : Int) (x2 : Int) (x3 : Int) (x4 : Int) (x5 : Int) (x6 : Int) (x7 : Int) (x8 : Int) (w : World) : (Instr.buildSlice 22 3 [(0, .agg #[.int .i64 x0, .int .i64 x1, .int .i64 x2]), (1, .agg #[.int .i64 x3, .int .i64 x4, .int .i64 x5]), (2, .agg #[.int .i64 x6, .int .i64 x7, .int .i64 x8])].toArray).run Try.prog w = .ok (.slice (some ⟨w.heap.size, 0, none⟩) 3 3) (w.alloc (Go.Rt.blk 70 [.int .i64 x0, .int .i64 x1, .int .i64 x2, .int .i64 x3, .int .i64 x4, .int .i64 x5, .int .i64 x6, .int .i64 x7, .int .i64 x8])) := by kernel_rfl
theorem Try_Ya_fb11 (x0 : Int) (x1 : Int) (x2 : Int) (w : World) : (Instr.buildSlice 39 3 [(0, .int .i64 x0), (1, .int .i64 x1), (2, .int .i64 x2)].toArray).run Try.prog w = .ok (.slice (some ⟨w.heap.size, 0, none⟩) 3 3) (w.alloc (Go.Rt.blk 3 [.int .i64 x0, .int .i64 x1, .int .i64 x2])) := by kernel_rfl
theorem Try_Ya_fb12 (x0 : ByteArray) (x1 : Int) (x2 : Int) (x3 : Option Addr) (l3 c3 : Nat) (x4 : Option Addr) (l4 c4 : Nat) (w : World) : (Instr.build 76 [(0, .string x0), (1, .int .i64 x1), (3, .int .i64 x2), (4, .slice x3 l3 c3), (5, .slice x4 l4 c4)].toArray).run Try.prog w = .ok (.agg #[.string x0, .int .i64 x1, .int .i64 0, .int .i64 x2, .slice x3 l3 c3, .slice x4 l4 c4]) w := by kernel_rfl
theorem Try_Ya_fb13 (x0 : ByteArray) (x1 : Int) (x2 : Option Addr) (l2 c2 : Nat) (x3 : Option Addr) (l3 c3 : Nat) (w : World) : (Instr.build 76 [(0, .string x0), (2, .int .i64 x1), (4, .slice x2 l2 c2), (5, .slice x3 l3 c3)].toArray).run Try.prog w = .ok (.agg #[.string x0, .int .i64 0, .int .i64 x1, .int .i64 0, .slice x2 l2 c2, .slice x3 l3 c3]) w := by kernel_rfl
theorem Try_Ya_fb14 (x0 : ByteArray) (x1 : Int) (x2 : Int) (x3 : Int) (x4 : Option Addr) (l4 c4 : Nat) (x5 : Option Addr) (l5 c5 : Nat) (x6 : ByteArray) (x7 : Int) (x8 : Int) (x9 : Int) (x10 : Option Addr) (l10 c10 : Nat) (x11 : Option Addr) (l11 c11 : Nat) (w : World) : (Instr.buildSlice 23 2 [(0, .agg #[.string x0, .int .i64 x1, .int .i64 x2, .int .i64 x3, .slice x4 l4 c4, .slice x5 l5 c5]), (1, .agg #[.string x6, .int .i64 x7, .int .i64 x8, .int .i64 x9, .slice x10 l10 c10, .slice x11 l11 c11])].toArray).run Try.prog w = .ok (.slice (some ⟨w.heap.size, 0, none⟩) 2 2) (w.alloc (Go.Rt.blk 76 [.string x0, .int .i64 x1, .int .i64 x2, .int .i64 x3, .slice x4 l4 c4, .slice x5 l5 c5, .string x6, .int .i64 x7, .int .i64 x8, .int .i64 x9, .slice x10 l10 c10, .slice x11 l11 c11])) := by kernel_rfl
theorem Try_Ya_fb15 (x0 : Int) (x1 : Option Addr) (l1 c1 : Nat) (x2 : Option Addr) (l2 c2 : Nat) (w : World) : (Instr.build 25 [(0, .int .i64 x0), (1, .slice x1 l1 c1), (2, .slice x2 l2 c2)].toArray).run Try.prog w = .ok (.agg #[.int .i64 x0, .slice x1 l1 c1, .slice x2 l2 c2]) w := by kernel_rfl
theorem Try_flat31 : flatInts Try.prog 31 2 = true := by kernel_rfl
theorem Try_Ya_fb17 (x0 : Int) (w : World) : (Instr.buildSlice 39 1 [(0, .int .i64 x0)].toArray).run Try.prog w = .ok (.slice (some ⟨w.heap.size, 0, none⟩) 1 1) (w.alloc (Go.Rt.blk 3 [.int .i64 x0])) := by kernel_rfl
theorem ats_ofL {w0 w : World} {L : List (Nat × Obj)} {i b : Nat} {t : TypeId} {cs vs : List Value} (hs : St w0 w L) (hi : L[i]? = some (b, blk t cs)) (h : (cs.drop 0).take vs.length = vs) : Ats w0 L b 0 vs := ats_own hi h
theorem gen_Z {w0 w : World} {L : List (Nat × Obj)} (hs : St w0 w L) : ∃ Z, Z = L ∧ St w0 w Z := ⟨L, rfl, hs⟩
theorem con_true {k : FuncId} {args : List Value} {w : World} {x : Bool} {S : World → Prop} (h : Con Try.prog k args w fun v w' => v = .bool x ∧ S w') (hx : x = true) : Con Try.prog k args w fun v w' => v = .bool true ∧ S w' := by subst hx; exact h
theorem con_false {k : FuncId} {args : List Value} {w : World} {x : Bool} {S : World → Prop} (h : Con Try.prog k args w fun v w' => v = .bool x ∧ S w') (hx : x = false) : Con Try.prog k args w fun v w' => v = .bool false ∧ S w' := by subst hx; exact h
theorem kz_own {w0 w : World} {B F : List (Nat × Obj)} {a : Nat × Obj} (h : St w0 w (B ++ (a :: F))) : St w0 w (B ++ F) := (h.perm (perm_mid B [a] F)).tail
def exP (bh bc z1 s1 z2 s2 : Nat) : AtB := ⟨some ⟨bh, 0, none⟩, 3, some ⟨bc, 0, none⟩, 2, fun i => if i = 0 then ⟨some ⟨z1, 0, none⟩, 3, some ⟨s1, 0, none⟩, 3⟩ else ⟨some ⟨z2, 0, none⟩, 3, some ⟨s2, 0, none⟩, 3⟩⟩
theorem ex_bin {w0 : World} {n : Int} {bh bc z1 s1 z2 s2 : Nat} :
    BIn w0 [(bc, blk 76 (krows (exB n).ctrs (exP bh bc z1 s1 z2 s2).pc).flatten), (s2, blk 3 (iv [13, 10, n])), (z2, blk 3 (iv [0, 2, 0])), (s1, blk 3 (iv [1, -1, 22])), (z1, blk 3 (iv [0, 0, 0])), (bh, blk 70 (hrows (exB n).hours).flatten)] (exB n) (exP bh bc z1 s1 z2 s2) where
  h := sl_own (i := 5) rfl (by intro row h; obtain ⟨q, _, rfl⟩ := List.mem_map.1 h; rfl) rfl
  c := sl_own (i := 0) rfl (krows_row _ _) rfl
  z := fun i hi => by
    match i, hi with
    | 0, _ => exact sl_own (i := 4) rfl (by intro row h; obtain ⟨q, _, rfl⟩ := List.mem_map.1 h; rfl) rfl
    | 1, _ => exact sl_own (i := 2) rfl (by intro row h; obtain ⟨q, _, rfl⟩ := List.mem_map.1 h; rfl) rfl
    | i + 2, hi => exact absurd hi (by simp [exB])
  s := fun i hi => by
    match i, hi with
    | 0, _ => exact sl_own (i := 3) rfl (by intro row h; obtain ⟨q, _, rfl⟩ := List.mem_map.1 h; rfl) rfl
    | 1, _ => exact sl_own (i := 1) rfl (by intro row h; obtain ⟨q, _, rfl⟩ := List.mem_map.1 h; rfl) rfl
    | i + 2, hi => exact absurd hi (by simp [exB])
  lh := by simp [exB]
  lc := by simp [exB]
  ch := by simp [exB, exP]
  cc := by simp [exB, exP]
  lz := fun i hi => by
    match i, hi with
    | 0, _ => exact ⟨by simp [exB], by simp [exB, exP]⟩
    | 1, _ => exact ⟨by simp [exB], by simp [exB, exP]⟩
    | i + 2, hi => exact absurd hi (by simp [exB])
  ls := fun i hi => by
    match i, hi with
    | 0, _ => exact ⟨by simp [exB], by simp [exB, exP]⟩
    | 1, _ => exact ⟨by simp [exB], by simp [exB, exP]⟩
    | i + 2, hi => exact absurd hi (by simp [exB])
  nm := by intro q hq; simp only [exB, List.mem_cons, List.not_mem_nil, or_false] at hq; rcases hq with rfl | rfl <;> (dsimp only; decide)
theorem c33 {w0 w : World} {F : List (Nat × Obj)} (x y : Int) (hs : St w0 w F) :
  Con Try.prog 33 [.int .i64 x, .int .i64 y] w fun v w' => v = .agg #[.int .i64 x, .int .i64 y] ∧ St w0 w' F := by
  refine con_of_wc (n := 8) Try.func33 rfl rfl (Nat.le_of_ble_eq_true rfl) ?_
  refine w_seq (fun K2 hK1 => ?_)
  refine w_region ?_
  refine w_alloc (cs := [_, _]) want_none Try.zeroValue31 rfl hs (fun b3 w4 hs5 => ?_)
  refine w_nil ?_
  refine q_then (hK1 _ _ ?_)
  refine w_seq (fun K7 hK6 => ?_)
  refine w_region ?_
  refine w_p (y_move (v := .int _ _) rfl rfl) rfl ?_
  refine w_p (y_move (v := .int _ _) rfl rfl) rfl ?_
  refine w_p (y_build (ps := [(0, _), (1, _)]) (pv := [(0, .int _ _), (1, .int _ _)]) rfl rfl (fun w => Try_Ya_fb7 _ _ w)) rfl ?_
  refine w_store (i := 0) (v := .agg #[.int _ _, .int _ _]) (vs := [_, _]) want_none Try.sizeOf31 rfl rfl rfl rfl rfl (by simp [Value.oneCell']) hs5 rfl (Nat.le_of_ble_eq_true rfl) (fun w8 hs9 => ?_)
  refine w_nil ?_
  refine q_then (hK6 _ _ ?_)
  refine w_ret ?_
  refine q_ret (l := [.cell 4 31]) (vs := [_]) rfl ⟨⟨rfl, _, rfl, run_loadVarN (vs := [_, _]) Try.isAgg31 Try.sizeOf31 hs9 (ats_own (i := 0) (vs := [_, _]) rfl rfl)⟩, trivial⟩ ?_
  exact ⟨rfl, hs9.tail⟩

theorem c32 {w0 w : World} {F : List (Nat × Obj)} (n : Int) (hs : St w0 w F) :
  Con Try.prog 32 [.int .i64 n] w fun v w' => ∃ p B, v = .agg ((exB n).cells p).toArray ∧ BIn w0 B (exB n) p ∧ St w0 w' (B ++ F) := by
  refine con_of_wc (n := 19) Try.func32 rfl rfl (Nat.le_of_ble_eq_true rfl) ?_
  refine w_seq (fun K2 hK1 => ?_)
  refine w_region ?_
  refine w_alloc (cs := [_, _, _]) want_none Try.zeroValue25 rfl hs (fun b3 w4 hs5 => ?_)
  refine w_nil ?_
  refine q_then (hK1 _ _ ?_)
  refine w_seq (fun K7 hK6 => ?_)
  refine w_region ?_
  refine w_call want_none Try.call33 rfl rfl rfl rfl (c33 _ _ hs5) ?_
  rintro _ w9 ⟨rfl, hs10⟩
  refine w_p (y_build (ps := [(1, _)]) (pv := [(1, .agg #[.int _ _, .int _ _])]) rfl rfl (fun w => Try_Ya_fb8 _ _ w)) rfl ?_
  refine w_call want_none Try.call33 rfl rfl rfl rfl (c33 _ _ hs10) ?_
  rintro _ w12 ⟨rfl, hs13⟩
  refine w_p (y_build (ps := [(1, _)]) (pv := [(1, .agg #[.int _ _, .int _ _])]) rfl rfl (fun w => Try_Ya_fb8 _ _ w)) rfl ?_
  refine w_call want_none Try.call33 rfl rfl rfl rfl (c33 _ _ hs13) ?_
  rintro _ w15 ⟨rfl, hs16⟩
  refine w_p (y_build (ps := [(0, _), (1, _)]) (pv := [(0, .int _ _), (1, .agg #[.int _ _, .int _ _])]) rfl rfl (fun w => Try_Ya_fb9 _ _ _ w)) rfl ?_
  refine w_bslice (ps := [(0, _), (1, _), (2, _)]) (pv := [(0, .agg #[.int _ _, .int _ _, .int _ _]), (1, .agg #[.int _ _, .int _ _, .int _ _]), (2, .agg #[.int _ _, .int _ _, .int _ _])]) (cs := [_, _, _, _, _, _, _, _, _]) want_none rfl rfl (fun w => Try_Ya_fb10 _ _ _ _ _ _ _ _ _ w) hs16 (fun b17 w18 hs19 => ?_)
  refine w_bslice (ps := [(0, _), (1, _), (2, _)]) (pv := [(0, .int _ _), (1, .int _ _), (2, .int _ _)]) (cs := [_, _, _]) want_none rfl rfl (fun w => Try_Ya_fb11 _ _ _ w) hs19 (fun b20 w21 hs22 => ?_)
  refine w_bslice (ps := [(0, _), (1, _), (2, _)]) (pv := [(0, .int _ _), (1, .int _ _), (2, .int _ _)]) (cs := [_, _, _]) want_none rfl rfl (fun w => Try_Ya_fb11 _ _ _ w) hs22 (fun b23 w24 hs25 => ?_)
  refine w_p (y_build (ps := [(0, _), (1, _), (3, _), (4, _), (5, _)]) (pv := [(0, .string _), (1, .int _ _), (3, .int _ _), (4, .slice _ _ _), (5, .slice _ _ _)]) rfl rfl (fun w => Try_Ya_fb12 _ _ _ _ _ _ _ _ _ w)) rfl ?_
  refine w_bslice (ps := [(0, _), (1, _), (2, _)]) (pv := [(0, .int _ _), (1, .int _ _), (2, .int _ _)]) (cs := [_, _, _]) want_none rfl rfl (fun w => Try_Ya_fb11 _ _ _ w) hs25 (fun b26 w27 hs28 => ?_)
  refine w_p (y_move (v := .int _ _) rfl rfl) rfl ?_
  refine w_bslice (ps := [(0, _), (1, _), (2, _)]) (pv := [(0, .int _ _), (1, .int _ _), (2, .int _ _)]) (cs := [_, _, _]) want_none rfl rfl (fun w => Try_Ya_fb11 _ _ _ w) hs28 (fun b29 w30 hs31 => ?_)
  refine w_p (y_build (ps := [(0, _), (2, _), (4, _), (5, _)]) (pv := [(0, .string _), (2, .int _ _), (4, .slice _ _ _), (5, .slice _ _ _)]) rfl rfl (fun w => Try_Ya_fb13 _ _ _ _ _ _ _ _ w)) rfl ?_
  refine w_bslice (ps := [(0, _), (1, _)]) (pv := [(0, .agg #[.string _, .int _ _, .int _ _, .int _ _, .slice _ _ _, .slice _ _ _]), (1, .agg #[.string _, .int _ _, .int _ _, .int _ _, .slice _ _ _, .slice _ _ _])]) (cs := [_, _, _, _, _, _, _, _, _, _, _, _]) want_none rfl rfl (fun w => Try_Ya_fb14 _ _ _ _ _ _ _ _ _ _ _ _ _ _ _ _ _ _ _ _ w) hs31 (fun b32 w33 hs34 => ?_)
  refine w_p (y_build (ps := [(0, _), (1, _), (2, _)]) (pv := [(0, .int _ _), (1, .slice _ _ _), (2, .slice _ _ _)]) rfl rfl (fun w => Try_Ya_fb15 _ _ _ _ _ _ _ w)) rfl ?_
  refine w_store (i := 6) (v := .agg #[.int _ _, .slice _ _ _, .slice _ _ _]) (vs := [_, _, _]) want_none Try.sizeOf25 rfl rfl rfl rfl rfl (by simp [Value.oneCell']) hs34 rfl (Nat.le_of_ble_eq_true rfl) (fun w35 hs36 => ?_)
  refine w_nil ?_
  refine q_then (hK6 _ _ ?_)
  refine w_ret ?_
  refine q_ret (l := [.cell 2 25]) (vs := [_]) rfl ⟨⟨rfl, _, rfl, run_loadVarN (vs := [_, _, _]) Try.isAgg25 Try.sizeOf25 hs36 (ats_own (i := 6) (vs := [_, _, _]) rfl rfl)⟩, trivial⟩ ?_
  exact ⟨exP b17 b32 b20 b23 b26 b29, [_, _, _, _, _, _], rfl, ex_bin, kz_own (B := [_, _, _, _, _, _]) hs36⟩

theorem c22 {w0 w : World} {F : List (Nat × Obj)}  (hs : St w0 w F) :
  Con Try.prog 22 [] w fun v w' => v = .bool true ∧ St w0 w' F := by
  refine con_of_wc (n := 150) Try.func22 rfl rfl (Nat.le_of_ble_eq_true rfl) ?_
  refine w_seq (fun K2 hK1 => ?_)
  refine w_region ?_
  refine w_p (y_assign (v := _) rfl rfl) rfl ?_
  refine w_nil ?_
  refine q_then (hK1 _ _ ?_)
  refine w_seq (fun K4 hK3 => ?_)
  refine w_region ?_
  refine w_call want_none Try.call32 rfl rfl rfl rfl (c32 21 hs) ?_
  rintro _ w6 ⟨p1, L1, rfl, hq1, hs7⟩
  replace hs7 := (show St _ _ (L1 ++ (F)) from hs7)
  refine w_call want_none Try.call32 rfl rfl rfl rfl (c32 30 hs7) ?_
  rintro _ w9 ⟨p2, L2, rfl, hq2, hs10⟩
  replace hs10 := (show St _ _ (L2 ++ (L1 ++ (F))) from hs10)
  refine w_alloc (cs := [_, _, _]) want_none Try.zeroValue25 rfl hs10 (fun b11 w12 hs13 => ?_)
  refine w_alloc (cs := [_, _, _]) want_none Try.zeroValue25 rfl hs13 (fun b14 w15 hs16 => ?_)
  refine w_store (i := 1) (v := .agg #[.int _ _, .slice _ _ _, .slice _ _ _]) (vs := [_, _, _]) want_none Try.sizeOf25 rfl rfl rfl rfl rfl (by simp [Value.oneCell']) hs16 rfl (Nat.le_of_ble_eq_true rfl) (fun w17 hs18 => ?_)
  refine w_store (i := 0) (v := .agg #[.int _ _, .slice _ _ _, .slice _ _ _]) (vs := [_, _, _]) want_none Try.sizeOf25 rfl rfl rfl rfl rfl (by simp [Value.oneCell']) hs18 rfl (Nat.le_of_ble_eq_true rfl) (fun w19 hs20 => ?_)
  refine w_nil ?_
  refine q_then (hK3 _ _ ?_)
  refine w_seq (fun K22 hK21 => ?_)
  obtain ⟨Z, hZ, hsZ⟩ := gen_Z hs20
  have hP1 : Ats w0 Z b11 0 ((exB 21).cells p1) := by rw [hZ]; exact ats_own (i := 1) (vs := (exB 21).cells p1) rfl rfl
  have hM1 : BIn w0 Z (exB 21) p1 := by rw [hZ]; exact BIn.mono hq1 (fun w h => h.tail.tail.drop.front)
  have hP2 : Ats w0 Z b14 0 ((exB 30).cells p2) := by rw [hZ]; exact ats_own (i := 0) (vs := (exB 30).cells p2) rfl rfl
  have hM2 : BIn w0 Z (exB 30) p2 := by rw [hZ]; exact BIn.mono hq2 (fun w h => h.tail.tail.front)
  refine w_region ?_
  refine w_p (y_loadN (vs := [_, _, _]) Try.isAgg25 Try.sizeOf25 hsZ rfl rfl hP1) rfl ?_
  refine w_call want_none Try.call18 rfl rfl rfl rfl ((c18 (exB 21) p1 hM1 0 hsZ).mono (fun v w' h => by rw [ex_went1] at h; exact h)) ?_
  rintro _ w24 ⟨rfl, hs25⟩
  refine w_p (y_move (v := .tuple _) rfl rfl) rfl ?_
  refine w_p (y_extract (v := .agg _) rfl rfl rfl) rfl ?_
  refine w_p (y_extract (v := .int _ _) rfl rfl rfl) rfl ?_
  refine w_alloc (cs := [_, _]) want_none Try.zeroValue31 rfl hs25 (fun b26 w27 hs28 => ?_)
  refine w_store (i := 0) (v := .agg #[.int _ _, .int _ _]) (vs := [_, _]) want_none Try.sizeOf31 rfl rfl rfl rfl rfl (by simp [Value.oneCell']) hs28 rfl (Nat.le_of_ble_eq_true rfl) (fun w29 hs30 => ?_)
  refine w_p (y_assign (v := .int _ _) rfl rfl) rfl ?_
  refine w_nil ?_
  refine q_then (hK21 _ _ ?_)
  refine w_seq (fun K32 hK31 => ?_)
  have hx3 := ats_ofL (i := 0) (vs := [_, _]) hs30 rfl rfl
  refine w_region ?_
  refine w_p (y_loadN (vs := [_, _, _]) Try.isAgg25 Try.sizeOf25 hs30.tail rfl rfl hP1) rfl ?_
  refine w_call want_none Try.call20 rfl rfl rfl rfl ((c20 (exB 21) p1 hM1.cons 0 hs30).mono (fun v w' h => by rw [ex_hold1] at h; exact h)) ?_
  rintro _ w34 ⟨rfl, hs35⟩
  refine w_p (y_move (v := .tuple _) rfl rfl) rfl ?_
  refine w_p (y_extract (v := .agg _) rfl rfl rfl) rfl ?_
  refine w_p (y_extract (v := .int _ _) rfl rfl rfl) rfl ?_
  refine w_alloc (cs := [_, _]) want_none Try.zeroValue31 rfl hs35 (fun b36 w37 hs38 => ?_)
  refine w_store (i := 0) (v := .agg #[.int _ _, .int _ _]) (vs := [_, _]) want_none Try.sizeOf31 rfl rfl rfl rfl rfl (by simp [Value.oneCell']) hs38 rfl (Nat.le_of_ble_eq_true rfl) (fun w39 hs40 => ?_)
  refine w_p (y_assign (v := .int _ _) rfl rfl) rfl ?_
  refine w_nil ?_
  refine q_then (hK31 _ _ ?_)
  refine w_seq (fun K42 hK41 => ?_)
  have hx5 := ats_ofL (i := 0) (vs := [_, _]) hs40 rfl rfl
  refine w_region ?_
  refine w_p (y_loadN (vs := [_, _, _]) Try.isAgg25 Try.sizeOf25 hs40.tail.tail rfl rfl hP1) rfl ?_
  refine w_call want_none Try.call23 rfl rfl rfl rfl ((c23 (exB 21) p1 hM1.cons.cons 0 hs40).mono (fun v w' h => by rw [ex_right1] at h; exact h)) ?_
  rintro _ w44 ⟨rfl, hs45⟩
  refine w_p (y_move (v := .tuple _) rfl rfl) rfl ?_
  refine w_p (y_extract (v := .int _ _) rfl rfl rfl) rfl ?_
  refine w_p (y_extract (v := .int _ _) rfl rfl rfl) rfl ?_
  refine w_p (y_assign (v := .int _ _) rfl rfl) rfl ?_
  refine w_p (y_assign (v := .int _ _) rfl rfl) rfl ?_
  refine w_nil ?_
  refine q_then (hK41 _ _ ?_)
  refine w_seq (fun K47 hK46 => ?_)
  refine w_region ?_
  refine w_p (y_loadN (vs := [_, _, _]) Try.isAgg25 Try.sizeOf25 hs45.tail.tail rfl rfl hP1) rfl ?_
  refine w_call want_none Try.call23 rfl rfl rfl rfl ((c23 (exB 21) p1 hM1.cons.cons 1 hs45).mono (fun v w' h => by rw [ex_right2] at h; exact h)) ?_
  rintro _ w49 ⟨rfl, hs50⟩
  refine w_p (y_move (v := .tuple _) rfl rfl) rfl ?_
  refine w_p (y_extract (v := .int _ _) rfl rfl rfl) rfl ?_
  refine w_p (y_extract (v := .int _ _) rfl rfl rfl) rfl ?_
  refine w_p (y_assign (v := .int _ _) rfl rfl) rfl ?_
  refine w_p (y_assign (v := .int _ _) rfl rfl) rfl ?_
  refine w_nil ?_
  refine q_then (hK46 _ _ ?_)
  refine w_seq (fun K52 hK51 => ?_)
  refine w_region ?_
  refine w_p (y_loadN (vs := [_, _, _]) Try.isAgg25 Try.sizeOf25 hs50.tail.tail rfl rfl hP1) rfl ?_
  refine w_call want_none Try.call25 rfl rfl rfl rfl ((c25 (exB 21) p1 hM1.cons.cons 1 1 hs50).mono (fun v w' h => by rw [ex_zero1] at h; exact h)) ?_
  rintro _ w54 ⟨rfl, hs55⟩
  refine w_p (y_move (v := .tuple _) rfl rfl) rfl ?_
  refine w_p (y_extract (v := .int _ _) rfl rfl rfl) rfl ?_
  refine w_p (y_extract (v := .int _ _) rfl rfl rfl) rfl ?_
  refine w_p (y_assign (v := .int _ _) rfl rfl) rfl ?_
  refine w_p (y_assign (v := .int _ _) rfl rfl) rfl ?_
  refine w_nil ?_
  refine q_then (hK51 _ _ ?_)
  refine w_seq (fun K57 hK56 => ?_)
  refine w_region ?_
  refine w_p (y_loadN (vs := [_, _, _]) Try.isAgg25 Try.sizeOf25 hs55.tail.tail rfl rfl hP1) rfl ?_
  refine w_call want_none Try.call27 rfl rfl rfl rfl ((c27 (exB 21) p1 hM1.cons.cons 0 0 hs55).mono (fun v w' h => by rw [ex_looks1] at h; exact h)) ?_
  rintro _ w59 ⟨B1, a1, c1, rfl, hr1, hs60⟩
  replace hs60 := (show St _ _ (B1 ++ (_ :: _ :: Z)) from hs60)
  refine w_p (y_move (v := .tuple _) rfl rfl) rfl ?_
  refine w_p (y_extract (v := .slice _ _ _) rfl rfl rfl) rfl ?_
  refine w_p (y_extract (v := .int _ _) rfl rfl rfl) rfl ?_
  refine w_p (y_assign (v := .slice _ _ _) rfl rfl) rfl ?_
  refine w_p (y_assign (v := .int _ _) rfl rfl) rfl ?_
  refine w_nil ?_
  refine q_then (hK56 _ _ ?_)
  refine w_seq (fun K62 hK61 => ?_)
  refine w_region ?_
  refine w_p (y_loadN (vs := [_, _, _]) Try.isAgg25 Try.sizeOf25 hs60.drop.tail.tail rfl rfl hP1) rfl ?_
  refine w_call want_none Try.call27 rfl rfl rfl rfl ((c27 (exB 21) p1 hM1.cons.cons.app 0 1 hs60).mono (fun v w' h => by rw [ex_looks2] at h; exact h)) ?_
  rintro _ w64 ⟨B2, a2, c2, rfl, hr2, hs65⟩
  replace hs65 := (show St _ _ (B2 ++ (B1 ++ (_ :: _ :: Z))) from hs65)
  refine w_p (y_move (v := .tuple _) rfl rfl) rfl ?_
  refine w_p (y_extract (v := .slice _ _ _) rfl rfl rfl) rfl ?_
  refine w_p (y_extract (v := .int _ _) rfl rfl rfl) rfl ?_
  refine w_p (y_assign (v := .slice _ _ _) rfl rfl) rfl ?_
  refine w_p (y_assign (v := .int _ _) rfl rfl) rfl ?_
  refine w_nil ?_
  refine q_then (hK61 _ _ ?_)
  refine w_seq (fun K67 hK66 => ?_)
  refine w_region ?_
  refine w_p (y_loadN (vs := [_, _, _]) Try.isAgg25 Try.sizeOf25 hs65.drop.drop.tail.tail rfl rfl hP2) rfl ?_
  refine w_call want_none Try.call30 rfl rfl rfl rfl ((c30 (exB 30) p2 hM2.cons.cons.app.app hs65).mono (fun v w' h => by rw [ex_wrong1] at h; exact h)) ?_
  rintro _ w69 ⟨B3, a3, c3, rfl, hr3, hs70⟩
  replace hs70 := (show St _ _ (B3 ++ (B2 ++ (B1 ++ (_ :: _ :: Z)))) from hs70)
  refine w_p (y_move (v := .tuple _) rfl rfl) rfl ?_
  refine w_p (y_extract (v := .slice _ _ _) rfl rfl rfl) rfl ?_
  refine w_p (y_extract (v := .int _ _) rfl rfl rfl) rfl ?_
  refine w_p (y_assign (v := .slice _ _ _) rfl rfl) rfl ?_
  refine w_p (y_assign (v := .int _ _) rfl rfl) rfl ?_
  refine w_nil ?_
  refine q_then (hK66 _ _ ?_)
  refine w_seq (fun K72 hK71 => ?_)
  refine w_region ?_
  refine w_p (y_loadN (vs := [_, _, _]) Try.isAgg25 Try.sizeOf25 hs70.drop.drop.drop.tail.tail rfl rfl hP2) rfl ?_
  refine w_call want_none Try.call18 rfl rfl rfl rfl ((c18 (exB 30) p2 hM2.cons.cons.app.app.app 0 hs70).mono (fun v w' h => by rw [ex_went2] at h; exact h)) ?_
  rintro _ w74 ⟨rfl, hs75⟩
  refine w_p (y_move (v := .tuple _) rfl rfl) rfl ?_
  refine w_p (y_extract (v := .agg _) rfl rfl rfl) rfl ?_
  refine w_p (y_extract (v := .int _ _) rfl rfl rfl) rfl ?_
  refine w_alloc (cs := [_, _]) want_none Try.zeroValue31 rfl hs75 (fun b76 w77 hs78 => ?_)
  refine w_store (i := 0) (v := .agg #[.int _ _, .int _ _]) (vs := [_, _]) want_none Try.sizeOf31 rfl rfl rfl rfl rfl (by simp [Value.oneCell']) hs78 rfl (Nat.le_of_ble_eq_true rfl) (fun w79 hs80 => ?_)
  refine w_p (y_assign (v := .int _ _) rfl rfl) rfl ?_
  refine w_nil ?_
  refine q_then (hK71 _ _ ?_)
  refine w_seq (fun K82 hK81 => ?_)
  refine w_region ?_
  refine w_p (y_loadN (vs := [_, _, _]) Try.isAgg25 Try.sizeOf25 hs80.tail.drop.drop.drop.tail.tail rfl rfl hP1) rfl ?_
  refine w_call want_none Try.call27 rfl rfl rfl rfl ((c27 (exB 21) p1 hM1.cons.cons.app.app.app.cons 0 (-1) hs80).mono (fun v w' h => by rw [ex_looks3] at h; exact h)) ?_
  rintro _ w84 ⟨B4, a4, c4, rfl, hr4, hs85⟩
  replace hs85 := (show St _ _ (B4 ++ (_ :: B3 ++ (B2 ++ (B1 ++ (_ :: _ :: Z))))) from hs85)
  refine w_p (y_move (v := .tuple _) rfl rfl) rfl ?_
  refine w_p (y_extract (v := .slice _ _ _) rfl rfl rfl) rfl ?_
  refine w_p (y_extract (v := .int _ _) rfl rfl rfl) rfl ?_
  refine w_p (y_assign (v := .slice _ _ _) rfl rfl) rfl ?_
  refine w_p (y_assign (v := .int _ _) rfl rfl) rfl ?_
  refine w_nil ?_
  refine q_then (hK81 _ _ ?_)
  refine w_seq (fun K87 hK86 => ?_)
  refine w_draw [] [(0, 0), (1, 0), (2, 0), (3, 0), (4, 0), (5, 0), (6, 0), (7, 0), (8, 0), (9, 0), (10, 0), (11, 0), (12, 0), (13, 0), (14, 0), (15, 0), (16, 0), (17, 0), (18, 0), (19, 0), (20, 0), (21, 0), (22, 0), (23, 0), (24, 0), (25, 0), (26, 0), (27, 0), (28, 0), (29, 0), (30, 0), (31, 0), (32, 0), (33, 0), (34, 0), (35, 0), (36, 0), (37, 0), (38, 0), (39, 1), (40, 2), (41, 0), (42, 0), (43, 0), (44, 1), (45, 2), (46, 0), (47, 0), (48, 0), (49, 0), (50, 0), (51, 0), (52, 0), (53, 0), (54, 0), (55, 0), (56, 0), (57, 0), (58, 0), (59, 0), (60, 0), (61, 0), (62, 2), (63, 2), (64, 0), (65, 0), (66, 0), (67, 0), (68, 0), (69, 0), (70, 0), (71, 0), (72, 2), (73, 2), (74, 0), (75, 0)] Try_mo (drawOK_of (by kernel_rfl)) hs85 (fun w88 hs89 => ?_)
  refine d_any rfl want_none rfl (fun _ => (y_move (v := .int _ _) rfl rfl)) ?_
  refine d_any rfl want_none rfl (fun _ => (y_eql rfl rfl rfl rfl)) ?_
  refine d_any rfl want_none rfl (fun _ => (y_move (v := .bool _) rfl rfl)) ?_
  refine d_any rfl (want_yes rfl rfl rfl) rfl (fun _ => (y_move (v := .int _ _) rfl rfl)) ?_
  refine d_any rfl (want_yes rfl rfl rfl) rfl (fun _ => (y_eql rfl rfl rfl rfl)) ?_
  refine d_any rfl want_none rfl (fun _ => (y_pickT (v := .bool _) rfl rfl rfl rfl)) ?_
  refine d_any rfl want_none rfl (fun _ => (y_move (v := .bool _) rfl rfl)) ?_
  refine d_any rfl (want_yes rfl rfl rfl) rfl (fun _ => (y_move (v := .int _ _) rfl rfl)) ?_
  refine d_any rfl (want_yes rfl rfl rfl) rfl (fun _ => (y_eql rfl rfl rfl rfl)) ?_
  refine d_any rfl want_none rfl (fun _ => (y_pickT (v := .bool _) rfl rfl rfl rfl)) ?_
  refine d_any rfl want_none rfl (fun _ => (y_move (v := .bool _) rfl rfl)) ?_
  refine d_any rfl (want_yes rfl rfl rfl) rfl (fun _ => (y_move (v := .int _ _) rfl rfl)) ?_
  refine d_any rfl (want_yes rfl rfl rfl) rfl (fun _ => (y_eql rfl rfl rfl rfl)) ?_
  refine d_any rfl want_none rfl (fun _ => (y_pickT (v := .bool _) rfl rfl rfl rfl)) ?_
  refine d_any rfl want_none rfl (fun _ => (y_move (v := .bool _) rfl rfl)) ?_
  refine d_any rfl (want_yes rfl rfl rfl) rfl (fun _ => (y_move (v := .int _ _) rfl rfl)) ?_
  refine d_any rfl (want_yes rfl rfl rfl) rfl (fun _ => (y_eql rfl rfl rfl rfl)) ?_
  refine d_any rfl want_none rfl (fun _ => (y_pickT (v := .bool _) rfl rfl rfl rfl)) ?_
  refine d_any rfl want_none rfl (fun _ => (y_move (v := .bool _) rfl rfl)) ?_
  refine d_any rfl (want_yes rfl rfl rfl) rfl (fun _ => (y_move (v := .int _ _) rfl rfl)) ?_
  refine d_any rfl (want_yes rfl rfl rfl) rfl (fun _ => (y_eql rfl rfl rfl rfl)) ?_
  refine d_any rfl want_none rfl (fun _ => (y_pickT (v := .bool _) rfl rfl rfl rfl)) ?_
  refine d_any rfl want_none rfl (fun _ => (y_move (v := .bool _) rfl rfl)) ?_
  refine d_any rfl (want_yes rfl rfl rfl) rfl (fun _ => (y_move (v := .int _ _) rfl rfl)) ?_
  refine d_any rfl (want_yes rfl rfl rfl) rfl (fun _ => (y_eql rfl rfl rfl rfl)) ?_
  refine d_any rfl want_none rfl (fun _ => (y_pickT (v := .bool _) rfl rfl rfl rfl)) ?_
  refine d_any rfl want_none rfl (fun _ => (y_move (v := .bool _) rfl rfl)) ?_
  refine d_any rfl (want_yes rfl rfl rfl) rfl (fun _ => (y_move (v := .int _ _) rfl rfl)) ?_
  refine d_any rfl (want_yes rfl rfl rfl) rfl (fun _ => (y_eql rfl rfl rfl rfl)) ?_
  refine d_any rfl want_none rfl (fun _ => (y_pickT (v := .bool _) rfl rfl rfl rfl)) ?_
  refine d_any rfl want_none rfl (fun _ => (y_move (v := .bool _) rfl rfl)) ?_
  refine d_any rfl (want_yes rfl rfl rfl) rfl (fun _ => (y_move (v := .int _ _) rfl rfl)) ?_
  refine d_any rfl (want_yes rfl rfl rfl) rfl (fun _ => (y_eql rfl rfl rfl rfl)) ?_
  refine d_any rfl want_none rfl (fun _ => (y_pickT (v := .bool _) rfl rfl rfl rfl)) ?_
  refine d_any rfl want_none rfl (fun _ => (y_move (v := .bool _) rfl rfl)) ?_
  refine d_any rfl (want_yes rfl rfl rfl) rfl (fun _ => (y_move (v := .int _ _) rfl rfl)) ?_
  refine d_any rfl (want_yes rfl rfl rfl) rfl (fun _ => (y_eql rfl rfl rfl rfl)) ?_
  refine d_any rfl want_none rfl (fun _ => (y_pickT (v := .bool _) rfl rfl rfl rfl)) ?_
  refine d_any rfl want_none rfl (fun _ => (y_move (v := .bool _) rfl rfl)) ?_
  refine d_take rfl (want_yes rfl rfl rfl) rfl hs89 (fun _ hq => (y_loadN (vs := [_, _]) Try.isAgg31 Try.sizeOf31 hq.drop.tail.drop.drop.drop.tail rfl rfl hx3)) ?_
  refine d_eff rfl ?_
  refine w_call (want_yes rfl rfl rfl) Try.call33 rfl rfl rfl rfl (c33 _ _ hs89) ?_
  rintro _ w91 ⟨rfl, hs92⟩
  refine w_nil ?_
  refine qn ⟨hs92, ?_⟩
  refine d_any rfl (want_yes rfl rfl rfl) rfl (fun _ => (y_eqFlat (l := [_, _]) (m := [_, _]) Try.eqGuardType31 Try_flat31 (by first | omega | rfl | (simp only [List.length_map, List.length_set, List.length_append, List.length_take, List.length_drop, List.length_replicate, List.length_cons, List.length_nil] <;> omega)) (by first | omega | rfl | (simp only [List.length_map, List.length_set, List.length_append, List.length_take, List.length_drop, List.length_replicate, List.length_cons, List.length_nil] <;> omega)) rfl rfl rfl rfl rfl rfl)) ?_
  refine d_any rfl want_none rfl (fun _ => (y_pickT (v := .bool _) rfl rfl rfl rfl)) ?_
  refine d_any rfl want_none rfl (fun _ => (y_move (v := .bool _) rfl rfl)) ?_
  refine d_split (fun h93 => ?_) (fun h93 => ?_)
  ·
   try simp only [zA, zB, zC, zD, zE, zF] at h93
   refine d_take rfl (want_yes rfl rfl rfl) rfl hs92 (fun _ hq => (y_loadN (vs := [_, _]) Try.isAgg31 Try.sizeOf31 hq.drop.tail.drop.drop.drop rfl rfl hx5)) ?_
   refine d_eff rfl ?_
   refine w_call (want_yes rfl rfl rfl) Try.call33 rfl rfl rfl rfl (c33 _ _ hs92) ?_
   rintro _ w95 ⟨rfl, hs96⟩
   refine w_nil ?_
   refine qn ⟨hs96, ?_⟩
   refine d_any rfl (want_yes rfl rfl rfl) rfl (fun _ => (y_eqFlat (l := [_, _]) (m := [_, _]) Try.eqGuardType31 Try_flat31 (by first | omega | rfl | (simp only [List.length_map, List.length_set, List.length_append, List.length_take, List.length_drop, List.length_replicate, List.length_cons, List.length_nil] <;> omega)) (by first | omega | rfl | (simp only [List.length_map, List.length_set, List.length_append, List.length_take, List.length_drop, List.length_replicate, List.length_cons, List.length_nil] <;> omega)) rfl rfl rfl rfl rfl rfl)) ?_
   refine d_any rfl want_none rfl (fun _ => (y_pickT (v := .bool _) rfl rfl rfl rfl)) ?_
   refine d_any rfl want_none rfl (fun _ => (y_move (v := .bool _) rfl rfl)) ?_
   refine d_split (fun h97 => ?_) (fun h97 => ?_)
   ·
    try simp only [zA, zB, zC, zD, zE, zF] at h97
    refine d_any rfl (want_yes rfl rfl rfl) rfl (fun _ => (y_move (v := .int _ _) rfl rfl)) ?_
    refine d_any rfl (want_yes rfl rfl rfl) rfl (fun _ => (y_eql rfl rfl rfl rfl)) ?_
    refine d_any rfl want_none rfl (fun _ => (y_pickT (v := .bool _) rfl rfl rfl rfl)) ?_
    refine d_any rfl want_none rfl (fun _ => (y_move (v := .bool _) rfl rfl)) ?_
    refine d_any rfl (want_yes rfl rfl rfl) rfl (fun _ => (y_move (v := .int _ _) rfl rfl)) ?_
    refine d_any rfl (want_yes rfl rfl rfl) rfl (fun _ => (y_eql rfl rfl rfl rfl)) ?_
    refine d_any rfl want_none rfl (fun _ => (y_pickT (v := .bool _) rfl rfl rfl rfl)) ?_
    refine d_any rfl want_none rfl (fun _ => (y_move (v := .bool _) rfl rfl)) ?_
    refine d_any rfl (want_yes rfl rfl rfl) rfl (fun _ => (y_move (v := .int _ _) rfl rfl)) ?_
    refine d_any rfl (want_yes rfl rfl rfl) rfl (fun _ => (y_eql rfl rfl rfl rfl)) ?_
    refine d_any rfl want_none rfl (fun _ => (y_pickT (v := .bool _) rfl rfl rfl rfl)) ?_
    refine d_any rfl want_none rfl (fun _ => (y_move (v := .bool _) rfl rfl)) ?_
    refine d_any rfl (want_yes rfl rfl rfl) rfl (fun _ => (y_move (v := .slice _ _ _) rfl rfl)) ?_
    refine d_eff rfl ?_
    refine w_bslice (ps := [(0, _)]) (pv := [(0, .int _ _)]) (cs := [_]) (want_yes rfl rfl rfl) rfl rfl (fun w => Try_Ya_fb17 _ w) hs96 (fun b98 w99 hs100 => ?_)
    refine w_nil ?_
    refine qn ⟨hs100.tail, ?_⟩
    refine d_eff rfl ?_
    refine w_call (want_yes rfl rfl rfl) Try.call29 rfl rfl rfl rfl (con_true (c29 _ _ [0] [0] _ _ (by decide) hr1.top.app.app.cons.app.cons (sl_own (i := 0) (rows := [[_]]) rfl (by simp) rfl) hs100) (by decide)) ?_
    rintro _ w102 ⟨rfl, hs103⟩
    refine w_nil ?_
    refine qn ⟨hs103.tail, ?_⟩
    refine d_any rfl want_none rfl (fun _ => (y_pickT (v := .bool _) rfl rfl rfl rfl)) ?_
    refine d_any rfl want_none rfl (fun _ => (y_move (v := .bool _) rfl rfl)) ?_
    refine d_any rfl (want_yes rfl rfl rfl) rfl (fun _ => (y_move (v := .slice _ _ _) rfl rfl)) ?_
    refine d_any rfl (want_yes rfl rfl rfl) rfl (fun _ => (y_lenS Try.underlying39 rfl rfl)) ?_
    refine d_any rfl (want_yes rfl rfl rfl) rfl (fun _ => (y_eql rfl rfl rfl rfl)) ?_
    refine d_any rfl want_none rfl (fun _ => (y_pickT (v := .bool _) rfl rfl rfl rfl)) ?_
    refine d_any rfl want_none rfl (fun _ => (y_move (v := .bool _) rfl rfl)) ?_
    refine d_split (fun h104 => ?_) (fun h104 => ?_)
    ·
     try simp only [zA, zB, zC, zD, zE, zF] at h104
     refine d_any rfl (want_yes rfl rfl rfl) rfl (fun _ => (y_move (v := .slice _ _ _) rfl rfl)) ?_
     refine d_eff rfl ?_
     refine w_bslice (ps := [(0, _)]) (pv := [(0, .int _ _)]) (cs := [_]) (want_yes rfl rfl rfl) rfl rfl (fun w => Try_Ya_fb17 _ w) hs103 (fun b105 w106 hs107 => ?_)
     refine w_nil ?_
     refine qn ⟨hs107.tail.tail, ?_⟩
     refine d_eff rfl ?_
     refine w_call (want_yes rfl rfl rfl) Try.call29 rfl rfl rfl rfl (con_true (c29 _ _ [5] [5] _ _ (by decide) hr3.top.cons.app.cons.cons (sl_own (i := 0) (rows := [[_]]) rfl (by simp) rfl) hs107) (by decide)) ?_
     rintro _ w109 ⟨rfl, hs110⟩
     refine w_nil ?_
     refine qn ⟨hs110.tail.tail, ?_⟩
     refine d_any rfl want_none rfl (fun _ => (y_pickT (v := .bool _) rfl rfl rfl rfl)) ?_
     refine d_any rfl want_none rfl (fun _ => (y_assign (v := .bool _) rfl rfl)) ?_
     refine d_nil ?_
     refine q_then (hK86 _ _ ?_)
     refine w_ret ?_
     refine q_ret (l := [.tmp 0]) (vs := [_]) rfl ⟨⟨rfl, show _ = (.bool _ : Value) from rfl⟩, trivial⟩ ?_
     exact ⟨rfl, (St.cast hZ hs110.tail.tail.drop.tail.drop.drop.drop.tail.tail).tail.tail.drop.drop⟩
    ·
     exfalso; simp at h104
   ·
    exfalso; simp at h97
  ·
   exfalso; simp at h93

end Go.Proofs
/- Walks of this seat, printed by gen.py over the engine: what each function returns, in whatever world. No conditions but those of each contract. -/
set_option linter.unusedVariables false
set_option linter.unusedSimpArgs false
set_option maxRecDepth 20000
set_option maxHeartbeats 1600000
namespace Go.Proofs
open Go.Rt Go.Rt.Ch
open Go.Rt.Ha (firstE firstE_step firstE_stop firstE_end failE nameE felt spanL upto span_mem listL fewest fewTo bit before fewStep drop_lt drop_get drop_next drop_done drop_notin set_take set_zero take_less Lot Bunch feltTo fTo fPart felt_zero felt_step fTo_succ fTo_len fPart_succ fPart_len fPart_all filt_yes filt_no upto_len at_ someOf choicesTo cfind_here cfind_next cfind_on choices_fin pick_idx pickL_in find_on find_next rising rising_step rising_end rising_stop list_rising before_fewer)
attribute [local irreducible] WL WC Con Yd At Ats Sl Agree DW

theorem inside_y {n a b : Int} (h : a ≤ n ∧ n ≤ b) : decide (a ≤ n ∧ n ≤ b) = true := decide_eq_true h
theorem past_40 {b : Board} (hok : b.Ok) {x : Past} (hx : x.Ok) (k : Nat) : 0 ≤ ld (pastL b x) k ∧ ld (pastL b x) k ≤ 40 := by
  by_cases hk : k < b.hours.length
  · rw [past_load hk]
    have h1 := tel_in hok hx.loads hk
    have h2 := hok.hour _ (List.getElem_mem hk)
    have h3 := h2.lo
    have h4 := h2.hi
    omega
  · have h9 := past_len b x
    unfold ld
    rw [List.getD_eq_getElem?_getD, List.getElem?_eq_none (by omega)]
    simp
theorem past_40L {b : Board} {x : Past} {k : Nat} (hk : k < (pastL b x).length) (hk2 : k < b.hours.length) : (pastL b x)[k] = telLoad b x.loads k := by simp [pastL, telLoads]
theorem eb_row {w0 : World} {Z : List (Nat × Obj)} {b : Board} {x : Past} {zs : List Value} {aV : Option Addr} (hsV : Sl w0 Z aV 1 (zs.map fun v => [v])) (hE : EB w0 Z zs (pastZ b x)) {c : Nat} (hc : c < b.ctrs.length) : ∃ bV oV az cz, aV = some ⟨bV, oV, none⟩ ∧ Ats w0 Z bV (oV + c * 1) [.slice az b.hours.length cz] ∧ Sl w0 Z az 1 ((pZero b x b.ctrs[c] c b.hours.length).map fun r => [Value.bool r]) := by
  have hl : (pastZ b x).length = b.ctrs.length := List.length_mapIdx
  have hz : c < zs.length := by rw [hE.1, hl]; exact hc
  obtain ⟨a, cz, e1, e2⟩ := hE.2 c hz (by omega)
  have e3 : (pastZ b x)[c]'(by omega) = pZero b x b.ctrs[c] c b.hours.length := by simp [pastZ]
  have e4 : (pZero b x b.ctrs[c] c b.hours.length).length = b.hours.length := by simp [pZero]
  rw [e3, e4] at e1
  rw [e3] at e2
  obtain ⟨bV, oV, ha, _, hat⟩ := hsV.at (i := c) (row := [zs[c]]) (by simp [hz])
  rw [e1] at hat
  exact ⟨bV, oV, a, cz, ha, hat, e2⟩
theorem pastR_at {b : Board} {x : Past} {c : Nat} (hc : c < (pastR b x).length) (hc2 : c < b.ctrs.length) : (pastR b x)[c] = pRight b x b.ctrs[c] c b.hours.length := by simp [pastR]
theorem pZero_at {b : Board} {x : Past} {d : Ctr} {c q : Nat} (hq : q < (pZero b x d c b.hours.length).length) : (pZero b x d c b.hours.length)[q] = pSet b.hours.length x d c q := by simp [pZero]
theorem ats_ofT {w0 w : World} {L : List (Nat × Obj)} {i b : Nat} {t : TypeId} {cs vs : List Value} (hs : St w0 w L) (hi : L[i]? = some (b, blk t cs)) (h : (cs.drop 0).take vs.length = vs) : Ats w0 L b 0 vs := ats_own hi h
theorem c36 {w0 w : World} {F : List (Nat × Obj)} (n a b : Int) (hs : St w0 w F) :
  Con Try.prog 36 [.int .i64 n, .agg #[.int .i64 a, .int .i64 b]] w fun v w' => v = .bool (decide (a ≤ n ∧ n ≤ b)) ∧ St w0 w' F := by
  refine con_of_wc (n := 11) Try.func36 rfl rfl (Nat.le_of_ble_eq_true rfl) ?_
  refine w_seq (fun K2 hK1 => ?_)
  refine w_region ?_
  refine w_box (v := .agg #[.int _ _, .int _ _]) (cs := [_, _]) want_none rfl rfl rfl hs (fun b3 w4 hs5 => ?_)
  refine w_p (y_assign (v := _) rfl rfl) rfl ?_
  refine w_nil ?_
  refine q_then (hK1 _ _ ?_)
  refine w_seq (fun K7 hK6 => ?_)
  refine w_region ?_
  refine w_p (y_move (v := .int _ _) rfl rfl) rfl ?_
  refine w_p (y_fieldAddr (o := 0) (i := 0) Try.underlying31 rfl Try.sizeOf3 rfl rfl rfl) rfl ?_
  refine w_p (y_load1 Try.isAgg3 hs5 rfl rfl (ats_own (i := 0) (vs := [_]) rfl rfl)) rfl ?_
  refine w_p (y_fieldAddr (o := 1) (i := 1) Try.underlying31 rfl Try.sizeOf3 rfl rfl rfl) rfl ?_
  refine w_p (y_load1 Try.isAgg3 hs5 rfl rfl (ats_own (i := 0) (vs := [_]) rfl rfl)) rfl ?_
  refine w_call want_none Try.call59 rfl rfl rfl rfl (c59 _ _ _ hs5) ?_
  rintro _ w9 ⟨rfl, hs10⟩
  refine w_p (y_assign (v := .bool _) rfl rfl) rfl ?_
  refine w_nil ?_
  refine q_then (hK6 _ _ ?_)
  refine w_ret ?_
  refine q_ret (l := [.tmp 4]) (vs := [_]) rfl ⟨⟨rfl, show _ = (.bool _ : Value) from rfl⟩, trivial⟩ ?_
  exact ⟨rfl, hs10.tail⟩

theorem c38 {w0 w : World} {F : List (Nat × Obj)} (n : Int) (r : Bool) (hs : St w0 w F) :
  Con Try.prog 38 [.int .i64 n, .bool r] w fun v w' => v = .bool (deniesB n r) ∧ St w0 w' F := by
  refine con_of_wc (n := 18) Try.func38 rfl rfl (Nat.le_of_ble_eq_true rfl) ?_
  refine w_seq (fun K2 hK1 => ?_)
  refine w_region ?_
  refine w_p (y_assign (v := _) rfl rfl) rfl ?_
  refine w_nil ?_
  refine q_then (hK1 _ _ ?_)
  refine w_seq (fun K4 hK3 => ?_)
  refine w_region ?_
  refine w_p (y_move (v := .int _ _) rfl rfl) rfl ?_
  refine w_p (y_eql rfl rfl rfl rfl) rfl ?_
  refine w_p (y_move (v := .bool _) rfl rfl) rfl ?_
  refine w_split (fun h5 => ?_) (fun h5 => ?_)
  ·
   try simp only [zA, zB, zC, zD, zE, zF] at h5
   refine w_y rfl rfl rfl (y_move (v := .bool _) rfl rfl) rfl ?_
   refine w_y rfl rfl rfl (y_not rfl rfl) rfl ?_
   refine w_p (y_pickT (v := .bool _) rfl rfl rfl rfl) rfl ?_
   refine w_p (y_move (v := .bool _) rfl rfl) rfl ?_
   refine w_split (fun h6 => ?_) (fun h6 => ?_)
   ·
    try simp only [zA, zB, zC, zD, zE, zF] at h6
    refine w_skipop rfl rfl rfl ?_
    refine w_skipop rfl rfl rfl ?_
    refine w_skipop rfl rfl rfl ?_
    refine w_skipop' rfl rfl rfl ?_
    refine w_skipop rfl rfl rfl ?_
    refine w_p (y_pickT (v := _) rfl rfl rfl rfl) rfl ?_
    refine w_p (y_assign (v := .bool _) rfl rfl) rfl ?_
    refine w_nil ?_
    refine q_then (hK3 _ _ ?_)
    refine w_ret ?_
    refine q_ret (l := [.tmp 4]) (vs := [_]) rfl ⟨⟨rfl, show _ = (.bool _ : Value) from rfl⟩, trivial⟩ ?_
    exact ⟨congrArg Value.bool (by unfold deniesB; cases r <;> simp_all), hs⟩
   ·
    try simp only [zA, zB, zC, zD, zE, zF] at h6
    refine w_y rfl rfl rfl (y_move (v := .int _ _) rfl rfl) rfl ?_
    refine w_y rfl rfl rfl (y_eql rfl rfl rfl rfl) rfl ?_
    refine w_y rfl rfl rfl (y_move (v := .bool _) rfl rfl) rfl ?_
    refine w_split (fun h7 => ?_) (fun h7 => ?_)
    ·
     try simp only [zA, zB, zC, zD, zE, zF] at h7
     refine w_y rfl rfl rfl (y_move (v := .bool _) rfl rfl) rfl ?_
     refine w_y rfl rfl rfl (y_pickT (v := .bool _) rfl rfl rfl rfl) rfl ?_
     refine w_p (y_pickF (v := .bool _) rfl rfl rfl rfl) rfl ?_
     refine w_p (y_assign (v := .bool _) rfl rfl) rfl ?_
     refine w_nil ?_
     refine q_then (hK3 _ _ ?_)
     refine w_ret ?_
     refine q_ret (l := [.tmp 4]) (vs := [_]) rfl ⟨⟨rfl, show _ = (.bool _ : Value) from rfl⟩, trivial⟩ ?_
     exact ⟨congrArg Value.bool (by unfold deniesB; cases r <;> simp_all), hs⟩
    ·
     try simp only [zA, zB, zC, zD, zE, zF] at h7
     refine w_skipop rfl rfl rfl ?_
     refine w_y rfl rfl rfl (y_pickF (v := _) rfl rfl rfl rfl) rfl ?_
     refine w_p (y_pickF (v := .bool _) rfl rfl rfl rfl) rfl ?_
     refine w_p (y_assign (v := .bool _) rfl rfl) rfl ?_
     refine w_nil ?_
     refine q_then (hK3 _ _ ?_)
     refine w_ret ?_
     refine q_ret (l := [.tmp 4]) (vs := [_]) rfl ⟨⟨rfl, show _ = (.bool _ : Value) from rfl⟩, trivial⟩ ?_
     exact ⟨congrArg Value.bool (by unfold deniesB; cases r <;> simp_all), hs⟩
  ·
   try simp only [zA, zB, zC, zD, zE, zF] at h5
   refine w_skipop rfl rfl rfl ?_
   refine w_skipop rfl rfl rfl ?_
   refine w_p (y_pickF (v := _) rfl rfl rfl rfl) rfl ?_
   refine w_p (y_move (v := .bool _) rfl rfl) rfl ?_
   refine w_y rfl rfl rfl (y_move (v := .int _ _) rfl rfl) rfl ?_
   refine w_y rfl rfl rfl (y_eql rfl rfl rfl rfl) rfl ?_
   refine w_y rfl rfl rfl (y_move (v := .bool _) rfl rfl) rfl ?_
   refine w_split (fun h8 => ?_) (fun h8 => ?_)
   ·
    try simp only [zA, zB, zC, zD, zE, zF] at h8
    refine w_y rfl rfl rfl (y_move (v := .bool _) rfl rfl) rfl ?_
    refine w_y rfl rfl rfl (y_pickT (v := .bool _) rfl rfl rfl rfl) rfl ?_
    refine w_p (y_pickF (v := .bool _) rfl rfl rfl rfl) rfl ?_
    refine w_p (y_assign (v := .bool _) rfl rfl) rfl ?_
    refine w_nil ?_
    refine q_then (hK3 _ _ ?_)
    refine w_ret ?_
    refine q_ret (l := [.tmp 4]) (vs := [_]) rfl ⟨⟨rfl, show _ = (.bool _ : Value) from rfl⟩, trivial⟩ ?_
    exact ⟨congrArg Value.bool (by unfold deniesB; cases r <;> simp_all), hs⟩
   ·
    try simp only [zA, zB, zC, zD, zE, zF] at h8
    refine w_skipop rfl rfl rfl ?_
    refine w_y rfl rfl rfl (y_pickF (v := _) rfl rfl rfl rfl) rfl ?_
    refine w_p (y_pickF (v := .bool _) rfl rfl rfl rfl) rfl ?_
    refine w_p (y_assign (v := .bool _) rfl rfl) rfl ?_
    refine w_nil ?_
    refine q_then (hK3 _ _ ?_)
    refine w_ret ?_
    refine q_ret (l := [.tmp 4]) (vs := [_]) rfl ⟨⟨rfl, show _ = (.bool _ : Value) from rfl⟩, trivial⟩ ?_
    exact ⟨congrArg Value.bool (by unfold deniesB; cases r <;> simp_all), hs⟩

theorem c8 {w0 w : World} {F : List (Nat × Obj)} (b : Board) (p : AtB) (hm : BIn w0 F b p) (x : Past) (hx : x.Ok) (a1 a2 a3 : Option Addr) (c1 c2 c3 : Nat) (hl1 : x.loads.length ≤ 9223372036854775807) (hl2 : x.errs.length ≤ 9223372036854775807) (hl3 : x.zeros.length ≤ 9223372036854775807) (hs1 : Sl w0 F a1 1 (x.loads.map fun n => [Value.int .u8 n])) (hs2 : Sl w0 F a2 1 (x.errs.map fun n => [Value.int .u8 n])) (hs3 : Sl w0 F a3 1 (x.zeros.map fun n => [Value.int .u8 n])) (hs : St w0 w F) :
  Con Try.prog 8 [.agg (b.cells p).toArray, .agg #[.slice a1 x.loads.length c1, .slice a2 x.errs.length c2, .slice a3 x.zeros.length c3]] w fun v w' => v = .bool true ∧ St w0 w' F := by
  refine con_of_wc (n := 153) Try.func8 rfl rfl (Nat.le_of_ble_eq_true rfl) ?_
  have hlh0 := hm.lh
  have hlc0 := hm.lc
  refine w_seq (fun K2 hK1 => ?_)
  refine w_region ?_
  refine w_box (v := .agg #[.int _ _, .slice _ _ _, .slice _ _ _]) (cs := [_, _, _]) want_none rfl rfl rfl hs (fun b3 w4 hs5 => ?_)
  refine w_box (v := .agg #[.slice _ _ _, .slice _ _ _, .slice _ _ _]) (cs := [_, _, _]) want_none rfl rfl rfl hs5 (fun b6 w7 hs8 => ?_)
  refine w_p (y_assign (v := _) rfl rfl) rfl ?_
  refine w_nil ?_
  refine q_then (hK1 _ _ ?_)
  refine w_seq (fun K10 hK9 => ?_)
  refine w_seq (fun K12 hK11 => ?_)
  have hbx := ats_ofK (i := 1) (vs := b.cells p) hs8 rfl rfl
  refine w_region ?_
  refine w_p (y_loadN (vs := [_, _, _]) Try.isAgg25 Try.sizeOf25 hs8 rfl rfl hbx) rfl ?_
  refine w_call want_none Try.call34 rfl rfl rfl rfl (c34 b p hm.cons.cons hs8) ?_
  rintro _ w14 ⟨rfl, hs15⟩
  refine w_p (y_not rfl rfl) rfl ?_
  refine w_nil ?_
  refine q_then (hK11 _ _ ?_)
  refine w_cond rfl rfl (fun h16 => ?_) (fun h16 => ?_)
  ·
   try simp only [zA, zB, zC, zD, zE, zF] at h16
   refine w_seq (fun K18 hK17 => ?_)
   refine w_region ?_
   refine w_p (y_loadN (vs := [_, _, _]) Try.isAgg25 Try.sizeOf25 hs15 rfl rfl hbx) rfl ?_
   refine w_call want_none Try.call20 rfl rfl rfl rfl (c20 b p hm.cons.cons 0 hs15) ?_
   rintro _ w20 ⟨rfl, hs21⟩
   refine w_p (y_move (v := .tuple _) rfl rfl) rfl ?_
   refine w_p (y_extract (v := .agg _) rfl rfl rfl) rfl ?_
   refine w_p (y_extract (v := .int _ _) rfl rfl rfl) rfl ?_
   refine w_alloc (cs := [_, _]) want_none Try.zeroValue31 rfl hs21 (fun b22 w23 hs24 => ?_)
   refine w_store (i := 0) (v := .agg #[.int _ _, .int _ _]) (vs := [_, _]) want_none Try.sizeOf31 rfl rfl rfl rfl rfl (by simp [Value.oneCell']) hs24 rfl (Nat.le_of_ble_eq_true rfl) (fun w25 hs26 => ?_)
   refine w_p (y_assign (v := .int _ _) rfl rfl) rfl ?_
   refine w_nil ?_
   refine q_then (hK17 _ _ ?_)
   refine w_seq (fun K28 hK27 => ?_)
   have hck0 : ¬ (check b).2.2 = 0 := by first | assumption | (intro h0; simp_all)
   have hnz := hold_no (some_nc hck0) 0
   refine w_region ?_
   refine w_p (y_move (v := .int _ _) rfl rfl) rfl ?_
   refine w_p (y_neq rfl rfl rfl rfl) rfl ?_
   refine w_p (y_move (v := .bool _) rfl rfl) rfl ?_
   refine w_split (fun h29 => ?_) (fun h29 => ?_)
   ·
    try simp only [zA, zB, zC, zD, zE, zF] at h29
    refine w_call (want_yes rfl rfl rfl) Try.call22 rfl rfl rfl rfl (c22 hs26) ?_
    rintro _ w31 ⟨rfl, hs32⟩
    refine w_p (y_pickT (v := .bool _) rfl rfl rfl rfl) rfl ?_
    refine w_p (y_assign (v := .bool _) rfl rfl) rfl ?_
    refine w_nil ?_
    refine q_then (hK27 _ _ ?_)
    refine w_ret ?_
    refine q_then_ret ?_
    refine q_ret (l := [.tmp 4]) (vs := [_]) rfl ⟨⟨rfl, show _ = (.bool _ : Value) from rfl⟩, trivial⟩ ?_
    exact ⟨rfl, hs32.tail.tail.tail⟩
   ·
    exfalso
    try simp only [zA, zB, zC, zD, zE, zF] at h29
    exact hnz h29
  ·
   try simp only [zA, zB, zC, zD, zE, zF] at h16
   refine w_skip ?_
   refine q_then (hK9 _ _ ?_)
   refine w_seq (fun K34 hK33 => ?_)
   have hck : (check b).2.2 = 0 := by first | assumption | (refine Decidable.byContradiction fun h0 => ?_; simp_all)
   have hok := check_ok hck
   have hlh := hok.lh
   have hlc := hok.lc
   refine w_region ?_
   refine w_p (y_loadN (vs := [_, _, _]) Try.isAgg25 Try.sizeOf25 hs15 rfl rfl hbx) rfl ?_
   refine w_p (y_loadN (vs := [_, _, _]) Try.isAgg49 Try.sizeOf49 hs15 rfl rfl (ats_own (i := 0) (vs := [_, _, _]) rfl rfl)) rfl ?_
   refine w_call want_none Try.call35 rfl rfl rfl rfl (c35 b p hm.cons.cons hok x hx a1 a2 a3 c1 c2 c3 hl1 hl2 hl3 hs1.cons.cons hs2.cons.cons hs3.cons.cons hs15) ?_
   rintro _ w36 ⟨pz, TB, aL, cL, aR, cR, aV, cV, zs, rfl, hbZ, hsL, hsR, hsV, hE, hs37⟩
   replace hs37 := (show St _ _ (TB ++ (_ :: _ :: F)) from hs37)
   refine w_p (y_move (v := .tuple _) rfl rfl) rfl ?_
   refine w_p (y_extract (v := .agg _) rfl rfl rfl) rfl ?_
   refine w_p (y_extract (v := .slice _ _ _) rfl rfl rfl) rfl ?_
   refine w_p (y_extract (v := .slice _ _ _) rfl rfl rfl) rfl ?_
   refine w_p (y_extract (v := .slice _ _ _) rfl rfl rfl) rfl ?_
   refine w_alloc (cs := [_, _, _]) want_none Try.zeroValue25 rfl hs37 (fun b38 w39 hs40 => ?_)
   refine w_store (i := 0) (v := .agg #[.int _ _, .slice _ _ _, .slice _ _ _]) (vs := [_, _, _]) want_none Try.sizeOf25 rfl rfl rfl rfl rfl (by simp [Value.oneCell']) hs40 rfl (Nat.le_of_ble_eq_true rfl) (fun w41 hs42 => ?_)
   refine w_p (y_assign (v := .slice _ _ _) rfl rfl) rfl ?_
   refine w_p (y_assign (v := .slice _ _ _) rfl rfl) rfl ?_
   refine w_p (y_assign (v := .slice _ _ _) rfl rfl) rfl ?_
   refine w_nil ?_
   refine q_then (hK33 _ _ ?_)
   refine w_seq (fun K44 hK43 => ?_)
   obtain ⟨Z, hZ, hsZ⟩ := gen_Z hs42
   have hb7 : Ats w0 Z b38 0 ((pastB b x).cells pz) := by rw [hZ]; exact ats_ofT (i := 0) (vs := (pastB b x).cells pz) hs42 rfl rfl
   have hmP : BIn w0 Z (pastB b x) pz := by rw [hZ]; exact hbZ.cons
   have hsLZ : Sl w0 Z aL 1 ((pastL b x).map fun x => [Value.int .i64 x]) := by rw [hZ]; exact hsL.top.cons
   have hsRZ : Sl w0 Z aR 1 ((pastR b x).map fun r => [Value.bool r]) := by rw [hZ]; exact hsR.top.cons
   have hsVZ : Sl w0 Z aV 1 (zs.map fun v => [v]) := by rw [hZ]; exact hsV.top.cons
   have hEZ : EB w0 Z zs (pastZ b x) := by rw [hZ]; exact hE.top.cons
   have hPh : (pastB b x).holds = b.holds := rfl
   have hwn := wrong_none (past_some hck hx)
   have hll := past_len b x
   have hho := hok.holds
   refine w_region ?_
   refine w_p (y_loadN (vs := [_, _, _]) Try.isAgg25 Try.sizeOf25 hsZ rfl rfl hb7) rfl ?_
   refine w_call want_none Try.call30 rfl rfl rfl rfl (c30 (pastB b x) pz hmP hsZ) ?_
   rintro _ w46 ⟨BW, aW, cW, rfl, hqW, hs47⟩
   replace hs47 := (show St _ _ (BW ++ (Z)) from hs47)
   refine w_p (y_move (v := .tuple _) rfl rfl) rfl ?_
   refine w_p (y_extract (v := .slice _ _ _) rfl rfl rfl) rfl ?_
   refine w_p (y_extract (v := .int _ _) rfl rfl rfl) rfl ?_
   refine w_p (y_assign (v := .slice _ _ _) rfl rfl) rfl ?_
   refine w_p (y_assign (v := .int _ _) rfl rfl) rfl ?_
   refine w_nil ?_
   refine q_then (hK43 _ _ ?_)
   refine w_seq (fun K49 hK48 => ?_)
   refine w_seq (fun K51 hK50 => ?_)
   refine w_region ?_
   refine w_p (y_move (v := .int _ _) rfl rfl) rfl ?_
   refine w_p (y_neq rfl rfl rfl rfl) rfl ?_
   refine w_p (y_move (v := .bool _) rfl rfl) rfl ?_
   refine w_split (fun h52 => ?_) (fun h52 => ?_)
   ·
    exfalso
    try simp only [zA, zB, zC, zD, zE, zF] at h52
    exact h52 hwn.1
   ·
    try simp only [zA, zB, zC, zD, zE, zF] at h52
    refine w_y rfl rfl rfl (y_move (v := .slice _ _ _) rfl rfl) rfl ?_
    refine w_y rfl rfl rfl (y_lenS Try.underlying39 rfl rfl) rfl ?_
    refine w_y rfl rfl rfl (y_gtr rfl rfl rfl rfl) rfl ?_
    refine w_p (y_pickF (v := .bool _) rfl rfl rfl rfl) rfl ?_
    refine w_nil ?_
    refine q_then (hK50 _ _ ?_)
    refine w_cond rfl rfl (fun h53 => ?_) (fun h53 => ?_)
    ·
     exfalso
     try simp only [zA, zB, zC, zD, zE, zF] at h53
     have := hwn.2; omega
    ·
     try simp only [zA, zB, zC, zD, zE, zF] at h53
     refine w_skip ?_
     refine q_then (hK48 _ _ ?_)
     refine w_seq (fun K55 hK54 => ?_)
     refine w_seq (fun K57 hK56 => ?_)
     refine w_region ?_
     refine w_p (y_assign (v := _) rfl rfl) rfl ?_
     refine w_nil ?_
     refine q_then (hK56 _ _ ?_)
     refine w_block ?_
     refine w_loop [4, 13, 14, 15, 58, 59, 60, 61, 62, 63, 64, 65, 66, 67, 68, 69, 70, 71, 72, 73, 74, 75, 76, 77, 78, 79, 80] [13] (fun kk vs0 w => ∃ (q : Nat), vs0 = [.int .i64 q] ∧ q ≤ b.hours.length ∧ kk = b.hours.length - q ∧ St w0 w Z) (b.hours.length) ?_ ?_
     ·
      exact ⟨0, rfl, by omega, by omega, hs47.drop⟩
     ·
      intro k vs μ w60 hI K59 hN58
      clear hs
      obtain ⟨q, rfl, hqa, rfl, hs⟩ := hI
      refine w_seq (fun K62 hK61 => ?_)
      refine w_seq (fun K64 hK63 => ?_)
      refine w_region ?_
      refine w_p (y_move (v := .int _ _) rfl rfl) rfl ?_
      refine w_p (y_move (v := .slice _ _ _) rfl rfl) rfl ?_
      refine w_p (y_lenS Try.underlying39 rfl rfl) rfl ?_
      refine w_p (y_lss rfl rfl rfl rfl) rfl ?_
      refine w_nil ?_
      refine q_then (hK63 _ _ ?_)
      refine w_cond rfl rfl (fun h65 => ?_) (fun h65 => ?_)
      ·
       try simp only [zA, zB, zC, zD, zE, zF] at h65
       refine w_skip ?_
       refine q_then (hK61 _ _ ?_)
       refine w_seq (fun K67 hK66 => ?_)
       refine w_block ?_
       refine w_seq (fun K69 hK68 => ?_)
       have hq2 : q < b.hours.length := by omega
       have hpw := past_went hck hx hq2
       obtain ⟨bl, ol, hbl, hlx⟩ := sl_ints hsLZ (show q < (pastL b x).length by omega)
       subst hbl
       rw [past_40L (by omega) hq2] at hlx
       refine w_region ?_
       refine w_p (y_loadN (vs := [_, _, _]) Try.isAgg25 Try.sizeOf25 hs rfl rfl hb7) rfl ?_
       refine w_p (y_move (v := .int _ _) rfl rfl) rfl ?_
       refine w_call want_none Try.call18 rfl rfl rfl rfl (c18 (pastB b x) pz hmP (q : Int) hs) ?_
       rintro _ w71 ⟨rfl, hs72⟩
       refine w_p (y_move (v := .tuple _) rfl rfl) rfl ?_
       refine w_p (y_extract (v := .agg _) rfl rfl rfl) rfl ?_
       refine w_p (y_extract (v := .int _ _) rfl rfl rfl) rfl ?_
       refine w_alloc (cs := [_, _]) want_none Try.zeroValue31 rfl hs72 (fun b73 w74 hs75 => ?_)
       refine w_store (i := 0) (v := .agg #[.int _ _, .int _ _]) (vs := [_, _]) want_none Try.sizeOf31 rfl rfl rfl rfl rfl (by simp [Value.oneCell']) hs75 rfl (Nat.le_of_ble_eq_true rfl) (fun w76 hs77 => ?_)
       refine w_p (y_assign (v := .int _ _) rfl rfl) rfl ?_
       refine w_nil ?_
       refine q_then (hK68 _ _ ?_)
       refine w_seq (fun K79 hK78 => ?_)
       refine w_draw [] [(0, 0), (1, 0), (2, 0), (3, 0), (4, 0), (5, 0), (6, 1), (7, 1), (8, 2), (9, 0), (10, 0)] Try_mo (drawOK_of (by kernel_rfl)) hs77 (fun w80 hs81 => ?_)
       refine d_any rfl want_none rfl (fun _ => (y_move (v := .int _ _) rfl rfl)) ?_
       refine d_any rfl want_none rfl (fun _ => (y_neq rfl rfl rfl rfl)) ?_
       refine d_any rfl want_none rfl (fun _ => (y_move (v := .bool _) rfl rfl)) ?_
       refine d_split (fun h82 => ?_) (fun h82 => ?_)
       ·
        exfalso
        try simp only [zA, zB, zC, zD, zE, zF] at h82
        exact h82 hpw.1
       ·
        try simp only [zA, zB, zC, zD, zE, zF] at h82
        refine d_any rfl (want_yes rfl rfl rfl) rfl (fun _ => (y_move (v := .slice _ _ _) rfl rfl)) ?_
        refine d_any rfl (want_yes rfl rfl rfl) rfl (fun _ => (y_move (v := .int _ _) rfl rfl)) ?_
        refine d_any rfl (want_yes rfl rfl rfl) rfl (fun _ => (y_indexS Try.underlying39 Try.sizeOf3 rfl rfl rfl rfl (i := q) rfl hq2)) ?_
        refine d_take rfl (want_yes rfl rfl rfl) rfl hs81 (fun _ hq => (y_load1 Try.isAgg3 hq.tail rfl rfl hlx)) ?_
        refine d_take rfl (want_yes rfl rfl rfl) rfl hs81 (fun _ hq => (y_loadN (vs := [_, _]) Try.isAgg31 Try.sizeOf31 hq rfl rfl (ats_own (i := 0) (vs := [_, _]) rfl rfl))) ?_
        refine d_eff rfl ?_
        refine w_call (want_yes rfl rfl rfl) Try.call36 rfl rfl rfl rfl (con_true (c36 _ _ _ hs81) (inside_y hpw.2)) ?_
        rintro _ w84 ⟨rfl, hs85⟩
        refine w_nil ?_
        refine qn ⟨hs85, ?_⟩
        refine d_any rfl (want_yes rfl rfl rfl) rfl (fun _ => (y_not rfl rfl)) ?_
        refine d_any rfl want_none rfl (fun _ => (y_pickF (v := .bool _) rfl rfl rfl rfl)) ?_
        refine d_nil ?_
        refine q_then (hK78 _ _ ?_)
        refine w_condF rfl rfl ?_
        refine w_skip ?_
        refine q_blk_normal ?_
        refine q_then (hK66 _ _ ?_)
        refine w_region ?_
        refine w_p (y_move (v := .int _ _) rfl rfl) rfl ?_
        refine w_p (y_add rfl rfl rfl rfl (by omega) (by omega)) rfl ?_
        refine w_p (y_assign (v := .int _ _) rfl rfl) rfl ?_
        refine w_nil ?_
        refine q_then (hN58 _ _ (Nx.intro (b.hours.length - (q + 1)) (by omega) (by repeat (first | exact agree_mix | refine agree_upd rfl ?_ | refine agree_updL rfl ?_ _ | refine agree_mixin rfl ?_)) ?_))
        exact ⟨q + 1, rfl, by omega, by omega, hs85.tail⟩
      ·
       try simp only [zA, zB, zC, zD, zE, zF] at h65
       refine w_exit ?_
       refine q_then_exit ?_
       refine q_then_exit ?_
       refine q_blk_this ?_
       refine q_then (hK54 _ _ ?_)
       refine w_seq (fun K87 hK86 => ?_)
       refine w_seq (fun K89 hK88 => ?_)
       refine w_region ?_
       refine w_p (y_assign (v := _) rfl rfl) rfl ?_
       refine w_nil ?_
       refine q_then (hK88 _ _ ?_)
       refine w_block ?_
       refine w_loop [4, 16, 17, 18, 81, 82, 83, 84, 85, 86, 87, 88, 89, 90, 91, 92, 93, 94, 95, 96, 97, 98, 99, 100, 101, 102, 103] [16] (fun kk vs0 w => ∃ (q : Nat), vs0 = [.int .i64 q] ∧ (q : Int) ≤ b.holds ∧ kk = (b.holds - q).toNat ∧ St w0 w Z) (b.holds.toNat) ?_ ?_
       ·
        exact ⟨0, rfl, by omega, by omega, hs⟩
       ·
        intro k vs μ w92 hI K91 hN90
        clear hs
        obtain ⟨q, rfl, hqa, rfl, hs⟩ := hI
        refine w_seq (fun K94 hK93 => ?_)
        refine w_seq (fun K96 hK95 => ?_)
        refine w_region ?_
        refine w_p (y_move (v := .int _ _) rfl rfl) rfl ?_
        refine w_p (y_fieldAddr (o := 0) (i := 0) Try.underlying25 rfl Try.sizeOf3 rfl rfl rfl) rfl ?_
        refine w_p (y_load1 Try.isAgg3 hs rfl rfl (show Ats _ _ _ _ [_] from Ats.part hb7 0 1)) rfl ?_
        refine w_p (y_lss rfl rfl rfl rfl) rfl ?_
        refine w_nil ?_
        refine q_then (hK95 _ _ ?_)
        refine w_cond rfl rfl (fun h97 => ?_) (fun h97 => ?_)
        ·
         try simp only [zA, zB, zC, zD, zE, zF] at h97
         refine w_skip ?_
         refine q_then (hK93 _ _ ?_)
         refine w_seq (fun K99 hK98 => ?_)
         refine w_block ?_
         refine w_seq (fun K101 hK100 => ?_)
         have hph := past_hold hck hx (k := q) (by omega)
         refine w_region ?_
         refine w_p (y_loadN (vs := [_, _, _]) Try.isAgg25 Try.sizeOf25 hs rfl rfl hb7) rfl ?_
         refine w_p (y_move (v := .int _ _) rfl rfl) rfl ?_
         refine w_call want_none Try.call20 rfl rfl rfl rfl (c20 (pastB b x) pz hmP (q : Int) hs) ?_
         rintro _ w103 ⟨rfl, hs104⟩
         refine w_p (y_move (v := .tuple _) rfl rfl) rfl ?_
         refine w_p (y_extract (v := .agg _) rfl rfl rfl) rfl ?_
         refine w_p (y_extract (v := .int _ _) rfl rfl rfl) rfl ?_
         refine w_alloc (cs := [_, _]) want_none Try.zeroValue31 rfl hs104 (fun b105 w106 hs107 => ?_)
         refine w_store (i := 0) (v := .agg #[.int _ _, .int _ _]) (vs := [_, _]) want_none Try.sizeOf31 rfl rfl rfl rfl rfl (by simp [Value.oneCell']) hs107 rfl (Nat.le_of_ble_eq_true rfl) (fun w108 hs109 => ?_)
         refine w_p (y_assign (v := .int _ _) rfl rfl) rfl ?_
         refine w_nil ?_
         refine q_then (hK100 _ _ ?_)
         refine w_seq (fun K111 hK110 => ?_)
         refine w_draw [] [(0, 0), (1, 0), (2, 0), (3, 1), (4, 0), (5, 0), (7, 1), (6, 2), (8, 2), (9, 0), (10, 0)] Try_mo (drawOK_of (by kernel_rfl)) hs109 (fun w112 hs113 => ?_)
         refine d_any rfl want_none rfl (fun _ => (y_move (v := .int _ _) rfl rfl)) ?_
         refine d_any rfl want_none rfl (fun _ => (y_neq rfl rfl rfl rfl)) ?_
         refine d_any rfl want_none rfl (fun _ => (y_move (v := .bool _) rfl rfl)) ?_
         refine d_split (fun h114 => ?_) (fun h114 => ?_)
         ·
          exfalso
          try simp only [zA, zB, zC, zD, zE, zF] at h114
          exact h114 hph.1
         ·
          try simp only [zA, zB, zC, zD, zE, zF] at h114
          refine d_take rfl (want_yes rfl rfl rfl) rfl hs113 (fun _ hq => (y_loadN (vs := [_, _, _]) Try.isAgg25 Try.sizeOf25 hq.tail rfl rfl hb7)) ?_
          refine d_any rfl (want_yes rfl rfl rfl) rfl (fun _ => (y_move (v := .slice _ _ _) rfl rfl)) ?_
          refine d_any rfl (want_yes rfl rfl rfl) rfl (fun _ => (y_move (v := .int _ _) rfl rfl)) ?_
          refine d_take rfl (want_yes rfl rfl rfl) rfl hs113 (fun _ hq => (y_loadN (vs := [_, _]) Try.isAgg31 Try.sizeOf31 hq rfl rfl (ats_own (i := 0) (vs := [_, _]) rfl rfl))) ?_
          refine d_eff rfl ?_
          refine w_call (want_yes rfl rfl rfl) Try.call37 rfl rfl rfl rfl ((show Con Try.prog 37 [.agg ((pastB b x).cells pz).toArray, .slice aL b.hours.length cL, .int .i64 (q : Int)] _ _ from hll ▸ c37 (pastB b x) pz hmP.cons hlh aL cL (pastL b x) hll (past_40 hok hx) hsLZ.cons (q : Int) hs113)) ?_
          rintro _ w116 ⟨rfl, hs117⟩
          refine w_nil ?_
          refine qn ⟨hs117, ?_⟩
          refine d_eff rfl ?_
          refine w_call (want_yes rfl rfl rfl) Try.call36 rfl rfl rfl rfl (con_true (c36 _ _ _ hs117) (inside_y hph.2)) ?_
          rintro _ w119 ⟨rfl, hs120⟩
          refine w_nil ?_
          refine qn ⟨hs120, ?_⟩
          refine d_any rfl (want_yes rfl rfl rfl) rfl (fun _ => (y_not rfl rfl)) ?_
          refine d_any rfl want_none rfl (fun _ => (y_pickF (v := .bool _) rfl rfl rfl rfl)) ?_
          refine d_nil ?_
          refine q_then (hK110 _ _ ?_)
          refine w_condF rfl rfl ?_
          refine w_skip ?_
          refine q_blk_normal ?_
          refine q_then (hK98 _ _ ?_)
          refine w_region ?_
          refine w_p (y_move (v := .int _ _) rfl rfl) rfl ?_
          refine w_p (y_add rfl rfl rfl rfl (by omega) (by omega)) rfl ?_
          refine w_p (y_assign (v := .int _ _) rfl rfl) rfl ?_
          refine w_nil ?_
          refine q_then (hN90 _ _ (Nx.intro ((b.holds - (q + 1)).toNat) (by omega) (by repeat (first | exact agree_mix | refine agree_upd rfl ?_ | refine agree_updL rfl ?_ _ | refine agree_mixin rfl ?_)) ?_))
          exact ⟨q + 1, rfl, by omega, by omega, hs120.tail⟩
        ·
         try simp only [zA, zB, zC, zD, zE, zF] at h97
         refine w_exit ?_
         refine q_then_exit ?_
         refine q_then_exit ?_
         refine q_blk_this ?_
         refine q_then (hK86 _ _ ?_)
         refine w_seq (fun K122 hK121 => ?_)
         refine w_seq (fun K124 hK123 => ?_)
         refine w_region ?_
         refine w_p (y_assign (v := _) rfl rfl) rfl ?_
         refine w_nil ?_
         refine q_then (hK123 _ _ ?_)
         refine w_block ?_
         refine w_loop [4, 19, 20, 21, 22, 23, 24, 104, 105, 106, 107, 108, 109, 110, 111, 112, 113, 114, 115, 116, 117, 118, 119, 120, 121, 122, 123, 124, 125, 126, 127, 128, 129, 130, 131, 132, 133, 134, 135, 136, 137, 138, 139, 140, 141, 142, 143, 144, 145, 146, 147, 148, 149, 150, 151] [19] (fun kk vs0 w => ∃ (c : Nat), vs0 = [.int .i64 c] ∧ c ≤ b.ctrs.length ∧ kk = b.ctrs.length - c ∧ St w0 w Z) (b.ctrs.length) ?_ ?_
         ·
          exact ⟨0, rfl, by omega, by omega, hs⟩
         ·
          intro k vs μ w127 hI K126 hN125
          clear hs
          obtain ⟨c, rfl, hqa, rfl, hs⟩ := hI
          refine w_seq (fun K129 hK128 => ?_)
          refine w_seq (fun K131 hK130 => ?_)
          refine w_region ?_
          refine w_p (y_move (v := .int _ _) rfl rfl) rfl ?_
          refine w_p (y_move (v := .slice _ _ _) rfl rfl) rfl ?_
          refine w_p (y_lenS Try.underlying50 rfl rfl) rfl ?_
          refine w_p (y_lss rfl rfl rfl rfl) rfl ?_
          refine w_nil ?_
          refine q_then (hK130 _ _ ?_)
          refine w_cond rfl rfl (fun h132 => ?_) (fun h132 => ?_)
          ·
           try simp only [zA, zB, zC, zD, zE, zF] at h132
           refine w_skip ?_
           refine q_then (hK128 _ _ ?_)
           refine w_seq (fun K134 hK133 => ?_)
           refine w_block ?_
           refine w_seq (fun K136 hK135 => ?_)
           have hc2 : c < b.ctrs.length := by omega
           have hpr := past_right hck hx hc2
           obtain ⟨br, or_, hbr, hrx⟩ := sl_boolsR hsRZ (show c < (pastR b x).length by simp [pastR]; omega)
           subst hbr
           rw [pastR_at (by simp [pastR]; omega) hc2] at hrx
           obtain ⟨bV, oV, az, cz, hbV, hvx, hzs⟩ := eb_row hsVZ hEZ hc2
           subst hbV
           refine w_region ?_
           refine w_p (y_loadN (vs := [_, _, _]) Try.isAgg25 Try.sizeOf25 hs rfl rfl hb7) rfl ?_
           refine w_p (y_move (v := .int _ _) rfl rfl) rfl ?_
           refine w_call want_none Try.call23 rfl rfl rfl rfl (c23 (pastB b x) pz hmP (c : Int) hs) ?_
           rintro _ w138 ⟨rfl, hs139⟩
           refine w_p (y_move (v := .tuple _) rfl rfl) rfl ?_
           refine w_p (y_extract (v := .int _ _) rfl rfl rfl) rfl ?_
           refine w_p (y_extract (v := .int _ _) rfl rfl rfl) rfl ?_
           refine w_p (y_assign (v := .int _ _) rfl rfl) rfl ?_
           refine w_p (y_assign (v := .int _ _) rfl rfl) rfl ?_
           refine w_nil ?_
           refine q_then (hK135 _ _ ?_)
           refine w_seq (fun K141 hK140 => ?_)
           refine w_seq (fun K143 hK142 => ?_)
           refine w_region ?_
           refine w_p (y_move (v := .int _ _) rfl rfl) rfl ?_
           refine w_p (y_neq rfl rfl rfl rfl) rfl ?_
           refine w_p (y_move (v := .bool _) rfl rfl) rfl ?_
           refine w_split (fun h144 => ?_) (fun h144 => ?_)
           ·
            exfalso
            try simp only [zA, zB, zC, zD, zE, zF] at h144
            exact h144 hpr.1
           ·
            try simp only [zA, zB, zC, zD, zE, zF] at h144
            refine w_y rfl rfl rfl (y_move (v := .int _ _) rfl rfl) rfl ?_
            refine w_y rfl rfl rfl (y_move (v := .slice _ _ _) rfl rfl) rfl ?_
            refine w_y rfl rfl rfl (y_move (v := .int _ _) rfl rfl) rfl ?_
            refine w_y rfl rfl rfl (y_indexS Try.underlying50 Try.sizeOf4 rfl rfl rfl rfl (i := c) rfl hc2) rfl ?_
            refine w_y rfl rfl rfl (y_load1 Try.isAgg4 hs139 rfl rfl hrx) rfl ?_
            refine w_call (want_yes rfl rfl rfl) Try.call38 rfl rfl rfl rfl (con_false (c38 _ _ hs139) hpr.2) ?_
            rintro _ w146 ⟨rfl, hs147⟩
            refine w_p (y_pickF (v := .bool _) rfl rfl rfl rfl) rfl ?_
            refine w_nil ?_
            refine q_then (hK142 _ _ ?_)
            refine w_condF rfl rfl ?_
            refine w_skip ?_
            refine q_then (hK140 _ _ ?_)
            refine w_seq (fun K149 hK148 => ?_)
            refine w_region ?_
            refine w_p (y_assign (v := _) rfl rfl) rfl ?_
            refine w_nil ?_
            refine q_then (hK148 _ _ ?_)
            refine w_block ?_
            refine w_loop [4, 22, 23, 24, 126, 127, 128, 129, 130, 131, 132, 133, 134, 135, 136, 137, 138, 139, 140, 141, 142, 143, 144, 145, 146, 147, 148, 149, 150, 151] [22] (fun kk vs0 w => ∃ (i : Nat), vs0 = [.int .i64 i] ∧ i ≤ b.hours.length ∧ kk = b.hours.length - i ∧ St w0 w Z) (b.hours.length) ?_ ?_
            ·
             exact ⟨0, rfl, by omega, by omega, hs147⟩
            ·
             intro k vs μ w152 hI K151 hN150
             clear hs
             obtain ⟨i, rfl, hqa, rfl, hs⟩ := hI
             refine w_seq (fun K154 hK153 => ?_)
             refine w_seq (fun K156 hK155 => ?_)
             refine w_region ?_
             refine w_p (y_move (v := .int _ _) rfl rfl) rfl ?_
             refine w_p (y_move (v := .slice _ _ _) rfl rfl) rfl ?_
             refine w_p (y_lenS Try.underlying39 rfl rfl) rfl ?_
             refine w_p (y_lss rfl rfl rfl rfl) rfl ?_
             refine w_nil ?_
             refine q_then (hK155 _ _ ?_)
             refine w_cond rfl rfl (fun h157 => ?_) (fun h157 => ?_)
             ·
              try simp only [zA, zB, zC, zD, zE, zF] at h157
              refine w_skip ?_
              refine q_then (hK153 _ _ ?_)
              refine w_seq (fun K159 hK158 => ?_)
              refine w_block ?_
              refine w_seq (fun K161 hK160 => ?_)
              have hi2 : i < b.hours.length := by omega
              have hpz := past_zero hck hx hc2 hi2
              obtain ⟨bw, ow, hbw, hwx⟩ := sl_boolsR hzs (show i < (pZero b x b.ctrs[c] c b.hours.length).length by simp [pZero]; omega)
              subst hbw
              rw [pZero_at] at hwx
              refine w_region ?_
              refine w_p (y_loadN (vs := [_, _, _]) Try.isAgg25 Try.sizeOf25 hs rfl rfl hb7) rfl ?_
              refine w_p (y_move (v := .int _ _) rfl rfl) rfl ?_
              refine w_p (y_move (v := .int _ _) rfl rfl) rfl ?_
              refine w_call want_none Try.call25 rfl rfl rfl rfl (c25 (pastB b x) pz hmP (c : Int) (i : Int) hs) ?_
              rintro _ w163 ⟨rfl, hs164⟩
              refine w_p (y_move (v := .tuple _) rfl rfl) rfl ?_
              refine w_p (y_extract (v := .int _ _) rfl rfl rfl) rfl ?_
              refine w_p (y_extract (v := .int _ _) rfl rfl rfl) rfl ?_
              refine w_p (y_assign (v := .int _ _) rfl rfl) rfl ?_
              refine w_p (y_assign (v := .int _ _) rfl rfl) rfl ?_
              refine w_nil ?_
              refine q_then (hK160 _ _ ?_)
              refine w_seq (fun K166 hK165 => ?_)
              refine w_region ?_
              refine w_p (y_move (v := .int _ _) rfl rfl) rfl ?_
              refine w_p (y_neq rfl rfl rfl rfl) rfl ?_
              refine w_p (y_move (v := .bool _) rfl rfl) rfl ?_
              refine w_split (fun h167 => ?_) (fun h167 => ?_)
              ·
               exfalso
               try simp only [zA, zB, zC, zD, zE, zF] at h167
               exact h167 hpz.1
              ·
               try simp only [zA, zB, zC, zD, zE, zF] at h167
               refine w_y rfl rfl rfl (y_move (v := .int _ _) rfl rfl) rfl ?_
               refine w_y rfl rfl rfl (y_move (v := .slice _ _ _) rfl rfl) rfl ?_
               refine w_y rfl rfl rfl (y_move (v := .int _ _) rfl rfl) rfl ?_
               refine w_y rfl rfl rfl (y_indexS Try.underlying51 Try.sizeOf50 rfl rfl rfl rfl (i := c) rfl hc2) rfl ?_
               refine w_y rfl rfl rfl (y_load1 Try.isAgg50 hs164 rfl rfl hvx) rfl ?_
               refine w_y rfl rfl rfl (y_move (v := .int _ _) rfl rfl) rfl ?_
               refine w_y rfl rfl rfl (y_indexS Try.underlying50 Try.sizeOf4 rfl rfl rfl rfl (i := i) rfl hi2) rfl ?_
               refine w_y rfl rfl rfl (y_load1 Try.isAgg4 hs164 rfl rfl hwx) rfl ?_
               refine w_call (want_yes rfl rfl rfl) Try.call38 rfl rfl rfl rfl (con_false (c38 _ _ hs164) hpz.2) ?_
               rintro _ w169 ⟨rfl, hs170⟩
               refine w_p (y_pickF (v := .bool _) rfl rfl rfl rfl) rfl ?_
               refine w_nil ?_
               refine q_then (hK165 _ _ ?_)
               refine w_condF rfl rfl ?_
               refine w_skip ?_
               refine q_blk_normal ?_
               refine q_then (hK158 _ _ ?_)
               refine w_region ?_
               refine w_p (y_move (v := .int _ _) rfl rfl) rfl ?_
               refine w_p (y_add rfl rfl rfl rfl (by omega) (by omega)) rfl ?_
               refine w_p (y_assign (v := .int _ _) rfl rfl) rfl ?_
               refine w_nil ?_
               refine q_then (hN150 _ _ (Nx.intro (b.hours.length - (i + 1)) (by omega) (by repeat (first | exact agree_mix | refine agree_upd rfl ?_ | refine agree_updL rfl ?_ _ | refine agree_mixin rfl ?_)) ?_))
               exact ⟨i + 1, rfl, by omega, by omega, hs170⟩
             ·
              try simp only [zA, zB, zC, zD, zE, zF] at h157
              refine w_exit ?_
              refine q_then_exit ?_
              refine q_then_exit ?_
              refine q_blk_this ?_
              refine q_blk_normal ?_
              refine q_then (hK133 _ _ ?_)
              refine w_region ?_
              refine w_p (y_move (v := .int _ _) rfl rfl) rfl ?_
              refine w_p (y_add rfl rfl rfl rfl (by omega) (by omega)) rfl ?_
              refine w_p (y_assign (v := .int _ _) rfl rfl) rfl ?_
              refine w_nil ?_
              refine q_then (hN125 _ _ (Nx.intro (b.ctrs.length - (c + 1)) (by omega) (by repeat (first | exact agree_mix | refine agree_upd rfl ?_ | refine agree_updL rfl ?_ _ | refine agree_mixin rfl ?_)) ?_))
              exact ⟨c + 1, rfl, by omega, by omega, hs⟩
          ·
           try simp only [zA, zB, zC, zD, zE, zF] at h132
           refine w_exit ?_
           refine q_then_exit ?_
           refine q_then_exit ?_
           refine q_blk_this ?_
           refine q_then (hK121 _ _ ?_)
           refine w_seq (fun K172 hK171 => ?_)
           refine w_region ?_
           refine w_call want_none Try.call22 rfl rfl rfl rfl (c22 hs) ?_
           rintro _ w174 ⟨rfl, hs175⟩
           refine w_p (y_assign (v := .bool _) rfl rfl) rfl ?_
           refine w_nil ?_
           refine q_then (hK171 _ _ ?_)
           refine w_ret ?_
           refine q_ret (l := [.tmp 4]) (vs := [_]) rfl ⟨⟨rfl, show _ = (.bool _ : Value) from rfl⟩, trivial⟩ ?_
           exact ⟨rfl, (St.cast hZ hs175).tail.drop.tail.tail⟩

end Go.Proofs
