/- Own texts of this claim, joined. No conditions. -/
import GoSem.Core.Value
import Derived.Test.YtgndnnpadkoagaaHChainTellsa
import Derived.Test.YtgndnnpadkoagaaHChainTellsb
import Derived.Test.YtgndnnpadkoagaaHChainTellsc
import Derived.Test.YtgndnnpadkoagaaHChainTellsd
import Derived.Test.YtgndnnpadkoagaaHChainTellse
import Derived.Test.YtgndnnpadkoagaaHChainTellsf
import Derived.Test.YtgndnnpadkoagaaHChainTellsg
/- Walks of this seat, printed by gen.py over the engine: what each function returns, in whatever world. No conditions but those of each contract. -/
set_option linter.unusedVariables false
set_option linter.unusedSimpArgs false
set_option maxRecDepth 20000
namespace Go.Proofs
open Go.Rt Go.Rt.Ch
open Go.Rt.Ha (firstE firstE_step firstE_stop firstE_end failE nameE felt spanL upto span_mem listL fewest fewTo bit before fewStep drop_lt drop_get drop_next drop_done drop_notin set_take set_zero take_less)
attribute [local irreducible] WL WC Con Yd At Ats Sl Agree DW
theorem Try_Q_fb3  (w : World) : (Instr.buildSlice 23 0 [].toArray).run Try.prog w = .ok (.slice (some ⟨w.heap.size, 0, none⟩) 0 0) (w.alloc (Go.Rt.blk 76 [])) := by kernel_rfl
theorem Try_info76 : Try.prog.info? 76 = some Try.t76 := by kernel_rfl
theorem Try_Q_fb5  (w : World) : (Instr.buildSlice 39 0 [].toArray).run Try.prog w = .ok (.slice (some ⟨w.heap.size, 0, none⟩) 0 0) (w.alloc (Go.Rt.blk 3 [])) := by kernel_rfl
theorem krows_one (l : List Ctr) (q : Nat → AtC) : ∀ row ∈ krows l q, ∀ u ∈ row, u.oneCell' = true := by
  intro row hr u hu
  obtain ⟨i, hi, rfl⟩ := List.getElem_of_mem hr
  simp only [krows, List.getElem_mapIdx, Ctr.cells, List.mem_cons, List.not_mem_nil, or_false] at hu
  rcases hu with rfl | rfl | rfl | rfl | rfl | rfl <;> rfl
theorem ints_rows (l : List Int) : (l.map fun x => [Value.int .i64 x]).flatten = iv l := by induction l with | nil => rfl | cons x l ih => simp only [List.map_cons, List.flatten_cons, ih]; rfl
theorem ints1_one (l : List Int) : ∀ row ∈ l.map (fun x => [Value.int .i64 x]), ∀ u ∈ row, u.oneCell' = true := by
  intro row hr u hu
  obtain ⟨x, _, rfl⟩ := List.mem_map.1 hr
  rw [List.mem_singleton] at hu; subst hu; rfl
/-- Where the counters' lists lie, of which the first so many have been copied. -/
def QC (p : AtB) (qc : Nat → AtC) (i : Nat) : Prop := (∀ j, i ≤ j → qc j = p.pc j) ∧ ∀ j, (qc j).az = (p.pc j).az ∧ (qc j).cz = (p.pc j).cz
def DS (w0 : World) (DB : List (Nat × Obj)) (b : Board) (s : Nat) (qc : Nat → AtC) (i : Nat) : Prop := ∀ k (hk : k < i) (hk2 : k < b.ctrs.length), Sl w0 DB (qc k).as 1 ((butC b.hours.length s k b.ctrs[k]).shown.map fun x => [Value.int .i64 x]) ∧ b.ctrs[k].shown.length ≤ (qc k).cs
theorem qc_zero (p : AtB) : QC p p.pc 0 := ⟨fun _ _ => rfl, fun _ => ⟨rfl, rfl⟩⟩
theorem QC.next {p : AtB} {qc : Nat → AtC} {i : Nat} (h : QC p qc i) (a : Option Addr) (c : Nat) : QC p (setPc qc i a c) (i + 1) := by
  refine ⟨fun j hj => ?_, fun j => ?_⟩
  · unfold setPc; rw [if_neg (by omega)]; exact h.1 j (by omega)
  · unfold setPc
    split
    · rename_i e; subst e; exact h.2 j
    · exact h.2 j
theorem ds_zero (w0 : World) (b : Board) (s : Nat) (qc : Nat → AtC) : DS w0 [] b s qc 0 := fun k hk => by omega
theorem DS.next {w0 : World} {DB B2 : List (Nat × Obj)} {b : Board} {s i : Nat} {qc : Nat → AtC} (h : DS w0 DB b s qc i) {a : Option Addr} {c : Nat} (hi : i < b.ctrs.length) (h2 : Sl w0 B2 a 1 ((butC b.hours.length s i b.ctrs[i]).shown.map fun x => [Value.int .i64 x])) (hc : b.ctrs[i].shown.length ≤ c) : DS w0 (B2 ++ DB) b s (setPc qc i a c) (i + 1) := by
  intro k hk hk2
  unfold setPc
  by_cases e : k = i
  · subst e
    rw [if_pos rfl]
    exact ⟨h2.top, hc⟩
  · rw [if_neg e]
    exact ⟨(h k (by omega) hk2).1.app, (h k (by omega) hk2).2⟩
theorem own_int_sl {w0 : World} {a : Option Addr} {n c : Nat} {l : List Int} {B : List (Nat × Obj)} (h : Rt.Own (.slice a n c) 3 1 n (iv l) B) (hl : l.length = n) : Sl w0 B a 1 (l.map fun x => [Value.int .i64 x]) ∧ n ≤ c := by
  obtain ⟨a', c', h1, h2, h3, _⟩ := own_rows0 (w0 := w0) (rows := l.map fun x => [Value.int .i64 x]) h (by intro row hr; obtain ⟨x, _, rfl⟩ := List.mem_map.1 hr; rfl) (by rw [List.length_map, hl]) (ints_rows l).symm
  injection h1 with e1 _ e3
  subst e1 e3
  exact ⟨h2, h3⟩
theorem drop_set_cell {cs : List Value} {k : Nat} {v : Value} (h : k < cs.length) : ((cs.set k v).drop k).take [v].length = [v] := by
  rw [List.drop_eq_getElem_cons (by simpa using h)]
  simp
theorem take_get {cs : List Value} {l : List Int} {m k : Nat} (h : cs.take (m * 1) = iv l) (hl : l.length = m) (hk : k < m) : (cs.drop (0 + k * 1)).take 1 = [.int .i64 (l.getD k 0)] := by
  have hlen : k < cs.length := by
    have := congrArg List.length h
    rw [List.length_take, List.length_map] at this; omega
  rw [Nat.mul_one, Nat.zero_add, List.drop_eq_getElem_cons hlen]
  have h2 : (cs.take (m * 1))[k]? = (iv l)[k]? := by rw [h]
  rw [List.getElem?_take, if_pos (by omega), List.getElem?_eq_getElem hlen] at h2
  simp only [iv, List.getElem?_map, List.getElem?_eq_getElem (show k < l.length by omega), Option.map_some, Option.some.injEq] at h2
  simp [h2, List.getD, show k < l.length by omega]
theorem take_put {cs : List Value} {l : List Int} {m k : Nat} {z : Int} (h : cs.take (m * 1) = iv l) : (setMany cs (0 + k * 1) [.int .i64 z]).take (m * 1) = iv (l.set k z) := by
  simp only [setMany, Nat.zero_add, Nat.mul_one]
  rw [List.take_set]
  rw [Nat.mul_one] at h
  rw [h]; simp [iv, List.map_set]
theorem but_bin {w0 : World} {F B1 DB : List (Nat × Obj)} {b : Board} {p : AtB} {s i cC : Nat} {aC : Option Addr} {qc : Nat → AtC} (hm : BIn w0 F b p) (hi : b.ctrs.length ≤ i) (hown : Rt.Own (.slice aC b.ctrs.length cC) 76 6 b.ctrs.length (krows (BL b s i) qc).flatten B1) (hq : QC p qc i) (hd : DS w0 DB b s qc i) : BIn w0 (B1 ++ (DB ++ F)) (butB b s) ⟨p.ah, p.ch, aC, cC, qc⟩ := by
  rw [BL_all hi] at hown
  obtain ⟨a', c', h1, h2, h3, _⟩ := own_rows0 (w0 := w0) (rows := krows (butB b s).ctrs qc) hown (krows_row _ _) (by rw [krows_len, butB_len]) rfl
  injection h1 with e1 _ e3
  subst e1 e3
  refine ⟨hm.h.app.app, h2.top, fun k hk => ?_, fun k hk => ?_, hm.lh, by rw [butB_len]; exact hm.lc, hm.ch, by rw [butB_len]; exact h3, fun k hk => ?_, fun k hk => ?_, fun x hx => ?_⟩
  · have hk2 : k < b.ctrs.length := by rw [butB_len] at hk; exact hk
    rw [butB_get hk2, show (qc k).az = (p.pc k).az from (hq.2 k).1]; exact (hm.z k hk2).app.app
  · have hk2 : k < b.ctrs.length := by rw [butB_len] at hk; exact hk
    rw [butB_get hk2]; exact (hd k (by omega) hk2).1.top.app
  · have hk2 : k < b.ctrs.length := by rw [butB_len] at hk; exact hk
    rw [butB_get hk2, show (qc k).cz = (p.pc k).cz from (hq.2 k).2]; exact hm.lz k hk2
  · have hk2 : k < b.ctrs.length := by rw [butB_len] at hk; exact hk
    rw [butB_get hk2, butC_slen]; exact ⟨(hm.ls k hk2).1, (hd k (by omega) hk2).2⟩
  · obtain ⟨k, hk, rfl⟩ := List.getElem_of_mem hx
    have hk2 : k < b.ctrs.length := by rw [butB_len] at hk; exact hk
    rw [butB_get hk2]; exact hm.nm b.ctrs[k] (List.getElem_mem hk2)
theorem c85 {w0 w : World} {F : List (Nat × Obj)} (a : Option Addr) (c : Nat) (l : List Ctr) (q : Nat → AtC) (hl : l.length ≤ 1000000) (ha : Sl w0 F a 6 (krows l q)) (hs : St w0 w F) :
  Con Try.prog 85 [.slice a l.length c] w fun v w' => ∃ a2 c2 B', v = .slice a2 l.length c2 ∧ Rt.Own (.slice a2 l.length c2) 76 6 l.length (krows l q).flatten B' ∧ St w0 w' (B' ++ F) := by
  refine con_of_wc (n := 8) Try.func85 rfl rfl (Nat.le_of_ble_eq_true rfl) ?_
  refine w_seq (fun K2 hK1 => ?_)
  refine w_region ?_
  refine w_p (y_assign (v := _) rfl rfl) rfl ?_
  refine w_nil ?_
  refine q_then (hK1 _ _ ?_)
  refine w_seq (fun K4 hK3 => ?_)
  refine w_seq (fun K6 hK5 => ?_)
  refine w_region ?_
  refine w_p (y_move (v := .slice _ _ _) rfl rfl) rfl ?_
  refine w_p (y_sliceNil Try.underlying23 rfl rfl rfl rfl) rfl ?_
  refine w_nil ?_
  refine q_then (hK5 _ _ ?_)
  refine w_cond rfl rfl (fun h7 => ?_) (fun h7 => ?_)
  ·
   try simp only [zA, zB, zC, zD, zE, zF] at h7
   refine w_seq (fun K9 hK8 => ?_)
   refine w_region ?_
   refine w_p (y_assign (v := _) rfl rfl) rfl ?_
   refine w_nil ?_
   refine q_then (hK8 _ _ ?_)
   refine w_ret ?_
   refine q_then_ret ?_
   refine q_ret (l := [.tmp 2]) (vs := [_]) rfl ⟨⟨rfl, show _ = (.slice _ _ _ : Value) from rfl⟩, trivial⟩ ?_
   have hr := sl_none (L := F) (w0 := w0) (by have : a = none := (by simpa using ‹a.isNone = true›); subst this; exact ha)
   have hl0 : l = [] := by simpa [krows] using hr
   subst hl0
   exact ⟨none, 0, [], rfl, own_nil 76 6, hs⟩
  ·
   try simp only [zA, zB, zC, zD, zE, zF] at h7
   refine w_skip ?_
   refine q_then (hK3 _ _ ?_)
   refine w_seq (fun K11 hK10 => ?_)
   refine w_region ?_
   refine w_bslice (ps := []) (pv := []) (cs := []) want_none rfl rfl (fun w => Try_Q_fb3  w) hs (fun b12 w13 hs14 => ?_)
   refine w_p (y_move (v := .slice _ _ _) rfl rfl) rfl ?_
   refine w_append (X := ([])) (B := [_]) (rows := krows l q) (sz := 6) (bytes := 88) want_none Try.underlying23 Try_info76 rfl rfl rfl rfl rfl rfl rfl rfl rfl hs14 own_made ha.cons (by simp [krows]) (fun h => by subst h; simp at h7) (krows_one l q) (by simp only [maxLen]; omega) (by omega) (fun v15 w16 B17 ho18 hs19 => ?_)
   replace hs19 := (show St _ _ (B17 ++ (F)) from hs19)
   refine w_p (y_assign (v := v15) rfl rfl) rfl ?_
   refine w_nil ?_
   refine q_then (hK10 _ _ ?_)
   refine w_ret ?_
   refine q_ret (l := [.tmp 2]) (vs := [_]) rfl ⟨⟨rfl, show _ = (v15 : Value) from rfl⟩, trivial⟩ ?_
   rw [Nat.zero_add, List.nil_append] at ho18
   have h9 := ho18
   obtain ⟨a2, c2, rfl⟩ := h9.slice
   exact ⟨a2, c2, _, rfl, h9, hs19⟩

theorem c86 {w0 w : World} {F : List (Nat × Obj)} (a : Option Addr) (c : Nat) (l : List Int) (hl : l.length ≤ 1000000) (ha : Sl w0 F a 1 (l.map fun x => [Value.int .i64 x])) (hs : St w0 w F) :
  Con Try.prog 86 [.slice a l.length c] w fun v w' => ∃ a2 c2 B', v = .slice a2 l.length c2 ∧ Rt.Own (.slice a2 l.length c2) 3 1 l.length (iv l) B' ∧ St w0 w' (B' ++ F) := by
  refine con_of_wc (n := 8) Try.func86 rfl rfl (Nat.le_of_ble_eq_true rfl) ?_
  refine w_seq (fun K2 hK1 => ?_)
  refine w_region ?_
  refine w_p (y_assign (v := _) rfl rfl) rfl ?_
  refine w_nil ?_
  refine q_then (hK1 _ _ ?_)
  refine w_seq (fun K4 hK3 => ?_)
  refine w_seq (fun K6 hK5 => ?_)
  refine w_region ?_
  refine w_p (y_move (v := .slice _ _ _) rfl rfl) rfl ?_
  refine w_p (y_sliceNil Try.underlying39 rfl rfl rfl rfl) rfl ?_
  refine w_nil ?_
  refine q_then (hK5 _ _ ?_)
  refine w_cond rfl rfl (fun h7 => ?_) (fun h7 => ?_)
  ·
   try simp only [zA, zB, zC, zD, zE, zF] at h7
   refine w_seq (fun K9 hK8 => ?_)
   refine w_region ?_
   refine w_p (y_assign (v := _) rfl rfl) rfl ?_
   refine w_nil ?_
   refine q_then (hK8 _ _ ?_)
   refine w_ret ?_
   refine q_then_ret ?_
   refine q_ret (l := [.tmp 2]) (vs := [_]) rfl ⟨⟨rfl, show _ = (.slice _ _ _ : Value) from rfl⟩, trivial⟩ ?_
   have hr := sl_none (L := F) (w0 := w0) (by have : a = none := (by simpa using ‹a.isNone = true›); subst this; exact ha)
   have hl0 : l = [] := by simpa [krows] using hr
   subst hl0
   exact ⟨none, 0, [], rfl, own_nil 3 1, hs⟩
  ·
   try simp only [zA, zB, zC, zD, zE, zF] at h7
   refine w_skip ?_
   refine q_then (hK3 _ _ ?_)
   refine w_seq (fun K11 hK10 => ?_)
   refine w_region ?_
   refine w_bslice (ps := []) (pv := []) (cs := []) want_none rfl rfl (fun w => Try_Q_fb5  w) hs (fun b12 w13 hs14 => ?_)
   refine w_p (y_move (v := .slice _ _ _) rfl rfl) rfl ?_
   refine w_append (X := ([])) (B := [_]) (rows := (l.map fun x => [Value.int .i64 x])) (sz := 1) (bytes := 8) want_none Try.underlying39 Try_info3 rfl rfl rfl rfl rfl rfl rfl rfl rfl hs14 own_made ha.cons (by simp) (fun h => by subst h; simp at h7) (ints1_one l) (by simp only [maxLen]; omega) (by omega) (fun v15 w16 B17 ho18 hs19 => ?_)
   replace hs19 := (show St _ _ (B17 ++ (F)) from hs19)
   refine w_p (y_assign (v := v15) rfl rfl) rfl ?_
   refine w_nil ?_
   refine q_then (hK10 _ _ ?_)
   refine w_ret ?_
   refine q_ret (l := [.tmp 2]) (vs := [_]) rfl ⟨⟨rfl, show _ = (v15 : Value) from rfl⟩, trivial⟩ ?_
   rw [Nat.zero_add, List.nil_append] at ho18
   have h9 := ho18
   obtain ⟨a2, c2, rfl⟩ := h9.slice
   exact ⟨a2, c2, _, rfl, (by rw [ints_rows] at h9; exact h9), hs19⟩

theorem c83 {w0 w : World} {F : List (Nat × Obj)} (b : Board) (p : AtB) (hm : BIn w0 F b p) (hck : (check b).2.2 = 0) (s : Nat) (hs1k : s < 1000) (bq bh : Nat) (h1 : Ats w0 F bq 0 (b.cells p)) (h2 : Ats w0 F bh 0 [.int .i64 (b.hours.length : Int)]) (hs : St w0 w F) :
  Con Try.prog 83 [.int .i64 (s : Int), .pointer (some ⟨bq, 0, none⟩), .pointer (some ⟨bh, 0, none⟩)] w fun v w' => v = .bool (wrongS b s) ∧ St w0 w' F := by
  refine con_of_wc (n := 73) Try.func83 rfl rfl (Nat.le_of_ble_eq_true rfl) ?_
  have hok := check_ok hck
  have hlh := hok.lh
  have hlc := hok.lc
  refine w_seq (fun K2 hK1 => ?_)
  refine w_region ?_
  refine w_p (y_assign (v := _) rfl rfl) rfl ?_
  refine w_nil ?_
  refine q_then (hK1 _ _ ?_)
  refine w_seq (fun K4 hK3 => ?_)
  refine w_region ?_
  refine w_p (y_loadN (vs := [_, _, _]) Try.isAgg25 Try.sizeOf25 hs rfl rfl h1) rfl ?_
  refine w_call want_none Try.call84 rfl rfl rfl rfl (c84 b p hs) ?_
  rintro _ w6 ⟨bb, mm, rfl, hs7⟩
  replace hs7 := (show St _ _ (_ :: _ :: F) from hs7)
  refine w_p (y_assign (v := .pointer _) rfl rfl) rfl ?_
  refine w_nil ?_
  refine q_then (hK3 _ _ ?_)
  refine w_seq (fun K9 hK8 => ?_)
  refine w_region ?_
  refine w_p (y_move (v := .pointer _) rfl rfl) rfl ?_
  refine w_p (y_fieldAddr (o := 2) (i := 2) Try.underlying25 rfl Try.sizeOf23 rfl rfl rfl) rfl ?_
  refine w_p (y_load1 Try.isAgg23 hs7.tail.tail rfl rfl (show Ats _ _ _ _ [_] from Ats.part h1 2 1)) rfl ?_
  refine w_call want_none Try.call85 rfl rfl rfl rfl (c85 _ _ b.ctrs p.pc (by omega) hm.c.cons.cons hs7) ?_
  rintro _ w11 ⟨aC, cC, B1, rfl, hown, hs12⟩
  have hs13 := (show St _ _ (B1 ++ ([_, _] ++ F)) from hs12).perm (perm_mid B1 [_, _] F)
  replace hs13 := (show St _ _ (_ :: _ :: B1 ++ (F)) from hs13)
  refine w_p (y_nilCheck rfl rfl) rfl ?_
  refine w_p (y_fieldAddr (o := 0) (i := 0) Try.underlying129 rfl Try.sizeOf25 rfl rfl rfl) rfl ?_
  refine w_p (y_fieldAddr (o := 2) (i := 2) Try.underlying25 rfl Try.sizeOf23 rfl rfl rfl) rfl ?_
  refine w_store (i := 0) (v := .slice _ _ _) (vs := [_]) want_none Try.sizeOf23 rfl rfl rfl rfl rfl (by simp [Value.oneCell']) hs13 rfl (Nat.le_of_ble_eq_true rfl) (fun w14 hs15 => ?_)
  refine w_nil ?_
  refine q_then (hK8 _ _ ?_)
  refine w_seq (fun K17 hK16 => ?_)
  refine w_seq (fun K19 hK18 => ?_)
  refine w_region ?_
  refine w_p (y_move (v := .pointer _) rfl rfl) rfl ?_
  refine w_p (y_nilCheck rfl rfl) rfl ?_
  refine w_p (y_fieldAddr (o := 0) (i := 0) Try.underlying129 rfl Try.sizeOf25 rfl rfl rfl) rfl ?_
  refine w_p (y_fieldAddr (o := 2) (i := 2) Try.underlying25 rfl Try.sizeOf23 rfl rfl rfl) rfl ?_
  refine w_p (y_load1 Try.isAgg23 hs15 rfl rfl (ats_own (i := 0) (vs := [_]) rfl rfl)) rfl ?_
  refine w_p (y_lenS Try.underlying23 rfl rfl) rfl ?_
  refine w_p (y_move (v := _) rfl rfl) rfl ?_
  refine w_nil ?_
  refine q_then (hK18 _ _ ?_)
  refine w_block ?_
  refine w_loop [4, 6, 7, 8, 24, 25, 26, 27, 28, 29, 30, 31, 32, 33, 34, 35, 36, 37, 38, 39, 40, 41, 42, 43, 44, 45, 46, 47, 48, 49, 50, 51, 52, 53, 54, 55, 56, 57, 58, 59, 60, 61, 62, 63, 64, 65, 66, 67, 68, 69, 70] [24] (fun kk vs w => ∃ (i : Nat) (B1 DB : List (Nat × Obj)) (qc : Nat → AtC), vs = [.int .i64 i] ∧ i ≤ b.ctrs.length ∧ kk = b.ctrs.length - i ∧ Rt.Own (.slice aC b.ctrs.length cC) 76 6 b.ctrs.length (krows (BL b s i) qc).flatten B1 ∧ QC p qc i ∧ DS w0 DB b s qc i ∧ WOK b s (i * b.hours.length + 0) ∧ St w0 w ((bb, blk 129 [.int .i64 b.holds, .slice p.ah b.hours.length p.ch, .slice aC b.ctrs.length cC, .map (some mm)]) :: (mm, .map #[] 0) :: (B1 ++ (DB ++ F)))) (b.ctrs.length) ?_ ?_
  ·
   exact ⟨0, B1, [], p.pc, rfl, by omega, by omega, by rw [BL_zero]; exact hown, qc_zero p, ds_zero w0 b s _, (fun j hj => by omega), hs15⟩
  ·
   intro k vs μ w22 hI K21 hN20
   clear hs hown
   obtain ⟨i, B1, DB, qc, rfl, hia, rfl, hown, hqc, hds, hwk, hs⟩ := hI
   refine w_seq (fun K24 hK23 => ?_)
   refine w_region ?_
   refine w_p (y_lss rfl rfl rfl rfl) rfl ?_
   refine w_nil ?_
   refine q_then (hK23 _ _ ?_)
   refine w_seq (fun K26 hK25 => ?_)
   refine w_cond rfl rfl (fun h27 => ?_) (fun h27 => ?_)
   ·
    try simp only [zA, zB, zC, zD, zE, zF] at h27
    refine w_skip ?_
    refine q_then (hK25 _ _ ?_)
    refine w_seq (fun K29 hK28 => ?_)
    refine w_block ?_
    refine w_seq (fun K31 hK30 => ?_)
    refine w_region ?_
    refine w_p (y_move (v := .int _ _) rfl rfl) rfl ?_
    refine w_p (y_assign (v := .int _ _) rfl rfl) rfl ?_
    refine w_nil ?_
    refine q_then (hK30 _ _ ?_)
    refine w_seq (fun K33 hK32 => ?_)
    have hi2 : i < b.ctrs.length := by omega
    have hci := hok.ctr _ (List.getElem_mem hi2)
    have hlz := hci.ls
    obtain ⟨bc, cs, rfl, rfl, hcap, hcapm, hcl, htk⟩ := own_some2 hown (by omega)
    replace hs := (show St _ _ (_ :: _ :: _ :: DB ++ (F)) from hs)
    obtain ⟨bx, ox, hbx2, hrow⟩ := sl_krows (sl_own (w0 := w0) (L := (bc, blk 76 cs) :: (DB ++ F)) (i := 0) rfl (krows_row (BL b s i) qc) (by rw [krows_len, BL_len (by omega)]; exact htk)) (i := i) (by rw [BL_len (by omega)]; exact hi2)
    cases hbx2
    rw [BL_get hi2, hqc.1 i (Nat.le_refl _)] at hrow
    refine w_region ?_
    refine w_p (y_move (v := .pointer _) rfl rfl) rfl ?_
    refine w_p (y_nilCheck rfl rfl) rfl ?_
    refine w_p (y_fieldAddr (o := 0) (i := 0) Try.underlying129 rfl Try.sizeOf25 rfl rfl rfl) rfl ?_
    refine w_p (y_fieldAddr (o := 2) (i := 2) Try.underlying25 rfl Try.sizeOf23 rfl rfl rfl) rfl ?_
    refine w_p (y_load1 Try.isAgg23 hs rfl rfl (ats_own (i := 0) (vs := [_]) rfl rfl)) rfl ?_
    refine w_p (y_move (v := .int _ _) rfl rfl) rfl ?_
    refine w_p (y_indexS Try.underlying23 Try.sizeOf76 rfl rfl rfl rfl (i := i) rfl hi2) rfl ?_
    refine w_p (y_assign (v := .pointer _) rfl rfl) rfl ?_
    refine w_nil ?_
    refine q_then (hK32 _ _ ?_)
    refine w_seq (fun K35 hK34 => ?_)
    refine w_region ?_
    refine w_p (y_move (v := .pointer _) rfl rfl) rfl ?_
    refine w_p (y_move (v := .pointer _) rfl rfl) rfl ?_
    refine w_p (y_nilCheck rfl rfl) rfl ?_
    refine w_p (y_fieldAddr (o := 5) (i := 5) Try.underlying76 rfl Try.sizeOf39 rfl rfl rfl) rfl ?_
    refine w_p (y_load1 Try.isAgg39 hs.tail.tail rfl rfl (show Ats _ _ _ _ [_] from Ats.part hrow 5 1)) rfl ?_
    refine w_call want_none Try.call86 rfl rfl rfl rfl (c86 _ _ (b.ctrs[i]'hi2).shown (by omega) (hm.s i hi2).app.cons.cons.cons hs) ?_
    rintro _ w37 ⟨a2, c2, B2, rfl, hown2, hs38⟩
    have hs39 := (show St _ _ (B2 ++ ([_, _, _] ++ (DB ++ F))) from hs38).perm (perm_mid B2 [_, _, _] (DB ++ F))
    replace hs39 := (show St _ _ (_ :: _ :: _ :: B2 ++ (DB ++ (F))) from hs39)
    refine w_p (y_nilCheck rfl rfl) rfl ?_
    refine w_p (y_fieldAddr (o := 5) (i := 5) Try.underlying76 rfl Try.sizeOf39 rfl rfl rfl) rfl ?_
    refine w_store (i := 2) (v := .slice _ _ _) (vs := [_]) want_none Try.sizeOf39 rfl rfl rfl rfl rfl (by simp [Value.oneCell']) hs39 rfl (by show 0 + i * 6 + 5 + 1 ≤ cs.length; omega) (fun w40 hs41 => ?_)
    replace hs41 := (show St _ _ (_ :: _ :: (bc, blk 76 (setMany cs (0 + i * 6 + 5) [(Value.slice a2 (b.ctrs[i]'hi2).shown.length c2)])) :: (B2 ++ (DB ++ F))) from hs41)
    have he0 : setMany cs (0 + i * 6 + 5) [(Value.slice a2 (b.ctrs[i]'hi2).shown.length c2)] = cs.set (i * 6 + 5) (Value.slice a2 (b.ctrs[i]'hi2).shown.length c2) := by simp only [setMany, Nat.zero_add]
    rw [he0] at hs41
    obtain ⟨cs1, hcs1⟩ : ∃ cs1, cs1 = cs.set (i * 6 + 5) (Value.slice a2 (b.ctrs[i]'hi2).shown.length c2) := ⟨_, rfl⟩
    rw [← hcs1] at hs41
    have hcell : (cs1.drop (0 + i * 6 + 5)).take [(Value.slice a2 (b.ctrs[i]'hi2).shown.length c2)].length = [(Value.slice a2 (b.ctrs[i]'hi2).shown.length c2)] := by rw [hcs1, Nat.zero_add]; exact drop_set_cell (by omega)
    refine w_nil ?_
    refine q_then (hK34 _ _ ?_)
    refine w_seq (fun K43 hK42 => ?_)
    refine w_region ?_
    refine w_p (y_load1 Try.isAgg3 hs41.tail.tail.tail.drop.drop rfl rfl h2) rfl ?_
    refine w_p (y_move (v := _) rfl rfl) rfl ?_
    refine w_nil ?_
    refine q_then (hK42 _ _ ?_)
    refine w_block ?_
    refine w_loop [4, 8, 43, 44, 45, 46, 47, 48, 49, 50, 51, 52, 53, 54, 55, 56, 57, 58, 59, 60, 61, 62, 63, 64, 65, 66, 67, 68, 69] [43] (fun kk vs w => ∃ (k : Nat) (B2 : List (Nat × Obj)), vs = [.int .i64 k] ∧ k ≤ b.hours.length ∧ kk = b.hours.length - k ∧ Rt.Own (Value.slice a2 (b.ctrs[i]'hi2).shown.length c2) 3 1 (b.ctrs[i]'hi2).shown.length (iv (shPart b.hours.length s i k (b.ctrs[i]'hi2).shown)) B2 ∧ WOK b s (i * b.hours.length + k) ∧ St w0 w ((bb, blk 129 [.int .i64 b.holds, .slice p.ah b.hours.length p.ch, .slice (some ⟨bc, 0, none⟩) b.ctrs.length cC, .map (some mm)]) :: (mm, .map #[] 0) :: (bc, blk 76 cs1) :: (B2 ++ (DB ++ F)))) (b.hours.length) ?_ ?_
    ·
     exact ⟨0, B2, rfl, by omega, by omega, by rw [shPart_zero]; exact hown2, hwk, hs41⟩
    ·
     intro k vs μ w46 hI K45 hN44
     clear hs hown2
     obtain ⟨k, B2, rfl, hka, rfl, hown2, hwk2, hs⟩ := hI
     refine w_seq (fun K48 hK47 => ?_)
     refine w_region ?_
     refine w_p (y_lss rfl rfl rfl rfl) rfl ?_
     refine w_nil ?_
     refine q_then (hK47 _ _ ?_)
     refine w_seq (fun K50 hK49 => ?_)
     refine w_cond rfl rfl (fun h51 => ?_) (fun h51 => ?_)
     ·
      try simp only [zA, zB, zC, zD, zE, zF] at h51
      refine w_skip ?_
      refine q_then (hK49 _ _ ?_)
      refine w_seq (fun K53 hK52 => ?_)
      refine w_block ?_
      refine w_seq (fun K55 hK54 => ?_)
      refine w_region ?_
      refine w_p (y_move (v := .int _ _) rfl rfl) rfl ?_
      refine w_p (y_assign (v := .int _ _) rfl rfl) rfl ?_
      refine w_nil ?_
      refine q_then (hK54 _ _ ?_)
      refine w_seq (fun K57 hK56 => ?_)
      refine w_seq (fun K59 hK58 => ?_)
      have hk2 : k < b.hours.length := by omega
      have hm8 := mul_in8 hlh hlc hi2 hk2
      have hmi : ((i : Int) * (b.hours.length : Int)) = ((i * b.hours.length : Nat) : Int) := by push_cast; rfl
      refine w_region ?_
      refine w_p (y_move (v := .int _ _) rfl rfl) rfl ?_
      refine w_p (y_move (v := .int _ _) rfl rfl) rfl ?_
      refine w_p (y_load1 Try.isAgg3 hs.tail.tail.tail.drop.drop rfl rfl h2) rfl ?_
      refine w_p (yd_cast (z' := ((i * b.hours.length : Nat) : Int)) hmi (y_mul rfl rfl rfl rfl (by omega) (by omega))) rfl ?_
      refine w_p (y_move (v := .int _ _) rfl rfl) rfl ?_
      refine w_p (yd_cast (z' := ((i * b.hours.length + k : Nat) : Int)) (by omega) (y_add rfl rfl rfl rfl (by omega) (by omega))) rfl ?_
      refine w_p (y_shr (x := s) (y := i * b.hours.length + k) rfl rfl rfl rfl (by first | rfl | omega) (by first | rfl | omega) (by first | omega | exact shr_lt (by omega))) rfl ?_
      refine w_p (show Yd _ _ _ _ (.int .i64 ((bit s (i * b.hours.length + k) : Nat) : Int)) from (y_and (x := _) (y := 1) rfl rfl rfl rfl rfl rfl (by first | omega | exact shr_lt (by omega)) (by first | omega | exact shr_lt (by omega)))) rfl ?_
      refine w_p (y_eql rfl rfl rfl rfl) rfl ?_
      refine w_nil ?_
      refine q_then (hK58 _ _ ?_)
      refine w_cond rfl rfl (fun h60 => ?_) (fun h60 => ?_)
      ·
       try simp only [zA, zB, zC, zD, zE, zF] at h60
       refine w_exit ?_
       refine q_then_exit ?_
       refine q_blk_this ?_
       refine q_then (hK52 _ _ ?_)
       refine w_region ?_
       refine w_p (y_add rfl rfl rfl rfl (by omega) (by omega)) rfl ?_
       refine w_p (y_move (v := .int _ _) rfl rfl) rfl ?_
       refine w_nil ?_
       refine q_then (hN44 _ _ (Nx.intro (b.hours.length - (k + 1)) (by omega) (by repeat (first | exact agree_mix | refine agree_upd rfl ?_ | refine agree_updL rfl ?_ _ | refine agree_mixin rfl ?_)) ?_))
       exact ⟨k + 1, B2, rfl, by omega, rfl, by rw [← shPart_no (by omega)]; exact hown2, wok_no hwk2 (by omega), hs⟩
      ·
       try simp only [zA, zB, zC, zD, zE, zF] at h60
       refine w_skip ?_
       refine q_then (hK56 _ _ ?_)
       refine w_seq (fun K62 hK61 => ?_)
       refine w_seq (fun K64 hK63 => ?_)
       have hk2 : k < b.hours.length := by omega
       obtain ⟨d, cs2, rfl, rfl, hcap2, hcapm2, hcl2, htk2⟩ := own_some2 hown2 (by omega)
       replace hs := (show St _ _ (_ :: _ :: _ :: _ :: DB ++ (F)) from hs)
       refine w_region ?_
       refine w_p (y_move (v := .pointer _) rfl rfl) rfl ?_
       refine w_p (y_nilCheck rfl rfl) rfl ?_
       refine w_p (y_fieldAddr (o := 5) (i := 5) Try.underlying76 rfl Try.sizeOf39 rfl rfl rfl) rfl ?_
       refine w_p (y_load1 Try.isAgg39 hs rfl rfl (ats_own (i := 2) (vs := [_]) rfl hcell)) rfl ?_
       refine w_p (y_move (v := .int _ _) rfl rfl) rfl ?_
       refine w_p (y_indexS Try.underlying39 Try.sizeOf3 rfl rfl rfl rfl (i := k) rfl (by omega)) rfl ?_
       refine w_p (y_load1 Try.isAgg3 hs rfl rfl (ats_own (i := 3) (vs := [_]) rfl (take_get htk2 (by rw [shPart_len]) (by omega)))) rfl ?_
       refine w_p (y_eql rfl rfl rfl rfl) rfl ?_
       refine w_nil ?_
       refine q_then (hK63 _ _ ?_)
       refine w_cond rfl rfl (fun h65 => ?_) (fun h65 => ?_)
       ·
        try simp only [zA, zB, zC, zD, zE, zF] at h65
        refine w_seq (fun K67 hK66 => ?_)
        refine w_region ?_
        refine w_p (y_assign (v := _) rfl rfl) rfl ?_
        refine w_nil ?_
        refine q_then (hK66 _ _ ?_)
        refine w_ret ?_
        refine q_then_ret ?_
        refine q_blk_ret ?_
        refine q_then_ret ?_
        refine q_then_ret ?_
        refine q_blk_ret ?_
        refine q_blk_ret ?_
        refine q_then_ret ?_
        refine q_then_ret ?_
        refine q_blk_ret ?_
        refine q_then_ret ?_
        refine q_ret (l := [.tmp 4]) (vs := [_]) rfl ⟨⟨rfl, show _ = (.bool _ : Value) from rfl⟩, trivial⟩ ?_
        exact ⟨congrArg Value.bool (wrongS_no hi2 hk2 (by have := bit_lt2 s (i * b.hours.length + k); omega) (by rw [← shPart_get (n := b.hours.length) (s := s) (i := i) (by omega)]; assumption)).symm, hs.tail.tail.tail.tail.drop⟩
       ·
        try simp only [zA, zB, zC, zD, zE, zF] at h65
        refine w_skip ?_
        refine q_then (hK61 _ _ ?_)
        refine w_region ?_
        refine w_p (y_move (v := .pointer _) rfl rfl) rfl ?_
        refine w_p (y_nilCheck rfl rfl) rfl ?_
        refine w_p (y_fieldAddr (o := 5) (i := 5) Try.underlying76 rfl Try.sizeOf39 rfl rfl rfl) rfl ?_
        refine w_p (y_load1 Try.isAgg39 hs rfl rfl (ats_own (i := 2) (vs := [_]) rfl hcell)) rfl ?_
        refine w_p (y_move (v := .int _ _) rfl rfl) rfl ?_
        refine w_p (y_indexS Try.underlying39 Try.sizeOf3 rfl rfl rfl rfl (i := k) rfl (by omega)) rfl ?_
        refine w_store (i := 3) (v := .int _ _) (vs := [_]) want_none Try.sizeOf3 rfl rfl rfl rfl rfl (by simp [Value.oneCell']) hs rfl (by show 0 + k * 1 + 1 ≤ cs2.length; omega) (fun w68 hs69 => ?_)
        refine w_nil ?_
        refine q_blk_normal ?_
        refine q_then (hK52 _ _ ?_)
        refine w_region ?_
        refine w_p (y_add rfl rfl rfl rfl (by omega) (by omega)) rfl ?_
        refine w_p (y_move (v := .int _ _) rfl rfl) rfl ?_
        refine w_nil ?_
        refine q_then (hN44 _ _ (Nx.intro (b.hours.length - (k + 1)) (by omega) (by repeat (first | exact agree_mix | refine agree_upd rfl ?_ | refine agree_updL rfl ?_ _ | refine agree_mixin rfl ?_)) ?_))
        exact ⟨k + 1, [(d, blk 3 (setMany cs2 (0 + k * 1) [.int .i64 (-1)]))], rfl, by omega, rfl, own_mk (by rw [List.length_map, shPart_len]; omega) hcap2 hcapm2 (by rw [setMany_len]; exact hcl2) (by rw [← shPart_yes (by omega) (by have := bit_lt2 s (i * b.hours.length + k); omega)]; exact take_put htk2), wok_yes hi2 hk2 hwk2 (by rw [← shPart_get (n := b.hours.length) (s := s) (i := i) (by omega)]; assumption), hs69⟩
     ·
      try simp only [zA, zB, zC, zD, zE, zF] at h51
      refine w_exit ?_
      refine q_then_exit ?_
      refine q_then_exit ?_
      refine q_blk_this ?_
      refine q_blk_normal ?_
      refine q_then (hK28 _ _ ?_)
      refine w_region ?_
      refine w_p (y_add rfl rfl rfl rfl (by omega) (by omega)) rfl ?_
      refine w_p (y_move (v := .int _ _) rfl rfl) rfl ?_
      refine w_nil ?_
      refine q_then (hN20 _ _ (Nx.intro (b.ctrs.length - (i + 1)) (by omega) (by repeat (first | exact agree_mix | refine agree_upd rfl ?_ | refine agree_updL rfl ?_ _ | refine agree_mixin rfl ?_)) ?_))
      have hsl2 := own_int_sl (w0 := w0) hown2 (shPart_len _ _ _ _ _)
      rw [shPart_all (by omega)] at hsl2
      exact ⟨i + 1, [(bc, blk 76 cs1)], B2 ++ DB, setPc qc i a2 c2, rfl, by omega, rfl, own_mk (by rw [flat_len_sz (krows_row _ _), krows_len, BL_len (by omega)]) hcap hcapm (by rw [hcs1, List.length_set]; exact hcl) (by
        rw [hcs1, take_cell (by omega) (krows_row (BL b s i) qc) (by rw [krows_len, BL_len (by omega)]; exact hi2) htk, BL_set hi2, ← krows_set (by rw [BL_len (by omega)]; exact hi2) (by simp only [BL_get hi2]; exact but_cells)]
        simp only [krows, List.getElem_mapIdx, BL_get hi2]), hqc.next _ _, hds.next hi2 hsl2.1 hsl2.2, wok_row (by omega) (by omega) hwk2, (by rw [List.append_assoc]; exact hs)⟩
   ·
    try simp only [zA, zB, zC, zD, zE, zF] at h27
    refine w_exit ?_
    refine q_then_exit ?_
    refine q_then_exit ?_
    refine q_blk_this ?_
    refine q_then (hK16 _ _ ?_)
    refine w_seq (fun K71 hK70 => ?_)
    have hs72 := swp2 hs
    replace hs72 := (show St _ _ (_ :: _ :: B1 ++ (DB ++ (F))) from hs72)
    have hkb : BK w0 ((bb, blk 129 [.int .i64 b.holds, .slice p.ah b.hours.length p.ch, .slice aC b.ctrs.length cC, .map (some mm)]) :: (B1 ++ (DB ++ F))) (butB b s) ⟨p.ah, p.ch, aC, cC, qc⟩ bb mm := ⟨(but_bin hm (by omega) hown hqc hds).cons, ats_own (i := 0) rfl (by simp only [butB_len]; rfl), butB_ok hok s⟩
    refine w_region ?_
    refine w_p (y_move (v := .pointer _) rfl rfl) rfl ?_
    refine w_call want_none Try.call87 rfl rfl rfl rfl (c87 (X := []) (M := [(mm, .map #[] 0)]) (butB b s) _ bb mm hkb (memo_new w0 _ mm) hs72) ?_
    rintro _ w74 ⟨rfl, M2, hM2, hs75⟩
    replace hs75 := (show St _ _ (M2 ++ (_ :: B1 ++ (DB ++ (F)))) from hs75)
    refine w_p (y_assign (v := .bool _) rfl rfl) rfl ?_
    refine w_nil ?_
    refine q_then (hK70 _ _ ?_)
    refine w_ret ?_
    refine q_ret (l := [.tmp 4]) (vs := [_]) rfl ⟨⟨rfl, show _ = (.bool _ : Value) from rfl⟩, trivial⟩ ?_
    exact ⟨congrArg Value.bool (wrongS_yes (by omega) hwk).symm, hs75.drop.tail.drop.drop⟩

end Go.Proofs
/- Plain facts: sets of up to eight numbers, and the first of the fewest. No conditions. -/
set_option maxRecDepth 100000
set_option linter.unusedSimpArgs false
set_option linter.unusedVariables false
namespace Go.Rt.Ch
open Go.Rt.Ha
def numL (l : List Int) : Nat := l.foldl (fun s z => s + 2 ^ z.toNat) 0
end Go.Rt.Ch
/- Plain laws of the chain layer: numbers that must be wrong. No program in sight. No conditions. -/
set_option linter.unusedSimpArgs false
set_option linter.unusedVariables false
namespace Go.Rt.Ch
open Go.Rt.Ha
/-! ### The numbers that counters show -/
def subTo (b : Board) : Nat → Nat
  | 0 => 0
  | k + 1 => if shownAt b k = -1 then subTo b k else 2 ^ k + subTo b k
def mN (b : Board) : Nat := b.hours.length * b.ctrs.length
/-- All numbers shown. -/
def nums (b : Board) : List Int := listL (subTo b (mN b)) (mN b)
def numsTo (b : Board) (k : Nat) : List Int := listL (subTo b k) k
/-! ### With no number there is a truth -/
/-! ### The first of the fewest -/
def wP (b : Board) (x : List Int) : Bool := !(truths (butB b (numL x))).isEmpty
end Go.Rt.Ch
/- Walks of this seat, printed by gen.py over the engine: what each function returns, in whatever world. No conditions but those of each contract. -/
set_option linter.unusedVariables false
set_option linter.unusedSimpArgs false
set_option maxRecDepth 20000
namespace Go.Proofs
open Go.Rt Go.Rt.Ch
open Go.Rt.Ha (firstE firstE_step firstE_stop firstE_end failE nameE felt spanL upto span_mem listL fewest fewTo bit before fewStep drop_lt drop_get drop_next drop_done drop_notin set_take set_zero take_less Lot Bunch feltTo fTo fPart felt_zero felt_step fTo_succ fTo_len fPart_succ fPart_len fPart_all filt_yes filt_no upto_len at_ someOf choicesTo cfind_here cfind_next cfind_on choices_fin)
attribute [local irreducible] WL WC Con Yd At Ats Sl Agree DW
end Go.Proofs
/- Walks of this seat, printed by gen.py over the engine: what each function returns, in whatever world. No conditions but those of each contract. -/
set_option linter.unusedVariables false
set_option linter.unusedSimpArgs false
set_option maxRecDepth 20000
namespace Go.Proofs
open Go.Rt Go.Rt.Ch
open Go.Rt.Ha (firstE firstE_step firstE_stop firstE_end failE nameE felt spanL upto span_mem listL fewest fewTo bit before fewStep drop_lt drop_get drop_next drop_done drop_notin set_take set_zero take_less Lot Bunch feltTo fTo fPart felt_zero felt_step fTo_succ fTo_len fPart_succ fPart_len fPart_all filt_yes filt_no upto_len at_ someOf choicesTo cfind_here cfind_next cfind_on choices_fin)
attribute [local irreducible] WL WC Con Yd At Ats Sl Agree DW
def BT (b : Board) (s i : Nat) : List Ctr := (butB b s).ctrs.take i
end Go.Proofs
/- Plain law of the hand layer: a lot that is told by a way denies nothing. No conditions. -/
set_option linter.unusedSimpArgs false
set_option linter.unusedVariables false
namespace Go.Rt.Ha
structure TrueB (l : Lot) (h : List Int) (b : Nat) (s : Int) : Prop where
  hands : (handsP (told l h) b).2 = 0 ∧ (handsP (told l h) b).1.1 ≤ at_ h b ∧ at_ h b ≤ (handsP (told l h) b).1.2
  grade : (gradeP (told l h) b).2 = 0 ∧ hasI (gradeP (told l h) b).1 (ofG l.grades 0 (at_ h b) s) = true
  may : ofG l.grades 0 (at_ h b) s = -1 → hasI (refusedP (told l h)).2.1 b = true
  sure : ofG l.grades 0 (at_ h b) s ≠ -1 → hasI (refusedP (told l h)).1 b = false
/-- How many hands are of a grade. -/
def ofSum (l : Lot) (h : List Int) (sc : Nat → Int) (g : Int) : Nat → Int
  | 0 => 0
  | k + 1 => ofSum l h sc g k + if ofG l.grades 0 (at_ h k) (sc k) = g then at_ h k else 0
def allSum (h : List Int) : Nat → Int
  | 0 => 0
  | k + 1 => allSum h k + at_ h k
def gradeSums (l : Lot) (h : List Int) (sc : Nat → Int) (k : Nat) : Nat → Int
  | 0 => 0
  | n + 1 => gradeSums l h sc k n + ofSum l h sc n k
end Go.Rt.Ha
/- Plain law of the hand layer: one more count. No conditions. -/
set_option linter.unusedSimpArgs false
set_option linter.unusedVariables false
namespace Go.Rt.Ha
def moreL (l : Lot) (c : Count) : Lot := { l with counts := l.counts ++ [c] }
end Go.Rt.Ha
/- Plain law of the hand layer: with one more count nothing is wider. No conditions. -/
set_option linter.unusedSimpArgs false
set_option linter.unusedVariables false
namespace Go.Rt.Ha
/-- What a lot with fewer ways tells. -/
structure LessB (l l' : Lot) (b : Nat) : Prop where
  e1 : (handsP l b).2 = 0
  e2 : (handsP l' b).2 = 0
  e3 : (gradeP l b).2 = 0
  e4 : (gradeP l' b).2 = 0
  hands : (handsP l b).1.1 ≤ (handsP l' b).1.1 ∧ (handsP l' b).1.2 ≤ (handsP l b).1.2
  grade : ∀ z ∈ (gradeP l' b).1, z ∈ (gradeP l b).1
end Go.Rt.Ha
/- Plain law of the hand layer: the fewest counts that must be wrong. No conditions. -/
set_option linter.unusedSimpArgs false
set_option linter.unusedVariables false
namespace Go.Rt.Ha
def butC (but : List Int) : Nat → List Count → List Count
  | _, [] => []
  | i, c :: l => if hasI but i then butC but (i + 1) l else c :: butC but (i + 1) l
def butL (l : Lot) (but : List Int) : Lot := { l with counts := butC but 0 l.counts }
structure FewF (l : Lot) (x : Nat) : Prop where
  e : (wrongP l).2 = 0
  is : ∃ b, b < 2 ^ l.counts.length ∧ (wrongP l).1 = listL b l.counts.length
  f : (refusedP (butL l (wrongP l).1)).2.2 = 0
  g : (refusedP (butL l (listL x l.counts.length))).2.2 = 8 ∨ ((refusedP (butL l (listL x l.counts.length))).2.2 = 0 ∧ before (listL x l.counts.length) (wrongP l).1 = false)
end Go.Rt.Ha
/- Plain help of the hand layer's laws: rising lists, fewer, counts left out. No conditions. -/
set_option linter.unusedSimpArgs false
set_option linter.unusedVariables false
namespace Go.Rt.Ha
def rising (n : Int) : Int → List Int → Bool
  | _, [] => true
  | p, x :: l => !(decide (x ≤ p) || decide (n ≤ x)) && rising n x l
theorem rising_stop {n p : Int} {l : List Int} {i : Nat} (hi : i < l.length) (h : l[i] ≤ p ∨ n ≤ l[i]) : rising n p (l.drop i) = false := by
  rw [List.drop_eq_getElem_cons hi]
  simp only [rising, Bool.and_eq_false_iff, Bool.not_eq_false', Bool.or_eq_true, decide_eq_true_eq]
  exact .inl h
theorem rising_step {n p : Int} {l : List Int} {i : Nat} (hi : i < l.length) (h : p < l[i]) (h2 : l[i] < n) : rising n p (l.drop i) = rising n l[i] (l.drop (i + 1)) := by
  rw [List.drop_eq_getElem_cons hi]
  simp only [rising]
  rw [decide_eq_false (by omega), decide_eq_false (by omega)]; rfl
theorem rising_end {n p : Int} {l : List Int} {i : Nat} (hi : l.length ≤ i) : rising n p (l.drop i) = true := by rw [List.drop_of_length_le hi]; rfl
theorem rising_snoc {n x : Int} : ∀ (l : List Int) (p : Int), (∀ y ∈ l, y < x) → p < x → x < n → rising n p l = true → rising n p (l ++ [x]) = true
  | [], p, _, h1, h2, _ => by
    simp only [List.nil_append, rising, Bool.and_true, Bool.not_eq_true', Bool.or_eq_false_iff, decide_eq_false_iff_not]; omega
  | y :: l, p, h, h1, h2, h3 => by
    simp only [List.cons_append, rising, Bool.and_eq_true] at h3 ⊢
    exact ⟨h3.1, rising_snoc l y (fun z hz => h z (.tail _ hz)) (h y (.head _)) h2 h3.2⟩
theorem listL_lt (b : Nat) : ∀ n, ∀ y ∈ listL b n, 0 ≤ y ∧ y < (n : Int)
  | 0, y, h => by simp [listL] at h
  | n + 1, y, h => by
    rw [listL, List.mem_append] at h
    rcases h with h | h
    · have := listL_lt b n y h; omega
    · split at h
      · simp at h; omega
      · simp at h
theorem list_rising {m : Int} (b : Nat) : ∀ n : Nat, (n : Int) ≤ m → rising m (-1) (listL b n) = true
  | 0, _ => rfl
  | n + 1, h => by
    rw [listL]
    split
    · exact rising_snoc _ _ (fun y hy => (listL_lt b n y hy).2) (by omega) (by omega) (list_rising b n (by omega))
    · rw [List.append_nil]; exact list_rising b n (by omega)
theorem before_fewer (a b : List Int) : (if a.length = b.length then less a b else decide (a.length < b.length)) = before a b := by
  unfold before
  by_cases h : a.length = b.length
  · rw [if_pos h]; simp [h]
  · rw [if_neg h]; simp [h]
end Go.Rt.Ha
/- Plain laws of the chain layer: the fewest numbers that must be wrong. No program in sight. No conditions. -/
set_option maxRecDepth 100000
set_option linter.unusedSimpArgs false
set_option linter.unusedVariables false
namespace Go.Rt.Ch
open Go.Rt.Ha
/-! ### Boards without an error -/
theorem out_ff {lo hi n : Int} (h : lo ≤ n ∧ n ≤ hi) : out lo hi n = false := out_f.2 h
theorem check_iff {b : Board} : (check b).2.2 = 0 ↔ (1 ≤ b.holds ∧ b.holds ≤ 3) ∧ (failE (hourE b.holds) 0 4 b.hours).2 = 0 ∧ (failE (ctrE b.hours.length) 0 2 b.ctrs).2 = 0 := by
  unfold check
  cases h1 : out 1 3 b.holds with
  | true =>
    rw [if_pos rfl]
    constructor
    · intro h; cases h
    · rintro ⟨h, _⟩; rw [out_ff h] at h1; cases h1
  | false =>
    rw [if_neg (by simp)]
    have h1' := out_f.1 h1
    by_cases h2 : (failE (hourE b.holds) 0 4 b.hours).2 = 0
    · rw [if_neg (by simp [h2])]
      by_cases h3 : (failE (ctrE b.hours.length) 0 2 b.ctrs).2 = 0
      · rw [if_neg (by simp [h3])]; exact ⟨fun _ => ⟨h1', h2, h3⟩, fun _ => rfl⟩
      · rw [if_pos h3]; exact ⟨fun h => absurd h h3, fun h => absurd h.2.2 h3⟩
    · rw [if_pos h2]; exact ⟨fun h => absurd h h2, fun h => absurd h.2.1 h2⟩
theorem any_out_f {lo hi : Int} {l : List Int} (h : ∀ z ∈ l, lo ≤ z ∧ z ≤ hi) : l.any (out lo hi) = false := by
  rw [List.any_eq_false]; intro z hz; rw [out_ff (h z hz)]; simp
theorem ctrE_ok {n : Nat} {bf : List Ctr} {c : Ctr} (hn : nameE (bf.map (·.name)) c.name = 0) (ho : c.Ok n) : ctrE n bf c = 0 := by
  unfold ctrE
  rw [if_neg (by simp [hn]), out_ff ho.skip, out_ff ho.twice, out_ff ho.start]
  simp only [Bool.or_self, Bool.false_eq_true, if_false]
  rw [if_neg (by simp [ho.lz, ho.ls]), any_out_f ho.zero, any_out_f ho.shown]; rfl
theorem ctrE_name {n : Nat} {bf : List Ctr} {c : Ctr} (h : ctrE n bf c = 0) : nameE (bf.map (·.name)) c.name = 0 := by
  unfold ctrE at h
  by_cases h0 : nameE (bf.map (·.name)) c.name = 0
  · exact h0
  · rw [if_pos h0] at h; exact absurd h h0
theorem ctrs_ok {n : Nat} {l m : List Ctr} (h : (failE (ctrE n) 0 2 l).2 = 0) (hnm : m.map (·.name) = l.map (·.name)) (hok : ∀ c ∈ m, c.Ok n) : (failE (ctrE n) 0 2 m).2 = 0 := by
  obtain ⟨h1, h2⟩ := failE_iff.1 h
  have hl : m.length = l.length := by have := congrArg List.length hnm; simpa using this
  refine failE_iff.2 ⟨by omega, fun k hk => ctrE_ok ?_ (hok _ (List.getElem_mem hk))⟩
  have h3 := ctrE_name (h2 k (by omega))
  have e1 : (m.take k).map (·.name) = (l.take k).map (·.name) := by rw [List.map_take, List.map_take, hnm]
  have e2 : m[k].name = (l[k]'(by omega)).name := by
    have := congrArg (fun x => x[k]?) hnm
    simpa [hk, show k < l.length by omega] using this
  rw [e1, e2]; exact h3
/-! ### What Wrong tells -/
structure WrongF (b : Board) (s : Nat) : Prop where
  lt : s < 2 ^ mN b
  is : wrongP b = (listL s (mN b), 0)
  yes : wrongS b s = true
  least : ∀ t, t < 2 ^ mN b → wrongS b t = true → listL t (mN b) = listL s (mN b) ∨ before (listL s (mN b)) (listL t (mN b)) = true
/-! ### Any other numbers -/
def otherTo (b : Board) (x i : Nat) : List Int := pickL (nums b) (listL x i)
end Go.Rt.Ch
/- Plain words that laws of all layers share: numbers by turns, bits. No conditions. -/
set_option linter.unusedSimpArgs false
set_option linter.unusedVariables false
namespace Go.Rt
def turnOf (x : List Int) (n : Nat) : Int := if x.length = 0 then 0 else x.getD (n % x.length) 0
theorem turn_at {x : List Int} {n : Nat} (h : 0 < x.length) : x[n % x.length]'(Nat.mod_lt _ h) = turnOf x n := by
  unfold turnOf
  rw [if_neg (by omega)]
  simp [List.getD, Nat.mod_lt _ h]
end Go.Rt
/- Walks of this seat, printed by gen.py over the engine: what each function returns, in whatever world. No conditions but those of each contract. -/
set_option linter.unusedVariables false
set_option linter.unusedSimpArgs false
set_option maxRecDepth 20000
namespace Go.Proofs
open Go.Rt Go.Rt.Ch
open Go.Rt.Ha (firstE firstE_step firstE_stop firstE_end failE nameE felt spanL upto span_mem listL fewest fewTo bit before fewStep drop_lt drop_get drop_next drop_done drop_notin set_take set_zero take_less Lot Bunch feltTo fTo fPart felt_zero felt_step fTo_succ fTo_len fPart_succ fPart_len fPart_all filt_yes filt_no upto_len at_ someOf choicesTo cfind_here cfind_next cfind_on choices_fin pick_idx pickL_in find_on find_next rising rising_step rising_end rising_stop list_rising before_fewer)
attribute [local irreducible] WL WC Con Yd At Ats Sl Agree DW

theorem sl_u8 {w0 : World} {F : List (Nat × Obj)} {a : Option Addr} {l : List Int} {i : Nat} (h : Sl w0 F a 1 (l.map fun x => [Value.int .u8 x])) (hi : i < l.length) :
    ∃ b off, a = some ⟨b, off, none⟩ ∧ Ats w0 F b (off + i * 1) [.int .u8 l[i]] := by
  obtain ⟨b, off, ha, _, hat⟩ := h.at (i := i) (row := [.int .u8 l[i]]) (by simp [hi])
  exact ⟨b, off, ha, hat⟩
theorem c49 {w0 w : World} {F : List (Nat × Obj)} (ax : Option Addr) (cx : Nat) (x : List Int) (hxl : x.length ≤ 9223372036854775807) (hxs : Sl w0 F ax 1 (x.map fun n => [Value.int .u8 n])) (hxr : ∀ z ∈ x, 0 ≤ z ∧ z ≤ 255) (n : Nat) (hs : St w0 w F) : Con Try.prog 49 [.slice ax x.length cx, .int .i64 (n : Int)] w fun v w' => v = .int .i64 (turnOf x n) ∧ St w0 w' F := by
  refine con_of_wc (n := 16) Try.func49 rfl rfl (Nat.le_of_ble_eq_true rfl) ?_
  refine w_seq (fun K2 hK1 => ?_)
  refine w_region ?_
  refine w_p (y_assign (v := _) rfl rfl) rfl ?_
  refine w_nil ?_
  refine q_then (hK1 _ _ ?_)
  refine w_seq (fun K4 hK3 => ?_)
  refine w_seq (fun K6 hK5 => ?_)
  refine w_region ?_
  refine w_p (y_move (v := .slice _ _ _) rfl rfl) rfl ?_
  refine w_p (y_lenS Try.underlying47 rfl rfl) rfl ?_
  refine w_p (y_eql rfl rfl rfl rfl) rfl ?_
  refine w_nil ?_
  refine q_then (hK5 _ _ ?_)
  refine w_cond rfl rfl (fun h7 => ?_) (fun h7 => ?_)
  ·
   try simp only [zA, zB, zC, zD, zE, zF] at h7
   refine w_seq (fun K9 hK8 => ?_)
   refine w_region ?_
   refine w_p (y_assign (v := _) rfl rfl) rfl ?_
   refine w_nil ?_
   refine q_then (hK8 _ _ ?_)
   refine w_ret ?_
   refine q_then_ret ?_
   refine q_ret (l := [.tmp 4]) (vs := [_]) rfl ⟨⟨rfl, show _ = (.int _ _ : Value) from rfl⟩, trivial⟩ ?_
   first
     | exact ⟨congrArg (Value.int .i64) (by unfold turnOf; rw [if_pos (by omega)]), hs⟩
     | exact ⟨congrArg (Value.int .i64) (turn_at hx0), hs⟩
  ·
   try simp only [zA, zB, zC, zD, zE, zF] at h7
   refine w_skip ?_
   refine q_then (hK3 _ _ ?_)
   refine w_seq (fun K11 hK10 => ?_)
   have hx0 : 0 < x.length := by omega
   have hm := Nat.mod_lt n hx0
   obtain ⟨bx, ox, rfl, hx⟩ := sl_u8 hxs hm
   have hr := hxr _ (List.getElem_mem hm)
   refine w_region ?_
   refine w_p (y_move (v := .slice _ _ _) rfl rfl) rfl ?_
   refine w_p (y_move (v := .int _ _) rfl rfl) rfl ?_
   refine w_p (y_move (v := .slice _ _ _) rfl rfl) rfl ?_
   refine w_p (y_lenS Try.underlying47 rfl rfl) rfl ?_
   refine w_p (y_rem rfl rfl rfl rfl (by omega) (by omega)) rfl ?_
   refine w_p (y_indexS Try.underlying47 Try.sizeOf5 rfl rfl rfl rfl (i := n % x.length) (by simp) hm) rfl ?_
   refine w_p (y_load1 Try.isAgg5 hs rfl rfl hx) rfl ?_
   refine w_p (y_u8int (by rw [Try.underlying5]; rfl) Try.underlying3 rfl rfl (by omega) (by omega)) rfl ?_
   refine w_p (y_assign (v := .int _ _) rfl rfl) rfl ?_
   refine w_nil ?_
   refine q_then (hK10 _ _ ?_)
   refine w_ret ?_
   refine q_ret (l := [.tmp 4]) (vs := [_]) rfl ⟨⟨rfl, show _ = (.int _ _ : Value) from rfl⟩, trivial⟩ ?_
   first
     | exact ⟨congrArg (Value.int .i64) (by unfold turnOf; rw [if_pos (by omega)]), hs⟩
     | exact ⟨congrArg (Value.int .i64) (turn_at hx0), hs⟩

end Go.Proofs
/- Plain laws of the chain layer: hours that are told. No program in sight. No conditions. -/
set_option linter.unusedSimpArgs false
set_option linter.unusedVariables false
namespace Go.Rt.Ch
open Go.Rt.Ha
structure LookF (b : Board) (hold within : Int) (s : Nat) : Prop where
  lt : s < 2 ^ b.hours.length
  is : looksP b hold within = (listL s b.hours.length, 0)
  yes : tellsS b hold within s = true
  least : ∀ t, t < 2 ^ b.hours.length → tellsS b hold within t = true → listL t b.hours.length = listL s b.hours.length ∨ before (listL s b.hours.length) (listL t b.hours.length) = true
/-! ### A board of which some hours are told -/
def setH (t : List Int) (hs : List Hour) (z : Int) : List Hour := hs.set z.toNat ⟨(hs.getD z.toNat ⟨0, 0, 0⟩).hold, ld t z.toNat, ld t z.toNat⟩
def toldTo (b : Board) (t l : List Int) (i : Nat) : List Hour := (l.take i).foldl (setH t) b.hours
def toldB (b : Board) (t l : List Int) : Board := { b with hours := toldTo b t l l.length }
structure ToldF (b : Board) (t l : List Int) : Prop where
  len : (toldB b t l).hours.length = b.hours.length
  ck : (check (toldB b t l)).2.2 = 0
  is : t ∈ truths (toldB b t l)
  sub : ∀ m ∈ truths (toldB b t l), m ∈ like (truths b) t l
  inn : ∀ hold m, inH (toldB b t l) hold m = inH b hold m
end Go.Rt.Ch
/- Plain laws of the chain layer: a better counter. No program in sight. No conditions. -/
set_option linter.unusedSimpArgs false
set_option linter.unusedVariables false
namespace Go.Rt.Ch
open Go.Rt.Ha
/-- d can go on in no way in which c cannot. -/
structure Finer (n : Nat) (c d : Ctr) : Prop where
  skip : d.skip ≤ c.skip
  twice : d.twice ≤ c.twice
  start : d.start = c.start
  zero : d.zero = c.zero
  shown : ∀ k, k < n → c.shown.getD k 0 = -1 ∨ d.shown.getD k 0 = c.shown.getD k 0
theorem fare_any {c : Ctr} {l : List Int} {q : Quest} {n : Nat} : (notF c l q n || metF c l q n) = true ↔ fareTo c l q n ≠ [] := by
  unfold notF metF
  rw [Bool.or_eq_true, List.any_eq_true, List.any_eq_true]
  constructor
  · rintro (⟨x, hx, _⟩ | ⟨x, hx, _⟩)
    · exact List.ne_nil_of_mem hx
    · exact List.ne_nil_of_mem hx
  · intro h
    obtain ⟨x, hx⟩ := List.exists_mem_of_ne_nil _ h
    cases e : x.2 with
    | false => exact .inl ⟨x, hx, by rw [e]; rfl⟩
    | true => exact .inr ⟨x, hx, e⟩
/-- A board of which one counter is another one. -/
def setC (b : Board) (k : Nat) (d : Ctr) : Board := { b with ctrs := b.ctrs.set k d }
theorem setC_check {b : Board} {k : Nat} {d : Ctr} (hc : (check b).2.2 = 0) (hk : k < b.ctrs.length) (hn : d.name = b.ctrs[k].name) (hd : d.Ok b.hours.length) : (check (setC b k d)).2.2 = 0 := by
  obtain ⟨h1, h2, h3⟩ := check_iff.1 hc
  refine check_iff.2 ⟨h1, h2, ctrs_ok h3 ?_ fun c hm => ?_⟩
  · show (b.ctrs.set k d).map (·.name) = _
    apply List.ext_getElem
    · simp
    · intro i h1 h2
      have hi : i < b.ctrs.length := by simpa using h2
      simp only [List.getElem_map, List.getElem_set]
      split
      · rename_i e; subst e; exact hn
      · rfl
  · rcases List.mem_or_eq_of_mem_set hm with h | h
    · exact (check_ok hc).ctr c h
    · rw [h]; exact hd
/-! ### Less loads that can be: narrower -/
/-! ### The counter that is better -/
def betC (c : Ctr) (e1 e2 : Int) (sh : List Int) : Ctr := ⟨c.name, max 0 (c.skip - e1 % 3), max 0 (c.twice - e2 % 3), c.start, c.zero, sh⟩
structure ShOk (n : Nat) (c : Ctr) (sh : List Int) : Prop where
  len : sh.length = c.shown.length
  inn : ∀ z ∈ sh, -1 ≤ z ∧ z ≤ 99
  old : ∀ k, k < n → c.shown.getD k 0 = -1 ∨ sh.getD k 0 = c.shown.getD k 0
end Go.Rt.Ch
/- Plain laws of the chain layer: a counter that tells all loads. No program in sight. No conditions. -/
set_option linter.unusedSimpArgs false
set_option linter.unusedVariables false
namespace Go.Rt.Ch
open Go.Rt.Ha
/-- The load of an hour, by turns. -/
def telLoad (b : Board) (x : List Int) (k : Nat) : Int := (hourOf b k).lo + turnOf x k % ((hourOf b k).hi - (hourOf b k).lo + 1)
/-- What the counter shows before an hour. -/
def telS (b : Board) (x : List Int) (s0 : Int) : Nat → Int
  | 0 => s0
  | k + 1 => (telS b x s0 k + telLoad b x k) % 100
def telLoads (b : Board) (x : List Int) (k : Nat) : List Int := (List.range k).map (telLoad b x)
def telShown (b : Board) (x : List Int) (s0 : Int) (k : Nat) : List Int := (List.range k).map fun j => telS b x s0 (j + 1)
def telC (b : Board) (x : List Int) (c : Ctr) : Ctr := ⟨c.name, 0, 0, c.start, List.replicate b.hours.length 0, telShown b x c.start b.hours.length⟩
theorem turn_nn {x : List Int} (h : ∀ y ∈ x, 0 ≤ y ∧ y ≤ 255) (n : Nat) : 0 ≤ turnOf x n ∧ turnOf x n ≤ 255 := by
  unfold turnOf
  split
  · simp
  · rename_i h0
    by_cases hn : n % x.length < x.length
    · have := h _ (List.getElem_mem hn)
      simp only [List.getD, List.getElem?_eq_getElem hn, Option.getD_some]
      exact this
    · simp [List.getD, List.getElem?_eq_none (by omega : x.length ≤ n % x.length)]
theorem tel_in {b : Board} (hok : b.Ok) {x : List Int} (hx : ∀ y ∈ x, 0 ≤ y ∧ y ≤ 255) {k : Nat} (hk : k < b.hours.length) : b.hours[k].lo ≤ telLoad b x k ∧ telLoad b x k ≤ b.hours[k].hi := by
  have ho := hok.hour _ (List.getElem_mem hk)
  have h1 := ho.le
  unfold telLoad
  rw [hour_at hk]
  have := Int.emod_nonneg (turnOf x k) (show b.hours[k].hi - b.hours[k].lo + 1 ≠ 0 by omega)
  have := Int.emod_lt_of_pos (turnOf x k) (show 0 < b.hours[k].hi - b.hours[k].lo + 1 by omega)
  omega
theorem telS_in {b : Board} {x : List Int} {s0 : Int} (h0 : 0 ≤ s0 ∧ s0 ≤ 99) : ∀ k, 0 ≤ telS b x s0 k ∧ telS b x s0 k ≤ 99
  | 0 => h0
  | k + 1 => by simp only [telS]; omega
theorem telC_ok {b : Board} (hok : b.Ok) {x : List Int} {c : Ctr} (hc : c.Ok b.hours.length) : (telC b x c).Ok b.hours.length := by
  refine ⟨⟨Int.le_refl _, (show (0 : Int) ≤ 3 by decide)⟩, ⟨Int.le_refl _, (show (0 : Int) ≤ 3 by decide)⟩, hc.start, by simp [telC], by simp [telC, telShown], fun z hz => ?_, fun z hz => ?_, hc.nm⟩
  · have := List.eq_of_mem_replicate hz; omega
  · obtain ⟨j, _, rfl⟩ := List.mem_map.1 hz
    have := telS_in (b := b) (x := x) hc.start (j + 1); omega
theorem tel_step {b : Board} {x : List Int} {c : Ctr} (hc : 0 ≤ c.start ∧ c.start ≤ 99) {k : Nat} (hk : k < b.hours.length) {s load : Int} {w : Way} (hw : w ∈ stepsC (telC b x c) k s load) : w.shows = telS b x c.start (k + 1) ∧ (s + load) % 100 = telS b x c.start (k + 1) ∧ w.counts = load := by
  have hz : (telC b x c).zero.getD k 0 = 0 := by simp [telC, List.getD, List.getElem?_replicate, hk]
  have hsh : (telC b x c).shown.getD k 0 = telS b x c.start (k + 1) := by simp [telC, telShown, List.getD, hk]
  have hin := telS_in (b := b) (x := x) hc (k + 1)
  unfold stepsC at hw
  rcases List.mem_append.1 hw with h | h
  · unfold stepsZ at h
    rw [if_pos (show canZ (telC b x c) k false = true from decide_eq_true (by omega)), List.mem_flatMap] at h
    obtain ⟨e, he, h⟩ := h
    have he2 := span_mem.1 he
    have e0 : e = 0 := by
      have a : (telC b x c).skip = 0 := rfl
      have d : (telC b x c).twice = 0 := rfl
      omega
    subst e0
    split at h
    · unfold wayR at h
      rw [hsh] at h
      split at h
      · rename_i h2
        rw [List.mem_singleton] at h
        subst h
        have h3 : telS b x c.start (k + 1) = shOf s false (load + 0) := by rcases h2 with h2 | h2 <;> omega
        have h4 : shOf s false (load + 0) = (s + load) % 100 := by unfold shOf; simp
        exact ⟨h3.symm, by rw [h3, h4], by simp⟩
      · cases h
    · cases h
  · unfold stepsZ at h
    rw [if_neg (by rw [show canZ (telC b x c) k true = false from decide_eq_false (by omega)]; simp)] at h
    cases h
theorem tel_fare {b : Board} {x : List Int} {c : Ctr} (hc : 0 ≤ c.start ∧ c.start ≤ 99) {l : List Int} : ∀ k, k ≤ b.hours.length → ∀ y ∈ fareTo (telC b x c) l slips k, y.1 = telS b x c.start k ∧ y.2 = false ∧ ∀ j, j < k → (telS b x c.start j + ld l j) % 100 = telS b x c.start (j + 1)
  | 0, _, y, hy => by
    simp only [fareTo, List.mem_singleton] at hy
    subst hy
    exact ⟨rfl, rfl, fun j hj => by omega⟩
  | k + 1, hk, y, hy => by
    simp only [fareTo, List.mem_flatMap, List.mem_map] at hy
    obtain ⟨v, hv, w, hw, rfl⟩ := hy
    obtain ⟨h1, h2, h3⟩ := tel_fare hc k (by omega) v hv
    obtain ⟨g1, g2, g3⟩ := tel_step hc (by omega) hw
    refine ⟨g1, ?_, fun j hj => ?_⟩
    · show (v.2 || slips k (ld l k) w) = false
      rw [h2]; simp [slips, g3]
    · by_cases e : j = k
      · subst e; rw [← h1]; exact g2
      · exact h3 j (by omega)
/-- The board of which one counter tells all. -/
theorem tel_loads {b : Board} (hok : b.Ok) {x : List Int} (hx : ∀ y ∈ x, 0 ≤ y ∧ y ≤ 255) {u : Nat} (hu : u < b.ctrs.length) {l : List Int} (hl : l ∈ truths (setC b u (telC b x b.ctrs[u]))) : (∀ k, k < b.hours.length → ld l k = telLoad b x k) ∧ notF (telC b x b.ctrs[u]) l slips b.hours.length = true ∧ metF (telC b x b.ctrs[u]) l slips b.hours.length = false := by
  have hc := (hok.ctr _ (List.getElem_mem hu)).start
  obtain ⟨h1, h2⟩ := List.mem_filter.1 hl
  have hin := truth_in hl
  unfold canL at h2
  rw [List.all_eq_true] at h2
  have hu2 : u < (setC b u (telC b x b.ctrs[u])).ctrs.length := by show u < (b.ctrs.set u _).length; rw [List.length_set]; exact hu
  have h3 := h2 _ (List.getElem_mem hu2)
  have e : (setC b u (telC b x b.ctrs[u])).ctrs[u] = telC b x b.ctrs[u] := List.getElem_set_self ..
  rw [e] at h3
  have h4 := fare_any.1 h3
  obtain ⟨y, hy⟩ := List.exists_mem_of_ne_nil _ h4
  have hf := tel_fare (b := b) (x := x) (c := b.ctrs[u]) hc (l := l) _ (Nat.le_refl _)
  refine ⟨fun k hk => ?_, List.any_eq_true.2 ⟨y, hy, by rw [(hf y hy).2.1]; rfl⟩, ?_⟩
  · have h5 := (hf y hy).2.2 k hk
    have h6 := hin.2 k hk
    have h7 := tel_in hok hx hk
    have ho := hok.hour _ (List.getElem_mem hk)
    have h8 := ho.w
    have h10 : (setC b u (telC b x b.ctrs[u])).hours[k]'hk = b.hours[k] := rfl
    rw [h10] at h6
    have h9 : telS b x b.ctrs[u].start (k + 1) = (telS b x b.ctrs[u].start k + telLoad b x k) % 100 := rfl
    omega
  · unfold metF
    rw [List.any_eq_false]
    intro z hz
    rw [(hf z hz).2.1]; simp
structure TelF (b z : Board) (x : List Int) (u : Nat) : Prop where
  ck : (check z).2.2 = 0
  went : someB z = true → ∀ k, k < b.hours.length → wentP z (k : Int) = ((telLoad b x k, telLoad b x k), 0)
  right : someB z = true → rightP z (u : Int) = (1, 0)
  bad : someB z = false → rightP z (u : Int) = (0, 8)
theorem tel_law {b : Board} (hc : (check b).2.2 = 0) {x : List Int} (hx : ∀ y ∈ x, 0 ≤ y ∧ y ≤ 255) {u : Nat} (hu : u < b.ctrs.length) : TelF b (setC b u (telC b x b.ctrs[u])) x u := by
  have hok := check_ok hc
  have hlen : (setC b u (telC b x b.ctrs[u])).ctrs.length = b.ctrs.length := List.length_set
  have hck : (check (setC b u (telC b x b.ctrs[u]))).2.2 = 0 := setC_check hc hu rfl (telC_ok hok (hok.ctr _ (List.getElem_mem hu)))
  have hi : idxE (u : Int) ((setC b u (telC b x b.ctrs[u])).ctrs.length : Int) = 0 := out_no (by rw [hlen]; omega)
  have hcu : ctrOf (setC b u (telC b x b.ctrs[u])) u = telC b x b.ctrs[u] := by
    rw [ctr_at (by rw [hlen]; exact hu)]; exact List.getElem_set_self ..
  refine ⟨hck, fun hs k hk => ?_, fun hs => ?_, fun hs => ?_⟩
  · rw [went_at hs (show k < (setC b u (telC b x b.ctrs[u])).hours.length from hk)]
    unfold wentH
    rw [hull_snd (x := telLoad b x k) (someB_y hs).2.2 fun l hl => (tel_loads hok hx hu hl).1 k hk]
  · obtain ⟨_, _, hne⟩ := someB_y hs
    obtain ⟨l, hl⟩ := List.exists_mem_of_ne_nil _ hne
    unfold rightP
    rw [enterE_4 hck hi hne, if_neg (by simp)]
    have hN : askN (setC b u (telC b x b.ctrs[u])) u slips = true := by
      unfold askN; rw [hcu]; exact List.any_eq_true.2 ⟨l, hl, (tel_loads hok hx hu hl).2.1⟩
    have hM : askM (setC b u (telC b x b.ctrs[u])) u slips = false := by
      unfold askM; rw [hcu, List.any_eq_false]
      intro m hm
      rw [show metF (telC b x b.ctrs[u]) m slips (setC b u (telC b x b.ctrs[u])).hours.length = false from (tel_loads hok hx hu hm).2.2]; simp
    rw [Int.toNat_natCast, hN, hM]; rfl
  · have ht : truths (setC b u (telC b x b.ctrs[u])) = [] := by
      unfold someB at hs
      rw [decide_eq_true hck, Bool.true_and] at hs
      cases e : truths (setC b u (telC b x b.ctrs[u])) with
      | nil => rfl
      | cons p q => rw [e] at hs; cases hs
    unfold rightP
    rw [enterE_3 hck hi ht, if_pos (by simp)]
end Go.Rt.Ch
/- Walks of this seat, printed by gen.py over the engine: what each function returns, in whatever world. No conditions but those of each contract. -/
set_option linter.unusedVariables false
set_option linter.unusedSimpArgs false
set_option maxRecDepth 20000
namespace Go.Proofs
open Go.Rt Go.Rt.Ch
open Go.Rt.Ha (firstE firstE_step firstE_stop firstE_end failE nameE felt spanL upto span_mem listL fewest fewTo bit before fewStep drop_lt drop_get drop_next drop_done drop_notin set_take set_zero take_less)
attribute [local irreducible] WL WC Con Yd At Ats Sl Agree DW

theorem wrongP_e {b : Board} (h : ¬ (check b).2.2 = 0) : wrongP b = ([], (check b).2.2) := by unfold wrongP; rw [if_pos h]
theorem wrongP_y {b : Board} (h : (check b).2.2 = 0) : wrongP b = ((fewest (wrongS b) (b.hours.length * b.ctrs.length)).1, 0) := by unfold wrongP; rw [if_neg (by simp [h])]
theorem many_8 {b : Board} (h : b.Ok) : b.hours.length * b.ctrs.length ≤ 8 := by
  have h1 := Nat.mul_le_mul h.lh h.lc
  omega
theorem c30 {w0 w : World} {F : List (Nat × Obj)} (b : Board) (p : AtB) (hm : BIn w0 F b p)  (hs : St w0 w F) :
  Con Try.prog 30 [.agg (b.cells p).toArray] w fun v w' => ∃ B a' c, v = .tuple #[.slice a' (wrongP b).1.length c, .int .i64 (wrongP b).2] ∧ Sl w0 B a' 1 ((wrongP b).1.map fun x => [Value.int .i64 x]) ∧ St w0 w' (B ++ F) := by
  refine con_of_wc (n := 27) Try.func30 rfl rfl (Nat.le_of_ble_eq_true rfl) ?_
  have hlh0 := hm.lh
  have hlc0 := hm.lc
  refine w_seq (fun K2 hK1 => ?_)
  refine w_region ?_
  refine w_box (v := .agg #[.int _ _, .slice _ _ _, .slice _ _ _]) (cs := [_, _, _]) want_none rfl rfl rfl hs (fun b3 w4 hs5 => ?_)
  refine w_p (y_assign (v := _) rfl rfl) rfl ?_
  refine w_p (y_assign (v := _) rfl rfl) rfl ?_
  refine w_nil ?_
  refine q_then (hK1 _ _ ?_)
  refine w_seq (fun K7 hK6 => ?_)
  refine w_seq (fun K9 hK8 => ?_)
  refine w_region ?_
  refine w_p (y_loadN (vs := [_, _, _]) Try.isAgg25 Try.sizeOf25 hs5 rfl rfl (ats_own (i := 0) (vs := [_, _, _]) rfl rfl)) rfl ?_
  refine w_call want_none Try.call16 rfl rfl rfl rfl (c16 b _ hm.cons hs5) ?_
  rintro _ w11 ⟨rfl, hs12⟩
  refine w_p (y_move (v := .tuple _) rfl rfl) rfl ?_
  refine w_p (y_extract (v := .int _ _) rfl rfl rfl) rfl ?_
  refine w_p (y_extract (v := .int _ _) rfl rfl rfl) rfl ?_
  refine w_p (y_extract (v := .int _ _) rfl rfl rfl) rfl ?_
  refine w_p (y_assign (v := .int _ _) rfl rfl) rfl ?_
  refine w_p (y_assign (v := .int _ _) rfl rfl) rfl ?_
  refine w_p (y_assign (v := .int _ _) rfl rfl) rfl ?_
  refine w_nil ?_
  refine q_then (hK8 _ _ ?_)
  refine w_seq (fun K14 hK13 => ?_)
  refine w_region ?_
  refine w_p (y_move (v := .int _ _) rfl rfl) rfl ?_
  refine w_p (y_neq rfl rfl rfl rfl) rfl ?_
  refine w_nil ?_
  refine q_then (hK13 _ _ ?_)
  refine w_cond rfl rfl (fun h15 => ?_) (fun h15 => ?_)
  ·
   try simp only [zA, zB, zC, zD, zE, zF] at h15
   refine w_seq (fun K17 hK16 => ?_)
   refine w_region ?_
   refine w_p (y_move (v := .int _ _) rfl rfl) rfl ?_
   refine w_p (y_assign (v := _) rfl rfl) rfl ?_
   refine w_p (y_assign (v := .int _ _) rfl rfl) rfl ?_
   refine w_nil ?_
   refine q_then (hK16 _ _ ?_)
   refine w_ret ?_
   refine q_then_ret ?_
   refine q_ret (l := [.tmp 2, .tmp 3]) (vs := [_, _]) rfl ⟨⟨rfl, show _ = (.slice _ _ _ : Value) from rfl⟩, ⟨rfl, show _ = (.int _ _ : Value) from rfl⟩, trivial⟩ ?_
   exact ⟨[], none, 0, by rw [wrongP_e (by assumption)]; rfl, by rw [wrongP_e (by assumption)]; exact Sl.nil _ _, hs12.tail⟩
  ·
   try simp only [zA, zB, zC, zD, zE, zF] at h15
   refine w_skip ?_
   refine q_then (hK6 _ _ ?_)
   refine w_seq (fun K19 hK18 => ?_)
   have hck : (check b).2.2 = 0 := by assumption
   have hok := check_ok hck
   have h8 := many_8 hok
   have hmi : ((b.hours.length : Int) * (b.ctrs.length : Int)) = ((b.hours.length * b.ctrs.length : Nat) : Int) := by push_cast; rfl
   refine w_region ?_
   refine w_p (y_fieldAddr (o := 1) (i := 1) Try.underlying25 rfl Try.sizeOf22 rfl rfl rfl) rfl ?_
   refine w_p (y_load1 Try.isAgg22 hs12 rfl rfl (ats_own (i := 0) (vs := [_]) rfl rfl)) rfl ?_
   refine w_p (y_lenS Try.underlying22 rfl rfl) rfl ?_
   refine w_alloc (cs := [_]) want_none Try.zeroValue3 rfl hs12 (fun b20 w21 hs22 => ?_)
   refine w_store (i := 0) (v := .int _ _) (vs := [_]) want_none Try.sizeOf3 rfl rfl rfl rfl rfl (by simp [Value.oneCell']) hs22 rfl (Nat.le_of_ble_eq_true rfl) (fun w23 hs24 => ?_)
   refine w_nil ?_
   refine q_then (hK18 _ _ ?_)
   refine w_seq (fun K26 hK25 => ?_)
   refine w_region ?_
   refine w_p (y_load1 Try.isAgg3 hs24 rfl rfl (ats_own (i := 0) (vs := [_]) rfl rfl)) rfl ?_
   refine w_p (y_fieldAddr (o := 2) (i := 2) Try.underlying25 rfl Try.sizeOf23 rfl rfl rfl) rfl ?_
   refine w_p (y_load1 Try.isAgg23 hs24 rfl rfl (ats_own (i := 1) (vs := [_]) rfl rfl)) rfl ?_
   refine w_p (y_lenS Try.underlying23 rfl rfl) rfl ?_
   refine w_p (yd_cast (z' := ((b.hours.length * b.ctrs.length : Nat) : Int)) hmi (y_mul rfl rfl rfl rfl (by omega) (by omega))) rfl ?_
   refine w_p (y_makeFunc (fv := []) (cv := [_, _]) rfl rfl rfl rfl) rfl ?_
   refine w_call want_none Try.call78 rfl rfl rfl rfl (c78 (M := []) (F := (b20, blk 3 [.int .i64 (b.hours.length : Int)]) :: (b3, blk 25 (b.cells p)) :: F) (b.hours.length * b.ctrs.length) (many_8 hok) _ (wrongS b) (fun M => M = []) (fun s M X w hs1 hM hs => by subst hM; exact fcon_fn Try.call83 ((c83 b p hm.cons.cons.app hck s (by have := (shl_256 (many_8 hok)).2; omega) _ _ (Ats.app (ats_own (i := 1) (vs := b.cells p) rfl rfl)) (Ats.app (ats_own (i := 0) (vs := [_]) rfl rfl)) hs).mono fun v w h => ⟨h.1, [], rfl, h.2⟩)) rfl hs24) ?_
   rintro _ w28 ⟨B, M2, a2, c2, rfl, hslB, rfl, hs29⟩
   refine w_p (y_assign (v := .slice _ _ _) rfl rfl) rfl ?_
   refine w_p (y_assign (v := _) rfl rfl) rfl ?_
   refine w_nil ?_
   refine q_then (hK25 _ _ ?_)
   refine w_ret ?_
   refine q_ret (l := [.tmp 2, .tmp 3]) (vs := [_, _]) rfl ⟨⟨rfl, show _ = (.slice _ _ _ : Value) from rfl⟩, ⟨rfl, show _ = (.int _ _ : Value) from rfl⟩, trivial⟩ ?_
   exact ⟨B, a2, c2, by rw [wrongP_y hck]; rfl, by rw [wrongP_y hck]; exact hslB, keep_front (M := []) (P := [_, _]) hs29⟩

end Go.Proofs
/- Plain words of the chain layer: the document's example. No conditions. -/
set_option linter.unusedSimpArgs false
set_option linter.unusedVariables false
namespace Go.Rt.Ch
open Go.Rt.Ha
def nShip : ByteArray := ⟨#[115, 104, 105, 112]⟩
def nShore : ByteArray := ⟨#[115, 104, 111, 114, 101]⟩
def exB (n : Int) : Board := ⟨2, [⟨0, 10, 13⟩, ⟨0, 8, 11⟩, ⟨1, 10, 12⟩], [⟨nShip, 1, 0, 90, [0, 0, 0], [1, -1, 22]⟩, ⟨nShore, 0, 2, 0, [0, 2, 0], [13, 10, n]⟩]⟩
theorem ex_went1 : wentP (exB 21) 0 = ((11, 12), 0) := by decide +kernel
theorem ex_hold1 : holdP (exB 21) 0 = ((21, 22), 0) := by decide +kernel
theorem ex_right1 : rightP (exB 21) 0 = (0, 0) := by decide +kernel
theorem ex_right2 : rightP (exB 21) 1 = (2, 0) := by decide +kernel
theorem ex_zero1 : zeroP (exB 21) 1 1 = (1, 0) := by decide +kernel
theorem ex_looks1 : looksP (exB 21) 0 0 = ([0], 0) := by decide +kernel
theorem ex_looks2 : looksP (exB 21) 0 1 = ([], 0) := by decide +kernel
theorem ex_wrong1 : wrongP (exB 30) = ([5], 0) := by decide +kernel
theorem ex_went2 : wentP (exB 30) 0 = ((0, 0), 8) := by decide +kernel
theorem ex_looks3 : looksP (exB 21) 0 (-1) = ([], 7) := by decide +kernel
end Go.Rt.Ch
/- Walks of this seat, printed by gen.py over the engine: what each function returns, in whatever world. No conditions but those of each contract. -/
set_option linter.unusedVariables false
set_option linter.unusedSimpArgs false
set_option maxRecDepth 20000
namespace Go.Proofs
open Go.Rt Go.Rt.Ch
open Go.Rt.Ha (firstE firstE_step firstE_stop firstE_end failE nameE felt spanL upto span_mem listL fewest fewTo bit before fewStep drop_lt drop_get drop_next drop_done drop_notin set_take set_zero take_less)
attribute [local irreducible] WL WC Con Yd At Ats Sl Agree DW
theorem Try_Ya_fb7 (x0 : Int) (x1 : Int) (w : World) : (Instr.build 31 [(0, .int .i64 x0), (1, .int .i64 x1)].toArray).run Try.prog w = .ok (.agg #[.int .i64 x0, .int .i64 x1]) w := by kernel_rfl
theorem Try_Ya_fb8 (x0 : Int) (x1 : Int) (w : World) : (Instr.build 70 [(1, .agg #[.int .i64 x0, .int .i64 x1])].toArray).run Try.prog w = .ok (.agg #[.int .i64 0, .int .i64 x0, .int .i64 x1]) w := by kernel_rfl
theorem Try_Ya_fb9 (x0 : Int) (x1 : Int) (x2 : Int) (w : World) : (Instr.build 70 [(0, .int .i64 x0), (1, .agg #[.int .i64 x1, .int .i64 x2])].toArray).run Try.prog w = .ok (.agg #[.int .i64 x0, .int .i64 x1, .int .i64 x2]) w := by kernel_rfl
theorem Try_Ya_fb10 (x0 : Int) (x1 : Int) (x2 : Int) (x3 : Int) (x4 : Int) (x5 : Int) (x6 : Int) (x7 : Int) (x8 : Int) (w : World) : (Instr.buildSlice 22 3 [(0, .agg #[.int .i64 x0, .int .i64 x1, .int .i64 x2]), (1, .agg #[.int .i64 x3, .int .i64 x4, .int .i64 x5]), (2, .agg #[.int .i64 x6, .int .i64 x7, .int .i64 x8])].toArray).run Try.prog w = .ok (.slice (some ⟨w.heap.size, 0, none⟩) 3 3) (w.alloc (Go.Rt.blk 70 [.int .i64 x0, .int .i64 x1, .int .i64 x2, .int .i64 x3, .int .i64 x4, .int .i64 x5, .int .i64 x6, .int .i64 x7, .int .i64 x8])) := by kernel_rfl
theorem Try_Ya_fb11 (x0 : Int) (x1 : Int) (x2 : Int) (w : World) : (Instr.buildSlice 39 3 [(0, .int .i64 x0), (1, .int .i64 x1), (2, .int .i64 x2)].toArray).run Try.prog w = .ok (.slice (some ⟨w.heap.size, 0, none⟩) 3 3) (w.alloc (Go.Rt.blk 3 [.int .i64 x0, .int .i64 x1, .int .i64 x2])) := by kernel_rfl
theorem Try_Ya_fb12 (x0 : ByteArray) (x1 : Int) (x2 : Int) (x3 : Option Addr) (l3 c3 : Nat) (x4 : Option Addr) (l4 c4 : Nat) (w : World) : (Instr.build 76 [(0, .string x0), (1, .int .i64 x1), (3, .int .i64 x2), (4, .slice x3 l3 c3), (5, .slice x4 l4 c4)].toArray).run Try.prog w = .ok (.agg #[.string x0, .int .i64 x1, .int .i64 0, .int .i64 x2, .slice x3 l3 c3, .slice x4 l4 c4]) w := by kernel_rfl
theorem Try_Ya_fb13 (x0 : ByteArray) (x1 : Int) (x2 : Option Addr) (l2 c2 : Nat) (x3 : Option Addr) (l3 c3 : Nat) (w : World) : (Instr.build 76 [(0, .string x0), (2, .int .i64 x1), (4, .slice x2 l2 c2), (5, .slice x3 l3 c3)].toArray).run Try.prog w = .ok (.agg #[.string x0, .int .i64 0, .int .i64 x1, .int .i64 0, .slice x2 l2 c2, .slice x3 l3 c3]) w := by kernel_rfl
theorem Try_Ya_fb14 (x0 : ByteArray) (x1 : Int) (x2 : Int) (x3 : Int) (x4 : Option Addr) (l4 c4 : Nat) (x5 : Option Addr) (l5 c5 : Nat) (x6 : ByteArray) (x7 : Int) (x8 : Int) (x9 : Int) (x10 : Option Addr) (l10 c10 : Nat) (x11 : Option Addr) (l11 c11 : Nat) (w : World) : (Instr.buildSlice 23 2 [(0, .agg #[.string x0, .int .i64 x1, .int .i64 x2, .int .i64 x3, .slice x4 l4 c4, .slice x5 l5 c5]), (1, .agg #[.string x6, .int .i64 x7, .int .i64 x8, .int .i64 x9, .slice x10 l10 c10, .slice x11 l11 c11])].toArray).run Try.prog w = .ok (.slice (some ⟨w.heap.size, 0, none⟩) 2 2) (w.alloc (Go.Rt.blk 76 [.string x0, .int .i64 x1, .int .i64 x2, .int .i64 x3, .slice x4 l4 c4, .slice x5 l5 c5, .string x6, .int .i64 x7, .int .i64 x8, .int .i64 x9, .slice x10 l10 c10, .slice x11 l11 c11])) := by kernel_rfl
theorem Try_Ya_fb15 (x0 : Int) (x1 : Option Addr) (l1 c1 : Nat) (x2 : Option Addr) (l2 c2 : Nat) (w : World) : (Instr.build 25 [(0, .int .i64 x0), (1, .slice x1 l1 c1), (2, .slice x2 l2 c2)].toArray).run Try.prog w = .ok (.agg #[.int .i64 x0, .slice x1 l1 c1, .slice x2 l2 c2]) w := by kernel_rfl
theorem Try_flat31 : flatInts Try.prog 31 2 = true := by kernel_rfl
theorem Try_Ya_fb17 (x0 : Int) (w : World) : (Instr.buildSlice 39 1 [(0, .int .i64 x0)].toArray).run Try.prog w = .ok (.slice (some ⟨w.heap.size, 0, none⟩) 1 1) (w.alloc (Go.Rt.blk 3 [.int .i64 x0])) := by kernel_rfl
theorem ats_ofL {w0 w : World} {L : List (Nat × Obj)} {i b : Nat} {t : TypeId} {cs vs : List Value} (hs : St w0 w L) (hi : L[i]? = some (b, blk t cs)) (h : (cs.drop 0).take vs.length = vs) : Ats w0 L b 0 vs := ats_own hi h
theorem gen_Z {w0 w : World} {L : List (Nat × Obj)} (hs : St w0 w L) : ∃ Z, Z = L ∧ St w0 w Z := ⟨L, rfl, hs⟩
theorem con_true {k : FuncId} {args : List Value} {w : World} {x : Bool} {S : World → Prop} (h : Con Try.prog k args w fun v w' => v = .bool x ∧ S w') (hx : x = true) : Con Try.prog k args w fun v w' => v = .bool true ∧ S w' := by subst hx; exact h
theorem kz_own {w0 w : World} {B F : List (Nat × Obj)} {a : Nat × Obj} (h : St w0 w (B ++ (a :: F))) : St w0 w (B ++ F) := (h.perm (perm_mid B [a] F)).tail
def exP (bh bc z1 s1 z2 s2 : Nat) : AtB := ⟨some ⟨bh, 0, none⟩, 3, some ⟨bc, 0, none⟩, 2, fun i => if i = 0 then ⟨some ⟨z1, 0, none⟩, 3, some ⟨s1, 0, none⟩, 3⟩ else ⟨some ⟨z2, 0, none⟩, 3, some ⟨s2, 0, none⟩, 3⟩⟩
theorem ex_bin {w0 : World} {n : Int} {bh bc z1 s1 z2 s2 : Nat} :
    BIn w0 [(bc, blk 76 (krows (exB n).ctrs (exP bh bc z1 s1 z2 s2).pc).flatten), (s2, blk 3 (iv [13, 10, n])), (z2, blk 3 (iv [0, 2, 0])), (s1, blk 3 (iv [1, -1, 22])), (z1, blk 3 (iv [0, 0, 0])), (bh, blk 70 (hrows (exB n).hours).flatten)] (exB n) (exP bh bc z1 s1 z2 s2) where
  h := sl_own (i := 5) rfl (by intro row h; obtain ⟨q, _, rfl⟩ := List.mem_map.1 h; rfl) rfl
  c := sl_own (i := 0) rfl (krows_row _ _) rfl
  z := fun i hi => by
    match i, hi with
    | 0, _ => exact sl_own (i := 4) rfl (by intro row h; obtain ⟨q, _, rfl⟩ := List.mem_map.1 h; rfl) rfl
    | 1, _ => exact sl_own (i := 2) rfl (by intro row h; obtain ⟨q, _, rfl⟩ := List.mem_map.1 h; rfl) rfl
    | i + 2, hi => exact absurd hi (by simp [exB])
  s := fun i hi => by
    match i, hi with
    | 0, _ => exact sl_own (i := 3) rfl (by intro row h; obtain ⟨q, _, rfl⟩ := List.mem_map.1 h; rfl) rfl
    | 1, _ => exact sl_own (i := 1) rfl (by intro row h; obtain ⟨q, _, rfl⟩ := List.mem_map.1 h; rfl) rfl
    | i + 2, hi => exact absurd hi (by simp [exB])
  lh := by simp [exB]
  lc := by simp [exB]
  ch := by simp [exB, exP]
  cc := by simp [exB, exP]
  lz := fun i hi => by
    match i, hi with
    | 0, _ => exact ⟨by simp [exB], by simp [exB, exP]⟩
    | 1, _ => exact ⟨by simp [exB], by simp [exB, exP]⟩
    | i + 2, hi => exact absurd hi (by simp [exB])
  ls := fun i hi => by
    match i, hi with
    | 0, _ => exact ⟨by simp [exB], by simp [exB, exP]⟩
    | 1, _ => exact ⟨by simp [exB], by simp [exB, exP]⟩
    | i + 2, hi => exact absurd hi (by simp [exB])
  nm := by intro q hq; simp only [exB, List.mem_cons, List.not_mem_nil, or_false] at hq; rcases hq with rfl | rfl <;> (dsimp only; decide)
theorem c33 {w0 w : World} {F : List (Nat × Obj)} (x y : Int) (hs : St w0 w F) :
  Con Try.prog 33 [.int .i64 x, .int .i64 y] w fun v w' => v = .agg #[.int .i64 x, .int .i64 y] ∧ St w0 w' F := by
  refine con_of_wc (n := 8) Try.func33 rfl rfl (Nat.le_of_ble_eq_true rfl) ?_
  refine w_seq (fun K2 hK1 => ?_)
  refine w_region ?_
  refine w_alloc (cs := [_, _]) want_none Try.zeroValue31 rfl hs (fun b3 w4 hs5 => ?_)
  refine w_nil ?_
  refine q_then (hK1 _ _ ?_)
  refine w_seq (fun K7 hK6 => ?_)
  refine w_region ?_
  refine w_p (y_move (v := .int _ _) rfl rfl) rfl ?_
  refine w_p (y_move (v := .int _ _) rfl rfl) rfl ?_
  refine w_p (y_build (ps := [(0, _), (1, _)]) (pv := [(0, .int _ _), (1, .int _ _)]) rfl rfl (fun w => Try_Ya_fb7 _ _ w)) rfl ?_
  refine w_store (i := 0) (v := .agg #[.int _ _, .int _ _]) (vs := [_, _]) want_none Try.sizeOf31 rfl rfl rfl rfl rfl (by simp [Value.oneCell']) hs5 rfl (Nat.le_of_ble_eq_true rfl) (fun w8 hs9 => ?_)
  refine w_nil ?_
  refine q_then (hK6 _ _ ?_)
  refine w_ret ?_
  refine q_ret (l := [.cell 4 31]) (vs := [_]) rfl ⟨⟨rfl, _, rfl, run_loadVarN (vs := [_, _]) Try.isAgg31 Try.sizeOf31 hs9 (ats_own (i := 0) (vs := [_, _]) rfl rfl)⟩, trivial⟩ ?_
  exact ⟨rfl, hs9.tail⟩

theorem c32 {w0 w : World} {F : List (Nat × Obj)} (n : Int) (hs : St w0 w F) :
  Con Try.prog 32 [.int .i64 n] w fun v w' => ∃ p B, v = .agg ((exB n).cells p).toArray ∧ BIn w0 B (exB n) p ∧ St w0 w' (B ++ F) := by
  refine con_of_wc (n := 19) Try.func32 rfl rfl (Nat.le_of_ble_eq_true rfl) ?_
  refine w_seq (fun K2 hK1 => ?_)
  refine w_region ?_
  refine w_alloc (cs := [_, _, _]) want_none Try.zeroValue25 rfl hs (fun b3 w4 hs5 => ?_)
  refine w_nil ?_
  refine q_then (hK1 _ _ ?_)
  refine w_seq (fun K7 hK6 => ?_)
  refine w_region ?_
  refine w_call want_none Try.call33 rfl rfl rfl rfl (c33 _ _ hs5) ?_
  rintro _ w9 ⟨rfl, hs10⟩
  refine w_p (y_build (ps := [(1, _)]) (pv := [(1, .agg #[.int _ _, .int _ _])]) rfl rfl (fun w => Try_Ya_fb8 _ _ w)) rfl ?_
  refine w_call want_none Try.call33 rfl rfl rfl rfl (c33 _ _ hs10) ?_
  rintro _ w12 ⟨rfl, hs13⟩
  refine w_p (y_build (ps := [(1, _)]) (pv := [(1, .agg #[.int _ _, .int _ _])]) rfl rfl (fun w => Try_Ya_fb8 _ _ w)) rfl ?_
  refine w_call want_none Try.call33 rfl rfl rfl rfl (c33 _ _ hs13) ?_
  rintro _ w15 ⟨rfl, hs16⟩
  refine w_p (y_build (ps := [(0, _), (1, _)]) (pv := [(0, .int _ _), (1, .agg #[.int _ _, .int _ _])]) rfl rfl (fun w => Try_Ya_fb9 _ _ _ w)) rfl ?_
  refine w_bslice (ps := [(0, _), (1, _), (2, _)]) (pv := [(0, .agg #[.int _ _, .int _ _, .int _ _]), (1, .agg #[.int _ _, .int _ _, .int _ _]), (2, .agg #[.int _ _, .int _ _, .int _ _])]) (cs := [_, _, _, _, _, _, _, _, _]) want_none rfl rfl (fun w => Try_Ya_fb10 _ _ _ _ _ _ _ _ _ w) hs16 (fun b17 w18 hs19 => ?_)
  refine w_bslice (ps := [(0, _), (1, _), (2, _)]) (pv := [(0, .int _ _), (1, .int _ _), (2, .int _ _)]) (cs := [_, _, _]) want_none rfl rfl (fun w => Try_Ya_fb11 _ _ _ w) hs19 (fun b20 w21 hs22 => ?_)
  refine w_bslice (ps := [(0, _), (1, _), (2, _)]) (pv := [(0, .int _ _), (1, .int _ _), (2, .int _ _)]) (cs := [_, _, _]) want_none rfl rfl (fun w => Try_Ya_fb11 _ _ _ w) hs22 (fun b23 w24 hs25 => ?_)
  refine w_p (y_build (ps := [(0, _), (1, _), (3, _), (4, _), (5, _)]) (pv := [(0, .string _), (1, .int _ _), (3, .int _ _), (4, .slice _ _ _), (5, .slice _ _ _)]) rfl rfl (fun w => Try_Ya_fb12 _ _ _ _ _ _ _ _ _ w)) rfl ?_
  refine w_bslice (ps := [(0, _), (1, _), (2, _)]) (pv := [(0, .int _ _), (1, .int _ _), (2, .int _ _)]) (cs := [_, _, _]) want_none rfl rfl (fun w => Try_Ya_fb11 _ _ _ w) hs25 (fun b26 w27 hs28 => ?_)
  refine w_p (y_move (v := .int _ _) rfl rfl) rfl ?_
  refine w_bslice (ps := [(0, _), (1, _), (2, _)]) (pv := [(0, .int _ _), (1, .int _ _), (2, .int _ _)]) (cs := [_, _, _]) want_none rfl rfl (fun w => Try_Ya_fb11 _ _ _ w) hs28 (fun b29 w30 hs31 => ?_)
  refine w_p (y_build (ps := [(0, _), (2, _), (4, _), (5, _)]) (pv := [(0, .string _), (2, .int _ _), (4, .slice _ _ _), (5, .slice _ _ _)]) rfl rfl (fun w => Try_Ya_fb13 _ _ _ _ _ _ _ _ w)) rfl ?_
  refine w_bslice (ps := [(0, _), (1, _)]) (pv := [(0, .agg #[.string _, .int _ _, .int _ _, .int _ _, .slice _ _ _, .slice _ _ _]), (1, .agg #[.string _, .int _ _, .int _ _, .int _ _, .slice _ _ _, .slice _ _ _])]) (cs := [_, _, _, _, _, _, _, _, _, _, _, _]) want_none rfl rfl (fun w => Try_Ya_fb14 _ _ _ _ _ _ _ _ _ _ _ _ _ _ _ _ _ _ _ _ w) hs31 (fun b32 w33 hs34 => ?_)
  refine w_p (y_build (ps := [(0, _), (1, _), (2, _)]) (pv := [(0, .int _ _), (1, .slice _ _ _), (2, .slice _ _ _)]) rfl rfl (fun w => Try_Ya_fb15 _ _ _ _ _ _ _ w)) rfl ?_
  refine w_store (i := 6) (v := .agg #[.int _ _, .slice _ _ _, .slice _ _ _]) (vs := [_, _, _]) want_none Try.sizeOf25 rfl rfl rfl rfl rfl (by simp [Value.oneCell']) hs34 rfl (Nat.le_of_ble_eq_true rfl) (fun w35 hs36 => ?_)
  refine w_nil ?_
  refine q_then (hK6 _ _ ?_)
  refine w_ret ?_
  refine q_ret (l := [.cell 2 25]) (vs := [_]) rfl ⟨⟨rfl, _, rfl, run_loadVarN (vs := [_, _, _]) Try.isAgg25 Try.sizeOf25 hs36 (ats_own (i := 6) (vs := [_, _, _]) rfl rfl)⟩, trivial⟩ ?_
  exact ⟨exP b17 b32 b20 b23 b26 b29, [_, _, _, _, _, _], rfl, ex_bin, kz_own (B := [_, _, _, _, _, _]) hs36⟩

theorem c22 {w0 w : World} {F : List (Nat × Obj)}  (hs : St w0 w F) :
  Con Try.prog 22 [] w fun v w' => v = .bool true ∧ St w0 w' F := by
  refine con_of_wc (n := 150) Try.func22 rfl rfl (Nat.le_of_ble_eq_true rfl) ?_
  refine w_seq (fun K2 hK1 => ?_)
  refine w_region ?_
  refine w_p (y_assign (v := _) rfl rfl) rfl ?_
  refine w_nil ?_
  refine q_then (hK1 _ _ ?_)
  refine w_seq (fun K4 hK3 => ?_)
  refine w_region ?_
  refine w_call want_none Try.call32 rfl rfl rfl rfl (c32 21 hs) ?_
  rintro _ w6 ⟨p1, L1, rfl, hq1, hs7⟩
  replace hs7 := (show St _ _ (L1 ++ (F)) from hs7)
  refine w_call want_none Try.call32 rfl rfl rfl rfl (c32 30 hs7) ?_
  rintro _ w9 ⟨p2, L2, rfl, hq2, hs10⟩
  replace hs10 := (show St _ _ (L2 ++ (L1 ++ (F))) from hs10)
  refine w_alloc (cs := [_, _, _]) want_none Try.zeroValue25 rfl hs10 (fun b11 w12 hs13 => ?_)
  refine w_alloc (cs := [_, _, _]) want_none Try.zeroValue25 rfl hs13 (fun b14 w15 hs16 => ?_)
  refine w_store (i := 1) (v := .agg #[.int _ _, .slice _ _ _, .slice _ _ _]) (vs := [_, _, _]) want_none Try.sizeOf25 rfl rfl rfl rfl rfl (by simp [Value.oneCell']) hs16 rfl (Nat.le_of_ble_eq_true rfl) (fun w17 hs18 => ?_)
  refine w_store (i := 0) (v := .agg #[.int _ _, .slice _ _ _, .slice _ _ _]) (vs := [_, _, _]) want_none Try.sizeOf25 rfl rfl rfl rfl rfl (by simp [Value.oneCell']) hs18 rfl (Nat.le_of_ble_eq_true rfl) (fun w19 hs20 => ?_)
  refine w_nil ?_
  refine q_then (hK3 _ _ ?_)
  refine w_seq (fun K22 hK21 => ?_)
  obtain ⟨Z, hZ, hsZ⟩ := gen_Z hs20
  have hP1 : Ats w0 Z b11 0 ((exB 21).cells p1) := by rw [hZ]; exact ats_own (i := 1) (vs := (exB 21).cells p1) rfl rfl
  have hM1 : BIn w0 Z (exB 21) p1 := by rw [hZ]; exact BIn.mono hq1 (fun w h => h.tail.tail.drop.front)
  have hP2 : Ats w0 Z b14 0 ((exB 30).cells p2) := by rw [hZ]; exact ats_own (i := 0) (vs := (exB 30).cells p2) rfl rfl
  have hM2 : BIn w0 Z (exB 30) p2 := by rw [hZ]; exact BIn.mono hq2 (fun w h => h.tail.tail.front)
  refine w_region ?_
  refine w_p (y_loadN (vs := [_, _, _]) Try.isAgg25 Try.sizeOf25 hsZ rfl rfl hP1) rfl ?_
  refine w_call want_none Try.call18 rfl rfl rfl rfl ((c18 (exB 21) p1 hM1 0 hsZ).mono (fun v w' h => by rw [ex_went1] at h; exact h)) ?_
  rintro _ w24 ⟨rfl, hs25⟩
  refine w_p (y_move (v := .tuple _) rfl rfl) rfl ?_
  refine w_p (y_extract (v := .agg _) rfl rfl rfl) rfl ?_
  refine w_p (y_extract (v := .int _ _) rfl rfl rfl) rfl ?_
  refine w_alloc (cs := [_, _]) want_none Try.zeroValue31 rfl hs25 (fun b26 w27 hs28 => ?_)
  refine w_store (i := 0) (v := .agg #[.int _ _, .int _ _]) (vs := [_, _]) want_none Try.sizeOf31 rfl rfl rfl rfl rfl (by simp [Value.oneCell']) hs28 rfl (Nat.le_of_ble_eq_true rfl) (fun w29 hs30 => ?_)
  refine w_p (y_assign (v := .int _ _) rfl rfl) rfl ?_
  refine w_nil ?_
  refine q_then (hK21 _ _ ?_)
  refine w_seq (fun K32 hK31 => ?_)
  have hx3 := ats_ofL (i := 0) (vs := [_, _]) hs30 rfl rfl
  refine w_region ?_
  refine w_p (y_loadN (vs := [_, _, _]) Try.isAgg25 Try.sizeOf25 hs30.tail rfl rfl hP1) rfl ?_
  refine w_call want_none Try.call20 rfl rfl rfl rfl ((c20 (exB 21) p1 hM1.cons 0 hs30).mono (fun v w' h => by rw [ex_hold1] at h; exact h)) ?_
  rintro _ w34 ⟨rfl, hs35⟩
  refine w_p (y_move (v := .tuple _) rfl rfl) rfl ?_
  refine w_p (y_extract (v := .agg _) rfl rfl rfl) rfl ?_
  refine w_p (y_extract (v := .int _ _) rfl rfl rfl) rfl ?_
  refine w_alloc (cs := [_, _]) want_none Try.zeroValue31 rfl hs35 (fun b36 w37 hs38 => ?_)
  refine w_store (i := 0) (v := .agg #[.int _ _, .int _ _]) (vs := [_, _]) want_none Try.sizeOf31 rfl rfl rfl rfl rfl (by simp [Value.oneCell']) hs38 rfl (Nat.le_of_ble_eq_true rfl) (fun w39 hs40 => ?_)
  refine w_p (y_assign (v := .int _ _) rfl rfl) rfl ?_
  refine w_nil ?_
  refine q_then (hK31 _ _ ?_)
  refine w_seq (fun K42 hK41 => ?_)
  have hx5 := ats_ofL (i := 0) (vs := [_, _]) hs40 rfl rfl
  refine w_region ?_
  refine w_p (y_loadN (vs := [_, _, _]) Try.isAgg25 Try.sizeOf25 hs40.tail.tail rfl rfl hP1) rfl ?_
  refine w_call want_none Try.call23 rfl rfl rfl rfl ((c23 (exB 21) p1 hM1.cons.cons 0 hs40).mono (fun v w' h => by rw [ex_right1] at h; exact h)) ?_
  rintro _ w44 ⟨rfl, hs45⟩
  refine w_p (y_move (v := .tuple _) rfl rfl) rfl ?_
  refine w_p (y_extract (v := .int _ _) rfl rfl rfl) rfl ?_
  refine w_p (y_extract (v := .int _ _) rfl rfl rfl) rfl ?_
  refine w_p (y_assign (v := .int _ _) rfl rfl) rfl ?_
  refine w_p (y_assign (v := .int _ _) rfl rfl) rfl ?_
  refine w_nil ?_
  refine q_then (hK41 _ _ ?_)
  refine w_seq (fun K47 hK46 => ?_)
  refine w_region ?_
  refine w_p (y_loadN (vs := [_, _, _]) Try.isAgg25 Try.sizeOf25 hs45.tail.tail rfl rfl hP1) rfl ?_
  refine w_call want_none Try.call23 rfl rfl rfl rfl ((c23 (exB 21) p1 hM1.cons.cons 1 hs45).mono (fun v w' h => by rw [ex_right2] at h; exact h)) ?_
  rintro _ w49 ⟨rfl, hs50⟩
  refine w_p (y_move (v := .tuple _) rfl rfl) rfl ?_
  refine w_p (y_extract (v := .int _ _) rfl rfl rfl) rfl ?_
  refine w_p (y_extract (v := .int _ _) rfl rfl rfl) rfl ?_
  refine w_p (y_assign (v := .int _ _) rfl rfl) rfl ?_
  refine w_p (y_assign (v := .int _ _) rfl rfl) rfl ?_
  refine w_nil ?_
  refine q_then (hK46 _ _ ?_)
  refine w_seq (fun K52 hK51 => ?_)
  refine w_region ?_
  refine w_p (y_loadN (vs := [_, _, _]) Try.isAgg25 Try.sizeOf25 hs50.tail.tail rfl rfl hP1) rfl ?_
  refine w_call want_none Try.call25 rfl rfl rfl rfl ((c25 (exB 21) p1 hM1.cons.cons 1 1 hs50).mono (fun v w' h => by rw [ex_zero1] at h; exact h)) ?_
  rintro _ w54 ⟨rfl, hs55⟩
  refine w_p (y_move (v := .tuple _) rfl rfl) rfl ?_
  refine w_p (y_extract (v := .int _ _) rfl rfl rfl) rfl ?_
  refine w_p (y_extract (v := .int _ _) rfl rfl rfl) rfl ?_
  refine w_p (y_assign (v := .int _ _) rfl rfl) rfl ?_
  refine w_p (y_assign (v := .int _ _) rfl rfl) rfl ?_
  refine w_nil ?_
  refine q_then (hK51 _ _ ?_)
  refine w_seq (fun K57 hK56 => ?_)
  refine w_region ?_
  refine w_p (y_loadN (vs := [_, _, _]) Try.isAgg25 Try.sizeOf25 hs55.tail.tail rfl rfl hP1) rfl ?_
  refine w_call want_none Try.call27 rfl rfl rfl rfl ((c27 (exB 21) p1 hM1.cons.cons 0 0 hs55).mono (fun v w' h => by rw [ex_looks1] at h; exact h)) ?_
  rintro _ w59 ⟨B1, a1, c1, rfl, hr1, hs60⟩
  replace hs60 := (show St _ _ (B1 ++ (_ :: _ :: Z)) from hs60)
  refine w_p (y_move (v := .tuple _) rfl rfl) rfl ?_
  refine w_p (y_extract (v := .slice _ _ _) rfl rfl rfl) rfl ?_
  refine w_p (y_extract (v := .int _ _) rfl rfl rfl) rfl ?_
  refine w_p (y_assign (v := .slice _ _ _) rfl rfl) rfl ?_
  refine w_p (y_assign (v := .int _ _) rfl rfl) rfl ?_
  refine w_nil ?_
  refine q_then (hK56 _ _ ?_)
  refine w_seq (fun K62 hK61 => ?_)
  refine w_region ?_
  refine w_p (y_loadN (vs := [_, _, _]) Try.isAgg25 Try.sizeOf25 hs60.drop.tail.tail rfl rfl hP1) rfl ?_
  refine w_call want_none Try.call27 rfl rfl rfl rfl ((c27 (exB 21) p1 hM1.cons.cons.app 0 1 hs60).mono (fun v w' h => by rw [ex_looks2] at h; exact h)) ?_
  rintro _ w64 ⟨B2, a2, c2, rfl, hr2, hs65⟩
  replace hs65 := (show St _ _ (B2 ++ (B1 ++ (_ :: _ :: Z))) from hs65)
  refine w_p (y_move (v := .tuple _) rfl rfl) rfl ?_
  refine w_p (y_extract (v := .slice _ _ _) rfl rfl rfl) rfl ?_
  refine w_p (y_extract (v := .int _ _) rfl rfl rfl) rfl ?_
  refine w_p (y_assign (v := .slice _ _ _) rfl rfl) rfl ?_
  refine w_p (y_assign (v := .int _ _) rfl rfl) rfl ?_
  refine w_nil ?_
  refine q_then (hK61 _ _ ?_)
  refine w_seq (fun K67 hK66 => ?_)
  refine w_region ?_
  refine w_p (y_loadN (vs := [_, _, _]) Try.isAgg25 Try.sizeOf25 hs65.drop.drop.tail.tail rfl rfl hP2) rfl ?_
  refine w_call want_none Try.call30 rfl rfl rfl rfl ((c30 (exB 30) p2 hM2.cons.cons.app.app hs65).mono (fun v w' h => by rw [ex_wrong1] at h; exact h)) ?_
  rintro _ w69 ⟨B3, a3, c3, rfl, hr3, hs70⟩
  replace hs70 := (show St _ _ (B3 ++ (B2 ++ (B1 ++ (_ :: _ :: Z)))) from hs70)
  refine w_p (y_move (v := .tuple _) rfl rfl) rfl ?_
  refine w_p (y_extract (v := .slice _ _ _) rfl rfl rfl) rfl ?_
  refine w_p (y_extract (v := .int _ _) rfl rfl rfl) rfl ?_
  refine w_p (y_assign (v := .slice _ _ _) rfl rfl) rfl ?_
  refine w_p (y_assign (v := .int _ _) rfl rfl) rfl ?_
  refine w_nil ?_
  refine q_then (hK66 _ _ ?_)
  refine w_seq (fun K72 hK71 => ?_)
  refine w_region ?_
  refine w_p (y_loadN (vs := [_, _, _]) Try.isAgg25 Try.sizeOf25 hs70.drop.drop.drop.tail.tail rfl rfl hP2) rfl ?_
  refine w_call want_none Try.call18 rfl rfl rfl rfl ((c18 (exB 30) p2 hM2.cons.cons.app.app.app 0 hs70).mono (fun v w' h => by rw [ex_went2] at h; exact h)) ?_
  rintro _ w74 ⟨rfl, hs75⟩
  refine w_p (y_move (v := .tuple _) rfl rfl) rfl ?_
  refine w_p (y_extract (v := .agg _) rfl rfl rfl) rfl ?_
  refine w_p (y_extract (v := .int _ _) rfl rfl rfl) rfl ?_
  refine w_alloc (cs := [_, _]) want_none Try.zeroValue31 rfl hs75 (fun b76 w77 hs78 => ?_)
  refine w_store (i := 0) (v := .agg #[.int _ _, .int _ _]) (vs := [_, _]) want_none Try.sizeOf31 rfl rfl rfl rfl rfl (by simp [Value.oneCell']) hs78 rfl (Nat.le_of_ble_eq_true rfl) (fun w79 hs80 => ?_)
  refine w_p (y_assign (v := .int _ _) rfl rfl) rfl ?_
  refine w_nil ?_
  refine q_then (hK71 _ _ ?_)
  refine w_seq (fun K82 hK81 => ?_)
  refine w_region ?_
  refine w_p (y_loadN (vs := [_, _, _]) Try.isAgg25 Try.sizeOf25 hs80.tail.drop.drop.drop.tail.tail rfl rfl hP1) rfl ?_
  refine w_call want_none Try.call27 rfl rfl rfl rfl ((c27 (exB 21) p1 hM1.cons.cons.app.app.app.cons 0 (-1) hs80).mono (fun v w' h => by rw [ex_looks3] at h; exact h)) ?_
  rintro _ w84 ⟨B4, a4, c4, rfl, hr4, hs85⟩
  replace hs85 := (show St _ _ (B4 ++ (_ :: B3 ++ (B2 ++ (B1 ++ (_ :: _ :: Z))))) from hs85)
  refine w_p (y_move (v := .tuple _) rfl rfl) rfl ?_
  refine w_p (y_extract (v := .slice _ _ _) rfl rfl rfl) rfl ?_
  refine w_p (y_extract (v := .int _ _) rfl rfl rfl) rfl ?_
  refine w_p (y_assign (v := .slice _ _ _) rfl rfl) rfl ?_
  refine w_p (y_assign (v := .int _ _) rfl rfl) rfl ?_
  refine w_nil ?_
  refine q_then (hK81 _ _ ?_)
  refine w_seq (fun K87 hK86 => ?_)
  refine w_draw [] [(0, 0), (1, 0), (2, 0), (3, 0), (4, 0), (5, 0), (6, 0), (7, 0), (8, 0), (9, 0), (10, 0), (11, 0), (12, 0), (13, 0), (14, 0), (15, 0), (16, 0), (17, 0), (18, 0), (19, 0), (20, 0), (21, 0), (22, 0), (23, 0), (24, 0), (25, 0), (26, 0), (27, 0), (28, 0), (29, 0), (30, 0), (31, 0), (32, 0), (33, 0), (34, 0), (35, 0), (36, 0), (37, 0), (38, 0), (39, 1), (40, 2), (41, 0), (42, 0), (43, 0), (44, 1), (45, 2), (46, 0), (47, 0), (48, 0), (49, 0), (50, 0), (51, 0), (52, 0), (53, 0), (54, 0), (55, 0), (56, 0), (57, 0), (58, 0), (59, 0), (60, 0), (61, 0), (62, 2), (63, 2), (64, 0), (65, 0), (66, 0), (67, 0), (68, 0), (69, 0), (70, 0), (71, 0), (72, 2), (73, 2), (74, 0), (75, 0)] Try_mo (drawOK_of (by kernel_rfl)) hs85 (fun w88 hs89 => ?_)
  refine d_any rfl want_none rfl (fun _ => (y_move (v := .int _ _) rfl rfl)) ?_
  refine d_any rfl want_none rfl (fun _ => (y_eql rfl rfl rfl rfl)) ?_
  refine d_any rfl want_none rfl (fun _ => (y_move (v := .bool _) rfl rfl)) ?_
  refine d_any rfl (want_yes rfl rfl rfl) rfl (fun _ => (y_move (v := .int _ _) rfl rfl)) ?_
  refine d_any rfl (want_yes rfl rfl rfl) rfl (fun _ => (y_eql rfl rfl rfl rfl)) ?_
  refine d_any rfl want_none rfl (fun _ => (y_pickT (v := .bool _) rfl rfl rfl rfl)) ?_
  refine d_any rfl want_none rfl (fun _ => (y_move (v := .bool _) rfl rfl)) ?_
  refine d_any rfl (want_yes rfl rfl rfl) rfl (fun _ => (y_move (v := .int _ _) rfl rfl)) ?_
  refine d_any rfl (want_yes rfl rfl rfl) rfl (fun _ => (y_eql rfl rfl rfl rfl)) ?_
  refine d_any rfl want_none rfl (fun _ => (y_pickT (v := .bool _) rfl rfl rfl rfl)) ?_
  refine d_any rfl want_none rfl (fun _ => (y_move (v := .bool _) rfl rfl)) ?_
  refine d_any rfl (want_yes rfl rfl rfl) rfl (fun _ => (y_move (v := .int _ _) rfl rfl)) ?_
  refine d_any rfl (want_yes rfl rfl rfl) rfl (fun _ => (y_eql rfl rfl rfl rfl)) ?_
  refine d_any rfl want_none rfl (fun _ => (y_pickT (v := .bool _) rfl rfl rfl rfl)) ?_
  refine d_any rfl want_none rfl (fun _ => (y_move (v := .bool _) rfl rfl)) ?_
  refine d_any rfl (want_yes rfl rfl rfl) rfl (fun _ => (y_move (v := .int _ _) rfl rfl)) ?_
  refine d_any rfl (want_yes rfl rfl rfl) rfl (fun _ => (y_eql rfl rfl rfl rfl)) ?_
  refine d_any rfl want_none rfl (fun _ => (y_pickT (v := .bool _) rfl rfl rfl rfl)) ?_
  refine d_any rfl want_none rfl (fun _ => (y_move (v := .bool _) rfl rfl)) ?_
  refine d_any rfl (want_yes rfl rfl rfl) rfl (fun _ => (y_move (v := .int _ _) rfl rfl)) ?_
  refine d_any rfl (want_yes rfl rfl rfl) rfl (fun _ => (y_eql rfl rfl rfl rfl)) ?_
  refine d_any rfl want_none rfl (fun _ => (y_pickT (v := .bool _) rfl rfl rfl rfl)) ?_
  refine d_any rfl want_none rfl (fun _ => (y_move (v := .bool _) rfl rfl)) ?_
  refine d_any rfl (want_yes rfl rfl rfl) rfl (fun _ => (y_move (v := .int _ _) rfl rfl)) ?_
  refine d_any rfl (want_yes rfl rfl rfl) rfl (fun _ => (y_eql rfl rfl rfl rfl)) ?_
  refine d_any rfl want_none rfl (fun _ => (y_pickT (v := .bool _) rfl rfl rfl rfl)) ?_
  refine d_any rfl want_none rfl (fun _ => (y_move (v := .bool _) rfl rfl)) ?_
  refine d_any rfl (want_yes rfl rfl rfl) rfl (fun _ => (y_move (v := .int _ _) rfl rfl)) ?_
  refine d_any rfl (want_yes rfl rfl rfl) rfl (fun _ => (y_eql rfl rfl rfl rfl)) ?_
  refine d_any rfl want_none rfl (fun _ => (y_pickT (v := .bool _) rfl rfl rfl rfl)) ?_
  refine d_any rfl want_none rfl (fun _ => (y_move (v := .bool _) rfl rfl)) ?_
  refine d_any rfl (want_yes rfl rfl rfl) rfl (fun _ => (y_move (v := .int _ _) rfl rfl)) ?_
  refine d_any rfl (want_yes rfl rfl rfl) rfl (fun _ => (y_eql rfl rfl rfl rfl)) ?_
  refine d_any rfl want_none rfl (fun _ => (y_pickT (v := .bool _) rfl rfl rfl rfl)) ?_
  refine d_any rfl want_none rfl (fun _ => (y_move (v := .bool _) rfl rfl)) ?_
  refine d_any rfl (want_yes rfl rfl rfl) rfl (fun _ => (y_move (v := .int _ _) rfl rfl)) ?_
  refine d_any rfl (want_yes rfl rfl rfl) rfl (fun _ => (y_eql rfl rfl rfl rfl)) ?_
  refine d_any rfl want_none rfl (fun _ => (y_pickT (v := .bool _) rfl rfl rfl rfl)) ?_
  refine d_any rfl want_none rfl (fun _ => (y_move (v := .bool _) rfl rfl)) ?_
  refine d_take rfl (want_yes rfl rfl rfl) rfl hs89 (fun _ hq => (y_loadN (vs := [_, _]) Try.isAgg31 Try.sizeOf31 hq.drop.tail.drop.drop.drop.tail rfl rfl hx3)) ?_
  refine d_eff rfl ?_
  refine w_call (want_yes rfl rfl rfl) Try.call33 rfl rfl rfl rfl (c33 _ _ hs89) ?_
  rintro _ w91 ⟨rfl, hs92⟩
  refine w_nil ?_
  refine qn ⟨hs92, ?_⟩
  refine d_any rfl (want_yes rfl rfl rfl) rfl (fun _ => (y_eqFlat (l := [_, _]) (m := [_, _]) Try.eqGuardType31 Try_flat31 (by first | omega | rfl | (simp only [List.length_map, List.length_set, List.length_append, List.length_take, List.length_drop, List.length_replicate, List.length_cons, List.length_nil] <;> omega)) (by first | omega | rfl | (simp only [List.length_map, List.length_set, List.length_append, List.length_take, List.length_drop, List.length_replicate, List.length_cons, List.length_nil] <;> omega)) rfl rfl rfl rfl rfl rfl)) ?_
  refine d_any rfl want_none rfl (fun _ => (y_pickT (v := .bool _) rfl rfl rfl rfl)) ?_
  refine d_any rfl want_none rfl (fun _ => (y_move (v := .bool _) rfl rfl)) ?_
  refine d_split (fun h93 => ?_) (fun h93 => ?_)
  ·
   try simp only [zA, zB, zC, zD, zE, zF] at h93
   refine d_take rfl (want_yes rfl rfl rfl) rfl hs92 (fun _ hq => (y_loadN (vs := [_, _]) Try.isAgg31 Try.sizeOf31 hq.drop.tail.drop.drop.drop rfl rfl hx5)) ?_
   refine d_eff rfl ?_
   refine w_call (want_yes rfl rfl rfl) Try.call33 rfl rfl rfl rfl (c33 _ _ hs92) ?_
   rintro _ w95 ⟨rfl, hs96⟩
   refine w_nil ?_
   refine qn ⟨hs96, ?_⟩
   refine d_any rfl (want_yes rfl rfl rfl) rfl (fun _ => (y_eqFlat (l := [_, _]) (m := [_, _]) Try.eqGuardType31 Try_flat31 (by first | omega | rfl | (simp only [List.length_map, List.length_set, List.length_append, List.length_take, List.length_drop, List.length_replicate, List.length_cons, List.length_nil] <;> omega)) (by first | omega | rfl | (simp only [List.length_map, List.length_set, List.length_append, List.length_take, List.length_drop, List.length_replicate, List.length_cons, List.length_nil] <;> omega)) rfl rfl rfl rfl rfl rfl)) ?_
   refine d_any rfl want_none rfl (fun _ => (y_pickT (v := .bool _) rfl rfl rfl rfl)) ?_
   refine d_any rfl want_none rfl (fun _ => (y_move (v := .bool _) rfl rfl)) ?_
   refine d_split (fun h97 => ?_) (fun h97 => ?_)
   ·
    try simp only [zA, zB, zC, zD, zE, zF] at h97
    refine d_any rfl (want_yes rfl rfl rfl) rfl (fun _ => (y_move (v := .int _ _) rfl rfl)) ?_
    refine d_any rfl (want_yes rfl rfl rfl) rfl (fun _ => (y_eql rfl rfl rfl rfl)) ?_
    refine d_any rfl want_none rfl (fun _ => (y_pickT (v := .bool _) rfl rfl rfl rfl)) ?_
    refine d_any rfl want_none rfl (fun _ => (y_move (v := .bool _) rfl rfl)) ?_
    refine d_any rfl (want_yes rfl rfl rfl) rfl (fun _ => (y_move (v := .int _ _) rfl rfl)) ?_
    refine d_any rfl (want_yes rfl rfl rfl) rfl (fun _ => (y_eql rfl rfl rfl rfl)) ?_
    refine d_any rfl want_none rfl (fun _ => (y_pickT (v := .bool _) rfl rfl rfl rfl)) ?_
    refine d_any rfl want_none rfl (fun _ => (y_move (v := .bool _) rfl rfl)) ?_
    refine d_any rfl (want_yes rfl rfl rfl) rfl (fun _ => (y_move (v := .int _ _) rfl rfl)) ?_
    refine d_any rfl (want_yes rfl rfl rfl) rfl (fun _ => (y_eql rfl rfl rfl rfl)) ?_
    refine d_any rfl want_none rfl (fun _ => (y_pickT (v := .bool _) rfl rfl rfl rfl)) ?_
    refine d_any rfl want_none rfl (fun _ => (y_move (v := .bool _) rfl rfl)) ?_
    refine d_any rfl (want_yes rfl rfl rfl) rfl (fun _ => (y_move (v := .slice _ _ _) rfl rfl)) ?_
    refine d_eff rfl ?_
    refine w_bslice (ps := [(0, _)]) (pv := [(0, .int _ _)]) (cs := [_]) (want_yes rfl rfl rfl) rfl rfl (fun w => Try_Ya_fb17 _ w) hs96 (fun b98 w99 hs100 => ?_)
    refine w_nil ?_
    refine qn ⟨hs100.tail, ?_⟩
    refine d_eff rfl ?_
    refine w_call (want_yes rfl rfl rfl) Try.call29 rfl rfl rfl rfl (con_true (c29 _ _ [0] [0] _ _ (by decide) hr1.top.app.app.cons.app.cons (sl_own (i := 0) (rows := [[_]]) rfl (by simp) rfl) hs100) (by decide)) ?_
    rintro _ w102 ⟨rfl, hs103⟩
    refine w_nil ?_
    refine qn ⟨hs103.tail, ?_⟩
    refine d_any rfl want_none rfl (fun _ => (y_pickT (v := .bool _) rfl rfl rfl rfl)) ?_
    refine d_any rfl want_none rfl (fun _ => (y_move (v := .bool _) rfl rfl)) ?_
    refine d_any rfl (want_yes rfl rfl rfl) rfl (fun _ => (y_move (v := .slice _ _ _) rfl rfl)) ?_
    refine d_any rfl (want_yes rfl rfl rfl) rfl (fun _ => (y_lenS Try.underlying39 rfl rfl)) ?_
    refine d_any rfl (want_yes rfl rfl rfl) rfl (fun _ => (y_eql rfl rfl rfl rfl)) ?_
    refine d_any rfl want_none rfl (fun _ => (y_pickT (v := .bool _) rfl rfl rfl rfl)) ?_
    refine d_any rfl want_none rfl (fun _ => (y_move (v := .bool _) rfl rfl)) ?_
    refine d_split (fun h104 => ?_) (fun h104 => ?_)
    ·
     try simp only [zA, zB, zC, zD, zE, zF] at h104
     refine d_any rfl (want_yes rfl rfl rfl) rfl (fun _ => (y_move (v := .slice _ _ _) rfl rfl)) ?_
     refine d_eff rfl ?_
     refine w_bslice (ps := [(0, _)]) (pv := [(0, .int _ _)]) (cs := [_]) (want_yes rfl rfl rfl) rfl rfl (fun w => Try_Ya_fb17 _ w) hs103 (fun b105 w106 hs107 => ?_)
     refine w_nil ?_
     refine qn ⟨hs107.tail.tail, ?_⟩
     refine d_eff rfl ?_
     refine w_call (want_yes rfl rfl rfl) Try.call29 rfl rfl rfl rfl (con_true (c29 _ _ [5] [5] _ _ (by decide) hr3.top.cons.app.cons.cons (sl_own (i := 0) (rows := [[_]]) rfl (by simp) rfl) hs107) (by decide)) ?_
     rintro _ w109 ⟨rfl, hs110⟩
     refine w_nil ?_
     refine qn ⟨hs110.tail.tail, ?_⟩
     refine d_any rfl want_none rfl (fun _ => (y_pickT (v := .bool _) rfl rfl rfl rfl)) ?_
     refine d_any rfl want_none rfl (fun _ => (y_assign (v := .bool _) rfl rfl)) ?_
     refine d_nil ?_
     refine q_then (hK86 _ _ ?_)
     refine w_ret ?_
     refine q_ret (l := [.tmp 0]) (vs := [_]) rfl ⟨⟨rfl, show _ = (.bool _ : Value) from rfl⟩, trivial⟩ ?_
     exact ⟨rfl, (St.cast hZ hs110.tail.tail.drop.tail.drop.drop.drop.tail.tail).tail.tail.drop.drop⟩
    ·
     exfalso; simp at h104
   ·
    exfalso; simp at h97
  ·
   exfalso; simp at h93

end Go.Proofs
/- Walks of this seat, printed by gen.py over the engine: what each function returns, in whatever world. No conditions but those of each contract. -/
set_option linter.unusedVariables false
set_option linter.unusedSimpArgs false
set_option maxRecDepth 20000
set_option maxHeartbeats 1600000
namespace Go.Proofs
open Go.Rt Go.Rt.Ch
open Go.Rt.Ha (firstE firstE_step firstE_stop firstE_end failE nameE felt spanL upto span_mem listL fewest fewTo bit before fewStep drop_lt drop_get drop_next drop_done drop_notin set_take set_zero take_less Lot Bunch feltTo fTo fPart felt_zero felt_step fTo_succ fTo_len fPart_succ fPart_len fPart_all filt_yes filt_no upto_len at_ someOf choicesTo cfind_here cfind_next cfind_on choices_fin pick_idx pickL_in find_on find_next rising rising_step rising_end rising_stop list_rising before_fewer)
attribute [local irreducible] WL WC Con Yd At Ats Sl Agree DW
theorem Try_Zk_fb9  (w : World) : (Instr.buildSlice 23 0 [].toArray).run Try.prog w = .ok (.slice (some ⟨w.heap.size, 0, none⟩) 0 0) (w.alloc (Go.Rt.blk 76 [])) := by kernel_rfl
theorem Try_Zk_fb10 (x0 : Int) (w : World) : (Instr.buildSlice 39 1 [(0, .int .i64 x0)].toArray).run Try.prog w = .ok (.slice (some ⟨w.heap.size, 0, none⟩) 1 1) (w.alloc (Go.Rt.blk 3 [.int .i64 x0])) := by kernel_rfl
theorem own_zero {v : Value} {i : Nat} {B : List (Nat × Obj)} (h : Rt.Own v 3 1 (i + 1) (iv (List.replicate i 0) ++ [[Value.int .i64 0]].flatten) B) : Rt.Own v 3 1 (i + 1) (iv (List.replicate (i + 1) 0)) B := by
  rw [List.replicate_succ']; simpa [iv] using h
theorem own_tsh {b : Board} {x : List Int} {s0 m : Int} {v : Value} {i : Nat} {B : List (Nat × Obj)} (hm : m = telS b x s0 (i + 1)) (h : Rt.Own v 3 1 (i + 1) (iv (telShown b x s0 i) ++ [[Value.int .i64 m]].flatten) B) : Rt.Own v 3 1 (i + 1) (iv (telShown b x s0 (i + 1))) B := by
  subst hm; unfold telShown at *; rw [List.range_succ, List.map_append]; simpa [iv] using h
theorem own_tld {b : Board} {x : List Int} {m : Int} {v : Value} {i : Nat} {B : List (Nat × Obj)} (hm : m = telLoad b x i) (h : Rt.Own v 3 1 (i + 1) (iv (telLoads b x i) ++ [[Value.int .i64 m]].flatten) B) : Rt.Own v 3 1 (i + 1) (iv (telLoads b x (i + 1))) B := by
  subst hm; unfold telLoads at *; rw [List.range_succ, List.map_append]; simpa [iv] using h
theorem tel_vals {v1 v2 v3 : Value} {a b c d : Int} (h : a = b) (h2 : c = d) : [v1, v2, v3, Value.int .i64 a, Value.int .i64 c] = [v1, v2, v3, Value.int .i64 b, Value.int .i64 d] := by rw [h, h2]
theorem perm_3b {w0 w : World} {A B C R : List (Nat × Obj)} {x y z : Nat × Obj} (h : St w0 w (A ++ (B ++ (C ++ (x :: y :: z :: R))))) : St w0 w (x :: y :: z :: (A ++ (B ++ (C ++ R)))) := by
  have h2 := St.perm (L := (A ++ (B ++ C)) ++ ([x, y, z] ++ R)) (by simpa [List.append_assoc] using h) (perm_mid (A ++ (B ++ C)) [x, y, z] R)
  have h3 : St w0 w (x :: y :: z :: ((A ++ (B ++ C)) ++ R)) := h2
  simpa [List.append_assoc] using h3
theorem krows_put2 {l : List Ctr} {q : Nat → AtC} {u : Nat} {d : Ctr} {at_ : AtC} {row : List Value} (hu : u < l.length) (hr : row = d.cells at_) : (krows l q).set u row = krows (l.set u d) (fun j => if j = u then at_ else q j) := by
  apply List.ext_getElem
  · simp [krows]
  · intro i h1 h2
    have hi : i < l.length := by simpa [krows] using h1
    simp only [krows, List.getElem_set, List.getElem_mapIdx]
    by_cases e : u = i
    · subst e; rw [if_pos rfl, if_pos rfl, if_pos rfl]; exact hr
    · rw [if_neg e, if_neg e, if_neg (fun h => e h.symm)]
theorem set_bin2 {w0 : World} {Z : List (Nat × Obj)} {b : Board} {p : AtB} {u cK : Nat} {aK : Option Addr} {d : Ctr} {at_ : AtC} (hm : BIn w0 Z b p) (hu : u < b.ctrs.length) (hK : Sl w0 Z aK 6 (krows (b.ctrs.set u d) (fun j => if j = u then at_ else p.pc j))) (hZ : Sl w0 Z at_.az 1 (d.zero.map fun x => [Value.int .i64 x])) (hS : Sl w0 Z at_.as 1 (d.shown.map fun x => [Value.int .i64 x])) (hlz : d.zero.length ≤ 9223372036854775807 ∧ d.zero.length ≤ at_.cz) (hls : d.shown.length ≤ 9223372036854775807 ∧ d.shown.length ≤ at_.cs) (hnm : d.name = b.ctrs[u].name) (hcK : b.ctrs.length ≤ cK) : BIn w0 Z (setC b u d) ⟨p.ah, p.ch, aK, cK, fun j => if j = u then at_ else p.pc j⟩ := by
  have hl : (setC b u d).ctrs.length = b.ctrs.length := List.length_set
  have get : ∀ i (hi : i < (setC b u d).ctrs.length), (i = u ∧ (setC b u d).ctrs[i] = d ∧ (if i = u then at_ else p.pc i) = at_) ∨ (∃ hi2 : i < b.ctrs.length, (setC b u d).ctrs[i] = b.ctrs[i] ∧ (if i = u then at_ else p.pc i) = p.pc i) := by
    intro i hi
    have hi2 : i < b.ctrs.length := by rw [hl] at hi; exact hi
    have e : (setC b u d).ctrs[i] = if u = i then d else b.ctrs[i] := List.getElem_set ..
    by_cases e2 : u = i
    · left; exact ⟨e2.symm, by rw [e, if_pos e2], if_pos e2.symm⟩
    · right; exact ⟨hi2, by rw [e, if_neg e2], if_neg (fun h => e2 h.symm)⟩
  refine ⟨hm.h, hK, fun i hi => ?_, fun i hi => ?_, hm.lh, by rw [hl]; exact hm.lc, hm.ch, by rw [hl]; exact hcK, fun i hi => ?_, fun i hi => ?_, fun x hx => ?_⟩
  · rcases get i hi with ⟨_, e2, e3⟩ | ⟨hi2, e2, e3⟩
    · rw [e2]; show Sl w0 Z (if i = u then at_ else p.pc i).az 1 _; rw [e3]; exact hZ
    · rw [e2]; show Sl w0 Z (if i = u then at_ else p.pc i).az 1 _; rw [e3]; exact hm.z i hi2
  · rcases get i hi with ⟨_, e2, e3⟩ | ⟨hi2, e2, e3⟩
    · rw [e2]; show Sl w0 Z (if i = u then at_ else p.pc i).as 1 _; rw [e3]; exact hS
    · rw [e2]; show Sl w0 Z (if i = u then at_ else p.pc i).as 1 _; rw [e3]; exact hm.s i hi2
  · rcases get i hi with ⟨_, e2, e3⟩ | ⟨hi2, e2, e3⟩
    · rw [e2]; show _ ∧ _ ≤ (if i = u then at_ else p.pc i).cz; rw [e3]; exact hlz
    · rw [e2]; show _ ∧ _ ≤ (if i = u then at_ else p.pc i).cz; rw [e3]; exact hm.lz i hi2
  · rcases get i hi with ⟨_, e2, e3⟩ | ⟨hi2, e2, e3⟩
    · rw [e2]; show _ ∧ _ ≤ (if i = u then at_ else p.pc i).cs; rw [e3]; exact hls
    · rw [e2]; show _ ∧ _ ≤ (if i = u then at_ else p.pc i).cs; rw [e3]; exact hm.ls i hi2
  · rcases List.mem_or_eq_of_mem_set hx with h | h
    · exact hm.nm x h
    · rw [h, hnm]; exact hm.nm _ (List.getElem_mem hu)
theorem ats_castT {w0 : World} {L : List (Nat × Obj)} {b o : Nat} {vs vs2 : List Value} (h : Ats w0 L b o vs) (e : vs2 = vs) : Ats w0 L b o vs2 := by rw [e]; exact h
theorem c13 {w0 w : World} {F : List (Nat × Obj)} (b : Board) (p : AtB) (hm : BIn w0 F b p) (hnc : p.ac = none → p.cc = 0) (ax : Option Addr) (cx : Nat) (x : List Int) (hxl : x.length ≤ 9223372036854775807) (hxs : Sl w0 F ax 1 (x.map fun n => [Value.int .u8 n])) (hxr : ∀ z ∈ x, 0 ≤ z ∧ z ≤ 255) (e0 : Int) (he0 : 0 ≤ e0 ∧ e0 ≤ 255) (hs : St w0 w F) :
  Con Try.prog 13 [.agg (b.cells p).toArray, .slice ax x.length cx, .int .u8 e0] w fun v w' => v = .bool true ∧ St w0 w' F := by
  refine con_of_wc (n := 157) Try.func13 rfl rfl (Nat.le_of_ble_eq_true rfl) ?_
  have hlh0 := hm.lh
  have hlc0 := hm.lc
  refine w_seq (fun K2 hK1 => ?_)
  refine w_region ?_
  refine w_box (v := .agg #[.int _ _, .slice _ _ _, .slice _ _ _]) (cs := [_, _, _]) want_none rfl rfl rfl hs (fun b3 w4 hs5 => ?_)
  refine w_p (y_assign (v := _) rfl rfl) rfl ?_
  refine w_nil ?_
  refine q_then (hK1 _ _ ?_)
  refine w_seq (fun K7 hK6 => ?_)
  refine w_seq (fun K9 hK8 => ?_)
  have hbx := ats_ofK (i := 0) (vs := b.cells p) hs5 rfl rfl
  refine w_region ?_
  refine w_p (y_loadN (vs := [_, _, _]) Try.isAgg25 Try.sizeOf25 hs5 rfl rfl hbx) rfl ?_
  refine w_call want_none Try.call34 rfl rfl rfl rfl (c34 b p hm.cons hs5) ?_
  rintro _ w11 ⟨rfl, hs12⟩
  refine w_p (y_not rfl rfl) rfl ?_
  refine w_p (y_move (v := .bool _) rfl rfl) rfl ?_
  refine w_split (fun h13 => ?_) (fun h13 => ?_)
  ·
   try simp only [zA, zB, zC, zD, zE, zF] at h13
   refine w_skipop rfl rfl rfl ?_
   refine w_skipop rfl rfl rfl ?_
   refine w_skipop rfl rfl rfl ?_
   refine w_skipop rfl rfl rfl ?_
   refine w_p (y_pickT (v := _) rfl rfl rfl rfl) rfl ?_
   refine w_nil ?_
   refine q_then (hK8 _ _ ?_)
   refine w_condT rfl rfl ?_
   refine w_seq (fun K15 hK14 => ?_)
   refine w_region ?_
   refine w_call want_none Try.call22 rfl rfl rfl rfl (c22 hs12) ?_
   rintro _ w17 ⟨rfl, hs18⟩
   refine w_p (y_assign (v := .bool _) rfl rfl) rfl ?_
   refine w_nil ?_
   refine q_then (hK14 _ _ ?_)
   refine w_ret ?_
   refine q_then_ret ?_
   refine q_ret (l := [.tmp 6]) (vs := [_]) rfl ⟨⟨rfl, show _ = (.bool _ : Value) from rfl⟩, trivial⟩ ?_
   exact ⟨rfl, hs18.tail⟩
  ·
   try simp only [zA, zB, zC, zD, zE, zF] at h13
   refine w_y rfl rfl rfl (y_fieldAddr (o := 2) (i := 2) Try.underlying25 rfl Try.sizeOf23 rfl rfl rfl) rfl ?_
   refine w_y rfl rfl rfl (y_load1 Try.isAgg23 hs12 rfl rfl (show Ats _ _ _ _ [_] from Ats.part hbx 2 1)) rfl ?_
   refine w_y rfl rfl rfl (y_lenS Try.underlying23 rfl rfl) rfl ?_
   refine w_y rfl rfl rfl (y_eql rfl rfl rfl rfl) rfl ?_
   refine w_p (y_pickF (v := .bool _) rfl rfl rfl rfl) rfl ?_
   refine w_nil ?_
   refine q_then (hK8 _ _ ?_)
   refine w_cond rfl rfl (fun h19 => ?_) (fun h19 => ?_)
   ·
    try simp only [zA, zB, zC, zD, zE, zF] at h19
    refine w_seq (fun K21 hK20 => ?_)
    refine w_region ?_
    refine w_call want_none Try.call22 rfl rfl rfl rfl (c22 hs12) ?_
    rintro _ w23 ⟨rfl, hs24⟩
    refine w_p (y_assign (v := .bool _) rfl rfl) rfl ?_
    refine w_nil ?_
    refine q_then (hK20 _ _ ?_)
    refine w_ret ?_
    refine q_then_ret ?_
    refine q_ret (l := [.tmp 6]) (vs := [_]) rfl ⟨⟨rfl, show _ = (.bool _ : Value) from rfl⟩, trivial⟩ ?_
    exact ⟨rfl, hs24.tail⟩
   ·
    try simp only [zA, zB, zC, zD, zE, zF] at h19
    refine w_skip ?_
    refine q_then (hK6 _ _ ?_)
    refine w_seq (fun K26 hK25 => ?_)
    have hck : (check b).2.2 = 0 := by assumption
    have hok := check_ok hck
    have hlh := hok.lh
    have hlc := hok.lc
    have hc0 : 0 < b.ctrs.length := by omega
    refine w_region ?_
    refine w_p (y_loadN (vs := [_, _, _]) Try.isAgg25 Try.sizeOf25 hs12 rfl rfl hbx) rfl ?_
    refine w_alloc (cs := [_, _, _]) want_none Try.zeroValue25 rfl hs12 (fun b27 w28 hs29 => ?_)
    refine w_store (i := 0) (v := .agg #[.int _ _, .slice _ _ _, .slice _ _ _]) (vs := [_, _, _]) want_none Try.sizeOf25 rfl rfl rfl rfl rfl (by simp [Value.oneCell']) hs29 rfl (Nat.le_of_ble_eq_true rfl) (fun w30 hs31 => ?_)
    refine w_nil ?_
    refine q_then (hK25 _ _ ?_)
    refine w_seq (fun K33 hK32 => ?_)
    refine w_region ?_
    refine w_bslice (ps := []) (pv := []) (cs := []) want_none rfl rfl (fun w => Try_Zk_fb9  w) hs31 (fun b34 w35 hs36 => ?_)
    refine w_p (y_fieldAddr (o := 2) (i := 2) Try.underlying25 rfl Try.sizeOf23 rfl rfl rfl) rfl ?_
    refine w_p (y_load1 Try.isAgg23 hs36.tail.tail rfl rfl (show Ats _ _ _ _ [_] from Ats.part hbx 2 1)) rfl ?_
    refine w_append (X := ([])) (B := [_]) (rows := (krows b.ctrs p.pc)) (sz := 6) (bytes := 88) want_none Try.underlying23 Try_info76 rfl rfl rfl rfl rfl rfl rfl rfl rfl hs36 own_made hm.c.cons.cons.cons (by simp [krows]) hnc (krows_one _ _) (by simp only [maxLen]; omega) (by omega) (fun v37 w38 B39 ho40 hs41 => ?_)
    replace hs41 := (show St _ _ (B39 ++ (_ :: _ :: F)) from hs41)
    have hs42 := St.perm (L := B39 ++ ([_] ++ _)) hs41 (perm_mid B39 [_] _)
    replace hs42 := (show St _ _ (_ :: (B39 ++ _)) from hs42)
    have hownK : Rt.Own v37 76 6 b.ctrs.length (krows b.ctrs p.pc).flatten B39 := by
      have h9 := ho40
      rw [Nat.zero_add, List.nil_append] at h9
      exact h9
    obtain ⟨aK, cK, rfl⟩ := hownK.slice
    obtain ⟨bK, csK, rfl, hBK, hcapK, hcapmK, hclK, htkK⟩ := own_some2 hownK (by omega)
    subst hBK
    replace hs42 := (show St _ _ (_ :: _ :: _ :: F) from hs42)
    refine w_p (y_fieldAddr (o := 2) (i := 2) Try.underlying25 rfl Try.sizeOf23 rfl rfl rfl) rfl ?_
    refine w_store (i := 0) (v := .slice _ _ _) (vs := [_]) want_none Try.sizeOf23 rfl rfl rfl rfl rfl (by simp [Value.oneCell']) hs42 rfl (Nat.le_of_ble_eq_true rfl) (fun w43 hs44 => ?_)
    refine w_nil ?_
    refine q_then (hK32 _ _ ?_)
    refine w_seq (fun K46 hK45 => ?_)
    refine w_region ?_
    refine w_p (y_move (v := .int _ _) rfl rfl) rfl ?_
    refine w_p (y_u8int (by rw [Try.underlying5]; rfl) Try.underlying3 rfl rfl (by omega) (by omega)) rfl ?_
    refine w_p (y_fieldAddr (o := 2) (i := 2) Try.underlying25 rfl Try.sizeOf23 rfl rfl rfl) rfl ?_
    refine w_p (y_load1 Try.isAgg23 hs44.tail.tail rfl rfl (show Ats _ _ _ _ [_] from Ats.part hbx 2 1)) rfl ?_
    refine w_p (y_lenS Try.underlying23 rfl rfl) rfl ?_
    refine w_p (y_rem rfl rfl rfl rfl (by omega) (by omega)) rfl ?_
    refine w_p (y_assign (v := .int _ _) rfl rfl) rfl ?_
    refine w_nil ?_
    refine q_then (hK45 _ _ ?_)
    refine w_seq (fun K48 hK47 => ?_)
    have hzmu := Int.emod_nonneg e0 (show (b.ctrs.length : Int) ≠ 0 by omega)
    have hzlu := Int.emod_lt_of_pos e0 (show 0 < (b.ctrs.length : Int) by omega)
    obtain ⟨u, hu⟩ : ∃ u : Nat, e0 % (b.ctrs.length : Int) = (u : Int) := ⟨(e0 % (b.ctrs.length : Int)).toNat, by omega⟩
    have hu2 : u < b.ctrs.length := by omega
    rw [hu]
    have hcu := hok.ctr _ (List.getElem_mem hu2)
    have hst := hcu.start
    obtain ⟨bq, oq, hbq, hrow⟩ := sl_krows (sl_own (w0 := w0) (L := (bK, blk 76 csK) :: ((b3, blk 25 (b.cells p)) :: F)) (i := 0) rfl (krows_row b.ctrs p.pc) (by rw [krows_len]; exact htkK)) (i := u) hu2
    cases hbq
    refine w_region ?_
    refine w_p (y_fieldAddr (o := 2) (i := 2) Try.underlying25 rfl Try.sizeOf23 rfl rfl rfl) rfl ?_
    refine w_p (y_load1 Try.isAgg23 hs44 rfl rfl (ats_own (i := 0) (vs := [_]) rfl rfl)) rfl ?_
    refine w_p (y_move (v := .int _ _) rfl rfl) rfl ?_
    refine w_p (y_indexS Try.underlying23 Try.sizeOf76 rfl rfl rfl rfl (i := u) rfl hu2) rfl ?_
    refine w_p (y_loadN (vs := [_, _, _, _, _, _]) Try.isAgg76 Try.sizeOf76 hs44.tail rfl rfl hrow) rfl ?_
    refine w_alloc (cs := [_, _, _, _, _, _]) want_none Try.zeroValue76 rfl hs44 (fun b49 w50 hs51 => ?_)
    refine w_store (i := 0) (v := .agg #[.string _, .int _ _, .int _ _, .int _ _, .slice _ _ _, .slice _ _ _]) (vs := [_, _, _, _, _, _]) want_none Try.sizeOf76 rfl rfl rfl rfl rfl (by simp [Value.oneCell']) hs51 rfl (Nat.le_of_ble_eq_true rfl) (fun w52 hs53 => ?_)
    refine w_nil ?_
    refine q_then (hK47 _ _ ?_)
    refine w_seq (fun K55 hK54 => ?_)
    refine w_region ?_
    refine w_p (y_fieldAddr (o := 1) (i := 1) Try.underlying76 rfl Try.sizeOf3 rfl rfl rfl) rfl ?_
    refine w_store (i := 0) (v := .int _ _) (vs := [_]) want_none Try.sizeOf3 rfl rfl rfl rfl rfl (by simp [Value.oneCell']) hs53 rfl (Nat.le_of_ble_eq_true rfl) (fun w56 hs57 => ?_)
    refine w_p (y_fieldAddr (o := 2) (i := 2) Try.underlying76 rfl Try.sizeOf3 rfl rfl rfl) rfl ?_
    refine w_store (i := 0) (v := .int _ _) (vs := [_]) want_none Try.sizeOf3 rfl rfl rfl rfl rfl (by simp [Value.oneCell']) hs57 rfl (Nat.le_of_ble_eq_true rfl) (fun w58 hs59 => ?_)
    refine w_nil ?_
    refine q_then (hK54 _ _ ?_)
    refine w_seq (fun K61 hK60 => ?_)
    refine w_region ?_
    refine w_p (y_assign (v := _) rfl rfl) rfl ?_
    refine w_p (y_assign (v := _) rfl rfl) rfl ?_
    refine w_p (y_assign (v := _) rfl rfl) rfl ?_
    refine w_nil ?_
    refine q_then (hK60 _ _ ?_)
    refine w_seq (fun K63 hK62 => ?_)
    refine w_region ?_
    refine w_p (y_fieldAddr (o := 3) (i := 3) Try.underlying76 rfl Try.sizeOf3 rfl rfl rfl) rfl ?_
    refine w_p (y_load1 Try.isAgg3 hs59 rfl rfl (ats_own (i := 0) (vs := [_]) rfl rfl)) rfl ?_
    refine w_p (y_assign (v := .int _ _) rfl rfl) rfl ?_
    refine w_nil ?_
    refine q_then (hK62 _ _ ?_)
    refine w_seq (fun K65 hK64 => ?_)
    refine w_seq (fun K67 hK66 => ?_)
    refine w_region ?_
    refine w_p (y_assign (v := _) rfl rfl) rfl ?_
    refine w_nil ?_
    refine q_then (hK66 _ _ ?_)
    refine w_block ?_
    refine w_loop [10, 11, 12, 13, 14, 15, 16, 53, 54, 55, 56, 57, 58, 59, 60, 61, 62, 63, 64, 65, 66, 67, 68, 69, 70, 71, 72, 73, 74, 75, 76, 77, 78, 79, 80, 81, 82, 83, 84, 85, 86, 87, 88, 89, 90, 91, 92, 93] [10, 11, 12, 13, 14] (fun k vs0 w => ∃ (i : Nat) (vz vs vl : Value) (ZQ SQ LQ : List (Nat × Obj)), vs0 = [vz, vs, vl, .int .i64 (telS b x (b.ctrs[u]'hu2).start i), .int .i64 i] ∧ i ≤ b.hours.length ∧ k = b.hours.length - i ∧ Rt.Own vz 3 1 i (iv (List.replicate i 0)) ZQ ∧ Rt.Own vs 3 1 i (iv (telShown b x (b.ctrs[u]'hu2).start i)) SQ ∧ Rt.Own vl 3 1 i (iv (telLoads b x i)) LQ ∧ St w0 w (ZQ ++ (SQ ++ (LQ ++ ((b49, blk 76 [.string (b.ctrs[u]'hu2).name, .int .i64 0, .int .i64 0, .int .i64 (b.ctrs[u]'hu2).start, .slice (p.pc u).az (b.ctrs[u]'hu2).zero.length (p.pc u).cz, .slice (p.pc u).as (b.ctrs[u]'hu2).shown.length (p.pc u).cs]) :: (b27, blk 25 [.int .i64 b.holds, .slice p.ah b.hours.length p.ch, .slice (some ⟨bK, 0, none⟩) b.ctrs.length cK]) :: (bK, blk 76 csK) :: ((b3, blk 25 (b.cells p)) :: F)))))) (b.hours.length) ?_ ?_
    ·
     exact ⟨0, _, _, _, [], [], [], rfl, by omega, by omega, own_nil 3 1, own_nil 3 1, own_nil 3 1, hs59⟩
    ·
     intro k vs μ w70 hI K69 hN68
     obtain ⟨i, vz, vs, vl, ZQ, SQ, LQ, rfl, hia, rfl, hoZ, hoS, hoL, hs⟩ := hI
     refine w_seq (fun K72 hK71 => ?_)
     refine w_seq (fun K74 hK73 => ?_)
     refine w_region ?_
     refine w_p (y_move (v := .int _ _) rfl rfl) rfl ?_
     refine w_p (y_fieldAddr (o := 1) (i := 1) Try.underlying25 rfl Try.sizeOf22 rfl rfl rfl) rfl ?_
     refine w_p (y_load1 Try.isAgg22 hs.drop.drop.drop.tail.tail.tail rfl rfl (show Ats _ _ _ _ [_] from Ats.part hbx 1 1)) rfl ?_
     refine w_p (y_lenS Try.underlying22 rfl rfl) rfl ?_
     refine w_p (y_lss rfl rfl rfl rfl) rfl ?_
     refine w_nil ?_
     refine q_then (hK73 _ _ ?_)
     refine w_cond rfl rfl (fun h75 => ?_) (fun h75 => ?_)
     ·
      try simp only [zA, zB, zC, zD, zE, zF] at h75
      refine w_skip ?_
      refine q_then (hK71 _ _ ?_)
      refine w_seq (fun K77 hK76 => ?_)
      refine w_block ?_
      refine w_seq (fun K79 hK78 => ?_)
      have hi2 : i < b.hours.length := by omega
      obtain ⟨by_, oy, hby, hy⟩ := sl_hrows hm.h hi2
      have hti := tel_in hok hxr hi2
      have htn := turn_nn hxr i
      have htS := telS_in (b := b) (x := x) hst i
      have hho := hok.hour _ (List.getElem_mem hi2)
      have hh1 := hho.lo
      have hh2 := hho.le
      have hh3 := hho.hi
      have hte : telLoad b x i = b.hours[i].lo + turnOf x i % (b.hours[i].hi - b.hours[i].lo + 1) := by unfold telLoad; rw [hour_at hi2]
      rw [hte] at hti
      refine w_region ?_
      refine w_p (y_fieldAddr (o := 1) (i := 1) Try.underlying25 rfl Try.sizeOf22 rfl rfl rfl) rfl ?_
      refine w_p (yd_slice hby (y_load1 Try.isAgg22 hs.drop.drop.drop.tail.tail.tail rfl rfl (show Ats _ _ _ _ [_] from Ats.part hbx 1 1))) rfl ?_
      refine w_p (y_move (v := .int _ _) rfl rfl) rfl ?_
      refine w_p (y_indexS Try.underlying22 Try.sizeOf70 rfl rfl rfl rfl (i := i) rfl hi2) rfl ?_
      refine w_p (y_fieldAddr (o := 1) (i := 1) Try.underlying70 rfl Try.sizeOf31 rfl rfl rfl) rfl ?_
      refine w_p (y_loadN (vs := [_, _]) Try.isAgg31 Try.sizeOf31 hs.drop.drop.drop.tail.tail.tail.tail rfl rfl (show Ats _ _ _ _ [_, _] from Ats.part hy 1 2)) rfl ?_
      refine w_alloc (cs := [_, _]) want_none Try.zeroValue31 rfl hs (fun b80 w81 hs82 => ?_)
      refine w_store (i := 0) (v := .agg #[.int _ _, .int _ _]) (vs := [_, _]) want_none Try.sizeOf31 rfl rfl rfl rfl rfl (by simp [Value.oneCell']) hs82 rfl (Nat.le_of_ble_eq_true rfl) (fun w83 hs84 => ?_)
      refine w_nil ?_
      refine q_then (hK78 _ _ ?_)
      refine w_seq (fun K86 hK85 => ?_)
      refine w_draw [] [(0, 0), (1, 1), (2, 0), (3, 0), (5, 0), (6, 1), (7, 0), (8, 1), (9, 0), (10, 0), (4, 2), (11, 0), (12, 0), (13, 0)] Try_mo (drawOK_of (by kernel_rfl)) hs84 (fun w87 hs88 => ?_)
      refine d_any rfl want_none rfl (fun _ => (y_fieldAddr (o := 0) (i := 0) Try.underlying31 rfl Try.sizeOf3 rfl rfl rfl)) ?_
      refine d_take rfl want_none rfl hs88 (fun _ hq => (y_load1 Try.isAgg3 hq rfl rfl (ats_own (i := 0) (vs := [_]) rfl rfl))) ?_
      refine d_any rfl want_none rfl (fun _ => (y_move (v := .slice _ _ _) rfl rfl)) ?_
      refine d_any rfl want_none rfl (fun _ => (y_move (v := .int _ _) rfl rfl)) ?_
      refine d_any rfl want_none rfl (fun _ => (y_fieldAddr (o := 1) (i := 1) Try.underlying31 rfl Try.sizeOf3 rfl rfl rfl)) ?_
      refine d_take rfl want_none rfl hs88 (fun _ hq => (y_load1 Try.isAgg3 hq rfl rfl (ats_own (i := 0) (vs := [_]) rfl rfl))) ?_
      refine d_any rfl want_none rfl (fun _ => (y_fieldAddr (o := 0) (i := 0) Try.underlying31 rfl Try.sizeOf3 rfl rfl rfl)) ?_
      refine d_take rfl want_none rfl hs88 (fun _ hq => (y_load1 Try.isAgg3 hq rfl rfl (ats_own (i := 0) (vs := [_]) rfl rfl))) ?_
      refine d_any rfl want_none rfl (fun _ => (y_sub rfl rfl rfl rfl (by omega) (by omega))) ?_
      refine d_any rfl want_none rfl (fun _ => (y_add rfl rfl rfl rfl (by omega) (by omega))) ?_
      refine d_eff rfl ?_
      refine w_call want_none Try.call49 rfl rfl rfl rfl (c49 _ _ x hxl hxs.cons.cons.cons.cons.app.app.app.cons hxr i hs88) ?_
      rintro _ w90 ⟨rfl, hs91⟩
      refine w_nil ?_
      refine qn ⟨hs91, ?_⟩
      refine d_any rfl want_none rfl (fun _ => (y_rem rfl rfl rfl rfl (by omega) (by omega))) ?_
      refine d_any rfl want_none rfl (fun _ => (y_add rfl rfl rfl rfl (by omega) (by omega))) ?_
      refine d_any rfl want_none rfl (fun _ => (y_assign (v := .int _ _) rfl rfl)) ?_
      refine d_nil ?_
      refine q_then (hK85 _ _ ?_)
      refine w_seq (fun K93 hK92 => ?_)
      refine w_region ?_
      refine w_p (y_move (v := .int _ _) rfl rfl) rfl ?_
      refine w_p (y_move (v := .int _ _) rfl rfl) rfl ?_
      refine w_p (y_add rfl rfl rfl rfl (by omega) (by omega)) rfl ?_
      refine w_p (y_rem rfl rfl rfl rfl (by omega) (by omega)) rfl ?_
      refine w_p (y_assign (v := .int _ _) rfl rfl) rfl ?_
      refine w_nil ?_
      refine q_then (hK92 _ _ ?_)
      refine w_region ?_
      refine w_p (y_move (v := vz) rfl rfl) rfl ?_
      refine w_bslice (ps := [(0, _)]) (pv := [(0, .int _ _)]) (cs := [_]) want_none rfl rfl (fun w => Try_Zk_fb10 _ w) hs91 (fun b94 w95 hs96 => ?_)
      refine w_append (X := (_ :: _ :: [])) (B := ZQ) (rows := [[_]]) (sz := 1) (bytes := 8) want_none Try.underlying39 Try_info3 rfl rfl rfl rfl rfl rfl rfl rfl rfl hs96 hoZ (sl_own (i := 0) (b := b94) (t := 3) (cs := [_]) (rows := [[_]]) rfl (by simp) rfl) rfl (by simp) (by simp [Value.oneCell']) (by simp only [maxLen]; omega) (by omega) (fun v97 w98 B99 ho100 hs101 => ?_)
      replace hs101 := (show St _ _ (_ :: _ :: B99 ++ (SQ ++ (LQ ++ (_ :: _ :: _ :: _ :: F)))) from hs101)
      have hs102 := St.perm (L := [_, _] ++ (B99 ++ (SQ ++ _))) hs101 ((perm_mid B99 SQ _).append_left [_, _])
      replace hs102 := (show St _ _ (_ :: _ :: (SQ ++ (B99 ++ _))) from hs102)
      refine w_p (y_move (v := vs) rfl rfl) rfl ?_
      refine w_p (y_move (v := .int _ _) rfl rfl) rfl ?_
      refine w_bslice (ps := [(0, _)]) (pv := [(0, .int _ _)]) (cs := [_]) want_none rfl rfl (fun w => Try_Zk_fb10 _ w) hs102 (fun b103 w104 hs105 => ?_)
      refine w_append (X := (_ :: _ :: _ :: [])) (B := SQ) (rows := [[_]]) (sz := 1) (bytes := 8) want_none Try.underlying39 Try_info3 rfl rfl rfl rfl rfl rfl rfl rfl rfl hs105 hoS (sl_own (i := 0) (b := b103) (t := 3) (cs := [_]) (rows := [[_]]) rfl (by simp) rfl) rfl (by simp) (by simp [Value.oneCell']) (by simp only [maxLen]; omega) (by omega) (fun v106 w107 B108 ho109 hs110 => ?_)
      replace hs110 := (show St _ _ (_ :: _ :: _ :: B108 ++ (B99 ++ (LQ ++ (_ :: _ :: _ :: _ :: F)))) from hs110)
      have hs111 := St.perm (L := [_, _, _] ++ (B108 ++ (B99 ++ (LQ ++ _)))) hs110 (((perm_mid B99 LQ _).append_left B108).append_left [_, _, _])
      replace hs111 := (show St _ _ (_ :: _ :: _ :: (B108 ++ (LQ ++ (B99 ++ _)))) from hs111)
      have hs112 := St.perm (L := [_, _, _] ++ (B108 ++ (LQ ++ _))) hs111 ((perm_mid B108 LQ _).append_left [_, _, _])
      replace hs112 := (show St _ _ (_ :: _ :: _ :: (LQ ++ (B108 ++ _))) from hs112)
      refine w_p (y_move (v := vl) rfl rfl) rfl ?_
      refine w_p (y_move (v := .int _ _) rfl rfl) rfl ?_
      refine w_bslice (ps := [(0, _)]) (pv := [(0, .int _ _)]) (cs := [_]) want_none rfl rfl (fun w => Try_Zk_fb10 _ w) hs112 (fun b113 w114 hs115 => ?_)
      refine w_append (X := (_ :: _ :: _ :: _ :: [])) (B := LQ) (rows := [[_]]) (sz := 1) (bytes := 8) want_none Try.underlying39 Try_info3 rfl rfl rfl rfl rfl rfl rfl rfl rfl hs115 hoL (sl_own (i := 0) (b := b113) (t := 3) (cs := [_]) (rows := [[_]]) rfl (by simp) rfl) rfl (by simp) (by simp [Value.oneCell']) (by simp only [maxLen]; omega) (by omega) (fun v116 w117 B118 ho119 hs120 => ?_)
      replace hs120 := (show St _ _ (_ :: _ :: _ :: _ :: B118 ++ (B108 ++ (B99 ++ (_ :: _ :: _ :: _ :: F)))) from hs120)
      refine w_p (y_assign (v := v97) rfl rfl) rfl ?_
      refine w_p (y_assign (v := v106) rfl rfl) rfl ?_
      refine w_p (y_assign (v := v116) rfl rfl) rfl ?_
      refine w_nil ?_
      refine q_blk_normal ?_
      refine q_then (hK76 _ _ ?_)
      refine w_region ?_
      refine w_p (y_move (v := .int _ _) rfl rfl) rfl ?_
      refine w_p (y_add rfl rfl rfl rfl (by omega) (by omega)) rfl ?_
      refine w_p (y_assign (v := .int _ _) rfl rfl) rfl ?_
      refine w_nil ?_
      refine q_then (hN68 _ _ (Nx.intro (b.hours.length - (i + 1)) (by omega) (by repeat (first | exact agree_mix | refine agree_upd rfl ?_ | refine agree_updL rfl ?_ _ | refine agree_mixin rfl ?_)) ?_))
      have hs121 := St.perm (L := [_, _, _, _] ++ (B118 ++ (B108 ++ _))) hs120 ((perm_mid B118 B108 _).append_left [_, _, _, _])
      replace hs121 := (show St _ _ (_ :: _ :: _ :: _ :: (B108 ++ (B118 ++ _))) from hs121)
      have hs122 := St.perm (L := [_, _, _, _] ++ (B108 ++ (B118 ++ (B99 ++ _)))) hs121 (((perm_mid B118 B99 _).append_left B108).append_left [_, _, _, _])
      replace hs122 := (show St _ _ (_ :: _ :: _ :: _ :: (B108 ++ (B99 ++ (B118 ++ _)))) from hs122)
      have hs123 := St.perm (L := [_, _, _, _] ++ (B108 ++ (B99 ++ _))) hs122 ((perm_mid B108 B99 _).append_left [_, _, _, _])
      replace hs123 := (show St _ _ (_ :: _ :: _ :: _ :: (B99 ++ (B108 ++ _))) from hs123)
      exact ⟨i + 1, _, _, _, _, _, _, tel_vals (by simp only [telS]; rw [hte]) rfl, by omega, rfl, own_zero ho100, own_tsh (by simp only [telS]; rw [hte]) ho109, own_tld hte.symm ho119, hs123.tail.tail.tail.tail⟩
     ·
      try simp only [zA, zB, zC, zD, zE, zF] at h75
      refine w_exit ?_
      refine q_then_exit ?_
      refine q_then_exit ?_
      refine q_blk_this ?_
      refine q_then (hK64 _ _ ?_)
      refine w_seq (fun K125 hK124 => ?_)
      have hin : i = b.hours.length := by omega
      subst hin
      obtain ⟨aZ, cZ, rfl⟩ := hoZ.slice
      obtain ⟨aS, cS, rfl⟩ := hoS.slice
      obtain ⟨aL, cL, rfl⟩ := hoL.slice
      have hs126 := perm_3b hs
      replace hs126 := (show St _ _ (_ :: _ :: _ :: ZQ ++ (SQ ++ (LQ ++ (_ :: F)))) from hs126)
      refine w_region ?_
      refine w_p (y_move (v := .slice _ _ _) rfl rfl) rfl ?_
      refine w_p (y_move (v := .slice _ _ _) rfl rfl) rfl ?_
      refine w_p (y_fieldAddr (o := 4) (i := 4) Try.underlying76 rfl Try.sizeOf39 rfl rfl rfl) rfl ?_
      refine w_store (i := 0) (v := .slice _ _ _) (vs := [_]) want_none Try.sizeOf39 rfl rfl rfl rfl rfl (by simp [Value.oneCell']) hs126 rfl (Nat.le_of_ble_eq_true rfl) (fun w127 hs128 => ?_)
      refine w_p (y_fieldAddr (o := 5) (i := 5) Try.underlying76 rfl Try.sizeOf39 rfl rfl rfl) rfl ?_
      refine w_store (i := 0) (v := .slice _ _ _) (vs := [_]) want_none Try.sizeOf39 rfl rfl rfl rfl rfl (by simp [Value.oneCell']) hs128 rfl (Nat.le_of_ble_eq_true rfl) (fun w129 hs130 => ?_)
      refine w_nil ?_
      refine q_then (hK124 _ _ ?_)
      refine w_seq (fun K132 hK131 => ?_)
      refine w_region ?_
      refine w_p (y_fieldAddr (o := 2) (i := 2) Try.underlying25 rfl Try.sizeOf23 rfl rfl rfl) rfl ?_
      refine w_p (y_load1 Try.isAgg23 hs130 rfl rfl (ats_own (i := 1) (vs := [_]) rfl rfl)) rfl ?_
      refine w_p (y_move (v := .int _ _) rfl rfl) rfl ?_
      refine w_p (y_loadN (vs := [_, _, _, _, _, _]) Try.isAgg76 Try.sizeOf76 hs130 rfl rfl (ats_own (i := 0) (vs := [_, _, _, _, _, _]) rfl rfl)) rfl ?_
      refine w_p (y_indexS Try.underlying23 Try.sizeOf76 rfl rfl rfl rfl (i := u) rfl hu2) rfl ?_
      refine w_store (i := 2) (v := .agg #[_, _, _, _, _, _]) (vs := [_, _, _, _, _, _]) want_none Try.sizeOf76 rfl rfl rfl rfl rfl (by simp [Value.oneCell']) hs130 rfl (show 0 + u * 6 + 6 ≤ csK.length by omega) (fun w133 hs134 => ?_)
      replace hs134 := (show St _ _ (_ :: _ :: (bK, blk 76 (setMany csK (u * 6) [.string (b.ctrs[u]'hu2).name, .int .i64 0, .int .i64 0, .int .i64 (b.ctrs[u]'hu2).start, .slice aZ b.hours.length cZ, .slice aS b.hours.length cS])) :: ZQ ++ (SQ ++ (LQ ++ (_ :: F)))) from (by have h6 := hs134; simp only [Nat.zero_add] at h6; exact h6))
      refine w_nil ?_
      refine q_then (hK131 _ _ ?_)
      refine w_seq (fun K136 hK135 => ?_)
      have hF := tel_law hck hxr hu2
      have hkp : (setMany csK (u * 6) [.string (b.ctrs[u]'hu2).name, .int .i64 0, .int .i64 0, .int .i64 (b.ctrs[u]'hu2).start, .slice aZ b.hours.length cZ, .slice aS b.hours.length cS]).take (b.ctrs.length * 6) = (krows (b.ctrs.set u (telC b x (b.ctrs[u]'hu2))) (fun j => if j = u then (⟨aZ, cZ, aS, cS⟩ : AtC) else p.pc j)).flatten := by
        rw [setMany_rows (rows := krows b.ctrs p.pc) (krows_len _ _) (krows_row _ _) (by rw [krows_len]; exact hu2) rfl htkK, krows_put2 (d := (telC b x (b.ctrs[u]'hu2))) (at_ := (⟨aZ, cZ, aS, cS⟩ : AtC)) hu2 (by simp [Ctr.cells, telC, telShown])]
      have hoZs := own_int_sl (w0 := w0) hoZ (by simp)
      have hoSs := own_int_sl (w0 := w0) hoS (by simp [telShown])
      have hoLs := own_int_sl (w0 := w0) hoL (by simp [telLoads])
      have hcZ : (setC b u (telC b x (b.ctrs[u]'hu2))).cells (⟨p.ah, p.ch, some ⟨bK, 0, none⟩, cK, fun j => if j = u then ⟨aZ, cZ, aS, cS⟩ else p.pc j⟩ : AtB) = [.int .i64 b.holds, .slice p.ah b.hours.length p.ch, .slice (some ⟨bK, 0, none⟩) b.ctrs.length cK] := by simp [Board.cells, setC]
      obtain ⟨Z, hZ, hsZ⟩ := gen_Z hs134
      have hb7 : Ats w0 Z b27 0 ((setC b u (telC b x (b.ctrs[u]'hu2))).cells (⟨p.ah, p.ch, some ⟨bK, 0, none⟩, cK, fun j => if j = u then ⟨aZ, cZ, aS, cS⟩ else p.pc j⟩ : AtB)) := by rw [hZ]; exact ats_castT (ats_ofL (i := 1) (vs := [.int .i64 b.holds, .slice p.ah b.hours.length p.ch, .slice (some ⟨bK, 0, none⟩) b.ctrs.length cK]) hs134 rfl rfl) hcZ
      have hmZ : BIn w0 Z b p := by rw [hZ]; exact hm.cons.app.app.app.cons.cons.cons
      have hsK : Sl w0 Z (some ⟨bK, 0, none⟩) 6 (krows (b.ctrs.set u (telC b x (b.ctrs[u]'hu2))) (fun j => if j = u then (⟨aZ, cZ, aS, cS⟩ : AtC) else p.pc j)) := by rw [hZ]; exact sl_own (i := 2) rfl (krows_row _ _) (by rw [krows_len, List.length_set]; exact hkp)
      have hZZ : Sl w0 Z aZ 1 ((telC b x (b.ctrs[u]'hu2)).zero.map fun x => [Value.int .i64 x]) := by rw [hZ]; exact hoZs.1.top.cons.cons.cons
      have hSZ : Sl w0 Z aS 1 ((telC b x (b.ctrs[u]'hu2)).shown.map fun x => [Value.int .i64 x]) := by rw [hZ]; exact hoSs.1.top.app.cons.cons.cons
      have hLZ : Sl w0 Z aL 1 ((telLoads b x b.hours.length).map fun x => [Value.int .i64 x]) := by rw [hZ]; exact hoLs.1.top.app.app.cons.cons.cons
      have hmE : BIn w0 Z (setC b u (telC b x (b.ctrs[u]'hu2))) (⟨p.ah, p.ch, some ⟨bK, 0, none⟩, cK, fun j => if j = u then ⟨aZ, cZ, aS, cS⟩ else p.pc j⟩ : AtB) := set_bin2 (at_ := (⟨aZ, cZ, aS, cS⟩ : AtC)) hmZ hu2 hsK hZZ hSZ ⟨by simp [telC]; omega, by simpa [telC] using hoZs.2⟩ ⟨by simp [telC, telShown]; omega, by simpa [telC, telShown] using hoSs.2⟩ rfl hcapK
      have hll : (telLoads b x b.hours.length).length = b.hours.length := by simp [telLoads]
      refine w_region ?_
      refine w_p (y_loadN (vs := [_, _, _]) Try.isAgg25 Try.sizeOf25 hsZ rfl rfl hb7) rfl ?_
      refine w_p (y_move (v := .int _ _) rfl rfl) rfl ?_
      refine w_call want_none Try.call23 rfl rfl rfl rfl (c23 (setC b u (telC b x (b.ctrs[u]'hu2))) _ hmE (u : Int) hsZ) ?_
      rintro _ w138 ⟨rfl, hs139⟩
      refine w_p (y_move (v := .tuple _) rfl rfl) rfl ?_
      refine w_p (y_extract (v := .int _ _) rfl rfl rfl) rfl ?_
      refine w_p (y_extract (v := .int _ _) rfl rfl rfl) rfl ?_
      refine w_p (y_assign (v := .int _ _) rfl rfl) rfl ?_
      refine w_p (y_assign (v := .int _ _) rfl rfl) rfl ?_
      refine w_nil ?_
      refine q_then (hK135 _ _ ?_)
      refine w_seq (fun K141 hK140 => ?_)
      refine w_seq (fun K143 hK142 => ?_)
      refine w_region ?_
      refine w_p (y_loadN (vs := [_, _, _]) Try.isAgg25 Try.sizeOf25 hs139 rfl rfl hb7) rfl ?_
      refine w_call want_none Try.call45 rfl rfl rfl rfl (c45 (setC b u (telC b x (b.ctrs[u]'hu2))) _ hmE hs139) ?_
      rintro _ w145 ⟨rfl, hs146⟩
      refine w_p (y_not rfl rfl) rfl ?_
      refine w_nil ?_
      refine q_then (hK142 _ _ ?_)
      refine w_cond rfl rfl (fun h147 => ?_) (fun h147 => ?_)
      ·
       try simp only [zA, zB, zC, zD, zE, zF] at h147
       refine w_seq (fun K149 hK148 => ?_)
       have hzs : someB (setC b u (telC b x (b.ctrs[u]'hu2))) = false := by assumption
       have hrb := hF.bad hzs
       refine w_region ?_
       refine w_p (y_move (v := .int _ _) rfl rfl) rfl ?_
       refine w_p (y_eql rfl rfl rfl rfl) rfl ?_
       refine w_p (y_move (v := .bool _) rfl rfl) rfl ?_
       refine w_split (fun h150 => ?_) (fun h150 => ?_)
       ·
        try simp only [zA, zB, zC, zD, zE, zF] at h150
        refine w_y rfl rfl rfl (y_move (v := .int _ _) rfl rfl) rfl ?_
        refine w_y rfl rfl rfl (y_eql rfl rfl rfl rfl) rfl ?_
        refine w_p (y_pickT (v := .bool _) rfl rfl rfl rfl) rfl ?_
        refine w_p (y_move (v := .bool _) rfl rfl) rfl ?_
        refine w_split (fun h151 => ?_) (fun h151 => ?_)
        ·
         try simp only [zA, zB, zC, zD, zE, zF] at h151
         refine w_call (want_yes rfl rfl rfl) Try.call22 rfl rfl rfl rfl (c22 hs146) ?_
         rintro _ w153 ⟨rfl, hs154⟩
         refine w_p (y_pickT (v := .bool _) rfl rfl rfl rfl) rfl ?_
         refine w_p (y_assign (v := .bool _) rfl rfl) rfl ?_
         refine w_nil ?_
         refine q_then (hK148 _ _ ?_)
         refine w_ret ?_
         refine q_then_ret ?_
         refine q_ret (l := [.tmp 6]) (vs := [_]) rfl ⟨⟨rfl, show _ = (.bool _ : Value) from rfl⟩, trivial⟩ ?_
         exact ⟨rfl, (St.cast hZ hs154).tail.tail.tail.drop.drop.drop.tail⟩
        ·
         exfalso
         try simp only [zA, zB, zC, zD, zE, zF] at h151
         rw [hrb] at h151; simp at h151
       ·
        exfalso
        try simp only [zA, zB, zC, zD, zE, zF] at h150
        rw [hrb] at h150; simp at h150
      ·
       try simp only [zA, zB, zC, zD, zE, zF] at h147
       refine w_skip ?_
       refine q_then (hK140 _ _ ?_)
       refine w_seq (fun K156 hK155 => ?_)
       refine w_seq (fun K158 hK157 => ?_)
       have hzs : someB (setC b u (telC b x (b.ctrs[u]'hu2))) = true := by assumption
       have hrg := hF.right hzs
       refine w_region ?_
       refine w_p (y_assign (v := _) rfl rfl) rfl ?_
       refine w_nil ?_
       refine q_then (hK157 _ _ ?_)
       refine w_block ?_
       refine w_loop [6, 19, 20, 21, 121, 122, 123, 124, 125, 126, 127, 128, 129, 130, 131, 132, 133, 134, 135, 136, 137, 138, 139, 140, 141, 142, 143, 144, 145, 146, 147] [19] (fun kk vs0 w => ∃ (q : Nat), vs0 = [.int .i64 q] ∧ q ≤ b.hours.length ∧ kk = b.hours.length - q ∧ St w0 w Z) (b.hours.length) ?_ ?_
       ·
        exact ⟨0, rfl, by omega, by omega, hs146⟩
       ·
        intro k vs μ w161 hI K160 hN159
        obtain ⟨q, rfl, hqa, rfl, hs⟩ := hI
        refine w_seq (fun K163 hK162 => ?_)
        refine w_seq (fun K165 hK164 => ?_)
        refine w_region ?_
        refine w_p (y_move (v := .int _ _) rfl rfl) rfl ?_
        refine w_p (y_move (v := .slice _ _ _) rfl rfl) rfl ?_
        refine w_p (y_lenS Try.underlying39 rfl rfl) rfl ?_
        refine w_p (y_lss rfl rfl rfl rfl) rfl ?_
        refine w_nil ?_
        refine q_then (hK164 _ _ ?_)
        refine w_cond rfl rfl (fun h166 => ?_) (fun h166 => ?_)
        ·
         try simp only [zA, zB, zC, zD, zE, zF] at h166
         refine w_skip ?_
         refine q_then (hK162 _ _ ?_)
         refine w_seq (fun K168 hK167 => ?_)
         refine w_block ?_
         refine w_seq (fun K170 hK169 => ?_)
         have hq2 : q < b.hours.length := by omega
         obtain ⟨bl, ol, hbl, hlx⟩ := sl_ints hLZ (show q < (telLoads b x b.hours.length).length by omega)
         subst hbl
         rw [show (telLoads b x b.hours.length)[q] = telLoad b x q by simp [telLoads]] at hlx
         refine w_region ?_
         refine w_p (y_loadN (vs := [_, _, _]) Try.isAgg25 Try.sizeOf25 hs rfl rfl hb7) rfl ?_
         refine w_p (y_move (v := .int _ _) rfl rfl) rfl ?_
         refine w_call want_none Try.call18 rfl rfl rfl rfl ((c18 (setC b u (telC b x (b.ctrs[u]'hu2))) _ hmE (q : Int) hs).mono (fun v w' h => by rw [hF.went hzs q hq2] at h; dsimp only at h; exact h)) ?_
         rintro _ w172 ⟨rfl, hs173⟩
         refine w_p (y_move (v := .tuple _) rfl rfl) rfl ?_
         refine w_p (y_extract (v := .agg _) rfl rfl rfl) rfl ?_
         refine w_p (y_extract (v := .int _ _) rfl rfl rfl) rfl ?_
         refine w_alloc (cs := [_, _]) want_none Try.zeroValue31 rfl hs173 (fun b174 w175 hs176 => ?_)
         refine w_store (i := 0) (v := .agg #[.int _ _, .int _ _]) (vs := [_, _]) want_none Try.sizeOf31 rfl rfl rfl rfl rfl (by simp [Value.oneCell']) hs176 rfl (Nat.le_of_ble_eq_true rfl) (fun w177 hs178 => ?_)
         refine w_p (y_assign (v := .int _ _) rfl rfl) rfl ?_
         refine w_nil ?_
         refine q_then (hK169 _ _ ?_)
         refine w_seq (fun K180 hK179 => ?_)
         have hx20 := ats_ofL (i := 0) (vs := [_, _]) hs178 rfl rfl
         refine w_draw [] [(0, 0), (1, 0), (2, 0), (3, 1), (4, 0), (5, 0), (6, 0), (7, 1), (8, 0), (9, 0), (10, 0), (11, 1), (12, 2), (13, 0), (14, 0)] Try_mo (drawOK_of (by kernel_rfl)) hs178 (fun w181 hs182 => ?_)
         refine d_any rfl want_none rfl (fun _ => (y_move (v := .int _ _) rfl rfl)) ?_
         refine d_any rfl want_none rfl (fun _ => (y_neq rfl rfl rfl rfl)) ?_
         refine d_any rfl want_none rfl (fun _ => (y_move (v := .bool _) rfl rfl)) ?_
         refine d_take rfl (want_yes rfl rfl rfl) rfl hs182 (fun _ hq => (y_loadN (vs := [_, _]) Try.isAgg31 Try.sizeOf31 hq rfl rfl hx20)) ?_
         refine d_any rfl (want_yes rfl rfl rfl) rfl (fun _ => (y_move (v := .slice _ _ _) rfl rfl)) ?_
         refine d_any rfl (want_yes rfl rfl rfl) rfl (fun _ => (y_move (v := .int _ _) rfl rfl)) ?_
         refine d_any rfl (want_yes rfl rfl rfl) rfl (fun _ => (y_indexS Try.underlying39 Try.sizeOf3 rfl rfl rfl rfl (i := q) rfl (by omega))) ?_
         refine d_take rfl (want_yes rfl rfl rfl) rfl hs182 (fun _ hq => (y_load1 Try.isAgg3 hq.tail rfl rfl hlx)) ?_
         refine d_any rfl (want_yes rfl rfl rfl) rfl (fun _ => (y_move (v := .slice _ _ _) rfl rfl)) ?_
         refine d_any rfl (want_yes rfl rfl rfl) rfl (fun _ => (y_move (v := .int _ _) rfl rfl)) ?_
         refine d_any rfl (want_yes rfl rfl rfl) rfl (fun _ => (y_indexS Try.underlying39 Try.sizeOf3 rfl rfl rfl rfl (i := q) rfl (by omega))) ?_
         refine d_take rfl (want_yes rfl rfl rfl) rfl hs182 (fun _ hq => (y_load1 Try.isAgg3 hq.tail rfl rfl hlx)) ?_
         refine d_eff rfl ?_
         refine w_call (want_yes rfl rfl rfl) Try.call33 rfl rfl rfl rfl (c33 _ _ hs182) ?_
         rintro _ w184 ⟨rfl, hs185⟩
         refine w_nil ?_
         refine qn ⟨hs185, ?_⟩
         refine d_any rfl (want_yes rfl rfl rfl) rfl (fun _ => (y_neFlat (l := [_, _]) (m := [_, _]) Try.eqGuardType31 Try_flat31 (by first | omega | rfl | (simp only [List.length_map, List.length_set, List.length_append, List.length_take, List.length_drop, List.length_replicate, List.length_cons, List.length_nil] <;> omega)) (by first | omega | rfl | (simp only [List.length_map, List.length_set, List.length_append, List.length_take, List.length_drop, List.length_replicate, List.length_cons, List.length_nil] <;> omega)) rfl rfl rfl rfl rfl rfl)) ?_
         refine d_any rfl want_none rfl (fun _ => (y_pickF (v := .bool _) rfl rfl rfl rfl)) ?_
         refine d_nil ?_
         refine q_then (hK179 _ _ ?_)
         refine w_cond rfl rfl (fun h186 => ?_) (fun h186 => ?_)
         ·
          exfalso
          try simp only [zA, zB, zC, zD, zE, zF] at h186
          simp at h186
         ·
          try simp only [zA, zB, zC, zD, zE, zF] at h186
          refine w_skip ?_
          refine q_blk_normal ?_
          refine q_then (hK167 _ _ ?_)
          refine w_region ?_
          refine w_p (y_move (v := .int _ _) rfl rfl) rfl ?_
          refine w_p (y_add rfl rfl rfl rfl (by omega) (by omega)) rfl ?_
          refine w_p (y_assign (v := .int _ _) rfl rfl) rfl ?_
          refine w_nil ?_
          refine q_then (hN159 _ _ (Nx.intro (b.hours.length - (q + 1)) (by omega) (by repeat (first | exact agree_mix | refine agree_upd rfl ?_ | refine agree_updL rfl ?_ _ | refine agree_mixin rfl ?_)) ?_))
          exact ⟨q + 1, rfl, by omega, rfl, hs185.tail⟩
        ·
         try simp only [zA, zB, zC, zD, zE, zF] at h166
         refine w_exit ?_
         refine q_then_exit ?_
         refine q_then_exit ?_
         refine q_blk_this ?_
         refine q_then (hK155 _ _ ?_)
         refine w_seq (fun K188 hK187 => ?_)
         refine w_region ?_
         refine w_p (y_move (v := .int _ _) rfl rfl) rfl ?_
         refine w_p (y_eql rfl rfl rfl rfl) rfl ?_
         refine w_p (y_move (v := .bool _) rfl rfl) rfl ?_
         refine w_split (fun h189 => ?_) (fun h189 => ?_)
         ·
          try simp only [zA, zB, zC, zD, zE, zF] at h189
          refine w_y rfl rfl rfl (y_move (v := .int _ _) rfl rfl) rfl ?_
          refine w_y rfl rfl rfl (y_eql rfl rfl rfl rfl) rfl ?_
          refine w_p (y_pickT (v := .bool _) rfl rfl rfl rfl) rfl ?_
          refine w_p (y_move (v := .bool _) rfl rfl) rfl ?_
          refine w_split (fun h190 => ?_) (fun h190 => ?_)
          ·
           try simp only [zA, zB, zC, zD, zE, zF] at h190
           refine w_call (want_yes rfl rfl rfl) Try.call22 rfl rfl rfl rfl (c22 hs) ?_
           rintro _ w192 ⟨rfl, hs193⟩
           refine w_p (y_pickT (v := .bool _) rfl rfl rfl rfl) rfl ?_
           refine w_p (y_assign (v := .bool _) rfl rfl) rfl ?_
           refine w_nil ?_
           refine q_then (hK187 _ _ ?_)
           refine w_ret ?_
           refine q_ret (l := [.tmp 6]) (vs := [_]) rfl ⟨⟨rfl, show _ = (.bool _ : Value) from rfl⟩, trivial⟩ ?_
           exact ⟨rfl, (St.cast hZ hs193).tail.tail.tail.drop.drop.drop.tail⟩
          ·
           exfalso
           try simp only [zA, zB, zC, zD, zE, zF] at h190
           rw [hrg] at h190; simp at h190
         ·
          exfalso
          try simp only [zA, zB, zC, zD, zE, zF] at h189
          rw [hrg] at h189; simp at h189

end Go.Proofs
