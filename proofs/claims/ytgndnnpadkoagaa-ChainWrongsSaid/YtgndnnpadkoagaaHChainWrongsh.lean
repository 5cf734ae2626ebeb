/- Own texts of this claim, joined. No conditions. -/
import Derived.Test.YtgndnnpadkoagaaHChainWrongsa
import Derived.Test.YtgndnnpadkoagaaHChainWrongsb
import Derived.Test.YtgndnnpadkoagaaHChainWrongsc
import Derived.Test.YtgndnnpadkoagaaHChainWrongsd
import Derived.Test.YtgndnnpadkoagaaHChainWrongse
import Derived.Test.YtgndnnpadkoagaaHChainWrongsf
import Derived.Test.YtgndnnpadkoagaaHChainWrongsg
/- Walks of this seat, printed by gen.py over the engine: what each function returns, in whatever world. No conditions but those of each contract. -/
set_option linter.unusedVariables false
set_option linter.unusedSimpArgs false
set_option maxRecDepth 20000
namespace Go.Proofs
open Go.Rt Go.Rt.Ch
open Go.Rt.Ha (firstE firstE_step firstE_stop firstE_end failE nameE felt spanL upto span_mem listL fewest fewTo bit before fewStep drop_lt drop_get drop_next drop_done drop_notin set_take set_zero take_less)
attribute [local irreducible] WL WC Con Yd At Ats Sl Agree DW
theorem Try_Q_fb3  (w : World) : (Instr.buildSlice 23 0 [].toArray).run Try.prog w = .ok (.slice (some ⟨w.heap.size, 0, none⟩) 0 0) (w.alloc (Go.Rt.blk 76 [])) := by kernel_rfl
theorem Try_info76 : Try.prog.info? 76 = some Try.t76 := by kernel_rfl
theorem Try_Q_fb5  (w : World) : (Instr.buildSlice 39 0 [].toArray).run Try.prog w = .ok (.slice (some ⟨w.heap.size, 0, none⟩) 0 0) (w.alloc (Go.Rt.blk 3 [])) := by kernel_rfl
theorem krows_one (l : List Ctr) (q : Nat → AtC) : ∀ row ∈ krows l q, ∀ u ∈ row, u.oneCell' = true := by
  intro row hr u hu
  obtain ⟨i, hi, rfl⟩ := List.getElem_of_mem hr
  simp only [krows, List.getElem_mapIdx, Ctr.cells, List.mem_cons, List.not_mem_nil, or_false] at hu
  rcases hu with rfl | rfl | rfl | rfl | rfl | rfl <;> rfl
theorem ints_rows (l : List Int) : (l.map fun x => [Value.int .i64 x]).flatten = iv l := by induction l with | nil => rfl | cons x l ih => simp only [List.map_cons, List.flatten_cons, ih]; rfl
theorem ints1_one (l : List Int) : ∀ row ∈ l.map (fun x => [Value.int .i64 x]), ∀ u ∈ row, u.oneCell' = true := by
  intro row hr u hu
  obtain ⟨x, _, rfl⟩ := List.mem_map.1 hr
  rw [List.mem_singleton] at hu; subst hu; rfl
/-- Where the counters' lists lie, of which the first so many have been copied. -/
def QC (p : AtB) (qc : Nat → AtC) (i : Nat) : Prop := (∀ j, i ≤ j → qc j = p.pc j) ∧ ∀ j, (qc j).az = (p.pc j).az ∧ (qc j).cz = (p.pc j).cz
def DS (w0 : World) (DB : List (Nat × Obj)) (b : Board) (s : Nat) (qc : Nat → AtC) (i : Nat) : Prop := ∀ k (hk : k < i) (hk2 : k < b.ctrs.length), Sl w0 DB (qc k).as 1 ((butC b.hours.length s k b.ctrs[k]).shown.map fun x => [Value.int .i64 x]) ∧ b.ctrs[k].shown.length ≤ (qc k).cs
theorem qc_zero (p : AtB) : QC p p.pc 0 := ⟨fun _ _ => rfl, fun _ => ⟨rfl, rfl⟩⟩
theorem QC.next {p : AtB} {qc : Nat → AtC} {i : Nat} (h : QC p qc i) (a : Option Addr) (c : Nat) : QC p (setPc qc i a c) (i + 1) := by
  refine ⟨fun j hj => ?_, fun j => ?_⟩
  · unfold setPc; rw [if_neg (by omega)]; exact h.1 j (by omega)
  · unfold setPc
    split
    · rename_i e; subst e; exact h.2 j
    · exact h.2 j
theorem ds_zero (w0 : World) (b : Board) (s : Nat) (qc : Nat → AtC) : DS w0 [] b s qc 0 := fun k hk => by omega
theorem DS.next {w0 : World} {DB B2 : List (Nat × Obj)} {b : Board} {s i : Nat} {qc : Nat → AtC} (h : DS w0 DB b s qc i) {a : Option Addr} {c : Nat} (hi : i < b.ctrs.length) (h2 : Sl w0 B2 a 1 ((butC b.hours.length s i b.ctrs[i]).shown.map fun x => [Value.int .i64 x])) (hc : b.ctrs[i].shown.length ≤ c) : DS w0 (B2 ++ DB) b s (setPc qc i a c) (i + 1) := by
  intro k hk hk2
  unfold setPc
  by_cases e : k = i
  · subst e
    rw [if_pos rfl]
    exact ⟨h2.top, hc⟩
  · rw [if_neg e]
    exact ⟨(h k (by omega) hk2).1.app, (h k (by omega) hk2).2⟩
theorem own_int_sl {w0 : World} {a : Option Addr} {n c : Nat} {l : List Int} {B : List (Nat × Obj)} (h : Rt.Own (.slice a n c) 3 1 n (iv l) B) (hl : l.length = n) : Sl w0 B a 1 (l.map fun x => [Value.int .i64 x]) ∧ n ≤ c := by
  obtain ⟨a', c', h1, h2, h3, _⟩ := own_rows0 (w0 := w0) (rows := l.map fun x => [Value.int .i64 x]) h (by intro row hr; obtain ⟨x, _, rfl⟩ := List.mem_map.1 hr; rfl) (by rw [List.length_map, hl]) (ints_rows l).symm
  injection h1 with e1 _ e3
  subst e1 e3
  exact ⟨h2, h3⟩
theorem drop_set_cell {cs : List Value} {k : Nat} {v : Value} (h : k < cs.length) : ((cs.set k v).drop k).take [v].length = [v] := by
  rw [List.drop_eq_getElem_cons (by simpa using h)]
  simp
theorem take_get {cs : List Value} {l : List Int} {m k : Nat} (h : cs.take (m * 1) = iv l) (hl : l.length = m) (hk : k < m) : (cs.drop (0 + k * 1)).take 1 = [.int .i64 (l.getD k 0)] := by
  have hlen : k < cs.length := by
    have := congrArg List.length h
    rw [List.length_take, List.length_map] at this; omega
  rw [Nat.mul_one, Nat.zero_add, List.drop_eq_getElem_cons hlen]
  have h2 : (cs.take (m * 1))[k]? = (iv l)[k]? := by rw [h]
  rw [List.getElem?_take, if_pos (by omega), List.getElem?_eq_getElem hlen] at h2
  simp only [iv, List.getElem?_map, List.getElem?_eq_getElem (show k < l.length by omega), Option.map_some, Option.some.injEq] at h2
  simp [h2, List.getD, show k < l.length by omega]
theorem take_put {cs : List Value} {l : List Int} {m k : Nat} {z : Int} (h : cs.take (m * 1) = iv l) : (setMany cs (0 + k * 1) [.int .i64 z]).take (m * 1) = iv (l.set k z) := by
  simp only [setMany, Nat.zero_add, Nat.mul_one]
  rw [List.take_set]
  rw [Nat.mul_one] at h
  rw [h]; simp [iv, List.map_set]
theorem but_bin {w0 : World} {F B1 DB : List (Nat × Obj)} {b : Board} {p : AtB} {s i cC : Nat} {aC : Option Addr} {qc : Nat → AtC} (hm : BIn w0 F b p) (hi : b.ctrs.length ≤ i) (hown : Rt.Own (.slice aC b.ctrs.length cC) 76 6 b.ctrs.length (krows (BL b s i) qc).flatten B1) (hq : QC p qc i) (hd : DS w0 DB b s qc i) : BIn w0 (B1 ++ (DB ++ F)) (butB b s) ⟨p.ah, p.ch, aC, cC, qc⟩ := by
  rw [BL_all hi] at hown
  obtain ⟨a', c', h1, h2, h3, _⟩ := own_rows0 (w0 := w0) (rows := krows (butB b s).ctrs qc) hown (krows_row _ _) (by rw [krows_len, butB_len]) rfl
  injection h1 with e1 _ e3
  subst e1 e3
  refine ⟨hm.h.app.app, h2.top, fun k hk => ?_, fun k hk => ?_, hm.lh, by rw [butB_len]; exact hm.lc, hm.ch, by rw [butB_len]; exact h3, fun k hk => ?_, fun k hk => ?_, fun x hx => ?_⟩
  · have hk2 : k < b.ctrs.length := by rw [butB_len] at hk; exact hk
    rw [butB_get hk2, show (qc k).az = (p.pc k).az from (hq.2 k).1]; exact (hm.z k hk2).app.app
  · have hk2 : k < b.ctrs.length := by rw [butB_len] at hk; exact hk
    rw [butB_get hk2]; exact (hd k (by omega) hk2).1.top.app
  · have hk2 : k < b.ctrs.length := by rw [butB_len] at hk; exact hk
    rw [butB_get hk2, show (qc k).cz = (p.pc k).cz from (hq.2 k).2]; exact hm.lz k hk2
  · have hk2 : k < b.ctrs.length := by rw [butB_len] at hk; exact hk
    rw [butB_get hk2, butC_slen]; exact ⟨(hm.ls k hk2).1, (hd k (by omega) hk2).2⟩
  · obtain ⟨k, hk, rfl⟩ := List.getElem_of_mem hx
    have hk2 : k < b.ctrs.length := by rw [butB_len] at hk; exact hk
    rw [butB_get hk2]; exact hm.nm b.ctrs[k] (List.getElem_mem hk2)
theorem c85 {w0 w : World} {F : List (Nat × Obj)} (a : Option Addr) (c : Nat) (l : List Ctr) (q : Nat → AtC) (hl : l.length ≤ 1000000) (ha : Sl w0 F a 6 (krows l q)) (hs : St w0 w F) :
  Con Try.prog 85 [.slice a l.length c] w fun v w' => ∃ a2 c2 B', v = .slice a2 l.length c2 ∧ Rt.Own (.slice a2 l.length c2) 76 6 l.length (krows l q).flatten B' ∧ St w0 w' (B' ++ F) := by
  refine con_of_wc (n := 8) Try.func85 rfl rfl (Nat.le_of_ble_eq_true rfl) ?_
  refine w_seq (fun K2 hK1 => ?_)
  refine w_region ?_
  refine w_p (y_assign (v := _) rfl rfl) rfl ?_
  refine w_nil ?_
  refine q_then (hK1 _ _ ?_)
  refine w_seq (fun K4 hK3 => ?_)
  refine w_seq (fun K6 hK5 => ?_)
  refine w_region ?_
  refine w_p (y_move (v := .slice _ _ _) rfl rfl) rfl ?_
  refine w_p (y_sliceNil Try.underlying23 rfl rfl rfl rfl) rfl ?_
  refine w_nil ?_
  refine q_then (hK5 _ _ ?_)
  refine w_cond rfl rfl (fun h7 => ?_) (fun h7 => ?_)
  ·
   try simp only [zA, zB, zC, zD, zE, zF] at h7
   refine w_seq (fun K9 hK8 => ?_)
   refine w_region ?_
   refine w_p (y_assign (v := _) rfl rfl) rfl ?_
   refine w_nil ?_
   refine q_then (hK8 _ _ ?_)
   refine w_ret ?_
   refine q_then_ret ?_
   refine q_ret (l := [.tmp 2]) (vs := [_]) rfl ⟨⟨rfl, show _ = (.slice _ _ _ : Value) from rfl⟩, trivial⟩ ?_
   have hr := sl_none (L := F) (w0 := w0) (by have : a = none := (by simpa using ‹a.isNone = true›); subst this; exact ha)
   have hl0 : l = [] := by simpa [krows] using hr
   subst hl0
   exact ⟨none, 0, [], rfl, own_nil 76 6, hs⟩
  ·
   try simp only [zA, zB, zC, zD, zE, zF] at h7
   refine w_skip ?_
   refine q_then (hK3 _ _ ?_)
   refine w_seq (fun K11 hK10 => ?_)
   refine w_region ?_
   refine w_bslice (ps := []) (pv := []) (cs := []) want_none rfl rfl (fun w => Try_Q_fb3  w) hs (fun b12 w13 hs14 => ?_)
   refine w_p (y_move (v := .slice _ _ _) rfl rfl) rfl ?_
   refine w_append (X := ([])) (B := [_]) (rows := krows l q) (sz := 6) (bytes := 88) want_none Try.underlying23 Try_info76 rfl rfl rfl rfl rfl rfl rfl rfl rfl hs14 own_made ha.cons (by simp [krows]) (fun h => by subst h; simp at h7) (krows_one l q) (by simp only [maxLen]; omega) (by omega) (fun v15 w16 B17 ho18 hs19 => ?_)
   replace hs19 := (show St _ _ (B17 ++ (F)) from hs19)
   refine w_p (y_assign (v := v15) rfl rfl) rfl ?_
   refine w_nil ?_
   refine q_then (hK10 _ _ ?_)
   refine w_ret ?_
   refine q_ret (l := [.tmp 2]) (vs := [_]) rfl ⟨⟨rfl, show _ = (v15 : Value) from rfl⟩, trivial⟩ ?_
   rw [Nat.zero_add, List.nil_append] at ho18
   have h9 := ho18
   obtain ⟨a2, c2, rfl⟩ := h9.slice
   exact ⟨a2, c2, _, rfl, h9, hs19⟩

theorem c86 {w0 w : World} {F : List (Nat × Obj)} (a : Option Addr) (c : Nat) (l : List Int) (hl : l.length ≤ 1000000) (ha : Sl w0 F a 1 (l.map fun x => [Value.int .i64 x])) (hs : St w0 w F) :
  Con Try.prog 86 [.slice a l.length c] w fun v w' => ∃ a2 c2 B', v = .slice a2 l.length c2 ∧ Rt.Own (.slice a2 l.length c2) 3 1 l.length (iv l) B' ∧ St w0 w' (B' ++ F) := by
  refine con_of_wc (n := 8) Try.func86 rfl rfl (Nat.le_of_ble_eq_true rfl) ?_
  refine w_seq (fun K2 hK1 => ?_)
  refine w_region ?_
  refine w_p (y_assign (v := _) rfl rfl) rfl ?_
  refine w_nil ?_
  refine q_then (hK1 _ _ ?_)
  refine w_seq (fun K4 hK3 => ?_)
  refine w_seq (fun K6 hK5 => ?_)
  refine w_region ?_
  refine w_p (y_move (v := .slice _ _ _) rfl rfl) rfl ?_
  refine w_p (y_sliceNil Try.underlying39 rfl rfl rfl rfl) rfl ?_
  refine w_nil ?_
  refine q_then (hK5 _ _ ?_)
  refine w_cond rfl rfl (fun h7 => ?_) (fun h7 => ?_)
  ·
   try simp only [zA, zB, zC, zD, zE, zF] at h7
   refine w_seq (fun K9 hK8 => ?_)
   refine w_region ?_
   refine w_p (y_assign (v := _) rfl rfl) rfl ?_
   refine w_nil ?_
   refine q_then (hK8 _ _ ?_)
   refine w_ret ?_
   refine q_then_ret ?_
   refine q_ret (l := [.tmp 2]) (vs := [_]) rfl ⟨⟨rfl, show _ = (.slice _ _ _ : Value) from rfl⟩, trivial⟩ ?_
   have hr := sl_none (L := F) (w0 := w0) (by have : a = none := (by simpa using ‹a.isNone = true›); subst this; exact ha)
   have hl0 : l = [] := by simpa [krows] using hr
   subst hl0
   exact ⟨none, 0, [], rfl, own_nil 3 1, hs⟩
  ·
   try simp only [zA, zB, zC, zD, zE, zF] at h7
   refine w_skip ?_
   refine q_then (hK3 _ _ ?_)
   refine w_seq (fun K11 hK10 => ?_)
   refine w_region ?_
   refine w_bslice (ps := []) (pv := []) (cs := []) want_none rfl rfl (fun w => Try_Q_fb5  w) hs (fun b12 w13 hs14 => ?_)
   refine w_p (y_move (v := .slice _ _ _) rfl rfl) rfl ?_
   refine w_append (X := ([])) (B := [_]) (rows := (l.map fun x => [Value.int .i64 x])) (sz := 1) (bytes := 8) want_none Try.underlying39 Try_info3 rfl rfl rfl rfl rfl rfl rfl rfl rfl hs14 own_made ha.cons (by simp) (fun h => by subst h; simp at h7) (ints1_one l) (by simp only [maxLen]; omega) (by omega) (fun v15 w16 B17 ho18 hs19 => ?_)
   replace hs19 := (show St _ _ (B17 ++ (F)) from hs19)
   refine w_p (y_assign (v := v15) rfl rfl) rfl ?_
   refine w_nil ?_
   refine q_then (hK10 _ _ ?_)
   refine w_ret ?_
   refine q_ret (l := [.tmp 2]) (vs := [_]) rfl ⟨⟨rfl, show _ = (v15 : Value) from rfl⟩, trivial⟩ ?_
   rw [Nat.zero_add, List.nil_append] at ho18
   have h9 := ho18
   obtain ⟨a2, c2, rfl⟩ := h9.slice
   exact ⟨a2, c2, _, rfl, (by rw [ints_rows] at h9; exact h9), hs19⟩

theorem c83 {w0 w : World} {F : List (Nat × Obj)} (b : Board) (p : AtB) (hm : BIn w0 F b p) (hck : (check b).2.2 = 0) (s : Nat) (hs1k : s < 1000) (bq bh : Nat) (h1 : Ats w0 F bq 0 (b.cells p)) (h2 : Ats w0 F bh 0 [.int .i64 (b.hours.length : Int)]) (hs : St w0 w F) :
  Con Try.prog 83 [.int .i64 (s : Int), .pointer (some ⟨bq, 0, none⟩), .pointer (some ⟨bh, 0, none⟩)] w fun v w' => v = .bool (wrongS b s) ∧ St w0 w' F := by
  refine con_of_wc (n := 73) Try.func83 rfl rfl (Nat.le_of_ble_eq_true rfl) ?_
  have hok := check_ok hck
  have hlh := hok.lh
  have hlc := hok.lc
  refine w_seq (fun K2 hK1 => ?_)
  refine w_region ?_
  refine w_p (y_assign (v := _) rfl rfl) rfl ?_
  refine w_nil ?_
  refine q_then (hK1 _ _ ?_)
  refine w_seq (fun K4 hK3 => ?_)
  refine w_region ?_
  refine w_p (y_loadN (vs := [_, _, _]) Try.isAgg25 Try.sizeOf25 hs rfl rfl h1) rfl ?_
  refine w_call want_none Try.call84 rfl rfl rfl rfl (c84 b p hs) ?_
  rintro _ w6 ⟨bb, mm, rfl, hs7⟩
  replace hs7 := (show St _ _ (_ :: _ :: F) from hs7)
  refine w_p (y_assign (v := .pointer _) rfl rfl) rfl ?_
  refine w_nil ?_
  refine q_then (hK3 _ _ ?_)
  refine w_seq (fun K9 hK8 => ?_)
  refine w_region ?_
  refine w_p (y_move (v := .pointer _) rfl rfl) rfl ?_
  refine w_p (y_fieldAddr (o := 2) (i := 2) Try.underlying25 rfl Try.sizeOf23 rfl rfl rfl) rfl ?_
  refine w_p (y_load1 Try.isAgg23 hs7.tail.tail rfl rfl (show Ats _ _ _ _ [_] from Ats.part h1 2 1)) rfl ?_
  refine w_call want_none Try.call85 rfl rfl rfl rfl (c85 _ _ b.ctrs p.pc (by omega) hm.c.cons.cons hs7) ?_
  rintro _ w11 ⟨aC, cC, B1, rfl, hown, hs12⟩
  have hs13 := (show St _ _ (B1 ++ ([_, _] ++ F)) from hs12).perm (perm_mid B1 [_, _] F)
  replace hs13 := (show St _ _ (_ :: _ :: B1 ++ (F)) from hs13)
  refine w_p (y_nilCheck rfl rfl) rfl ?_
  refine w_p (y_fieldAddr (o := 0) (i := 0) Try.underlying129 rfl Try.sizeOf25 rfl rfl rfl) rfl ?_
  refine w_p (y_fieldAddr (o := 2) (i := 2) Try.underlying25 rfl Try.sizeOf23 rfl rfl rfl) rfl ?_
  refine w_store (i := 0) (v := .slice _ _ _) (vs := [_]) want_none Try.sizeOf23 rfl rfl rfl rfl rfl (by simp [Value.oneCell']) hs13 rfl (Nat.le_of_ble_eq_true rfl) (fun w14 hs15 => ?_)
  refine w_nil ?_
  refine q_then (hK8 _ _ ?_)
  refine w_seq (fun K17 hK16 => ?_)
  refine w_seq (fun K19 hK18 => ?_)
  refine w_region ?_
  refine w_p (y_move (v := .pointer _) rfl rfl) rfl ?_
  refine w_p (y_nilCheck rfl rfl) rfl ?_
  refine w_p (y_fieldAddr (o := 0) (i := 0) Try.underlying129 rfl Try.sizeOf25 rfl rfl rfl) rfl ?_
  refine w_p (y_fieldAddr (o := 2) (i := 2) Try.underlying25 rfl Try.sizeOf23 rfl rfl rfl) rfl ?_
  refine w_p (y_load1 Try.isAgg23 hs15 rfl rfl (ats_own (i := 0) (vs := [_]) rfl rfl)) rfl ?_
  refine w_p (y_lenS Try.underlying23 rfl rfl) rfl ?_
  refine w_p (y_move (v := _) rfl rfl) rfl ?_
  refine w_nil ?_
  refine q_then (hK18 _ _ ?_)
  refine w_block ?_
  refine w_loop [4, 6, 7, 8, 24, 25, 26, 27, 28, 29, 30, 31, 32, 33, 34, 35, 36, 37, 38, 39, 40, 41, 42, 43, 44, 45, 46, 47, 48, 49, 50, 51, 52, 53, 54, 55, 56, 57, 58, 59, 60, 61, 62, 63, 64, 65, 66, 67, 68, 69, 70] [24] (fun kk vs w => ∃ (i : Nat) (B1 DB : List (Nat × Obj)) (qc : Nat → AtC), vs = [.int .i64 i] ∧ i ≤ b.ctrs.length ∧ kk = b.ctrs.length - i ∧ Rt.Own (.slice aC b.ctrs.length cC) 76 6 b.ctrs.length (krows (BL b s i) qc).flatten B1 ∧ QC p qc i ∧ DS w0 DB b s qc i ∧ WOK b s (i * b.hours.length + 0) ∧ St w0 w ((bb, blk 129 [.int .i64 b.holds, .slice p.ah b.hours.length p.ch, .slice aC b.ctrs.length cC, .map (some mm)]) :: (mm, .map #[] 0) :: (B1 ++ (DB ++ F)))) (b.ctrs.length) ?_ ?_
  ·
   exact ⟨0, B1, [], p.pc, rfl, by omega, by omega, by rw [BL_zero]; exact hown, qc_zero p, ds_zero w0 b s _, (fun j hj => by omega), hs15⟩
  ·
   intro k vs μ w22 hI K21 hN20
   clear hs hown
   obtain ⟨i, B1, DB, qc, rfl, hia, rfl, hown, hqc, hds, hwk, hs⟩ := hI
   refine w_seq (fun K24 hK23 => ?_)
   refine w_region ?_
   refine w_p (y_lss rfl rfl rfl rfl) rfl ?_
   refine w_nil ?_
   refine q_then (hK23 _ _ ?_)
   refine w_seq (fun K26 hK25 => ?_)
   refine w_cond rfl rfl (fun h27 => ?_) (fun h27 => ?_)
   ·
    try simp only [zA, zB, zC, zD, zE, zF] at h27
    refine w_skip ?_
    refine q_then (hK25 _ _ ?_)
    refine w_seq (fun K29 hK28 => ?_)
    refine w_block ?_
    refine w_seq (fun K31 hK30 => ?_)
    refine w_region ?_
    refine w_p (y_move (v := .int _ _) rfl rfl) rfl ?_
    refine w_p (y_assign (v := .int _ _) rfl rfl) rfl ?_
    refine w_nil ?_
    refine q_then (hK30 _ _ ?_)
    refine w_seq (fun K33 hK32 => ?_)
    have hi2 : i < b.ctrs.length := by omega
    have hci := hok.ctr _ (List.getElem_mem hi2)
    have hlz := hci.ls
    obtain ⟨bc, cs, rfl, rfl, hcap, hcapm, hcl, htk⟩ := own_some2 hown (by omega)
    replace hs := (show St _ _ (_ :: _ :: _ :: DB ++ (F)) from hs)
    obtain ⟨bx, ox, hbx2, hrow⟩ := sl_krows (sl_own (w0 := w0) (L := (bc, blk 76 cs) :: (DB ++ F)) (i := 0) rfl (krows_row (BL b s i) qc) (by rw [krows_len, BL_len (by omega)]; exact htk)) (i := i) (by rw [BL_len (by omega)]; exact hi2)
    cases hbx2
    rw [BL_get hi2, hqc.1 i (Nat.le_refl _)] at hrow
    refine w_region ?_
    refine w_p (y_move (v := .pointer _) rfl rfl) rfl ?_
    refine w_p (y_nilCheck rfl rfl) rfl ?_
    refine w_p (y_fieldAddr (o := 0) (i := 0) Try.underlying129 rfl Try.sizeOf25 rfl rfl rfl) rfl ?_
    refine w_p (y_fieldAddr (o := 2) (i := 2) Try.underlying25 rfl Try.sizeOf23 rfl rfl rfl) rfl ?_
    refine w_p (y_load1 Try.isAgg23 hs rfl rfl (ats_own (i := 0) (vs := [_]) rfl rfl)) rfl ?_
    refine w_p (y_move (v := .int _ _) rfl rfl) rfl ?_
    refine w_p (y_indexS Try.underlying23 Try.sizeOf76 rfl rfl rfl rfl (i := i) rfl hi2) rfl ?_
    refine w_p (y_assign (v := .pointer _) rfl rfl) rfl ?_
    refine w_nil ?_
    refine q_then (hK32 _ _ ?_)
    refine w_seq (fun K35 hK34 => ?_)
    refine w_region ?_
    refine w_p (y_move (v := .pointer _) rfl rfl) rfl ?_
    refine w_p (y_move (v := .pointer _) rfl rfl) rfl ?_
    refine w_p (y_nilCheck rfl rfl) rfl ?_
    refine w_p (y_fieldAddr (o := 5) (i := 5) Try.underlying76 rfl Try.sizeOf39 rfl rfl rfl) rfl ?_
    refine w_p (y_load1 Try.isAgg39 hs.tail.tail rfl rfl (show Ats _ _ _ _ [_] from Ats.part hrow 5 1)) rfl ?_
    refine w_call want_none Try.call86 rfl rfl rfl rfl (c86 _ _ (b.ctrs[i]'hi2).shown (by omega) (hm.s i hi2).app.cons.cons.cons hs) ?_
    rintro _ w37 ⟨a2, c2, B2, rfl, hown2, hs38⟩
    have hs39 := (show St _ _ (B2 ++ ([_, _, _] ++ (DB ++ F))) from hs38).perm (perm_mid B2 [_, _, _] (DB ++ F))
    replace hs39 := (show St _ _ (_ :: _ :: _ :: B2 ++ (DB ++ (F))) from hs39)
    refine w_p (y_nilCheck rfl rfl) rfl ?_
    refine w_p (y_fieldAddr (o := 5) (i := 5) Try.underlying76 rfl Try.sizeOf39 rfl rfl rfl) rfl ?_
    refine w_store (i := 2) (v := .slice _ _ _) (vs := [_]) want_none Try.sizeOf39 rfl rfl rfl rfl rfl (by simp [Value.oneCell']) hs39 rfl (by show 0 + i * 6 + 5 + 1 ≤ cs.length; omega) (fun w40 hs41 => ?_)
    replace hs41 := (show St _ _ (_ :: _ :: (bc, blk 76 (setMany cs (0 + i * 6 + 5) [(Value.slice a2 (b.ctrs[i]'hi2).shown.length c2)])) :: (B2 ++ (DB ++ F))) from hs41)
    have he0 : setMany cs (0 + i * 6 + 5) [(Value.slice a2 (b.ctrs[i]'hi2).shown.length c2)] = cs.set (i * 6 + 5) (Value.slice a2 (b.ctrs[i]'hi2).shown.length c2) := by simp only [setMany, Nat.zero_add]
    rw [he0] at hs41
    obtain ⟨cs1, hcs1⟩ : ∃ cs1, cs1 = cs.set (i * 6 + 5) (Value.slice a2 (b.ctrs[i]'hi2).shown.length c2) := ⟨_, rfl⟩
    rw [← hcs1] at hs41
    have hcell : (cs1.drop (0 + i * 6 + 5)).take [(Value.slice a2 (b.ctrs[i]'hi2).shown.length c2)].length = [(Value.slice a2 (b.ctrs[i]'hi2).shown.length c2)] := by rw [hcs1, Nat.zero_add]; exact drop_set_cell (by omega)
    refine w_nil ?_
    refine q_then (hK34 _ _ ?_)
    refine w_seq (fun K43 hK42 => ?_)
    refine w_region ?_
    refine w_p (y_load1 Try.isAgg3 hs41.tail.tail.tail.drop.drop rfl rfl h2) rfl ?_
    refine w_p (y_move (v := _) rfl rfl) rfl ?_
    refine w_nil ?_
    refine q_then (hK42 _ _ ?_)
    refine w_block ?_
    refine w_loop [4, 8, 43, 44, 45, 46, 47, 48, 49, 50, 51, 52, 53, 54, 55, 56, 57, 58, 59, 60, 61, 62, 63, 64, 65, 66, 67, 68, 69] [43] (fun kk vs w => ∃ (k : Nat) (B2 : List (Nat × Obj)), vs = [.int .i64 k] ∧ k ≤ b.hours.length ∧ kk = b.hours.length - k ∧ Rt.Own (Value.slice a2 (b.ctrs[i]'hi2).shown.length c2) 3 1 (b.ctrs[i]'hi2).shown.length (iv (shPart b.hours.length s i k (b.ctrs[i]'hi2).shown)) B2 ∧ WOK b s (i * b.hours.length + k) ∧ St w0 w ((bb, blk 129 [.int .i64 b.holds, .slice p.ah b.hours.length p.ch, .slice (some ⟨bc, 0, none⟩) b.ctrs.length cC, .map (some mm)]) :: (mm, .map #[] 0) :: (bc, blk 76 cs1) :: (B2 ++ (DB ++ F)))) (b.hours.length) ?_ ?_
    ·
     exact ⟨0, B2, rfl, by omega, by omega, by rw [shPart_zero]; exact hown2, hwk, hs41⟩
    ·
     intro k vs μ w46 hI K45 hN44
     clear hs hown2
     obtain ⟨k, B2, rfl, hka, rfl, hown2, hwk2, hs⟩ := hI
     refine w_seq (fun K48 hK47 => ?_)
     refine w_region ?_
     refine w_p (y_lss rfl rfl rfl rfl) rfl ?_
     refine w_nil ?_
     refine q_then (hK47 _ _ ?_)
     refine w_seq (fun K50 hK49 => ?_)
     refine w_cond rfl rfl (fun h51 => ?_) (fun h51 => ?_)
     ·
      try simp only [zA, zB, zC, zD, zE, zF] at h51
      refine w_skip ?_
      refine q_then (hK49 _ _ ?_)
      refine w_seq (fun K53 hK52 => ?_)
      refine w_block ?_
      refine w_seq (fun K55 hK54 => ?_)
      refine w_region ?_
      refine w_p (y_move (v := .int _ _) rfl rfl) rfl ?_
      refine w_p (y_assign (v := .int _ _) rfl rfl) rfl ?_
      refine w_nil ?_
      refine q_then (hK54 _ _ ?_)
      refine w_seq (fun K57 hK56 => ?_)
      refine w_seq (fun K59 hK58 => ?_)
      have hk2 : k < b.hours.length := by omega
      have hm8 := mul_in8 hlh hlc hi2 hk2
      have hmi : ((i : Int) * (b.hours.length : Int)) = ((i * b.hours.length : Nat) : Int) := by push_cast; rfl
      refine w_region ?_
      refine w_p (y_move (v := .int _ _) rfl rfl) rfl ?_
      refine w_p (y_move (v := .int _ _) rfl rfl) rfl ?_
      refine w_p (y_load1 Try.isAgg3 hs.tail.tail.tail.drop.drop rfl rfl h2) rfl ?_
      refine w_p (yd_cast (z' := ((i * b.hours.length : Nat) : Int)) hmi (y_mul rfl rfl rfl rfl (by omega) (by omega))) rfl ?_
      refine w_p (y_move (v := .int _ _) rfl rfl) rfl ?_
      refine w_p (yd_cast (z' := ((i * b.hours.length + k : Nat) : Int)) (by omega) (y_add rfl rfl rfl rfl (by omega) (by omega))) rfl ?_
      refine w_p (y_shr (x := s) (y := i * b.hours.length + k) rfl rfl rfl rfl (by first | rfl | omega) (by first | rfl | omega) (by first | omega | exact shr_lt (by omega))) rfl ?_
      refine w_p (show Yd _ _ _ _ (.int .i64 ((bit s (i * b.hours.length + k) : Nat) : Int)) from (y_and (x := _) (y := 1) rfl rfl rfl rfl rfl rfl (by first | omega | exact shr_lt (by omega)) (by first | omega | exact shr_lt (by omega)))) rfl ?_
      refine w_p (y_eql rfl rfl rfl rfl) rfl ?_
      refine w_nil ?_
      refine q_then (hK58 _ _ ?_)
      refine w_cond rfl rfl (fun h60 => ?_) (fun h60 => ?_)
      ·
       try simp only [zA, zB, zC, zD, zE, zF] at h60
       refine w_exit ?_
       refine q_then_exit ?_
       refine q_blk_this ?_
       refine q_then (hK52 _ _ ?_)
       refine w_region ?_
       refine w_p (y_add rfl rfl rfl rfl (by omega) (by omega)) rfl ?_
       refine w_p (y_move (v := .int _ _) rfl rfl) rfl ?_
       refine w_nil ?_
       refine q_then (hN44 _ _ (Nx.intro (b.hours.length - (k + 1)) (by omega) (by repeat (first | exact agree_mix | refine agree_upd rfl ?_ | refine agree_updL rfl ?_ _ | refine agree_mixin rfl ?_)) ?_))
       exact ⟨k + 1, B2, rfl, by omega, rfl, by rw [← shPart_no (by omega)]; exact hown2, wok_no hwk2 (by omega), hs⟩
      ·
       try simp only [zA, zB, zC, zD, zE, zF] at h60
       refine w_skip ?_
       refine q_then (hK56 _ _ ?_)
       refine w_seq (fun K62 hK61 => ?_)
       refine w_seq (fun K64 hK63 => ?_)
       have hk2 : k < b.hours.length := by omega
       obtain ⟨d, cs2, rfl, rfl, hcap2, hcapm2, hcl2, htk2⟩ := own_some2 hown2 (by omega)
       replace hs := (show St _ _ (_ :: _ :: _ :: _ :: DB ++ (F)) from hs)
       refine w_region ?_
       refine w_p (y_move (v := .pointer _) rfl rfl) rfl ?_
       refine w_p (y_nilCheck rfl rfl) rfl ?_
       refine w_p (y_fieldAddr (o := 5) (i := 5) Try.underlying76 rfl Try.sizeOf39 rfl rfl rfl) rfl ?_
       refine w_p (y_load1 Try.isAgg39 hs rfl rfl (ats_own (i := 2) (vs := [_]) rfl hcell)) rfl ?_
       refine w_p (y_move (v := .int _ _) rfl rfl) rfl ?_
       refine w_p (y_indexS Try.underlying39 Try.sizeOf3 rfl rfl rfl rfl (i := k) rfl (by omega)) rfl ?_
       refine w_p (y_load1 Try.isAgg3 hs rfl rfl (ats_own (i := 3) (vs := [_]) rfl (take_get htk2 (by rw [shPart_len]) (by omega)))) rfl ?_
       refine w_p (y_eql rfl rfl rfl rfl) rfl ?_
       refine w_nil ?_
       refine q_then (hK63 _ _ ?_)
       refine w_cond rfl rfl (fun h65 => ?_) (fun h65 => ?_)
       ·
        try simp only [zA, zB, zC, zD, zE, zF] at h65
        refine w_seq (fun K67 hK66 => ?_)
        refine w_region ?_
        refine w_p (y_assign (v := _) rfl rfl) rfl ?_
        refine w_nil ?_
        refine q_then (hK66 _ _ ?_)
        refine w_ret ?_
        refine q_then_ret ?_
        refine q_blk_ret ?_
        refine q_then_ret ?_
        refine q_then_ret ?_
        refine q_blk_ret ?_
        refine q_blk_ret ?_
        refine q_then_ret ?_
        refine q_then_ret ?_
        refine q_blk_ret ?_
        refine q_then_ret ?_
        refine q_ret (l := [.tmp 4]) (vs := [_]) rfl ⟨⟨rfl, show _ = (.bool _ : Value) from rfl⟩, trivial⟩ ?_
        exact ⟨congrArg Value.bool (wrongS_no hi2 hk2 (by have := bit_lt2 s (i * b.hours.length + k); omega) (by rw [← shPart_get (n := b.hours.length) (s := s) (i := i) (by omega)]; assumption)).symm, hs.tail.tail.tail.tail.drop⟩
       ·
        try simp only [zA, zB, zC, zD, zE, zF] at h65
        refine w_skip ?_
        refine q_then (hK61 _ _ ?_)
        refine w_region ?_
        refine w_p (y_move (v := .pointer _) rfl rfl) rfl ?_
        refine w_p (y_nilCheck rfl rfl) rfl ?_
        refine w_p (y_fieldAddr (o := 5) (i := 5) Try.underlying76 rfl Try.sizeOf39 rfl rfl rfl) rfl ?_
        refine w_p (y_load1 Try.isAgg39 hs rfl rfl (ats_own (i := 2) (vs := [_]) rfl hcell)) rfl ?_
        refine w_p (y_move (v := .int _ _) rfl rfl) rfl ?_
        refine w_p (y_indexS Try.underlying39 Try.sizeOf3 rfl rfl rfl rfl (i := k) rfl (by omega)) rfl ?_
        refine w_store (i := 3) (v := .int _ _) (vs := [_]) want_none Try.sizeOf3 rfl rfl rfl rfl rfl (by simp [Value.oneCell']) hs rfl (by show 0 + k * 1 + 1 ≤ cs2.length; omega) (fun w68 hs69 => ?_)
        refine w_nil ?_
        refine q_blk_normal ?_
        refine q_then (hK52 _ _ ?_)
        refine w_region ?_
        refine w_p (y_add rfl rfl rfl rfl (by omega) (by omega)) rfl ?_
        refine w_p (y_move (v := .int _ _) rfl rfl) rfl ?_
        refine w_nil ?_
        refine q_then (hN44 _ _ (Nx.intro (b.hours.length - (k + 1)) (by omega) (by repeat (first | exact agree_mix | refine agree_upd rfl ?_ | refine agree_updL rfl ?_ _ | refine agree_mixin rfl ?_)) ?_))
        exact ⟨k + 1, [(d, blk 3 (setMany cs2 (0 + k * 1) [.int .i64 (-1)]))], rfl, by omega, rfl, own_mk (by rw [List.length_map, shPart_len]; omega) hcap2 hcapm2 (by rw [setMany_len]; exact hcl2) (by rw [← shPart_yes (by omega) (by have := bit_lt2 s (i * b.hours.length + k); omega)]; exact take_put htk2), wok_yes hi2 hk2 hwk2 (by rw [← shPart_get (n := b.hours.length) (s := s) (i := i) (by omega)]; assumption), hs69⟩
     ·
      try simp only [zA, zB, zC, zD, zE, zF] at h51
      refine w_exit ?_
      refine q_then_exit ?_
      refine q_then_exit ?_
      refine q_blk_this ?_
      refine q_blk_normal ?_
      refine q_then (hK28 _ _ ?_)
      refine w_region ?_
      refine w_p (y_add rfl rfl rfl rfl (by omega) (by omega)) rfl ?_
      refine w_p (y_move (v := .int _ _) rfl rfl) rfl ?_
      refine w_nil ?_
      refine q_then (hN20 _ _ (Nx.intro (b.ctrs.length - (i + 1)) (by omega) (by repeat (first | exact agree_mix | refine agree_upd rfl ?_ | refine agree_updL rfl ?_ _ | refine agree_mixin rfl ?_)) ?_))
      have hsl2 := own_int_sl (w0 := w0) hown2 (shPart_len _ _ _ _ _)
      rw [shPart_all (by omega)] at hsl2
      exact ⟨i + 1, [(bc, blk 76 cs1)], B2 ++ DB, setPc qc i a2 c2, rfl, by omega, rfl, own_mk (by rw [flat_len_sz (krows_row _ _), krows_len, BL_len (by omega)]) hcap hcapm (by rw [hcs1, List.length_set]; exact hcl) (by
        rw [hcs1, take_cell (by omega) (krows_row (BL b s i) qc) (by rw [krows_len, BL_len (by omega)]; exact hi2) htk, BL_set hi2, ← krows_set (by rw [BL_len (by omega)]; exact hi2) (by simp only [BL_get hi2]; exact but_cells)]
        simp only [krows, List.getElem_mapIdx, BL_get hi2]), hqc.next _ _, hds.next hi2 hsl2.1 hsl2.2, wok_row (by omega) (by omega) hwk2, (by rw [List.append_assoc]; exact hs)⟩
   ·
    try simp only [zA, zB, zC, zD, zE, zF] at h27
    refine w_exit ?_
    refine q_then_exit ?_
    refine q_then_exit ?_
    refine q_blk_this ?_
    refine q_then (hK16 _ _ ?_)
    refine w_seq (fun K71 hK70 => ?_)
    have hs72 := swp2 hs
    replace hs72 := (show St _ _ (_ :: _ :: B1 ++ (DB ++ (F))) from hs72)
    have hkb : BK w0 ((bb, blk 129 [.int .i64 b.holds, .slice p.ah b.hours.length p.ch, .slice aC b.ctrs.length cC, .map (some mm)]) :: (B1 ++ (DB ++ F))) (butB b s) ⟨p.ah, p.ch, aC, cC, qc⟩ bb mm := ⟨(but_bin hm (by omega) hown hqc hds).cons, ats_own (i := 0) rfl (by simp only [butB_len]; rfl), butB_ok hok s⟩
    refine w_region ?_
    refine w_p (y_move (v := .pointer _) rfl rfl) rfl ?_
    refine w_call want_none Try.call87 rfl rfl rfl rfl (c87 (X := []) (M := [(mm, .map #[] 0)]) (butB b s) _ bb mm hkb (memo_new w0 _ mm) hs72) ?_
    rintro _ w74 ⟨rfl, M2, hM2, hs75⟩
    replace hs75 := (show St _ _ (M2 ++ (_ :: B1 ++ (DB ++ (F)))) from hs75)
    refine w_p (y_assign (v := .bool _) rfl rfl) rfl ?_
    refine w_nil ?_
    refine q_then (hK70 _ _ ?_)
    refine w_ret ?_
    refine q_ret (l := [.tmp 4]) (vs := [_]) rfl ⟨⟨rfl, show _ = (.bool _ : Value) from rfl⟩, trivial⟩ ?_
    exact ⟨congrArg Value.bool (wrongS_yes (by omega) hwk).symm, hs75.drop.tail.drop.drop⟩

end Go.Proofs
/- Plain facts: sets of up to eight numbers, and the first of the fewest. No conditions. -/
set_option maxRecDepth 100000
set_option linter.unusedSimpArgs false
set_option linter.unusedVariables false
namespace Go.Rt.Ch
open Go.Rt.Ha
def numL (l : List Int) : Nat := l.foldl (fun s z => s + 2 ^ z.toNat) 0
theorem sets8_pairwise : ∀ sub < 256, (setsL (listL sub 8)).Pairwise fun a b => before a b = true := by decide +kernel
theorem sets8_in : ∀ sub < 256, ∀ l ∈ setsL (listL sub 8), numL l < 256 ∧ Ha.bitDiff (numL l) sub = 0 ∧ l = listL (numL l) 8 := by decide +kernel
theorem sets8_mask : ∀ sub < 256, (setsL (listL sub 8)).foldl (fun m l => m ||| 2 ^ numL l) 0 = (List.range 256).foldl (fun m b => if Ha.bitDiff b sub = 0 then m ||| 2 ^ b else m) 0 := by decide +kernel
theorem mask_out {α : Type} (f : α → Nat) {b : Nat} : ∀ (l : List α) (m : Nat), (l.foldl (fun m x => m ||| 2 ^ f x) m).testBit b = true → m.testBit b = true ∨ ∃ x ∈ l, f x = b
  | [], m, h => .inl h
  | x :: l, m, h => by
    rcases mask_out f l _ h with h | ⟨y, hy, e⟩
    · rw [Nat.testBit_or, Bool.or_eq_true, Nat.testBit_two_pow] at h
      rcases h with h | h
      · exact .inl h
      · exact .inr ⟨x, .head _, by simpa using h⟩
    · exact .inr ⟨y, .tail _ hy, e⟩
theorem mask_keep {q : Nat → Prop} [DecidablePred q] {b : Nat} : ∀ (l : List Nat) (m : Nat), m.testBit b = true → (l.foldl (fun m x => if q x then m ||| 2 ^ x else m) m).testBit b = true
  | [], m, h => h
  | x :: l, m, h => by
    refine mask_keep l _ ?_
    dsimp only
    split
    · rw [Nat.testBit_or, h]; rfl
    · exact h
theorem mask_in {q : Nat → Prop} [DecidablePred q] {b : Nat} (hq : q b) : ∀ (l : List Nat) (m : Nat), b ∈ l → (l.foldl (fun m x => if q x then m ||| 2 ^ x else m) m).testBit b = true
  | x :: l, m, h => by
    rcases List.mem_cons.1 h with rfl | h
    · refine mask_keep l _ ?_
      dsimp only
      rw [if_pos hq, Nat.testBit_or, Nat.testBit_two_pow]; simp
    · exact mask_in hq l _ h
theorem sets8_all (sub : Nat) (hs : sub < 256) (b : Nat) (hb : b < 256) (hd : Ha.bitDiff b sub = 0) : listL b 8 ∈ setsL (listL sub 8) := by
  have h := mask_in (q := fun b => Ha.bitDiff b sub = 0) hd (List.range 256) 0 (by simpa using hb)
  rw [← sets8_mask sub hs] at h
  rcases mask_out numL _ _ h with h | ⟨l, hl, e⟩
  · simp at h
  · have := (sets8_in sub hs l hl).2.2
    rw [e] at this; rw [← this]; exact hl
theorem numL_snoc (l : List Int) (z : Int) : numL (l ++ [z]) = numL l + 2 ^ z.toNat := by simp [numL]
theorem bit_div (s k : Nat) : bit s k = s / 2 ^ k % 2 := by unfold bit; rw [Nat.shiftRight_eq_div_pow, Nat.and_one_is_mod]
theorem numL_listL (s : Nat) : ∀ k, numL (listL s k) = s % 2 ^ k
  | 0 => by simp [listL, numL, Nat.mod_one]
  | k + 1 => by
    have ih := numL_listL s k
    rw [Nat.mod_pow_succ, ← bit_div]
    rcases bit_lt2 s k with h | h
    · rw [listL_no (by omega), ih, h]; simp
    · rw [listL_yes h, numL_snoc, ih, h]; simp
theorem mem_listL {b : Nat} {z : Int} : ∀ {n : Nat}, z ∈ listL b n ↔ ∃ i : Nat, z = i ∧ i < n ∧ bit b i = 1
  | 0 => by simp [listL]
  | n + 1 => by
    rcases bit_lt2 b n with h | h
    · rw [listL_no (by omega), mem_listL]
      exact ⟨fun ⟨i, e, hi, hb⟩ => ⟨i, e, by omega, hb⟩, fun ⟨i, e, hi, hb⟩ => ⟨i, e, by
        by_cases e2 : i = n
        · rw [e2] at hb; omega
        · omega, hb⟩⟩
    · rw [listL_yes h, List.mem_append, mem_listL]
      constructor
      · rintro (⟨i, e, hi, hb⟩ | hz)
        · exact ⟨i, e, by omega, hb⟩
        · simp at hz; exact ⟨n, hz, by omega, h⟩
      · rintro ⟨i, e, hi, hb⟩
        by_cases e2 : i = n
        · right; rw [e, e2]; simp
        · left; exact ⟨i, e, by omega, hb⟩
theorem bitDiff_zero {a b : Nat} : Ha.bitDiff a b = 0 ↔ ∀ i, bit a i = 1 → bit b i = 1 := by
  unfold Ha.bitDiff
  constructor
  · intro h i hi
    rw [bit_iff] at *
    have := congrArg (fun x => x.testBit i) h
    simp only [Nat.testBit_and, Nat.testBit_xor, Nat.zero_testBit, hi] at this
    simpa using this
  · intro h
    apply Nat.eq_of_testBit_eq
    intro i
    simp only [Nat.testBit_and, Nat.testBit_xor, Nat.zero_testBit]
    cases ha : a.testBit i with
    | false => rfl
    | true => rw [(bit_iff b i).1 (h i ((bit_iff a i).2 ha))]; rfl
theorem bit_out {s n i : Nat} (h : s < 2 ^ n) (hi : n ≤ i) : bit s i = 0 := by
  rw [bit_div, Nat.div_eq_of_lt (Nat.lt_of_lt_of_le h (Nat.pow_le_pow_right (by omega) hi))]
/-- The program's first of the fewest is the reference's: for eight numbers too. -/
theorem fewest_find8 {do_ : Nat → Bool} {p : List Int → Bool} {n sub : Nat} (hn : n ≤ 6 ∨ n = 8) (hs : sub < 2 ^ n) (hd : ∀ b, b < 2 ^ n → do_ b = (decide (Ha.bitDiff b sub = 0) && p (listL b n))) :
    fewest do_ n = match (setsL (listL sub n)).find? p with | some l => (l, true) | none => ([], false) := by
  rcases hn with hn | rfl
  · exact fewest_find hn hs hd
  have e2 : 1 <<< 8 = 2 ^ 8 := rfl
  have hf := few_min do_ 8 (1 <<< 8)
  have hp := sets8_pairwise sub hs
  unfold fewest
  generalize hg : fewTo do_ 8 (1 <<< 8) = s at hf
  obtain ⟨l, f⟩ := s
  rw [e2] at hf
  cases hq : (setsL (listL sub 8)).find? p with
  | none =>
    have hnone := List.find?_eq_none.1 hq
    cases f with
    | false => have := (hf.no rfl).1; simp only at this; subst this; rfl
    | true =>
      obtain ⟨b, hb, hdb, e1, _⟩ := hf.yes rfl
      rw [hd b hb] at hdb
      simp only [Bool.and_eq_true, decide_eq_true_eq] at hdb
      exact absurd hdb.2 (hnone _ (sets8_all sub hs b hb hdb.1))
  | some q =>
    obtain ⟨h1, h2, h3⟩ := find_min _ hp q hq
    obtain ⟨hb, hbd, eq⟩ := sets8_in sub hs q h1
    generalize numL q = b at hb hbd eq
    subst eq
    have hdo : do_ b = true := by rw [hd b hb, h2]; simp [hbd]
    cases f with
    | false => rw [(hf.no rfl).2 b hb] at hdo; cases hdo
    | true =>
      obtain ⟨c, hc, hdc, e1, hm⟩ := hf.yes rfl
      simp only at e1 hm
      subst e1
      rw [hd c hc] at hdc
      simp only [Bool.and_eq_true, decide_eq_true_eq] at hdc
      have := h3 _ (sets8_all sub hs c hc hdc.1) hdc.2
      rcases this with h | h
      · rw [h]
      · rcases hm b hb hdo with h' | h'
        · rw [h']
        · have := Ls.before_asymm (show Ls.before _ _ = true from h); rw [show Ls.before _ _ = true from h'] at this; cases this
theorem sets_num {n sub : Nat} (hn : n ≤ 6 ∨ n = 8) (hs : sub < 2 ^ n) {l : List Int} (hl : l ∈ setsL (listL sub n)) : l = listL (numL l) n ∧ numL l < 2 ^ n := by
  rcases hn with hn | rfl
  · have hs64 : sub < 64 := by
      have : 2 ^ n ≤ 2 ^ 6 := Nat.pow_le_pow_right (by omega) hn
      omega
    obtain ⟨b, hb, _, rfl⟩ := sets_in n (by omega) sub hs64 hs l hl
    rw [numL_listL, Nat.mod_eq_of_lt hb]; exact ⟨rfl, hb⟩
  · obtain ⟨h1, _, h2⟩ := sets8_in sub hs l hl
    exact ⟨h2, h1⟩
theorem choices_all : ∀ n < 9, choices n n = [(List.range n).map Int.ofNat] := by decide +kernel
theorem pick_all (s : List Int) : pickL s ((List.range s.length).map Int.ofNat) = s := by
  apply List.ext_getElem
  · simp [pickL]
  · intro i h1 h2
    simp [pickL, List.getD, h2]
theorem sets_last {s : List Int} (h : s.length < 9) : setsMany s s.length = [s] := by
  unfold setsMany; rw [choices_all _ h, List.map_cons, pick_all]; rfl
end Go.Rt.Ch
/- Plain laws of the chain layer: numbers that must be wrong. No program in sight. No conditions. -/
set_option linter.unusedSimpArgs false
set_option linter.unusedVariables false
namespace Go.Rt.Ch
open Go.Rt.Ha
/-! ### The numbers that counters show -/
def subTo (b : Board) : Nat → Nat
  | 0 => 0
  | k + 1 => if shownAt b k = -1 then subTo b k else 2 ^ k + subTo b k
theorem subTo_lt (b : Board) : ∀ k, subTo b k < 2 ^ k
  | 0 => by simp [subTo]
  | k + 1 => by
    have := subTo_lt b k
    unfold subTo; rw [Nat.pow_succ]; split <;> omega
theorem subTo_bit (b : Board) : ∀ {k j : Nat}, j < k → (bit (subTo b k) j = 1 ↔ ¬ shownAt b j = -1)
  | k + 1, j, h => by
    have hl := subTo_lt b k
    unfold subTo
    by_cases e : j = k
    · subst e
      split
      · rename_i hs
        rw [bit_out hl (Nat.le_refl _)]; simp [hs]
      · rename_i hs
        rw [bit_iff, Nat.testBit_two_pow_add_eq, Nat.testBit_lt_two_pow hl]; simp [hs]
    · have ih := subTo_bit b (k := k) (j := j) (by omega)
      split
      · exact ih
      · rw [bit_iff, Nat.testBit_two_pow_add_gt (by omega), ← bit_iff]; exact ih
def mN (b : Board) : Nat := b.hours.length * b.ctrs.length
/-- All numbers shown. -/
def nums (b : Board) : List Int := listL (subTo b (mN b)) (mN b)
def numsTo (b : Board) (k : Nat) : List Int := listL (subTo b k) k
theorem listL_same {s t : Nat} : ∀ {n : Nat}, (∀ i, i < n → bit s i = bit t i) → listL s n = listL t n
  | 0, _ => rfl
  | n + 1, h => by
    have ih := listL_same (s := s) (t := t) (n := n) fun i hi => h i (by omega)
    have e := h n (by omega)
    simp only [listL, ih, e]
theorem numsTo_y {b : Board} {k : Nat} (h : ¬ shownAt b k = -1) : numsTo b (k + 1) = numsTo b k ++ [(k : Int)] := by
  unfold numsTo
  rw [listL_yes ((subTo_bit b (by omega)).2 h)]
  congr 1
  refine listL_same fun i hi => ?_
  have h1 := subTo_bit b (k := k + 1) (j := i) (by omega)
  have h2 := subTo_bit b (k := k) (j := i) hi
  rcases bit_lt2 (subTo b (k + 1)) i with a | a <;> rcases bit_lt2 (subTo b k) i with c | c
  · rw [a, c]
  · exact absurd (h1.2 (h2.1 c)) (by omega)
  · exact absurd (h2.2 (h1.1 a)) (by omega)
  · rw [a, c]
theorem numsTo_n {b : Board} {k : Nat} (h : shownAt b k = -1) : numsTo b (k + 1) = numsTo b k := by
  unfold numsTo
  rw [listL_no (fun e => (subTo_bit b (by omega)).1 e h), show subTo b (k + 1) = subTo b k by rw [subTo, if_pos h]]
theorem mN_le {b : Board} (h : b.Ok) : mN b ≤ 8 ∧ (mN b ≤ 6 ∨ mN b = 8) := by
  have h1 := h.lh
  have h2 := h.lc
  unfold mN
  generalize b.hours.length = n at *
  generalize b.ctrs.length = m at *
  have hm : m = 0 ∨ m = 1 ∨ m = 2 := by omega
  rcases hm with rfl | rfl | rfl <;> omega
theorem nums_len (b : Board) : (nums b).length ≤ mN b := listL_le _ _
/-! ### With no number there is a truth -/
theorem step_some {c : Ctr} {n k : Nat} {s load : Int} (hok : c.Ok n) (hk : k < n) (hl : 0 ≤ load) (hs : c.shown.getD k 0 = -1) : stepsC c k s load ≠ [] := by
  have key : ∀ z, canZ c k z = true → stepsZ c k s load z ≠ [] := by
    intro z hz
    have h1 := hok.skip
    have h2 := hok.twice
    have : (⟨load + 0, shOf s z (load + 0), z⟩ : Way) ∈ stepsZ c k s load z := by
      unfold stepsZ
      rw [if_pos hz, List.mem_flatMap]
      refine ⟨0, span_mem.2 ⟨by omega, by omega⟩, ?_⟩
      rw [if_pos (by omega)]
      unfold wayR
      rw [if_pos (.inl hs)]
      exact List.mem_singleton.2 rfl
    exact List.ne_nil_of_mem this
  unfold stepsC
  intro h
  rw [List.append_eq_nil_iff] at h
  by_cases hz : c.zero.getD k 0 = 1
  · exact key true (show decide (c.zero.getD k 0 ≠ 0) = true from decide_eq_true (by omega)) h.2
  · exact key false (show decide (c.zero.getD k 0 ≠ 1) = true from decide_eq_true hz) h.1
theorem fare_some {c : Ctr} {n : Nat} {l : List Int} {q : Quest} (hok : c.Ok n) (hl : ∀ k, 0 ≤ ld l k) (hs : ∀ k, k < n → c.shown.getD k 0 = -1) : ∀ k, k ≤ n → fareTo c l q k ≠ []
  | 0, _ => by simp [fareTo]
  | k + 1, h => by
    have ih := fare_some (q := q) hok hl hs k (by omega)
    obtain ⟨x, hx⟩ := List.exists_mem_of_ne_nil _ ih
    obtain ⟨w, hw⟩ := List.exists_mem_of_ne_nil _ (step_some (s := x.1) hok (show k < n by omega) (hl k) (hs k (by omega)))
    refine List.ne_nil_of_mem (a := (w.shows, x.2 || q k (ld l k) w)) ?_
    simp only [fareTo, List.mem_flatMap, List.mem_map]
    exact ⟨x, hx, w, hw, rfl⟩
theorem can_none {b : Board} (hok : b.Ok) {l : List Int} (hl : ∀ k, 0 ≤ ld l k) (hs : ∀ c ∈ b.ctrs, ∀ k, k < b.hours.length → c.shown.getD k 0 = -1) : canL b l = true := by
  unfold canL
  rw [List.all_eq_true]
  intro c hc
  obtain ⟨x, hx⟩ := List.exists_mem_of_ne_nil _ (fare_some (q := slips) (hok.ctr c hc) hl (hs c hc) _ (Nat.le_refl _))
  rw [Bool.or_eq_true]
  cases e : x.2 with
  | false => left; exact List.any_eq_true.2 ⟨x, hx, by rw [e]; rfl⟩
  | true => right; exact List.any_eq_true.2 ⟨x, hx, e⟩
theorem truths_none {b : Board} (hok : b.Ok) (hs : ∀ c ∈ b.ctrs, ∀ k, k < b.hours.length → c.shown.getD k 0 = -1) : truths b ≠ [] := by
  have hf : (b.hours.map fun h => h.lo) ∈ felt (bun b) := by
    refine (felt_in _ _).2 ⟨by simp [bun], fun i hi => ?_⟩
    have hi2 : i < b.hours.length := by simpa [bun] using hi
    have e : at_ (b.hours.map fun h => h.lo) i = b.hours[i].lo := by simp [at_, List.getD, hi2]
    have e2 : (bun b)[i] = ⟨b.hours[i].lo, b.hours[i].hi, 0, 0⟩ := bun_at hi2
    rw [e, e2]
    have := (hok.hour _ (List.getElem_mem hi2)).le
    exact ⟨Int.le_refl _, this⟩
  refine List.ne_nil_of_mem (List.mem_filter.2 ⟨hf, can_none hok (fun k => ?_) hs⟩)
  exact (felt_40 hok hf k).1
theorem but_none {b : Board} (hok : b.Ok) : truths (butB b (subTo b (mN b))) ≠ [] := by
  refine truths_none (butB_ok hok _) fun c hc k hk => ?_
  obtain ⟨i, hi, rfl⟩ := List.getElem_of_mem hc
  have hi2 : i < b.ctrs.length := by rw [butB_len] at hi; exact hi
  rw [butB_get hi2]
  have hk2 : k < b.hours.length := hk
  have hls := (hok.ctr _ (List.getElem_mem hi2)).ls
  have hm : i * b.hours.length + k < mN b := by
    unfold mN
    have : (i + 1) * b.hours.length ≤ b.ctrs.length * b.hours.length := Nat.mul_le_mul_right _ hi2
    rw [Nat.succ_mul] at this
    rw [Nat.mul_comm b.hours.length]; omega
  have hb := subTo_bit b hm
  rw [shown_at hi2 hk2] at hb
  unfold butC
  simp only [List.getD, List.getElem?_map, List.getElem?_range (show k < b.ctrs[i].shown.length by omega), Option.map_some, Option.getD_some]
  split
  · rfl
  · rename_i hne
    by_cases h : b.ctrs[i].shown.getD k 0 = -1
    · simpa [List.getD] using h
    · exact absurd (hb.2 h) hne
/-! ### The first of the fewest -/
def wP (b : Board) (x : List Int) : Bool := !(truths (butB b (numL x))).isEmpty
theorem wrong_do {b : Board} {s : Nat} (hs : s < 2 ^ mN b) : wrongS b s = (decide (Ha.bitDiff s (subTo b (mN b)) = 0) && wP b (listL s (mN b))) := by
  unfold wrongS wP
  rw [numL_listL, Nat.mod_eq_of_lt hs]
  congr 1
  rw [Bool.eq_iff_iff, List.all_eq_true, decide_eq_true_eq, bitDiff_zero]
  constructor
  · intro h i hi
    by_cases hm : i < mN b
    · refine (subTo_bit b hm).2 fun e => ?_
      have := h i (List.mem_range.2 hm)
      simp [hi, e] at this
    · rw [bit_out hs (by omega)] at hi; cases hi
  · intro h k hk
    have hm : k < mN b := List.mem_range.1 hk
    by_cases hb : bit s k = 1
    · have := (subTo_bit b hm).1 (h k hb)
      simp [this]
    · simp [hb]
theorem wrong_same {b : Board} (hok : b.Ok) : (fewest (wrongS b) (b.hours.length * b.ctrs.length)).1 = match (setsTo (nums b) (nums b).length).find? (wP b) with | some x => x | none => nums b := by
  have hm := mN_le hok
  have hl := nums_len b
  rw [show b.hours.length * b.ctrs.length = mN b from rfl, fewest_find8 (p := wP b) hm.2 (subTo_lt b (mN b)) (fun s hs => wrong_do hs)]
  rw [show listL (subTo b (mN b)) (mN b) = nums b from rfl, show setsL (nums b) = setsTo (nums b) (nums b).length ++ setsMany (nums b) (nums b).length from rfl, sets_last (by omega), List.find?_append]
  cases hf : (setsTo (nums b) (nums b).length).find? (wP b) with
  | some x => rfl
  | none =>
    have hp : wP b (nums b) = true := by
      unfold wP nums
      rw [numL_listL, Nat.mod_eq_of_lt (subTo_lt b _)]
      cases ht : truths (butB b (subTo b (mN b))) with
      | nil => exact absurd ht (but_none hok)
      | cons x y => rfl
    simp [hp]
theorem wrongP_some {b : Board} {l : List Int} (hc : (check b).2.2 = 0) (h : (setsTo (nums b) (nums b).length).find? (wP b) = some l) : wrongP b = (l, 0) := by
  unfold wrongP; rw [if_neg (by simp [hc]), wrong_same (check_ok hc), h]
theorem wrongP_none {b : Board} (hc : (check b).2.2 = 0) (h : (setsTo (nums b) (nums b).length).find? (wP b) = none) : wrongP b = (nums b, 0) := by
  unfold wrongP; rw [if_neg (by simp [hc]), wrong_same (check_ok hc), h]
theorem sets_hereW {s : List Int} {p : List Int → Bool} {k q : Nat} (hk : k < s.length) (h1 : (setsTo s k).find? p = none) (h2 : (((choices s.length k).take q).map (pickL s)).find? p = none) (hq : q < (choices s.length k).length) (hp : p (pickL s (choices s.length k)[q]) = true) : (setsTo s s.length).find? p = some (pickL s (choices s.length k)[q]) := by
  have split : ∀ d, ∃ r, setsTo s (k + 1 + d) = setsTo s (k + 1) ++ r := by
    intro d
    induction d with
    | zero => exact ⟨[], by simp⟩
    | succ d ih =>
      obtain ⟨r, hr⟩ := ih
      exact ⟨r ++ setsMany s (k + 1 + d), by rw [show k + 1 + (d + 1) = (k + 1 + d) + 1 by omega, setsTo, hr, List.append_assoc]⟩
  obtain ⟨r, hr⟩ := split (s.length - (k + 1))
  rw [show k + 1 + (s.length - (k + 1)) = s.length by omega] at hr
  rw [hr, setsTo, List.append_assoc, List.find?_append, h1, Option.none_or, List.find?_append]
  have : (setsMany s k).find? p = some (pickL s (choices s.length k)[q]) := by
    have e : setsMany s k = ((choices s.length k).take q).map (pickL s) ++ (pickL s (choices s.length k)[q] :: ((choices s.length k).drop (q + 1)).map (pickL s)) := by
      unfold setsMany
      rw [← List.map_cons (f := pickL s), ← List.drop_eq_getElem_cons hq, ← List.map_append, List.take_append_drop]
    rw [e, List.find?_append, h2, Option.none_or, List.find?_cons, hp]
  rw [this]; rfl
theorem wP_num {b : Board} (hok : b.Ok) {k q : Nat} (hk : k ≤ (nums b).length) (hq : q < (choices (nums b).length k).length) : pickL (nums b) (choices (nums b).length k)[q] = listL (numL (pickL (nums b) (choices (nums b).length k)[q])) (mN b) ∧ numL (pickL (nums b) (choices (nums b).length k)[q]) < 2 ^ mN b := by
  refine sets_num (mN_le hok).2 (subTo_lt b (mN b)) ?_
  have split : ∀ d, ∃ r, setsTo (nums b) (k + 1 + d) = setsTo (nums b) (k + 1) ++ r := by
    intro d
    induction d with
    | zero => exact ⟨[], by simp⟩
    | succ d ih =>
      obtain ⟨r, hr⟩ := ih
      exact ⟨r ++ setsMany (nums b) (k + 1 + d), by rw [show k + 1 + (d + 1) = (k + 1 + d) + 1 by omega, setsTo, hr, List.append_assoc]⟩
  obtain ⟨r, hr⟩ := split ((nums b).length - k)
  show _ ∈ setsTo (nums b) ((nums b).length + 1)
  rw [show (nums b).length + 1 = k + 1 + ((nums b).length - k) by omega, hr, setsTo]
  refine List.mem_append_left _ (List.mem_append_right _ ?_)
  exact List.mem_map_of_mem (List.getElem_mem hq)
end Go.Rt.Ch
/- Walks of this seat, printed by gen.py over the engine: what each function returns, in whatever world. No conditions but those of each contract. -/
set_option linter.unusedVariables false
set_option linter.unusedSimpArgs false
set_option maxRecDepth 20000
namespace Go.Proofs
open Go.Rt Go.Rt.Ch
open Go.Rt.Ha (firstE firstE_step firstE_stop firstE_end failE nameE felt spanL upto span_mem listL fewest fewTo bit before fewStep drop_lt drop_get drop_next drop_done drop_notin set_take set_zero take_less Lot Bunch feltTo fTo fPart felt_zero felt_step fTo_succ fTo_len fPart_succ fPart_len fPart_all filt_yes filt_no upto_len at_ someOf choicesTo cfind_here cfind_next cfind_on choices_fin)
attribute [local irreducible] WL WC Con Yd At Ats Sl Agree DW
theorem Try_Zc_fb8 (x0 : Int) (w : World) : (Instr.buildSlice 39 1 [(0, .int .i64 x0)].toArray).run Try.prog w = .ok (.slice (some ⟨w.heap.size, 0, none⟩) 1 1) (w.alloc (Go.Rt.blk 3 [.int .i64 x0])) := by kernel_rfl
theorem c42 {w0 w : World} {F : List (Nat × Obj)} (al : Option Addr) (cl : Nat) (l : List Int) (hll : l.length ≤ 9223372036854775807) (hl : Sl w0 F al 1 (l.map fun x => [Value.int .i64 x])) (z : Int) (hs : St w0 w F) :
  Con Try.prog 42 [.slice al l.length cl, .int .i64 z] w fun v w' => v = .bool (hasI l z) ∧ St w0 w' F := by
  refine con_of_wc (n := 23) Try.func42 rfl rfl (Nat.le_of_ble_eq_true rfl) ?_
  refine w_seq (fun K2 hK1 => ?_)
  refine w_region ?_
  refine w_p (y_assign (v := _) rfl rfl) rfl ?_
  refine w_nil ?_
  refine q_then (hK1 _ _ ?_)
  refine w_seq (fun K4 hK3 => ?_)
  refine w_region ?_
  refine w_p (y_assign (v := _) rfl rfl) rfl ?_
  refine w_nil ?_
  refine q_then (hK3 _ _ ?_)
  refine w_seq (fun K6 hK5 => ?_)
  refine w_seq (fun K8 hK7 => ?_)
  refine w_region ?_
  refine w_p (y_assign (v := _) rfl rfl) rfl ?_
  refine w_nil ?_
  refine q_then (hK7 _ _ ?_)
  refine w_block ?_
  refine w_loop [5, 6, 7, 8, 9, 10, 11, 12, 13, 14, 15, 16, 17, 18, 19, 20, 21] [5, 6] (fun k vs w => ∃ i : Nat, vs = [.bool (hasI (l.take i) z), .int .i64 i] ∧ i ≤ l.length ∧ k = l.length - i ∧ St w0 w F) (l.length) ?_ ?_
  ·
   exact ⟨0, rfl, by omega, by omega, hs⟩
  ·
   intro k vs μ w11 hI K10 hN9
   obtain ⟨i, rfl, hia, rfl, hs⟩ := hI
   generalize hb : hasI (l.take i) z = b
   refine w_seq (fun K13 hK12 => ?_)
   refine w_seq (fun K15 hK14 => ?_)
   refine w_region ?_
   refine w_p (y_move (v := .int _ _) rfl rfl) rfl ?_
   refine w_p (y_move (v := .slice _ _ _) rfl rfl) rfl ?_
   refine w_p (y_lenS Try.underlying39 rfl rfl) rfl ?_
   refine w_p (y_lss rfl rfl rfl rfl) rfl ?_
   refine w_nil ?_
   refine q_then (hK14 _ _ ?_)
   refine w_cond rfl rfl (fun h16 => ?_) (fun h16 => ?_)
   ·
    try simp only [zA, zB, zC, zD, zE, zF] at h16
    refine w_skip ?_
    refine q_then (hK12 _ _ ?_)
    refine w_seq (fun K18 hK17 => ?_)
    refine w_block ?_
    have hi2 : i < l.length := by omega
    obtain ⟨bx, ox, hbx, hx⟩ := sl_ints hl hi2
    subst hbx
    refine w_region ?_
    refine w_p (y_move (v := .bool _) rfl rfl) rfl ?_
    refine w_p (y_move (v := .bool _) rfl rfl) rfl ?_
    refine w_split (fun h19 => ?_) (fun h19 => ?_)
    ·
     subst h19
     refine w_skipop rfl rfl rfl ?_
     refine w_skipop rfl rfl rfl ?_
     refine w_skipop rfl rfl rfl ?_
     refine w_skipop rfl rfl rfl ?_
     refine w_skipop rfl rfl rfl ?_
     refine w_skipop rfl rfl rfl ?_
     refine w_p (y_pickT (v := _) rfl rfl rfl rfl) rfl ?_
     refine w_p (y_assign (v := .bool _) rfl rfl) rfl ?_
     refine w_nil ?_
     refine q_blk_normal ?_
     refine q_then (hK17 _ _ ?_)
     refine w_region ?_
     refine w_p (y_move (v := .int _ _) rfl rfl) rfl ?_
     refine w_p (y_add rfl rfl rfl rfl (by omega) (by omega)) rfl ?_
     refine w_p (y_assign (v := .int _ _) rfl rfl) rfl ?_
     refine w_nil ?_
     refine q_then (hN9 _ _ (Nx.intro (l.length - (i + 1)) (by omega) (by repeat (first | exact agree_mix | refine agree_upd rfl ?_ | refine agree_updL rfl ?_ _ | refine agree_mixin rfl ?_)) ?_))
     first
       | exact ⟨i + 1, can_vals (by rw [hasI_succ hi2, hb]; simp) rfl, by omega, rfl, hs⟩
       | exact ⟨i + 1, can_vals (by rw [hasI_succ hi2, hb]; rfl) rfl, by omega, rfl, hs⟩
    ·
     subst h19
     refine w_y rfl rfl rfl (y_move (v := .slice _ _ _) rfl rfl) rfl ?_
     refine w_y rfl rfl rfl (y_move (v := .int _ _) rfl rfl) rfl ?_
     refine w_y rfl rfl rfl (y_indexS Try.underlying39 Try.sizeOf3 rfl rfl rfl rfl (i := _) rfl (by omega)) rfl ?_
     refine w_y rfl rfl rfl (y_load1 Try.isAgg3 hs rfl rfl hx) rfl ?_
     refine w_y rfl rfl rfl (y_move (v := .int _ _) rfl rfl) rfl ?_
     refine w_y rfl rfl rfl (y_eql rfl rfl rfl rfl) rfl ?_
     refine w_p (y_pickF (v := .bool _) rfl rfl rfl rfl) rfl ?_
     refine w_p (y_assign (v := .bool _) rfl rfl) rfl ?_
     refine w_nil ?_
     refine q_blk_normal ?_
     refine q_then (hK17 _ _ ?_)
     refine w_region ?_
     refine w_p (y_move (v := .int _ _) rfl rfl) rfl ?_
     refine w_p (y_add rfl rfl rfl rfl (by omega) (by omega)) rfl ?_
     refine w_p (y_assign (v := .int _ _) rfl rfl) rfl ?_
     refine w_nil ?_
     refine q_then (hN9 _ _ (Nx.intro (l.length - (i + 1)) (by omega) (by repeat (first | exact agree_mix | refine agree_upd rfl ?_ | refine agree_updL rfl ?_ _ | refine agree_mixin rfl ?_)) ?_))
     first
       | exact ⟨i + 1, can_vals (by rw [hasI_succ hi2, hb]; simp) rfl, by omega, rfl, hs⟩
       | exact ⟨i + 1, can_vals (by rw [hasI_succ hi2, hb]; rfl) rfl, by omega, rfl, hs⟩
   ·
    try simp only [zA, zB, zC, zD, zE, zF] at h16
    refine w_exit ?_
    refine q_then_exit ?_
    refine q_then_exit ?_
    refine q_blk_this ?_
    refine q_then (hK5 _ _ ?_)
    refine w_seq (fun K21 hK20 => ?_)
    refine w_region ?_
    refine w_p (y_move (v := .bool _) rfl rfl) rfl ?_
    refine w_p (y_assign (v := .bool _) rfl rfl) rfl ?_
    refine w_nil ?_
    refine q_then (hK20 _ _ ?_)
    refine w_ret ?_
    refine q_ret (l := [.tmp 4]) (vs := [_]) rfl ⟨⟨rfl, show _ = (.bool _ : Value) from rfl⟩, trivial⟩ ?_
    exact ⟨congrArg Value.bool (by have hil : i = l.length := (by omega); subst hil; rw [List.take_length] at hb; exact hb.symm), hs⟩

theorem own_num {b : Board} {v : Value} {k : Nat} {B : List (Nat × Obj)} {m : Int} (h : Rt.Own v 3 1 ((numsTo b k).length + 1) (iv (numsTo b k) ++ [Value.int .i64 m]) B) (hm : m = (k : Int)) (hs : ¬ shownAt b k = -1) : Rt.Own v 3 1 (numsTo b (k + 1)).length (iv (numsTo b (k + 1))) B := by
  subst hm
  rw [numsTo_y hs]
  simpa [iv] using h
theorem numsTo_len (b : Board) (k : Nat) : (numsTo b k).length ≤ k := listL_le _ _
theorem row_nx {n i k : Nat} (h : n ≤ k) (h2 : k ≤ n) : i * n + k = (i + 1) * n := by rw [Nat.succ_mul]; omega
theorem c39 {w0 w : World} {F : List (Nat × Obj)} (b : Board) (p : AtB) (hm : BIn w0 F b p) (hok : b.Ok) (hs : St w0 w F) :
  Con Try.prog 39 [.agg (b.cells p).toArray] w fun v w' => ∃ B, Rt.Own v 3 1 (nums b).length (iv (nums b)) B ∧ St w0 w' (B ++ F) := by
  refine con_of_wc (n := 41) Try.func39 rfl rfl (Nat.le_of_ble_eq_true rfl) ?_
  have hlh := hok.lh
  have hlc := hok.lc
  refine w_seq (fun K2 hK1 => ?_)
  refine w_region ?_
  refine w_box (v := .agg #[.int _ _, .slice _ _ _, .slice _ _ _]) (cs := [_, _, _]) want_none rfl rfl rfl hs (fun b3 w4 hs5 => ?_)
  refine w_p (y_assign (v := _) rfl rfl) rfl ?_
  refine w_nil ?_
  refine q_then (hK1 _ _ ?_)
  refine w_seq (fun K7 hK6 => ?_)
  have hbx := ats_ofK (i := 0) (vs := b.cells p) hs5 rfl rfl
  refine w_region ?_
  refine w_p (y_assign (v := _) rfl rfl) rfl ?_
  refine w_nil ?_
  refine q_then (hK6 _ _ ?_)
  refine w_seq (fun K9 hK8 => ?_)
  refine w_seq (fun K11 hK10 => ?_)
  refine w_region ?_
  refine w_p (y_assign (v := _) rfl rfl) rfl ?_
  refine w_nil ?_
  refine q_then (hK10 _ _ ?_)
  refine w_block ?_
  refine w_loop [3, 4, 5, 6, 7, 8, 9, 10, 11, 12, 13, 14, 15, 16, 17, 18, 19, 20, 21, 22, 23, 24, 25, 26, 27, 28, 29, 30, 31, 32, 33, 34, 35, 36, 37, 38, 39] [3, 4] (fun kk vs0 w => ∃ (i : Nat) (v : Value) (OB : List (Nat × Obj)), vs0 = [v, .int .i64 i] ∧ i ≤ b.ctrs.length ∧ kk = b.ctrs.length - i ∧ Rt.Own v 3 1 (numsTo b (i * b.hours.length)).length (iv (numsTo b (i * b.hours.length))) OB ∧ St w0 w (OB ++ ((b3, blk 25 (b.cells p)) :: F))) (b.ctrs.length) ?_ ?_
  ·
   exact ⟨0, _, [], rfl, by omega, by omega, by rw [Nat.zero_mul]; exact own_nil 3 1, hs5⟩
  ·
   intro k vs μ w14 hI K13 hN12
   obtain ⟨i, v, OB, rfl, hia, rfl, hown, hs⟩ := hI
   refine w_seq (fun K16 hK15 => ?_)
   refine w_seq (fun K18 hK17 => ?_)
   refine w_region ?_
   refine w_p (y_move (v := .int _ _) rfl rfl) rfl ?_
   refine w_p (y_fieldAddr (o := 2) (i := 2) Try.underlying25 rfl Try.sizeOf23 rfl rfl rfl) rfl ?_
   refine w_p (y_load1 Try.isAgg23 hs.drop rfl rfl (show Ats _ _ _ _ [_] from Ats.part hbx 2 1)) rfl ?_
   refine w_p (y_lenS Try.underlying23 rfl rfl) rfl ?_
   refine w_p (y_lss rfl rfl rfl rfl) rfl ?_
   refine w_nil ?_
   refine q_then (hK17 _ _ ?_)
   refine w_cond rfl rfl (fun h19 => ?_) (fun h19 => ?_)
   ·
    try simp only [zA, zB, zC, zD, zE, zF] at h19
    refine w_skip ?_
    refine q_then (hK15 _ _ ?_)
    refine w_seq (fun K21 hK20 => ?_)
    refine w_block ?_
    refine w_seq (fun K23 hK22 => ?_)
    have hi2 : i < b.ctrs.length := by omega
    have hci := hok.ctr _ (List.getElem_mem hi2)
    have hlz := hci.ls
    obtain ⟨bx, ox, hbx2, hx⟩ := sl_krows hm.c hi2
    refine w_region ?_
    refine w_p (y_assign (v := _) rfl rfl) rfl ?_
    refine w_nil ?_
    refine q_then (hK22 _ _ ?_)
    refine w_block ?_
    refine w_loop [3, 5, 13, 14, 15, 16, 17, 18, 19, 20, 21, 22, 23, 24, 25, 26, 27, 28, 29, 30, 31, 32, 33, 34, 35, 36, 37, 38, 39] [3, 5] (fun kk vs0 w => ∃ (k : Nat) (v : Value) (OB : List (Nat × Obj)), vs0 = [v, .int .i64 k] ∧ k ≤ b.hours.length ∧ kk = b.hours.length - k ∧ Rt.Own v 3 1 (numsTo b (i * b.hours.length + k)).length (iv (numsTo b (i * b.hours.length + k))) OB ∧ St w0 w (OB ++ ((b3, blk 25 (b.cells p)) :: F))) (b.hours.length) ?_ ?_
    ·
     exact ⟨0, v, OB, rfl, by omega, by omega, hown, hs⟩
    ·
     intro k vs μ w26 hI K25 hN24
     clear hs hown
     obtain ⟨k, v, OB, rfl, hka, rfl, hown, hs⟩ := hI
     refine w_seq (fun K28 hK27 => ?_)
     refine w_seq (fun K30 hK29 => ?_)
     refine w_region ?_
     refine w_p (y_move (v := .int _ _) rfl rfl) rfl ?_
     refine w_p (y_fieldAddr (o := 1) (i := 1) Try.underlying25 rfl Try.sizeOf22 rfl rfl rfl) rfl ?_
     refine w_p (y_load1 Try.isAgg22 hs.drop rfl rfl (show Ats _ _ _ _ [_] from Ats.part hbx 1 1)) rfl ?_
     refine w_p (y_lenS Try.underlying22 rfl rfl) rfl ?_
     refine w_p (y_lss rfl rfl rfl rfl) rfl ?_
     refine w_nil ?_
     refine q_then (hK29 _ _ ?_)
     refine w_cond rfl rfl (fun h31 => ?_) (fun h31 => ?_)
     ·
      try simp only [zA, zB, zC, zD, zE, zF] at h31
      refine w_skip ?_
      refine q_then (hK27 _ _ ?_)
      refine w_seq (fun K33 hK32 => ?_)
      refine w_block ?_
      refine w_seq (fun K35 hK34 => ?_)
      have hmi : ((i : Int) * (b.hours.length : Int)) = ((i * b.hours.length : Nat) : Int) := by push_cast; rfl
      have hk2 : k < b.hours.length := by omega
      have hm8 := mul_in8 hlh hlc hi2 hk2
      have hsa := shown_at hi2 hk2
      have hkl : k < (b.ctrs[i]'hi2).shown.length := by omega
      obtain ⟨bz, oz, hbz, hz⟩ := sl_ints (hm.s i hi2) hkl
      have hgd : (b.ctrs[i]'hi2).shown.getD k 0 = (b.ctrs[i]'hi2).shown[k] := by simp [List.getD, hkl]
      have hnl := numsTo_len b (i * b.hours.length + k)
      refine w_region ?_
      refine w_p (y_fieldAddr (o := 2) (i := 2) Try.underlying25 rfl Try.sizeOf23 rfl rfl rfl) rfl ?_
      refine w_p (yd_slice hbx2 (y_load1 Try.isAgg23 hs.drop rfl rfl (show Ats _ _ _ _ [_] from Ats.part hbx 2 1))) rfl ?_
      refine w_p (y_move (v := .int _ _) rfl rfl) rfl ?_
      refine w_p (y_indexS Try.underlying23 Try.sizeOf76 rfl rfl rfl rfl (i := i) rfl hi2) rfl ?_
      refine w_p (y_fieldAddr (o := 5) (i := 5) Try.underlying76 rfl Try.sizeOf39 rfl rfl rfl) rfl ?_
      refine w_p (yd_slice hbz (y_load1 Try.isAgg39 hs.drop.tail rfl rfl (show Ats _ _ _ _ [_] from Ats.part hx 5 1))) rfl ?_
      refine w_p (y_move (v := .int _ _) rfl rfl) rfl ?_
      refine w_p (y_indexS Try.underlying39 Try.sizeOf3 rfl rfl rfl rfl (i := k) rfl hkl) rfl ?_
      refine w_p (y_load1 Try.isAgg3 hs.drop.tail rfl rfl hz) rfl ?_
      refine w_p (y_neq rfl rfl rfl rfl) rfl ?_
      refine w_nil ?_
      refine q_then (hK34 _ _ ?_)
      refine w_cond rfl rfl (fun h36 => ?_) (fun h36 => ?_)
      ·
       try simp only [zA, zB, zC, zD, zE, zF] at h36
       refine w_region ?_
       refine w_p (y_move (v := v) rfl rfl) rfl ?_
       refine w_p (y_move (v := .int _ _) rfl rfl) rfl ?_
       refine w_p (y_fieldAddr (o := 1) (i := 1) Try.underlying25 rfl Try.sizeOf22 rfl rfl rfl) rfl ?_
       refine w_p (y_load1 Try.isAgg22 hs.drop rfl rfl (show Ats _ _ _ _ [_] from Ats.part hbx 1 1)) rfl ?_
       refine w_p (y_lenS Try.underlying22 rfl rfl) rfl ?_
       refine w_p (yd_cast (z' := ((i * b.hours.length : Nat) : Int)) hmi (y_mul rfl rfl rfl rfl (by omega) (by omega))) rfl ?_
       refine w_p (y_move (v := .int _ _) rfl rfl) rfl ?_
       refine w_p (yd_cast (z' := ((i * b.hours.length + k : Nat) : Int)) (by omega) (y_add rfl rfl rfl rfl (by omega) (by omega))) rfl ?_
       refine w_bslice (ps := [(0, _)]) (pv := [(0, .int _ _)]) (cs := [_]) want_none rfl rfl (fun w => Try_Zc_fb8 _ w) hs (fun b37 w38 hs39 => ?_)
       refine w_append (X := (_ :: [])) (B := OB) (rows := [[_]]) (sz := 1) (bytes := 8) want_none Try.underlying39 Try_info3 rfl rfl rfl rfl rfl rfl rfl rfl rfl hs39 hown (sl_own (i := 0) rfl (by simp) rfl) rfl (by simp) (by simp [Value.oneCell']) (by simp only [maxLen]; omega) (by omega) (fun v40 w41 B42 ho43 hs44 => ?_)
       replace hs44 := (show St _ _ (_ :: B42 ++ (_ :: F)) from hs44)
       refine w_p (y_assign (v := v40) rfl rfl) rfl ?_
       refine w_nil ?_
       refine q_blk_normal ?_
       refine q_then (hK32 _ _ ?_)
       refine w_region ?_
       refine w_p (y_move (v := .int _ _) rfl rfl) rfl ?_
       refine w_p (y_add rfl rfl rfl rfl (by omega) (by omega)) rfl ?_
       refine w_p (y_assign (v := .int _ _) rfl rfl) rfl ?_
       refine w_nil ?_
       refine q_then (hN24 _ _ (Nx.intro (b.hours.length - (k + 1)) (by omega) (by repeat (first | exact agree_mix | refine agree_upd rfl ?_ | refine agree_updL rfl ?_ _ | refine agree_mixin rfl ?_)) ?_))
       exact ⟨k + 1, _, _, rfl, by omega, rfl, own_num (b := b) (k := i * b.hours.length + k) ho43 rfl (by rw [hsa, hgd]; omega), hs44.tail⟩
      ·
       try simp only [zA, zB, zC, zD, zE, zF] at h36
       refine w_skip ?_
       refine q_blk_normal ?_
       refine q_then (hK32 _ _ ?_)
       refine w_region ?_
       refine w_p (y_move (v := .int _ _) rfl rfl) rfl ?_
       refine w_p (y_add rfl rfl rfl rfl (by omega) (by omega)) rfl ?_
       refine w_p (y_assign (v := .int _ _) rfl rfl) rfl ?_
       refine w_nil ?_
       refine q_then (hN24 _ _ (Nx.intro (b.hours.length - (k + 1)) (by omega) (by repeat (first | exact agree_mix | refine agree_upd rfl ?_ | refine agree_updL rfl ?_ _ | refine agree_mixin rfl ?_)) ?_))
       exact ⟨k + 1, v, OB, rfl, by omega, rfl, by rw [show i * b.hours.length + (k + 1) = (i * b.hours.length + k) + 1 by omega, numsTo_n (by rw [hsa, hgd]; omega)]; exact hown, hs⟩
     ·
      try simp only [zA, zB, zC, zD, zE, zF] at h31
      refine w_exit ?_
      refine q_then_exit ?_
      refine q_then_exit ?_
      refine q_blk_this ?_
      refine q_blk_normal ?_
      refine q_then (hK20 _ _ ?_)
      refine w_region ?_
      refine w_p (y_move (v := .int _ _) rfl rfl) rfl ?_
      refine w_p (y_add rfl rfl rfl rfl (by omega) (by omega)) rfl ?_
      refine w_p (y_assign (v := .int _ _) rfl rfl) rfl ?_
      refine w_nil ?_
      refine q_then (hN12 _ _ (Nx.intro (b.ctrs.length - (i + 1)) (by omega) (by repeat (first | exact agree_mix | refine agree_upd rfl ?_ | refine agree_updL rfl ?_ _ | refine agree_mixin rfl ?_)) ?_))
      exact ⟨i + 1, v, OB, rfl, by omega, rfl, by rw [← row_nx (k := k) (by omega) (by omega)]; exact hown, hs⟩
   ·
    try simp only [zA, zB, zC, zD, zE, zF] at h19
    refine w_exit ?_
    refine q_then_exit ?_
    refine q_then_exit ?_
    refine q_blk_this ?_
    refine q_then (hK8 _ _ ?_)
    refine w_seq (fun K46 hK45 => ?_)
    refine w_region ?_
    refine w_p (y_move (v := v) rfl rfl) rfl ?_
    refine w_p (y_assign (v := v) rfl rfl) rfl ?_
    refine w_nil ?_
    refine q_then (hK45 _ _ ?_)
    refine w_ret ?_
    refine q_ret (l := [.tmp 2]) (vs := [_]) rfl ⟨⟨rfl, show _ = (v : Value) from rfl⟩, trivial⟩ ?_
    have hin : i = b.ctrs.length := by omega
    subst hin
    exact ⟨OB, by rw [show nums b = numsTo b (b.ctrs.length * b.hours.length) by unfold nums numsTo mN; rw [Nat.mul_comm]]; exact hown, kq_own hs⟩

end Go.Proofs
/- Walks of this seat, printed by gen.py over the engine: what each function returns, in whatever world. No conditions but those of each contract. -/
set_option linter.unusedVariables false
set_option linter.unusedSimpArgs false
set_option maxRecDepth 20000
namespace Go.Proofs
open Go.Rt Go.Rt.Ch
open Go.Rt.Ha (firstE firstE_step firstE_stop firstE_end failE nameE felt spanL upto span_mem listL fewest fewTo bit before fewStep drop_lt drop_get drop_next drop_done drop_notin set_take set_zero take_less Lot Bunch feltTo fTo fPart felt_zero felt_step fTo_succ fTo_len fPart_succ fPart_len fPart_all filt_yes filt_no upto_len at_ someOf choicesTo cfind_here cfind_next cfind_on choices_fin)
attribute [local irreducible] WL WC Con Yd At Ats Sl Agree DW
theorem Try_Zd_fb8  (w : World) : (Instr.buildSlice 39 0 [].toArray).run Try.prog w = .ok (.slice (some ⟨w.heap.size, 0, none⟩) 0 0) (w.alloc (Go.Rt.blk 3 [])) := by kernel_rfl
theorem Try_Zd_fb9 (x0 : ByteArray) (x1 : Int) (x2 : Int) (x3 : Int) (x4 : Option Addr) (l4 c4 : Nat) (x5 : Option Addr) (l5 c5 : Nat) (w : World) : (Instr.buildSlice 23 1 [(0, .agg #[.string x0, .int .i64 x1, .int .i64 x2, .int .i64 x3, .slice x4 l4 c4, .slice x5 l5 c5])].toArray).run Try.prog w = .ok (.slice (some ⟨w.heap.size, 0, none⟩) 1 1) (w.alloc (Go.Rt.blk 76 [.string x0, .int .i64 x1, .int .i64 x2, .int .i64 x3, .slice x4 l4 c4, .slice x5 l5 c5])) := by kernel_rfl
theorem has_bit {s m : Nat} {z : Nat} (hz : z < m) : hasI (listL s m) (z : Int) = decide (bit s z = 1) := by
  rw [Bool.eq_iff_iff, hasI_mem, mem_listL, decide_eq_true_eq]
  constructor
  · rintro ⟨i, e, _, h⟩
    have : z = i := by omega
    rw [this]; exact h
  · intro h; exact ⟨z, rfl, hz, h⟩
def BT (b : Board) (s i : Nat) : List Ctr := (butB b s).ctrs.take i
theorem BT_len {b : Board} {s i : Nat} (h : i ≤ b.ctrs.length) : (BT b s i).length = i := by unfold BT; rw [List.length_take, butB_len]; omega
theorem BT_next {b : Board} {s i : Nat} (h : i < b.ctrs.length) : BT b s (i + 1) = BT b s i ++ [butC b.hours.length s i b.ctrs[i]] := by
  unfold BT; rw [List.take_succ_eq_append_getElem (by rw [butB_len]; exact h), butB_get h]
theorem krows_snoc {l : List Ctr} {c : Ctr} {q q2 : Nat → AtC} (h : ∀ j, j < l.length → q2 j = q j) : krows (l ++ [c]) q2 = krows l q ++ [c.cells (q2 l.length)] := by
  unfold krows
  rw [List.mapIdx_append]
  congr 1
  · apply List.ext_getElem
    · simp
    · intro j h1 h2
      have hj : j < l.length := by simpa using h1
      simp [h j hj]
  · simp
theorem own_brow {b : Board} {s i c2 : Nat} {a2 : Option Addr} {v : Value} {NB : List (Nat × Obj)} {p : AtB} {qc : Nat → AtC} (hq : QC p qc i) (hi : i < b.ctrs.length) (h : Rt.Own v 76 6 (i + 1) ((krows (BT b s i) qc).flatten ++ [[Value.string b.ctrs[i].name, .int .i64 b.ctrs[i].skip, .int .i64 b.ctrs[i].twice, .int .i64 b.ctrs[i].start, .slice (p.pc i).az b.ctrs[i].zero.length (p.pc i).cz, .slice a2 b.ctrs[i].shown.length c2]].flatten) NB) : Rt.Own v 76 6 (i + 1) (krows (BT b s (i + 1)) (setPc qc i a2 c2)).flatten NB := by
  rw [BT_next hi, krows_snoc (q := qc) (fun j hj => by rw [BT_len (by omega)] at hj; unfold setPc; rw [if_neg (by omega)]), BT_len (by omega), List.flatten_append]
  have e : (butC b.hours.length s i b.ctrs[i]).cells (setPc qc i a2 c2 i) = [Value.string b.ctrs[i].name, .int .i64 b.ctrs[i].skip, .int .i64 b.ctrs[i].twice, .int .i64 b.ctrs[i].start, .slice (p.pc i).az b.ctrs[i].zero.length (p.pc i).cz, .slice a2 b.ctrs[i].shown.length c2] := by
    unfold setPc
    rw [if_pos rfl]
    simp only [Ctr.cells, butC_slen]
    rw [(hq.2 i).1, (hq.2 i).2]
    rfl
  rw [e]
  exact h
theorem perm_bt {w0 w : World} {A B C R : List (Nat × Obj)} (h : St w0 w (A ++ (B ++ (C ++ R)))) : St w0 w (B ++ ((A ++ C) ++ R)) := by
  have h2 := h.perm (perm_mid A B (C ++ R))
  rw [List.append_assoc]; exact h2
theorem perm_2b {w0 w : World} {A C R : List (Nat × Obj)} {x y : Nat × Obj} (h : St w0 w (A ++ (C ++ (x :: y :: R)))) : St w0 w (x :: y :: (A ++ (C ++ R))) := by
  have h2 := St.perm (L := (A ++ C) ++ ([x, y] ++ R)) (by rw [List.append_assoc]; exact h) (perm_mid (A ++ C) [x, y] R)
  have h3 : St w0 w (x :: y :: ((A ++ C) ++ R)) := h2
  rw [List.append_assoc] at h3; exact h3
theorem c43 {w0 w : World} {F : List (Nat × Obj)} (b : Board) (p : AtB) (hm : BIn w0 F b p) (hok : b.Ok) (hnl : ∀ i, i < b.ctrs.length → (p.pc i).as = none → (p.pc i).cs = 0) (s : Nat) (al : Option Addr) (cl : Nat) (l : List Int) (hls : l = listL s (mN b)) (hll : l.length ≤ 9223372036854775807) (hl : Sl w0 F al 1 (l.map fun x => [Value.int .i64 x])) (hs : St w0 w F) :
  Con Try.prog 43 [.agg (b.cells p).toArray, .slice al l.length cl] w fun v w' => ∃ p2 B, v = .agg ((butB b s).cells p2).toArray ∧ BIn w0 (B ++ F) (butB b s) p2 ∧ St w0 w' (B ++ F) := by
  refine con_of_wc (n := 53) Try.func43 rfl rfl (Nat.le_of_ble_eq_true rfl) ?_
  have hlh := hok.lh
  have hlc := hok.lc
  refine w_seq (fun K2 hK1 => ?_)
  refine w_region ?_
  refine w_box (v := .agg #[.int _ _, .slice _ _ _, .slice _ _ _]) (cs := [_, _, _]) want_none rfl rfl rfl hs (fun b3 w4 hs5 => ?_)
  refine w_alloc (cs := [_, _, _]) want_none Try.zeroValue25 rfl hs5 (fun b6 w7 hs8 => ?_)
  refine w_nil ?_
  refine q_then (hK1 _ _ ?_)
  refine w_seq (fun K10 hK9 => ?_)
  have hbx := ats_ofK (i := 1) (vs := b.cells p) hs8 rfl rfl
  refine w_region ?_
  refine w_p (y_assign (v := _) rfl rfl) rfl ?_
  refine w_nil ?_
  refine q_then (hK9 _ _ ?_)
  refine w_seq (fun K12 hK11 => ?_)
  refine w_seq (fun K14 hK13 => ?_)
  refine w_region ?_
  refine w_p (y_assign (v := _) rfl rfl) rfl ?_
  refine w_nil ?_
  refine q_then (hK13 _ _ ?_)
  refine w_block ?_
  refine w_loop [5, 6, 7, 8, 9, 10, 11, 12, 13, 14, 15, 16, 17, 18, 19, 20, 21, 22, 23, 24, 25, 26, 27, 28, 29, 30, 31, 32, 33, 34, 35, 36, 37, 38, 39, 40, 41, 42, 43, 44, 45, 46, 47, 48, 49] [5, 6] (fun kk vs0 w => ∃ (i : Nat) (v : Value) (NB DB : List (Nat × Obj)) (qc : Nat → AtC), vs0 = [v, .int .i64 i] ∧ i ≤ b.ctrs.length ∧ kk = b.ctrs.length - i ∧ Rt.Own v 76 6 i (krows (BT b s i) qc).flatten NB ∧ QC p qc i ∧ DS w0 DB b s qc i ∧ St w0 w (NB ++ (DB ++ ((b6, blk 25 [.int .i64 0, .slice none 0 0, .slice none 0 0]) :: (b3, blk 25 (b.cells p)) :: F)))) (b.ctrs.length) ?_ ?_
  ·
   exact ⟨0, _, [], [], p.pc, rfl, by omega, by omega, own_nil 76 6, qc_zero p, ds_zero w0 b s _, hs8⟩
  ·
   intro k vs μ w17 hI K16 hN15
   clear hs
   obtain ⟨i, v, NB, DB, qc, rfl, hia, rfl, hown, hqc, hds, hs⟩ := hI
   refine w_seq (fun K19 hK18 => ?_)
   refine w_seq (fun K21 hK20 => ?_)
   refine w_region ?_
   refine w_p (y_move (v := .int _ _) rfl rfl) rfl ?_
   refine w_p (y_fieldAddr (o := 2) (i := 2) Try.underlying25 rfl Try.sizeOf23 rfl rfl rfl) rfl ?_
   refine w_p (y_load1 Try.isAgg23 hs.drop.drop rfl rfl (show Ats _ _ _ _ [_] from Ats.part hbx 2 1)) rfl ?_
   refine w_p (y_lenS Try.underlying23 rfl rfl) rfl ?_
   refine w_p (y_lss rfl rfl rfl rfl) rfl ?_
   refine w_nil ?_
   refine q_then (hK20 _ _ ?_)
   refine w_cond rfl rfl (fun h22 => ?_) (fun h22 => ?_)
   ·
    try simp only [zA, zB, zC, zD, zE, zF] at h22
    refine w_skip ?_
    refine q_then (hK18 _ _ ?_)
    refine w_seq (fun K24 hK23 => ?_)
    refine w_block ?_
    refine w_seq (fun K26 hK25 => ?_)
    have hi2 : i < b.ctrs.length := by omega
    have hci := hok.ctr _ (List.getElem_mem hi2)
    have hlz := hci.ls
    obtain ⟨bx, ox, hbx2, hx⟩ := sl_krows hm.c hi2
    refine w_region ?_
    refine w_p (y_fieldAddr (o := 2) (i := 2) Try.underlying25 rfl Try.sizeOf23 rfl rfl rfl) rfl ?_
    refine w_p (yd_slice hbx2 (y_load1 Try.isAgg23 hs.drop.drop rfl rfl (show Ats _ _ _ _ [_] from Ats.part hbx 2 1))) rfl ?_
    refine w_p (y_move (v := .int _ _) rfl rfl) rfl ?_
    refine w_p (y_indexS Try.underlying23 Try.sizeOf76 rfl rfl rfl rfl (i := i) rfl hi2) rfl ?_
    refine w_p (y_loadN (vs := [_, _, _, _, _, _]) Try.isAgg76 Try.sizeOf76 hs.drop.drop.tail.tail rfl rfl hx) rfl ?_
    refine w_alloc (cs := [_, _, _, _, _, _]) want_none Try.zeroValue76 rfl hs (fun b27 w28 hs29 => ?_)
    refine w_store (i := 0) (v := .agg #[.string _, .int _ _, .int _ _, .int _ _, .slice _ _ _, .slice _ _ _]) (vs := [_, _, _, _, _, _]) want_none Try.sizeOf76 rfl rfl rfl rfl rfl (by simp [Value.oneCell']) hs29 rfl (Nat.le_of_ble_eq_true rfl) (fun w30 hs31 => ?_)
    refine w_nil ?_
    refine q_then (hK25 _ _ ?_)
    refine w_seq (fun K33 hK32 => ?_)
    refine w_region ?_
    refine w_bslice (ps := []) (pv := []) (cs := []) want_none rfl rfl (fun w => Try_Zd_fb8  w) hs31 (fun b34 w35 hs36 => ?_)
    refine w_p (y_fieldAddr (o := 5) (i := 5) Try.underlying76 rfl Try.sizeOf39 rfl rfl rfl) rfl ?_
    refine w_p (y_load1 Try.isAgg39 hs36 rfl rfl (ats_own (i := 1) (vs := [_]) rfl rfl)) rfl ?_
    refine w_append (X := ([])) (B := [_]) (rows := ((b.ctrs[i]'hi2).shown.map fun x => [Value.int .i64 x])) (sz := 1) (bytes := 8) want_none Try.underlying39 Try_info3 rfl rfl rfl rfl rfl rfl rfl rfl rfl hs36 own_made (hm.s i hi2).cons.cons.app.app.cons.cons (by simp) (hnl i hi2) (ints1_one _) (by simp only [maxLen]; omega) (by omega) (fun v37 w38 B39 ho40 hs41 => ?_)
    replace hs41 := (show St _ _ (B39 ++ (_ :: NB ++ (DB ++ (_ :: _ :: F)))) from hs41)
    have hs42 := (show St _ _ (B39 ++ ([_] ++ (NB ++ (DB ++ ((b6, blk 25 [.int .i64 0, .slice none 0 0, .slice none 0 0]) :: (b3, blk 25 (b.cells p)) :: F))))) from hs41).perm (perm_mid B39 [_] _)
    replace hs42 := (show St _ _ (_ :: (B39 ++ (NB ++ (DB ++ ((b6, blk 25 [.int .i64 0, .slice none 0 0, .slice none 0 0]) :: (b3, blk 25 (b.cells p)) :: F))))) from hs42)
    have hown2 : Rt.Own v37 3 1 (b.ctrs[i]'hi2).shown.length (iv (b.ctrs[i]'hi2).shown) B39 := by
      have h9 := ho40
      rw [Nat.zero_add, List.nil_append, ints_rows] at h9
      exact h9
    obtain ⟨a2, c2, rfl⟩ := hown2.slice
    replace hs42 := (show St _ _ (_ :: B39 ++ (NB ++ (DB ++ (_ :: _ :: F)))) from hs42)
    refine w_p (y_fieldAddr (o := 5) (i := 5) Try.underlying76 rfl Try.sizeOf39 rfl rfl rfl) rfl ?_
    refine w_store (i := 0) (v := .slice _ _ _) (vs := [_]) want_none Try.sizeOf39 rfl rfl rfl rfl rfl (by simp [Value.oneCell']) hs42 rfl (Nat.le_of_ble_eq_true rfl) (fun w43 hs44 => ?_)
    refine w_nil ?_
    refine q_then (hK32 _ _ ?_)
    refine w_seq (fun K46 hK45 => ?_)
    refine w_seq (fun K48 hK47 => ?_)
    refine w_region ?_
    refine w_p (y_assign (v := _) rfl rfl) rfl ?_
    refine w_nil ?_
    refine q_then (hK47 _ _ ?_)
    refine w_block ?_
    refine w_loop [8, 26, 27, 28, 29, 30, 31, 32, 33, 34, 35, 36, 37, 38, 39, 40, 41, 42, 43, 44, 45] [8] (fun kk vs0 w => ∃ (k : Nat) (SB : List (Nat × Obj)), vs0 = [.int .i64 k] ∧ k ≤ b.hours.length ∧ kk = b.hours.length - k ∧ Rt.Own (.slice a2 (b.ctrs[i]'hi2).shown.length c2) 3 1 (b.ctrs[i]'hi2).shown.length (iv (shPart b.hours.length s i k (b.ctrs[i]'hi2).shown)) SB ∧ St w0 w ((b27, blk 76 [Value.string (b.ctrs[i]'hi2).name, .int .i64 (b.ctrs[i]'hi2).skip, .int .i64 (b.ctrs[i]'hi2).twice, .int .i64 (b.ctrs[i]'hi2).start, .slice (p.pc i).az (b.ctrs[i]'hi2).zero.length (p.pc i).cz, .slice a2 (b.ctrs[i]'hi2).shown.length c2]) :: (SB ++ (NB ++ (DB ++ ((b6, blk 25 [.int .i64 0, .slice none 0 0, .slice none 0 0]) :: (b3, blk 25 (b.cells p)) :: F)))))) (b.hours.length) ?_ ?_
    ·
     exact ⟨0, _, rfl, by omega, by omega, by rw [shPart_zero]; exact hown2, hs44⟩
    ·
     intro k vs μ w51 hI K50 hN49
     clear hs hown2
     obtain ⟨k, SB, rfl, hka, rfl, hown2, hs⟩ := hI
     refine w_seq (fun K53 hK52 => ?_)
     refine w_seq (fun K55 hK54 => ?_)
     refine w_region ?_
     refine w_p (y_move (v := .int _ _) rfl rfl) rfl ?_
     refine w_p (y_fieldAddr (o := 5) (i := 5) Try.underlying76 rfl Try.sizeOf39 rfl rfl rfl) rfl ?_
     refine w_p (y_load1 Try.isAgg39 hs rfl rfl (ats_own (i := 0) (vs := [_]) rfl rfl)) rfl ?_
     refine w_p (y_lenS Try.underlying39 rfl rfl) rfl ?_
     refine w_p (y_lss rfl rfl rfl rfl) rfl ?_
     refine w_nil ?_
     refine q_then (hK54 _ _ ?_)
     refine w_cond rfl rfl (fun h56 => ?_) (fun h56 => ?_)
     ·
      try simp only [zA, zB, zC, zD, zE, zF] at h56
      refine w_skip ?_
      refine q_then (hK52 _ _ ?_)
      refine w_seq (fun K58 hK57 => ?_)
      refine w_block ?_
      refine w_seq (fun K60 hK59 => ?_)
      have hmi : ((i : Int) * (b.hours.length : Int)) = ((i * b.hours.length : Nat) : Int) := by push_cast; rfl
      have hk2 : k < b.hours.length := by omega
      have hm8 := mul_in8 hlh hlc hi2 hk2
      have hmn : i * b.hours.length + k < mN b := by
        unfold mN
        have h1 : (i + 1) * b.hours.length ≤ b.ctrs.length * b.hours.length := Nat.mul_le_mul_right _ hi2
        rw [Nat.succ_mul] at h1
        rw [Nat.mul_comm b.hours.length]; omega
      refine w_region ?_
      refine w_p (y_move (v := .slice _ _ _) rfl rfl) rfl ?_
      refine w_p (y_move (v := .int _ _) rfl rfl) rfl ?_
      refine w_p (y_fieldAddr (o := 1) (i := 1) Try.underlying25 rfl Try.sizeOf22 rfl rfl rfl) rfl ?_
      refine w_p (y_load1 Try.isAgg22 hs.tail.drop.drop.drop rfl rfl (show Ats _ _ _ _ [_] from Ats.part hbx 1 1)) rfl ?_
      refine w_p (y_lenS Try.underlying22 rfl rfl) rfl ?_
      refine w_p (yd_cast (z' := ((i * b.hours.length : Nat) : Int)) hmi (y_mul rfl rfl rfl rfl (by omega) (by omega))) rfl ?_
      refine w_p (y_move (v := .int _ _) rfl rfl) rfl ?_
      refine w_p (yd_cast (z' := ((i * b.hours.length + k : Nat) : Int)) (by omega) (y_add rfl rfl rfl rfl (by omega) (by omega))) rfl ?_
      refine w_call want_none Try.call42 rfl rfl rfl rfl ((c42 al cl l hll hl.cons.cons.app.app.app.cons ((i * b.hours.length + k : Nat) : Int) hs).mono (fun v w' h => And.intro (h.1.trans (congrArg Value.bool (show hasI l ((i * b.hours.length + k : Nat) : Int) = decide (bit s (i * b.hours.length + k) = 1) from by rw [hls]; exact has_bit hmn))) h.2)) ?_
      rintro _ w62 ⟨rfl, hs63⟩
      refine w_nil ?_
      refine q_then (hK59 _ _ ?_)
      refine w_cond rfl rfl (fun h64 => ?_) (fun h64 => ?_)
      ·
       try simp only [zA, zB, zC, zD, zE, zF] at h64
       have hk3 : k < b.hours.length := by omega
       obtain ⟨d, cs2, rfl, rfl, hcap2, hcapm2, hcl2, htk2⟩ := own_some2 hown2 (by omega)
       replace hs63 := (show St _ _ (_ :: _ :: NB ++ (DB ++ (_ :: _ :: F))) from hs63)
       refine w_region ?_
       refine w_p (y_fieldAddr (o := 5) (i := 5) Try.underlying76 rfl Try.sizeOf39 rfl rfl rfl) rfl ?_
       refine w_p (y_load1 Try.isAgg39 hs63 rfl rfl (ats_own (i := 0) (vs := [_]) rfl rfl)) rfl ?_
       refine w_p (y_move (v := .int _ _) rfl rfl) rfl ?_
       refine w_p (y_indexS Try.underlying39 Try.sizeOf3 rfl rfl rfl rfl (i := k) rfl (by omega)) rfl ?_
       refine w_store (i := 1) (v := .int _ _) (vs := [_]) want_none Try.sizeOf3 rfl rfl rfl rfl rfl (by simp [Value.oneCell']) hs63 rfl (by show 0 + k * 1 + 1 ≤ cs2.length; omega) (fun w65 hs66 => ?_)
       refine w_nil ?_
       refine q_blk_normal ?_
       refine q_then (hK57 _ _ ?_)
       refine w_region ?_
       refine w_p (y_move (v := .int _ _) rfl rfl) rfl ?_
       refine w_p (y_add rfl rfl rfl rfl (by omega) (by omega)) rfl ?_
       refine w_p (y_assign (v := .int _ _) rfl rfl) rfl ?_
       refine w_nil ?_
       refine q_then (hN49 _ _ (Nx.intro (b.hours.length - (k + 1)) (by omega) (by repeat (first | exact agree_mix | refine agree_upd rfl ?_ | refine agree_updL rfl ?_ _ | refine agree_mixin rfl ?_)) ?_))
       exact ⟨k + 1, [(d, blk 3 (setMany cs2 (0 + k * 1) [.int .i64 (-1)]))], rfl, by omega, rfl, own_mk (by rw [List.length_map, shPart_len]; omega) hcap2 hcapm2 (by rw [setMany_len]; exact hcl2) (by rw [← shPart_yes (by omega) (by assumption)]; exact take_put htk2), hs66⟩
      ·
       try simp only [zA, zB, zC, zD, zE, zF] at h64
       refine w_skip ?_
       refine q_blk_normal ?_
       refine q_then (hK57 _ _ ?_)
       refine w_region ?_
       refine w_p (y_move (v := .int _ _) rfl rfl) rfl ?_
       refine w_p (y_add rfl rfl rfl rfl (by omega) (by omega)) rfl ?_
       refine w_p (y_assign (v := .int _ _) rfl rfl) rfl ?_
       refine w_nil ?_
       refine q_then (hN49 _ _ (Nx.intro (b.hours.length - (k + 1)) (by omega) (by repeat (first | exact agree_mix | refine agree_upd rfl ?_ | refine agree_updL rfl ?_ _ | refine agree_mixin rfl ?_)) ?_))
       exact ⟨k + 1, SB, rfl, by omega, rfl, by rw [← shPart_no (by have := bit_lt2 s (i * b.hours.length + k); omega)]; exact hown2, hs63⟩
     ·
      try simp only [zA, zB, zC, zD, zE, zF] at h56
      refine w_exit ?_
      refine q_then_exit ?_
      refine q_then_exit ?_
      refine q_blk_this ?_
      refine q_then (hK45 _ _ ?_)
      refine w_region ?_
      refine w_p (y_move (v := v) rfl rfl) rfl ?_
      refine w_p (y_loadN (vs := [_, _, _, _, _, _]) Try.isAgg76 Try.sizeOf76 hs rfl rfl (ats_own (i := 0) (vs := [_, _, _, _, _, _]) rfl rfl)) rfl ?_
      refine w_bslice (ps := [(0, _)]) (pv := [(0, .agg #[.string _, .int _ _, .int _ _, .int _ _, .slice _ _ _, .slice _ _ _])]) (cs := [_, _, _, _, _, _]) want_none rfl rfl (fun w => Try_Zd_fb9 _ _ _ _ _ _ _ _ _ _ w) hs (fun b67 w68 hs69 => ?_)
      refine w_append (X := (_ :: _ :: SB)) (B := NB) (rows := [[_, _, _, _, _, _]]) (sz := 6) (bytes := 88) want_none Try.underlying23 Try_info76 rfl rfl rfl rfl rfl rfl rfl rfl rfl hs69 hown (sl_own (i := 0) rfl (by simp) rfl) rfl (by simp) (by simp [Value.oneCell']) (by simp only [maxLen]; omega) (by omega) (fun v70 w71 B72 ho73 hs74 => ?_)
      replace hs74 := (show St _ _ (_ :: _ :: SB ++ (B72 ++ (DB ++ (_ :: _ :: F)))) from hs74)
      refine w_p (y_assign (v := v70) rfl rfl) rfl ?_
      refine w_nil ?_
      refine q_blk_normal ?_
      refine q_then (hK23 _ _ ?_)
      refine w_region ?_
      refine w_p (y_move (v := .int _ _) rfl rfl) rfl ?_
      refine w_p (y_add rfl rfl rfl rfl (by omega) (by omega)) rfl ?_
      refine w_p (y_assign (v := .int _ _) rfl rfl) rfl ?_
      refine w_nil ?_
      refine q_then (hN15 _ _ (Nx.intro (b.ctrs.length - (i + 1)) (by omega) (by repeat (first | exact agree_mix | refine agree_upd rfl ?_ | refine agree_updL rfl ?_ _ | refine agree_mixin rfl ?_)) ?_))
      have hsl2 := own_int_sl (w0 := w0) hown2 (shPart_len _ _ _ _ _)
      rw [shPart_all (by omega)] at hsl2
      exact ⟨i + 1, _, _, SB ++ DB, setPc qc i a2 c2, rfl, by omega, rfl, own_brow hqc hi2 ho73, hqc.next _ _, hds.next hi2 hsl2.1 hsl2.2, perm_bt hs74.tail.tail⟩
   ·
    try simp only [zA, zB, zC, zD, zE, zF] at h22
    refine w_exit ?_
    refine q_then_exit ?_
    refine q_then_exit ?_
    refine q_blk_this ?_
    refine q_then (hK11 _ _ ?_)
    refine w_seq (fun K76 hK75 => ?_)
    have hin : i = b.ctrs.length := by omega
    subst hin
    obtain ⟨aC, cC, rfl⟩ := hown.slice
    have hs77 := perm_2b hs
    replace hs77 := (show St _ _ (_ :: _ :: NB ++ (DB ++ (F))) from hs77)
    refine w_region ?_
    refine w_p (y_move (v := .slice _ _ _) rfl rfl) rfl ?_
    refine w_p (y_fieldAddr (o := 2) (i := 2) Try.underlying25 rfl Try.sizeOf23 rfl rfl rfl) rfl ?_
    refine w_store (i := 1) (v := .slice _ _ _) (vs := [_]) want_none Try.sizeOf23 rfl rfl rfl rfl rfl (by simp [Value.oneCell']) hs77 rfl (Nat.le_of_ble_eq_true rfl) (fun w78 hs79 => ?_)
    refine w_nil ?_
    refine q_then (hK75 _ _ ?_)
    refine w_seq (fun K81 hK80 => ?_)
    refine w_region ?_
    refine w_p (y_loadN (vs := [_, _, _]) Try.isAgg25 Try.sizeOf25 hs79 rfl rfl (ats_own (i := 1) (vs := [_, _, _]) rfl rfl)) rfl ?_
    refine w_store (i := 0) (v := .agg #[.int _ _, .slice _ _ _, .slice _ _ _]) (vs := [_, _, _]) want_none Try.sizeOf25 rfl rfl rfl rfl rfl (by simp [Value.oneCell']) hs79 rfl (Nat.le_of_ble_eq_true rfl) (fun w82 hs83 => ?_)
    refine w_nil ?_
    refine q_then (hK80 _ _ ?_)
    refine w_ret ?_
    refine q_ret (l := [.cell 4 25]) (vs := [_]) rfl ⟨⟨rfl, _, rfl, run_loadVarN (vs := [_, _, _]) Try.isAgg25 Try.sizeOf25 hs83 (ats_own (i := 0) (vs := [_, _, _]) rfl rfl)⟩, trivial⟩ ?_
    have hb := but_bin (i := b.ctrs.length) hm (Nat.le_refl _) (by rw [BL_all (Nat.le_refl _)]; rw [show BT b s b.ctrs.length = (butB b s).ctrs by unfold BT; rw [List.take_of_length_le (by rw [butB_len]; exact Nat.le_refl _)]] at hown; exact hown) hqc hds
    exact ⟨⟨p.ah, p.ch, aC, cC, qc⟩, NB ++ DB, by simp only [Board.cells, butB_len]; rfl, by rw [List.append_assoc]; exact hb, by rw [List.append_assoc]; exact hs83.tail.tail⟩

end Go.Proofs
/- Walks of this seat, printed by gen.py over the engine: what each function returns, in whatever world. No conditions but those of each contract. -/
set_option linter.unusedVariables false
set_option linter.unusedSimpArgs false
set_option maxRecDepth 20000
namespace Go.Proofs
open Go.Rt Go.Rt.Ch
open Go.Rt.Ha (firstE firstE_step firstE_stop firstE_end failE nameE felt spanL upto span_mem listL fewest fewTo bit before fewStep drop_lt drop_get drop_next drop_done drop_notin set_take set_zero take_less Lot Bunch feltTo fTo fPart felt_zero felt_step fTo_succ fTo_len fPart_succ fPart_len fPart_all filt_yes filt_no upto_len at_ someOf choicesTo cfind_here cfind_next cfind_on choices_fin pick_idx pickL_in find_on find_next)
attribute [local irreducible] WL WC Con Yd At Ats Sl Agree DW
theorem Try_Ze_fb8 (x0 : Int) (w : World) : (Instr.buildSlice 39 1 [(0, .int .i64 x0)].toArray).run Try.prog w = .ok (.slice (some ⟨w.heap.size, 0, none⟩) 1 1) (w.alloc (Go.Rt.blk 3 [.int .i64 x0])) := by kernel_rfl
theorem own_snocI {v : Value} {l : List Int} {z : Int} {B : List (Nat × Obj)} (h : Rt.Own v 3 1 (l.length + 1) (iv l ++ [[Value.int .i64 z]].flatten) B) : Rt.Own v 3 1 (l ++ [z]).length (iv (l ++ [z])) B := by simpa [iv] using h
theorem wP_t {b : Board} {x : List Int} (h : (truths (butB b (numL x))).isEmpty = false) : wP b x = true := by unfold wP; rw [h]; rfl
theorem wP_f {b : Board} {x : List Int} (h : (truths (butB b (numL x))).isEmpty = true) : wP b x = false := by unfold wP; rw [h]; rfl
theorem wrongP_no {b : Board} (h : ¬ (check b).2.2 = 0) : wrongP b = ([], (check b).2.2) := by unfold wrongP; rw [if_pos h]
theorem c31 {w0 w : World} {F : List (Nat × Obj)} (b : Board) (p : AtB) (hm : BIn w0 F b p) (hnl : ∀ i, i < b.ctrs.length → (p.pc i).as = none → (p.pc i).cs = 0) (hs : St w0 w F) :
  Con Try.prog 31 [.agg (b.cells p).toArray] w fun v w' => ∃ B a' c', v = .tuple #[.slice a' (wrongP b).1.length c', .int .i64 (wrongP b).2] ∧ Sl w0 B a' 1 ((wrongP b).1.map fun x => [Value.int .i64 x]) ∧ St w0 w' (B ++ F) := by
  refine con_of_wc (n := 64) Try.func31 rfl rfl (Nat.le_of_ble_eq_true rfl) ?_
  refine w_seq (fun K2 hK1 => ?_)
  refine w_region ?_
  refine w_box (v := .agg #[.int _ _, .slice _ _ _, .slice _ _ _]) (cs := [_, _, _]) want_none rfl rfl rfl hs (fun b3 w4 hs5 => ?_)
  refine w_p (y_assign (v := _) rfl rfl) rfl ?_
  refine w_p (y_assign (v := _) rfl rfl) rfl ?_
  refine w_nil ?_
  refine q_then (hK1 _ _ ?_)
  refine w_seq (fun K7 hK6 => ?_)
  have hbx := ats_ofK (i := 0) (vs := b.cells p) hs5 rfl rfl
  refine w_region ?_
  refine w_p (y_loadN (vs := [_, _, _]) Try.isAgg25 Try.sizeOf25 hs5 rfl rfl hbx) rfl ?_
  refine w_call want_none Try.call17 rfl rfl rfl rfl (c17 b p hm.cons hs5) ?_
  rintro _ w9 ⟨rfl, hs10⟩
  refine w_p (y_move (v := .tuple _) rfl rfl) rfl ?_
  refine w_p (y_extract (v := .int _ _) rfl rfl rfl) rfl ?_
  refine w_p (y_extract (v := .int _ _) rfl rfl rfl) rfl ?_
  refine w_p (y_extract (v := .int _ _) rfl rfl rfl) rfl ?_
  refine w_p (y_assign (v := .int _ _) rfl rfl) rfl ?_
  refine w_p (y_assign (v := .int _ _) rfl rfl) rfl ?_
  refine w_p (y_assign (v := .int _ _) rfl rfl) rfl ?_
  refine w_nil ?_
  refine q_then (hK6 _ _ ?_)
  refine w_seq (fun K12 hK11 => ?_)
  refine w_seq (fun K14 hK13 => ?_)
  refine w_region ?_
  refine w_p (y_move (v := .int _ _) rfl rfl) rfl ?_
  refine w_p (y_neq rfl rfl rfl rfl) rfl ?_
  refine w_nil ?_
  refine q_then (hK13 _ _ ?_)
  refine w_cond rfl rfl (fun h15 => ?_) (fun h15 => ?_)
  ·
   try simp only [zA, zB, zC, zD, zE, zF] at h15
   refine w_seq (fun K17 hK16 => ?_)
   refine w_region ?_
   refine w_p (y_move (v := .int _ _) rfl rfl) rfl ?_
   refine w_p (y_assign (v := _) rfl rfl) rfl ?_
   refine w_p (y_assign (v := .int _ _) rfl rfl) rfl ?_
   refine w_nil ?_
   refine q_then (hK16 _ _ ?_)
   refine w_ret ?_
   refine q_then_ret ?_
   refine q_ret (l := [.tmp 2, .tmp 3]) (vs := [_, _]) rfl ⟨⟨rfl, show _ = (.slice _ _ _ : Value) from rfl⟩, ⟨rfl, show _ = (.int _ _ : Value) from rfl⟩, trivial⟩ ?_
   first
     | exact ⟨[], none, 0, by rw [wrongP_no (by assumption)]; rfl, by rw [wrongP_no (by assumption)]; exact Sl.nil _ _, hs10.tail⟩
     | (have hq := wrongP_some hck (sets_hereW (by omega) hf1 hf2 hq2 (wP_t (by assumption)))
        exact ⟨NB, aN, cN, by rw [hq]; rfl, by rw [hq]; exact hslN, kq_own (kq_opq (kq_opq hs10.drop))⟩)
     | (have hkn : k = (nums b).length := by omega
        subst hkn
        have hq := wrongP_none hck hf1
        exact ⟨FB, aF, cF, by rw [hq]; rfl, by rw [hq]; exact hslF, kq_own hs10⟩)
  ·
   try simp only [zA, zB, zC, zD, zE, zF] at h15
   refine w_skip ?_
   refine q_then (hK11 _ _ ?_)
   refine w_seq (fun K19 hK18 => ?_)
   have hck : (check b).2.2 = 0 := by assumption
   have hok := check_ok hck
   refine w_region ?_
   refine w_p (y_loadN (vs := [_, _, _]) Try.isAgg25 Try.sizeOf25 hs10 rfl rfl hbx) rfl ?_
   refine w_call want_none Try.call39 rfl rfl rfl rfl (c39 b p hm.cons hok hs10) ?_
   rintro _ w21 ⟨FB, hownF, hs22⟩
   replace hs22 := (show St _ _ (FB ++ (_ :: F)) from hs22)
   obtain ⟨aF, cF, rfl, hslF, _, _⟩ := own_ints (w0 := w0) hownF
   have hml := mN_le hok
   have hnl8 := nums_len b
   refine w_p (y_assign (v := .slice _ _ _) rfl rfl) rfl ?_
   refine w_nil ?_
   refine q_then (hK18 _ _ ?_)
   refine w_seq (fun K24 hK23 => ?_)
   refine w_seq (fun K26 hK25 => ?_)
   refine w_region ?_
   refine w_p (y_assign (v := _) rfl rfl) rfl ?_
   refine w_nil ?_
   refine q_then (hK25 _ _ ?_)
   refine w_block ?_
   refine w_loop [2, 3, 8, 9, 10, 11, 12, 24, 25, 26, 27, 28, 29, 30, 31, 32, 33, 34, 35, 36, 37, 38, 39, 40, 41, 42, 43, 44, 45, 46, 47, 48, 49, 50, 51, 52, 53, 54, 55, 56, 57, 58, 59, 60, 61, 62] [8] (fun kk vs0 w => ∃ (k : Nat), vs0 = [.int .i64 k] ∧ k ≤ (nums b).length ∧ kk = (nums b).length - k ∧ (setsTo (nums b) k).find? (wP b) = none ∧ St w0 w (FB ++ ((b3, blk 25 (b.cells p)) :: F))) ((nums b).length) ?_ ?_
   ·
    exact ⟨0, rfl, by omega, by omega, rfl, hs22⟩
   ·
    intro k vs μ w29 hI K28 hN27
    obtain ⟨k, rfl, hka, rfl, hf1, hs⟩ := hI
    refine w_seq (fun K31 hK30 => ?_)
    refine w_seq (fun K33 hK32 => ?_)
    refine w_region ?_
    refine w_p (y_move (v := .int _ _) rfl rfl) rfl ?_
    refine w_p (y_move (v := .slice _ _ _) rfl rfl) rfl ?_
    refine w_p (y_lenS Try.underlying39 rfl rfl) rfl ?_
    refine w_p (y_lss rfl rfl rfl rfl) rfl ?_
    refine w_nil ?_
    refine q_then (hK32 _ _ ?_)
    refine w_cond rfl rfl (fun h34 => ?_) (fun h34 => ?_)
    ·
     try simp only [zA, zB, zC, zD, zE, zF] at h34
     refine w_skip ?_
     refine q_then (hK30 _ _ ?_)
     refine w_seq (fun K36 hK35 => ?_)
     refine w_block ?_
     refine w_seq (fun K38 hK37 => ?_)
     have hk2 : k < (nums b).length := by omega
     have hcm := choices_max (below := (nums b).length) (i := k) (by omega) (by omega)
     have hcl := choices_len (below := (nums b).length) k
     refine w_region ?_
     refine w_p (y_move (v := .slice _ _ _) rfl rfl) rfl ?_
     refine w_p (y_lenS Try.underlying39 rfl rfl) rfl ?_
     refine w_p (y_move (v := .int _ _) rfl rfl) rfl ?_
     refine w_call want_none Try.call81 rfl rfl rfl rfl (c81 (nums b).length k (by omega) (by omega) hs) ?_
     rintro _ w40 ⟨CB, vc, ac, cc, rfl, hslC, helC, hs41⟩
     replace hs41 := (show St _ _ (CB ++ (FB ++ (_ :: F))) from hs41)
     refine w_p (y_assign (v := .slice _ _ _) rfl rfl) rfl ?_
     refine w_nil ?_
     refine q_then (hK37 _ _ ?_)
     refine w_seq (fun K43 hK42 => ?_)
     refine w_region ?_
     refine w_p (y_assign (v := _) rfl rfl) rfl ?_
     refine w_nil ?_
     refine q_then (hK42 _ _ ?_)
     refine w_block ?_
     refine w_loop [2, 3, 10, 11, 12, 34, 35, 36, 37, 38, 39, 40, 41, 42, 43, 44, 45, 46, 47, 48, 49, 50, 51, 52, 53, 54, 55, 56, 57, 58, 59, 60, 61, 62] [10] (fun kk vs0 w => ∃ (q : Nat), vs0 = [.int .i64 q] ∧ q ≤ (choices (nums b).length k).length ∧ kk = (choices (nums b).length k).length - q ∧ (((choices (nums b).length k).take q).map (pickL (nums b))).find? (wP b) = none ∧ St w0 w (CB ++ (FB ++ ((b3, blk 25 (b.cells p)) :: F)))) ((choices (nums b).length k).length) ?_ ?_
     ·
      exact ⟨0, rfl, by omega, by omega, rfl, hs41⟩
     ·
      intro k vs μ w46 hI K45 hN44
      obtain ⟨q, rfl, hqa, rfl, hf2, hs⟩ := hI
      refine w_seq (fun K48 hK47 => ?_)
      refine w_seq (fun K50 hK49 => ?_)
      refine w_region ?_
      refine w_p (y_move (v := .int _ _) rfl rfl) rfl ?_
      refine w_p (y_move (v := .slice _ _ _) rfl rfl) rfl ?_
      refine w_p (y_lenS Try.underlying66 rfl rfl) rfl ?_
      refine w_p (y_lss rfl rfl rfl rfl) rfl ?_
      refine w_nil ?_
      refine q_then (hK49 _ _ ?_)
      refine w_cond rfl rfl (fun h51 => ?_) (fun h51 => ?_)
      ·
       try simp only [zA, zB, zC, zD, zE, zF] at h51
       refine w_skip ?_
       refine q_then (hK47 _ _ ?_)
       refine w_seq (fun K53 hK52 => ?_)
       refine w_block ?_
       refine w_seq (fun K55 hK54 => ?_)
       have hq2 : q < (choices (nums b).length k).length := by omega
       obtain ⟨bx, ox, b2, c2, hac, hx0, hsx0, hnx⟩ := el_at hslC helC hq2
       subst hac
       have hx := hx0.top (F := (FB ++ ((b3, blk 25 (b.cells p)) :: F)))
       have hxl := (hcl _ (List.getElem_mem hq2)).1
       refine w_region ?_
       refine w_p (y_assign (v := _) rfl rfl) rfl ?_
       refine w_nil ?_
       refine q_then (hK54 _ _ ?_)
       refine w_seq (fun K57 hK56 => ?_)
       refine w_seq (fun K59 hK58 => ?_)
       refine w_region ?_
       refine w_p (y_assign (v := _) rfl rfl) rfl ?_
       refine w_nil ?_
       refine q_then (hK58 _ _ ?_)
       refine w_block ?_
       refine w_loop [11, 12, 40, 41, 42, 43, 44, 45, 46, 47, 48, 49, 50, 51, 52, 53, 54, 55, 56, 57] [11, 12] (fun kk vs0 w => ∃ (j : Nat) (v : Value) (NB : List (Nat × Obj)), vs0 = [v, .int .i64 j] ∧ j ≤ k ∧ kk = k - j ∧ Rt.Own v 3 1 ((pickL (nums b) ((choices (nums b).length k)[q]'hq2)).take j).length (iv ((pickL (nums b) ((choices (nums b).length k)[q]'hq2)).take j)) NB ∧ St w0 w (NB ++ (CB ++ (FB ++ ((b3, blk 25 (b.cells p)) :: F))))) (k) ?_ ?_
       ·
        exact ⟨0, _, [], rfl, by omega, by omega, own_nil 3 1, hs⟩
       ·
        intro k vs μ w62 hI K61 hN60
        obtain ⟨j, v, NB, rfl, hja, rfl, hown, hs⟩ := hI
        refine w_seq (fun K64 hK63 => ?_)
        refine w_seq (fun K66 hK65 => ?_)
        refine w_region ?_
        refine w_p (y_move (v := .int _ _) rfl rfl) rfl ?_
        refine w_p (y_move (v := .int _ _) rfl rfl) rfl ?_
        refine w_p (y_lss rfl rfl rfl rfl) rfl ?_
        refine w_nil ?_
        refine q_then (hK65 _ _ ?_)
        refine w_cond rfl rfl (fun h67 => ?_) (fun h67 => ?_)
        ·
         try simp only [zA, zB, zC, zD, zE, zF] at h67
         refine w_skip ?_
         refine q_then (hK63 _ _ ?_)
         refine w_seq (fun K69 hK68 => ?_)
         refine w_block ?_
         have hj2 : j < ((choices (nums b).length k)[q]'hq2).length := by omega
         obtain ⟨by_, oy, hby, hy0⟩ := sl_ints hsx0 hj2
         subst hby
         have hpi := pick_idx hq2 hj2
         obtain ⟨bz, oz, hbz, hz0⟩ := sl_ints hslF hpi.2
         subst hbz
         have hy := hy0.top (F := (FB ++ ((b3, blk 25 (b.cells p)) :: F)))
         have hz := hz0.top (F := ((b3, blk 25 (b.cells p)) :: F))
         have hnlj : (((pickL (nums b) ((choices (nums b).length k)[q]'hq2)).take j)).length = j := by rw [List.length_take, pickL_len]; omega
         refine w_region ?_
         refine w_p (y_move (v := v) rfl rfl) rfl ?_
         refine w_p (y_move (v := .slice _ _ _) rfl rfl) rfl ?_
         refine w_p (y_move (v := .slice _ _ _) rfl rfl) rfl ?_
         refine w_p (y_move (v := .int _ _) rfl rfl) rfl ?_
         refine w_p (y_indexS Try.underlying66 Try.sizeOf39 rfl rfl rfl rfl (i := q) rfl hq2) rfl ?_
         refine w_p (y_load1 Try.isAgg39 hs.drop rfl rfl hx) rfl ?_
         refine w_p (y_move (v := .int _ _) rfl rfl) rfl ?_
         refine w_p (y_indexS Try.underlying39 Try.sizeOf3 rfl rfl rfl rfl (i := j) rfl (by omega)) rfl ?_
         refine w_p (y_load1 Try.isAgg3 hs.drop rfl rfl hy) rfl ?_
         refine w_p (y_indexS Try.underlying39 Try.sizeOf3 rfl rfl rfl rfl (i := (((choices (nums b).length k)[q]'hq2)[j]'hj2).toNat) (by omega) (by omega)) rfl ?_
         refine w_p (y_load1 Try.isAgg3 hs.drop.drop rfl rfl hz) rfl ?_
         refine w_bslice (ps := [(0, _)]) (pv := [(0, .int _ _)]) (cs := [_]) want_none rfl rfl (fun w => Try_Ze_fb8 _ w) hs (fun b70 w71 hs72 => ?_)
         refine w_append (X := (_ :: [])) (B := NB) (rows := [[_]]) (sz := 1) (bytes := 8) want_none Try.underlying39 Try_info3 rfl rfl rfl rfl rfl rfl rfl rfl rfl hs72 hown (sl_own (i := 0) rfl (by simp) rfl) rfl (by simp) (by simp [Value.oneCell']) (by simp only [maxLen]; omega) (by omega) (fun v73 w74 B75 ho76 hs77 => ?_)
         replace hs77 := (show St _ _ (_ :: B75 ++ (CB ++ (FB ++ (_ :: F)))) from hs77)
         refine w_p (y_assign (v := v73) rfl rfl) rfl ?_
         refine w_nil ?_
         refine q_blk_normal ?_
         refine q_then (hK68 _ _ ?_)
         refine w_region ?_
         refine w_p (y_move (v := .int _ _) rfl rfl) rfl ?_
         refine w_p (y_add rfl rfl rfl rfl (by omega) (by omega)) rfl ?_
         refine w_p (y_assign (v := .int _ _) rfl rfl) rfl ?_
         refine w_nil ?_
         refine q_then (hN60 _ _ (Nx.intro (k - (j + 1)) (by omega) (by repeat (first | exact agree_mix | refine agree_upd rfl ?_ | refine agree_updL rfl ?_ _ | refine agree_mixin rfl ?_)) ?_))
         exact ⟨j + 1, _, _, rfl, by omega, rfl, by rw [pickL_step hj2 hpi.2]; exact own_snocI ho76, hs77.tail⟩
        ·
         try simp only [zA, zB, zC, zD, zE, zF] at h67
         refine w_exit ?_
         refine q_then_exit ?_
         refine q_then_exit ?_
         refine q_blk_this ?_
         refine q_then (hK56 _ _ ?_)
         refine w_seq (fun K79 hK78 => ?_)
         have hjk : k = j := by omega
         subst hjk
         rw [List.take_of_length_le (by rw [pickL_len]; omega)] at hown
         obtain ⟨aN, cN, rfl, hslN, _, _⟩ := own_ints (w0 := w0) hown
         have hpl : (pickL (nums b) ((choices (nums b).length k)[q]'hq2)).length ≤ 8 := by rw [pickL_len]; omega
         have hwn := wP_num hok (show k ≤ (nums b).length by omega) hq2
         refine w_region ?_
         refine w_p (y_loadN (vs := [_, _, _]) Try.isAgg25 Try.sizeOf25 hs.drop.drop.drop rfl rfl hbx) rfl ?_
         refine w_p (y_move (v := .slice _ _ _) rfl rfl) rfl ?_
         refine w_call want_none Try.call43 rfl rfl rfl rfl (c43 b p hm.cons.app.app.app hok hnl (numL (pickL (nums b) ((choices (nums b).length k)[q]'hq2))) aN cN (pickL (nums b) ((choices (nums b).length k)[q]'hq2)) hwn.1 (by omega) hslN.top hs) ?_
         rintro _ w81 ⟨p2, BB, rfl, hmB, hs82⟩
         replace hs82 := (show St _ _ (BB ++ (NB ++ (CB ++ (FB ++ (_ :: F))))) from hs82)
         refine w_call want_none Try.call88 rfl rfl rfl rfl (c88 (butB b (numL (pickL (nums b) ((choices (nums b).length k)[q]'hq2)))) p2 hmB (butB_ok hok _) hs82) ?_
         rintro _ w84 ⟨rfl, hs85⟩
         refine w_nil ?_
         refine q_then (hK78 _ _ ?_)
         refine w_cond rfl rfl (fun h86 => ?_) (fun h86 => ?_)
         ·
          try simp only [zA, zB, zC, zD, zE, zF] at h86
          refine w_seq (fun K88 hK87 => ?_)
          refine w_region ?_
          refine w_p (y_move (v := .slice _ _ _) rfl rfl) rfl ?_
          refine w_p (y_assign (v := .slice _ _ _) rfl rfl) rfl ?_
          refine w_p (y_assign (v := _) rfl rfl) rfl ?_
          refine w_nil ?_
          refine q_then (hK87 _ _ ?_)
          refine w_ret ?_
          refine q_blk_ret ?_
          refine q_then_ret ?_
          refine q_then_ret ?_
          refine q_blk_ret ?_
          refine q_blk_ret ?_
          refine q_then_ret ?_
          refine q_then_ret ?_
          refine q_blk_ret ?_
          refine q_then_ret ?_
          refine q_ret (l := [.tmp 2, .tmp 3]) (vs := [_, _]) rfl ⟨⟨rfl, show _ = (.slice _ _ _ : Value) from rfl⟩, ⟨rfl, show _ = (.int _ _ : Value) from rfl⟩, trivial⟩ ?_
          first
            | exact ⟨[], none, 0, by rw [wrongP_no (by assumption)]; rfl, by rw [wrongP_no (by assumption)]; exact Sl.nil _ _, hs85.drop.drop.drop.drop.tail⟩
            | (have hq := wrongP_some hck (sets_hereW (by omega) hf1 hf2 hq2 (wP_t (by assumption)))
               exact ⟨NB, aN, cN, by rw [hq]; rfl, by rw [hq]; exact hslN, kq_own (kq_opq (kq_opq hs85.drop))⟩)
            | (have hkn : k = (nums b).length := by omega
               subst hkn
               have hq := wrongP_none hck hf1
               exact ⟨FB, aF, cF, by rw [hq]; rfl, by rw [hq]; exact hslF, kq_own hs85⟩)
         ·
          try simp only [zA, zB, zC, zD, zE, zF] at h86
          refine w_skip ?_
          refine q_blk_normal ?_
          refine q_then (hK52 _ _ ?_)
          refine w_region ?_
          refine w_p (y_move (v := .int _ _) rfl rfl) rfl ?_
          refine w_p (y_add rfl rfl rfl rfl (by omega) (by omega)) rfl ?_
          refine w_p (y_assign (v := .int _ _) rfl rfl) rfl ?_
          refine w_nil ?_
          refine q_then (hN44 _ _ (Nx.intro ((choices (nums b).length k).length - (q + 1)) (by omega) (by repeat (first | exact agree_mix | refine agree_upd rfl ?_ | refine agree_updL rfl ?_ _ | refine agree_mixin rfl ?_)) ?_))
          exact ⟨q + 1, rfl, by omega, rfl, find_next hf2 hq2 (wP_f (by assumption)), hs85.drop.drop⟩
      ·
       try simp only [zA, zB, zC, zD, zE, zF] at h51
       refine w_exit ?_
       refine q_then_exit ?_
       refine q_then_exit ?_
       refine q_blk_this ?_
       refine q_blk_normal ?_
       refine q_then (hK35 _ _ ?_)
       refine w_region ?_
       refine w_p (y_move (v := .int _ _) rfl rfl) rfl ?_
       refine w_p (y_add rfl rfl rfl rfl (by omega) (by omega)) rfl ?_
       refine w_p (y_assign (v := .int _ _) rfl rfl) rfl ?_
       refine w_nil ?_
       refine q_then (hN27 _ _ (Nx.intro ((nums b).length - (k + 1)) (by omega) (by repeat (first | exact agree_mix | refine agree_upd rfl ?_ | refine agree_updL rfl ?_ _ | refine agree_mixin rfl ?_)) ?_))
       exact ⟨k + 1, rfl, by omega, by omega, find_on hf1 hf2 (by omega), hs.drop⟩
    ·
     try simp only [zA, zB, zC, zD, zE, zF] at h34
     refine w_exit ?_
     refine q_then_exit ?_
     refine q_then_exit ?_
     refine q_blk_this ?_
     refine q_then (hK23 _ _ ?_)
     refine w_seq (fun K90 hK89 => ?_)
     refine w_region ?_
     refine w_p (y_move (v := .slice _ _ _) rfl rfl) rfl ?_
     refine w_p (y_assign (v := .slice _ _ _) rfl rfl) rfl ?_
     refine w_p (y_assign (v := _) rfl rfl) rfl ?_
     refine w_nil ?_
     refine q_then (hK89 _ _ ?_)
     refine w_ret ?_
     refine q_ret (l := [.tmp 2, .tmp 3]) (vs := [_, _]) rfl ⟨⟨rfl, show _ = (.slice _ _ _ : Value) from rfl⟩, ⟨rfl, show _ = (.int _ _ : Value) from rfl⟩, trivial⟩ ?_
     first
       | exact ⟨[], none, 0, by rw [wrongP_no (by assumption)]; rfl, by rw [wrongP_no (by assumption)]; exact Sl.nil _ _, hs.drop.tail⟩
       | (have hq := wrongP_some hck (sets_hereW (by omega) hf1 hf2 hq2 (wP_t (by assumption)))
          exact ⟨NB, aN, cN, by rw [hq]; rfl, by rw [hq]; exact hslN, kq_own (kq_opq (kq_opq hs.drop))⟩)
       | (have hkn : k = (nums b).length := by omega
          subst hkn
          have hq := wrongP_none hck hf1
          exact ⟨FB, aF, cF, by rw [hq]; rfl, by rw [hq]; exact hslF, kq_own hs⟩)

end Go.Proofs
/- Walks of this seat, printed by gen.py over the engine: what each function returns, in whatever world. No conditions but those of each contract. -/
set_option linter.unusedVariables false
set_option linter.unusedSimpArgs false
set_option maxRecDepth 20000
namespace Go.Proofs
open Go.Rt Go.Rt.Ch
open Go.Rt.Ha (firstE firstE_step firstE_stop firstE_end failE nameE felt spanL upto span_mem listL fewest fewTo bit before fewStep drop_lt drop_get drop_next drop_done drop_notin set_take set_zero take_less)
attribute [local irreducible] WL WC Con Yd At Ats Sl Agree DW

theorem wrongP_e {b : Board} (h : ¬ (check b).2.2 = 0) : wrongP b = ([], (check b).2.2) := by unfold wrongP; rw [if_pos h]
theorem wrongP_y {b : Board} (h : (check b).2.2 = 0) : wrongP b = ((fewest (wrongS b) (b.hours.length * b.ctrs.length)).1, 0) := by unfold wrongP; rw [if_neg (by simp [h])]
theorem many_8 {b : Board} (h : b.Ok) : b.hours.length * b.ctrs.length ≤ 8 := by
  have h1 := Nat.mul_le_mul h.lh h.lc
  omega
theorem c30 {w0 w : World} {F : List (Nat × Obj)} (b : Board) (p : AtB) (hm : BIn w0 F b p)  (hs : St w0 w F) :
  Con Try.prog 30 [.agg (b.cells p).toArray] w fun v w' => ∃ B a' c, v = .tuple #[.slice a' (wrongP b).1.length c, .int .i64 (wrongP b).2] ∧ Sl w0 B a' 1 ((wrongP b).1.map fun x => [Value.int .i64 x]) ∧ St w0 w' (B ++ F) := by
  refine con_of_wc (n := 27) Try.func30 rfl rfl (Nat.le_of_ble_eq_true rfl) ?_
  have hlh0 := hm.lh
  have hlc0 := hm.lc
  refine w_seq (fun K2 hK1 => ?_)
  refine w_region ?_
  refine w_box (v := .agg #[.int _ _, .slice _ _ _, .slice _ _ _]) (cs := [_, _, _]) want_none rfl rfl rfl hs (fun b3 w4 hs5 => ?_)
  refine w_p (y_assign (v := _) rfl rfl) rfl ?_
  refine w_p (y_assign (v := _) rfl rfl) rfl ?_
  refine w_nil ?_
  refine q_then (hK1 _ _ ?_)
  refine w_seq (fun K7 hK6 => ?_)
  refine w_seq (fun K9 hK8 => ?_)
  refine w_region ?_
  refine w_p (y_loadN (vs := [_, _, _]) Try.isAgg25 Try.sizeOf25 hs5 rfl rfl (ats_own (i := 0) (vs := [_, _, _]) rfl rfl)) rfl ?_
  refine w_call want_none Try.call16 rfl rfl rfl rfl (c16 b _ hm.cons hs5) ?_
  rintro _ w11 ⟨rfl, hs12⟩
  refine w_p (y_move (v := .tuple _) rfl rfl) rfl ?_
  refine w_p (y_extract (v := .int _ _) rfl rfl rfl) rfl ?_
  refine w_p (y_extract (v := .int _ _) rfl rfl rfl) rfl ?_
  refine w_p (y_extract (v := .int _ _) rfl rfl rfl) rfl ?_
  refine w_p (y_assign (v := .int _ _) rfl rfl) rfl ?_
  refine w_p (y_assign (v := .int _ _) rfl rfl) rfl ?_
  refine w_p (y_assign (v := .int _ _) rfl rfl) rfl ?_
  refine w_nil ?_
  refine q_then (hK8 _ _ ?_)
  refine w_seq (fun K14 hK13 => ?_)
  refine w_region ?_
  refine w_p (y_move (v := .int _ _) rfl rfl) rfl ?_
  refine w_p (y_neq rfl rfl rfl rfl) rfl ?_
  refine w_nil ?_
  refine q_then (hK13 _ _ ?_)
  refine w_cond rfl rfl (fun h15 => ?_) (fun h15 => ?_)
  ·
   try simp only [zA, zB, zC, zD, zE, zF] at h15
   refine w_seq (fun K17 hK16 => ?_)
   refine w_region ?_
   refine w_p (y_move (v := .int _ _) rfl rfl) rfl ?_
   refine w_p (y_assign (v := _) rfl rfl) rfl ?_
   refine w_p (y_assign (v := .int _ _) rfl rfl) rfl ?_
   refine w_nil ?_
   refine q_then (hK16 _ _ ?_)
   refine w_ret ?_
   refine q_then_ret ?_
   refine q_ret (l := [.tmp 2, .tmp 3]) (vs := [_, _]) rfl ⟨⟨rfl, show _ = (.slice _ _ _ : Value) from rfl⟩, ⟨rfl, show _ = (.int _ _ : Value) from rfl⟩, trivial⟩ ?_
   exact ⟨[], none, 0, by rw [wrongP_e (by assumption)]; rfl, by rw [wrongP_e (by assumption)]; exact Sl.nil _ _, hs12.tail⟩
  ·
   try simp only [zA, zB, zC, zD, zE, zF] at h15
   refine w_skip ?_
   refine q_then (hK6 _ _ ?_)
   refine w_seq (fun K19 hK18 => ?_)
   have hck : (check b).2.2 = 0 := by assumption
   have hok := check_ok hck
   have h8 := many_8 hok
   have hmi : ((b.hours.length : Int) * (b.ctrs.length : Int)) = ((b.hours.length * b.ctrs.length : Nat) : Int) := by push_cast; rfl
   refine w_region ?_
   refine w_p (y_fieldAddr (o := 1) (i := 1) Try.underlying25 rfl Try.sizeOf22 rfl rfl rfl) rfl ?_
   refine w_p (y_load1 Try.isAgg22 hs12 rfl rfl (ats_own (i := 0) (vs := [_]) rfl rfl)) rfl ?_
   refine w_p (y_lenS Try.underlying22 rfl rfl) rfl ?_
   refine w_alloc (cs := [_]) want_none Try.zeroValue3 rfl hs12 (fun b20 w21 hs22 => ?_)
   refine w_store (i := 0) (v := .int _ _) (vs := [_]) want_none Try.sizeOf3 rfl rfl rfl rfl rfl (by simp [Value.oneCell']) hs22 rfl (Nat.le_of_ble_eq_true rfl) (fun w23 hs24 => ?_)
   refine w_nil ?_
   refine q_then (hK18 _ _ ?_)
   refine w_seq (fun K26 hK25 => ?_)
   refine w_region ?_
   refine w_p (y_load1 Try.isAgg3 hs24 rfl rfl (ats_own (i := 0) (vs := [_]) rfl rfl)) rfl ?_
   refine w_p (y_fieldAddr (o := 2) (i := 2) Try.underlying25 rfl Try.sizeOf23 rfl rfl rfl) rfl ?_
   refine w_p (y_load1 Try.isAgg23 hs24 rfl rfl (ats_own (i := 1) (vs := [_]) rfl rfl)) rfl ?_
   refine w_p (y_lenS Try.underlying23 rfl rfl) rfl ?_
   refine w_p (yd_cast (z' := ((b.hours.length * b.ctrs.length : Nat) : Int)) hmi (y_mul rfl rfl rfl rfl (by omega) (by omega))) rfl ?_
   refine w_p (y_makeFunc (fv := []) (cv := [_, _]) rfl rfl rfl rfl) rfl ?_
   refine w_call want_none Try.call78 rfl rfl rfl rfl (c78 (M := []) (F := (b20, blk 3 [.int .i64 (b.hours.length : Int)]) :: (b3, blk 25 (b.cells p)) :: F) (b.hours.length * b.ctrs.length) (many_8 hok) _ (wrongS b) (fun M => M = []) (fun s M X w hs1 hM hs => by subst hM; exact fcon_fn Try.call83 ((c83 b p hm.cons.cons.app hck s (by have := (shl_256 (many_8 hok)).2; omega) _ _ (Ats.app (ats_own (i := 1) (vs := b.cells p) rfl rfl)) (Ats.app (ats_own (i := 0) (vs := [_]) rfl rfl)) hs).mono fun v w h => ⟨h.1, [], rfl, h.2⟩)) rfl hs24) ?_
   rintro _ w28 ⟨B, M2, a2, c2, rfl, hslB, rfl, hs29⟩
   refine w_p (y_assign (v := .slice _ _ _) rfl rfl) rfl ?_
   refine w_p (y_assign (v := _) rfl rfl) rfl ?_
   refine w_nil ?_
   refine q_then (hK25 _ _ ?_)
   refine w_ret ?_
   refine q_ret (l := [.tmp 2, .tmp 3]) (vs := [_, _]) rfl ⟨⟨rfl, show _ = (.slice _ _ _ : Value) from rfl⟩, ⟨rfl, show _ = (.int _ _ : Value) from rfl⟩, trivial⟩ ?_
   exact ⟨B, a2, c2, by rw [wrongP_y hck]; rfl, by rw [wrongP_y hck]; exact hslB, keep_front (M := []) (P := [_, _]) hs29⟩

end Go.Proofs
/- Plain words of the chain layer: the document's example. No conditions. -/
set_option linter.unusedSimpArgs false
set_option linter.unusedVariables false
namespace Go.Rt.Ch
open Go.Rt.Ha
def nShip : ByteArray := ⟨#[115, 104, 105, 112]⟩
def nShore : ByteArray := ⟨#[115, 104, 111, 114, 101]⟩
def exB (n : Int) : Board := ⟨2, [⟨0, 10, 13⟩, ⟨0, 8, 11⟩, ⟨1, 10, 12⟩], [⟨nShip, 1, 0, 90, [0, 0, 0], [1, -1, 22]⟩, ⟨nShore, 0, 2, 0, [0, 2, 0], [13, 10, n]⟩]⟩
theorem ex_went1 : wentP (exB 21) 0 = ((11, 12), 0) := by decide +kernel
theorem ex_hold1 : holdP (exB 21) 0 = ((21, 22), 0) := by decide +kernel
theorem ex_right1 : rightP (exB 21) 0 = (0, 0) := by decide +kernel
theorem ex_right2 : rightP (exB 21) 1 = (2, 0) := by decide +kernel
theorem ex_zero1 : zeroP (exB 21) 1 1 = (1, 0) := by decide +kernel
theorem ex_looks1 : looksP (exB 21) 0 0 = ([0], 0) := by decide +kernel
theorem ex_looks2 : looksP (exB 21) 0 1 = ([], 0) := by decide +kernel
theorem ex_wrong1 : wrongP (exB 30) = ([5], 0) := by decide +kernel
theorem ex_went2 : wentP (exB 30) 0 = ((0, 0), 8) := by decide +kernel
theorem ex_looks3 : looksP (exB 21) 0 (-1) = ([], 7) := by decide +kernel
end Go.Rt.Ch
/- Walks of this seat, printed by gen.py over the engine: what each function returns, in whatever world. No conditions but those of each contract. -/
set_option linter.unusedVariables false
set_option linter.unusedSimpArgs false
set_option maxRecDepth 20000
namespace Go.Proofs
open Go.Rt Go.Rt.Ch
open Go.Rt.Ha (firstE firstE_step firstE_stop firstE_end failE nameE felt spanL upto span_mem listL fewest fewTo bit before fewStep drop_lt drop_get drop_next drop_done drop_notin set_take set_zero take_less)
attribute [local irreducible] WL WC Con Yd At Ats Sl Agree DW
theorem Try_Ya_fb7 (x0 : Int) (x1 : Int) (w : World) : (Instr.build 31 [(0, .int .i64 x0), (1, .int .i64 x1)].toArray).run Try.prog w = .ok (.agg #[.int .i64 x0, .int .i64 x1]) w := by kernel_rfl
theorem Try_Ya_fb8 (x0 : Int) (x1 : Int) (w : World) : (Instr.build 70 [(1, .agg #[.int .i64 x0, .int .i64 x1])].toArray).run Try.prog w = .ok (.agg #[.int .i64 0, .int .i64 x0, .int .i64 x1]) w := by kernel_rfl
theorem Try_Ya_fb9 (x0 : Int) (x1 : Int) (x2 : Int) (w : World) : (Instr.build 70 [(0, .int .i64 x0), (1, .agg #[.int .i64 x1, .int .i64 x2])].toArray).run Try.prog w = .ok (.agg #[.int .i64 x0, .int .i64 x1, .int .i64 x2]) w := by kernel_rfl
theorem Try_Ya_fb10 (x0 : Int) (x1 : Int) (x2 : Int) (x3 : Int) (x4 : Int) (x5 : Int) (x6 : Int) (x7 : Int) (x8 : Int) (w : World) : (Instr.buildSlice 22 3 [(0, .agg #[.int .i64 x0, .int .i64 x1, .int .i64 x2]), (1, .agg #[.int .i64 x3, .int .i64 x4, .int .i64 x5]), (2, .agg #[.int .i64 x6, .int .i64 x7, .int .i64 x8])].toArray).run Try.prog w = .ok (.slice (some ⟨w.heap.size, 0, none⟩) 3 3) (w.alloc (Go.Rt.blk 70 [.int .i64 x0, .int .i64 x1, .int .i64 x2, .int .i64 x3, .int .i64 x4, .int .i64 x5, .int .i64 x6, .int .i64 x7, .int .i64 x8])) := by kernel_rfl
theorem Try_Ya_fb11 (x0 : Int) (x1 : Int) (x2 : Int) (w : World) : (Instr.buildSlice 39 3 [(0, .int .i64 x0), (1, .int .i64 x1), (2, .int .i64 x2)].toArray).run Try.prog w = .ok (.slice (some ⟨w.heap.size, 0, none⟩) 3 3) (w.alloc (Go.Rt.blk 3 [.int .i64 x0, .int .i64 x1, .int .i64 x2])) := by kernel_rfl
theorem Try_Ya_fb12 (x0 : ByteArray) (x1 : Int) (x2 : Int) (x3 : Option Addr) (l3 c3 : Nat) (x4 : Option Addr) (l4 c4 : Nat) (w : World) : (Instr.build 76 [(0, .string x0), (1, .int .i64 x1), (3, .int .i64 x2), (4, .slice x3 l3 c3), (5, .slice x4 l4 c4)].toArray).run Try.prog w = .ok (.agg #[.string x0, .int .i64 x1, .int .i64 0, .int .i64 x2, .slice x3 l3 c3, .slice x4 l4 c4]) w := by kernel_rfl
theorem Try_Ya_fb13 (x0 : ByteArray) (x1 : Int) (x2 : Option Addr) (l2 c2 : Nat) (x3 : Option Addr) (l3 c3 : Nat) (w : World) : (Instr.build 76 [(0, .string x0), (2, .int .i64 x1), (4, .slice x2 l2 c2), (5, .slice x3 l3 c3)].toArray).run Try.prog w = .ok (.agg #[.string x0, .int .i64 0, .int .i64 x1, .int .i64 0, .slice x2 l2 c2, .slice x3 l3 c3]) w := by kernel_rfl
theorem Try_Ya_fb14 (x0 : ByteArray) (x1 : Int) (x2 : Int) (x3 : Int) (x4 : Option Addr) (l4 c4 : Nat) (x5 : Option Addr) (l5 c5 : Nat) (x6 : ByteArray) (x7 : Int) (x8 : Int) (x9 : Int) (x10 : Option Addr) (l10 c10 : Nat) (x11 : Option Addr) (l11 c11 : Nat) (w : World) : (Instr.buildSlice 23 2 [(0, .agg #[.string x0, .int .i64 x1, .int .i64 x2, .int .i64 x3, .slice x4 l4 c4, .slice x5 l5 c5]), (1, .agg #[.string x6, .int .i64 x7, .int .i64 x8, .int .i64 x9, .slice x10 l10 c10, .slice x11 l11 c11])].toArray).run Try.prog w = .ok (.slice (some ⟨w.heap.size, 0, none⟩) 2 2) (w.alloc (Go.Rt.blk 76 [.string x0, .int .i64 x1, .int .i64 x2, .int .i64 x3, .slice x4 l4 c4, .slice x5 l5 c5, .string x6, .int .i64 x7, .int .i64 x8, .int .i64 x9, .slice x10 l10 c10, .slice x11 l11 c11])) := by kernel_rfl
theorem Try_Ya_fb15 (x0 : Int) (x1 : Option Addr) (l1 c1 : Nat) (x2 : Option Addr) (l2 c2 : Nat) (w : World) : (Instr.build 25 [(0, .int .i64 x0), (1, .slice x1 l1 c1), (2, .slice x2 l2 c2)].toArray).run Try.prog w = .ok (.agg #[.int .i64 x0, .slice x1 l1 c1, .slice x2 l2 c2]) w := by kernel_rfl
theorem Try_flat31 : flatInts Try.prog 31 2 = true := by kernel_rfl
theorem Try_Ya_fb17 (x0 : Int) (w : World) : (Instr.buildSlice 39 1 [(0, .int .i64 x0)].toArray).run Try.prog w = .ok (.slice (some ⟨w.heap.size, 0, none⟩) 1 1) (w.alloc (Go.Rt.blk 3 [.int .i64 x0])) := by kernel_rfl
theorem ats_ofL {w0 w : World} {L : List (Nat × Obj)} {i b : Nat} {t : TypeId} {cs vs : List Value} (hs : St w0 w L) (hi : L[i]? = some (b, blk t cs)) (h : (cs.drop 0).take vs.length = vs) : Ats w0 L b 0 vs := ats_own hi h
theorem gen_Z {w0 w : World} {L : List (Nat × Obj)} (hs : St w0 w L) : ∃ Z, Z = L ∧ St w0 w Z := ⟨L, rfl, hs⟩
theorem con_true {k : FuncId} {args : List Value} {w : World} {x : Bool} {S : World → Prop} (h : Con Try.prog k args w fun v w' => v = .bool x ∧ S w') (hx : x = true) : Con Try.prog k args w fun v w' => v = .bool true ∧ S w' := by subst hx; exact h
theorem kz_own {w0 w : World} {B F : List (Nat × Obj)} {a : Nat × Obj} (h : St w0 w (B ++ (a :: F))) : St w0 w (B ++ F) := (h.perm (perm_mid B [a] F)).tail
def exP (bh bc z1 s1 z2 s2 : Nat) : AtB := ⟨some ⟨bh, 0, none⟩, 3, some ⟨bc, 0, none⟩, 2, fun i => if i = 0 then ⟨some ⟨z1, 0, none⟩, 3, some ⟨s1, 0, none⟩, 3⟩ else ⟨some ⟨z2, 0, none⟩, 3, some ⟨s2, 0, none⟩, 3⟩⟩
theorem ex_bin {w0 : World} {n : Int} {bh bc z1 s1 z2 s2 : Nat} :
    BIn w0 [(bc, blk 76 (krows (exB n).ctrs (exP bh bc z1 s1 z2 s2).pc).flatten), (s2, blk 3 (iv [13, 10, n])), (z2, blk 3 (iv [0, 2, 0])), (s1, blk 3 (iv [1, -1, 22])), (z1, blk 3 (iv [0, 0, 0])), (bh, blk 70 (hrows (exB n).hours).flatten)] (exB n) (exP bh bc z1 s1 z2 s2) where
  h := sl_own (i := 5) rfl (by intro row h; obtain ⟨q, _, rfl⟩ := List.mem_map.1 h; rfl) rfl
  c := sl_own (i := 0) rfl (krows_row _ _) rfl
  z := fun i hi => by
    match i, hi with
    | 0, _ => exact sl_own (i := 4) rfl (by intro row h; obtain ⟨q, _, rfl⟩ := List.mem_map.1 h; rfl) rfl
    | 1, _ => exact sl_own (i := 2) rfl (by intro row h; obtain ⟨q, _, rfl⟩ := List.mem_map.1 h; rfl) rfl
    | i + 2, hi => exact absurd hi (by simp [exB])
  s := fun i hi => by
    match i, hi with
    | 0, _ => exact sl_own (i := 3) rfl (by intro row h; obtain ⟨q, _, rfl⟩ := List.mem_map.1 h; rfl) rfl
    | 1, _ => exact sl_own (i := 1) rfl (by intro row h; obtain ⟨q, _, rfl⟩ := List.mem_map.1 h; rfl) rfl
    | i + 2, hi => exact absurd hi (by simp [exB])
  lh := by simp [exB]
  lc := by simp [exB]
  ch := by simp [exB, exP]
  cc := by simp [exB, exP]
  lz := fun i hi => by
    match i, hi with
    | 0, _ => exact ⟨by simp [exB], by simp [exB, exP]⟩
    | 1, _ => exact ⟨by simp [exB], by simp [exB, exP]⟩
    | i + 2, hi => exact absurd hi (by simp [exB])
  ls := fun i hi => by
    match i, hi with
    | 0, _ => exact ⟨by simp [exB], by simp [exB, exP]⟩
    | 1, _ => exact ⟨by simp [exB], by simp [exB, exP]⟩
    | i + 2, hi => exact absurd hi (by simp [exB])
  nm := by intro q hq; simp only [exB, List.mem_cons, List.not_mem_nil, or_false] at hq; rcases hq with rfl | rfl <;> (dsimp only; decide)
theorem c33 {w0 w : World} {F : List (Nat × Obj)} (x y : Int) (hs : St w0 w F) :
  Con Try.prog 33 [.int .i64 x, .int .i64 y] w fun v w' => v = .agg #[.int .i64 x, .int .i64 y] ∧ St w0 w' F := by
  refine con_of_wc (n := 8) Try.func33 rfl rfl (Nat.le_of_ble_eq_true rfl) ?_
  refine w_seq (fun K2 hK1 => ?_)
  refine w_region ?_
  refine w_alloc (cs := [_, _]) want_none Try.zeroValue31 rfl hs (fun b3 w4 hs5 => ?_)
  refine w_nil ?_
  refine q_then (hK1 _ _ ?_)
  refine w_seq (fun K7 hK6 => ?_)
  refine w_region ?_
  refine w_p (y_move (v := .int _ _) rfl rfl) rfl ?_
  refine w_p (y_move (v := .int _ _) rfl rfl) rfl ?_
  refine w_p (y_build (ps := [(0, _), (1, _)]) (pv := [(0, .int _ _), (1, .int _ _)]) rfl rfl (fun w => Try_Ya_fb7 _ _ w)) rfl ?_
  refine w_store (i := 0) (v := .agg #[.int _ _, .int _ _]) (vs := [_, _]) want_none Try.sizeOf31 rfl rfl rfl rfl rfl (by simp [Value.oneCell']) hs5 rfl (Nat.le_of_ble_eq_true rfl) (fun w8 hs9 => ?_)
  refine w_nil ?_
  refine q_then (hK6 _ _ ?_)
  refine w_ret ?_
  refine q_ret (l := [.cell 4 31]) (vs := [_]) rfl ⟨⟨rfl, _, rfl, run_loadVarN (vs := [_, _]) Try.isAgg31 Try.sizeOf31 hs9 (ats_own (i := 0) (vs := [_, _]) rfl rfl)⟩, trivial⟩ ?_
  exact ⟨rfl, hs9.tail⟩

theorem c32 {w0 w : World} {F : List (Nat × Obj)} (n : Int) (hs : St w0 w F) :
  Con Try.prog 32 [.int .i64 n] w fun v w' => ∃ p B, v = .agg ((exB n).cells p).toArray ∧ BIn w0 B (exB n) p ∧ St w0 w' (B ++ F) := by
  refine con_of_wc (n := 19) Try.func32 rfl rfl (Nat.le_of_ble_eq_true rfl) ?_
  refine w_seq (fun K2 hK1 => ?_)
  refine w_region ?_
  refine w_alloc (cs := [_, _, _]) want_none Try.zeroValue25 rfl hs (fun b3 w4 hs5 => ?_)
  refine w_nil ?_
  refine q_then (hK1 _ _ ?_)
  refine w_seq (fun K7 hK6 => ?_)
  refine w_region ?_
  refine w_call want_none Try.call33 rfl rfl rfl rfl (c33 _ _ hs5) ?_
  rintro _ w9 ⟨rfl, hs10⟩
  refine w_p (y_build (ps := [(1, _)]) (pv := [(1, .agg #[.int _ _, .int _ _])]) rfl rfl (fun w => Try_Ya_fb8 _ _ w)) rfl ?_
  refine w_call want_none Try.call33 rfl rfl rfl rfl (c33 _ _ hs10) ?_
  rintro _ w12 ⟨rfl, hs13⟩
  refine w_p (y_build (ps := [(1, _)]) (pv := [(1, .agg #[.int _ _, .int _ _])]) rfl rfl (fun w => Try_Ya_fb8 _ _ w)) rfl ?_
  refine w_call want_none Try.call33 rfl rfl rfl rfl (c33 _ _ hs13) ?_
  rintro _ w15 ⟨rfl, hs16⟩
  refine w_p (y_build (ps := [(0, _), (1, _)]) (pv := [(0, .int _ _), (1, .agg #[.int _ _, .int _ _])]) rfl rfl (fun w => Try_Ya_fb9 _ _ _ w)) rfl ?_
  refine w_bslice (ps := [(0, _), (1, _), (2, _)]) (pv := [(0, .agg #[.int _ _, .int _ _, .int _ _]), (1, .agg #[.int _ _, .int _ _, .int _ _]), (2, .agg #[.int _ _, .int _ _, .int _ _])]) (cs := [_, _, _, _, _, _, _, _, _]) want_none rfl rfl (fun w => Try_Ya_fb10 _ _ _ _ _ _ _ _ _ w) hs16 (fun b17 w18 hs19 => ?_)
  refine w_bslice (ps := [(0, _), (1, _), (2, _)]) (pv := [(0, .int _ _), (1, .int _ _), (2, .int _ _)]) (cs := [_, _, _]) want_none rfl rfl (fun w => Try_Ya_fb11 _ _ _ w) hs19 (fun b20 w21 hs22 => ?_)
  refine w_bslice (ps := [(0, _), (1, _), (2, _)]) (pv := [(0, .int _ _), (1, .int _ _), (2, .int _ _)]) (cs := [_, _, _]) want_none rfl rfl (fun w => Try_Ya_fb11 _ _ _ w) hs22 (fun b23 w24 hs25 => ?_)
  refine w_p (y_build (ps := [(0, _), (1, _), (3, _), (4, _), (5, _)]) (pv := [(0, .string _), (1, .int _ _), (3, .int _ _), (4, .slice _ _ _), (5, .slice _ _ _)]) rfl rfl (fun w => Try_Ya_fb12 _ _ _ _ _ _ _ _ _ w)) rfl ?_
  refine w_bslice (ps := [(0, _), (1, _), (2, _)]) (pv := [(0, .int _ _), (1, .int _ _), (2, .int _ _)]) (cs := [_, _, _]) want_none rfl rfl (fun w => Try_Ya_fb11 _ _ _ w) hs25 (fun b26 w27 hs28 => ?_)
  refine w_p (y_move (v := .int _ _) rfl rfl) rfl ?_
  refine w_bslice (ps := [(0, _), (1, _), (2, _)]) (pv := [(0, .int _ _), (1, .int _ _), (2, .int _ _)]) (cs := [_, _, _]) want_none rfl rfl (fun w => Try_Ya_fb11 _ _ _ w) hs28 (fun b29 w30 hs31 => ?_)
  refine w_p (y_build (ps := [(0, _), (2, _), (4, _), (5, _)]) (pv := [(0, .string _), (2, .int _ _), (4, .slice _ _ _), (5, .slice _ _ _)]) rfl rfl (fun w => Try_Ya_fb13 _ _ _ _ _ _ _ _ w)) rfl ?_
  refine w_bslice (ps := [(0, _), (1, _)]) (pv := [(0, .agg #[.string _, .int _ _, .int _ _, .int _ _, .slice _ _ _, .slice _ _ _]), (1, .agg #[.string _, .int _ _, .int _ _, .int _ _, .slice _ _ _, .slice _ _ _])]) (cs := [_, _, _, _, _, _, _, _, _, _, _, _]) want_none rfl rfl (fun w => Try_Ya_fb14 _ _ _ _ _ _ _ _ _ _ _ _ _ _ _ _ _ _ _ _ w) hs31 (fun b32 w33 hs34 => ?_)
  refine w_p (y_build (ps := [(0, _), (1, _), (2, _)]) (pv := [(0, .int _ _), (1, .slice _ _ _), (2, .slice _ _ _)]) rfl rfl (fun w => Try_Ya_fb15 _ _ _ _ _ _ _ w)) rfl ?_
  refine w_store (i := 6) (v := .agg #[.int _ _, .slice _ _ _, .slice _ _ _]) (vs := [_, _, _]) want_none Try.sizeOf25 rfl rfl rfl rfl rfl (by simp [Value.oneCell']) hs34 rfl (Nat.le_of_ble_eq_true rfl) (fun w35 hs36 => ?_)
  refine w_nil ?_
  refine q_then (hK6 _ _ ?_)
  refine w_ret ?_
  refine q_ret (l := [.cell 2 25]) (vs := [_]) rfl ⟨⟨rfl, _, rfl, run_loadVarN (vs := [_, _, _]) Try.isAgg25 Try.sizeOf25 hs36 (ats_own (i := 6) (vs := [_, _, _]) rfl rfl)⟩, trivial⟩ ?_
  exact ⟨exP b17 b32 b20 b23 b26 b29, [_, _, _, _, _, _], rfl, ex_bin, kz_own (B := [_, _, _, _, _, _]) hs36⟩

theorem c22 {w0 w : World} {F : List (Nat × Obj)}  (hs : St w0 w F) :
  Con Try.prog 22 [] w fun v w' => v = .bool true ∧ St w0 w' F := by
  refine con_of_wc (n := 150) Try.func22 rfl rfl (Nat.le_of_ble_eq_true rfl) ?_
  refine w_seq (fun K2 hK1 => ?_)
  refine w_region ?_
  refine w_p (y_assign (v := _) rfl rfl) rfl ?_
  refine w_nil ?_
  refine q_then (hK1 _ _ ?_)
  refine w_seq (fun K4 hK3 => ?_)
  refine w_region ?_
  refine w_call want_none Try.call32 rfl rfl rfl rfl (c32 21 hs) ?_
  rintro _ w6 ⟨p1, L1, rfl, hq1, hs7⟩
  replace hs7 := (show St _ _ (L1 ++ (F)) from hs7)
  refine w_call want_none Try.call32 rfl rfl rfl rfl (c32 30 hs7) ?_
  rintro _ w9 ⟨p2, L2, rfl, hq2, hs10⟩
  replace hs10 := (show St _ _ (L2 ++ (L1 ++ (F))) from hs10)
  refine w_alloc (cs := [_, _, _]) want_none Try.zeroValue25 rfl hs10 (fun b11 w12 hs13 => ?_)
  refine w_alloc (cs := [_, _, _]) want_none Try.zeroValue25 rfl hs13 (fun b14 w15 hs16 => ?_)
  refine w_store (i := 1) (v := .agg #[.int _ _, .slice _ _ _, .slice _ _ _]) (vs := [_, _, _]) want_none Try.sizeOf25 rfl rfl rfl rfl rfl (by simp [Value.oneCell']) hs16 rfl (Nat.le_of_ble_eq_true rfl) (fun w17 hs18 => ?_)
  refine w_store (i := 0) (v := .agg #[.int _ _, .slice _ _ _, .slice _ _ _]) (vs := [_, _, _]) want_none Try.sizeOf25 rfl rfl rfl rfl rfl (by simp [Value.oneCell']) hs18 rfl (Nat.le_of_ble_eq_true rfl) (fun w19 hs20 => ?_)
  refine w_nil ?_
  refine q_then (hK3 _ _ ?_)
  refine w_seq (fun K22 hK21 => ?_)
  obtain ⟨Z, hZ, hsZ⟩ := gen_Z hs20
  have hP1 : Ats w0 Z b11 0 ((exB 21).cells p1) := by rw [hZ]; exact ats_own (i := 1) (vs := (exB 21).cells p1) rfl rfl
  have hM1 : BIn w0 Z (exB 21) p1 := by rw [hZ]; exact BIn.mono hq1 (fun w h => h.tail.tail.drop.front)
  have hP2 : Ats w0 Z b14 0 ((exB 30).cells p2) := by rw [hZ]; exact ats_own (i := 0) (vs := (exB 30).cells p2) rfl rfl
  have hM2 : BIn w0 Z (exB 30) p2 := by rw [hZ]; exact BIn.mono hq2 (fun w h => h.tail.tail.front)
  refine w_region ?_
  refine w_p (y_loadN (vs := [_, _, _]) Try.isAgg25 Try.sizeOf25 hsZ rfl rfl hP1) rfl ?_
  refine w_call want_none Try.call18 rfl rfl rfl rfl ((c18 (exB 21) p1 hM1 0 hsZ).mono (fun v w' h => by rw [ex_went1] at h; exact h)) ?_
  rintro _ w24 ⟨rfl, hs25⟩
  refine w_p (y_move (v := .tuple _) rfl rfl) rfl ?_
  refine w_p (y_extract (v := .agg _) rfl rfl rfl) rfl ?_
  refine w_p (y_extract (v := .int _ _) rfl rfl rfl) rfl ?_
  refine w_alloc (cs := [_, _]) want_none Try.zeroValue31 rfl hs25 (fun b26 w27 hs28 => ?_)
  refine w_store (i := 0) (v := .agg #[.int _ _, .int _ _]) (vs := [_, _]) want_none Try.sizeOf31 rfl rfl rfl rfl rfl (by simp [Value.oneCell']) hs28 rfl (Nat.le_of_ble_eq_true rfl) (fun w29 hs30 => ?_)
  refine w_p (y_assign (v := .int _ _) rfl rfl) rfl ?_
  refine w_nil ?_
  refine q_then (hK21 _ _ ?_)
  refine w_seq (fun K32 hK31 => ?_)
  have hx3 := ats_ofL (i := 0) (vs := [_, _]) hs30 rfl rfl
  refine w_region ?_
  refine w_p (y_loadN (vs := [_, _, _]) Try.isAgg25 Try.sizeOf25 hs30.tail rfl rfl hP1) rfl ?_
  refine w_call want_none Try.call20 rfl rfl rfl rfl ((c20 (exB 21) p1 hM1.cons 0 hs30).mono (fun v w' h => by rw [ex_hold1] at h; exact h)) ?_
  rintro _ w34 ⟨rfl, hs35⟩
  refine w_p (y_move (v := .tuple _) rfl rfl) rfl ?_
  refine w_p (y_extract (v := .agg _) rfl rfl rfl) rfl ?_
  refine w_p (y_extract (v := .int _ _) rfl rfl rfl) rfl ?_
  refine w_alloc (cs := [_, _]) want_none Try.zeroValue31 rfl hs35 (fun b36 w37 hs38 => ?_)
  refine w_store (i := 0) (v := .agg #[.int _ _, .int _ _]) (vs := [_, _]) want_none Try.sizeOf31 rfl rfl rfl rfl rfl (by simp [Value.oneCell']) hs38 rfl (Nat.le_of_ble_eq_true rfl) (fun w39 hs40 => ?_)
  refine w_p (y_assign (v := .int _ _) rfl rfl) rfl ?_
  refine w_nil ?_
  refine q_then (hK31 _ _ ?_)
  refine w_seq (fun K42 hK41 => ?_)
  have hx5 := ats_ofL (i := 0) (vs := [_, _]) hs40 rfl rfl
  refine w_region ?_
  refine w_p (y_loadN (vs := [_, _, _]) Try.isAgg25 Try.sizeOf25 hs40.tail.tail rfl rfl hP1) rfl ?_
  refine w_call want_none Try.call23 rfl rfl rfl rfl ((c23 (exB 21) p1 hM1.cons.cons 0 hs40).mono (fun v w' h => by rw [ex_right1] at h; exact h)) ?_
  rintro _ w44 ⟨rfl, hs45⟩
  refine w_p (y_move (v := .tuple _) rfl rfl) rfl ?_
  refine w_p (y_extract (v := .int _ _) rfl rfl rfl) rfl ?_
  refine w_p (y_extract (v := .int _ _) rfl rfl rfl) rfl ?_
  refine w_p (y_assign (v := .int _ _) rfl rfl) rfl ?_
  refine w_p (y_assign (v := .int _ _) rfl rfl) rfl ?_
  refine w_nil ?_
  refine q_then (hK41 _ _ ?_)
  refine w_seq (fun K47 hK46 => ?_)
  refine w_region ?_
  refine w_p (y_loadN (vs := [_, _, _]) Try.isAgg25 Try.sizeOf25 hs45.tail.tail rfl rfl hP1) rfl ?_
  refine w_call want_none Try.call23 rfl rfl rfl rfl ((c23 (exB 21) p1 hM1.cons.cons 1 hs45).mono (fun v w' h => by rw [ex_right2] at h; exact h)) ?_
  rintro _ w49 ⟨rfl, hs50⟩
  refine w_p (y_move (v := .tuple _) rfl rfl) rfl ?_
  refine w_p (y_extract (v := .int _ _) rfl rfl rfl) rfl ?_
  refine w_p (y_extract (v := .int _ _) rfl rfl rfl) rfl ?_
  refine w_p (y_assign (v := .int _ _) rfl rfl) rfl ?_
  refine w_p (y_assign (v := .int _ _) rfl rfl) rfl ?_
  refine w_nil ?_
  refine q_then (hK46 _ _ ?_)
  refine w_seq (fun K52 hK51 => ?_)
  refine w_region ?_
  refine w_p (y_loadN (vs := [_, _, _]) Try.isAgg25 Try.sizeOf25 hs50.tail.tail rfl rfl hP1) rfl ?_
  refine w_call want_none Try.call25 rfl rfl rfl rfl ((c25 (exB 21) p1 hM1.cons.cons 1 1 hs50).mono (fun v w' h => by rw [ex_zero1] at h; exact h)) ?_
  rintro _ w54 ⟨rfl, hs55⟩
  refine w_p (y_move (v := .tuple _) rfl rfl) rfl ?_
  refine w_p (y_extract (v := .int _ _) rfl rfl rfl) rfl ?_
  refine w_p (y_extract (v := .int _ _) rfl rfl rfl) rfl ?_
  refine w_p (y_assign (v := .int _ _) rfl rfl) rfl ?_
  refine w_p (y_assign (v := .int _ _) rfl rfl) rfl ?_
  refine w_nil ?_
  refine q_then (hK51 _ _ ?_)
  refine w_seq (fun K57 hK56 => ?_)
  refine w_region ?_
  refine w_p (y_loadN (vs := [_, _, _]) Try.isAgg25 Try.sizeOf25 hs55.tail.tail rfl rfl hP1) rfl ?_
  refine w_call want_none Try.call27 rfl rfl rfl rfl ((c27 (exB 21) p1 hM1.cons.cons 0 0 hs55).mono (fun v w' h => by rw [ex_looks1] at h; exact h)) ?_
  rintro _ w59 ⟨B1, a1, c1, rfl, hr1, hs60⟩
  replace hs60 := (show St _ _ (B1 ++ (_ :: _ :: Z)) from hs60)
  refine w_p (y_move (v := .tuple _) rfl rfl) rfl ?_
  refine w_p (y_extract (v := .slice _ _ _) rfl rfl rfl) rfl ?_
  refine w_p (y_extract (v := .int _ _) rfl rfl rfl) rfl ?_
  refine w_p (y_assign (v := .slice _ _ _) rfl rfl) rfl ?_
  refine w_p (y_assign (v := .int _ _) rfl rfl) rfl ?_
  refine w_nil ?_
  refine q_then (hK56 _ _ ?_)
  refine w_seq (fun K62 hK61 => ?_)
  refine w_region ?_
  refine w_p (y_loadN (vs := [_, _, _]) Try.isAgg25 Try.sizeOf25 hs60.drop.tail.tail rfl rfl hP1) rfl ?_
  refine w_call want_none Try.call27 rfl rfl rfl rfl ((c27 (exB 21) p1 hM1.cons.cons.app 0 1 hs60).mono (fun v w' h => by rw [ex_looks2] at h; exact h)) ?_
  rintro _ w64 ⟨B2, a2, c2, rfl, hr2, hs65⟩
  replace hs65 := (show St _ _ (B2 ++ (B1 ++ (_ :: _ :: Z))) from hs65)
  refine w_p (y_move (v := .tuple _) rfl rfl) rfl ?_
  refine w_p (y_extract (v := .slice _ _ _) rfl rfl rfl) rfl ?_
  refine w_p (y_extract (v := .int _ _) rfl rfl rfl) rfl ?_
  refine w_p (y_assign (v := .slice _ _ _) rfl rfl) rfl ?_
  refine w_p (y_assign (v := .int _ _) rfl rfl) rfl ?_
  refine w_nil ?_
  refine q_then (hK61 _ _ ?_)
  refine w_seq (fun K67 hK66 => ?_)
  refine w_region ?_
  refine w_p (y_loadN (vs := [_, _, _]) Try.isAgg25 Try.sizeOf25 hs65.drop.drop.tail.tail rfl rfl hP2) rfl ?_
  refine w_call want_none Try.call30 rfl rfl rfl rfl ((c30 (exB 30) p2 hM2.cons.cons.app.app hs65).mono (fun v w' h => by rw [ex_wrong1] at h; exact h)) ?_
  rintro _ w69 ⟨B3, a3, c3, rfl, hr3, hs70⟩
  replace hs70 := (show St _ _ (B3 ++ (B2 ++ (B1 ++ (_ :: _ :: Z)))) from hs70)
  refine w_p (y_move (v := .tuple _) rfl rfl) rfl ?_
  refine w_p (y_extract (v := .slice _ _ _) rfl rfl rfl) rfl ?_
  refine w_p (y_extract (v := .int _ _) rfl rfl rfl) rfl ?_
  refine w_p (y_assign (v := .slice _ _ _) rfl rfl) rfl ?_
  refine w_p (y_assign (v := .int _ _) rfl rfl) rfl ?_
  refine w_nil ?_
  refine q_then (hK66 _ _ ?_)
  refine w_seq (fun K72 hK71 => ?_)
  refine w_region ?_
  refine w_p (y_loadN (vs := [_, _, _]) Try.isAgg25 Try.sizeOf25 hs70.drop.drop.drop.tail.tail rfl rfl hP2) rfl ?_
  refine w_call want_none Try.call18 rfl rfl rfl rfl ((c18 (exB 30) p2 hM2.cons.cons.app.app.app 0 hs70).mono (fun v w' h => by rw [ex_went2] at h; exact h)) ?_
  rintro _ w74 ⟨rfl, hs75⟩
  refine w_p (y_move (v := .tuple _) rfl rfl) rfl ?_
  refine w_p (y_extract (v := .agg _) rfl rfl rfl) rfl ?_
  refine w_p (y_extract (v := .int _ _) rfl rfl rfl) rfl ?_
  refine w_alloc (cs := [_, _]) want_none Try.zeroValue31 rfl hs75 (fun b76 w77 hs78 => ?_)
  refine w_store (i := 0) (v := .agg #[.int _ _, .int _ _]) (vs := [_, _]) want_none Try.sizeOf31 rfl rfl rfl rfl rfl (by simp [Value.oneCell']) hs78 rfl (Nat.le_of_ble_eq_true rfl) (fun w79 hs80 => ?_)
  refine w_p (y_assign (v := .int _ _) rfl rfl) rfl ?_
  refine w_nil ?_
  refine q_then (hK71 _ _ ?_)
  refine w_seq (fun K82 hK81 => ?_)
  refine w_region ?_
  refine w_p (y_loadN (vs := [_, _, _]) Try.isAgg25 Try.sizeOf25 hs80.tail.drop.drop.drop.tail.tail rfl rfl hP1) rfl ?_
  refine w_call want_none Try.call27 rfl rfl rfl rfl ((c27 (exB 21) p1 hM1.cons.cons.app.app.app.cons 0 (-1) hs80).mono (fun v w' h => by rw [ex_looks3] at h; exact h)) ?_
  rintro _ w84 ⟨B4, a4, c4, rfl, hr4, hs85⟩
  replace hs85 := (show St _ _ (B4 ++ (_ :: B3 ++ (B2 ++ (B1 ++ (_ :: _ :: Z))))) from hs85)
  refine w_p (y_move (v := .tuple _) rfl rfl) rfl ?_
  refine w_p (y_extract (v := .slice _ _ _) rfl rfl rfl) rfl ?_
  refine w_p (y_extract (v := .int _ _) rfl rfl rfl) rfl ?_
  refine w_p (y_assign (v := .slice _ _ _) rfl rfl) rfl ?_
  refine w_p (y_assign (v := .int _ _) rfl rfl) rfl ?_
  refine w_nil ?_
  refine q_then (hK81 _ _ ?_)
  refine w_seq (fun K87 hK86 => ?_)
  refine w_draw [] [(0, 0), (1, 0), (2, 0), (3, 0), (4, 0), (5, 0), (6, 0), (7, 0), (8, 0), (9, 0), (10, 0), (11, 0), (12, 0), (13, 0), (14, 0), (15, 0), (16, 0), (17, 0), (18, 0), (19, 0), (20, 0), (21, 0), (22, 0), (23, 0), (24, 0), (25, 0), (26, 0), (27, 0), (28, 0), (29, 0), (30, 0), (31, 0), (32, 0), (33, 0), (34, 0), (35, 0), (36, 0), (37, 0), (38, 0), (39, 1), (40, 2), (41, 0), (42, 0), (43, 0), (44, 1), (45, 2), (46, 0), (47, 0), (48, 0), (49, 0), (50, 0), (51, 0), (52, 0), (53, 0), (54, 0), (55, 0), (56, 0), (57, 0), (58, 0), (59, 0), (60, 0), (61, 0), (62, 2), (63, 2), (64, 0), (65, 0), (66, 0), (67, 0), (68, 0), (69, 0), (70, 0), (71, 0), (72, 2), (73, 2), (74, 0), (75, 0)] Try_mo (drawOK_of (by kernel_rfl)) hs85 (fun w88 hs89 => ?_)
  refine d_any rfl want_none rfl (fun _ => (y_move (v := .int _ _) rfl rfl)) ?_
  refine d_any rfl want_none rfl (fun _ => (y_eql rfl rfl rfl rfl)) ?_
  refine d_any rfl want_none rfl (fun _ => (y_move (v := .bool _) rfl rfl)) ?_
  refine d_any rfl (want_yes rfl rfl rfl) rfl (fun _ => (y_move (v := .int _ _) rfl rfl)) ?_
  refine d_any rfl (want_yes rfl rfl rfl) rfl (fun _ => (y_eql rfl rfl rfl rfl)) ?_
  refine d_any rfl want_none rfl (fun _ => (y_pickT (v := .bool _) rfl rfl rfl rfl)) ?_
  refine d_any rfl want_none rfl (fun _ => (y_move (v := .bool _) rfl rfl)) ?_
  refine d_any rfl (want_yes rfl rfl rfl) rfl (fun _ => (y_move (v := .int _ _) rfl rfl)) ?_
  refine d_any rfl (want_yes rfl rfl rfl) rfl (fun _ => (y_eql rfl rfl rfl rfl)) ?_
  refine d_any rfl want_none rfl (fun _ => (y_pickT (v := .bool _) rfl rfl rfl rfl)) ?_
  refine d_any rfl want_none rfl (fun _ => (y_move (v := .bool _) rfl rfl)) ?_
  refine d_any rfl (want_yes rfl rfl rfl) rfl (fun _ => (y_move (v := .int _ _) rfl rfl)) ?_
  refine d_any rfl (want_yes rfl rfl rfl) rfl (fun _ => (y_eql rfl rfl rfl rfl)) ?_
  refine d_any rfl want_none rfl (fun _ => (y_pickT (v := .bool _) rfl rfl rfl rfl)) ?_
  refine d_any rfl want_none rfl (fun _ => (y_move (v := .bool _) rfl rfl)) ?_
  refine d_any rfl (want_yes rfl rfl rfl) rfl (fun _ => (y_move (v := .int _ _) rfl rfl)) ?_
  refine d_any rfl (want_yes rfl rfl rfl) rfl (fun _ => (y_eql rfl rfl rfl rfl)) ?_
  refine d_any rfl want_none rfl (fun _ => (y_pickT (v := .bool _) rfl rfl rfl rfl)) ?_
  refine d_any rfl want_none rfl (fun _ => (y_move (v := .bool _) rfl rfl)) ?_
  refine d_any rfl (want_yes rfl rfl rfl) rfl (fun _ => (y_move (v := .int _ _) rfl rfl)) ?_
  refine d_any rfl (want_yes rfl rfl rfl) rfl (fun _ => (y_eql rfl rfl rfl rfl)) ?_
  refine d_any rfl want_none rfl (fun _ => (y_pickT (v := .bool _) rfl rfl rfl rfl)) ?_
  refine d_any rfl want_none rfl (fun _ => (y_move (v := .bool _) rfl rfl)) ?_
  refine d_any rfl (want_yes rfl rfl rfl) rfl (fun _ => (y_move (v := .int _ _) rfl rfl)) ?_
  refine d_any rfl (want_yes rfl rfl rfl) rfl (fun _ => (y_eql rfl rfl rfl rfl)) ?_
  refine d_any rfl want_none rfl (fun _ => (y_pickT (v := .bool _) rfl rfl rfl rfl)) ?_
  refine d_any rfl want_none rfl (fun _ => (y_move (v := .bool _) rfl rfl)) ?_
  refine d_any rfl (want_yes rfl rfl rfl) rfl (fun _ => (y_move (v := .int _ _) rfl rfl)) ?_
  refine d_any rfl (want_yes rfl rfl rfl) rfl (fun _ => (y_eql rfl rfl rfl rfl)) ?_
  refine d_any rfl want_none rfl (fun _ => (y_pickT (v := .bool _) rfl rfl rfl rfl)) ?_
  refine d_any rfl want_none rfl (fun _ => (y_move (v := .bool _) rfl rfl)) ?_
  refine d_any rfl (want_yes rfl rfl rfl) rfl (fun _ => (y_move (v := .int _ _) rfl rfl)) ?_
  refine d_any rfl (want_yes rfl rfl rfl) rfl (fun _ => (y_eql rfl rfl rfl rfl)) ?_
  refine d_any rfl want_none rfl (fun _ => (y_pickT (v := .bool _) rfl rfl rfl rfl)) ?_
  refine d_any rfl want_none rfl (fun _ => (y_move (v := .bool _) rfl rfl)) ?_
  refine d_any rfl (want_yes rfl rfl rfl) rfl (fun _ => (y_move (v := .int _ _) rfl rfl)) ?_
  refine d_any rfl (want_yes rfl rfl rfl) rfl (fun _ => (y_eql rfl rfl rfl rfl)) ?_
  refine d_any rfl want_none rfl (fun _ => (y_pickT (v := .bool _) rfl rfl rfl rfl)) ?_
  refine d_any rfl want_none rfl (fun _ => (y_move (v := .bool _) rfl rfl)) ?_
  refine d_take rfl (want_yes rfl rfl rfl) rfl hs89 (fun _ hq => (y_loadN (vs := [_, _]) Try.isAgg31 Try.sizeOf31 hq.drop.tail.drop.drop.drop.tail rfl rfl hx3)) ?_
  refine d_eff rfl ?_
  refine w_call (want_yes rfl rfl rfl) Try.call33 rfl rfl rfl rfl (c33 _ _ hs89) ?_
  rintro _ w91 ⟨rfl, hs92⟩
  refine w_nil ?_
  refine qn ⟨hs92, ?_⟩
  refine d_any rfl (want_yes rfl rfl rfl) rfl (fun _ => (y_eqFlat (l := [_, _]) (m := [_, _]) Try.eqGuardType31 Try_flat31 (by first | omega | rfl | (simp only [List.length_map, List.length_set, List.length_append, List.length_take, List.length_drop, List.length_replicate, List.length_cons, List.length_nil] <;> omega)) (by first | omega | rfl | (simp only [List.length_map, List.length_set, List.length_append, List.length_take, List.length_drop, List.length_replicate, List.length_cons, List.length_nil] <;> omega)) rfl rfl rfl rfl rfl rfl)) ?_
  refine d_any rfl want_none rfl (fun _ => (y_pickT (v := .bool _) rfl rfl rfl rfl)) ?_
  refine d_any rfl want_none rfl (fun _ => (y_move (v := .bool _) rfl rfl)) ?_
  refine d_split (fun h93 => ?_) (fun h93 => ?_)
  ·
   try simp only [zA, zB, zC, zD, zE, zF] at h93
   refine d_take rfl (want_yes rfl rfl rfl) rfl hs92 (fun _ hq => (y_loadN (vs := [_, _]) Try.isAgg31 Try.sizeOf31 hq.drop.tail.drop.drop.drop rfl rfl hx5)) ?_
   refine d_eff rfl ?_
   refine w_call (want_yes rfl rfl rfl) Try.call33 rfl rfl rfl rfl (c33 _ _ hs92) ?_
   rintro _ w95 ⟨rfl, hs96⟩
   refine w_nil ?_
   refine qn ⟨hs96, ?_⟩
   refine d_any rfl (want_yes rfl rfl rfl) rfl (fun _ => (y_eqFlat (l := [_, _]) (m := [_, _]) Try.eqGuardType31 Try_flat31 (by first | omega | rfl | (simp only [List.length_map, List.length_set, List.length_append, List.length_take, List.length_drop, List.length_replicate, List.length_cons, List.length_nil] <;> omega)) (by first | omega | rfl | (simp only [List.length_map, List.length_set, List.length_append, List.length_take, List.length_drop, List.length_replicate, List.length_cons, List.length_nil] <;> omega)) rfl rfl rfl rfl rfl rfl)) ?_
   refine d_any rfl want_none rfl (fun _ => (y_pickT (v := .bool _) rfl rfl rfl rfl)) ?_
   refine d_any rfl want_none rfl (fun _ => (y_move (v := .bool _) rfl rfl)) ?_
   refine d_split (fun h97 => ?_) (fun h97 => ?_)
   ·
    try simp only [zA, zB, zC, zD, zE, zF] at h97
    refine d_any rfl (want_yes rfl rfl rfl) rfl (fun _ => (y_move (v := .int _ _) rfl rfl)) ?_
    refine d_any rfl (want_yes rfl rfl rfl) rfl (fun _ => (y_eql rfl rfl rfl rfl)) ?_
    refine d_any rfl want_none rfl (fun _ => (y_pickT (v := .bool _) rfl rfl rfl rfl)) ?_
    refine d_any rfl want_none rfl (fun _ => (y_move (v := .bool _) rfl rfl)) ?_
    refine d_any rfl (want_yes rfl rfl rfl) rfl (fun _ => (y_move (v := .int _ _) rfl rfl)) ?_
    refine d_any rfl (want_yes rfl rfl rfl) rfl (fun _ => (y_eql rfl rfl rfl rfl)) ?_
    refine d_any rfl want_none rfl (fun _ => (y_pickT (v := .bool _) rfl rfl rfl rfl)) ?_
    refine d_any rfl want_none rfl (fun _ => (y_move (v := .bool _) rfl rfl)) ?_
    refine d_any rfl (want_yes rfl rfl rfl) rfl (fun _ => (y_move (v := .int _ _) rfl rfl)) ?_
    refine d_any rfl (want_yes rfl rfl rfl) rfl (fun _ => (y_eql rfl rfl rfl rfl)) ?_
    refine d_any rfl want_none rfl (fun _ => (y_pickT (v := .bool _) rfl rfl rfl rfl)) ?_
    refine d_any rfl want_none rfl (fun _ => (y_move (v := .bool _) rfl rfl)) ?_
    refine d_any rfl (want_yes rfl rfl rfl) rfl (fun _ => (y_move (v := .slice _ _ _) rfl rfl)) ?_
    refine d_eff rfl ?_
    refine w_bslice (ps := [(0, _)]) (pv := [(0, .int _ _)]) (cs := [_]) (want_yes rfl rfl rfl) rfl rfl (fun w => Try_Ya_fb17 _ w) hs96 (fun b98 w99 hs100 => ?_)
    refine w_nil ?_
    refine qn ⟨hs100.tail, ?_⟩
    refine d_eff rfl ?_
    refine w_call (want_yes rfl rfl rfl) Try.call29 rfl rfl rfl rfl (con_true (c29 _ _ [0] [0] _ _ (by decide) hr1.top.app.app.cons.app.cons (sl_own (i := 0) (rows := [[_]]) rfl (by simp) rfl) hs100) (by decide)) ?_
    rintro _ w102 ⟨rfl, hs103⟩
    refine w_nil ?_
    refine qn ⟨hs103.tail, ?_⟩
    refine d_any rfl want_none rfl (fun _ => (y_pickT (v := .bool _) rfl rfl rfl rfl)) ?_
    refine d_any rfl want_none rfl (fun _ => (y_move (v := .bool _) rfl rfl)) ?_
    refine d_any rfl (want_yes rfl rfl rfl) rfl (fun _ => (y_move (v := .slice _ _ _) rfl rfl)) ?_
    refine d_any rfl (want_yes rfl rfl rfl) rfl (fun _ => (y_lenS Try.underlying39 rfl rfl)) ?_
    refine d_any rfl (want_yes rfl rfl rfl) rfl (fun _ => (y_eql rfl rfl rfl rfl)) ?_
    refine d_any rfl want_none rfl (fun _ => (y_pickT (v := .bool _) rfl rfl rfl rfl)) ?_
    refine d_any rfl want_none rfl (fun _ => (y_move (v := .bool _) rfl rfl)) ?_
    refine d_split (fun h104 => ?_) (fun h104 => ?_)
    ·
     try simp only [zA, zB, zC, zD, zE, zF] at h104
     refine d_any rfl (want_yes rfl rfl rfl) rfl (fun _ => (y_move (v := .slice _ _ _) rfl rfl)) ?_
     refine d_eff rfl ?_
     refine w_bslice (ps := [(0, _)]) (pv := [(0, .int _ _)]) (cs := [_]) (want_yes rfl rfl rfl) rfl rfl (fun w => Try_Ya_fb17 _ w) hs103 (fun b105 w106 hs107 => ?_)
     refine w_nil ?_
     refine qn ⟨hs107.tail.tail, ?_⟩
     refine d_eff rfl ?_
     refine w_call (want_yes rfl rfl rfl) Try.call29 rfl rfl rfl rfl (con_true (c29 _ _ [5] [5] _ _ (by decide) hr3.top.cons.app.cons.cons (sl_own (i := 0) (rows := [[_]]) rfl (by simp) rfl) hs107) (by decide)) ?_
     rintro _ w109 ⟨rfl, hs110⟩
     refine w_nil ?_
     refine qn ⟨hs110.tail.tail, ?_⟩
     refine d_any rfl want_none rfl (fun _ => (y_pickT (v := .bool _) rfl rfl rfl rfl)) ?_
     refine d_any rfl want_none rfl (fun _ => (y_assign (v := .bool _) rfl rfl)) ?_
     refine d_nil ?_
     refine q_then (hK86 _ _ ?_)
     refine w_ret ?_
     refine q_ret (l := [.tmp 0]) (vs := [_]) rfl ⟨⟨rfl, show _ = (.bool _ : Value) from rfl⟩, trivial⟩ ?_
     exact ⟨rfl, (St.cast hZ hs110.tail.tail.drop.tail.drop.drop.drop.tail.tail).tail.tail.drop.drop⟩
    ·
     exfalso; simp at h104
   ·
    exfalso; simp at h97
  ·
   exfalso; simp at h93

end Go.Proofs
/- Walks of this seat, printed by gen.py over the engine: what each function returns, in whatever world. No conditions but those of each contract. -/
set_option linter.unusedVariables false
set_option linter.unusedSimpArgs false
set_option maxRecDepth 20000
namespace Go.Proofs
open Go.Rt Go.Rt.Ch
open Go.Rt.Ha (firstE firstE_step firstE_stop firstE_end failE nameE felt spanL upto span_mem listL fewest fewTo bit before fewStep drop_lt drop_get drop_next drop_done drop_notin set_take set_zero take_less Lot Bunch feltTo fTo fPart felt_zero felt_step fTo_succ fTo_len fPart_succ fPart_len fPart_all filt_yes filt_no upto_len at_ someOf choicesTo cfind_here cfind_next cfind_on choices_fin pick_idx pickL_in find_on find_next)
attribute [local irreducible] WL WC Con Yd At Ats Sl Agree DW

theorem wrong_short (b : Board) : (wrongP b).1.length ≤ 64 := by
  unfold wrongP
  split
  · simp
  · rename_i h
    have hok := check_ok (Decidable.not_not.1 h)
    have h1 := (mN_le hok).1
    have h2 := Go.Rt.Ch.few_len (wrongS b) (mN b) (1 <<< mN b)
    unfold mN at h1 h2
    unfold Go.Rt.Ha.fewest; dsimp only; omega
theorem c6 {w0 w : World} {F : List (Nat × Obj)} (b : Board) (p : AtB) (hm : BIn w0 F b p) (hnl : ∀ i, i < b.ctrs.length → (p.pc i).as = none → (p.pc i).cs = 0) (hs : St w0 w F) :
  Con Try.prog 6 [.agg (b.cells p).toArray] w fun v w' => v = .bool true ∧ St w0 w' F := by
  refine con_of_wc (n := 28) Try.func6 rfl rfl (Nat.le_of_ble_eq_true rfl) ?_
  refine w_seq (fun K2 hK1 => ?_)
  refine w_region ?_
  refine w_box (v := .agg #[.int _ _, .slice _ _ _, .slice _ _ _]) (cs := [_, _, _]) want_none rfl rfl rfl hs (fun b3 w4 hs5 => ?_)
  refine w_p (y_assign (v := _) rfl rfl) rfl ?_
  refine w_nil ?_
  refine q_then (hK1 _ _ ?_)
  refine w_seq (fun K7 hK6 => ?_)
  have hbx := ats_ofK (i := 0) (vs := b.cells p) hs5 rfl rfl
  refine w_region ?_
  refine w_p (y_loadN (vs := [_, _, _]) Try.isAgg25 Try.sizeOf25 hs5 rfl rfl hbx) rfl ?_
  refine w_call want_none Try.call30 rfl rfl rfl rfl (c30 b _ hm.cons hs5) ?_
  rintro _ w9 ⟨B1, a1, c1, rfl, hq1, hs10⟩
  replace hs10 := (show St _ _ (B1 ++ (_ :: F)) from hs10)
  refine w_p (y_move (v := .tuple _) rfl rfl) rfl ?_
  refine w_p (y_extract (v := .slice _ _ _) rfl rfl rfl) rfl ?_
  refine w_p (y_extract (v := .int _ _) rfl rfl rfl) rfl ?_
  refine w_p (y_assign (v := .slice _ _ _) rfl rfl) rfl ?_
  refine w_p (y_assign (v := .int _ _) rfl rfl) rfl ?_
  refine w_nil ?_
  refine q_then (hK6 _ _ ?_)
  refine w_seq (fun K12 hK11 => ?_)
  refine w_region ?_
  refine w_p (y_loadN (vs := [_, _, _]) Try.isAgg25 Try.sizeOf25 hs10.drop rfl rfl hbx) rfl ?_
  refine w_call want_none Try.call31 rfl rfl rfl rfl (c31 b _ hm.cons.app hnl hs10) ?_
  rintro _ w14 ⟨B2, a2, c2, rfl, hq2, hs15⟩
  replace hs15 := (show St _ _ (B2 ++ (B1 ++ (_ :: F))) from hs15)
  refine w_p (y_move (v := .tuple _) rfl rfl) rfl ?_
  refine w_p (y_extract (v := .slice _ _ _) rfl rfl rfl) rfl ?_
  refine w_p (y_extract (v := .int _ _) rfl rfl rfl) rfl ?_
  refine w_p (y_assign (v := .slice _ _ _) rfl rfl) rfl ?_
  refine w_p (y_assign (v := .int _ _) rfl rfl) rfl ?_
  refine w_nil ?_
  refine q_then (hK11 _ _ ?_)
  refine w_seq (fun K17 hK16 => ?_)
  refine w_region ?_
  refine w_p (y_move (v := .slice _ _ _) rfl rfl) rfl ?_
  refine w_p (y_move (v := .slice _ _ _) rfl rfl) rfl ?_
  refine w_call want_none Try.call29 rfl rfl rfl rfl (c29 _ _ (wrongP b).1 (wrongP b).1 _ _ (by have := wrong_short b; omega) hq1.top.app hq2.top hs15) ?_
  rintro _ w19 ⟨rfl, hs20⟩
  refine w_p (y_move (v := .bool _) rfl rfl) rfl ?_
  refine w_split (fun h21 => ?_) (fun h21 => ?_)
  ·
   try simp only [zA, zB, zC, zD, zE, zF] at h21
   refine w_y rfl rfl rfl (y_move (v := .int _ _) rfl rfl) rfl ?_
   refine w_y rfl rfl rfl (y_move (v := .int _ _) rfl rfl) rfl ?_
   refine w_y rfl rfl rfl (y_eql rfl rfl rfl rfl) rfl ?_
   refine w_p (y_pickT (v := .bool _) rfl rfl rfl rfl) rfl ?_
   refine w_p (y_move (v := .bool _) rfl rfl) rfl ?_
   refine w_split (fun h22 => ?_) (fun h22 => ?_)
   ·
    try simp only [zA, zB, zC, zD, zE, zF] at h22
    refine w_call (want_yes rfl rfl rfl) Try.call22 rfl rfl rfl rfl (c22 hs20) ?_
    rintro _ w24 ⟨rfl, hs25⟩
    refine w_p (y_pickT (v := .bool _) rfl rfl rfl rfl) rfl ?_
    refine w_p (y_assign (v := .bool _) rfl rfl) rfl ?_
    refine w_nil ?_
    refine q_then (hK16 _ _ ?_)
    refine w_ret ?_
    refine q_ret (l := [.tmp 2]) (vs := [_]) rfl ⟨⟨rfl, show _ = (.bool _ : Value) from rfl⟩, trivial⟩ ?_
    exact ⟨rfl, hs25.drop.drop.tail⟩
   ·
    exfalso; simp at h22
  ·
   exfalso; simp at h21

end Go.Proofs
