/- Own texts of this claim, joined. No conditions. -/
import Derived.Test.YtgndnnpadkoagaaHChainLookeda
import Derived.Test.YtgndnnpadkoagaaHChainLookedb
import Derived.Test.YtgndnnpadkoagaaHChainLookedc
import Derived.Test.YtgndnnpadkoagaaHChainLookedd
import Derived.Test.YtgndnnpadkoagaaHChainLookede
/- Walks of this seat, printed by gen.py over the engine: what each function returns, in whatever world. No conditions but those of each contract. -/
set_option linter.unusedVariables false
set_option linter.unusedSimpArgs false
set_option maxRecDepth 20000
namespace Go.Proofs
open Go.Rt Go.Rt.Ch
open Go.Rt.Ha (firstE firstE_step firstE_stop firstE_end failE nameE felt spanL upto span_mem listL fewest fewTo bit before fewStep drop_lt drop_get drop_next drop_done drop_notin set_take set_zero take_less Lot Bunch feltTo fTo fPart felt_zero felt_step fTo_succ fTo_len fPart_succ fPart_len fPart_all filt_yes filt_no upto_len at_ someOf choicesTo)
attribute [local irreducible] WL WC Con Yd At Ats Sl Agree DW
theorem Try_Ye_fb8 (x0 : Option Addr) (l0 c0 : Nat) (w : World) : (Instr.buildSlice 66 1 [(0, .slice x0 l0 c0)].toArray).run Try.prog w = .ok (.slice (some ⟨w.heap.size, 0, none⟩) 1 1) (w.alloc (Go.Rt.blk 39 [.slice x0 l0 c0])) := by kernel_rfl
theorem c91 {w0 w : World} {X F : List (Nat × Obj)} (a : Option Addr) (c : Nat) (ws : List (List Int)) (vs : List Value) (hsl : Sl w0 F a 1 (vs.map fun v => [v])) (hel : EL w0 F vs ws) (hwl : ws.length ≤ 256) (n : Nat) (hlen : ∀ m ∈ ws, m.length = n) (al : Option Addr) (cl : Nat) (l : List Int) (hll : l.length = n) (hl : Sl w0 F al 1 (l.map fun x => [Value.int .i64 x])) (ah : Option Addr) (ch : Nat) (hours : List Int) (hhl : hours.length ≤ 4) (hh : ∀ z ∈ hours, 0 ≤ z ∧ z < n) (hhs : Sl w0 F ah 1 (hours.map fun x => [Value.int .i64 x])) (hs : St w0 w (X ++ F)) :
  Con Try.prog 91 [.slice a ws.length c, .slice al l.length cl, .slice ah hours.length ch] w fun v w' => ∃ (B : List (Nat × Obj)) (vs' : List Value) (a' : Option Addr) (c' : Nat), v = .slice a' (like ws l hours).length c' ∧ Sl w0 B a' 1 (vs'.map fun v => [v]) ∧ EL w0 F vs' (like ws l hours) ∧ St w0 w' (B ++ (X ++ F)) := by
  refine con_of_wc (n := 53) Try.func91 rfl rfl (Nat.le_of_ble_eq_true rfl) ?_
  refine w_seq (fun K2 hK1 => ?_)
  refine w_region ?_
  refine w_p (y_assign (v := _) rfl rfl) rfl ?_
  refine w_nil ?_
  refine q_then (hK1 _ _ ?_)
  refine w_seq (fun K4 hK3 => ?_)
  refine w_region ?_
  refine w_p (y_assign (v := _) rfl rfl) rfl ?_
  refine w_nil ?_
  refine q_then (hK3 _ _ ?_)
  refine w_seq (fun K6 hK5 => ?_)
  refine w_seq (fun K8 hK7 => ?_)
  refine w_region ?_
  refine w_p (y_assign (v := _) rfl rfl) rfl ?_
  refine w_nil ?_
  refine q_then (hK7 _ _ ?_)
  refine w_block ?_
  refine w_loop [7, 8, 9, 10, 11, 12, 13, 14, 15, 16, 17, 18, 19, 20, 21, 22, 23, 24, 25, 26, 27, 28, 29, 30, 31, 32, 33, 34, 35, 36, 37, 38, 39, 40, 41, 42, 43, 44, 45, 46, 47, 48, 49, 50, 51] [7, 8] (fun kk vs0 w => ∃ (i : Nat) (v : Value) (OB : List (Nat × Obj)) (vw : List Value), vs0 = [v, .int .i64 i] ∧ i ≤ ws.length ∧ kk = ws.length - i ∧ Rt.Own v 39 1 ((ws.take i).filter (likeB hours l)).length vw OB ∧ EL w0 F vw ((ws.take i).filter (likeB hours l)) ∧ St w0 w (OB ++ (X ++ F))) (ws.length) ?_ ?_
  ·
   exact ⟨0, _, [], [], rfl, by omega, by omega, own_nil 39 1, EL.nil _ _, hs⟩
  ·
   intro k vs μ w11 hI K10 hN9
   obtain ⟨i, v, OB, vw, rfl, hia, rfl, hown, hel1, hs⟩ := hI
   refine w_seq (fun K13 hK12 => ?_)
   refine w_seq (fun K15 hK14 => ?_)
   refine w_region ?_
   refine w_p (y_move (v := .int _ _) rfl rfl) rfl ?_
   refine w_p (y_move (v := .slice _ _ _) rfl rfl) rfl ?_
   refine w_p (y_lenS Try.underlying66 rfl rfl) rfl ?_
   refine w_p (y_lss rfl rfl rfl rfl) rfl ?_
   refine w_nil ?_
   refine q_then (hK14 _ _ ?_)
   refine w_cond rfl rfl (fun h16 => ?_) (fun h16 => ?_)
   ·
    try simp only [zA, zB, zC, zD, zE, zF] at h16
    refine w_skip ?_
    refine q_then (hK12 _ _ ?_)
    refine w_seq (fun K18 hK17 => ?_)
    refine w_block ?_
    refine w_seq (fun K20 hK19 => ?_)
    have hi2 : i < ws.length := by omega
    obtain ⟨ub, uo, ue, uq, ua, ux, us, un⟩ := el_at hsl hel hi2
    subst ua
    have hlm := hlen _ (List.getElem_mem hi2)
    have hwi : ((ws.take i).filter (likeB hours l)).length ≤ i := by have := List.length_filter_le (likeB hours l) (ws.take i); rw [List.length_take] at this; omega
    refine w_region ?_
    refine w_p (y_assign (v := _) rfl rfl) rfl ?_
    refine w_nil ?_
    refine q_then (hK19 _ _ ?_)
    refine w_seq (fun K22 hK21 => ?_)
    refine w_seq (fun K24 hK23 => ?_)
    refine w_region ?_
    refine w_p (y_assign (v := _) rfl rfl) rfl ?_
    refine w_nil ?_
    refine q_then (hK23 _ _ ?_)
    refine w_block ?_
    refine w_loop [9, 10, 17, 18, 19, 20, 21, 22, 23, 24, 25, 26, 27, 28, 29, 30, 31, 32, 33, 34, 35, 36, 37, 38, 39, 40, 41, 42, 43] [9, 10] (fun kk vs0 w => ∃ (j : Nat), vs0 = [.bool (likeB (hours.take j) l (ws[i]'hi2)), .int .i64 j] ∧ j ≤ hours.length ∧ kk = hours.length - j ∧ St w0 w (OB ++ (X ++ F))) (hours.length) ?_ ?_
    ·
     exact ⟨0, rfl, by omega, by omega, hs⟩
    ·
     intro k vs μ w27 hI K26 hN25
     obtain ⟨j, rfl, hja, rfl, hs⟩ := hI
     generalize hcn : likeB (hours.take j) l (ws[i]'hi2) = cn
     refine w_seq (fun K29 hK28 => ?_)
     refine w_seq (fun K31 hK30 => ?_)
     refine w_region ?_
     refine w_p (y_move (v := .int _ _) rfl rfl) rfl ?_
     refine w_p (y_move (v := .slice _ _ _) rfl rfl) rfl ?_
     refine w_p (y_lenS Try.underlying39 rfl rfl) rfl ?_
     refine w_p (y_lss rfl rfl rfl rfl) rfl ?_
     refine w_nil ?_
     refine q_then (hK30 _ _ ?_)
     refine w_cond rfl rfl (fun h32 => ?_) (fun h32 => ?_)
     ·
      try simp only [zA, zB, zC, zD, zE, zF] at h32
      refine w_skip ?_
      refine q_then (hK28 _ _ ?_)
      refine w_seq (fun K34 hK33 => ?_)
      refine w_block ?_
      have hj2 : j < hours.length := by omega
      have hz := hh _ (List.getElem_mem hj2)
      have hzm : (hours[j]'hj2).toNat < (ws[i]'hi2).length := by omega
      have hzl : (hours[j]'hj2).toNat < l.length := by omega
      obtain ⟨hb, ho, hhe, hhx⟩ := sl_ints hhs hj2
      subst hhe
      obtain ⟨mb, mo, hme, hmx⟩ := sl_ints us hzm
      subst hme
      obtain ⟨lb, lo, hle, hlx⟩ := sl_ints hl hzl
      subst hle
      rw [← ld_at hzm] at hmx
      rw [← ld_at hzl] at hlx
      refine w_draw [] [(0, 0), (1, 0), (2, 0), (3, 0), (4, 0), (5, 1), (6, 0), (7, 0), (8, 0), (9, 1), (10, 0), (11, 1), (12, 0), (13, 0), (14, 0), (15, 0), (16, 1), (17, 0), (18, 1), (19, 0), (20, 0), (21, 0)] Try_mo (drawOK_of (by kernel_rfl)) hs (fun w35 hs36 => ?_)
      refine d_any rfl want_none rfl (fun _ => (y_move (v := .bool _) rfl rfl)) ?_
      refine d_any rfl want_none rfl (fun _ => (y_move (v := .bool _) rfl rfl)) ?_
      refine d_split (fun h37 => ?_) (fun h37 => ?_)
      ·
       subst h37
       refine d_any rfl (want_yes rfl rfl rfl) rfl (fun _ => (y_move (v := .slice _ _ _) rfl rfl)) ?_
       refine d_any rfl (want_yes rfl rfl rfl) rfl (fun _ => (y_move (v := .int _ _) rfl rfl)) ?_
       refine d_any rfl (want_yes rfl rfl rfl) rfl (fun _ => (y_indexS Try.underlying66 Try.sizeOf39 rfl rfl rfl rfl (i := i) rfl hi2)) ?_
       refine d_take rfl (want_yes rfl rfl rfl) rfl hs36 (fun _ hq => (y_load1 Try.isAgg39 hq.drop.drop rfl rfl ux)) ?_
       refine d_any rfl (want_yes rfl rfl rfl) rfl (fun _ => (y_move (v := .slice _ _ _) rfl rfl)) ?_
       refine d_any rfl (want_yes rfl rfl rfl) rfl (fun _ => (y_move (v := .int _ _) rfl rfl)) ?_
       refine d_any rfl (want_yes rfl rfl rfl) rfl (fun _ => (y_indexS Try.underlying39 Try.sizeOf3 rfl rfl rfl rfl (i := j) rfl hj2)) ?_
       refine d_take rfl (want_yes rfl rfl rfl) rfl hs36 (fun _ hq => (y_load1 Try.isAgg3 hq.drop.drop rfl rfl hhx)) ?_
       refine d_any rfl (want_yes rfl rfl rfl) rfl (fun _ => (y_indexS Try.underlying39 Try.sizeOf3 rfl rfl rfl rfl (i := (hours[j]'hj2).toNat) (by omega) hzm)) ?_
       refine d_take rfl (want_yes rfl rfl rfl) rfl hs36 (fun _ hq => (y_load1 Try.isAgg3 hq.drop.drop rfl rfl hmx)) ?_
       refine d_any rfl (want_yes rfl rfl rfl) rfl (fun _ => (y_move (v := .slice _ _ _) rfl rfl)) ?_
       refine d_any rfl (want_yes rfl rfl rfl) rfl (fun _ => (y_move (v := .slice _ _ _) rfl rfl)) ?_
       refine d_any rfl (want_yes rfl rfl rfl) rfl (fun _ => (y_move (v := .int _ _) rfl rfl)) ?_
       refine d_any rfl (want_yes rfl rfl rfl) rfl (fun _ => (y_indexS Try.underlying39 Try.sizeOf3 rfl rfl rfl rfl (i := j) rfl hj2)) ?_
       refine d_take rfl (want_yes rfl rfl rfl) rfl hs36 (fun _ hq => (y_load1 Try.isAgg3 hq.drop.drop rfl rfl hhx)) ?_
       refine d_any rfl (want_yes rfl rfl rfl) rfl (fun _ => (y_indexS Try.underlying39 Try.sizeOf3 rfl rfl rfl rfl (i := (hours[j]'hj2).toNat) (by omega) hzl)) ?_
       refine d_take rfl (want_yes rfl rfl rfl) rfl hs36 (fun _ hq => (y_load1 Try.isAgg3 hq.drop.drop rfl rfl hlx)) ?_
       refine d_any rfl (want_yes rfl rfl rfl) rfl (fun _ => (y_eql rfl rfl rfl rfl)) ?_
       refine d_any rfl want_none rfl (fun _ => (y_pickT (v := .bool _) rfl rfl rfl rfl)) ?_
       refine d_any rfl want_none rfl (fun _ => (y_assign (v := .bool _) rfl rfl)) ?_
       refine d_nil ?_
       refine q_blk_normal ?_
       refine q_then (hK33 _ _ ?_)
       refine w_region ?_
       refine w_p (y_move (v := .int _ _) rfl rfl) rfl ?_
       refine w_p (y_add rfl rfl rfl rfl (by omega) (by omega)) rfl ?_
       refine w_p (y_assign (v := .int _ _) rfl rfl) rfl ?_
       refine w_nil ?_
       refine q_then (hN25 _ _ (Nx.intro (hours.length - (j + 1)) (by omega) (by repeat (first | exact agree_mix | refine agree_upd rfl ?_ | refine agree_updL rfl ?_ _ | refine agree_mixin rfl ?_)) ?_))
       exact ⟨j + 1, can_vals (by rw [likeB_step hj2, hcn]; simp [h16, h32]) rfl, by omega, rfl, hs36⟩
      ·
       subst h37
       refine d_skip rfl rfl rfl rfl ?_
       refine d_skip rfl rfl rfl rfl ?_
       refine d_skip rfl rfl rfl rfl ?_
       refine d_skip1 rfl rfl rfl rfl hs36 ?_
       refine d_skip rfl rfl rfl rfl ?_
       refine d_skip rfl rfl rfl rfl ?_
       refine d_skip rfl rfl rfl rfl ?_
       refine d_skip1 rfl rfl rfl rfl hs36 ?_
       refine d_skip rfl rfl rfl rfl ?_
       refine d_skip1 rfl rfl rfl rfl hs36 ?_
       refine d_skip rfl rfl rfl rfl ?_
       refine d_skip rfl rfl rfl rfl ?_
       refine d_skip rfl rfl rfl rfl ?_
       refine d_skip rfl rfl rfl rfl ?_
       refine d_skip1 rfl rfl rfl rfl hs36 ?_
       refine d_skip rfl rfl rfl rfl ?_
       refine d_skip1 rfl rfl rfl rfl hs36 ?_
       refine d_skip rfl rfl rfl rfl ?_
       refine d_any rfl want_none rfl (fun _ => (y_pickF (v := _) rfl rfl rfl rfl)) ?_
       refine d_any rfl want_none rfl (fun _ => (y_assign (v := .bool _) rfl rfl)) ?_
       refine d_nil ?_
       refine q_blk_normal ?_
       refine q_then (hK33 _ _ ?_)
       refine w_region ?_
       refine w_p (y_move (v := .int _ _) rfl rfl) rfl ?_
       refine w_p (y_add rfl rfl rfl rfl (by omega) (by omega)) rfl ?_
       refine w_p (y_assign (v := .int _ _) rfl rfl) rfl ?_
       refine w_nil ?_
       refine q_then (hN25 _ _ (Nx.intro (hours.length - (j + 1)) (by omega) (by repeat (first | exact agree_mix | refine agree_upd rfl ?_ | refine agree_updL rfl ?_ _ | refine agree_mixin rfl ?_)) ?_))
       exact ⟨j + 1, can_vals (by rw [likeB_step hj2, hcn]; simp [h16, h32]) rfl, by omega, rfl, hs36⟩
     ·
      try simp only [zA, zB, zC, zD, zE, zF] at h32
      refine w_exit ?_
      refine q_then_exit ?_
      refine q_then_exit ?_
      refine q_blk_this ?_
      refine q_then (hK21 _ _ ?_)
      refine w_seq (fun K39 hK38 => ?_)
      refine w_region ?_
      refine w_p (y_move (v := .bool _) rfl rfl) rfl ?_
      refine w_nil ?_
      refine q_then (hK38 _ _ ?_)
      refine w_cond rfl rfl (fun h40 => ?_) (fun h40 => ?_)
      ·
       subst h40
       refine w_region ?_
       refine w_p (y_move (v := v) rfl rfl) rfl ?_
       refine w_p (y_move (v := .slice _ _ _) rfl rfl) rfl ?_
       refine w_p (y_move (v := .int _ _) rfl rfl) rfl ?_
       refine w_p (y_indexS Try.underlying66 Try.sizeOf39 rfl rfl rfl rfl (i := i) rfl hi2) rfl ?_
       refine w_p (y_load1 Try.isAgg39 hs.drop.drop rfl rfl ux) rfl ?_
       refine w_bslice (ps := [(0, _)]) (pv := [(0, .slice _ _ _)]) (cs := [_]) want_none rfl rfl (fun w => Try_Ye_fb8 _ _ _ w) hs (fun b41 w42 hs43 => ?_)
       refine w_append (X := (_ :: [])) (B := OB) (rows := [[_]]) (sz := 1) (bytes := 24) want_none Try.underlying66 Try_info39 rfl rfl rfl rfl rfl rfl rfl rfl rfl hs43 hown (sl_own (i := 0) rfl (by simp) rfl) rfl (by simp) (by simp [Value.oneCell']) (by simp only [maxLen]; omega) (by omega) (fun v44 w45 B46 ho47 hs48 => ?_)
       replace hs48 := (show St _ _ (_ :: B46 ++ (X ++ (F))) from hs48)
       refine w_p (y_assign (v := v44) rfl rfl) rfl ?_
       refine w_nil ?_
       refine q_blk_normal ?_
       refine q_then (hK17 _ _ ?_)
       refine w_region ?_
       refine w_p (y_move (v := .int _ _) rfl rfl) rfl ?_
       refine w_p (y_add rfl rfl rfl rfl (by omega) (by omega)) rfl ?_
       refine w_p (y_assign (v := .int _ _) rfl rfl) rfl ?_
       refine w_nil ?_
       refine q_then (hN9 _ _ (Nx.intro (ws.length - (i + 1)) (by omega) (by repeat (first | exact agree_mix | refine agree_upd rfl ?_ | refine agree_updL rfl ?_ _ | refine agree_mixin rfl ?_)) ?_))
       have hjn : j = hours.length := by omega
       subst hjn
       rw [List.take_length] at hcn
       exact ⟨i + 1, _, _, _, rfl, by omega, rfl, by rw [filt_yes hi2 (by simpa using hcn)]; exact own_el ho47, by rw [filt_yes hi2 (by simpa using hcn)]; exact hel1.snoc us un, hs48.tail⟩
      ·
       subst h40
       refine w_skip ?_
       refine q_blk_normal ?_
       refine q_then (hK17 _ _ ?_)
       refine w_region ?_
       refine w_p (y_move (v := .int _ _) rfl rfl) rfl ?_
       refine w_p (y_add rfl rfl rfl rfl (by omega) (by omega)) rfl ?_
       refine w_p (y_assign (v := .int _ _) rfl rfl) rfl ?_
       refine w_nil ?_
       refine q_then (hN9 _ _ (Nx.intro (ws.length - (i + 1)) (by omega) (by repeat (first | exact agree_mix | refine agree_upd rfl ?_ | refine agree_updL rfl ?_ _ | refine agree_mixin rfl ?_)) ?_))
       have hjn : j = hours.length := by omega
       subst hjn
       rw [List.take_length] at hcn
       exact ⟨i + 1, v, OB, vw, rfl, by omega, rfl, by rw [filt_no hi2 (by simpa using hcn)]; exact hown, by rw [filt_no hi2 (by simpa using hcn)]; exact hel1, hs⟩
   ·
    try simp only [zA, zB, zC, zD, zE, zF] at h16
    refine w_exit ?_
    refine q_then_exit ?_
    refine q_then_exit ?_
    refine q_blk_this ?_
    refine q_then (hK5 _ _ ?_)
    refine w_seq (fun K50 hK49 => ?_)
    refine w_region ?_
    refine w_p (y_move (v := v) rfl rfl) rfl ?_
    refine w_p (y_assign (v := v) rfl rfl) rfl ?_
    refine w_nil ?_
    refine q_then (hK49 _ _ ?_)
    refine w_ret ?_
    refine q_ret (l := [.tmp 6]) (vs := [_]) rfl ⟨⟨rfl, show _ = (v : Value) from rfl⟩, trivial⟩ ?_
    have hin : i = ws.length := by omega
    subst hin
    rw [List.take_length] at hown hel1
    obtain ⟨aO, cO, rfl, hslO⟩ := own_sl_id (w0 := w0) hown hel1.1 []
    rw [List.append_nil] at hslO
    exact ⟨OB, vw, aO, cO, rfl, hslO, hel1, hs⟩

theorem rtells_no {b : Board} {ws : List (List Int)} {hours : List Int} {hold within : Int} {i : Nat} (hi : i < ws.length) (h : within < (hullL (inH b hold) (like ws ws[i] hours)).2 - (hullL (inH b hold) (like ws ws[i] hours)).1) : tellsR b ws hours hold within = false := by
  cases ht : tellsR b ws hours hold within with
  | false => rfl
  | true =>
    have := List.all_eq_true.1 ht _ (List.getElem_mem hi)
    simp only [decide_eq_true_eq] at this; omega
theorem rtells_yes {b : Board} {ws : List (List Int)} {hours : List Int} {hold within : Int} {i : Nat} (h : (ws.take i).all (fun l => decide ((hullL (inH b hold) (like ws l hours)).2 - (hullL (inH b hold) (like ws l hours)).1 ≤ within)) = true) (hi : ws.length ≤ i) : tellsR b ws hours hold within = true := by
  rw [List.take_of_length_le hi] at h; exact h
theorem all_step {p : List Int → Bool} {ws : List (List Int)} {i : Nat} (hi : i < ws.length) (h : (ws.take i).all p = true) (hp : p ws[i] = true) : (ws.take (i + 1)).all p = true := by
  rw [List.take_succ_eq_append_getElem hi, List.all_append, h]; simp [hp]
theorem hull_160 {b : Board} {hold : Int} {ws : List (List Int)} (h : ∀ l ∈ ws, ∀ k, 0 ≤ ld l k ∧ ld l k ≤ 40) (hh : b.hours.length ≤ 4) : -1000 ≤ (hullL (inH b hold) ws).1 ∧ (hullL (inH b hold) ws).1 ≤ 1000 ∧ -1000 ≤ (hullL (inH b hold) ws).2 ∧ (hullL (inH b hold) ws).2 ≤ 1000 := by
  refine hull_in (by omega) ws fun l hl => ?_
  have := in_bound (h := hold) (b := b) (h l hl) b.hours.length
  unfold inH; omega
theorem c47 {w0 w : World} {F : List (Nat × Obj)} (b : Board) (p : AtB) (hm : BIn w0 F b p) (hok : b.Ok) (a : Option Addr) (c : Nat) (ws : List (List Int)) (vs : List Value) (hsl : Sl w0 F a 1 (vs.map fun v => [v])) (hel : EL w0 F vs ws) (hwl : ws.length ≤ 256) (hall : ∀ l ∈ ws, l.length = b.hours.length ∧ ∀ k, 0 ≤ ld l k ∧ ld l k ≤ 40) (ah : Option Addr) (ch : Nat) (hours : List Int) (hhl : hours.length ≤ 4) (hh : ∀ z ∈ hours, 0 ≤ z ∧ z < b.hours.length) (hhs : Sl w0 F ah 1 (hours.map fun x => [Value.int .i64 x])) (hold within : Int) (hs : St w0 w F) :
  Con Try.prog 47 [.agg (b.cells p).toArray, .slice a ws.length c, .slice ah hours.length ch, .int .i64 hold, .int .i64 within] w fun v w' => v = .bool (tellsR b ws hours hold within) ∧ St w0 w' F := by
  refine con_of_wc (n := 36) Try.func47 rfl rfl (Nat.le_of_ble_eq_true rfl) ?_
  have hlh := hok.lh
  refine w_seq (fun K2 hK1 => ?_)
  refine w_region ?_
  refine w_box (v := .agg #[.int _ _, .slice _ _ _, .slice _ _ _]) (cs := [_, _, _]) want_none rfl rfl rfl hs (fun b3 w4 hs5 => ?_)
  refine w_p (y_assign (v := _) rfl rfl) rfl ?_
  refine w_nil ?_
  refine q_then (hK1 _ _ ?_)
  refine w_seq (fun K7 hK6 => ?_)
  refine w_seq (fun K9 hK8 => ?_)
  refine w_region ?_
  refine w_p (y_assign (v := _) rfl rfl) rfl ?_
  refine w_nil ?_
  refine q_then (hK8 _ _ ?_)
  refine w_block ?_
  refine w_loop [10, 11, 12, 13, 14, 15, 16, 17, 18, 19, 20, 21, 22, 23, 24, 25, 26, 27, 28, 29, 30, 31, 32, 33, 34, 35] [11] (fun kk vs0 w => ∃ (i : Nat), vs0 = [.int .i64 i] ∧ i ≤ ws.length ∧ kk = ws.length - i ∧ (ws.take i).all (fun l => decide ((hullL (inH b hold) (like ws l hours)).2 - (hullL (inH b hold) (like ws l hours)).1 ≤ within)) = true ∧ St w0 w ((b3, blk 25 (b.cells p)) :: F)) (ws.length) ?_ ?_
  ·
   exact ⟨0, rfl, by omega, by omega, rfl, hs5⟩
  ·
   intro k vs μ w12 hI K11 hN10
   obtain ⟨i, rfl, hia, rfl, hta, hs⟩ := hI
   refine w_seq (fun K14 hK13 => ?_)
   refine w_seq (fun K16 hK15 => ?_)
   refine w_region ?_
   refine w_p (y_move (v := .int _ _) rfl rfl) rfl ?_
   refine w_p (y_move (v := .slice _ _ _) rfl rfl) rfl ?_
   refine w_p (y_lenS Try.underlying66 rfl rfl) rfl ?_
   refine w_p (y_lss rfl rfl rfl rfl) rfl ?_
   refine w_nil ?_
   refine q_then (hK15 _ _ ?_)
   refine w_cond rfl rfl (fun h17 => ?_) (fun h17 => ?_)
   ·
    try simp only [zA, zB, zC, zD, zE, zF] at h17
    refine w_skip ?_
    refine q_then (hK13 _ _ ?_)
    refine w_seq (fun K19 hK18 => ?_)
    refine w_block ?_
    refine w_seq (fun K21 hK20 => ?_)
    have hi2 : i < ws.length := by omega
    obtain ⟨ub, uo, ue, uq, ua, ux, us, un⟩ := el_at hsl hel hi2
    subst ua
    have hali := hall _ (List.getElem_mem hi2)
    refine w_drawT (C := fun w => St w0 w _) [11] (.two [(0, 1), (1, 0), (2, 0), (3, 0), (4, 0), (5, 1), (6, 0), (8, 0)] 7 10 (.two [] 9 10 (.done [(10, 2), (11, 3)]) (.done [(9, 2), (11, 3)])) (.done [(7, 2), (9, 2), (11, 3)])) Try_mo (by kernel_rfl) hs (fun _ h => h.drew) (fun w22 hs23 => ?_)
    refine dt_two ?_
    refine d_take rfl want_none rfl hs23 (fun _ hq => (y_loadN (vs := [_, _, _]) Try.isAgg25 Try.sizeOf25 hq rfl rfl (ats_own (i := 0) (vs := [_, _, _]) rfl rfl))) ?_
    refine d_any rfl want_none rfl (fun _ => (y_move (v := .slice _ _ _) rfl rfl)) ?_
    refine d_any rfl want_none rfl (fun _ => (y_move (v := .slice _ _ _) rfl rfl)) ?_
    refine d_any rfl want_none rfl (fun _ => (y_move (v := .int _ _) rfl rfl)) ?_
    refine d_any rfl want_none rfl (fun _ => (y_indexS Try.underlying66 Try.sizeOf39 rfl rfl rfl rfl (i := i) rfl hi2)) ?_
    refine d_take rfl want_none rfl hs23 (fun _ hq => (y_load1 Try.isAgg39 hq.tail rfl rfl ux)) ?_
    refine d_any rfl want_none rfl (fun _ => (y_move (v := .slice _ _ _) rfl rfl)) ?_
    refine d_any rfl want_none rfl (fun _ => (y_move (v := .int _ _) rfl rfl)) ?_
    refine d_two rfl rfl ?_ ?_
    ·
     refine w_call want_none Try.call91 rfl rfl rfl rfl (c91 (X := [_]) _ _ ws vs hsl hel hwl b.hours.length (fun m hm => (hall m hm).1) _ _ (ws[i]'hi2) hali.1 us _ _ hours hhl hh hhs hs23) ?_
     rintro _ w25 ⟨LB, vl, aL, cL, rfl, hslL, helL, hs26⟩
     have hs27 := St.perm (L := LB ++ ([] ++ (_ :: F))) hs26 (perm_mid LB [] _)
     replace hs27 := (show St _ _ ((LB ++ (_ :: F))) from hs27)
     have hlm : ∀ m ∈ (like ws (ws[i]'hi2) hours), m ∈ ws := fun m hm => (List.mem_filter.1 hm).1
     have hll2 : (like ws (ws[i]'hi2) hours).length ≤ 256 := Nat.le_trans (List.length_filter_le _ _) hwl
     refine w_nil ?_
     refine qn ⟨hs27.drop, ?_⟩
     refine dt_two ?_
     refine d_two rfl rfl ?_ ?_
     ·
      refine w_call want_none Try.call71 rfl rfl rfl rfl (c71 b p hm.cons.app hok _ _ (like ws (ws[i]'hi2) hours) vl hslL.top helL.cons.app hll2 (fun l hl => hall l (hlm l hl)) (List.length_pos_of_mem (like_self (List.getElem_mem hi2) hours)) hold hs27) ?_
      rintro _ w29 ⟨rfl, hs30⟩
      refine w_nil ?_
      refine qn ⟨hs30.drop, ?_⟩
      refine dt_done ?_
      refine d_eff rfl ?_
      refine w_alloc (cs := [_, _]) want_none Try.zeroValue31 rfl hs30 (fun b31 w32 hs33 => ?_)
      refine w_nil ?_
      refine qn ⟨hs33.tail.drop, ?_⟩
      refine d_late rfl ?_
      refine w_store (i := 0) (v := .agg #[.int _ _, .int _ _]) (vs := [_, _]) want_none Try.sizeOf31 rfl rfl rfl rfl rfl (by simp [Value.oneCell']) hs33 rfl (Nat.le_of_ble_eq_true rfl) (fun w34 hs35 => ?_)
      refine w_nil ?_
      refine qn ?_
      refine d_nil ?_
      refine q_then (hK20 _ _ ?_)
      refine w_seq (fun K37 hK36 => ?_)
      have hbd := hull_160 (b := b) (hold := hold) (ws := (like ws (ws[i]'hi2) hours)) (fun l hl k => (hall l (hlm l hl)).2 k) hlh
      refine w_region ?_
      refine w_p (y_fieldAddr (o := 1) (i := 1) Try.underlying31 rfl Try.sizeOf3 rfl rfl rfl) rfl ?_
      refine w_p (y_load1 Try.isAgg3 hs35 rfl rfl (ats_own (i := 0) (vs := [_]) rfl rfl)) rfl ?_
      refine w_p (y_fieldAddr (o := 0) (i := 0) Try.underlying31 rfl Try.sizeOf3 rfl rfl rfl) rfl ?_
      refine w_p (y_load1 Try.isAgg3 hs35 rfl rfl (ats_own (i := 0) (vs := [_]) rfl rfl)) rfl ?_
      refine w_p (y_sub rfl rfl rfl rfl (by omega) (by omega)) rfl ?_
      refine w_p (y_move (v := .int _ _) rfl rfl) rfl ?_
      refine w_p (y_gtr rfl rfl rfl rfl) rfl ?_
      refine w_nil ?_
      refine q_then (hK36 _ _ ?_)
      refine w_cond rfl rfl (fun h38 => ?_) (fun h38 => ?_)
      ·
       try simp only [zA, zB, zC, zD, zE, zF] at h38
       refine w_seq (fun K40 hK39 => ?_)
       refine w_region ?_
       refine w_p (y_assign (v := _) rfl rfl) rfl ?_
       refine w_nil ?_
       refine q_then (hK39 _ _ ?_)
       refine w_ret ?_
       refine q_blk_ret ?_
       refine q_then_ret ?_
       refine q_then_ret ?_
       refine q_blk_ret ?_
       refine q_then_ret ?_
       refine q_ret (l := [.tmp 10]) (vs := [_]) rfl ⟨⟨rfl, show _ = (.bool _ : Value) from rfl⟩, trivial⟩ ?_
       first
         | exact ⟨congrArg Value.bool (rtells_no hi2 (by omega)).symm, hs35.tail.drop.tail⟩
         | exact ⟨congrArg Value.bool (rtells_yes hta (by omega)).symm, hs35.tail.drop.tail⟩
      ·
       try simp only [zA, zB, zC, zD, zE, zF] at h38
       refine w_skip ?_
       refine q_blk_normal ?_
       refine q_then (hK18 _ _ ?_)
       refine w_region ?_
       refine w_p (y_move (v := .int _ _) rfl rfl) rfl ?_
       refine w_p (y_add rfl rfl rfl rfl (by omega) (by omega)) rfl ?_
       refine w_p (y_assign (v := .int _ _) rfl rfl) rfl ?_
       refine w_nil ?_
       refine q_then (hN10 _ _ (Nx.intro (ws.length - (i + 1)) (by omega) (by repeat (first | exact agree_mix | refine agree_upd rfl ?_ | refine agree_updL rfl ?_ _ | refine agree_mixin rfl ?_)) ?_))
       exact ⟨i + 1, rfl, by omega, rfl, all_step hi2 hta (decide_eq_true (by omega)), hs35.tail.drop⟩
     ·
      refine w_alloc (cs := [_, _]) want_none Try.zeroValue31 rfl hs27 (fun b41 w42 hs43 => ?_)
      refine w_nil ?_
      refine qn ⟨hs43.tail.drop, ?_⟩
      refine dt_done ?_
      refine d_eff rfl ?_
      refine w_call want_none Try.call71 rfl rfl rfl rfl (c71 b p hm.cons.app.cons hok _ _ (like ws (ws[i]'hi2) hours) vl hslL.top.cons helL.cons.app.cons hll2 (fun l hl => hall l (hlm l hl)) (List.length_pos_of_mem (like_self (List.getElem_mem hi2) hours)) hold hs43) ?_
      rintro _ w45 ⟨rfl, hs46⟩
      refine w_nil ?_
      refine qn ⟨hs46.tail.drop, ?_⟩
      refine d_late rfl ?_
      refine w_store (i := 0) (v := .agg #[.int _ _, .int _ _]) (vs := [_, _]) want_none Try.sizeOf31 rfl rfl rfl rfl rfl (by simp [Value.oneCell']) hs46 rfl (Nat.le_of_ble_eq_true rfl) (fun w47 hs48 => ?_)
      refine w_nil ?_
      refine qn ?_
      refine d_nil ?_
      refine q_then (hK20 _ _ ?_)
      refine w_seq (fun K50 hK49 => ?_)
      have hbd := hull_160 (b := b) (hold := hold) (ws := (like ws (ws[i]'hi2) hours)) (fun l hl k => (hall l (hlm l hl)).2 k) hlh
      refine w_region ?_
      refine w_p (y_fieldAddr (o := 1) (i := 1) Try.underlying31 rfl Try.sizeOf3 rfl rfl rfl) rfl ?_
      refine w_p (y_load1 Try.isAgg3 hs48 rfl rfl (ats_own (i := 0) (vs := [_]) rfl rfl)) rfl ?_
      refine w_p (y_fieldAddr (o := 0) (i := 0) Try.underlying31 rfl Try.sizeOf3 rfl rfl rfl) rfl ?_
      refine w_p (y_load1 Try.isAgg3 hs48 rfl rfl (ats_own (i := 0) (vs := [_]) rfl rfl)) rfl ?_
      refine w_p (y_sub rfl rfl rfl rfl (by omega) (by omega)) rfl ?_
      refine w_p (y_move (v := .int _ _) rfl rfl) rfl ?_
      refine w_p (y_gtr rfl rfl rfl rfl) rfl ?_
      refine w_nil ?_
      refine q_then (hK49 _ _ ?_)
      refine w_cond rfl rfl (fun h51 => ?_) (fun h51 => ?_)
      ·
       try simp only [zA, zB, zC, zD, zE, zF] at h51
       refine w_seq (fun K53 hK52 => ?_)
       refine w_region ?_
       refine w_p (y_assign (v := _) rfl rfl) rfl ?_
       refine w_nil ?_
       refine q_then (hK52 _ _ ?_)
       refine w_ret ?_
       refine q_blk_ret ?_
       refine q_then_ret ?_
       refine q_then_ret ?_
       refine q_blk_ret ?_
       refine q_then_ret ?_
       refine q_ret (l := [.tmp 10]) (vs := [_]) rfl ⟨⟨rfl, show _ = (.bool _ : Value) from rfl⟩, trivial⟩ ?_
       first
         | exact ⟨congrArg Value.bool (rtells_no hi2 (by omega)).symm, hs48.tail.drop.tail⟩
         | exact ⟨congrArg Value.bool (rtells_yes hta (by omega)).symm, hs48.tail.drop.tail⟩
      ·
       try simp only [zA, zB, zC, zD, zE, zF] at h51
       refine w_skip ?_
       refine q_blk_normal ?_
       refine q_then (hK18 _ _ ?_)
       refine w_region ?_
       refine w_p (y_move (v := .int _ _) rfl rfl) rfl ?_
       refine w_p (y_add rfl rfl rfl rfl (by omega) (by omega)) rfl ?_
       refine w_p (y_assign (v := .int _ _) rfl rfl) rfl ?_
       refine w_nil ?_
       refine q_then (hN10 _ _ (Nx.intro (ws.length - (i + 1)) (by omega) (by repeat (first | exact agree_mix | refine agree_upd rfl ?_ | refine agree_updL rfl ?_ _ | refine agree_mixin rfl ?_)) ?_))
       exact ⟨i + 1, rfl, by omega, rfl, all_step hi2 hta (decide_eq_true (by omega)), hs48.tail.drop⟩
    ·
     refine w_alloc (cs := [_, _]) want_none Try.zeroValue31 rfl hs23 (fun b54 w55 hs56 => ?_)
     refine w_nil ?_
     refine qn ⟨hs56.tail, ?_⟩
     refine dt_done ?_
     refine d_eff rfl ?_
     refine w_call want_none Try.call91 rfl rfl rfl rfl (c91 (X := [_, _]) _ _ ws vs hsl hel hwl b.hours.length (fun m hm => (hall m hm).1) _ _ (ws[i]'hi2) hali.1 us _ _ hours hhl hh hhs hs56) ?_
     rintro _ w58 ⟨LB, vl, aL, cL, rfl, hslL, helL, hs59⟩
     have hs60 := St.perm (L := LB ++ ([_] ++ (_ :: F))) hs59 (perm_mid LB [_] _)
     replace hs60 := (show St _ _ (_ :: (LB ++ (_ :: F))) from hs60)
     have hlm : ∀ m ∈ (like ws (ws[i]'hi2) hours), m ∈ ws := fun m hm => (List.mem_filter.1 hm).1
     have hll2 : (like ws (ws[i]'hi2) hours).length ≤ 256 := Nat.le_trans (List.length_filter_le _ _) hwl
     refine w_nil ?_
     refine qn ⟨hs60.tail.drop, ?_⟩
     refine d_eff rfl ?_
     refine w_call want_none Try.call71 rfl rfl rfl rfl (c71 b p hm.cons.app.cons hok _ _ (like ws (ws[i]'hi2) hours) vl hslL.top.cons helL.cons.app.cons hll2 (fun l hl => hall l (hlm l hl)) (List.length_pos_of_mem (like_self (List.getElem_mem hi2) hours)) hold hs60) ?_
     rintro _ w62 ⟨rfl, hs63⟩
     refine w_nil ?_
     refine qn ⟨hs63.tail.drop, ?_⟩
     refine d_late rfl ?_
     refine w_store (i := 0) (v := .agg #[.int _ _, .int _ _]) (vs := [_, _]) want_none Try.sizeOf31 rfl rfl rfl rfl rfl (by simp [Value.oneCell']) hs63 rfl (Nat.le_of_ble_eq_true rfl) (fun w64 hs65 => ?_)
     refine w_nil ?_
     refine qn ?_
     refine d_nil ?_
     refine q_then (hK20 _ _ ?_)
     refine w_seq (fun K67 hK66 => ?_)
     have hbd := hull_160 (b := b) (hold := hold) (ws := (like ws (ws[i]'hi2) hours)) (fun l hl k => (hall l (hlm l hl)).2 k) hlh
     refine w_region ?_
     refine w_p (y_fieldAddr (o := 1) (i := 1) Try.underlying31 rfl Try.sizeOf3 rfl rfl rfl) rfl ?_
     refine w_p (y_load1 Try.isAgg3 hs65 rfl rfl (ats_own (i := 0) (vs := [_]) rfl rfl)) rfl ?_
     refine w_p (y_fieldAddr (o := 0) (i := 0) Try.underlying31 rfl Try.sizeOf3 rfl rfl rfl) rfl ?_
     refine w_p (y_load1 Try.isAgg3 hs65 rfl rfl (ats_own (i := 0) (vs := [_]) rfl rfl)) rfl ?_
     refine w_p (y_sub rfl rfl rfl rfl (by omega) (by omega)) rfl ?_
     refine w_p (y_move (v := .int _ _) rfl rfl) rfl ?_
     refine w_p (y_gtr rfl rfl rfl rfl) rfl ?_
     refine w_nil ?_
     refine q_then (hK66 _ _ ?_)
     refine w_cond rfl rfl (fun h68 => ?_) (fun h68 => ?_)
     ·
      try simp only [zA, zB, zC, zD, zE, zF] at h68
      refine w_seq (fun K70 hK69 => ?_)
      refine w_region ?_
      refine w_p (y_assign (v := _) rfl rfl) rfl ?_
      refine w_nil ?_
      refine q_then (hK69 _ _ ?_)
      refine w_ret ?_
      refine q_blk_ret ?_
      refine q_then_ret ?_
      refine q_then_ret ?_
      refine q_blk_ret ?_
      refine q_then_ret ?_
      refine q_ret (l := [.tmp 10]) (vs := [_]) rfl ⟨⟨rfl, show _ = (.bool _ : Value) from rfl⟩, trivial⟩ ?_
      first
        | exact ⟨congrArg Value.bool (rtells_no hi2 (by omega)).symm, hs65.tail.drop.tail⟩
        | exact ⟨congrArg Value.bool (rtells_yes hta (by omega)).symm, hs65.tail.drop.tail⟩
     ·
      try simp only [zA, zB, zC, zD, zE, zF] at h68
      refine w_skip ?_
      refine q_blk_normal ?_
      refine q_then (hK18 _ _ ?_)
      refine w_region ?_
      refine w_p (y_move (v := .int _ _) rfl rfl) rfl ?_
      refine w_p (y_add rfl rfl rfl rfl (by omega) (by omega)) rfl ?_
      refine w_p (y_assign (v := .int _ _) rfl rfl) rfl ?_
      refine w_nil ?_
      refine q_then (hN10 _ _ (Nx.intro (ws.length - (i + 1)) (by omega) (by repeat (first | exact agree_mix | refine agree_upd rfl ?_ | refine agree_updL rfl ?_ _ | refine agree_mixin rfl ?_)) ?_))
      exact ⟨i + 1, rfl, by omega, rfl, all_step hi2 hta (decide_eq_true (by omega)), hs65.tail.drop⟩
   ·
    try simp only [zA, zB, zC, zD, zE, zF] at h17
    refine w_exit ?_
    refine q_then_exit ?_
    refine q_then_exit ?_
    refine q_blk_this ?_
    refine q_then (hK6 _ _ ?_)
    refine w_seq (fun K72 hK71 => ?_)
    refine w_region ?_
    refine w_p (y_assign (v := _) rfl rfl) rfl ?_
    refine w_nil ?_
    refine q_then (hK71 _ _ ?_)
    refine w_ret ?_
    refine q_ret (l := [.tmp 10]) (vs := [_]) rfl ⟨⟨rfl, show _ = (.bool _ : Value) from rfl⟩, trivial⟩ ?_
    first
      | exact ⟨congrArg Value.bool (rtells_no hi2 (by omega)).symm, hs.tail⟩
      | exact ⟨congrArg Value.bool (rtells_yes hta (by omega)).symm, hs.tail⟩

end Go.Proofs
/- Plain laws of the chain layer: spans hold what they span; what lies in a hold. No program in sight. No conditions. -/
set_option linter.unusedSimpArgs false
set_option linter.unusedVariables false
namespace Go.Rt.Ch
open Go.Rt.Ha
def someB (b : Board) : Bool := decide ((check b).2.2 = 0) && !(truths b).isEmpty
theorem someB_y {b : Board} (h : someB b = true) : (check b).2.2 = 0 ∧ b.Ok ∧ truths b ≠ [] := by
  unfold someB at h
  simp only [Bool.and_eq_true, decide_eq_true_eq, Bool.not_eq_true'] at h
  exact ⟨h.1, check_ok h.1, fun e => by rw [e] at h; simp at h⟩
theorem someB_n {b : Board} (h : someB b = false) (e : Int) : enterE b e ≠ 0 := by
  intro he
  obtain ⟨h1, h2, h3⟩ := enterE_ok he
  unfold someB at h
  rw [decide_eq_true h1] at h
  cases ht : truths b with
  | nil => exact h3 ht
  | cons x y => rw [ht] at h; simp at h
theorem fold_spec (f : List Int → Int) : ∀ (r : List (List Int)) (s : Int × Int), (r.foldl (fun s x => (min s.1 (f x), max s.2 (f x))) s).1 ≤ s.1 ∧ s.2 ≤ (r.foldl (fun s x => (min s.1 (f x), max s.2 (f x))) s).2 ∧
    (∀ l ∈ r, (r.foldl (fun s x => (min s.1 (f x), max s.2 (f x))) s).1 ≤ f l ∧ f l ≤ (r.foldl (fun s x => (min s.1 (f x), max s.2 (f x))) s).2) ∧
    ((r.foldl (fun s x => (min s.1 (f x), max s.2 (f x))) s).1 = s.1 ∨ ∃ l ∈ r, (r.foldl (fun s x => (min s.1 (f x), max s.2 (f x))) s).1 = f l) ∧
    ((r.foldl (fun s x => (min s.1 (f x), max s.2 (f x))) s).2 = s.2 ∨ ∃ l ∈ r, (r.foldl (fun s x => (min s.1 (f x), max s.2 (f x))) s).2 = f l)
  | [], s => ⟨Int.le_refl _, Int.le_refl _, fun l h => (nomatch h), .inl rfl, .inl rfl⟩
  | x :: r, s => by
    obtain ⟨h1, h2, h3, h4, h5⟩ := fold_spec f r (min s.1 (f x), max s.2 (f x))
    simp only [List.foldl_cons]
    dsimp only at h1 h2 h4 h5
    generalize r.foldl (fun s x => (min s.1 (f x), max s.2 (f x))) (min s.1 (f x), max s.2 (f x)) = t at h1 h2 h3 h4 h5 ⊢
    refine ⟨by clear h4 h5; omega, by clear h4 h5; omega, fun l hl => ?_, ?_, ?_⟩
    · clear h4 h5
      rcases List.mem_cons.1 hl with rfl | hl
      · omega
      · exact h3 l hl
    · clear h5
      rcases h4 with h | ⟨l, hl, h⟩
      · by_cases hm : s.1 ≤ f x
        · exact .inl (by omega)
        · exact .inr ⟨x, .head _, by omega⟩
      · exact .inr ⟨l, .tail _ hl, h⟩
    · clear h4
      rcases h5 with h | ⟨l, hl, h⟩
      · by_cases hm : f x ≤ s.2
        · exact .inl (by omega)
        · exact .inr ⟨x, .head _, by omega⟩
      · exact .inr ⟨l, .tail _ hl, h⟩
theorem hull_spec {f : List Int → Int} {ws : List (List Int)} (h : ws ≠ []) : (∃ l ∈ ws, (hullL f ws).1 = f l) ∧ (∃ l ∈ ws, (hullL f ws).2 = f l) ∧ ∀ l ∈ ws, (hullL f ws).1 ≤ f l ∧ f l ≤ (hullL f ws).2 := by
  match ws, h with
  | a :: r, _ =>
    obtain ⟨h1, h2, h3, h4, h5⟩ := fold_spec f r (f a, f a)
    show (∃ l ∈ a :: r, (r.foldl (fun s x => (min s.1 (f x), max s.2 (f x))) (f a, f a)).1 = f l) ∧ (∃ l ∈ a :: r, (r.foldl (fun s x => (min s.1 (f x), max s.2 (f x))) (f a, f a)).2 = f l) ∧ ∀ l ∈ a :: r, (r.foldl (fun s x => (min s.1 (f x), max s.2 (f x))) (f a, f a)).1 ≤ f l ∧ f l ≤ (r.foldl (fun s x => (min s.1 (f x), max s.2 (f x))) (f a, f a)).2
    refine ⟨?_, ?_, fun l hl => ?_⟩
    · rcases h4 with h | ⟨l, hl, h⟩
      · exact ⟨a, .head _, h⟩
      · exact ⟨l, .tail _ hl, h⟩
    · rcases h5 with h | ⟨l, hl, h⟩
      · exact ⟨a, .head _, h⟩
      · exact ⟨l, .tail _ hl, h⟩
    · rcases List.mem_cons.1 hl with rfl | hl
      · exact ⟨h1, h2⟩
      · exact h3 l hl
theorem hull_le {f : List Int → Int} {ws : List (List Int)} (h : ws ≠ []) : (hullL f ws).1 ≤ (hullL f ws).2 := by
  obtain ⟨⟨l, hl, e⟩, _, h3⟩ := hull_spec (f := f) h
  have := h3 l hl; omega
theorem hull_btw {f : List Int → Int} {ws : List (List Int)} (h : ws ≠ []) {lo hi : Int} (hb : ∀ l ∈ ws, lo ≤ f l ∧ f l ≤ hi) : lo ≤ (hullL f ws).1 ∧ (hullL f ws).2 ≤ hi := by
  obtain ⟨⟨l, hl, e⟩, ⟨m, hm, e2⟩, _⟩ := hull_spec (f := f) h
  have := hb l hl; have := hb m hm; omega
/-! ### What is told of a board that has a truth -/
def wentH (b : Board) (k : Nat) : Int × Int := hullL (fun l => ld l k) (truths b)
theorem out_no {n m : Int} (h : 0 ≤ n ∧ n < m) : idxE n m = 0 := by unfold idxE; rw [if_neg (by rw [out_f.2 ⟨h.1, by omega⟩]; simp)]
theorem hold_at {b : Board} (hs : someB b = true) {k : Nat} (hk : (k : Int) < b.holds) : holdP b (k : Int) = (hullL (inH b (k : Int)) (truths b), 0) := by
  obtain ⟨h1, h2, h3⟩ := someB_y hs
  unfold holdP
  rw [enterE_4 h1 (out_no (by omega)) h3, if_neg (by simp)]
def hsum (b : Board) (hold : Int) : Nat → Int × Int
  | 0 => (0, 0)
  | k + 1 => if (hourOf b k).hold = hold then ((hsum b hold k).1 + (wentH b k).1, (hsum b hold k).2 + (wentH b k).2) else hsum b hold k
def hmany (b : Board) (hold : Int) : Nat → Int
  | 0 => 0
  | k + 1 => if (hourOf b k).hold = hold then hmany b hold k + 1 else hmany b hold k
end Go.Rt.Ch
/- Walks of this seat, printed by gen.py over the engine: what each function returns, in whatever world. No conditions but those of each contract. -/
set_option linter.unusedVariables false
set_option linter.unusedSimpArgs false
set_option maxRecDepth 20000
namespace Go.Proofs
open Go.Rt Go.Rt.Ch
open Go.Rt.Ha (firstE firstE_step firstE_stop firstE_end failE nameE felt spanL upto span_mem listL fewest fewTo bit before fewStep drop_lt drop_get drop_next drop_done drop_notin set_take set_zero take_less Lot Bunch feltTo fTo fPart felt_zero felt_step fTo_succ fTo_len fPart_succ fPart_len fPart_all filt_yes filt_no upto_len at_ someOf choicesTo cfind_here cfind_next cfind_on choices_fin)
attribute [local irreducible] WL WC Con Yd At Ats Sl Agree DW

theorem some_y {b : Board} {i : Nat} (hi : i < (felt (bun b)).length) (h : canL b (felt (bun b))[i] = true) : (!(truths b).isEmpty) = true := by
  have : (felt (bun b))[i] ∈ truths b := List.mem_filter.2 ⟨List.getElem_mem hi, h⟩
  cases ht : truths b with
  | nil => rw [ht] at this; cases this
  | cons x y => rfl
theorem some_n {b : Board} {i : Nat} (h : ((felt (bun b)).take i).any (canL b) = false) (hi : (felt (bun b)).length ≤ i) : (!(truths b).isEmpty) = false := by
  rw [List.take_of_length_le hi] at h
  have : truths b = [] := List.filter_eq_nil_iff.2 fun l hl => List.any_eq_false.1 h l hl
  rw [this]; rfl
theorem some_step {b : Board} {i : Nat} (hi : i < (felt (bun b)).length) (h : ((felt (bun b)).take i).any (canL b) = false) (hc : canL b (felt (bun b))[i] = false) : ((felt (bun b)).take (i + 1)).any (canL b) = false := by
  rw [List.take_succ_eq_append_getElem hi, List.any_append, h]; simp [hc]
theorem c88 {w0 w : World} {F : List (Nat × Obj)} (b : Board) (p : AtB) (hm : BIn w0 F b p) (hok : b.Ok) (hs : St w0 w F) :
  Con Try.prog 88 [.agg (b.cells p).toArray] w fun v w' => v = .bool (!(truths b).isEmpty) ∧ St w0 w' F := by
  refine con_of_wc (n := 19) Try.func88 rfl rfl (Nat.le_of_ble_eq_true rfl) ?_
  refine w_seq (fun K2 hK1 => ?_)
  refine w_region ?_
  refine w_box (v := .agg #[.int _ _, .slice _ _ _, .slice _ _ _]) (cs := [_, _, _]) want_none rfl rfl rfl hs (fun b3 w4 hs5 => ?_)
  refine w_p (y_assign (v := _) rfl rfl) rfl ?_
  refine w_nil ?_
  refine q_then (hK1 _ _ ?_)
  refine w_seq (fun K7 hK6 => ?_)
  have hbx := ats_ofK (i := 0) (vs := b.cells p) hs5 rfl rfl
  refine w_region ?_
  refine w_p (y_loadN (vs := [_, _, _]) Try.isAgg25 Try.sizeOf25 hs5 rfl rfl hbx) rfl ?_
  refine w_call want_none Try.call89 rfl rfl rfl rfl (c89 b p hm.cons hok hs5) ?_
  rintro _ w9 ⟨FB, fv, aF, cF, rfl, hslF, helF, hs10⟩
  replace hs10 := (show St _ _ (FB ++ (_ :: F)) from hs10)
  have hfl : (felt (bun b)).length ≤ 256 := by have h := loads_len hok (Nat.le_refl b.hours.length); rw [loads_all] at h; exact h
  refine w_p (y_assign (v := .slice _ _ _) rfl rfl) rfl ?_
  refine w_nil ?_
  refine q_then (hK6 _ _ ?_)
  refine w_seq (fun K12 hK11 => ?_)
  refine w_seq (fun K14 hK13 => ?_)
  refine w_region ?_
  refine w_p (y_assign (v := _) rfl rfl) rfl ?_
  refine w_nil ?_
  refine q_then (hK13 _ _ ?_)
  refine w_block ?_
  refine w_loop [2, 4, 7, 8, 9, 10, 11, 12, 13, 14, 15, 16, 17, 18] [4] (fun kk vs0 w => ∃ (i : Nat), vs0 = [.int .i64 i] ∧ i ≤ (felt (bun b)).length ∧ kk = (felt (bun b)).length - i ∧ ((felt (bun b)).take i).any (canL b) = false ∧ St w0 w (FB ++ ((b3, blk 25 (b.cells p)) :: F))) ((felt (bun b)).length) ?_ ?_
  ·
   exact ⟨0, rfl, by omega, by omega, rfl, hs10⟩
  ·
   intro k vs μ w17 hI K16 hN15
   obtain ⟨i, rfl, hia, rfl, hfa, hs⟩ := hI
   refine w_seq (fun K19 hK18 => ?_)
   refine w_seq (fun K21 hK20 => ?_)
   refine w_region ?_
   refine w_p (y_move (v := .int _ _) rfl rfl) rfl ?_
   refine w_p (y_move (v := .slice _ _ _) rfl rfl) rfl ?_
   refine w_p (y_lenS Try.underlying66 rfl rfl) rfl ?_
   refine w_p (y_lss rfl rfl rfl rfl) rfl ?_
   refine w_nil ?_
   refine q_then (hK20 _ _ ?_)
   refine w_cond rfl rfl (fun h22 => ?_) (fun h22 => ?_)
   ·
    try simp only [zA, zB, zC, zD, zE, zF] at h22
    refine w_skip ?_
    refine q_then (hK18 _ _ ?_)
    refine w_seq (fun K24 hK23 => ?_)
    refine w_block ?_
    refine w_seq (fun K26 hK25 => ?_)
    have hi2 : i < (felt (bun b)).length := by omega
    obtain ⟨bx, ox, bq3, c3, haF, hx0, hsx0, hnx⟩ := el_at hslF helF hi2
    subst haF
    have hx := hx0.top (F := (b3, blk 25 (b.cells p)) :: F)
    have hin := loads_at (List.getElem_mem hi2)
    have h40 : ∀ k, 0 ≤ ld ((felt (bun b))[i]'hi2) k ∧ ld ((felt (bun b))[i]'hi2) k ≤ 40 := fun k => felt_40 hok (List.getElem_mem hi2) k
    refine w_draw [] [(0, 1), (1, 0), (2, 0), (3, 0), (4, 1), (5, 2)] Try_mo (drawOK_of (by kernel_rfl)) hs (fun w27 hs28 => ?_)
    refine d_take rfl want_none rfl hs28 (fun _ hq => (y_loadN (vs := [_, _, _]) Try.isAgg25 Try.sizeOf25 hq.drop rfl rfl hbx)) ?_
    refine d_any rfl want_none rfl (fun _ => (y_move (v := .slice _ _ _) rfl rfl)) ?_
    refine d_any rfl want_none rfl (fun _ => (y_move (v := .int _ _) rfl rfl)) ?_
    refine d_any rfl want_none rfl (fun _ => (y_indexS Try.underlying66 Try.sizeOf39 rfl rfl rfl rfl (i := i) rfl hi2)) ?_
    refine d_take rfl want_none rfl hs28 (fun _ hq => (y_load1 Try.isAgg39 hq rfl rfl hx)) ?_
    refine d_eff rfl ?_
    refine w_call want_none Try.call90 rfl rfl rfl rfl (c90 b p hm.cons.app hok _ _ ((felt (bun b))[i]'hi2) hin.1 h40 hsx0.top hs28) ?_
    rintro _ w30 ⟨rfl, hs31⟩
    refine w_nil ?_
    refine qn ⟨hs31, ?_⟩
    refine d_nil ?_
    refine q_then (hK25 _ _ ?_)
    refine w_cond rfl rfl (fun h32 => ?_) (fun h32 => ?_)
    ·
     try simp only [zA, zB, zC, zD, zE, zF] at h32
     refine w_seq (fun K34 hK33 => ?_)
     refine w_region ?_
     refine w_p (y_assign (v := _) rfl rfl) rfl ?_
     refine w_nil ?_
     refine q_then (hK33 _ _ ?_)
     refine w_ret ?_
     refine q_blk_ret ?_
     refine q_then_ret ?_
     refine q_then_ret ?_
     refine q_blk_ret ?_
     refine q_then_ret ?_
     refine q_ret (l := [.tmp 2]) (vs := [_]) rfl ⟨⟨rfl, show _ = (.bool _ : Value) from rfl⟩, trivial⟩ ?_
     first
       | exact ⟨congrArg Value.bool (some_y hi2 (by assumption)).symm, hs31.drop.tail⟩
       | exact ⟨congrArg Value.bool (some_n hfa (by omega)).symm, hs31.drop.tail⟩
    ·
     try simp only [zA, zB, zC, zD, zE, zF] at h32
     refine w_skip ?_
     refine q_blk_normal ?_
     refine q_then (hK23 _ _ ?_)
     refine w_region ?_
     refine w_p (y_move (v := .int _ _) rfl rfl) rfl ?_
     refine w_p (y_add rfl rfl rfl rfl (by omega) (by omega)) rfl ?_
     refine w_p (y_assign (v := .int _ _) rfl rfl) rfl ?_
     refine w_nil ?_
     refine q_then (hN15 _ _ (Nx.intro ((felt (bun b)).length - (i + 1)) (by omega) (by repeat (first | exact agree_mix | refine agree_upd rfl ?_ | refine agree_updL rfl ?_ _ | refine agree_mixin rfl ?_)) ?_))
     exact ⟨i + 1, rfl, by omega, rfl, some_step hi2 hfa (by assumption), hs31⟩
   ·
    try simp only [zA, zB, zC, zD, zE, zF] at h22
    refine w_exit ?_
    refine q_then_exit ?_
    refine q_then_exit ?_
    refine q_blk_this ?_
    refine q_then (hK11 _ _ ?_)
    refine w_seq (fun K36 hK35 => ?_)
    refine w_region ?_
    refine w_p (y_assign (v := _) rfl rfl) rfl ?_
    refine w_nil ?_
    refine q_then (hK35 _ _ ?_)
    refine w_ret ?_
    refine q_ret (l := [.tmp 2]) (vs := [_]) rfl ⟨⟨rfl, show _ = (.bool _ : Value) from rfl⟩, trivial⟩ ?_
    first
      | exact ⟨congrArg Value.bool (some_y hi2 (by assumption)).symm, hs.drop.tail⟩
      | exact ⟨congrArg Value.bool (some_n hfa (by omega)).symm, hs.drop.tail⟩

theorem c34 {w0 w : World} {F : List (Nat × Obj)} (b : Board) (p : AtB) (hm : BIn w0 F b p)  (hs : St w0 w F) :
  Con Try.prog 34 [.agg (b.cells p).toArray] w fun v w' => v = .bool (decide ((check b).2.2 = 0)) ∧ St w0 w' F := by
  refine con_of_wc (n := 14) Try.func34 rfl rfl (Nat.le_of_ble_eq_true rfl) ?_
  refine w_seq (fun K2 hK1 => ?_)
  refine w_region ?_
  refine w_box (v := .agg #[.int _ _, .slice _ _ _, .slice _ _ _]) (cs := [_, _, _]) want_none rfl rfl rfl hs (fun b3 w4 hs5 => ?_)
  refine w_p (y_assign (v := _) rfl rfl) rfl ?_
  refine w_nil ?_
  refine q_then (hK1 _ _ ?_)
  refine w_seq (fun K7 hK6 => ?_)
  refine w_region ?_
  refine w_p (y_loadN (vs := [_, _, _]) Try.isAgg25 Try.sizeOf25 hs5 rfl rfl (ats_own (i := 0) (vs := [_, _, _]) rfl rfl)) rfl ?_
  refine w_call want_none Try.call17 rfl rfl rfl rfl (c17 b p hm.cons hs5) ?_
  rintro _ w9 ⟨rfl, hs10⟩
  refine w_p (y_move (v := .tuple _) rfl rfl) rfl ?_
  refine w_p (y_extract (v := .int _ _) rfl rfl rfl) rfl ?_
  refine w_p (y_extract (v := .int _ _) rfl rfl rfl) rfl ?_
  refine w_p (y_extract (v := .int _ _) rfl rfl rfl) rfl ?_
  refine w_p (y_assign (v := .int _ _) rfl rfl) rfl ?_
  refine w_p (y_assign (v := .int _ _) rfl rfl) rfl ?_
  refine w_p (y_assign (v := .int _ _) rfl rfl) rfl ?_
  refine w_nil ?_
  refine q_then (hK6 _ _ ?_)
  refine w_seq (fun K12 hK11 => ?_)
  refine w_region ?_
  refine w_p (y_move (v := .int _ _) rfl rfl) rfl ?_
  refine w_p (y_eql rfl rfl rfl rfl) rfl ?_
  refine w_p (y_assign (v := .bool _) rfl rfl) rfl ?_
  refine w_nil ?_
  refine q_then (hK11 _ _ ?_)
  refine w_ret ?_
  refine q_ret (l := [.tmp 2]) (vs := [_]) rfl ⟨⟨rfl, show _ = (.bool _ : Value) from rfl⟩, trivial⟩ ?_
  exact ⟨rfl, hs10.tail⟩

theorem c45 {w0 w : World} {F : List (Nat × Obj)} (b : Board) (p : AtB) (hm : BIn w0 F b p)  (hs : St w0 w F) :
  Con Try.prog 45 [.agg (b.cells p).toArray] w fun v w' => v = .bool (someB b) ∧ St w0 w' F := by
  refine con_of_wc (n := 9) Try.func45 rfl rfl (Nat.le_of_ble_eq_true rfl) ?_
  refine w_seq (fun K2 hK1 => ?_)
  refine w_region ?_
  refine w_box (v := .agg #[.int _ _, .slice _ _ _, .slice _ _ _]) (cs := [_, _, _]) want_none rfl rfl rfl hs (fun b3 w4 hs5 => ?_)
  refine w_p (y_assign (v := _) rfl rfl) rfl ?_
  refine w_nil ?_
  refine q_then (hK1 _ _ ?_)
  refine w_seq (fun K7 hK6 => ?_)
  refine w_region ?_
  refine w_p (y_loadN (vs := [_, _, _]) Try.isAgg25 Try.sizeOf25 hs5 rfl rfl (ats_own (i := 0) (vs := [_, _, _]) rfl rfl)) rfl ?_
  refine w_call want_none Try.call34 rfl rfl rfl rfl (c34 b p hm.cons hs5) ?_
  rintro _ w9 ⟨rfl, hs10⟩
  refine w_p (y_move (v := .bool _) rfl rfl) rfl ?_
  refine w_split (fun h11 => ?_) (fun h11 => ?_)
  ·
   try simp only [zA, zB, zC, zD, zE, zF] at h11
   refine w_y rfl rfl rfl (y_loadN (vs := [_, _, _]) Try.isAgg25 Try.sizeOf25 hs10 rfl rfl (ats_own (i := 0) (vs := [_, _, _]) rfl rfl)) rfl ?_
   refine w_call (want_yes rfl rfl rfl) Try.call88 rfl rfl rfl rfl (c88 b p hm.cons (check_ok (by assumption)) hs10) ?_
   rintro _ w13 ⟨rfl, hs14⟩
   refine w_p (y_pickT (v := .bool _) rfl rfl rfl rfl) rfl ?_
   refine w_p (y_assign (v := .bool _) rfl rfl) rfl ?_
   refine w_nil ?_
   refine q_then (hK6 _ _ ?_)
   refine w_ret ?_
   refine q_ret (l := [.tmp 2]) (vs := [_]) rfl ⟨⟨rfl, show _ = (.bool _ : Value) from rfl⟩, trivial⟩ ?_
   first
     | exact ⟨congrArg Value.bool (by unfold someB; rw [decide_eq_true (by assumption)]; simp), hs14.tail⟩
     | exact ⟨congrArg Value.bool (by unfold someB; rw [decide_eq_false (by assumption)]; simp), hs14.tail⟩
  ·
   try simp only [zA, zB, zC, zD, zE, zF] at h11
   refine w_skipop rfl rfl rfl ?_
   refine w_skipop rfl rfl rfl ?_
   refine w_p (y_pickF (v := _) rfl rfl rfl rfl) rfl ?_
   refine w_p (y_assign (v := .bool _) rfl rfl) rfl ?_
   refine w_nil ?_
   refine q_then (hK6 _ _ ?_)
   refine w_ret ?_
   refine q_ret (l := [.tmp 2]) (vs := [_]) rfl ⟨⟨rfl, show _ = (.bool _ : Value) from rfl⟩, trivial⟩ ?_
   first
     | exact ⟨congrArg Value.bool (by unfold someB; rw [decide_eq_true (by assumption)]; simp), hs10.tail⟩
     | exact ⟨congrArg Value.bool (by unfold someB; rw [decide_eq_false (by assumption)]; simp), hs10.tail⟩

end Go.Proofs
/- Walks of this seat, printed by gen.py over the engine: what each function returns, in whatever world. No conditions but those of each contract. -/
set_option linter.unusedVariables false
set_option linter.unusedSimpArgs false
set_option maxRecDepth 20000
namespace Go.Proofs
open Go.Rt Go.Rt.Ch
open Go.Rt.Ha (firstE firstE_step firstE_stop firstE_end failE nameE felt spanL upto span_mem listL fewest fewTo bit)
attribute [local irreducible] WL WC Con Yd At Ats Sl Agree DW
theorem Try_D_fb1 (x0 : Int) (w : World) : (Instr.buildSlice 39 1 [(0, .int .i64 x0)].toArray).run Try.prog w = .ok (.slice (some ⟨w.heap.size, 0, none⟩) 1 1) (w.alloc (Go.Rt.blk 3 [.int .i64 x0])) := by kernel_rfl
theorem ats_of {w0 w : World} {L : List (Nat × Obj)} {i b : Nat} {t : TypeId} {cs vs : List Value} (hs : St w0 w L) (hi : L[i]? = some (b, blk t cs)) (h : (cs.drop 0).take vs.length = vs) : Ats w0 L b 0 vs := ats_own hi h
theorem c16 {w0 w : World} {F : List (Nat × Obj)} (b : Board) (p : AtB) (hm : BIn w0 F b p)  (hs : St w0 w F) :
  Con Try.prog 16 [.agg (b.cells p).toArray] w fun v w' => v = .tuple #[.int .i64 (check b).1, .int .i64 (check b).2.1, .int .i64 (check b).2.2] ∧ St w0 w' F := by
  refine con_of_wc (n := 45) Try.func16 rfl rfl (Nat.le_of_ble_eq_true rfl) ?_
  have hlh := hm.lh
  have hlc := hm.lc
  refine w_seq (fun K2 hK1 => ?_)
  refine w_region ?_
  refine w_box (v := .agg #[.int _ _, .slice _ _ _, .slice _ _ _]) (cs := [_, _, _]) want_none rfl rfl rfl hs (fun b3 w4 hs5 => ?_)
  refine w_p (y_assign (v := _) rfl rfl) rfl ?_
  refine w_p (y_assign (v := _) rfl rfl) rfl ?_
  refine w_p (y_assign (v := _) rfl rfl) rfl ?_
  refine w_nil ?_
  refine q_then (hK1 _ _ ?_)
  refine w_seq (fun K7 hK6 => ?_)
  refine w_region ?_
  refine w_p (y_fieldAddr (o := 1) (i := 1) Try.underlying25 rfl Try.sizeOf22 rfl rfl rfl) rfl ?_
  refine w_p (y_load1 Try.isAgg22 hs5 rfl rfl (ats_own (i := 0) (vs := [_]) rfl rfl)) rfl ?_
  refine w_p (y_lenS Try.underlying22 rfl rfl) rfl ?_
  refine w_alloc (cs := [_]) want_none Try.zeroValue3 rfl hs5 (fun b8 w9 hs10 => ?_)
  refine w_store (i := 0) (v := .int _ _) (vs := [_]) want_none Try.sizeOf3 rfl rfl rfl rfl rfl (by simp [Value.oneCell']) hs10 rfl (Nat.le_of_ble_eq_true rfl) (fun w11 hs12 => ?_)
  refine w_nil ?_
  refine q_then (hK6 _ _ ?_)
  refine w_seq (fun K14 hK13 => ?_)
  refine w_block ?_
  refine w_seq (fun K16 hK15 => ?_)
  have hbx := ats_of (i := 1) (vs := b.cells p) hs12 rfl rfl
  have hbn := ats_of (i := 0) (vs := [.int .i64 (b.hours.length : Int)]) hs12 rfl rfl
  refine w_region ?_
  refine w_p (y_fieldAddr (o := 0) (i := 0) Try.underlying25 rfl Try.sizeOf3 rfl rfl rfl) rfl ?_
  refine w_p (y_load1 Try.isAgg3 hs12 rfl rfl (show Ats _ _ _ _ [_] from Ats.part hbx 0 1)) rfl ?_
  refine w_bslice (ps := [(0, _)]) (pv := [(0, .int _ _)]) (cs := [_]) want_none rfl rfl (fun w => Try_D_fb1 _ w) hs12 (fun b17 w18 hs19 => ?_)
  refine w_call want_none Try.call51 rfl rfl rfl rfl (c51 _ _ _ [_] _ (by simp) (sl_own (i := 0) (rows := [[_]]) rfl (by simp) rfl) hs19) ?_
  rintro _ w21 ⟨rfl, hs22⟩
  refine w_p (y_assign (v := .bool _) rfl rfl) rfl ?_
  refine w_nil ?_
  refine q_then (hK15 _ _ ?_)
  refine w_cond rfl rfl (fun h23 => ?_) (fun h23 => ?_)
  ·
   try simp only [zA, zB, zC, zD, zE, zF] at h23
   refine w_seq (fun K25 hK24 => ?_)
   refine w_region ?_
   refine w_p (y_assign (v := _) rfl rfl) rfl ?_
   refine w_p (y_assign (v := _) rfl rfl) rfl ?_
   refine w_p (y_assign (v := _) rfl rfl) rfl ?_
   refine w_nil ?_
   refine q_then (hK24 _ _ ?_)
   refine w_ret ?_
   refine q_blk_ret ?_
   refine q_then_ret ?_
   refine q_ret (l := [.tmp 2, .tmp 3, .tmp 4]) (vs := [_, _, _]) rfl ⟨⟨rfl, show _ = (.int _ _ : Value) from rfl⟩, ⟨rfl, show _ = (.int _ _ : Value) from rfl⟩, ⟨rfl, show _ = (.int _ _ : Value) from rfl⟩, trivial⟩ ?_
   try simp only [List.any_cons, List.any_nil, Bool.or_false, Bool.or_eq_false_iff] at h23
   refine ⟨tup3 ?_, hs22.tail.tail.tail⟩; unfold check failE
   try have e1 : ¬ ((4:Int) < (b.hours.length : Int)) := by omega
   try have e2 : ¬ ((2:Int) < (b.ctrs.length : Int)) := by omega
   first
     | (simp [out_nat, h23, e1, e2]; done)
     | (simp [out_nat, h23, e1]; done)
     | (simp [out_nat, h23]; done)
  ·
   try simp only [zA, zB, zC, zD, zE, zF] at h23
   refine w_seq (fun K27 hK26 => ?_)
   refine w_region ?_
   refine w_p (y_load1 Try.isAgg3 hs22.tail rfl rfl hbn) rfl ?_
   refine w_p (y_gtr rfl rfl rfl rfl) rfl ?_
   refine w_p (y_assign (v := .bool _) rfl rfl) rfl ?_
   refine w_nil ?_
   refine q_then (hK26 _ _ ?_)
   refine w_cond rfl rfl (fun h28 => ?_) (fun h28 => ?_)
   ·
    try simp only [zA, zB, zC, zD, zE, zF] at h28
    refine w_seq (fun K30 hK29 => ?_)
    refine w_region ?_
    refine w_p (y_assign (v := _) rfl rfl) rfl ?_
    refine w_p (y_assign (v := _) rfl rfl) rfl ?_
    refine w_p (y_assign (v := _) rfl rfl) rfl ?_
    refine w_nil ?_
    refine q_then (hK29 _ _ ?_)
    refine w_ret ?_
    refine q_blk_ret ?_
    refine q_then_ret ?_
    refine q_ret (l := [.tmp 2, .tmp 3, .tmp 4]) (vs := [_, _, _]) rfl ⟨⟨rfl, show _ = (.int _ _ : Value) from rfl⟩, ⟨rfl, show _ = (.int _ _ : Value) from rfl⟩, ⟨rfl, show _ = (.int _ _ : Value) from rfl⟩, trivial⟩ ?_
    try simp only [List.any_cons, List.any_nil, Bool.or_false, Bool.or_eq_false_iff] at h23 h28
    refine ⟨tup3 ?_, hs22.tail.tail.tail⟩; unfold check failE
    try have e1 : ¬ ((4:Int) < (b.hours.length : Int)) := by omega
    try have e2 : ¬ ((2:Int) < (b.ctrs.length : Int)) := by omega
    first
      | (simp [out_nat, h23, h28, e1, e2]; done)
      | (simp [out_nat, h23, h28, e1]; done)
      | (simp [out_nat, h23, h28]; done)
   ·
    try simp only [zA, zB, zC, zD, zE, zF] at h28
    refine w_skip ?_
    refine q_blk_normal ?_
    refine q_then (hK13 _ _ ?_)
    refine w_seq (fun K32 hK31 => ?_)
    have hho : 1 ≤ b.holds ∧ b.holds ≤ 3 := by
      have hq : [b.holds].any (out 1 3) = false := by assumption
      simp [out] at hq; omega
    refine w_region ?_
    refine w_p (y_fieldAddr (o := 1) (i := 1) Try.underlying25 rfl Try.sizeOf22 rfl rfl rfl) rfl ?_
    refine w_p (y_load1 Try.isAgg22 hs22.tail rfl rfl (show Ats _ _ _ _ [_] from Ats.part hbx 1 1)) rfl ?_
    refine w_p (y_makeFunc (fv := []) (cv := [_]) rfl rfl rfl rfl) rfl ?_
    refine w_call want_none Try.call52 rfl rfl rfl rfl (c52 _ _ b.hours hlh hm.h.cons.cons.cons (.func (.func 53) #[] #[.pointer (some ⟨b3, 0, none⟩)]) (hourE b.holds) (fun i hi X w hs => fcon_fn Try.call53 (c53 b p hho i b.hours[i] _ b3 (Ats.app hbx.cons) hs)) hs22) ?_
    rintro _ w34 ⟨rfl, hs35⟩
    refine w_p (y_move (v := .tuple _) rfl rfl) rfl ?_
    refine w_p (y_extract (v := .int _ _) rfl rfl rfl) rfl ?_
    refine w_p (y_extract (v := .int _ _) rfl rfl rfl) rfl ?_
    refine w_p (y_assign (v := .int _ _) rfl rfl) rfl ?_
    refine w_p (y_assign (v := .int _ _) rfl rfl) rfl ?_
    refine w_nil ?_
    refine q_then (hK31 _ _ ?_)
    refine w_seq (fun K37 hK36 => ?_)
    refine w_block ?_
    refine w_seq (fun K39 hK38 => ?_)
    refine w_region ?_
    refine w_p (y_move (v := .int _ _) rfl rfl) rfl ?_
    refine w_p (y_neq rfl rfl rfl rfl) rfl ?_
    refine w_p (y_assign (v := .bool _) rfl rfl) rfl ?_
    refine w_nil ?_
    refine q_then (hK38 _ _ ?_)
    refine w_cond rfl rfl (fun h40 => ?_) (fun h40 => ?_)
    ·
     try simp only [zA, zB, zC, zD, zE, zF] at h40
     refine w_seq (fun K42 hK41 => ?_)
     refine w_region ?_
     refine w_p (y_move (v := .int _ _) rfl rfl) rfl ?_
     refine w_p (y_move (v := .int _ _) rfl rfl) rfl ?_
     refine w_p (y_assign (v := _) rfl rfl) rfl ?_
     refine w_p (y_assign (v := .int _ _) rfl rfl) rfl ?_
     refine w_p (y_assign (v := .int _ _) rfl rfl) rfl ?_
     refine w_nil ?_
     refine q_then (hK41 _ _ ?_)
     refine w_ret ?_
     refine q_blk_ret ?_
     refine q_then_ret ?_
     refine q_ret (l := [.tmp 2, .tmp 3, .tmp 4]) (vs := [_, _, _]) rfl ⟨⟨rfl, show _ = (.int _ _ : Value) from rfl⟩, ⟨rfl, show _ = (.int _ _ : Value) from rfl⟩, ⟨rfl, show _ = (.int _ _ : Value) from rfl⟩, trivial⟩ ?_
     try simp only [List.any_cons, List.any_nil, Bool.or_false, Bool.or_eq_false_iff] at h23 h28 h40
     refine ⟨tup3 ?_, hs35.tail.tail.tail⟩; unfold check failE
     try have e1 : ¬ ((4:Int) < (b.hours.length : Int)) := by omega
     try have e2 : ¬ ((2:Int) < (b.ctrs.length : Int)) := by omega
     first
       | (simp [out_nat, h23, h28, h40, e1, e2]; done)
       | (simp [out_nat, h23, h28, h40, e1]; done)
       | (simp [out_nat, h23, h28, h40]; done)
    ·
     try simp only [zA, zB, zC, zD, zE, zF] at h40
     refine w_seq (fun K44 hK43 => ?_)
     refine w_region ?_
     refine w_p (y_fieldAddr (o := 2) (i := 2) Try.underlying25 rfl Try.sizeOf23 rfl rfl rfl) rfl ?_
     refine w_p (y_load1 Try.isAgg23 hs35.tail rfl rfl (show Ats _ _ _ _ [_] from Ats.part hbx 2 1)) rfl ?_
     refine w_p (y_lenS Try.underlying23 rfl rfl) rfl ?_
     refine w_p (y_gtr rfl rfl rfl rfl) rfl ?_
     refine w_p (y_assign (v := .bool _) rfl rfl) rfl ?_
     refine w_nil ?_
     refine q_then (hK43 _ _ ?_)
     refine w_cond rfl rfl (fun h45 => ?_) (fun h45 => ?_)
     ·
      try simp only [zA, zB, zC, zD, zE, zF] at h45
      refine w_seq (fun K47 hK46 => ?_)
      refine w_region ?_
      refine w_p (y_assign (v := _) rfl rfl) rfl ?_
      refine w_p (y_assign (v := _) rfl rfl) rfl ?_
      refine w_p (y_assign (v := _) rfl rfl) rfl ?_
      refine w_nil ?_
      refine q_then (hK46 _ _ ?_)
      refine w_ret ?_
      refine q_blk_ret ?_
      refine q_then_ret ?_
      refine q_ret (l := [.tmp 2, .tmp 3, .tmp 4]) (vs := [_, _, _]) rfl ⟨⟨rfl, show _ = (.int _ _ : Value) from rfl⟩, ⟨rfl, show _ = (.int _ _ : Value) from rfl⟩, ⟨rfl, show _ = (.int _ _ : Value) from rfl⟩, trivial⟩ ?_
      try simp only [List.any_cons, List.any_nil, Bool.or_false, Bool.or_eq_false_iff] at h23 h28 h40 h45
      refine ⟨tup3 ?_, hs35.tail.tail.tail⟩; unfold check failE
      try have e1 : ¬ ((4:Int) < (b.hours.length : Int)) := by omega
      try have e2 : ¬ ((2:Int) < (b.ctrs.length : Int)) := by omega
      first
        | (simp [out_nat, h23, h28, h40, h45, e1, e2]; done)
        | (simp [out_nat, h23, h28, h40, h45, e1]; done)
        | (simp [out_nat, h23, h28, h40, h45]; done)
     ·
      try simp only [zA, zB, zC, zD, zE, zF] at h45
      refine w_skip ?_
      refine q_blk_normal ?_
      refine q_then (hK36 _ _ ?_)
      refine w_seq (fun K49 hK48 => ?_)
      refine w_region ?_
      refine w_p (y_fieldAddr (o := 2) (i := 2) Try.underlying25 rfl Try.sizeOf23 rfl rfl rfl) rfl ?_
      refine w_p (y_load1 Try.isAgg23 hs35.tail rfl rfl (show Ats _ _ _ _ [_] from Ats.part hbx 2 1)) rfl ?_
      refine w_p (y_makeFunc (fv := []) (cv := [_, _]) rfl rfl rfl rfl) rfl ?_
      refine w_call want_none Try.call54 rfl rfl rfl rfl (c54 _ _ b.ctrs p.pc hlc hm.c.cons.cons.cons (.func (.func 55) #[] #[.pointer (some ⟨b3, 0, none⟩), .pointer (some ⟨b8, 0, none⟩)]) (ctrE b.hours.length) (fun i hi X w hs => fcon_fn Try.call55 (c55 b p (BIn.app hm.cons.cons.cons) i hi b3 b8 (Ats.app hbx.cons) (Ats.app hbn.cons) hs)) hs35) ?_
      rintro _ w51 ⟨rfl, hs52⟩
      refine w_p (y_move (v := .tuple _) rfl rfl) rfl ?_
      refine w_p (y_extract (v := .int _ _) rfl rfl rfl) rfl ?_
      refine w_p (y_extract (v := .int _ _) rfl rfl rfl) rfl ?_
      refine w_p (y_assign (v := .int _ _) rfl rfl) rfl ?_
      refine w_p (y_assign (v := .int _ _) rfl rfl) rfl ?_
      refine w_nil ?_
      refine q_then (hK48 _ _ ?_)
      refine w_seq (fun K54 hK53 => ?_)
      refine w_seq (fun K56 hK55 => ?_)
      refine w_region ?_
      refine w_p (y_move (v := .int _ _) rfl rfl) rfl ?_
      refine w_p (y_neq rfl rfl rfl rfl) rfl ?_
      refine w_nil ?_
      refine q_then (hK55 _ _ ?_)
      refine w_cond rfl rfl (fun h57 => ?_) (fun h57 => ?_)
      ·
       try simp only [zA, zB, zC, zD, zE, zF] at h57
       refine w_seq (fun K59 hK58 => ?_)
       refine w_region ?_
       refine w_p (y_move (v := .int _ _) rfl rfl) rfl ?_
       refine w_p (y_move (v := .int _ _) rfl rfl) rfl ?_
       refine w_p (y_assign (v := _) rfl rfl) rfl ?_
       refine w_p (y_assign (v := .int _ _) rfl rfl) rfl ?_
       refine w_p (y_assign (v := .int _ _) rfl rfl) rfl ?_
       refine w_nil ?_
       refine q_then (hK58 _ _ ?_)
       refine w_ret ?_
       refine q_then_ret ?_
       refine q_ret (l := [.tmp 2, .tmp 3, .tmp 4]) (vs := [_, _, _]) rfl ⟨⟨rfl, show _ = (.int _ _ : Value) from rfl⟩, ⟨rfl, show _ = (.int _ _ : Value) from rfl⟩, ⟨rfl, show _ = (.int _ _ : Value) from rfl⟩, trivial⟩ ?_
       try simp only [List.any_cons, List.any_nil, Bool.or_false, Bool.or_eq_false_iff] at h23 h28 h40 h45 h57
       refine ⟨tup3 ?_, hs52.tail.tail.tail⟩; unfold check failE
       try have e1 : ¬ ((4:Int) < (b.hours.length : Int)) := by omega
       try have e2 : ¬ ((2:Int) < (b.ctrs.length : Int)) := by omega
       first
         | (simp [out_nat, h23, h28, h40, h45, h57, e1, e2]; done)
         | (simp [out_nat, h23, h28, h40, h45, h57, e1]; done)
         | (simp [out_nat, h23, h28, h40, h45, h57]; done)
      ·
       try simp only [zA, zB, zC, zD, zE, zF] at h57
       refine w_skip ?_
       refine q_then (hK53 _ _ ?_)
       refine w_seq (fun K61 hK60 => ?_)
       refine w_region ?_
       refine w_p (y_assign (v := _) rfl rfl) rfl ?_
       refine w_p (y_assign (v := _) rfl rfl) rfl ?_
       refine w_p (y_assign (v := _) rfl rfl) rfl ?_
       refine w_nil ?_
       refine q_then (hK60 _ _ ?_)
       refine w_ret ?_
       refine q_ret (l := [.tmp 2, .tmp 3, .tmp 4]) (vs := [_, _, _]) rfl ⟨⟨rfl, show _ = (.int _ _ : Value) from rfl⟩, ⟨rfl, show _ = (.int _ _ : Value) from rfl⟩, ⟨rfl, show _ = (.int _ _ : Value) from rfl⟩, trivial⟩ ?_
       try simp only [List.any_cons, List.any_nil, Bool.or_false, Bool.or_eq_false_iff] at h23 h28 h40 h45 h57
       refine ⟨tup3 ?_, hs52.tail.tail.tail⟩; unfold check failE
       try have e1 : ¬ ((4:Int) < (b.hours.length : Int)) := by omega
       try have e2 : ¬ ((2:Int) < (b.ctrs.length : Int)) := by omega
       first
         | (simp [out_nat, h23, h28, h40, h45, h57, e1, e2]; done)
         | (simp [out_nat, h23, h28, h40, h45, h57, e1]; done)
         | (simp [out_nat, h23, h28, h40, h45, h57]; done)

end Go.Proofs
/- Walks of this seat, printed by gen.py over the engine: what each function returns, in whatever world. No conditions but those of each contract. -/
set_option linter.unusedVariables false
set_option linter.unusedSimpArgs false
set_option maxRecDepth 20000
namespace Go.Proofs
open Go.Rt Go.Rt.Ch
open Go.Rt.Ha (firstE firstE_step firstE_stop firstE_end failE nameE felt spanL upto span_mem listL fewest fewTo bit)
attribute [local irreducible] WL WC Con Yd At Ats Sl Agree DW
theorem Try_E_fb1 (x0 : Int) (x1 : Int) (x2 : Bool) (w : World) : (Instr.build 140 [(0, .int .i64 x0), (1, .int .i64 x1), (2, .bool x2)].toArray).run Try.prog w = .ok (.agg #[.int .i64 x0, .int .i64 x1, .bool x2]) w := by kernel_rfl
theorem Try_E_fb2 (x0 : Int) (x1 : Int) (x2 : Bool) (w : World) : (Instr.buildSlice 152 1 [(0, .agg #[.int .i64 x0, .int .i64 x1, .bool x2])].toArray).run Try.prog w = .ok (.slice (some ⟨w.heap.size, 0, none⟩) 1 1) (w.alloc (Go.Rt.blk 140 [.int .i64 x0, .int .i64 x1, .bool x2])) := by kernel_rfl
theorem Try_info140 : Try.prog.info? 140 = some Try.t140 := by kernel_rfl
/-- A board that lies opened in memory. -/
structure BK (w0 : World) (F : List (Nat × Obj)) (b : Board) (p : AtB) (bb mm : Nat) : Prop where
  i : BIn w0 F b p
  l : Ats w0 F bb 0 [.int .i64 b.holds, .slice p.ah b.hours.length p.ch, .slice p.ac b.ctrs.length p.cc, .map (some mm)]
  ok : b.Ok
theorem BK.mono {w0 : World} {F F' : List (Nat × Obj)} {b : Board} {p : AtB} {bb mm : Nat} (h : BK w0 F b p bb mm) (hs : ∀ w, St w0 w F' → St w0 w F) : BK w0 F' b p bb mm := ⟨h.i.mono hs, h.l.mono hs, h.ok⟩
theorem BK.cons {w0 : World} {F : List (Nat × Obj)} {x : Nat × Obj} {b : Board} {p : AtB} {bb mm : Nat} (h : BK w0 F b p bb mm) : BK w0 (x :: F) b p bb mm := h.mono fun _ h => h.tail
theorem BK.app {w0 : World} {F B : List (Nat × Obj)} {b : Board} {p : AtB} {bb mm : Nat} (h : BK w0 F b p bb mm) : BK w0 (B ++ F) b p bb mm := h.mono fun _ h => h.drop
theorem key_zip {P : Program} {t k : Nat} {fs : Array Field} (ks : List Nat) (hu : P.underlying t = some (.struct fs)) (hp : P.stoodInHeld t = false) (h1 : fs.toList = (fs.toList.zip ks).map Prod.fst) (h2 : ∀ q ∈ fs.toList.zip ks, FF P q.1 q.2 ∧ q.1.offset + q.2 ≤ k)
    (h3 : ∀ q ∈ fs.toList.zip ks, P.underlying q.1.type = some (.int .i64) ∨ ∃ el, P.underlying q.1.type = some (.array q.2 el) ∧ P.underlying el = some (.int .i64) ∧ ∀ w, (sizeOf el).run P w = .ok 1 w)
    (h4 : ∀ l m : List Int, l.length = k → m.length = k → ((fs.toList.zip ks).all fun q => decide ((l.drop q.1.offset).take q.2 = (m.drop q.1.offset).take q.2)) = decide (l = m)) : KeyTy P t k := keyTy_struct _ hu hp h1 h2 h3 h4
theorem key154_cov : ∀ l m : List Int, l.length = 3 → m.length = 3 → (decide ((l.drop 0).take 1 = (m.drop 0).take 1) && (decide ((l.drop 1).take 1 = (m.drop 1).take 1) && (decide ((l.drop 2).take 1 = (m.drop 2).take 1) && true))) = decide (l = m) := by
  intro l m hl hm
  match l, hl with
  | [a, b, c], _ =>
    match m, hm with
    | [a', b', c'], _ => rw [Bool.eq_iff_iff]; simp
theorem key154 : KeyTy Try.prog 154 3 := by
  refine key_zip [1, 1, 1] Try.underlying154 (by kernel_rfl) rfl ?_ ?_ ?_
  · intro q hq
    simp only [List.zip_cons_cons, List.zip_nil_right, List.mem_cons, List.not_mem_nil, or_false] at hq
    rcases hq with rfl | rfl | rfl
    · exact ⟨⟨by decide, .inl ⟨Try.underlying3, rfl⟩⟩, by decide⟩
    · exact ⟨⟨by decide, .inl ⟨Try.underlying3, rfl⟩⟩, by decide⟩
    · exact ⟨⟨by decide, .inl ⟨Try.underlying3, rfl⟩⟩, by decide⟩
  · intro q hq
    simp only [List.zip_cons_cons, List.zip_nil_right, List.mem_cons, List.not_mem_nil, or_false] at hq
    rcases hq with rfl | rfl | rfl
    · exact .inl Try.underlying3
    · exact .inl Try.underlying3
    · exact .inl Try.underlying3
  · exact key154_cov
/-- An entry of the memo: how a counter stands before an hour, and its ways. -/
def Ent (w0 : World) (b : Board) (MB : List (Nat × Obj)) (q : List Int × Value × Nat) : Prop :=
  ∃ (c a : Nat) (s : Int) (x : Option Addr) (cap : Nat), q.1 = [(c : Int), (a : Int), s] ∧ q.2.1 = .slice x (waysAt b c a s).length cap ∧ Sl w0 MB x 3 (wrows (waysAt b c a s))
theorem Ent.mono {w0 : World} {b : Board} {M M' : List (Nat × Obj)} {q : List Int × Value × Nat} (h : Ent w0 b M q) (hs : ∀ w, St w0 w M' → St w0 w M) : Ent w0 b M' q := by
  obtain ⟨c, a, s, x, cap, h1, h2, h3⟩ := h
  exact ⟨c, a, s, x, cap, h1, h2, h3.mono hs⟩
/-- What the memo of a board that is looked at holds. -/
def Memo (w0 : World) (b : Board) (mm : Nat) (M : List (Nat × Obj)) : Prop :=
  ∃ (es : List (List Int × Value × Nat)) (ck : Nat) (MB : List (Nat × Obj)), M = (mm, .map (ents (fun l : List Int => ia l) es).toArray ck) :: MB ∧ MOk es ck ∧ (∀ q ∈ es, q.1.length = 3) ∧ ∀ q ∈ es, Ent w0 b MB q
theorem memo_new (w0 : World) (b : Board) (mm : Nat) : Memo w0 b mm [(mm, .map #[] 0)] := ⟨[], 0, [], rfl, mok_nil, by simp, by simp⟩
theorem flat_wrows (l : List Ch.Way) (x : Ch.Way) : (wrows (l ++ [x])).flatten = (wrows l).flatten ++ [x.cells].flatten := by simp [wrows]
theorem own_way {v : Value} {l : List Ch.Way} {x : Ch.Way} {B : List (Nat × Obj)} (h : Rt.Own v 140 3 (l.length + 1) ((wrows l).flatten ++ [x.cells].flatten) B) : Rt.Own v 140 3 (l ++ [x]).length (wrows (l ++ [x])).flatten B := by
  rw [flat_wrows, List.length_append]; exact h
theorem wrows_row (l : List Ch.Way) : ∀ row ∈ wrows l, row.length = 3 := by intro row h; obtain ⟨q, _, rfl⟩ := List.mem_map.1 h; rfl
theorem c110f {w0 w : World} {F : List (Nat × Obj)} (b : Board) (p : AtB) (bb mm : Nat) (hk : BK w0 F b p bb mm) (c a : Nat) (hc : c < b.ctrs.length) (ha : a < b.hours.length) (s : Int) (hs1 : 0 ≤ s ∧ s < 100) (es : List (List Int × Value × Nat)) (ck : Nat) (hes : ∀ q ∈ es, q.1.length = 3) (u : Value) (a9 : Option Addr) (n9 c9 : Nat) (hu : u = .slice a9 n9 c9) (hf : getA [(c : Int), (a : Int), s] es = some u) (hs : St w0 w ((mm, .map (ents (fun l : List Int => ia l) es).toArray ck) :: F)) :
  Con Try.prog 110 [.pointer (some ⟨bb, 0, none⟩), .agg #[.int .i64 (c : Int), .int .i64 (a : Int), .int .i64 s]] w fun v w' => v = u ∧ St w0 w' ((mm, .map (ents (fun l : List Int => ia l) es).toArray ck) :: F) := by
  refine con_of_wc (n := 128) Try.func110 rfl rfl (Nat.le_of_ble_eq_true rfl) ?_
  subst hu
  have hb := hk.l
  refine w_seq (fun K2 hK1 => ?_)
  refine w_region ?_
  refine w_box (v := .agg #[.int _ _, .int _ _, .int _ _]) (cs := [_, _, _]) want_none rfl rfl rfl hs (fun b3 w4 hs5 => ?_)
  refine w_p (y_assign (v := _) rfl rfl) rfl ?_
  refine w_nil ?_
  refine q_then (hK1 _ _ ?_)
  refine w_seq (fun K7 hK6 => ?_)
  refine w_seq (fun K9 hK8 => ?_)
  refine w_draw [] [(0, 0), (1, 0), (2, 0), (3, 1), (4, 1), (5, 1), (6, 0), (7, 0), (8, 0), (9, 0), (10, 0)] Try_mo (drawOK_of (by kernel_rfl)) hs5 (fun w10 hs11 => ?_)
  refine d_any rfl want_none rfl (fun _ => (y_move (v := .pointer _) rfl rfl)) ?_
  refine d_any rfl want_none rfl (fun _ => (y_nilCheck rfl rfl)) ?_
  refine d_any rfl want_none rfl (fun _ => (y_fieldAddr (o := 3) (i := 1) Try.underlying129 rfl Try.sizeOf127 rfl rfl rfl)) ?_
  refine d_take rfl want_none rfl hs11 (fun _ hq => (y_load1 Try.isAgg127 hq.tail.tail rfl rfl (show Ats _ _ _ _ [_] from Ats.part hb 3 1))) ?_
  refine d_take rfl want_none rfl hs11 (fun _ hq => (y_loadN (vs := [_, _, _]) Try.isAgg154 Try.sizeOf154 hq rfl rfl (ats_own (i := 0) (vs := [_, _, _]) rfl rfl))) ?_
  refine d_take rfl want_none rfl hs11 (fun _ hq => (G_look2S (i := 1) (a := [(c : Int), (a : Int), s]) Try.underlying127 (keyG_ia key154) rfl hes hq rfl rfl rfl rfl rfl hf)) ?_
  refine d_any rfl want_none rfl (fun _ => (y_move (v := .tuple _) rfl rfl)) ?_
  refine d_any rfl want_none rfl (fun _ => (y_extract (v := .slice _ _ _) rfl rfl rfl)) ?_
  refine d_any rfl want_none rfl (fun _ => (y_extract (v := .bool _) rfl rfl rfl)) ?_
  refine d_any rfl want_none rfl (fun _ => (y_assign (v := .slice _ _ _) rfl rfl)) ?_
  refine d_any rfl want_none rfl (fun _ => (y_assign (v := .bool _) rfl rfl)) ?_
  refine d_nil ?_
  refine q_then (hK8 _ _ ?_)
  refine w_seq (fun K13 hK12 => ?_)
  refine w_region ?_
  refine w_p (y_move (v := .bool _) rfl rfl) rfl ?_
  refine w_nil ?_
  refine q_then (hK12 _ _ ?_)
  refine w_cond rfl rfl (fun h14 => ?_) (fun h14 => ?_)
  ·
   try simp only [zA, zB, zC, zD, zE, zF] at h14
   refine w_seq (fun K16 hK15 => ?_)
   refine w_region ?_
   refine w_p (y_move (v := .slice _ _ _) rfl rfl) rfl ?_
   refine w_p (y_assign (v := .slice _ _ _) rfl rfl) rfl ?_
   refine w_nil ?_
   refine q_then (hK15 _ _ ?_)
   refine w_ret ?_
   refine q_then_ret ?_
   refine q_ret (l := [.tmp 4]) (vs := [_]) rfl ⟨⟨rfl, show _ = (.slice _ _ _ : Value) from rfl⟩, trivial⟩ ?_
   exact ⟨rfl, hs11.tail⟩
  ·
   exfalso; simp at h14

theorem c110n {w0 w : World} {F : List (Nat × Obj)} (b : Board) (p : AtB) (bb mm : Nat) (hk : BK w0 F b p bb mm) (c a : Nat) (hc : c < b.ctrs.length) (ha : a < b.hours.length) (s : Int) (hs1 : 0 ≤ s ∧ s < 100) (es : List (List Int × Value × Nat)) (ck : Nat) (hes : ∀ q ∈ es, q.1.length = 3) (hf : getA [(c : Int), (a : Int), s] es = none) (hs : St w0 w ((mm, .map (ents (fun l : List Int => ia l) es).toArray ck) :: F)) :
  Con Try.prog 110 [.pointer (some ⟨bb, 0, none⟩), .agg #[.int .i64 (c : Int), .int .i64 (a : Int), .int .i64 s]] w fun v w' => ∃ (x : Option Addr) (cap : Nat) (B : List (Nat × Obj)), v = .slice x (waysAt b c a s).length cap ∧ Sl w0 B x 3 (wrows (waysAt b c a s)) ∧ St w0 w' ((mm, .map (ents (fun l : List Int => ia l) (putA [(c : Int), (a : Int), s] v ck es)).toArray (if idxA [(c : Int), (a : Int), s] es 0 = none then ck + 1 else ck)) :: (B ++ F)) := by
  refine con_of_wc (n := 128) Try.func110 rfl rfl (Nat.le_of_ble_eq_true rfl) ?_
  have hb := hk.l
  have hcok := hk.ok.ctr _ (List.getElem_mem hc)
  have hhok := hk.ok.hour _ (List.getElem_mem ha)
  obtain ⟨bx, ox, hbx, hxc⟩ := sl_krows hk.i.c hc
  obtain ⟨by_, oy, hby, hxh⟩ := sl_hrows hk.i.h ha
  have hz0 := hk.i.z c hc
  have hs0 := hk.i.s c hc
  rw [← ctr_at hc] at hcok hxc hz0 hs0
  rw [← hour_at ha] at hhok hxh
  have k1 := hcok.skip
  have k2 := hcok.twice
  have k3 := hhok.lo
  have k4 := hhok.le
  have k5 := hhok.hi
  have k6 := hhok.w
  have k7 := hcok.lz
  have k8 := hcok.ls
  have k9 := hk.ok.lh
  have haz : a < (ctrOf b c).zero.length := by omega
  have has : a < (ctrOf b c).shown.length := by omega
  obtain ⟨bz, oz, hbz, hxz⟩ := sl_ints hz0 haz
  obtain ⟨bv, ov, hbv, hxv⟩ := sl_ints hs0 has
  have hgz : (ctrOf b c).zero.getD a 0 = (ctrOf b c).zero[a] := by simp [List.getD, haz]
  have hgs : (ctrOf b c).shown.getD a 0 = (ctrOf b c).shown[a] := by simp [List.getD, has]
  have hsr := hcok.shown _ (List.getElem_mem has)
  refine w_seq (fun K2 hK1 => ?_)
  refine w_region ?_
  refine w_box (v := .agg #[.int _ _, .int _ _, .int _ _]) (cs := [_, _, _]) want_none rfl rfl rfl hs (fun b3 w4 hs5 => ?_)
  refine w_p (y_assign (v := _) rfl rfl) rfl ?_
  refine w_nil ?_
  refine q_then (hK1 _ _ ?_)
  refine w_seq (fun K7 hK6 => ?_)
  refine w_seq (fun K9 hK8 => ?_)
  refine w_draw [] [(0, 0), (1, 0), (2, 0), (3, 1), (4, 1), (5, 1), (6, 0), (7, 0), (8, 0), (9, 0), (10, 0)] Try_mo (drawOK_of (by kernel_rfl)) hs5 (fun w10 hs11 => ?_)
  refine d_any rfl want_none rfl (fun _ => (y_move (v := .pointer _) rfl rfl)) ?_
  refine d_any rfl want_none rfl (fun _ => (y_nilCheck rfl rfl)) ?_
  refine d_any rfl want_none rfl (fun _ => (y_fieldAddr (o := 3) (i := 1) Try.underlying129 rfl Try.sizeOf127 rfl rfl rfl)) ?_
  refine d_take rfl want_none rfl hs11 (fun _ hq => (y_load1 Try.isAgg127 hq.tail.tail rfl rfl (show Ats _ _ _ _ [_] from Ats.part hb 3 1))) ?_
  refine d_take rfl want_none rfl hs11 (fun _ hq => (y_loadN (vs := [_, _, _]) Try.isAgg154 Try.sizeOf154 hq rfl rfl (ats_own (i := 0) (vs := [_, _, _]) rfl rfl))) ?_
  refine d_take rfl want_none rfl hs11 (fun _ hq => (G_look2N (i := 1) (a := [(c : Int), (a : Int), s]) Try.underlying127 (keyG_ia key154) rfl hes Try.zeroValue152 hq rfl rfl rfl rfl rfl hf)) ?_
  refine d_any rfl want_none rfl (fun _ => (y_move (v := .tuple _) rfl rfl)) ?_
  refine d_any rfl want_none rfl (fun _ => (y_extract (v := .slice _ _ _) rfl rfl rfl)) ?_
  refine d_any rfl want_none rfl (fun _ => (y_extract (v := .bool _) rfl rfl rfl)) ?_
  refine d_any rfl want_none rfl (fun _ => (y_assign (v := .slice _ _ _) rfl rfl)) ?_
  refine d_any rfl want_none rfl (fun _ => (y_assign (v := .bool _) rfl rfl)) ?_
  refine d_nil ?_
  refine q_then (hK8 _ _ ?_)
  refine w_seq (fun K13 hK12 => ?_)
  refine w_region ?_
  refine w_p (y_move (v := .bool _) rfl rfl) rfl ?_
  refine w_nil ?_
  refine q_then (hK12 _ _ ?_)
  refine w_cond rfl rfl (fun h14 => ?_) (fun h14 => ?_)
  ·
   exfalso
   try simp only [zA, zB, zC, zD, zE, zF] at h14
   simp at h14
  ·
   try simp only [zA, zB, zC, zD, zE, zF] at h14
   refine w_skip ?_
   refine q_then (hK6 _ _ ?_)
   refine w_seq (fun K16 hK15 => ?_)
   refine w_region ?_
   refine w_p (y_assign (v := _) rfl rfl) rfl ?_
   refine w_nil ?_
   refine q_then (hK15 _ _ ?_)
   refine w_seq (fun K18 hK17 => ?_)
   refine w_cut [8, 9, 26, 27, 28, 29, 30, 31, 32, 33, 34, 35, 36, 37, 38, 39, 40, 41, 42, 43, 44] [8, 9] (fun vs w => ∃ b8 b9, vs = [.pointer (some ⟨b8, 0, none⟩), .pointer (some ⟨b9, 0, none⟩)] ∧ St w0 w ((b9, blk 31 [.int .i64 (hourOf b a).lo, .int .i64 (hourOf b a).hi]) :: (b8, blk 76 ((ctrOf b c).cells (p.pc c))) :: (b3, blk 154 [.int .i64 (c : Int), .int .i64 (a : Int), .int .i64 s]) :: (mm, .map (ents (fun l : List Int => ia l) es).toArray ck) :: F)) (fun K20 hC19 => ?_) ?_
   ·
    refine w_drawT (C := fun w => St w0 w _) [] (.two [(0, 0), (1, 0), (2, 0), (3, 0), (4, 1), (5, 0), (6, 1), (7, 0), (8, 1), (9, 0), (10, 0), (11, 0), (12, 0), (13, 1), (14, 0), (15, 1), (16, 0), (17, 0), (18, 1)] 19 20 (.done [(20, 2), (21, 2), (22, 2)]) (.done [(19, 2), (21, 2), (22, 2)])) Try_mo (by kernel_rfl) hs11 (fun _ h => h.drew) (fun w21 hs22 => ?_)
    refine dt_two ?_
    refine d_any rfl want_none rfl (fun _ => (y_move (v := .pointer _) rfl rfl)) ?_
    refine d_any rfl want_none rfl (fun _ => (y_nilCheck rfl rfl)) ?_
    refine d_any rfl want_none rfl (fun _ => (y_fieldAddr (o := 0) (i := 0) Try.underlying129 rfl Try.sizeOf25 rfl rfl rfl)) ?_
    refine d_any rfl want_none rfl (fun _ => (y_fieldAddr (o := 2) (i := 2) Try.underlying25 rfl Try.sizeOf23 rfl rfl rfl)) ?_
    refine d_take rfl want_none rfl hs22 (fun _ hq => (yd_slice hbx (y_load1 Try.isAgg23 hq.tail.tail rfl rfl (show Ats _ _ _ _ [_] from Ats.part hb 2 1)))) ?_
    refine d_any rfl want_none rfl (fun _ => (y_fieldAddr (o := 0) (i := 0) Try.underlying154 rfl Try.sizeOf3 rfl rfl rfl)) ?_
    refine d_take rfl want_none rfl hs22 (fun _ hq => (y_load1 Try.isAgg3 hq rfl rfl (ats_own (i := 0) (vs := [_]) rfl rfl))) ?_
    refine d_any rfl want_none rfl (fun _ => (y_indexS Try.underlying23 Try.sizeOf76 rfl rfl rfl rfl (i := c) rfl hc)) ?_
    refine d_take rfl want_none rfl hs22 (fun _ hq => (y_loadN (vs := [_, _, _, _, _, _]) Try.isAgg76 Try.sizeOf76 hq.tail.tail rfl rfl hxc)) ?_
    refine d_any rfl want_none rfl (fun _ => (y_move (v := .pointer _) rfl rfl)) ?_
    refine d_any rfl want_none rfl (fun _ => (y_nilCheck rfl rfl)) ?_
    refine d_any rfl want_none rfl (fun _ => (y_fieldAddr (o := 0) (i := 0) Try.underlying129 rfl Try.sizeOf25 rfl rfl rfl)) ?_
    refine d_any rfl want_none rfl (fun _ => (y_fieldAddr (o := 1) (i := 1) Try.underlying25 rfl Try.sizeOf22 rfl rfl rfl)) ?_
    refine d_take rfl want_none rfl hs22 (fun _ hq => (yd_slice hby (y_load1 Try.isAgg22 hq.tail.tail rfl rfl (show Ats _ _ _ _ [_] from Ats.part hb 1 1)))) ?_
    refine d_any rfl want_none rfl (fun _ => (y_fieldAddr (o := 1) (i := 1) Try.underlying154 rfl Try.sizeOf3 rfl rfl rfl)) ?_
    refine d_take rfl want_none rfl hs22 (fun _ hq => (y_load1 Try.isAgg3 hq rfl rfl (ats_own (i := 0) (vs := [_]) rfl rfl))) ?_
    refine d_any rfl want_none rfl (fun _ => (y_indexS Try.underlying22 Try.sizeOf70 rfl rfl rfl rfl (i := a) rfl ha)) ?_
    refine d_any rfl want_none rfl (fun _ => (y_fieldAddr (o := 1) (i := 1) Try.underlying70 rfl Try.sizeOf31 rfl rfl rfl)) ?_
    refine d_take rfl want_none rfl hs22 (fun _ hq => (y_loadN (vs := [_, _]) Try.isAgg31 Try.sizeOf31 hq.tail.tail rfl rfl (show Ats _ _ _ _ [_, _] from Ats.part hxh 1 2))) ?_
    refine d_two rfl rfl ?_ ?_
    ·
     refine w_alloc (cs := [_, _, _, _, _, _]) want_none Try.zeroValue76 rfl hs22 (fun b23 w24 hs25 => ?_)
     refine w_nil ?_
     refine qn ⟨hs25.tail, ?_⟩
     refine dt_done ?_
     refine d_eff rfl ?_
     refine w_alloc (cs := [_, _]) want_none Try.zeroValue31 rfl hs25 (fun b26 w27 hs28 => ?_)
     refine w_nil ?_
     refine qn ⟨hs28.tail.tail, ?_⟩
     refine d_eff rfl ?_
     refine w_store (i := 1) (v := .agg #[.string _, .int _ _, .int _ _, .int _ _, .slice _ _ _, .slice _ _ _]) (vs := [_, _, _, _, _, _]) want_none Try.sizeOf76 rfl rfl rfl rfl rfl (by simp [Value.oneCell']) hs28 rfl (Nat.le_of_ble_eq_true rfl) (fun w29 hs30 => ?_)
     refine w_nil ?_
     refine qn ⟨hs30.tail.tail, ?_⟩
     refine d_eff rfl ?_
     refine w_store (i := 0) (v := .agg #[.int _ _, .int _ _]) (vs := [_, _]) want_none Try.sizeOf31 rfl rfl rfl rfl rfl (by simp [Value.oneCell']) hs30 rfl (Nat.le_of_ble_eq_true rfl) (fun w31 hs32 => ?_)
     refine w_nil ?_
     refine qn ⟨hs32.tail.tail, ?_⟩
     refine d_nil ?_
     refine q_then (hC19 _ _ (Md.intro (by repeat (first | exact agree_refl | exact agree_mix | refine agree_upd rfl ?_ | refine agree_updL rfl ?_ _ | refine agree_mixin rfl ?_)) ?_))
     first
       | exact ⟨_, _, rfl, hs32⟩
       | exact ⟨_, _, rfl, swp2 (show St _ _ (_ :: _ :: _) from hs32)⟩
    ·
     refine w_alloc (cs := [_, _]) want_none Try.zeroValue31 rfl hs22 (fun b33 w34 hs35 => ?_)
     refine w_nil ?_
     refine qn ⟨hs35.tail, ?_⟩
     refine dt_done ?_
     refine d_eff rfl ?_
     refine w_alloc (cs := [_, _, _, _, _, _]) want_none Try.zeroValue76 rfl hs35 (fun b36 w37 hs38 => ?_)
     refine w_nil ?_
     refine qn ⟨hs38.tail.tail, ?_⟩
     refine d_eff rfl ?_
     refine w_store (i := 0) (v := .agg #[.string _, .int _ _, .int _ _, .int _ _, .slice _ _ _, .slice _ _ _]) (vs := [_, _, _, _, _, _]) want_none Try.sizeOf76 rfl rfl rfl rfl rfl (by simp [Value.oneCell']) hs38 rfl (Nat.le_of_ble_eq_true rfl) (fun w39 hs40 => ?_)
     refine w_nil ?_
     refine qn ⟨hs40.tail.tail, ?_⟩
     refine d_eff rfl ?_
     refine w_store (i := 1) (v := .agg #[.int _ _, .int _ _]) (vs := [_, _]) want_none Try.sizeOf31 rfl rfl rfl rfl rfl (by simp [Value.oneCell']) hs40 rfl (Nat.le_of_ble_eq_true rfl) (fun w41 hs42 => ?_)
     refine w_nil ?_
     refine qn ⟨hs42.tail.tail, ?_⟩
     refine d_nil ?_
     refine q_then (hC19 _ _ (Md.intro (by repeat (first | exact agree_refl | exact agree_mix | refine agree_upd rfl ?_ | refine agree_updL rfl ?_ _ | refine agree_mixin rfl ?_)) ?_))
     first
       | exact ⟨_, _, rfl, hs42⟩
       | exact ⟨_, _, rfl, swp2 (show St _ _ (_ :: _ :: _) from hs42)⟩
   ·
    intro vs μ w43 hM
    obtain ⟨b8, b9, rfl, hs⟩ := hM
    refine q_then (hK17 _ _ ?_)
    refine w_seq (fun K45 hK44 => ?_)
    refine w_seq (fun K47 hK46 => ?_)
    refine w_region ?_
    refine w_p (y_move (v := _) rfl rfl) rfl ?_
    refine w_nil ?_
    refine q_then (hK46 _ _ ?_)
    refine w_block ?_
    refine w_loop [7, 10, 11, 12, 13, 14, 45, 46, 47, 48, 49, 50, 51, 52, 53, 54, 55, 56, 57, 58, 59, 60, 61, 62, 63, 64, 65, 66, 67, 68, 69, 70, 71, 72, 73, 74, 75, 76, 77, 78, 79, 80, 81, 82, 83, 84, 85, 86, 87, 88, 89, 90, 91, 92, 93, 94, 95, 96, 97, 98, 99, 100, 101, 102, 103, 104, 105, 106, 107, 108, 109, 110, 111, 112, 113, 114, 115, 116, 117, 118, 119, 120] [7, 45] (fun kk vs w => ∃ (z : Nat) (v : Value) (B : List (Nat × Obj)), vs = [v, .int .i64 z] ∧ z ≤ 2 ∧ kk = 2 - z ∧ Rt.Own v 140 3 (wTo (ctrOf b c) (hourOf b a) a s z).length (wrows (wTo (ctrOf b c) (hourOf b a) a s z)).flatten B ∧ St w0 w ((b9, blk 31 [.int .i64 (hourOf b a).lo, .int .i64 (hourOf b a).hi]) :: (b8, blk 76 ((ctrOf b c).cells (p.pc c))) :: (b3, blk 154 [.int .i64 (c : Int), .int .i64 (a : Int), .int .i64 s]) :: (mm, .map (ents (fun l : List Int => ia l) es).toArray ck) :: (B ++ F))) (2) ?_ ?_
    ·
     exact ⟨0, _, [], rfl, by omega, by omega, own_nil 140 3, hs⟩
    ·
     intro k vs μ w50 hI K49 hN48
     obtain ⟨z, v, B, rfl, hza, rfl, hown, hs⟩ := hI
     have hzb : decide ((z : Int) = 1) = decide (z = 1) := by rw [Bool.eq_iff_iff]; simp; omega
     have hwl := wTo_len (a := a) (s := s) hcok hhok z
     refine w_seq (fun K52 hK51 => ?_)
     refine w_region ?_
     refine w_p (y_lss rfl rfl rfl rfl) rfl ?_
     refine w_nil ?_
     refine q_then (hK51 _ _ ?_)
     refine w_seq (fun K54 hK53 => ?_)
     refine w_cond rfl rfl (fun h55 => ?_) (fun h55 => ?_)
     ·
      try simp only [zA, zB, zC, zD, zE, zF] at h55
      refine w_skip ?_
      refine q_then (hK53 _ _ ?_)
      refine w_seq (fun K57 hK56 => ?_)
      refine w_block ?_
      refine w_seq (fun K59 hK58 => ?_)
      refine w_region ?_
      refine w_p (y_move (v := .int _ _) rfl rfl) rfl ?_
      refine w_p (y_assign (v := .int _ _) rfl rfl) rfl ?_
      refine w_nil ?_
      refine q_then (hK58 _ _ ?_)
      refine w_seq (fun K61 hK60 => ?_)
      refine w_seq (fun K63 hK62 => ?_)
      refine w_region ?_
      refine w_p (y_move (v := .int _ _) rfl rfl) rfl ?_
      refine w_p (y_eql rfl rfl rfl rfl) rfl ?_
      refine w_p (y_move (v := .bool _) rfl rfl) rfl ?_
      refine w_split (fun h64 => ?_) (fun h64 => ?_)
      ·
       try simp only [zA, zB, zC, zD, zE, zF] at h64
       refine w_y rfl rfl rfl (y_fieldAddr (o := 4) (i := 4) Try.underlying76 rfl Try.sizeOf39 rfl rfl rfl) rfl ?_
       refine w_y rfl rfl rfl (yd_slice hbz (y_load1 Try.isAgg39 hs rfl rfl (ats_own (i := 1) (vs := [_]) rfl rfl))) rfl ?_
       refine w_y rfl rfl rfl (y_fieldAddr (o := 1) (i := 1) Try.underlying154 rfl Try.sizeOf3 rfl rfl rfl) rfl ?_
       refine w_y rfl rfl rfl (y_load1 Try.isAgg3 hs rfl rfl (ats_own (i := 2) (vs := [_]) rfl rfl)) rfl ?_
       refine w_y rfl rfl rfl (y_indexS Try.underlying39 Try.sizeOf3 rfl rfl rfl rfl (i := a) rfl haz) rfl ?_
       refine w_y rfl rfl rfl (y_load1 Try.isAgg3 hs.tail.tail.tail.tail.drop rfl rfl hxz) rfl ?_
       refine w_y rfl rfl rfl (y_eql rfl rfl rfl rfl) rfl ?_
       refine w_p (y_pickT (v := .bool _) rfl rfl rfl rfl) rfl ?_
       refine w_p (y_move (v := .bool _) rfl rfl) rfl ?_
       refine w_split (fun h65 => ?_) (fun h65 => ?_)
       ·
        try simp only [zA, zB, zC, zD, zE, zF] at h65
        refine w_skipop rfl rfl rfl ?_
        refine w_skipop rfl rfl rfl ?_
        refine w_skipop rfl rfl rfl ?_
        refine w_skipop' rfl rfl rfl ?_
        refine w_skipop' rfl rfl rfl ?_
        refine w_skipop' rfl rfl rfl ?_
        refine w_skipop' rfl rfl rfl ?_
        refine w_skipop' rfl rfl rfl ?_
        refine w_skipop' rfl rfl rfl ?_
        refine w_skipop' rfl rfl rfl ?_
        refine w_skipop rfl rfl rfl ?_
        refine w_p (y_pickT (v := _) rfl rfl rfl rfl) rfl ?_
        refine w_nil ?_
        refine q_then (hK62 _ _ ?_)
        refine w_condT rfl rfl ?_
        refine w_exit ?_
        refine q_then_exit ?_
        refine q_blk_this ?_
        refine q_then (hK56 _ _ ?_)
        refine w_region ?_
        refine w_p (y_add rfl rfl rfl rfl (by omega) (by omega)) rfl ?_
        refine w_p (y_move (v := .int _ _) rfl rfl) rfl ?_
        refine w_nil ?_
        refine q_then (hN48 _ _ (Nx.intro (2 - (z + 1)) (by omega) (by repeat (first | exact agree_mix | refine agree_upd rfl ?_ | refine agree_updL rfl ?_ _ | refine agree_mixin rfl ?_)) ?_))
        first
          | exact ⟨z + 1, v, B, rfl, by omega, rfl, by rw [wTo_no (canZ_n (by omega) (by omega))]; exact hown, hs⟩
          | exact ⟨z + 1, v, B, rfl, by omega, rfl, by rw [wPart_all (canZ_y (by omega) (by omega)) (q := q) (by omega)]; exact hown2, hs.tail⟩
       ·
        try simp only [zA, zB, zC, zD, zE, zF] at h65
        refine w_y rfl rfl rfl (y_move (v := .int _ _) rfl rfl) rfl ?_
        refine w_y rfl rfl rfl (y_eql rfl rfl rfl rfl) rfl ?_
        refine w_y rfl rfl rfl (y_move (v := .bool _) rfl rfl) rfl ?_
        refine w_split (fun h66 => ?_) (fun h66 => ?_)
        ·
         try simp only [zA, zB, zC, zD, zE, zF] at h66
         refine w_y rfl rfl rfl (y_fieldAddr (o := 4) (i := 4) Try.underlying76 rfl Try.sizeOf39 rfl rfl rfl) rfl ?_
         refine w_y rfl rfl rfl (yd_slice hbz (y_load1 Try.isAgg39 hs rfl rfl (ats_own (i := 1) (vs := [_]) rfl rfl))) rfl ?_
         refine w_y rfl rfl rfl (y_fieldAddr (o := 1) (i := 1) Try.underlying154 rfl Try.sizeOf3 rfl rfl rfl) rfl ?_
         refine w_y rfl rfl rfl (y_load1 Try.isAgg3 hs rfl rfl (ats_own (i := 2) (vs := [_]) rfl rfl)) rfl ?_
         refine w_y rfl rfl rfl (y_indexS Try.underlying39 Try.sizeOf3 rfl rfl rfl rfl (i := a) rfl haz) rfl ?_
         refine w_y rfl rfl rfl (y_load1 Try.isAgg3 hs.tail.tail.tail.tail.drop rfl rfl hxz) rfl ?_
         refine w_y rfl rfl rfl (y_eql rfl rfl rfl rfl) rfl ?_
         refine w_y rfl rfl rfl (y_pickT (v := .bool _) rfl rfl rfl rfl) rfl ?_
         refine w_p (y_pickF (v := .bool _) rfl rfl rfl rfl) rfl ?_
         refine w_nil ?_
         refine q_then (hK62 _ _ ?_)
         refine w_cond rfl rfl (fun h67 => ?_) (fun h67 => ?_)
         ·
          try simp only [zA, zB, zC, zD, zE, zF] at h67
          refine w_exit ?_
          refine q_then_exit ?_
          refine q_blk_this ?_
          refine q_then (hK56 _ _ ?_)
          refine w_region ?_
          refine w_p (y_add rfl rfl rfl rfl (by omega) (by omega)) rfl ?_
          refine w_p (y_move (v := .int _ _) rfl rfl) rfl ?_
          refine w_nil ?_
          refine q_then (hN48 _ _ (Nx.intro (2 - (z + 1)) (by omega) (by repeat (first | exact agree_mix | refine agree_upd rfl ?_ | refine agree_updL rfl ?_ _ | refine agree_mixin rfl ?_)) ?_))
          first
            | exact ⟨z + 1, v, B, rfl, by omega, rfl, by rw [wTo_no (canZ_n (by omega) (by omega))]; exact hown, hs⟩
            | exact ⟨z + 1, v, B, rfl, by omega, rfl, by rw [wPart_all (canZ_y (by omega) (by omega)) (q := q) (by omega)]; exact hown2, hs.tail⟩
         ·
          try simp only [zA, zB, zC, zD, zE, zF] at h67
          refine w_skip ?_
          refine q_then (hK60 _ _ ?_)
          refine w_seq (fun K69 hK68 => ?_)
          refine w_region ?_
          refine w_p (y_loadN (vs := [_, _, _]) Try.isAgg154 Try.sizeOf154 hs rfl rfl (ats_own (i := 2) (vs := [_, _, _]) rfl rfl)) rfl ?_
          refine w_alloc (cs := [_, _, _]) want_none Try.zeroValue154 rfl hs (fun b70 w71 hs72 => ?_)
          refine w_store (i := 0) (v := .agg #[.int _ _, .int _ _, .int _ _]) (vs := [_, _, _]) want_none Try.sizeOf154 rfl rfl rfl rfl rfl (by simp [Value.oneCell']) hs72 rfl (Nat.le_of_ble_eq_true rfl) (fun w73 hs74 => ?_)
          refine w_nil ?_
          refine q_then (hK68 _ _ ?_)
          refine w_seq (fun K76 hK75 => ?_)
          have hmi := mul_in (s := s) (show z < 2 by omega) hs1
          refine w_region ?_
          refine w_p (y_fieldAddr (o := 2) (i := 2) Try.underlying154 rfl Try.sizeOf3 rfl rfl rfl) rfl ?_
          refine w_p (y_load1 Try.isAgg3 hs74 rfl rfl (ats_own (i := 0) (vs := [_]) rfl rfl)) rfl ?_
          refine w_p (y_move (v := .int _ _) rfl rfl) rfl ?_
          refine w_p (y_sub rfl rfl rfl rfl (by omega) (by omega)) rfl ?_
          refine w_p (y_mul rfl rfl rfl rfl (by omega) (by omega)) rfl ?_
          refine w_p (y_fieldAddr (o := 2) (i := 2) Try.underlying154 rfl Try.sizeOf3 rfl rfl rfl) rfl ?_
          refine w_store (i := 0) (v := .int _ _) (vs := [_]) want_none Try.sizeOf3 rfl rfl rfl rfl rfl (by simp [Value.oneCell']) hs74 rfl (Nat.le_of_ble_eq_true rfl) (fun w77 hs78 => ?_)
          refine w_nil ?_
          refine q_then (hK75 _ _ ?_)
          refine w_seq (fun K80 hK79 => ?_)
          refine w_region ?_
          refine w_p (y_fieldAddr (o := 0) (i := 0) Try.underlying31 rfl Try.sizeOf3 rfl rfl rfl) rfl ?_
          refine w_p (y_load1 Try.isAgg3 hs78 rfl rfl (ats_own (i := 1) (vs := [_]) rfl rfl)) rfl ?_
          refine w_p (y_fieldAddr (o := 1) (i := 1) Try.underlying76 rfl Try.sizeOf3 rfl rfl rfl) rfl ?_
          refine w_p (y_load1 Try.isAgg3 hs78 rfl rfl (ats_own (i := 2) (vs := [_]) rfl rfl)) rfl ?_
          refine w_p (y_sub rfl rfl rfl rfl (by omega) (by omega)) rfl ?_
          refine w_p (y_max2 rfl rfl rfl rfl) rfl ?_
          refine w_p (y_assign (v := .int _ _) rfl rfl) rfl ?_
          refine w_nil ?_
          refine q_then (hK79 _ _ ?_)
          refine w_block ?_
          refine w_loop [7, 12, 13, 14, 85, 86, 87, 88, 89, 90, 91, 92, 93, 94, 95, 96, 97, 98, 99, 100, 101, 102, 103, 104, 105, 106, 107, 108, 109, 110, 111, 112, 113, 114, 115, 116, 117, 118, 119] [7, 12] (fun kk vs w => ∃ (q : Nat) (v : Value) (B : List (Nat × Obj)), vs = [v, .int .i64 ((max 0 ((hourOf b a).lo - (ctrOf b c).skip)) + q)] ∧ q ≤ ((hourOf b a).hi + (ctrOf b c).twice + 1 - (max 0 ((hourOf b a).lo - (ctrOf b c).skip))).toNat ∧ kk = ((hourOf b a).hi + (ctrOf b c).twice + 1 - (max 0 ((hourOf b a).lo - (ctrOf b c).skip))).toNat - q ∧ Rt.Own v 140 3 ((wTo (ctrOf b c) (hourOf b a) a s z) ++ wPart (ctrOf b c) a s (decide (z = 1)) (max 0 ((hourOf b a).lo - (ctrOf b c).skip)) q).length (wrows ((wTo (ctrOf b c) (hourOf b a) a s z) ++ wPart (ctrOf b c) a s (decide (z = 1)) (max 0 ((hourOf b a).lo - (ctrOf b c).skip)) q)).flatten B ∧ St w0 w ((b70, blk 154 [.int .i64 (c : Int), .int .i64 (a : Int), .int .i64 (s * (1 - (z : Int)))]) :: (b9, blk 31 [.int .i64 (hourOf b a).lo, .int .i64 (hourOf b a).hi]) :: (b8, blk 76 ((ctrOf b c).cells (p.pc c))) :: (b3, blk 154 [.int .i64 (c : Int), .int .i64 (a : Int), .int .i64 s]) :: (mm, .map (ents (fun l : List Int => ia l) es).toArray ck) :: (B ++ F))) (((hourOf b a).hi + (ctrOf b c).twice + 1 - (max 0 ((hourOf b a).lo - (ctrOf b c).skip))).toNat) ?_ ?_
          ·
           exact ⟨0, v, B, vi (by omega), by omega, by omega, by rw [show wPart (ctrOf b c) a s (decide (z = 1)) (max 0 ((hourOf b a).lo - (ctrOf b c).skip)) 0 = [] from rfl, List.append_nil]; exact hown, hs78⟩
          ·
           intro k vs μ w83 hI K82 hN81
           obtain ⟨q, v, B, rfl, hqa, rfl, hown2, hs⟩ := hI
           have hpl := wPart_len (ctrOf b c) a s (max 0 ((hourOf b a).lo - (ctrOf b c).skip)) (decide (z = 1)) q
           have hpa : ((wTo (ctrOf b c) (hourOf b a) a s z) ++ wPart (ctrOf b c) a s (decide (z = 1)) (max 0 ((hourOf b a).lo - (ctrOf b c).skip)) q).length = (wTo (ctrOf b c) (hourOf b a) a s z).length + (wPart (ctrOf b c) a s (decide (z = 1)) (max 0 ((hourOf b a).lo - (ctrOf b c).skip)) q).length := List.length_append
           refine w_seq (fun K85 hK84 => ?_)
           refine w_seq (fun K87 hK86 => ?_)
           refine w_region ?_
           refine w_p (y_move (v := .int _ _) rfl rfl) rfl ?_
           refine w_p (y_fieldAddr (o := 1) (i := 1) Try.underlying31 rfl Try.sizeOf3 rfl rfl rfl) rfl ?_
           refine w_p (y_load1 Try.isAgg3 hs rfl rfl (ats_own (i := 1) (vs := [_]) rfl rfl)) rfl ?_
           refine w_p (y_fieldAddr (o := 2) (i := 2) Try.underlying76 rfl Try.sizeOf3 rfl rfl rfl) rfl ?_
           refine w_p (y_load1 Try.isAgg3 hs rfl rfl (ats_own (i := 2) (vs := [_]) rfl rfl)) rfl ?_
           refine w_p (y_add rfl rfl rfl rfl (by omega) (by omega)) rfl ?_
           refine w_p (y_leq rfl rfl rfl rfl) rfl ?_
           refine w_nil ?_
           refine q_then (hK86 _ _ ?_)
           refine w_cond rfl rfl (fun h88 => ?_) (fun h88 => ?_)
           ·
            try simp only [zA, zB, zC, zD, zE, zF] at h88
            refine w_skip ?_
            refine q_then (hK84 _ _ ?_)
            refine w_seq (fun K90 hK89 => ?_)
            refine w_block ?_
            refine w_seq (fun K92 hK91 => ?_)
            refine w_region ?_
            refine w_p (y_fieldAddr (o := 2) (i := 2) Try.underlying154 rfl Try.sizeOf3 rfl rfl rfl) rfl ?_
            refine w_p (y_load1 Try.isAgg3 hs rfl rfl (ats_own (i := 0) (vs := [_]) rfl rfl)) rfl ?_
            refine w_p (y_move (v := .int _ _) rfl rfl) rfl ?_
            refine w_p (y_add rfl rfl rfl rfl (by omega) (by omega)) rfl ?_
            refine w_p (y_rem rfl rfl rfl rfl (by omega) (by omega)) rfl ?_
            refine w_p (y_assign (v := .int _ _) rfl rfl) rfl ?_
            refine w_nil ?_
            refine q_then (hK91 _ _ ?_)
            refine w_seq (fun K94 hK93 => ?_)
            refine w_region ?_
            refine w_p (y_fieldAddr (o := 5) (i := 5) Try.underlying76 rfl Try.sizeOf39 rfl rfl rfl) rfl ?_
            refine w_p (yd_slice hbv (y_load1 Try.isAgg39 hs rfl rfl (ats_own (i := 2) (vs := [_]) rfl rfl))) rfl ?_
            refine w_p (y_fieldAddr (o := 1) (i := 1) Try.underlying154 rfl Try.sizeOf3 rfl rfl rfl) rfl ?_
            refine w_p (y_load1 Try.isAgg3 hs rfl rfl (ats_own (i := 3) (vs := [_]) rfl rfl)) rfl ?_
            refine w_p (y_indexS Try.underlying39 Try.sizeOf3 rfl rfl rfl rfl (i := a) rfl has) rfl ?_
            refine w_p (y_load1 Try.isAgg3 hs.tail.tail.tail.tail.tail.drop rfl rfl hxv) rfl ?_
            refine w_p (y_assign (v := .int _ _) rfl rfl) rfl ?_
            refine w_nil ?_
            refine q_then (hK93 _ _ ?_)
            refine w_seq (fun K96 hK95 => ?_)
            rw [sh_mul (by omega)]
            refine w_region ?_
            refine w_p (y_move (v := .int _ _) rfl rfl) rfl ?_
            refine w_p (y_eql rfl rfl rfl rfl) rfl ?_
            refine w_p (y_move (v := .bool _) rfl rfl) rfl ?_
            refine w_split (fun h97 => ?_) (fun h97 => ?_)
            ·
             try simp only [zA, zB, zC, zD, zE, zF] at h97
             refine w_skipop rfl rfl rfl ?_
             refine w_skipop rfl rfl rfl ?_
             refine w_skipop rfl rfl rfl ?_
             refine w_p (y_pickT (v := _) rfl rfl rfl rfl) rfl ?_
             refine w_nil ?_
             refine q_then (hK95 _ _ ?_)
             refine w_condT rfl rfl ?_
             refine w_region ?_
             refine w_p (y_move (v := v) rfl rfl) rfl ?_
             refine w_p (y_move (v := .int _ _) rfl rfl) rfl ?_
             refine w_p (y_move (v := .int _ _) rfl rfl) rfl ?_
             refine w_p (y_move (v := .int _ _) rfl rfl) rfl ?_
             refine w_p (y_eql rfl rfl rfl rfl) rfl ?_
             refine w_p (y_build (ps := [(0, _), (1, _), (2, _)]) (pv := [(0, .int _ _), (1, .int _ _), (2, .bool _)]) rfl rfl (fun w => Try_E_fb1 _ _ _ w)) rfl ?_
             refine w_bslice (ps := [(0, _)]) (pv := [(0, .agg #[.int _ _, .int _ _, .bool _])]) (cs := [_, _, _]) want_none rfl rfl (fun w => Try_E_fb2 _ _ _ w) hs (fun b98 w99 hs100 => ?_)
             refine w_append (X := (_ :: _ :: _ :: _ :: _ :: _ :: [])) (B := B) (rows := [[_, _, _]]) (sz := 3) (bytes := 24) want_none Try.underlying152 Try_info140 rfl rfl rfl rfl rfl rfl rfl rfl rfl hs100 hown2 (sl_own (i := 0) rfl (by simp) rfl) rfl (by simp) (by simp [Value.oneCell']) (by simp only [maxLen]; omega) (by omega) (fun v101 w102 B103 ho104 hs105 => ?_)
             replace hs105 := (show St _ _ (_ :: _ :: _ :: _ :: _ :: _ :: B103 ++ (F)) from hs105)
             refine w_p (y_assign (v := v101) rfl rfl) rfl ?_
             refine w_nil ?_
             refine q_blk_normal ?_
             refine q_then (hK89 _ _ ?_)
             refine w_region ?_
             refine w_p (y_move (v := .int _ _) rfl rfl) rfl ?_
             refine w_p (y_add rfl rfl rfl rfl (by omega) (by omega)) rfl ?_
             refine w_p (y_assign (v := .int _ _) rfl rfl) rfl ?_
             refine w_nil ?_
             refine q_then (hN81 _ _ (Nx.intro (((hourOf b a).hi + (ctrOf b c).twice + 1 - (max 0 ((hourOf b a).lo - (ctrOf b c).skip))).toNat - (q + 1)) (by omega) (by repeat (first | exact agree_mix | refine agree_upd rfl ?_ | refine agree_updL rfl ?_ _ | refine agree_mixin rfl ?_)) ?_))
             exact ⟨q + 1, _, _, vi (by omega), by omega, rfl, by rw [wPart_y (by rw [hgs]; omega), ← List.append_assoc]; exact own_way (by have h9 := ho104; rw [hzb] at h9; exact h9), hs105.tail⟩
            ·
             try simp only [zA, zB, zC, zD, zE, zF] at h97
             refine w_y rfl rfl rfl (y_move (v := .int _ _) rfl rfl) rfl ?_
             refine w_y rfl rfl rfl (y_move (v := .int _ _) rfl rfl) rfl ?_
             refine w_y rfl rfl rfl (y_eql rfl rfl rfl rfl) rfl ?_
             refine w_p (y_pickF (v := .bool _) rfl rfl rfl rfl) rfl ?_
             refine w_nil ?_
             refine q_then (hK95 _ _ ?_)
             refine w_cond rfl rfl (fun h106 => ?_) (fun h106 => ?_)
             ·
              try simp only [zA, zB, zC, zD, zE, zF] at h106
              refine w_region ?_
              refine w_p (y_move (v := v) rfl rfl) rfl ?_
              refine w_p (y_move (v := .int _ _) rfl rfl) rfl ?_
              refine w_p (y_move (v := .int _ _) rfl rfl) rfl ?_
              refine w_p (y_move (v := .int _ _) rfl rfl) rfl ?_
              refine w_p (y_eql rfl rfl rfl rfl) rfl ?_
              refine w_p (y_build (ps := [(0, _), (1, _), (2, _)]) (pv := [(0, .int _ _), (1, .int _ _), (2, .bool _)]) rfl rfl (fun w => Try_E_fb1 _ _ _ w)) rfl ?_
              refine w_bslice (ps := [(0, _)]) (pv := [(0, .agg #[.int _ _, .int _ _, .bool _])]) (cs := [_, _, _]) want_none rfl rfl (fun w => Try_E_fb2 _ _ _ w) hs (fun b107 w108 hs109 => ?_)
              refine w_append (X := (_ :: _ :: _ :: _ :: _ :: _ :: [])) (B := B) (rows := [[_, _, _]]) (sz := 3) (bytes := 24) want_none Try.underlying152 Try_info140 rfl rfl rfl rfl rfl rfl rfl rfl rfl hs109 hown2 (sl_own (i := 0) rfl (by simp) rfl) rfl (by simp) (by simp [Value.oneCell']) (by simp only [maxLen]; omega) (by omega) (fun v110 w111 B112 ho113 hs114 => ?_)
              replace hs114 := (show St _ _ (_ :: _ :: _ :: _ :: _ :: _ :: B112 ++ (F)) from hs114)
              refine w_p (y_assign (v := v110) rfl rfl) rfl ?_
              refine w_nil ?_
              refine q_blk_normal ?_
              refine q_then (hK89 _ _ ?_)
              refine w_region ?_
              refine w_p (y_move (v := .int _ _) rfl rfl) rfl ?_
              refine w_p (y_add rfl rfl rfl rfl (by omega) (by omega)) rfl ?_
              refine w_p (y_assign (v := .int _ _) rfl rfl) rfl ?_
              refine w_nil ?_
              refine q_then (hN81 _ _ (Nx.intro (((hourOf b a).hi + (ctrOf b c).twice + 1 - (max 0 ((hourOf b a).lo - (ctrOf b c).skip))).toNat - (q + 1)) (by omega) (by repeat (first | exact agree_mix | refine agree_upd rfl ?_ | refine agree_updL rfl ?_ _ | refine agree_mixin rfl ?_)) ?_))
              exact ⟨q + 1, _, _, vi (by omega), by omega, rfl, by rw [wPart_y (by rw [hgs]; omega), ← List.append_assoc]; exact own_way (by have h9 := ho113; rw [hzb] at h9; exact h9), hs114.tail⟩
             ·
              try simp only [zA, zB, zC, zD, zE, zF] at h106
              refine w_skip ?_
              refine q_blk_normal ?_
              refine q_then (hK89 _ _ ?_)
              refine w_region ?_
              refine w_p (y_move (v := .int _ _) rfl rfl) rfl ?_
              refine w_p (y_add rfl rfl rfl rfl (by omega) (by omega)) rfl ?_
              refine w_p (y_assign (v := .int _ _) rfl rfl) rfl ?_
              refine w_nil ?_
              refine q_then (hN81 _ _ (Nx.intro (((hourOf b a).hi + (ctrOf b c).twice + 1 - (max 0 ((hourOf b a).lo - (ctrOf b c).skip))).toNat - (q + 1)) (by omega) (by repeat (first | exact agree_mix | refine agree_upd rfl ?_ | refine agree_updL rfl ?_ _ | refine agree_mixin rfl ?_)) ?_))
              exact ⟨q + 1, v, B, vi (by omega), by omega, rfl, by rw [wPart_n (by rw [hgs]; omega)]; exact hown2, hs⟩
           ·
            try simp only [zA, zB, zC, zD, zE, zF] at h88
            refine w_exit ?_
            refine q_then_exit ?_
            refine q_then_exit ?_
            refine q_blk_this ?_
            refine q_blk_normal ?_
            refine q_then (hK56 _ _ ?_)
            refine w_region ?_
            refine w_p (y_add rfl rfl rfl rfl (by omega) (by omega)) rfl ?_
            refine w_p (y_move (v := .int _ _) rfl rfl) rfl ?_
            refine w_nil ?_
            refine q_then (hN48 _ _ (Nx.intro (2 - (z + 1)) (by omega) (by repeat (first | exact agree_mix | refine agree_upd rfl ?_ | refine agree_updL rfl ?_ _ | refine agree_mixin rfl ?_)) ?_))
            first
              | exact ⟨z + 1, v, B, rfl, by omega, rfl, by rw [wTo_no (canZ_n (by omega) (by omega))]; exact hown, hs⟩
              | exact ⟨z + 1, v, B, rfl, by omega, rfl, by rw [wPart_all (canZ_y (by omega) (by omega)) (q := q) (by omega)]; exact hown2, hs.tail⟩
        ·
         try simp only [zA, zB, zC, zD, zE, zF] at h66
         refine w_skipop rfl rfl rfl ?_
         refine w_skipop rfl rfl rfl ?_
         refine w_skipop rfl rfl rfl ?_
         refine w_skipop rfl rfl rfl ?_
         refine w_skipop rfl rfl rfl ?_
         refine w_skipop rfl rfl rfl ?_
         refine w_skipop rfl rfl rfl ?_
         refine w_y rfl rfl rfl (y_pickF (v := _) rfl rfl rfl rfl) rfl ?_
         refine w_p (y_pickF (v := .bool _) rfl rfl rfl rfl) rfl ?_
         refine w_nil ?_
         refine q_then (hK62 _ _ ?_)
         refine w_condF rfl rfl ?_
         refine w_skip ?_
         refine q_then (hK60 _ _ ?_)
         refine w_seq (fun K116 hK115 => ?_)
         refine w_region ?_
         refine w_p (y_loadN (vs := [_, _, _]) Try.isAgg154 Try.sizeOf154 hs rfl rfl (ats_own (i := 2) (vs := [_, _, _]) rfl rfl)) rfl ?_
         refine w_alloc (cs := [_, _, _]) want_none Try.zeroValue154 rfl hs (fun b117 w118 hs119 => ?_)
         refine w_store (i := 0) (v := .agg #[.int _ _, .int _ _, .int _ _]) (vs := [_, _, _]) want_none Try.sizeOf154 rfl rfl rfl rfl rfl (by simp [Value.oneCell']) hs119 rfl (Nat.le_of_ble_eq_true rfl) (fun w120 hs121 => ?_)
         refine w_nil ?_
         refine q_then (hK115 _ _ ?_)
         refine w_seq (fun K123 hK122 => ?_)
         have hmi := mul_in (s := s) (show z < 2 by omega) hs1
         refine w_region ?_
         refine w_p (y_fieldAddr (o := 2) (i := 2) Try.underlying154 rfl Try.sizeOf3 rfl rfl rfl) rfl ?_
         refine w_p (y_load1 Try.isAgg3 hs121 rfl rfl (ats_own (i := 0) (vs := [_]) rfl rfl)) rfl ?_
         refine w_p (y_move (v := .int _ _) rfl rfl) rfl ?_
         refine w_p (y_sub rfl rfl rfl rfl (by omega) (by omega)) rfl ?_
         refine w_p (y_mul rfl rfl rfl rfl (by omega) (by omega)) rfl ?_
         refine w_p (y_fieldAddr (o := 2) (i := 2) Try.underlying154 rfl Try.sizeOf3 rfl rfl rfl) rfl ?_
         refine w_store (i := 0) (v := .int _ _) (vs := [_]) want_none Try.sizeOf3 rfl rfl rfl rfl rfl (by simp [Value.oneCell']) hs121 rfl (Nat.le_of_ble_eq_true rfl) (fun w124 hs125 => ?_)
         refine w_nil ?_
         refine q_then (hK122 _ _ ?_)
         refine w_seq (fun K127 hK126 => ?_)
         refine w_region ?_
         refine w_p (y_fieldAddr (o := 0) (i := 0) Try.underlying31 rfl Try.sizeOf3 rfl rfl rfl) rfl ?_
         refine w_p (y_load1 Try.isAgg3 hs125 rfl rfl (ats_own (i := 1) (vs := [_]) rfl rfl)) rfl ?_
         refine w_p (y_fieldAddr (o := 1) (i := 1) Try.underlying76 rfl Try.sizeOf3 rfl rfl rfl) rfl ?_
         refine w_p (y_load1 Try.isAgg3 hs125 rfl rfl (ats_own (i := 2) (vs := [_]) rfl rfl)) rfl ?_
         refine w_p (y_sub rfl rfl rfl rfl (by omega) (by omega)) rfl ?_
         refine w_p (y_max2 rfl rfl rfl rfl) rfl ?_
         refine w_p (y_assign (v := .int _ _) rfl rfl) rfl ?_
         refine w_nil ?_
         refine q_then (hK126 _ _ ?_)
         refine w_block ?_
         refine w_loop [7, 12, 13, 14, 85, 86, 87, 88, 89, 90, 91, 92, 93, 94, 95, 96, 97, 98, 99, 100, 101, 102, 103, 104, 105, 106, 107, 108, 109, 110, 111, 112, 113, 114, 115, 116, 117, 118, 119] [7, 12] (fun kk vs w => ∃ (q : Nat) (v : Value) (B : List (Nat × Obj)), vs = [v, .int .i64 ((max 0 ((hourOf b a).lo - (ctrOf b c).skip)) + q)] ∧ q ≤ ((hourOf b a).hi + (ctrOf b c).twice + 1 - (max 0 ((hourOf b a).lo - (ctrOf b c).skip))).toNat ∧ kk = ((hourOf b a).hi + (ctrOf b c).twice + 1 - (max 0 ((hourOf b a).lo - (ctrOf b c).skip))).toNat - q ∧ Rt.Own v 140 3 ((wTo (ctrOf b c) (hourOf b a) a s z) ++ wPart (ctrOf b c) a s (decide (z = 1)) (max 0 ((hourOf b a).lo - (ctrOf b c).skip)) q).length (wrows ((wTo (ctrOf b c) (hourOf b a) a s z) ++ wPart (ctrOf b c) a s (decide (z = 1)) (max 0 ((hourOf b a).lo - (ctrOf b c).skip)) q)).flatten B ∧ St w0 w ((b117, blk 154 [.int .i64 (c : Int), .int .i64 (a : Int), .int .i64 (s * (1 - (z : Int)))]) :: (b9, blk 31 [.int .i64 (hourOf b a).lo, .int .i64 (hourOf b a).hi]) :: (b8, blk 76 ((ctrOf b c).cells (p.pc c))) :: (b3, blk 154 [.int .i64 (c : Int), .int .i64 (a : Int), .int .i64 s]) :: (mm, .map (ents (fun l : List Int => ia l) es).toArray ck) :: (B ++ F))) (((hourOf b a).hi + (ctrOf b c).twice + 1 - (max 0 ((hourOf b a).lo - (ctrOf b c).skip))).toNat) ?_ ?_
         ·
          exact ⟨0, v, B, vi (by omega), by omega, by omega, by rw [show wPart (ctrOf b c) a s (decide (z = 1)) (max 0 ((hourOf b a).lo - (ctrOf b c).skip)) 0 = [] from rfl, List.append_nil]; exact hown, hs125⟩
         ·
          intro k vs μ w130 hI K129 hN128
          obtain ⟨q, v, B, rfl, hqa, rfl, hown2, hs⟩ := hI
          have hpl := wPart_len (ctrOf b c) a s (max 0 ((hourOf b a).lo - (ctrOf b c).skip)) (decide (z = 1)) q
          have hpa : ((wTo (ctrOf b c) (hourOf b a) a s z) ++ wPart (ctrOf b c) a s (decide (z = 1)) (max 0 ((hourOf b a).lo - (ctrOf b c).skip)) q).length = (wTo (ctrOf b c) (hourOf b a) a s z).length + (wPart (ctrOf b c) a s (decide (z = 1)) (max 0 ((hourOf b a).lo - (ctrOf b c).skip)) q).length := List.length_append
          refine w_seq (fun K132 hK131 => ?_)
          refine w_seq (fun K134 hK133 => ?_)
          refine w_region ?_
          refine w_p (y_move (v := .int _ _) rfl rfl) rfl ?_
          refine w_p (y_fieldAddr (o := 1) (i := 1) Try.underlying31 rfl Try.sizeOf3 rfl rfl rfl) rfl ?_
          refine w_p (y_load1 Try.isAgg3 hs rfl rfl (ats_own (i := 1) (vs := [_]) rfl rfl)) rfl ?_
          refine w_p (y_fieldAddr (o := 2) (i := 2) Try.underlying76 rfl Try.sizeOf3 rfl rfl rfl) rfl ?_
          refine w_p (y_load1 Try.isAgg3 hs rfl rfl (ats_own (i := 2) (vs := [_]) rfl rfl)) rfl ?_
          refine w_p (y_add rfl rfl rfl rfl (by omega) (by omega)) rfl ?_
          refine w_p (y_leq rfl rfl rfl rfl) rfl ?_
          refine w_nil ?_
          refine q_then (hK133 _ _ ?_)
          refine w_cond rfl rfl (fun h135 => ?_) (fun h135 => ?_)
          ·
           try simp only [zA, zB, zC, zD, zE, zF] at h135
           refine w_skip ?_
           refine q_then (hK131 _ _ ?_)
           refine w_seq (fun K137 hK136 => ?_)
           refine w_block ?_
           refine w_seq (fun K139 hK138 => ?_)
           refine w_region ?_
           refine w_p (y_fieldAddr (o := 2) (i := 2) Try.underlying154 rfl Try.sizeOf3 rfl rfl rfl) rfl ?_
           refine w_p (y_load1 Try.isAgg3 hs rfl rfl (ats_own (i := 0) (vs := [_]) rfl rfl)) rfl ?_
           refine w_p (y_move (v := .int _ _) rfl rfl) rfl ?_
           refine w_p (y_add rfl rfl rfl rfl (by omega) (by omega)) rfl ?_
           refine w_p (y_rem rfl rfl rfl rfl (by omega) (by omega)) rfl ?_
           refine w_p (y_assign (v := .int _ _) rfl rfl) rfl ?_
           refine w_nil ?_
           refine q_then (hK138 _ _ ?_)
           refine w_seq (fun K141 hK140 => ?_)
           refine w_region ?_
           refine w_p (y_fieldAddr (o := 5) (i := 5) Try.underlying76 rfl Try.sizeOf39 rfl rfl rfl) rfl ?_
           refine w_p (yd_slice hbv (y_load1 Try.isAgg39 hs rfl rfl (ats_own (i := 2) (vs := [_]) rfl rfl))) rfl ?_
           refine w_p (y_fieldAddr (o := 1) (i := 1) Try.underlying154 rfl Try.sizeOf3 rfl rfl rfl) rfl ?_
           refine w_p (y_load1 Try.isAgg3 hs rfl rfl (ats_own (i := 3) (vs := [_]) rfl rfl)) rfl ?_
           refine w_p (y_indexS Try.underlying39 Try.sizeOf3 rfl rfl rfl rfl (i := a) rfl has) rfl ?_
           refine w_p (y_load1 Try.isAgg3 hs.tail.tail.tail.tail.tail.drop rfl rfl hxv) rfl ?_
           refine w_p (y_assign (v := .int _ _) rfl rfl) rfl ?_
           refine w_nil ?_
           refine q_then (hK140 _ _ ?_)
           refine w_seq (fun K143 hK142 => ?_)
           rw [sh_mul (by omega)]
           refine w_region ?_
           refine w_p (y_move (v := .int _ _) rfl rfl) rfl ?_
           refine w_p (y_eql rfl rfl rfl rfl) rfl ?_
           refine w_p (y_move (v := .bool _) rfl rfl) rfl ?_
           refine w_split (fun h144 => ?_) (fun h144 => ?_)
           ·
            try simp only [zA, zB, zC, zD, zE, zF] at h144
            refine w_skipop rfl rfl rfl ?_
            refine w_skipop rfl rfl rfl ?_
            refine w_skipop rfl rfl rfl ?_
            refine w_p (y_pickT (v := _) rfl rfl rfl rfl) rfl ?_
            refine w_nil ?_
            refine q_then (hK142 _ _ ?_)
            refine w_condT rfl rfl ?_
            refine w_region ?_
            refine w_p (y_move (v := v) rfl rfl) rfl ?_
            refine w_p (y_move (v := .int _ _) rfl rfl) rfl ?_
            refine w_p (y_move (v := .int _ _) rfl rfl) rfl ?_
            refine w_p (y_move (v := .int _ _) rfl rfl) rfl ?_
            refine w_p (y_eql rfl rfl rfl rfl) rfl ?_
            refine w_p (y_build (ps := [(0, _), (1, _), (2, _)]) (pv := [(0, .int _ _), (1, .int _ _), (2, .bool _)]) rfl rfl (fun w => Try_E_fb1 _ _ _ w)) rfl ?_
            refine w_bslice (ps := [(0, _)]) (pv := [(0, .agg #[.int _ _, .int _ _, .bool _])]) (cs := [_, _, _]) want_none rfl rfl (fun w => Try_E_fb2 _ _ _ w) hs (fun b145 w146 hs147 => ?_)
            refine w_append (X := (_ :: _ :: _ :: _ :: _ :: _ :: [])) (B := B) (rows := [[_, _, _]]) (sz := 3) (bytes := 24) want_none Try.underlying152 Try_info140 rfl rfl rfl rfl rfl rfl rfl rfl rfl hs147 hown2 (sl_own (i := 0) rfl (by simp) rfl) rfl (by simp) (by simp [Value.oneCell']) (by simp only [maxLen]; omega) (by omega) (fun v148 w149 B150 ho151 hs152 => ?_)
            replace hs152 := (show St _ _ (_ :: _ :: _ :: _ :: _ :: _ :: B150 ++ (F)) from hs152)
            refine w_p (y_assign (v := v148) rfl rfl) rfl ?_
            refine w_nil ?_
            refine q_blk_normal ?_
            refine q_then (hK136 _ _ ?_)
            refine w_region ?_
            refine w_p (y_move (v := .int _ _) rfl rfl) rfl ?_
            refine w_p (y_add rfl rfl rfl rfl (by omega) (by omega)) rfl ?_
            refine w_p (y_assign (v := .int _ _) rfl rfl) rfl ?_
            refine w_nil ?_
            refine q_then (hN128 _ _ (Nx.intro (((hourOf b a).hi + (ctrOf b c).twice + 1 - (max 0 ((hourOf b a).lo - (ctrOf b c).skip))).toNat - (q + 1)) (by omega) (by repeat (first | exact agree_mix | refine agree_upd rfl ?_ | refine agree_updL rfl ?_ _ | refine agree_mixin rfl ?_)) ?_))
            exact ⟨q + 1, _, _, vi (by omega), by omega, rfl, by rw [wPart_y (by rw [hgs]; omega), ← List.append_assoc]; exact own_way (by have h9 := ho151; rw [hzb] at h9; exact h9), hs152.tail⟩
           ·
            try simp only [zA, zB, zC, zD, zE, zF] at h144
            refine w_y rfl rfl rfl (y_move (v := .int _ _) rfl rfl) rfl ?_
            refine w_y rfl rfl rfl (y_move (v := .int _ _) rfl rfl) rfl ?_
            refine w_y rfl rfl rfl (y_eql rfl rfl rfl rfl) rfl ?_
            refine w_p (y_pickF (v := .bool _) rfl rfl rfl rfl) rfl ?_
            refine w_nil ?_
            refine q_then (hK142 _ _ ?_)
            refine w_cond rfl rfl (fun h153 => ?_) (fun h153 => ?_)
            ·
             try simp only [zA, zB, zC, zD, zE, zF] at h153
             refine w_region ?_
             refine w_p (y_move (v := v) rfl rfl) rfl ?_
             refine w_p (y_move (v := .int _ _) rfl rfl) rfl ?_
             refine w_p (y_move (v := .int _ _) rfl rfl) rfl ?_
             refine w_p (y_move (v := .int _ _) rfl rfl) rfl ?_
             refine w_p (y_eql rfl rfl rfl rfl) rfl ?_
             refine w_p (y_build (ps := [(0, _), (1, _), (2, _)]) (pv := [(0, .int _ _), (1, .int _ _), (2, .bool _)]) rfl rfl (fun w => Try_E_fb1 _ _ _ w)) rfl ?_
             refine w_bslice (ps := [(0, _)]) (pv := [(0, .agg #[.int _ _, .int _ _, .bool _])]) (cs := [_, _, _]) want_none rfl rfl (fun w => Try_E_fb2 _ _ _ w) hs (fun b154 w155 hs156 => ?_)
             refine w_append (X := (_ :: _ :: _ :: _ :: _ :: _ :: [])) (B := B) (rows := [[_, _, _]]) (sz := 3) (bytes := 24) want_none Try.underlying152 Try_info140 rfl rfl rfl rfl rfl rfl rfl rfl rfl hs156 hown2 (sl_own (i := 0) rfl (by simp) rfl) rfl (by simp) (by simp [Value.oneCell']) (by simp only [maxLen]; omega) (by omega) (fun v157 w158 B159 ho160 hs161 => ?_)
             replace hs161 := (show St _ _ (_ :: _ :: _ :: _ :: _ :: _ :: B159 ++ (F)) from hs161)
             refine w_p (y_assign (v := v157) rfl rfl) rfl ?_
             refine w_nil ?_
             refine q_blk_normal ?_
             refine q_then (hK136 _ _ ?_)
             refine w_region ?_
             refine w_p (y_move (v := .int _ _) rfl rfl) rfl ?_
             refine w_p (y_add rfl rfl rfl rfl (by omega) (by omega)) rfl ?_
             refine w_p (y_assign (v := .int _ _) rfl rfl) rfl ?_
             refine w_nil ?_
             refine q_then (hN128 _ _ (Nx.intro (((hourOf b a).hi + (ctrOf b c).twice + 1 - (max 0 ((hourOf b a).lo - (ctrOf b c).skip))).toNat - (q + 1)) (by omega) (by repeat (first | exact agree_mix | refine agree_upd rfl ?_ | refine agree_updL rfl ?_ _ | refine agree_mixin rfl ?_)) ?_))
             exact ⟨q + 1, _, _, vi (by omega), by omega, rfl, by rw [wPart_y (by rw [hgs]; omega), ← List.append_assoc]; exact own_way (by have h9 := ho160; rw [hzb] at h9; exact h9), hs161.tail⟩
            ·
             try simp only [zA, zB, zC, zD, zE, zF] at h153
             refine w_skip ?_
             refine q_blk_normal ?_
             refine q_then (hK136 _ _ ?_)
             refine w_region ?_
             refine w_p (y_move (v := .int _ _) rfl rfl) rfl ?_
             refine w_p (y_add rfl rfl rfl rfl (by omega) (by omega)) rfl ?_
             refine w_p (y_assign (v := .int _ _) rfl rfl) rfl ?_
             refine w_nil ?_
             refine q_then (hN128 _ _ (Nx.intro (((hourOf b a).hi + (ctrOf b c).twice + 1 - (max 0 ((hourOf b a).lo - (ctrOf b c).skip))).toNat - (q + 1)) (by omega) (by repeat (first | exact agree_mix | refine agree_upd rfl ?_ | refine agree_updL rfl ?_ _ | refine agree_mixin rfl ?_)) ?_))
             exact ⟨q + 1, v, B, vi (by omega), by omega, rfl, by rw [wPart_n (by rw [hgs]; omega)]; exact hown2, hs⟩
          ·
           try simp only [zA, zB, zC, zD, zE, zF] at h135
           refine w_exit ?_
           refine q_then_exit ?_
           refine q_then_exit ?_
           refine q_blk_this ?_
           refine q_blk_normal ?_
           refine q_then (hK56 _ _ ?_)
           refine w_region ?_
           refine w_p (y_add rfl rfl rfl rfl (by omega) (by omega)) rfl ?_
           refine w_p (y_move (v := .int _ _) rfl rfl) rfl ?_
           refine w_nil ?_
           refine q_then (hN48 _ _ (Nx.intro (2 - (z + 1)) (by omega) (by repeat (first | exact agree_mix | refine agree_upd rfl ?_ | refine agree_updL rfl ?_ _ | refine agree_mixin rfl ?_)) ?_))
           first
             | exact ⟨z + 1, v, B, rfl, by omega, rfl, by rw [wTo_no (canZ_n (by omega) (by omega))]; exact hown, hs⟩
             | exact ⟨z + 1, v, B, rfl, by omega, rfl, by rw [wPart_all (canZ_y (by omega) (by omega)) (q := q) (by omega)]; exact hown2, hs.tail⟩
      ·
       try simp only [zA, zB, zC, zD, zE, zF] at h64
       refine w_skipop rfl rfl rfl ?_
       refine w_skipop rfl rfl rfl ?_
       refine w_skipop rfl rfl rfl ?_
       refine w_skipop rfl rfl rfl ?_
       refine w_skipop rfl rfl rfl ?_
       refine w_skipop rfl rfl rfl ?_
       refine w_skipop rfl rfl rfl ?_
       refine w_p (y_pickF (v := _) rfl rfl rfl rfl) rfl ?_
       refine w_p (y_move (v := .bool _) rfl rfl) rfl ?_
       refine w_y rfl rfl rfl (y_move (v := .int _ _) rfl rfl) rfl ?_
       refine w_y rfl rfl rfl (y_eql rfl rfl rfl rfl) rfl ?_
       refine w_y rfl rfl rfl (y_move (v := .bool _) rfl rfl) rfl ?_
       refine w_split (fun h162 => ?_) (fun h162 => ?_)
       ·
        try simp only [zA, zB, zC, zD, zE, zF] at h162
        refine w_y rfl rfl rfl (y_fieldAddr (o := 4) (i := 4) Try.underlying76 rfl Try.sizeOf39 rfl rfl rfl) rfl ?_
        refine w_y rfl rfl rfl (yd_slice hbz (y_load1 Try.isAgg39 hs rfl rfl (ats_own (i := 1) (vs := [_]) rfl rfl))) rfl ?_
        refine w_y rfl rfl rfl (y_fieldAddr (o := 1) (i := 1) Try.underlying154 rfl Try.sizeOf3 rfl rfl rfl) rfl ?_
        refine w_y rfl rfl rfl (y_load1 Try.isAgg3 hs rfl rfl (ats_own (i := 2) (vs := [_]) rfl rfl)) rfl ?_
        refine w_y rfl rfl rfl (y_indexS Try.underlying39 Try.sizeOf3 rfl rfl rfl rfl (i := a) rfl haz) rfl ?_
        refine w_y rfl rfl rfl (y_load1 Try.isAgg3 hs.tail.tail.tail.tail.drop rfl rfl hxz) rfl ?_
        refine w_y rfl rfl rfl (y_eql rfl rfl rfl rfl) rfl ?_
        refine w_y rfl rfl rfl (y_pickT (v := .bool _) rfl rfl rfl rfl) rfl ?_
        refine w_p (y_pickF (v := .bool _) rfl rfl rfl rfl) rfl ?_
        refine w_nil ?_
        refine q_then (hK62 _ _ ?_)
        refine w_cond rfl rfl (fun h163 => ?_) (fun h163 => ?_)
        ·
         try simp only [zA, zB, zC, zD, zE, zF] at h163
         refine w_exit ?_
         refine q_then_exit ?_
         refine q_blk_this ?_
         refine q_then (hK56 _ _ ?_)
         refine w_region ?_
         refine w_p (y_add rfl rfl rfl rfl (by omega) (by omega)) rfl ?_
         refine w_p (y_move (v := .int _ _) rfl rfl) rfl ?_
         refine w_nil ?_
         refine q_then (hN48 _ _ (Nx.intro (2 - (z + 1)) (by omega) (by repeat (first | exact agree_mix | refine agree_upd rfl ?_ | refine agree_updL rfl ?_ _ | refine agree_mixin rfl ?_)) ?_))
         first
           | exact ⟨z + 1, v, B, rfl, by omega, rfl, by rw [wTo_no (canZ_n (by omega) (by omega))]; exact hown, hs⟩
           | exact ⟨z + 1, v, B, rfl, by omega, rfl, by rw [wPart_all (canZ_y (by omega) (by omega)) (q := q) (by omega)]; exact hown2, hs.tail⟩
        ·
         try simp only [zA, zB, zC, zD, zE, zF] at h163
         refine w_skip ?_
         refine q_then (hK60 _ _ ?_)
         refine w_seq (fun K165 hK164 => ?_)
         refine w_region ?_
         refine w_p (y_loadN (vs := [_, _, _]) Try.isAgg154 Try.sizeOf154 hs rfl rfl (ats_own (i := 2) (vs := [_, _, _]) rfl rfl)) rfl ?_
         refine w_alloc (cs := [_, _, _]) want_none Try.zeroValue154 rfl hs (fun b166 w167 hs168 => ?_)
         refine w_store (i := 0) (v := .agg #[.int _ _, .int _ _, .int _ _]) (vs := [_, _, _]) want_none Try.sizeOf154 rfl rfl rfl rfl rfl (by simp [Value.oneCell']) hs168 rfl (Nat.le_of_ble_eq_true rfl) (fun w169 hs170 => ?_)
         refine w_nil ?_
         refine q_then (hK164 _ _ ?_)
         refine w_seq (fun K172 hK171 => ?_)
         have hmi := mul_in (s := s) (show z < 2 by omega) hs1
         refine w_region ?_
         refine w_p (y_fieldAddr (o := 2) (i := 2) Try.underlying154 rfl Try.sizeOf3 rfl rfl rfl) rfl ?_
         refine w_p (y_load1 Try.isAgg3 hs170 rfl rfl (ats_own (i := 0) (vs := [_]) rfl rfl)) rfl ?_
         refine w_p (y_move (v := .int _ _) rfl rfl) rfl ?_
         refine w_p (y_sub rfl rfl rfl rfl (by omega) (by omega)) rfl ?_
         refine w_p (y_mul rfl rfl rfl rfl (by omega) (by omega)) rfl ?_
         refine w_p (y_fieldAddr (o := 2) (i := 2) Try.underlying154 rfl Try.sizeOf3 rfl rfl rfl) rfl ?_
         refine w_store (i := 0) (v := .int _ _) (vs := [_]) want_none Try.sizeOf3 rfl rfl rfl rfl rfl (by simp [Value.oneCell']) hs170 rfl (Nat.le_of_ble_eq_true rfl) (fun w173 hs174 => ?_)
         refine w_nil ?_
         refine q_then (hK171 _ _ ?_)
         refine w_seq (fun K176 hK175 => ?_)
         refine w_region ?_
         refine w_p (y_fieldAddr (o := 0) (i := 0) Try.underlying31 rfl Try.sizeOf3 rfl rfl rfl) rfl ?_
         refine w_p (y_load1 Try.isAgg3 hs174 rfl rfl (ats_own (i := 1) (vs := [_]) rfl rfl)) rfl ?_
         refine w_p (y_fieldAddr (o := 1) (i := 1) Try.underlying76 rfl Try.sizeOf3 rfl rfl rfl) rfl ?_
         refine w_p (y_load1 Try.isAgg3 hs174 rfl rfl (ats_own (i := 2) (vs := [_]) rfl rfl)) rfl ?_
         refine w_p (y_sub rfl rfl rfl rfl (by omega) (by omega)) rfl ?_
         refine w_p (y_max2 rfl rfl rfl rfl) rfl ?_
         refine w_p (y_assign (v := .int _ _) rfl rfl) rfl ?_
         refine w_nil ?_
         refine q_then (hK175 _ _ ?_)
         refine w_block ?_
         refine w_loop [7, 12, 13, 14, 85, 86, 87, 88, 89, 90, 91, 92, 93, 94, 95, 96, 97, 98, 99, 100, 101, 102, 103, 104, 105, 106, 107, 108, 109, 110, 111, 112, 113, 114, 115, 116, 117, 118, 119] [7, 12] (fun kk vs w => ∃ (q : Nat) (v : Value) (B : List (Nat × Obj)), vs = [v, .int .i64 ((max 0 ((hourOf b a).lo - (ctrOf b c).skip)) + q)] ∧ q ≤ ((hourOf b a).hi + (ctrOf b c).twice + 1 - (max 0 ((hourOf b a).lo - (ctrOf b c).skip))).toNat ∧ kk = ((hourOf b a).hi + (ctrOf b c).twice + 1 - (max 0 ((hourOf b a).lo - (ctrOf b c).skip))).toNat - q ∧ Rt.Own v 140 3 ((wTo (ctrOf b c) (hourOf b a) a s z) ++ wPart (ctrOf b c) a s (decide (z = 1)) (max 0 ((hourOf b a).lo - (ctrOf b c).skip)) q).length (wrows ((wTo (ctrOf b c) (hourOf b a) a s z) ++ wPart (ctrOf b c) a s (decide (z = 1)) (max 0 ((hourOf b a).lo - (ctrOf b c).skip)) q)).flatten B ∧ St w0 w ((b166, blk 154 [.int .i64 (c : Int), .int .i64 (a : Int), .int .i64 (s * (1 - (z : Int)))]) :: (b9, blk 31 [.int .i64 (hourOf b a).lo, .int .i64 (hourOf b a).hi]) :: (b8, blk 76 ((ctrOf b c).cells (p.pc c))) :: (b3, blk 154 [.int .i64 (c : Int), .int .i64 (a : Int), .int .i64 s]) :: (mm, .map (ents (fun l : List Int => ia l) es).toArray ck) :: (B ++ F))) (((hourOf b a).hi + (ctrOf b c).twice + 1 - (max 0 ((hourOf b a).lo - (ctrOf b c).skip))).toNat) ?_ ?_
         ·
          exact ⟨0, v, B, vi (by omega), by omega, by omega, by rw [show wPart (ctrOf b c) a s (decide (z = 1)) (max 0 ((hourOf b a).lo - (ctrOf b c).skip)) 0 = [] from rfl, List.append_nil]; exact hown, hs174⟩
         ·
          intro k vs μ w179 hI K178 hN177
          obtain ⟨q, v, B, rfl, hqa, rfl, hown2, hs⟩ := hI
          have hpl := wPart_len (ctrOf b c) a s (max 0 ((hourOf b a).lo - (ctrOf b c).skip)) (decide (z = 1)) q
          have hpa : ((wTo (ctrOf b c) (hourOf b a) a s z) ++ wPart (ctrOf b c) a s (decide (z = 1)) (max 0 ((hourOf b a).lo - (ctrOf b c).skip)) q).length = (wTo (ctrOf b c) (hourOf b a) a s z).length + (wPart (ctrOf b c) a s (decide (z = 1)) (max 0 ((hourOf b a).lo - (ctrOf b c).skip)) q).length := List.length_append
          refine w_seq (fun K181 hK180 => ?_)
          refine w_seq (fun K183 hK182 => ?_)
          refine w_region ?_
          refine w_p (y_move (v := .int _ _) rfl rfl) rfl ?_
          refine w_p (y_fieldAddr (o := 1) (i := 1) Try.underlying31 rfl Try.sizeOf3 rfl rfl rfl) rfl ?_
          refine w_p (y_load1 Try.isAgg3 hs rfl rfl (ats_own (i := 1) (vs := [_]) rfl rfl)) rfl ?_
          refine w_p (y_fieldAddr (o := 2) (i := 2) Try.underlying76 rfl Try.sizeOf3 rfl rfl rfl) rfl ?_
          refine w_p (y_load1 Try.isAgg3 hs rfl rfl (ats_own (i := 2) (vs := [_]) rfl rfl)) rfl ?_
          refine w_p (y_add rfl rfl rfl rfl (by omega) (by omega)) rfl ?_
          refine w_p (y_leq rfl rfl rfl rfl) rfl ?_
          refine w_nil ?_
          refine q_then (hK182 _ _ ?_)
          refine w_cond rfl rfl (fun h184 => ?_) (fun h184 => ?_)
          ·
           try simp only [zA, zB, zC, zD, zE, zF] at h184
           refine w_skip ?_
           refine q_then (hK180 _ _ ?_)
           refine w_seq (fun K186 hK185 => ?_)
           refine w_block ?_
           refine w_seq (fun K188 hK187 => ?_)
           refine w_region ?_
           refine w_p (y_fieldAddr (o := 2) (i := 2) Try.underlying154 rfl Try.sizeOf3 rfl rfl rfl) rfl ?_
           refine w_p (y_load1 Try.isAgg3 hs rfl rfl (ats_own (i := 0) (vs := [_]) rfl rfl)) rfl ?_
           refine w_p (y_move (v := .int _ _) rfl rfl) rfl ?_
           refine w_p (y_add rfl rfl rfl rfl (by omega) (by omega)) rfl ?_
           refine w_p (y_rem rfl rfl rfl rfl (by omega) (by omega)) rfl ?_
           refine w_p (y_assign (v := .int _ _) rfl rfl) rfl ?_
           refine w_nil ?_
           refine q_then (hK187 _ _ ?_)
           refine w_seq (fun K190 hK189 => ?_)
           refine w_region ?_
           refine w_p (y_fieldAddr (o := 5) (i := 5) Try.underlying76 rfl Try.sizeOf39 rfl rfl rfl) rfl ?_
           refine w_p (yd_slice hbv (y_load1 Try.isAgg39 hs rfl rfl (ats_own (i := 2) (vs := [_]) rfl rfl))) rfl ?_
           refine w_p (y_fieldAddr (o := 1) (i := 1) Try.underlying154 rfl Try.sizeOf3 rfl rfl rfl) rfl ?_
           refine w_p (y_load1 Try.isAgg3 hs rfl rfl (ats_own (i := 3) (vs := [_]) rfl rfl)) rfl ?_
           refine w_p (y_indexS Try.underlying39 Try.sizeOf3 rfl rfl rfl rfl (i := a) rfl has) rfl ?_
           refine w_p (y_load1 Try.isAgg3 hs.tail.tail.tail.tail.tail.drop rfl rfl hxv) rfl ?_
           refine w_p (y_assign (v := .int _ _) rfl rfl) rfl ?_
           refine w_nil ?_
           refine q_then (hK189 _ _ ?_)
           refine w_seq (fun K192 hK191 => ?_)
           rw [sh_mul (by omega)]
           refine w_region ?_
           refine w_p (y_move (v := .int _ _) rfl rfl) rfl ?_
           refine w_p (y_eql rfl rfl rfl rfl) rfl ?_
           refine w_p (y_move (v := .bool _) rfl rfl) rfl ?_
           refine w_split (fun h193 => ?_) (fun h193 => ?_)
           ·
            try simp only [zA, zB, zC, zD, zE, zF] at h193
            refine w_skipop rfl rfl rfl ?_
            refine w_skipop rfl rfl rfl ?_
            refine w_skipop rfl rfl rfl ?_
            refine w_p (y_pickT (v := _) rfl rfl rfl rfl) rfl ?_
            refine w_nil ?_
            refine q_then (hK191 _ _ ?_)
            refine w_condT rfl rfl ?_
            refine w_region ?_
            refine w_p (y_move (v := v) rfl rfl) rfl ?_
            refine w_p (y_move (v := .int _ _) rfl rfl) rfl ?_
            refine w_p (y_move (v := .int _ _) rfl rfl) rfl ?_
            refine w_p (y_move (v := .int _ _) rfl rfl) rfl ?_
            refine w_p (y_eql rfl rfl rfl rfl) rfl ?_
            refine w_p (y_build (ps := [(0, _), (1, _), (2, _)]) (pv := [(0, .int _ _), (1, .int _ _), (2, .bool _)]) rfl rfl (fun w => Try_E_fb1 _ _ _ w)) rfl ?_
            refine w_bslice (ps := [(0, _)]) (pv := [(0, .agg #[.int _ _, .int _ _, .bool _])]) (cs := [_, _, _]) want_none rfl rfl (fun w => Try_E_fb2 _ _ _ w) hs (fun b194 w195 hs196 => ?_)
            refine w_append (X := (_ :: _ :: _ :: _ :: _ :: _ :: [])) (B := B) (rows := [[_, _, _]]) (sz := 3) (bytes := 24) want_none Try.underlying152 Try_info140 rfl rfl rfl rfl rfl rfl rfl rfl rfl hs196 hown2 (sl_own (i := 0) rfl (by simp) rfl) rfl (by simp) (by simp [Value.oneCell']) (by simp only [maxLen]; omega) (by omega) (fun v197 w198 B199 ho200 hs201 => ?_)
            replace hs201 := (show St _ _ (_ :: _ :: _ :: _ :: _ :: _ :: B199 ++ (F)) from hs201)
            refine w_p (y_assign (v := v197) rfl rfl) rfl ?_
            refine w_nil ?_
            refine q_blk_normal ?_
            refine q_then (hK185 _ _ ?_)
            refine w_region ?_
            refine w_p (y_move (v := .int _ _) rfl rfl) rfl ?_
            refine w_p (y_add rfl rfl rfl rfl (by omega) (by omega)) rfl ?_
            refine w_p (y_assign (v := .int _ _) rfl rfl) rfl ?_
            refine w_nil ?_
            refine q_then (hN177 _ _ (Nx.intro (((hourOf b a).hi + (ctrOf b c).twice + 1 - (max 0 ((hourOf b a).lo - (ctrOf b c).skip))).toNat - (q + 1)) (by omega) (by repeat (first | exact agree_mix | refine agree_upd rfl ?_ | refine agree_updL rfl ?_ _ | refine agree_mixin rfl ?_)) ?_))
            exact ⟨q + 1, _, _, vi (by omega), by omega, rfl, by rw [wPart_y (by rw [hgs]; omega), ← List.append_assoc]; exact own_way (by have h9 := ho200; rw [hzb] at h9; exact h9), hs201.tail⟩
           ·
            try simp only [zA, zB, zC, zD, zE, zF] at h193
            refine w_y rfl rfl rfl (y_move (v := .int _ _) rfl rfl) rfl ?_
            refine w_y rfl rfl rfl (y_move (v := .int _ _) rfl rfl) rfl ?_
            refine w_y rfl rfl rfl (y_eql rfl rfl rfl rfl) rfl ?_
            refine w_p (y_pickF (v := .bool _) rfl rfl rfl rfl) rfl ?_
            refine w_nil ?_
            refine q_then (hK191 _ _ ?_)
            refine w_cond rfl rfl (fun h202 => ?_) (fun h202 => ?_)
            ·
             try simp only [zA, zB, zC, zD, zE, zF] at h202
             refine w_region ?_
             refine w_p (y_move (v := v) rfl rfl) rfl ?_
             refine w_p (y_move (v := .int _ _) rfl rfl) rfl ?_
             refine w_p (y_move (v := .int _ _) rfl rfl) rfl ?_
             refine w_p (y_move (v := .int _ _) rfl rfl) rfl ?_
             refine w_p (y_eql rfl rfl rfl rfl) rfl ?_
             refine w_p (y_build (ps := [(0, _), (1, _), (2, _)]) (pv := [(0, .int _ _), (1, .int _ _), (2, .bool _)]) rfl rfl (fun w => Try_E_fb1 _ _ _ w)) rfl ?_
             refine w_bslice (ps := [(0, _)]) (pv := [(0, .agg #[.int _ _, .int _ _, .bool _])]) (cs := [_, _, _]) want_none rfl rfl (fun w => Try_E_fb2 _ _ _ w) hs (fun b203 w204 hs205 => ?_)
             refine w_append (X := (_ :: _ :: _ :: _ :: _ :: _ :: [])) (B := B) (rows := [[_, _, _]]) (sz := 3) (bytes := 24) want_none Try.underlying152 Try_info140 rfl rfl rfl rfl rfl rfl rfl rfl rfl hs205 hown2 (sl_own (i := 0) rfl (by simp) rfl) rfl (by simp) (by simp [Value.oneCell']) (by simp only [maxLen]; omega) (by omega) (fun v206 w207 B208 ho209 hs210 => ?_)
             replace hs210 := (show St _ _ (_ :: _ :: _ :: _ :: _ :: _ :: B208 ++ (F)) from hs210)
             refine w_p (y_assign (v := v206) rfl rfl) rfl ?_
             refine w_nil ?_
             refine q_blk_normal ?_
             refine q_then (hK185 _ _ ?_)
             refine w_region ?_
             refine w_p (y_move (v := .int _ _) rfl rfl) rfl ?_
             refine w_p (y_add rfl rfl rfl rfl (by omega) (by omega)) rfl ?_
             refine w_p (y_assign (v := .int _ _) rfl rfl) rfl ?_
             refine w_nil ?_
             refine q_then (hN177 _ _ (Nx.intro (((hourOf b a).hi + (ctrOf b c).twice + 1 - (max 0 ((hourOf b a).lo - (ctrOf b c).skip))).toNat - (q + 1)) (by omega) (by repeat (first | exact agree_mix | refine agree_upd rfl ?_ | refine agree_updL rfl ?_ _ | refine agree_mixin rfl ?_)) ?_))
             exact ⟨q + 1, _, _, vi (by omega), by omega, rfl, by rw [wPart_y (by rw [hgs]; omega), ← List.append_assoc]; exact own_way (by have h9 := ho209; rw [hzb] at h9; exact h9), hs210.tail⟩
            ·
             try simp only [zA, zB, zC, zD, zE, zF] at h202
             refine w_skip ?_
             refine q_blk_normal ?_
             refine q_then (hK185 _ _ ?_)
             refine w_region ?_
             refine w_p (y_move (v := .int _ _) rfl rfl) rfl ?_
             refine w_p (y_add rfl rfl rfl rfl (by omega) (by omega)) rfl ?_
             refine w_p (y_assign (v := .int _ _) rfl rfl) rfl ?_
             refine w_nil ?_
             refine q_then (hN177 _ _ (Nx.intro (((hourOf b a).hi + (ctrOf b c).twice + 1 - (max 0 ((hourOf b a).lo - (ctrOf b c).skip))).toNat - (q + 1)) (by omega) (by repeat (first | exact agree_mix | refine agree_upd rfl ?_ | refine agree_updL rfl ?_ _ | refine agree_mixin rfl ?_)) ?_))
             exact ⟨q + 1, v, B, vi (by omega), by omega, rfl, by rw [wPart_n (by rw [hgs]; omega)]; exact hown2, hs⟩
          ·
           try simp only [zA, zB, zC, zD, zE, zF] at h184
           refine w_exit ?_
           refine q_then_exit ?_
           refine q_then_exit ?_
           refine q_blk_this ?_
           refine q_blk_normal ?_
           refine q_then (hK56 _ _ ?_)
           refine w_region ?_
           refine w_p (y_add rfl rfl rfl rfl (by omega) (by omega)) rfl ?_
           refine w_p (y_move (v := .int _ _) rfl rfl) rfl ?_
           refine w_nil ?_
           refine q_then (hN48 _ _ (Nx.intro (2 - (z + 1)) (by omega) (by repeat (first | exact agree_mix | refine agree_upd rfl ?_ | refine agree_updL rfl ?_ _ | refine agree_mixin rfl ?_)) ?_))
           first
             | exact ⟨z + 1, v, B, rfl, by omega, rfl, by rw [wTo_no (canZ_n (by omega) (by omega))]; exact hown, hs⟩
             | exact ⟨z + 1, v, B, rfl, by omega, rfl, by rw [wPart_all (canZ_y (by omega) (by omega)) (q := q) (by omega)]; exact hown2, hs.tail⟩
       ·
        try simp only [zA, zB, zC, zD, zE, zF] at h162
        refine w_skipop rfl rfl rfl ?_
        refine w_skipop rfl rfl rfl ?_
        refine w_skipop rfl rfl rfl ?_
        refine w_skipop rfl rfl rfl ?_
        refine w_skipop rfl rfl rfl ?_
        refine w_skipop rfl rfl rfl ?_
        refine w_skipop rfl rfl rfl ?_
        refine w_y rfl rfl rfl (y_pickF (v := _) rfl rfl rfl rfl) rfl ?_
        refine w_p (y_pickF (v := .bool _) rfl rfl rfl rfl) rfl ?_
        refine w_nil ?_
        refine q_then (hK62 _ _ ?_)
        refine w_condF rfl rfl ?_
        refine w_skip ?_
        refine q_then (hK60 _ _ ?_)
        refine w_seq (fun K212 hK211 => ?_)
        refine w_region ?_
        refine w_p (y_loadN (vs := [_, _, _]) Try.isAgg154 Try.sizeOf154 hs rfl rfl (ats_own (i := 2) (vs := [_, _, _]) rfl rfl)) rfl ?_
        refine w_alloc (cs := [_, _, _]) want_none Try.zeroValue154 rfl hs (fun b213 w214 hs215 => ?_)
        refine w_store (i := 0) (v := .agg #[.int _ _, .int _ _, .int _ _]) (vs := [_, _, _]) want_none Try.sizeOf154 rfl rfl rfl rfl rfl (by simp [Value.oneCell']) hs215 rfl (Nat.le_of_ble_eq_true rfl) (fun w216 hs217 => ?_)
        refine w_nil ?_
        refine q_then (hK211 _ _ ?_)
        refine w_seq (fun K219 hK218 => ?_)
        have hmi := mul_in (s := s) (show z < 2 by omega) hs1
        refine w_region ?_
        refine w_p (y_fieldAddr (o := 2) (i := 2) Try.underlying154 rfl Try.sizeOf3 rfl rfl rfl) rfl ?_
        refine w_p (y_load1 Try.isAgg3 hs217 rfl rfl (ats_own (i := 0) (vs := [_]) rfl rfl)) rfl ?_
        refine w_p (y_move (v := .int _ _) rfl rfl) rfl ?_
        refine w_p (y_sub rfl rfl rfl rfl (by omega) (by omega)) rfl ?_
        refine w_p (y_mul rfl rfl rfl rfl (by omega) (by omega)) rfl ?_
        refine w_p (y_fieldAddr (o := 2) (i := 2) Try.underlying154 rfl Try.sizeOf3 rfl rfl rfl) rfl ?_
        refine w_store (i := 0) (v := .int _ _) (vs := [_]) want_none Try.sizeOf3 rfl rfl rfl rfl rfl (by simp [Value.oneCell']) hs217 rfl (Nat.le_of_ble_eq_true rfl) (fun w220 hs221 => ?_)
        refine w_nil ?_
        refine q_then (hK218 _ _ ?_)
        refine w_seq (fun K223 hK222 => ?_)
        refine w_region ?_
        refine w_p (y_fieldAddr (o := 0) (i := 0) Try.underlying31 rfl Try.sizeOf3 rfl rfl rfl) rfl ?_
        refine w_p (y_load1 Try.isAgg3 hs221 rfl rfl (ats_own (i := 1) (vs := [_]) rfl rfl)) rfl ?_
        refine w_p (y_fieldAddr (o := 1) (i := 1) Try.underlying76 rfl Try.sizeOf3 rfl rfl rfl) rfl ?_
        refine w_p (y_load1 Try.isAgg3 hs221 rfl rfl (ats_own (i := 2) (vs := [_]) rfl rfl)) rfl ?_
        refine w_p (y_sub rfl rfl rfl rfl (by omega) (by omega)) rfl ?_
        refine w_p (y_max2 rfl rfl rfl rfl) rfl ?_
        refine w_p (y_assign (v := .int _ _) rfl rfl) rfl ?_
        refine w_nil ?_
        refine q_then (hK222 _ _ ?_)
        refine w_block ?_
        refine w_loop [7, 12, 13, 14, 85, 86, 87, 88, 89, 90, 91, 92, 93, 94, 95, 96, 97, 98, 99, 100, 101, 102, 103, 104, 105, 106, 107, 108, 109, 110, 111, 112, 113, 114, 115, 116, 117, 118, 119] [7, 12] (fun kk vs w => ∃ (q : Nat) (v : Value) (B : List (Nat × Obj)), vs = [v, .int .i64 ((max 0 ((hourOf b a).lo - (ctrOf b c).skip)) + q)] ∧ q ≤ ((hourOf b a).hi + (ctrOf b c).twice + 1 - (max 0 ((hourOf b a).lo - (ctrOf b c).skip))).toNat ∧ kk = ((hourOf b a).hi + (ctrOf b c).twice + 1 - (max 0 ((hourOf b a).lo - (ctrOf b c).skip))).toNat - q ∧ Rt.Own v 140 3 ((wTo (ctrOf b c) (hourOf b a) a s z) ++ wPart (ctrOf b c) a s (decide (z = 1)) (max 0 ((hourOf b a).lo - (ctrOf b c).skip)) q).length (wrows ((wTo (ctrOf b c) (hourOf b a) a s z) ++ wPart (ctrOf b c) a s (decide (z = 1)) (max 0 ((hourOf b a).lo - (ctrOf b c).skip)) q)).flatten B ∧ St w0 w ((b213, blk 154 [.int .i64 (c : Int), .int .i64 (a : Int), .int .i64 (s * (1 - (z : Int)))]) :: (b9, blk 31 [.int .i64 (hourOf b a).lo, .int .i64 (hourOf b a).hi]) :: (b8, blk 76 ((ctrOf b c).cells (p.pc c))) :: (b3, blk 154 [.int .i64 (c : Int), .int .i64 (a : Int), .int .i64 s]) :: (mm, .map (ents (fun l : List Int => ia l) es).toArray ck) :: (B ++ F))) (((hourOf b a).hi + (ctrOf b c).twice + 1 - (max 0 ((hourOf b a).lo - (ctrOf b c).skip))).toNat) ?_ ?_
        ·
         exact ⟨0, v, B, vi (by omega), by omega, by omega, by rw [show wPart (ctrOf b c) a s (decide (z = 1)) (max 0 ((hourOf b a).lo - (ctrOf b c).skip)) 0 = [] from rfl, List.append_nil]; exact hown, hs221⟩
        ·
         intro k vs μ w226 hI K225 hN224
         obtain ⟨q, v, B, rfl, hqa, rfl, hown2, hs⟩ := hI
         have hpl := wPart_len (ctrOf b c) a s (max 0 ((hourOf b a).lo - (ctrOf b c).skip)) (decide (z = 1)) q
         have hpa : ((wTo (ctrOf b c) (hourOf b a) a s z) ++ wPart (ctrOf b c) a s (decide (z = 1)) (max 0 ((hourOf b a).lo - (ctrOf b c).skip)) q).length = (wTo (ctrOf b c) (hourOf b a) a s z).length + (wPart (ctrOf b c) a s (decide (z = 1)) (max 0 ((hourOf b a).lo - (ctrOf b c).skip)) q).length := List.length_append
         refine w_seq (fun K228 hK227 => ?_)
         refine w_seq (fun K230 hK229 => ?_)
         refine w_region ?_
         refine w_p (y_move (v := .int _ _) rfl rfl) rfl ?_
         refine w_p (y_fieldAddr (o := 1) (i := 1) Try.underlying31 rfl Try.sizeOf3 rfl rfl rfl) rfl ?_
         refine w_p (y_load1 Try.isAgg3 hs rfl rfl (ats_own (i := 1) (vs := [_]) rfl rfl)) rfl ?_
         refine w_p (y_fieldAddr (o := 2) (i := 2) Try.underlying76 rfl Try.sizeOf3 rfl rfl rfl) rfl ?_
         refine w_p (y_load1 Try.isAgg3 hs rfl rfl (ats_own (i := 2) (vs := [_]) rfl rfl)) rfl ?_
         refine w_p (y_add rfl rfl rfl rfl (by omega) (by omega)) rfl ?_
         refine w_p (y_leq rfl rfl rfl rfl) rfl ?_
         refine w_nil ?_
         refine q_then (hK229 _ _ ?_)
         refine w_cond rfl rfl (fun h231 => ?_) (fun h231 => ?_)
         ·
          try simp only [zA, zB, zC, zD, zE, zF] at h231
          refine w_skip ?_
          refine q_then (hK227 _ _ ?_)
          refine w_seq (fun K233 hK232 => ?_)
          refine w_block ?_
          refine w_seq (fun K235 hK234 => ?_)
          refine w_region ?_
          refine w_p (y_fieldAddr (o := 2) (i := 2) Try.underlying154 rfl Try.sizeOf3 rfl rfl rfl) rfl ?_
          refine w_p (y_load1 Try.isAgg3 hs rfl rfl (ats_own (i := 0) (vs := [_]) rfl rfl)) rfl ?_
          refine w_p (y_move (v := .int _ _) rfl rfl) rfl ?_
          refine w_p (y_add rfl rfl rfl rfl (by omega) (by omega)) rfl ?_
          refine w_p (y_rem rfl rfl rfl rfl (by omega) (by omega)) rfl ?_
          refine w_p (y_assign (v := .int _ _) rfl rfl) rfl ?_
          refine w_nil ?_
          refine q_then (hK234 _ _ ?_)
          refine w_seq (fun K237 hK236 => ?_)
          refine w_region ?_
          refine w_p (y_fieldAddr (o := 5) (i := 5) Try.underlying76 rfl Try.sizeOf39 rfl rfl rfl) rfl ?_
          refine w_p (yd_slice hbv (y_load1 Try.isAgg39 hs rfl rfl (ats_own (i := 2) (vs := [_]) rfl rfl))) rfl ?_
          refine w_p (y_fieldAddr (o := 1) (i := 1) Try.underlying154 rfl Try.sizeOf3 rfl rfl rfl) rfl ?_
          refine w_p (y_load1 Try.isAgg3 hs rfl rfl (ats_own (i := 3) (vs := [_]) rfl rfl)) rfl ?_
          refine w_p (y_indexS Try.underlying39 Try.sizeOf3 rfl rfl rfl rfl (i := a) rfl has) rfl ?_
          refine w_p (y_load1 Try.isAgg3 hs.tail.tail.tail.tail.tail.drop rfl rfl hxv) rfl ?_
          refine w_p (y_assign (v := .int _ _) rfl rfl) rfl ?_
          refine w_nil ?_
          refine q_then (hK236 _ _ ?_)
          refine w_seq (fun K239 hK238 => ?_)
          rw [sh_mul (by omega)]
          refine w_region ?_
          refine w_p (y_move (v := .int _ _) rfl rfl) rfl ?_
          refine w_p (y_eql rfl rfl rfl rfl) rfl ?_
          refine w_p (y_move (v := .bool _) rfl rfl) rfl ?_
          refine w_split (fun h240 => ?_) (fun h240 => ?_)
          ·
           try simp only [zA, zB, zC, zD, zE, zF] at h240
           refine w_skipop rfl rfl rfl ?_
           refine w_skipop rfl rfl rfl ?_
           refine w_skipop rfl rfl rfl ?_
           refine w_p (y_pickT (v := _) rfl rfl rfl rfl) rfl ?_
           refine w_nil ?_
           refine q_then (hK238 _ _ ?_)
           refine w_condT rfl rfl ?_
           refine w_region ?_
           refine w_p (y_move (v := v) rfl rfl) rfl ?_
           refine w_p (y_move (v := .int _ _) rfl rfl) rfl ?_
           refine w_p (y_move (v := .int _ _) rfl rfl) rfl ?_
           refine w_p (y_move (v := .int _ _) rfl rfl) rfl ?_
           refine w_p (y_eql rfl rfl rfl rfl) rfl ?_
           refine w_p (y_build (ps := [(0, _), (1, _), (2, _)]) (pv := [(0, .int _ _), (1, .int _ _), (2, .bool _)]) rfl rfl (fun w => Try_E_fb1 _ _ _ w)) rfl ?_
           refine w_bslice (ps := [(0, _)]) (pv := [(0, .agg #[.int _ _, .int _ _, .bool _])]) (cs := [_, _, _]) want_none rfl rfl (fun w => Try_E_fb2 _ _ _ w) hs (fun b241 w242 hs243 => ?_)
           refine w_append (X := (_ :: _ :: _ :: _ :: _ :: _ :: [])) (B := B) (rows := [[_, _, _]]) (sz := 3) (bytes := 24) want_none Try.underlying152 Try_info140 rfl rfl rfl rfl rfl rfl rfl rfl rfl hs243 hown2 (sl_own (i := 0) rfl (by simp) rfl) rfl (by simp) (by simp [Value.oneCell']) (by simp only [maxLen]; omega) (by omega) (fun v244 w245 B246 ho247 hs248 => ?_)
           replace hs248 := (show St _ _ (_ :: _ :: _ :: _ :: _ :: _ :: B246 ++ (F)) from hs248)
           refine w_p (y_assign (v := v244) rfl rfl) rfl ?_
           refine w_nil ?_
           refine q_blk_normal ?_
           refine q_then (hK232 _ _ ?_)
           refine w_region ?_
           refine w_p (y_move (v := .int _ _) rfl rfl) rfl ?_
           refine w_p (y_add rfl rfl rfl rfl (by omega) (by omega)) rfl ?_
           refine w_p (y_assign (v := .int _ _) rfl rfl) rfl ?_
           refine w_nil ?_
           refine q_then (hN224 _ _ (Nx.intro (((hourOf b a).hi + (ctrOf b c).twice + 1 - (max 0 ((hourOf b a).lo - (ctrOf b c).skip))).toNat - (q + 1)) (by omega) (by repeat (first | exact agree_mix | refine agree_upd rfl ?_ | refine agree_updL rfl ?_ _ | refine agree_mixin rfl ?_)) ?_))
           exact ⟨q + 1, _, _, vi (by omega), by omega, rfl, by rw [wPart_y (by rw [hgs]; omega), ← List.append_assoc]; exact own_way (by have h9 := ho247; rw [hzb] at h9; exact h9), hs248.tail⟩
          ·
           try simp only [zA, zB, zC, zD, zE, zF] at h240
           refine w_y rfl rfl rfl (y_move (v := .int _ _) rfl rfl) rfl ?_
           refine w_y rfl rfl rfl (y_move (v := .int _ _) rfl rfl) rfl ?_
           refine w_y rfl rfl rfl (y_eql rfl rfl rfl rfl) rfl ?_
           refine w_p (y_pickF (v := .bool _) rfl rfl rfl rfl) rfl ?_
           refine w_nil ?_
           refine q_then (hK238 _ _ ?_)
           refine w_cond rfl rfl (fun h249 => ?_) (fun h249 => ?_)
           ·
            try simp only [zA, zB, zC, zD, zE, zF] at h249
            refine w_region ?_
            refine w_p (y_move (v := v) rfl rfl) rfl ?_
            refine w_p (y_move (v := .int _ _) rfl rfl) rfl ?_
            refine w_p (y_move (v := .int _ _) rfl rfl) rfl ?_
            refine w_p (y_move (v := .int _ _) rfl rfl) rfl ?_
            refine w_p (y_eql rfl rfl rfl rfl) rfl ?_
            refine w_p (y_build (ps := [(0, _), (1, _), (2, _)]) (pv := [(0, .int _ _), (1, .int _ _), (2, .bool _)]) rfl rfl (fun w => Try_E_fb1 _ _ _ w)) rfl ?_
            refine w_bslice (ps := [(0, _)]) (pv := [(0, .agg #[.int _ _, .int _ _, .bool _])]) (cs := [_, _, _]) want_none rfl rfl (fun w => Try_E_fb2 _ _ _ w) hs (fun b250 w251 hs252 => ?_)
            refine w_append (X := (_ :: _ :: _ :: _ :: _ :: _ :: [])) (B := B) (rows := [[_, _, _]]) (sz := 3) (bytes := 24) want_none Try.underlying152 Try_info140 rfl rfl rfl rfl rfl rfl rfl rfl rfl hs252 hown2 (sl_own (i := 0) rfl (by simp) rfl) rfl (by simp) (by simp [Value.oneCell']) (by simp only [maxLen]; omega) (by omega) (fun v253 w254 B255 ho256 hs257 => ?_)
            replace hs257 := (show St _ _ (_ :: _ :: _ :: _ :: _ :: _ :: B255 ++ (F)) from hs257)
            refine w_p (y_assign (v := v253) rfl rfl) rfl ?_
            refine w_nil ?_
            refine q_blk_normal ?_
            refine q_then (hK232 _ _ ?_)
            refine w_region ?_
            refine w_p (y_move (v := .int _ _) rfl rfl) rfl ?_
            refine w_p (y_add rfl rfl rfl rfl (by omega) (by omega)) rfl ?_
            refine w_p (y_assign (v := .int _ _) rfl rfl) rfl ?_
            refine w_nil ?_
            refine q_then (hN224 _ _ (Nx.intro (((hourOf b a).hi + (ctrOf b c).twice + 1 - (max 0 ((hourOf b a).lo - (ctrOf b c).skip))).toNat - (q + 1)) (by omega) (by repeat (first | exact agree_mix | refine agree_upd rfl ?_ | refine agree_updL rfl ?_ _ | refine agree_mixin rfl ?_)) ?_))
            exact ⟨q + 1, _, _, vi (by omega), by omega, rfl, by rw [wPart_y (by rw [hgs]; omega), ← List.append_assoc]; exact own_way (by have h9 := ho256; rw [hzb] at h9; exact h9), hs257.tail⟩
           ·
            try simp only [zA, zB, zC, zD, zE, zF] at h249
            refine w_skip ?_
            refine q_blk_normal ?_
            refine q_then (hK232 _ _ ?_)
            refine w_region ?_
            refine w_p (y_move (v := .int _ _) rfl rfl) rfl ?_
            refine w_p (y_add rfl rfl rfl rfl (by omega) (by omega)) rfl ?_
            refine w_p (y_assign (v := .int _ _) rfl rfl) rfl ?_
            refine w_nil ?_
            refine q_then (hN224 _ _ (Nx.intro (((hourOf b a).hi + (ctrOf b c).twice + 1 - (max 0 ((hourOf b a).lo - (ctrOf b c).skip))).toNat - (q + 1)) (by omega) (by repeat (first | exact agree_mix | refine agree_upd rfl ?_ | refine agree_updL rfl ?_ _ | refine agree_mixin rfl ?_)) ?_))
            exact ⟨q + 1, v, B, vi (by omega), by omega, rfl, by rw [wPart_n (by rw [hgs]; omega)]; exact hown2, hs⟩
         ·
          try simp only [zA, zB, zC, zD, zE, zF] at h231
          refine w_exit ?_
          refine q_then_exit ?_
          refine q_then_exit ?_
          refine q_blk_this ?_
          refine q_blk_normal ?_
          refine q_then (hK56 _ _ ?_)
          refine w_region ?_
          refine w_p (y_add rfl rfl rfl rfl (by omega) (by omega)) rfl ?_
          refine w_p (y_move (v := .int _ _) rfl rfl) rfl ?_
          refine w_nil ?_
          refine q_then (hN48 _ _ (Nx.intro (2 - (z + 1)) (by omega) (by repeat (first | exact agree_mix | refine agree_upd rfl ?_ | refine agree_updL rfl ?_ _ | refine agree_mixin rfl ?_)) ?_))
          first
            | exact ⟨z + 1, v, B, rfl, by omega, rfl, by rw [wTo_no (canZ_n (by omega) (by omega))]; exact hown, hs⟩
            | exact ⟨z + 1, v, B, rfl, by omega, rfl, by rw [wPart_all (canZ_y (by omega) (by omega)) (q := q) (by omega)]; exact hown2, hs.tail⟩
     ·
      try simp only [zA, zB, zC, zD, zE, zF] at h55
      refine w_exit ?_
      refine q_then_exit ?_
      refine q_then_exit ?_
      refine q_blk_this ?_
      refine q_then (hK44 _ _ ?_)
      refine w_seq (fun K259 hK258 => ?_)
      refine w_draw [6] [(0, 0), (1, 0), (2, 0), (3, 1), (4, 1), (5, 0), (6, 3)] Try_mo (drawOK_of (by kernel_rfl)) hs (fun w260 hs261 => ?_)
      refine d_any rfl want_none rfl (fun _ => (y_move (v := .pointer _) rfl rfl)) ?_
      refine d_any rfl want_none rfl (fun _ => (y_nilCheck rfl rfl)) ?_
      refine d_any rfl want_none rfl (fun _ => (y_fieldAddr (o := 3) (i := 1) Try.underlying129 rfl Try.sizeOf127 rfl rfl rfl)) ?_
      refine d_take rfl want_none rfl hs261 (fun _ hq => (y_load1 Try.isAgg127 hq.tail.tail.tail.tail.drop rfl rfl (show Ats _ _ _ _ [_] from Ats.part hb 3 1))) ?_
      refine d_take rfl want_none rfl hs261 (fun _ hq => (y_loadN (vs := [_, _, _]) Try.isAgg154 Try.sizeOf154 hq rfl rfl (ats_own (i := 2) (vs := [_, _, _]) rfl rfl))) ?_
      refine d_any rfl want_none rfl (fun _ => (y_move (v := v) rfl rfl)) ?_
      refine d_late rfl ?_
      refine G_put (i := 3) (a := [(c : Int), (a : Int), s]) want_none Try.underlying127 (keyG_ia key154) rfl hes rfl rfl rfl rfl rfl rfl hs261 rfl (fun w262 hs263 => ?_)
      refine w_nil ?_
      refine qn ?_
      refine d_nil ?_
      refine q_then (hK258 _ _ ?_)
      refine w_seq (fun K265 hK264 => ?_)
      refine w_region ?_
      refine w_p (y_move (v := v) rfl rfl) rfl ?_
      refine w_p (y_assign (v := v) rfl rfl) rfl ?_
      refine w_nil ?_
      refine q_then (hK264 _ _ ?_)
      refine w_ret ?_
      refine q_ret (l := [.tmp 4]) (vs := [_]) rfl ⟨⟨rfl, show _ = (v : Value) from rfl⟩, trivial⟩ ?_
      have hz2 : z = 2 := by omega
      subst hz2
      rw [wTo_two] at hown
      obtain ⟨x, cap, rfl, hsl, _, _⟩ := own_rows0 (w0 := w0) hown (wrows_row _) (by simp [wrows]) rfl
      exact ⟨x, cap, B, rfl, hsl, hs263.tail.tail.tail⟩

theorem getA_mem {α : Type} [DecidableEq α] {a : α} {u : Value} : ∀ {l : List (α × Value × Nat)}, getA a l = some u → ∃ q ∈ l, q.1 = a ∧ q.2.1 = u
  | [], h => by simp [getA] at h
  | q :: l, h => by
    by_cases e : q.1 = a
    · simp only [getA, if_pos e] at h
      exact ⟨q, .head _, e, by simpa using h⟩
    · simp only [getA, if_neg e] at h
      obtain ⟨x, hx, h1, h2⟩ := getA_mem h
      exact ⟨x, .tail _ hx, h1, h2⟩
theorem ways_con {w0 w : World} {X M F : List (Nat × Obj)} (b : Board) (p : AtB) (bb mm : Nat) (hk : BK w0 F b p bb mm) (c a : Nat) (hc : c < b.ctrs.length) (ha : a < b.hours.length) (s : Int) (hs1 : 0 ≤ s ∧ s < 100) (hM : Memo w0 b mm M) (hs : St w0 w (X ++ (M ++ F))) :
    Con Try.prog 110 [.pointer (some ⟨bb, 0, none⟩), .agg #[.int .i64 (c : Int), .int .i64 (a : Int), .int .i64 s]] w fun v w' => ∃ (M' : List (Nat × Obj)) (x : Option Addr) (cap : Nat), v = .slice x (waysAt b c a s).length cap ∧ Sl w0 M' x 3 (wrows (waysAt b c a s)) ∧ Memo w0 b mm M' ∧ St w0 w' (X ++ (M' ++ F)) := by
  obtain ⟨es, ck, MB, rfl, hok, hlen, hes⟩ := hM
  have hs2 : St w0 w ((mm, .map (ents (fun l : List Int => ia l) es).toArray ck) :: (X ++ (MB ++ F))) := hs.perm (perm_mid X [_] (MB ++ F))
  cases hf : getA [(c : Int), (a : Int), s] es with
  | none =>
    refine (c110n b p bb mm hk.app.app c a hc ha s hs1 es ck hlen hf hs2).mono ?_
    rintro v w' ⟨x, cap, B, rfl, hsl, hs3⟩
    refine ⟨(mm, .map (ents (fun l : List Int => ia l) (putA [(c : Int), (a : Int), s] (.slice x (waysAt b c a s).length cap) ck es)).toArray (if idxA [(c : Int), (a : Int), s] es 0 = none then ck + 1 else ck)) :: (B ++ MB), x, cap, rfl, hsl.top.cons, ⟨_, _, B ++ MB, rfl, hok.put _ _, fun q hq => ?_, fun q hq => ?_⟩, ?_⟩
    · rcases mem_putA hq with ⟨h1, _⟩ | h
      · rw [h1]; rfl
      · exact hlen q h
    · rcases mem_putA hq with ⟨h1, h2⟩ | h
      · exact ⟨c, a, s, x, cap, h1, h2, hsl.top⟩
      · exact (hes q h).mono fun _ h => h.drop
    · have h4 := hs3.perm (perm_mid (_ :: B) X (MB ++ F))
      simpa only [List.append_assoc, List.cons_append] using h4
  | some u =>
    obtain ⟨q, hq, h1, h2⟩ := getA_mem hf
    obtain ⟨c', a', s', x, cap, h3, h4, h5⟩ := hes q hq
    rw [h1] at h3
    injection h3 with e1 h3
    injection h3 with e2 h3
    injection h3 with e3 _
    have e4 : c' = c := by omega
    have e5 : a' = a := by omega
    subst e4 e5 e3
    rw [h2] at h4
    refine (c110f b p bb mm hk.app.app c' a' hc ha s hs1 es ck hlen u x _ cap h4 hf hs2).mono ?_
    rintro v w' ⟨rfl, hs3⟩
    refine ⟨(mm, .map (ents (fun l : List Int => ia l) es).toArray ck) :: MB, x, cap, h4, h5.cons, ⟨es, ck, MB, rfl, hok, hlen, hes⟩, ?_⟩
    exact hs3.perm (perm_mid [_] X (MB ++ F))
end Go.Proofs
/- Walks of this seat, printed by gen.py over the engine: what each function returns, in whatever world. No conditions but those of each contract. -/
set_option linter.unusedVariables false
set_option linter.unusedSimpArgs false
set_option maxRecDepth 20000
namespace Go.Proofs
open Go.Rt Go.Rt.Ch
open Go.Rt.Ha (firstE firstE_step firstE_stop firstE_end failE nameE felt spanL upto span_mem listL fewest fewTo bit)
attribute [local irreducible] WL WC Con Yd At Ats Sl Agree DW
theorem Try_F_fb2 (x0 : Int) (x1 : Int) (x2 : Bool) (w : World) : (Instr.build 140 [(0, .int .i64 x0), (1, .int .i64 x1), (2, .bool x2)].toArray).run Try.prog w = .ok (.agg #[.int .i64 x0, .int .i64 x1, .bool x2]) w := by kernel_rfl
theorem Try_F_fb3 (x0 : Go.Fn) (a0 c0 : Array Value) (w : World) : (Instr.build 112 [(0, .func x0 a0 c0)].toArray).run Try.prog w = .ok (.agg #[.func x0 a0 c0]) w := by kernel_rfl
/-- A function that answers a question of ways. -/
def QIs (w0 : World) (F : List (Nat × Obj)) (fq : Value) (q : Quest) : Prop := ∀ (k : Nat) (load : Int) (x : Ch.Way) (X : List (Nat × Obj)) (w : World), St w0 w (X ++ F) → FCon Try.prog fq [.int .i64 (k : Int), .int .i64 load, .agg x.cells.toArray] w fun v w' => v = .bool (q k load x) ∧ St w0 w' (X ++ F)
theorem QIs.at {w0 w : World} {P X M F : List (Nat × Obj)} {fq : Value} {q : Quest} (h : QIs w0 F fq q) (k : Nat) (load : Int) (x : Ch.Way) (hs : St w0 w (P ++ (X ++ (M ++ F)))) : FCon Try.prog fq [.int .i64 (k : Int), .int .i64 load, .agg x.cells.toArray] w fun v w' => v = .bool (q k load x) ∧ St w0 w' (P ++ (X ++ (M ++ F))) :=
  (h k load x _ w (st_in hs)).mono fun _ _ h => ⟨h.1, st_out h.2⟩
theorem QIs.app {w0 : World} {B F : List (Nat × Obj)} {fq : Value} {q : Quest} (h : QIs w0 F fq q) : QIs w0 (B ++ F) fq q := fun k load x X w hs => by
  have h1 := h k load x (X ++ B) w (by rw [List.append_assoc]; exact hs)
  exact h1.mono fun _ _ h => ⟨h.1, by have h2 := h.2; rw [List.append_assoc] at h2; exact h2⟩
theorem iib140 : ∃ f0 f1 f2, IIB Try.prog 140 f0 f1 f2 := ⟨_, _, _, ⟨Try.underlying140, by kernel_rfl, by kernel_rfl, ⟨by decide, rfl, Try.underlying3⟩, ⟨by decide, rfl, Try.underlying3⟩, ⟨by decide, rfl, Try.underlying4⟩⟩⟩
theorem dec_slip {a b : Int} : (!decide (a = b)) = decide (a ≠ b) := by rw [Bool.eq_iff_iff]; simp
theorem c100 {w0 w : World} {F : List (Nat × Obj)} (k : Nat) (load : Int) (x : Ch.Way) (hs : St w0 w F) :
  Con Try.prog 100 [.int .i64 (k : Int), .int .i64 load, .agg x.cells.toArray] w fun v w' => v = .bool (slips k load x) ∧ St w0 w' F := by
  refine con_of_wc (n := 11) Try.func100 rfl rfl (Nat.le_of_ble_eq_true rfl) ?_
  refine w_seq (fun K2 hK1 => ?_)
  refine w_region ?_
  refine w_box (v := .agg #[.int _ _, .int _ _, .bool _]) (cs := [_, _, _]) want_none rfl rfl rfl hs (fun b3 w4 hs5 => ?_)
  refine w_p (y_assign (v := _) rfl rfl) rfl ?_
  refine w_nil ?_
  refine q_then (hK1 _ _ ?_)
  refine w_seq (fun K7 hK6 => ?_)
  refine w_region ?_
  refine w_p (y_fieldAddr (o := 0) (i := 0) Try.underlying140 rfl Try.sizeOf3 rfl rfl rfl) rfl ?_
  refine w_p (y_load1 Try.isAgg3 hs5 rfl rfl (ats_own (i := 0) (vs := [_]) rfl rfl)) rfl ?_
  refine w_p (y_move (v := .int _ _) rfl rfl) rfl ?_
  refine w_p (y_neq rfl rfl rfl rfl) rfl ?_
  refine w_p (y_assign (v := .bool _) rfl rfl) rfl ?_
  refine w_nil ?_
  refine q_then (hK6 _ _ ?_)
  refine w_ret ?_
  refine q_ret (l := [.tmp 6]) (vs := [_]) rfl ⟨⟨rfl, show _ = (.bool _ : Value) from rfl⟩, trivial⟩ ?_
  exact ⟨congrArg Value.bool dec_slip, hs5.tail⟩

theorem c103 {w0 w : World} {F : List (Nat × Obj)} (k a : Nat) (load : Int) (x : Ch.Way) (ba : Nat) (hb : Ats w0 F ba 0 [.int .i64 (a : Int)]) (hs : St w0 w F) :
  Con Try.prog 103 [.int .i64 (k : Int), .int .i64 load, .agg x.cells.toArray, .pointer (some ⟨ba, 0, none⟩)] w fun v w' => v = .bool (zeroed a k load x) ∧ St w0 w' F := by
  refine con_of_wc (n := 20) Try.func103 rfl rfl (Nat.le_of_ble_eq_true rfl) ?_
  obtain ⟨f0, f1, f2, hT⟩ := iib140
  refine w_seq (fun K2 hK1 => ?_)
  refine w_region ?_
  refine w_box (v := .agg #[.int _ _, .int _ _, .bool _]) (cs := [_, _, _]) want_none rfl rfl rfl hs (fun b3 w4 hs5 => ?_)
  refine w_p (y_assign (v := _) rfl rfl) rfl ?_
  refine w_nil ?_
  refine q_then (hK1 _ _ ?_)
  refine w_seq (fun K7 hK6 => ?_)
  refine w_region ?_
  refine w_p (y_move (v := .int _ _) rfl rfl) rfl ?_
  refine w_p (y_load1 Try.isAgg3 hs5.tail rfl rfl hb) rfl ?_
  refine w_p (y_eql rfl rfl rfl rfl) rfl ?_
  refine w_p (y_move (v := .bool _) rfl rfl) rfl ?_
  refine w_split (fun h8 => ?_) (fun h8 => ?_)
  ·
   try simp only [zA, zB, zC, zD, zE, zF] at h8
   refine w_y rfl rfl rfl (y_loadN (vs := [_, _, _]) Try.isAgg140 Try.sizeOf140 hs5 rfl rfl (ats_own (i := 0) (vs := [_, _, _]) rfl rfl)) rfl ?_
   refine w_y rfl rfl rfl (y_fieldAddr (o := 0) (i := 0) Try.underlying140 rfl Try.sizeOf3 rfl rfl rfl) rfl ?_
   refine w_y rfl rfl rfl (y_load1 Try.isAgg3 hs5 rfl rfl (ats_own (i := 0) (vs := [_]) rfl rfl)) rfl ?_
   refine w_y rfl rfl rfl (y_fieldAddr (o := 1) (i := 1) Try.underlying140 rfl Try.sizeOf3 rfl rfl rfl) rfl ?_
   refine w_y rfl rfl rfl (y_load1 Try.isAgg3 hs5 rfl rfl (ats_own (i := 0) (vs := [_]) rfl rfl)) rfl ?_
   refine w_y rfl rfl rfl (y_build (ps := [(0, _), (1, _), (2, _)]) (pv := [(0, .int _ _), (1, .int _ _), (2, .bool _)]) rfl rfl (fun w => Try_F_fb2 _ _ _ w)) rfl ?_
   refine w_y rfl rfl rfl (y_eqIIB hT rfl rfl rfl rfl) rfl ?_
   refine w_p (y_pickT (v := .bool _) rfl rfl rfl rfl) rfl ?_
   refine w_p (y_assign (v := .bool _) rfl rfl) rfl ?_
   refine w_nil ?_
   refine q_then (hK6 _ _ ?_)
   refine w_ret ?_
   refine q_ret (l := [.tmp 7]) (vs := [_]) rfl ⟨⟨rfl, show _ = (.bool _ : Value) from rfl⟩, trivial⟩ ?_
   first
     | (have hka : k = a := by omega
        subst hka
        exact ⟨congrArg Value.bool (by unfold zeroed; rw [Bool.eq_iff_iff]; simp), hs5.tail⟩)
     | (have hka : ¬ k = a := by omega
        exact ⟨congrArg Value.bool (by unfold zeroed; rw [Bool.eq_iff_iff]; simp [hka]), hs5.tail⟩)
  ·
   try simp only [zA, zB, zC, zD, zE, zF] at h8
   refine w_skipop rfl rfl rfl ?_
   refine w_skipop rfl rfl rfl ?_
   refine w_skipop rfl rfl rfl ?_
   refine w_skipop rfl rfl rfl ?_
   refine w_skipop rfl rfl rfl ?_
   refine w_skipop rfl rfl rfl ?_
   refine w_skipop rfl rfl rfl ?_
   refine w_p (y_pickF (v := _) rfl rfl rfl rfl) rfl ?_
   refine w_p (y_assign (v := .bool _) rfl rfl) rfl ?_
   refine w_nil ?_
   refine q_then (hK6 _ _ ?_)
   refine w_ret ?_
   refine q_ret (l := [.tmp 7]) (vs := [_]) rfl ⟨⟨rfl, show _ = (.bool _ : Value) from rfl⟩, trivial⟩ ?_
   first
     | (have hka : k = a := by omega
        subst hka
        exact ⟨congrArg Value.bool (by unfold zeroed; rw [Bool.eq_iff_iff]; simp), hs5.tail⟩)
     | (have hka : ¬ k = a := by omega
        exact ⟨congrArg Value.bool (by unfold zeroed; rw [Bool.eq_iff_iff]; simp [hka]), hs5.tail⟩)

theorem c73 {w0 w : World} {F : List (Nat × Obj)}  (hs : St w0 w F) :
  Con Try.prog 73 [] w fun v w' => v = .agg #[.func (.func 100) #[] #[]] ∧ St w0 w' F := by
  refine con_of_wc (n := 2) Try.func73 rfl rfl (Nat.le_of_ble_eq_true rfl) ?_
  refine w_seq (fun K2 hK1 => ?_)
  refine w_region ?_
  refine w_alloc (cs := [_]) want_none Try.zeroValue112 rfl hs (fun b3 w4 hs5 => ?_)
  refine w_nil ?_
  refine q_then (hK1 _ _ ?_)
  refine w_seq (fun K7 hK6 => ?_)
  refine w_region ?_
  refine w_p (y_build (ps := [(0, _)]) (pv := [(0, .func _ _ _)]) rfl rfl (fun w => Try_F_fb3 _ _ _ w)) rfl ?_
  refine w_store (i := 0) (v := .agg #[.func _ _ _]) (vs := [_]) want_none Try.sizeOf112 rfl rfl rfl rfl rfl (by simp [Value.oneCell']) hs5 rfl (Nat.le_of_ble_eq_true rfl) (fun w8 hs9 => ?_)
  refine w_nil ?_
  refine q_then (hK6 _ _ ?_)
  refine w_ret ?_
  refine q_ret (l := [.cell 0 112]) (vs := [_]) rfl ⟨⟨rfl, _, rfl, run_loadVarN (vs := [_]) Try.isAgg112 Try.sizeOf112 hs9 (ats_own (i := 0) (vs := [_]) rfl rfl)⟩, trivial⟩ ?_
  exact ⟨rfl, hs9.tail⟩

theorem c77 {w0 w : World} {F : List (Nat × Obj)} (a : Nat) (hs : St w0 w F) :
  Con Try.prog 77 [.int .i64 (a : Int)] w fun v w' => ∃ ba, v = .agg #[.func (.func 103) #[] #[.pointer (some ⟨ba, 0, none⟩)]] ∧ St w0 w' ((ba, blk 3 [.int .i64 (a : Int)]) :: F) := by
  refine con_of_wc (n := 5) Try.func77 rfl rfl (Nat.le_of_ble_eq_true rfl) ?_
  refine w_seq (fun K2 hK1 => ?_)
  refine w_region ?_
  refine w_box (v := .int _ _) (cs := [_]) want_none rfl rfl rfl hs (fun b3 w4 hs5 => ?_)
  refine w_alloc (cs := [_]) want_none Try.zeroValue112 rfl hs5 (fun b6 w7 hs8 => ?_)
  refine w_nil ?_
  refine q_then (hK1 _ _ ?_)
  refine w_seq (fun K10 hK9 => ?_)
  refine w_region ?_
  refine w_p (y_makeFunc (fv := []) (cv := [_]) rfl rfl rfl rfl) rfl ?_
  refine w_p (y_build (ps := [(0, _)]) (pv := [(0, .func _ _ _)]) rfl rfl (fun w => Try_F_fb3 _ _ _ w)) rfl ?_
  refine w_store (i := 0) (v := .agg #[.func _ _ _]) (vs := [_]) want_none Try.sizeOf112 rfl rfl rfl rfl rfl (by simp [Value.oneCell']) hs8 rfl (Nat.le_of_ble_eq_true rfl) (fun w11 hs12 => ?_)
  refine w_nil ?_
  refine q_then (hK9 _ _ ?_)
  refine w_ret ?_
  refine q_ret (l := [.cell 2 112]) (vs := [_]) rfl ⟨⟨rfl, _, rfl, run_loadVarN (vs := [_]) Try.isAgg112 Try.sizeOf112 hs12 (ats_own (i := 0) (vs := [_]) rfl rfl)⟩, trivial⟩ ?_
  exact ⟨_, rfl, hs12.tail⟩

theorem qis_slips {w0 : World} {F : List (Nat × Obj)} : QIs w0 F (.func (.func 100) #[] #[]) slips := fun k load x X w hs => fcon_fn Try.call100 (c100 k load x hs)
theorem qis_zeroed {w0 : World} {F : List (Nat × Obj)} {a ba : Nat} (hb : Ats w0 F ba 0 [.int .i64 (a : Int)]) : QIs w0 F (.func (.func 103) #[] #[.pointer (some ⟨ba, 0, none⟩)]) (zeroed a) := fun k load x X w hs => fcon_fn Try.call103 (c103 k a load x ba hb.app hs)
end Go.Proofs
