/- Own texts of this claim, joined. No conditions. -/
import Derived.Test.YtgndnnpadkoagaaHChainLookeda
import Derived.Test.YtgndnnpadkoagaaHChainLookedb
import Derived.Test.YtgndnnpadkoagaaHChainLookedc
import Derived.Test.YtgndnnpadkoagaaHChainLookedd
import Derived.Test.YtgndnnpadkoagaaHChainLookede
import Derived.Test.YtgndnnpadkoagaaHChainLookedf
/- Walks of this seat, printed by gen.py over the engine: what each function returns, in whatever world. No conditions but those of each contract. -/
set_option linter.unusedVariables false
set_option linter.unusedSimpArgs false
set_option maxRecDepth 20000
namespace Go.Proofs
open Go.Rt Go.Rt.Ch
open Go.Rt.Ha (firstE firstE_step firstE_stop firstE_end failE nameE felt spanL upto span_mem listL fewest fewTo bit)
attribute [local irreducible] WL WC Con Yd At Ats Sl Agree DW
theorem Try_G_fb2 (x0 : Int) (x1 : Int) (x2 : Int) (w : World) : (Instr.build 154 [(0, .int .i64 x0), (1, .int .i64 x1), (2, .int .i64 x2)].toArray).run Try.prog w = .ok (.agg #[.int .i64 x0, .int .i64 x1, .int .i64 x2]) w := by kernel_rfl
theorem Try_G_fb3 (x0 : Int) (w : World) : (Instr.buildSlice 39 1 [(0, .int .i64 x0)].toArray).run Try.prog w = .ok (.slice (some ⟨w.heap.size, 0, none⟩) 1 1) (w.alloc (Go.Rt.blk 3 [.int .i64 x0])) := by kernel_rfl
theorem sl_wrows {w0 : World} {F : List (Nat × Obj)} {a : Option Addr} {l : List Ch.Way} {i : Nat} (h : Sl w0 F a 3 (wrows l)) (hi : i < l.length) : ∃ b off, a = some ⟨b, off, none⟩ ∧ Ats w0 F b (off + i * 3) l[i].cells := by
  obtain ⟨b, off, ha, _, hat⟩ := h.at (i := i) (row := l[i].cells) (by simp [wrows, hi])
  exact ⟨b, off, ha, hat⟩
theorem c99 {w0 w : World} {X M F : List (Nat × Obj)} (b : Board) (p : AtB) (bb mm : Nat) (hk : BK w0 F b p bb mm) (c : Nat) (hc : c < b.ctrs.length) (l : List Int) (hl4 : l.length = 4) (hld : ∀ i (hi : i < b.hours.length), b.hours[i].lo ≤ ld l i ∧ ld l i ≤ b.hours[i].hi) (fk : FuncId) (f1 cp : Array Value) (q : Quest) (hq : QIs w0 F (.func (.func fk) f1 cp) q) (hM : Memo w0 b mm M) (hs : St w0 w (X ++ (M ++ F))) :
  Con Try.prog 99 [.pointer (some ⟨bb, 0, none⟩), .int .i64 (c : Int), ia l, .agg #[.func (.func fk) f1 cp]] w fun v w' => ∃ M', v = .tuple #[.bool (notF (ctrOf b c) l q b.hours.length), .bool (metF (ctrOf b c) l q b.hours.length)] ∧ Memo w0 b mm M' ∧ St w0 w' (X ++ (M' ++ F)) := by
  refine con_of_wc (n := 123) Try.func99 rfl rfl (Nat.le_of_ble_eq_true rfl) ?_
  have hb := hk.l
  have hcok := hk.ok.ctr _ (List.getElem_mem hc)
  obtain ⟨bx, ox, hbx, hxc⟩ := sl_krows hk.i.c hc
  rw [← ctr_at hc] at hcok hxc
  have hnh := hk.ok.lh
  have hsk := hcok.skip
  have htw := hcok.twice
  refine w_seq (fun K2 hK1 => ?_)
  refine w_region ?_
  refine w_boxI (l := _) want_none rfl rfl rfl hs (fun b3 w4 hs5 => ?_)
  refine w_box (v := .agg #[.func _ _ _]) (cs := [_]) want_none rfl rfl rfl hs5 (fun b6 w7 hs8 => ?_)
  refine w_p (y_assign (v := _) rfl rfl) rfl ?_
  refine w_p (y_assign (v := _) rfl rfl) rfl ?_
  refine w_nil ?_
  refine q_then (hK1 _ _ ?_)
  refine w_seq (fun K10 hK9 => ?_)
  refine w_region ?_
  refine w_makeMap want_none hs8 (fun b11 w12 hs13 => ?_)
  refine w_p (y_move (v := .pointer _) rfl rfl) rfl ?_
  refine w_p (y_nilCheck rfl rfl) rfl ?_
  refine w_p (y_fieldAddr (o := 0) (i := 0) Try.underlying129 rfl Try.sizeOf25 rfl rfl rfl) rfl ?_
  refine w_p (y_fieldAddr (o := 2) (i := 2) Try.underlying25 rfl Try.sizeOf23 rfl rfl rfl) rfl ?_
  refine w_p (yd_slice hbx (y_load1 Try.isAgg23 hs13.tail.tail.tail.drop.drop rfl rfl (show Ats _ _ _ _ [_] from Ats.part hb 2 1))) rfl ?_
  refine w_p (y_move (v := .int _ _) rfl rfl) rfl ?_
  refine w_p (y_indexS Try.underlying23 Try.sizeOf76 rfl rfl rfl rfl (i := c) rfl hc) rfl ?_
  refine w_p (y_fieldAddr (o := 3) (i := 3) Try.underlying76 rfl Try.sizeOf3 rfl rfl rfl) rfl ?_
  refine w_p (y_load1 Try.isAgg3 hs13.tail.tail.tail.drop.drop rfl rfl (show Ats _ _ _ _ [_] from Ats.part hxc 3 1)) rfl ?_
  refine G_insert (i := 0) (a := (ctrOf b c).start) (l := []) want_none Try.underlying150 (keyG_int Try.underlying3) trivial (by simp) rfl rfl rfl rfl rfl rfl hs13 rfl (fun w14 hs15 => ?_)
  refine w_p (y_move (v := .map _) rfl rfl) rfl ?_
  refine w_p (y_assign (v := .map _) rfl rfl) rfl ?_
  refine w_nil ?_
  refine q_then (hK9 _ _ ?_)
  refine w_seq (fun K17 hK16 => ?_)
  refine w_region ?_
  refine w_p (y_move (v := .pointer _) rfl rfl) rfl ?_
  refine w_p (y_makeFunc (fv := [_]) (cv := []) rfl rfl rfl rfl) rfl ?_
  refine w_p (y_assign (v := .func _ _ _) rfl rfl) rfl ?_
  refine w_nil ?_
  refine q_then (hK16 _ _ ?_)
  refine w_seq (fun K19 hK18 => ?_)
  refine w_seq (fun K21 hK20 => ?_)
  refine w_region ?_
  refine w_p (y_move (v := .pointer _) rfl rfl) rfl ?_
  refine w_p (y_nilCheck rfl rfl) rfl ?_
  refine w_p (y_fieldAddr (o := 0) (i := 0) Try.underlying129 rfl Try.sizeOf25 rfl rfl rfl) rfl ?_
  refine w_p (y_fieldAddr (o := 1) (i := 1) Try.underlying25 rfl Try.sizeOf22 rfl rfl rfl) rfl ?_
  refine w_p (y_load1 Try.isAgg22 hs15.tail.tail.tail.drop.drop rfl rfl (show Ats _ _ _ _ [_] from Ats.part hb 1 1)) rfl ?_
  refine w_p (y_lenS Try.underlying22 rfl rfl) rfl ?_
  refine w_p (y_move (v := _) rfl rfl) rfl ?_
  refine w_nil ?_
  refine q_then (hK20 _ _ ?_)
  refine w_block ?_
  refine w_loop [10, 12, 13, 14, 15, 17, 18, 39, 40, 41, 42, 43, 44, 45, 46, 47, 48, 49, 50, 51, 52, 53, 54, 55, 56, 57, 58, 59, 60, 61, 62, 63, 64, 65, 66, 67, 68, 69, 70, 71, 72, 73, 74, 75, 76, 77, 78, 79, 80, 81, 82, 83, 84, 85, 86, 87, 88, 89, 90, 91, 92, 93, 94, 95, 96, 97, 98, 99, 100, 101, 102, 103, 104] [10, 39] (fun kk vs w => ∃ (k mp : Nat) (es : List (Int × Value × Nat)) (ck : Nat) (M : List (Nat × Obj)), vs = [.map (some mp), .int .i64 k] ∧ k ≤ b.hours.length ∧ kk = b.hours.length - k ∧ MOk es ck ∧ KeysOf (es.map (·.1)) (fareTo (ctrOf b c) l q k) ∧ Memo w0 b mm M ∧ St w0 w ((mp, .map (ents kvI es).toArray (ck)) :: (b6, blk 112 [.func (.func fk) f1 cp]) :: (b3, blk 100 (iv l)) :: (X ++ (M ++ F)))) (b.hours.length) ?_ ?_
  ·
   exact ⟨0, _, _, _, M, rfl, by omega, by omega, mok_one, keys_zero (ctrOf b c) l q, hM, hs15⟩
  ·
   intro k vs μ w24 hI K23 hN22
   clear hs hM
   obtain ⟨k, mp, es, ck, M, rfl, hka, rfl, hok, hky, hM, hs⟩ := hI
   refine w_seq (fun K26 hK25 => ?_)
   refine w_region ?_
   refine w_p (y_lss rfl rfl rfl rfl) rfl ?_
   refine w_nil ?_
   refine q_then (hK25 _ _ ?_)
   refine w_seq (fun K28 hK27 => ?_)
   refine w_cond rfl rfl (fun h29 => ?_) (fun h29 => ?_)
   ·
    try simp only [zA, zB, zC, zD, zE, zF] at h29
    refine w_skip ?_
    refine q_then (hK27 _ _ ?_)
    refine w_seq (fun K31 hK30 => ?_)
    refine w_block ?_
    refine w_seq (fun K33 hK32 => ?_)
    refine w_region ?_
    refine w_p (y_move (v := .int _ _) rfl rfl) rfl ?_
    refine w_p (y_assign (v := .int _ _) rfl rfl) rfl ?_
    refine w_nil ?_
    refine q_then (hK32 _ _ ?_)
    refine w_seq (fun K35 hK34 => ?_)
    have hk2 : k < b.hours.length := by omega
    have hmany := keys_many hcok hok.key hky
    have hhok := hk.ok.hour _ (List.getElem_mem hk2)
    have hldk := hld k hk2
    have hldv : ld l k = l.getD k 0 := rfl
    rw [← hour_at hk2] at hhok hldk
    have hh1 := hhok.lo
    have hh2 := hhok.hi
    have hh3 := hhok.le
    refine w_region ?_
    refine w_p (y_move (v := .pointer _) rfl rfl) rfl ?_
    refine w_p (y_nilCheck rfl rfl) rfl ?_
    refine w_p (y_fieldAddr (o := 0) (i := 0) Try.underlying129 rfl Try.sizeOf25 rfl rfl rfl) rfl ?_
    refine w_p (y_fieldAddr (o := 2) (i := 2) Try.underlying25 rfl Try.sizeOf23 rfl rfl rfl) rfl ?_
    refine w_p (yd_slice hbx (y_load1 Try.isAgg23 hs.tail.tail.tail.drop.drop rfl rfl (show Ats _ _ _ _ [_] from Ats.part hb 2 1))) rfl ?_
    refine w_p (y_move (v := .int _ _) rfl rfl) rfl ?_
    refine w_p (y_indexS Try.underlying23 Try.sizeOf76 rfl rfl rfl rfl (i := c) rfl hc) rfl ?_
    refine w_p (y_loadN (vs := [_, _, _, _, _, _]) Try.isAgg76 Try.sizeOf76 hs.tail.tail.tail.drop.drop rfl rfl hxc) rfl ?_
    refine w_makeMap want_none hs (fun b36 w37 hs38 => ?_)
    refine w_alloc (cs := [_, _, _, _, _, _]) want_none Try.zeroValue76 rfl hs38 (fun b39 w40 hs41 => ?_)
    refine w_store (i := 0) (v := .agg #[.string _, .int _ _, .int _ _, .int _ _, .slice _ _ _, .slice _ _ _]) (vs := [_, _, _, _, _, _]) want_none Try.sizeOf76 rfl rfl rfl rfl rfl (by simp [Value.oneCell']) hs41 rfl (Nat.le_of_ble_eq_true rfl) (fun w42 hs43 => ?_)
    refine w_p (y_assign (v := .map _) rfl rfl) rfl ?_
    refine w_nil ?_
    refine q_then (hK34 _ _ ?_)
    refine w_seq (fun K45 hK44 => ?_)
    refine w_seq (fun K47 hK46 => ?_)
    refine w_region ?_
    refine w_p (y_move (v := .map (some mp)) rfl rfl) rfl ?_
    refine w_rangeMap (i := 2) want_none Try.underlying150 rfl rfl hs43 rfl (fun b48 w49 hs50 => ?_)
    refine w_nil ?_
    refine q_then (hK46 _ _ ?_)
    refine w_block ?_
    refine w_loop [15, 17, 18, 53, 54, 55, 56, 57, 58, 59, 60, 61, 62, 63, 64, 65, 66, 67, 68, 69, 70, 71, 72, 73, 74, 75, 76, 77, 78, 79, 80, 81, 82, 83, 84, 85, 86, 87, 88, 89, 90, 91, 92, 93, 94, 95, 96, 97, 98, 99, 100, 101, 102] [] (fun kk vs w => ∃ (seen : Array Nat) (nes : List (Int × Value × Nat)) (nck : Nat) (M : List (Nat × Obj)), vs = [] ∧ kk = remN es seen ∧ MOk nes nck ∧ IntsTo (20 * ((es.length : Int) - (remN es seen : Int))) nes ∧ (∀ z, z ∈ (nes : List (Int × Value × Nat)).map (·.1) ↔ ∃ x ∈ es, x.2.2 ∈ (seen).toList ∧ Ch.Good (ctrOf b c) (hourOf b k) l q k z x.1) ∧ Memo w0 b mm M ∧ St w0 w ((b48, .mapIter (some mp) ck seen ck) :: (b39, blk 76 ((ctrOf b c).cells (p.pc c))) :: (b36, .map (ents kvI nes).toArray (nck)) :: (mp, .map (ents kvI es).toArray (ck)) :: (b6, blk 112 [.func (.func fk) f1 cp]) :: (b3, blk 100 (iv l)) :: (X ++ (M ++ F)))) (es.length) ?_ ?_
    ·
     exact ⟨#[], [], 0, M, rfl, (rem_zero es).symm, mok_nil, ints_nil, keys_none _, hM, hs50⟩
    ·
     intro k vs μ w53 hI K52 hN51
     clear hs hM
     obtain ⟨seen, nes, nck, M, rfl, rfl, hok2, hIn, hky2, hM, hs⟩ := hI
     refine w_seq (fun K55 hK54 => ?_)
     refine w_region ?_
     refine w_nextMap (i := 0) (j := 3) want_none rfl rfl hs rfl rfl hok.born (Nat.le_refl _) (fun r hr hnr w57 hs58 => ?_) (fun hall => ?_)
     ·
      refine w_p (y_extract (v := .bool _) rfl rfl rfl) rfl ?_
      refine w_nil ?_
      refine q_then (hK54 _ _ ?_)
      refine w_seq (fun K60 hK59 => ?_)
      refine w_condT rfl rfl ?_
      refine w_skip ?_
      refine q_then (hK59 _ _ ?_)
      refine w_block ?_
      refine w_seq (fun K62 hK61 => ?_)
      refine w_region ?_
      refine w_p (y_entryG (i := 0) (j := 3) rfl rfl hs58 rfl rfl hr hok.bnd) rfl ?_
      refine w_p (y_extract (v := .int _ _) rfl rfl rfl) rfl ?_
      refine w_p (y_assign (v := .int _ _) rfl rfl) rfl ?_
      refine w_nil ?_
      refine q_then (hK61 _ _ ?_)
      refine w_seq (fun K64 hK63 => ?_)
      have hr2 := key_in hcok hky hr
      have hrm := rem_push hok.bnd hr hnr
      have hrl := rem_le es seen
      have hwl : (waysAt b c k (r.1 % 100)).length ≤ 20 := ways_len hcok hhok
      refine w_region ?_
      refine w_p (y_move (v := .func _ _ _) rfl rfl) rfl ?_
      refine w_p (y_move (v := .int _ _) rfl rfl) rfl ?_
      refine w_p (y_move (v := .int _ _) rfl rfl) rfl ?_
      refine w_p (y_move (v := .int _ _) rfl rfl) rfl ?_
      refine w_p (y_rem rfl rfl rfl rfl (by omega) (by omega)) rfl ?_
      refine w_p (y_build (ps := [(0, _), (1, _), (2, _)]) (pv := [(0, .int _ _), (1, .int _ _), (2, .int _ _)]) rfl rfl (fun w => Try_G_fb2 _ _ _ w)) rfl ?_
      refine w_call want_none Try.call110 rfl rfl rfl rfl (ways_con b p bb mm hk (X := [_, _, _, _, _, _] ++ X) (M := M) c k hc hk2 (r.1 % 100) (by omega) hM (show St _ _ (([_, _, _, _, _, _] ++ X) ++ (M ++ F)) from hs58)) ?_
      rintro _ w66 ⟨M2, x, cap, rfl, hsl, hM2, hs67⟩
      replace hs67 := (show St _ _ (_ :: _ :: _ :: _ :: _ :: _ :: X ++ (M2 ++ (F))) from hs67)
      refine w_p (y_lenS Try.underlying152 rfl rfl) rfl ?_
      refine w_p (y_move (v := _) rfl rfl) rfl ?_
      refine w_nil ?_
      refine q_then (hK63 _ _ ?_)
      refine w_block ?_
      refine w_loop [17, 18, 65, 66, 67, 68, 69, 70, 71, 72, 73, 74, 75, 76, 77, 78, 79, 80, 81, 82, 83, 84, 85, 86, 87, 88, 89, 90, 91, 92, 93, 94, 95, 96, 97, 98, 99, 100, 101, 102] [65] (fun kk vs w => ∃ (j : Nat) (nes : List (Int × Value × Nat)) (nck : Nat), vs = [.int .i64 j] ∧ j ≤ (waysAt b c k (r.1 % 100)).length ∧ kk = (waysAt b c k (r.1 % 100)).length - j ∧ MOk nes nck ∧ IntsTo (20 * ((es.length : Int) - (remN es seen : Int)) + (j : Int)) nes ∧ (∀ z, z ∈ (nes : List (Int × Value × Nat)).map (·.1) ↔ (∃ x ∈ es, x.2.2 ∈ seen.toList ∧ Ch.Good (ctrOf b c) (hourOf b k) l q k z x.1) ∨ GoodL (ctrOf b c) l q k r.1 ((waysAt b c k (r.1 % 100)).take j) z) ∧ St w0 w ((b48, .mapIter (some mp) ck (seen.push r.2.2) ck) :: (b39, blk 76 ((ctrOf b c).cells (p.pc c))) :: (b36, .map (ents kvI nes).toArray (nck)) :: (mp, .map (ents kvI es).toArray (ck)) :: (b6, blk 112 [.func (.func fk) f1 cp]) :: (b3, blk 100 (iv l)) :: (X ++ (M2 ++ F)))) ((waysAt b c k (r.1 % 100)).length) ?_ ?_
      ·
       exact ⟨0, nes, nck, rfl, by omega, by omega, hok2, hIn.le (by omega), keys_start hky2, hs67⟩
      ·
       intro k vs μ w70 hI K69 hN68
       clear hs hky2 hIn hok2
       obtain ⟨j, nes, nck, rfl, hja, rfl, hok2, hIn2, hky2, hs⟩ := hI
       refine w_seq (fun K72 hK71 => ?_)
       refine w_region ?_
       refine w_p (y_lss rfl rfl rfl rfl) rfl ?_
       refine w_nil ?_
       refine q_then (hK71 _ _ ?_)
       refine w_seq (fun K74 hK73 => ?_)
       refine w_cond rfl rfl (fun h75 => ?_) (fun h75 => ?_)
       ·
        try simp only [zA, zB, zC, zD, zE, zF] at h75
        refine w_skip ?_
        refine q_then (hK73 _ _ ?_)
        refine w_seq (fun K77 hK76 => ?_)
        refine w_block ?_
        refine w_seq (fun K79 hK78 => ?_)
        have hj2 : j < (waysAt b c k (r.1 % 100)).length := by omega
        obtain ⟨bw, ow, rfl, hw⟩ := sl_wrows hsl hj2
        have hwin := ways_in hcok.twice ⟨hhok.lo, hhok.hi⟩ (List.getElem_mem hj2)
        refine w_region ?_
        refine w_p (y_indexS Try.underlying152 Try.sizeOf140 rfl rfl rfl rfl (i := j) rfl hj2) rfl ?_
        refine w_p (y_loadN (vs := [_, _, _]) Try.isAgg140 Try.sizeOf140 hs.tail.tail.tail.tail.tail.tail.drop rfl rfl hw.top) rfl ?_
        refine w_alloc (cs := [_, _, _]) want_none Try.zeroValue140 rfl hs (fun b80 w81 hs82 => ?_)
        refine w_store (i := 0) (v := .agg #[.int _ _, .int _ _, .bool _]) (vs := [_, _, _]) want_none Try.sizeOf140 rfl rfl rfl rfl rfl (by simp [Value.oneCell']) hs82 rfl (Nat.le_of_ble_eq_true rfl) (fun w83 hs84 => ?_)
        refine w_nil ?_
        refine q_then (hK78 _ _ ?_)
        refine w_seq (fun K86 hK85 => ?_)
        refine w_seq (fun K88 hK87 => ?_)
        refine w_draw [] [(0, 0), (1, 1), (2, 0), (3, 0), (4, 1), (5, 0), (6, 1), (7, 0), (8, 0), (9, 1), (10, 0), (11, 2), (12, 2)] Try_mo (drawOK_of (by kernel_rfl)) hs84 (fun w89 hs90 => ?_)
        refine d_any rfl want_none rfl (fun _ => (y_fieldAddr (o := 1) (i := 1) Try.underlying76 rfl Try.sizeOf3 rfl rfl rfl)) ?_
        refine d_take rfl want_none rfl hs90 (fun _ hq => (y_load1 Try.isAgg3 hq rfl rfl (ats_own (i := 2) (vs := [_]) rfl rfl))) ?_
        refine d_any rfl want_none rfl (fun _ => (y_neg rfl rfl (by omega) (by omega))) ?_
        refine d_any rfl want_none rfl (fun _ => (y_fieldAddr (o := 2) (i := 2) Try.underlying76 rfl Try.sizeOf3 rfl rfl rfl)) ?_
        refine d_take rfl want_none rfl hs90 (fun _ hq => (y_load1 Try.isAgg3 hq rfl rfl (ats_own (i := 2) (vs := [_]) rfl rfl))) ?_
        refine d_any rfl want_none rfl (fun _ => (y_fieldAddr (o := 0) (i := 0) Try.underlying140 rfl Try.sizeOf3 rfl rfl rfl)) ?_
        refine d_take rfl want_none rfl hs90 (fun _ hq => (y_load1 Try.isAgg3 hq rfl rfl (ats_own (i := 0) (vs := [_]) rfl rfl))) ?_
        refine d_any rfl want_none rfl (fun _ => (y_move (v := .int _ _) rfl rfl)) ?_
        refine d_any rfl want_none rfl (fun _ => (y_indexA Try.underlying100 Try.sizeOf3 rfl rfl rfl rfl (i := k) (by first | rfl | omega) (by omega))) ?_
        refine d_take rfl want_none rfl hs90 (fun _ hq => (y_load1 Try.isAgg3 hq rfl rfl (ats_ints (i := 6) (j := k) rfl (by first | omega | rfl | (simp only [hl4, List.length_map, List.length_set, List.length_append, List.length_take, List.length_drop, List.length_replicate, List.length_cons, List.length_nil] <;> omega))))) ?_
        refine d_any rfl want_none rfl (fun _ => (y_sub rfl rfl rfl rfl (by omega) (by omega))) ?_
        refine d_eff rfl ?_
        refine w_bslice (ps := [(0, _)]) (pv := [(0, .int _ _)]) (cs := [_]) want_none rfl rfl (fun w => Try_G_fb3 _ w) hs90 (fun b91 w92 hs93 => ?_)
        refine w_nil ?_
        refine qn ⟨hs93.tail, ?_⟩
        refine d_eff rfl ?_
        refine w_call want_none Try.call51 rfl rfl rfl rfl (c51 _ _ _ [_] _ (by simp) (sl_own (i := 0) (rows := [[_]]) rfl (by simp) rfl) hs93) ?_
        rintro _ w95 ⟨rfl, hs96⟩
        refine w_nil ?_
        refine qn ⟨hs96.tail, ?_⟩
        refine d_nil ?_
        refine q_then (hK87 _ _ ?_)
        refine w_cond rfl rfl (fun h97 => ?_) (fun h97 => ?_)
        ·
         try simp only [zA, zB, zC, zD, zE, zF] at h97
         refine w_exit ?_
         refine q_then_exit ?_
         refine q_blk_this ?_
         refine q_then (hK76 _ _ ?_)
         refine w_region ?_
         refine w_p (y_add rfl rfl rfl rfl (by omega) (by omega)) rfl ?_
         refine w_p (y_move (v := .int _ _) rfl rfl) rfl ?_
         refine w_nil ?_
         refine q_then (hN68 _ _ (Nx.intro ((waysAt b c k (r.1 % 100)).length - (j + 1)) (by omega) (by repeat (first | exact agree_mix | refine agree_upd rfl ?_ | refine agree_updL rfl ?_ _ | refine agree_mixin rfl ?_)) ?_))
         first
           | exact ⟨j + 1, nes, nck, rfl, by omega, rfl, hok2, hIn2.le (by omega), keys_no hky2 hj2 (fit_not (by assumption)), hs96.tail.tail⟩
           | exact ⟨j + 1, _, _, rfl, by omega, rfl, hok2.put _ _, hIn2.put (by omega) (by omega) _, keys_yes hky2 hj2 (fit_of (by assumption)) (by first | exact kone_a (by omega) | exact kone_b (by assumption) | exact kone_c (by omega) (by assumption)) (fun z => keys_putA), hs96.tail.tail⟩
        ·
         try simp only [zA, zB, zC, zD, zE, zF] at h97
         refine w_skip ?_
         refine q_then (hK85 _ _ ?_)
         refine w_seq (fun K99 hK98 => ?_)
         refine w_region ?_
         refine w_p (y_fieldAddr (o := 1) (i := 1) Try.underlying140 rfl Try.sizeOf3 rfl rfl rfl) rfl ?_
         refine w_p (y_load1 Try.isAgg3 hs96 rfl rfl (ats_own (i := 1) (vs := [_]) rfl rfl)) rfl ?_
         refine w_p (y_assign (v := .int _ _) rfl rfl) rfl ?_
         refine w_nil ?_
         refine q_then (hK98 _ _ ?_)
         refine w_seq (fun K101 hK100 => ?_)
         refine w_seq (fun K103 hK102 => ?_)
         refine w_draw [] [(0, 0), (1, 0), (2, 0), (3, 0), (4, 1), (5, 0), (6, 0), (7, 0), (8, 1), (9, 1), (10, 2), (11, 0)] Try_mo (drawOK_of (by kernel_rfl)) hs96 (fun w104 hs105 => ?_)
         refine d_any rfl want_none rfl (fun _ => (y_move (v := .int _ _) rfl rfl)) ?_
         refine d_any rfl want_none rfl (fun _ => (y_geq rfl rfl rfl rfl)) ?_
         refine d_any rfl want_none rfl (fun _ => (y_move (v := .bool _) rfl rfl)) ?_
         refine d_split (fun h106 => ?_) (fun h106 => ?_)
         ·
          try simp only [zA, zB, zC, zD, zE, zF] at h106
          refine d_skip rfl rfl rfl rfl ?_
          refine d_skip1 rfl rfl rfl rfl hs105 ?_
          refine d_skip rfl rfl rfl rfl ?_
          refine d_skip rfl rfl rfl rfl ?_
          refine d_skip rfl rfl rfl rfl ?_
          refine d_skip1 rfl rfl rfl rfl hs105 ?_
          refine d_skip1 rfl rfl rfl rfl hs105 ?_
          refine d_eff rfl ?_
          refine w_skipop rfl rfl rfl ?_
          refine w_nil ?_
          refine qn ⟨hs105, ?_⟩
          refine d_any rfl want_none rfl (fun _ => (y_pickT (v := _) rfl rfl rfl rfl)) ?_
          refine d_nil ?_
          refine q_then (hK102 _ _ ?_)
          refine w_condT rfl rfl ?_
          refine w_region ?_
          refine w_p (y_move (v := .int _ _) rfl rfl) rfl ?_
          refine w_p (y_add rfl rfl rfl rfl (by omega) (by omega)) rfl ?_
          refine w_p (y_assign (v := .int _ _) rfl rfl) rfl ?_
          refine w_nil ?_
          refine q_then (hK100 _ _ ?_)
          refine w_region ?_
          refine w_p (y_move (v := .map _) rfl rfl) rfl ?_
          refine w_p (y_move (v := .int _ _) rfl rfl) rfl ?_
          have hva := valA_in hIn2 (by omega) (((waysAt b c k (r.1 % 100))[j]'hj2).shows + 100)
          refine w_p (G_lookI (i := 4) (a := ((waysAt b c k (r.1 % 100))[j]'hj2).shows + 100) (l := nes) (B := (20 * ((es.length : Int) - (remN es seen : Int)) + (j : Int))) Try.underlying150 (keyG_int Try.underlying3) trivial (by simp) hIn2 Try.zeroValue3 hs105 rfl rfl rfl rfl rfl) rfl ?_
          refine w_p (y_add rfl rfl rfl rfl (by omega) (by omega)) rfl ?_
          refine G_put (i := 4) (a := ((waysAt b c k (r.1 % 100))[j]'hj2).shows + 100) (l := nes) want_none Try.underlying150 (keyG_int Try.underlying3) trivial (by simp) rfl rfl rfl rfl rfl rfl hs105 rfl (fun w107 hs108 => ?_)
          refine w_nil ?_
          refine q_blk_normal ?_
          refine q_then (hK76 _ _ ?_)
          refine w_region ?_
          refine w_p (y_add rfl rfl rfl rfl (by omega) (by omega)) rfl ?_
          refine w_p (y_move (v := .int _ _) rfl rfl) rfl ?_
          refine w_nil ?_
          refine q_then (hN68 _ _ (Nx.intro ((waysAt b c k (r.1 % 100)).length - (j + 1)) (by omega) (by repeat (first | exact agree_mix | refine agree_upd rfl ?_ | refine agree_updL rfl ?_ _ | refine agree_mixin rfl ?_)) ?_))
          first
            | exact ⟨j + 1, nes, nck, rfl, by omega, rfl, hok2, hIn2.le (by omega), keys_no hky2 hj2 (fit_not (by assumption)), hs108.tail.tail⟩
            | exact ⟨j + 1, _, _, rfl, by omega, rfl, hok2.put _ _, hIn2.put (by omega) (by omega) _, keys_yes hky2 hj2 (fit_of (by assumption)) (by first | exact kone_a (by omega) | exact kone_b (by assumption) | exact kone_c (by omega) (by assumption)) (fun z => keys_putA), hs108.tail.tail⟩
         ·
          try simp only [zA, zB, zC, zD, zE, zF] at h106
          refine d_any rfl (want_yes rfl rfl rfl) rfl (fun _ => (y_fieldAddr (o := 0) (i := 0) Try.underlying112 rfl Try.sizeOf110 rfl rfl rfl)) ?_
          refine d_take rfl (want_yes rfl rfl rfl) rfl hs105 (fun _ hq => (y_load1 Try.isAgg110 hq rfl rfl (ats_own (i := 6) (vs := [_]) rfl rfl))) ?_
          refine d_any rfl (want_yes rfl rfl rfl) rfl (fun _ => (y_move (v := .int _ _) rfl rfl)) ?_
          refine d_any rfl (want_yes rfl rfl rfl) rfl (fun _ => (y_move (v := .int _ _) rfl rfl)) ?_
          refine d_any rfl (want_yes rfl rfl rfl) rfl (fun _ => (y_indexA Try.underlying100 Try.sizeOf3 rfl rfl rfl rfl (i := k) (by first | rfl | omega) (by omega))) ?_
          refine d_take rfl (want_yes rfl rfl rfl) rfl hs105 (fun _ hq => (y_load1 Try.isAgg3 hq rfl rfl (ats_ints (i := 7) (j := k) rfl (by first | omega | rfl | (simp only [hl4, List.length_map, List.length_set, List.length_append, List.length_take, List.length_drop, List.length_replicate, List.length_cons, List.length_nil] <;> omega))))) ?_
          refine d_take rfl (want_yes rfl rfl rfl) rfl hs105 (fun _ hq => (y_loadN (vs := [_, _, _]) Try.isAgg140 Try.sizeOf140 hq rfl rfl (ats_own (i := 1) (vs := [_, _, _]) rfl rfl))) ?_
          refine d_eff rfl ?_
          refine w_callV (want_yes rfl rfl rfl) rfl rfl rfl rfl (hq.at (P := [_, _, _, _, _, _, _, _]) (X := X) (M := M2) k _ ((waysAt b c k (r.1 % 100))[j]'hj2) hs105) ?_
          rintro _ w110 ⟨rfl, hs111⟩
          replace hs111 := (show St _ _ (_ :: _ :: _ :: _ :: _ :: _ :: _ :: _ :: X ++ (M2 ++ (F))) from hs111)
          refine w_nil ?_
          refine qn ⟨hs111, ?_⟩
          refine d_any rfl want_none rfl (fun _ => (y_pickF (v := .bool _) rfl rfl rfl rfl)) ?_
          refine d_nil ?_
          refine q_then (hK102 _ _ ?_)
          refine w_cond rfl rfl (fun h112 => ?_) (fun h112 => ?_)
          ·
           try simp only [zA, zB, zC, zD, zE, zF] at h112
           refine w_region ?_
           refine w_p (y_move (v := .int _ _) rfl rfl) rfl ?_
           refine w_p (y_add rfl rfl rfl rfl (by omega) (by omega)) rfl ?_
           refine w_p (y_assign (v := .int _ _) rfl rfl) rfl ?_
           refine w_nil ?_
           refine q_then (hK100 _ _ ?_)
           refine w_region ?_
           refine w_p (y_move (v := .map _) rfl rfl) rfl ?_
           refine w_p (y_move (v := .int _ _) rfl rfl) rfl ?_
           have hva := valA_in hIn2 (by omega) (((waysAt b c k (r.1 % 100))[j]'hj2).shows + 100)
           refine w_p (G_lookI (i := 4) (a := ((waysAt b c k (r.1 % 100))[j]'hj2).shows + 100) (l := nes) (B := (20 * ((es.length : Int) - (remN es seen : Int)) + (j : Int))) Try.underlying150 (keyG_int Try.underlying3) trivial (by simp) hIn2 Try.zeroValue3 hs111 rfl rfl rfl rfl rfl) rfl ?_
           refine w_p (y_add rfl rfl rfl rfl (by omega) (by omega)) rfl ?_
           refine G_put (i := 4) (a := ((waysAt b c k (r.1 % 100))[j]'hj2).shows + 100) (l := nes) want_none Try.underlying150 (keyG_int Try.underlying3) trivial (by simp) rfl rfl rfl rfl rfl rfl hs111 rfl (fun w113 hs114 => ?_)
           refine w_nil ?_
           refine q_blk_normal ?_
           refine q_then (hK76 _ _ ?_)
           refine w_region ?_
           refine w_p (y_add rfl rfl rfl rfl (by omega) (by omega)) rfl ?_
           refine w_p (y_move (v := .int _ _) rfl rfl) rfl ?_
           refine w_nil ?_
           refine q_then (hN68 _ _ (Nx.intro ((waysAt b c k (r.1 % 100)).length - (j + 1)) (by omega) (by repeat (first | exact agree_mix | refine agree_upd rfl ?_ | refine agree_updL rfl ?_ _ | refine agree_mixin rfl ?_)) ?_))
           first
             | exact ⟨j + 1, nes, nck, rfl, by omega, rfl, hok2, hIn2.le (by omega), keys_no hky2 hj2 (fit_not (by assumption)), hs114.tail.tail⟩
             | exact ⟨j + 1, _, _, rfl, by omega, rfl, hok2.put _ _, hIn2.put (by omega) (by omega) _, keys_yes hky2 hj2 (fit_of (by assumption)) (by first | exact kone_a (by omega) | exact kone_b (by assumption) | exact kone_c (by omega) (by assumption)) (fun z => keys_putA), hs114.tail.tail⟩
          ·
           try simp only [zA, zB, zC, zD, zE, zF] at h112
           refine w_skip ?_
           refine q_then (hK100 _ _ ?_)
           refine w_region ?_
           refine w_p (y_move (v := .map _) rfl rfl) rfl ?_
           refine w_p (y_move (v := .int _ _) rfl rfl) rfl ?_
           have hva := valA_in hIn2 (by omega) (((waysAt b c k (r.1 % 100))[j]'hj2).shows)
           refine w_p (G_lookI (i := 4) (a := ((waysAt b c k (r.1 % 100))[j]'hj2).shows) (l := nes) (B := (20 * ((es.length : Int) - (remN es seen : Int)) + (j : Int))) Try.underlying150 (keyG_int Try.underlying3) trivial (by simp) hIn2 Try.zeroValue3 hs111 rfl rfl rfl rfl rfl) rfl ?_
           refine w_p (y_add rfl rfl rfl rfl (by omega) (by omega)) rfl ?_
           refine G_put (i := 4) (a := ((waysAt b c k (r.1 % 100))[j]'hj2).shows) (l := nes) want_none Try.underlying150 (keyG_int Try.underlying3) trivial (by simp) rfl rfl rfl rfl rfl rfl hs111 rfl (fun w115 hs116 => ?_)
           refine w_nil ?_
           refine q_blk_normal ?_
           refine q_then (hK76 _ _ ?_)
           refine w_region ?_
           refine w_p (y_add rfl rfl rfl rfl (by omega) (by omega)) rfl ?_
           refine w_p (y_move (v := .int _ _) rfl rfl) rfl ?_
           refine w_nil ?_
           refine q_then (hN68 _ _ (Nx.intro ((waysAt b c k (r.1 % 100)).length - (j + 1)) (by omega) (by repeat (first | exact agree_mix | refine agree_upd rfl ?_ | refine agree_updL rfl ?_ _ | refine agree_mixin rfl ?_)) ?_))
           first
             | exact ⟨j + 1, nes, nck, rfl, by omega, rfl, hok2, hIn2.le (by omega), keys_no hky2 hj2 (fit_not (by assumption)), hs116.tail.tail⟩
             | exact ⟨j + 1, _, _, rfl, by omega, rfl, hok2.put _ _, hIn2.put (by omega) (by omega) _, keys_yes hky2 hj2 (fit_of (by assumption)) (by first | exact kone_a (by omega) | exact kone_b (by assumption) | exact kone_c (by omega) (by assumption)) (fun z => keys_putA), hs116.tail.tail⟩
       ·
        try simp only [zA, zB, zC, zD, zE, zF] at h75
        refine w_exit ?_
        refine q_then_exit ?_
        refine q_then_exit ?_
        refine q_blk_this ?_
        refine q_blk_normal ?_
        refine q_then (hN51 _ _ (Nx.intro (remN es (seen.push r.2.2)) (by omega) (by repeat (first | exact agree_mix | refine agree_upd rfl ?_ | refine agree_updL rfl ?_ _ | refine agree_mixin rfl ?_)) ?_))
        exact ⟨seen.push r.2.2, nes, nck, M2, rfl, rfl, hok2, hIn2.le (by omega), keys_round hok.bnd hr (by unfold waysAt at *; omega) hky2, hM2, hs⟩
     ·
      refine w_p (y_extract (v := .bool _) rfl rfl rfl) rfl ?_
      refine w_nil ?_
      refine q_then (hK54 _ _ ?_)
      refine w_seq (fun K118 hK117 => ?_)
      refine w_condF rfl rfl ?_
      refine w_exit ?_
      refine q_then_exit ?_
      refine q_then_exit ?_
      refine q_blk_this ?_
      refine q_then (hK44 _ _ ?_)
      refine w_region ?_
      refine w_p (y_move (v := .map _) rfl rfl) rfl ?_
      refine w_p (y_assign (v := .map _) rfl rfl) rfl ?_
      refine w_nil ?_
      refine q_blk_normal ?_
      refine q_then (hK30 _ _ ?_)
      refine w_region ?_
      refine w_p (y_add rfl rfl rfl rfl (by omega) (by omega)) rfl ?_
      refine w_p (y_move (v := .int _ _) rfl rfl) rfl ?_
      refine w_nil ?_
      refine q_then (hN22 _ _ (Nx.intro (b.hours.length - (k + 1)) (by omega) (by repeat (first | exact agree_mix | refine agree_upd rfl ?_ | refine agree_updL rfl ?_ _ | refine agree_mixin rfl ?_)) ?_))
      exact ⟨k + 1, b36, nes, nck, M, rfl, by omega, rfl, hok2, keys_end hcok hldk hhok.lo hky hall hky2, hM, (swp2 (show St _ _ (_ :: _ :: _) from hs.tail.tail)).tail⟩
   ·
    try simp only [zA, zB, zC, zD, zE, zF] at h29
    refine w_exit ?_
    refine q_then_exit ?_
    refine q_then_exit ?_
    refine q_blk_this ?_
    refine q_then (hK18 _ _ ?_)
    refine w_seq (fun K120 hK119 => ?_)
    refine w_seq (fun K122 hK121 => ?_)
    refine w_region ?_
    refine w_p (y_move (v := .map (some mp)) rfl rfl) rfl ?_
    refine w_rangeMap (i := 0) want_none Try.underlying150 rfl rfl hs rfl (fun b123 w124 hs125 => ?_)
    refine w_nil ?_
    refine q_then (hK121 _ _ ?_)
    refine w_block ?_
    refine w_loop [8, 9, 19, 107, 108, 109, 110, 111, 112, 113, 114, 115, 116, 117, 118, 119, 120] [8, 9] (fun kk vs w => ∃ (seen : Array Nat) (x y : Bool), vs = [.bool x, .bool y] ∧ kk = remN es seen ∧ (x = true ↔ ∃ r ∈ es, r.2.2 ∈ seen.toList ∧ r.1 < 100) ∧ (y = true ↔ ∃ r ∈ es, r.2.2 ∈ seen.toList ∧ 100 ≤ r.1) ∧ St w0 w ((b123, .mapIter (some mp) ck seen ck) :: (mp, .map (ents kvI es).toArray (ck)) :: (b6, blk 112 [.func (.func fk) f1 cp]) :: (b3, blk 100 (iv l)) :: (X ++ (M ++ F)))) (es.length) ?_ ?_
    ·
     exact ⟨#[], false, false, rfl, (rem_zero es).symm, seen_none (fun t => t < 100), seen_none (fun t => 100 ≤ t), hs125⟩
    ·
     intro k vs μ w128 hI K127 hN126
     clear hs
     obtain ⟨seen, x, y, rfl, rfl, hx, hy, hs⟩ := hI
     refine w_seq (fun K130 hK129 => ?_)
     refine w_region ?_
     refine w_nextMap (i := 0) (j := 1) want_none rfl rfl hs rfl rfl hok.born (Nat.le_refl _) (fun r hr hnr w132 hs133 => ?_) (fun hall => ?_)
     ·
      refine w_p (y_extract (v := .bool _) rfl rfl rfl) rfl ?_
      refine w_nil ?_
      refine q_then (hK129 _ _ ?_)
      refine w_seq (fun K135 hK134 => ?_)
      refine w_condT rfl rfl ?_
      refine w_skip ?_
      refine q_then (hK134 _ _ ?_)
      refine w_block ?_
      refine w_seq (fun K137 hK136 => ?_)
      refine w_region ?_
      refine w_p (y_entryG (i := 0) (j := 1) rfl rfl hs133 rfl rfl hr hok.bnd) rfl ?_
      refine w_p (y_extract (v := .int _ _) rfl rfl rfl) rfl ?_
      refine w_p (y_assign (v := .int _ _) rfl rfl) rfl ?_
      refine w_nil ?_
      refine q_then (hK136 _ _ ?_)
      refine w_seq (fun K139 hK138 => ?_)
      refine w_region ?_
      refine w_p (y_move (v := .bool _) rfl rfl) rfl ?_
      refine w_p (y_move (v := .bool _) rfl rfl) rfl ?_
      refine w_split (fun h140 => ?_) (fun h140 => ?_)
      ·
       try simp only [zA, zB, zC, zD, zE, zF] at h140
       refine w_skipop rfl rfl rfl ?_
       refine w_skipop rfl rfl rfl ?_
       refine w_p (y_pickT (v := _) rfl rfl rfl rfl) rfl ?_
       refine w_p (y_assign (v := .bool _) rfl rfl) rfl ?_
       refine w_nil ?_
       refine q_then (hK138 _ _ ?_)
       refine w_region ?_
       refine w_p (y_move (v := .bool _) rfl rfl) rfl ?_
       refine w_p (y_move (v := .bool _) rfl rfl) rfl ?_
       refine w_split (fun h141 => ?_) (fun h141 => ?_)
       ·
        try simp only [zA, zB, zC, zD, zE, zF] at h141
        refine w_skipop rfl rfl rfl ?_
        refine w_skipop rfl rfl rfl ?_
        refine w_p (y_pickT (v := _) rfl rfl rfl rfl) rfl ?_
        refine w_p (y_assign (v := .bool _) rfl rfl) rfl ?_
        refine w_nil ?_
        refine q_blk_normal ?_
        refine q_then (hN126 _ _ (Nx.intro (remN es (seen.push r.2.2)) (by have := rem_push hok.bnd hr hnr; omega) (by repeat (first | exact agree_mix | refine agree_upd rfl ?_ | refine agree_updL rfl ?_ _ | refine agree_mixin rfl ?_)) ?_))
        exact ⟨seen.push r.2.2, _, _, rfl, rfl, seen_or hok.bnd hr (fun t => t < 100) hx (by simp [*]), seen_or hok.bnd hr (fun t => 100 ≤ t) hy (by simp [*]), hs133⟩
       ·
        try simp only [zA, zB, zC, zD, zE, zF] at h141
        refine w_y rfl rfl rfl (y_move (v := .int _ _) rfl rfl) rfl ?_
        refine w_y rfl rfl rfl (y_geq rfl rfl rfl rfl) rfl ?_
        refine w_p (y_pickF (v := .bool _) rfl rfl rfl rfl) rfl ?_
        refine w_p (y_assign (v := .bool _) rfl rfl) rfl ?_
        refine w_nil ?_
        refine q_blk_normal ?_
        refine q_then (hN126 _ _ (Nx.intro (remN es (seen.push r.2.2)) (by have := rem_push hok.bnd hr hnr; omega) (by repeat (first | exact agree_mix | refine agree_upd rfl ?_ | refine agree_updL rfl ?_ _ | refine agree_mixin rfl ?_)) ?_))
        exact ⟨seen.push r.2.2, _, _, rfl, rfl, seen_or hok.bnd hr (fun t => t < 100) hx (by simp [*]), seen_or hok.bnd hr (fun t => 100 ≤ t) hy (by simp [*]), hs133⟩
      ·
       try simp only [zA, zB, zC, zD, zE, zF] at h140
       refine w_y rfl rfl rfl (y_move (v := .int _ _) rfl rfl) rfl ?_
       refine w_y rfl rfl rfl (y_lss rfl rfl rfl rfl) rfl ?_
       refine w_p (y_pickF (v := .bool _) rfl rfl rfl rfl) rfl ?_
       refine w_p (y_assign (v := .bool _) rfl rfl) rfl ?_
       refine w_nil ?_
       refine q_then (hK138 _ _ ?_)
       refine w_region ?_
       refine w_p (y_move (v := .bool _) rfl rfl) rfl ?_
       refine w_p (y_move (v := .bool _) rfl rfl) rfl ?_
       refine w_split (fun h142 => ?_) (fun h142 => ?_)
       ·
        try simp only [zA, zB, zC, zD, zE, zF] at h142
        refine w_skipop rfl rfl rfl ?_
        refine w_skipop rfl rfl rfl ?_
        refine w_p (y_pickT (v := _) rfl rfl rfl rfl) rfl ?_
        refine w_p (y_assign (v := .bool _) rfl rfl) rfl ?_
        refine w_nil ?_
        refine q_blk_normal ?_
        refine q_then (hN126 _ _ (Nx.intro (remN es (seen.push r.2.2)) (by have := rem_push hok.bnd hr hnr; omega) (by repeat (first | exact agree_mix | refine agree_upd rfl ?_ | refine agree_updL rfl ?_ _ | refine agree_mixin rfl ?_)) ?_))
        exact ⟨seen.push r.2.2, _, _, rfl, rfl, seen_or hok.bnd hr (fun t => t < 100) hx (by simp [*]), seen_or hok.bnd hr (fun t => 100 ≤ t) hy (by simp [*]), hs133⟩
       ·
        try simp only [zA, zB, zC, zD, zE, zF] at h142
        refine w_y rfl rfl rfl (y_move (v := .int _ _) rfl rfl) rfl ?_
        refine w_y rfl rfl rfl (y_geq rfl rfl rfl rfl) rfl ?_
        refine w_p (y_pickF (v := .bool _) rfl rfl rfl rfl) rfl ?_
        refine w_p (y_assign (v := .bool _) rfl rfl) rfl ?_
        refine w_nil ?_
        refine q_blk_normal ?_
        refine q_then (hN126 _ _ (Nx.intro (remN es (seen.push r.2.2)) (by have := rem_push hok.bnd hr hnr; omega) (by repeat (first | exact agree_mix | refine agree_upd rfl ?_ | refine agree_updL rfl ?_ _ | refine agree_mixin rfl ?_)) ?_))
        exact ⟨seen.push r.2.2, _, _, rfl, rfl, seen_or hok.bnd hr (fun t => t < 100) hx (by simp [*]), seen_or hok.bnd hr (fun t => 100 ≤ t) hy (by simp [*]), hs133⟩
     ·
      refine w_p (y_extract (v := .bool _) rfl rfl rfl) rfl ?_
      refine w_nil ?_
      refine q_then (hK129 _ _ ?_)
      refine w_seq (fun K144 hK143 => ?_)
      refine w_condF rfl rfl ?_
      refine w_exit ?_
      refine q_then_exit ?_
      refine q_then_exit ?_
      refine q_blk_this ?_
      refine q_then (hK119 _ _ ?_)
      refine w_seq (fun K146 hK145 => ?_)
      refine w_region ?_
      refine w_p (y_move (v := .bool _) rfl rfl) rfl ?_
      refine w_p (y_move (v := .bool _) rfl rfl) rfl ?_
      refine w_p (y_assign (v := .bool _) rfl rfl) rfl ?_
      refine w_p (y_assign (v := .bool _) rfl rfl) rfl ?_
      refine w_nil ?_
      refine q_then (hK145 _ _ ?_)
      refine w_ret ?_
      refine q_ret (l := [.tmp 8, .tmp 9]) (vs := [_, _]) rfl ⟨⟨rfl, show _ = (.bool _ : Value) from rfl⟩, ⟨rfl, show _ = (.bool _ : Value) from rfl⟩, trivial⟩ ?_
      have hkn : k = b.hours.length := by omega
      subst hkn
      exact ⟨M, by rw [not_end hcok hky hall hx, met_end hcok hky hall hy]; rfl, hM, hs.tail.tail.tail.tail⟩

end Go.Proofs
/- Walks of this seat, printed by gen.py over the engine: what each function returns, in whatever world. No conditions but those of each contract. -/
set_option linter.unusedVariables false
set_option linter.unusedSimpArgs false
set_option maxRecDepth 20000
namespace Go.Proofs
open Go.Rt Go.Rt.Ch
open Go.Rt.Ha (firstE firstE_step firstE_stop firstE_end failE nameE felt spanL upto span_mem listL fewest fewTo bit before fewStep drop_lt drop_get drop_next drop_done drop_notin set_take set_zero take_less)
attribute [local irreducible] WL WC Con Yd At Ats Sl Agree DW
theorem Try_flat100 : flatInts Try.prog 100 4 = true := by kernel_rfl
theorem fares_in {w0 w : World} {P X B M F : List (Nat × Obj)} (b : Board) (p : AtB) (bb mm : Nat) (hk : BK w0 F b p bb mm) (c : Nat) (hc : c < b.ctrs.length) (l : List Int) (hl4 : l.length = 4) (hld : ∀ i (hi : i < b.hours.length), b.hours[i].lo ≤ ld l i ∧ ld l i ≤ b.hours[i].hi) (fk : FuncId) (f1 cp : Array Value) (q : Quest) (hq : QIs w0 F (.func (.func fk) f1 cp) q) (hM : Memo w0 b mm M) (hs : St w0 w (P ++ (X ++ (B ++ (M ++ F))))) :
    Con Try.prog 99 [.pointer (some ⟨bb, 0, none⟩), .int .i64 (c : Int), ia l, .agg #[.func (.func fk) f1 cp]] w fun v w' => ∃ M', v = .tuple #[.bool (notF (ctrOf b c) l q b.hours.length), .bool (metF (ctrOf b c) l q b.hours.length)] ∧ Memo w0 b mm M' ∧ St w0 w' (P ++ (X ++ (B ++ (M' ++ F)))) :=
  (c99 b p bb mm hk c hc l hl4 hld fk f1 cp q hq hM (st_in hs)).mono fun _ _ ⟨M', h1, h2, h3⟩ => ⟨M', h1, h2, st_out h3⟩
def NextC (b : Board) (mm bp bl bla bY bn : Nat) (Ls : List (List Int)) (J : Nat → List (Nat × Obj) → Prop) (Js : List (Nat × Obj) → Prop) (yv : Value) (w0 : World) (F : List (Nat × Obj)) (rem : Nat) : Prop :=
  ∀ (d : Nat) (pre cur last : List Int) (i : Nat) (R RF : List (List Int)) (B M X : List (Nat × Obj)) (w : World), d + rem = b.hours.length → pre.length = d → (∀ j (hj : j < b.hours.length), j < d → b.hours[j].lo ≤ ld pre j ∧ ld pre j ≤ b.hours[j].hi) → cur.length = 4 → cur.take d = pre → (∀ j, b.hours.length ≤ j → cur.getD j 0 = 0) → i ≤ Ls.length →
    Ls.drop i = segK b d pre ++ R → last.length = 4 → (segF b d pre ++ RF).Nodup → last ∉ segF b d pre ++ RF → J i B → Memo w0 b mm M → St w0 w ((bn, blk 123 [.func (.func 107) #[] #[.pointer (some ⟨bp, 0, none⟩), .pointer (some ⟨bl, 0, none⟩), .pointer (some ⟨bla, 0, none⟩), .pointer (some ⟨bY, 0, none⟩), .pointer (some ⟨bn, 0, none⟩)]]) :: (bla, blk 100 (iv last)) :: (bl, blk 100 (iv cur)) :: (bY, blk 148 [yv]) :: (X ++ (B ++ (M ++ F)))) →
    Con Try.prog 107 [.int .i64 (d : Int), .pointer (some ⟨bp, 0, none⟩), .pointer (some ⟨bl, 0, none⟩), .pointer (some ⟨bla, 0, none⟩), .pointer (some ⟨bY, 0, none⟩), .pointer (some ⟨bn, 0, none⟩)] w fun v w' => ∃ (cur' last' : List Int) (B' M' : List (Nat × Obj)), cur'.length = 4 ∧ last'.length = 4 ∧ cur'.take d = pre ∧ (∀ j, b.hours.length ≤ j → cur'.getD j 0 = 0) ∧ Memo w0 b mm M' ∧ St w0 w' ((bn, blk 123 [.func (.func 107) #[] #[.pointer (some ⟨bp, 0, none⟩), .pointer (some ⟨bl, 0, none⟩), .pointer (some ⟨bla, 0, none⟩), .pointer (some ⟨bY, 0, none⟩), .pointer (some ⟨bn, 0, none⟩)]]) :: (bla, blk 100 (iv last')) :: (bl, blk 100 (iv cur')) :: (bY, blk 148 [yv]) :: (X ++ (B' ++ (M' ++ F)))) ∧
      ((v = .bool true ∧ ∃ i', i' ≤ Ls.length ∧ Ls.drop i' = R ∧ last' ∉ RF ∧ J i' B') ∨ (v = .bool false ∧ Js B'))
theorem leaf_none {Ls R : List (List Int)} {cur : List Int} {i : Nat} {b : Bool} (hpos : Ls.drop i = (if b = true then [cur] else []) ++ R) (h : b = false) : Ls.drop i = R := by rw [hpos, h]; rfl
theorem leaf_some {Ls R : List (List Int)} {cur : List Int} {i : Nat} {b : Bool} (hpos : Ls.drop i = (if b = true then [cur] else []) ++ R) (h : b = true) : Ls.drop i = cur :: R := by rw [hpos, h]; rfl
theorem fr5 {w0 w : World} {R : List (Nat × Obj)} {a b c e f : Nat × Obj} (hs : St w0 w (a :: b :: c :: e :: f :: R)) : St w0 w (b :: c :: e :: f :: a :: R) := hs.perm (perm_mid [a] [b, c, e, f] R)
theorem bk5 {w0 w : World} {R : List (Nat × Obj)} {a b c e f : Nat × Obj} (hs : St w0 w (b :: c :: e :: f :: a :: R)) : St w0 w (a :: b :: c :: e :: f :: R) := hs.perm (perm_mid [b, c, e, f] [a] R)
theorem c107 {w0 : World} {F : List (Nat × Obj)} (b : Board) (p : AtB) (bb mm : Nat) (hk : BK w0 F b p bb mm)  (bp bl bla bY bn : Nat) (h1 : Ats w0 F bp 0 [.pointer (some ⟨bb, 0, none⟩)]) (Ls : List (List Int)) (J : Nat → List (Nat × Obj) → Prop) (Js : List (Nat × Obj) → Prop) (yv : Value) (hy : ∀ (i : Nat) (x : List Int) (R : List (List Int)) (B M X : List (Nat × Obj)) (w : World), Ls.drop i = x :: R → J i B → Memo w0 b mm M → St w0 w (X ++ (B ++ (M ++ F))) → FCon Try.prog yv [ia x] w fun v w' => ∃ B' M', Memo w0 b mm M' ∧ St w0 w' (X ++ (B' ++ (M' ++ F))) ∧ (v = .bool true ∧ J (i + 1) B' ∨ v = .bool false ∧ Js B')) (rem : Nat) (ih : ∀ r, rem = r + 1 → NextC b mm bp bl bla bY bn Ls J Js yv w0 F r) : NextC b mm bp bl bla bY bn Ls J Js yv w0 F rem := by
  intro d pre cur last i R RF B M X w hdr hpl hpr hcl hkt hz hi hpos hll hnd hlast hJ hM hs
  have hb := hk.l
  have hlh := hk.ok.lh
  have hlc := hk.ok.lc
  refine con_of_wc (n := 77) Try.func107 rfl rfl (Nat.le_of_ble_eq_true rfl) ?_
  refine w_seq (fun K2 hK1 => ?_)
  refine w_region ?_
  refine w_p (y_assign (v := _) rfl rfl) rfl ?_
  refine w_nil ?_
  refine q_then (hK1 _ _ ?_)
  refine w_seq (fun K4 hK3 => ?_)
  refine w_seq (fun K6 hK5 => ?_)
  refine w_region ?_
  refine w_p (y_move (v := .int _ _) rfl rfl) rfl ?_
  refine w_p (y_load1 Try.isAgg95 hs.tail.tail.tail.tail.drop.drop.drop rfl rfl h1) rfl ?_
  refine w_p (y_nilCheck rfl rfl) rfl ?_
  refine w_p (y_fieldAddr (o := 0) (i := 0) Try.underlying129 rfl Try.sizeOf25 rfl rfl rfl) rfl ?_
  refine w_p (y_fieldAddr (o := 1) (i := 1) Try.underlying25 rfl Try.sizeOf22 rfl rfl rfl) rfl ?_
  refine w_p (y_load1 Try.isAgg22 hs.tail.tail.tail.tail.drop.drop.drop rfl rfl (show Ats _ _ _ _ [_] from Ats.part hb 1 1)) rfl ?_
  refine w_p (y_lenS Try.underlying22 rfl rfl) rfl ?_
  refine w_p (y_eql rfl rfl rfl rfl) rfl ?_
  refine w_nil ?_
  refine q_then (hK5 _ _ ?_)
  refine w_cond rfl rfl (fun h7 => ?_) (fun h7 => ?_)
  ·
   try simp only [zA, zB, zC, zD, zE, zF] at h7
   refine w_seq (fun K9 hK8 => ?_)
   refine w_seq (fun K11 hK10 => ?_)
   have hr0 : rem = 0 := by omega
   subst hr0
   have hcur := cur_pad4 hcl hpl (by omega) hkt (by have hdn : d = b.hours.length := (by omega); subst hdn; exact hz)
   have hld : ∀ i (hi : i < b.hours.length), b.hours[i].lo ≤ ld cur i ∧ ld cur i ≤ b.hours[i].hi := fun i hi => by rw [hcur, ld_pad]; exact hpr i hi (by omega)
   have hsp : canL b pre = canL b cur := by rw [hcur, can_pad]
   rw [segK_leaf (by omega), hsp, ← hcur] at hpos
   rw [segF_leaf (by omega), ← hcur] at hlast hnd
   have hne : ¬ cur = last := fun e => hlast (by rw [← e]; exact .head _)
   have hnc : cur ∉ RF := (List.nodup_cons.1 hnd).1
   refine w_region ?_
   refine w_p (y_loadI (i := 2) Try.isAgg100 Try.sizeOf100 (by first | omega | rfl | (simp only [hcl, hll, List.length_map, List.length_set, List.length_append, List.length_take, List.length_drop, List.length_replicate, List.length_cons, List.length_nil] <;> omega)) hs rfl rfl rfl) rfl ?_
   refine w_p (y_loadI (i := 1) Try.isAgg100 Try.sizeOf100 (by first | omega | rfl | (simp only [hcl, hll, List.length_map, List.length_set, List.length_append, List.length_take, List.length_drop, List.length_replicate, List.length_cons, List.length_nil] <;> omega)) hs rfl rfl rfl) rfl ?_
   refine w_p (y_eqFlat (l := _) (m := _) Try.eqGuardType100 Try_flat100 (by first | omega | rfl | (simp only [hcl, hll, List.length_map, List.length_set, List.length_append, List.length_take, List.length_drop, List.length_replicate, List.length_cons, List.length_nil] <;> omega)) (by first | omega | rfl | (simp only [hcl, hll, List.length_map, List.length_set, List.length_append, List.length_take, List.length_drop, List.length_replicate, List.length_cons, List.length_nil] <;> omega)) rfl rfl rfl rfl rfl rfl) rfl ?_
   refine w_nil ?_
   refine q_then (hK10 _ _ ?_)
   refine w_cond rfl rfl (fun h12 => ?_) (fun h12 => ?_)
   ·
    try simp only [zA, zB, zC, zD, zE, zF] at h12
    exact absurd (by assumption) hne
   ·
    try simp only [zA, zB, zC, zD, zE, zF] at h12
    refine w_skip ?_
    refine q_then (hK8 _ _ ?_)
    refine w_seq (fun K14 hK13 => ?_)
    refine w_region ?_
    refine w_p (y_loadI (i := 2) Try.isAgg100 Try.sizeOf100 (by first | omega | rfl | (simp only [hcl, hll, List.length_map, List.length_set, List.length_append, List.length_take, List.length_drop, List.length_replicate, List.length_cons, List.length_nil] <;> omega)) hs rfl rfl rfl) rfl ?_
    refine w_storeI (i := 1) (l := _) want_none Try.sizeOf100 (by first | omega | rfl | (simp only [hcl, hll, List.length_map, List.length_set, List.length_append, List.length_take, List.length_drop, List.length_replicate, List.length_cons, List.length_nil] <;> omega)) rfl rfl rfl rfl rfl hs rfl (by first | omega | rfl | (simp only [hcl, hll, List.length_map, List.length_set, List.length_append, List.length_take, List.length_drop, List.length_replicate, List.length_cons, List.length_nil] <;> omega)) (fun w15 hs16 => ?_)
    refine w_nil ?_
    refine q_then (hK13 _ _ ?_)
    refine w_seq (fun K18 hK17 => ?_)
    refine w_seq (fun K20 hK19 => ?_)
    refine w_region ?_
    refine w_p (y_load1 Try.isAgg95 hs16.tail.tail.tail.tail.drop.drop.drop rfl rfl h1) rfl ?_
    refine w_p (y_nilCheck rfl rfl) rfl ?_
    refine w_p (y_fieldAddr (o := 0) (i := 0) Try.underlying129 rfl Try.sizeOf25 rfl rfl rfl) rfl ?_
    refine w_p (y_fieldAddr (o := 2) (i := 2) Try.underlying25 rfl Try.sizeOf23 rfl rfl rfl) rfl ?_
    refine w_p (y_load1 Try.isAgg23 hs16.tail.tail.tail.tail.drop.drop.drop rfl rfl (show Ats _ _ _ _ [_] from Ats.part hb 2 1)) rfl ?_
    refine w_p (y_lenS Try.underlying23 rfl rfl) rfl ?_
    refine w_p (y_move (v := _) rfl rfl) rfl ?_
    refine w_nil ?_
    refine q_then (hK19 _ _ ?_)
    refine w_block ?_
    refine w_loop [7, 8, 9, 10, 31, 32, 33, 34, 35, 36, 37, 38, 39, 40, 41, 42, 43, 44, 45, 46, 47, 48] [31] (fun k vs w => ∃ (ci : Nat) (M : List (Nat × Obj)), vs = [.int .i64 ci] ∧ ci ≤ b.ctrs.length ∧ k = b.ctrs.length - ci ∧ canTo b cur ci = true ∧ Memo w0 b mm M ∧ St w0 w ((bn, blk 123 [.func (.func 107) #[] #[.pointer (some ⟨bp, 0, none⟩), .pointer (some ⟨bl, 0, none⟩), .pointer (some ⟨bla, 0, none⟩), .pointer (some ⟨bY, 0, none⟩), .pointer (some ⟨bn, 0, none⟩)]]) :: (bla, blk 100 (iv cur)) :: (bl, blk 100 (iv cur)) :: (bY, blk 148 [yv]) :: (X ++ (B ++ (M ++ F))))) (b.ctrs.length) ?_ ?_
    ·
     exact ⟨0, M, rfl, by omega, by omega, rfl, hM, hs16⟩
    ·
     intro k vs μ w23 hI K22 hN21
     clear hs hM
     obtain ⟨ci, M, rfl, hcia, rfl, hct, hM, hs⟩ := hI
     refine w_seq (fun K25 hK24 => ?_)
     refine w_region ?_
     refine w_p (y_lss rfl rfl rfl rfl) rfl ?_
     refine w_nil ?_
     refine q_then (hK24 _ _ ?_)
     refine w_seq (fun K27 hK26 => ?_)
     refine w_cond rfl rfl (fun h28 => ?_) (fun h28 => ?_)
     ·
      try simp only [zA, zB, zC, zD, zE, zF] at h28
      refine w_skip ?_
      refine q_then (hK26 _ _ ?_)
      refine w_seq (fun K30 hK29 => ?_)
      refine w_block ?_
      refine w_seq (fun K32 hK31 => ?_)
      refine w_region ?_
      refine w_p (y_move (v := .int _ _) rfl rfl) rfl ?_
      refine w_p (y_assign (v := .int _ _) rfl rfl) rfl ?_
      refine w_nil ?_
      refine q_then (hK31 _ _ ?_)
      refine w_seq (fun K34 hK33 => ?_)
      have hci2 : ci < b.ctrs.length := by omega
      refine w_drawC (C := fun w => ∃ M, Memo w0 b mm M ∧ St w0 w ((bn, blk 123 [.func (.func 107) #[] #[.pointer (some ⟨bp, 0, none⟩), .pointer (some ⟨bl, 0, none⟩), .pointer (some ⟨bla, 0, none⟩), .pointer (some ⟨bY, 0, none⟩), .pointer (some ⟨bn, 0, none⟩)]]) :: (bla, blk 100 (iv cur)) :: (bl, blk 100 (iv cur)) :: (bY, blk 148 [yv]) :: (X ++ (B ++ (M ++ F))))) [] [(0, 1), (1, 0), (2, 1), (3, 2), (4, 2), (5, 0), (6, 0), (7, 0), (8, 0), (9, 0)] Try_mo (drawOK_of (by kernel_rfl)) ⟨_, hM, hs⟩ (fun _ ⟨M, h1, h2⟩ => ⟨M, h1, h2.drew⟩) (fun w35 ⟨M, hM, hs36⟩ => ?_)
      refine d_takeC rfl want_none rfl ⟨_, hM, hs36⟩ (fun _ ⟨M, hM, hq⟩ => (y_load1 Try.isAgg95 hq.tail.tail.tail.tail.drop.drop.drop rfl rfl h1)) ?_
      refine d_any rfl want_none rfl (fun _ => (y_move (v := .int _ _) rfl rfl)) ?_
      refine d_takeC rfl want_none rfl ⟨_, hM, hs36⟩ (fun _ ⟨M, hM, hq⟩ => (y_loadI (i := 2) Try.isAgg100 Try.sizeOf100 (by first | omega | rfl | (simp only [hcl, hll, List.length_map, List.length_set, List.length_append, List.length_take, List.length_drop, List.length_replicate, List.length_cons, List.length_nil] <;> omega)) hq rfl rfl rfl)) ?_
      refine d_eff rfl ?_
      refine w_call want_none Try.call73 rfl rfl rfl rfl (c73 hs36) ?_
      rintro _ w38 ⟨rfl, hs39⟩
      refine w_nil ?_
      refine qn ⟨⟨_, hM, hs39⟩, ?_⟩
      refine d_eff rfl ?_
      refine w_call want_none Try.call99 rfl rfl rfl rfl (fares_in b p bb mm hk (P := [_, _, _, _]) (X := X) (B := B) (M := M) ci hci2 cur hcl hld 100 #[] #[] slips qis_slips hM hs39) ?_
      rintro _ w41 ⟨M2, rfl, hM2, hs42⟩
      replace hs42 := (show St _ _ (_ :: _ :: _ :: _ :: X ++ (B ++ (M2 ++ (F)))) from hs42)
      refine w_nil ?_
      refine qn ⟨⟨_, hM2, hs42⟩, ?_⟩
      refine d_any rfl want_none rfl (fun _ => (y_move (v := .tuple _) rfl rfl)) ?_
      refine d_any rfl want_none rfl (fun _ => (y_extract (v := .bool _) rfl rfl rfl)) ?_
      refine d_any rfl want_none rfl (fun _ => (y_extract (v := .bool _) rfl rfl rfl)) ?_
      refine d_any rfl want_none rfl (fun _ => (y_assign (v := .bool _) rfl rfl)) ?_
      refine d_any rfl want_none rfl (fun _ => (y_assign (v := .bool _) rfl rfl)) ?_
      refine d_nil ?_
      refine q_then (hK33 _ _ ?_)
      refine w_seq (fun K44 hK43 => ?_)
      refine w_region ?_
      refine w_p (y_move (v := .bool _) rfl rfl) rfl ?_
      refine w_p (y_not rfl rfl) rfl ?_
      refine w_p (y_move (v := .bool _) rfl rfl) rfl ?_
      refine w_split (fun h45 => ?_) (fun h45 => ?_)
      ·
       try simp only [zA, zB, zC, zD, zE, zF] at h45
       refine w_y rfl rfl rfl (y_move (v := .bool _) rfl rfl) rfl ?_
       refine w_y rfl rfl rfl (y_not rfl rfl) rfl ?_
       refine w_p (y_pickT (v := .bool _) rfl rfl rfl rfl) rfl ?_
       refine w_nil ?_
       refine q_then (hK43 _ _ ?_)
       refine w_cond rfl rfl (fun h46 => ?_) (fun h46 => ?_)
       ·
        try simp only [zA, zB, zC, zD, zE, zF] at h46
        refine w_seq (fun K48 hK47 => ?_)
        refine w_region ?_
        refine w_p (y_assign (v := _) rfl rfl) rfl ?_
        refine w_nil ?_
        refine q_then (hK47 _ _ ?_)
        refine w_ret ?_
        refine q_blk_ret ?_
        refine q_then_ret ?_
        refine q_then_ret ?_
        refine q_blk_ret ?_
        refine q_then_ret ?_
        refine q_then_ret ?_
        refine q_ret (l := [.tmp 7]) (vs := [_]) rfl ⟨⟨rfl, show _ = (.bool _ : Value) from rfl⟩, trivial⟩ ?_
        first
          | exact ⟨cur, cur, B, M2, hcl, hcl, hkt, hz, hM2, hs42, .inl ⟨rfl, i, hi, leaf_none hpos (can_n hci2 (by assumption) (by assumption)), hnc, hJ⟩⟩
          | exact ⟨cur, cur, B1, M1, hcl, hcl, hkt, hz, hM1, hs42, .inl ⟨rfl, i + 1, drop_lt hpos2, drop_next hpos2, hnc, hJ1⟩⟩
          | exact ⟨cur, cur, B1, M1, hcl, hcl, hkt, hz, hM1, hs42, .inr ⟨rfl, hJ1⟩⟩
          | exact ⟨cur2, last2, B2, M3, hc2, hl2, take_less hk2 hpl, hz2, hM3, hs42, .inr ⟨rfl, hJ2⟩⟩
          | (rw [restK_done (by omega), List.nil_append] at hpos
             rw [restF_done (by omega), List.nil_append] at hlast
             exact ⟨cur, last, B, M, hcl, hll, hkt, hz, hM, hs42, .inl ⟨rfl, i, hi, hpos, hlast, hJ⟩⟩)
       ·
        try simp only [zA, zB, zC, zD, zE, zF] at h46
        refine w_skip ?_
        refine q_blk_normal ?_
        refine q_then (hK29 _ _ ?_)
        refine w_region ?_
        refine w_p (y_add rfl rfl rfl rfl (by omega) (by omega)) rfl ?_
        refine w_p (y_move (v := .int _ _) rfl rfl) rfl ?_
        refine w_nil ?_
        refine q_then (hN21 _ _ (Nx.intro (b.ctrs.length - (ci + 1)) (by omega) (by repeat (first | exact agree_mix | refine agree_upd rfl ?_ | refine agree_updL rfl ?_ _ | refine agree_mixin rfl ?_)) ?_))
        exact ⟨ci + 1, M2, rfl, by omega, rfl, canTo_y hci2 hct (by first | exact .inl (by assumption) | exact .inr (by assumption)), hM2, hs42⟩
      ·
       try simp only [zA, zB, zC, zD, zE, zF] at h45
       refine w_skipop rfl rfl rfl ?_
       refine w_skipop rfl rfl rfl ?_
       refine w_p (y_pickF (v := _) rfl rfl rfl rfl) rfl ?_
       refine w_nil ?_
       refine q_then (hK43 _ _ ?_)
       refine w_condF rfl rfl ?_
       refine w_skip ?_
       refine q_blk_normal ?_
       refine q_then (hK29 _ _ ?_)
       refine w_region ?_
       refine w_p (y_add rfl rfl rfl rfl (by omega) (by omega)) rfl ?_
       refine w_p (y_move (v := .int _ _) rfl rfl) rfl ?_
       refine w_nil ?_
       refine q_then (hN21 _ _ (Nx.intro (b.ctrs.length - (ci + 1)) (by omega) (by repeat (first | exact agree_mix | refine agree_upd rfl ?_ | refine agree_updL rfl ?_ _ | refine agree_mixin rfl ?_)) ?_))
       exact ⟨ci + 1, M2, rfl, by omega, rfl, canTo_y hci2 hct (by first | exact .inl (by assumption) | exact .inr (by assumption)), hM2, hs42⟩
     ·
      try simp only [zA, zB, zC, zD, zE, zF] at h28
      refine w_exit ?_
      refine q_then_exit ?_
      refine q_then_exit ?_
      refine q_blk_this ?_
      refine q_then (hK17 _ _ ?_)
      refine w_seq (fun K50 hK49 => ?_)
      have hpos2 := leaf_some hpos (canTo_all (by omega) hct)
      refine w_region ?_
      refine w_p (y_load1 Try.isAgg148 hs rfl rfl (ats_own (i := 3) (vs := [_]) rfl rfl)) rfl ?_
      refine w_p (y_loadI (i := 2) Try.isAgg100 Try.sizeOf100 (by first | omega | rfl | (simp only [hcl, hll, List.length_map, List.length_set, List.length_append, List.length_take, List.length_drop, List.length_replicate, List.length_cons, List.length_nil] <;> omega)) hs rfl rfl rfl) rfl ?_
      refine w_callV want_none rfl rfl rfl rfl (hy i _ R B M (_ :: _ :: _ :: _ :: X) _ hpos2 hJ hM hs) ?_
      rintro _ w52 ⟨B1, M1, hM1, hs53, (⟨rfl, hJ1⟩ | ⟨rfl, hJ1⟩)⟩
      ·
       replace hs53 := (show St _ _ (_ :: _ :: _ :: _ :: X ++ (B1 ++ (M1 ++ (F)))) from hs53)
       refine w_p (y_assign (v := .bool _) rfl rfl) rfl ?_
       refine w_nil ?_
       refine q_then (hK49 _ _ ?_)
       refine w_ret ?_
       refine q_then_ret ?_
       refine q_ret (l := [.tmp 7]) (vs := [_]) rfl ⟨⟨rfl, show _ = (.bool _ : Value) from rfl⟩, trivial⟩ ?_
       first
         | exact ⟨cur, cur, B, M2, hcl, hcl, hkt, hz, hM2, hs53, .inl ⟨rfl, i, hi, leaf_none hpos (can_n hci2 (by assumption) (by assumption)), hnc, hJ⟩⟩
         | exact ⟨cur, cur, B1, M1, hcl, hcl, hkt, hz, hM1, hs53, .inl ⟨rfl, i + 1, drop_lt hpos2, drop_next hpos2, hnc, hJ1⟩⟩
         | exact ⟨cur, cur, B1, M1, hcl, hcl, hkt, hz, hM1, hs53, .inr ⟨rfl, hJ1⟩⟩
         | exact ⟨cur2, last2, B2, M3, hc2, hl2, take_less hk2 hpl, hz2, hM3, hs53, .inr ⟨rfl, hJ2⟩⟩
         | (rw [restK_done (by omega), List.nil_append] at hpos
            rw [restF_done (by omega), List.nil_append] at hlast
            exact ⟨cur, last, B, M, hcl, hll, hkt, hz, hM, hs53, .inl ⟨rfl, i, hi, hpos, hlast, hJ⟩⟩)
      ·
       replace hs53 := (show St _ _ (_ :: _ :: _ :: _ :: X ++ (B1 ++ (M1 ++ (F)))) from hs53)
       refine w_p (y_assign (v := .bool _) rfl rfl) rfl ?_
       refine w_nil ?_
       refine q_then (hK49 _ _ ?_)
       refine w_ret ?_
       refine q_then_ret ?_
       refine q_ret (l := [.tmp 7]) (vs := [_]) rfl ⟨⟨rfl, show _ = (.bool _ : Value) from rfl⟩, trivial⟩ ?_
       first
         | exact ⟨cur, cur, B, M2, hcl, hcl, hkt, hz, hM2, hs53, .inl ⟨rfl, i, hi, leaf_none hpos (can_n hci2 (by assumption) (by assumption)), hnc, hJ⟩⟩
         | exact ⟨cur, cur, B1, M1, hcl, hcl, hkt, hz, hM1, hs53, .inl ⟨rfl, i + 1, drop_lt hpos2, drop_next hpos2, hnc, hJ1⟩⟩
         | exact ⟨cur, cur, B1, M1, hcl, hcl, hkt, hz, hM1, hs53, .inr ⟨rfl, hJ1⟩⟩
         | exact ⟨cur2, last2, B2, M3, hc2, hl2, take_less hk2 hpl, hz2, hM3, hs53, .inr ⟨rfl, hJ2⟩⟩
         | (rw [restK_done (by omega), List.nil_append] at hpos
            rw [restF_done (by omega), List.nil_append] at hlast
            exact ⟨cur, last, B, M, hcl, hll, hkt, hz, hM, hs53, .inl ⟨rfl, i, hi, hpos, hlast, hJ⟩⟩)
  ·
   try simp only [zA, zB, zC, zD, zE, zF] at h7
   refine w_skip ?_
   refine q_then (hK3 _ _ ?_)
   refine w_seq (fun K55 hK54 => ?_)
   obtain ⟨r, rfl⟩ : ∃ r, rem = r + 1 := ⟨rem - 1, by omega⟩
   have ih2 := ih r rfl
   have hd2 : d < b.hours.length := by omega
   rw [segK_node hd2] at hpos
   rw [segF_node hd2] at hlast hnd
   have hhok := hk.ok.hour _ (List.getElem_mem hd2)
   have hh1 := hhok.lo
   have hh2 := hhok.hi
   have hh3 := hhok.le
   obtain ⟨bx, ox, hbx, hx⟩ := sl_hrows hk.i.h hd2
   refine w_region ?_
   refine w_p (y_load1 Try.isAgg95 hs.tail.tail.tail.tail.drop.drop.drop rfl rfl h1) rfl ?_
   refine w_p (y_nilCheck rfl rfl) rfl ?_
   refine w_p (y_fieldAddr (o := 0) (i := 0) Try.underlying129 rfl Try.sizeOf25 rfl rfl rfl) rfl ?_
   refine w_p (y_fieldAddr (o := 1) (i := 1) Try.underlying25 rfl Try.sizeOf22 rfl rfl rfl) rfl ?_
   refine w_p (yd_slice hbx (y_load1 Try.isAgg22 hs.tail.tail.tail.tail.drop.drop.drop rfl rfl (show Ats _ _ _ _ [_] from Ats.part hb 1 1))) rfl ?_
   refine w_p (y_move (v := .int _ _) rfl rfl) rfl ?_
   refine w_p (y_indexS Try.underlying22 Try.sizeOf70 rfl rfl rfl rfl (i := d) rfl hd2) rfl ?_
   refine w_p (y_fieldAddr (o := 1) (i := 1) Try.underlying70 rfl Try.sizeOf31 rfl rfl rfl) rfl ?_
   refine w_p (y_loadN (vs := [_, _]) Try.isAgg31 Try.sizeOf31 hs.tail.tail.tail.tail.drop.drop.drop rfl rfl (show Ats _ _ _ _ [_, _] from Ats.part hx 1 2)) rfl ?_
   refine w_alloc (cs := [_, _]) want_none Try.zeroValue31 rfl hs (fun b56 w57 hs58 => ?_)
   refine w_store (i := 0) (v := .agg #[.int _ _, .int _ _]) (vs := [_, _]) want_none Try.sizeOf31 rfl rfl rfl rfl rfl (by simp [Value.oneCell']) hs58 rfl (Nat.le_of_ble_eq_true rfl) (fun w59 hs60 => ?_)
   refine w_nil ?_
   refine q_then (hK54 _ _ ?_)
   refine w_seq (fun K62 hK61 => ?_)
   refine w_seq (fun K64 hK63 => ?_)
   refine w_region ?_
   refine w_p (y_fieldAddr (o := 0) (i := 0) Try.underlying31 rfl Try.sizeOf3 rfl rfl rfl) rfl ?_
   refine w_p (y_load1 Try.isAgg3 hs60 rfl rfl (ats_own (i := 0) (vs := [_]) rfl rfl)) rfl ?_
   refine w_p (y_assign (v := .int _ _) rfl rfl) rfl ?_
   refine w_nil ?_
   refine q_then (hK63 _ _ ?_)
   refine w_block ?_
   refine w_loop [7, 12, 63, 64, 65, 66, 67, 68, 69, 70, 71, 72, 73, 74, 75, 76] [12] (fun k vs w => ∃ (q : Nat) (cur last : List Int) (i : Nat) (B M : List (Nat × Obj)), vs = [.int .i64 ((b.hours[d]'hd2).lo + q)] ∧ (q : Int) ≤ (b.hours[d]'hd2).hi + 1 - (b.hours[d]'hd2).lo ∧ k = ((b.hours[d]'hd2).hi + 1 - (b.hours[d]'hd2).lo).toNat - q ∧ cur.length = 4 ∧ last.length = 4 ∧ cur.take d = pre ∧ (∀ j, b.hours.length ≤ j → cur.getD j 0 = 0) ∧ i ≤ Ls.length ∧ Ls.drop i = restK b d pre (upto ((b.hours[d]'hd2).lo + q) (((b.hours[d]'hd2).hi + 1 - (b.hours[d]'hd2).lo).toNat - q)) ++ R ∧ (restF b d pre (upto ((b.hours[d]'hd2).lo + q) (((b.hours[d]'hd2).hi + 1 - (b.hours[d]'hd2).lo).toNat - q)) ++ RF).Nodup ∧ last ∉ restF b d pre (upto ((b.hours[d]'hd2).lo + q) (((b.hours[d]'hd2).hi + 1 - (b.hours[d]'hd2).lo).toNat - q)) ++ RF ∧ J i B ∧ Memo w0 b mm M ∧ St w0 w ((b56, blk 31 [.int .i64 (b.hours[d]'hd2).lo, .int .i64 (b.hours[d]'hd2).hi]) :: (bn, blk 123 [.func (.func 107) #[] #[.pointer (some ⟨bp, 0, none⟩), .pointer (some ⟨bl, 0, none⟩), .pointer (some ⟨bla, 0, none⟩), .pointer (some ⟨bY, 0, none⟩), .pointer (some ⟨bn, 0, none⟩)]]) :: (bla, blk 100 (iv last)) :: (bl, blk 100 (iv cur)) :: (bY, blk 148 [yv]) :: (X ++ (B ++ (M ++ F))))) (((b.hours[d]'hd2).hi + 1 - (b.hours[d]'hd2).lo).toNat) ?_ ?_
   ·
    exact ⟨0, cur, last, i, B, M, iv1 (by omega), by omega, by omega, hcl, hll, hkt, hz, hi, by rw [show (b.hours[d]'hd2).lo + ((0 : Nat) : Int) = (b.hours[d]'hd2).lo by omega, Nat.sub_zero]; exact hpos, by rw [show (b.hours[d]'hd2).lo + ((0 : Nat) : Int) = (b.hours[d]'hd2).lo by omega, Nat.sub_zero]; exact hnd, by rw [show (b.hours[d]'hd2).lo + ((0 : Nat) : Int) = (b.hours[d]'hd2).lo by omega, Nat.sub_zero]; exact hlast, hJ, hM, hs60⟩
   ·
    intro k vs μ w67 hI K66 hN65
    clear hkt hz hi hpos hll hlast hnd hJ hs hcl hM
    obtain ⟨q, cur, last, i, B, M, rfl, hq, rfl, hcl, hll, hkt, hz, hi, hpos, hnd, hlast, hJ, hM, hs⟩ := hI
    refine w_seq (fun K69 hK68 => ?_)
    refine w_seq (fun K71 hK70 => ?_)
    refine w_region ?_
    refine w_p (y_move (v := .int _ _) rfl rfl) rfl ?_
    refine w_p (y_fieldAddr (o := 1) (i := 1) Try.underlying31 rfl Try.sizeOf3 rfl rfl rfl) rfl ?_
    refine w_p (y_load1 Try.isAgg3 hs rfl rfl (ats_own (i := 0) (vs := [_]) rfl rfl)) rfl ?_
    refine w_p (y_leq rfl rfl rfl rfl) rfl ?_
    refine w_nil ?_
    refine q_then (hK70 _ _ ?_)
    refine w_cond rfl rfl (fun h72 => ?_) (fun h72 => ?_)
    ·
     try simp only [zA, zB, zC, zD, zE, zF] at h72
     refine w_skip ?_
     refine q_then (hK68 _ _ ?_)
     refine w_seq (fun K74 hK73 => ?_)
     refine w_block ?_
     refine w_seq (fun K76 hK75 => ?_)
     refine w_region ?_
     refine w_p (y_move (v := .int _ _) rfl rfl) rfl ?_
     refine w_p (y_move (v := .int _ _) rfl rfl) rfl ?_
     refine w_p (y_indexA Try.underlying100 Try.sizeOf3 rfl rfl rfl rfl (i := d) (by first | rfl | omega) (by omega)) rfl ?_
     refine w_storeAtI (i := 3) (j := d) want_none Try.sizeOf3 rfl rfl rfl rfl hs rfl (by first | omega | rfl | (simp only [hcl, hll, List.length_map, List.length_set, List.length_append, List.length_take, List.length_drop, List.length_replicate, List.length_cons, List.length_nil] <;> omega)) (fun w77 hs78 => ?_)
     refine w_nil ?_
     refine q_then (hK75 _ _ ?_)
     refine w_seq (fun K80 hK79 => ?_)
     refine w_region ?_
     refine w_p (y_load1 Try.isAgg123 hs78 rfl rfl (ats_own (i := 1) (vs := [_]) rfl rfl)) rfl ?_
     refine w_p (y_move (v := .int _ _) rfl rfl) rfl ?_
     refine w_p (y_add rfl rfl rfl rfl (by omega) (by omega)) rfl ?_
     refine w_call want_none Try.call107 rfl rfl rfl rfl (ih2 (d + 1) (pre ++ [(b.hours[d]'hd2).lo + (q : Int)]) _ last i _ _ B M (_ :: X) _ (by omega) (by simp; omega) (pre_next hd2 hpl hpr (by omega)) (by rw [List.length_set]; exact hcl) (set_take hkt (by omega)) (set_zero (by omega) hz) hi (by rw [restK_next (by omega), List.append_assoc] at hpos; exact hpos) hll (by rw [restF_next (by omega), List.append_assoc] at hnd; exact hnd) (by rw [restF_next (by omega), List.append_assoc] at hlast; exact hlast) hJ hM (fr5 hs78)) ?_
     rintro _ w82 ⟨cur2, last2, B2, M3, hc2, hl2, hk2, hz2, hM3, hs83, (⟨rfl, i2, hi2, hp2, hn2, hJ2⟩ | ⟨rfl, hJ2⟩)⟩
     ·
      replace hs83 := bk5 (show St _ _ (_ :: _ :: _ :: _ :: _ :: (X ++ (B2 ++ (M3 ++ F)))) from hs83)
      refine w_p (y_not rfl rfl) rfl ?_
      refine w_nil ?_
      refine q_then (hK79 _ _ ?_)
      refine w_condF rfl rfl ?_
      refine w_skip ?_
      refine q_blk_normal ?_
      refine q_then (hK73 _ _ ?_)
      refine w_region ?_
      refine w_p (y_move (v := .int _ _) rfl rfl) rfl ?_
      refine w_p (y_add rfl rfl rfl rfl (by omega) (by omega)) rfl ?_
      refine w_p (y_assign (v := .int _ _) rfl rfl) rfl ?_
      refine w_nil ?_
      refine q_then (hN65 _ _ (Nx.intro (((b.hours[d]'hd2).hi + 1 - (b.hours[d]'hd2).lo).toNat - (q + 1)) (by omega) (by repeat (first | exact agree_mix | refine agree_upd rfl ?_ | refine agree_updL rfl ?_ _ | refine agree_mixin rfl ?_)) ?_))
      exact ⟨q + 1, cur2, last2, i2, B2, M3, iv1 (by omega), by omega, rfl, hc2, hl2, take_less hk2 hpl, hz2, hi2, hp2, (by rw [restF_next (by omega), List.append_assoc] at hnd; exact (List.nodup_append.1 hnd).2.1), hn2, hJ2, hM3, hs83⟩
     ·
      replace hs83 := bk5 (show St _ _ (_ :: _ :: _ :: _ :: _ :: (X ++ (B2 ++ (M3 ++ F)))) from hs83)
      refine w_p (y_not rfl rfl) rfl ?_
      refine w_nil ?_
      refine q_then (hK79 _ _ ?_)
      refine w_condT rfl rfl ?_
      refine w_seq (fun K85 hK84 => ?_)
      refine w_region ?_
      refine w_p (y_assign (v := _) rfl rfl) rfl ?_
      refine w_nil ?_
      refine q_then (hK84 _ _ ?_)
      refine w_ret ?_
      refine q_blk_ret ?_
      refine q_then_ret ?_
      refine q_then_ret ?_
      refine q_blk_ret ?_
      refine q_then_ret ?_
      refine q_ret (l := [.tmp 7]) (vs := [_]) rfl ⟨⟨rfl, show _ = (.bool _ : Value) from rfl⟩, trivial⟩ ?_
      first
        | exact ⟨cur, cur, B, M2, hcl, hcl, hkt, hz, hM2, hs83.tail, .inl ⟨rfl, i, hi, leaf_none hpos (can_n hci2 (by assumption) (by assumption)), hnc, hJ⟩⟩
        | exact ⟨cur, cur, B1, M1, hcl, hcl, hkt, hz, hM1, hs83.tail, .inl ⟨rfl, i + 1, drop_lt hpos2, drop_next hpos2, hnc, hJ1⟩⟩
        | exact ⟨cur, cur, B1, M1, hcl, hcl, hkt, hz, hM1, hs83.tail, .inr ⟨rfl, hJ1⟩⟩
        | exact ⟨cur2, last2, B2, M3, hc2, hl2, take_less hk2 hpl, hz2, hM3, hs83.tail, .inr ⟨rfl, hJ2⟩⟩
        | (rw [restK_done (by omega), List.nil_append] at hpos
           rw [restF_done (by omega), List.nil_append] at hlast
           exact ⟨cur, last, B, M, hcl, hll, hkt, hz, hM, hs83.tail, .inl ⟨rfl, i, hi, hpos, hlast, hJ⟩⟩)
    ·
     try simp only [zA, zB, zC, zD, zE, zF] at h72
     refine w_exit ?_
     refine q_then_exit ?_
     refine q_then_exit ?_
     refine q_blk_this ?_
     refine q_then (hK61 _ _ ?_)
     refine w_seq (fun K87 hK86 => ?_)
     refine w_region ?_
     refine w_p (y_assign (v := _) rfl rfl) rfl ?_
     refine w_nil ?_
     refine q_then (hK86 _ _ ?_)
     refine w_ret ?_
     refine q_ret (l := [.tmp 7]) (vs := [_]) rfl ⟨⟨rfl, show _ = (.bool _ : Value) from rfl⟩, trivial⟩ ?_
     first
       | exact ⟨cur, cur, B, M2, hcl, hcl, hkt, hz, hM2, hs.tail, .inl ⟨rfl, i, hi, leaf_none hpos (can_n hci2 (by assumption) (by assumption)), hnc, hJ⟩⟩
       | exact ⟨cur, cur, B1, M1, hcl, hcl, hkt, hz, hM1, hs.tail, .inl ⟨rfl, i + 1, drop_lt hpos2, drop_next hpos2, hnc, hJ1⟩⟩
       | exact ⟨cur, cur, B1, M1, hcl, hcl, hkt, hz, hM1, hs.tail, .inr ⟨rfl, hJ1⟩⟩
       | exact ⟨cur2, last2, B2, M3, hc2, hl2, take_less hk2 hpl, hz2, hM3, hs.tail, .inr ⟨rfl, hJ2⟩⟩
       | (rw [restK_done (by omega), List.nil_append] at hpos
          rw [restF_done (by omega), List.nil_append] at hlast
          exact ⟨cur, last, B, M, hcl, hll, hkt, hz, hM, hs.tail, .inl ⟨rfl, i, hi, hpos, hlast, hJ⟩⟩)

end Go.Proofs
/- Walks of this seat, printed by gen.py over the engine: what each function returns, in whatever world. No conditions but those of each contract. -/
set_option linter.unusedVariables false
set_option linter.unusedSimpArgs false
set_option maxRecDepth 20000
namespace Go.Proofs
open Go.Rt Go.Rt.Ch
open Go.Rt.Ha (firstE firstE_step firstE_stop firstE_end failE nameE felt spanL upto span_mem listL fewest fewTo bit before fewStep drop_lt drop_get drop_next drop_done drop_notin set_take set_zero take_less)
attribute [local irreducible] WL WC Con Yd At Ats Sl Agree DW

theorem next_all {w0 : World} {F : List (Nat × Obj)} (b : Board) (p : AtB) (bb mm : Nat) (hk : BK w0 F b p bb mm)  (bp bl bla bY bn : Nat) (h1 : Ats w0 F bp 0 [.pointer (some ⟨bb, 0, none⟩)]) (Ls : List (List Int)) (J : Nat → List (Nat × Obj) → Prop) (Js : List (Nat × Obj) → Prop) (yv : Value) (hy : ∀ (i : Nat) (x : List Int) (R : List (List Int)) (B M X : List (Nat × Obj)) (w : World), Ls.drop i = x :: R → J i B → Memo w0 b mm M → St w0 w (X ++ (B ++ (M ++ F))) → FCon Try.prog yv [ia x] w fun v w' => ∃ B' M', Memo w0 b mm M' ∧ St w0 w' (X ++ (B' ++ (M' ++ F))) ∧ (v = .bool true ∧ J (i + 1) B' ∨ v = .bool false ∧ Js B')) (rem : Nat) : NextC b mm bp bl bla bY bn Ls J Js yv w0 F rem := by
  induction rem with
  | zero => exact c107 b p bb mm hk bp bl bla bY bn h1 Ls J Js yv hy 0 (fun r h => by omega)
  | succ r ih => exact c107 b p bb mm hk bp bl bla bY bn h1 Ls J Js yv hy (r + 1) (fun q h => by have : q = r := (by omega); subst this; exact ih)
theorem iter_memo {w0 : World} {F : List (Nat × Obj)} {b : Board} {mm : Nat} {Ls : List (List Int)} {J : Nat → List (Nat × Obj) → Prop} {Js : List (Nat × Obj) → Prop} {J0 : Nat → List (Nat × Obj) → Prop} {Js0 : List (Nat × Obj) → Prop} (hJi : ∀ i Bx, J i Bx ↔ ∃ B M, Bx = B ++ M ∧ Memo w0 b mm M ∧ J0 i B) (hJs : ∀ Bx, Js Bx ↔ ∃ B M, Bx = B ++ M ∧ Memo w0 b mm M ∧ Js0 B) {yv : Value}
    (hy : ∀ i (hi : i < (Ls.map ia).length) B X w, J i B → St w0 w (X ++ (B ++ F)) → FCon Try.prog yv [(Ls.map ia)[i]] w fun v w' => ∃ B', St w0 w' (X ++ (B' ++ F)) ∧ (v = .bool true ∧ J (i + 1) B' ∨ v = .bool false ∧ Js B')) :
    ∀ (i : Nat) (x : List Int) (R : List (List Int)) (B M X : List (Nat × Obj)) (w : World), Ls.drop i = x :: R → J0 i B → Memo w0 b mm M → St w0 w (X ++ (B ++ (M ++ F))) → FCon Try.prog yv [ia x] w fun v w' => ∃ B' M', Memo w0 b mm M' ∧ St w0 w' (X ++ (B' ++ (M' ++ F))) ∧ (v = .bool true ∧ J0 (i + 1) B' ∨ v = .bool false ∧ Js0 B') := by
  intro i x R B M X w hd hJ hM hs
  have h := hy i (by simpa using drop_lt hd) (B ++ M) X w ((hJi _ _).2 ⟨B, M, rfl, hM, hJ⟩) (by rw [List.append_assoc]; exact hs)
  rw [List.getElem_map, drop_get hd] at h
  refine h.mono ?_
  rintro v w' ⟨Bx, hs', (⟨rfl, hj⟩ | ⟨rfl, hj⟩)⟩
  · obtain ⟨B', M', rfl, hM', hJ'⟩ := (hJi _ _).1 hj
    exact ⟨B', M', hM', by rw [List.append_assoc] at hs'; exact hs', .inl ⟨rfl, hJ'⟩⟩
  · obtain ⟨B', M', rfl, hM', hJ'⟩ := (hJs _).1 hj
    exact ⟨B', M', hM', by rw [List.append_assoc] at hs'; exact hs', .inr ⟨rfl, hJ'⟩⟩
theorem some_perm (p c : Nat × Obj) (X M F : List (Nat × Obj)) : (p :: c :: (X ++ (M ++ F))).Perm (([c] ++ M) ++ (p :: (X ++ F))) :=
  (perm_mid [p] [c] (X ++ (M ++ F))).trans (List.Perm.append_left [c] (perm_mid (p :: X) M F))
theorem mid_back {w0 w : World} {a : Nat × Obj} {X M F : List (Nat × Obj)} (h : St w0 w (M ++ (a :: (X ++ F)))) : St w0 w (X ++ (M ++ F)) := by
  have h1 := (h.perm (perm_mid M [a] (X ++ F))).tail
  exact St.perm (L := M ++ (X ++ F)) h1 (perm_mid M X F)
theorem truths_iter {w0 : World} {F : List (Nat × Obj)} (b : Board) (p : AtB) (bb mm : Nat) (hk : BK w0 F b p bb mm)  (bp : Nat) (h1 : Ats w0 F bp 0 [.pointer (some ⟨bb, 0, none⟩)]) : IterC Try.prog 106 [] [.pointer (some ⟨bp, 0, none⟩)] (((truths b).map pad4).map ia) w0 F (ClsM (Memo w0 b mm)) := by
  intro J Js hcl yv B X w hyv hy hJ hs
  obtain ⟨J0, Js0, hJi, hJs⟩ := hcl
  obtain ⟨yf, ya, yb, rfl⟩ := hyv
  obtain ⟨B0, M, rfl, hM, hJ0⟩ := (hJi 0 B).1 hJ
  replace hs : St w0 w (X ++ (B0 ++ (M ++ F))) := by rw [List.append_assoc] at hs; exact hs
  have hlh := hk.ok.lh
  show Con Try.prog 106 [.func yf ya yb, .pointer (some ⟨bp, 0, none⟩)] w _
  refine con_of_wc (n := 10) Try.func106 rfl rfl (Nat.le_of_ble_eq_true rfl) ?_
  refine w_seq (fun K2 hK1 => ?_)
  refine w_region ?_
  refine w_box (v := .func _ _ _) (cs := [_]) want_none rfl rfl rfl hs (fun b3 w4 hs5 => ?_)
  refine w_nil ?_
  refine q_then (hK1 _ _ ?_)
  refine w_seq (fun K7 hK6 => ?_)
  refine w_region ?_
  refine w_alloc (cs := iv [0, 0, 0, 0]) want_none Try.zeroValue100 rfl hs5 (fun b8 w9 hs10 => ?_)
  refine w_alloc (cs := iv [0, 0, 0, 0]) want_none Try.zeroValue100 rfl hs10 (fun b11 w12 hs13 => ?_)
  refine w_nil ?_
  refine q_then (hK6 _ _ ?_)
  refine w_seq (fun K15 hK14 => ?_)
  refine w_region ?_
  refine w_p (y_indexA Try.underlying100 Try.sizeOf3 rfl rfl rfl rfl (i := 0) rfl (by omega)) rfl ?_
  refine w_storeAtI (i := 0) (j := 0) want_none Try.sizeOf3 rfl rfl rfl rfl hs13 rfl (by first | omega | rfl | (simp only [List.length_map, List.length_set, List.length_append, List.length_take, List.length_drop, List.length_replicate, List.length_cons, List.length_nil] <;> omega)) (fun w16 hs17 => ?_)
  refine w_nil ?_
  refine q_then (hK14 _ _ ?_)
  refine w_seq (fun K19 hK18 => ?_)
  refine w_region ?_
  refine w_alloc (cs := [_]) want_none Try.zeroValue123 rfl hs17 (fun b20 w21 hs22 => ?_)
  refine w_nil ?_
  refine q_then (hK18 _ _ ?_)
  refine w_seq (fun K24 hK23 => ?_)
  refine w_region ?_
  refine w_p (y_makeFunc (fv := []) (cv := [_, _, _, _, _]) rfl rfl rfl rfl) rfl ?_
  refine w_store (i := 0) (v := .func _ _ _) (vs := [_]) want_none Try.sizeOf123 rfl rfl rfl rfl rfl (by simp [Value.oneCell']) hs22 rfl (Nat.le_of_ble_eq_true rfl) (fun w25 hs26 => ?_)
  refine w_nil ?_
  refine q_then (hK23 _ _ ?_)
  refine w_region ?_
  refine w_p (y_load1 Try.isAgg123 hs26 rfl rfl (ats_own (i := 0) (vs := [_]) rfl rfl)) rfl ?_
  refine w_call want_none Try.call107 rfl rfl rfl rfl (next_all b p bb mm hk bp b8 b11 b3 b20 h1 ((truths b).map pad4) J0 Js0 (.func yf ya yb) (iter_memo hJi hJs hy) b.hours.length 0 [] (List.replicate 4 0) [-1, 0, 0, 0] 0 [] [] B0 M X _ (by omega) rfl (fun j _ h => by omega) rfl rfl (fun j _ => by match j with | 0 => rfl | 1 => rfl | 2 => rfl | 3 => rfl | _ + 4 => rfl) (by omega) (by rw [List.append_nil, segK_all]; rfl) rfl (by rw [List.append_nil, segF_all]; exact pads_nodup b) (by rw [List.append_nil, segF_all]; exact start_last4 hk.ok) hJ0 hM hs26) ?_
  rintro _ w28 ⟨cur2, last2, B2, M2, _, _, _, _, hM2, hs29, hB2⟩
  refine w_nil ?_
  refine q_end (l := []) (vs := []) rfl trivial ?_
  refine ⟨B2 ++ M2, by rw [List.append_assoc]; exact hs29.tail.tail.tail.tail, ?_⟩
  rcases hB2 with ⟨_, i', hi', hd', _, hJ'⟩ | ⟨_, hJ'⟩
  · left; rw [List.length_map, ← drop_done hi' hd']; exact (hJi _ _).2 ⟨B2, M2, rfl, hM2, hJ'⟩
  · exact .inr ((hJs _).2 ⟨B2, M2, rfl, hM2, hJ'⟩)

theorem c80 {w0 w : World} {F : List (Nat × Obj)} (bb : Nat) (hs : St w0 w F) :
  Con Try.prog 80 [.pointer (some ⟨bb, 0, none⟩)] w fun v w' => ∃ bp, v = .func (.func 106) #[] #[.pointer (some ⟨bp, 0, none⟩)] ∧ St w0 w' ((bp, blk 95 [.pointer (some ⟨bb, 0, none⟩)]) :: F) := by
  refine con_of_wc (n := 4) Try.func80 rfl rfl (Nat.le_of_ble_eq_true rfl) ?_
  refine w_seq (fun K2 hK1 => ?_)
  refine w_region ?_
  refine w_box (v := .pointer _) (cs := [_]) want_none rfl rfl rfl hs (fun b3 w4 hs5 => ?_)
  refine w_p (y_assign (v := _) rfl rfl) rfl ?_
  refine w_nil ?_
  refine q_then (hK1 _ _ ?_)
  refine w_seq (fun K7 hK6 => ?_)
  refine w_region ?_
  refine w_p (y_makeFunc (fv := []) (cv := [_]) rfl rfl rfl rfl) rfl ?_
  refine w_p (y_assign (v := .func _ _ _) rfl rfl) rfl ?_
  refine w_nil ?_
  refine q_then (hK6 _ _ ?_)
  refine w_ret ?_
  refine q_ret (l := [.tmp 2]) (vs := [_]) rfl ⟨⟨rfl, show _ = (.func _ _ _ : Value) from rfl⟩, trivial⟩ ?_
  exact ⟨_, rfl, hs5⟩

theorem c87 {w0 w : World} {X M F : List (Nat × Obj)} (b : Board) (p : AtB) (bb mm : Nat) (hk : BK w0 F b p bb mm)  (hM : Memo w0 b mm M) (hs : St w0 w (X ++ (M ++ F))) :
  Con Try.prog 87 [.pointer (some ⟨bb, 0, none⟩)] w fun v w' => v = .bool (!(truths b).isEmpty) ∧ ∃ M', Memo w0 b mm M' ∧ St w0 w' (X ++ (M' ++ F)) := by
  refine con_of_wcM (n := 6) Try.func87 rfl rfl (Nat.le_of_ble_eq_true rfl) ?_
  refine w_seq (fun K2 hK1 => ?_)
  refine w_region ?_
  refine w_alloc (cs := [_]) want_none Try.zeroValue4 rfl hs (fun b3 w4 hs5 => ?_)
  refine w_nil ?_
  refine q_then (hK1 _ _ ?_)
  refine w_seq (fun K7 hK6 => ?_)
  refine w_seq (fun K9 hK8 => ?_)
  refine w_region ?_
  refine w_p (y_move (v := .pointer _) rfl rfl) rfl ?_
  refine w_call want_none Try.call80 rfl rfl rfl rfl (c80 _ hs5) ?_
  rintro _ w11 ⟨bp, rfl, hs12⟩
  refine w_nil ?_
  refine q_then (hK8 _ _ ?_)
  refine w_block ?_
  refine w_rangeC ([_] ++ M) (fun i Bx => ∃ B M, Bx = B ++ M ∧ Memo w0 b mm M ∧ i = 0 ∧ B = [(b3, blk 4 [.bool false])]) (fun c Bx => ∃ B M, Bx = B ++ M ∧ Memo w0 b mm M ∧ (c = .ret ∧ 0 < (truths b).length) ∧ B = [(b3, blk 4 [.bool true])]) rfl rfl rfl Try.call106 (truths_iter b p bb mm hk.app.cons bp (ats_own (i := 0) (vs := [_]) rfl rfl)) (clsM_range (fun i B => i = 0 ∧ B = [(b3, blk 4 [.bool false])]) (fun c B => (c = .ret ∧ 0 < (truths b).length) ∧ B = [(b3, blk 4 [.bool true])]) (fun i Bx => Iff.rfl) (fun c Bx => Iff.rfl)) hs12 (some_perm _ _ _ _ _) ⟨_, M, rfl, hM, rfl, rfl⟩ ?_ ?_ ?_
  ·
   intro lp i hi Bx Xr Xr2 w14 hJ hs K hK13
   obtain ⟨BB, M3, rfl, hM3, rfl, rfl⟩ := hJ
   have hi0 : 0 < (truths b).length := by simpa using hi
   replace hs := (show St _ _ (_ :: (M3 ++ (Xr ++ (_ :: (X ++ F))))) from hs)
   refine w_skip ?_
   refine q_then (hK13 _ _ (_ :: M3) hs (fun w15 hs16 => ?_))
   replace hs16 := (show St _ _ (_ :: M3 ++ (Xr2 ++ (_ :: X ++ (F)))) from hs16)
   refine w_block ?_
   refine w_seq (fun K18 hK17 => ?_)
   refine w_region ?_
   refine w_store (i := 0) (v := .bool _) (vs := [_]) want_none Try.sizeOf4 rfl rfl rfl rfl rfl (by simp [Value.oneCell']) hs16 rfl (Nat.le_of_ble_eq_true rfl) (fun w19 hs20 => ?_)
   refine w_nil ?_
   refine q_then (hK17 _ _ ?_)
   refine w_ret ?_
   refine q_blk_ret ?_
   refine rd_ret (_ :: M3) hs20 ?_
   exact ⟨[_], M3, rfl, hM3, ⟨rfl, hi0⟩, rfl⟩
  ·
   intro bd Bx w21 hJ hs
   obtain ⟨BB, M3, rfl, hM3, h0, rfl⟩ := hJ
   rw [List.length_map, List.length_map] at h0
   replace hs := (show St _ _ (_ :: _ :: (M3 ++ (_ :: (X ++ F)))) from hs)
   refine q_blk_normal ?_
   refine q_then (hK6 _ _ ?_)
   refine w_seq (fun K23 hK22 => ?_)
   refine w_region ?_
   refine w_store (i := 1) (v := .bool _) (vs := [_]) want_none Try.sizeOf4 rfl rfl rfl rfl rfl (by simp [Value.oneCell']) hs rfl (Nat.le_of_ble_eq_true rfl) (fun w24 hs25 => ?_)
   refine w_nil ?_
   refine q_then (hK22 _ _ ?_)
   refine w_ret ?_
   refine q_retM (i := 0) (l := [.cell 2 4]) (vs := [_]) hs25 rfl rfl (fun w26 hs27 => ⟨⟨⟨rfl, _, rfl, run_loadVar1 Try.isAgg4 hs27 (ats_own (i := 1) (vs := [_]) rfl rfl)⟩, trivial⟩, ?_⟩)
   first
     | exact ⟨congrArg Value.bool (by rw [List.length_eq_zero_iff.1 h0]; rfl), M3, hM3, mid_back hs27.tail.tail⟩
     | exact ⟨congrArg Value.bool (by cases hd : truths b with | nil => rw [hd] at h0; simp at h0 | cons _ _ => rfl), M3, hM3, mid_back hs27.tail.tail⟩
  ·
   intro bd c Bx w28 hJ hs
   obtain ⟨BB, M3, rfl, hM3, ⟨rfl, h0⟩, rfl⟩ := hJ
   replace hs := (show St _ _ (_ :: _ :: (M3 ++ (_ :: (X ++ F)))) from hs)
   refine w_ret ?_
   refine q_blk_ret ?_
   refine q_then_ret ?_
   refine q_retM (i := 0) (l := [.cell 2 4]) (vs := [_]) hs rfl rfl (fun w29 hs30 => ⟨⟨⟨rfl, _, rfl, run_loadVar1 Try.isAgg4 hs30 (ats_own (i := 1) (vs := [_]) rfl rfl)⟩, trivial⟩, ?_⟩)
   first
     | exact ⟨congrArg Value.bool (by rw [List.length_eq_zero_iff.1 h0]; rfl), M3, hM3, mid_back hs30.tail.tail⟩
     | exact ⟨congrArg Value.bool (by cases hd : truths b with | nil => rw [hd] at h0; simp at h0 | cons _ _ => rfl), M3, hM3, mid_back hs30.tail.tail⟩

end Go.Proofs
/- Walks of this seat, printed by gen.py over the engine: what each function returns, in whatever world. No conditions but those of each contract. -/
set_option linter.unusedVariables false
set_option linter.unusedSimpArgs false
set_option maxRecDepth 20000
namespace Go.Proofs
open Go.Rt Go.Rt.Ch
open Go.Rt.Ha (firstE firstE_step firstE_stop firstE_end failE nameE felt spanL upto span_mem listL fewest fewTo bit before fewStep drop_lt drop_get drop_next drop_done drop_notin set_take set_zero take_less)
attribute [local irreducible] WL WC Con Yd At Ats Sl Agree DW
theorem Try_J_fb3 (x0 : Int) (x1 : Option Addr) (l1 c1 : Nat) (x2 : Option Addr) (l2 c2 : Nat) (x3 : Option Nat) (w : World) : (Instr.build 129 [(0, .agg #[.int .i64 x0, .slice x1 l1 c1, .slice x2 l2 c2]), (1, .map x3)].toArray).run Try.prog w = .ok (.agg #[.int .i64 x0, .slice x1 l1 c1, .slice x2 l2 c2, .map x3]) w := by kernel_rfl
theorem Try_J_fb4 (x0 : Int) (w : World) : (Instr.buildSlice 39 1 [(0, .int .i64 x0)].toArray).run Try.prog w = .ok (.slice (some ⟨w.heap.size, 0, none⟩) 1 1) (w.alloc (Go.Rt.blk 3 [.int .i64 x0])) := by kernel_rfl
theorem ent_back {w0 w : World} {x y : Nat × Obj} {M F : List (Nat × Obj)} (h : St w0 w (M ++ (x :: y :: F))) : St w0 w (x :: (M ++ F)) := by
  have h1 := h.perm (perm_mid M [x, y] F)
  exact ((show St w0 w (x :: y :: (M ++ F)) from h1).perm (perm_mid [x] [y] (M ++ F))).tail
theorem bk_own {w0 : World} {F : List (Nat × Obj)} {b : Board} {p : AtB} {bb mm : Nat} (hm : BIn w0 F b p) (hok : b.Ok) : BK w0 ((bb, blk 129 [.int .i64 b.holds, .slice p.ah b.hours.length p.ch, .slice p.ac b.ctrs.length p.cc, .map (some mm)]) :: F) b p bb mm := ⟨hm.cons, ats_own (i := 0) rfl rfl, hok⟩
theorem isE {l : List (List Int)} (h : l.isEmpty = true) : l = [] := by cases l with | nil => rfl | cons _ _ => cases h
theorem isN {l : List (List Int)} (h : l.isEmpty = false) : l ≠ [] := by cases l with | nil => cases h | cons _ _ => exact fun h => by cases h
theorem c84 {w0 w : World} {F : List (Nat × Obj)} (b : Board) (p : AtB) (hs : St w0 w F) :
  Con Try.prog 84 [.agg (b.cells p).toArray] w fun v w' => ∃ bb mm, v = .pointer (some ⟨bb, 0, none⟩) ∧ St w0 w' ((bb, blk 129 [.int .i64 b.holds, .slice p.ah b.hours.length p.ch, .slice p.ac b.ctrs.length p.cc, .map (some mm)]) :: (mm, .map #[] 0) :: F) := by
  refine con_of_wc (n := 7) Try.func84 rfl rfl (Nat.le_of_ble_eq_true rfl) ?_
  refine w_seq (fun K2 hK1 => ?_)
  refine w_region ?_
  refine w_box (v := .agg #[.int _ _, .slice _ _ _, .slice _ _ _]) (cs := [_, _, _]) want_none rfl rfl rfl hs (fun b3 w4 hs5 => ?_)
  refine w_p (y_assign (v := _) rfl rfl) rfl ?_
  refine w_nil ?_
  refine q_then (hK1 _ _ ?_)
  refine w_seq (fun K7 hK6 => ?_)
  refine w_region ?_
  refine w_p (y_loadN (vs := [_, _, _]) Try.isAgg25 Try.sizeOf25 hs5 rfl rfl (ats_own (i := 0) (vs := [_, _, _]) rfl rfl)) rfl ?_
  refine w_makeMap want_none hs5 (fun b8 w9 hs10 => ?_)
  refine w_p (y_build (ps := [(0, _), (1, _)]) (pv := [(0, .agg #[.int _ _, .slice _ _ _, .slice _ _ _]), (1, .map _)]) rfl rfl (fun w => Try_J_fb3 _ _ _ _ _ _ _ _ w)) rfl ?_
  refine w_box (v := .agg #[.int _ _, .slice _ _ _, .slice _ _ _, .map _]) (cs := [_, _, _, _]) want_none rfl rfl rfl hs10 (fun b11 w12 hs13 => ?_)
  refine w_p (y_assign (v := .pointer _) rfl rfl) rfl ?_
  refine w_nil ?_
  refine q_then (hK6 _ _ ?_)
  refine w_ret ?_
  refine q_ret (l := [.tmp 2]) (vs := [_]) rfl ⟨⟨rfl, show _ = (.pointer _ : Value) from rfl⟩, trivial⟩ ?_
  exact ⟨_, _, rfl, (St.perm (L := [_, _, _] ++ F) hs13 (perm_mid [_, _] [_] F)).tail⟩

theorem c63 {w0 w : World} {F : List (Nat × Obj)} (b : Board) (p : AtB) (hm : BIn w0 F b p) (other : Int) (an : Option Addr) (cn : Nat) (ns : List Int) (hnl : ns.length ≤ 4) (hev : ns.length % 2 = 0) (hns : (check b).2.2 = 0 → ∀ j (hj : 2 * j + 1 < ns.length), 0 ≤ ns[2 * j + 1] ∧ ns[2 * j + 1] ≤ 100) (hn : Sl w0 F an 1 (ns.map fun x => [Value.int .i64 x])) (hs : St w0 w F) :
  Con Try.prog 63 [.agg (b.cells p).toArray, .int .i64 other, .slice an ns.length cn] w fun v w' => (¬ enterE b (orE (pairsE ns) other) = 0 ∧ v = .tuple #[.pointer none, .int .i64 (enterE b (orE (pairsE ns) other))] ∧ St w0 w' F) ∨ (enterE b (orE (pairsE ns) other) = 0 ∧ ∃ bb mm M, v = .tuple #[.pointer (some ⟨bb, 0, none⟩), .int .i64 0] ∧ Memo w0 b mm M ∧ St w0 w' ((bb, blk 129 [.int .i64 b.holds, .slice p.ah b.hours.length p.ch, .slice p.ac b.ctrs.length p.cc, .map (some mm)]) :: (M ++ F))) := by
  refine con_of_wc (n := 50) Try.func63 rfl rfl (Nat.le_of_ble_eq_true rfl) ?_
  refine w_seq (fun K2 hK1 => ?_)
  refine w_region ?_
  refine w_box (v := .agg #[.int _ _, .slice _ _ _, .slice _ _ _]) (cs := [_, _, _]) want_none rfl rfl rfl hs (fun b3 w4 hs5 => ?_)
  refine w_p (y_assign (v := _) rfl rfl) rfl ?_
  refine w_p (y_assign (v := _) rfl rfl) rfl ?_
  refine w_nil ?_
  refine q_then (hK1 _ _ ?_)
  refine w_seq (fun K7 hK6 => ?_)
  refine w_seq (fun K9 hK8 => ?_)
  refine w_region ?_
  refine w_p (y_loadN (vs := [_, _, _]) Try.isAgg25 Try.sizeOf25 hs5 rfl rfl (ats_own (i := 0) (vs := [_, _, _]) rfl rfl)) rfl ?_
  refine w_call want_none Try.call16 rfl rfl rfl rfl (c16 b _ hm.cons hs5) ?_
  rintro _ w11 ⟨rfl, hs12⟩
  refine w_p (y_move (v := .tuple _) rfl rfl) rfl ?_
  refine w_p (y_extract (v := .int _ _) rfl rfl rfl) rfl ?_
  refine w_p (y_extract (v := .int _ _) rfl rfl rfl) rfl ?_
  refine w_p (y_extract (v := .int _ _) rfl rfl rfl) rfl ?_
  refine w_p (y_assign (v := .int _ _) rfl rfl) rfl ?_
  refine w_p (y_assign (v := .int _ _) rfl rfl) rfl ?_
  refine w_p (y_assign (v := .int _ _) rfl rfl) rfl ?_
  refine w_nil ?_
  refine q_then (hK8 _ _ ?_)
  refine w_seq (fun K14 hK13 => ?_)
  refine w_region ?_
  refine w_p (y_move (v := .int _ _) rfl rfl) rfl ?_
  refine w_p (y_neq rfl rfl rfl rfl) rfl ?_
  refine w_nil ?_
  refine q_then (hK13 _ _ ?_)
  refine w_cond rfl rfl (fun h15 => ?_) (fun h15 => ?_)
  ·
   try simp only [zA, zB, zC, zD, zE, zF] at h15
   refine w_seq (fun K17 hK16 => ?_)
   refine w_region ?_
   refine w_p (y_move (v := .int _ _) rfl rfl) rfl ?_
   refine w_p (y_assign (v := _) rfl rfl) rfl ?_
   refine w_p (y_assign (v := .int _ _) rfl rfl) rfl ?_
   refine w_nil ?_
   refine q_then (hK16 _ _ ?_)
   refine w_ret ?_
   refine q_then_ret ?_
   refine q_ret (l := [.tmp 6, .tmp 7]) (vs := [_, _]) rfl ⟨⟨rfl, show _ = (.pointer _ : Value) from rfl⟩, ⟨rfl, show _ = (.int _ _ : Value) from rfl⟩, trivial⟩ ?_
   first
     | exact .inl ⟨by rw [enterE_1 (by assumption)]; assumption, by rw [enterE_1 (by assumption)]; rfl, hs12.tail⟩
     | (have h4 : orE (pairsE ns) other = 4 := orE_4 (hinv.trans (pairs_stop hj1 (by assumption)))
        exact .inl ⟨by rw [h4, enterE_2 hck (by decide)]; decide, by rw [h4, enterE_2 hck (by decide)]; rfl, hs12.tail⟩)
     | (have h4 : orE (pairsE ns) other = other := orE_e hp0
        exact .inl ⟨by rw [h4, enterE_2 hck (by assumption)]; assumption, by rw [h4, enterE_2 hck (by assumption)]; rfl, hs12.tail⟩)
     | (have h4 : orE (pairsE ns) other = 0 := (orE_e hp0).trans (by assumption)
        have h5 := isE (by assumption)
        exact .inl ⟨by rw [h4, enterE_3 hck rfl h5]; decide, by rw [h4, enterE_3 hck rfl h5]; rfl, hs12.tail⟩)
     | (have h4 : orE (pairsE ns) other = 0 := (orE_e hp0).trans (by assumption)
        have h5 := isN (by assumption)
        exact .inr ⟨by rw [h4, enterE_4 hck rfl h5], _, _, M2, rfl, hM2, ent_back hs12⟩)
  ·
   try simp only [zA, zB, zC, zD, zE, zF] at h15
   refine w_skip ?_
   refine q_then (hK6 _ _ ?_)
   refine w_seq (fun K19 hK18 => ?_)
   refine w_seq (fun K21 hK20 => ?_)
   have hck : (check b).2.2 = 0 := by assumption
   have hok := check_ok hck
   refine w_region ?_
   refine w_p (y_assign (v := _) rfl rfl) rfl ?_
   refine w_nil ?_
   refine q_then (hK20 _ _ ?_)
   refine w_block ?_
   refine w_loop [6, 7, 11, 22, 23, 24, 25, 26, 27, 28, 29, 30, 31, 32, 33, 34, 35, 36, 37, 38, 39, 40] [11] (fun k vs w => ∃ j : Nat, vs = [.int .i64 (2 * (j : Int))] ∧ 2 * j ≤ ns.length ∧ k = ns.length - 2 * j ∧ pairsE ns = pairsE (ns.drop (2 * j)) ∧ St w0 w ((b3, blk 25 (b.cells p)) :: F)) (ns.length) ?_ ?_
   ·
    exact ⟨0, rfl, by omega, by omega, rfl, hs12⟩
   ·
    intro k vs μ w24 hI K23 hN22
    obtain ⟨j, rfl, hja, rfl, hinv, hs⟩ := hI
    refine w_seq (fun K26 hK25 => ?_)
    refine w_seq (fun K28 hK27 => ?_)
    refine w_region ?_
    refine w_p (y_move (v := .int _ _) rfl rfl) rfl ?_
    refine w_p (y_add rfl rfl rfl rfl (by omega) (by omega)) rfl ?_
    refine w_p (y_move (v := .slice _ _ _) rfl rfl) rfl ?_
    refine w_p (y_lenS Try.underlying39 rfl rfl) rfl ?_
    refine w_p (y_lss rfl rfl rfl rfl) rfl ?_
    refine w_nil ?_
    refine q_then (hK27 _ _ ?_)
    refine w_cond rfl rfl (fun h29 => ?_) (fun h29 => ?_)
    ·
     try simp only [zA, zB, zC, zD, zE, zF] at h29
     refine w_skip ?_
     refine q_then (hK25 _ _ ?_)
     refine w_seq (fun K31 hK30 => ?_)
     refine w_block ?_
     refine w_seq (fun K33 hK32 => ?_)
     have hj1 : 2 * j + 1 < ns.length := by omega
     have hnb := hns hck j hj1
     obtain ⟨ba, oa, rfl, hx1⟩ := sl_ints hn hj1
     obtain ⟨ba2, oa2, hba2, hx0⟩ := sl_ints hn (show 2 * j < ns.length by omega)
     cases hba2
     refine w_draw [] [(0, 0), (1, 0), (2, 0), (3, 0), (4, 1), (5, 0), (6, 0), (7, 0), (8, 0), (9, 1), (10, 2), (11, 2)] Try_mo (drawOK_of (by kernel_rfl)) hs (fun w34 hs35 => ?_)
     refine d_any rfl want_none rfl (fun _ => (y_move (v := .slice _ _ _) rfl rfl)) ?_
     refine d_any rfl want_none rfl (fun _ => (y_move (v := .int _ _) rfl rfl)) ?_
     refine d_any rfl want_none rfl (fun _ => (y_add rfl rfl rfl rfl (by omega) (by omega))) ?_
     refine d_any rfl want_none rfl (fun _ => (y_indexS Try.underlying39 Try.sizeOf3 rfl rfl rfl rfl (i := 2 * j + 1) (by omega) hj1)) ?_
     refine d_take rfl want_none rfl hs35 (fun _ hq => (y_load1 Try.isAgg3 hq.tail rfl rfl hx1)) ?_
     refine d_any rfl want_none rfl (fun _ => (y_sub rfl rfl rfl rfl (by omega) (by omega))) ?_
     refine d_any rfl want_none rfl (fun _ => (y_move (v := .slice _ _ _) rfl rfl)) ?_
     refine d_any rfl want_none rfl (fun _ => (y_move (v := .int _ _) rfl rfl)) ?_
     refine d_any rfl want_none rfl (fun _ => (y_indexS Try.underlying39 Try.sizeOf3 rfl rfl rfl rfl (i := 2 * j) (by omega) (by omega))) ?_
     refine d_take rfl want_none rfl hs35 (fun _ hq => (y_load1 Try.isAgg3 hq.tail rfl rfl hx0)) ?_
     refine d_eff rfl ?_
     refine w_bslice (ps := [(0, _)]) (pv := [(0, .int _ _)]) (cs := [_]) want_none rfl rfl (fun w => Try_J_fb4 _ w) hs35 (fun b36 w37 hs38 => ?_)
     refine w_nil ?_
     refine qn ⟨hs38.tail, ?_⟩
     refine d_eff rfl ?_
     refine w_call want_none Try.call51 rfl rfl rfl rfl (c51 _ _ _ [_] _ (by simp) (sl_own (i := 0) (rows := [[_]]) rfl (by simp) rfl) hs38) ?_
     rintro _ w40 ⟨rfl, hs41⟩
     refine w_nil ?_
     refine qn ⟨hs41.tail, ?_⟩
     refine d_nil ?_
     refine q_then (hK32 _ _ ?_)
     refine w_cond rfl rfl (fun h42 => ?_) (fun h42 => ?_)
     ·
      try simp only [zA, zB, zC, zD, zE, zF] at h42
      refine w_seq (fun K44 hK43 => ?_)
      refine w_region ?_
      refine w_p (y_assign (v := _) rfl rfl) rfl ?_
      refine w_p (y_assign (v := _) rfl rfl) rfl ?_
      refine w_nil ?_
      refine q_then (hK43 _ _ ?_)
      refine w_ret ?_
      refine q_blk_ret ?_
      refine q_then_ret ?_
      refine q_then_ret ?_
      refine q_blk_ret ?_
      refine q_then_ret ?_
      refine q_ret (l := [.tmp 6, .tmp 7]) (vs := [_, _]) rfl ⟨⟨rfl, show _ = (.pointer _ : Value) from rfl⟩, ⟨rfl, show _ = (.int _ _ : Value) from rfl⟩, trivial⟩ ?_
      first
        | exact .inl ⟨by rw [enterE_1 (by assumption)]; assumption, by rw [enterE_1 (by assumption)]; rfl, hs41.tail.tail⟩
        | (have h4 : orE (pairsE ns) other = 4 := orE_4 (hinv.trans (pairs_stop hj1 (by assumption)))
           exact .inl ⟨by rw [h4, enterE_2 hck (by decide)]; decide, by rw [h4, enterE_2 hck (by decide)]; rfl, hs41.tail.tail⟩)
        | (have h4 : orE (pairsE ns) other = other := orE_e hp0
           exact .inl ⟨by rw [h4, enterE_2 hck (by assumption)]; assumption, by rw [h4, enterE_2 hck (by assumption)]; rfl, hs41.tail.tail⟩)
        | (have h4 : orE (pairsE ns) other = 0 := (orE_e hp0).trans (by assumption)
           have h5 := isE (by assumption)
           exact .inl ⟨by rw [h4, enterE_3 hck rfl h5]; decide, by rw [h4, enterE_3 hck rfl h5]; rfl, hs41.tail.tail⟩)
        | (have h4 : orE (pairsE ns) other = 0 := (orE_e hp0).trans (by assumption)
           have h5 := isN (by assumption)
           exact .inr ⟨by rw [h4, enterE_4 hck rfl h5], _, _, M2, rfl, hM2, ent_back hs41⟩)
     ·
      try simp only [zA, zB, zC, zD, zE, zF] at h42
      refine w_skip ?_
      refine q_blk_normal ?_
      refine q_then (hK30 _ _ ?_)
      refine w_region ?_
      refine w_p (y_move (v := .int _ _) rfl rfl) rfl ?_
      refine w_p (y_add rfl rfl rfl rfl (by omega) (by omega)) rfl ?_
      refine w_p (y_assign (v := .int _ _) rfl rfl) rfl ?_
      refine w_nil ?_
      refine q_then (hN22 _ _ (Nx.intro (ns.length - 2 * (j + 1)) (by omega) (by repeat (first | exact agree_mix | refine agree_upd rfl ?_ | refine agree_updL rfl ?_ _ | refine agree_mixin rfl ?_)) ?_))
      exact ⟨j + 1, iv1 (by omega), by omega, rfl, hinv.trans (pairs_next hj1 (by assumption)), hs41.tail⟩
    ·
     try simp only [zA, zB, zC, zD, zE, zF] at h29
     refine w_exit ?_
     refine q_then_exit ?_
     refine q_then_exit ?_
     refine q_blk_this ?_
     refine q_then (hK18 _ _ ?_)
     refine w_seq (fun K46 hK45 => ?_)
     refine w_seq (fun K48 hK47 => ?_)
     have hp0 : pairsE ns = 0 := hinv.trans (pairs_end (by omega))
     refine w_region ?_
     refine w_p (y_move (v := .int _ _) rfl rfl) rfl ?_
     refine w_p (y_neq rfl rfl rfl rfl) rfl ?_
     refine w_nil ?_
     refine q_then (hK47 _ _ ?_)
     refine w_cond rfl rfl (fun h49 => ?_) (fun h49 => ?_)
     ·
      try simp only [zA, zB, zC, zD, zE, zF] at h49
      refine w_seq (fun K51 hK50 => ?_)
      refine w_region ?_
      refine w_p (y_move (v := .int _ _) rfl rfl) rfl ?_
      refine w_p (y_assign (v := _) rfl rfl) rfl ?_
      refine w_p (y_assign (v := .int _ _) rfl rfl) rfl ?_
      refine w_nil ?_
      refine q_then (hK50 _ _ ?_)
      refine w_ret ?_
      refine q_then_ret ?_
      refine q_ret (l := [.tmp 6, .tmp 7]) (vs := [_, _]) rfl ⟨⟨rfl, show _ = (.pointer _ : Value) from rfl⟩, ⟨rfl, show _ = (.int _ _ : Value) from rfl⟩, trivial⟩ ?_
      first
        | exact .inl ⟨by rw [enterE_1 (by assumption)]; assumption, by rw [enterE_1 (by assumption)]; rfl, hs.tail⟩
        | (have h4 : orE (pairsE ns) other = 4 := orE_4 (hinv.trans (pairs_stop hj1 (by assumption)))
           exact .inl ⟨by rw [h4, enterE_2 hck (by decide)]; decide, by rw [h4, enterE_2 hck (by decide)]; rfl, hs.tail⟩)
        | (have h4 : orE (pairsE ns) other = other := orE_e hp0
           exact .inl ⟨by rw [h4, enterE_2 hck (by assumption)]; assumption, by rw [h4, enterE_2 hck (by assumption)]; rfl, hs.tail⟩)
        | (have h4 : orE (pairsE ns) other = 0 := (orE_e hp0).trans (by assumption)
           have h5 := isE (by assumption)
           exact .inl ⟨by rw [h4, enterE_3 hck rfl h5]; decide, by rw [h4, enterE_3 hck rfl h5]; rfl, hs.tail⟩)
        | (have h4 : orE (pairsE ns) other = 0 := (orE_e hp0).trans (by assumption)
           have h5 := isN (by assumption)
           exact .inr ⟨by rw [h4, enterE_4 hck rfl h5], _, _, M2, rfl, hM2, ent_back hs⟩)
     ·
      try simp only [zA, zB, zC, zD, zE, zF] at h49
      refine w_skip ?_
      refine q_then (hK45 _ _ ?_)
      refine w_seq (fun K53 hK52 => ?_)
      refine w_region ?_
      refine w_p (y_loadN (vs := [_, _, _]) Try.isAgg25 Try.sizeOf25 hs rfl rfl (ats_own (i := 0) (vs := [_, _, _]) rfl rfl)) rfl ?_
      refine w_call want_none Try.call84 rfl rfl rfl rfl (c84 b p hs) ?_
      rintro _ w55 ⟨bb, mm, rfl, hs56⟩
      replace hs56 := (show St _ _ (_ :: _ :: _ :: F) from hs56)
      have hs57 := swp2 hs56
      have hkb : BK w0 ((bb, blk 129 [.int .i64 b.holds, .slice p.ah b.hours.length p.ch, .slice p.ac b.ctrs.length p.cc, .map (some mm)]) :: (b3, blk 25 (b.cells p)) :: F) b p bb mm := bk_own (hm.cons) hok
      refine w_p (y_assign (v := .pointer _) rfl rfl) rfl ?_
      refine w_nil ?_
      refine q_then (hK52 _ _ ?_)
      refine w_seq (fun K59 hK58 => ?_)
      refine w_seq (fun K61 hK60 => ?_)
      refine w_region ?_
      refine w_p (y_move (v := .pointer _) rfl rfl) rfl ?_
      refine w_call want_none Try.call87 rfl rfl rfl rfl (c87 (X := []) (M := [(mm, .map #[] 0)]) b p bb mm hkb (memo_new w0 b mm) hs57) ?_
      rintro _ w63 ⟨rfl, M2, hM2, hs64⟩
      replace hs64 := (show St _ _ (M2 ++ (_ :: _ :: F)) from hs64)
      refine w_p (y_not rfl rfl) rfl ?_
      refine w_nil ?_
      refine q_then (hK60 _ _ ?_)
      refine w_cond rfl rfl (fun h65 => ?_) (fun h65 => ?_)
      ·
       try simp only [zA, zB, zC, zD, zE, zF] at h65
       refine w_seq (fun K67 hK66 => ?_)
       refine w_region ?_
       refine w_p (y_assign (v := _) rfl rfl) rfl ?_
       refine w_p (y_assign (v := _) rfl rfl) rfl ?_
       refine w_nil ?_
       refine q_then (hK66 _ _ ?_)
       refine w_ret ?_
       refine q_then_ret ?_
       refine q_ret (l := [.tmp 6, .tmp 7]) (vs := [_, _]) rfl ⟨⟨rfl, show _ = (.pointer _ : Value) from rfl⟩, ⟨rfl, show _ = (.int _ _ : Value) from rfl⟩, trivial⟩ ?_
       first
         | exact .inl ⟨by rw [enterE_1 (by assumption)]; assumption, by rw [enterE_1 (by assumption)]; rfl, hs64.drop.tail.tail⟩
         | (have h4 : orE (pairsE ns) other = 4 := orE_4 (hinv.trans (pairs_stop hj1 (by assumption)))
            exact .inl ⟨by rw [h4, enterE_2 hck (by decide)]; decide, by rw [h4, enterE_2 hck (by decide)]; rfl, hs64.drop.tail.tail⟩)
         | (have h4 : orE (pairsE ns) other = other := orE_e hp0
            exact .inl ⟨by rw [h4, enterE_2 hck (by assumption)]; assumption, by rw [h4, enterE_2 hck (by assumption)]; rfl, hs64.drop.tail.tail⟩)
         | (have h4 : orE (pairsE ns) other = 0 := (orE_e hp0).trans (by assumption)
            have h5 := isE (by assumption)
            exact .inl ⟨by rw [h4, enterE_3 hck rfl h5]; decide, by rw [h4, enterE_3 hck rfl h5]; rfl, hs64.drop.tail.tail⟩)
         | (have h4 : orE (pairsE ns) other = 0 := (orE_e hp0).trans (by assumption)
            have h5 := isN (by assumption)
            exact .inr ⟨by rw [h4, enterE_4 hck rfl h5], _, _, M2, rfl, hM2, ent_back hs64⟩)
      ·
       try simp only [zA, zB, zC, zD, zE, zF] at h65
       refine w_skip ?_
       refine q_then (hK58 _ _ ?_)
       refine w_seq (fun K69 hK68 => ?_)
       refine w_region ?_
       refine w_p (y_move (v := .pointer _) rfl rfl) rfl ?_
       refine w_p (y_assign (v := .pointer _) rfl rfl) rfl ?_
       refine w_p (y_assign (v := _) rfl rfl) rfl ?_
       refine w_nil ?_
       refine q_then (hK68 _ _ ?_)
       refine w_ret ?_
       refine q_ret (l := [.tmp 6, .tmp 7]) (vs := [_, _]) rfl ⟨⟨rfl, show _ = (.pointer _ : Value) from rfl⟩, ⟨rfl, show _ = (.int _ _ : Value) from rfl⟩, trivial⟩ ?_
       first
         | exact .inl ⟨by rw [enterE_1 (by assumption)]; assumption, by rw [enterE_1 (by assumption)]; rfl, hs64.drop.tail.tail⟩
         | (have h4 : orE (pairsE ns) other = 4 := orE_4 (hinv.trans (pairs_stop hj1 (by assumption)))
            exact .inl ⟨by rw [h4, enterE_2 hck (by decide)]; decide, by rw [h4, enterE_2 hck (by decide)]; rfl, hs64.drop.tail.tail⟩)
         | (have h4 : orE (pairsE ns) other = other := orE_e hp0
            exact .inl ⟨by rw [h4, enterE_2 hck (by assumption)]; assumption, by rw [h4, enterE_2 hck (by assumption)]; rfl, hs64.drop.tail.tail⟩)
         | (have h4 : orE (pairsE ns) other = 0 := (orE_e hp0).trans (by assumption)
            have h5 := isE (by assumption)
            exact .inl ⟨by rw [h4, enterE_3 hck rfl h5]; decide, by rw [h4, enterE_3 hck rfl h5]; rfl, hs64.drop.tail.tail⟩)
         | (have h4 : orE (pairsE ns) other = 0 := (orE_e hp0).trans (by assumption)
            have h5 := isN (by assumption)
            exact .inr ⟨by rw [h4, enterE_4 hck rfl h5], _, _, M2, rfl, hM2, ent_back hs64⟩)

end Go.Proofs
/- Walks of this seat, printed by gen.py over the engine: what each function returns, in whatever world. No conditions but those of each contract. -/
set_option linter.unusedVariables false
set_option linter.unusedSimpArgs false
set_option maxRecDepth 20000
namespace Go.Proofs
open Go.Rt Go.Rt.Ch
open Go.Rt.Ha (firstE firstE_step firstE_stop firstE_end failE nameE felt spanL upto span_mem listL fewest fewTo bit before fewStep drop_lt drop_get drop_next drop_done drop_notin set_take set_zero take_less)
attribute [local irreducible] WL WC Con Yd At Ats Sl Agree DW
theorem Try_K_fb3 (x0 : Int) (x1 : Int) (w : World) : (Instr.build 31 [(0, .int .i64 x0), (1, .int .i64 x1)].toArray).run Try.prog w = .ok (.agg #[.int .i64 x0, .int .i64 x1]) w := by kernel_rfl
theorem hull_perm (p a c g : Nat × Obj) (X M F : List (Nat × Obj)) : (p :: a :: c :: g :: (X ++ (M ++ F))).Perm (([a, c] ++ M) ++ (p :: g :: (X ++ F))) :=
  (perm_mid [p] [a, c] (g :: (X ++ (M ++ F)))).trans (List.Perm.append_left [a, c] (perm_mid (p :: g :: X) M F))
theorem mid_back2 {w0 w : World} {a c : Nat × Obj} {X M F : List (Nat × Obj)} (h : St w0 w (M ++ (a :: c :: (X ++ F)))) : St w0 w (X ++ (M ++ F)) := by
  have h1 := (h.perm (perm_mid M [a, c] (X ++ F))).tail.tail
  exact St.perm (L := M ++ (X ++ F)) h1 (perm_mid M X F)
theorem hull_cells {b5 b4 : Nat} {t t' : Bool} {x x' y y' : Int} (h0 : t = t') (h1 : x = x') (h2 : y = y') : ([(b5, blk 4 [.bool t]), (b4, blk 31 [.int .i64 x, .int .i64 y])] : List (Nat × Obj)) = [(b5, blk 4 [.bool t']), (b4, blk 31 [.int .i64 x', .int .i64 y'])] := by subst h0 h1 h2; rfl
/-- A function of loads. -/
def FIs (w0 : World) (F : List (Nat × Obj)) (b : Board) (fv : Value) (f : List Int → Int) : Prop := ∀ l ∈ truths b, ∀ (X : List (Nat × Obj)) (w : World), St w0 w (X ++ F) → FCon Try.prog fv [ia (pad4 l)] w fun v w' => v = .int .i64 (f l) ∧ St w0 w' (X ++ F)
theorem FIs.at {w0 w : World} {P M Y Q X F : List (Nat × Obj)} {b : Board} {fv : Value} {f : List Int → Int} (h : FIs w0 F b fv f) {l : List Int} (hl : l ∈ truths b) (hs : St w0 w (P ++ (M ++ (Y ++ (Q ++ (X ++ F)))))) : FCon Try.prog fv [ia (pad4 l)] w fun v w' => v = .int .i64 (f l) ∧ St w0 w' (P ++ (M ++ (Y ++ (Q ++ (X ++ F))))) := by
  have e : P ++ (M ++ (Y ++ (Q ++ (X ++ F)))) = (P ++ (M ++ (Y ++ (Q ++ X)))) ++ F := by simp only [List.append_assoc]
  rw [e] at hs ⊢
  exact h l hl _ w hs
theorem c70 {w0 w : World} {F : List (Nat × Obj)} (b : Board) (p : AtB) (bb mm : Nat) (hk : BK w0 F b p bb mm) (l : List Int) (hl4 : l.length = 4) (h40 : ∀ k, 0 ≤ ld l k ∧ ld l k ≤ 40) (hold : Int) (hs : St w0 w F) :
  Con Try.prog 70 [.pointer (some ⟨bb, 0, none⟩), ia l, .int .i64 hold] w fun v w' => v = .int .i64 (inH b hold l) ∧ St w0 w' F := by
  refine con_of_wc (n := 31) Try.func70 rfl rfl (Nat.le_of_ble_eq_true rfl) ?_
  obtain ⟨ah, ch, ac, cc, pc⟩ := p
  have hb := hk.l
  have hlh := hk.ok.lh
  refine w_seq (fun K2 hK1 => ?_)
  refine w_region ?_
  refine w_boxI (l := _) want_none rfl rfl rfl hs (fun b3 w4 hs5 => ?_)
  refine w_p (y_assign (v := _) rfl rfl) rfl ?_
  refine w_nil ?_
  refine q_then (hK1 _ _ ?_)
  refine w_scope ?_
  refine w_seq (fun K7 hK6 => ?_)
  refine w_label ?_
  refine q_then (hK6 _ _ ?_)
  refine w_seq (fun K9 hK8 => ?_)
  refine w_seq (fun K11 hK10 => ?_)
  refine w_region ?_
  refine w_p (y_move (v := .pointer _) rfl rfl) rfl ?_
  refine w_p (y_nilCheck rfl rfl) rfl ?_
  refine w_p (y_fieldAddr (o := 0) (i := 0) Try.underlying129 rfl Try.sizeOf25 rfl rfl rfl) rfl ?_
  refine w_p (y_fieldAddr (o := 1) (i := 1) Try.underlying25 rfl Try.sizeOf22 rfl rfl rfl) rfl ?_
  refine w_p (y_load1 Try.isAgg22 hs5.tail rfl rfl (show Ats _ _ _ _ [_] from Ats.part hb 1 1)) rfl ?_
  refine w_p (y_lenS Try.underlying22 rfl rfl) rfl ?_
  refine w_p (y_move (v := _) rfl rfl) rfl ?_
  refine w_nil ?_
  refine q_then (hK10 _ _ ?_)
  refine w_block ?_
  refine w_loop [6, 7, 8, 15, 16, 17, 18, 19, 20, 21, 22, 23, 24, 25, 26, 27, 28, 29] [6, 15] (fun kk vs w => ∃ k : Nat, vs = [.int .i64 (inTo b l hold k), .int .i64 k] ∧ k ≤ b.hours.length ∧ kk = b.hours.length - k ∧ St w0 w ((b3, blk 100 (iv l)) :: F)) (b.hours.length) ?_ ?_
  ·
   exact ⟨0, rfl, by omega, by omega, hs5⟩
  ·
   intro k vs μ w14 hI K13 hN12
   obtain ⟨k, rfl, hka, rfl, hs⟩ := hI
   refine w_seq (fun K16 hK15 => ?_)
   refine w_region ?_
   refine w_p (y_lss rfl rfl rfl rfl) rfl ?_
   refine w_nil ?_
   refine q_then (hK15 _ _ ?_)
   refine w_seq (fun K18 hK17 => ?_)
   refine w_cond rfl rfl (fun h19 => ?_) (fun h19 => ?_)
   ·
    try simp only [zA, zB, zC, zD, zE, zF] at h19
    refine w_skip ?_
    refine q_then (hK17 _ _ ?_)
    refine w_seq (fun K21 hK20 => ?_)
    refine w_block ?_
    refine w_seq (fun K23 hK22 => ?_)
    have hk2 : k < b.hours.length := by omega
    obtain ⟨bx, ox, hbx, hx⟩ := sl_hrows hk.i.h hk2
    subst hbx
    have hib := in_bound (h := hold) (b := b) h40 k
    have hlk := h40 k
    have hldv : ld l k = l.getD k 0 := rfl
    refine w_region ?_
    refine w_p (y_move (v := .int _ _) rfl rfl) rfl ?_
    refine w_p (y_indexS Try.underlying22 Try.sizeOf70 rfl rfl rfl rfl (i := k) rfl hk2) rfl ?_
    refine w_p (y_loadN (vs := [_, _, _]) Try.isAgg70 Try.sizeOf70 hs.tail rfl rfl hx) rfl ?_
    refine w_alloc (cs := [_, _, _]) want_none Try.zeroValue70 rfl hs (fun b24 w25 hs26 => ?_)
    refine w_p (y_assign (v := .int _ _) rfl rfl) rfl ?_
    refine w_store (i := 0) (v := .agg #[.int _ _, .int _ _, .int _ _]) (vs := [_, _, _]) want_none Try.sizeOf70 rfl rfl rfl rfl rfl (by simp [Value.oneCell']) hs26 rfl (Nat.le_of_ble_eq_true rfl) (fun w27 hs28 => ?_)
    refine w_nil ?_
    refine q_then (hK22 _ _ ?_)
    refine w_seq (fun K30 hK29 => ?_)
    refine w_seq (fun K32 hK31 => ?_)
    refine w_region ?_
    refine w_p (y_fieldAddr (o := 0) (i := 0) Try.underlying70 rfl Try.sizeOf3 rfl rfl rfl) rfl ?_
    refine w_p (y_load1 Try.isAgg3 hs28 rfl rfl (ats_own (i := 0) (vs := [_]) rfl rfl)) rfl ?_
    refine w_p (y_move (v := .int _ _) rfl rfl) rfl ?_
    refine w_p (y_neq rfl rfl rfl rfl) rfl ?_
    refine w_nil ?_
    refine q_then (hK31 _ _ ?_)
    refine w_cond rfl rfl (fun h33 => ?_) (fun h33 => ?_)
    ·
     try simp only [zA, zB, zC, zD, zE, zF] at h33
     refine w_exit ?_
     refine q_then_exit ?_
     refine q_blk_this ?_
     refine q_then (hK20 _ _ ?_)
     refine w_region ?_
     refine w_p (y_add rfl rfl rfl rfl (by omega) (by omega)) rfl ?_
     refine w_p (y_move (v := .int _ _) rfl rfl) rfl ?_
     refine w_nil ?_
     refine q_then (hN12 _ _ (Nx.intro (b.hours.length - (k + 1)) (by omega) (by repeat (first | exact agree_mix | refine agree_upd rfl ?_ | refine agree_updL rfl ?_ _ | refine agree_mixin rfl ?_)) ?_))
     first
       | exact ⟨k + 1, iv2 (in_no hk2 (by assumption)).symm rfl, by omega, rfl, hs28.tail⟩
       | exact ⟨k + 1, iv2 (in_yes hk2 (by assumption)).symm rfl, by omega, rfl, hs28.tail⟩
    ·
     try simp only [zA, zB, zC, zD, zE, zF] at h33
     refine w_skip ?_
     refine q_then (hK29 _ _ ?_)
     refine w_region ?_
     refine w_p (y_move (v := .int _ _) rfl rfl) rfl ?_
     refine w_p (y_move (v := .int _ _) rfl rfl) rfl ?_
     refine w_p (y_indexA Try.underlying100 Try.sizeOf3 rfl rfl rfl rfl (i := k) (by first | rfl | omega) (by omega)) rfl ?_
     refine w_p (y_load1 Try.isAgg3 hs28 rfl rfl (ats_ints (i := 1) (j := k) rfl (by first | omega | rfl | (simp only [hl4, List.length_map, List.length_set, List.length_append, List.length_take, List.length_drop, List.length_replicate, List.length_cons, List.length_nil] <;> omega)))) rfl ?_
     refine w_p (y_add rfl rfl rfl rfl (by omega) (by omega)) rfl ?_
     refine w_p (y_assign (v := .int _ _) rfl rfl) rfl ?_
     refine w_nil ?_
     refine q_blk_normal ?_
     refine q_then (hK20 _ _ ?_)
     refine w_region ?_
     refine w_p (y_add rfl rfl rfl rfl (by omega) (by omega)) rfl ?_
     refine w_p (y_move (v := .int _ _) rfl rfl) rfl ?_
     refine w_nil ?_
     refine q_then (hN12 _ _ (Nx.intro (b.hours.length - (k + 1)) (by omega) (by repeat (first | exact agree_mix | refine agree_upd rfl ?_ | refine agree_updL rfl ?_ _ | refine agree_mixin rfl ?_)) ?_))
     first
       | exact ⟨k + 1, iv2 (in_no hk2 (by assumption)).symm rfl, by omega, rfl, hs28.tail⟩
       | exact ⟨k + 1, iv2 (in_yes hk2 (by assumption)).symm rfl, by omega, rfl, hs28.tail⟩
   ·
    try simp only [zA, zB, zC, zD, zE, zF] at h19
    refine w_exit ?_
    refine q_then_exit ?_
    refine q_then_exit ?_
    refine q_blk_this ?_
    refine q_then (hK8 _ _ ?_)
    refine w_seq (fun K35 hK34 => ?_)
    refine w_region ?_
    refine w_p (y_move (v := .int _ _) rfl rfl) rfl ?_
    refine w_p (y_assign (v := .int _ _) rfl rfl) rfl ?_
    refine w_nil ?_
    refine q_then (hK34 _ _ ?_)
    refine w_ret ?_
    refine q_ng_ret ?_
    refine q_ret (l := [.tmp 6]) (vs := [_]) rfl ⟨⟨rfl, show _ = (.int _ _ : Value) from rfl⟩, trivial⟩ ?_
    have hkn : k = b.hours.length := by omega
    subst hkn
    exact ⟨rfl, hs.tail⟩

theorem c64 {w0 w : World} {X M F : List (Nat × Obj)} (b : Board) (p : AtB) (bb mm : Nat) (hk : BK w0 F b p bb mm) (fk : FuncId) (f1 cp : Array Value) (f : List Int → Int) (hf : FIs w0 F b (.func (.func fk) f1 cp) f) (hM : Memo w0 b mm M) (hs : St w0 w (X ++ (M ++ F))) :
  Con Try.prog 64 [.pointer (some ⟨bb, 0, none⟩), .func (.func fk) f1 cp] w fun v w' => v = .agg #[.int .i64 (hullL f (truths b)).1, .int .i64 (hullL f (truths b)).2] ∧ ∃ M', Memo w0 b mm M' ∧ St w0 w' (X ++ (M' ++ F)) := by
  refine con_of_wcM (n := 28) Try.func64 rfl rfl (Nat.le_of_ble_eq_true rfl) ?_
  refine w_seq (fun K2 hK1 => ?_)
  refine w_region ?_
  refine w_box (v := .func _ _ _) (cs := [_]) want_none rfl rfl rfl hs (fun b3 w4 hs5 => ?_)
  refine w_alloc (cs := [_, _]) want_none Try.zeroValue31 rfl hs5 (fun b6 w7 hs8 => ?_)
  refine w_nil ?_
  refine q_then (hK1 _ _ ?_)
  refine w_seq (fun K10 hK9 => ?_)
  refine w_region ?_
  refine w_alloc (cs := [_]) want_none Try.zeroValue4 rfl hs8 (fun b11 w12 hs13 => ?_)
  refine w_store (i := 0) (v := .bool _) (vs := [_]) want_none Try.sizeOf4 rfl rfl rfl rfl rfl (by simp [Value.oneCell']) hs13 rfl (Nat.le_of_ble_eq_true rfl) (fun w14 hs15 => ?_)
  refine w_nil ?_
  refine q_then (hK9 _ _ ?_)
  refine w_seq (fun K17 hK16 => ?_)
  refine w_seq (fun K19 hK18 => ?_)
  refine w_region ?_
  refine w_p (y_move (v := .pointer _) rfl rfl) rfl ?_
  refine w_call want_none Try.call80 rfl rfl rfl rfl (c80 _ hs15) ?_
  rintro _ w21 ⟨bp, rfl, hs22⟩
  refine w_nil ?_
  refine q_then (hK18 _ _ ?_)
  refine w_block ?_
  refine w_rangeC ([_, _] ++ M) (fun i Bx => ∃ B M, Bx = B ++ M ∧ Memo w0 b mm M ∧ B = [(b11, blk 4 [.bool (decide (i = 0))]), (b6, blk 31 [.int .i64 (hullL f ((truths b).take (i))).1, .int .i64 (hullL f ((truths b).take (i))).2])]) (fun c Bx => ∃ B M, Bx = B ++ M ∧ Memo w0 b mm M ∧ False) rfl rfl rfl Try.call106 (truths_iter b p bb mm hk.app.cons.cons bp (ats_own (i := 0) (vs := [_]) rfl rfl)) (clsM_range (fun i B => B = [(b11, blk 4 [.bool (decide (i = 0))]), (b6, blk 31 [.int .i64 (hullL f ((truths b).take (i))).1, .int .i64 (hullL f ((truths b).take (i))).2])]) (fun c B => False) (fun i Bx => Iff.rfl) (fun c Bx => Iff.rfl)) hs22 (hull_perm _ _ _ _ _ _ _) ⟨_, M, rfl, hM, rfl⟩ ?_ ?_ ?_
  ·
   intro lp i hi Bx Xr Xr2 w24 hJ hs K hK23
   obtain ⟨BB, M3, rfl, hM3, rfl⟩ := hJ
   have hi2 : i < (truths b).length := by simpa using hi
   rw [List.getElem_map, List.getElem_map]
   have htm := List.getElem_mem hi2
   have hpl := pad_len hk.ok htm
   have hfa := hf _ htm
   obtain ⟨h, hh⟩ : ∃ h, h = pad4 (truths b)[i] := ⟨_, rfl⟩
   rw [← hh] at hpl hfa ⊢
   have hx3 : Ats w0 ((bp, blk 95 [.pointer (some ⟨bb, 0, none⟩)]) :: (b3, blk 101 [.func (.func fk) f1 cp]) :: (X ++ F)) b3 0 [.func (.func fk) f1 cp] := ats_own (i := 1) rfl rfl
   replace hs := (show St _ _ (_ :: _ :: (M3 ++ (Xr ++ (_ :: _ :: (X ++ F))))) from hs)
   refine w_region ?_
   refine w_alloc (cs := iv [0, 0, 0, 0]) want_none Try.zeroValue100 rfl hs (fun b25 w26 hs27 => ?_)
   refine w_storeI (i := 0) (l := _) want_none Try.sizeOf100 (by first | omega | rfl | (simp only [hpl, List.length_map, List.length_set, List.length_append, List.length_take, List.length_drop, List.length_replicate, List.length_cons, List.length_nil] <;> omega)) rfl rfl rfl rfl rfl hs27 rfl (by first | omega | rfl | (simp only [hpl, List.length_map, List.length_set, List.length_append, List.length_take, List.length_drop, List.length_replicate, List.length_cons, List.length_nil] <;> omega)) (fun w28 hs29 => ?_)
   refine w_nil ?_
   refine q_then (hK23 _ _ (_ :: _ :: _ :: M3) hs29 (fun w30 hs31 => ?_))
   replace hs31 := (show St _ _ (_ :: _ :: _ :: M3 ++ (Xr2 ++ (_ :: _ :: X ++ (F)))) from hs31)
   refine w_block ?_
   refine w_seq (fun K33 hK32 => ?_)
   refine w_region ?_
   refine w_p (y_load1 Try.isAgg101 hs31.tail.tail.tail.drop.drop rfl rfl hx3) rfl ?_
   refine w_p (y_loadI (i := 0) Try.isAgg100 Try.sizeOf100 (by first | omega | rfl | (simp only [hpl, List.length_map, List.length_set, List.length_append, List.length_take, List.length_drop, List.length_replicate, List.length_cons, List.length_nil] <;> omega)) hs31 rfl rfl rfl) rfl ?_
   refine w_callV want_none rfl rfl rfl rfl ((show FCon _ _ _ _ _ from by rw [hh]; exact hf.at (P := [_, _, _]) (M := M3) (Y := Xr2) (Q := [_, _]) (X := X) htm hs31)) ?_
   rintro _ w35 ⟨rfl, hs36⟩
   replace hs36 := (show St _ _ (_ :: _ :: _ :: M3 ++ (Xr2 ++ (_ :: _ :: X ++ (F)))) from hs36)
   refine w_p (y_assign (v := .int _ _) rfl rfl) rfl ?_
   refine w_nil ?_
   refine q_then (hK32 _ _ ?_)
   refine w_seq (fun K38 hK37 => ?_)
   refine w_seq (fun K40 hK39 => ?_)
   refine w_region ?_
   refine w_p (y_load1 Try.isAgg4 hs36 rfl rfl (ats_own (i := 1) (vs := [_]) rfl rfl)) rfl ?_
   refine w_nil ?_
   refine q_then (hK39 _ _ ?_)
   refine w_cond rfl rfl (fun h41 => ?_) (fun h41 => ?_)
   ·
    try simp only [zA, zB, zC, zD, zE, zF] at h41
    refine w_region ?_
    refine w_p (y_move (v := .int _ _) rfl rfl) rfl ?_
    refine w_p (y_move (v := .int _ _) rfl rfl) rfl ?_
    refine w_p (y_build (ps := [(0, _), (1, _)]) (pv := [(0, .int _ _), (1, .int _ _)]) rfl rfl (fun w => Try_K_fb3 _ _ w)) rfl ?_
    refine w_store (i := 2) (v := .agg #[.int _ _, .int _ _]) (vs := [_, _]) want_none Try.sizeOf31 rfl rfl rfl rfl rfl (by simp [Value.oneCell']) hs36 rfl (Nat.le_of_ble_eq_true rfl) (fun w42 hs43 => ?_)
    refine w_store (i := 1) (v := .bool _) (vs := [_]) want_none Try.sizeOf4 rfl rfl rfl rfl rfl (by simp [Value.oneCell']) hs43 rfl (Nat.le_of_ble_eq_true rfl) (fun w44 hs45 => ?_)
    refine w_nil ?_
    refine q_then (hK37 _ _ ?_)
    refine w_region ?_
    refine w_p (y_fieldAddr (o := 0) (i := 0) Try.underlying31 rfl Try.sizeOf3 rfl rfl rfl) rfl ?_
    refine w_p (y_load1 Try.isAgg3 hs45 rfl rfl (ats_own (i := 2) (vs := [_]) rfl rfl)) rfl ?_
    refine w_p (y_move (v := .int _ _) rfl rfl) rfl ?_
    refine w_p (y_min2 rfl rfl rfl rfl) rfl ?_
    refine w_p (y_fieldAddr (o := 1) (i := 1) Try.underlying31 rfl Try.sizeOf3 rfl rfl rfl) rfl ?_
    refine w_p (y_load1 Try.isAgg3 hs45 rfl rfl (ats_own (i := 2) (vs := [_]) rfl rfl)) rfl ?_
    refine w_p (y_move (v := .int _ _) rfl rfl) rfl ?_
    refine w_p (y_max2 rfl rfl rfl rfl) rfl ?_
    refine w_p (y_build (ps := [(0, _), (1, _)]) (pv := [(0, .int _ _), (1, .int _ _)]) rfl rfl (fun w => Try_K_fb3 _ _ w)) rfl ?_
    refine w_store (i := 2) (v := .agg #[.int _ _, .int _ _]) (vs := [_, _]) want_none Try.sizeOf31 rfl rfl rfl rfl rfl (by simp [Value.oneCell']) hs45 rfl (Nat.le_of_ble_eq_true rfl) (fun w46 hs47 => ?_)
    refine w_nil ?_
    refine q_blk_normal ?_
    refine rd_normal (_ :: _ :: M3) hs47.tail ?_
    first
      | exact ⟨_, M3, rfl, hM3, hull_cells (decide_eq_false (by omega)).symm (by rw [hull_first hi2 (by omega)]) (by rw [hull_first hi2 (by omega)])⟩
      | exact ⟨_, M3, rfl, hM3, hull_cells (by rw [decide_eq_false (by omega), decide_eq_false (by omega)]) (by rw [hull_next hi2 (by omega)]) (by rw [hull_next hi2 (by omega)])⟩
   ·
    try simp only [zA, zB, zC, zD, zE, zF] at h41
    refine w_skip ?_
    refine q_then (hK37 _ _ ?_)
    refine w_region ?_
    refine w_p (y_fieldAddr (o := 0) (i := 0) Try.underlying31 rfl Try.sizeOf3 rfl rfl rfl) rfl ?_
    refine w_p (y_load1 Try.isAgg3 hs36 rfl rfl (ats_own (i := 2) (vs := [_]) rfl rfl)) rfl ?_
    refine w_p (y_move (v := .int _ _) rfl rfl) rfl ?_
    refine w_p (y_min2 rfl rfl rfl rfl) rfl ?_
    refine w_p (y_fieldAddr (o := 1) (i := 1) Try.underlying31 rfl Try.sizeOf3 rfl rfl rfl) rfl ?_
    refine w_p (y_load1 Try.isAgg3 hs36 rfl rfl (ats_own (i := 2) (vs := [_]) rfl rfl)) rfl ?_
    refine w_p (y_move (v := .int _ _) rfl rfl) rfl ?_
    refine w_p (y_max2 rfl rfl rfl rfl) rfl ?_
    refine w_p (y_build (ps := [(0, _), (1, _)]) (pv := [(0, .int _ _), (1, .int _ _)]) rfl rfl (fun w => Try_K_fb3 _ _ w)) rfl ?_
    refine w_store (i := 2) (v := .agg #[.int _ _, .int _ _]) (vs := [_, _]) want_none Try.sizeOf31 rfl rfl rfl rfl rfl (by simp [Value.oneCell']) hs36 rfl (Nat.le_of_ble_eq_true rfl) (fun w48 hs49 => ?_)
    refine w_nil ?_
    refine q_blk_normal ?_
    refine rd_normal (_ :: _ :: M3) hs49.tail ?_
    first
      | exact ⟨_, M3, rfl, hM3, hull_cells (decide_eq_false (by omega)).symm (by rw [hull_first hi2 (by omega)]) (by rw [hull_first hi2 (by omega)])⟩
      | exact ⟨_, M3, rfl, hM3, hull_cells (by rw [decide_eq_false (by omega), decide_eq_false (by omega)]) (by rw [hull_next hi2 (by omega)]) (by rw [hull_next hi2 (by omega)])⟩
  ·
   intro bd Bx w50 hJ hs
   obtain ⟨BB, M3, rfl, hM3, rfl⟩ := hJ
   rw [List.length_map, List.length_map, List.take_length] at hs
   replace hs := (show St _ _ (_ :: _ :: _ :: (M3 ++ (_ :: _ :: (X ++ F)))) from hs)
   refine q_blk_normal ?_
   refine q_then (hK16 _ _ ?_)
   refine w_seq (fun K52 hK51 => ?_)
   refine w_region ?_
   refine w_p (y_loadN (vs := [_, _]) Try.isAgg31 Try.sizeOf31 hs rfl rfl (ats_own (i := 2) (vs := [_, _]) rfl rfl)) rfl ?_
   refine w_store (i := 2) (v := .agg #[.int _ _, .int _ _]) (vs := [_, _]) want_none Try.sizeOf31 rfl rfl rfl rfl rfl (by simp [Value.oneCell']) hs rfl (Nat.le_of_ble_eq_true rfl) (fun w53 hs54 => ?_)
   refine w_nil ?_
   refine q_then (hK51 _ _ ?_)
   refine w_ret ?_
   refine q_retM (i := 0) (l := [.cell 4 31]) (vs := [_]) hs54 rfl rfl (fun w55 hs56 => ⟨⟨⟨rfl, _, rfl, run_loadVarN (vs := [_, _]) Try.isAgg31 Try.sizeOf31 hs56 (ats_own (i := 2) (vs := [_, _]) rfl rfl)⟩, trivial⟩, ?_⟩)
   exact ⟨rfl, M3, hM3, mid_back2 hs56.tail.tail.tail⟩
  ·
   intro _ _ _ _ hJ
   obtain ⟨_, _, _, _, h⟩ := hJ
   exact h.elim

end Go.Proofs
/- Walks of this seat, printed by gen.py over the engine: what each function returns, in whatever world. No conditions but those of each contract. -/
set_option linter.unusedVariables false
set_option linter.unusedSimpArgs false
set_option maxRecDepth 20000
namespace Go.Proofs
open Go.Rt Go.Rt.Ch
open Go.Rt.Ha (firstE firstE_step firstE_stop firstE_end failE nameE felt spanL upto span_mem listL fewest fewTo bit before fewStep drop_lt drop_get drop_next drop_done drop_notin set_take set_zero take_less)
attribute [local irreducible] WL WC Con Yd At Ats Sl Agree DW
theorem Try_L_fb3 (x0 : Int) (x1 : Int) (w : World) : (Instr.buildSlice 39 2 [(0, .int .i64 x0), (1, .int .i64 x1)].toArray).run Try.prog w = .ok (.slice (some ⟨w.heap.size, 0, none⟩) 2 2) (w.alloc (Go.Rt.blk 3 [.int .i64 x0, .int .i64 x1])) := by kernel_rfl
theorem hns_h {b : Board} (a : Int) : (check b).2.2 = 0 → ∀ j (hj : 2 * j + 1 < [a, (b.hours.length : Int)].length), 0 ≤ [a, (b.hours.length : Int)][2 * j + 1] ∧ [a, (b.hours.length : Int)][2 * j + 1] ≤ 100 := by
  intro hc j hj
  have := (check_ok hc).lh
  have hj0 : j = 0 := by simp at hj; omega
  subst hj0
  show 0 ≤ (b.hours.length : Int) ∧ (b.hours.length : Int) ≤ 100
  omega
theorem hns_c {b : Board} (a : Int) : (check b).2.2 = 0 → ∀ j (hj : 2 * j + 1 < [a, (b.ctrs.length : Int)].length), 0 ≤ [a, (b.ctrs.length : Int)][2 * j + 1] ∧ [a, (b.ctrs.length : Int)][2 * j + 1] ≤ 100 := by
  intro hc j hj
  have := (check_ok hc).lc
  have hj0 : j = 0 := by simp at hj; omega
  subst hj0
  show 0 ≤ (b.ctrs.length : Int) ∧ (b.ctrs.length : Int) ≤ 100
  omega
theorem hns_b {b : Board} (a : Int) : (check b).2.2 = 0 → ∀ j (hj : 2 * j + 1 < [a, b.holds].length), 0 ≤ [a, b.holds][2 * j + 1] ∧ [a, b.holds][2 * j + 1] ≤ 100 := by
  intro hc j hj
  have := (check_ok hc).holds
  have hj0 : j = 0 := by simp at hj; omega
  subst hj0
  show 0 ≤ b.holds ∧ b.holds ≤ 100
  omega
theorem hns_4 {b : Board} (c a : Int) : (check b).2.2 = 0 → ∀ j (hj : 2 * j + 1 < [c, (b.ctrs.length : Int), a, (b.hours.length : Int)].length), 0 ≤ [c, (b.ctrs.length : Int), a, (b.hours.length : Int)][2 * j + 1] ∧ [c, (b.ctrs.length : Int), a, (b.hours.length : Int)][2 * j + 1] ≤ 100 := by
  intro hc j hj
  have h1 := (check_ok hc).lc
  have h2 := (check_ok hc).lh
  have hj0 : j = 0 ∨ j = 1 := by simp at hj; omega
  rcases hj0 with rfl | rfl
  · show 0 ≤ (b.ctrs.length : Int) ∧ (b.ctrs.length : Int) ≤ 100
    omega
  · show 0 ≤ (b.hours.length : Int) ∧ (b.hours.length : Int) ≤ 100
    omega
theorem idxE_ok {n below : Int} (h : idxE n below = 0) : 0 ≤ n ∧ n < below := by
  unfold idxE at h
  cases ho : out 0 (below - 1) n with
  | true => rw [ho] at h; cases h
  | false => have := out_f.1 ho; omega
theorem wentP_e {b : Board} {a : Int} (h : ¬ enterE b (idxE a b.hours.length) = 0) : wentP b a = ((0, 0), enterE b (idxE a b.hours.length)) := by unfold wentP; rw [if_pos h]
theorem wentP_y {b : Board} {a : Int} (h : enterE b (idxE a b.hours.length) = 0) : wentP b a = (hullL (fun l => ld l a.toNat) (truths b), 0) := by unfold wentP; rw [if_neg (by simp [h])]
theorem holdP_e {b : Board} {a : Int} (h : ¬ enterE b (idxE a b.holds) = 0) : holdP b a = ((0, 0), enterE b (idxE a b.holds)) := by unfold holdP; rw [if_pos h]
theorem holdP_y {b : Board} {a : Int} (h : enterE b (idxE a b.holds) = 0) : holdP b a = (hullL (inH b a) (truths b), 0) := by unfold holdP; rw [if_neg (by simp [h])]
theorem c65 {w0 w : World} {F : List (Nat × Obj)} (l : List Int) (hl4 : l.length = 4) (a : Int) (ha : 0 ≤ a ∧ a < 4) (ba : Nat) (hb : Ats w0 F ba 0 [.int .i64 a]) (hs : St w0 w F) :
  Con Try.prog 65 [ia l, .pointer (some ⟨ba, 0, none⟩)] w fun v w' => v = .int .i64 (ld l a.toNat) ∧ St w0 w' F := by
  refine con_of_wc (n := 7) Try.func65 rfl rfl (Nat.le_of_ble_eq_true rfl) ?_
  refine w_seq (fun K2 hK1 => ?_)
  refine w_region ?_
  refine w_boxI (l := _) want_none rfl rfl rfl hs (fun b3 w4 hs5 => ?_)
  refine w_p (y_assign (v := _) rfl rfl) rfl ?_
  refine w_nil ?_
  refine q_then (hK1 _ _ ?_)
  refine w_seq (fun K7 hK6 => ?_)
  refine w_region ?_
  refine w_p (y_load1 Try.isAgg3 hs5.tail rfl rfl hb) rfl ?_
  refine w_p (y_indexA Try.underlying100 Try.sizeOf3 rfl rfl rfl rfl (i := a.toNat) (by first | rfl | omega) (by omega)) rfl ?_
  refine w_p (y_load1 Try.isAgg3 hs5 rfl rfl (ats_ints (i := 0) (j := a.toNat) rfl (by first | omega | rfl | (simp only [hl4, List.length_map, List.length_set, List.length_append, List.length_take, List.length_drop, List.length_replicate, List.length_cons, List.length_nil] <;> omega)))) rfl ?_
  refine w_p (y_assign (v := .int _ _) rfl rfl) rfl ?_
  refine w_nil ?_
  refine q_then (hK6 _ _ ?_)
  refine w_ret ?_
  refine q_ret (l := [.tmp 3]) (vs := [_]) rfl ⟨⟨rfl, show _ = (.int _ _ : Value) from rfl⟩, trivial⟩ ?_
  exact ⟨rfl, hs5.tail⟩

theorem c69 {w0 w : World} {F : List (Nat × Obj)} (b : Board) (p : AtB) (bb mm : Nat) (hk : BK w0 F b p bb mm) (l : List Int) (hl4 : l.length = 4) (h40 : ∀ k, 0 ≤ ld l k ∧ ld l k ≤ 40) (hold : Int) (bp bh : Nat) (h1 : Ats w0 F bp 0 [.pointer (some ⟨bb, 0, none⟩)]) (h2 : Ats w0 F bh 0 [.int .i64 hold]) (hs : St w0 w F) :
  Con Try.prog 69 [ia l, .pointer (some ⟨bp, 0, none⟩), .pointer (some ⟨bh, 0, none⟩)] w fun v w' => v = .int .i64 (inH b hold l) ∧ St w0 w' F := by
  refine con_of_wc (n := 9) Try.func69 rfl rfl (Nat.le_of_ble_eq_true rfl) ?_
  refine w_seq (fun K2 hK1 => ?_)
  refine w_region ?_
  refine w_boxI (l := _) want_none rfl rfl rfl hs (fun b3 w4 hs5 => ?_)
  refine w_p (y_assign (v := _) rfl rfl) rfl ?_
  refine w_nil ?_
  refine q_then (hK1 _ _ ?_)
  refine w_seq (fun K7 hK6 => ?_)
  refine w_region ?_
  refine w_p (y_load1 Try.isAgg95 hs5.tail rfl rfl h1) rfl ?_
  refine w_p (y_loadI (i := 0) Try.isAgg100 Try.sizeOf100 (by first | omega | rfl | (simp only [hl4, List.length_map, List.length_set, List.length_append, List.length_take, List.length_drop, List.length_replicate, List.length_cons, List.length_nil] <;> omega)) hs5 rfl rfl rfl) rfl ?_
  refine w_p (y_load1 Try.isAgg3 hs5.tail rfl rfl h2) rfl ?_
  refine w_call want_none Try.call70 rfl rfl rfl rfl (c70 b p bb mm hk.cons l hl4 h40 hold hs5) ?_
  rintro _ w9 ⟨rfl, hs10⟩
  refine w_p (y_assign (v := .int _ _) rfl rfl) rfl ?_
  refine w_nil ?_
  refine q_then (hK6 _ _ ?_)
  refine w_ret ?_
  refine q_ret (l := [.tmp 4]) (vs := [_]) rfl ⟨⟨rfl, show _ = (.int _ _ : Value) from rfl⟩, trivial⟩ ?_
  exact ⟨rfl, hs10.tail⟩

theorem c18 {w0 w : World} {F : List (Nat × Obj)} (b : Board) (p : AtB) (hm : BIn w0 F b p) (a : Int) (hs : St w0 w F) :
  Con Try.prog 18 [.agg (b.cells p).toArray, .int .i64 a] w fun v w' => v = .tuple #[.agg #[.int .i64 (wentP b a).1.1, .int .i64 (wentP b a).1.2], .int .i64 (wentP b a).2] ∧ St w0 w' F := by
  refine con_of_wc (n := 24) Try.func18 rfl rfl (Nat.le_of_ble_eq_true rfl) ?_
  have hlh0 := hm.lh
  have hlc0 := hm.lc
  refine w_seq (fun K2 hK1 => ?_)
  refine w_region ?_
  refine w_box (v := .agg #[.int _ _, .slice _ _ _, .slice _ _ _]) (cs := [_, _, _]) want_none rfl rfl rfl hs (fun b3 w4 hs5 => ?_)
  refine w_box (v := .int _ _) (cs := [_]) want_none rfl rfl rfl hs5 (fun b6 w7 hs8 => ?_)
  refine w_alloc (cs := [_, _]) want_none Try.zeroValue31 rfl hs8 (fun b9 w10 hs11 => ?_)
  refine w_p (y_assign (v := _) rfl rfl) rfl ?_
  refine w_nil ?_
  refine q_then (hK1 _ _ ?_)
  refine w_seq (fun K13 hK12 => ?_)
  refine w_region ?_
  refine w_p (y_loadN (vs := [_, _, _]) Try.isAgg25 Try.sizeOf25 hs11 rfl rfl (ats_own (i := 2) (vs := [_, _, _]) rfl rfl)) rfl ?_
  refine w_p (y_load1 Try.isAgg3 hs11 rfl rfl (ats_own (i := 1) (vs := [_]) rfl rfl)) rfl ?_
  refine w_p (y_fieldAddr (o := 1) (i := 1) Try.underlying25 rfl Try.sizeOf22 rfl rfl rfl) rfl ?_
  refine w_p (y_load1 Try.isAgg22 hs11 rfl rfl (ats_own (i := 2) (vs := [_]) rfl rfl)) rfl ?_
  refine w_p (y_lenS Try.underlying22 rfl rfl) rfl ?_
  refine w_bslice (ps := [(0, _), (1, _)]) (pv := [(0, .int _ _), (1, .int _ _)]) (cs := [_, _]) want_none rfl rfl (fun w => Try_L_fb3 _ _ w) hs11 (fun b14 w15 hs16 => ?_)
  refine w_call want_none Try.call63 rfl rfl rfl rfl ((by have h := c63 b _ hm.cons.cons.cons.cons 0 (some ⟨b14, 0, none⟩) 2 [a, (b.hours.length : Int)] (by simp) (by simp) (hns_h a) (sl_own (i := 0) (rows := [[_], [_]]) rfl (by simp) rfl) hs16; rw [pairs_two] at h; exact h)) ?_
  rintro _ w18 (⟨hee, rfl, hs19⟩ | ⟨hee, bb, mm, M, rfl, hM, hs19⟩)
  ·
   refine w_p (y_move (v := .tuple _) rfl rfl) rfl ?_
   refine w_p (y_extract (v := .pointer _) rfl rfl rfl) rfl ?_
   refine w_p (y_extract (v := .int _ _) rfl rfl rfl) rfl ?_
   refine w_p (y_assign (v := .pointer _) rfl rfl) rfl ?_
   refine w_p (y_assign (v := .int _ _) rfl rfl) rfl ?_
   refine w_nil ?_
   refine q_then (hK12 _ _ ?_)
   refine w_seq (fun K21 hK20 => ?_)
   refine w_seq (fun K23 hK22 => ?_)
   refine w_region ?_
   refine w_p (y_move (v := .int _ _) rfl rfl) rfl ?_
   refine w_p (y_neq rfl rfl rfl rfl) rfl ?_
   refine w_nil ?_
   refine q_then (hK22 _ _ ?_)
   refine w_cond rfl rfl (fun h24 => ?_) (fun h24 => ?_)
   ·
    try simp only [zA, zB, zC, zD, zE, zF] at h24
    refine w_seq (fun K26 hK25 => ?_)
    refine w_region ?_
    refine w_p (y_loadN (vs := [_, _]) Try.isAgg31 Try.sizeOf31 hs19 rfl rfl (ats_own (i := 1) (vs := [_, _]) rfl rfl)) rfl ?_
    refine w_p (y_move (v := .int _ _) rfl rfl) rfl ?_
    refine w_store (i := 1) (v := .agg #[.int _ _, .int _ _]) (vs := [_, _]) want_none Try.sizeOf31 rfl rfl rfl rfl rfl (by simp [Value.oneCell']) hs19 rfl (Nat.le_of_ble_eq_true rfl) (fun w27 hs28 => ?_)
    refine w_p (y_assign (v := .int _ _) rfl rfl) rfl ?_
    refine w_nil ?_
    refine q_then (hK25 _ _ ?_)
    refine w_ret ?_
    refine q_then_ret ?_
    refine q_ret (l := [.cell 4 31, .tmp 5]) (vs := [_, _]) rfl ⟨⟨rfl, _, rfl, run_loadVarN (vs := [_, _]) Try.isAgg31 Try.sizeOf31 hs28 (ats_own (i := 1) (vs := [_, _]) rfl rfl)⟩, ⟨rfl, show _ = (.int _ _ : Value) from rfl⟩, trivial⟩ ?_
    exact ⟨by rw [wentP_e hee]; rfl, hs28.tail.tail.tail.tail⟩
   ·
    exfalso
    try simp only [zA, zB, zC, zD, zE, zF] at h24
    first | exact hee h24 | exact h24 hee
  ·
   replace hs19 := (show St _ _ (_ :: M ++ (_ :: _ :: _ :: _ :: F)) from hs19)
   have hs29 := (show St _ _ ([_] ++ (M ++ _)) from hs19).perm (perm_mid [_] M _)
   replace hs29 := (show St _ _ (M ++ (_ :: _ :: _ :: _ :: _ :: F)) from hs29)
   have hew := enterE_ok hee
   have hok := check_ok hew.1
   refine w_p (y_move (v := .tuple _) rfl rfl) rfl ?_
   refine w_p (y_extract (v := .pointer _) rfl rfl rfl) rfl ?_
   refine w_p (y_extract (v := .int _ _) rfl rfl rfl) rfl ?_
   refine w_p (y_assign (v := .pointer _) rfl rfl) rfl ?_
   refine w_p (y_assign (v := .int _ _) rfl rfl) rfl ?_
   refine w_nil ?_
   refine q_then (hK12 _ _ ?_)
   refine w_seq (fun K31 hK30 => ?_)
   refine w_seq (fun K33 hK32 => ?_)
   refine w_region ?_
   refine w_p (y_move (v := .int _ _) rfl rfl) rfl ?_
   refine w_p (y_neq rfl rfl rfl rfl) rfl ?_
   refine w_nil ?_
   refine q_then (hK32 _ _ ?_)
   refine w_condF rfl rfl ?_
   refine w_skip ?_
   refine q_then (hK30 _ _ ?_)
   refine w_seq (fun K35 hK34 => ?_)
   have hia := idxE_ok hew.2.1
   have hlh := hok.lh
   refine w_region ?_
   refine w_p (y_move (v := .pointer _) rfl rfl) rfl ?_
   refine w_p (y_makeFunc (fv := []) (cv := [_]) rfl rfl rfl rfl) rfl ?_
   refine w_call want_none Try.call64 rfl rfl rfl rfl (c64 (X := []) (M := M) (F := (bb, blk 129 [.int .i64 b.holds, .slice p.ah b.hours.length p.ch, .slice p.ac b.ctrs.length p.cc, .map (some mm)]) :: _ :: _ :: _ :: _ :: F) b p bb mm ⟨hm.cons.cons.cons.cons.cons, ats_own (i := 0) rfl rfl, hok⟩ 65 #[] #[.pointer (some ⟨b6, 0, none⟩)] (fun l => ld l a.toNat) (fun l hl X w hs => fcon_fn Try.call65 ((c65 (pad4 l) (pad_len hok hl) a (by omega) _ (Ats.app (ats_own (i := 3) (vs := [_]) rfl rfl)) hs).mono fun v w h => ⟨by rw [h.1, ld_pad], h.2⟩)) hM hs29) ?_
   rintro _ w37 ⟨rfl, M2, hM2, hs38⟩
   replace hs38 := (show St _ _ (M2 ++ (_ :: _ :: _ :: _ :: _ :: F)) from hs38)
   have hs39 := hs38.drop
   refine w_store (i := 2) (v := .agg #[.int _ _, .int _ _]) (vs := [_, _]) want_none Try.sizeOf31 rfl rfl rfl rfl rfl (by simp [Value.oneCell']) hs39 rfl (Nat.le_of_ble_eq_true rfl) (fun w40 hs41 => ?_)
   refine w_p (y_assign (v := _) rfl rfl) rfl ?_
   refine w_nil ?_
   refine q_then (hK34 _ _ ?_)
   refine w_ret ?_
   refine q_ret (l := [.cell 4 31, .tmp 5]) (vs := [_, _]) rfl ⟨⟨rfl, _, rfl, run_loadVarN (vs := [_, _]) Try.isAgg31 Try.sizeOf31 hs41 (ats_own (i := 2) (vs := [_, _]) rfl rfl)⟩, ⟨rfl, show _ = (.int _ _ : Value) from rfl⟩, trivial⟩ ?_
   exact ⟨by rw [wentP_y hee]; rfl, hs41.tail.tail.tail.tail.tail⟩

theorem c20 {w0 w : World} {F : List (Nat × Obj)} (b : Board) (p : AtB) (hm : BIn w0 F b p) (a : Int) (hs : St w0 w F) :
  Con Try.prog 20 [.agg (b.cells p).toArray, .int .i64 a] w fun v w' => v = .tuple #[.agg #[.int .i64 (holdP b a).1.1, .int .i64 (holdP b a).1.2], .int .i64 (holdP b a).2] ∧ St w0 w' F := by
  refine con_of_wc (n := 23) Try.func20 rfl rfl (Nat.le_of_ble_eq_true rfl) ?_
  have hlh0 := hm.lh
  have hlc0 := hm.lc
  refine w_seq (fun K2 hK1 => ?_)
  refine w_region ?_
  refine w_box (v := .agg #[.int _ _, .slice _ _ _, .slice _ _ _]) (cs := [_, _, _]) want_none rfl rfl rfl hs (fun b3 w4 hs5 => ?_)
  refine w_box (v := .int _ _) (cs := [_]) want_none rfl rfl rfl hs5 (fun b6 w7 hs8 => ?_)
  refine w_alloc (cs := [_, _]) want_none Try.zeroValue31 rfl hs8 (fun b9 w10 hs11 => ?_)
  refine w_p (y_assign (v := _) rfl rfl) rfl ?_
  refine w_nil ?_
  refine q_then (hK1 _ _ ?_)
  refine w_seq (fun K13 hK12 => ?_)
  refine w_region ?_
  refine w_p (y_loadN (vs := [_, _, _]) Try.isAgg25 Try.sizeOf25 hs11 rfl rfl (ats_own (i := 2) (vs := [_, _, _]) rfl rfl)) rfl ?_
  refine w_p (y_load1 Try.isAgg3 hs11 rfl rfl (ats_own (i := 1) (vs := [_]) rfl rfl)) rfl ?_
  refine w_p (y_fieldAddr (o := 0) (i := 0) Try.underlying25 rfl Try.sizeOf3 rfl rfl rfl) rfl ?_
  refine w_p (y_load1 Try.isAgg3 hs11 rfl rfl (ats_own (i := 2) (vs := [_]) rfl rfl)) rfl ?_
  refine w_bslice (ps := [(0, _), (1, _)]) (pv := [(0, .int _ _), (1, .int _ _)]) (cs := [_, _]) want_none rfl rfl (fun w => Try_L_fb3 _ _ w) hs11 (fun b14 w15 hs16 => ?_)
  refine w_call want_none Try.call63 rfl rfl rfl rfl ((by have h := c63 b _ hm.cons.cons.cons.cons 0 (some ⟨b14, 0, none⟩) 2 [a, b.holds] (by simp) (by simp) (hns_b a) (sl_own (i := 0) (rows := [[_], [_]]) rfl (by simp) rfl) hs16; rw [pairs_two] at h; exact h)) ?_
  rintro _ w18 (⟨hee, rfl, hs19⟩ | ⟨hee, bb, mm, M, rfl, hM, hs19⟩)
  ·
   refine w_p (y_move (v := .tuple _) rfl rfl) rfl ?_
   refine w_p (y_extract (v := .pointer _) rfl rfl rfl) rfl ?_
   refine w_p (y_extract (v := .int _ _) rfl rfl rfl) rfl ?_
   refine w_alloc (cs := [_]) want_none Try.zeroValue95 rfl hs19 (fun b20 w21 hs22 => ?_)
   refine w_store (i := 0) (v := .pointer _) (vs := [_]) want_none Try.sizeOf95 rfl rfl rfl rfl rfl (by simp [Value.oneCell']) hs22 rfl (Nat.le_of_ble_eq_true rfl) (fun w23 hs24 => ?_)
   refine w_p (y_assign (v := .int _ _) rfl rfl) rfl ?_
   refine w_nil ?_
   refine q_then (hK12 _ _ ?_)
   refine w_seq (fun K26 hK25 => ?_)
   refine w_seq (fun K28 hK27 => ?_)
   refine w_region ?_
   refine w_p (y_move (v := .int _ _) rfl rfl) rfl ?_
   refine w_p (y_neq rfl rfl rfl rfl) rfl ?_
   refine w_nil ?_
   refine q_then (hK27 _ _ ?_)
   refine w_cond rfl rfl (fun h29 => ?_) (fun h29 => ?_)
   ·
    try simp only [zA, zB, zC, zD, zE, zF] at h29
    refine w_seq (fun K31 hK30 => ?_)
    refine w_region ?_
    refine w_p (y_loadN (vs := [_, _]) Try.isAgg31 Try.sizeOf31 hs24 rfl rfl (ats_own (i := 2) (vs := [_, _]) rfl rfl)) rfl ?_
    refine w_p (y_move (v := .int _ _) rfl rfl) rfl ?_
    refine w_store (i := 2) (v := .agg #[.int _ _, .int _ _]) (vs := [_, _]) want_none Try.sizeOf31 rfl rfl rfl rfl rfl (by simp [Value.oneCell']) hs24 rfl (Nat.le_of_ble_eq_true rfl) (fun w32 hs33 => ?_)
    refine w_p (y_assign (v := .int _ _) rfl rfl) rfl ?_
    refine w_nil ?_
    refine q_then (hK30 _ _ ?_)
    refine w_ret ?_
    refine q_then_ret ?_
    refine q_ret (l := [.cell 4 31, .tmp 5]) (vs := [_, _]) rfl ⟨⟨rfl, _, rfl, run_loadVarN (vs := [_, _]) Try.isAgg31 Try.sizeOf31 hs33 (ats_own (i := 2) (vs := [_, _]) rfl rfl)⟩, ⟨rfl, show _ = (.int _ _ : Value) from rfl⟩, trivial⟩ ?_
    exact ⟨by rw [holdP_e hee]; rfl, hs33.tail.tail.tail.tail.tail⟩
   ·
    exfalso
    try simp only [zA, zB, zC, zD, zE, zF] at h29
    first | exact hee h29 | exact h29 hee
  ·
   replace hs19 := (show St _ _ (_ :: M ++ (_ :: _ :: _ :: _ :: F)) from hs19)
   have hs34 := (show St _ _ ([_] ++ (M ++ _)) from hs19).perm (perm_mid [_] M _)
   replace hs34 := (show St _ _ (M ++ (_ :: _ :: _ :: _ :: _ :: F)) from hs34)
   have hew := enterE_ok hee
   have hok := check_ok hew.1
   refine w_p (y_move (v := .tuple _) rfl rfl) rfl ?_
   refine w_p (y_extract (v := .pointer _) rfl rfl rfl) rfl ?_
   refine w_p (y_extract (v := .int _ _) rfl rfl rfl) rfl ?_
   refine w_alloc (cs := [_]) want_none Try.zeroValue95 rfl hs34 (fun b35 w36 hs37 => ?_)
   refine w_store (i := 0) (v := .pointer _) (vs := [_]) want_none Try.sizeOf95 rfl rfl rfl rfl rfl (by simp [Value.oneCell']) hs37 rfl (Nat.le_of_ble_eq_true rfl) (fun w38 hs39 => ?_)
   refine w_p (y_assign (v := .int _ _) rfl rfl) rfl ?_
   refine w_nil ?_
   refine q_then (hK12 _ _ ?_)
   refine w_seq (fun K41 hK40 => ?_)
   refine w_seq (fun K43 hK42 => ?_)
   refine w_region ?_
   refine w_p (y_move (v := .int _ _) rfl rfl) rfl ?_
   refine w_p (y_neq rfl rfl rfl rfl) rfl ?_
   refine w_nil ?_
   refine q_then (hK42 _ _ ?_)
   refine w_condF rfl rfl ?_
   refine w_skip ?_
   refine q_then (hK40 _ _ ?_)
   refine w_seq (fun K45 hK44 => ?_)
   have hia := idxE_ok hew.2.1
   have hlh := hok.lh
   refine w_region ?_
   refine w_p (y_load1 Try.isAgg95 hs39 rfl rfl (ats_own (i := 0) (vs := [_]) rfl rfl)) rfl ?_
   refine w_p (y_makeFunc (fv := []) (cv := [_, _]) rfl rfl rfl rfl) rfl ?_
   have hs46 := (show St _ _ ([_] ++ (M ++ _)) from hs39).perm (perm_mid [_] M _)
   replace hs46 := (show St _ _ (M ++ (_ :: _ :: _ :: _ :: _ :: _ :: F)) from hs46)
   refine w_call want_none Try.call64 rfl rfl rfl rfl (c64 (X := []) (M := M) (F := _ :: (bb, blk 129 [.int .i64 b.holds, .slice p.ah b.hours.length p.ch, .slice p.ac b.ctrs.length p.cc, .map (some mm)]) :: _ :: _ :: _ :: _ :: F) b p bb mm ⟨hm.cons.cons.cons.cons.cons.cons, ats_own (i := 1) rfl rfl, hok⟩ 69 #[] #[.pointer (some ⟨b35, 0, none⟩), .pointer (some ⟨b6, 0, none⟩)] (inH b a) (fun l hl X w hs => fcon_fn Try.call69 ((c69 b p bb mm (BK.app ⟨hm.cons.cons.cons.cons.cons.cons, ats_own (i := 1) rfl rfl, hok⟩) (pad4 l) (pad_len hok hl) (fun k => by rw [ld_pad]; exact ld_40 hok hl k) a _ _ (Ats.app (ats_own (i := 0) (vs := [_]) rfl rfl)) (Ats.app (ats_own (i := 4) (vs := [_]) rfl rfl)) hs).mono fun v w h => ⟨by rw [h.1, inH_pad], h.2⟩)) hM hs46) ?_
   rintro _ w48 ⟨rfl, M2, hM2, hs49⟩
   replace hs49 := (show St _ _ (M2 ++ (_ :: _ :: _ :: _ :: _ :: _ :: F)) from hs49)
   have hs50 := hs49.drop
   refine w_store (i := 3) (v := .agg #[.int _ _, .int _ _]) (vs := [_, _]) want_none Try.sizeOf31 rfl rfl rfl rfl rfl (by simp [Value.oneCell']) hs50 rfl (Nat.le_of_ble_eq_true rfl) (fun w51 hs52 => ?_)
   refine w_p (y_assign (v := _) rfl rfl) rfl ?_
   refine w_nil ?_
   refine q_then (hK44 _ _ ?_)
   refine w_ret ?_
   refine q_ret (l := [.cell 4 31, .tmp 5]) (vs := [_, _]) rfl ⟨⟨rfl, _, rfl, run_loadVarN (vs := [_, _]) Try.isAgg31 Try.sizeOf31 hs52 (ats_own (i := 3) (vs := [_, _]) rfl rfl)⟩, ⟨rfl, show _ = (.int _ _ : Value) from rfl⟩, trivial⟩ ?_
   exact ⟨by rw [holdP_y hee]; rfl, hs52.tail.tail.tail.tail.tail.tail⟩

end Go.Proofs
/- Walks of this seat, printed by gen.py over the engine: what each function returns, in whatever world. No conditions but those of each contract. -/
set_option linter.unusedVariables false
set_option linter.unusedSimpArgs false
set_option maxRecDepth 20000
namespace Go.Proofs
open Go.Rt Go.Rt.Ch
open Go.Rt.Ha (firstE firstE_step firstE_stop firstE_end failE nameE felt spanL upto span_mem listL fewest fewTo bit before fewStep drop_lt drop_get drop_next drop_done drop_notin set_take set_zero take_less)
attribute [local irreducible] WL WC Con Yd At Ats Sl Agree DW
theorem Try_M_fb3 (x0 : Int) (x1 : Int) (w : World) : (Instr.buildSlice 39 2 [(0, .int .i64 x0), (1, .int .i64 x1)].toArray).run Try.prog w = .ok (.slice (some ⟨w.heap.size, 0, none⟩) 2 2) (w.alloc (Go.Rt.blk 3 [.int .i64 x0, .int .i64 x1])) := by kernel_rfl
theorem Try_M_fb4 (x0 : Int) (x1 : Int) (x2 : Int) (x3 : Int) (w : World) : (Instr.buildSlice 39 4 [(0, .int .i64 x0), (1, .int .i64 x1), (2, .int .i64 x2), (3, .int .i64 x3)].toArray).run Try.prog w = .ok (.slice (some ⟨w.heap.size, 0, none⟩) 4 4) (w.alloc (Go.Rt.blk 3 [.int .i64 x0, .int .i64 x1, .int .i64 x2, .int .i64 x3])) := by kernel_rfl
theorem ask_perm (p a c e f g : Nat × Obj) (X M F : List (Nat × Obj)) : (p :: a :: c :: e :: f :: g :: (X ++ (M ++ F))).Perm (([a, c] ++ M) ++ (p :: e :: f :: g :: (X ++ F))) :=
  (perm_mid [p] [a, c] (e :: f :: g :: (X ++ (M ++ F)))).trans (List.Perm.append_left [a, c] (perm_mid (p :: e :: f :: g :: X) M F))
theorem mid_back4 {w0 w : World} {a c e f : Nat × Obj} {X M F : List (Nat × Obj)} (h : St w0 w (M ++ (a :: c :: e :: f :: (X ++ F)))) : St w0 w (X ++ (M ++ F)) := by
  have h1 := (h.perm (perm_mid M [a, c, e, f] (X ++ F))).tail.tail.tail.tail
  exact St.perm (L := M ++ (X ++ F)) h1 (perm_mid M X F)
theorem ask_cells {b7 b6 : Nat} {x x' y y' : Bool} (h1 : x = x') (h2 : y = y') : ([(b7, blk 4 [.bool x]), (b6, blk 4 [.bool y])] : List (Nat × Obj)) = [(b7, blk 4 [.bool x']), (b6, blk 4 [.bool y'])] := by subst h1 h2; rfl
theorem any_step {α : Type} {p : α → Bool} {l : List α} {i : Nat} (hi : i < l.length) : (l.take (i + 1)).any p = ((l.take i).any p || p l[i]) := by rw [List.take_succ_eq_append_getElem hi, List.any_append]; simp
theorem toldN_eq (n m : Bool) : toldN n m = if n = false then 1 else if m = false then 2 else 0 := by cases n <;> cases m <;> rfl
theorem rightP_e {b : Board} {a : Int} (h : ¬ enterE b (idxE a b.ctrs.length) = 0) : rightP b a = (0, enterE b (idxE a b.ctrs.length)) := by unfold rightP; rw [if_pos h]
theorem rightP_y {b : Board} {a : Int} (h : enterE b (idxE a b.ctrs.length) = 0) : rightP b a = (toldN (askM b a.toNat slips) (askN b a.toNat slips), 0) := by unfold rightP; rw [if_neg (by simp [h])]
theorem zeroP_e {b : Board} {a e : Int} (h : ¬ enterE b (idx2 a b.ctrs.length e b.hours.length) = 0) : zeroP b a e = (0, enterE b (idx2 a b.ctrs.length e b.hours.length)) := by unfold zeroP; rw [if_pos h]
theorem zeroP_y {b : Board} {a e : Int} (h : enterE b (idx2 a b.ctrs.length e b.hours.length) = 0) : zeroP b a e = (toldN (askN b a.toNat (zeroed e.toNat)) (askM b a.toNat (zeroed e.toNat)), 0) := by unfold zeroP; rw [if_neg (by simp [h])]
theorem idx2_ok {c n a m : Int} (h : idx2 c n a m = 0) : (0 ≤ c ∧ c < n) ∧ (0 ≤ a ∧ a < m) := by
  unfold idx2 at h
  by_cases h1 : idxE c n = 0
  · rw [if_neg (by simp [h1])] at h; exact ⟨idxE_ok h1, idxE_ok h⟩
  · rw [if_pos h1] at h; exact absurd h h1
theorem QIs.mid {w0 w : World} {P M Y Q X F : List (Nat × Obj)} {b : Board} {p : AtB} {bb mm : Nat} (hk : BK w0 F b p bb mm) {c : Nat} (hc : c < b.ctrs.length) {l : List Int} (hl : l ∈ truths b) {fk : FuncId} {f1 cp : Array Value} {q : Quest} (h : QIs w0 F (.func (.func fk) f1 cp) q) (hM : Memo w0 b mm M) (hs : St w0 w (P ++ (M ++ (Y ++ (Q ++ (X ++ F)))))) :
    Con Try.prog 99 [.pointer (some ⟨bb, 0, none⟩), .int .i64 (c : Int), ia (pad4 l), .agg #[.func (.func fk) f1 cp]] w fun v w' => ∃ M', v = .tuple #[.bool (notF (ctrOf b c) l q b.hours.length), .bool (metF (ctrOf b c) l q b.hours.length)] ∧ Memo w0 b mm M' ∧ St w0 w' (P ++ (M' ++ (Y ++ (Q ++ (X ++ F))))) := by
  have e : ∀ M : List (Nat × Obj), P ++ (M ++ (Y ++ (Q ++ (X ++ F)))) = P ++ (M ++ ((Y ++ (Q ++ X)) ++ F)) := fun M => by simp only [List.append_assoc]
  rw [e] at hs
  have h1 := c99 b p bb mm (hk.app (B := Y ++ (Q ++ X))) c hc (pad4 l) (pad_len hk.ok hl) (fun i hi => by rw [ld_pad]; exact (truth_in hl).2 i hi) fk f1 cp q h.app hM hs
  rw [not_pad, met_pad] at h1
  exact h1.mono fun _ _ ⟨M', h2, h3, h4⟩ => ⟨M', h2, h3, by rw [e]; exact h4⟩
theorem c72 {w0 w : World} {X M F : List (Nat × Obj)} (b : Board) (p : AtB) (bb mm : Nat) (hk : BK w0 F b p bb mm) (c : Nat) (hc : c < b.ctrs.length) (fk : FuncId) (f1 cp : Array Value) (q : Quest) (hq : QIs w0 F (.func (.func fk) f1 cp) q) (hM : Memo w0 b mm M) (hs : St w0 w (X ++ (M ++ F))) :
  Con Try.prog 72 [.pointer (some ⟨bb, 0, none⟩), .int .i64 (c : Int), .agg #[.func (.func fk) f1 cp]] w fun v w' => v = .tuple #[.bool (askN b c q), .bool (askM b c q)] ∧ ∃ M', Memo w0 b mm M' ∧ St w0 w' (X ++ (M' ++ F)) := by
  refine con_of_wcM (n := 32) Try.func72 rfl rfl (Nat.le_of_ble_eq_true rfl) ?_
  refine w_seq (fun K2 hK1 => ?_)
  refine w_region ?_
  refine w_box (v := .pointer _) (cs := [_]) want_none rfl rfl rfl hs (fun b3 w4 hs5 => ?_)
  refine w_box (v := .int _ _) (cs := [_]) want_none rfl rfl rfl hs5 (fun b6 w7 hs8 => ?_)
  refine w_box (v := .agg #[.func _ _ _]) (cs := [_]) want_none rfl rfl rfl hs8 (fun b9 w10 hs11 => ?_)
  refine w_alloc (cs := [_]) want_none Try.zeroValue4 rfl hs11 (fun b12 w13 hs14 => ?_)
  refine w_alloc (cs := [_]) want_none Try.zeroValue4 rfl hs14 (fun b15 w16 hs17 => ?_)
  refine w_nil ?_
  refine q_then (hK1 _ _ ?_)
  refine w_seq (fun K19 hK18 => ?_)
  refine w_seq (fun K21 hK20 => ?_)
  refine w_region ?_
  refine w_p (y_load1 Try.isAgg95 hs17 rfl rfl (ats_own (i := 4) (vs := [_]) rfl rfl)) rfl ?_
  refine w_call want_none Try.call80 rfl rfl rfl rfl (c80 _ hs17) ?_
  rintro _ w23 ⟨bp, rfl, hs24⟩
  refine w_nil ?_
  refine q_then (hK20 _ _ ?_)
  refine w_block ?_
  refine w_rangeC ([_, _] ++ M) (fun i Bx => ∃ B M, Bx = B ++ M ∧ Memo w0 b mm M ∧ B = [(b15, blk 4 [.bool (((truths b).take (i)).any fun l => metF (ctrOf b c) l q b.hours.length)]), (b12, blk 4 [.bool (((truths b).take (i)).any fun l => notF (ctrOf b c) l q b.hours.length)])]) (fun c Bx => ∃ B M, Bx = B ++ M ∧ Memo w0 b mm M ∧ False) rfl rfl rfl Try.call106 (truths_iter b p bb mm hk.app.cons.cons.cons.cons bp (ats_own (i := 0) (vs := [_]) rfl rfl)) (clsM_range (fun i B => B = [(b15, blk 4 [.bool (((truths b).take (i)).any fun l => metF (ctrOf b c) l q b.hours.length)]), (b12, blk 4 [.bool (((truths b).take (i)).any fun l => notF (ctrOf b c) l q b.hours.length)])]) (fun c B => False) (fun i Bx => Iff.rfl) (fun c Bx => Iff.rfl)) hs24 (ask_perm _ _ _ _ _ _ _ _ _) ⟨_, M, rfl, hM, rfl⟩ ?_ ?_ ?_
  ·
   intro lp i hi Bx Xr Xr2 w26 hJ hs K hK25
   obtain ⟨BB, M3, rfl, hM3, rfl⟩ := hJ
   have hi2 : i < (truths b).length := by simpa using hi
   rw [List.getElem_map, List.getElem_map]
   have htm := List.getElem_mem hi2
   have hpl := pad_len hk.ok htm
   obtain ⟨h, hh⟩ : ∃ h, h = pad4 (truths b)[i] := ⟨_, rfl⟩
   rw [← hh] at hpl ⊢
   have hx3 : Ats w0 ((bp, blk 95 [.pointer (some ⟨bb, 0, none⟩)]) :: (b9, blk 112 [.func (.func fk) f1 cp]) :: (b6, blk 3 [.int .i64 (c : Int)]) :: (b3, blk 95 [.pointer (some ⟨bb, 0, none⟩)]) :: (X ++ F)) b3 0 [.pointer (some ⟨bb, 0, none⟩)] := ats_own (i := 3) rfl rfl
   have hx4 : Ats w0 ((bp, blk 95 [.pointer (some ⟨bb, 0, none⟩)]) :: (b9, blk 112 [.func (.func fk) f1 cp]) :: (b6, blk 3 [.int .i64 (c : Int)]) :: (b3, blk 95 [.pointer (some ⟨bb, 0, none⟩)]) :: (X ++ F)) b6 0 [.int .i64 (c : Int)] := ats_own (i := 2) rfl rfl
   have hx5 : Ats w0 ((bp, blk 95 [.pointer (some ⟨bb, 0, none⟩)]) :: (b9, blk 112 [.func (.func fk) f1 cp]) :: (b6, blk 3 [.int .i64 (c : Int)]) :: (b3, blk 95 [.pointer (some ⟨bb, 0, none⟩)]) :: (X ++ F)) b9 0 [.func (.func fk) f1 cp] := ats_own (i := 1) rfl rfl
   replace hs := (show St _ _ (_ :: _ :: (M3 ++ (Xr ++ ((bp, blk 95 [.pointer (some ⟨bb, 0, none⟩)]) :: (b9, blk 112 [.func (.func fk) f1 cp]) :: (b6, blk 3 [.int .i64 (c : Int)]) :: (b3, blk 95 [.pointer (some ⟨bb, 0, none⟩)]) :: (X ++ F))))) from hs)
   refine w_region ?_
   refine w_alloc (cs := iv [0, 0, 0, 0]) want_none Try.zeroValue100 rfl hs (fun b27 w28 hs29 => ?_)
   refine w_storeI (i := 0) (l := _) want_none Try.sizeOf100 (by first | omega | rfl | (simp only [hpl, List.length_map, List.length_set, List.length_append, List.length_take, List.length_drop, List.length_replicate, List.length_cons, List.length_nil] <;> omega)) rfl rfl rfl rfl rfl hs29 rfl (by first | omega | rfl | (simp only [hpl, List.length_map, List.length_set, List.length_append, List.length_take, List.length_drop, List.length_replicate, List.length_cons, List.length_nil] <;> omega)) (fun w30 hs31 => ?_)
   refine w_nil ?_
   refine q_then (hK25 _ _ (_ :: _ :: _ :: M3) hs31 (fun w32 hs33 => ?_))
   replace hs33 := (show St _ _ (_ :: _ :: _ :: M3 ++ (Xr2 ++ (_ :: _ :: _ :: _ :: X ++ (F)))) from hs33)
   refine w_block ?_
   refine w_seq (fun K35 hK34 => ?_)
   refine w_region ?_
   refine w_p (y_load1 Try.isAgg95 hs33.tail.tail.tail.drop.drop rfl rfl hx3) rfl ?_
   refine w_p (y_load1 Try.isAgg3 hs33.tail.tail.tail.drop.drop rfl rfl hx4) rfl ?_
   refine w_p (y_loadI (i := 0) Try.isAgg100 Try.sizeOf100 (by first | omega | rfl | (simp only [hpl, List.length_map, List.length_set, List.length_append, List.length_take, List.length_drop, List.length_replicate, List.length_cons, List.length_nil] <;> omega)) hs33 rfl rfl rfl) rfl ?_
   refine w_p (y_loadN (vs := [_]) Try.isAgg112 Try.sizeOf112 hs33.tail.tail.tail.drop.drop rfl rfl hx5) rfl ?_
   refine w_call want_none Try.call99 rfl rfl rfl rfl ((show Con _ _ _ _ _ from by rw [hh]; exact QIs.mid (P := [_, _, _]) (M := M3) (Y := Xr2) (Q := [_, _, _, _]) (X := X) hk hc htm hq hM3 hs33)) ?_
   rintro _ w37 ⟨M4, rfl, hM4, hs38⟩
   replace hs38 := (show St _ _ (_ :: _ :: _ :: M4 ++ (Xr2 ++ (_ :: _ :: _ :: _ :: X ++ (F)))) from hs38)
   refine w_p (y_move (v := .tuple _) rfl rfl) rfl ?_
   refine w_p (y_extract (v := .bool _) rfl rfl rfl) rfl ?_
   refine w_p (y_extract (v := .bool _) rfl rfl rfl) rfl ?_
   refine w_p (y_assign (v := .bool _) rfl rfl) rfl ?_
   refine w_p (y_assign (v := .bool _) rfl rfl) rfl ?_
   refine w_nil ?_
   refine q_then (hK34 _ _ ?_)
   refine w_seq (fun K40 hK39 => ?_)
   refine w_region ?_
   refine w_p (y_load1 Try.isAgg4 hs38 rfl rfl (ats_own (i := 2) (vs := [_]) rfl rfl)) rfl ?_
   refine w_p (y_move (v := .bool _) rfl rfl) rfl ?_
   refine w_split (fun h41 => ?_) (fun h41 => ?_)
   ·
    try simp only [zA, zB, zC, zD, zE, zF] at h41
    refine w_skipop rfl rfl rfl ?_
    refine w_p (y_pickT (v := _) rfl rfl rfl rfl) rfl ?_
    refine w_store (i := 2) (v := .bool _) (vs := [_]) want_none Try.sizeOf4 rfl rfl rfl rfl rfl (by simp [Value.oneCell']) hs38 rfl (Nat.le_of_ble_eq_true rfl) (fun w42 hs43 => ?_)
    refine w_nil ?_
    refine q_then (hK39 _ _ ?_)
    refine w_region ?_
    refine w_p (y_load1 Try.isAgg4 hs43 rfl rfl (ats_own (i := 1) (vs := [_]) rfl rfl)) rfl ?_
    refine w_p (y_move (v := .bool _) rfl rfl) rfl ?_
    refine w_split (fun h44 => ?_) (fun h44 => ?_)
    ·
     try simp only [zA, zB, zC, zD, zE, zF] at h44
     refine w_skipop rfl rfl rfl ?_
     refine w_p (y_pickT (v := _) rfl rfl rfl rfl) rfl ?_
     refine w_store (i := 1) (v := .bool _) (vs := [_]) want_none Try.sizeOf4 rfl rfl rfl rfl rfl (by simp [Value.oneCell']) hs43 rfl (Nat.le_of_ble_eq_true rfl) (fun w45 hs46 => ?_)
     refine w_nil ?_
     refine q_blk_normal ?_
     refine rd_normal (_ :: _ :: M4) hs46.tail ?_
     exact ⟨_, M4, rfl, hM4, ask_cells (by rw [any_step hi2]; simp [*]) (by rw [any_step hi2]; simp [*])⟩
    ·
     try simp only [zA, zB, zC, zD, zE, zF] at h44
     refine w_y rfl rfl rfl (y_move (v := .bool _) rfl rfl) rfl ?_
     refine w_p (y_pickF (v := .bool _) rfl rfl rfl rfl) rfl ?_
     refine w_store (i := 1) (v := .bool _) (vs := [_]) want_none Try.sizeOf4 rfl rfl rfl rfl rfl (by simp [Value.oneCell']) hs43 rfl (Nat.le_of_ble_eq_true rfl) (fun w47 hs48 => ?_)
     refine w_nil ?_
     refine q_blk_normal ?_
     refine rd_normal (_ :: _ :: M4) hs48.tail ?_
     exact ⟨_, M4, rfl, hM4, ask_cells (by rw [any_step hi2]; simp [*]) (by rw [any_step hi2]; simp [*])⟩
   ·
    try simp only [zA, zB, zC, zD, zE, zF] at h41
    refine w_y rfl rfl rfl (y_move (v := .bool _) rfl rfl) rfl ?_
    refine w_p (y_pickF (v := .bool _) rfl rfl rfl rfl) rfl ?_
    refine w_store (i := 2) (v := .bool _) (vs := [_]) want_none Try.sizeOf4 rfl rfl rfl rfl rfl (by simp [Value.oneCell']) hs38 rfl (Nat.le_of_ble_eq_true rfl) (fun w49 hs50 => ?_)
    refine w_nil ?_
    refine q_then (hK39 _ _ ?_)
    refine w_region ?_
    refine w_p (y_load1 Try.isAgg4 hs50 rfl rfl (ats_own (i := 1) (vs := [_]) rfl rfl)) rfl ?_
    refine w_p (y_move (v := .bool _) rfl rfl) rfl ?_
    refine w_split (fun h51 => ?_) (fun h51 => ?_)
    ·
     try simp only [zA, zB, zC, zD, zE, zF] at h51
     refine w_skipop rfl rfl rfl ?_
     refine w_p (y_pickT (v := _) rfl rfl rfl rfl) rfl ?_
     refine w_store (i := 1) (v := .bool _) (vs := [_]) want_none Try.sizeOf4 rfl rfl rfl rfl rfl (by simp [Value.oneCell']) hs50 rfl (Nat.le_of_ble_eq_true rfl) (fun w52 hs53 => ?_)
     refine w_nil ?_
     refine q_blk_normal ?_
     refine rd_normal (_ :: _ :: M4) hs53.tail ?_
     exact ⟨_, M4, rfl, hM4, ask_cells (by rw [any_step hi2]; simp [*]) (by rw [any_step hi2]; simp [*])⟩
    ·
     try simp only [zA, zB, zC, zD, zE, zF] at h51
     refine w_y rfl rfl rfl (y_move (v := .bool _) rfl rfl) rfl ?_
     refine w_p (y_pickF (v := .bool _) rfl rfl rfl rfl) rfl ?_
     refine w_store (i := 1) (v := .bool _) (vs := [_]) want_none Try.sizeOf4 rfl rfl rfl rfl rfl (by simp [Value.oneCell']) hs50 rfl (Nat.le_of_ble_eq_true rfl) (fun w54 hs55 => ?_)
     refine w_nil ?_
     refine q_blk_normal ?_
     refine rd_normal (_ :: _ :: M4) hs55.tail ?_
     exact ⟨_, M4, rfl, hM4, ask_cells (by rw [any_step hi2]; simp [*]) (by rw [any_step hi2]; simp [*])⟩
  ·
   intro bd Bx w56 hJ hs
   obtain ⟨BB, M3, rfl, hM3, rfl⟩ := hJ
   rw [List.length_map, List.length_map, List.take_length] at hs
   replace hs := (show St _ _ (_ :: _ :: _ :: (M3 ++ ((bp, blk 95 [.pointer (some ⟨bb, 0, none⟩)]) :: (b9, blk 112 [.func (.func fk) f1 cp]) :: (b6, blk 3 [.int .i64 (c : Int)]) :: (b3, blk 95 [.pointer (some ⟨bb, 0, none⟩)]) :: (X ++ F)))) from hs)
   refine q_blk_normal ?_
   refine q_then (hK18 _ _ ?_)
   refine w_seq (fun K58 hK57 => ?_)
   refine w_draw [3] [(0, 1), (1, 1), (2, 2), (3, 3)] Try_mo (drawOK_of (by kernel_rfl)) hs (fun w59 hs60 => ?_)
   refine d_take rfl want_none rfl hs60 (fun _ hq => (y_load1 Try.isAgg4 hq rfl rfl (ats_own (i := 2) (vs := [_]) rfl rfl))) ?_
   refine d_take rfl want_none rfl hs60 (fun _ hq => (y_load1 Try.isAgg4 hq rfl rfl (ats_own (i := 1) (vs := [_]) rfl rfl))) ?_
   refine d_eff rfl ?_
   refine w_store (i := 2) (v := .bool _) (vs := [_]) want_none Try.sizeOf4 rfl rfl rfl rfl rfl (by simp [Value.oneCell']) hs60 rfl (Nat.le_of_ble_eq_true rfl) (fun w61 hs62 => ?_)
   refine w_nil ?_
   refine qn ⟨hs62, ?_⟩
   refine d_late rfl ?_
   refine w_store (i := 1) (v := .bool _) (vs := [_]) want_none Try.sizeOf4 rfl rfl rfl rfl rfl (by simp [Value.oneCell']) hs62 rfl (Nat.le_of_ble_eq_true rfl) (fun w63 hs64 => ?_)
   refine w_nil ?_
   refine qn ?_
   refine d_nil ?_
   refine q_then (hK57 _ _ ?_)
   refine w_ret ?_
   refine q_retM (i := 0) (l := [.cell 6 4, .cell 7 4]) (vs := [_, _]) hs64 rfl rfl (fun w65 hs66 => ⟨⟨⟨rfl, _, rfl, run_loadVar1 Try.isAgg4 hs66 (ats_own (i := 2) (vs := [_]) rfl rfl)⟩, ⟨rfl, _, rfl, run_loadVar1 Try.isAgg4 hs66 (ats_own (i := 1) (vs := [_]) rfl rfl)⟩, trivial⟩, ?_⟩)
   exact ⟨rfl, M3, hM3, mid_back4 hs66.tail.tail.tail⟩
  ·
   intro _ _ _ _ hJ
   obtain ⟨_, _, _, _, h⟩ := hJ
   exact h.elim

theorem c74 {w0 w : World} {F : List (Nat × Obj)} (n m : Bool) (hs : St w0 w F) :
  Con Try.prog 74 [.bool n, .bool m] w fun v w' => v = .int .i64 (toldN n m) ∧ St w0 w' F := by
  refine con_of_wc (n := 11) Try.func74 rfl rfl (Nat.le_of_ble_eq_true rfl) ?_
  refine w_seq (fun K2 hK1 => ?_)
  refine w_region ?_
  refine w_p (y_assign (v := _) rfl rfl) rfl ?_
  refine w_nil ?_
  refine q_then (hK1 _ _ ?_)
  refine w_seq (fun K4 hK3 => ?_)
  refine w_block ?_
  refine w_seq (fun K6 hK5 => ?_)
  refine w_region ?_
  refine w_p (y_move (v := .bool _) rfl rfl) rfl ?_
  refine w_p (y_not rfl rfl) rfl ?_
  refine w_p (y_assign (v := .bool _) rfl rfl) rfl ?_
  refine w_nil ?_
  refine q_then (hK5 _ _ ?_)
  refine w_cond rfl rfl (fun h7 => ?_) (fun h7 => ?_)
  ·
   try simp only [zA, zB, zC, zD, zE, zF] at h7
   refine w_seq (fun K9 hK8 => ?_)
   refine w_region ?_
   refine w_p (y_assign (v := _) rfl rfl) rfl ?_
   refine w_nil ?_
   refine q_then (hK8 _ _ ?_)
   refine w_ret ?_
   refine q_blk_ret ?_
   refine q_then_ret ?_
   refine q_ret (l := [.tmp 4]) (vs := [_]) rfl ⟨⟨rfl, show _ = (.int _ _ : Value) from rfl⟩, trivial⟩ ?_
   exact ⟨congrArg (Value.int .i64) (by rw [toldN_eq]; simp [*]), hs⟩
  ·
   try simp only [zA, zB, zC, zD, zE, zF] at h7
   refine w_seq (fun K11 hK10 => ?_)
   refine w_region ?_
   refine w_p (y_move (v := .bool _) rfl rfl) rfl ?_
   refine w_p (y_not rfl rfl) rfl ?_
   refine w_p (y_assign (v := .bool _) rfl rfl) rfl ?_
   refine w_nil ?_
   refine q_then (hK10 _ _ ?_)
   refine w_cond rfl rfl (fun h12 => ?_) (fun h12 => ?_)
   ·
    try simp only [zA, zB, zC, zD, zE, zF] at h12
    refine w_seq (fun K14 hK13 => ?_)
    refine w_region ?_
    refine w_p (y_assign (v := _) rfl rfl) rfl ?_
    refine w_nil ?_
    refine q_then (hK13 _ _ ?_)
    refine w_ret ?_
    refine q_blk_ret ?_
    refine q_then_ret ?_
    refine q_ret (l := [.tmp 4]) (vs := [_]) rfl ⟨⟨rfl, show _ = (.int _ _ : Value) from rfl⟩, trivial⟩ ?_
    exact ⟨congrArg (Value.int .i64) (by rw [toldN_eq]; simp [*]), hs⟩
   ·
    try simp only [zA, zB, zC, zD, zE, zF] at h12
    refine w_skip ?_
    refine q_blk_normal ?_
    refine q_then (hK3 _ _ ?_)
    refine w_seq (fun K16 hK15 => ?_)
    refine w_region ?_
    refine w_p (y_assign (v := _) rfl rfl) rfl ?_
    refine w_nil ?_
    refine q_then (hK15 _ _ ?_)
    refine w_ret ?_
    refine q_ret (l := [.tmp 4]) (vs := [_]) rfl ⟨⟨rfl, show _ = (.int _ _ : Value) from rfl⟩, trivial⟩ ?_
    exact ⟨congrArg (Value.int .i64) (by rw [toldN_eq]; simp [*]), hs⟩

theorem c23 {w0 w : World} {F : List (Nat × Obj)} (b : Board) (p : AtB) (hm : BIn w0 F b p) (a : Int) (hs : St w0 w F) :
  Con Try.prog 23 [.agg (b.cells p).toArray, .int .i64 a] w fun v w' => v = .tuple #[.int .i64 (rightP b a).1, .int .i64 (rightP b a).2] ∧ St w0 w' F := by
  refine con_of_wc (n := 33) Try.func23 rfl rfl (Nat.le_of_ble_eq_true rfl) ?_
  have hlh0 := hm.lh
  have hlc0 := hm.lc
  refine w_seq (fun K2 hK1 => ?_)
  refine w_region ?_
  refine w_box (v := .agg #[.int _ _, .slice _ _ _, .slice _ _ _]) (cs := [_, _, _]) want_none rfl rfl rfl hs (fun b3 w4 hs5 => ?_)
  refine w_p (y_assign (v := _) rfl rfl) rfl ?_
  refine w_p (y_assign (v := _) rfl rfl) rfl ?_
  refine w_nil ?_
  refine q_then (hK1 _ _ ?_)
  refine w_seq (fun K7 hK6 => ?_)
  refine w_region ?_
  refine w_p (y_loadN (vs := [_, _, _]) Try.isAgg25 Try.sizeOf25 hs5 rfl rfl (ats_own (i := 0) (vs := [_, _, _]) rfl rfl)) rfl ?_
  refine w_p (y_move (v := .int _ _) rfl rfl) rfl ?_
  refine w_p (y_fieldAddr (o := 2) (i := 2) Try.underlying25 rfl Try.sizeOf23 rfl rfl rfl) rfl ?_
  refine w_p (y_load1 Try.isAgg23 hs5 rfl rfl (ats_own (i := 0) (vs := [_]) rfl rfl)) rfl ?_
  refine w_p (y_lenS Try.underlying23 rfl rfl) rfl ?_
  refine w_bslice (ps := [(0, _), (1, _)]) (pv := [(0, .int _ _), (1, .int _ _)]) (cs := [_, _]) want_none rfl rfl (fun w => Try_M_fb3 _ _ w) hs5 (fun b8 w9 hs10 => ?_)
  refine w_call want_none Try.call63 rfl rfl rfl rfl ((by have h := c63 b _ hm.cons.cons 0 (some ⟨b8, 0, none⟩) 2 [a, (b.ctrs.length : Int)] (by simp) (by simp) (hns_c a) (sl_own (i := 0) (rows := [[_], [_]]) rfl (by simp) rfl) hs10; rw [pairs_two] at h; exact h)) ?_
  rintro _ w12 (⟨hee, rfl, hs13⟩ | ⟨hee, bb, mm, M, rfl, hM, hs13⟩)
  ·
   refine w_p (y_move (v := .tuple _) rfl rfl) rfl ?_
   refine w_p (y_extract (v := .pointer _) rfl rfl rfl) rfl ?_
   refine w_p (y_extract (v := .int _ _) rfl rfl rfl) rfl ?_
   refine w_p (y_assign (v := .pointer _) rfl rfl) rfl ?_
   refine w_p (y_assign (v := .int _ _) rfl rfl) rfl ?_
   refine w_nil ?_
   refine q_then (hK6 _ _ ?_)
   refine w_seq (fun K15 hK14 => ?_)
   refine w_seq (fun K17 hK16 => ?_)
   refine w_region ?_
   refine w_p (y_move (v := .int _ _) rfl rfl) rfl ?_
   refine w_p (y_neq rfl rfl rfl rfl) rfl ?_
   refine w_nil ?_
   refine q_then (hK16 _ _ ?_)
   refine w_cond rfl rfl (fun h18 => ?_) (fun h18 => ?_)
   ·
    try simp only [zA, zB, zC, zD, zE, zF] at h18
    refine w_seq (fun K20 hK19 => ?_)
    refine w_region ?_
    refine w_p (y_move (v := .int _ _) rfl rfl) rfl ?_
    refine w_p (y_assign (v := _) rfl rfl) rfl ?_
    refine w_p (y_assign (v := .int _ _) rfl rfl) rfl ?_
    refine w_nil ?_
    refine q_then (hK19 _ _ ?_)
    refine w_ret ?_
    refine q_then_ret ?_
    refine q_ret (l := [.tmp 4, .tmp 5]) (vs := [_, _]) rfl ⟨⟨rfl, show _ = (.int _ _ : Value) from rfl⟩, ⟨rfl, show _ = (.int _ _ : Value) from rfl⟩, trivial⟩ ?_
    exact ⟨by rw [rightP_e hee]; rfl, hs13.tail.tail⟩
   ·
    exfalso
    try simp only [zA, zB, zC, zD, zE, zF] at h18
    first | exact hee h18 | exact h18 hee
  ·
   replace hs13 := (show St _ _ (_ :: M ++ (_ :: _ :: F)) from hs13)
   have hs21 := (show St _ _ ([_] ++ (M ++ _)) from hs13).perm (perm_mid [_] M _)
   replace hs21 := (show St _ _ (M ++ (_ :: _ :: _ :: F)) from hs21)
   have hew := enterE_ok hee
   have hok := check_ok hew.1
   refine w_p (y_move (v := .tuple _) rfl rfl) rfl ?_
   refine w_p (y_extract (v := .pointer _) rfl rfl rfl) rfl ?_
   refine w_p (y_extract (v := .int _ _) rfl rfl rfl) rfl ?_
   refine w_p (y_assign (v := .pointer _) rfl rfl) rfl ?_
   refine w_p (y_assign (v := .int _ _) rfl rfl) rfl ?_
   refine w_nil ?_
   refine q_then (hK6 _ _ ?_)
   refine w_seq (fun K23 hK22 => ?_)
   refine w_seq (fun K25 hK24 => ?_)
   refine w_region ?_
   refine w_p (y_move (v := .int _ _) rfl rfl) rfl ?_
   refine w_p (y_neq rfl rfl rfl rfl) rfl ?_
   refine w_nil ?_
   refine q_then (hK24 _ _ ?_)
   refine w_condF rfl rfl ?_
   refine w_skip ?_
   refine q_then (hK22 _ _ ?_)
   refine w_seq (fun K27 hK26 => ?_)
   have hia := idxE_ok hew.2.1
   have hlc := hok.lc
   refine w_region ?_
   refine w_p (y_move (v := .pointer _) rfl rfl) rfl ?_
   refine w_p (y_move (v := .int _ _) rfl rfl) rfl ?_
   refine w_call want_none Try.call73 rfl rfl rfl rfl (c73 hs21) ?_
   rintro _ w29 ⟨rfl, hs30⟩
   refine w_call want_none Try.call72 rfl rfl rfl rfl ((by have h := c72 (X := []) (M := M) (F := (bb, blk 129 [.int .i64 b.holds, .slice p.ah b.hours.length p.ch, .slice p.ac b.ctrs.length p.cc, .map (some mm)]) :: _ :: _ :: F) b p bb mm ⟨hm.cons.cons.cons, ats_own (i := 0) rfl rfl, hok⟩ a.toNat (by omega) 100 #[] #[] slips qis_slips hM hs30; rw [Int.toNat_of_nonneg (by omega)] at h; exact h)) ?_
   rintro _ w32 ⟨rfl, M2, hM2, hs33⟩
   replace hs33 := (show St _ _ (M2 ++ (_ :: _ :: _ :: F)) from hs33)
   have hs34 := hs33.drop
   refine w_p (y_move (v := .tuple _) rfl rfl) rfl ?_
   refine w_p (y_extract (v := .bool _) rfl rfl rfl) rfl ?_
   refine w_p (y_extract (v := .bool _) rfl rfl rfl) rfl ?_
   refine w_p (y_assign (v := .bool _) rfl rfl) rfl ?_
   refine w_p (y_assign (v := .bool _) rfl rfl) rfl ?_
   refine w_nil ?_
   refine q_then (hK26 _ _ ?_)
   refine w_seq (fun K36 hK35 => ?_)
   refine w_region ?_
   refine w_p (y_move (v := .bool _) rfl rfl) rfl ?_
   refine w_p (y_move (v := .bool _) rfl rfl) rfl ?_
   refine w_call want_none Try.call74 rfl rfl rfl rfl (c74 _ _ hs34) ?_
   rintro _ w38 ⟨rfl, hs39⟩
   refine w_p (y_assign (v := .int _ _) rfl rfl) rfl ?_
   refine w_p (y_assign (v := _) rfl rfl) rfl ?_
   refine w_nil ?_
   refine q_then (hK35 _ _ ?_)
   refine w_ret ?_
   refine q_ret (l := [.tmp 4, .tmp 5]) (vs := [_, _]) rfl ⟨⟨rfl, show _ = (.int _ _ : Value) from rfl⟩, ⟨rfl, show _ = (.int _ _ : Value) from rfl⟩, trivial⟩ ?_
   exact ⟨by rw [rightP_y hee]; rfl, hs39.tail.tail.tail⟩

theorem c25 {w0 w : World} {F : List (Nat × Obj)} (b : Board) (p : AtB) (hm : BIn w0 F b p) (a e : Int) (hs : St w0 w F) :
  Con Try.prog 25 [.agg (b.cells p).toArray, .int .i64 a, .int .i64 e] w fun v w' => v = .tuple #[.int .i64 (zeroP b a e).1, .int .i64 (zeroP b a e).2] ∧ St w0 w' F := by
  refine con_of_wc (n := 35) Try.func25 rfl rfl (Nat.le_of_ble_eq_true rfl) ?_
  have hlh0 := hm.lh
  have hlc0 := hm.lc
  refine w_seq (fun K2 hK1 => ?_)
  refine w_region ?_
  refine w_box (v := .agg #[.int _ _, .slice _ _ _, .slice _ _ _]) (cs := [_, _, _]) want_none rfl rfl rfl hs (fun b3 w4 hs5 => ?_)
  refine w_p (y_assign (v := _) rfl rfl) rfl ?_
  refine w_p (y_assign (v := _) rfl rfl) rfl ?_
  refine w_nil ?_
  refine q_then (hK1 _ _ ?_)
  refine w_seq (fun K7 hK6 => ?_)
  refine w_region ?_
  refine w_p (y_loadN (vs := [_, _, _]) Try.isAgg25 Try.sizeOf25 hs5 rfl rfl (ats_own (i := 0) (vs := [_, _, _]) rfl rfl)) rfl ?_
  refine w_p (y_move (v := .int _ _) rfl rfl) rfl ?_
  refine w_p (y_fieldAddr (o := 2) (i := 2) Try.underlying25 rfl Try.sizeOf23 rfl rfl rfl) rfl ?_
  refine w_p (y_load1 Try.isAgg23 hs5 rfl rfl (ats_own (i := 0) (vs := [_]) rfl rfl)) rfl ?_
  refine w_p (y_lenS Try.underlying23 rfl rfl) rfl ?_
  refine w_p (y_move (v := .int _ _) rfl rfl) rfl ?_
  refine w_p (y_fieldAddr (o := 1) (i := 1) Try.underlying25 rfl Try.sizeOf22 rfl rfl rfl) rfl ?_
  refine w_p (y_load1 Try.isAgg22 hs5 rfl rfl (ats_own (i := 0) (vs := [_]) rfl rfl)) rfl ?_
  refine w_p (y_lenS Try.underlying22 rfl rfl) rfl ?_
  refine w_bslice (ps := [(0, _), (1, _), (2, _), (3, _)]) (pv := [(0, .int _ _), (1, .int _ _), (2, .int _ _), (3, .int _ _)]) (cs := [_, _, _, _]) want_none rfl rfl (fun w => Try_M_fb4 _ _ _ _ w) hs5 (fun b8 w9 hs10 => ?_)
  refine w_call want_none Try.call63 rfl rfl rfl rfl ((by have h := c63 b _ hm.cons.cons 0 (some ⟨b8, 0, none⟩) 4 [a, (b.ctrs.length : Int), e, (b.hours.length : Int)] (by simp) (by simp) (hns_4 a e) (sl_own (i := 0) (rows := [[_], [_], [_], [_]]) rfl (by simp) rfl) hs10; rw [pairs_four] at h; exact h)) ?_
  rintro _ w12 (⟨hee, rfl, hs13⟩ | ⟨hee, bb, mm, M, rfl, hM, hs13⟩)
  ·
   refine w_p (y_move (v := .tuple _) rfl rfl) rfl ?_
   refine w_p (y_extract (v := .pointer _) rfl rfl rfl) rfl ?_
   refine w_p (y_extract (v := .int _ _) rfl rfl rfl) rfl ?_
   refine w_p (y_assign (v := .pointer _) rfl rfl) rfl ?_
   refine w_p (y_assign (v := .int _ _) rfl rfl) rfl ?_
   refine w_nil ?_
   refine q_then (hK6 _ _ ?_)
   refine w_seq (fun K15 hK14 => ?_)
   refine w_seq (fun K17 hK16 => ?_)
   refine w_region ?_
   refine w_p (y_move (v := .int _ _) rfl rfl) rfl ?_
   refine w_p (y_neq rfl rfl rfl rfl) rfl ?_
   refine w_nil ?_
   refine q_then (hK16 _ _ ?_)
   refine w_cond rfl rfl (fun h18 => ?_) (fun h18 => ?_)
   ·
    try simp only [zA, zB, zC, zD, zE, zF] at h18
    refine w_seq (fun K20 hK19 => ?_)
    refine w_region ?_
    refine w_p (y_move (v := .int _ _) rfl rfl) rfl ?_
    refine w_p (y_assign (v := _) rfl rfl) rfl ?_
    refine w_p (y_assign (v := .int _ _) rfl rfl) rfl ?_
    refine w_nil ?_
    refine q_then (hK19 _ _ ?_)
    refine w_ret ?_
    refine q_then_ret ?_
    refine q_ret (l := [.tmp 6, .tmp 7]) (vs := [_, _]) rfl ⟨⟨rfl, show _ = (.int _ _ : Value) from rfl⟩, ⟨rfl, show _ = (.int _ _ : Value) from rfl⟩, trivial⟩ ?_
    exact ⟨by rw [zeroP_e hee]; rfl, hs13.tail.tail⟩
   ·
    exfalso
    try simp only [zA, zB, zC, zD, zE, zF] at h18
    first | exact hee h18 | exact h18 hee
  ·
   replace hs13 := (show St _ _ (_ :: M ++ (_ :: _ :: F)) from hs13)
   have hs21 := (show St _ _ ([_] ++ (M ++ _)) from hs13).perm (perm_mid [_] M _)
   replace hs21 := (show St _ _ (M ++ (_ :: _ :: _ :: F)) from hs21)
   have hew := enterE_ok hee
   have hok := check_ok hew.1
   refine w_p (y_move (v := .tuple _) rfl rfl) rfl ?_
   refine w_p (y_extract (v := .pointer _) rfl rfl rfl) rfl ?_
   refine w_p (y_extract (v := .int _ _) rfl rfl rfl) rfl ?_
   refine w_p (y_assign (v := .pointer _) rfl rfl) rfl ?_
   refine w_p (y_assign (v := .int _ _) rfl rfl) rfl ?_
   refine w_nil ?_
   refine q_then (hK6 _ _ ?_)
   refine w_seq (fun K23 hK22 => ?_)
   refine w_seq (fun K25 hK24 => ?_)
   refine w_region ?_
   refine w_p (y_move (v := .int _ _) rfl rfl) rfl ?_
   refine w_p (y_neq rfl rfl rfl rfl) rfl ?_
   refine w_nil ?_
   refine q_then (hK24 _ _ ?_)
   refine w_condF rfl rfl ?_
   refine w_skip ?_
   refine q_then (hK22 _ _ ?_)
   refine w_seq (fun K27 hK26 => ?_)
   have hia := idx2_ok hew.2.1
   have hlc := hok.lc
   refine w_region ?_
   refine w_p (y_move (v := .pointer _) rfl rfl) rfl ?_
   refine w_p (y_move (v := .int _ _) rfl rfl) rfl ?_
   refine w_p (y_move (v := .int _ _) rfl rfl) rfl ?_
   refine w_call want_none Try.call77 rfl rfl rfl rfl ((by have h := c77 e.toNat hs21; rw [Int.toNat_of_nonneg (by omega)] at h; exact h)) ?_
   rintro _ w29 ⟨bz, rfl, hs30⟩
   have hs31 := (show St _ _ ([_] ++ (M ++ _)) from hs30).perm (perm_mid [_] M _)
   replace hs31 := (show St _ _ (M ++ (_ :: _ :: _ :: _ :: F)) from hs31)
   refine w_call want_none Try.call72 rfl rfl rfl rfl ((by have h := c72 (X := []) (M := M) (F := _ :: (bb, blk 129 [.int .i64 b.holds, .slice p.ah b.hours.length p.ch, .slice p.ac b.ctrs.length p.cc, .map (some mm)]) :: _ :: _ :: F) b p bb mm ⟨hm.cons.cons.cons.cons, ats_own (i := 1) rfl rfl, hok⟩ a.toNat (by omega) 103 #[] #[.pointer (some ⟨bz, 0, none⟩)] (zeroed e.toNat) (qis_zeroed (ats_own (i := 0) (vs := [_]) rfl (by rw [Int.toNat_of_nonneg (by omega)]; rfl))) hM hs31; rw [Int.toNat_of_nonneg (by omega)] at h; exact h)) ?_
   rintro _ w33 ⟨rfl, M2, hM2, hs34⟩
   replace hs34 := (show St _ _ (M2 ++ (_ :: _ :: _ :: _ :: F)) from hs34)
   have hs35 := hs34.drop
   refine w_p (y_extract (v := .bool _) rfl rfl rfl) rfl ?_
   refine w_p (y_extract (v := .bool _) rfl rfl rfl) rfl ?_
   refine w_call want_none Try.call74 rfl rfl rfl rfl (c74 _ _ hs35) ?_
   rintro _ w37 ⟨rfl, hs38⟩
   refine w_p (y_assign (v := .int _ _) rfl rfl) rfl ?_
   refine w_p (y_assign (v := _) rfl rfl) rfl ?_
   refine w_nil ?_
   refine q_then (hK26 _ _ ?_)
   refine w_ret ?_
   refine q_ret (l := [.tmp 6, .tmp 7]) (vs := [_, _]) rfl ⟨⟨rfl, show _ = (.int _ _ : Value) from rfl⟩, ⟨rfl, show _ = (.int _ _ : Value) from rfl⟩, trivial⟩ ?_
   exact ⟨by rw [zeroP_y hee]; rfl, hs38.tail.tail.tail.tail⟩

end Go.Proofs
