/- Own texts of this claim, joined. No conditions. -/
import Derived.Test.YtgndnnpadkoagaaHChainTellsa
import Derived.Test.YtgndnnpadkoagaaHChainTellsb
import Derived.Test.YtgndnnpadkoagaaHChainTellsc
import Derived.Test.YtgndnnpadkoagaaHChainTellsd
/- Walks of this seat, printed by gen.py over the engine: what each function returns, in whatever world. No conditions but those of each contract. -/
set_option linter.unusedVariables false
set_option linter.unusedSimpArgs false
set_option maxRecDepth 20000
namespace Go.Proofs
open Go.Rt Go.Rt.Ch
open Go.Rt.Ha (firstE firstE_step firstE_stop firstE_end failE nameE felt spanL upto span_mem listL fewest fewTo bit before fewStep drop_lt drop_get drop_next drop_done drop_notin set_take set_zero take_less)
attribute [local irreducible] WL WC Con Yd At Ats Sl Agree DW

theorem Try_info4 : Try.prog.info? 4 = some Try.t4 := by kernel_rfl
theorem bl1 {a b : Bool} (h : a = b) : [Value.bool a] = [Value.bool b] := by rw [h]
theorem iff_a {a b q : Bool} (h : a = true) : (true = true) ↔ (a = true ∨ (b = true ∧ q = false)) := by simp [h]
theorem iff_b {a b q : Bool} (h1 : a = false) (h2 : b = false) : (false = true) ↔ (a = true ∨ (b = true ∧ q = false)) := by simp [h1, h2]
theorem iff_c {a b q : Bool} (h1 : a = false) (h2 : b = true) : ((!q) = true) ↔ (a = true ∨ (b = true ∧ q = false)) := by simp [h1, h2]
theorem iff_d {a u b q : Bool} (h : a = true) : (true = true) ↔ (a = true ∨ (u = true ∨ (b = true ∧ q = true))) := by simp [h]
theorem iff_e {a u b q : Bool} (h1 : a = false) (h2 : u = true) : (true = true) ↔ (a = true ∨ (u = true ∨ (b = true ∧ q = true))) := by simp [h1, h2]
theorem iff_f {a u b q : Bool} (h1 : a = false) (h2 : u = false) (h3 : b = false) : (false = true) ↔ (a = true ∨ (u = true ∨ (b = true ∧ q = true))) := by simp [h1, h2, h3]
theorem iff_g {a u b q : Bool} (h1 : a = false) (h2 : u = false) (h3 : b = true) : (q = true) ↔ (a = true ∨ (u = true ∨ (b = true ∧ q = true))) := by simp [h1, h2, h3]
theorem steps_many {c : Ctr} {n : Nat} (h : c.Ok n) (a : Nat) (s load : Int) : (stepsC c a s load).length ≤ 14 := by have := sTo_len (a := a) (s := s) (load := load) h 2; rw [sTo_two] at this; exact this
theorem no_mark {t : List Bool} {P : Int → Prop} (h : Tab t P) {s : Nat} (hs : s < 100) (h2 : t.getD s false = false) : ¬ P s := fun hp => by rw [(h.2 s hs).2 hp] at h2; cases h2
theorem end5 {w0 w : World} {B F : List (Nat × Obj)} {a b c d e : Nat × Obj} (h : St w0 w (B ++ (a :: b :: c :: d :: e :: F))) : St w0 w (a :: b :: c :: d :: e :: (B ++ F)) := h.perm (perm_mid B [a, b, c, d, e] F)
theorem ends_fin {w0 w : World} {F : List (Nat × Obj)} {a b c d e : Nat × Obj} (h : St w0 w (a :: b :: c :: d :: e :: F)) : St w0 w (b :: a :: e :: F) := (show St w0 w (b :: a :: c :: d :: e :: F) from swp2 h).perm (perm_mid [b, a] [c, d] (e :: F)) |>.tail.tail
theorem drop5 {w0 w : World} {B F : List (Nat × Obj)} {a b c d e : Nat × Obj} (h : St w0 w (a :: b :: c :: d :: e :: (B ++ F))) : St w0 w (a :: b :: c :: d :: e :: F) := (St.perm (L' := B ++ (a :: b :: c :: d :: e :: F)) h (perm_mid [a, b, c, d, e] B F)).drop
theorem c75 {w0 w : World} {F : List (Nat × Obj)} (c : Ctr) (pc : AtC) (n : Nat) (hok : c.Ok n) (hz : Sl w0 F pc.az 1 (c.zero.map fun x => [Value.int .i64 x])) (hw : Sl w0 F pc.as 1 (c.shown.map fun x => [Value.int .i64 x])) (al : Option Addr) (cl : Nat) (l : List Int) (hll : l.length = n) (hn4 : n ≤ 4) (hl40 : ∀ k, 0 ≤ ld l k ∧ ld l k ≤ 40) (hl : Sl w0 F al 1 (l.map fun x => [Value.int .i64 x])) (hr : Int) (hs : St w0 w F) :
  Con Try.prog 75 [.agg (c.cells pc).toArray, .slice al l.length cl, .int .i64 hr] w fun v w' => v = .tuple #[.bool (notF c l (qOf hr) n), .bool (metF c l (qOf hr) n)] ∧ St w0 w' F := by
  refine con_of_wc (n := 134) Try.func75 rfl rfl (Nat.le_of_ble_eq_true rfl) ?_
  have k3 := hok.start
  have k7 := hok.lz
  have k8 := hok.ls
  refine w_seq (fun K2 hK1 => ?_)
  refine w_region ?_
  refine w_box (v := .agg #[.string _, .int _ _, .int _ _, .int _ _, .slice _ _ _, .slice _ _ _]) (cs := [_, _, _, _, _, _]) want_none rfl rfl rfl hs (fun b3 w4 hs5 => ?_)
  refine w_p (y_assign (v := _) rfl rfl) rfl ?_
  refine w_p (y_assign (v := _) rfl rfl) rfl ?_
  refine w_nil ?_
  refine q_then (hK1 _ _ ?_)
  refine w_seq (fun K7 hK6 => ?_)
  refine w_cut [8, 9, 18, 19] [8, 9] (fun vs w => ∃ b8 b9, vs = [.slice (some ⟨b8, 0, none⟩) 100 100, .slice (some ⟨b9, 0, none⟩) 100 100] ∧ St w0 w ((b9, blk 4 (bvs (List.replicate 100 false))) :: (b8, blk 4 (bvs (List.replicate 100 false))) :: (b3, blk 76 (c.cells pc)) :: F)) (fun K9 hC8 => ?_) ?_
  ·
   refine w_drawT (C := fun w => St w0 w _) [] (.two [] 0 1 (.done [(2, 0), (1, 2), (3, 0)]) (.done [(0, 2), (2, 0), (3, 0)])) Try_mo (by kernel_rfl) hs5 (fun _ h => h.drew) (fun w10 hs11 => ?_)
   refine dt_two ?_
   refine d_two rfl rfl ?_ ?_
   ·
    refine w_makeBools (k := 100) want_none Try.underlying50 Try_info4 rfl rfl (by omega) rfl rfl rfl rfl rfl hs11 (fun b12 w13 hs14 => ?_)
    refine w_nil ?_
    refine qn ⟨hs14.tail, ?_⟩
    refine dt_done ?_
    refine d_any rfl want_none rfl (fun _ => (y_assign (v := .slice _ _ _) rfl rfl)) ?_
    refine d_eff rfl ?_
    refine w_makeBools (k := 100) want_none Try.underlying50 Try_info4 rfl rfl (by omega) rfl rfl rfl rfl rfl hs14 (fun b15 w16 hs17 => ?_)
    refine w_nil ?_
    refine qn ⟨hs17.tail.tail, ?_⟩
    refine d_any rfl want_none rfl (fun _ => (y_assign (v := .slice _ _ _) rfl rfl)) ?_
    refine d_nil ?_
    refine q_then (hC8 _ _ (Md.intro (by repeat (first | exact agree_refl | exact agree_mix | refine agree_upd rfl ?_ | refine agree_updL rfl ?_ _ | refine agree_mixin rfl ?_)) ?_))
    first
      | exact ⟨_, _, rfl, hs17⟩
      | exact ⟨_, _, rfl, swp2 (show St _ _ (_ :: _ :: _) from hs17)⟩
   ·
    refine w_makeBools (k := 100) want_none Try.underlying50 Try_info4 rfl rfl (by omega) rfl rfl rfl rfl rfl hs11 (fun b18 w19 hs20 => ?_)
    refine w_nil ?_
    refine qn ⟨hs20.tail, ?_⟩
    refine dt_done ?_
    refine d_eff rfl ?_
    refine w_makeBools (k := 100) want_none Try.underlying50 Try_info4 rfl rfl (by omega) rfl rfl rfl rfl rfl hs20 (fun b21 w22 hs23 => ?_)
    refine w_nil ?_
    refine qn ⟨hs23.tail.tail, ?_⟩
    refine d_any rfl want_none rfl (fun _ => (y_assign (v := .slice _ _ _) rfl rfl)) ?_
    refine d_any rfl want_none rfl (fun _ => (y_assign (v := .slice _ _ _) rfl rfl)) ?_
    refine d_nil ?_
    refine q_then (hC8 _ _ (Md.intro (by repeat (first | exact agree_refl | exact agree_mix | refine agree_upd rfl ?_ | refine agree_updL rfl ?_ _ | refine agree_mixin rfl ?_)) ?_))
    first
      | exact ⟨_, _, rfl, hs23⟩
      | exact ⟨_, _, rfl, swp2 (show St _ _ (_ :: _ :: _) from hs23)⟩
  ·
   intro vs μ w24 hM
   obtain ⟨b8, b9, rfl, hs⟩ := hM
   refine q_then (hK6 _ _ ?_)
   refine w_seq (fun K26 hK25 => ?_)
   refine w_region ?_
   refine w_p (y_move (v := .slice _ _ _) rfl rfl) rfl ?_
   refine w_p (y_fieldAddr (o := 3) (i := 3) Try.underlying76 rfl Try.sizeOf3 rfl rfl rfl) rfl ?_
   refine w_p (y_load1 Try.isAgg3 hs rfl rfl (ats_own (i := 2) (vs := [_]) rfl rfl)) rfl ?_
   refine w_p (y_indexS Try.underlying50 Try.sizeOf4 rfl rfl rfl rfl (i := c.start.toNat) (by first | rfl | omega) (by omega)) rfl ?_
   refine w_storeAtB (i := 1) (j := c.start.toNat) want_none Try.sizeOf4 rfl rfl rfl rfl hs rfl (by rw [List.length_replicate]; omega) (fun w27 hs28 => ?_)
   refine w_nil ?_
   refine q_then (hK25 _ _ ?_)
   refine w_seq (fun K30 hK29 => ?_)
   refine w_seq (fun K32 hK31 => ?_)
   refine w_region ?_
   refine w_p (y_assign (v := _) rfl rfl) rfl ?_
   refine w_nil ?_
   refine q_then (hK31 _ _ ?_)
   refine w_block ?_
   refine w_loop [8, 9, 10, 11, 12, 13, 14, 15, 16, 17, 24, 25, 26, 27, 28, 29, 30, 31, 32, 33, 34, 35, 36, 37, 38, 39, 40, 41, 42, 43, 44, 45, 46, 47, 48, 49, 50, 51, 52, 53, 54, 55, 56, 57, 58, 59, 60, 61, 62, 63, 64, 65, 66, 67, 68, 69, 70, 71, 72, 73, 74, 75, 76, 77, 78, 79, 80, 81, 82, 83, 84, 85, 86, 87, 88, 89, 90, 91, 92, 93, 94, 95, 96, 97, 98, 99, 100, 101, 102, 103, 104, 105, 106, 107, 108, 109, 110, 111, 112, 113, 114, 115, 116, 117, 118, 119, 120, 121, 122, 123, 124, 125, 126, 127, 128, 129] [8, 9, 10] (fun kk vs w => ∃ (k : Nat) (b8 b9 : Nat) (t u : List Bool), vs = [.slice (some ⟨b8, 0, none⟩) 100 100, .slice (some ⟨b9, 0, none⟩) 100 100, .int .i64 k] ∧ k ≤ n ∧ kk = n - k ∧ Tab t (Nt (fareTo c l (qOf hr) k)) ∧ Tab u (Mt (fareTo c l (qOf hr) k)) ∧ St w0 w ((b8, blk 4 (bvs t)) :: (b9, blk 4 (bvs u)) :: (b3, blk 76 (c.cells pc)) :: F)) (n) ?_ ?_
   ·
    exact ⟨0, _, _, _, _, rfl, by omega, by omega, tab_start_n hok l (qOf hr), tab_start_m c l (qOf hr), swp2 hs28⟩
   ·
    intro k vs μ w35 hI K34 hN33
    clear hs
    obtain ⟨k, b8, b9, t, u, rfl, hka, rfl, ht, hu, hs⟩ := hI
    refine w_seq (fun K37 hK36 => ?_)
    refine w_seq (fun K39 hK38 => ?_)
    refine w_region ?_
    refine w_p (y_move (v := .int _ _) rfl rfl) rfl ?_
    refine w_p (y_move (v := .slice _ _ _) rfl rfl) rfl ?_
    refine w_p (y_lenS Try.underlying39 rfl rfl) rfl ?_
    refine w_p (y_lss rfl rfl rfl rfl) rfl ?_
    refine w_nil ?_
    refine q_then (hK38 _ _ ?_)
    refine w_cond rfl rfl (fun h40 => ?_) (fun h40 => ?_)
    ·
     try simp only [zA, zB, zC, zD, zE, zF] at h40
     refine w_skip ?_
     refine q_then (hK36 _ _ ?_)
     refine w_seq (fun K42 hK41 => ?_)
     refine w_block ?_
     refine w_seq (fun K44 hK43 => ?_)
     refine w_cut [11, 12, 30, 31] [11, 12] (fun vs w => ∃ b11 b12, vs = [.slice (some ⟨b11, 0, none⟩) 100 100, .slice (some ⟨b12, 0, none⟩) 100 100] ∧ St w0 w ((b12, blk 4 (bvs (List.replicate 100 false))) :: (b11, blk 4 (bvs (List.replicate 100 false))) :: (b8, blk 4 (bvs t)) :: (b9, blk 4 (bvs u)) :: (b3, blk 76 (c.cells pc)) :: F)) (fun K46 hC45 => ?_) ?_
     ·
      refine w_drawT (C := fun w => St w0 w _) [] (.two [] 0 1 (.done [(2, 0), (1, 2), (3, 0)]) (.done [(0, 2), (2, 0), (3, 0)])) Try_mo (by kernel_rfl) hs (fun _ h => h.drew) (fun w47 hs48 => ?_)
      refine dt_two ?_
      refine d_two rfl rfl ?_ ?_
      ·
       refine w_makeBools (k := 100) want_none Try.underlying50 Try_info4 rfl rfl (by omega) rfl rfl rfl rfl rfl hs48 (fun b49 w50 hs51 => ?_)
       refine w_nil ?_
       refine qn ⟨hs51.tail, ?_⟩
       refine dt_done ?_
       refine d_any rfl want_none rfl (fun _ => (y_assign (v := .slice _ _ _) rfl rfl)) ?_
       refine d_eff rfl ?_
       refine w_makeBools (k := 100) want_none Try.underlying50 Try_info4 rfl rfl (by omega) rfl rfl rfl rfl rfl hs51 (fun b52 w53 hs54 => ?_)
       refine w_nil ?_
       refine qn ⟨hs54.tail.tail, ?_⟩
       refine d_any rfl want_none rfl (fun _ => (y_assign (v := .slice _ _ _) rfl rfl)) ?_
       refine d_nil ?_
       refine q_then (hC45 _ _ (Md.intro (by repeat (first | exact agree_refl | exact agree_mix | refine agree_upd rfl ?_ | refine agree_updL rfl ?_ _ | refine agree_mixin rfl ?_)) ?_))
       first
         | exact ⟨_, _, rfl, hs54⟩
         | exact ⟨_, _, rfl, swp2 (show St _ _ (_ :: _ :: _) from hs54)⟩
      ·
       refine w_makeBools (k := 100) want_none Try.underlying50 Try_info4 rfl rfl (by omega) rfl rfl rfl rfl rfl hs48 (fun b55 w56 hs57 => ?_)
       refine w_nil ?_
       refine qn ⟨hs57.tail, ?_⟩
       refine dt_done ?_
       refine d_eff rfl ?_
       refine w_makeBools (k := 100) want_none Try.underlying50 Try_info4 rfl rfl (by omega) rfl rfl rfl rfl rfl hs57 (fun b58 w59 hs60 => ?_)
       refine w_nil ?_
       refine qn ⟨hs60.tail.tail, ?_⟩
       refine d_any rfl want_none rfl (fun _ => (y_assign (v := .slice _ _ _) rfl rfl)) ?_
       refine d_any rfl want_none rfl (fun _ => (y_assign (v := .slice _ _ _) rfl rfl)) ?_
       refine d_nil ?_
       refine q_then (hC45 _ _ (Md.intro (by repeat (first | exact agree_refl | exact agree_mix | refine agree_upd rfl ?_ | refine agree_updL rfl ?_ _ | refine agree_mixin rfl ?_)) ?_))
       first
         | exact ⟨_, _, rfl, hs60⟩
         | exact ⟨_, _, rfl, swp2 (show St _ _ (_ :: _ :: _) from hs60)⟩
     ·
      intro vs μ w61 hM
      obtain ⟨b11, b12, rfl, hs⟩ := hM
      refine q_then (hK43 _ _ ?_)
      refine w_seq (fun K63 hK62 => ?_)
      refine w_seq (fun K65 hK64 => ?_)
      refine w_region ?_
      refine w_p (y_assign (v := _) rfl rfl) rfl ?_
      refine w_nil ?_
      refine q_then (hK64 _ _ ?_)
      refine w_block ?_
      refine w_loop [13, 14, 15, 16, 17, 32, 33, 34, 35, 36, 37, 38, 39, 40, 41, 42, 43, 44, 45, 46, 47, 48, 49, 50, 51, 52, 53, 54, 55, 56, 57, 58, 59, 60, 61, 62, 63, 64, 65, 66, 67, 68, 69, 70, 71, 72, 73, 74, 75, 76, 77, 78, 79, 80, 81, 82, 83, 84, 85, 86, 87, 88, 89, 90, 91, 92, 93, 94, 95, 96, 97, 98, 99, 100, 101, 102, 103, 104, 105, 106, 107, 108, 109, 110, 111, 112, 113, 114, 115, 116, 117, 118, 119, 120, 121, 122, 123, 124, 125, 126, 127] [13] (fun kk vs w => ∃ (s : Nat) (x y : List Bool), vs = [.int .i64 s] ∧ s ≤ 100 ∧ kk = 100 - s ∧ Tab x (NS c l (qOf hr) k s) ∧ Tab y (MS c l (qOf hr) k s) ∧ St w0 w ((b12, blk 4 (bvs y)) :: (b11, blk 4 (bvs x)) :: (b8, blk 4 (bvs t)) :: (b9, blk 4 (bvs u)) :: (b3, blk 76 (c.cells pc)) :: F)) (100) ?_ ?_
      ·
       exact ⟨0, _, _, rfl, by omega, by omega, tab_to tab_new fun z => ⟨fun h => h.elim, ns_zero hok l (qOf hr) k z⟩, tab_to tab_new fun z => ⟨fun h => h.elim, ms_zero hok l (qOf hr) k z⟩, hs⟩
      ·
       intro k vs μ w68 hI K67 hN66
       clear hs
       obtain ⟨s, x, y, rfl, hsa, rfl, hx, hy, hs⟩ := hI
       refine w_seq (fun K70 hK69 => ?_)
       refine w_seq (fun K72 hK71 => ?_)
       refine w_region ?_
       refine w_p (y_move (v := .int _ _) rfl rfl) rfl ?_
       refine w_p (y_lss rfl rfl rfl rfl) rfl ?_
       refine w_nil ?_
       refine q_then (hK71 _ _ ?_)
       refine w_cond rfl rfl (fun h73 => ?_) (fun h73 => ?_)
       ·
        try simp only [zA, zB, zC, zD, zE, zF] at h73
        refine w_skip ?_
        refine q_then (hK69 _ _ ?_)
        refine w_seq (fun K75 hK74 => ?_)
        refine w_block ?_
        refine w_seq (fun K77 hK76 => ?_)
        refine w_seq (fun K79 hK78 => ?_)
        have hs2 : s < 100 := by omega
        refine w_region ?_
        refine w_p (y_move (v := .slice _ _ _) rfl rfl) rfl ?_
        refine w_p (y_move (v := .int _ _) rfl rfl) rfl ?_
        refine w_p (y_indexS Try.underlying50 Try.sizeOf4 rfl rfl rfl rfl (i := s) (by first | rfl | omega) (by omega)) rfl ?_
        refine w_p (y_load1 Try.isAgg4 hs rfl rfl (ats_bools (i := 2) (j := s) rfl (by rw [ht.1]; omega))) rfl ?_
        refine w_p (y_not rfl rfl) rfl ?_
        refine w_p (y_move (v := .bool _) rfl rfl) rfl ?_
        refine w_split (fun h80 => ?_) (fun h80 => ?_)
        ·
         try simp only [zA, zB, zC, zD, zE, zF] at h80
         refine w_y rfl rfl rfl (y_move (v := .slice _ _ _) rfl rfl) rfl ?_
         refine w_y rfl rfl rfl (y_move (v := .int _ _) rfl rfl) rfl ?_
         refine w_y rfl rfl rfl (y_indexS Try.underlying50 Try.sizeOf4 rfl rfl rfl rfl (i := s) (by first | rfl | omega) (by omega)) rfl ?_
         refine w_y rfl rfl rfl (y_load1 Try.isAgg4 hs rfl rfl (ats_bools (i := 3) (j := s) rfl (by rw [hu.1]; omega))) rfl ?_
         refine w_y rfl rfl rfl (y_not rfl rfl) rfl ?_
         refine w_p (y_pickT (v := .bool _) rfl rfl rfl rfl) rfl ?_
         refine w_nil ?_
         refine q_then (hK78 _ _ ?_)
         refine w_cond rfl rfl (fun h81 => ?_) (fun h81 => ?_)
         ·
          try simp only [zA, zB, zC, zD, zE, zF] at h81
          refine w_exit ?_
          refine q_then_exit ?_
          refine q_blk_this ?_
          refine q_then (hK74 _ _ ?_)
          refine w_region ?_
          refine w_p (y_move (v := .int _ _) rfl rfl) rfl ?_
          refine w_p (y_add rfl rfl rfl rfl (by omega) (by omega)) rfl ?_
          refine w_p (y_assign (v := .int _ _) rfl rfl) rfl ?_
          refine w_nil ?_
          refine q_then (hN66 _ _ (Nx.intro (100 - (s + 1)) (by omega) (by repeat (first | exact agree_mix | refine agree_upd rfl ?_ | refine agree_updL rfl ?_ _ | refine agree_mixin rfl ?_)) ?_))
          have hn1 : ¬ Nt (fareTo c l (qOf hr) k) s := no_mark ht hs2 (by assumption)
          have hn2 : ¬ Mt (fareTo c l (qOf hr) k) s := no_mark hu hs2 (by assumption)
          exact ⟨s + 1, x, y, rfl, by omega, rfl, tab_to hx fun z => (ns_skip hn1 hn2).symm, tab_to hy fun z => (ms_skip hn1 hn2).symm, hs⟩
         ·
          try simp only [zA, zB, zC, zD, zE, zF] at h81
          refine w_skip ?_
          refine q_then (hK76 _ _ ?_)
          refine w_seq (fun K83 hK82 => ?_)
          have hk2 : k < l.length := by omega
          obtain ⟨bl, ol, hbl, hxl⟩ := sl_ints hl hk2
          have hlk : ld l k = l[k] := by simp [ld, List.getD, hk2]
          rw [← hlk] at hxl
          have hlk2 := hl40 k
          have hssl := steps_many hok k s (ld l k)
          refine w_draw [] [(0, 1), (1, 0), (2, 0), (3, 0), (4, 0), (5, 0), (6, 1), (7, 2), (8, 0)] Try_mo (drawOK_of (by kernel_rfl)) hs (fun w84 hs85 => ?_)
          refine d_take rfl want_none rfl hs85 (fun _ hq => (y_loadN (vs := [_, _, _, _, _, _]) Try.isAgg76 Try.sizeOf76 hq rfl rfl (ats_own (i := 4) (vs := [_, _, _, _, _, _]) rfl rfl))) ?_
          refine d_any rfl want_none rfl (fun _ => (y_move (v := .int _ _) rfl rfl)) ?_
          refine d_any rfl want_none rfl (fun _ => (y_move (v := .int _ _) rfl rfl)) ?_
          refine d_any rfl want_none rfl (fun _ => (yd_slice hbl (y_move (v := .slice _ _ _) rfl rfl))) ?_
          refine d_any rfl want_none rfl (fun _ => (y_move (v := .int _ _) rfl rfl)) ?_
          refine d_any rfl want_none rfl (fun _ => (y_indexS Try.underlying39 Try.sizeOf3 rfl rfl rfl rfl (i := k) rfl (by omega))) ?_
          refine d_take rfl want_none rfl hs85 (fun _ hq => (y_load1 Try.isAgg3 hq.tail.tail.tail.tail.tail rfl rfl hxl)) ?_
          refine d_eff rfl ?_
          refine w_call want_none Try.call101 rfl rfl rfl rfl (c101 c pc n hok hz.cons.cons.cons.cons.cons hw.cons.cons.cons.cons.cons k (by omega) s (ld l k) (by omega) (hl40 k) hs85) ?_
          rintro _ w87 ⟨xs, cap, B, rfl, hsl, hs88⟩
          replace hs88 := (show St _ _ (B ++ (_ :: _ :: _ :: _ :: _ :: F)) from hs88)
          refine w_nil ?_
          refine qn ⟨hs88.drop, ?_⟩
          refine d_any rfl want_none rfl (fun _ => (y_assign (v := .slice _ _ _) rfl rfl)) ?_
          refine d_nil ?_
          refine q_then (hK82 _ _ ?_)
          refine w_seq (fun K91 hK90 => ?_)
          have hs92 := end5 hs88
          replace hs92 := (show St _ _ (_ :: _ :: _ :: _ :: _ :: B ++ (F)) from hs92)
          refine w_region ?_
          refine w_p (y_assign (v := _) rfl rfl) rfl ?_
          refine w_nil ?_
          refine q_then (hK90 _ _ ?_)
          refine w_block ?_
          refine w_loop [15, 16, 17, 56, 57, 58, 59, 60, 61, 62, 63, 64, 65, 66, 67, 68, 69, 70, 71, 72, 73, 74, 75, 76, 77, 78, 79, 80, 81, 82, 83, 84, 85, 86, 87, 88, 89, 90, 91, 92, 93, 94, 95, 96, 97, 98, 99, 100, 101, 102, 103, 104, 105, 106, 107, 108, 109, 110, 111, 112, 113, 114, 115, 116, 117, 118, 119, 120, 121, 122, 123, 124, 125, 126, 127] [15] (fun kk vs w => ∃ (j : Nat) (x y : List Bool), vs = [.int .i64 j] ∧ j ≤ (stepsC c k s (ld l k)).length ∧ kk = (stepsC c k s (ld l k)).length - j ∧ Tab x (NP c l (qOf hr) k s j) ∧ Tab y (MP c l (qOf hr) k s j) ∧ St w0 w ((b12, blk 4 (bvs y)) :: (b11, blk 4 (bvs x)) :: (b8, blk 4 (bvs t)) :: (b9, blk 4 (bvs u)) :: (b3, blk 76 (c.cells pc)) :: (B ++ F))) ((stepsC c k s (ld l k)).length) ?_ ?_
          ·
           exact ⟨0, x, y, rfl, by omega, by omega, tab_to hx fun z => (np_zero _ _ _ _ _ _).symm, tab_to hy fun z => (mp_zero _ _ _ _ _ _).symm, hs92⟩
          ·
           intro k vs μ w95 hI K94 hN93
           clear hs hx hy
           obtain ⟨j, x, y, rfl, hja, rfl, hx, hy, hs⟩ := hI
           refine w_seq (fun K97 hK96 => ?_)
           refine w_seq (fun K99 hK98 => ?_)
           refine w_region ?_
           refine w_p (y_move (v := .int _ _) rfl rfl) rfl ?_
           refine w_p (y_move (v := .slice _ _ _) rfl rfl) rfl ?_
           refine w_p (y_lenS Try.underlying141 rfl rfl) rfl ?_
           refine w_p (y_lss rfl rfl rfl rfl) rfl ?_
           refine w_nil ?_
           refine q_then (hK98 _ _ ?_)
           refine w_cond rfl rfl (fun h100 => ?_) (fun h100 => ?_)
           ·
            try simp only [zA, zB, zC, zD, zE, zF] at h100
            refine w_skip ?_
            refine q_then (hK96 _ _ ?_)
            refine w_seq (fun K102 hK101 => ?_)
            refine w_block ?_
            refine w_seq (fun K104 hK103 => ?_)
            have hj2 : j < (stepsC c k s (ld l k)).length := by omega
            obtain ⟨bw2, ow2, rfl, hw2⟩ := sl_srows hsl hj2
            have hsi := steps_in (List.getElem_mem hj2)
            have hsh : ((stepsC c k s (ld l k))[j]'hj2).shows = (((((stepsC c k s (ld l k))[j]'hj2).shows.toNat) : Nat) : Int) := by omega
            have hsm : (((stepsC c k s (ld l k))[j]'hj2).shows.toNat) < 100 := by omega
            refine w_cut [16, 62, 63, 64, 65, 66, 67, 68, 69, 70, 71, 72, 73, 74, 75, 76, 77, 78, 79, 80, 81, 82, 83] [16] (fun vs w => vs = [.bool (qOf hr k (ld l k) ((stepsC c k s (ld l k))[j]'hj2))] ∧ St w0 w ((b12, blk 4 (bvs y)) :: (b11, blk 4 (bvs x)) :: (b8, blk 4 (bvs t)) :: (b9, blk 4 (bvs u)) :: (b3, blk 76 (c.cells pc)) :: (B ++ F))) (fun K106 hC105 => ?_) ?_
            ·
             refine w_region ?_
             refine w_p (y_move (v := .int _ _) rfl rfl) rfl ?_
             refine w_p (y_eql rfl rfl rfl rfl) rfl ?_
             refine w_p (y_move (v := .bool _) rfl rfl) rfl ?_
             refine w_split (fun h107 => ?_) (fun h107 => ?_)
             ·
              try simp only [zA, zB, zC, zD, zE, zF] at h107
              refine w_y rfl rfl rfl (y_move (v := .slice _ _ _) rfl rfl) rfl ?_
              refine w_y rfl rfl rfl (y_move (v := .int _ _) rfl rfl) rfl ?_
              refine w_y rfl rfl rfl (y_indexS Try.underlying141 Try.sizeOf144 rfl rfl rfl rfl (i := j) rfl hj2) rfl ?_
              refine w_y rfl rfl rfl (y_fieldAddr (o := 1) (i := 1) Try.underlying144 rfl Try.sizeOf3 rfl rfl rfl) rfl ?_
              refine w_y rfl rfl rfl (y_load1 Try.isAgg3 hs.tail.tail.tail.tail.tail rfl rfl (show Ats _ _ _ _ [_] from Ats.part hw2.top 1 1)) rfl ?_
              refine w_y rfl rfl rfl (y_neq rfl rfl rfl rfl) rfl ?_
              refine w_p (y_pickT (v := .bool _) rfl rfl rfl rfl) rfl ?_
              refine w_p (y_move (v := .bool _) rfl rfl) rfl ?_
              refine w_split (fun h108 => ?_) (fun h108 => ?_)
              ·
               try simp only [zA, zB, zC, zD, zE, zF] at h108
               refine w_skipop rfl rfl rfl ?_
               refine w_skipop rfl rfl rfl ?_
               refine w_skipop rfl rfl rfl ?_
               refine w_skipop rfl rfl rfl ?_
               refine w_skipop' rfl rfl rfl ?_
               refine w_skipop' rfl rfl rfl ?_
               refine w_skipop' rfl rfl rfl ?_
               refine w_skipop' rfl rfl rfl ?_
               refine w_skipop' rfl rfl rfl ?_
               refine w_skipop rfl rfl rfl ?_
               refine w_p (y_pickT (v := _) rfl rfl rfl rfl) rfl ?_
               refine w_p (y_assign (v := .bool _) rfl rfl) rfl ?_
               refine w_nil ?_
               refine q_then (hC105 _ _ (Md.intro (by repeat (first | exact agree_refl | exact agree_mix | refine agree_upd rfl ?_ | refine agree_updL rfl ?_ _ | refine agree_mixin rfl ?_)) ?_))
               exact ⟨bl1 (by
                 have hqe : qOf hr k (ld l k) ((stepsC c k s (ld l k))[j]'hj2) = ((decide (hr = -1) && decide (((stepsC c k s (ld l k))[j]'hj2).counts - ld l k ≠ 0)) || (decide (hr = (k : Int)) && ((stepsC c k s (ld l k))[j]'hj2).zero)) := rfl
                 have hk1 : ¬ ((-1 : Int) = (k : Int)) := by omega
                 rw [hqe]
                 first
                   | (exfalso; omega)
                   | (simp [hk1, h40, h73, h80, h81, h100, h107, h108]; done)), hs⟩
              ·
               try simp only [zA, zB, zC, zD, zE, zF] at h108
               refine w_y rfl rfl rfl (y_move (v := .int _ _) rfl rfl) rfl ?_
               refine w_y rfl rfl rfl (y_move (v := .int _ _) rfl rfl) rfl ?_
               refine w_y rfl rfl rfl (y_eql rfl rfl rfl rfl) rfl ?_
               refine w_y rfl rfl rfl (y_move (v := .bool _) rfl rfl) rfl ?_
               refine w_split (fun h109 => ?_) (fun h109 => ?_)
               ·
                try simp only [zA, zB, zC, zD, zE, zF] at h109
                refine w_y rfl rfl rfl (y_move (v := .slice _ _ _) rfl rfl) rfl ?_
                refine w_y rfl rfl rfl (y_move (v := .int _ _) rfl rfl) rfl ?_
                refine w_y rfl rfl rfl (y_indexS Try.underlying141 Try.sizeOf144 rfl rfl rfl rfl (i := j) rfl hj2) rfl ?_
                refine w_y rfl rfl rfl (y_fieldAddr (o := 2) (i := 2) Try.underlying144 rfl Try.sizeOf4 rfl rfl rfl) rfl ?_
                refine w_y rfl rfl rfl (y_load1 Try.isAgg4 hs.tail.tail.tail.tail.tail rfl rfl (show Ats _ _ _ _ [_] from Ats.part hw2.top 2 1)) rfl ?_
                refine w_y rfl rfl rfl (y_pickT (v := .bool _) rfl rfl rfl rfl) rfl ?_
                refine w_p (y_pickF (v := .bool _) rfl rfl rfl rfl) rfl ?_
                refine w_p (y_assign (v := .bool _) rfl rfl) rfl ?_
                refine w_nil ?_
                refine q_then (hC105 _ _ (Md.intro (by repeat (first | exact agree_refl | exact agree_mix | refine agree_upd rfl ?_ | refine agree_updL rfl ?_ _ | refine agree_mixin rfl ?_)) ?_))
                exact ⟨bl1 (by
                  have hqe : qOf hr k (ld l k) ((stepsC c k s (ld l k))[j]'hj2) = ((decide (hr = -1) && decide (((stepsC c k s (ld l k))[j]'hj2).counts - ld l k ≠ 0)) || (decide (hr = (k : Int)) && ((stepsC c k s (ld l k))[j]'hj2).zero)) := rfl
                  have hk1 : ¬ ((-1 : Int) = (k : Int)) := by omega
                  rw [hqe]
                  first
                    | (exfalso; omega)
                    | (simp [hk1, h40, h73, h80, h81, h100, h107, h108, h109]; done)), hs⟩
               ·
                try simp only [zA, zB, zC, zD, zE, zF] at h109
                refine w_skipop rfl rfl rfl ?_
                refine w_skipop rfl rfl rfl ?_
                refine w_skipop rfl rfl rfl ?_
                refine w_skipop rfl rfl rfl ?_
                refine w_skipop rfl rfl rfl ?_
                refine w_y rfl rfl rfl (y_pickF (v := _) rfl rfl rfl rfl) rfl ?_
                refine w_p (y_pickF (v := .bool _) rfl rfl rfl rfl) rfl ?_
                refine w_p (y_assign (v := .bool _) rfl rfl) rfl ?_
                refine w_nil ?_
                refine q_then (hC105 _ _ (Md.intro (by repeat (first | exact agree_refl | exact agree_mix | refine agree_upd rfl ?_ | refine agree_updL rfl ?_ _ | refine agree_mixin rfl ?_)) ?_))
                exact ⟨bl1 (by
                  have hqe : qOf hr k (ld l k) ((stepsC c k s (ld l k))[j]'hj2) = ((decide (hr = -1) && decide (((stepsC c k s (ld l k))[j]'hj2).counts - ld l k ≠ 0)) || (decide (hr = (k : Int)) && ((stepsC c k s (ld l k))[j]'hj2).zero)) := rfl
                  have hk1 : ¬ ((-1 : Int) = (k : Int)) := by omega
                  rw [hqe]
                  first
                    | (exfalso; omega)
                    | (simp [hk1, h40, h73, h80, h81, h100, h107, h108, h109]; done)), hs⟩
             ·
              try simp only [zA, zB, zC, zD, zE, zF] at h107
              refine w_skipop rfl rfl rfl ?_
              refine w_skipop rfl rfl rfl ?_
              refine w_skipop rfl rfl rfl ?_
              refine w_skipop rfl rfl rfl ?_
              refine w_skipop rfl rfl rfl ?_
              refine w_skipop rfl rfl rfl ?_
              refine w_p (y_pickF (v := _) rfl rfl rfl rfl) rfl ?_
              refine w_p (y_move (v := .bool _) rfl rfl) rfl ?_
              refine w_y rfl rfl rfl (y_move (v := .int _ _) rfl rfl) rfl ?_
              refine w_y rfl rfl rfl (y_move (v := .int _ _) rfl rfl) rfl ?_
              refine w_y rfl rfl rfl (y_eql rfl rfl rfl rfl) rfl ?_
              refine w_y rfl rfl rfl (y_move (v := .bool _) rfl rfl) rfl ?_
              refine w_split (fun h110 => ?_) (fun h110 => ?_)
              ·
               try simp only [zA, zB, zC, zD, zE, zF] at h110
               refine w_y rfl rfl rfl (y_move (v := .slice _ _ _) rfl rfl) rfl ?_
               refine w_y rfl rfl rfl (y_move (v := .int _ _) rfl rfl) rfl ?_
               refine w_y rfl rfl rfl (y_indexS Try.underlying141 Try.sizeOf144 rfl rfl rfl rfl (i := j) rfl hj2) rfl ?_
               refine w_y rfl rfl rfl (y_fieldAddr (o := 2) (i := 2) Try.underlying144 rfl Try.sizeOf4 rfl rfl rfl) rfl ?_
               refine w_y rfl rfl rfl (y_load1 Try.isAgg4 hs.tail.tail.tail.tail.tail rfl rfl (show Ats _ _ _ _ [_] from Ats.part hw2.top 2 1)) rfl ?_
               refine w_y rfl rfl rfl (y_pickT (v := .bool _) rfl rfl rfl rfl) rfl ?_
               refine w_p (y_pickF (v := .bool _) rfl rfl rfl rfl) rfl ?_
               refine w_p (y_assign (v := .bool _) rfl rfl) rfl ?_
               refine w_nil ?_
               refine q_then (hC105 _ _ (Md.intro (by repeat (first | exact agree_refl | exact agree_mix | refine agree_upd rfl ?_ | refine agree_updL rfl ?_ _ | refine agree_mixin rfl ?_)) ?_))
               exact ⟨bl1 (by
                 have hqe : qOf hr k (ld l k) ((stepsC c k s (ld l k))[j]'hj2) = ((decide (hr = -1) && decide (((stepsC c k s (ld l k))[j]'hj2).counts - ld l k ≠ 0)) || (decide (hr = (k : Int)) && ((stepsC c k s (ld l k))[j]'hj2).zero)) := rfl
                 have hk1 : ¬ ((-1 : Int) = (k : Int)) := by omega
                 rw [hqe]
                 first
                   | (exfalso; omega)
                   | (simp [hk1, h40, h73, h80, h81, h100, h107, h110]; done)), hs⟩
              ·
               try simp only [zA, zB, zC, zD, zE, zF] at h110
               refine w_skipop rfl rfl rfl ?_
               refine w_skipop rfl rfl rfl ?_
               refine w_skipop rfl rfl rfl ?_
               refine w_skipop rfl rfl rfl ?_
               refine w_skipop rfl rfl rfl ?_
               refine w_y rfl rfl rfl (y_pickF (v := _) rfl rfl rfl rfl) rfl ?_
               refine w_p (y_pickF (v := .bool _) rfl rfl rfl rfl) rfl ?_
               refine w_p (y_assign (v := .bool _) rfl rfl) rfl ?_
               refine w_nil ?_
               refine q_then (hC105 _ _ (Md.intro (by repeat (first | exact agree_refl | exact agree_mix | refine agree_upd rfl ?_ | refine agree_updL rfl ?_ _ | refine agree_mixin rfl ?_)) ?_))
               exact ⟨bl1 (by
                 have hqe : qOf hr k (ld l k) ((stepsC c k s (ld l k))[j]'hj2) = ((decide (hr = -1) && decide (((stepsC c k s (ld l k))[j]'hj2).counts - ld l k ≠ 0)) || (decide (hr = (k : Int)) && ((stepsC c k s (ld l k))[j]'hj2).zero)) := rfl
                 have hk1 : ¬ ((-1 : Int) = (k : Int)) := by omega
                 rw [hqe]
                 first
                   | (exfalso; omega)
                   | (simp [hk1, h40, h73, h80, h81, h100, h107, h110]; done)), hs⟩
            ·
             intro vs μ w111 hM
             clear hs
             obtain ⟨rfl, hs⟩ := hM
             refine q_then (hK103 _ _ ?_)
             refine w_seq (fun K113 hK112 => ?_)
             refine w_region ?_
             refine w_p (y_move (v := .slice _ _ _) rfl rfl) rfl ?_
             refine w_p (y_move (v := .int _ _) rfl rfl) rfl ?_
             refine w_p (y_indexS Try.underlying141 Try.sizeOf144 rfl rfl rfl rfl (i := j) rfl hj2) rfl ?_
             refine w_p (y_fieldAddr (o := 0) (i := 0) Try.underlying144 rfl Try.sizeOf3 rfl rfl rfl) rfl ?_
             refine w_p (y_load1 Try.isAgg3 hs.tail.tail.tail.tail.tail rfl rfl (show Ats _ _ _ _ [_] from Ats.part hw2.top 0 1)) rfl ?_
             refine w_p (y_assign (v := .int _ _) rfl rfl) rfl ?_
             refine w_nil ?_
             refine q_then (hK112 _ _ ?_)
             refine w_seq (fun K115 hK114 => ?_)
             refine w_cut [89, 90, 91, 92, 93, 94, 95, 96, 97, 98, 99, 100, 101, 102, 103, 104, 105] [] (fun vs w => ∃ x2 : List Bool, vs = [] ∧ Tab x2 (NP c l (qOf hr) k s (j + 1)) ∧ St w0 w ((b12, blk 4 (bvs y)) :: (b11, blk 4 (bvs x2)) :: (b8, blk 4 (bvs t)) :: (b9, blk 4 (bvs u)) :: (b3, blk 76 (c.cells pc)) :: (B ++ F))) (fun K117 hC116 => ?_) ?_
             ·
              refine w_region ?_
              refine w_p (y_move (v := .slice _ _ _) rfl rfl) rfl ?_
              refine w_p (y_move (v := .int _ _) rfl rfl) rfl ?_
              refine w_p (y_move (v := .slice _ _ _) rfl rfl) rfl ?_
              refine w_p (y_move (v := .int _ _) rfl rfl) rfl ?_
              refine w_p (y_indexS Try.underlying50 Try.sizeOf4 rfl rfl rfl rfl (i := (((stepsC c k s (ld l k))[j]'hj2).shows.toNat)) (by first | rfl | omega) (by omega)) rfl ?_
              refine w_p (y_load1 Try.isAgg4 hs rfl rfl (ats_bools (i := 1) (j := (((stepsC c k s (ld l k))[j]'hj2).shows.toNat)) rfl (by rw [hx.1]; omega))) rfl ?_
              refine w_p (y_move (v := .bool _) rfl rfl) rfl ?_
              refine w_split (fun h118 => ?_) (fun h118 => ?_)
              ·
               try simp only [zA, zB, zC, zD, zE, zF] at h118
               refine w_skipop rfl rfl rfl ?_
               refine w_skipop rfl rfl rfl ?_
               refine w_skipop rfl rfl rfl ?_
               refine w_skipop rfl rfl rfl ?_
               refine w_skipop rfl rfl rfl ?_
               refine w_skipop' rfl rfl rfl ?_
               refine w_skipop' rfl rfl rfl ?_
               refine w_skipop rfl rfl rfl ?_
               refine w_p (y_pickT (v := _) rfl rfl rfl rfl) rfl ?_
               refine w_p (y_indexS Try.underlying50 Try.sizeOf4 rfl rfl rfl rfl (i := (((stepsC c k s (ld l k))[j]'hj2).shows.toNat)) (by first | rfl | omega) (by omega)) rfl ?_
               refine w_storeAtB (i := 1) (j := (((stepsC c k s (ld l k))[j]'hj2).shows.toNat)) want_none Try.sizeOf4 rfl rfl rfl rfl hs rfl (by rw [hx.1]; omega) (fun w119 hs120 => ?_)
               refine w_nil ?_
               refine q_then (hC116 _ _ (Md.intro (by repeat (first | exact agree_refl | exact agree_mix | refine agree_upd rfl ?_ | refine agree_updL rfl ?_ _ | refine agree_mixin rfl ?_)) ?_))
               exact ⟨_, rfl, np_next hj2 hsh hsm ht (by omega) hx (by first | exact iff_a (by assumption) | exact iff_b (by assumption) (by assumption) | exact iff_c (by assumption) (by assumption)), hs120⟩
              ·
               try simp only [zA, zB, zC, zD, zE, zF] at h118
               refine w_y rfl rfl rfl (y_move (v := .slice _ _ _) rfl rfl) rfl ?_
               refine w_y rfl rfl rfl (y_move (v := .int _ _) rfl rfl) rfl ?_
               refine w_y rfl rfl rfl (y_indexS Try.underlying50 Try.sizeOf4 rfl rfl rfl rfl (i := s) (by first | rfl | omega) (by omega)) rfl ?_
               refine w_y rfl rfl rfl (y_load1 Try.isAgg4 hs rfl rfl (ats_bools (i := 2) (j := s) rfl (by rw [ht.1]; omega))) rfl ?_
               refine w_y rfl rfl rfl (y_move (v := .bool _) rfl rfl) rfl ?_
               refine w_split (fun h121 => ?_) (fun h121 => ?_)
               ·
                try simp only [zA, zB, zC, zD, zE, zF] at h121
                refine w_y rfl rfl rfl (y_move (v := .bool _) rfl rfl) rfl ?_
                refine w_y rfl rfl rfl (y_not rfl rfl) rfl ?_
                refine w_y rfl rfl rfl (y_pickT (v := .bool _) rfl rfl rfl rfl) rfl ?_
                refine w_p (y_pickF (v := .bool _) rfl rfl rfl rfl) rfl ?_
                refine w_p (y_indexS Try.underlying50 Try.sizeOf4 rfl rfl rfl rfl (i := (((stepsC c k s (ld l k))[j]'hj2).shows.toNat)) (by first | rfl | omega) (by omega)) rfl ?_
                refine w_storeAtB (i := 1) (j := (((stepsC c k s (ld l k))[j]'hj2).shows.toNat)) want_none Try.sizeOf4 rfl rfl rfl rfl hs rfl (by rw [hx.1]; omega) (fun w122 hs123 => ?_)
                refine w_nil ?_
                refine q_then (hC116 _ _ (Md.intro (by repeat (first | exact agree_refl | exact agree_mix | refine agree_upd rfl ?_ | refine agree_updL rfl ?_ _ | refine agree_mixin rfl ?_)) ?_))
                exact ⟨_, rfl, np_next hj2 hsh hsm ht (by omega) hx (by first | exact iff_a (by assumption) | exact iff_b (by assumption) (by assumption) | exact iff_c (by assumption) (by assumption)), hs123⟩
               ·
                try simp only [zA, zB, zC, zD, zE, zF] at h121
                refine w_skipop rfl rfl rfl ?_
                refine w_skipop rfl rfl rfl ?_
                refine w_y rfl rfl rfl (y_pickF (v := _) rfl rfl rfl rfl) rfl ?_
                refine w_p (y_pickF (v := .bool _) rfl rfl rfl rfl) rfl ?_
                refine w_p (y_indexS Try.underlying50 Try.sizeOf4 rfl rfl rfl rfl (i := (((stepsC c k s (ld l k))[j]'hj2).shows.toNat)) (by first | rfl | omega) (by omega)) rfl ?_
                refine w_storeAtB (i := 1) (j := (((stepsC c k s (ld l k))[j]'hj2).shows.toNat)) want_none Try.sizeOf4 rfl rfl rfl rfl hs rfl (by rw [hx.1]; omega) (fun w124 hs125 => ?_)
                refine w_nil ?_
                refine q_then (hC116 _ _ (Md.intro (by repeat (first | exact agree_refl | exact agree_mix | refine agree_upd rfl ?_ | refine agree_updL rfl ?_ _ | refine agree_mixin rfl ?_)) ?_))
                exact ⟨_, rfl, np_next hj2 hsh hsm ht (by omega) hx (by first | exact iff_a (by assumption) | exact iff_b (by assumption) (by assumption) | exact iff_c (by assumption) (by assumption)), hs125⟩
             ·
              intro vs μ w126 hM
              clear hs
              obtain ⟨x2, rfl, hx2, hs⟩ := hM
              refine q_then (hK114 _ _ ?_)
              refine w_region ?_
              refine w_p (y_move (v := .slice _ _ _) rfl rfl) rfl ?_
              refine w_p (y_move (v := .int _ _) rfl rfl) rfl ?_
              refine w_p (y_move (v := .slice _ _ _) rfl rfl) rfl ?_
              refine w_p (y_move (v := .int _ _) rfl rfl) rfl ?_
              refine w_p (y_indexS Try.underlying50 Try.sizeOf4 rfl rfl rfl rfl (i := (((stepsC c k s (ld l k))[j]'hj2).shows.toNat)) (by first | rfl | omega) (by omega)) rfl ?_
              refine w_p (y_load1 Try.isAgg4 hs rfl rfl (ats_bools (i := 0) (j := (((stepsC c k s (ld l k))[j]'hj2).shows.toNat)) rfl (by rw [hy.1]; omega))) rfl ?_
              refine w_p (y_move (v := .bool _) rfl rfl) rfl ?_
              refine w_split (fun h127 => ?_) (fun h127 => ?_)
              ·
               try simp only [zA, zB, zC, zD, zE, zF] at h127
               refine w_skipop rfl rfl rfl ?_
               refine w_skipop rfl rfl rfl ?_
               refine w_skipop rfl rfl rfl ?_
               refine w_skipop rfl rfl rfl ?_
               refine w_p (y_pickT (v := _) rfl rfl rfl rfl) rfl ?_
               refine w_p (y_move (v := .bool _) rfl rfl) rfl ?_
               refine w_skipop rfl rfl rfl ?_
               refine w_skipop rfl rfl rfl ?_
               refine w_skipop rfl rfl rfl ?_
               refine w_skipop rfl rfl rfl ?_
               refine w_skipop rfl rfl rfl ?_
               refine w_skipop' rfl rfl rfl ?_
               refine w_skipop rfl rfl rfl ?_
               refine w_p (y_pickT (v := _) rfl rfl rfl rfl) rfl ?_
               refine w_p (y_indexS Try.underlying50 Try.sizeOf4 rfl rfl rfl rfl (i := (((stepsC c k s (ld l k))[j]'hj2).shows.toNat)) (by first | rfl | omega) (by omega)) rfl ?_
               refine w_storeAtB (i := 0) (j := (((stepsC c k s (ld l k))[j]'hj2).shows.toNat)) want_none Try.sizeOf4 rfl rfl rfl rfl hs rfl (by rw [hy.1]; omega) (fun w128 hs129 => ?_)
               refine w_nil ?_
               refine q_blk_normal ?_
               refine q_then (hK101 _ _ ?_)
               refine w_region ?_
               refine w_p (y_move (v := .int _ _) rfl rfl) rfl ?_
               refine w_p (y_add rfl rfl rfl rfl (by omega) (by omega)) rfl ?_
               refine w_p (y_assign (v := .int _ _) rfl rfl) rfl ?_
               refine w_nil ?_
               refine q_then (hN93 _ _ (Nx.intro ((stepsC c k s (ld l k)).length - (j + 1)) (by omega) (by repeat (first | exact agree_mix | refine agree_upd rfl ?_ | refine agree_updL rfl ?_ _ | refine agree_mixin rfl ?_)) ?_))
               exact ⟨j + 1, x2, _, rfl, by omega, rfl, hx2, mp_next hj2 hsh hsm ht hu (by omega) hy (by first | exact iff_d (by assumption) | exact iff_e (by assumption) (by assumption) | exact iff_f (by assumption) (by assumption) (by assumption) | exact iff_g (by assumption) (by assumption) (by assumption)), hs129⟩
              ·
               try simp only [zA, zB, zC, zD, zE, zF] at h127
               refine w_y rfl rfl rfl (y_move (v := .slice _ _ _) rfl rfl) rfl ?_
               refine w_y rfl rfl rfl (y_move (v := .int _ _) rfl rfl) rfl ?_
               refine w_y rfl rfl rfl (y_indexS Try.underlying50 Try.sizeOf4 rfl rfl rfl rfl (i := s) (by first | rfl | omega) (by omega)) rfl ?_
               refine w_y rfl rfl rfl (y_load1 Try.isAgg4 hs rfl rfl (ats_bools (i := 3) (j := s) rfl (by rw [hu.1]; omega))) rfl ?_
               refine w_p (y_pickF (v := .bool _) rfl rfl rfl rfl) rfl ?_
               refine w_p (y_move (v := .bool _) rfl rfl) rfl ?_
               refine w_split (fun h130 => ?_) (fun h130 => ?_)
               ·
                try simp only [zA, zB, zC, zD, zE, zF] at h130
                refine w_skipop rfl rfl rfl ?_
                refine w_skipop rfl rfl rfl ?_
                refine w_skipop rfl rfl rfl ?_
                refine w_skipop rfl rfl rfl ?_
                refine w_skipop rfl rfl rfl ?_
                refine w_skipop' rfl rfl rfl ?_
                refine w_skipop rfl rfl rfl ?_
                refine w_p (y_pickT (v := _) rfl rfl rfl rfl) rfl ?_
                refine w_p (y_indexS Try.underlying50 Try.sizeOf4 rfl rfl rfl rfl (i := (((stepsC c k s (ld l k))[j]'hj2).shows.toNat)) (by first | rfl | omega) (by omega)) rfl ?_
                refine w_storeAtB (i := 0) (j := (((stepsC c k s (ld l k))[j]'hj2).shows.toNat)) want_none Try.sizeOf4 rfl rfl rfl rfl hs rfl (by rw [hy.1]; omega) (fun w131 hs132 => ?_)
                refine w_nil ?_
                refine q_blk_normal ?_
                refine q_then (hK101 _ _ ?_)
                refine w_region ?_
                refine w_p (y_move (v := .int _ _) rfl rfl) rfl ?_
                refine w_p (y_add rfl rfl rfl rfl (by omega) (by omega)) rfl ?_
                refine w_p (y_assign (v := .int _ _) rfl rfl) rfl ?_
                refine w_nil ?_
                refine q_then (hN93 _ _ (Nx.intro ((stepsC c k s (ld l k)).length - (j + 1)) (by omega) (by repeat (first | exact agree_mix | refine agree_upd rfl ?_ | refine agree_updL rfl ?_ _ | refine agree_mixin rfl ?_)) ?_))
                exact ⟨j + 1, x2, _, rfl, by omega, rfl, hx2, mp_next hj2 hsh hsm ht hu (by omega) hy (by first | exact iff_d (by assumption) | exact iff_e (by assumption) (by assumption) | exact iff_f (by assumption) (by assumption) (by assumption) | exact iff_g (by assumption) (by assumption) (by assumption)), hs132⟩
               ·
                try simp only [zA, zB, zC, zD, zE, zF] at h130
                refine w_y rfl rfl rfl (y_move (v := .slice _ _ _) rfl rfl) rfl ?_
                refine w_y rfl rfl rfl (y_move (v := .int _ _) rfl rfl) rfl ?_
                refine w_y rfl rfl rfl (y_indexS Try.underlying50 Try.sizeOf4 rfl rfl rfl rfl (i := s) (by first | rfl | omega) (by omega)) rfl ?_
                refine w_y rfl rfl rfl (y_load1 Try.isAgg4 hs rfl rfl (ats_bools (i := 2) (j := s) rfl (by rw [ht.1]; omega))) rfl ?_
                refine w_y rfl rfl rfl (y_move (v := .bool _) rfl rfl) rfl ?_
                refine w_split (fun h133 => ?_) (fun h133 => ?_)
                ·
                 try simp only [zA, zB, zC, zD, zE, zF] at h133
                 refine w_y rfl rfl rfl (y_move (v := .bool _) rfl rfl) rfl ?_
                 refine w_y rfl rfl rfl (y_pickT (v := .bool _) rfl rfl rfl rfl) rfl ?_
                 refine w_p (y_pickF (v := .bool _) rfl rfl rfl rfl) rfl ?_
                 refine w_p (y_indexS Try.underlying50 Try.sizeOf4 rfl rfl rfl rfl (i := (((stepsC c k s (ld l k))[j]'hj2).shows.toNat)) (by first | rfl | omega) (by omega)) rfl ?_
                 refine w_storeAtB (i := 0) (j := (((stepsC c k s (ld l k))[j]'hj2).shows.toNat)) want_none Try.sizeOf4 rfl rfl rfl rfl hs rfl (by rw [hy.1]; omega) (fun w134 hs135 => ?_)
                 refine w_nil ?_
                 refine q_blk_normal ?_
                 refine q_then (hK101 _ _ ?_)
                 refine w_region ?_
                 refine w_p (y_move (v := .int _ _) rfl rfl) rfl ?_
                 refine w_p (y_add rfl rfl rfl rfl (by omega) (by omega)) rfl ?_
                 refine w_p (y_assign (v := .int _ _) rfl rfl) rfl ?_
                 refine w_nil ?_
                 refine q_then (hN93 _ _ (Nx.intro ((stepsC c k s (ld l k)).length - (j + 1)) (by omega) (by repeat (first | exact agree_mix | refine agree_upd rfl ?_ | refine agree_updL rfl ?_ _ | refine agree_mixin rfl ?_)) ?_))
                 exact ⟨j + 1, x2, _, rfl, by omega, rfl, hx2, mp_next hj2 hsh hsm ht hu (by omega) hy (by first | exact iff_d (by assumption) | exact iff_e (by assumption) (by assumption) | exact iff_f (by assumption) (by assumption) (by assumption) | exact iff_g (by assumption) (by assumption) (by assumption)), hs135⟩
                ·
                 try simp only [zA, zB, zC, zD, zE, zF] at h133
                 refine w_skipop rfl rfl rfl ?_
                 refine w_y rfl rfl rfl (y_pickF (v := _) rfl rfl rfl rfl) rfl ?_
                 refine w_p (y_pickF (v := .bool _) rfl rfl rfl rfl) rfl ?_
                 refine w_p (y_indexS Try.underlying50 Try.sizeOf4 rfl rfl rfl rfl (i := (((stepsC c k s (ld l k))[j]'hj2).shows.toNat)) (by first | rfl | omega) (by omega)) rfl ?_
                 refine w_storeAtB (i := 0) (j := (((stepsC c k s (ld l k))[j]'hj2).shows.toNat)) want_none Try.sizeOf4 rfl rfl rfl rfl hs rfl (by rw [hy.1]; omega) (fun w136 hs137 => ?_)
                 refine w_nil ?_
                 refine q_blk_normal ?_
                 refine q_then (hK101 _ _ ?_)
                 refine w_region ?_
                 refine w_p (y_move (v := .int _ _) rfl rfl) rfl ?_
                 refine w_p (y_add rfl rfl rfl rfl (by omega) (by omega)) rfl ?_
                 refine w_p (y_assign (v := .int _ _) rfl rfl) rfl ?_
                 refine w_nil ?_
                 refine q_then (hN93 _ _ (Nx.intro ((stepsC c k s (ld l k)).length - (j + 1)) (by omega) (by repeat (first | exact agree_mix | refine agree_upd rfl ?_ | refine agree_updL rfl ?_ _ | refine agree_mixin rfl ?_)) ?_))
                 exact ⟨j + 1, x2, _, rfl, by omega, rfl, hx2, mp_next hj2 hsh hsm ht hu (by omega) hy (by first | exact iff_d (by assumption) | exact iff_e (by assumption) (by assumption) | exact iff_f (by assumption) (by assumption) (by assumption) | exact iff_g (by assumption) (by assumption) (by assumption)), hs137⟩
           ·
            try simp only [zA, zB, zC, zD, zE, zF] at h100
            refine w_exit ?_
            refine q_then_exit ?_
            refine q_then_exit ?_
            refine q_blk_this ?_
            refine q_blk_normal ?_
            refine q_then (hK74 _ _ ?_)
            refine w_region ?_
            refine w_p (y_move (v := .int _ _) rfl rfl) rfl ?_
            refine w_p (y_add rfl rfl rfl rfl (by omega) (by omega)) rfl ?_
            refine w_p (y_assign (v := .int _ _) rfl rfl) rfl ?_
            refine w_nil ?_
            refine q_then (hN66 _ _ (Nx.intro (100 - (s + 1)) (by omega) (by repeat (first | exact agree_mix | refine agree_upd rfl ?_ | refine agree_updL rfl ?_ _ | refine agree_mixin rfl ?_)) ?_))
            exact ⟨s + 1, x, y, rfl, by omega, rfl, tab_to hx fun z => np_all (by omega), tab_to hy fun z => mp_all (by omega), drop5 hs⟩
        ·
         try simp only [zA, zB, zC, zD, zE, zF] at h80
         refine w_skipop rfl rfl rfl ?_
         refine w_skipop rfl rfl rfl ?_
         refine w_skipop rfl rfl rfl ?_
         refine w_skipop rfl rfl rfl ?_
         refine w_skipop rfl rfl rfl ?_
         refine w_p (y_pickF (v := _) rfl rfl rfl rfl) rfl ?_
         refine w_nil ?_
         refine q_then (hK78 _ _ ?_)
         refine w_condF rfl rfl ?_
         refine w_skip ?_
         refine q_then (hK76 _ _ ?_)
         refine w_seq (fun K139 hK138 => ?_)
         have hk2 : k < l.length := by omega
         obtain ⟨bl, ol, hbl, hxl⟩ := sl_ints hl hk2
         have hlk : ld l k = l[k] := by simp [ld, List.getD, hk2]
         rw [← hlk] at hxl
         have hlk2 := hl40 k
         have hssl := steps_many hok k s (ld l k)
         refine w_draw [] [(0, 1), (1, 0), (2, 0), (3, 0), (4, 0), (5, 0), (6, 1), (7, 2), (8, 0)] Try_mo (drawOK_of (by kernel_rfl)) hs (fun w140 hs141 => ?_)
         refine d_take rfl want_none rfl hs141 (fun _ hq => (y_loadN (vs := [_, _, _, _, _, _]) Try.isAgg76 Try.sizeOf76 hq rfl rfl (ats_own (i := 4) (vs := [_, _, _, _, _, _]) rfl rfl))) ?_
         refine d_any rfl want_none rfl (fun _ => (y_move (v := .int _ _) rfl rfl)) ?_
         refine d_any rfl want_none rfl (fun _ => (y_move (v := .int _ _) rfl rfl)) ?_
         refine d_any rfl want_none rfl (fun _ => (yd_slice hbl (y_move (v := .slice _ _ _) rfl rfl))) ?_
         refine d_any rfl want_none rfl (fun _ => (y_move (v := .int _ _) rfl rfl)) ?_
         refine d_any rfl want_none rfl (fun _ => (y_indexS Try.underlying39 Try.sizeOf3 rfl rfl rfl rfl (i := k) rfl (by omega))) ?_
         refine d_take rfl want_none rfl hs141 (fun _ hq => (y_load1 Try.isAgg3 hq.tail.tail.tail.tail.tail rfl rfl hxl)) ?_
         refine d_eff rfl ?_
         refine w_call want_none Try.call101 rfl rfl rfl rfl (c101 c pc n hok hz.cons.cons.cons.cons.cons hw.cons.cons.cons.cons.cons k (by omega) s (ld l k) (by omega) (hl40 k) hs141) ?_
         rintro _ w143 ⟨xs, cap, B, rfl, hsl, hs144⟩
         replace hs144 := (show St _ _ (B ++ (_ :: _ :: _ :: _ :: _ :: F)) from hs144)
         refine w_nil ?_
         refine qn ⟨hs144.drop, ?_⟩
         refine d_any rfl want_none rfl (fun _ => (y_assign (v := .slice _ _ _) rfl rfl)) ?_
         refine d_nil ?_
         refine q_then (hK138 _ _ ?_)
         refine w_seq (fun K147 hK146 => ?_)
         have hs148 := end5 hs144
         replace hs148 := (show St _ _ (_ :: _ :: _ :: _ :: _ :: B ++ (F)) from hs148)
         refine w_region ?_
         refine w_p (y_assign (v := _) rfl rfl) rfl ?_
         refine w_nil ?_
         refine q_then (hK146 _ _ ?_)
         refine w_block ?_
         refine w_loop [15, 16, 17, 56, 57, 58, 59, 60, 61, 62, 63, 64, 65, 66, 67, 68, 69, 70, 71, 72, 73, 74, 75, 76, 77, 78, 79, 80, 81, 82, 83, 84, 85, 86, 87, 88, 89, 90, 91, 92, 93, 94, 95, 96, 97, 98, 99, 100, 101, 102, 103, 104, 105, 106, 107, 108, 109, 110, 111, 112, 113, 114, 115, 116, 117, 118, 119, 120, 121, 122, 123, 124, 125, 126, 127] [15] (fun kk vs w => ∃ (j : Nat) (x y : List Bool), vs = [.int .i64 j] ∧ j ≤ (stepsC c k s (ld l k)).length ∧ kk = (stepsC c k s (ld l k)).length - j ∧ Tab x (NP c l (qOf hr) k s j) ∧ Tab y (MP c l (qOf hr) k s j) ∧ St w0 w ((b12, blk 4 (bvs y)) :: (b11, blk 4 (bvs x)) :: (b8, blk 4 (bvs t)) :: (b9, blk 4 (bvs u)) :: (b3, blk 76 (c.cells pc)) :: (B ++ F))) ((stepsC c k s (ld l k)).length) ?_ ?_
         ·
          exact ⟨0, x, y, rfl, by omega, by omega, tab_to hx fun z => (np_zero _ _ _ _ _ _).symm, tab_to hy fun z => (mp_zero _ _ _ _ _ _).symm, hs148⟩
         ·
          intro k vs μ w151 hI K150 hN149
          clear hs hx hy
          obtain ⟨j, x, y, rfl, hja, rfl, hx, hy, hs⟩ := hI
          refine w_seq (fun K153 hK152 => ?_)
          refine w_seq (fun K155 hK154 => ?_)
          refine w_region ?_
          refine w_p (y_move (v := .int _ _) rfl rfl) rfl ?_
          refine w_p (y_move (v := .slice _ _ _) rfl rfl) rfl ?_
          refine w_p (y_lenS Try.underlying141 rfl rfl) rfl ?_
          refine w_p (y_lss rfl rfl rfl rfl) rfl ?_
          refine w_nil ?_
          refine q_then (hK154 _ _ ?_)
          refine w_cond rfl rfl (fun h156 => ?_) (fun h156 => ?_)
          ·
           try simp only [zA, zB, zC, zD, zE, zF] at h156
           refine w_skip ?_
           refine q_then (hK152 _ _ ?_)
           refine w_seq (fun K158 hK157 => ?_)
           refine w_block ?_
           refine w_seq (fun K160 hK159 => ?_)
           have hj2 : j < (stepsC c k s (ld l k)).length := by omega
           obtain ⟨bw2, ow2, rfl, hw2⟩ := sl_srows hsl hj2
           have hsi := steps_in (List.getElem_mem hj2)
           have hsh : ((stepsC c k s (ld l k))[j]'hj2).shows = (((((stepsC c k s (ld l k))[j]'hj2).shows.toNat) : Nat) : Int) := by omega
           have hsm : (((stepsC c k s (ld l k))[j]'hj2).shows.toNat) < 100 := by omega
           refine w_cut [16, 62, 63, 64, 65, 66, 67, 68, 69, 70, 71, 72, 73, 74, 75, 76, 77, 78, 79, 80, 81, 82, 83] [16] (fun vs w => vs = [.bool (qOf hr k (ld l k) ((stepsC c k s (ld l k))[j]'hj2))] ∧ St w0 w ((b12, blk 4 (bvs y)) :: (b11, blk 4 (bvs x)) :: (b8, blk 4 (bvs t)) :: (b9, blk 4 (bvs u)) :: (b3, blk 76 (c.cells pc)) :: (B ++ F))) (fun K162 hC161 => ?_) ?_
           ·
            refine w_region ?_
            refine w_p (y_move (v := .int _ _) rfl rfl) rfl ?_
            refine w_p (y_eql rfl rfl rfl rfl) rfl ?_
            refine w_p (y_move (v := .bool _) rfl rfl) rfl ?_
            refine w_split (fun h163 => ?_) (fun h163 => ?_)
            ·
             try simp only [zA, zB, zC, zD, zE, zF] at h163
             refine w_y rfl rfl rfl (y_move (v := .slice _ _ _) rfl rfl) rfl ?_
             refine w_y rfl rfl rfl (y_move (v := .int _ _) rfl rfl) rfl ?_
             refine w_y rfl rfl rfl (y_indexS Try.underlying141 Try.sizeOf144 rfl rfl rfl rfl (i := j) rfl hj2) rfl ?_
             refine w_y rfl rfl rfl (y_fieldAddr (o := 1) (i := 1) Try.underlying144 rfl Try.sizeOf3 rfl rfl rfl) rfl ?_
             refine w_y rfl rfl rfl (y_load1 Try.isAgg3 hs.tail.tail.tail.tail.tail rfl rfl (show Ats _ _ _ _ [_] from Ats.part hw2.top 1 1)) rfl ?_
             refine w_y rfl rfl rfl (y_neq rfl rfl rfl rfl) rfl ?_
             refine w_p (y_pickT (v := .bool _) rfl rfl rfl rfl) rfl ?_
             refine w_p (y_move (v := .bool _) rfl rfl) rfl ?_
             refine w_split (fun h164 => ?_) (fun h164 => ?_)
             ·
              try simp only [zA, zB, zC, zD, zE, zF] at h164
              refine w_skipop rfl rfl rfl ?_
              refine w_skipop rfl rfl rfl ?_
              refine w_skipop rfl rfl rfl ?_
              refine w_skipop rfl rfl rfl ?_
              refine w_skipop' rfl rfl rfl ?_
              refine w_skipop' rfl rfl rfl ?_
              refine w_skipop' rfl rfl rfl ?_
              refine w_skipop' rfl rfl rfl ?_
              refine w_skipop' rfl rfl rfl ?_
              refine w_skipop rfl rfl rfl ?_
              refine w_p (y_pickT (v := _) rfl rfl rfl rfl) rfl ?_
              refine w_p (y_assign (v := .bool _) rfl rfl) rfl ?_
              refine w_nil ?_
              refine q_then (hC161 _ _ (Md.intro (by repeat (first | exact agree_refl | exact agree_mix | refine agree_upd rfl ?_ | refine agree_updL rfl ?_ _ | refine agree_mixin rfl ?_)) ?_))
              exact ⟨bl1 (by
                have hqe : qOf hr k (ld l k) ((stepsC c k s (ld l k))[j]'hj2) = ((decide (hr = -1) && decide (((stepsC c k s (ld l k))[j]'hj2).counts - ld l k ≠ 0)) || (decide (hr = (k : Int)) && ((stepsC c k s (ld l k))[j]'hj2).zero)) := rfl
                have hk1 : ¬ ((-1 : Int) = (k : Int)) := by omega
                rw [hqe]
                first
                  | (exfalso; omega)
                  | (simp [hk1, h40, h73, h80, h156, h163, h164]; done)), hs⟩
             ·
              try simp only [zA, zB, zC, zD, zE, zF] at h164
              refine w_y rfl rfl rfl (y_move (v := .int _ _) rfl rfl) rfl ?_
              refine w_y rfl rfl rfl (y_move (v := .int _ _) rfl rfl) rfl ?_
              refine w_y rfl rfl rfl (y_eql rfl rfl rfl rfl) rfl ?_
              refine w_y rfl rfl rfl (y_move (v := .bool _) rfl rfl) rfl ?_
              refine w_split (fun h165 => ?_) (fun h165 => ?_)
              ·
               try simp only [zA, zB, zC, zD, zE, zF] at h165
               refine w_y rfl rfl rfl (y_move (v := .slice _ _ _) rfl rfl) rfl ?_
               refine w_y rfl rfl rfl (y_move (v := .int _ _) rfl rfl) rfl ?_
               refine w_y rfl rfl rfl (y_indexS Try.underlying141 Try.sizeOf144 rfl rfl rfl rfl (i := j) rfl hj2) rfl ?_
               refine w_y rfl rfl rfl (y_fieldAddr (o := 2) (i := 2) Try.underlying144 rfl Try.sizeOf4 rfl rfl rfl) rfl ?_
               refine w_y rfl rfl rfl (y_load1 Try.isAgg4 hs.tail.tail.tail.tail.tail rfl rfl (show Ats _ _ _ _ [_] from Ats.part hw2.top 2 1)) rfl ?_
               refine w_y rfl rfl rfl (y_pickT (v := .bool _) rfl rfl rfl rfl) rfl ?_
               refine w_p (y_pickF (v := .bool _) rfl rfl rfl rfl) rfl ?_
               refine w_p (y_assign (v := .bool _) rfl rfl) rfl ?_
               refine w_nil ?_
               refine q_then (hC161 _ _ (Md.intro (by repeat (first | exact agree_refl | exact agree_mix | refine agree_upd rfl ?_ | refine agree_updL rfl ?_ _ | refine agree_mixin rfl ?_)) ?_))
               exact ⟨bl1 (by
                 have hqe : qOf hr k (ld l k) ((stepsC c k s (ld l k))[j]'hj2) = ((decide (hr = -1) && decide (((stepsC c k s (ld l k))[j]'hj2).counts - ld l k ≠ 0)) || (decide (hr = (k : Int)) && ((stepsC c k s (ld l k))[j]'hj2).zero)) := rfl
                 have hk1 : ¬ ((-1 : Int) = (k : Int)) := by omega
                 rw [hqe]
                 first
                   | (exfalso; omega)
                   | (simp [hk1, h40, h73, h80, h156, h163, h164, h165]; done)), hs⟩
              ·
               try simp only [zA, zB, zC, zD, zE, zF] at h165
               refine w_skipop rfl rfl rfl ?_
               refine w_skipop rfl rfl rfl ?_
               refine w_skipop rfl rfl rfl ?_
               refine w_skipop rfl rfl rfl ?_
               refine w_skipop rfl rfl rfl ?_
               refine w_y rfl rfl rfl (y_pickF (v := _) rfl rfl rfl rfl) rfl ?_
               refine w_p (y_pickF (v := .bool _) rfl rfl rfl rfl) rfl ?_
               refine w_p (y_assign (v := .bool _) rfl rfl) rfl ?_
               refine w_nil ?_
               refine q_then (hC161 _ _ (Md.intro (by repeat (first | exact agree_refl | exact agree_mix | refine agree_upd rfl ?_ | refine agree_updL rfl ?_ _ | refine agree_mixin rfl ?_)) ?_))
               exact ⟨bl1 (by
                 have hqe : qOf hr k (ld l k) ((stepsC c k s (ld l k))[j]'hj2) = ((decide (hr = -1) && decide (((stepsC c k s (ld l k))[j]'hj2).counts - ld l k ≠ 0)) || (decide (hr = (k : Int)) && ((stepsC c k s (ld l k))[j]'hj2).zero)) := rfl
                 have hk1 : ¬ ((-1 : Int) = (k : Int)) := by omega
                 rw [hqe]
                 first
                   | (exfalso; omega)
                   | (simp [hk1, h40, h73, h80, h156, h163, h164, h165]; done)), hs⟩
            ·
             try simp only [zA, zB, zC, zD, zE, zF] at h163
             refine w_skipop rfl rfl rfl ?_
             refine w_skipop rfl rfl rfl ?_
             refine w_skipop rfl rfl rfl ?_
             refine w_skipop rfl rfl rfl ?_
             refine w_skipop rfl rfl rfl ?_
             refine w_skipop rfl rfl rfl ?_
             refine w_p (y_pickF (v := _) rfl rfl rfl rfl) rfl ?_
             refine w_p (y_move (v := .bool _) rfl rfl) rfl ?_
             refine w_y rfl rfl rfl (y_move (v := .int _ _) rfl rfl) rfl ?_
             refine w_y rfl rfl rfl (y_move (v := .int _ _) rfl rfl) rfl ?_
             refine w_y rfl rfl rfl (y_eql rfl rfl rfl rfl) rfl ?_
             refine w_y rfl rfl rfl (y_move (v := .bool _) rfl rfl) rfl ?_
             refine w_split (fun h166 => ?_) (fun h166 => ?_)
             ·
              try simp only [zA, zB, zC, zD, zE, zF] at h166
              refine w_y rfl rfl rfl (y_move (v := .slice _ _ _) rfl rfl) rfl ?_
              refine w_y rfl rfl rfl (y_move (v := .int _ _) rfl rfl) rfl ?_
              refine w_y rfl rfl rfl (y_indexS Try.underlying141 Try.sizeOf144 rfl rfl rfl rfl (i := j) rfl hj2) rfl ?_
              refine w_y rfl rfl rfl (y_fieldAddr (o := 2) (i := 2) Try.underlying144 rfl Try.sizeOf4 rfl rfl rfl) rfl ?_
              refine w_y rfl rfl rfl (y_load1 Try.isAgg4 hs.tail.tail.tail.tail.tail rfl rfl (show Ats _ _ _ _ [_] from Ats.part hw2.top 2 1)) rfl ?_
              refine w_y rfl rfl rfl (y_pickT (v := .bool _) rfl rfl rfl rfl) rfl ?_
              refine w_p (y_pickF (v := .bool _) rfl rfl rfl rfl) rfl ?_
              refine w_p (y_assign (v := .bool _) rfl rfl) rfl ?_
              refine w_nil ?_
              refine q_then (hC161 _ _ (Md.intro (by repeat (first | exact agree_refl | exact agree_mix | refine agree_upd rfl ?_ | refine agree_updL rfl ?_ _ | refine agree_mixin rfl ?_)) ?_))
              exact ⟨bl1 (by
                have hqe : qOf hr k (ld l k) ((stepsC c k s (ld l k))[j]'hj2) = ((decide (hr = -1) && decide (((stepsC c k s (ld l k))[j]'hj2).counts - ld l k ≠ 0)) || (decide (hr = (k : Int)) && ((stepsC c k s (ld l k))[j]'hj2).zero)) := rfl
                have hk1 : ¬ ((-1 : Int) = (k : Int)) := by omega
                rw [hqe]
                first
                  | (exfalso; omega)
                  | (simp [hk1, h40, h73, h80, h156, h163, h166]; done)), hs⟩
             ·
              try simp only [zA, zB, zC, zD, zE, zF] at h166
              refine w_skipop rfl rfl rfl ?_
              refine w_skipop rfl rfl rfl ?_
              refine w_skipop rfl rfl rfl ?_
              refine w_skipop rfl rfl rfl ?_
              refine w_skipop rfl rfl rfl ?_
              refine w_y rfl rfl rfl (y_pickF (v := _) rfl rfl rfl rfl) rfl ?_
              refine w_p (y_pickF (v := .bool _) rfl rfl rfl rfl) rfl ?_
              refine w_p (y_assign (v := .bool _) rfl rfl) rfl ?_
              refine w_nil ?_
              refine q_then (hC161 _ _ (Md.intro (by repeat (first | exact agree_refl | exact agree_mix | refine agree_upd rfl ?_ | refine agree_updL rfl ?_ _ | refine agree_mixin rfl ?_)) ?_))
              exact ⟨bl1 (by
                have hqe : qOf hr k (ld l k) ((stepsC c k s (ld l k))[j]'hj2) = ((decide (hr = -1) && decide (((stepsC c k s (ld l k))[j]'hj2).counts - ld l k ≠ 0)) || (decide (hr = (k : Int)) && ((stepsC c k s (ld l k))[j]'hj2).zero)) := rfl
                have hk1 : ¬ ((-1 : Int) = (k : Int)) := by omega
                rw [hqe]
                first
                  | (exfalso; omega)
                  | (simp [hk1, h40, h73, h80, h156, h163, h166]; done)), hs⟩
           ·
            intro vs μ w167 hM
            clear hs
            obtain ⟨rfl, hs⟩ := hM
            refine q_then (hK159 _ _ ?_)
            refine w_seq (fun K169 hK168 => ?_)
            refine w_region ?_
            refine w_p (y_move (v := .slice _ _ _) rfl rfl) rfl ?_
            refine w_p (y_move (v := .int _ _) rfl rfl) rfl ?_
            refine w_p (y_indexS Try.underlying141 Try.sizeOf144 rfl rfl rfl rfl (i := j) rfl hj2) rfl ?_
            refine w_p (y_fieldAddr (o := 0) (i := 0) Try.underlying144 rfl Try.sizeOf3 rfl rfl rfl) rfl ?_
            refine w_p (y_load1 Try.isAgg3 hs.tail.tail.tail.tail.tail rfl rfl (show Ats _ _ _ _ [_] from Ats.part hw2.top 0 1)) rfl ?_
            refine w_p (y_assign (v := .int _ _) rfl rfl) rfl ?_
            refine w_nil ?_
            refine q_then (hK168 _ _ ?_)
            refine w_seq (fun K171 hK170 => ?_)
            refine w_cut [89, 90, 91, 92, 93, 94, 95, 96, 97, 98, 99, 100, 101, 102, 103, 104, 105] [] (fun vs w => ∃ x2 : List Bool, vs = [] ∧ Tab x2 (NP c l (qOf hr) k s (j + 1)) ∧ St w0 w ((b12, blk 4 (bvs y)) :: (b11, blk 4 (bvs x2)) :: (b8, blk 4 (bvs t)) :: (b9, blk 4 (bvs u)) :: (b3, blk 76 (c.cells pc)) :: (B ++ F))) (fun K173 hC172 => ?_) ?_
            ·
             refine w_region ?_
             refine w_p (y_move (v := .slice _ _ _) rfl rfl) rfl ?_
             refine w_p (y_move (v := .int _ _) rfl rfl) rfl ?_
             refine w_p (y_move (v := .slice _ _ _) rfl rfl) rfl ?_
             refine w_p (y_move (v := .int _ _) rfl rfl) rfl ?_
             refine w_p (y_indexS Try.underlying50 Try.sizeOf4 rfl rfl rfl rfl (i := (((stepsC c k s (ld l k))[j]'hj2).shows.toNat)) (by first | rfl | omega) (by omega)) rfl ?_
             refine w_p (y_load1 Try.isAgg4 hs rfl rfl (ats_bools (i := 1) (j := (((stepsC c k s (ld l k))[j]'hj2).shows.toNat)) rfl (by rw [hx.1]; omega))) rfl ?_
             refine w_p (y_move (v := .bool _) rfl rfl) rfl ?_
             refine w_split (fun h174 => ?_) (fun h174 => ?_)
             ·
              try simp only [zA, zB, zC, zD, zE, zF] at h174
              refine w_skipop rfl rfl rfl ?_
              refine w_skipop rfl rfl rfl ?_
              refine w_skipop rfl rfl rfl ?_
              refine w_skipop rfl rfl rfl ?_
              refine w_skipop rfl rfl rfl ?_
              refine w_skipop' rfl rfl rfl ?_
              refine w_skipop' rfl rfl rfl ?_
              refine w_skipop rfl rfl rfl ?_
              refine w_p (y_pickT (v := _) rfl rfl rfl rfl) rfl ?_
              refine w_p (y_indexS Try.underlying50 Try.sizeOf4 rfl rfl rfl rfl (i := (((stepsC c k s (ld l k))[j]'hj2).shows.toNat)) (by first | rfl | omega) (by omega)) rfl ?_
              refine w_storeAtB (i := 1) (j := (((stepsC c k s (ld l k))[j]'hj2).shows.toNat)) want_none Try.sizeOf4 rfl rfl rfl rfl hs rfl (by rw [hx.1]; omega) (fun w175 hs176 => ?_)
              refine w_nil ?_
              refine q_then (hC172 _ _ (Md.intro (by repeat (first | exact agree_refl | exact agree_mix | refine agree_upd rfl ?_ | refine agree_updL rfl ?_ _ | refine agree_mixin rfl ?_)) ?_))
              exact ⟨_, rfl, np_next hj2 hsh hsm ht (by omega) hx (by first | exact iff_a (by assumption) | exact iff_b (by assumption) (by assumption) | exact iff_c (by assumption) (by assumption)), hs176⟩
             ·
              try simp only [zA, zB, zC, zD, zE, zF] at h174
              refine w_y rfl rfl rfl (y_move (v := .slice _ _ _) rfl rfl) rfl ?_
              refine w_y rfl rfl rfl (y_move (v := .int _ _) rfl rfl) rfl ?_
              refine w_y rfl rfl rfl (y_indexS Try.underlying50 Try.sizeOf4 rfl rfl rfl rfl (i := s) (by first | rfl | omega) (by omega)) rfl ?_
              refine w_y rfl rfl rfl (y_load1 Try.isAgg4 hs rfl rfl (ats_bools (i := 2) (j := s) rfl (by rw [ht.1]; omega))) rfl ?_
              refine w_y rfl rfl rfl (y_move (v := .bool _) rfl rfl) rfl ?_
              refine w_split (fun h177 => ?_) (fun h177 => ?_)
              ·
               try simp only [zA, zB, zC, zD, zE, zF] at h177
               refine w_y rfl rfl rfl (y_move (v := .bool _) rfl rfl) rfl ?_
               refine w_y rfl rfl rfl (y_not rfl rfl) rfl ?_
               refine w_y rfl rfl rfl (y_pickT (v := .bool _) rfl rfl rfl rfl) rfl ?_
               refine w_p (y_pickF (v := .bool _) rfl rfl rfl rfl) rfl ?_
               refine w_p (y_indexS Try.underlying50 Try.sizeOf4 rfl rfl rfl rfl (i := (((stepsC c k s (ld l k))[j]'hj2).shows.toNat)) (by first | rfl | omega) (by omega)) rfl ?_
               refine w_storeAtB (i := 1) (j := (((stepsC c k s (ld l k))[j]'hj2).shows.toNat)) want_none Try.sizeOf4 rfl rfl rfl rfl hs rfl (by rw [hx.1]; omega) (fun w178 hs179 => ?_)
               refine w_nil ?_
               refine q_then (hC172 _ _ (Md.intro (by repeat (first | exact agree_refl | exact agree_mix | refine agree_upd rfl ?_ | refine agree_updL rfl ?_ _ | refine agree_mixin rfl ?_)) ?_))
               exact ⟨_, rfl, np_next hj2 hsh hsm ht (by omega) hx (by first | exact iff_a (by assumption) | exact iff_b (by assumption) (by assumption) | exact iff_c (by assumption) (by assumption)), hs179⟩
              ·
               try simp only [zA, zB, zC, zD, zE, zF] at h177
               refine w_skipop rfl rfl rfl ?_
               refine w_skipop rfl rfl rfl ?_
               refine w_y rfl rfl rfl (y_pickF (v := _) rfl rfl rfl rfl) rfl ?_
               refine w_p (y_pickF (v := .bool _) rfl rfl rfl rfl) rfl ?_
               refine w_p (y_indexS Try.underlying50 Try.sizeOf4 rfl rfl rfl rfl (i := (((stepsC c k s (ld l k))[j]'hj2).shows.toNat)) (by first | rfl | omega) (by omega)) rfl ?_
               refine w_storeAtB (i := 1) (j := (((stepsC c k s (ld l k))[j]'hj2).shows.toNat)) want_none Try.sizeOf4 rfl rfl rfl rfl hs rfl (by rw [hx.1]; omega) (fun w180 hs181 => ?_)
               refine w_nil ?_
               refine q_then (hC172 _ _ (Md.intro (by repeat (first | exact agree_refl | exact agree_mix | refine agree_upd rfl ?_ | refine agree_updL rfl ?_ _ | refine agree_mixin rfl ?_)) ?_))
               exact ⟨_, rfl, np_next hj2 hsh hsm ht (by omega) hx (by first | exact iff_a (by assumption) | exact iff_b (by assumption) (by assumption) | exact iff_c (by assumption) (by assumption)), hs181⟩
            ·
             intro vs μ w182 hM
             clear hs
             obtain ⟨x2, rfl, hx2, hs⟩ := hM
             refine q_then (hK170 _ _ ?_)
             refine w_region ?_
             refine w_p (y_move (v := .slice _ _ _) rfl rfl) rfl ?_
             refine w_p (y_move (v := .int _ _) rfl rfl) rfl ?_
             refine w_p (y_move (v := .slice _ _ _) rfl rfl) rfl ?_
             refine w_p (y_move (v := .int _ _) rfl rfl) rfl ?_
             refine w_p (y_indexS Try.underlying50 Try.sizeOf4 rfl rfl rfl rfl (i := (((stepsC c k s (ld l k))[j]'hj2).shows.toNat)) (by first | rfl | omega) (by omega)) rfl ?_
             refine w_p (y_load1 Try.isAgg4 hs rfl rfl (ats_bools (i := 0) (j := (((stepsC c k s (ld l k))[j]'hj2).shows.toNat)) rfl (by rw [hy.1]; omega))) rfl ?_
             refine w_p (y_move (v := .bool _) rfl rfl) rfl ?_
             refine w_split (fun h183 => ?_) (fun h183 => ?_)
             ·
              try simp only [zA, zB, zC, zD, zE, zF] at h183
              refine w_skipop rfl rfl rfl ?_
              refine w_skipop rfl rfl rfl ?_
              refine w_skipop rfl rfl rfl ?_
              refine w_skipop rfl rfl rfl ?_
              refine w_p (y_pickT (v := _) rfl rfl rfl rfl) rfl ?_
              refine w_p (y_move (v := .bool _) rfl rfl) rfl ?_
              refine w_skipop rfl rfl rfl ?_
              refine w_skipop rfl rfl rfl ?_
              refine w_skipop rfl rfl rfl ?_
              refine w_skipop rfl rfl rfl ?_
              refine w_skipop rfl rfl rfl ?_
              refine w_skipop' rfl rfl rfl ?_
              refine w_skipop rfl rfl rfl ?_
              refine w_p (y_pickT (v := _) rfl rfl rfl rfl) rfl ?_
              refine w_p (y_indexS Try.underlying50 Try.sizeOf4 rfl rfl rfl rfl (i := (((stepsC c k s (ld l k))[j]'hj2).shows.toNat)) (by first | rfl | omega) (by omega)) rfl ?_
              refine w_storeAtB (i := 0) (j := (((stepsC c k s (ld l k))[j]'hj2).shows.toNat)) want_none Try.sizeOf4 rfl rfl rfl rfl hs rfl (by rw [hy.1]; omega) (fun w184 hs185 => ?_)
              refine w_nil ?_
              refine q_blk_normal ?_
              refine q_then (hK157 _ _ ?_)
              refine w_region ?_
              refine w_p (y_move (v := .int _ _) rfl rfl) rfl ?_
              refine w_p (y_add rfl rfl rfl rfl (by omega) (by omega)) rfl ?_
              refine w_p (y_assign (v := .int _ _) rfl rfl) rfl ?_
              refine w_nil ?_
              refine q_then (hN149 _ _ (Nx.intro ((stepsC c k s (ld l k)).length - (j + 1)) (by omega) (by repeat (first | exact agree_mix | refine agree_upd rfl ?_ | refine agree_updL rfl ?_ _ | refine agree_mixin rfl ?_)) ?_))
              exact ⟨j + 1, x2, _, rfl, by omega, rfl, hx2, mp_next hj2 hsh hsm ht hu (by omega) hy (by first | exact iff_d (by assumption) | exact iff_e (by assumption) (by assumption) | exact iff_f (by assumption) (by assumption) (by assumption) | exact iff_g (by assumption) (by assumption) (by assumption)), hs185⟩
             ·
              try simp only [zA, zB, zC, zD, zE, zF] at h183
              refine w_y rfl rfl rfl (y_move (v := .slice _ _ _) rfl rfl) rfl ?_
              refine w_y rfl rfl rfl (y_move (v := .int _ _) rfl rfl) rfl ?_
              refine w_y rfl rfl rfl (y_indexS Try.underlying50 Try.sizeOf4 rfl rfl rfl rfl (i := s) (by first | rfl | omega) (by omega)) rfl ?_
              refine w_y rfl rfl rfl (y_load1 Try.isAgg4 hs rfl rfl (ats_bools (i := 3) (j := s) rfl (by rw [hu.1]; omega))) rfl ?_
              refine w_p (y_pickF (v := .bool _) rfl rfl rfl rfl) rfl ?_
              refine w_p (y_move (v := .bool _) rfl rfl) rfl ?_
              refine w_split (fun h186 => ?_) (fun h186 => ?_)
              ·
               try simp only [zA, zB, zC, zD, zE, zF] at h186
               refine w_skipop rfl rfl rfl ?_
               refine w_skipop rfl rfl rfl ?_
               refine w_skipop rfl rfl rfl ?_
               refine w_skipop rfl rfl rfl ?_
               refine w_skipop rfl rfl rfl ?_
               refine w_skipop' rfl rfl rfl ?_
               refine w_skipop rfl rfl rfl ?_
               refine w_p (y_pickT (v := _) rfl rfl rfl rfl) rfl ?_
               refine w_p (y_indexS Try.underlying50 Try.sizeOf4 rfl rfl rfl rfl (i := (((stepsC c k s (ld l k))[j]'hj2).shows.toNat)) (by first | rfl | omega) (by omega)) rfl ?_
               refine w_storeAtB (i := 0) (j := (((stepsC c k s (ld l k))[j]'hj2).shows.toNat)) want_none Try.sizeOf4 rfl rfl rfl rfl hs rfl (by rw [hy.1]; omega) (fun w187 hs188 => ?_)
               refine w_nil ?_
               refine q_blk_normal ?_
               refine q_then (hK157 _ _ ?_)
               refine w_region ?_
               refine w_p (y_move (v := .int _ _) rfl rfl) rfl ?_
               refine w_p (y_add rfl rfl rfl rfl (by omega) (by omega)) rfl ?_
               refine w_p (y_assign (v := .int _ _) rfl rfl) rfl ?_
               refine w_nil ?_
               refine q_then (hN149 _ _ (Nx.intro ((stepsC c k s (ld l k)).length - (j + 1)) (by omega) (by repeat (first | exact agree_mix | refine agree_upd rfl ?_ | refine agree_updL rfl ?_ _ | refine agree_mixin rfl ?_)) ?_))
               exact ⟨j + 1, x2, _, rfl, by omega, rfl, hx2, mp_next hj2 hsh hsm ht hu (by omega) hy (by first | exact iff_d (by assumption) | exact iff_e (by assumption) (by assumption) | exact iff_f (by assumption) (by assumption) (by assumption) | exact iff_g (by assumption) (by assumption) (by assumption)), hs188⟩
              ·
               try simp only [zA, zB, zC, zD, zE, zF] at h186
               refine w_y rfl rfl rfl (y_move (v := .slice _ _ _) rfl rfl) rfl ?_
               refine w_y rfl rfl rfl (y_move (v := .int _ _) rfl rfl) rfl ?_
               refine w_y rfl rfl rfl (y_indexS Try.underlying50 Try.sizeOf4 rfl rfl rfl rfl (i := s) (by first | rfl | omega) (by omega)) rfl ?_
               refine w_y rfl rfl rfl (y_load1 Try.isAgg4 hs rfl rfl (ats_bools (i := 2) (j := s) rfl (by rw [ht.1]; omega))) rfl ?_
               refine w_y rfl rfl rfl (y_move (v := .bool _) rfl rfl) rfl ?_
               refine w_split (fun h189 => ?_) (fun h189 => ?_)
               ·
                try simp only [zA, zB, zC, zD, zE, zF] at h189
                refine w_y rfl rfl rfl (y_move (v := .bool _) rfl rfl) rfl ?_
                refine w_y rfl rfl rfl (y_pickT (v := .bool _) rfl rfl rfl rfl) rfl ?_
                refine w_p (y_pickF (v := .bool _) rfl rfl rfl rfl) rfl ?_
                refine w_p (y_indexS Try.underlying50 Try.sizeOf4 rfl rfl rfl rfl (i := (((stepsC c k s (ld l k))[j]'hj2).shows.toNat)) (by first | rfl | omega) (by omega)) rfl ?_
                refine w_storeAtB (i := 0) (j := (((stepsC c k s (ld l k))[j]'hj2).shows.toNat)) want_none Try.sizeOf4 rfl rfl rfl rfl hs rfl (by rw [hy.1]; omega) (fun w190 hs191 => ?_)
                refine w_nil ?_
                refine q_blk_normal ?_
                refine q_then (hK157 _ _ ?_)
                refine w_region ?_
                refine w_p (y_move (v := .int _ _) rfl rfl) rfl ?_
                refine w_p (y_add rfl rfl rfl rfl (by omega) (by omega)) rfl ?_
                refine w_p (y_assign (v := .int _ _) rfl rfl) rfl ?_
                refine w_nil ?_
                refine q_then (hN149 _ _ (Nx.intro ((stepsC c k s (ld l k)).length - (j + 1)) (by omega) (by repeat (first | exact agree_mix | refine agree_upd rfl ?_ | refine agree_updL rfl ?_ _ | refine agree_mixin rfl ?_)) ?_))
                exact ⟨j + 1, x2, _, rfl, by omega, rfl, hx2, mp_next hj2 hsh hsm ht hu (by omega) hy (by first | exact iff_d (by assumption) | exact iff_e (by assumption) (by assumption) | exact iff_f (by assumption) (by assumption) (by assumption) | exact iff_g (by assumption) (by assumption) (by assumption)), hs191⟩
               ·
                try simp only [zA, zB, zC, zD, zE, zF] at h189
                refine w_skipop rfl rfl rfl ?_
                refine w_y rfl rfl rfl (y_pickF (v := _) rfl rfl rfl rfl) rfl ?_
                refine w_p (y_pickF (v := .bool _) rfl rfl rfl rfl) rfl ?_
                refine w_p (y_indexS Try.underlying50 Try.sizeOf4 rfl rfl rfl rfl (i := (((stepsC c k s (ld l k))[j]'hj2).shows.toNat)) (by first | rfl | omega) (by omega)) rfl ?_
                refine w_storeAtB (i := 0) (j := (((stepsC c k s (ld l k))[j]'hj2).shows.toNat)) want_none Try.sizeOf4 rfl rfl rfl rfl hs rfl (by rw [hy.1]; omega) (fun w192 hs193 => ?_)
                refine w_nil ?_
                refine q_blk_normal ?_
                refine q_then (hK157 _ _ ?_)
                refine w_region ?_
                refine w_p (y_move (v := .int _ _) rfl rfl) rfl ?_
                refine w_p (y_add rfl rfl rfl rfl (by omega) (by omega)) rfl ?_
                refine w_p (y_assign (v := .int _ _) rfl rfl) rfl ?_
                refine w_nil ?_
                refine q_then (hN149 _ _ (Nx.intro ((stepsC c k s (ld l k)).length - (j + 1)) (by omega) (by repeat (first | exact agree_mix | refine agree_upd rfl ?_ | refine agree_updL rfl ?_ _ | refine agree_mixin rfl ?_)) ?_))
                exact ⟨j + 1, x2, _, rfl, by omega, rfl, hx2, mp_next hj2 hsh hsm ht hu (by omega) hy (by first | exact iff_d (by assumption) | exact iff_e (by assumption) (by assumption) | exact iff_f (by assumption) (by assumption) (by assumption) | exact iff_g (by assumption) (by assumption) (by assumption)), hs193⟩
          ·
           try simp only [zA, zB, zC, zD, zE, zF] at h156
           refine w_exit ?_
           refine q_then_exit ?_
           refine q_then_exit ?_
           refine q_blk_this ?_
           refine q_blk_normal ?_
           refine q_then (hK74 _ _ ?_)
           refine w_region ?_
           refine w_p (y_move (v := .int _ _) rfl rfl) rfl ?_
           refine w_p (y_add rfl rfl rfl rfl (by omega) (by omega)) rfl ?_
           refine w_p (y_assign (v := .int _ _) rfl rfl) rfl ?_
           refine w_nil ?_
           refine q_then (hN66 _ _ (Nx.intro (100 - (s + 1)) (by omega) (by repeat (first | exact agree_mix | refine agree_upd rfl ?_ | refine agree_updL rfl ?_ _ | refine agree_mixin rfl ?_)) ?_))
           exact ⟨s + 1, x, y, rfl, by omega, rfl, tab_to hx fun z => np_all (by omega), tab_to hy fun z => mp_all (by omega), drop5 hs⟩
       ·
        try simp only [zA, zB, zC, zD, zE, zF] at h73
        refine w_exit ?_
        refine q_then_exit ?_
        refine q_then_exit ?_
        refine q_blk_this ?_
        refine q_then (hK62 _ _ ?_)
        refine w_region ?_
        refine w_p (y_move (v := .slice _ _ _) rfl rfl) rfl ?_
        refine w_p (y_move (v := .slice _ _ _) rfl rfl) rfl ?_
        refine w_p (y_assign (v := .slice _ _ _) rfl rfl) rfl ?_
        refine w_p (y_assign (v := .slice _ _ _) rfl rfl) rfl ?_
        refine w_nil ?_
        refine q_blk_normal ?_
        refine q_then (hK41 _ _ ?_)
        refine w_region ?_
        refine w_p (y_move (v := .int _ _) rfl rfl) rfl ?_
        refine w_p (y_add rfl rfl rfl rfl (by omega) (by omega)) rfl ?_
        refine w_p (y_assign (v := .int _ _) rfl rfl) rfl ?_
        refine w_nil ?_
        refine q_then (hN33 _ _ (Nx.intro (n - (k + 1)) (by omega) (by repeat (first | exact agree_mix | refine agree_upd rfl ?_ | refine agree_updL rfl ?_ _ | refine agree_mixin rfl ?_)) ?_))
        have hsc : s = 100 := by omega
        subst hsc
        exact ⟨k + 1, b11, b12, x, y, rfl, by omega, rfl, tab_to hx fun n => ns_all hok, tab_to hy fun n => ms_all hok, ends_fin hs⟩
    ·
     try simp only [zA, zB, zC, zD, zE, zF] at h40
     refine w_exit ?_
     refine q_then_exit ?_
     refine q_then_exit ?_
     refine q_blk_this ?_
     refine q_then (hK29 _ _ ?_)
     refine w_seq (fun K195 hK194 => ?_)
     refine w_region ?_
     refine w_p (y_move (v := .slice _ _ _) rfl rfl) rfl ?_
     refine w_call want_none Try.call102 rfl rfl rfl rfl ((by have h := c102 (some ⟨b8, 0, none⟩) 100 t (by have := ht.1; omega) (sl_bools (i := 0) rfl) hs; rw [ht.1] at h; exact h)) ?_
     rintro _ w197 ⟨rfl, hs198⟩
     refine w_p (y_move (v := .slice _ _ _) rfl rfl) rfl ?_
     refine w_call want_none Try.call102 rfl rfl rfl rfl ((by have h := c102 (some ⟨b9, 0, none⟩) 100 u (by have := hu.1; omega) (sl_bools (i := 1) rfl) hs198; rw [hu.1] at h; exact h)) ?_
     rintro _ w200 ⟨rfl, hs201⟩
     refine w_p (y_assign (v := .bool _) rfl rfl) rfl ?_
     refine w_p (y_assign (v := .bool _) rfl rfl) rfl ?_
     refine w_nil ?_
     refine q_then (hK194 _ _ ?_)
     refine w_ret ?_
     refine q_ret (l := [.tmp 6, .tmp 7]) (vs := [_, _]) rfl ⟨⟨rfl, show _ = (.bool _ : Value) from rfl⟩, ⟨rfl, show _ = (.bool _ : Value) from rfl⟩, trivial⟩ ?_
     have hkn : k = n := by omega
     subst hkn
     exact ⟨by rw [some_n hok ht, some_m hok hu]; rfl, hs201.tail.tail.tail⟩

end Go.Proofs
/- Plain words of the chain layer: keys of what comes next, one way more. No conditions. -/
set_option linter.unusedSimpArgs false
set_option linter.unusedVariables false
namespace Go.Rt.Ch
open Go.Rt.Ha
abbrev kvI : Int → Value := fun z => Value.int .i64 z
theorem fit_of {l : List Int} {c : Ctr} {k : Nat} {w : Way} (h : [w.counts - l.getD k 0].any (out (-c.skip) c.twice) = false) : kFit c l k w := by
  simp only [List.any_cons, List.any_nil, Bool.or_false] at h
  have := out_f.1 h
  unfold kFit ld; omega
theorem fit_not {l : List Int} {c : Ctr} {k : Nat} {w : Way} (h : [w.counts - l.getD k 0].any (out (-c.skip) c.twice) = true) : ¬ kFit c l k w := by
  simp only [List.any_cons, List.any_nil, Bool.or_false] at h
  intro hk
  rw [out_f.2 (by unfold kFit ld at hk; omega)] at h; cases h
theorem keys_yes {c : Ctr} {l : List Int} {q : Quest} {k : Nat} {t : Int} {ws : List Way} {j : Nat} {ks ks' : List Int} {A : Int → Prop} {y : Int} (h : ∀ z, z ∈ ks ↔ A z ∨ GoodL c l q k t (ws.take j) z) (hj : j < ws.length) (hf : kFit c l k ws[j]) (hy : y = kOne l q k t ws[j]) (hk : ∀ z, z ∈ ks' ↔ z = y ∨ z ∈ ks) : ∀ z, z ∈ ks' ↔ A z ∨ GoodL c l q k t (ws.take (j + 1)) z := by
  intro z
  rw [hk, h, good_yes hj hf, hy]
  constructor
  · rintro (h | h | h)
    · exact .inr (.inr h)
    · exact .inl h
    · exact .inr (.inl h)
  · rintro (h | h | h)
    · exact .inr (.inl h)
    · exact .inr (.inr h)
    · exact .inl h
theorem keys_no {c : Ctr} {l : List Int} {q : Quest} {k : Nat} {t : Int} {ws : List Way} {j : Nat} {ks : List Int} {A : Int → Prop} (h : ∀ z, z ∈ ks ↔ A z ∨ GoodL c l q k t (ws.take j) z) (hj : j < ws.length) (hf : ¬ kFit c l k ws[j]) : ∀ z, z ∈ ks ↔ A z ∨ GoodL c l q k t (ws.take (j + 1)) z := by
  intro z; rw [h, good_no hj hf]
theorem kone_a {l : List Int} {q : Quest} {k : Nat} {t : Int} {w : Way} (h : 100 ≤ t) : w.shows + 100 = kOne l q k t w := by unfold kOne; rw [decide_eq_true h]; rfl
theorem kone_b {l : List Int} {q : Quest} {k : Nat} {t : Int} {w : Way} (h : q k (ld l k) w = true) : w.shows + 100 = kOne l q k t w := by unfold kOne; rw [h, Bool.or_true]; rfl
theorem kone_c {l : List Int} {q : Quest} {k : Nat} {t : Int} {w : Way} (h1 : t < 100) (h : q k (ld l k) w = false) : w.shows = kOne l q k t w := by unfold kOne; rw [h, decide_eq_false (by omega)]; simp
theorem keys_start {c : Ctr} {l : List Int} {q : Quest} {k : Nat} {t : Int} {ws : List Way} {ks : List Int} {A : Int → Prop} (h : ∀ z, z ∈ ks ↔ A z) : ∀ z, z ∈ ks ↔ A z ∨ GoodL c l q k t (ws.take 0) z := by
  intro z; rw [h]
  exact ⟨.inl, fun h => h.resolve_right (good_zero c l q k t ws z)⟩
/-- One entry of what is now has been gone through. -/
theorem keys_round {c : Ctr} {h : Hour} {l : List Int} {q : Quest} {k : Nat} {es : List (Int × Value × Nat)} {seen : Array Nat} {r : Int × Value × Nat} {ks : List Int} {j : Nat} (hn : (es.map (·.2.2)).Nodup) (hr : r ∈ es) (hj : (waysC c h k (r.1 % 100)).length ≤ j)
    (hk : ∀ z, z ∈ ks ↔ (∃ x ∈ es, x.2.2 ∈ seen.toList ∧ Good c h l q k z x.1) ∨ GoodL c l q k r.1 ((waysC c h k (r.1 % 100)).take j) z) : ∀ z, z ∈ ks ↔ ∃ x ∈ es, x.2.2 ∈ (seen.push r.2.2).toList ∧ Good c h l q k z x.1 := by
  intro z
  rw [hk, seen_push hn hr (fun t => Good c h l q k z t), good_all _ _ _ _ _ _ _ hj]; rfl
theorem keys_end {c : Ctr} {n : Nat} (hc : c.Ok n) {h : Hour} {l : List Int} {q : Quest} {k : Nat} (hl : h.lo ≤ ld l k ∧ ld l k ≤ h.hi) (h0 : 0 ≤ h.lo) {es : List (Int × Value × Nat)} {seen : Array Nat} {nx : List Int} (hk : KeysOf (es.map (·.1)) (fareTo c l q k)) (hall : ∀ x ∈ es, x.2.2 ∈ seen.toList)
    (hn : ∀ z, z ∈ nx ↔ ∃ x ∈ es, x.2.2 ∈ seen.toList ∧ Good c h l q k z x.1) : KeysOf nx (fareTo c l q (k + 1)) := by
  refine keys_next hc hl h0 hk fun z => ?_
  rw [hn]
  constructor
  · rintro ⟨x, hx, _, hg⟩; exact ⟨x.1, List.mem_map_of_mem (f := fun x : Int × Value × Nat => x.1) hx, hg⟩
  · rintro ⟨t, ht, hg⟩
    obtain ⟨x, hx, rfl⟩ := List.mem_map.1 ht
    exact ⟨x, hx, hall x hx, hg⟩
theorem keys_many {c : Ctr} {n : Nat} (hc : c.Ok n) {l : List Int} {q : Quest} {k : Nat} {es : List (Int × Value × Nat)} (hn : (es.map (·.1)).Nodup) (hk : KeysOf (es.map (·.1)) (fareTo c l q k)) : es.length ≤ 200 := by
  have := nodup_bound 200 (es.map (·.1)) hn fun z hz => keys_in hc hk hz
  rwa [List.length_map] at this
theorem key_in {c : Ctr} {n : Nat} (hc : c.Ok n) {l : List Int} {q : Quest} {k : Nat} {es : List (Int × Value × Nat)} (hk : KeysOf (es.map (·.1)) (fareTo c l q k)) {r : Int × Value × Nat} (hr : r ∈ es) : 0 ≤ r.1 ∧ r.1 < 200 := keys_in hc hk (List.mem_map_of_mem (f := fun x : Int × Value × Nat => x.1) hr)
theorem not_end {c : Ctr} {n : Nat} (hc : c.Ok n) {l : List Int} {q : Quest} {k : Nat} {es : List (Int × Value × Nat)} {seen : Array Nat} (hk : KeysOf (es.map (·.1)) (fareTo c l q k)) (hall : ∀ x ∈ es, x.2.2 ∈ seen.toList) {x : Bool} (hx : x = true ↔ ∃ r ∈ es, r.2.2 ∈ seen.toList ∧ r.1 < 100) : x = notF c l q k := by
  rw [← keys_not hc hk, Bool.eq_iff_iff, hx, List.any_eq_true]
  constructor
  · rintro ⟨r, hr, _, h⟩; exact ⟨r.1, List.mem_map_of_mem (f := fun x : Int × Value × Nat => x.1) hr, by simpa using h⟩
  · rintro ⟨t, ht, h⟩
    obtain ⟨r, hr, rfl⟩ := List.mem_map.1 ht
    exact ⟨r, hr, hall r hr, by simpa using h⟩
theorem met_end {c : Ctr} {n : Nat} (hc : c.Ok n) {l : List Int} {q : Quest} {k : Nat} {es : List (Int × Value × Nat)} {seen : Array Nat} (hk : KeysOf (es.map (·.1)) (fareTo c l q k)) (hall : ∀ x ∈ es, x.2.2 ∈ seen.toList) {x : Bool} (hx : x = true ↔ ∃ r ∈ es, r.2.2 ∈ seen.toList ∧ 100 ≤ r.1) : x = metF c l q k := by
  rw [← keys_met hc hk, Bool.eq_iff_iff, hx, List.any_eq_true]
  constructor
  · rintro ⟨r, hr, _, h⟩; exact ⟨r.1, List.mem_map_of_mem (f := fun x : Int × Value × Nat => x.1) hr, by simpa using h⟩
  · rintro ⟨t, ht, h⟩
    obtain ⟨r, hr, rfl⟩ := List.mem_map.1 ht
    exact ⟨r, hr, hall r hr, by simpa using h⟩
theorem seen_or {es : List (Int × Value × Nat)} {seen : Array Nat} {r : Int × Value × Nat} (hn : (es.map (·.2.2)).Nodup) (hr : r ∈ es) (G : Int → Prop) {x y : Bool} (hx : x = true ↔ ∃ r ∈ es, r.2.2 ∈ seen.toList ∧ G r.1) (hy : y = true ↔ x = true ∨ G r.1) : y = true ↔ ∃ x ∈ es, x.2.2 ∈ (seen.push r.2.2).toList ∧ G x.1 := by
  rw [seen_push hn hr G, hy, hx]
theorem seen_none {es : List (Int × Value × Nat)} (G : Int → Prop) : (false = true) ↔ ∃ r ∈ es, r.2.2 ∈ (#[] : Array Nat).toList ∧ G r.1 := by simp
theorem keys_none {es : List (Int × Value × Nat)} (G : Int → Int → Prop) : ∀ z, z ∈ ([] : List (Int × Value × Nat)).map (·.1) ↔ ∃ x ∈ es, x.2.2 ∈ (#[] : Array Nat).toList ∧ G z x.1 := by intro z; simp
theorem mok_one {v : Value} {a : Int} : MOk (putA a v 0 []) (if idxA a ([] : List (Int × Value × Nat)) 0 = none then 0 + 1 else 0) := mok_nil.put a v
theorem ints_nil {B : Int} : IntsTo B ([] : List (Int × Value × Nat)) := by intro q h; cases h
end Go.Rt.Ch
/- Plain words of the chain layer: truths, one after the other, as lists of four numbers. No conditions. -/
set_option linter.unusedSimpArgs false
set_option linter.unusedVariables false
namespace Go.Rt.Ch
open Go.Rt.Ha
def pad4 (h : List Int) : List Int := h ++ List.replicate (4 - h.length) 0
theorem pad4_len {h : List Int} (hl : h.length ≤ 4) : (pad4 h).length = 4 := by simp [pad4]; omega
theorem pad4_inj {a b : List Int} (h : a.length = b.length) (e : pad4 a = pad4 b) : a = b := by
  unfold pad4 at e
  exact (List.append_inj e h).1
theorem pad4_at (h : List Int) (b : Nat) : (pad4 h).getD b 0 = h.getD b 0 := by
  unfold pad4
  by_cases hb : b < h.length
  · simp [List.getD, List.getElem?_append_left hb]
  · rw [List.getD, List.getD, List.getElem?_append_right (by omega), List.getElem?_eq_none (by omega : h.length ≤ b)]
    by_cases h2 : b - h.length < 4 - h.length
    · simp [List.getElem?_replicate, h2]
    · simp [List.getElem?_replicate, h2]
theorem ld_pad (h : List Int) (b : Nat) : ld (pad4 h) b = ld h b := pad4_at h b
theorem fare_pad (c : Ctr) (l : List Int) (q : Quest) : ∀ k, fareTo c (pad4 l) q k = fareTo c l q k
  | 0 => rfl
  | k + 1 => by simp only [fareTo, fare_pad c l q k, ld_pad]
theorem not_pad (c : Ctr) (l : List Int) (q : Quest) (n : Nat) : notF c (pad4 l) q n = notF c l q n := by unfold notF; rw [fare_pad]
theorem met_pad (c : Ctr) (l : List Int) (q : Quest) (n : Nat) : metF c (pad4 l) q n = metF c l q n := by unfold metF; rw [fare_pad]
theorem can_pad (b : Board) (l : List Int) : canL b (pad4 l) = canL b l := by unfold canL; simp only [not_pad, met_pad]
def segF (b : Board) (d : Nat) (pre : List Int) : List (List Int) := ((felt ((bun b).drop d)).map (pre ++ ·)).map pad4
def segK (b : Board) (d : Nat) (pre : List Int) : List (List Int) := (((felt ((bun b).drop d)).map (pre ++ ·)).filter (canL b)).map pad4
theorem segK_all (b : Board) : segK b 0 [] = (truths b).map pad4 := by simp [segK, truths]
theorem segF_all (b : Board) : segF b 0 [] = (felt (bun b)).map pad4 := by simp [segF]
theorem segF_leaf {b : Board} {d : Nat} {pre : List Int} (hd : b.hours.length ≤ d) : segF b d pre = [pad4 pre] := by
  unfold segF; rw [List.drop_of_length_le (by rw [show (bun b).length = b.hours.length from by simp [bun]]; exact hd)]; simp [felt]
theorem segK_leaf {b : Board} {d : Nat} {pre : List Int} (hd : b.hours.length ≤ d) : segK b d pre = if canL b pre then [pad4 pre] else [] := by
  unfold segK; rw [List.drop_of_length_le (by rw [show (bun b).length = b.hours.length from by simp [bun]]; exact hd)]
  simp only [felt, List.map_cons, List.map_nil, List.append_nil, List.filter_cons, List.filter_nil]
  split <;> rfl
def restF (b : Board) (d : Nat) (pre : List Int) (xs : List Int) : List (List Int) := xs.flatMap fun x => segF b (d + 1) (pre ++ [x])
def restK (b : Board) (d : Nat) (pre : List Int) (xs : List Int) : List (List Int) := xs.flatMap fun x => segK b (d + 1) (pre ++ [x])
theorem felt_node {b : Board} {d : Nat} (hd : d < b.hours.length) (pre : List Int) : (felt ((bun b).drop d)).map (pre ++ ·) = (spanL b.hours[d].lo b.hours[d].hi).flatMap fun x => (felt ((bun b).drop (d + 1))).map ((pre ++ [x]) ++ ·) := by
  have hl : d < (bun b).length := by simpa [bun] using hd
  rw [List.drop_eq_getElem_cons hl]
  have e : (bun b)[d] = ⟨b.hours[d].lo, b.hours[d].hi, 0, 0⟩ := by simp [bun]
  rw [e]
  simp only [felt, List.map_flatMap, List.map_map]
  refine congrArg (List.flatMap · _) ?_
  funext x
  refine List.map_congr_left fun y _ => ?_
  simp
theorem segF_node {b : Board} {d : Nat} {pre : List Int} (hd : d < b.hours.length) : segF b d pre = restF b d pre (spanL b.hours[d].lo b.hours[d].hi) := by
  unfold segF restF; rw [felt_node hd, List.map_flatMap]; rfl
theorem filter_flat {α β : Type} (p : β → Bool) (f : α → List β) : ∀ l : List α, (l.flatMap f).filter p = l.flatMap fun x => (f x).filter p
  | [] => rfl
  | a :: l => by simp only [List.flatMap_cons, List.filter_append, filter_flat p f l]
theorem segK_node {b : Board} {d : Nat} {pre : List Int} (hd : d < b.hours.length) : segK b d pre = restK b d pre (spanL b.hours[d].lo b.hours[d].hi) := by
  unfold segK restK; rw [felt_node hd, filter_flat, List.map_flatMap]; rfl
theorem restF_next {b : Board} {d : Nat} {pre : List Int} {lo : Int} {q n : Nat} (h : q < n) : restF b d pre (upto (lo + q) (n - q)) = segF b (d + 1) (pre ++ [lo + q]) ++ restF b d pre (upto (lo + (q + 1 : Nat)) (n - (q + 1))) := by rw [upto_step h]; rfl
theorem restF_done {b : Board} {d : Nat} {pre : List Int} {lo : Int} {q n : Nat} (h : n ≤ q) : restF b d pre (upto (lo + q) (n - q)) = [] := by rw [show n - q = 0 by omega]; rfl
theorem restK_next {b : Board} {d : Nat} {pre : List Int} {lo : Int} {q n : Nat} (h : q < n) : restK b d pre (upto (lo + q) (n - q)) = segK b (d + 1) (pre ++ [lo + q]) ++ restK b d pre (upto (lo + (q + 1 : Nat)) (n - (q + 1))) := by rw [upto_step h]; rfl
theorem restK_done {b : Board} {d : Nat} {pre : List Int} {lo : Int} {q n : Nat} (h : n ≤ q) : restK b d pre (upto (lo + q) (n - q)) = [] := by rw [show n - q = 0 by omega]; rfl
theorem pads_nodup (b : Board) : ((felt (bun b)).map pad4).Nodup := by
  have h1 := felt_nodup (bun b)
  have h2 : ∀ h ∈ felt (bun b), h.length = (bun b).length := fun h hh => ((felt_in _ _).1 hh).1
  revert h1 h2
  generalize felt (bun b) = L
  induction L with
  | nil => intro _ _; simp
  | cons x L ih =>
    intro hn hl
    rw [List.nodup_cons] at hn
    rw [List.map_cons, List.nodup_cons]
    refine ⟨fun hm => ?_, ih hn.2 fun h hh => hl h (.tail _ hh)⟩
    obtain ⟨y, hy, e⟩ := List.mem_map.1 hm
    have := pad4_inj (by rw [hl y (.tail _ hy), hl x (.head _)]) e
    subst this; exact hn.1 hy
theorem truth_felt {b : Board} {l : List Int} (h : l ∈ truths b) : l ∈ felt (bun b) := (List.mem_filter.1 h).1
theorem truth_in {b : Board} {l : List Int} (h : l ∈ truths b) : l.length = b.hours.length ∧ ∀ i (hi : i < b.hours.length), b.hours[i].lo ≤ ld l i ∧ ld l i ≤ b.hours[i].hi := by
  obtain ⟨h1, h2⟩ := (felt_in _ _).1 (truth_felt h)
  have hl : (bun b).length = b.hours.length := by simp [bun]
  refine ⟨by rw [h1, hl], fun i hi => ?_⟩
  have := h2 i (by rw [hl]; exact hi)
  have e : (bun b)[i]'(by rw [hl]; exact hi) = ⟨b.hours[i].lo, b.hours[i].hi, 0, 0⟩ := by simp [bun]
  rw [e] at this; exact this
theorem start_last4 {b : Board} (hok : b.Ok) : [-1, 0, 0, 0] ∉ (felt (bun b)).map pad4 := by
  intro hm
  obtain ⟨l, hl, e⟩ := List.mem_map.1 hm
  have h0 : ld (pad4 l) 0 = -1 := by rw [e]; rfl
  rw [ld_pad] at h0
  obtain ⟨h1, h2⟩ := (felt_in _ _).1 hl
  have hll : (bun b).length = b.hours.length := by simp [bun]
  by_cases hn : 0 < b.hours.length
  · have := h2 0 (by omega)
    have e2 : (bun b)[0]'(by omega) = ⟨b.hours[0].lo, b.hours[0].hi, 0, 0⟩ := by simp [bun]
    rw [e2] at this
    have hlo := (hok.hour _ (List.getElem_mem hn)).lo
    have h3 : at_ l 0 = ld l 0 := rfl
    rw [h3, h0] at this
    simp only at this; omega
  · have : l = [] := List.eq_nil_of_length_eq_zero (by omega)
    subst this; simp [ld] at h0
theorem cur_pad4 {cur pre : List Int} {d : Nat} (hl : cur.length = 4) (hp : pre.length = d) (hd : d ≤ 4) (hk : cur.take d = pre) (hz : ∀ j, d ≤ j → cur.getD j 0 = 0) : cur = pad4 pre := by
  apply List.ext_getElem?
  intro i
  by_cases hi : i < 4
  · have e1 : cur[i]? = some (cur.getD i 0) := by rw [List.getD, List.getElem?_eq_getElem (by omega)]; rfl
    have e2 : (pad4 pre)[i]? = some ((pad4 pre).getD i 0) := by rw [List.getD, List.getElem?_eq_getElem (by rw [pad4_len (by omega)]; exact hi)]; rfl
    rw [e1, e2, pad4_at]
    by_cases h : i < d
    · subst hk
      rw [List.getD, List.getD, List.getElem?_take, if_pos h]
    · rw [hz i (by omega), List.getD, List.getElem?_eq_none (by omega)]; rfl
  · rw [List.getElem?_eq_none (by omega), List.getElem?_eq_none (by rw [pad4_len (by omega)]; omega)]
/-- Whether the first so many counters can fare by these loads. -/
def canTo (b : Board) (l : List Int) (n : Nat) : Bool := (b.ctrs.take n).all fun c => notF c l slips b.hours.length || metF c l slips b.hours.length
theorem canTo_y {b : Board} {l : List Int} {i : Nat} (hi : i < b.ctrs.length) (h : canTo b l i = true) (h2 : notF (ctrOf b i) l slips b.hours.length = true ∨ metF (ctrOf b i) l slips b.hours.length = true) : canTo b l (i + 1) = true := by
  unfold canTo at *
  rw [List.take_succ_eq_append_getElem hi, List.all_append, h]
  rw [ctr_at hi] at h2
  simpa using h2
theorem canTo_all {b : Board} {l : List Int} {i : Nat} (hi : b.ctrs.length ≤ i) (h : canTo b l i = true) : canL b l = true := by
  unfold canTo at h; rw [List.take_of_length_le hi] at h; exact h
theorem can_n {b : Board} {l : List Int} {i : Nat} (hi : i < b.ctrs.length) (h1 : notF (ctrOf b i) l slips b.hours.length = false) (h2 : metF (ctrOf b i) l slips b.hours.length = false) : canL b l = false := by
  cases hc : canL b l with
  | false => rfl
  | true =>
    unfold canL at hc
    have := List.all_eq_true.1 hc _ (List.getElem_mem hi)
    rw [ctr_at hi] at h1 h2
    rw [h1, h2] at this; cases this
theorem pre_next {b : Board} {d : Nat} {pre : List Int} {x : Int} (hd : d < b.hours.length) (hp : pre.length = d) (h : ∀ j (hj : j < b.hours.length), j < d → b.hours[j].lo ≤ ld pre j ∧ ld pre j ≤ b.hours[j].hi) (hx : b.hours[d].lo ≤ x ∧ x ≤ b.hours[d].hi) : ∀ j (hj : j < b.hours.length), j < d + 1 → b.hours[j].lo ≤ ld (pre ++ [x]) j ∧ ld (pre ++ [x]) j ≤ b.hours[j].hi := by
  intro j hj h1
  by_cases e : j < d
  · have := h j hj e
    have e2 : ld (pre ++ [x]) j = ld pre j := by simp [ld, List.getD, List.getElem?_append_left (by omega : j < pre.length)]
    rw [e2]; exact this
  · have : j = d := by omega
    subst this
    have e2 : ld (pre ++ [x]) j = x := by simp [ld, List.getD, ← hp]
    rw [e2]; exact hx
end Go.Rt.Ch
/- Plain words of the chain layer: errors by numbers, spans of truths, one truth more. No conditions. -/
set_option linter.unusedSimpArgs false
set_option linter.unusedVariables false
namespace Go.Rt.Ch
open Go.Rt.Ha
/-- ErrNone, if a number is not from 0 to below the one behind it, by turns. -/
def pairsE : List Int → Int
  | n :: m :: r => if out 0 (m - 1) n then 4 else pairsE r
  | _ => 0
def orE (a e : Int) : Int := if a ≠ 0 then a else e
theorem pairs_end {ns : List Int} {j : Nat} (h : ns.length ≤ 2 * j + 1) : pairsE (ns.drop (2 * j)) = 0 := by
  match hd : ns.drop (2 * j) with
  | [] => rfl
  | [x] => rfl
  | x :: y :: r => have := congrArg List.length hd; simp at this; omega
theorem pairs_cons {ns : List Int} {j : Nat} (h : 2 * j + 1 < ns.length) : ns.drop (2 * j) = ns[2 * j] :: ns[2 * j + 1] :: ns.drop (2 * (j + 1)) := by
  rw [List.drop_eq_getElem_cons (by omega), List.drop_eq_getElem_cons (by omega)]; rfl
theorem pairs_next {ns : List Int} {j : Nat} (h : 2 * j + 1 < ns.length) (ho : [ns[2 * j]].any (out 0 (ns[2 * j + 1] - 1)) = false) : pairsE (ns.drop (2 * j)) = pairsE (ns.drop (2 * (j + 1))) := by
  rw [pairs_cons h]
  simp only [List.any_cons, List.any_nil, Bool.or_false] at ho
  simp only [pairsE, ho]; rfl
theorem pairs_stop {ns : List Int} {j : Nat} (h : 2 * j + 1 < ns.length) (ho : [ns[2 * j]].any (out 0 (ns[2 * j + 1] - 1)) = true) : pairsE (ns.drop (2 * j)) = 4 := by
  rw [pairs_cons h]
  simp only [List.any_cons, List.any_nil, Bool.or_false] at ho
  simp only [pairsE, ho]; rfl
theorem enterE_1 {b : Board} {e : Int} (h : ¬ (check b).2.2 = 0) : enterE b e = (check b).2.2 := by unfold enterE; rw [if_pos h]
theorem enterE_2 {b : Board} {e : Int} (h : (check b).2.2 = 0) (he : ¬ e = 0) : enterE b e = e := by unfold enterE; rw [if_neg (by simp [h]), if_pos he]
theorem enterE_3 {b : Board} {e : Int} (h : (check b).2.2 = 0) (he : e = 0) (hw : truths b = []) : enterE b e = 8 := by unfold enterE; rw [if_neg (by simp [h]), if_neg (by simp [he]), if_pos hw]
theorem enterE_4 {b : Board} {e : Int} (h : (check b).2.2 = 0) (he : e = 0) (hw : truths b ≠ []) : enterE b e = 0 := by unfold enterE; rw [if_neg (by simp [h]), if_neg (by simp [he]), if_neg hw]
theorem enterE_ok {b : Board} {e : Int} (h : enterE b e = 0) : (check b).2.2 = 0 ∧ e = 0 ∧ truths b ≠ [] := by
  by_cases h1 : (check b).2.2 = 0
  · by_cases h2 : e = 0
    · by_cases h3 : truths b = []
      · rw [enterE_3 h1 h2 h3] at h; cases h
      · exact ⟨h1, h2, h3⟩
    · rw [enterE_2 h1 h2] at h; exact absurd h h2
  · rw [enterE_1 h1] at h; exact absurd h h1
theorem orE_4 {a e : Int} (h : a = 4) : orE a e = 4 := by unfold orE; rw [h]; rfl
theorem orE_e {a e : Int} (h : a = 0) : orE a e = e := by unfold orE; rw [if_neg (by simp [h])]
theorem pairs_two (a m : Int) : orE (pairsE [a, m]) 0 = idxE a m := by
  unfold orE idxE pairsE
  cases out 0 (m - 1) a <;> rfl
theorem pairs_four (c n a m : Int) : orE (pairsE [c, n, a, m]) 0 = idx2 c n a m := by
  unfold orE idx2 idxE
  simp only [pairsE]
  by_cases h1 : out 0 (n - 1) c = true <;> by_cases h2 : out 0 (m - 1) a = true <;> simp [h1, h2]
theorem pairs_looks (b : Board) (hold within : Int) : orE (pairsE [hold, b.holds]) (if within < 0 then 7 else 0) = looksE b hold within := by
  unfold orE looksE idxE
  simp only [pairsE]
  by_cases h1 : out 0 (b.holds - 1) hold = true <;> simp [h1]
/-! ### Spans -/
theorem hull_snoc (f : List Int → Int) : ∀ (l : List (List Int)) (x : List Int), l ≠ [] → hullL f (l ++ [x]) = (min (hullL f l).1 (f x), max (hullL f l).2 (f x))
  | [], _, h => absurd rfl h
  | a :: l, x, _ => by simp only [hullL, List.cons_append, List.foldl_append, List.foldl_cons, List.foldl_nil]
theorem hull_first {f : List Int → Int} {ws : List (List Int)} {i : Nat} (hi : i < ws.length) (h0 : i = 0) : hullL f (ws.take (i + 1)) = (min (f ws[i]) (f ws[i]), max (f ws[i]) (f ws[i])) := by
  subst h0
  match ws, hi with
  | a :: ws, _ =>
    simp [hullL]
theorem hull_next {f : List Int → Int} {ws : List (List Int)} {i : Nat} (hi : i < ws.length) (h0 : ¬ i = 0) : hullL f (ws.take (i + 1)) = (min (hullL f (ws.take i)).1 (f ws[i]), max (hullL f (ws.take i)).2 (f ws[i])) := by
  rw [List.take_succ_eq_append_getElem hi, hull_snoc f _ _ (by intro e; have := congrArg List.length e; simp at this; rcases this with h | h; exact h0 h; subst h; simp at hi)]
/-! ### What lies in a hold -/
theorem in_yes {b : Board} {l : List Int} {h : Int} {k : Nat} (hk : k < b.hours.length) (e : b.hours[k].hold = h) : inTo b l h (k + 1) = inTo b l h k + ld l k := by
  simp only [inTo]; rw [if_pos (by rw [← e]; simp [List.getD, hk])]
theorem in_no {b : Board} {l : List Int} {h : Int} {k : Nat} (hk : k < b.hours.length) (e : ¬ b.hours[k].hold = h) : inTo b l h (k + 1) = inTo b l h k := by
  simp only [inTo]; rw [if_neg (by rw [show b.hours.getD k ⟨0, 0, 0⟩ = b.hours[k] by simp [List.getD, hk]]; exact e)]; omega
theorem in_bound {b : Board} {l : List Int} {h : Int} (hl : ∀ k, 0 ≤ ld l k ∧ ld l k ≤ 40) : ∀ k, 0 ≤ inTo b l h k ∧ inTo b l h k ≤ 40 * (k : Int)
  | 0 => by simp [inTo]
  | k + 1 => by
    have ih := in_bound (h := h) (b := b) hl k
    have := hl k
    simp only [inTo]
    split <;> constructor <;> omega
theorem in_pad (b : Board) (l : List Int) (h : Int) : ∀ k, inTo b (pad4 l) h k = inTo b l h k
  | 0 => rfl
  | k + 1 => by simp only [inTo, in_pad b l h k, ld_pad]
theorem inH_pad (b : Board) (h : Int) (l : List Int) : inH b h (pad4 l) = inH b h l := in_pad b l h _
theorem ld_40 {b : Board} (hok : b.Ok) {l : List Int} (h : l ∈ truths b) (k : Nat) : 0 ≤ ld l k ∧ ld l k ≤ 40 := by
  obtain ⟨h1, h2⟩ := truth_in h
  by_cases hk : k < b.hours.length
  · have := h2 k hk
    have ho := hok.hour _ (List.getElem_mem hk)
    have h3 := ho.lo
    have h4 := ho.hi
    omega
  · have : ld l k = 0 := by simp [ld, List.getD, List.getElem?_eq_none (by omega : l.length ≤ k)]
    omega
theorem pad_len {b : Board} (hok : b.Ok) {l : List Int} (h : l ∈ truths b) : (pad4 l).length = 4 := pad4_len (by rw [(truth_in h).1]; exact hok.lh)
end Go.Rt.Ch
/- Plain words of the chain layer: sets as lists, loads at the hours of a set, what lies in a hold by them. No conditions. -/
set_option linter.unusedSimpArgs false
set_option linter.unusedVariables false
namespace Go.Rt.Ch
open Go.Rt.Ha
theorem listL_le (b : Nat) : ∀ n, (listL b n).length ≤ n
  | 0 => by simp [listL]
  | n + 1 => by have := listL_le b n; simp only [listL, List.length_append]; split <;> simp <;> omega
def listTo (b n k : Nat) : List Int := listL b k ++ List.replicate (n - (listL b k).length) 0
theorem listTo_len (b n k : Nat) (h : k ≤ n) : (listTo b n k).length = n := by have := listL_le b k; simp [listTo]; omega
theorem listTo_zero (b n : Nat) : listTo b n 0 = List.replicate n 0 := by simp [listTo, listL]
theorem listL_yes {b k : Nat} (h : bit b k = 1) : listL b (k + 1) = listL b k ++ [(k : Int)] := by simp [listL, h]
theorem listL_no {b k : Nat} (h : ¬ bit b k = 1) : listL b (k + 1) = listL b k := by simp [listL, h]
theorem listTo_yes {b n k : Nat} (hk : k < n) (h : bit b k = 1) : (listTo b n k).set (listL b k).length k = listTo b n (k + 1) := by
  have := listL_le b k
  unfold listTo
  rw [listL_yes h, List.set_append_right _ _ (Nat.le_refl _), Nat.sub_self, List.length_append, List.length_singleton]
  obtain ⟨q, hq⟩ : ∃ q, n - (listL b k).length = q + 1 := ⟨n - (listL b k).length - 1, by omega⟩
  rw [hq, List.replicate_succ, List.set_cons_zero, show n - ((listL b k).length + 1) = q by omega]
  simp
theorem listTo_no {b n k : Nat} (h : ¬ bit b k = 1) : listTo b n k = listTo b n (k + 1) := by unfold listTo; rw [listL_no h]
theorem listTo_take (b n : Nat) : (listTo b n n).take (listL b n).length = listL b n := by simp [listTo]
theorem bit_lt2 (b j : Nat) : bit b j = 0 ∨ bit b j = 1 := by unfold bit; have := Nat.and_lt_two_pow (x := b >>> j) (y := 1) (n := 1) (by omega); omega
/-! ### Fewest, step by step -/
theorem few_skip {d : Nat → Bool} {n s : Nat} (h1 : (fewTo d n s).2 = true) (h2 : before (fewTo d n s).1 (listL s n) = true) : fewTo d n (s + 1) = fewTo d n s := by simp only [fewTo, fewStep]; rw [h1, h2]; rfl
theorem few_yes {d : Nat → Bool} {n s : Nat} (h1 : (fewTo d n s).2 = false ∨ before (fewTo d n s).1 (listL s n) = false) (h2 : d s = true) : fewTo d n (s + 1) = (listL s n, true) := by
  simp only [fewTo, fewStep]; rw [if_neg (by rcases h1 with h | h <;> simp [h]), if_pos h2]
theorem few_no {d : Nat → Bool} {n s : Nat} (h1 : (fewTo d n s).2 = false ∨ before (fewTo d n s).1 (listL s n) = false) (h2 : d s = false) : fewTo d n (s + 1) = fewTo d n s := by
  simp only [fewTo, fewStep]; rw [if_neg (by rcases h1 with h | h <;> simp [h]), if_neg (by simp [h2])]
theorem few_len (d : Nat → Bool) (n : Nat) : ∀ s, (fewTo d n s).1.length ≤ n
  | 0 => by simp [fewTo]
  | s + 1 => by have := few_len d n s; have := listL_le s n; simp only [fewTo, fewStep]; split <;> (try split) <;> assumption
theorem few_vals {v1 v2 : Value} {b1 b2 : Bool} {z1 z2 : Int} (h1 : v1 = v2) (h2 : b1 = b2) (h3 : z1 = z2) : [v1, Value.bool b1, Value.int .i64 z1] = [v2, Value.bool b2, Value.int .i64 z2] := by rw [h1, h2, h3]
theorem before_no {a b : List Int} (h1 : a.length ≤ b.length → ¬ (b.length : Int) > a.length) (h2 : a.length = b.length → less a b = false) : before a b = false := by
  unfold before
  rw [Bool.or_eq_false_iff, Bool.and_eq_false_iff]
  refine ⟨by simp; omega, ?_⟩
  by_cases e : a.length = b.length
  · exact .inr (h2 e)
  · left; simpa using e
theorem shl_256 {n : Nat} (h : n ≤ 8) : 1 ≤ 1 <<< n ∧ 1 <<< n ≤ 256 := by
  rw [Nat.shiftLeft_eq, Nat.one_mul]
  have h2 : 2 ^ n ≤ 2 ^ 8 := Nat.pow_le_pow_right (by omega) h
  have := Nat.one_le_two_pow (n := n)
  omega
def cmpI (a b : Int) : Int := if a < b then -1 else if b < a then 1 else 0
theorem cmp_zero {a b : Int} (h : cmpI a b = 0) : a = b := by
  unfold cmpI at h
  split at h
  · omega
  · split at h <;> omega
/-! ### Loads at the hours of a set -/
/-- Loads, of whose first k only those of a set are kept. -/
def maskTo (s : Nat) (l : List Int) (k : Nat) : List Int := (List.range 4).map fun j => if j < k then l.getD j 0 * ((bit s j : Nat) : Int) else l.getD j 0
def mask (s : Nat) (l : List Int) : List Int := maskTo s l 4
theorem maskTo_len (s : Nat) (l : List Int) (k : Nat) : (maskTo s l k).length = 4 := by simp [maskTo]
theorem maskTo_zero {s : Nat} {l : List Int} (h : l.length = 4) : maskTo s l 0 = l := by
  apply List.ext_getElem
  · rw [maskTo_len, h]
  · intro i h1 h2
    simp [maskTo, List.getD, h2]
theorem maskTo_get {s : Nat} {l : List Int} {k : Nat} (hk : k < 4) : (maskTo s l k).getD k 0 = l.getD k 0 := by
  simp [maskTo, List.getD, hk]
theorem maskTo_set {s : Nat} {l : List Int} {k : Nat} (hk : k < 4) : (maskTo s l k).set k ((maskTo s l k).getD k 0 * ((bit s k : Nat) : Int)) = maskTo s l (k + 1) := by
  rw [maskTo_get hk]
  apply List.ext_getElem
  · simp [maskTo]
  · intro i h1 h2
    have hi : i < 4 := by rwa [maskTo_len] at h2
    rw [List.getElem_set]
    by_cases e : k = i
    · subst e; simp [maskTo]
    · rw [if_neg e]
      by_cases h3 : i < k
      · simp [maskTo, h3, show i < k + 1 by omega]
      · simp [maskTo, h3, show ¬ i < k + 1 by omega]
theorem mask_get (s : Nat) (l : List Int) {k : Nat} (hk : k < 4) : (mask s l).getD k 0 = l.getD k 0 * ((bit s k : Nat) : Int) := by simp [mask, maskTo, List.getD, hk]
theorem list_mem {s n k : Nat} : (k : Int) ∈ listL s n ↔ k < n ∧ bit s k = 1 := by
  induction n with
  | zero => simp [listL]
  | succ n ih =>
    simp only [listL, List.mem_append, ih]
    constructor
    · rintro (h | h)
      · exact ⟨by omega, h.2⟩
      · split at h
        · rename_i hb
          have h2 : (k : Int) = (n : Int) := by simpa using h
          have : k = n := by omega
          subst this; exact ⟨by omega, hb⟩
        · cases h
    · rintro ⟨h1, h2⟩
      by_cases e : k = n
      · subst e; right; rw [if_pos h2]; simp
      · exact .inl ⟨by omega, h2⟩
theorem list_nat {s n : Nat} {z : Int} (h : z ∈ listL s n) : ∃ k : Nat, z = k ∧ k < n ∧ bit s k = 1 := by
  induction n with
  | zero => simp [listL] at h
  | succ n ih =>
    simp only [listL, List.mem_append] at h
    rcases h with h | h
    · obtain ⟨k, h1, h2, h3⟩ := ih h; exact ⟨k, h1, by omega, h3⟩
    · split at h
      · rename_i hb; simp at h; exact ⟨n, h, by omega, hb⟩
      · cases h
theorem mask_same {s n : Nat} (hn : n ≤ 4) {l m : List Int} (hl : l.length = n) (hm : m.length = n) : mask s (pad4 l) = mask s (pad4 m) ↔ sameAt s n l m = true := by
  unfold sameAt
  rw [List.all_eq_true]
  constructor
  · intro h z hz
    obtain ⟨k, rfl, hk, hb⟩ := list_nat hz
    have := congrArg (fun x : List Int => x.getD k 0) h
    try simp only at this
    rw [mask_get _ _ (by omega), mask_get _ _ (by omega), pad4_at, pad4_at, hb] at this
    simp only [decide_eq_true_eq, Int.toNat_natCast]
    have e1 : ld l k = l.getD k 0 := rfl
    have e2 : ld m k = m.getD k 0 := rfl
    omega
  · intro h
    apply List.ext_getElem
    · rw [mask, mask, maskTo_len, maskTo_len]
    · intro k h1 h2
      have hk : k < 4 := by rw [mask, maskTo_len] at h1; exact h1
      have e : ∀ x : List Int, ∀ hx : k < (mask s x).length, (mask s x)[k] = x.getD k 0 * ((bit s k : Nat) : Int) := by
        intro x hx
        rw [← mask_get s x hk]; simp [List.getD, hx]
      rw [e, e, pad4_at, pad4_at]
      by_cases hkn : k < n
      · rcases bit_lt2 s k with hb | hb
        · rw [hb]; simp
        · have := h _ (list_mem.2 ⟨hkn, hb⟩)
          simp only [decide_eq_true_eq, Int.toNat_natCast] at this
          have e1 : ld l k = l.getD k 0 := rfl
          have e2 : ld m k = m.getD k 0 := rfl
          rw [← e1, ← e2, this]
      · have e1 : l.getD k 0 = 0 := by simp [List.getD, List.getElem?_eq_none (by omega : l.length ≤ k)]
        have e2 : m.getD k 0 = 0 := by simp [List.getD, List.getElem?_eq_none (by omega : m.length ≤ k)]
        rw [e1, e2]
/-! ### What lies in a hold, by these -/
def sv (p : Int × Int) : Value := .agg #[.int .i64 p.1, .int .i64 p.2]
/-- The span of those that are the same at a set. -/
def gS (s : Nat) (f : List Int → Int) (ws : List (List Int)) (key : List Int) : Int × Int := hullL f (ws.filter fun l => decide (mask s (pad4 l) = key))
/-- What a map of spans says of the loads that were gone through. -/
structure SpM (s : Nat) (f : List Int → Int) (ws : List (List Int)) (es : List (List Int × Value × Nat)) : Prop where
  v : ∀ q ∈ es, q.2.1 = sv (gS s f ws q.1)
  k : ∀ key, key ∈ es.map (·.1) ↔ ∃ l ∈ ws, mask s (pad4 l) = key
theorem spm_nil (s : Nat) (f : List Int → Int) : SpM s f [] [] := ⟨by simp, by simp⟩
theorem SpM.len {s : Nat} {f : List Int → Int} {ws : List (List Int)} {es : List (List Int × Value × Nat)} (h : SpM s f ws es) : ∀ q ∈ es, q.1.length = 4 := by
  intro q hq
  obtain ⟨l, _, e⟩ := (h.k q.1).1 (List.mem_map_of_mem (f := fun x : List Int × Value × Nat => x.1) hq)
  rw [← e, mask, maskTo_len]
theorem SpM.zero {s : Nat} {f : List Int → Int} {ws : List (List Int)} {es : List (List Int × Value × Nat)} (h : SpM s f ws es) {key : List Int} (hk : key ∉ es.map (·.1)) : gS s f ws key = (0, 0) := by
  unfold gS
  rw [List.filter_eq_nil_iff.2]
  · rfl
  · intro l hl; simp only [decide_eq_true_eq]; intro e; exact hk ((h.k key).2 ⟨l, hl, e⟩)
theorem putA_strong {α : Type} [DecidableEq α] {a : α} {v : Value} {ck : Nat} {q : α × Value × Nat} : ∀ {l : List (α × Value × Nat)}, (l.map (·.1)).Nodup → q ∈ putA a v ck l → (q.1 = a ∧ q.2.1 = v) ∨ (q ∈ l ∧ q.1 ≠ a)
  | [], _, h => by simp [putA] at h; subst h; exact .inl ⟨rfl, rfl⟩
  | x :: l, hn, h => by
    rw [List.map_cons, List.nodup_cons] at hn
    by_cases e : x.1 = a
    · simp only [putA, if_pos e] at h
      cases h with
      | head => exact .inl ⟨rfl, rfl⟩
      | tail _ h =>
        right
        refine ⟨.tail _ h, fun e2 => hn.1 ?_⟩
        rw [e, ← e2]; exact List.mem_map_of_mem (f := fun x : α × Value × Nat => x.1) h
    · simp only [putA, if_neg e] at h
      cases h with
      | head => exact .inr ⟨.head _, e⟩
      | tail _ h =>
        rcases putA_strong hn.2 h with h | h
        · exact .inl h
        · exact .inr ⟨.tail _ h.1, h.2⟩
theorem gS_other {s : Nat} {f : List Int → Int} {ws : List (List Int)} {l key : List Int} (h : mask s (pad4 l) ≠ key) : gS s f (ws ++ [l]) key = gS s f ws key := by
  unfold gS; rw [List.filter_append]; simp [h]
theorem gS_own {s : Nat} {f : List Int → Int} {ws : List (List Int)} {l : List Int} : gS s f (ws ++ [l]) (mask s (pad4 l)) = hullL f ((ws.filter fun x => decide (mask s (pad4 x) = mask s (pad4 l))) ++ [l]) := by
  unfold gS; rw [List.filter_append]; simp
theorem gS_new {s : Nat} {f : List Int → Int} {ws : List (List Int)} {es : List (List Int × Value × Nat)} (h : SpM s f ws es) {l : List Int} (hk : mask s (pad4 l) ∉ es.map (·.1)) : gS s f (ws ++ [l]) (mask s (pad4 l)) = (min (f l) (f l), max (f l) (f l)) := by
  rw [gS_own, List.filter_eq_nil_iff.2]
  · simp [hullL]
  · intro x hx; simp only [decide_eq_true_eq]; intro e; exact hk ((h.k _).2 ⟨x, hx, e⟩)
theorem gS_more {s : Nat} {f : List Int → Int} {ws : List (List Int)} {es : List (List Int × Value × Nat)} (h : SpM s f ws es) {l : List Int} (hk : mask s (pad4 l) ∈ es.map (·.1)) : gS s f (ws ++ [l]) (mask s (pad4 l)) = (min (gS s f ws (mask s (pad4 l))).1 (f l), max (gS s f ws (mask s (pad4 l))).2 (f l)) := by
  rw [gS_own, hull_snoc]
  · rfl
  · obtain ⟨x, hx, e⟩ := (h.k _).1 hk
    exact List.ne_nil_of_mem (List.mem_filter.2 ⟨hx, by simpa using e⟩)
theorem SpM.put {s : Nat} {f : List Int → Int} {ws : List (List Int)} {es : List (List Int × Value × Nat)} (h : SpM s f ws es) (hn : (es.map (·.1)).Nodup) {l : List Int} {p : Int × Int} (hp : p = gS s f (ws ++ [l]) (mask s (pad4 l))) (ck : Nat) : SpM s f (ws ++ [l]) (putA (mask s (pad4 l)) (sv p) ck es) := by
  refine ⟨fun q hq => ?_, fun key => ?_⟩
  · rcases putA_strong hn hq with ⟨h1, h2⟩ | ⟨h1, h2⟩
    · rw [h1, h2, hp]
    · rw [h.v q h1, gS_other (fun e => h2 e.symm)]
  · rw [keys_putA, h.k]
    constructor
    · rintro (rfl | ⟨x, hx, e⟩)
      · exact ⟨l, by simp, rfl⟩
      · exact ⟨x, List.mem_append_left _ hx, e⟩
    · rintro ⟨x, hx, e⟩
      rcases List.mem_append.1 hx with hx | hx
      · exact .inr ⟨x, hx, e⟩
      · rw [List.mem_singleton] at hx; subst hx; exact .inl e.symm
theorem hull_in {f : List Int → Int} {lo hi : Int} (h0 : lo ≤ 0 ∧ 0 ≤ hi) : ∀ (ws : List (List Int)), (∀ l ∈ ws, lo ≤ f l ∧ f l ≤ hi) → lo ≤ (hullL f ws).1 ∧ (hullL f ws).1 ≤ hi ∧ lo ≤ (hullL f ws).2 ∧ (hullL f ws).2 ≤ hi
  | [], _ => by simp [hullL]; omega
  | a :: ws, h => by
    simp only [hullL]
    have key : ∀ (r : List (List Int)) (p : Int × Int), (lo ≤ p.1 ∧ p.1 ≤ hi) ∧ (lo ≤ p.2 ∧ p.2 ≤ hi) → (∀ l ∈ r, lo ≤ f l ∧ f l ≤ hi) → lo ≤ (r.foldl (fun s x => (min s.1 (f x), max s.2 (f x))) p).1 ∧ (r.foldl (fun s x => (min s.1 (f x), max s.2 (f x))) p).1 ≤ hi ∧ lo ≤ (r.foldl (fun s x => (min s.1 (f x), max s.2 (f x))) p).2 ∧ (r.foldl (fun s x => (min s.1 (f x), max s.2 (f x))) p).2 ≤ hi := by
      intro r
      induction r with
      | nil => intro p hp _; exact ⟨hp.1.1, hp.1.2, hp.2.1, hp.2.2⟩
      | cons x r ih =>
        intro p hp hr
        simp only [List.foldl_cons]
        have := hr x (.head _)
        exact ih _ ⟨by constructor <;> simp only <;> omega, by constructor <;> simp only <;> omega⟩ fun l hl => hr l (.tail _ hl)
    have ha := h a (.head _)
    exact key ws _ ⟨ha, ha⟩ fun l hl => h l (.tail _ hl)
theorem gS_in {b : Board} (hok : b.Ok) {hold : Int} (s : Nat) {ws : List (List Int)} (hw : ∀ l ∈ ws, l ∈ truths b) (key : List Int) : 0 ≤ (gS s (inH b hold) ws key).1 ∧ (gS s (inH b hold) ws key).1 ≤ 160 ∧ 0 ≤ (gS s (inH b hold) ws key).2 ∧ (gS s (inH b hold) ws key).2 ≤ 160 := by
  refine hull_in (by omega) _ fun l hl => ?_
  have h1 := in_bound (h := hold) (b := b) (fun k => ld_40 hok (hw l (List.mem_filter.1 hl).1) k) b.hours.length
  have := hok.lh
  unfold inH; omega
/-- Whether all spans are within a number is whether the set tells. -/
theorem tells_map {b : Board} (hok : b.Ok) {hold within : Int} {s : Nat} {es : List (List Int × Value × Nat)} (h : SpM s (inH b hold) (truths b) es) : tellsS b hold within s = true ↔ ∀ q ∈ es, (gS s (inH b hold) (truths b) q.1).2 - (gS s (inH b hold) (truths b) q.1).1 ≤ within := by
  have e : ∀ l ∈ truths b, gS s (inH b hold) (truths b) (mask s (pad4 l)) = hullL (inH b hold) ((truths b).filter (sameAt s b.hours.length l)) := by
    intro l hl
    unfold gS
    congr 1
    refine List.filter_congr fun x hx => ?_
    rw [Bool.eq_iff_iff, decide_eq_true_eq, ← mask_same hok.lh (truth_in hl).1 (truth_in hx).1]
    exact eq_comm
  unfold tellsS
  rw [List.all_eq_true]
  constructor
  · intro ht q hq
    obtain ⟨l, hl, e2⟩ := (h.k q.1).1 (List.mem_map_of_mem (f := fun x : List Int × Value × Nat => x.1) hq)
    rw [← e2, e l hl]
    simpa using ht l hl
  · intro ha l hl
    obtain ⟨q, hq, e2⟩ := List.mem_map.1 ((h.k _).2 ⟨l, hl, rfl⟩)
    have := ha q hq
    rw [show q.1 = mask s (pad4 l) from e2, e l hl] at this
    simpa using this
end Go.Rt.Ch
/- Plain words of the hand layer: spans, grades and others over the ways, step by step. No conditions. -/
set_option linter.unusedSimpArgs false
set_option linter.unusedVariables false
namespace Go.Rt.Ha
end Go.Rt.Ha
/- Plain words of the hand layer: totals, picks and others over the ways, step by step. No conditions. -/
set_option linter.unusedSimpArgs false
set_option linter.unusedVariables false
namespace Go.Rt.Ha
/-! ### Picks -/
def pickC (l : Lot) (g m : Int) : Int := if (check l).2.2 = 0 then pickE l g m else (check l).2.2
theorem find_next {s : List Int} {p : List Int → Bool} {k q : Nat} (h2 : (((choices s.length k).take q).map (pickL s)).find? p = none) (hq : q < (choices s.length k).length) (hp : p (pickL s (choices s.length k)[q]) = false) : (((choices s.length k).take (q + 1)).map (pickL s)).find? p = none := by
  rw [List.take_succ_eq_append_getElem hq, List.map_append, List.find?_append, h2, Option.none_or]
  simp [hp]
theorem find_on {s : List Int} {p : List Int → Bool} {k q : Nat} (h1 : (setsTo s k).find? p = none) (h2 : (((choices s.length k).take q).map (pickL s)).find? p = none) (hq : (choices s.length k).length ≤ q) : (setsTo s (k + 1)).find? p = none := by
  rw [List.take_of_length_le hq] at h2
  rw [setsTo, List.find?_append, h1, Option.none_or]; exact h2
theorem cTo_split {n k m : Nat} (h : k ≤ m) : ∃ r, choicesTo n m = choicesTo n k ++ r := by
  obtain ⟨d, rfl⟩ : ∃ d, m = k + d := ⟨m - k, by omega⟩
  clear h
  induction d with
  | zero => exact ⟨[], by simp⟩
  | succ d ih =>
    obtain ⟨r, hr⟩ := ih
    exact ⟨r ++ choices n (k + d), by rw [show k + (d + 1) = (k + d) + 1 by omega, choicesTo, hr, List.append_assoc]⟩
theorem cfind_here {n : Nat} {p : List Int → Bool} {k q : Nat} (hk : k < n) (h1 : (choicesTo n k).find? p = none) (h2 : ((choices n k).take q).find? p = none) (hq : q < (choices n k).length) (hp : p (choices n k)[q] = true) : (choicesTo n n).find? p = some (choices n k)[q] := by
  obtain ⟨r, hr⟩ := cTo_split (n := n) (k := k + 1) (m := n) (by omega)
  rw [hr, choicesTo, List.append_assoc, List.find?_append, h1, Option.none_or, List.find?_append]
  have : (choices n k).find? p = some (choices n k)[q] := by
    have e : ((choices n k).take q ++ (choices n k).drop q).find? p = some (choices n k)[q] := by
      rw [List.drop_eq_getElem_cons hq, List.find?_append, h2, Option.none_or, List.find?_cons, hp]
    rwa [List.take_append_drop] at e
  rw [this]; rfl
theorem cfind_next {n : Nat} {p : List Int → Bool} {k q : Nat} (h2 : ((choices n k).take q).find? p = none) (hq : q < (choices n k).length) (hp : p (choices n k)[q] = false) : ((choices n k).take (q + 1)).find? p = none := by
  rw [List.take_succ_eq_append_getElem hq, List.find?_append, h2, Option.none_or]; simp [hp]
theorem cfind_on {n : Nat} {p : List Int → Bool} {k q : Nat} (h1 : (choicesTo n k).find? p = none) (h2 : ((choices n k).take q).find? p = none) (hq : (choices n k).length ≤ q) : (choicesTo n (k + 1)).find? p = none := by
  rw [List.take_of_length_le hq] at h2
  rw [choicesTo, List.find?_append, h1, Option.none_or]; exact h2
theorem pick_idx {s : List Int} {k q j : Nat} (hq : q < (choices s.length k).length) (hj : j < ((choices s.length k)[q]).length) : 0 ≤ ((choices s.length k)[q])[j] ∧ ((choices s.length k)[q])[j].toNat < s.length := by
  have h1 := (choices_len (below := s.length) k _ (List.getElem_mem hq)).2 _ (List.getElem_mem hj)
  omega
theorem pickL_in {s : List Int} {k q : Nat} (hq : q < (choices s.length k).length) : ∀ z ∈ pickL s (choices s.length k)[q], z ∈ s := by
  intro z hz
  unfold pickL at hz
  obtain ⟨y, hy, rfl⟩ := List.mem_map.1 hz
  have h1 := (choices_len (below := s.length) k _ (List.getElem_mem hq)).2 y hy
  have hl : y.toNat < s.length := by omega
  simp only [List.getD, List.getElem?_eq_getElem hl, Option.getD_some]
  exact List.getElem_mem hl
end Go.Rt.Ha
/- Plain words of the chain layer: what the document's functions do, step by step: truths, spans, what is told. No conditions. -/
set_option linter.unusedSimpArgs false
set_option linter.unusedVariables false
namespace Go.Rt.Ch
open Go.Rt.Ha
theorem canTo_step {b : Board} {l : List Int} {i : Nat} (hi : i < b.ctrs.length) : canTo b l (i + 1) = (canTo b l i && (notF b.ctrs[i] l slips b.hours.length || metF b.ctrs[i] l slips b.hours.length)) := by
  unfold canTo; rw [List.take_succ_eq_append_getElem hi, List.all_append]; simp
theorem canTo_end {b : Board} {l : List Int} {i : Nat} (hi : b.ctrs.length ≤ i) : canTo b l i = canL b l := by unfold canTo; rw [List.take_of_length_le hi]; rfl
theorem canTo_no {b : Board} {l : List Int} {i : Nat} (h : canTo b l i = false) : canL b l = false := by
  cases hc : canL b l with
  | false => rfl
  | true =>
    have : canTo b l i = true := by
      unfold canTo; rw [List.all_eq_true]; intro c hm
      exact List.all_eq_true.1 hc c (List.mem_of_mem_take hm)
    rw [this] at h; cases h
def kE (b : Board) (e : Int) : Int := if e ≠ 0 then e else if truths b = [] then 8 else 0
def idxC (b : Board) (n m : Int) : Int := if (check b).2.2 = 0 then idxE n m else (check b).2.2
/-- The error of a counter and an hour. -/
def idx2C (b : Board) (c n a m : Int) : Int := if idxC b c n = 0 then idxC b a m else idxC b c n
def looksC (b : Board) (h n : Int) : Int := if idxC b h b.holds = 0 ∧ n < 0 then 7 else idxC b h b.holds
theorem felt_40 {b : Board} (hok : b.Ok) {l : List Int} (h : l ∈ felt (bun b)) (k : Nat) : 0 ≤ ld l k ∧ ld l k ≤ 40 := by
  obtain ⟨h1, h2⟩ := loads_at h
  by_cases hk : k < b.hours.length
  · have := h2 k hk
    have ho := hok.hour _ (List.getElem_mem hk)
    have h3 := ho.lo
    have h4 := ho.hi
    omega
  · have : ld l k = 0 := by simp [ld, List.getD, List.getElem?_eq_none (by omega : l.length ≤ k)]
    omega
/-! ### Those that are the same at some hours -/
def likeB (hours l m : List Int) : Bool := hours.all fun z => decide (ld m z.toNat = ld l z.toNat)
def like (ws : List (List Int)) (l hours : List Int) : List (List Int) := ws.filter (likeB hours l)
def tellsR (b : Board) (ws : List (List Int)) (hours : List Int) (hold within : Int) : Bool := ws.all fun l => decide ((hullL (inH b hold) (like ws l hours)).2 - (hullL (inH b hold) (like ws l hours)).1 ≤ within)
theorem hull_snd {f : List Int → Int} : ∀ {ws : List (List Int)} {x : Int}, ws ≠ [] → (∀ l ∈ ws, f l = x) → hullL f ws = (x, x)
  | [], _, h, _ => absurd rfl h
  | a :: ws, x, _, h => by
    have ha := h a (.head _)
    have key : ∀ (r : List (List Int)), (∀ l ∈ r, f l = x) → r.foldl (fun s y => (min s.1 (f y), max s.2 (f y))) (x, x) = (x, x) := by
      intro r
      induction r with
      | nil => intro _; rfl
      | cons y r ih =>
        intro hr
        have := hr y (.head _)
        simp only [List.foldl_cons, this]
        have e : (min x x, max x x) = (x, x) := by simp
        rw [e]; exact ih fun l hl => hr l (.tail _ hl)
    simp only [hullL, ha]
    exact key ws fun l hl => h l (.tail _ hl)
/-! ### Looks -/
end Go.Rt.Ch
/- Walks of this seat, printed by gen.py over the engine: what each function returns, in whatever world. No conditions but those of each contract. -/
set_option linter.unusedVariables false
set_option linter.unusedSimpArgs false
set_option maxRecDepth 20000
namespace Go.Proofs
open Go.Rt Go.Rt.Ch
open Go.Rt.Ha (firstE firstE_step firstE_stop firstE_end failE nameE felt spanL upto span_mem listL fewest fewTo bit before fewStep drop_lt drop_get drop_next drop_done drop_notin set_take set_zero take_less Lot Bunch feltTo fTo fPart felt_zero felt_step fTo_succ fTo_len fPart_succ fPart_len fPart_all filt_yes filt_no upto_len at_ someOf choicesTo)
attribute [local irreducible] WL WC Con Yd At Ats Sl Agree DW
theorem Try_V_fb6 (x0 : Option Addr) (l0 c0 : Nat) (w : World) : (Instr.buildSlice 66 1 [(0, .slice x0 l0 c0)].toArray).run Try.prog w = .ok (.slice (some ⟨w.heap.size, 0, none⟩) 1 1) (w.alloc (Go.Rt.blk 39 [.slice x0 l0 c0])) := by kernel_rfl
theorem Try_V_fb7  (w : World) : (Instr.buildSlice 39 0 [].toArray).run Try.prog w = .ok (.slice (some ⟨w.heap.size, 0, none⟩) 0 0) (w.alloc (Go.Rt.blk 3 [])) := by kernel_rfl
theorem Try_V_fb8 (x0 : Int) (w : World) : (Instr.buildSlice 39 1 [(0, .int .i64 x0)].toArray).run Try.prog w = .ok (.slice (some ⟨w.heap.size, 0, none⟩) 1 1) (w.alloc (Go.Rt.blk 3 [.int .i64 x0])) := by kernel_rfl
theorem Try_info39 : Try.prog.info? 39 = some Try.t39 := by kernel_rfl
/-- Slices of integers, as values: what each reads as. -/
def EL (w0 : World) (L : List (Nat × Obj)) (vs : List Value) (ll : List (List Int)) : Prop :=
  vs.length = ll.length ∧ ∀ k (h : k < ll.length), ∃ b c, vs[k]? = some (.slice b ll[k].length c) ∧ Sl w0 L b 1 (ll[k].map fun x => [Value.int .i64 x]) ∧ (b = none → c = 0)
theorem EL.mono {w0 : World} {L L' : List (Nat × Obj)} {vs : List Value} {ll : List (List Int)} (h : EL w0 L vs ll) (hs : ∀ w, St w0 w L' → St w0 w L) : EL w0 L' vs ll :=
  ⟨h.1, fun k hk => by obtain ⟨b, c, h1, h2, h3⟩ := h.2 k hk; exact ⟨b, c, h1, h2.mono hs, h3⟩⟩
theorem EL.cons {w0 : World} {L : List (Nat × Obj)} {x : Nat × Obj} {vs : List Value} {ll : List (List Int)} (h : EL w0 L vs ll) : EL w0 (x :: L) vs ll := h.mono fun _ h => h.tail
theorem EL.app {w0 : World} {L B : List (Nat × Obj)} {vs : List Value} {ll : List (List Int)} (h : EL w0 L vs ll) : EL w0 (B ++ L) vs ll := h.mono fun _ h => h.drop
theorem EL.top {w0 : World} {B F : List (Nat × Obj)} {vs : List Value} {ll : List (List Int)} (h : EL w0 B vs ll) : EL w0 (B ++ F) vs ll := h.mono fun _ h => h.front
theorem EL.nil (w0 : World) (L : List (Nat × Obj)) : EL w0 L [] [] := ⟨rfl, fun k h => by simp at h⟩
theorem EL.snoc {w0 : World} {L : List (Nat × Obj)} {vs : List Value} {ll : List (List Int)} {b : Option Addr} {c : Nat} {l : List Int} (h : EL w0 L vs ll) (hl : Sl w0 L b 1 (l.map fun x => [Value.int .i64 x])) (hn : b = none → c = 0) : EL w0 L (vs ++ [.slice b l.length c]) (ll ++ [l]) := by
  refine ⟨by simp [h.1], fun k hk => ?_⟩
  rw [List.length_append, List.length_singleton] at hk
  by_cases hkl : k < ll.length
  · obtain ⟨b', c', h1, h2, h3⟩ := h.2 k hkl
    refine ⟨b', c', ?_, ?_, h3⟩
    · rw [List.getElem?_append_left (by rw [h.1]; exact hkl), h1, List.getElem_append_left hkl]
    · rw [List.getElem_append_left hkl]; exact h2
  · have : k = ll.length := by omega
    subst this
    refine ⟨b, c, ?_, ?_, hn⟩
    · rw [List.getElem?_append_right (by rw [h.1]; omega), h.1]; simp
    · simpa using hl
theorem el_at {w0 : World} {L : List (Nat × Obj)} {a : Option Addr} {vs : List Value} {ll : List (List Int)} {k : Nat} (hs : Sl w0 L a 1 (vs.map fun v => [v])) (h : EL w0 L vs ll) (hk : k < ll.length) :
    ∃ b off b2 c2, a = some ⟨b, off, none⟩ ∧ Ats w0 L b (off + k * 1) [.slice b2 ll[k].length c2] ∧ Sl w0 L b2 1 (ll[k].map fun x => [Value.int .i64 x]) ∧ (b2 = none → c2 = 0) := by
  obtain ⟨b2, c2, h1, h2, h3⟩ := h.2 k hk
  obtain ⟨b, off, ha, _, hat⟩ := hs.at (i := k) (row := [.slice b2 ll[k].length c2]) (by rw [List.getElem?_map, h1]; rfl)
  exact ⟨b, off, b2, c2, ha, hat, h2, h3⟩
theorem el_perm {w0 w : World} {a b : Nat × Obj} {B N E R : List (Nat × Obj)} (h : St w0 w (a :: b :: (B ++ (N ++ (E ++ R))))) : St w0 w (N ++ ((B ++ E) ++ R)) := by
  have h1 : St w0 w (B ++ (N ++ (E ++ R))) := h.tail.tail
  have h2 : St w0 w (N ++ (B ++ (E ++ R))) := h1.perm (perm_mid B N (E ++ R))
  rwa [← List.append_assoc B] at h2
theorem el_drop2 (N E1 O E F : List (Nat × Obj)) : (N ++ (E1 ++ (O ++ (E ++ F)))).Perm ((O ++ E) ++ (N ++ (E1 ++ F))) := by
  have h := perm_mid (N ++ E1) (O ++ E) F
  simpa only [List.append_assoc] using h
theorem flat_ints (l : List Int) : (l.map fun x => [Value.int .i64 x]).flatten = iv l := by induction l <;> simp_all
theorem ints_one (l : List Int) : ∀ row ∈ (l.map fun x => [Value.int .i64 x]), ∀ u ∈ row, u.oneCell' = true := by
  intro row hr u hu; obtain ⟨x, _, rfl⟩ := List.mem_map.1 hr; simp at hu; subst hu; rfl
/-- A list of one's own, as a slice: nil has no room. -/
theorem own_ints {w0 : World} {v : Value} {l : List Int} {B : List (Nat × Obj)} (h : Rt.Own v 3 1 l.length (iv l) B) : ∃ a c, v = .slice a l.length c ∧ Sl w0 B a 1 (l.map fun x => [Value.int .i64 x]) ∧ (a = none → c = 0) ∧ l.length ≤ c := by
  obtain ⟨a, c, hv, hs⟩ := own_sl_map (w0 := w0) h rfl []
  rw [List.append_nil] at hs
  refine ⟨a, c, hv, hs, fun ha => ?_, ?_⟩
  · rcases h.2 with ⟨h2, _⟩ | ⟨b, cap, cs, h2, _⟩
    · rw [h2] at hv; injection hv with _ _ h3; exact h3.symm
    · rw [h2] at hv; injection hv with h3; rw [ha] at h3; cases h3
  · rcases h.2 with ⟨h2, h3, _⟩ | ⟨b, cap, cs, h2, _, h4, _⟩
    · rw [h2] at hv; injection hv with _ _ h5; omega
    · rw [h2] at hv; injection hv with _ _ h5; omega
theorem own_ints1 {v : Value} {l : List Int} {d : Int} {B : List (Nat × Obj)} (h : Rt.Own v 3 1 (0 + l.length + 1) ([] ++ (l.map fun x => [Value.int .i64 x]).flatten ++ [[Value.int .i64 d]].flatten) B) : Rt.Own v 3 1 (l ++ [d]).length (iv (l ++ [d])) B := by
  rw [flat_ints] at h
  simpa [Nat.add_comm] using h
theorem own_el {v : Value} {ws : List Value} {u : Value} {NB : List (Nat × Obj)} {g : List (List Int)} {x : List Int} (h : Rt.Own v 39 1 (g.length + 1) (ws ++ [[u]].flatten) NB) : Rt.Own v 39 1 (g ++ [x]).length (ws ++ [u]) NB := by simpa using h
theorem el_more {w0 : World} {B E : List (Nat × Obj)} {ws : List Value} {g : List (List Int)} {a : Option Addr} {c : Nat} {l : List Int} (h : EL w0 E ws g) (hs : Sl w0 B a 1 (l.map fun x => [Value.int .i64 x])) (hn : a = none → c = 0) : EL w0 (B ++ E) (ws ++ [.slice a l.length c]) (g ++ [l]) := h.app.snoc hs.top hn
theorem ats_ofK {w0 w : World} {L : List (Nat × Obj)} {i b : Nat} {t : TypeId} {cs vs : List Value} (hs : St w0 w L) (hi : L[i]? = some (b, blk t cs)) (h : (cs.drop 0).take vs.length = vs) : Ats w0 L b 0 vs := ats_own hi h
theorem kq_own {w0 w : World} {B F : List (Nat × Obj)} {a : Nat × Obj} (h : St w0 w (B ++ (a :: F))) : St w0 w (B ++ F) := (h.perm (perm_mid B [a] F)).tail
theorem can_vals {a b : Bool} {c d : Int} (h : a = b) (k : c = d) : [Value.bool a, Value.int .i64 c] = [Value.bool b, Value.int .i64 d] := by rw [h, k]
theorem c90 {w0 w : World} {F : List (Nat × Obj)} (b : Board) (p : AtB) (hm : BIn w0 F b p) (hok : b.Ok) (al : Option Addr) (cl : Nat) (l : List Int) (hll : l.length = b.hours.length) (hl40 : ∀ k, 0 ≤ ld l k ∧ ld l k ≤ 40) (hl : Sl w0 F al 1 (l.map fun x => [Value.int .i64 x])) (hs : St w0 w F) :
  Con Try.prog 90 [.agg (b.cells p).toArray, .slice al l.length cl] w fun v w' => v = .bool (canL b l) ∧ St w0 w' F := by
  refine con_of_wc (n := 34) Try.func90 rfl rfl (Nat.le_of_ble_eq_true rfl) ?_
  have hlh := hok.lh
  have hlc := hok.lc
  refine w_seq (fun K2 hK1 => ?_)
  refine w_region ?_
  refine w_box (v := .agg #[.int _ _, .slice _ _ _, .slice _ _ _]) (cs := [_, _, _]) want_none rfl rfl rfl hs (fun b3 w4 hs5 => ?_)
  refine w_p (y_assign (v := _) rfl rfl) rfl ?_
  refine w_nil ?_
  refine q_then (hK1 _ _ ?_)
  refine w_seq (fun K7 hK6 => ?_)
  refine w_region ?_
  refine w_p (y_assign (v := _) rfl rfl) rfl ?_
  refine w_nil ?_
  refine q_then (hK6 _ _ ?_)
  refine w_seq (fun K9 hK8 => ?_)
  refine w_seq (fun K11 hK10 => ?_)
  refine w_region ?_
  refine w_p (y_assign (v := _) rfl rfl) rfl ?_
  refine w_nil ?_
  refine q_then (hK10 _ _ ?_)
  refine w_block ?_
  refine w_loop [5, 6, 7, 8, 9, 10, 11, 12, 13, 14, 15, 16, 17, 18, 19, 20, 21, 22, 23, 24, 25, 26, 27, 28, 29, 30, 31, 32] [5, 6] (fun k vs w => ∃ i : Nat, vs = [.bool (canTo b l i), .int .i64 i] ∧ i ≤ b.ctrs.length ∧ k = b.ctrs.length - i ∧ St w0 w ((b3, blk 25 (b.cells p)) :: F)) (b.ctrs.length) ?_ ?_
  ·
   exact ⟨0, rfl, by omega, by omega, hs5⟩
  ·
   intro k vs μ w14 hI K13 hN12
   obtain ⟨i, rfl, hia, rfl, hs⟩ := hI
   generalize hcn : canTo b l i = cn
   refine w_seq (fun K16 hK15 => ?_)
   refine w_seq (fun K18 hK17 => ?_)
   refine w_region ?_
   refine w_p (y_move (v := .int _ _) rfl rfl) rfl ?_
   refine w_p (y_fieldAddr (o := 2) (i := 2) Try.underlying25 rfl Try.sizeOf23 rfl rfl rfl) rfl ?_
   refine w_p (y_load1 Try.isAgg23 hs rfl rfl (ats_own (i := 0) (vs := [_]) rfl rfl)) rfl ?_
   refine w_p (y_lenS Try.underlying23 rfl rfl) rfl ?_
   refine w_p (y_lss rfl rfl rfl rfl) rfl ?_
   refine w_p (y_move (v := .bool _) rfl rfl) rfl ?_
   refine w_split (fun h19 => ?_) (fun h19 => ?_)
   ·
    try simp only [zA, zB, zC, zD, zE, zF] at h19
    refine w_y rfl rfl rfl (y_move (v := .bool _) rfl rfl) rfl ?_
    refine w_p (y_pickT (v := .bool _) rfl rfl rfl rfl) rfl ?_
    refine w_nil ?_
    refine q_then (hK17 _ _ ?_)
    refine w_cond rfl rfl (fun h20 => ?_) (fun h20 => ?_)
    ·
     try simp only [zA, zB, zC, zD, zE, zF] at h20
     refine w_skip ?_
     refine q_then (hK15 _ _ ?_)
     refine w_seq (fun K22 hK21 => ?_)
     refine w_block ?_
     refine w_seq (fun K24 hK23 => ?_)
     have hi2 : i < b.ctrs.length := by omega
     obtain ⟨bx, ox, hbx, hx⟩ := sl_krows hm.c hi2
     have hci := hok.ctr _ (List.getElem_mem hi2)
     refine w_region ?_
     refine w_p (y_fieldAddr (o := 2) (i := 2) Try.underlying25 rfl Try.sizeOf23 rfl rfl rfl) rfl ?_
     refine w_p (yd_slice hbx (y_load1 Try.isAgg23 hs rfl rfl (ats_own (i := 0) (vs := [_]) rfl rfl))) rfl ?_
     refine w_p (y_move (v := .int _ _) rfl rfl) rfl ?_
     refine w_p (y_indexS Try.underlying23 Try.sizeOf76 rfl rfl rfl rfl (i := i) rfl hi2) rfl ?_
     refine w_p (y_loadN (vs := [_, _, _, _, _, _]) Try.isAgg76 Try.sizeOf76 hs.tail rfl rfl hx) rfl ?_
     refine w_p (y_move (v := .slice _ _ _) rfl rfl) rfl ?_
     refine w_call want_none Try.call75 rfl rfl rfl rfl ((by have h := c75 (b.ctrs[i]'hi2) (p.pc i) b.hours.length hci (hm.z i hi2).cons (hm.s i hi2).cons _ cl l hll (by omega) hl40 hl.cons (-1) hs; rw [q_slips] at h; exact h)) ?_
     rintro _ w26 ⟨rfl, hs27⟩
     refine w_p (y_move (v := .tuple _) rfl rfl) rfl ?_
     refine w_p (y_extract (v := .bool _) rfl rfl rfl) rfl ?_
     refine w_p (y_extract (v := .bool _) rfl rfl rfl) rfl ?_
     refine w_p (y_assign (v := .bool _) rfl rfl) rfl ?_
     refine w_p (y_assign (v := .bool _) rfl rfl) rfl ?_
     refine w_nil ?_
     refine q_then (hK23 _ _ ?_)
     refine w_region ?_
     refine w_p (y_move (v := .bool _) rfl rfl) rfl ?_
     refine w_p (y_move (v := .bool _) rfl rfl) rfl ?_
     refine w_split (fun h28 => ?_) (fun h28 => ?_)
     ·
      try simp only [zA, zB, zC, zD, zE, zF] at h28
      refine w_skipop rfl rfl rfl ?_
      refine w_p (y_pickT (v := _) rfl rfl rfl rfl) rfl ?_
      refine w_p (y_assign (v := .bool _) rfl rfl) rfl ?_
      refine w_nil ?_
      refine q_blk_normal ?_
      refine q_then (hK21 _ _ ?_)
      refine w_region ?_
      refine w_p (y_move (v := .int _ _) rfl rfl) rfl ?_
      refine w_p (y_add rfl rfl rfl rfl (by omega) (by omega)) rfl ?_
      refine w_p (y_assign (v := .int _ _) rfl rfl) rfl ?_
      refine w_nil ?_
      refine q_then (hN12 _ _ (Nx.intro (b.ctrs.length - (i + 1)) (by omega) (by repeat (first | exact agree_mix | refine agree_upd rfl ?_ | refine agree_updL rfl ?_ _ | refine agree_mixin rfl ?_)) ?_))
      exact ⟨i + 1, can_vals (by rw [canTo_step hi2, hcn]; simp [h19, h20, h28]) rfl, by omega, rfl, hs27⟩
     ·
      try simp only [zA, zB, zC, zD, zE, zF] at h28
      refine w_y rfl rfl rfl (y_move (v := .bool _) rfl rfl) rfl ?_
      refine w_p (y_pickF (v := .bool _) rfl rfl rfl rfl) rfl ?_
      refine w_p (y_assign (v := .bool _) rfl rfl) rfl ?_
      refine w_nil ?_
      refine q_blk_normal ?_
      refine q_then (hK21 _ _ ?_)
      refine w_region ?_
      refine w_p (y_move (v := .int _ _) rfl rfl) rfl ?_
      refine w_p (y_add rfl rfl rfl rfl (by omega) (by omega)) rfl ?_
      refine w_p (y_assign (v := .int _ _) rfl rfl) rfl ?_
      refine w_nil ?_
      refine q_then (hN12 _ _ (Nx.intro (b.ctrs.length - (i + 1)) (by omega) (by repeat (first | exact agree_mix | refine agree_upd rfl ?_ | refine agree_updL rfl ?_ _ | refine agree_mixin rfl ?_)) ?_))
      exact ⟨i + 1, can_vals (by rw [canTo_step hi2, hcn]; simp [h19, h20, h28]) rfl, by omega, rfl, hs27⟩
    ·
     try simp only [zA, zB, zC, zD, zE, zF] at h20
     refine w_exit ?_
     refine q_then_exit ?_
     refine q_then_exit ?_
     refine q_blk_this ?_
     refine q_then (hK8 _ _ ?_)
     refine w_seq (fun K30 hK29 => ?_)
     refine w_region ?_
     refine w_p (y_move (v := .bool _) rfl rfl) rfl ?_
     refine w_p (y_assign (v := .bool _) rfl rfl) rfl ?_
     refine w_nil ?_
     refine q_then (hK29 _ _ ?_)
     refine w_ret ?_
     refine q_ret (l := [.tmp 4]) (vs := [_]) rfl ⟨⟨rfl, show _ = (.bool _ : Value) from rfl⟩, trivial⟩ ?_
     first
       | exact ⟨congrArg Value.bool (by rw [canTo_no (hcn.trans (by assumption))]; assumption), hs.tail⟩
       | exact ⟨congrArg Value.bool ((canTo_no hcn).symm), hs.tail⟩
       | exact ⟨congrArg Value.bool ((canTo_end (by omega)).symm.trans hcn).symm, hs.tail⟩
   ·
    try simp only [zA, zB, zC, zD, zE, zF] at h19
    refine w_skipop rfl rfl rfl ?_
    refine w_p (y_pickF (v := _) rfl rfl rfl rfl) rfl ?_
    refine w_nil ?_
    refine q_then (hK17 _ _ ?_)
    refine w_condF rfl rfl ?_
    refine w_exit ?_
    refine q_then_exit ?_
    refine q_then_exit ?_
    refine q_blk_this ?_
    refine q_then (hK8 _ _ ?_)
    refine w_seq (fun K32 hK31 => ?_)
    refine w_region ?_
    refine w_p (y_move (v := .bool _) rfl rfl) rfl ?_
    refine w_p (y_assign (v := .bool _) rfl rfl) rfl ?_
    refine w_nil ?_
    refine q_then (hK31 _ _ ?_)
    refine w_ret ?_
    refine q_ret (l := [.tmp 4]) (vs := [_]) rfl ⟨⟨rfl, show _ = (.bool _ : Value) from rfl⟩, trivial⟩ ?_
    first
      | exact ⟨congrArg Value.bool (by rw [canTo_no (hcn.trans (by assumption))]; assumption), hs.tail⟩
      | exact ⟨congrArg Value.bool ((canTo_no hcn).symm), hs.tail⟩
      | exact ⟨congrArg Value.bool ((canTo_end (by omega)).symm.trans hcn).symm, hs.tail⟩

theorem c89 {w0 w : World} {F : List (Nat × Obj)} (b : Board) (p : AtB) (hm : BIn w0 F b p) (hok : b.Ok) (hs : St w0 w F) :
  Con Try.prog 89 [.agg (b.cells p).toArray] w fun v w' => ∃ (B : List (Nat × Obj)) (vs : List Value) (a : Option Addr) (c : Nat), v = .slice a (felt (bun b)).length c ∧ Sl w0 B a 1 (vs.map fun v => [v]) ∧ EL w0 B vs (felt (bun b)) ∧ St w0 w' (B ++ F) := by
  refine con_of_wc (n := 54) Try.func89 rfl rfl (Nat.le_of_ble_eq_true rfl) ?_
  have hlh := hok.lh
  refine w_seq (fun K2 hK1 => ?_)
  refine w_region ?_
  refine w_box (v := .agg #[.int _ _, .slice _ _ _, .slice _ _ _]) (cs := [_, _, _]) want_none rfl rfl rfl hs (fun b3 w4 hs5 => ?_)
  refine w_p (y_assign (v := _) rfl rfl) rfl ?_
  refine w_nil ?_
  refine q_then (hK1 _ _ ?_)
  refine w_seq (fun K7 hK6 => ?_)
  have hbx := ats_ofK (i := 0) (vs := b.cells p) hs5 rfl rfl
  refine w_region ?_
  refine w_bslice (ps := [(0, _)]) (pv := [(0, .slice _ _ _)]) (cs := [_]) want_none rfl rfl (fun w => Try_V_fb6 _ _ _ w) hs5 (fun b8 w9 hs10 => ?_)
  refine w_p (y_assign (v := .slice _ _ _) rfl rfl) rfl ?_
  refine w_nil ?_
  refine q_then (hK6 _ _ ?_)
  refine w_seq (fun K12 hK11 => ?_)
  refine w_seq (fun K14 hK13 => ?_)
  refine w_region ?_
  refine w_p (y_assign (v := _) rfl rfl) rfl ?_
  refine w_nil ?_
  refine q_then (hK13 _ _ ?_)
  refine w_block ?_
  refine w_loop [3, 4, 5, 6, 7, 9, 10, 11, 12, 13, 14, 15, 16, 17, 18, 19, 20, 21, 22, 23, 24, 25, 26, 27, 28, 29, 30, 31, 32, 33, 34, 35, 36, 37, 38, 39, 40, 41, 42, 43, 44, 45, 46, 47, 48, 49, 50, 51, 52] [3, 4] (fun kk vs0 w => ∃ (i : Nat) (vO : Value) (OB E : List (Nat × Obj)) (vs : List Value), vs0 = [vO, .int .i64 i] ∧ i ≤ b.hours.length ∧ kk = b.hours.length - i ∧ Rt.Own vO 39 1 (feltTo (fb b) i).length vs OB ∧ EL w0 E vs (feltTo (fb b) i) ∧ St w0 w (OB ++ (E ++ ((b3, blk 25 (b.cells p)) :: F)))) (b.hours.length) ?_ ?_
  ·
   exact ⟨0, _, [_], [], [.slice none 0 0], rfl, by omega, by omega, own_lit rfl (by simp [maxLen]), ⟨rfl, fun k hk => ⟨none, 0, by simp [felt_zero] at hk; subst hk; rfl, by simp [felt_zero] at hk; subst hk; exact Sl.nil _ _, fun _ => rfl⟩⟩, hs10⟩
  ·
   intro k vs μ w17 hI K16 hN15
   obtain ⟨i, vO, OB, E, vs, rfl, hia, rfl, hown0, hel, hs⟩ := hI
   refine w_seq (fun K19 hK18 => ?_)
   refine w_seq (fun K21 hK20 => ?_)
   refine w_region ?_
   refine w_p (y_move (v := .int _ _) rfl rfl) rfl ?_
   refine w_p (y_fieldAddr (o := 1) (i := 1) Try.underlying25 rfl Try.sizeOf22 rfl rfl rfl) rfl ?_
   refine w_p (y_load1 Try.isAgg22 hs.drop.drop rfl rfl (show Ats _ _ _ _ [_] from Ats.part hbx 1 1)) rfl ?_
   refine w_p (y_lenS Try.underlying22 rfl rfl) rfl ?_
   refine w_p (y_lss rfl rfl rfl rfl) rfl ?_
   refine w_nil ?_
   refine q_then (hK20 _ _ ?_)
   refine w_cond rfl rfl (fun h22 => ?_) (fun h22 => ?_)
   ·
    try simp only [zA, zB, zC, zD, zE, zF] at h22
    refine w_skip ?_
    refine q_then (hK18 _ _ ?_)
    refine w_seq (fun K24 hK23 => ?_)
    refine w_block ?_
    refine w_seq (fun K26 hK25 => ?_)
    have hi2 : i < b.hours.length := by omega
    have hi3 : i < (fb b).bunches.length := by show i < (bun b).length; rw [bun_len]; exact hi2
    have hbe : (fb b).bunches[i] = ⟨b.hours[i].lo, b.hours[i].hi, 0, 0⟩ := bun_at hi2
    have hwl := loads_len hok (Nat.le_of_lt hi2)
    have hho := hok.hour _ (List.getElem_mem hi2)
    have hh1 := hho.lo
    have hh2 := hho.le
    have hh3 := hho.hi
    have hh4 := hho.w
    have hblo : (fb b).bunches[i].lo = b.hours[i].lo := by rw [hbe]
    have hbhi : (fb b).bunches[i].hi = b.hours[i].hi := by rw [hbe]
    obtain ⟨aO, cO, rfl, hslO⟩ := own_sl_id (w0 := w0) hown0 hel.1 (E ++ ((b3, blk 25 (b.cells p)) :: F))
    obtain ⟨by_, oy, hby, hy⟩ := sl_hrows hm.h hi2
    refine w_region ?_
    refine w_p (y_assign (v := _) rfl rfl) rfl ?_
    refine w_nil ?_
    refine q_then (hK25 _ _ ?_)
    refine w_seq (fun K28 hK27 => ?_)
    refine w_seq (fun K30 hK29 => ?_)
    refine w_region ?_
    refine w_p (y_assign (v := _) rfl rfl) rfl ?_
    refine w_nil ?_
    refine q_then (hK29 _ _ ?_)
    refine w_block ?_
    refine w_loop [5, 6, 7, 16, 17, 18, 19, 20, 21, 22, 23, 24, 25, 26, 27, 28, 29, 30, 31, 32, 33, 34, 35, 36, 37, 38, 39, 40, 41, 42, 43, 44, 45, 46, 47, 48, 49, 50, 51] [5, 6] (fun kk vs0 w => ∃ (k : Nat) (vN : Value) (NB E1 : List (Nat × Obj)) (ws : List Value), vs0 = [vN, .int .i64 k] ∧ k ≤ (feltTo (fb b) i).length ∧ kk = (feltTo (fb b) i).length - k ∧ Rt.Own vN 39 1 (fTo ((fb b).bunches[i]'hi3) (feltTo (fb b) i) k).length ws NB ∧ EL w0 E1 ws (fTo ((fb b).bunches[i]'hi3) (feltTo (fb b) i) k) ∧ St w0 w (NB ++ (E1 ++ (OB ++ (E ++ ((b3, blk 25 (b.cells p)) :: F)))))) ((feltTo (fb b) i).length) ?_ ?_
    ·
     exact ⟨0, _, [], [], [], rfl, by omega, by omega, own_nil 39 1, EL.nil _ _, hs⟩
    ·
     intro k vs μ w33 hI K32 hN31
     obtain ⟨k, vN, NB, E1, ws, rfl, hka, rfl, hown1, hel1, hs⟩ := hI
     refine w_seq (fun K35 hK34 => ?_)
     refine w_seq (fun K37 hK36 => ?_)
     refine w_region ?_
     refine w_p (y_move (v := .int _ _) rfl rfl) rfl ?_
     refine w_p (y_move (v := .slice _ _ _) rfl rfl) rfl ?_
     refine w_p (y_lenS Try.underlying66 rfl rfl) rfl ?_
     refine w_p (y_lss rfl rfl rfl rfl) rfl ?_
     refine w_nil ?_
     refine q_then (hK36 _ _ ?_)
     refine w_cond rfl rfl (fun h38 => ?_) (fun h38 => ?_)
     ·
      try simp only [zA, zB, zC, zD, zE, zF] at h38
      refine w_skip ?_
      refine q_then (hK34 _ _ ?_)
      refine w_seq (fun K40 hK39 => ?_)
      refine w_block ?_
      refine w_seq (fun K42 hK41 => ?_)
      have hk2 : k < (feltTo (fb b) i).length := by omega
      obtain ⟨bx, ox, b2, c2, haO, hx, hsx0, hnx⟩ := el_at hslO (hel.mono fun _ h => h.drop.front) hk2
      subst haO
      have hxl := loads_in (Nat.le_of_lt hi2) (List.getElem_mem hk2)
      refine w_region ?_
      refine w_p (y_fieldAddr (o := 1) (i := 1) Try.underlying25 rfl Try.sizeOf22 rfl rfl rfl) rfl ?_
      refine w_p (yd_slice hby (y_load1 Try.isAgg22 hs.drop.drop.drop.drop rfl rfl (show Ats _ _ _ _ [_] from Ats.part hbx 1 1))) rfl ?_
      refine w_p (y_move (v := .int _ _) rfl rfl) rfl ?_
      refine w_p (y_indexS Try.underlying22 Try.sizeOf70 rfl rfl rfl rfl (i := i) rfl hi2) rfl ?_
      refine w_p (y_fieldAddr (o := 1) (i := 1) Try.underlying70 rfl Try.sizeOf31 rfl rfl rfl) rfl ?_
      refine w_p (y_fieldAddr (o := 0) (i := 0) Try.underlying31 rfl Try.sizeOf3 rfl rfl rfl) rfl ?_
      refine w_p (y_load1 Try.isAgg3 hs.drop.drop.drop.drop.tail rfl rfl (show Ats _ _ _ _ [_] from Ats.part hy 1 1)) rfl ?_
      refine w_p (y_assign (v := .int _ _) rfl rfl) rfl ?_
      refine w_nil ?_
      refine q_then (hK41 _ _ ?_)
      refine w_block ?_
      refine w_loop [5, 7, 29, 30, 31, 32, 33, 34, 35, 36, 37, 38, 39, 40, 41, 42, 43, 44, 45, 46, 47, 48, 49, 50, 51] [5, 7] (fun kk vs0 w => ∃ (q : Nat) (vN : Value) (NB E1 : List (Nat × Obj)) (ws : List Value), vs0 = [vN, .int .i64 ((b.hours[i]'hi2).lo + q)] ∧ (q : Int) ≤ (b.hours[i]'hi2).hi + 1 - (b.hours[i]'hi2).lo ∧ kk = ((b.hours[i]'hi2).hi + 1 - (b.hours[i]'hi2).lo).toNat - q ∧ Rt.Own vN 39 1 (fTo ((fb b).bunches[i]'hi3) (feltTo (fb b) i) k ++ fPart ((fb b).bunches[i]'hi3) ((feltTo (fb b) i)[k]'hk2) q).length ws NB ∧ EL w0 E1 ws (fTo ((fb b).bunches[i]'hi3) (feltTo (fb b) i) k ++ fPart ((fb b).bunches[i]'hi3) ((feltTo (fb b) i)[k]'hk2) q) ∧ St w0 w (NB ++ (E1 ++ (OB ++ (E ++ ((b3, blk 25 (b.cells p)) :: F)))))) (((b.hours[i]'hi2).hi + 1 - (b.hours[i]'hi2).lo).toNat) ?_ ?_
      ·
       exact ⟨0, vN, NB, E1, ws, vi (by omega), by omega, by omega, by rw [show fPart _ _ 0 = [] from rfl, List.append_nil]; exact hown1, by rw [show fPart _ _ 0 = [] from rfl, List.append_nil]; exact hel1, hs⟩
      ·
       intro k vs μ w45 hI K44 hN43
       obtain ⟨q, vN, NB, E1, ws, rfl, hqa, rfl, hown2, hel2, hs⟩ := hI
       refine w_seq (fun K47 hK46 => ?_)
       refine w_seq (fun K49 hK48 => ?_)
       refine w_region ?_
       refine w_p (y_move (v := .int _ _) rfl rfl) rfl ?_
       refine w_p (y_fieldAddr (o := 1) (i := 1) Try.underlying25 rfl Try.sizeOf22 rfl rfl rfl) rfl ?_
       refine w_p (yd_slice hby (y_load1 Try.isAgg22 hs.drop.drop.drop.drop rfl rfl (show Ats _ _ _ _ [_] from Ats.part hbx 1 1))) rfl ?_
       refine w_p (y_move (v := .int _ _) rfl rfl) rfl ?_
       refine w_p (y_indexS Try.underlying22 Try.sizeOf70 rfl rfl rfl rfl (i := i) rfl hi2) rfl ?_
       refine w_p (y_fieldAddr (o := 1) (i := 1) Try.underlying70 rfl Try.sizeOf31 rfl rfl rfl) rfl ?_
       refine w_p (y_fieldAddr (o := 1) (i := 1) Try.underlying31 rfl Try.sizeOf3 rfl rfl rfl) rfl ?_
       refine w_p (y_load1 Try.isAgg3 hs.drop.drop.drop.drop.tail rfl rfl (show Ats _ _ _ _ [_] from Ats.part hy 2 1)) rfl ?_
       refine w_p (y_leq rfl rfl rfl rfl) rfl ?_
       refine w_nil ?_
       refine q_then (hK48 _ _ ?_)
       refine w_cond rfl rfl (fun h50 => ?_) (fun h50 => ?_)
       ·
        try simp only [zA, zB, zC, zD, zE, zF] at h50
        refine w_skip ?_
        refine q_then (hK46 _ _ ?_)
        refine w_seq (fun K52 hK51 => ?_)
        refine w_block ?_
        have hgl := fTo_len (b := ((fb b).bunches[i]'hi3)) (ws := (feltTo (fb b) i)) (by omega) k
        have hgq := fPart_len ((fb b).bunches[i]'hi3) ((feltTo (fb b) i)[k]'hk2) q
        refine w_region ?_
        refine w_p (y_move (v := vN) rfl rfl) rfl ?_
        refine w_bslice (ps := []) (pv := []) (cs := []) want_none rfl rfl (fun w => Try_V_fb7  w) hs (fun b53 w54 hs55 => ?_)
        refine w_p (y_move (v := .slice _ _ _) rfl rfl) rfl ?_
        refine w_p (y_move (v := .int _ _) rfl rfl) rfl ?_
        refine w_p (y_indexS Try.underlying66 Try.sizeOf39 rfl rfl rfl rfl (i := k) rfl hk2) rfl ?_
        refine w_p (y_load1 Try.isAgg39 hs55.tail.drop.drop rfl rfl hx) rfl ?_
        refine w_append (X := ([])) (B := [_]) (rows := (((feltTo (fb b) i)[k]'hk2).map fun x => [Value.int .i64 x])) (sz := 1) (bytes := 8) want_none Try.underlying39 Try_info3 rfl rfl rfl rfl rfl rfl rfl rfl rfl hs55 own_made hsx0.app.app.cons (by simp) hnx (ints_one _) (by simp only [maxLen]; omega) (by omega) (fun v56 w57 B58 ho59 hs60 => ?_)
        replace hs60 := (show St _ _ (B58 ++ (NB ++ (E1 ++ (OB ++ (E ++ (_ :: F)))))) from hs60)
        refine w_p (y_move (v := .int _ _) rfl rfl) rfl ?_
        refine w_bslice (ps := [(0, _)]) (pv := [(0, .int _ _)]) (cs := [_]) want_none rfl rfl (fun w => Try_V_fb8 _ w) hs60 (fun b61 w62 hs63 => ?_)
        refine w_append (X := (_ :: [])) (B := B58) (rows := [[_]]) (sz := 1) (bytes := 8) want_none Try.underlying39 Try_info3 rfl rfl rfl rfl rfl rfl rfl rfl rfl hs63 ho59 (sl_own (i := 0) rfl (by simp) rfl) rfl (by simp) (by simp [Value.oneCell']) (by simp only [maxLen]; omega) (by omega) (fun v64 w65 B66 ho67 hs68 => ?_)
        replace hs68 := (show St _ _ (_ :: B66 ++ (NB ++ (E1 ++ (OB ++ (E ++ (_ :: F)))))) from hs68)
        obtain ⟨a3, c3, rfl, hsl3, hn3, _⟩ := own_ints (w0 := w0) (own_ints1 ho67)
        refine w_bslice (ps := [(0, _)]) (pv := [(0, .slice _ _ _)]) (cs := [_]) want_none rfl rfl (fun w => Try_V_fb6 _ _ _ w) hs68 (fun b69 w70 hs71 => ?_)
        refine w_append (X := (_ :: _ :: B66)) (B := NB) (rows := [[_]]) (sz := 1) (bytes := 24) want_none Try.underlying66 Try_info39 rfl rfl rfl rfl rfl rfl rfl rfl rfl hs71 hown2 (sl_own (i := 0) rfl (by simp) rfl) rfl (by simp) (by simp [Value.oneCell']) (by simp only [maxLen, List.length_append]; omega) (by simp only [List.length_append]; omega) (fun v72 w73 B74 ho75 hs76 => ?_)
        replace hs76 := (show St _ _ (_ :: _ :: B66 ++ (B74 ++ (E1 ++ (OB ++ (E ++ (_ :: F)))))) from hs76)
        refine w_p (y_assign (v := v72) rfl rfl) rfl ?_
        refine w_nil ?_
        refine q_blk_normal ?_
        refine q_then (hK51 _ _ ?_)
        refine w_region ?_
        refine w_p (y_move (v := .int _ _) rfl rfl) rfl ?_
        refine w_p (y_add rfl rfl rfl rfl (by omega) (by omega)) rfl ?_
        refine w_p (y_assign (v := .int _ _) rfl rfl) rfl ?_
        refine w_nil ?_
        refine q_then (hN43 _ _ (Nx.intro (((b.hours[i]'hi2).hi + 1 - (b.hours[i]'hi2).lo).toNat - (q + 1)) (by omega) (by repeat (first | exact agree_mix | refine agree_upd rfl ?_ | refine agree_updL rfl ?_ _ | refine agree_mixin rfl ?_)) ?_))
        exact ⟨q + 1, _, _, B66 ++ E1, _, vi (by omega), by omega, rfl, by rw [fPart_succ, hblo, ← List.append_assoc]; exact own_el ho75, by rw [fPart_succ, hblo, ← List.append_assoc]; exact el_more hel2 hsl3 hn3, el_perm hs76⟩
       ·
        try simp only [zA, zB, zC, zD, zE, zF] at h50
        refine w_exit ?_
        refine q_then_exit ?_
        refine q_then_exit ?_
        refine q_blk_this ?_
        refine q_blk_normal ?_
        refine q_then (hK39 _ _ ?_)
        refine w_region ?_
        refine w_p (y_move (v := .int _ _) rfl rfl) rfl ?_
        refine w_p (y_add rfl rfl rfl rfl (by omega) (by omega)) rfl ?_
        refine w_p (y_assign (v := .int _ _) rfl rfl) rfl ?_
        refine w_nil ?_
        refine q_then (hN31 _ _ (Nx.intro ((feltTo (fb b) i).length - (k + 1)) (by omega) (by repeat (first | exact agree_mix | refine agree_upd rfl ?_ | refine agree_updL rfl ?_ _ | refine agree_mixin rfl ?_)) ?_))
        have hqb : q = (((fb b).bunches[i]'hi3).hi + 1 - ((fb b).bunches[i]'hi3).lo).toNat := by omega
        rw [fPart_all hqb, ← fTo_succ hk2] at hown2 hel2
        exact ⟨k + 1, vN, NB, E1, ws, rfl, by omega, by omega, hown2, hel2, hs⟩
     ·
      try simp only [zA, zB, zC, zD, zE, zF] at h38
      refine w_exit ?_
      refine q_then_exit ?_
      refine q_then_exit ?_
      refine q_blk_this ?_
      refine q_then (hK27 _ _ ?_)
      refine w_region ?_
      refine w_p (y_move (v := vN) rfl rfl) rfl ?_
      refine w_p (y_assign (v := vN) rfl rfl) rfl ?_
      refine w_nil ?_
      refine q_blk_normal ?_
      refine q_then (hK23 _ _ ?_)
      refine w_region ?_
      refine w_p (y_move (v := .int _ _) rfl rfl) rfl ?_
      refine w_p (y_add rfl rfl rfl rfl (by omega) (by omega)) rfl ?_
      refine w_p (y_assign (v := .int _ _) rfl rfl) rfl ?_
      refine w_nil ?_
      refine q_then (hN15 _ _ (Nx.intro (b.hours.length - (i + 1)) (by omega) (by repeat (first | exact agree_mix | refine agree_upd rfl ?_ | refine agree_updL rfl ?_ _ | refine agree_mixin rfl ?_)) ?_))
      have hkn : k = (feltTo (fb b) i).length := by omega
      rw [hkn, felt_step hi3] at hown1 hel1
      exact ⟨i + 1, vN, NB, E1, ws, rfl, by omega, rfl, hown1, hel1, (hs.perm (el_drop2 NB E1 OB E _)).drop⟩
   ·
    try simp only [zA, zB, zC, zD, zE, zF] at h22
    refine w_exit ?_
    refine q_then_exit ?_
    refine q_then_exit ?_
    refine q_blk_this ?_
    refine q_then (hK11 _ _ ?_)
    refine w_seq (fun K78 hK77 => ?_)
    refine w_region ?_
    refine w_p (y_move (v := vO) rfl rfl) rfl ?_
    refine w_p (y_assign (v := vO) rfl rfl) rfl ?_
    refine w_nil ?_
    refine q_then (hK77 _ _ ?_)
    refine w_ret ?_
    refine q_ret (l := [.tmp 2]) (vs := [_]) rfl ⟨⟨rfl, show _ = (vO : Value) from rfl⟩, trivial⟩ ?_
    have hin : i = b.hours.length := by omega
    subst hin
    rw [loads_all] at hown0 hel
    obtain ⟨aO, cO, rfl, hslO⟩ := own_sl_id (w0 := w0) hown0 hel.1 E
    exact ⟨OB ++ E, vs, aO, cO, rfl, hslO, hel.app, kq_own (by rw [List.append_assoc]; exact hs)⟩

end Go.Proofs
/- Walks of this seat, printed by gen.py over the engine: what each function returns, in whatever world. No conditions but those of each contract. -/
set_option linter.unusedVariables false
set_option linter.unusedSimpArgs false
set_option maxRecDepth 20000
namespace Go.Proofs
open Go.Rt Go.Rt.Ch
open Go.Rt.Ha (firstE firstE_step firstE_stop firstE_end failE nameE felt spanL upto span_mem listL fewest fewTo bit before fewStep drop_lt drop_get drop_next drop_done drop_notin set_take set_zero take_less Lot Bunch feltTo fTo fPart felt_zero felt_step fTo_succ fTo_len fPart_succ fPart_len fPart_all filt_yes filt_no upto_len at_ someOf choicesTo)
attribute [local irreducible] WL WC Con Yd At Ats Sl Agree DW
end Go.Proofs
/- Walks of this seat, printed by gen.py over the engine: what each function returns, in whatever world. No conditions but those of each contract. -/
set_option linter.unusedVariables false
set_option linter.unusedSimpArgs false
set_option maxRecDepth 20000
namespace Go.Proofs
open Go.Rt Go.Rt.Ch
open Go.Rt.Ha (firstE firstE_step firstE_stop firstE_end failE nameE felt spanL upto span_mem listL fewest fewTo bit before fewStep drop_lt drop_get drop_next drop_done drop_notin set_take set_zero take_less Lot Bunch feltTo fTo fPart felt_zero felt_step fTo_succ fTo_len fPart_succ fPart_len fPart_all filt_yes filt_no upto_len at_ someOf choicesTo)
attribute [local irreducible] WL WC Con Yd At Ats Sl Agree DW

end Go.Proofs
/- Walks of this seat, printed by gen.py over the engine: what each function returns, in whatever world. No conditions but those of each contract. -/
set_option linter.unusedVariables false
set_option linter.unusedSimpArgs false
set_option maxRecDepth 20000
namespace Go.Proofs
open Go.Rt Go.Rt.Ch
open Go.Rt.Ha (firstE firstE_step firstE_stop firstE_end failE nameE felt spanL upto span_mem listL fewest fewTo bit before fewStep drop_lt drop_get drop_next drop_done drop_notin set_take set_zero take_less Lot Bunch feltTo fTo fPart felt_zero felt_step fTo_succ fTo_len fPart_succ fPart_len fPart_all filt_yes filt_no upto_len at_ someOf choicesTo)
attribute [local irreducible] WL WC Con Yd At Ats Sl Agree DW
end Go.Proofs
/- Plain laws of the chain layer: spans hold what they span; what lies in a hold. No program in sight. No conditions. -/
set_option linter.unusedSimpArgs false
set_option linter.unusedVariables false
namespace Go.Rt.Ch
open Go.Rt.Ha
def someB (b : Board) : Bool := decide ((check b).2.2 = 0) && !(truths b).isEmpty
theorem someB_y {b : Board} (h : someB b = true) : (check b).2.2 = 0 ∧ b.Ok ∧ truths b ≠ [] := by
  unfold someB at h
  simp only [Bool.and_eq_true, decide_eq_true_eq, Bool.not_eq_true'] at h
  exact ⟨h.1, check_ok h.1, fun e => by rw [e] at h; simp at h⟩
/-! ### What is told of a board that has a truth -/
def wentH (b : Board) (k : Nat) : Int × Int := hullL (fun l => ld l k) (truths b)
theorem out_no {n m : Int} (h : 0 ≤ n ∧ n < m) : idxE n m = 0 := by unfold idxE; rw [if_neg (by rw [out_f.2 ⟨h.1, by omega⟩]; simp)]
theorem went_at {b : Board} (hs : someB b = true) {k : Nat} (hk : k < b.hours.length) : wentP b (k : Int) = (wentH b k, 0) := by
  obtain ⟨h1, h2, h3⟩ := someB_y hs
  unfold wentP wentH
  rw [enterE_4 h1 (out_no (by omega)) h3, if_neg (by simp)]; rfl
def hsum (b : Board) (hold : Int) : Nat → Int × Int
  | 0 => (0, 0)
  | k + 1 => if (hourOf b k).hold = hold then ((hsum b hold k).1 + (wentH b k).1, (hsum b hold k).2 + (wentH b k).2) else hsum b hold k
def hmany (b : Board) (hold : Int) : Nat → Int
  | 0 => 0
  | k + 1 => if (hourOf b k).hold = hold then hmany b hold k + 1 else hmany b hold k
end Go.Rt.Ch
/- Walks of this seat, printed by gen.py over the engine: what each function returns, in whatever world. No conditions but those of each contract. -/
set_option linter.unusedVariables false
set_option linter.unusedSimpArgs false
set_option maxRecDepth 20000
namespace Go.Proofs
open Go.Rt Go.Rt.Ch
open Go.Rt.Ha (firstE firstE_step firstE_stop firstE_end failE nameE felt spanL upto span_mem listL fewest fewTo bit before fewStep drop_lt drop_get drop_next drop_done drop_notin set_take set_zero take_less Lot Bunch feltTo fTo fPart felt_zero felt_step fTo_succ fTo_len fPart_succ fPart_len fPart_all filt_yes filt_no upto_len at_ someOf choicesTo cfind_here cfind_next cfind_on choices_fin)
attribute [local irreducible] WL WC Con Yd At Ats Sl Agree DW

theorem some_y {b : Board} {i : Nat} (hi : i < (felt (bun b)).length) (h : canL b (felt (bun b))[i] = true) : (!(truths b).isEmpty) = true := by
  have : (felt (bun b))[i] ∈ truths b := List.mem_filter.2 ⟨List.getElem_mem hi, h⟩
  cases ht : truths b with
  | nil => rw [ht] at this; cases this
  | cons x y => rfl
theorem some_n {b : Board} {i : Nat} (h : ((felt (bun b)).take i).any (canL b) = false) (hi : (felt (bun b)).length ≤ i) : (!(truths b).isEmpty) = false := by
  rw [List.take_of_length_le hi] at h
  have : truths b = [] := List.filter_eq_nil_iff.2 fun l hl => List.any_eq_false.1 h l hl
  rw [this]; rfl
theorem some_step {b : Board} {i : Nat} (hi : i < (felt (bun b)).length) (h : ((felt (bun b)).take i).any (canL b) = false) (hc : canL b (felt (bun b))[i] = false) : ((felt (bun b)).take (i + 1)).any (canL b) = false := by
  rw [List.take_succ_eq_append_getElem hi, List.any_append, h]; simp [hc]
theorem c88 {w0 w : World} {F : List (Nat × Obj)} (b : Board) (p : AtB) (hm : BIn w0 F b p) (hok : b.Ok) (hs : St w0 w F) :
  Con Try.prog 88 [.agg (b.cells p).toArray] w fun v w' => v = .bool (!(truths b).isEmpty) ∧ St w0 w' F := by
  refine con_of_wc (n := 19) Try.func88 rfl rfl (Nat.le_of_ble_eq_true rfl) ?_
  refine w_seq (fun K2 hK1 => ?_)
  refine w_region ?_
  refine w_box (v := .agg #[.int _ _, .slice _ _ _, .slice _ _ _]) (cs := [_, _, _]) want_none rfl rfl rfl hs (fun b3 w4 hs5 => ?_)
  refine w_p (y_assign (v := _) rfl rfl) rfl ?_
  refine w_nil ?_
  refine q_then (hK1 _ _ ?_)
  refine w_seq (fun K7 hK6 => ?_)
  have hbx := ats_ofK (i := 0) (vs := b.cells p) hs5 rfl rfl
  refine w_region ?_
  refine w_p (y_loadN (vs := [_, _, _]) Try.isAgg25 Try.sizeOf25 hs5 rfl rfl hbx) rfl ?_
  refine w_call want_none Try.call89 rfl rfl rfl rfl (c89 b p hm.cons hok hs5) ?_
  rintro _ w9 ⟨FB, fv, aF, cF, rfl, hslF, helF, hs10⟩
  replace hs10 := (show St _ _ (FB ++ (_ :: F)) from hs10)
  have hfl : (felt (bun b)).length ≤ 256 := by have h := loads_len hok (Nat.le_refl b.hours.length); rw [loads_all] at h; exact h
  refine w_p (y_assign (v := .slice _ _ _) rfl rfl) rfl ?_
  refine w_nil ?_
  refine q_then (hK6 _ _ ?_)
  refine w_seq (fun K12 hK11 => ?_)
  refine w_seq (fun K14 hK13 => ?_)
  refine w_region ?_
  refine w_p (y_assign (v := _) rfl rfl) rfl ?_
  refine w_nil ?_
  refine q_then (hK13 _ _ ?_)
  refine w_block ?_
  refine w_loop [2, 4, 7, 8, 9, 10, 11, 12, 13, 14, 15, 16, 17, 18] [4] (fun kk vs0 w => ∃ (i : Nat), vs0 = [.int .i64 i] ∧ i ≤ (felt (bun b)).length ∧ kk = (felt (bun b)).length - i ∧ ((felt (bun b)).take i).any (canL b) = false ∧ St w0 w (FB ++ ((b3, blk 25 (b.cells p)) :: F))) ((felt (bun b)).length) ?_ ?_
  ·
   exact ⟨0, rfl, by omega, by omega, rfl, hs10⟩
  ·
   intro k vs μ w17 hI K16 hN15
   obtain ⟨i, rfl, hia, rfl, hfa, hs⟩ := hI
   refine w_seq (fun K19 hK18 => ?_)
   refine w_seq (fun K21 hK20 => ?_)
   refine w_region ?_
   refine w_p (y_move (v := .int _ _) rfl rfl) rfl ?_
   refine w_p (y_move (v := .slice _ _ _) rfl rfl) rfl ?_
   refine w_p (y_lenS Try.underlying66 rfl rfl) rfl ?_
   refine w_p (y_lss rfl rfl rfl rfl) rfl ?_
   refine w_nil ?_
   refine q_then (hK20 _ _ ?_)
   refine w_cond rfl rfl (fun h22 => ?_) (fun h22 => ?_)
   ·
    try simp only [zA, zB, zC, zD, zE, zF] at h22
    refine w_skip ?_
    refine q_then (hK18 _ _ ?_)
    refine w_seq (fun K24 hK23 => ?_)
    refine w_block ?_
    refine w_seq (fun K26 hK25 => ?_)
    have hi2 : i < (felt (bun b)).length := by omega
    obtain ⟨bx, ox, bq3, c3, haF, hx0, hsx0, hnx⟩ := el_at hslF helF hi2
    subst haF
    have hx := hx0.top (F := (b3, blk 25 (b.cells p)) :: F)
    have hin := loads_at (List.getElem_mem hi2)
    have h40 : ∀ k, 0 ≤ ld ((felt (bun b))[i]'hi2) k ∧ ld ((felt (bun b))[i]'hi2) k ≤ 40 := fun k => felt_40 hok (List.getElem_mem hi2) k
    refine w_draw [] [(0, 1), (1, 0), (2, 0), (3, 0), (4, 1), (5, 2)] Try_mo (drawOK_of (by kernel_rfl)) hs (fun w27 hs28 => ?_)
    refine d_take rfl want_none rfl hs28 (fun _ hq => (y_loadN (vs := [_, _, _]) Try.isAgg25 Try.sizeOf25 hq.drop rfl rfl hbx)) ?_
    refine d_any rfl want_none rfl (fun _ => (y_move (v := .slice _ _ _) rfl rfl)) ?_
    refine d_any rfl want_none rfl (fun _ => (y_move (v := .int _ _) rfl rfl)) ?_
    refine d_any rfl want_none rfl (fun _ => (y_indexS Try.underlying66 Try.sizeOf39 rfl rfl rfl rfl (i := i) rfl hi2)) ?_
    refine d_take rfl want_none rfl hs28 (fun _ hq => (y_load1 Try.isAgg39 hq rfl rfl hx)) ?_
    refine d_eff rfl ?_
    refine w_call want_none Try.call90 rfl rfl rfl rfl (c90 b p hm.cons.app hok _ _ ((felt (bun b))[i]'hi2) hin.1 h40 hsx0.top hs28) ?_
    rintro _ w30 ⟨rfl, hs31⟩
    refine w_nil ?_
    refine qn ⟨hs31, ?_⟩
    refine d_nil ?_
    refine q_then (hK25 _ _ ?_)
    refine w_cond rfl rfl (fun h32 => ?_) (fun h32 => ?_)
    ·
     try simp only [zA, zB, zC, zD, zE, zF] at h32
     refine w_seq (fun K34 hK33 => ?_)
     refine w_region ?_
     refine w_p (y_assign (v := _) rfl rfl) rfl ?_
     refine w_nil ?_
     refine q_then (hK33 _ _ ?_)
     refine w_ret ?_
     refine q_blk_ret ?_
     refine q_then_ret ?_
     refine q_then_ret ?_
     refine q_blk_ret ?_
     refine q_then_ret ?_
     refine q_ret (l := [.tmp 2]) (vs := [_]) rfl ⟨⟨rfl, show _ = (.bool _ : Value) from rfl⟩, trivial⟩ ?_
     first
       | exact ⟨congrArg Value.bool (some_y hi2 (by assumption)).symm, hs31.drop.tail⟩
       | exact ⟨congrArg Value.bool (some_n hfa (by omega)).symm, hs31.drop.tail⟩
    ·
     try simp only [zA, zB, zC, zD, zE, zF] at h32
     refine w_skip ?_
     refine q_blk_normal ?_
     refine q_then (hK23 _ _ ?_)
     refine w_region ?_
     refine w_p (y_move (v := .int _ _) rfl rfl) rfl ?_
     refine w_p (y_add rfl rfl rfl rfl (by omega) (by omega)) rfl ?_
     refine w_p (y_assign (v := .int _ _) rfl rfl) rfl ?_
     refine w_nil ?_
     refine q_then (hN15 _ _ (Nx.intro ((felt (bun b)).length - (i + 1)) (by omega) (by repeat (first | exact agree_mix | refine agree_upd rfl ?_ | refine agree_updL rfl ?_ _ | refine agree_mixin rfl ?_)) ?_))
     exact ⟨i + 1, rfl, by omega, rfl, some_step hi2 hfa (by assumption), hs31⟩
   ·
    try simp only [zA, zB, zC, zD, zE, zF] at h22
    refine w_exit ?_
    refine q_then_exit ?_
    refine q_then_exit ?_
    refine q_blk_this ?_
    refine q_then (hK11 _ _ ?_)
    refine w_seq (fun K36 hK35 => ?_)
    refine w_region ?_
    refine w_p (y_assign (v := _) rfl rfl) rfl ?_
    refine w_nil ?_
    refine q_then (hK35 _ _ ?_)
    refine w_ret ?_
    refine q_ret (l := [.tmp 2]) (vs := [_]) rfl ⟨⟨rfl, show _ = (.bool _ : Value) from rfl⟩, trivial⟩ ?_
    first
      | exact ⟨congrArg Value.bool (some_y hi2 (by assumption)).symm, hs.drop.tail⟩
      | exact ⟨congrArg Value.bool (some_n hfa (by omega)).symm, hs.drop.tail⟩

theorem c34 {w0 w : World} {F : List (Nat × Obj)} (b : Board) (p : AtB) (hm : BIn w0 F b p)  (hs : St w0 w F) :
  Con Try.prog 34 [.agg (b.cells p).toArray] w fun v w' => v = .bool (decide ((check b).2.2 = 0)) ∧ St w0 w' F := by
  refine con_of_wc (n := 14) Try.func34 rfl rfl (Nat.le_of_ble_eq_true rfl) ?_
  refine w_seq (fun K2 hK1 => ?_)
  refine w_region ?_
  refine w_box (v := .agg #[.int _ _, .slice _ _ _, .slice _ _ _]) (cs := [_, _, _]) want_none rfl rfl rfl hs (fun b3 w4 hs5 => ?_)
  refine w_p (y_assign (v := _) rfl rfl) rfl ?_
  refine w_nil ?_
  refine q_then (hK1 _ _ ?_)
  refine w_seq (fun K7 hK6 => ?_)
  refine w_region ?_
  refine w_p (y_loadN (vs := [_, _, _]) Try.isAgg25 Try.sizeOf25 hs5 rfl rfl (ats_own (i := 0) (vs := [_, _, _]) rfl rfl)) rfl ?_
  refine w_call want_none Try.call17 rfl rfl rfl rfl (c17 b p hm.cons hs5) ?_
  rintro _ w9 ⟨rfl, hs10⟩
  refine w_p (y_move (v := .tuple _) rfl rfl) rfl ?_
  refine w_p (y_extract (v := .int _ _) rfl rfl rfl) rfl ?_
  refine w_p (y_extract (v := .int _ _) rfl rfl rfl) rfl ?_
  refine w_p (y_extract (v := .int _ _) rfl rfl rfl) rfl ?_
  refine w_p (y_assign (v := .int _ _) rfl rfl) rfl ?_
  refine w_p (y_assign (v := .int _ _) rfl rfl) rfl ?_
  refine w_p (y_assign (v := .int _ _) rfl rfl) rfl ?_
  refine w_nil ?_
  refine q_then (hK6 _ _ ?_)
  refine w_seq (fun K12 hK11 => ?_)
  refine w_region ?_
  refine w_p (y_move (v := .int _ _) rfl rfl) rfl ?_
  refine w_p (y_eql rfl rfl rfl rfl) rfl ?_
  refine w_p (y_assign (v := .bool _) rfl rfl) rfl ?_
  refine w_nil ?_
  refine q_then (hK11 _ _ ?_)
  refine w_ret ?_
  refine q_ret (l := [.tmp 2]) (vs := [_]) rfl ⟨⟨rfl, show _ = (.bool _ : Value) from rfl⟩, trivial⟩ ?_
  exact ⟨rfl, hs10.tail⟩

theorem c45 {w0 w : World} {F : List (Nat × Obj)} (b : Board) (p : AtB) (hm : BIn w0 F b p)  (hs : St w0 w F) :
  Con Try.prog 45 [.agg (b.cells p).toArray] w fun v w' => v = .bool (someB b) ∧ St w0 w' F := by
  refine con_of_wc (n := 9) Try.func45 rfl rfl (Nat.le_of_ble_eq_true rfl) ?_
  refine w_seq (fun K2 hK1 => ?_)
  refine w_region ?_
  refine w_box (v := .agg #[.int _ _, .slice _ _ _, .slice _ _ _]) (cs := [_, _, _]) want_none rfl rfl rfl hs (fun b3 w4 hs5 => ?_)
  refine w_p (y_assign (v := _) rfl rfl) rfl ?_
  refine w_nil ?_
  refine q_then (hK1 _ _ ?_)
  refine w_seq (fun K7 hK6 => ?_)
  refine w_region ?_
  refine w_p (y_loadN (vs := [_, _, _]) Try.isAgg25 Try.sizeOf25 hs5 rfl rfl (ats_own (i := 0) (vs := [_, _, _]) rfl rfl)) rfl ?_
  refine w_call want_none Try.call34 rfl rfl rfl rfl (c34 b p hm.cons hs5) ?_
  rintro _ w9 ⟨rfl, hs10⟩
  refine w_p (y_move (v := .bool _) rfl rfl) rfl ?_
  refine w_split (fun h11 => ?_) (fun h11 => ?_)
  ·
   try simp only [zA, zB, zC, zD, zE, zF] at h11
   refine w_y rfl rfl rfl (y_loadN (vs := [_, _, _]) Try.isAgg25 Try.sizeOf25 hs10 rfl rfl (ats_own (i := 0) (vs := [_, _, _]) rfl rfl)) rfl ?_
   refine w_call (want_yes rfl rfl rfl) Try.call88 rfl rfl rfl rfl (c88 b p hm.cons (check_ok (by assumption)) hs10) ?_
   rintro _ w13 ⟨rfl, hs14⟩
   refine w_p (y_pickT (v := .bool _) rfl rfl rfl rfl) rfl ?_
   refine w_p (y_assign (v := .bool _) rfl rfl) rfl ?_
   refine w_nil ?_
   refine q_then (hK6 _ _ ?_)
   refine w_ret ?_
   refine q_ret (l := [.tmp 2]) (vs := [_]) rfl ⟨⟨rfl, show _ = (.bool _ : Value) from rfl⟩, trivial⟩ ?_
   first
     | exact ⟨congrArg Value.bool (by unfold someB; rw [decide_eq_true (by assumption)]; simp), hs14.tail⟩
     | exact ⟨congrArg Value.bool (by unfold someB; rw [decide_eq_false (by assumption)]; simp), hs14.tail⟩
  ·
   try simp only [zA, zB, zC, zD, zE, zF] at h11
   refine w_skipop rfl rfl rfl ?_
   refine w_skipop rfl rfl rfl ?_
   refine w_p (y_pickF (v := _) rfl rfl rfl rfl) rfl ?_
   refine w_p (y_assign (v := .bool _) rfl rfl) rfl ?_
   refine w_nil ?_
   refine q_then (hK6 _ _ ?_)
   refine w_ret ?_
   refine q_ret (l := [.tmp 2]) (vs := [_]) rfl ⟨⟨rfl, show _ = (.bool _ : Value) from rfl⟩, trivial⟩ ?_
   first
     | exact ⟨congrArg Value.bool (by unfold someB; rw [decide_eq_true (by assumption)]; simp), hs10.tail⟩
     | exact ⟨congrArg Value.bool (by unfold someB; rw [decide_eq_false (by assumption)]; simp), hs10.tail⟩

end Go.Proofs
/- Walks of this seat, printed by gen.py over the engine: what each function returns, in whatever world. No conditions but those of each contract. -/
set_option linter.unusedVariables false
set_option linter.unusedSimpArgs false
set_option maxRecDepth 20000
namespace Go.Proofs
open Go.Rt Go.Rt.Ch
open Go.Rt.Ha (firstE firstE_step firstE_stop firstE_end failE nameE felt spanL upto span_mem listL fewest fewTo bit)
attribute [local irreducible] WL WC Con Yd At Ats Sl Agree DW
theorem Try_D_fb1 (x0 : Int) (w : World) : (Instr.buildSlice 39 1 [(0, .int .i64 x0)].toArray).run Try.prog w = .ok (.slice (some ⟨w.heap.size, 0, none⟩) 1 1) (w.alloc (Go.Rt.blk 3 [.int .i64 x0])) := by kernel_rfl
theorem ats_of {w0 w : World} {L : List (Nat × Obj)} {i b : Nat} {t : TypeId} {cs vs : List Value} (hs : St w0 w L) (hi : L[i]? = some (b, blk t cs)) (h : (cs.drop 0).take vs.length = vs) : Ats w0 L b 0 vs := ats_own hi h
theorem c16 {w0 w : World} {F : List (Nat × Obj)} (b : Board) (p : AtB) (hm : BIn w0 F b p)  (hs : St w0 w F) :
  Con Try.prog 16 [.agg (b.cells p).toArray] w fun v w' => v = .tuple #[.int .i64 (check b).1, .int .i64 (check b).2.1, .int .i64 (check b).2.2] ∧ St w0 w' F := by
  refine con_of_wc (n := 45) Try.func16 rfl rfl (Nat.le_of_ble_eq_true rfl) ?_
  have hlh := hm.lh
  have hlc := hm.lc
  refine w_seq (fun K2 hK1 => ?_)
  refine w_region ?_
  refine w_box (v := .agg #[.int _ _, .slice _ _ _, .slice _ _ _]) (cs := [_, _, _]) want_none rfl rfl rfl hs (fun b3 w4 hs5 => ?_)
  refine w_p (y_assign (v := _) rfl rfl) rfl ?_
  refine w_p (y_assign (v := _) rfl rfl) rfl ?_
  refine w_p (y_assign (v := _) rfl rfl) rfl ?_
  refine w_nil ?_
  refine q_then (hK1 _ _ ?_)
  refine w_seq (fun K7 hK6 => ?_)
  refine w_region ?_
  refine w_p (y_fieldAddr (o := 1) (i := 1) Try.underlying25 rfl Try.sizeOf22 rfl rfl rfl) rfl ?_
  refine w_p (y_load1 Try.isAgg22 hs5 rfl rfl (ats_own (i := 0) (vs := [_]) rfl rfl)) rfl ?_
  refine w_p (y_lenS Try.underlying22 rfl rfl) rfl ?_
  refine w_alloc (cs := [_]) want_none Try.zeroValue3 rfl hs5 (fun b8 w9 hs10 => ?_)
  refine w_store (i := 0) (v := .int _ _) (vs := [_]) want_none Try.sizeOf3 rfl rfl rfl rfl rfl (by simp [Value.oneCell']) hs10 rfl (Nat.le_of_ble_eq_true rfl) (fun w11 hs12 => ?_)
  refine w_nil ?_
  refine q_then (hK6 _ _ ?_)
  refine w_seq (fun K14 hK13 => ?_)
  refine w_block ?_
  refine w_seq (fun K16 hK15 => ?_)
  have hbx := ats_of (i := 1) (vs := b.cells p) hs12 rfl rfl
  have hbn := ats_of (i := 0) (vs := [.int .i64 (b.hours.length : Int)]) hs12 rfl rfl
  refine w_region ?_
  refine w_p (y_fieldAddr (o := 0) (i := 0) Try.underlying25 rfl Try.sizeOf3 rfl rfl rfl) rfl ?_
  refine w_p (y_load1 Try.isAgg3 hs12 rfl rfl (show Ats _ _ _ _ [_] from Ats.part hbx 0 1)) rfl ?_
  refine w_bslice (ps := [(0, _)]) (pv := [(0, .int _ _)]) (cs := [_]) want_none rfl rfl (fun w => Try_D_fb1 _ w) hs12 (fun b17 w18 hs19 => ?_)
  refine w_call want_none Try.call51 rfl rfl rfl rfl (c51 _ _ _ [_] _ (by simp) (sl_own (i := 0) (rows := [[_]]) rfl (by simp) rfl) hs19) ?_
  rintro _ w21 ⟨rfl, hs22⟩
  refine w_p (y_assign (v := .bool _) rfl rfl) rfl ?_
  refine w_nil ?_
  refine q_then (hK15 _ _ ?_)
  refine w_cond rfl rfl (fun h23 => ?_) (fun h23 => ?_)
  ·
   try simp only [zA, zB, zC, zD, zE, zF] at h23
   refine w_seq (fun K25 hK24 => ?_)
   refine w_region ?_
   refine w_p (y_assign (v := _) rfl rfl) rfl ?_
   refine w_p (y_assign (v := _) rfl rfl) rfl ?_
   refine w_p (y_assign (v := _) rfl rfl) rfl ?_
   refine w_nil ?_
   refine q_then (hK24 _ _ ?_)
   refine w_ret ?_
   refine q_blk_ret ?_
   refine q_then_ret ?_
   refine q_ret (l := [.tmp 2, .tmp 3, .tmp 4]) (vs := [_, _, _]) rfl ⟨⟨rfl, show _ = (.int _ _ : Value) from rfl⟩, ⟨rfl, show _ = (.int _ _ : Value) from rfl⟩, ⟨rfl, show _ = (.int _ _ : Value) from rfl⟩, trivial⟩ ?_
   try simp only [List.any_cons, List.any_nil, Bool.or_false, Bool.or_eq_false_iff] at h23
   refine ⟨tup3 ?_, hs22.tail.tail.tail⟩; unfold check failE
   try have e1 : ¬ ((4:Int) < (b.hours.length : Int)) := by omega
   try have e2 : ¬ ((2:Int) < (b.ctrs.length : Int)) := by omega
   first
     | (simp [out_nat, h23, e1, e2]; done)
     | (simp [out_nat, h23, e1]; done)
     | (simp [out_nat, h23]; done)
  ·
   try simp only [zA, zB, zC, zD, zE, zF] at h23
   refine w_seq (fun K27 hK26 => ?_)
   refine w_region ?_
   refine w_p (y_load1 Try.isAgg3 hs22.tail rfl rfl hbn) rfl ?_
   refine w_p (y_gtr rfl rfl rfl rfl) rfl ?_
   refine w_p (y_assign (v := .bool _) rfl rfl) rfl ?_
   refine w_nil ?_
   refine q_then (hK26 _ _ ?_)
   refine w_cond rfl rfl (fun h28 => ?_) (fun h28 => ?_)
   ·
    try simp only [zA, zB, zC, zD, zE, zF] at h28
    refine w_seq (fun K30 hK29 => ?_)
    refine w_region ?_
    refine w_p (y_assign (v := _) rfl rfl) rfl ?_
    refine w_p (y_assign (v := _) rfl rfl) rfl ?_
    refine w_p (y_assign (v := _) rfl rfl) rfl ?_
    refine w_nil ?_
    refine q_then (hK29 _ _ ?_)
    refine w_ret ?_
    refine q_blk_ret ?_
    refine q_then_ret ?_
    refine q_ret (l := [.tmp 2, .tmp 3, .tmp 4]) (vs := [_, _, _]) rfl ⟨⟨rfl, show _ = (.int _ _ : Value) from rfl⟩, ⟨rfl, show _ = (.int _ _ : Value) from rfl⟩, ⟨rfl, show _ = (.int _ _ : Value) from rfl⟩, trivial⟩ ?_
    try simp only [List.any_cons, List.any_nil, Bool.or_false, Bool.or_eq_false_iff] at h23 h28
    refine ⟨tup3 ?_, hs22.tail.tail.tail⟩; unfold check failE
    try have e1 : ¬ ((4:Int) < (b.hours.length : Int)) := by omega
    try have e2 : ¬ ((2:Int) < (b.ctrs.length : Int)) := by omega
    first
      | (simp [out_nat, h23, h28, e1, e2]; done)
      | (simp [out_nat, h23, h28, e1]; done)
      | (simp [out_nat, h23, h28]; done)
   ·
    try simp only [zA, zB, zC, zD, zE, zF] at h28
    refine w_skip ?_
    refine q_blk_normal ?_
    refine q_then (hK13 _ _ ?_)
    refine w_seq (fun K32 hK31 => ?_)
    have hho : 1 ≤ b.holds ∧ b.holds ≤ 3 := by
      have hq : [b.holds].any (out 1 3) = false := by assumption
      simp [out] at hq; omega
    refine w_region ?_
    refine w_p (y_fieldAddr (o := 1) (i := 1) Try.underlying25 rfl Try.sizeOf22 rfl rfl rfl) rfl ?_
    refine w_p (y_load1 Try.isAgg22 hs22.tail rfl rfl (show Ats _ _ _ _ [_] from Ats.part hbx 1 1)) rfl ?_
    refine w_p (y_makeFunc (fv := []) (cv := [_]) rfl rfl rfl rfl) rfl ?_
    refine w_call want_none Try.call52 rfl rfl rfl rfl (c52 _ _ b.hours hlh hm.h.cons.cons.cons (.func (.func 53) #[] #[.pointer (some ⟨b3, 0, none⟩)]) (hourE b.holds) (fun i hi X w hs => fcon_fn Try.call53 (c53 b p hho i b.hours[i] _ b3 (Ats.app hbx.cons) hs)) hs22) ?_
    rintro _ w34 ⟨rfl, hs35⟩
    refine w_p (y_move (v := .tuple _) rfl rfl) rfl ?_
    refine w_p (y_extract (v := .int _ _) rfl rfl rfl) rfl ?_
    refine w_p (y_extract (v := .int _ _) rfl rfl rfl) rfl ?_
    refine w_p (y_assign (v := .int _ _) rfl rfl) rfl ?_
    refine w_p (y_assign (v := .int _ _) rfl rfl) rfl ?_
    refine w_nil ?_
    refine q_then (hK31 _ _ ?_)
    refine w_seq (fun K37 hK36 => ?_)
    refine w_block ?_
    refine w_seq (fun K39 hK38 => ?_)
    refine w_region ?_
    refine w_p (y_move (v := .int _ _) rfl rfl) rfl ?_
    refine w_p (y_neq rfl rfl rfl rfl) rfl ?_
    refine w_p (y_assign (v := .bool _) rfl rfl) rfl ?_
    refine w_nil ?_
    refine q_then (hK38 _ _ ?_)
    refine w_cond rfl rfl (fun h40 => ?_) (fun h40 => ?_)
    ·
     try simp only [zA, zB, zC, zD, zE, zF] at h40
     refine w_seq (fun K42 hK41 => ?_)
     refine w_region ?_
     refine w_p (y_move (v := .int _ _) rfl rfl) rfl ?_
     refine w_p (y_move (v := .int _ _) rfl rfl) rfl ?_
     refine w_p (y_assign (v := _) rfl rfl) rfl ?_
     refine w_p (y_assign (v := .int _ _) rfl rfl) rfl ?_
     refine w_p (y_assign (v := .int _ _) rfl rfl) rfl ?_
     refine w_nil ?_
     refine q_then (hK41 _ _ ?_)
     refine w_ret ?_
     refine q_blk_ret ?_
     refine q_then_ret ?_
     refine q_ret (l := [.tmp 2, .tmp 3, .tmp 4]) (vs := [_, _, _]) rfl ⟨⟨rfl, show _ = (.int _ _ : Value) from rfl⟩, ⟨rfl, show _ = (.int _ _ : Value) from rfl⟩, ⟨rfl, show _ = (.int _ _ : Value) from rfl⟩, trivial⟩ ?_
     try simp only [List.any_cons, List.any_nil, Bool.or_false, Bool.or_eq_false_iff] at h23 h28 h40
     refine ⟨tup3 ?_, hs35.tail.tail.tail⟩; unfold check failE
     try have e1 : ¬ ((4:Int) < (b.hours.length : Int)) := by omega
     try have e2 : ¬ ((2:Int) < (b.ctrs.length : Int)) := by omega
     first
       | (simp [out_nat, h23, h28, h40, e1, e2]; done)
       | (simp [out_nat, h23, h28, h40, e1]; done)
       | (simp [out_nat, h23, h28, h40]; done)
    ·
     try simp only [zA, zB, zC, zD, zE, zF] at h40
     refine w_seq (fun K44 hK43 => ?_)
     refine w_region ?_
     refine w_p (y_fieldAddr (o := 2) (i := 2) Try.underlying25 rfl Try.sizeOf23 rfl rfl rfl) rfl ?_
     refine w_p (y_load1 Try.isAgg23 hs35.tail rfl rfl (show Ats _ _ _ _ [_] from Ats.part hbx 2 1)) rfl ?_
     refine w_p (y_lenS Try.underlying23 rfl rfl) rfl ?_
     refine w_p (y_gtr rfl rfl rfl rfl) rfl ?_
     refine w_p (y_assign (v := .bool _) rfl rfl) rfl ?_
     refine w_nil ?_
     refine q_then (hK43 _ _ ?_)
     refine w_cond rfl rfl (fun h45 => ?_) (fun h45 => ?_)
     ·
      try simp only [zA, zB, zC, zD, zE, zF] at h45
      refine w_seq (fun K47 hK46 => ?_)
      refine w_region ?_
      refine w_p (y_assign (v := _) rfl rfl) rfl ?_
      refine w_p (y_assign (v := _) rfl rfl) rfl ?_
      refine w_p (y_assign (v := _) rfl rfl) rfl ?_
      refine w_nil ?_
      refine q_then (hK46 _ _ ?_)
      refine w_ret ?_
      refine q_blk_ret ?_
      refine q_then_ret ?_
      refine q_ret (l := [.tmp 2, .tmp 3, .tmp 4]) (vs := [_, _, _]) rfl ⟨⟨rfl, show _ = (.int _ _ : Value) from rfl⟩, ⟨rfl, show _ = (.int _ _ : Value) from rfl⟩, ⟨rfl, show _ = (.int _ _ : Value) from rfl⟩, trivial⟩ ?_
      try simp only [List.any_cons, List.any_nil, Bool.or_false, Bool.or_eq_false_iff] at h23 h28 h40 h45
      refine ⟨tup3 ?_, hs35.tail.tail.tail⟩; unfold check failE
      try have e1 : ¬ ((4:Int) < (b.hours.length : Int)) := by omega
      try have e2 : ¬ ((2:Int) < (b.ctrs.length : Int)) := by omega
      first
        | (simp [out_nat, h23, h28, h40, h45, e1, e2]; done)
        | (simp [out_nat, h23, h28, h40, h45, e1]; done)
        | (simp [out_nat, h23, h28, h40, h45]; done)
     ·
      try simp only [zA, zB, zC, zD, zE, zF] at h45
      refine w_skip ?_
      refine q_blk_normal ?_
      refine q_then (hK36 _ _ ?_)
      refine w_seq (fun K49 hK48 => ?_)
      refine w_region ?_
      refine w_p (y_fieldAddr (o := 2) (i := 2) Try.underlying25 rfl Try.sizeOf23 rfl rfl rfl) rfl ?_
      refine w_p (y_load1 Try.isAgg23 hs35.tail rfl rfl (show Ats _ _ _ _ [_] from Ats.part hbx 2 1)) rfl ?_
      refine w_p (y_makeFunc (fv := []) (cv := [_, _]) rfl rfl rfl rfl) rfl ?_
      refine w_call want_none Try.call54 rfl rfl rfl rfl (c54 _ _ b.ctrs p.pc hlc hm.c.cons.cons.cons (.func (.func 55) #[] #[.pointer (some ⟨b3, 0, none⟩), .pointer (some ⟨b8, 0, none⟩)]) (ctrE b.hours.length) (fun i hi X w hs => fcon_fn Try.call55 (c55 b p (BIn.app hm.cons.cons.cons) i hi b3 b8 (Ats.app hbx.cons) (Ats.app hbn.cons) hs)) hs35) ?_
      rintro _ w51 ⟨rfl, hs52⟩
      refine w_p (y_move (v := .tuple _) rfl rfl) rfl ?_
      refine w_p (y_extract (v := .int _ _) rfl rfl rfl) rfl ?_
      refine w_p (y_extract (v := .int _ _) rfl rfl rfl) rfl ?_
      refine w_p (y_assign (v := .int _ _) rfl rfl) rfl ?_
      refine w_p (y_assign (v := .int _ _) rfl rfl) rfl ?_
      refine w_nil ?_
      refine q_then (hK48 _ _ ?_)
      refine w_seq (fun K54 hK53 => ?_)
      refine w_seq (fun K56 hK55 => ?_)
      refine w_region ?_
      refine w_p (y_move (v := .int _ _) rfl rfl) rfl ?_
      refine w_p (y_neq rfl rfl rfl rfl) rfl ?_
      refine w_nil ?_
      refine q_then (hK55 _ _ ?_)
      refine w_cond rfl rfl (fun h57 => ?_) (fun h57 => ?_)
      ·
       try simp only [zA, zB, zC, zD, zE, zF] at h57
       refine w_seq (fun K59 hK58 => ?_)
       refine w_region ?_
       refine w_p (y_move (v := .int _ _) rfl rfl) rfl ?_
       refine w_p (y_move (v := .int _ _) rfl rfl) rfl ?_
       refine w_p (y_assign (v := _) rfl rfl) rfl ?_
       refine w_p (y_assign (v := .int _ _) rfl rfl) rfl ?_
       refine w_p (y_assign (v := .int _ _) rfl rfl) rfl ?_
       refine w_nil ?_
       refine q_then (hK58 _ _ ?_)
       refine w_ret ?_
       refine q_then_ret ?_
       refine q_ret (l := [.tmp 2, .tmp 3, .tmp 4]) (vs := [_, _, _]) rfl ⟨⟨rfl, show _ = (.int _ _ : Value) from rfl⟩, ⟨rfl, show _ = (.int _ _ : Value) from rfl⟩, ⟨rfl, show _ = (.int _ _ : Value) from rfl⟩, trivial⟩ ?_
       try simp only [List.any_cons, List.any_nil, Bool.or_false, Bool.or_eq_false_iff] at h23 h28 h40 h45 h57
       refine ⟨tup3 ?_, hs52.tail.tail.tail⟩; unfold check failE
       try have e1 : ¬ ((4:Int) < (b.hours.length : Int)) := by omega
       try have e2 : ¬ ((2:Int) < (b.ctrs.length : Int)) := by omega
       first
         | (simp [out_nat, h23, h28, h40, h45, h57, e1, e2]; done)
         | (simp [out_nat, h23, h28, h40, h45, h57, e1]; done)
         | (simp [out_nat, h23, h28, h40, h45, h57]; done)
      ·
       try simp only [zA, zB, zC, zD, zE, zF] at h57
       refine w_skip ?_
       refine q_then (hK53 _ _ ?_)
       refine w_seq (fun K61 hK60 => ?_)
       refine w_region ?_
       refine w_p (y_assign (v := _) rfl rfl) rfl ?_
       refine w_p (y_assign (v := _) rfl rfl) rfl ?_
       refine w_p (y_assign (v := _) rfl rfl) rfl ?_
       refine w_nil ?_
       refine q_then (hK60 _ _ ?_)
       refine w_ret ?_
       refine q_ret (l := [.tmp 2, .tmp 3, .tmp 4]) (vs := [_, _, _]) rfl ⟨⟨rfl, show _ = (.int _ _ : Value) from rfl⟩, ⟨rfl, show _ = (.int _ _ : Value) from rfl⟩, ⟨rfl, show _ = (.int _ _ : Value) from rfl⟩, trivial⟩ ?_
       try simp only [List.any_cons, List.any_nil, Bool.or_false, Bool.or_eq_false_iff] at h23 h28 h40 h45 h57
       refine ⟨tup3 ?_, hs52.tail.tail.tail⟩; unfold check failE
       try have e1 : ¬ ((4:Int) < (b.hours.length : Int)) := by omega
       try have e2 : ¬ ((2:Int) < (b.ctrs.length : Int)) := by omega
       first
         | (simp [out_nat, h23, h28, h40, h45, h57, e1, e2]; done)
         | (simp [out_nat, h23, h28, h40, h45, h57, e1]; done)
         | (simp [out_nat, h23, h28, h40, h45, h57]; done)

end Go.Proofs
