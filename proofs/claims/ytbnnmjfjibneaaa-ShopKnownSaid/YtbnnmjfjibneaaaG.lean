/- Walks of this seat, printed by gen.py over the engine: what each function returns, in whatever world. No conditions but those of each contract. -/
import Derived.Test.YtbnnmjfjibneaaaF
set_option linter.unusedVariables false
set_option linter.unusedSimpArgs false
set_option maxRecDepth 20000
namespace Go.Proofs
open Go.Rt Go.Rt.Sh
attribute [local irreducible] WL WC Con Yd At Ats Sl Agree DW

theorem c70 {w0 w : World} {X M F : List (Nat × Obj)} (m : Market) (p : At3) (mb mm : Nat) (hk : MK w0 F m p mb mm) (x : List Int) (hx : Small x) (sub : Nat) (hM : Memo m mm M) (hs : St w0 w (X ++ (M ++ F))) :
  Con Try.prog 70 [.pointer (some ⟨mb, 0, none⟩), ia x, .int .i64 sub] w fun v w' => ∃ B a c M', v = .tuple #[.slice a (worst m x sub).1.length c, .int .i64 (worst m x sub).2] ∧ Sl w0 B a 1 ((worst m x sub).1.map fun x => [Value.int .i64 x]) ∧ Memo m mm M' ∧ St w0 w' (B ++ (X ++ (M' ++ F))) := by
  refine con_of_wc (n := 52) Try.func70 rfl rfl (Nat.le_of_ble_eq_true rfl) ?_
  have hb := hk.b
  have hlr := hk.ok.lr
  have hls := hk.ok.ls
  have hlt := hk.ok.lt
  refine w_seq (fun K2 hK1 => ?_)
  refine w_region ?_
  refine w_boxI (l := _) want_none rfl rfl rfl hs (fun b3 w4 hs5 => ?_)
  refine w_pure want_none (y_assign (v := _) rfl rfl) rfl ?_
  refine w_pure want_none (y_assign (v := _) rfl rfl) rfl ?_
  refine w_nil ?_
  refine q_then (hK1 _ _ ?_)
  refine w_seq (fun K7 hK6 => ?_)
  refine w_seq (fun K9 hK8 => ?_)
  refine w_region ?_
  refine w_pure want_none (y_move (v := .pointer _) rfl rfl) rfl ?_
  refine w_pure want_none (y_loadI (i := 0) Try.isAgg93 Try.sizeOf93 (by first | omega | rfl | (simp only [hx.1, lacksV_len, List.length_map, List.length_set, List.length_append, List.length_take, List.length_drop, List.length_replicate, List.length_cons, List.length_nil] <;> omega)) hs5 rfl rfl rfl) rfl ?_
  refine w_call want_none Try.call89 rfl rfl rfl rfl (lacks_con (X := (_ :: X)) m p mb mm hk x hx hM hs5) ?_
  rintro _ w11 ⟨rfl, M13, hM13, hs12⟩
  replace hs12 := (show St _ _ (_ :: X ++ (M13 ++ (F))) from hs12)
  refine w_pure want_none (y_move (v := _) rfl rfl) rfl ?_
  refine w_nil ?_
  refine q_then (hK8 _ _ ?_)
  refine w_block ?_
  refine w_loop [6, 7, 8, 9, 10, 14, 15, 16, 17, 18, 19, 20, 21, 22, 23, 24, 25, 26, 27, 28, 29, 30, 31, 32, 33, 34, 35, 36, 37, 38, 39, 40, 41, 42, 43, 44, 45, 46, 47, 48, 49] [6, 7, 14] (fun k vs w => ∃ (b : Nat) (av : Option Addr) (cv : Nat) (B : List (Nat × Obj)), vs = [.slice av (worstTo m.shops.length sub (lacksV m x) b).1.length cv, .int .i64 (worstTo m.shops.length sub (lacksV m x) b).2, .int .i64 b] ∧ b ≤ 16 ∧ k = 16 - b ∧ Sl w0 B av 1 ((worstTo m.shops.length sub (lacksV m x) b).1.map fun x => [Value.int .i64 x]) ∧ St w0 w (B ++ ((b3, blk 93 (iv x)) :: (X ++ (M13 ++ F))))) (16) ?_ ?_
  ·
    exact ⟨0, _, _, [], rfl, by omega, by omega, Sl.nil _ _, hs12⟩
  ·
    intro k vs μ w17 hI K16 hN15
    obtain ⟨b, av, cv, B, rfl, hba, rfl, hsl, hs⟩ := hI
    refine w_seq (fun K19 hK18 => ?_)
    refine w_region ?_
    refine w_pure want_none (y_lss rfl rfl rfl rfl) rfl ?_
    refine w_nil ?_
    refine q_then (hK18 _ _ ?_)
    refine w_seq (fun K21 hK20 => ?_)
    refine w_cond rfl rfl (fun h22 => ?_) (fun h22 => ?_)
    ·
      try simp only [Bool.not_eq_true', Bool.not_eq_false', decide_eq_true_eq, decide_eq_false_iff_not, Int.not_lt, Int.not_le] at h22
      refine w_skip ?_
      refine q_then (hK20 _ _ ?_)
      refine w_seq (fun K24 hK23 => ?_)
      refine w_block ?_
      refine w_seq (fun K26 hK25 => ?_)
      have hb16 : b < 16 := by omega
      have hlb := lackB_bound hk.ok hx b
      rw [← lacksV_get hb16] at hlb
      refine w_region ?_
      refine w_pure want_none (y_move (v := .int _ _) rfl rfl) rfl ?_
      refine w_pure want_none (y_indexV (i := b) Try.underlying123 Try.underlying3 Try.sizeOf3 rfl rfl rfl rfl rfl rfl (by omega) (by first | omega | rfl | (simp only [hx.1, lacksV_len, List.length_map, List.length_set, List.length_append, List.length_take, List.length_drop, List.length_replicate, List.length_cons, List.length_nil] <;> omega))) rfl ?_
      refine w_pure want_none (y_assign (v := .int _ _) rfl rfl) rfl ?_
      refine w_pure want_none (y_assign (v := .int _ _) rfl rfl) rfl ?_
      refine w_nil ?_
      refine q_then (hK25 _ _ ?_)
      refine w_seq (fun K28 hK27 => ?_)
      refine w_seq (fun K30 hK29 => ?_)
      refine w_region ?_
      refine w_pure want_none (y_move (v := .int _ _) rfl rfl) rfl ?_
      refine w_pure want_none (y_move (v := .int _ _) rfl rfl) rfl ?_
      refine w_pure want_none (y_andNot (x := b) (y := sub) rfl rfl rfl rfl (by first | rfl | omega) (by first | rfl | omega) (by first | omega | exact shr_lt (by omega))) rfl ?_
      refine w_pure want_none (y_neq rfl rfl rfl rfl) rfl ?_
      refine w_pure want_none (y_move (v := .bool _) rfl rfl) rfl ?_
      refine w_split (fun h31 => ?_) (fun h31 => ?_)
      ·
        try simp only [Bool.not_eq_true', Bool.not_eq_false', decide_eq_true_eq, decide_eq_false_iff_not, Int.not_lt, Int.not_le] at h31
        refine w_skipop rfl rfl rfl ?_
        refine w_skipop rfl rfl rfl ?_
        refine w_pure want_none (y_pickT (v := _) rfl rfl rfl rfl) rfl ?_
        refine w_pure want_none (y_move (v := .bool _) rfl rfl) rfl ?_
        refine w_skipop rfl rfl rfl ?_
        refine w_skipop rfl rfl rfl ?_
        refine w_skipop rfl rfl rfl ?_
        refine w_pure want_none (y_pickT (v := _) rfl rfl rfl rfl) rfl ?_
        refine w_nil ?_
        refine q_then (hK29 _ _ ?_)
        refine w_condT rfl rfl ?_
        refine w_exit ?_
        refine q_then_exit ?_
        refine q_blk_this ?_
        refine q_then (hK23 _ _ ?_)
        refine w_region ?_
        refine w_pure want_none (y_add rfl rfl rfl rfl (by omega) (by omega)) rfl ?_
        refine w_pure want_none (y_move (v := .int _ _) rfl rfl) rfl ?_
        refine w_nil ?_
        refine q_then (hN15 _ _ (Nx.intro (16 - (b + 1)) (by omega) (by repeat (first | exact agree_mix | refine agree_upd rfl ?_ | refine agree_updL rfl ?_ _ | refine agree_mixin rfl ?_)) ?_))
        first
          | exact ⟨b + 1, av, cv, B, by rw [← worstTo_pass (by first | exact .inl (by omega) | exact .inr (.inl (by omega)) | exact .inr (.inr (by omega)))]; rfl, by omega, rfl, by rw [← worstTo_pass (by first | exact .inl (by omega) | exact .inr (.inl (by omega)) | exact .inr (.inr (by omega)))]; exact hsl, hs⟩
          | (have hq := worstTo_take (n := m.shops.length) (sub := sub) (lk := lacksV m x) (k := b) (by omega) (by omega) (by omega) (by first | exact .inl (by omega) | exact .inr (by assumption))
             exact ⟨b + 1, al1, cl1, B1 ++ B, by rw [← hq]; rfl, by omega, rfl, by rw [← hq]; exact hsl1.top, by rw [List.append_assoc]; exact hs⟩)
          | (have hq := worstTo_leave (n := m.shops.length) (sub := sub) (lk := lacksV m x) (k := b) (by omega) (by omega) (by omega) (by omega) (by assumption)
             exact ⟨b + 1, av, cv, B1 ++ B, by rw [← hq]; rfl, by omega, rfl, by rw [← hq]; exact hsl.app, by rw [List.append_assoc]; exact hs⟩)
      ·
        try simp only [Bool.not_eq_true', Bool.not_eq_false', decide_eq_true_eq, decide_eq_false_iff_not, Int.not_lt, Int.not_le] at h31
        refine w_pure (want_yes rfl rfl rfl) (y_move (v := .int _ _) rfl rfl) rfl ?_
        refine w_pure (want_yes rfl rfl rfl) (y_lss rfl rfl rfl rfl) rfl ?_
        refine w_pure want_none (y_pickF (v := .bool _) rfl rfl rfl rfl) rfl ?_
        refine w_pure want_none (y_move (v := .bool _) rfl rfl) rfl ?_
        refine w_split (fun h32 => ?_) (fun h32 => ?_)
        ·
          try simp only [Bool.not_eq_true', Bool.not_eq_false', decide_eq_true_eq, decide_eq_false_iff_not, Int.not_lt, Int.not_le] at h32
          refine w_skipop rfl rfl rfl ?_
          refine w_skipop rfl rfl rfl ?_
          refine w_skipop rfl rfl rfl ?_
          refine w_pure want_none (y_pickT (v := _) rfl rfl rfl rfl) rfl ?_
          refine w_nil ?_
          refine q_then (hK29 _ _ ?_)
          refine w_condT rfl rfl ?_
          refine w_exit ?_
          refine q_then_exit ?_
          refine q_blk_this ?_
          refine q_then (hK23 _ _ ?_)
          refine w_region ?_
          refine w_pure want_none (y_add rfl rfl rfl rfl (by omega) (by omega)) rfl ?_
          refine w_pure want_none (y_move (v := .int _ _) rfl rfl) rfl ?_
          refine w_nil ?_
          refine q_then (hN15 _ _ (Nx.intro (16 - (b + 1)) (by omega) (by repeat (first | exact agree_mix | refine agree_upd rfl ?_ | refine agree_updL rfl ?_ _ | refine agree_mixin rfl ?_)) ?_))
          first
            | exact ⟨b + 1, av, cv, B, by rw [← worstTo_pass (by first | exact .inl (by omega) | exact .inr (.inl (by omega)) | exact .inr (.inr (by omega)))]; rfl, by omega, rfl, by rw [← worstTo_pass (by first | exact .inl (by omega) | exact .inr (.inl (by omega)) | exact .inr (.inr (by omega)))]; exact hsl, hs⟩
            | (have hq := worstTo_take (n := m.shops.length) (sub := sub) (lk := lacksV m x) (k := b) (by omega) (by omega) (by omega) (by first | exact .inl (by omega) | exact .inr (by assumption))
               exact ⟨b + 1, al1, cl1, B1 ++ B, by rw [← hq]; rfl, by omega, rfl, by rw [← hq]; exact hsl1.top, by rw [List.append_assoc]; exact hs⟩)
            | (have hq := worstTo_leave (n := m.shops.length) (sub := sub) (lk := lacksV m x) (k := b) (by omega) (by omega) (by omega) (by omega) (by assumption)
               exact ⟨b + 1, av, cv, B1 ++ B, by rw [← hq]; rfl, by omega, rfl, by rw [← hq]; exact hsl.app, by rw [List.append_assoc]; exact hs⟩)
        ·
          try simp only [Bool.not_eq_true', Bool.not_eq_false', decide_eq_true_eq, decide_eq_false_iff_not, Int.not_lt, Int.not_le] at h32
          refine w_pure (want_yes rfl rfl rfl) (y_move (v := .int _ _) rfl rfl) rfl ?_
          refine w_pure (want_yes rfl rfl rfl) (y_move (v := .int _ _) rfl rfl) rfl ?_
          refine w_pure (want_yes rfl rfl rfl) (y_lss rfl rfl rfl rfl) rfl ?_
          refine w_pure want_none (y_pickF (v := .bool _) rfl rfl rfl rfl) rfl ?_
          refine w_nil ?_
          refine q_then (hK29 _ _ ?_)
          refine w_cond rfl rfl (fun h33 => ?_) (fun h33 => ?_)
          ·
            try simp only [Bool.not_eq_true', Bool.not_eq_false', decide_eq_true_eq, decide_eq_false_iff_not, Int.not_lt, Int.not_le] at h33
            refine w_exit ?_
            refine q_then_exit ?_
            refine q_blk_this ?_
            refine q_then (hK23 _ _ ?_)
            refine w_region ?_
            refine w_pure want_none (y_add rfl rfl rfl rfl (by omega) (by omega)) rfl ?_
            refine w_pure want_none (y_move (v := .int _ _) rfl rfl) rfl ?_
            refine w_nil ?_
            refine q_then (hN15 _ _ (Nx.intro (16 - (b + 1)) (by omega) (by repeat (first | exact agree_mix | refine agree_upd rfl ?_ | refine agree_updL rfl ?_ _ | refine agree_mixin rfl ?_)) ?_))
            first
              | exact ⟨b + 1, av, cv, B, by rw [← worstTo_pass (by first | exact .inl (by omega) | exact .inr (.inl (by omega)) | exact .inr (.inr (by omega)))]; rfl, by omega, rfl, by rw [← worstTo_pass (by first | exact .inl (by omega) | exact .inr (.inl (by omega)) | exact .inr (.inr (by omega)))]; exact hsl, hs⟩
              | (have hq := worstTo_take (n := m.shops.length) (sub := sub) (lk := lacksV m x) (k := b) (by omega) (by omega) (by omega) (by first | exact .inl (by omega) | exact .inr (by assumption))
                 exact ⟨b + 1, al1, cl1, B1 ++ B, by rw [← hq]; rfl, by omega, rfl, by rw [← hq]; exact hsl1.top, by rw [List.append_assoc]; exact hs⟩)
              | (have hq := worstTo_leave (n := m.shops.length) (sub := sub) (lk := lacksV m x) (k := b) (by omega) (by omega) (by omega) (by omega) (by assumption)
                 exact ⟨b + 1, av, cv, B1 ++ B, by rw [← hq]; rfl, by omega, rfl, by rw [← hq]; exact hsl.app, by rw [List.append_assoc]; exact hs⟩)
          ·
            try simp only [Bool.not_eq_true', Bool.not_eq_false', decide_eq_true_eq, decide_eq_false_iff_not, Int.not_lt, Int.not_le] at h33
            refine w_skip ?_
            refine q_then (hK27 _ _ ?_)
            refine w_seq (fun K35 hK34 => ?_)
            have hle1 := listL_le b m.shops.length
            have hle2 := worstTo_len m.shops.length sub (lacksV m x) b
            refine w_region ?_
            refine w_pure want_none (y_move (v := .int _ _) rfl rfl) rfl ?_
            refine w_pure want_none (y_move (v := .pointer _) rfl rfl) rfl ?_
            refine w_pure want_none (y_nilCheck rfl rfl) rfl ?_
            refine w_pure want_none (y_fieldAddr (o := 0) (i := 0) Try.underlying122 rfl Try.sizeOf26 rfl rfl rfl) rfl ?_
            refine w_pure want_none (y_fieldAddr (o := 1) (i := 1) Try.underlying26 rfl Try.sizeOf23 rfl rfl rfl) rfl ?_
            refine w_pure want_none (y_load1 Try.isAgg23 hs.drop.tail.drop.drop rfl rfl (show Ats _ _ _ _ [_] from Ats.part hb 1 1)) rfl ?_
            refine w_pure want_none (y_lenS Try.underlying23 rfl rfl) rfl ?_
            refine w_call want_none Try.call90 rfl rfl rfl rfl (c90 _ _ (by omega) (by omega) hs) ?_
            rintro _ w37 ⟨B1, al1, cl1, rfl, hsl1, hs38⟩
            replace hs38 := (show St _ _ (B1 ++ (B ++ (_ :: X ++ (M13 ++ (F))))) from hs38)
            refine w_pure want_none (y_assign (v := .slice _ _ _) rfl rfl) rfl ?_
            refine w_nil ?_
            refine q_then (hK34 _ _ ?_)
            refine w_seq (fun K40 hK39 => ?_)
            refine w_region ?_
            refine w_pure want_none (y_move (v := .int _ _) rfl rfl) rfl ?_
            refine w_pure want_none (y_move (v := .int _ _) rfl rfl) rfl ?_
            refine w_pure want_none (y_gtr rfl rfl rfl rfl) rfl ?_
            refine w_pure want_none (y_move (v := .bool _) rfl rfl) rfl ?_
            refine w_split (fun h41 => ?_) (fun h41 => ?_)
            ·
              try simp only [Bool.not_eq_true', Bool.not_eq_false', decide_eq_true_eq, decide_eq_false_iff_not, Int.not_lt, Int.not_le] at h41
              refine w_skipop rfl rfl rfl ?_
              refine w_skipop rfl rfl rfl ?_
              refine w_skipop rfl rfl rfl ?_
              refine w_pure want_none (y_pickT (v := _) rfl rfl rfl rfl) rfl ?_
              refine w_nil ?_
              refine q_then (hK39 _ _ ?_)
              refine w_condT rfl rfl ?_
              refine w_region ?_
              refine w_pure want_none (y_move (v := .slice _ _ _) rfl rfl) rfl ?_
              refine w_pure want_none (y_move (v := .int _ _) rfl rfl) rfl ?_
              refine w_pure want_none (y_assign (v := .slice _ _ _) rfl rfl) rfl ?_
              refine w_pure want_none (y_assign (v := .int _ _) rfl rfl) rfl ?_
              refine w_nil ?_
              refine q_blk_normal ?_
              refine q_then (hK23 _ _ ?_)
              refine w_region ?_
              refine w_pure want_none (y_add rfl rfl rfl rfl (by omega) (by omega)) rfl ?_
              refine w_pure want_none (y_move (v := .int _ _) rfl rfl) rfl ?_
              refine w_nil ?_
              refine q_then (hN15 _ _ (Nx.intro (16 - (b + 1)) (by omega) (by repeat (first | exact agree_mix | refine agree_upd rfl ?_ | refine agree_updL rfl ?_ _ | refine agree_mixin rfl ?_)) ?_))
              first
                | exact ⟨b + 1, av, cv, B, by rw [← worstTo_pass (by first | exact .inl (by omega) | exact .inr (.inl (by omega)) | exact .inr (.inr (by omega)))]; rfl, by omega, rfl, by rw [← worstTo_pass (by first | exact .inl (by omega) | exact .inr (.inl (by omega)) | exact .inr (.inr (by omega)))]; exact hsl, hs38⟩
                | (have hq := worstTo_take (n := m.shops.length) (sub := sub) (lk := lacksV m x) (k := b) (by omega) (by omega) (by omega) (by first | exact .inl (by omega) | exact .inr (by assumption))
                   exact ⟨b + 1, al1, cl1, B1 ++ B, by rw [← hq]; rfl, by omega, rfl, by rw [← hq]; exact hsl1.top, by rw [List.append_assoc]; exact hs38⟩)
                | (have hq := worstTo_leave (n := m.shops.length) (sub := sub) (lk := lacksV m x) (k := b) (by omega) (by omega) (by omega) (by omega) (by assumption)
                   exact ⟨b + 1, av, cv, B1 ++ B, by rw [← hq]; rfl, by omega, rfl, by rw [← hq]; exact hsl.app, by rw [List.append_assoc]; exact hs38⟩)
            ·
              try simp only [Bool.not_eq_true', Bool.not_eq_false', decide_eq_true_eq, decide_eq_false_iff_not, Int.not_lt, Int.not_le] at h41
              refine w_pure (want_yes rfl rfl rfl) (y_move (v := .slice _ _ _) rfl rfl) rfl ?_
              refine w_pure (want_yes rfl rfl rfl) (y_move (v := .slice _ _ _) rfl rfl) rfl ?_
              refine w_call (want_yes rfl rfl rfl) Try.call91 rfl rfl rfl rfl (c91 _ _ _ _ _ _ (by omega) (by omega) hsl1.top hsl.top.app hs38) ?_
              rintro _ w43 ⟨rfl, hs44⟩
              refine w_pure want_none (y_pickF (v := .bool _) rfl rfl rfl rfl) rfl ?_
              refine w_nil ?_
              refine q_then (hK39 _ _ ?_)
              refine w_cond rfl rfl (fun h45 => ?_) (fun h45 => ?_)
              ·
                try simp only [Bool.not_eq_true', Bool.not_eq_false', decide_eq_true_eq, decide_eq_false_iff_not, Int.not_lt, Int.not_le] at h45
                refine w_region ?_
                refine w_pure want_none (y_move (v := .slice _ _ _) rfl rfl) rfl ?_
                refine w_pure want_none (y_move (v := .int _ _) rfl rfl) rfl ?_
                refine w_pure want_none (y_assign (v := .slice _ _ _) rfl rfl) rfl ?_
                refine w_pure want_none (y_assign (v := .int _ _) rfl rfl) rfl ?_
                refine w_nil ?_
                refine q_blk_normal ?_
                refine q_then (hK23 _ _ ?_)
                refine w_region ?_
                refine w_pure want_none (y_add rfl rfl rfl rfl (by omega) (by omega)) rfl ?_
                refine w_pure want_none (y_move (v := .int _ _) rfl rfl) rfl ?_
                refine w_nil ?_
                refine q_then (hN15 _ _ (Nx.intro (16 - (b + 1)) (by omega) (by repeat (first | exact agree_mix | refine agree_upd rfl ?_ | refine agree_updL rfl ?_ _ | refine agree_mixin rfl ?_)) ?_))
                first
                  | exact ⟨b + 1, av, cv, B, by rw [← worstTo_pass (by first | exact .inl (by omega) | exact .inr (.inl (by omega)) | exact .inr (.inr (by omega)))]; rfl, by omega, rfl, by rw [← worstTo_pass (by first | exact .inl (by omega) | exact .inr (.inl (by omega)) | exact .inr (.inr (by omega)))]; exact hsl, hs44⟩
                  | (have hq := worstTo_take (n := m.shops.length) (sub := sub) (lk := lacksV m x) (k := b) (by omega) (by omega) (by omega) (by first | exact .inl (by omega) | exact .inr (by assumption))
                     exact ⟨b + 1, al1, cl1, B1 ++ B, by rw [← hq]; rfl, by omega, rfl, by rw [← hq]; exact hsl1.top, by rw [List.append_assoc]; exact hs44⟩)
                  | (have hq := worstTo_leave (n := m.shops.length) (sub := sub) (lk := lacksV m x) (k := b) (by omega) (by omega) (by omega) (by omega) (by assumption)
                     exact ⟨b + 1, av, cv, B1 ++ B, by rw [← hq]; rfl, by omega, rfl, by rw [← hq]; exact hsl.app, by rw [List.append_assoc]; exact hs44⟩)
              ·
                try simp only [Bool.not_eq_true', Bool.not_eq_false', decide_eq_true_eq, decide_eq_false_iff_not, Int.not_lt, Int.not_le] at h45
                refine w_skip ?_
                refine q_blk_normal ?_
                refine q_then (hK23 _ _ ?_)
                refine w_region ?_
                refine w_pure want_none (y_add rfl rfl rfl rfl (by omega) (by omega)) rfl ?_
                refine w_pure want_none (y_move (v := .int _ _) rfl rfl) rfl ?_
                refine w_nil ?_
                refine q_then (hN15 _ _ (Nx.intro (16 - (b + 1)) (by omega) (by repeat (first | exact agree_mix | refine agree_upd rfl ?_ | refine agree_updL rfl ?_ _ | refine agree_mixin rfl ?_)) ?_))
                first
                  | exact ⟨b + 1, av, cv, B, by rw [← worstTo_pass (by first | exact .inl (by omega) | exact .inr (.inl (by omega)) | exact .inr (.inr (by omega)))]; rfl, by omega, rfl, by rw [← worstTo_pass (by first | exact .inl (by omega) | exact .inr (.inl (by omega)) | exact .inr (.inr (by omega)))]; exact hsl, hs44⟩
                  | (have hq := worstTo_take (n := m.shops.length) (sub := sub) (lk := lacksV m x) (k := b) (by omega) (by omega) (by omega) (by first | exact .inl (by omega) | exact .inr (by assumption))
                     exact ⟨b + 1, al1, cl1, B1 ++ B, by rw [← hq]; rfl, by omega, rfl, by rw [← hq]; exact hsl1.top, by rw [List.append_assoc]; exact hs44⟩)
                  | (have hq := worstTo_leave (n := m.shops.length) (sub := sub) (lk := lacksV m x) (k := b) (by omega) (by omega) (by omega) (by omega) (by assumption)
                     exact ⟨b + 1, av, cv, B1 ++ B, by rw [← hq]; rfl, by omega, rfl, by rw [← hq]; exact hsl.app, by rw [List.append_assoc]; exact hs44⟩)
    ·
      try simp only [Bool.not_eq_true', Bool.not_eq_false', decide_eq_true_eq, decide_eq_false_iff_not, Int.not_lt, Int.not_le] at h22
      refine w_exit ?_
      refine q_then_exit ?_
      refine q_then_exit ?_
      refine q_blk_this ?_
      refine q_then (hK6 _ _ ?_)
      refine w_seq (fun K47 hK46 => ?_)
      refine w_region ?_
      refine w_pure want_none (y_move (v := .slice _ _ _) rfl rfl) rfl ?_
      refine w_pure want_none (y_move (v := .int _ _) rfl rfl) rfl ?_
      refine w_pure want_none (y_assign (v := .slice _ _ _) rfl rfl) rfl ?_
      refine w_pure want_none (y_assign (v := .int _ _) rfl rfl) rfl ?_
      refine w_nil ?_
      refine q_then (hK46 _ _ ?_)
      refine w_ret ?_
      refine q_ret (l := [.tmp 6, .tmp 7]) (vs := [_, _]) rfl ⟨⟨rfl, show _ = (.slice _ _ _ : Value) from rfl⟩, ⟨rfl, show _ = (.int _ _ : Value) from rfl⟩, trivial⟩ ?_
      have hb16 : b = 16 := by omega
      subst hb16
      exact ⟨B ++ [_], av, cv, M13, rfl, hsl.top, hM13, by rw [List.append_assoc]; exact hs⟩

theorem c67 {w0 w : World} {X M F : List (Nat × Obj)} (m : Market) (p : At3) (mb mm : Nat) (hk : MK w0 F m p mb mm) (x : List Int) (hx : Small x) (sub : Nat) (hM : Memo m mm M) (hs : St w0 w (X ++ (M ++ F))) :
  Con Try.prog 67 [.pointer (some ⟨mb, 0, none⟩), ia x, .int .i64 sub] w fun v w' => v = .bool (servedS m x sub) ∧ ∃ M', Memo m mm M' ∧ St w0 w' (X ++ (M' ++ F)) := by
  refine con_of_wc (n := 18) Try.func67 rfl rfl (Nat.le_of_ble_eq_true rfl) ?_
  refine w_seq (fun K2 hK1 => ?_)
  refine w_region ?_
  refine w_boxI (l := _) want_none rfl rfl rfl hs (fun b3 w4 hs5 => ?_)
  refine w_pure want_none (y_assign (v := _) rfl rfl) rfl ?_
  refine w_nil ?_
  refine q_then (hK1 _ _ ?_)
  refine w_seq (fun K7 hK6 => ?_)
  refine w_region ?_
  refine w_pure want_none (y_move (v := .pointer _) rfl rfl) rfl ?_
  refine w_pure want_none (y_loadI (i := 0) Try.isAgg93 Try.sizeOf93 (by first | omega | rfl | (simp only [hx.1, List.length_map, List.length_set, List.length_append, List.length_take, List.length_drop, List.length_replicate, List.length_cons, List.length_nil] <;> omega)) hs5 rfl rfl rfl) rfl ?_
  refine w_pure want_none (y_move (v := .int _ _) rfl rfl) rfl ?_
  refine w_call want_none Try.call70 rfl rfl rfl rfl (c70 (X := (_ :: X)) m p mb mm hk x hx sub hM hs5) ?_
  rintro _ w9 ⟨B12, al_B12, cl_B12, M11, rfl, hsl_B12, hM11, hs10⟩
  replace hs10 := (show St _ _ (B12 ++ (_ :: X ++ (M11 ++ (F)))) from hs10)
  refine w_pure want_none (y_move (v := .tuple _) rfl rfl) rfl ?_
  refine w_pure want_none (y_extract (v := .slice _ _ _) rfl rfl rfl) rfl ?_
  refine w_pure want_none (y_extract (v := .int _ _) rfl rfl rfl) rfl ?_
  refine w_pure want_none (y_assign (v := .slice _ _ _) rfl rfl) rfl ?_
  refine w_pure want_none (y_assign (v := .int _ _) rfl rfl) rfl ?_
  refine w_nil ?_
  refine q_then (hK6 _ _ ?_)
  refine w_seq (fun K14 hK13 => ?_)
  refine w_region ?_
  refine w_pure want_none (y_move (v := .int _ _) rfl rfl) rfl ?_
  refine w_pure want_none (y_eql rfl rfl rfl rfl) rfl ?_
  refine w_pure want_none (y_assign (v := .bool _) rfl rfl) rfl ?_
  refine w_nil ?_
  refine q_then (hK13 _ _ ?_)
  refine w_ret ?_
  refine q_ret (l := [.tmp 6]) (vs := [_]) rfl ⟨⟨rfl, show _ = (.bool _ : Value) from rfl⟩, trivial⟩ ?_
  exact ⟨rfl, M11, hM11, hs10.drop.tail⟩

end Go.Proofs
