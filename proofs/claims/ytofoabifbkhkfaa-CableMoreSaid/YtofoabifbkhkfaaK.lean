/- Walks of this seat, printed by gen.py over the engine: what each function returns, in whatever world. No conditions but those of each contract. -/
import Derived.Test.YtofoabifbkhkfaaJ
import Derived.Test.YtofoabifbkhkfaaCSpec6
set_option linter.unusedVariables false
set_option linter.unusedSimpArgs false
set_option maxRecDepth 20000
namespace Go.Proofs
open Go.Rt
attribute [local irreducible] WL WC Con Yd At Ats Sl Agree DW

theorem call_yes {w0 : World} {L B' : List (Nat × Obj)} : True := trivial
def NextC (n below bp bl bla bY bb bn : Nat) (Ls : List (List Int)) (J : Nat → List (Nat × Obj) → Prop) (Js : List (Nat × Obj) → Prop) (yv : Value) (w0 : World) (F : List (Nat × Obj)) (rem : Nat) : Prop :=
  ∀ (d : Nat) (pre cur last : List Int) (i : Nat) (R : List (List Int)) (B X : List (Nat × Obj)) (w : World), d + rem = n → pre.length = d → cur.length = 3 → cur.take d = pre → (∀ j, n ≤ j → cur.getD j 0 = 0) → i ≤ Ls.length →
    Ls.drop i = (seg (dys below) rem pre).map pad ++ R → last.length = 3 → last ∉ Ls.drop i → J i B → St w0 w ((bn, blk 111 [.func (.func 88) #[] #[.pointer (some ⟨bp, 0, none⟩), .pointer (some ⟨bl, 0, none⟩), .pointer (some ⟨bla, 0, none⟩), .pointer (some ⟨bY, 0, none⟩), .pointer (some ⟨bb, 0, none⟩), .pointer (some ⟨bn, 0, none⟩)]]) :: (bla, blk 83 (iv last)) :: (bl, blk 83 (iv cur)) :: (bY, blk 122 [yv]) :: (X ++ (B ++ F))) →
    Con Try.prog 88 [.int .i64 (d : Int), .pointer (some ⟨bp, 0, none⟩), .pointer (some ⟨bl, 0, none⟩), .pointer (some ⟨bla, 0, none⟩), .pointer (some ⟨bY, 0, none⟩), .pointer (some ⟨bb, 0, none⟩), .pointer (some ⟨bn, 0, none⟩)] w fun v w' => ∃ (cur' last' : List Int) (B' : List (Nat × Obj)), cur'.length = 3 ∧ last'.length = 3 ∧ cur'.take d = pre ∧ (∀ j, n ≤ j → cur'.getD j 0 = 0) ∧ St w0 w' ((bn, blk 111 [.func (.func 88) #[] #[.pointer (some ⟨bp, 0, none⟩), .pointer (some ⟨bl, 0, none⟩), .pointer (some ⟨bla, 0, none⟩), .pointer (some ⟨bY, 0, none⟩), .pointer (some ⟨bb, 0, none⟩), .pointer (some ⟨bn, 0, none⟩)]]) :: (bla, blk 83 (iv last')) :: (bl, blk 83 (iv cur')) :: (bY, blk 122 [yv]) :: (X ++ (B' ++ F))) ∧
      ((v = .bool true ∧ ∃ i', i' ≤ Ls.length ∧ Ls.drop i' = R ∧ last' ∉ R ∧ J i' B') ∨ (v = .bool false ∧ Js B'))
theorem seg_more {Ls R : List (List Int)} {below q r i : Nat} {pre : List Int} (hq : q < below + 1) (h : Ls.drop i = (((dys below).drop q).flatMap fun x => seg (dys below) r (pre ++ [x])).map pad ++ R) :
    Ls.drop i = (seg (dys below) r (pre ++ [if q = below then -1 else (q : Int)])).map pad ++ ((((dys below).drop (q + 1)).flatMap fun x => seg (dys below) r (pre ++ [x])).map pad ++ R) := by
  rw [dys_drop hq, List.flatMap_cons, List.map_append, List.append_assoc] at h; exact h
theorem c88 {w0 : World} {F : List (Nat × Obj)} (p : Port) (a : Option Addr) (c m pb : Nat) (hp : Ats w0 F pb 0 [.int .i64 p.hold, .int .i64 p.clo, .int .i64 p.chi, .slice a p.farms.length c, .map (some m)]) (ha : Sl w0 F a 6 (rows p.farms)) (hok : p.Ok) (n below bp bl bla bY bb bn : Nat) (hbe : below ≤ 11) (h1 : Ats w0 F bp 0 [.pointer (some ⟨pb, 0, none⟩)]) (h5 : Ats w0 F bb 0 [.int .i64 (below : Int)]) (hn : n = p.farms.length) (Ls : List (List Int)) (hnd : Ls.Nodup) (J : Nat → List (Nat × Obj) → Prop) (Js : List (Nat × Obj) → Prop) (yv : Value) (hy : ∀ (i : Nat) (x : List Int) (R : List (List Int)) (B X : List (Nat × Obj)) (w : World), Ls.drop i = x :: R → J i B → St w0 w (X ++ (B ++ F)) → FCon Try.prog yv [ia x] w fun v w' => ∃ B', St w0 w' (X ++ (B' ++ F)) ∧ (v = .bool true ∧ J (i + 1) B' ∨ v = .bool false ∧ Js B')) (rem : Nat) (ih : ∀ r, rem = r + 1 → NextC n below bp bl bla bY bb bn Ls J Js yv w0 F r) : NextC n below bp bl bla bY bb bn Ls J Js yv w0 F rem := by
  intro d pre cur last i R B X w hdr hpl hcl hk hz hi hpos hll hlast hJ hs
  have hlen3 := hok.len
  have hcl3 := hcl
  refine con_of_wc (n := 44) Try.func88 rfl rfl (Nat.le_of_ble_eq_true rfl) ?_
  refine w_seq (fun K2 hK1 => ?_)
  refine w_region ?_
  refine w_pure want_none (y_assign (v := _) rfl rfl) rfl ?_
  refine w_nil ?_
  refine q_then (hK1 _ _ ?_)
  refine w_seq (fun K4 hK3 => ?_)
  refine w_seq (fun K6 hK5 => ?_)
  refine w_region ?_
  refine w_pure want_none (y_move (v := .int _ _) rfl rfl) rfl ?_
  refine w_pure want_none (y_load1 Try.isAgg81 hs.tail.tail.tail.tail.drop.drop rfl rfl h1) rfl ?_
  refine w_pure want_none (y_nilCheck rfl rfl) rfl ?_
  refine w_pure want_none (y_fieldAddr (o := 0) (i := 0) Try.underlying119 rfl Try.sizeOf26 rfl rfl rfl) rfl ?_
  refine w_pure want_none (y_fieldAddr (o := 3) (i := 2) Try.underlying26 rfl Try.sizeOf24 rfl rfl rfl) rfl ?_
  refine w_pure want_none (y_load1 Try.isAgg24 hs.tail.tail.tail.tail.drop.drop rfl rfl (show Ats _ _ _ _ [_] from Ats.part hp 3 1)) rfl ?_
  refine w_pure want_none (y_lenS Try.underlying24 rfl rfl) rfl ?_
  refine w_pure want_none (y_eql rfl rfl rfl rfl) rfl ?_
  refine w_nil ?_
  refine q_then (hK5 _ _ ?_)
  refine w_cond rfl rfl (fun h7 => ?_) (fun h7 => ?_)
  ·
    try simp only [Bool.not_eq_true', Bool.not_eq_false', decide_eq_true_eq, decide_eq_false_iff_not, Int.not_lt, Int.not_le] at h7
    refine w_seq (fun K9 hK8 => ?_)
    refine w_seq (fun K11 hK10 => ?_)
    have hr0 : rem = 0 := by omega
    subst hr0
    have hcur := cur_pad (n := d) hcl hpl (by omega) hk (by have hdn : d = n := (by omega); subst hdn; exact hz)
    simp only [seg, List.map_cons, List.map_nil, List.cons_append, List.nil_append, ← hcur] at hpos
    have hne : ¬ cur = last := fun e => hlast (by rw [hpos, ← e]; exact .head _)
    refine w_region ?_
    refine w_pure want_none (y_loadI (i := 2) Try.isAgg83 Try.sizeOf83 (by first | omega | rfl | (simp only [List.length_map, List.length_set, List.length_append, List.length_take, List.length_drop, List.length_replicate, List.length_cons, List.length_nil] <;> omega)) hs rfl rfl rfl) rfl ?_
    refine w_pure want_none (y_loadI (i := 1) Try.isAgg83 Try.sizeOf83 (by first | omega | rfl | (simp only [List.length_map, List.length_set, List.length_append, List.length_take, List.length_drop, List.length_replicate, List.length_cons, List.length_nil] <;> omega)) hs rfl rfl rfl) rfl ?_
    refine w_pure want_none (y_eqFlat (l := _) (m := _) Try.eqGuardType83 Try_flat83 (by first | omega | rfl | (simp only [List.length_map, List.length_set, List.length_append, List.length_take, List.length_drop, List.length_replicate, List.length_cons, List.length_nil] <;> omega)) (by first | omega | rfl | (simp only [List.length_map, List.length_set, List.length_append, List.length_take, List.length_drop, List.length_replicate, List.length_cons, List.length_nil] <;> omega)) rfl rfl rfl rfl rfl rfl) rfl ?_
    refine w_nil ?_
    refine q_then (hK10 _ _ ?_)
    refine w_cond rfl rfl (fun h12 => ?_) (fun h12 => ?_)
    ·
      try simp only [Bool.not_eq_true', Bool.not_eq_false', decide_eq_true_eq, decide_eq_false_iff_not, Int.not_lt, Int.not_le] at h12
      exact absurd (by assumption) hne
    ·
      try simp only [Bool.not_eq_true', Bool.not_eq_false', decide_eq_true_eq, decide_eq_false_iff_not, Int.not_lt, Int.not_le] at h12
      refine w_skip ?_
      refine q_then (hK8 _ _ ?_)
      refine w_seq (fun K14 hK13 => ?_)
      refine w_region ?_
      refine w_pure want_none (y_loadI (i := 2) Try.isAgg83 Try.sizeOf83 (by first | omega | rfl | (simp only [List.length_map, List.length_set, List.length_append, List.length_take, List.length_drop, List.length_replicate, List.length_cons, List.length_nil] <;> omega)) hs rfl rfl rfl) rfl ?_
      refine w_storeI (i := 1) (l := _) want_none Try.sizeOf83 (by first | omega | rfl | (simp only [List.length_map, List.length_set, List.length_append, List.length_take, List.length_drop, List.length_replicate, List.length_cons, List.length_nil] <;> omega)) rfl rfl rfl rfl rfl hs rfl (by first | omega | rfl | (simp only [List.length_map, List.length_set, List.length_append, List.length_take, List.length_drop, List.length_replicate, List.length_cons, List.length_nil] <;> omega)) (fun w15 hs16 => ?_)
      refine w_nil ?_
      refine q_then (hK13 _ _ ?_)
      refine w_seq (fun K18 hK17 => ?_)
      refine w_region ?_
      refine w_pure want_none (y_load1 Try.isAgg122 hs16 rfl rfl (ats_own (i := 3) (vs := [_]) rfl rfl)) rfl ?_
      refine w_pure want_none (y_loadI (i := 2) Try.isAgg83 Try.sizeOf83 (by first | omega | rfl | (simp only [List.length_map, List.length_set, List.length_append, List.length_take, List.length_drop, List.length_replicate, List.length_cons, List.length_nil] <;> omega)) hs16 rfl rfl rfl) rfl ?_
      refine w_callV want_none rfl rfl rfl rfl (hy i _ R B (_ :: _ :: _ :: _ :: X) _ hpos hJ hs16) ?_
      rintro _ w20 ⟨B1, hs21, (⟨rfl, hJ1⟩ | ⟨rfl, hJ1⟩)⟩
      ·
        replace hs21 := (show St _ _ (_ :: _ :: _ :: _ :: X ++ (B1 ++ (F))) from hs21)
        refine w_pure want_none (y_assign (v := .bool _) rfl rfl) rfl ?_
        refine w_nil ?_
        refine q_then (hK17 _ _ ?_)
        refine w_ret ?_
        refine q_then_ret ?_
        refine q_ret (l := [.tmp 8]) (vs := [_]) rfl ⟨⟨rfl, show _ = (.bool _ : Value) from rfl⟩, trivial⟩ ?_
        first
          | exact ⟨cur, cur, B1, hcl, hcl, hk, hz, hs21, .inl ⟨rfl, i + 1, drop_lt hpos, drop_next hpos, drop_notin hnd hpos, hJ1⟩⟩
          | exact ⟨cur, cur, B1, hcl, hcl, hk, hz, hs21, .inr ⟨rfl, hJ1⟩⟩
          | exact ⟨cur2, last2, B2, hc2, hl2, take_less hk2 hpl, hz2, hs21, .inr ⟨rfl, hJ2⟩⟩
          | exact ⟨cur, last, B, hcl, hll, hk, hz, hs21, .inl ⟨rfl, i, hi, (by rw [hpos, show q = below + 1 from by omega, dys_end]; rfl), (by rw [← show Ls.drop i = R from by rw [hpos, show q = below + 1 from by omega, dys_end]; rfl]; exact hlast), hJ⟩⟩
      ·
        replace hs21 := (show St _ _ (_ :: _ :: _ :: _ :: X ++ (B1 ++ (F))) from hs21)
        refine w_pure want_none (y_assign (v := .bool _) rfl rfl) rfl ?_
        refine w_nil ?_
        refine q_then (hK17 _ _ ?_)
        refine w_ret ?_
        refine q_then_ret ?_
        refine q_ret (l := [.tmp 8]) (vs := [_]) rfl ⟨⟨rfl, show _ = (.bool _ : Value) from rfl⟩, trivial⟩ ?_
        first
          | exact ⟨cur, cur, B1, hcl, hcl, hk, hz, hs21, .inl ⟨rfl, i + 1, drop_lt hpos, drop_next hpos, drop_notin hnd hpos, hJ1⟩⟩
          | exact ⟨cur, cur, B1, hcl, hcl, hk, hz, hs21, .inr ⟨rfl, hJ1⟩⟩
          | exact ⟨cur2, last2, B2, hc2, hl2, take_less hk2 hpl, hz2, hs21, .inr ⟨rfl, hJ2⟩⟩
          | exact ⟨cur, last, B, hcl, hll, hk, hz, hs21, .inl ⟨rfl, i, hi, (by rw [hpos, show q = below + 1 from by omega, dys_end]; rfl), (by rw [← show Ls.drop i = R from by rw [hpos, show q = below + 1 from by omega, dys_end]; rfl]; exact hlast), hJ⟩⟩
  ·
    try simp only [Bool.not_eq_true', Bool.not_eq_false', decide_eq_true_eq, decide_eq_false_iff_not, Int.not_lt, Int.not_le] at h7
    refine w_skip ?_
    refine q_then (hK3 _ _ ?_)
    refine w_seq (fun K23 hK22 => ?_)
    refine w_seq (fun K25 hK24 => ?_)
    obtain ⟨r, rfl⟩ : ∃ r, rem = r + 1 := ⟨rem - 1, by omega⟩
    have ih2 := ih r rfl
    simp only [seg] at hpos
    refine w_region ?_
    refine w_pure want_none (y_load1 Try.isAgg3 hs.tail.tail.tail.tail.drop.drop rfl rfl h5) rfl ?_
    refine w_pure want_none (y_add rfl rfl rfl rfl (by omega) (by omega)) rfl ?_
    refine w_pure want_none (y_move (v := _) rfl rfl) rfl ?_
    refine w_nil ?_
    refine q_then (hK24 _ _ ?_)
    refine w_block ?_
    refine w_loop [8, 9, 27, 28, 29, 30, 31, 32, 33, 34, 35, 36, 37, 38, 39, 40, 41, 42, 43] [27] (fun k vs w => ∃ (q : Nat) (cur last : List Int) (i : Nat) (B : List (Nat × Obj)), vs = [.int .i64 q] ∧ q ≤ below + 1 ∧ k = below + 1 - q ∧ cur.length = 3 ∧ last.length = 3 ∧ cur.take d = pre ∧ (∀ j, n ≤ j → cur.getD j 0 = 0) ∧ i ≤ Ls.length ∧ Ls.drop i = (((dys below).drop q).flatMap fun x => seg (dys below) r (pre ++ [x])).map pad ++ R ∧ last ∉ Ls.drop i ∧ J i B ∧ St w0 w ((bn, blk 111 [.func (.func 88) #[] #[.pointer (some ⟨bp, 0, none⟩), .pointer (some ⟨bl, 0, none⟩), .pointer (some ⟨bla, 0, none⟩), .pointer (some ⟨bY, 0, none⟩), .pointer (some ⟨bb, 0, none⟩), .pointer (some ⟨bn, 0, none⟩)]]) :: (bla, blk 83 (iv last)) :: (bl, blk 83 (iv cur)) :: (bY, blk 122 [yv]) :: (X ++ (B ++ F)))) (below + 1) ?_ ?_
    ·
      exact ⟨0, cur, last, i, B, rfl, by omega, by omega, hcl, hll, hk, hz, hi, hpos, hlast, hJ, hs⟩
    ·
      intro k vs μ w28 hI K27 hN26
      clear hk hz hi hpos hll hlast hJ hs hcl hcl3
      obtain ⟨q, cur, last, i, B, rfl, hq, rfl, hcl, hll, hk, hz, hi, hpos, hlast, hJ, hs⟩ := hI
      have hcl3 := hcl
      refine w_seq (fun K30 hK29 => ?_)
      refine w_region ?_
      refine w_pure want_none (y_lss rfl rfl rfl rfl) rfl ?_
      refine w_nil ?_
      refine q_then (hK29 _ _ ?_)
      refine w_seq (fun K32 hK31 => ?_)
      refine w_cond rfl rfl (fun h33 => ?_) (fun h33 => ?_)
      ·
        try simp only [Bool.not_eq_true', Bool.not_eq_false', decide_eq_true_eq, decide_eq_false_iff_not, Int.not_lt, Int.not_le] at h33
        refine w_skip ?_
        refine q_then (hK31 _ _ ?_)
        refine w_seq (fun K35 hK34 => ?_)
        refine w_block ?_
        refine w_seq (fun K37 hK36 => ?_)
        refine w_region ?_
        refine w_pure want_none (y_move (v := .int _ _) rfl rfl) rfl ?_
        refine w_pure want_none (y_assign (v := .int _ _) rfl rfl) rfl ?_
        refine w_nil ?_
        refine q_then (hK36 _ _ ?_)
        refine w_seq (fun K39 hK38 => ?_)
        refine w_seq (fun K41 hK40 => ?_)
        refine w_region ?_
        refine w_pure want_none (y_move (v := .int _ _) rfl rfl) rfl ?_
        refine w_pure want_none (y_move (v := .int _ _) rfl rfl) rfl ?_
        refine w_pure want_none (y_indexA Try.underlying83 Try.sizeOf3 rfl rfl rfl rfl (i := d) rfl (by omega)) rfl ?_
        refine w_storeAtI (i := 2) (j := d) want_none Try.sizeOf3 rfl rfl rfl rfl hs rfl (by first | omega | rfl | (simp only [List.length_map, List.length_set, List.length_append, List.length_take, List.length_drop, List.length_replicate, List.length_cons, List.length_nil] <;> omega)) (fun w42 hs43 => ?_)
        refine w_nil ?_
        refine q_then (hK40 _ _ ?_)
        refine w_seq (fun K45 hK44 => ?_)
        refine w_region ?_
        refine w_pure want_none (y_move (v := .int _ _) rfl rfl) rfl ?_
        refine w_pure want_none (y_load1 Try.isAgg3 hs43.tail.tail.tail.tail.drop.drop rfl rfl h5) rfl ?_
        refine w_pure want_none (y_eql rfl rfl rfl rfl) rfl ?_
        refine w_nil ?_
        refine q_then (hK44 _ _ ?_)
        refine w_cond rfl rfl (fun h46 => ?_) (fun h46 => ?_)
        ·
          try simp only [Bool.not_eq_true', Bool.not_eq_false', decide_eq_true_eq, decide_eq_false_iff_not, Int.not_lt, Int.not_le] at h46
          refine w_region ?_
          refine w_pure want_none (y_move (v := .int _ _) rfl rfl) rfl ?_
          refine w_pure want_none (y_indexA Try.underlying83 Try.sizeOf3 rfl rfl rfl rfl (i := d) rfl (by omega)) rfl ?_
          refine w_storeAtI (i := 2) (j := d) want_none Try.sizeOf3 rfl rfl rfl rfl hs43 rfl (by first | omega | rfl | (simp only [List.length_map, List.length_set, List.length_append, List.length_take, List.length_drop, List.length_replicate, List.length_cons, List.length_nil] <;> omega)) (fun w47 hs48 => ?_)
          refine w_nil ?_
          refine q_then (hK38 _ _ ?_)
          refine w_seq (fun K50 hK49 => ?_)
          refine w_region ?_
          first
            | have hdy : (if q = below then (-1 : Int) else (q : Int)) = -1 := if_pos (by omega)
            | have hdy : (if q = below then (-1 : Int) else (q : Int)) = (q : Int) := if_neg (by omega)
          refine w_pure want_none (y_load1 Try.isAgg111 hs48 rfl rfl (ats_own (i := 0) (vs := [_]) rfl rfl)) rfl ?_
          refine w_pure want_none (y_move (v := .int _ _) rfl rfl) rfl ?_
          refine w_pure want_none (y_add rfl rfl rfl rfl (by omega) (by omega)) rfl ?_
          refine w_call want_none Try.call88 rfl rfl rfl rfl (ih2 (d + 1) (pre ++ [if q = below then -1 else (q : Int)]) _ last i _ B X _ (by omega) (by simp; omega) (by first | omega | (simp only [List.length_set]; omega)) (by rw [hdy]; exact set_take _ (by first | exact hk | exact set_keep _ hk) (by first | omega | (simp only [List.length_set]; omega))) (by first | exact set_zero _ (by omega) (set_zero _ (by omega) hz) | exact set_zero _ (by omega) hz) hi (seg_more (by omega) hpos) hll hlast hJ hs48) ?_
          rintro _ w52 ⟨cur2, last2, B2, hc2, hl2, hk2, hz2, hs53, (⟨rfl, i2, hi2, hp2, hn2, hJ2⟩ | ⟨rfl, hJ2⟩)⟩
          ·
            refine w_pure want_none (y_not rfl rfl) rfl ?_
            refine w_nil ?_
            refine q_then (hK49 _ _ ?_)
            refine w_condF rfl rfl ?_
            refine w_skip ?_
            refine q_blk_normal ?_
            refine q_then (hK34 _ _ ?_)
            refine w_region ?_
            refine w_pure want_none (y_add rfl rfl rfl rfl (by omega) (by omega)) rfl ?_
            refine w_pure want_none (y_move (v := .int _ _) rfl rfl) rfl ?_
            refine w_nil ?_
            refine q_then (hN26 _ _ (Nx.intro (below + 1 - (q + 1)) (by omega) (by repeat (first | exact agree_mix | refine agree_upd rfl ?_ | refine agree_updL rfl ?_ _ | refine agree_mixin rfl ?_)) ?_))
            exact ⟨q + 1, cur2, last2, i2, B2, rfl, by omega, rfl, hc2, hl2, take_less hk2 hpl, hz2, hi2, hp2, (by rw [hp2]; exact hn2), hJ2, hs53⟩
          ·
            refine w_pure want_none (y_not rfl rfl) rfl ?_
            refine w_nil ?_
            refine q_then (hK49 _ _ ?_)
            refine w_condT rfl rfl ?_
            refine w_seq (fun K55 hK54 => ?_)
            refine w_region ?_
            refine w_pure want_none (y_assign (v := _) rfl rfl) rfl ?_
            refine w_nil ?_
            refine q_then (hK54 _ _ ?_)
            refine w_ret ?_
            refine q_blk_ret ?_
            refine q_then_ret ?_
            refine q_then_ret ?_
            refine q_blk_ret ?_
            refine q_then_ret ?_
            refine q_ret (l := [.tmp 8]) (vs := [_]) rfl ⟨⟨rfl, show _ = (.bool _ : Value) from rfl⟩, trivial⟩ ?_
            first
              | exact ⟨cur, cur, B1, hcl, hcl, hk, hz, hs53, .inl ⟨rfl, i + 1, drop_lt hpos, drop_next hpos, drop_notin hnd hpos, hJ1⟩⟩
              | exact ⟨cur, cur, B1, hcl, hcl, hk, hz, hs53, .inr ⟨rfl, hJ1⟩⟩
              | exact ⟨cur2, last2, B2, hc2, hl2, take_less hk2 hpl, hz2, hs53, .inr ⟨rfl, hJ2⟩⟩
              | exact ⟨cur, last, B, hcl, hll, hk, hz, hs53, .inl ⟨rfl, i, hi, (by rw [hpos, show q = below + 1 from by omega, dys_end]; rfl), (by rw [← show Ls.drop i = R from by rw [hpos, show q = below + 1 from by omega, dys_end]; rfl]; exact hlast), hJ⟩⟩
        ·
          try simp only [Bool.not_eq_true', Bool.not_eq_false', decide_eq_true_eq, decide_eq_false_iff_not, Int.not_lt, Int.not_le] at h46
          refine w_skip ?_
          refine q_then (hK38 _ _ ?_)
          refine w_seq (fun K57 hK56 => ?_)
          refine w_region ?_
          first
            | have hdy : (if q = below then (-1 : Int) else (q : Int)) = -1 := if_pos (by omega)
            | have hdy : (if q = below then (-1 : Int) else (q : Int)) = (q : Int) := if_neg (by omega)
          refine w_pure want_none (y_load1 Try.isAgg111 hs43 rfl rfl (ats_own (i := 0) (vs := [_]) rfl rfl)) rfl ?_
          refine w_pure want_none (y_move (v := .int _ _) rfl rfl) rfl ?_
          refine w_pure want_none (y_add rfl rfl rfl rfl (by omega) (by omega)) rfl ?_
          refine w_call want_none Try.call88 rfl rfl rfl rfl (ih2 (d + 1) (pre ++ [if q = below then -1 else (q : Int)]) _ last i _ B X _ (by omega) (by simp; omega) (by first | omega | (simp only [List.length_set]; omega)) (by rw [hdy]; exact set_take _ (by first | exact hk | exact set_keep _ hk) (by first | omega | (simp only [List.length_set]; omega))) (by first | exact set_zero _ (by omega) (set_zero _ (by omega) hz) | exact set_zero _ (by omega) hz) hi (seg_more (by omega) hpos) hll hlast hJ hs43) ?_
          rintro _ w59 ⟨cur2, last2, B2, hc2, hl2, hk2, hz2, hs60, (⟨rfl, i2, hi2, hp2, hn2, hJ2⟩ | ⟨rfl, hJ2⟩)⟩
          ·
            refine w_pure want_none (y_not rfl rfl) rfl ?_
            refine w_nil ?_
            refine q_then (hK56 _ _ ?_)
            refine w_condF rfl rfl ?_
            refine w_skip ?_
            refine q_blk_normal ?_
            refine q_then (hK34 _ _ ?_)
            refine w_region ?_
            refine w_pure want_none (y_add rfl rfl rfl rfl (by omega) (by omega)) rfl ?_
            refine w_pure want_none (y_move (v := .int _ _) rfl rfl) rfl ?_
            refine w_nil ?_
            refine q_then (hN26 _ _ (Nx.intro (below + 1 - (q + 1)) (by omega) (by repeat (first | exact agree_mix | refine agree_upd rfl ?_ | refine agree_updL rfl ?_ _ | refine agree_mixin rfl ?_)) ?_))
            exact ⟨q + 1, cur2, last2, i2, B2, rfl, by omega, rfl, hc2, hl2, take_less hk2 hpl, hz2, hi2, hp2, (by rw [hp2]; exact hn2), hJ2, hs60⟩
          ·
            refine w_pure want_none (y_not rfl rfl) rfl ?_
            refine w_nil ?_
            refine q_then (hK56 _ _ ?_)
            refine w_condT rfl rfl ?_
            refine w_seq (fun K62 hK61 => ?_)
            refine w_region ?_
            refine w_pure want_none (y_assign (v := _) rfl rfl) rfl ?_
            refine w_nil ?_
            refine q_then (hK61 _ _ ?_)
            refine w_ret ?_
            refine q_blk_ret ?_
            refine q_then_ret ?_
            refine q_then_ret ?_
            refine q_blk_ret ?_
            refine q_then_ret ?_
            refine q_ret (l := [.tmp 8]) (vs := [_]) rfl ⟨⟨rfl, show _ = (.bool _ : Value) from rfl⟩, trivial⟩ ?_
            first
              | exact ⟨cur, cur, B1, hcl, hcl, hk, hz, hs60, .inl ⟨rfl, i + 1, drop_lt hpos, drop_next hpos, drop_notin hnd hpos, hJ1⟩⟩
              | exact ⟨cur, cur, B1, hcl, hcl, hk, hz, hs60, .inr ⟨rfl, hJ1⟩⟩
              | exact ⟨cur2, last2, B2, hc2, hl2, take_less hk2 hpl, hz2, hs60, .inr ⟨rfl, hJ2⟩⟩
              | exact ⟨cur, last, B, hcl, hll, hk, hz, hs60, .inl ⟨rfl, i, hi, (by rw [hpos, show q = below + 1 from by omega, dys_end]; rfl), (by rw [← show Ls.drop i = R from by rw [hpos, show q = below + 1 from by omega, dys_end]; rfl]; exact hlast), hJ⟩⟩
      ·
        try simp only [Bool.not_eq_true', Bool.not_eq_false', decide_eq_true_eq, decide_eq_false_iff_not, Int.not_lt, Int.not_le] at h33
        refine w_exit ?_
        refine q_then_exit ?_
        refine q_then_exit ?_
        refine q_blk_this ?_
        refine q_then (hK22 _ _ ?_)
        refine w_seq (fun K64 hK63 => ?_)
        refine w_region ?_
        refine w_pure want_none (y_assign (v := _) rfl rfl) rfl ?_
        refine w_nil ?_
        refine q_then (hK63 _ _ ?_)
        refine w_ret ?_
        refine q_ret (l := [.tmp 8]) (vs := [_]) rfl ⟨⟨rfl, show _ = (.bool _ : Value) from rfl⟩, trivial⟩ ?_
        first
          | exact ⟨cur, cur, B1, hcl, hcl, hk, hz, hs, .inl ⟨rfl, i + 1, drop_lt hpos, drop_next hpos, drop_notin hnd hpos, hJ1⟩⟩
          | exact ⟨cur, cur, B1, hcl, hcl, hk, hz, hs, .inr ⟨rfl, hJ1⟩⟩
          | exact ⟨cur2, last2, B2, hc2, hl2, take_less hk2 hpl, hz2, hs, .inr ⟨rfl, hJ2⟩⟩
          | exact ⟨cur, last, B, hcl, hll, hk, hz, hs, .inl ⟨rfl, i, hi, (by rw [hpos, show q = below + 1 from by omega, dys_end]; rfl), (by rw [← show Ls.drop i = R from by rw [hpos, show q = below + 1 from by omega, dys_end]; rfl]; exact hlast), hJ⟩⟩

end Go.Proofs
