/- Own texts of this claim, joined. No conditions. -/
import GoSem.Core.Value
import Derived.Test.YtjmfdiaafnnlcaaGreatHTopServeda
import Derived.Test.YtjmfdiaafnnlcaaGreatHTopServedb
import Derived.Test.YtjmfdiaafnnlcaaGreatHTopServedc
import Derived.Test.YtjmfdiaafnnlcaaGreatHTopServedd
import Derived.Test.YtjmfdiaafnnlcaaGreatHTopServede
import Derived.Test.YtjmfdiaafnnlcaaGreatHTopServedf
import Derived.Test.YtjmfdiaafnnlcaaGreatHTopServedg
import Derived.Test.YtjmfdiaafnnlcaaGreatHTopServedh
import Derived.Test.YtjmfdiaafnnlcaaGreatHTopServedi
set_option linter.unusedVariables false
set_option linter.unusedSimpArgs false
set_option maxRecDepth 20000
namespace Go.Proofs.Sb
open Go.Proofs.Tryz
open Go.Rt Go.Rt.Sh
attribute [local irreducible] WL WC Con Yd At Ats Sl Agree DW
theorem Try_SN_fb4 (x0 : ByteArray) (w : World) : (Instr.buildSlice 58 1 [(0, .string x0)].toArray).run Tryz.prog w = .ok (.slice (some ⟨w.heap.size, 0, none⟩) 1 1) (w.alloc (Go.Rt.blk 9 [.string x0])) := by kernel_rfl
theorem zJq (a b lo hi : Int) : (ends a b lo hi = 7 ∧ (out lo hi a || out lo hi b) = true) ∨ (ends a b lo hi = 2 ∧ (out lo hi a || out lo hi b) = false ∧ b < a) ∨ (ends a b lo hi = 0 ∧ (out lo hi a || out lo hi b) = false ∧ ¬ b < a) := by
  unfold ends
  cases h : (out lo hi a || out lo hi b)
  · by_cases h2 : b < a
    · exact .inr (.inl ⟨by simp [h2], rfl, h2⟩)
    · exact .inr (.inr ⟨by simp [h2], rfl, h2⟩)
  · exact .inl ⟨rfl, rfl⟩
theorem zEb (lo hi n : Int) : out lo hi n = false ↔ lo ≤ n ∧ n ≤ hi := by unfold out; rw [Bool.or_eq_false_iff]; simp
theorem zDa (lo hi n : Int) : out lo hi n = true ↔ ¬ (lo ≤ n ∧ n ≤ hi) := by rw [← zEb]; simp
theorem room_7 {r : Room} (h : ends r.lo r.hi 0 60 = 7 ∨ ¬ (0 ≤ r.fro ∧ r.fro ≤ 9) ∨ ¬ (0 ≤ r.las ∧ r.las ≤ 9)) : roomOwn r = 7 := by
  unfold roomOwn
  rw [if_pos]
  rw [Bool.or_eq_true, Bool.or_eq_true (out 0 9 r.fro), zDa, zDa]
  rcases h with h | h
  · rcases zJq r.lo r.hi 0 60 with ⟨_, h2⟩ | ⟨h1, _⟩ | ⟨h1, _⟩
    · exact .inl h2
    · omega
    · omega
  · exact .inr h
theorem room_2 {r : Room} (h : ends r.lo r.hi 0 60 ≠ 7) (h1 : 0 ≤ r.fro ∧ r.fro ≤ 9) (h2 : 0 ≤ r.las ∧ r.las ≤ 9) (h3 : ends r.lo r.hi 0 60 = 0) (h4 : r.las < r.fro) : roomOwn r = 2 := by
  unfold roomOwn
  rcases zJq r.lo r.hi 0 60 with ⟨h5, _⟩ | ⟨h5, _⟩ | ⟨_, h5, h6⟩
  · omega
  · omega
  · rw [h5, (zEb _ _ _).2 h1, (zEb _ _ _).2 h2, if_neg (by simp), if_pos (by simp [h4])]
theorem room_e {r : Room} (h : ends r.lo r.hi 0 60 ≠ 7) (h1 : 0 ≤ r.fro ∧ r.fro ≤ 9) (h2 : 0 ≤ r.las ∧ r.las ≤ 9) (h3 : ends r.lo r.hi 0 60 ≠ 0 ∨ ¬ r.las < r.fro) : roomOwn r = ends r.lo r.hi 0 60 := by
  unfold roomOwn
  rcases zJq r.lo r.hi 0 60 with ⟨h5, _⟩ | ⟨h4, h5, h6⟩ | ⟨h4, h5, h6⟩
  · omega
  · rw [h5, (zEb _ _ _).2 h1, (zEb _ _ _).2 h2, if_neg (by simp), if_pos (by simp [h6]), h4]
  · rw [h5, (zEb _ _ _).2 h1, (zEb _ _ _).2 h2, if_neg (by simp), if_neg (by simp; omega), h4]
theorem zIi (b : List ByteArray) (s : ByteArray) : nameE b s = (if nmOk s = false then (6 : Int) else if has b s then 5 else 0) := by unfold nameE; cases nmOk s <;> cases has b s <;> simp
theorem zCm {b : List Room} {r : Room} (h : (if nmOk r.name = false then (6 : Int) else if has (b.map (·.name)) r.name then 5 else 0) = 0) : roomE b r = roomOwn r := by unfold roomE; rw [zIi, h, if_neg (by simp)]
theorem zCv {b : List Room} {r : Room} (h : ¬ (if nmOk r.name = false then (6 : Int) else if has (b.map (·.name)) r.name then 5 else 0) = 0) : roomE b r = (if nmOk r.name = false then (6 : Int) else if has (b.map (·.name)) r.name then 5 else 0) := by unfold roomE; rw [zIi, if_pos h]
theorem zCl {b : List Shop} {r : Shop} (h : (if nmOk r.name = false then (6 : Int) else if has (b.map (·.name)) r.name then 5 else 0) = 0) : shopE b r = shopOwn r := by unfold shopE; rw [zIi, h, if_neg (by simp)]
theorem zCu {b : List Shop} {r : Shop} (h : ¬ (if nmOk r.name = false then (6 : Int) else if has (b.map (·.name)) r.name then 5 else 0) = 0) : shopE b r = (if nmOk r.name = false then (6 : Int) else if has (b.map (·.name)) r.name then 5 else 0) := by unfold shopE; rw [zIi, if_pos h]
theorem zDn {s : Shop} (h : ¬ (0 ≤ s.day ∧ s.day ≤ 9) ∨ ¬ (1 ≤ s.want ∧ s.want ≤ 60)) : shopOwn s = 7 := by unfold shopOwn; rw [if_pos]; rw [Bool.or_eq_true, zDa, zDa]; exact h
theorem shop_0 {s : Shop} (h : 0 ≤ s.day ∧ s.day ≤ 9) (h2 : 1 ≤ s.want ∧ s.want ≤ 60) : shopOwn s = 0 := by unfold shopOwn; rw [(zEb _ _ _).2 h, (zEb _ _ _).2 h2, if_neg (by simp)]
theorem zCt {m : Market} {b : List Train} {t : Train} (h : ¬ (0 ≤ t.room ∧ t.room ≤ (m.rooms.length : Int) - 1) ∨ ¬ (0 ≤ t.shop ∧ t.shop ≤ (m.shops.length : Int) - 1)) : trainE m b t = 4 := by unfold trainE; rw [if_pos]; rw [Bool.or_eq_true, zDa, zDa]; exact h
theorem zCs {m : Market} {b : List Train} {t : Train} (h1 : 0 ≤ t.room ∧ t.room ≤ (m.rooms.length : Int) - 1) (h2 : 0 ≤ t.shop ∧ t.shop ≤ (m.shops.length : Int) - 1) (h : ¬ (0 ≤ t.days ∧ t.days ≤ 5) ∨ ¬ (1 ≤ t.cap ∧ t.cap ≤ 60)) : trainE m b t = 7 := by
  unfold trainE; rw [(zEb _ _ _).2 h1, (zEb _ _ _).2 h2, if_neg (by simp), if_pos]; rw [Bool.or_eq_true, zDa, zDa]; exact h
theorem train_0 {m : Market} {b : List Train} {t : Train} (h1 : 0 ≤ t.room ∧ t.room ≤ (m.rooms.length : Int) - 1) (h2 : 0 ≤ t.shop ∧ t.shop ≤ (m.shops.length : Int) - 1) (h3 : 0 ≤ t.days ∧ t.days ≤ 5) (h4 : 1 ≤ t.cap ∧ t.cap ≤ 60) : trainE m b t = 0 := by
  unfold trainE; rw [(zEb _ _ _).2 h1, (zEb _ _ _).2 h2, (zEb _ _ _).2 h3, (zEb _ _ _).2 h4]; rfl
theorem zBk {α : Type} {err : List α → α → Int} {most : Int} {l : List α} (h : most < l.length) : failE err most l = (0,3) := by unfold failE; rw [if_pos h]
theorem zA7 {α : Type} {err : List α → α → Int} {most : Int} {l : List α} (h : ¬ most < l.length) : failE err most l = firstE err [] 0 l := by unfold failE; rw [if_neg h]
theorem zDq {m : Market} {a e : Int} (h : failE roomE 3 m.rooms = (a, e)) (he : ¬ e = 0) : check m = (1, a, e) := by unfold check; rw [if_pos (by rw [h]; exact he), h]
theorem zDp {m : Market} {a e : Int} (h1 : (failE roomE 3 m.rooms).2 = 0) (h : failE shopE 4 m.shops = (a, e)) (he : ¬ e = 0) : check m = (2, a, e) := by unfold check; rw [if_neg (by simp [h1]), if_pos (by rw [h]; exact he), h]
theorem zDo {m : Market} {a e : Int} (h1 : (failE roomE 3 m.rooms).2 = 0) (h2 : (failE shopE 4 m.shops).2 = 0) (h : failE (trainE m) 6 m.trains = (a, e)) (he : ¬ e = 0) : check m = (3, a, e) := by unfold check; rw [if_neg (by simp [h1]), if_neg (by simp [h2]), if_pos (by rw [h]; exact he), h]
theorem zIw {m : Market} (h1 : (failE roomE 3 m.rooms).2 = 0) (h2 : (failE shopE 4 m.shops).2 = 0) (h3 : (failE (trainE m) 6 m.trains).2 = 0) : check m = (0,0,0) := by unfold check; rw [if_neg (by simp [h1]), if_neg (by simp [h2]), if_neg (by simp [h3])]
theorem rnames_len {α : Type} {f : α → ByteArray} {l : List α} {i : Nat} (hi : i ≤ l.length) : ((l.take i).map f).length = i := by simp; omega
theorem zGf {α : Type} {f : α → ByteArray} {l : List α} {i : Nat} (hi : i < l.length) : strs ((l.take i).map f) ++ [Value.string (f l[i])] = strs ((l.take (i + 1)).map f) := by
  rw [List.take_succ_eq_append_getElem hi]; simp only [strs, List.map_append, List.map_cons, List.map_nil]
theorem c19 {w0 w : World} {F : List (Nat × Obj)} (r : Room) (hs : St w0 w F) :
  Con Tryz.prog 19 [.agg r.cells.toArray] w fun v w' => v = .int .i64 (roomOwn r) ∧ St w0 w' F := by
  refine zAt (n := 31) func19 rfl rfl (zNl rfl) ?_
  refine zAe (fun K2 gf => (zAa (zCa (v := .agg #[.string _, .int _ _, .int _ _, .int _ _, .int _ _]) (cs := [_,_,_,_,_]) zAc rfl rfl rfl hs (fun b3 w4 gc => ?_))))
  refine zA5 rfl rfl (zAd (zAb (gf _ _ (zAe (fun K7 gg => (zAa (w_p (zAf (o := 1) (i := 1) underlying50 rfl sizeOf46 rfl rfl rfl) rfl (w_p (zA4 (vs := [_,_]) isAgg46 sizeOf46 gc rfl rfl (zAk (i := 0) (vs := [_,_]) rfl rfl)) rfl ?_))))))))
  refine zAr zAc call51 rfl rfl rfl rfl (c51 _ _ _ _ gc) ?_
  rintro _ w9 ⟨rfl, g3⟩
  refine zBe rfl rfl (zAd (zAb (gg _ _ (zAe (fun gr gh => (zAe (fun gt g5 => (zAa (zAz rfl rfl (w_p (zB6 rfl rfl rfl rfl) rfl (w_p (zAi (v := .bool _) rfl rfl) rfl ?_)))))))))))
  refine zBi (fun g6 => ?_) (fun g6 => ?_)
  ·
   try simp only [zS] at g6
   refine zAh rfl rfl rfl ?_
   refine zAh rfl rfl rfl ?_
   refine zAh rfl rfl rfl ?_
   refine zAh rfl rfl rfl ?_
   refine w_p (zAx (v := _) rfl rfl rfl rfl) rfl (w_p (zAi (v := .bool _) rfl rfl) rfl (zAh rfl rfl rfl ?_))
   refine zAh rfl rfl rfl ?_
   refine zAh rfl rfl rfl ?_
   refine zAh rfl rfl rfl ?_
   refine w_p (zAx (v := _) rfl rfl rfl rfl) rfl (zAd (zAb (g5 _ _ (zB1 rfl rfl ?_))))
   refine zAe (fun gu gi => (zAa (zA5 rfl rfl (zAd (zAb (gi _ _ (zAy (zAg (zA1 (l := [.tmp 2]) (vs := [_]) rfl ⟨⟨rfl, (rfl : _ = Value.int _ _)⟩, trivial⟩ ?_)))))))))
   first
     | exact ⟨congrArg (Value.int .i64) (room_7 (by first | exact .inl (by assumption) | exact .inr (.inl (by omega)) | exact .inr (.inr (by omega)))).symm, g3.tail⟩
     | exact ⟨congrArg (Value.int .i64) (room_2 (by omega) (by omega) (by omega) (by omega) (by omega)).symm, g3.tail⟩
     | exact ⟨congrArg (Value.int .i64) (room_e (by omega) (by omega) (by omega) (by omega)).symm, g3.tail⟩
  try simp only [zS] at g6
  refine w_y rfl rfl rfl (zAf (o := 3) (i := 2) underlying50 rfl sizeOf3 rfl rfl rfl) rfl ?_
  refine w_y rfl rfl rfl (zAj isAgg3 g3 rfl rfl (zAk (i := 0) (vs := [_]) rfl rfl)) rfl ?_
  refine zAr (zAq rfl rfl rfl) call14 rfl rfl rfl rfl (c14 _ _ _ g3) ?_
  rintro _ gv ⟨rfl, g4⟩
  refine w_y rfl rfl rfl (zDz rfl rfl) rfl ?_
  refine w_p (zA9 (v := .bool _) rfl rfl rfl rfl) rfl (w_p (zAi (v := .bool _) rfl rfl) rfl (zBi (fun g7 => ?_) (fun g7 => ?_)))
  ·
   try simp only [zS] at g7
   refine zAh rfl rfl rfl ?_
   refine zAh rfl rfl rfl ?_
   refine zAh rfl rfl rfl ?_
   refine zAh rfl rfl rfl ?_
   refine w_p (zAx (v := _) rfl rfl rfl rfl) rfl (zAd (zAb (g5 _ _ (zB1 rfl rfl ?_))))
   refine zAe (fun gw gj => (zAa (zA5 rfl rfl (zAd (zAb (gj _ _ (zAy (zAg (zA1 (l := [.tmp 2]) (vs := [_]) rfl ⟨⟨rfl, (rfl : _ = Value.int _ _)⟩, trivial⟩ ?_)))))))))
   first
     | exact ⟨congrArg (Value.int .i64) (room_7 (by first | exact .inl (by assumption) | exact .inr (.inl (by omega)) | exact .inr (.inr (by omega)))).symm, g4.tail⟩
     | exact ⟨congrArg (Value.int .i64) (room_2 (by omega) (by omega) (by omega) (by omega) (by omega)).symm, g4.tail⟩
     | exact ⟨congrArg (Value.int .i64) (room_e (by omega) (by omega) (by omega) (by omega)).symm, g4.tail⟩
  try simp only [zS] at g7
  refine w_y rfl rfl rfl (zAf (o := 4) (i := 3) underlying50 rfl sizeOf3 rfl rfl rfl) rfl ?_
  refine w_y rfl rfl rfl (zAj isAgg3 g4 rfl rfl (zAk (i := 0) (vs := [_]) rfl rfl)) rfl ?_
  refine zAr (zAq rfl rfl rfl) call14 rfl rfl rfl rfl (c14 _ _ _ g4) ?_
  rintro _ gx ⟨rfl, g0⟩
  refine w_y rfl rfl rfl (zDz rfl rfl) rfl ?_
  refine w_p (zA9 (v := .bool _) rfl rfl rfl rfl) rfl (zAd (zAb (g5 _ _ (zAu rfl rfl (fun g8 => ?_) (fun g8 => ?_)))))
  ·
   try simp only [zS] at g8
   refine zAe (fun gy gk => (zAa (zA5 rfl rfl (zAd (zAb (gk _ _ (zAy (zAg (zA1 (l := [.tmp 2]) (vs := [_]) rfl ⟨⟨rfl, (rfl : _ = Value.int _ _)⟩, trivial⟩ ?_)))))))))
   first
     | exact ⟨congrArg (Value.int .i64) (room_7 (by first | exact .inl (by assumption) | exact .inr (.inl (by omega)) | exact .inr (.inr (by omega)))).symm, g0.tail⟩
     | exact ⟨congrArg (Value.int .i64) (room_2 (by omega) (by omega) (by omega) (by omega) (by omega)).symm, g0.tail⟩
     | exact ⟨congrArg (Value.int .i64) (room_e (by omega) (by omega) (by omega) (by omega)).symm, g0.tail⟩
  try simp only [zS] at g8
  refine zAs (zAb (gh _ _ (zAe (fun gz g9 => (zAe (fun gA gd => (zAa (zAz rfl rfl (w_p (zB6 rfl rfl rfl rfl) rfl (w_p (zAi (v := .bool _) rfl rfl) rfl ?_))))))))))
  refine zBi (fun ga => ?_) (fun ga => ?_)
  ·
   try simp only [zS] at ga
   refine w_y rfl rfl rfl (zAf (o := 3) (i := 2) underlying50 rfl sizeOf3 rfl rfl rfl) rfl ?_
   refine w_y rfl rfl rfl (zAj isAgg3 g0 rfl rfl (zAk (i := 0) (vs := [_]) rfl rfl)) rfl ?_
   refine w_y rfl rfl rfl (zAf (o := 4) (i := 3) underlying50 rfl sizeOf3 rfl rfl rfl) rfl ?_
   refine w_y rfl rfl rfl (zAj isAgg3 g0 rfl rfl (zAk (i := 0) (vs := [_]) rfl rfl)) rfl ?_
   refine w_y rfl rfl rfl (zD5 rfl rfl rfl rfl) rfl ?_
   refine w_p (zAx (v := .bool _) rfl rfl rfl rfl) rfl (zAd (zAb (gd _ _ (zAu rfl rfl (fun gb => ?_) (fun gb => ?_)))))
   ·
    try simp only [zS] at gb
    refine zAa (zA5 rfl rfl (zAd (zAb (g9 _ _ (zAe (fun gB gm => (zAa (zAz rfl rfl (zBe rfl rfl (zAd (zAb (gm _ _ (zAy (zA1 (l := [.tmp 2]) (vs := [_]) rfl ⟨⟨rfl, (rfl : _ = Value.int _ _)⟩, trivial⟩ ?_))))))))))))))
    first
      | exact ⟨congrArg (Value.int .i64) (room_7 (by first | exact .inl (by assumption) | exact .inr (.inl (by omega)) | exact .inr (.inr (by omega)))).symm, g0.tail⟩
      | exact ⟨congrArg (Value.int .i64) (room_2 (by omega) (by omega) (by omega) (by omega) (by omega)).symm, g0.tail⟩
      | exact ⟨congrArg (Value.int .i64) (room_e (by omega) (by omega) (by omega) (by omega)).symm, g0.tail⟩
   try simp only [zS] at gb
   refine zAs (zAb (g9 _ _ (zAe (fun gC gn => (zAa (zAz rfl rfl (zBe rfl rfl (zAd (zAb (gn _ _ (zAy (zA1 (l := [.tmp 2]) (vs := [_]) rfl ⟨⟨rfl, (rfl : _ = Value.int _ _)⟩, trivial⟩ ?_))))))))))))
   first
     | exact ⟨congrArg (Value.int .i64) (room_7 (by first | exact .inl (by assumption) | exact .inr (.inl (by omega)) | exact .inr (.inr (by omega)))).symm, g0.tail⟩
     | exact ⟨congrArg (Value.int .i64) (room_2 (by omega) (by omega) (by omega) (by omega) (by omega)).symm, g0.tail⟩
     | exact ⟨congrArg (Value.int .i64) (room_e (by omega) (by omega) (by omega) (by omega)).symm, g0.tail⟩
  try simp only [zS] at ga
  refine zAh rfl rfl rfl ?_
  refine zAh rfl rfl rfl ?_
  refine zAh rfl rfl rfl ?_
  refine zAh rfl rfl rfl ?_
  refine zAh rfl rfl rfl ?_
  refine w_p (zA9 (v := _) rfl rfl rfl rfl) rfl (zAd (zAb (gd _ _ (zBx rfl rfl ?_))))
  refine zAs (zAb (g9 _ _ (zAe (fun gE gq => (zAa (zAz rfl rfl (zBe rfl rfl (zAd (zAb (gq _ _ (zAy (zA1 (l := [.tmp 2]) (vs := [_]) rfl ⟨⟨rfl, (rfl : _ = Value.int _ _)⟩, trivial⟩ ?_))))))))))))
  first
    | exact ⟨congrArg (Value.int .i64) (room_7 (by first | exact .inl (by assumption) | exact .inr (.inl (by omega)) | exact .inr (.inr (by omega)))).symm, g0.tail⟩
    | exact ⟨congrArg (Value.int .i64) (room_2 (by omega) (by omega) (by omega) (by omega) (by omega)).symm, g0.tail⟩
    | exact ⟨congrArg (Value.int .i64) (room_e (by omega) (by omega) (by omega) (by omega)).symm, g0.tail⟩

theorem c5 {w0 w : World} {F : List (Nat × Obj)} (m : Market) (p : At3) (hm : MIn w0 F m p)  (hs : St w0 w F) :
  Con Tryz.prog 5 [.agg (m.cells p).toArray] w fun v w' => v = .tuple #[.int .i64 (check m).1, .int .i64 (check m).2.1, .int .i64 (check m).2.2] ∧ St w0 w' F := by
  refine zAt (n := 142) func5 rfl rfl (zNl rfl) ?_
  obtain ⟨ar, cr, as_, cs, at_, ct⟩ := p
  have hlr := hm.lr
  have hls := hm.ls
  have hlt := hm.lt
  refine zAe (fun K2 gS => (zAa (zCa (v := .agg #[.slice _ _ _, .slice _ _ _, .slice _ _ _]) (cs := [_,_,_]) zAc rfl rfl rfl hs (fun b3 w4 g6 => ?_))))
  refine zA5 rfl rfl (zA5 rfl rfl (zA5 rfl rfl (zAd (zAb (gS _ _ (zAe (fun K7 gU => (zAe (fun K9 gV => (zAa (w_p (zAf (o := 0) (i := 0) underlying31 rfl sizeOf27 rfl rfl rfl) rfl ?_)))))))))))
  refine w_p (zAj isAgg27 g6 rfl rfl (zAk (i := 0) (vs := [_]) rfl rfl)) rfl (w_p (zA8 underlying27 rfl rfl) rfl (w_p (zD5 rfl rfl rfl rfl) rfl (zAd (zAb (gV _ _ (zAu rfl rfl (fun gg => ?_) (fun gg => ?_)))))))
  ·
   try simp only [zS] at gg
   refine zAe (fun jK gW => (zAa (zA5 rfl rfl (zA5 rfl rfl (zA5 rfl rfl (zAd (zAb (gW _ _ (zAy (zAg (zA1 (l := [.tmp 2, .tmp 3, .tmp 4]) (vs := [_,_,_]) rfl ⟨⟨rfl, (rfl : _ = Value.int _ _)⟩, ⟨rfl, (rfl : _ = Value.int _ _)⟩, ⟨rfl, (rfl : _ = Value.int _ _)⟩, trivial⟩ ?_)))))))))))
   first
     | contradiction
     | exact ⟨tup3 (zDq (zBk (by omega)) (by decide)), g6.tail⟩
     | exact ⟨tup3 (zDp hE1 (zBk (by omega)) (by decide)), g6.tail⟩
     | exact ⟨tup3 (zDo hE1 hE2 (zBk (by omega)) (by decide)), g6.tail⟩
     | exact ⟨tup3 (zDq (by rw [zA7 (by omega), hinv, zAn hi2 (by rw [zCv (by assumption)]; assumption), zCv (by assumption)]) (by assumption)), g6.tail⟩
     | exact ⟨tup3 (zDq (by rw [zA7 (by omega), hinv, zAn hi2 (by rw [zCm (by assumption)]; assumption), zCm (by assumption)]) (by assumption)), g6.tail⟩
     | exact ⟨tup3 (zDp hE1 (by rw [zA7 (by omega), hinv, zAn hi2 (by rw [zCu (by assumption)]; assumption), zCu (by assumption)]) (by assumption)), g6.tail⟩
     | exact ⟨tup3 (zDp hE1 (by rw [zA7 (by omega), hinv, zAn hi2 (by rw [zCl (by assumption), zDn (by omega)]; decide), zCl (by assumption), zDn (by omega)]) (by decide)), g6.tail⟩
     | exact ⟨tup3 (zDo hE1 hE2 (by rw [zA7 (by omega), hinv, zAn hi2 (by rw [zCt (by omega)]; decide), zCt (by omega)]) (by decide)), g6.tail⟩
     | exact ⟨tup3 (zDo hE1 hE2 (by rw [zA7 (by omega), hinv, zAn hi2 (by rw [zCs (by omega) (by omega) (by omega)]; decide), zCs (by omega) (by omega) (by omega)]) (by decide)), g6.tail⟩
     | exact ⟨tup3 (zIw hE1 hE2 (by rw [zA7 (by omega), hinv, zBh (by omega)])), g6.tail⟩
  try simp only [zS] at gg
  refine zAs (zAb (gU _ _ (zAe (fun jL gX => (zAa (zA5 rfl rfl (zAd (zAb (gX _ _ (zAe (fun jM gY => (zAe (fun jN gZ => (zAa (zA5 rfl rfl ?_)))))))))))))))
  refine zAd (zAb (gZ _ _ (zAw ?_)))
  refine zBs [2,3,4,5,6,7,17,18,19,20,21,22,23,24,25,26,27,28,29,30,31,32,33,34,35,36,37,38,39,40,41,42,43,44,45,46,47,48,49,50,51,52] [5,6] (fun k vs w => ∃ (i : Nat) (v : Value) (B : List (Nat × Obj)), vs = [v, .int .i64 i] ∧ i ≤ m.rooms.length ∧ k = m.rooms.length - i ∧ firstE roomE [] 0 m.rooms = firstE roomE (m.rooms.take i) (i : Nat) (m.rooms.drop i) ∧ Rt.Own v 9 1 i (strs ((m.rooms.take i).map (·.name))) B ∧ St w0 w ((b3, blk 31 (m.cells ⟨ar, cr, as_, cs, at_, ct⟩)) :: (B ++ F))) (m.rooms.length) ?_ ?_
  ·
   exact ⟨0, _, [], rfl, by omega, by omega, by simp, zEm 9 1, g6⟩
  intro k vs μ jO hI jP gG
  obtain ⟨i, v, B, rfl, hia, rfl, hinv, hown, hs⟩ := hI
  refine zAe (fun jQ hD => (zAe (fun jR hG => (zAa (zAz rfl rfl (w_p (zAf (o := 0) (i := 0) underlying31 rfl sizeOf27 rfl rfl rfl) rfl (w_p (zAj isAgg27 hs rfl rfl (zAk (i := 0) (vs := [_]) rfl rfl)) rfl ?_)))))))
  refine w_p (zA8 underlying27 rfl rfl) rfl (w_p (zBw rfl rfl rfl rfl) rfl (zAd (zAb (hG _ _ (zAu rfl rfl (fun gh => ?_) (fun gh => ?_))))))
  ·
   try simp only [zS] at gh
   refine zAs (zAb (hD _ _ (zAe (fun jS gH => (zAw ?_)))))
   refine zAe (fun jT hH => ?_)
   have hi2 : i < m.rooms.length := by omega
   have hn2 := rnames_len (f := (·.name)) hia
   obtain ⟨r1, or1, hbr1, hxr1⟩ := sl_rrows hm.r hi2
   obtain ⟨an, cn, rfl, hsn⟩ := zEf (w0 := w0) hown hn2 F
   have hnl : ((m.rooms.take i).map (·.name)).length ≤ 1000000 := by omega
   subst hbr1
   refine zAa (w_p (zAf (o := 0) (i := 0) underlying31 rfl sizeOf27 rfl rfl rfl) rfl (w_p (zAj isAgg27 hs rfl rfl (zAk (i := 0) (vs := [_]) rfl rfl)) rfl (zAz rfl rfl (w_p (zA3 underlying27 sizeOf50 rfl rfl rfl rfl (i := _) rfl (by omega)) rfl ?_))))
   refine w_p (zAf (o := 0) (i := 0) underlying50 rfl sizeOf9 rfl rfl rfl) rfl (w_p (zAj isAgg9 hs.tail.drop rfl rfl (show Ats _ _ _ _ [_] from Ats.part hxr1 0 1)) rfl (w_p (zAi (v := .slice _ _ _) rfl rfl) rfl (zAr zAc call15 rfl rfl rfl rfl (c15 _ _ _ _ (hm.nr _ (List.getElem_mem hi2)) (by omega) hsn.cons hs) ?_)))
   rintro _ jU ⟨rfl, gi⟩
   refine zBe rfl rfl (zAd (zAb (hH _ _ (zAe (fun jV hO => (zAa (w_p (zAi (v := .slice _ _ _) rfl rfl) rfl (w_p (zAf (o := 0) (i := 0) underlying31 rfl sizeOf27 rfl rfl rfl) rfl ?_))))))))
   refine w_p (zAj isAgg27 gi rfl rfl (zAk (i := 0) (vs := [_]) rfl rfl)) rfl (zAz rfl rfl (w_p (zA3 underlying27 sizeOf50 rfl rfl rfl rfl (i := _) rfl (by omega)) rfl (w_p (zAf (o := 0) (i := 0) underlying50 rfl sizeOf9 rfl rfl rfl) rfl ?_)))
   refine w_p (zAj isAgg9 gi.tail.drop rfl rfl (show Ats _ _ _ _ [_] from Ats.part hxr1 0 1)) rfl (zBb (ps := [(0, _)]) (pv := [(0, .string _)]) (cs := [_]) zAc rfl rfl (fun w => Try_SN_fb4 _ w) gi (fun jW jX hX => ?_))
   refine zCk (X := (_ :: _ :: [])) (B := B) (rows := [[_]]) (sz := 1) (bytes := 16) zAc underlying58 zF6 rfl rfl rfl rfl rfl rfl rfl rfl rfl hX hown (zBt (i := 0) rfl (by simp) rfl) rfl (by simp) (by simp [Value.oneCell']) (by simp only [maxLen]; omega) (by omega) (fun hY jY j0 gI g3 => ?_)
   replace g3 := (show St _ _ (_ :: _ :: j0 ++ (F)) from g3)
   refine w_p (zAo (v := hY) rfl rfl) rfl (zAd (zAb (hO _ _ (zAe (fun jZ gJ => (zAe (fun k4 j1 => (zAa (zAz rfl rfl (w_p (zB6 rfl rfl rfl rfl) rfl ?_))))))))))
   refine zAd (zAb (j1 _ _ (zAu rfl rfl (fun gj => ?_) (fun gj => ?_))))
   ·
    try simp only [zS] at gj
    refine zAa (w_p (zAf (o := 0) (i := 0) underlying31 rfl sizeOf27 rfl rfl rfl) rfl (w_p (zAj isAgg27 g3 rfl rfl (zAk (i := 1) (vs := [_]) rfl rfl)) rfl (zAz rfl rfl (w_p (zA3 underlying27 sizeOf50 rfl rfl rfl rfl (i := _) rfl (by omega)) rfl ?_))))
    refine w_p (zA4 (vs := [_,_,_,_,_]) isAgg50 sizeOf50 g3.tail.tail.drop rfl rfl hxr1) rfl (zAr zAc call19 rfl rfl rfl rfl (c19 _ g3) ?_)
    rintro _ k5 ⟨rfl, gc⟩
    refine zBe rfl rfl (zAd (zAb (gJ _ _ (zAe (fun k6 j2 => (zAa (zAz rfl rfl (w_p (zB2 rfl rfl rfl rfl) rfl (zAd (zAb (j2 _ _ (zAu rfl rfl (fun gk => ?_) (fun gk => ?_)))))))))))))
    ·
     try simp only [zS] at gk
     refine zAe (fun k7 j3 => (zAa (zAz rfl rfl (zAz rfl rfl (zA5 rfl rfl (zBe rfl rfl (zBe rfl rfl (zAd (zAb (j3 _ _ (zAy (zAv (zAg (zAg (zAv (zAg (zA1 (l := [.tmp 2, .tmp 3, .tmp 4]) (vs := [_,_,_]) rfl ⟨⟨rfl, (rfl : _ = Value.int _ _)⟩, ⟨rfl, (rfl : _ = Value.int _ _)⟩, ⟨rfl, (rfl : _ = Value.int _ _)⟩, trivial⟩ ?_)))))))))))))))))
     first
       | contradiction
       | exact ⟨tup3 (zDq (zBk (by omega)) (by decide)), gc.tail.tail.drop⟩
       | exact ⟨tup3 (zDp hE1 (zBk (by omega)) (by decide)), gc.tail.tail.drop⟩
       | exact ⟨tup3 (zDo hE1 hE2 (zBk (by omega)) (by decide)), gc.tail.tail.drop⟩
       | exact ⟨tup3 (zDq (by rw [zA7 (by omega), hinv, zAn hi2 (by rw [zCv (by assumption)]; assumption), zCv (by assumption)]) (by assumption)), gc.tail.tail.drop⟩
       | exact ⟨tup3 (zDq (by rw [zA7 (by omega), hinv, zAn hi2 (by rw [zCm (by assumption)]; assumption), zCm (by assumption)]) (by assumption)), gc.tail.tail.drop⟩
       | exact ⟨tup3 (zDp hE1 (by rw [zA7 (by omega), hinv, zAn hi2 (by rw [zCu (by assumption)]; assumption), zCu (by assumption)]) (by assumption)), gc.tail.tail.drop⟩
       | exact ⟨tup3 (zDp hE1 (by rw [zA7 (by omega), hinv, zAn hi2 (by rw [zCl (by assumption), zDn (by omega)]; decide), zCl (by assumption), zDn (by omega)]) (by decide)), gc.tail.tail.drop⟩
       | exact ⟨tup3 (zDo hE1 hE2 (by rw [zA7 (by omega), hinv, zAn hi2 (by rw [zCt (by omega)]; decide), zCt (by omega)]) (by decide)), gc.tail.tail.drop⟩
       | exact ⟨tup3 (zDo hE1 hE2 (by rw [zA7 (by omega), hinv, zAn hi2 (by rw [zCs (by omega) (by omega) (by omega)]; decide), zCs (by omega) (by omega) (by omega)]) (by decide)), gc.tail.tail.drop⟩
       | exact ⟨tup3 (zIw hE1 hE2 (by rw [zA7 (by omega), hinv, zBh (by omega)])), gc.tail.tail.drop⟩
    try simp only [zS] at gk
    refine zAs (zAl (zAb (gH _ _ (zAa (zAz rfl rfl (w_p (zBg rfl rfl rfl rfl (by omega) (by omega)) rfl (zBe rfl rfl (zAd (zAb (gG _ _ (nxI (m.rooms.length - (i + 1)) (by omega) ?_)))))))))))
    first
      | contradiction
      | exact ⟨i + 1, _,_, rfl, by omega, rfl, hinv.trans (zCe hi2 (by rw [zCm (by assumption)]; assumption)), by rw [← zGf hi2]; exact gI, gc.tail⟩
   try simp only [zS] at gj
   refine zAs (zAb (gJ _ _ (zAe (fun k8 j4 => (zAa (zAz rfl rfl (w_p (zB2 rfl rfl rfl rfl) rfl (zAd (zAb (j4 _ _ (zAu rfl rfl (fun gm => ?_) (fun gm => ?_))))))))))))
   ·
    try simp only [zS] at gm
    refine zAe (fun k9 j5 => (zAa (zAz rfl rfl (zAz rfl rfl (zA5 rfl rfl (zBe rfl rfl (zBe rfl rfl (zAd (zAb (j5 _ _ (zAy (zAv (zAg (zAg (zAv (zAg (zA1 (l := [.tmp 2, .tmp 3, .tmp 4]) (vs := [_,_,_]) rfl ⟨⟨rfl, (rfl : _ = Value.int _ _)⟩, ⟨rfl, (rfl : _ = Value.int _ _)⟩, ⟨rfl, (rfl : _ = Value.int _ _)⟩, trivial⟩ ?_)))))))))))))))))
    first
      | contradiction
      | exact ⟨tup3 (zDq (zBk (by omega)) (by decide)), g3.tail.tail.drop⟩
      | exact ⟨tup3 (zDp hE1 (zBk (by omega)) (by decide)), g3.tail.tail.drop⟩
      | exact ⟨tup3 (zDo hE1 hE2 (zBk (by omega)) (by decide)), g3.tail.tail.drop⟩
      | exact ⟨tup3 (zDq (by rw [zA7 (by omega), hinv, zAn hi2 (by rw [zCv (by assumption)]; assumption), zCv (by assumption)]) (by assumption)), g3.tail.tail.drop⟩
      | exact ⟨tup3 (zDq (by rw [zA7 (by omega), hinv, zAn hi2 (by rw [zCm (by assumption)]; assumption), zCm (by assumption)]) (by assumption)), g3.tail.tail.drop⟩
      | exact ⟨tup3 (zDp hE1 (by rw [zA7 (by omega), hinv, zAn hi2 (by rw [zCu (by assumption)]; assumption), zCu (by assumption)]) (by assumption)), g3.tail.tail.drop⟩
      | exact ⟨tup3 (zDp hE1 (by rw [zA7 (by omega), hinv, zAn hi2 (by rw [zCl (by assumption), zDn (by omega)]; decide), zCl (by assumption), zDn (by omega)]) (by decide)), g3.tail.tail.drop⟩
      | exact ⟨tup3 (zDo hE1 hE2 (by rw [zA7 (by omega), hinv, zAn hi2 (by rw [zCt (by omega)]; decide), zCt (by omega)]) (by decide)), g3.tail.tail.drop⟩
      | exact ⟨tup3 (zDo hE1 hE2 (by rw [zA7 (by omega), hinv, zAn hi2 (by rw [zCs (by omega) (by omega) (by omega)]; decide), zCs (by omega) (by omega) (by omega)]) (by decide)), g3.tail.tail.drop⟩
      | exact ⟨tup3 (zIw hE1 hE2 (by rw [zA7 (by omega), hinv, zBh (by omega)])), g3.tail.tail.drop⟩
   try simp only [zS] at gm
   refine zAs (zAl (zAb (gH _ _ (zAa (zAz rfl rfl (w_p (zBg rfl rfl rfl rfl (by omega) (by omega)) rfl (zBe rfl rfl (zAd (zAb (gG _ _ (nxI (m.rooms.length - (i + 1)) (by omega) ?_)))))))))))
   first
     | contradiction
     | exact ⟨i + 1, _,_, rfl, by omega, rfl, hinv.trans (zCe hi2 (by rw [zCm (by assumption)]; assumption)), by rw [← zGf hi2]; exact gI, g3.tail⟩
  try simp only [zS] at gh
  refine zBl (zAm (zAm (zA0 (zAb (gY _ _ (zAe (fun ka j6 => (zAe (fun kb j7 => ?_)))))))))
  have hE1 : (failE roomE 3 m.rooms).2 = 0 := by rw [zA7 (by omega), hinv, zBh (by omega)]
  have g7 := zHd (Y := B) (show St _ _ (_ :: (B ++ F)) from hs)
  refine zAa (w_p (zAf (o := 1) (i := 1) underlying31 rfl sizeOf28 rfl rfl rfl) rfl (w_p (zAj isAgg28 g7 rfl rfl (zAk (i := 0) (vs := [_]) rfl rfl)) rfl (w_p (zA8 underlying28 rfl rfl) rfl (w_p (zD5 rfl rfl rfl rfl) rfl ?_))))
  refine zAd (zAb (j7 _ _ (zAu rfl rfl (fun gn => ?_) (fun gn => ?_))))
  ·
   try simp only [zS] at gn
   refine zAe (fun kc j8 => (zAa (zA5 rfl rfl (zA5 rfl rfl (zA5 rfl rfl (zAd (zAb (j8 _ _ (zAy (zAg (zA1 (l := [.tmp 2, .tmp 3, .tmp 4]) (vs := [_,_,_]) rfl ⟨⟨rfl, (rfl : _ = Value.int _ _)⟩, ⟨rfl, (rfl : _ = Value.int _ _)⟩, ⟨rfl, (rfl : _ = Value.int _ _)⟩, trivial⟩ ?_)))))))))))
   first
     | contradiction
     | exact ⟨tup3 (zDq (zBk (by omega)) (by decide)), g7.tail⟩
     | exact ⟨tup3 (zDp hE1 (zBk (by omega)) (by decide)), g7.tail⟩
     | exact ⟨tup3 (zDo hE1 hE2 (zBk (by omega)) (by decide)), g7.tail⟩
     | exact ⟨tup3 (zDq (by rw [zA7 (by omega), hinv, zAn hi2 (by rw [zCv (by assumption)]; assumption), zCv (by assumption)]) (by assumption)), g7.tail⟩
     | exact ⟨tup3 (zDq (by rw [zA7 (by omega), hinv, zAn hi2 (by rw [zCm (by assumption)]; assumption), zCm (by assumption)]) (by assumption)), g7.tail⟩
     | exact ⟨tup3 (zDp hE1 (by rw [zA7 (by omega), hinv, zAn hi2 (by rw [zCu (by assumption)]; assumption), zCu (by assumption)]) (by assumption)), g7.tail⟩
     | exact ⟨tup3 (zDp hE1 (by rw [zA7 (by omega), hinv, zAn hi2 (by rw [zCl (by assumption), zDn (by omega)]; decide), zCl (by assumption), zDn (by omega)]) (by decide)), g7.tail⟩
     | exact ⟨tup3 (zDo hE1 hE2 (by rw [zA7 (by omega), hinv, zAn hi2 (by rw [zCt (by omega)]; decide), zCt (by omega)]) (by decide)), g7.tail⟩
     | exact ⟨tup3 (zDo hE1 hE2 (by rw [zA7 (by omega), hinv, zAn hi2 (by rw [zCs (by omega) (by omega) (by omega)]; decide), zCs (by omega) (by omega) (by omega)]) (by decide)), g7.tail⟩
     | exact ⟨tup3 (zIw hE1 hE2 (by rw [zA7 (by omega), hinv, zBh (by omega)])), g7.tail⟩
  try simp only [zS] at gn
  refine zAs (zAb (j6 _ _ (zAe (fun kd j9 => (zAa (zA5 rfl rfl (zAd (zAb (j9 _ _ (zAe (fun kf ja => (zAe (fun kg jb => (zAa (zA5 rfl rfl ?_)))))))))))))))
  refine zAd (zAb (jb _ _ (zAw ?_)))
  refine zBs [2,3,4,5,8,9,10,57,58,59,60,61,62,63,64,65,66,67,68,69,70,71,72,73,74,75,76,77,78,79,80,81,82,83,84,85,86,87,88,89,90,91,92,93,94,95] [5,8] (fun k vs w => ∃ (i : Nat) (v : Value) (B : List (Nat × Obj)), vs = [v, .int .i64 i] ∧ i ≤ m.shops.length ∧ k = m.shops.length - i ∧ firstE shopE [] 0 m.shops = firstE shopE (m.shops.take i) (i : Nat) (m.shops.drop i) ∧ Rt.Own v 9 1 i (strs ((m.shops.take i).map (·.name))) B ∧ St w0 w ((b3, blk 31 (m.cells ⟨ar, cr, as_, cs, at_, ct⟩)) :: (B ++ F))) (m.shops.length) ?_ ?_
  ·
   exact ⟨0, _, [], rfl, by omega, by omega, by simp, zEm 9 1, g7⟩
  intro k vs μ kh hI ki gK
  obtain ⟨i, v, B, rfl, hia, rfl, hinv, hown, hs⟩ := hI
  refine zAe (fun kj jc => (zAe (fun km jd => (zAa (zAz rfl rfl (w_p (zAf (o := 1) (i := 1) underlying31 rfl sizeOf28 rfl rfl rfl) rfl (w_p (zAj isAgg28 hs rfl rfl (zAk (i := 0) (vs := [_]) rfl rfl)) rfl ?_)))))))
  refine w_p (zA8 underlying28 rfl rfl) rfl (w_p (zBw rfl rfl rfl rfl) rfl (zAd (zAb (jd _ _ (zAu rfl rfl (fun gq => ?_) (fun gq => ?_))))))
  ·
   try simp only [zS] at gq
   refine zAs (zAb (jc _ _ (zAe (fun kn gL => (zAw ?_)))))
   refine zAe (fun ko je => ?_)
   have hi2 : i < m.shops.length := by omega
   have hn2 := rnames_len (f := (·.name)) hia
   obtain ⟨s1, os1, hbs1, hxs1⟩ := zKg hm.s hi2
   obtain ⟨an, cn, rfl, hsn⟩ := zEf (w0 := w0) hown hn2 F
   have hnl : ((m.shops.take i).map (·.name)).length ≤ 1000000 := by omega
   subst hbs1
   refine zAa (w_p (zAf (o := 1) (i := 1) underlying31 rfl sizeOf28 rfl rfl rfl) rfl (w_p (zAj isAgg28 hs rfl rfl (zAk (i := 0) (vs := [_]) rfl rfl)) rfl (zAz rfl rfl (w_p (zA3 underlying28 sizeOf71 rfl rfl rfl rfl (i := _) rfl (by omega)) rfl ?_))))
   refine w_p (zA4 (vs := [_,_,_]) isAgg71 sizeOf71 hs.tail.drop rfl rfl hxs1) rfl (zBf (cs := [_,_,_]) zAc zeroValue71 rfl hs (fun kp kq jf => ?_))
   refine zA6 (i := 0) (v := .agg #[.string _, .int _ _, .int _ _]) (vs := [_,_,_]) zAc sizeOf71 rfl rfl rfl rfl rfl (by simp [Value.oneCell']) jf rfl (zNl rfl) (fun kr gM => ?_)
   refine zAd (zAb (je _ _ (zAe (fun ku jg => (zAa (w_p (zAf (o := 0) (i := 0) underlying71 rfl sizeOf9 rfl rfl rfl) rfl (w_p (zAj isAgg9 gM rfl rfl (zAk (i := 0) (vs := [_]) rfl rfl)) rfl ?_)))))))
   refine w_p (zAi (v := .slice _ _ _) rfl rfl) rfl (zAr zAc call15 rfl rfl rfl rfl (c15 _ _ _ _ (hm.ns _ (List.getElem_mem hi2)) (by omega) hsn.cons.cons gM) ?_)
   rintro _ kv ⟨rfl, gN⟩
   refine zBe rfl rfl (zAd (zAb (jg _ _ (zAe (fun kw jh => (zAa (w_p (zAi (v := .slice _ _ _) rfl rfl) rfl (w_p (zAf (o := 0) (i := 0) underlying71 rfl sizeOf9 rfl rfl rfl) rfl ?_))))))))
   refine w_p (zAj isAgg9 gN rfl rfl (zAk (i := 0) (vs := [_]) rfl rfl)) rfl (zBb (ps := [(0, _)]) (pv := [(0, .string _)]) (cs := [_]) zAc rfl rfl (fun w => Try_SN_fb4 _ w) gN (fun kx ky ji => ?_))
   refine zCk (X := (_ :: _ :: _ :: [])) (B := B) (rows := [[_]]) (sz := 1) (bytes := 16) zAc underlying58 zF6 rfl rfl rfl rfl rfl rfl rfl rfl rfl ji hown (zBt (i := 0) rfl (by simp) rfl) rfl (by simp) (by simp [Value.oneCell']) (by simp only [maxLen]; omega) (by omega) (fun jj kz jk gP g4 => ?_)
   replace g4 := (show St _ _ (_ :: _ :: _ :: jk ++ (F)) from g4)
   refine w_p (zAo (v := jj) rfl rfl) rfl (zAd (zAb (jh _ _ (zAe (fun kA gf => (zAe (fun kB gr => (zAa (zAz rfl rfl (w_p (zB6 rfl rfl rfl rfl) rfl ?_))))))))))
   refine w_p (zAi (v := .bool _) rfl rfl) rfl (zBi (fun gt => ?_) (fun gt => ?_))
   ·
    try simp only [zS] at gt
    refine w_y rfl rfl rfl (zAf (o := 1) (i := 1) underlying71 rfl sizeOf3 rfl rfl rfl) rfl ?_
    refine w_y rfl rfl rfl (zAj isAgg3 g4 rfl rfl (zAk (i := 1) (vs := [_]) rfl rfl)) rfl ?_
    refine zAr (zAq rfl rfl rfl) call14 rfl rfl rfl rfl (c14 _ _ _ g4) ?_
    rintro _ kC ⟨rfl, g8⟩
    refine w_y rfl rfl rfl (zDz rfl rfl) rfl ?_
    refine w_y rfl rfl rfl (zAi (v := .bool _) rfl rfl) rfl ?_
    refine zBi (fun gu => ?_) (fun gu => ?_)
    ·
     try simp only [zS] at gu
     refine zAh rfl rfl rfl ?_
     refine zAh rfl rfl rfl ?_
     refine zAh rfl rfl rfl ?_
     refine zAh rfl rfl rfl ?_
     refine w_y rfl rfl rfl (zAx (v := _) rfl rfl rfl rfl) rfl ?_
     refine w_p (zAx (v := .bool _) rfl rfl rfl rfl) rfl (zAd (zAb (gr _ _ (zB1 rfl rfl ?_))))
     refine zAa (zA5 rfl rfl (zAd (zAb (gf _ _ (zAe (fun kD jl => (zAa (zAz rfl rfl (w_p (zB2 rfl rfl rfl rfl) rfl (zAd (zAb (jl _ _ (zB1 rfl rfl ?_)))))))))))))
     refine zAe (fun kF jm => (zAa (zAz rfl rfl (zAz rfl rfl (zA5 rfl rfl (zBe rfl rfl (zBe rfl rfl (zAd (zAb (jm _ _ (zAy (zAv (zAg (zAg (zAv (zAg (zA1 (l := [.tmp 2, .tmp 3, .tmp 4]) (vs := [_,_,_]) rfl ⟨⟨rfl, (rfl : _ = Value.int _ _)⟩, ⟨rfl, (rfl : _ = Value.int _ _)⟩, ⟨rfl, (rfl : _ = Value.int _ _)⟩, trivial⟩ ?_)))))))))))))))))
     first
       | contradiction
       | exact ⟨tup3 (zDq (zBk (by omega)) (by decide)), g8.tail.tail.tail.drop⟩
       | exact ⟨tup3 (zDp hE1 (zBk (by omega)) (by decide)), g8.tail.tail.tail.drop⟩
       | exact ⟨tup3 (zDo hE1 hE2 (zBk (by omega)) (by decide)), g8.tail.tail.tail.drop⟩
       | exact ⟨tup3 (zDq (by rw [zA7 (by omega), hinv, zAn hi2 (by rw [zCv (by assumption)]; assumption), zCv (by assumption)]) (by assumption)), g8.tail.tail.tail.drop⟩
       | exact ⟨tup3 (zDq (by rw [zA7 (by omega), hinv, zAn hi2 (by rw [zCm (by assumption)]; assumption), zCm (by assumption)]) (by assumption)), g8.tail.tail.tail.drop⟩
       | exact ⟨tup3 (zDp hE1 (by rw [zA7 (by omega), hinv, zAn hi2 (by rw [zCu (by assumption)]; assumption), zCu (by assumption)]) (by assumption)), g8.tail.tail.tail.drop⟩
       | exact ⟨tup3 (zDp hE1 (by rw [zA7 (by omega), hinv, zAn hi2 (by rw [zCl (by assumption), zDn (by omega)]; decide), zCl (by assumption), zDn (by omega)]) (by decide)), g8.tail.tail.tail.drop⟩
       | exact ⟨tup3 (zDo hE1 hE2 (by rw [zA7 (by omega), hinv, zAn hi2 (by rw [zCt (by omega)]; decide), zCt (by omega)]) (by decide)), g8.tail.tail.tail.drop⟩
       | exact ⟨tup3 (zDo hE1 hE2 (by rw [zA7 (by omega), hinv, zAn hi2 (by rw [zCs (by omega) (by omega) (by omega)]; decide), zCs (by omega) (by omega) (by omega)]) (by decide)), g8.tail.tail.tail.drop⟩
       | exact ⟨tup3 (zIw hE1 hE2 (by rw [zA7 (by omega), hinv, zBh (by omega)])), g8.tail.tail.tail.drop⟩
    try simp only [zS] at gu
    refine w_y rfl rfl rfl (zAf (o := 2) (i := 2) underlying71 rfl sizeOf3 rfl rfl rfl) rfl ?_
    refine w_y rfl rfl rfl (zAj isAgg3 g8 rfl rfl (zAk (i := 1) (vs := [_]) rfl rfl)) rfl ?_
    refine zAr (zAq rfl rfl rfl) call14 rfl rfl rfl rfl (c14 _ _ _ g8) ?_
    rintro _ kG ⟨rfl, g0⟩
    refine w_y rfl rfl rfl (zDz rfl rfl) rfl ?_
    refine w_y rfl rfl rfl (zA9 (v := .bool _) rfl rfl rfl rfl) rfl ?_
    refine w_p (zAx (v := .bool _) rfl rfl rfl rfl) rfl (zAd (zAb (gr _ _ (zAu rfl rfl (fun gv => ?_) (fun gv => ?_)))))
    ·
     try simp only [zS] at gv
     refine zAa (zA5 rfl rfl (zAd (zAb (gf _ _ (zAe (fun kH jn => (zAa (zAz rfl rfl (w_p (zB2 rfl rfl rfl rfl) rfl (zAd (zAb (jn _ _ (zB1 rfl rfl ?_)))))))))))))
     refine zAe (fun kI jo => (zAa (zAz rfl rfl (zAz rfl rfl (zA5 rfl rfl (zBe rfl rfl (zBe rfl rfl (zAd (zAb (jo _ _ (zAy (zAv (zAg (zAg (zAv (zAg (zA1 (l := [.tmp 2, .tmp 3, .tmp 4]) (vs := [_,_,_]) rfl ⟨⟨rfl, (rfl : _ = Value.int _ _)⟩, ⟨rfl, (rfl : _ = Value.int _ _)⟩, ⟨rfl, (rfl : _ = Value.int _ _)⟩, trivial⟩ ?_)))))))))))))))))
     first
       | contradiction
       | exact ⟨tup3 (zDq (zBk (by omega)) (by decide)), g0.tail.tail.tail.drop⟩
       | exact ⟨tup3 (zDp hE1 (zBk (by omega)) (by decide)), g0.tail.tail.tail.drop⟩
       | exact ⟨tup3 (zDo hE1 hE2 (zBk (by omega)) (by decide)), g0.tail.tail.tail.drop⟩
       | exact ⟨tup3 (zDq (by rw [zA7 (by omega), hinv, zAn hi2 (by rw [zCv (by assumption)]; assumption), zCv (by assumption)]) (by assumption)), g0.tail.tail.tail.drop⟩
       | exact ⟨tup3 (zDq (by rw [zA7 (by omega), hinv, zAn hi2 (by rw [zCm (by assumption)]; assumption), zCm (by assumption)]) (by assumption)), g0.tail.tail.tail.drop⟩
       | exact ⟨tup3 (zDp hE1 (by rw [zA7 (by omega), hinv, zAn hi2 (by rw [zCu (by assumption)]; assumption), zCu (by assumption)]) (by assumption)), g0.tail.tail.tail.drop⟩
       | exact ⟨tup3 (zDp hE1 (by rw [zA7 (by omega), hinv, zAn hi2 (by rw [zCl (by assumption), zDn (by omega)]; decide), zCl (by assumption), zDn (by omega)]) (by decide)), g0.tail.tail.tail.drop⟩
       | exact ⟨tup3 (zDo hE1 hE2 (by rw [zA7 (by omega), hinv, zAn hi2 (by rw [zCt (by omega)]; decide), zCt (by omega)]) (by decide)), g0.tail.tail.tail.drop⟩
       | exact ⟨tup3 (zDo hE1 hE2 (by rw [zA7 (by omega), hinv, zAn hi2 (by rw [zCs (by omega) (by omega) (by omega)]; decide), zCs (by omega) (by omega) (by omega)]) (by decide)), g0.tail.tail.tail.drop⟩
       | exact ⟨tup3 (zIw hE1 hE2 (by rw [zA7 (by omega), hinv, zBh (by omega)])), g0.tail.tail.tail.drop⟩
    try simp only [zS] at gv
    refine zAs (zAb (gf _ _ (zAe (fun kJ jp => (zAa (zAz rfl rfl (w_p (zB2 rfl rfl rfl rfl) rfl (zAd (zAb (jp _ _ (zAu rfl rfl (fun gw => ?_) (fun gw => ?_))))))))))))
    ·
     try simp only [zS] at gw
     refine zAe (fun kK jq => (zAa (zAz rfl rfl (zAz rfl rfl (zA5 rfl rfl (zBe rfl rfl (zBe rfl rfl (zAd (zAb (jq _ _ (zAy (zAv (zAg (zAg (zAv (zAg (zA1 (l := [.tmp 2, .tmp 3, .tmp 4]) (vs := [_,_,_]) rfl ⟨⟨rfl, (rfl : _ = Value.int _ _)⟩, ⟨rfl, (rfl : _ = Value.int _ _)⟩, ⟨rfl, (rfl : _ = Value.int _ _)⟩, trivial⟩ ?_)))))))))))))))))
     first
       | contradiction
       | exact ⟨tup3 (zDq (zBk (by omega)) (by decide)), g0.tail.tail.tail.drop⟩
       | exact ⟨tup3 (zDp hE1 (zBk (by omega)) (by decide)), g0.tail.tail.tail.drop⟩
       | exact ⟨tup3 (zDo hE1 hE2 (zBk (by omega)) (by decide)), g0.tail.tail.tail.drop⟩
       | exact ⟨tup3 (zDq (by rw [zA7 (by omega), hinv, zAn hi2 (by rw [zCv (by assumption)]; assumption), zCv (by assumption)]) (by assumption)), g0.tail.tail.tail.drop⟩
       | exact ⟨tup3 (zDq (by rw [zA7 (by omega), hinv, zAn hi2 (by rw [zCm (by assumption)]; assumption), zCm (by assumption)]) (by assumption)), g0.tail.tail.tail.drop⟩
       | exact ⟨tup3 (zDp hE1 (by rw [zA7 (by omega), hinv, zAn hi2 (by rw [zCu (by assumption)]; assumption), zCu (by assumption)]) (by assumption)), g0.tail.tail.tail.drop⟩
       | exact ⟨tup3 (zDp hE1 (by rw [zA7 (by omega), hinv, zAn hi2 (by rw [zCl (by assumption), zDn (by omega)]; decide), zCl (by assumption), zDn (by omega)]) (by decide)), g0.tail.tail.tail.drop⟩
       | exact ⟨tup3 (zDo hE1 hE2 (by rw [zA7 (by omega), hinv, zAn hi2 (by rw [zCt (by omega)]; decide), zCt (by omega)]) (by decide)), g0.tail.tail.tail.drop⟩
       | exact ⟨tup3 (zDo hE1 hE2 (by rw [zA7 (by omega), hinv, zAn hi2 (by rw [zCs (by omega) (by omega) (by omega)]; decide), zCs (by omega) (by omega) (by omega)]) (by decide)), g0.tail.tail.tail.drop⟩
       | exact ⟨tup3 (zIw hE1 hE2 (by rw [zA7 (by omega), hinv, zBh (by omega)])), g0.tail.tail.tail.drop⟩
    try simp only [zS] at gw
    refine zAs (zAl (zAb (gL _ _ (zAa (zAz rfl rfl (w_p (zBg rfl rfl rfl rfl (by omega) (by omega)) rfl (zBe rfl rfl (zAd (zAb (gK _ _ (nxI (m.shops.length - (i + 1)) (by omega) ?_)))))))))))
    first
      | contradiction
      | exact ⟨i + 1, _,_, rfl, by omega, rfl, hinv.trans (zCe hi2 (by rw [zCl (by assumption)]; exact shop_0 (by omega) (by omega))), by rw [← zGf hi2]; exact gP, g0.tail.tail⟩
   try simp only [zS] at gt
   refine zAh rfl rfl rfl ?_
   refine zAh rfl rfl rfl ?_
   refine zAh rfl rfl rfl ?_
   refine zAh rfl rfl rfl ?_
   refine zAh rfl rfl rfl ?_
   refine zBa rfl rfl rfl ?_
   refine zBa rfl rfl rfl ?_
   refine zBa rfl rfl rfl ?_
   refine zBa rfl rfl rfl ?_
   refine zAh rfl rfl rfl ?_
   refine w_p (zA9 (v := _) rfl rfl rfl rfl) rfl (zAd (zAb (gr _ _ (zBx rfl rfl ?_))))
   refine zAs (zAb (gf _ _ (zAe (fun kL jr => (zAa (zAz rfl rfl (w_p (zB2 rfl rfl rfl rfl) rfl (zAd (zAb (jr _ _ (zAu rfl rfl (fun gx => ?_) (fun gx => ?_))))))))))))
   ·
    try simp only [zS] at gx
    refine zAe (fun kM js => (zAa (zAz rfl rfl (zAz rfl rfl (zA5 rfl rfl (zBe rfl rfl (zBe rfl rfl (zAd (zAb (js _ _ (zAy (zAv (zAg (zAg (zAv (zAg (zA1 (l := [.tmp 2, .tmp 3, .tmp 4]) (vs := [_,_,_]) rfl ⟨⟨rfl, (rfl : _ = Value.int _ _)⟩, ⟨rfl, (rfl : _ = Value.int _ _)⟩, ⟨rfl, (rfl : _ = Value.int _ _)⟩, trivial⟩ ?_)))))))))))))))))
    first
      | contradiction
      | exact ⟨tup3 (zDq (zBk (by omega)) (by decide)), g4.tail.tail.tail.drop⟩
      | exact ⟨tup3 (zDp hE1 (zBk (by omega)) (by decide)), g4.tail.tail.tail.drop⟩
      | exact ⟨tup3 (zDo hE1 hE2 (zBk (by omega)) (by decide)), g4.tail.tail.tail.drop⟩
      | exact ⟨tup3 (zDq (by rw [zA7 (by omega), hinv, zAn hi2 (by rw [zCv (by assumption)]; assumption), zCv (by assumption)]) (by assumption)), g4.tail.tail.tail.drop⟩
      | exact ⟨tup3 (zDq (by rw [zA7 (by omega), hinv, zAn hi2 (by rw [zCm (by assumption)]; assumption), zCm (by assumption)]) (by assumption)), g4.tail.tail.tail.drop⟩
      | exact ⟨tup3 (zDp hE1 (by rw [zA7 (by omega), hinv, zAn hi2 (by rw [zCu (by assumption)]; assumption), zCu (by assumption)]) (by assumption)), g4.tail.tail.tail.drop⟩
      | exact ⟨tup3 (zDp hE1 (by rw [zA7 (by omega), hinv, zAn hi2 (by rw [zCl (by assumption), zDn (by omega)]; decide), zCl (by assumption), zDn (by omega)]) (by decide)), g4.tail.tail.tail.drop⟩
      | exact ⟨tup3 (zDo hE1 hE2 (by rw [zA7 (by omega), hinv, zAn hi2 (by rw [zCt (by omega)]; decide), zCt (by omega)]) (by decide)), g4.tail.tail.tail.drop⟩
      | exact ⟨tup3 (zDo hE1 hE2 (by rw [zA7 (by omega), hinv, zAn hi2 (by rw [zCs (by omega) (by omega) (by omega)]; decide), zCs (by omega) (by omega) (by omega)]) (by decide)), g4.tail.tail.tail.drop⟩
      | exact ⟨tup3 (zIw hE1 hE2 (by rw [zA7 (by omega), hinv, zBh (by omega)])), g4.tail.tail.tail.drop⟩
   try simp only [zS] at gx
   refine zAs (zAl (zAb (gL _ _ (zAa (zAz rfl rfl (w_p (zBg rfl rfl rfl rfl (by omega) (by omega)) rfl (zBe rfl rfl (zAd (zAb (gK _ _ (nxI (m.shops.length - (i + 1)) (by omega) ?_)))))))))))
   first
     | contradiction
     | exact ⟨i + 1, _,_, rfl, by omega, rfl, hinv.trans (zCe hi2 (by rw [zCl (by assumption)]; exact shop_0 (by omega) (by omega))), by rw [← zGf hi2]; exact gP, g4.tail.tail⟩
  try simp only [zS] at gq
  refine zBl (zAm (zAm (zA0 (zAb (ja _ _ (zAe (fun kN jt => (zAe (fun kO ju => ?_)))))))))
  have hE2 : (failE shopE 4 m.shops).2 = 0 := by rw [zA7 (by omega), hinv, zBh (by omega)]
  have g9 := zHd (Y := B) (show St _ _ (_ :: (B ++ F)) from hs)
  refine zAa (w_p (zAf (o := 2) (i := 2) underlying31 rfl sizeOf29 rfl rfl rfl) rfl (w_p (zAj isAgg29 g9 rfl rfl (zAk (i := 0) (vs := [_]) rfl rfl)) rfl (w_p (zA8 underlying29 rfl rfl) rfl (w_p (zD5 rfl rfl rfl rfl) rfl ?_))))
  refine zAd (zAb (ju _ _ (zAu rfl rfl (fun gy => ?_) (fun gy => ?_))))
  ·
   try simp only [zS] at gy
   refine zAe (fun kP jv => (zAa (zA5 rfl rfl (zA5 rfl rfl (zA5 rfl rfl (zAd (zAb (jv _ _ (zAy (zAg (zA1 (l := [.tmp 2, .tmp 3, .tmp 4]) (vs := [_,_,_]) rfl ⟨⟨rfl, (rfl : _ = Value.int _ _)⟩, ⟨rfl, (rfl : _ = Value.int _ _)⟩, ⟨rfl, (rfl : _ = Value.int _ _)⟩, trivial⟩ ?_)))))))))))
   first
     | contradiction
     | exact ⟨tup3 (zDq (zBk (by omega)) (by decide)), g9.tail⟩
     | exact ⟨tup3 (zDp hE1 (zBk (by omega)) (by decide)), g9.tail⟩
     | exact ⟨tup3 (zDo hE1 hE2 (zBk (by omega)) (by decide)), g9.tail⟩
     | exact ⟨tup3 (zDq (by rw [zA7 (by omega), hinv, zAn hi2 (by rw [zCv (by assumption)]; assumption), zCv (by assumption)]) (by assumption)), g9.tail⟩
     | exact ⟨tup3 (zDq (by rw [zA7 (by omega), hinv, zAn hi2 (by rw [zCm (by assumption)]; assumption), zCm (by assumption)]) (by assumption)), g9.tail⟩
     | exact ⟨tup3 (zDp hE1 (by rw [zA7 (by omega), hinv, zAn hi2 (by rw [zCu (by assumption)]; assumption), zCu (by assumption)]) (by assumption)), g9.tail⟩
     | exact ⟨tup3 (zDp hE1 (by rw [zA7 (by omega), hinv, zAn hi2 (by rw [zCl (by assumption), zDn (by omega)]; decide), zCl (by assumption), zDn (by omega)]) (by decide)), g9.tail⟩
     | exact ⟨tup3 (zDo hE1 hE2 (by rw [zA7 (by omega), hinv, zAn hi2 (by rw [zCt (by omega)]; decide), zCt (by omega)]) (by decide)), g9.tail⟩
     | exact ⟨tup3 (zDo hE1 hE2 (by rw [zA7 (by omega), hinv, zAn hi2 (by rw [zCs (by omega) (by omega) (by omega)]; decide), zCs (by omega) (by omega) (by omega)]) (by decide)), g9.tail⟩
     | exact ⟨tup3 (zIw hE1 hE2 (by rw [zA7 (by omega), hinv, zBh (by omega)])), g9.tail⟩
  try simp only [zS] at gy
  refine zAs (zAb (jt _ _ (zAe (fun kQ jw => (zAe (fun kR jx => (zAa (zA5 rfl rfl (zAd (zAb (jx _ _ (zAw ?_))))))))))))
  refine zBs [2,3,4,11,12,100,101,102,103,104,105,106,107,108,109,110,111,112,113,114,115,116,117,118,119,120,121,122,123,124,125,126,127,128,129,130,131,132,133,134,135,136,137,138,139,140,141] [11] (fun k vs w => ∃ i : Nat, vs = [.int .i64 i] ∧ i ≤ m.trains.length ∧ k = m.trains.length - i ∧ firstE (trainE m) [] 0 m.trains = firstE (trainE m) (m.trains.take i) (i : Nat) (m.trains.drop i) ∧ St w0 w ((b3, blk 31 (m.cells ⟨ar, cr, as_, cs, at_, ct⟩)) :: F)) (m.trains.length) ?_ ?_
  ·
   exact ⟨0, rfl, by omega, by omega, by simp, g9⟩
  intro k vs μ kS hI kT jy
  obtain ⟨i, rfl, hia, rfl, hinv, hs⟩ := hI
  refine zAe (fun kU jz => (zAe (fun kV jA => (zAa (zAz rfl rfl (w_p (zAf (o := 2) (i := 2) underlying31 rfl sizeOf29 rfl rfl rfl) rfl (w_p (zAj isAgg29 hs rfl rfl (zAk (i := 0) (vs := [_]) rfl rfl)) rfl ?_)))))))
  refine w_p (zA8 underlying29 rfl rfl) rfl (w_p (zBw rfl rfl rfl rfl) rfl (zAd (zAb (jA _ _ (zAu rfl rfl (fun gz => ?_) (fun gz => ?_))))))
  ·
   try simp only [zS] at gz
   refine zAs (zAb (jz _ _ (zAe (fun kW jB => (zAw ?_)))))
   refine zAe (fun kX jC => ?_)
   have hi2 : i < m.trains.length := by omega
   obtain ⟨t1, ot1, hbt1, hxt1⟩ := sl_trows hm.t hi2
   subst hbt1
   refine zAa (w_p (zAf (o := 2) (i := 2) underlying31 rfl sizeOf29 rfl rfl rfl) rfl (w_p (zAj isAgg29 hs rfl rfl (zAk (i := 0) (vs := [_]) rfl rfl)) rfl (zAz rfl rfl (w_p (zA3 underlying29 sizeOf55 rfl rfl rfl rfl (i := _) rfl (by omega)) rfl ?_))))
   refine w_p (zA4 (vs := [_,_,_,_]) isAgg55 sizeOf55 hs.tail rfl rfl hxt1) rfl (zBf (cs := [_,_,_,_]) zAc zeroValue55 rfl hs (fun kY kZ jD => ?_))
   refine zA6 (i := 0) (v := .agg #[.int _ _, .int _ _, .int _ _, .int _ _]) (vs := [_,_,_,_]) zAc sizeOf55 rfl rfl rfl rfl rfl (by simp [Value.oneCell']) jD rfl (zNl rfl) (fun m0 gA => ?_)
   refine zAd (zAb (jC _ _ (zAe (fun m1 jE => (zAe (fun m2 gQ => (zAa (w_p (zAf (o := 0) (i := 0) underlying55 rfl sizeOf3 rfl rfl rfl) rfl (w_p (zAj isAgg3 gA rfl rfl (zAk (i := 0) (vs := [_]) rfl rfl)) rfl ?_)))))))))
   refine w_p (zAf (o := 0) (i := 0) underlying31 rfl sizeOf27 rfl rfl rfl) rfl (w_p (zAj isAgg27 gA rfl rfl (zAk (i := 1) (vs := [_]) rfl rfl)) rfl (w_p (zA8 underlying27 rfl rfl) rfl (w_p (zE0 rfl rfl rfl rfl (by omega) (by omega)) rfl ?_)))
   refine zAr zAc call14 rfl rfl rfl rfl (c14 _ _ _ gA) ?_
   rintro _ m3 ⟨rfl, g5⟩
   refine w_p (zDz rfl rfl) rfl (w_p (zAi (v := .bool _) rfl rfl) rfl (zBi (fun gB => ?_) (fun gB => ?_)))
   ·
    try simp only [zS] at gB
    refine zAh rfl rfl rfl ?_
    refine zAh rfl rfl rfl ?_
    refine zAh rfl rfl rfl ?_
    refine zAh rfl rfl rfl ?_
    refine zAh rfl rfl rfl ?_
    refine zAh rfl rfl rfl ?_
    refine zAh rfl rfl rfl ?_
    refine zAh rfl rfl rfl ?_
    refine w_p (zAx (v := _) rfl rfl rfl rfl) rfl (zAd (zAb (gQ _ _ (zB1 rfl rfl ?_))))
    refine zAe (fun m4 jF => (zAa (zAz rfl rfl (zA5 rfl rfl (zBe rfl rfl (zA5 rfl rfl (zAd (zAb (jF _ _ (zAy (zAg (zAv (zAg (zAg (zAv (zAg (zA1 (l := [.tmp 2, .tmp 3, .tmp 4]) (vs := [_,_,_]) rfl ⟨⟨rfl, (rfl : _ = Value.int _ _)⟩, ⟨rfl, (rfl : _ = Value.int _ _)⟩, ⟨rfl, (rfl : _ = Value.int _ _)⟩, trivial⟩ ?_)))))))))))))))))
    first
      | contradiction
      | exact ⟨tup3 (zDq (zBk (by omega)) (by decide)), g5.tail.tail⟩
      | exact ⟨tup3 (zDp hE1 (zBk (by omega)) (by decide)), g5.tail.tail⟩
      | exact ⟨tup3 (zDo hE1 hE2 (zBk (by omega)) (by decide)), g5.tail.tail⟩
      | exact ⟨tup3 (zDq (by rw [zA7 (by omega), hinv, zAn hi2 (by rw [zCv (by assumption)]; assumption), zCv (by assumption)]) (by assumption)), g5.tail.tail⟩
      | exact ⟨tup3 (zDq (by rw [zA7 (by omega), hinv, zAn hi2 (by rw [zCm (by assumption)]; assumption), zCm (by assumption)]) (by assumption)), g5.tail.tail⟩
      | exact ⟨tup3 (zDp hE1 (by rw [zA7 (by omega), hinv, zAn hi2 (by rw [zCu (by assumption)]; assumption), zCu (by assumption)]) (by assumption)), g5.tail.tail⟩
      | exact ⟨tup3 (zDp hE1 (by rw [zA7 (by omega), hinv, zAn hi2 (by rw [zCl (by assumption), zDn (by omega)]; decide), zCl (by assumption), zDn (by omega)]) (by decide)), g5.tail.tail⟩
      | exact ⟨tup3 (zDo hE1 hE2 (by rw [zA7 (by omega), hinv, zAn hi2 (by rw [zCt (by omega)]; decide), zCt (by omega)]) (by decide)), g5.tail.tail⟩
      | exact ⟨tup3 (zDo hE1 hE2 (by rw [zA7 (by omega), hinv, zAn hi2 (by rw [zCs (by omega) (by omega) (by omega)]; decide), zCs (by omega) (by omega) (by omega)]) (by decide)), g5.tail.tail⟩
      | exact ⟨tup3 (zIw hE1 hE2 (by rw [zA7 (by omega), hinv, zBh (by omega)])), g5.tail.tail⟩
   try simp only [zS] at gB
   refine w_y rfl rfl rfl (zAf (o := 1) (i := 1) underlying55 rfl sizeOf3 rfl rfl rfl) rfl ?_
   refine w_y rfl rfl rfl (zAj isAgg3 g5 rfl rfl (zAk (i := 0) (vs := [_]) rfl rfl)) rfl ?_
   refine w_y rfl rfl rfl (zAf (o := 1) (i := 1) underlying31 rfl sizeOf28 rfl rfl rfl) rfl ?_
   refine w_y rfl rfl rfl (zAj isAgg28 g5 rfl rfl (zAk (i := 1) (vs := [_]) rfl rfl)) rfl ?_
   refine w_y rfl rfl rfl (zA8 underlying28 rfl rfl) rfl ?_
   refine w_y rfl rfl rfl (zE0 rfl rfl rfl rfl (by omega) (by omega)) rfl ?_
   refine zAr (zAq rfl rfl rfl) call14 rfl rfl rfl rfl (c14 _ _ _ g5) ?_
   rintro _ m5 ⟨rfl, ga⟩
   refine w_y rfl rfl rfl (zDz rfl rfl) rfl ?_
   refine w_p (zA9 (v := .bool _) rfl rfl rfl rfl) rfl (zAd (zAb (gQ _ _ (zAu rfl rfl (fun gC => ?_) (fun gC => ?_)))))
   ·
    try simp only [zS] at gC
    refine zAe (fun m6 jG => (zAa (zAz rfl rfl (zA5 rfl rfl (zBe rfl rfl (zA5 rfl rfl (zAd (zAb (jG _ _ (zAy (zAg (zAv (zAg (zAg (zAv (zAg (zA1 (l := [.tmp 2, .tmp 3, .tmp 4]) (vs := [_,_,_]) rfl ⟨⟨rfl, (rfl : _ = Value.int _ _)⟩, ⟨rfl, (rfl : _ = Value.int _ _)⟩, ⟨rfl, (rfl : _ = Value.int _ _)⟩, trivial⟩ ?_)))))))))))))))))
    first
      | contradiction
      | exact ⟨tup3 (zDq (zBk (by omega)) (by decide)), ga.tail.tail⟩
      | exact ⟨tup3 (zDp hE1 (zBk (by omega)) (by decide)), ga.tail.tail⟩
      | exact ⟨tup3 (zDo hE1 hE2 (zBk (by omega)) (by decide)), ga.tail.tail⟩
      | exact ⟨tup3 (zDq (by rw [zA7 (by omega), hinv, zAn hi2 (by rw [zCv (by assumption)]; assumption), zCv (by assumption)]) (by assumption)), ga.tail.tail⟩
      | exact ⟨tup3 (zDq (by rw [zA7 (by omega), hinv, zAn hi2 (by rw [zCm (by assumption)]; assumption), zCm (by assumption)]) (by assumption)), ga.tail.tail⟩
      | exact ⟨tup3 (zDp hE1 (by rw [zA7 (by omega), hinv, zAn hi2 (by rw [zCu (by assumption)]; assumption), zCu (by assumption)]) (by assumption)), ga.tail.tail⟩
      | exact ⟨tup3 (zDp hE1 (by rw [zA7 (by omega), hinv, zAn hi2 (by rw [zCl (by assumption), zDn (by omega)]; decide), zCl (by assumption), zDn (by omega)]) (by decide)), ga.tail.tail⟩
      | exact ⟨tup3 (zDo hE1 hE2 (by rw [zA7 (by omega), hinv, zAn hi2 (by rw [zCt (by omega)]; decide), zCt (by omega)]) (by decide)), ga.tail.tail⟩
      | exact ⟨tup3 (zDo hE1 hE2 (by rw [zA7 (by omega), hinv, zAn hi2 (by rw [zCs (by omega) (by omega) (by omega)]; decide), zCs (by omega) (by omega) (by omega)]) (by decide)), ga.tail.tail⟩
      | exact ⟨tup3 (zIw hE1 hE2 (by rw [zA7 (by omega), hinv, zBh (by omega)])), ga.tail.tail⟩
   try simp only [zS] at gC
   refine zAs (zAb (jE _ _ (zAe (fun m7 gR => (zAa (w_p (zAf (o := 2) (i := 2) underlying55 rfl sizeOf3 rfl rfl rfl) rfl (w_p (zAj isAgg3 ga rfl rfl (zAk (i := 0) (vs := [_]) rfl rfl)) rfl ?_)))))))
   refine zAr zAc call14 rfl rfl rfl rfl (c14 _ _ _ ga) ?_
   rintro _ m8 ⟨rfl, gb⟩
   refine w_p (zDz rfl rfl) rfl (w_p (zAi (v := .bool _) rfl rfl) rfl (zBi (fun gE => ?_) (fun gE => ?_)))
   ·
    try simp only [zS] at gE
    refine zAh rfl rfl rfl ?_
    refine zAh rfl rfl rfl ?_
    refine zAh rfl rfl rfl ?_
    refine zAh rfl rfl rfl ?_
    refine w_p (zAx (v := _) rfl rfl rfl rfl) rfl (zAd (zAb (gR _ _ (zB1 rfl rfl ?_))))
    refine zAe (fun m9 jH => (zAa (zAz rfl rfl (zA5 rfl rfl (zBe rfl rfl (zA5 rfl rfl (zAd (zAb (jH _ _ (zAy (zAv (zAg (zAg (zAv (zAg (zA1 (l := [.tmp 2, .tmp 3, .tmp 4]) (vs := [_,_,_]) rfl ⟨⟨rfl, (rfl : _ = Value.int _ _)⟩, ⟨rfl, (rfl : _ = Value.int _ _)⟩, ⟨rfl, (rfl : _ = Value.int _ _)⟩, trivial⟩ ?_))))))))))))))))
    first
      | contradiction
      | exact ⟨tup3 (zDq (zBk (by omega)) (by decide)), gb.tail.tail⟩
      | exact ⟨tup3 (zDp hE1 (zBk (by omega)) (by decide)), gb.tail.tail⟩
      | exact ⟨tup3 (zDo hE1 hE2 (zBk (by omega)) (by decide)), gb.tail.tail⟩
      | exact ⟨tup3 (zDq (by rw [zA7 (by omega), hinv, zAn hi2 (by rw [zCv (by assumption)]; assumption), zCv (by assumption)]) (by assumption)), gb.tail.tail⟩
      | exact ⟨tup3 (zDq (by rw [zA7 (by omega), hinv, zAn hi2 (by rw [zCm (by assumption)]; assumption), zCm (by assumption)]) (by assumption)), gb.tail.tail⟩
      | exact ⟨tup3 (zDp hE1 (by rw [zA7 (by omega), hinv, zAn hi2 (by rw [zCu (by assumption)]; assumption), zCu (by assumption)]) (by assumption)), gb.tail.tail⟩
      | exact ⟨tup3 (zDp hE1 (by rw [zA7 (by omega), hinv, zAn hi2 (by rw [zCl (by assumption), zDn (by omega)]; decide), zCl (by assumption), zDn (by omega)]) (by decide)), gb.tail.tail⟩
      | exact ⟨tup3 (zDo hE1 hE2 (by rw [zA7 (by omega), hinv, zAn hi2 (by rw [zCt (by omega)]; decide), zCt (by omega)]) (by decide)), gb.tail.tail⟩
      | exact ⟨tup3 (zDo hE1 hE2 (by rw [zA7 (by omega), hinv, zAn hi2 (by rw [zCs (by omega) (by omega) (by omega)]; decide), zCs (by omega) (by omega) (by omega)]) (by decide)), gb.tail.tail⟩
      | exact ⟨tup3 (zIw hE1 hE2 (by rw [zA7 (by omega), hinv, zBh (by omega)])), gb.tail.tail⟩
   try simp only [zS] at gE
   refine w_y rfl rfl rfl (zAf (o := 3) (i := 3) underlying55 rfl sizeOf3 rfl rfl rfl) rfl ?_
   refine w_y rfl rfl rfl (zAj isAgg3 gb rfl rfl (zAk (i := 0) (vs := [_]) rfl rfl)) rfl ?_
   refine zAr (zAq rfl rfl rfl) call14 rfl rfl rfl rfl (c14 _ _ _ gb) ?_
   rintro _ ma ⟨rfl, gd⟩
   refine w_y rfl rfl rfl (zDz rfl rfl) rfl ?_
   refine w_p (zA9 (v := .bool _) rfl rfl rfl rfl) rfl (zAd (zAb (gR _ _ (zAu rfl rfl (fun gF => ?_) (fun gF => ?_)))))
   ·
    try simp only [zS] at gF
    refine zAe (fun mc jI => (zAa (zAz rfl rfl (zA5 rfl rfl (zBe rfl rfl (zA5 rfl rfl (zAd (zAb (jI _ _ (zAy (zAv (zAg (zAg (zAv (zAg (zA1 (l := [.tmp 2, .tmp 3, .tmp 4]) (vs := [_,_,_]) rfl ⟨⟨rfl, (rfl : _ = Value.int _ _)⟩, ⟨rfl, (rfl : _ = Value.int _ _)⟩, ⟨rfl, (rfl : _ = Value.int _ _)⟩, trivial⟩ ?_))))))))))))))))
    first
      | contradiction
      | exact ⟨tup3 (zDq (zBk (by omega)) (by decide)), gd.tail.tail⟩
      | exact ⟨tup3 (zDp hE1 (zBk (by omega)) (by decide)), gd.tail.tail⟩
      | exact ⟨tup3 (zDo hE1 hE2 (zBk (by omega)) (by decide)), gd.tail.tail⟩
      | exact ⟨tup3 (zDq (by rw [zA7 (by omega), hinv, zAn hi2 (by rw [zCv (by assumption)]; assumption), zCv (by assumption)]) (by assumption)), gd.tail.tail⟩
      | exact ⟨tup3 (zDq (by rw [zA7 (by omega), hinv, zAn hi2 (by rw [zCm (by assumption)]; assumption), zCm (by assumption)]) (by assumption)), gd.tail.tail⟩
      | exact ⟨tup3 (zDp hE1 (by rw [zA7 (by omega), hinv, zAn hi2 (by rw [zCu (by assumption)]; assumption), zCu (by assumption)]) (by assumption)), gd.tail.tail⟩
      | exact ⟨tup3 (zDp hE1 (by rw [zA7 (by omega), hinv, zAn hi2 (by rw [zCl (by assumption), zDn (by omega)]; decide), zCl (by assumption), zDn (by omega)]) (by decide)), gd.tail.tail⟩
      | exact ⟨tup3 (zDo hE1 hE2 (by rw [zA7 (by omega), hinv, zAn hi2 (by rw [zCt (by omega)]; decide), zCt (by omega)]) (by decide)), gd.tail.tail⟩
      | exact ⟨tup3 (zDo hE1 hE2 (by rw [zA7 (by omega), hinv, zAn hi2 (by rw [zCs (by omega) (by omega) (by omega)]; decide), zCs (by omega) (by omega) (by omega)]) (by decide)), gd.tail.tail⟩
      | exact ⟨tup3 (zIw hE1 hE2 (by rw [zA7 (by omega), hinv, zBh (by omega)])), gd.tail.tail⟩
   try simp only [zS] at gF
   refine zAs (zAl (zAb (jB _ _ (zAa (zAz rfl rfl (w_p (zBg rfl rfl rfl rfl (by omega) (by omega)) rfl (zBe rfl rfl (zAd (zAb (jy _ _ (nxI (m.trains.length - (i + 1)) (by omega) ?_)))))))))))
   exact ⟨i + 1, rfl, by omega, rfl, hinv.trans (zCe hi2 (train_0 (by omega) (by omega) (by omega) (by omega))), gd.tail⟩
  try simp only [zS] at gz
  refine zBl (zAm (zAm (zA0 (zAb (jw _ _ (zAe (fun md jJ => (zAa (zA5 rfl rfl (zA5 rfl rfl (zA5 rfl rfl (zAd (zAb (jJ _ _ (zAy (zA1 (l := [.tmp 2, .tmp 3, .tmp 4]) (vs := [_,_,_]) rfl ⟨⟨rfl, (rfl : _ = Value.int _ _)⟩, ⟨rfl, (rfl : _ = Value.int _ _)⟩, ⟨rfl, (rfl : _ = Value.int _ _)⟩, trivial⟩ ?_))))))))))))))))
  first
    | contradiction
    | exact ⟨tup3 (zDq (zBk (by omega)) (by decide)), hs.tail⟩
    | exact ⟨tup3 (zDp hE1 (zBk (by omega)) (by decide)), hs.tail⟩
    | exact ⟨tup3 (zDo hE1 hE2 (zBk (by omega)) (by decide)), hs.tail⟩
    | exact ⟨tup3 (zDq (by rw [zA7 (by omega), hinv, zAn hi2 (by rw [zCv (by assumption)]; assumption), zCv (by assumption)]) (by assumption)), hs.tail⟩
    | exact ⟨tup3 (zDq (by rw [zA7 (by omega), hinv, zAn hi2 (by rw [zCm (by assumption)]; assumption), zCm (by assumption)]) (by assumption)), hs.tail⟩
    | exact ⟨tup3 (zDp hE1 (by rw [zA7 (by omega), hinv, zAn hi2 (by rw [zCu (by assumption)]; assumption), zCu (by assumption)]) (by assumption)), hs.tail⟩
    | exact ⟨tup3 (zDp hE1 (by rw [zA7 (by omega), hinv, zAn hi2 (by rw [zCl (by assumption), zDn (by omega)]; decide), zCl (by assumption), zDn (by omega)]) (by decide)), hs.tail⟩
    | exact ⟨tup3 (zDo hE1 hE2 (by rw [zA7 (by omega), hinv, zAn hi2 (by rw [zCt (by omega)]; decide), zCt (by omega)]) (by decide)), hs.tail⟩
    | exact ⟨tup3 (zDo hE1 hE2 (by rw [zA7 (by omega), hinv, zAn hi2 (by rw [zCs (by omega) (by omega) (by omega)]; decide), zCs (by omega) (by omega) (by omega)]) (by decide)), hs.tail⟩
    | exact ⟨tup3 (zIw hE1 hE2 (by rw [zA7 (by omega), hinv, zBh (by omega)])), hs.tail⟩

end Go.Proofs.Sb
set_option maxRecDepth 20000
namespace Go.Proofs.Sb
open Go.Proofs.Tryz
open Go.Rt Go.Rt.Sh
attribute [local irreducible] WL WC Con Yd At Ats Sl Agree DW


end Go.Proofs.Sb
set_option maxRecDepth 20000
namespace Go.Proofs.Sb
open Go.Proofs.Tryz
open Go.Rt Go.Rt.Sh
attribute [local irreducible] WL WC Con Yd At Ats Sl Agree DW
theorem map_snoc {α : Type} {f : α → Int} {l : List α} {i : Nat} (hi : i < l.length) : (l.take i).map f ++ [f l[i]] = (l.take (i + 1)).map f := by
  rw [List.take_succ_eq_append_getElem hi, List.map_append]; rfl
theorem own_step {α : Type} {f : α → Int} {l : List α} {i : Nat} {v : Value} {B : List (Nat × Obj)} (hi : i < l.length) (h : Rt.Own v 3 1 (((l.take i).map f).length + 1) (iv ((l.take i).map f) ++ [[Value.int .i64 (f l[i])]].flatten) B) : Rt.Own v 3 1 ((l.take (i + 1)).map f).length (iv ((l.take (i + 1)).map f)) B := by
  rw [← map_snoc hi]; exact zE3 h
end Go.Proofs.Sb
/- Plain words of the shop layer: sets asked for by rising numbers. No conditions. -/
namespace Go.Rt.Sh
def rising (n : Int) : Int → List Int → Bool
  | _, [] => true
  | p, x :: l => !(decide (x ≤ p) || decide (n ≤ x)) && rising n x l
theorem zIf (n : Int) (hn : n ≤ 4) : ∀ (l : List Int) (p : Int) (s : Nat), (∀ x ∈ l, 0 ≤ x ∧ x < n) → (∀ x : Nat, x < 4 → (0 < s >>> x ↔ (x : Int) ≤ p)) → s < 16 → -1 ≤ p → (orBits s l = none ↔ rising n p l = false)
  | [], p, s, _,_,_, _ => by simp [orBits, rising]
  | x :: l, p, s, hx, hs, h16, hp => by
    have h0 := hx x (.head _)
    have hk := hs x.toNat (by omega)
    rw [show ((x.toNat : Nat) : Int) = x by omega] at hk
    simp only [orBits, rising]
    by_cases h : 0 < s >>> x.toNat
    · rw [if_pos h]
      have := hk.1 h
      simp [this]
    · rw [if_neg h]
      have hpx : p < x := by
        rcases Int.lt_or_le p x with h1 | h1
        · exact h1
        · exact absurd (hk.2 h1) h
      have hq : ∀ y : Nat, y < 4 → (0 < (s ||| (1 <<< x.toNat)) >>> y ↔ (y : Int) ≤ x) := by
        intro y hy
        have hsy := hs y hy
        rw [Nat.shiftRight_or_distrib]
        obtain ⟨a, ha, ha4⟩ : ∃ a : Nat, (a : Int) = x ∧ a < 4 := ⟨x.toNat, by omega, by omega⟩
        have hax : x.toNat = a := by omega
        rw [hax]
        have h1 : 0 < (1 <<< a) >>> y ↔ y ≤ a := by
          have : ∀ a < 4, ∀ y < 4, (0 < (1 <<< a) >>> y ↔ y ≤ a) := by decide
          exact this a ha4 y hy
        have h2 : 0 < (s >>> y ||| (1 <<< a) >>> y) ↔ (0 < s >>> y ∨ 0 < (1 <<< a) >>> y) := by
          have e : ∀ u v : Nat, (u ||| v) = 0 ↔ u = 0 ∧ v = 0 := fun u v => Nat.or_eq_zero_iff
          have := e (s >>> y) ((1 <<< a) >>> y)
          rw [Nat.pos_iff_ne_zero, Nat.pos_iff_ne_zero, Nat.pos_iff_ne_zero, ne_eq, this]
          constructor
          · intro h
            by_cases h0 : s >>> y = 0
            · exact .inr fun h1 => h ⟨h0, h1⟩
            · exact .inl h0
          · rintro (h | h) ⟨h1, h2⟩
            · exact h h1
            · exact h h2
        rw [h2, h1, hsy]
        omega
      rw [zIf n hn l x _ (fun y hy => hx y (.tail _ hy)) hq (or_small h16 (by omega)) (by omega)]
      have e1 : decide (x ≤ p) = false := by simpa using hpx
      have e2 : decide (n ≤ x) = false := by simpa using h0.2
      rw [e1, e2]
      simp
end Go.Rt.Sh
/- Plain words of the shop layer's reference: lists in their order, all sets of some shops, the worst of them. No conditions. -/
namespace Go.Rt
def topStep (f : List Int → Int) (s : List Int × Int) (l : List Int) : List Int × Int := if f l > s.2 then (l, f l) else s
def topTo (f : List Int → Int) (all : List (List Int)) : Nat → List Int × Int
  | 0 => ([], 0)
  | k + 1 => if k = 0 then ([], 0) else match all[k]? with | some l => topStep f (topTo f all k) l | none => topTo f all k
theorem topTo_succ {f : List Int → Int} {all : List (List Int)} {k : Nat} (h0 : 0 < k) (h : k < all.length) : topTo f all (k + 1) = topStep f (topTo f all k) all[k] := by
  simp only [topTo]; rw [if_neg (by omega), List.getElem?_eq_getElem h]
namespace Sh
theorem zGq (a : List Int) : before a a = false := by simp [before, zGj]
theorem zEz {a b c : List Int} (h1 : before a b = true) (h2 : before b c = true) : before a c = true := by
  unfold before at *
  simp only [Bool.or_eq_true, Bool.and_eq_true, decide_eq_true_eq] at *
  rcases h1 with h1 | ⟨h1, h1'⟩ <;> rcases h2 with h2 | ⟨h2, h2'⟩
  · left; omega
  · left; omega
  · left; omega
  · right; exact ⟨by omega, zJi _ _ _ h1' h2'⟩
theorem zJ6 {a b : List Int} (h : before a b = true) : before b a = false := by
  cases hb : before b a with
  | false => rfl
  | true => have := zEz h hb; rw [zGq] at this; cases this
theorem zG4 {a b : List Int} (h1 : before a b = false) (h2 : before b a = false) : a = b := by
  unfold before at *
  simp only [Bool.or_eq_false_iff, Bool.and_eq_false_iff, decide_eq_false_iff_not] at *
  have hl : a.length = b.length := by omega
  have e1 : less a b = false := by rcases h1.2 with h | h; omega; exact h
  have e2 : less b a = false := by rcases h2.2 with h | h; omega; exact h
  exact zIk a b hl e1 e2
def Best (f : List Int → Int) (C : List Int → Prop) (s : List Int × Int) : Prop :=
  (s = ([], 0) ∧ ∀ l, C l → f l < 1) ∨ (∃ l, C l ∧ s = (l, f l) ∧ 1 ≤ f l ∧ ∀ c, C c → f c ≤ f l ∧ (f c = f l → c = l ∨ before l c = true))
theorem Best.uniq {f : List Int → Int} {C : List Int → Prop} {s t : List Int × Int} (h1 : Best f C s) (h2 : Best f C t) : s = t := by
  rcases h1 with ⟨rfl, a1⟩ | ⟨l, c1, rfl, b1, a1⟩ <;> rcases h2 with ⟨rfl, a2⟩ | ⟨l', c2, rfl, b2, a2⟩
  · rfl
  · have := a1 _ c2; omega
  · have := a2 _ c1; omega
  · have e1 := a1 _ c2
    have e2 := a2 _ c1
    have e : f l' = f l := by omega
    have : l' = l := by
      rcases e1.2 e with h | h
      · exact h
      · rcases e2.2 e.symm with h' | h'
        · exact h'.symm
        · rw [zJ6 h] at h'; cases h'
    rw [this]
theorem best_top {f : List Int → Int} {all : List (List Int)} (hp : all.Pairwise fun a b => before a b = true) (h0 : ∀ l, all[0]? = some l → f l < 1) : ∀ k, k ≤ all.length → Best f (fun l => l ∈ all.take k) (topTo f all k)
  | 0, _ => .inl ⟨rfl, fun l h => by simp at h⟩
  | k + 1, hk => by
    have ih := best_top hp h0 k (by omega)
    have hkl : k < all.length := by omega
    by_cases h : k = 0
    · subst h
      refine .inl ⟨rfl, fun l hl => ?_⟩
      rw [List.take_succ_eq_append_getElem hkl] at hl
      simp at hl
      exact h0 l (by rw [List.getElem?_eq_getElem hkl, hl])
    · rw [topTo_succ (by omega) hkl]
      have hmem : ∀ l, l ∈ all.take (k + 1) ↔ l ∈ all.take k ∨ l = all[k] := by
        intro l; rw [List.take_succ_eq_append_getElem hkl, List.mem_append, List.mem_singleton]
      have hb : ∀ l, l ∈ all.take k → before l all[k] = true := by
        intro l hl
        obtain ⟨i, hi, rfl⟩ := List.getElem_of_mem hl
        rw [List.getElem_take]
        rw [List.length_take] at hi
        exact (List.pairwise_iff_getElem.1 hp) i k (by omega) hkl (by omega)
      unfold topStep
      rcases ih with ⟨e, a⟩ | ⟨l, c, e, b, a⟩
      · rw [e]
        split
        · rename_i hf
          exact .inr ⟨all[k], (hmem _).2 (.inr rfl), rfl, (by have := hf; simp at this; omega), fun c hc => by
            rcases (hmem c).1 hc with h | h
            · have := a c h; simp at hf; exact ⟨by omega, fun e => by omega⟩
            · subst h; exact ⟨by omega, fun _ => .inl rfl⟩⟩
        · rename_i hf
          exact .inl ⟨rfl, fun c hc => by
            rcases (hmem c).1 hc with h | h
            · exact a c h
            · subst h; simp at hf; omega⟩
      · rw [e]
        split
        · rename_i hf
          refine .inr ⟨all[k], (hmem _).2 (.inr rfl), rfl, ?_, fun c hc => ?_⟩
          · simp at hf; omega
          · simp at hf
            rcases (hmem c).1 hc with h | h
            · have := (a c h).1; exact ⟨by omega, fun e => by omega⟩
            · subst h; exact ⟨by omega, fun _ => .inl rfl⟩
        · rename_i hf
          simp at hf
          refine .inr ⟨l, (hmem _).2 (.inl c), rfl, b, fun c' hc => ?_⟩
          rcases (hmem c').1 hc with h | h
          · exact a c' h
          · subst h; exact ⟨hf, fun _ => .inr (hb l c)⟩
theorem best_worst {f : List Int → Int} {n sub : Nat} {lk : List Int} (hf : ∀ b, b < 16 → bitDiff b sub = 0 → f (listL b n) = lk.getD b 0) : ∀ k, k ≤ 16 → Best f (fun l => ∃ b, b < k ∧ bitDiff b sub = 0 ∧ l = listL b n) (worstTo n sub lk k)
  | 0, _ => .inl ⟨rfl, fun l h => by obtain ⟨b, h, _⟩ := h; omega⟩
  | k + 1, hk => by
    have ih := best_worst (lk := lk) hf k (by omega)
    simp only [worstTo, worstStep]
    by_cases hd : bitDiff k sub = 0
    · have hfk := hf k (by omega) hd
      rw [← hfk]
      have hmem : ∀ l, (∃ b, b < k + 1 ∧ bitDiff b sub = 0 ∧ l = listL b n) ↔ (∃ b, b < k ∧ bitDiff b sub = 0 ∧ l = listL b n) ∨ l = listL k n := by
        intro l
        constructor
        · rintro ⟨b, h1, h2, h3⟩
          by_cases e : b = k
          · subst e; exact .inr h3
          · exact .inl ⟨b, by omega, h2, h3⟩
        · rintro (⟨b, h1, h2, h3⟩ | h)
          · exact ⟨b, by omega, h2, h3⟩
          · exact ⟨k, by omega, hd, h⟩
      rcases ih with ⟨e, a⟩ | ⟨l, c, e, b, a⟩
      · rw [e]
        split
        · rename_i h1
          exact .inl ⟨rfl, fun c hc => by
            rcases (hmem c).1 hc with h | h
            · exact a c h
            · subst h; simp at h1; omega⟩
        · rename_i h1
          simp at h1
          rw [if_pos (by left; simp; omega)]
          exact .inr ⟨_, (hmem _).2 (.inr rfl), rfl, by omega, fun c hc => by
            rcases (hmem c).1 hc with h | h
            · have := a c h; exact ⟨by omega, fun e => by omega⟩
            · subst h; exact ⟨by omega, fun _ => .inl rfl⟩⟩
      · rw [e]
        split
        · rename_i h1
          refine .inr ⟨l, (hmem _).2 (.inl c), rfl, b, fun c' hc => ?_⟩
          rcases (hmem c').1 hc with h | h
          · exact a c' h
          · subst h; simp at h1; exact ⟨by omega, fun e => by omega⟩
        · rename_i h1
          simp at h1
          split
          · rename_i h2
            refine .inr ⟨_, (hmem _).2 (.inr rfl), rfl, by omega, fun c' hc => ?_⟩
            rcases (hmem c').1 hc with h | h
            · have h3 := a c' h
              refine ⟨by omega, fun e => ?_⟩
              rcases h2 with h2 | h2
              · simp at h2; omega
              · rcases h3.2 (by omega) with h4 | h4
                · subst h4; exact .inr h2
                · exact .inr (zEz h2 h4)
            · subst h; exact ⟨by omega, fun _ => .inl rfl⟩
          · rename_i h2
            simp only [not_or, Bool.not_eq_true] at h2
            refine .inr ⟨l, (hmem _).2 (.inl c), rfl, b, fun c' hc => ?_⟩
            rcases (hmem c').1 hc with h | h
            · exact a c' h
            · subst h
              refine ⟨by simp at h2; omega, fun _ => ?_⟩
              cases hbb : before l (listL k n) with
              | true => exact .inr rfl
              | false => exact .inl (zG4 h2.2 hbb)
    · rw [if_pos (.inl hd)]
      have hiff : ∀ l, (∃ b, b < k + 1 ∧ bitDiff b sub = 0 ∧ l = listL b n) ↔ (∃ b, b < k ∧ bitDiff b sub = 0 ∧ l = listL b n) := by
        intro l
        constructor
        · rintro ⟨b, h1, h2, h3⟩
          by_cases e : b = k
          · subst e; exact absurd h2 hd
          · exact ⟨b, by omega, h2, h3⟩
        · rintro ⟨b, h1, h2, h3⟩; exact ⟨b, by omega, h2, h3⟩
      rcases ih with ⟨e, a⟩ | ⟨l, c, e, b, a⟩
      · exact .inl ⟨e, fun l hl => a l ((hiff l).1 hl)⟩
      · exact .inr ⟨l, (hiff l).2 c, e, b, fun c' hc => a c' ((hiff c').1 hc)⟩
theorem zGd : ∀ n < 5, ∀ sub < 16, sub < 2 ^ n → (setsL (listL sub n)).Pairwise fun a b => before a b = true := by decide +kernel
theorem sets_in : ∀ n < 5, ∀ sub < 16, sub < 2 ^ n → ∀ l ∈ setsL (listL sub n), ∃ b, b < 16 ∧ (bitDiff b sub = 0 ∧ l = listL b n) := by
  have h : ∀ n < 5, ∀ sub < 16, sub < 2 ^ n → ∀ l ∈ setsL (listL sub n), ((List.range 16).any fun b => decide (bitDiff b sub = 0 ∧ l = listL b n)) = true := by decide +kernel
  intro n hn sub hs g0 l hl
  obtain ⟨b, hb, hd⟩ := List.any_eq_true.1 (h n hn sub hs g0 l hl)
  exact ⟨b, by simpa using hb, by simpa using hd⟩
theorem zIb : ∀ n < 5, ∀ sub < 16, sub < 2 ^ n → ∀ b < 16, bitDiff b sub = 0 → listL b n ∈ setsL (listL sub n) := by
  have h : ∀ n < 5, ∀ sub < 16, sub < 2 ^ n → ((List.range 16).all fun b => !decide (bitDiff b sub = 0) || decide (listL b n ∈ setsL (listL sub n))) = true := by decide +kernel
  intro n hn sub hs g0 b hb hd
  have := List.all_eq_true.1 (h n hn sub hs g0) b (by simpa using hb)
  simpa [hd] using this
theorem sets_zero : ∀ n < 5, ∀ sub < 16, sub < 2 ^ n → (setsL (listL sub n))[0]? = some (listL 0 n) := by decide +kernel
theorem top_worst {f : List Int → Int} {n sub : Nat} {lk : List Int} (hn : n ≤ 4) (hs : sub < 2 ^ n) (hf : ∀ b, b < 16 → bitDiff b sub = 0 → f (listL b n) = lk.getD b 0) (h0 : lk.getD 0 0 < 1) :
    topTo f (setsL (listL sub n)) (setsL (listL sub n)).length = worstTo n sub lk 16 := by
  have g0 : sub < 16 := by
    have : 2 ^ n ≤ 2 ^ 4 := Nat.pow_le_pow_right (by omega) hn
    omega
  have h1 := best_top (f := f) (zGd n (by omega) sub g0 hs) (fun l hl => by
    rw [sets_zero n (by omega) sub g0 hs] at hl
    cases hl
    rw [hf 0 (by omega) (by simp [bitDiff])]; exact h0) _ (Nat.le_refl _)
  have h2 := best_worst (f := f) (n := n) (sub := sub) (lk := lk) hf 16 (Nat.le_refl _)
  refine Best.uniq (C := fun l => l ∈ setsL (listL sub n)) (by rwa [List.take_length] at h1) ?_
  have hiff : ∀ l, l ∈ setsL (listL sub n) ↔ (∃ b, b < 16 ∧ bitDiff b sub = 0 ∧ l = listL b n) := fun l =>
    ⟨fun h => by obtain ⟨b, hb, h1, h2⟩ := sets_in n (by omega) sub g0 hs l h; exact ⟨b, hb, h1, h2⟩, fun ⟨b, hb, h1, h2⟩ => h2 ▸ zIb n (by omega) sub g0 hs b hb h1⟩
  rcases h2 with ⟨e, a⟩ | ⟨l, c, e, b, a⟩
  · exact .inl ⟨e, fun l hl => a l ((hiff l).1 hl)⟩
  · exact .inr ⟨l, (hiff l).2 c, e, b, fun c' hc => a c' ((hiff c').1 hc)⟩
end Sh
end Go.Rt
/- Plain words of the shop layer's reference: what some shops lack, the worst of all sets. No conditions. -/
namespace Go.Rt
namespace Sh
def wantR (wants set : List Int) : Nat → Int
  | 0 => 0
  | i + 1 => wantR wants set i + wants.getD (set.getD i 0).toNat 0
def capRf (m : Market) (set : List Int) (fro r : Nat) : Nat → Int
  | 0 => 0
  | i + 1 => match m.trains[i]? with
    | some t => if fro ≤ i ∧ t.room = r ∧ hasI set t.shop = true ∧ leaves m t = true then capRf m set fro r i + t.cap else capRf m set fro r i
    | none => capRf m set fro r i
def handR (m : Market) (hands set : List Int) (fro : Nat) : Nat → Int
  | 0 => 0
  | r + 1 => handR m hands set fro r + min (hands.getD r 0) (capRf m set fro r m.trains.length)
def lackR (m : Market) (hands wants set : List Int) (fro : Nat) : Int := wantR wants set set.length - handR m hands set fro m.rooms.length
def worstR (m : Market) (hands wants shops : List Int) (fro : Nat) : List Int × Int := topTo (fun s => lackR m hands wants s fro) (setsL shops) (setsL shops).length
end Sh
end Go.Rt
/- Plain words of the shop layer's reference: what Can, Proof, Without return. No conditions. -/
namespace Go.Rt.Sh
def leastL (m : Market) : List Int := m.rooms.map (·.lo)
def mostL (m : Market) : List Int := m.rooms.map (·.hi)
def wantsL (m : Market) : List Int := m.shops.map (·.want)
def servedR (m : Market) (hands shops : List Int) : Bool := decide ((worstR m hands (wantsL m) shops 0).2 = 0)
def askTo (m : Market) (l : List Int) (i : Nat) : Int := if (check m).2.2 ≠ 0 then (check m).2.2 else if (l.take i).any (out 0 (m.shops.length - 1)) then 4 else 0
def askedE (m : Market) (l : List Int) : Int := if askTo m l l.length = 0 ∧ rising m.shops.length (-1) l = false then 2 else askTo m l l.length
theorem askTo_chk {m : Market} {l : List Int} {i : Nat} (h : askTo m l i = 0) : (check m).2.2 = 0 := by
  unfold askTo at h
  split at h
  · rename_i h1; exact absurd h h1
  · rename_i h1; simpa using h1
theorem any_false {m : Market} {l : List Int} {i : Nat} (h : askTo m l i = 0) : (l.take i).any (out 0 (m.shops.length - 1)) = false := by
  unfold askTo at h
  rw [if_neg (by simpa using askTo_chk h)] at h
  split at h
  · cases h
  · rename_i h2; simpa using h2
theorem askedE_chk {m : Market} {l : List Int} (h : askedE m l = 0) : (check m).2.2 = 0 ∧ (∀ x ∈ l, 0 ≤ x ∧ x < m.shops.length) ∧ rising m.shops.length (-1) l = true := by
  unfold askedE at h
  split at h
  · cases h
  · rename_i h1
    have h2 := any_false h
    rw [List.take_length] at h2
    refine ⟨askTo_chk h, fun x hx => ?_, ?_⟩
    · have := List.any_eq_false.1 h2 x hx
      simp [out] at this; omega
    · cases hr : rising m.shops.length (-1) l with
      | true => rfl
      | false => exact absurd ⟨h, hr⟩ h1
theorem rising_len {n : Int} : ∀ (l : List Int) (p : Int), rising n p l = true → -1 ≤ p → p < n → (l.length : Int) + p + 1 ≤ n
  | [], p, _,_, h => by simp; omega
  | x :: l, p, h, hp, hn => by
    simp only [rising, Bool.and_eq_true, Bool.not_eq_true', Bool.or_eq_false_iff, decide_eq_false_iff_not] at h
    have := rising_len l x h.2 (by omega) (by omega)
    simp only [List.length_cons]; omega
def canR (m : Market) (l : List Int) : Int × Int := if askedE m l ≠ 0 then (0, askedE m l) else if servedR m (leastL m) l then (1,0) else if servedR m (mostL m) l = false then (2,0) else (0,0)
def proofR (m : Market) (l : List Int) : List Int × Int × Int := if askedE m l ≠ 0 then ([], 0, askedE m l) else if (worstR m (leastL m) (wantsL m) l 0).2 = 0 then ([], 0,9) else ((worstR m (leastL m) (wantsL m) l 0).1, (worstR m (leastL m) (wantsL m) l 0).2,0)
def firstW (m : Market) : List (List Int) → List Int
  | [] => []
  | s :: r => if servedR m (leastL m) (othersTo s m.shops.length) then s else firstW m r
def withoutR (m : Market) : List Int × Int := if (check m).2.2 ≠ 0 then ([], (check m).2.2) else (firstW m (setsL (othersTo [] m.shops.length)), 0)
end Go.Rt.Sh
set_option maxRecDepth 20000
namespace Go.Proofs.Sb
open Go.Proofs.Tryz
open Go.Rt Go.Rt.Sh
attribute [local irreducible] WL WC Con Yd At Ats Sl Agree DW
theorem Try_TL_fb1 (x0 : Int) (w : World) : (Instr.buildSlice 43 1 [(0, .int .i64 x0)].toArray).run Tryz.prog w = .ok (.slice (some ⟨w.heap.size, 0, none⟩) 1 1) (w.alloc (Go.Rt.blk 3 [.int .i64 x0])) := by kernel_rfl
theorem c13o {w0 w : World} {F : List (Nat × Obj)} (m : Market) (p : At3) (hm : MIn w0 F m p) (hok : m.Ok) (hs : St w0 w F) :
  Con Tryz.prog 13 [.agg (m.cells p).toArray] w fun v w' => ∃ B, Rt.Own v 3 1 m.rooms.length (iv (leastL m)) B ∧ St w0 w' (B ++ F) := by
  refine zAt (n := 23) func13 rfl rfl (zNl rfl) ?_
  obtain ⟨ar, cr, as_, cs, at_, ct⟩ := p
  have hlr := hok.lr
  have hls := hok.ls
  refine zAe (fun K2 g4 => (zAa (zCa (v := .agg #[.slice _ _ _, .slice _ _ _, .slice _ _ _]) (cs := [_,_,_]) zAc rfl rfl rfl hs (fun b3 w4 g5 => ?_))))
  refine zA5 rfl rfl (zAd (zAb (g4 _ _ (zAe (fun K7 g6 => (zAa (zA5 rfl rfl (zAd (zAb (g6 _ _ (zAe (fun K9 g7 => (zAe (fun gj g8 => (zAa (zA5 rfl rfl ?_))))))))))))))))
  refine zAd (zAb (g8 _ _ (zAw ?_)))
  refine zBs [3,4,5,6,7,8,9,10,11,12,13,14,15,16,17,18,19,20,21] [3,4] (fun k vs w => ∃ (i : Nat) (v : Value) (B : List (Nat × Obj)), vs = [v, .int .i64 i] ∧ i ≤ m.rooms.length ∧ k = m.rooms.length - i ∧ Rt.Own v 3 1 ((m.rooms.take i).map (·.lo)).length (iv ((m.rooms.take i).map (·.lo))) B ∧ St w0 w ((b3, blk 31 (m.cells ⟨ar, cr, as_, cs, at_, ct⟩)) :: (B ++ F))) (m.rooms.length) ?_ ?_
  ·
   exact ⟨0, _, [], rfl, by omega, by omega, zEm 3 1, g5⟩
  intro k vs μ gk hI gm g9
  obtain ⟨i, v, B, rfl, hia, rfl, hown, hs⟩ := hI
  refine zAe (fun gn ga => (zAe (fun gq gb => (zAa (zAz rfl rfl (w_p (zAf (o := 0) (i := 0) underlying31 rfl sizeOf27 rfl rfl rfl) rfl (w_p (zAj isAgg27 hs rfl rfl (zAk (i := 0) (vs := [_]) rfl rfl)) rfl ?_)))))))
  refine w_p (zA8 underlying27 rfl rfl) rfl (w_p (zBw rfl rfl rfl rfl) rfl (zAd (zAb (gb _ _ (zAu rfl rfl (fun g0 => ?_) (fun g0 => ?_))))))
  ·
   try simp only [zS] at g0
   refine zAs (zAb (ga _ _ (zAe (fun gr gc => (zAw ?_)))))
   have hi2 : i < m.rooms.length := by omega
   obtain ⟨bx, ox, hbx, hx⟩ := sl_rrows hm.r hi2
   subst hbx
   have hln : ((m.rooms.take i).map (·.lo)).length ≤ i := by rw [List.length_map, List.length_take]; omega
   refine zAa (w_p (zAi (v := v) rfl rfl) rfl (w_p (zAf (o := 0) (i := 0) underlying31 rfl sizeOf27 rfl rfl rfl) rfl (w_p (zAj isAgg27 hs rfl rfl (zAk (i := 0) (vs := [_]) rfl rfl)) rfl ?_)))
   refine zAz rfl rfl (w_p (zA3 underlying27 sizeOf50 rfl rfl rfl rfl (i := _) rfl (by omega)) rfl (w_p (zAf (o := 1) (i := 1) underlying50 rfl sizeOf46 rfl rfl rfl) rfl (w_p (zAf (o := 0) (i := 0) underlying46 rfl sizeOf3 rfl rfl rfl) rfl ?_)))
   refine w_p (zAj isAgg3 hs.tail.drop rfl rfl (show Ats _ _ _ _ [_] from Ats.part hx 1 1)) rfl (zBb (ps := [(0, _)]) (pv := [(0, .int _ _)]) (cs := [_]) zAc rfl rfl (fun w => Try_TL_fb1 _ w) hs (fun gt gu gd => ?_))
   refine zCk (X := (_ :: _ :: [])) (B := B) (rows := [[_]]) (sz := 1) (bytes := 8) zAc underlying43 zDb rfl rfl rfl rfl rfl rfl rfl rfl rfl gd hown (zBt (i := 0) rfl (by simp) rfl) rfl (by simp) (by simp [Value.oneCell']) (by simp only [maxLen]; omega) (by omega) (fun gf gv gg gh g3 => ?_)
   replace g3 := (show St _ _ (_ :: _ :: gg ++ (F)) from g3)
   refine w_p (zAo (v := gf) rfl rfl) rfl (zAd (zAl (zAb (gc _ _ (zAa (zAz rfl rfl (w_p (zBg rfl rfl rfl rfl (by omega) (by omega)) rfl ?_)))))))
   refine zBe rfl rfl (zAd (zAb (g9 _ _ (nxI (m.rooms.length - (i + 1)) (by omega) ?_))))
   exact ⟨i + 1, _,_, rfl, by omega, rfl, own_step hi2 gh, g3.tail⟩
  try simp only [zS] at g0
  refine zBl (zAm (zAm (zA0 (zAb (g7 _ _ (zAe (fun gw gi => (zAa (w_p (zAi (v := v) rfl rfl) rfl (w_p (zAo (v := v) rfl rfl) rfl ?_))))))))))
  refine zAd (zAb (gi _ _ (zAy (zA1 (l := [.tmp 2]) (vs := [_]) rfl ⟨⟨rfl, show _ = (v : Value) from rfl⟩, trivial⟩ ?_))))
  have hil : i = m.rooms.length := by omega
  subst hil
  rw [List.take_length, List.length_map] at hown
  exact ⟨B, hown, hs.tail⟩

end Go.Proofs.Sb
/- Plain words of the shop layer: the document's example. No conditions. -/
namespace Go.Rt.Sh
def nAlta : ByteArray := ⟨#[97,108,116,97]⟩
def nBaja : ByteArray := ⟨#[98,97,106,97]⟩
def nApple : ByteArray := ⟨#[97,112,112,108,101]⟩
def nBerry : ByteArray := ⟨#[98,101,114,114,121]⟩
def nCherry : ByteArray := ⟨#[99,104,101,114,114,121]⟩
def exM (x y : Int) : Market := ⟨[⟨nAlta, 20,25, x, 4⟩, ⟨nBaja, 10,10,3,6⟩], [⟨nApple, 5,15⟩, ⟨nBerry, 5, y⟩, ⟨nCherry, 8,8⟩], [⟨0,0,1,20⟩, ⟨0,1,2,8⟩, ⟨1,1,1,6⟩, ⟨1,2,2,10⟩, ⟨0,2,2,9⟩]⟩
theorem ex_goes : goesP (exM 2 10) = ([0,1,2,3], 0) := by decide +kernel
theorem ex_can1 : canP (exM 2 10) [0,1,2] = (0,0) := by decide +kernel
theorem ex_can2 : canP (exM 2 10) [1,2] = (1,0) := by decide +kernel
theorem ex_can3 : canP (exM 3 15) [1] = (2,0) := by decide +kernel
theorem ex_can4 : canP (exM 2 10) [1,0] = (0,2) := by decide +kernel
theorem ex_proof1 : proofP (exM 2 10) [0,1,2] = ([0,1,2], 3,0) := by decide +kernel
theorem ex_proof2 : proofP (exM 2 10) [1,2] = ([], 0,9) := by decide +kernel
theorem ex_without : withoutP (exM 2 10) = ([0], 0) := by decide +kernel
theorem ex_give : giveP (exM 2 10) = ([0,8,2,8,0], 0) := by decide +kernel
theorem ex_more : moreP (exM 2 10) 0 = (3,0) := by decide +kernel
theorem ex_late : lateP (exM 3 10) 1 = (5,0) := by decide +kernel
end Go.Rt.Sh
set_option maxRecDepth 20000
namespace Go.Proofs.Sb
open Go.Proofs.Tryz
open Go.Rt Go.Rt.Sh
attribute [local irreducible] WL WC Con Yd At Ats Sl Agree DW
theorem Try_SP_fb4 (x0 : Int) (x1 : Int) (w : World) : (Instr.build 46 [(0, .int .i64 x0),(1, .int .i64 x1)].toArray).run Tryz.prog w = .ok (.agg #[.int .i64 x0, .int .i64 x1]) w := by kernel_rfl
theorem Try_SP_fb5 (x0 : ByteArray) (x1 : Int) (x2 : Int) (x3 : Int) (x4 : Int) (w : World) : (Instr.build 50 [(0, .string x0),(1, .agg #[.int .i64 x1, .int .i64 x2]),(2, .int .i64 x3),(3, .int .i64 x4)].toArray).run Tryz.prog w = .ok (.agg #[.string x0, .int .i64 x1, .int .i64 x2, .int .i64 x3, .int .i64 x4]) w := by kernel_rfl
theorem Try_SP_fb6 (x0 : ByteArray) (x1 : Int) (x2 : Int) (x3 : Int) (x4 : Int) (x5 : ByteArray) (x6 : Int) (x7 : Int) (x8 : Int) (x9 : Int) (w : World) : (Instr.buildSlice 27 2 [(0, .agg #[.string x0, .int .i64 x1, .int .i64 x2, .int .i64 x3, .int .i64 x4]),(1, .agg #[.string x5, .int .i64 x6, .int .i64 x7, .int .i64 x8, .int .i64 x9])].toArray).run Tryz.prog w = .ok (.slice (some ⟨w.heap.size, 0, none⟩) 2 2) (w.alloc (Go.Rt.blk 50 [.string x0, .int .i64 x1, .int .i64 x2, .int .i64 x3, .int .i64 x4, .string x5, .int .i64 x6, .int .i64 x7, .int .i64 x8, .int .i64 x9])) := by kernel_rfl
theorem zJr (x0 : ByteArray) (x1 : Int) (x2 : Int) (w : World) : (Instr.build 71 [(0, .string x0),(1, .int .i64 x1),(2, .int .i64 x2)].toArray).run Tryz.prog w = .ok (.agg #[.string x0, .int .i64 x1, .int .i64 x2]) w := by kernel_rfl
theorem Try_SP_fb8 (x0 : ByteArray) (x1 : Int) (x2 : Int) (x3 : ByteArray) (x4 : Int) (x5 : Int) (x6 : ByteArray) (x7 : Int) (x8 : Int) (w : World) : (Instr.buildSlice 28 3 [(0, .agg #[.string x0, .int .i64 x1, .int .i64 x2]),(1, .agg #[.string x3, .int .i64 x4, .int .i64 x5]),(2, .agg #[.string x6, .int .i64 x7, .int .i64 x8])].toArray).run Tryz.prog w = .ok (.slice (some ⟨w.heap.size, 0, none⟩) 3 3) (w.alloc (Go.Rt.blk 71 [.string x0, .int .i64 x1, .int .i64 x2, .string x3, .int .i64 x4, .int .i64 x5, .string x6, .int .i64 x7, .int .i64 x8])) := by kernel_rfl
theorem Try_SP_fb9 (x0 : Int) (x1 : Int) (w : World) : (Instr.build 55 [(2, .int .i64 x0),(3, .int .i64 x1)].toArray).run Tryz.prog w = .ok (.agg #[.int .i64 0, .int .i64 0, .int .i64 x0, .int .i64 x1]) w := by kernel_rfl
theorem Try_SP_fb10 (x0 : Int) (x1 : Int) (x2 : Int) (w : World) : (Instr.build 55 [(1, .int .i64 x0),(2, .int .i64 x1),(3, .int .i64 x2)].toArray).run Tryz.prog w = .ok (.agg #[.int .i64 0, .int .i64 x0, .int .i64 x1, .int .i64 x2]) w := by kernel_rfl
theorem Try_SP_fb11 (x0 : Int) (x1 : Int) (x2 : Int) (x3 : Int) (w : World) : (Instr.build 55 [(0, .int .i64 x0),(1, .int .i64 x1),(2, .int .i64 x2),(3, .int .i64 x3)].toArray).run Tryz.prog w = .ok (.agg #[.int .i64 x0, .int .i64 x1, .int .i64 x2, .int .i64 x3]) w := by kernel_rfl
theorem Try_SP_fb12 (x0 : Int) (x1 : Int) (x2 : Int) (x3 : Int) (x4 : Int) (x5 : Int) (x6 : Int) (x7 : Int) (x8 : Int) (x9 : Int) (x10 : Int) (x11 : Int) (x12 : Int) (x13 : Int) (x14 : Int) (x15 : Int) (x16 : Int) (x17 : Int) (x18 : Int) (x19 : Int) (w : World) : (Instr.buildSlice 29 5 [(0, .agg #[.int .i64 x0, .int .i64 x1, .int .i64 x2, .int .i64 x3]),(1, .agg #[.int .i64 x4, .int .i64 x5, .int .i64 x6, .int .i64 x7]),(2, .agg #[.int .i64 x8, .int .i64 x9, .int .i64 x10, .int .i64 x11]),(3, .agg #[.int .i64 x12, .int .i64 x13, .int .i64 x14, .int .i64 x15]),(4, .agg #[.int .i64 x16, .int .i64 x17, .int .i64 x18, .int .i64 x19])].toArray).run Tryz.prog w = .ok (.slice (some ⟨w.heap.size, 0, none⟩) 5 5) (w.alloc (Go.Rt.blk 55 [.int .i64 x0, .int .i64 x1, .int .i64 x2, .int .i64 x3, .int .i64 x4, .int .i64 x5, .int .i64 x6, .int .i64 x7, .int .i64 x8, .int .i64 x9, .int .i64 x10, .int .i64 x11, .int .i64 x12, .int .i64 x13, .int .i64 x14, .int .i64 x15, .int .i64 x16, .int .i64 x17, .int .i64 x18, .int .i64 x19])) := by kernel_rfl
theorem Try_SP_fb13 (x0 : Option Addr) (l0 c0 : Nat) (x1 : Option Addr) (l1 c1 : Nat) (x2 : Option Addr) (l2 c2 : Nat) (w : World) : (Instr.build 31 [(0, .slice x0 l0 c0),(1, .slice x1 l1 c1),(2, .slice x2 l2 c2)].toArray).run Tryz.prog w = .ok (.agg #[.slice x0 l0 c0, .slice x1 l1 c1, .slice x2 l2 c2]) w := by kernel_rfl
theorem zHy (x0 : Int) (x1 : Int) (x2 : Int) (w : World) : (Instr.buildSlice 43 3 [(0, .int .i64 x0),(1, .int .i64 x1),(2, .int .i64 x2)].toArray).run Tryz.prog w = .ok (.slice (some ⟨w.heap.size, 0, none⟩) 3 3) (w.alloc (Go.Rt.blk 3 [.int .i64 x0, .int .i64 x1, .int .i64 x2])) := by kernel_rfl
theorem zHx (x0 : Int) (x1 : Int) (w : World) : (Instr.buildSlice 43 2 [(0, .int .i64 x0),(1, .int .i64 x1)].toArray).run Tryz.prog w = .ok (.slice (some ⟨w.heap.size, 0, none⟩) 2 2) (w.alloc (Go.Rt.blk 3 [.int .i64 x0, .int .i64 x1])) := by kernel_rfl
theorem Try_SP_fb16 (x0 : Int) (w : World) : (Instr.buildSlice 43 1 [(0, .int .i64 x0)].toArray).run Tryz.prog w = .ok (.slice (some ⟨w.heap.size, 0, none⟩) 1 1) (w.alloc (Go.Rt.blk 3 [.int .i64 x0])) := by kernel_rfl
theorem Try_SP_fb17 (x0 : Int) (x1 : Int) (x2 : Int) (x3 : Int) (w : World) : (Instr.buildSlice 43 4 [(0, .int .i64 x0),(1, .int .i64 x1),(2, .int .i64 x2),(3, .int .i64 x3)].toArray).run Tryz.prog w = .ok (.slice (some ⟨w.heap.size, 0, none⟩) 4 4) (w.alloc (Go.Rt.blk 3 [.int .i64 x0, .int .i64 x1, .int .i64 x2, .int .i64 x3])) := by kernel_rfl
theorem Try_SP_fb18 (x0 : Int) (x1 : Int) (x2 : Int) (x3 : Int) (x4 : Int) (w : World) : (Instr.buildSlice 43 5 [(0, .int .i64 x0),(1, .int .i64 x1),(2, .int .i64 x2),(3, .int .i64 x3),(4, .int .i64 x4)].toArray).run Tryz.prog w = .ok (.slice (some ⟨w.heap.size, 0, none⟩) 5 5) (w.alloc (Go.Rt.blk 3 [.int .i64 x0, .int .i64 x1, .int .i64 x2, .int .i64 x3, .int .i64 x4])) := by kernel_rfl
theorem gen_Z {w0 w : World} {L : List (Nat × Obj)} (hs : St w0 w L) : ∃ Z, Z = L ∧ St w0 w Z := ⟨L, rfl, hs⟩
theorem zD8 {k : FuncId} {args : List Value} {w : World} {x : Bool} {S : World → Prop} (h : Con Tryz.prog k args w fun v w' => v = .bool x ∧ S w') (hx : x = true) : Con Tryz.prog k args w fun v w' => v = .bool true ∧ S w' := by subst hx; exact h
theorem drop_4th {w0 w : World} {F : List (Nat × Obj)} {a b c d : Nat × Obj} (h : St w0 w (a :: b :: c :: d :: F)) : St w0 w (a :: b :: c :: F) := (h.perm (zBc [a, b, c] [d] F)).tail
theorem ex_min {w0 : World} {L : List (Nat × Obj)} {i1 i2 i3 bt bs br : Nat} {x y : Int} (ht : L[i1]? = some (bt, blk 55 (trows (exM x y).trains).flatten)) (hs : L[i2]? = some (bs, blk 71 (srows (exM x y).shops).flatten)) (hr : L[i3]? = some (br, blk 50 (rrows (exM x y).rooms).flatten)) : MIn w0 L (exM x y) ⟨some ⟨br, 0, none⟩, 2, some ⟨bs, 0, none⟩, 3, some ⟨bt, 0, none⟩, 5⟩ where
  r := zBt hr (by intro row h; obtain ⟨q, _, rfl⟩ := List.mem_map.1 h; rfl) rfl
  s := zBt hs (by intro row h; obtain ⟨q, _, rfl⟩ := List.mem_map.1 h; rfl) rfl
  t := zBt ht (by intro row h; obtain ⟨q, _, rfl⟩ := List.mem_map.1 h; rfl) rfl
  lr := by simp [exM]
  ls := by simp [exM]
  lt := by simp [exM]
  cr := by simp [exM]
  cs := by simp [exM]
  ct := by simp [exM]
  nr := by intro q hq; simp only [exM, List.mem_cons, List.not_mem_nil, or_false] at hq; rcases hq with rfl | rfl <;> (dsimp only; decide)
  ns := by intro q hq; simp only [exM, List.mem_cons, List.not_mem_nil, or_false] at hq; rcases hq with rfl | rfl | rfl <;> (dsimp only; decide)
theorem c66 {w0 w : World} {F : List (Nat × Obj)} (x y : Int) (hs : St w0 w F) :
  Con Tryz.prog 66 [.int .i64 x, .int .i64 y] w fun v w' => v = .agg #[.int .i64 x, .int .i64 y] ∧ St w0 w' F := by
  refine zAt (n := 8) func66 rfl rfl (zNl rfl) ?_
  refine zAe (fun K2 g3 => (zAa (zBf (cs := [_,_]) zAc zeroValue46 rfl hs (fun b3 w4 g4 => ?_))))
  refine zAd (zAb (g3 _ _ (zAe (fun K7 g5 => (zAa (zAz rfl rfl (zAz rfl rfl (w_p (zBv (ps := [(0, _),(1, _)]) (pv := [(0, .int _ _),(1, .int _ _)]) rfl rfl (fun w => Try_SP_fb4 _ _ w)) rfl ?_))))))))
  refine zA6 (i := 0) (v := .agg #[.int _ _, .int _ _]) (vs := [_,_]) zAc sizeOf46 rfl rfl rfl rfl rfl (by simp [Value.oneCell']) g4 rfl (zNl rfl) (fun w8 g0 => ?_)
  refine zAd (zAb (g5 _ _ (zAy (zA1 (l := [.cell 4 46]) (vs := [_]) rfl ⟨⟨rfl, _, rfl, zB9 (vs := [_,_]) isAgg46 sizeOf46 g0 (zAk (i := 0) (vs := [_,_]) rfl rfl)⟩, trivial⟩ ?_))))
  exact ⟨rfl, g0.tail⟩

theorem c33 {w0 w : World} {F : List (Nat × Obj)} (x y : Int) (hs : St w0 w F) :
  Con Tryz.prog 33 [.int .i64 x, .int .i64 y] w fun v w' => ∃ bt bs br, v = .agg #[.slice (some ⟨br, 0, none⟩) 2 2, .slice (some ⟨bs, 0, none⟩) 3 3, .slice (some ⟨bt, 0, none⟩) 5 5] ∧ St w0 w' ((bt, blk 55 (trows (exM x y).trains).flatten) :: (bs, blk 71 (srows (exM x y).shops).flatten) :: (br, blk 50 (rrows (exM x y).rooms).flatten) :: F) := by
  refine zAt (n := 23) func33 rfl rfl (zNl rfl) ?_
  refine zAe (fun K2 g3 => (zAa (zBf (cs := [_,_,_]) zAc zeroValue31 rfl hs (fun b3 w4 g4 => ?_))))
  refine zAd (zAb (g3 _ _ (zAe (fun K7 g5 => (zAa (zAr zAc call66 rfl rfl rfl rfl (c66 _ _ g4) ?_))))))
  rintro _ w9 ⟨rfl, g6⟩
  refine zAz rfl rfl (w_p (zBv (ps := [(0, _),(1, _),(2, _),(3, _)]) (pv := [(0, .string _),(1, .agg #[.int _ _, .int _ _]),(2, .int _ _),(3, .int _ _)]) rfl rfl (fun w => Try_SP_fb5 _ _ _ _ _ w)) rfl ?_)
  refine zAr zAc call66 rfl rfl rfl rfl (c66 _ _ g6) ?_
  rintro _ gb ⟨rfl, g7⟩
  refine w_p (zBv (ps := [(0, _),(1, _),(2, _),(3, _)]) (pv := [(0, .string _),(1, .agg #[.int _ _, .int _ _]),(2, .int _ _),(3, .int _ _)]) rfl rfl (fun w => Try_SP_fb5 _ _ _ _ _ w)) rfl ?_
  refine zBb (ps := [(0, _),(1, _)]) (pv := [(0, .agg #[.string _, .int _ _, .int _ _, .int _ _, .int _ _]),(1, .agg #[.string _, .int _ _, .int _ _, .int _ _, .int _ _])]) (cs := [_,_,_,_,_,_,_,_,_,_]) zAc rfl rfl (fun w => Try_SP_fb6 _ _ _ _ _ _ _ _ _ _ w) g7 (fun gc gd g8 => ?_)
  refine w_p (zBv (ps := [(0, _),(1, _),(2, _)]) (pv := [(0, .string _),(1, .int _ _),(2, .int _ _)]) rfl rfl (fun w => zJr _ _ _ w)) rfl (zAz rfl rfl (w_p (zBv (ps := [(0, _),(1, _),(2, _)]) (pv := [(0, .string _),(1, .int _ _),(2, .int _ _)]) rfl rfl (fun w => zJr _ _ _ w)) rfl ?_))
  refine w_p (zBv (ps := [(0, _),(1, _),(2, _)]) (pv := [(0, .string _),(1, .int _ _),(2, .int _ _)]) rfl rfl (fun w => zJr _ _ _ w)) rfl (zBb (ps := [(0, _),(1, _),(2, _)]) (pv := [(0, .agg #[.string _, .int _ _, .int _ _]),(1, .agg #[.string _, .int _ _, .int _ _]),(2, .agg #[.string _, .int _ _, .int _ _])]) (cs := [_,_,_,_,_,_,_,_,_]) zAc rfl rfl (fun w => Try_SP_fb8 _ _ _ _ _ _ _ _ _ w) g8 (fun gf gg g9 => ?_))
  refine w_p (zBv (ps := [(2, _),(3, _)]) (pv := [(2, .int _ _),(3, .int _ _)]) rfl rfl (fun w => Try_SP_fb9 _ _ w)) rfl (w_p (zBv (ps := [(1, _),(2, _),(3, _)]) (pv := [(1, .int _ _),(2, .int _ _),(3, .int _ _)]) rfl rfl (fun w => Try_SP_fb10 _ _ _ w)) rfl ?_)
  refine w_p (zBv (ps := [(0, _),(1, _),(2, _),(3, _)]) (pv := [(0, .int _ _),(1, .int _ _),(2, .int _ _),(3, .int _ _)]) rfl rfl (fun w => Try_SP_fb11 _ _ _ _ w)) rfl ?_
  refine w_p (zBv (ps := [(0, _),(1, _),(2, _),(3, _)]) (pv := [(0, .int _ _),(1, .int _ _),(2, .int _ _),(3, .int _ _)]) rfl rfl (fun w => Try_SP_fb11 _ _ _ _ w)) rfl ?_
  refine w_p (zBv (ps := [(1, _),(2, _),(3, _)]) (pv := [(1, .int _ _),(2, .int _ _),(3, .int _ _)]) rfl rfl (fun w => Try_SP_fb10 _ _ _ w)) rfl (zBb (ps := [(0, _),(1, _),(2, _),(3, _),(4, _)]) (pv := [(0, .agg #[.int _ _, .int _ _, .int _ _, .int _ _]),(1, .agg #[.int _ _, .int _ _, .int _ _, .int _ _]),(2, .agg #[.int _ _, .int _ _, .int _ _, .int _ _]),(3, .agg #[.int _ _, .int _ _, .int _ _, .int _ _]),(4, .agg #[.int _ _, .int _ _, .int _ _, .int _ _])]) (cs := [_,_,_,_,_,_,_,_,_,_,_,_,_,_,_,_,_,_,_,_]) zAc rfl rfl (fun w => Try_SP_fb12 _ _ _ _ _ _ _ _ _ _ _ _ _ _ _ _ _ _ _ _ w) g9 (fun gh gi ga => ?_))
  refine w_p (zBv (ps := [(0, _),(1, _),(2, _)]) (pv := [(0, .slice _ _ _),(1, .slice _ _ _),(2, .slice _ _ _)]) rfl rfl (fun w => Try_SP_fb13 _ _ _ _ _ _ _ _ _ w)) rfl (zA6 (i := 3) (v := .agg #[.slice _ _ _, .slice _ _ _, .slice _ _ _]) (vs := [_,_,_]) zAc sizeOf31 rfl rfl rfl rfl rfl (by simp [Value.oneCell']) ga rfl (zNl rfl) (fun gj g0 => ?_))
  refine zAd (zAb (g5 _ _ (zAy (zA1 (l := [.cell 4 31]) (vs := [_]) rfl ⟨⟨rfl, _, rfl, zB9 (vs := [_,_,_]) isAgg31 sizeOf31 g0 (zAk (i := 3) (vs := [_,_,_]) rfl rfl)⟩, trivial⟩ ?_))))
  exact ⟨_, _,_, rfl, drop_4th g0⟩

theorem c8 {w0 w : World} {F : List (Nat × Obj)}  (hs : St w0 w F) :
  Con Tryz.prog 8 [] w fun v w' => v = .bool true ∧ St w0 w' F := by
  refine zAt (n := 178) func8 rfl rfl (zNl rfl) ?_
  refine zAe (fun K2 gc => (zAa (zA5 rfl rfl (zAd (zAb (gc _ _ (zAe (fun K4 gd => (zAa (zAr zAc call33 rfl rfl rfl rfl (c33 2 10 hs) ?_))))))))))
  rintro _ w6 ⟨t1, s1, r1, rfl, gf⟩
  refine zAr zAc call33 rfl rfl rfl rfl (c33 3 10 gf) ?_
  rintro _ w9 ⟨t2, s2, r2, rfl, gg⟩
  refine zBf (cs := [_,_,_]) zAc zeroValue31 rfl gg (fun gh hX gi => ?_)
  refine zBf (cs := [_,_,_]) zAc zeroValue31 rfl gi (fun gj hY gk => ?_)
  refine zA6 (i := 1) (v := .agg #[.slice _ _ _, .slice _ _ _, .slice _ _ _]) (vs := [_,_,_]) zAc sizeOf31 rfl rfl rfl rfl rfl (by simp [Value.oneCell']) gk rfl (zNl rfl) (fun j0 gm => ?_)
  refine zA6 (i := 0) (v := .agg #[.slice _ _ _, .slice _ _ _, .slice _ _ _]) (vs := [_,_,_]) zAc sizeOf31 rfl rfl rfl rfl rfl (by simp [Value.oneCell']) gm rfl (zNl rfl) (fun j1 gn => ?_)
  refine zAd (zAb (gd _ _ (zAe (fun j2 gq => ?_))))
  obtain ⟨Z, hZ, hsZ⟩ := gen_Z gn
  have hP1 : Ats w0 Z gh 0 ((exM 2 10).cells ⟨some ⟨r1,0, none⟩, 2, some ⟨s1,0, none⟩, 3, some ⟨t1,0, none⟩, 5⟩) := by rw [hZ]; exact zAk (i := 1) (vs := [_,_,_]) rfl rfl
  have g0 : MIn w0 Z (exM 2 10) ⟨some ⟨r1,0, none⟩, 2, some ⟨s1,0, none⟩, 3, some ⟨t1,0, none⟩, 5⟩ := by rw [hZ]; exact ex_min (i1 := 5) (i2 := 6) (i3 := 7) rfl rfl rfl
  have hP2 : Ats w0 Z gj 0 ((exM 3 10).cells ⟨some ⟨r2,0, none⟩, 2, some ⟨s2,0, none⟩, 3, some ⟨t2,0, none⟩, 5⟩) := by rw [hZ]; exact zAk (i := 0) (vs := [_,_,_]) rfl rfl
  have gr : MIn w0 Z (exM 3 10) ⟨some ⟨r2,0, none⟩, 2, some ⟨s2,0, none⟩, 3, some ⟨t2,0, none⟩, 5⟩ := by rw [hZ]; exact ex_min (i1 := 2) (i2 := 3) (i3 := 4) rfl rfl rfl
  refine zAa (w_p (zA4 (vs := [_,_,_]) isAgg31 sizeOf31 hsZ rfl rfl hP1) rfl (zAr zAc call34 rfl rfl rfl rfl ((c34 (exM 2 10) ⟨some ⟨r1,0, none⟩, 2, some ⟨s1,0, none⟩, 3, some ⟨t1,0, none⟩, 5⟩ g0 hsZ).mono (fun v w' h => by rw [ex_goes] at h; exact h)) ?_))
  rintro _ j3 ⟨B1, a1, c1, rfl, hq1, g3⟩
  replace g3 := (show St _ _ (B1 ++ (Z)) from g3)
  refine w_p (zAi (v := .tuple _) rfl rfl) rfl (w_p (zAp (v := .slice _ _ _) rfl rfl rfl) rfl (w_p (zAp (v := .int _ _) rfl rfl rfl) rfl (w_p (zAo (v := .slice _ _ _) rfl rfl) rfl (zBe rfl rfl (zAd (zAb (gq _ _ (zAe (fun j4 gt => (zAa (w_p (zA4 (vs := [_,_,_]) isAgg31 sizeOf31 g3.drop rfl rfl hP1) rfl ?_)))))))))))
  refine zBb (ps := [(0, _),(1, _),(2, _)]) (pv := [(0, .int _ _),(1, .int _ _),(2, .int _ _)]) (cs := [_,_,_]) zAc rfl rfl (fun w => zHy _ _ _ w) g3 (fun gu j5 gv => ?_)
  refine zAr zAc call35 rfl rfl rfl rfl ((c35 (exM 2 10) ⟨some ⟨r1,0, none⟩, 2, some ⟨s1,0, none⟩, 3, some ⟨t1,0, none⟩, 5⟩ g0.app.cons (some ⟨gu,0, none⟩) 3 [0,1,2] (by decide) (zBt (i := 0) (rows := [[_], [_], [_]]) rfl (by simp) rfl) gv).mono (fun v w' h => by rw [ex_can1] at h; exact h)) ?_
  rintro _ j6 ⟨rfl, g8⟩
  refine w_p (zAi (v := .tuple _) rfl rfl) rfl (w_p (zAp (v := .int _ _) rfl rfl rfl) rfl (w_p (zAp (v := .int _ _) rfl rfl rfl) rfl (zBe rfl rfl (zBe rfl rfl (zAd (zAb (gt _ _ (zAe (fun j7 gw => (zAa (w_p (zA4 (vs := [_,_,_]) isAgg31 sizeOf31 g8.tail.drop rfl rfl hP1) rfl ?_)))))))))))
  refine zBb (ps := [(0, _),(1, _)]) (pv := [(0, .int _ _),(1, .int _ _)]) (cs := [_,_]) zAc rfl rfl (fun w => zHx _ _ w) g8 (fun gx j8 gy => ?_)
  refine zAr zAc call35 rfl rfl rfl rfl ((c35 (exM 2 10) ⟨some ⟨r1,0, none⟩, 2, some ⟨s1,0, none⟩, 3, some ⟨t1,0, none⟩, 5⟩ g0.app.cons.cons (some ⟨gx,0, none⟩) 2 [1,2] (by decide) (zBt (i := 0) (rows := [[_], [_]]) rfl (by simp) rfl) gy).mono (fun v w' h => by rw [ex_can2] at h; exact h)) ?_
  rintro _ j9 ⟨rfl, gz⟩
  refine w_p (zAi (v := .tuple _) rfl rfl) rfl (w_p (zAp (v := .int _ _) rfl rfl rfl) rfl (w_p (zAp (v := .int _ _) rfl rfl rfl) rfl (zBe rfl rfl (zBe rfl rfl (zAd (zAb (gw _ _ (zAe (fun ja gA => (zAa (zAr zAc call33 rfl rfl rfl rfl (c33 3 15 gz) ?_)))))))))))
  rintro _ jb ⟨t3, s3, r3, rfl, gB⟩
  refine zBb (ps := [(0, _)]) (pv := [(0, .int _ _)]) (cs := [_]) zAc rfl rfl (fun w => Try_SP_fb16 _ w) gB (fun gC jc gE => ?_)
  refine zAr zAc call35 rfl rfl rfl rfl ((c35 (exM 3 15) ⟨some ⟨r3,0, none⟩, 2, some ⟨s3,0, none⟩, 3, some ⟨t3,0, none⟩, 5⟩ (ex_min (i1 := 1) (i2 := 2) (i3 := 3) rfl rfl rfl) (some ⟨gC,0, none⟩) 1 [1] (by decide) (zBt (i := 0) (rows := [[_]]) rfl (by simp) rfl) gE).mono (fun v w' h => by rw [ex_can3] at h; exact h)) ?_
  rintro _ jd ⟨rfl, g9⟩
  refine w_p (zAi (v := .tuple _) rfl rfl) rfl (w_p (zAp (v := .int _ _) rfl rfl rfl) rfl (w_p (zAp (v := .int _ _) rfl rfl rfl) rfl (zBe rfl rfl (zBe rfl rfl (zAd (zAb (gA _ _ (zAe (fun je gF => (zAa (w_p (zA4 (vs := [_,_,_]) isAgg31 sizeOf31 g9.tail.tail.tail.tail.tail.tail.drop rfl rfl hP1) rfl ?_)))))))))))
  refine zBb (ps := [(0, _),(1, _),(2, _)]) (pv := [(0, .int _ _),(1, .int _ _),(2, .int _ _)]) (cs := [_,_,_]) zAc rfl rfl (fun w => zHy _ _ _ w) g9 (fun gG jf gH => ?_)
  refine zAr zAc call36 rfl rfl rfl rfl ((c36 (exM 2 10) ⟨some ⟨r1,0, none⟩, 2, some ⟨s1,0, none⟩, 3, some ⟨t1,0, none⟩, 5⟩ g0.app.cons.cons.cons.cons.cons.cons.cons (some ⟨gG,0, none⟩) 3 [0,1,2] (by decide) (zBt (i := 0) (rows := [[_], [_], [_]]) rfl (by simp) rfl) gH).mono (fun v w' h => by rw [ex_proof1] at h; exact h)) ?_
  rintro _ jg ⟨B2, a2, c2, rfl, hq2, g4⟩
  replace g4 := (show St _ _ (B2 ++ (_ :: _ :: _ :: _ :: _ :: _ :: _ :: B1 ++ (Z))) from g4)
  refine w_p (zAi (v := .tuple _) rfl rfl) rfl (w_p (zAp (v := .slice _ _ _) rfl rfl rfl) rfl (w_p (zAp (v := .int _ _) rfl rfl rfl) rfl (w_p (zAp (v := .int _ _) rfl rfl rfl) rfl (w_p (zAo (v := .slice _ _ _) rfl rfl) rfl ?_))))
  refine zBe rfl rfl (zBe rfl rfl (zAd (zAb (gF _ _ (zAe (fun jh gI => (zAa (w_p (zA4 (vs := [_,_,_]) isAgg31 sizeOf31 g4.drop.tail.tail.tail.tail.tail.tail.tail.drop rfl rfl hP1) rfl (zBb (ps := [(0, _),(1, _)]) (pv := [(0, .int _ _),(1, .int _ _)]) (cs := [_,_]) zAc rfl rfl (fun w => zHx _ _ w) g4 (fun gJ ji gK => ?_))))))))))
  refine zAr zAc call36 rfl rfl rfl rfl ((c36 (exM 2 10) ⟨some ⟨r1,0, none⟩, 2, some ⟨s1,0, none⟩, 3, some ⟨t1,0, none⟩, 5⟩ g0.app.cons.cons.cons.cons.cons.cons.cons.app.cons (some ⟨gJ,0, none⟩) 2 [1,2] (by decide) (zBt (i := 0) (rows := [[_], [_]]) rfl (by simp) rfl) gK).mono (fun v w' h => by rw [ex_proof2] at h; exact h)) ?_
  rintro _ jj ⟨B3, a3, c3, rfl, hq3, g5⟩
  replace g5 := (show St _ _ (B3 ++ (_ :: B2 ++ (_ :: _ :: _ :: _ :: _ :: _ :: _ :: B1 ++ (Z)))) from g5)
  refine w_p (zAi (v := .tuple _) rfl rfl) rfl (w_p (zAp (v := .slice _ _ _) rfl rfl rfl) rfl (w_p (zAp (v := .int _ _) rfl rfl rfl) rfl (w_p (zAp (v := .int _ _) rfl rfl rfl) rfl (w_p (zAo (v := .slice _ _ _) rfl rfl) rfl ?_))))
  refine zBe rfl rfl (zBe rfl rfl (zAd (zAb (gI _ _ (zAe (fun jk gL => (zAa (w_p (zA4 (vs := [_,_,_]) isAgg31 sizeOf31 g5.drop.tail.drop.tail.tail.tail.tail.tail.tail.tail.drop rfl rfl hP1) rfl (zAr zAc call12 rfl rfl rfl rfl ((c12 (exM 2 10) ⟨some ⟨r1,0, none⟩, 2, some ⟨s1,0, none⟩, 3, some ⟨t1,0, none⟩, 5⟩ g0.app.cons.cons.cons.cons.cons.cons.cons.app.cons.app g5).mono (fun v w' h => by rw [ex_without] at h; exact h)) ?_)))))))))
  rintro _ jl ⟨B4, a4, c4, rfl, hq4, g6⟩
  replace g6 := (show St _ _ (B4 ++ (B3 ++ (_ :: B2 ++ (_ :: _ :: _ :: _ :: _ :: _ :: _ :: B1 ++ (Z))))) from g6)
  refine w_p (zAi (v := .tuple _) rfl rfl) rfl (w_p (zAp (v := .slice _ _ _) rfl rfl rfl) rfl (w_p (zAp (v := .int _ _) rfl rfl rfl) rfl (w_p (zAo (v := .slice _ _ _) rfl rfl) rfl (zBe rfl rfl (zAd (zAb (gL _ _ (zAe (fun jm gM => (zAa (w_p (zA4 (vs := [_,_,_]) isAgg31 sizeOf31 g6.drop.drop.tail.drop.tail.tail.tail.tail.tail.tail.tail.drop rfl rfl hP1) rfl ?_)))))))))))
  refine zAr zAc call11 rfl rfl rfl rfl ((c11 (exM 2 10) ⟨some ⟨r1,0, none⟩, 2, some ⟨s1,0, none⟩, 3, some ⟨t1,0, none⟩, 5⟩ g0.app.cons.cons.cons.cons.cons.cons.cons.app.cons.app.app g6).mono (fun v w' h => by rw [ex_give] at h; exact h)) ?_
  rintro _ jn ⟨B5, a5, c5, rfl, hq5, g7⟩
  replace g7 := (show St _ _ (B5 ++ (B4 ++ (B3 ++ (_ :: B2 ++ (_ :: _ :: _ :: _ :: _ :: _ :: _ :: B1 ++ (Z)))))) from g7)
  refine w_p (zAi (v := .tuple _) rfl rfl) rfl (w_p (zAp (v := .slice _ _ _) rfl rfl rfl) rfl (w_p (zAp (v := .int _ _) rfl rfl rfl) rfl (w_p (zAo (v := .slice _ _ _) rfl rfl) rfl (zBe rfl rfl (zAd (zAb (gM _ _ (zAe (fun jo gN => (zAa (w_p (zA4 (vs := [_,_,_]) isAgg31 sizeOf31 g7.drop.drop.drop.tail.drop.tail.tail.tail.tail.tail.tail.tail.drop rfl rfl hP1) rfl ?_)))))))))))
  refine zAr zAc call37 rfl rfl rfl rfl ((c37 (exM 2 10) ⟨some ⟨r1,0, none⟩, 2, some ⟨s1,0, none⟩, 3, some ⟨t1,0, none⟩, 5⟩ g0.app.cons.cons.cons.cons.cons.cons.cons.app.cons.app.app.app 0 g7).mono (fun v w' h => by rw [ex_more] at h; exact h)) ?_
  rintro _ jp ⟨rfl, ga⟩
  refine w_p (zAi (v := .tuple _) rfl rfl) rfl (w_p (zAp (v := .int _ _) rfl rfl rfl) rfl (w_p (zAp (v := .int _ _) rfl rfl rfl) rfl (zBe rfl rfl (zBe rfl rfl (zAd (zAb (gN _ _ (zAe (fun jq gP => (zAa (w_p (zA4 (vs := [_,_,_]) isAgg31 sizeOf31 ga.drop.drop.drop.tail.drop.tail.tail.tail.tail.tail.tail.tail.drop rfl rfl hP2) rfl ?_)))))))))))
  refine zAr zAc call38 rfl rfl rfl rfl ((c38 (exM 3 10) ⟨some ⟨r2,0, none⟩, 2, some ⟨s2,0, none⟩, 3, some ⟨t2,0, none⟩, 5⟩ gr.app.cons.cons.cons.cons.cons.cons.cons.app.cons.app.app.app 1 ga).mono (fun v w' h => by rw [ex_late] at h; exact h)) ?_
  rintro _ jr ⟨rfl, gb⟩
  refine w_p (zAi (v := .tuple _) rfl rfl) rfl (w_p (zAp (v := .int _ _) rfl rfl rfl) rfl (w_p (zAp (v := .int _ _) rfl rfl rfl) rfl (zBe rfl rfl (zBe rfl rfl (zAd (zAb (gP _ _ (zAe (fun js gQ => (zAa (w_p (zA4 (vs := [_,_,_]) isAgg31 sizeOf31 gb.drop.drop.drop.tail.drop.tail.tail.tail.tail.tail.tail.tail.drop rfl rfl hP1) rfl ?_)))))))))))
  refine zBb (ps := [(0, _),(1, _)]) (pv := [(0, .int _ _),(1, .int _ _)]) (cs := [_,_]) zAc rfl rfl (fun w => zHx _ _ w) gb (fun gR jt gS => ?_)
  refine zAr zAc call35 rfl rfl rfl rfl ((c35 (exM 2 10) ⟨some ⟨r1,0, none⟩, 2, some ⟨s1,0, none⟩, 3, some ⟨t1,0, none⟩, 5⟩ g0.app.cons.cons.cons.cons.cons.cons.cons.app.cons.app.app.app.cons (some ⟨gR,0, none⟩) 2 [1,0] (by decide) (zBt (i := 0) (rows := [[_], [_]]) rfl (by simp) rfl) gS).mono (fun v w' h => by rw [ex_can4] at h; exact h)) ?_
  rintro _ ju ⟨rfl, gU⟩
  refine w_p (zAi (v := .tuple _) rfl rfl) rfl (w_p (zAp (v := .int _ _) rfl rfl rfl) rfl (w_p (zAp (v := .int _ _) rfl rfl rfl) rfl (zBe rfl rfl (zBe rfl rfl (zAd (zAb (gQ _ _ (zAe (fun jv gV => (zAa (zAz rfl rfl ?_)))))))))))
  refine w_p (zB6 rfl rfl rfl rfl) rfl (w_p (zAi (v := .bool _) rfl rfl) rfl (w_y rfl rfl rfl (zA2 rfl rfl) rfl (w_y rfl rfl rfl (zB6 rfl rfl rfl rfl) rfl (w_p (zAx (v := .bool _) rfl rfl rfl rfl) rfl (w_p (zAi (v := .bool _) rfl rfl) rfl ?_)))))
  refine w_y rfl rfl rfl (zA2 rfl rfl) rfl ?_
  refine w_y rfl rfl rfl (zB6 rfl rfl rfl rfl) rfl ?_
  refine w_p (zAx (v := .bool _) rfl rfl rfl rfl) rfl (w_p (zAi (v := .bool _) rfl rfl) rfl (w_y rfl rfl rfl (zA2 rfl rfl) rfl (w_y rfl rfl rfl (zB6 rfl rfl rfl rfl) rfl (w_p (zAx (v := .bool _) rfl rfl rfl rfl) rfl ?_))))
  refine w_p (zAi (v := .bool _) rfl rfl) rfl (w_y rfl rfl rfl (zA2 rfl rfl) rfl (w_y rfl rfl rfl (zB6 rfl rfl rfl rfl) rfl (w_p (zAx (v := .bool _) rfl rfl rfl rfl) rfl (w_p (zAi (v := .bool _) rfl rfl) rfl ?_))))
  refine w_y rfl rfl rfl (zA2 rfl rfl) rfl ?_
  refine w_y rfl rfl rfl (zB6 rfl rfl rfl rfl) rfl ?_
  refine w_p (zAx (v := .bool _) rfl rfl rfl rfl) rfl (w_p (zAi (v := .bool _) rfl rfl) rfl (w_y rfl rfl rfl (zA2 rfl rfl) rfl (w_y rfl rfl rfl (zB6 rfl rfl rfl rfl) rfl (w_p (zAx (v := .bool _) rfl rfl rfl rfl) rfl ?_))))
  refine w_p (zAi (v := .bool _) rfl rfl) rfl (w_y rfl rfl rfl (zA2 rfl rfl) rfl (w_y rfl rfl rfl (zB6 rfl rfl rfl rfl) rfl (w_p (zAx (v := .bool _) rfl rfl rfl rfl) rfl (w_p (zAi (v := .bool _) rfl rfl) rfl ?_))))
  refine w_y rfl rfl rfl (zA2 rfl rfl) rfl ?_
  refine w_y rfl rfl rfl (zB6 rfl rfl rfl rfl) rfl ?_
  refine w_p (zAx (v := .bool _) rfl rfl rfl rfl) rfl (w_p (zAi (v := .bool _) rfl rfl) rfl (w_y rfl rfl rfl (zA2 rfl rfl) rfl (w_y rfl rfl rfl (zB6 rfl rfl rfl rfl) rfl (w_p (zAx (v := .bool _) rfl rfl rfl rfl) rfl ?_))))
  refine w_p (zAi (v := .bool _) rfl rfl) rfl (w_y rfl rfl rfl (zA2 rfl rfl) rfl (w_y rfl rfl rfl (zB6 rfl rfl rfl rfl) rfl (w_p (zAx (v := .bool _) rfl rfl rfl rfl) rfl (w_p (zAi (v := .bool _) rfl rfl) rfl ?_))))
  refine w_y rfl rfl rfl (zAi (v := .slice _ _ _) rfl rfl) rfl ?_
  refine zBb (ps := [(0, _),(1, _),(2, _),(3, _)]) (pv := [(0, .int _ _),(1, .int _ _),(2, .int _ _),(3, .int _ _)]) (cs := [_,_,_,_]) (zAq rfl rfl rfl) rfl rfl (fun w => Try_SP_fb17 _ _ _ _ w) gU (fun jw jx gW => ?_)
  refine zAr (zAq rfl rfl rfl) call31 rfl rfl rfl rfl (zD8 (c31 _ _ [0,1,2,3] [0,1,2,3] _ _ (by decide) hq1.top.cons.cons.cons.cons.cons.cons.cons.app.cons.app.app.app.cons.cons (zBt (i := 0) (rows := [[_], [_], [_], [_]]) rfl (by simp) rfl) gW) (by decide)) ?_
  rintro _ jy ⟨rfl, gX⟩
  refine w_p (zAx (v := .bool _) rfl rfl rfl rfl) rfl (w_p (zAi (v := .bool _) rfl rfl) rfl (w_y rfl rfl rfl (zA2 rfl rfl) rfl (w_y rfl rfl rfl (zB6 rfl rfl rfl rfl) rfl (w_p (zAx (v := .bool _) rfl rfl rfl rfl) rfl ?_))))
  refine w_p (zAi (v := .bool _) rfl rfl) rfl (w_y rfl rfl rfl (zA2 rfl rfl) rfl (w_y rfl rfl rfl (zB6 rfl rfl rfl rfl) rfl (w_p (zAx (v := .bool _) rfl rfl rfl rfl) rfl (w_p (zAi (v := .bool _) rfl rfl) rfl ?_))))
  refine w_y rfl rfl rfl (zA2 rfl rfl) rfl ?_
  refine w_y rfl rfl rfl (zB6 rfl rfl rfl rfl) rfl ?_
  refine w_p (zAx (v := .bool _) rfl rfl rfl rfl) rfl (w_p (zAi (v := .bool _) rfl rfl) rfl (w_y rfl rfl rfl (zAi (v := .slice _ _ _) rfl rfl) rfl (zBb (ps := [(0, _),(1, _),(2, _)]) (pv := [(0, .int _ _),(1, .int _ _),(2, .int _ _)]) (cs := [_,_,_]) (zAq rfl rfl rfl) rfl rfl (fun w => zHy _ _ _ w) gX (fun jz jA gY => ?_))))
  refine zAr (zAq rfl rfl rfl) call31 rfl rfl rfl rfl (zD8 (c31 _ _ [0,1,2] [0,1,2] _ _ (by decide) hq2.top.cons.app.app.app.cons.cons.cons (zBt (i := 0) (rows := [[_], [_], [_]]) rfl (by simp) rfl) gY) (by decide)) ?_
  rintro _ jB ⟨rfl, gZ⟩
  refine w_p (zAx (v := .bool _) rfl rfl rfl rfl) rfl (w_p (zAi (v := .bool _) rfl rfl) rfl (w_y rfl rfl rfl (zA2 rfl rfl) rfl (w_y rfl rfl rfl (zB6 rfl rfl rfl rfl) rfl (w_p (zAx (v := .bool _) rfl rfl rfl rfl) rfl ?_))))
  refine w_p (zAi (v := .bool _) rfl rfl) rfl (w_y rfl rfl rfl (zAi (v := .slice _ _ _) rfl rfl) rfl (zBb (ps := [(0, _)]) (pv := [(0, .int _ _)]) (cs := [_]) (zAq rfl rfl rfl) rfl rfl (fun w => Try_SP_fb16 _ w) gZ (fun jC jD hD => ?_)))
  refine zAr (zAq rfl rfl rfl) call31 rfl rfl rfl rfl (zD8 (c31 _ _ [0] [0] _ _ (by decide) hq4.top.app.cons.cons.cons.cons (zBt (i := 0) (rows := [[_]]) rfl (by simp) rfl) hD) (by decide)) ?_
  rintro _ jE ⟨rfl, hG⟩
  refine w_p (zAx (v := .bool _) rfl rfl rfl rfl) rfl (w_p (zAi (v := .bool _) rfl rfl) rfl (w_y rfl rfl rfl (zAi (v := .slice _ _ _) rfl rfl) rfl (zBb (ps := [(0, _),(1, _),(2, _),(3, _),(4, _)]) (pv := [(0, .int _ _),(1, .int _ _),(2, .int _ _),(3, .int _ _),(4, .int _ _)]) (cs := [_,_,_,_,_]) (zAq rfl rfl rfl) rfl rfl (fun w => Try_SP_fb18 _ _ _ _ _ w) hG (fun jF jG hH => ?_))))
  refine zAr (zAq rfl rfl rfl) call31 rfl rfl rfl rfl (zD8 (c31 _ _ [0,8,2,8,0] [0,8,2,8,0] _ _ (by decide) hq5.top.cons.cons.cons.cons.cons (zBt (i := 0) (rows := [[_], [_], [_], [_], [_]]) rfl (by simp) rfl) hH) (by decide)) ?_
  rintro _ jH ⟨rfl, hO⟩
  refine w_p (zAx (v := .bool _) rfl rfl rfl rfl) rfl (w_p (zAi (v := .bool _) rfl rfl) rfl (w_y rfl rfl rfl (zA2 rfl rfl) rfl (w_y rfl rfl rfl (zB6 rfl rfl rfl rfl) rfl (w_p (zAx (v := .bool _) rfl rfl rfl rfl) rfl ?_))))
  refine w_p (zAi (v := .bool _) rfl rfl) rfl (w_y rfl rfl rfl (zA2 rfl rfl) rfl (w_y rfl rfl rfl (zB6 rfl rfl rfl rfl) rfl (w_p (zAx (v := .bool _) rfl rfl rfl rfl) rfl (w_p (zAo (v := .bool _) rfl rfl) rfl ?_))))
  refine zAd (zAb (gV _ _ (zAy (zA1 (l := [.tmp 0]) (vs := [_]) rfl ⟨⟨rfl, (rfl : _ = Value.bool _)⟩, trivial⟩ ?_))))
  exact ⟨rfl, (St.cast hZ hO.tail.tail.tail.tail.tail.drop.drop.drop.tail.drop.tail.tail.tail.tail.tail.tail.tail.drop).tail.tail.tail.tail.tail.tail.tail.tail⟩

end Go.Proofs.Sb
/- Loads of trains from rooms to shops: if no shops lack anything, there is a load that serves them, train by train. Plain numbers. No conditions. -/
namespace Go.Rt.Sh
def sumN : Nat → (Nat → Int) → Int
  | 0, _ => 0
  | n + 1, f => sumN n f + f n
structure Tr where
  room : Nat
  shop : Nat
  cap : Int
def capR (T : List Tr) (s : Nat → Bool) (r : Nat) : Int := T.foldr (fun t n => (if t.room = r ∧ s t.shop = true then t.cap else 0) + n) 0
def lk (R S : Nat) (T : List Tr) (h w : Nat → Int) (s : Nat → Bool) : Int := sumN S (fun i => if s i then w i else 0) - sumN R (fun r => min (h r) (capR T s r))
def Sub (a b : Nat → Bool) : Prop := ∀ i, a i = true → b i = true
def NoLack (R S : Nat) (T : List Tr) (h w : Nat → Int) (sh : Nat → Bool) : Prop := ∀ s, Sub s sh → lk R S T h w s ≤ 0
def put (f : Nat → Int) (i : Nat) (v : Int) : Nat → Int := fun j => if j = i then v else f j
theorem zCd {f g : Nat → Int} : ∀ (n : Nat), (∀ i, i < n → f i = g i) → sumN n f = sumN n g
  | 0, _ => rfl
  | n + 1, h => by simp only [sumN]; rw [zCd n fun i hi => h i (by omega), h n (by omega)]
theorem sumN_le {f g : Nat → Int} : ∀ (n : Nat), (∀ i, i < n → f i ≤ g i) → sumN n f ≤ sumN n g
  | 0, _ => by simp [sumN]
  | n + 1, h => by
    simp only [sumN]
    have h1 := sumN_le n fun i hi => h i (by omega)
    have h2 := h n (by omega)
    omega
theorem zGb (f g : Nat → Int) : ∀ n, sumN n f + sumN n g = sumN n (fun i => f i + g i)
  | 0 => rfl
  | n + 1 => by simp only [sumN]; have := zGb f g n; omega
theorem zD7 : ∀ n, sumN n (fun _ => 0) = 0
  | 0 => rfl
  | n + 1 => by simp only [sumN]; rw [zD7 n]; rfl
theorem zE7 (f : Nat → Int) (k : Nat) : ∀ n, k < n → sumN n f = sumN n (fun i => if i = k then 0 else f i) + f k
  | 0, h => by omega
  | n + 1, h => by
    simp only [sumN]
    by_cases e : n = k
    · subst e
      rw [if_pos rfl]
      have : sumN n f = sumN n (fun i => if i = n then 0 else f i) := zCd n fun i hi => by rw [if_neg (by omega)]
      omega
    · rw [if_neg e]
      have := zE7 f k n (by omega)
      omega
theorem zD2 (t : Tr) (T : List Tr) (s : Nat → Bool) (r : Nat) : capR (t :: T) s r = (if t.room = r ∧ s t.shop = true then t.cap else 0) + capR T s r := rfl
theorem zG3 {T : List Tr} (hc : ∀ t ∈ T, 0 ≤ t.cap) {a b : Nat → Bool} (h : Sub a b) (r : Nat) : capR T a r ≤ capR T b r := by
  induction T with
  | nil => simp [capR]
  | cons t T ih =>
    rw [zD2, zD2]
    have h1 := ih fun t ht => hc t (.tail _ ht)
    have h2 := hc t (.head _)
    by_cases ha : t.room = r ∧ a t.shop = true
    · rw [if_pos ha, if_pos ⟨ha.1, h _ ha.2⟩]; omega
    · rw [if_neg ha]; split <;> omega
theorem capR_mod (T : List Tr) (a b : Nat → Bool) (r : Nat) : capR T (fun i => a i || b i) r + capR T (fun i => a i && b i) r = capR T a r + capR T b r := by
  induction T with
  | nil => simp [capR]
  | cons t T ih =>
    simp only [zD2]
    by_cases h : t.room = r
    · cases ha : a t.shop <;> cases hb : b t.shop <;> simp [h, ha, hb] <;> omega
    · simp [h]; exact ih
theorem lk_split {R S : Nat} {T : List Tr} {h w : Nat → Int} {s : Nat → Bool} {p : Nat} (hp : p < R) : lk R S T h w s = sumN S (fun i => if s i then w i else 0) - sumN R (fun r => if r = p then 0 else min (h r) (capR T s r)) - min (h p) (capR T s p) := by
  unfold lk
  rw [zE7 _ p R hp]
  omega
def rst (R : Nat) (T : List Tr) (h : Nat → Int) (p : Nat) (s : Nat → Bool) : Int := sumN R (fun r => if r = p then 0 else min (h r) (capR T s r))
def wsum (S : Nat) (w : Nat → Int) (s : Nat → Bool) : Int := sumN S (fun i => if s i then w i else 0)
theorem lk_eq {R S : Nat} {T : List Tr} {h w : Nat → Int} {s : Nat → Bool} {p : Nat} (hp : p < R) : lk R S T h w s = wsum S w s - rst R T h p s - min (h p) (capR T s p) := lk_split hp
theorem rst_cons {R : Nat} {t : Tr} {T : List Tr} {h : Nat → Int} {s : Nat → Bool} : rst R (t :: T) h t.room s = rst R T h t.room s := by
  unfold rst
  refine zCd R fun r _ => ?_
  by_cases e : r = t.room
  · rw [if_pos e, if_pos e]
  · rw [if_neg e, if_neg e, zD2, if_neg (fun hh => e hh.1.symm)]; simp
theorem rst_put {R : Nat} {T : List Tr} {h : Nat → Int} {p : Nat} {s : Nat → Bool} (v : Int) : rst R T (put h p v) p s = rst R T h p s := by
  unfold rst
  refine zCd R fun r _ => ?_
  by_cases e : r = p
  · rw [if_pos e, if_pos e]
  · rw [if_neg e, if_neg e]; unfold put; rw [if_neg e]
theorem rst_sub {R : Nat} {T : List Tr} {h : Nat → Int} (hc : ∀ t ∈ T, 0 ≤ t.cap) (p : Nat) (a b : Nat → Bool) : rst R T h p (fun i => a i || b i) + rst R T h p (fun i => a i && b i) ≤ rst R T h p a + rst R T h p b := by
  unfold rst
  rw [zGb, zGb]
  refine sumN_le R fun r _ => ?_
  by_cases e : r = p
  · simp [e]
  · simp only [if_neg e]
    have h1 := capR_mod T a b r
    have h2 := zG3 (r := r) hc (a := fun i => a i && b i) (b := a) (fun i hi => by simp at hi; exact hi.1)
    have h3 := zG3 (r := r) hc (a := fun i => a i && b i) (b := b) (fun i hi => by simp at hi; exact hi.2)
    omega
theorem rst_mono {R : Nat} {T : List Tr} {h : Nat → Int} (hc : ∀ t ∈ T, 0 ≤ t.cap) (p : Nat) {a b : Nat → Bool} (hs : Sub a b) : rst R T h p a ≤ rst R T h p b := by
  unfold rst
  refine sumN_le R fun r _ => ?_
  by_cases e : r = p
  · simp [e]
  · simp only [if_neg e]
    have := zG3 (r := r) hc hs
    omega
theorem wsum_mod (S : Nat) (w : Nat → Int) (a b : Nat → Bool) : wsum S w (fun i => a i || b i) + wsum S w (fun i => a i && b i) = wsum S w a + wsum S w b := by
  unfold wsum
  rw [zGb, zGb]
  refine zCd S fun i _ => ?_
  cases ha : a i <;> cases hb : b i <;> simp [ha, hb]
theorem wsum_put {S : Nat} {w : Nat → Int} {s : Nat → Bool} {q : Nat} (hq : q < S) (n : Int) : wsum S (put w q (w q - n)) s = wsum S w s - (if s q then n else 0) := by
  unfold wsum
  rw [zE7 _ q S hq, zE7 (fun i => if s i then w i else 0) q S hq]
  have : sumN S (fun i => if i = q then 0 else if s i then put w q (w q - n) i else 0) = sumN S (fun i => if i = q then 0 else if s i then w i else 0) := zCd S fun i _ => by
    by_cases e : i = q
    · simp [e]
    · simp [e, put]
  rw [this]
  unfold put
  simp only [if_true]
  split <;> omega
theorem wsum_del {S : Nat} {w : Nat → Int} {s : Nat → Bool} {q : Nat} (hq : q < S) (hs : s q = true) : wsum S w s = wsum S w (fun i => s i && !Nat.beq i q) + w q := by
  unfold wsum
  rw [zE7 _ q S hq, zE7 (fun i => if s i && !Nat.beq i q then w i else 0) q S hq]
  have : sumN S (fun i => if i = q then 0 else if s i then w i else 0) = sumN S (fun i => if i = q then 0 else if s i && !Nat.beq i q then w i else 0) := zCd S fun i _ => by
    by_cases e : i = q
    · simp [e]
    · have : Nat.beq i q = false := by cases hb : Nat.beq i q; rfl; exact absurd (Nat.eq_of_beq_eq_true hb) e
      simp [e, this]
  rw [this]
  simp [hs]
theorem one_train {R S : Nat} {t : Tr} {T : List Tr} {h w : Nat → Int} {sh : Nat → Bool} (hr : t.room < R) (hs : t.shop < S) (hc : 0 ≤ t.cap) (hT : ∀ t ∈ T, 0 ≤ t.cap) (hh : ∀ r, 0 ≤ h r) (hw : ∀ i, 0 ≤ w i)
    (hsh : sh t.shop = true) (hn : NoLack R S (t :: T) h w sh) : ∃ n : Nat, (n : Int) ≤ t.cap ∧ (n : Int) ≤ h t.room ∧ (n : Int) ≤ w t.shop ∧ NoLack R S T (put h t.room (h t.room - n)) (put w t.shop (w t.shop - n)) sh := by
  have hT' : ∀ u ∈ t :: T, 0 ≤ u.cap := by
    intro u hu
    cases hu with
    | head => exact hc
    | tail _ hu => exact hT u hu
  -- what is known of each set
  have base : ∀ s, Sub s sh → wsum S w s - rst R T h t.room s ≤ h t.room ∧ wsum S w s - rst R T h t.room s ≤ (if s t.shop = true then t.cap else 0) + capR T s t.room := by
    intro s hss
    have h1 := hn s hss
    rw [lk_eq hr, rst_cons, zD2] at h1
    by_cases e : s t.shop = true
    · rw [if_pos ⟨rfl, e⟩] at h1; rw [if_pos e]; omega
    · rw [if_neg (fun hh => e hh.2)] at h1; rw [if_neg e]; omega
  -- the least number
  let Q : Nat → Prop := fun n => ∀ s, Sub s sh → s t.shop = true → wsum S w s - rst R T h t.room s - capR T s t.room ≤ (n : Int)
  have hQ : ∃ n, Q n := ⟨t.cap.toNat, fun s hss e => by
    have := (base s hss).2
    rw [if_pos e] at this
    omega⟩
  obtain ⟨n, hQn, hmin⟩ : ∃ n, Q n ∧ ∀ m, m < n → ¬ Q m := by
    obtain ⟨k, hk⟩ := hQ
    have key : ∀ k, Q k → ∃ n, Q n ∧ ∀ m, m < n → ¬ Q m := by
      intro k
      induction k using Nat.strongRecOn with
      | _ k ih =>
        intro hk
        by_cases hex : ∃ m, m < k ∧ Q m
        · obtain ⟨m, hm, hq⟩ := hex; exact ih m hm hq
        · exact ⟨k, hk, fun m hm hq => hex ⟨m, hm, hq⟩⟩
    exact key k hk
  -- a set that makes it the least
  have hA : n = 0 ∨ ∃ A, Sub A sh ∧ A t.shop = true ∧ wsum S w A - rst R T h t.room A - capR T A t.room = (n : Int) := by
    by_cases h0 : n = 0
    · exact .inl h0
    · right
      have := hmin (n - 1) (by omega)
      simp only [Q] at this
      have ⟨A, hA⟩ := Classical.not_forall.1 this
      have ⟨hA1, hA⟩ := Classical.not_forall.1 hA
      have ⟨hA2, hA⟩ := Classical.not_forall.1 hA
      have := hQn A hA1 hA2
      exact ⟨A, hA1, hA2, by omega⟩
  have ncap : (n : Int) ≤ t.cap := by
    rcases hA with rfl | ⟨A, a1, a2, a3⟩
    · simpa using hc
    · have := (base A a1).2; rw [if_pos a2] at this; omega
  have hex : ∀ B, Sub B sh → B t.shop = false → (n : Int) ≤ h t.room - wsum S w B + rst R T h t.room B := by
    intro B hB hB2
    have hb := (base B hB).1
    rcases hA with rfl | ⟨A, a1, a2, a3⟩
    · simp; omega
    · have h1 := wsum_mod S w A B
      have h2 := rst_sub (R := R) (h := h) hT t.room A B
      have h3 := (base (fun i => A i || B i) (fun i hi => by simp at hi; rcases hi with hi | hi; exact a1 i hi; exact hB i hi)).1
      have h4 := (base (fun i => A i && B i) (fun i hi => by simp at hi; exact a1 i hi.1)).2
      rw [if_neg (by simp [hB2])] at h4
      have h5 := zG3 (r := t.room) hT (a := fun i => A i && B i) (b := A) (fun i hi => by simp at hi; exact hi.1)
      omega
  have nh : (n : Int) ≤ h t.room := by
    have h1 := hex (fun _ => false) (fun i hi => by cases hi) rfl
    have e1 : wsum S w (fun _ => false) = 0 := by unfold wsum; simp [zD7]
    have e2 : rst R T h t.room (fun _ => false) ≤ 0 := by
      have hle : rst R T h t.room (fun _ => false) ≤ sumN R (fun _ => 0) := by
       unfold rst
       refine sumN_le R fun r _ => ?_
       show (if r = t.room then (0 : Int) else min (h r) (capR T (fun _ => false) r)) ≤ 0
       have : capR T (fun _ => false) r = 0 := by
        clear hn hT hT' base hQ hQn hmin hA ncap hex h1
        induction T with
        | nil => rfl
        | cons u T ih => rw [zD2, ih]; simp
       rw [this]
       have := hh r
       split <;> omega
      rwa [zD7] at hle
    omega
  have nw : (n : Int) ≤ w t.shop := by
    rcases hA with rfl | ⟨A, a1, a2, a3⟩
    · simpa using hw _
    · have h1 := wsum_del (w := w) hs a2
      have hsub : Sub (fun i => A i && !Nat.beq i t.shop) A := fun i hi => by simp at hi; exact hi.1
      have h2 := (base (fun i => A i && !Nat.beq i t.shop) (fun i hi => a1 i (hsub i hi))).2
      rw [if_neg (by simp)] at h2
      have h3 := rst_mono (R := R) (h := h) hT t.room hsub
      have h4 := zG3 (r := t.room) hT hsub
      omega
  refine ⟨n, ncap, nh, nw, fun s hss => ?_⟩
  rw [lk_eq hr, rst_put, wsum_put hs]
  have hb := base s hss
  have e : put h t.room (h t.room - n) t.room = h t.room - n := by unfold put; rw [if_pos rfl]
  rw [e]
  by_cases es : s t.shop = true
  · rw [if_pos es] at hb ⊢
    have := hQn s hss es
    omega
  · rw [if_neg es] at hb ⊢
    have := hex s hss (by simpa using es)
    omega
end Go.Rt.Sh
/- Plain laws of the shop layer: what sets lack, as the program and as the reference sum it, is the same; so are the worst sets. No conditions. -/
namespace Go.Rt.Sh
def toTr (t : Train) : Tr := ⟨t.room.toNat, t.shop.toNat, t.cap⟩
def trsTo (m : Market) (fro : Nat) : Nat → List Tr
  | 0 => []
  | i + 1 => match m.trains[i]? with
    | some t => if fro ≤ i ∧ leaves m t = true then trsTo m fro i ++ [toTr t] else trsTo m fro i
    | none => trsTo m fro i
def trs (m : Market) (fro : Nat) : List Tr := trsTo m fro m.trains.length
def bset (b : Nat) : Nat → Bool := fun i => decide (bit b i = 1)
theorem zG2 (T : List Tr) (t : Tr) (s : Nat → Bool) (r : Nat) : capR (T ++ [t]) s r = capR T s r + (if t.room = r ∧ s t.shop = true then t.cap else 0) := by
  induction T with
  | nil => simp [capR]
  | cons u T ih => rw [List.cons_append, zD2, zD2, ih]; omega
theorem bit_or (b j : Nat) : bit b j = 0 ∨ bit b j = 1 := by have := bit_le b j; omega
theorem capsU_capR {m : Market} (hok : m.Ok) (fro b r : Nat) (hr : r < 3) : ∀ i, i ≤ m.trains.length → (capsU m fro b i).getD r 0 = capR (trsTo m fro i) (bset b) r
  | 0, _ => by
    have : r = 0 ∨ r = 1 ∨ r = 2 := by omega
    rcases this with rfl | rfl | rfl <;> rfl
  | i + 1, hi => by
    have ih := capsU_capR hok fro b r hr i (by omega)
    have hil : i < m.trains.length := by omega
    have ht := hok.train _ (List.getElem_mem hil)
    have hlr := hok.lr
    have hl := zB5 m fro b i
    simp only [trsTo, List.getElem?_eq_getElem hil]
    by_cases h : (i : Int) < (fro : Int) ∨ bit b m.trains[i].shop.toNat = 0 ∨ leaves m m.trains[i] = false
    · rw [zFc hil h, ih]
      by_cases h1 : fro ≤ i ∧ leaves m m.trains[i] = true
      · rw [if_pos h1, zG2]
        have h2 : bit b m.trains[i].shop.toNat = 0 := by
          rcases h with h | h | h
          · omega
          · exact h
          · rw [h1.2] at h; cases h
        rw [if_neg]
        · omega
        · rintro ⟨_, h3⟩
          have h4 : bit b m.trains[i].shop.toNat = 1 := of_decide_eq_true h3
          omega
      · rw [if_neg h1]
    · rw [zF5 hil h]
      simp only [not_or, Int.not_lt, Bool.not_eq_false] at h
      rw [if_pos ⟨by omega, h.2.2⟩, zG2]
      have hb : bset b m.trains[i].shop.toNat = true := by
        have := bit_or b m.trains[i].shop.toNat
        simp only [bset, decide_eq_true_eq]
        rcases this with h1 | h1
        · exact absurd h1 h.2.1
        · exact h1
      by_cases e : m.trains[i].room.toNat = r
      · rw [if_pos ⟨e, hb⟩, e, zDv (by omega), ih]; rfl
      · rw [if_neg (fun hh => e hh.1), zCh e, ih]; omega
theorem zHe (b : Nat) : ∀ (n : Nat) (z : Int), hasI (listL b n) z = true ↔ 0 ≤ z ∧ z < n ∧ bit b z.toNat = 1
  | 0, z => by simp [listL, hasI]; omega
  | n + 1, z => by
    have ih := zHe b n z
    have e : hasI (listL b (n + 1)) z = (hasI (listL b n) z || (decide (bit b n = 1) && decide ((n : Int) = z))) := by
      by_cases h : bit b n = 1
      · simp [hasI, listL, List.any_append, h]
      · simp [hasI, listL, List.any_append, h]
    rw [e, Bool.or_eq_true, ih, Bool.and_eq_true, decide_eq_true_eq, decide_eq_true_eq]
    constructor
    · rintro (h | ⟨h1, rfl⟩)
      · omega
      · refine ⟨by omega, by omega, by simpa using h1⟩
    · rintro ⟨h1, h2, h3⟩
      by_cases hz : z = n
      · right; subst hz; exact ⟨by simpa using h3, rfl⟩
      · left; exact ⟨h1, by omega, h3⟩
theorem capRf_capR {m : Market} (hok : m.Ok) (fro b r : Nat) : ∀ i, i ≤ m.trains.length → capRf m (listL b m.shops.length) fro r i = capR (trsTo m fro i) (bset b) r
  | 0, _ => rfl
  | i + 1, hi => by
    have ih := capRf_capR hok fro b r i (by omega)
    have hil : i < m.trains.length := by omega
    have ht := hok.train _ (List.getElem_mem hil)
    have hh := zHe b m.shops.length m.trains[i].shop
    simp only [trsTo, capRf, List.getElem?_eq_getElem hil]
    by_cases h1 : fro ≤ i ∧ leaves m m.trains[i] = true
    · rw [if_pos h1, zG2, ih]
      by_cases h2 : m.trains[i].room = (r : Int) ∧ bit b m.trains[i].shop.toNat = 1
      · rw [if_pos ⟨h1.1, h2.1, hh.2 ⟨by omega, by omega, h2.2⟩, h1.2⟩, if_pos]
        · rfl
        · exact ⟨by simp only [toTr]; omega, by unfold bset; exact decide_eq_true h2.2⟩
      · rw [if_neg, if_neg]
        · omega
        · rintro ⟨h3, h4⟩
          unfold bset at h4
          simp only [toTr] at h3
          exact h2 ⟨by omega, of_decide_eq_true h4⟩
        · rintro ⟨_, h3, h4, _⟩
          exact h2 ⟨h3, (hh.1 h4).2.2⟩
    · rw [if_neg h1, if_neg, ih]
      rintro ⟨h3, _,_, h4⟩
      exact h1 ⟨h3, h4⟩
theorem wantR_pre (wants l : List Int) (z : Int) : ∀ i, i ≤ l.length → wantR wants (l ++ [z]) i = wantR wants l i
  | 0, _ => rfl
  | i + 1, h => by
    simp only [wantR]
    rw [wantR_pre wants l z i (by omega)]
    congr 3
    simp [List.getD, List.getElem?_append_left (show i < l.length by omega)]
theorem wantR_snoc (wants l : List Int) (z : Int) : wantR wants (l ++ [z]) (l ++ [z]).length = wantR wants l l.length + wants.getD z.toNat 0 := by
  rw [List.length_append, List.length_singleton]
  simp only [wantR]
  rw [wantR_pre wants l z _ (Nat.le_refl _)]
  congr 2
  simp [List.getD]
theorem wantR_sum (wants : List Int) (b : Nat) : ∀ n, wantR wants (listL b n) (listL b n).length = sumN n (fun i => if bset b i then wants.getD i 0 else 0)
  | 0 => rfl
  | n + 1 => by
    have ih := wantR_sum wants b n
    simp only [sumN]
    by_cases h : bit b n = 1
    · rw [zF2 h, wantR_snoc, ih]; simp [bset, h]
    · rw [zHb h, ih]; simp [bset, h]
theorem handR_sum {m : Market} (hok : m.Ok) (hands : List Int) (b fro : Nat) : ∀ n, handR m hands (listL b m.shops.length) fro n = sumN n (fun r => min (hands.getD r 0) (capR (trs m fro) (bset b) r))
  | 0 => rfl
  | n + 1 => by
    have ih := handR_sum hok hands b fro n
    simp only [handR, sumN, ih, capRf_capR hok fro b n _ (Nat.le_refl _)]; rfl
theorem lackR_lk {m : Market} (hok : m.Ok) (hands wants : List Int) (b fro : Nat) : lackR m hands wants (listL b m.shops.length) fro = lk m.rooms.length m.shops.length (trs m fro) (fun r => hands.getD r 0) (fun i => wants.getD i 0) (bset b) := by
  unfold lackR lk; rw [wantR_sum, handR_sum hok]
theorem wantU_sum (x : List Int) (b : Nat) : ∀ n, wantU x b n = sumN n (fun i => if bset b i then x.getD (3 + i) 0 else 0)
  | 0 => rfl
  | n + 1 => by
    simp only [wantU, sumN, wantU_sum x b n]
    rcases bit_or b n with h | h <;> simp [bset, h]
theorem handU_sum (c x : List Int) (g : Nat → Int) (h : ∀ r < 3, c.getD r 0 = g r) : ∀ n, n ≤ 3 → handU c x n = sumN n (fun r => min (x.getD r 0) (g r))
  | 0, _ => rfl
  | n + 1, hn => by
    simp only [handU, sumN, handU_sum c x g h n (by omega), h n (by omega)]; omega
theorem lackB_lk {m : Market} (hok : m.Ok) (x : List Int) (b fro : Nat) (h7 : x.getD 7 0 = fro) : lackB m x b = lk 3 4 (trs m fro) (fun r => x.getD r 0) (fun i => x.getD (3 + i) 0) (bset b) := by
  unfold lackB lk
  rw [wantU_sum, h7, handU_sum _ x (fun r => capR (trs m fro) (bset b) r) (fun r hr => capsU_capR hok fro b r hr _ (Nat.le_refl _)) 3 (Nat.le_refl _)]
theorem zH6 {m : Market} {fro : Nat} {t : Tr} : ∀ i, t ∈ trsTo m fro i → ∃ u ∈ m.trains, t = toTr u ∧ leaves m u = true
  | 0, h => by simp [trsTo] at h
  | i + 1, h => by
    unfold trsTo at h
    cases e : m.trains[i]? with
    | none => rw [e] at h; exact zH6 i h
    | some u =>
      rw [e] at h
      dsimp only at h
      split at h
      · rename_i h1
        rcases List.mem_append.1 h with h | h
        · exact zH6 i h
        · simp at h; exact ⟨u, List.mem_of_getElem? e, h, h1.2⟩
      · exact zH6 i h
theorem trs_fine {m : Market} (hok : m.Ok) {fro : Nat} {t : Tr} (h : t ∈ trs m fro) : t.room < m.rooms.length ∧ t.shop < m.shops.length ∧ 0 ≤ t.cap ∧ t.cap ≤ 60 := by
  obtain ⟨u, hu, rfl, _⟩ := zH6 _ h
  have := hok.train u hu
  simp only [toTr]; omega
theorem capR_out {T : List Tr} {s : Nat → Bool} {r : Nat} (h : ∀ t ∈ T, t.room ≠ r) : capR T s r = 0 := by
  induction T with
  | nil => rfl
  | cons t T ih => rw [zD2, ih fun t ht => h t (.tail _ ht), if_neg (fun hh => h t (.head _) hh.1)]; rfl
theorem sumN_more (f : Nat → Int) {n : Nat} : ∀ k, (∀ i, n ≤ i → f i = 0) → sumN (n + k) f = sumN n f
  | 0, _ => rfl
  | k + 1, h => by rw [← Nat.add_assoc]; simp only [sumN]; rw [sumN_more f k h, h (n + k) (by omega)]; omega
theorem lk_wide {m : Market} (hok : m.Ok) (fro : Nat) (h w : Nat → Int) (hh : ∀ r, m.rooms.length ≤ r → 0 ≤ h r) (hw : ∀ i, m.shops.length ≤ i → w i = 0) (s : Nat → Bool) : lk 3 4 (trs m fro) h w s = lk m.rooms.length m.shops.length (trs m fro) h w s := by
  unfold lk
  have h1 := hok.lr
  have h2 := hok.ls
  obtain ⟨a, ha⟩ : ∃ a, 3 = m.rooms.length + a := ⟨3 - m.rooms.length, by omega⟩
  obtain ⟨c, hc⟩ : ∃ c, 4 = m.shops.length + c := ⟨4 - m.shops.length, by omega⟩
  rw [ha, hc, sumN_more _ c (fun i hi => by rw [hw i hi]; simp), sumN_more _ a (fun r hr => by
    rw [capR_out fun t ht e => by have := (trs_fine hok ht).1; omega]
    have := hh r hr
    omega)]
def packX (hands wants : List Int) (fro : Nat) : List Int := [hands.getD 0 0, hands.getD 1 0, hands.getD 2 0, wants.getD 0 0, wants.getD 1 0, wants.getD 2 0, wants.getD 3 0, (fro : Int)]
theorem zE9 (hands wants : List Int) (fro : Nat) {r : Nat} (h : r < 3) : (packX hands wants fro).getD r 0 = hands.getD r 0 := by
  have : r = 0 ∨ r = 1 ∨ r = 2 := by omega
  rcases this with rfl | rfl | rfl <;> rfl
theorem zE8 (hands wants : List Int) (fro : Nat) {r : Nat} (h : r < 4) : (packX hands wants fro).getD (3 + r) 0 = wants.getD r 0 := by
  have : r = 0 ∨ r = 1 ∨ r = 2 ∨ r = 3 := by omega
  rcases this with rfl | rfl | rfl | rfl <;> rfl
theorem lk_congr {R S : Nat} {T : List Tr} {h h' w w' : Nat → Int} {s : Nat → Bool} (h1 : ∀ r < R, h r = h' r) (h2 : ∀ i < S, w i = w' i) : lk R S T h w s = lk R S T h' w' s := by
  unfold lk
  rw [zCd S fun i hi => by rw [h2 i hi], zCd R fun r hr => by rw [h1 r hr]]
theorem lack_same {m : Market} (hok : m.Ok) {hands wants : List Int} (hh : hands.length = m.rooms.length) (hw : wants.length = m.shops.length) (b fro : Nat) : lackR m hands wants (listL b m.shops.length) fro = lackB m (packX hands wants fro) b := by
  rw [lackR_lk hok, lackB_lk hok (packX hands wants fro) b fro rfl, lk_congr (h' := fun r => hands.getD r 0) (w' := fun i => wants.getD i 0) (fun r hr => zE9 _ _ _ hr) (fun i hi => zE8 _ _ _ hi),
    lk_wide hok fro _ _ (fun r hr => by simp [List.getD, List.getElem?_eq_none (show hands.length ≤ r by omega)]) (fun i hi => by simp [List.getD, List.getElem?_eq_none (show wants.length ≤ i by omega)])]
theorem capR_none (T : List Tr) (r : Nat) : capR T (bset 0) r = 0 := by
  induction T with
  | nil => rfl
  | cons t T ih => rw [zD2, ih, if_neg]; rfl; rintro ⟨_, h⟩; simp [bset, bit] at h
theorem lackB_zero {m : Market} (hok : m.Ok) {x : List Int} {fro : Nat} (h7 : x.getD 7 0 = fro) (hn : ∀ z ∈ x, 0 ≤ z) : lackB m x 0 = 0 := by
  rw [lackB_lk hok x 0 fro h7]
  have hg : ∀ r, 0 ≤ x.getD r 0 := fun r => by
    by_cases hl : r < x.length
    · have := hn _ (List.getElem_mem hl); simpa [List.getD, hl] using this
    · simp [List.getD, hl]
  unfold lk
  rw [zCd (g := fun _ => 0) 4 fun i hi => by simp [bset, bit], zCd (g := fun _ => 0) 3 fun r hr => by
    dsimp only
    rw [capR_none]
    have := hg r
    omega]
  rw [zD7, zD7]; rfl
theorem zEc {l : List Int} (h : ∀ z ∈ l, 0 ≤ z) (r : Nat) : 0 ≤ l.getD r 0 := by
  by_cases hl : r < l.length
  · have := h _ (List.getElem_mem hl); simpa [List.getD, hl] using this
  · simp [List.getD, hl]
theorem packX_nn {hands wants : List Int} {fro : Nat} (h1 : ∀ z ∈ hands, 0 ≤ z) (h2 : ∀ z ∈ wants, 0 ≤ z) : ∀ z ∈ packX hands wants fro, 0 ≤ z := by
  intro z hz
  simp only [packX, List.mem_cons, List.not_mem_nil, or_false] at hz
  rcases hz with rfl | rfl | rfl | rfl | rfl | rfl | rfl | rfl
  · exact zEc h1 _
  · exact zEc h1 _
  · exact zEc h1 _
  · exact zEc h2 _
  · exact zEc h2 _
  · exact zEc h2 _
  · exact zEc h2 _
  · omega
theorem sub_small : ∀ n < 5, ∀ sub < 16, sub < 2 ^ n → ∀ b < 16, bitDiff b sub = 0 → b < 2 ^ n := by
  have h : ∀ n < 5, ∀ sub < 16, sub < 2 ^ n → ((List.range 16).all fun b => !decide (bitDiff b sub = 0) || decide (b < 2 ^ n)) = true := by decide +kernel
  intro n hn sub hs g0 b hb hd
  have := List.all_eq_true.1 (h n hn sub hs g0) b (by simpa using hb)
  simpa [hd] using this
theorem worst_same {m : Market} (hok : m.Ok) {hands wants : List Int} (hh : hands.length = m.rooms.length) (hw : wants.length = m.shops.length) (h1 : ∀ z ∈ hands, 0 ≤ z) (h2 : ∀ z ∈ wants, 0 ≤ z) {sub : Nat} (hs : sub < 2 ^ m.shops.length) (fro : Nat) :
    worstR m hands wants (listL sub m.shops.length) fro = worst m (packX hands wants fro) sub := by
  unfold worstR worst
  refine top_worst hok.ls hs (fun b hb hd => ?_) ?_
  · rw [zHc hb]; exact lack_same hok hh hw b fro
  · rw [zHc (by omega), lackB_zero hok (fro := fro) rfl (packX_nn h1 h2)]; omega
end Go.Rt.Sh
/- Plain laws of the shop layer: Can, Proof and Without of the program are the reference's. No conditions. -/
namespace Go.Rt.Sh
theorem ext_getD {a b : List Int} (h : a.length = b.length) (hg : ∀ i < a.length, a.getD i 0 = b.getD i 0) : a = b := by
  apply List.ext_getElem h
  intro i h1 h2
  have := hg i h1
  simpa [List.getD, h1, h2] using this
def handsL (m : Market) (most : Bool) : List Int := if most then mostL m else leastL m
theorem handsL_len (m : Market) (t : Bool) : (handsL m t).length = m.rooms.length := by cases t <;> simp [handsL, mostL, leastL]
theorem zI5 (m : Market) : (wantsL m).length = m.shops.length := by simp [wantsL]
theorem handsL_get (m : Market) (t : Bool) (r : Nat) : (handsL m t).getD r 0 = match m.rooms[r]? with | some x => if t then x.hi else x.lo | none => 0 := by
  cases t <;> simp only [handsL, mostL, leastL, List.getD, if_true, Bool.false_eq_true, if_false] <;> rw [List.getElem?_map] <;> cases m.rooms[r]? <;> rfl
theorem wantsL_get (m : Market) (r : Nat) : (wantsL m).getD r 0 = match m.shops[r]? with | some x => x.want | none => 0 := by
  simp only [wantsL, List.getD]; rw [List.getElem?_map]; cases m.shops[r]? <;> rfl
theorem handsTo_get (m : Market) (t : Bool) : ∀ n, n ≤ m.rooms.length → n ≤ 8 → ∀ r, (handsTo m t n).getD r 0 = if r < n then (handsL m t).getD r 0 else 0
  | 0, _,_, r => by
    have e : (List.replicate 8 (0 : Int)).getD r 0 = 0 := by rw [List.getD, List.getElem?_replicate]; split <;> rfl
    rw [if_neg (by omega)]; exact e
  | n + 1, h, h8, r => by
    have ih := handsTo_get m t n (by omega) (by omega) r
    unfold handsTo
    by_cases e : n = r
    · subst e
      rw [zDv (by rw [zDl]; omega), if_pos (by omega), handsL_get]; cases m.rooms[n]? <;> rfl
    · rw [zCh e, ih]
      by_cases h1 : r < n
      · rw [if_pos h1, if_pos (by omega)]
      · rw [if_neg h1, if_neg (by omega)]
theorem wantsTo_get (m : Market) (t : Bool) : ∀ n, n ≤ m.shops.length → n ≤ 5 → ∀ r, (wantsTo m t n).getD r 0 = if 3 ≤ r ∧ r < 3 + n then (wantsL m).getD (r - 3) 0 else (handsTo m t m.rooms.length).getD r 0
  | 0, _,_, r => by rw [if_neg (by omega)]; rfl
  | n + 1, h, h8, r => by
    have ih := wantsTo_get m t n (by omega) (by omega) r
    unfold wantsTo
    by_cases e : 3 + n = r
    · subst e
      rw [zDv (by rw [zDk]; omega), if_pos (by omega), wantsL_get, show 3 + n - 3 = n by omega]; cases m.shops[n]? <;> rfl
    · rw [zCh e, ih]
      by_cases h1 : 3 ≤ r ∧ r < 3 + n
      · rw [if_pos h1, if_pos (by omega)]
      · rw [if_neg h1, if_neg (by omega)]
theorem allX_pack {m : Market} (hok : m.Ok) (t : Bool) : allX m t = packX (handsL m t) (wantsL m) 0 := by
  have h1 := hok.lr
  have h2 := hok.ls
  have hl := handsL_len m t
  have hw := zI5 m
  have hz : ∀ {l : List Int} {r : Nat}, l.length ≤ r → l.getD r 0 = 0 := fun h => by simp [List.getD, List.getElem?_eq_none h]
  refine ext_getD (by rw [zDt]; rfl) fun i hi => ?_
  rw [zDt] at hi
  unfold allX
  rw [wantsTo_get m t _ (Nat.le_refl _) (by omega), handsTo_get m t _ (Nat.le_refl _) (by omega)]
  by_cases hi3 : i < 3
  · rw [zE9 _ _ _ hi3, if_neg (by omega)]
    split
    · rfl
    · rw [hz (by omega)]
  · by_cases hi7 : i < 7
    · obtain ⟨j, rfl⟩ : ∃ j, i = 3 + j := ⟨i - 3, by omega⟩
      rw [zE8 _ _ _ (by omega), show 3 + j - 3 = j by omega]
      by_cases hj : j < m.shops.length
      · rw [if_pos (by omega)]
      · rw [if_neg (by omega), if_neg (by omega), hz (by omega)]
    · have : i = 7 := by omega
      subst this
      rw [if_neg (by omega), if_neg (by omega)]; rfl
theorem handsL_nn {m : Market} (hok : m.Ok) (t : Bool) : ∀ z ∈ handsL m t, 0 ≤ z := by
  intro z hz
  cases t
  · simp only [handsL, Bool.false_eq_true, if_false, leastL] at hz
    obtain ⟨r, hr, rfl⟩ := List.mem_map.1 hz; have := hok.room r hr; omega
  · simp only [handsL, if_true, mostL] at hz
    obtain ⟨r, hr, rfl⟩ := List.mem_map.1 hz; have := hok.room r hr; omega
theorem wantsL_nn {m : Market} (hok : m.Ok) : ∀ z ∈ wantsL m, 0 ≤ z := by
  intro z hz; obtain ⟨r, hr, rfl⟩ := List.mem_map.1 hz; have := hok.shop r hr; omega
theorem worst_all {m : Market} (hok : m.Ok) (t : Bool) {sub : Nat} (hs : sub < 2 ^ m.shops.length) : worstR m (handsL m t) (wantsL m) (listL sub m.shops.length) 0 = worst m (allX m t) sub := by
  rw [allX_pack hok, worst_same hok (handsL_len m t) (zI5 m) (handsL_nn hok t) (wantsL_nn hok) hs]
theorem served_all {m : Market} (hok : m.Ok) (t : Bool) {sub : Nat} (hs : sub < 2 ^ m.shops.length) : servedR m (handsL m t) (listL sub m.shops.length) = servedS m (allX m t) sub := by
  unfold servedR servedS; rw [worst_all hok t hs]
def allL : Nat → List (List Int)
  | 0 => [[]]
  | k + 1 => (allL k).flatMap fun l => [0,1,2,3].map fun z => z :: l
theorem mem_allL : ∀ (l : List Int), (∀ z ∈ l, 0 ≤ z ∧ z < 4) → l ∈ allL l.length
  | [], _ => by simp [allL]
  | z :: l, h => by
    have ih := mem_allL l fun y hy => h y (.tail _ hy)
    have hz := h z (.head _)
    simp only [List.length_cons, allL, List.mem_flatMap]
    refine ⟨l, ih, ?_⟩
    rw [List.mem_map]
    have : z = 0 ∨ z = 1 ∨ z = 2 ∨ z = 3 := by omega
    rcases this with rfl | rfl | rfl | rfl <;> exact ⟨_, by simp, rfl⟩
theorem rise_fin : ∀ n : Nat, n < 5 → ∀ k : Nat, k < 5 → ∀ l ∈ allL k, (!(rising (n : Int) (-1) l && l.all fun x => decide (x < (n : Int))) || (decide (someS l < 2 ^ n) && decide (listL (someS l) n = l))) = true := by decide +kernel
theorem rise_some {n : Nat} {l : List Int} (hn : n ≤ 4) (h : ∀ x ∈ l, 0 ≤ x ∧ x < (n : Int)) (hr : rising n (-1) l = true) : someS l < 2 ^ n ∧ listL (someS l) n = l := by
  have hl : l.length ≤ 4 := by
    match l, h, hr with
    | [], _, _ => simp
    | x :: l, h, hr =>
      have h0 := h x (.head _)
      have := rising_len (x :: l) (-1) hr (by omega) (by omega)
      omega
  have := rise_fin n (by omega) l.length (by omega) l (mem_allL l fun z hz => by have := h z hz; omega)
  rw [hr, List.all_eq_true.2 fun x hx => by simpa using (h x hx).2] at this
  simpa using this
theorem asked_some {m : Market} (l : List Int) : askedE m l = someE m l := by
  have hA : askTo m l l.length = enterE m m.shops.length l := by unfold askTo enterE; rw [List.take_length]
  unfold askedE someE
  rw [hA]
  by_cases h : enterE m m.shops.length l = 0
  · rw [if_neg (show ¬ (enterE m m.shops.length l ≠ 0) by simp [h])]
    obtain ⟨hck, hx⟩ := zGz h
    have hok := check_ok hck
    have hls := hok.ls
    have hor := zIf m.shops.length (by omega) l (-1) 0 hx (fun x hx => by simp; omega) (by omega) (by omega)
    cases e : orBits 0 l with
    | none => rw [if_pos ⟨h, hor.1 e⟩]
    | some s =>
      rw [if_neg, h]
      rintro ⟨_, h⟩
      rw [hor.2 h] at e; cases e
  · rw [if_neg (fun h' => h h'.1), if_pos h]
theorem proof_same (m : Market) (l : List Int) : proofR m l = proofP m l := by
  unfold proofR proofP
  rw [← asked_some]
  by_cases h : askedE m l = 0
  · have hne : ¬ (askedE m l ≠ 0) := by simp [h]
    rw [if_neg hne, if_neg hne]
    obtain ⟨hck, hlb, hri⟩ := askedE_chk h
    have hok := check_ok hck
    obtain ⟨h1, h2⟩ := rise_some hok.ls hlb hri
    have e1 := worst_all hok false h1
    rw [h2] at e1
    simp only [handsL, Bool.false_eq_true, if_false] at e1
    rw [e1]
  · rw [if_pos h, if_pos h]
def MinW (C P : List Int → Prop) (s : List Int) : Prop := C s ∧ P s ∧ ∀ c, C c → P c → c = s ∨ before s c = true
def othersOk (m : Market) (s : List Int) : Prop := servedR m (leastL m) (othersTo s m.shops.length) = true
theorem others_list : ∀ n < 5, ∀ b < 16, b < 2 ^ n → othersTo (listL b n) n = listL (bitDiff (1 <<< n - 1) b) n ∧ bitDiff (1 <<< n - 1) b < 2 ^ n := by decide +kernel
theorem zFz : ∀ n < 5, othersTo [] n = listL (1 <<< n - 1) n ∧ 1 <<< n - 1 < 2 ^ n ∧ othersTo (listL (1 <<< n - 1) n) n = [] ∧ 1 <<< n - 1 < 16 ∧ 2 ^ n = 1 <<< n := by decide +kernel
theorem servedR_nil (m : Market) (hands : List Int) : servedR m hands [] = true := by
  have : setsL [] = [[]] := by decide
  unfold servedR worstR
  rw [this]
  rfl
theorem zF8 {m : Market} (hok : m.Ok) : ∀ k, k ≤ 1 <<< m.shops.length - 1 → MinW (fun l => l = listL (1 <<< m.shops.length - 1) m.shops.length ∨ ∃ b, b < k ∧ l = listL b m.shops.length) (othersOk m) (withoutTo m k)
  | 0, _ => by
    have h := zFz m.shops.length (by have := hok.ls; omega)
    refine ⟨.inl rfl, ?_, fun c hc _ => ?_⟩
    · show servedR m (leastL m) (othersTo (listL (1 <<< m.shops.length - 1) m.shops.length) m.shops.length) = true
      rw [h.2.2.1]; exact servedR_nil _ _
    · rcases hc with h | ⟨b, h, _⟩
      · exact .inl h
      · omega
  | k + 1, hk => by
    obtain ⟨h1, h2, h3⟩ := zF8 hok k (by omega)
    have hn := zFz m.shops.length (by have := hok.ls; omega)
    have hok2 := others_list m.shops.length (by have := hok.ls; omega) k (by omega) (by omega)
    have hsv := served_all hok false hok2.2
    simp only [handsL, Bool.false_eq_true, if_false] at hsv
    have hP : othersOk m (listL k m.shops.length) ↔ servedS m (allX m false) (bitDiff (1 <<< m.shops.length - 1) k) = true := by
      unfold othersOk; rw [hok2.1, hsv]
    simp only [withoutTo, withoutStep]
    by_cases hb : before (listL k m.shops.length) (withoutTo m k) = true
    · by_cases hsd : servedS m (allX m false) (bitDiff (1 <<< m.shops.length - 1) k) = true
      · rw [hb, hsd]
        refine ⟨.inr ⟨k, by omega, rfl⟩, hP.2 hsd, fun c hc hco => ?_⟩
        have hc' : (c = listL (1 <<< m.shops.length - 1) m.shops.length ∨ ∃ b, b < k ∧ c = listL b m.shops.length) ∨ c = listL k m.shops.length := by
          rcases hc with h | ⟨b, hb, h⟩
          · exact .inl (.inl h)
          · by_cases e : b = k
            · subst e; exact .inr h
            · exact .inl (.inr ⟨b, by omega, h⟩)
        rcases hc' with hc' | hc'
        · rcases h3 c hc' hco with h | h
          · subst h; exact .inr hb
          · exact .inr (zEz hb h)
        · exact .inl hc'
      · rw [hb]
        simp only [Bool.not_eq_true] at hsd
        rw [hsd]
        refine ⟨?_, h2, fun c hc hco => ?_⟩
        · rcases h1 with h | ⟨b, hb, h⟩
          · exact .inl h
          · exact .inr ⟨b, by omega, h⟩
        · rcases hc with h | ⟨b, hb, h⟩
          · exact h3 c (.inl h) hco
          · by_cases e : b = k
            · subst e; subst h; rw [hP.1 hco] at hsd; cases hsd
            · exact h3 c (.inr ⟨b, by omega, h⟩) hco
    · simp only [Bool.not_eq_true] at hb
      rw [hb]
      refine ⟨?_, h2, fun c hc hco => ?_⟩
      · rcases h1 with h | ⟨b, hb, h⟩
        · exact .inl h
        · exact .inr ⟨b, by omega, h⟩
      · rcases hc with h | ⟨b, hb', h⟩
        · exact h3 c (.inl h) hco
        · by_cases e : b = k
          · subst e; subst h
            show listL b m.shops.length = withoutTo m b ∨ before (withoutTo m b) (listL b m.shops.length) = true
            cases hbb : before (withoutTo m b) (listL b m.shops.length) with
            | true => exact .inr rfl
            | false => exact .inl (zG4 hb hbb)
          · exact h3 c (.inr ⟨b, by omega, h⟩) hco
theorem diff_all : ∀ n < 5, ∀ b < 16, (bitDiff b (1 <<< n - 1) = 0 ↔ b < 2 ^ n) := by decide +kernel
theorem zJ0 {m : Market} (hok : m.Ok) : MinW (· ∈ setsL (othersTo [] m.shops.length)) (othersOk m) (withoutL m) := by
  have hls := hok.ls
  have hn := zFz m.shops.length (by omega)
  obtain ⟨h1, h2, h3⟩ := zF8 hok _ (Nat.le_refl _)
  have hiff : ∀ l, l ∈ setsL (othersTo [] m.shops.length) ↔ (l = listL (1 <<< m.shops.length - 1) m.shops.length ∨ ∃ b, b < 1 <<< m.shops.length - 1 ∧ l = listL b m.shops.length) := by
    intro l
    rw [hn.1]
    constructor
    · intro h
      obtain ⟨b, hb, hd, e⟩ := sets_in m.shops.length (by omega) _ hn.2.2.2.1 hn.2.1 l h
      have := (diff_all m.shops.length (by omega) b hb).1 hd
      by_cases e2 : b = 1 <<< m.shops.length - 1
      · subst e2; exact .inl e
      · exact .inr ⟨b, by omega, e⟩
    · rintro (e | ⟨b, hb, e⟩)
      · subst e
        exact zIb m.shops.length (by omega) _ hn.2.2.2.1 hn.2.1 _ hn.2.2.2.1 ((diff_all m.shops.length (by omega) _ hn.2.2.2.1).2 hn.2.1)
      · subst e
        exact zIb m.shops.length (by omega) _ hn.2.2.2.1 hn.2.1 _ (by omega) ((diff_all m.shops.length (by omega) _ (by omega)).2 (by omega))
  exact ⟨(hiff _).2 h1, h2, fun c hc hco => h3 c ((hiff c).1 hc) hco⟩
end Go.Rt.Sh
/- Plain laws of the shop layer: a room with more hands, a train that is late; More and Late of the program are the reference's. No conditions. -/
namespace Go.Rt
namespace Sh
def addH (r : Room) (n : Int) : Room := { r with lo := r.lo + n, hi := r.hi + n }
def addRoom : List Room → Nat → Int → List Room
  | [], _, _ => []
  | r :: l, 0, n => addH r n :: l
  | r :: l, i + 1, n => r :: addRoom l i n
def withM (m : Market) (i : Nat) (n : Int) : Market := { m with rooms := addRoom m.rooms i n }
def allL' (m : Market) : List Int := othersTo [] m.shops.length
def moreToR (m : Market) (r i : Nat) : Nat → Option Nat
  | 0 => none
  | k + 1 => if servedR m (leastL (withM m r i)) (allL' m) then some i else moreToR m r (i + 1) k
def moreR (m : Market) (r : Int) : Int × Int := if enterE m m.rooms.length [r] ≠ 0 then (0, enterE m m.rooms.length [r]) else match moreToR m r.toNat 0 61 with | some n => ((n : Int), 0) | none => (0,9)
def lateR (m : Market) (r : Int) : Int × Int :=
  if enterE m m.trains.length [r] ≠ 0 then (0, enterE m m.trains.length [r]) else
    (max (0 : Int) ((worstR (lateM m r.toNat) (leastL m) (wantsL m) (allL' m) 0).2 - (worstR m (leastL m) (wantsL m) (allL' m) 0).2), 0)
theorem packX_set {hands wants : List Int} {fro r : Nat} {z : Int} (hr : r < 3) (hl : r < hands.length) : packX (hands.set r z) wants fro = (packX hands wants fro).set r z := by
  refine ext_getD (by simp [packX]) fun i hi => ?_
  have hi8 : i < 8 := hi
  by_cases h3 : i < 3
  · rw [zE9 _ _ _ h3]
    by_cases e : r = i
    · subst e
      rw [zDv hl, zDv (by simp [packX]; omega)]
    · rw [zCh e, zCh e, zE9 _ _ _ h3]
  · rw [zCh (x := packX hands wants fro) (by omega)]
    have : i = 3 ∨ i = 4 ∨ i = 5 ∨ i = 6 ∨ i = 7 := by omega
    rcases this with rfl | rfl | rfl | rfl | rfl <;> rfl
theorem all_list {m : Market} (hok : m.Ok) : allL' m = listL (1 <<< m.shops.length - 1) m.shops.length ∧ 1 <<< m.shops.length - 1 < 2 ^ m.shops.length := by
  have hn := zFz m.shops.length (by have := hok.ls; omega)
  exact ⟨hn.1, hn.2.1⟩
end Sh
end Go.Rt
