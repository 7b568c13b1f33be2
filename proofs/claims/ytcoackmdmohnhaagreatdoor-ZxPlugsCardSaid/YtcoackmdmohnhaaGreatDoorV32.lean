/- The reference: Plug. -/
import Derived.Test.YtcoackmdmohnhaaGreatDoorV30
import Derived.Test.YtcoackmdmohnhaaGreatDoorV31
set_option linter.unusedVariables false
set_option linter.unusedSimpArgs false
set_option maxRecDepth 100000
set_option maxHeartbeats 4000000
namespace Go.Proofs.YtcoackmdmohnhaaGreatDoor
open Go.RowKit Go.Shelf
theorem scBd {x : Num} (h : x.check = 0) : Bd 4611686018427387904 x.a x.b x.c x.d := by
 have h1 := (check_bd (a := x.a) (b := x.b) (c := x.c) (d := x.d) (k := x.k) h).2; unfold Bd at *; omega
theorem plug26 (v : DV) (d : Diag) (w : World) (hd : DRd w v d) (h1 : v.n1 ≤ 1000) (h2 : v.n2 ≤ 1000) (h3 : v.n3 ≤ 1000) (h4 : v.n4 ≤ 1000) (m q : Int) :
  Calls Tryz.prog 26 #[diaV v d.sc, m, q] w (RetD w.heap.size (d.plugR m q) w) := by
 obtain ⟨W, hW⟩ : ∃ W, W = ((w.alloc (.cells (a9 v d.sc) 28)).alloc (.cells zA 28)) := ⟨_, rfl⟩
 have hX1 : Blk W w.heap.size (l9 v d.sc) 28 := by
  rw [hW]; have h9 := ((Blk.new w (a9 v d.sc) 28).alloc (.cells zA 28)); simpa using h9
 have hX2 : Blk W (w.heap.size + 1) z9 28 := by
  rw [hW]; have h9 := (Blk.new (w.alloc (.cells (a9 v d.sc) 28)) zA 28); simpa using h9
 have hBW : Below w.heap.size w W := by rw [hW]; exact (bR.alloc (by simp; try omega) _).alloc (by simp; try omega) _
 have hsz : W.heap.size = w.heap.size + 2 := by rw [hW]; simp
 generalize hX2b : w.heap.size + 1 = X2b at hX2; have l3 := hd.ins.len; have l4 := hd.outs.len; have H38 := fun W hW => check38 v d W hW h1 h2 h3 h4; have H12 := fun W hW => own12 v d W hW h1 h2 h3 h4; have HB1 := Lib.hid hX1; have HB3 := Lib.hid hX2; have HBW := Lib.hid hBW; have HSZ : Aside (W.heap.size = w.heap.size + 2 ∧ X2b = w.heap.size + 1) := ⟨hsz, hX2b.symm⟩; have HD := Lib.hid (hd.below hBW); have HW := Lib.hid hW; have a_c := hX1.nine; clear hW hX1 hX2 hBW hsz hd h1 h2 h3 h4
 by_cases hc : d.check = 0
 case neg =>
  have HE : Aside (d.plugR m q = (Diag.nil, d.check)) := if_pos (by simpa using hc); have hc1 : (d.check != 0) = true := by simpa using hc
  generalize d.check = ck at *; clear hc; go_enter Tryz.func26, Tryz.ntmps26
  go_upto_region 1 with fail
  try rw [hX2b]
  rw [← HW.out]; clear hX2b
  go_wp2_with (go_at_call 38; (with_reducible refine (H38 _ HD.out).mono ?_); rintro e w1 ⟨rfl, hb1⟩; clear H38
               have hn1 := HB3.out.below hb1; have HN1 := Lib.hid hn1; have z_c := hn1.nine
               have HB2x := Lib.hid (HBW.out.trans (hb1.mono HBW.out.size)); clear hb1 hn1)
  have hq := HN1.out.set9 (.slice none 0 0) (.slice none 0 0) (.slice none 0 0) (.slice none 0 0) (.int .i64 0) (.int .i64 0) (.int .i64 0) (.int .i64 0) (.int .i64 0); refine bodyPost_ret (v := .tuple #[.agg #[.slice none 0 0, .slice none 0 0, .slice none 0 0, .slice none 0 0, .int .i64 0, .int .i64 0, .int .i64 0, .int .i64 0, .int .i64 0], ck]) (by simp [results, Tryz.results26, go_sem, hq.nine]) rfl ?_
  rw [HE.out]; exact ⟨nilDV, rfl, OwnD.nilD _ _, HB2x.out.trans ((touch_set9 _ _ _ _ _ _ _ _ _ _ _).below HB2x.out.size (fun x hx => by have := HSZ.out; simp at hx; omega))⟩
 have HEN : Aside (d.ends.length ≤ 40 ∧ ∀ x ∈ d.ends, 0 ≤ x ∧ x < (d.sp.length : Int)) := ends_ok hc
 have hel : d.ends.length = v.n3 + v.n4 := by
  have : d.ends.length = d.ins.length + d.outs.length := List.length_append; omega
 have hn34 : v.n3 + v.n4 ≤ 40 := by have := HEN.out.1; omega
 have HSC : Aside (d.sc.check = 0) := (Diag.ok_of_check hc).sc; obtain ⟨P, hP⟩ : ∃ P : Nat, P = 2 ^ v.n3 := ⟨_, rfl⟩; obtain ⟨Q, hQ⟩ : ∃ Q : Nat, Q = 2 ^ v.n4 := ⟨_, rfl⟩; have hP1 : P ≤ 1099511627776 := by rw [hP]; exact Nat.le_trans (Nat.pow_le_pow_right dE (show _ ≤ 40 by omega)) dE
 have hQ1 : Q ≤ 1099511627776 := by rw [hQ]; exact Nat.le_trans (Nat.pow_le_pow_right dE (show _ ≤ 40 by omega)) dE
 have hPz : (2 : Int) ^ v.n3 = (P : Int) := by rw [hP]; simp
 have hQz : (2 : Int) ^ v.n4 = (Q : Int) := by rw [hQ]; simp
 have hPw : IntKind.i64.wrap (P : Int) = (P : Int) := IntWalk.i64_in _ oM; have hQw : IntKind.i64.wrap (Q : Int) = (Q : Int) := IntWalk.i64_in _ oM; have hz3 : (v.n3 : Int) ≤ 64 := oM
 have hz4 : (v.n4 : Int) ≤ 64 := oM
 have HP0 : Aside (d.plugR m q = if m < 0 ∨ (P : Int) ≤ m ∨ q < 0 ∨ (Q : Int) ≤ q then (Diag.nil, 3) else if (d.sc.scaledR (-((v.n3 + v.n4 : Nat) : Int))).2 ≠ 0 then (Diag.nil, (d.sc.scaledR (-((v.n3 + v.n4 : Nat) : Int))).2) else ({ sp := plugO q 0 d.outs (plugO m 0 d.ins d.sp), ln := d.ln, ins := [], outs := [], sc := (d.sc.scaledR (-((v.n3 + v.n4 : Nat) : Int))).1 }, 0)) := by
  show d.plugR m q = _
  unfold Diag.plugR; rw [if_neg (by simpa using hc), l3, l4, hPz, hQz, show -((v.n3 + v.n4 : Nat) : Int) = -(v.n3 : Int) - (v.n4 : Int) by omega]
 have HLE : Aside (d.ins.length = v.n3 ∧ d.outs.length = v.n4) := ⟨l3, l4⟩; simp only [hc] at H38; clear hP hQ hel l3 l4 hc; go_enter Tryz.func26, Tryz.ntmps26
 go_upto_region 1 with fail
 try rw [hX2b]
 rw [← HW.out]; clear hX2b
 go_upto_region 4 with (go_at_call 38; (with_reducible refine (H38 _ HD.out).mono ?_); rintro e w1 ⟨rfl, hb1⟩; clear H38
                        have b_c := (HB1.out.below hb1).nine; have z_c := (HB3.out.below hb1).nine; have HX1 := Lib.hid (HB1.out.below hb1); have HZ1 := Lib.hid (HB3.out.below hb1); have HD1 := Lib.hid (HD.out.below hb1); have HWL : Aside (W.heap.size ≤ w1.heap.size) := hb1.size; have HL1 : Aside (Below w.heap.size w w1) := HBW.out.trans (hb1.mono HBW.out.size)
                        clear hb1 a_c)
 by_cases hrg : m < 0 ∨ (P : Int) ≤ m ∨ q < 0 ∨ (Q : Int) ≤ q
 case pos =>
  have HE : Aside (d.plugR m q = (Diag.nil, 3)) := by
   show _ = _
   rw [HP0.out, if_pos hrg]
  rcases (show m < 0 ∨ (¬ m < 0 ∧ (P : Int) ≤ m) ∨ (¬ m < 0 ∧ ¬ (P : Int) ≤ m ∧ q < 0) ∨ (¬ m < 0 ∧ ¬ (P : Int) ≤ m ∧ ¬ q < 0 ∧ (Q : Int) ≤ q) by omega) with g1 | ⟨g1, g2⟩ | ⟨g1, g2, g3⟩ | ⟨g1, g2, g3, g4⟩
  all_goals
   clear hrg; go_wp2_with fail
   have hq := HZ1.out.set9 (.slice none 0 0) (.slice none 0 0) (.slice none 0 0) (.slice none 0 0) (.int .i64 0) (.int .i64 0) (.int .i64 0) (.int .i64 0) (.int .i64 0); refine bodyPost_ret (v := .tuple #[.agg #[.slice none 0 0, .slice none 0 0, .slice none 0 0, .slice none 0 0, .int .i64 0, .int .i64 0, .int .i64 0, .int .i64 0, .int .i64 0], .int .i64 3]) (by simp [results, Tryz.results26, go_sem, hq.nine]) rfl ?_
   rw [HE.out]; exact ⟨nilDV, rfl, OwnD.nilD _ _, HL1.out.trans ((touch_set9 _ _ _ _ _ _ _ _ _ _ _).below HL1.out.size (fun x hx => by have := HSZ.out; simp at hx; omega))⟩
 have hm0 : ¬ m < 0 := oM
 have hm1 : ¬ (P : Int) ≤ m := oM
 have hq0 : ¬ q < 0 := oM
 have hq1 : ¬ (Q : Int) ≤ q := oM
 have HP1 : Aside (d.plugR m q = if (d.sc.scaledR (-((v.n3 + v.n4 : Nat) : Int))).2 ≠ 0 then (Diag.nil, (d.sc.scaledR (-((v.n3 + v.n4 : Nat) : Int))).2) else ({ sp := plugO q 0 d.outs (plugO m 0 d.ins d.sp), ln := d.ln, ins := [], outs := [], sc := (d.sc.scaledR (-((v.n3 + v.n4 : Nat) : Int))).1 }, 0)) := by
  show _ = _
  rw [HP0.out, if_neg hrg]
 clear HP0 hrg; have H12 := H12 w1 HD1.out
 go_upto_region 7 with (go_at_call 12; (with_reducible refine H12.mono ?_); rintro e w2 ⟨v1, rfl, hO, hb2⟩; clear H12
                        have HO := Lib.hid hO; have HX2 := Lib.hid (HX1.out.below hb2); have HZ2 := Lib.hid (HZ1.out.below hb2); have HL2 := Lib.hid (HL1.out.trans (hb2.mono HL1.out.size)); obtain ⟨c0, c1, c2, c3, c4, c5, c6, c7, c8, cf⟩ := (HX1.out.below hb2).nine
                        clear hO hb2 z_c b_c)
 obtain ⟨W7, hW7⟩ : ∃ W7, W7 = set9 w2 w.heap.size (.slice v1.A1 v1.n1 v1.c1) (.slice v1.A2 v1.n2 v1.c2) (.slice v1.A3 v1.n3 v1.c3) (.slice v1.A4 v1.n4 v1.c4) d.sc.a d.sc.b d.sc.c d.sc.d d.sc.k := ⟨_, rfl⟩; have HNB : Aside (∀ y ∈ blks v1, W.heap.size ≤ y) := fun y hy => Nat.le_trans HWL.out (HO.out.lt y hy).1
 have HK7 : Aside (WK 28 [] w.heap.size W7 w.heap.size v1 d) := by
  have h9 := HX2.out.set9 (.slice v1.A1 v1.n1 v1.c1) (.slice v1.A2 v1.n2 v1.c2) (.slice v1.A3 v1.n3 v1.c3) (.slice v1.A4 v1.n4 v1.c4) d.sc.a d.sc.b d.sc.c d.sc.d d.sc.k; rw [← hW7] at h9; refine ⟨h9, ?_, fun hm => by have := HNB.out _ hm; have := HSZ.out; omega, Nat.le_refl _⟩
  rw [hW7]; exact (HO.out.touch (touch_set9 _ _ _ _ _ _ _ _ _ _ _) (fun y hy hm => by simp at hm; have := HNB.out y hy; have := HSZ.out; omega)).mono (Nat.le_trans HBW.out.size HWL.out)
 have HZ7 : Aside (Blk W7 X2b z9 28) := by
  rw [hW7]; exact HZ2.out.touch (touch_set9 _ _ _ _ _ _ _ _ _ _ _) (by have := HSZ.out; simp; omega)
 have HL7 : Aside (Below w.heap.size w W7) := by
  rw [hW7]; exact HL2.out.trans ((touch_set9 _ _ _ _ _ _ _ _ _ _ _).below HL2.out.size (fun x hx => by simp at hx; omega))
 have HN1 : Aside (d.ins.length = v1.n3 ∧ d.outs.length = v1.n4 ∧ d.sp.length = v1.n1) := ⟨HO.out.n3, HO.out.n4, HO.out.n1⟩; have hv3 : v1.n3 ≤ 40 := by have h8 := HN1.out; have h9 := HLE.out; omega
 have hv4 : v1.n4 ≤ 40 := by have h8 := HN1.out; have h9 := HLE.out; omega
 unfold set9 at hW7; rw [← hW7]; clear hW7 c0 c1 c2 c3 c4 c5 c6 c7 c8 cf hPz hQz hPw hQw hP1 hQ1; obtain ⟨c0, c1, c2, c3, c4, c5, c6, c7, c8, cf⟩ := HK7.out.nine; go_wp2_with fail
 clear c0 c1 c2 c3 c4 c5 c6 c7 c8 cf
 go_loopg [48] v1.n3 (fun gg s48 wr => ∃ i : Nat, i ≤ v1.n3 ∧ v1.n3 - i ≤ gg ∧ s48 = i ∧ Aside (WK 28 [] w.heap.size wr w.heap.size v1 { d with sp := plugO m 0 (d.ins.take i) d.sp }) ∧ Aside (Touch (ownB v1.A1) W7 wr))
 case atStart => exact ⟨0, Nat.zero_le _, oM, rfl, HK7.out, Touch.refl _ _⟩
 obtain ⟨i, hi, hg, rfl, hK, hT⟩ := hrel; obtain ⟨c0, c1, c2, c3, c4, c5, c6, c7, c8, cf⟩ := hK.out.nine
 by_cases hlt : i < v1.n3
 · have hltz : (i : Int) < (v1.n3 : Int) := oM
   obtain ⟨x, hx⟩ := get_of (l := d.ins) (n := i) (by have := HN1.out; omega); obtain ⟨hx0, hx1⟩ := HEN.out.2 x (List.mem_append.2 (.inl (List.mem_of_getElem? hx))); obtain ⟨xn, rfl⟩ := Int.eq_ofNat_of_zero_le hx0; obtain ⟨eb, eo, hEA, _, q0⟩ := hK.out.own.rd.ins.at1 hx rfl; have hxl : xn < (plugO m 0 (d.ins.take i) d.sp).length := by rw [plugO_len]; omega
   obtain ⟨sx, hsx⟩ := get_of (l := plugO m 0 (d.ins.take i) d.sp) hxl; obtain ⟨g, hA, k0, k1, kf⟩ := hK.out.own.spAt hsx; have hTK := plugO_take m d.ins 0 i xn d.sp hx; rw [Nat.zero_add, Int.toNat_natCast] at hTK; obtain ⟨bt, hbt⟩ : ∃ bt, bt = m / 2 ^ i % 2 := ⟨_, rfl⟩; have hbit : bt = 0 ∨ bt = 1 := oM
   rw [← hbt] at hTK; have hb9 : m / 2 ^ i % 2 = bt := hbt.symm; have hand := i64_and1 (m / 2 ^ i); have hw4 : IntKind.i64.wrap (4 * bt) = 4 * bt := IntWalk.i64_in _ oM; have h1 := hK.out.rowSp hA hsx (y := ⟨2, sx.phase⟩) 0 dE (.int .i64 2) rfl; have hs2 : ((plugO m 0 (d.ins.take i) d.sp).set xn ⟨2, sx.phase⟩)[xn]? = some ⟨2, sx.phase⟩ := by rw [List.getElem?_set_self hxl]
   have h2 := h1.1.rowSp hA hs2 (y := ⟨2, 4 * bt⟩) 1 dE (.int .i64 (4 * bt)) rfl; have hK9 := h2.1; simp only [List.set_set, Nat.add_zero] at hK9; rw [← hTK] at hK9; have HK9 : Aside (WK 28 [] w.heap.size ((wr.setCell ⟨g, xn * 2, none⟩ (.int .i64 2)).setCell ⟨g, xn * 2 + 1, none⟩ (.int .i64 (4 * bt))).drew w.heap.size v1 { d with sp := plugO m 0 (d.ins.take (i + 1)) d.sp }) := ⟨hK9.blk, ⟨hK9.own.sp, hK9.own.ln, hK9.own.ins, hK9.own.outs, hK9.own.nd⟩, hK9.np, hK9.hp⟩; have HT9 : Aside (Touch (ownB v1.A1) W7 ((wr.setCell ⟨g, xn * 2, none⟩ (.int .i64 2)).setCell ⟨g, xn * 2 + 1, none⟩ (.int .i64 (4 * bt))).drew) := ((hT.out.trans (Touch.set1 _ _ _ _) (fun y hy => by simp at hy; subst hy; rw [hA]; exact .inl (by simp [ownB]))).trans (Touch.set1 _ _ _ _) (fun y hy => by simp at hy; subst hy; rw [hA]; exact .inl (by simp [ownB]))).drew
   have hxn : (xn : Int) < (v1.n1 : Int) := by have := HN1.out; omega
   have hiz : (i : Int) ≤ 64 := oM
   rw [hA] at c0; have HEA := Lib.hid hEA; have hwr : g < wr.heap.size := World.block_lt_of_cell? wr ⟨g, xn * 2, none⟩ k0; clear hx hxl hsx hTK hbt h1 hs2 h2 hK9 hx0 hx1 hA; rw [hEA]; clear hEA
   go_upto_region 10 with fail
   refine wp_region_F [(53, 10)] (fun l u => (l 10 = false → u = wr.drew) ∧ (l 10 = true → u = ((wr.setCell ⟨g, xn * 2, none⟩ (.int .i64 2)).setCell ⟨g, xn * 2 + 1, none⟩ (.int .i64 (4 * bt))).drew)) (fun i u u' => True) (fun j x u => match j with | 0 => x 53 = pt w.heap.size 0 | 1 => x 54 = .slice (some ⟨g, 0, none⟩) v1.n1 v1.c1 | 2 => x 55 = xn | 3 => x 56 = m | 4 => x 57 = i | 5 => x 58 = .int .i64 (m / 2 ^ i) | 6 => x 59 = bt | 7 => x 60 = .int .i64 (4 * bt) | 8 => x 61 = .agg #[.int .i64 2, .int .i64 (4 * bt)] | 9 => x 62 = .pointer (some ⟨g, xn * 2, none⟩) | 10 => True | _ => True) ?h0 ?hkeep ?hstep ?d0
   case h0 => exact ⟨(fun _ => rfl), (fun h => by cases h)⟩
   case hkeep =>
    intro j i x l u u' hj hi hpre ht hG hR; exact ht
   case hstep =>
    dsimp only [fil, fls, fl, List.toList_toArray, Nat.reduceAdd]; refine ⟨?_, ?c1, ?_, ?_, ?_, ?_, ?_, ?_, ?_, ?_, ?c10, trivial⟩
    all_goals intro l x u hG hno hli hpre hd K hK
    case c1 =>
     have e0 : x 53 = pt w.heap.size 0 := hd ⟨0, .data⟩ sI rfl; clear hd; simp only [e0] at hK ⊢; obtain rfl := hG.1 (hno 10 kR); go_simp
     exact hK _ _ rfl trivial sG
    case c10 =>
     have e9 : x 62 = .pointer (some ⟨g, xn * 2, none⟩) := hd ⟨9, .data⟩ sI rfl; have e8 : x 61 = .agg #[.int .i64 2, .int .i64 (4 * bt)] := hd ⟨8, .data⟩ sI rfl; clear hd; simp only [e9, e8] at hK ⊢; obtain rfl := hG.1 hli; go_simp
     exact hK undef _ trivial trivial ⟨fun h => by simp at h, fun _ => rfl⟩
    all_goals
     dsimp only at hd; simp only [eB] at hd
     try simp only [hd] at hK ⊢
     go_simp
     exact hK _ _ rfl trivial sG
   dsimp only [fil, fls, fl, List.toList_toArray, Nat.reduceAdd]; rintro l x u hall hG ⟨_, _, _, _, _, _, _, _, _, _, _, _⟩; obtain rfl := hG.2 (hall 10 dE); clear hall hG; generalize x = xx0; go_wp2_with fail
   rw [← HEA.out]
   go_roundg (v1.n3 - (i + 1))
   case measure => omega
   exact ⟨i + 1, oM, Nat.le_refl _, nX, HK9.out, HT9.out⟩
 have hltz : ¬ (i : Int) < (v1.n3 : Int) := oM
 have hK0 := hK.out; rw [List.take_of_length_le (by have := HN1.out; omega)] at hK0; clear c0 c1 c2 c3 c4 c5 c6 c7 c8 cf hK; obtain ⟨c0, c1, c2, c3, c4, c5, c6, c7, c8, cf⟩ := hK0.nine; go_wp2_with fail
 clear c0 c1 c2 c3 c4 c5 c6 c7 c8 cf hltz hlt hi hg; generalize i = i0
 go_loopg [67] v1.n4 (fun gg s67 wr => ∃ i : Nat, i ≤ v1.n4 ∧ v1.n4 - i ≤ gg ∧ s67 = i ∧ Aside (WK 28 [] w.heap.size wr w.heap.size v1 { d with sp := plugO q 0 (d.outs.take i) (plugO m 0 d.ins d.sp) }) ∧ Aside (Touch (ownB v1.A1) W7 wr))
 case atStart => exact ⟨0, Nat.zero_le _, oM, rfl, hK0, hT.out⟩
 obtain ⟨i, hi, hg, rfl, hK, hT⟩ := hrel; obtain ⟨c0, c1, c2, c3, c4, c5, c6, c7, c8, cf⟩ := hK.out.nine
 by_cases hlt : i < v1.n4
 · have hltz : (i : Int) < (v1.n4 : Int) := oM
   obtain ⟨x, hx⟩ := get_of (l := d.outs) (n := i) (by have := HN1.out; omega); obtain ⟨hx0, hx1⟩ := HEN.out.2 x (List.mem_append.2 (.inr (List.mem_of_getElem? hx))); obtain ⟨xn, rfl⟩ := Int.eq_ofNat_of_zero_le hx0; obtain ⟨eb, eo, hEA, _, q0⟩ := hK.out.own.rd.outs.at1 hx rfl; have hxl : xn < (plugO q 0 (d.outs.take i) (plugO m 0 d.ins d.sp)).length := by rw [plugO_len, plugO_len]; omega
   obtain ⟨sx, hsx⟩ := get_of (l := plugO q 0 (d.outs.take i) (plugO m 0 d.ins d.sp)) hxl; obtain ⟨g, hA, k0, k1, kf⟩ := hK.out.own.spAt hsx; have hTK := plugO_take q d.outs 0 i xn (plugO m 0 d.ins d.sp) hx; rw [Nat.zero_add, Int.toNat_natCast] at hTK; obtain ⟨bt, hbt⟩ : ∃ bt, bt = q / 2 ^ i % 2 := ⟨_, rfl⟩; have hbit : bt = 0 ∨ bt = 1 := oM
   rw [← hbt] at hTK; have hb9 : q / 2 ^ i % 2 = bt := hbt.symm; have hand := i64_and1 (q / 2 ^ i); have hw4 : IntKind.i64.wrap (4 * bt) = 4 * bt := IntWalk.i64_in _ oM; have h1 := hK.out.rowSp hA hsx (y := ⟨2, sx.phase⟩) 0 dE (.int .i64 2) rfl; have hs2 : ((plugO q 0 (d.outs.take i) (plugO m 0 d.ins d.sp)).set xn ⟨2, sx.phase⟩)[xn]? = some ⟨2, sx.phase⟩ := by rw [List.getElem?_set_self hxl]
   have h2 := h1.1.rowSp hA hs2 (y := ⟨2, 4 * bt⟩) 1 dE (.int .i64 (4 * bt)) rfl; have hK9 := h2.1; simp only [List.set_set, Nat.add_zero] at hK9; rw [← hTK] at hK9; have HK9 : Aside (WK 28 [] w.heap.size ((wr.setCell ⟨g, xn * 2, none⟩ (.int .i64 2)).setCell ⟨g, xn * 2 + 1, none⟩ (.int .i64 (4 * bt))).drew w.heap.size v1 { d with sp := plugO q 0 (d.outs.take (i + 1)) (plugO m 0 d.ins d.sp) }) := ⟨hK9.blk, ⟨hK9.own.sp, hK9.own.ln, hK9.own.ins, hK9.own.outs, hK9.own.nd⟩, hK9.np, hK9.hp⟩; have HT9 : Aside (Touch (ownB v1.A1) W7 ((wr.setCell ⟨g, xn * 2, none⟩ (.int .i64 2)).setCell ⟨g, xn * 2 + 1, none⟩ (.int .i64 (4 * bt))).drew) := ((hT.out.trans (Touch.set1 _ _ _ _) (fun y hy => by simp at hy; subst hy; rw [hA]; exact .inl (by simp [ownB]))).trans (Touch.set1 _ _ _ _) (fun y hy => by simp at hy; subst hy; rw [hA]; exact .inl (by simp [ownB]))).drew
   have hxn : (xn : Int) < (v1.n1 : Int) := by have := HN1.out; omega
   have hiz : (i : Int) ≤ 64 := oM
   rw [hA] at c0; have HEA := Lib.hid hEA; have hwr : g < wr.heap.size := World.block_lt_of_cell? wr ⟨g, xn * 2, none⟩ k0; clear hx hxl hsx hTK hbt h1 hs2 h2 hK9 hx0 hx1 hA; rw [hEA]; clear hEA
   go_upto_region 15 with fail
   refine wp_region_F [(72, 10)] (fun l u => (l 10 = false → u = wr.drew) ∧ (l 10 = true → u = ((wr.setCell ⟨g, xn * 2, none⟩ (.int .i64 2)).setCell ⟨g, xn * 2 + 1, none⟩ (.int .i64 (4 * bt))).drew)) (fun i u u' => True) (fun j x u => match j with | 0 => x 72 = pt w.heap.size 0 | 1 => x 73 = .slice (some ⟨g, 0, none⟩) v1.n1 v1.c1 | 2 => x 74 = xn | 3 => x 75 = q | 4 => x 76 = i | 5 => x 77 = .int .i64 (q / 2 ^ i) | 6 => x 78 = bt | 7 => x 79 = .int .i64 (4 * bt) | 8 => x 80 = .agg #[.int .i64 2, .int .i64 (4 * bt)] | 9 => x 81 = .pointer (some ⟨g, xn * 2, none⟩) | 10 => True | _ => True) ?h0 ?hkeep ?hstep ?d1
   case h0 => exact ⟨(fun _ => rfl), (fun h => by cases h)⟩
   case hkeep =>
    intro j i x l u u' hj hi hpre ht hG hR; exact ht
   case hstep =>
    dsimp only [fil, fls, fl, List.toList_toArray, Nat.reduceAdd]; refine ⟨?_, ?c1, ?_, ?_, ?_, ?_, ?_, ?_, ?_, ?_, ?c10, trivial⟩
    all_goals intro l x u hG hno hli hpre hd K hK
    case c1 =>
     have e0 : x 72 = pt w.heap.size 0 := hd ⟨0, .data⟩ sI rfl; clear hd; simp only [e0] at hK ⊢; obtain rfl := hG.1 (hno 10 kR); go_simp
     exact hK _ _ rfl trivial sG
    case c10 =>
     have e9 : x 81 = .pointer (some ⟨g, xn * 2, none⟩) := hd ⟨9, .data⟩ sI rfl; have e8 : x 80 = .agg #[.int .i64 2, .int .i64 (4 * bt)] := hd ⟨8, .data⟩ sI rfl; clear hd; simp only [e9, e8] at hK ⊢; obtain rfl := hG.1 hli; go_simp
     exact hK undef _ trivial trivial ⟨fun h => by simp at h, fun _ => rfl⟩
    all_goals
     dsimp only at hd; simp only [eB] at hd
     try simp only [hd] at hK ⊢
     go_simp
     exact hK _ _ rfl trivial sG
   dsimp only [fil, fls, fl, List.toList_toArray, Nat.reduceAdd]; rintro l x u hall hG ⟨_, _, _, _, _, _, _, _, _, _, _, _⟩; obtain rfl := hG.2 (hall 10 dE); clear hall hG; generalize x = xx0; go_wp2_with fail
   rw [← HEA.out]
   go_roundg (v1.n4 - (i + 1))
   case measure => omega
   exact ⟨i + 1, oM, Nat.le_refl _, nX, HK9.out, HT9.out⟩
 have hltz : ¬ (i : Int) < (v1.n4 : Int) := oM
 have hK0 := hK.out; rw [List.take_of_length_le (by have := HN1.out; omega)] at hK0; clear c0 c1 c2 c3 c4 c5 c6 c7 c8 cf hK; obtain ⟨c0, c1, c2, c3, c4, c5, c6, c7, c8, cf⟩ := hK0.nine; obtain ⟨r, hr⟩ : ∃ r, r = d.sc.scaledR (-(v1.n3 : Int) - (v1.n4 : Int)) := ⟨_, rfl⟩; have H74 := fun W => scaled74 d.sc (v1.n3 + v1.n4) W (Num.check_zero.1 HSC.out).1 (Num.check_zero.1 HSC.out).2.1 (scBd HSC.out) oM; rw [show (-((v1.n3 + v1.n4 : Nat) : Int)) = -(v1.n3 : Int) - (v1.n4 : Int) by omega, ← hr] at H74
 have HP2 : Aside (d.plugR m q = if r.2 ≠ 0 then (Diag.nil, r.2) else ({ sp := plugO q 0 d.outs (plugO m 0 d.ins d.sp), ln := d.ln, ins := [], outs := [], sc := r.1 }, 0)) := by
  show _ = _
  rw [HP1.out, hr, show (-((v.n3 + v.n4 : Nat) : Int)) = -(v1.n3 : Int) - (v1.n4 : Int) by have h8 := HN1.out; have h9 := HLE.out; omega]
 have hwn1 : IntKind.i64.wrap (-(v1.n3 : Int)) = -(v1.n3 : Int) := IntWalk.i64_in _ oM; have hwn2 : IntKind.i64.wrap (-(v1.n3 : Int) - (v1.n4 : Int)) = -(v1.n3 : Int) - (v1.n4 : Int) := IntWalk.i64_in _ oM; have HKr := Lib.hid hK0; have HZr : Aside (Blk wr X2b z9 28) := HZ7.out.touch hT.out (fun hm => by have h8 := HNB.out X2b (by simp [blks, hm]); have := HSZ.out; omega); have HLr : Aside (Below w.heap.size w wr) := HL7.out.trans (hT.out.below HL7.out.size (fun y hy => by have h8 := HNB.out y (by simp [blks, hy]); have := HSZ.out; omega)); clear hr hK0 HP1
 go_upto_region 19 with (go_at_call 74; (with_reducible refine (H74 _).mono ?_); rintro e w5 ⟨rfl, hb5⟩; clear H74
                         obtain ⟨k0, k1, k2, k3, k4, k5, k6, k7, k8, kf⟩ := (HKr.out.below hb5).nine; have HK5 := Lib.hid (HKr.out.below hb5); have HZ5 := Lib.hid (HZr.out.below hb5); have HL5 := Lib.hid (HLr.out.trans (hb5.mono HLr.out.size))
                         clear hb5 c0 c1 c2 c3 c4 c5 c6 c7 c8 cf)
 have h5 := HK5.out.putSc r.1; have hz5 : Blk (((((w5.setCell ⟨w.heap.size, 4, none⟩ r.1.a).setCell ⟨w.heap.size, 5, none⟩ r.1.b).setCell ⟨w.heap.size, 6, none⟩ r.1.c).setCell ⟨w.heap.size, 7, none⟩ r.1.d).setCell ⟨w.heap.size, 8, none⟩ r.1.k) X2b z9 28 := HZ5.out.upd ⟨HZ5.out.lt, by have := HSZ.out; omega, fun hm => by have h8 := HNB.out X2b hm; have := HSZ.out; omega⟩ h5.2; have hl5 := HL5.out.trans (HK5.out.below_of h5.2 HL5.out.size); obtain ⟨W8, hW8⟩ : ∃ W8, W8 = (((((w5.setCell ⟨w.heap.size, 4, none⟩ r.1.a).setCell ⟨w.heap.size, 5, none⟩ r.1.b).setCell ⟨w.heap.size, 6, none⟩ r.1.c).setCell ⟨w.heap.size, 7, none⟩ r.1.d).setCell ⟨w.heap.size, 8, none⟩ r.1.k) := ⟨_, rfl⟩; rw [← hW8] at h5 hz5 hl5 ⊢; have HK8 := Lib.hid h5.1; have HZ8 := Lib.hid hz5; have HL8 := Lib.hid hl5; clear hW8 h5 hl5 k0 k1 k2 k3 k4 k5 k6 k7 k8 kf; have z_c := hz5.nine; clear hz5
 by_cases hr2 : r.2 = 0
 · have HE : Aside (d.plugR m q = ({ sp := plugO q 0 d.outs (plugO m 0 d.ins d.sp), ln := d.ln, ins := [], outs := [], sc := r.1 }, 0)) := by
    show _ = _
    rw [HP2.out, if_neg (by simpa using hr2)]
   have q1 : (r.2 != 0) = false := by simpa using hr2
   obtain ⟨k0, k1, k2, k3, k4, k5, k6, k7, k8, kf⟩ := HK8.out.nine; have h6 := HK8.out.putIns (S := []) (Touch.refl _ _) sI (A := none) (n := 0) (c := 0) (xs := []) ⟨rfl, .inl ⟨rfl, rfl⟩⟩ (by simp [ownB]); have h7 := h6.1.putOuts (S := []) (Touch.refl _ _) sI (A := none) (n := 0) (c := 0) (xs := []) ⟨rfl, .inl ⟨rfl, rfl⟩⟩ (by simp [ownB]); have hT9 : Touch [w.heap.size] W8 ((W8.setCell ⟨w.heap.size, 2, none⟩ (.slice none 0 0)).setCell ⟨w.heap.size, 3, none⟩ (.slice none 0 0)) := (Touch.set1 _ _ _ _).trans (Touch.set1 _ _ _ _) (fun y hy => .inl hy); have HK9 := Lib.hid h7.1; have HT9 := Lib.hid hT9; clear hr2 h6 h7 hT9 HP2 z_c
   go_upto_region 22 with fail
   generalize (W8.setCell ⟨w.heap.size, 2, none⟩ (.slice none 0 0)).setCell ⟨w.heap.size, 3, none⟩ (.slice none 0 0) = W9 at *; clear k0 k1 k2 k3 k4 k5 k6 k7 k8 kf; obtain ⟨k0, k1, k2, k3, k4, k5, k6, k7, k8, kf⟩ := HK9.out.nine; have HZ9 := Lib.hid (HZ8.out.touch HT9.out (by have := HSZ.out; simp; omega)); have HL9 := Lib.hid (HL8.out.trans (HT9.out.below HL8.out.size (fun y hy => by simp at hy; omega))); have z_c := HZ9.out.nine; go_wp2_with fail
   have hq := HZ9.out.set9 (.slice v1.A1 v1.n1 v1.c1) (.slice v1.A2 v1.n2 v1.c2) (.slice none 0 0) (.slice none 0 0) r.1.a r.1.b r.1.c r.1.d r.1.k; refine bodyPost_ret (v := .tuple #[diaV ⟨v1.A1, v1.n1, v1.c1, v1.A2, v1.n2, v1.c2, none, 0, 0, none, 0, 0⟩ r.1, .int .i64 0]) (by simp [results, Tryz.results26, go_sem, hq.nine]) rfl ?_
   rw [HE.out]; exact ⟨_, rfl, (show Aside _ from HK9.out.own.touch (touch_set9 _ _ _ _ _ _ _ _ _ _ _) (fun y hy hm => by simp at hm; have h8 := HNB.out y (by simp [blks, ownB] at hy ⊢; rcases hy with hy | hy <;> simp [hy]); have := HSZ.out; omega)), HL9.out.trans ((touch_set9 _ _ _ _ _ _ _ _ _ _ _).below HL9.out.size (fun x hx => by have := HSZ.out; simp at hx; omega))⟩
 have HE : Aside (d.plugR m q = (Diag.nil, r.2)) := by
  show _ = _
  rw [HP2.out, if_pos (by simpa using hr2)]
 have q1 : (r.2 != 0) = true := by simpa using hr2
 clear hr2; go_wp2_with fail
 have hq := HZ8.out.set9 (.slice none 0 0) (.slice none 0 0) (.slice none 0 0) (.slice none 0 0) (.int .i64 0) (.int .i64 0) (.int .i64 0) (.int .i64 0) (.int .i64 0); refine bodyPost_ret (v := .tuple #[.agg #[.slice none 0 0, .slice none 0 0, .slice none 0 0, .slice none 0 0, .int .i64 0, .int .i64 0, .int .i64 0, .int .i64 0, .int .i64 0], r.2]) (by simp [results, Tryz.results26, go_sem, hq.nine]) rfl ?_
 rw [HE.out]; exact ⟨nilDV, rfl, OwnD.nilD _ _, HL8.out.trans ((touch_set9 _ _ _ _ _ _ _ _ _ _ _).below HL8.out.size (fun x hx => by have := HSZ.out; simp at hx; omega))⟩
end Go.Proofs.YtcoackmdmohnhaaGreatDoor
