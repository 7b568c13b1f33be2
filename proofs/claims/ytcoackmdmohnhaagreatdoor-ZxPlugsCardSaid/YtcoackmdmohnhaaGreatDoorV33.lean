/- Contracts of functions, and plain lemmas; each theorem's conditions stand in its statement. -/
import Derived.Test.YtcoackmdmohnhaaGreatDoorV28
import Derived.Test.YtcoackmdmohnhaaGreatDoorV32
set_option linter.unusedVariables false
set_option linter.unusedSimpArgs false
set_option maxRecDepth 100000
set_option maxHeartbeats 4000000
namespace Go.Proofs.YtcoackmdmohnhaaGreatDoor
section
open Go.RowKit Go.Shelf
variable {B : Nat} {i : Nat} {k : Nat} {n : Nat} {c : Nat} {g : Nat} {e : TypeId} {A : Option Addr} {S : List Nat} {w : World} {w' : World} {v : DV} {d : Diag}
structure Sp4 (B : Nat) (w : World) (v : DV) : Prop where
 o1 : ∃ xs, w.ownsRow B 73 2 (.slice v.A1 v.n1 v.c1) v.n1 xs
 o2 : ∃ xs, w.ownsRow B 77 3 (.slice v.A2 v.n2 v.c2) v.n2 xs
 o3 : ∃ xs, w.ownsRow B 3 1 (.slice v.A3 v.n3 v.c3) v.n3 xs
 o4 : ∃ xs, w.ownsRow B 3 1 (.slice v.A4 v.n4 v.c4) v.n4 xs
 nd : (blks v).Nodup
theorem OwnD.sp4 (h : OwnD B w v d) : Sp4 B w v := ⟨⟨_, h.sp⟩, ⟨_, h.ln⟩, ⟨_, h.ins⟩, ⟨_, h.outs⟩, h.nd⟩
theorem Sp4.below (h : Sp4 B w v) (hb : Below w.heap.size w w') : Sp4 B w' v := by
 obtain ⟨⟨_, h1⟩, ⟨_, h2⟩, ⟨_, h3⟩, ⟨_, h4⟩, hn⟩ := h; have hT := Touch.of_below hb; exact ⟨⟨_, ownsRow_touch h1 hT sI⟩, ⟨_, ownsRow_touch h2 hT sI⟩, ⟨_, ownsRow_touch h3 hT sI⟩, ⟨_, ownsRow_touch h4 hT sI⟩, hn⟩
theorem Sp4.set (h : Sp4 B w v) (hg : g ∈ blks v) (j : Nat) (u : Value) : Sp4 B (w.setCell ⟨g, j, none⟩ u) v := by
 obtain ⟨⟨x1, h1⟩, ⟨x2, h2⟩, ⟨x3, h3⟩, ⟨x4, h4⟩, hn⟩ := h; have hT := Touch.set1 w g j u
 have key : ∀ {e : TypeId} {k : Nat} {A : Option Addr} {n c : Nat} {xs : List Value}, w.ownsRow B e k (.slice A n c) n xs → ∃ ys, (w.setCell ⟨g, j, none⟩ u).ownsRow B e k (.slice A n c) n ys := by
  intro e k A n c xs h9
  by_cases hb : ∃ a, A = some a ∧ a.block = g
  · obtain ⟨a, rfl, rfl⟩ := hb
    rcases h9.2 with ⟨hv, _⟩ | ⟨g', cap, cur, hv, _⟩
    · cases hv
    cases hv
    exact ⟨_, (h9.stored j u).1⟩
  refine ⟨_, ownsRow_touch h9 hT (fun b hb9 hm => hb ?_)⟩
  simp at hm
  subst hm; obtain ⟨a, e1, e2⟩ := mem_ownB.1 (ownBlock_ownB hb9); exact ⟨a, e1, e2.symm⟩
 exact ⟨key h1, key h2, key h3, key h4, hn⟩
theorem row_at {xs : List Value} (h : w.ownsRow B e k (.slice A n c) n xs) (hi : i < n) (hk : 0 < k) : ∃ g, A = some ⟨g, 0, none⟩ ∧ (∀ j, j < k → ∃ u, w.cell? ⟨g, i * k + j, none⟩ = some u) ∧ ∀ o, w.frozen? ⟨g, o, none⟩ = false := by
 have hl := h.1
 rcases h.2 with ⟨hv, h0⟩ | ⟨g, cap, cur, hv, _⟩
 · omega
 cases hv
 refine ⟨g, rfl, fun j hj => ?_, fun o => h.frozenAt o⟩
 have h2 : i * k + j < n * k := by
  have h3 : (i + 1) * k ≤ n * k := Nat.mul_le_mul_right k hi; rw [Nat.succ_mul] at h3; omega
 have h4 := h.cellAt (i * k + j) h2; rw [h4]; exact ⟨xs[i * k + j], List.getElem?_eq_getElem oM⟩
theorem touch_mem {a : World} (h : Touch S a w) (hg : g ∈ S) (j : Nat) (u : Value) : Touch S a (w.setCell ⟨g, j, none⟩ u) := h.setCell _ (.inl hg) u
theorem spoil24 (h : Sp4 B w v) (hb1 : v.n1 ≤ 1000000) (hb2 : v.n2 ≤ 1000000) (hb3 : v.n3 ≤ 1000000) (hb4 : v.n4 ≤ 1000000) (s0 s1 s2 s3 s4 : Int) :
  Calls Tryz.prog 24 #[.agg #[.slice v.A1 v.n1 v.c1, .slice v.A2 v.n2 v.c2, .slice v.A3 v.n3 v.c3, .slice v.A4 v.n4 v.c4, s0, s1, s2, s3, s4]] w fun e w' => (∃ z, e = .returned z) ∧ Touch (blks v) w w' := by
 obtain ⟨W, hW⟩ : ∃ W, W = (w.alloc (.cells #[.slice v.A1 v.n1 v.c1, .slice v.A2 v.n2 v.c2, .slice v.A3 v.n3 v.c3, .slice v.A4 v.n4 v.c4, s0, s1, s2, s3, s4] 28)) := ⟨_, rfl⟩
 have hX1 : Blk W w.heap.size [.slice v.A1 v.n1 v.c1, .slice v.A2 v.n2 v.c2, .slice v.A3 v.n3 v.c3, .slice v.A4 v.n4 v.c4, s0, s1, s2, s3, s4] 28 := by
  rw [hW]; have h9 := (Blk.new w #[.slice v.A1 v.n1 v.c1, .slice v.A2 v.n2 v.c2, .slice v.A3 v.n3 v.c3, .slice v.A4 v.n4 v.c4, s0, s1, s2, s3, s4] 28); simpa using h9
 have hBW : Below w.heap.size w W := by rw [hW]; exact bR.alloc (by simp; try omega) _
 have hsz : W.heap.size = w.heap.size + 1 := by rw [hW]; simp
 have HB1 := Lib.hid hX1; have HBW : Aside (Below w.heap.size w W) := hBW; have HW := Lib.hid hW; have HS := Lib.hid (h.below hBW)
 have HNB : Aside (w.heap.size ∉ blks v) := by
  have key : ∀ {e : TypeId} {k : Nat} {A : Option Addr} {n c : Nat} {xs : List Value}, w.ownsRow B e k (.slice A n c) n xs → w.heap.size ∉ ownB A := fun h9 hm => by have := (ownsRow_lt h9 _ hm).2; omega
  obtain ⟨⟨_, h1⟩, ⟨_, h2⟩, ⟨_, h3⟩, ⟨_, h4⟩, _⟩ := h; intro hm; simp only [blks, List.mem_append] at hm
  rcases hm with hm | hm | hm | hm
  · exact key h1 hm
  · exact key h2 hm
  · exact key h3 hm
  exact key h4 hm
 obtain ⟨x0, x1, x2, x3, x4, x5, x6, x7, x8, xf⟩ := hX1.nine; clear h hX1 hBW hsz hW; go_enter Tryz.func24, Tryz.ntmps24
 go_upto_region 1 with fail
 rw [← HW.out]
 go_upto_region 2 with fail
 have HB1 := HB1
 go_loopg [10] v.n1 (fun gg s10 wr => ∃ kk : Nat, kk ≤ v.n1 ∧ v.n1 - kk ≤ gg ∧ s10 = kk ∧ Aside (Sp4 B wr v) ∧ Aside (Touch (blks v) W wr))
 case atStart => exact ⟨0, Nat.zero_le _, oM, rfl, HS.out, Touch.refl _ _⟩
 obtain ⟨kk, hkk, hg, rfl, hS, hT⟩ := hrel; obtain ⟨x0, x1, x2, x3, x4, x5, x6, x7, x8, xf⟩ := (HB1.out.touch hT.out HNB.out).nine
 by_cases hlt : kk < v.n1
 case pos =>
  have hltz : (kk : Int) < (v.n1 : Int) := oM
  obtain ⟨_, ho⟩ := hS.out.o1; obtain ⟨g, hA, hcl, kf⟩ := row_at ho hlt dE; obtain ⟨p0, y0⟩ := hcl 0 dE; obtain ⟨p1, y1⟩ := hcl 1 dE; simp only [Nat.add_zero] at y0; have hgm : g ∈ blks v := by simp [blks, hA, ownB]
  have HSN : Aside (Sp4 B ((wr.setCell ⟨g, kk * 2, none⟩ (.int .i64 2)).setCell ⟨g, kk * 2 + 1, none⟩ (.int .i64 3)) v) := ((hS.out.set hgm _ _).set hgm _ _); have HTN : Aside (Touch (blks v) W ((wr.setCell ⟨g, kk * 2, none⟩ (.int .i64 2)).setCell ⟨g, kk * 2 + 1, none⟩ (.int .i64 3))) := (touch_mem (touch_mem hT.out hgm _ _) hgm _ _); rw [hA] at x0; clear hcl ho; go_wp2_with fail
  go_roundg (v.n1 - (kk + 1))
  case measure => omega
  exact ⟨kk + 1, oM, Nat.le_refl _, nX, HSN.out, HTN.out⟩
 have hltz : ¬ (kk : Int) < (v.n1 : Int) := oM
 go_upto_region 7 with fail
 clear hlt hltz hkk hg x0 x1 x2 x3 x4 x5 x6 x7 x8 xf; have HB2 := Lib.hid (HB1.out.touch hT.out HNB.out); have HT1 := hT; have HS1 := hS; rename World => WA
 go_loopg [22] v.n2 (fun gg s22 wr => ∃ kk : Nat, kk ≤ v.n2 ∧ v.n2 - kk ≤ gg ∧ s22 = kk ∧ Aside (Sp4 B wr v) ∧ Aside (Touch (blks v) WA wr))
 case atStart => exact ⟨0, Nat.zero_le _, oM, rfl, HS1.out, Touch.refl _ _⟩
 obtain ⟨kk, hkk, hg, rfl, hS, hT⟩ := hrel; obtain ⟨x0, x1, x2, x3, x4, x5, x6, x7, x8, xf⟩ := (HB2.out.touch hT.out HNB.out).nine
 by_cases hlt : kk < v.n2
 case pos =>
  have hltz : (kk : Int) < (v.n2 : Int) := oM
  obtain ⟨_, ho⟩ := hS.out.o2; obtain ⟨g, hA, hcl, kf⟩ := row_at ho hlt dE; obtain ⟨p0, y0⟩ := hcl 0 dE; obtain ⟨p1, y1⟩ := hcl 1 dE; obtain ⟨p2, y2⟩ := hcl 2 dE; simp only [Nat.add_zero] at y0; have hgm : g ∈ blks v := by simp [blks, hA, ownB]
  have HSN : Aside (Sp4 B (((wr.setCell ⟨g, kk * 3, none⟩ (.int .i64 39)).setCell ⟨g, kk * 3 + 1, none⟩ (.int .i64 39)).setCell ⟨g, kk * 3 + 2, none⟩ (.bool true)) v) := (((hS.out.set hgm _ _).set hgm _ _).set hgm _ _); have HTN : Aside (Touch (blks v) WA (((wr.setCell ⟨g, kk * 3, none⟩ (.int .i64 39)).setCell ⟨g, kk * 3 + 1, none⟩ (.int .i64 39)).setCell ⟨g, kk * 3 + 2, none⟩ (.bool true))) := (touch_mem (touch_mem (touch_mem hT.out hgm _ _) hgm _ _) hgm _ _); rw [hA] at x1; clear hcl ho; go_wp2_with fail
  go_roundg (v.n2 - (kk + 1))
  case measure => omega
  exact ⟨kk + 1, oM, Nat.le_refl _, nX, HSN.out, HTN.out⟩
 have hltz : ¬ (kk : Int) < (v.n2 : Int) := oM
 go_upto_region 12 with fail
 clear hlt hltz hkk hg x0 x1 x2 x3 x4 x5 x6 x7 x8 xf; obtain ⟨W9, hW9⟩ : ∃ W9, W9 = wr.alloc (.cells #[.slice v.A3 v.n3 v.c3, .slice v.A4 v.n4 v.c4] 24) := ⟨_, rfl⟩; rw [← hW9]; have hbx : Blk W9 wr.heap.size [.slice v.A3 v.n3 v.c3, .slice v.A4 v.n4 v.c4] 24 := by rw [hW9]; exact Blk.new _ _ _
 have hb9 : Below wr.heap.size wr W9 := by rw [hW9]; exact bR.alloc (Nat.le_refl _) _
 have HS2 := Lib.hid (hS.out.below hb9); have HT2 : Aside (Touch (blks v) W W9) := (HT1.out.trans hT.out (fun x hx => .inl hx)).then_below hb9
 have HNQ : Aside (wr.heap.size ∉ blks v) := by
  have key : ∀ {e : TypeId} {k : Nat} {A : Option Addr} {n c : Nat} {xs : List Value}, wr.ownsRow B e k (.slice A n c) n xs → wr.heap.size ∉ ownB A := fun h9 hm => by have := (ownsRow_lt h9 _ hm).2; omega
  obtain ⟨⟨_, h1⟩, ⟨_, h2⟩, ⟨_, h3⟩, ⟨_, h4⟩, _⟩ := hS.out; intro hm; simp only [blks, List.mem_append] at hm
  rcases hm with hm | hm | hm | hm
  · exact key h1 hm
  · exact key h2 hm
  · exact key h3 hm
  exact key h4 hm
 generalize wr.heap.size = q at *; have HBX := Lib.hid hbx; clear hW9 hbx hb9
 go_loopg [37] 2 (fun gg s37 wr => ∃ t : Nat, t ≤ 2 ∧ 2 - t ≤ gg ∧ s37 = t ∧ Aside (Sp4 B wr v) ∧ Aside (Touch (blks v) W9 wr))
 case atStart => exact ⟨0, oM, oM, rfl, HS2.out, Touch.refl _ _⟩
 obtain ⟨t, ht, hgt, rfl, hS9, hT9⟩ := hrel; have hbq := HBX.out.touch hT9.out HNQ.out; have b0 := hbq.cell 0 _ rfl; have b1 := hbq.cell 1 _ rfl; clear hbq
 by_cases h0 : t = 0
 case pos =>
  subst h0
  go_upto_region 15 with fail
  clear b0 b1; rename World => WC
  go_loopg [43] v.n3 (fun gg s43 wr => ∃ kk : Nat, kk ≤ v.n3 ∧ v.n3 - kk ≤ gg ∧ s43 = kk ∧ Aside (Sp4 B wr v) ∧ Aside (Touch (blks v) WC wr))
  case atStart => exact ⟨0, Nat.zero_le _, oM, rfl, hS9.out, Touch.refl _ _⟩
  obtain ⟨kk, hkk, hg9, rfl, hS, hT⟩ := hrel
  by_cases hlt : kk < v.n3
  case pos =>
   have hltz : (kk : Int) < (v.n3 : Int) := oM
   obtain ⟨_, ho⟩ := hS.out.o3; obtain ⟨g, hA, hcl, kf⟩ := row_at ho hlt dE; obtain ⟨p0, y0⟩ := hcl 0 dE; simp only [Nat.mul_one, Nat.add_zero] at y0; have hgm : g ∈ blks v := by simp [blks, hA, ownB]
   have HSN : Aside (Sp4 B (wr.setCell ⟨g, kk, none⟩ (.int .i64 39)) v) := (hS.out.set hgm _ _); have HTN : Aside (Touch (blks v) WC (wr.setCell ⟨g, kk, none⟩ (.int .i64 39))) := (touch_mem hT.out hgm _ _); rw [hA]; clear hcl ho; go_wp2_with fail
   rw [← hA]; clear hA
   go_roundg (v.n3 - (kk + 1))
   case measure => omega
   exact ⟨kk + 1, oM, Nat.le_refl _, nX, HSN.out, HTN.out⟩
  have hltz : ¬ (kk : Int) < (v.n3 : Int) := oM
  have HTE : Aside (Touch (blks v) W9 wr) := hT9.out.trans hT.out (fun x hx => .inl hx); go_wp2_with fail
  go_roundg (2 - (0 + 1))
  case measure => omega
  exact ⟨1, oM, oM, (by go_simp <;> first | rfl | exact IntWalk.i64_in _ oM | (clear hwi; go_num)), hS.out, HTE.out⟩
 case neg =>
 by_cases h1 : t = 1
 case pos =>
  subst h1
  go_upto_region 15 with fail
  clear b0 b1; rename World => WC
  go_loopg [43] v.n4 (fun gg s43 wr => ∃ kk : Nat, kk ≤ v.n4 ∧ v.n4 - kk ≤ gg ∧ s43 = kk ∧ Aside (Sp4 B wr v) ∧ Aside (Touch (blks v) WC wr))
  case atStart => exact ⟨0, Nat.zero_le _, oM, rfl, hS9.out, Touch.refl _ _⟩
  obtain ⟨kk, hkk, hg9, rfl, hS, hT⟩ := hrel
  by_cases hlt : kk < v.n4
  case pos =>
   have hltz : (kk : Int) < (v.n4 : Int) := oM
   obtain ⟨_, ho⟩ := hS.out.o4; obtain ⟨g, hA, hcl, kf⟩ := row_at ho hlt dE; obtain ⟨p0, y0⟩ := hcl 0 dE; simp only [Nat.mul_one, Nat.add_zero] at y0; have hgm : g ∈ blks v := by simp [blks, hA, ownB]
   have HSN : Aside (Sp4 B (wr.setCell ⟨g, kk, none⟩ (.int .i64 39)) v) := (hS.out.set hgm _ _); have HTN : Aside (Touch (blks v) WC (wr.setCell ⟨g, kk, none⟩ (.int .i64 39))) := (touch_mem hT.out hgm _ _); rw [hA]; clear hcl ho; go_wp2_with fail
   rw [← hA]; clear hA
   go_roundg (v.n4 - (kk + 1))
   case measure => omega
   exact ⟨kk + 1, oM, Nat.le_refl _, nX, HSN.out, HTN.out⟩
  have hltz : ¬ (kk : Int) < (v.n4 : Int) := oM
  have HTE : Aside (Touch (blks v) W9 wr) := hT9.out.trans hT.out (fun x hx => .inl hx); go_wp2_with fail
  go_roundg (2 - (1 + 1))
  case measure => omega
  exact ⟨2, oM, oM, (by go_simp <;> first | rfl | exact IntWalk.i64_in _ oM | (clear hwi; go_num)), hS.out, HTE.out⟩
 obtain rfl : t = 2 := oM
 go_wp2_with fail
 refine bodyPost_end (v := .tuple #[]) (by simp [results, Tryz.results24, go_sem]) rfl ?_
 exact ⟨⟨_, rfl⟩, ((Touch.of_below HBW.out).mono sI).trans (HT2.out.trans hT9.out (fun x hx => .inl hx)) (fun x hx => .inl hx)⟩
end
section
open Go.RowKit Go.Shelf
theorem plug_len (d : Diag) (m q : Int) : (d.plug m q).1.sp.length ≤ d.sp.length ∧ (d.plug m q).1.ln.length ≤ d.ln.length ∧ (d.plug m q).1.ins.length ≤ d.ins.length ∧ (d.plug m q).1.outs.length ≤ d.outs.length := by
 have hn : Diag.nil.sp.length = 0 ∧ Diag.nil.ln.length = 0 ∧ Diag.nil.ins.length = 0 ∧ Diag.nil.outs.length = 0 := ⟨rfl, rfl, rfl, rfl⟩; unfold Diag.plug
 split
 · dsimp only; omega
 split
 · dsimp only; omega
 dsimp only
 split
 · dsimp only; omega
 dsimp only; rw [plugL_len]; exact ⟨Nat.le_refl _, Nat.le_refl _, Nat.zero_le _, Nat.zero_le _⟩
theorem law6 (v : DV) (d : Diag) (w : World) (hd : DRd w v d) (hG : Glob w.heap.size w) (hP : Phs w.heap.size w) (m q : Int) :
  Calls Tryz.prog 6 #[diaV v d.sc, m, q] w fun e w' => e = .returned (.bool true) ∧ Below w.heap.size w w' := by
 obtain ⟨W, hW⟩ : ∃ W, W = w.alloc (.cells (a9 v d.sc) 28) := ⟨_, rfl⟩; have hX1 : Blk W w.heap.size (l9 v d.sc) 28 := by rw [hW]; exact Blk.new w _ 28
 have hBW : Below w.heap.size w W := by rw [hW]; exact bR.alloc (Nat.le_refl _) _
 have hsz : W.heap.size = w.heap.size + 1 := by rw [hW]; simp
 have HA : Aside (∀ z, Below w.heap.size w z → DRd z v d ∧ Glob w.heap.size z ∧ Phs w.heap.size z ∧ w.heap.size ≤ z.heap.size) := fun z hz => ⟨hd.below hz, hG.below hz (Nat.le_refl _), hP.below hz (Nat.le_refl _), hz.size⟩; have H10 := fun W => great10 v d.sc.a d.sc.b d.sc.c d.sc.d d.sc.k W; have l1 := hd.sp.len; have l2 := hd.ln.len; have l3 := hd.ins.len; have l4 := hd.outs.len; have HB1 := Lib.hid hX1; have HBW := Lib.hid hBW; have HW := Lib.hid hW; have HSZ := Lib.hid hsz; have a_c := hX1.nine; clear hW hX1 hBW hsz hd hG hP
 by_cases hg : greatB v.n1 v.n2 v.n3 v.n4 = true
 case pos =>
  rw [hg] at H10; clear hg; go_enter Tryz.func6, Tryz.ntmps6
  go_upto_region 1 with fail
  rw [← HW.out]
  go_wp2_with (first
    | (go_at_call 10; (with_reducible refine (H10 _).mono ?_); rintro e w1 ⟨rfl, hb1⟩; clear H10
       have HL1 := Lib.hid (HBW.out.trans (hb1.mono HBW.out.size)); have h9 := HA.out _ HL1.out; have H11 := awake11 _ h9.2.1 h9.2.2.1 h9.2.2.2
       clear hb1 h9)
    | (go_at_call 11; (with_reducible refine H11.mono ?_); rintro e w2 ⟨rfl, hb2⟩; clear H11
       have HL2 := Lib.hid (HL1.out.trans (hb2.mono HL1.out.size))
       clear hb2))
  refine bodyPost_ret (v := .bool true) (by simp [results, Tryz.results6, go_sem]) rfl ⟨rfl, HL2.out⟩
 have hN : v.n1 ≤ 45 ∧ v.n2 ≤ 110 ∧ v.n3 ≤ 45 ∧ v.n4 ≤ 45 := by
  simp [greatB] at hg
  omega
 have hg := Bool.eq_false_iff.2 hg; rw [hg] at H10; clear hg; obtain ⟨n1, n2, n3, n4⟩ := hN
 have HLN : Aside (d.sp.length ≤ 45 ∧ d.ln.length ≤ 110 ∧ d.ins.length ≤ 45 ∧ d.outs.length ≤ 45) := by
  show _ ∧ _
  omega
 have HNN : Aside (v.n1 ≤ 1000 ∧ v.n2 ≤ 1000 ∧ v.n3 ≤ 1000 ∧ v.n4 ≤ 1000) := by
  show _ ∧ _
  omega
 have HPE : Aside (d.plugR m q = d.plug m q) := (plug_eq d m q).symm; clear l1 l2 l3 l4 n1 n2 n3 n4; go_enter Tryz.func6, Tryz.ntmps6
 go_upto_region 1 with fail
 rw [← HW.out]
 go_upto_region 3 with (go_at_call 10; (with_reducible refine (H10 _).mono ?_); rintro e w1 ⟨rfl, hb1⟩; clear H10
                        have HL1 := Lib.hid (HBW.out.trans (hb1.mono HBW.out.size)); have HX1 := Lib.hid (HB1.out.below hb1); have HS1 : Aside (w.heap.size + 1 ≤ w1.heap.size) := by have h8 := hb1.size; have h9 := HSZ.out; show _ ≤ _; omega
                        clear hb1)
 clear a_c; have a_c := HX1.out.nine; have H12 := own12 v d w1 (HA.out _ HL1.out).1 HNN.out.1 HNN.out.2.1 HNN.out.2.2.1 HNN.out.2.2.2
 go_upto_region 4 with (go_at_call 12; (with_reducible refine H12.mono ?_); rintro e w2 ⟨v2, rfl, hO, hb2⟩; clear H12
                        have HO2 := Lib.hid hO; have HL2 := Lib.hid (HL1.out.trans (hb2.mono HL1.out.size)); have HX2 := Lib.hid (HX1.out.below hb2); have HS2 : Aside (w1.heap.size ≤ w2.heap.size) := hb2.size
                        clear hO hb2 a_c)
 obtain ⟨W2, hW2⟩ : ∃ W2, W2 = w2.alloc (.cells (a9 v2 d.sc) 28) := ⟨_, rfl⟩; rw [← hW2]; have hY2 : Blk W2 w2.heap.size (l9 v2 d.sc) 28 := by rw [hW2]; exact Blk.new w2 _ 28
 have hb2 : Below w2.heap.size w2 W2 := by rw [hW2]; exact bR.alloc (Nat.le_refl _) _
 have hs2 : W2.heap.size = w2.heap.size + 1 := by rw [hW2]; simp
 generalize hq2 : w2.heap.size = p2 at *; have hO3 := HO2.out.touch (Touch.of_below (by rw [hq2]; exact hb2)) sI; have HO3 := Lib.hid hO3; have HY2 := Lib.hid hY2; have HX3 := Lib.hid (HX2.out.below (by rw [hq2]; exact hb2)); have HL3 := Lib.hid (HL2.out.trans (hb2.mono (by have h8 := HS1.out; have h9 := HS2.out; omega))); have HS3 : Aside (W2.heap.size = p2 + 1 ∧ w1.heap.size ≤ p2 ∧ w.heap.size + 1 ≤ w1.heap.size) := ⟨hs2, HS2.out, HS1.out⟩; have HBK : Aside (∀ y ∈ blks v2, w1.heap.size ≤ y ∧ y < p2) := fun y hy => by have h9 := HO2.out.lt y hy; rw [hq2] at h9; exact h9
 have a_c := hY2.nine; clear hW2 hY2 hb2 hs2 hO3 hq2; have h9 := HA.out _ HL3.out; have H25 := plug25 (N := w.heap.size) v2 d W2 HO3.out.rd (by have h8 := HO3.out.n3; have h7 := HO3.out.n4; have h6 := HLN.out; omega) h9.2.1 h9.2.2.2 m q; clear h9; generalize hPL : d.plug m q = r at *; have HLR : Aside (r.1.sp.length ≤ d.sp.length ∧ r.1.ln.length ≤ d.ln.length ∧ r.1.ins.length ≤ d.ins.length ∧ r.1.outs.length ≤ d.outs.length) := by rw [← hPL]; exact plug_len d m q
 clear hPL
 go_upto_region 5 with (go_at_call 25; (with_reducible refine H25.mono ?_); rintro e w3 ⟨v3, rfl, hO, hb3⟩; clear H25
                        have HO4 := Lib.hid hO.out; have HO5 := Lib.hid (HO3.out.touch (Touch.of_below hb3) sI); have HY3 := Lib.hid (HY2.out.below hb3); have HX4 := Lib.hid (HX3.out.below hb3); have HL4 := Lib.hid (HL3.out.trans (hb3.mono (by have h8 := HS3.out; omega))); have HS4 : Aside (W2.heap.size ≤ w3.heap.size) := hb3.size
                        clear hO hb3 a_c)
 obtain ⟨W3, hW3⟩ : ∃ W3, W3 = w3.alloc (.cells (a9 v3 r.1.sc) 28) := ⟨_, rfl⟩; rw [← hW3]; have hY4 : Blk W3 w3.heap.size (l9 v3 r.1.sc) 28 := by rw [hW3]; exact Blk.new w3 _ 28
 have hb3 : Below w3.heap.size w3 W3 := by rw [hW3]; exact bR.alloc (Nat.le_refl _) _
 have hs3 : W3.heap.size = w3.heap.size + 1 := by rw [hW3]; simp
 generalize hq3 : w3.heap.size = p3 at *; have hb3' : Below w3.heap.size w3 W3 := by rw [hq3]; exact hb3
 have HO6 := Lib.hid (HO4.out.touch (Touch.of_below hb3') sI); have HO7 := Lib.hid (HO5.out.touch (Touch.of_below hb3') sI); have HY4 := Lib.hid hY4; have HY5 := Lib.hid (HY3.out.below hb3'); have HX5 := Lib.hid (HX4.out.below hb3'); have HL5 := Lib.hid (HL4.out.trans (hb3.mono (by have h8 := HS3.out; have h9 := HS4.out; omega))); have HS5 : Aside (W3.heap.size = p3 + 1 ∧ W2.heap.size ≤ p3) := ⟨hs3, HS4.out⟩; clear hW3 hY4 hb3 hb3' hs3 hq3; have a_c := HX5.out.nine; have H26 := plug26 v d W3 (HA.out _ HL5.out).1 HNN.out.1 HNN.out.2.1 HNN.out.2.2.1 HNN.out.2.2.2 m q; rw [HPE.out] at H26
 go_upto_region 6 with (go_at_call 26; (with_reducible refine H26.mono ?_); rintro e w4 ⟨v4, rfl, hO, hb4⟩; clear H26
                        have HO8 := Lib.hid hO.out; have HO9 := Lib.hid (HO6.out.touch (Touch.of_below hb4) sI); have HO10 := Lib.hid (HO7.out.touch (Touch.of_below hb4) sI); have HY6 := Lib.hid (HY4.out.below hb4); have HY7 := Lib.hid (HY5.out.below hb4); have HX6 := Lib.hid (HX5.out.below hb4); have HL6 := Lib.hid (HL5.out.trans (hb4.mono (by have h8 := HS3.out; have h9 := HS5.out; omega))); have HS6 : Aside (W3.heap.size ≤ w4.heap.size) := hb4.size
                        clear hO hb4 a_c)
 obtain ⟨W4, hW4⟩ : ∃ W4, W4 = w4.alloc (.cells (a9 v4 r.1.sc) 28) := ⟨_, rfl⟩; rw [← hW4]; have hY8 : Blk W4 w4.heap.size (l9 v4 r.1.sc) 28 := by rw [hW4]; exact Blk.new w4 _ 28
 have hb4 : Below w4.heap.size w4 W4 := by rw [hW4]; exact bR.alloc (Nat.le_refl _) _
 generalize hq4 : w4.heap.size = p4 at *; have hb4' : Below w4.heap.size w4 W4 := by rw [hq4]; exact hb4
 have HO11 := Lib.hid (HO8.out.touch (Touch.of_below hb4') sI); have HO12 := Lib.hid (HO9.out.touch (Touch.of_below hb4') sI); have HO13 := Lib.hid (HO10.out.touch (Touch.of_below hb4') sI); have HY9 := Lib.hid (HY6.out.below hb4'); have HY10 := Lib.hid (HY7.out.below hb4'); have HX7 := Lib.hid (HX6.out.below hb4'); have HL7 := Lib.hid (HL6.out.trans (hb4.mono (by have h8 := HS3.out; have h9 := HS5.out; have h7 := HS6.out; omega))); have HS7 : Aside (W3.heap.size ≤ p4 ∧ p4 ≤ W4.heap.size) := ⟨HS6.out, by rw [← hq4]; exact hb4.size⟩; have a_c := HY9.out.nine; have b_c := hY8.nine; clear hW4 hY8 hb4 hb4' hq4; have H16 := same16 v3 v4 r.1 r.1 W4 HO12.out.rd HO11.out.rd; rw [decide_eq_true rfl] at H16; have hrr : (r.2 == r.2) = true := by simp
 go_upto_region 7 with (go_at_call 16; (with_reducible refine H16.mono ?_); rintro e w5 ⟨rfl, hb5⟩; clear H16
                        have HO14 := Lib.hid (HO12.out.touch (Touch.of_below hb5) sI); have HO15 := Lib.hid (HO13.out.touch (Touch.of_below hb5) sI); have HY11 := Lib.hid (HY9.out.below hb5); have HY12 := Lib.hid (HY10.out.below hb5); have HX8 := Lib.hid (HX7.out.below hb5); have HL8 := Lib.hid (HL7.out.trans (hb5.mono (by have h8 := HS3.out; have h9 := HS5.out; have h7 := HS7.out; omega))); have HS8 : Aside (W4.heap.size ≤ w5.heap.size) := hb5.size
                        clear hb5 a_c b_c)
 have a_c := HY11.out.nine; have H24 := spoil24 HO14.out.sp4 (by have h8 := HO14.out.n1; have h9 := HLR.out; have h7 := HLN.out; omega) (by have h8 := HO14.out.n2; have h9 := HLR.out; have h7 := HLN.out; omega) (by have h8 := HO14.out.n3; have h9 := HLR.out; have h7 := HLN.out; omega) (by have h8 := HO14.out.n4; have h9 := HLR.out; have h7 := HLN.out; omega) r.1.sc.a r.1.sc.b r.1.sc.c r.1.sc.d r.1.sc.k
 go_upto_region 8 with (go_at_call 24; (with_reducible refine H24.mono ?_); rintro e w6 ⟨⟨z, rfl⟩, hT6⟩; clear H24
                        have hge : ∀ y ∈ blks v3, W2.heap.size ≤ y := fun y hy => (HO14.out.lt y hy).1; have HO16 := Lib.hid (HO15.out.touch hT6 (fun y hy hm => by have h8 := (HBK.out y hy).2; have h9 := hge y hm; have h7 := HS3.out; omega)); have HY13 := Lib.hid (HY12.out.touch hT6 (fun hm => by have h9 := hge _ hm; have h7 := HS3.out; omega)); have HX9 := Lib.hid (HX8.out.touch hT6 (fun hm => by have h9 := hge _ hm; have h7 := HS3.out; omega)); have HL9 := Lib.hid (HL8.out.trans (hT6.below (by have h8 := HS3.out; have h9 := HS5.out; have h7 := HS7.out; have h6 := HS8.out; omega) (fun y hy => by have h9 := hge y hy; have h7 := HS3.out; omega)))
                        clear hT6 hge a_c)
 have a_c := HY13.out.nine; have b_c := HX9.out.nine; have H16 := same16 v2 v d d w6 HO16.out.rd (HA.out _ HL9.out).1; rw [decide_eq_true rfl] at H16
 go_wp2_with (first
   | (go_at_call 16; (with_reducible refine H16.mono ?_); rintro e w7 ⟨rfl, hb7⟩; clear H16
      have HL10 := Lib.hid (HL9.out.trans (hb7.mono HL9.out.size)); have h9 := HA.out _ HL10.out; have H11 := awake11 _ h9.2.1 h9.2.2.1 h9.2.2.2
      clear hb7 h9)
   | (go_at_call 11; (with_reducible refine H11.mono ?_); rintro e w8 ⟨rfl, hb8⟩; clear H11
      have HL11 := Lib.hid (HL10.out.trans (hb8.mono HL10.out.size))
      clear hb8))
 refine bodyPost_ret (v := .bool true) (by simp [results, Tryz.results6, go_sem]) rfl ⟨rfl, HL11.out⟩
end
end Go.Proofs.YtcoackmdmohnhaaGreatDoor
