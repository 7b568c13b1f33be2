/- The law ZxMeans. -/
import Derived.Test.YtcoackmdmohnhaaGreatDoorV32
import Derived.Test.YtcoackmdmohnhaaGreatDoorV28
import Derived.Deep.LoopGhost
import Derived.Deep.Draws
import Derived.Shelf.Abstract
import Derived.LoopTactic
import Derived.Deep.QuietTactic
import Derived.BigQuiet
import Derived.Deep.RegionHeld3
import Derived.Deep.RegionHeldLaw
import Derived.RegionTactic
import Derived.BigRegion
import Derived.WalkLawsBesides
import Derived.Laws.EntriesVeiled
import Derived.Laws.StructEq
import Derived.Deep.DeepCutAuto
import Derived.Handy
import Derived.IntWalk
set_option linter.unusedVariables false
set_option linter.unusedSimpArgs false
set_option maxRecDepth 100000
set_option maxHeartbeats 4000000
namespace Go.Proofs.YtcoackmdmohnhaaGreatDoor
open Go.RowKit Go.Shelf
theorem lawM3 (v:DV) (d:Diag) (w:World) (hd:DRd w v d) (hG:Glob w.heap.size w) (hP:Phs w.heap.size w):
    Calls Tryz.prog 3 #[diaV v d.sc] w fun e w'=>e= .returned (.bool true)∧Below w.heap.size w w':=by
  obtain⟨W,hW⟩:∃W,W=w.alloc (.cells #[.slice v.A1 v.n1 v.c1, .slice v.A2 v.n2 v.c2, .slice v.A3 v.n3 v.c3, .slice v.A4 v.n4 v.c4, .int .i64 d.sc.a, .int .i64 d.sc.b, .int .i64 d.sc.c, .int .i64 d.sc.d, .int .i64 d.sc.k] 28):=⟨_,rfl⟩
  have hX1:Blk W w.heap.size [.slice v.A1 v.n1 v.c1, .slice v.A2 v.n2 v.c2, .slice v.A3 v.n3 v.c3, .slice v.A4 v.n4 v.c4, .int .i64 d.sc.a, .int .i64 d.sc.b, .int .i64 d.sc.c, .int .i64 d.sc.d, .int .i64 d.sc.k] 28:=by rw[hW];exact Blk.new w _ 28
  have hBW:Below w.heap.size w W:=by rw[hW];exact(Below.refl _ _).alloc (Nat.le_refl _) _
  have hsz:W.heap.size=w.heap.size+1:=by rw[hW];simp
  have HA:Aside (∀z,Below w.heap.size w z→DRd z v d∧Glob w.heap.size z∧Phs w.heap.size z∧w.heap.size≤z.heap.size):=fun z hz=>⟨hd.below hz,hG.below hz (Nat.le_refl _),hP.below hz (Nat.le_refl _),hz.size⟩
  have H10:=fun W=>great10 v d.sc.a d.sc.b d.sc.c d.sc.d d.sc.k W
  have l1:=hd.sp.len
  have l2:=hd.ln.len
  have l3:=hd.ins.len
  have l4:=hd.outs.len
  have HB1:=Lib.hid hX1
  have HBW:=Lib.hid hBW
  have HW:=Lib.hid hW
  have HSZ:=Lib.hid hsz
  obtain⟨a0,a1,a2,a3,a4,a5,a6,a7,a8,af⟩:=hX1.nine
  clear hW hX1 hBW hsz hd hG hP
  by_cases hg:greatB v.n1 v.n2 v.n3 v.n4=true
  case pos=>
    rw[hg]at H10
    clear hg
    go_enter Tryz.func3,Tryz.ntmps3
    go_upto_region 1 with fail
    rw[←HW.out]
    go_wp2_with (first
      | (go_at_call 10;(with_reducible refine(H10 _).mono ?_);rintro e w1 ⟨rfl,hb1⟩;clear H10
         have HL1:=Lib.hid (HBW.out.trans (hb1.mono HBW.out.size))
         have h9:=HA.out _ HL1.out
         have H11:=awake11 _ h9.2.1 h9.2.2.1 h9.2.2.2
         clear hb1 h9)
      | (go_at_call 11;(with_reducible refine H11.mono ?_);rintro e w2 ⟨rfl,hb2⟩;clear H11
         have HL2:=Lib.hid (HL1.out.trans (hb2.mono HL1.out.size))
         clear hb2))
    refine bodyPost_ret (v:= .bool true) (by simp[results,Tryz.results3,go_sem]) rfl ⟨rfl,HL2.out⟩
  case neg=>
    have hN:v.n1≤45∧v.n2≤110∧v.n3≤45∧v.n4≤45:=by
      simp[greatB]at hg
      omega
    have hg:=Bool.eq_false_iff.2 hg
    rw[hg]at H10
    clear hg
    obtain⟨n1,n2,n3,n4⟩:=hN
    have HLN:Aside (d.sp.length≤45∧d.ln.length≤110∧d.ins.length≤45∧d.outs.length≤45):=by
      show _∧_
      omega
    have HNN:Aside (v.n1≤1000∧v.n2≤1000∧v.n3≤1000∧v.n4≤1000):=by
      show _∧_
      omega
    have HPE:Aside (d.meaningR=d.meaning):=meaningR_eq d
    clear l1 l2 l3 l4 n1 n2 n3 n4
    go_enter Tryz.func3,Tryz.ntmps3
    go_upto_region 1 with fail
    rw[←HW.out]
    go_upto_region 3 with (go_at_call 10;(with_reducible refine(H10 _).mono ?_);rintro e w1 ⟨rfl,hb1⟩;clear H10
                           have HL1:=Lib.hid (HBW.out.trans (hb1.mono HBW.out.size))
                           have HX1:=Lib.hid (HB1.out.below hb1)
                           have HS1:Aside (w.heap.size+1≤w1.heap.size):=by have h8:=hb1.size;have h9:=HSZ.out;show _≤_;omega
                           clear hb1)
    clear a0 a1 a2 a3 a4 a5 a6 a7 a8 af
    obtain⟨a0,a1,a2,a3,a4,a5,a6,a7,a8,af⟩:=HX1.out.nine
    have H12:=own12 v d w1 (HA.out _ HL1.out).1 HNN.out.1 HNN.out.2.1 HNN.out.2.2.1 HNN.out.2.2.2
    go_upto_region 4 with (go_at_call 12;(with_reducible refine H12.mono ?_);rintro e w2 ⟨v2,rfl,hO,hb2⟩;clear H12
                           have HO2:=Lib.hid hO
                           have HL2:=Lib.hid (HL1.out.trans (hb2.mono HL1.out.size))
                           have HX2:=Lib.hid (HX1.out.below hb2)
                           have HS2:Aside (w1.heap.size≤w2.heap.size):=hb2.size
                           clear hO hb2 a0 a1 a2 a3 a4 a5 a6 a7 a8 af)
    obtain⟨W2,hW2⟩:∃W2,W2=w2.alloc (.cells #[.slice v2.A1 v2.n1 v2.c1, .slice v2.A2 v2.n2 v2.c2, .slice v2.A3 v2.n3 v2.c3, .slice v2.A4 v2.n4 v2.c4, .int .i64 d.sc.a, .int .i64 d.sc.b, .int .i64 d.sc.c, .int .i64 d.sc.d, .int .i64 d.sc.k] 28):=⟨_,rfl⟩
    rw[←hW2]
    have hY2:Blk W2 w2.heap.size [.slice v2.A1 v2.n1 v2.c1, .slice v2.A2 v2.n2 v2.c2, .slice v2.A3 v2.n3 v2.c3, .slice v2.A4 v2.n4 v2.c4, .int .i64 d.sc.a, .int .i64 d.sc.b, .int .i64 d.sc.c, .int .i64 d.sc.d, .int .i64 d.sc.k] 28:=by rw[hW2];exact Blk.new w2 _ 28
    have hb2:Below w2.heap.size w2 W2:=by rw[hW2];exact(Below.refl _ _).alloc (Nat.le_refl _) _
    have hs2:W2.heap.size=w2.heap.size+1:=by rw[hW2];simp
    generalize hq2:w2.heap.size=p2 at *
    have hO3:=HO2.out.touch (Touch.of_below (by rw[hq2];exact hb2)) (by simp)
    have HO3:=Lib.hid hO3
    have HY2:=Lib.hid hY2
    have HX3:=Lib.hid (HX2.out.below (by rw[hq2];exact hb2))
    have HL3:=Lib.hid (HL2.out.trans (hb2.mono (by have h8:=HS1.out;have h9:=HS2.out;omega)))
    have HS3:Aside (W2.heap.size=p2+1∧w1.heap.size≤p2∧w.heap.size+1≤w1.heap.size):=⟨hs2,HS2.out,HS1.out⟩
    have HBK:Aside (∀y∈blks v2,w1.heap.size≤y∧y<p2):=fun y hy=>by have h9:=HO2.out.lt y hy;rw[hq2]at h9;exact h9
    obtain⟨a0,a1,a2,a3,a4,a5,a6,a7,a8,af⟩:=hY2.nine
    clear hW2 hY2 hb2 hs2 hO3 hq2
    have h9:=HA.out _ HL3.out
    have H13:=meaning13 v2 d W2 HO3.out.rd (by have h8:=HO3.out.n3;have h7:=HO3.out.n4;have h6:=HLN.out;omega)
    clear h9
    generalize d.meaning=r at *
    obtain⟨rows,er⟩:=r
    go_upto_region 5 with (go_at_call 13;(with_reducible refine H13.mono ?_);rintro e w3 ⟨MA,mn,mc,mhs,rfl,hR3,hb3⟩;clear H13
                           have HR3:=Lib.hid hR3.out
                           have HO5:=Lib.hid (HO3.out.touch (Touch.of_below hb3) (by simp))
                           have HY3:=Lib.hid (HY2.out.below hb3)
                           have HX4:=Lib.hid (HX3.out.below hb3)
                           have HL4:=Lib.hid (HL3.out.trans (hb3.mono (by have h8:=HS3.out;omega)))
                           have HS4:Aside (W2.heap.size≤w3.heap.size):=hb3.size
                           clear hR3 hb3 a0 a1 a2 a3 a4 a5 a6 a7 a8 af)
    obtain⟨a0,a1,a2,a3,a4,a5,a6,a7,a8,af⟩:=HX4.out.nine
    have H14:=meaning14 v d w3 (HA.out _ HL4.out).1 HNN.out.1 HNN.out.2.1 HNN.out.2.2.1 HNN.out.2.2.2
    rw[HPE.out]at H14
    go_upto_region 6 with (go_at_call 14;(with_reducible refine H14.mono ?_);rintro e w4 ⟨NA,nn,nc,nhs,rfl,hR4,hb4⟩;clear H14
                           have HR4:=Lib.hid hR4.out
                           have HR5:=Lib.hid (HR3.out.below hb4)
                           have HO9:=Lib.hid (HO5.out.touch (Touch.of_below hb4) (by simp))
                           have HY6:=Lib.hid (HY3.out.below hb4)
                           have HX6:=Lib.hid (HX4.out.below hb4)
                           have HL6:=Lib.hid (HL4.out.trans (hb4.mono (by have h8:=HS3.out;have h9:=HS4.out;omega)))
                           have HS6:Aside (w3.heap.size≤w4.heap.size):=hb4.size
                           clear hR4 hb4 a0 a1 a2 a3 a4 a5 a6 a7 a8 af)
    have H15:=same15 MA NA mn nn mc nc mhs nhs rows rows w4 HR5.out HR4.out
    rw[decide_eq_true rfl]at H15
    have hrr:(er==er)=true:=by simp
    go_wp2_with (first
      | (go_at_call 15;(with_reducible refine H15.mono ?_);rintro e w5 ⟨rfl,hb5⟩;clear H15
         have HO14:=Lib.hid (HO9.out.touch (Touch.of_below hb5) (by simp))
         obtain⟨a0,a1,a2,a3,a4,a5,a6,a7,a8,af⟩:=(HY6.out.below hb5).nine
         obtain⟨b0,b1,b2,b3,b4,b5,b6,b7,b8,bf⟩:=(HX6.out.below hb5).nine
         have HL8:=Lib.hid (HL6.out.trans (hb5.mono (by have h8:=HS3.out;have h7:=HS4.out;have h6:=HS6.out;omega)))
         have H16:=same16 v2 v d d w5 HO14.out.rd (HA.out _ HL8.out).1
         rw[decide_eq_true rfl]at H16
         clear hb5)
      | (go_at_call 16;(with_reducible refine H16.mono ?_);rintro e w7 ⟨rfl,hb7⟩;clear H16
         have HL10:=Lib.hid (HL8.out.trans (hb7.mono HL8.out.size))
         have h9:=HA.out _ HL10.out
         have H11:=awake11 _ h9.2.1 h9.2.2.1 h9.2.2.2
         clear hb7 h9)
      | (go_at_call 11;(with_reducible refine H11.mono ?_);rintro e w8 ⟨rfl,hb8⟩;clear H11
         have HL11:=Lib.hid (HL10.out.trans (hb8.mono HL10.out.size))
         clear hb8))
    refine bodyPost_ret (v:= .bool true) (by simp[results,Tryz.results3,go_sem]) rfl ⟨rfl,HL11.out⟩
end Go.Proofs.YtcoackmdmohnhaaGreatDoor
