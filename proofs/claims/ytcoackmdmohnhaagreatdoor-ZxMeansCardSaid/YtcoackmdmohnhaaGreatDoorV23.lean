/- Package zx: Of at right plain circuits. -/
import Derived.Test.YtcoackmdmohnhaaGreatDoorV22
set_option linter.unusedVariables false
set_option linter.unusedSimpArgs false
namespace Go.Proofs.YtcoackmdmohnhaaGreatDoor
open Go.RowKit Go.Shelf
theorem plain65 (Wn Bn:Int) (A:Option Addr) (n c:Nat) (xs:List XG) (w:World) (h:CRd w A n xs) (hw1:1≤Wn) (hw2:Wn≤12) (hB1:0≤Bn) (hB2:Bn≤8) (hn:n≤120) (hg:∀x∈xs,x.g.good Wn):
  Calls Tryz.prog 65 #[.agg #[Wn,Bn, .slice A n c]] w fun e w'=>e= .returned (.tuple #[.bool true, .int .i64 0])∧Below w.heap.size w w':=by
 obtain⟨W,hW⟩:∃W,W=w.alloc (.cells #[Wn,Bn, .slice A n c] 40):=⟨_,rfl⟩;have hX1:Blk W w.heap.size [Wn,Bn, .slice A n c] 40:=by rw[hW];exact Blk.new _ _ _
 have hBW:Below w.heap.size w W:=by rw[hW];exact bR.alloc (Nat.le_refl _) _
 have H108:=check108 Wn Bn A n c xs W (h.below hBW) hw1 hw2 hB1 hB2 hn hg;have e1:∀args w,(callFunc 110 args).run Tryz.prog w= .ok (.enter 110 args) w:=enters_of Tryz.func110 kR rfl
 have H109:Aside (∀V,Below W.heap.size W V→Calls Tryz.prog 109 #[.slice A n c, .func (.func 110) #[] #[]] V fun e w'=>e= .returned (.bool true)∧Below V.heap.size V w'):=by
  intro V hV;have h9:=every109 (fun _=>true) 110 #[] e1 A n c xs V ((h.below hBW).below hV).rd (plain110 Wn xs hg V);rw[show (xs.all fun _=>true)=true by simp]at h9;exact h9
 have HX:=Lib.hid hX1;have HBW:=Lib.hid hBW;have x_c:=hX1.three;have HWD:=Lib.hid hW;clear h hg hX1 hBW hW e1;go_enter Tryz.func65,Tryz.ntmps65
 go_upto_region 1 with fail
 rw[←HWD.out]
 go_wp2_with (first
   |(go_at_call 108;(with_reducible refine H108.mono ?_);rintro e w1 ⟨rfl,hb1⟩;clear H108;have H109u:=H109.out w1 hb1;have HL1:=Lib.hid hb1;obtain⟨y0,y1,y2,yf⟩:=(HX.out.below hb1).three;clear hb1 x_c)
   |(go_at_call 109;(with_reducible refine H109u.mono ?_);rintro e w2 ⟨rfl,hb2⟩;clear H109u;have HL2:=Lib.hid (below_then HL1.out hb2);clear hb2))
 refine bodyPost_ret (v:= .tuple #[.bool true, .int .i64 0]) (by simp[results,Tryz.results65,go_sem]) rfl ?_
 exact⟨rfl,HBW.out.trans (HL2.out.mono HBW.out.size)⟩
end Go.Proofs.YtcoackmdmohnhaaGreatDoor
