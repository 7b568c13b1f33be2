/- Contracts of functions, and plain lemmas; each theorem's conditions stand in its statement. -/
import Derived.Test.YtcoackmdmohnhaaGreatDoorV22
set_option linter.unusedVariables false
set_option linter.unusedSimpArgs false
set_option maxRecDepth 100000
set_option maxHeartbeats 4000000
namespace Go.Proofs.YtcoackmdmohnhaaGreatDoor
section
open Go.RowKit Go.Shelf
theorem rows60 (h h':HV) (r r':List Num) (w:World) (hr:Rd 5 numC w h.A h.n r) (hr':Rd 5 numC w h'.A h'.n r'):
  Calls Tryz.prog 60 #[.slice h.A h.n h.c, .slice h'.A h'.n h'.c] w fun e w'=>e= .returned (.bool (decide (r=r')))∧Below w.heap.size w w':=by
 have HC:=eqs61 h.A h'.A h.n h'.n h.c h'.c r r' w hr hr';generalize decide (r=r')=q at HC ⊢;clear hr hr';go_enter Tryz.func60,Tryz.ntmps60
 go_wp2_with (go_at_call 61;(with_reducible refine HC.mono ?_);rintro e w' ⟨rfl,hb⟩)
 go_ret
 exact⟨rfl,hb⟩
theorem eqf59 (A A':Option Addr) (n n' c c':Nat) (hs hs':List HV) (rows rows':List (List Num)) (w:World) (h:RowsRd w A n hs rows) (h':RowsRd w A' n' hs' rows'):
  Calls Tryz.prog 59 #[.slice A n c, .slice A' n' c', .func (.func 60) #[] #[]] w fun e w'=>e= .returned (.bool (decide (rows=rows')))∧Below w.heap.size w w':=by
 have hbig:=h.hd.big;have hbig':=h'.hd.big;have HN:Aside (rows.length=n∧rows'.length=n'∧hs.length=n∧hs'.length=n'):=⟨by rw[←h.len];exact h.hd.len,by rw[←h'.len];exact h'.hd.len,h.hd.len,h'.hd.len⟩;have HR:=Lib.hid h;have HR':=Lib.hid h';clear h h';generalize hd:decide (rows=rows')=D;have HD:Aside (decide (rows=rows')=D):=hd;clear hd
 by_cases hnn:n=n'
 · subst hnn;go_enter Tryz.func59,Tryz.ntmps59
   go_wp2
   go_loopg [17] n (fun gg s17 wr=>∃kk:Nat,kk≤n∧n-kk≤gg∧s17=kk∧Aside (Below w.heap.size w wr)∧Aside (∀j,j<kk→rows[j]?=rows'[j]?))
   case atStart=>exact⟨0,Nat.zero_le _,oM,rfl,Below.refl _ _,fun j hj=>absurd hj (Nat.not_lt_zero _)⟩
   obtain⟨kk,hkk,hg,rfl,hb,M⟩:=hrel
   by_cases hlt:kk<n
   · have hltz:(kk:Int)<(n:Int):=oM
     obtain⟨x,hx⟩:=get_of (l:=hs) (n:=kk) (by have:=HN.out;omega);obtain⟨y,hy⟩:=get_of (l:=hs') (n:=kk) (by have:=HN.out;omega);obtain⟨r,hr⟩:=get_of (l:=rows) (n:=kk) (by have:=HN.out;omega);obtain⟨r',hr'⟩:=get_of (l:=rows') (n:=kk) (by have:=HN.out;omega);obtain⟨b,o,hA,_,c0⟩:=(HR.out.hd.below hb.out).at1 hx rfl;obtain⟨b',o',hA',_,c0'⟩:=(HR'.out.hd.below hb.out).at1 hy rfl;have H60:=rows60 x y r r' wr ((HR.out.rd kk x r hx hr).below hb.out) ((HR'.out.rd kk y r' hy hr').below hb.out);have XX:Aside (rows[kk]?=some r):=hr;have YY:Aside (rows'[kk]?=some r'):=hr';obtain⟨xA,xn,xc⟩:=x;obtain⟨yA,yn,yc⟩:=y;dsimp only at c0 c0' H60;clear hx hy hr hr';rw[hA,hA']
     by_cases hq:r=r'
     · subst hq;rw[show decide (r=r)=true by simp]at H60
       go_wp2_with (first|(go_at_fn 60;(with_reducible refine H60.mono ?_);rintro e w5 ⟨rfl,hb5⟩;clear H60;have HB5:Aside (Below w.heap.size w w5):=below_then hb.out hb5;clear hb5)|((with_reducible refine H60.mono ?_);rintro e w5 ⟨rfl,hb5⟩;clear H60;have HB5:Aside (Below w.heap.size w w5):=below_then hb.out hb5;clear hb5))
       rw[←hA,←hA'];clear hA hA'
       go_roundg (n-(kk+1))
       case measure=>omega
       refine⟨kk+1,oM,Nat.le_refl _,nX,HB5.out,(show Aside _ from fun j hj=>?_)⟩
       by_cases ej:j=kk
       · subst ej;rw[XX.out,YY.out]
       exact M.out j oM
     rw[show decide (r=r')=false from decide_eq_false hq]at H60
     have HF:Aside (false=D):=by
      show _=_
      rw[←HD.out];exact(decide_eq_false fun e=>hq (by have h1:=XX.out;rw[e,YY.out]at h1;exact(Option.some.inj h1).symm)).symm
     clear HD hq
     go_wp2_with (first|(go_at_fn 60;(with_reducible refine H60.mono ?_);rintro e w5 ⟨rfl,hb5⟩;clear H60;have HB5:Aside (Below w.heap.size w w5):=below_then hb.out hb5;clear hb5)|((with_reducible refine H60.mono ?_);rintro e w5 ⟨rfl,hb5⟩;clear H60;have HB5:Aside (Below w.heap.size w w5):=below_then hb.out hb5;clear hb5))
     refine bodyPost_ret (v:= .bool false) (by simp[results,Tryz.results59,go_sem]) rfl ?_
     rw[HF.out];exact⟨rfl,HB5.out⟩
   have hltz:¬(kk:Int)<(n:Int):=oM
   go_wp2_with fail
   refine bodyPost_ret (v:= .bool true) (by simp[results,Tryz.results59,go_sem]) rfl ?_
   have HT:D=true:=by
    rw[←HD.out];refine decide_eq_true (List.ext_getElem? fun j=>?_)
    by_cases hj:j<n
    · exact M.out j oM
    rw[List.getElem?_eq_none (by have:=HN.out;omega),List.getElem?_eq_none (by have:=HN.out;omega)]
   rw[HT];exact⟨rfl,hb.out⟩
 have q2:((n:Int) != (n':Int))=true:=by simpa using fun h=>hnn oM
 have HF:Aside (false=D):=by
  show _=_
  rw[←HD.out];exact(decide_eq_false fun e=>hnn (by have h:=HN.out;rw[e]at h;omega)).symm
 clear HD;go_enter Tryz.func59,Tryz.ntmps59
 go_wp2
 refine bodyPost_ret (v:= .bool false) (by simp[results,Tryz.results59,go_sem]) rfl ?_
 rw[HF.out];exact⟨rfl,Below.refl _ _⟩
theorem same15 (A A':Option Addr) (n n' c c':Nat) (hs hs':List HV) (rows rows':List (List Num)) (w:World) (h:RowsRd w A n hs rows) (h':RowsRd w A' n' hs' rows'):
  Calls Tryz.prog 15 #[.slice A n c, .slice A' n' c'] w fun e w'=>e= .returned (.bool (decide (rows=rows')))∧Below w.heap.size w w':=by
 have HC:=eqf59 A A' n n' c c' hs hs' rows rows' w h h';generalize decide (rows=rows')=q at HC ⊢;clear h h';go_enter Tryz.func15,Tryz.ntmps15
 go_wp2_with (go_at_call 59;(with_reducible refine HC.mono ?_);rintro e w' ⟨rfl,hb⟩)
 go_ret
 exact⟨rfl,hb⟩
end
section
open Go.RowKit Go.Shelf
variable {α:Type} {n:Nat}
theorem ext_of {xs ys:List α} (h1:xs.length=n) (h2:ys.length=n) (h:∀j,j<n→xs[j]?=ys[j]?):xs=ys:=by
 refine List.ext_getElem? fun j=>?_
 by_cases hj:j<n
 · exact h j hj
 rw[List.getElem?_eq_none oM,List.getElem?_eq_none oM]
theorem xe60_0 {p:Prop} (h:p:=by
 have HF:Aside (false=DD):=by
  show _=_
  rw[←HD.out];exact(decide_eq_false fun h=>q (by have h1:=XX.out;rw[h,YY.out]at h1;have h2:=Option.some.inj h1;cases h2;rfl)).symm
 clear HD;go_wp2_with fail
 go_quiet (fail)
 go_wp2_with fail
 refine bodyPost_ret (v:= .bool false) (by simp[results,Tryz.results16,go_sem]) rfl ?_
 rw[HF.out]
 exact⟨rfl,HBW.out.trans ((below_dN hb.out _).mono HBW.out.size)⟩):p:=h
theorem xe60_1 {p:Prop} (h:p:=by
 clear HD;go_enter Tryz.func16,Tryz.ntmps16
 go_upto_region 1 with fail
 try rw[hX2b]
 rw[←HW.out];go_wp2_with fail
 refine bodyPost_ret (v:= .bool false) (by simp[results,Tryz.results16,go_sem]) rfl ?_
 rw[HF.out]
 exact⟨rfl,HBW.out⟩):p:=h
theorem same16 (v u:DV) (d e:Diag) (w:World) (hd:DRd w v d) (he:DRd w u e):
  Calls Tryz.prog 16 #[diaV v d.sc,diaV u e.sc] w fun r w'=>r= .returned (.bool (decide (d=e)))∧Below w.heap.size w w':=by
 obtain⟨W,hW⟩:∃W,W=((w.alloc (.cells (a9 v d.sc) 28)).alloc (.cells (a9 u e.sc) 28)):=⟨_,rfl⟩
 have hX1:Blk W w.heap.size (l9 v d.sc) 28:=by
  rw[hW];have h9:=((Blk.new w (a9 v d.sc) 28).alloc (.cells (a9 u e.sc) 28));simpa using h9
 have hX2:Blk W (w.heap.size+1) (l9 u e.sc) 28:=by
  rw[hW];have h9:=(Blk.new (w.alloc (.cells (a9 v d.sc) 28)) (a9 u e.sc) 28);simpa using h9
 have hBW:Below w.heap.size w W:=by rw[hW];exact(bR.alloc (by simp;try omega) _).alloc (by simp;try omega) _
 have hsz:W.heap.size=w.heap.size+2:=by rw[hW];simp
 generalize hX2b:w.heap.size+1=X2b at hX2;have l1:=hd.sp.len;have l2:=hd.ln.len;have l3:=hd.ins.len;have l4:=hd.outs.len;have m1:=he.sp.len;have m2:=he.ln.len;have m3:=he.ins.len;have m4:=he.outs.len;have b1:=hd.sp.big;have b2:=hd.ln.big;have b3:=hd.ins.big;have b4:=hd.outs.big;have HB1:=Lib.hid hX1;have HB2:=Lib.hid hX2;have HBW:=Lib.hid hBW;have HDD:=Lib.hid (hd.below hBW);have HEE:=Lib.hid (he.below hBW);have HW:=Lib.hid hW;obtain⟨x0,x1,x2,x3,x4,x5,x6,x7,x8,xf⟩:=hX1.nine;obtain⟨y0,y1,y2,y3,y4,y5,y6,y7,y8,yf⟩:=hX2.nine;generalize hDD:decide (d=e)=DD;have HD:Aside (decide (d=e)=DD):=hDD;clear hd he hX1 hX2 hBW hsz hW hDD
 have HL:Aside ((d.sp.length=v.n1∧d.ln.length=v.n2∧d.ins.length=v.n3∧d.outs.length=v.n4)∧e.sp.length=u.n1∧e.ln.length=u.n2∧e.ins.length=u.n3∧e.outs.length=u.n4):=⟨⟨l1,l2,l3,l4⟩,m1,m2,m3,m4⟩;clear l1 l2 l3 l4 m1 m2 m3 m4
 by_cases q1:v.n1=u.n1
 case neg=>
  have z1:((v.n1:Int) != (u.n1:Int))=true:=by simpa using fun h=>q1 oM
  have HF:Aside (false=DD):=by
   show _=_
   rw[←HD.out];exact(decide_eq_false fun q=>q1 (by have h:=HL.out;rw[q]at h;omega)).symm
  exact xe60_1
 have z1:((v.n1:Int) != (u.n1:Int))=false:=by simpa using (show (v.n1:Int)=u.n1 by omega)
 have Q1:=Lib.hid q1;clear q1
 by_cases q2:v.n2=u.n2
 case neg=>
  have z2:((v.n2:Int) != (u.n2:Int))=true:=by simpa using fun h=>q2 oM
  have HF:Aside (false=DD):=by
   show _=_
   rw[←HD.out];exact(decide_eq_false fun q=>q2 (by have h:=HL.out;rw[q]at h;omega)).symm
  exact xe60_1
 have z2:((v.n2:Int) != (u.n2:Int))=false:=by simpa using (show (v.n2:Int)=u.n2 by omega)
 have Q2:=Lib.hid q2;clear q2
 by_cases q3:v.n3=u.n3
 case neg=>
  have z3:((v.n3:Int) != (u.n3:Int))=true:=by simpa using fun h=>q3 oM
  have HF:Aside (false=DD):=by
   show _=_
   rw[←HD.out];exact(decide_eq_false fun q=>q3 (by have h:=HL.out;rw[q]at h;omega)).symm
  exact xe60_1
 have z3:((v.n3:Int) != (u.n3:Int))=false:=by simpa using (show (v.n3:Int)=u.n3 by omega)
 have Q3:=Lib.hid q3;clear q3
 by_cases q4:v.n4=u.n4
 case neg=>
  have z4:((v.n4:Int) != (u.n4:Int))=true:=by simpa using fun h=>q4 oM
  have HF:Aside (false=DD):=by
   show _=_
   rw[←HD.out];exact(decide_eq_false fun q=>q4 (by have h:=HL.out;rw[q]at h;omega)).symm
  exact xe60_1
 have z4:((v.n4:Int) != (u.n4:Int))=false:=by simpa using (show (v.n4:Int)=u.n4 by omega)
 have Q4:=Lib.hid q4;clear q4
 by_cases sa:d.sc.a=e.sc.a
 case neg=>
  have za:(d.sc.a==e.sc.a)=false:=by simpa using sa
  have HF:Aside (false=DD):=by
   show _=_
   rw[←HD.out];exact(decide_eq_false fun q=>sa (by rw[q])).symm
  exact xe60_1
 have za:(d.sc.a==e.sc.a)=true:=by simpa using sa
 have Sa:=Lib.hid sa;clear sa
 by_cases sb:d.sc.b=e.sc.b
 case neg=>
  have zb:(d.sc.b==e.sc.b)=false:=by simpa using sb
  have HF:Aside (false=DD):=by
   show _=_
   rw[←HD.out];exact(decide_eq_false fun q=>sb (by rw[q])).symm
  exact xe60_1
 have zb:(d.sc.b==e.sc.b)=true:=by simpa using sb
 have Sb:=Lib.hid sb;clear sb
 by_cases sc:d.sc.c=e.sc.c
 case neg=>
  have zc:(d.sc.c==e.sc.c)=false:=by simpa using sc
  have HF:Aside (false=DD):=by
   show _=_
   rw[←HD.out];exact(decide_eq_false fun q=>sc (by rw[q])).symm
  exact xe60_1
 have zc:(d.sc.c==e.sc.c)=true:=by simpa using sc
 have Sc:=Lib.hid sc;clear sc
 by_cases sd:d.sc.d=e.sc.d
 case neg=>
  have zd:(d.sc.d==e.sc.d)=false:=by simpa using sd
  have HF:Aside (false=DD):=by
   show _=_
   rw[←HD.out];exact(decide_eq_false fun q=>sd (by rw[q])).symm
  exact xe60_1
 have zd:(d.sc.d==e.sc.d)=true:=by simpa using sd
 have Sd:=Lib.hid sd;clear sd
 by_cases sk:d.sc.k=e.sc.k
 case neg=>
  have zk:(d.sc.k==e.sc.k)=false:=by simpa using sk
  have HF:Aside (false=DD):=by
   show _=_
   rw[←HD.out];exact(decide_eq_false fun q=>sk (by rw[q])).symm
  exact xe60_1
 have zk:(d.sc.k==e.sc.k)=true:=by simpa using sk
 have Sk:=Lib.hid sk;clear sk
 have HSC:Aside (d.sc=e.sc):=by
  show _=_
  have sa:=Sa.out;have sb:=Sb.out;have sc:=Sc.out;have sd:=Sd.out;have sk:=Sk.out;clear HD HW HB1 HB2 HBW
  revert sa sb sc sd sk
  generalize d.sc=p;generalize e.sc=q;intro sa sb sc sd sk;obtain⟨_,_,_,_,_⟩:=p;obtain⟨_,_,_,_,_⟩:=q;simp only at sa sb sc sd sk;subst sa sb sc sd sk;rfl
 have HQ:Aside (v.n1=u.n1∧v.n2=u.n2∧v.n3=u.n3∧v.n4=u.n4):=⟨Q1.out,Q2.out,Q3.out,Q4.out⟩;go_enter Tryz.func16,Tryz.ntmps16
 go_upto_region 1 with fail
 try rw[hX2b]
 rw[←HW.out]
 go_upto_region 4 with fail
 go_loopg [53] v.n1 (fun gg s53 wr=>∃kk:Nat,kk≤v.n1∧v.n1-kk≤gg∧s53=kk∧Aside (Below W.heap.size W wr)∧Aside (∀j,j<kk→d.sp[j]?=e.sp[j]?))
 case atStart=>exact⟨0,Nat.zero_le _,oM,rfl,Below.refl _ _,fun j hj=>absurd hj (Nat.not_lt_zero _)⟩
 obtain⟨kk,hkk,hg,rfl,hb,M1⟩:=hrel;obtain⟨x0,x1,x2,x3,x4,x5,x6,x7,x8,xf⟩:=(HB1.out.below hb.out).nine;obtain⟨y0,y1,y2,y3,y4,y5,y6,y7,y8,yf⟩:=(HB2.out.below hb.out).nine
 by_cases hlt:kk<v.n1
 case pos=>
  have hltz:(kk:Int)<(v.n1:Int):=oM
  have hltu:(kk:Int)<(u.n1:Int):=by have:=HQ.out;omega
  obtain⟨⟨a0,a1⟩,hx⟩:=get_of (l:=d.sp) (n:=kk) (by have:=HL.out;omega);obtain⟨⟨c0,c1⟩,hy⟩:=get_of (l:=e.sp) (n:=kk) (by have:=HL.out;have:=HQ.out;omega);obtain⟨b,o,hA,_,g0,g1⟩:=(HDD.out.below hb.out).sp.at2 hx rfl;obtain⟨b',o',hA',_,r0,r1⟩:=(HEE.out.below hb.out).sp.at2 hy rfl;have XX:Aside (d.sp[kk]?=some ⟨a0,a1⟩):=hx;have YY:Aside (e.sp[kk]?=some ⟨c0,c1⟩):=hy;rw[hA]at x0;rw[hA']at y0;clear hx hy;dsimp only at g0 r0 g1 r1
  by_cases q:a0=c0
  case neg=>
   have q2:(a0==c0)=false:=by simpa using q
   exact xe60_0
  subst q
  by_cases q:a1=c1
  case neg=>
   have q2:(a1==c1)=false:=by simpa using q
   exact xe60_0
  subst q;go_wp2_with fail
  go_quiet (fail)
  go_wp2_with fail
  go_roundg (v.n1-(kk+1))
  case measure=>omega
  refine⟨kk+1,oM,oM,nX,below_dN hb.out _,(show Aside _ from fun j hj=>?_)⟩
  by_cases ej:j=kk
  · subst ej;rw[XX.out,YY.out]
  exact M1.out j oM
 have hltz:¬(kk:Int)<(v.n1:Int):=oM
 have hkn:kk=v.n1:=oM
 go_upto_region 10 with fail
 rw[hkn]at M1;clear hkn hlt hltz hkk hg x0 x1 x2 x3 x4 x5 x6 x7 x8 xf y0 y1 y2 y3 y4 y5 y6 y7 y8 yf
 skip
 go_loopg [71] v.n2 (fun gg s71 wr=>∃kk:Nat,kk≤v.n2∧v.n2-kk≤gg∧s71=kk∧Aside (Below W.heap.size W wr)∧Aside (∀j,j<kk→d.ln[j]?=e.ln[j]?))
 case atStart=>exact⟨0,Nat.zero_le _,oM,rfl,hb.out,fun j hj=>absurd hj (Nat.not_lt_zero _)⟩
 obtain⟨kk,hkk,hg,rfl,hb,M2⟩:=hrel;obtain⟨x0,x1,x2,x3,x4,x5,x6,x7,x8,xf⟩:=(HB1.out.below hb.out).nine;obtain⟨y0,y1,y2,y3,y4,y5,y6,y7,y8,yf⟩:=(HB2.out.below hb.out).nine
 by_cases hlt:kk<v.n2
 case pos=>
  have hltz:(kk:Int)<(v.n2:Int):=oM
  have hltu:(kk:Int)<(u.n2:Int):=by have:=HQ.out;omega
  obtain⟨⟨a0,a1,a2⟩,hx⟩:=get_of (l:=d.ln) (n:=kk) (by have:=HL.out;omega);obtain⟨⟨c0,c1,c2⟩,hy⟩:=get_of (l:=e.ln) (n:=kk) (by have:=HL.out;have:=HQ.out;omega);obtain⟨b,o,hA,_,g0,g1,g2⟩:=(HDD.out.below hb.out).ln.at3 hx rfl;obtain⟨b',o',hA',_,r0,r1,r2⟩:=(HEE.out.below hb.out).ln.at3 hy rfl;have XX:Aside (d.ln[kk]?=some ⟨a0,a1,a2⟩):=hx;have YY:Aside (e.ln[kk]?=some ⟨c0,c1,c2⟩):=hy;rw[hA]at x1;rw[hA']at y1;clear hx hy;dsimp only at g0 r0 g1 r1 g2 r2
  by_cases q:a0=c0
  case neg=>
   have q2:(a0==c0)=false:=by simpa using q
   exact xe60_0
  subst q
  by_cases q:a1=c1
  case neg=>
   have q2:(a1==c1)=false:=by simpa using q
   exact xe60_0
  subst q
  by_cases q:a2=c2
  case neg=>
   have q2:(a2==c2)=false:=by simpa using q
   exact xe60_0
  subst q;go_wp2_with fail
  go_quiet (fail)
  go_wp2_with fail
  go_roundg (v.n2-(kk+1))
  case measure=>omega
  refine⟨kk+1,oM,oM,nX,below_dN hb.out _,(show Aside _ from fun j hj=>?_)⟩
  by_cases ej:j=kk
  · subst ej;rw[XX.out,YY.out]
  exact M2.out j oM
 have hltz:¬(kk:Int)<(v.n2:Int):=oM
 have hkn:kk=v.n2:=oM
 go_upto_region 16 with fail
 rw[hkn]at M2;clear hkn hlt hltz hkk hg x0 x1 x2 x3 x4 x5 x6 x7 x8 xf y0 y1 y2 y3 y4 y5 y6 y7 y8 yf
 skip
 go_loopg [89] v.n3 (fun gg s89 wr=>∃kk:Nat,kk≤v.n3∧v.n3-kk≤gg∧s89=kk∧Aside (Below W.heap.size W wr)∧Aside (∀j,j<kk→d.ins[j]?=e.ins[j]?))
 case atStart=>exact⟨0,Nat.zero_le _,oM,rfl,hb.out,fun j hj=>absurd hj (Nat.not_lt_zero _)⟩
 obtain⟨kk,hkk,hg,rfl,hb,M3⟩:=hrel;obtain⟨x0,x1,x2,x3,x4,x5,x6,x7,x8,xf⟩:=(HB1.out.below hb.out).nine;obtain⟨y0,y1,y2,y3,y4,y5,y6,y7,y8,yf⟩:=(HB2.out.below hb.out).nine
 by_cases hlt:kk<v.n3
 case pos=>
  have hltz:(kk:Int)<(v.n3:Int):=oM
  have hltu:(kk:Int)<(u.n3:Int):=by have:=HQ.out;omega
  obtain⟨a0,hx⟩:=get_of (l:=d.ins) (n:=kk) (by have:=HL.out;omega);obtain⟨c0,hy⟩:=get_of (l:=e.ins) (n:=kk) (by have:=HL.out;have:=HQ.out;omega);obtain⟨b,o,hA,_,g0⟩:=(HDD.out.below hb.out).ins.at1 hx rfl;obtain⟨b',o',hA',_,r0⟩:=(HEE.out.below hb.out).ins.at1 hy rfl;have XX:Aside (d.ins[kk]?=some a0):=hx;have YY:Aside (e.ins[kk]?=some c0):=hy;rw[hA]at x2;rw[hA']at y2;clear hx hy
  by_cases q:a0=c0
  case neg=>
   have q2:(a0==c0)=false:=by simpa using q
   exact xe60_0
  subst q;go_wp2_with fail
  go_quiet (fail)
  go_wp2_with fail
  go_roundg (v.n3-(kk+1))
  case measure=>omega
  refine⟨kk+1,oM,oM,nX,below_dN hb.out _,(show Aside _ from fun j hj=>?_)⟩
  by_cases ej:j=kk
  · subst ej;rw[XX.out,YY.out]
  exact M3.out j oM
 have hltz:¬(kk:Int)<(v.n3:Int):=oM
 have hkn:kk=v.n3:=oM
 go_upto_region 22 with fail
 rw[hkn]at M3;clear hkn hlt hltz hkk hg x0 x1 x2 x3 x4 x5 x6 x7 x8 xf y0 y1 y2 y3 y4 y5 y6 y7 y8 yf
 skip
 go_loopg [107] v.n4 (fun gg s107 wr=>∃kk:Nat,kk≤v.n4∧v.n4-kk≤gg∧s107=kk∧Aside (Below W.heap.size W wr)∧Aside (∀j,j<kk→d.outs[j]?=e.outs[j]?))
 case atStart=>exact⟨0,Nat.zero_le _,oM,rfl,hb.out,fun j hj=>absurd hj (Nat.not_lt_zero _)⟩
 obtain⟨kk,hkk,hg,rfl,hb,M4⟩:=hrel;obtain⟨x0,x1,x2,x3,x4,x5,x6,x7,x8,xf⟩:=(HB1.out.below hb.out).nine;obtain⟨y0,y1,y2,y3,y4,y5,y6,y7,y8,yf⟩:=(HB2.out.below hb.out).nine
 by_cases hlt:kk<v.n4
 case pos=>
  have hltz:(kk:Int)<(v.n4:Int):=oM
  have hltu:(kk:Int)<(u.n4:Int):=by have:=HQ.out;omega
  obtain⟨a0,hx⟩:=get_of (l:=d.outs) (n:=kk) (by have:=HL.out;omega);obtain⟨c0,hy⟩:=get_of (l:=e.outs) (n:=kk) (by have:=HL.out;have:=HQ.out;omega);obtain⟨b,o,hA,_,g0⟩:=(HDD.out.below hb.out).outs.at1 hx rfl;obtain⟨b',o',hA',_,r0⟩:=(HEE.out.below hb.out).outs.at1 hy rfl;have XX:Aside (d.outs[kk]?=some a0):=hx;have YY:Aside (e.outs[kk]?=some c0):=hy;rw[hA]at x3;rw[hA']at y3;clear hx hy
  by_cases q:a0=c0
  case neg=>
   have q2:(a0==c0)=false:=by simpa using q
   exact xe60_0
  subst q;go_wp2_with fail
  go_quiet (fail)
  go_wp2_with fail
  go_roundg (v.n4-(kk+1))
  case measure=>omega
  refine⟨kk+1,oM,oM,nX,below_dN hb.out _,(show Aside _ from fun j hj=>?_)⟩
  by_cases ej:j=kk
  · subst ej;rw[XX.out,YY.out]
  exact M4.out j oM
 have hltz:¬(kk:Int)<(v.n4:Int):=oM
 have hkn:kk=v.n4:=oM
 rw[hkn]at M4;go_wp2_with fail
 refine bodyPost_ret (v:= .bool true) (by simp[results,Tryz.results16,go_sem]) rfl ?_
 have HT:DD=true:=by
  rw[←HD.out];obtain⟨⟨l1,l2,l3,l4⟩,m1,m2,m3,m4⟩:=HL.out;obtain⟨q1,q2,q3,q4⟩:=HQ.out;have e1:=ext_of l1 oM M1.out;have e2:=ext_of l2 oM M2.out;have e3:=ext_of l3 oM M3.out;have e4:=ext_of l4 oM M4.out;have e5:=HSC.out;obtain⟨_,_,_,_,_⟩:=d;obtain⟨_,_,_,_,_⟩:=e;simp only at e1 e2 e3 e4 e5;subst e1 e2 e3 e4 e5;simp
 rw[HT];exact⟨rfl,HBW.out.trans (hb.out.mono HBW.out.size)⟩
end
section
open Go.RowKit Go.Shelf
variable {i:Nat} {k:Nat} {n:Nat} {d:Diag}
theorem u88:Tryz.prog.underlying 88=some (.array 8 3):=kR
theorem idx88 {x:Value} (h:orderC[k]?=some x) (w:World):(Instr.index 88 (.agg orderC.toArray) k).run Tryz.prog w= .ok x w:=by
 have hk:k<8:=by
  have:=(List.getElem?_eq_some_iff.1 h).1;simpa [orderC] using this
 exact idx_arr u88 sz3 ag3 _ _ _ oM oM (by rw[Int.toNat_natCast,List.getElem?_toArray];exact h) w
def orderL:List Int:=[2,3,1,5,6,4,7,8]
theorem order_at {r:Int} (h:orderL[k]?=some r):orderC[k]?=some (.int .i64 r):=by
 have e:orderC=orderL.map (fun r=>Value.int .i64 r):=rfl;rw[e,List.getElem?_map,h];rfl
theorem order_range {r:Int} (h:r∈orderL):1≤r∧r≤8:=by
 have:∀r∈orderL,1≤r∧r≤8:=by decide
 exact this r h
def manyR (d:Diag) (r:Int):Nat:=if lined r then d.ln.length else d.sp.length
theorem nextL_drop {r:Int} (h:orderL[k]?=some r):d.nextL (orderL.drop k)=match d.tries r 0 (manyR d r) with
  |some x=>some x
  |none=>d.nextL (orderL.drop (k+1)):=by
 obtain⟨hl,he⟩:=List.getElem?_eq_some_iff.1 h;rw[List.drop_eq_getElem_cons hl,he];rfl
theorem tries_at {r:Int} (h:i<n):d.tries r i (n-i)=if r=2∧d.kindAt i≠2 then d.tries r (i+1) (n-(i+1)) else match d.try1 r i 0 (if r=5 then d.ln.length else 1) with
  |some x=>some x
  |none=>d.tries r (i+1) (n-(i+1)):=by
 rw[show n-i=(n-(i+1))+1 by omega];rfl
theorem try1_at {r:Int} (h:k<n):d.try1 r i k (n-k)=if r=5∧(k≤i∨(match d.ln[i]?,d.ln[k]? with|some a,some b=>a.alike b|_,_=>false)=false) then d.try1 r i (k+1) (n-(k+1)) else if (d.step ⟨r,i,k⟩).2=0 then some (⟨r,i,k⟩,(d.step ⟨r,i,k⟩).1) else d.try1 r i (k+1) (n-(k+1)):=by
 rw[show n-k=(n-(k+1))+1 by omega];rfl
def alt (x y:Option (Rewrite × Diag)):Option (Rewrite × Diag):=match x with
 |some x=>some x
 |none=>y
theorem alt_assoc (x y z:Option (Rewrite × Diag)):alt (alt x y) z=alt x (alt y z):=by cases x<;>rfl
theorem nextL_alt {r:Int} (h:orderL[k]?=some r):d.nextL (orderL.drop k)=alt (d.tries r 0 (manyR d r)) (d.nextL (orderL.drop (k+1))):=nextL_drop h
theorem tries_alt {r:Int} (h:i<n):d.tries r i (n-i)=if r=2∧d.kindAt i≠2 then d.tries r (i+1) (n-(i+1)) else alt (d.try1 r i 0 (if r=5 then d.ln.length else 1)) (d.tries r (i+1) (n-(i+1))):=tries_at h
end
end Go.Proofs.YtcoackmdmohnhaaGreatDoor
