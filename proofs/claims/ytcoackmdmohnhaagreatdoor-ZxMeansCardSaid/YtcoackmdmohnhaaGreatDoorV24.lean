/- Package zx: Of at right plain circuits: the diagram. -/
import Derived.Test.YtcoackmdmohnhaaGreatDoorV23
set_option linter.unusedVariables false
set_option linter.unusedSimpArgs false
set_option maxRecDepth 100000
set_option maxHeartbeats 4000000
namespace Go.Proofs.YtcoackmdmohnhaaGreatDoor
open Go.RowKit Go.Shelf
variable {t:TypeId} {tl:List Value} {B:Nat} {N:Nat} {p:Nat} {b:Nat} {k:Nat} {w:World} {w':World} {v:DV} {v':DV} {d:Diag}
def one:Num:=⟨1,0,0,0,0⟩
def startD (k:Nat):Diag:=⟨List.replicate k ⟨0,0⟩,[],numbers k,[],one⟩
theorem numbers_succ (k:Nat):numbers (k+1)=numbers k++[(k:Int)]:=by simp[numbers,List.range_succ]
def finG (m:Nat):Option Drw→Diag × Int
 |none=>(Diag.nil,2)
 |some s=>resD (Drw.close 0 m s).d 0
def drawG (m:Nat) (gs:List Gat):Diag × Int:=finG m (Drw.gates gs (Drw.start m))
structure D0 (B:Nat) (w:World) (p:Nat) (v:DV) (d:Diag) (LA:Option Addr) (ln lc hb hn:Nat) (la:List Int) (ha:List Bool):Prop where
 wk:WK 103 [.slice LA ln lc, .slice (some ⟨hb,0,none⟩) hn hn] B w p v d
 la:w.ownsRow B 3 1 (.slice LA ln lc) ln (la.flatMap inC)
 ha:w.ownsRow B 4 1 (.slice (some ⟨hb,0,none⟩) hn hn) hn (ha.flatMap blC)
 dl:∀b∈ownB LA,b≠p∧b∉blks v∧b≠hb
 h1:hb≠p
 h2:hb∉blks v
theorem D0.upd {d':Diag} {LA:Option Addr} {ln lc hb hn:Nat} {la:List Int} {ha:List Bool} (h:D0 B w p v d LA ln lc hb hn la ha) (hk:WK 103 [.slice LA ln lc, .slice (some ⟨hb,0,none⟩) hn hn] B w' p v' d') (hu:Upd p v w v' w'):D0 B w' p v' d' LA ln lc hb hn la ha:=by
 have hlt:=ownsRow_lt h.la;have hht:=h.ha.lt _ rfl;refine⟨hk,ownsRow_touch h.la hu.t (fun b hb hm=>?_),ownsRow_touch h.ha hu.t (fun b hb hm=>?_),fun b hb=>?_,h.h1,fun hm=>?_⟩
 · obtain⟨q1,q2,q3⟩:=h.dl b (ownBlock_ownB hb)
   rcases List.mem_cons.1 hm with e|hm
   · exact q1 e
   exact q2 hm
 · cases hb
   rcases List.mem_cons.1 hm with e|hm
   · exact h.h1 e
   exact h.h2 hm
 · obtain⟨q1,q2,q3⟩:=h.dl b hb;refine⟨q1,fun hm=>?_,q3⟩
   rcases hu.n b hm with h1|h1
   · exact q2 h1
   have:=(hlt b hb).2;omega
 rcases hu.n _ hm with h1|h1
 · exact h.h2 h1
 have h2:hb<w.heap.size:=hht.2;omega
theorem D0.last {w9:World} {LA A':Option Addr} {ln lc hb hn n' c':Nat} {la la':List Int} {ha:List Bool} (h:D0 B w p v d LA ln lc hb hn la ha) (ho:w9.ownsRow B 3 1 (.slice A' n' c') n' (la'.flatMap inC)) (hT:Touch (ownB LA) w w9) (hn':∀b∈ownB A',b∈ownB LA∨w.heap.size≤b):D0 B (w9.setCell ⟨p,9,none⟩ (.slice A' n' c')) p v d A' n' c' hb hn la' ha:=by
 have hk:=h.wk.touch hT (fun hm=>(h.dl p hm).1 rfl) (fun b hb hm=>(h.dl b hm).2.1 hb);have hT9:=Touch.set1 w9 p 9 (.slice A' n' c');have hlt:=h.wk.own.lt;have hplt:=h.wk.lt;have hht:=h.ha.lt _ rfl;have hhb:hb<w.heap.size:=hht.2
 have hd:∀b∈ownB A',b≠p∧b∉blks v∧b≠hb:=by
  intro b hb9
  rcases hn' b hb9 with h1|h1
  · exact h.dl b h1
  exact⟨oM,fun hm=>by have:=(hlt b hm).2;omega,oM⟩
 have hrow:∀{e:TypeId} {k:Nat} {X:Option Addr} {n c m:Nat} {ys:List Value},w9.ownsRow B e k (.slice X n c) m ys→(∀b∈ownB X,b≠p)→(w9.setCell ⟨p,9,none⟩ (.slice A' n' c')).ownsRow B e k (.slice X n c) m ys:=fun h9 h8=>ownsRow_touch h9 hT9 (fun b hb hm=>by simp at hm;exact h8 b (ownBlock_ownB hb) hm);have hbn:∀b∈blks v,b≠p:=fun b hb e=>h.wk.np (e▸hb);refine⟨⟨?_,⟨hrow hk.own.sp (fun b hb=>hbn b (by simp[blks,hb])),hrow hk.own.ln (fun b hb=>hbn b (by simp[blks,hb])),hrow hk.own.ins (fun b hb=>hbn b (by simp[blks,hb])),hrow hk.own.outs (fun b hb=>hbn b (by simp[blks,hb])),hk.own.nd⟩,hk.np,hk.hp⟩,hrow ho (fun b hb=>(hd b hb).1),?_,hd,h.h1,h.h2⟩
 · exact hk.blk.set 9 (.slice A' n' c')
 refine hrow (ownsRow_touch h.ha hT (fun b hb hm=>by cases hb;exact(h.dl _ hm).2.2 rfl)) (fun b hb=>?_)
 simp[ownB]at hb
 subst hb;exact h.h1
theorem D0.dwk {lb ln lc hb hn:Nat} {la:List Int} {ha:List Bool} (h:D0 B w p v d (some ⟨lb,0,none⟩) ln lc hb hn la ha):DWk B w p v d lb ln lc hb hn hn la ha:=by
 obtain⟨q1,q2,q3⟩:=h.dl lb (by simp[ownB]);exact⟨h.wk,h.la,h.ha,q1,q2,h.h1,h.h2,q3⟩
theorem Blk.nine3 {s:Num} (h:Blk w b (dcs v s++tl) t):w.cell? ⟨b,3,none⟩=some (.slice v.A4 v.n4 v.c4):=h.cell 3 _ rfl
theorem below_chain {lc lc2 lc3 m hb k9 c9:Nat} {W wr W3 W4 w9:World} {v3 v4:DV} {d3 d4:Diag} {LA A9:Option Addr} {la:List Int} {ha:List Bool} (h:Below B W wr) (hB:B≤wr.heap.size) (u3:Upd p v wr v3 W3) (u4:Upd p v3 W3 v4 W4) (hT:Touch (ownB LA) W4 w9) (h0:D0 B wr p v d LA k lc hb m la ha) (h3:D0 B W3 p v3 d3 LA k lc2 hb m la ha) (h4:D0 B W4 p v4 d4 LA k lc3 hb m la ha):Below B W (w9.setCell ⟨p,9,none⟩ (.slice A9 k9 c9)):=by
 have b3:=h0.wk.below_of u3 hB;have hB3:=Nat.le_trans hB u3.t.size;have b4:=h3.wk.below_of u4 hB3;have hB4:=Nat.le_trans hB3 u4.t.size;have b9:=hT.below hB4 (fun x hx=>(ownsRow_lt h4.la x hx).1);exact(((h.trans b3).trans b4).trans b9).setCell (p:=⟨p,9,none⟩) h0.wk.hp _
theorem mulS_check {s x:Num} (hs:s.check=0) (hx:0≤x.k):(s.mulS x).check=0:=by
 unfold Num.mulS;have hk:=(Num.check_zero.1 hs).1;rw[Num.least_eq (s.mulX x) (by simp only[Num.mulX];omega)]
 by_cases h:(s.mulX x).form.check=0
 · simp[h]
 simp[h,hs]
theorem Drw.gate_keeps (s:Drw) (kd:Int) (i k:Nat) (hc:s.d.sc.check=0):(s.gate kd i k).d.sc.check=0∧(s.gate kd i k).d.sp.length≤s.d.sp.length+2∧(s.gate kd i k).d.ln.length≤s.d.ln.length+3∧(s.gate kd i k).la.length=s.la.length∧(s.gate kd i k).ha.length=s.ha.length∧(s.gate kd i k).d.outs=s.d.outs:=by
 unfold Drw.gate
 repeat' split
 all_goals simp[Drw.put,Drw.two,Diag.put,Diag.two]
 all_goals first
  |exact hc
  |exact⟨mulS_check hc dE,oM⟩
  |exact mulS_check hc dE
  |(refine⟨?_,oM⟩;exact mulS_check hc dE)
  |skip
theorem of19 (m:Nat) (Bn:Int) (A:Option Addr) (n c:Nat) (xs:List XG) (w:World) (h:CRd w A n xs) (hm1:1≤m) (hm2:m≤12) (hB1:0≤Bn) (hB2:Bn≤8) (hn:n≤120) (hg:∀x∈xs,x.g.good m) (hG:Glob N w) (hP:Phs N w) (hN:N≤w.heap.size):
  Calls Tryz.prog 19 #[.agg #[m,Bn, .slice A n c]] w (RetD w.heap.size (drawG m (xs.map (·.g))) w):=by
 obtain⟨W,hW⟩:∃W,W=((w.alloc (.cells #[m,Bn, .slice A n c] 40)).alloc (.cells zA 28)):=⟨_,rfl⟩
 have hX1:Blk W w.heap.size [m,Bn, .slice A n c] 40:=by
  rw[hW];have h9:=((Blk.new w #[m,Bn, .slice A n c] 40).alloc (.cells zA 28));simpa using h9
 have hX2:Blk W (w.heap.size+1) z9 28:=by
  rw[hW];have h9:=(Blk.new (w.alloc (.cells #[m,Bn, .slice A n c] 40)) zA 28);simpa using h9
 have hBW:Below w.heap.size w W:=by rw[hW];exact(bR.alloc (by simp;try omega) _).alloc (by simp;try omega) _
 have hsz:W.heap.size=w.heap.size+2:=by rw[hW];simp
 generalize hX2b:w.heap.size+1=X2b at hX2;have H65:=plain65 m Bn A n c xs W (h.below hBW) oM oM hB1 hB2 hn hg;have H66:Aside (∀V,Below W.heap.size W V→Calls Tryz.prog 66 #[.slice A n c, .func (.func 67) #[] #[]] V fun e w'=>e= .returned (.bool false)∧Below V.heap.size V w'):=fun V hV=>any66g m xs hg A n c V ((h.below hBW).below hV).rd;have HX1:=Lib.hid hX1;have HX2:=Lib.hid hX2;have HBW:=Lib.hid hBW;have HSZ:Aside (W.heap.size=w.heap.size+2∧X2b=w.heap.size+1):=⟨hsz,hX2b.symm⟩;have HCR:=Lib.hid (h.below hBW);have HGD:Aside (∀x∈xs,x.g.good m):=hg;have HGG:=Lib.hid (hG.below hBW hN);have HPP:=Lib.hid (hP.below hBW hN);have HNW:Aside (N≤w.heap.size):=hN;have hxl:=h.rd.len;obtain⟨x0,x1,x2,xf⟩:=hX1.three;have HW:=Lib.hid hW;obtain⟨i4,hi4,hz4,hs4,hb4⟩:=info_parts inf4
 have hmk:∀V:World,(Instr.makeSlice 85 m m).run Tryz.prog V= .ok (.slice (some ⟨V.heap.size,0,none⟩) m m) (V.alloc (.cells (madeCells #[.bool false] m) 4)):=by
  intro V;have hr:=run_make (P:=Tryz.prog) V 85 4 i4 (.bool false) Tryz.underlying85 hi4 hz4 .i64 .i64 m m oM (Int.le_refl _) (by rw[hb4];omega) oM;rw[hs4,Nat.mul_one]at hr;exact hr
 clear hi4 hz4 hs4 hb4;clear h hg hX1 hX2 hBW hsz hW hG hP;go_enter Tryz.func19,Tryz.ntmps19
 go_upto_region 1 with fail
 try rw[hX2b]
 rw[←HW.out];clear hX2b
 go_upto_region 6 with(first
   |(go_at_call 65;(with_reducible refine H65.mono ?_);rintro e w1 ⟨rfl,hb1⟩;clear H65;have H66u:=H66.out w1 hb1;have HL1:=Lib.hid hb1;obtain⟨y0,y1,y2,yf⟩:=(HX1.out.below hb1).three;clear hb1 x0 x1 x2 xf)
   |(go_at_call 66;(with_reducible refine H66u.mono ?_);rintro e w2 ⟨rfl,hb2⟩;clear H66u;have HL2:=Lib.hid (below_then HL1.out hb2);obtain⟨z0,z1,z2,zf⟩:=(HX1.out.below HL2.out).three;clear hb2 y0 y1 y2 yf))
 obtain⟨B,hBe⟩:∃B,B=W.heap.size:=⟨_,rfl⟩;have HBE:=Lib.hid hBe;clear hBe
 go_upto_region 8 with fail
 clear hmk;obtain⟨W7,hW7⟩:∃W7,W7=(w2.alloc (.cells (madeCells #[.bool false] m) 4)).alloc (.cells #[.slice none 0 0, .slice none 0 0, .slice none 0 0, .slice none 0 0, .int .i64 1, .int .i64 0, .int .i64 0, .int .i64 0, .int .i64 0, .slice none 0 0, .slice (some ⟨w2.heap.size,0,none⟩) m m] 103):=⟨_,rfl⟩;rw[←hW7];have hb6:Below w2.heap.size w2 W7:=by rw[hW7];exact(bR.alloc (Nat.le_refl _) _).alloc sI _
 have hbl0:Blk W7 w2.heap.size (madeCells #[.bool false] m).toList 4:=by rw[hW7];exact(Blk.new _ _ _).alloc _
 rw[show (madeCells #[.bool false] m).toList=(List.replicate m false).flatMap blC from by have h9:=made_flat (enc:=blC) (k:=1) dE blC_len false m;rw[Nat.mul_one]at h9;exact h9]at hbl0
 have hbp:Blk W7 (w2.heap.size+1) [.slice none 0 0, .slice none 0 0, .slice none 0 0, .slice none 0 0, .int .i64 1, .int .i64 0, .int .i64 0, .int .i64 0, .int .i64 0, .slice none 0 0, .slice (some ⟨w2.heap.size,0,none⟩) m m] 103:=by
  rw[hW7];have h9:=Blk.new (w2.alloc (.cells (madeCells #[.bool false] m) 4)) #[.slice none 0 0, .slice none 0 0, .slice none 0 0, .slice none 0 0, .int .i64 1, .int .i64 0, .int .i64 0, .int .i64 0, .int .i64 0, .slice none 0 0, .slice (some ⟨w2.heap.size,0,none⟩) m m] 103;simpa using h9
 have hBs:B≤w2.heap.size:=by rw[HBE.out];exact HL2.out.size
 have HL7:Aside (Below B W W7):=by
  have h2:=HL2.out;rw[←HBE.out]at h2;exact h2.trans (hb6.mono hBs)
 clear hW7;generalize hpe:w2.heap.size+1=p at *;generalize hhb:w2.heap.size=hb at *;have hob:=ownsRow_blk (B:=B) (n:=m) (k:=1) hbl0 hBs (by unfold maxLen;omega) (by rw[flat_len blC_len];simp);have hpp:hb≠p:=oM
 have HD0:Aside (D0 B W7 p nilDV (startD 0) none 0 0 hb m [] (List.replicate m false)):=⟨⟨hbp,⟨World.ownsRow_nil _ _ _ _,World.ownsRow_nil _ _ _ _,World.ownsRow_nil _ _ _ _,World.ownsRow_nil _ _ _ _,by simp[blks,nilDV,ownB]⟩,by simp[blks,nilDV,ownB],oM⟩,World.ownsRow_nil _ _ _ _,hob,by simp[ownB],hpp,by simp[blks,nilDV,ownB]⟩;have HL7w:Aside (Below W.heap.size W W7):=by rw[←HBE.out];exact HL7.out
 clear hb6 hbl0 hbp hob hpe hhb hpp hBs z0 z1 z2 zf;obtain⟨x0,x1,x2,xf⟩:=(HX1.out.below HL7w.out).three
 go_upto_region 9 with fail
 have hBw7:B≤W7.heap.size:=by have:=HL7.out.size;have:=HBE.out;omega
 go_loopg [39] m (fun gg s39 wr=>∃(k:Nat) (v:DV) (LA:Option Addr) (lc:Nat),k≤m∧m-k≤gg∧s39=k∧Aside (v.n1=k∧v.n3=k∧B≤wr.heap.size)∧Aside (D0 B wr p v (startD k) LA k lc hb m (numbers k) (List.replicate m false))∧Aside (Below B W wr))
 case atStart=>exact⟨0,nilDV,none,0,Nat.zero_le _,oM,rfl,⟨rfl,rfl,hBw7⟩,HD0.out,HL7.out⟩
 obtain⟨k,v,LA,lc,hk,hg,rfl,hnv,HD,HLr⟩:=hrel;have hL9:Below W.heap.size W wr:=by rw[←HBE.out];exact HLr.out
 obtain⟨x0,x1,x2,xf⟩:=(HX1.out.below hL9).three
 by_cases hlt:k<m
 case pos=>
  have hltz:(k:Int)<(m:Int):=oM
  have hBw:B≤wr.heap.size:=hnv.out.2.2;have hv1:v.n1≤12:=by have:=hnv.out;omega
  have hv3:v.n3≤12:=by have:=hnv.out;omega
  obtain⟨c0,c1,c2,c3,c4,c5,c6,c7,c8,cf⟩:=HD.out.wk.nine;have HB2:Aside (Below wr.heap.size wr (wr.alloc (.cells #[.int .i64 0, .int .i64 0] 73))):=bR.alloc (Nat.le_refl _) _;have HBB:Aside (B≤(wr.alloc (.cells #[.int .i64 0, .int .i64 0] 73)).heap.size):=Nat.le_trans hBw HB2.out.size;have HO2:=Lib.hid ((HD.out.wk).below HB2.out).own.sp;have HR2:Aside (Rd 2 spC (wr.alloc (.cells #[.int .i64 0, .int .i64 0] 73)) (some ⟨wr.heap.size,0,none⟩) 1 [(⟨0,0⟩:Spider)]):=Rd.one (Blk.new _ _ _)
  go_upto_region 12 with (at_builtin;(refine wpList_append_rows rfl (.tmp 45) (.tmp 47) 22 rfl 73 2 _ 16 inf73 Tryz.underlying22 rfl dE spC_len spC_one dE B _ _ _ rfl _ HO2.out _ _ _ rfl (fun h=>nomatch h) [(⟨0,0⟩:Spider)] HR2.out oM dE HBB.out ?_)
                          intro v9a w9a hAp;obtain⟨A'a,c'a,rfl,hown,htch,hnb⟩:=hAp;have hT9:Touch (ownB v.A1) wr w9a:=((Touch.of_below HB2.out).mono sI).trans htch (fun x hx=> .inl hx);have hput:=(HD.out.wk).putSp hT9 (fun b hb=> .inl hb) hown (fun b hb=>(hnb b hb).imp id (Nat.le_trans HB2.out.size));have hbk:=(HD.out.wk).blk.touch hT9 (fun hm=>(HD.out.wk).np (by simp[blks,hm]));have k0:=hbk.cell 0 _ rfl;have kf:=hbk.free 0;have HPUTa:=Lib.hid hput
                          clear hown htch hnb hT9 hput hbk)
  obtain⟨W3,hW3⟩:∃W3,W3=w9a.setCell ⟨p,0,none⟩ (.slice A'a (v.n1+1) c'a):=⟨_,rfl⟩;obtain⟨v3,hv3e⟩:∃v3:DV,v3={v with A1:=A'a,n1:=v.n1+1,c1:=c'a}:=⟨_,rfl⟩;obtain⟨d3,hd3⟩:∃d3:Diag,d3={startD k with sp:=(startD k).sp++[⟨0,0⟩]}:=⟨_,rfl⟩;rw[←hW3];have hp:=HPUTa.out;rw[←hW3,←hv3e,←hd3]at hp;have HD3:=Lib.hid (HD.out.upd hp.1 hp.2);have HU3:=Lib.hid hp.2;have hBw3:B≤W3.heap.size:=Nat.le_trans hBw hp.2.t.size;have HV3:Aside (v3.n1=v.n1+1∧v3.n3=v.n3):=by rw[hv3e];exact⟨rfl,rfl⟩
  have HDE3:Aside (d3={startD k with sp:=(startD k).sp++[⟨0,0⟩]}):=hd3;have hv33:v3.n3≤12:=by have:=HV3.out;omega
  clear hW3 hv3e hd3 hp k0 kf HPUTa c0 c1 c2 c3 c4 c5 c6 c7 c8 cf HB2 HBB HO2 HR2;obtain⟨c0,c1,c2,c3,c4,c5,c6,c7,c8,cf⟩:=HD3.out.wk.nine;have HB2:Aside (Below W3.heap.size W3 (W3.alloc (.cells #[k] 3))):=bR.alloc (Nat.le_refl _) _;have HBB:Aside (B≤(W3.alloc (.cells #[k] 3)).heap.size):=Nat.le_trans hBw3 HB2.out.size;have HO2:=Lib.hid ((HD3.out.wk).below HB2.out).own.ins;have HR2:Aside (Rd 1 inC (W3.alloc (.cells #[k] 3)) (some ⟨W3.heap.size,0,none⟩) 1 [((k:Int):Int)]):=Rd.one (Blk.new _ _ _)
  go_upto_region 13 with (at_builtin;(refine wpList_append_rows rfl (.tmp 55) (.tmp 57) 24 rfl 3 1 _ 8 inf3 Tryz.underlying24 rfl dE inC_len inC_one dE B _ _ _ rfl _ HO2.out _ _ _ rfl (fun h=>nomatch h) [((k:Int):Int)] HR2.out oM dE HBB.out ?_)
                          intro v9b w9b hAp;obtain⟨A'b,c'b,rfl,hown,htch,hnb⟩:=hAp;have hT9:Touch (ownB v3.A3) W3 w9b:=((Touch.of_below HB2.out).mono sI).trans htch (fun x hx=> .inl hx);have hput:=(HD3.out.wk).putIns hT9 (fun b hb=> .inl hb) hown (fun b hb=>(hnb b hb).imp id (Nat.le_trans HB2.out.size));have hbk:=(HD3.out.wk).blk.touch hT9 (fun hm=>(HD3.out.wk).np (by simp[blks,hm]));have k0:=hbk.cell 2 _ rfl;have kf:=hbk.free 2;have HPUTb:=Lib.hid hput
                          clear hown htch hnb hT9 hput hbk)
  obtain⟨W4,hW4⟩:∃W4,W4=w9b.setCell ⟨p,2,none⟩ (.slice A'b (v3.n3+1) c'b):=⟨_,rfl⟩;obtain⟨v4,hv4e⟩:∃v4:DV,v4={v3 with A3:=A'b,n3:=v3.n3+1,c3:=c'b}:=⟨_,rfl⟩;obtain⟨d4,hd4⟩:∃d4:Diag,d4={d3 with ins:=d3.ins++[(k:Int)]}:=⟨_,rfl⟩;rw[←hW4];have hp:=HPUTb.out;rw[←hW4,←hv4e,←hd4]at hp;have HD4:=Lib.hid (HD3.out.upd hp.1 hp.2);have HU4:=Lib.hid hp.2;have hBw4:B≤W4.heap.size:=Nat.le_trans hBw3 hp.2.t.size;have HV4:Aside (v4.n1=v.n1+1∧v4.n3=v.n3+1):=by have:=HV3.out;rw[hv4e];exact⟨this.1,by show v3.n3+1=_;omega⟩
  have HDE4:Aside (d4=startD (k+1)):=by
   show _=_
   rw[hd4,HDE3.out];simp only[startD,numbers_succ,List.replicate_succ']
  clear hW4 hv4e hd4 hp k0 kf HPUTb c0 c1 c2 c3 c4 c5 c6 c7 c8 cf HB2 HBB HO2 HR2;have c9:=HD4.out.wk.blk.cell 9 _ rfl;have cf:=HD4.out.wk.blk.free;have hb8:Below W4.heap.size W4 (W4.alloc (.cells #[k] 3)):=bR.alloc (Nat.le_refl _) _;have HB8:=Lib.hid hb8;have HO8:Aside ((W4.alloc (.cells #[k] 3)).ownsRow B 3 1 (.slice LA k lc) k ((numbers k).flatMap inC)):=ownsRow_touch HD4.out.la (Touch.of_below hb8) sI;have HR8:Aside (Rd 1 inC (W4.alloc (.cells #[k] 3)) (some ⟨W4.heap.size,0,none⟩) 1 [(k:Int)]):=Rd.one (Blk.new _ _ _);have HBB:Aside (B≤(W4.alloc (.cells #[k] 3)).heap.size):=Nat.le_trans hBw4 hb8.size;clear hb8
  go_upto_region 14 with (at_builtin;(refine wpList_append_rows rfl (.tmp 63) (.tmp 65) 24 rfl 3 1 _ 8 inf3 Tryz.underlying24 rfl dE inC_len inC_one dE B _ _ _ rfl _ HO8.out _ _ _ rfl (fun h=>nomatch h) [(k:Int)] HR8.out oM dE HBB.out ?_)
                          intro v9l w9l hAp;obtain⟨A'l,c'l,rfl,hown,htch,hnb⟩:=hAp;have hT9:Touch (ownB LA) W4 w9l:=((Touch.of_below HB8.out).mono sI).trans htch (fun x hx=> .inl hx);have hdl:=HD4.out.last hown hT9 (fun b hb=>(hnb b hb).imp id (Nat.le_trans HB8.out.size));have hbk:=HD4.out.wk.blk.touch hT9 (fun hm=>(HD4.out.dl p hm).1 rfl);have k9:=hbk.cell 9 _ rfl;have kf:=hbk.free 9;have HDL:=Lib.hid hdl;have HBL:Aside (B≤(w9l.setCell ⟨p,9,none⟩ (.slice A'l (k+1) c'l)).heap.size):=Nat.le_trans hBw4 (Nat.le_trans hT9.size (Touch.set1 w9l p 9 (.slice A'l (k+1) c'l)).size);have HLL:Aside (Below B W (w9l.setCell ⟨p,9,none⟩ (.slice A'l (k+1) c'l))):=below_chain HLr.out hBw HU3.out HU4.out hT9 HD.out HD3.out HD4.out
                          clear hown htch hnb hT9 hdl hbk)
  go_wp2_with fail
  go_roundg (m-(k+1))
  case measure=>omega
  exact⟨k+1,v4,A'l,c'l,oM,Nat.le_refl _,nX,⟨by have:=HV4.out;have:=hnv.out;omega,by have:=HV4.out;have:=hnv.out;omega,HBL.out⟩,(by rw[numbers_succ,←HDE4.out];exact HDL.out),HLL.out⟩
 have hltz:¬(k:Int)<(m:Int):=oM
 obtain rfl:m=k:=oM
 obtain⟨lb,rfl,hlb1,hlb2,_,_⟩:=ownsRow_shape HD.out.la oM;have HDK:=Lib.hid HD.out.dwk
 have HNB:Aside (N≤B∧N≤W.heap.size∧B=W.heap.size):=by
  have h1:=HNW.out;have h2:=HBW.out.size;have h3:=HBE.out;show _∧_
  omega
 clear hlb1 hlb2 HD hnv
 go_upto_region 17 with fail
 rename World=>WG
 go_loopg [73] n (fun gg s73 wr=>∃(i:Nat) (v:DV) (s:Drw),i≤n∧n-i≤gg∧s73=i∧Aside (DWk B wr p v s.d lb m lc hb m m s.la s.ha)∧Aside (Below B W wr)∧Aside (s.d.sp.length≤40∧s.d.ln.length≤3*i∧s.d.sc.check=0∧s.d.outs=[]∧B≤wr.heap.size)∧Aside (drawG m (xs.map (·.g))=finG m (Drw.gates ((xs.drop i).map (·.g)) s)))
 case atStart=>exact⟨0,v,⟨startD m,numbers m,List.replicate m false⟩,Nat.zero_le _,oM,rfl,HDK.out,HLr.out,⟨by simp[startD];omega,by simp[startD],(show one.check=0 by decide),rfl,by have:=HLr.out.size;have:=HNB.out;omega⟩,rfl⟩
 obtain⟨i,v5,s,hi,hg2,rfl,HDs,HLs,HSs,HEs⟩:=hrel;have hL9:Below W.heap.size W wr:=by rw[←HBE.out];exact HLs.out
 obtain⟨x0,x1,x2,xf⟩:=(HX1.out.below hL9).three
 by_cases hlti:i<n
 case pos=>
  have hltiz:(i:Int)<(n:Int):=oM
  obtain⟨x,hx⟩:=get_of (l:=xs) (n:=i) oM;have hgd:=HGD.out x (List.mem_of_getElem? hx);obtain⟨b9,o9,hA,_,e0,e1,e2,e3⟩:=(HCR.out.rd.below hL9).at4 hx rfl;have hal:Below wr.heap.size wr (wr.alloc (.cells #[x.g.kind, .slice x.A x.n x.c,x.g.bit,x.g.fi] 70)):=bR.alloc (Nat.le_refl _) _;have hLa:Below W.heap.size W (wr.alloc (.cells #[x.g.kind, .slice x.A x.n x.c,x.g.bit,x.g.fi] 70)):=hL9.trans (hal.mono hL9.size);have hws:=(HCR.out.ws x (List.mem_of_getElem? hx)).below hLa;have hwl:=hws.len
  have hn3:x.n≤3∧1≤x.n:=by
   have h1:=hgd.ar;have h2:=hgd.k1;have h3:=hgd.k2;unfold arityI at h1
   (repeat' split at h1)<;>omega
  obtain⟨a0,ha0⟩:=get_of (l:=x.g.ws) (n:=0) oM;obtain⟨a1,ha1⟩:=get_of (l:=x.g.ws) (n:=x.n-1) oM;obtain⟨r0,r0'⟩:=hgd.rg a0 (List.mem_of_getElem? ha0);obtain⟨r1,r1'⟩:=hgd.rg a1 (List.mem_of_getElem? ha1);obtain⟨i0,rfl⟩:=Int.eq_ofNat_of_zero_le r0;obtain⟨i1,rfl⟩:=Int.eq_ofNat_of_zero_le r1;obtain⟨t1,t2,t3,t4,t5⟩:=HSs.out;have H68:=gate68 (HDs.out.below hal) (HGG.out.below hLa HNB.out.2.1) (HPP.out.below hLa HNB.out.2.1) HNB.out.1 (Nat.le_trans t5 hal.size) oM oM oM oM t3 x.g.kind x.g.bit x.g.fi (by have h1:=hgd.k1;have h2:=hgd.k2;omega) x.A x.n x.c x.g.ws hws oM oM i0 i1 ha0 ha1 oM oM oM oM;have hkp:=Drw.gate_keeps s x.g.kind i0 i1 t3;have hE1:=HEs.out;rw[drop_cons hx,List.map_cons]at hE1
  have g0:(x.g.ws.getD 0 0).toNat=i0:=by rw[List.getD_eq_getElem?_getD,ha0];rfl
  have g1:(x.g.ws.getD (x.g.ws.length-1) 0).toNat=i1:=by rw[hwl,List.getD_eq_getElem?_getD,ha1];rfl
  obtain⟨s9,hs9⟩:∃s9,s9=Drw.gate ⟨s.d,s.la,s.ha⟩ x.g.kind i0 i1:=⟨_,rfl⟩
  have hE2:drawG m (xs.map (·.g))=finG m (if 40<s9.d.sp.length then none else Drw.gates ((xs.drop (i+1)).map (·.g)) s9):=by
   rw[hE1];simp only[Drw.gates,g0,g1];rw[hs9]
  rw[←hs9]at H68;have hkp2:s9.d.sc.check=0∧s9.d.sp.length≤s.d.sp.length+2∧s9.d.ln.length≤s.d.ln.length+3∧s9.la.length=s.la.length∧s9.ha.length=s.ha.length∧s9.d.outs=s.d.outs:=by rw[hs9];exact hkp
  have HE2:=Lib.hid hE2;have HKP:=Lib.hid hkp2;have HAL:=Lib.hid hal;clear hx hgd hLa hws hwl hn3 ha0 ha1 r0 r0' r1 r1' t1 t2 t3 t4 t5 hkp hE1 g0 g1 hs9 hE2 hkp2 hal;rw[hA]at x2 ⊢
  go_upto_region 20 with(first
    |(go_at_fn 68;(with_reducible refine H68.mono ?_);rintro e w5 ⟨⟨z9,rfl⟩,v9,hD9,hU9⟩;clear H68;have HD9:=Lib.hid hD9;have HU9:=Lib.hid hU9;clear hD9 hU9)
    |((with_reducible refine H68.mono ?_);rintro e w5 ⟨⟨z9,rfl⟩,v9,hD9,hU9⟩;clear H68;have HD9:=Lib.hid hD9;have HU9:=Lib.hid hU9;clear hD9 hU9))
  rw[←hA]at x2 ⊢;clear hA;have hl5:Below B W w5:=HLs.out.trans ((HAL.out.mono HSs.out.2.2.2.2).trans ((HDs.out.below HAL.out).lows HU9.out (Nat.le_trans HSs.out.2.2.2.2 HAL.out.size)));have HL5:=Lib.hid hl5;have HB5:Aside (B≤w5.heap.size):=Nat.le_trans HSs.out.2.2.2.2 (Nat.le_trans HAL.out.size HU9.out.t.size);have HN9:Aside (s9.d.sp.length=v9.n1):=HD9.out.wk.own.n1;obtain⟨c0,c1,c2,c3,c4,c5,c6,c7,c8,cf⟩:=HD9.out.wk.nine;have hL5W:Below W.heap.size W w5:=by rw[←HNB.out.2.2];exact hl5
  have HX5:=Lib.hid (HX2.out.below hL5W);have HLW5:Aside (Below w.heap.size w w5):=HBW.out.trans (hL5W.mono HBW.out.size);clear hl5 hL5W
  by_cases h40:40<v9.n1
  case pos=>
   have h40z:(40:Int)<(v9.n1:Int):=oM
   have HE3:Aside (drawG m (xs.map (·.g))=(Diag.nil,2)):=by
    show _=_
    rw[HE2.out,if_pos (by rw[HN9.out];exact h40)];rfl
   obtain⟨z0,z1,z2,z3,z4,z5,z6,z7,z8,zf⟩:=HX5.out.nine;go_wp2_with fail
   have hq:=HX5.out.set9 (.slice none 0 0) (.slice none 0 0) (.slice none 0 0) (.slice none 0 0) (.int .i64 0) (.int .i64 0) (.int .i64 0) (.int .i64 0) (.int .i64 0);refine bodyPost_ret (v:= .tuple #[.agg #[.slice none 0 0, .slice none 0 0, .slice none 0 0, .slice none 0 0, .int .i64 0, .int .i64 0, .int .i64 0, .int .i64 0, .int .i64 0], .int .i64 2]) (by simp[results,Tryz.results19,go_sem,hq.nine]) rfl ?_
   rw[HE3.out];exact⟨nilDV,rfl,OwnD.nilD _ _,HLW5.out.trans ((touch_set9 _ _ _ _ _ _ _ _ _ _ _).below HLW5.out.size (fun x hx=>by have:=HSZ.out;simp at hx;omega))⟩
  have h40z:¬(40:Int)<(v9.n1:Int):=oM
  go_wp2_with fail
  go_roundg (n-(i+1))
  case measure=>omega
  exact⟨i+1,v9,s9,oM,Nat.le_refl _,nX,HD9.out,HL5.out,⟨by have:=HN9.out;omega,by have:=HKP.out;have:=HSs.out;omega,HKP.out.1,by rw[HKP.out.2.2.2.2.2];exact HSs.out.2.2.2.1,HB5.out⟩,(by have h9:=HE2.out;rw[if_neg (by rw[HN9.out];exact h40)]at h9;exact h9)⟩
 have hltiz:¬(i:Int)<(n:Int):=oM
 have HE3:Aside (drawG m (xs.map (·.g))=resD (Drw.close 0 m s).d 0):=by
  have h9:=HEs.out;rw[List.drop_of_length_le oM]at h9;exact h9
 have hl9:B≤wr.heap.size:=HSs.out.2.2.2.2;have HDq:=HDs
 go_upto_region 24 with fail
 clear x0 x1 x2 xf hltiz hlti hg2;generalize i=i2 at *;rename World=>WH
 go_loopg [90] m (fun gg s90 wr=>∃(i:Nat) (v:DV) (q:Drw),i≤m∧m-i≤gg∧s90=i∧Aside (DWk B wr p v q.d lb m lc hb m m q.la q.ha)∧Aside (Below B W wr)∧Aside (q.d.sp.length≤40+i∧q.d.ln.length≤400+i∧q.d.outs.length=i∧B≤wr.heap.size)∧Aside (drawG m (xs.map (·.g))=resD (Drw.close i (m-i) q).d 0))
 case atStart=>exact⟨0,v5,s,Nat.zero_le _,oM,rfl,HDq.out,HLs.out,⟨by have:=HSs.out;omega,by have:=HSs.out;omega,by rw[HSs.out.2.2.2.1];rfl,hl9⟩,HE3.out⟩
 obtain⟨i,v,q,hi,hg3,rfl,HD,HL,HS,HE⟩:=hrel;have hL9:Below W.heap.size W wr:=by rw[←HNB.out.2.2];exact HL.out
 obtain⟨x0,x1,x2,xf⟩:=(HX1.out.below hL9).three
 by_cases hlti:i<m
 case pos=>
  have hltiz:(i:Int)<(m:Int):=oM
  clear x0 x1 x2 xf
  go_upto_region 26 with fail
  have HLIM:Aside (q.d.sp.length≤10000∧q.d.ln.length≤10000∧m≤10000):=by have:=HS.out;show _∧_;omega
  have hlen:=HD.out.lLen;have HXY:Aside (q.la[i]?=some (q.la.getD i 0)∧q.ha[i]?=some (q.ha.getD i false)):=⟨getD_at oM 0,getD_at oM false⟩;have HLIM4:Aside (v.n4≤1000):=by have h1:=HD.out.wk.own.n4;have h2:=HS.out;show _≤_;omega
  clear hlen
  refine wp_region_FX [(93,11)] (fun l x u=>(l 5=false→Below wr.heap.size wr u)∧(l 5=true→l 11=false→∃W5 v9,DWk B W5 p v9 (q.d.put (q.la.getD i 0) (q.ha.getD i false) 0 0) lb m lc hb m m (q.la.set i q.d.sp.length) (q.ha.set i false)∧v9.A4=v.A4∧v9.n4=v.n4∧v9.c4=v.c4∧DUpd p lb hb v wr v9 W5∧Touch (ownB v.A4) W5 u∧(l 7=false→Below W5.heap.size W5 u)∧(l 7=true→∀A9 k9 c9,x 100= .slice A9 k9 c9→∀b∈ownB A9,b∈ownB v.A4∨W5.heap.size≤b))) (fun i9 u u'=>match i9 with|5=>Touch (p::lb::hb::blks v) u u'|7=>Touch (ownB v.A4) u u'|11=>∃x9,u'=u.setCell ⟨p,3,none⟩ x9|_=>Below u.heap.size u u') (fun j x u=>match j with|0=>x 93=pt p 0|1=>x 94=pt p 0|2=>x 95=pt p 3|3=>x 96= .slice v.A4 v.n4 v.c4|4=>x 97=i|5=>x 98= .int .i64 (q.d.sp.length:Int)|6=>∃z,x 99= .slice (some ⟨z,0,none⟩) 1 1∧wr.heap.size≤z∧Rd 1 inC u (some ⟨z,0,none⟩) 1 [(q.d.sp.length:Int)]|7=>∃A' c',x 100= .slice A' (v.n4+1) c'∧u.ownsRow B 3 1 (.slice A' (v.n4+1) c') (v.n4+1) ((q.d.outs++[(q.d.sp.length:Int)]).flatMap inC)∧∀b∈ownB A',b∈ownB v.A4∨wr.heap.size≤b|8=>x 101=pt p 0|9=>x 102=pt p 0|10=>x 103=pt p 3|11=>∃v9,DWk B u p v9 {q.d.put (q.la.getD i 0) (q.ha.getD i false) 0 0 with outs:=q.d.outs++[(q.d.sp.length:Int)]} lb m lc hb m m (q.la.set i q.d.sp.length) (q.ha.set i false)∧DUpd p lb hb v wr v9 u|_=>True) ?h0 ?hkeep ?hstep ?d0
  case h0=>exact⟨fun _=>bR.drew,(fun h=>by cases h)⟩
  case hkeep=>
   intro j9 i9 x l u u' hj hi hpre ht hG hR
   by_cases hj6:j9=6
   · subst hj6;obtain⟨z,h1,h2,h3⟩:=ht;refine⟨z,h1,h2,?_⟩
     by_cases hi5:i9=5
     · subst hi5;rw[hpre 5 kR]at hi;cases hi
     by_cases hi7:i9=7
     · subst hi7;exact h3.touch hR (fun b hb a ha hab=>by cases ha;have h8:=(HD.out.wk.own.lt b (by simp[blks,hb])).2;have h9:z=b:=hab;omega)
     by_cases hi11:i9=11
     · subst hi11;obtain⟨x9,rfl⟩:=hR;exact h3.touch (Touch.set1 _ _ _ _) (fun b hb a ha hab=>by cases ha;have h8:=HD.out.wk.lt;simp at hb;have h9:z=b:=hab;omega)
     exact h3.below (by have h9:=hR;split at h9<;>first|exact(hi5 rfl).elim|exact(hi7 rfl).elim|exact(hi11 rfl).elim|exact h9)
   by_cases hj7:j9=7
   · subst hj7;obtain⟨A',c',h1,h2,h3⟩:=ht;refine⟨A',c',h1,?_,h3⟩
     by_cases hi5:i9=5
     · subst hi5;rw[hpre 5 kR]at hi;cases hi
     by_cases hi7:i9=7
     · subst hi7;rw[hj]at hi;cases hi
     by_cases hi11:i9=11
     · subst hi11;obtain⟨x9,rfl⟩:=hR;refine ownsRow_touch h2 (Touch.set1 _ _ _ _) (fun b hb hm=>?_)
       simp at hm
       subst hm
       rcases h3 _ (ownBlock_ownB hb) with h4|h4
       · exact HD.out.wk.np (by simp[blks,h4])
       have:=HD.out.wk.lt;omega
     exact ownsRow_touch h2 (Touch.of_below (by have h9:=hR;split at h9<;>first|exact(hi5 rfl).elim|exact(hi7 rfl).elim|exact(hi11 rfl).elim|exact h9)) sI
   by_cases hj11:j9=11
   · subst hj11;obtain⟨v9,h1,h2⟩:=ht
     by_cases hi5:i9=5
     · subst hi5;rw[hpre 5 kR]at hi;cases hi
     by_cases hi7:i9=7
     · subst hi7;rw[hpre 7 kR]at hi;cases hi
     by_cases hi11:i9=11
     · subst hi11;rw[hj]at hi;cases hi
     exact⟨v9,h1.below (by have h9:=hR;split at h9<;>first|exact(hi5 rfl).elim|exact(hi7 rfl).elim|exact(hi11 rfl).elim|exact h9),⟨h2.t.then_below (by have h9:=hR;split at h9<;>first|exact(hi5 rfl).elim|exact(hi7 rfl).elim|exact(hi11 rfl).elim|exact h9),h2.n⟩⟩
   exact(by have h9:=ht;clear ht;split at h9<;>first|exact h9|exact(hj6 rfl).elim|exact(hj7 rfl).elim|exact(hj11 rfl).elim)
  case hstep=>
   dsimp only[fil,fls,fl,List.toList_toArray,Nat.reduceAdd];refine⟨?_,?_,?_,?c3,?_,?c5,?c6,?c7,?_,?_,?_,?c11,trivial⟩
   all_goals intro l x u hG hno hli hpre hd K hK
   case c3=>
    have e2:x 95=pt p 3:=hd ⟨2, .data⟩ sI rfl;clear hd;simp only[e2]at hK ⊢
    have s3:u.cell? ⟨p,3,none⟩=some (.slice v.A4 v.n4 v.c4):=by
     by_cases h5:l 5=false
     · exact(HD.out.below (hG.1 h5)).wk.nine.2.2.2.1
     obtain⟨W5,v9,g1,g2,g3,g4,g5,g6,g7,g8⟩:=hG.2 (by simpa using h5) (hno 11 kR);have hk:=(g1.wk.blk.touch g6 (fun hm=>g1.wk.np (by rw[←g2]at hm;simp[blks,hm]))).nine3;rw[g2,g3,g4]at hk;exact hk
    go_simp
    exact hK _ _ rfl bR ⟨fun h=>hG.1 sH,fun h h2=>by obtain⟨W5,v9,g1,g2,g3,g4,g5,g6,g7,g8⟩:=hG.2 sH (by simpa using h2);exact⟨W5,v9,g1,g2,g3,g4,g5,g6,fun h3=>g7 (by simpa using h3),fun h3 A9 k9 c9 hA=>g8 (by simpa using h3) A9 k9 c9 (by simpa [updV] using hA)⟩⟩
   case c5=>
    have e4:x 97= .int .i64 ↑i:=hd ⟨4, .data⟩ sI rfl;clear hd;simp only[e4]at hK ⊢;have hBl:=hG.1 hli;have H69:=put69x (HD.out.below hBl) (Nat.le_trans HS.out.2.2.2 hBl.size) HLIM.out.1 HLIM.out.2.1 HLIM.out.2.2 HLIM.out.2.2 i 0 0 HXY.out.1 HXY.out.2;go_simp
    (with_reducible refine H69.mono ?_);rintro e u2 ⟨v9,rfl,hD9,hU9,hA4,hn4,hc4⟩
    exact hK _ _ rfl hU9.t ⟨fun h=>by simp at h,fun _ _=>⟨u2,v9,hD9,hA4,hn4,hc4,(DUpd.of_below hBl).trans hU9,Touch.refl _ _,fun _=>Below.refl _ _,fun h=>by simp[hno 7 kR]at h⟩⟩
   case c6=>
    have e5:x 98= .int .i64 (q.d.sp.length:Int):=hd ⟨5, .data⟩ sI rfl;clear hd;simp only[e5]at hK ⊢;obtain⟨W5,v9,g1,g2,g3,g4,g5,g6,g7,g8⟩:=hG.2 (hpre 5 kR) (hno 11 kR);have hzs:wr.heap.size≤u.heap.size:=Nat.le_trans g5.t.size g6.size;have h7:l 7=false:=hno 7 kR;go_simp
    exact hK _ _ ⟨u.heap.size,rfl,hzs,Rd.one (Blk.new _ _ _)⟩ (bR.alloc (Nat.le_refl _) _) ⟨fun h=>by simp[hpre 5 kR]at h,fun _ _=>⟨W5,v9,g1,g2,g3,g4,g5,g6.alloc _,fun _=>(g7 h7).alloc (g7 h7).size _,fun h=>by simp[h7]at h⟩⟩
   case c7=>
    have e3:x 96= .slice v.A4 v.n4 v.c4:=hd ⟨3, .data⟩ sI rfl;have e6:∃z,x 99= .slice (some ⟨z,0,none⟩) 1 1∧wr.heap.size≤z∧Rd 1 inC u (some ⟨z,0,none⟩) 1 [(q.d.sp.length:Int)]:=hd ⟨6, .data⟩ sI rfl;clear hd;simp only[e3]at hK ⊢;obtain⟨z,h99,hz,hR⟩:=e6;obtain⟨W5,v9,g1,g2,g3,g4,g5,g6,g7,g8⟩:=hG.2 (hpre 5 kR) (hno 11 kR);have hBl:=g7 hli;have hown:=((g1.below hBl).wk.own.outs);rw[g2,g3,g4]at hown;have hn4:v.n4≤1000:=HLIM4.out;generalize k99:x 99=z99 at h99 hK ⊢;subst h99;refine wp_append_rows (.tmp 96) (.tmp 99) 24 rfl 3 1 _ 8 inf3 Tryz.underlying24 rfl dE inC_len inC_one dE B _ _ _ rfl _ hown _ _ _ rfl (fun h=>nomatch h) [(q.d.sp.length:Int)] hR oM dE (Nat.le_trans HS.out.2.2.2 (Nat.le_trans g5.t.size hBl.size)) ?_
    intro v8 w8 hAp;obtain⟨A',c',rfl,hown2,htch,hnb⟩:=hAp
    exact hK _ _ ⟨A',c',rfl,hown2,fun b hb=>(hnb b hb).imp id (Nat.le_trans (Nat.le_trans g5.t.size hBl.size))⟩ htch ⟨fun h=>by simp[hpre 5 kR]at h,fun _ _=>⟨W5,v9,g1,g2,g3,g4,g5,g6.trans htch (fun x hx=> .inl hx),(fun h=>by simp at h),fun _ A2 k2 c2 hA=>by
      simp only[updV,if_true]at hA;injection hA with q1 q2 q3;subst q1
      exact fun b hb=>(hnb b hb).imp id (Nat.le_trans hBl.size)⟩⟩
   case c11=>
    have e10:x 103=pt p 3:=hd ⟨10, .data⟩ sI rfl;have e7:∃A' c',x 100= .slice A' (v.n4+1) c'∧u.ownsRow B 3 1 (.slice A' (v.n4+1) c') (v.n4+1) ((q.d.outs++[(q.d.sp.length:Int)]).flatMap inC)∧∀b∈ownB A',b∈ownB v.A4∨wr.heap.size≤b:=hd ⟨7, .data⟩ sI rfl;clear hd;simp only[e10]at hK ⊢;obtain⟨A',c',h100,hown,hnb⟩:=e7;obtain⟨W5,v9,g1,g2,g3,g4,g5,g6,g7,g8⟩:=hG.2 (hpre 5 kR) hli;have hg8:=g8 (hpre 7 kR) A' _ c' h100;generalize k100:x 100=z100 at h100 hK ⊢;subst h100;have hbk:=g1.wk.blk.touch g6 (fun hm=>g1.wk.np (by rw[←g2]at hm;simp[blks,hm]));have hcl:=hbk.cell 3 _ rfl;have hfr:=hbk.free 3;have hput:=g1.wk.putOuts g6 (fun b hb=> .inl (by rw[g2];exact hb)) hown (fun b hb=>by rw[g2];exact hg8 b hb);have HPT:=Lib.hid hput;clear hbk hput;go_simp
    exact hK undef _ ⟨_,g1.upd HPT.out.1 HPT.out.2,g5.trans (DUpd.of_upd HPT.out.2)⟩ ⟨_,rfl⟩ ⟨fun h=>by simp[hpre 5 kR]at h,fun _ h=>by simp at h⟩
   all_goals
    dsimp only at hd;simp only[eB]at hd
    try simp only[hd]at hK ⊢
    go_simp
    exact hK _ _ rfl bR ⟨fun h=>hG.1 sH,fun h h2=>by obtain⟨W5,v9,g1,g2,g3,g4,g5,g6,g7,g8⟩:=hG.2 sH (by simpa using h2);exact⟨W5,v9,g1,g2,g3,g4,g5,g6,fun h3=>g7 (by simpa using h3),fun h3 A9 k9 c9 hA=>g8 (by simpa using h3) A9 k9 c9 (by simpa [updV] using hA)⟩⟩
  dsimp only[fil,fls,fl,List.toList_toArray,Nat.reduceAdd];rintro l x u hall hG ⟨_,_,_,_,_,_,_,_,_,_,_,⟨v9,hD9,hU9⟩,_⟩;clear hall hG;have HD9:=Lib.hid hD9;have HU9:=Lib.hid hU9;have hl9:Below B W u:=HL.out.trans (HD.out.lows hU9 HS.out.2.2.2);have HL9:=Lib.hid hl9;have HB9:Aside (B≤u.heap.size):=Nat.le_trans HS.out.2.2.2 hU9.t.size
  have HE9:Aside (drawG m (xs.map (·.g))=resD (Drw.close (i+1) (m-(i+1)) ((q.put i 0 0).out q.d.sp.length)).d 0):=by
   show _=_
   rw[HE.out,show m-i=(m-(i+1))+1 by omega];rfl
  clear hD9 hU9 hl9;generalize x=xx9;go_wp2_with fail
  go_roundg (m-(i+1))
  case measure=>omega
  exact⟨i+1,v9,(q.put i 0 0).out q.d.sp.length,oM,Nat.le_refl _,nX,HD9.out,HL9.out,⟨by have:=HS.out;simp[Drw.out,Drw.put,Diag.put];omega,by have:=HS.out;simp[Drw.out,Drw.put,Diag.put];omega,by have:=HS.out;simp[Drw.out,Drw.put,Diag.put];omega,HB9.out⟩,HE9.out⟩
 have hltiz:¬(i:Int)<(m:Int):=oM
 have HR:=result70 HD.out.wk 0
 have HE4:Aside (drawG m (xs.map (·.g))=resD q.d 0):=by
  show _=_
  rw[HE.out,show m-i=0 by omega];rfl
 have HXr:=Lib.hid (HX2.out.below hL9);have HLw:Aside (Below w.heap.size w wr):=HBW.out.trans (hL9.mono HBW.out.size);have HKB:Aside (w.heap.size≤B):=by have h1:=HNB.out;have h2:=HBW.out.size;show _≤_;omega
 rw[←HE4.out]at HR;clear hL9 x0 x1 x2 xf
 go_wp2_with (go_at_call 70;(with_reducible refine HR.mono ?_);rintro e w6 ⟨v6,rfl,hO6,hb6⟩;clear HR;have HO6:=Lib.hid hO6.out;have HB6:=Lib.hid hb6;have hx6:=HXr.out.below hb6;obtain⟨z0,z1,z2,z3,z4,z5,z6,z7,z8,zf⟩:=hx6.nine;have HX6:=Lib.hid hx6;clear hO6 hb6 hx6)
 generalize drawG m (xs.map (·.g))=dr at *;obtain⟨dd,er⟩:=dr;dsimp only;have hq:=HX6.out.set9 (.slice v6.A1 v6.n1 v6.c1) (.slice v6.A2 v6.n2 v6.c2) (.slice v6.A3 v6.n3 v6.c3) (.slice v6.A4 v6.n4 v6.c4) dd.sc.a dd.sc.b dd.sc.c dd.sc.d dd.sc.k;have hT9:=touch_set9 w6 X2b (.slice v6.A1 v6.n1 v6.c1) (.slice v6.A2 v6.n2 v6.c2) (.slice v6.A3 v6.n3 v6.c3) (.slice v6.A4 v6.n4 v6.c4) dd.sc.a dd.sc.b dd.sc.c dd.sc.d dd.sc.k;have HQ:=Lib.hid hq;have HT9:=Lib.hid hT9;clear hq hT9;go_wp2_with fail
 have hq:=HQ.out;refine bodyPost_ret (v:= .tuple #[diaV v6 dd.sc,er]) (by simp[results,Tryz.results19,go_sem,hq.nine]) rfl ?_
 refine⟨v6,rfl,(HO6.out.touch HT9.out (fun b hb hm=>?_)).mono HKB.out,(HLw.out.trans (HB6.out.mono HLw.out.size)).trans (HT9.out.below (Nat.le_trans HLw.out.size HB6.out.size) (fun x hx=>by have:=HSZ.out;simp at hx;omega))⟩
 have h1:=(HO6.out.lt b hb).1;have h2:=HSZ.out;have h3:=HNB.out;simp at hm
 omega
end Go.Proofs.YtcoackmdmohnhaaGreatDoor
