/- Package zx: number. -/
import Derived.Test.YtcoackmdmohnhaaGreatDoorV8
import Derived.Test.YtcoackmdmohnhaaGreatDoorV13
set_option linter.unusedVariables false
set_option linter.unusedSimpArgs false
set_option maxRecDepth 100000
set_option maxHeartbeats 4000000
namespace Go.Proofs.YtcoackmdmohnhaaGreatDoor
open Go.RowKit Go.Shelf
variable {t:TypeId} {tl:List Value} {B:Nat} {p:Nat} {i:Nat} {k:Nat} {w:World} {v:DV} {d:Diag}
theorem u89:Tryz.prog.underlying 89=some (.array 8 3):=kR
theorem u135:Tryz.prog.underlying 135=some (.array 4 3):=kR
theorem eqz89 (s0 s1 s2 s3 s4 s5 s6 s7:Int) (w:World):(Op.equalIn 10000 89 (.agg #[s0,s1,s2,s3,s4,s5,s6,s7]) (.agg #[.int .i64 0, .int .i64 0, .int .i64 0, .int .i64 0, .int .i64 0, .int .i64 0, .int .i64 0, .int .i64 0])).run Tryz.prog w= .ok (s0==0&&s1==0&&s2==0&&s3==0&&s4==0&&s5==0&&s6==0&&s7==0) w:=by
 show (Op.equalIn (9999+1) 89 _ _).run Tryz.prog w=_
 unfold Op.equalIn;simp only[Sem.run_bind,run_underlying u89,Result.andThen_ok];simp[List.range',go_sem,Tryz.underlying3,Tryz.sizeOf3,part]
 by_cases h0:s0=0
 · by_cases h1 :s1=0
   · by_cases h2:s2=0
     · by_cases h3:s3=0
       · by_cases h4:s4=0
         · by_cases h5:s5=0
           · by_cases h6:s6=0
             · by_cases h7:s7=0
               · simp[h0,h1,h2,h3,h4,h5,h6,h7]
               simp[h0,h1,h2,h3,h4,h5,h6,h7]
             simp[h0,h1,h2,h3,h4,h5,h6]
           simp[h0,h1,h2,h3,h4,h5]
         simp[h0,h1,h2,h3,h4]
       simp[h0,h1,h2,h3]
     simp[h0,h1,h2]
   simp[h0,h1]
 simp[h0]
theorem eqz135 (s0 s1 s2 s3:Int) (w:World):(Op.equalIn 10000 135 (.agg #[s0,s1,s2,s3]) (.agg #[.int .i64 0, .int .i64 0, .int .i64 0, .int .i64 0])).run Tryz.prog w= .ok (s0==0&&s1==0&&s2==0&&s3==0) w:=by
 show (Op.equalIn (9999+1) 135 _ _).run Tryz.prog w=_
 unfold Op.equalIn;simp only[Sem.run_bind,run_underlying u135,Result.andThen_ok];simp[List.range',go_sem,Tryz.underlying3,Tryz.sizeOf3,part]
 by_cases h0:s0=0
 · by_cases h1:s1=0
   · by_cases h2:s2=0
     · by_cases h3:s3=0
       · simp[h0,h1,h2,h3]
       simp[h0,h1,h2,h3]
     simp[h0,h1,h2]
   simp[h0,h1]
 simp[h0]
theorem touch_set5 (w:World) (b:Nat) (u0 u1 u2 u3 u4:Value):Touch [b] w (((((w.setCell ⟨b,0,none⟩ u0).setCell ⟨b,1,none⟩ u1).setCell ⟨b,2,none⟩ u2).setCell ⟨b,3,none⟩ u3).setCell ⟨b,4,none⟩ u4):=
 ((((Touch.set1 _ _ _ _).trans (Touch.set1 _ _ _ _) (fun x hx=> .inl hx)).trans (Touch.set1 _ _ _ _) (fun x hx=> .inl hx)).trans (Touch.set1 _ _ _ _) (fun x hx=> .inl hx)).trans (Touch.set1 _ _ _ _) (fun x hx=> .inl hx)
def mac (a b:List Int) (i k:Nat) (o:List Int):List Int:=o.set ((i+k)%4) (o.getD ((i+k)%4) 0+(if 4≤i+k then -(a.getD i 0*b.getD k 0) else a.getD i 0*b.getD k 0))
def macI (a b:List Int) (i:Nat):Nat→List Int→List Int
 |0,o=>o
 |k+1,o=>mac a b i k (macI a b i k o)
def macA (a b:List Int):Nat→List Int→List Int
 |0,o=>o
 |i+1,o=>macI a b i 4 (macA a b i o)
theorem macA_eq (a0 a1 a2 a3 b0 b1 b2 b3:Int):macA [a0,a1,a2,a3] [b0,b1,b2,b3] 4 [0,0,0,0]=[a0*b0-a1*b3-a2*b2-a3*b1,a0*b1+a1*b0-a2*b3-a3*b2,a0*b2+a1*b1+a2*b0-a3*b3,a0*b3+a1*b2+a2*b1+a3*b0]:=by
 simp[macA,macI,mac]
 repeat' apply And.intro
 all_goals omega
theorem mac_len (a b:List Int) (i k:Nat) (o:List Int):(mac a b i k o).length=o.length:=by simp[mac]
def BdO (m:Int) (o:List Int):Prop:=o.length=4∧∀x∈o,-m≤x∧x≤m
theorem getD_mem {l:List Int} (h:i<l.length):l.getD i 0∈l:=List.mem_of_getElem? (getD_of h 0)
theorem mul_bd {x y:Int} (hx:-1073741824≤x∧x≤1073741824) (hy:-1024≤y∧y≤1024):-1099511627776≤x*y∧x*y≤1099511627776:=by
 have h:=mul_nat (x:=x) (y:=y) (m:=1073741824) (n:=1024) oM oM;omega
theorem BdO.mac {m:Int} {o a b:List Int} (h:BdO m o) (hi:i<4) (hk:k<4) (ha:a.length=4∧∀x∈a,-1073741824≤x∧x≤1073741824) (hb:b.length=4∧∀x∈b,-1024≤x∧x≤1024):BdO (m+1099511627776) (mac a b i k o):=by
 have h1:=mul_bd (ha.2 _ (getD_mem (l:=a) (i:=i) oM)) (hb.2 _ (getD_mem (l:=b) (i:=k) oM));have h2:=h.2 _ (getD_mem (l:=o) (i:=(i+k)%4) (by rw[h.1];omega));refine⟨by rw[mac_len];exact h.1,fun x hx=>?_⟩
 rcases List.mem_or_eq_of_mem_set hx with h3|h3
 · have:=h.2 x h3;omega
 rw[h3]
 split<;>omega
theorem tmod2s (a c:Int):(Int.tmod (a-c) 2==0)=decide (a%2=c%2):=by
 rw[Bool.eq_iff_iff];simp only[beq_iff_eq,decide_eq_true_eq]
 constructor
 · intro h;have:=Int.emod_eq_zero_of_dvd (Int.dvd_of_tmod_eq_zero h);omega
 intro h;exact Int.tmod_eq_zero_of_dvd (Int.dvd_of_emod_eq_zero oM)
theorem mac_put {av bv oo:List Int} {jj ob:Nat} {x:Int} {o0:List Int} (hoo:macI av bv i k o0=oo) (h:Blk w ob (oo.map int1) 135) (hm:mac av bv i k oo=oo.set jj x):Aside (Blk (w.setCell ⟨ob,jj,none⟩ x) ob ((macI av bv i (k+1) o0).map int1) 135):=by
 have h1:=h.set jj x;show Blk _ _ ((mac av bv i k (macI av bv i k o0)).map int1) _
 rw[hoo,hm,List.map_set];exact h1
theorem mac_bd {av bv oo:List Int} {o0:List Int} (hoo:macI av bv i k o0=oo) (h:BdO ((4*i+k:Nat)*1099511627776+1099511627776) (mac av bv i k oo)):Aside (BdO ((4*i+(k+1):Nat)*1099511627776) (macI av bv i (k+1) o0)):=by
 show BdO _ (mac av bv i k (macI av bv i k o0))
 rw[hoo];have e:((4*i+(k+1):Nat):Int)*1099511627776=((4*i+k:Nat):Int)*1099511627776+1099511627776:=oM
 rw[e];exact h
def Num.ofShares (x:Num) (s0 s1 s2 s3 s4 s5 s6 s7:Int) (roots:Int):Num × Int:=(x.mulX ⟨s0-s4,s1-s5,s2-s6,s3-s7,roots⟩).form.right
theorem xe47_0 {p:Prop} (h:p:=by
 have HX9:Aside (d.sc.ofShares s0 s1 s2 s3 s4 s5 s6 s7 rn=x.right):=by
  show _=_
  rw[HOS.out,Num.form_nz HZNZ.out,hE.out,HXE.out]
 have H91:=fun W'=>check91 x.a x.b x.c x.d x.k W';have hX2:=((HB2.out.below HBW6.out).touch hT.out (fun hm=>by have h1:=HSZ.out;have h2:=HSZ6.out;simp at hm;omega));have y_c:=hX2.five;have HX2:=Lib.hid hX2;clear hX2 y_c;have HLW:Aside (Below w.heap.size w wr):=HBW.out.trans ((HBW6.out.mono HBW.out.size).trans (hT.out.below (by have h1:=HBW.out.size;have h2:=HBW6.out.size;omega) (fun y hy=>by have h1:=HSZ.out;have h2:=HSZ6.out;simp at hy;omega)))
 by_cases hck:Num.check ⟨x.a,x.b,x.c,x.d,x.k⟩=0
 · rw[hck]at H91
   have HE9:Aside (d.sc.ofShares s0 s1 s2 s3 s4 s5 s6 s7 rn=(x,0)):=by
    show _=_
    rw[HX9.out];unfold Num.right;rw[if_pos hck]
   clear hck
   go_wp2_with (go_at_call 91;(with_reducible refine(H91 _).mono ?_);rintro e w5 ⟨rfl,hb5⟩;clear H91
                have hb6:Below wr.heap.size wr w5:=below_then (bR.alloc (Nat.le_refl _) _) hb5;have hX5:=HX2.out.below hb6;have hY5:Blk w5 wr.heap.size [x.a,x.b,x.c,x.d,x.k] 26:=(Blk.new wr _ _).below hb5;have y_c:=hX5.five;have z_c:=hY5.five;have HX5:=Lib.hid hX5;have HL5:Aside (Below w.heap.size w w5):=HLW.out.trans (hb6.mono HLW.out.size)
                clear hX5 hY5 hb5 hb6)
   have hq:=HX5.out.set5 x.a x.b x.c x.d x.k;refine bodyPost_ret (v:= .tuple #[.agg #[x.a,x.b,x.c,x.d,x.k], .int .i64 0]) (by simp[results,Tryz.results53,go_sem,hq.five]) rfl ?_
   rw[HE9.out];exact⟨rfl,HL5.out.trans ((touch_set5 _ _ _ _ _ _ _).below HL5.out.size (fun x hx=>by have:=HSZ.out;simp at hx;omega))⟩
 have HE9:Aside (d.sc.ofShares s0 s1 s2 s3 s4 s5 s6 s7 rn=(Num.nil,8)):=by
  show _=_
  rw[HX9.out];unfold Num.right;rw[if_neg hck]
 generalize Num.check ⟨x.a,x.b,x.c,x.d,x.k⟩=ck at *;have hck1:(ck != 0)=true:=by simpa using hck
 clear hck
 go_wp2_with (go_at_call 91;(with_reducible refine(H91 _).mono ?_);rintro e w5 ⟨rfl,hb5⟩;clear H91
              have hb6:Below wr.heap.size wr w5:=below_then (bR.alloc (Nat.le_refl _) _) hb5;have hX5:=HX2.out.below hb6;have y_c:=hX5.five;have HX5:=Lib.hid hX5;have HL5:Aside (Below w.heap.size w w5):=HLW.out.trans (hb6.mono HLW.out.size)
              clear hX5 hb5 hb6)
 have hq:=HX5.out.set5 (.int .i64 0) (.int .i64 0) (.int .i64 0) (.int .i64 0) (.int .i64 0);refine bodyPost_ret (v:= .tuple #[.agg #[.int .i64 0, .int .i64 0, .int .i64 0, .int .i64 0, .int .i64 0], .int .i64 8]) (by simp[results,Tryz.results53,go_sem,hq.five]) rfl ?_
 rw[HE9.out]
 exact⟨rfl,HL5.out.trans ((touch_set5 _ _ _ _ _ _ _).below HL5.out.size (fun x hx=>by have:=HSZ.out;simp at hx;omega))⟩):p:=h
theorem xe47_1 {p:Prop} (h:p:=by
 go_wp2_with fail
 go_roundg (4-(k+1))
 case measure=>omega
 exact⟨k+1,oM,Nat.le_refl _,nX,HTz.out.trans (Touch.set1 _ _ _ _) (fun x hx=> .inl hx),mac_put HOO.out HOz.out HM2.out,mac_bd HOO.out HBM.out⟩):p:=h
theorem number53 (hK:WK t tl B w p v d) (hc:d.sc.check=0) (s0 s1 s2 s3 s4 s5 s6 s7:Int) (hs:∀x∈[s0,s1,s2,s3,s4,s5,s6,s7],0≤x∧x≤1024) (rn:Nat) (hr:rn≤1000):
  Calls Tryz.prog 53 #[pt p 0, .agg #[s0,s1,s2,s3,s4,s5,s6,s7],rn] w fun e w'=>e= .returned (.tuple #[numV (d.sc.ofShares s0 s1 s2 s3 s4 s5 s6 s7 rn).1, .int .i64 (d.sc.ofShares s0 s1 s2 s3 s4 s5 s6 s7 rn).2])∧Below w.heap.size w w':=by
 obtain⟨W,hW⟩:∃W,W=((w.alloc (.cells #[s0,s1,s2,s3,s4,s5,s6,s7] 89)).alloc (.cells #[.int .i64 0, .int .i64 0, .int .i64 0, .int .i64 0, .int .i64 0] 26)):=⟨_,rfl⟩
 have hX1:Blk W w.heap.size [s0,s1,s2,s3,s4,s5,s6,s7] 89:=by
  rw[hW];have h9:=((Blk.new w #[s0,s1,s2,s3,s4,s5,s6,s7] 89).alloc (.cells #[.int .i64 0, .int .i64 0, .int .i64 0, .int .i64 0, .int .i64 0] 26));simpa using h9
 have hX2:Blk W (w.heap.size+1) [.int .i64 0, .int .i64 0, .int .i64 0, .int .i64 0, .int .i64 0] 26:=by
  rw[hW];have h9:=(Blk.new (w.alloc (.cells #[s0,s1,s2,s3,s4,s5,s6,s7] 89)) #[.int .i64 0, .int .i64 0, .int .i64 0, .int .i64 0, .int .i64 0] 26);simpa using h9
 have hBW:Below w.heap.size w W:=by rw[hW];exact(bR.alloc (by simp;try omega) _).alloc (by simp;try omega) _
 have hsz:W.heap.size=w.heap.size+2:=by rw[hW];simp
 generalize hX2b:w.heap.size+1=X2b at hX2;have HB1:=Lib.hid hX1;have HB2:=Lib.hid hX2;have HBW:=Lib.hid hBW;have HSZ:Aside (W.heap.size=w.heap.size+2∧X2b=w.heap.size+1):=⟨hsz,hX2b.symm⟩;have HK:=Lib.hid (hK.below hBW);have HW:=Lib.hid hW;have HC:=Lib.hid hc;have HS:Aside (∀x∈[s0,s1,s2,s3,s4,s5,s6,s7],0≤x∧x≤1024):=hs;obtain⟨e0,e1,e2,e3,e4,e5,e6,e7⟩:((0≤s0∧s0≤1024)∧(0≤s1∧s1≤1024)∧(0≤s2∧s2≤1024)∧(0≤s3∧s3≤1024)∧(0≤s4∧s4≤1024)∧(0≤s5∧s5≤1024)∧(0≤s6∧s6≤1024)∧0≤s7∧s7≤1024):=by simpa using hs
 have hz:=fun W=>eqz89 s0 s1 s2 s3 s4 s5 s6 s7 W;have hX1':=hX1;have x0:=hX1.cell 0 _ rfl;have x1:=hX1.cell 1 _ rfl;have x2:=hX1.cell 2 _ rfl;have x3:=hX1.cell 3 _ rfl;have x4:=hX1.cell 4 _ rfl;have x5:=hX1.cell 5 _ rfl;have x6:=hX1.cell 6 _ rfl;have x7:=hX1.cell 7 _ rfl;have y_c:=hX2.five;clear hK hc hs hX1 hX2 hX1' hBW hsz hW;go_enter Tryz.func53,Tryz.ntmps53
 go_upto_region 1 with fail
 try rw[hX2b]
 rw[←HW.out];clear hX2b
 go_upto_if 18 with fail
 cases hzb:(s0==0&&s1==0&&s2==0&&s3==0&&s4==0&&s5==0&&s6==0&&s7==0) with
 | true=>
  simp only[Bool.and_eq_true,beq_iff_eq,and_assoc]at hzb;obtain⟨rfl,rfl,rfl,rfl,rfl,rfl,rfl,rfl⟩:=hzb
  have HE:Aside (d.sc.ofShares 0 0 0 0 0 0 0 0 rn=(Num.nil,0)):=by
   show _=_
   unfold Num.ofShares;rw[Num.form_z ((Num.z_iff _).2 (by simp[Num.mulX]))];rfl
  go_wp2_with fail
  have hq:=HB2.out.set5 (.int .i64 0) (.int .i64 0) (.int .i64 0) (.int .i64 0) (.int .i64 0);refine bodyPost_ret (v:= .tuple #[.agg #[.int .i64 0, .int .i64 0, .int .i64 0, .int .i64 0, .int .i64 0], .int .i64 0]) (by simp[results,Tryz.results53,go_sem,hq.five]) rfl ?_
  rw[HE.out];exact⟨rfl,HBW.out.trans ((touch_set5 _ _ _ _ _ _ _).below HBW.out.size (fun x hx=>by have:=HSZ.out;simp at hx;omega))⟩
 | false =>
  have HZ:Aside ((s0==0&&s1==0&&s2==0&&s3==0&&s4==0&&s5==0&&s6==0&&s7==0)=false):=hzb;clear hz hzb x0 x1 x2 x3 x4 x5 x6 x7 y_c;have d_c:=HK.out.nine
  go_upto_region 6 with fail
  obtain⟨W6,hW6⟩:∃W6,W6=((W.alloc (.cells #[d.sc.a,d.sc.b,d.sc.c,d.sc.d,d.sc.k] 26)).alloc (.cells #[d.sc.a,d.sc.b,d.sc.c,d.sc.d] 135)).alloc (.cells #[.int .i64 0, .int .i64 0, .int .i64 0, .int .i64 0] 135):=⟨_,rfl⟩;have g1:Blk W6 W.heap.size [d.sc.a,d.sc.b,d.sc.c,d.sc.d,d.sc.k] 26:=by rw[hW6];exact((Blk.new W _ 26).alloc _).alloc _
  have g2:Blk W6 (W.heap.size+1) [d.sc.a,d.sc.b,d.sc.c,d.sc.d] 135:=by
   rw[hW6];have h9:=(Blk.new (W.alloc (.cells #[d.sc.a,d.sc.b,d.sc.c,d.sc.d,d.sc.k] 26)) #[d.sc.a,d.sc.b,d.sc.c,d.sc.d] 135).alloc (.cells #[.int .i64 0, .int .i64 0, .int .i64 0, .int .i64 0] 135);simpa using h9
  have g3:Blk W6 (W.heap.size+1+1) ([0,0,0,0].map int1) 135:=by
   rw[hW6];have h9:=Blk.new ((W.alloc (.cells #[d.sc.a,d.sc.b,d.sc.c,d.sc.d,d.sc.k] 26)).alloc (.cells #[d.sc.a,d.sc.b,d.sc.c,d.sc.d] 135)) #[.int .i64 0, .int .i64 0, .int .i64 0, .int .i64 0] 135;simpa using h9
  have hB6:Below W.heap.size W W6:=by rw[hW6];exact((bR.alloc (Nat.le_refl _) _).alloc sI _).alloc (by simp;omega) _
  have hs6:W6.heap.size=W.heap.size+3:=by rw[hW6];simp
  rw[←hW6];generalize hob:W.heap.size+1+1=ob at g3;generalize hab:W.heap.size+1=ab at g2 hob;generalize hcb:W.heap.size=cb at g1 hab hob
  try rw[hab]
  try rw[hob]
  try rw[hcb]
  have HSZ6:Aside (W6.heap.size=W.heap.size+3∧cb=W.heap.size∧ab=W.heap.size+1∧ob=W.heap.size+2):=⟨hs6,oM,oM,oM⟩;have hsc:=Num.bd HC.out;obtain⟨av,hav⟩:∃av:List Int,av=[d.sc.a,d.sc.b,d.sc.c,d.sc.d]:=⟨_,rfl⟩;obtain⟨sv,hsv⟩:∃sv:List Int,sv=[s0,s1,s2,s3,s4,s5,s6,s7]:=⟨_,rfl⟩;obtain⟨bv,hbv⟩:∃bv:List Int,bv=[s0-s4,s1-s5,s2-s6,s3-s7]:=⟨_,rfl⟩
  have HAV:Aside (av.length=4∧∀x∈av,-1073741824≤x∧x≤1073741824):=by
   obtain⟨⟨q1,q2,q3,q4⟩,_⟩:=hsc;show _∧_
   rw[hav];exact⟨rfl,by simp;omega⟩
  have HBV:Aside (bv.length=4∧∀x∈bv,-1024≤x∧x≤1024):=by
   show _∧_
   rw[hbv];exact⟨rfl,by simp;omega⟩
  have HSV:Aside (∀k:Nat,k<4→bv.getD k 0=sv.getD k 0-sv.getD (k+4) 0∧sv[k]?=some (sv.getD k 0)∧sv[k+4]?=some (sv.getD (k+4) 0)∧(0≤sv.getD k 0∧sv.getD k 0≤1024)∧0≤sv.getD (k+4) 0∧sv.getD (k+4) 0≤1024):=by
   intro k hk;rw[hbv,hsv]
   rcases k with _|_|_|_|k
   · exact⟨rfl,rfl,rfl,e0,e4⟩
   · exact⟨rfl,rfl,rfl,e1,e5⟩
   · exact⟨rfl,rfl,rfl,e2,e6⟩
   · exact⟨rfl,rfl,rfl,e3,e7⟩
   omega
  have HB1':Aside (Blk W w.heap.size (sv.map int1) 89):=by rw[hsv];exact HB1.out
  have HAVE:Aside (av=[d.sc.a,d.sc.b,d.sc.c,d.sc.d]):=hav;have HBVE:Aside (bv=[s0-s4,s1-s5,s2-s6,s3-s7]):=hbv
  have hidx:∀(i:Nat),i<4→∀W',(Instr.index 135 (.agg #[d.sc.a,d.sc.b,d.sc.c,d.sc.d]) i).run Tryz.prog W'= .ok (.int .i64 (av.getD i 0)) W':=by
   intro i hi W';refine idx_arr u135 sz3 ag3 _ _ _ oM oM ?_ W'
   rw[hav,Int.toNat_natCast]
   rcases i with _|_|_|_|i
   · rfl
   · rfl
   · rfl
   · rfl
   omega
  have HIDX:=Lib.hid hidx;have HG1:=Lib.hid g1;have HG3:=Lib.hid g3;have HBW6:=Lib.hid hB6;have j0:=g2.cell 0 _ rfl;have j1:=g2.cell 1 _ rfl;have j2:=g2.cell 2 _ rfl;have j3:=g2.cell 3 _ rfl;clear hW6 hs6 hob hab hcb hsc hav hsv hbv hidx g1 g2 g3 hB6 e0 e1 e2 e3 e4 e5 e6 e7 d_c;go_wp2_with fail
  clear j0 j1 j2 j3
  go_loopg [35] 4 (fun gg s35 wr=>∃i:Nat,i≤4∧4-i≤gg∧s35=i∧Aside (Touch [ob] W6 wr)∧Aside (Blk wr ob ((macA av bv i [0,0,0,0]).map int1) 135)∧Aside (BdO ((4*i:Nat)*1099511627776) (macA av bv i [0,0,0,0])))
  case atStart=>exact⟨0,oM,oM,rfl,Touch.refl _ _,HG3.out,rfl,by intro x hx;simp[macA]at hx;omega⟩
  obtain⟨i,hi,hg,rfl,hT,hO,hBd⟩:=hrel
  by_cases hlt:i<4
  · have hltz:(i:Int)<4:=oM
    have hix:=HIDX.out i hlt;obtain⟨ai,hai⟩:∃ai,ai=av.getD i 0:=⟨_,rfl⟩;rw[←hai]at hix;have HAI:=Lib.hid hai;clear hai;go_wp2_with fail
    clear hix
    go_loopg [39] 4 (fun gg s39 wr=>∃k:Nat,k≤4∧4-k≤gg∧s39=k∧Aside (Touch [ob] W6 wr)∧Aside (Blk wr ob ((macI av bv i k (macA av bv i [0,0,0,0])).map int1) 135)∧Aside (BdO ((4*i+k:Nat)*1099511627776) (macI av bv i k (macA av bv i [0,0,0,0]))))
    case atStart=>exact⟨0,oM,oM,rfl,hT.out,hO.out,hBd.out⟩
    obtain⟨k,hk,hg2,rfl,hT2,hO2,hBd2⟩:=hrel
    by_cases hlt2:k<4
    · have hltz2:(k:Int)<4:=oM
      obtain⟨q1,q2,q3,q4,q5⟩:=HSV.out k hlt2;have hB1r:=(HB1'.out.below HBW6.out).touch hT2.out (fun hm=>by have h1:=HSZ.out;have h2:=HSZ6.out;simp at hm;omega);have m1:=hB1r.cell k (.int .i64 (sv.getD k 0)) (by rw[List.getElem?_map,q2];rfl);have m2:=hB1r.cell (k+4) (.int .i64 (sv.getD (k+4) 0)) (by rw[List.getElem?_map,q3];rfl);have hpr:=mul_bd (HAV.out.2 _ (getD_mem (l:=av) (i:=i) (by have:=HAV.out.1;omega))) (HBV.out.2 _ (getD_mem (l:=bv) (i:=k) (by have:=HBV.out.1;omega)));obtain⟨jj,hjj⟩:∃jj,jj=(i+k)%4:=⟨_,rfl⟩;have hj4:jj<4:=oM
      have hrem:Int.tmod ((i:Int)+k) 4=(jj:Int):=by rw[Int.tmod_eq_emod_of_nonneg oM];omega
      generalize hoo:macI av bv i k (macA av bv i [0,0,0,0])=oo at *;have hol:jj<oo.length:=by have:=hBd2.out.1;omega
      have hoj:=getD_of hol 0;have hojr:=hBd2.out.2 _ (List.mem_of_getElem? hoj);have HBM:=Lib.hid (hBd2.out.mac hlt hlt2 HAV.out HBV.out)
      have HMAC:Aside (mac av bv i k oo=oo.set jj (oo.getD jj 0+(if 4≤i+k then -(ai*bv.getD k 0) else ai*bv.getD k 0))):=by
       show _=_
       rw[HAI.out,hjj];rfl
      rw[←HAI.out,q1]at hpr;have HQ1:=Lib.hid q1;generalize sv.getD k 0=sk at *;generalize sv.getD (k+4) 0=sk4 at *;generalize oo.getD jj 0=oj at *;have hoj':Aside (oo[jj]?=some oj):=hoj;obtain⟨pr,hprd⟩:∃pr,pr=ai*(sk-sk4):=⟨_,rfl⟩;rw[←hprd]at hpr;have hw1:IntKind.i64.wrap (sk-sk4)=sk-sk4:=IntWalk.i64_in _ oM;have hw2:IntKind.i64.wrap (ai*(sk-sk4))=pr:=by rw[←hprd];exact IntWalk.i64_in _ oM
      have HPR:Aside (ai*bv.getD k 0=pr):=by show _=_;rw[HQ1.out,hprd]
      have HOO:=Lib.hid hoo;have hkz4:(k:Int)+4<8:=oM
      clear q1 q2 q3 hB1r hjj hol hoj hprd hoo
      go_upto_region 12 with fail
      go_quiet (fail)
      obtain⟨wz,hwz⟩:∃wz,wz=wr.drewN nq:=⟨_,rfl⟩;rw[←hwz];have hbz:Below wr.heap.size wr wz:=by rw[hwz];exact below_dN bR _
      have hTz:=hT2.out.then_below hbz;have hOz:=hO2.out.below hbz;have n1:=hOz.cell jj oj (by rw[List.getElem?_map,hoj'.out];rfl);have nf:=hOz.free jj;have HTz:=Lib.hid hTz;have HOz:=Lib.hid hOz;clear hwz hbz hTz hOz m1 m2
      by_cases h4:4≤i+k
      · have h4z:(4:Int)≤(i:Int)+(k:Int):=oM
        have HM2:Aside (mac av bv i k oo=oo.set jj (oj-pr)):=by
         show _=_
         rw[HMAC.out,if_pos h4,HPR.out];rfl
        have hw3:IntKind.i64.wrap (-pr)=-pr:=IntWalk.i64_in _ oM;have hw4:IntKind.i64.wrap (oj+ -pr)=oj-pr:=by rw[show oj+ -pr=oj-pr by omega];exact IntWalk.i64_in _ oM
        exact xe47_1
      have h4z:¬(4:Int)≤(i:Int)+(k:Int):=oM
      have HM2:Aside (mac av bv i k oo=oo.set jj (oj+pr)):=by
       show _=_
       rw[HMAC.out,if_neg h4,HPR.out]
      have hw4:IntKind.i64.wrap (oj+pr)=oj+pr:=IntWalk.i64_in _ oM;exact xe47_1
    have hltz2:¬(k:Int)<4:=oM
    obtain rfl:4=k:=oM
    go_wp2_with fail
    go_roundg (4-(i+1))
    case measure=>omega
    exact⟨i+1,oM,Nat.le_refl _,nX,hT2.out,hO2.out,hBd2.out⟩
  have hltz:¬(i:Int)<4:=oM
  obtain rfl:4=i:=oM
  obtain⟨z,hz⟩:∃z,z=d.sc.mulX ⟨s0-s4,s1-s5,s2-s6,s3-s7,(rn:Int)⟩:=⟨_,rfl⟩
  have hma:macA av bv 4 [0,0,0,0]=[z.a,z.b,z.c,z.d]:=by
   rw[HAVE.out,HBVE.out,macA_eq,hz];rfl
  have HOS:Aside (d.sc.ofShares s0 s1 s2 s3 s4 s5 s6 s7 rn=z.form.right):=by
   show _=_
   rw[hz];rfl
  have hscb:=Num.bd HC.out;have hzk:z.k=d.sc.k+rn:=by rw[hz];rfl
  have HZK:Aside (z.k=d.sc.k+rn∧0≤d.sc.k∧d.sc.k≤60):=⟨hzk,hscb.2⟩;have hO4:=hO.out;rw[hma]at hO4;have hbd:=hBd.out;rw[hma]at hbd
  have HBZ:Aside (∀y:Int,y=z.a∨y=z.b∨y=z.c∨y=z.d→-20000000000000≤y∧y≤20000000000000):=by
   intro y hy;have:=hbd.2 y (by simpa using hy);omega
  have hcbk:=(HG1.out.touch hT.out (fun hm=>by have h2:=HSZ6.out;simp at hm;omega)).cell 4 _ rfl;obtain⟨o0,o1,o2,o3,of⟩:wr.cell? ⟨ob,0,none⟩=some (.int .i64 z.a)∧wr.cell? ⟨ob,1,none⟩=some (.int .i64 z.b)∧wr.cell? ⟨ob,2,none⟩=some (.int .i64 z.c)∧wr.cell? ⟨ob,3,none⟩=some (.int .i64 z.d)∧∀o,wr.frozen? ⟨ob,o,none⟩=false:=⟨hO4.cell 0 _ rfl,hO4.cell 1 _ rfl,hO4.cell 2 _ rfl,hO4.cell 3 _ rfl,hO4.free⟩;have hwk:IntKind.i64.wrap ((rn:Int)+d.sc.k)=z.k:=by rw[hzk,show (rn:Int)+d.sc.k=d.sc.k+rn by omega];exact IntWalk.i64_in _ oM
  have he135:=fun W'=>eqz135 z.a z.b z.c z.d W';have HO4:Aside (Blk wr ob [z.a,z.b,z.c,z.d] 135):=hO4;clear hz hma hscb hzk hO4 hbd hO hBd
  cases hzz:(z.a==0&&z.b==0&&z.c==0&&z.d==0) with
  | true=>
   have hzt:z.z=true:=by
    rw[Num.z_iff];simpa [and_assoc] using hzz
   rw[hzz]at he135
   have HE:Aside (d.sc.ofShares s0 s1 s2 s3 s4 s5 s6 s7 rn=(Num.nil,0)):=by
    show _=_
    rw[HOS.out,Num.form_z hzt];rfl
   have hX2:=((HB2.out.below HBW6.out).touch hT.out (fun hm=>by have h1:=HSZ.out;have h2:=HSZ6.out;simp at hm;omega));have y_c:=hX2.five;have HX2:=Lib.hid hX2;have HLW:Aside (Below w.heap.size w wr):=HBW.out.trans ((HBW6.out.mono HBW.out.size).trans (hT.out.below (by have h1:=HBW.out.size;have h2:=HBW6.out.size;omega) (fun y hy=>by have h1:=HSZ.out;have h2:=HSZ6.out;simp at hy;omega)));clear hzz hzt hX2;go_wp2_with fail
   have hq:=HX2.out.set5 (.int .i64 0) (.int .i64 0) (.int .i64 0) (.int .i64 0) (.int .i64 0);refine bodyPost_ret (v:= .tuple #[.agg #[.int .i64 0, .int .i64 0, .int .i64 0, .int .i64 0, .int .i64 0], .int .i64 0]) (by simp[results,Tryz.results53,go_sem,hq.five]) rfl ?_
   rw[HE.out];exact⟨rfl,HLW.out.trans ((touch_set5 _ _ _ _ _ _ _).below HLW.out.size (fun x hx=>by have:=HSZ.out;simp at hx;omega))⟩
  | false =>
   have HZNZ:Aside (z.z=false):=by
    show _=_
    rw[←hzz];simp only[Num.z,isZ];rfl
   rw[hzz]at he135;clear hzz;go_wp2_with fail
   clear o0 o1 o2 o3 of hcbk hwk he135
   go_loopg [2] z.k.toNat (fun gg s2 wr=>∃x:Num,x.k.toNat≤gg∧s2=x.k∧(0≤x.k∧x.k≤2000)∧Aside (Touch [ob] W6 wr)∧Aside (Blk wr ob [x.a,x.b,x.c,x.d] 135)∧Aside (∀y:Int,y=x.a∨y=x.b∨y=x.c∨y=x.d→-20000000000000≤y∧y≤20000000000000)∧Aside (Num.down z.k.toNat z=Num.down x.k.toNat x))
   case atStart=>exact⟨z,oM,rfl,by have:=HZK.out;omega,hT.out,HO4.out,HBZ.out,rfl⟩
   obtain⟨x,hg,rfl,hxk,hT,hO,hBd,hE⟩:=hrel;obtain⟨hk0,hk1⟩:=hxk;obtain⟨o0,o1,o2,o3,of⟩:wr.cell? ⟨ob,0,none⟩=some (.int .i64 x.a)∧wr.cell? ⟨ob,1,none⟩=some (.int .i64 x.b)∧wr.cell? ⟨ob,2,none⟩=some (.int .i64 x.c)∧wr.cell? ⟨ob,3,none⟩=some (.int .i64 x.d)∧∀o,wr.frozen? ⟨ob,o,none⟩=false:=⟨hO.out.cell 0 _ rfl,hO.out.cell 1 _ rfl,hO.out.cell 2 _ rfl,hO.out.cell 3 _ rfl,hO.out.free⟩;obtain⟨ba0,ba1⟩:=hBd.out x.a sI;obtain⟨bb0,bb1⟩:=hBd.out x.b sI;obtain⟨bc0,bc1⟩:=hBd.out x.c sI;obtain⟨bd0,bd1⟩:=hBd.out x.d sI
   by_cases hpos:0<x.k
   · have hp1:(Int.tmod (x.a-x.c) 2==0)=decide (x.a%2=x.c%2):=tmod2s x.a x.c;have hp2:(Int.tmod (x.b-x.d) 2==0)=decide (x.b%2=x.d%2):=tmod2s x.b x.d
     by_cases he1:x.a%2=x.c%2
     · rw [decide_eq_true he1]at hp1
       by_cases he2:x.b%2=x.d%2
       · rw[decide_eq_true he2]at hp2;have hev:x.ev=true:=(Num.ev_iff x).2 ⟨he1,he2⟩
         have HD9:Aside (Num.down z.k.toNat z=Num.down (x.k-1).toNat x.half):=by
          show _=_
          rw[hE.out,show x.k.toNat=(x.k-1).toNat+1 by omega];exact Num.down_ev hev
         have hq1:Int.tdiv (x.b-x.d) 2=x.b / 2-x.d / 2:=by rw[Int.tdiv_eq_ediv_of_dvd oM];omega
         have hq2:Int.tdiv (x.a+x.c) 2=x.a / 2+x.c / 2+x.a%2:=by rw[Int.tdiv_eq_ediv_of_dvd oM];omega
         have hq3:Int.tdiv (x.b+x.d) 2=x.b / 2+x.d / 2+x.b%2:=by rw[Int.tdiv_eq_ediv_of_dvd oM];omega
         have hq4:Int.tdiv (x.c-x.a) 2=x.c / 2-x.a / 2:=by rw[Int.tdiv_eq_ediv_of_dvd oM];omega
         obtain⟨h,hh⟩:∃h,h=x.half:=⟨_,rfl⟩;have hh1:x.b / 2-x.d / 2=h.a:=by rw[hh];rfl
         have hh2:x.a / 2+x.c / 2+x.a%2=h.b:=by rw[hh];rfl
         have hh3:x.b / 2+x.d / 2+x.b%2=h.c:=by rw[hh];rfl
         have hh4:x.c / 2-x.a / 2=h.d:=by rw[hh];rfl
         have hh5:x.k-1=h.k:=by rw[hh];rfl
         have HB9:Aside (∀y:Int,y=h.a∨y=h.b∨y=h.c∨y=h.d→-20000000000000≤y∧y≤20000000000000):=by
          intro y hy;omega
         have HK9:Aside (h.k.toNat<x.k.toNat∧0≤h.k∧h.k≤2000∧h.k=x.k-1):=⟨oM,oM,oM,oM⟩;rw[hh1]at hq1;rw[hh2]at hq2;rw[hh3]at hq3;rw[hh4]at hq4
         have HDD:Aside (Num.down z.k.toNat z=Num.down h.k.toNat h):=by
          show _=_
          rw[HD9.out,←hh5,hh]
         have ha9:=HB9.out h.a sI;have hb9:=HB9.out h.b sI;have hc9:=HB9.out h.c sI;have hd9:=HB9.out h.d sI;have w1:IntKind.i64.wrap h.a=h.a:=IntWalk.i64_in _ oM;have w2:IntKind.i64.wrap h.b=h.b:=IntWalk.i64_in _ oM;have w3:IntKind.i64.wrap h.c=h.c:=IntWalk.i64_in _ oM;have w4:IntKind.i64.wrap h.d=h.d:=IntWalk.i64_in _ oM;have hO9:=(((hO.out.set 0 h.a).set 1 h.b).set 2 h.c).set 3 h.d;have HO9:Aside (Blk ((((wr.setCell ⟨ob,0,none⟩ h.a).setCell ⟨ob,1,none⟩ h.b).setCell ⟨ob,2,none⟩ h.c).setCell ⟨ob,3,none⟩ h.d) ob [h.a,h.b,h.c,h.d] 135):=hO9
         have HT9:Aside (Touch [ob] W6 ((((wr.setCell ⟨ob,0,none⟩ h.a).setCell ⟨ob,1,none⟩ h.b).setCell ⟨ob,2,none⟩ h.c).setCell ⟨ob,3,none⟩ h.d)):=(((hT.out.trans (Touch.set1 _ _ _ _) (fun x hx=> .inl hx)).trans (Touch.set1 _ _ _ _) (fun x hx=> .inl hx)).trans (Touch.set1 _ _ _ _) (fun x hx=> .inl hx)).trans (Touch.set1 _ _ _ _) (fun x hx=> .inl hx);clear hh hh1 hh2 hh3 hh4 hh5 hev hO9 he1 he2 ha9 hb9 hc9 hd9;go_wp2_with fail
         go_roundg h.k.toNat
         case measure=>have:=HK9.out;omega
         exact⟨h,Nat.le_refl _,(by rw[HK9.out.2.2.2]),⟨HK9.out.2.1,HK9.out.2.2.1⟩,HT9.out,HO9.out,HB9.out,HDD.out⟩
       rw[decide_eq_false he2]at hp2;have HXE:Aside (Num.down x.k.toNat x=x):=Num.down_nev (Bool.eq_false_iff.2 fun h=>he2 ((Num.ev_iff x).1 h).2);clear he1 he2;exact xe47_0
     rw[decide_eq_false he1]at hp1;have HXE:Aside (Num.down x.k.toNat x=x):=Num.down_nev (Bool.eq_false_iff.2 fun h=>he1 ((Num.ev_iff x).1 h).1);clear he1 hp2;exact xe47_0
   have HXE:Aside (Num.down x.k.toNat x=x):=by
    have e:x.k.toNat=0:=oM
    show _=_
    rw[e];rfl
   exact xe47_0
end Go.Proofs.YtcoackmdmohnhaaGreatDoor
