/- Contracts of functions, and plain lemmas; each theorem's conditions stand in its statement. -/
import Derived.Test.YtcoackmdmohnhaaGreatDoorV13
set_option linter.unusedVariables false
set_option linter.unusedSimpArgs false
set_option maxRecDepth 100000
set_option maxHeartbeats 4000000
namespace Go.Proofs.YtcoackmdmohnhaaGreatDoor
section
open Go.RowKit Go.Shelf
theorem half_bd {a b c d:Int} (h:Bd 4611686018427387904 a b c d):Bd 4611686018427387904 (b / 2-d / 2) (a / 2+c / 2+a%2) (b / 2+d / 2+b%2) (c / 2-a / 2):=by
 unfold Bd at *;omega
theorem form58 (a b c d k:Int) (w:World) (hk:k≤1000) (hB:Bd 4611686018427387904 a b c d):
  Calls Tryz.prog 58 #[.agg #[a,b,c,d,k]] w (RetNum (fun a' b' c' d' k'=>Num.form ⟨a,b,c,d,k⟩=⟨a',b',c',d',k'⟩∧Bd 4611686018427387904 a' b' c' d'∧k'≤1000) w):=by
 have HBd:Aside (Bd 4611686018427387904 a b c d):=hB;clear hB;go_enter Tryz.func58,Tryz.ntmps58
 cases hz:isZ a b c d with
 | true=>
  have HZ:=zero104 a b c d k;rw[hz]at HZ;have Z:Aside (isZ a b c d=true):=hz;clear hz
  go_wp2_with (go_at_call 104;refine(HZ _).mono ?_;rintro e w' ⟨rfl,hb⟩;obtain⟨hc,hf⟩:=bcell hb;have hz:=hb.size)
  refine bodyPost_ret (v:= .agg #[.int .i64 0, .int .i64 0, .int .i64 0, .int .i64 0, .int .i64 0]) (by simp[results,Tryz.results58,go_sem,hc,hf]) rfl ⟨0,0,0,0,0,rfl,⟨?_,by unfold Bd;omega,oM⟩,?_⟩
  · have:=Z.out;simp[Num.form,this,Num.nil]
  exact below_set5 (below_then ((bR.alloc (Nat.le_refl _) _).alloc sI _) hb) sI _ _ _ _ _
 | false=>
  have HZ:=zero104 a b c d k;rw[hz]at HZ;have Z:Aside (isZ a b c d=false):=hz;clear hz
  go_wp2_with (go_at_call 104;refine(HZ _).mono ?_;rintro e w' ⟨rfl,hb⟩)
  have hB1:=((Blk.new w #[a,b,c,d,k] 26).alloc (.cells #[.int .i64 0, .int .i64 0, .int .i64 0, .int .i64 0, .int .i64 0] 26)).below hb
  have hB2:Blk w' (w.heap.size+1) [.int .i64 0, .int .i64 0, .int .i64 0, .int .i64 0, .int .i64 0] 26:=by
   have:=(Blk.new (w.alloc (.cells #[a,b,c,d,k] 26)) #[.int .i64 0, .int .i64 0, .int .i64 0, .int .i64 0, .int .i64 0] 26).below hb;simpa using this
  have hB3:Below w.heap.size w w':=below_then ((bR.alloc (Nat.le_refl _) _).alloc sI _) hb;clear hb
  go_loopg [12] k.toNat (fun gg _ wr=>∃a' b' c' d' k':Int,Blk wr w.heap.size [a',b',c',d',k'] 26∧Blk wr (w.heap.size+1) [.int .i64 0, .int .i64 0, .int .i64 0, .int .i64 0, .int .i64 0] 26∧Below w.heap.size w wr∧k'≤1000∧k'.toNat≤gg∧Aside (Bd 4611686018427387904 a' b' c' d')∧Aside (Num.down k.toNat ⟨a,b,c,d,k⟩=Num.down k'.toNat ⟨a',b',c',d',k'⟩))
  case atStart=>exact⟨a,b,c,d,k,hB1,hB2,hB3,hk,Nat.le_refl _,HBd,rfl⟩
  obtain⟨a',b',c',d',k',hB1,hB2,hB3,hk',hg,HBd',HD⟩:=hrel;obtain⟨c0,c1,c2,c3,c4,cf⟩:=hB1.five;obtain⟨d0,d1,d2,d3,d4,df⟩:=hB2.five;have l1:=hB1.lt;have l2:=hB2.lt
  by_cases hkp:0<k'
  · cases hev:evB a' b' c' d' with
    | true=>
     have HE:=even105 a' b' c' d' k';rw[hev]at HE;have EV:Aside (evB a' b' c' d'=true):=hev;clear hev;have ⟨q1,q2,q3,q4,q5,q6,q7,q8⟩:=HBd'.out;have HH:=fun W=>halved106 a' b' c' d' k' W q1 q2 q3 q4 q5 q6 q7 q8;clear q1 q2 q3 q4 q5 q6 q7 q8
     go_wp2_with (first|(go_at_call 105;refine(HE _).mono ?_;rintro e w2 ⟨rfl,hb⟩;have hB1:=hB1.below hb;have hB2:=hB2.below hb;have hB3:=below_then hB3 hb;obtain⟨c0,c1,c2,c3,c4,cf⟩:=hB1.five;obtain⟨d0,d1,d2,d3,d4,df⟩:=hB2.five;clear hb)|(go_at_call 106;refine(HH _).mono ?_;rintro e w2 ⟨rfl,hb⟩;have hB1:=hB1.below hb;have hB2:=hB2.below hb;have hB3:=below_then hB3 hb;obtain⟨c0,c1,c2,c3,c4,cf⟩:=hB1.five;obtain⟨d0,d1,d2,d3,d4,df⟩:=hB2.five;clear hb))
     go_roundg (k'-1).toNat
     case measure=>omega
     refine⟨b' / 2-d' / 2,a' / 2+c' / 2+a'%2,b' / 2+d' / 2+b'%2,c' / 2-a' / 2,k'-1,?_,?_,?_,oM,Nat.le_refl _,half_bd HBd'.out,?_⟩
     · exact(hB1.set5 _ _ _ _ _).set 4 _
     · exact(hB2.set5_other oM _ _ _ _ _).set_other _ _ sI
     · exact(below_set5 hB3 (Nat.le_refl _) _ _ _ _ _).setCell (p:=⟨_,4,none⟩) (Nat.le_refl _) _
     have e1:k'.toNat=(k'-1).toNat+1:=oM
     exact HD.out.trans (by rw[e1,Num.down_step EV.out];rfl)
    | false=>
     have HE:=even105 a' b' c' d' k';rw[hev]at HE;have EV:Aside (evB a' b' c' d'=false):=hev;clear hev
     go_wp2_with (go_at_call 105;refine(HE _).mono ?_;rintro e w2 ⟨rfl,hb⟩;have hB1:=hB1.below hb;have hB2:=hB2.below hb;have hB3:=below_then hB3 hb;obtain⟨c0,c1,c2,c3,c4,cf⟩:=hB1.five;obtain⟨d0,d1,d2,d3,d4,df⟩:=hB2.five;clear hb)
     refine bodyPost_ret (v:= .agg #[a',b',c',d',k']) (by simp[results,Tryz.results58,go_sem,d0,d1,d2,d3,d4]) rfl ⟨a',b',c',d',k',rfl,⟨?_,HBd'.out,hk'⟩,below_set5 hB3 oM _ _ _ _ _⟩
     rw[Num.form,if_neg (by rw[show isZ (Num.mk a b c d k).a (Num.mk a b c d k).b (Num.mk a b c d k).c (Num.mk a b c d k).d=false from Z.out];simp),HD.out];exact Num.down_not EV.out
  go_wp2_with fail
  refine bodyPost_ret (v:= .agg #[a',b',c',d',k']) (by simp[results,Tryz.results58,go_sem,d0,d1,d2,d3,d4]) rfl ⟨a',b',c',d',k',rfl,⟨?_,HBd'.out,hk'⟩,below_set5 hB3 oM _ _ _ _ _⟩
  rw[Num.form,if_neg (by rw[show isZ (Num.mk a b c d k).a (Num.mk a b c d k).b (Num.mk a b c d k).c (Num.mk a b c d k).d=false from Z.out];simp),HD.out];rw[show k'.toNat=0 by omega];rfl
end
section
open Go.RowKit Go.Shelf
theorem scaledR_le (x:Num) (m:Nat):x.scaledR (-(m:Int))=(Num.powX m Num.rhalf x.form).right:=by
 unfold Num.scaledR
 cases m with
 |zero=>rfl
 | succ m=>
  rw[if_pos oM,show (-((m+1:Nat):Int)).natAbs=m+1 by omega]
theorem Num.form_k {x:Num} (h0:0≤x.k) {B:Int} (h1:x.k≤B):x.form.k≤B:=by
 unfold Num.form
 split
 · show (0:Int)≤_
   omega
 have:=Num.down_k x.k.toNat x;omega
theorem rhalf_k {x:Num} (h:x.low):(x.mulX Num.rhalf).form.k≤x.k+1:=by
 have h0:=h.1;rw[Num.rhalf_step h]
 split
 · show (0:Int)≤_
   omega
 split<;>dsimp only<;>omega
theorem scaled74 (x:Num) (m:Nat) (w:World) (hx0:0≤x.k) (hx1:x.k≤60) (hb:Bd 4611686018427387904 x.a x.b x.c x.d) (hm:m≤100):
  Calls Tryz.prog 74 #[numV x, .int .i64 (-(m:Int))] w fun e w'=>e= .returned (.tuple #[numV (x.scaledR (-(m:Int))).1, .int .i64 (x.scaledR (-(m:Int))).2])∧Below w.heap.size w w':=by
 obtain⟨W,hW⟩:∃W,W=((w.alloc (.cells #[x.a,x.b,x.c,x.d,x.k] 26)).alloc (.cells #[.int .i64 0, .int .i64 0, .int .i64 0, .int .i64 0, .int .i64 0] 26)):=⟨_,rfl⟩
 have hX1:Blk W w.heap.size [x.a,x.b,x.c,x.d,x.k] 26:=by
  rw[hW];have h9:=((Blk.new w #[x.a,x.b,x.c,x.d,x.k] 26).alloc (.cells #[.int .i64 0, .int .i64 0, .int .i64 0, .int .i64 0, .int .i64 0] 26));simpa using h9
 have hX2:Blk W (w.heap.size+1) [.int .i64 0, .int .i64 0, .int .i64 0, .int .i64 0, .int .i64 0] 26:=by
  rw[hW];have h9:=(Blk.new (w.alloc (.cells #[x.a,x.b,x.c,x.d,x.k] 26)) #[.int .i64 0, .int .i64 0, .int .i64 0, .int .i64 0, .int .i64 0] 26);simpa using h9
 have hBW:Below w.heap.size w W:=by rw[hW];exact(bR.alloc (by simp;try omega) _).alloc (by simp;try omega) _
 generalize hX2b:w.heap.size+1=X2b at hX2;have HF:=Num.low_form x hx0;have HFk:x.form.k≤60:=Num.form_k hx0 hx1;obtain⟨M,hM⟩:∃M,M=x.scaledR (-(m:Int)):=⟨_,rfl⟩;rw[←hM];rw[scaledR_le]at hM;obtain⟨a,b,c,d,k⟩:=x;have H58:=fun W=>form58 a b c d k W (by simp only at hx1;omega) hb;have HB1:=Lib.hid hX1;have HB2:=Lib.hid hX2;have HBW:=Lib.hid hBW;have HSZ:Aside (X2b=w.heap.size+1):=hX2b.symm;have HLF:Aside ((Num.form ⟨a,b,c,d,k⟩).low∧(Num.form ⟨a,b,c,d,k⟩).k≤60):=⟨HF,HFk⟩;have HM:=Lib.hid hM;have HW:=Lib.hid hW;obtain⟨a0,a1,a2,a3,a4,af⟩:=hX1.five;clear hW hX1 hX2 hBW hM HF HFk hx0 hx1 hb;go_enter Tryz.func74,Tryz.ntmps74
 go_upto_region 1 with fail
 try rw[hX2b]
 rw[←HW.out];clear hX2b
 go_wp2_with (go_at_call 58;(with_reducible refine(H58 _).mono ?_);rintro e w1 ⟨a',b',c',d',k',rfl,hP,hb1⟩;clear H58
              have HP1:=Lib.hid hP.out;have z_c:=(HB1.out.below hb1).five;have HK1:=Lib.hid (HB1.out.below hb1);have HK2:=Lib.hid (HB2.out.below hb1);have HL1:=Lib.hid (HBW.out.trans (hb1.mono HBW.out.size))
              clear hb1 hP a0 a1 a2 a3 a4 af)
 have HN1:Aside (∃y:Num,y=⟨a',b',c',d',k'⟩∧y.low∧y.k≤60∧Bd 4611686018427387904 a' b' c' d'∧M=(Num.powX m Num.rhalf y).right):=by
  have h1:=HP1.out;have h2:=HLF.out;have h3:=HM.out;rw[h1.1]at h2 h3;exact⟨_,rfl,h2.1,h2.2,h1.2.1,h3⟩
 have hset:=HK1.out.set5 a' b' c' d' k';have hset2:=HK2.out.set5_other (b:=w.heap.size) (by have:=HSZ.out;omega) a' b' c' d' k';have hlow:=below_set5 HL1.out (Nat.le_refl _) a' b' c' d' k';have HS1:=Lib.hid hset;have HS2:=Lib.hid hset2;have HLO:=Lib.hid hlow;clear hset hset2 hlow z_c
 go_loopg [1] m (fun gg s1 wr=>∃(i:Nat) (y:Num),i≤m∧i≤gg∧s1= .int .i64 (-(i:Int))∧Aside (Blk wr w.heap.size [y.a,y.b,y.c,y.d,y.k] 26)∧Aside (Blk wr X2b [.int .i64 0, .int .i64 0, .int .i64 0, .int .i64 0, .int .i64 0] 26)∧Aside (Below w.heap.size w wr)∧Aside (y.low∧y.k≤60+((m-i:Nat):Int)∧Bd 4611686018427387904 y.a y.b y.c y.d∧M=(Num.powX i Num.rhalf y).right))
 case atStart=>
  obtain⟨y,rfl,h1,h2,h3,h4⟩:=HN1.out;exact⟨m,⟨a',b',c',d',k'⟩,Nat.le_refl _,Nat.le_refl _,rfl,HS1.out,HS2.out,HLO.out,h1,by dsimp only at h2 ⊢;omega,h3,h4⟩
 obtain⟨i,y,hi,hg,rfl,hB1,hB2,hL,hY⟩:=hrel;have b_c:=hB1.out.five;have z_c:=hB2.out.five;have hy0:0≤y.k:=hY.out.1.1;have hy1:y.k≤200:=by have:=hY.out.2.1;omega
 by_cases h0:0<i
 · have hlz : -(i:Int)<0:=oM
   have H58:=fun W=>form58 y.a y.b y.c y.d (y.k+1) W oM hY.out.2.2.1;have hk9:IntKind.i64.wrap (y.k+1)=y.k+1:=IntWalk.i64_in _ oM;have hwi:IntKind.i64.wrap (-(i:Int)+1)=-((i-1:Nat):Int):=by rw[IntWalk.i64_in _ oM];omega
   have hiz:(i:Int)≤100:=oM
   have hx9:=hB1.out.set 4 (.int .i64 (y.k+1));have hz9:=hB2.out.set_other ⟨w.heap.size,4,none⟩ (.int .i64 (y.k+1)) (by have:=HSZ.out;show w.heap.size≠X2b;omega);have hl9:Below w.heap.size w (wr.setCell ⟨w.heap.size,4,none⟩ (.int .i64 (y.k+1))):=hL.out.setCell (Nat.le_refl _) _;simp only[List.set_cons_succ,List.set_cons_zero]at hx9;have HX9:=Lib.hid hx9;have HZ9:=Lib.hid hz9;have HL9:=Lib.hid hl9;clear hx9 hz9 hl9
   go_wp2_with (go_at_call 58;(with_reducible refine(H58 _).mono ?_);rintro e w2 ⟨a2,c2,d2,e2,k2,rfl,hP2,hb2⟩;clear H58
                have HP2:=Lib.hid hP2.out;have y_c:=(HX9.out.below hb2).five;have HX2:=Lib.hid (HX9.out.below hb2);have HZ2:=Lib.hid (HZ9.out.below hb2);have HL2:=Lib.hid (HL9.out.trans (hb2.mono HL9.out.size))
                clear hb2 hP2 z_c b_c)
   go_roundg (i-1)
   case measure=>omega
   have h1:=HP2.out;have h2:=hY.out;have e:(y.mulX Num.rhalf).form=⟨a2,c2,d2,e2,k2⟩:=by rw[Num.mulX_rhalf];exact h1.1
   have h3:=rhalf_k h2.1;have h4:(y.mulX Num.rhalf).form.low:=Num.low_form _ (by rw[Num.mulX_rhalf];show 0≤y.k+1;omega)
   have h5:Num.powX i Num.rhalf y=Num.powX (i-1) Num.rhalf (y.mulX Num.rhalf).form:=by
    obtain⟨j,rfl⟩:∃j,i=j+1:=⟨i-1,oM⟩;rfl
   rw[e]at h3 h4 h5;refine⟨i-1,⟨a2,c2,d2,e2,k2⟩,oM,oM,(by first|rfl|(go_simp;omega)),HX2.out.set5 _ _ _ _ _,HZ2.out.set5_other (b:=w.heap.size) (by have:=HSZ.out;omega) _ _ _ _ _,below_set5 HL2.out (Nat.le_refl _) _ _ _ _ _,h4,?_,h1.2.1,?_⟩
   · dsimp only at h3 ⊢;omega
   rw[←h5];exact h2.2.2.2
 have hi0:i=0:=oM
 subst hi0;have hlz:¬-((0:Nat):Int)<0:=by decide
 have HE:Aside (M=y.right):=hY.out.2.2.2;have hx9:=hB1.out.alloc (.cells #[.int .i64 0, .int .i64 1, .int .i64 0, .int .i64 (-1), .int .i64 0] 26);have hz9:=hB2.out.alloc (.cells #[.int .i64 0, .int .i64 1, .int .i64 0, .int .i64 (-1), .int .i64 0] 26);have hl9:Below w.heap.size w (wr.alloc (.cells #[.int .i64 0, .int .i64 1, .int .i64 0, .int .i64 (-1), .int .i64 0] 26)):=hL.out.alloc hL.out.size _;go_wp2_with fail
 clear z_c b_c;generalize wr.alloc (.cells #[.int .i64 0, .int .i64 1, .int .i64 0, .int .i64 (-1), .int .i64 0] 26)=WA at *;have HZ9:=Lib.hid hz9;have HL9:=Lib.hid hl9;have b_c:=hx9.five;clear hx9 hz9 hl9
 by_cases hc:Num.check ⟨y.a,y.b,y.c,y.d,y.k⟩=0
 · have HE2:Aside (M=(y,0)):=by
    show _=_
    rw[HE.out,Num.right];exact if_pos hc
   have H56:=fun W=>right56 y.a y.b y.c y.d y.k W;simp only[if_pos hc]at H56;clear hc HE;refine wp_loop_rounds 1 ?_
   rw[rounds_succ]
   go_wp2_with (go_at_call 56;(with_reducible refine(H56 _).mono ?_);rintro e w2 ⟨rfl,hb2⟩;clear H56
                have z_c:=(HZ9.out.below hb2).five;have HZ2:=Lib.hid (HZ9.out.below hb2);have HL2:=Lib.hid (HL9.out.trans (hb2.mono HL9.out.size))
                clear hb2)
   have hq:=HZ2.out.set5 y.a y.b y.c y.d y.k;refine bodyPost_ret (v:= .tuple #[numV y, .int .i64 0]) (by simp[results,Tryz.results74,go_sem,hq.five]) rfl ⟨?_,below_set5 HL2.out (by have:=HSZ.out;omega) _ _ _ _ _⟩
   rw[HE2.out]
 have HE2:Aside (M=(Num.nil,8)):=by
  show _=_
  rw[HE.out,Num.right];exact if_neg hc
 have H56:=fun W=>right56 y.a y.b y.c y.d y.k W;simp only[if_neg hc]at H56;clear hc HE;refine wp_loop_rounds 1 ?_
 rw[rounds_succ]
 go_wp2_with (go_at_call 56;(with_reducible refine(H56 _).mono ?_);rintro e w2 ⟨rfl,hb2⟩;clear H56
              have z_c:=(HZ9.out.below hb2).five;have HZ2:=Lib.hid (HZ9.out.below hb2);have HL2:=Lib.hid (HL9.out.trans (hb2.mono HL9.out.size))
              clear hb2)
 have hq:=HZ2.out.set5 (.int .i64 0) (.int .i64 0) (.int .i64 0) (.int .i64 0) (.int .i64 0);refine bodyPost_ret (v:= .tuple #[numV Num.nil, .int .i64 8]) (by simp[results,Tryz.results74,go_sem,Num.nil,hq.five]) rfl ⟨?_,below_set5 HL2.out (by have:=HSZ.out;omega) _ _ _ _ _⟩
 rw[HE2.out]
end
section
open Go.RowKit Go.Shelf
variable {α:Type} {enc:α→List Value} {t:TypeId} {B:Nat} {b:Nat} {k:Nat} {n:Nat} {c:Nat} {e:TypeId} {A:Option Addr} {S:List Nat} {cs:List Value} {w:World} {w':World} {v:DV} {d:Diag}
def Apd0 {α:Type} (B:Nat) (e:TypeId) (k:Nat) (enc:α→List Value) (g:Nat) (w:World) (m:Nat) (ys:List α) (v':Value) (w':World):Prop:=
 ∃A' c',v'= .slice A' m c'∧w'.ownsRow B e k (.slice A' m c') m (ys.flatMap enc)∧Below w.heap.size w w'∧∀b∈ownB A',b=g∨w.heap.size≤b
theorem run_append_zero (w:World) (t ty e:TypeId) (i:TypeInfo) (z:Value) (bytes:Nat) (ht:Tryz.prog.underlying t=some (.slice e)) (hi:Tryz.prog.info? e=some i) (hz:i.zero=some z) (hsize:i.size=k) (hby:i.bytes=bytes) (hzs:z.cells.size=k) (hk:0<k)
  (he:∀x,(enc x).length=k) (h1:∀xs:List α,∀u∈xs.flatMap enc,u.oneCell'=true)
  (B g:Nat) (hg:Blk w g [] e) (hBg:B≤g) (A':Option Addr) (m c':Nat) (hc0:A'=none→c'=0) (ys:List α) (hR:Rd k enc w A' m ys)
  (hm:m≤1000000) (hb:bytes≤1000) (hB:B≤w.heap.size):
  ∃v' w',(Builtin.append_ #[t,t] ty #[.slice (some ⟨g,0,none⟩) 0 0, .slice A' m c']).run Tryz.prog w= .ok v' w'∧Apd0 B e k enc g w m ys v' w':=by
 have ho:w.ownsRow B e k (.slice (some ⟨g,0,none⟩) 0 0) 0 ([]:List Value):=ownsRow_blk (n:=0) hg hBg (by unfold maxLen;omega) sI;have hl:(ys.flatMap enc).length=m*k:=by rw[flat_len he,hR.1]
 subst hsize
 subst hby
 cases A' with
 | none=>
  have:c'=0:=hc0 rfl;subst this
  have:m=0:=by
   rcases Nat.eq_zero_or_pos m with h|h
   · exact h
   obtain⟨b,o,e,_⟩:=hR.2.2 h;cases e
  subst this;have:ys=[]:=List.eq_nil_of_length_eq_zero hR.1;subst this;exact⟨_,_,run_append_owned_none (P:=Tryz.prog) w B t ty e i i.size ht hi _ 0 _ ho,some ⟨g,0,none⟩,0,rfl,by simpa using ho,Below.refl _ _,fun b hb=> .inl (by simpa [ownB] using hb)⟩
 | some a=>
  have hnews:=Rd.flatA hk he hR
  by_cases hm0:m=0
  · subst hm0;have:ys=[]:=List.eq_nil_of_length_eq_zero hR.1;subst this;obtain⟨w2,hr2,h22,h23⟩:=run_append_fits (P:=Tryz.prog) w B t ty e i i.size ht hi rfl g 0 0 _ ho a 0 c' [] sI sI sI (Nat.le_refl _);refine⟨_,_,hr2,some ⟨g,0,none⟩,0,rfl,by simpa using h22,?_,fun b hb=> .inl (by simpa [ownB] using hb)⟩
    obtain⟨q1,q2,q3,q4,q5⟩:=h23;refine⟨q1,q2,q3,q4,fun b hlt=>?_⟩
    by_cases hbg:b=g
    · subst hbg
      rcases h22.2 with⟨hv,_⟩|⟨g',cap,cur,hv,_,hg2,_,_,hcs,_⟩
      · cases hv
      cases hv
      have:cur=#[]:=by
       have h9:cur.size=0:=by simpa using hcs
       exact Array.eq_empty_of_size_eq_zero h9
      subst this;exact hg2.trans hg.symm
    exact q5 b hlt (fun h=>hbg (by cases h;rfl))
  have hr:=run_append_grow (P:=Tryz.prog) w t ty e i z ht hi hz ⟨g,0,none⟩ 0 0 ([]:List Value) sI sI a m c' (ys.flatMap enc) hl hnews oM oM (growslice_fits oM (by
    have:(0+m)*i.bytes≤1000000*1000:=Nat.mul_le_mul oM hb
    omega))
  have hge:=grownCap_ge w (0+m) 0 e;have hcm2:=grownCap_le_maxLen w (0+m) 0 e (by unfold maxLen;omega);rw[Nat.zero_add]at hr hge hcm2;generalize grownCap w m 0 e=G at hge hcm2 hr
  obtain⟨A2,c2,e2,h2,h3,h4⟩:=appd_new (enc:=enc) (A:=none) (n:=m) (c:=G) (xs:=ys) (e:=e) (C:=(([]:List Value).toArray++(ys.flatMap enc).toArray++Builtin.zeroCells z.cells (G-m))) he hB hR.1 hge hcm2 (by
    simp only[Array.size_append,List.size_toArray,size_zeroCells,hzs,hl,List.length_nil,Nat.zero_add,←Nat.add_mul]
    rw[show m+(G-m)=G by omega]) (by
    simp only[Array.toList_append,List.nil_append];rw[←hl]
    exact List.take_left)
  refine⟨_,_,hr,A2,c2,e2,h2,h3.below (Nat.le_refl _) (by simp[ownB]),fun b hb=>?_⟩
  rcases h4 b hb with h5|h5
  · simp[ownB]at h5
  exact .inr h5
theorem wp_append_zero {o:Oper} {a:Act} {K:Act→World→Prop} {Q:Exit→Act→World→Prop} (s x:Operand) (t:TypeId)
  (hop:o.op= .call {callee:= .builtin .append,args:=#[s,x],argTypes:=#[t,t]}) (e:TypeId) (k:Nat) (z:Value) (bytes:Nat) (hinf:(Tryz.prog.info? e).map (fun i=>(i.zero,i.size,i.bytes))=some (some z,k,bytes)) (ht:Tryz.prog.underlying t=some (.slice e)) (hzs:z.cells.size=k) (hk:0<k)
  (he:∀x,(enc x).length=k) (h1:∀xs:List α,∀u∈xs.flatMap enc,u.oneCell'=true) (hb:bytes≤1000)
  (B g:Nat) (hs:a.eval s= .slice (some ⟨g,0,none⟩) 0 0) (hg:Blk w g [] e) (hBg:B≤g) (A':Option Addr) (m c':Nat) (hx:a.eval x= .slice A' m c') (hc0:A'=none→c'=0) (ys:List α) (hR:Rd k enc w A' m ys)
  (hm:m≤1000000) (hB:B≤w.heap.size)
  (hK:∀v' w',Apd0 B e k enc g w m ys v' w'→K (a.put o.dst v') w'):o.wp Tryz.prog a w K Q:=by
 obtain⟨i0,hi,hz0,hz1,hz2⟩:=info_parts hinf;obtain⟨v',w',hrun,h2⟩:=run_append_zero w t o.type e i0 z bytes ht hi hz0 hz1 hz2 hzs hk he h1 B g hg hBg A' m c' hc0 ys hR hm hb hB;unfold Oper.wp;simp[execOp,hop,resolve,invoke,builtin,hs,hx,hrun,Result.andThen]
 exact hK _ _ h2
theorem touch_n9 (w:World) (b:Nat) (u0 u1 u2 u3 u4 u5 u6 u7 u8:Value):Touch [b] w (((((((((w.setCell ⟨b,0,none⟩ u0).setCell ⟨b,1,none⟩ u1).setCell ⟨b,2,none⟩ u2).setCell ⟨b,3,none⟩ u3).setCell ⟨b,4,none⟩ u4).setCell ⟨b,5,none⟩ u5).setCell ⟨b,6,none⟩ u6).setCell ⟨b,7,none⟩ u7).setCell ⟨b,8,none⟩ u8):=
 (((((((((Touch.refl [b] w).setCell _ sI u0).setCell _ sI u1).setCell _ sI u2).setCell _ sI u3).setCell _ sI u4).setCell _ sI u5).setCell _ sI u6).setCell _ sI u7).setCell _ sI u8
theorem Blk.n9 {z0 z1 z2 z3 z4 z5 z6 z7 z8:Value} (h:Blk w b [z0,z1,z2,z3,z4,z5,z6,z7,z8] t) (u0 u1 u2 u3 u4 u5 u6 u7 u8:Value):Blk (((((((((w.setCell ⟨b,0,none⟩ u0).setCell ⟨b,1,none⟩ u1).setCell ⟨b,2,none⟩ u2).setCell ⟨b,3,none⟩ u3).setCell ⟨b,4,none⟩ u4).setCell ⟨b,5,none⟩ u5).setCell ⟨b,6,none⟩ u6).setCell ⟨b,7,none⟩ u7).setCell ⟨b,8,none⟩ u8) b [u0,u1,u2,u3,u4,u5,u6,u7,u8] t:=
 ((((((((h.set 0 u0).set 1 u1).set 2 u2).set 3 u3).set 4 u4).set 5 u5).set 6 u6).set 7 u7).set 8 u8
theorem OwnD.touchS (h:OwnD B w v d) (hT:Touch S w w') (hS:∀b∈S,b<B):OwnD B w' v d:=by
 have key:∀b∈blks v,b∉S:=fun b hb hm=>by
  have h1:=(h.lt b hb).1;have h2:=hS b hm;omega
 exact⟨ownsRow_touch h.sp hT (fun b hb=>key b (by simp[blks,ownBlock_ownB hb])),ownsRow_touch h.ln hT (fun b hb=>key b (by simp[blks,ownBlock_ownB hb])),ownsRow_touch h.ins hT (fun b hb=>key b (by simp[blks,ownBlock_ownB hb])),ownsRow_touch h.outs hT (fun b hb=>key b (by simp[blks,ownBlock_ownB hb])),h.nd⟩
theorem ownsRow_touchB {m:Nat} {xs:List Value} (h:w.ownsRow B e k (.slice A n c) m xs) (hT:Touch S w w') (hS:∀b∈S,b<B):w'.ownsRow B e k (.slice A n c) m xs:=
 ownsRow_touch h hT (fun b hb hm=>by have h1:=(ownsRow_lt h b (ownBlock_ownB hb)).1;have h2:=hS b hm;omega)
theorem Blk.touchB (h:Blk w b cs t) (hB:B≤b) (hT:Touch S w w') (hS:∀b∈S,b<B):Blk w' b cs t:=
 h.touch hT (fun hm=>by have:=hS b hm;omega)
theorem xe61_0 {p:Prop} (h:p:=by
 exact hK _ _ ⟨_,rfl,hG.1.size,Blk.new _ _ _⟩ (bR.alloc (Nat.le_refl _) _) ⟨hG.1.alloc _,(fun h=>by obtain⟨q,e,hlt⟩:=hG.2.1 sH;exact⟨q,by simpa [updV] using e,Nat.lt_of_lt_of_le hlt hsz9⟩),(fun h=>by obtain⟨q,e,hlt⟩:=hG.2.2.1 sH;exact⟨q,by simpa [updV] using e,Nat.lt_of_lt_of_le hlt hsz9⟩),(fun h1 h2=>by simpa [updV] using hG.2.2.2.1 (by simpa using h1) (by simpa using h2)),(fun h A n c hA b hb=>by have h9:=hG.2.2.2.2.1 sH A n c (by simpa [updV] using hA) b hb;exact⟨Nat.lt_of_lt_of_le h9.1 hsz9,fun h2=>by simpa [updV] using h9.2 (by simpa using h2)⟩),(fun h=>(hG.2.2.2.2.2 sH).alloc (hG.2.2.2.2.2 sH).size _)⟩):p:=h
theorem xe61_1 {p:Prop} (h:p:=by
 intro v9 w9 hAp;obtain⟨A',c',rfl,hown,hb9,hnb⟩:=hAp
 exact hK _ _ ⟨A',c',rfl,hown⟩ hb9 ⟨hG.1.then_below hb9,(fun h=>by obtain⟨q,e,hlt⟩:=hG.2.1 sH;exact⟨q,by simpa [updV] using e,Nat.lt_of_lt_of_le hlt hb9.size⟩),(fun h=>by obtain⟨q,e,hlt⟩:=hG.2.2.1 sH;exact⟨q,by simpa [updV] using e,Nat.lt_of_lt_of_le hlt hb9.size⟩),(fun h1 h2=>by simpa [updV] using hG.2.2.2.1 (by simpa using h1) (by simpa using h2)),(fun h A n c hA b hb=>by have h9:=hG.2.2.2.2.1 sH A n c (by simpa [updV] using hA) b hb;exact⟨Nat.lt_of_lt_of_le h9.1 hb9.size,fun h2=>by simpa [updV] using h9.2 (by simpa using h2)⟩),(fun h=>below_then (hG.2.2.2.2.2 sH) hb9)⟩):p:=h
theorem own12 (v:DV) (d:Diag) (w:World) (hd:DRd w v d) (h1:v.n1≤1000) (h2:v.n2≤1000) (h3:v.n3≤1000) (h4:v.n4≤1000):
  Calls Tryz.prog 12 #[diaV v d.sc] w fun e w'=>∃v',e= .returned (diaV v' d.sc)∧OwnD w.heap.size w' v' d∧Below w.heap.size w w':=by
 obtain⟨W,hW⟩:∃W,W=((w.alloc (.cells (a9 v d.sc) 28)).alloc (.cells zA 28)):=⟨_,rfl⟩
 have hX1:Blk W w.heap.size (l9 v d.sc) 28:=by
  rw[hW];have h9:=((Blk.new w (a9 v d.sc) 28).alloc (.cells zA 28));simpa using h9
 have hX2:Blk W (w.heap.size+1) z9 28:=by
  rw[hW];have h9:=(Blk.new (w.alloc (.cells (a9 v d.sc) 28)) zA 28);simpa using h9
 have hBW:Below w.heap.size w W:=by rw[hW];exact(bR.alloc (by simp;try omega) _).alloc (by simp;try omega) _
 have hsz:W.heap.size=w.heap.size+2:=by rw[hW];simp
 generalize hX2b:w.heap.size+1=X2b at hX2;have HB1:=Lib.hid hX1;have HX2:=Lib.hid hX2;have HBW:=Lib.hid hBW;have HDD:=Lib.hid (hd.below hBW);have HSZ:Aside (W.heap.size=w.heap.size+2∧X2b=w.heap.size+1):=⟨hsz,hX2b.symm⟩;have HW:=Lib.hid hW
 have HXB:Aside (∀b∈[X2b],b<W.heap.size):=by
  intro b hb;simp at hb
  omega
 have HS:Aside (∀u,Touch [X2b] W u→u.cell? ⟨w.heap.size,0,none⟩=some (.slice v.A1 v.n1 v.c1)∧u.cell? ⟨w.heap.size,1,none⟩=some (.slice v.A2 v.n2 v.c2)∧u.cell? ⟨w.heap.size,2,none⟩=some (.slice v.A3 v.n3 v.c3)∧u.cell? ⟨w.heap.size,3,none⟩=some (.slice v.A4 v.n4 v.c4)∧u.cell? ⟨w.heap.size,4,none⟩=some (.int .i64 d.sc.a)∧u.cell? ⟨w.heap.size,5,none⟩=some (.int .i64 d.sc.b)∧u.cell? ⟨w.heap.size,6,none⟩=some (.int .i64 d.sc.c)∧u.cell? ⟨w.heap.size,7,none⟩=some (.int .i64 d.sc.d)∧u.cell? ⟨w.heap.size,8,none⟩=some (.int .i64 d.sc.k)):=by
  intro u hu;obtain⟨x0,x1,x2,x3,x4,x5,x6,x7,x8,xf⟩:=(hX1.touch hu (by simp;omega)).nine;exact⟨x0,x1,x2,x3,x4,x5,x6,x7,x8⟩
 have HR:Aside (∀u,Touch [X2b] W u→DRd u v d):=by
  intro u hu;have hl:=hd.below hBW
  have key:∀(A:Option Addr) (a:Addr),A=some a→a.block<w.heap.size→∀b∈[X2b],a.block≠b:=by
   intro A a _ h b hb;simp at hb
   omega
  have kk:∀{α:Type} {k:Nat} {enc:α→List Value} {A:Option Addr} {n:Nat} {xs:List α},Rd k enc w A n xs→Rd k enc W A n xs→Rd k enc u A n xs:=by
   intro α k enc A n xs h0 hW9
   rcases Nat.eq_zero_or_pos n with hn|hn
   · subst hn;exact⟨hW9.1,oM,fun h=>absurd h oM⟩
   refine hW9.touch hu (fun b hb a ha=>?_)
   obtain⟨b0,o0,e0,hlt,_⟩:=h0.2.2 hn;rw[ha]at e0;cases e0
   exact key _ _ ha hlt b hb
  exact⟨kk hd.sp hl.sp,kk hd.ln hl.ln,kk hd.ins hl.ins,kk hd.outs hl.outs,hd.c1,hd.c2,hd.c3,hd.c4⟩
 clear hd hX1 hX2 hBW hsz hW;go_enter Tryz.func12,Tryz.ntmps12
 go_upto_region 1 with fail
 try rw[hX2b]
 rw[←HW.out];clear hX2b
 refine wp_region_stepsX kR (fun x=>{tmps:=#[diaV v d.sc,pt w.heap.size 0,pt X2b 0,x 3,x 4,x 5,x 6,x 7,x 8,x 9,x 10,x 11,x 12,x 13,x 14,x 15,x 16,x 17,x 18,x 19,x 20,x 21],defers:=[]}) (fun _=>undef) rfl (fun l x u=>Touch [X2b] W u∧(l 8=true→∃q,x 11= .slice (some ⟨q,0,none⟩) 0 0∧q<u.heap.size)∧(l 12=true→∃q,x 15= .slice (some ⟨q,0,none⟩) 0 0∧q<u.heap.size)∧(l 8=true→l 12=true→x 11≠x 15)∧(l 11=true→∀A n c,x 14= .slice A n c→∀b∈ownB A,b<u.heap.size∧(l 12=true→x 15≠ .slice (some ⟨b,0,none⟩) 0 0))∧(l 19=false→Below W.heap.size W u)) (fun i u u'=>match i with|19=>Touch [X2b] u u'|_=>Below u.heap.size u u') (fun j=>match j with|0=>[3]|1=>[4]|2=>[5]|3=>[6]|4=>[7]|5=>[8]|6=>[9]|7=>[10]|8=>[11]|9=>[12]|10=>[13]|11=>[14]|12=>[15]|13=>[16]|14=>[17]|15=>[18,14]|16=>[19]|17=>[20]|18=>[21]|19=>[]|_=>[]) (fun j x u=>match j with|0=>∃q,x 3= .slice (some ⟨q,0,none⟩) 0 0∧W.heap.size≤q∧Blk u q [] 73|1=>x 4=pt w.heap.size 0|2=>x 5= .slice v.A1 v.n1 v.c1|3=>∃A c,x 6= .slice A v.n1 c∧u.ownsRow W.heap.size 73 2 (.slice A v.n1 c) v.n1 (d.sp.flatMap spC)|4=>∃q,x 7= .slice (some ⟨q,0,none⟩) 0 0∧W.heap.size≤q∧Blk u q [] 77|5=>x 8=pt w.heap.size 1|6=>x 9= .slice v.A2 v.n2 v.c2|7=>∃A c,x 10= .slice A v.n2 c∧u.ownsRow W.heap.size 77 3 (.slice A v.n2 c) v.n2 (d.ln.flatMap lnC)|8=>∃q,x 11= .slice (some ⟨q,0,none⟩) 0 0∧W.heap.size≤q∧Blk u q [] 3|9=>x 12=pt w.heap.size 2|10=>x 13= .slice v.A3 v.n3 v.c3|11=>∃A c,x 14= .slice A v.n3 c∧u.ownsRow W.heap.size 3 1 (.slice A v.n3 c) v.n3 (d.ins.flatMap inC)|12=>∃q,x 15= .slice (some ⟨q,0,none⟩) 0 0∧W.heap.size≤q∧Blk u q [] 3|13=>x 16=pt w.heap.size 3|14=>x 17= .slice v.A4 v.n4 v.c4|15=>∃A c A' c',x 18= .slice A v.n4 c∧x 14= .slice A' v.n3 c'∧u.ownsRow W.heap.size 3 1 (.slice A v.n4 c) v.n4 (d.outs.flatMap inC)∧u.ownsRow W.heap.size 3 1 (.slice A' v.n3 c') v.n3 (d.ins.flatMap inC)∧∀b∈ownB A,b∉ownB A'|16=>x 19=pt w.heap.size 4|17=>x 20= .agg #[d.sc.a,d.sc.b,d.sc.c,d.sc.d,d.sc.k]|18=>∃v',x 21=diaV v' d.sc∧OwnD W.heap.size u v' d|19=>∃v',Blk u X2b (dcs v' d.sc) 28∧OwnD W.heap.size u v' d|_=>True) kR ?hput kR kR ?h0 ?hkeep ?hloc ?hstep ?hend
 case hput=>repeat' first|exact True.intro|apply And.intro|(intro d hd x v;cases hd<;>rfl)
 case h0=>exact⟨(Touch.refl _ _).drew,(fun h=>by cases h),(fun h=>by cases h),(fun h=>by cases h),(fun h=>by cases h),fun _=>bR.drew⟩
 case hkeep=>
  intro j i x l u u' hj hi hpre ht hG hR0
  have hR:Touch [X2b] u u':=by
   split at hR0
   · exact hR0
   exact(Touch.of_below hR0).mono sI
  have hx:=HXB.out
  by_cases hj0:j=0
  · subst hj0;obtain⟨q,h1,h2,h3⟩:=ht;exact⟨q,h1,h2,h3.touchB h2 hR hx⟩
  by_cases hj3:j=3
  · subst hj3;obtain⟨A,c,h1,h2⟩:=ht;exact⟨A,c,h1,ownsRow_touchB h2 hR hx⟩
  by_cases hj4:j=4
  · subst hj4;obtain⟨q,h1,h2,h3⟩:=ht;exact⟨q,h1,h2,h3.touchB h2 hR hx⟩
  by_cases hj7:j=7
  · subst hj7;obtain⟨A,c,h1,h2⟩:=ht;exact⟨A,c,h1,ownsRow_touchB h2 hR hx⟩
  by_cases hj8:j=8
  · subst hj8;obtain⟨q,h1,h2,h3⟩:=ht;exact⟨q,h1,h2,h3.touchB h2 hR hx⟩
  by_cases hj11:j=11
  · subst hj11;obtain⟨A,c,h1,h2⟩:=ht;exact⟨A,c,h1,ownsRow_touchB h2 hR hx⟩
  by_cases hj12:j=12
  · subst hj12;obtain⟨q,h1,h2,h3⟩:=ht;exact⟨q,h1,h2,h3.touchB h2 hR hx⟩
  by_cases hj15:j=15
  · subst hj15;obtain⟨A,c,A',c',h1,h2,h3,h4,h5⟩:=ht;exact⟨A,c,A',c',h1,h2,ownsRow_touchB h3 hR hx,ownsRow_touchB h4 hR hx,h5⟩
  by_cases hj18:j=18
  · subst hj18;obtain⟨v9,h1,h2⟩:=ht;exact⟨v9,h1,h2.touchS hR hx⟩
  by_cases hj19:j=19
  · subst hj19
    by_cases hi19:i=19
    · subst hi19;rw[hj]at hi;cases hi
    have hb:Below u.heap.size u u':=by
     split at hR0
     · exact absurd rfl hi19
     exact hR0
    obtain⟨v9,h1,h2⟩:=ht;exact⟨v9,h1.below hb,h2.touchS hR hx⟩
  exact(by have h9:=ht;clear ht;split at h9<;>first|exact h9|exact(hj0 rfl).elim|exact(hj3 rfl).elim|exact(hj4 rfl).elim|exact(hj7 rfl).elim|exact(hj8 rfl).elim|exact(hj11 rfl).elim|exact(hj12 rfl).elim|exact(hj15 rfl).elim|exact(hj18 rfl).elim|exact(hj19 rfl).elim)
 case hloc=>repeat' first|exact True.intro|apply And.intro|exact fun x x' u h ht=>ht|(intro x x' u h ht;simp only[List.mem_cons,List.not_mem_nil,or_false,forall_eq_or_imp,forall_eq]at h;simp only[h]at ht;exact ht)
 case hstep=>
  refine⟨?c0,?_,?_,?c3,?c4,?_,?_,?c7,?c8,?_,?_,?c11,?c12,?_,?_,?c15,?_,?_,?c18,?c19,trivial⟩
  case c0=>
   intro l x u hG hno hli hpre hd K hK;clear hd;go_simp
   have hsz9:u.heap.size≤(u.alloc (.cells #[] 73)).heap.size:=by simp
   exact xe61_0
  case c3=>
   intro l x u hG hno hli hpre hd K hK;have e0:∃q,x 3= .slice (some ⟨q,0,none⟩) 0 0∧W.heap.size≤q∧Blk u q [] 73:=hd ⟨0, .data⟩ sI rfl;have e2:x 5= .slice v.A1 v.n1 v.c1:=hd ⟨2, .data⟩ sI rfl;clear hd;simp only[e2]at hK ⊢;obtain⟨g9,h8,hg9,hB9⟩:=e0;have hrd:=HR.out u hG.1;have hBu:W.heap.size≤u.heap.size:=hG.1.size;refine wp_append_zero (.tmp 3) (.tmp 5) 22 rfl 73 2 _ 16 inf73 Tryz.underlying22 rfl dE spC_len spC_one dE W.heap.size g9 h8 hB9 hg9 _ _ _ rfl hrd.c1 d.sp hrd.sp oM hBu ?_
   exact xe61_1
  case c4=>
   intro l x u hG hno hli hpre hd K hK;clear hd;go_simp
   have hsz9:u.heap.size≤(u.alloc (.cells #[] 77)).heap.size:=by simp
   exact xe61_0
  case c7=>
   intro l x u hG hno hli hpre hd K hK;have e4:∃q,x 7= .slice (some ⟨q,0,none⟩) 0 0∧W.heap.size≤q∧Blk u q [] 77:=hd ⟨4, .data⟩ sI rfl;have e6:x 9= .slice v.A2 v.n2 v.c2:=hd ⟨6, .data⟩ sI rfl;clear hd;simp only[e6]at hK ⊢;obtain⟨g9,h8,hg9,hB9⟩:=e4;have hrd:=HR.out u hG.1;have hBu:W.heap.size≤u.heap.size:=hG.1.size;refine wp_append_zero (.tmp 7) (.tmp 9) 23 rfl 77 3 _ 24 inf77 Tryz.underlying23 rfl dE lnC_len lnC_one dE W.heap.size g9 h8 hB9 hg9 _ _ _ rfl hrd.c2 d.ln hrd.ln oM hBu ?_
   exact xe61_1
  case c8=>
   intro l x u hG hno hli hpre hd K hK;clear hd;go_simp
   have hsz9:u.heap.size≤(u.alloc (.cells #[] 3)).heap.size:=by simp
   exact hK _ _ ⟨_,rfl,hG.1.size,Blk.new _ _ _⟩ (bR.alloc (Nat.le_refl _) _) ⟨hG.1.alloc _,(fun _=>⟨u.heap.size,by simp[updV],by simp⟩),(fun h=>by obtain⟨q,e,hlt⟩:=hG.2.2.1 sH;exact⟨q,by simpa [updV] using e,Nat.lt_of_lt_of_le hlt hsz9⟩),(fun h8 h12=>by obtain⟨q,e,hlt⟩:=hG.2.2.1 (by simpa using h12);intro h;simp[updV,e]at h;try omega),(fun h A n c hA b hb=>by have h9:=hG.2.2.2.2.1 sH A n c (by simpa [updV] using hA) b hb;exact⟨Nat.lt_of_lt_of_le h9.1 hsz9,fun h2=>by simpa [updV] using h9.2 (by simpa using h2)⟩),(fun h=>(hG.2.2.2.2.2 sH).alloc (hG.2.2.2.2.2 sH).size _)⟩
  case c11=>
   intro l x u hG hno hli hpre hd K hK;have e8:∃q,x 11= .slice (some ⟨q,0,none⟩) 0 0∧W.heap.size≤q∧Blk u q [] 3:=hd ⟨8, .data⟩ sI rfl;have e10:x 13= .slice v.A3 v.n3 v.c3:=hd ⟨10, .data⟩ sI rfl;clear hd;simp only[e10]at hK ⊢;obtain⟨g9,h8,hg9,hB9⟩:=e8;have hrd:=HR.out u hG.1;have hBu:W.heap.size≤u.heap.size:=hG.1.size;refine wp_append_zero (.tmp 11) (.tmp 13) 24 rfl 3 1 _ 8 inf3 Tryz.underlying24 rfl dE inC_len inC_one dE W.heap.size g9 h8 hB9 hg9 _ _ _ rfl hrd.c3 d.ins hrd.ins oM hBu ?_
   intro v9 w9 hAp;obtain⟨A',c',rfl,hown,hb9,hnb⟩:=hAp
   have hc11:∀A n c,(Value.slice A' v.n3 c')= .slice A n c→∀b∈ownB A,b<w9.heap.size∧(l 12=true→x 15≠ .slice (some ⟨b,0,none⟩) 0 0):=by
    intro A n c hA b hb;injection hA with hA1 hA2 hA3;subst hA1
    rcases hnb b hb with h9|h9
    · subst h9;exact⟨Nat.lt_of_lt_of_le hB9.lt hb9.size,fun h2 h7=>hG.2.2.2.1 (hpre 8 kR) h2 (h8.trans h7.symm)⟩
    exact⟨(ownsRow_lt hown b hb).2,fun h2 h7=>by
      obtain⟨q2,h3,h4⟩:=hG.2.2.1 h2;have h6:=h3.symm.trans h7;simp at h6
      try omega⟩
   exact hK _ _ ⟨A',c',rfl,hown⟩ hb9 ⟨hG.1.then_below hb9,(fun h=>by obtain⟨q,e,hlt⟩:=hG.2.1 sH;exact⟨q,by simpa [updV] using e,Nat.lt_of_lt_of_le hlt hb9.size⟩),(fun h=>by obtain⟨q,e,hlt⟩:=hG.2.2.1 sH;exact⟨q,by simpa [updV] using e,Nat.lt_of_lt_of_le hlt hb9.size⟩),(fun h1 h2=>by simpa [updV] using hG.2.2.2.1 (by simpa using h1) (by simpa using h2)),(fun _ A n c hA b hb=>by simpa [updV] using hc11 A n c (by simpa [updV] using hA) b hb),(fun h=>below_then (hG.2.2.2.2.2 sH) hb9)⟩
  case c12=>
   intro l x u hG hno hli hpre hd K hK;clear hd;go_simp
   have hsz9:u.heap.size≤(u.alloc (.cells #[] 3)).heap.size:=by simp
   exact hK _ _ ⟨_,rfl,hG.1.size,Blk.new _ _ _⟩ (bR.alloc (Nat.le_refl _) _) ⟨hG.1.alloc _,(fun h=>by obtain⟨q,e,hlt⟩:=hG.2.1 sH;exact⟨q,by simpa [updV] using e,Nat.lt_of_lt_of_le hlt hsz9⟩),(fun _=>⟨u.heap.size,by simp[updV],by simp⟩),(fun h8 h12=>by obtain⟨q,e,hlt⟩:=hG.2.1 (by simpa using h8);intro h;simp[updV,e]at h;try omega),(fun h A n c hA b hb=>by have h9:=hG.2.2.2.2.1 sH A n c (by simpa [updV] using hA) b hb;exact⟨Nat.lt_of_lt_of_le h9.1 hsz9,fun _ h=>by simp[updV]at h;try omega⟩),(fun h=>(hG.2.2.2.2.2 sH).alloc (hG.2.2.2.2.2 sH).size _)⟩
  case c15=>
   intro l x u hG hno hli hpre hd K hK;have e12:∃q,x 15= .slice (some ⟨q,0,none⟩) 0 0∧W.heap.size≤q∧Blk u q [] 3:=hd ⟨12, .data⟩ sI rfl;have e14:x 17= .slice v.A4 v.n4 v.c4:=hd ⟨14, .data⟩ sI rfl;have e11:∃A c,x 14= .slice A v.n3 c∧u.ownsRow W.heap.size 3 1 (.slice A v.n3 c) v.n3 (d.ins.flatMap inC):=hd ⟨11, .chain⟩ sI rfl;clear hd;simp only[e14]at hK ⊢;obtain⟨A3,c3,h14,ho3⟩:=e11;obtain⟨g9,h8,hg9,hB9⟩:=e12;have hrd:=HR.out u hG.1;have hBu:W.heap.size≤u.heap.size:=hG.1.size;refine wp_append_zero (.tmp 15) (.tmp 17) 24 rfl 3 1 _ 8 inf3 Tryz.underlying24 rfl dE inC_len inC_one dE W.heap.size g9 h8 hB9 hg9 _ _ _ rfl hrd.c4 d.outs hrd.outs oM hBu ?_
   intro v9 w9 hAp;obtain⟨A',c',rfl,hown,hb9,hnb⟩:=hAp
   have hdis:∀b∈ownB A',b∉ownB A3:=by
    intro b hb hm;obtain⟨h5,h6⟩:=hG.2.2.2.2.1 (hpre 11 kR) A3 v.n3 c3 h14 b hm
    rcases hnb b hb with h7|h7
    · subst h7;exact h6 (hpre 12 kR) h8
    try omega
   exact hK _ _ ⟨A',c',A3,c3,rfl,h14,hown,ownsRow_touchB ho3 (Touch.of_below hb9) sI,hdis⟩ hb9 ⟨hG.1.then_below hb9,(fun h=>by obtain⟨q,e,hlt⟩:=hG.2.1 sH;exact⟨q,by simpa [updV] using e,Nat.lt_of_lt_of_le hlt hb9.size⟩),(fun h=>by obtain⟨q,e,hlt⟩:=hG.2.2.1 sH;exact⟨q,by simpa [updV] using e,Nat.lt_of_lt_of_le hlt hb9.size⟩),(fun h1 h2=>by simpa [updV] using hG.2.2.2.1 (by simpa using h1) (by simpa using h2)),(fun h A n c hA b hb=>by have h9:=hG.2.2.2.2.1 sH A n c (by simpa [updV] using hA) b hb;exact⟨Nat.lt_of_lt_of_le h9.1 hb9.size,fun h2=>by simpa [updV] using h9.2 (by simpa using h2)⟩),(fun h=>below_then (hG.2.2.2.2.2 sH) hb9)⟩
  case c18=>
   intro l x u hG hno hli hpre hd K hK;have e3:∃A c,x 6= .slice A v.n1 c∧u.ownsRow W.heap.size 73 2 (.slice A v.n1 c) v.n1 (d.sp.flatMap spC):=hd ⟨3, .data⟩ sI rfl;have e7:∃A c,x 10= .slice A v.n2 c∧u.ownsRow W.heap.size 77 3 (.slice A v.n2 c) v.n2 (d.ln.flatMap lnC):=hd ⟨7, .data⟩ sI rfl;have e11:∃A c,x 14= .slice A v.n3 c∧u.ownsRow W.heap.size 3 1 (.slice A v.n3 c) v.n3 (d.ins.flatMap inC):=hd ⟨11, .data⟩ sI rfl;have e15:∃A c A' c',x 18= .slice A v.n4 c∧x 14= .slice A' v.n3 c'∧u.ownsRow W.heap.size 3 1 (.slice A v.n4 c) v.n4 (d.outs.flatMap inC)∧u.ownsRow W.heap.size 3 1 (.slice A' v.n3 c') v.n3 (d.ins.flatMap inC)∧∀b∈ownB A,b∉ownB A':=hd ⟨15, .data⟩ sI rfl;have e17:x 20= .agg #[d.sc.a,d.sc.b,d.sc.c,d.sc.d,d.sc.k]:=hd ⟨17, .data⟩ sI rfl;clear hd;simp only[e17]at hK ⊢
   obtain⟨A1,c1,h6,o1⟩:=e3;obtain⟨A2,c2,h10,o2⟩:=e7;obtain⟨A4,c4,A3,c3,h18,h14,o4,o3,hdis⟩:=e15;clear e11;generalize x 6=z6 at h6 hK ⊢;subst h6;generalize x 10=z10 at h10 hK ⊢;subst h10;generalize x 18=z18 at h18 hK ⊢;subst h18;generalize hx14:x 14=z14 at h14 hK ⊢;subst h14;have HX14:=Lib.hid hx14;clear hx14;have n1:=fun b hb=>(ownsRow_ty o1 b hb);have n2:=fun b hb=>(ownsRow_ty o2 b hb);have n3:=fun b hb=>(ownsRow_ty o3 b hb);have n4:=fun b hb=>(ownsRow_ty o4 b hb)
   have ty2:∀{b:Nat} {t t':TypeId},(∃c,u.heap[b]?=some (.cells c t (0,0)))→(∃c,u.heap[b]?=some (.cells c t' (0,0)))→t≠t'→False:=by
    rintro b t t' ⟨c,h⟩ ⟨c',h'⟩ hn;rw[h]at h';cases h'
    exact hn rfl
   have hnd:(blks ⟨A1,v.n1,c1,A2,v.n2,c2,A3,v.n3,c3,A4,v.n4,c4⟩).Nodup:=by
    have one:∀A:Option Addr,(ownB A).Nodup:=fun A=>by cases A<;>simp[ownB]
    unfold blks;rw[List.nodup_append,List.nodup_append,List.nodup_append];refine⟨one _,⟨one _,⟨one _,one _,fun a ha b hb e=>hdis b hb (e▸ha)⟩,fun a ha b hb e=>?_⟩,fun a ha b hb e=>?_⟩
    · subst e
      rcases List.mem_append.1 hb with hb|hb
      · exact ty2 (n2 _ ha) (n3 _ hb) dE
      exact ty2 (n2 _ ha) (n4 _ hb) dE
    subst e
    rcases List.mem_append.1 hb with hb|hb
    · exact ty2 (n1 _ ha) (n2 _ hb) dE
    rcases List.mem_append.1 hb with hb|hb
    · exact ty2 (n1 _ ha) (n3 _ hb) dE
    exact ty2 (n1 _ ha) (n4 _ hb) dE
   have HO:Aside (OwnD W.heap.size u ⟨A1,v.n1,c1,A2,v.n2,c2,A3,v.n3,c3,A4,v.n4,c4⟩ d):=⟨o1,o2,o3,o4,hnd⟩;clear o1 o2 o3 o4 hdis n1 n2 n3 n4 hnd;go_simp
   exact hK _ _ ⟨⟨A1,v.n1,c1,A2,v.n2,c2,A3,v.n3,c3,A4,v.n4,c4⟩,rfl,HO.out⟩ bR ⟨hG.1,(fun h=>by simpa [updV] using hG.2.1 sH),(fun h=>by simpa [updV] using hG.2.2.1 sH),(fun h1 h2=>by simpa [updV] using hG.2.2.2.1 (by simpa using h1) (by simpa using h2)),(fun h A n c hA b hb=>by have h9:=hG.2.2.2.2.1 sH A n c (by simpa [updV] using hA) b hb;exact⟨h9.1,fun h2=>by simpa [updV] using h9.2 (by simpa using h2)⟩),(fun h=>hG.2.2.2.2.2 sH)⟩
  case c19=>
   intro l x u hG hno hli hpre hd K hK;have e18:∃v',x 21=diaV v' d.sc∧OwnD W.heap.size u v' d:=hd ⟨18, .data⟩ sI rfl;clear hd;obtain⟨v5,h21,hO5⟩:=e18;generalize x 21=z21 at h21 hK ⊢;subst h21;have hbk:=HX2.out.below (hG.2.2.2.2.2 hli);have hT9:=touch_n9 u X2b (.slice v5.A1 v5.n1 v5.c1) (.slice v5.A2 v5.n2 v5.c2) (.slice v5.A3 v5.n3 v5.c3) (.slice v5.A4 v5.n4 v5.c4) d.sc.a d.sc.b d.sc.c d.sc.d d.sc.k;have hq:=hbk.n9 (.slice v5.A1 v5.n1 v5.c1) (.slice v5.A2 v5.n2 v5.c2) (.slice v5.A3 v5.n3 v5.c3) (.slice v5.A4 v5.n4 v5.c4) d.sc.a d.sc.b d.sc.c d.sc.d d.sc.k;have k_c:=hbk.nine;have HTQ:=Lib.hid hT9;have HQQ:=Lib.hid hq;clear hT9 hq hbk;go_simp
   have hT9:=HTQ.out;exact hK undef _ ⟨v5,HQQ.out,hO5.touchS HTQ.out HXB.out⟩ HTQ.out ⟨hG.1.trans HTQ.out (fun x hx=> .inl hx),(fun h=>by obtain⟨q,e,hlt⟩:=hG.2.1 sH;exact⟨q,by simpa [updV] using e,Nat.lt_of_lt_of_le hlt hT9.size⟩),(fun h=>by obtain⟨q,e,hlt⟩:=hG.2.2.1 sH;exact⟨q,by simpa [updV] using e,Nat.lt_of_lt_of_le hlt hT9.size⟩),(fun h1 h2=>by simpa [updV] using hG.2.2.2.1 (by simpa using h1) (by simpa using h2)),(fun h A n c hA b hb=>by have h9:=hG.2.2.2.2.1 sH A n c (by simpa [updV] using hA) b hb;exact⟨Nat.lt_of_lt_of_le h9.1 hT9.size,fun h2=>by simpa [updV] using h9.2 (by simpa using h2)⟩),(fun h=>by simp at h)⟩
  all_goals
   intro l x u hG hno hli hpre hd K hK;dsimp only at hd;simp only[eB]at hd
   try simp only[hd]at hK ⊢
   first|(go_simp;exact hK _ _ rfl bR ⟨hG.1,(fun h=>by simpa [updV] using hG.2.1 sH),(fun h=>by simpa [updV] using hG.2.2.1 sH),(fun h1 h2=>by simpa [updV] using hG.2.2.2.1 (by simpa using h1) (by simpa using h2)),(fun h A n c hA b hb=>by have h9:=hG.2.2.2.2.1 sH A n c (by simpa [updV] using hA) b hb;exact⟨h9.1,fun h2=>by simpa [updV] using h9.2 (by simpa using h2)⟩),(fun h=>hG.2.2.2.2.2 sH)⟩)|(obtain⟨a0,a1,a2,a3,a4,a5,a6,a7,a8⟩:=HS.out _ hG.1;go_simp;exact hK _ _ rfl bR ⟨hG.1,(fun h=>by simpa [updV] using hG.2.1 sH),(fun h=>by simpa [updV] using hG.2.2.1 sH),(fun h1 h2=>by simpa [updV] using hG.2.2.2.1 (by simpa using h1) (by simpa using h2)),(fun h A n c hA b hb=>by have h9:=hG.2.2.2.2.1 sH A n c (by simpa [updV] using hA) b hb;exact⟨h9.1,fun h2=>by simpa [updV] using h9.2 (by simpa using h2)⟩),(fun h=>hG.2.2.2.2.2 sH)⟩)
 rintro l x u hall hG ⟨_,_,_,_,_,_,_,_,_,_,_,_,_,_,_,_,_,_,_,⟨v',hB,hO⟩,_⟩;have hT:=hG.1;clear hall hG;have HLW:Aside (Below w.heap.size w u):=HBW.out.trans (hT.below HBW.out.size (fun b hb=>by have:=HSZ.out;simp at hb;omega));have HO9:Aside (OwnD w.heap.size u v' d):=hO.mono HBW.out.size;go_wp2_with fail
 refine bodyPost_ret (v:=diaV v' d.sc) (by simp[results,Tryz.results12,go_sem,hB.nine]) rfl ?_
 exact⟨v',rfl,HO9.out,HLW.out⟩
end
end Go.Proofs.YtcoackmdmohnhaaGreatDoor
