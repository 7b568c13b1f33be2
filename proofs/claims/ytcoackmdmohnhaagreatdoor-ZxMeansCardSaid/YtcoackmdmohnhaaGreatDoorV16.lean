/- Package zx: pivots. -/
import Derived.Test.YtcoackmdmohnhaaGreatDoorV13
import Derived.Test.YtcoackmdmohnhaaGreatDoorV15
set_option linter.unusedVariables false
set_option linter.unusedSimpArgs false
set_option maxRecDepth 100000
set_option maxHeartbeats 4000000
namespace Go.Proofs.YtcoackmdmohnhaaGreatDoor
open Go.RowKit Go.Shelf
variable {t:TypeId} {tl:List Value} {B:Nat} {N:Nat} {p:Nat} {i:Nat} {n:Nat} {w:World} {w':World} {v:DV} {d:Diag}
def pivM (d:Diag) (i:Nat) (u v:Int):Made:=match d.around u i [v],d.around v i [u] with
 | some l,some m=>
  let p:=d.phaseAt u / 4
  let q:=d.phaseAt v / 4
  let a:=l.filter (fun k=>!decide (k∈m))
  let b:=m.filter (fun k=>!decide (k∈l))
  let c:=l.filter (fun k=>!decide (k∈a))
  let e:=between a b++between a c++between b c
  let d1:=((({d with ln:=d.ln++e}:Diag).addAll (4*q) a).addAll (4*p) b).addAll (4*(p+q+1)) c
  some ((d1.away v).away u,[Num.omega (4*p*q)],1+e.length-a.length-b.length-2*c.length)
 |_,_=>none
theorem pivots_eq {x:Line} (h:d.ln[i]?=some x):d.pivots i=if x.loop=true∨x.hat=false∨d.kindAt x.lo≠1∨d.kindAt x.hi≠1∨d.phaseAt x.lo%4≠0∨d.phaseAt x.hi%4≠0 then none else pivM d i x.lo x.hi:=by
 unfold Diag.pivots pivM;rw[h];dsimp only
 split<;>rfl
theorem AroundR.any {r:Option (List Int)} {e:Ending} (h:AroundR r w e w'):∃A n c bl,e= .returned (.tuple #[.slice A n c, .bool bl])∧Below w.heap.size w w'∧(bl=false→r=none)∧(bl=true→∃l,r=some l∧n=l.length∧w'.ownsRow w.heap.size 3 1 (.slice A n c) n (l.flatMap inC)):=by
 cases r with
 |none=>exact⟨none,0,0,false,h.1,h.2,by simp,by simp⟩
 | some l=>
  obtain⟨A,c,h1,h2,h3⟩:=h;exact⟨A,l.length,c,true,h1,h3,by simp,fun _=>⟨l,rfl,rfl,h2⟩⟩
theorem around_some {but:Int} {nv l:List Int} (h:d.around n but nv=some l):l.Pairwise (·< ·)∧l.length≤d.sp.length∧∀x∈l,0≤x∧x<(d.sp.length:Int):=by
 unfold Diag.around at h
 cases hll:d.leadL n but nv 0 d.ln [] with
 |none=>rw[hll]at h;cases h
 | some l'=>
  rw[hll]at h;cases h
  refine⟨inOrder_lt d l',?_,fun x hx=>(mem_inOrder.1 hx).2⟩
  have h1:=List.length_filter_le (fun k:Int=>decide (k∈l')) ((List.range d.sp.length).map (fun k:Nat=>(k:Int)));unfold Diag.inOrder;simp only[List.length_map,List.length_range]at h1;omega
theorem xe32_0 {p:Prop} (h:p:=by
 clear HM
 go_wp2_with (first|(go_at_call 193;(with_reducible refine H193u.mono ?_);rintro e w3 ⟨rfl,rfl⟩;clear H193u)|(go_at_call 193;(with_reducible refine H193v.mono ?_);rintro e w3 ⟨rfl,rfl⟩;clear H193v))
 all_goals refine bodyPost_ret (v:= .tuple #[.bool false, .int .i64 0]) (by simp[results,Tryz.results191,go_sem]) rfl (by rw[HM0.out];exact RuleR.none 0 HU2.out.t)):p:=h
theorem xe32_1 {p:Prop} (h:p:=by
 intro j9 i9 x l u u' hj hi hpre ht hG hR
 by_cases h12:j9=12
 · subst h12
   by_cases hi12:i9=12
   · subst hi12;rw[hj]at hi;cases hi
   have hR':Below u.heap.size u u':=by have h9:=hR;split at h9<;>first|exact(hi12 rfl).elim|exact h9
   exact⟨ht.1.below hR',ht.2.then_below hR'⟩
 exact(by have h9:=ht;clear ht;split at h9<;>first|exact h9|exact(h12 rfl).elim)):p:=h
theorem pivots191 (h:WK t tl B w p v d) (hG:Glob N w) (hN:N≤B) (hd:d.Ok) (i:Nat) (hi:i<d.ln.length) (q:Int):
  Calls Tryz.prog 191 #[pt p 0,i,q] w (RuleR t tl B p v w (d.pivots i)):=by
 obtain⟨la,ha⟩:=get_of hi;have hpe:=pivots_eq ha;obtain⟨af,at',ah⟩:=la;obtain⟨⟨hf0,hf1⟩,ht0,ht1⟩:=hd.ln _ (List.mem_of_getElem? ha);dsimp only at hf0 hf1 ht0 ht1;obtain⟨fn,rfl⟩:=Int.eq_ofNat_of_zero_le hf0;obtain⟨tn,rfl⟩:=Int.eq_ofNat_of_zero_le ht0;have hn:=h.own.n2;have hn1:=h.own.n1;have hn2:=hd.n2;have hn1':=hd.n1;have h1a:=h.alloc (.cells #[pt p 0] 79);have cb:=(Blk.new w #[pt p 0] 79).cell 0 _ rfl;obtain⟨_,c1,_,_,_,_,_,_,_,_⟩:=h1a.nine;obtain⟨g,hA,a0,a1,a2,gf⟩:=h1a.own.lnAt ha;rw[hA]at c1;have hiz:(i:Int)<(v.n2:Int):=oM
 obtain⟨mn,mx,hmn,hmx,hml,hxl,hmc,hll⟩:∃mn mx:Nat,(mn:Int)=min (fn:Int) tn∧(mx:Int)=max (fn:Int) tn∧mn<d.sp.length∧mx<d.sp.length∧(((tn:Int)<fn∧mn=tn∧mx=fn)∨(¬(tn:Int)<fn∧(¬(fn:Int)<tn→mn=mx)∧mn=fn∧mx=tn))∧((Line.mk (fn:Int) tn ah).loop=decide (mn=mx)):=by
  by_cases h9:(tn:Int)<fn
  · exact⟨tn,fn,oM,oM,oM,oM, .inl ⟨h9,rfl,rfl⟩,by unfold Line.loop;rw[Bool.eq_iff_iff,decide_eq_true_iff,decide_eq_true_iff];dsimp only;omega⟩
  exact⟨fn,tn,oM,oM,oM,oM, .inr ⟨h9,oM,rfl,rfl⟩,by unfold Line.loop;rw[Bool.eq_iff_iff,decide_eq_true_iff,decide_eq_true_iff];dsimp only;omega⟩
 rw[show (Line.mk (fn:Int) tn ah).lo=(mn:Int) from hmn.symm,show (Line.mk (fn:Int) tn ah).hi=(mx:Int) from hmx.symm,hll]at hpe;clear hmn hmx hll;obtain⟨su,hsu⟩:=get_of hml;obtain⟨sv,hsv⟩:=get_of hxl;rw[kindAt_of hsu,kindAt_of hsv,phaseAt_of hsu,phaseAt_of hsv]at hpe;have HPU:Aside (0≤su.phase∧su.phase≤7∧0≤sv.phase∧sv.phase≤7):=⟨(hd.sp _ (List.mem_of_getElem? hsu)).2.1,(hd.sp _ (List.mem_of_getElem? hsu)).2.2,(hd.sp _ (List.mem_of_getElem? hsv)).2.1,(hd.sp _ (List.mem_of_getElem? hsv)).2.2⟩;have HM:=Lib.hid hpe;have HPA:Aside (d.phaseAt mn=su.phase∧d.phaseAt mx=sv.phase):=⟨phaseAt_of hsu,phaseAt_of hsv⟩;have HK:=Lib.hid h;have HD:=Lib.hid hd;have HG:=Lib.hid hG;have HSU:=Lib.hid hsu;have HSV:=Lib.hid hsv;have HLM:=Lib.hid (And.intro hml hxl)
 have HNN:Aside (d.sp.length=v.n1∧v.n1≤40∧d.ln.length=v.n2∧v.n2≤100):=⟨hn1,oM,hn,oM⟩;have hKW:=(h.alloc (.cells #[pt p 0] 79)).alloc (.cells #[fn,tn, .bool ah] 77);have hUW:Upd p v w v ((w.alloc (.cells #[pt p 0] 79)).alloc (.cells #[fn,tn, .bool ah] 77)):=((Upd.refl p v w).alloc _).alloc _;have hBB:=(Blk.new w #[pt p 0] 79).alloc (.cells #[fn,tn, .bool ah] 77);have hXB:=Blk.new (w.alloc (.cells #[pt p 0] 79)) #[fn,tn, .bool ah] 77;obtain⟨xb,hxb⟩:∃xb,xb=(w.alloc (.cells #[pt p 0] 79)).heap.size:=⟨_,rfl⟩;rw[←hxb]at hXB;have hab:Aprt w.heap.size p v ((w.alloc (.cells #[pt p 0] 79)).alloc (.cells #[fn,tn, .bool ah] 77)):=(h.new_aprt _).alloc _;have hax:Aprt xb p v ((w.alloc (.cells #[pt p 0] 79)).alloc (.cells #[fn,tn, .bool ah] 77)):=by rw[hxb];exact(h.alloc (.cells #[pt p 0] 79)).new_aprt _
 have hxw:w.heap.size+1=xb:=by rw[hxb];simp
 have HXW:=Lib.hid hxw;obtain⟨W,hW⟩:∃W,W=(w.alloc (.cells #[pt p 0] 79)).alloc (.cells #[fn,tn, .bool ah] 77):=⟨_,rfl⟩;rw[←hW]at hKW hUW hBB hXB hab hax;have HW:=Lib.hid hW;clear hW;have HBB:=Lib.hid hBB;have HXB:=Lib.hid hXB;have HKW:=Lib.hid hKW;have HUW:=Lib.hid hUW;have HAB:=Lib.hid hab;have HAX:=Lib.hid hax;have HML:Aside (((tn:Int)<fn∧mn=tn∧mx=fn)∨(¬(tn:Int)<fn∧(¬(fn:Int)<tn→mn=mx)∧mn=fn∧mx=tn)):=hmc;clear h1a hpe h hd hG hsu hsv hml hxl hKW hUW hBB hXB hab hax hmc hxb ha hA gf hf0 hf1 ht0 ht1 hi;generalize d.pivots i=M at *;go_enter Tryz.func191,Tryz.ntmps191
 go_upto_region 2 with fail
 rw[←HW.out];clear c1 a0 a1 a2 cb hxw;have x0:=HXB.out.cell 0 _ rfl;have x1:=HXB.out.cell 1 _ rfl
 go_cut [9,10] (fun s9 s10 wx=>s9=mn∧s10=mx∧Aside (Below W.heap.size W wx))
 case first=>
  have hml:=HML.out;clear HML
  rcases hml with⟨h9,rfl,rfl⟩|⟨h9,hz,rfl,rfl⟩
  · go_region
    all_goals (go_wp2_with fail;go_meet)
    all_goals exact⟨congrArg (Value.int .i64) oM,congrArg (Value.int .i64) oM,bR.drew⟩
  by_cases h8:(mn:Int)<mx
  · clear hz
    go_region
    all_goals (go_wp2_with fail;go_meet)
    all_goals exact⟨congrArg (Value.int .i64) oM,congrArg (Value.int .i64) oM,bR.drew⟩
  obtain rfl:=hz h8;clear hz h8
  go_region
  all_goals (go_wp2_with fail;go_meet)
  all_goals exact⟨congrArg (Value.int .i64) oM,congrArg (Value.int .i64) oM,bR.drew⟩
 obtain⟨rfl,rfl,HB2⟩:=hcut;clear x0 x1;have hK2:=HKW.out.below HB2.out;have hU2:=HUW.out.then_below HB2.out;have hBB:=HBB.out.below HB2.out;have hXB:=HXB.out.below HB2.out;have HAB2:=Lib.hid (HAB.out.le HB2.out.size);have HAX2:=Lib.hid (HAX.out.le HB2.out.size);have HK2:=Lib.hid hK2;have HU2:=Lib.hid hU2;have HBB2:=Lib.hid hBB;have HXB2:=Lib.hid hXB;have b0:=hBB.cell 0 _ rfl;have x2:=hXB.cell 2 _ rfl;obtain⟨c0,_,_,_,_,_,_,_,_,_⟩:=hK2.nine;obtain⟨g1,hA1,_,e1,_⟩:=hK2.own.spAt HSU.out;obtain⟨g1',hA1',_,e3,_⟩:=hK2.own.spAt HSV.out;rw[hA1]at hA1' c0;cases hA1'
 have H193u:=is193 hK2 mn HLM.out.1 1;have H193v:=is193 hK2 mx HLM.out.2 1;rw[kindAt_of HSU.out]at H193u;rw[kindAt_of HSV.out]at H193v;have HA1:=Lib.hid hA1;clear hK2 hU2 hBB hXB hA1;generalize su.kind=ku at *;generalize sv.kind=kv at *;generalize hpu0:su.phase=pu at *;generalize hpv0:sv.phase=pv at *;have HPE:=Lib.hid (And.intro hpu0 hpv0);clear hpu0 hpv0;have hmz:(mn:Int)<(v.n1:Int):=by have:=HLM.out;have:=HNN.out;omega
 have hxz:(mx:Int)<(v.n1:Int):=by have:=HLM.out;have:=HNN.out;omega
 by_cases hb:mn=mx
 · have HM0:Aside (M=none):=by
    have h9:=HM.out;rw[if_pos (.inl (by simp[hb]))]at h9;exact h9
   exact xe32_0
 have hbz:((mn:Int)==(mx:Int))=false:=by simp;omega
 rcases Bool.eq_false_or_eq_true ah with rfl|rfl
 rotate_left
 · have HM0:Aside (M=none):=by
    have h9:=HM.out;rw[if_pos (.inr (.inl rfl))]at h9;exact h9
   exact xe32_0
 by_cases hku:ku=1
 rotate_left
 · rw[show (ku==1)=false by simpa using hku]at H193u
   have HM0:Aside (M=none):=by
    have h9:=HM.out;rw[if_pos (.inr (.inr (.inl hku)))]at h9;exact h9
   exact xe32_0
 rw[show (ku==1)=true by simpa using hku]at H193u
 by_cases hkv:kv=1
 rotate_left
 · rw[show (kv==1)=false by simpa using hkv]at H193v
   have HM0:Aside (M=none):=by
    have h9:=HM.out;rw[if_pos (.inr (.inr (.inr (.inl hkv))))]at h9;exact h9
   exact xe32_0
 rw[show (kv==1)=true by simpa using hkv]at H193v;have hpp:=HPU.out;have hrm:∀z:Int,0≤z→z.tmod 4=z%4:=fun z hz=>Int.tmod_eq_emod_of_nonneg hz
 by_cases hpu:pu%4=0
 rotate_left
 · have hz1:(pu.tmod 4 != 0)=true:=by rw[hrm _ hpp.1];simpa using hpu
   have HM0:Aside (M=none):=by
    have h9:=HM.out;rw[if_pos (.inr (.inr (.inr (.inr (.inl hpu)))))]at h9;exact h9
   exact xe32_0
 have hz1:(pu.tmod 4 != 0)=false:=by rw[hrm _ hpp.1];simpa using hpu
 by_cases hpv:pv%4=0
 rotate_left
 · have hz2:(pv.tmod 4 != 0)=true:=by rw[hrm _ hpp.2.2.1];simpa using hpv
   have HM0:Aside (M=none):=by
    have h9:=HM.out;rw[if_pos (.inr (.inr (.inr (.inr (.inr hpv)))))]at h9;exact h9
   exact xe32_0
 have hz2:(pv.tmod 4 != 0)=false:=by rw[hrm _ hpp.2.2.1];simpa using hpv
 have HM2:Aside (M=pivM d i mn mx):=by
  have h9:=HM.out;rw[if_neg]at h9
  · exact h9
  simp[hb,hku,hkv,hpu,hpv]
 clear HM;obtain⟨pp,hp4,hpt⟩:∃pp:Int,(pp=0∨pp=1)∧pu=4*pp:=⟨pu / 4,oM,oM⟩;obtain⟨qq,hq4,hqt⟩:∃qq:Int,(qq=0∨qq=1)∧pv=4*qq:=⟨pv / 4,oM,oM⟩;have hpd:pu.tdiv 4=pp:=by rw[Int.tdiv_eq_ediv_of_nonneg hpp.1];omega
 have hqd:pv.tdiv 4=qq:=by rw[Int.tdiv_eq_ediv_of_nonneg hpp.2.2.1];omega
 have HP4:=Lib.hid hp4;have HQ4:=Lib.hid hq4;have HPT:=Lib.hid hpt;have HQT:=Lib.hid hqt;have H204u:=around204 (HK2.out.alloc (.cells #[mx] 3)) HD.out mn HLM.out.1 i (some ⟨wc.heap.size,0,none⟩) 1 1 [(mx:Int)] (Rd.one (Blk.new _ _ _));have HO1:Aside (∃O1,O1=d.around mn i [(mx:Int)]):=⟨_,rfl⟩;obtain⟨O1,hO1⟩:=HO1;rw[←hO1]at H204u;obtain⟨O2,hO2⟩:∃O2,O2=d.around mx i [(mn:Int)]:=⟨_,rfl⟩;have HO:=Lib.hid (And.intro hO1 hO2);clear hp4 hq4 hpt hqt hO1 hO2 hrm hpu hpv hku hkv hpp;have HBA1:Aside (Below wc.heap.size wc (wc.alloc (.cells #[mx] 3))):=bR.alloc (Nat.le_refl _) _
 go_upto_region 7 with(first
   |(go_at_call 193;(with_reducible refine H193u.mono ?_);rintro e w3 ⟨rfl,rfl⟩;clear H193u)
   |(go_at_call 193;(with_reducible refine H193v.mono ?_);rintro e w3 ⟨rfl,rfl⟩;clear H193v)
   | (go_at_call 204;(with_reducible refine H204u.mono ?_);intro e w3 hr1;clear H204u
      obtain⟨A1,n1,c1,bl1,rfl,hb3,hn3,hs3⟩:=hr1.any;have HR1:=Lib.hid (And.intro hn3 hs3);have HB3:=Lib.hid (below_then HBA1.out hb3);have H204v:=around204 ((HK2.out.below HB3.out).alloc (.cells #[mn] 3)) HD.out mx HLM.out.2 i (some ⟨w3.heap.size,0,none⟩) 1 1 [(mn:Int)] (Rd.one (Blk.new _ _ _));rw[←HO.out.2]at H204v;have b3:=(HBB2.out.below HB3.out).cell 0 _ rfl;have HBA2:Aside (Below w3.heap.size w3 (w3.alloc (.cells #[mn] 3))):=bR.alloc (Nat.le_refl _) _
      clear hr1 hb3 hn3 hs3)
   | (go_at_call 204;(with_reducible refine H204v.mono ?_);intro e w4 hr2;clear H204v
      obtain⟨A2,n2,c2,bl2,rfl,hb4,hn4,hs4⟩:=hr2.any;have HR2:=Lib.hid (And.intro hn4 hs4);have HB4:=Lib.hid (below_then HBA2.out hb4);have b4:=((HBB2.out.below HB3.out).below HB4.out).cell 0 _ rfl
      clear hr2 hb4 hn4 hs4))
 have hB24:Below wc.heap.size wc w4:=below_then HB3.out HB4.out;have HB24:=Lib.hid hB24;clear hB24
 rcases Bool.eq_false_or_eq_true bl1 with rfl|rfl
 rotate_left
 · have HM0:Aside (M=none):=by
    have h9:=HM2.out;unfold pivM at h9;rw[←HO.out.1,←HO.out.2,HR1.out.1 rfl]at h9;rw[h9]
    first|exact aside_rfl|(cases O1<;>exact aside_rfl)
   go_wp2_with fail
   refine bodyPost_ret (v:= .tuple #[.bool false, .int .i64 0]) (by simp[results,Tryz.results191,go_sem]) rfl (by rw[HM0.out];exact RuleR.none 0 (HU2.out.then_below HB24.out).t)
 rcases Bool.eq_false_or_eq_true bl2 with rfl|rfl
 rotate_left
 · have HM0:Aside (M=none):=by
    have h9:=HM2.out;unfold pivM at h9;rw[←HO.out.1,←HO.out.2,HR2.out.1 rfl]at h9;rw[h9]
    first|exact aside_rfl|(cases O1<;>exact aside_rfl)
   go_wp2_with fail
   refine bodyPost_ret (v:= .tuple #[.bool false, .int .i64 0]) (by simp[results,Tryz.results191,go_sem]) rfl (by rw[HM0.out];exact RuleR.none 0 (HU2.out.then_below HB24.out).t)
 obtain⟨l,hl1,hl2,hl3⟩:=HR1.out.2 rfl;obtain⟨m,hm1,hm2,hm3⟩:=HR2.out.2 rfl;subst hl2 hm2;have HL3:=Lib.hid hl3;have HM3:=Lib.hid hm3;have HLM1:=Lib.hid (And.intro hl1 hm1);clear hl1 hm1 hl3 hm3 HR1 HR2
 have HLL:Aside (l.length≤40∧m.length≤40∧(∀x∈l,0≤x∧x<(d.sp.length:Int))∧∀x∈m,0≤x∧x<(d.sp.length:Int)):=by
  obtain⟨h1,h2⟩:=HLM1.out;have h3:=around_some (HO.out.1.symm.trans h1);have h4:=around_some (HO.out.2.symm.trans h2);have h5:=HNN.out;exact⟨oM,oM,h3.2.2,h4.2.2⟩
 have hK4:=HK2.out.below HB24.out;obtain⟨c40,_,_,_,_,_,_,_,_,_⟩:=hK4.nine;obtain⟨g4,hA4,_,e41,_⟩:=hK4.own.spAt HSU.out;obtain⟨g4',hA4',_,e43,_⟩:=hK4.own.spAt HSV.out;rw[hA4]at hA4' c40;cases hA4'
 have hA14:g4=g1:=by have h9:=HA1.out;rw[hA4]at h9;cases h9;rfl
 subst hA14;have HK4:=Lib.hid hK4;clear hK4 hA4 c0 e1 e3 b0 x2 b3
 go_upto_region 9 with fail
 have hpw:RowKit.wrap64 pp=pp:=by exact IntWalk.wrap64_in _ (by rcases HP4.out with h|h<;>rw[h]<;>decide)
 have hqw:RowKit.wrap64 qq=qq:=by exact IntWalk.wrap64_in _ (by rcases HQ4.out with h|h<;>rw[h]<;>decide)
 rw[HPE.out.1]at e41;rw[HPE.out.2]at e43
 go_quiet (fail)
 obtain⟨w5,hw5⟩:∃w5,w5=w4.drewN nq:=⟨_,rfl⟩;rw[hpw,hqw,←hw5];have hB45:Below w4.heap.size w4 w5:=by rw[hw5];exact below_dN bR _
 have hr1:Rd 1 inC w5 A1 l.length l:=(Rd.owned dE inC_len HL3.out).below HB4.out |>.below hB45;have hr2:Rd 1 inC w5 A2 m.length m:=(Rd.owned dE inC_len HM3.out).below hB45;have hz5:w4.heap.size≤w5.heap.size:=hB45.size;have hz4:=HB4.out.size;obtain⟨a,hea⟩:∃a,a=l.filter (fun k=>!decide (k∈m)):=⟨_,rfl⟩;obtain⟨b,heb⟩:∃b,b=m.filter (fun k=>!decide (k∈l)):=⟨_,rfl⟩;obtain⟨c,hec⟩:∃c,c=l.filter (fun k=>!decide (k∈a)):=⟨_,rfl⟩;have H206:=split206 A1 l.length c1 l A2 m.length c2 m w5 hr1 hr2 (fun x hx=>by subst hx;have:=(ownsRow_lt HM3.out x.block (by simp[ownB])).2;omega) (fun x hx=>by subst hx;have:=(ownsRow_lt HL3.out x.block (by simp[ownB])).2;omega) (by have:=HLL.out;omega) (by have:=HLL.out;omega) a b c hea heb hec;have HABC:=Lib.hid (And.intro hea (And.intro heb hec))
 clear hea heb hec;have HB25:=Lib.hid (HB24.out.trans (hB45.mono HB24.out.size));clear hr1 hr2 hB45 hz5 hz4 hw5 hpw hqw hpd hqd c40 e41 e43 b4
 go_upto_region 11 with(go_at_call 206;(with_reducible refine H206.mono ?_);rintro e w6 ⟨Aa,ca,Ab,cb,Ac,cc,rfl,ha6,hb6,hc6,hb56⟩;clear H206;have HA6:=Lib.hid ha6;have HB6:=Lib.hid hb6;have HC6:=Lib.hid hc6;have HB56:=Lib.hid hb56;clear ha6 hb6 hc6 hb56)
 have hK6:=(HK2.out.below HB25.out).below (HB56.out.mono (Nat.le_refl _));obtain⟨sb,hsb⟩:∃sb,sb=w6.heap.size:=⟨_,rfl⟩;obtain⟨w7,hw7⟩:∃w7,w7=w6.alloc (.cells #[.slice Aa a.length ca, .slice Ab b.length cb, .slice Ac c.length cc] 219):=⟨_,rfl⟩;obtain⟨mb,hmb⟩:∃mb,mb=w7.heap.size:=⟨_,rfl⟩;have hms:mb=sb+1:=by rw[hmb,hw7,hsb];simp
 have hBlk1:Blk w7 sb [.slice Aa a.length ca, .slice Ab b.length cb, .slice Ac c.length cc] 219:=by rw[hw7,hsb];exact Blk.new _ _ _
 have hbx6:=(HBB2.out.below HB25.out).below (HB56.out.mono (Nat.le_refl _));have hB67:Below w6.heap.size w6 w7:=by rw[hw7];exact bR.alloc (Nat.le_refl _) _
 obtain⟨W8,hW8⟩:∃W8,W8=w7.alloc (.cells #[.int .i64 0] 3):=⟨_,rfl⟩;have hB78:Below w7.heap.size w7 W8:=by rw[hW8];exact bR.alloc (Nat.le_refl _) _
 have hz2:=HAB2.out.1;have hz5:=HB25.out.size;have hz6:=HB56.out.size;have hKl:=HK2.out.lt;have hol:=HK2.out.own.lt
 have hro:∀(A:Option Addr) (cx:Nat) (xs:List Int),w6.ownsRow w5.heap.size 3 1 (.slice A xs.length cx) xs.length (xs.flatMap inC)→RowA mb p v W8 A cx xs:=by
  intro A cx xs hr;refine⟨⟨_,ownsRow_below (ownsRow_below hr hB67) hB78⟩,fun x hx hm=>?_⟩
  have h1:=ownsRow_lt hr x hx
  rcases List.mem_cons.1 hm with rfl|hm
  · omega
  rcases List.mem_cons.1 hm with rfl|hm
  · omega
  have:=(hol x hm).2;omega
 have hPV:PV t tl B p w.heap.size mb sb Aa Ab Ac ca cb cc a b c v W8 d 0:=by
  have hs8:W8.heap.size=mb+1:=by rw[hW8,hmb];simp
  have hs6:w7.heap.size=mb:=hmb.symm;have hap:∀x,w6.heap.size≤x→x<W8.heap.size→Aprt x p v W8:=fun x h1 h2=>⟨h2,oM,fun hm=>by have:=(hol x hm).2;omega⟩;exact⟨(hK6.below hB67).below hB78,(hbx6.below hB67).below hB78,⟨oM,HAB2.out.2⟩,(by rw[hW8,hmb];exact Blk.new _ _ _),hap mb oM oM,hBlk1.below hB78,hap sb oM oM,oM,oM,hro _ _ _ HA6.out,hro _ _ _ HB6.out,hro _ _ _ HC6.out⟩
 have HU8:Aside (Upd p v w v W8):=(((HU2.out.then_below HB25.out).then_below HB56.out).then_below hB67).then_below hB78;have HMW:Aside (w.heap.size≤mb):=by have:=HU2.out.t.size;show _≤_;omega
 have HABCL:Aside (a.length≤40∧b.length≤40∧c.length≤40∧(∀x∈a,0≤x∧x<(d.sp.length:Int))∧(∀x∈b,0≤x∧x<(d.sp.length:Int))∧∀x∈c,0≤x∧x<(d.sp.length:Int)):=by
  obtain⟨h1,h2,h3⟩:=HABC.out;obtain⟨h4,h5,h6,h7⟩:=HLL.out;have g1:=List.length_filter_le (fun k=>!decide (k∈m)) l;have g2:=List.length_filter_le (fun k=>!decide (k∈l)) m;have g3:=List.length_filter_le (fun k=>!decide (k∈a)) l;rw[←h1]at g1;rw[←h2]at g2;rw[←h3]at g3;refine⟨oM,oM,oM,fun x hx=>?_,fun x hx=>?_,fun x hx=>?_⟩
  · rw[h1]at hx;exact h6 x (List.mem_filter.1 hx).1
  · rw[h2]at hx;exact h7 x (List.mem_filter.1 hx).1
  rw[h3]at hx;exact h6 x (List.mem_filter.1 hx).1
 go_upto_region 12 with fail
 rw[show w6.heap.size+1=mb by omega,←hw7,←hW8]
 try rw[←hsb]
 have HPV:=Lib.hid hPV;clear hK6 hBlk1 hbx6 hB67 hB78 hz2 hz5 hz6 hKl hol hro hms hsb hw7 hW8 hmb;have s0:=hPV.isb.cell 0 _ rfl;have s1:=hPV.isb.cell 1 _ rfl;have H207a:=hPV.all hPV.ra hPV.rb HABCL.out.1 HABCL.out.2.1 (by have:=HNN.out;omega) oM;clear hPV
 have HKK:Aside (a.length*b.length≤1600∧a.length*c.length≤1600∧b.length*c.length≤1600):=by
  have h1:=HABCL.out;exact⟨Nat.mul_le_mul h1.1 h1.2.1,Nat.mul_le_mul h1.1 h1.2.2.1,Nat.mul_le_mul h1.2.1 h1.2.2.1⟩
 go_upto_region 17 with(first
   | (go_at_call 207;(with_reducible refine H207a.mono ?_);rintro e w9 ⟨⟨z9,rfl⟩,v9,hP9,hM9⟩;clear H207a
      have HU9:Aside (Upd p v w v9 w9):=HU8.out.updM hM9 HMW.out;have HM9:=Lib.hid hM9;have s90:=hP9.isb.cell 0 _ rfl;have s92:=hP9.isb.cell 2 _ rfl;have H207b:=hP9.all hP9.ra hP9.rc HABCL.out.1 HABCL.out.2.2.1 (by have:=HNN.out;have:=HKK.out.1;show (d.ln++between a b).length≤10000;rw[List.length_append,between_len];omega) (by have:=HKK.out.1;omega)
      clear hP9 hM9 s0 s1)
   | (go_at_call 207;(with_reducible refine H207b.mono ?_);rintro e w10 ⟨⟨z10,rfl⟩,v10,hP10,hM10⟩;clear H207b
      have HU10:Aside (Upd p v w v10 w10):=HU9.out.updM hM10 HMW.out;have HM10:=Lib.hid hM10;have s101:=hP10.isb.cell 1 _ rfl;have s102:=hP10.isb.cell 2 _ rfl;have H207c:=hP10.all hP10.rb hP10.rc HABCL.out.2.1 HABCL.out.2.2.1 (by have:=HNN.out;have:=HKK.out;show (d.ln++between a b++between a c).length≤10000;rw[List.length_append,List.length_append,between_len,between_len];omega) (by have:=HKK.out;omega)
      clear hP10 hM10 s90 s92)
   | (go_at_call 207;(with_reducible refine H207c.mono ?_);rintro e w11 ⟨⟨z11,rfl⟩,v11,hP11,hM11⟩;clear H207c
      have HU11:Aside (Upd p v w v11 w11):=HU10.out.updM hM11 HMW.out;have HP11:=Lib.hid hP11;have s110:=hP11.isb.cell 0 _ rfl;have s111:=hP11.isb.cell 1 _ rfl;have s112:=hP11.isb.cell 2 _ rfl
      clear hP11 hM11 s101 s102))
 obtain⟨D,hD⟩:∃D:Diag,D={d with ln:=d.ln++between a b++between a c++between b c}:=⟨_,rfl⟩;obtain⟨kn,hkn⟩:∃kn:Nat,kn=0+a.length*b.length+a.length*c.length+b.length*c.length:=⟨_,rfl⟩;have hP11:PV t tl B p w.heap.size mb sb Aa Ab Ac ca cb cc a b c v11 w11 D kn:=by rw[hD,hkn];exact HP11.out
 have HDD:Aside (D.sp.length=d.sp.length∧∀s∈D.sp,0≤s.phase∧s.phase≤7):=by rw[hD];exact⟨rfl,fun s hs=>(HD.out.sp s hs).2⟩
 have HDE:=Lib.hid hD;have HKN:=Lib.hid hkn;have HPD:=Lib.hid hP11;clear s110 s111 s112 hD hkn hP11 HP11
 go_loopg [162] 3 (fun gg s162 wr=>∃(kk:Nat) (v1:DV),kk≤3∧3-kk≤gg∧s162=kk∧Aside (PV t tl B p w.heap.size mb sb Aa Ab Ac ca cb cc a b c v1 wr (stg D pp qq a b c kk) kn)∧Aside (Upd p v w v1 wr))
 case atStart=>exact⟨0,v11,Nat.zero_le _,oM,rfl,HPD.out,HU11.out⟩
 obtain⟨kk,v1,hkn3,hgg,rfl,hO,hT⟩:=hrel
 by_cases hlt:kk<3
 · have hltz:(kk:Int)<3:=oM
   rcases (show kk=0∨kk=1∨kk=2 by omega) with rfl|rfl|rfl
   · have HRow:Aside (∀(v2:DV) (wr:World) (d2:Diag),PV t tl B p w.heap.size mb sb Aa Ab Ac ca cb cc a b c v2 wr d2 kn→RowA mb p v2 wr Aa ca a):=fun _ _ _ h=>h.ra;have hi2:=idx222_0;go_wp2_with fail
     clear hi2
     go_loopg [168] a.length (fun gg s168 wr=>∃(jr:Nat) (v2:DV),jr≤a.length∧a.length-jr≤gg∧s168=jr∧Aside (PV t tl B p w.heap.size mb sb Aa Ab Ac ca cb cc a b c v2 wr ((stg D pp qq a b c 0).addAll (4*qq) (a.take jr)) kn)∧Aside (Upd p v w v2 wr))
     case atStart=>exact⟨0,v1,Nat.zero_le _,oM,rfl,hO,hT⟩
     obtain⟨jr,v2,hj,hgg2,rfl,hO2,hT2⟩:=hrel
     by_cases hlt2:jr<a.length
     · have hltz2:(jr:Int)<(a.length:Int):=oM
       obtain⟨x,hx⟩:=get_of hlt2;have HX:=Lib.hid hx;have hxm:=HABCL.out.2.2.2.1 x (List.mem_of_getElem? hx);obtain⟨xn,rfl⟩:∃xn:Nat,x=xn:=⟨x.toNat,oM⟩;obtain⟨gr,hgr,l0⟩:=(HRow.out _ _ _ hO2.out).at hx;have HGR:=Lib.hid hgr;rw[hgr];have hbx:=hO2.out.ibx.cell 0 _ rfl
       have H195:Aside (∀u,Below wr.heap.size wr u→Calls Tryz.prog 195 #[pt p 0,xn, .int .i64 (4*qq)] u fun e w'=>(∃z,e= .returned z)∧WK t tl B w' p v2 (((stg D pp qq a b c 0).addAll (4*qq) (a.take jr)).addPh xn (4*qq))∧Upd p v2 wr v2 w'):=by
        intro u hu;have h4:=HP4.out;have h5:=HQ4.out;refine(add195 (hO2.out.K.below hu) xn (by have h9:=stg_len D pp qq a b c 0;have h8:((stg D pp qq a b c 0).addAll (4*qq) (a.take jr)).sp.length=_:=len_addAll;have h7:=HDD.out.1;omega) (4*qq) oM oM (addAll_phase _ _ (stg_phase HDD.out.2 pp qq a b c 0))).mono ?_
        rintro e w' ⟨hz,hK,hU⟩;exact⟨hz,hK,(Upd.of_touch ((Touch.of_below hu).mono sI)).trans hU⟩
       clear hx hxm hgr
       go_upto_region 22 with fail
       have HBX:Aside (∀u,Below wr.heap.size wr u→u.cell? ⟨w.heap.size,0,none⟩=some (pt p 0)):=fun u hu=>(hO2.out.ibx.below hu).cell 0 _ rfl;have hp01:0≤pp∧pp≤1:=by have:=HP4.out;omega
       have hq01:0≤qq∧qq≤1:=by have:=HQ4.out;omega
       obtain⟨hp0,hp1⟩:=hp01;obtain⟨hq0,hq1⟩:=hq01;have hi3:=idx223_0;have hwa:IntKind.i64.wrap (pp+qq)=pp+qq:=IntWalk.i64_in _ oM;have hwb:IntKind.i64.wrap (pp+qq+1)=pp+qq+1:=IntWalk.i64_in _ oM;have hwc:IntKind.i64.wrap (4*qq)=4*qq:=IntWalk.i64_in _ oM;clear hbx l0
       refine wp_region_F [(172,13)] (fun l u=>l 12=false→Below wr.heap.size wr u) (fun i u u'=>match i with|12=>True|_=>Below u.heap.size u u') (fun j x u=>match j with|0=>x 172=pt p 0|1=>x 173=xn|2=>x 174=qq|3=>x 175=pp|4=>x 176=pp|5=>x 177=qq|6=>x 178= .int .i64 (pp+qq)|7=>x 179= .int .i64 (pp+qq+1)|8=>x 180= .agg #[qq,pp, .int .i64 (pp+qq+1)]|9=>x 181= .int .i64 ↑0|10=>x 182=qq|11=>x 183= .int .i64 (4*qq)|12=>WK t tl B u p v2 (((stg D pp qq a b c 0).addAll (4*qq) (a.take jr)).addPh xn (4*qq))∧Upd p v2 wr v2 u|_=>True) ?h0 ?hkeep ?hstep ?d0
       case h0=>exact fun _=>bR.drew
       case hkeep=>
        exact xe32_1
       case hstep=>
        dsimp only[fil,fls,fl,List.toList_toArray,Nat.reduceAdd];refine⟨?c0,?_,?_,?_,?_,?_,?_,?_,?_,?_,?_,?_,?c12,trivial⟩
        all_goals intro l x u hG hno hli hpre hd K hK
        case c0=>
         clear hd;have b0:=HBX.out u (hG (hno 12 kR));go_simp
         exact hK _ _ rfl bR (fun h=>hG sH)
        case c12=>
         have e0:x 172=pt p 0:=hd ⟨0, .data⟩ sI rfl;have e1:x 173= .int .i64 ↑xn:=hd ⟨1, .data⟩ sI rfl;have e11:x 183= .int .i64 (4*qq):=hd ⟨11, .data⟩ sI rfl;clear hd;simp only[e0,e1,e11]at hK ⊢;have hBl:=hG hli;go_simp
         (with_reducible refine(H195.out u hBl).mono ?_);rintro e u2 ⟨⟨z9,rfl⟩,hK9,hU9⟩
         exact hK _ _ ⟨hK9,hU9⟩ trivial (fun h=>by simp at h)
        all_goals
         dsimp only at hd;simp only[eB]at hd
         try simp only[hd]at hK ⊢
         go_simp
         exact hK _ _ rfl bR (fun h=>hG sH)
       dsimp only[fil,fls,fl,List.toList_toArray,Nat.reduceAdd];rintro l_1 x_1 u hall hG ⟨_,_,_,_,_,_,_,_,_,_,_,_,tS,_⟩;obtain⟨hK9,hU9⟩:=tS;clear hall hG;rw[addAll_take HX.out]at hK9;have HP9:Aside (PV t tl B p w.heap.size mb sb Aa Ab Ac ca cb cc a b c v2 u ((stg D pp qq a b c 0).addAll (4*qq) (a.take (jr+1))) kn):=hO2.out.upd hU9 hK9;have HU9:Aside (Upd p v w v2 u):=hT2.out.trans hU9;clear hK9 hU9 hi3 hO2 hT2 H195;go_wp2_with fail
       rw[←HGR.out]
       go_roundg (a.length-(jr+1))
       case measure=>omega
       exact⟨jr+1,v2,oM,Nat.le_refl _,(by have g1:=HABCL.out.1;have g2:=HABCL.out.2.1;have g3:=HABCL.out.2.2.1;first|rfl|exact congrArg (Value.int .i64) ((IntWalk.wrap64_in _ oM).trans oM)),HP9,HU9⟩
     have hltz2:¬(jr:Int)<(a.length:Int):=oM
     have hjj:jr=a.length:=oM
     have hO3:Aside (PV t tl B p w.heap.size mb sb Aa Ab Ac ca cb cc a b c v2 wr (stg D pp qq a b c (0+1)) kn):=by
      have h9:=hO2.out;rw[hjj,List.take_length]at h9;exact h9
     clear hO2 hjj;go_wp2_with fail
     go_roundg (3-(0+1))
     case measure=>omega
     exact⟨0+1,v2,oM,Nat.le_refl _,nX,hO3,hT2⟩
   · have HRow:Aside (∀(v2:DV) (wr:World) (d2:Diag),PV t tl B p w.heap.size mb sb Aa Ab Ac ca cb cc a b c v2 wr d2 kn→RowA mb p v2 wr Ab cb b):=fun _ _ _ h=>h.rb;have hi2:=idx222_1;go_wp2_with fail
     clear hi2
     go_loopg [168] b.length (fun gg s168 wr=>∃(jr:Nat) (v2:DV),jr≤b.length∧b.length-jr≤gg∧s168=jr∧Aside (PV t tl B p w.heap.size mb sb Aa Ab Ac ca cb cc a b c v2 wr ((stg D pp qq a b c 1).addAll (4*pp) (b.take jr)) kn)∧Aside (Upd p v w v2 wr))
     case atStart=>exact⟨0,v1,Nat.zero_le _,oM,rfl,hO,hT⟩
     obtain⟨jr,v2,hj,hgg2,rfl,hO2,hT2⟩:=hrel
     by_cases hlt2:jr<b.length
     · have hltz2:(jr:Int)<(b.length:Int):=oM
       obtain⟨x,hx⟩:=get_of hlt2;have HX:=Lib.hid hx;have hxm:=HABCL.out.2.2.2.2.1 x (List.mem_of_getElem? hx);obtain⟨xn,rfl⟩:∃xn:Nat,x=xn:=⟨x.toNat,oM⟩;obtain⟨gr,hgr,l0⟩:=(HRow.out _ _ _ hO2.out).at hx;have HGR:=Lib.hid hgr;rw[hgr];have hbx:=hO2.out.ibx.cell 0 _ rfl
       have H195:Aside (∀u,Below wr.heap.size wr u→Calls Tryz.prog 195 #[pt p 0,xn, .int .i64 (4*pp)] u fun e w'=>(∃z,e= .returned z)∧WK t tl B w' p v2 (((stg D pp qq a b c 1).addAll (4*pp) (b.take jr)).addPh xn (4*pp))∧Upd p v2 wr v2 w'):=by
        intro u hu;have h4:=HP4.out;have h5:=HQ4.out;refine(add195 (hO2.out.K.below hu) xn (by have h9:=stg_len D pp qq a b c 1;have h8:((stg D pp qq a b c 1).addAll (4*pp) (b.take jr)).sp.length=_:=len_addAll;have h7:=HDD.out.1;omega) (4*pp) oM oM (addAll_phase _ _ (stg_phase HDD.out.2 pp qq a b c 1))).mono ?_
        rintro e w' ⟨hz,hK,hU⟩;exact⟨hz,hK,(Upd.of_touch ((Touch.of_below hu).mono sI)).trans hU⟩
       clear hx hxm hgr
       go_upto_region 22 with fail
       have HBX:Aside (∀u,Below wr.heap.size wr u→u.cell? ⟨w.heap.size,0,none⟩=some (pt p 0)):=fun u hu=>(hO2.out.ibx.below hu).cell 0 _ rfl;have hp01:0≤pp∧pp≤1:=by have:=HP4.out;omega
       have hq01:0≤qq∧qq≤1:=by have:=HQ4.out;omega
       obtain⟨hp0,hp1⟩:=hp01;obtain⟨hq0,hq1⟩:=hq01;have hi3:=idx223_1;have hwa:IntKind.i64.wrap (pp+qq)=pp+qq:=IntWalk.i64_in _ oM;have hwb:IntKind.i64.wrap (pp+qq+1)=pp+qq+1:=IntWalk.i64_in _ oM;have hwc:IntKind.i64.wrap (4*pp)=4*pp:=IntWalk.i64_in _ oM;clear hbx l0
       refine wp_region_F [(172,13)] (fun l u=>l 12=false→Below wr.heap.size wr u) (fun i u u'=>match i with|12=>True|_=>Below u.heap.size u u') (fun j x u=>match j with|0=>x 172=pt p 0|1=>x 173=xn|2=>x 174=qq|3=>x 175=pp|4=>x 176=pp|5=>x 177=qq|6=>x 178= .int .i64 (pp+qq)|7=>x 179= .int .i64 (pp+qq+1)|8=>x 180= .agg #[qq,pp, .int .i64 (pp+qq+1)]|9=>x 181= .int .i64 ↑1|10=>x 182=pp|11=>x 183= .int .i64 (4*pp)|12=>WK t tl B u p v2 (((stg D pp qq a b c 1).addAll (4*pp) (b.take jr)).addPh xn (4*pp))∧Upd p v2 wr v2 u|_=>True) ?h0 ?hkeep ?hstep ?d1
       case h0=>exact fun _=>bR.drew
       case hkeep=>
        exact xe32_1
       case hstep=>
        dsimp only[fil,fls,fl,List.toList_toArray,Nat.reduceAdd];refine⟨?c0,?_,?_,?_,?_,?_,?_,?_,?_,?_,?_,?_,?c12,trivial⟩
        all_goals intro l x u hG hno hli hpre hd K hK
        case c0=>
         clear hd;have b0:=HBX.out u (hG (hno 12 kR));go_simp
         exact hK _ _ rfl bR (fun h=>hG sH)
        case c12=>
         have e0:x 172=pt p 0:=hd ⟨0, .data⟩ sI rfl;have e1:x 173= .int .i64 ↑xn:=hd ⟨1, .data⟩ sI rfl;have e11:x 183= .int .i64 (4*pp):=hd ⟨11, .data⟩ sI rfl;clear hd;simp only[e0,e1,e11]at hK ⊢;have hBl:=hG hli;go_simp
         (with_reducible refine(H195.out u hBl).mono ?_);rintro e u2 ⟨⟨z9,rfl⟩,hK9,hU9⟩
         exact hK _ _ ⟨hK9,hU9⟩ trivial (fun h=>by simp at h)
        all_goals
         dsimp only at hd;simp only[eB]at hd
         try simp only[hd]at hK ⊢
         go_simp
         exact hK _ _ rfl bR (fun h=>hG sH)
       dsimp only[fil,fls,fl,List.toList_toArray,Nat.reduceAdd];rintro l_1 x_1 u hall hG ⟨_,_,_,_,_,_,_,_,_,_,_,_,tS,_⟩;obtain⟨hK9,hU9⟩:=tS;clear hall hG;rw[addAll_take HX.out]at hK9;have HP9:Aside (PV t tl B p w.heap.size mb sb Aa Ab Ac ca cb cc a b c v2 u ((stg D pp qq a b c 1).addAll (4*pp) (b.take (jr+1))) kn):=hO2.out.upd hU9 hK9;have HU9:Aside (Upd p v w v2 u):=hT2.out.trans hU9;clear hK9 hU9 hi3 hO2 hT2 H195;go_wp2_with fail
       rw[←HGR.out]
       go_roundg (b.length-(jr+1))
       case measure=>omega
       exact⟨jr+1,v2,oM,Nat.le_refl _,(by have g1:=HABCL.out.1;have g2:=HABCL.out.2.1;have g3:=HABCL.out.2.2.1;first|rfl|exact congrArg (Value.int .i64) ((IntWalk.wrap64_in _ oM).trans oM)),HP9,HU9⟩
     have hltz2:¬(jr:Int)<(b.length:Int):=oM
     have hjj:jr=b.length:=oM
     have hO3:Aside (PV t tl B p w.heap.size mb sb Aa Ab Ac ca cb cc a b c v2 wr (stg D pp qq a b c (1+1)) kn):=by
      have h9:=hO2.out;rw[hjj,List.take_length]at h9;exact h9
     clear hO2 hjj;go_wp2_with fail
     go_roundg (3-(1+1))
     case measure=>omega
     exact⟨1+1,v2,oM,Nat.le_refl _,nX,hO3,hT2⟩
   have HRow:Aside (∀(v2:DV) (wr:World) (d2:Diag),PV t tl B p w.heap.size mb sb Aa Ab Ac ca cb cc a b c v2 wr d2 kn→RowA mb p v2 wr Ac cc c):=fun _ _ _ h=>h.rc;have hi2:=idx222_2;go_wp2_with fail
   clear hi2
   go_loopg [168] c.length (fun gg s168 wr=>∃(jr:Nat) (v2:DV),jr≤c.length∧c.length-jr≤gg∧s168=jr∧Aside (PV t tl B p w.heap.size mb sb Aa Ab Ac ca cb cc a b c v2 wr ((stg D pp qq a b c 2).addAll (4*(pp+qq+1)) (c.take jr)) kn)∧Aside (Upd p v w v2 wr))
   case atStart=>exact⟨0,v1,Nat.zero_le _,oM,rfl,hO,hT⟩
   obtain⟨jr,v2,hj,hgg2,rfl,hO2,hT2⟩:=hrel
   by_cases hlt2:jr<c.length
   · have hltz2:(jr:Int)<(c.length:Int):=oM
     obtain⟨x,hx⟩:=get_of hlt2;have HX:=Lib.hid hx;have hxm:=HABCL.out.2.2.2.2.2 x (List.mem_of_getElem? hx);obtain⟨xn,rfl⟩:∃xn:Nat,x=xn:=⟨x.toNat,oM⟩;obtain⟨gr,hgr,l0⟩:=(HRow.out _ _ _ hO2.out).at hx;have HGR:=Lib.hid hgr;rw[hgr];have hbx:=hO2.out.ibx.cell 0 _ rfl
     have H195:Aside (∀u,Below wr.heap.size wr u→Calls Tryz.prog 195 #[pt p 0,xn, .int .i64 (4*(pp+qq+1))] u fun e w'=>(∃z,e= .returned z)∧WK t tl B w' p v2 (((stg D pp qq a b c 2).addAll (4*(pp+qq+1)) (c.take jr)).addPh xn (4*(pp+qq+1)))∧Upd p v2 wr v2 w'):=by
      intro u hu;have h4:=HP4.out;have h5:=HQ4.out;refine(add195 (hO2.out.K.below hu) xn (by have h9:=stg_len D pp qq a b c 2;have h8:((stg D pp qq a b c 2).addAll (4*(pp+qq+1)) (c.take jr)).sp.length=_:=len_addAll;have h7:=HDD.out.1;omega) (4*(pp+qq+1)) oM oM (addAll_phase _ _ (stg_phase HDD.out.2 pp qq a b c 2))).mono ?_
      rintro e w' ⟨hz,hK,hU⟩;exact⟨hz,hK,(Upd.of_touch ((Touch.of_below hu).mono sI)).trans hU⟩
     clear hx hxm hgr
     go_upto_region 22 with fail
     have HBX:Aside (∀u,Below wr.heap.size wr u→u.cell? ⟨w.heap.size,0,none⟩=some (pt p 0)):=fun u hu=>(hO2.out.ibx.below hu).cell 0 _ rfl;have hp01:0≤pp∧pp≤1:=by have:=HP4.out;omega
     have hq01:0≤qq∧qq≤1:=by have:=HQ4.out;omega
     obtain⟨hp0,hp1⟩:=hp01;obtain⟨hq0,hq1⟩:=hq01;have hi3:=idx223_2;have hwa:IntKind.i64.wrap (pp+qq)=pp+qq:=IntWalk.i64_in _ oM;have hwb:IntKind.i64.wrap (pp+qq+1)=pp+qq+1:=IntWalk.i64_in _ oM;have hwc:IntKind.i64.wrap (4*(pp+qq+1))=4*(pp+qq+1):=IntWalk.i64_in _ oM;clear hbx l0
     refine wp_region_F [(172,13)] (fun l u=>l 12=false→Below wr.heap.size wr u) (fun i u u'=>match i with|12=>True|_=>Below u.heap.size u u') (fun j x u=>match j with|0=>x 172=pt p 0|1=>x 173=xn|2=>x 174=qq|3=>x 175=pp|4=>x 176=pp|5=>x 177=qq|6=>x 178= .int .i64 (pp+qq)|7=>x 179= .int .i64 (pp+qq+1)|8=>x 180= .agg #[qq,pp, .int .i64 (pp+qq+1)]|9=>x 181= .int .i64 ↑2|10=>x 182= .int .i64 (pp+qq+1)|11=>x 183= .int .i64 (4*(pp+qq+1))|12=>WK t tl B u p v2 (((stg D pp qq a b c 2).addAll (4*(pp+qq+1)) (c.take jr)).addPh xn (4*(pp+qq+1)))∧Upd p v2 wr v2 u|_=>True) ?h0 ?hkeep ?hstep ?d2
     case h0=>exact fun _=>bR.drew
     case hkeep=>
      exact xe32_1
     case hstep=>
      dsimp only[fil,fls,fl,List.toList_toArray,Nat.reduceAdd];refine⟨?c0,?_,?_,?_,?_,?_,?_,?_,?_,?_,?_,?_,?c12,trivial⟩
      all_goals intro l x u hG hno hli hpre hd K hK
      case c0=>
       clear hd;have b0:=HBX.out u (hG (hno 12 kR));go_simp
       exact hK _ _ rfl bR (fun h=>hG sH)
      case c12=>
       have e0:x 172=pt p 0:=hd ⟨0, .data⟩ sI rfl;have e1:x 173= .int .i64 ↑xn:=hd ⟨1, .data⟩ sI rfl;have e11:x 183= .int .i64 (4*(pp+qq+1)):=hd ⟨11, .data⟩ sI rfl;clear hd;simp only[e0,e1,e11]at hK ⊢;have hBl:=hG hli;go_simp
       (with_reducible refine(H195.out u hBl).mono ?_);rintro e u2 ⟨⟨z9,rfl⟩,hK9,hU9⟩
       exact hK _ _ ⟨hK9,hU9⟩ trivial (fun h=>by simp at h)
      all_goals
       dsimp only at hd;simp only[eB]at hd
       try simp only[hd]at hK ⊢
       go_simp
       exact hK _ _ rfl bR (fun h=>hG sH)
     dsimp only[fil,fls,fl,List.toList_toArray,Nat.reduceAdd];rintro l_1 x_1 u hall hG ⟨_,_,_,_,_,_,_,_,_,_,_,_,tS,_⟩;obtain⟨hK9,hU9⟩:=tS;clear hall hG;rw[addAll_take HX.out]at hK9;have HP9:Aside (PV t tl B p w.heap.size mb sb Aa Ab Ac ca cb cc a b c v2 u ((stg D pp qq a b c 2).addAll (4*(pp+qq+1)) (c.take (jr+1))) kn):=hO2.out.upd hU9 hK9;have HU9:Aside (Upd p v w v2 u):=hT2.out.trans hU9;clear hK9 hU9 hi3 hO2 hT2 H195;go_wp2_with fail
     rw[←HGR.out]
     go_roundg (c.length-(jr+1))
     case measure=>omega
     exact⟨jr+1,v2,oM,Nat.le_refl _,(by have g1:=HABCL.out.1;have g2:=HABCL.out.2.1;have g3:=HABCL.out.2.2.1;first|rfl|exact congrArg (Value.int .i64) ((IntWalk.wrap64_in _ oM).trans oM)),HP9,HU9⟩
   have hltz2:¬(jr:Int)<(c.length:Int):=oM
   have hjj:jr=c.length:=oM
   have hO3:Aside (PV t tl B p w.heap.size mb sb Aa Ab Ac ca cb cc a b c v2 wr (stg D pp qq a b c (2+1)) kn):=by
    have h9:=hO2.out;rw[hjj,List.take_length]at h9;exact h9
   clear hO2 hjj;go_wp2_with fail
   go_roundg (3-(2+1))
   case measure=>omega
   exact⟨2+1,v2,oM,Nat.le_refl _,nX,hO3,hT2⟩
 have hltz:¬(kk:Int)<3:=oM
 obtain rfl:kk=3:=oM
 have hP:=hO.out;have hU1:=hT.out;obtain⟨S,hS⟩:∃S,S=stg D pp qq a b c 3:=⟨_,rfl⟩;rw[←hS]at hP;obtain⟨r1,r2,r3,r4⟩:=stg_rest D pp qq a b c 3;have r0:=stg_len D pp qq a b c 3;rw[←hS]at r0 r1 r2 r3 r4;have hDe:=HDE.out;have e1:D.ln=d.ln++between a b++between a c++between b c:=by rw[hDe]
 have e2:D.ins=d.ins:=by rw[hDe]
 have e3:D.outs=d.outs:=by rw[hDe]
 have e4:D.sc=d.sc:=by rw[hDe]
 have e5:D.sp.length=d.sp.length:=HDD.out.1;have hAC:=HABCL.out;have hKK:=HKK.out;have hNN:=HNN.out;have hDn3:=HD.out.n3;have hDn4:=HD.out.n4;have hk1:kn≤4800:=by have:=HKN.out;omega
 have HSLn:Aside (∀x∈S.ln,(0≤x.f∧x.f<(d.sp.length:Int))∧0≤x.t∧x.t<(d.sp.length:Int)):=by
  intro x hx;rw[r1,e1]at hx
  rcases List.mem_append.1 hx with hx|hx
  · rcases List.mem_append.1 hx with hx|hx
    · rcases List.mem_append.1 hx with hx|hx
      · exact HD.out.ln x hx
      have:=between_mem hx;exact⟨hAC.2.2.2.1 _ this.1,hAC.2.2.2.2.1 _ this.2⟩
    have:=between_mem hx;exact⟨hAC.2.2.2.1 _ this.1,hAC.2.2.2.2.2 _ this.2⟩
  have:=between_mem hx;exact⟨hAC.2.2.2.2.1 _ this.1,hAC.2.2.2.2.2 _ this.2⟩
 have hl9:S.ln.length≤5000:=by
  rw[r1,e1];simp only[List.length_append,between_len];omega
 have HSI:Aside ((∀x∈S.ins,0≤x∧x<(d.sp.length:Int))∧∀x∈S.outs,0≤x∧x<(d.sp.length:Int)):=by
  rw[r2,r3,e2,e3];exact⟨HD.out.ins,HD.out.outs⟩
 have hlim1:S.Lim:=⟨fun x hx=>by have:=HSLn.out x hx;omega,fun x hx=>by have:=HSI.out.1 x hx;omega,fun x hx=>by have:=HSI.out.2 x hx;omega⟩;have hlim2:(S.away mx).Lim:=away_lim mx (fun x hx=>by have:=HSLn.out x hx;omega) (fun x hx=>by have:=HSI.out.1 x hx;omega) (fun x hx=>by have:=HSI.out.2 x hx;omega);have HLim2:=Lib.hid hlim2;have hKl:=hP.K.len;have hmm:mn<mx:=by have:=HML.out;omega
 have hB1:Aside (v1.n1=d.sp.length∧v1.n2≤5000∧v1.n3≤40000∧v1.n4≤40000):=by
  rw[r0,r2,r3,e2,e3,e5]at hKl;show _∧_
  omega
 have H181a:=away181 hP.K hlim1 mx (by have:=hB1.out;have:=HLM.out;omega) (by have:=hB1.out;omega) (by have:=hB1.out;omega) (by have:=hB1.out;omega) (by have:=hB1.out;omega);have hb1:=hP.ibx.cell 0 _ rfl;have HP:=Lib.hid hP;have HSC:Aside (S.sc=d.sc):=r4.trans e4;have HSL2:Aside (S.sp.length=d.sp.length∧S.ins.length=d.ins.length∧S.outs.length=d.outs.length∧S.ln.length≤5000):=by rw[r0,r2,r3,e2,e3];exact⟨e5,rfl,rfl,hl9⟩
 have HMM:Aside (mn<mx):=hmm
 have HM9:Aside (M=some ((S.away mx).away mn,[Num.omega (4*pp*qq)],1+(kn:Int)-a.length-b.length-2*c.length)):=by
  have h9:=HM2.out;unfold pivM at h9;have hl1:=HLM1.out;rw[←HO.out.1,←HO.out.2,hl1.1,hl1.2,HPA.out.1,HPA.out.2]at h9;dsimp only at h9;obtain⟨g1,g2,g3⟩:=HABC.out;have hp4:=HP4.out;have hq4:=HQ4.out;rw[show pu / 4=pp by have:=HPT.out;omega,show pv / 4=qq by have:=HQT.out;omega,←g1,←g2,←g3]at h9;rw[h9];show some _=some _
  have hln:((between a b++between a c++between b c).length:Int)=kn:=by
   have:=HKN.out;simp only[List.length_append,between_len];omega
  rw[hln,hS,hDe,stg3];rw[←List.append_assoc d.ln (between a b++between a c) (between b c),←List.append_assoc d.ln (between a b) (between a c)]
 clear hO hT hP r0 r1 r2 r3 r4 hDe e1 e2 e3 e4 e5 hAC hKK hNN hDn3 hDn4 hl9 hlim1 hlim2 hKl hmm hS;have HU1:=Lib.hid hU1;clear hU1
 go_upto_region 29 with(first
   | (go_at_call 181;(with_reducible refine H181a.mono ?_);rintro e w4 ⟨⟨z4,rfl⟩,v4,hK4,hU4⟩;clear H181a
      have hP4:=HP.out.upd hU4 hK4;have HU4:=Lib.hid (HU1.out.trans hU4);have hb4:=hP4.ibx.cell 0 _ rfl;have hKl4:=hK4.len
      have hB4:v4.n1+1=d.sp.length∧v4.n2≤5000∧v4.n3≤40000∧v4.n4≤40000:=by
        have h1:=HSL2.out;have h2:(S.away mx).sp.length=v4.n1:=hKl4.1;have h3:((S.ln.filter (fun l=>!l.at mx)).map (Line.down mx)).length=v4.n2:=hKl4.2.1;have h4:(S.ins.map (downI · mx)).length=v4.n3:=hKl4.2.2.1;have h5:(S.outs.map (downI · mx)).length=v4.n4:=hKl4.2.2.2;have h6:(S.sp.eraseIdx (mx:Int).toNat).length=v4.n1:=h2;have h7:=HLM.out;have h8:=List.length_filter_le (fun l:Line=>!l.at mx) S.ln;have h9:=HD.out.n3;have h10:=HD.out.n4;rw[List.length_eraseIdx]at h6;rw[List.length_map]at h3 h4 h5;simp only[Int.toNat_natCast]at h6;rw[if_pos oM]at h6;omega
      have H181b:=away181 hK4 HLim2.out mn (by have:=HMM.out;have:=HLM.out;omega) (by have:=HNN.out;omega) oM oM oM;have HP4v:=Lib.hid hP4
      clear hP4 hb1 hKl4 hB4 hU4 hK4 HP)
   | (go_at_call 181;(with_reducible refine H181b.mono ?_);rintro e w5 ⟨⟨z5,rfl⟩,v5,hK5,hU5⟩;clear H181b
      have hP5:=HP4v.out.upd hU5 hK5;have HU5:=Lib.hid (HU4.out.trans hU5);have hb5:=hP5.ibx.cell 0 _ rfl;have HN5:Aside (((S.away mx).away mn).ln.length=v5.n2):=hK5.len.2.1;obtain⟨_,c51,_,_,_,_,_,_,_,_⟩:=hK5.nine;have HP5:=Lib.hid hP5
      clear hP5 hb4 hU5 hK5 HP4v))
 · skip
   refine bodyPost_ret (v:= .tuple #[.bool true, .int .i64 2]) (by simp[results,Tryz.results191,go_sem]) rfl ?_
   rw[HM9.out];exact RuleR.many HP5.out.K HU5.out (by have:=HN5.out;omega)
 skip
 have HLN:Aside (((S.away mx).away mn).ln.length≤100):=by have:=HN5.out;show _≤_;omega
 have HSC9:Aside (((S.away mx).away mn).sc=d.sc):=HSC.out;have HSCC:Aside (((S.away mx).away mn).sc.check=0):=by rw[HSC9.out];exact HD.out.sc
 have hpq:4*pp*qq=0∨4*pp*qq=4:=by
  have h1:=HP4.out;have h2:=HQ4.out
  rcases h1 with h1|h1<;>rcases h2 with h2|h2<;>rw[h1,h2]<;>decide
 have HOMC:Aside ((Num.omega (4*pp*qq)).form=Num.omega (4*pp*qq)∧(Num.omega (4*pp*qq)).check=0∧0≤(Num.omega (4*pp*qq)).k):=omega_good _ oM oM
 have H112:Aside (∀u:World,Calls Tryz.prog 112 #[.int .i64 (4*pp*qq)] u fun e w'=>e= .returned (numV (Num.omega (4*pp*qq)))∧Below u.heap.size u w'):=by
  intro u;have h9:=omega112 (4*pp*qq) oM oM u;rw[show 4*pp*qq%8=4*pp*qq by omega]at h9;exact h9
 have hw4:IntKind.i64.wrap (4*pp*qq)=4*pp*qq:=IntWalk.i64_in _ oM;have hw5:IntKind.i64.wrap (4*pp)=4*pp:=IntWalk.i64_in _ (by have:=HP4.out;omega);generalize Num.omega (4*pp*qq)=om at *;obtain⟨oa,ob,oc,od,ok⟩:=om;have HBX5:Aside (∀u,Below w5.heap.size w5 u→u.cell? ⟨w.heap.size,0,none⟩=some (pt p 0)):=fun u hu=>(HP5.out.ibx.below hu).cell 0 _ rfl;clear hb5 c51 hpq
 refine wp_region_F [(24,1),(200,8)] (fun l u=>l 7=false→Below w5.heap.size w5 u) (fun i u u'=>match i with|7=>Upd p v5 u v5 u'|_=>Below u.heap.size u u') (fun j x u=>match j with|0=>x 200=pt p 0|1=>x 201=pp|2=>x 202= .int .i64 (4*pp)|3=>x 203=qq|4=>x 204= .int .i64 (4*pp*qq)|5=>x 205=numV (⟨oa,ob,oc,od,ok⟩:Num)|6=>∃q,x 206= .slice (some ⟨q,0,none⟩) 1 1∧w5.heap.size≤q∧Blk u q (numC (⟨oa,ob,oc,od,ok⟩:Num)) 26|7=>(x 207= .int .i64 (((S.away mx).away mn).sc.mulX ⟨oa,ob,oc,od,ok⟩).least.2)∧WK t tl B u p v5 {((S.away mx).away mn) with sc:=if (((S.away mx).away mn).sc.mulX ⟨oa,ob,oc,od,ok⟩).least.2=0 then(((S.away mx).away mn).sc.mulX ⟨oa,ob,oc,od,ok⟩).least.1 else((S.away mx).away mn).sc}∧Upd p v5 w5 v5 u|8=>x 24= .int .i64 (((S.away mx).away mn).sc.mulX ⟨oa,ob,oc,od,ok⟩).least.2|_=>True) ?h0 ?hkeep ?hstep ?d3
 case h0=>exact fun _=>bR.drew
 case hkeep=>
  intro j9 i9 x l u u' hj hi hpre ht hG hR
  by_cases h6:j9=6
  · subst h6;obtain⟨q9,h1,h2,h3⟩:=ht;refine⟨q9,h1,h2,?_⟩
    by_cases hi7:i9=7
    · subst hi7;have hR':Upd p v5 u v5 u':=hR;refine h3.touch hR'.t (fun hm=>?_)
      rcases List.mem_cons.1 hm with rfl|hm
      · have:=HP5.out.K.lt;omega
      have:=(HP5.out.K.own.lt q9 hm).2;omega
    exact h3.below (by have h9:=hR;split at h9<;>first|exact(hi7 rfl).elim|exact h9)
  by_cases h7:j9=7
  · subst h7
    by_cases hi7:i9=7
    · subst hi7;rw[hj]at hi;cases hi
    have hR':Below u.heap.size u u':=by have h9:=hR;split at h9<;>first|exact(hi7 rfl).elim|exact h9
    exact⟨ht.1,ht.2.1.below hR',ht.2.2.then_below hR'⟩
  exact(by have h9:=ht;clear ht;split at h9<;>first|exact h9|exact(h6 rfl).elim|exact(h7 rfl).elim)
 case hstep=>
  dsimp only[fil,fls,fl,List.toList_toArray,Nat.reduceAdd];refine⟨?c0,?_,?_,?_,?_,?c5,?c6,?c7,?c8,trivial⟩
  all_goals intro l x u hG hno hli hpre hd K hK
  case c0=>
   clear hd;have b0:=HBX5.out u (hG (hno 7 kR));go_simp
   exact hK _ _ rfl bR (fun h=>hG sH)
  case c5=>
   have e4:x 204= .int .i64 (4*pp*qq):=hd ⟨4, .data⟩ sI rfl;clear hd;simp only[e4]at hK ⊢;have hBl:=hG (hno 7 kR);go_simp
   (with_reducible refine(H112.out u).mono ?_);rintro e u2 ⟨rfl,hb⟩
   exact hK _ _ rfl hb (fun _=>below_then hBl hb)
  case c6=>
   have e5:x 205=numV (⟨oa,ob,oc,od,ok⟩:Num):=hd ⟨5, .data⟩ sI rfl;clear hd;simp only[e5]at hK ⊢;have hBl:=hG (hno 7 kR);go_simp
   exact hK _ _ ⟨_,rfl,hBl.size,Blk.new _ _ _⟩ (bR.alloc (Nat.le_refl _) _) (fun _=>hBl.alloc hBl.size _)
  case c7=>
   have e0:x 200=pt p 0:=hd ⟨0, .data⟩ sI rfl;have e6:∃q,x 206= .slice (some ⟨q,0,none⟩) 1 1∧w5.heap.size≤q∧Blk u q (numC (⟨oa,ob,oc,od,ok⟩:Num)) 26:=hd ⟨6, .data⟩ sI rfl;clear hd;simp only[e0]at hK ⊢;have hBl:=hG hli;obtain⟨q9,h206,hq9,hB9⟩:=e6;generalize k206:x 206=z206 at h206 hK ⊢;subst h206;have H111:=scale111 (HP5.out.K.below hBl) (⟨oa,ob,oc,od,ok⟩:Num) q9 1 ⟨hB9.lt,(by have:=HP5.out.K.lt;omega),fun hm=>by have:=(HP5.out.K.own.lt q9 hm).2;omega⟩ hB9 HOMC.out.2.1 HSCC.out;go_simp
   (with_reducible refine H111.mono ?_);rintro e u2 ⟨rfl,hK9,hU9⟩
   exact hK _ _ ⟨rfl,hK9,(Upd.of_touch ((Touch.of_below hBl).mono sI)).trans hU9⟩ hU9 (fun h=>by simp at h)
  case c8=>
   have e7:(x 207= .int .i64 (((S.away mx).away mn).sc.mulX ⟨oa,ob,oc,od,ok⟩).least.2)∧WK t tl B u p v5 {((S.away mx).away mn) with sc:=if (((S.away mx).away mn).sc.mulX ⟨oa,ob,oc,od,ok⟩).least.2=0 then(((S.away mx).away mn).sc.mulX ⟨oa,ob,oc,od,ok⟩).least.1 else((S.away mx).away mn).sc}∧Upd p v5 w5 v5 u:=hd ⟨7, .data⟩ sI rfl;clear hd;obtain⟨e9,_,_⟩:=e7;simp only[e9]at hK ⊢;go_simp
   exact hK _ _ rfl bR (fun h=>hG sH)
  all_goals
   dsimp only at hd;simp only[eB]at hd
   try simp only[hd]at hK ⊢
   go_simp
   exact hK _ _ rfl bR (fun h=>hG sH)
 dsimp only[fil,fls,fl,List.toList_toArray,Nat.reduceAdd];rintro l_1 x_1 u hall hG ⟨_,_,_,_,_,_,_,⟨_,hK9,hU9⟩,e24,_⟩;clear hall hG;generalize x_1 24=z24 at e24 ⊢;subst e24;have HU6:Aside (Upd p v w v5 u):=HU5.out.trans hU9;have hSK:0≤((S.away mx).away mn).sc.k:=(Num.check_zero.1 HSCC.out).1;have HSK:Aside (0≤((S.away mx).away mn).sc.k):=hSK
 have hMK:0≤(((S.away mx).away mn).sc.mulX ⟨oa,ob,oc,od,ok⟩).k:=by
  show (0:Int)≤_+_
  have:=HOMC.out.2.2;dsimp only at this ⊢;omega
 have HER:=least_err (x:=((S.away mx).away mn).sc.mulX ⟨oa,ob,oc,od,ok⟩) hMK;have hABL:=HABCL.out;have hl1:=hABL.1;have hl2:=hABL.2.1;have hl3:=hABL.2.2.1
 by_cases h0:(((S.away mx).away mn).sc.mulX ⟨oa,ob,oc,od,ok⟩).least.2=0
 · rw[if_pos h0]at hK9;rw[h0];have hP6:=HP5.out.upd hU9 hK9;have b6:=hP6.ibx.cell 0 _ rfl;have m6:=hP6.imb.cell 0 _ rfl;have s60:=hP6.isb.cell 0 _ rfl;have s61:=hP6.isb.cell 1 _ rfl;have s62:=hP6.isb.cell 2 _ rfl;have H81:=power81 hK9 (HG.out.upd HK.out HU6.out hN) hN (1+(kn:Int)-a.length-b.length-2*c.length) oM oM (least_check hMK h0);have H0:=Lib.hid h0;clear hK9 hU9 hSK HER h0 hP6 hMK hABL
   go_wp2_with (first|(go_at_call 81;(with_reducible refine H81.mono ?_);rintro e w7 ⟨rfl,hK7,hU7⟩;clear H81;have HK7:=Lib.hid hK7;have HU7:=Lib.hid hU7;clear hK7 hU7))
   refine bodyPost_ret (v:= .tuple #[.bool true, .int .i64 ((((S.away mx).away mn).sc.mulX ⟨oa,ob,oc,od,ok⟩).least.1.power (1+(kn:Int)-a.length-b.length-2*c.length)).2]) (by simp[results,Tryz.results191,go_sem]) rfl ?_
   rw[HM9.out];have hf:=HOMC.out.1;have h9:=RuleR.scalePow (x:=⟨oa,ob,oc,od,ok⟩) (n:=1+(kn:Int)-a.length-b.length-2*c.length) (by rw[hf];exact HK7.out) (HU6.out.trans HU7.out) HLN.out HOMC.out.2.2 HSK.out (by rw[hf];exact H0.out);rw[hf]at h9;exact h9
 have h8:(((S.away mx).away mn).sc.mulX ⟨oa,ob,oc,od,ok⟩).least.2=8:=HER.resolve_left h0;rw[if_neg h0]at hK9;rw[h8];have HK6:=Lib.hid hK9;have H8:=Lib.hid h8;clear hK9 hU9 hSK HER h0 h8 hMK
 go_wp2
 refine bodyPost_ret (v:= .tuple #[.bool true, .int .i64 8]) (by simp[results,Tryz.results191,go_sem]) rfl ?_
 rw[HM9.out];have hf:=HOMC.out.1;have h9:=RuleR.scaleErr (x:=⟨oa,ob,oc,od,ok⟩) (n:=1+(kn:Int)-a.length-b.length-2*c.length) HK6.out HU6.out HLN.out HOMC.out.2.2 HSK.out (by rw[hf,H8.out];decide);rw[hf,H8.out]at h9;exact h9
end Go.Proofs.YtcoackmdmohnhaaGreatDoor
