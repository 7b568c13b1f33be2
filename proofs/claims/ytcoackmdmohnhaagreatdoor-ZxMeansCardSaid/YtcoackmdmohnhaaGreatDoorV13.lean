/- Contracts of functions, and plain lemmas; each theorem's conditions stand in its statement. -/
import Derived.Test.YtcoackmdmohnhaaGreatDoorV12
import Derived.ChangeKeysEq
set_option linter.unusedVariables false
set_option linter.unusedSimpArgs false
set_option maxRecDepth 100000
set_option maxHeartbeats 4000000
namespace Go.Proofs.YtcoackmdmohnhaaGreatDoor
section
open Go.RowKit Go.Shelf
variable {t:TypeId} {tl:List Value} {B:Nat} {N:Nat} {p:Nat} {k:Nat} {w:World} {w':World} {v:DV} {v':DV} {d:Diag}
theorem omega_good (p:Int) (h0:0≤p) (h7:p≤7):(Num.omega p).form=Num.omega p∧(Num.omega p).check=0∧0≤(Num.omega p).k:=by
 have hcs:p=0∨p=1∨p=2∨p=3∨p=4∨p=5∨p=6∨p=7:=oM
 rcases hcs with rfl|rfl|rfl|rfl|rfl|rfl|rfl|rfl<;>exact⟨by decide,by decide,by decide⟩
theorem least_check {x:Num} (hk:0≤x.k) (h:x.least.2=0):x.least.1.check=0:=by
 rw[Num.least_eq x hk]at h ⊢
 by_cases hc:x.form.check=0
 · rw[if_pos hc];exact hc
 rw[if_neg hc]at h;cases h
theorem least_err {x:Num} (hk:0≤x.k):x.least.2=0∨x.least.2=8:=by
 rw[Num.least_eq x hk]
 by_cases hc:x.form.check=0
 · rw[if_pos hc];exact .inl rfl
 rw[if_neg hc];exact .inr rfl
theorem RuleR.many {d':Diag} {L:List Num} {n:Int} (hK:WK t tl B w' p v' d') (hU:Upd p v w v' w') (h:100<d.ln.length):RuleR t tl B p v w (some (d,L,n)) (.returned (.tuple #[.bool true, .int .i64 2])) w':=by
 have e:Diag.finish (some (d,L,n))=(Diag.nil,2):=by
  show (if 100<d.ln.length then _ else _)=_
  rw[if_pos h]
 unfold RuleR;refine⟨by rw[e],v',d',hK,hU,fun h0=>?_⟩
 rw[e]at h0;cases h0
theorem RuleR.scaleErr {d':Diag} {x:Num} {n:Int} (hK:WK t tl B w' p v' d') (hU:Upd p v w v' w') (hl:d.ln.length≤100) (hx:0≤x.k) (hs:0≤d.sc.k) (h:(d.sc.mulX x.form).least.2≠0):RuleR t tl B p v w (some (d,[x],n)) (.returned (.tuple #[.bool true, .int .i64 (d.sc.mulX x.form).least.2])) w':=by
 have h3:=(finish_scale d x n hl hx hs).2 h;unfold RuleR;refine⟨by rw[h3],v',d',hK,hU,fun h0=>?_⟩
 rw[h3]at h0;exact absurd h0 h
theorem RuleR.scalePow {x:Num} {n:Int} (hK:WK t tl B w' p v' {d with sc:=((d.sc.mulX x.form).least.1.power n).1}) (hU:Upd p v w v' w') (hl:d.ln.length≤100) (hx:0≤x.k) (hs:0≤d.sc.k) (h:(d.sc.mulX x.form).least.2=0):RuleR t tl B p v w (some (d,[x],n)) (.returned (.tuple #[.bool true, .int .i64 ((d.sc.mulX x.form).least.1.power n).2])) w':=by
 obtain⟨h3,h4⟩:=(finish_scale d x n hl hx hs).1 h;unfold RuleR;exact⟨by rw[h3],v',_,hK,hU,fun h0=>(h4 h0).symm⟩
def amongTo:Nat→List Int→List Line
 |0,_=>[]
 |_+1,[]=>[]
 |n+1,a::l=>l.map (fun b=>⟨a,b,true⟩)++amongTo n l
theorem amongTo_succ:∀(i:Nat) (l:List Int) (a:Int),l[i]?=some a→amongTo (i+1) l=amongTo i l++(l.drop (i+1)).map (fun b=>⟨a,b,true⟩)
 |0,[],a,h=>by cases h
 | 0,b::l,a,h=>by
  simp at h
  subst h;simp[amongTo]
 |i+1,[],a,h=>by cases h
 | i+1,b::l,a,h=>by
  have:=amongTo_succ i l a sH;simp only[amongTo,List.drop_succ_cons];rw[this,List.append_assoc]
theorem amongTo_all:∀(l:List Int),l.Pairwise (·< ·)→amongTo l.length l=among l
 |[],_=>rfl
 | a::l,h=>by
  rw[List.pairwise_cons]at h;simp only[List.length_cons,amongTo,among];rw[amongTo_all l h.2]
  congr 1
  refine List.map_congr_left fun b hb=>?_
  have:=h.1 b hb;rw[Int.min_eq_left oM,Int.max_eq_right oM]
theorem amongTo_len:∀(i:Nat) (l:List Int),(amongTo i l).length≤i*l.length
 |0,l=>by simp[amongTo]
 |i+1,[]=>by simp[amongTo]
 | i+1,a::l=>by
  have:=amongTo_len i l;simp only[amongTo,List.length_append,List.length_map,List.length_cons];have h2:(i+1)*(l.length+1)=i*l.length+i+(l.length+1):=by rw[Nat.add_mul,Nat.mul_add];omega
  omega
theorem addAll_snoc {q:Int} (a:Int):∀(l:List Int) (d:Diag),d.addAll q (l++[a])=(d.addAll q l).addPh a q
 |[],d=>rfl
 | b::l,d=>by
  simp only[List.cons_append,Diag.addAll];exact addAll_snoc a l _
theorem addPh_phase {n q:Int} (h:∀s∈d.sp,0≤s.phase∧s.phase≤7):∀s∈(d.addPh n q).sp,0≤s.phase∧s.phase≤7:=by
 intro s hs;obtain⟨i,hi⟩:=List.getElem?_of_mem hs;have hi2:(d.sp.modify n.toNat (Spider.add q))[i]?=some s:=hi;rw[List.getElem?_modify]at hi2
 cases h0:d.sp[i]? with
 |none=>rw[h0]at hi2;cases hi2
 | some x=>
  rw[h0]at hi2;have hx:=h x (List.mem_of_getElem? h0)
  split at hi2
  · cases hi2
    unfold Spider.add;dsimp only;omega
  cases hi2
  exact hx
theorem addAll_phase {q:Int}:∀(l:List Int) (d:Diag),(∀s∈d.sp,0≤s.phase∧s.phase≤7)→∀s∈(d.addAll q l).sp,0≤s.phase∧s.phase≤7
 |[],d,h=>h
 |a::l,d,h=>addAll_phase l _ (addPh_phase h)
theorem addAll_rest {q:Int}:∀(l:List Int) (d:Diag),(d.addAll q l).ln=d.ln∧(d.addAll q l).ins=d.ins∧(d.addAll q l).outs=d.outs∧(d.addAll q l).sc=d.sc
 |[],d=>⟨rfl,rfl,rfl,rfl⟩
 |a::l,d=>addAll_rest l (d.addPh a q)
def cs0 (d:Diag) (q:Int) (l:List Int) (k:Nat):Diag:={d.addAll q (l.take k) with ln:=d.ln++amongTo k l}
def cs1 (d:Diag) (q:Int) (l:List Int) (k:Nat) (a:Int) (j:Nat):Diag:={(d.addAll q (l.take k)).addPh a q with ln:=d.ln++amongTo k l++((l.drop (k+1)).take j).map (fun b=>⟨a,b,true⟩)}
theorem cs0_add (d:Diag) (q:Int) (l:List Int) (k:Nat) (a:Int):(cs0 d q l k).addPh a q=cs1 d q l k a 0:=by
 unfold cs0 cs1 Diag.addPh;simp
theorem cs1_line {q:Int} {l:List Int} {a b:Int} {j:Nat} (h:(l.drop (k+1))[j]?=some b):({cs1 d q l k a j with ln:=(cs1 d q l k a j).ln++[⟨a,b,true⟩]}:Diag)=cs1 d q l k a (j+1):=by
 unfold cs1;rw[take_snoc' h];simp
theorem cs1_end {q:Int} {l:List Int} {a:Int} (h:l[k]?=some a):cs1 d q l k a (l.drop (k+1)).length=cs0 d q l (k+1):=by
 unfold cs1 cs0;rw[List.take_length,take_snoc' h,addAll_snoc,amongTo_succ k l a h,List.append_assoc]
theorem cs0_start (d:Diag) (q:Int) (l:List Int):cs0 d q l 0=d:=by
 unfold cs0;simp[Diag.addAll,amongTo]
theorem cs0_len (d:Diag) (q:Int) (l:List Int) (k:Nat):(cs0 d q l k).sp.length=d.sp.length:=by
 unfold cs0;exact len_addAll
theorem cs1_lines (d:Diag) (q:Int) (l:List Int) (k:Nat) (a:Int) (j:Nat):(cs1 d q l k a j).ln.length≤d.ln.length+k*l.length+l.length:=by
 unfold cs1;have h1:=amongTo_len k l
 have h2:((l.drop (k+1)).take j).length≤l.length:=by
  rw[List.length_take,List.length_drop];omega
 simp only[List.length_append,List.length_map];omega
theorem powarg (k:Nat) (h:k≤40):RowKit.wrap64 (1-(k:Int)+RowKit.wrap64 ((RowKit.wrap64 ((k:Int)*((k:Int)-1))).tdiv 2))=1-(k:Int)+(k:Int)*((k:Int)-1) / 2∧-10000≤1-(k:Int)+(k:Int)*((k:Int)-1) / 2∧1-(k:Int)+(k:Int)*((k:Int)-1) / 2≤10000:=by
 have hA:0≤(k:Int)*((k:Int)-1)∧(k:Int)*((k:Int)-1)≤40*40:=by
  rcases Nat.eq_zero_or_pos k with rfl|hk
  · decide
  exact⟨Int.mul_nonneg oM oM,Int.mul_le_mul oM oM oM oM⟩
 obtain⟨h0,h1⟩:=hA;generalize (k:Int)*((k:Int)-1)=P at *;rw[IntWalk.wrap64_in P oM,Int.tdiv_eq_ediv_of_nonneg h0,IntWalk.wrap64_in (P / 2) oM,IntWalk.wrap64_in _ oM];omega
theorem among_mem:∀(i:Nat) (l:List Int) (x:Line),x∈amongTo i l→x.f∈l∧x.t∈l
 |0,l,x,h=>by simp[amongTo]at h
 |i+1,[],x,h=>by simp[amongTo]at h
 | i+1,a::l,x,h=>by
  simp only[amongTo,List.mem_append,List.mem_map]at h
  rcases h with⟨b,hb,rfl⟩|h
  · exact⟨List.mem_cons_self,List.mem_cons_of_mem _ hb⟩
  have:=among_mem i l x h;exact⟨List.mem_cons_of_mem _ this.1,List.mem_cons_of_mem _ this.2⟩
theorem comps_lim (hd:d.Ok) {q:Int} {l:List Int} (hp:l.Pairwise (·< ·)) (hl:∀x∈l,0≤x∧x<(d.sp.length:Int)):Diag.Lim {d.addAll q l with ln:=d.ln++among l}:=by
 have h1:=hd.n1;refine⟨fun x hx=>?_,?_,?_⟩
 · rcases List.mem_append.1 hx with hx|hx
   · exact hd.lim.ln x hx
   rw[←amongTo_all l hp]at hx;have h2:=among_mem _ _ x hx;have h3:=hl _ h2.1;have h4:=hl _ h2.2;omega
 · show∀x∈(d.addAll q l).ins,_
   rw[(addAll_rest l d).2.1];exact hd.lim.ins
 show∀x∈(d.addAll q l).outs,_
 rw[(addAll_rest l d).2.2.1];exact hd.lim.outs
theorem xe29_0 {p:Prop} (h:p:=by
 have H181:=away181 hK6 hlim n HB.out.1 HB.out.2.1 HB.out.2.2.1 HB.out.2.2.2.1 HB.out.2.2.2.2;clear hK6 hDD hlim HE HN5 hO hT HM0
 go_wp2_with (first
   |(go_at_call 181;(with_reducible refine H181.mono ?_);rintro e w4 ⟨⟨z4,rfl⟩,v4,hK4,hU4⟩;clear H181;have HU4:Aside (Upd p v w v4 w4):=hU6.out.trans hU4;have HK4:=Lib.hid hK4;have HN4:Aside ((DD.away n).ln.length=v4.n2):=hK4.len.2.1;obtain⟨_,c41,_,_,_,_,_,_,_,_⟩:=hK4.nine;clear hK4 hU4 hU6)
   | (go_at_call 112;(with_reducible refine(H112.out _).mono ?_);rintro e w5 ⟨rfl,hb5⟩;clear H112
      have hK5:=HK4.out.below hb5;have H111:=scale111 (hK5.alloc (.cells #[oa,ob,oc,od,ok] 26)) ⟨oa,ob,oc,od,ok⟩ w5.heap.size 1 (hK5.new_aprt _) (Blk.new _ _ _) HOMC.out.2.1 (by rw[HSC.out];exact HSCC.out);have HU5:Aside (Upd p v w v4 (w5.alloc (.cells #[oa,ob,oc,od,ok] 26))):=(HU4.out.then_below hb5).alloc _
      clear hK5 hb5 c41)
   )
 · refine bodyPost_ret (v:= .tuple #[.bool true, .int .i64 2]) (by simp[results,Tryz.results190,go_sem]) rfl ?_
   rw[HM1.out];exact RuleR.many HK4.out HU4.out (by have:=HN4.out;omega)
 (with_reducible refine H111.mono ?_)
 rintro e w6 ⟨rfl,hK6,hU6⟩;clear H111;have HU6:Aside (Upd p v w v4 w6):=HU5.out.trans hU6;have HLN:Aside ((DD.away n).ln.length≤100):=by have:=HN4.out;show _≤_;omega
 have hSK:0≤(DD.away n).sc.k:=by rw[HSC.out];exact(Num.check_zero.1 HSCC.out).1
 have HSK:Aside (0≤(DD.away n).sc.k):=hSK;have HER:=least_err (x:=(DD.away n).sc.mulX ⟨oa,ob,oc,od,ok⟩) (by show (0:Int)≤_+_;have:=HOMC.out.2.2;dsimp only at this ⊢;omega)
 by_cases h0:((DD.away n).sc.mulX ⟨oa,ob,oc,od,ok⟩).least.2=0
 · rw[if_pos h0]at hK6;rw[h0];have H81:=power81 hK6 (HG.out.upd HK.out HU6.out hN) hN (1-l.length+(l.length:Int)*(l.length-1) / 2) (powarg l.length hl40).2.1 (powarg l.length hl40).2.2 (least_check (by show (0:Int)≤_+_;have:=HOMC.out.2.2;dsimp only at this ⊢;omega) h0);have H0:=Lib.hid h0;clear hK6 hU6 hSK HER h0 HU5
   go_wp2_with (first|(go_at_call 81;rw[(powarg l.length hl40).1];(with_reducible refine H81.mono ?_);rintro e w7 ⟨rfl,hK7,hU7⟩;clear H81;have HK7:=Lib.hid hK7;have HU7:=Lib.hid hU7;clear hK7 hU7))
   refine bodyPost_ret (v:= .tuple #[.bool true, .int .i64 (((DD.away n).sc.mulX ⟨oa,ob,oc,od,ok⟩).least.1.power (1-l.length+(l.length:Int)*(l.length-1) / 2)).2]) (by simp[results,Tryz.results190,go_sem]) rfl ?_
   rw[HM1.out];have hf:=HOMC.out.1;have h9:=RuleR.scalePow (x:=⟨oa,ob,oc,od,ok⟩) (n:=1-l.length+(l.length:Int)*(l.length-1) / 2) (by rw[hf];exact HK7.out) (HU6.out.trans HU7.out) HLN.out HOMC.out.2.2 HSK.out (by rw[hf];exact H0.out);rw[hf]at h9;exact h9
 have h8:((DD.away n).sc.mulX ⟨oa,ob,oc,od,ok⟩).least.2=8:=HER.resolve_left h0;rw[if_neg h0]at hK6;rw[h8];have HK6:=Lib.hid hK6;have H8:=Lib.hid h8;clear hK6 hU6 hSK HER h0 h8 HU5
 go_wp2
 refine bodyPost_ret (v:= .tuple #[.bool true, .int .i64 8]) (by simp[results,Tryz.results190,go_sem]) rfl ?_
 rw[HM1.out];have hf:=HOMC.out.1;have h9:=RuleR.scaleErr (x:=⟨oa,ob,oc,od,ok⟩) (n:=1-l.length+(l.length:Int)*(l.length-1) / 2) HK6.out HU6.out HLN.out HOMC.out.2.2 HSK.out (by rw[hf,H8.out];decide);rw[hf,H8.out]at h9
 exact h9):p:=h
theorem xe29_1 {p:Prop} (h:p:=by
 have hT3:Aside (Upd p v w2 v2 wr):=hT2.out;clear hO2 hT2 hjj;go_wp2_with fail
 go_roundg (l.length-(kk+1))
 case measure=>omega
 exact⟨kk+1,v2,oM,Nat.le_refl _,nX,hO3,hT3⟩):p:=h
theorem xe29_2 {p:Prop} (h:p:=by
 have hjj:j=(l.drop (kk+1)).length:=by rw[List.length_drop];omega
 have hltz2:¬(j:Int)<(l.length:Int)-((kk:Int)+1):=oM
 have hltz3:¬(j:Int)<((l.length-(kk+1):Nat):Int):=oM
 have hO3:Aside (WK t tl B wr p v2 (cs0 d (-2) l (kk+1))):=by
  have h9:=hO2.out;rw[hjj,cs1_end HA.out]at h9;exact h9
 exact xe29_1):p:=h
theorem xe29_3 {p:Prop} (h:p:=by
 have hjj:j=(l.drop (kk+1)).length:=by rw[List.length_drop];omega
 have hltz2:¬(j:Int)<(l.length:Int)-((kk:Int)+1):=oM
 have hltz3:¬(j:Int)<((l.length-(kk+1):Nat):Int):=oM
 have hO3:Aside (WK t tl B wr p v2 (cs0 d (-6) l (kk+1))):=by
  have h9:=hO2.out;rw[hjj,cs1_end HA.out]at h9;exact h9
 exact xe29_1):p:=h
theorem xe29_4 {p:Prop} (h:p:=by
 go_wp2_with (first|(go_at_call 193;(with_reducible refine HIS.mono ?_);rintro e w3 ⟨rfl,rfl⟩;clear HIS))
 refine bodyPost_ret (v:= .tuple #[.bool false, .int .i64 0]) (by simp[results,Tryz.results190,go_sem]) rfl ?_
 rw[HM0.out]
 exact RuleR.none 0 ((Touch.of_below Hb.out).mono sI)):p:=h
theorem comps190 (h:WK t tl B w p v d) (hG:Glob N w) (hN:N≤B) (hd:d.Ok) (n:Nat) (hn:n<d.sp.length) (q:Int):
  Calls Tryz.prog 190 #[pt p 0,n,q] w (RuleR t tl B p v w (d.comps n)):=by
 obtain⟨s,hs⟩:=get_of hn;obtain⟨g,hA,k0,k1,kf⟩:=h.own.spAt hs;obtain⟨c0,c1,_,_,_,_,_,_,_,cf⟩:=h.nine;rw[hA]at c0;have H204:=around204 h hd n hn (-1) none 0 0 [] (Rd.nil _ _ _ _);have hlen:=h.len;have hn1:=hd.n1;have hnz:(n:Int)<(v.n1:Int):=oM
 have hnn:n<v.n1:=oM
 have HPh:Aside (0≤s.phase∧s.phase≤7):=(hd.sp _ (List.mem_of_getElem? hs)).2;have HKd:Aside (d.kindAt n=s.kind∧d.phaseAt n=s.phase):=⟨kindAt_of hs,phaseAt_of hs⟩;have HK:=Lib.hid h;have HG:=Lib.hid hG;have HD:=Lib.hid hd;have HS:=Lib.hid hs;have HNl:Aside (n<d.sp.length):=hn
 have HM:Aside (d.comps n=match d.around n (-1) [] with
     |none=>none
     |some l=>if s.kind≠1∨(s.phase≠2∧s.phase≠6) then(none:Made) else some (({d.addAll (-s.phase) l with ln:=d.ln++among l}:Diag).away n,[Num.omega (s.phase / 4*6+1)],1-l.length+(l.length:Int)*(l.length-1) / 2)):=by
  unfold Diag.comps;rw[kindAt_of hs,phaseAt_of hs]
  cases d.around n (-1) [] with
  |none=>rfl
  | some l=>
   dsimp only;rw[(addAll_rest l d).1];rfl
 have HL:Aside (∀l,d.around n (-1) []=some l→l.Pairwise (·< ·)∧l.length≤40∧∀x∈l,0≤x∧x<(d.sp.length:Int)):=by
  intro l hl;unfold Diag.around at hl
  cases hll:d.leadL n (-1) [] 0 d.ln [] with
  |none=>rw[hll]at hl;cases hl
  | some l'=>
   rw[hll]at hl;cases hl
   refine⟨inOrder_lt d l',?_,fun x hx=>(mem_inOrder.1 hx).2⟩
   have h1:=List.length_filter_le (fun k:Int=>decide (k∈l')) ((List.range d.sp.length).map (fun k:Nat=>(k:Int)));unfold Diag.inOrder;simp only[List.length_map,List.length_range]at h1;omega
 generalize hO:d.around n (-1) []=O at *;have HO:Aside (d.around n (-1) []=O):=hO;generalize s.phase=ph at *;generalize hk:s.kind=sk at *;have HSk:Aside (s.kind=sk):=hk;clear hO hk h hG hd hs hn hA k0 kf cf hlen hn1;go_enter Tryz.func190,Tryz.ntmps190
 go_wp2_with fail
 refine H204.mono ?_
 intro e w2 hr;clear H204 c0 c1 k1
 cases O with
 | none=>
  obtain⟨rfl,hb⟩:=hr;have HM0:Aside (d.comps n=none):=HM.out;have Hb:=Lib.hid hb;clear hb HM HL HO
  go_wp2
  refine bodyPost_ret (v:= .tuple #[.bool false, .int .i64 0]) (by simp[results,Tryz.results190,go_sem]) rfl ?_
  rw[HM0.out];exact RuleR.none 0 ((Touch.of_below Hb.out).mono sI)
 | some l =>
  obtain⟨A,c,rfl,hrow,hb⟩:=hr;have hK2:=HK.out.touch (Touch.of_below hb) sI sI;have HIS:=is193 hK2 n HNl.out 1;rw[HKd.out.1]at HIS;have Hb:=Lib.hid hb;have HK2:=Lib.hid hK2;have HRow:=Lib.hid hrow;clear hb hK2 hrow
  by_cases h1:sk=1
  · rw [show (sk==1)=true by simp[h1]]at HIS
    by_cases h2:ph=2∨ph=6
    · have HM0:Aside (d.comps n=some (({d.addAll (-ph) l with ln:=d.ln++among l}:Diag).away n,[Num.omega (ph / 4*6+1)],1-l.length+(l.length:Int)*(l.length-1) / 2)):=by
       rw[HM.out];dsimp only;rw[if_neg oM];exact aside_rfl
      have hl40:=(HL.out l rfl).2.1;have HLs:=Lib.hid (HL.out l rfl);clear HM h1 HL HO
      rcases h2 with rfl|rfl
      · go_wp2_with (first|(go_at_call 193;(with_reducible refine HIS.mono ?_);rintro e w3 ⟨rfl,rfl⟩;clear HIS))
        have HRS:Aside (∀gr,A=some ⟨gr,0,none⟩→gr∉p::blks v):=by
         rintro gr rfl hm;have h1:=ownsRow_lt HRow.out gr (by simp[ownB]);have h2:=HK.out.lt
         rcases List.mem_cons.1 hm with rfl|hm
         · omega
         have:=(HK.out.own.lt gr hm).2;omega
        have HNL:Aside (d.ln.length≤100):=HD.out.n2;have H2S:Aside (∀s∈d.sp,0≤s.phase∧s.phase≤7):=fun s hs=>(HD.out.sp s hs).2;have HLC:Aside (0<l.length→l.length≤c):=fun hp=>by obtain⟨gr,rfl,_⟩:=ownsRow_shape HRow.out hp;obtain⟨cur,_,_,h9,_⟩:=ownsRow_cur HRow.out;exact h9
        obtain⟨c1,rfl⟩:∃c1,c=l.length+c1:=⟨c-l.length,by have:=HLC.out;omega⟩
        go_loopg [50] l.length (fun gg s50 wr=>∃(kk:Nat) (v1:DV),kk≤l.length∧l.length-kk≤gg∧s50=kk∧Aside (WK t tl B wr p v1 (cs0 d (-2) l kk))∧Aside (Upd p v w2 v1 wr))
        case atStart=>exact⟨0,v,Nat.zero_le _,oM,rfl,(by rw[cs0_start];exact HK2.out),Upd.refl _ _ _⟩
        obtain⟨kk,v1,hkn,hgg,rfl,hO,hT⟩:=hrel
        by_cases hlt:kk<l.length
        · have hltz:(kk:Int)<(l.length:Int):=oM
          obtain⟨a,ha⟩:=get_of hlt;have HA:=Lib.hid ha;have ham:=HLs.out.2.2 a (List.mem_of_getElem? ha);obtain⟨an,rfl⟩:∃an:Nat,a=an:=⟨a.toNat,oM⟩;obtain⟨gr,hAe,_⟩:=ownsRow_shape HRow.out oM;subst hAe;have hrw:=ownsRow_touch HRow.out hT.out.t (fun b hb=>by cases hb;exact HRS.out gr rfl);have l0:wr.cell? ⟨gr,kk,none⟩=some (.int .i64 an):=by simpa using ownsRow_at inC_len hrw ha (j:=0) rfl
          have hlc:=HLC.out oM;have H195:=add195 hO.out an (by rw[cs0_len];omega) (-2) dE dE (addAll_phase _ _ H2S.out);have HRW:=Lib.hid hrw;clear hrw ha ham
          go_wp2_with (first|(go_at_call 195;(with_reducible refine H195.mono ?_);rintro e w4 ⟨⟨z4,rfl⟩,hK4,hU4⟩;clear H195;have HK4:=Lib.hid hK4;have HU4:=Lib.hid hU4;clear hK4 hU4))
          case inl h=>
           have HCC:=Lib.hid h;clear h;rw[←HCC.out]
           go_loopg [65] (l.length-(kk+1)) (fun gg s65 wr=>∃(j:Nat) (v2:DV),j≤l.length-(kk+1)∧l.length-(kk+1)-j≤gg∧s65=j∧Aside (WK t tl B wr p v2 (cs1 d (-2) l kk an j))∧Aside (Upd p v w2 v2 wr))
           case atStart=>exact⟨0,v1,Nat.zero_le _,oM,rfl,(by rw[←cs0_add];exact HK4.out),hT.out.trans HU4.out⟩
           obtain⟨j,v2,hj,hgg2,rfl,hO2,hT2⟩:=hrel
           by_cases hlt2:j<l.length-(kk+1)
           · exact absurd hlt2 (by have:=HCC.out;omega)
           exact xe29_2
          go_loopg [65] (l.length-(kk+1)) (fun gg s65 wr=>∃(j:Nat) (v2:DV),j≤l.length-(kk+1)∧l.length-(kk+1)-j≤gg∧s65=j∧Aside (WK t tl B wr p v2 (cs1 d (-2) l kk an j))∧Aside (Upd p v w2 v2 wr))
          case atStart=>exact⟨0,v1,Nat.zero_le _,oM,rfl,(by rw[←cs0_add];exact HK4.out),hT.out.trans HU4.out⟩
          obtain⟨j,v2,hj,hgg2,rfl,hO2,hT2⟩:=hrel
          by_cases hlt2:j<l.length-(kk+1)
          · have hltz2:(j:Int)<(l.length:Int)-((kk:Int)+1):=oM
            have hltz3:(j:Int)<((l.length-(kk+1):Nat):Int):=oM
            obtain⟨bb,hb2⟩:=get_of (l:=l) (n:=kk+1+j) oM;have hbd:(l.drop (kk+1))[j]?=some bb:=by rw[List.getElem?_drop];exact hb2
            have hbm:=HLs.out.2.2 bb (List.mem_of_getElem? hb2)
            have hord:(an:Int)<bb:=by
             have h1:=List.pairwise_iff_getElem.1 HLs.out.1 kk (kk+1+j) oM oM oM;have h2:=HA.out;rw[List.getElem?_eq_getElem oM]at h2 hb2;rw[Option.some.inj h2,Option.some.inj hb2]at h1;exact h1
            obtain⟨bn,rfl⟩:∃bn:Nat,bb=bn:=⟨bb.toNat,oM⟩
            have l2:wr.cell? ⟨gr,kk+1+j,none⟩=some (.int .i64 bn):=by
             have h9:=ownsRow_touch HRow.out hT2.out.t (fun b hb=>by cases hb;exact HRS.out gr rfl);simpa using ownsRow_at inC_len h9 hb2 (j:=0) rfl
            have hKa:=hO2.out.alloc (.cells #[an,bn, .bool true] 77);have hUa:=hT2.out.alloc (.cells #[an,bn, .bool true] 77)
            have H205:=join205 hKa ⟨an,bn,true⟩ wr.heap.size 1 (hO2.out.new_aprt _) (Blk.new _ _ _) (by
              have h1:=hKa.len.2.1;have h2:=cs1_lines d (-2) l kk an j;have h3:=HNL.out;have h4:kk*l.length≤40*40:=Nat.mul_le_mul oM hl40
              omega) hord
            rw[cs1_line hbd]at H205;have HUa:=Lib.hid hUa;clear hb2 hbd hbm hKa hUa hord
            go_wp2_with (first|(go_at_call 205;(with_reducible refine H205.mono ?_);rintro e w5 ⟨⟨z5,rfl⟩,v5,hK5,hU5⟩;clear H205;have HK5:Aside (WK t tl B w5 p v5 (cs1 d (-2) l kk an (j+1))):=hK5;have HU5:Aside (Upd p v w2 v5 w5):=HUa.out.trans hU5;clear hK5 hU5 HUa))
            go_roundg (l.length-(kk+1)-(j+1))
            case measure=>omega
            exact⟨j+1,v5,oM,Nat.le_refl _,nX,HK5,HU5⟩
          exact xe29_2
        have hltz:¬(kk:Int)<(l.length:Int):=oM
        have hkk:kk=l.length:=oM
        subst hkk;have hK6:=hO.out
        have HE:Aside (cs0 d (-2) l l.length={d.addAll (-2) l with ln:=d.ln++among l}):=by
         unfold cs0;rw[List.take_length,amongTo_all l HLs.out.1];exact aside_rfl
        have HN5:Aside (v1.n2≤2000):=by
         have h1:=hK6.len.2.1;have h3:=HNL.out;have h5:=amongTo_len l.length l;have h4:l.length*l.length≤40*40:=Nat.mul_le_mul hl40 hl40;show _≤_
         unfold cs0 at h1;simp only[List.length_append]at h1;omega
        have HOMC:Aside ((Num.omega 1).form=Num.omega 1∧(Num.omega 1).check=0∧0≤(Num.omega 1).k):=omega_good 1 dE dE;have H112:Aside (∀u:World,Calls Tryz.prog 112 #[.int .i64 1] u fun e w'=>e= .returned (numV (Num.omega 1))∧Below u.heap.size u w'):=fun u=>omega112 1 dE dE u;have HM1:Aside (d.comps n=some (({d.addAll (-2) l with ln:=d.ln++among l}:Diag).away n,[Num.omega 1],1-l.length+(l.length:Int)*(l.length-1) / 2)):=HM0.out;generalize Num.omega 1=om at *;obtain⟨oa,ob,oc,od,ok⟩:=om;have hlim:=comps_lim HD.out (q:=-2) HLs.out.1 HLs.out.2.2
        have HB:Aside (n<v1.n1∧v1.n1≤100000∧v1.n2≤100000∧v1.n3≤100000∧v1.n4≤100000):=by
         obtain⟨h1,h2,h3,h4⟩:=hK6.len;have h5:=HD.out.n1;have h6:=HD.out.n3;have h7:=HD.out.n4;have h8:=HN5.out;have h9:(cs0 d (-2) l l.length).sp.length=d.sp.length:=cs0_len _ _ _ _;rw[HE.out]at h9 h3 h4;rw[HE.out]at h1;have e3:(d.addAll (-2) l).ins.length=v1.n3:=h3;have e4:(d.addAll (-2) l).outs.length=v1.n4:=h4;rw[(addAll_rest l d).2.1]at e3;rw[(addAll_rest l d).2.2.1]at e4;have h10:=HNl.out;show _∧_
         omega
        have hU6:Aside (Upd p v w v1 wr):=(Upd.of_touch ((Touch.of_below Hb.out).mono sI)).trans hT.out;rw[HE.out]at hK6;have HSC:Aside ((({d.addAll (-2) l with ln:=d.ln++among l}:Diag).away n).sc=d.sc):=(addAll_rest l d).2.2.2;have HSCC:Aside (d.sc.check=0):=HD.out.sc;generalize hDD:({d.addAll (-2) l with ln:=d.ln++among l}:Diag)=DD at hK6 hlim HM1 HSC;exact xe29_0
      go_wp2_with (first|(go_at_call 193;(with_reducible refine HIS.mono ?_);rintro e w3 ⟨rfl,rfl⟩;clear HIS))
      have HRS:Aside (∀gr,A=some ⟨gr,0,none⟩→gr∉p::blks v):=by
       rintro gr rfl hm;have h1:=ownsRow_lt HRow.out gr (by simp[ownB]);have h2:=HK.out.lt
       rcases List.mem_cons.1 hm with rfl|hm
       · omega
       have:=(HK.out.own.lt gr hm).2;omega
      have HNL:Aside (d.ln.length≤100):=HD.out.n2;have H6S:Aside (∀s∈d.sp,0≤s.phase∧s.phase≤7):=fun s hs=>(HD.out.sp s hs).2;have HLC:Aside (0<l.length→l.length≤c):=fun hp=>by obtain⟨gr,rfl,_⟩:=ownsRow_shape HRow.out hp;obtain⟨cur,_,_,h9,_⟩:=ownsRow_cur HRow.out;exact h9
      obtain⟨c1,rfl⟩:∃c1,c=l.length+c1:=⟨c-l.length,by have:=HLC.out;omega⟩
      go_loopg [50] l.length (fun gg s50 wr=>∃(kk:Nat) (v1:DV),kk≤l.length∧l.length-kk≤gg∧s50=kk∧Aside (WK t tl B wr p v1 (cs0 d (-6) l kk))∧Aside (Upd p v w2 v1 wr))
      case atStart=>exact⟨0,v,Nat.zero_le _,oM,rfl,(by rw[cs0_start];exact HK2.out),Upd.refl _ _ _⟩
      obtain⟨kk,v1,hkn,hgg,rfl,hO,hT⟩:=hrel
      by_cases hlt:kk<l.length
      · have hltz:(kk:Int)<(l.length:Int):=oM
        obtain⟨a,ha⟩:=get_of hlt;have HA:=Lib.hid ha;have ham:=HLs.out.2.2 a (List.mem_of_getElem? ha);obtain⟨an,rfl⟩:∃an:Nat,a=an:=⟨a.toNat,oM⟩;obtain⟨gr,hAe,_⟩:=ownsRow_shape HRow.out oM;subst hAe;have hrw:=ownsRow_touch HRow.out hT.out.t (fun b hb=>by cases hb;exact HRS.out gr rfl);have l0:wr.cell? ⟨gr,kk,none⟩=some (.int .i64 an):=by simpa using ownsRow_at inC_len hrw ha (j:=0) rfl
        have hlc:=HLC.out oM;have H195:=add195 hO.out an (by rw[cs0_len];omega) (-6) dE dE (addAll_phase _ _ H6S.out);have HRW:=Lib.hid hrw;clear hrw ha ham
        go_wp2_with (first|(go_at_call 195;(with_reducible refine H195.mono ?_);rintro e w4 ⟨⟨z4,rfl⟩,hK4,hU4⟩;clear H195;have HK4:=Lib.hid hK4;have HU4:=Lib.hid hU4;clear hK4 hU4))
        case inl h=>
         have HCC:=Lib.hid h;clear h;rw[←HCC.out]
         go_loopg [65] (l.length-(kk+1)) (fun gg s65 wr=>∃(j:Nat) (v2:DV),j≤l.length-(kk+1)∧l.length-(kk+1)-j≤gg∧s65=j∧Aside (WK t tl B wr p v2 (cs1 d (-6) l kk an j))∧Aside (Upd p v w2 v2 wr))
         case atStart=>exact⟨0,v1,Nat.zero_le _,oM,rfl,(by rw[←cs0_add];exact HK4.out),hT.out.trans HU4.out⟩
         obtain⟨j,v2,hj,hgg2,rfl,hO2,hT2⟩:=hrel
         by_cases hlt2:j<l.length-(kk+1)
         · exact absurd hlt2 (by have:=HCC.out;omega)
         exact xe29_3
        go_loopg [65] (l.length-(kk+1)) (fun gg s65 wr=>∃(j:Nat) (v2:DV),j≤l.length-(kk+1)∧l.length-(kk+1)-j≤gg∧s65=j∧Aside (WK t tl B wr p v2 (cs1 d (-6) l kk an j))∧Aside (Upd p v w2 v2 wr))
        case atStart=>exact⟨0,v1,Nat.zero_le _,oM,rfl,(by rw[←cs0_add];exact HK4.out),hT.out.trans HU4.out⟩
        obtain⟨j,v2,hj,hgg2,rfl,hO2,hT2⟩:=hrel
        by_cases hlt2:j<l.length-(kk+1)
        · have hltz2:(j:Int)<(l.length:Int)-((kk:Int)+1):=oM
          have hltz3:(j:Int)<((l.length-(kk+1):Nat):Int):=oM
          obtain⟨bb,hb2⟩:=get_of (l:=l) (n:=kk+1+j) oM;have hbd:(l.drop (kk+1))[j]?=some bb:=by rw[List.getElem?_drop];exact hb2
          have hbm:=HLs.out.2.2 bb (List.mem_of_getElem? hb2)
          have hord:(an:Int)<bb:=by
           have h1:=List.pairwise_iff_getElem.1 HLs.out.1 kk (kk+1+j) oM oM oM;have h2:=HA.out;rw[List.getElem?_eq_getElem oM]at h2 hb2;rw[Option.some.inj h2,Option.some.inj hb2]at h1;exact h1
          obtain⟨bn,rfl⟩:∃bn:Nat,bb=bn:=⟨bb.toNat,oM⟩
          have l2:wr.cell? ⟨gr,kk+1+j,none⟩=some (.int .i64 bn):=by
           have h9:=ownsRow_touch HRow.out hT2.out.t (fun b hb=>by cases hb;exact HRS.out gr rfl);simpa using ownsRow_at inC_len h9 hb2 (j:=0) rfl
          have hKa:=hO2.out.alloc (.cells #[an,bn, .bool true] 77);have hUa:=hT2.out.alloc (.cells #[an,bn, .bool true] 77)
          have H205:=join205 hKa ⟨an,bn,true⟩ wr.heap.size 1 (hO2.out.new_aprt _) (Blk.new _ _ _) (by
            have h1:=hKa.len.2.1;have h2:=cs1_lines d (-6) l kk an j;have h3:=HNL.out;have h4:kk*l.length≤40*40:=Nat.mul_le_mul oM hl40
            omega) hord
          rw[cs1_line hbd]at H205;have HUa:=Lib.hid hUa;clear hb2 hbd hbm hKa hUa hord
          go_wp2_with (first|(go_at_call 205;(with_reducible refine H205.mono ?_);rintro e w5 ⟨⟨z5,rfl⟩,v5,hK5,hU5⟩;clear H205;have HK5:Aside (WK t tl B w5 p v5 (cs1 d (-6) l kk an (j+1))):=hK5;have HU5:Aside (Upd p v w2 v5 w5):=HUa.out.trans hU5;clear hK5 hU5 HUa))
          go_roundg (l.length-(kk+1)-(j+1))
          case measure=>omega
          exact⟨j+1,v5,oM,Nat.le_refl _,nX,HK5,HU5⟩
        exact xe29_3
      have hltz:¬(kk:Int)<(l.length:Int):=oM
      have hkk:kk=l.length:=oM
      subst hkk;have hK6:=hO.out
      have HE:Aside (cs0 d (-6) l l.length={d.addAll (-6) l with ln:=d.ln++among l}):=by
       unfold cs0;rw[List.take_length,amongTo_all l HLs.out.1];exact aside_rfl
      have HN5:Aside (v1.n2≤2000):=by
       have h1:=hK6.len.2.1;have h3:=HNL.out;have h5:=amongTo_len l.length l;have h4:l.length*l.length≤40*40:=Nat.mul_le_mul hl40 hl40;show _≤_
       unfold cs0 at h1;simp only[List.length_append]at h1;omega
      have HOMC:Aside ((Num.omega 7).form=Num.omega 7∧(Num.omega 7).check=0∧0≤(Num.omega 7).k):=omega_good 7 dE dE;have H112:Aside (∀u:World,Calls Tryz.prog 112 #[.int .i64 7] u fun e w'=>e= .returned (numV (Num.omega 7))∧Below u.heap.size u w'):=fun u=>omega112 7 dE dE u;have HM1:Aside (d.comps n=some (({d.addAll (-6) l with ln:=d.ln++among l}:Diag).away n,[Num.omega 7],1-l.length+(l.length:Int)*(l.length-1) / 2)):=HM0.out;generalize Num.omega 7=om at *;obtain⟨oa,ob,oc,od,ok⟩:=om;have hlim:=comps_lim HD.out (q:=-6) HLs.out.1 HLs.out.2.2
      have HB:Aside (n<v1.n1∧v1.n1≤100000∧v1.n2≤100000∧v1.n3≤100000∧v1.n4≤100000):=by
       obtain⟨h1,h2,h3,h4⟩:=hK6.len;have h5:=HD.out.n1;have h6:=HD.out.n3;have h7:=HD.out.n4;have h8:=HN5.out;have h9:(cs0 d (-6) l l.length).sp.length=d.sp.length:=cs0_len _ _ _ _;rw[HE.out]at h9 h3 h4;rw[HE.out]at h1;have e3:(d.addAll (-6) l).ins.length=v1.n3:=h3;have e4:(d.addAll (-6) l).outs.length=v1.n4:=h4;rw[(addAll_rest l d).2.1]at e3;rw[(addAll_rest l d).2.2.1]at e4;have h10:=HNl.out;show _∧_
       omega
      have hU6:Aside (Upd p v w v1 wr):=(Upd.of_touch ((Touch.of_below Hb.out).mono sI)).trans hT.out;rw[HE.out]at hK6;have HSC:Aside ((({d.addAll (-6) l with ln:=d.ln++among l}:Diag).away n).sc=d.sc):=(addAll_rest l d).2.2.2;have HSCC:Aside (d.sc.check=0):=HD.out.sc;generalize hDD:({d.addAll (-6) l with ln:=d.ln++among l}:Diag)=DD at hK6 hlim HM1 HSC;exact xe29_0
    have HM0:Aside (d.comps n=none):=by
     rw[HM.out];dsimp only;rw[if_pos oM];exact aside_rfl
    have hb2:(ph==2)=false:=by simp;omega
    have hb6:(ph==6)=false:=by simp;omega
    have hc2:(ph != 2)=true:=by simp;omega
    have hc6:(ph != 6)=true:=by simp;omega
    clear HM h1 h2 HL HO;exact xe29_4
  rw[show (sk==1)=false by simpa using h1]at HIS
  have HM0:Aside (d.comps n=none):=by
   rw[HM.out];dsimp only;rw[if_pos (.inl h1)];exact aside_rfl
  clear HM h1 HL HO;exact xe29_4
end
section
open Go.RowKit Go.Shelf
variable {B:Nat} {k:Nat} {n:Nat} {c:Nat} {e:TypeId} {A:Option Addr} {w:World} {w':World}
theorem predS214 (S:List Nat) (Am:Option Addr) (nm cm:Nat) (m:List Int) (b:Nat) (w:World) (hb:w.cell? ⟨b,0,none⟩=some (.slice Am nm cm)) (hS:b∉S) (hr:Rd 1 inC w Am nm m) (hA:∀x∈S,∀a,Am=some a→a.block≠x):PredS S 214 #[pt b 0] (fun x:Int=> .int .i64 x) (fun x=>decide (x∈m)) w:=by
 intro x W hW;have h1:W.cell? ⟨b,0,none⟩=some (.slice Am nm cm):=(World.cell?_of_block (w:=w) (hW.block b (World.block_lt_of_cell? w ⟨b,0,none⟩ hb) hS)).trans hb;have H158:=con158 Am nm cm m x W (hr.touch hW hA);clear hr hA hW hb;go_enter Tryz.func214,Tryz.ntmps214
 go_wp2_with (go_at_call 158;(with_reducible refine H158.mono ?_);rintro e w1 ⟨rfl,rfl⟩;clear H158)
 refine bodyPost_ret (v:= .bool (decide (x∈m))) (by simp[results,Tryz.results214,go_sem]) rfl ?_
 exact⟨rfl,Below.refl _ _⟩
theorem e214:∀args w,(callFunc 214 args).run Tryz.prog w= .ok (.enter 214 args) w:=enters_of Tryz.func214 kR rfl
theorem without212 (A:Option Addr) (n c:Nat) (l:List Int) (Am:Option Addr) (nm cm:Nat) (m:List Int) (w:World) (hl:Rd 1 inC w A n l) (hm:Rd 1 inC w Am nm m) (hb:∀a,Am=some a→a.block<w.heap.size) (hn:n≤100000):
  Calls Tryz.prog 212 #[.slice A n c, .slice Am nm cm] w fun e w'=>∃A' c',e= .returned (.slice A' (l.filter (fun x=>!decide (x∈m))).length c')∧w'.ownsRow w.heap.size 3 1 (.slice A' (l.filter (fun x=>!decide (x∈m))).length c') (l.filter (fun x=>!decide (x∈m))).length ((l.filter (fun x=>!decide (x∈m))).flatMap inC)∧Below w.heap.size w w':=by
 have H64:=clone64 A n c l (w.alloc (.cells #[.slice Am nm cm] 24)) (hl.below (bR.alloc (Nat.le_refl _) _)) oM;have HM:Aside (Rd 1 inC (w.alloc (.cells #[.slice Am nm cm] 24)) Am nm m):=hm.below (bR.alloc (Nat.le_refl _) _);have HBx:=(Blk.new w #[.slice Am nm cm] 24).cell 0 _ rfl;have HB:Aside (∀a,Am=some a→a.block<w.heap.size):=hb;have HB0:Aside (Below w.heap.size w (w.alloc (.cells #[.slice Am nm cm] 24))):=bR.alloc (Nat.le_refl _) _;have HSz:Aside ((w.alloc (.cells #[.slice Am nm cm] 24)).heap.size=w.heap.size+1):=by simp[Aside]
 clear hl hm hb;go_enter Tryz.func212,Tryz.ntmps212
 go_wp2_with (first
   | (go_at_call 64;(with_reducible refine H64.mono ?_);rintro e w1 ⟨A1,c1,rfl,ho1,_,hb1⟩;clear H64
      have hbx:=(World.cell?_of_block (w:=w.alloc (.cells #[.slice Am nm cm] 24)) (a:=⟨w.heap.size,0,none⟩) (hb1.block w.heap.size sI)).trans HBx;have hlo:=ownsRow_lt ho1;have hm1:=HM.out.below hb1;have HP:=predS214 (ownB A1) Am nm cm m w.heap.size w1 hbx (fun h=>by have:=(hlo _ h).1;have:=HSz.out;omega) hm1 (fun x hx a ha=>by have h1:=HB.out a ha;have h2:=(hlo x hx).1;have:=HSz.out;omega);have H213:=delf213 (fun x=>decide (x∈m)) 214 #[pt w.heap.size 0] e214 A1 n c1 _ l w1 ho1 HP hn;have HB1:=Lib.hid hb1;have HO1:=Lib.hid hlo
      clear hbx hlo hm1 HP hb1 ho1)
   |(go_at_call 213;(with_reducible refine H213.mono ?_);rintro e w2 ⟨rfl,ho2,hT2⟩;clear H213;have HO2:=Lib.hid ho2;have HT2:=Lib.hid hT2;clear ho2 hT2))
 refine bodyPost_ret (v:= .slice A1 (l.filter (fun x=>!decide (x∈m))).length c1) (by simp[results,Tryz.results212,go_sem]) rfl ?_
 have h1:=HB1.out.size;have h2:=HSz.out;have hB2:Below w.heap.size w1 w2:=HT2.out.below oM (fun x hx=>by have:=(HO1.out x hx).1;omega);have hBB:Below w.heap.size w w1:=below_then HB0.out HB1.out;exact⟨A1,c1,rfl,own_mono HO2.out oM,hBB.trans hB2⟩
theorem ownsRow_below {m:Nat} {xs:List Value} (h:w.ownsRow B e k (.slice A n c) m xs) (hb:Below w.heap.size w w'):w'.ownsRow B e k (.slice A n c) m xs:=
 ownsRow_touch h (Touch.of_below hb) sI
theorem split206 (A:Option Addr) (n c:Nat) (l:List Int) (Am:Option Addr) (nm cm:Nat) (m:List Int) (w:World) (hl:Rd 1 inC w A n l) (hm:Rd 1 inC w Am nm m) (hb:∀a,Am=some a→a.block<w.heap.size) (hb2:∀a,A=some a→a.block<w.heap.size) (hn:n≤100000) (hnm:nm≤100000) (a b cc:List Int) (hea:a=l.filter (fun k=>!decide (k∈m))) (heb:b=m.filter (fun k=>!decide (k∈l))) (hec:cc=l.filter (fun k=>!decide (k∈a))):
  Calls Tryz.prog 206 #[.slice A n c, .slice Am nm cm] w fun e w'=>∃A1 c1 A2 c2 A3 c3,e= .returned (.agg #[.slice A1 a.length c1, .slice A2 b.length c2, .slice A3 cc.length c3])∧w'.ownsRow w.heap.size 3 1 (.slice A1 a.length c1) a.length (a.flatMap inC)∧w'.ownsRow w.heap.size 3 1 (.slice A2 b.length c2) b.length (b.flatMap inC)∧w'.ownsRow w.heap.size 3 1 (.slice A3 cc.length c3) cc.length (cc.flatMap inC)∧Below w.heap.size w w':=by
 obtain⟨W,hW⟩:∃W,W=w.alloc (.cells #[.slice none 0 0, .slice none 0 0, .slice none 0 0] 219):=⟨_,rfl⟩;have hB0:Below w.heap.size w W:=by rw[hW];exact bR.alloc (Nat.le_refl _) _
 have hSz:W.heap.size=w.heap.size+1:=by rw[hW];simp
 have hBk:Blk W w.heap.size [.slice none 0 0, .slice none 0 0, .slice none 0 0] 219:=by rw[hW];exact Blk.new _ _ _
 have H1:=without212 A n c l Am nm cm m W (hl.below hB0) (hm.below hB0) (fun a ha=>by have:=hb a ha;omega) hn;rw[←hea]at H1;have HB:=Lib.hid hB0;have HS:=Lib.hid hSz;have HBk:=Lib.hid hBk;have HL:=Lib.hid (hl.below hB0);have HM:=Lib.hid (hm.below hB0);have Hb:=Lib.hid hb;have Hb2:=Lib.hid hb2;have HW:=Lib.hid hW;have HEB:=Lib.hid heb;have HEC:=Lib.hid hec;clear hB0 hSz hBk hl hm hb hb2 hW hea heb hec;go_enter Tryz.func206,Tryz.ntmps206
 go_upto_region 2 with fail
 rw[←HW.out]
 go_wp2_with (first
   | (go_at_call 212;(with_reducible refine H1.mono ?_);rintro e w1 ⟨A1,c1,rfl,ho1,hb1⟩;clear H1
      have HB1:=Lib.hid hb1;have HO1:=Lib.hid ho1;have H2:=without212 Am nm cm m A n c l w1 (HM.out.below hb1) (HL.out.below hb1) (fun a ha=>by have h1:=Hb2.out a ha;have h2:=HB.out.size;have h3:=hb1.size;omega) hnm;rw[←HEB.out]at H2
      clear hb1 ho1)
   | (go_at_call 212;(with_reducible refine H2.mono ?_);rintro e w2 ⟨A2,c2,rfl,ho2,hb2⟩;clear H2
      have HB2:=Lib.hid hb2;have HO2:=Lib.hid ho2;have ho12:=ownsRow_below HO1.out hb2;have HO12:=Lib.hid ho12;have H3:=without212 A n c l A1 a.length c1 a w2 ((HL.out.below HB1.out).below hb2) (Rd.owned dE inC_len ho12) (fun x hx=>by subst hx;exact(ownsRow_lt ho12 _ (by simp[ownB])).2) hn;rw[←HEC.out]at H3
      clear hb2 ho2 ho12)
   | (go_at_call 212;(with_reducible refine H3.mono ?_);rintro e w3 ⟨A3,c3,rfl,ho3,hb3⟩;clear H3
      have HB3:=Lib.hid hb3;have HO3:=Lib.hid ho3;have hk3:=((HBk.out.below HB1.out).below HB2.out).below hb3;have d0:=hk3.cell 0 _ rfl;have d1:=hk3.cell 1 _ rfl;have d2:=hk3.cell 2 _ rfl;have df:=hk3.free
      clear hb3 ho3 hk3))
 have h1:=HB.out.size;have h4:=HB1.out.size;have h5:=HB2.out.size;have hk:=((HBk.out.below HB1.out).below HB2.out).below HB3.out;have hB3:Below w.heap.size w w3:=below_then HB.out (below_then (below_then HB1.out HB2.out) HB3.out);have d3:=(((hk.set 0 (.slice A1 a.length c1)).set 1 (.slice A2 b.length c2)).set 2 (.slice A3 cc.length c3));refine bodyPost_ret (v:= .agg #[.slice A1 a.length c1, .slice A2 b.length c2, .slice A3 cc.length c3]) (by simp[results,Tryz.results206,go_sem,d3.cell 0 _ rfl,d3.cell 1 _ rfl,d3.cell 2 _ rfl]) rfl ?_
 have hT:Touch [w.heap.size] w3 (((w3.setCell ⟨w.heap.size,0,none⟩ (.slice A1 a.length c1)).setCell ⟨w.heap.size,1,none⟩ (.slice A2 b.length c2)).setCell ⟨w.heap.size,2,none⟩ (.slice A3 cc.length c3)):=((Touch.set1 _ _ _ _).trans (Touch.set1 _ _ _ _) (fun x hx=> .inl hx)).trans (Touch.set1 _ _ _ _) (fun x hx=> .inl hx);have hs:=HS.out;have n1:∀x,(Value.slice A1 a.length c1).ownBlock=some x→x∉[w.heap.size]:=fun x hx hm=>by have h9:=(ownsRow_lt HO1.out x (ownBlock_ownB hx)).1;simp at hm;omega
 have n2:∀x,(Value.slice A2 b.length c2).ownBlock=some x→x∉[w.heap.size]:=fun x hx hm=>by have h9:=(ownsRow_lt HO2.out x (ownBlock_ownB hx)).1;simp at hm;omega
 have n3:∀x,(Value.slice A3 cc.length c3).ownBlock=some x→x∉[w.heap.size]:=fun x hx hm=>by have h9:=(ownsRow_lt HO3.out x (ownBlock_ownB hx)).1;simp at hm;omega
 exact⟨A1,c1,A2,c2,A3,c3,rfl,own_mono (ownsRow_touch (ownsRow_below HO12.out HB3.out) hT n1) oM,own_mono (ownsRow_touch (ownsRow_below HO2.out HB3.out) hT n2) oM,own_mono (ownsRow_touch HO3.out hT n3) oM,hB3.trans (hT.below hB3.size (fun x hx=>by simp at hx;omega))⟩
end
section
open Go.RowKit Go.Shelf
variable {t:TypeId} {tl:List Value} {B:Nat} {p:Nat} {k:Nat} {w:World} {v:DV} {d:Diag}
structure UpdM (mb p:Nat) (v:DV) (w:World) (v':DV) (w':World):Prop where
 t:Touch (mb::p::blks v) w w'
 n:∀b∈blks v',b∈blks v∨w.heap.size≤b
theorem UpdM.refl (mb p:Nat) (v:DV) (w:World):UpdM mb p v w v w:=⟨Touch.refl _ _,fun b h=> .inl h⟩
theorem UpdM.upd {mb:Nat} {v1 v2:DV} {w1 w2:World} (h:UpdM mb p v w v1 w1) (k:Upd p v1 w1 v2 w2):UpdM mb p v w v2 w2:=by
 refine⟨h.t.trans k.t ?_,fun b hb=>?_⟩
 · intro x hx
   rcases List.mem_cons.1 hx with rfl|hx
   · exact .inl sI
   rcases h.n x hx with h1|h1
   · exact .inl (by simp[h1])
   exact .inr h1
 rcases k.n b hb with h1|h1
 · exact h.n b h1
 exact .inr (Nat.le_trans h.t.size h1)
theorem UpdM.set {mb:Nat} {v1:DV} {w1:World} (h:UpdM mb p v w v1 w1) (o:Nat) (x:Value):UpdM mb p v w v1 (w1.setCell ⟨mb,o,none⟩ x):=
 ⟨h.t.trans (Touch.set1 _ _ _ _) (fun x hx=> .inl (by simp at hx;simp[hx])),h.n⟩
def bt0 (d:Diag) (l m:List Int) (k:Nat):Diag:={d with ln:=d.ln++between (l.take k) m}
def bt1 (d:Diag) (l m:List Int) (k:Nat) (a:Int) (j:Nat):Diag:={d with ln:=d.ln++between (l.take k) m++(m.take j).map (fun b=>⟨a,b,true⟩)}
theorem bt0_zero (d:Diag) (l m:List Int):bt0 d l m 0=d:=by
 unfold bt0 between;simp
theorem bt1_zero (d:Diag) (l m:List Int) (k:Nat) (a:Int):bt1 d l m k a 0=bt0 d l m k:=by
 unfold bt0 bt1;simp
theorem bt1_line {l m:List Int} {a b:Int} {j:Nat} (h:m[j]?=some b):({bt1 d l m k a j with ln:=(bt1 d l m k a j).ln++[⟨a,b,true⟩]}:Diag)=bt1 d l m k a (j+1):=by
 unfold bt1;rw[take_succ_at h];simp
theorem bt1_end {l m:List Int} {a:Int} (h:l[k]?=some a):bt1 d l m k a m.length=bt0 d l m (k+1):=by
 unfold bt1 bt0 between;rw[List.take_length,take_succ_at h];simp
theorem bt0_end (d:Diag) (l m:List Int):bt0 d l m l.length={d with ln:=d.ln++between l m}:=by
 unfold bt0;rw[List.take_length]
theorem between_len (l m:List Int):(between l m).length=l.length*m.length:=by
 induction l with
 |nil=>simp[between]
 | cons a l ih=>
  have:between (a::l) m=m.map (fun b=>⟨a,b,true⟩)++between l m:=rfl;rw[this,List.length_append,List.length_map,ih,List.length_cons,Nat.succ_mul];omega
theorem bt1_len (d:Diag) (l m:List Int) (k:Nat) (a:Int) (j:Nat):(bt1 d l m k a j).ln.length≤d.ln.length+l.length*m.length+m.length:=by
 show (d.ln++between (l.take k) m++(m.take j).map _).length≤_
 simp only[List.length_append,between_len,List.length_map,List.length_take];have:min k l.length*m.length≤l.length*m.length:=Nat.mul_le_mul (Nat.min_le_right _ _) (Nat.le_refl _);omega
theorem all207 {v0:DV} {d0:Diag} {w0:World} (h:WK t tl B w0 p v0 d0) (bx mb:Nat) (k0:Nat) (hbx:w0.cell? ⟨bx,0,none⟩=some (pt p 0)) (hba:Aprt bx p v0 w0) (hmb:Blk w0 mb [k0] 3) (hma:Aprt mb p v0 w0) (hne:bx≠mb)
  (A1:Option Addr) (c1 B1:Nat) (l:List Int) (hl:w0.ownsRow B1 3 1 (.slice A1 l.length c1) l.length (l.flatMap inC)) (hl0:∀b∈ownB A1,b∉mb::p::blks v0) (hl1:l.length≤40)
  (A2:Option Addr) (c2 B2:Nat) (m:List Int) (hm:w0.ownsRow B2 3 1 (.slice A2 m.length c2) m.length (m.flatMap inC)) (hm0:∀b∈ownB A2,b∉mb::p::blks v0) (hm1:m.length≤40)
  (hd:d0.ln.length≤10000) (hk:k0≤10000):
  Calls Tryz.prog 207 #[.slice A1 l.length c1, .slice A2 m.length c2,pt bx 0,pt mb 0] w0 fun e w'=>(∃z,e= .returned z)∧∃v',WK t tl B w' p v' {d0 with ln:=d0.ln++between l m}∧UpdM mb p v0 w0 v' w'∧Blk w' mb [.int .i64 ((k0+l.length*m.length:Nat):Int)] 3:=by
 have HL:=Lib.hid hl;have HM:=Lib.hid hm;have HL0:=Lib.hid hl0;have HM0:=Lib.hid hm0;have HBX:=Lib.hid hbx;have HBA:=Lib.hid hba;have HMA:=Lib.hid hma;have HNE:=Lib.hid hne;have HD:=Lib.hid hd;have HK0:=Lib.hid h;have HMB:=Lib.hid hmb;clear hl hm hl0 hm0 hbx hba hma hne hd h hmb;go_enter Tryz.func207,Tryz.ntmps207
 go_wp2_with fail
 go_loopg [12] l.length (fun gg s12 wr=>∃(kk:Nat) (v1:DV),kk≤l.length∧l.length-kk≤gg∧s12=kk∧Aside (WK t tl B wr p v1 (bt0 d0 l m kk))∧Aside (UpdM mb p v0 w0 v1 wr)∧Aside (Blk wr mb [.int .i64 ((k0+kk*m.length:Nat):Int)] 3))
 case atStart=>exact⟨0,v0,Nat.zero_le _,oM,rfl,(by rw[bt0_zero];exact HK0.out),UpdM.refl _ _ _ _,(by simpa [Aside] using HMB.out)⟩
 obtain⟨kk,v1,hkn,hgg,rfl,hO,hT,hC⟩:=hrel
 by_cases hlt:kk<l.length
 · have hltz:(kk:Int)<(l.length:Int):=oM
   obtain⟨a,ha⟩:=get_of hlt;have HA:=Lib.hid ha;obtain⟨g1,hA1,_⟩:=ownsRow_shape HL.out oM;subst hA1
   have l0:wr.cell? ⟨g1,kk,none⟩=some (.int .i64 a):=by
    have h9:=ownsRow_touch HL.out hT.out.t (fun b hb=>HL0.out b (ownBlock_ownB hb));simpa using ownsRow_at inC_len h9 ha (j:=0) rfl
   clear ha;go_wp2_with fail
   go_loopg [18] m.length (fun gg s18 wr=>∃(j:Nat) (v:DV),j≤m.length∧m.length-j≤gg∧s18=j∧Aside (WK t tl B wr p v (bt1 d0 l m kk a j))∧Aside (UpdM mb p v0 w0 v wr)∧Aside (Blk wr mb [.int .i64 ((k0+kk*m.length+j:Nat):Int)] 3))
   case atStart=>exact⟨0,v1,Nat.zero_le _,oM,rfl,(by rw[bt1_zero];exact hO),hT,hC⟩
   obtain⟨j,v,hj,hgg2,rfl,hO2,hT2,hC2⟩:=hrel
   by_cases hlt2:j<m.length
   · have hltz2:(j:Int)<(m.length:Int):=oM
     obtain⟨b,hb⟩:=get_of hlt2;obtain⟨g2,hA2,_⟩:=ownsRow_shape HM.out oM;subst hA2
     have l2:wr.cell? ⟨g2,j,none⟩=some (.int .i64 b):=by
      have h9:=ownsRow_touch HM.out hT2.out.t (fun b hb=>HM0.out b (ownBlock_ownB hb));simpa using ownsRow_at inC_len h9 hb (j:=0) rfl
     have HBb:=Lib.hid hb;clear hb;obtain⟨d,hd⟩:∃d,d=bt1 d0 l m kk a j:=⟨_,rfl⟩;have hK0:WK t tl B wr p v d:=by rw[hd];exact hO2
     have hcx:=hK0.nine.2.1;have hcbx:wr.cell? ⟨bx,0,none⟩=some (pt p 0):=(World.cell?_of_block (w:=w0) (a:=⟨bx,0,none⟩) (hT2.out.t.block bx HBA.out.1 (fun hm=>by have:=HNE.out;have h8:=HBA.out.2;simp at hm;rcases hm with h9|h9|h9;exact this h9;exact h8.1 h9;exact h8.2 h9))).trans HBX.out;have hBA:bx∉blks v:=fun hm=>by rcases hT2.out.n bx hm with h9|h9;exact HBA.out.2.2 h9;have:=HBA.out.1;omega
     have hMA:Aprt mb p v wr:=⟨hC2.out.lt,HMA.out.2.1,fun hm=>by rcases hT2.out.n mb hm with h9|h9;exact HMA.out.2.2 h9;have:=HMA.out.1;omega⟩;have hBxl:=World.block_lt_of_cell? wr ⟨bx,0,none⟩ hcbx;have HS:Aside (∀u,Below wr.heap.size wr u→u.cell? ⟨bx,0,none⟩=some (pt p 0)∧u.cell? ⟨p,1,none⟩=some (.slice v.A2 v.n2 v.c2)):=fun u hu=>⟨(World.cell?_of_block (w:=wr) (a:=⟨bx,0,none⟩) (hu.block bx hBxl)).trans hcbx,(World.cell?_of_block (w:=wr) (a:=⟨p,1,none⟩) (hu.block p hK0.lt)).trans hcx⟩;have HBt:Aside (∀u,Touch (ownB v.A2) wr u→u.cell? ⟨bx,0,none⟩=some (pt p 0)):=fun u hu=>(World.cell?_of_block (w:=wr) (a:=⟨bx,0,none⟩) (hu.block bx hBxl (fun hm=>hBA (by simp[blks,hm])))).trans hcbx;have hBW:B≤wr.heap.size:=by have:=hK0.lt;have:=hK0.hp;omega
     have hmul:kk*m.length≤40*40:=Nat.mul_le_mul oM hm1;have hmul2:l.length*m.length≤40*40:=Nat.mul_le_mul hl1 hm1
     have hn:v.n2≤100000:=by
      have h1:=hK0.len.2.1;have h2:=bt1_len d0 l m kk a j;have h3:=HD.out;rw[hd]at h1;omega
     have HMA2:=Lib.hid hMA;have HDd:=Lib.hid hd;have HKC:Aside (k0+kk*m.length+j≤20000):=by show _≤_;omega
     clear hd hcx hcbx hBA hMA hBxl hmul hmul2
     go_upto_region 6 with fail
     clear l0 l2
     refine wp_region_F [(22,14)] (fun l u=>(l 10=false→Below wr.heap.size wr u)∧(l 14=false→Touch (ownB v.A2) wr u)) (fun i u u'=>match i with|10=>Touch (ownB v.A2) u u'|14=>∃x9,u'=u.setCell ⟨p,1,none⟩ x9|_=>Below u.heap.size u u') (fun j x u=>match j with|0=>x 22=pt p 0|1=>x 23=pt p 0|2=>x 24=pt p 0|3=>x 25=pt p 0|4=>x 26=pt p 1|5=>x 27= .slice v.A2 v.n2 v.c2|6=>x 28=a|7=>x 29=b|8=>x 30= .agg #[a,b, .bool true]|9=>∃q,x 31= .slice (some ⟨q,0,none⟩) 1 1∧wr.heap.size≤q∧Rd 3 lnC u (some ⟨q,0,none⟩) 1 [(⟨a,b,true⟩:Line)]|10=>∃A' c',x 32= .slice A' (v.n2+1) c'∧u.ownsRow B 77 3 (.slice A' (v.n2+1) c') (v.n2+1) ((d.ln++[(⟨a,b,true⟩:Line)]).flatMap lnC)∧∀b∈ownB A',b∈ownB v.A2∨wr.heap.size≤b|11=>x 33=pt p 0|12=>x 34=pt p 0|13=>x 35=pt p 1|14=>∃A' c',WK t tl B u p {v with A2:=A',n2:=v.n2+1,c2:=c'} {d with ln:=d.ln++[(⟨a,b,true⟩:Line)]}∧Upd p v wr {v with A2:=A',n2:=v.n2+1,c2:=c'} u|_=>True) ?h0 ?hkeep ?hstep ?d0
     case h0=>exact⟨fun _=>bR.drew,fun _=>(Touch.refl _ _).drew⟩
     case hkeep=>
      intro j i x l u u' hj hi hpre ht hG hR
      by_cases hjb:j=9
      · subst hjb;obtain⟨q,h1,h2,h3⟩:=ht;refine⟨q,h1,h2,?_⟩
        by_cases hia:i=10
        · subst hia;exact h3.touch hR (fun b hb y hy hyb=>by cases hy;have h8:=(hK0.own.lt b (by simp[blks,hb])).2;have h9:q=b:=hyb;omega)
        by_cases his:i=14
        · subst his;obtain⟨x9,rfl⟩:=hR;exact h3.touch (Touch.set1 _ _ _ _) (fun b hb y hy hyb=>by cases hy;have h8:=hK0.lt;simp at hb;have h9:q=b:=hyb;omega)
        exact h3.below (by have h9:=hR;split at h9<;>first|exact(hia rfl).elim|exact(his rfl).elim|exact h9)
      by_cases hja:j=10
      · subst hja;obtain⟨A',c',h1,h2,h3⟩:=ht;refine⟨A',c',h1,?_,h3⟩
        by_cases hia:i=10
        · subst hia;rw[hj]at hi;cases hi
        by_cases his:i=14
        · subst his;obtain⟨x9,rfl⟩:=hR;refine ownsRow_touch h2 (Touch.set1 _ _ _ _) (fun b hb hm=>?_)
          simp at hm
          subst hm
          rcases h3 _ (ownBlock_ownB hb) with h4|h4
          · exact hK0.np (by simp[blks,h4])
          have:=hK0.lt;omega
        exact ownsRow_touch h2 (Touch.of_below (by have h9:=hR;split at h9<;>first|exact(hia rfl).elim|exact(his rfl).elim|exact h9)) sI
      by_cases hjs:j=14
      · subst hjs;obtain⟨A',c',h1,h2⟩:=ht
        by_cases hia:i=10
        · subst hia;rw[hpre 10 kR]at hi;cases hi
        by_cases his:i=14
        · subst his;rw[hj]at hi;cases hi
        exact⟨A',c',h1.below (by have h9:=hR;split at h9<;>first|exact(hia rfl).elim|exact(his rfl).elim|exact h9),h2.then_below (by have h9:=hR;split at h9<;>first|exact(hia rfl).elim|exact(his rfl).elim|exact h9)⟩
      exact(by have h9:=ht;clear ht;split at h9<;>first|exact h9|exact(hjb rfl).elim|exact(hja rfl).elim|exact(hjs rfl).elim)
     case hstep=>
      dsimp only[fil,fls,fl,List.toList_toArray,Nat.reduceAdd];refine⟨?c0,?_,?_,?_,?_,?_,?_,?_,?_,?c9,?c10,?_,?_,?_,?c14,trivial⟩
      all_goals intro l x u hG hno hli hpre hd K hK
      case c0=>
       clear hd;have b0:=HBt.out _ (hG.2 (hno 14 kR));go_simp
       exact hK _ _ rfl bR sG
      case c9=>
       have e8:x 30= .agg #[a,b, .bool true]:=hd ⟨8, .data⟩ sI rfl;clear hd;simp only[e8]at hK ⊢;have hBl:=hG.1 (hno 10 kR);go_simp
       exact hK _ _ ⟨_,rfl,hBl.size,Rd.one (Blk.new _ _ _)⟩ (bR.alloc (Nat.le_refl _) _) ⟨fun _=>hBl.alloc hBl.size _,fun h=>(hG.2 (hno 14 kR)).alloc _⟩
      case c10=>
       have e5:x 27= .slice v.A2 v.n2 v.c2:=hd ⟨5, .data⟩ sI rfl;have e9:∃q,x 31= .slice (some ⟨q,0,none⟩) 1 1∧wr.heap.size≤q∧Rd 3 lnC u (some ⟨q,0,none⟩) 1 [(⟨a,b,true⟩:Line)]:=hd ⟨9, .data⟩ sI rfl;clear hd;simp only[e5]at hK ⊢;have hBl:=hG.1 hli;have hTc:=hG.2 (hno 14 kR);obtain⟨q,h31,hq,hR⟩:=e9;generalize k31:x 31=z31 at h31 hK ⊢;subst h31;refine wp_append_rows (.tmp 27) (.tmp 31) 23 rfl 77 3 _ 24 inf77 Tryz.underlying23 rfl dE lnC_len lnC_one dE B _ _ _ rfl _ (hK0.below hBl).own.ln _ _ _ rfl (fun h=>nomatch h) [(⟨a,b,true⟩:Line)] hR oM dE (Nat.le_trans hBW hBl.size) ?_
       intro v9 w9 hAp;obtain⟨A',c',rfl,hown,htch,hnb⟩:=hAp;exact hK _ _ ⟨A',c',rfl,hown,fun b hb=>(hnb b hb).imp id (Nat.le_trans hBl.size)⟩ htch ⟨fun h=>by simp at h,fun _=>hTc.trans htch (fun x hx=> .inl hx)⟩
      case c14=>
       have e13:x 35=pt p 1:=hd ⟨13, .data⟩ sI rfl;have e10:∃A' c',x 32= .slice A' (v.n2+1) c'∧u.ownsRow B 77 3 (.slice A' (v.n2+1) c') (v.n2+1) ((d.ln++[(⟨a,b,true⟩:Line)]).flatMap lnC)∧∀b∈ownB A',b∈ownB v.A2∨wr.heap.size≤b:=hd ⟨10, .data⟩ sI rfl;clear hd;simp only[e13]at hK ⊢;have hTc:=hG.2 hli;obtain⟨A',c',h32,hown,hnb⟩:=e10;generalize k32:x 32=z32 at h32 hK ⊢;subst h32;have hbk:=hK0.blk.touch hTc (fun hm=>hK0.np (by simp[blks,hm]));have hcl:=hbk.cell 1 _ rfl;have hfr:=hbk.free 1;have hput:=hK0.putLn hTc (fun b hb=> .inl hb) hown hnb;clear hbk;go_simp
       exact hK undef _ ⟨A',c',hput⟩ ⟨_,rfl⟩ ⟨fun h=>by simp[hpre 10 kR]at h,fun h=>by simp at h⟩
      all_goals
       dsimp only at hd;simp only[eB]at hd
       try simp only[hd]at hK ⊢
       first|(go_simp;exact hK _ _ rfl bR sG)|(obtain⟨b0,m1⟩:=HS.out _ (hG.1 (hno 10 kR));go_simp;exact hK _ _ rfl bR sG)
     dsimp only[fil,fls,fl,List.toList_toArray,Nat.reduceAdd];rintro l_1 x u hall hG ⟨_,_,_,_,_,_,_,_,_,_,_,_,_,_,tS,_⟩;obtain⟨A',c',hK9,hU9⟩:=tS;clear hall hG;have hB9:=hC2.out.upd HMA2.out hU9;have hM9:=HMA2.out.upd hU9;have HU9:Aside (UpdM mb p v0 w0 _ u):=hT2.out.upd hU9;have HCC:Aside (((k0+kk*m.length+j:Nat):Int)+1=((k0+kk*m.length+(j+1):Nat):Int)):=by show _=_;omega
     have q0:=hB9.cell 0 _ rfl;have q1:=hB9.free 0;have hK10:=hK9.touch (Touch.set1 u mb 0 (.int .i64 ((k0+kk*m.length+(j+1):Nat):Int))) (fun hm=>by simp at hm;exact hM9.2.1 hm.symm) (fun y hy hm=>by simp at hm;subst hm;exact hM9.2.2 hy);rw[HDd.out,bt1_line HBb.out]at hK10;have HK10:=Lib.hid hK10;have HB10:Aside (Blk (u.setCell ⟨mb,0,none⟩ (.int .i64 ((k0+kk*m.length+(j+1):Nat):Int))) mb [.int .i64 ((k0+kk*m.length+(j+1):Nat):Int)] 3):=hB9.set 0 _;have hkc:=HKC.out;generalize hkq:k0+kk*m.length+j=kq at q0 hkc HCC;clear hK9 hU9 hB9 hM9 hK10 hK0 hkq;go_wp2_with fail
     have hw9:(u.setCell ⟨mb,0,none⟩ (.int .i64 ((kq:Int)+1)))=(u.setCell ⟨mb,0,none⟩ (.int .i64 ((k0+kk*m.length+(j+1):Nat):Int))):=by rw[HCC.out]
     rw[hw9]
     go_roundg (m.length-(j+1))
     case measure=>omega
     exact⟨j+1,_,oM,Nat.le_refl _,nX,HK10.out,HU9.out.set 0 _,HB10⟩
   have hltz2:¬(j:Int)<(m.length:Int):=oM
   have hjj:j=m.length:=oM
   have hO3:Aside (WK t tl B wr p v (bt0 d0 l m (kk+1))):=by
    have h9:=hO2.out;rw[hjj,bt1_end HA.out]at h9;exact h9
   have hC3:Aside (Blk wr mb [.int .i64 ((k0+(kk+1)*m.length:Nat):Int)] 3):=by
    have h9:=hC2.out;rw[show k0+kk*m.length+j=k0+(kk+1)*m.length by rw[hjj,Nat.succ_mul];omega]at h9;exact h9
   clear hO2 hjj hC2;go_wp2_with fail
   go_roundg (l.length-(kk+1))
   case measure=>omega
   exact⟨kk+1,v,oM,Nat.le_refl _,nX,hO3,hT2,hC3⟩
 have hltz:¬(kk:Int)<(l.length:Int):=oM
 have hkk:kk=l.length:=oM
 have hO3:=hO.out;have hC3:=hC.out;rw[hkk]at hC3;rw[hkk,bt0_end]at hO3;have HO3:=Lib.hid hO3;have HC3:=Lib.hid hC3;clear hO hC hO3 hC3 hkk
 go_wp2
 refine bodyPost_end (v:= .tuple #[]) (by simp[results,Tryz.results207,go_sem]) rfl ?_
 exact⟨⟨_,rfl⟩,v1,HO3.out,hT.out,(by simpa using HC3.out)⟩
end
section
open Go.RowKit Go.Shelf
variable {t:TypeId} {tl:List Value} {B:Nat} {p:Nat} {q:Nat} {i:Nat} {k:Nat} {c:Nat} {A:Option Addr} {cs:List Value} {w:World} {w':World} {v:DV} {v':DV} {d:Diag}
theorem Upd.updM {mb:Nat} {v1 v2:DV} {w1 w2:World} (h:Upd p v w v1 w1) (k:UpdM mb p v1 w1 v2 w2) (hm:w.heap.size≤mb):Upd p v w v2 w2:=by
 refine⟨h.t.trans k.t ?_,fun b hb=>?_⟩
 · intro x hx
   rcases List.mem_cons.1 hx with rfl|hx
   · exact .inr hm
   rcases List.mem_cons.1 hx with rfl|hx
   · exact .inl sI
   rcases h.n x hx with h1|h1
   · exact .inl (by simp[h1])
   exact .inr h1
 rcases k.n b hb with h1|h1
 · exact h.n b h1
 exact .inr (Nat.le_trans h.t.size h1)
structure RowA (mb p:Nat) (v:DV) (w:World) (A:Option Addr) (c:Nat) (xs:List Int):Prop where
 row:∃B,w.ownsRow B 3 1 (.slice A xs.length c) xs.length (xs.flatMap inC)
 off:∀b∈ownB A,b∉mb::p::blks v
theorem RowA.updM {mb:Nat} {xs:List Int} (h:RowA mb p v w A c xs) (hu:UpdM mb p v w v' w'):RowA mb p v' w' A c xs:=by
 obtain⟨⟨B,hr⟩,ho⟩:=h;refine⟨⟨B,ownsRow_touch hr hu.t (fun b hb=>ho b (ownBlock_ownB hb))⟩,fun b hb hm=>?_⟩
 have h1:=ho b hb;have h2:=(ownsRow_lt hr b hb).2
 rcases List.mem_cons.1 hm with rfl|hm
 · exact h1 sI
 rcases List.mem_cons.1 hm with rfl|hm
 · exact h1 sI
 rcases hu.n b hm with h3|h3
 · exact h1 (by simp[h3])
 omega
theorem RowA.at {mb:Nat} {xs:List Int} (h:RowA mb p v w A c xs) {x:Int} (hx:xs[i]?=some x):∃g,A=some ⟨g,0,none⟩∧w.cell? ⟨g,i,none⟩=some (.int .i64 x):=by
 obtain⟨B,hr⟩:=h.row;have hlt:=(List.getElem?_eq_some_iff.1 hx).1;obtain⟨g,rfl,_⟩:=ownsRow_shape hr oM;exact⟨g,rfl,by simpa using ownsRow_at inC_len hr hx (j:=0) rfl⟩
theorem Blk.updM {mb:Nat} (h:Blk w q cs t) (ha:Aprt q p v w) (hn:q≠mb) (hu:UpdM mb p v w v' w'):Blk w' q cs t:=
 h.touch hu.t (fun hm=>by simp at hm;rcases hm with h1|h1|h1;exact hn h1;exact ha.2.1 h1;exact ha.2.2 h1)
theorem Aprt.updM {mb:Nat} (ha:Aprt q p v w) (hu:UpdM mb p v w v' w'):Aprt q p v' w':=
 ⟨Nat.lt_of_lt_of_le ha.1 hu.t.size,ha.2.1,fun hm=>by rcases hu.n q hm with h1|h1;exact ha.2.2 h1;have:=ha.1;omega⟩
structure PV (t:TypeId) (tl:List Value) (B p bx mb sb:Nat) (Aa Ab Ac:Option Addr) (ca cb cc:Nat) (a b c:List Int) (v:DV) (w:World) (d:Diag) (k:Nat):Prop where
 K:WK t tl B w p v d
 ibx:Blk w bx [pt p 0] 79
 abx:Aprt bx p v w
 imb:Blk w mb [k] 3
 amb:Aprt mb p v w
 isb:Blk w sb [.slice Aa a.length ca, .slice Ab b.length cb, .slice Ac c.length cc] 219
 asb:Aprt sb p v w
 ne:bx≠mb
 ne2:sb≠mb
 ra:RowA mb p v w Aa ca a
 rb:RowA mb p v w Ab cb b
 rc:RowA mb p v w Ac cc c
theorem PV.updM {bx mb sb:Nat} {Aa Ab Ac:Option Addr} {ca cb cc:Nat} {a b c:List Int} {d':Diag} {k':Nat} (h:PV t tl B p bx mb sb Aa Ab Ac ca cb cc a b c v w d k) (hu:UpdM mb p v w v' w') (hK:WK t tl B w' p v' d') (hm:Blk w' mb [k'] 3):PV t tl B p bx mb sb Aa Ab Ac ca cb cc a b c v' w' d' k':=
 ⟨hK,h.ibx.updM h.abx h.ne hu,h.abx.updM hu,hm,h.amb.updM hu,h.isb.updM h.asb h.ne2 hu,h.asb.updM hu,h.ne,h.ne2,h.ra.updM hu,h.rb.updM hu,h.rc.updM hu⟩
theorem PV.upd {bx mb sb:Nat} {Aa Ab Ac:Option Addr} {ca cb cc:Nat} {a b c:List Int} {d':Diag} (h:PV t tl B p bx mb sb Aa Ab Ac ca cb cc a b c v w d k) (hu:Upd p v w v' w') (hK:WK t tl B w' p v' d'):PV t tl B p bx mb sb Aa Ab Ac ca cb cc a b c v' w' d' k:=
 h.updM ((UpdM.refl mb p v w).upd hu) hK (h.imb.upd h.amb hu)
theorem PV.below {bx mb sb:Nat} {Aa Ab Ac:Option Addr} {ca cb cc:Nat} {a b c:List Int} (h:PV t tl B p bx mb sb Aa Ab Ac ca cb cc a b c v w d k) (hb:Below w.heap.size w w'):PV t tl B p bx mb sb Aa Ab Ac ca cb cc a b c v w' d k:=
 h.upd (Upd.of_touch ((Touch.of_below hb).mono sI)) (h.K.below hb)
theorem PV.all {bx mb sb:Nat} {Aa Ab Ac:Option Addr} {ca cb cc:Nat} {a b c:List Int} (h:PV t tl B p bx mb sb Aa Ab Ac ca cb cc a b c v w d k) {A1 A2:Option Addr} {c1 c2:Nat} {l m:List Int} (h1:RowA mb p v w A1 c1 l) (h2:RowA mb p v w A2 c2 m) (hl:l.length≤40) (hm:m.length≤40) (hd:d.ln.length≤10000) (hk:k≤10000):
  Calls Tryz.prog 207 #[.slice A1 l.length c1, .slice A2 m.length c2,pt bx 0,pt mb 0] w fun e w'=>(∃z,e= .returned z)∧∃v',PV t tl B p bx mb sb Aa Ab Ac ca cb cc a b c v' w' {d with ln:=d.ln++between l m} (k+l.length*m.length)∧UpdM mb p v w v' w':=by
 obtain⟨B1,hr1⟩:=h1.row;obtain⟨B2,hr2⟩:=h2.row;refine(all207 h.K bx mb k (h.ibx.cell 0 _ rfl) h.abx h.imb h.amb h.ne A1 c1 B1 l hr1 h1.off hl A2 c2 B2 m hr2 h2.off hm hd hk).mono ?_
 rintro e w' ⟨hz,v',hK,hU,hB⟩;exact⟨hz,v',h.updM hU hK hB,hU⟩
def stg (D:Diag) (p q:Int) (a b c:List Int):Nat→Diag
 |0=>D
 |1=>D.addAll (4*q) a
 |2=>(D.addAll (4*q) a).addAll (4*p) b
 |_=>((D.addAll (4*q) a).addAll (4*p) b).addAll (4*(p+q+1)) c
theorem stg_len (D:Diag) (p q:Int) (a b c:List Int) (k:Nat):(stg D p q a b c k).sp.length=D.sp.length:=by
 unfold stg
 split
 · rfl
 · exact len_addAll
 · exact len_addAll.trans len_addAll
 exact len_addAll.trans (len_addAll.trans len_addAll)
theorem stg_phase {D:Diag} (h:∀s∈D.sp,0≤s.phase∧s.phase≤7) (p q:Int) (a b c:List Int) (k:Nat):∀s∈(stg D p q a b c k).sp,0≤s.phase∧s.phase≤7:=by
 unfold stg
 split
 · exact h
 · exact addAll_phase _ _ h
 · exact addAll_phase _ _ (addAll_phase _ _ h)
 exact addAll_phase _ _ (addAll_phase _ _ (addAll_phase _ _ h))
theorem addAll_take {q:Int} {xs:List Int} {j:Nat} {x:Int} (h:xs[j]?=some x):(d.addAll q (xs.take j)).addPh x q=d.addAll q (xs.take (j+1)):=by
 rw[take_succ_at h,addAll_snoc]
theorem away_lim (n:Int) (h1:∀l∈d.ln,(-1000≤l.f∧l.f≤1000)∧-1000≤l.t∧l.t≤1000) (h2:∀x∈d.ins,-1000≤x∧x≤1000) (h3:∀x∈d.outs,-1000≤x∧x≤1000):(d.away n).Lim:=by
 have hd:∀x:Int,-1000≤x∧x≤1000→-1000000≤downI x n∧downI x n≤1000000:=by
  intro x hx;unfold downI
  split<;>omega
 refine⟨fun l hl=>?_,fun x hx=>?_,fun x hx=>?_⟩
 · obtain⟨l',hl',rfl⟩:=List.mem_map.1 hl;have h4:=h1 l' (List.mem_filter.1 hl').1;exact⟨hd _ h4.1,hd _ h4.2⟩
 · obtain⟨x',hx',rfl⟩:=List.mem_map.1 hx;exact hd _ (h2 x' hx')
 obtain⟨x',hx',rfl⟩:=List.mem_map.1 hx;exact hd _ (h3 x' hx')
theorem between_mem {l m:List Int} {x:Line} (h:x∈between l m):x.f∈l∧x.t∈m:=by
 unfold between at h;simp only[List.mem_flatMap,List.mem_map]at h;obtain⟨y,hy,z,hz,rfl⟩:=h;exact⟨hy,hz⟩
theorem stg_rest (D:Diag) (p q:Int) (a b c:List Int) (k:Nat):(stg D p q a b c k).ln=D.ln∧(stg D p q a b c k).ins=D.ins∧(stg D p q a b c k).outs=D.outs∧(stg D p q a b c k).sc=D.sc:=by
 unfold stg
 split
 · exact⟨rfl,rfl,rfl,rfl⟩
 · exact addAll_rest _ _
 · obtain⟨a1,a2,a3,a4⟩:=addAll_rest b (q:=4*p) (D.addAll (4*q) a);obtain⟨b1,b2,b3,b4⟩:=addAll_rest a (q:=4*q) D;exact⟨a1.trans b1,a2.trans b2,a3.trans b3,a4.trans b4⟩
 obtain⟨c1,c2,c3,c4⟩:=addAll_rest c (q:=4*(p+q+1)) ((D.addAll (4*q) a).addAll (4*p) b);obtain⟨a1,a2,a3,a4⟩:=addAll_rest b (q:=4*p) (D.addAll (4*q) a);obtain⟨b1,b2,b3,b4⟩:=addAll_rest a (q:=4*q) D;exact⟨c1.trans (a1.trans b1),c2.trans (a2.trans b2),c3.trans (a3.trans b3),c4.trans (a4.trans b4)⟩
theorem stg3 (D:Diag) (p q:Int) (a b c:List Int):stg D p q a b c 3=((D.addAll (4*q) a).addAll (4*p) b).addAll (4*(p+q+1)) c:=by simp only[stg]
end
section
open Go.RowKit Go.Shelf
variable {t:TypeId} {n:Nat} {e:TypeId}
theorem u222:Tryz.prog.underlying 222=some (.array 3 24):=kR
theorem u223:Tryz.prog.underlying 223=some (.array 3 3):=kR
theorem inf24:(Tryz.prog.info? 24).map (fun i=>(i.zero,i.size,i.bytes))=some (some (.slice none 0 0),1,24):=kR
theorem idx_arr (h:Tryz.prog.underlying t=some (.array n e)) (hs:∀w,(sizeOf e).run Tryz.prog w= .ok 1 w) (ha:∀w,(isAgg e).run Tryz.prog w= .ok false w) (cs:Array Value) (k:Int) (x:Value) (h0:0≤k) (hn:k<n) (hx:cs[k.toNat]?=some x) (w:World):(Instr.index t (.agg cs) k).run Tryz.prog w= .ok x w:=by
 simp[Instr.index,run_underlying h,hs,ha,asIntOf,h0,hn,part,hx,go_sem]
theorem sz24 (w:World):(sizeOf 24).run Tryz.prog w= .ok 1 w:=by
 obtain⟨i0,hi,hz0,hz1,hz2⟩:=info_parts inf24;rw[run_sizeOf w hi];simp[Program.cellsOf,hi,hz1]
theorem sz3 (w:World):(sizeOf 3).run Tryz.prog w= .ok 1 w:=by
 obtain⟨i0,hi,hz0,hz1,hz2⟩:=info_parts inf3;rw[run_sizeOf w hi];simp[Program.cellsOf,hi,hz1]
theorem u3:Tryz.prog.underlying 3=Tryz.prog.underlying 3:=rfl
theorem ag24 (w:World):(isAgg 24).run Tryz.prog w= .ok false w:=run_isAgg_plain Tryz.underlying24 rfl w
theorem ag3 (w:World):(isAgg 3).run Tryz.prog w= .ok false w:=run_isAgg_plain Tryz.underlying3 rfl w
theorem idx222_0 (x y z:Value) (w:World):(Instr.index 222 (.agg #[x,y,z]) (.int .i64 0)).run Tryz.prog w= .ok x w:=idx_arr u222 sz24 ag24 _ _ _ dE dE rfl w
theorem idx222_1 (x y z:Value) (w:World):(Instr.index 222 (.agg #[x,y,z]) (.int .i64 1)).run Tryz.prog w= .ok y w:=idx_arr u222 sz24 ag24 _ _ _ dE dE rfl w
theorem idx222_2 (x y z:Value) (w:World):(Instr.index 222 (.agg #[x,y,z]) (.int .i64 2)).run Tryz.prog w= .ok z w:=idx_arr u222 sz24 ag24 _ _ _ dE dE rfl w
theorem idx223_0 (x y z:Value) (w:World):(Instr.index 223 (.agg #[x,y,z]) (.int .i64 0)).run Tryz.prog w= .ok x w:=idx_arr u223 sz3 ag3 _ _ _ dE dE rfl w
theorem idx223_1 (x y z:Value) (w:World):(Instr.index 223 (.agg #[x,y,z]) (.int .i64 1)).run Tryz.prog w= .ok y w:=idx_arr u223 sz3 ag3 _ _ _ dE dE rfl w
theorem idx223_2 (x y z:Value) (w:World):(Instr.index 223 (.agg #[x,y,z]) (.int .i64 2)).run Tryz.prog w= .ok z w:=idx_arr u223 sz3 ag3 _ _ _ dE dE rfl w
end
section
def Num.huge (x:Num):Bool:=decide (x.k=0)&&byndB x.a x.b x.c x.d 2147483648
def Num.upR:Nat→Num→Option Num
 |0,x=>some x
 |n+1,x=>if (x.mulX Num.root).form.huge=true then none else Num.upR n (x.mulX Num.root).form
def Num.right (x:Num):Num × Int:=if x.check=0 then(x,0) else(Num.nil,8)
def Num.scaledR (x:Num) (n:Int):Num × Int:=
 if n<0 then(Num.powX n.natAbs Num.rhalf x.form).right
 else match Num.upR n.natAbs x.form with
  |none=>(Num.nil,8)
  |some y=>y.right
theorem Num.huge_check {x:Num} (h:x.huge=true):x.check≠0∧x.k≤60:=by
 simp only[Num.huge,Bool.and_eq_true,decide_eq_true_eq]at h;refine⟨fun hc=>?_,oM⟩
 have hb:=(Num.check_zero.1 hc).2.2;refine(Bool.eq_false_iff.1 hb) ((Num.big_iff x).2 ?_)
 have h2:=h.2;simp only[byndB,Bool.or_eq_true,decide_eq_true_eq]at h2;omega
theorem Num.upR_eq:∀(n:Nat) (x:Num),x.low→match Num.upR n x with
  |none=>(Num.powX n Num.root x).check≠0
  |some y=>y=Num.powX n Num.root x
 |0,x,_=>rfl
 | n+1,x,h=>by
  have hl:(x.mulX Num.root).form.low:=Num.low_form _ (by rw[Num.mulX_root];exact h.1);simp only[Num.upR,Num.powX]
  by_cases hh:(x.mulX Num.root).form.huge=true
  · rw[if_pos hh];have:=Num.huge_check hh;exact Num.powX_root_over n _ ⟨hl,this.1⟩ this.2
  rw[if_neg hh];exact Num.upR_eq n _ hl
theorem Num.scaledR_eq (x:Num) (hk:0≤x.k) (n:Int):x.scaledR n=(Num.powX n.natAbs (if n<0 then Num.rhalf else Num.root) x.form).right:=by
 unfold Num.scaledR
 by_cases hn:n<0
 · rw[if_pos hn,if_pos hn]
 rw[if_neg hn,if_neg hn];have h:=Num.upR_eq n.natAbs x.form (Num.low_form x hk)
 cases hu:Num.upR n.natAbs x.form with
 | none=>
  rw[hu]at h;simp only[Num.right];rw[if_neg h]
 | some y=>
  rw[hu]at h;simp only at h ⊢;rw[h]
def fin8 (p:Num × Int):Num × Int:=if p.2=0 then(p.1,0) else(Num.nil,8)
theorem power_right {s:Num} (hl:s.low) (hc:s.check=0) (n:Int):fin8 (s.power n)=(Num.powX n.natAbs (if n<0 then Num.rhalf else Num.root) s).right:=by
 have h:=Num.powP_eq (if n<0 then Num.rhalf else Num.root) (by split<;>simp) n.natAbs s hl hc;unfold Num.power fin8 Num.right;generalize (if n<0 then Num.rhalf else Num.root)=y at *
 split at h
 · rename_i h1
   rw[if_pos h1,h,if_pos rfl]
 rename_i h1
 rw[if_neg h1,if_neg (by rw[h];decide)]
end
end Go.Proofs.YtcoackmdmohnhaaGreatDoor
