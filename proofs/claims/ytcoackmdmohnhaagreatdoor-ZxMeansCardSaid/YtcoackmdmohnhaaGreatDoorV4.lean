/- Contracts of functions, and plain lemmas; each theorem's conditions stand in its statement. -/
import Derived.Test.YtcoackmdmohnhaaGreatDoorV3
import Derived.RangeFuncBox
import Derived.Shelf.RegionOpen
import Derived.OwnWalkIn
import Derived.TacticsInMore
import Derived.LoopNIn
import Derived.LoopIn
import Derived.Maps.OwnIn
import Derived.Maps.AppendAt
import Derived.Maps.OwnOps
import Derived.Maps.Views
set_option linter.unusedVariables false
set_option linter.unusedSimpArgs false
set_option maxRecDepth 100000
set_option maxHeartbeats 4000000
namespace Go.Proofs.YtcoackmdmohnhaaGreatDoor
section
open Go.RowKit Go.Shelf
variable {B:Nat} {k:Nat}
attribute [local go_sem] Oper.semAt_some
abbrev LnAt (n:Int) (L:List Line):={x:Nat × Line // L[x.1]?=some x.2∧x.2.at n=true}
def XL (bn:Nat) (n:Int) (A:Option Addr) (L:List Line) (pre:List (LnAt n L)) (W:World):Prop:=
 W.cell? ⟨bn,0,none⟩=some (.int .i64 n)∧∀j l,(∀x∈pre,x.1.1<j)→L[j]?=some l→∃g,A=some ⟨g,0,none⟩∧W.cell? ⟨g,j*3,none⟩=some (.int .i64 l.f)∧W.cell? ⟨g,j*3+1,none⟩=some (.int .i64 l.t)∧W.cell? ⟨g,j*3+2,none⟩=some (.bool l.hat)
def encL {n:Int} {L:List Line} (x:LnAt n L):Array Value:=#[.int .i64 (x.1.1:Int), .agg #[x.1.2.f,x.1.2.t, .bool x.1.2.hat]]
theorem abides_below {β:Type} {J:β→World→Prop} (hJ:AbidesFrom B J) {s:β} {W W':World} (h:J s W) (hb:Below W.heap.size W W'):J s W':=
 hJ s W W' none h ⟨hb.os,hb.tape,hb.output,hb.size,fun k hk _=>hb.block k hk⟩ (fun r e=>by cases e)
theorem pre_lt {n:Int} {L:List Line} {pre:List (LnAt n L)} (h:pre.map (·.1)=ats n (L.take k)):∀x∈pre,x.1.1<k:=by
 intro x hx;have:x.1∈ats n (L.take k):=by rw[←h];exact List.mem_map_of_mem hx
 exact ats_lt this
theorem pre_len {n:Int} {L:List Line} {pre:List (LnAt n L)} (h:pre.map (·.1)=ats n (L.take k)):pre.length≤k:=by
 have h1:=ats_len n (L.take k);rw[←h]at h1;simp at h1
 omega
theorem xe20_0 {p:Prop} (h:p:=by
 clear hf' hXs
 gi_wp2
 refine hR.mono ?_
 rintro e W3 (⟨rfl,hJ3⟩|⟨rfl,hJx3⟩)
 · gi_wp2
   go_roundw
   case rel=>exact⟨k+1,pre++[⟨(k,⟨xf,xt,xh⟩),HX.out,HA.out⟩],oM,by simp,by rw[ats_take HX.out,List.map_append,hpre,if_pos HA.out];rfl,hJ3⟩
   simp[intOf];omega
 gi_wp2
 refine bodyPost_ret (results_none rfl _ _ _) rfl ?_
 exact⟨⟨_,rfl⟩, .inr ⟨pre++[⟨(k,⟨xf,xt,xh⟩),HX.out,HA.out⟩],⟨k+1,by rw[ats_take HX.out,List.map_append,hpre,if_pos HA.out];rfl⟩,hJx3⟩⟩):p:=h
theorem at209_in (F:Fence) (m:Nat) (h209:F.fn 209) (hro:F.round=none) (hm:1≤m) (l bp bn p n2 c2:Nat) (A:Option Addr) (n:Int) (L:List Line) (hL:L.length=n2) (hbig:n2≤100000) (J Jx:List (LnAt n L)→World→Prop)
  (W:World) (hJ:AbidesFrom W.heap.size J) (hJX:∀pre W',J pre W'→XL bn n A L pre W')
  (hY:∀pre x W,J pre W→pre.length<L.length→YieldAt F (m-1) Tryz.prog l (encL x) W fun e W'=>(e= .returned (.bool true)∧J (pre++[x]) W')∨(e= .returned (.bool false)∧Jx (pre++[x]) W'))
  (hcp:W.cell? ⟨bp,0,none⟩=some (pt p 0)) (hc1:W.cell? ⟨p,1,none⟩=some (.slice A n2 c2)) (h0:J [] W):
  CallsIn F m Tryz.prog 209 #[.func (.yield l) #[] #[],pt bp 0,pt bn 0] W fun e W'=>(∃v,e= .returned v)∧
    ((∃ys:List (LnAt n L),ys.map (·.1)=ats n L∧J ys W')∨(∃pre:List (LnAt n L),(∃k,pre.map (·.1)=ats n (L.take k))∧Jx pre W')):=by
 refine callsIn_of_wp Tryz.func209 rfl h209 ?_ hro
 simp only[Tryz.ntmps209,List.size_toArray,List.length_cons,List.length_nil,Nat.reduceAdd,Nat.reduceSub,Array.replicate_succ,Array.replicate_zero,List.push_toArray,List.append_toArray,List.nil_append,List.cons_append]
 gi_wp2
 gi_loopw [12] (fun i wr=>∃(k:Nat) (pre:List (LnAt n L)),k≤n2∧i=k∧pre.map (·.1)=ats n (L.take k)∧J pre wr)
  (fun i _=>n2-(intOf i).toNat)
 case atStart=>exact⟨0,[],Nat.zero_le _,rfl,rfl,h0⟩
 obtain⟨k,pre,hk,rfl,hpre,hJs⟩:=hrel
 by_cases hlt:k<n2
 · obtain⟨x,hx⟩:=get_of (l:=L) (n:=k) oM;have hXs:=hJX _ _ hJs;obtain⟨hcn,hXs⟩:=hXs;obtain⟨g,rfl,x0,x1,x2⟩:=hXs k x (pre_lt hpre) hx;obtain⟨xf,xt,xh⟩:=x;have hpl:=pre_len hpre;have hW1:=abides_below hJ hJs (((Below.refl _ wr).alloc (Nat.le_refl _) (.cells #[xf,xt, .bool xh] 77)));obtain⟨hcn1,_⟩:=hJX _ _ hW1;have HX:Aside (L[k]?=some ⟨xf,xt,xh⟩):=hx
   by_cases ha:Line.at ⟨xf,xt,xh⟩ n=true
   · obtain⟨fn,tmps,assign,body,hy,hR⟩:=hY pre ⟨(k,⟨xf,xt,xh⟩),hx,ha⟩ _ hW1 oM;simp only[encL]at hy;have HA:Aside (Line.at ⟨xf,xt,xh⟩ n=true):=ha
     by_cases hf':xf=n
     · have hf:(xf==n)=true:=by simp[hf']
       exact xe20_0
     have hf:(xf==n)=false:=by simpa using hf'
     have ht:(xt==n)=true:=by
      simp[Line.at,hf']at ha
      simp[ha]
     exact xe20_0
   have hf:(xf==n)=false:=by
    rw[Bool.eq_false_iff];intro h;exact ha (by simp[Line.at,beq_iff_eq.1 h])
   have ht:(xt==n)=false:=by
    rw[Bool.eq_false_iff];intro h;exact ha (by simp[Line.at,beq_iff_eq.1 h])
   have HA:Aside (¬Line.at ⟨xf,xt,xh⟩ n=true):=ha;clear ha hXs
   gi_wp2
   refine⟨fun _ h=>(by cases h),?_⟩
   gi_wp2
   go_roundw
   case rel=>exact⟨k+1,pre,oM,by simp,by rw[ats_take HX.out,hpre,if_neg HA.out,List.append_nil],hW1⟩
   simp[intOf];omega
 obtain rfl:k=n2:=oM
 gi_wp2
 go_end0
 exact⟨⟨_,rfl⟩, .inl ⟨pre,by rw[hpre,List.take_of_length_le oM],hJs⟩⟩
end
section
open Go.RowKit Go.Shelf
variable {α:Type} {enc:α→List Value} {B:Nat} {i:Nat} {k:Nat} {n:Nat} {c:Nat} {g:Nat} {e:TypeId} {cs:List Value} {w:World}
theorem touch_setRow (w:World) (g:Nat) (cs:Array Value):Touch [g] w (w.setRow g cs):=
 ⟨rfl,rfl,rfl,by simp[World.setRow],fun k hk hn=>setRow_other w g k cs (by simpa using hn)⟩
def lay3 (L:List Value) (o:Nat) (cs:List Value):List Value:=L.take o++cs++L.drop (o+cs.length)
theorem lay3_len {L:List Value} {o:Nat} (h:o+cs.length≤L.length):(lay3 L o cs).length=L.length:=by
 simp only[lay3,List.length_append,List.length_take,List.length_drop];omega
theorem step_append_lay {ops:Array Oper} {o:Oper} {a:Act} {K:Act→World→Prop} {Q:Exit→Act→World→Prop} {E:Prop} (hgd:o.guard=none) (s x:Operand) (t:TypeId)
  (hop:o.op= .call {callee:= .builtin .append,args:=#[s,x],argTypes:=#[t,t]}) (e:TypeId) (k:Nat) (z:Value) (bytes:Nat) (hinf:(Tryz.prog.info? e).map (fun i=>(i.zero,i.size,i.bytes))=some (some z,k,bytes)) (ht:Tryz.prog.underlying t=some (.slice e))
  (g n c:Nat) (cur:Array Value) (hg:w.heap[g]?=some (.cells cur e (0,0))) (hs:a.eval s= .slice (some ⟨g,0,none⟩) n c) (ad:Addr) (m c':Nat) (hx:a.eval x= .slice (some ad) m c') (news:List Value) (hl:news.length=m*k) (hnews:∀j u,news[j]?=some u→w.cell? (ad.add j)=some u) (h1:∀u∈news,u.oneCell'=true)
  (hroom:n+m≤c) (hfit:n*k+news.length≤cur.size)
  (hK:∀w',Aside (w'.heap[g]?=some (.cells (lay3 cur.toList (n*k) news).toArray e (0,0)))→Touch [g] w w'→K (a.put o.dst (.slice (some ⟨g,0,none⟩) (n+m) c)) w'):
  if Region.wanted o (yielded ops a.tmps)=true then Oper.wp Tryz.prog o a w K Q else E:=by
 have hw:Region.wanted o (yielded ops a.tmps)=true:=by simp[Region.wanted,hgd]
 rw[if_pos hw];obtain⟨i0,hi,hz0,hz1,hz2⟩:=info_parts hinf;subst hz1;have hrun:=run_append_room (P:=Tryz.prog) w t o.type e i0 ht hi g n c cur hg ad m c' news hl hnews h1 hroom hfit;unfold Oper.wp;simp[execOp,hop,resolve,invoke,builtin,hs,hx,hrun,Result.andThen]
 exact hK _ (by simpa [lay3,Aside] using setRow_heap w g cur _ e _ hg) (by simpa [lay3] using touch_setRow w g _)
theorem wpList_clear_one {ops:Array Oper} {rest:List Oper} {o:Oper} {a:Act} {Q:Exit→Act→World→Prop} (hgd:o.guard=none) (x:Operand) (t:TypeId)
  (hop:o.op= .call {callee:= .builtin .clear,args:=#[x],argTypes:=#[t]}) (e:TypeId) (z:Value) (zs:List Value) (hz:∀w,(zeroValue e).run Tryz.prog w= .ok z w) (hzs:z.cells=zs.toArray) (hzne:0<zs.length) (ht:Tryz.prog.underlying t=some (.slice e)) (h1:∀u∈zs,u.oneCell'=true)
  (g of c m:Nat) (hm:m=1) (cur:List Value) (hg:w.heap[g]?=some (.cells cur.toArray e (0,0))) (hx:a.eval x= .slice (some ⟨g,of,none⟩) m c) (hfit:of+zs.length≤cur.length)
  (hK:∀w',Aside (w'.heap[g]?=some (.cells (lay3 cur of zs).toArray e (0,0)))→Touch [g] w w'→wpList Tryz.prog ops Q rest (a.put o.dst (.tuple #[])) w'):wpList Tryz.prog ops Q (o::rest) a w:=by
 subst hm;refine wpList_plain hgd fun K hK2=>?_
 have hzc:(Builtin.zeroCells z.cells 1).toList=zs:=by
  rw[hzs]
  apply List.ext_getElem?
  intro j
  by_cases hj:j<zs.length
  · simp[Builtin.zeroCells,hj,Nat.mod_eq_of_lt hj]
  simp[Builtin.zeroCells,hj]
 have hst:=run_storeCells_at Tryz.prog g of e zs 0 cur.toArray w hg (by simpa using hfit) h1
 have hrun:(Builtin.clear_ #[t] o.type #[.slice (some ⟨g,of,none⟩) 1 c]).run Tryz.prog w= .ok (.tuple #[]) (w.setRow g (lay3 cur of zs).toArray):=by
  simp[Builtin.clear_,run_underlying ht,hz,hzc,hst,lay3]
 unfold Oper.wp;simp[execOp,hop,resolve,invoke,builtin,hx,hrun,Result.andThen]
 exact hK2 _ _ (hK _ (by simpa [Aside] using setRow_heap w g cur.toArray _ e _ hg) (touch_setRow w g _))
theorem zero77:∀w,(zeroValue 77).run Tryz.prog w= .ok (.agg #[.int .i64 0, .int .i64 0, .bool false]) w:=fun w=>by kernel_rfl
theorem zero73:∀w,(zeroValue 73).run Tryz.prog w= .ok (.agg #[.int .i64 0, .int .i64 0]) w:=fun w=>by kernel_rfl
theorem del_row (he:∀x,(enc x).length=k) (hk:0<k) {w2:World} {cur:Array Value} {xs:List α} (ho:w.ownsRow B e k (.slice (some ⟨g,0,none⟩) n c) n (xs.flatMap enc)) (hg:w.heap[g]?=some (.cells cur e (0,0))) (hi:i<n) (zs:List Value) (hz:zs.length=k)
  (h2:w2.heap[g]?=some (.cells (lay3 (lay3 cur.toList (i*k) ((xs.drop (i+1)).flatMap enc)) ((n-1)*k) zs).toArray e (0,0))):
  w2.ownsRow B e k (.slice (some ⟨g,0,none⟩) (n-1) c) (n-1) ((xs.eraseIdx i).flatMap enc):=by
 have hxn:=ownsRow_size hk he ho
 rcases ho.2 with⟨hv,h0⟩|⟨g',cap,cur',hv,hbg,hg',hnc,hcm,hcs,htk⟩
 · cases hv
 cases hv
 rw[hg]at hg';cases hg'
 have hnk:n*k≤c*k:=Nat.mul_le_mul_right k hnc;have hik:(i+1)*k≤n*k:=Nat.mul_le_mul_right k oM;have hn1:(n-1)*k+k=n*k:=by rw[←Nat.succ_mul];congr 1;omega
 have hik2:i*k+k=(i+1)*k:=by rw[←Nat.succ_mul]
 have hd:((xs.drop (i+1)).flatMap enc).length=(n-(i+1))*k:=by rw[flat_len he,List.length_drop,hxn]
 have hdk:(n-(i+1))*k+(i+1)*k=n*k:=by rw[←Nat.add_mul];congr 1;omega
 have hfit1:i*k+((xs.drop (i+1)).flatMap enc).length≤cur.toList.length:=by rw[hd,Array.length_toList];omega
 have hl1:=lay3_len hfit1;have hfit2:(n-1)*k+zs.length≤(lay3 cur.toList (i*k) ((xs.drop (i+1)).flatMap enc)).length:=by rw[hl1,show cur.toList.length=c*k from hcs,hz,hn1];exact hnk
 refine⟨by rw[flat_len he,List.length_eraseIdx,hxn,if_pos hi], .inr ⟨g,c,_,rfl,hbg,h2,oM,hcm,?_,?_⟩⟩
 · rw[List.size_toArray,lay3_len hfit2,hl1,Array.length_toList,hcs]
 have hti:cur.toList.take (i*k)=(xs.take i).flatMap enc:=by
  have:cur.toList.take (i*k)=(cur.toList.take (n*k)).take (i*k):=by rw[List.take_take,Nat.min_eq_left oM]
  rw[this,htk];have hx2:xs.flatMap enc=(xs.take i).flatMap enc++(xs.drop i).flatMap enc:=by rw[←List.flatMap_append,List.take_append_drop]
  rw[hx2];have:((xs.take i).flatMap enc).length=i*k:=by rw[flat_len he,List.length_take,hxn];congr 1;omega
  rw[←this];exact List.take_left
 show List.take ((n-1)*k) (lay3 _ _ _)=_
 rw[List.eraseIdx_eq_take_drop_succ,List.flatMap_append]
 have hlen:((xs.take i).flatMap enc++(xs.drop (i+1)).flatMap enc).length=(n-1)*k:=by
  rw[List.length_append,hd,flat_len he,List.length_take,hxn,←Nat.add_mul]
  congr 1
  omega
 have e1:lay3 cur.toList (i*k) ((xs.drop (i+1)).flatMap enc)=((xs.take i).flatMap enc++(xs.drop (i+1)).flatMap enc)++cur.toList.drop (i*k+((xs.drop (i+1)).flatMap enc).length):=by
  rw[←hti];rfl
 rw[e1];generalize (xs.take i).flatMap enc++(xs.drop (i+1)).flatMap enc=F at hlen;unfold lay3;rw[←hlen,List.take_left,List.append_assoc,List.take_left]
theorem del194 (A:Option Addr) (n c i B:Nat) (xs:List Line) (w:World) (ho:w.ownsRow B 77 3 (.slice A n c) n (xs.flatMap lnC)) (hi:i<n) (hn:n≤100000):
  Calls Tryz.prog 194 #[.slice A n c,i, .int .i64 ((i:Int)+1)] w fun e w'=>e= .returned (.slice A (n-1) c)∧w'.ownsRow B 77 3 (.slice A (n-1) c) (n-1) ((xs.eraseIdx i).flatMap lnC)∧Touch (ownB A) w w':=by
 have ho2:=ho
 rcases ho.2 with⟨hv,h0⟩|⟨g,cap,cur,hv,hbg,hg,hnc,hcm,hcs,htk⟩
 · omega
 cases hv
 unfold maxLen at hcm;obtain⟨m,rfl⟩:∃m,n=i+1+m:=⟨n-(i+1),oM⟩;have hR:Rd 3 lnC w (some ⟨g,0,none⟩) (i+1+m) xs:=Rd.owned dE lnC_len ho;have hxn:=hR.len;have h1:((i:Int)==(i:Int)+1)=false:=by simp;omega
 have h0z:(0:Int)≤(i:Int)+1:=oM
 have h1z:(i:Int)≤(i:Int)+1:=oM
 have h2z:(i:Int)+1≤(i:Int)+1+m:=oM
 have h3z:(i:Int)+m≤(i:Int)+1+m:=oM
 have h4z:(i:Int)+1+m≤c:=oM
 have h5z:(0:Int)≤(i:Int)+m:=oM
 have hic:i≤c:=oM
 have hic2:i+1≤c:=oM
 have hic3:i+m≤c:=oM
 have hd:((xs.drop (i+1)).flatMap lnC).length=m*3:=by rw[flat_len lnC_len,List.length_drop,hxn];congr 1;omega
 have hnews:∀j u,((xs.drop (i+1)).flatMap lnC)[j]?=some u→w.drew.cell? ((⟨g,(i+1)*3,none⟩:Addr).add j)=some u:=by
  intro j u hj;rw[Addr.add_lit];show w.cell? _=_
  have h3:=Rd.flatA dE lnC_len hR ((i+1)*3+j) u (by
    have e1:xs.flatMap lnC=(xs.take (i+1)).flatMap lnC++(xs.drop (i+1)).flatMap lnC:=by rw[←List.flatMap_append,List.take_append_drop]
    have e2:((xs.take (i+1)).flatMap lnC).length=(i+1)*3:=by rw[flat_len lnC_len,List.length_take,hxn];congr 1;omega
    rw[e1,List.getElem?_append_right oM,e2];rw[show (i+1)*3+j-(i+1)*3=j by omega]
    exact hj)
  rw[Addr.add_lit,Nat.zero_add]at h3;exact h3
 have hdel:=fun(w2:World) h=>del_row (k:=3) (enc:=lnC) lnC_len dE (w2:=w2) ho hg hi [.int .i64 0, .int .i64 0, .bool false] rfl h
 have HO:Aside (∀w2:World,w2.heap[g]?=some (.cells (lay3 (lay3 cur.toList (i*3) ((xs.drop (i+1)).flatMap lnC)) ((i+m)*3) [.int .i64 0, .int .i64 0, .bool false]).toArray 77 (0,0))→w2.ownsRow B 77 3 (.slice (some ⟨g,0,none⟩) (i+m) c) (i+m) ((xs.eraseIdx i).flatMap lnC)):=by
  intro w2 h;have h3:=hdel w2 (by rw[show i+1+m-1=i+m by omega];exact h)
  rwa [show i+1+m-1=i+m by omega]at h3
 have HG:Aside (w.drew.heap[g]?=some (.cells cur 77 (0,0))):=hg;have HN:Aside (∀j u,((xs.drop (i+1)).flatMap lnC)[j]?=some u→w.drew.cell? ((⟨g,(i+1)*3,none⟩:Addr).add j)=some u):=hnews;have HCS:Aside (cur.size=c*3):=hcs;have HD:Aside (((xs.drop (i+1)).flatMap lnC).length=m*3):=hd;have h1x:=lnC_one (xs.drop (i+1))
 have HL:Aside ((lay3 cur.toList (i*3) ((xs.drop (i+1)).flatMap lnC)).length=c*3):=by
  show _=_
  rw[lay3_len (by rw[hd,Array.length_toList,hcs];omega),Array.length_toList,hcs]
 rw[show i+1+m-1=i+m by omega];clear ho hg hnews hcs hd hxn htk hR hdel
 by_cases hcc:c=i+1
 · obtain rfl:m=0:=oM
   subst hcc;go_enter Tryz.func194,Tryz.ntmps194
   go_wp2_with fail
   go_region_law ((with_reducible refine step_append_lay rfl _ _ 23 rfl 77 3 _ 24 inf77 Tryz.underlying23 g i (i+1) cur HG.out rfl _ _ _ rfl ((xs.drop (i+1)).flatMap lnC) HD.out ?hnw h1x oM (by rw[HD.out,HCS.out];omega) ?_);(case hnw=>(intro j u hj;have:=(List.getElem?_eq_some_iff.1 hj).1;rw[HD.out]at this;omega));intro w1 hg1 hT1)
   all_goals
    go_wp2_with (((with_reducible refine wpList_clear_one rfl _ 23 rfl 77 _ [.int .i64 0, .int .i64 0, .bool false] zero77 rfl dE Tryz.underlying23 dE g _ _ _ oM _ hg1.out rfl (by rw[HL.out];simp;omega) ?_);intro w2 hg2 hT2))
    go_ret
    exact⟨rfl,HO.out _ hg2.out,((Touch.refl [g] w).drew).trans hT1 (fun x hx=> .inl hx) |>.trans hT2 (fun x hx=> .inl hx)⟩
 have hcz:¬(c:Int)=i+1:=oM
 go_enter Tryz.func194,Tryz.ntmps194
 go_wp2_with fail
 go_region_law ((with_reducible refine step_append_lay rfl _ _ 23 rfl 77 3 _ 24 inf77 Tryz.underlying23 g i c cur HG.out rfl _ _ _ rfl ((xs.drop (i+1)).flatMap lnC) HD.out HN.out h1x oM (by rw[HD.out,HCS.out];omega) ?_);intro w1 hg1 hT1)
 all_goals
  go_wp2_with (((with_reducible refine wpList_clear_one rfl _ 23 rfl 77 _ [.int .i64 0, .int .i64 0, .bool false] zero77 rfl dE Tryz.underlying23 dE g _ _ _ oM _ hg1.out rfl (by rw[HL.out];simp;omega) ?_);intro w2 hg2 hT2))
  go_ret
  exact⟨rfl,HO.out _ hg2.out,((Touch.refl [g] w).drew).trans hT1 (fun x hx=> .inl hx) |>.trans hT2 (fun x hx=> .inl hx)⟩
theorem del198 (A:Option Addr) (n c i B:Nat) (xs:List Spider) (w:World) (ho:w.ownsRow B 73 2 (.slice A n c) n (xs.flatMap spC)) (hi:i<n) (hn:n≤100000):
  Calls Tryz.prog 198 #[.slice A n c,i, .int .i64 ((i:Int)+1)] w fun e w'=>e= .returned (.slice A (n-1) c)∧w'.ownsRow B 73 2 (.slice A (n-1) c) (n-1) ((xs.eraseIdx i).flatMap spC)∧Touch (ownB A) w w':=by
 have ho2:=ho
 rcases ho.2 with⟨hv,h0⟩|⟨g,cap,cur,hv,hbg,hg,hnc,hcm,hcs,htk⟩
 · omega
 cases hv
 unfold maxLen at hcm;obtain⟨m,rfl⟩:∃m,n=i+1+m:=⟨n-(i+1),oM⟩;have hR:Rd 2 spC w (some ⟨g,0,none⟩) (i+1+m) xs:=Rd.owned dE spC_len ho;have hxn:=hR.len;have h1:((i:Int)==(i:Int)+1)=false:=by simp;omega
 have h0z:(0:Int)≤(i:Int)+1:=oM
 have h1z:(i:Int)≤(i:Int)+1:=oM
 have h2z:(i:Int)+1≤(i:Int)+1+m:=oM
 have h3z:(i:Int)+m≤(i:Int)+1+m:=oM
 have h4z:(i:Int)+1+m≤c:=oM
 have h5z:(0:Int)≤(i:Int)+m:=oM
 have hic:i≤c:=oM
 have hic2:i+1≤c:=oM
 have hic3:i+m≤c:=oM
 have hd:((xs.drop (i+1)).flatMap spC).length=m*2:=by rw[flat_len spC_len,List.length_drop,hxn];congr 1;omega
 have hnews:∀j u,((xs.drop (i+1)).flatMap spC)[j]?=some u→w.drew.cell? ((⟨g,(i+1)*2,none⟩:Addr).add j)=some u:=by
  intro j u hj;rw[Addr.add_lit];show w.cell? _=_
  have h3:=Rd.flatA dE spC_len hR ((i+1)*2+j) u (by
    have e1:xs.flatMap spC=(xs.take (i+1)).flatMap spC++(xs.drop (i+1)).flatMap spC:=by rw[←List.flatMap_append,List.take_append_drop]
    have e2:((xs.take (i+1)).flatMap spC).length=(i+1)*2:=by rw[flat_len spC_len,List.length_take,hxn];congr 1;omega
    rw[e1,List.getElem?_append_right oM,e2];rw[show (i+1)*2+j-(i+1)*2=j by omega]
    exact hj)
  rw[Addr.add_lit,Nat.zero_add]at h3;exact h3
 have hdel:=fun(w2:World) h=>del_row (k:=2) (enc:=spC) spC_len dE (w2:=w2) ho hg hi [.int .i64 0, .int .i64 0] rfl h
 have HO:Aside (∀w2:World,w2.heap[g]?=some (.cells (lay3 (lay3 cur.toList (i*2) ((xs.drop (i+1)).flatMap spC)) ((i+m)*2) [.int .i64 0, .int .i64 0]).toArray 73 (0,0))→w2.ownsRow B 73 2 (.slice (some ⟨g,0,none⟩) (i+m) c) (i+m) ((xs.eraseIdx i).flatMap spC)):=by
  intro w2 h;have h3:=hdel w2 (by rw[show i+1+m-1=i+m by omega];exact h)
  rwa [show i+1+m-1=i+m by omega]at h3
 have HG:Aside (w.drew.heap[g]?=some (.cells cur 73 (0,0))):=hg;have HN:Aside (∀j u,((xs.drop (i+1)).flatMap spC)[j]?=some u→w.drew.cell? ((⟨g,(i+1)*2,none⟩:Addr).add j)=some u):=hnews;have HCS:Aside (cur.size=c*2):=hcs;have HD:Aside (((xs.drop (i+1)).flatMap spC).length=m*2):=hd;have h1x:=spC_one (xs.drop (i+1))
 have HL:Aside ((lay3 cur.toList (i*2) ((xs.drop (i+1)).flatMap spC)).length=c*2):=by
  show _=_
  rw[lay3_len (by rw[hd,Array.length_toList,hcs];omega),Array.length_toList,hcs]
 rw[show i+1+m-1=i+m by omega];clear ho hg hnews hcs hd hxn htk hR hdel
 by_cases hcc:c=i+1
 · obtain rfl:m=0:=oM
   subst hcc;go_enter Tryz.func198,Tryz.ntmps198
   go_wp2_with fail
   go_region_law ((with_reducible refine step_append_lay rfl _ _ 22 rfl 73 2 _ 16 inf73 Tryz.underlying22 g i (i+1) cur HG.out rfl _ _ _ rfl ((xs.drop (i+1)).flatMap spC) HD.out ?hnw h1x oM (by rw[HD.out,HCS.out];omega) ?_);(case hnw=>(intro j u hj;have:=(List.getElem?_eq_some_iff.1 hj).1;rw[HD.out]at this;omega));intro w1 hg1 hT1)
   all_goals
    go_wp2_with (((with_reducible refine wpList_clear_one rfl _ 22 rfl 73 _ [.int .i64 0, .int .i64 0] zero73 rfl dE Tryz.underlying22 dE g _ _ _ oM _ hg1.out rfl (by rw[HL.out];simp;omega) ?_);intro w2 hg2 hT2))
    go_ret
    exact⟨rfl,HO.out _ hg2.out,((Touch.refl [g] w).drew).trans hT1 (fun x hx=> .inl hx) |>.trans hT2 (fun x hx=> .inl hx)⟩
 have hcz:¬(c:Int)=i+1:=oM
 go_enter Tryz.func198,Tryz.ntmps198
 go_wp2_with fail
 go_region_law ((with_reducible refine step_append_lay rfl _ _ 22 rfl 73 2 _ 16 inf73 Tryz.underlying22 g i c cur HG.out rfl _ _ _ rfl ((xs.drop (i+1)).flatMap spC) HD.out HN.out h1x oM (by rw[HD.out,HCS.out];omega) ?_);intro w1 hg1 hT1)
 all_goals
  go_wp2_with (((with_reducible refine wpList_clear_one rfl _ 22 rfl 73 _ [.int .i64 0, .int .i64 0] zero73 rfl dE Tryz.underlying22 dE g _ _ _ oM _ hg1.out rfl (by rw[HL.out];simp;omega) ?_);intro w2 hg2 hT2))
  go_ret
  exact⟨rfl,HO.out _ hg2.out,((Touch.refl [g] w).drew).trans hT1 (fun x hx=> .inl hx) |>.trans hT2 (fun x hx=> .inl hx)⟩
end
section
open Go.RowKit Go.Maps
variable {b:Nat} {n:Nat} {w:World} {w':World}
def IntOk (x:Int):Prop:=(Lit.int .i64 x).wf=true
theorem intOk {x:Int} (h1:-9223372036854775808≤x) (h2:x≤9223372036854775807):IntOk x:=WalkArith.wf_i64 oM
def MapI (w:World) (b n:Nat) (f:Int→Int):Prop:=
 ∃D:DataW Unit,w.ownsMap Tryz.prog 3 (plainElem Tryz.prog 3) b n D∧IsMap D∧∀x,IntOk x→D.atKey (.int .i64 x) (.lit (.int .i64 0))= .lit (.int .i64 (f x))
theorem MapI.made (w:World):MapI (w.alloc (.map #[] 0)) w.heap.size 0 (fun _=>0):=
 ⟨.map [],World.ownsMap_made _ _ _ _,isMap_empty,fun _ _=>rfl⟩
theorem MapI.kept {f:Int→Int} {row:Option Nat} (h:MapI w b n f) (hg:w.grownBy w' row) (hne:some b≠row):MapI w' b n f:=by
 obtain⟨D,h1,h2,h3⟩:=h;exact⟨D,h1.kept hg hne,h2,h3⟩
theorem MapI.lt {f:Int→Int} (h:MapI w b n f):b<w.heap.size:=by
 obtain⟨D,h1,h2,h3⟩:=h;exact h1.lt
theorem MapI.below {f:Int→Int} (h:MapI w b n f) (hb:Below w.heap.size w w'):MapI w' b n f:=
 h.kept ⟨hb.os,hb.tape,hb.output,hb.size,fun k hk _=>hb.block k hk⟩ (row:=none) sI
theorem MapI.alloc {f:Int→Int} (h:MapI w b n f) (o:Obj):MapI (w.alloc o) b n f:=h.kept (World.grownBy_alloc w o none) sI
theorem MapI.drew {f:Int→Int} (h:MapI w b n f):MapI w.drew b n f:=h
theorem zero3 (w:World):(zeroValue 3).run Tryz.prog w= .ok (.int .i64 0) w:=kR
theorem law3:Keyed Tryz.prog 3:=int_keyed Tryz.underlying3
theorem wpList_mapI_get (w:World) {ops:Array Oper} {rest:List Oper} {o:Oper} {a:Act} {Q:Exit→Act→World→Prop}
  (hg:o.guard=none) (m x:Operand) (t:TypeId) (hop:o.op=Op.lookup t m x false) (ht:Tryz.prog.underlying t=some (.map 3 3)) (b n:Nat) (f:Int→Int)
  (hm:a.eval m= .map (some b)) (hown:MapI w b n f) (y:Int) (hx:a.eval x= .int .i64 y) (hy:IntOk y)
  (hK:wpList Tryz.prog ops Q rest (a.put o.dst (.int .i64 (f y))) w):wpList Tryz.prog ops Q (o::rest) a w:=by
 obtain⟨D,h1,h2,h3⟩:=hown;refine wpList_lookup_own_int w hg m x t hop 3 3 .i64 law3 ht Tryz.underlying3 (zero3 _) b n D hm h1 _ (.int .i64 y) hx (keyOf_int_mk Tryz.underlying3 hy) fun c hat _=>?_
 rw[h3 y hy]at hat;cases hat
 exact hK
theorem wpList_mapI_put (w:World) {ops:Array Oper} {rest:List Oper} {o:Oper} {a:Act} {Q:Exit→Act→World→Prop}
  (hg:o.guard=none) (m x v:Operand) (t:TypeId) (hop:o.op=Op.mapUpdate t m x v) (ht:Tryz.prog.underlying t=some (.map 3 3)) (b n:Nat) (f:Int→Int)
  (hm:a.eval m= .map (some b)) (hown:MapI w b n f) (hn:n<maxLen) (y z:Int) (hx:a.eval x= .int .i64 y) (hy:IntOk y) (hv:a.eval v= .int .i64 z) (hz:IntOk z)
  (hK:∀w',MapI w' b (n+1) (fun i=>if i=y then z else f i)→w.grownBy w' (some b)→wpList Tryz.prog ops Q rest (a.put o.dst undef) w'):wpList Tryz.prog ops Q (o::rest) a w:=by
 obtain⟨D,h1,h2,h3⟩:=hown;refine wpList_mapUpdate_own w hg m x v t hop 3 3 law3 ht (plainElem Tryz.prog 3) b n D hm h1 hn _ _ (.int .i64 y) hx hv (keyOf_int_mk Tryz.underlying3 hy) (.lit (.int .i64 z)) [] (plainElem_int Tryz.underlying3 hz) fun w' r1 r2=>hK w' ⟨_,r1,?_,fun i hi=>?_⟩ r2
 · obtain⟨es,rfl⟩:=h2;exact⟨_,rfl⟩
 by_cases e:i=y
 · subst e;dsimp only;rw[if_pos rfl,atKey_put_same h2 (by trivial)]
 dsimp only;rw[if_neg e,atKey_put_other (by intro h;cases h;exact e rfl),h3 i hi]
end
section
open Go.RowKit Go.Shelf
variable {α:Type} {enc:α→List Value} {B:Nat} {i:Nat} {k:Nat} {n:Nat} {c:Nat} {g:Nat} {e:TypeId} {S:List Nat} {w:World} {w':World}
theorem idxP_cases (p:α→Bool):∀l:List α,(idxP p l=-1∧∀x∈l,p x=false)∨∃(i:Nat) (x:α),idxP p l=(i:Int)∧l[i]?=some x∧p x=true∧∀j y,j<i→l[j]?=some y→p y=false
 |[]=> .inl ⟨rfl,by simp⟩
 | x::l=>by
  cases hx:p x with
  |true=>exact .inr ⟨0,x,by simp[idxP,hx],by simp,hx,fun j y hj=>by omega⟩
  | false=>
   rcases idxP_cases p l with⟨h1,h2⟩|⟨i,y,h1,h2,h3,h4⟩
   · exact .inl ⟨by simp[idxP,hx,h1],fun y hy=>by rcases List.mem_cons.1 hy with rfl|hy;exact hx;exact h2 y hy⟩
   refine .inr ⟨i+1,y,?_,by simpa using h2,h3,fun j z hj hz=>?_⟩
   · simp only[idxP,hx,h1];rw[if_neg sI,if_neg oM];omega
   cases j with
   |zero=>simp at hz;subst hz;exact hx
   |succ j=>exact h4 j z oM (by simpa using hz)
def PredS {α:Type} (S:List Nat) (g:Nat) (lb:Array Value) (arg:α→Value) (p:α→Bool) (w:World):Prop:=
 ∀x W,Touch S w W→Calls Tryz.prog g (#[arg x]++lb) W fun e W'=>e= .returned (.bool (p x))∧Below W.heap.size W W'
theorem PredS.predP {lb:Array Value} {arg:α→Value} {p:α→Bool} (h:PredS S g lb arg p w) (xs:List α):PredP g lb arg p xs w:=
 fun x _ W hW=>h x W ((Touch.of_below hW).mono sI)
theorem PredS.touch {lb:Array Value} {arg:α→Value} {p:α→Bool} (h:PredS S g lb arg p w) (ht:Touch S w w'):PredS S g lb arg p w':=
 fun x W hW=>h x W (ht.trans hW (fun y hy=> .inl hy))
theorem take_succ_at {l:List α} {j:Nat} {x:α} (h:l[j]?=some x):l.take (j+1)=l.take j++[x]:=by rw[List.take_add_one,h];rfl
theorem filter_first {p:α→Bool} {xs:List α} {x:α} (hx:xs[i]?=some x) (hp:p x=true) (hn:∀j y,j<i→xs[j]?=some y→p y=false):xs.take i=(xs.take (i+1)).filter (fun y=>!p y):=by
 rw[take_succ_at hx,List.filter_append]
 have h1:(xs.take i).filter (fun y=>!p y)=xs.take i:=by
  rw[List.filter_eq_self];intro y hy;obtain⟨j,hj⟩:=List.mem_iff_getElem?.1 hy;rw[List.getElem?_take]at hj
  split at hj
  · rw[hn j y (by assumption) hj];rfl
  cases hj
 rw[h1];simp[hp]
theorem ownsRow_set77 {kk:Nat} {L:List Line} (ho:w.ownsRow B 77 3 (.slice (some ⟨g,0,none⟩) n c) n (L.flatMap lnC)) (hk:kk<n) (x:Line):
  (((w.setCell ⟨g,kk*3,none⟩ x.f).setCell ⟨g,kk*3+1,none⟩ x.t).setCell ⟨g,kk*3+2,none⟩ (.bool x.hat)).ownsRow B 77 3 (.slice (some ⟨g,0,none⟩) n c) n ((L.set kk x).flatMap lnC):=by
 have hl:=ownsRow_size dE lnC_len ho;obtain⟨o,hoL⟩:∃o,L[kk]?=some o:=⟨L[kk],by simp⟩;have h1:=(ho.stored (kk*3+0) x.f).1;rw[flat_set lnC_len (y:=⟨x.f,o.t,o.hat⟩) hoL dE rfl]at h1;have h2:=(h1.stored (kk*3+1) x.t).1;rw[flat_set lnC_len (x:=⟨x.f,o.t,o.hat⟩) (y:=⟨x.f,x.t,o.hat⟩) (by simp[hl,hk]) dE rfl]at h2;have h3:=(h2.stored (kk*3+2) (.bool x.hat)).1;rw[flat_set lnC_len (x:=⟨x.f,x.t,o.hat⟩) (y:=x) (by simp[hl,hk]) dE rfl]at h3;simpa [List.set_set] using h3
theorem ownsRow_set3 {kk:Nat} {L:List Int} (ho:w.ownsRow B 3 1 (.slice (some ⟨g,0,none⟩) n c) n (L.flatMap inC)) (hk:kk<n) (x:Int):
  (w.setCell ⟨g,kk,none⟩ x).ownsRow B 3 1 (.slice (some ⟨g,0,none⟩) n c) n ((L.set kk x).flatMap inC):=by
 have hl:=ownsRow_size dE inC_len ho;obtain⟨o,hoL⟩:∃o,L[kk]?=some o:=⟨L[kk],by simp⟩;have h1:=(ho.stored (kk*1+0) x).1;rw[flat_set inC_len (y:=x) hoL dE rfl]at h1;simpa using h1
theorem list_set_take {L:List α} {j:Nat} {x:α} (hk:k<L.length) (hj:k<j):(L.set k x).take (k+1)=L.take k++[x]∧(L.set k x).drop j=L.drop j:=by
 constructor
 · rw[take_succ_at (x:=x) (by simp[hk])]
   congr 1
   rw[List.take_set_of_le (Nat.le_refl _)]
 exact List.drop_set_of_lt hj
theorem wpList_clear_many {ops:Array Oper} {rest:List Oper} {o:Oper} {a:Act} {Q:Exit→Act→World→Prop} (hgd:o.guard=none) (x:Operand) (t:TypeId)
  (hop:o.op= .call {callee:= .builtin .clear,args:=#[x],argTypes:=#[t]}) (e:TypeId) (z:Value) (k:Nat) (hz:∀w,(zeroValue e).run Tryz.prog w= .ok z w) (hzs:z.cells.size=k) (h1:∀u∈z.cells.toList,u.oneCell'=true) (ht:Tryz.prog.underlying t=some (.slice e))
  (g of c m:Nat) (hm:0<m) (cur:List Value) (hg:w.heap[g]?=some (.cells cur.toArray e (0,0))) (hx:a.eval x= .slice (some ⟨g,of,none⟩) m c) (hfit:of+m*k≤cur.length)
  (hK:∀w',Aside (∃zs:List Value,zs.length=m*k∧w'.heap[g]?=some (.cells (lay3 cur of zs).toArray e (0,0)))→Touch [g] w w'→wpList Tryz.prog ops Q rest (a.put o.dst (.tuple #[])) w'):wpList Tryz.prog ops Q (o::rest) a w:=by
 refine wpList_plain hgd fun K hK2=>?_
 have hlen:(Builtin.zeroCells z.cells m).toList.length=m*k:=by rw[Array.length_toList,size_zeroCells,hzs]
 have hone:∀u∈(Builtin.zeroCells z.cells m).toList,u.oneCell'=true:=by
  intro u hu;rw[Array.mem_toList_iff]at hu;simp only[Builtin.zeroCells,Array.mem_map,Array.mem_range]at hu;obtain⟨j,hj,rfl⟩:=hu
  apply h1
  have hpos:0<z.cells.size:=by
   rcases Nat.eq_zero_or_pos z.cells.size with h|h
   · rw[h]at hj;omega
   exact h
  have:=Nat.mod_lt j hpos;simp[this]
 have hst:=run_storeCells_at Tryz.prog g of e (Builtin.zeroCells z.cells m).toList 0 cur.toArray w hg (by rw[hlen];simpa using hfit) hone;have hm0:m≠0:=oM
 obtain⟨m',rfl⟩:∃m',m=m'+1:=⟨m-1,oM⟩
 have hrun:(Builtin.clear_ #[t] o.type #[.slice (some ⟨g,of,none⟩) (m'+1) c]).run Tryz.prog w= .ok (.tuple #[]) (w.setRow g (lay3 cur of (Builtin.zeroCells z.cells (m'+1)).toList).toArray):=by
  simp only[Nat.add_zero]at hst;simp[Builtin.clear_,run_underlying ht,hz,hst,lay3]
 unfold Oper.wp;simp[execOp,hop,resolve,invoke,builtin,hx,hrun,Result.andThen]
 exact hK2 _ _ (hK _ ⟨_,hlen,by simpa using setRow_heap w g cur.toArray _ e _ hg⟩ (touch_setRow w g _))
theorem cut_row (he:∀x,(enc x).length=k) (hk:0<k) {w2:World} {kk:Nat} {cur:List Value} {L:List α} (ho:w.ownsRow B e k (.slice (some ⟨g,0,none⟩) n c) n (L.flatMap enc)) (hg:w.heap[g]?=some (.cells cur.toArray e (0,0))) (hkk:kk≤n) (zs:List Value) (hz:zs.length=(n-kk)*k)
  (h2:w2.heap[g]?=some (.cells (lay3 cur (kk*k) zs).toArray e (0,0))):
  w2.ownsRow B e k (.slice (some ⟨g,0,none⟩) kk c) kk ((L.take kk).flatMap enc):=by
 have hxn:=ownsRow_size hk he ho
 rcases ho.2 with⟨hv,h0⟩|⟨g',cap,cur',hv,hbg,hg',hnc,hcm,hcs,htk⟩
 · cases hv
 cases hv
 rw[hg]at hg';cases hg'
 have hnk:n*k≤c*k:=Nat.mul_le_mul_right k hnc;have hdk:kk*k+(n-kk)*k=n*k:=by rw[←Nat.add_mul];congr 1;omega
 have hcs':cur.length=c*k:=hcs;have hfit:kk*k+zs.length≤cur.length:=by rw[hz,hdk,hcs'];exact hnk
 have hkc:kk*k≤cur.length:=oM
 refine⟨by rw[flat_len he,List.length_take,hxn,Nat.min_eq_left hkk], .inr ⟨g,c,_,rfl,hbg,h2,oM,hcm,?_,?_⟩⟩
 · rw[List.size_toArray,lay3_len hfit,hcs']
 have hti:cur.take (kk*k)=(L.take kk).flatMap enc:=by
  have h5:cur.take (kk*k)=(cur.take (n*k)).take (kk*k):=by rw[List.take_take,Nat.min_eq_left oM]
  rw[h5,show cur.take (n*k)=L.flatMap enc from htk];have hx2:L.flatMap enc=(L.take kk).flatMap enc++(L.drop kk).flatMap enc:=by rw[←List.flatMap_append,List.take_append_drop]
  have h6:((L.take kk).flatMap enc).length=kk*k:=by rw[flat_len he,List.length_take,hxn,Nat.min_eq_left hkk]
  rw[hx2,←h6];exact List.take_left
 show List.take (kk*k) (cur.take (kk*k)++zs++_)=_
 rw[List.append_assoc,List.take_append_of_le_length (by rw[List.length_take];omega),List.take_take,Nat.min_self,hti]
theorem ownsRow_cur {xs:List Value} (ho:w.ownsRow B e k (.slice (some ⟨g,0,none⟩) n c) n xs):∃cur:List Value,Aside (w.heap[g]?=some (.cells cur.toArray e (0,0)))∧cur.length=c*k∧n≤c∧c≤maxLen:=by
 rcases ho.2 with⟨hv,h0⟩|⟨g',cap,cur',hv,hbg,hg',hnc,hcm,hcs,htk⟩
 · cases hv
 cases hv
 exact⟨cur'.toList,by simpa [Aside] using hg',by simpa using hcs,hnc,hcm⟩
theorem xe8_0 {p:Prop} (h:p:=by
 refine⟨kk,jj+1,L,oM,oM,Nat.le_refl _,rfl,by go_num,hO2,?_,?_,hT2⟩
 · show _=_
   rw[take_succ_at hXx.out,List.filter_append,←hF.out];simp[HQ.out]
 show _=_
 have h9:=congrArg (List.drop 1) hD.out
 simpa using h9):p:=h
theorem delf208 (p:Line→Bool) (fg:Nat) (lb:Array Value) (eg:∀args w,(callFunc fg args).run Tryz.prog w= .ok (.enter fg args) w) (A:Option Addr) (n c B:Nat) (xs:List Line) (w:World) (ho:w.ownsRow B 77 3 (.slice A n c) n (xs.flatMap lnC)) (hp:PredS (ownB A) fg lb (fun x:Line=> .agg #[x.f,x.t, .bool x.hat]) p w) (hn:n≤100000):
  Calls Tryz.prog 208 #[.slice A n c, .func (.func fg) #[] lb] w fun e w'=>e= .returned (.slice A (xs.filter (fun x=>!p x)).length c)∧w'.ownsRow B 77 3 (.slice A (xs.filter (fun x=>!p x)).length c) (xs.filter (fun x=>!p x)).length ((xs.filter (fun x=>!p x)).flatMap lnC)∧Touch (ownB A) w w':=by
 have hxn:=ownsRow_size dE lnC_len ho;have hR:Rd 3 lnC w A n xs:=Rd.owned dE lnC_len ho;have HI:=idxf147 lnC Line.f Line.t Line.hat (fun _=>rfl) p fg lb eg A n c xs w hR (hp.predP xs)
 rcases idxP_cases p xs with⟨hi,hall⟩|⟨i,x0,hi,hx0,hpx,hfst⟩
 · rw[hi]at HI
   have HF:Aside (xs.filter (fun x=>!p x)=xs):=by
    show _=_
    rw[List.filter_eq_self];intro x hx;rw[hall x hx];rfl
   have HO:Aside (w.ownsRow B 77 3 (.slice A n c) n (xs.flatMap lnC)):=ho;have HN:Aside (xs.length=n):=hxn;clear ho hxn hR hall hp hi;go_enter Tryz.func208,Tryz.ntmps208
   go_wp2_with (go_at_call 147;(with_reducible refine HI.mono ?_);rintro e w1 ⟨rfl,hb⟩)
   go_ret
   rw[HF.out,HN.out];refine⟨rfl,?_,(Touch.of_below hb).mono sI⟩
   exact ownsRow_touch HO.out (Touch.of_below hb) sI
 rw[hi]at HI;have hin:i<n:=by have:=(List.getElem?_eq_some_iff.1 hx0).1;omega
 obtain⟨g,hA,_,_,_,_⟩:=ownsRow_shape ho oM;subst hA;have hiz:((i:Int)==-1)=false:=by first|(simp;done)|(simp;omega)
 have HF0:Aside (xs.take i=(xs.take (i+1)).filter (fun y=>!p y)):=filter_first hx0 hpx hfst;have HP:Aside (PredS (ownB (some ⟨g,0,none⟩)) fg lb (fun x:Line=> .agg #[x.f,x.t, .bool x.hat]) p w):=hp;have HO:Aside (w.ownsRow B 77 3 (.slice (some ⟨g,0,none⟩) n c) n (xs.flatMap lnC)):=ho;have HN:Aside (xs.length=n):=hxn;have HX0:Aside (xs[i]?=some x0∧p x0=true):=⟨hx0,hpx⟩;clear ho hxn hR hfst hp hi hx0 hpx;go_enter Tryz.func208,Tryz.ntmps208
 go_wp2_with (go_at_call 147;(with_reducible refine HI.mono ?_);rintro e w1 ⟨rfl,hb⟩;have hT1:Touch (ownB (some ⟨g,0,none⟩)) w w1:=(Touch.of_below hb).mono sI;have hO1:Aside (w1.ownsRow B 77 3 (.slice (some ⟨g,0,none⟩) n c) n (xs.flatMap lnC)):=ownsRow_touch HO.out (Touch.of_below hb) sI)
 go_loopg [5,6] n (fun gg s5 s6 wr=>∃(kk jj:Nat) (L:List Line),kk<jj∧jj≤n∧n-jj≤gg∧s5=kk∧s6=jj∧Aside (wr.ownsRow B 77 3 (.slice (some ⟨g,0,none⟩) n c) n (L.flatMap lnC))∧Aside (L.take kk=(xs.take jj).filter (fun y=>!p y))∧Aside (L.drop jj=xs.drop jj)∧Touch (ownB (some ⟨g,0,none⟩)) w wr)
 case atStart=>exact⟨i,i+1,xs,oM,oM,oM,rfl,by go_num,hO1,HF0,rfl,hT1⟩
 obtain⟨kk,jj,L,hkj,hjn,hg,rfl,rfl,hO,hF,hD,hT⟩:=hrel;have hLn:=ownsRow_size dE lnC_len hO.out
 by_cases hlt:jj<n
 · have hltz:(jj:Int)<(n:Int):=oM
   have hkn:kk<n:=oM
   have hknz:(kk:Int)<(n:Int):=oM
   obtain⟨x,hx⟩:=get_of (l:=L) (n:=jj) oM;have hcx0:wr.cell? ⟨g,jj*3,none⟩=some (.int .i64 x.f):=ownsRow_at lnC_len hO.out hx (j:=0) rfl;have hcx1:wr.cell? ⟨g,jj*3+1,none⟩=some (.int .i64 x.t):=ownsRow_at lnC_len hO.out hx (j:=1) rfl;have hcx2:wr.cell? ⟨g,jj*3+2,none⟩=some (.bool x.hat):=ownsRow_at lnC_len hO.out hx (j:=2) rfl;have hfz:∀o,wr.frozen? ⟨g,o,none⟩=false:=fun o=>hO.out.frozenAt o
   have hXx:Aside (xs[jj]?=some x):=by
    show _=_
    have h1:(L.drop jj)[0]?=some x:=by simpa using hx
    rw[hD.out]at h1;simpa using h1
   have hcall:=HP.out x (wr.alloc (.cells #[x.f,x.t, .bool x.hat] 77)) (hT.alloc _);have hOA:Aside ((wr.alloc (.cells #[x.f,x.t, .bool x.hat] 77)).ownsRow B 77 3 (.slice (some ⟨g,0,none⟩) n c) n (L.flatMap lnC)):=ownsRow_touch hO.out ((Touch.refl [] _).alloc _) sI;have hTA:Touch (ownB (some ⟨g,0,none⟩)) w (wr.alloc (.cells #[x.f,x.t, .bool x.hat] 77)):=hT.alloc _;have hBx:=Blk.new wr #[x.f,x.t, .bool x.hat] 77;have HXL:Aside (L[jj]?=some x):=hx;clear hx
   cases hq:p x with
   | true=>
    rw[hq]at hcall;have HQ:Aside (p x=true):=hq;clear hq
    go_wp2_with (go_at_fn fg;refine hcall.mono ?_;rintro e w2 ⟨rfl,hb2⟩;have hO2:Aside (w2.ownsRow B 77 3 (.slice (some ⟨g,0,none⟩) n c) n (L.flatMap lnC)):=ownsRow_touch hOA.out (Touch.of_below hb2) sI;have hT2:=hTA.then_below hb2;clear hOA hTA hcall)
    go_roundg (n-(jj+1))
    case measure=>omega
    exact xe8_0
   | false=>
    rw[hq]at hcall;have HQ:Aside (p x=false):=hq;clear hq
    go_wp2_with (go_at_fn fg;refine hcall.mono ?_;rintro e w2 ⟨rfl,hb2⟩;have hO2:Aside (w2.ownsRow B 77 3 (.slice (some ⟨g,0,none⟩) n c) n (L.flatMap lnC)):=ownsRow_touch hOA.out (Touch.of_below hb2) sI;have hT2:=hTA.then_below hb2;clear hOA hTA hcall;obtain⟨y,hy⟩:=get_of (l:=L) (n:=kk) oM;have hk0:w2.cell? ⟨g,kk*3,none⟩=some (.int .i64 y.f):=ownsRow_at lnC_len hO2.out hy (j:=0) rfl;have hk1:w2.cell? ⟨g,kk*3+1,none⟩=some (.int .i64 y.t):=ownsRow_at lnC_len hO2.out hy (j:=1) rfl;have hk2:w2.cell? ⟨g,kk*3+2,none⟩=some (.bool y.hat):=ownsRow_at lnC_len hO2.out hy (j:=2) rfl;clear hy;have hf2:∀o,w2.frozen? ⟨g,o,none⟩=false:=fun o=>hO2.out.frozenAt o;have hBx2:=hBx.below hb2;obtain⟨x0,x1,x2⟩:=(show _∧_∧_ from⟨hBx2.cell 0 _ rfl,hBx2.cell 1 _ rfl,hBx2.cell 2 _ rfl⟩))
    go_roundg (n-(jj+1))
    case measure=>omega
    have hset:=list_set_take (L:=L) (x:=x) (k:=kk) (j:=jj+1) oM oM;refine⟨kk+1,jj+1,L.set kk x,oM,oM,Nat.le_refl _,by go_num,by go_num,ownsRow_set77 hO2.out hkn x,?_,?_,?_⟩
    · show _=_
      rw[take_succ_at hXx.out,List.filter_append,←hF.out,hset.1];simp[HQ.out]
    · show _=_
      rw[hset.2];have h9:=congrArg (List.drop 1) hD.out;simpa using h9
    exact((hT2.setCell _ (.inl (by simp[ownB])) _).setCell _ (.inl (by simp[ownB])) _).setCell _ (.inl (by simp[ownB])) _
 have hltz:¬(jj:Int)<(n:Int):=oM
 have hjj:jj=n:=oM
 subst hjj;have hall:xs.take jj=xs:=List.take_of_length_le (by rw[HN.out];exact Nat.le_refl _);rw[hall]at hF;obtain⟨cur,hcur,hcl,hnc,hcm⟩:=ownsRow_cur hO.out;unfold maxLen at hcm
 have hm0:Aside (kk=(xs.filter (fun x=>!p x)).length):=by
  show _=_
  rw[←hF.out,List.length_take,hLn,Nat.min_eq_left oM]
 have hkc:kk≤c:=oM
 have hkz:(kk:Int)≤(jj:Int):=oM
 have hkz2:(kk:Int)≤(c:Int):=oM
 have hne:¬c=kk:=oM
 have hCut:=fun(w2:World) zs hz h2=>cut_row (w2:=w2) (kk:=kk) lnC_len dE hO.out hcur.out oM zs hz h2;have HCut:Aside (∀(w2:World) (zs:List Value),zs.length=(jj-kk)*3→w2.heap[g]?=some (.cells (lay3 cur (kk*3) zs).toArray 77 (0,0))→w2.ownsRow B 77 3 (.slice (some ⟨g,0,none⟩) kk c) kk ((L.take kk).flatMap lnC)):=hCut;clear hCut hall
 go_wp2_with (((with_reducible refine wpList_clear_many rfl _ 23 rfl 77 _ 3 zero77 rfl dE Tryz.underlying23 g _ _ _ oM _ hcur.out rfl (by rw[hcl];omega) ?_);intro w2 hg2 hT2))
 go_ret
 obtain⟨zs,hzl,hh⟩:=hg2;rw[←hm0.out];refine⟨rfl,?_,hT.trans hT2 (fun x hx=> .inl hx)⟩
 have:=HCut.out w2 zs hzl (by simpa using hh);rw[hF.out]at this;exact this
theorem delf213 (p:Int→Bool) (fg:Nat) (lb:Array Value) (eg:∀args w,(callFunc fg args).run Tryz.prog w= .ok (.enter fg args) w) (A:Option Addr) (n c B:Nat) (xs:List Int) (w:World) (ho:w.ownsRow B 3 1 (.slice A n c) n (xs.flatMap inC)) (hp:PredS (ownB A) fg lb (fun x:Int=> .int .i64 x) p w) (hn:n≤100000):
  Calls Tryz.prog 213 #[.slice A n c, .func (.func fg) #[] lb] w fun e w'=>e= .returned (.slice A (xs.filter (fun x=>!p x)).length c)∧w'.ownsRow B 3 1 (.slice A (xs.filter (fun x=>!p x)).length c) (xs.filter (fun x=>!p x)).length ((xs.filter (fun x=>!p x)).flatMap inC)∧Touch (ownB A) w w':=by
 have hxn:=ownsRow_size dE inC_len ho;have hR:Rd 1 inC w A n xs:=Rd.owned dE inC_len ho;have HI:=idxf148 inC id (fun _=>rfl) p fg lb eg A n c xs w hR (hp.predP xs)
 rcases idxP_cases p xs with⟨hi,hall⟩|⟨i,x0,hi,hx0,hpx,hfst⟩
 · rw[hi]at HI
   have HF:Aside (xs.filter (fun x=>!p x)=xs):=by
    show _=_
    rw[List.filter_eq_self];intro x hx;rw[hall x hx];rfl
   have HO:Aside (w.ownsRow B 3 1 (.slice A n c) n (xs.flatMap inC)):=ho;have HN:Aside (xs.length=n):=hxn;clear ho hxn hR hall hp hi;go_enter Tryz.func213,Tryz.ntmps213
   go_wp2_with (go_at_call 148;(with_reducible refine HI.mono ?_);rintro e w1 ⟨rfl,hb⟩)
   go_ret
   rw[HF.out,HN.out];refine⟨rfl,?_,(Touch.of_below hb).mono sI⟩
   exact ownsRow_touch HO.out (Touch.of_below hb) sI
 rw[hi]at HI;have hin:i<n:=by have:=(List.getElem?_eq_some_iff.1 hx0).1;omega
 obtain⟨g,hA,_,_,_,_⟩:=ownsRow_shape ho oM;subst hA;have hiz:((i:Int)==-1)=false:=by first|(simp;done)|(simp;omega)
 have HF0:Aside (xs.take i=(xs.take (i+1)).filter (fun y=>!p y)):=filter_first hx0 hpx hfst;have HP:Aside (PredS (ownB (some ⟨g,0,none⟩)) fg lb (fun x:Int=> .int .i64 x) p w):=hp;have HO:Aside (w.ownsRow B 3 1 (.slice (some ⟨g,0,none⟩) n c) n (xs.flatMap inC)):=ho;have HN:Aside (xs.length=n):=hxn;have HX0:Aside (xs[i]?=some x0∧p x0=true):=⟨hx0,hpx⟩;clear ho hxn hR hfst hp hi hx0 hpx;go_enter Tryz.func213,Tryz.ntmps213
 go_wp2_with (go_at_call 148;(with_reducible refine HI.mono ?_);rintro e w1 ⟨rfl,hb⟩;have hT1:Touch (ownB (some ⟨g,0,none⟩)) w w1:=(Touch.of_below hb).mono sI;have hO1:Aside (w1.ownsRow B 3 1 (.slice (some ⟨g,0,none⟩) n c) n (xs.flatMap inC)):=ownsRow_touch HO.out (Touch.of_below hb) sI)
 go_loopg [5,6] n (fun gg s5 s6 wr=>∃(kk jj:Nat) (L:List Int),kk<jj∧jj≤n∧n-jj≤gg∧s5=kk∧s6=jj∧Aside (wr.ownsRow B 3 1 (.slice (some ⟨g,0,none⟩) n c) n (L.flatMap inC))∧Aside (L.take kk=(xs.take jj).filter (fun y=>!p y))∧Aside (L.drop jj=xs.drop jj)∧Touch (ownB (some ⟨g,0,none⟩)) w wr)
 case atStart=>exact⟨i,i+1,xs,oM,oM,oM,rfl,by go_num,hO1,HF0,rfl,hT1⟩
 obtain⟨kk,jj,L,hkj,hjn,hg,rfl,rfl,hO,hF,hD,hT⟩:=hrel;have hLn:=ownsRow_size dE inC_len hO.out
 by_cases hlt:jj<n
 · have hltz:(jj:Int)<(n:Int):=oM
   have hkn:kk<n:=oM
   have hknz:(kk:Int)<(n:Int):=oM
   obtain⟨x,hx⟩:=get_of (l:=L) (n:=jj) oM;have hcx0:wr.cell? ⟨g,jj,none⟩=some (.int .i64 x):=by simpa using ownsRow_at inC_len hO.out hx (j:=0) rfl
   have hfz:∀o,wr.frozen? ⟨g,o,none⟩=false:=fun o=>hO.out.frozenAt o
   have hXx:Aside (xs[jj]?=some x):=by
    show _=_
    have h1:(L.drop jj)[0]?=some x:=by simpa using hx
    rw[hD.out]at h1;simpa using h1
   have hcall:=HP.out x (wr) (hT);have hOA:Aside ((wr).ownsRow B 3 1 (.slice (some ⟨g,0,none⟩) n c) n (L.flatMap inC)):=hO;have hTA:Touch (ownB (some ⟨g,0,none⟩)) w (wr):=hT;have HXL:Aside (L[jj]?=some x):=hx;clear hx
   cases hq:p x with
   | true=>
    rw[hq]at hcall;have HQ:Aside (p x=true):=hq;clear hq
    go_wp2_with (go_at_fn fg;refine hcall.mono ?_;rintro e w2 ⟨rfl,hb2⟩;have hO2:Aside (w2.ownsRow B 3 1 (.slice (some ⟨g,0,none⟩) n c) n (L.flatMap inC)):=ownsRow_touch hOA.out (Touch.of_below hb2) sI;have hT2:=hTA.then_below hb2;clear hOA hTA hcall)
    go_roundg (n-(jj+1))
    case measure=>omega
    exact xe8_0
   | false=>
    rw[hq]at hcall;have HQ:Aside (p x=false):=hq;clear hq
    go_wp2_with (go_at_fn fg;refine hcall.mono ?_;rintro e w2 ⟨rfl,hb2⟩;have hO2:Aside (w2.ownsRow B 3 1 (.slice (some ⟨g,0,none⟩) n c) n (L.flatMap inC)):=ownsRow_touch hOA.out (Touch.of_below hb2) sI;have hT2:=hTA.then_below hb2;clear hOA hTA hcall;obtain⟨y,hy⟩:=get_of (l:=L) (n:=kk) oM;have hk0:w2.cell? ⟨g,kk,none⟩=some (.int .i64 y):=(by simpa using ownsRow_at inC_len hO2.out hy (j:=0) rfl);clear hy;have hf2:∀o,w2.frozen? ⟨g,o,none⟩=false:=fun o=>hO2.out.frozenAt o;skip)
    go_roundg (n-(jj+1))
    case measure=>omega
    have hset:=list_set_take (L:=L) (x:=x) (k:=kk) (j:=jj+1) oM oM;refine⟨kk+1,jj+1,L.set kk x,oM,oM,Nat.le_refl _,by go_num,by go_num,ownsRow_set3 hO2.out hkn x,?_,?_,?_⟩
    · show _=_
      rw[take_succ_at hXx.out,List.filter_append,←hF.out,hset.1];simp[HQ.out]
    · show _=_
      rw[hset.2];have h9:=congrArg (List.drop 1) hD.out;simpa using h9
    exact hT2.setCell _ (.inl (by simp[ownB])) _
 have hltz:¬(jj:Int)<(n:Int):=oM
 have hjj:jj=n:=oM
 subst hjj;have hall:xs.take jj=xs:=List.take_of_length_le (by rw[HN.out];exact Nat.le_refl _);rw[hall]at hF;obtain⟨cur,hcur,hcl,hnc,hcm⟩:=ownsRow_cur hO.out;unfold maxLen at hcm
 have hm0:Aside (kk=(xs.filter (fun x=>!p x)).length):=by
  show _=_
  rw[←hF.out,List.length_take,hLn,Nat.min_eq_left oM]
 have hkc:kk≤c:=oM
 have hkz:(kk:Int)≤(jj:Int):=oM
 have hkz2:(kk:Int)≤(c:Int):=oM
 have hne:¬c=kk:=oM
 have hCut:=fun(w2:World) zs hz h2=>cut_row (w2:=w2) (kk:=kk) inC_len dE hO.out hcur.out oM zs hz h2;have HCut:Aside (∀(w2:World) (zs:List Value),zs.length=(jj-kk)*1→w2.heap[g]?=some (.cells (lay3 cur (kk*1) zs).toArray 3 (0,0))→w2.ownsRow B 3 1 (.slice (some ⟨g,0,none⟩) kk c) kk ((L.take kk).flatMap inC)):=hCut;clear hCut hall
 go_wp2_with (((with_reducible refine wpList_clear_many rfl _ 24 rfl 3 _ 1 zero3 rfl dE Tryz.underlying24 g _ _ _ oM _ hcur.out rfl (by rw[hcl];omega) ?_);intro w2 hg2 hT2))
 go_ret
 obtain⟨zs,hzl,hh⟩:=hg2;rw[←hm0.out];refine⟨rfl,?_,hT.trans hT2 (fun x hx=> .inl hx)⟩
 have:=HCut.out w2 zs hzl (by simpa using hh);rw[hF.out]at this;exact this
end
section
open Go.RowKit Go.Shelf
variable {t:TypeId} {tl:List Value} {B:Nat} {p:Nat} {w:World} {v:DV} {d:Diag}
theorem join205 (h:WK t tl B w p v d) (l:Line) (q c:Nat) (hq:Aprt q p v w) (hx:Blk w q (lnC l) 77) (hn:v.n2≤100000) (hlt:l.f<l.t):
  Calls Tryz.prog 205 #[pt p 0, .slice (some ⟨q,0,none⟩) 1 c] w fun e w'=>(∃z,e= .returned z)∧∃v',WK t tl B w' p v' {d with ln:=d.ln++[l]}∧Upd p v w v' w':=by
 obtain⟨lf,lt,lh⟩:=l;dsimp only at hlt;have hnlt:(if lt<lf then lt else lf)=lf:=if_neg oM;have x0:=hx.cell 0 _ rfl;have x1:=hx.cell 1 _ rfl;have x2:=hx.cell 2 _ rfl;obtain⟨W,hW⟩:∃W,W=w.alloc (.cells #[lf,lt, .bool lh] 77):=⟨_,rfl⟩;have hBX:Blk W w.heap.size [lf,lt, .bool lh] 77:=by rw[hW];exact Blk.new _ _ _
 have hK:WK t tl B W p v d:=by rw[hW];exact h.alloc _
 have hU:Upd p v w v W:=by rw[hW];exact(Upd.refl _ _ _).alloc _
 have hK0:=hK;have hBW:B≤W.heap.size:=by have:=hK.lt;have:=hK.hp;omega
 have HW:Aside (W.heap.size=w.heap.size+1):=by rw[hW];simp[Aside]
 have HO:Aside (∀wx,Below W.heap.size W wx→wx.ownsRow B 77 3 (.slice v.A2 v.n2 v.c2) v.n2 (d.ln.flatMap lnC)):=fun wx hb=>(hK.below hb).own.ln
 have HS:Aside (∀wx,Below W.heap.size W wx→wx.cell? ⟨p,1,none⟩=some (.slice v.A2 v.n2 v.c2)∧wx.frozen? ⟨p,1,none⟩=false∧wx.cell? ⟨w.heap.size,0,none⟩=some (.int .i64 lf)∧wx.cell? ⟨w.heap.size,1,none⟩=some (.int .i64 lt)∧wx.cell? ⟨w.heap.size,2,none⟩=some (.bool lh)):=by
  intro wx hb;obtain⟨_,m1,_,_,_,_,_,_,_,mf⟩:=(hK.below hb).nine;exact⟨m1,mf _,(hBX.below hb).cell 0 _ rfl,(hBX.below hb).cell 1 _ rfl,(hBX.below hb).cell 2 _ rfl⟩
 have HS2:Aside (∀w3,Touch (ownB v.A2) W w3→w3.cell? ⟨p,1,none⟩=some (.slice v.A2 v.n2 v.c2)∧w3.frozen? ⟨p,1,none⟩=false∧w3.cell? ⟨w.heap.size,0,none⟩=some (.int .i64 lf)∧w3.cell? ⟨w.heap.size,1,none⟩=some (.int .i64 lt)∧w3.cell? ⟨w.heap.size,2,none⟩=some (.bool lh)):=by
  intro wx hb;have h1:=hK.blk.touch hb (fun hm=>hK.np (by simp[blks,hm]));have h2:=hBX.touch hb (fun hm=>by have:=(h.own.lt _ (show w.heap.size∈blks v by simp[blks,hm])).2;omega);exact⟨h1.cell 1 _ rfl,h1.free _,h2.cell 0 _ rfl,h2.cell 1 _ rfl,h2.cell 2 _ rfl⟩
 clear hx hq;go_enter Tryz.func205,Tryz.ntmps205
 go_wp2_with fail
 refine wp_loop_rounds 3 ?_
 rw[rounds_succ]
 go_upto_region 3 with fail
 rw[←hW];clear hW
 refine wp_region_F [(12,24)] (fun l u=>(l 20=false→Below W.heap.size W u)∧(l 24=false→Touch (ownB v.A2) W u)) (fun i u u'=>match i with|20=>Touch (ownB v.A2) u u'|24=>∃x9,u'=u.setCell ⟨p,1,none⟩ x9|_=>Below u.heap.size u u') (fun j x u=>match j with|0=>x 12=pt p 0|1=>x 13=pt p 0|2=>x 14=pt p 0|3=>x 15=pt p 0|4=>x 16=pt p 1|5=>x 17= .slice v.A2 v.n2 v.c2|6=>x 18=pt w.heap.size 0|7=>x 19=lf|8=>x 20=pt w.heap.size 1|9=>x 21=lt|10=>x 22=lf|11=>x 23=pt w.heap.size 0|12=>x 24=lf|13=>x 25=pt w.heap.size 1|14=>x 26=lt|15=>x 27=lt|16=>x 28=pt w.heap.size 2|17=>x 29= .bool lh|18=>x 30= .agg #[lf,lt, .bool lh]|19=>∃q,x 31= .slice (some ⟨q,0,none⟩) 1 1∧W.heap.size≤q∧Rd 3 lnC u (some ⟨q,0,none⟩) 1 [(⟨lf,lt,lh⟩:Line)]|20=>∃A' c',x 32= .slice A' (v.n2+1) c'∧u.ownsRow B 77 3 (.slice A' (v.n2+1) c') (v.n2+1) ((d.ln++[(⟨lf,lt,lh⟩:Line)]).flatMap lnC)∧∀b∈ownB A',b∈ownB v.A2∨W.heap.size≤b|21=>x 33=pt p 0|22=>x 34=pt p 0|23=>x 35=pt p 1|24=>∃A' c',WK t tl B u p {v with A2:=A',n2:=v.n2+1,c2:=c'} {d with ln:=d.ln++[(⟨lf,lt,lh⟩:Line)]}∧Upd p v W {v with A2:=A',n2:=v.n2+1,c2:=c'} u|_=>True) ?h0 ?hkeep ?hstep ?d0
 case h0=>exact⟨fun _=>bR.drew,fun _=>(Touch.refl _ _).drew⟩
 case hkeep=>
  intro j i x l u u' hj hi hpre ht hG hR
  by_cases hjb:j=19
  · subst hjb;obtain⟨q,h1,h2,h3⟩:=ht;refine⟨q,h1,h2,?_⟩
    by_cases hia:i=20
    · subst hia;exact h3.touch hR (fun b hb y hy hyb=>by cases hy;have h8:=(hK0.own.lt b (by simp[blks,hb])).2;have h9:q=b:=hyb;omega)
    by_cases his:i=24
    · subst his;obtain⟨x9,rfl⟩:=hR;exact h3.touch (Touch.set1 _ _ _ _) (fun b hb y hy hyb=>by cases hy;have h8:=hK0.lt;simp at hb;have h9:q=b:=hyb;omega)
    exact h3.below (by have h9:=hR;split at h9<;>first|exact(hia rfl).elim|exact(his rfl).elim|exact h9)
  by_cases hja:j=20
  · subst hja;obtain⟨A',c',h1,h2,h3⟩:=ht;refine⟨A',c',h1,?_,h3⟩
    by_cases hia:i=20
    · subst hia;rw[hj]at hi;cases hi
    by_cases his:i=24
    · subst his;obtain⟨x9,rfl⟩:=hR;refine ownsRow_touch h2 (Touch.set1 _ _ _ _) (fun b hb hm=>?_)
      simp at hm
      subst hm
      rcases h3 _ (ownBlock_ownB hb) with h4|h4
      · exact hK0.np (by simp[blks,h4])
      have:=hK0.lt;omega
    exact ownsRow_touch h2 (Touch.of_below (by have h9:=hR;split at h9<;>first|exact(hia rfl).elim|exact(his rfl).elim|exact h9)) sI
  by_cases hjs:j=24
  · subst hjs;obtain⟨A',c',h1,h2⟩:=ht
    by_cases hia:i=20
    · subst hia;rw[hpre 20 kR]at hi;cases hi
    by_cases his:i=24
    · subst his;rw[hj]at hi;cases hi
    exact⟨A',c',h1.below (by have h9:=hR;split at h9<;>first|exact(hia rfl).elim|exact(his rfl).elim|exact h9),h2.then_below (by have h9:=hR;split at h9<;>first|exact(hia rfl).elim|exact(his rfl).elim|exact h9)⟩
  exact(by have h9:=ht;clear ht;split at h9<;>first|exact h9|exact(hjb rfl).elim|exact(hja rfl).elim|exact(hjs rfl).elim)
 case hstep=>
  dsimp only[fil,fls,fl,List.toList_toArray,Nat.reduceAdd];refine⟨?_,?_,?_,?_,?_,?_,?_,?_,?_,?_,?_,?_,?_,?_,?_,?_,?_,?_,?_,?c19,?c20,?_,?_,?_,?c24,trivial⟩
  all_goals intro l x u hG hno hli hpre hd K hK
  case c19=>
   have e18:x 30= .agg #[lf,lt, .bool lh]:=hd ⟨18, .data⟩ sI rfl;clear hd;simp only[e18]at hK ⊢;have hBl:=hG.1 (hno 20 kR);go_simp
   exact hK _ _ ⟨_,rfl,hBl.size,Rd.one (Blk.new _ _ _)⟩ (bR.alloc (Nat.le_refl _) _) ⟨fun _=>hBl.alloc hBl.size _,fun h=>(hG.2 (hno 24 kR)).alloc _⟩
  case c20=>
   have e5:x 17= .slice v.A2 v.n2 v.c2:=hd ⟨5, .data⟩ sI rfl;have e19:∃q,x 31= .slice (some ⟨q,0,none⟩) 1 1∧W.heap.size≤q∧Rd 3 lnC u (some ⟨q,0,none⟩) 1 [(⟨lf,lt,lh⟩:Line)]:=hd ⟨19, .data⟩ sI rfl;clear hd;simp only[e5]at hK ⊢;have hBl:=hG.1 hli;have hTc:=hG.2 (hno 24 kR);obtain⟨q,h31,hq,hR⟩:=e19;generalize k31:x 31=z31 at h31 hK ⊢;subst h31;refine wp_append_rows (.tmp 17) (.tmp 31) 23 rfl 77 3 _ 24 inf77 Tryz.underlying23 rfl dE lnC_len lnC_one dE B _ _ _ rfl _ (hK0.below hBl).own.ln _ _ _ rfl (fun h=>nomatch h) [(⟨lf,lt,lh⟩:Line)] hR oM dE (Nat.le_trans hBW hBl.size) ?_
   intro v9 w9 hAp;obtain⟨A',c',rfl,hown,htch,hnb⟩:=hAp;exact hK _ _ ⟨A',c',rfl,hown,fun b hb=>(hnb b hb).imp id (Nat.le_trans hBl.size)⟩ htch ⟨fun h=>by simp at h,fun _=>hTc.trans htch (fun x hx=> .inl hx)⟩
  case c24=>
   have e23:x 35=pt p 1:=hd ⟨23, .data⟩ sI rfl;have e20:∃A' c',x 32= .slice A' (v.n2+1) c'∧u.ownsRow B 77 3 (.slice A' (v.n2+1) c') (v.n2+1) ((d.ln++[(⟨lf,lt,lh⟩:Line)]).flatMap lnC)∧∀b∈ownB A',b∈ownB v.A2∨W.heap.size≤b:=hd ⟨20, .data⟩ sI rfl;clear hd;simp only[e23]at hK ⊢;have hTc:=hG.2 hli;obtain⟨A',c',h32,hown,hnb⟩:=e20;generalize k32:x 32=z32 at h32 hK ⊢;subst h32;have hbk:=hK0.blk.touch hTc (fun hm=>hK0.np (by simp[blks,hm]));have hcl:=hbk.cell 1 _ rfl;have hfr:=hbk.free 1;have hput:=hK0.putLn hTc (fun b hb=> .inl hb) hown hnb;clear hbk;go_simp
   exact hK undef _ ⟨A',c',hput⟩ ⟨_,rfl⟩ ⟨fun h=>by simp[hpre 20 kR]at h,fun h=>by simp at h⟩
  all_goals
   dsimp only at hd;simp only[eB]at hd
   try simp only[hd]at hK ⊢
   first|(go_simp;exact hK _ _ rfl bR sG)|(obtain⟨m1,mf1,b0,b1,b2⟩:=HS.out _ (hG.1 (hno 20 kR));go_simp;exact hK _ _ rfl bR sG)
 dsimp only[fil,fls,fl,List.toList_toArray,Nat.reduceAdd];rintro l x u hall hG ⟨_,_,_,_,_,_,_,_,_,_,_,_,_,_,_,_,_,_,_,_,_,_,_,_,tS,_⟩;obtain⟨A',c',hK9,hU9⟩:=tS;go_wp2_with fail
 rw[rounds_succ]
 go_wp2
 go_end0
 exact⟨⟨_,rfl⟩,_,hK9,hU.trans hU9⟩
end
section
open Go.RowKit Go.Shelf
variable {α:Type} {t:TypeId} {tl:List Value} {B:Nat} {p:Nat} {w:World} {v:DV} {d:Diag}
theorem e197:∀args w,(callFunc 197 args).run Tryz.prog w= .ok (.enter 197 args) w:=enters_of Tryz.func197 kR rfl
theorem at197 (f t n:Int) (h:Bool) (b:Nat) (w:World) (hb:w.cell? ⟨b,0,none⟩=some (.int .i64 n)):
  Calls Tryz.prog 197 #[.agg #[f,t, .bool h],pt b 0] w fun e w'=>e= .returned (.bool (Line.at ⟨f,t,h⟩ n))∧Below w.heap.size w w':=by
 have hbA:Below w.heap.size w (w.alloc (.cells #[f,t, .bool h] 77)):=bR.alloc (Nat.le_refl _) _;have hb1:=cell_keeps hbA hb;clear hb;unfold Line.at
 by_cases h1:f=n
 · subst h1;go_enter Tryz.func197,Tryz.ntmps197
   go_wp2
   go_ret
   exact⟨by simp,hbA⟩
 have h2:(f==n)=false:=by simpa using h1
 by_cases h3:t=n
 · subst h3;go_enter Tryz.func197,Tryz.ntmps197
   go_wp2
   go_ret
   exact⟨by simp,hbA⟩
 have h4:(t==n)=false:=by simpa using h3
 go_enter Tryz.func197,Tryz.ntmps197
 go_wp2
 go_ret
 exact⟨by simp[h1,h3],hbA⟩
theorem predS197 (S:List Nat) (n:Int) (b:Nat) (w:World) (hb:w.cell? ⟨b,0,none⟩=some (.int .i64 n)) (hS:b∉S):PredS S 197 #[pt b 0] (fun x:Line=> .agg #[x.f,x.t, .bool x.hat]) (fun l=>l.at n) w:=by
 intro x W hW;have h1:W.cell? ⟨b,0,none⟩=some (.int .i64 n):=(World.cell?_of_block (w:=w) (hW.block b (World.block_lt_of_cell? w ⟨b,0,none⟩ hb) hS)).trans hb;exact at197 x.f x.t n x.hat b W h1
theorem cut196 (h:WK t tl B w p v d) (q:Line→Bool) (fg:Nat) (lb:Array Value) (eg:∀args w,(callFunc fg args).run Tryz.prog w= .ok (.enter fg args) w) (hp:PredS (ownB v.A2) fg lb (fun x:Line=> .agg #[x.f,x.t, .bool x.hat]) q w) (hn:v.n2≤100000):
  Calls Tryz.prog 196 #[pt p 0, .func (.func fg) #[] lb] w fun e w'=>(∃z,e= .returned z)∧∃v',WK t tl B w' p v' {d with ln:=d.ln.filter (fun x=>!q x)}∧Upd p v w v' w':=by
 have HD:=delf208 q fg lb eg v.A2 v.n2 v.c2 B d.ln w h.own.ln hp hn;obtain⟨_,c1,_,_,_,_,_,_,_,cf⟩:=h.nine;have HK:Aside (WK t tl B w p v d):=h;have HB:Aside (∀w2,Touch (ownB v.A2) w w2→Blk w2 p (dcs v d.sc++tl) t):=fun w2 hT=>h.blk.touch hT (fun hm=>h.np (by simp[blks,hm]));clear h hp;go_enter Tryz.func196,Tryz.ntmps196
 go_wp2_with (first|(go_at_call 208;(with_reducible refine HD.mono ?_);rintro e w2 ⟨rfl,ho,hT⟩;have hc:=(HB.out w2 hT).cell 1 _ rfl;have hf:=(HB.out w2 hT).free 1;have hput:=HK.out.putLn hT (fun b hb=> .inl hb) ho (fun b hb=> .inl hb);clear HD ho))
 go_end0
 exact⟨⟨_,rfl⟩,_,hput.1,hput.2⟩
theorem map_take_drop (f:α→α) {l:List α} {j:Nat} {x:α} (h:l[j]?=some x):((l.take j).map f++l.drop j).set j (f x)=(l.take (j+1)).map f++l.drop (j+1):=by
 have hj:=(List.getElem?_eq_some_iff.1 h).1;have e1:((l.take j).map f).length=j:=by simp;omega
 rw[List.set_append_right _ _ oM,e1,Nat.sub_self,take_succ_at h]
 have e2:l.drop j=x::l.drop (j+1):=by
  obtain⟨h1,h2⟩:=List.getElem?_eq_some_iff.1 h;rw[←h2];exact List.drop_eq_getElem_cons h1
 rw[e2];simp
theorem map_take_at (f:α→α) {l:List α} {j:Nat} {x:α} (h:l[j]?=some x):((l.take j).map f++l.drop j)[j]?=some x:=by
 have hj:=(List.getElem?_eq_some_iff.1 h).1;have e1:((l.take j).map f).length=j:=by simp;omega
 rw[List.getElem?_append_right oM,e1,Nat.sub_self,List.getElem?_drop,Nat.add_zero];exact h
theorem list_set_self {l:List α} {j:Nat} {x:α} (h:l[j]?=some x):l.set j x=l:=by
 apply List.ext_getElem?
 intro i;rw[List.getElem?_set]
 split
 · rename_i e;subst e
   obtain⟨hj,_⟩:=List.getElem?_eq_some_iff.1 h;rw[if_pos hj,h]
 rfl
theorem less199 (A:Option Addr) (n c B:Nat) (xs:List Int) (above:Int) (b:Nat) (w:World) (ho:w.ownsRow B 3 1 (.slice A n c) n (xs.flatMap inC)) (hb:w.cell? ⟨b,0,none⟩=some (.int .i64 above)) (hbn:b∉ownB A) (hx:∀x∈xs,-1000000≤x∧x≤1000000) (hn:n≤100000):
  Calls Tryz.prog 199 #[.slice A n c,pt b 0] w fun e w'=>(∃z,e= .returned z)∧w'.ownsRow B 3 1 (.slice A n c) n ((xs.map (downI · above)).flatMap inC)∧Touch (ownB A) w w':=by
 have hxn:=ownsRow_size dE inC_len ho;have HX:Aside (xs.length=n∧∀x∈xs,-1000000≤x∧x≤1000000):=⟨hxn,hx⟩;have HO:Aside (w.ownsRow B 3 1 (.slice A n c) n (xs.flatMap inC)):=ho;have HB:Aside (∀w2,Touch (ownB A) w w2→w2.cell? ⟨b,0,none⟩=some (.int .i64 above)):=fun w2 hT=>(World.cell?_of_block (w:=w) (hT.block b (World.block_lt_of_cell? w ⟨b,0,none⟩ hb) hbn)).trans hb
 have hne:∀g,A=some ⟨g,0,none⟩→g≠b:=by
  rintro g rfl rfl;exact hbn (by simp[ownB])
 clear ho hxn hx hb hbn;go_enter Tryz.func199,Tryz.ntmps199
 go_wp2_with fail
 go_loopg [6] n (fun gg s6 wr=>∃jj:Nat,jj≤n∧n-jj≤gg∧s6=jj∧Aside (wr.ownsRow B 3 1 (.slice A n c) n (((xs.take jj).map (downI · above)++xs.drop jj).flatMap inC))∧Touch (ownB A) w wr)
 case atStart=>exact⟨0,Nat.zero_le _,oM,rfl,HO,Touch.refl _ _⟩
 obtain⟨jj,hjn,hg,rfl,hO,hT⟩:=hrel
 by_cases hlt:jj<n
 · have hltz:(jj:Int)<(n:Int):=oM
   obtain⟨g,rfl,_,_,_,hfz⟩:=ownsRow_shape hO.out oM;have hgb:=hne g rfl;obtain⟨x,hx⟩:=get_of (l:=xs) (n:=jj) (by rw[HX.out.1];exact hlt);obtain⟨hx1,hx2⟩:=HX.out.2 x (List.mem_of_getElem? hx);have hcx:wr.cell? ⟨g,jj,none⟩=some (.int .i64 x):=by simpa using ownsRow_at inC_len hO.out (map_take_at (downI · above) hx) (j:=0) rfl
   have hcb:=HB.out wr hT;have hself:=map_take_at (downI · above) hx;have HN:Aside (((xs.take jj).map (downI · above)++xs.drop jj).set jj (downI x above)=(xs.take (jj+1)).map (downI · above)++xs.drop (jj+1)):=map_take_drop (downI · above) hx;clear hx
   by_cases hc:above<x
   · have HD:Aside (downI x above=x-1):=by show _=_;unfold downI;rw[if_pos hc]
     go_wp2_with fail
     go_quiet (fail)
     go_wp2_with fail
     go_roundg (n-(jj+1))
     case measure=>omega
     refine⟨jj+1,oM,Nat.le_refl _,by go_num,?_,?_⟩
     · show World.ownsRow _ _ _ _ _ _ _
       rw[←HN.out,HD.out];exact ownsRow_set3 (w:=wr.drewN _) hO.out hlt (x-1)
     refine Touch.setCell (hT.trans (S':=[]) ?_ sI) ⟨g,jj,none⟩ (.inl (by simp[ownB])) _
     exact⟨rfl,rfl,rfl,Nat.le_refl _,fun _ _ _=>rfl⟩
   have HD:Aside (downI x above=x):=by show _=_;unfold downI;rw[if_neg hc]
   go_wp2_with fail
   go_quiet (fail)
   go_wp2_with fail
   go_roundg (n-(jj+1))
   case measure=>omega
   refine⟨jj+1,oM,Nat.le_refl _,by go_num,?_,?_⟩
   · show World.ownsRow _ _ _ _ _ _ _
     rw[←HN.out,HD.out];have h9:=hO.out;rw[show ((xs.take jj).map (downI · above)++xs.drop jj).set jj x=((xs.take jj).map (downI · above)++xs.drop jj) from ?_]
     · exact h9
     exact list_set_self hself
   exact hT.trans (S':=[]) ⟨rfl,rfl,rfl,Nat.le_refl _,fun _ _ _=>rfl⟩ sI
 have hltz:¬(jj:Int)<(n:Int):=oM
 have hjj:jj=n:=oM
 subst hjj
 have hall:(xs.take jj).map (downI · above)++xs.drop jj=xs.map (downI · above):=by
  rw[List.take_of_length_le (by rw[HX.out.1];exact Nat.le_refl _),List.drop_eq_nil_of_le (by rw[HX.out.1];exact Nat.le_refl _),List.append_nil]
 rw[hall]at hO;clear hall
 go_wp2
 go_end0
 exact⟨⟨_,rfl⟩,hO.out,hT⟩
end
end Go.Proofs.YtcoackmdmohnhaaGreatDoor
