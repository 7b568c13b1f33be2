/- Contracts of functions, and plain lemmas; each theorem's conditions stand in its statement. -/
import Derived.Test.YtcoackmdmohnhaaGreatDoorV2
import Derived.Deep.RegionLaw
import Derived.StillTailTactics
import Derived.RangeFuncWrites
import Derived.RangeFuncNested
import Derived.RangeFuncBound
import Derived.RangeFuncCalls
import Derived.RangeFuncLeaves
set_option linter.unusedVariables false
set_option linter.unusedSimpArgs false
set_option maxRecDepth 100000
set_option maxHeartbeats 2000000
namespace Go.Proofs.YtcoackmdmohnhaaGreatDoor
section
open Go.RowKit
variable {α:Type} {enc:α→List Value} {t:TypeId} {B:Nat} {q:Nat} {k:Nat} {n:Nat} {c:Nat} {e:TypeId} {A:Option Addr} {w:World}
def Appd {α:Type} (B:Nat) (e:TypeId) (k:Nat) (enc:α→List Value) (A:Option Addr) (w:World) (n:Nat) (xs:List α) (v':Value) (w':World):Prop:=
 ∃A' c',v'= .slice A' n c'∧w'.ownsRow B e k (.slice A' n c') n (xs.flatMap enc)∧Touch (ownB A) w w'∧∀b∈ownB A',b∈ownB A∨w.heap.size≤b
theorem Rd.drew {xs:List α} (h:Rd k enc w A n xs):Rd k enc w.drew A n xs:=h
section
variable {α:Type} {enc:α→List Value} {k:Nat}
theorem appd_new {xs:List α} {C:Array Value} (he:∀x,(enc x).length=k) (hB:B≤w.heap.size) (hn:xs.length=n) (hc:n≤c) (hm:c≤maxLen) (hs:C.size=c*k) (ht:C.toList.take (n*k)=xs.flatMap enc):
  Appd B e k enc A w n xs (.slice (some ⟨w.heap.size,0,none⟩) n c) (w.drew.alloc (.cells C e)):=
 ⟨_,_,rfl,⟨by rw[flat_len he,hn], .inr ⟨w.heap.size,c,C,rfl,hB,heap_alloc_new w.drew _,hc,hm,hs,ht⟩⟩,(Touch.refl _ w).drew.alloc _,fun b hb=> .inr (by simp[ownB]at hb;omega)⟩
theorem run_append_rows (w:World) (t ty e:TypeId) (i:TypeInfo) (z:Value) (bytes:Nat) (ht:Tryz.prog.underlying t=some (.slice e)) (hi:Tryz.prog.info? e=some i) (hz:i.zero=some z) (hsize:i.size=k) (hby:i.bytes=bytes) (hzs:z.cells.size=k) (hk:0<k)
  (he:∀x,(enc x).length=k) (h1:∀xs:List α,∀u∈xs.flatMap enc,u.oneCell'=true)
  (B:Nat) (A:Option Addr) (n c:Nat) (xs:List α) (ho:w.ownsRow B e k (.slice A n c) n (xs.flatMap enc)) (A':Option Addr) (m c':Nat) (hc0:A'=none→c'=0) (ys:List α) (hR:Rd k enc w A' m ys)
  (hn:n≤1000000) (hm:m≤1000000) (hb:bytes≤1000) (hB:B≤w.heap.size):
  ∃v' w',(Builtin.append_ #[t,t] ty #[.slice A n c, .slice A' m c']).run Tryz.prog w= .ok v' w'∧Appd B e k enc A w (n+m) (xs++ys) v' w':=by
 have hl:(ys.flatMap enc).length=m*k:=by rw[flat_len he,hR.1]
 have hlx:(xs.flatMap enc).length=n*k:=ho.1;have hxn:xs.length=n:=ownsRow_size hk he ho;have hlen:(xs++ys).length=n+m:=by rw[List.length_append,hxn,hR.1]
 have hbytes:(n+m)*bytes≤140737488355328:=by
  have:(n+m)*bytes≤2000000*1000:=Nat.mul_le_mul oM hb;omega
 subst hsize
 subst hby
 cases A' with
 | none=>
  have:c'=0:=hc0 rfl;subst this
  have:m=0:=by
   rcases Nat.eq_zero_or_pos m with h|h
   · exact h
   obtain⟨b,o,e,_⟩:=hR.2.2 h;cases e
  subst this;have:ys=[]:=List.eq_nil_of_length_eq_zero hR.1;subst this;refine⟨_,_,run_append_owned_none (P:=Tryz.prog) w B t ty e i i.size ht hi _ n _ ho,A,c,rfl,by simpa using ho,Touch.refl _ _,fun b hb=> .inl hb⟩
 | some a=>
  have hnews:=Rd.flatA hk he hR
  by_cases hm0:m=0
  · subst hm0;have:ys=[]:=List.eq_nil_of_length_eq_zero hR.1;subst this;obtain⟨v',w',hr,h2,h3,h4⟩:=run_append_own (P:=Tryz.prog) w B t ty e i z i.size i.bytes ht hi hz rfl rfl hzs hk (.slice A n c) n _ ho a 0 c' [] sI sI sI (by unfold maxLen;omega) oM hB
    rcases ho.2 with⟨hv,h0⟩|⟨g,cap,cur,hv,hbg,hg,hnc,hcm,hcs,htake⟩
    · have h5:=h4.2 ⟨hv,rfl⟩;cases hv
      refine⟨v',w',hr,none,0,by rw[h5],?_,(Touch.refl _ w).grown h3 (by simp[Value.ownBlock]),fun b hb=>by simp[ownB]at hb⟩
      subst h5;rw[List.append_nil];rw[List.append_nil]at h2;exact h2
    cases hv
    have hroom:n+0≤c:=oM
    obtain⟨w2,hr2,h22,h23⟩:=run_append_fits (P:=Tryz.prog) w B t ty e i i.size ht hi rfl g n c _ ho a 0 c' [] sI sI sI hroom;refine⟨_,_,hr2,some ⟨g,0,none⟩,c,rfl,by simpa using h22,(Touch.refl _ w).grown h23 (fun q hq=> .inl (by cases hq;simp[ownB])),fun b hb=> .inl hb⟩
  rcases ho.2 with⟨hv,h0⟩|⟨g,cap,cur,hv,hbg,hg,hnc,hcm,hcs,htake⟩
  · cases hv
    have hx:xs=[]:=List.eq_nil_of_length_eq_zero hxn;subst hx;have hr:=run_append_nil (P:=Tryz.prog) w t ty e i z ht hi hz a m c' (ys.flatMap enc) hl hnews oM oM (by rw[Nat.zero_add]at hbytes;omega);have hge:=grownCap_ge w m 0 e;have hcm:=grownCap_le_maxLen w m 0 e (by unfold maxLen;omega);refine⟨_,_,hr,?_⟩
    rw[Nat.zero_add];generalize grownCap w m 0 e=G at hge hcm;refine appd_new he hB (by simpa using hR.1) hge hcm ?_ ?_
    · simp only[Array.size_append,List.size_toArray,size_zeroCells,hzs,hl,←Nat.add_mul];rw[show m+(G-m)=G by omega]
    simp only[Array.toList_append,List.nil_append];rw[←hl];exact List.take_left
  cases hv
  by_cases hroom:n+m≤c
  · obtain⟨w2,hr2,h22,h23⟩:=run_append_fits (P:=Tryz.prog) w B t ty e i i.size ht hi rfl g n c _ ho a m c' (ys.flatMap enc) hl hnews (h1 ys) hroom;refine⟨_,_,hr2,some ⟨g,0,none⟩,c,rfl,by simpa using h22,(Touch.refl _ w).grown h23 (fun q hq=> .inl (by cases hq;simp[ownB])),fun b hb=> .inl hb⟩
  have holds:∀j u,(xs.flatMap enc)[j]?=some u→w.cell? ((⟨g,0,none⟩:Addr).add j)=some u:=ho.cells (g:=g) rfl;have hr:=run_append_grow (P:=Tryz.prog) w t ty e i z ht hi hz ⟨g,0,none⟩ n c (xs.flatMap enc) hlx holds a m c' (ys.flatMap enc) hl hnews oM oM (growslice_fits oM hbytes);have hge:=grownCap_ge w (n+m) c e;have hcm2:=grownCap_le_maxLen w (n+m) c e (by unfold maxLen;omega);generalize grownCap w (n+m) c e=G at hge hcm2 hr;refine⟨_,_,hr,appd_new he hB hlen hge hcm2 ?_ ?_⟩
  · simp only[Array.size_append,List.size_toArray,size_zeroCells,hzs,hl,hlx,←Nat.add_mul];rw[show n+m+(G-(n+m))=G by omega]
  simp only[Array.toList_append,List.append_assoc];rw[List.flatMap_append,←List.append_assoc,show (n+m)*i.size=(xs.flatMap enc++ys.flatMap enc).length by rw[List.length_append,hlx,hl,Nat.add_mul]];exact List.take_left
end
theorem Rd.one {x:α} (h:Blk w q (enc x) t):Rd k enc w (some ⟨q,0,none⟩) 1 [x]:=by
 refine⟨rfl,oM,fun _=>⟨q,0,rfl,h.lt,?_⟩⟩
 intro i y hy j u hu
 cases i with
 |zero=>simp at hy;subst hy;simpa using h.cell j u hu
 |succ i=>simp at hy
theorem wp_append_rows {o:Oper} {a:Act} {K:Act→World→Prop} {Q:Exit→Act→World→Prop} (s x:Operand) (t:TypeId)
  (hop:o.op= .call {callee:= .builtin .append,args:=#[s,x],argTypes:=#[t,t]}) (e:TypeId) (k:Nat) (z:Value) (bytes:Nat) (hinf:(Tryz.prog.info? e).map (fun i=>(i.zero,i.size,i.bytes))=some (some z,k,bytes)) (ht:Tryz.prog.underlying t=some (.slice e)) (hzs:z.cells.size=k) (hk:0<k)
  (he:∀x,(enc x).length=k) (h1:∀xs:List α,∀u∈xs.flatMap enc,u.oneCell'=true) (hb:bytes≤1000)
  (B:Nat) (A:Option Addr) (n c:Nat) (hs:a.eval s= .slice A n c) (xs:List α) (ho:w.ownsRow B e k (.slice A n c) n (xs.flatMap enc)) (A':Option Addr) (m c':Nat) (hx:a.eval x= .slice A' m c') (hc0:A'=none→c'=0) (ys:List α) (hR:Rd k enc w A' m ys)
  (hn:n≤1000000) (hm:m≤1000000) (hB:B≤w.heap.size)
  (hK:∀v' w',Appd B e k enc A w (n+m) (xs++ys) v' w'→K (a.put o.dst v') w'):o.wp Tryz.prog a w K Q:=by
 obtain⟨i0,hi,hz0,hz1,hz2⟩:=info_parts hinf;obtain⟨v',w',hrun,h2⟩:=run_append_rows w t o.type e i0 z bytes ht hi hz0 hz1 hz2 hzs hk he h1 B A n c xs ho A' m c' hc0 ys hR hn hm hb hB;unfold Oper.wp;simp[execOp,hop,resolve,invoke,builtin,hs,hx,hrun,Result.andThen]
 exact hK _ _ h2
theorem wpList_append_rows {ops:Array Oper} {rest:List Oper} {o:Oper} {a:Act} {Q:Exit→Act→World→Prop} (hgd:o.guard=none) (s x:Operand) (t:TypeId)
  (hop:o.op= .call {callee:= .builtin .append,args:=#[s,x],argTypes:=#[t,t]}) (e:TypeId) (k:Nat) (z:Value) (bytes:Nat) (hinf:(Tryz.prog.info? e).map (fun i=>(i.zero,i.size,i.bytes))=some (some z,k,bytes)) (ht:Tryz.prog.underlying t=some (.slice e)) (hzs:z.cells.size=k) (hk:0<k)
  (he:∀x,(enc x).length=k) (h1:∀xs:List α,∀u∈xs.flatMap enc,u.oneCell'=true) (hb:bytes≤1000)
  (B:Nat) (A:Option Addr) (n c:Nat) (hs:a.eval s= .slice A n c) (xs:List α) (ho:w.ownsRow B e k (.slice A n c) n (xs.flatMap enc)) (A':Option Addr) (m c':Nat) (hx:a.eval x= .slice A' m c') (hc0:A'=none→c'=0) (ys:List α) (hR:Rd k enc w A' m ys)
  (hn:n≤1000000) (hm:m≤1000000) (hB:B≤w.heap.size)
  (hK:∀v' w',Appd B e k enc A w (n+m) (xs++ys) v' w'→wpList Tryz.prog ops Q rest (a.put o.dst v') w'):wpList Tryz.prog ops Q (o::rest) a w:=by
 refine wpList_plain hgd fun K hK2=>?_
 obtain⟨i0,hi,hz0,hz1,hz2⟩:=info_parts hinf;obtain⟨v',w',hrun,h2⟩:=run_append_rows w t o.type e i0 z bytes ht hi hz0 hz1 hz2 hzs hk he h1 B A n c xs ho A' m c' hc0 ys hR hn hm hb hB;unfold Oper.wp;simp[execOp,hop,resolve,invoke,builtin,hs,hx,hrun,Result.andThen]
 exact hK2 _ _ (hK _ _ h2)
end
section
open Go.RowKit Go.Shelf
variable {B:Nat} {p:Nat} {b:Nat} {i:Nat} {w:World} {w':World} {v:DV} {v':DV} {d:Diag}
def blC (b:Bool):List Value:=[.bool b]
theorem blC_len (x:Bool):(blC x).length=1:=rfl
structure DWk (B:Nat) (w:World) (p:Nat) (v:DV) (d:Diag) (lb ln lc hb hn hc:Nat) (la:List Int) (ha:List Bool):Prop where
 wk:WK 103 [.slice (some ⟨lb,0,none⟩) ln lc, .slice (some ⟨hb,0,none⟩) hn hc] B w p v d
 la:w.ownsRow B 3 1 (.slice (some ⟨lb,0,none⟩) ln lc) ln (la.flatMap inC)
 ha:w.ownsRow B 4 1 (.slice (some ⟨hb,0,none⟩) hn hc) hn (ha.flatMap blC)
 l1:lb≠p
 l2:lb∉blks v
 h1:hb≠p
 h2:hb∉blks v
 lh:lb≠hb
structure DUpd (p lb hb:Nat) (v:DV) (w:World) (v':DV) (w':World):Prop where
 t:Touch (p::lb::hb::blks v) w w'
 n:∀b∈blks v',b∈blks v∨w.heap.size≤b
theorem DUpd.refl (p lb hb:Nat) (v:DV) (w:World):DUpd p lb hb v w v w:=⟨Touch.refl _ _,fun b h=> .inl h⟩
theorem DUpd.trans {lb hb:Nat} {v1 v2:DV} {w1 w2:World} (h:DUpd p lb hb v w v1 w1) (k:DUpd p lb hb v1 w1 v2 w2):DUpd p lb hb v w v2 w2:=by
 refine⟨h.t.trans k.t ?_,fun b hb=>?_⟩
 · intro x hx;simp only[List.mem_cons]at hx
   rcases hx with rfl|rfl|rfl|hx
   · exact .inl sI
   · exact .inl sI
   · exact .inl sI
   rcases h.n x hx with h1|h1
   · exact .inl (by simp[h1])
   exact .inr h1
 rcases k.n b hb with h1|h1
 · exact h.n b h1
 exact .inr (Nat.le_trans h.t.size h1)
theorem DUpd.of_upd {lb hb:Nat} (h:Upd p v w v' w'):DUpd p lb hb v w v' w':=
 ⟨h.t.mono (by intro x hx;rcases List.mem_cons.1 hx with rfl|hx;(simp);(simp[hx])),h.n⟩
theorem DUpd.of_below {lb hb:Nat} (h:Below w.heap.size w w'):DUpd p lb hb v w v w':=⟨(Touch.of_below h).mono sI,fun b h=> .inl h⟩
theorem DWk.lt {lb ln lc hb hn hc:Nat} {la:List Int} {ha:List Bool} (h:DWk B w p v d lb ln lc hb hn hc la ha):(B≤lb∧lb<w.heap.size)∧B≤hb∧hb<w.heap.size:=
 ⟨h.la.lt _ rfl,h.ha.lt _ rfl⟩
theorem DWk.lows {lb ln lc hb hn hc:Nat} {la:List Int} {ha:List Bool} (h:DWk B w p v d lb ln lc hb hn hc la ha) (hu:DUpd p lb hb v w v' w') (hB:B≤w.heap.size):Below B w w':=
 hu.t.below hB (by
   intro x hx;simp only[List.mem_cons]at hx
   rcases hx with rfl|rfl|rfl|hx
   · exact h.wk.hp
   · exact h.lt.1.1
   · exact h.lt.2.1
   · exact(h.wk.own.lt x hx).1)
theorem DWk.upd {d':Diag} {lb ln lc hb hn hc:Nat} {la:List Int} {ha:List Bool} (h:DWk B w p v d lb ln lc hb hn hc la ha) (hk:WK 103 [.slice (some ⟨lb,0,none⟩) ln lc, .slice (some ⟨hb,0,none⟩) hn hc] B w' p v' d') (hu:Upd p v w v' w'):DWk B w' p v' d' lb ln lc hb hn hc la ha:=by
 have h3:=h.lt;have nl:lb∉p::blks v:=by simp[h.l1,h.l2]
 have nh:hb∉p::blks v:=by simp[h.h1,h.h2]
 refine⟨hk,ownsRow_touch h.la hu.t (fun b hb=>by cases hb;exact nl),ownsRow_touch h.ha hu.t (fun b hb=>by cases hb;exact nh),h.l1,fun hm=>?_,h.h1,fun hm=>?_,h.lh⟩
 · rcases hu.n _ hm with h1|h1
   · exact h.l2 h1
   omega
 rcases hu.n _ hm with h1|h1
 · exact h.h2 h1
 omega
theorem DWk.setL {lb ln lc hb hn hc:Nat} {la:List Int} {ha:List Bool} (h:DWk B w p v d lb ln lc hb hn hc la ha) (hi:i<la.length) (y:Int):DWk B (w.setCell ⟨lb,i,none⟩ y) p v d lb ln lc hb hn hc (la.set i y) ha:=by
 have hT:=Touch.set1 w lb i y;have h1:=(h.la.stored (i*1+0) y).1;obtain⟨x,hx⟩:∃x,la[i]?=some x:=⟨_,List.getElem?_eq_getElem hi⟩;rw[flat_set inC_len hx dE (show inC y=(inC x).set 0 y from rfl)]at h1;simp only[Nat.mul_one,Nat.add_zero]at h1;exact⟨h.wk.touch hT (by simp;exact fun e=>h.l1 e.symm) (fun b hb hm=>by simp at hm;subst hm;exact h.l2 hb),h1,ownsRow_touch h.ha hT (fun b hb hm=>by cases hb;simp at hm;exact h.lh hm.symm),h.l1,h.l2,h.h1,h.h2,h.lh⟩
theorem DWk.setH {lb ln lc hb hn hc:Nat} {la:List Int} {ha:List Bool} (h:DWk B w p v d lb ln lc hb hn hc la ha) (hi:i<ha.length) (y:Bool):DWk B (w.setCell ⟨hb,i,none⟩ (.bool y)) p v d lb ln lc hb hn hc la (ha.set i y):=by
 have hT:=Touch.set1 w hb i (.bool y);have h1:=(h.ha.stored (i*1+0) (.bool y)).1;obtain⟨x,hx⟩:∃x,ha[i]?=some x:=⟨_,List.getElem?_eq_getElem hi⟩;rw[flat_set blC_len hx dE (show blC y=(blC x).set 0 (.bool y) from rfl)]at h1;simp only[Nat.mul_one,Nat.add_zero]at h1;exact⟨h.wk.touch hT (by simp;exact fun e=>h.h1 e.symm) (fun b hb hm=>by simp at hm;subst hm;exact h.h2 hb),ownsRow_touch h.la hT (fun b hb hm=>by cases hb;simp at hm;exact h.lh hm),h1,h.l1,h.l2,h.h1,h.h2,h.lh⟩
theorem DUpd.set {lb hb:Nat} {u:Value} (hbm:b=lb∨b=hb):DUpd p lb hb v w v (w.setCell ⟨b,i,none⟩ u):=
 ⟨(Touch.set1 w b i u).mono (by intro x hx;simp at hx;subst hx;rcases hbm with rfl|rfl<;>simp),fun b h=> .inl h⟩
theorem DWk.below {lb ln lc hb hn hc:Nat} {la:List Int} {ha:List Bool} (h:DWk B w p v d lb ln lc hb hn hc la ha) (hl:Below w.heap.size w w'):DWk B w' p v d lb ln lc hb hn hc la ha:=
 h.upd (h.wk.below hl) ⟨(Touch.of_below hl).mono sI,fun b h=> .inl h⟩
theorem DWk.two {lb ln lc hb hn hc:Nat} {la:List Int} {ha:List Bool} (h:DWk B w p v d lb ln lc hb hn hc la ha):w.cell? ⟨p,9,none⟩=some (.slice (some ⟨lb,0,none⟩) ln lc)∧w.cell? ⟨p,10,none⟩=some (.slice (some ⟨hb,0,none⟩) hn hc)∧(∀o,w.frozen? ⟨lb,o,none⟩=false)∧∀o,w.frozen? ⟨hb,o,none⟩=false:=
 ⟨h.wk.blk.cell 9 _ rfl,h.wk.blk.cell 10 _ rfl,fun o=>h.la.frozenAt o,fun o=>h.ha.frozenAt o⟩
theorem DWk.lAt {lb ln lc hb hn hc:Nat} {la:List Int} {ha:List Bool} (h:DWk B w p v d lb ln lc hb hn hc la ha) {x:Int} (hx:la[i]?=some x):w.cell? ⟨lb,i,none⟩=some (.int .i64 x):=by
 simpa using ownsRow_at inC_len h.la hx (j:=0) rfl
theorem DWk.hAt {lb ln lc hb hn hc:Nat} {la:List Int} {ha:List Bool} (h:DWk B w p v d lb ln lc hb hn hc la ha) {x:Bool} (hx:ha[i]?=some x):w.cell? ⟨hb,i,none⟩=some (.bool x):=by
 simpa using ownsRow_at blC_len h.ha hx (j:=0) rfl
theorem DWk.lLen {lb ln lc hb hn hc:Nat} {la:List Int} {ha:List Bool} (h:DWk B w p v d lb ln lc hb hn hc la ha):la.length=ln∧ha.length=hn:=
 ⟨ownsRow_size dE inC_len h.la,ownsRow_size dE blC_len h.ha⟩
def Diag.put (d:Diag) (la:Int) (ha:Bool) (kind phase:Int):Diag:={d with sp:=d.sp++[⟨kind,phase⟩],ln:=d.ln++[⟨la,d.sp.length,ha⟩]}
theorem xe42_0 {p:Prop} (h:p:=by
 have hu:u=u3.drew∨u=(u3.drew.setCell ⟨lb,i,none⟩ (.int .i64 (v.n1:Int))):=by
  by_cases hq0:l 12=false
  · exact .inl (hG.1 hq0)
  exact .inr (hG.2.1 (by simpa using hq0) (hno 14 kR))
 have s9:u.cell? ⟨p,9,none⟩=some (.slice (some ⟨lb,0,none⟩) ln lc):=by rcases hu with rfl|rfl<;>first|exact s9_0|exact s9_1
 have s10:u.cell? ⟨p,10,none⟩=some (.slice (some ⟨hb,0,none⟩) hn hc):=by rcases hu with rfl|rfl<;>first|exact s10_0|exact s10_1
 go_simp
 exact hK _ _ rfl trivial sG):p:=h
theorem put69x {lb ln lc hb hn hc:Nat} {la:List Int} {ha:List Bool} (h:DWk B w p v d lb ln lc hb hn hc la ha) (hBw:B≤w.heap.size) (h1:d.sp.length≤10000) (h2:d.ln.length≤10000) (hl:ln≤10000) (hh:hn≤10000) (i:Nat) (kind phase:Int) {px:Int} {ph:Bool} (hx:la[i]?=some px) (hy:ha[i]?=some ph):
  Calls Tryz.prog 69 #[pt p 0,i,kind,phase] w fun e w'=>∃v',e= .returned d.sp.length∧DWk B w' p v' (d.put px ph kind phase) lb ln lc hb hn hc (la.set i d.sp.length) (ha.set i false)∧DUpd p lb hb v w v' w'∧v'.A4=v.A4∧v'.n4=v.n4∧v'.c4=v.c4:=by
 have hn1:=h.wk.own.n1;have hn2:=h.wk.own.n2;have hll:=h.lLen;have hil:i<ln:=by have:=(List.getElem?_eq_some_iff.1 hx).1;omega
 have hih:i<hn:=by have:=(List.getElem?_eq_some_iff.1 hy).1;omega
 obtain⟨c0,c1,c2,c3,c4,c5,c6,c7,c8,cf⟩:=h.wk.nine;rw[hn1];have hn1':v.n1≤10000:=oM
 have hn2':v.n2≤10000:=oM
 have HP:Aside (hn1=hn1):=rfl;have HH:=Lib.hid h;have HN:Aside (d.sp.length=v.n1∧d.ln.length=v.n2):=⟨hn1,hn2⟩;have HX:=Lib.hid hx;have HY:=Lib.hid hy;clear h hx hy hll hn1 hn2 h1 h2 HP;go_enter Tryz.func69,Tryz.ntmps69
 go_upto_region 2 with fail
 have HB2:Aside (Below w.heap.size w (w.alloc (.cells #[kind,phase] 73))):=bR.alloc (Nat.le_refl _) _;have HBB:Aside (B≤(w.alloc (.cells #[kind,phase] 73)).heap.size):=Nat.le_trans hBw HB2.out.size;have HO2:=Lib.hid (HH.out.wk.below HB2.out).own.sp;have HR2:Aside (Rd 2 spC (w.alloc (.cells #[kind,phase] 73)) (some ⟨w.heap.size,0,none⟩) 1 [(⟨kind,phase⟩:Spider)]):=Rd.one (Blk.new _ _ _)
 go_upto_region 3 with (at_builtin;(refine wpList_append_rows rfl (.tmp 23) (.tmp 27) 22 rfl 73 2 _ 16 inf73 Tryz.underlying22 rfl dE spC_len spC_one dE B _ _ _ rfl _ HO2.out _ _ _ rfl (fun h=>nomatch h) [(⟨kind,phase⟩:Spider)] HR2.out oM dE HBB.out ?_)
                        intro v9 w9 hAp;obtain⟨A',c',rfl,hown,htch,hnb⟩:=hAp;have hT9:Touch (ownB v.A1) w w9:=((Touch.of_below HB2.out).mono sI).trans htch (fun x hx=> .inl hx);have hput:=HH.out.wk.putSp hT9 (fun b hb=> .inl hb) hown (fun b hb=>(hnb b hb).imp id (Nat.le_trans HB2.out.size));have hbk:=HH.out.wk.blk.touch hT9 (fun hm=>HH.out.wk.np (by simp[blks,hm]));have k0:=hbk.cell 0 _ rfl;have kf:=hbk.free 0;have HPUT:=Lib.hid hput
                        clear hown htch hnb hT9 hput hbk c0 c1 c2 c3 c4 c5 c6 c7 c8 cf)
 obtain⟨W3,hW3⟩:∃W3,W3=w9.setCell ⟨p,0,none⟩ (.slice A' (v.n1+1) c'):=⟨_,rfl⟩;obtain⟨v1,hv1⟩:∃v1:DV,v1={v with A1:=A',n1:=v.n1+1,c1:=c'}:=⟨_,rfl⟩;obtain⟨d1,hd1⟩:∃d1:Diag,d1={d with sp:=d.sp++[⟨kind,phase⟩]}:=⟨_,rfl⟩;rw[←hW3];have hp:=HPUT.out;rw[←hW3,←hv1,←hd1]at hp;have hD1:=HH.out.upd hp.1 hp.2;have hU1:DUpd p lb hb v w v1 W3:=DUpd.of_upd hp.2;have hn2:v1.n2≤100000:=by rw[hv1];show v.n2≤100000;omega
 have hBW:B≤W3.heap.size:=Nat.le_trans hBw hp.2.t.size
 have HS:Aside (∀u,Below W3.heap.size W3 u→u.cell? ⟨p,1,none⟩=some (.slice v1.A2 v1.n2 v1.c2)∧u.cell? ⟨p,9,none⟩=some (.slice (some ⟨lb,0,none⟩) ln lc)∧u.cell? ⟨p,10,none⟩=some (.slice (some ⟨hb,0,none⟩) hn hc)∧u.cell? ⟨lb,i,none⟩=some (.int .i64 px)∧u.cell? ⟨hb,i,none⟩=some (.bool ph)):=by
  intro u hu;have h9:=hD1.below hu;exact⟨h9.wk.nine.2.1,h9.two.1,h9.two.2.1,h9.lAt HX.out,h9.hAt HY.out⟩
 have hK0:=hD1.wk;have HD1:=Lib.hid hD1;have HU1:=Lib.hid hU1;have HV4:Aside (v1.A4=v.A4∧v1.n4=v.n4∧v1.c4=v.c4):=by rw[hv1];exact⟨rfl,rfl,rfl⟩
 have HE1:Aside (v1.n1=v.n1+1∧d1={d with sp:=d.sp++[⟨kind,phase⟩]}):=⟨by rw[hv1],hd1⟩;clear hW3 hv1 hd1 hp hD1 hU1 k0 kf HPUT
 refine wp_region_F [(33,29)] (fun l u=>(l 24=false→Below W3.heap.size W3 u)∧(l 29=false→Touch (ownB v1.A2) W3 u)) (fun i u u'=>match i with|24=>Touch (ownB v1.A2) u u'|29=>∃x9,u'=u.setCell ⟨p,1,none⟩ x9|_=>Below u.heap.size u u') (fun j x u=>match j with|0=>x 33=pt p 0|1=>x 34=pt p 0|2=>x 35=pt p 0|3=>x 36=pt p 0|4=>x 37=pt p 0|5=>x 38=pt p 1|6=>x 39= .slice v1.A2 v1.n2 v1.c2|7=>x 40=pt p 0|8=>x 41=pt p 0|9=>x 42=pt p 9|10=>x 43= .slice (some ⟨lb,0,none⟩) ln lc|11=>x 44=i|12=>x 45=pt lb i|13=>x 46=px|14=>x 47=v.n1|15=>x 48=pt p 0|16=>x 49=pt p 0|17=>x 50=pt p 10|18=>x 51= .slice (some ⟨hb,0,none⟩) hn hc|19=>x 52=i|20=>x 53=pt hb i|21=>x 54= .bool ph|22=>x 55= .agg #[px,v.n1, .bool ph]|23=>∃q,x 56= .slice (some ⟨q,0,none⟩) 1 1∧W3.heap.size≤q∧Rd 3 lnC u (some ⟨q,0,none⟩) 1 [(⟨px,v.n1,ph⟩:Line)]|24=>∃A' c',x 57= .slice A' (v1.n2+1) c'∧u.ownsRow B 77 3 (.slice A' (v1.n2+1) c') (v1.n2+1) ((d1.ln++[(⟨px,v.n1,ph⟩:Line)]).flatMap lnC)∧∀b∈ownB A',b∈ownB v1.A2∨W3.heap.size≤b|25=>x 58=pt p 0|26=>x 59=pt p 0|27=>x 60=pt p 0|28=>x 61=pt p 1|29=>∃A' c',WK 103 [.slice (some ⟨lb,0,none⟩) ln lc, .slice (some ⟨hb,0,none⟩) hn hc] B u p {v1 with A2:=A',n2:=v1.n2+1,c2:=c'} {d1 with ln:=d1.ln++[(⟨px,v.n1,ph⟩:Line)]}∧Upd p v1 W3 {v1 with A2:=A',n2:=v1.n2+1,c2:=c'} u|_=>True) ?h0 ?hkeep ?hstep ?d0
 case h0=>exact⟨fun _=>bR.drew,fun _=>(Touch.refl _ _).drew⟩
 case hkeep=>
  intro j i x l u u' hj hi hpre ht hG hR
  by_cases hjb:j=23
  · subst hjb;obtain⟨q,h1,h2,h3⟩:=ht;refine⟨q,h1,h2,?_⟩
    by_cases hia:i=24
    · subst hia;exact h3.touch hR (fun b hb y hy hyb=>by cases hy;have h8:=(hK0.own.lt b (by simp[blks,hb])).2;have h9:q=b:=hyb;omega)
    by_cases his:i=29
    · subst his;obtain⟨x9,rfl⟩:=hR;exact h3.touch (Touch.set1 _ _ _ _) (fun b hb y hy hyb=>by cases hy;have h8:=hK0.lt;simp at hb;have h9:q=b:=hyb;omega)
    exact h3.below (by have h9:=hR;split at h9<;>first|exact(hia rfl).elim|exact(his rfl).elim|exact h9)
  by_cases hja:j=24
  · subst hja;obtain⟨A',c',h1,h2,h3⟩:=ht;refine⟨A',c',h1,?_,h3⟩
    by_cases hia:i=24
    · subst hia;rw[hj]at hi;cases hi
    by_cases his:i=29
    · subst his;obtain⟨x9,rfl⟩:=hR;refine ownsRow_touch h2 (Touch.set1 _ _ _ _) (fun b hb hm=>?_)
      simp at hm
      subst hm
      rcases h3 _ (ownBlock_ownB hb) with h4|h4
      · exact hK0.np (by simp[blks,h4])
      have:=hK0.lt;omega
    exact ownsRow_touch h2 (Touch.of_below (by have h9:=hR;split at h9<;>first|exact(hia rfl).elim|exact(his rfl).elim|exact h9)) sI
  by_cases hjs:j=29
  · subst hjs;obtain⟨A',c',h1,h2⟩:=ht
    by_cases hia:i=24
    · subst hia;rw[hpre 24 kR]at hi;cases hi
    by_cases his:i=29
    · subst his;rw[hj]at hi;cases hi
    exact⟨A',c',h1.below (by have h9:=hR;split at h9<;>first|exact(hia rfl).elim|exact(his rfl).elim|exact h9),h2.then_below (by have h9:=hR;split at h9<;>first|exact(hia rfl).elim|exact(his rfl).elim|exact h9)⟩
  exact(by have h9:=ht;clear ht;split at h9<;>first|exact h9|exact(hjb rfl).elim|exact(hja rfl).elim|exact(hjs rfl).elim)
 case hstep=>
  dsimp only[fil,fls,fl,List.toList_toArray,Nat.reduceAdd];refine⟨?_,?_,?_,?_,?_,?_,?_,?_,?_,?_,?_,?_,?_,?_,?_,?_,?_,?_,?_,?_,?_,?_,?_,?c23,?c24,?_,?_,?_,?_,?c29,trivial⟩
  all_goals intro l x u hG hno hli hpre hd K hK
  case c23=>
   have e22:x 55= .agg #[px,v.n1, .bool ph]:=hd ⟨22, .data⟩ sI rfl;clear hd;simp only[e22]at hK ⊢;have hBl:=hG.1 (hno 24 kR);go_simp
   exact hK _ _ ⟨_,rfl,hBl.size,Rd.one (Blk.new _ _ _)⟩ (bR.alloc (Nat.le_refl _) _) ⟨fun _=>hBl.alloc hBl.size _,fun h=>(hG.2 (hno 29 kR)).alloc _⟩
  case c24=>
   have e6:x 39= .slice v1.A2 v1.n2 v1.c2:=hd ⟨6, .data⟩ sI rfl;have e23:∃q,x 56= .slice (some ⟨q,0,none⟩) 1 1∧W3.heap.size≤q∧Rd 3 lnC u (some ⟨q,0,none⟩) 1 [(⟨px,v.n1,ph⟩:Line)]:=hd ⟨23, .data⟩ sI rfl;clear hd;simp only[e6]at hK ⊢;have hBl:=hG.1 hli;have hTc:=hG.2 (hno 29 kR);obtain⟨q,h56,hq,hR⟩:=e23;generalize k56:x 56=z56 at h56 hK ⊢;subst h56;refine wp_append_rows (.tmp 39) (.tmp 56) 23 rfl 77 3 _ 24 inf77 Tryz.underlying23 rfl dE lnC_len lnC_one dE B _ _ _ rfl _ (hK0.below hBl).own.ln _ _ _ rfl (fun h=>nomatch h) [(⟨px,v.n1,ph⟩:Line)] hR oM dE (Nat.le_trans hBW hBl.size) ?_
   intro v9 w9 hAp;obtain⟨A',c',rfl,hown,htch,hnb⟩:=hAp;exact hK _ _ ⟨A',c',rfl,hown,fun b hb=>(hnb b hb).imp id (Nat.le_trans hBl.size)⟩ htch ⟨fun h=>by simp at h,fun _=>hTc.trans htch (fun x hx=> .inl hx)⟩
  case c29=>
   have e28:x 61=pt p 1:=hd ⟨28, .data⟩ sI rfl;have e24:∃A' c',x 57= .slice A' (v1.n2+1) c'∧u.ownsRow B 77 3 (.slice A' (v1.n2+1) c') (v1.n2+1) ((d1.ln++[(⟨px,v.n1,ph⟩:Line)]).flatMap lnC)∧∀b∈ownB A',b∈ownB v1.A2∨W3.heap.size≤b:=hd ⟨24, .data⟩ sI rfl;clear hd;simp only[e28]at hK ⊢;have hTc:=hG.2 hli;obtain⟨A',c',h57,hown,hnb⟩:=e24;generalize k57:x 57=z57 at h57 hK ⊢;subst h57;have hbk:=hK0.blk.touch hTc (fun hm=>hK0.np (by simp[blks,hm]));have hcl:=hbk.cell 1 _ rfl;have hfr:=hbk.free 1;have hput:=hK0.putLn hTc (fun b hb=> .inl hb) hown hnb;clear hbk;go_simp
   exact hK undef _ ⟨A',c',hput⟩ ⟨_,rfl⟩ ⟨fun h=>by simp[hpre 24 kR]at h,fun h=>by simp at h⟩
  all_goals
   dsimp only at hd;simp only[eB]at hd
   try simp only[hd]at hK ⊢
   first|(go_simp;exact hK _ _ rfl bR sG)|(obtain⟨s1,s9,s10,sl,sh⟩:=HS.out _ (hG.1 (hno 24 kR));go_simp;exact hK _ _ rfl bR sG)
 dsimp only[fil,fls,fl,List.toList_toArray,Nat.reduceAdd];rintro l_1 x3 u3 hall hG ⟨-,-,-,-,-,-,-,-,-,-,-,-,-,-,-,-,-,-,-,-,-,-,-,-,-,-,-,-,-,tS,-⟩;obtain⟨A2',c2',hK9,hU9⟩:=tS;clear hall hG;have hD9:=HD1.out.upd hK9 hU9;have hU9':=HU1.out.trans (DUpd.of_upd hU9);have hil2:i<la.length:=(List.getElem?_eq_some_iff.1 HX.out).1;have hih2:i<ha.length:=(List.getElem?_eq_some_iff.1 HY.out).1;have hBd:Below u3.heap.size u3 u3.drew:=bR.drew;have hD9d:=hD9.below hBd;have hD10:=hD9d.setL hil2 (v.n1:Int);have hD11:=hD10.setH hih2 false;have s9_0:=hD9d.two.1;have s10_0:=hD9d.two.2.1;have s9_1:=hD10.two.1;have s10_1:=hD10.two.2.1;have hE10:=hD9.setL hil2 (v.n1:Int);have k1:=hD9.lAt HX.out;have k2:=hE10.hAt HY.out;have f1:=hD9.two.2.2.1 i;have f2:=hE10.two.2.2.2 i;clear hE10
 have hUU:DUpd p lb hb v w _ ((u3.drew.setCell ⟨lb,i,none⟩ (.int .i64 (v.n1:Int))).setCell ⟨hb,i,none⟩ (.bool false)):=(hU9'.trans (DUpd.of_below hBd)).trans ((DUpd.set (.inl rfl)).trans (DUpd.set (.inr rfl)));have HD11:=Lib.hid hD11;have HE9:=Lib.hid HE1.out;have HUU:=Lib.hid hUU;clear hD9 hU9' hD9d hD10 hD11 hUU hBd hK9 hU9
 go_upto_region 4 with fail
 refine wp_region_F [(62,13)] (fun l u=>(l 12=false→u=u3.drew)∧(l 12=true→l 14=false→u=(u3.drew.setCell ⟨lb,i,none⟩ (.int .i64 (v.n1:Int))))∧(l 14=true→u=((u3.drew.setCell ⟨lb,i,none⟩ (.int .i64 (v.n1:Int))).setCell ⟨hb,i,none⟩ (.bool false)))) (fun i u u'=>True) (fun j x u=>match j with|0=>x 62=pt p 0|1=>x 63=pt p 0|2=>x 64=pt p 9|3=>x 65= .slice (some ⟨lb,0,none⟩) ln lc|4=>x 66=i|5=>x 67=pt p 0|6=>x 68=pt p 0|7=>x 69=pt p 10|8=>x 70= .slice (some ⟨hb,0,none⟩) hn hc|9=>x 71=i|10=>x 72=v.n1|11=>x 73=pt lb i|12=>True|13=>x 74=pt hb i|14=>True|_=>True) ?h0 ?hkeep ?hstep ?d1
 case h0=>exact⟨(fun _=>rfl),(fun h _=>by cases h),(fun h=>by cases h)⟩
 case hkeep=>
  intro j i x l u u' hj hi hpre ht hG hR;exact ht
 case hstep=>
  dsimp only[fil,fls,fl,List.toList_toArray,Nat.reduceAdd];refine⟨?_,?_,?_,?c3,?_,?_,?_,?_,?c8,?_,?_,?_,?c12,?_,?c14,trivial⟩
  all_goals intro l x u hG hno hli hpre hd K hK
  case c3=>
   have e2:x 64=pt p 9:=hd ⟨2, .data⟩ sI rfl;clear hd;simp only[e2]at hK ⊢;exact xe42_0
  case c8=>
   have e7:x 69=pt p 10:=hd ⟨7, .data⟩ sI rfl;clear hd;simp only[e7]at hK ⊢;exact xe42_0
  case c12=>
   have e11:x 73=pt lb i:=hd ⟨11, .data⟩ sI rfl;have e10:x 72= .int .i64 ↑v.n1:=hd ⟨10, .data⟩ sI rfl;clear hd;simp only[e11,e10]at hK ⊢;obtain rfl:=hG.1 hli;go_simp
   exact hK undef _ trivial trivial ⟨fun h=>by simp at h,fun _ _=>rfl,fun h=>by simp[hno 14 kR]at h⟩
  case c14=>
   have e13:x 74=pt hb i:=hd ⟨13, .data⟩ sI rfl;clear hd;simp only[e13]at hK ⊢;obtain rfl:=hG.2.1 (hpre 12 kR) hli;go_simp
   exact hK undef _ trivial trivial ⟨fun h=>by simp[hpre 12 kR]at h,fun _ h=>by simp at h,fun _=>rfl⟩
  all_goals
   dsimp only at hd;simp only[eB]at hd
   try simp only[hd]at hK ⊢
   go_simp
   exact hK _ _ rfl trivial sG
 dsimp only[fil,fls,fl,List.toList_toArray,Nat.reduceAdd];rintro l_4 x4 u4 hall hG -;obtain rfl:=hG.2.2 (hall 14 dE);clear hall hG;go_wp2_with fail
 refine bodyPost_ret (v:=v.n1) (by simp[results,Tryz.results69,go_sem]) rfl ?_
 refine⟨_,rfl,?_,HUU.out,HV4.out⟩
 have h9:=HD11.out;rw[HE9.out.2]at h9;have e9:d.put px ph kind phase={d with sp:=d.sp++[⟨kind,phase⟩],ln:=d.ln++[⟨px,(v.n1:Int),ph⟩]}:=by unfold Diag.put;rw[HN.out.1]
 rw[e9];exact h9
theorem put69 {lb ln lc hb hn hc:Nat} {la:List Int} {ha:List Bool} (h:DWk B w p v d lb ln lc hb hn hc la ha) (hBw:B≤w.heap.size) (h1:d.sp.length≤10000) (h2:d.ln.length≤10000) (hl:ln≤10000) (hh:hn≤10000) (i:Nat) (kind phase:Int) {px:Int} {ph:Bool} (hx:la[i]?=some px) (hy:ha[i]?=some ph):
  Calls Tryz.prog 69 #[pt p 0,i,kind,phase] w fun e w'=>∃v',e= .returned d.sp.length∧DWk B w' p v' (d.put px ph kind phase) lb ln lc hb hn hc (la.set i d.sp.length) (ha.set i false)∧DUpd p lb hb v w v' w':=
 (put69x h hBw h1 h2 hl hh i kind phase hx hy).mono fun e w' ⟨v',a,b,c,_⟩=>⟨v',a,b,c⟩
end
section
open Go.RowKit Go.Shelf
variable {n:Nat}
theorem Num.bd {x:Num} (h:x.check=0):Bd 1073741824 x.a x.b x.c x.d∧0≤x.k∧x.k≤60:=by
 have:=check_bd (a:=x.a) (b:=x.b) (c:=x.c) (d:=x.d) (k:=x.k) h;exact⟨this.2,this.1⟩
theorem mul_nat {x y:Int} {m:Nat} (hx:x.natAbs≤m) (hy:y.natAbs≤n):(x*y).natAbs≤m*n:=by
 rw[Int.natAbs_mul];exact Nat.mul_le_mul hx hy
theorem pb_of {x y:Int} (hx:-1073741824≤x∧x≤1073741824) (hy:-1073741824≤y∧y≤1073741824):PB x y:=by
 have:=mul_nat (x:=x) (y:=y) (m:=1073741824) (n:=1073741824) oM oM;unfold PB;omega
theorem two_bd {x z p q:Int} (hx:-1073741824≤x∧x≤1073741824) (hz:-1073741824≤z∧z≤1073741824) (hp:-1073741824≤p∧p≤1073741824) (hq:-1073741824≤q∧q≤1073741824):
  -2305843009213693952≤(x*p-x*q)+(z*p+z*q)∧(x*p-x*q)+(z*p+z*q)≤2305843009213693952∧-2305843009213693952≤(x*p-x*q)-(z*p+z*q)∧(x*p-x*q)-(z*p+z*q)≤2305843009213693952:=by
 have h1:(x*(p-q)).natAbs≤1073741824*(p-q).natAbs:=mul_nat oM (Nat.le_refl _);have h2:(z*(p+q)).natAbs≤1073741824*(p+q).natAbs:=mul_nat oM (Nat.le_refl _);rw[Int.mul_sub]at h1;rw[Int.mul_add]at h2;omega
theorem mul_tw {a b c d a' b' c' d':Int} (h:Bd 1073741824 a b c d) (h':Bd 1073741824 a' b' c' d'):Tw (a*a'-b*d'-c*c'-d*b') (a*b'+b*a'-c*d'-d*c') (a*c'+b*b'+c*a'-d*d') (a*d'+b*c'+c*b'+d*a'):=by
 unfold Bd at h h';obtain⟨h1,h2,h3,h4,h5,h6,h7,h8⟩:=h;obtain⟨g1,g2,g3,g4,g5,g6,g7,g8⟩:=h';have P:∀x y:Int,-1073741824≤x→x≤1073741824→-1073741824≤y→y≤1073741824→(-1152921504606846976≤x*y∧x*y≤1152921504606846976):=fun x y u1 u2 u3 u4=>pb_of ⟨u1,u2⟩ ⟨u3,u4⟩;have b1:=two_bd (x:=a) (z:=c) (p:=b') (q:=d') ⟨h1,h2⟩ ⟨h5,h6⟩ ⟨g3,g4⟩ ⟨g7,g8⟩;have b2:=two_bd (x:=b) (z:=d) (p:=a') (q:=c') ⟨h3,h4⟩ ⟨h7,h8⟩ ⟨g1,g2⟩ ⟨g5,g6⟩;have b3:=two_bd (x:=c) (z:=a) (p:=a') (q:=c') ⟨h5,h6⟩ ⟨h1,h2⟩ ⟨g1,g2⟩ ⟨g5,g6⟩;have b4:=two_bd (x:=b) (z:=d) (p:=b') (q:=d') ⟨h3,h4⟩ ⟨h7,h8⟩ ⟨g3,g4⟩ ⟨g7,g8⟩;have b5:=two_bd (x:=c) (z:=a) (p:=b') (q:=d') ⟨h5,h6⟩ ⟨h1,h2⟩ ⟨g3,g4⟩ ⟨g7,g8⟩;have b6:=two_bd (x:=d) (z:=b) (p:=a') (q:=c') ⟨h7,h8⟩ ⟨h3,h4⟩ ⟨g1,g2⟩ ⟨g5,g6⟩
 have b7:=two_bd (x:=a) (z:=c) (p:=a') (q:=c') ⟨h1,h2⟩ ⟨h5,h6⟩ ⟨g1,g2⟩ ⟨g5,g6⟩;have b8:=two_bd (x:=d) (z:=b) (p:=b') (q:=d') ⟨h7,h8⟩ ⟨h3,h4⟩ ⟨g3,g4⟩ ⟨g7,g8⟩;have p1:=P a a' h1 h2 g1 g2;have p2:=P b d' h3 h4 g7 g8;have p3:=P c c' h5 h6 g5 g6;have p4:=P d b' h7 h8 g3 g4;have p5:=P a b' h1 h2 g3 g4;have p6:=P b a' h3 h4 g1 g2;have p7:=P c d' h5 h6 g7 g8;have p8:=P d c' h7 h8 g5 g6;have p9:=P a c' h1 h2 g5 g6;have p10:=P b b' h3 h4 g3 g4;have p11:=P c a' h5 h6 g1 g2;have p12:=P d d' h7 h8 g7 g8;have p13:=P a d' h1 h2 g7 g8;have p14:=P b c' h3 h4 g5 g6;have p15:=P c b' h5 h6 g3 g4;have p16:=P d a' h7 h8 g1 g2;clear P;unfold Tw Bd;refine⟨⟨?_,?_,?_,?_,?_,?_,?_,?_⟩,⟨?_,?_,?_,?_,?_,?_,?_,?_⟩⟩<;>omega
theorem bd_pb4 {a b c d a' b' c' d':Int} (h:Bd 1073741824 a b c d) (h':Bd 1073741824 a' b' c' d'):PB4 a b c d a' b' c' d':=by
 obtain⟨h1,h2,h3,h4,h5,h6,h7,h8⟩:=h;obtain⟨g1,g2,g3,g4,g5,g6,g7,g8⟩:=h';unfold PB4;exact⟨⟨pb_of ⟨h1,h2⟩ ⟨g1,g2⟩,pb_of ⟨h1,h2⟩ ⟨g3,g4⟩,pb_of ⟨h1,h2⟩ ⟨g5,g6⟩,pb_of ⟨h1,h2⟩ ⟨g7,g8⟩⟩,⟨pb_of ⟨h3,h4⟩ ⟨g1,g2⟩,pb_of ⟨h3,h4⟩ ⟨g3,g4⟩,pb_of ⟨h3,h4⟩ ⟨g5,g6⟩,pb_of ⟨h3,h4⟩ ⟨g7,g8⟩⟩,⟨pb_of ⟨h5,h6⟩ ⟨g1,g2⟩,pb_of ⟨h5,h6⟩ ⟨g3,g4⟩,pb_of ⟨h5,h6⟩ ⟨g5,g6⟩,pb_of ⟨h5,h6⟩ ⟨g7,g8⟩⟩,⟨pb_of ⟨h7,h8⟩ ⟨g1,g2⟩,pb_of ⟨h7,h8⟩ ⟨g3,g4⟩,pb_of ⟨h7,h8⟩ ⟨g5,g6⟩,pb_of ⟨h7,h8⟩ ⟨g7,g8⟩⟩⟩
abbrev numV (x:Num):Value:= .agg #[x.a,x.b,x.c,x.d,x.k]
theorem mulN (x y:Num) (w:World) (hx:x.check=0) (hy:y.check=0):
  Calls Tryz.prog 141 #[numV x,numV y] w fun e w'=>e= .returned (.tuple #[numV (x.mulX y).least.1, .int .i64 (x.mulX y).least.2])∧Below w.heap.size w w':=by
 obtain⟨b1,b2,b3⟩:=Num.bd hx;obtain⟨g1,g2,g3⟩:=Num.bd hy;refine(mul141 x.a x.b x.c x.d x.k y.a y.b y.c y.d y.k w (bd_pb4 b1 g1) hx hy b2 b3 g2 g3 (mul_tw b1 g1)).mono ?_
 rintro e w' ⟨a1,c1,d1,e1,k1,r,rfl,hP,hb⟩;refine⟨?_,hb⟩
 have h2:(x.mulX y).least=(⟨a1,c1,d1,e1,k1⟩,r):=hP;rw[h2]
theorem Num.half_small {x:Num} (h:x.big=false) (he:x.ev=true):x.half.big=false:=by
 rw[Bool.eq_false_iff]at *;intro h2
 apply h
 rw[Num.big_iff]at *;have:=(Num.ev_iff x).1 he;simp only[Num.half]at h2;omega
theorem Num.down_small:∀(n:Nat) (x:Num),x.big=false→(Num.down n x).big=false
 |0,x,h=>h
 | n+1,x,h=>by
  by_cases he:x.ev=true
  · rw[Num.down_ev he];exact Num.down_small n x.half (Num.half_small h he)
  simp only[Bool.not_eq_true]at he;rw[Num.down_nev he];exact h
theorem Num.down_k:∀(n:Nat) (x:Num),(Num.down n x).k≤x.k
 |0,x=>Int.le_refl _
 | n+1,x=>by
  by_cases he:x.ev=true
  · rw[Num.down_ev he];have:=Num.down_k n x.half;simp only[Num.half]at this ⊢;omega
  simp only[Bool.not_eq_true]at he;rw[Num.down_nev he];exact Int.le_refl _
theorem Num.check_form {x:Num} (h:x.check=0):x.form.check=0:=by
 obtain⟨h0,h60,hb⟩:=Num.check_zero.1 h;have hl:=Num.low_form x h0
 by_cases hz:x.z=true
 · rw[Num.form_z hz];decide
 simp only[Bool.not_eq_true]at hz;rw[Num.form_nz hz]at hl ⊢;have:=Num.down_k x.k.toNat x;exact Num.check_zero.2 ⟨hl.1,oM,Num.down_small _ _ hb⟩
theorem leastN (x:Num) (w:World) (hx:x.check=0):
  Calls Tryz.prog 138 #[numV x] w fun e w'=>e= .returned (.tuple #[numV x.form, .int .i64 0])∧Below w.heap.size w w':=by
 obtain⟨b1,b2,b3⟩:=Num.bd hx;refine(least138 x.a x.b x.c x.d x.k w hx b2 b3 (bd_tw b1)).mono ?_
 rintro e w' ⟨a1,c1,d1,e1,k1,r,rfl,hP,hb⟩;refine⟨?_,hb⟩
 have h2:x.least=(⟨a1,c1,d1,e1,k1⟩,r):=hP;rw[Num.least_eq x b2,if_pos (Num.check_form hx)]at h2;rw[(Prod.mk.inj h2).1,←(Prod.mk.inj h2).2]
end
section
open Go.RowKit Go.Shelf
variable {t:TypeId} {tl:List Value} {B:Nat} {p:Nat} {w:World} {v:DV} {d:Diag}
theorem scale111 (h:WK t tl B w p v d) (x:Num) (q c:Nat) (hq:Aprt q p v w) (hx:Blk w q (numC x) 26) (hc1:x.check=0) (hc2:d.sc.check=0):
  Calls Tryz.prog 111 #[pt p 0, .slice (some ⟨q,0,none⟩) 1 c] w fun e w'=>e= .returned (.int .i64 (d.sc.mulX x).least.2)∧WK t tl B w' p v {d with sc:=if (d.sc.mulX x).least.2=0 then(d.sc.mulX x).least.1 else d.sc}∧Upd p v w v w':=by
 have HM:=fun W=>mulN d.sc x W hc2 hc1;generalize hr:(d.sc.mulX x).least=r at *;obtain⟨y,er⟩:=r;have hB0:=(hx.alloc (.cells #[x.a,x.b,x.c,x.d,x.k] 26)).five;have x_c:=hx.five;have c_c:=h.nine;obtain⟨W,hW⟩:∃W,W=w.alloc (.cells #[x.a,x.b,x.c,x.d,x.k] 26):=⟨_,rfl⟩;have hBX:Blk W w.heap.size (numC x) 26:=by rw[hW];exact Blk.new _ _ _
 have hK:WK t tl B W p v d:=by rw[hW];exact h.alloc _
 have hU:Upd p v w v W:=by rw[hW];exact(Upd.refl _ _ _).alloc _
 have hA:Aprt w.heap.size p v W:=by rw[hW];exact h.new_aprt _
 clear hB0 hr hx;go_enter Tryz.func111,Tryz.ntmps111
 go_wp2_with fail
 refine wp_loop_rounds 3 ?_
 rw[rounds_succ]
 go_upto_region 4 with fail
 rw[←hW];have HWs:Aside (W.heap.size=w.heap.size+1):=by rw[hW];simp[Aside]
 clear hW;obtain⟨k4,k5,k6,k7,k8,kf⟩:=hBX.five;have n_c:=hK.nine
 have HS:Aside (∀wx,Below W.heap.size W wx→((wx.cell? ⟨p,4,none⟩=some (.int .i64 d.sc.a)∧wx.cell? ⟨p,5,none⟩=some (.int .i64 d.sc.b)∧wx.cell? ⟨p,6,none⟩=some (.int .i64 d.sc.c)∧wx.cell? ⟨p,7,none⟩=some (.int .i64 d.sc.d)∧wx.cell? ⟨p,8,none⟩=some (.int .i64 d.sc.k))∧wx.cell? ⟨w.heap.size,0,none⟩=some (.int .i64 x.a)∧wx.cell? ⟨w.heap.size,1,none⟩=some (.int .i64 x.b)∧wx.cell? ⟨w.heap.size,2,none⟩=some (.int .i64 x.c)∧wx.cell? ⟨w.heap.size,3,none⟩=some (.int .i64 x.d)∧wx.cell? ⟨w.heap.size,4,none⟩=some (.int .i64 x.k))):=by
  intro wx hb;obtain⟨m0,m1,m2,m3,m4,m5,m6,m7,m8,_⟩:=(hK.below hb).nine;obtain⟨o0,o1,o2,o3,o4,_⟩:=(hBX.below hb).five;exact⟨⟨m4,m5,m6,m7,m8⟩,o0,o1,o2,o3,o4⟩
 have hB1:=Blk.new W #[.int .i64 0, .int .i64 0, .int .i64 0, .int .i64 0, .int .i64 0] 26
 go_cut [7,8] (fun s7 s8 wx=>∃g:Nat,s7=pt g 0∧s8=er∧W.heap.size≤g∧Blk wx g (numC y) 26∧Below W.heap.size W wx)
 case first=>
  go_region_held3 (fun wx:World=>(wx.cell? ⟨p,4,none⟩=some (.int .i64 d.sc.a)∧wx.cell? ⟨p,5,none⟩=some (.int .i64 d.sc.b)∧wx.cell? ⟨p,6,none⟩=some (.int .i64 d.sc.c)∧wx.cell? ⟨p,7,none⟩=some (.int .i64 d.sc.d)∧wx.cell? ⟨p,8,none⟩=some (.int .i64 d.sc.k))∧wx.cell? ⟨w.heap.size,0,none⟩=some (.int .i64 x.a)∧wx.cell? ⟨w.heap.size,1,none⟩=some (.int .i64 x.b)∧wx.cell? ⟨w.heap.size,2,none⟩=some (.int .i64 x.c)∧wx.cell? ⟨w.heap.size,3,none⟩=some (.int .i64 x.d)∧wx.cell? ⟨w.heap.size,4,none⟩=some (.int .i64 x.k))
   (first|with_reducible exact HS.out _ ((Below.refl _ W).drew)|with_reducible exact HS.out _ (((Below.refl _ W).alloc (Nat.le_refl _) _).drew)|with_reducible exact HS.out _ hQ|with_reducible exact HS.out _ (hQ.alloc hQ.size _)|with_reducible exact HS.out _ (below_set5 hQ (Nat.le_refl _) _ _ _ _ _))
   (first|(go_at_call 141;(with_reducible refine(HM _).mono ?_);rintro e w1 ⟨rfl,hb⟩;have hQ:Below W.heap.size W w1:=(by first|with_reducible exact below_then ((Below.refl _ W).drew) hb|with_reducible exact below_then (((Below.refl _ W).alloc (Nat.le_refl _) _).drew) hb);(try (have hY:Blk w1 W.heap.size [.int .i64 0, .int .i64 0, .int .i64 0, .int .i64 0, .int .i64 0] 26:=(by with_reducible exact hB1.drew.below hb);obtain⟨z0,z1,z2,z3,z4,zf⟩:=hY.five))))
  all_goals (go_wp2_with fail;go_meet)
  · exact⟨_,rfl,rfl,hQ.size,Blk.new _ _ _,hQ.alloc hQ.size _⟩
  exact⟨_,rfl,rfl,Nat.le_refl _,hY.set5 _ _ _ _ _,below_set5 hQ (Nat.le_refl _) _ _ _ _ _⟩
 obtain⟨g,rfl,rfl,hg,hY,hb⟩:=hcut;have hK2:=hK.below hb;have hU2:=hU.then_below hb;have hz:=hK2.putSc y;clear k4 k5 k6 k7 k8 kf HS hB1 x_c c_c n_c;have y_c:=hY.five;have n_c:=hK2.nine;have HR:Aside _:=(show _∧_ from⟨hz.1,hU2.trans hz.2⟩);have HR2:Aside _:=(show _∧_ from⟨hK2,hU2⟩);clear hK hU hBX hK2 hU2 hz hY hg hb h hA hq HM
 by_cases he:er=0
 · subst he;go_wp2_with fail
   rw[rounds_succ]
   go_wp2
   go_ret
   exact⟨rfl,HR.out⟩
 have he1:(er==0)=false:=by simpa using he
 have he2:(er != 0)=true:=by simpa using he
 have HE:Aside (¬er=0):=he;clear he
 go_wp2
 go_ret
 exact⟨rfl,HR2.out⟩
end
section
open Go.RowKit
variable {t:TypeId} {tl:List Value} {B:Nat} {N:Nat} {p:Nat} {b:Nat} {S:List Nat} {cs:List Value} {w:World} {w':World} {v:DV} {v':DV} {d:Diag}
def Cells (w:World) (b:Nat) (cs:List Value):Prop:=∀j u,cs[j]?=some u→w.cell? ⟨b,j,none⟩=some u
theorem Cells.below (h:Cells w b cs) (hb:Below B w w') (hlt:b<B):Cells w' b cs:=
 fun j u hu=>(hb.cell (p:=⟨b,j,none⟩) hlt).trans (h j u hu)
theorem Cells.touch (h:Cells w b cs) (hg:Touch S w w') (hn:b∉S):Cells w' b cs:=by
 intro j u hu;have h1:=h j u hu;rw[World.cell?_of_block (w:=w) (hg.block b (World.block_lt_of_cell? w ⟨b,j,none⟩ h1) hn)];exact h1
def rootC:List Value:=[.int .i64 0, .int .i64 1, .int .i64 0, .int .i64 (-1), .int .i64 0]
def orderC:List Value:=[.int .i64 2, .int .i64 3, .int .i64 1, .int .i64 5, .int .i64 6, .int .i64 4, .int .i64 7, .int .i64 8]
def rulesC:List Value:=[.bool false, .nilFunc, .bool true, .func (.func 184) #[] #[], .bool false, .func (.func 185) #[] #[], .bool true, .func (.func 186) #[] #[], .bool false, .func (.func 187) #[] #[], .bool true, .func (.func 188) #[] #[], .bool false, .func (.func 189) #[] #[], .bool false, .func (.func 190) #[] #[], .bool true, .func (.func 191) #[] #[]]
structure Glob (N:Nat) (w:World):Prop where
 four:4≤N
 root:Cells w 2 rootC
 order:Cells w 3 orderC
 rules:Cells w 1 rulesC
theorem Glob.below (h:Glob N w) (hb:Below B w w') (hN:N≤B):Glob N w':=
 ⟨h.four,h.root.below hb (by have:=h.four;omega),h.order.below hb (by have:=h.four;omega),h.rules.below hb (by have:=h.four;omega)⟩
theorem Glob.touch (h:Glob N w) (hg:Touch S w w') (hS:∀x∈S,N≤x):Glob N w':=by
 have h4:=h.four;exact⟨h4,h.root.touch hg (fun hm=>by have:=hS _ hm;omega),h.order.touch hg (fun hm=>by have:=hS _ hm;omega),h.rules.touch hg (fun hm=>by have:=hS _ hm;omega)⟩
theorem Glob.upd (h:Glob N w) (hk:WK t tl B w p v d) (hu:Upd p v w v' w') (hN:N≤B):Glob N w':=
 h.touch hu.t (by
   intro x hx
   rcases List.mem_cons.1 hx with rfl|hx
   · have:=hk.hp;omega
   · have:=(hk.own.lt x hx).1;omega)
theorem Glob.roots (h:Glob N w):w.cell? ⟨2,0,none⟩=some (.int .i64 0)∧w.cell? ⟨2,1,none⟩=some (.int .i64 1)∧w.cell? ⟨2,2,none⟩=some (.int .i64 0)∧w.cell? ⟨2,3,none⟩=some (.int .i64 (-1))∧w.cell? ⟨2,4,none⟩=some (.int .i64 0):=
 ⟨h.root 0 _ rfl,h.root 1 _ rfl,h.root 2 _ rfl,h.root 3 _ rfl,h.root 4 _ rfl⟩
end
section
open Go.RowKit Go.Shelf
variable {t:TypeId} {tl:List Value} {B:Nat} {N:Nat} {p:Nat} {w:World} {v:DV} {d:Diag}
theorem xe4_0 {p:Prop} (h:p:=by
 clear hst hok hl hK hU hBk hAp
 go_wp2_with (first|(go_at_call 111;(with_reducible refine H.mono ?_);rintro e w2 ⟨rfl,hK3,hU3⟩;clear H;have hB3:=hB2.upd hA2 hU3;have hA3:=hA2.upd hU3;have hU4:=hU2.trans hU3;clear hB2 hA2 hU2 hK2))
 go_roundg (m-(k+1))
 case measure=>omega
 exact⟨k+1,s2,oM,Nat.le_refl _,by go_num,hK3,hU4,hB3,hA3,hP.out.trans HST.out.1,HST.out.2⟩):p:=h
theorem power81 (h:WK t tl B w p v d) (hG:Glob N w) (hN:N≤B) (n:Int) (hn:-10000≤n) (hn1:n≤10000) (hc2:d.sc.check=0):
  Calls Tryz.prog 81 #[pt p 0,n] w fun e w'=>e= .returned (.int .i64 (d.sc.power n).2)∧WK t tl B w' p v {d with sc:=(d.sc.power n).1}∧Upd p v w v w':=by
 have r_c:=hG.roots
 by_cases hneg:n<0
 · have hBk:Blk (w.alloc (.cells #[.int .i64 1, .int .i64 0, .int .i64 0, .int .i64 0, .int .i64 1] 26)) w.heap.size (numC Num.rhalf) 26:=Blk.new _ _ _;have hK1:=h.alloc (.cells #[.int .i64 1, .int .i64 0, .int .i64 0, .int .i64 0, .int .i64 1] 26);have hU1:=(Upd.refl p v w).alloc (.cells #[.int .i64 1, .int .i64 0, .int .i64 0, .int .i64 0, .int .i64 1] 26);have hAp:=h.new_aprt (.cells #[.int .i64 1, .int .i64 0, .int .i64 0, .int .i64 0, .int .i64 1] 26);have hm:∃m:Nat,-n=(m:Int)∧m≤10000∧n.natAbs=m:=⟨n.natAbs,oM,oM,rfl⟩;obtain⟨m,hm1,hm2,hm3⟩:=hm;obtain rfl:n=-(m:Int):=oM
   clear hm1
   have HP:Aside (d.sc.power (-(m:Int))=Num.powP m Num.rhalf d.sc):=by
    show d.sc.power (-(m:Int))=_
    unfold Num.power;rw[hm3,if_pos hneg]
   have hW:w.heap.size+1≤(w.alloc (.cells #[.int .i64 1, .int .i64 0, .int .i64 0, .int .i64 0, .int .i64 1] 26)).heap.size:=by simp
   have HC:Aside (d.sc.check=0):=hc2;have hm0:0<m:=oM
   clear hc2 hm3;go_enter Tryz.func81,Tryz.ntmps81
   go_wp2_with fail
   clear r_c;generalize w.alloc (.cells #[.int .i64 1, .int .i64 0, .int .i64 0, .int .i64 0, .int .i64 1] 26)=W0 at *
   go_loopg [15] m (fun gg s15 wr=>∃(k:Nat) (s:Num),k≤m∧m-k≤gg∧s15=k∧WK t tl B wr p v {d with sc:=s}∧Upd p v w v wr∧Blk wr w.heap.size (numC Num.rhalf) 26∧Aprt w.heap.size p v wr∧Aside (Num.powP m Num.rhalf d.sc=Num.powP (m-k) Num.rhalf s)∧Aside (s.check=0))
   case atStart=>exact⟨0,d.sc,Nat.zero_le _,oM,rfl,hK1,hU1,hBk,hAp,rfl,HC⟩
   clear hK1 hU1 hBk hAp;obtain⟨k,s,hk,hg,rfl,hK,hU,hBk,hAp,hP,hC⟩:=hrel
   by_cases hlt:k<m
   · have hltz:(k:Int)<(m:Int):=oM
     have hs0:0≤(s.mulX Num.rhalf).k:=by
      have:=(Num.check_zero.1 hC.out).1;show 0≤s.k+Num.rhalf.k
      have:0≤Num.rhalf.k:=by decide
      omega
     have hl:=Num.least_eq (s.mulX Num.rhalf) hs0
     have hst:Aside (Num.powP (m-k) Num.rhalf s=if (s.mulX Num.rhalf).form.check=0 then Num.powP (m-(k+1)) Num.rhalf (s.mulX Num.rhalf).form else(s,8)):=by
      show _=_
      rw[show m-k=(m-(k+1))+1 by omega];rfl
     have y_c:=hBk.five;have hB2:=hBk.alloc (.cells #[Num.rhalf.a,Num.rhalf.b,Num.rhalf.c,Num.rhalf.d,Num.rhalf.k] 26);have hK2:=hK.alloc (.cells #[Num.rhalf.a,Num.rhalf.b,Num.rhalf.c,Num.rhalf.d,Num.rhalf.k] 26);have hU2:=hU.alloc (.cells #[Num.rhalf.a,Num.rhalf.b,Num.rhalf.c,Num.rhalf.d,Num.rhalf.k] 26);have hA2:=hAp.alloc (.cells #[Num.rhalf.a,Num.rhalf.b,Num.rhalf.c,Num.rhalf.d,Num.rhalf.k] 26);have hq:=hK.new_aprt (.cells #[Num.rhalf.a,Num.rhalf.b,Num.rhalf.c,Num.rhalf.d,Num.rhalf.k] 26);have H:=scale111 hK2 Num.rhalf wr.heap.size 1 hq (Blk.new wr _ _) dE hC.out
     by_cases hok:(s.mulX Num.rhalf).form.check=0
     · rw[if_pos hok]at hl;rw[hl]at H;simp only[if_true]at H
       have HST:Aside (Num.powP (m-k) Num.rhalf s=Num.powP (m-(k+1)) Num.rhalf (s.mulX Num.rhalf).form∧(s.mulX Num.rhalf).form.check=0):=by
        have:=hst.out;rw[if_pos hok]at this;exact⟨this,hok⟩
       generalize (s.mulX Num.rhalf).form=s2 at *;exact xe4_0
     rw[if_neg hok]at hl;rw[hl]at H
     have HST:Aside (Num.powP m Num.rhalf d.sc=(s,8)):=by
      have:=hst.out;rw[if_neg hok]at this;exact hP.out.trans this
     clear hst hok hl hK hU hBk hAp
     go_wp2_with (first|(go_at_call 111;(with_reducible refine H.mono ?_);rintro e w2 ⟨rfl,hK3,hU3⟩;clear H;have hU4:=hU2.trans hU3;clear hB2 hA2 hU2 hK2))
     go_ret
     rw[HP.out,HST.out];exact⟨rfl,hK3,hU4⟩
   have hltz:¬(k:Int)<(m:Int):=oM
   have hkm:m-k=0:=oM
   have HE:Aside (Num.powP m Num.rhalf d.sc=(s,0)):=by
    have:=hP.out;rw[hkm]at this;exact this
   clear hP
   go_wp2
   go_ret
   rw[HP.out,HE.out];exact⟨rfl,hK,hU⟩
 have hBk:Blk (w.alloc (.cells #[.int .i64 0, .int .i64 1, .int .i64 0, .int .i64 (-1), .int .i64 0] 26)) w.heap.size (numC Num.root) 26:=Blk.new _ _ _;have hK1:=h.alloc (.cells #[.int .i64 0, .int .i64 1, .int .i64 0, .int .i64 (-1), .int .i64 0] 26);have hU1:=(Upd.refl p v w).alloc (.cells #[.int .i64 0, .int .i64 1, .int .i64 0, .int .i64 (-1), .int .i64 0] 26);have hAp:=h.new_aprt (.cells #[.int .i64 0, .int .i64 1, .int .i64 0, .int .i64 (-1), .int .i64 0] 26);have hm:∃m:Nat,n=(m:Int)∧m≤10000∧n.natAbs=m:=⟨n.natAbs,oM,oM,rfl⟩;obtain⟨m,hm1,hm2,hm3⟩:=hm;obtain rfl:n=(m:Int):=oM
 clear hm1
 have HP:Aside (d.sc.power ((m:Int))=Num.powP m Num.root d.sc):=by
  show d.sc.power ((m:Int))=_
  unfold Num.power;rw[hm3,if_neg hneg]
 have hW:w.heap.size+1≤(w.alloc (.cells #[.int .i64 0, .int .i64 1, .int .i64 0, .int .i64 (-1), .int .i64 0] 26)).heap.size:=by simp
 have HC:Aside (d.sc.check=0):=hc2;clear hc2 hm3;go_enter Tryz.func81,Tryz.ntmps81
 go_wp2_with fail
 clear r_c;generalize w.alloc (.cells #[.int .i64 0, .int .i64 1, .int .i64 0, .int .i64 (-1), .int .i64 0] 26)=W0 at *
 go_loopg [15] m (fun gg s15 wr=>∃(k:Nat) (s:Num),k≤m∧m-k≤gg∧s15=k∧WK t tl B wr p v {d with sc:=s}∧Upd p v w v wr∧Blk wr w.heap.size (numC Num.root) 26∧Aprt w.heap.size p v wr∧Aside (Num.powP m Num.root d.sc=Num.powP (m-k) Num.root s)∧Aside (s.check=0))
 case atStart=>exact⟨0,d.sc,Nat.zero_le _,oM,rfl,hK1,hU1,hBk,hAp,rfl,HC⟩
 clear hK1 hU1 hBk hAp;obtain⟨k,s,hk,hg,rfl,hK,hU,hBk,hAp,hP,hC⟩:=hrel
 by_cases hlt:k<m
 · have hltz:(k:Int)<(m:Int):=oM
   have hs0:0≤(s.mulX Num.root).k:=by
    have:=(Num.check_zero.1 hC.out).1;show 0≤s.k+Num.root.k
    have:0≤Num.root.k:=by decide
    omega
   have hl:=Num.least_eq (s.mulX Num.root) hs0
   have hst:Aside (Num.powP (m-k) Num.root s=if (s.mulX Num.root).form.check=0 then Num.powP (m-(k+1)) Num.root (s.mulX Num.root).form else(s,8)):=by
    show _=_
    rw[show m-k=(m-(k+1))+1 by omega];rfl
   have y_c:=hBk.five;have hB2:=hBk.alloc (.cells #[Num.root.a,Num.root.b,Num.root.c,Num.root.d,Num.root.k] 26);have hK2:=hK.alloc (.cells #[Num.root.a,Num.root.b,Num.root.c,Num.root.d,Num.root.k] 26);have hU2:=hU.alloc (.cells #[Num.root.a,Num.root.b,Num.root.c,Num.root.d,Num.root.k] 26);have hA2:=hAp.alloc (.cells #[Num.root.a,Num.root.b,Num.root.c,Num.root.d,Num.root.k] 26);have hq:=hK.new_aprt (.cells #[Num.root.a,Num.root.b,Num.root.c,Num.root.d,Num.root.k] 26);have H:=scale111 hK2 Num.root wr.heap.size 1 hq (Blk.new wr _ _) dE hC.out
   by_cases hok:(s.mulX Num.root).form.check=0
   · rw[if_pos hok]at hl;rw[hl]at H;simp only[if_true]at H
     have HST:Aside (Num.powP (m-k) Num.root s=Num.powP (m-(k+1)) Num.root (s.mulX Num.root).form∧(s.mulX Num.root).form.check=0):=by
      have:=hst.out;rw[if_pos hok]at this;exact⟨this,hok⟩
     generalize (s.mulX Num.root).form=s2 at *;exact xe4_0
   rw[if_neg hok]at hl;rw[hl]at H
   have HST:Aside (Num.powP m Num.root d.sc=(s,8)):=by
    have:=hst.out;rw[if_neg hok]at this;exact hP.out.trans this
   clear hst hok hl hK hU hBk hAp
   go_wp2_with (first|(go_at_call 111;(with_reducible refine H.mono ?_);rintro e w2 ⟨rfl,hK3,hU3⟩;clear H;have hU4:=hU2.trans hU3;clear hB2 hA2 hU2 hK2))
   go_ret
   rw[HP.out,HST.out];exact⟨rfl,hK3,hU4⟩
 have hltz:¬(k:Int)<(m:Int):=oM
 have hkm:m-k=0:=oM
 have HE:Aside (Num.powP m Num.root d.sc=(s,0)):=by
  have:=hP.out;rw[hkm]at this;exact this
 clear hP
 go_wp2
 go_ret
 rw[HP.out,HE.out];exact⟨rfl,hK,hU⟩
end
section
open Go.RowKit Go.Shelf
variable {α:Type} {B:Nat} {N:Nat} {p:Nat} {w:World} {v:DV} {d:Diag}
def Num.mulS (s x:Num):Num:=if (s.mulX x).least.2=0 then(s.mulX x).least.1 else s
theorem len_put (d:Diag) (x:Int) (y:Bool) (k q:Int):(d.put x y k q).sp.length=d.sp.length+1∧(d.put x y k q).ln.length=d.ln.length+1:=by simp[Diag.put]
theorem len_set (l:List α) (i:Nat) (y:α):(l.set i y).length=l.length:=by simp
def Diag.two (d:Diag) (px:Int) (ph:Bool) (qx:Int) (qh:Bool) (other:Int) (hat:Bool):Diag:={(d.put px ph 1 0).put qx qh other 0 with ln:=((d.put px ph 1 0).put qx qh other 0).ln++[⟨(d.sp.length:Int),((d.put px ph 1 0).sp.length:Int),hat⟩],sc:=d.sc.mulS Num.root}
theorem two113 {lb ln lc hb hn hc:Nat} {la:List Int} {ha:List Bool} (h:DWk B w p v d lb ln lc hb hn hc la ha) (hG:Glob N w) (hN:N≤B) (hBw:B≤w.heap.size) (h1:d.sp.length≤9000) (h2:d.ln.length≤9000) (hl:ln≤10000) (hh:hn≤10000) (hc2:d.sc.check=0) (i k:Nat) (other:Int) (hat:Bool) {px qx:Int} {ph qh:Bool} (hx:la[i]?=some px) (hy:ha[i]?=some ph) (hqx:(la.set i d.sp.length)[k]?=some qx) (hqy:(ha.set i false)[k]?=some qh):
  Calls Tryz.prog 113 #[pt p 0,i,k,other, .bool hat] w fun e w'=>(∃z,e= .returned z)∧∃v',DWk B w' p v' (d.two px ph qx qh other hat) lb ln lc hb hn hc ((la.set i d.sp.length).set k (d.put px ph 1 0).sp.length) ((ha.set i false).set k false)∧DUpd p lb hb v w v' w':=by
 have H1:=put69 h hBw oM oM hl hh i 1 0 hx hy;have HLEN:Aside (d.sp.length≤9000∧d.ln.length≤9000):=⟨h1,h2⟩;have HQX:=Lib.hid hqx;have HQY:=Lib.hid hqy;have HG:=Lib.hid hG;have HH:=Lib.hid h;have HC2:=Lib.hid hc2;have HLP:Aside ((d.put px ph 1 0).sp.length=d.sp.length+1∧(d.put px ph 1 0).ln.length=d.ln.length+1):=len_put _ _ _ _ _;clear h hG h1 h2 hx hy hqx hqy hc2;go_enter Tryz.func113,Tryz.ntmps113
 go_upto_region 2 with(first
   | (go_at_call 69;(with_reducible refine H1.mono ?_);rintro e w1 ⟨v1,rfl,hD1,hU1⟩;clear H1
      have hB1:B≤w1.heap.size:=Nat.le_trans hBw hU1.t.size;have H2:=put69 hD1 hB1 (by have:=HLEN.out;have:=HLP.out;omega) (by have:=HLEN.out;have:=HLP.out;omega) hl hh k other 0 HQX.out HQY.out;have HD1:=Lib.hid hD1;have HU1:=Lib.hid hU1
      clear hD1 hU1)
   | (go_at_call 69;(with_reducible refine H2.mono ?_);rintro e w2 ⟨v2,rfl,hD2,hU2⟩;clear H2
      have hBw2:B≤w2.heap.size:=Nat.le_trans hB1 hU2.t.size;have HD2:=Lib.hid hD2;have HU2:=Lib.hid (HU1.out.trans hU2);obtain⟨c0,c1,c2,c3,c4,c5,c6,c7,c8,cf⟩:=hD2.wk.nine
      clear hD2 hU2))
 have hn2:v2.n2≤100000:=by
  have h9:=HD2.out.wk.own.n2;have h8:=len_put (d.put px ph 1 0) qx qh other 0;have:=HLEN.out;have:=HLP.out;omega
 have HB2:Aside (Below w2.heap.size w2 (w2.alloc (.cells #[.int .i64 (d.sp.length:Int), .int .i64 ((d.put px ph 1 0).sp.length:Int), .bool hat] 77))):=bR.alloc (Nat.le_refl _) _;have HBB:Aside (B≤(w2.alloc (.cells #[.int .i64 (d.sp.length:Int), .int .i64 ((d.put px ph 1 0).sp.length:Int), .bool hat] 77)).heap.size):=Nat.le_trans hBw2 HB2.out.size;have HO2:=Lib.hid ((HD2.out.wk).below HB2.out).own.ln;have HR2:Aside (Rd 3 lnC (w2.alloc (.cells #[.int .i64 (d.sp.length:Int), .int .i64 ((d.put px ph 1 0).sp.length:Int), .bool hat] 77)) (some ⟨w2.heap.size,0,none⟩) 1 [(⟨(d.sp.length:Int),((d.put px ph 1 0).sp.length:Int),hat⟩:Line)]):=Rd.one (Blk.new _ _ _)
 go_upto_region 3 with (at_builtin;(refine wpList_append_rows rfl (.tmp 25) (.tmp 30) 23 rfl 77 3 _ 24 inf77 Tryz.underlying23 rfl dE lnC_len lnC_one dE B _ _ _ rfl _ HO2.out _ _ _ rfl (fun h=>nomatch h) [(⟨(d.sp.length:Int),((d.put px ph 1 0).sp.length:Int),hat⟩:Line)] HR2.out oM dE HBB.out ?_)
                        intro v9 w9 hAp;obtain⟨A',c',rfl,hown,htch,hnb⟩:=hAp;have hT9:Touch (ownB v2.A2) w2 w9:=((Touch.of_below HB2.out).mono sI).trans htch (fun x hx=> .inl hx);have hput:=(HD2.out.wk).putLn hT9 (fun b hb=> .inl hb) hown (fun b hb=>(hnb b hb).imp id (Nat.le_trans HB2.out.size));have hbk:=(HD2.out.wk).blk.touch hT9 (fun hm=>(HD2.out.wk).np (by simp[blks,hm]));have k0:=hbk.cell 1 _ rfl;have kf:=hbk.free 1;have HPUT:=Lib.hid hput
                        clear hown htch hnb hT9 hput hbk)
 obtain⟨W3,hW3⟩:∃W3,W3=w9.setCell ⟨p,1,none⟩ (.slice A' (v2.n2+1) c'):=⟨_,rfl⟩;obtain⟨v3,hv3⟩:∃v3:DV,v3={v2 with A2:=A',n2:=v2.n2+1,c2:=c'}:=⟨_,rfl⟩;obtain⟨d3,hd3⟩:∃d3:Diag,d3={(d.put px ph 1 0).put qx qh other 0 with ln:=((d.put px ph 1 0).put qx qh other 0).ln++[⟨(d.sp.length:Int),((d.put px ph 1 0).sp.length:Int),hat⟩]}:=⟨_,rfl⟩;rw[←hW3];have hp:=HPUT.out;rw[←hW3,←hv3,←hd3]at hp;have HD3:=Lib.hid (HD2.out.upd hp.1 hp.2);have HU3:=Lib.hid (HU2.out.trans (DUpd.of_upd hp.2));have HE3:Aside ({d3 with sc:=d3.sc.mulS Num.root}=d.two px ph qx qh other hat):=by show _=_;subst hd3;rfl
 have HC3:Aside (d3.sc.check=0):=by show _=_;subst hd3;exact HC2.out
 have HG3:=Lib.hid (HG.out.below (HH.out.lows HU3.out hBw) hN);have HRT:Aside (∀u,Below W3.heap.size W3 u→u.cell? ⟨2,0,none⟩=some (.int .i64 0)∧u.cell? ⟨2,1,none⟩=some (.int .i64 1)∧u.cell? ⟨2,2,none⟩=some (.int .i64 0)∧u.cell? ⟨2,3,none⟩=some (.int .i64 (-1))∧u.cell? ⟨2,4,none⟩=some (.int .i64 0)):=fun u hu=>(HG3.out.below hu (by have:=HH.out.wk.lt;have:=HU3.out.t.size;have:=HG3.out.four;omega)).roots;clear hW3 hv3 hd3 hp HPUT k0 kf c0 c1 c2 c3 c4 c5 c6 c7 c8 cf
 refine wp_region_F [(36,6)] (fun l u=>l 5=false→Below W3.heap.size W3 u) (fun i u u'=>match i with|5=>Upd p v3 u v3 u'|_=>Below u.heap.size u u') (fun j x u=>match j with|0=>x 36=pt p 0|1=>x 37=pt p 0|2=>x 38=pt p 0|3=>x 39= .agg #[.int .i64 0, .int .i64 1, .int .i64 0, .int .i64 (-1), .int .i64 0]|4=>∃q,x 40= .slice (some ⟨q,0,none⟩) 1 1∧W3.heap.size≤q∧Blk u q (numC Num.root) 26|5=>WK 103 [.slice (some ⟨lb,0,none⟩) ln lc, .slice (some ⟨hb,0,none⟩) hn hc] B u p v3 {d3 with sc:=if (d3.sc.mulX Num.root).least.2=0 then(d3.sc.mulX Num.root).least.1 else d3.sc}∧Upd p v3 W3 v3 u|_=>True) ?h0 ?hkeep ?hstep ?d0
 case h0=>exact fun _=>bR.drew
 case hkeep=>
  intro j9 i9 x l u u' hj hi hpre ht hG hR
  by_cases h6:j9=4
  · subst h6;obtain⟨q9,h1,h2,h3⟩:=ht;refine⟨q9,h1,h2,?_⟩
    by_cases hi7:i9=5
    · subst hi7;have hR':Upd p v3 u v3 u':=hR;refine h3.touch hR'.t (fun hm=>?_)
      rcases List.mem_cons.1 hm with rfl|hm
      · have:=HD3.out.wk.lt;omega
      have:=(HD3.out.wk.own.lt q9 hm).2;omega
    exact h3.below (by have h9:=hR;split at h9<;>first|exact(hi7 rfl).elim|exact h9)
  by_cases h7:j9=5
  · subst h7
    by_cases hi7:i9=5
    · subst hi7;rw[hj]at hi;cases hi
    have hR':Below u.heap.size u u':=by have h9:=hR;split at h9<;>first|exact(hi7 rfl).elim|exact h9
    exact⟨ht.1.below hR',ht.2.then_below hR'⟩
  exact(by have h9:=ht;clear ht;split at h9<;>first|exact h9|exact(h6 rfl).elim|exact(h7 rfl).elim)
 case hstep=>
  dsimp only[fil,fls,fl,List.toList_toArray,Nat.reduceAdd];refine⟨?_,?_,?_,?c3,?c4,?c5,trivial⟩
  all_goals intro l x u hG hno hli hpre hd K hK
  case c3=>
   clear hd;have r_c:=HRT.out u (hG (hno 5 kR));go_simp
   exact hK _ _ rfl bR (fun h=>hG sH)
  case c4=>
   have e3:x 39= .agg #[.int .i64 0, .int .i64 1, .int .i64 0, .int .i64 (-1), .int .i64 0]:=hd ⟨3, .data⟩ sI rfl;clear hd;simp only[e3]at hK ⊢;have hBl:=hG (hno 5 kR);go_simp
   exact hK _ _ ⟨_,rfl,hBl.size,Blk.new _ _ _⟩ (bR.alloc (Nat.le_refl _) _) (fun _=>hBl.alloc hBl.size _)
  case c5=>
   have e2:x 38=pt p 0:=hd ⟨2, .data⟩ sI rfl;have e4:∃q,x 40= .slice (some ⟨q,0,none⟩) 1 1∧W3.heap.size≤q∧Blk u q (numC Num.root) 26:=hd ⟨4, .data⟩ sI rfl;clear hd;simp only[e2]at hK ⊢;have hBl:=hG hli;obtain⟨q9,h40,hq9,hB9⟩:=e4;generalize k40:x 40=z40 at h40 hK ⊢;subst h40;have H111:=scale111 (HD3.out.wk.below hBl) Num.root q9 1 ⟨hB9.lt,(by have:=HD3.out.wk.lt;omega),fun hm=>by have:=(HD3.out.wk.own.lt q9 hm).2;omega⟩ hB9 dE HC3.out;go_simp
   (with_reducible refine H111.mono ?_);rintro e u2 ⟨rfl,hK9,hU9⟩
   exact hK _ _ ⟨hK9,(Upd.of_touch ((Touch.of_below hBl).mono sI)).trans hU9⟩ hU9 (fun h=>by simp at h)
  all_goals
   dsimp only at hd;simp only[eB]at hd
   try simp only[hd]at hK ⊢
   go_simp
   exact hK _ _ rfl bR (fun h=>hG sH)
 dsimp only[fil,fls,fl,List.toList_toArray,Nat.reduceAdd];rintro l_1 x3 u3 hall hG ⟨-,-,-,-,-,⟨hK9,hU9⟩,-⟩;clear hall hG;have hD9:=HD3.out.upd hK9 hU9;have hU9':=HU3.out.trans (DUpd.of_upd hU9);have HD9:=Lib.hid hD9;have HU9:=Lib.hid hU9';have HE9:=Lib.hid HE3.out;clear hK9 hU9 hD9 hU9'
 go_wp2
 refine bodyPost_end (v:= .tuple #[]) (by simp[results,Tryz.results113,go_sem]) rfl ?_
 refine⟨⟨_,rfl⟩,v3,?_,HU9.out⟩
 have h9:=HD9.out;rw[show ({d3 with sc:=if (d3.sc.mulX Num.root).least.2=0 then(d3.sc.mulX Num.root).least.1 else d3.sc}:Diag)={d3 with sc:=d3.sc.mulS Num.root} from rfl,HE9.out]at h9;exact h9
end
section
variable {α:Type} {k:Nat}
def atsF (n:Int):Nat→List Line→List (Nat × Line)
 |_,[]=>[]
 |i,l::L=>if l.at n=true then(i,l)::atsF n (i+1) L else atsF n (i+1) L
def ats (n:Int) (L:List Line):List (Nat × Line):=atsF n 0 L
theorem atsF_snoc (n:Int) (x:Line):∀(L:List Line) (i:Nat),atsF n i (L++[x])=atsF n i L++(if x.at n=true then[(i+L.length,x)] else[])
 |[],i=>by simp only[List.nil_append,atsF,List.length_nil,Nat.add_zero]
 | l::L,i=>by
  simp only[List.cons_append,atsF];rw[atsF_snoc n x L (i+1)];have e:i+1+L.length=i+(l::L).length:=by simp;omega
  rw[e]
  split<;>simp
theorem take_snoc' {L:List α} {x:α} (h:L[k]?=some x):L.take (k+1)=L.take k++[x]:=by
 rw[List.take_add_one,h];rfl
theorem ats_take {n:Int} {L:List Line} {x:Line} (h:L[k]?=some x):ats n (L.take (k+1))=ats n (L.take k)++(if x.at n=true then[(k,x)] else[]):=by
 unfold ats;rw[take_snoc' h,atsF_snoc];have hk:=(List.getElem?_eq_some_iff.1 h).1;simp only[Nat.zero_add,List.length_take,Nat.min_eq_left (Nat.le_of_lt hk)]
theorem atsF_mem {n:Int}:∀{L:List Line} {i:Nat} {y:Nat × Line},y∈atsF n i L→i≤y.1∧y.1<i+L.length
 |[],i,y,h=>by simp[atsF]at h
 | l::L,i,y,h=>by
  simp only[atsF]at h
  split at h
  · rcases List.mem_cons.1 h with rfl|h
    · simp
    have:=atsF_mem h;simp;omega
  have:=atsF_mem h;simp;omega
theorem ats_lt {n:Int} {L:List Line} {y:Nat × Line} (h:y∈ats n (L.take k)):y.1<k:=by
 have:=atsF_mem h;simp at this
 omega
theorem atsF_len (n:Int):∀(L:List Line) (i:Nat),(atsF n i L).length≤L.length
 |[],i=>by simp[atsF]
 | l::L,i=>by
  simp only[atsF];have:=atsF_len n L (i+1)
  split<;>simp<;>omega
theorem ats_len (n:Int) (L:List Line):(ats n L).length≤L.length:=atsF_len n L 0
theorem atsF_snd (n:Int):∀(L:List Line) (i:Nat),(atsF n i L).map (·.2)=L.filter (·.at n)
 |[],i=>rfl
 | l::L,i=>by
  simp only[atsF,List.filter_cons]
  split<;>simp[atsF_snd n L (i+1)]
theorem ats_snd (n:Int) (L:List Line):(ats n L).map (·.2)=L.filter (·.at n):=atsF_snd n L 0
theorem atsF_get {n:Int}:∀{L:List Line} {i:Nat} {y:Nat × Line},y∈atsF n i L→L[y.1-i]?=some y.2∧y.2.at n=true∧i≤y.1
 |[],i,y,h=>by simp[atsF]at h
 | l::L,i,y,h=>by
  simp only[atsF]at h
  by_cases hl:l.at n=true
  · rw[if_pos hl]at h
    rcases List.mem_cons.1 h with rfl|h
    · simp[hl]
    obtain⟨h1,h2,h3⟩:=atsF_get h;rw[show y.1-i=(y.1-(i+1))+1 by omega];exact⟨by simpa using h1,h2,oM⟩
  rw[if_neg hl]at h;obtain⟨h1,h2,h3⟩:=atsF_get h;rw[show y.1-i=(y.1-(i+1))+1 by omega];exact⟨by simpa using h1,h2,oM⟩
def flips:List Line→List (Nat × Line)→List Line
 |L,[]=>L
 |L,x::l=>flips (if x.2.loop=true then L else L.set x.1 x.2.flip) l
theorem flips_snoc (x:Nat × Line):∀(l:List (Nat × Line)) (L:List Line),flips L (l++[x])=if x.2.loop=true then flips L l else(flips L l).set x.1 x.2.flip
 |[],L=>by simp[flips]
 | y::l,L=>by
  simp only[List.cons_append,flips];exact flips_snoc x l _
theorem flips_len:∀(l:List (Nat × Line)) (L:List Line),(flips L l).length=L.length
 |[],L=>rfl
 | y::l,L=>by
  simp only[flips];rw[flips_len l]
  split<;>simp
theorem flips_other {j:Nat}:∀(l:List (Nat × Line)) (L:List Line),(∀x∈l,x.1≠j)→(flips L l)[j]?=L[j]?
 |[],L,_=>rfl
 | y::l,L,h=>by
  simp only[flips];rw[flips_other l _ (fun x hx=>h x (by simp[hx]))]
  split
  · rfl
  rw[List.getElem?_set_ne (h y sI)]
def turnL (n:Int) (l:Line):Line:=if l.at n=true∧l.loop=false then l.flip else l
theorem flips_atsF (n:Int):∀(L K:List Line),flips (K++L) (atsF n K.length L)=K++L.map (turnL n)
 |[],K=>by simp[atsF,flips]
 | l::L,K=>by
  have ih:=fun l'=>flips_atsF n L (K++[l']);simp only[List.length_append,List.length_cons,List.length_nil,Nat.zero_add,List.append_assoc,List.cons_append,List.nil_append]at ih;simp only[atsF,List.map_cons]
  by_cases ha:l.at n=true
  · rw[if_pos ha];simp only[flips]
    by_cases hl:l.loop=true
    · rw[if_pos hl,ih l];simp[turnL,hl]
    rw[if_neg hl,List.set_append_right _ _ (Nat.le_refl _)];simp only[Nat.sub_self,List.set_cons_zero];rw[ih l.flip];simp only[Bool.not_eq_true]at hl;simp[turnL,ha,hl]
  rw[if_neg ha,ih l];simp only[Bool.not_eq_true]at ha;simp[turnL,ha]
theorem flips_ats (n:Int) (L:List Line):flips L (ats n L)=L.map (turnL n):=by
 have:=flips_atsF n L [];simpa [ats] using this
def Diag.leadA (d:Diag) (n but:Int) (never:List Int):List (Nat × Line)→List Int→Option (List Int)
 |[],l=>some l
 | (i,x)::xs,l=>if (i:Int)=but then Diag.leadA d n but never xs l
  else if d.leadOk n never l x=true then Diag.leadA d n but never xs (l++[x.other n]) else none
theorem leadA_snoc (d:Diag) (n but:Int) (never:List Int) (y:Nat × Line):∀(xs:List (Nat × Line)) (l:List Int),d.leadA n but never (xs++[y]) l=(d.leadA n but never xs l).bind fun l'=>d.leadA n but never [y] l'
 |[],l=>rfl
 | (i,x)::xs,l=>by
  simp only[List.cons_append,Diag.leadA]
  split
  · exact leadA_snoc d n but never y xs l
  split
  · exact leadA_snoc d n but never y xs _
  rfl
theorem leadA_append_none (d:Diag) (n but:Int) (never:List Int) (ys:List (Nat × Line)):∀(xs:List (Nat × Line)) (l:List Int),d.leadA n but never xs l=none→d.leadA n but never (xs++ys) l=none
 |[],l,h=>by cases h
 | (i,x)::xs,l,h=>by
  simp only[List.cons_append,Diag.leadA]at h ⊢
  split at h
  · rename_i hi;rw[if_pos hi];exact leadA_append_none d n but never ys xs l h
  rename_i hi
  rw[if_neg hi]
  split at h
  · rename_i ho;rw[if_pos ho];exact leadA_append_none d n but never ys xs _ h
  rename_i ho;rw[if_neg ho]
theorem leadL_atsF (d:Diag) (n but:Int) (never:List Int):∀(L:List Line) (i:Nat) (l:List Int),d.leadL n but never (i:Int) L l=d.leadA n but never (atsF n i L) l
 |[],i,l=>rfl
 | x::L,i,l=>by
  have ih:=fun l'=>leadL_atsF d n but never L (i+1) l';simp only[Int.natCast_add,Int.cast_ofNat_Int]at ih;simp only[Diag.leadL,atsF]
  by_cases ha:x.at n=true
  · rw[if_pos ha];simp only[Diag.leadA,ha,Bool.true_eq_false,false_or]
    split
    · exact ih l
    split
    · exact ih _
    rfl
  rw[if_neg ha,if_pos (.inl (by simpa using ha))];exact ih l
theorem leadL_ats (d:Diag) (n but:Int) (never:List Int) (L:List Line):d.leadL n but never 0 L []=d.leadA n but never (ats n L) []:=leadL_atsF d n but never L 0 []
theorem leadA_len (d:Diag) (n but:Int) (never:List Int):∀(xs:List (Nat × Line)) (l l':List Int),d.leadA n but never xs l=some l'→l'.length≤l.length+xs.length
 |[],l,l',h=>by cases h;simp
 | (i,x)::xs,l,l',h=>by
  simp only[Diag.leadA]at h
  split at h
  · have:=leadA_len d n but never xs l l' h;simp;omega
  split at h
  · have:=leadA_len d n but never xs _ l' h;simp at this ⊢;omega
  cases h
theorem atsF_append (n:Int) (B:List Line):∀(A:List Line) (i:Nat),atsF n i (A++B)=atsF n i A++atsF n (i+A.length) B
 |[],i=>by simp[atsF]
 | l::A,i=>by
  simp only[List.cons_append,atsF];rw[atsF_append n B A (i+1)];have e:i+1+A.length=i+(l::A).length:=by simp;omega
  rw[e]
  split<;>simp
theorem ats_split (n:Int) (L:List Line) (k:Nat):∃ys,ats n L=ats n (L.take k)++ys:=by
 refine⟨atsF n (0+(L.take k).length) (L.drop k),?_⟩
 unfold ats;rw[←atsF_append,List.take_append_drop]
end
section
open Go.RowKit
variable {α:Type} {N:Nat} {w:World}
def SeqStopsX {α:Type} (F:Fence) (n:Nat) (P:Program) (g:Nat) (lb:Array Value) (encs:α→Array Value) (X:List α→World→Prop) (S Sp:List α→Prop) (N:Nat) (w:World):Prop:=
 ∀(l:Nat) (J Jx:List α→World→Prop) (W:World),Below w.heap.size w W→AbidesFrom W.heap.size J→AbidesFrom W.heap.size Jx→(∀pre W',J pre W'→X pre W')→
  (∀pre x W1,J pre W1→pre.length<N→YieldAt F (n-1) P l (encs x) W1 fun e W'=>(e= .returned (.bool true)∧J (pre++[x]) W')∨(e= .returned (.bool false)∧Jx (pre++[x]) W'))→
  J [] W→
  CallsIn F n P g (#[.func (.yield l) #[] #[]]++lb) W fun e W'=>(∃v,e= .returned v)∧((∃xs,S xs∧J xs W')∨(∃pre,Sp pre∧Jx pre W'))
def postX {α:Type} (B:Nat) (I:List α→World→Prop) (Ix:Code→List α→World→Prop) (xs:List α) (W:World):Exit→Act→World→Prop
 | .normal,_,W'=>KeepsFrom B W W'∧I xs W'
 | .ret,_,W'=>KeepsFrom B W W'∧Ix .ret xs W'
 | .exit id,_,W'=>KeepsFrom B W W'∧Ix (.exit id) xs W'
 |_,_,_=>False
variable {F:Fence} {n:Nat} {P:Program}
theorem wpIn_rangeX {g:Operand} {ps:Array Tmp} {assign body:Code} {Q:Exit→Act→World→Prop} {a:Act}
  (hro:F.round=none) (h1:1≤n) {gf:Nat} {lb:Array Value} (hg:a.eval g= .func (.func gf) #[] lb) (hFg:F.fn gf) (eg:∀args w,(callFunc gf args).run P w= .ok (.enter gf args) w)
  {encs:α→Array Value} {X:List α→World→Prop} {S Sp:List α→Prop} {w0:World} (hseq:SeqStopsX F (n-1) P gf lb encs X S Sp N w0) (hb0:Below w0.heap.size w0 w) (hps:∀x,(encs x).size=ps.size)
  (I:List α→World→Prop) (Ix:Code→List α→World→Prop) (hI:OwnFrom w.heap.size I) (hIx:∀c,OwnFrom w.heap.size (Ix c)) (hX:∀pre W,I pre W→X pre W) (h0:I [] w) (Ax:α→Act→World→Prop) (hAx:∀a',OwnFrom w.heap.size (fun x W=>Ax x a' W))
  (hassign:∀(l:Nat) (pre:List α) (x:α) (W:World) (K:Act→World→Prop),I pre W→(∀a' W',KeepsFrom w.heap.size W W'→I pre W'→Ax x a' W'→K a' W')→
    assign.wpIn (F.inRound l) (n-1-1) P (Exit.then K (fun _ _ _=>False)) {tmps:=(ps.zip (encs x)).foldl (fun t (p,v)=>t.setIfInBounds p v) a.tmps,defers:=[]} W)
  (hbody:∀(l:Nat) (pre:List α) (x:α) (a':Act) (W:World),I pre W→Ax x a' W→pre.length<N→body.wpIn (F.inRound l) (n-1-1) P (postX w.heap.size I Ix (pre++[x]) W) a' W)
  (hdone:∀(D:Nat) (xs:List α) (W:World),w.heap.size≤D→S xs→I xs W→W.heap[D]?=some (.deferred (some []))→Q .normal {a with defers:={target:= .collected D,args:=#[]}::a.defers} W)
  (hstop:∀(D:Nat) (c:Code) (pre:List α) (W:World),w.heap.size≤D→Sp pre→Ix c pre W→W.heap[D]?=some (.deferred (some []))→c.wpIn F n P Q {a with defers:={target:= .collected D,args:=#[]}::a.defers} W):
  (Code.rangeFunc g ps assign body).wpIn F n P Q a w:=by
 refine wpIn_rangeFunc fun fn hfn=>?_
 rw[hro];obtain⟨rec,hrec⟩:∃rec:LoopState→Option Code→Loop,rec=fun st pe=>{state:=st,pending:=pe,fn,tmps:=a.tmps,params:=ps,assign,body,defers:=w.heap.size}:=⟨_,rfl⟩;obtain⟨V,hV⟩:∃V,(w.alloc (.deferred (some []))).alloc (.loop (rec .ready none))=V:=⟨_,rfl⟩
 have hVl:V.heap[w.heap.size+1]?=some (.loop (rec .ready none)):=by
  have h:=World.alloc_heap_new (w.alloc (.deferred (some []))) (.loop (rec .ready none));rw[World.size_alloc,hV]at h;exact h
 have hVd:V.heap[w.heap.size]?=some (.deferred (some [])):=by
  rw[←hV,Below.heap_alloc _ _ _ sI];exact World.alloc_heap_new w _
 have hsz:V.heap.size=w.heap.size+2:=by rw[←hV];simp
 have hVb:Below w0.heap.size w0 V:=by
  rw[←hV];exact(hb0.alloc hb0.size _).alloc (by have:=hb0.size;simp;omega) _
 refine⟨w.heap.size+1,[{target:= .collected w.heap.size,args:=#[]}],V,{target:= .fn (.func gf) lb,args:=#[.func (.yield (w.heap.size+1)) #[] #[]]},V,gf,#[.func (.yield (w.heap.size+1)) #[] #[]]++lb,V,?_,?_,?_,?_,fun _=>h1,?_⟩
 · rw[←hV,hrec];exact run_enterLoop_outer _ _ _ _ _
 · simp only[resolve,hg];simp[go_sem]
 · intro f' hf';simp[Target.leads]at hf'
   subst hf';exact hFg
 · simp[invoke,go_sem,eg]
 have row:∀{A:World} {r:Option Nat},(∀k,r=some k→V.heap.size≤k∧∃o:Obj,A.heap[k]?=some o∧o.isWalk=true)→∀k,r=some k→w.heap.size≤k∧∃o:Obj,A.heap[k]?=some o∧o.isCells=false:=
  fun hr k e=>by
   obtain⟨hk,o,ho,hw⟩:=hr k e;exact⟨oM,o,ho,Obj.not_cells_of_walk hw⟩
 let J:List α→World→Prop:=fun pre W=>I pre W∧W.heap[w.heap.size+1]?=some (.loop (rec .ready none))∧W.heap[w.heap.size]?=some (.deferred (some []))
 let Jx:List α→World→Prop:=fun pre W=>∃c,Ix c pre W∧W.heap[w.heap.size+1]?=some (.loop (rec .done (some c)))∧W.heap[w.heap.size]?=some (.deferred (some []))
 have aJ:AbidesFrom V.heap.size J:=fun s A B r hs hg' hr=>
  ⟨hI s A B r hs.1 hg' (row hr),(grownBy_keeps hg' (fun k e=>(hr k e).2) hs.2.1 rfl).trans hs.2.1,(grownBy_keeps hg' (fun k e=>(hr k e).2) hs.2.2 rfl).trans hs.2.2⟩
 have aJx:AbidesFrom V.heap.size Jx:=fun s A B r hs hg' hr=>by
  obtain⟨c,hc,hl,hd⟩:=hs;exact⟨c,hIx c s A B r hc hg' (row hr),(grownBy_keeps hg' (fun k e=>(hr k e).2) hl rfl).trans hl,(grownBy_keeps hg' (fun k e=>(hr k e).2) hd rfl).trans hd⟩
 refine(hseq (w.heap.size+1) J Jx V hVb aJ aJx (fun pre W h=>hX pre W h.1) ?_ ⟨by rw[←hV];exact hI.alloc _ (hI.alloc _ h0),hVl,hVd⟩).mono ?_
 · rintro pre x W ⟨hi,hl,hd⟩ hlen;have hy:=run_yield (P:=P) (args:=encs x) hl (by rw[hrec];exact hps x);rw[hrec]at hy;refine⟨fn,_,assign,body,hy,roundIn_of_wpIn hfn (hassign _ pre x W _ hi fun a' W' hkW hi hax=>?_)⟩
   replace hl:=hkW.same _ _ oM hl rfl;replace hd:=hkW.same _ _ (Nat.le_refl _) hd rfl;have hlt:w.heap.size+1<W'.heap.size:=(Array.getElem?_eq_some_iff.1 hl).1;refine⟨_,run_beginRound hl (by rw[hrec]),?_⟩
   obtain⟨U,hU⟩:∃U,W'.putObj (w.heap.size+1) (.loop {rec .ready none with state:= .busy})=U:=⟨_,rfl⟩;have hUl:U.heap[w.heap.size+1]?=some (.loop {rec .ready none with state:= .busy}):=by rw[←hU];exact World.putObj_heap_same hlt
   have hUd:U.heap[w.heap.size]?=some (.deferred (some [])):=by rw[←hU];exact(World.putObj_heap_other oM).trans hd
   have hUi:I pre U:=by rw[←hU];exact hI.putObj _ hi oM hl rfl
   have hUx:Ax x a' U:=by rw[←hU];exact(hAx a').putObj _ hax oM hl rfl
   rw[hU]
   have fin:∀(jump:Option Code) (Z:World),KeepsFrom w.heap.size U Z→
       (Instr.endRound (w.heap.size+1) jump).run P Z= .ok (.bool jump.isNone) (Z.putObj (w.heap.size+1) (.loop (rec (if jump.isNone then .ready else .done) jump)))∧
       Z.heap[w.heap.size+1]?=some (.loop {rec .ready none with state:= .busy})∧
       (Z.putObj (w.heap.size+1) (.loop (rec (if jump.isNone then .ready else .done) jump))).heap[w.heap.size+1]?=some (.loop (rec (if jump.isNone then .ready else .done) jump))∧
       (Z.putObj (w.heap.size+1) (.loop (rec (if jump.isNone then .ready else .done) jump))).heap[w.heap.size]?=some (.deferred (some [])):=by
     intro jump Z hk;have hZ:=hk.same _ _ oM hUl rfl;have hr:=run_endRound (P:=P) jump hZ;rw[hrec]at hr hZ ⊢;exact⟨hr,hZ,World.putObj_heap_same (Array.getElem?_eq_some_iff.1 hZ).1,(World.putObj_heap_other oM).trans (hk.same _ _ (Nat.le_refl _) hUd rfl)⟩
   refine wpIn_mono (hbody _ pre x a' U hUi hUx hlen) ?_
   rintro e a3 Z hp
   cases e with
   | normal=>
    obtain⟨hr,hl3,hl4,hk4⟩:=fin none Z hp.1;exact⟨_,_,hr, .inl ⟨rfl,hI.putObj _ hp.2 oM hl3 rfl,hl4,hk4⟩⟩
   | ret=>
    obtain⟨hr,hl3,hl4,hk4⟩:=fin (some .ret) Z hp.1;exact⟨_,_,hr, .inr ⟨rfl, .ret,(hIx _).putObj _ hp.2 oM hl3 rfl,hl4,hk4⟩⟩
   | exit id=>
    obtain⟨hr,hl3,hl4,hk4⟩:=fin (some (.exit id)) Z hp.1;exact⟨_,_,hr, .inr ⟨rfl, .exit id,(hIx _).putObj _ hp.2 oM hl3 rfl,hl4,hk4⟩⟩
   |goto t=>exact hp.elim
   |panic ch=>exact hp.elim
   |outgrown=>exact hp.elim
 rintro e Z ⟨⟨v,rfl⟩,(⟨xs,hS,hi,hl,hd⟩|⟨pre,hSp,c,hi,hl,hd⟩)⟩
 · have hr:=run_endLoop (P:=P) hl (by rw[hrec];simp);rw[hrec]at hr;exact⟨none,_,hr,hdone _ xs _ (Nat.le_refl _) hS (hI.putObj _ hi oM hl rfl) ((World.putObj_heap_other oM).trans hd)⟩
 have hr:=run_endLoop (P:=P) hl (by rw[hrec];simp);rw[hrec]at hr;exact⟨some c,_,hr,hstop _ c pre _ (Nat.le_refl _) hSp ((hIx c).putObj _ hi oM hl rfl) ((World.putObj_heap_other oM).trans hd)⟩
end
end Go.Proofs.YtcoackmdmohnhaaGreatDoor
