/- Package zx: units. -/
import Derived.Test.YtcoackmdmohnhaaGreatDoorV10
set_option linter.unusedVariables false
set_option linter.unusedSimpArgs false
set_option maxRecDepth 100000
set_option maxHeartbeats 2000000
namespace Go.Proofs.YtcoackmdmohnhaaGreatDoor
open Go.RowKit Go.Shelf
variable {α:Type} {enc:α→List Value} {t:TypeId} {tl:List Value} {B:Nat} {p:Nat} {q:Nat} {k:Nat} {n:Nat} {c:Nat} {e:TypeId} {A:Option Addr} {w:World} {w':World} {v:DV} {d:Diag}
attribute [local go_sem] Oper.semAt_some
theorem ownsRow_quietly {W W':World} {m:Nat} {xs:List Value} (h:W.ownsRow B e k (.slice A n c) m xs) (hq:Quietly W W'):W'.ownsRow B e k (.slice A n c) m xs:=by
 obtain⟨S,hT,hS⟩:=hq.touch;exact ownsRow_touch h hT (fun b hb hm=>not_both (ownsRow_cells h b (ownBlock_ownB hb)) (hS b hm))
def RowBox {α:Type} (bt e k:Nat) (enc:α→List Value) (base q:Nat) (W:World) (xs:List α):Prop:=
 ∃A c,Blk W q [.slice A xs.length c] bt∧W.ownsRow base e k (.slice A xs.length c) xs.length (xs.flatMap enc)
theorem RowBox.quietly {bt e:Nat} {base:Nat} {W W':World} {xs:List α} (h:RowBox bt e k enc base q W xs) (hq:Quietly W W'):RowBox bt e k enc base q W' xs:=by
 obtain⟨A,c,h1,h2⟩:=h;exact⟨A,c,h1.quietly hq,ownsRow_quietly h2 hq⟩
theorem RowBox.below {bt e:Nat} {base:Nat} {W W':World} {xs:List α} (h:RowBox bt e k enc base q W xs) (hb:Below W.heap.size W W'):RowBox bt e k enc base q W' xs:=by
 obtain⟨A,c,h1,h2⟩:=h;exact⟨A,c,h1.below hb,ownsRow_touch h2 (Touch.of_below hb) sI⟩
theorem RowBox.rd {bt e:Nat} (hk:0<k) (he:∀x,(enc x).length=k) {base:Nat} {W:World} {xs:List α} (h:RowBox bt e k enc base q W xs):∃A c,Blk W q [.slice A xs.length c] bt∧Rd k enc W A xs.length xs∧(A=none→c=0):=by
 obtain⟨A,c,h1,h2⟩:=h;exact⟨A,c,h1,Rd.owned hk he h2,ownsRow_none h2⟩
theorem RowBox.app {bt:Nat} {ty:TypeId} {base:Nat} {W:World} {xs:List α} {i:TypeInfo} {z:Value} {bytes:Nat} (h:RowBox bt e k enc base q W xs)
  (ht:Tryz.prog.underlying t=some (.slice e)) (hi:Tryz.prog.info? e=some i) (hz:i.zero=some z) (hsize:i.size=k) (hby:i.bytes=bytes) (hzs:z.cells.size=k) (hk:0<k) (he:∀x,(enc x).length=k) (h1:∀xs:List α,∀u∈xs.flatMap enc,u.oneCell'=true) (hb:bytes≤1000)
  (hq:q<base) (hB:base≤W.heap.size) (hn:xs.length≤1000000) (x:α) (arr:Array Value) (harr:arr.toList=enc x):
  ∃ A c A' c' w',W.cell? ⟨q,0,none⟩=some (.slice A xs.length c)∧(Builtin.append_ #[t,t] ty #[.slice A xs.length c, .slice (some ⟨W.heap.size,0,none⟩) 1 1]).run Tryz.prog (W.alloc (.cells arr e))= .ok (.slice A' (xs.length+1) c') w'∧
    w'.cell? ⟨q,0,none⟩=some (.slice A xs.length c)∧w'.frozen? ⟨q,0,none⟩=false∧RowBox bt e k enc base q (w'.setCell ⟨q,0,none⟩ (.slice A' (xs.length+1) c')) (xs++[x])∧Touch (q::ownB A) W (w'.setCell ⟨q,0,none⟩ (.slice A' (xs.length+1) c'))∧
    (∀b∈q::ownB A,(b=q∨base≤b)∧∃o:Obj,W.heap[b]?=some o∧o.isCells=true):=by
 obtain⟨A,c,hBq,hrow⟩:=h;have hT0:Touch [] W (W.alloc (.cells arr e)):=(Touch.refl _ W).alloc _;have hrow2:=ownsRow_touch hrow hT0 sI;have hR:Rd k enc (W.alloc (.cells arr e)) (some ⟨W.heap.size,0,none⟩) 1 [x]:=Rd.one (by have:=Blk.new W arr e;rw[harr]at this;exact this);obtain⟨v',w',hrun,A',c',rfl,hown,htch,hnb⟩:=run_append_rows (W.alloc (.cells arr e)) t ty e i z bytes ht hi hz hsize hby hzs hk he h1 base A xs.length c xs hrow2 (some ⟨W.heap.size,0,none⟩) 1 1 (fun h=>nomatch h) [x] hR hn dE hb (by simp;omega);have hqA:q∉ownB A:=fun hm=>by have:=(ownsRow_lt hrow q hm).1;omega
 have hBq2:=(hBq.touch hT0 sI).touch htch hqA
 have hqA':q∉ownB A':=fun hm=>by
  rcases hnb q hm with h2|h2
  · exact hqA h2
  have:=hBq.lt;simp at h2;omega
 refine⟨A,c,A',c',w',hBq.cell 0 _ rfl,hrun,hBq2.cell 0 _ rfl,hBq2.free 0,⟨A',c',?_,?_⟩,?_,?_⟩
 · have:=hBq2.set 0 (.slice A' (xs.length+1) c');rw[List.length_append];exact this
 · rw[List.length_append];exact ownsRow_touch hown (Touch.set1 _ _ _ _) (fun b hb hm=>by simp at hm;subst hm;exact hqA' (ownBlock_ownB hb))
 · have hT1:Touch (q::ownB A) W (W.alloc (.cells arr e)):=(Touch.refl _ W).alloc _;exact(hT1.trans htch (fun y hy=> .inl (by simp[hy]))).setCell _ sI _
 intro b hb
 rcases List.mem_cons.1 hb with rfl|hb
 · exact⟨.inl rfl,hBq.cells⟩
 exact⟨.inr (ownsRow_lt hrow b hb).1,ownsRow_cells hrow b hb⟩
theorem aside_rfl {a:α}:Aside (a=a):=rfl
def unitsM (d:Diag) (n:Nat):List Line→Made
 |[a,b]=>if a.loop=true∨b.loop=true then none else some (({d with ln:=d.ln++[⟨a.other n,b.other n,a.hat != b.hat⟩]}:Diag).away n,[],0)
 |_=>none
theorem unitsM_two (d:Diag) (n:Nat) (a b:Line):unitsM d n [a,b]=if a.loop=true∨b.loop=true then none else some (({d with ln:=d.ln++[⟨a.other n,b.other n,a.hat != b.hat⟩]}:Diag).away n,[],0):=rfl
theorem filter_both (p:α→Bool):∀l:List α,(l.filter (fun x=>!p x)).length+(l.filter p).length=l.length
 |[]=>rfl
 | x::l=>by
  have:=filter_both p l;simp only[List.filter_cons];cases h:p x<;>simp<;>omega
theorem unitsM_none {l:List Line} (h:¬l.length=2):unitsM d n l=none:=by
 unfold unitsM
 split
 · exact absurd rfl h
 rfl
theorem e192:∀args w,(callFunc 192 args).run Tryz.prog w= .ok (.enter 192 args) w:=enters_of Tryz.func192 kR rfl
theorem ln192P (xs:List Line) (w:World):PredP 192 #[] (fun x:Line=> .agg #[x.f,x.t, .bool x.hat]) Line.loop xs w:=fun x _ W _=>loop192 x.f x.t x.hat W
theorem wpListIn_append_run {F:Fence} {nF:Nat} {ops:Array Oper} {rest:List Oper} {o:Oper} {a:Act} {Q:Exit→Act→World→Prop} (hg:o.guard=none) (s x:Operand) (t:TypeId)
  (hop:o.op= .call {callee:= .builtin .append,args:=#[s,x],argTypes:=#[t,t]}) (v1 v2 v':Value) (hs:a.eval s=v1) (hx:a.eval x=v2) (hrun:(Builtin.append_ #[t,t] o.type #[v1,v2]).run Tryz.prog w= .ok v' w')
  (hK:wpListIn F nF Tryz.prog ops Q rest (a.put o.dst v') w'):wpListIn F nF Tryz.prog ops Q (o::rest) a w:=by
 refine wpListIn_plain hg fun K' hK'=>?_
 unfold Oper.wpIn;refine⟨by simp[Oper.about,hop,resolve,Target.leads],?_⟩
 rw[Oper.semAt_plain F _ _ (by rw[hop];intro c hc';cases hc')];simp[execOp,hop,resolve,invoke,builtin,hs,hx,hrun,Result.andThen]
 exact hK' _ _ hK
theorem xe22_0 {p:Prop} (h:p:=by
 go_wp2_with (first|(go_at_call 193;(with_reducible refine HIS.mono ?_);rintro e w2 ⟨rfl,rfl⟩))
 refine⟨by simp, .inl ⟨_,_,rfl,run_takeDeferred HdD.out,?_⟩⟩
 refine⟨_,results_tmp2 rfl _ _ _,?_⟩
 rw[HM0.out]
 exact RuleR.none 0 (HTD.out _ (Touch.refl _ _) HdD.out)):p:=h
theorem units187 (h:WK t tl B w p v d) (hd:d.Ok) (n:Nat) (hn:n<d.sp.length) (q:Int):
  Calls Tryz.prog 187 #[pt p 0,n,q] w (RuleR t tl B p v w (d.units n)):=by
 obtain⟨s,hs⟩:=get_of hn;refine(callsIn_wide (n:=6)).1 (callsIn_of_wp_marks Tryz.func187 rfl trivial ?_ rfl)
 simp only[Tryz.ntmps187,List.size_toArray,List.length_cons,List.length_nil,Nat.reduceAdd,Nat.reduceSub,Array.replicate_succ,Array.replicate_zero,List.push_toArray,List.append_toArray,List.nil_append,List.cons_append];refine wpIn_wide.2 ?_
 have HK1:Aside (WK t tl B (w.alloc (.cells #[.slice none 0 0] 23)) p v d):=h.alloc _;have HQ1:Aside (Blk (w.alloc (.cells #[.slice none 0 0] 23)) w.heap.size [.slice none 0 0] 23):=Blk.new _ _ _;have HB1:Aside (Below w.heap.size w (w.alloc (.cells #[.slice none 0 0] 23))):=bR.alloc (Nat.le_refl _) _;have HD:Aside d.Ok:=hd;have HS:Aside (d.sp[n]?=some s):=hs;have HN2:Aside (d.ln.length=v.n2∧v.n2≤100∧d.sp.length=v.n1∧v.n1≤40∧n<v.n1):=⟨h.len.2.1,by have:=h.len.2.1;have:=hd.n2;omega,h.len.1,by have:=h.len.1;have:=hd.n1;omega,by have:=h.len.1;omega⟩
 have HKW:Aside (∀b,b=p∨b∈blks v→b<w.heap.size):=by
  rintro b (rfl|hb)
  · exact h.lt
  exact(h.own.lt b hb).2
 clear h hd hs hn;go_wp2_with fail
 generalize w.alloc (.cells #[.slice none 0 0] 23)=W1 at HK1 HQ1 HB1 ⊢
 (with_reducible refine(at200 p n W1).mono ?_)
 rintro e w3 ⟨rfl,hb3,hbp,hbn⟩;go_wp2_with fail
 have HK3:Aside (WK t tl B w3 p v d):=HK1.out.below hb3;have HQ3:Aside (Blk w3 w.heap.size [.slice none 0 0] 23):=HQ1.out.below hb3;have HB3:Aside (Below w.heap.size w w3):=below_then HB1.out hb3;have HW1:Aside (w.heap.size<W1.heap.size):=HQ1.out.lt;have HW3:Aside (w.heap.size≤w3.heap.size∧W1.heap.size+1<w3.heap.size):=⟨HB3.out.size,hbn.lt⟩;refine(wpIn_wide (n:=6)).1 ?_
 refine wpIn_rangeX (F:=Fence.wide) (n:=6) rfl dE (gf:=209) rfl trivial e209
  (at209_stops Fence.wide 5 trivial rfl dE W1.heap.size (W1.heap.size+1) p v.n2 v.c2 v.A2 n d.ln HN2.out.1 (by have:=HN2.out.2.1;omega) w3 (hbp.cell 0 _ rfl) HK3.out.nine.2.1) bR (fun _=>rfl)
  (fun pre W=>((WK t tl B W p v d∧RowBox 23 77 3 lnC w3.heap.size w.heap.size W (pre.map (·.1.2)))∧Below w.heap.size w W∧w3.heap.size≤W.heap.size)∧Blk W (W1.heap.size+1) [n] 3)
  (fun _ _ _=>False) (OwnFrom.and (OwnFrom.and (ownFrom_quietly fun _ _ _ h hq=>⟨h.1.quietly hq,h.2.quietly hq⟩) (OwnFrom.and (ownFrom_below (Nat.le_refl _) HW3.out.1) (fun _ _ _ _ h hg _=>Nat.le_trans h hg.size))) (ownFrom_quietly fun _ _ _ h hq=>h.quietly hq)) (fun _ _ _ _ _ hs _ _=>hs) ?hX
  ⟨⟨⟨HK3.out,none,0,HQ3.out,World.ownsRow_nil _ _ _ _⟩,HB3.out,Nat.le_refl _⟩,hbn⟩
  (fun y a' W=>∃bx,Blk W bx [y.1.2.f,y.1.2.t, .bool y.1.2.hat] 77∧a'={tmps:=#[pt p 0,n,q,undef,undef,undef, .bool false, .int .i64 0,pt w.heap.size 0,undef,pt bx 0,pt p 0,n, .func (.func 209) #[] #[pt W1.heap.size 0, .pointer (some ⟨W1.heap.size+1,0,none⟩)], .int .i64 (y.1.1:Int), .agg #[y.1.2.f,y.1.2.t, .bool y.1.2.hat],undef,undef,undef,undef,undef,undef,undef,undef,undef,undef,undef,undef,undef,undef,undef,undef,undef,undef,undef,undef,undef,undef,undef,undef,undef,undef,undef,undef,undef,undef,undef,undef,undef,undef,undef,undef,undef,undef,undef,undef,undef,undef,undef,undef,undef,undef,undef,undef,undef,undef,undef,undef,undef,undef,undef,undef,undef,undef,undef,undef,undef,undef],defers:=[]})
  (fun a'=>ownFrom_quietly fun y W W' h hq=>?hAx) ?assign ?body ?done ?stop
 case hX=>
  rintro pre W ⟨⟨⟨hK,_⟩,_⟩,hn3⟩;refine⟨hn3.cell 0 _ rfl,fun j l hj hl=>?_⟩
  obtain⟨g2,hg2,y0,y1,y2,_⟩:=hK.own.lnAt hl;exact⟨g2,hg2,y0,y1,y2⟩
 case hAx=>
  obtain⟨bx,h4,h5⟩:=h;exact⟨bx,h4.quietly hq,h5⟩
 case assign=>
  rintro l pre ⟨⟨i,lf,lt,lh⟩,hy1,hy2⟩ W K ⟨⟨⟨hK4,hR4⟩,hB4,hs4⟩,hn4⟩ hK;simp only[encL];have HR4:Aside (RowBox 23 77 3 lnC w3.heap.size w.heap.size W (pre.map (·.1.2))):=hR4;have hh:Aside (Blk (W.alloc (.cells #[lf,lt, .bool lh] 77)) W.heap.size [lf,lt, .bool lh] 77):=Blk.new _ _ _;clear hR4
  gi_wp2
  exact hK _ _ ((KeepsOthers.alloc _ _).from _) ⟨⟨⟨hK4.alloc _,HR4.out.below (bR.alloc (Nat.le_refl _) _)⟩,hB4.alloc hB4.size _,by simp;omega⟩,hn4.alloc _⟩ ⟨W.heap.size,hh.out,rfl⟩
 case body=>
  rintro l pre ⟨⟨i,lf,lt,lh⟩,hy1,hy2⟩ a' W ⟨⟨⟨hK4,hR4⟩,hB4,hs4⟩,hn4⟩ ⟨bx,hb4,rfl⟩ hlen;dsimp only at hb4 ⊢;obtain⟨i0,hi,hz0,hz1,hz2⟩:=info_parts inf77;obtain⟨A,c,A',c',w',hc,hrun,hc2,hf2,hR5,hT5,hS5⟩:=hR4.app (t:=23) (ty:=23) Tryz.underlying23 hi hz0 hz1 hz2 rfl dE lnC_len lnC_one dE (Nat.lt_of_le_of_lt (Nat.le_of_lt HW1.out) (by have:=HW3.out.2;omega)) hs4 (by have:=HN2.out;rw[List.length_map];omega) ⟨lf,lt,lh⟩ #[lf,lt, .bool lh] rfl;obtain⟨z0,z1,z2⟩:W.cell? ⟨bx,0,none⟩=some (.int .i64 lf)∧W.cell? ⟨bx,1,none⟩=some (.int .i64 lt)∧W.cell? ⟨bx,2,none⟩=some (.bool lh):=⟨hb4.cell 0 _ rfl,hb4.cell 1 _ rfl,hb4.cell 2 _ rfl⟩;rw[List.length_map]at hc hrun hc2 hT5 hR5;have HR5:=Lib.hid hR5;have HT5:=Lib.hid hT5;have HS5:=Lib.hid hS5;have HK4:=Lib.hid hK4;have HB4:=Lib.hid hB4
  have Hn4:=Lib.hid hn4;clear hR5 hT5 hS5 hK4 hB4 hn4 hR4 hb4 hi hz0 hz1 hz2;have HRUN:=Lib.hid hrun;clear hrun
  gi_wp2_with (gi_at_builtin;refine wpListIn_append_run rfl _ _ 23 rfl _ _ _ rfl rfl HRUN.out ?_)
  refine⟨keeps_touch HT5.out (fun b hb=>(HS5.out b hb).2),⟨⟨?_,?_⟩,?_,?_⟩,?_⟩
  · exact HK4.out.touch HT5.out (fun hm=>by have h1:=(HS5.out p hm).1;have h2:=HKW.out p (.inl rfl);have h3:=HW3.out.1;omega) (fun b hb hm=>by have h1:=(HS5.out b hm).1;have h2:=HKW.out b (.inr hb);have h3:=HW3.out.1;omega)
  · rw[List.map_append];exact HR5.out
  · exact HB4.out.trans (HT5.out.below HB4.out.size fun b hb=>by have h1:=(HS5.out b hb).1;have h3:=HW3.out.1;omega)
  · exact Nat.le_trans hs4 HT5.out.size
  exact Hn4.out.touch HT5.out (fun hm=>by have h1:=(HS5.out _ hm).1;have h2:=HW1.out;have h3:=HW3.out;omega)
 case done =>
  rintro D ys W hD hys ⟨⟨⟨hK4,hR4⟩,hB4,hs4⟩,hn4⟩ hDd
  have hl:ys.map (·.1.2)=d.ln.filter (·.at n):=by
   rw[←ats_snd,←hys,List.map_map];rfl
  rw[hl]at hR4;have hQD:Quietly W (W.putObj D (.deferred none)):=⟨some D,grownBy_putObj' W D _,fun r e=>by cases e;exact⟨_,hDd,rfl⟩⟩
  have HTD:Aside (∀W5,Touch (p::blks v) W W5→W5.heap[D]?=some (.deferred (some []))→Touch (p::blks v) w (W5.putObj D (.deferred none))):=by
   intro W5 hT h5;have h1:Touch (p::blks v) w W5:=((Touch.of_below hB4).mono sI).trans hT (fun x hx=> .inl hx);exact h1.grown (grownBy_putObj' W5 D _) (fun k e=> .inr (by cases e;exact Nat.le_trans HW3.out.1 hD))
  have HdD:Aside (W.heap[D]?=some (.deferred (some []))):=hDd;obtain⟨g,hA,k0,k1,kf⟩:=hK4.own.spAt HS.out;obtain⟨c0,c1,_,_,_,_,_,_,_,cf⟩:=hK4.nine;rw[hA]at c0;obtain⟨_,_,_,_,hn5⟩:=HN2.out;have hn5z:(n:Int)<(v.n1:Int):=oM
  have HIS:=is193 hK4 n (by have:=HN2.out;omega) 0;rw[kindAt_of HS.out]at HIS
  have HM:Aside (d.units n=if s.kind=0∨s.phase≠0 then none else unitsM d n (d.ln.filter (·.at n))):=by
   unfold Diag.units;rw[kindAt_of HS.out,phaseAt_of HS.out];rfl
  have HK4:Aside (WK t tl B W p v d):=hK4;have HB4:Aside (Below w.heap.size w W):=hB4;have HA:Aside (v.A1=some ⟨g,0,none⟩):=hA;have HLm:Aside (∀x∈d.ln.filter (·.at n),x∈d.ln∧x.at n=true):=fun x hx=>List.mem_filter.1 hx;have Hcnt:Aside ((d.ln.filter (fun l=>!l.at n)).length+(d.ln.filter (·.at n)).length=d.ln.length):=filter_both _ _;generalize d.ln.filter (·.at n)=l at hR4 HM HLm Hcnt;obtain⟨A,c,hBq,hrow⟩:=hR4;have hRd:=Rd.owned dE lnC_len hrow;have hAc:=ownsRow_none hrow;have hc8:=hBq.cell 0 _ rfl;have HBq:Aside (Blk W w.heap.size [.slice A l.length c] 23):=hBq;have HRd:Aside (Rd 3 lnC W A l.length l):=hRd;have HAN:=any87 lnC Line.f Line.t Line.hat (fun _=>rfl) Line.loop 192 #[] e192 A l.length c l W hRd (ln192P l W);generalize s.kind=sk at *;generalize s.phase=sp at *
  have HRow:Aside (W.ownsRow w3.heap.size 77 3 (.slice A l.length c) l.length (l.flatMap lnC)):=hrow;clear hK4 hB4 hs4 hn4 hA hDd hys hl hQD hRd hrow hBq hD hAc
  by_cases h0:sk=0
  · rw[show (sk==0)=true by simp[h0]]at HIS;have HM0:Aside (d.units n=none):=by rw[HM.out,if_pos (.inl h0)];exact aside_rfl
    clear h0 HAN;exact xe22_0
  rw[show (sk==0)=false by simpa using h0]at HIS
  by_cases h1:sp=0
  · have hp2:(sp==0)=true:=by simp[h1]
    have hp1:(sp != 0)=false:=by simp[h1]
    by_cases h2:l.length=2
    · obtain⟨a,b,rfl⟩:∃a b,l=[a,b]:=by
       match l,h2 with
       |[a,b],_=>exact⟨a,b,rfl⟩
      obtain⟨af,at',ah⟩:=a;obtain⟨bf,bt,bh⟩:=b;have hM2:d.units n=unitsM d n [⟨af,at',ah⟩,⟨bf,bt,bh⟩]:=by rw[HM.out,if_neg (by simp[h0,h1])]
      simp only[List.length_cons,List.length_nil,Nat.zero_add,Nat.reduceAdd]at hc8 HAN HBq HRd HRow
      by_cases h3:(Line.loop ⟨af,at',ah⟩||Line.loop ⟨bf,bt,bh⟩)=true
      · have HM0:Aside (d.units n=none):=by
         rw[hM2,unitsM_two,if_pos (by simpa using h3)];exact aside_rfl
        rw[show ([⟨af,at',ah⟩,⟨bf,bt,bh⟩]:List Line).any Line.loop=true by simpa using h3]at HAN;clear h0 h1 h2 h3 hM2 HM HBq HRd HRow HLm
        go_wp2_with (first|(go_at_call 193;(with_reducible refine HIS.mono ?_);rintro e w2 ⟨rfl,rfl⟩)|(go_at_call 87;(with_reducible refine HAN.mono ?_);rintro e w2 ⟨rfl,hb6⟩;clear HAN))
        have hD6:=(hb6.block D (Array.getElem?_eq_some_iff.1 HdD.out).1).trans HdD.out;refine⟨by simp, .inl ⟨_,_,rfl,run_takeDeferred hD6,?_⟩⟩
        refine⟨_,results_tmp2 rfl _ _ _,?_⟩
        rw[HM0.out];exact RuleR.none 0 (HTD.out _ ((Touch.of_below hb6).mono sI) hD6)
      have HM0:Aside (d.units n=some (({d with ln:=d.ln++[⟨Line.other ⟨af,at',ah⟩ n,Line.other ⟨bf,bt,bh⟩ n,ah != bh⟩]}:Diag).away n,[],0)):=by
       rw[hM2,unitsM_two,if_neg (by simpa using h3)];exact aside_rfl
      rw[show ([⟨af,at',ah⟩,⟨bf,bt,bh⟩]:List Line).any Line.loop=false by simpa using h3]at HAN;clear h0 h1 h2 h3 hM2 HM HRd
      go_wp2_with (first|(go_at_call 193;(with_reducible refine HIS.mono ?_);rintro e w2 ⟨rfl,rfl⟩)|(go_at_call 87;(with_reducible refine HAN.mono ?_);rintro e w2 ⟨rfl,hb6⟩;clear HAN))
      have hK0:=HK4.out.below hb6;have hBW:B≤w2.heap.size:=by have:=hK0.hp;have:=hK0.lt;omega
      have hn:v.n2≤100000:=by have:=HN2.out;omega
      obtain⟨gl,hgl,hgb,hgl2,_,_⟩:=ownsRow_shape HRow.out dE;subst hgl;have hd6:=(hb6.block D (Array.getElem?_eq_some_iff.1 HdD.out).1).trans HdD.out
      have HSc:Aside (∀u,Below w2.heap.size w2 u→u.cell? ⟨p,1,none⟩=some (.slice v.A2 v.n2 v.c2)∧u.cell? ⟨w.heap.size,0,none⟩=some (.slice (some ⟨gl,0,none⟩) 2 c)∧u.cell? ⟨gl,0,none⟩=some (.int .i64 af)∧u.cell? ⟨gl,1,none⟩=some (.int .i64 at')∧u.cell? ⟨gl,2,none⟩=some (.bool ah)∧u.cell? ⟨gl,3,none⟩=some (.int .i64 bf)∧u.cell? ⟨gl,4,none⟩=some (.int .i64 bt)∧u.cell? ⟨gl,5,none⟩=some (.bool bh)):=by
       intro u hu;have hu2:=below_then hb6 hu;have r:=fun(i j:Nat) (x:Line) (y:Value) hx hy=>ownsRow_at lnC_len HRow.out (i:=i) (j:=j) (x:=x) (u:=y) hx hy;exact⟨(HK4.out.below hu2).nine.2.1,(HBq.out.below hu2).cell 0 _ rfl,cell_keeps hu2 (r 0 0 _ _ rfl rfl),cell_keeps hu2 (r 0 1 _ _ rfl rfl),cell_keeps hu2 (r 0 2 _ _ rfl rfl),cell_keeps hu2 (r 1 0 _ _ rfl rfl),cell_keeps hu2 (r 1 1 _ _ rfl rfl),cell_keeps hu2 (r 1 2 _ _ rfl rfl)⟩
      have HRG:∀x:Line,x∈([⟨af,at',ah⟩,⟨bf,bt,bh⟩]:List Line)→(n:Int)=x.f∨(n:Int)=x.t:=by
       intro x hx;have:=(HLm.out x hx).2;simp only[Line.at,Bool.or_eq_true,decide_eq_true_eq]at this;omega
      have HRO:∀x:Line,x∈([⟨af,at',ah⟩,⟨bf,bt,bh⟩]:List Line)→(0≤x.f∧x.f<40)∧(0≤x.t∧x.t<40)∧0≤x.other n∧x.other n<40:=by
       intro x hx;have h1:=HD.out.ln x (HLm.out x hx).1;have h2:=HN2.out;have h3:=HRG x hx;unfold Line.other;omega
      have HO:∀x:Line,x∈([⟨af,at',ah⟩,⟨bf,bt,bh⟩]:List Line)→otherI x.f x.t n=x.other n:=by
       intro x hx;have h3:=HRG x hx;unfold otherI Line.other
       split<;>omega
      have H201a:Aside (∀u,Calls Tryz.prog 201 #[.agg #[af,at', .bool ah],n] u fun e w'=>e= .returned (.int .i64 (Line.other ⟨af,at',ah⟩ n))∧Below u.heap.size u w'):=by
       intro u;have h1:=HRO ⟨af,at',ah⟩ sI;dsimp only at h1;rw[←HO ⟨af,at',ah⟩ sI];exact other201 af at' n ah u (HRG ⟨af,at',ah⟩ sI) h1.1.1 oM h1.2.1.1 oM
      have H201b:Aside (∀u,Calls Tryz.prog 201 #[.agg #[bf,bt, .bool bh],n] u fun e w'=>e= .returned (.int .i64 (Line.other ⟨bf,bt,bh⟩ n))∧Below u.heap.size u w'):=by
       intro u;have h1:=HRO ⟨bf,bt,bh⟩ sI;dsimp only at h1;rw[←HO ⟨bf,bt,bh⟩ sI];exact other201 bf bt n bh u (HRG ⟨bf,bt,bh⟩ sI) h1.1.1 oM h1.2.1.1 oM
      have HRa:=HRO ⟨af,at',ah⟩ sI;have HRb:=HRO ⟨bf,bt,bh⟩ sI;generalize Line.other ⟨af,at',ah⟩ n=oa at *;generalize Line.other ⟨bf,bt,bh⟩ n=ob at *;have HRa':Aside (0≤oa∧oa<40):=HRa.2.2;have HRb':Aside (0≤ob∧ob<40):=HRb.2.2;have Hb6:Aside (Below W.heap.size W w2):=hb6;have Hd6:Aside (w2.heap[D]?=some (.deferred (some []))):=hd6;clear HRa HRb HO HRO HRG hb6 hd6 hc8 hgb hgl2
      refine wp_region_F [(44,31)] (fun l u=>(l 27=false→Below w2.heap.size w2 u)∧(l 31=false→Touch (ownB v.A2) w2 u)) (fun i u u'=>match i with|27=>Touch (ownB v.A2) u u'|31=>∃x9,u'=u.setCell ⟨p,1,none⟩ x9|_=>Below u.heap.size u u') (fun j x u=>match j with|0=>x 44=pt p 0|1=>x 45=pt p 0|2=>x 46=pt p 0|3=>x 47=pt p 0|4=>x 48=pt p 1|5=>x 49= .slice v.A2 v.n2 v.c2|6=>x 50= .slice (some ⟨gl,0,none⟩) 2 c|7=>x 51=pt gl 0|8=>x 52= .agg #[af,at', .bool ah]|9=>x 53=n|10=>x 54=oa|11=>x 55= .slice (some ⟨gl,0,none⟩) 2 c|12=>x 56=pt gl 3|13=>x 57= .agg #[bf,bt, .bool bh]|14=>x 58=n|15=>x 59=ob|16=>x 60= .slice (some ⟨gl,0,none⟩) 2 c|17=>x 61=pt gl 0|18=>x 62=pt gl 2|19=>x 63= .bool ah|20=>x 64= .slice (some ⟨gl,0,none⟩) 2 c|21=>x 65=pt gl 3|22=>x 66=pt gl 5|23=>x 67= .bool bh|24=>x 68= .bool (ah != bh)|25=>x 69= .agg #[oa,ob, .bool (ah != bh)]|26=>∃q,x 70= .slice (some ⟨q,0,none⟩) 1 1∧w2.heap.size≤q∧Rd 3 lnC u (some ⟨q,0,none⟩) 1 [(⟨oa,ob,ah != bh⟩:Line)]|27=>∃A' c',x 71= .slice A' (v.n2+1) c'∧u.ownsRow B 77 3 (.slice A' (v.n2+1) c') (v.n2+1) ((d.ln++[(⟨oa,ob,ah != bh⟩:Line)]).flatMap lnC)∧∀b∈ownB A',b∈ownB v.A2∨w2.heap.size≤b|28=>x 72=pt p 0|29=>x 73=pt p 0|30=>x 74=pt p 1|31=>∃A' c',WK t tl B u p {v with A2:=A',n2:=v.n2+1,c2:=c'} {d with ln:=d.ln++[(⟨oa,ob,ah != bh⟩:Line)]}∧Upd p v w2 {v with A2:=A',n2:=v.n2+1,c2:=c'} u|_=>True) ?h0 ?hkeep ?hstep ?d0
      case h0=>exact⟨fun _=>bR.drew,fun _=>(Touch.refl _ _).drew⟩
      case hkeep=>
       intro j i x l u u' hj hi hpre ht hG hR
       by_cases hjb:j=26
       · subst hjb;obtain⟨q,h1,h2,h3⟩:=ht;refine⟨q,h1,h2,?_⟩
         by_cases hia:i=27
         · subst hia;exact h3.touch hR (fun b hb y hy hyb=>by cases hy;have h8:=(hK0.own.lt b (by simp[blks,hb])).2;have h9:q=b:=hyb;omega)
         by_cases his:i=31
         · subst his;obtain⟨x9,rfl⟩:=hR;exact h3.touch (Touch.set1 _ _ _ _) (fun b hb y hy hyb=>by cases hy;have h8:=hK0.lt;simp at hb;have h9:q=b:=hyb;omega)
         exact h3.below (by have h9:=hR;split at h9<;>first|exact(hia rfl).elim|exact(his rfl).elim|exact h9)
       by_cases hja:j=27
       · subst hja;obtain⟨A',c',h1,h2,h3⟩:=ht;refine⟨A',c',h1,?_,h3⟩
         by_cases hia:i=27
         · subst hia;rw[hj]at hi;cases hi
         by_cases his:i=31
         · subst his;obtain⟨x9,rfl⟩:=hR;refine ownsRow_touch h2 (Touch.set1 _ _ _ _) (fun b hb hm=>?_)
           simp at hm
           subst hm
           rcases h3 _ (ownBlock_ownB hb) with h4|h4
           · exact hK0.np (by simp[blks,h4])
           have:=hK0.lt;omega
         exact ownsRow_touch h2 (Touch.of_below (by have h9:=hR;split at h9<;>first|exact(hia rfl).elim|exact(his rfl).elim|exact h9)) sI
       by_cases hjs:j=31
       · subst hjs;obtain⟨A',c',h1,h2⟩:=ht
         by_cases hia:i=27
         · subst hia;rw[hpre 27 kR]at hi;cases hi
         by_cases his:i=31
         · subst his;rw[hj]at hi;cases hi
         exact⟨A',c',h1.below (by have h9:=hR;split at h9<;>first|exact(hia rfl).elim|exact(his rfl).elim|exact h9),h2.then_below (by have h9:=hR;split at h9<;>first|exact(hia rfl).elim|exact(his rfl).elim|exact h9)⟩
       exact(by have h9:=ht;clear ht;split at h9<;>first|exact h9|exact(hjb rfl).elim|exact(hja rfl).elim|exact(hjs rfl).elim)
      case hstep=>
       dsimp only[fil,fls,fl,List.toList_toArray,Nat.reduceAdd];refine⟨?_,?_,?_,?_,?_,?_,?_,?_,?_,?_,?c10,?_,?_,?_,?_,?c15,?_,?_,?_,?_,?_,?_,?_,?_,?_,?_,?c26,?c27,?_,?_,?_,?c31,trivial⟩
       all_goals intro l x u hG hno hli hpre hd K hK
       case c10=>
        have e8:x 52= .agg #[af,at', .bool ah]:=hd ⟨8, .data⟩ sI rfl;have e9:x 53= .int .i64 ↑n:=hd ⟨9, .data⟩ sI rfl;clear hd;simp only[e8,e9]at hK ⊢;have hBl:=hG.1 (hno 27 kR);have hTc:=hG.2 (hno 31 kR);go_simp
        (with_reducible refine(H201a.out u).mono ?_);rintro e u2 ⟨rfl,hb⟩
        exact hK _ _ rfl hb ⟨fun _=>below_then hBl hb,fun _=>hTc.then_below hb⟩
       case c15=>
        have e13:x 57= .agg #[bf,bt, .bool bh]:=hd ⟨13, .data⟩ sI rfl;have e14:x 58= .int .i64 ↑n:=hd ⟨14, .data⟩ sI rfl;clear hd;simp only[e13,e14]at hK ⊢;have hBl:=hG.1 (hno 27 kR);have hTc:=hG.2 (hno 31 kR);go_simp
        (with_reducible refine(H201b.out u).mono ?_);rintro e u2 ⟨rfl,hb⟩
        exact hK _ _ rfl hb ⟨fun _=>below_then hBl hb,fun _=>hTc.then_below hb⟩
       case c26=>
        have e25:x 69= .agg #[oa,ob, .bool (ah != bh)]:=hd ⟨25, .data⟩ sI rfl;clear hd;simp only[e25]at hK ⊢;have hBl:=hG.1 (hno 27 kR);go_simp
        exact hK _ _ ⟨_,rfl,hBl.size,Rd.one (Blk.new _ _ _)⟩ (bR.alloc (Nat.le_refl _) _) ⟨fun _=>hBl.alloc hBl.size _,fun h=>(hG.2 (hno 31 kR)).alloc _⟩
       case c27=>
        have e5:x 49= .slice v.A2 v.n2 v.c2:=hd ⟨5, .data⟩ sI rfl;have e26:∃q,x 70= .slice (some ⟨q,0,none⟩) 1 1∧w2.heap.size≤q∧Rd 3 lnC u (some ⟨q,0,none⟩) 1 [(⟨oa,ob,ah != bh⟩:Line)]:=hd ⟨26, .data⟩ sI rfl;clear hd;simp only[e5]at hK ⊢;have hBl:=hG.1 hli;have hTc:=hG.2 (hno 31 kR);obtain⟨q,h70,hq,hR⟩:=e26;generalize k70:x 70=z70 at h70 hK ⊢;subst h70;refine wp_append_rows (.tmp 49) (.tmp 70) 23 rfl 77 3 _ 24 inf77 Tryz.underlying23 rfl dE lnC_len lnC_one dE B _ _ _ rfl _ (hK0.below hBl).own.ln _ _ _ rfl (fun h=>nomatch h) [(⟨oa,ob,ah != bh⟩:Line)] hR oM dE (Nat.le_trans hBW hBl.size) ?_
        intro v9 w9 hAp;obtain⟨A',c',rfl,hown,htch,hnb⟩:=hAp;exact hK _ _ ⟨A',c',rfl,hown,fun b hb=>(hnb b hb).imp id (Nat.le_trans hBl.size)⟩ htch ⟨fun h=>by simp at h,fun _=>hTc.trans htch (fun x hx=> .inl hx)⟩
       case c31=>
        have e30:x 74=pt p 1:=hd ⟨30, .data⟩ sI rfl;have e27:∃A' c',x 71= .slice A' (v.n2+1) c'∧u.ownsRow B 77 3 (.slice A' (v.n2+1) c') (v.n2+1) ((d.ln++[(⟨oa,ob,ah != bh⟩:Line)]).flatMap lnC)∧∀b∈ownB A',b∈ownB v.A2∨w2.heap.size≤b:=hd ⟨27, .data⟩ sI rfl;clear hd;simp only[e30]at hK ⊢;have hTc:=hG.2 hli;obtain⟨A',c',h71,hown,hnb⟩:=e27;generalize k71:x 71=z71 at h71 hK ⊢;subst h71;have hbk:=hK0.blk.touch hTc (fun hm=>hK0.np (by simp[blks,hm]));have hcl:=hbk.cell 1 _ rfl;have hfr:=hbk.free 1;have hput:=hK0.putLn hTc (fun b hb=> .inl hb) hown hnb;clear hbk;go_simp
        exact hK undef _ ⟨A',c',hput⟩ ⟨_,rfl⟩ ⟨fun h=>by simp[hpre 27 kR]at h,fun h=>by simp at h⟩
       all_goals
        dsimp only at hd;simp only[eB]at hd
        try simp only[hd]at hK ⊢
        first|(go_simp;exact hK _ _ rfl bR sG)|(obtain⟨m1,b0,a0,a1,a2,a3,a4,a5⟩:=HSc.out _ (hG.1 (hno 27 kR));go_simp;exact hK _ _ rfl bR sG)
      dsimp only[fil,fls,fl,List.toList_toArray,Nat.reduceAdd];rintro l x u hall hG ⟨_,_,_,_,_,_,_,_,_,_,_,_,_,_,_,_,_,_,_,_,_,_,_,_,_,_,_,_,_,_,_,tS,_⟩;obtain⟨A',c',hK9,hU9⟩:=tS;clear hall hG
      have hL9:Diag.Lim {d with ln:=d.ln++[⟨oa,ob,ah != bh⟩]}:=by
       refine⟨fun x hx=>?_,HD.out.lim.ins,HD.out.lim.outs⟩
       rcases List.mem_append.1 hx with hx|hx
       · exact HD.out.lim.ln x hx
       simp only[List.mem_singleton]at hx;subst hx;have h1:=HRa'.out;have h2:=HRb'.out;dsimp only;omega
      have HLn:Aside ((({d with ln:=d.ln++[⟨oa,ob,ah != bh⟩]}:Diag).away n).ln.length≤100):=by
       show (((d.ln++[(⟨oa,ob,ah != bh⟩:Line)]).filter (fun l:Line=>!l.at n)).map (Line.down n)).length≤100
       have h1:=Hcnt.out;have h2:=HN2.out;rw[List.length_map,List.filter_append,List.length_append];have h3:=List.length_filter_le (fun l:Line=>!l.at n) [⟨oa,ob,ah != bh⟩];simp only[List.length_cons,List.length_nil]at h1 h3;omega
      have H181:=away181 hK9 hL9 n (by have:=HN2.out;exact this.2.2.2.2) (by have:=HN2.out;show v.n1≤100000;omega) (by have:=HN2.out;show v.n2+1≤100000;omega) (by have h3:=HK4.out.len;have h4:=HD.out.n3;show v.n3≤100000;omega) (by have h3:=HK4.out.len;have h4:=HD.out.n4;show v.n4≤100000;omega);have HU9:Aside (Upd p v w2 {v with A2:=A',n2:=v.n2+1,c2:=c'} u):=hU9;clear hL9 hK9 hU9
      go_wp2_with (first|(go_at_call 181;(with_reducible refine H181.mono ?_);rintro e w5 ⟨⟨z5,rfl⟩,v5,hK10,hU10⟩;clear H181))
      have hUU:=HU9.out.trans hU10
      have hDn:∀b∈p::blks v,b≠D:=by
       intro b hb e;have hD9:=(HdD.out);subst e
       rcases List.mem_cons.1 hb with rfl|hb
       · exact not_both HK4.out.blk.cells ⟨_,hD9,rfl⟩
       exact not_both (HK4.out.own.cells b hb) ⟨_,hD9,rfl⟩
      have hd5:=(hUU.t.block D (Array.getElem?_eq_some_iff.1 Hd6.out).1 (fun hm=>hDn D hm rfl)).trans Hd6.out;have hT5:Touch (p::blks v) W w5:=((Touch.of_below Hb6.out).mono sI).trans hUU.t (fun x hx=> .inl hx);refine⟨by simp, .inl ⟨_,_,rfl,run_takeDeferred hd5,?_⟩⟩
      refine⟨_,results_tmp2 rfl _ _ _,?_⟩
      rw[HM0.out];refine RuleR.id (v':=v5) (hK10.quietly ⟨some D,grownBy_putObj' w5 D _,fun r e=>by cases e;exact⟨_,hd5,rfl⟩⟩) ⟨HTD.out w5 hT5 hd5,fun b hb=>?_⟩ HLn.out
      rcases hUU.n b hb with h1|h1
      · exact .inl h1
      exact .inr (Nat.le_trans (HB4.out.trans (Hb6.out.mono HB4.out.size)).size h1)
    have hq1:((l.length:Int)==2)=false:=by simp;omega
    have hq2:((l.length:Int) != 2)=true:=by simp;omega
    have HM0:Aside (d.units n=none):=by
     rw[HM.out,if_neg (by simp[h0,h1])];exact unitsM_none h2
    clear h0 h1 h2 HAN HM;exact xe22_0
  have hp1:(sp != 0)=true:=by simpa using h1
  have hp2:(sp==0)=false:=by simpa using h1
  have HM0:Aside (d.units n=none):=by rw[HM.out,if_pos (.inr h1)];exact aside_rfl
  clear h0 h1 HAN HM;exact xe22_0
 rintro D c pre W _ _ h _;exact h.elim
end Go.Proofs.YtcoackmdmohnhaaGreatDoor
