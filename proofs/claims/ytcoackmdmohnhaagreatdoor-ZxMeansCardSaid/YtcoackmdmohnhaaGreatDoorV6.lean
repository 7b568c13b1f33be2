/- Contracts of functions, and plain lemmas; each theorem's conditions stand in its statement. -/
import Derived.Test.YtcoackmdmohnhaaGreatDoorV5
set_option linter.unusedVariables false
set_option linter.unusedSimpArgs false
set_option maxRecDepth 100000
set_option maxHeartbeats 4000000
namespace Go.Proofs.YtcoackmdmohnhaaGreatDoor
section
open Go.RowKit Go.Shelf
variable {t:TypeId} {tl:List Value} {B:Nat} {N:Nat} {p:Nat} {i:Nat} {g:Nat} {w:World} {v:DV} {d:Diag}
theorem two_new (w:World) (o o':Array Value) (s s':TypeId):Below w.heap.size w ((w.alloc (.cells o s)).alloc (.cells o' s')).drew∧Blk ((w.alloc (.cells o s)).alloc (.cells o' s')).drew w.heap.size o.toList s∧Blk ((w.alloc (.cells o s)).alloc (.cells o' s')).drew (w.heap.size+1) o'.toList s':=by
 refine⟨((bR.alloc (Nat.le_refl _) _).alloc sI _).drew,((Blk.new w o s).alloc _).drew,?_⟩
 have h1:=(Blk.new (w.alloc (.cells o s)) o' s').drew;rw[show (w.alloc (.cells o s)).heap.size=w.heap.size+1 by simp]at h1;exact h1
theorem cut_put {w2 w3:World} (hK:WK t tl B w2 p v d) (hA:v.A2=some ⟨g,0,none⟩) (hT:Touch (ownB (some (⟨g,0,none⟩:Addr))) w2 w3) (ho:w3.ownsRow B 77 3 (.slice (some ⟨g,0,none⟩) (v.n2-1) v.c2) (v.n2-1) ((d.ln.eraseIdx i).flatMap lnC)):
  WK t tl B (w3.setCell ⟨p,1,none⟩ (.slice (some ⟨g,0,none⟩) (v.n2-1) v.c2)) p {v with A2:=some ⟨g,0,none⟩,n2:=v.n2-1,c2:=v.c2} (d.cutLn i)∧Upd p v w2 {v with A2:=some ⟨g,0,none⟩,n2:=v.n2-1,c2:=v.c2} (w3.setCell ⟨p,1,none⟩ (.slice (some ⟨g,0,none⟩) (v.n2-1) v.c2))∧w3.cell? ⟨p,1,none⟩=some (.slice (some ⟨g,0,none⟩) v.n2 v.c2)∧w3.frozen? ⟨p,1,none⟩=false:=by
 have hT':Touch (ownB v.A2) w2 w3:=by rw[hA];exact hT
 have hput:=hK.putLn hT' (fun b hb=> .inl hb) ho (fun b hb=> .inl (by rw[hA];exact hb));have hbk:=hK.blk.touch hT' (fun hm=>hK.np (by simp[blks,hm]));have hc:=hbk.cell 1 _ rfl;rw[hA]at hc;exact⟨hput.1,hput.2,hc,hbk.free 1⟩
def pairM (d:Diag) (i j:Nat) (x:Int):Bool→Bool→Made
 |true,true=>some ((d.cutLn j).cutLn i,[],-2)
 |true,false=>some ((d.cutLn i).addPh x 4,[],-1)
 |false,true=>some ((d.cutLn j).addPh x 4,[],-1)
 |false,false=>some (d.cutLn j,[],0)
theorem pairs188 (h:WK t tl B w p v d) (hG:Glob N w) (hN:N≤B) (hd:d.Ok) (i j:Nat) (hi:i<d.ln.length) (hj:j<d.ln.length):
  Calls Tryz.prog 188 #[pt p 0,i,j] w (RuleR t tl B p v w (d.pairs i j)):=by
 obtain⟨la,ha⟩:=get_of hi;obtain⟨lb,hb⟩:=get_of hj;obtain⟨af,at',ah⟩:=la;obtain⟨bf,bt,bh⟩:=lb;obtain⟨⟨hf0,hf1⟩,ht0,ht1⟩:=hd.ln _ (List.mem_of_getElem? ha);obtain⟨⟨hf2,hf3⟩,ht2,ht3⟩:=hd.ln _ (List.mem_of_getElem? hb);dsimp only at hf0 hf1 ht0 ht1 hf2 hf3 ht2 ht3;have hn:=h.own.n2;have hn2:=hd.n2;obtain⟨_,c1,_,_,_,_,_,_,_,cf⟩:=h.nine;obtain⟨g,hA,a0,a1,a2,gf⟩:=h.own.lnAt ha;obtain⟨g',hA',b0,b1,b2,_⟩:=h.own.lnAt hb;rw[hA]at hA';cases hA'
 have hiz:(i:Int)<(v.n2:Int):=oM
 have hjz:(j:Int)<(v.n2:Int):=oM
 have hM:d.pairs i j=if j≤i∨(Line.mk af at' ah).loop=true∨(Line.mk af at' ah).alike ⟨bf,bt,bh⟩=false∨d.kindAt af=0∨d.kindAt at'=0 then none
  else pairM d i j (Line.mk af at' ah).lo (d.bent ⟨af,at',ah⟩) (d.bent ⟨bf,bt,bh⟩):=by
  unfold Diag.pairs;rw[ha,hb];dsimp only;generalize d.bent ⟨af,at',ah⟩=z1;generalize d.bent ⟨bf,bt,bh⟩=z2;cases z1<;>cases z2<;>rfl
 rw[hM];clear hM
 by_cases hij:j≤i
 · rw[if_pos (.inl hij)];have hijz:(j:Int)≤(i:Int):=oM
   go_enter Tryz.func188,Tryz.ntmps188
   go_wp2_with fail
   refine bodyPost_ret (v:= .tuple #[.bool false, .int .i64 0]) (by simp[results,Tryz.results188,go_sem]) rfl (RuleR.none 0 (Touch.refl _ _))
 have hijz:¬(j:Int)≤(i:Int):=oM
 rw[hA]at c1;have HA:Aside (v.A2=some ⟨g,0,none⟩):=hA;have HK:Aside (WK t tl B w p v d):=h;have HO:Aside d.Ok:=hd;have HGl:Aside (Glob N w):=hG;clear hA hd hG ha hb h;have hX:∀{a:Addr} {u:Value},w.cell? a=some u→(∀o,(w.alloc o).cell? a=some u)∧∀o o',((w.alloc o).alloc o').cell? a=some u:=fun hc=>⟨fun o=>cell_keeps (bR.alloc (Nat.le_refl _) _) hc,fun o o'=>cell_keeps ((bR.alloc (Nat.le_refl _) o).alloc sI o') hc⟩;obtain⟨c1',c1''⟩:=hX c1;obtain⟨a0',a0''⟩:=hX a0;obtain⟨a1',a1''⟩:=hX a1;obtain⟨a2',a2''⟩:=hX a2;obtain⟨b0',b0''⟩:=hX b0;obtain⟨b1',b1''⟩:=hX b1;obtain⟨b2',b2''⟩:=hX b2;clear hX;obtain⟨fn,rfl⟩:=Int.eq_ofNat_of_zero_le hf0;obtain⟨tn,rfl⟩:=Int.eq_ofNat_of_zero_le ht0;obtain⟨fm,rfl⟩:=Int.eq_ofNat_of_zero_le hf2
 obtain⟨tm,rfl⟩:=Int.eq_ofNat_of_zero_le ht2;have HL:=fun W=>loop192 (fn:Int) tn ah W;have H127:=fun W=>alike127 (fn:Int) tn fm tm ah bh W;have HI1:=fun {W:World} (h:WK t tl B W p v d)=>is193 h fn oM 0;have HI2:=fun {W:World} (h:WK t tl B W p v d)=>is193 h tn oM 0;have hloop:(Line.mk (fn:Int) tn ah).loop=((fn:Int)==(tn:Int)):=by unfold Line.loop;rfl
 rw[←hloop]at HL;have halike:(Line.mk (fn:Int) tn ah).alike ⟨fm,tm,bh⟩=(decide (min (fn:Int) tn=min (fm:Int) tm)&&decide (max (fn:Int) tn=max (fm:Int) tm)):=rfl;rw[←halike]at H127;clear halike hloop;have hlo:(Line.mk (fn:Int) tn ah).lo=min (fn:Int) tn:=rfl;rw[hlo];clear hlo;generalize (Line.mk (fn:Int) tn ah).loop=bl at HL ⊢;generalize (Line.mk (fn:Int) tn ah).alike ⟨fm,tm,bh⟩=ba at H127 ⊢;obtain⟨k1,hk1⟩:∃k1,k1=(d.kindAt fn==0):=⟨_,rfl⟩;obtain⟨k2,hk2⟩:∃k2,k2=(d.kindAt tn==0):=⟨_,rfl⟩;obtain⟨r1,hr1⟩:∃r1,r1=d.bent ⟨fn,tn,ah⟩:=⟨_,rfl⟩;obtain⟨r2,hr2⟩:∃r2,r2=d.bent ⟨fm,tm,bh⟩:=⟨_,rfl⟩;rw[←hr1,←hr2];have HB1:=fun {W:World} (h:WK t tl B W p v d)=>bent52 h fn tn ah oM oM
 have HB2:=fun {W:World} (h:WK t tl B W p v d)=>bent52 h fm tm bh oM oM;rw[←hr1]at HB1;rw[←hr2]at HB2;rw[←hk1]at HI1;rw[←hk2]at HI2
 obtain⟨M,hM⟩:∃M:Made,M=if j≤i∨bl=true∨ba=false∨d.kindAt fn=0∨d.kindAt tn=0 then none
  else pairM d i j (min fn tn) r1 r2:=⟨_,rfl⟩
 rw[←hM]
 have HM0:Aside (bl=true∨ba=false∨k1=true∨k2=true→M=none):=by
  intro h0;rw[hM,if_pos];rw[hk1,hk2]at h0;simpa [hij] using h0
 have HM1:Aside (bl=false→ba=true→k1=false→k2=false→M=pairM d i j (min fn tn) r1 r2):=by
  intro h1 h2 h3 h4;rw[hM,if_neg];rw[hk1]at h3;rw[hk2]at h4;have h3':¬d.kindAt fn=0:=by simpa using h3
  have h4':¬d.kindAt tn=0:=by simpa using h4
  simp[hij,h1,h2,h3',h4']
 clear hM hk1 hk2 hr1 hr2;go_enter Tryz.func188,Tryz.ntmps188
 go_upto_region 3 with fail
 go_cut [8,9] (fun s8 s9 wx=>∃qa qb,s8=pt qa 0∧s9=pt qb 0∧Below w.heap.size w wx∧Blk wx qa [fn,tn, .bool ah] 77∧Blk wx qb [fm,tm, .bool bh] 77∧w.heap.size≤qa∧w.heap.size≤qb)
 case first=>
  go_region
  all_goals (go_wp2_with fail;go_meet)
  · obtain⟨h1,h2,h3⟩:=two_new w #[fn,tn, .bool ah] #[fm,tm, .bool bh] 77 77;exact⟨_,_,rfl,rfl,h1,h2,h3,Nat.le_refl _,Nat.le_succ _⟩
  obtain⟨h1,h2,h3⟩:=two_new w #[fm,tm, .bool bh] #[fn,tn, .bool ah] 77 77;exact⟨_,_,rfl,rfl,h1,h3,h2,Nat.le_succ _,Nat.le_refl _⟩
 obtain⟨qa,qb,rfl,rfl,hQ,hBa,hBb,hqa,hqb⟩:=hcut;clear c1' c1'' a0' a0'' a1' a1'' a2' a2'' b0' b0'' b1' b1'' b2' b2'' a0 a1 a2 b0 b1 b2 c1;have hK:=HK.out.below (hQ.mono (Nat.le_refl _));obtain⟨x0,x1,x2⟩:_∧_∧_:=⟨hBa.cell 0 _ rfl,hBa.cell 1 _ rfl,hBa.cell 2 _ rfl⟩;obtain⟨y0,y1,y2⟩:_∧_∧_:=⟨hBb.cell 0 _ rfl,hBb.cell 1 _ rfl,hBb.cell 2 _ rfl⟩
 have hmin:∃mn:Nat,(mn:Int)=min (fn:Int) tn∧mn<d.sp.length∧(((tn:Int)<fn∧mn=tn)∨(¬(tn:Int)<fn∧mn=fn)):=by
  by_cases h9:(tn:Int)<fn
  · exact⟨tn,oM,oM, .inl ⟨h9,rfl⟩⟩
  exact⟨fn,oM,oM, .inr ⟨h9,rfl⟩⟩
 cases bl with
 | true=>
  go_wp2_with (first|(go_at_call 192;(with_reducible refine(HL _).mono ?_);rintro e w2 ⟨rfl,hb⟩;replace hQ:=below_then hQ hb;replace hBa:=hBa.below hb;replace hBb:=hBb.below hb;replace hK:=hK.below hb;clear x0 x1 x2 y0 y1 y2;obtain⟨x0,x1,x2⟩:_∧_∧_:=⟨hBa.cell 0 _ rfl,hBa.cell 1 _ rfl,hBa.cell 2 _ rfl⟩;obtain⟨y0,y1,y2⟩:_∧_∧_:=⟨hBb.cell 0 _ rfl,hBb.cell 1 _ rfl,hBb.cell 2 _ rfl⟩;clear hb HL))
  refine bodyPost_ret (v:= .tuple #[.bool false, .int .i64 0]) (by simp[results,Tryz.results188,go_sem]) rfl (by rw[HM0.out sI];exact RuleR.none 0 ((Touch.of_below hQ).mono sI))
 | false=>
  cases ba with
  | false=>
   go_wp2_with (first|(go_at_call 192;(with_reducible refine(HL _).mono ?_);rintro e w2 ⟨rfl,hb⟩;replace hQ:=below_then hQ hb;replace hBa:=hBa.below hb;replace hBb:=hBb.below hb;replace hK:=hK.below hb;clear x0 x1 x2 y0 y1 y2;obtain⟨x0,x1,x2⟩:_∧_∧_:=⟨hBa.cell 0 _ rfl,hBa.cell 1 _ rfl,hBa.cell 2 _ rfl⟩;obtain⟨y0,y1,y2⟩:_∧_∧_:=⟨hBb.cell 0 _ rfl,hBb.cell 1 _ rfl,hBb.cell 2 _ rfl⟩;clear hb HL)|(go_at_call 127;(with_reducible refine(H127 _).mono ?_);rintro e w2 ⟨rfl,hb⟩;replace hQ:=below_then hQ hb;replace hBa:=hBa.below hb;replace hBb:=hBb.below hb;replace hK:=hK.below hb;clear x0 x1 x2 y0 y1 y2;obtain⟨x0,x1,x2⟩:_∧_∧_:=⟨hBa.cell 0 _ rfl,hBa.cell 1 _ rfl,hBa.cell 2 _ rfl⟩;obtain⟨y0,y1,y2⟩:_∧_∧_:=⟨hBb.cell 0 _ rfl,hBb.cell 1 _ rfl,hBb.cell 2 _ rfl⟩;clear hb H127))
   refine bodyPost_ret (v:= .tuple #[.bool false, .int .i64 0]) (by simp[results,Tryz.results188,go_sem]) rfl (by rw[HM0.out sI];exact RuleR.none 0 ((Touch.of_below hQ).mono sI))
  | true=>
   cases k1 with
   | true=>
    go_wp2_with (first|(go_at_call 192;(with_reducible refine(HL _).mono ?_);rintro e w2 ⟨rfl,hb⟩;replace hQ:=below_then hQ hb;replace hBa:=hBa.below hb;replace hBb:=hBb.below hb;replace hK:=hK.below hb;clear x0 x1 x2 y0 y1 y2;obtain⟨x0,x1,x2⟩:_∧_∧_:=⟨hBa.cell 0 _ rfl,hBa.cell 1 _ rfl,hBa.cell 2 _ rfl⟩;obtain⟨y0,y1,y2⟩:_∧_∧_:=⟨hBb.cell 0 _ rfl,hBb.cell 1 _ rfl,hBb.cell 2 _ rfl⟩;clear hb HL)|(go_at_call 127;(with_reducible refine(H127 _).mono ?_);rintro e w2 ⟨rfl,hb⟩;replace hQ:=below_then hQ hb;replace hBa:=hBa.below hb;replace hBb:=hBb.below hb;replace hK:=hK.below hb;clear x0 x1 x2 y0 y1 y2;obtain⟨x0,x1,x2⟩:_∧_∧_:=⟨hBa.cell 0 _ rfl,hBa.cell 1 _ rfl,hBa.cell 2 _ rfl⟩;obtain⟨y0,y1,y2⟩:_∧_∧_:=⟨hBb.cell 0 _ rfl,hBb.cell 1 _ rfl,hBb.cell 2 _ rfl⟩;clear hb H127)|(go_at_call 193;(with_reducible refine(HI1 hK).mono ?_);rintro e w2 ⟨rfl,rfl⟩;clear HI1))
    refine bodyPost_ret (v:= .tuple #[.bool false, .int .i64 0]) (by simp[results,Tryz.results188,go_sem]) rfl (by rw[HM0.out sI];exact RuleR.none 0 ((Touch.of_below hQ).mono sI))
   | false=>
    cases k2 with
    | true=>
     go_wp2_with (first|(go_at_call 192;(with_reducible refine(HL _).mono ?_);rintro e w2 ⟨rfl,hb⟩;replace hQ:=below_then hQ hb;replace hBa:=hBa.below hb;replace hBb:=hBb.below hb;replace hK:=hK.below hb;clear x0 x1 x2 y0 y1 y2;obtain⟨x0,x1,x2⟩:_∧_∧_:=⟨hBa.cell 0 _ rfl,hBa.cell 1 _ rfl,hBa.cell 2 _ rfl⟩;obtain⟨y0,y1,y2⟩:_∧_∧_:=⟨hBb.cell 0 _ rfl,hBb.cell 1 _ rfl,hBb.cell 2 _ rfl⟩;clear hb HL)|(go_at_call 127;(with_reducible refine(H127 _).mono ?_);rintro e w2 ⟨rfl,hb⟩;replace hQ:=below_then hQ hb;replace hBa:=hBa.below hb;replace hBb:=hBb.below hb;replace hK:=hK.below hb;clear x0 x1 x2 y0 y1 y2;obtain⟨x0,x1,x2⟩:_∧_∧_:=⟨hBa.cell 0 _ rfl,hBa.cell 1 _ rfl,hBa.cell 2 _ rfl⟩;obtain⟨y0,y1,y2⟩:_∧_∧_:=⟨hBb.cell 0 _ rfl,hBb.cell 1 _ rfl,hBb.cell 2 _ rfl⟩;clear hb H127)|(go_at_call 193;(with_reducible refine(HI1 hK).mono ?_);rintro e w2 ⟨rfl,rfl⟩;clear HI1)|(go_at_call 193;(with_reducible refine(HI2 hK).mono ?_);rintro e w2 ⟨rfl,rfl⟩;clear HI2))
     refine bodyPost_ret (v:= .tuple #[.bool false, .int .i64 0]) (by simp[results,Tryz.results188,go_sem]) rfl (by rw[HM0.out sI];exact RuleR.none 0 ((Touch.of_below hQ).mono sI))
    | false=>
     go_upto_region 6 with(first|(go_at_call 192;(with_reducible refine(HL _).mono ?_);rintro e w2 ⟨rfl,hb⟩;replace hQ:=below_then hQ hb;replace hBa:=hBa.below hb;replace hBb:=hBb.below hb;replace hK:=hK.below hb;clear x0 x1 x2 y0 y1 y2;obtain⟨x0,x1,x2⟩:_∧_∧_:=⟨hBa.cell 0 _ rfl,hBa.cell 1 _ rfl,hBa.cell 2 _ rfl⟩;obtain⟨y0,y1,y2⟩:_∧_∧_:=⟨hBb.cell 0 _ rfl,hBb.cell 1 _ rfl,hBb.cell 2 _ rfl⟩;clear hb HL)|(go_at_call 127;(with_reducible refine(H127 _).mono ?_);rintro e w2 ⟨rfl,hb⟩;replace hQ:=below_then hQ hb;replace hBa:=hBa.below hb;replace hBb:=hBb.below hb;replace hK:=hK.below hb;clear x0 x1 x2 y0 y1 y2;obtain⟨x0,x1,x2⟩:_∧_∧_:=⟨hBa.cell 0 _ rfl,hBa.cell 1 _ rfl,hBa.cell 2 _ rfl⟩;obtain⟨y0,y1,y2⟩:_∧_∧_:=⟨hBb.cell 0 _ rfl,hBb.cell 1 _ rfl,hBb.cell 2 _ rfl⟩;clear hb H127)|(go_at_call 193;(with_reducible refine(HI1 hK).mono ?_);rintro e w2 ⟨rfl,rfl⟩;clear HI1)|(go_at_call 193;(with_reducible refine(HI2 hK).mono ?_);rintro e w2 ⟨rfl,rfl⟩;clear HI2))
     refine wp_region_mono kR (fun x=>{tmps:=#[pt p 0, .int .i64 ↑i, .int .i64 ↑j,undef,undef,undef, .bool false, .int .i64 0,pt qa 0,pt qb 0,x 10,x 11,u12,u13,u14,u15,u16,u17,u18,u19,u20,u21,u22,u23,u24,u25,u26,u27,u28,u29,u30, .agg #[.int .i64 ↑fn, .int .i64 ↑tn, .bool ah], .bool false, .bool false, .agg #[.int .i64 ↑fn, .int .i64 ↑tn, .bool ah], .agg #[.int .i64 ↑fm, .int .i64 ↑tm, .bool bh], .bool true, .bool false, .bool false, .bool false,pt p 0,pt qa 0, .int .i64 ↑fn, .bool false, .bool false, .bool false,pt p 0,pt qa 1, .int .i64 ↑tn, .bool false, .bool false,x 51,x 52,x 53,x 54,x 55,x 56,u57,u58,u59,u60,u61,u62,u63,u64,u65,u66,u67,u68,u69,u70,u71,u72,u73,u74,u75,u76,u77,u78,u79,u80,u81,u82,u83,u84,u85,u86,u87,u88,undef,u90,u91,u92,u93,u94,u95,undef,u97,u98,u99,u100,u101,u102,u103,u104,u105,u106,u107,u108,u109,u110,u111],defers:=[]}) (fun j=>match j with|51=>u51|52=>u52|53=>u53|54=>u54|55=>u55|56=>u56|_=>undef) rfl (fun u=>Below w.heap.size w u∧WK t tl B u p v d∧Blk u qa [.int .i64 fn, .int .i64 tn, .bool ah] 77∧Blk u qb [.int .i64 fm, .int .i64 tm, .bool bh] 77) (fun j=>match j with|0=>[51]|1=>[52]|2=>[53]|3=>[54]|4=>[55]|5=>[56]|6=>[10]|7=>[11]|_=>[]) (fun j x u=>match j with|0=>x 51=pt p 0|1=>x 52= .agg #[.int .i64 fn, .int .i64 tn, .bool ah]|2=>x 53= .bool r1|3=>x 54=pt p 0|4=>x 55= .agg #[.int .i64 fm, .int .i64 tm, .bool bh]|5=>x 56= .bool r2|6=>x 10= .bool r1|7=>x 11= .bool r2|_=>True) kR ?hput kR kR ?h0 ?hkeep ?hloc ?hstep ?hend
     case hput=>repeat' first|exact True.intro|apply And.intro|(intro d hd x v;cases hd<;>rfl)
     case hloc=>repeat' first|exact True.intro|apply And.intro|exact fun x x' u h ht=>ht|(intro x x' u h ht;simp only[List.mem_cons,List.not_mem_nil,or_false,forall_eq_or_imp,forall_eq]at h;simp only[h]at ht;exact ht)
     case hstep=>
      refine⟨?_,?c1,?c2,?_,?c4,?c5,?_,?_,trivial⟩
      case c1=>
       intro x u hG hd K hK;clear hd;have x0:=hG.2.2.1.cell 0 _ rfl;have x1:=hG.2.2.1.cell 1 _ rfl;have x2:=hG.2.2.1.cell 2 _ rfl;go_simp
       exact hK _ _ rfl bR hG
      case c2=>
       intro x u hG hd K hK;have e0:x 51=pt p 0:=hd ⟨0, .data⟩ sI rfl;have e1:x 52= .agg #[fn,tn, .bool ah]:=hd ⟨1, .data⟩ sI rfl;clear hd;simp only[e0,e1]at hK ⊢;go_simp
       (with_reducible refine(HB1 hG.2.1).mono ?_);rintro e w9 ⟨rfl,hb⟩
       exact hK _ _ rfl hb ⟨below_then hG.1 hb,hG.2.1.below hb,hG.2.2.1.below hb,hG.2.2.2.below hb⟩
      case c4=>
       intro x u hG hd K hK;clear hd;have x0:=hG.2.2.2.cell 0 _ rfl;have x1:=hG.2.2.2.cell 1 _ rfl;have x2:=hG.2.2.2.cell 2 _ rfl;go_simp
       exact hK _ _ rfl bR hG
      case c5=>
       intro x u hG hd K hK;have e3:x 54=pt p 0:=hd ⟨3, .data⟩ sI rfl;have e4:x 55= .agg #[fm,tm, .bool bh]:=hd ⟨4, .data⟩ sI rfl;clear hd;simp only[e3,e4]at hK ⊢;go_simp
       (with_reducible refine(HB2 hG.2.1).mono ?_);rintro e w9 ⟨rfl,hb⟩
       exact hK _ _ rfl hb ⟨below_then hG.1 hb,hG.2.1.below hb,hG.2.2.1.below hb,hG.2.2.2.below hb⟩
      all_goals
       intro x u hG hd K hK;dsimp only at hd;simp only[eB]at hd
       try simp only[hd]at hK ⊢
       go_simp;exact hK _ _ rfl bR hG
     case h0=>exact⟨hQ.drew,hK.drew,hBa.drew,hBb.drew⟩
     case hkeep=>
      intro j x u u' ht hG hb;exact ht
     rintro x u ⟨hQ6,hK6,hA6,hB6⟩ ⟨_,_,e2,_,_,e5,e6,e7,_⟩;generalize x 10=z10 at e6 ⊢;subst e6;generalize x 11=z11 at e7 ⊢;subst e7;obtain⟨mn,hmn,hml,hmc⟩:=hmin;clear e2 e5 x0 x1 x2 y0 y1 y2 HB1 HB2 hQ hK hBa hBb HM0;have hx:=hK6.nine.2.1;rw[HA.out]at hx;have hol:=hK6.own.ln;rw[HA.out]at hol;have HU6:Aside (Upd p v w v u):=(Upd.refl p v w).then_below hQ6;have hplt:p<w.heap.size:=HK.out.lt;have hblt:∀b∈blks v,b<w.heap.size:=fun b hb=>(HK.out.own.lt b hb).2
     have HQa:Aside (∀v' u',Upd p v u v' u'→u'.cell? ⟨qa,0,none⟩=some (.int .i64 fn)∧u'.cell? ⟨qa,1,none⟩=some (.int .i64 tn)):=by
      intro v' u' hu;have hb:=hA6.upd ⟨hA6.lt,oM,fun hm=>by have:=hblt _ hm;omega⟩ hu;exact⟨hb.cell 0 _ rfl,hb.cell 1 _ rfl⟩
     have HS:Aside (d.Ok):=HO.out;have hph:∀s∈d.sp,0≤s.phase∧s.phase≤7:=fun s hs=>(HO.out.sp s hs).2;have hwi:IntKind.i64.wrap ((i:Int)+1)=(i:Int)+1:=IntWalk.i64_in _ oM;have hwj:IntKind.i64.wrap ((j:Int)+1)=(j:Int)+1:=IntWalk.i64_in _ oM;have HLi:Aside ((d.cutLn i).ln.length≤100):=by show (d.ln.eraseIdx i).length≤100;have:=eraseIdx_len hi;omega
     have HLj:Aside ((d.cutLn j).ln.length≤100):=by show (d.ln.eraseIdx j).length≤100;have:=eraseIdx_len hj;omega
     have HM2:Aside (M=pairM d i j mn r1 r2):=by rw[hmn];exact HM1.out sI sI sI sI
     have H194i:=del194 (some ⟨g,0,none⟩) v.n2 v.c2 i B d.ln u hol oM oM;have H194j:=del194 (some ⟨g,0,none⟩) v.n2 v.c2 j B d.ln u hol oM oM;clear hA6 hB6 hQ6 hplt hblt hol HM1 hmn
     rcases hmc with⟨h9,rfl⟩|⟨h9,rfl⟩
     all_goals
      cases r1 with
      | false=>
       cases r2 with
       | false=>
        go_wp2_with (first|(go_at_call 194;(with_reducible refine H194j.mono ?_);rintro e w3 ⟨rfl,ho3,hT3⟩;obtain⟨hK7,hU7,hc7,hf7⟩:=cut_put hK6 HA.out hT3 ho3;obtain⟨q0,q1⟩:=HQa.out _ _ hU7;have H195:=add195 hK7 mn hml 4 dE dE hph;clear hx))
        refine bodyPost_ret (v:= .tuple #[.bool true, .int .i64 0]) (by simp[results,Tryz.results188,go_sem]) rfl (by rw[HM2.out];exact RuleR.id hK7 (HU6.out.trans hU7) HLj.out)
       | true=>
        go_wp2_with (first|(go_at_call 194;(with_reducible refine H194j.mono ?_);rintro e w3 ⟨rfl,ho3,hT3⟩;obtain⟨hK7,hU7,hc7,hf7⟩:=cut_put hK6 HA.out hT3 ho3;obtain⟨q0,q1⟩:=HQa.out _ _ hU7;have H195:=add195 hK7 mn hml 4 dE dE hph;clear hx)|(go_at_call 195;(with_reducible refine H195.mono ?_);rintro e w4 ⟨⟨z4,rfl⟩,hK8,hU8⟩;have hU9:=(HU6.out.trans hU7).trans hU8;have H81:=power81 hK8 (HGl.out.upd HK.out hU9 hN) hN (-1) dE dE HS.out.sc;clear H195 q0 q1)|(go_at_call 81;(with_reducible refine H81.mono ?_);rintro e w5 ⟨rfl,hK9,hU10⟩;clear H81))
        refine bodyPost_ret (v:= .tuple #[.bool true, .int .i64 (((d.cutLn j).addPh mn 4).sc.power (-1)).2]) (by simp[results,Tryz.results188,go_sem]) rfl (by rw[HM2.out];exact RuleR.pow (-1) hK9 (hU9.trans hU10) HLj.out)
      | true=>
       cases r2 with
       | false=>
        go_wp2_with (first|(go_at_call 194;(with_reducible refine H194i.mono ?_);rintro e w3 ⟨rfl,ho3,hT3⟩;obtain⟨hK7,hU7,hc7,hf7⟩:=cut_put hK6 HA.out hT3 ho3;obtain⟨q0,q1⟩:=HQa.out _ _ hU7;have H195:=add195 hK7 mn hml 4 dE dE hph;clear hx)|(go_at_call 195;(with_reducible refine H195.mono ?_);rintro e w4 ⟨⟨z4,rfl⟩,hK8,hU8⟩;have hU9:=(HU6.out.trans hU7).trans hU8;have H81:=power81 hK8 (HGl.out.upd HK.out hU9 hN) hN (-1) dE dE HS.out.sc;clear H195 q0 q1)|(go_at_call 81;(with_reducible refine H81.mono ?_);rintro e w5 ⟨rfl,hK9,hU10⟩;clear H81))
        refine bodyPost_ret (v:= .tuple #[.bool true, .int .i64 (((d.cutLn i).addPh mn 4).sc.power (-1)).2]) (by simp[results,Tryz.results188,go_sem]) rfl (by rw[HM2.out];exact RuleR.pow (-1) hK9 (hU9.trans hU10) HLi.out)
       | true=>
        have hi2:i<(d.cutLn j).ln.length:=by show i<(d.ln.eraseIdx j).length;have:=eraseIdx_len hj;omega
        have hiz2:(i:Int)<((v.n2-1:Nat):Int):=oM
        have HLij:Aside (((d.cutLn j).cutLn i).ln.length≤100):=by show ((d.ln.eraseIdx j).eraseIdx i).length≤100;have h1:=eraseIdx_len hj;have h2:=eraseIdx_len (l:=d.ln.eraseIdx j) hi2;omega
        have HD2:=fun W (ho:World.ownsRow W B 77 3 (.slice (some ⟨g,0,none⟩) (v.n2-1) v.c2) (v.n2-1) ((d.cutLn j).ln.flatMap lnC))=>del194 (some ⟨g,0,none⟩) (v.n2-1) v.c2 i B (d.cutLn j).ln W ho oM oM;clear H194i
        go_wp2_with (first|(go_at_call 194;(with_reducible refine H194j.mono ?_);rintro e w3 ⟨rfl,ho3,hT3⟩;obtain⟨hK7,hU7,hc7,hf7⟩:=cut_put hK6 HA.out hT3 ho3;have hx7:=hK7.nine.2.1;have hol7:=hK7.own.ln;clear hx H194j)|(go_at_call 194;(with_reducible refine(HD2 _ hol7).mono ?_);rintro e w4 ⟨rfl,ho4,hT4⟩;obtain⟨hK8,hU8,hc8,hf8⟩:=cut_put hK7 rfl hT4 ho4;have hU9:=(HU6.out.trans hU7).trans hU8;have H81:=power81 hK8 (HGl.out.upd HK.out hU9 hN) hN (-2) dE dE HS.out.sc;clear HD2 hx7 hol7)|(go_at_call 81;(with_reducible refine H81.mono ?_);rintro e w5 ⟨rfl,hK9,hU10⟩;clear H81))
        refine bodyPost_ret (v:= .tuple #[.bool true, .int .i64 (((d.cutLn j).cutLn i).sc.power (-2)).2]) (by simp[results,Tryz.results188,go_sem]) rfl (by rw[HM2.out];exact RuleR.pow (-2) hK9 (hU9.trans hU10) HLij.out)
end
section
open Go.RowKit Go.Shelf
theorem at200 (p:Nat) (n:Int) (w:World):
  Calls Tryz.prog 200 #[pt p 0,n] w fun e w'=>e= .returned (.func (.func 209) #[] #[pt w.heap.size 0, .pointer (some ⟨w.heap.size+1,0,none⟩)])∧Below w.heap.size w w'∧Blk w' w.heap.size [pt p 0] 79∧Blk w' (w.heap.size+1) [n] 3:=by
 have h:=two_new w #[pt p 0] #[n] 79 3;go_enter Tryz.func200,Tryz.ntmps200
 go_wp2
 go_ret
 exact⟨by simp,⟨h.1.os,h.1.tape,h.1.output,h.1.size,h.1.block⟩,h.2.1,h.2.2⟩
end
section
open Go.RowKit Go.Shelf
variable {t:TypeId} {tl:List Value} {B:Nat} {p:Nat} {b:Nat} {k:Nat} {n:Nat} {c:Nat} {e:TypeId} {A:Option Addr} {S:List Nat} {cs:List Value} {w:World} {v:DV} {d:Diag}
attribute [local go_sem] Oper.semAt_some
theorem at209_stops (F:Fence) (m:Nat) (h209:F.fn 209) (hro:F.round=none) (hm:1≤m) (bp bn p n2 c2:Nat) (A:Option Addr) (n:Int) (L:List Line) (hL:L.length=n2) (hbig:n2≤100000) (w:World)
  (hcp:w.cell? ⟨bp,0,none⟩=some (pt p 0)) (hc1:w.cell? ⟨p,1,none⟩=some (.slice A n2 c2)):
  SeqStopsX F m Tryz.prog 209 #[pt bp 0,pt bn 0] (encL (n:=n) (L:=L)) (XL bn n A L) (fun ys=>ys.map (·.1)=ats n L) (fun pre=>∃k,pre.map (·.1)=ats n (L.take k)) L.length w:=by
 intro l J Jx W hW hJ hJx hX hY h0;exact at209_in F m h209 hro hm l bp bn p n2 c2 A n L hL hbig J Jx W hJ hX hY (cell_keeps hW hcp) (cell_keeps hW hc1) h0
theorem e209:∀args w,(callFunc 209 args).run Tryz.prog w= .ok (.enter 209 args) w:=enters_of Tryz.func209 kR rfl
def Quietly (W W':World):Prop:=∃row:Option Nat,W.grownBy W' row∧∀r,row=some r→∃o:Obj,W.heap[r]?=some o∧o.isCells=false
theorem ownsRow_cells {m:Nat} {xs:List Value} (h:w.ownsRow B e k (.slice A n c) m xs):∀b∈ownB A,∃o:Obj,w.heap[b]?=some o∧o.isCells=true:=by
 intro b hb;obtain⟨a,rfl,rfl⟩:=mem_ownB.1 hb
 rcases h.2 with⟨h1,_⟩|⟨g,cap,cur,h1,_,hg,_⟩
 · cases h1
 cases h1
 exact⟨_,hg,rfl⟩
theorem OwnD.cells (h:OwnD B w v d):∀b∈blks v,∃o:Obj,w.heap[b]?=some o∧o.isCells=true:=by
 intro b hb;simp only[blks,List.mem_append]at hb
 rcases hb with hb|hb|hb|hb
 · exact ownsRow_cells h.sp b hb
 · exact ownsRow_cells h.ln b hb
 · exact ownsRow_cells h.ins b hb
 exact ownsRow_cells h.outs b hb
theorem Quietly.touch {W W':World} (h:Quietly W W'):∃S,Touch S W W'∧∀b∈S,∃o:Obj,W.heap[b]?=some o∧o.isCells=false:=by
 obtain⟨row,hg,hr⟩:=h;exact⟨row.toList,⟨hg.os,hg.tape,hg.output,hg.size,fun k hk hn=>hg.block k hk (fun e=>hn (by simp[←e]))⟩,fun b hb=>hr b (by simpa using hb)⟩
theorem not_both {W:World} (h1:∃o:Obj,W.heap[b]?=some o∧o.isCells=true) (h2:∃o:Obj,W.heap[b]?=some o∧o.isCells=false):False:=by
 obtain⟨o,ho,hc⟩:=h1;obtain⟨o',ho',hc'⟩:=h2;rw[ho]at ho';cases ho';rw[hc]at hc';cases hc'
theorem Blk.cells (h:Blk w b cs t):∃o:Obj,w.heap[b]?=some o∧o.isCells=true:=⟨_,h,rfl⟩
theorem Blk.quietly {W W':World} (h:Blk W b cs t) (hq:Quietly W W'):Blk W' b cs t:=by
 obtain⟨S,hT,hS⟩:=hq.touch;exact h.touch hT (fun hm=>not_both h.cells (hS b hm))
theorem WK.quietly {W W':World} (h:WK t tl B W p v d) (hq:Quietly W W'):WK t tl B W' p v d:=by
 obtain⟨S,hT,hS⟩:=hq.touch;exact h.touch hT (fun hm=>not_both h.blk.cells (hS p hm)) (fun b hb hm=>not_both (h.own.cells b hb) (hS b hm))
theorem ownFrom_quietly {β:Type} {I:β→World→Prop} (h:∀s W W',I s W→Quietly W W'→I s W'):OwnFrom B I:=
 fun s W W' row hs hg hr=>h s W W' hs ⟨row,hg,fun r e=>(hr r e).2⟩
theorem ownFrom_touch {β:Type} (hB:w.heap.size≤B):OwnFrom B (fun(_:β) W=>Touch S w W):=
 fun s W W' row hs hg hr=>hs.grown hg (fun k e=> .inr (Nat.le_trans hB (hr k e).1))
theorem ownFrom_pure {β:Type} {p:β→Prop}:OwnFrom B (fun s _=>p s):=fun _ _ _ _ h _ _=>h
theorem keeps_below {W W':World} (h:Below W.heap.size W W'):KeepsFrom B W W':=⟨h.size,fun k o _ hk _=>(h.block k (Array.getElem?_eq_some_iff.1 hk).1).trans hk⟩
theorem keeps_touch {W W':World} (h:Touch S W W') (hS:∀b∈S,∃o:Obj,W.heap[b]?=some o∧o.isCells=true):KeepsFrom B W W':=
 ⟨h.size,fun k o _ hk hc=>(h.block k (Array.getElem?_eq_some_iff.1 hk).1 (fun hm=>not_both (hS k hm) ⟨o,hk,hc⟩)).trans hk⟩
theorem flips_ft (K:List Line):∀(l:List (Nat × Line)) (L:List Line),(∀x∈l,K[x.1]?=some x.2)→(∀(j:Nat) (a:Line),L[j]?=some a→∃b:Line,K[j]?=some b∧a.f=b.f∧a.t=b.t)→∀(j:Nat) (a:Line),(flips L l)[j]?=some a→∃b:Line,K[j]?=some b∧a.f=b.f∧a.t=b.t
 |[],L,_,h=>h
 | x ::l,L,hx,h=>by
  simp only[flips];refine flips_ft K l _ (fun y hy=>hx y (by simp[hy])) fun j a ha=>?_
  split at ha
  · exact h j a ha
  by_cases hj:x.1=j
  · subst hj
    have hlt:x.1<L.length:=by
     have:=(List.getElem?_eq_some_iff.1 ha).1;simpa using this
    rw[List.getElem?_set_self hlt]at ha;cases ha
    exact⟨x.2,hx x sI,rfl,rfl⟩
  rw[List.getElem?_set_ne hj]at ha;exact h j a ha
def turn1 (d:Diag) (n:Nat) (L:List Line):Diag:={d with sp:=d.sp.modify n (fun s=>⟨3-s.kind,s.phase⟩),ln:=L}
theorem turns_of (h:d.kindAt n≠0):d.turns n=some (turn1 d n (flips d.ln (ats n d.ln)),[],0):=by
 unfold Diag.turns;rw[if_neg h,flips_ats];rfl
theorem turns185 (h:WK t tl B w p v d) (hd:d.Ok) (n:Nat) (hn:n<d.sp.length) (q:Int):
  Calls Tryz.prog 185 #[pt p 0,n,q] w (RuleR t tl B p v w (d.turns n)):=by
 obtain⟨s,hs⟩:=get_of hn;obtain⟨g,hA,k0,k1,kf⟩:=h.own.spAt hs;have hK1:=h.alloc (.cells #[pt p 0] 79);have hQ1:Blk (w.alloc (.cells #[pt p 0] 79)) w.heap.size [pt p 0] 79:=Blk.new _ _ _;have hU1:Upd p v w v (w.alloc (.cells #[pt p 0] 79)):=(Upd.refl p v w).alloc _;have HIS:=is193 hK1 n hn 0;rw[kindAt_of hs]at HIS
 by_cases hk:s.kind=0
 · have hM:d.turns n=none:=by unfold Diag.turns;rw[kindAt_of hs,if_pos hk]
   rw[hM];rw[show (s.kind==0)=true by simp[hk]]at HIS;have HT:Aside (Touch (p::blks v) w (w.alloc (.cells #[pt p 0] 79))):=hU1.t;clear hM hk hs k0 k1 kf hK1 h hU1 hQ1;go_enter Tryz.func185,Tryz.ntmps185
   go_wp2_with (first|(go_at_call 193;(with_reducible refine HIS.mono ?_);rintro e w2 ⟨rfl,rfl⟩))
   refine bodyPost_ret (v:= .tuple #[.bool false, .int .i64 0]) (by simp[results,Tryz.results185,go_sem]) rfl (RuleR.none 0 HT.out)
 have hne:d.kindAt n≠0:=by rw[kindAt_of hs];exact hk
 rw[turns_of hne];rw[show (s.kind==0)=false by simpa using hk]at HIS;obtain⟨⟨hs0,hs1⟩,_⟩:=hd.sp _ (List.mem_of_getElem? hs);have hlen:=h.len;have hn1:=hd.n1;have hn2:=hd.n2;have hw3:IntKind.i64.wrap (3-s.kind)=3-s.kind:=IntWalk.i64_in _ oM
 have hpn:g≠p:=by
  have:=h.np;rintro rfl;exact this (by simp[blks,hA,ownB])
 have hlt:n<v.n1:=oM
 have hltz:(n:Int)<(v.n1:Int):=oM
 refine(callsIn_wide (n:=6)).1 (callsIn_of_wp_marks Tryz.func185 rfl trivial ?_ rfl)
 simp only[Tryz.ntmps185,List.size_toArray,List.length_cons,List.length_nil,Nat.reduceAdd,Nat.reduceSub,Array.replicate_succ,Array.replicate_zero,List.push_toArray,List.append_toArray,List.nil_append,List.cons_append];refine wpIn_wide.2 ?_
 go_wp2_with fail
 have hAq:Aprt w.heap.size p v (w.alloc (.cells #[pt p 0] 79)):=h.new_aprt _;generalize w.alloc (.cells #[pt p 0] 79)=W1 at hK1 hQ1 hU1 HIS hAq ⊢;have HK1:Aside (WK t tl B W1 p v d):=hK1;obtain⟨c0,c1,_,_,_,_,_,_,_,cf⟩:=hK1.nine;obtain⟨g',hA',k0',k1',kf'⟩:=hK1.own.spAt hs;rw[hA]at hA' c0;cases hA'
 have hb0:=hQ1.cell 0 _ rfl;clear k0 k1 kf
 have HR:Aside (WK t tl B (W1.setCell ⟨g,n*2+0,none⟩ (.int .i64 (3-s.kind))) p v (turn1 d n d.ln)∧Upd p v W1 v (W1.setCell ⟨g,n*2+0,none⟩ (.int .i64 (3-s.kind)))):=by
  have:=hK1.rowSp hA hs 0 dE (.int .i64 (3-s.kind)) (y:=⟨3-s.kind,s.phase⟩) rfl;unfold turn1;rw[modify_set hs];exact this
 have HQ1:Aside (Blk W1 w.heap.size [pt p 0] 79):=hQ1;have HU1:Aside (Upd p v w v W1):=hU1;have HD:Aside (d.Ok):=hd;have HAq:Aside (Aprt w.heap.size p v W1):=hAq;have HS:Aside (d.sp[n]?=some s):=hs;have HA:Aside (v.A1=some ⟨g,0,none⟩):=hA;generalize hRR:RuleR t tl B p v w (some (turn1 d n (flips d.ln (ats (↑n) d.ln)),[],0))=RR;have HRR:Aside (RuleR t tl B p v w (some (turn1 d n (flips d.ln (ats (↑n) d.ln)),[],0))=RR):=hRR
 (with_reducible refine HIS.mono ?_)
 rintro e w2 ⟨rfl,rfl⟩;generalize s.kind=sk at *;clear hRR hAq hK1 hQ1 hU1 HIS hd hs hA hlen hne hn k1' hk h hn1 hn2 hs0 hs1;go_wp2_with fail
 refine wp_region_F [(13,18)] (fun l u=>(l 18=true→u=(W1.drew.setCell ⟨g,n*2,none⟩ (.int .i64 (3-sk))))∧(l 18=false→u=W1.drew)) (fun i u u'=>True) (fun j x u=>match j with|0=>x 13=pt p 0|1=>x 14=pt p 0|2=>x 15=pt p 0|3=>x 16=pt p 0|4=>x 17= .slice (some ⟨g,0,none⟩) v.n1 v.c1|5=>x 18=n|6=>x 19=pt p 0|7=>x 20=pt p 0|8=>x 21=pt p 0|9=>x 22=pt p 0|10=>x 23= .slice (some ⟨g,0,none⟩) v.n1 v.c1|11=>x 24=n|12=>x 25= .pointer (some ⟨g,n*2,none⟩)|13=>x 26= .pointer (some ⟨g,n*2,none⟩)|14=>x 27=sk|15=>x 28= .int .i64 (3-sk)|16=>x 29= .pointer (some ⟨g,n*2,none⟩)|17=>x 30= .pointer (some ⟨g,n*2,none⟩)|18=>True|_=>True) ?h0 ?hkeep ?hstep ?d0
 case h0=>exact⟨(fun h=>by cases h),fun _=>rfl⟩
 case hkeep=>
  intro j i x l u u' hj hi hpre ht hG hR;exact ht
 case hstep=>
  dsimp only[fil,fls,fl,List.toList_toArray,Nat.reduceAdd];refine⟨?_,?_,?_,?_,?_,?_,?_,?_,?_,?_,?_,?_,?_,?_,?_,?_,?_,?_,?c18,trivial⟩
  all_goals intro l x u hG hno hli hpre hd K hK
  case c18=>
   have e17:x 30= .pointer (some ⟨g,n*2,none⟩):=hd ⟨17, .data⟩ sI rfl;have e15:x 28= .int .i64 (3-sk):=hd ⟨15, .data⟩ sI rfl;clear hd;simp only[e17,e15]at hK ⊢;obtain rfl:=hG.2 hli;go_simp
   exact hK undef _ trivial trivial ⟨fun _=>rfl,fun h=>by simp at h⟩
  all_goals
   dsimp only at hd;simp only[eB]at hd
   try simp only[hd]at hK ⊢
   first|(go_simp;exact hK _ _ rfl trivial sG)|(obtain rfl:=hG.2 (hno 18 kR);go_simp;exact hK _ _ rfl trivial sG)
 dsimp only[fil,fls,fl,List.toList_toArray,Nat.reduceAdd];intro l0 x0 u hall hG hT;obtain rfl:=hG.1 (hall _ dE);clear hG hall hT;have hK2:WK t tl B (W1.drew.setCell ⟨g,n*2,none⟩ (.int .i64 (3-sk))) p v (turn1 d n d.ln):=HR.out.1.drew;have hU2:Upd p v w v (W1.drew.setCell ⟨g,n*2,none⟩ (.int .i64 (3-sk))):=HU1.out.trans HR.out.2.drew;have hQ2:Blk (W1.drew.setCell ⟨g,n*2,none⟩ (.int .i64 (3-sk))) w.heap.size [pt p 0] 79:=HQ1.out.upd HAq.out HR.out.2.drew;have hA2:Aprt w.heap.size p v (W1.drew.setCell ⟨g,n*2,none⟩ (.int .i64 (3-sk))):=HAq.out.upd HR.out.2.drew;clear c0 c1 k0' hb0 HR HK1 HQ1 HU1 HAq;generalize W1.drew.setCell ⟨g,n*2,none⟩ (.int .i64 (3-sk))=W2 at *;have hb0:=hQ2.cell 0 _ rfl;have HK2:Aside (WK t tl B W2 p v (turn1 d n d.ln)):=hK2;have HU2:Aside (Upd p v w v W2):=hU2
 have HQ2:Aside (Blk W2 w.heap.size [pt p 0] 79):=hQ2;have HA2:Aside (Aprt w.heap.size p v W2):=hA2;clear hK2 hU2 hQ2 hA2;go_wp2_with fail
 (with_reducible refine(at200 p n W2).mono ?_)
 rintro e w3 ⟨rfl,hb3,hbp,hbn⟩;go_wp2_with fail
 have HK3:Aside (WK t tl B w3 p v (turn1 d n d.ln)):=HK2.out.below hb3;have HU3:Aside (Upd p v w v w3):=HU2.out.then_below hb3;have HQ3:Aside (Blk w3 w.heap.size [pt p 0] 79):=HQ2.out.below hb3;have HA3:Aside (Aprt w.heap.size p v w3):=HA2.out.le hb3.size;have hbw:w.heap.size<W2.heap.size:=HQ2.out.lt
 have HKW:Aside (∀b,b=p∨b∈blks v→b<W2.heap.size):=by
  rintro b (rfl|hb)
  · exact HK2.out.lt
  exact(HK2.out.own.lt b hb).2
 have HN2:Aside (d.ln.length=v.n2∧v.n2≤100):=⟨HK2.out.len.2.1,by have:=HD.out.n2;have:=HK2.out.len.2.1;unfold turn1 at this;dsimp only at this;omega⟩;have HA4:Aside (Aprt (W2.heap.size+1) p v w3):=⟨hbn.lt,by have:=HKW.out p (.inl rfl);omega,fun hm=>by have:=HKW.out _ (.inr hm);omega⟩;have HW3:Aside (w.heap.size≤w3.heap.size):=HU3.out.t.size;refine(wpIn_wide (n:=6)).1 ?_
 refine wpIn_rangeX (F:=Fence.wide) (n:=6) rfl dE (gf:=209) rfl trivial e209
  (at209_stops Fence.wide 5 trivial rfl dE W2.heap.size (W2.heap.size+1) p v.n2 v.c2 v.A2 n d.ln HN2.out.1 (by have:=HN2.out.2;omega) w3 (hbp.cell 0 _ rfl) HK3.out.nine.2.1) bR (fun _=>rfl)
  (fun pre W=>(WK t tl B W p v (turn1 d n (flips d.ln (pre.map (·.1))))∧Touch (p::blks v) w W)∧Blk W w.heap.size [pt p 0] 79∧Blk W (W2.heap.size+1) [n] 3)
  (fun _ _ _=>False) (OwnFrom.and (OwnFrom.and (ownFrom_quietly fun _ _ _ h hq=>h.quietly hq) (ownFrom_touch HW3.out)) (ownFrom_quietly fun _ _ _ h hq=>⟨h.1.quietly hq,h.2.quietly hq⟩)) (fun _ _ _ _ _ hs _ _=>hs) ?hX
  ⟨⟨HK3.out,HU3.out.t⟩,HQ3.out,hbn⟩
  (fun y a' W=>∃bx,Aprt bx p v W∧bx≠w.heap.size∧bx≠W2.heap.size+1∧Blk W bx [y.1.2.f,y.1.2.t, .bool y.1.2.hat] 77∧a'={tmps:=#[pt p 0,n,q,pt w.heap.size 0,undef,undef, .bool false, .int .i64 0, .int .i64 (y.1.1:Int),pt bx 0,pt p 0,n, .bool false,x0 13,x0 14,x0 15,x0 16,x0 17,x0 18,x0 19,x0 20,x0 21,x0 22,x0 23,x0 24,x0 25,x0 26,x0 27,x0 28,x0 29,x0 30,pt p 0,n, .func (.func 209) #[] #[pt W2.heap.size 0, .pointer (some ⟨W2.heap.size+1,0,none⟩)], .int .i64 (y.1.1:Int), .agg #[y.1.2.f,y.1.2.t, .bool y.1.2.hat],undef,undef,undef,undef,undef,undef,undef,undef,undef,undef,undef,undef,undef,undef],defers:=[]})
  (fun a'=>ownFrom_quietly fun y W W' h hq=>?hAx) ?assign ?body ?done ?stop
 case hX=>
  rintro pre W ⟨⟨hK,_⟩,_,hn3⟩;refine⟨hn3.cell 0 _ rfl,fun j l hj hl=>?_⟩
  have hl2:(flips d.ln (pre.map (·.1)))[j]?=some l:=by
   rw[flips_other _ _ (fun z hz=>?_)]
   · exact hl
   obtain⟨z',hz',rfl⟩:=List.mem_map.1 hz;exact Nat.ne_of_lt (hj z' hz')
  obtain⟨g2,hg2,y0,y1,y2,_⟩:=hK.own.lnAt hl2;exact⟨g2,hg2,y0,y1,y2⟩
 case hAx=>
  obtain⟨bx,h1,h2,h3,h4,h5⟩:=h;exact⟨bx,h1.le hq.choose_spec.1.size,h2,h3,h4.quietly hq,h5⟩
 case assign=>
  rintro l pre ⟨⟨i,lf,lt,lh⟩,hy1,hy2⟩ W K ⟨⟨hK4,hT4⟩,hQ4,hn4⟩ hK;simp only[encL];have hh:Aside (Blk (W.alloc (.cells #[lf,lt, .bool lh] 77)) W.heap.size [lf,lt, .bool lh] 77∧Aprt W.heap.size p v (W.alloc (.cells #[lf,lt, .bool lh] 77))):=⟨Blk.new _ _ _,hK4.new_aprt _⟩;have hlt1:=hQ4.lt;have hlt2:=hn4.lt
  gi_wp2
  exact hK _ _ ((KeepsOthers.alloc _ _).from _) ⟨⟨hK4.alloc _,hT4.alloc _⟩,hQ4.alloc _,hn4.alloc _⟩ ⟨W.heap.size,hh.out.2,oM,oM,hh.out.1,rfl⟩
 case body=>
  rintro l pre ⟨⟨i,lf,lt,lh⟩,hy1,hy2⟩ a' W ⟨⟨hK4,hT4⟩,hQ4,hn4⟩ ⟨bx,hax,hb1,hb2,hB4,rfl⟩ hlen;dsimp only at hB4 ⊢;have hlp:Line.loop ⟨lf,lt,lh⟩=decide (lf=lt):=rfl;have HL:=loop192 lf lt lh W;obtain⟨z0,z1,z2⟩:W.cell? ⟨bx,0,none⟩=some (.int .i64 lf)∧W.cell? ⟨bx,1,none⟩=some (.int .i64 lt)∧W.cell? ⟨bx,2,none⟩=some (.bool lh):=⟨hB4.cell 0 _ rfl,hB4.cell 1 _ rfl,hB4.cell 2 _ rfl⟩;have HK4:Aside (WK t tl B W p v (turn1 d n (flips d.ln (pre.map (·.1))))):=hK4;have HT4:Aside (Touch (p::blks v) w W):=hT4;have HQ4:Aside (Blk W w.heap.size [pt p 0] 79∧Blk W (W2.heap.size+1) [n] 3∧Blk W bx [lf,lt, .bool lh] 77∧Aprt bx p v W):=⟨hQ4,hn4,hB4,hax⟩;have HY:Aside (d.ln[i]?=some ⟨lf,lt,lh⟩):=hy1
  by_cases he:lf=lt
  · rw[show (lf==lt)=true by simp[he]]at HL
    have HF:Aside (flips d.ln ((pre++[(⟨(i,⟨lf,lt,lh⟩),hy1,hy2⟩:LnAt n d.ln)]).map (·.1))=flips d.ln (pre.map (·.1))):=by
     rw[List.map_append,List.map_cons,List.map_nil,flips_snoc,hlp,if_pos (by simpa using he)];exact rfl
    clear he hlp hax hK4 hT4 hQ4 hn4 hB4
    gi_wp2_with ((refine⟨trivial,?_⟩;gi_at_call 192;(with_reducible refine(CallsIn.inRound l (callsIn_wide.2 HL)).mono ?_);rintro e W4 ⟨rfl,hb4⟩;clear HL))
    refine⟨keeps_below hb4,⟨?_,HT4.out.then_below hb4⟩,HQ4.out.1.below hb4,HQ4.out.2.1.below hb4⟩
    rw[HF.out];exact HK4.out.below hb4
  rw[show (lf==lt)=false by simpa using he]at HL
  have HF:Aside (flips d.ln ((pre++[(⟨(i,⟨lf,lt,lh⟩),hy1,hy2⟩:LnAt n d.ln)]).map (·.1))=(flips d.ln (pre.map (·.1))).set i ⟨lf,lt,!lh⟩):=by
   rw[List.map_append,List.map_cons,List.map_nil,flips_snoc,hlp,if_neg (by simpa using he)];rfl
  clear he hlp hax hK4 hT4 hQ4 hn4 hB4
  gi_wp2_with ((refine⟨trivial,?_⟩;gi_at_call 192;(with_reducible refine(CallsIn.inRound l (callsIn_wide.2 HL)).mono ?_);rintro e W4 ⟨rfl,hb4⟩;clear HL))
  have hK5:=HK4.out.below hb4;have hT5:=HT4.out.then_below hb4;have hQ5:=HQ4.out.1.below hb4;have hn5:=HQ4.out.2.1.below hb4;have hB5:=HQ4.out.2.2.1.below hb4;have hfl:(flips d.ln (pre.map (·.1))).length=d.ln.length:=flips_len _ _;obtain⟨l5,hl5⟩:=get_of (l:=flips d.ln (pre.map (·.1))) (n:=i) (by rw[hfl];exact(List.getElem?_eq_some_iff.1 HY.out).1);obtain⟨g2,hg2,y0,y1,y2,yf⟩:=hK5.own.lnAt hl5;obtain⟨_,hp1,_,_,_,_,_,_,_,_⟩:=hK5.nine;rw[hg2]at hp1;have hq0:=hQ5.cell 0 _ rfl;have hz2:=hB5.cell 2 _ rfl;have hil:(i:Int)<(v.n2:Int):=by have:=(List.getElem?_eq_some_iff.1 HY.out).1;have:=HN2.out.1;omega
  have hil':i<v.n2:=oM
  have HZ:Aside (WK t tl B (W4.setCell ⟨g2,i*3+2,none⟩ (.bool (!lh))) p v (turn1 d n ((flips d.ln (pre.map (·.1))).set i ⟨l5.f,l5.t,!lh⟩))∧Upd p v W4 v (W4.setCell ⟨g2,i*3+2,none⟩ (.bool (!lh)))):=by
   have:=hK5.rowLn hg2 hl5 2 dE (.bool (!lh)) (y:=⟨l5.f,l5.t,!lh⟩) rfl;exact this
  have HL5:Aside (l5.f=lf∧l5.t=lt):=by
   obtain⟨b,hb,e1,e2⟩:=flips_ft d.ln (pre.map (·.1)) d.ln (fun x hx=>by obtain⟨x',_,rfl⟩:=List.mem_map.1 hx;exact x'.2.1) (fun j a ha=>⟨a,ha,rfl,rfl⟩) i l5 hl5;rw[HY.out]at hb;cases hb
   exact⟨e1,e2⟩
  have HTT:Aside (Touch (p::blks v) w W4∧Blk W4 w.heap.size [pt p 0] 79∧Blk W4 (W2.heap.size+1) [n] 3):=⟨hT5,hQ5,hn5⟩;clear hK5 hT5 hQ5 hn5 hB5 hl5 hg2 y0 y1
  refine wpIn_round_steps kR l 4 kR (by rintro ⟨a,w,h⟩;exact h) (fun x=>{tmps:=#[pt p 0,n,q,pt w.heap.size 0,undef,undef, .bool false, .int .i64 0, .int .i64 (i:Int),pt bx 0,pt p 0,n, .bool false,x0 13,x0 14,x0 15,x0 16,x0 17,x0 18,x0 19,x0 20,x0 21,x0 22,x0 23,x0 24,x0 25,x0 26,x0 27,x0 28,x0 29,x0 30,pt p 0,n, .func (.func 209) #[] #[pt W2.heap.size 0, .pointer (some ⟨W2.heap.size+1,0,none⟩)], .int .i64 (i:Int), .agg #[lf,lt, .bool lh], .agg #[lf,lt, .bool lh], .bool false, .bool true,x 39,x 40,x 41,x 42,x 43,x 44,x 45,x 46,x 47,x 48,x 49],defers:=[]}) (fun _=>undef) rfl (fun l u=>(l 11=true→u=(W4.drew.setCell ⟨g2,i*3+2,none⟩ (.bool (!lh))))∧(l 11=false→u=W4.drew)) (fun i u u'=>True) (fun j=>match j with|0=>[39]|1=>[40]|2=>[41]|3=>[42]|4=>[43]|5=>[44]|6=>[45]|7=>[46]|8=>[47]|9=>[48]|10=>[49]|11=>[]|_=>[]) (fun j x u=>match j with|0=>x 39=pt p 0|1=>x 40=pt p 0|2=>x 41=pt p 0|3=>x 42=pt p 1|4=>x 43= .slice (some ⟨g2,0,none⟩) v.n2 v.c2|5=>x 44= .int .i64 (i:Int)|6=>x 45=pt bx 2|7=>x 46= .bool lh|8=>x 47= .bool (!lh)|9=>x 48= .pointer (some ⟨g2,i*3,none⟩)|10=>x 49= .pointer (some ⟨g2,i*3+2,none⟩)|11=>True|_=>True) kR ?hput kR kR ?h0 ?hkeep ?hloc ?hstep ?hend
  case hput=>repeat' first|exact True.intro|apply And.intro|(intro d hd x v;cases hd<;>rfl)
  case h0=>exact⟨(fun h=>by cases h),fun _=>rfl⟩
  case hkeep=>
   intro j i x l u u' hj hi hpre ht hG hR;exact ht
  case hloc=>repeat' first|exact True.intro|apply And.intro|exact fun x x' u h ht=>ht|(intro x x' u h ht;simp only[List.mem_cons,List.not_mem_nil,or_false,forall_eq_or_imp,forall_eq]at h;simp only[h]at ht;exact ht)
  case hstep=>
   refine⟨?_,?_,?_,?_,?_,?_,?_,?_,?_,?_,?_,?c11,trivial⟩
   case c11=>
    intro l x u hG hno hli hpre hd K hK;have e10:x 49= .pointer (some ⟨g2,i*3+2,none⟩):=hd ⟨10, .data⟩ sI rfl;have e8:x 47= .bool (!lh):=hd ⟨8, .data⟩ sI rfl;clear hd;simp only[e10,e8]at hK ⊢;obtain rfl:=hG.2 hli;go_simp
    exact hK undef _ trivial trivial ⟨fun _=>rfl,fun h=>by simp at h⟩
   all_goals
    intro l x u hG hno hli hpre hd K hK;dsimp only at hd;simp only[eB]at hd
    try simp only[hd]at hK ⊢
    first|(go_simp;exact hK _ _ rfl trivial sG)|(obtain rfl:=hG.2 (hno 11 kR);go_simp;exact hK _ _ rfl trivial sG)
  intro l9 x9 u hall hG hT;obtain rfl:=hG.1 (hall _ dE);clear hG hall hT;have hZ1:=HZ.out.1.drew;have hZ2:=HZ.out.2.drew;have hHK:=HK4.out.below hb4;refine⟨(keeps_below hb4).trans (keeps_touch hZ2.t fun b hb=>?_),⟨?_,HTT.out.1.trans hZ2.t fun x hx=> .inl hx⟩,HTT.out.2.1.upd ?_ hZ2,HTT.out.2.2.upd ?_ hZ2⟩
  · rcases List.mem_cons.1 hb with rfl|hb
    · exact hHK.blk.cells
    exact hHK.own.cells b hb
  · rw[HF.out];rw[HL5.out.1,HL5.out.2]at hZ1;exact hZ1
  · exact⟨HTT.out.2.1.lt,HA3.out.2⟩
  exact⟨HTT.out.2.2.lt,HA4.out.2⟩
 case done=>
  rintro D ys W hD hys ⟨⟨hK4,hT4⟩,hQ4,hn4⟩ hDd;rw[hys]at hK4;have HKD:Aside (WK t tl B (W.putObj D (.deferred none)) p v (turn1 d n (flips d.ln (ats n d.ln)))):=hK4.quietly ⟨some D,grownBy_putObj' W D _,fun r e=>by cases e;exact⟨_,hDd,rfl⟩⟩;have HTD:Aside (Touch (p::blks v) w (W.putObj D (.deferred none))):=hT4.grown (grownBy_putObj' W D _) (fun k e=> .inr (by cases e;exact Nat.le_trans HW3.out hD))
  have HLn:Aside ((turn1 d n (flips d.ln (ats n d.ln))).ln.length≤100):=by
   show (flips d.ln (ats n d.ln)).length≤100
   rw[flips_len];exact HD.out.n2
  have HdD:Aside (W.heap[D]?=some (.deferred (some []))):=hDd;clear hK4 hT4 hQ4 hn4 hDd hys
  go_wp2
  refine⟨by simp, .inl ⟨_,_,rfl,run_takeDeferred HdD.out,?_⟩⟩
  refine⟨_,results_tmp2 rfl _ _ _,?_⟩
  exact RuleR.id HKD.out (Upd.of_touch HTD.out) HLn.out
 rintro D c pre W _ _ h _;exact h.elim
end
section
open Go.RowKit Go.Shelf
variable {k:Nat}
attribute [local go_sem] Oper.semAt_some
theorem upto8 {pre:List (Fin 8)} (hk:k<8) (h:pre.map (·.1)=List.range k):(pre++[(⟨k,hk⟩:Fin 8)]).map (·.1)=List.range (k+1):=by
 rw[List.map_append,h,List.range_succ];rfl
theorem at161_stops (m:Nat) (hm:1≤m) (w:World):
  SeqStopsX Fence.wide m Tryz.prog 161 #[] (fun x:Fin 8=>#[.int .i64 (x.1:Int),numV (Num.omega x.1)]) (fun _ _=>True) (fun ys=>ys.map (·.1)=List.range 8) (fun _=>True) 8 w:=by
 intro l J Jx W hW hJ hJx _ hY h0;refine callsIn_of_wp Tryz.func161 rfl trivial ?_ rfl
 simp only[Tryz.ntmps161,List.size_toArray,List.length_cons,List.length_nil,Nat.reduceAdd,Nat.reduceSub,Array.replicate_succ,Array.replicate_zero,List.push_toArray,List.append_toArray,List.nil_append,List.cons_append]
 gi_wp2
 gi_loopw [4] (fun i wr=>∃(k:Nat) (pre:List (Fin 8)),k≤8∧i=k∧pre.map (·.1)=List.range k∧J pre wr)
  (fun i _=>8-(intOf i).toNat)
 case atStart=>exact⟨0,[],Nat.zero_le _,rfl,rfl,h0⟩
 obtain⟨k,pre,hk,rfl,hpre,hJs⟩:=hrel;have hF:∀f,Fence.wide.fn f:=fun _=>trivial
 have hlen:pre.length≤k:=by
  have:=congrArg List.length hpre;simp at this
  omega
 by_cases h8:k=8
 · subst h8
   gi_wp2
   go_end0
   exact⟨⟨_,rfl⟩, .inl ⟨pre,hpre,hJs⟩⟩
 have h8':k<8:=oM
 have HY:Aside (∀u,J pre u→YieldAt Fence.wide (m-1) Tryz.prog l #[.int .i64 (k:Int),numV (Num.omega k)] u fun e W'=>(e= .returned (.bool true)∧J (pre++[⟨k,h8'⟩]) W')∨(e= .returned (.bool false)∧Jx (pre++[⟨k,h8'⟩]) W')):=fun u hu=>hY pre ⟨k,h8'⟩ u hu oM;have HP:Aside ((pre++[(⟨k,h8'⟩:Fin 8)]).map (·.1)=List.range (k+1)):=upto8 h8' hpre;clear hY hpre hlen;have hcs:k=0∨k=1∨k=2∨k=3∨k=4∨k=5∨k=6∨k=7:=oM
 rcases hcs with rfl|rfl|rfl|rfl|rfl|rfl|rfl|rfl
 · have e9:numV (Num.omega ((0:Nat):Int))= .agg #[.int .i64 1, .int .i64 0, .int .i64 0, .int .i64 0, .int .i64 0]:=rfl;rw[e9,show ((0:Nat):Int)=0 from rfl]at HY
   gi_wp2_with fail
   (with_reducible refine(callsIn_wide.2 (of135 1 0 0 0 0 _)).mono ?_)
   rintro e u ⟨rfl,hb⟩;have hJ5:=abides_below hJ hJs (below_then ((Below.refl _ wr).alloc (Nat.le_refl _) _) hb);obtain⟨fn,tmps,assign,body,hy,hR⟩:=HY.out u hJ5
   gi_wp2
   refine hR.mono ?_
   rintro e W3 (⟨rfl,hJ3⟩|⟨rfl,hJx3⟩)
   · gi_wp2
     go_roundw
     case rel=>exact⟨0+1,_,oM,by simp,HP.out,hJ3⟩
     simp[intOf]
   gi_wp2
   refine bodyPost_ret (results_none rfl _ _ _) rfl ?_
   exact⟨⟨_,rfl⟩, .inr ⟨_,trivial,hJx3⟩⟩
 · have e9:numV (Num.omega ((1:Nat):Int))= .agg #[.int .i64 0, .int .i64 1, .int .i64 0, .int .i64 0, .int .i64 0]:=rfl;rw[e9,show ((1:Nat):Int)=1 from rfl]at HY
   gi_wp2_with fail
   (with_reducible refine(callsIn_wide.2 (of135 0 1 0 0 0 _)).mono ?_)
   rintro e u ⟨rfl,hb⟩;have hJ5:=abides_below hJ hJs (below_then ((Below.refl _ wr).alloc (Nat.le_refl _) _) hb);obtain⟨fn,tmps,assign,body,hy,hR⟩:=HY.out u hJ5
   gi_wp2
   refine hR.mono ?_
   rintro e W3 (⟨rfl,hJ3⟩|⟨rfl,hJx3⟩)
   · gi_wp2
     go_roundw
     case rel=>exact⟨1+1,_,oM,by simp,HP.out,hJ3⟩
     simp[intOf]
   gi_wp2
   refine bodyPost_ret (results_none rfl _ _ _) rfl ?_
   exact⟨⟨_,rfl⟩, .inr ⟨_,trivial,hJx3⟩⟩
 · have e9:numV (Num.omega ((2:Nat):Int))= .agg #[.int .i64 0, .int .i64 0, .int .i64 1, .int .i64 0, .int .i64 0]:=rfl;rw[e9,show ((2:Nat):Int)=2 from rfl]at HY
   gi_wp2_with fail
   (with_reducible refine(callsIn_wide.2 (of135 0 0 1 0 0 _)).mono ?_)
   rintro e u ⟨rfl,hb⟩;have hJ5:=abides_below hJ hJs (below_then ((Below.refl _ wr).alloc (Nat.le_refl _) _) hb);obtain⟨fn,tmps,assign,body,hy,hR⟩:=HY.out u hJ5
   gi_wp2
   refine hR.mono ?_
   rintro e W3 (⟨rfl,hJ3⟩|⟨rfl,hJx3⟩)
   · gi_wp2
     go_roundw
     case rel=>exact⟨2+1,_,oM,by simp,HP.out,hJ3⟩
     simp[intOf]
   gi_wp2
   refine bodyPost_ret (results_none rfl _ _ _) rfl ?_
   exact⟨⟨_,rfl⟩, .inr ⟨_,trivial,hJx3⟩⟩
 · have e9:numV (Num.omega ((3:Nat):Int))= .agg #[.int .i64 0, .int .i64 0, .int .i64 0, .int .i64 1, .int .i64 0]:=rfl;rw[e9,show ((3:Nat):Int)=3 from rfl]at HY
   gi_wp2_with fail
   (with_reducible refine(callsIn_wide.2 (of135 0 0 0 1 0 _)).mono ?_)
   rintro e u ⟨rfl,hb⟩;have hJ5:=abides_below hJ hJs (below_then ((Below.refl _ wr).alloc (Nat.le_refl _) _) hb);obtain⟨fn,tmps,assign,body,hy,hR⟩:=HY.out u hJ5
   gi_wp2
   refine hR.mono ?_
   rintro e W3 (⟨rfl,hJ3⟩|⟨rfl,hJx3⟩)
   · gi_wp2
     go_roundw
     case rel=>exact⟨3+1,_,oM,by simp,HP.out,hJ3⟩
     simp[intOf]
   gi_wp2
   refine bodyPost_ret (results_none rfl _ _ _) rfl ?_
   exact⟨⟨_,rfl⟩, .inr ⟨_,trivial,hJx3⟩⟩
 · have e9:numV (Num.omega ((4:Nat):Int))= .agg #[.int .i64 (-1), .int .i64 0, .int .i64 0, .int .i64 0, .int .i64 0]:=rfl;rw[e9,show ((4:Nat):Int)=4 from rfl]at HY
   gi_wp2_with fail
   (with_reducible refine(callsIn_wide.2 (of135 (-1) 0 0 0 0 _)).mono ?_)
   rintro e u ⟨rfl,hb⟩;have hJ5:=abides_below hJ hJs (below_then ((Below.refl _ wr).alloc (Nat.le_refl _) _) hb);obtain⟨fn,tmps,assign,body,hy,hR⟩:=HY.out u hJ5
   gi_wp2
   refine hR.mono ?_
   rintro e W3 (⟨rfl,hJ3⟩|⟨rfl,hJx3⟩)
   · gi_wp2
     go_roundw
     case rel=>exact⟨4+1,_,oM,by simp,HP.out,hJ3⟩
     simp[intOf]
   gi_wp2
   refine bodyPost_ret (results_none rfl _ _ _) rfl ?_
   exact⟨⟨_,rfl⟩, .inr ⟨_,trivial,hJx3⟩⟩
 · have e9:numV (Num.omega ((5:Nat):Int))= .agg #[.int .i64 0, .int .i64 (-1), .int .i64 0, .int .i64 0, .int .i64 0]:=rfl;rw[e9,show ((5:Nat):Int)=5 from rfl]at HY
   gi_wp2_with fail
   (with_reducible refine(callsIn_wide.2 (of135 0 (-1) 0 0 0 _)).mono ?_)
   rintro e u ⟨rfl,hb⟩;have hJ5:=abides_below hJ hJs (below_then ((Below.refl _ wr).alloc (Nat.le_refl _) _) hb);obtain⟨fn,tmps,assign,body,hy,hR⟩:=HY.out u hJ5
   gi_wp2
   refine hR.mono ?_
   rintro e W3 (⟨rfl,hJ3⟩|⟨rfl,hJx3⟩)
   · gi_wp2
     go_roundw
     case rel=>exact⟨5+1,_,oM,by simp,HP.out,hJ3⟩
     simp[intOf]
   gi_wp2
   refine bodyPost_ret (results_none rfl _ _ _) rfl ?_
   exact⟨⟨_,rfl⟩, .inr ⟨_,trivial,hJx3⟩⟩
 · have e9:numV (Num.omega ((6:Nat):Int))= .agg #[.int .i64 0, .int .i64 0, .int .i64 (-1), .int .i64 0, .int .i64 0]:=rfl;rw[e9,show ((6:Nat):Int)=6 from rfl]at HY
   gi_wp2_with fail
   (with_reducible refine(callsIn_wide.2 (of135 0 0 (-1) 0 0 _)).mono ?_)
   rintro e u ⟨rfl,hb⟩;have hJ5:=abides_below hJ hJs (below_then ((Below.refl _ wr).alloc (Nat.le_refl _) _) hb);obtain⟨fn,tmps,assign,body,hy,hR⟩:=HY.out u hJ5
   gi_wp2
   refine hR.mono ?_
   rintro e W3 (⟨rfl,hJ3⟩|⟨rfl,hJx3⟩)
   · gi_wp2
     go_roundw
     case rel=>exact⟨6+1,_,oM,by simp,HP.out,hJ3⟩
     simp[intOf]
   gi_wp2
   refine bodyPost_ret (results_none rfl _ _ _) rfl ?_
   exact⟨⟨_,rfl⟩, .inr ⟨_,trivial,hJx3⟩⟩
 have e9:numV (Num.omega ((7:Nat):Int))= .agg #[.int .i64 0, .int .i64 0, .int .i64 0, .int .i64 (-1), .int .i64 0]:=rfl;rw[e9,show ((7:Nat):Int)=7 from rfl]at HY
 gi_wp2_with fail
 (with_reducible refine(callsIn_wide.2 (of135 0 0 0 (-1) 0 _)).mono ?_)
 rintro e u ⟨rfl,hb⟩;have hJ5:=abides_below hJ hJs (below_then ((Below.refl _ wr).alloc (Nat.le_refl _) _) hb);obtain⟨fn,tmps,assign,body,hy,hR⟩:=HY.out u hJ5
 gi_wp2
 refine hR.mono ?_
 rintro e W3 (⟨rfl,hJ3⟩|⟨rfl,hJx3⟩)
 · gi_wp2
   go_roundw
   case rel=>exact⟨7+1,_,oM,by simp,HP.out,hJ3⟩
   simp[intOf]
 gi_wp2
 refine bodyPost_ret (results_none rfl _ _ _) rfl ?_
 exact⟨⟨_,rfl⟩, .inr ⟨_,trivial,hJx3⟩⟩
end
section
open Go.RowKit Go.Shelf
variable {b:Nat} {n:Nat} {w:World} {w':World}
attribute [local go_sem] Oper.semAt_some
def numD (x:Num):DataW Unit:= .agg [.lit (.int .i64 x.a), .lit (.int .i64 x.b), .lit (.int .i64 x.c), .lit (.int .i64 x.d), .lit (.int .i64 x.k)]
def numRL:List Value→Option (DataW Unit × List MemPlace)
 |[.int .i64 a, .int .i64 b, .int .i64 c, .int .i64 d, .int .i64 k]=>some (numD ⟨a,b,c,d,k⟩,[])
 |_=>none
def numR:Value→Option (DataW Unit × List MemPlace)
 | .agg a=>numRL a.toList
 |_=>none
theorem numR_mk (x:Num):numR (numV x)=some (numD x,[]):=rfl
theorem numR_inv {v:Value} {x:Num} {ps:List MemPlace} (h:numR v=some (numD x,ps)):v=numV x:=by
 unfold numR at h
 split at h
 · rename_i a
   unfold numRL at h
   split at h
   · rename_i a1 b1 c1 d1 k1 he
     obtain⟨xa,xb,xc,xd,xk⟩:=x;simp[numD]at h
     obtain⟨⟨rfl,rfl,rfl,rfl,rfl⟩,_⟩:=h
     have:a=#[.int .i64 a1, .int .i64 b1, .int .i64 c1, .int .i64 d1, .int .i64 k1]:=by
      apply Array.ext'
      exact he
     rw[this]
   cases h
 cases h
open Go.Maps in
def MapN (w:World) (b n:Nat) (f:Int→Num):Prop:=
 ∃D:DataW Unit,w.ownsMap Tryz.prog 3 numR b n D∧IsMap D∧∀x,IntOk x→D.atKey (.int .i64 x) (numD Num.nil)=numD (f x)
open Go.Maps in
theorem MapN.made (w:World):MapN (w.alloc (.map #[] 0)) w.heap.size 0 (fun _=>Num.nil):=
 ⟨.map [],World.ownsMap_made _ _ _ _,isMap_empty,fun _ _=>rfl⟩
theorem MapN.kept {f:Int→Num} {row:Option Nat} (h:MapN w b n f) (hg:w.grownBy w' row) (hne:some b≠row):MapN w' b n f:=by
 obtain⟨D,h1,h2,h3⟩:=h;exact⟨D,h1.kept hg hne,h2,h3⟩
theorem MapN.below {f:Int→Num} (h:MapN w b n f) (hb:Below w.heap.size w w'):MapN w' b n f:=
 h.kept ⟨hb.os,hb.tape,hb.output,hb.size,fun k hk _=>hb.block k hk⟩ (row:=none) sI
theorem zero26 (w:World):(zeroValue 26).run Tryz.prog w= .ok (numV Num.nil) w:=kR
open Go.Maps in
theorem wpList_mapN_get (w:World) {ops:Array Oper} {rest:List Oper} {o:Oper} {a:Act} {Q:Exit→Act→World→Prop}
  (hg:o.guard=none) (m x:Operand) (t:TypeId) (hop:o.op=Op.lookup t m x false) (ht:Tryz.prog.underlying t=some (.map 3 26)) (b n:Nat) (f:Int→Num)
  (hm:a.eval m= .map (some b)) (hown:MapN w b n f) (y:Int) (hx:a.eval x= .int .i64 y) (hy:IntOk y)
  (hK:wpList Tryz.prog ops Q rest (a.put o.dst (numV (f y))) w):wpList Tryz.prog ops Q (o::rest) a w:=by
 obtain⟨D,h1,h2,h3⟩:=hown;refine wpList_plain hg fun K' hK'=>?_
 obtain⟨v,ps,hrun,hv⟩:=h1.lookup law3 ht (zero26 _) (numR_mk Num.nil) (keyOf_int_mk Tryz.underlying3 hy);rw[h3 y hy]at hv;have hv2:=numR_inv hv;subst hv2;unfold Oper.wp;simp[execOp,hop,hm,hx,hrun,Result.andThen]
 exact hK' _ _ hK
open Go.Maps in
theorem wpListIn_mapN_put {F:Fence} {nF:Nat} (w:World) {ops:Array Oper} {rest:List Oper} {o:Oper} {a:Act} {Q:Exit→Act→World→Prop}
  (hg:o.guard=none) (m x v:Operand) (t:TypeId) (hop:o.op=Op.mapUpdate t m x v) (ht:Tryz.prog.underlying t=some (.map 3 26)) (b n:Nat) (f:Int→Num)
  (hm:a.eval m= .map (some b)) (hown:MapN w b n f) (hn:n<maxLen) (y:Int) (z:Num) (hx:a.eval x= .int .i64 y) (hy:IntOk y) (hv:a.eval v=numV z)
  (hK:∀w',MapN w' b (n+1) (fun i=>if i=y then z else f i)→w.grownBy w' (some b)→wpListIn F nF Tryz.prog ops Q rest (a.put o.dst undef) w'):wpListIn F nF Tryz.prog ops Q (o::rest) a w:=by
 obtain⟨D,h1,h2,h3⟩:=hown;refine wpListIn_mapUpdate_own w hg m x v t hop 3 26 law3 ht numR b n D hm h1 hn _ _ (.int .i64 y) hx hv (keyOf_int_mk Tryz.underlying3 hy) (numD z) [] (numR_mk z) fun w' r1 r2=>hK w' ⟨_,r1,?_,fun i hi=>?_⟩ r2
 · obtain⟨es,rfl⟩:=h2;exact⟨_,rfl⟩
 by_cases e:i=y
 · subst e;dsimp only;rw[if_pos rfl,atKey_put_same h2 (by trivial)]
 dsimp only;rw[if_neg e,atKey_put_other (by intro h;cases h;exact e rfl),h3 i hi]
theorem powers142 (w:World):Calls Tryz.prog 142 #[] w fun e w'=>e= .returned (.func (.func 161) #[] #[])∧w=w':=by
 go_enter Tryz.func142,Tryz.ntmps142
 go_wp2
 go_ret
 exact⟨rfl,rfl⟩
theorem e161:∀args w,(callFunc 161 args).run Tryz.prog w= .ok (.enter 161 args) w:=enters_of Tryz.func161 kR rfl
def powF (l:List (Fin 8)) (y:Int):Num:=if y∈l.map (fun i=>((i.1:Nat):Int)) then Num.omega y else Num.nil
theorem powF_snoc (l:List (Fin 8)) (x:Fin 8) (y:Int):powF (l++[x]) y=if y=(x.1:Int) then Num.omega x.1 else powF l y:=by
 unfold powF
 by_cases h:y=(x.1:Int)
 · rw[if_pos h,if_pos (by simp[h]),h]
 rw[if_neg h];simp only[List.map_append,List.map_cons,List.map_nil,List.mem_append,List.mem_singleton,h,or_false]
theorem omega112 (n:Int) (h0:-1000≤n) (h1:n≤1000) (w:World):
  Calls Tryz.prog 112 #[.int .i64 n] w fun e w'=>e= .returned (numV (Num.omega (n%8)))∧Below w.heap.size w w':=by
 refine(callsIn_wide (n:=6)).1 (callsIn_of_wp_marks Tryz.func112 rfl trivial ?_ rfl)
 simp only[Tryz.ntmps112,List.size_toArray,List.length_cons,List.length_nil,Nat.reduceAdd,Nat.reduceSub,Array.replicate_succ,Array.replicate_zero,List.push_toArray,List.append_toArray,List.nil_append,List.cons_append];refine wpIn_wide.2 ?_
 have hmm:=@run_makeMap Tryz.prog;go_wp2_with fail
 have HB1:Aside (Below w.heap.size w (((w.alloc (.cells #[.int .i64 0, .int .i64 0, .int .i64 0, .int .i64 0, .int .i64 0] 26)).alloc (.map #[] 0)).alloc (.cells #[.map (some (w.heap.size+1))] 174))):=(((Below.refl _ w).alloc (Nat.le_refl _) _).alloc sI _).alloc (by simp;omega) _;have hA:=((Blk.new w #[.int .i64 0, .int .i64 0, .int .i64 0, .int .i64 0, .int .i64 0] 26).alloc (.map #[] 0)).alloc (.cells #[.map (some (w.heap.size+1))] 174);have hM:=(MapN.made (w.alloc (.cells #[.int .i64 0, .int .i64 0, .int .i64 0, .int .i64 0, .int .i64 0] 26))).kept (World.grownBy_alloc _ (.cells #[.map (some (w.heap.size+1))] 174) none) sI;have hB:=Blk.new ((w.alloc (.cells #[.int .i64 0, .int .i64 0, .int .i64 0, .int .i64 0, .int .i64 0] 26)).alloc (.map #[] 0)) #[.map (some (w.heap.size+1))] 174;simp only[World.size_alloc]at hM hB
 have HSZ:Aside ((((w.alloc (.cells #[.int .i64 0, .int .i64 0, .int .i64 0, .int .i64 0, .int .i64 0] 26)).alloc (.map #[] 0)).alloc (.cells #[.map (some (w.heap.size+1))] 174)).heap.size=w.heap.size+1+1+1):=by show _=_;simp only[World.size_alloc]
 generalize (((w.alloc (.cells #[.int .i64 0, .int .i64 0, .int .i64 0, .int .i64 0, .int .i64 0] 26)).alloc (.map #[] 0)).alloc (.cells #[.map (some (w.heap.size+1))] 174))=W1 at *;obtain⟨q2,hq2⟩:∃q,q=w.heap.size+1+1:=⟨_,rfl⟩;rw[←hq2]at hB ⊢;obtain⟨q1,hq1⟩:∃q,q=w.heap.size+1:=⟨_,rfl⟩;rw[←hq1]at hB hM ⊢;have HQ:Aside (q1=w.heap.size+1∧q2=w.heap.size+2∧W1.heap.size=w.heap.size+3):=⟨hq1,hq2,HSZ.out⟩;clear hq1 hq2
 (with_reducible refine(powers142 W1).mono ?_)
 rintro e w3 ⟨rfl,rfl⟩;go_wp2_with fail
 refine(wpIn_wide (n:=6)).1 ?_
 refine wpIn_rangeX (F:=Fence.wide) (n:=6) rfl dE (gf:=161) rfl trivial e161 (at161_stops 5 dE W1) bR (fun _=>rfl)
  (fun pre W=>(Blk W w.heap.size [.int .i64 (0:Int), .int .i64 (0:Int), .int .i64 (0:Int), .int .i64 (0:Int), .int .i64 (0:Int)] 26∧Blk W q2 [.map (some q1)] 174)∧MapN W q1 pre.length (powF pre)∧Below w.heap.size w W)
  (fun _ _ _=>False)
  (OwnFrom.and (ownFrom_quietly fun _ _ _ h hq=>⟨h.1.quietly hq,h.2.quietly hq⟩) (OwnFrom.and (fun s A B row h hg hr=>h.kept hg (fun e=>by have:=(hr _ e.symm).1;have:=HQ.out;omega)) (ownFrom_below (Nat.le_refl _) HB1.out.size)))
  (fun _ _ _ _ _ hs _ _=>hs) (fun _ _ _=>trivial)
  ⟨⟨hA,hB⟩,hM,HB1.out⟩
  (fun y a' W=>∃bx,Blk W bx [.int .i64 (Num.omega y.1).a, .int .i64 (Num.omega y.1).b, .int .i64 (Num.omega y.1).c, .int .i64 (Num.omega y.1).d, .int .i64 (Num.omega y.1).k] 26∧a'={tmps:=#[.int .i64 n,undef, .pointer (some ⟨w.heap.size,0,none⟩), .pointer (some ⟨q2,0,none⟩), .int .i64 (y.1:Int), .pointer (some ⟨bx,0,none⟩), .map (some q1), .func (.func 161) #[] #[], .int .i64 (y.1:Int),numV (Num.omega y.1),undef,undef,undef,undef,undef,undef,undef,undef,undef],defers:=[]})
  (fun a'=>ownFrom_quietly fun y W W' h hq=>?hAx) ?assign ?body ?done ?stop
 case hAx=>
  obtain⟨bx,h4,h5⟩:=h;exact⟨bx,h4.quietly hq,h5⟩
 case assign=>
  rintro l0 pre y W K ⟨⟨hA,hB⟩,hM,hBl⟩ hK;have hh:Aside (Blk (W.alloc (.cells #[.int .i64 (Num.omega y.1).a, .int .i64 (Num.omega y.1).b, .int .i64 (Num.omega y.1).c, .int .i64 (Num.omega y.1).d, .int .i64 (Num.omega y.1).k] 26)) W.heap.size [.int .i64 (Num.omega y.1).a, .int .i64 (Num.omega y.1).b, .int .i64 (Num.omega y.1).c, .int .i64 (Num.omega y.1).d, .int .i64 (Num.omega y.1).k] 26):=Blk.new _ _ _;have hbb:Aside (Below W.heap.size W (W.alloc (.cells #[.int .i64 (Num.omega y.1).a, .int .i64 (Num.omega y.1).b, .int .i64 (Num.omega y.1).c, .int .i64 (Num.omega y.1).d, .int .i64 (Num.omega y.1).k] 26))):=bR.alloc (Nat.le_refl _) _
  gi_wp2
  exact hK _ _ ((KeepsOthers.alloc _ _).from _) ⟨⟨hA.alloc _,hB.alloc _⟩,hM.below hbb.out,below_then hBl (hbb.out)⟩ ⟨W.heap.size,hh.out,rfl⟩
 case body=>
  rintro l0 pre y a' W ⟨⟨hA,hB⟩,hM,hBl⟩ ⟨bx,hbx,rfl⟩ hlen;have hy:IntOk (y.1:Int):=intOk oM (by have:=y.2;omega);have hb0:=hB.cell 0 _ rfl;obtain⟨x0,x1,x2,x3,x4,_⟩:=hbx.five;have hn:pre.length<maxLen:=by unfold maxLen;omega
  gi_wp2_with (gi_at_mapUpdate;refine wpListIn_mapN_put _ rfl _ _ _ 174 rfl Tryz.underlying174 q1 pre.length _ rfl hM hn _ (Num.omega y.1) rfl hy rfl ?_;intro w5 hM5 hg5)
  have hq:=HQ.out;have hT5:Touch [q1] W w5:=⟨hg5.os,hg5.tape,hg5.output,hg5.size,fun k hk hn=>hg5.block k hk (fun e=>hn (by cases e;simp))⟩;refine⟨KeepsFrom.of_grownBy hg5 (fun j e=>by cases e;omega),⟨hA.touch hT5 (by simp;omega),hB.touch hT5 (by simp;omega)⟩,?_,hBl.trans (hT5.below hBl.size fun b hb=>by simp at hb;omega)⟩
  rw[List.length_append]
  have e:(fun i=>if i=(y.1:Int) then Num.omega y.1 else powF pre i)=powF (pre++[y]):=by
   funext i
   rw[powF_snoc]
  rw[←e];exact hM5
 case done=>
  rintro D ys W hD hys ⟨⟨hA,hB⟩,hM,hBl⟩ hDd;have hb0:=hB.cell 0 _ rfl;have r_c:=hA.five
  have HX:Aside (powF ys (n%8)=Num.omega (n%8)):=by
   have h8:n%8∈ys.map (fun i=>((i.1:Nat):Int)):=by
    have h9:ys.map (fun i:Fin 8=>((i.1:Nat):Int))=(List.range 8).map (fun i:Nat=>(i:Int)):=by
     rw[←hys,List.map_map];rfl
    rw[h9,List.mem_map];exact⟨(n%8).toNat,by rw[List.mem_range];omega,oM⟩
   unfold powF;rw[if_pos h8];exact(rfl:_=_)
  have HA:=Lib.hid hA;have HBl:=Lib.hid hBl;have HDd:=Lib.hid hDd;have HDq:Aside (w.heap.size≤D):=Nat.le_trans HB1.out.size hD;clear hys hA hBl hDd hB hD
  go_wp2_with (at_lookup;refine wpList_mapN_get _ rfl _ _ 174 rfl Tryz.underlying174 q1 _ _ rfl hM _ rfl ?hy ?_)
  case hy=>
   rw[addmod8 n oM oM];exact intOk oM oM
  rw[addmod8 n oM oM,HX.out];have hb5:=HA.out.set5 (.int .i64 (Num.omega (n%8)).a) (.int .i64 (Num.omega (n%8)).b) (.int .i64 (Num.omega (n%8)).c) (.int .i64 (Num.omega (n%8)).d) (.int .i64 (Num.omega (n%8)).k);have hB5:=below_set5 HBl.out (Nat.le_refl _) (.int .i64 (Num.omega (n%8)).a) (.int .i64 (Num.omega (n%8)).b) (.int .i64 (Num.omega (n%8)).c) (.int .i64 (Num.omega (n%8)).d) (.int .i64 (Num.omega (n%8)).k)
  have hT5:Touch [w.heap.size] W (((((W.setCell ⟨w.heap.size,0,none⟩ (.int .i64 (Num.omega (n%8)).a)).setCell ⟨w.heap.size,1,none⟩ (.int .i64 (Num.omega (n%8)).b)).setCell ⟨w.heap.size,2,none⟩ (.int .i64 (Num.omega (n%8)).c)).setCell ⟨w.heap.size,3,none⟩ (.int .i64 (Num.omega (n%8)).d)).setCell ⟨w.heap.size,4,none⟩ (.int .i64 (Num.omega (n%8)).k)):=
   (((((Touch.refl [w.heap.size] W).setCell ⟨w.heap.size,0,none⟩ sI _).setCell ⟨w.heap.size,1,none⟩ sI _).setCell ⟨w.heap.size,2,none⟩ sI _).setCell ⟨w.heap.size,3,none⟩ sI _).setCell ⟨w.heap.size,4,none⟩ sI _
  generalize (((((W.setCell ⟨w.heap.size,0,none⟩ (.int .i64 (Num.omega (n%8)).a)).setCell ⟨w.heap.size,1,none⟩ (.int .i64 (Num.omega (n%8)).b)).setCell ⟨w.heap.size,2,none⟩ (.int .i64 (Num.omega (n%8)).c)).setCell ⟨w.heap.size,3,none⟩ (.int .i64 (Num.omega (n%8)).d)).setCell ⟨w.heap.size,4,none⟩ (.int .i64 (Num.omega (n%8)).k))=W5 at hb5 hB5 hT5 ⊢
  have hDE:W5.heap[D]?=some (.deferred (some [])):=(hT5.block D (Array.getElem?_eq_some_iff.1 HDd.out).1 (fun hm=>by
    simp at hm
    subst hm
    exact not_both HA.out.cells ⟨_,HDd.out,rfl⟩)).trans HDd.out
  have hQy:Quietly W5 (W5.putObj D (.deferred none)):=⟨some D,grownBy_putObj' _ D _,fun r e=>by cases e;exact⟨_,hDE,rfl⟩⟩;obtain⟨s0,s1,s2,s3,s4,_⟩:=(hb5.quietly hQy).five;refine⟨by simp, .inl ⟨_,_,rfl,run_takeDeferred hDE,?_⟩⟩
  refine⟨numV (Num.omega (n%8)),by simp[results,Tryz.results112,go_sem,s0,s1,s2,s3,s4],rfl,?_⟩
  exact hB5.grown (grownBy_putObj' _ D _) hB5.size (fun k e=>by cases e;exact HDq.out)
 rintro D c pre W _ _ h _;exact h.elim
end
end Go.Proofs.YtcoackmdmohnhaaGreatDoor
