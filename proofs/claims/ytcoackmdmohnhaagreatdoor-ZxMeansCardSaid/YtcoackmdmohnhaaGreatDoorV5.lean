/- Contracts of functions, and plain lemmas; each theorem's conditions stand in its statement. -/
import Derived.Test.YtcoackmdmohnhaaGreatDoorV4
import Derived.OrdersIn
set_option linter.unusedVariables false
set_option linter.unusedSimpArgs false
set_option maxRecDepth 100000
set_option maxHeartbeats 2000000
namespace Go.Proofs.YtcoackmdmohnhaaGreatDoor
section
open Go.RowKit Go.Shelf
variable {α:Type} {enc:α→List Value} {t:TypeId} {B:Nat} {b:Nat} {k:Nat} {n:Nat} {c:Nat} {g:Nat} {e:TypeId} {A:Option Addr} {cs:List Value} {w:World} {d:Diag}
theorem blk_ty {cs':List Value} {t':TypeId} (h:Blk w b cs t) (h':Blk w b cs' t') (hn:t≠t'):False:=by
 unfold Blk at h h';rw[h]at h';cases h'
 exact hn rfl
theorem blk_ty' {t':TypeId} (h:Blk w b cs t) (h':∃c,w.heap[b]?=some (.cells c t' (0,0))) (hn:t≠t'):False:=by
 obtain⟨c,h'⟩:=h';unfold Blk at h;rw[h]at h';cases h'
 exact hn rfl
theorem ownsRow_ty {m:Nat} {xs:List Value} (h:w.ownsRow B e k (.slice A n c) m xs):∀b∈ownB A,∃cs,w.heap[b]?=some (.cells cs e (0,0)):=by
 intro b hb;obtain⟨a,rfl,rfl⟩:=mem_ownB.1 hb
 rcases h.2 with⟨h1,_⟩|⟨g,cap,cur,h1,_,hg,_⟩
 · cases h1
 cases h1
 exact⟨cur,hg⟩
theorem ownsRow_blk (h:Blk w g cs e) (hB:B≤g) (hn:n≤maxLen) (hs:cs.length=n*k):w.ownsRow B e k (.slice (some ⟨g,0,none⟩) n n) n cs:=
 ⟨hs, .inr ⟨g,n,cs.toArray,rfl,hB,h,Nat.le_refl _,hn,by simpa using hs,List.take_of_length_le (by simp;omega)⟩⟩
theorem made_flat (hk:0<k) (he:∀x,(enc x).length=k) (x:α) (n:Nat):(madeCells (enc x).toArray (n*k)).toList=(List.replicate n x).flatMap enc:=by
 apply List.ext_getElem?
 intro j;rw[flat_at hk he]
 by_cases hj:j<n*k
 · have h1:j / k<n:=(Nat.div_lt_iff_lt_mul hk).2 hj;have h2:j%k<(enc x).length:=by rw[he];exact Nat.mod_lt _ hk
   have h3:(enc x)[j%k]?=some (enc x)[j%k]:=by simp[h2]
   simp[madeCells,hj,h1,he,h3,h2]
 have h1:¬j / k<n:=by rw[Nat.div_lt_iff_lt_mul hk];exact hj
 simp[madeCells,hj,h1]
theorem run_copy_k {P:Program} (w:World) (dT sT ty e:TypeId) (i:TypeInfo) (ht:P.underlying dT=some (.slice e)) (hi:P.info? e=some i) (hs:i.size=k) (he:∀x,(enc x).length=k) (hk:0<k) (h1:∀xs:List α,∀u∈xs.flatMap enc,u.oneCell'=true)
  (A A':Option Addr) (n c c':Nat) (B:Nat) (xs:List Value) (ys:List α) (ho:w.ownsRow B e k (.slice A n c) n xs) (hR:Rd k enc w A' n ys):
  ∃w',(Builtin.copy_ #[dT,sT] ty #[.slice A n c, .slice A' n c']).run P w= .ok (goInt n) w'∧w'.ownsRow B e k (.slice A n c) n (ys.flatMap enc)∧w.grownBy w' (Value.slice A n c).ownBlock:=by
 have hl:(ys.flatMap enc).length=n*k:=by rw[flat_len he,hR.1]
 rcases ho.2 with⟨hv,hn⟩|⟨g,cap,cur,hv,hb,hg,hnc,hcm,hcs,htk⟩
 · cases hv
   have hy:ys=[]:=List.eq_nil_of_length_eq_zero hR.1;subst hy;refine⟨w,?_,World.ownsRow_nil _ _ _ _,⟨rfl,rfl,rfl,Nat.le_refl _,fun _ _ _=>rfl⟩⟩
   cases A' with
   |none=>simp[Builtin.copy_,run_underlying ht,Builtin.lenOf,Builtin.firstCells,sizeOf,typeInfo,hi]
   |some a=>simp[Builtin.copy_,run_underlying ht,Builtin.lenOf,Builtin.firstCells,sizeOf,typeInfo,hi,loadCells,loadCellsFrom]
 cases hv
 have hf:(Builtin.firstCells k n (.slice A' n c')).run P w= .ok (ys.flatMap enc).toArray w:=by
  cases A' with
  | none=>
   have h0:n=0:=by
    rcases Nat.eq_zero_or_pos n with h|h
    · exact h
    obtain⟨b,o,e,_⟩:=hR.2.2 h;cases e
   subst h0;rw[List.eq_nil_of_length_eq_zero (l:=ys.flatMap enc) (by rw[hl];simp)];exact run_firstCells_none w k 0 0 c'
  |some a=>exact run_firstCells_some (P:=P) w k n a n c' _ hl (Rd.flatA hk he hR)
 have hst:=run_storeCells_at P g 0 e (ys.flatMap enc) 0 cur w hg (by rw[hl,hcs];simp;exact Nat.mul_le_mul_right _ hnc) (h1 ys);simp only[Nat.zero_add,List.take_zero,List.nil_append]at hst;refine⟨w.setRow g (ys.flatMap enc++List.drop (ys.flatMap enc).length cur.toList).toArray,?_,⟨hl, .inr ⟨g,c,_,rfl,hb,setRow_heap w g cur _ e _ hg,hnc,hcm,?_,?_⟩⟩,⟨rfl,rfl,rfl,by simp[World.setRow],fun j _ hj=>setRow_other w g j _ (fun e=>hj (by simp[Value.ownBlock,e]))⟩⟩
 · simp[Builtin.copy_,run_underlying ht,Builtin.lenOf,sizeOf,typeInfo,hi,hs,hf,hst]
 · have:=Nat.mul_le_mul_right k hnc;simp only[List.size_toArray,List.length_append,List.length_drop,Array.length_toList,hl,hcs];omega
 show List.take (n*k) (ys.flatMap enc++_)=_
 rw[←hl];exact List.take_left
theorem step_copy_k {P:Program} {ops:Array Oper} {o:Oper} {a:Act} {K:Act→World→Prop} {Q:Exit→Act→World→Prop} {E:Prop} (hgd:o.guard=none) (dd ss:Operand) (dT sT:TypeId)
  (hop:o.op= .call {callee:= .builtin .copy,args:=#[dd,ss],argTypes:=#[dT,sT]}) (e:TypeId) (i:TypeInfo) (k:Nat) (ht:P.underlying dT=some (.slice e)) (hi:P.info? e=some i) (hs:i.size=k) (he:∀x,(enc x).length=k) (hk:0<k) (h1:∀xs:List α,∀u∈xs.flatMap enc,u.oneCell'=true)
  (A A':Option Addr) (n c c':Nat) (hd:a.eval dd= .slice A n c) (hsr:a.eval ss= .slice A' n c') (B:Nat) (xs:List Value) (ys:List α) (ho:w.ownsRow B e k (.slice A n c) n xs) (hR:Rd k enc w A' n ys)
  (hK:∀w',w'.ownsRow B e k (.slice A n c) n (ys.flatMap enc)→w.grownBy w' (Value.slice A n c).ownBlock→K (a.put o.dst (goInt n)) w'):
  if Region.wanted o (yielded ops a.tmps)=true then Oper.wp P o a w K Q else E:=by
 have hw:Region.wanted o (yielded ops a.tmps)=true:=by simp[Region.wanted,hgd]
 rw[if_pos hw];obtain⟨w',hrun,h2,h3⟩:=run_copy_k (P:=P) w dT sT o.type e i ht hi hs he hk h1 A A' n c c' B xs ys ho hR;unfold Oper.wp;simp[execOp,hop,resolve,invoke,builtin,hd,hsr,hrun,Result.andThen]
 exact hK _ h2 h3
theorem check_parts (h:d.check=0):(d.sp.length≤40∧d.ln.length≤100)∧(d.sp.any (fun s=>badSp s.kind s.phase))=false∧(d.ln.any d.badLn=false∧d.ends.any d.badEnd=false)∧d.ends.Nodup∧d.clashes 0 d.sp=false∧d.sc.check=0:=by
 unfold Diag.check at h
 by_cases h1:40<d.sp.length∨100<d.ln.length
 · rw[if_pos h1]at h;omega
 rw[if_neg h1]at h
 cases h2:d.sp.any (fun s=>badSp s.kind s.phase) with
 |true=>rw[h2]at h;simp at h
 | false=>
  rw[h2,if_neg sI]at h
  by_cases h3:(d.ln.any d.badLn||d.ends.any d.badEnd)=true
  · rw[if_pos h3]at h;omega
  rw[if_neg h3]at h
  by_cases h4:d.ends.Nodup
  · rw[if_neg (by simpa using h4)]at h
    cases h5:d.clashes 0 d.sp with
    |true=>rw[h5]at h;simp at h
    | false=>
     rw[h5,if_neg sI]at h;refine⟨oM,rfl,by simpa using h3,h4,rfl,h⟩
  rw[if_pos h4]at h;omega
theorem made_sp (n:Nat):(madeCells #[.int .i64 0, .int .i64 0] (n*2)).toList=(List.replicate n (⟨0,0⟩:Spider)).flatMap spC:=made_flat (enc:=spC) dE spC_len ⟨0,0⟩ n
theorem made_ln (n:Nat):(madeCells #[.int .i64 0, .int .i64 0, .bool false] (n*3)).toList=(List.replicate n (⟨0,0,false⟩:Line)).flatMap lnC:=made_flat (enc:=lnC) dE lnC_len ⟨0,0,false⟩ n
theorem own_mono {B':Nat} {u:Value} {xs:List Value} (h:w.ownsRow B e k u n xs) (hB:B'≤B):w.ownsRow B' e k u n xs:=by
 refine⟨h.1,?_⟩
 rcases h.2 with h2|⟨g,cap,cur,hv,hb,r⟩
 · exact .inl h2
 exact .inr ⟨g,cap,cur,hv,oM,r⟩
theorem own102 (v:DV) (d:Diag) (w:World) (hd:DRd w v d) (hc:d.sc.check=0) (h1:v.n1≤40) (h2:v.n2≤100) (h3:v.n3≤40) (h4:v.n4≤40):
  Calls Tryz.prog 102 #[diaV v d.sc] w fun e w'=>∃p v',e= .returned (pt p 0)∧WK 83 [] w.heap.size w' p v' {d with sc:=d.sc.form}∧Below w.heap.size w w':=by
 obtain⟨i73,hi1,hz1,hs1,hb1⟩:=info_parts inf73;obtain⟨i77,hi2,hz2,hs2,hb2⟩:=info_parts inf77
 have hm1:∀W:World,(Instr.makeSlice 22 v.n1 v.n1).run Tryz.prog W= .ok (.slice (some ⟨W.heap.size,0,none⟩) v.n1 v.n1) (W.alloc (.cells (madeCells #[.int .i64 0, .int .i64 0] (v.n1*2)) 73)):=by
  intro W;have hr:=run_make (P:=Tryz.prog) W 22 73 i73 (.agg #[.int .i64 0, .int .i64 0]) Tryz.underlying22 hi1 hz1 .i64 .i64 v.n1 v.n1 oM (Int.le_refl _) (by rw[hb1];omega) oM;rw[hs1]at hr;exact hr
 have hm2:∀W:World,(Instr.makeSlice 23 v.n2 v.n2).run Tryz.prog W= .ok (.slice (some ⟨W.heap.size,0,none⟩) v.n2 v.n2) (W.alloc (.cells (madeCells #[.int .i64 0, .int .i64 0, .bool false] (v.n2*3)) 77)):=by
  intro W;have hr:=run_make (P:=Tryz.prog) W 23 77 i77 (.agg #[.int .i64 0, .int .i64 0, .bool false]) Tryz.underlying23 hi2 hz2 .i64 .i64 v.n2 v.n2 oM (Int.le_refl _) (by rw[hb2];omega) oM;rw[hs2]at hr;exact hr
 have hBk:=Blk.new w (a9 v d.sc) 28;obtain⟨W,hW⟩:∃W,W=w.alloc (.cells (a9 v d.sc) 28):=⟨_,rfl⟩;have hQ0:Below w.heap.size w W:=by rw[hW];exact bR.alloc (Nat.le_refl _) _
 rw[←hW]at hBk;have hD:DRd W v d:=hd.below hQ0;have HC3:=fun WX (h:Rd 1 inC WX v.A3 v.n3 d.ins)=>clone64 v.A3 v.n3 v.c3 d.ins WX h oM;have HC4:=fun WX (h:Rd 1 inC WX v.A4 v.n4 d.outs)=>clone64 v.A4 v.n4 v.c4 d.outs WX h oM;have HI:Aside (Tryz.prog.info? 73=some i73∧Tryz.prog.info? 77=some i77∧i73.size=2∧i77.size=3):=⟨hi1,hi2,hs1,hs2⟩;obtain⟨c0,c1,c2,c3,c4,c5,c6,c7,c8,cf⟩:=hBk.nine
 have HS:Aside (∀wx,Below W.heap.size W wx→wx.cell? ⟨w.heap.size,0,none⟩=some (.slice v.A1 v.n1 v.c1)∧wx.cell? ⟨w.heap.size,1,none⟩=some (.slice v.A2 v.n2 v.c2)∧wx.cell? ⟨w.heap.size,2,none⟩=some (.slice v.A3 v.n3 v.c3)∧wx.cell? ⟨w.heap.size,3,none⟩=some (.slice v.A4 v.n4 v.c4)):=by
  intro wx hb;obtain⟨m0,m1,m2,m3,m4,m5,m6,m7,m8,_⟩:=(hBk.below hb).nine;exact⟨m0,m1,m2,m3⟩
 clear hi1 hz1 hs1 hb1 hi2 hz2 hs2 hb2;show Calls Tryz.prog 102 #[.agg (a9 v d.sc)] w _
 go_enter Tryz.func102,Tryz.ntmps102
 go_upto_region 1 with fail
 rw[←hW];have HWs:Aside (W.heap.size=w.heap.size+1∧Below w.heap.size w W):=⟨by rw[hW];simp,hQ0⟩;clear hW
 have HG:Aside (∀u u':World,(Below W.heap.size W u∧u.cell? ⟨w.heap.size,0,none⟩=some (.slice v.A1 v.n1 v.c1)∧u.cell? ⟨w.heap.size,1,none⟩=some (.slice v.A2 v.n2 v.c2)∧u.cell? ⟨w.heap.size,2,none⟩=some (.slice v.A3 v.n3 v.c3)∧u.cell? ⟨w.heap.size,3,none⟩=some (.slice v.A4 v.n4 v.c4))→Below u.heap.size u u'→Below W.heap.size W u'∧u'.cell? ⟨w.heap.size,0,none⟩=some (.slice v.A1 v.n1 v.c1)∧u'.cell? ⟨w.heap.size,1,none⟩=some (.slice v.A2 v.n2 v.c2)∧u'.cell? ⟨w.heap.size,2,none⟩=some (.slice v.A3 v.n3 v.c3)∧u'.cell? ⟨w.heap.size,3,none⟩=some (.slice v.A4 v.n4 v.c4)):=by
  intro u u' h hb;have h2:=below_then h.1 hb;exact⟨h2,HS.out _ h2⟩
 go_cut [3] (fun s3 wx=>∃p v',s3=pt p 0∧Below W.heap.size W wx∧Blk wx p (dcs v' Num.nil) 83∧W.heap.size≤p∧p∉blks v'∧OwnD W.heap.size wx v' {sp:=List.replicate v.n1 ⟨0,0⟩,ln:=List.replicate v.n2 ⟨0,0,false⟩,ins:=d.ins,outs:=d.outs,sc:=Num.nil}∧v'.n1=v.n1∧v'.n2=v.n2)
 case first=>
  refine wp_region_mono kR (fun x=>{tmps:=#[diaV v d.sc,pt w.heap.size 0, .pointer none,x 3,x 4,x 5,x 6,x 7,x 8,x 9,x 10,x 11,x 12,x 13,x 14,x 15,x 16,x 17,x 18,x 19,x 20,undef,undef,undef,undef,undef,undef,undef,undef,undef,undef,undef,undef,undef,undef,undef,undef,undef,undef,undef,undef,undef,undef,undef,undef,undef,undef,undef],defers:=[]}) (fun _=>undef) rfl (fun u=>Below W.heap.size W u∧u.cell? ⟨w.heap.size,0,none⟩=some (.slice v.A1 v.n1 v.c1)∧u.cell? ⟨w.heap.size,1,none⟩=some (.slice v.A2 v.n2 v.c2)∧u.cell? ⟨w.heap.size,2,none⟩=some (.slice v.A3 v.n3 v.c3)∧u.cell? ⟨w.heap.size,3,none⟩=some (.slice v.A4 v.n4 v.c4)) (fun j=>match j with|0=>[4]|1=>[5]|2=>[6]|3=>[7]|4=>[8]|5=>[9]|6=>[10]|7=>[11]|8=>[12]|9=>[13]|10=>[14]|11=>[15]|12=>[16]|13=>[14,17]|14=>[18,7,11,14,17]|15=>[19,18]|16=>[20,19]|17=>[3,20]|_=>[]) (fun j x u=>match j with|0=>x 4=pt w.heap.size 0|1=>x 5= .slice v.A1 v.n1 v.c1|2=>x 6=v.n1|3=>∃g,x 7= .slice (some ⟨g,0,none⟩) v.n1 v.n1∧W.heap.size≤g∧Blk u g (madeCells #[.int .i64 0, .int .i64 0] (v.n1*2)).toList 73|4=>x 8=pt w.heap.size 1|5=>x 9= .slice v.A2 v.n2 v.c2|6=>x 10=v.n2|7=>∃g,x 11= .slice (some ⟨g,0,none⟩) v.n2 v.n2∧W.heap.size≤g∧Blk u g (madeCells #[.int .i64 0, .int .i64 0, .bool false] (v.n2*3)).toList 77|8=>x 12=pt w.heap.size 2|9=>x 13= .slice v.A3 v.n3 v.c3|10=>∃A c,x 14= .slice A v.n3 c∧u.ownsRow W.heap.size 3 1 (.slice A v.n3 c) v.n3 (d.ins.flatMap inC)|11=>x 15=pt w.heap.size 3|12=>x 16= .slice v.A4 v.n4 v.c4|13=>∃A c A' c',x 14= .slice A v.n3 c∧x 17= .slice A' v.n4 c'∧u.ownsRow W.heap.size 3 1 (.slice A' v.n4 c') v.n4 (d.outs.flatMap inC)∧∀b∈ownB A',b∉ownB A|14=>∃g1 g2 A c A' c',x 18= .agg #[.slice (some ⟨g1,0,none⟩) v.n1 v.n1, .slice (some ⟨g2,0,none⟩) v.n2 v.n2, .slice A v.n3 c, .slice A' v.n4 c', .int .i64 0, .int .i64 0, .int .i64 0, .int .i64 0, .int .i64 0]∧x 7= .slice (some ⟨g1,0,none⟩) v.n1 v.n1∧x 11= .slice (some ⟨g2,0,none⟩) v.n2 v.n2∧x 14= .slice A v.n3 c∧x 17= .slice A' v.n4 c'|15=>∃g1 g2 A c A' c',x 19= .agg #[.slice (some ⟨g1,0,none⟩) v.n1 v.n1, .slice (some ⟨g2,0,none⟩) v.n2 v.n2, .slice A v.n3 c, .slice A' v.n4 c', .int .i64 0, .int .i64 0, .int .i64 0, .int .i64 0, .int .i64 0]∧x 18= .agg #[.slice (some ⟨g1,0,none⟩) v.n1 v.n1, .slice (some ⟨g2,0,none⟩) v.n2 v.n2, .slice A v.n3 c, .slice A' v.n4 c', .int .i64 0, .int .i64 0, .int .i64 0, .int .i64 0, .int .i64 0]|16=>∃p g1 g2 A c A' c',x 20=pt p 0∧x 19= .agg #[.slice (some ⟨g1,0,none⟩) v.n1 v.n1, .slice (some ⟨g2,0,none⟩) v.n2 v.n2, .slice A v.n3 c, .slice A' v.n4 c', .int .i64 0, .int .i64 0, .int .i64 0, .int .i64 0, .int .i64 0]∧W.heap.size≤p∧Blk u p [.slice (some ⟨g1,0,none⟩) v.n1 v.n1, .slice (some ⟨g2,0,none⟩) v.n2 v.n2, .slice A v.n3 c, .slice A' v.n4 c', .int .i64 0, .int .i64 0, .int .i64 0, .int .i64 0, .int .i64 0] 83|17=>∃p,x 3=pt p 0∧x 20=pt p 0|_=>True) kR ?hput kR kR ?h0 ?hkeep ?hloc ?hstep ?hend
  case hput=>repeat' first|exact True.intro|apply And.intro|(intro d hd x v;cases hd<;>rfl)
  case hloc=>repeat' first|exact True.intro|apply And.intro|exact fun x x' u h ht=>ht|(intro x x' u h ht;simp only[List.mem_cons,List.not_mem_nil,or_false,forall_eq_or_imp,forall_eq]at h;simp only[h]at ht;exact ht)
  case hstep=>
   refine⟨?_,?_,?_,?_,?_,?_,?_,?_,?_,?_,?c10,?_,?_,?c13,?c14,?c15,?c16,?c17,trivial⟩
   case c10=>
    intro x u hG hd K hK;have e9:x 13= .slice v.A3 v.n3 v.c3:=hd ⟨9, .data⟩ sI rfl;clear hd;simp only[e9]at hK ⊢;have hR:=(hD.below hG.1).ins;go_simp
    (with_reducible refine(HC3 _ hR).mono ?_);rintro e w1 ⟨A,c,rfl,hown,_,hb⟩
    exact hK _ _ ⟨A,c,rfl,own_mono hown hG.1.size⟩ hb (HG.out _ _ hG hb)
   case c13=>
    intro x u hG hd K hK;have e12:x 16= .slice v.A4 v.n4 v.c4:=hd ⟨12, .data⟩ sI rfl;have e10:∃A c,x 14= .slice A v.n3 c∧u.ownsRow W.heap.size 3 1 (.slice A v.n3 c) v.n3 (d.ins.flatMap inC):=hd ⟨10, .chain⟩ sI rfl;clear hd;simp only[e12]at hK ⊢;obtain⟨A,c,hA0,hO⟩:=e10;have hA:Aside _:=hA0;clear hA0;have hR:=(hD.below hG.1).outs;go_simp
    (with_reducible refine(HC4 _ hR).mono ?_);rintro e w1 ⟨A',c',rfl,hown,_,hb⟩
    exact hK _ _ ⟨A,c,A',c',hA.out,rfl,own_mono hown hG.1.size,fun b hb1 hb2=>by have:=(ownsRow_lt hown b hb1).1;have:=(ownsRow_lt hO b hb2).2;omega⟩ hb (HG.out _ _ hG hb)
   case c14=>
    intro x u hG hd K hK;have e3:∃g,x 7= .slice (some ⟨g,0,none⟩) v.n1 v.n1∧W.heap.size≤g∧Blk u g (madeCells #[.int .i64 0, .int .i64 0] (v.n1*2)).toList 73:=hd ⟨3, .data⟩ sI rfl;have e7:∃g,x 11= .slice (some ⟨g,0,none⟩) v.n2 v.n2∧W.heap.size≤g∧Blk u g (madeCells #[.int .i64 0, .int .i64 0, .bool false] (v.n2*3)).toList 77:=hd ⟨7, .data⟩ sI rfl;have e10:∃A c,x 14= .slice A v.n3 c∧u.ownsRow W.heap.size 3 1 (.slice A v.n3 c) v.n3 (d.ins.flatMap inC):=hd ⟨10, .data⟩ sI rfl;have e13:∃A c A' c',x 14= .slice A v.n3 c∧x 17= .slice A' v.n4 c'∧u.ownsRow W.heap.size 3 1 (.slice A' v.n4 c') v.n4 (d.outs.flatMap inC)∧∀b∈ownB A',b∉ownB A:=hd ⟨13, .data⟩ sI rfl;clear hd;obtain⟨g1,h7,_⟩:=e3;obtain⟨g2,h11,_⟩:=e7;obtain⟨A,c,A',c',h14,h17,_⟩:=e13;clear e10
    generalize k7:x 7=z7 at h7 hK ⊢;subst h7;generalize k11:x 11=z11 at h11 hK ⊢;subst h11;generalize k14:x 14=z14 at h14 hK ⊢;subst h14;generalize k17:x 17=z17 at h17 hK ⊢;subst h17;go_simp
    exact hK _ _ ⟨g1,g2,A,c,A',c',rfl,k7,k11,k14,k17⟩ bR hG
   case c15=>
    intro x u hG hd K hK;have e14:∃g1 g2 A c A' c',x 18= .agg #[.slice (some ⟨g1,0,none⟩) v.n1 v.n1, .slice (some ⟨g2,0,none⟩) v.n2 v.n2, .slice A v.n3 c, .slice A' v.n4 c', .int .i64 0, .int .i64 0, .int .i64 0, .int .i64 0, .int .i64 0]∧x 7= .slice (some ⟨g1,0,none⟩) v.n1 v.n1∧x 11= .slice (some ⟨g2,0,none⟩) v.n2 v.n2∧x 14= .slice A v.n3 c∧x 17= .slice A' v.n4 c':=hd ⟨14, .data⟩ sI rfl;clear hd;obtain⟨g1,g2,A,c,A',c',h18,q1,q2,q3,q4⟩:=e14;clear q1 q2 q3 q4;generalize k18:x 18=z18 at h18 hK ⊢;subst h18;go_simp
    exact hK _ _ ⟨g1,g2,A,c,A',c',rfl,k18⟩ bR hG
   case c16=>
    intro x u hG hd K hK;have e15:∃g1 g2 A c A' c',x 19= .agg #[.slice (some ⟨g1,0,none⟩) v.n1 v.n1, .slice (some ⟨g2,0,none⟩) v.n2 v.n2, .slice A v.n3 c, .slice A' v.n4 c', .int .i64 0, .int .i64 0, .int .i64 0, .int .i64 0, .int .i64 0]∧x 18= .agg #[.slice (some ⟨g1,0,none⟩) v.n1 v.n1, .slice (some ⟨g2,0,none⟩) v.n2 v.n2, .slice A v.n3 c, .slice A' v.n4 c', .int .i64 0, .int .i64 0, .int .i64 0, .int .i64 0, .int .i64 0]:=hd ⟨15, .data⟩ sI rfl;clear hd;obtain⟨g1,g2,A,c,A',c',h19,q1⟩:=e15;clear q1;generalize k19:x 19=z19 at h19 hK ⊢;subst h19;go_simp
    exact hK _ _ ⟨_,g1,g2,A,c,A',c',rfl,k19,hG.1.size,Blk.new _ _ _⟩ (bR.alloc (Nat.le_refl _) _) (HG.out _ _ hG (bR.alloc (Nat.le_refl _) _))
   case c17=>
    intro x u hG hd K hK;have e16:∃p g1 g2 A c A' c',x 20=pt p 0∧x 19= .agg #[.slice (some ⟨g1,0,none⟩) v.n1 v.n1, .slice (some ⟨g2,0,none⟩) v.n2 v.n2, .slice A v.n3 c, .slice A' v.n4 c', .int .i64 0, .int .i64 0, .int .i64 0, .int .i64 0, .int .i64 0]∧W.heap.size≤p∧Blk u p [.slice (some ⟨g1,0,none⟩) v.n1 v.n1, .slice (some ⟨g2,0,none⟩) v.n2 v.n2, .slice A v.n3 c, .slice A' v.n4 c', .int .i64 0, .int .i64 0, .int .i64 0, .int .i64 0, .int .i64 0] 83:=hd ⟨16, .data⟩ sI rfl;clear hd;obtain⟨p,_,_,_,_,_,_,h20,q1,q2,q3⟩:=e16;clear q1;generalize k20:x 20=z20 at h20 hK ⊢;subst h20;go_simp
    exact hK _ _ ⟨p,rfl,k20⟩ bR hG
   all_goals
    intro x u hG hd K hK;dsimp only at hd;simp only[eB]at hd
    try simp only[hd]at hK ⊢
    first|(go_simp;exact hK _ _ rfl bR hG)|(obtain⟨HX,l0,l1,l2,l3⟩:=id hG;go_simp;exact hK _ _ rfl bR hG)|(go_simp;exact hK _ _ ⟨_,rfl,hG.1.size,Blk.new _ _ _⟩ (bR.alloc (Nat.le_refl _) _) (HG.out _ _ hG (bR.alloc (Nat.le_refl _) _)))
  case h0=>exact⟨bR.drew,c0,c1,c2,c3⟩
  case hkeep=>
   intro j x u u' ht hG hb
   rcases j with _|_|_|_|_|_|_|_|_|_|_|_|_|_|_|_|_|_|j
   all_goals (try exact ht)
   · obtain⟨g,h1,h2,h3⟩:=ht;exact⟨g,h1,h2,h3.below hb⟩
   · obtain⟨g,h1,h2,h3⟩:=ht;exact⟨g,h1,h2,h3.below hb⟩
   · obtain⟨A,c,h1,h2⟩:=ht;exact⟨A,c,h1,ownsRow_touch h2 (Touch.of_below hb) sI⟩
   · obtain⟨A,c,A',c',h1,h2,h3,h4⟩:=ht;exact⟨A,c,A',c',h1,h2,ownsRow_touch h3 (Touch.of_below hb) sI,h4⟩
   obtain⟨p,g1,g2,A,c,A',c',h1,h2,h3,h4⟩:=ht;exact⟨p,g1,g2,A,c,A',c',h1,h2,h3,h4.below hb⟩
  rintro x u hG ⟨_,_,_,t3,_,_,_,t7,_,_,t10,_,_,t13,t14,t15,t16,t17,_⟩;obtain⟨p,hx3,hx20⟩:=t17;obtain⟨p',g1,g2,A,c,A',c',k20,k19,hp,hB⟩:=t16;obtain⟨b1,b2,b3,b4,b5,b6,j19,j18⟩:=t15;obtain⟨d1,d2,d3,d4,d5,d6,i18,i7,i11,i14,i17⟩:=t14;obtain⟨f1,h7,hf1,hb1⟩:=t3;obtain⟨f2,h11,hf2,hb2⟩:=t7;obtain⟨f3,f4,h14,ho3⟩:=t10;obtain⟨m1,m2,m3,m4,l14,l17,ho4,hnd⟩:=t13;have q1:=hx20.symm.trans k20;have q2:=j19.symm.trans k19;have q3:=i18.symm.trans j18;have q4:=i7.symm.trans h7;have q5:=i11.symm.trans h11;have q6:=i14.symm.trans h14;have q7:=i14.symm.trans l14;have q8:=i17.symm.trans l17;simp only[Value.pointer.injEq,Value.agg.injEq,Value.slice.injEq,Option.some.injEq,Addr.mk.injEq,Array.mk.injEq,List.cons.injEq,and_true,true_and]at q1 q2 q3 q4 q5 q6 q7 q8;subst q1 q4 q5
  obtain⟨rfl,rfl,⟨rfl,rfl⟩,⟨rfl,rfl⟩⟩:=q2;obtain⟨rfl,rfl,⟨rfl,rfl⟩,⟨rfl,rfl⟩⟩:=q3;obtain⟨rfl,rfl⟩:=q6;obtain⟨rfl,rfl⟩:=q7;obtain⟨rfl,rfl⟩:=q8;clear k20 k19 j19 j18 i18 i7 i11 i14 i17 h7 h11 h14 l14 l17 hx20;dsimp only;go_wp2_with fail
  go_meet
  refine⟨p,⟨some ⟨d1,0,none⟩,v.n1,v.n1,some ⟨d2,0,none⟩,v.n2,v.n2,d3,v.n3,d4,d5,v.n4,d6⟩,by first|rfl|rw[hx3],hG.1,hB,hp,?_,⟨?_,?_,ho3,ho4,?_⟩,rfl,rfl⟩
  · have n3:=fun b hb=>(ownsRow_ty ho3 b hb);have n4:=fun b hb=>(ownsRow_ty ho4 b hb);intro hm;simp only[blks,List.mem_append,ownB_one,List.mem_singleton]at hm
    rcases hm with rfl|rfl|hm|hm
    · exact blk_ty hB hb1 dE
    · exact blk_ty hB hb2 dE
    · exact blk_ty' hB (n3 _ hm) dE
    exact blk_ty' hB (n4 _ hm) dE
  · rw[←made_sp];exact ownsRow_blk hb1 hf1 (by show v.n1≤maxLen;unfold maxLen;omega) (by simp[size_madeCells])
  · rw[←made_ln];exact ownsRow_blk hb2 hf2 (by show v.n2≤maxLen;unfold maxLen;omega) (by simp[size_madeCells])
  have n3:=fun b hb=>(ownsRow_ty ho3 b hb);have n4:=fun b hb=>(ownsRow_ty ho4 b hb);simp only[blks,ownB_one];rw[List.nodup_append,List.nodup_append,List.nodup_append];refine⟨by simp,⟨by simp,⟨by cases d3<;>simp[ownB],by cases d5<;>simp[ownB],fun a ha b hb=>?_⟩,fun a ha b hb=>?_⟩,fun a ha b hb=>?_⟩
  · rintro rfl;exact hnd a hb ha
  · simp only[List.mem_singleton]at ha;subst ha;rintro rfl
    rcases List.mem_append.1 hb with hb|hb
    · exact blk_ty' hb2 (n3 _ hb) dE
    exact blk_ty' hb2 (n4 _ hb) dE
  simp only[List.mem_singleton]at ha;subst ha;rintro rfl
  rcases List.mem_append.1 hb with hb|hb
  · simp only[List.mem_singleton]at hb;subst hb;exact blk_ty hb1 hb2 dE
  rcases List.mem_append.1 hb with hb|hb
  · exact blk_ty' hb1 (n3 _ hb) dE
  exact blk_ty' hb1 (n4 _ hb) dE
 obtain⟨p,v',rfl,hQ,hB,hp,hnp,hO,hn1,hn2⟩:=hcut;obtain⟨m0,m1,m2,m3⟩:=HS.out _ hQ;have hpz:p≠w.heap.size:=by have:=hBk.lt;omega
 have hzp:w.heap.size≠p:=fun e=>hpz e.symm;obtain⟨n0,n1,n2,n3,n4,n5,n6,n7,n8,nf⟩:=hB.nine;have hR1:=(hD.below hQ).sp;have hR2:=(hD.below hQ).ln;have hO1:=hO.sp;rw[hn1]at hO1 n0;have hR1:Rd 2 spC wc.drew v.A1 v.n1 d.sp:=hR1;have hO1:wc.drew.ownsRow W.heap.size 73 2 (.slice v'.A1 v.n1 v'.c1) v.n1 ((List.replicate v.n1 (⟨0,0⟩:Spider)).flatMap spC):=hO1;go_wp2_with fail
 go_region_law (with_reducible refine step_copy_k rfl _ _ 22 22 rfl 73 i73 2 Tryz.underlying22 HI.out.1 HI.out.2.2.1 spC_len dE spC_one _ _ _ _ _ rfl rfl W.heap.size _ _ hO1 hR1 ?_;intro w5 ho5 hg5)
 all_goals
  have hT5:Touch (ownB v'.A1) wc w5:=((Touch.refl _ wc).drew).grown hg5 (fun k hk=> .inl (ownBlock_ownB hk));have hlt5:=hO.lt;have hS5:∀x∈ownB v'.A1,W.heap.size≤x:=fun x hx=>(hlt5 x (by simp[blks,hx])).1;have hQ5:Below W.heap.size W w5:=hQ.trans (hT5.below hQ.size hS5);have hB5:Blk w5 p (dcs v' Num.nil) 83:=hB.touch hT5 (fun hm=>hnp (by simp[blks,hm]));have hO5:=hO.newSp hT5 (nd1 hO.nd) (A:=v'.A1) (n:=v.n1) (c:=v'.c1) ho5 (fun b hb=> .inl hb);rw[←hn1]at hO5;have hO5:OwnD W.heap.size w5 v' {sp:=d.sp,ln:=List.replicate v.n2 ⟨0,0,false⟩,ins:=d.ins,outs:=d.outs,sc:=Num.nil}:=hO5;clear m0 m1 m2 m3 n0 n1 n2 n3 n4 n5 n6 n7 n8 nf hR1 hR2 hO1 ho5 hg5 hB hO hQ hT5 hS5 hlt5;obtain⟨m0,m1,m2,m3⟩:=HS.out _ hQ5;obtain⟨n0,n1,n2,n3,n4,n5,n6,n7,n8,nf⟩:=hB5.nine
  have hR2:Rd 3 lnC w5.drew v.A2 v.n2 d.ln:=(hD.below hQ5).ln;have hO2:=hO5.ln;rw[hn2]at hO2 n1;have hO2:w5.drew.ownsRow W.heap.size 77 3 (.slice v'.A2 v.n2 v'.c2) v.n2 ((List.replicate v.n2 (⟨0,0,false⟩:Line)).flatMap lnC):=hO2;go_wp2_with fail
  go_region_law (with_reducible refine step_copy_k rfl _ _ 23 23 rfl 77 i77 3 Tryz.underlying23 HI.out.2.1 HI.out.2.2.2 lnC_len dE lnC_one _ _ _ _ _ rfl rfl W.heap.size _ _ hO2 hR2 ?_;intro w6 ho6 hg6)
  all_goals
   have hT6:Touch (ownB v'.A2) w5 w6:=((Touch.refl _ w5).drew).grown hg6 (fun k hk=> .inl (ownBlock_ownB hk));have hlt6:=hO5.lt;have hS6:∀x∈ownB v'.A2,W.heap.size≤x:=fun x hx=>(hlt6 x (by simp[blks,hx])).1;have hQ6:Below W.heap.size W w6:=hQ5.trans (hT6.below hQ5.size hS6);have hB6:Blk w6 p (dcs v' Num.nil) 83:=hB5.touch hT6 (fun hm=>hnp (by simp[blks,hm]));have hO6:=hO5.newLn hT6 (nd2 hO5.nd) (A:=v'.A2) (n:=v.n2) (c:=v'.c2) ho6 (fun b hb=> .inl hb);rw[←hn2]at hO6;have hO6:OwnD W.heap.size w6 v' {sp:=d.sp,ln:=d.ln,ins:=d.ins,outs:=d.outs,sc:=Num.nil}:=hO6;have hK6:WK 83 [] W.heap.size w6 p v' {sp:=d.sp,ln:=d.ln,ins:=d.ins,outs:=d.outs,sc:=Num.nil}:=⟨by simpa using hB6,hO6,hnp,hp⟩;clear m0 m1 m2 m3 n0 n1 n2 n3 n4 n5 n6 n7 n8 nf hR2 hO2 ho6 hg6 hB5 hO5 hQ5 hT6 hS6 hlt6 hB6 hO6
   have hBk6:=hBk.below hQ6;obtain⟨m0,m1,m2,m3,m4,m5,m6,m7,m8,mf⟩:=hBk6.nine;have HL:=fun W=>leastN d.sc W hc;have HW:Aside (W.heap.size=w.heap.size+1∧Below w.heap.size w W):=HWs;clear hBk hBk6 c0 c1 c2 c3 c4 c5 c6 c7 c8 cf HS hm1 hm2 HG hQ0 hD hd
   go_wp2_with (first|(go_at_call 138;(with_reducible refine(HL _).mono ?_);rintro e w7 ⟨rfl,hb7⟩;have hK7:=hK6.below hb7;have hQ7:=below_then hQ6 hb7;obtain⟨n0,n1,n2,n3,n4,n5,n6,n7,n8,nf⟩:=hK7.nine;clear hK6 hQ6))
   go_ret
   have hz:=hK7.putSc d.sc.form;refine⟨p,v',rfl,⟨hz.1.blk,hz.1.own.mono (by have:=HW.out.1;omega),hz.1.np,by have:=HW.out.1;have:=hz.1.hp;omega⟩,?_⟩
   exact HW.out.2.trans ((hQ7.trans (hK7.below_of hz.2 hQ7.size)).mono (by have:=HW.out.1;omega))
end
section
open Go.RowKit Go.Shelf
variable {t:TypeId} {tl:List Value} {B:Nat} {p:Nat} {g:Nat} {w:World} {w':World} {v:DV} {d:Diag}
structure Diag.Lim (d:Diag):Prop where
 ln:∀l∈d.ln,(-1000000≤l.f∧l.f≤1000000)∧(-1000000≤l.t∧l.t≤1000000)
 ins:∀x∈d.ins,-1000000≤x∧x≤1000000
 outs:∀x∈d.outs,-1000000≤x∧x≤1000000
theorem WK.sameIns (h:WK t tl B w p v d) (hg:Touch (ownB v.A3) w w') {xs:List Int} (ho:w'.ownsRow B 3 1 (.slice v.A3 v.n3 v.c3) v.n3 (xs.flatMap inC)):WK t tl B w' p v {d with ins:=xs}∧Upd p v w v w':=
 ⟨h.rows hg (fun hm=>h.np (by simp[blks,hm])) (h.own.newIns hg (nd3 h.own.nd) ho (fun b hb=> .inl hb)) rfl,Upd.of_touch (hg.mono fun b hb=> .inl (by simp[blks,hb]))⟩
theorem WK.sameOuts (h:WK t tl B w p v d) (hg:Touch (ownB v.A4) w w') {xs:List Int} (ho:w'.ownsRow B 3 1 (.slice v.A4 v.n4 v.c4) v.n4 (xs.flatMap inC)):WK t tl B w' p v {d with outs:=xs}∧Upd p v w v w':=
 ⟨h.rows hg (fun hm=>h.np (by simp[blks,hm])) (h.own.newOuts hg (nd4 h.own.nd) ho (fun b hb=> .inl hb)) rfl,Upd.of_touch (hg.mono fun b hb=> .inl (by simp[blks,hb]))⟩
def mixL (x y:Line) (b c:Bool):Line:=⟨if b then y.f else x.f,if c then y.t else x.t,x.hat⟩
def AwG (t:TypeId) (tl:List Value) (B p:Nat) (v:DV) (d:Diag) (M:List Line) (jj:Nat) (x y:Line) (Wa:World) (b c:Bool) (u:World):Prop:=
 WK t tl B u p v {d with ln:=M.set jj (mixL x y b c)}∧Upd p v Wa v u
theorem AwG.st1 {M:List Line} {jj:Nat} {x y:Line} {Wa u:World} {b c:Bool} (h:AwG t tl B p v d M jj x y Wa b c u) (hA:v.A2=some ⟨g,0,none⟩) (hj:jj<M.length):AwG t tl B p v d M jj x y Wa true c (u.setCell ⟨g,jj*3,none⟩ y.f):=by
 have h1:=h.1.rowLn hA (i:=jj) (x:=mixL x y b c) (y:=mixL x y true c) (by simp[hj]) 0 dE y.f (by simp[mixL,lnC]);rw[Nat.add_zero]at h1;refine⟨?_,h.2.trans h1.2⟩
 have h2:=h1.1;simp only[List.set_set]at h2;exact h2
theorem AwG.st2 {M:List Line} {jj:Nat} {x y:Line} {Wa u:World} {b c:Bool} (h:AwG t tl B p v d M jj x y Wa b c u) (hA:v.A2=some ⟨g,0,none⟩) (hj:jj<M.length):AwG t tl B p v d M jj x y Wa b true (u.setCell ⟨g,jj*3+1,none⟩ y.t):=by
 have h1:=h.1.rowLn hA (i:=jj) (x:=mixL x y b c) (y:=mixL x y b true) (by simp[hj]) 1 dE y.t (by simp[mixL,lnC]);refine⟨?_,h.2.trans h1.2⟩
 have h2:=h1.1;simp only[List.set_set]at h2;exact h2
theorem AwG.cells {M:List Line} {jj:Nat} {x y:Line} {Wa u:World} {b c:Bool} (h:AwG t tl B p v d M jj x y Wa b c u) (hA:v.A2=some ⟨g,0,none⟩) (hj:jj<M.length):
  u.cell? ⟨p,1,none⟩=some (.slice v.A2 v.n2 v.c2)∧(∃z,u.cell? ⟨g,jj*3,none⟩=some (.int .i64 z))∧(∃z,u.cell? ⟨g,jj*3+1,none⟩=some (.int .i64 z))∧∀o,u.frozen? ⟨g,o,none⟩=false:=by
 have ho:=h.1.own.ln;rw[hA]at ho;have hx:(M.set jj (mixL x y b c))[jj]?=some (mixL x y b c):=by simp[hj]
 refine⟨h.1.nine.2.1,⟨_,by simpa using ownsRow_at lnC_len ho hx (j:=0) rfl⟩,⟨_,ownsRow_at lnC_len ho hx (j:=1) rfl⟩,fun o=>?_⟩
 have h2:(M.set jj (mixL x y b c)).length=v.n2:=h.1.own.n2;obtain⟨g',hg,_,_,_,hf⟩:=ownsRow_shape ho (by rw[List.length_set]at h2;omega);cases hg
 exact hf o
theorem away181 (h:WK t tl B w p v d) (hl:d.Lim) (n:Nat) (hn:n<v.n1) (hn1:v.n1≤100000) (hn2:v.n2≤100000) (hn3:v.n3≤100000) (hn4:v.n4≤100000):
  Calls Tryz.prog 181 #[pt p 0,n] w fun e w'=>(∃z,e= .returned z)∧∃v',WK t tl B w' p v' (d.away n)∧Upd p v w v' w':=by
 obtain⟨W,hW⟩:∃W,W=w.alloc (.cells #[n] 3):=⟨_,rfl⟩;have hBX:Blk W w.heap.size [n] 3:=by rw[hW];exact Blk.new _ _ _
 have hK:WK t tl B W p v d:=by rw[hW];exact h.alloc _
 have hU:Upd p v w v W:=by rw[hW];exact(Upd.refl _ _ _).alloc _
 have hbA:Aprt w.heap.size p v W:=by rw[hW];exact h.new_aprt _
 have hbc:=hBX.cell 0 _ rfl;have HC:=cut196 hK (fun l=>l.at n) 197 #[pt w.heap.size 0] e197 (predS197 (ownB v.A2) n w.heap.size W hbc (fun hm=>hbA.2.2 (by simp[blks,hm]))) hn2;go_enter Tryz.func181,Tryz.ntmps181
 go_upto_region 2 with(first|(go_at_call 196;(rw[←hW]);(with_reducible refine HC.mono ?_);rintro e W1 ⟨⟨z1,rfl⟩,v1,hK1,hU1⟩;clear HC))
 have hbX1:=hBX.upd hbA hU1;have hbA1:=hbA.upd hU1;obtain⟨d1,hd1⟩:∃d1:Diag,d1={d with ln:=d.ln.filter (fun x=>!x.at n)}:=⟨_,rfl⟩;rw[←hd1]at hK1
 have hv1:n<v1.n1∧v1.n1≤100000:=by
  have h1:d1.sp.length=v1.n1:=hK1.own.n1;have h2:d.sp.length=v.n1:=hK.own.n1;rw[hd1]at h1;have h3:d.sp.length=v1.n1:=h1;omega
 have hwn:IntKind.i64.wrap ((n:Int)+1)=(n:Int)+1:=IntWalk.i64_in _ oM;have HD1:Aside (d1={d with ln:=d.ln.filter (fun x=>!x.at n)}):=hd1;clear hd1
 have HS:Aside (∀wx,Below W1.heap.size W1 wx→wx.cell? ⟨p,0,none⟩=some (.slice v1.A1 v1.n1 v1.c1)∧wx.frozen? ⟨p,0,none⟩=false∧wx.cell? ⟨w.heap.size,0,none⟩=some (.int .i64 n)):=by
  intro wx hb;obtain⟨m0,_,_,_,_,_,_,_,_,mf⟩:=(hK1.below hb).nine;exact⟨m0,mf _,(hbX1.below hb).cell 0 _ rfl⟩
 have H198:=fun WX (ho:WX.ownsRow B 73 2 (.slice v1.A1 v1.n1 v1.c1) v1.n1 (d1.sp.flatMap spC))=>del198 v1.A1 v1.n1 v1.c1 n B d1.sp WX ho oM oM
 refine wp_region_F [(11,13)] (fun l u=>(l 9=false→Below W1.heap.size W1 u)∧(l 13=false→Touch (ownB v1.A1) W1 u)) (fun i u u'=>match i with|9=>Touch (ownB v1.A1) u u'|13=>∃x9,u'=u.setCell ⟨p,0,none⟩ x9|_=>Below u.heap.size u u') (fun j x u=>match j with|0=>x 11=pt p 0|1=>x 12=pt p 0|2=>x 13=pt p 0|3=>x 14=pt p 0|4=>x 15=pt p 0|5=>x 16= .slice v1.A1 v1.n1 v1.c1|6=>x 17=n|7=>x 18=n|8=>x 19= .int .i64 (n+1)|9=>∃A' c',x 20= .slice A' (v1.n1-1) c'∧u.ownsRow B 73 2 (.slice A' (v1.n1-1) c') (v1.n1-1) ((d1.sp.eraseIdx n).flatMap spC)∧∀b∈ownB A',b∈ownB v1.A1∨W1.heap.size≤b|10=>x 21=pt p 0|11=>x 22=pt p 0|12=>x 23=pt p 0|13=>∃A' c',WK t tl B u p {v1 with A1:=A',n1:=v1.n1-1,c1:=c'} {d1 with sp:=d1.sp.eraseIdx n}∧Upd p v1 W1 {v1 with A1:=A',n1:=v1.n1-1,c1:=c'} u|_=>True) ?h0 ?hkeep ?hstep ?d0
 case h0=>exact⟨fun _=>bR.drew,fun _=>(Touch.refl _ _).drew⟩
 case hkeep=>
  intro j i x l u u' hj hi hpre ht hG hR
  by_cases hja:j=9
  · subst hja;obtain⟨A',c',h1,h2,h3⟩:=ht;refine⟨A',c',h1,?_,h3⟩
    by_cases hia:i=9
    · subst hia;rw[hj]at hi;cases hi
    by_cases his:i=13
    · subst his;obtain⟨x9,rfl⟩:=hR;refine ownsRow_touch h2 (Touch.set1 _ _ _ _) (fun b hb hm=>?_)
      simp at hm
      subst hm
      rcases h3 _ (ownBlock_ownB hb) with h4|h4
      · exact hK1.np (by simp[blks,h4])
      have:=hK1.lt;omega
    exact ownsRow_touch h2 (Touch.of_below (by have h9:=hR;split at h9<;>first|exact(hia rfl).elim|exact(his rfl).elim|exact h9)) sI
  by_cases hjs:j=13
  · subst hjs;obtain⟨A',c',h1,h2⟩:=ht
    by_cases hia:i=9
    · subst hia;rw[hpre 9 kR]at hi;cases hi
    by_cases his:i=13
    · subst his;rw[hj]at hi;cases hi
    exact⟨A',c',h1.below (by have h9:=hR;split at h9<;>first|exact(hia rfl).elim|exact(his rfl).elim|exact h9),h2.then_below (by have h9:=hR;split at h9<;>first|exact(hia rfl).elim|exact(his rfl).elim|exact h9)⟩
  exact(by have h9:=ht;clear ht;split at h9<;>first|exact h9|exact(hja rfl).elim|exact(hjs rfl).elim)
 case hstep=>
  dsimp only[fil,fls,fl,List.toList_toArray,Nat.reduceAdd];refine⟨?_,?_,?_,?_,?_,?_,?_,?_,?_,?c9,?_,?_,?_,?c13,trivial⟩
  all_goals intro l x u hG hno hli hpre hd K hK
  case c9=>
   have e5:x 16= .slice v1.A1 v1.n1 v1.c1:=hd ⟨5, .data⟩ sI rfl;have e6:x 17= .int .i64 n:=hd ⟨6, .data⟩ sI rfl;have e8:x 19= .int .i64 (n+1):=hd ⟨8, .data⟩ sI rfl;clear hd;simp only[e5,e6,e8]at hK ⊢;have hBl:=hG.1 hli;have hTc:=hG.2 (hno 13 kR);have hown1:=(hK1.below hBl).own.sp;go_simp
   (with_reducible refine(H198 _ hown1).mono ?_);rintro e w9 ⟨rfl,hown,htch⟩
   have hnb:∀b∈ownB v1.A1,b∈ownB v1.A1∨u.heap.size≤b:=fun b hb=> .inl hb;exact hK _ _ ⟨_,_,rfl,hown,fun b hb=>(hnb b hb).imp id (Nat.le_trans hBl.size)⟩ htch ⟨fun h=>by simp at h,fun _=>hTc.trans htch (fun x hx=> .inl hx)⟩
  case c13=>
   have e12:x 23=pt p 0:=hd ⟨12, .data⟩ sI rfl;have e9:∃A' c',x 20= .slice A' (v1.n1-1) c'∧u.ownsRow B 73 2 (.slice A' (v1.n1-1) c') (v1.n1-1) ((d1.sp.eraseIdx n).flatMap spC)∧∀b∈ownB A',b∈ownB v1.A1∨W1.heap.size≤b:=hd ⟨9, .data⟩ sI rfl;clear hd;simp only[e12]at hK ⊢;have hTc:=hG.2 hli;obtain⟨A',c',h20,hown,hnb⟩:=e9;generalize k20:x 20=z20 at h20 hK ⊢;subst h20;have hbk:=hK1.blk.touch hTc (fun hm=>hK1.np (by simp[blks,hm]));have hcl:=hbk.cell 0 _ rfl;have hfr:=hbk.free 0;have hput:=hK1.putSp hTc (fun b hb=> .inl hb) hown hnb;clear hbk;go_simp
   exact hK undef _ ⟨A',c',hput⟩ ⟨_,rfl⟩ ⟨fun h=>by simp[hpre 9 kR]at h,fun h=>by simp at h⟩
  all_goals
   dsimp only at hd;simp only[eB]at hd
   try simp only[hd]at hK ⊢
   first|(go_simp;exact hK _ _ rfl bR sG)|(obtain⟨m0,mf0,b0⟩:=HS.out _ (hG.1 (hno 9 kR));go_simp;exact hK _ _ rfl bR sG)
 dsimp only[fil,fls,fl,List.toList_toArray,Nat.reduceAdd];rintro l xa u hall hG ⟨_,_,_,_,_,_,_,_,_,_,_,_,_,tS,_⟩;obtain⟨A',c',hK2,hU2⟩:=tS;clear hall hG HS H198 hbc hK;have hU12:=hU1.trans hU2;clear hU1 hU2 hK1;obtain⟨v2,hv2⟩:∃v2:DV,v2={v1 with A1:=A',n1:=v1.n1-1,c1:=c'}:=⟨_,rfl⟩;obtain⟨d2,hd2⟩:∃d2:Diag,d2={d1 with sp:=d1.sp.eraseIdx n}:=⟨_,rfl⟩;rw[←hv2]at hK2 hU12;rw[←hd2]at hK2;have HD2:Aside (d2={d1 with sp:=d1.sp.eraseIdx n}):=hd2;clear hv2 hd2
 have hlln:∀x∈d2.ln,(-1000000≤x.f∧x.f≤1000000)∧(-1000000≤x.t∧x.t≤1000000):=by
  rw[HD2.out,HD1.out];intro x hx;exact hl.ln x (List.mem_filter.1 hx).1
 have hlin:∀x∈d2.ins,-1000000≤x∧x≤1000000:=by rw[HD2.out,HD1.out];exact hl.ins
 have hlou:∀x∈d2.outs,-1000000≤x∧x≤1000000:=by rw[HD2.out,HD1.out];exact hl.outs
 have HL:Aside (d2.ln.length≤100000):=by
  show _≤_
  rw[HD2.out,HD1.out];have h1:d.ln.length=v.n2:=h.own.n2;have h2:(d.ln.filter (fun x=>!x.at n)).length≤d.ln.length:=List.length_filter_le _ _;show (d.ln.filter (fun x=>!x.at n)).length≤100000
  omega
 have hn3':v2.n3≤100000:=by
  have h1:d2.ins.length=v2.n3:=hK2.own.n3;have h2:d.ins.length=v.n3:=h.own.n3;rw[HD2.out,HD1.out]at h1;have h3:d.ins.length=v2.n3:=h1;omega
 have hn4':v2.n4≤100000:=by
  have h1:d2.outs.length=v2.n4:=hK2.own.n4;have h2:d.outs.length=v.n4:=h.own.n4;rw[HD2.out,HD1.out]at h1;have h3:d.outs.length=v2.n4:=h1;omega
 have hAb:=hbA.upd hU12;have hBb:=hBX.upd hbA hU12;have HU12:Aside (Upd p v w v2 u):=hU.trans hU12;have hbc:=hBb.cell 0 _ rfl;have HLi:=less199 v2.A3 v2.n3 v2.c3 B d2.ins n w.heap.size u hK2.own.ins hbc (fun hm=>hAb.2.2 (by simp[blks,hm])) hlin hn3';have HLo:=fun wx (ho:wx.ownsRow B 3 1 (.slice v2.A4 v2.n4 v2.c4) v2.n4 (d2.outs.flatMap inC)) (hc:wx.cell? ⟨w.heap.size,0,none⟩=some (.int .i64 n))=>less199 v2.A4 v2.n4 v2.c4 B d2.outs n w.heap.size wx ho hc (fun hm=>hAb.2.2 (by simp[blks,hm])) hlou hn4';obtain⟨_,_,q2,_,_,_,_,_,_,_⟩:=hK2.nine;have HK2:Aside (WK t tl B u p v2 d2):=hK2;have HB:Aside (∀u',Upd p v2 u v2 u'→u'.cell? ⟨w.heap.size,0,none⟩=some (.int .i64 n)):=fun u' hu=>(hBb.upd hAb hu).cell 0 _ rfl;clear hBb hbc hK2 hBX hbX1 hbA1 hbA hU12 hU hW hlin hlou hn3' hn4'
 go_upto_region 6 with(first
   |((with_reducible refine HLi.mono ?_);rintro e w3 ⟨⟨z3,rfl⟩,ho3,hT3⟩;obtain⟨hK3,hU3⟩:=HK2.out.sameIns hT3 ho3;have hb3:=HB.out _ hU3;obtain⟨_,_,_,q3,_,_,_,_,_,_⟩:=hK3.nine;clear HLi ho3 hT3 q2)
   |((with_reducible refine(HLo _ hK3.own.outs hb3).mono ?_);rintro e w4 ⟨⟨z4,rfl⟩,ho4,hT4⟩;obtain⟨hK4,hU4⟩:=hK3.sameOuts hT4 ho4;clear HLo ho4 hT4 q3))
 have hU14:=hU3.trans hU4;obtain⟨d3,hd3⟩:∃d3:Diag,d3={d2 with ins:=d2.ins.map (downI · n),outs:=d2.outs.map (downI · n)}:=⟨_,rfl⟩;have HK4:Aside (WK t tl B w4 p v2 d3):=by show WK t tl B w4 p v2 d3;rw[hd3];exact hK4
 have HX:Aside (d3.ln.length=v2.n2∧v2.n2≤100000∧(∀x∈d3.ln,(-1000000≤x.f∧x.f≤1000000)∧(-1000000≤x.t∧x.t≤1000000))):=by
  have h1:d3.ln.length=v2.n2:=HK4.out.own.n2;have h2:d3.ln=d2.ln:=by rw[hd3]
  exact⟨h1,by have:=HL.out;rw[←h1,h2];exact this,by rw[h2];exact hlln⟩
 have HD3:Aside (d3={d2 with ins:=d2.ins.map (downI · n),outs:=d2.outs.map (downI · n)}):=hd3;have HU4:Aside (Upd p v w v2 w4):=HU12.out.trans hU14;have HBc:Aside (∀u',Upd p v2 w4 v2 u'→u'.cell? ⟨w.heap.size,0,none⟩=some (.int .i64 n)):=fun u' hu=>HB.out u' (hU14.trans hu);have HAb:Aside (Aprt w.heap.size p v2 w4):=hAb.upd hU14;obtain⟨_,k1,_,_,_,_,_,_,_,_⟩:=HK4.out.nine;clear hd3 hU14 hU3 hU4 hK3 hK4 HK2 HB hAb HU12 hb3 hlln;go_wp2_with fail
 go_loopg [45] v2.n2 (fun gg s45 wr=>∃jj:Nat,jj≤v2.n2∧v2.n2-jj≤gg∧s45=jj∧Aside (WK t tl B wr p v2 {d3 with ln:=(d3.ln.take jj).map (Line.down n)++d3.ln.drop jj})∧Aside (Upd p v2 w4 v2 wr))
 case atStart=>exact⟨0,Nat.zero_le _,oM,rfl,by simpa [Aside] using HK4.out,Upd.refl _ _ _⟩
 obtain⟨jj,hjn,hg,rfl,hO,hT⟩:=hrel
 by_cases hlt:jj<v2.n2
 · have hltz:(jj:Int)<(v2.n2:Int):=oM
   obtain⟨g,hA2,_,_,_,hfz⟩:=ownsRow_shape hO.out.own.ln oM;obtain⟨ly,hx⟩:=get_of (l:=d3.ln) (n:=jj) (by rw[HX.out.1];exact hlt);obtain⟨⟨hx1,hx2⟩,hx3,hx4⟩:=HX.out.2.2 ly (List.mem_of_getElem? hx);have hxm:=map_take_at (Line.down n) hx;have hol:=hO.out.own.ln;rw[hA2]at hol;have l0:wr.cell? ⟨g,jj*3,none⟩=some (.int .i64 ly.f):=by simpa using ownsRow_at lnC_len hol hxm (j:=0) rfl
   have l1:=ownsRow_at lnC_len hol hxm (j:=1) rfl;have l2:=ownsRow_at lnC_len hol hxm (j:=2) rfl;have HN:Aside (((d3.ln.take jj).map (Line.down n)++d3.ln.drop jj).set jj (ly.down n)=(d3.ln.take (jj+1)).map (Line.down n)++d3.ln.drop (jj+1)):=map_take_drop (Line.down n) hx;have HA2:Aside (v2.A2=some ⟨g,0,none⟩):=hA2;clear hx hol;rw[hA2];obtain⟨Wa,hWa⟩:∃Wa,Wa=(wr.alloc (.cells #[ly.f,ly.t, .bool ly.hat] 77)).alloc (.cells #[ly.f,ly.t] 3):=⟨_,rfl⟩;have hUa:Upd p v2 wr v2 Wa:=by rw[hWa];exact((Upd.refl _ _ _).alloc _).alloc _
   have hKa:=show WK t tl B Wa p v2 {d3 with ln:=(d3.ln.take jj).map (Line.down n)++d3.ln.drop jj} by rw[hWa];exact(hO.out.alloc _).alloc _
   have hQb:Blk Wa (wr.heap.size+1) [ly.f,ly.t] 3:=by
    rw[hWa];have h1:=Blk.new (wr.alloc (.cells #[ly.f,ly.t, .bool ly.hat] 77)) #[ly.f,ly.t] 3;rw[show (wr.alloc (.cells #[ly.f,ly.t, .bool ly.hat] 77)).heap.size=wr.heap.size+1 by simp]at h1;exact h1
   have hAq:Aprt (wr.heap.size+1) p v2 Wa:=⟨hQb.lt,by have:=hO.out.lt;omega,fun hm=>by have:=(hO.out.own.lt _ hm).2;omega⟩;have hbcA:=HBc.out Wa (hT.out.trans hUa);have hbs:w.heap.size<wr.heap.size:=(HAb.out.upd hT.out).1;have HLq:=less199 (some ⟨wr.heap.size+1,0,none⟩) 2 2 (wr.heap.size+1) [ly.f,ly.t] n w.heap.size Wa (ownsRow_blk hQb (Nat.le_refl _) dE (by simp[inC])) hbcA (by simp[ownB];omega) (by intro z hz;simp at hz;omega) dE
   have HO5:Aside (∀w5,Touch [wr.heap.size+1] Wa w5→AwG t tl B p v2 d3 ((d3.ln.take jj).map (Line.down n)++d3.ln.drop jj) jj ly (ly.down n) wr false false w5∧Aprt (wr.heap.size+1) p v2 w5):=by
    intro w5 hT5;refine⟨⟨?_,hUa.t.trans hT5 ?_,fun b hb=> .inl hb⟩,hAq.le hT5.size⟩
    · have h5:((d3.ln.take jj).map (Line.down n)++d3.ln.drop jj).set jj (mixL ly (ly.down n) false false)=(d3.ln.take jj).map (Line.down n)++d3.ln.drop jj:=list_set_self hxm;rw[h5];refine hKa.touch hT5 ?_ ?_
      · simp;have:=hO.out.lt;omega
      intro b hb hm;simp at hm
      subst hm;exact hAq.2.2 hb
    intro z hz;simp at hz;subst hz;right;omega
   have HJ:Aside (jj<((d3.ln.take jj).map (Line.down n)++d3.ln.drop jj).length):=by
    show _<_
    rw[List.length_append,List.length_map,List.length_take,List.length_drop,HX.out.1];omega
   clear hKa hAq hbcA hQb hxm hUa
   go_upto_region 11 with(rw[←hWa];(with_reducible refine HLq.mono ?_);rintro e w5 ⟨⟨z5,rfl⟩,ho5,hT5⟩;obtain⟨hK5,hA5⟩:=HO5.out w5 hT5;clear HLq HO5 hWa l0 l1 l2 hT5)
   have HQ:Aside (∀u',Upd p v2 w5 v2 u'→u'.cell? ⟨wr.heap.size+1,0,none⟩=some (.int .i64 (downI ly.f n))∧u'.cell? ⟨wr.heap.size+1,1,none⟩=some (.int .i64 (downI ly.t n))):=by
    intro u' hu;have h1:=World.cell?_of_block (w:=w5) (a:=⟨wr.heap.size+1,0,none⟩) (hu.t.block _ hA5.1 (by simp[hA5.2.1,hA5.2.2]));have h2:=World.cell?_of_block (w:=w5) (a:=⟨wr.heap.size+1,1,none⟩) (hu.t.block _ hA5.1 (by simp[hA5.2.1,hA5.2.2]));exact⟨h1.trans (by simpa using ownsRow_at inC_len ho5 (i:=0) (j:=0) rfl rfl),h2.trans (by simpa using ownsRow_at inC_len ho5 (i:=1) (j:=0) rfl rfl)⟩
   clear ho5;have hG0:AwG t tl B p v2 d3 ((d3.ln.take jj).map (Line.down n)++d3.ln.drop jj) jj ly (ly.down n) w5 false false w5.drew:=⟨hK5.1.drew,(Upd.refl _ _ _).drew⟩;have HU5:Aside (Upd p v2 wr v2 w5):=hK5.2;clear hK5 HAb HBc
   refine wp_region_F [(58,22)] (fun l u=>AwG t tl B p v2 d3 ((d3.ln.take jj).map (Line.down n)++d3.ln.drop jj) jj ly (ly.down n) w5 (l 20) (l 23) u) (fun i u u'=>True) (fun j x u=>match j with|0=>x 58=pt p 0|1=>x 59=pt p 0|2=>x 60=pt p 0|3=>x 61=pt p 1|4=>x 62= .slice (some ⟨g,0,none⟩) v2.n2 v2.c2|5=>x 63=jj|6=>x 64=pt p 0|7=>x 65=pt p 0|8=>x 66=pt p 0|9=>x 67=pt p 1|10=>x 68= .slice (some ⟨g,0,none⟩) v2.n2 v2.c2|11=>x 69=jj|12=>x 70= .slice (some ⟨wr.heap.size+1,0,none⟩) 2 2|13=>x 71= .pointer (some ⟨wr.heap.size+1,0,none⟩)|14=>x 72= .int .i64 (downI ly.f n)|15=>x 73= .slice (some ⟨wr.heap.size+1,0,none⟩) 2 2|16=>x 74= .pointer (some ⟨wr.heap.size+1,1,none⟩)|17=>x 75= .int .i64 (downI ly.t n)|18=>x 76= .pointer (some ⟨g,jj*3,none⟩)|19=>x 77= .pointer (some ⟨g,jj*3,none⟩)|20=>True|21=>x 78= .pointer (some ⟨g,jj*3,none⟩)|22=>x 79= .pointer (some ⟨g,jj*3+1,none⟩)|23=>True|_=>True) ?h0 ?hkeep ?hstep ?d1
   case h0=>exact hG0
   case hkeep=>
    intro j i x l u u' hj hi hpre ht hG hR;exact ht
   case hstep=>
    dsimp only[fil,fls,fl,List.toList_toArray,Nat.reduceAdd];refine⟨?_,?_,?_,?_,?_,?_,?_,?_,?_,?_,?_,?_,?_,?_,?_,?_,?_,?_,?_,?_,?c20,?_,?_,?c23,trivial⟩
    all_goals intro l x u hG hno hli hpre hd K hK
    case c20=>
     have e19:x 77= .pointer (some ⟨g,jj*3,none⟩):=hd ⟨19, .data⟩ sI rfl;have e14:x 72= .int .i64 (downI ly.f n):=hd ⟨14, .data⟩ sI rfl;clear hd;simp only[e19,e14]at hK ⊢;obtain⟨m1,⟨y0,c0⟩,⟨y1,c1⟩,cf⟩:=hG.cells HA2.out HJ.out;rw[HA2.out]at m1;obtain⟨b0,b1⟩:=HQ.out _ hG.2;have hput:=hG.st1 HA2.out HJ.out;have hfr:=cf (jj*3);go_simp
     exact hK undef _ trivial trivial hput
    case c23=>
     have e22:x 79= .pointer (some ⟨g,jj*3+1,none⟩):=hd ⟨22, .data⟩ sI rfl;have e17:x 75= .int .i64 (downI ly.t n):=hd ⟨17, .data⟩ sI rfl;clear hd;simp only[e22,e17]at hK ⊢;obtain⟨m1,⟨y0,c0⟩,⟨y1,c1⟩,cf⟩:=hG.cells HA2.out HJ.out;rw[HA2.out]at m1;obtain⟨b0,b1⟩:=HQ.out _ hG.2;have hput:=hG.st2 HA2.out HJ.out;have hfr:=cf (jj*3+1);go_simp
     exact hK undef _ trivial trivial hput
    all_goals
     dsimp only at hd;simp only[eB]at hd
     try simp only[hd]at hK ⊢
     first|(go_simp;exact hK _ _ rfl trivial hG)|(obtain⟨m1,⟨y0,c0⟩,⟨y1,c1⟩,cf⟩:=hG.cells HA2.out HJ.out;rw[HA2.out]at m1;obtain⟨b0,b1⟩:=HQ.out _ hG.2;go_simp;exact hK _ _ rfl trivial hG)
   dsimp only[fil,fls,fl,List.toList_toArray,Nat.reduceAdd];rintro l xb u5 hall hG _;rw[hall 20 dE,hall 23 dE]at hG;clear hall;go_wp2_with fail
   rw[←HA2.out];have hx9:=HX.out.2.1
   go_roundg (v2.n2-(jj+1))
   case measure=>omega
   refine⟨jj+1,oM,Nat.le_refl _,(by go_simp;first|exact IntWalk.i64_in _ oM|(clear hwn;go_num)|(clear hwn;unfold wrap64;omega)),?_,?_⟩
   · show WK t tl B _ p v2 _
     rw[←HN.out];exact hG.1
   exact(hT.out.trans HU5.out).trans hG.2
 have hltz:¬(jj:Int)<(v2.n2:Int):=oM
 have hjj:jj=v2.n2:=oM
 have hall:(d3.ln.take jj).map (Line.down n)++d3.ln.drop jj=d3.ln.map (Line.down n):=by
  rw[List.take_of_length_le (by rw[HX.out.1,hjj];exact Nat.le_refl _),List.drop_eq_nil_of_le (by rw[HX.out.1,hjj];exact Nat.le_refl _),List.append_nil]
 rw[hall]at hO;clear hall hjj
 go_wp2
 go_end0
 refine⟨⟨_,rfl⟩,v2,?_,HU4.out.trans hT.out⟩
 have h9:=hO.out;rw[HD3.out,HD2.out,HD1.out]at h9;exact h9
end
section
open Go.RowKit Go.Shelf
variable {α:Type} {t:TypeId} {tl:List Value} {B:Nat} {N:Nat} {p:Nat} {i:Nat} {w:World} {w':World} {v:DV} {v':DV} {d:Diag}
structure Diag.Ok (d:Diag):Prop where
 n1:d.sp.length≤40
 n2:d.ln.length≤100
 n3:d.ins.length≤40
 n4:d.outs.length≤40
 sp:∀s∈d.sp,(0≤s.kind∧s.kind≤2)∧0≤s.phase∧s.phase≤7
 ln:∀l∈d.ln,(0≤l.f∧l.f<d.sp.length)∧0≤l.t∧l.t<d.sp.length
 ins:∀x∈d.ins,0≤x∧x<d.sp.length
 outs:∀x∈d.outs,0≤x∧x<d.sp.length
 sc:d.sc.check=0
theorem Diag.Ok.lim (h:d.Ok):d.Lim:=by
 have h1:=h.n1;exact⟨fun l hl=>by have:=h.ln l hl;omega,fun x hx=>by have:=h.ins x hx;omega,fun x hx=>by have:=h.outs x hx;omega⟩
def RuleR (t:TypeId) (tl:List Value) (B p:Nat) (v:DV) (w:World) (m:Made) (e:Ending) (w':World):Prop:=match m with
 |none=>(∃q,e= .returned (.tuple #[.bool false,q]))∧Touch (p::blks v) w w'
 |some x=>e= .returned (.tuple #[.bool true, .int .i64 (Diag.finish (some x)).2])∧∃v' d',WK t tl B w' p v' d'∧Upd p v w v' w'∧((Diag.finish (some x)).2=0→d'=(Diag.finish (some x)).1)
theorem Num.powP_err (y:Num):∀(n:Nat) (x:Num),(Num.powP n y x).2=0∨(Num.powP n y x).2=8
 |0,x=> .inl rfl
 | n+1,x=>by
  unfold Num.powP
  split
  · exact Num.powP_err y n _
  exact .inr rfl
theorem Num.power_err (x:Num) (n:Int):(x.power n).2=0∨(x.power n).2=8:=Num.powP_err _ _ _
theorem finish_id (d:Diag) (h:d.ln.length≤100):Diag.finish (some (d,[],0))=(d,0):=by
 show (if 100<d.ln.length then _ else _)=_
 rw[if_neg oM];rfl
theorem finish_pow (d:Diag) (n:Int) (h:d.ln.length≤100):(Diag.finish (some (d,[],n))).2=(d.sc.power n).2∧((Diag.finish (some (d,[],n))).2=0→(Diag.finish (some (d,[],n))).1={d with sc:=(d.sc.power n).1}):=by
 have e:Diag.finish (some (d,[],n))=if (d.sc.power n).2=0 then({d with sc:=(d.sc.power n).1},0) else(Diag.nil,8):=by
  show (if 100<d.ln.length then _ else _)=_
  rw[if_neg oM];rfl
 rw[e]
 rcases Num.power_err d.sc n with h0|h0
 · rw[if_pos h0,h0];exact⟨rfl,fun _=>rfl⟩
 rw[if_neg oM,h0];exact⟨rfl,fun h=>by cases h⟩
theorem RuleR.none (q:Int) (h:Touch (p::blks v) w w'):RuleR t tl B p v w none (.returned (.tuple #[.bool false,q])) w':=⟨⟨q,rfl⟩,h⟩
theorem RuleR.id (hK:WK t tl B w' p v' d) (hU:Upd p v w v' w') (h:d.ln.length≤100):RuleR t tl B p v w (some (d,[],0)) (.returned (.tuple #[.bool true, .int .i64 0])) w':=by
 unfold RuleR;simp only[finish_id d h];exact⟨trivial,v',d,hK,hU,fun _=>rfl⟩
theorem RuleR.pow (n:Int) (hK:WK t tl B w' p v' {d with sc:=(d.sc.power n).1}) (hU:Upd p v w v' w') (h:d.ln.length≤100):RuleR t tl B p v w (some (d,[],n)) (.returned (.tuple #[.bool true, .int .i64 (d.sc.power n).2])) w':=by
 obtain⟨h1,h2⟩:=finish_pow d n h;exact⟨by rw[h1],v',_,hK,hU,fun h0=>(h2 h0).symm⟩
theorem eraseIdx_len {l:List α} (h:i<l.length):(l.eraseIdx i).length=l.length-1:=by rw[List.length_eraseIdx,if_pos h]
theorem loops186 (h:WK t tl B w p v d) (hG:Glob N w) (hN:N≤B) (hd:d.Ok) (i:Nat) (hi:i<d.ln.length) (q:Int):
  Calls Tryz.prog 186 #[pt p 0,i,q] w (RuleR t tl B p v w (d.loops i)):=by
 obtain⟨l,hl⟩:=get_of hi;obtain⟨lf,lt,lh⟩:=l;obtain⟨⟨hf0,hf1⟩,ht0,ht1⟩:=hd.ln _ (List.mem_of_getElem? hl);dsimp only at hf0 hf1 ht0 ht1;have hn:=h.own.n2;have hn2:=hd.n2;obtain⟨_,c1,_,_,_,_,_,_,_,cf⟩:=h.nine;obtain⟨g,hA,l0,l1,l2,lf_⟩:=h.own.lnAt hl;have hiz:(i:Int)<(v.n2:Int):=oM
 have hM:d.loops i=if lf≠lt then none else if lh=false then some (d.cutLn i,[],0) else some ((d.cutLn i).addPh lf 4,[],-1):=by
  unfold Diag.loops;rw[hl];simp[Line.loop]
 have hwi:IntKind.i64.wrap ((i:Int)+1)=(i:Int)+1:=IntWalk.i64_in _ oM;rw[hM];clear hM
 by_cases he:lf=lt
 · subst he;rw[if_neg sI];obtain⟨fn,rfl⟩:=Int.eq_ofNat_of_zero_le hf0
   have hlen:(d.cutLn i).ln.length≤100:=by
    show (d.ln.eraseIdx i).length≤100
    have:=eraseIdx_len hi;omega
   have hfs:fn<(d.cutLn i).sp.length:=by show fn<d.sp.length;omega
   have hK1:=h.alloc (.cells #[fn,fn, .bool lh] 77);have hBQ:Blk (w.alloc (.cells #[fn,fn, .bool lh] 77)) w.heap.size [fn,fn, .bool lh] 77:=Blk.new _ _ _;have hAq:Aprt w.heap.size p v (w.alloc (.cells #[fn,fn, .bool lh] 77)):=h.new_aprt _;have HU1:Aside (Upd p v w v (w.alloc (.cells #[fn,fn, .bool lh] 77))):=(Upd.refl p v w).alloc _;have HL:=fun W=>loop192 fn fn lh W;rw[show ((fn:Int)==(fn:Int))=true by simp]at HL;have H194:=fun W (ho:World.ownsRow W B 77 3 (.slice (some ⟨g,0,none⟩) v.n2 v.c2) v.n2 (d.ln.flatMap lnC))=>del194 (some ⟨g,0,none⟩) v.n2 v.c2 i B d.ln W ho oM oM;have HA:Aside (v.A2=some ⟨g,0,none⟩):=hA;have HGl:Aside (Glob N w):=hG;have HO:Aside (d.Ok):=hd;have HK:Aside (WK t tl B w p v d):=h
   have Hput:Aside (∀w2 w3,Upd p v w v w2→WK t tl B w2 p v d→Touch (ownB (some (⟨g,0,none⟩:Addr))) w2 w3→w3.ownsRow B 77 3 (.slice (some ⟨g,0,none⟩) (v.n2-1) v.c2) (v.n2-1) ((d.ln.eraseIdx i).flatMap lnC)→
       WK t tl B (w3.setCell ⟨p,1,none⟩ (.slice (some ⟨g,0,none⟩) (v.n2-1) v.c2)) p {v with A2:=some ⟨g,0,none⟩,n2:=v.n2-1,c2:=v.c2} (d.cutLn i)∧Upd p v w2 {v with A2:=some ⟨g,0,none⟩,n2:=v.n2-1,c2:=v.c2} (w3.setCell ⟨p,1,none⟩ (.slice (some ⟨g,0,none⟩) (v.n2-1) v.c2))∧w3.cell? ⟨p,1,none⟩=some (.slice (some ⟨g,0,none⟩) v.n2 v.c2)∧w3.frozen? ⟨p,1,none⟩=false):=by
    intro w2 w3 hU hK hT ho;have hT':Touch (ownB v.A2) w2 w3:=by rw[HA.out];exact hT
    have hput:=hK.putLn hT' (fun b hb=> .inl hb) ho (fun b hb=> .inl (by rw[HA.out];exact hb));have hbk:=hK.blk.touch hT' (fun hm=>hK.np (by simp[blks,hm]));have hc:=hbk.cell 1 _ rfl;rw[HA.out]at hc;exact⟨hput.1,hput.2,hc,hbk.free 1⟩
   have HQ:Aside (∀w2 v2,Upd p v (w.alloc (.cells #[fn,fn, .bool lh] 77)) v2 w2→w2.cell? ⟨w.heap.size,0,none⟩=some (.int .i64 fn)∧w2.cell? ⟨w.heap.size,2,none⟩=some (.bool lh)):=by
    intro w2 v2 hu;have hb:=hBQ.upd hAq hu;exact⟨hb.cell 0 _ rfl,hb.cell 2 _ rfl⟩
   rw[hA]at c1;clear hG hd hl hn h hBQ hAq hA
   cases lh with
   | false=>
    rw[if_pos rfl];go_enter Tryz.func186,Tryz.ntmps186
    go_wp2_with (first
      |(go_at_call 192;(with_reducible refine(HL _).mono ?_);rintro e w2 ⟨rfl,hb⟩;have hK2:=hK1.below hb;have hU2:=(Upd.refl p v _).then_below hb;have hU2':=HU1.out.trans hU2;have hx:=hK2.nine.2.1;rw[HA.out]at hx;have ho2:=hK2.own.ln;rw[HA.out]at ho2;clear HL hK1 hb)
      |(go_at_call 194;(with_reducible refine(H194 _ ho2).mono ?_);rintro e w3 ⟨rfl,ho3,hT3⟩;obtain⟨hK3,hU3,hc3,hf3⟩:=Hput.out _ _ hU2' hK2 hT3 ho3;obtain⟨hq0,hq2⟩:=HQ.out _ _ (hU2.trans hU3);clear H194 hx ho2))
    refine bodyPost_ret (v:= .tuple #[.bool true, .int .i64 0]) (by simp[results,Tryz.results186,go_sem]) rfl (RuleR.id hK3 (hU2'.trans hU3) hlen)
   | true=>
    rw[if_neg sI];have hph:∀s∈(d.cutLn i).sp,0≤s.phase∧s.phase≤7:=fun s hs=>(HO.out.sp s hs).2;have hlen2:((d.cutLn i).addPh fn 4).ln.length≤100:=hlen;go_enter Tryz.func186,Tryz.ntmps186
    go_wp2_with (first
      |(go_at_call 192;(with_reducible refine(HL _).mono ?_);rintro e w2 ⟨rfl,hb⟩;have hK2:=hK1.below hb;have hU2:=(Upd.refl p v _).then_below hb;have hU2':=HU1.out.trans hU2;have hx:=hK2.nine.2.1;rw[HA.out]at hx;have ho2:=hK2.own.ln;rw[HA.out]at ho2;clear HL hK1 hb)
      |(go_at_call 194;(with_reducible refine(H194 _ ho2).mono ?_);rintro e w3 ⟨rfl,ho3,hT3⟩;obtain⟨hK3,hU3,hc3,hf3⟩:=Hput.out _ _ hU2' hK2 hT3 ho3;obtain⟨hq0,hq2⟩:=HQ.out _ _ (hU2.trans hU3);have H195:=add195 hK3 fn hfs 4 dE dE hph;clear H194 hx ho2)
      |(go_at_call 195;(with_reducible refine H195.mono ?_);rintro e w4 ⟨⟨z4,rfl⟩,hK4,hU4⟩;have hU5:=(hU2'.trans hU3).trans hU4;have H81:=power81 hK4 (HGl.out.upd HK.out hU5 hN) hN (-1) dE dE HO.out.sc;clear H195 hq0 hq2)
      |(go_at_call 81;(with_reducible refine H81.mono ?_);rintro e w5 ⟨rfl,hK5,hU6⟩;clear H81))
    refine bodyPost_ret (v:= .tuple #[.bool true, .int .i64 (((d.cutLn i).addPh fn 4).sc.power (-1)).2]) (by simp[results,Tryz.results186,go_sem]) rfl (RuleR.pow (-1) hK5 (hU5.trans hU6) hlen2)
 have heb:(lf==lt)=false:=by simpa using he
 rw[if_pos he];have HU:Aside (∀w2:World,Below (w.alloc (.cells #[lf,lt, .bool lh] 77)).heap.size (w.alloc (.cells #[lf,lt, .bool lh] 77)) w2→Touch (p::blks v) w w2):=fun w2 hb=>((Upd.refl p v w).alloc _).t.then_below hb;have HL:=fun W=>loop192 lf lt lh W;rw[heb]at HL;rw[hA]at c1;clear h hG hd hl hn he;go_enter Tryz.func186,Tryz.ntmps186
 go_wp2_with (first|(go_at_call 192;(with_reducible refine(HL _).mono ?_);rintro e w2 ⟨rfl,hb⟩;have hT:=HU.out _ hb;clear HL))
 refine bodyPost_ret (v:= .tuple #[.bool false, .int .i64 0]) (by simp[results,Tryz.results186,go_sem]) rfl (RuleR.none 0 hT)
end
section
open Go.RowKit
theorem rows_wide {n:Nat} {P:Program} {row:String} {args:Array Value} {w:World} {R:Value→World→Prop} (l:Nat) (h:Rows P row args w R):RowsIn (Fence.wide.inRound l) n P row args w R:=by
 intro c cs _;obtain⟨v,w',r,s⟩:=h c cs;exact⟨v,w',r,stepsIn_wide.2 s⟩
def isDefer:Op→Bool
 | .defer _=>true
 |_=>false
def noDefer (ops:Array Oper):Bool:=ops.toList.all fun o=>!isDefer o.op
theorem oper_in {P:Program} {o:Oper} {a:Act} {w:World} {K:Act→World→Prop} {Q:Exit→Act→World→Prop} (l n:Nat) (hd:isDefer o.op=false) (h:o.wp P a w K Q):o.wpIn (Fence.wide.inRound l) n P a w K Q:=by
 refine⟨fun _ _=>trivial,?_⟩
 unfold Oper.wp at h;rw[Oper.semAt_plain _ _ _ (by intro c hc;rw[hc]at hd;cases hd)];generalize (execOp a.eval o).run P w=r at h ⊢
 cases r with
 | ok x w1=>
  cases x with
  |value v=>exact h
  |skip=>exact h
  |defer d=>exact h
  |enter f args=>exact⟨fun hh=>by simp[Fence.wide]at hh,CallsIn.inRound l (callsIn_wide.2 h)⟩
  |row r args=>exact⟨fun hh=>by simp[Fence.wide]at hh,rows_wide l h⟩
  |_=>exact h.elim
 | halt x w1=>
  cases x with
  |panic v=>exact h
  |_=>exact h.elim
theorem wpAny_in {P:Program} {md:Region.Mode} {ops:Array Oper} {Q:Exit→Act→World→Prop} (l n:Nat) (hd:noDefer ops=true) (hno:¬LetsOut Q):∀(fuel:Nat) (listed:Array Bool) (a:Act) (w:World),wpAny P md ops Q fuel listed a w→wpAnyIn (Fence.wide.inRound l) n P md ops Q fuel listed a w
 |0,_,_,_,h=>h
 | fuel+1,listed,a,w,h=>by
  refine⟨h.1,fun i hi=>?_⟩
  have h2:=h.2 i hi;unfold wpOp at h2;unfold wpOpIn
  cases ho:ops[i]? with
  |none=>rw[ho]at h2;exact wpAny_in l n hd hno fuel _ _ _ h2
  | some o=>
   rw[ho]at h2
   have hdo:isDefer o.op=false:=by
    have:=List.all_eq_true.1 hd o (by simpa using Array.mem_of_getElem? ho);simpa using this
   dsimp only at h2 ⊢
   split
   · rename_i hw
     rw[if_pos hw]at h2
     rcases h2 with h2|h2
     · exact oper_in l n hdo (Oper.wp_mono (fun a' w' hh=>wpAny_in l n hd hno fuel _ _ _ hh) h2)
     exact absurd h2.2 hno
   rename_i hw
   rw[if_neg hw]at h2;exact⟨fun _ _=>trivial,wpAny_in l n hd hno fuel _ _ _ h2⟩
theorem wpIn_round_any {P:Program} {ops:Array Oper} {Q:Exit→Act→World→Prop} {id:Nat} {a:Act} {w:World} (hm:P.follows .mixedOrders=true) (l n:Nat) (hd:noDefer ops=true) (hno:¬LetsOut Q)
  (h:wpAny P .any ops Q ops.size (Array.replicate ops.size false) a {w with drawn:=w.drawn+1}):(Code.region id ops true).wpIn (Fence.wide.inRound l) n P Q a w:=
 wpIn_region_any hm (wpAny_in l n hd hno _ _ _ _ h)
theorem wpIn_round_steps {P:Program} {ops:Array Oper} {Q:Exit→Act→World→Prop} {id:Nat} {a:Act} {w:World} (hm:P.follows .mixedOrders=true) (l0 n0:Nat) (hnd:noDefer ops=true) (hno:¬LetsOut Q)
  (sh:(Nat→Value)→Act) (x0:Nat→Value) (ha:sh x0=a) (G:(Nat→Bool)→World→Prop) (R:Nat→World→World→Prop) (reads:Nat→List Nat) (T:Nat→(Nat→Value)→World→Prop)
  (hp:plainOps ops=true)
  (hput:AllOps (fun _ o=>∀d,o.dst=some d→∀x v,(sh x).put (some d) v=sh (updV x d v)) 0 ops.toList)
  (hdst:dstOnce ops=true) (hreads:readsOk ops reads=true)
  (h0:G (fun _=>false) w.drew)
  (hkeep:∀j i x l u u',l j=true→l i=false→(∀k,anc ops ops.size j k=true→l k=true)→T j x u→G l u→R i u u'→T j x u')
  (hloc:AllOps (fun j _=>∀x x' u,(∀d∈reads j,x d=x' d)→T j x u→T j x' u) 0 ops.toList)
  (hstep:AllOps (fun i o=>∀l x u,G l u→(∀j,anc ops ops.size j i=true→l j=false)→l i=false→(∀j,anc ops ops.size i j=true→l j=true)→(∀e∈o.after,Region.binds .any e=true→T e.on x u)→
    ∀K:Act→World→Prop,(∀v u',T i (match o.dst with|some d=>updV x d v|none=>x) u'→R i u u'→G (fun k=>k==i||l k) u'→K ((sh x).put o.dst v) u')→o.wp P (sh x) u K Q) 0 ops.toList)
  (hend:∀l x u,(∀i,i<ops.size→l i=true)→G l u→AllOps (fun i o=>T i x u) 0 ops.toList→Q .normal (sh x) u):
  (Code.region id ops true).wpIn (Fence.wide.inRound l0) n0 P Q a w:=by
 subst ha;exact wpIn_round_any hm l0 n0 hnd hno (wpAny_X sh x0 (fun l _ u=>G l u) R reads T hp hput hdst hreads h0 hkeep hloc hstep hend)
end
end Go.Proofs.YtcoackmdmohnhaaGreatDoor
