/- Package zx: Meaning. -/
import Derived.Test.YtcoackmdmohnhaaGreatDoorV21
set_option linter.unusedVariables false
set_option linter.unusedSimpArgs false
set_option maxRecDepth 100000
set_option maxHeartbeats 4000000
namespace Go.Proofs.YtcoackmdmohnhaaGreatDoor
open Go.RowKit Go.Shelf
variable {B:Nat} {i:Nat} {k:Nat} {n:Nat} {c:Nat} {e:TypeId} {A:Option Addr} {S:List Nat} {w:World} {w':World} {d:Diag}
theorem inf26:(Tryz.prog.info? 26).map (fun i=>(i.zero,i.size,i.bytes))=some (some (.agg #[.int .i64 0, .int .i64 0, .int .i64 0, .int .i64 0, .int .i64 0]),5,40):=kR
theorem inf78:(Tryz.prog.info? 78).map (fun i=>(i.zero,i.size,i.bytes))=some (some (.slice none 0 0),1,24):=kR
theorem inf4:(Tryz.prog.info? 4).map (fun i=>(i.zero,i.size,i.bytes))=some (some (.bool false),1,1):=kR
theorem numC_len (x:Num):(numC x).length=5:=rfl
theorem numC_one (xs:List Num):∀u∈xs.flatMap numC,u.oneCell'=true:=by
 intro u hu;obtain⟨x,_,h⟩:=List.mem_flatMap.1 hu;simp only[numC,List.mem_cons,List.not_mem_nil,or_false]at h
 rcases h with h|h|h|h|h<;>(subst h;rfl)
structure HV where
 A:Option Addr
 n:Nat
 c:Nat
def hvC (h:HV):List Value:=[.slice h.A h.n h.c]
theorem hvC_len (x:HV):(hvC x).length=1:=rfl
theorem hvC_one (xs:List HV):∀u∈xs.flatMap hvC,u.oneCell'=true:=by
 intro u hu;obtain⟨x,_,h⟩:=List.mem_flatMap.1 hu;simp only[hvC,List.mem_cons,List.not_mem_nil,or_false]at h;subst h;rfl
structure RowsRd (w:World) (A:Option Addr) (n:Nat) (hs:List HV) (rows:List (List Num)):Prop where
 hd:Rd 1 hvC w A n hs
 len:hs.length=rows.length
 rd:∀(i:Nat) (h:HV) (r:List Num),hs[i]?=some h→rows[i]?=some r→Rd 5 numC w h.A h.n r
theorem RowsRd.below {hs:List HV} {rows:List (List Num)} (h:RowsRd w A n hs rows) (hb:Below w.heap.size w w'):RowsRd w' A n hs rows:=
 ⟨h.hd.below hb,h.len,fun i x r hx hr=>(h.rd i x r hx hr).below hb⟩
theorem RowsRd.nil (w:World):RowsRd w none 0 [] []:=⟨Rd.nil _ _ _ _,rfl,fun i h r hx=>by simp at hx⟩
structure RowsO (B:Nat) (w:World) (A:Option Addr) (n c:Nat) (hs:List HV) (rows:List (List Num)):Prop where
 own:w.ownsRow B 78 1 (.slice A n c) n (hs.flatMap hvC)
 len:hs.length=rows.length
 rd:∀(i:Nat) (h:HV) (r:List Num),hs[i]?=some h→rows[i]?=some r→Rd 5 numC w h.A h.n r
 ap:∀h∈hs,∀a,h.A=some a→B≤a.block∧a.block<w.heap.size∧a.block∉ownB A
theorem RowsO.touch {hs:List HV} {rows:List (List Num)} (h:RowsO B w A n c hs rows) (hT:Touch S w w') (hS:∀b∈S,b<B):RowsO B w' A n c hs rows:=by
 refine⟨ownsRow_touch h.own hT (fun b hb hm=>?_),h.len,fun i x r hx hr=>(h.rd i x r hx hr).touch hT (fun b hb a ha hab=>?_),fun x hx a ha=>?_⟩
 · have h1:=(ownsRow_lt h.own b (ownBlock_ownB hb)).1;have h2:=hS b hm;omega
 · have h1:=(h.ap x (List.mem_of_getElem? hx) a ha).1;have h2:=hS b hb;omega
 obtain⟨h1,h2,h3⟩:=h.ap x hx a ha;exact⟨h1,Nat.lt_of_lt_of_le h2 hT.size,h3⟩
theorem RowsO.add {A':Option Addr} {c':Nat} {hs:List HV} {rows:List (List Num)} (h:RowsO B w A n c hs rows) {y:HV} {r:List Num} (hr:Rd 5 numC w y.A y.n r) (hy:∀a,y.A=some a→B≤a.block∧a.block<w.heap.size∧a.block∉ownB A)
  (ho:w'.ownsRow B 78 1 (.slice A' (n+1) c') (n+1) ((hs++[y]).flatMap hvC)) (hT:Touch (ownB A) w w') (hn:∀b∈ownB A',b∈ownB A∨w.heap.size≤b):RowsO B w' A' (n+1) c' (hs++[y]) (rows++[r]):=by
 have hall:∀x∈hs++[y],∀a,x.A=some a→B≤a.block∧a.block<w.heap.size∧a.block∉ownB A:=by
  intro x hx a ha
  rcases List.mem_append.1 hx with hx|hx
  · exact h.ap x hx a ha
  simp at hx;subst hx;exact hy a ha
 refine⟨ho,by simp[h.len],fun i x q hx hq=>?_,fun x hx a ha=>?_⟩
 · have hq9:Rd 5 numC w x.A x.n q:=by
    rw[List.getElem?_append]at hx hq;rw[←h.len]at hq
    split at hx
    · rename_i hi
      rw[if_pos hi]at hq;exact h.rd i x q hx hq
    rename_i hi
    rw[if_neg hi]at hq;have h0:i-hs.length=0:=by have:=(List.getElem?_eq_some_iff.1 hx).1;simp at this;omega
    rw[h0]at hx hq;simp at hx hq
    subst hx hq;exact hr
   exact hq9.touch hT (fun b hb a ha hab=>(hall x (List.mem_of_getElem? hx) a ha).2.2 (hab▸hb))
 obtain⟨h1,h2,h3⟩:=hall x hx a ha;refine⟨h1,Nat.lt_of_lt_of_le h2 hT.size,fun hm=>?_⟩
 rcases hn _ hm with h4|h4
 · exact h3 h4
 omega
theorem RowsO.rdr {hs:List HV} {rows:List (List Num)} (h:RowsO B w A n c hs rows):RowsRd w A n hs rows:=⟨Rd.owned dE hvC_len h.own,h.len,h.rd⟩
theorem sumL_range (d:Diag) (ns:List Int):∀(n m:Nat) (b:List Bool) (s:List Int),s.length=8→(∀x∈s,0≤x∧x≤(m:Int))→(d.sumL ns n m b s).1.length=b.length∧(d.sumL ns n m b s).2.length=8∧∀x∈(d.sumL ns n m b s).2,0≤x∧x≤((m+n:Nat):Int)
 |0,m,b,s,h,hr=>⟨rfl,h,hr⟩
 | n+1,m,b,s,h,hr=>by
  simp only[Diag.sumL]
  have ih:=sumL_range d ns n (m+1) (setB m 0 ns b) (if (d.prod (setB m 0 ns b)).2=true then s.set (d.prod (setB m 0 ns b)).1.toNat (s.getD (d.prod (setB m 0 ns b)).1.toNat 0+1) else s) (by split<;>simp[h]) (by
    intro x hx;have hp:=prod_range d (setB m 0 ns b)
    split at hx
    · rcases List.mem_or_eq_of_mem_set hx with h1|h1
      · have:=hr x h1;omega
      · have h3:=hr _ (List.mem_of_getElem? (getD_of (l:=s) (i:=(d.prod (setB m 0 ns b)).1.toNat) oM 0));omega
    · have:=hr x hx;omega)
  rw[setB_len]at ih;rw[show m+(n+1)=m+1+n by omega];exact ih
theorem insideL_mem:∀(l:List Spider) (n:Nat),∀x∈insideL n l,(n:Int)≤x∧x<(n:Int)+l.length
 |[],n,x,h=>by simp[insideL]at h
 | s::l,n,x,h=>by
  have ih:=insideL_mem l (n+1) x;simp only[insideL]at h;simp only[List.length_cons]
  split at h
  · rcases List.mem_cons.1 h with rfl|h
    · omega
    have:=ih h;omega
  have:=ih h;omega
theorem insideL_len:∀(l:List Spider) (n:Nat),(insideL n l).length≤l.length
 |[],n=>by simp[insideL]
 | s::l,n=>by
  have ih:=insideL_len l (n+1);simp only[insideL]
  split<;>simp<;>omega
theorem insideL_take:∀(l:List Spider) (n k:Nat) (s:Spider),l[k]?=some s→insideL n (l.take (k+1))=insideL n (l.take k)++(if s.kind≠0 then[((n+k:Nat):Int)] else[])
 |[],n,k,s,h=>by simp at h
 | x::l,n,0,s,h=>by
  simp at h
  subst h;simp[insideL]
 | x::l,n,k+1,s,h=>by
  have ih:=insideL_take l (n+1) k s sH;simp only[List.take_succ_cons,insideL,ih];rw[show n+1+k=n+(k+1) by omega]
  split<;>simp
theorem ownsRow_touchR {m:Nat} {xs:List Value} (h:w.ownsRow B e k (.slice A n c) m xs) (hT:Touch S w w') (hS:∀b∈S,b<B):w'.ownsRow B e k (.slice A n c) m xs:=
 ownsRow_touch h hT (fun b hb hm=>by have h1:=(ownsRow_lt h b (ownBlock_ownB hb)).1;have h2:=hS b hm;omega)
theorem len_le_sub {l:List Int}:∀{m:List Int},l.Nodup→(∀x∈l,x∈m)→l.length≤m.length:=by
 induction l with
 |nil=>intro m _ _;simp
 | cons x l ih=>
  intro m hn hs;obtain⟨h1,h2⟩:=List.nodup_cons.1 hn;have hx:=hs x sI;have h3:=ih (m:=m.erase x) h2 (fun y hy=>(List.mem_erase_of_ne (fun e=>h1 (by rw[←e];exact hy))).2 (hs y (by simp[hy])));rw[List.length_erase_of_mem hx]at h3;have h4:0<m.length:=List.length_pos_of_mem hx;simp only[List.length_cons];omega
def outsideL:Nat→List Spider→List Int
 |_,[]=>[]
 |n,s::l=>if s.kind=0 then(n:Int)::outsideL (n+1) l else outsideL (n+1) l
theorem outsideL_len:∀(l:List Spider) (n:Nat),(outsideL n l).length+(insideL n l).length=l.length
 |[],n=>rfl
 | s::l,n=>by
  have ih:=outsideL_len l (n+1)
  by_cases h:s.kind=0<;>simp[outsideL,insideL,h]<;>omega
theorem outsideL_mem:∀(l:List Spider) (n k:Nat) (s:Spider),l[k]?=some s→s.kind=0→((n+k:Nat):Int)∈outsideL n l
 |[],n,k,s,h,_=>by simp at h
 | x::l,n,0,s,h,h2=>by
  simp at h
  subst h;simp[outsideL,h2]
 | x::l,n,k+1,s,h,h2=>by
  have ih:=outsideL_mem l (n+1) k s sH h2;rw[show n+1+k=n+(k+1) by omega]at ih;simp only[outsideL]
  split
  · exact List.mem_cons_of_mem _ ih
  exact ih
theorem ends_le (h:d.check=0):d.ends.length≤d.sp.length-d.inside.length:=by
 obtain⟨_,_,⟨_,he⟩,hn,_,_⟩:=check_parts h;have h2:=outsideL_len d.sp 0
 have h3:=len_le_sub (l:=d.ends) (m:=outsideL 0 d.sp) hn (fun x hx=>by
   rw[List.any_eq_false]at he;have h3:=he x hx;simp only[Diag.badEnd,outI,Bool.or_eq_true,decide_eq_true_eq,not_or,Bool.not_eq_true',decide_eq_false_iff_not,Decidable.not_not]at h3;obtain⟨⟨h4,h5⟩,h6⟩:=h3;obtain⟨k,rfl⟩:=Int.eq_ofNat_of_zero_le (show 0≤x by omega);obtain⟨s,hs⟩:=get_of (l:=d.sp) (n:=k) oM;rw[kindAt_of hs]at h6;have:=outsideL_mem d.sp 0 k s hs h6
   simpa using this)
 show _≤d.sp.length-(insideL 0 d.sp).length
 omega
theorem bits_set {bb:Nat} {b:List Bool} (h:w.ownsRow B 4 1 (.slice (some ⟨bb,0,none⟩) n n) n (b.flatMap blC)) (hi:i<b.length) (y:Bool):(w.setCell ⟨bb,i,none⟩ (.bool y)).ownsRow B 4 1 (.slice (some ⟨bb,0,none⟩) n n) n ((b.set i y).flatMap blC):=by
 have h1:=(h.stored (i*1+0) (.bool y)).1;obtain⟨x,hx⟩:∃x,b[i]?=some x:=⟨_,List.getElem?_eq_getElem hi⟩;rw[flat_set blC_len hx dE (show blC y=(blC x).set 0 (.bool y) from rfl)]at h1;simpa using h1
def RetM (r:List (List Num) × Int) (w:World) (e:Ending) (w':World):Prop:=
 ∃A n c hs,e= .returned (.tuple #[.slice A n c,r.2])∧Aside (RowsRd w' A n hs r.1)∧Below w.heap.size w w'
theorem xe57_0 {p:Prop} (h:p:=by
 go_wp2_with (go_at_call 52;(with_reducible refine H52.mono ?_);rintro e w5 ⟨rfl,hb5⟩;clear H52;have HB5:Aside (Below WI.heap.size WI w5):=below_then (hb2.out.alloc hb2.out.size _) hb5;clear hb5)
 rw[←hA2];clear hA2
 go_roundg (v1.n2-(k2+1))
 case measure=>omega
 exact⟨k2+1,oM,Nat.le_refl _,nX,(by rw[HCT.out];simp),HB5.out⟩):p:=h
theorem meaning13 (v : DV) (d:Diag) (w:World) (hd:DRd w v d) (hs:v.n3+v.n4≤4398046511104):
  Calls Tryz.prog 13 #[diaV v d.sc] w (RetM d.meaning w):=by
 obtain⟨W,hW⟩:∃W,W=(w.alloc (.cells (a9 v d.sc) 28)):=⟨_,rfl⟩
 have hX1:Blk W w.heap.size (l9 v d.sc) 28:=by
  rw[hW];have h9:=(Blk.new w (a9 v d.sc) 28);simpa using h9
 have hBW:Below w.heap.size w W:=by rw[hW];exact bR.alloc (by simp;try omega) _
 have hsz:W.heap.size=w.heap.size+1:=by rw[hW];simp
 have H51:=opened51 v d W (hd.below hBW) hs;have HB1:=Lib.hid hX1;have HBW:=Lib.hid hBW;have HW:=Lib.hid hW;have a_c:=hX1.nine;clear hW hX1 hBW hsz hd
 by_cases hc:d.check=0
 case neg=>
  simp only[if_neg hc]at H51;have hc1:(d.check != 0)=true:=by simpa using hc
  have HE:Aside (d.meaning=([],d.check)):=by
   show _=_
   unfold Diag.meaning;rw[if_pos hc]
  generalize d.check=ck at *;clear hc;go_enter Tryz.func13,Tryz.ntmps13
  go_upto_region 1 with fail
  rw[←HW.out]
  go_wp2_with (go_at_call 51;(with_reducible refine H51.mono ?_);rintro e w1 ⟨hb1,rfl⟩;clear H51;have HB1x:=Lib.hid hb1;clear hb1)
  refine bodyPost_ret (v:= .tuple #[.slice none 0 0,ck]) (by simp[results,Tryz.results13,go_sem]) rfl ?_
  rw[HE.out];exact⟨none,0,0,[],rfl,RowsRd.nil _,HBW.out.trans (HB1x.out.mono HBW.out.size)⟩
 have hok:=Diag.ok_of_check hc;obtain⟨d1,hd1⟩:∃d1:Diag,d1={d with sc:=d.sc.form}:=⟨_,rfl⟩
 have HOK:Aside d1.Ok:=by
  rw[hd1];exact⟨hok.n1,hok.n2,hok.n3,hok.n4,hok.sp,hok.ln,hok.ins,hok.outs,Num.check_form hok.sc⟩
 have HM:Aside (d.meaning=if 6<d1.sp.length-d1.inside.length∨10<d1.inside.length then([],2) else d1.meanL (2 ^ d1.outs.length) 0 (List.replicate d1.sp.length false) []):=by
  show _=_
  unfold Diag.meaning;rw[if_neg (by simpa using hc),hd1];rfl
 simp only[if_pos hc]at H51;rw[←hd1]at H51
 have HEN0:d1.ins.length+d1.outs.length≤d1.sp.length-d1.inside.length:=by
  have h9:=ends_le hc;rw[hd1];have:d.ends.length=d.ins.length+d.outs.length:=List.length_append;rw[←this];exact h9
 clear hc hok hd1;go_enter Tryz.func13,Tryz.ntmps13
 go_upto_region 1 with fail
 rw[←HW.out]
 go_upto_region 6 with (go_at_call 51;(with_reducible refine H51.mono ?_);rintro e w1 ⟨hb1,p,v1,rfl,hK1⟩;clear H51
                        have HK1:=Lib.hid hK1;have HL1:Aside (Below w.heap.size w w1):=HBW.out.trans (hb1.mono HBW.out.size);have HP1:Aside (W.heap.size≤w1.heap.size):=hb1.size;obtain⟨b0,b1,b2,b3,b4,b5,b6,b7,b8,bf⟩:=hK1.nine
                        clear hb1 hK1 a_c)
 have HN:Aside ((d1.sp.length=v1.n1∧d1.ln.length=v1.n2∧d1.ins.length=v1.n3∧d1.outs.length=v1.n4)∧v1.n1≤40∧v1.n2≤100∧v1.n3≤40∧v1.n4≤40):=by
  obtain⟨q1,q2,q3,q4⟩:=HK1.out.len;have h1:=HOK.out.n1;have h2:=HOK.out.n2;have h3:=HOK.out.n3;have h4:=HOK.out.n4;show _∧_
  omega
 have hn1:v1.n1≤40:=HN.out.2.1;have HEN:Aside (d1.ins.length+d1.outs.length≤d1.sp.length-d1.inside.length):=HEN0;have hn2:v1.n2≤100:=HN.out.2.2.1;clear b0 b1 b2 b3 b4 b5 b6 b7 b8 bf
 go_loopg [37,6] v1.n1 (fun gg s37 s6 wr=>∃(k:Nat) (IA:Option Addr) (il ic:Nat),k≤v1.n1∧v1.n1-k≤gg∧s37=k∧s6= .slice IA il ic∧Aside (Below w1.heap.size w1 wr)∧Aside (wr.ownsRow w1.heap.size 3 1 (.slice IA il ic) il ((insideL 0 (d1.sp.take k)).flatMap inC)))
 case atStart=>exact⟨0,none,0,0,Nat.zero_le _,oM,rfl,rfl,Below.refl _ _,World.ownsRow_nil _ _ _ _⟩
 obtain⟨k,IA,il,ic,hk,hg,rfl,rfl,hb,hI⟩:=hrel;have hIL:il=(insideL 0 (d1.sp.take k)).length:=(ownsRow_size dE inC_len hI.out).symm
 have hil:il≤40:=by
  have h1:=insideL_len (d1.sp.take k) 0;rw[List.length_take]at h1;omega
 have HKr:=Lib.hid (HK1.out.below hb.out)
 by_cases hlt:k<v1.n1
 case pos=>
  have hltz:(k:Int)<(v1.n1:Int):=oM
  obtain⟨s,hs⟩:=get_of (l:=d1.sp) (n:=k) (by have:=HN.out;omega);obtain⟨g,hA,k0,k1,kf⟩:=HKr.out.own.spAt hs;have hIT:=insideL_take d1.sp 0 k s hs;rw[Nat.zero_add]at hIT;have HIT:=Lib.hid hIT;clear hIT hs hIL;rw[hA]
  by_cases hkd:s.kind=0
  case pos=>
   have e1:(s.kind != 0)=false:=by simpa using hkd
   have HKD:=Lib.hid hkd;clear hkd;go_wp2_with fail
   rw[←hA];clear hA
   go_roundg (v1.n1-(k+1))
   case measure=>omega
   refine⟨k+1,IA,il,ic,oM,Nat.le_refl _,nX,rfl,hb.out.alloc hb.out.size _,?_⟩
   rw[HIT.out,if_neg (by simpa using HKD.out),List.append_nil];exact ownsRow_touch hI.out (Touch.of_below (bR.alloc (Nat.le_refl _) _)) sI
  have e1:(s.kind != 0)=true:=by simpa using hkd
  have HKD:=Lib.hid hkd;clear hkd;have HBX:Aside (Below wr.heap.size wr ((wr.alloc (.cells #[s.kind,s.phase] 73)).alloc (.cells #[k] 3))):=(bR.alloc (Nat.le_refl _) _).alloc sI _;have HBB:Aside (w1.heap.size≤((wr.alloc (.cells #[s.kind,s.phase] 73)).alloc (.cells #[k] 3)).heap.size):=Nat.le_trans hb.out.size HBX.out.size;have HO2:Aside (((wr.alloc (.cells #[s.kind,s.phase] 73)).alloc (.cells #[k] 3)).ownsRow w1.heap.size 3 1 (.slice IA il ic) il ((insideL 0 (d1.sp.take k)).flatMap inC)):=ownsRow_touch hI.out (Touch.of_below HBX.out) sI
  have HR2:Aside (Rd 1 inC ((wr.alloc (.cells #[s.kind,s.phase] 73)).alloc (.cells #[k] 3)) (some ⟨wr.heap.size+1,0,none⟩) 1 [(k:Int)]):=by
   have h9:=Blk.new (wr.alloc (.cells #[s.kind,s.phase] 73)) #[k] 3;have h8:Blk ((wr.alloc (.cells #[s.kind,s.phase] 73)).alloc (.cells #[k] 3)) (wr.heap.size+1) (inC (k:Int)) 3:=by simpa [inC] using h9
   exact Rd.one h8
  go_upto_region 10 with (at_builtin;(refine wpList_append_rows rfl (.tmp 45) (.tmp 47) 24 rfl 3 1 _ 8 inf3 Tryz.underlying24 rfl dE inC_len inC_one dE w1.heap.size _ _ _ rfl _ HO2.out _ _ _ rfl (fun h=>nomatch h) [(k:Int)] HR2.out oM dE HBB.out ?_)
                          intro v9 w9 hAp;obtain⟨A',c',rfl,hown,htch,hnb⟩:=hAp;have HOW:=Lib.hid hown;have HB9:Aside (Below w1.heap.size w1 w9):=(hb.out.trans (HBX.out.mono hb.out.size)).trans (htch.below HBB.out (fun x hx=>(ownsRow_lt HO2.out x hx).1))
                          clear hown htch hnb)
  go_wp2_with fail
  rw[←hA];clear hA
  go_roundg (v1.n1-(k+1))
  case measure=>omega
  refine⟨k+1,A',il+1,c',oM,Nat.le_refl _,nX,rfl,HB9.out,?_⟩
  rw[HIT.out,if_pos (by simpa using HKD.out)];exact HOW.out
 have hltz:¬(k:Int)<(v1.n1:Int):=oM
 have htk:d1.sp.take k=d1.sp:=List.take_of_length_le (by have:=HN.out;omega);rw[htk]at hI hIL;have hIL2:il=d1.inside.length:=hIL;have HI:Aside (wr.ownsRow w1.heap.size 3 1 (.slice IA il ic) il (d1.inside.flatMap inC)):=hI.out
 have hile:il≤v1.n1:=by
  have h1:=insideL_len d1.sp 0;have h2:=HN.out;omega
 have HMI:Aside (d.meaning=if 6<v1.n1-il∨10<il then([],2) else d1.meanL (2 ^ d1.outs.length) 0 (List.replicate d1.sp.length false) []):=by
  show _=_
  rw[HM.out,hIL2,HN.out.1.1]
 have HIL:=Lib.hid hIL2;obtain⟨b0,b1,b2,b3,b4,b5,b6,b7,b8,bf⟩:=HKr.out.nine;have hws:IntKind.i64.wrap ((v1.n1:Int)-il)=(v1.n1:Int)-il:=IntWalk.i64_in _ oM;clear hI hIL hIL2 htk
 by_cases h6:6<v1.n1-il
 case pos=>
  have h6z:(6:Int)<(v1.n1:Int)-il:=oM
  go_wp2_with fail
  refine bodyPost_ret (v:= .tuple #[.slice none 0 0, .int .i64 2]) (by simp[results,Tryz.results13,go_sem]) rfl ?_
  rw[HMI.out,if_pos (.inl h6)];exact⟨none,0,0,[],rfl,RowsRd.nil _,HL1.out.trans (hb.out.mono HL1.out.size)⟩
 case neg=>
 have h6z:¬(6:Int)<(v1.n1:Int)-il:=oM
 by_cases h10:10<il
 case pos=>
  have h10z:(10:Int)<(il:Int):=oM
  go_wp2_with fail
  refine bodyPost_ret (v:= .tuple #[.slice none 0 0, .int .i64 2]) (by simp[results,Tryz.results13,go_sem]) rfl ?_
  rw[HMI.out,if_pos (.inr h10)];exact⟨none,0,0,[],rfl,RowsRd.nil _,HL1.out.trans (hb.out.mono HL1.out.size)⟩
 case neg=>
 have h10z:¬(10:Int)<(il:Int):=oM
 have HM2:Aside (d.meaning=d1.meanL (2 ^ d1.outs.length) 0 (List.replicate d1.sp.length false) []):=by
  show _=_
  rw[HMI.out,if_neg oM]
 have HIB:Aside (∀a,IA=some a→a.block<wr.heap.size):=fun a ha=>by
  rcases HI.out.2 with⟨h1,_⟩|⟨g9,cap,cur,h1,_,h2,_⟩
  · cases h1;cases ha
  cases h1
  cases ha
  exact(Array.getElem?_eq_some_iff.1 h2).1
 have HRI:Aside (Rd 1 inC wr IA il d1.inside):=Rd.owned dE inC_len HI.out;have HL2:Aside (Below w.heap.size w wr):=HL1.out.trans (hb.out.mono HL1.out.size)
 go_upto_region 15 with fail
 clear hws h6z h10z hltz hlt hg hk b0 b1 b2 b3 b4 b5 b6 b7 b8 bf;rename World=>WI
 go_loopg [71,9] v1.n2 (fun gg s71 s9 wr=>∃k:Nat,k≤v1.n2∧v1.n2-k≤gg∧s71=k∧s9= .int .i64 (((d1.ln.take k).countP d1.bent:Nat):Int)∧Aside (Below WI.heap.size WI wr))
 case atStart=>exact⟨0,Nat.zero_le _,oM,rfl,by simp,Below.refl _ _⟩
 obtain⟨k2,hk2,hg2,rfl,rfl,hb2⟩:=hrel;have HKr2:=Lib.hid (HKr.out.below hb2.out)
 by_cases hlt2:k2<v1.n2
 case pos=>
  have hltz2:(k2:Int)<(v1.n2:Int):=oM
  obtain⟨l,hl⟩:=get_of (l:=d1.ln) (n:=k2) (by have:=HN.out;omega);obtain⟨⟨hf0,hf1⟩,ht0,ht1⟩:=HOK.out.ln l (List.mem_of_getElem? hl);obtain⟨lf,lt,lh⟩:=l;obtain⟨f,rfl⟩:=Int.eq_ofNat_of_zero_le hf0;obtain⟨t9,rfl⟩:=Int.eq_ofNat_of_zero_le ht0;dsimp only at hf0 hf1 ht0 ht1;obtain⟨g2,hA2,m0,m1,m2,mf⟩:=HKr2.out.own.lnAt hl
  have HCT:Aside ((d1.ln.take (k2+1)).countP d1.bent=(d1.ln.take k2).countP d1.bent+(if d1.bent ⟨f,t9,lh⟩=true then 1 else 0)):=by
   show _=_
   rw[List.take_add_one,hl,List.countP_append];simp[List.countP_cons]
  have hcl:(d1.ln.take k2).countP d1.bent≤100:=Nat.le_trans List.countP_le_length (by rw[List.length_take];omega);generalize (d1.ln.take k2).countP d1.bent=ct at *;have H52:=bent52 (HKr2.out.alloc (.cells #[f,t9, .bool lh] 77)) f t9 lh oM oM;generalize d1.bent ⟨f,t9,lh⟩=be at *;have hwc:IntKind.i64.wrap ((ct:Int)+1)=(ct:Int)+1:=IntWalk.i64_in _ oM;clear hl hf0 ht0 hf1 ht1;rw[hA2];cases be
  · exact xe57_0
  exact xe57_0
 have hltz2:¬(k2:Int)<(v1.n2:Int):=oM
 have htk2:d1.ln.take k2=d1.ln:=List.take_of_length_le (by have:=HN.out;omega);rw[htk2];have hrt:d1.ln.countP d1.bent≤100:=Nat.le_trans List.countP_le_length (by have:=HN.out;omega);generalize hRT:d1.ln.countP d1.bent=rt at *;have HRT:Aside (d1.roots=rt):=hRT;have HRI2:=Lib.hid (HRI.out.below hb2.out);have HIB2:Aside (∀a,IA=some a→a.block<wr.heap.size):=fun a ha=>Nat.lt_of_lt_of_le (HIB.out a ha) hb2.out.size;have HL3:Aside (Below w.heap.size w wr):=HL2.out.trans (hb2.out.mono HL2.out.size)
 have HPL:Aside (p<wr.heap.size∧(∀b∈blks v1,b<wr.heap.size)∧w.heap.size≤wr.heap.size∧W.heap.size≤wr.heap.size):=by
  have h1:=HKr2.out.lt;have h2:=HKr2.out.own.lt;have h3:=HL3.out.size;have h4:=HP1.out;have h5:=hb.out.size;have h6:=hb2.out.size;exact⟨h1,fun b hb=>(h2 b hb).2,h3,oM⟩
 obtain⟨i4,hi4,hz4,hs4,hb4⟩:=info_parts inf4
 have hmk:∀V:World,(Instr.makeSlice 85 v1.n1 v1.n1).run Tryz.prog V= .ok (.slice (some ⟨V.heap.size,0,none⟩) v1.n1 v1.n1) (V.alloc (.cells (madeCells #[.bool false] v1.n1) 4)):=by
  intro V;have hr:=run_make (P:=Tryz.prog) V 85 4 i4 (.bool false) Tryz.underlying85 hi4 hz4 .i64 .i64 v1.n1 v1.n1 oM (Int.le_refl _) (by rw[hb4];omega) oM;rw[hs4,Nat.mul_one]at hr;exact hr
 clear hi4 hz4 hs4 hb4;obtain⟨b0,b1,b2,b3,b4,b5,b6,b7,b8,bf⟩:=HKr2.out.nine
 have h34:v1.n3≤6∧v1.n4≤6:=by
  have h7:=HEN.out;have h8:=HN.out;have h9:=HIL.out;omega
 obtain⟨P,hP⟩:∃P:Nat,P=2 ^ v1.n4:=⟨_,rfl⟩;obtain⟨C,hC⟩:∃C:Nat,C=2 ^ v1.n3:=⟨_,rfl⟩;have hP1:P≤64:=by rw[hP];exact Nat.le_trans (Nat.pow_le_pow_right dE h34.2) dE
 have hC1:C≤64:=by rw[hC];exact Nat.le_trans (Nat.pow_le_pow_right dE h34.1) dE
 have hPz:(2:Int) ^ v1.n4=(P:Int):=by rw[hP];simp
 have hCz:(2:Int) ^ v1.n3=(C:Int):=by rw[hC];simp
 have hPw:IntKind.i64.wrap (P:Int)=(P:Int):=IntWalk.i64_in _ oM;have hCw:IntKind.i64.wrap (C:Int)=(C:Int):=IntWalk.i64_in _ oM;have hz3:(v1.n3:Int)≤64:=oM
 have hz4:(v1.n4:Int)≤64:=oM
 have HM3:Aside (d.meaning=d1.meanL P 0 (List.replicate d1.sp.length false) []):=by
  show _=_
  rw[HM2.out,HN.out.1.2.2.2,hP]
 have HC:Aside (2 ^ d1.ins.length=C):=by show _=_;rw[HN.out.1.2.2.1,hC]
 clear hg2 hk2 htk2 hRT hP hC h34
 go_upto_region 22 with fail
 clear hmk hltz2 hlt2;rename World=>WJ;obtain⟨W0,hW0⟩:∃W0,W0=WJ.alloc (.cells (madeCells #[.bool false] v1.n1) 4):=⟨_,rfl⟩;have hbl0:Blk W0 WJ.heap.size (madeCells #[.bool false] v1.n1).toList 4:=by rw[hW0];exact Blk.new _ _ _
 rw[show (madeCells #[.bool false] v1.n1).toList=(List.replicate v1.n1 false).flatMap blC from by have h9:=made_flat (enc:=blC) (k:=1) dE blC_len false v1.n1;rw[Nat.mul_one]at h9;exact h9]at hbl0;have hown0:=ownsRow_blk (B:=W.heap.size) (n:=v1.n1) (k:=1) hbl0 HPL.out.2.2.2 (by unfold maxLen;omega) (by rw[flat_len blC_len];simp);have HOB:=Lib.hid hown0;have hBJ:Below WJ.heap.size WJ W0:=by rw[hW0];exact bR.alloc (Nat.le_refl _) _
 have HKW:=Lib.hid (HKr2.out.below hBJ);have HRI3:=Lib.hid (HRI2.out.below hBJ);have HL4:Aside (Below w.heap.size w W0):=HL3.out.trans (hBJ.mono HL3.out.size);have HS0:Aside (WJ.heap.size<W0.heap.size):=hbl0.lt;rw[←hW0];clear hW0 hbl0 hown0 hBJ b0 b1 b2 b3 b4 b5 b6 b7 b8 bf;generalize hbb:WJ.heap.size=bb at *;obtain⟨b0,b1,b2,b3,b4,b5,b6,b7,b8,bf⟩:=HKW.out.nine
 go_upto_region 23 with fail
 clear b0 b1 b2 b3 b4 b5 b6 b7 b8 bf
 have HAP:Aside (p∉[bb]∧(∀b∈blks v1,b∉[bb])∧(∀b∈[bb],∀a,IA=some a→a.block≠b)∧(∀a,IA=some a→a.block≠bb)∧bb≠p∧bb∉blks v1∧w.heap.size≤bb∧W.heap.size≤bb):=by
  obtain⟨q1,q2,q3,q4⟩:=HPL.out;have q5:=HIB2.out;refine⟨by simp;omega,fun b hb=>by have:=q2 b hb;simp;omega,fun b hb a ha=>by have:=q5 a ha;simp at hb;omega,fun a ha=>by have:=q5 a ha;omega,oM,fun hm=>by have:=q2 bb hm;omega,q3,q4⟩
 go_loopg [95,13] P (fun gg s95 s13 wr=>∃(r:Nat) (b:List Bool) (hvs:List HV) (rows:List (List Num)) (OA:Option Addr) (on oc:Nat),r≤P∧P-r≤gg∧s95=r∧s13= .slice OA on oc∧Aside (on=r)∧Aside (b.length=v1.n1)∧Aside (Touch [bb] W0 wr)∧Aside (wr.ownsRow W.heap.size 4 1 (.slice (some ⟨bb,0,none⟩) v1.n1 v1.n1) v1.n1 (b.flatMap blC))∧Aside (RowsO W0.heap.size wr OA on oc hvs rows)∧Aside (d.meaning=d1.meanL (P-r) r b rows))
 case atStart=>exact⟨0,_,[],[],none,0,0,Nat.zero_le _,oM,rfl,rfl,rfl,(by show _=_;simp),Touch.refl _ _,HOB.out,⟨World.ownsRow_nil _ _ _ _,rfl,(fun i h r hx=>by simp at hx),fun h hh=>by simp at hh⟩,(by have:=HM3.out;rw[HN.out.1.1]at this;exact this)⟩
 obtain⟨r,b,hvs,rows,OA,on,oc,hr,hg,rfl,rfl,hon,hbL,hT,hO,hRO,hE⟩:=hrel;have HKr3:=Lib.hid (HKW.out.touch hT.out HAP.out.1 HAP.out.2.1)
 by_cases hlt:r<P
 case pos=>
  have hltz:(r:Int)<(P:Int):=oM
  obtain⟨b0,b1,b2,b3,b4,b5,b6,b7,b8,bf⟩:=HKr3.out.nine
  have HE2:Aside (d.meaning=if (d1.meanR r C 0 b []).2.2=0 then d1.meanL (P-(r+1)) (r+1) (d1.meanR r C 0 b []).1 (rows++[(d1.meanR r C 0 b []).2.1]) else([],(d1.meanR r C 0 b []).2.2)):=by
   show _=_
   rw[hE.out,show P-r=(P-(r+1))+1 by omega,←HC.out];rfl
  go_upto_region 27 with fail
  clear b0 b1 b2 b3 b4 b5 b6 b7 b8 bf;rename World=>WR
  go_loopg [105,15] C (fun gg s105 s15 wr=>∃(c:Nat) (b2:List Bool) (xs:List Num) (LA:Option Addr) (ln lc:Nat),c≤C∧C-c≤gg∧s105=c∧s15= .slice LA ln lc∧Aside (ln=c)∧Aside (b2.length=v1.n1)∧Aside (Touch [bb] WR wr)∧Aside (wr.ownsRow W.heap.size 4 1 (.slice (some ⟨bb,0,none⟩) v1.n1 v1.n1) v1.n1 (b2.flatMap blC))∧Aside (wr.ownsRow WR.heap.size 26 5 (.slice LA ln lc) ln (xs.flatMap numC))∧Aside (d1.meanR r C 0 b []=d1.meanR r (C-c) c b2 xs))
  case atStart=>exact⟨0,b,[],none,0,0,Nat.zero_le _,oM,rfl,rfl,rfl,hbL.out,Touch.refl _ _,hO.out,World.ownsRow_nil _ _ _ _,rfl⟩
  obtain⟨c,b2,xs,LA,ln,lc,hc,hg2,rfl,rfl,hln,hbL2,hT2,hO2,hX,hE3⟩:=hrel;have hlc:ln≤64:=by have:=hln.out;omega
  by_cases hltc:c<C
  case pos=>
   have hltcz:(c:Int)<(C:Int):=oM
   have HE4:Aside (d1.meanR r C 0 b []=if (d1.cell r c b2).2.2=0 then d1.meanR r (C-(c+1)) (c+1) (d1.cell r c b2).1 (xs++[(d1.cell r c b2).2.1]) else((d1.cell r c b2).1,xs,(d1.cell r c b2).2.2)):=by
    show _=_
    rw[hE3.out,show C-c=(C-(c+1))+1 by omega];rfl
   have HKC:=Lib.hid (HKr3.out.touch hT2.out HAP.out.1 HAP.out.2.1);obtain⟨b0,b1,b2',b3',b4,b5,b6,b7,b8,bf⟩:=HKC.out.nine
   go_upto_region 30 with fail
   clear b0 b1 b2' b3' b4 b5 b6 b7 b8 bf;rename World=>WC
   go_loopg [114] v1.n4 (fun gg s114 wr=>∃i:Nat,i≤v1.n4∧v1.n4-i≤gg∧s114=i∧Aside (Touch [bb] WC wr)∧Aside (wr.ownsRow W.heap.size 4 1 (.slice (some ⟨bb,0,none⟩) v1.n1 v1.n1) v1.n1 ((setB r 0 (d1.outs.take i) b2).flatMap blC)))
   case atStart=>exact⟨0,Nat.zero_le _,oM,rfl,Touch.refl _ _,hO2.out⟩
   obtain⟨i,hi,hg114,rfl,hT114,hO114⟩:=hrel;have HK114:=Lib.hid (HKC.out.touch hT114.out HAP.out.1 HAP.out.2.1)
   by_cases hlti:i<v1.n4
   case pos=>
    have hltiz:(i:Int)<(v1.n4:Int):=oM
    obtain⟨x,hx⟩:=get_of (l:=d1.outs) (n:=i) (by have:=HN.out;omega);obtain⟨hx0,hx1⟩:=HOK.out.outs x (List.mem_of_getElem? hx);obtain⟨xn,rfl⟩:=Int.eq_ofNat_of_zero_le hx0;obtain⟨g3,o3,hA3,_,q0⟩:=HK114.out.own.rd.outs.at1 hx rfl;have hxl:xn<(setB r 0 (d1.outs.take i) b2).length:=by rw[setB_len,hbL2.out];have:=HN.out;omega
    have hq1:wr.cell? ⟨bb,xn,none⟩=some (.bool ((setB r 0 (d1.outs.take i) b2).getD xn false)):=by simpa using ownsRow_at blC_len hO114.out (getD_of hxl false) (j:=0) rfl
    have hfr:=hO114.out.frozenAt xn;have HO9:=Lib.hid (bits_set hO114.out hxl (bitI r i))
    have HST:Aside ((setB r 0 (d1.outs.take i) b2).set xn (bitI r i)=setB r 0 (d1.outs.take (i+1)) b2):=by
     have h9:=setB_take r d1.outs 0 i xn b2 hx;rw[Nat.zero_add,Int.toNat_natCast]at h9;exact h9.symm
    generalize (setB r 0 (d1.outs.take i) b2).getD xn false=old at hq1;have hand:=i64_and1 ((r:Int) / 2 ^ i);have hiz:(i:Int)≤64:=oM
    have hxz:(xn:Int)<(v1.n1:Int):=by have:=HN.out;omega
    clear hx hxl hx0 hx1;rw[hA3];go_wp2_with fail
    rw[←hA3];clear hA3
    go_roundg (v1.n4-(i+1))
    case measure=>omega
    exact⟨i+1,oM,Nat.le_refl _,nX,hT114.out.trans (Touch.set1 _ _ _ _) (fun x hx=> .inl hx),(by rw[←HST.out];exact HO9.out)⟩
   have hltiz:¬(i:Int)<(v1.n4:Int):=oM
   have HOE:Aside (wr.ownsRow W.heap.size 4 1 (.slice (some ⟨bb,0,none⟩) v1.n1 v1.n1) v1.n1 ((setB r 0 d1.outs b2).flatMap blC)):=by
    have h9:=hO114.out;rw[List.take_of_length_le (by have:=HN.out;omega)]at h9;exact h9
   have HB3:Aside ((setB r 0 d1.outs b2).length=v1.n1):=by show _=_;rw[setB_len];exact hbL2.out
   obtain⟨b3,hb3⟩:∃b3,b3=setB r 0 d1.outs b2:=⟨_,rfl⟩;rw[←hb3]at HOE HB3;have HO3:=HOE;have hbL3:=HB3;have HB3E:=Lib.hid hb3;have HTC:=Lib.hid hT114.out;have HKD:=Lib.hid HK114.out;obtain⟨b0,b1,b2',b3',b4,b5,b6,b7,b8,bf⟩:=HKD.out.nine;clear hb3 hO114
   go_upto_region 35 with fail
   clear b0 b1 b2' b3' b4 b5 b6 b7 b8 bf hltiz hlti hg114 hi hT114 HK114 HOE HB3;rename World=>WD
   go_loopg [134] v1.n3 (fun gg s134 wr=>∃i:Nat,i≤v1.n3∧v1.n3-i≤gg∧s134=i∧Aside (Touch [bb] WD wr)∧Aside (wr.ownsRow W.heap.size 4 1 (.slice (some ⟨bb,0,none⟩) v1.n1 v1.n1) v1.n1 ((setB c 0 (d1.ins.take i) b3).flatMap blC)))
   case atStart=>exact⟨0,Nat.zero_le _,oM,rfl,Touch.refl _ _,HO3.out⟩
   obtain⟨i,hi,hg134,rfl,hT134,hO134⟩:=hrel;have HK134:=Lib.hid (HKD.out.touch hT134.out HAP.out.1 HAP.out.2.1)
   by_cases hlti:i<v1.n3
   case pos=>
    have hltiz:(i:Int)<(v1.n3:Int):=oM
    obtain⟨x,hx⟩:=get_of (l:=d1.ins) (n:=i) (by have:=HN.out;omega);obtain⟨hx0,hx1⟩:=HOK.out.ins x (List.mem_of_getElem? hx);obtain⟨xn,rfl⟩:=Int.eq_ofNat_of_zero_le hx0;obtain⟨g3,o3,hA3,_,q0⟩:=HK134.out.own.rd.ins.at1 hx rfl;have hxl:xn<(setB c 0 (d1.ins.take i) b3).length:=by rw[setB_len,hbL3.out];have:=HN.out;omega
    have hq1:wr.cell? ⟨bb,xn,none⟩=some (.bool ((setB c 0 (d1.ins.take i) b3).getD xn false)):=by simpa using ownsRow_at blC_len hO134.out (getD_of hxl false) (j:=0) rfl
    have hfr:=hO134.out.frozenAt xn;have HO9:=Lib.hid (bits_set hO134.out hxl (bitI c i))
    have HST:Aside ((setB c 0 (d1.ins.take i) b3).set xn (bitI c i)=setB c 0 (d1.ins.take (i+1)) b3):=by
     have h9:=setB_take c d1.ins 0 i xn b3 hx;rw[Nat.zero_add,Int.toNat_natCast]at h9;exact h9.symm
    generalize (setB c 0 (d1.ins.take i) b3).getD xn false=old at hq1;have hand:=i64_and1 ((c:Int) / 2 ^ i);have hiz:(i:Int)≤64:=oM
    have hxz:(xn:Int)<(v1.n1:Int):=by have:=HN.out;omega
    clear hx hxl hx0 hx1;rw[hA3];go_wp2_with fail
    rw[←hA3];clear hA3
    go_roundg (v1.n3-(i+1))
    case measure=>omega
    exact⟨i+1,oM,Nat.le_refl _,nX,hT134.out.trans (Touch.set1 _ _ _ _) (fun x hx=> .inl hx),(by rw[←HST.out];exact HO9.out)⟩
   have hltiz:¬(i:Int)<(v1.n3:Int):=oM
   have HOE:Aside (wr.ownsRow W.heap.size 4 1 (.slice (some ⟨bb,0,none⟩) v1.n1 v1.n1) v1.n1 ((setB c 0 d1.ins b3).flatMap blC)):=by
    have h9:=hO134.out;rw[List.take_of_length_le (by have:=HN.out;omega)]at h9;exact h9
   obtain⟨b4,hb4⟩:∃b4,b4=setB c 0 d1.ins b3:=⟨_,rfl⟩;rw[←hb4]at HOE;have HB4:Aside (b4.length=v1.n1):=by show _=_;rw[hb4,setB_len];exact hbL3.out
   have HTW:Aside (Touch [bb] WC wr):=HTC.out.trans hT134.out (fun x hx=> .inl hx);have HTR:Aside (Touch [bb] WR wr):=hT2.out.trans HTW.out (fun x hx=> .inl hx);have HT0:Aside (Touch [bb] W0 wr):=hT.out.trans HTR.out (fun x hx=> .inl hx);have HBR:Aside (bb<WR.heap.size):=Nat.lt_of_lt_of_le HS0.out hT.out.size
   have hrgi:∀x∈d1.inside,0≤x∧x<(v1.n1:Int):=fun x hx=>by
    have h9:=insideL_mem d1.sp 0 x hx;have h8:=HN.out;omega
   have H54:=sum54 HK134.out HOK.out bb v1.n1 b4 HOE.out HN.out.1.1.symm HAP.out.2.2.2.2.1 HAP.out.2.2.2.2.2.1 (Nat.le_trans HPL.out.2.2.2 (Nat.le_trans (Nat.le_of_lt HS0.out) HT0.out.size)) IA il ic d1.inside (HRI3.out.touch HT0.out HAP.out.2.2.1) oM hrgi HAP.out.2.2.2.1;have hrg9:=sumL_range d1 d1.inside (2 ^ il) 0 b4 [0,0,0,0,0,0,0,0] rfl (by intro x hx;simp at hx;subst hx;omega);have hil1024:2 ^ il≤1024:=Nat.pow_le_pow_right dE (show il≤10 by omega)
   have HCE:Aside (d1.cell r c b2=((d1.sumL d1.inside (2 ^ il) 0 b4 [0,0,0,0,0,0,0,0]).1,(d1.sc.ofShares ((d1.sumL d1.inside (2 ^ il) 0 b4 [0,0,0,0,0,0,0,0]).2.getD 0 0) ((d1.sumL d1.inside (2 ^ il) 0 b4 [0,0,0,0,0,0,0,0]).2.getD 1 0) ((d1.sumL d1.inside (2 ^ il) 0 b4 [0,0,0,0,0,0,0,0]).2.getD 2 0) ((d1.sumL d1.inside (2 ^ il) 0 b4 [0,0,0,0,0,0,0,0]).2.getD 3 0) ((d1.sumL d1.inside (2 ^ il) 0 b4 [0,0,0,0,0,0,0,0]).2.getD 4 0) ((d1.sumL d1.inside (2 ^ il) 0 b4 [0,0,0,0,0,0,0,0]).2.getD 5 0) ((d1.sumL d1.inside (2 ^ il) 0 b4 [0,0,0,0,0,0,0,0]).2.getD 6 0) ((d1.sumL d1.inside (2 ^ il) 0 b4 [0,0,0,0,0,0,0,0]).2.getD 7 0) (rt:Int)))):=by
    show _=_
    rw[hb4,HB3E.out,HIL.out,←HRT.out];rfl
   generalize d1.sumL d1.inside (2 ^ il) 0 b4 [0,0,0,0,0,0,0,0]=r9 at H54 hrg9 HCE;obtain⟨bL,sL⟩:=r9;dsimp only at H54 hrg9 HCE;obtain⟨hl1,hl8,hrs⟩:=hrg9;have HBL:Aside (bL.length=v1.n1):=hl1.trans HB4.out
   match sL,hl8,hrs,H54,HCE with
   | [s0,s1,s2,s3,s4,s5,s6,s7],_,hrs,H54,HCE=>
    have H54:Calls Tryz.prog 54 #[pt p 0, .slice (some ⟨bb,0,none⟩) v1.n1 v1.n1, .slice IA il ic] wr fun e w'=>e= .returned (.agg #[s0,s1,s2,s3,s4,s5,s6,s7])∧w'.ownsRow W.heap.size 4 1 (.slice (some ⟨bb,0,none⟩) v1.n1 v1.n1) v1.n1 (bL.flatMap blC)∧Touch [bb] wr w':=H54
    have hsr:∀x∈[s0,s1,s2,s3,s4,s5,s6,s7],0≤x∧x≤1024:=fun x hx=>by
     have h9:=hrs x hx;have h8:((0+2 ^ il:Nat):Int)≤1024:=oM
     omega
    have H53:Aside (∀V:World,WK 83 [] W.heap.size V p v1 d1→Calls Tryz.prog 53 #[pt p 0, .agg #[s0,s1,s2,s3,s4,s5,s6,s7],rt] V fun e w'=>e= .returned (.tuple #[numV (d1.sc.ofShares s0 s1 s2 s3 s4 s5 s6 s7 rt).1, .int .i64 (d1.sc.ofShares s0 s1 s2 s3 s4 s5 s6 s7 rt).2])∧Below V.heap.size V w'):=fun V hk=>number53 hk HOK.out.sc s0 s1 s2 s3 s4 s5 s6 s7 hsr rt oM;have HCE:Aside (d1.cell r c b2=(bL,d1.sc.ofShares s0 s1 s2 s3 s4 s5 s6 s7 (rt:Int))):=HCE;generalize d1.sc.ofShares s0 s1 s2 s3 s4 s5 s6 s7 (rt:Int)=xv at H53 HCE;obtain⟨y,er⟩:=xv;obtain⟨ya,yb,yc,yd,yk⟩:=y;have HKX:=Lib.hid HK134.out;clear hrs hl1 hl8 hil1024 hrgi hsr hb4 HK134 hT134 hO134 HOE
    go_upto_region 40 with(first
      |(go_at_call 54;(with_reducible refine H54.mono ?_);rintro e w5 ⟨rfl,hown5,hT5⟩;clear H54;have HO5:=Lib.hid hown5;have HT5:=Lib.hid hT5;have H53w:=H53.out w5 (HKX.out.touch hT5 HAP.out.1 HAP.out.2.1);clear H53 hown5 hT5)
      |(go_at_call 53;(with_reducible refine H53w.mono ?_);rintro e w6 ⟨rfl,hb6⟩;clear H53w;have HB6:=Lib.hid hb6;clear hb6))
    obtain⟨w7,hw7⟩:∃w7,w7=w6.alloc (.cells #[ya,yb,yc,yd,yk] 26):=⟨_,rfl⟩;have hbk:Blk w7 w6.heap.size [ya,yb,yc,yd,yk] 26:=by rw[hw7];exact Blk.new _ _ _
    have hb7:Below w5.heap.size w5 w7:=by rw[hw7];exact HB6.out.alloc HB6.out.size _
    rw[←hw7];have HT7:Aside (Touch [bb] wr w7):=HT5.out.then_below hb7;have HO7:Aside (w7.ownsRow W.heap.size 4 1 (.slice (some ⟨bb,0,none⟩) v1.n1 v1.n1) v1.n1 (bL.flatMap blC)):=ownsRow_touch HO5.out (Touch.of_below hb7) sI;have HT07:Aside (Touch [bb] W0 w7):=HT0.out.trans HT7.out (fun x hx=> .inl hx);generalize w6.heap.size=yb6 at hbk;clear hw7 hb7
    by_cases her:er=0
    case neg=>
     have her1:(er != 0)=true:=by simpa using her
     have HE5:Aside (d.meaning=([],er)):=by
      have h9:=HE4.out;rw[HCE.out]at h9;dsimp only at h9;rw[if_neg her]at h9;show _=_
      rw[HE2.out,h9];dsimp only;rw[if_neg her]
     clear her;go_wp2_with fail
     refine bodyPost_ret (v:= .tuple #[.slice none 0 0,er]) (by simp[results,Tryz.results13,go_sem]) rfl ?_
     rw[HE5.out];exact⟨none,0,0,[],rfl,RowsRd.nil _,HL4.out.trans (HT07.out.below HL4.out.size (fun x hx=>by have:=HAP.out;simp at hx;omega))⟩
    subst her
    have HE5:Aside (d1.meanR r C 0 b []=d1.meanR r (C-(c+1)) (c+1) bL (xs++[⟨ya,yb,yc,yd,yk⟩])):=by
     show _=_
     rw[HE4.out,HCE.out];rfl
    have y_c:=hbk.five;have hb8:Below w7.heap.size w7 (w7.alloc (.cells #[ya,yb,yc,yd,yk] 26)):=bR.alloc (Nat.le_refl _) _;have HT8:Aside (Touch [bb] WR (w7.alloc (.cells #[ya,yb,yc,yd,yk] 26))):=(HTR.out.trans HT7.out (fun x hx=> .inl hx)).then_below hb8;have HX8:Aside ((w7.alloc (.cells #[ya,yb,yc,yd,yk] 26)).ownsRow WR.heap.size 26 5 (.slice LA ln lc) ln (xs.flatMap numC)):=ownsRow_touchR hX.out ((HTW.out.trans HT7.out (fun x hx=> .inl hx)).then_below hb8) (by intro b hb;simp at hb;subst hb;exact HBR.out);have HR8:Aside (Rd 5 numC (w7.alloc (.cells #[ya,yb,yc,yd,yk] 26)) (some ⟨w7.heap.size,0,none⟩) 1 [(⟨ya,yb,yc,yd,yk⟩:Num)]):=Rd.one (Blk.new _ _ _)
    have HO8:Aside ((w7.alloc (.cells #[ya,yb,yc,yd,yk] 26)).ownsRow W.heap.size 4 1 (.slice (some ⟨bb,0,none⟩) v1.n1 v1.n1) v1.n1 (bL.flatMap blC)):=ownsRow_touch HO7.out (Touch.of_below hb8) sI;clear hbk hb8
    go_upto_region 43 with (at_builtin;(refine wpList_append_rows rfl (.tmp 161) (.tmp 163) 78 rfl 26 5 _ 40 inf26 Tryz.underlying78 rfl dE numC_len numC_one dE WR.heap.size _ _ _ rfl _ HX8.out _ _ _ rfl (fun h=>nomatch h) [(⟨ya,yb,yc,yd,yk⟩:Num)] HR8.out oM dE HT8.out.size ?_)
                            intro v9 w9 hAp;obtain⟨A',c',rfl,hown,htch,hnb⟩:=hAp;have HOW:=Lib.hid hown;have HT9:Aside (Touch [bb] WR w9):=HT8.out.trans htch (fun x hx=> .inr (ownsRow_lt HX8.out x hx).1);have HO9:Aside (w9.ownsRow W.heap.size 4 1 (.slice (some ⟨bb,0,none⟩) v1.n1 v1.n1) v1.n1 (bL.flatMap blC)):=ownsRow_touch HO8.out htch (fun b hb hm=>by cases hb;have h1:WR.heap.size≤bb:=(ownsRow_lt HX8.out _ hm).1;have h2:=HBR.out;omega)
                            clear hown htch hnb)
    go_wp2_with fail
    go_roundg (C-(c+1))
    case measure=>omega
    exact⟨c+1,bL,xs++[(⟨ya,yb,yc,yd,yk⟩:Num)],A',ln+1,c',oM,Nat.le_refl _,nX,rfl,(by show _=_;rw[hln.out]),HBL.out,HT9.out,HO9.out,HOW.out,HE5.out⟩
  have hltcz:¬(c:Int)<(C:Int):=oM
  have hE9:=hE3.out;have hcC:c=C:=oM
  rw[hcC,Nat.sub_self]at hE9;have HEM:Aside (d1.meanR r C 0 b []=(b2,xs,0)):=hE9
  have HE5:Aside (d.meaning=d1.meanL (P-(r+1)) (r+1) b2 (rows++[xs])):=by
   show _=_
   rw[HE2.out,HEM.out];rfl
  have HOR:Aside (on≤64):=by have:=hon.out;show _≤_;omega
  have hon64:on≤64:=HOR.out;clear hE9 hcC;have hb8:Below wr.heap.size wr (wr.alloc (.cells #[.slice LA ln lc] 78)):=bR.alloc (Nat.le_refl _) _;have HRW:Aside (RowsO W0.heap.size (wr.alloc (.cells #[.slice LA ln lc] 78)) OA on oc hvs rows):=hRO.out.touch (hT2.out.then_below hb8) (by intro b hb;simp at hb;subst hb;exact HS0.out);have HR8:Aside (Rd 1 hvC (wr.alloc (.cells #[.slice LA ln lc] 78)) (some ⟨wr.heap.size,0,none⟩) 1 [(⟨LA,ln,lc⟩:HV)]):=Rd.one (Blk.new _ _ _);have HX8:Aside ((wr.alloc (.cells #[.slice LA ln lc] 78)).ownsRow WR.heap.size 26 5 (.slice LA ln lc) ln (xs.flatMap numC)):=ownsRow_touch hX.out (Touch.of_below hb8) sI;have HT8:Aside (Touch [bb] W0 (wr.alloc (.cells #[.slice LA ln lc] 78))):=(hT.out.trans hT2.out (fun x hx=> .inl hx)).then_below hb8
  have HO8:Aside ((wr.alloc (.cells #[.slice LA ln lc] 78)).ownsRow W.heap.size 4 1 (.slice (some ⟨bb,0,none⟩) v1.n1 v1.n1) v1.n1 (b2.flatMap blC)):=ownsRow_touch hO2.out (Touch.of_below hb8) sI
  have HLA:Aside (∀a,LA=some a→W0.heap.size≤a.block∧a.block<(wr.alloc (.cells #[.slice LA ln lc] 78)).heap.size∧a.block∉ownB OA):=by
   intro a ha;have h1:=ownsRow_lt HX8.out a.block (by rw[ha];simp[ownB]);have h2:=hT.out.size;refine⟨oM,h1.2,fun hm=>?_⟩
   have h3:=(ownsRow_lt hRO.out.own _ hm).2;omega
  clear hb8
  go_upto_region 45 with (at_builtin;(refine wpList_append_rows rfl (.tmp 166) (.tmp 168) 32 rfl 78 1 _ 24 inf78 Tryz.underlying32 rfl dE hvC_len hvC_one dE W0.heap.size _ _ _ rfl _ HRW.out.own _ _ _ rfl (fun h=>nomatch h) [(⟨LA,ln,lc⟩:HV)] HR8.out oM dE HT8.out.size ?_)
                          intro v9 w9 hAp;obtain⟨A',c',rfl,hown,htch,hnb⟩:=hAp;have HRN:Aside (RowsO W0.heap.size w9 A' (on+1) c' (hvs++[⟨LA,ln,lc⟩]) (rows++[xs])):=HRW.out.add (y:=⟨LA,ln,lc⟩) (Rd.owned dE numC_len HX8.out) HLA.out hown htch hnb;have HT9:Aside (Touch [bb] W0 w9):=HT8.out.trans htch (fun x hx=> .inr (ownsRow_lt HRW.out.own x hx).1);have HO9:Aside (w9.ownsRow W.heap.size 4 1 (.slice (some ⟨bb,0,none⟩) v1.n1 v1.n1) v1.n1 (b2.flatMap blC)):=ownsRow_touch HO8.out htch (fun b hb hm=>by cases hb;have h1:W0.heap.size≤bb:=(ownsRow_lt HRW.out.own _ hm).1;have h2:=HS0.out;omega)
                          clear hown htch hnb)
  go_wp2_with fail
  go_roundg (P-(r+1))
  case measure=>omega
  exact⟨r+1,b2,hvs++[(⟨LA,ln,lc⟩:HV)],rows++[xs],A',on+1,c',oM,Nat.le_refl _,nX,rfl,(by show _=_;rw[hon.out]),hbL2.out,HT9.out,HO9.out,HRN.out,HE5.out⟩
 have hltz:¬(r:Int)<(P:Int):=oM
 have hrp:Aside (r=P):=by show _=_;omega
 go_wp2_with fail
 refine bodyPost_ret (v:= .tuple #[.slice OA on oc, .int .i64 0]) (by simp[results,Tryz.results13,go_sem]) rfl ?_
 have hE9:=hE.out;rw[hrp.out,Nat.sub_self]at hE9;have hme:d.meaning=(rows,0):=hE9;rw[hme];exact⟨OA,on,oc,hvs,rfl,hRO.out.rdr,HL4.out.trans (hT.out.below HL4.out.size (fun x hx=>by have:=HAP.out;simp at hx;omega))⟩
end Go.Proofs.YtcoackmdmohnhaaGreatDoor
