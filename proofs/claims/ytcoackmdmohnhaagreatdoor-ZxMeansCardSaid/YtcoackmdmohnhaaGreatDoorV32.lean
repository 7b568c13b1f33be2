/- The reference: Meaning. -/
import Derived.Test.YtcoackmdmohnhaaGreatDoorV31
import Derived.Test.YtcoackmdmohnhaaGreatDoorV34
import Derived.Deep.LoopGhost
import Derived.Deep.Draws
import Derived.Shelf.Abstract
import Derived.LoopTactic
import Derived.Deep.QuietTactic
import Derived.BigQuiet
import Derived.Deep.RegionHeld3
import Derived.Deep.RegionHeldLaw
import Derived.RegionTactic
import Derived.BigRegion
import Derived.WalkLawsBesides
import Derived.Laws.EntriesVeiled
import Derived.Laws.StructEq
import Derived.Deep.DeepCutAuto
import Derived.Handy
import Derived.IntWalk
set_option linter.unusedVariables false
set_option linter.unusedSimpArgs false
set_option maxRecDepth 100000
set_option maxHeartbeats 20000000
namespace Go.Proofs.YtcoackmdmohnhaaGreatDoor
open Go.RowKit Go.Shelf
def b2i (b:Bool):Int:=if b then 1 else 0
def biC (b:Bool):List Value:=[.int .i64 (b2i b)]
theorem biC_len (b:Bool):(biC b).length=1:=rfl
theorem b2i_range (b:Bool):0≤b2i b∧b2i b≤1:=by cases b<;>decide
theorem b2i_bit (m i:Nat):(m:Int) / 2 ^ i%2=b2i (bitI m i):=by
  unfold bitI b2i
  generalize (m:Int) / 2 ^ i=x
  by_cases h:x%2=1
  · rw[h];rfl
  · have:x%2=0:=by omega
    rw[this];rfl
theorem b2i_mul (b:Bool) (x:Int):b2i b*x=if b then x else 0:=by cases b<;>simp[b2i]
theorem b2i_eq (a b:Bool):(b2i a==b2i b)=(a==b):=by cases a<;>cases b<;>decide
theorem b2i_mul4 (a b:Bool):4*b2i a*b2i b=if a&&b then 4 else 0:=by cases a<;>cases b<;>decide
theorem bits_setI {w:World} {B bb n:Nat} {b:List Bool} (h:w.ownsRow B 3 1 (.slice (some ⟨bb,0,none⟩) n n) n (b.flatMap biC)) {i:Nat} (hi:i<b.length) (y:Bool):(w.setCell ⟨bb,i,none⟩ (.int .i64 (b2i y))).ownsRow B 3 1 (.slice (some ⟨bb,0,none⟩) n n) n ((b.set i y).flatMap biC):=by
  have h1:=(h.stored (i*1+0) (.int .i64 (b2i y))).1
  obtain⟨x,hx⟩:∃x,b[i]?=some x:=⟨_,List.getElem?_eq_getElem hi⟩
  rw[flat_set biC_len hx (by decide) (show biC y=(biC x).set 0 (.int .i64 (b2i y)) from rfl)]at h1
  simpa using h1
theorem phR_take (d:Diag) (m:Nat):∀(l:List Int) (i k:Nat) (x:Int),l[k]?=some x→d.phR m i (l.take (k+1))=d.phR m i (l.take k)+(if bitI m (i+k) then d.phAt x else 0)
  |[],i,k,x,h=>by simp at h
  | y::l,i,0,x,h=>by
    simp at h
    subst h
    simp[Diag.phR]
  | y::l,i,k+1,x,h=>by
    have ih:=phR_take d m l (i+1) k x (by simpa using h)
    rw[show i+1+k=i+(k+1) by omega]at ih
    simp only[List.take_succ_cons,Diag.phR]at ih ⊢
    rw[ih]
    omega
theorem phR_range (d:Diag) (hp:∀s∈d.sp,0≤s.phase∧s.phase≤7) (m:Nat):∀(l:List Int) (i:Nat),0≤d.phR m i l∧d.phR m i l≤7*l.length
  |[],i=>by simp[Diag.phR]
  | x ::l,i=>by
    have ih:=phR_range d hp m l (i+1)
    have h1:0≤d.phAt x∧d.phAt x≤7:=by
      unfold Diag.phAt
      split
      · rename_i s hs
        exact hp s (List.mem_of_getElem? hs)
      · omega
    simp only[Diag.phR,List.length_cons]
    split<;>omega
theorem lnR_range (d:Diag) (b:List Bool) (m:Nat) (a:Int) (t:Bool) (h:0≤a):∀(ls:List Line),0≤(ls.foldl (d.lnR b) (a,t)).1∧(ls.foldl (d.lnR b) (a,t)).1≤a+4*ls.length:=by
  intro ls
  induction ls generalizing a t with
  |nil=>simp;omega
  | cons l ls ih=>
    simp only[List.foldl_cons,List.length_cons]
    obtain⟨a',t',e,h1,h2⟩:∃a' t',d.lnR b (a,t) l=(a',t')∧a≤a'∧a'≤a+4:=by
      unfold Diag.lnR
      split
      · exact⟨_,_,rfl,by dsimp only;split<;>omega,by dsimp only;split<;>omega⟩
      · exact⟨_,_,rfl,by dsimp only;omega,by dsimp only;omega⟩
    rw[e]
    have:=ih a' t' (by omega)
    omega
theorem foldl_take {α β:Type} (f:β→α→β) (z:β) {l:List α} {k:Nat} {x:α} (h:l[k]?=some x):(l.take (k+1)).foldl f z=f ((l.take k).foldl f z) x:=by
  rw[List.take_add_one,h,List.foldl_append]
  rfl
theorem map_take {α β:Type} (f:α→β) {l:List α} {k:Nat} {x:α} (h:l[k]?=some x):(l.take (k+1)).map f=(l.take k).map f++[f x]:=by
  rw[List.take_add_one,h,List.map_append]
  rfl
theorem meaning14 (v : DV) (d : Diag) (w : World) (hd : DRd w v d) (h1:v.n1≤1000) (h2:v.n2≤1000) (h3:v.n3≤1000) (h4:v.n4≤1000):
    Calls Tryz.prog 14 #[diaV v d.sc] w (RetM d.meaningR w):=by
  obtain⟨W,hW⟩:∃W,W=w.alloc (.cells #[.slice v.A1 v.n1 v.c1, .slice v.A2 v.n2 v.c2, .slice v.A3 v.n3 v.c3, .slice v.A4 v.n4 v.c4, .int .i64 d.sc.a, .int .i64 d.sc.b, .int .i64 d.sc.c, .int .i64 d.sc.d, .int .i64 d.sc.k] 28):=⟨_,rfl⟩
  have hX1:Blk W w.heap.size [.slice v.A1 v.n1 v.c1, .slice v.A2 v.n2 v.c2, .slice v.A3 v.n3 v.c3, .slice v.A4 v.n4 v.c4, .int .i64 d.sc.a, .int .i64 d.sc.b, .int .i64 d.sc.c, .int .i64 d.sc.d, .int .i64 d.sc.k] 28:=by rw[hW];exact Blk.new w _ 28
  have hBW:Below w.heap.size w W:=by rw[hW];exact(Below.refl _ _).alloc (Nat.le_refl _) _
  have HS:Aside (∀u,Below W.heap.size W u→u.cell? ⟨w.heap.size,0,none⟩=some (.slice v.A1 v.n1 v.c1)∧u.cell? ⟨w.heap.size,1,none⟩=some (.slice v.A2 v.n2 v.c2)∧u.cell? ⟨w.heap.size,2,none⟩=some (.slice v.A3 v.n3 v.c3)∧u.cell? ⟨w.heap.size,3,none⟩=some (.slice v.A4 v.n4 v.c4)∧u.cell? ⟨w.heap.size,4,none⟩=some (.int .i64 d.sc.a)∧u.cell? ⟨w.heap.size,5,none⟩=some (.int .i64 d.sc.b)∧u.cell? ⟨w.heap.size,6,none⟩=some (.int .i64 d.sc.c)∧u.cell? ⟨w.heap.size,7,none⟩=some (.int .i64 d.sc.d)∧u.cell? ⟨w.heap.size,8,none⟩=some (.int .i64 d.sc.k)):=by
    intro u hu
    obtain⟨x0,x1,x2,x3,x4,x5,x6,x7,x8,xf⟩:=(hX1.below hu).nine
    exact⟨x0,x1,x2,x3,x4,x5,x6,x7,x8⟩
  have HR:Aside (∀u,Below W.heap.size W u→DRd u v d):=fun u hu=>(hd.below hBW).below hu
  have H38:Aside (∀u,Below W.heap.size W u→Calls Tryz.prog 38 #[diaV v d.sc] u fun e w'=>e= .returned (.int .i64 d.check)∧Below u.heap.size u w'):=fun u hu=>check38 v d u ((hd.below hBW).below hu) h1 h2 h3 h4
  have HBW:=Lib.hid hBW
  have HL:Aside (d.sp.length=v.n1∧d.ln.length=v.n2∧d.ins.length=v.n3∧d.outs.length=v.n4):=⟨hd.sp.len,hd.ln.len,hd.ins.len,hd.outs.len⟩
  have HW:=Lib.hid hW
  obtain⟨a0,a1,a2,a3,a4,a5,a6,a7,a8⟩:=HS.out _ (Below.refl _ _)
  clear hd hW hX1 hBW
  have H38W:=H38.out W (Below.refl _ _)
  by_cases hc:d.check=0
  case neg=>
    have hc1:(d.check != 0)=true:=by simpa using hc
    have HE:Aside (d.meaningR=([],d.check)):=by
      show _=_
      unfold Diag.meaningR
      rw[if_pos hc]
    generalize d.check=ck at *
    clear hc
    go_enter Tryz.func14,Tryz.ntmps14
    go_upto_region 1 with fail
    rw[←HW.out]
    go_wp2_with (go_at_call 38;(with_reducible refine H38W.mono ?_);rintro e w1 ⟨rfl,hb1⟩;clear H38W;have HB1x:=Lib.hid hb1;clear hb1 a0 a1 a2 a3 a4 a5 a6 a7 a8)
    refine bodyPost_ret (v:= .tuple #[.slice none 0 0, .int .i64 ck]) (by simp[results,Tryz.results14,go_sem]) rfl ?_
    rw[HE.out]
    exact⟨none,0,0,[],rfl,RowsRd.nil _,HBW.out.trans (HB1x.out.mono HBW.out.size)⟩
  case pos=>
    have hok:=Diag.ok_of_check hc
    have HOK:Aside d.Ok:=hok
    have hen:=ends_le hc
    have HEN:Aside (v.n3+v.n4≤v.n1-d.inside.length):=by
      obtain⟨q1,q2,q3,q4⟩:=HL.out
      have h9:d.ends.length=d.ins.length+d.outs.length:=List.length_append
      show _≤_
      omega
    have HN:Aside (v.n1≤40∧v.n2≤100∧v.n3≤40∧v.n4≤40):=by
      obtain⟨q1,q2,q3,q4⟩:=HL.out
      obtain⟨p1,p2,p3,p4⟩:=(⟨hok.n1,hok.n2,hok.n3,hok.n4⟩:_∧_∧_∧_)
      show _∧_
      omega
    have hn1:v.n1≤40:=HN.out.1
    have hn2:v.n2≤100:=HN.out.2.1
    have HM:Aside (d.meaningR=if 6<v.n1-d.inside.length∨10<d.inside.length then([],2) else d.meanLR (2 ^ v.n4) 0 (List.replicate v.n1 false) []):=by
      show _=_
      unfold Diag.meaningR
      rw[if_neg (by simpa using hc),HL.out.1,HL.out.2.2.2]
    rw[hc]at H38W
    clear hc hok hen h1 h2 h3 h4 H38
    go_enter Tryz.func14,Tryz.ntmps14
    go_upto_region 1 with fail
    rw[←HW.out]
    go_upto_region 6 with(go_at_call 38;(with_reducible refine H38W.mono ?_);rintro e w1 ⟨rfl,hb1⟩;clear H38W;have HB1:=Lib.hid hb1;clear a0 a1 a2 a3 a4 a5 a6 a7 a8;obtain⟨a0,a1,a2,a3,a4,a5,a6,a7,a8⟩:=HS.out _ hb1;clear hb1)
    clear a0 a1 a2 a3 a4 a5 a6 a7 a8
    go_loopg [40,5] v.n1 (fun gg s40 s5 wr=>∃(k:Nat) (IA:Option Addr) (il ic:Nat),k≤v.n1∧v.n1-k≤gg∧s40= .int .i64 k∧s5= .slice IA il ic∧Aside (Below W.heap.size W wr)∧Aside (wr.ownsRow W.heap.size 3 1 (.slice IA il ic) il ((insideL 0 (d.sp.take k)).flatMap inC)))
    case atStart=>exact⟨0,none,0,0,Nat.zero_le _,by omega,rfl,rfl,HB1.out,World.ownsRow_nil _ _ _ _⟩
    case round=>
      obtain⟨k,IA,il,ic,hk,hg,rfl,rfl,hb,hI⟩:=hrel
      have hIL:il=(insideL 0 (d.sp.take k)).length:=(ownsRow_size (by decide) inC_len hI.out).symm
      have hil:il≤40:=by
        have h1:=insideL_len (d.sp.take k) 0
        rw[List.length_take]at h1
        omega
      by_cases hlt:k<v.n1
      case pos=>
        have hltz:(k:Int)<(v.n1:Int):=by omega
        obtain⟨s,hs⟩:=get_of (l:=d.sp) (n:=k) (by have:=HL.out;omega)
        obtain⟨b,o,hA,hbl,r0,r1⟩:=(HR.out _ hb.out).sp.at2 hs rfl
        have hIT:=insideL_take d.sp 0 k s hs
        rw[Nat.zero_add]at hIT
        have HIT:=Lib.hid hIT
        clear hIT hs hIL
        have HAA:=Lib.hid hA
        rw[hA]
        by_cases hkd:s.kind=0
        case pos=>
          have e1:(s.kind != 0)=false:=by simpa using hkd
          have HKD:=Lib.hid hkd
          clear hkd hA
          go_wp2_with fail
          rw[←HAA.out]
          go_roundg (v.n1-(k+1))
          case measure=>omega
          case rel=>
            refine⟨k+1,IA,il,ic,by omega,Nat.le_refl _,(by go_simp<;>first|exact IntWalk.i64_in _ (by omega)|(clear hwi;go_num)),rfl,hb.out.alloc hb.out.size _,?_⟩
            rw[HIT.out,if_neg (by simpa using HKD.out),List.append_nil]
            exact ownsRow_touch hI.out (Touch.of_below ((Below.refl _ _).alloc (Nat.le_refl _) _)) (by simp)
        case neg=>
          have e1:(s.kind != 0)=true:=by simpa using hkd
          have HKD:=Lib.hid hkd
          clear hkd hA
          have HBX:Aside (Below wr.heap.size wr ((wr.alloc (.cells #[.int .i64 s.kind, .int .i64 s.phase] 73)).alloc (.cells #[.int .i64 k] 3))):=((Below.refl _ _).alloc (Nat.le_refl _) _).alloc (by simp) _
          have HBB:Aside (W.heap.size≤((wr.alloc (.cells #[.int .i64 s.kind, .int .i64 s.phase] 73)).alloc (.cells #[.int .i64 k] 3)).heap.size):=Nat.le_trans hb.out.size HBX.out.size
          have HO2:Aside (((wr.alloc (.cells #[.int .i64 s.kind, .int .i64 s.phase] 73)).alloc (.cells #[.int .i64 k] 3)).ownsRow W.heap.size 3 1 (.slice IA il ic) il ((insideL 0 (d.sp.take k)).flatMap inC)):=ownsRow_touch hI.out (Touch.of_below HBX.out) (by simp)
          have HR2:Aside (Rd 1 inC ((wr.alloc (.cells #[.int .i64 s.kind, .int .i64 s.phase] 73)).alloc (.cells #[.int .i64 k] 3)) (some ⟨wr.heap.size+1,0,none⟩) 1 [(k:Int)]):=by
            have h9:=Blk.new (wr.alloc (.cells #[.int .i64 s.kind, .int .i64 s.phase] 73)) #[.int .i64 k] 3
            have h8:Blk ((wr.alloc (.cells #[.int .i64 s.kind, .int .i64 s.phase] 73)).alloc (.cells #[.int .i64 k] 3)) (wr.heap.size+1) (inC (k:Int)) 3:=by simpa [inC] using h9
            exact Rd.one h8
          go_upto_region 10 with (at_builtin;(refine wpList_append_rows rfl (.tmp 48) (.tmp 50) 24 rfl 3 1 _ 8 inf3 Tryz.underlying24 rfl (by decide) inC_len inC_one (by decide) W.heap.size _ _ _ rfl _ HO2.out _ _ _ rfl (fun h=>nomatch h) [(k:Int)] HR2.out (by omega) (by decide) HBB.out ?_)
                                  intro v9 w9 hAp
                                  obtain⟨A',c',rfl,hown,htch,hnb⟩:=hAp
                                  have HOW:=Lib.hid hown
                                  have HB9:Aside (Below W.heap.size W w9):=(hb.out.trans (HBX.out.mono hb.out.size)).trans (htch.below HBB.out (fun x hx=>(ownsRow_lt HO2.out x hx).1))
                                  clear hown htch hnb)
          go_wp2_with fail
          rw[←HAA.out]
          go_roundg (v.n1-(k+1))
          case measure=>omega
          case rel=>
            refine⟨k+1,A',il+1,c',by omega,Nat.le_refl _,(by go_simp<;>first|exact IntWalk.i64_in _ (by omega)|(clear hwi;go_num)),rfl,HB9.out,?_⟩
            rw[HIT.out,if_pos (by simpa using HKD.out)]
            exact HOW.out
      case neg=>
      have hltz:¬(k:Int)<(v.n1:Int):=by omega
      have htk:d.sp.take k=d.sp:=List.take_of_length_le (by have:=HL.out;omega)
      rw[htk]at hI hIL
      have hIL2:il=d.inside.length:=hIL
      have HI:Aside (wr.ownsRow W.heap.size 3 1 (.slice IA il ic) il (d.inside.flatMap inC)):=hI.out
      have hile:il≤v.n1:=by
        have h1:=insideL_len d.sp 0
        have h2:=HL.out
        omega
      have HMI:Aside (d.meaningR=if 6<v.n1-il∨10<il then([],2) else d.meanLR (2 ^ v.n4) 0 (List.replicate v.n1 false) []):=by
        show _=_
        rw[HM.out,hIL2]
      have HIL:=Lib.hid hIL2
      obtain⟨a0,a1,a2,a3,a4,a5,a6,a7,a8⟩:=HS.out _ hb.out
      have hws:IntKind.i64.wrap ((v.n1:Int)-il)=(v.n1:Int)-il:=IntWalk.i64_in _ (by omega)
      have HL1:Aside (Below w.heap.size w wr):=HBW.out.trans (hb.out.mono HBW.out.size)
      clear hI hIL hIL2 htk
      by_cases h6:6<v.n1-il
      case pos=>
        have h6z:(6:Int)<(v.n1:Int)-il:=by omega
        go_wp2_with fail
        refine bodyPost_ret (v:= .tuple #[.slice none 0 0, .int .i64 2]) (by simp[results,Tryz.results14,go_sem]) rfl ?_
        rw[HMI.out,if_pos (.inl h6)]
        exact⟨none,0,0,[],rfl,RowsRd.nil _,HL1.out⟩
      case neg=>
      have h6z:¬(6:Int)<(v.n1:Int)-il:=by omega
      by_cases h10:10<il
      case pos=>
        have h10z:(10:Int)<(il:Int):=by omega
        go_wp2_with fail
        refine bodyPost_ret (v:= .tuple #[.slice none 0 0, .int .i64 2]) (by simp[results,Tryz.results14,go_sem]) rfl ?_
        rw[HMI.out,if_pos (.inr h10)]
        exact⟨none,0,0,[],rfl,RowsRd.nil _,HL1.out⟩
      case neg=>
      have h10z:¬(10:Int)<(il:Int):=by omega
      have HM2:Aside (d.meaningR=d.meanLR (2 ^ v.n4) 0 (List.replicate v.n1 false) []):=by
        show _=_
        rw[HMI.out,if_neg (by omega)]
      have HIB:Aside (∀a,IA=some a→W.heap.size≤a.block∧a.block<wr.heap.size):=fun a ha=>by
        rcases HI.out.2 with⟨h1,_⟩|⟨g9,cap,cur,h1,h3,h2,_⟩
        · cases h1;cases ha
        · cases h1
          cases ha
          exact⟨h3,(Array.getElem?_eq_some_iff.1 h2).1⟩
      have HRI:Aside (Rd 1 inC wr IA il d.inside):=Rd.owned (by decide) inC_len HI.out
      obtain⟨i4,hi4,hz4,hs4,hb4⟩:=info_parts inf4
      have hmk:∀V:World,(Instr.makeSlice 85 (.int .i64 v.n2) (.int .i64 v.n2)).run Tryz.prog V= .ok (.slice (some ⟨V.heap.size,0,none⟩) v.n2 v.n2) (V.alloc (.cells (madeCells #[.bool false] v.n2) 4)):=by
        intro V
        have hr:=run_make (P:=Tryz.prog) V 85 4 i4 (.bool false) Tryz.underlying85 hi4 hz4 .i64 .i64 v.n2 v.n2 (by omega) (Int.le_refl _) (by rw[hb4];omega) (by omega)
        rw[hs4,Nat.mul_one]at hr
        exact hr
      clear hi4 hz4 hs4 hb4
      go_upto_region 15 with fail
      clear hws h6z h10z hltz hlt hg hk hmk a0 a1 a2 a3 a4 a5 a6 a7 a8
      rename World=>WI
      obtain⟨WE,hWE⟩:∃WE,WE=WI.alloc (.cells (madeCells #[.bool false] v.n2) 4):=⟨_,rfl⟩
      have hbl0:Blk WE WI.heap.size (madeCells #[.bool false] v.n2).toList 4:=by rw[hWE];exact Blk.new _ _ _
      rw[show (madeCells #[.bool false] v.n2).toList=(List.replicate v.n2 false).flatMap blC from by have h9:=made_flat (enc:=blC) (k:=1) (by decide) blC_len false v.n2;rw[Nat.mul_one]at h9;exact h9]at hbl0
      have hown0:=ownsRow_blk (B:=W.heap.size) (n:=v.n2) (k:=1) hbl0 hb.out.size (by unfold maxLen;omega) (by rw[flat_len blC_len];simp)
      have HOB:=Lib.hid hown0
      have hBI:Below WI.heap.size WI WE:=by rw[hWE];exact(Below.refl _ _).alloc (Nat.le_refl _) _
      have HBE:Aside (Below W.heap.size W WE):=hb.out.trans (hBI.mono hb.out.size)
      have HRIE:=Lib.hid (HRI.out.below hBI)
      have HSE:Aside (WI.heap.size<WE.heap.size∧W.heap.size≤WI.heap.size):=⟨hbl0.lt,hb.out.size⟩
      have HIE:Aside (∀a,IA=some a→W.heap.size≤a.block∧a.block<WI.heap.size):=HIB.out
      rw[←hWE]
      clear hWE hbl0 hown0 hBI HRI HIB HI hb HL1
      generalize hebb:WI.heap.size=eb at *
      clear hebb WI
      obtain⟨a0,a1,a2,a3,a4,a5,a6,a7,a8⟩:=HS.out _ HBE.out
      go_upto_region 16 with fail
      clear a0 a1 a2 a3 a4 a5 a6 a7 a8
      go_loopg [72,8] v.n2 (fun gg s72 s8 wr=>∃(k:Nat) (E:List Bool),k≤v.n2∧v.n2-k≤gg∧s72= .int .i64 k∧s8= .int .i64 (((d.ln.take k).countP d.bent:Nat):Int)∧Aside (E.length=v.n2)∧Aside (∀(j:Nat) (l:Line),j<k→d.ln[j]?=some l→E[j]?=some (d.bent l))∧Aside (Touch [eb] WE wr)∧Aside (wr.ownsRow W.heap.size 4 1 (.slice (some ⟨eb,0,none⟩) v.n2 v.n2) v.n2 (E.flatMap blC)))
      case atStart=>exact⟨0,_,Nat.zero_le _,by omega,rfl,by simp,(by show _=_;simp),(fun j l h=>by omega),Touch.refl _ _,HOB.out⟩
      case round=>
        obtain⟨k,E,hk,hg,rfl,rfl,hEl,hEv,hT,hO⟩:=hrel
        have HBr:Aside (Below W.heap.size W wr):=HBE.out.trans (hT.out.below HBE.out.size (fun x hx=>by simp at hx;subst hx;exact HSE.out.2))
        by_cases hlt:k<v.n2
        case pos=>
          have hltz:(k:Int)<(v.n2:Int):=by omega
          obtain⟨l,hl⟩:=get_of (l:=d.ln) (n:=k) (by have:=HL.out;omega)
          obtain⟨⟨hf0,hf1⟩,ht0,ht1⟩:=HOK.out.ln l (List.mem_of_getElem? hl)
          obtain⟨lf,lt,lh⟩:=l
          obtain⟨f,rfl⟩:=Int.eq_ofNat_of_zero_le hf0
          obtain⟨t9,rfl⟩:=Int.eq_ofNat_of_zero_le ht0
          dsimp only at hf0 hf1 ht0 ht1
          obtain⟨b,o,hA,hbl,r0,r1,r2⟩:=(HR.out _ HBr.out).ln.at3 hl rfl
          have HCT:Aside ((d.ln.take (k+1)).countP d.bent=(d.ln.take k).countP d.bent+(if d.bent ⟨f,t9,lh⟩=true then 1 else 0)):=by
            show _=_
            rw[List.take_add_one,hl,List.countP_append]
            simp[List.countP_cons]
          have hcl:(d.ln.take k).countP d.bent≤100:=Nat.le_trans List.countP_le_length (by rw[List.length_take];omega)
          generalize (d.ln.take k).countP d.bent=ct at *
          have H55:=bent55 (HR.out _ (HBr.out.alloc HBr.out.size (.cells #[.int .i64 f, .int .i64 t9, .bool lh] 77))) (by omega) f t9 lh (by omega) (by omega)
          have HEV:Aside (∀(j:Nat) (l:Line),j<k+1→d.ln[j]?=some l→(E.set k (d.bent ⟨f,t9,lh⟩))[j]?=some (d.bent l)):=by
            intro j l hj hjl
            by_cases hjk:j=k
            · subst hjk
              rw[hl]at hjl
              cases hjl
              rw[List.getElem?_set_self (by rw[hEl.out];exact hlt)]
            · rw[List.getElem?_set_ne (by omega)]
              exact hEv.out j l (by omega) hjl
          generalize d.bent ⟨f,t9,lh⟩=be at *
          have hwc:IntKind.i64.wrap ((ct:Int)+1)=(ct:Int)+1:=IntWalk.i64_in _ (by omega)
          obtain⟨a0,a1,a2,a3,a4,a5,a6,a7,a8⟩:=HS.out _ (HBr.out.alloc HBr.out.size (.cells #[.int .i64 f, .int .i64 t9, .bool lh] 77))
          have HKE:Aside (k<E.length):=by show _<_;rw[hEl.out];exact hlt
          have HAA:=Lib.hid hA
          clear hl hf0 ht0 hf1 ht1
          rw[hA]
          clear hA
          go_upto_region 19 with (go_at_call 55;(with_reducible refine H55.mono ?_);rintro e w5 ⟨rfl,hb5⟩;clear H55
                                  have HT5:Aside (Touch [eb] WE w5):=(hT.out.alloc _).then_below hb5
                                  have HO5:Aside (w5.ownsRow W.heap.size 4 1 (.slice (some ⟨eb,0,none⟩) v.n2 v.n2) v.n2 (E.flatMap blC)):=ownsRow_touch hO.out (Touch.of_below (below_then ((Below.refl _ _).alloc (Nat.le_refl _) _) hb5)) (by simp)
                                  have hq1:w5.cell? ⟨eb,k,none⟩=some (.bool (E.getD k false)):=by simpa using ownsRow_at blC_len HO5.out (getD_of HKE.out false) (j:=0) rfl
                                  have hfr:=HO5.out.frozenAt k
                                  have HO6:=Lib.hid (bits_set HO5.out HKE.out be)
                                  have HT6:Aside (Touch [eb] WE (w5.setCell ⟨eb,k,none⟩ (.bool be))):=HT5.out.trans (Touch.set1 _ _ _ _) (fun x hx=> .inl hx)
                                  clear hb5 a0 a1 a2 a3 a4 a5 a6 a7 a8)
          obtain⟨w6,hw6⟩:∃w6,w6=w5.setCell ⟨eb,k,none⟩ (.bool be):=⟨_,rfl⟩
          rw[←hw6]at HO6 HT6
          have hq6:w6.cell? ⟨eb,k,none⟩=some (.bool be):=by simpa using ownsRow_at blC_len HO6.out (i:=k) (x:=be) (List.getElem?_set_self HKE.out) (j:=0) rfl
          rw[←hw6]
          clear hw6 hq1 hfr
          cases be
          all_goals
            go_wp2_with fail
            rw[←HAA.out]
            go_roundg (v.n2-(k+1))
            case measure=>omega
            case rel=>exact⟨k+1,_,by omega,Nat.le_refl _,(by go_simp<;>first|exact IntWalk.i64_in _ (by omega)|(clear hwi;go_num)),(by rw[HCT.out];simp),(by show _=_;rw[List.length_set];exact hEl.out),HEV.out,HT6.out,HO6.out⟩
        case neg=>
          have hltz:¬(k:Int)<(v.n2:Int):=by omega
          have htk2:d.ln.take k=d.ln:=List.take_of_length_le (by have:=HL.out;omega)
          rw[htk2]
          have hrt:d.ln.countP d.bent≤100:=Nat.le_trans List.countP_le_length (by have:=HL.out;omega)
          generalize hRT:d.ln.countP d.bent=rt at *
          have HRT:Aside (d.roots=rt):=hRT
          have HEV:Aside (∀(j:Nat) (l:Line),d.ln[j]?=some l→E[j]?=some (d.bent l)):=fun j l hj=>hEv.out j l (by have h9:=(List.getElem?_eq_some_iff.1 hj).1;have:=HL.out;omega) hj
          have HRE:Aside (Rd 1 blC wr (some ⟨eb,0,none⟩) v.n2 E):=Rd.owned (by decide) blC_len hO.out
          have HRI2:=Lib.hid (HRIE.out.touch hT.out (fun y hy a ha=>by simp at hy;subst hy;have:=(HIE.out a ha).2;omega))
          have HSW:Aside (eb<wr.heap.size∧W.heap.size≤eb∧W.heap.size≤wr.heap.size):=by have h1:=HSE.out;have h2:=hT.out.size;show _∧_;omega
          obtain⟨i3,hi3,hz3,hs3,hb3⟩:=info_parts inf3
          have hmk:∀V:World,(Instr.makeSlice 24 (.int .i64 v.n1) (.int .i64 v.n1)).run Tryz.prog V= .ok (.slice (some ⟨V.heap.size,0,none⟩) v.n1 v.n1) (V.alloc (.cells (madeCells #[.int .i64 0] v.n1) 3)):=by
            intro V
            have hr:=run_make (P:=Tryz.prog) V 24 3 i3 (.int .i64 0) Tryz.underlying24 hi3 hz3 .i64 .i64 v.n1 v.n1 (by omega) (Int.le_refl _) (by rw[hb3];omega) (by omega)
            rw[hs3,Nat.mul_one]at hr
            exact hr
          clear hi3 hz3 hs3 hb3 hg hk htk2 hRT hO HOB HRIE hEv hEl
          obtain⟨a0,a1,a2,a3,a4,a5,a6,a7,a8⟩:=HS.out _ HBr.out
          go_upto_region 24 with fail
          clear hmk hltz hlt hT a0 a1 a2 a3 a4 a5 a6 a7 a8
          rename World=>WJ
          obtain⟨W0,hW0⟩:∃W0,W0=WJ.alloc (.cells (madeCells #[.int .i64 0] v.n1) 3):=⟨_,rfl⟩
          have hbl0:Blk W0 WJ.heap.size (madeCells #[.int .i64 0] v.n1).toList 3:=by rw[hW0];exact Blk.new _ _ _
          rw[show (madeCells #[.int .i64 0] v.n1).toList=(List.replicate v.n1 false).flatMap biC from by have h9:=made_flat (enc:=biC) (k:=1) (by decide) biC_len false v.n1;rw[Nat.mul_one]at h9;exact h9]at hbl0
          have hown0:=ownsRow_blk (B:=W.heap.size) (n:=v.n1) (k:=1) hbl0 HSW.out.2.2 (by unfold maxLen;omega) (by rw[flat_len biC_len];simp)
          have HOB:=Lib.hid hown0
          have hBJ:Below WJ.heap.size WJ W0:=by rw[hW0];exact(Below.refl _ _).alloc (Nat.le_refl _) _
          have HB0:Aside (Below W.heap.size W W0):=HBr.out.trans (hBJ.mono HBr.out.size)
          have HRI:=Lib.hid (HRI2.out.below hBJ)
          have HREE:=Lib.hid (HRE.out.below hBJ)
          have HS0:Aside (WJ.heap.size<W0.heap.size):=hbl0.lt
          have HAP:Aside (W.heap.size≤WJ.heap.size∧eb≠WJ.heap.size∧(∀a,IA=some a→a.block≠WJ.heap.size)∧WJ.heap.size<W0.heap.size∧eb<W0.heap.size∧(∀a,IA=some a→a.block<W0.heap.size)):=by
            have h1:=HSW.out
            have h2:=HIE.out
            have h3:=hbl0.lt
            exact⟨by omega,by omega,fun a ha=>by have:=(h2 a ha).2;have:=HSE.out;omega,by omega,by omega,fun a ha=>by have:=(h2 a ha).2;have:=HSE.out;omega⟩
          have h34:v.n3≤6∧v.n4≤6:=by
            have h7:=HEN.out
            have h9:=HIL.out
            omega
          obtain⟨P,hP⟩:∃P:Nat,P=2 ^ v.n4:=⟨_,rfl⟩
          obtain⟨C,hC⟩:∃C:Nat,C=2 ^ v.n3:=⟨_,rfl⟩
          obtain⟨M,hM⟩:∃M:Nat,M=2 ^ il:=⟨_,rfl⟩
          have hP1:P≤64:=by rw[hP];exact Nat.le_trans (Nat.pow_le_pow_right (by decide) h34.2) (by decide)
          have hC1:C≤64:=by rw[hC];exact Nat.le_trans (Nat.pow_le_pow_right (by decide) h34.1) (by decide)
          have hM1:M≤1024:=by rw[hM];exact Nat.pow_le_pow_right (by decide) (show il≤10 by omega)
          have hPz:(2:Int) ^ v.n4=(P:Int):=by rw[hP];simp
          have hCz:(2:Int) ^ v.n3=(C:Int):=by rw[hC];simp
          have hMz:(2:Int) ^ il=(M:Int):=by rw[hM];simp
          have hPw:IntKind.i64.wrap (P:Int)=(P:Int):=IntWalk.i64_in _ (by omega)
          have hCw:IntKind.i64.wrap (C:Int)=(C:Int):=IntWalk.i64_in _ (by omega)
          have hMw:IntKind.i64.wrap (M:Int)=(M:Int):=IntWalk.i64_in _ (by omega)
          have hz3:(v.n3:Int)≤64:=by omega
          have hz4:(v.n4:Int)≤64:=by omega
          have hzl:(il:Int)≤64:=by omega
          have HM3:Aside (d.meaningR=d.meanLR P 0 (List.replicate v.n1 false) []):=by
            show _=_
            rw[HM2.out,hP]
          have HCC:Aside (2 ^ d.ins.length=C):=by show _=_;rw[HL.out.2.2.1,hC]
          have HMM:Aside (2 ^ d.inside.length=M):=by show _=_;rw[←HIL.out,hM]
          rw[←hW0]
          clear hW0 hbl0 hown0 hBJ h34 hP hC hM HRI2 HRE HBr HM HMI HM2
          generalize hbb:WJ.heap.size=bb at *
          clear hbb WJ
          obtain⟨a0,a1,a2,a3,a4,a5,a6,a7,a8⟩:=HS.out _ HB0.out
          go_wp2_with fail
          go_loopg [14,12] P (fun gg s14 s12 wr=>∃(r:Nat) (b:List Bool) (hvs:List HV) (rows:List (List Num)) (OA:Option Addr) (on oc:Nat),r≤P∧P-r≤gg∧s14= .int .i64 r∧s12= .slice OA on oc∧Aside (on=r)∧Aside (b.length=v.n1)∧Aside (Touch [bb] W0 wr)∧Aside (wr.ownsRow W.heap.size 3 1 (.slice (some ⟨bb,0,none⟩) v.n1 v.n1) v.n1 (b.flatMap biC))∧Aside (RowsO W0.heap.size wr OA on oc hvs rows)∧Aside (d.meaningR=d.meanLR (P-r) r b rows))
          case atStart=>exact⟨0,_,[],[],none,0,0,Nat.zero_le _,by omega,rfl,rfl,rfl,(by show _=_;simp),Touch.refl _ _,HOB.out,⟨World.ownsRow_nil _ _ _ _,rfl,(fun i h r hx=>by simp at hx),fun h hh=>by simp at hh⟩,HM3.out⟩
          case round=>
            clear a0 a1 a2 a3 a4 a5 a6 a7 a8
            obtain⟨r,b,hvs,rows,OA,on,oc,hr,hg,rfl,rfl,hon,hbL,hT,hO,hRO,hE⟩:=hrel
            have HBr:Aside (Below W.heap.size W wr):=HB0.out.trans (hT.out.below HB0.out.size (fun x hx=>by simp at hx;subst hx;exact HAP.out.1))
            obtain⟨a0,a1,a2,a3,a4,a5,a6,a7,a8⟩:=HS.out _ HBr.out
            by_cases hlt:r<P
            case pos=>
              have hltz:(r:Int)<(P:Int):=by omega
              obtain⟨bo,hbo⟩:∃bo,bo=setB r 0 d.outs b:=⟨_,rfl⟩
              have HE2:Aside (d.meaningR=if (d.meanRR C 0 bo []).2.2=0 then d.meanLR (P-(r+1)) (r+1) (d.meanRR C 0 bo []).1 (rows++[(d.meanRR C 0 bo []).2.1]) else([],(d.meanRR C 0 bo []).2.2)):=by
                show _=_
                rw[hE.out,show P-r=(P-(r+1))+1 by omega,←HCC.out,hbo]
                rfl
              have HBO:=Lib.hid hbo
              clear hbo
              go_upto_region 29 with fail
              clear a0 a1 a2 a3 a4 a5 a6 a7 a8
              rename World=>WR
              go_loopg [105] v.n4 (fun gg s105 wr=>∃i:Nat,i≤v.n4∧v.n4-i≤gg∧s105= .int .i64 i∧Aside (Touch [bb] WR wr)∧Aside (wr.ownsRow W.heap.size 3 1 (.slice (some ⟨bb,0,none⟩) v.n1 v.n1) v.n1 ((setB r 0 (d.outs.take i) b).flatMap biC)))
              case atStart=>exact⟨0,Nat.zero_le _,by omega,rfl,Touch.refl _ _,hO.out⟩
              case round=>
                obtain⟨i,hi,hg2,rfl,hT2,hO2⟩:=hrel
                have HBr2:Aside (Below W.heap.size W wr):=HBr.out.trans (hT2.out.below HBr.out.size (fun x hx=>by simp at hx;subst hx;exact HAP.out.1))
                obtain⟨a0,a1,a2,a3,a4,a5,a6,a7,a8⟩:=HS.out _ HBr2.out
                by_cases hlti:i<v.n4
                case pos=>
                  have hltiz:(i:Int)<(v.n4:Int):=by omega
                  obtain⟨x,hx⟩:=get_of (l:=d.outs) (n:=i) (by have:=HL.out;omega)
                  obtain⟨hx0,hx1⟩:=HOK.out.outs x (List.mem_of_getElem? hx)
                  obtain⟨xn,rfl⟩:=Int.eq_ofNat_of_zero_le hx0
                  obtain⟨b3,o3,hA3,_,q0⟩:=(HR.out _ HBr2.out).outs.at1 hx rfl
                  have hxl:xn<(setB r 0 (d.outs.take i) b).length:=by rw[setB_len,hbL.out];have:=HL.out;omega
                  have hq1:wr.cell? ⟨bb,xn,none⟩=some (.int .i64 (b2i ((setB r 0 (d.outs.take i) b).getD xn false))):=by simpa using ownsRow_at biC_len hO2.out (getD_of hxl false) (j:=0) rfl
                  have hfr:=hO2.out.frozenAt xn
                  have HO9:=Lib.hid (bits_setI hO2.out hxl (bitI r i))
                  have HST:Aside ((setB r 0 (d.outs.take i) b).set xn (bitI r i)=setB r 0 (d.outs.take (i+1)) b):=by
                    have h9:=setB_take r d.outs 0 i xn b hx
                    rw[Nat.zero_add,Int.toNat_natCast]at h9
                    exact h9.symm
                  generalize (setB r 0 (d.outs.take i) b).getD xn false=old at hq1
                  have hand:=i64_and1 ((r:Int) / 2 ^ i)
                  rw[b2i_bit r i]at hand
                  have hiz:(i:Int)≤64:=by omega
                  have hxz:(xn:Int)<(v.n1:Int):=by have:=HL.out;omega
                  have HAA:=Lib.hid hA3
                  clear hx hxl hx0 hx1
                  rw[hA3]
                  clear hA3
                  go_wp2_with fail
                  rw[←HAA.out]
                  go_roundg (v.n4-(i+1))
                  case measure=>omega
                  case rel=>exact⟨i+1,by omega,Nat.le_refl _,(by go_simp<;>first|exact IntWalk.i64_in _ (by omega)|(clear hwi;go_num)),hT2.out.trans (Touch.set1 _ _ _ _) (fun x hx=> .inl hx),(by rw[←HST.out];exact HO9.out)⟩
                case neg=>
                  have hltiz:¬(i:Int)<(v.n4:Int):=by omega
                  have HOE:Aside (wr.ownsRow W.heap.size 3 1 (.slice (some ⟨bb,0,none⟩) v.n1 v.n1) v.n1 (bo.flatMap biC)):=by
                    have h9:=hO2.out
                    rw[List.take_of_length_le (by have:=HL.out;omega)]at h9
                    rw[HBO.out]
                    exact h9
                  have HBL:Aside (bo.length=v.n1):=by show _=_;rw[HBO.out,setB_len];exact hbL.out
                  have HTR:Aside (Touch [bb] W0 wr):=hT.out.trans hT2.out (fun x hx=> .inl hx)
                  have HRO2:=Lib.hid (hRO.out.touch hT2.out (by intro b hb;simp at hb;subst hb;exact HAP.out.2.2.2.1))
                  have HRE2:Aside (W0.heap.size≤wr.heap.size):=HTR.out.size
                  clear hO2 hT2 hRO hT hO HBr hbL
                  go_upto_region 34 with fail
                  clear hg2 hi hltiz hlti
                  rename World=>WC
                  have HBC:Aside (Below W.heap.size W WC):=HBr2.out
                  clear HBr2 a0 a1 a2 a3 a4 a5 a6 a7 a8
                  obtain⟨a0,a1,a2,a3,a4,a5,a6,a7,a8⟩:=HS.out _ HBC.out
                  go_loopg [18,15] C (fun gg s18 s15 wr=>∃(c:Nat) (b2:List Bool) (xs:List Num) (LA:Option Addr) (ln lc:Nat),c≤C∧C-c≤gg∧s18= .int .i64 c∧s15= .slice LA ln lc∧Aside (ln=c)∧Aside (b2.length=v.n1)∧Aside (Touch [bb] WC wr)∧Aside (wr.ownsRow W.heap.size 3 1 (.slice (some ⟨bb,0,none⟩) v.n1 v.n1) v.n1 (b2.flatMap biC))∧Aside (wr.ownsRow WC.heap.size 26 5 (.slice LA ln lc) ln (xs.flatMap numC))∧Aside (d.meanRR C 0 bo []=d.meanRR (C-c) c b2 xs))
                  case atStart=>exact⟨0,bo,[],none,0,0,Nat.zero_le _,by omega,rfl,rfl,rfl,HBL.out,Touch.refl _ _,HOE.out,World.ownsRow_nil _ _ _ _,rfl⟩
                  case round=>
                    clear a0 a1 a2 a3 a4 a5 a6 a7 a8
                    obtain⟨c,b2,xs,LA,ln,lc,hc,hg2,rfl,rfl,hln,hbL2,hT2,hO2,hX,hE3⟩:=hrel
                    have hlc:ln≤64:=by have:=hln.out;omega
                    have HBc:Aside (Below W.heap.size W wr):=HBC.out.trans (hT2.out.below HBC.out.size (fun x hx=>by simp at hx;subst hx;exact HAP.out.1))
                    obtain⟨a0,a1,a2,a3,a4,a5,a6,a7,a8⟩:=HS.out _ HBc.out
                    by_cases hltc:c<C
                    case pos=>
                      have hltcz:(c:Int)<(C:Int):=by omega
                      have HE4:Aside (d.meanRR C 0 bo []=if (d.cellR c b2).2.2=0 then d.meanRR (C-(c+1)) (c+1) (d.cellR c b2).1 (xs++[(d.cellR c b2).2.1]) else((d.cellR c b2).1,xs,(d.cellR c b2).2.2)):=by
                        show _=_
                        rw[hE3.out,show C-c=(C-(c+1))+1 by omega]
                        rfl
                      go_upto_region 37 with fail
                      clear a0 a1 a2 a3 a4 a5 a6 a7 a8
                      rename World=>WD
                      go_loopg [129] v.n3 (fun gg s129 wr=>∃i:Nat,i≤v.n3∧v.n3-i≤gg∧s129= .int .i64 i∧Aside (Touch [bb] WD wr)∧Aside (wr.ownsRow W.heap.size 3 1 (.slice (some ⟨bb,0,none⟩) v.n1 v.n1) v.n1 ((setB c 0 (d.ins.take i) b2).flatMap biC)))
                      case atStart=>exact⟨0,Nat.zero_le _,by omega,rfl,Touch.refl _ _,hO2.out⟩
                      case round=>
                        obtain⟨i,hi,hg3,rfl,hT3,hO3⟩:=hrel
                        have HBd:Aside (Below W.heap.size W wr):=HBc.out.trans (hT3.out.below HBc.out.size (fun x hx=>by simp at hx;subst hx;exact HAP.out.1))
                        by_cases hlti:i<v.n3
                        case pos=>
                          have hltiz:(i:Int)<(v.n3:Int):=by omega
                          obtain⟨x,hx⟩:=get_of (l:=d.ins) (n:=i) (by have:=HL.out;omega)
                          obtain⟨hx0,hx1⟩:=HOK.out.ins x (List.mem_of_getElem? hx)
                          obtain⟨xn,rfl⟩:=Int.eq_ofNat_of_zero_le hx0
                          obtain⟨b3,o3,hA3,_,q0⟩:=(HR.out _ HBd.out).ins.at1 hx rfl
                          have hxl:xn<(setB c 0 (d.ins.take i) b2).length:=by rw[setB_len,hbL2.out];have:=HL.out;omega
                          have hq1:wr.cell? ⟨bb,xn,none⟩=some (.int .i64 (b2i ((setB c 0 (d.ins.take i) b2).getD xn false))):=by simpa using ownsRow_at biC_len hO3.out (getD_of hxl false) (j:=0) rfl
                          have hfr:=hO3.out.frozenAt xn
                          have HO9:=Lib.hid (bits_setI hO3.out hxl (bitI c i))
                          have HST:Aside ((setB c 0 (d.ins.take i) b2).set xn (bitI c i)=setB c 0 (d.ins.take (i+1)) b2):=by
                            have h9:=setB_take c d.ins 0 i xn b2 hx
                            rw[Nat.zero_add,Int.toNat_natCast]at h9
                            exact h9.symm
                          generalize (setB c 0 (d.ins.take i) b2).getD xn false=old at hq1
                          have hand:=i64_and1 ((c:Int) / 2 ^ i)
                          rw[b2i_bit c i]at hand
                          have hiz:(i:Int)≤64:=by omega
                          have hxz:(xn:Int)<(v.n1:Int):=by have:=HL.out;omega
                          have HAA:=Lib.hid hA3
                          clear hx hxl hx0 hx1
                          rw[hA3]
                          clear hA3
                          go_wp2_with fail
                          rw[←HAA.out]
                          go_roundg (v.n3-(i+1))
                          case measure=>omega
                          case rel=>exact⟨i+1,by omega,Nat.le_refl _,(by go_simp<;>first|exact IntWalk.i64_in _ (by omega)|(clear hwi;go_num)),hT3.out.trans (Touch.set1 _ _ _ _) (fun x hx=> .inl hx),(by rw[←HST.out];exact HO9.out)⟩
                        case neg=>
                          have hltiz:¬(i:Int)<(v.n3:Int):=by omega
                          have HB3:Aside ((setB c 0 d.ins b2).length=v.n1):=by show _=_;rw[setB_len];exact hbL2.out
                          have HO4:Aside (wr.ownsRow W.heap.size 3 1 (.slice (some ⟨bb,0,none⟩) v.n1 v.n1) v.n1 ((setB c 0 d.ins b2).flatMap biC)):=by
                            have h9:=hO3.out
                            rw[List.take_of_length_le (by have:=HL.out;omega)]at h9
                            exact h9
                          obtain⟨b4,hb4⟩:∃b4,b4=setB c 0 d.ins b2:=⟨_,rfl⟩
                          rw[←hb4]at HO4 HB3
                          have HB4:=Lib.hid hb4
                          have HTC:Aside (Touch [bb] WC wr):=hT2.out.trans hT3.out (fun x hx=> .inl hx)
                          have HX:=Lib.hid (ownsRow_touch hX.out hT3.out (fun b' hb hm=>by simp at hm;subst hm;have h1:=(ownsRow_lt hX.out _ (ownBlock_ownB hb)).1;have h2:=HAP.out.2.2.2.1;have h3:=HRE2.out;omega))
                          clear hb4 hO3 hT3 hO2 hT2 hX HBc hbL2
                          go_upto_region 42 with fail
                          clear hg3 hi hltiz hlti
                          obtain⟨WP,hWP⟩:∃WP,WP=wr.alloc (.cells #[.int .i64 0, .int .i64 0, .int .i64 0, .int .i64 0, .int .i64 0, .int .i64 0, .int .i64 0, .int .i64 0] 88):=⟨_,rfl⟩
                          have hpb:Blk WP wr.heap.size ([0,0,0,0,0,0,0,0].map int1) 88:=by rw[hWP];exact Blk.new _ _ _
                          have hBP:Below wr.heap.size wr WP:=by rw[hWP];exact(Below.refl _ _).alloc (Nat.le_refl _) _
                          have HPB:=Lib.hid hpb
                          have HBP:Aside (Below W.heap.size W WP):=HBd.out.trans (hBP.mono HBd.out.size)
                          have HOP:Aside (WP.ownsRow W.heap.size 3 1 (.slice (some ⟨bb,0,none⟩) v.n1 v.n1) v.n1 (b4.flatMap biC)):=ownsRow_touch HO4.out (Touch.of_below hBP) (by simp)
                          have HXP:Aside (WP.ownsRow WC.heap.size 26 5 (.slice LA ln lc) ln (xs.flatMap numC)):=ownsRow_touch HX.out (Touch.of_below hBP) (by simp)
                          have HTP:Aside (Touch [bb] WC WP):=HTC.out.then_below hBP
                          have HSP:Aside (wr.heap.size<WP.heap.size∧WC.heap.size≤wr.heap.size∧W0.heap.size≤WC.heap.size):=⟨hpb.lt,HTC.out.size,HRE2.out⟩
                          rw[←hWP]
                          have HLP0:=Lib.hid (ownsRow_lt HX.out)
                          clear hWP hpb hBP HO4 HX HTC HBd
                          have HLP:Aside (∀b∈ownB LA,WC.heap.size≤b∧b<wr.heap.size):=HLP0.out
                          generalize hpbe:wr.heap.size=pb at *
                          clear hpbe wr
                          have HPP:Aside (pb≠bb∧pb≠eb∧(∀a,IA=some a→a.block≠pb)∧W.heap.size≤pb∧WC.heap.size≤pb∧bb<WC.heap.size):=by
                            obtain⟨z1,z2,z3,z4,z5,z6⟩:=HAP.out
                            obtain⟨y1,y2,y3⟩:=HSP.out
                            exact⟨by omega,by omega,fun a ha=>by have:=z6 a ha;omega,by omega,by omega,by omega⟩
                          go_wp2_with fail
                          go_loopg [22] M (fun gg s22 wr=>∃(n:Nat) (b:List Bool) (s:List Int),n≤M∧M-n≤gg∧s22= .int .i64 n∧Aside (b.length=v.n1∧s.length=8∧∀x∈s,0≤x∧x≤(n:Int))∧Aside (Touch [bb,pb] WP wr)∧Aside (wr.ownsRow W.heap.size 3 1 (.slice (some ⟨bb,0,none⟩) v.n1 v.n1) v.n1 (b.flatMap biC))∧Aside (Blk wr pb (s.map int1) 88)∧Aside (d.sumR d.inside M 0 b4 [0,0,0,0,0,0,0,0]=d.sumR d.inside (M-n) n b s))
                          case atStart=>exact⟨0,b4,_,Nat.zero_le _,by omega,rfl,⟨HB3.out,rfl,by intro x hx;simp at hx;subst hx;omega⟩,Touch.refl _ _,HOP.out,HPB.out,rfl⟩
                          case round=>
                            obtain⟨n,b,s,hn,hg3,rfl,hbs,hT,hO,hPk,hE5⟩:=hrel
                            have HBn:Aside (Below W.heap.size W wr):=HBP.out.trans (hT.out.below HBP.out.size (fun x hx=>by have h1:=HAP.out.1;have h2:=HPP.out.2.2.2.1;simp at hx;omega))
                            have HTn:Aside (Touch [bb,pb] WC wr):=(HTP.out.mono (fun x hx=> .inl (by simp at hx;simp[hx]))).trans hT.out (fun x hx=> .inl hx)
                            by_cases hltn:n<M
                            case pos=>
                              as_aux_lemma=>
                              have hltnz:(n:Int)<(M:Int):=by omega
                              have HE6:Aside (d.sumR d.inside M 0 b4 [0,0,0,0,0,0,0,0]=d.sumR d.inside (M-(n+1)) (n+1) (setB n 0 d.inside b) (addS (d.prodR n d.inside (setB n 0 d.inside b)) s)):=by
                                show _=_
                                rw[hE5.out,show M-n=(M-(n+1))+1 by omega]
                                rfl
                              go_wp2_with fail
                              rename World=>WN
                              go_loopg [151,23] il (fun gg s151 s23 wr=>∃i:Nat,i≤il∧il-i≤gg∧s151= .int .i64 i∧s23= .int .i64 (d.phR n 0 (d.inside.take i))∧Aside (Touch [bb] WN wr)∧Aside (wr.ownsRow W.heap.size 3 1 (.slice (some ⟨bb,0,none⟩) v.n1 v.n1) v.n1 ((setB n 0 (d.inside.take i) b).flatMap biC)))
                              case atStart=>exact⟨0,Nat.zero_le _,by omega,rfl,rfl,Touch.refl _ _,hO.out⟩
                              case round=>
                                obtain⟨i,hi,hg4,rfl,rfl,hT4,hO4⟩:=hrel
                                have HBi:Aside (Below W.heap.size W wr):=HBn.out.trans (hT4.out.below HBn.out.size (fun x hx=>by simp at hx;subst hx;exact HAP.out.1))
                                have hph:=phR_range d (fun s hs=>(HOK.out.sp s hs).2) n (d.inside.take i) 0
                                have hpl:(d.inside.take i).length≤10:=by rw[List.length_take];omega
                                by_cases hlti:i<il
                                case pos=>
                                  have hltiz:(i:Int)<(il:Int):=by omega
                                  obtain⟨x,hx⟩:=get_of (l:=d.inside) (n:=i) (by rw[←HIL.out];exact hlti)
                                  obtain⟨hx0,hx1⟩:=insideL_mem d.sp 0 x (List.mem_of_getElem? hx)
                                  obtain⟨xn,rfl⟩:=Int.eq_ofNat_of_zero_le (show 0≤x by omega)
                                  have HRIi:=HRI.out.touch ((HTR.out.trans HTn.out (fun x hx=>by simp at hx;rcases hx with h|h;exact .inl (by simp[h]);right;have h2:=HPP.out.2.2.2.2.1;have h3:=HRE2.out;omega)).trans hT4.out (fun x hx=> .inl hx)) (fun y hy a ha=>by simp at hy;subst hy;exact HAP.out.2.2.1 a ha)
                                  obtain⟨b3,o3,hA3,_,q0⟩:=HRIi.at1 hx rfl
                                  have hxs:xn<d.sp.length:=by omega
                                  obtain⟨s9,hs9⟩:=get_of hxs
                                  have hxl:xn<(setB n 0 (d.inside.take i) b).length:=by rw[setB_len,hbs.out.1];have:=HL.out;omega
                                  have hq1:wr.cell? ⟨bb,xn,none⟩=some (.int .i64 (b2i ((setB n 0 (d.inside.take i) b).getD xn false))):=by simpa using ownsRow_at biC_len hO4.out (getD_of hxl false) (j:=0) rfl
                                  have hfr:=hO4.out.frozenAt xn
                                  have hO9:=bits_setI hO4.out hxl (bitI n i)
                                  have HST:Aside ((setB n 0 (d.inside.take i) b).set xn (bitI n i)=setB n 0 (d.inside.take (i+1)) b):=by
                                    have h9:=setB_take n d.inside 0 i xn b hx
                                    rw[Nat.zero_add,Int.toNat_natCast]at h9
                                    exact h9.symm
                                  rw[HST.out]at hO9
                                  have HO9:=Lib.hid hO9
                                  have hPT:=phR_take d n d.inside 0 i xn hx
                                  rw[Nat.zero_add,phAt_of hs9]at hPT
                                  have hph9:=(HOK.out.sp s9 (List.mem_of_getElem? hs9)).2
                                  obtain⟨B5,hB5⟩:∃u,u=wr.setCell ⟨bb,xn,none⟩ (.int .i64 (b2i (bitI n i))):=⟨_,rfl⟩
                                  rw[←hB5]at HO9
                                  have HT9:Aside (Touch [bb] WN B5):=by rw[hB5];exact hT4.out.trans (Touch.set1 _ _ _ _) (fun x hx=> .inl hx)
                                  have HB9:Aside (Below W.heap.size W B5):=HBn.out.trans (HT9.out.below HBn.out.size (fun x hx=>by simp at hx;subst hx;exact HAP.out.1))
                                  have hl9:xn<(setB n 0 (d.inside.take (i+1)) b).length:=by rw[setB_len,hbs.out.1];have:=HL.out;omega
                                  have hq5:B5.cell? ⟨bb,xn,none⟩=some (.int .i64 (b2i (bitI n i))):=by
                                    have h9:=ownsRow_at biC_len HO9.out (i:=xn) (x:=bitI n i) (by rw[←HST.out,List.getElem?_set_self hxl]) (j:=0) rfl
                                    simpa using h9
                                  obtain⟨b6,o6,hA6,_,y0,y1⟩:=(HR.out _ HB9.out).sp.at2 hs9 rfl
                                  obtain⟨a0,a1,a2,a3,a4,a5,a6,a7,a8⟩:=HS.out _ HB9.out
                                  have hA6':=Lib.hid hA6
                                  rw[hA6]at a0
                                  clear hA6 y0
                                  have hm9:IntKind.i64.wrap (b2i (bitI n i)*s9.phase)=if bitI n i=true then s9.phase else 0:=by rw[b2i_mul];exact IntWalk.i64_in _ (by split<;>omega)
                                  have hz9:0≤(if bitI n i=true then s9.phase else 0)∧(if bitI n i=true then s9.phase else 0)≤7:=by split<;>omega
                                  generalize (setB n 0 (d.inside.take i) b).getD xn false=old at hq1
                                  have hand:=i64_and1 ((n:Int) / 2 ^ i)
                                  rw[b2i_bit n i]at hand
                                  generalize (if bitI n i=true then s9.phase else 0)=z9 at hPT hm9 hz9
                                  generalize b2i (bitI n i)=y9 at *
                                  generalize d.phR n 0 (d.inside.take i)=p9 at *
                                  have HPT:=Lib.hid hPT
                                  have hw9:IntKind.i64.wrap (p9+z9)=p9+z9:=IntWalk.i64_in _ (by omega)
                                  generalize s9.phase=ph9 at *
                                  have hiz:(i:Int)≤64:=by omega
                                  have hxz:(xn:Int)<(v.n1:Int):=by have:=HL.out;omega
                                  have HAA:=Lib.hid hA3
                                  have HW5:=Lib.hid hB5
                                  clear hx hxl hx0 hx1 hxs hs9 hl9 hPT hO9 HRIi hB5
                                  rw[hA3]
                                  clear hA3
                                  go_upto_region 50 with fail
                                  rw[←HW5.out]
                                  clear hq1 q0 hfr hand
                                  go_quiet (fail)
                                  rename_i nq
                                  go_wp2_with fail
                                  rw[←HAA.out]
                                  go_roundg (il-(i+1))
                                  case measure=>omega
                                  case rel=>exact⟨i+1,by omega,Nat.le_refl _,(by go_simp<;>first|exact IntWalk.i64_in _ (by omega)|(clear hwi;go_num)),(by rw[HPT.out]),HT9.out.then_below (below_dN (Below.refl _ _) _),ownsRow_touch HO9.out (Touch.of_below (below_dN (Below.refl _ _) _)) (by simp)⟩
                                case neg=>
                                  have hltiz:¬(i:Int)<(il:Int):=by omega
                                  have htk:d.inside.take i=d.inside:=List.take_of_length_le (by rw[←HIL.out];omega)
                                  rw[htk]at hO4 hph
                                  rw[htk]
                                  obtain⟨bK,hbK⟩:∃bK,bK=setB n 0 d.inside b:=⟨_,rfl⟩
                                  rw[←hbK]at hO4
                                  have HOK4:=Lib.hid hO4.out
                                  have HBK:Aside (bK.length=v.n1):=by show _=_;rw[hbK,setB_len];exact hbs.out.1
                                  have HPR:Aside (d.prodR n d.inside bK=d.ln.foldl (d.lnR bK) (d.phR n 0 d.inside,true)):=rfl
                                  have HPH:Aside (0≤d.phR n 0 d.inside∧d.phR n 0 d.inside≤70):=by show _∧_;rw[htk]at hpl;omega
                                  have HE7:Aside (d.sumR d.inside M 0 b4 [0,0,0,0,0,0,0,0]=d.sumR d.inside (M-(n+1)) (n+1) bK (addS (d.prodR n d.inside bK) s)):=by
                                    show _=_
                                    rw[HE6.out,hbK]
                                  generalize d.phR n 0 d.inside=ph at *
                                  generalize d.prodR n d.inside bK=pr at HE7 HPR
                                  have HPK:=Lib.hid (hPk.out.touch hT4.out (by simp;exact HPP.out.1))
                                  have HT4b:=Lib.hid hT4.out
                                  have HTn4:Aside (Touch [bb,pb] WC wr):=HTn.out.trans (hT4.out.mono (fun x hx=> .inl (by simp at hx;simp[hx]))) (fun x hx=> .inl hx)
                                  clear hbK hph htk hpl hT4 hO4 hO hPk
                                  obtain⟨a0,a1,a2,a3,a4,a5,a6,a7,a8⟩:=HS.out _ HBi.out
                                  go_upto_region 54 with fail
                                  clear a0 a1 a2 a3 a4 a5 a6 a7 a8
                                  clear hi hg4 hltiz hlti
                                  rename World=>WL
                                  have HBL4:Aside (Below W.heap.size W WL):=HBi.out
                                  have HREL:=Lib.hid (HREE.out.touch (HTR.out.trans HTn4.out (S':=[bb,pb]) (fun x hx=>by simp at hx;rcases hx with h|h;exact .inl (by simp[h]);right;have h2:=HPP.out.2.2.2.2.1;have h3:=HRE2.out;omega)) (fun y hy a ha=>by simp at hy;subst hy;cases ha;exact HAP.out.2.1))
                                  clear HBi
                                  go_loopg [180,23,26] v.n2 (fun gg s180 s23 s26 wr=>∃(j:Nat) (qp:Int) (qb:Bool),j≤v.n2∧v.n2-j≤gg∧s180= .int .i64 j∧s23= .int .i64 qp∧s26= .bool qb∧Aside ((qp,qb)=(d.ln.take j).foldl (d.lnR bK) (ph,true))∧Aside (Below WL.heap.size WL wr))
                                  case atStart=>exact⟨0,ph,true,Nat.zero_le _,by omega,rfl,rfl,rfl,rfl,Below.refl _ _⟩
                                  case round=>
                                    obtain⟨j,qp,qb,hj,hg4,rfl,rfl,rfl,hq,hB⟩:=hrel
                                    have hqr:0≤qp∧qp≤470:=by
                                      have h9:=lnR_range d bK 0 ph true HPH.out.1 (d.ln.take j)
                                      rw[←hq.out]at h9
                                      have h8:=HPH.out
                                      have h7:(d.ln.take j).length≤100:=by rw[List.length_take];omega
                                      dsimp only at h9
                                      omega
                                    by_cases hltj:j<v.n2
                                    case pos=>
                                      have hltjz:(j:Int)<(v.n2:Int):=by omega
                                      obtain⟨l,hl⟩:=get_of (l:=d.ln) (n:=j) (by have:=HL.out;omega)
                                      obtain⟨⟨hf0,hf1⟩,ht0,ht1⟩:=HOK.out.ln l (List.mem_of_getElem? hl)
                                      obtain⟨lf,lt,lh⟩:=l
                                      obtain⟨f,rfl⟩:=Int.eq_ofNat_of_zero_le hf0
                                      obtain⟨t9,rfl⟩:=Int.eq_ofNat_of_zero_le ht0
                                      dsimp only at hf0 hf1 ht0 ht1
                                      have HBj:Aside (Below W.heap.size W wr):=HBL4.out.trans (hB.out.mono HBL4.out.size)
                                      obtain⟨b6,o6,hA6,_,r0,r1,r2⟩:=(HR.out _ HBj.out).ln.at3 hl rfl
                                      have HAA:=Lib.hid hA6
                                      obtain⟨u,hu⟩:∃u,u=wr.alloc (.cells #[.int .i64 f, .int .i64 t9, .bool lh] 77):=⟨_,rfl⟩
                                      have hlb:Blk u wr.heap.size [.int .i64 f, .int .i64 t9, .bool lh] 77:=by rw[hu];exact Blk.new _ _ _
                                      have HBu:Aside (Below WL.heap.size WL u):=by rw[hu];exact hB.out.alloc hB.out.size _
                                      have hou:=ownsRow_touch HOK4.out (Touch.of_below HBu.out) (by simp)
                                      have hfl:f<bK.length:=by rw[HBK.out];have:=HL.out;omega
                                      have htl:t9<bK.length:=by rw[HBK.out];have:=HL.out;omega
                                      have y1:u.cell? ⟨bb,f,none⟩=some (.int .i64 (b2i (bK.getD f false))):=by simpa using ownsRow_at biC_len hou (getD_of hfl false) (j:=0) rfl
                                      have y2:u.cell? ⟨bb,t9,none⟩=some (.int .i64 (b2i (bK.getD t9 false))):=by simpa using ownsRow_at biC_len hou (getD_of htl false) (j:=0) rfl
                                      obtain⟨b7,o7,hA7,_,y3⟩:=(HREL.out.below HBu.out).at1 (HEV.out j _ hl) rfl
                                      cases hA7
                                      rw[Nat.zero_add]at y3
                                      obtain⟨m0,m1,m2,mf⟩:=hlb.three
                                      have HF:Aside ((d.ln.take (j+1)).foldl (d.lnR bK) (ph,true)=d.lnR bK (qp,qb) ⟨f,t9,lh⟩):=by
                                        show _=_
                                        rw[foldl_take _ _ hl,←hq.out]
                                      unfold Diag.lnR at HF
                                      simp only[Int.toNat_natCast]at HF
                                      generalize d.bent ⟨f,t9,lh⟩=be at *
                                      have hb1:=b2i_range (bK.getD f false)
                                      have hb2:=b2i_range (bK.getD t9 false)
                                      have hm9:IntKind.i64.wrap (4*b2i (bK.getD f false)*b2i (bK.getD t9 false))=if bK.getD f false&&bK.getD t9 false then 4 else 0:=by rw[b2i_mul4];exact IntWalk.i64_in _ (by split<;>omega)
                                      have hz9:0≤(if (bK.getD f false&&bK.getD t9 false)=true then(4:Int) else 0)∧(if (bK.getD f false&&bK.getD t9 false)=true then(4:Int) else 0)≤4:=by split<;>omega
                                      have heq:=b2i_eq (bK.getD f false) (bK.getD t9 false)
                                      generalize (if (bK.getD f false&&bK.getD t9 false)=true then(4:Int) else 0)=z9 at *
                                      generalize (bK.getD f false==bK.getD t9 false)=eq9 at *
                                      generalize b2i (bK.getD f false)=v1 at *
                                      generalize b2i (bK.getD t9 false)=v2 at *
                                      have hw4:IntKind.i64.wrap (4*v1)=4*v1:=IntWalk.i64_in _ (by omega)
                                      have hw9:IntKind.i64.wrap (qp+z9)=qp+z9:=IntWalk.i64_in _ (by omega)
                                      have hfz:(f:Int)<(v.n1:Int):=by have:=HL.out;omega
                                      have htz:(t9:Int)<(v.n1:Int):=by have:=HL.out;omega
                                      obtain⟨a0,a1,a2,a3,a4,a5,a6,a7,a8⟩:=HS.out _ HBj.out
                                      have HU:=Lib.hid hu
                                      clear hu hlb hou hfl htl hl hf0 ht0 hf1 ht1 m2 mf hqr
                                      rw[hA6]
                                      rw[hA6]at a1
                                      clear hA6
                                      have HQB:Aside (qb=qb):=rfl
                                      cases be
                                      case true=>
                                        rw[if_pos rfl]at HF
                                        go_upto_region 56 with fail
                                        rw[←HU.out]
                                        clear r0 r1 r2 a0 a1 a2 a3 a4 a5 a6 a7 a8
                                        go_wp2_with fail
                                        go_quiet (fail)
                                        rename_i nq
                                        go_wp2_with fail
                                        rw[←HAA.out]
                                        go_roundg (v.n2-(j+1))
                                        case measure=>omega
                                        case rel=>exact⟨j+1,qp+z9,qb,by omega,Nat.le_refl _,(by go_simp<;>first|exact IntWalk.i64_in _ (by omega)|(clear hwi;go_num)),rfl,rfl,HF.out.symm,below_dN HBu.out _⟩
                                      case false=>
                                        rw[if_neg (by decide)]at HF
                                        cases qb
                                        case true=>
                                          rw[Bool.true_and]at HF
                                          go_upto_region 56 with fail
                                          rw[←HU.out]
                                          clear r0 r1 r2 a0 a1 a2 a3 a4 a5 a6 a7 a8
                                          go_wp2_with fail
                                          go_quiet (fail)
                                          rename_i nq
                                          go_wp2_with fail
                                          rw[←HAA.out]
                                          go_roundg (v.n2-(j+1))
                                          case measure=>omega
                                          case rel=>exact⟨j+1,qp,eq9,by omega,Nat.le_refl _,(by go_simp<;>first|exact IntWalk.i64_in _ (by omega)|(clear hwi;go_num)),rfl,rfl,HF.out.symm,below_dN HBu.out _⟩
                                        case false=>
                                          rw[Bool.false_and]at HF
                                          go_upto_region 56 with fail
                                          rw[←HU.out]
                                          clear r0 r1 r2 a0 a1 a2 a3 a4 a5 a6 a7 a8
                                          go_wp2_with fail
                                          go_quiet (fail)
                                          rename_i nq
                                          go_wp2_with fail
                                          rw[←HAA.out]
                                          go_roundg (v.n2-(j+1))
                                          case measure=>omega
                                          case rel=>exact⟨j+1,qp,false,by omega,Nat.le_refl _,(by go_simp<;>first|exact IntWalk.i64_in _ (by omega)|(clear hwi;go_num)),rfl,rfl,HF.out.symm,below_dN HBu.out _⟩
                                    case neg=>
                                      have hltjz:¬(j:Int)<(v.n2:Int):=by omega
                                      have htk:d.ln.take j=d.ln:=List.take_of_length_le (by have:=HL.out;omega)
                                      have hpq:(qp,qb)=pr:=by rw[hq.out,htk,HPR.out]
                                      have HE8:Aside (d.sumR d.inside M 0 b4 [0,0,0,0,0,0,0,0]=d.sumR d.inside (M-(n+1)) (n+1) bK (addS (qp,qb) s)):=by
                                        show _=_
                                        rw[HE7.out,hpq]
                                      have HPK2:=Lib.hid (HPK.out.below hB.out)
                                      have HOK5:=Lib.hid (ownsRow_touch HOK4.out (Touch.of_below hB.out) (by simp))
                                      have HTn5:Aside (Touch [bb,pb] WP wr):=(hT.out.trans HT4b.out (fun x hx=> .inl (by simp at hx;simp[hx]))).then_below hB.out
                                      clear hpq htk hj hg4 hltj hq hB
                                      cases qb
                                      case false=>
                                        have HE9:Aside (d.sumR d.inside M 0 b4 [0,0,0,0,0,0,0,0]=d.sumR d.inside (M-(n+1)) (n+1) bK s):=HE8.out
                                        go_wp2_with fail
                                        go_roundg (M-(n+1))
                                        case measure=>omega
                                        case rel=>exact⟨n+1,bK,s,by omega,Nat.le_refl _,(by go_simp<;>first|exact IntWalk.i64_in _ (by omega)|(clear hwi;go_num)),⟨HBK.out,hbs.out.2.1,fun x hx=>by have:=hbs.out.2.2 x hx;omega⟩,HTn5.out,HOK5.out,HPK2.out,HE9.out⟩
                                      case true=>
                                        obtain⟨pn,rfl⟩:=Int.eq_ofNat_of_zero_le hqr.1
                                        obtain⟨jn,hjn⟩:∃jn,jn=pn%8:=⟨_,rfl⟩
                                        have htm:Int.tmod (pn:Int) 8=(jn:Int):=by rw[hjn];rfl
                                        have hj8:jn<8:=by omega
                                        have hjz:(jn:Int)<8:=by omega
                                        have hsl:jn<s.length:=by rw[hbs.out.2.1];exact hj8
                                        have HE9:Aside (d.sumR d.inside M 0 b4 [0,0,0,0,0,0,0,0]=d.sumR d.inside (M-(n+1)) (n+1) bK (s.set jn (s.getD jn 0+1))):=by
                                          show _=_
                                          rw[HE8.out]
                                          unfold addS
                                          rw[if_pos rfl]
                                          have e:((pn:Int)%8).toNat=jn:=by omega
                                          rw[e]
                                        have hso:=getD_of hsl 0
                                        have hsr:=hbs.out.2.2 _ (List.mem_of_getElem? hso)
                                        have y0:=HPK2.out.cell jn (.int .i64 (s.getD jn 0)) (by rw[List.getElem?_map,hso];rfl)
                                        have yf:=HPK2.out.free jn
                                        have HP6:=HPK2.out.set jn (.int .i64 (s.getD jn 0+1))
                                        rw[show (s.map int1).set jn (.int .i64 (s.getD jn 0+1))=(s.set jn (s.getD jn 0+1)).map int1 by rw[List.map_set]]at HP6
                                        have HP6:=Lib.hid HP6
                                        have HRN:Aside ((s.set jn (s.getD jn 0+1)).length=8∧∀x∈s.set jn (s.getD jn 0+1),0≤x∧x≤((n+1:Nat):Int)):=by
                                          refine⟨by rw[List.length_set];exact hbs.out.2.1,fun x hx=>?_⟩
                                          rcases List.mem_or_eq_of_mem_set hx with h1|h1
                                          · have:=hbs.out.2.2 x h1;omega
                                          · omega
                                        generalize s.getD jn 0=old at *
                                        have hw9:IntKind.i64.wrap (old+1)=old+1:=IntWalk.i64_in _ (by omega)
                                        clear hso hsr hsl hjn hqr
                                        go_wp2_with fail
                                        go_roundg (M-(n+1))
                                        case measure=>omega
                                        case rel=>exact⟨n+1,bK,_,by omega,Nat.le_refl _,(by go_simp<;>first|exact IntWalk.i64_in _ (by omega)|(clear hwi;go_num)),⟨HBK.out,HRN.out⟩,HTn5.out.trans (Touch.set1 _ _ _ _) (fun x hx=> .inl (by simp at hx;simp[hx])),ownsRow_touch HOK5.out (Touch.set1 _ _ _ _) (fun b' hb hm=>by cases hb;simp at hm;exact HPP.out.1 hm.symm),HP6.out,HE9.out⟩
                            case neg=>
                              have hltnz:¬(n:Int)<(M:Int):=by omega
                              have HEF:Aside (d.sumR d.inside M 0 b4 [0,0,0,0,0,0,0,0]=(b,s)):=by
                                show _=_
                                rw[hE5.out,show M-n=0 by omega]
                                rfl
                              have HCE:Aside (d.cellR c b2=(b,d.sc.sharesR (s.getD 0 0) (s.getD 1 0) (s.getD 2 0) (s.getD 3 0) (s.getD 4 0) (s.getD 5 0) (s.getD 6 0) (s.getD 7 0) (rt:Int))):=by
                                show _=_
                                unfold Diag.cellR
                                rw[HMM.out,←HB4.out,HEF.out,HRT.out]
                              have hM1024:(n:Int)≤1024:=by omega
                              have HTw:Aside (Touch [bb] WC wr):=HTP.out.trans hT.out (fun x hx=>by simp at hx;rcases hx with h|h;exact .inl (by simp[h]);right;have h2:=HPP.out.2.2.2.2.1;omega)
                              have HXw:Aside (wr.ownsRow WC.heap.size 26 5 (.slice LA ln lc) ln (xs.flatMap numC)):=ownsRow_touch HXP.out hT.out (fun b' hb hm=>by have h1:=HLP.out _ (ownBlock_ownB hb);have h2:=HPP.out;simp at hm;omega)
                              have HOw:=Lib.hid hO.out
                              have HBL5:Aside (b.length=v.n1):=hbs.out.1
                              match s,hbs,hPk,HCE with
                              |[],hbs,_,_=>exact absurd hbs.out.2.1 (by simp)
                              |[_],hbs,_,_=>exact absurd hbs.out.2.1 (by simp)
                              |[_,_],hbs,_,_=>exact absurd hbs.out.2.1 (by simp)
                              |[_,_,_],hbs,_,_=>exact absurd hbs.out.2.1 (by simp)
                              |[_,_,_,_],hbs,_,_=>exact absurd hbs.out.2.1 (by simp)
                              |[_,_,_,_,_],hbs,_,_=>exact absurd hbs.out.2.1 (by simp)
                              |[_,_,_,_,_,_],hbs,_,_=>exact absurd hbs.out.2.1 (by simp)
                              |[_,_,_,_,_,_,_],hbs,_,_=>exact absurd hbs.out.2.1 (by simp)
                              |_::_::_::_::_::_::_::_::_::_,hbs,_,_=>exact absurd hbs.out.2.1 (by simp)
                              | [s0,s1,s2,s3,s4,s5,s6,s7],hbs,hPk,HCE=>
                                as_aux_lemma=>
                                have HCE:Aside (d.cellR c b2=(b,(d.sc.mulX (Num.form ⟨s0-s4,s1-s5,s2-s6,s3-s7,rt⟩)).form.right)):=HCE.out
                                have hsr:∀x∈[s0,s1,s2,s3,s4,s5,s6,s7],0≤x∧x≤1024:=fun x hx=>by have h9:=hbs.out.2.2 x hx;omega
                                obtain⟨q0,q1,q2,q3,q4,q5,q6,q7⟩:((0≤s0∧s0≤1024)∧(0≤s1∧s1≤1024)∧(0≤s2∧s2≤1024)∧(0≤s3∧s3≤1024)∧(0≤s4∧s4≤1024)∧(0≤s5∧s5≤1024)∧(0≤s6∧s6≤1024)∧0≤s7∧s7≤1024):=by simpa using hsr
                                have hBd:Bd 1024 (s0-s4) (s1-s5) (s2-s6) (s3-s7):=by unfold Bd;omega
                                have H58:Aside (∀u:World,Calls Tryz.prog 58 #[.agg #[.int .i64 (s0-s4), .int .i64 (s1-s5), .int .i64 (s2-s6), .int .i64 (s3-s7), .int .i64 rt]] u fun e w'=>e= .returned (numV (Num.form ⟨s0-s4,s1-s5,s2-s6,s3-s7,rt⟩))∧Below u.heap.size u w'):=by
                                  intro u
                                  refine(form58 (s0-s4) (s1-s5) (s2-s6) (s3-s7) rt u (by omega) (by unfold Bd at *;omega)).mono ?_
                                  rintro e w' ⟨a',b',c',d',k',he,⟨hf,_⟩,hb⟩
                                  rw[hf]
                                  exact⟨he,hb⟩
                                obtain⟨hfb,hfk0,hfk⟩:=Num.bd_form (m:=1024) (x:=⟨s0-s4,s1-s5,s2-s6,s3-s7,rt⟩) (by omega) (Int.natCast_nonneg _) hBd
                                generalize Num.form ⟨s0-s4,s1-s5,s2-s6,s3-s7,rt⟩=xf at *
                                have hscc:=HOK.out.sc
                                obtain⟨hk0,hk60,hbig⟩:=Num.check_zero.1 hscc
                                have hbg:(-1073741824≤d.sc.a∧d.sc.a≤1073741824)∧(-1073741824≤d.sc.b∧d.sc.b≤1073741824)∧(-1073741824≤d.sc.c∧d.sc.c≤1073741824)∧(-1073741824≤d.sc.d∧d.sc.d≤1073741824):=by
                                  have hb0:¬(1073741824<d.sc.a∨d.sc.a< -1073741824∨1073741824<d.sc.b∨d.sc.b< -1073741824∨1073741824<d.sc.c∨d.sc.c< -1073741824∨1073741824<d.sc.d∨d.sc.d< -1073741824):=fun h=>(Bool.eq_false_iff.1 hbig) ((Num.big_iff d.sc).2 h)
                                  omega
                                have H57:Aside (∀u:World,Calls Tryz.prog 57 #[numV d.sc,numV xf] u fun e w'=>e= .returned (numV (d.sc.mulX xf).form)∧Below u.heap.size u w'):=by
                                  intro u
                                  refine product57 d.sc xf u ?_ (by omega) (by dsimp only at hfk;omega)
                                  intro p hp q hq
                                  have hp1:-1073741824≤p∧p≤1073741824:=by simp at hp;rcases hp with h|h|h|h<;>(rw[h];omega)
                                  have hq1:-1024≤q∧q≤1024:=by
                                    obtain⟨f1,f2,f3,f4,f5,f6,f7,f8⟩:=hfb
                                    simp at hq;rcases hq with h|h|h|h<;>(rw[h];exact⟨by assumption,by assumption⟩)
                                  have:=mul_bd hp1 hq1
                                  omega
                                clear hfb hfk0 hfk hscc hk0 hk60 hbig hbg hBd
                                have H56:Aside (∀u:World,Calls Tryz.prog 56 #[numV (d.sc.mulX xf).form] u fun e w'=>e= .returned (.tuple #[numV (d.sc.mulX xf).form.right.1, .int .i64 (d.sc.mulX xf).form.right.2])∧Below u.heap.size u w'):=by
                                  intro u
                                  refine(right56 _ _ _ _ _ u).mono ?_
                                  rintro e w' ⟨rfl,hb⟩
                                  refine⟨?_,hb⟩
                                  unfold Num.right
                                  split<;>rfl
                                generalize (d.sc.mulX xf).form=yf at *
                                generalize yf.right=yr at *
                                obtain⟨y,er⟩:=yr
                                obtain⟨ya,yb,yc,yd,yk⟩:=y
                                have y0:=hPk.out.cell 0 _ rfl
                                have y1:=hPk.out.cell 1 _ rfl
                                have y2:=hPk.out.cell 2 _ rfl
                                have y3:=hPk.out.cell 3 _ rfl
                                have y4:=hPk.out.cell 4 _ rfl
                                have y5:=hPk.out.cell 5 _ rfl
                                have y6:=hPk.out.cell 6 _ rfl
                                have y7:=hPk.out.cell 7 _ rfl
                                clear hsr hE5 hT hO hPk hbs HEF
                                go_upto_region 63 with fail
                                clear y0 y1 y2 y3 y4 y5 y6 y7 hltnz hltn hg3 hn
                                obtain⟨W6,hW6⟩:∃W6,W6=wr.alloc (.cells #[.int .i64 (s0-s4), .int .i64 (s1-s5), .int .i64 (s2-s6), .int .i64 (s3-s7), .int .i64 rt] 26):=⟨_,rfl⟩
                                have hxb:Blk W6 wr.heap.size [.int .i64 (s0-s4), .int .i64 (s1-s5), .int .i64 (s2-s6), .int .i64 (s3-s7), .int .i64 rt] 26:=by rw[hW6];exact Blk.new _ _ _
                                have hB6:Below wr.heap.size wr W6:=by rw[hW6];exact(Below.refl _ _).alloc (Nat.le_refl _) _
                                have HB6W:Aside (Below W.heap.size W W6):=HBn.out.trans (hB6.mono HBn.out.size)
                                have HT6:Aside (Touch [bb] WC W6):=HTw.out.then_below hB6
                                have HX6:=Lib.hid (ownsRow_touch HXw.out (Touch.of_below hB6) (by simp))
                                have HO6:=Lib.hid (ownsRow_touch HOw.out (Touch.of_below hB6) (by simp))
                                rw[←hW6]
                                clear hW6 hB6
                                generalize wr.heap.size=xb at *
                                have HC6:Aside (∀u,Below W6.heap.size W6 u→u.cell? ⟨w.heap.size,4,none⟩=some (.int .i64 d.sc.a)∧u.cell? ⟨w.heap.size,5,none⟩=some (.int .i64 d.sc.b)∧u.cell? ⟨w.heap.size,6,none⟩=some (.int .i64 d.sc.c)∧u.cell? ⟨w.heap.size,7,none⟩=some (.int .i64 d.sc.d)∧u.cell? ⟨w.heap.size,8,none⟩=some (.int .i64 d.sc.k)∧u.cell? ⟨xb,0,none⟩=some (.int .i64 (s0-s4))∧u.cell? ⟨xb,1,none⟩=some (.int .i64 (s1-s5))∧u.cell? ⟨xb,2,none⟩=some (.int .i64 (s2-s6))∧u.cell? ⟨xb,3,none⟩=some (.int .i64 (s3-s7))∧u.cell? ⟨xb,4,none⟩=some (.int .i64 rt)):=by
                                  intro u hu
                                  obtain⟨_,_,_,_,z4,z5,z6,z7,z8⟩:=HS.out u (HB6W.out.trans (hu.mono HB6W.out.size))
                                  obtain⟨x0,x1,x2,x3,x4,_⟩:=(hxb.below hu).five
                                  exact⟨z4,z5,z6,z7,z8,x0,x1,x2,x3,x4⟩
                                clear hxb
                                have hrt0:(0:Int)≤rt:=Int.natCast_nonneg _
                                refine wp_region_FX [(30,2),(247,9)] (fun l x u=>Below W6.heap.size W6 u∧(l 9=true→l 10=false→∃q,x 30= .pointer (some ⟨q,0,none⟩)∧W6.heap.size≤q∧Blk u q [.int .i64 0, .int .i64 0, .int .i64 0, .int .i64 0, .int .i64 0] 26)∧(l 10=true→∃q,x 30= .pointer (some ⟨q,0,none⟩)∧W6.heap.size≤q∧Blk u q [.int .i64 ya, .int .i64 yb, .int .i64 yc, .int .i64 yd, .int .i64 yk] 26)) (fun i u u'=>True) (fun j x u=>match j with|0=>x 248= .pointer (some ⟨w.heap.size,4,none⟩)|1=>x 249=numV d.sc|2=>x 250= .agg #[.int .i64 (s0-s4), .int .i64 (s1-s5), .int .i64 (s2-s6), .int .i64 (s3-s7), .int .i64 rt]|3=>x 251=numV xf|4=>x 252=numV yf|5=>x 253= .tuple #[.agg #[.int .i64 ya, .int .i64 yb, .int .i64 yc, .int .i64 yd, .int .i64 yk], .int .i64 er]|6=>x 247= .tuple #[.agg #[.int .i64 ya, .int .i64 yb, .int .i64 yc, .int .i64 yd, .int .i64 yk], .int .i64 er]|7=>x 254= .agg #[.int .i64 ya, .int .i64 yb, .int .i64 yc, .int .i64 yd, .int .i64 yk]|8=>x 255= .int .i64 er|11=>x 31= .int .i64 er|_=>True) ?h0 ?hkeep ?hstep ?hend
                                case h0=>exact⟨(Below.refl _ _).drew,fun h=>by simp at h,fun h=>by simp at h⟩
                                case hkeep=>
                                  intro j i x l u u' hj hi hpre ht hG hR
                                  exact ht
                                case hstep=>
                                  dsimp only[fil,fls,fl,List.toList_toArray,Nat.reduceAdd]
                                  refine⟨?_,?c1,?c2,?c3,?c4,?c5,?_,?_,?_,?c9,?c10,?_,trivial⟩
                                  all_goals intro l x u hG hno hli hpre hd K hK
                                  case c3=>
                                    have e2:x 250= .agg #[.int .i64 (s0-s4), .int .i64 (s1-s5), .int .i64 (s2-s6), .int .i64 (s3-s7), .int .i64 rt]:=hd ⟨2, .data⟩ (by simp) rfl
                                    clear hd
                                    simp only[e2]at hK ⊢
                                    go_simp
                                    (with_reducible refine(H58.out u).mono ?_);rintro e u2 ⟨rfl,hb⟩
                                    exact hK _ _ rfl trivial ⟨below_then hG.1 hb,fun h1 h2=>by
                                      obtain⟨q,h3,h4,h5⟩:=hG.2.1 (by simpa using h1) (by simpa using h2)
                                      exact⟨q,by simpa [updV] using h3,h4,h5.below hb⟩,fun h=>by simp[hno 10 (by kernel_rfl)]at h⟩
                                  case c4=>
                                    have e1:x 249=numV d.sc:=hd ⟨1, .data⟩ (by simp) rfl
                                    have e3:x 251=numV xf:=hd ⟨3, .data⟩ (by simp) rfl
                                    clear hd
                                    simp only[e1,e3]at hK ⊢
                                    go_simp
                                    (with_reducible refine(H57.out u).mono ?_);rintro e u2 ⟨rfl,hb⟩
                                    exact hK _ _ rfl trivial ⟨below_then hG.1 hb,fun h1 h2=>by
                                      obtain⟨q,h3,h4,h5⟩:=hG.2.1 (by simpa using h1) (by simpa using h2)
                                      exact⟨q,by simpa [updV] using h3,h4,h5.below hb⟩,fun h=>by simp[hno 10 (by kernel_rfl)]at h⟩
                                  case c5=>
                                    have e4:x 252=numV yf:=hd ⟨4, .data⟩ (by simp) rfl
                                    clear hd
                                    simp only[e4]at hK ⊢
                                    go_simp
                                    (with_reducible refine(H56.out u).mono ?_);rintro e u2 ⟨rfl,hb⟩
                                    exact hK _ _ rfl trivial ⟨below_then hG.1 hb,fun h1 h2=>by
                                      obtain⟨q,h3,h4,h5⟩:=hG.2.1 (by simpa using h1) (by simpa using h2)
                                      exact⟨q,by simpa [updV] using h3,h4,h5.below hb⟩,fun h=>by simp[hno 10 (by kernel_rfl)]at h⟩
                                  case c9=>
                                    clear hd
                                    go_simp
                                    exact hK _ _ trivial trivial ⟨hG.1.alloc hG.1.size _,fun _ _=>⟨_,by simp[updV],hG.1.size,Blk.new _ _ _⟩,fun h=>by simp[hno 10 (by kernel_rfl)]at h⟩
                                  case c10=>
                                    have e7:x 254= .agg #[.int .i64 ya, .int .i64 yb, .int .i64 yc, .int .i64 yd, .int .i64 yk]:=hd ⟨7, .data⟩ (by simp) rfl
                                    clear hd
                                    simp only[e7]at hK ⊢
                                    obtain⟨q,h30,hq,hB⟩:=hG.2.1 (hpre 9 (by kernel_rfl)) hli
                                    simp only[h30]at hK ⊢
                                    obtain⟨c0,c1,c2,c3,c4,cf⟩:=hB.five
                                    go_simp
                                    exact hK undef _ trivial trivial ⟨below_set5 hG.1 hq _ _ _ _ _,fun _ h=>by simp at h,fun _=>⟨q,rfl,hq,hB.set5 _ _ _ _ _⟩⟩
                                  case c1|c2=>
                                    dsimp only at hd;simp only[eB]at hd
                                    try simp only[hd]at hK ⊢
                                    obtain⟨c4,c5,c6,c7,c8,x0,x1,x2,x3,x4⟩:=HC6.out u hG.1
                                    go_simp
                                    exact hK _ _ rfl trivial (by simpa [updV] using hG)
                                  all_goals
                                    dsimp only at hd;simp only[eB]at hd
                                    try simp only[hd]at hK ⊢
                                    go_simp
                                    exact hK _ _ rfl trivial (by simpa [updV] using hG)
                                case hend=>
                                  dsimp only[fil,fls,fl,List.toList_toArray,Nat.reduceAdd]
                                  rintro l x u hall hG ⟨_,_,_,_,_,_,_,_,_,_,_,e11,_⟩
                                  obtain⟨q,h30,hq,hBq⟩:=hG.2.2 (hall 10 (by decide))
                                  have HBu:=Lib.hid hG.1
                                  clear hall hG
                                  generalize x 31=z31 at e11 ⊢
                                  subst e11
                                  generalize x 30=z30 at h30 ⊢
                                  subst h30
                                  generalize x=xx0
                                  have HTu:Aside (Touch [bb] WC u):=HT6.out.then_below HBu.out
                                  have HXu:Aside (u.ownsRow WC.heap.size 26 5 (.slice LA ln lc) ln (xs.flatMap numC)):=ownsRow_touch HX6.out (Touch.of_below HBu.out) (by simp)
                                  have HOu:Aside (u.ownsRow W.heap.size 3 1 (.slice (some ⟨bb,0,none⟩) v.n1 v.n1) v.n1 (b.flatMap biC)):=ownsRow_touch HO6.out (Touch.of_below HBu.out) (by simp)
                                  by_cases her:er=0
                                  case neg=>
                                    have her1:(er != 0)=true:=by simpa using her
                                    have HE7:Aside (d.meaningR=([],er)):=by
                                      have h9:=HE4.out
                                      rw[HCE.out]at h9
                                      dsimp only at h9
                                      rw[if_neg her]at h9
                                      show _=_
                                      rw[HE2.out,h9]
                                      dsimp only
                                      rw[if_neg her]
                                    clear her
                                    go_wp2_with fail
                                    refine bodyPost_ret (v:= .tuple #[.slice none 0 0, .int .i64 er]) (by simp[results,Tryz.results14,go_sem]) rfl ?_
                                    rw[HE7.out]
                                    exact⟨none,0,0,[],rfl,RowsRd.nil _,HBW.out.trans ((HB6W.out.trans (HBu.out.mono HB6W.out.size)).mono HBW.out.size)⟩
                                  case pos=>
                                    subst her
                                    have HE7:Aside (d.meanRR C 0 bo []=d.meanRR (C-(c+1)) (c+1) b (xs++[⟨ya,yb,yc,yd,yk⟩])):=by
                                      show _=_
                                      rw[HE4.out,HCE.out]
                                      rfl
                                    obtain⟨y0,y1,y2,y3,y4,yf9⟩:=hBq.five
                                    have hb8:Below u.heap.size u (u.alloc (.cells #[.int .i64 ya, .int .i64 yb, .int .i64 yc, .int .i64 yd, .int .i64 yk] 26)):=(Below.refl _ _).alloc (Nat.le_refl _) _
                                    have HT8:Aside (Touch [bb] WC (u.alloc (.cells #[.int .i64 ya, .int .i64 yb, .int .i64 yc, .int .i64 yd, .int .i64 yk] 26))):=HTu.out.then_below hb8
                                    have HX8:Aside ((u.alloc (.cells #[.int .i64 ya, .int .i64 yb, .int .i64 yc, .int .i64 yd, .int .i64 yk] 26)).ownsRow WC.heap.size 26 5 (.slice LA ln lc) ln (xs.flatMap numC)):=ownsRow_touch HXu.out (Touch.of_below hb8) (by simp)
                                    have HR8:Aside (Rd 5 numC (u.alloc (.cells #[.int .i64 ya, .int .i64 yb, .int .i64 yc, .int .i64 yd, .int .i64 yk] 26)) (some ⟨u.heap.size,0,none⟩) 1 [(⟨ya,yb,yc,yd,yk⟩:Num)]):=Rd.one (Blk.new _ _ _)
                                    have HO8:Aside ((u.alloc (.cells #[.int .i64 ya, .int .i64 yb, .int .i64 yc, .int .i64 yd, .int .i64 yk] 26)).ownsRow W.heap.size 3 1 (.slice (some ⟨bb,0,none⟩) v.n1 v.n1) v.n1 (b.flatMap biC)):=ownsRow_touch HOu.out (Touch.of_below hb8) (by simp)
                                    clear hBq hb8
                                    go_upto_region 35 with (at_builtin;(refine wpList_append_rows rfl (.tmp 259) (.tmp 261) 78 rfl 26 5 _ 40 inf26 Tryz.underlying78 rfl (by decide) numC_len numC_one (by decide) WC.heap.size _ _ _ rfl _ HX8.out _ _ _ rfl (fun h=>nomatch h) [(⟨ya,yb,yc,yd,yk⟩:Num)] HR8.out (by omega) (by decide) HT8.out.size ?_)
                                                            intro v9 w9 hAp
                                                            obtain⟨A',c',rfl,hown,htch,hnb⟩:=hAp
                                                            have HOW:=Lib.hid hown
                                                            have HT9:Aside (Touch [bb] WC w9):=HT8.out.trans htch (fun x hx=> .inr (ownsRow_lt HX8.out x hx).1)
                                                            have HO9:Aside (w9.ownsRow W.heap.size 3 1 (.slice (some ⟨bb,0,none⟩) v.n1 v.n1) v.n1 (b.flatMap biC)):=ownsRow_touch HO8.out htch (fun b hb hm=>by cases hb;have h1:WC.heap.size≤bb:=(ownsRow_lt HX8.out _ hm).1;have h2:=HPP.out.2.2.2.2.2;omega)
                                                            clear hown htch hnb)
                                    go_wp2_with fail
                                    go_roundg (C-(c+1))
                                    case measure=>omega
                                    case rel=>exact⟨c+1,b,xs++[(⟨ya,yb,yc,yd,yk⟩:Num)],A',ln+1,c',by omega,Nat.le_refl _,(by go_simp<;>first|exact IntWalk.i64_in _ (by omega)|(clear hwi;go_num)),rfl,(by show _=_;rw[hln.out]),HBL5.out,HT9.out,HO9.out,HOW.out,HE7.out⟩
                    case neg=>
                      have hltcz:¬(c:Int)<(C:Int):=by omega
                      have hE9:=hE3.out
                      have hcC:c=C:=by omega
                      rw[hcC,Nat.sub_self]at hE9
                      have HEM:Aside (d.meanRR C 0 bo []=(b2,xs,0)):=hE9
                      have HE5:Aside (d.meaningR=d.meanLR (P-(r+1)) (r+1) b2 (rows++[xs])):=by
                        show _=_
                        rw[HE2.out,HEM.out]
                        rfl
                      have HOR:Aside (on≤64):=by have:=hon.out;show _≤_;omega
                      have hon64:on≤64:=HOR.out
                      clear hE9 hcC
                      have hb8:Below wr.heap.size wr (wr.alloc (.cells #[.slice LA ln lc] 78)):=(Below.refl _ _).alloc (Nat.le_refl _) _
                      have HRW:Aside (RowsO W0.heap.size (wr.alloc (.cells #[.slice LA ln lc] 78)) OA on oc hvs rows):=HRO2.out.touch (hT2.out.then_below hb8) (by intro b hb;simp at hb;subst hb;exact HAP.out.2.2.2.1)
                      have HR8:Aside (Rd 1 hvC (wr.alloc (.cells #[.slice LA ln lc] 78)) (some ⟨wr.heap.size,0,none⟩) 1 [(⟨LA,ln,lc⟩:HV)]):=Rd.one (Blk.new _ _ _)
                      have HX8:Aside ((wr.alloc (.cells #[.slice LA ln lc] 78)).ownsRow WC.heap.size 26 5 (.slice LA ln lc) ln (xs.flatMap numC)):=ownsRow_touch hX.out (Touch.of_below hb8) (by simp)
                      have HT8:Aside (Touch [bb] W0 (wr.alloc (.cells #[.slice LA ln lc] 78))):=(HTR.out.trans hT2.out (fun x hx=> .inl hx)).then_below hb8
                      have HO8:Aside ((wr.alloc (.cells #[.slice LA ln lc] 78)).ownsRow W.heap.size 3 1 (.slice (some ⟨bb,0,none⟩) v.n1 v.n1) v.n1 (b2.flatMap biC)):=ownsRow_touch hO2.out (Touch.of_below hb8) (by simp)
                      have HLA:Aside (∀a,LA=some a→W0.heap.size≤a.block∧a.block<(wr.alloc (.cells #[.slice LA ln lc] 78)).heap.size∧a.block∉ownB OA):=by
                        intro a ha
                        have h1:=ownsRow_lt HX8.out a.block (by rw[ha];simp[ownB])
                        have h2:=HRE2.out
                        refine⟨by omega,h1.2,fun hm=>?_⟩
                        have h3:=(ownsRow_lt HRO2.out.own _ hm).2
                        omega
                      clear hb8
                      go_upto_region 26 with (at_builtin;(refine wpList_append_rows rfl (.tmp 263) (.tmp 265) 32 rfl 78 1 _ 24 inf78 Tryz.underlying32 rfl (by decide) hvC_len hvC_one (by decide) W0.heap.size _ _ _ rfl _ HRW.out.own _ _ _ rfl (fun h=>nomatch h) [(⟨LA,ln,lc⟩:HV)] HR8.out (by omega) (by decide) HT8.out.size ?_)
                                              intro v9 w9 hAp
                                              obtain⟨A',c',rfl,hown,htch,hnb⟩:=hAp
                                              have HRN:Aside (RowsO W0.heap.size w9 A' (on+1) c' (hvs++[⟨LA,ln,lc⟩]) (rows++[xs])):=HRW.out.add (y:=⟨LA,ln,lc⟩) (Rd.owned (by decide) numC_len HX8.out) HLA.out hown htch hnb
                                              have HT9:Aside (Touch [bb] W0 w9):=HT8.out.trans htch (fun x hx=> .inr (ownsRow_lt HRW.out.own x hx).1)
                                              have HO9:Aside (w9.ownsRow W.heap.size 3 1 (.slice (some ⟨bb,0,none⟩) v.n1 v.n1) v.n1 (b2.flatMap biC)):=ownsRow_touch HO8.out htch (fun b hb hm=>by cases hb;have h1:W0.heap.size≤bb:=(ownsRow_lt HRW.out.own _ hm).1;have h2:=HAP.out.2.2.2.1;omega)
                                              clear hown htch hnb)
                      go_wp2_with fail
                      go_roundg (P-(r+1))
                      case measure=>omega
                      case rel=>exact⟨r+1,b2,hvs++[(⟨LA,ln,lc⟩:HV)],rows++[xs],A',on+1,c',by omega,Nat.le_refl _,(by go_simp<;>first|exact IntWalk.i64_in _ (by omega)|(clear hwi;go_num)),rfl,(by show _=_;rw[hon.out]),hbL2.out,HT9.out,HO9.out,HRN.out,HE5.out⟩
            case neg=>
              have hltz:¬(r:Int)<(P:Int):=by omega
              have hrp:Aside (r=P):=by show _=_;omega
              go_wp2_with fail
              refine bodyPost_ret (v:= .tuple #[.slice OA on oc, .int .i64 0]) (by simp[results,Tryz.results14,go_sem]) rfl ?_
              have hE9:=hE.out
              rw[hrp.out,Nat.sub_self]at hE9
              have hme:d.meaningR=(rows,0):=hE9
              rw[hme]
              exact⟨OA,on,oc,hvs,rfl,hRO.out.rdr,HBW.out.trans (HBr.out.mono HBW.out.size)⟩
end Go.Proofs.YtcoackmdmohnhaaGreatDoor
