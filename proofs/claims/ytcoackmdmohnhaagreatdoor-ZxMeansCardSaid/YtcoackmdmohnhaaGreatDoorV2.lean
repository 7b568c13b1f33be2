/- Contracts of functions, and plain lemmas; each theorem's conditions stand in its statement. -/
import Derived.Test.YtcoackmdmohnhaaGreatDoorV1
set_option linter.unusedVariables false
set_option linter.unusedSimpArgs false
set_option maxRecDepth 100000
set_option maxHeartbeats 8000000
namespace Go.Proofs.YtcoackmdmohnhaaGreatDoor
section
open Go.RowKit Go.Shelf
variable {α:Type}
@[go_sem] theorem eq161 (a b c d a' b' c' d':Int) (w:World):(Op.equalIn 10000 161 (.agg #[a,b,c,d]) (.agg #[a',b',c',d'])).run Tryz.prog w= .ok (a==a'&&b==b'&&c==c'&&d==d') w:=by
 show (Op.equalIn (9999+1) 161 _ _).run Tryz.prog w=_
 unfold Op.equalIn;simp only[Sem.run_bind,run_underlying Tryz.underlying161,Result.andThen_ok];simp[List.range',go_sem,Tryz.underlying3,Tryz.sizeOf3,part]
 by_cases h1:a=a'<;>by_cases h2:b=b'<;>by_cases h3:c=c'<;>by_cases h4:d=d'<;>simp[*]
theorem guard161:Tryz.prog.eqGuardType Tryz.prog.depth 161=false:=kR
def Num.om:Nat→Num
 |0=>⟨1,0,0,0,0⟩
 |n+1=>⟨-(Num.om n).d,(Num.om n).a,(Num.om n).b,(Num.om n).c,0⟩
theorem work131 (a b c d k:Int) (w:World):
  Calls Tryz.prog 131 #[.agg #[a,b,c,d,k]] w fun e w'=>e= .returned (.agg #[a,b,c,d,k, .func (.func 149) #[] #[]])∧Below w.heap.size w w':=by
 go_enter Tryz.func131,Tryz.ntmps131
 go_wp2
 refine bodyPost_ret (v:= .agg #[a,b,c,d,k, .func (.func 149) #[] #[]]) (by simp[results,Tryz.results131,go_sem]) rfl ⟨rfl,?_⟩
 exact(bR.alloc (Nat.le_refl _) _).alloc sI _
theorem parts132 (a b c d k:Int) (w:World):
  Calls Tryz.prog 132 #[.agg #[a,b,c,d,k, .func (.func 149) #[] #[]]] w fun e w'=>e= .returned (.agg #[a,b,c,d])∧Below w.heap.size w w':=by
 go_enter Tryz.func132,Tryz.ntmps132
 go_wp2
 refine bodyPost_ret (v:= .agg #[a,b,c,d]) (by simp[results,Tryz.results132,go_sem]) rfl ⟨rfl,?_⟩
 exact(bR.alloc (Nat.le_refl _) _).alloc sI _
theorem of135 (a b c d k:Int) (w:World):
  Calls Tryz.prog 135 #[.agg #[a,b,c,d],k] w fun e w'=>e= .returned (.agg #[a,b,c,d,k])∧Below w.heap.size w w':=by
 go_enter Tryz.func135,Tryz.ntmps135
 go_wp2
 refine bodyPost_ret (v:= .agg #[a,b,c,d,k]) (by simp[results,Tryz.results135,go_sem]) rfl ⟨rfl,?_⟩
 exact(bR.alloc (Nat.le_refl _) _).alloc sI _
def Tw (a b c d:Int):Prop:=Bd 4611686018427387904 a b c d∧Bd 4611686018427387904 (b-d) (a+c) (b+d) (c-a)
theorem tmod2 (x:Int):(x.tmod 2=0)=(x%2=0):=by
 apply propext
 rw[←Int.dvd_iff_tmod_eq_zero,Int.dvd_iff_emod_eq_zero]
theorem tdiv2 (x:Int) (h:x%2=0):x.tdiv 2=x / 2:=Int.tdiv_eq_ediv_of_dvd (Int.dvd_of_emod_eq_zero h)
theorem evB_tmod (a b c d:Int):evB a b c d=(((a-c).tmod 2==0)&&((b-d).tmod 2==0)):=by
 have h1:((a-c).tmod 2==0)=decide (a%2=c%2):=by
  rw[Bool.eq_iff_iff,beq_iff_eq,tmod2,decide_eq_true_iff];omega
 have h2:((b-d).tmod 2==0)=decide (b%2=d%2):=by
  rw[Bool.eq_iff_iff,beq_iff_eq,tmod2,decide_eq_true_iff];omega
 rw[h1,h2];rfl
theorem even153 (a b c d:Int) (w:World) (hB:Tw a b c d):
  Calls Tryz.prog 153 #[.agg #[a,b,c,d]] w fun e w'=>e= .returned (.bool (evB a b c d))∧Below w.heap.size w w':=by
 obtain⟨⟨h1,h2,h3,h4,h5,h6,h7,h8⟩,⟨g1,g2,g3,g4,g5,g6,g7,g8⟩⟩:=hB;go_enter Tryz.func153,Tryz.ntmps153
 go_wp2
 all_goals (go_ret;refine⟨?_,bR.alloc (Nat.le_refl _) _⟩;simp[evB_tmod, *];try rfl)
theorem half152 (a b c d:Int) (w:World) (hB:Tw a b c d) (hev:evB a b c d=true):
  Calls Tryz.prog 152 #[.agg #[a,b,c,d]] w fun e w'=>e= .returned (.agg #[.int .i64 (b / 2-d / 2), .int .i64 (a / 2+c / 2+a%2), .int .i64 (b / 2+d / 2+b%2), .int .i64 (c / 2-a / 2)])∧Below w.heap.size w w':=by
 obtain⟨⟨h1,h2,h3,h4,h5,h6,h7,h8⟩,⟨g1,g2,g3,g4,g5,g6,g7,g8⟩⟩:=hB;have hev2:a%2=c%2∧b%2=d%2:=by unfold evB at hev;simpa using hev
 have E:Aside (((b-d).tdiv 2=b / 2-d / 2∧(a+c).tdiv 2=a / 2+c / 2+a%2)∧((b+d).tdiv 2=b / 2+d / 2+b%2∧(c-a).tdiv 2=c / 2-a / 2)):=by
  refine⟨⟨?_,?_⟩,?_,?_⟩<;>(rw[tdiv2 _ oM];omega)
 clear hev hev2;go_enter Tryz.func152,Tryz.ntmps152
 go_wp2
 refine bodyPost_ret (v:= .agg #[.int .i64 ((b-d).tdiv 2), .int .i64 ((a+c).tdiv 2), .int .i64 ((b+d).tdiv 2), .int .i64 ((c-a).tdiv 2)]) (by simp[results,Tryz.results152,go_sem]) rfl ⟨?_,?_⟩
 · obtain⟨⟨e1,e2⟩,e3,e4⟩:=E.out;rw[e1,e2,e3,e4]
 exact(bR.alloc (Nat.le_refl _) _).alloc sI _
theorem within151 (B:Nat) (x l:Int) (w:World) (hl:0≤l) (hl':l≤1099511627776) (hc:w.cell? ⟨B,0,none⟩=some (.int .i64 l)):
  Calls Tryz.prog 151 #[x,pt B 0] w fun e w'=>e= .returned (.bool (decide (x≤l)&&decide (-l≤x)))∧w=w':=by
 go_enter Tryz.func151,Tryz.ntmps151
 go_wp2
 all_goals (go_ret;refine⟨?_,rfl⟩;simp[*];try omega)
theorem evc162 (arg:α→Value) (a1:α→Int) (harg:∀x,arg x= .int .i64 (a1 x)) (p:α→Bool) (g:Nat) (lb:Array Value) (eg:∀args w,(callFunc g args).run Tryz.prog w= .ok (.enter g args) w)
  (xs:List α) (B:Nat) (w:World) (hB:B<w.heap.size) (hc:w.cell? ⟨B,0,none⟩=some (.func (.func g) #[] lb)) (hp:PredP g lb arg p xs w):
  PredP 162 #[pt B 0] arg (fun x=>!p x) xs w:=by
 intro x hx W hW;have hcW:W.cell? ⟨B,0,none⟩=some (.func (.func g) #[] lb):=(hW.cell (p:=⟨B,0,none⟩) hB).trans hc;have HC:=hp x hx W hW;rw[harg x]at HC ⊢;clear hp hc hW hx harg;show Calls Tryz.prog 162 #[.int .i64 (a1 x),pt B 0] W (fun e W'=>e= .returned (.bool (!p x))∧Below W.heap.size W W')
 generalize p x=q at HC ⊢;go_enter Tryz.func162,Tryz.ntmps162
 go_wp2_with (go_at_fn g;refine HC.mono ?_;rintro e w' ⟨rfl,hb⟩)
 go_ret
 exact⟨rfl,hb⟩
theorem every150 (p:Int→Bool) (g:Nat) (lb:Array Value) (eg:∀args w,(callFunc g args).run Tryz.prog w= .ok (.enter g args) w) (A:Option Addr) (n c:Nat) (xs:List Int) (w:World)
  (hr:Rd 1 (fun x=>[.int .i64 x]) w A n xs) (hp:PredP g lb (fun x=> .int .i64 x) p xs w):
  Calls Tryz.prog 150 #[.slice A n c, .func (.func g) #[] lb] w fun e w'=>e= .returned (.bool (xs.all p))∧Below w.heap.size w w':=by
 have hb0:Below w.heap.size w (w.alloc (.cells #[.func (.func g) #[] lb] 120)):=bR.alloc (Nat.le_refl _) _;have e1:∀args w,(callFunc 162 args).run Tryz.prog w= .ok (.enter 162 args) w:=enters_of Tryz.func162 kR rfl
 have HC:=conf130 (fun x:Int=>[.int .i64 x]) id (fun _=>rfl) (fun x=>!p x) 162 #[pt w.heap.size 0] e1 A n c xs _ (hr.below hb0)
  (evc162 _ id (fun _=>rfl) p g lb eg xs w.heap.size _ sI ((Blk.new w _ 120).cell 0 _ rfl) (hp.below hb0))
 have hall:xs.all p=!(xs.any fun x=>!p x):=by simp[List.all_eq_not_any_not]
 rw[hall];clear hr hp hall;generalize (xs.any fun x=>!p x)=r at HC ⊢;go_enter Tryz.func150,Tryz.ntmps150
 go_wp2_with (go_at_call 130;refine HC.mono ?_;rintro e w' ⟨rfl,hb⟩)
 go_ret
 exact⟨rfl,below_then hb0 hb⟩
theorem evc163 (arg:α→Value) (a1:α→Int) (harg:∀x,arg x= .int .i64 (a1 x)) (p:α→Bool) (g:Nat) (lb:Array Value) (eg:∀args w,(callFunc g args).run Tryz.prog w= .ok (.enter g args) w)
  (xs:List α) (B:Nat) (w:World) (hB:B<w.heap.size) (hc:w.cell? ⟨B,0,none⟩=some (.func (.func g) #[] lb)) (hp:PredP g lb arg p xs w):
  PredP 163 #[pt B 0] arg (fun x=>!p x) xs w:=by
 intro x hx W hW;have hcW:W.cell? ⟨B,0,none⟩=some (.func (.func g) #[] lb):=(hW.cell (p:=⟨B,0,none⟩) hB).trans hc;have HC:=hp x hx W hW;rw[harg x]at HC ⊢;clear hp hc hW hx harg;show Calls Tryz.prog 163 #[.int .i64 (a1 x),pt B 0] W (fun e W'=>e= .returned (.bool (!p x))∧Below W.heap.size W W')
 generalize p x=q at HC ⊢;go_enter Tryz.func163,Tryz.ntmps163
 go_wp2_with (go_at_fn g;refine HC.mono ?_;rintro e w' ⟨rfl,hb⟩)
 go_ret
 exact⟨rfl,hb⟩
theorem every157 (p:Int→Bool) (g:Nat) (lb:Array Value) (eg:∀args w,(callFunc g args).run Tryz.prog w= .ok (.enter g args) w) (A:Option Addr) (n c:Nat) (xs:List Int) (w:World)
  (hr:Rd 1 (fun x=>[.int .i64 x]) w A n xs) (hp:PredP g lb (fun x=> .int .i64 x) p xs w):
  Calls Tryz.prog 157 #[.slice A n c, .func (.func g) #[] lb] w fun e w'=>e= .returned (.bool (xs.all p))∧Below w.heap.size w w':=by
 have hb0:Below w.heap.size w (w.alloc (.cells #[.func (.func g) #[] lb] 120)):=bR.alloc (Nat.le_refl _) _;have e1:∀args w,(callFunc 163 args).run Tryz.prog w= .ok (.enter 163 args) w:=enters_of Tryz.func163 kR rfl
 have HC:=conf130 (fun x:Int=>[.int .i64 x]) id (fun _=>rfl) (fun x=>!p x) 163 #[pt w.heap.size 0] e1 A n c xs _ (hr.below hb0)
  (evc163 _ id (fun _=>rfl) p g lb eg xs w.heap.size _ sI ((Blk.new w _ 120).cell 0 _ rfl) (hp.below hb0))
 have hall:xs.all p=!(xs.any fun x=>!p x):=by simp[List.all_eq_not_any_not]
 rw[hall];clear hr hp hall;generalize (xs.any fun x=>!p x)=r at HC ⊢;go_enter Tryz.func157,Tryz.ntmps157
 go_wp2_with (go_at_call 130;refine HC.mono ?_;rintro e w' ⟨rfl,hb⟩)
 go_ret
 exact⟨rfl,below_then hb0 hb⟩
def wthB (a b c d l:Int):Bool:=([a,b,c,d]:List Int).all fun x=>decide (x≤l)&&decide (-l≤x)
theorem within133 (a b c d l:Int) (w:World) (hl:0≤l) (hl':l≤1099511627776):
  Calls Tryz.prog 133 #[.agg #[a,b,c,d],l] w fun e w'=>e= .returned (.bool (wthB a b c d l))∧Below w.heap.size w w':=by
 have e1:∀args w,(callFunc 151 args).run Tryz.prog w= .ok (.enter 151 args) w:=enters_of Tryz.func151 kR rfl;have hB1:=(Blk.new w #[a,b,c,d] 161).alloc (.cells #[l] 3)
 have hB2:Blk ((w.alloc (.cells #[a,b,c,d] 161)).alloc (.cells #[l] 3)) (w.heap.size+1) [l] 3:=by
  have:=Blk.new (w.alloc (.cells #[a,b,c,d] 161)) #[l] 3;simpa using this
 have hb0:Below w.heap.size w ((w.alloc (.cells #[a,b,c,d] 161)).alloc (.cells #[l] 3)):=(bR.alloc (Nat.le_refl _) _).alloc sI _
 have hrd:Rd 1 (fun x:Int=>[.int .i64 x]) ((w.alloc (.cells #[a,b,c,d] 161)).alloc (.cells #[l] 3)) (some ⟨w.heap.size,0,none⟩) 4 [a,b,c,d]:=by
  refine⟨rfl,oM,fun _=>⟨_,0,rfl,by simp;omega,?_⟩⟩
  intro i x hx j u hu;have hj:j=0:=by rcases j with _|j<;>simp at hu ⊢
  subst hj;simp at hu
  subst hu;have:=hB1.cell i x (by rcases i with _|_|_|_|i<;>simp at hx ⊢<;>exact hx);simpa using this
 have HC:=every150 (fun x=>decide (x≤l)&&decide (-l≤x)) 151 #[.pointer (some ⟨w.heap.size+1,0,none⟩)] e1 (some ⟨w.heap.size,0,none⟩) 4 4 [a,b,c,d] _ hrd (by
   intro x _ W hW;have hc:=((hB2.below hW).cell 0 _ rfl)
   exact(within151 _ x l W hl hl' hc).mono fun e w' ⟨h1,h2⟩=>⟨h1,by subst h2;exact Below.refl _ _⟩)
 change Calls Tryz.prog 150 _ _ (fun e w'=>e= .returned (.bool (wthB a b c d l))∧_) at HC
 clear hrd hB1 hB2;generalize wthB a b c d l=q at HC ⊢;go_enter Tryz.func133,Tryz.ntmps133
 go_wp2_with (go_at_call 150;refine HC.mono ?_;rintro e w' ⟨rfl,hb⟩)
 go_ret
 exact⟨rfl,below_then hb0 hb⟩
end
section
open Go.RowKit Go.Shelf
theorem tw_half {a b c d:Int} (h:Tw a b c d) (hev:evB a b c d=true):Tw (b / 2-d / 2) (a / 2+c / 2+a%2) (b / 2+d / 2+b%2) (c / 2-a / 2):=by
 have hev2:a%2=c%2∧b%2=d%2:=by unfold evB at hev;simpa using hev
 unfold Tw Bd at *;omega
theorem bynd_of_wth (a b c d l:Int):byndB a b c d l=!wthB a b c d l:=by
 rw[Bool.eq_iff_iff];simp[byndB,wthB]
 omega
theorem least_large {a b c d k a' b' c' d' k':Int} (hz:isZ a b c d=false) (h:Num.down k.toNat ⟨a,b,c,d,k⟩=⟨a',b',c',d',k'⟩) (hl:60<k'∨wthB a' b' c' d' 1073741824=false):Num.least ⟨a,b,c,d,k⟩=(⟨0,0,0,0,0⟩,8):=by
 simp only[Num.least];rw[if_neg (by simp[hz]),h,if_pos (by rcases hl with hl|hl;exact Or.inl hl;exact Or.inr (by simp[bynd_of_wth,hl]))];rfl
theorem least_fits {a b c d k a' b' c' d' k':Int} (hz:isZ a b c d=false) (h:Num.down k.toNat ⟨a,b,c,d,k⟩=⟨a',b',c',d',k'⟩) (h60:¬60<k') (hl:wthB a' b' c' d' 1073741824=true):Num.least ⟨a,b,c,d,k⟩=(⟨a',b',c',d',k'⟩,0):=by
 simp only[Num.least];rw[if_neg (by simp[hz]),h,if_neg (by simp[bynd_of_wth,hl];omega)]
theorem xc5_0 {p:Prop} (h:p:=by
 have HW:=fun W=>within133 a' b' c' d' 1073741824 W oM oM;have HO:=fun W=>of135 a' b' c' d' k' W
 cases hw:wthB a' b' c' d' 1073741824 with
 | false=>
  rw[hw]at HW;have HWn:Aside (wthB a' b' c' d' 1073741824=false):=hw;clear hw HO
  go_wp2_with (go_at_call 133;refine(HW _).mono ?_;rintro e w2 ⟨rfl,hb⟩;have hG:=hG.below hb;have hR:=hR.below hb;have hBw:=below_then hBw hb;obtain⟨c0,c1,c2,c3,cf⟩:=hG.four;obtain⟨d0,d1,d2,d3,d4,df⟩:=hR.five;clear hb)
  refine bodyPost_ret (v:= .tuple #[.agg #[.int .i64 0, .int .i64 0, .int .i64 0, .int .i64 0, .int .i64 0], .int .i64 8]) (by simp[results,Tryz.results137,go_sem,d0,d1,d2,d3,d4]) rfl ⟨0,0,0,0,0,8,rfl,?_,below_set5 hBw oM _ _ _ _ _⟩
  exact least_large Z.out HX.out (Or.inr HWn.out)
 | true=>
  rw[hw]at HW;have HWn:Aside (wthB a' b' c' d' 1073741824=true):=hw;clear hw
  go_wp2_with (first|(go_at_call 133;refine(HW _).mono ?_;rintro e w2 ⟨rfl,hb⟩;have hG:=hG.below hb;have hR:=hR.below hb;have hBw:=below_then hBw hb;obtain⟨c0,c1,c2,c3,cf⟩:=hG.four;obtain⟨d0,d1,d2,d3,d4,df⟩:=hR.five;clear hb)|(go_at_call 135;refine(HO _).mono ?_;rintro e w2 ⟨rfl,hb⟩;have hG:=hG.below hb;have hR:=hR.below hb;have hBw:=below_then hBw hb;obtain⟨c0,c1,c2,c3,cf⟩:=hG.four;obtain⟨d0,d1,d2,d3,d4,df⟩:=hR.five;clear hb))
  refine bodyPost_ret (v:= .tuple #[.agg #[a',b',c',d',k'], .int .i64 0]) (by simp[results,Tryz.results137,go_sem,d0,d1,d2,d3,d4]) rfl ⟨a',b',c',d',k',0,rfl,?_,below_set5 hBw oM _ _ _ _ _⟩
  exact least_fits Z.out HX.out oM HWn.out):p:=h
theorem least137 (a b c d k:Int) (w:World) (hk:0≤k) (hk':k≤1000) (hB:Tw a b c d):
  Calls Tryz.prog 137 #[.agg #[a,b,c,d,k, .func (.func 149) #[] #[]]] w (RetNumE (fun a' b' c' d' k' r=>Num.least ⟨a,b,c,d,k⟩=(⟨a',b',c',d',k'⟩,r)) w):=by
 have HB:Aside (Tw a b c d):=hB;clear hB;go_enter Tryz.func137,Tryz.ntmps137
 go_upto_region 1 with fail
 have hB0:=(Blk.new w #[a,b,c,d,k, .func (.func 149) #[] #[]] 163).alloc (.cells #[.int .i64 0, .int .i64 0, .int .i64 0, .int .i64 0, .int .i64 0] 26)
 have hB1:Blk ((w.alloc (.cells #[a,b,c,d,k, .func (.func 149) #[] #[]] 163)).alloc (.cells #[.int .i64 0, .int .i64 0, .int .i64 0, .int .i64 0, .int .i64 0] 26)) (w.heap.size+1) [.int .i64 0, .int .i64 0, .int .i64 0, .int .i64 0, .int .i64 0] 26:=by
  have:=Blk.new (w.alloc (.cells #[a,b,c,d,k, .func (.func 149) #[] #[]] 163)) #[.int .i64 0, .int .i64 0, .int .i64 0, .int .i64 0, .int .i64 0] 26;simpa using this
 have hB2:Blk (((w.alloc (.cells #[a,b,c,d,k, .func (.func 149) #[] #[]] 163)).alloc (.cells #[.int .i64 0, .int .i64 0, .int .i64 0, .int .i64 0, .int .i64 0] 26)).alloc (.cells #[.int .i64 0, .int .i64 0, .int .i64 0, .int .i64 0] 161)) (w.heap.size+1+1) [.int .i64 0, .int .i64 0, .int .i64 0, .int .i64 0] 161:=by
  have:=Blk.new ((w.alloc (.cells #[a,b,c,d,k, .func (.func 149) #[] #[]] 163)).alloc (.cells #[.int .i64 0, .int .i64 0, .int .i64 0, .int .i64 0, .int .i64 0] 26)) #[.int .i64 0, .int .i64 0, .int .i64 0, .int .i64 0] 161;simpa using this
 go_cut [4,5] (fun s4 s5 wx=>∃g:Nat,s4=pt g 0∧s5=k∧w.heap.size+1<g∧Blk wx g [a,b,c,d] 161∧Blk wx (w.heap.size+1) [.int .i64 0, .int .i64 0, .int .i64 0, .int .i64 0, .int .i64 0] 26∧Below w.heap.size w wx)
 case first=>
  go_region_held3 (fun wx:World=>wx.cell? ⟨w.heap.size,0,none⟩=some (.int .i64 a)∧wx.cell? ⟨w.heap.size,1,none⟩=some (.int .i64 b)∧wx.cell? ⟨w.heap.size,2,none⟩=some (.int .i64 c)∧wx.cell? ⟨w.heap.size,3,none⟩=some (.int .i64 d)∧wx.cell? ⟨w.heap.size,4,none⟩=some (.int .i64 k)∧wx.cell? ⟨w.heap.size,5,none⟩=some (.func (.func 149) #[] #[])∧Blk wx w.heap.size [a,b,c,d,k, .func (.func 149) #[] #[]] 163) (first|with_reducible exact hB0.drew.six6|with_reducible exact hP.six6|with_reducible exact(hP.alloc _).six6|with_reducible exact(hB0.alloc _).drew.six6|with_reducible exact(hP.set4_other oM _ _ _ _).six6)
   (first|(go_at_call 132;refine(parts132 a b c d k _).mono ?_;rintro e w' ⟨rfl,hb⟩;have hP:Blk w' w.heap.size [a,b,c,d,k, .func (.func 149) #[] #[]] 163:=(by first|with_reducible exact hB0.drew.below hb|with_reducible exact(hB0.alloc _).drew.below hb);(try (have hA:Blk w' (w.heap.size+1+1) [.int .i64 0, .int .i64 0, .int .i64 0, .int .i64 0] 161:=(by with_reducible exact hB2.drew.below hb);obtain⟨z0,z1,z2,z3,zf⟩:=hA.four));have hz:w.heap.size+1<w'.heap.size:=(by have:=hb.size;simp at this;omega);have hR:Blk w' (w.heap.size+1) [.int .i64 0, .int .i64 0, .int .i64 0, .int .i64 0, .int .i64 0] 26:=(by first|with_reducible exact hB1.drew.below hb|with_reducible exact(hB1.alloc _).drew.below hb);have hQ:Below w.heap.size w w':=(by first|with_reducible exact below_then (((bR.alloc (Nat.le_refl _) _).alloc sI _).drew) hb|with_reducible exact below_then ((((bR.alloc (Nat.le_refl _) _).alloc sI _).alloc (by simp;omega) _).drew) hb)))
  all_goals (go_wp2_with fail;go_meet)
  · exact⟨_,rfl,rfl,hz,Blk.new _ _ _,hR.alloc _,hQ.alloc oM _⟩
  exact⟨_,rfl,rfl,oM,hA.set4 _ _ _ _,hR.set4_other oM _ _ _ _,below_set4 hQ oM _ _ _ _⟩
 obtain⟨g,rfl,rfl,hg,hG,hR,hBw⟩:=hcut;obtain⟨c0,c1,c2,c3,cf⟩:=hG.four;obtain⟨d0,d1,d2,d3,d4,df⟩:=hR.five;have g161:=guard161
 cases hz:isZ a b c d with
 | true=>
  have hz2:a=0∧b=0∧c=0∧d=0:=by unfold isZ at hz;simpa [and_assoc] using hz
  obtain⟨rfl,rfl,rfl,rfl⟩:=hz2
  go_wp2
  refine bodyPost_ret (v:= .tuple #[.agg #[.int .i64 0, .int .i64 0, .int .i64 0, .int .i64 0, .int .i64 0], .int .i64 0]) (by simp[results,Tryz.results137,go_sem,d0,d1,d2,d3,d4]) rfl ⟨0,0,0,0,0,0,rfl,?_,below_set5 hBw oM _ _ _ _ _⟩
  show Num.least ⟨0,0,0,0,k⟩=_
  simp[Num.least,isZ,Num.nil]
 | false=>
  have Z:Aside (isZ a b c d=false):=hz;have hz2:(a==0&&b==0&&c==0&&d==0)=false:=by unfold isZ at hz;simpa using hz
  clear hz;go_wp2_with fail
  go_quiet (fail)
  go_wp2_with fail
  go_loopg [5,6,7] k.toNat (fun gg s5 s6 s7 wr=>∃a' b' c' d' k':Int,Blk wr g [a',b',c',d'] 161∧Blk wr (w.heap.size+1) [.int .i64 0, .int .i64 0, .int .i64 0, .int .i64 0, .int .i64 0] 26∧Below w.heap.size w wr∧0≤k'∧k'≤1000∧k'.toNat≤gg∧s5=k'∧s6= .func (.func 152) #[.agg #[a',b',c',d']] #[]∧s7= .func (.func 153) #[.agg #[a',b',c',d']] #[]∧Aside (Tw a' b' c' d')∧Aside (Num.down k.toNat ⟨a,b,c,d,k⟩=Num.down k'.toNat ⟨a',b',c',d',k'⟩))
  case atStart=>exact⟨a,b,c,d,k,hG.drewN _,hR.drewN _,below_dN hBw _,hk,hk',Nat.le_refl _,rfl,rfl,rfl,HB,rfl⟩
  clear c0 c1 c2 c3 cf d0 d1 d2 d3 d4 df;obtain⟨a',b',c',d',k',hG,hR,hBw,hk0,hk1,hgg,rfl,rfl,rfl,HB',HD⟩:=hrel;obtain⟨c0,c1,c2,c3,cf⟩:=hG.four;obtain⟨d0,d1,d2,d3,d4,df⟩:=hR.five
  by_cases hkp:0<k'
  · cases hev:evB a' b' c' d' with
    | true=>
     have HE:=fun W=>even153 a' b' c' d' W HB'.out;have HH:=fun W=>half152 a' b' c' d' W HB'.out hev;rw[hev]at HE;have EV:Aside (evB a' b' c' d'=true):=hev;clear hev
     go_wp2_with (first|(go_at_call 153;refine(HE _).mono ?_;rintro e w2 ⟨rfl,hb⟩;have hG:=hG.below hb;have hR:=hR.below hb;have hBw:=below_then hBw hb;obtain⟨c0,c1,c2,c3,cf⟩:=hG.four;obtain⟨d0,d1,d2,d3,d4,df⟩:=hR.five;clear hb)|(go_at_call 152;refine(HH _).mono ?_;rintro e w2 ⟨rfl,hb⟩;have hG:=hG.below hb;have hR:=hR.below hb;have hBw:=below_then hBw hb;obtain⟨c0,c1,c2,c3,cf⟩:=hG.four;obtain⟨d0,d1,d2,d3,d4,df⟩:=hR.five;clear hb))
     go_quiet (fail)
     go_wp2_with fail
     go_roundg (k'-1).toNat
     case measure=>omega
     refine⟨_,_,_,_,k'-1,(hG.set4 _ _ _ _).drewN _,(hR.set4_other oM _ _ _ _).drewN _,below_dN (below_set4 hBw oM _ _ _ _) _,oM,oM,Nat.le_refl _,by go_num,rfl,rfl,tw_half HB'.out EV.out,?_⟩
     have e1:k'.toNat=(k'-1).toNat+1:=oM
     exact HD.out.trans (by rw[e1,Num.down_step EV.out];rfl)
    | false=>
     have HE:=fun W=>even153 a' b' c' d' W HB'.out;rw[hev]at HE;have HX:Aside (Num.down k.toNat ⟨a,b,c,d,k⟩=⟨a',b',c',d',k'⟩):=HD.out.trans (Num.down_not hev);clear hev HD
     go_wp2_with (go_at_call 153;refine(HE _).mono ?_;rintro e w2 ⟨rfl,hb⟩;have hG:=hG.below hb;have hR:=hR.below hb;have hBw:=below_then hBw hb;obtain⟨c0,c1,c2,c3,cf⟩:=hG.four;obtain⟨d0,d1,d2,d3,d4,df⟩:=hR.five;clear hb)
     go_loopg [5] 0 (fun _ s5 wr=>s5=k'∧Blk wr g [a',b',c',d'] 161∧Blk wr (w.heap.size+1) [.int .i64 0, .int .i64 0, .int .i64 0, .int .i64 0, .int .i64 0] 26∧Below w.heap.size w wr)
     case atStart=>exact⟨rfl,hG,hR,hBw⟩
     obtain⟨rfl,hG,hR,hBw⟩:=hrel;obtain⟨c0,c1,c2,c3,cf⟩:=hG.four;obtain⟨d0,d1,d2,d3,d4,df⟩:=hR.five
     by_cases h60:60<k'
     · go_wp2_with fail
       refine bodyPost_ret (v:= .tuple #[.agg #[.int .i64 0, .int .i64 0, .int .i64 0, .int .i64 0, .int .i64 0], .int .i64 8]) (by simp[results,Tryz.results137,go_sem,d0,d1,d2,d3,d4]) rfl ⟨0,0,0,0,0,8,rfl,?_,below_set5 hBw oM _ _ _ _ _⟩
       exact least_large Z.out HX.out (Or.inl h60)
     exact xc5_0
  have HX:Aside (Num.down k.toNat ⟨a,b,c,d,k⟩=⟨a',b',c',d',k'⟩):=HD.out.trans (by have e0:k'.toNat=0:=oM;rw[e0,Num.down]);clear HD;go_wp2_with fail
  go_loopg [5] 0 (fun _ s5 wr=>s5=k'∧Blk wr g [a',b',c',d'] 161∧Blk wr (w.heap.size+1) [.int .i64 0, .int .i64 0, .int .i64 0, .int .i64 0, .int .i64 0] 26∧Below w.heap.size w wr)
  case atStart=>exact⟨rfl,hG,hR,hBw⟩
  obtain⟨rfl,hG,hR,hBw⟩:=hrel;obtain⟨c0,c1,c2,c3,cf⟩:=hG.four;obtain⟨d0,d1,d2,d3,d4,df⟩:=hR.five
  by_cases h60:60<k'
  · omega
  exact xc5_0
end
section
open Go.RowKit Go.Shelf
theorem check91 (a b c d k:Int) (w:World):
  Calls Tryz.prog 91 #[.agg #[a,b,c,d,k]] w fun e w'=>e= .returned (.int .i64 (Num.check ⟨a,b,c,d,k⟩))∧Below w.heap.size w w':=by
 have hb0:Below w.heap.size w (w.alloc (.cells #[a,b,c,d,k] 26)):=bR.alloc (Nat.le_refl _) _
 by_cases h1:k<0
 · have e1:Num.check ⟨a,b,c,d,k⟩=3:=by unfold Num.check;rw[if_pos (Or.inl h1)]
   rw[e1];clear e1;go_enter Tryz.func91,Tryz.ntmps91
   go_wp2_with fail
   go_ret
   exact⟨rfl,hb0⟩
 by_cases h2:60<k
 · have e1:Num.check ⟨a,b,c,d,k⟩=3:=by unfold Num.check;rw[if_pos (Or.inr h2)]
   rw[e1];clear e1;go_enter Tryz.func91,Tryz.ntmps91
   go_wp2_with fail
   go_ret
   exact⟨rfl,hb0⟩
 have e1:Num.check ⟨a,b,c,d,k⟩=if (!wthB a b c d 1073741824)=true then 8 else 0:=by unfold Num.check;rw[if_neg (by simp;omega),bynd_of_wth]
 rw[e1];clear e1;have H1:=fun W=>work131 a b c d k W;have H2:=fun W=>parts132 a b c d k W;have H3:=fun W=>within133 a b c d 1073741824 W oM oM;generalize wthB a b c d 1073741824=q at H3 ⊢;go_enter Tryz.func91,Tryz.ntmps91
 cases q with
 | true=>
  go_wp2_with (first|(go_at_call 131;refine(H1 _).mono ?_;rintro e w1 ⟨rfl,hb1⟩)|(go_at_call 132;refine(H2 _).mono ?_;rintro e w2 ⟨rfl,hb2⟩)|(go_at_call 133;refine(H3 _).mono ?_;rintro e w3 ⟨rfl,hb3⟩))
  go_ret
  exact⟨rfl,below_then (below_then (below_then hb0 hb1) hb2) hb3⟩
 | false=>
  go_wp2_with (first|(go_at_call 131;refine(H1 _).mono ?_;rintro e w1 ⟨rfl,hb1⟩)|(go_at_call 132;refine(H2 _).mono ?_;rintro e w2 ⟨rfl,hb2⟩)|(go_at_call 133;refine(H3 _).mono ?_;rintro e w3 ⟨rfl,hb3⟩))
  go_ret
  exact⟨rfl,below_then (below_then (below_then hb0 hb1) hb2) hb3⟩
theorem checks159 (A:Option Addr) (n cp:Nat) (xs:List Num) (w:World) (hr:Rd 5 numC w A n xs) (hall:∀x∈xs,x.check=0):
  Calls Tryz.prog 159 #[.slice A n cp] w fun e w'=>e= .returned (.int .i64 0)∧Below w.heap.size w w':=by
 have hbig:=hr.big;have hlen:Aside (xs.length=n):=hr.len;have HR:Aside (Rd 5 numC w A n xs):=hr;have HA:Aside (∀x∈xs,x.check=0):=hall;clear hr hall;go_enter Tryz.func159,Tryz.ntmps159
 go_wp2
 go_loopg [8] n (fun gg s8 wr=>∃kk:Nat,kk≤n∧n-kk≤gg∧s8=kk∧Below w.heap.size w wr)
 case atStart=>exact⟨0,Nat.zero_le _,oM,rfl,Below.refl _ _⟩
 obtain⟨kk,hkk,hg,rfl,hb⟩:=hrel
 by_cases hlt:kk<n
 · have hltz:(kk:Int)<(n:Int):=oM
   have hR:=HR.out.below hb;obtain⟨x,hx⟩:∃x,xs[kk]?=some x:=⟨xs[kk]'(by rw[hlen.out];exact hlt),by simp⟩;obtain⟨b,o,hA,hbl,hc0,hc1,hc2,hc3,hc4⟩:=hR.at5 hx rfl;subst hA;have HC:=fun W=>check91 x.a x.b x.c x.d x.k W;have hx0:=HA.out x (List.mem_of_getElem? hx);rw[show Num.check ⟨x.a,x.b,x.c,x.d,x.k⟩=0 from hx0]at HC;have HB:Aside (Below w.heap.size w wr):=hb;clear hR hx hx0 hb
   go_wp2_with (go_at_call 91;refine(HC _).mono ?_;rintro e w2 ⟨rfl,hb⟩)
   go_roundg (n-(kk+1))
   case measure=>omega
   exact⟨kk+1,oM,oM,by go_num,below_then (HB.out.alloc HB.out.size _) hb⟩
 have hltz:¬(kk:Int)<(n:Int):=oM
 have:kk=n:=oM
 subst this
 go_wp2
 go_ret
 exact⟨rfl,hb⟩
theorem least138 (a b c d k:Int) (w:World) (hck:Num.check ⟨a,b,c,d,k⟩=0) (hk:0≤k) (hk':k≤60) (hB:Tw a b c d):
  Calls Tryz.prog 138 #[.agg #[a,b,c,d,k]] w (RetNumE (fun a' b' c' d' k' r=>Num.least ⟨a,b,c,d,k⟩=(⟨a',b',c',d',k'⟩,r)) w):=by
 have hB0:=(Blk.new w #[a,b,c,d,k] 26).alloc (.cells #[.int .i64 0, .int .i64 0, .int .i64 0, .int .i64 0, .int .i64 0] 26)
 have hB1:Blk ((w.alloc (.cells #[a,b,c,d,k] 26)).alloc (.cells #[.int .i64 0, .int .i64 0, .int .i64 0, .int .i64 0, .int .i64 0] 26)) (w.heap.size+1) [.int .i64 0, .int .i64 0, .int .i64 0, .int .i64 0, .int .i64 0] 26:=by
  have:=Blk.new (w.alloc (.cells #[a,b,c,d,k] 26)) #[.int .i64 0, .int .i64 0, .int .i64 0, .int .i64 0, .int .i64 0] 26;simpa using this
 have hQ:Below w.heap.size w ((w.alloc (.cells #[a,b,c,d,k] 26)).alloc (.cells #[.int .i64 0, .int .i64 0, .int .i64 0, .int .i64 0, .int .i64 0] 26)):=(bR.alloc (Nat.le_refl _) _).alloc sI _;have H1:=fun W=>check91 a b c d k W;rw[hck]at H1;have H2:=fun W=>work131 a b c d k W;have H3:=fun W=>least137 a b c d k W hk oM hB;clear hck hB;go_enter Tryz.func138,Tryz.ntmps138
 go_wp2_with (first|(go_at_call 91;refine(H1 _).mono ?_;rintro e w2 ⟨rfl,hb⟩;have hB0:=hB0.below hb;have hB1:=hB1.below hb;have hQ:=below_then hQ hb;obtain⟨c0,c1,c2,c3,c4,cf⟩:=hB0.five;clear hb)|(go_at_call 131;refine(H2 _).mono ?_;rintro e w2 ⟨rfl,hb⟩;have hB0:=hB0.below hb;have hB1:=hB1.below hb;have hQ:=below_then hQ hb;clear hb)|(go_at_call 137;refine(H3 _).mono ?_;rintro e w2 ⟨a',b',c',d',k',r,rfl,hP,hb⟩;have hB1:=hB1.below hb;have hQ:=below_then hQ hb;obtain⟨d0,d1,d2,d3,d4,df⟩:=hB1.five;clear hb))
 refine bodyPost_ret (v:= .tuple #[.agg #[a',b',c',d',k'],r]) (by simp[results,Tryz.results138,go_sem,d0,d1,d2,d3,d4]) rfl ⟨a',b',c',d',k',r,rfl,hP,below_set5 hQ oM _ _ _ _ _⟩
end
section
open Go.RowKit Go.Shelf
def PB (x y:Int):Prop:=-1152921504606846976≤x*y∧x*y≤1152921504606846976
theorem idx161 (a b c d:Int) (w:World):(Instr.index 161 (.agg #[a,b,c,d]) (.int .i64 0)).run Tryz.prog w= .ok a w∧(Instr.index 161 (.agg #[a,b,c,d]) (.int .i64 1)).run Tryz.prog w= .ok b w∧(Instr.index 161 (.agg #[a,b,c,d]) (.int .i64 2)).run Tryz.prog w= .ok c w∧(Instr.index 161 (.agg #[a,b,c,d]) (.int .i64 3)).run Tryz.prog w= .ok d w:=
 ⟨by kernel_rfl,by kernel_rfl,by kernel_rfl,by kernel_rfl⟩
theorem times165 (a b c d a' b' c' d':Int) (w:World)
  (h:(PB a a'∧PB a b'∧PB a c'∧PB a d')∧(PB b a'∧PB b b'∧PB b c'∧PB b d')∧(PB c a'∧PB c b'∧PB c c'∧PB c d')∧(PB d a'∧PB d b'∧PB d c'∧PB d d')):
  Calls Tryz.prog 165 #[.agg #[a,b,c,d], .agg #[a',b',c',d']] w fun e w'=>e= .returned (.agg #[.int .i64 (a*a'-b*d'-c*c'-d*b'), .int .i64 (a*b'+b*a'-c*d'-d*c'), .int .i64 (a*c'+b*b'+c*a'-d*d'), .int .i64 (a*d'+b*c'+c*b'+d*a')])∧Below w.heap.size w w':=by
 obtain⟨⟨⟨p1,p2⟩,⟨p3,p4⟩,⟨p5,p6⟩,⟨p7,p8⟩⟩,⟨⟨q1,q2⟩,⟨q3,q4⟩,⟨q5,q6⟩,⟨q7,q8⟩⟩,⟨⟨r1,r2⟩,⟨r3,r4⟩,⟨r5,r6⟩,⟨r7,r8⟩⟩,⟨⟨s1,s2⟩,⟨s3,s4⟩,⟨s5,s6⟩,⟨s7,s8⟩⟩⟩:=h;have i0:=fun W=>(idx161 a b c d W).1;have i1:=fun W=>(idx161 a b c d W).2.1;have i2:=fun W=>(idx161 a b c d W).2.2.1;have i3:=fun W=>(idx161 a b c d W).2.2.2;have j0:=fun W=>(idx161 a' b' c' d' W).1;have j1:=fun W=>(idx161 a' b' c' d' W).2.1;have j2:=fun W=>(idx161 a' b' c' d' W).2.2.1;have j3:=fun W=>(idx161 a' b' c' d' W).2.2.2;go_enter Tryz.func165,Tryz.ntmps165
 go_wp2
 refine wp_loop_rounds 5 ?_
 iterate 30 (try first|(rw[rounds_succ];go_wp2)|(refine wp_loop_rounds 5 ?_))
 refine bodyPost_ret (v:= .agg #[.int .i64 (a*a'-b*d'-c*c'-d*b'), .int .i64 (a*b'+b*a'-c*d'-d*c'), .int .i64 (a*c'+b*b'+c*a'-d*d'), .int .i64 (a*d'+b*c'+c*b'+d*a')]) (by simp[results,Tryz.results165,go_sem]) rfl ⟨rfl,?_⟩
 exact(((bR.alloc (Nat.le_refl _) _).alloc sI _).alloc (by simp;omega) _).alloc (by simp;omega) _
end
section
open Go.RowKit Go.Shelf
variable {t:TypeId} {p:Nat} {w:World}
def PB4 (a b c d a' b' c' d':Int):Prop:=(PB a a'∧PB a b'∧PB a c'∧PB a d')∧(PB b a'∧PB b b'∧PB b c'∧PB b d')∧(PB c a'∧PB c b'∧PB c c'∧PB c d')∧(PB d a'∧PB d b'∧PB d c'∧PB d d')
theorem mul160 (a b c d k a' b' c' d' k':Int) (w:World) (h:PB4 a b c d a' b' c' d') (hk:0≤k) (hk1:k≤1000) (hk':0≤k') (hk1':k'≤1000):
  Calls Tryz.prog 160 #[.agg #[a,b,c,d,k, .func (.func 149) #[] #[]], .agg #[a',b',c',d',k']] w fun e w'=>e= .returned (.agg #[.int .i64 (a*a'-b*d'-c*c'-d*b'), .int .i64 (a*b'+b*a'-c*d'-d*c'), .int .i64 (a*c'+b*b'+c*a'-d*d'), .int .i64 (a*d'+b*c'+c*b'+d*a'), .int .i64 (k+k'), .func (.func 149) #[] #[]])∧Below w.heap.size w w':=by
 have hB0:=((Blk.new w #[a,b,c,d,k, .func (.func 149) #[] #[]] 163).alloc (.cells #[a',b',c',d',k'] 26)).alloc (.cells #[.int .i64 0, .int .i64 0, .int .i64 0, .int .i64 0, .int .i64 0, .nilFunc] 163)
 have hB1:Blk (((w.alloc (.cells #[a,b,c,d,k, .func (.func 149) #[] #[]] 163)).alloc (.cells #[a',b',c',d',k'] 26)).alloc (.cells #[.int .i64 0, .int .i64 0, .int .i64 0, .int .i64 0, .int .i64 0, .nilFunc] 163)) (w.heap.size+1) [a',b',c',d',k'] 26:=by
  have:=(Blk.new (w.alloc (.cells #[a,b,c,d,k, .func (.func 149) #[] #[]] 163)) #[a',b',c',d',k'] 26).alloc (.cells #[.int .i64 0, .int .i64 0, .int .i64 0, .int .i64 0, .int .i64 0, .nilFunc] 163);simpa using this
 have hB2:Blk (((w.alloc (.cells #[a,b,c,d,k, .func (.func 149) #[] #[]] 163)).alloc (.cells #[a',b',c',d',k'] 26)).alloc (.cells #[.int .i64 0, .int .i64 0, .int .i64 0, .int .i64 0, .int .i64 0, .nilFunc] 163)) (w.heap.size+1+1) [.int .i64 0, .int .i64 0, .int .i64 0, .int .i64 0, .int .i64 0, .nilFunc] 163:=by
  have:=Blk.new ((w.alloc (.cells #[a,b,c,d,k, .func (.func 149) #[] #[]] 163)).alloc (.cells #[a',b',c',d',k'] 26)) #[.int .i64 0, .int .i64 0, .int .i64 0, .int .i64 0, .int .i64 0, .nilFunc] 163;simpa using this
 have hQ:Below w.heap.size w (((w.alloc (.cells #[a,b,c,d,k, .func (.func 149) #[] #[]] 163)).alloc (.cells #[a',b',c',d',k'] 26)).alloc (.cells #[.int .i64 0, .int .i64 0, .int .i64 0, .int .i64 0, .int .i64 0, .nilFunc] 163)):=((bR.alloc (Nat.le_refl _) _).alloc sI _).alloc (by simp;omega) _;have H1:=fun W=>parts132 a b c d k W;have H2:=fun W=>work131 a' b' c' d' k' W;have H3:=fun W=>parts132 a' b' c' d' k' W;have H4:=fun W=>times165 a b c d a' b' c' d' W h;have H5:=fun W=>of135 (a*a'-b*d'-c*c'-d*b') (a*b'+b*a'-c*d'-d*c') (a*c'+b*b'+c*a'-d*d') (a*d'+b*c'+c*b'+d*a') (k+k') W;have H6:=fun W=>work131 (a*a'-b*d'-c*c'-d*b') (a*b'+b*a'-c*d'-d*c') (a*c'+b*b'+c*a'-d*d') (a*d'+b*c'+c*b'+d*a') (k+k') W
 generalize (a*a'-b*d'-c*c'-d*b')=o0 at H4 H5 H6 ⊢;generalize (a*b'+b*a'-c*d'-d*c')=o1 at H4 H5 H6 ⊢;generalize (a*c'+b*b'+c*a'-d*d')=o2 at H4 H5 H6 ⊢;generalize (a*d'+b*c'+c*b'+d*a')=o3 at H4 H5 H6 ⊢;clear h;go_enter Tryz.func160,Tryz.ntmps160
 go_wp2_with fail
 replace hB0:=hB0.drew;replace hB1:=hB1.drew;replace hB2:=hB2.drew;replace hQ:=hQ.drew;have hs:IntKind.i64.wrap (k+k')=k+k':=IntWalk.i64_in _ oM
 go_region_held3 (fun wx:World=>(wx.cell? ⟨w.heap.size,0,none⟩=some (.int .i64 a)∧wx.cell? ⟨w.heap.size,1,none⟩=some (.int .i64 b)∧wx.cell? ⟨w.heap.size,2,none⟩=some (.int .i64 c)∧wx.cell? ⟨w.heap.size,3,none⟩=some (.int .i64 d)∧wx.cell? ⟨w.heap.size,4,none⟩=some (.int .i64 k)∧wx.cell? ⟨w.heap.size,5,none⟩=some (.func (.func 149) #[] #[])∧Blk wx w.heap.size [a,b,c,d,k, .func (.func 149) #[] #[]] 163)∧wx.cell? ⟨w.heap.size+1,0,none⟩=some (.int .i64 a')∧wx.cell? ⟨w.heap.size+1,1,none⟩=some (.int .i64 b')∧wx.cell? ⟨w.heap.size+1,2,none⟩=some (.int .i64 c')∧wx.cell? ⟨w.heap.size+1,3,none⟩=some (.int .i64 d')∧wx.cell? ⟨w.heap.size+1,4,none⟩=some (.int .i64 k')∧Blk wx (w.heap.size+1) [a',b',c',d',k'] 26)
  (first|with_reducible exact⟨hB0.six6,hB1.five5⟩|with_reducible exact⟨(hB0.set6_other oM _ _ _ _ _ _).six6,(hB1.set6_other oM _ _ _ _ _ _).five5⟩)
  (first|(go_at_call_of 132 (Value.agg #[a,b,c,d,k, .func (.func 149) #[] #[]]);(with_reducible refine(H1 _).mono ?_);rintro e w' ⟨rfl,hb⟩;replace hB0:=hB0.below hb;replace hB1:=hB1.below hb;replace hB2:=hB2.below hb;replace hQ:=below_then hQ hb;clear hb)|(go_at_call_of 131 (Value.agg #[a',b',c',d',k']);(with_reducible refine(H2 _).mono ?_);rintro e w' ⟨rfl,hb⟩;replace hB0:=hB0.below hb;replace hB1:=hB1.below hb;replace hB2:=hB2.below hb;replace hQ:=below_then hQ hb;clear hb)|(go_at_call_of 132 (Value.agg #[a',b',c',d',k', .func (.func 149) #[] #[]]);(with_reducible refine(H3 _).mono ?_);rintro e w' ⟨rfl,hb⟩;replace hB0:=hB0.below hb;replace hB1:=hB1.below hb;replace hB2:=hB2.below hb;replace hQ:=below_then hQ hb;clear hb)|(go_at_call 165;(with_reducible refine(H4 _).mono ?_);rintro e w' ⟨rfl,hb⟩;replace hB0:=hB0.below hb;replace hB1:=hB1.below hb;replace hB2:=hB2.below hb;replace hQ:=below_then hQ hb;clear hb)|(go_at_call 135;(with_reducible refine(H5 _).mono ?_);rintro e w' ⟨rfl,hb⟩;replace hB0:=hB0.below hb;replace hB1:=hB1.below hb;replace hB2:=hB2.below hb;replace hQ:=below_then hQ hb;clear hb)|(go_at_call_of 131 (Value.agg #[o0,o1,o2,o3, .int .i64 (k+k')]);(with_reducible refine(H6 _).mono ?_);rintro e w' ⟨rfl,hb⟩;replace hB0:=hB0.below hb;replace hB1:=hB1.below hb;replace hB2:=hB2.below hb;replace hQ:=below_then hQ hb;clear hb;obtain⟨z0,z1,z2,z3,z4,z5,zf⟩:=hB2.sixf))
 go_wp2_with fail
 refine bodyPost_ret (v:= .agg #[o0,o1,o2,o3, .int .i64 (k+k'), .func (.func 149) #[] #[]]) (by simp[results,Tryz.results160,go_sem,z0,z1,z2,z3,z4,z5]) rfl ⟨rfl,?_⟩
 exact below_set6 hQ oM _ _ _ _ _ _
theorem rd_two {a b c d k a' b' c' d' k':Int} (h:Blk w p [a,b,c,d,k,a',b',c',d',k'] t):Rd 5 numC w (some ⟨p,0,none⟩) 2 [⟨a,b,c,d,k⟩,⟨a',b',c',d',k'⟩]:=by
 refine⟨rfl,oM,fun _=>⟨p,0,rfl,h.lt,?_⟩⟩
 intro i x hx j u hu
 rcases i with _|_|i
 · simp at hx;subst hx
   simp only[numC]at hu;have hj:j<5:=by have:=(List.getElem?_eq_some_iff.1 hu).1;simpa using this
   have:=h.cell j u (by rcases j with _|_|_|_|_|j<;>simp at hu ⊢<;>first|exact hu|omega);simpa using this
 · simp at hx;subst hx
   simp only[numC]at hu;have hj:j<5:=by have:=(List.getElem?_eq_some_iff.1 hu).1;simpa using this
   have:=h.cell (5+j) u (by rcases j with _|_|_|_|_|j<;>simp at hu ⊢<;>first|exact hu|omega);simpa using this
 simp at hx
theorem mul141 (a b c d k a' b' c' d' k':Int) (w:World) (h:PB4 a b c d a' b' c' d') (hx:Num.check ⟨a,b,c,d,k⟩=0) (hy:Num.check ⟨a',b',c',d',k'⟩=0) (hk:0≤k) (hk1:k≤60) (hk':0≤k') (hk1':k'≤60)
  (ht:Tw (a*a'-b*d'-c*c'-d*b') (a*b'+b*a'-c*d'-d*c') (a*c'+b*b'+c*a'-d*d') (a*d'+b*c'+c*b'+d*a')):
  Calls Tryz.prog 141 #[.agg #[a,b,c,d,k], .agg #[a',b',c',d',k']] w (RetNumE (fun a1 b1 c1 d1 k1 r=>Num.least ⟨a*a'-b*d'-c*c'-d*b',a*b'+b*a'-c*d'-d*c',a*c'+b*b'+c*a'-d*d',a*d'+b*c'+c*b'+d*a',k+k'⟩=(⟨a1,b1,c1,d1,k1⟩,r)) w):=by
 have hB0:=((Blk.new w #[a,b,c,d,k] 26).alloc (.cells #[a',b',c',d',k'] 26)).alloc (.cells #[.int .i64 0, .int .i64 0, .int .i64 0, .int .i64 0, .int .i64 0] 26)
 have hB1:Blk (((w.alloc (.cells #[a,b,c,d,k] 26)).alloc (.cells #[a',b',c',d',k'] 26)).alloc (.cells #[.int .i64 0, .int .i64 0, .int .i64 0, .int .i64 0, .int .i64 0] 26)) (w.heap.size+1) [a',b',c',d',k'] 26:=by
  have:=(Blk.new (w.alloc (.cells #[a,b,c,d,k] 26)) #[a',b',c',d',k'] 26).alloc (.cells #[.int .i64 0, .int .i64 0, .int .i64 0, .int .i64 0, .int .i64 0] 26);simpa using this
 have hB2:Blk (((w.alloc (.cells #[a,b,c,d,k] 26)).alloc (.cells #[a',b',c',d',k'] 26)).alloc (.cells #[.int .i64 0, .int .i64 0, .int .i64 0, .int .i64 0, .int .i64 0] 26)) (w.heap.size+1+1) [.int .i64 0, .int .i64 0, .int .i64 0, .int .i64 0, .int .i64 0] 26:=by
  have:=Blk.new ((w.alloc (.cells #[a,b,c,d,k] 26)).alloc (.cells #[a',b',c',d',k'] 26)) #[.int .i64 0, .int .i64 0, .int .i64 0, .int .i64 0, .int .i64 0] 26;simpa using this
 have hQ:Below w.heap.size w (((w.alloc (.cells #[a,b,c,d,k] 26)).alloc (.cells #[a',b',c',d',k'] 26)).alloc (.cells #[.int .i64 0, .int .i64 0, .int .i64 0, .int .i64 0, .int .i64 0] 26)):=((bR.alloc (Nat.le_refl _) _).alloc sI _).alloc (by simp;omega) _;have hB3:=hB0.alloc (.cells #[a,b,c,d,k,a',b',c',d',k'] 26)
 have hS:Blk ((((w.alloc (.cells #[a,b,c,d,k] 26)).alloc (.cells #[a',b',c',d',k'] 26)).alloc (.cells #[.int .i64 0, .int .i64 0, .int .i64 0, .int .i64 0, .int .i64 0] 26)).alloc (.cells #[a,b,c,d,k,a',b',c',d',k'] 26)) (w.heap.size+1+1+1) [a,b,c,d,k,a',b',c',d',k'] 26:=by
  have:=Blk.new (((w.alloc (.cells #[a,b,c,d,k] 26)).alloc (.cells #[a',b',c',d',k'] 26)).alloc (.cells #[.int .i64 0, .int .i64 0, .int .i64 0, .int .i64 0, .int .i64 0] 26)) #[a,b,c,d,k,a',b',c',d',k'] 26;simpa using this
 have H0:=checks159 (some ⟨w.heap.size+1+1+1,0,none⟩) 2 2 [⟨a,b,c,d,k⟩,⟨a',b',c',d',k'⟩] _ (rd_two hS) (by intro x hx';simp at hx';rcases hx' with rfl|rfl;exact hx;exact hy);have H1:=fun W=>work131 a b c d k W;have H2:=fun W=>mul160 a b c d k a' b' c' d' k' W h hk oM hk' oM;have H3:=fun W=>least137 (a*a'-b*d'-c*c'-d*b') (a*b'+b*a'-c*d'-d*c') (a*c'+b*b'+c*a'-d*d') (a*d'+b*c'+c*b'+d*a') (k+k') W oM oM ht;generalize (a*a'-b*d'-c*c'-d*b')=o0 at H2 H3 ⊢;generalize (a*b'+b*a'-c*d'-d*c')=o1 at H2 H3 ⊢;generalize (a*c'+b*b'+c*a'-d*d')=o2 at H2 H3 ⊢;generalize (a*d'+b*c'+c*b'+d*a')=o3 at H2 H3 ⊢;replace hB0:=hB0.alloc (.cells #[a,b,c,d,k,a',b',c',d',k'] 26)
 replace hB1:=hB1.alloc (.cells #[a,b,c,d,k,a',b',c',d',k'] 26);replace hB2:=hB2.alloc (.cells #[a,b,c,d,k,a',b',c',d',k'] 26);replace hQ:=hQ.alloc (by simp;omega) (.cells #[a,b,c,d,k,a',b',c',d',k'] 26);clear h hx hy ht hB3 hS;go_enter Tryz.func141,Tryz.ntmps141
 go_wp2_with (go_at_call 159;(with_reducible refine H0.mono ?_);rintro e w' ⟨rfl,hb⟩;replace hB0:=hB0.below hb;replace hB1:=hB1.below hb;replace hB2:=hB2.below hb;replace hQ:=below_then hQ hb;clear hb;obtain⟨y0,y1,y2,y3,y4,yf⟩:=hB1.five)
 replace hB0:=hB0.drew;replace hB1:=hB1.drew;replace hB2:=hB2.drew;replace hQ:=hQ.drew
 go_region_held3 (fun wx:World=>(wx.cell? ⟨w.heap.size,0,none⟩=some (.int .i64 a)∧wx.cell? ⟨w.heap.size,1,none⟩=some (.int .i64 b)∧wx.cell? ⟨w.heap.size,2,none⟩=some (.int .i64 c)∧wx.cell? ⟨w.heap.size,3,none⟩=some (.int .i64 d)∧wx.cell? ⟨w.heap.size,4,none⟩=some (.int .i64 k)∧Blk wx w.heap.size [a,b,c,d,k] 26)∧wx.cell? ⟨w.heap.size+1,0,none⟩=some (.int .i64 a')∧wx.cell? ⟨w.heap.size+1,1,none⟩=some (.int .i64 b')∧wx.cell? ⟨w.heap.size+1,2,none⟩=some (.int .i64 c')∧wx.cell? ⟨w.heap.size+1,3,none⟩=some (.int .i64 d')∧wx.cell? ⟨w.heap.size+1,4,none⟩=some (.int .i64 k')∧Blk wx (w.heap.size+1) [a',b',c',d',k'] 26)
  (first|with_reducible exact⟨hB0.five5,hB1.five5⟩|with_reducible exact⟨(hB0.set5_other oM _ _ _ _ _).five5,(hB1.set5_other oM _ _ _ _ _).five5⟩)
  (first|(go_at_call 131;(with_reducible refine(H1 _).mono ?_);rintro e w' ⟨rfl,hb⟩;replace hB0:=hB0.below hb;replace hB1:=hB1.below hb;replace hB2:=hB2.below hb;replace hQ:=below_then hQ hb;clear hb)|(go_at_call 160;(with_reducible refine(H2 _).mono ?_);rintro e w' ⟨rfl,hb⟩;replace hB0:=hB0.below hb;replace hB1:=hB1.below hb;replace hB2:=hB2.below hb;replace hQ:=below_then hQ hb;clear hb)|(go_at_call 137;(with_reducible refine(H3 _).mono ?_);rintro e w' ⟨a1,b1,c1,d1,k1,r,rfl,hP,hb⟩;replace hB0:=hB0.below hb;replace hB1:=hB1.below hb;replace hB2:=hB2.below hb;replace hQ:=below_then hQ hb;clear hb;obtain⟨z0,z1,z2,z3,z4,zf⟩:=hB2.five))
 go_wp2_with fail
 refine bodyPost_ret (v:= .tuple #[.agg #[a1,b1,c1,d1,k1],r]) (by simp[results,Tryz.results141,go_sem,z0,z1,z2,z3,z4]) rfl ⟨a1,b1,c1,d1,k1,r,rfl,hP,?_⟩
 exact below_set5 hQ oM _ _ _ _ _
end
section
open Go.RowKit Go.Shelf
theorem check_bd {a b c d k:Int} (h:Num.check ⟨a,b,c,d,k⟩=0):(0≤k∧k≤60)∧Bd 1073741824 a b c d:=by
 unfold Num.check at h
 by_cases h1:k<0∨60<k
 · rw[if_pos h1]at h;omega
 rw[if_neg h1]at h
 cases hq:byndB a b c d 1073741824 with
 |true=>rw[show byndB (Num.mk a b c d k).a (Num.mk a b c d k).b (Num.mk a b c d k).c (Num.mk a b c d k).d 1073741824=true from hq]at h;simp at h
 | false=>
  simp[byndB]at hq
  unfold Bd;omega
theorem bd_tw {a b c d:Int} (h:Bd 1073741824 a b c d):Tw a b c d:=by unfold Tw Bd at *;omega
end
section
open Go.RowKit Go.Shelf
theorem alike127 (f t f' t':Int) (h h':Bool) (w:World):
  Calls Tryz.prog 127 #[.agg #[f,t, .bool h], .agg #[f',t', .bool h']] w fun e w'=>e= .returned (.bool (decide (min f t=min f' t')&&decide (max f t=max f' t')))∧Below w.heap.size w w':=by
 go_enter Tryz.func127,Tryz.ntmps127
 go_wp2
 all_goals (go_ret;refine⟨congrArg (fun z=>Ending.returned (Value.bool z)) ?_,((bR.alloc (Nat.le_refl _) _).alloc sI _)⟩;rw[Bool.eq_iff_iff];simp only[beq_iff_eq,Bool.and_eq_true,Bool.or_eq_true,Bool.not_eq_true',decide_eq_true_eq,decide_eq_false_iff_not,bne_iff_ne,reduceCtorEq,false_iff,true_iff];omega)
theorem other201 (f t s:Int) (h:Bool) (w:World) (hs:s=f∨s=t) (q1:0≤f) (q2:f≤1099511627776) (q3:0≤t) (q4:t≤1099511627776):
  Calls Tryz.prog 201 #[.agg #[f,t, .bool h],s] w fun e w'=>e= .returned (.int .i64 (otherI f t s))∧Below w.heap.size w w':=by
 have e1:otherI f t s=f+t-s:=by unfold otherI;split<;>omega
 have q5:0≤s:=oM
 have q6:s≤1099511627776:=oM
 rw[e1];clear e1 hs;go_enter Tryz.func201,Tryz.ntmps201
 go_wp2
 go_ret
 exact⟨rfl,(bR.alloc (Nat.le_refl _) _)⟩
theorem loop192 (f t:Int) (h:Bool) (w:World):
  Calls Tryz.prog 192 #[.agg #[f,t, .bool h]] w fun e w'=>e= .returned (.bool (f==t))∧Below w.heap.size w w':=by
 go_enter Tryz.func192,Tryz.ntmps192
 go_wp2
 go_ret
 exact⟨rfl,(bR.alloc (Nat.le_refl _) _)⟩
theorem bad86 (k p:Int) (w:World):
  Calls Tryz.prog 86 #[.agg #[k,p]] w fun e w'=>e= .returned (.bool (badSp k p))∧Below w.heap.size w w':=by
 go_enter Tryz.func86,Tryz.ntmps86
 go_wp2
 all_goals (go_ret;refine⟨congrArg (fun z=>Ending.returned (Value.bool z)) ?_,(bR.alloc (Nat.le_refl _) _)⟩;unfold badSp;rw[Bool.eq_iff_iff];simp only[beq_iff_eq,Bool.and_eq_true,Bool.or_eq_true,Bool.not_eq_true',decide_eq_true_eq,decide_eq_false_iff_not,bne_iff_ne,reduceCtorEq,false_iff,true_iff,iff_true,iff_false];omega)
theorem right56 (a b c d k:Int) (w:World):
  Calls Tryz.prog 56 #[.agg #[a,b,c,d,k]] w fun e w'=>e= .returned (if Num.check ⟨a,b,c,d,k⟩=0 then .tuple #[.agg #[a,b,c,d,k], .int .i64 0] else .tuple #[.agg #[.int .i64 0, .int .i64 0, .int .i64 0, .int .i64 0, .int .i64 0], .int .i64 8])∧Below w.heap.size w w':=by
 have HC:=fun W=>check93 a b c d k W;have hB0:=(Blk.new w #[a,b,c,d,k] 26).alloc (.cells #[.int .i64 0, .int .i64 0, .int .i64 0, .int .i64 0, .int .i64 0] 26)
 have hB1:Blk ((w.alloc (.cells #[a,b,c,d,k] 26)).alloc (.cells #[.int .i64 0, .int .i64 0, .int .i64 0, .int .i64 0, .int .i64 0] 26)) (w.heap.size+1) [.int .i64 0, .int .i64 0, .int .i64 0, .int .i64 0, .int .i64 0] 26:=by
  have:=Blk.new (w.alloc (.cells #[a,b,c,d,k] 26)) #[.int .i64 0, .int .i64 0, .int .i64 0, .int .i64 0, .int .i64 0] 26;simpa using this
 have hQ:Below w.heap.size w ((w.alloc (.cells #[a,b,c,d,k] 26)).alloc (.cells #[.int .i64 0, .int .i64 0, .int .i64 0, .int .i64 0, .int .i64 0] 26)):=((bR.alloc (Nat.le_refl _) _).alloc sI _)
 by_cases hz:Num.check ⟨a,b,c,d,k⟩=0
 · rw[if_pos hz];rw[hz]at HC;clear hz;go_enter Tryz.func56,Tryz.ntmps56
   go_wp2_with (go_at_call 93;(with_reducible refine(HC _).mono ?_);rintro e w' ⟨rfl,hb⟩;replace hB0:=hB0.below hb;replace hB1:=hB1.below hb;replace hQ:=below_then hQ hb;clear hb;obtain⟨y0,y1,y2,y3,y4,yf⟩:=hB0.five;obtain⟨z0,z1,z2,z3,z4,zf⟩:=hB1.five)
   refine bodyPost_ret (v:= .tuple #[.agg #[a,b,c,d,k], .int .i64 0]) (by simp[results,Tryz.results56,go_sem,z0,z1,z2,z3,z4]) rfl ⟨rfl,below_set5 hQ oM _ _ _ _ _⟩
 rw[if_neg hz];have hz2:(Num.check ⟨a,b,c,d,k⟩==0)=false:=by simpa using hz
 have hz3:(Num.check ⟨a,b,c,d,k⟩ != 0)=true:=by simpa using hz
 generalize Num.check ⟨a,b,c,d,k⟩=q at HC hz2 hz3;clear hz;go_enter Tryz.func56,Tryz.ntmps56
 go_wp2_with (go_at_call 93;(with_reducible refine(HC _).mono ?_);rintro e w' ⟨rfl,hb⟩;replace hB0:=hB0.below hb;replace hB1:=hB1.below hb;replace hQ:=below_then hQ hb;clear hb;obtain⟨y0,y1,y2,y3,y4,yf⟩:=hB0.five;obtain⟨z0,z1,z2,z3,z4,zf⟩:=hB1.five)
 refine bodyPost_ret (v:= .tuple #[.agg #[.int .i64 0, .int .i64 0, .int .i64 0, .int .i64 0, .int .i64 0], .int .i64 8]) (by simp[results,Tryz.results56,go_sem,z0,z1,z2,z3,z4]) rfl ⟨rfl,below_set5 hQ oM _ _ _ _ _⟩
theorem xc10_0 {p:Prop} (h:p:=by
 have q4:(k==13)=false:=by(have:¬k=13:=by omega);simpa using this
 have q5:(k==14)=false:=by(have:¬k=14:=by omega);simpa using this
 go_enter Tryz.func143,Tryz.ntmps143
 go_wp2
 go_ret
 refine⟨?_,rfl⟩
 rfl):p:=h
theorem arity143 (k:Int) (w:World):
  Calls Tryz.prog 143 #[k] w fun e w'=>e= .returned (.int .i64 (arityI k))∧w=w':=by
 rcases (show (k≤0)∨(1≤k∧k≤8)∨(9≤k∧k≤11)∨(k=12)∨(k=13)∨(k=14)∨(15≤k) by omega) with hc|hc|hc|hc|hc|hc|hc
 · rw[show arityI k=0 from by unfold arityI;(repeat' split)<;>omega];have q1:¬1≤k:=oM
   have q2:¬9≤k:=oM
   have q3:(k==12)=false:=by(have:¬k=12:=by omega);simpa using this
   exact xc10_0
 · rw[show arityI k=1 from by unfold arityI;(repeat' split)<;>omega];obtain⟨q1,q2⟩:=hc;go_enter Tryz.func143,Tryz.ntmps143
   go_wp2
   go_ret
   refine⟨?_,rfl⟩
   rfl
 · rw[show arityI k=2 from by unfold arityI;(repeat' split)<;>omega];obtain⟨q1,q2⟩:=hc;have q3:¬k≤8:=oM
   exact xc10_0
 · rw[show arityI k=3 from by unfold arityI;(repeat' split)<;>omega];subst hc;go_enter Tryz.func143,Tryz.ntmps143
   go_wp2
   go_ret
   refine⟨?_,rfl⟩
   rfl
 · rw[show arityI k=1 from by unfold arityI;(repeat' split)<;>omega];subst hc;go_enter Tryz.func143,Tryz.ntmps143
   go_wp2
   go_ret
   refine⟨?_,rfl⟩
   rfl
 · rw[show arityI k=1 from by unfold arityI;(repeat' split)<;>omega];subst hc;go_enter Tryz.func143,Tryz.ntmps143
   go_wp2
   go_ret
   refine⟨?_,rfl⟩
   rfl
 rw[show arityI k=0 from by unfold arityI;(repeat' split)<;>omega];have q1:¬k≤11:=oM
 have q2:¬k≤8:=oM
 have q3:(k==12)=false:=by(have:¬k=12:=by omega);simpa using this
 exact xc10_0
theorem xc10_1 {p:Prop} (h:p:=by
 have q4:(k==13)=false:=by(have:¬k=13:=by omega);simpa using this
 have q5:(k==14)=false:=by(have:¬k=14:=by omega);simpa using this
 go_enter Tryz.func156,Tryz.ntmps156
 go_wp2
 go_ret
 refine⟨?_,rfl⟩
 rfl):p:=h
theorem arity156 (k:Int) (w:World):
  Calls Tryz.prog 156 #[k] w fun e w'=>e= .returned (.int .i64 (arityI k))∧w=w':=by
 rcases (show (k≤0)∨(1≤k∧k≤8)∨(9≤k∧k≤11)∨(k=12)∨(k=13)∨(k=14)∨(15≤k) by omega) with hc|hc|hc|hc|hc|hc|hc
 · rw[show arityI k=0 from by unfold arityI;(repeat' split)<;>omega];have q1:¬1≤k:=oM
   have q2:¬9≤k:=oM
   have q3:(k==12)=false:=by(have:¬k=12:=by omega);simpa using this
   exact xc10_1
 · rw[show arityI k=1 from by unfold arityI;(repeat' split)<;>omega];obtain⟨q1,q2⟩:=hc;go_enter Tryz.func156,Tryz.ntmps156
   go_wp2
   go_ret
   refine⟨?_,rfl⟩
   rfl
 · rw[show arityI k=2 from by unfold arityI;(repeat' split)<;>omega];obtain⟨q1,q2⟩:=hc;have q3:¬k≤8:=oM
   exact xc10_1
 · rw[show arityI k=3 from by unfold arityI;(repeat' split)<;>omega];subst hc;go_enter Tryz.func156,Tryz.ntmps156
   go_wp2
   go_ret
   refine⟨?_,rfl⟩
   rfl
 · rw[show arityI k=1 from by unfold arityI;(repeat' split)<;>omega];subst hc;go_enter Tryz.func156,Tryz.ntmps156
   go_wp2
   go_ret
   refine⟨?_,rfl⟩
   rfl
 · rw[show arityI k=1 from by unfold arityI;(repeat' split)<;>omega];subst hc;go_enter Tryz.func156,Tryz.ntmps156
   go_wp2
   go_ret
   refine⟨?_,rfl⟩
   rfl
 rw[show arityI k=0 from by unfold arityI;(repeat' split)<;>omega];have q1:¬k≤11:=oM
 have q2:¬k≤8:=oM
 have q3:(k==12)=false:=by(have:¬k=12:=by omega);simpa using this
 exact xc10_1
theorem has92 (A:Option Addr) (n c:Nat) (xs:List Int) (x:Int) (w:World) (hr:Rd 1 inC w A n xs):
  Calls Tryz.prog 92 #[.slice A n c,x] w fun e w'=>e= .returned (.bool (decide (x∈xs)))∧w=w':=by
 have hbig:=hr.big;have hlen:Aside (xs.length=n):=hr.len;have HR:Aside (Rd 1 inC w A n xs):=hr;clear hr;go_enter Tryz.func92,Tryz.ntmps92
 go_wp2
 go_loopg [9] n (fun gg s9 wr=>∃kk:Nat,kk≤n∧n-kk≤gg∧s9=kk∧w=wr∧Aside (∀j y,j<kk→xs[j]?=some y→y≠x))
 case atStart=>exact⟨0,Nat.zero_le _,oM,rfl,rfl,fun j y hj=>absurd hj (Nat.not_lt_zero _)⟩
 obtain⟨kk,hkk,hg,rfl,rfl,M⟩:=hrel
 by_cases hlt:kk<n
 · have hltz:(kk:Int)<(n:Int):=oM
   obtain⟨y,hy⟩:∃y,xs[kk]?=some y:=⟨xs[kk]'(by rw[hlen.out];exact hlt),by simp⟩;obtain⟨b,o,hA,_,hc0⟩:=HR.out.at1 hy rfl;subst hA;have Y:Aside (xs[kk]?=some y):=hy;clear hy
   by_cases e:y=x
   · subst e
     go_wp2
     go_ret
     refine⟨?_,rfl⟩
     rw[show decide (y∈xs)=true by simpa using List.mem_of_getElem? Y.out];rfl
   have e1:(y==x)=false:=by simpa using e
   go_wp2
   go_roundg (n-(kk+1))
   case measure=>omega
   refine⟨kk+1,oM,oM,by go_num,rfl,(show Aside _ from fun j z hj hz=>?_)⟩
   by_cases ej:j=kk
   · subst ej;rw[Y.out]at hz;cases hz
     exact e
   exact M.out j z oM hz
 have hltz:¬(kk:Int)<(n:Int):=oM
 have:kk=n:=oM
 subst this
 go_wp2
 go_ret
 refine⟨?_,rfl⟩
 rw[show decide (x∈xs)=false by
   simp only[decide_eq_false_iff_not];intro hx;obtain⟨j,hj⟩:=List.mem_iff_getElem?.1 hx
   exact M.out j x (by have:=(List.getElem?_eq_some_iff.1 hj).1;rw[hlen.out]at this;exact this) hj rfl]
 rfl
end
section
open Go.RowKit Go.Shelf
variable {B:Nat} {w:World}
structure Rew where
 rule:Int
 at':Int
 other:Int
 deriving DecidableEq
def rwC (r:Rew):List Value:=[r.rule,r.at',r.other]
theorem bdrew {a:World} (h:Below B a w) (q:Nat):Below B a (w.drewN q):=⟨h.os,h.tape,h.output,h.size,h.block⟩
theorem xc11_0 {p:Prop} (h:p:=by
 have HB:Aside (Below w.heap.size w _):=hb;clear hb;go_wp2_with fail
 go_quiet (fail)
 go_wp2
 go_ret
 refine⟨?_,bdrew HB.out _⟩
 rw[←HD.out,show decide (xs=ys)=false from decide_eq_false fun e=>q (by rw[e,YY.out]at XX;have:=Option.some.inj XX.out;cases this;rfl)]
 rfl):p:=h
theorem xc11_1 {p:Prop} (h:p:=by
 have hltz:¬(kk:Int)<(n:Int):=oM
 have:kk=n:=oM
 subst this
 go_wp2
 go_ret
 refine⟨?_,hb⟩
 rw[←HD.out,show decide (xs=ys)=true from decide_eq_true (List.ext_getElem? fun j=>by
   by_cases hj:j<kk
   · exact M.out j hj
   · rw[List.getElem?_eq_none (by rw[hlen.out];omega),List.getElem?_eq_none (by rw[hlen'.out];omega)])]
 rfl):p:=h
theorem xc11_2 {p:Prop} (h:p:=by
 subst q;have HB:Aside (Below w.heap.size w _):=hb;clear hb;go_wp2_with fail
 go_quiet (fail)
 go_wp2
 go_roundg (n-(kk+1))
 case measure=>omega
 refine⟨kk+1,oM,oM,by go_num,bdrew HB.out _,(show Aside _ from fun j hj=>?_)⟩
 by_cases ej:j=kk
 · subst ej;rw[XX.out,YY.out]
 exact M.out j oM):p:=h
theorem eqs96 (A A':Option Addr) (n n' c c':Nat) (xs ys:List Int) (w:World) (hr:Rd 1 inC w A n xs) (hr':Rd 1 inC w A' n' ys):
  Calls Tryz.prog 96 #[.slice A n c, .slice A' n' c'] w fun e w'=>e= .returned (.bool (decide (xs=ys)))∧Below w.heap.size w w':=by
 have hbig:=hr.big;have hbig':=hr'.big;have hlen:Aside (xs.length=n):=hr.len;have hlen':Aside (ys.length=n'):=hr'.len;have HR:Aside (Rd 1 inC w A n xs):=hr;have HR':Aside (Rd 1 inC w A' n' ys):=hr';clear hr hr';generalize hd:decide (xs=ys)=D;have HD:Aside (decide (xs=ys)=D):=hd;clear hd
 by_cases hnn:n=n'
 · subst hnn;go_enter Tryz.func96,Tryz.ntmps96
   go_wp2
   go_loopg [13] n (fun gg s13 wr=>∃kk:Nat,kk≤n∧n-kk≤gg∧s13=kk∧Below w.heap.size w wr∧Aside (∀j,j<kk→xs[j]?=ys[j]?))
   case atStart=>exact⟨0,Nat.zero_le _,oM,rfl,Below.refl _ _,fun j hj=>absurd hj (Nat.not_lt_zero _)⟩
   obtain⟨kk,hkk,hg,rfl,hb,M⟩:=hrel
   by_cases hlt:kk<n
   · have hltz:(kk:Int)<(n:Int):=oM
     have hR:=HR.out.below hb;have hR':=HR'.out.below hb;obtain⟨a0,hx⟩:∃x,xs[kk]?=some x:=⟨xs[kk]'(by rw[hlen.out];exact hlt),by simp⟩;obtain⟨b0,hy⟩:∃y,ys[kk]?=some y:=⟨ys[kk]'(by rw[hlen'.out];exact hlt),by simp⟩;obtain⟨b,o,hA,_,hc0⟩:=hR.at1 hx rfl;obtain⟨b',o',hA',_,hd0⟩:=hR'.at1 hy rfl;subst hA hA';clear hR hR';have XX:Aside (xs[kk]?=some a0):=hx;have YY:Aside (ys[kk]?=some b0):=hy;clear hx hy
     by_cases q:a0=b0
     case neg=>
      have q2:(a0==b0)=false:=by simpa using q
      exact xc11_0
     exact xc11_2
   exact xc11_1
 have hnz:¬(n:Int)=(n':Int):=oM
 go_enter Tryz.func96,Tryz.ntmps96
 go_wp2
 go_ret
 refine⟨?_,Below.refl _ _⟩
 rw[←HD.out,show decide (xs=ys)=false from decide_eq_false fun e=>hnn (by rw[←hlen.out,←hlen'.out,e])];rfl
theorem eqs32 (A A':Option Addr) (n n' c c':Nat) (xs ys:List Rew) (w:World) (hr:Rd 3 rwC w A n xs) (hr':Rd 3 rwC w A' n' ys):
  Calls Tryz.prog 32 #[.slice A n c, .slice A' n' c'] w fun e w'=>e= .returned (.bool (decide (xs=ys)))∧Below w.heap.size w w':=by
 have hbig:=hr.big;have hbig':=hr'.big;have hlen:Aside (xs.length=n):=hr.len;have hlen':Aside (ys.length=n'):=hr'.len;have HR:Aside (Rd 3 rwC w A n xs):=hr;have HR':Aside (Rd 3 rwC w A' n' ys):=hr';clear hr hr';generalize hd:decide (xs=ys)=D;have HD:Aside (decide (xs=ys)=D):=hd;clear hd
 by_cases hnn:n=n'
 · subst hnn;go_enter Tryz.func32,Tryz.ntmps32
   go_wp2
   go_loopg [13] n (fun gg s13 wr=>∃kk:Nat,kk≤n∧n-kk≤gg∧s13=kk∧Below w.heap.size w wr∧Aside (∀j,j<kk→xs[j]?=ys[j]?))
   case atStart=>exact⟨0,Nat.zero_le _,oM,rfl,Below.refl _ _,fun j hj=>absurd hj (Nat.not_lt_zero _)⟩
   obtain⟨kk,hkk,hg,rfl,hb,M⟩:=hrel
   by_cases hlt:kk<n
   · have hltz:(kk:Int)<(n:Int):=oM
     have hR:=HR.out.below hb;have hR':=HR'.out.below hb;obtain⟨x,hx⟩:∃x,xs[kk]?=some x:=⟨xs[kk]'(by rw[hlen.out];exact hlt),by simp⟩;obtain⟨y,hy⟩:∃y,ys[kk]?=some y:=⟨ys[kk]'(by rw[hlen'.out];exact hlt),by simp⟩;obtain⟨a0,a1,a2⟩:=x;obtain⟨b0,b1,b2⟩:=y;obtain⟨b,o,hA,_,hc0,hc1,hc2⟩:=hR.at3 hx rfl;obtain⟨b',o',hA',_,hd0,hd1,hd2⟩:=hR'.at3 hy rfl;subst hA hA';clear hR hR';have XX:Aside (xs[kk]?=some ⟨a0,a1,a2⟩):=hx;have YY:Aside (ys[kk]?=some ⟨b0,b1,b2⟩):=hy;clear hx hy;dsimp only at hc0 hd0 hc1 hd1 hc2 hd2
     by_cases q:a0=b0
     case neg=>
      have q2:(a0==b0)=false:=by simpa using q
      exact xc11_0
     subst q
     by_cases q:a1=b1
     case neg=>
      have q2:(a1==b1)=false:=by simpa using q
      exact xc11_0
     subst q
     by_cases q:a2=b2
     case neg=>
      have q2:(a2==b2)=false:=by simpa using q
      exact xc11_0
     exact xc11_2
   exact xc11_1
 have hnz:¬(n:Int)=(n':Int):=oM
 go_enter Tryz.func32,Tryz.ntmps32
 go_wp2
 go_ret
 refine⟨?_,Below.refl _ _⟩
 rw[←HD.out,show decide (xs=ys)=false from decide_eq_false fun e=>hnn (by rw[←hlen.out,←hlen'.out,e])];rfl
theorem eqs61 (A A':Option Addr) (n n' c c':Nat) (xs ys:List Num) (w:World) (hr:Rd 5 numC w A n xs) (hr':Rd 5 numC w A' n' ys):
  Calls Tryz.prog 61 #[.slice A n c, .slice A' n' c'] w fun e w'=>e= .returned (.bool (decide (xs=ys)))∧Below w.heap.size w w':=by
 have hbig:=hr.big;have hbig':=hr'.big;have hlen:Aside (xs.length=n):=hr.len;have hlen':Aside (ys.length=n'):=hr'.len;have HR:Aside (Rd 5 numC w A n xs):=hr;have HR':Aside (Rd 5 numC w A' n' ys):=hr';clear hr hr';generalize hd:decide (xs=ys)=D;have HD:Aside (decide (xs=ys)=D):=hd;clear hd
 by_cases hnn:n=n'
 · subst hnn;go_enter Tryz.func61,Tryz.ntmps61
   go_wp2
   go_loopg [13] n (fun gg s13 wr=>∃kk:Nat,kk≤n∧n-kk≤gg∧s13=kk∧Below w.heap.size w wr∧Aside (∀j,j<kk→xs[j]?=ys[j]?))
   case atStart=>exact⟨0,Nat.zero_le _,oM,rfl,Below.refl _ _,fun j hj=>absurd hj (Nat.not_lt_zero _)⟩
   obtain⟨kk,hkk,hg,rfl,hb,M⟩:=hrel
   by_cases hlt:kk<n
   · have hltz:(kk:Int)<(n:Int):=oM
     have hR:=HR.out.below hb;have hR':=HR'.out.below hb;obtain⟨x,hx⟩:∃x,xs[kk]?=some x:=⟨xs[kk]'(by rw[hlen.out];exact hlt),by simp⟩;obtain⟨y,hy⟩:∃y,ys[kk]?=some y:=⟨ys[kk]'(by rw[hlen'.out];exact hlt),by simp⟩;obtain⟨a0,a1,a2,a3,a4⟩:=x;obtain⟨b0,b1,b2,b3,b4⟩:=y;obtain⟨b,o,hA,_,hc0,hc1,hc2,hc3,hc4⟩:=hR.at5 hx rfl;obtain⟨b',o',hA',_,hd0,hd1,hd2,hd3,hd4⟩:=hR'.at5 hy rfl;subst hA hA';clear hR hR';have XX:Aside (xs[kk]?=some ⟨a0,a1,a2,a3,a4⟩):=hx;have YY:Aside (ys[kk]?=some ⟨b0,b1,b2,b3,b4⟩):=hy;clear hx hy;dsimp only at hc0 hd0 hc1 hd1 hc2 hd2 hc3 hd3 hc4 hd4
     by_cases q:a0=b0
     case neg=>
      have q2:(a0==b0)=false:=by simpa using q
      exact xc11_0
     subst q
     by_cases q:a1=b1
     case neg=>
      have q2:(a1==b1)=false:=by simpa using q
      exact xc11_0
     subst q
     by_cases q:a2=b2
     case neg=>
      have q2:(a2==b2)=false:=by simpa using q
      exact xc11_0
     subst q
     by_cases q:a3=b3
     case neg=>
      have q2:(a3==b3)=false:=by simpa using q
      exact xc11_0
     subst q
     by_cases q:a4=b4
     case neg=>
      have q2:(a4==b4)=false:=by simpa using q
      exact xc11_0
     exact xc11_2
   exact xc11_1
 have hnz:¬(n:Int)=(n':Int):=oM
 go_enter Tryz.func61,Tryz.ntmps61
 go_wp2
 go_ret
 refine⟨?_,Below.refl _ _⟩
 rw[←HD.out,show decide (xs=ys)=false from decide_eq_false fun e=>hnn (by rw[←hlen.out,←hlen'.out,e])];rfl
end
section
open Go.RowKit Go.Shelf
variable {α:Type} {enc:α→List Value} {i:Nat} {n:Nat} {A:Option Addr} {w:World}
theorem Rd.at4 {xs:List α} (h:Rd 4 enc w A n xs) {x:α} {u v z y:Value} (hx:xs[i]?=some x) (hu:enc x=[u,v,z,y]):
  ∃b o,A=some ⟨b,o,none⟩∧b<w.heap.size∧w.cell? ⟨b,o+i*4,none⟩=some u∧w.cell? ⟨b,o+i*4+1,none⟩=some v∧w.cell? ⟨b,o+i*4+2,none⟩=some z∧w.cell? ⟨b,o+i*4+3,none⟩=some y:=by
 have hi:i<xs.length:=(List.getElem?_eq_some_iff.1 hx).1;obtain⟨b,o,e,hlt,hc⟩:=h.2.2 (by rw[←h.1];omega);exact⟨b,o,e,hlt,by have:=hc i x hx 0 u (by simp[hu]);simpa using this,hc i x hx 1 v (by simp[hu]),hc i x hx 2 z (by simp[hu]),hc i x hx 3 y (by simp[hu])⟩
theorem idxf107 (enc:α→List Value) (a1 a2 a3 a4:α→Value) (henc:∀x,enc x=[a1 x,a2 x,a3 x,a4 x]) (p:α→Bool) (g:Nat) (lb:Array Value)
  (eg:∀args w,(callFunc g args).run Tryz.prog w= .ok (.enter g args) w) (A:Option Addr) (n c:Nat) (xs:List α) (w:World)
  (hr:Rd 4 enc w A n xs) (hp:PredP g lb (fun x=> .agg #[a1 x,a2 x,a3 x,a4 x]) p xs w):
  Calls Tryz.prog 107 #[.slice A n c, .func (.func g) #[] lb] w fun e w'=>e= .returned (.int .i64 (idxP p xs))∧Below w.heap.size w w':=by
 have hbig:=hr.big;have hlen:Aside (xs.length=n):=hr.len;have HR:Aside (Rd 4 enc w A n xs):=hr;have HP:Aside (PredP g lb (fun x=> .agg #[a1 x,a2 x,a3 x,a4 x]) p xs w):=hp;clear hr hp;go_enter Tryz.func107,Tryz.ntmps107
 go_wp2
 go_loopg [5,8] n (fun gg _ s8 wr=>∃kk:Nat,kk≤n∧n-kk≤gg∧s8=kk∧Below w.heap.size w wr∧Aside (∀j y,j<kk→xs[j]?=some y→p y=false))
 case atStart=>exact⟨0,Nat.zero_le _,oM,rfl,Below.refl _ _,fun j y hj=>absurd hj (Nat.not_lt_zero _)⟩
 obtain⟨kk,hkk,hg,rfl,hb,M⟩:=hrel
 by_cases hlt:kk<n
 · have hltz:(kk:Int)<(n:Int):=oM
   have hR:=HR.out.below hb;obtain⟨x,hx⟩:∃x,xs[kk]?=some x:=⟨xs[kk]'(by rw[hlen.out];exact hlt),by simp⟩;obtain⟨b,o,hA,_,hc0,hc1,hc2,hc3⟩:=hR.at4 hx (henc x);subst hA;clear hR;have hcall:=HP.out x (List.mem_of_getElem? hx);have X:Aside (xs[kk]?=some x):=hx;clear hx
   cases hq:p x with
   | true=>
    rw[hq]at hcall;have HC:=hcall _ hb;have HB:Aside (Below w.heap.size w _):=hb;clear hcall hb
    go_wp2_with (go_at_fn g;refine HC.mono ?_;rintro e w' ⟨rfl,hb2⟩)
    go_ret
    refine⟨?_,below_then HB.out hb2⟩
    rw[idxP_hit p xs kk x X.out hq M.out];rfl
   | false=>
    rw[hq]at hcall;have HC:=hcall _ hb;have HB:Aside (Below w.heap.size w _):=hb;clear hcall hb
    go_wp2_with (go_at_fn g;refine HC.mono ?_;rintro e w' ⟨rfl,hb2⟩)
    go_roundg (n-(kk+1))
    case measure=>omega
    refine⟨kk+1,oM,oM,by go_num,below_then HB.out hb2,(show Aside _ from fun j y hj hy=>?_)⟩
    by_cases e:j=kk
    · subst e;rw[X.out]at hy;cases hy
      exact hq
    exact M.out j y oM hy
 have hltz:¬(kk:Int)<(n:Int):=oM
 have:kk=n:=oM
 subst this
 go_wp2
 go_ret
 refine⟨?_,hb⟩
 rw[idxP_miss p xs (fun y hy=>by
   obtain⟨j,hj⟩:=List.mem_iff_getElem?.1 hy
   exact M.out j y (by have:=(List.getElem?_eq_some_iff.1 hj).1;rw[hlen.out]at this;exact this) hj)]
 rfl
theorem conf62 (enc:α→List Value) (a1 a2 a3 a4:α→Value) (henc:∀x,enc x=[a1 x,a2 x,a3 x,a4 x]) (p:α→Bool) (g:Nat) (lb:Array Value)
  (eg:∀args w,(callFunc g args).run Tryz.prog w= .ok (.enter g args) w) (A:Option Addr) (n c:Nat) (xs:List α) (w:World)
  (hr:Rd 4 enc w A n xs) (hp:PredP g lb (fun x=> .agg #[a1 x,a2 x,a3 x,a4 x]) p xs w):
  Calls Tryz.prog 62 #[.slice A n c, .func (.func g) #[] lb] w fun e w'=>e= .returned (.bool (xs.any p))∧Below w.heap.size w w':=by
 have hcon:=fun(W:World) (hb:Below w.heap.size w W)=>idxf107 enc a1 a2 a3 a4 henc p g lb eg A n c xs W (hr.below hb) (hp.below hb);have HC:=hcon w bR;rw[←idxP_nonneg p xs];clear hcon hr hp;generalize idxP p xs=r at HC ⊢;go_enter Tryz.func62,Tryz.ntmps62
 go_wp2_with (go_at_call 107;refine HC.mono ?_;rintro e w' ⟨rfl,hb⟩)
 go_ret
 exact⟨rfl,hb⟩
theorem ind164 (A:Option Addr) (n c:Nat) (xs:List Int) (x:Int) (w:World) (hr:Rd 1 inC w A n xs):
  Calls Tryz.prog 164 #[.slice A n c,x] w fun e w'=>e= .returned (.int .i64 (idxP (fun y=>decide (y=x)) xs))∧w=w':=by
 have hbig:=hr.big;have hlen:Aside (xs.length=n):=hr.len;have HR:Aside (Rd 1 inC w A n xs):=hr;clear hr;generalize hI:idxP (fun y=>decide (y=x)) xs=I;have HI:Aside (idxP (fun y=>decide (y=x)) xs=I):=hI;clear hI;go_enter Tryz.func164,Tryz.ntmps164
 go_wp2
 go_loopg [8] n (fun gg s8 wr=>∃kk:Nat,kk≤n∧n-kk≤gg∧s8=kk∧w=wr∧Aside (∀j y,j<kk→xs[j]?=some y→y≠x))
 case atStart=>exact⟨0,Nat.zero_le _,oM,rfl,rfl,fun j y hj=>absurd hj (Nat.not_lt_zero _)⟩
 obtain⟨kk,hkk,hg,rfl,rfl,M⟩:=hrel
 by_cases hlt:kk<n
 · have hltz:(kk:Int)<(n:Int):=oM
   obtain⟨y,hy⟩:∃y,xs[kk]?=some y:=⟨xs[kk]'(by rw[hlen.out];exact hlt),by simp⟩;obtain⟨b,o,hA,_,hc0⟩:=HR.out.at1 hy rfl;subst hA;have Y:Aside (xs[kk]?=some y):=hy;clear hy
   by_cases e:y=x
   · subst e;have e1:(y==y)=true:=by simp
     go_wp2
     go_ret
     refine⟨?_,rfl⟩
     rw[←HI.out,idxP_hit (fun z=>decide (z=y)) xs kk y Y.out sI (fun j z hj hz=>by simpa using M.out j z hj hz)];rfl
   have e1:(x==y)=false:=by simpa using fun q=>e q.symm
   go_wp2
   go_roundg (n-(kk+1))
   case measure=>omega
   refine⟨kk+1,oM,oM,by go_num,rfl,(show Aside _ from fun j z hj hz=>?_)⟩
   by_cases ej:j=kk
   · subst ej;rw[Y.out]at hz;cases hz
     exact e
   exact M.out j z oM hz
 have hltz:¬(kk:Int)<(n:Int):=oM
 have:kk=n:=oM
 subst this
 go_wp2
 go_ret
 refine⟨?_,rfl⟩
 rw[←HI.out,idxP_miss (fun z=>decide (z=x)) xs (fun z hz=>by
   obtain⟨j,hj⟩:=List.mem_iff_getElem?.1 hz
   simpa using M.out j z (by have:=(List.getElem?_eq_some_iff.1 hj).1;rw[hlen.out]at this;exact this) hj)]
 rfl
theorem con158 (A:Option Addr) (n c:Nat) (xs:List Int) (x:Int) (w:World) (hr:Rd 1 inC w A n xs):
  Calls Tryz.prog 158 #[.slice A n c,x] w fun e w'=>e= .returned (.bool (decide (x∈xs)))∧w=w':=by
 have HC:=ind164 A n c xs x w hr
 have e1:decide (x∈xs)=decide (0≤idxP (fun y=>decide (y=x)) xs):=by
  rw[idxP_nonneg];rw[Bool.eq_iff_iff];simp
 rw[e1];clear e1 hr;generalize idxP (fun y=>decide (y=x)) xs=r at HC ⊢;go_enter Tryz.func158,Tryz.ntmps158
 go_wp2_with (go_at_call 164;refine HC.mono ?_;rintro e w' ⟨rfl,rfl⟩)
 go_ret
 exact⟨rfl,rfl⟩
end
section
open Go.RowKit Go.Shelf
theorem inf3:(Tryz.prog.info? 3).map (fun i=>(i.zero,i.size,i.bytes))=some (some (.int .i64 0),1,8):=kR
theorem inf73:(Tryz.prog.info? 73).map (fun i=>(i.zero,i.size,i.bytes))=some (some (.agg #[.int .i64 0, .int .i64 0]),2,16):=kR
theorem inf77:(Tryz.prog.info? 77).map (fun i=>(i.zero,i.size,i.bytes))=some (some (.agg #[.int .i64 0, .int .i64 0, .bool false]),3,24):=kR
theorem inf47:(Tryz.prog.info? 47).map (fun i=>(i.zero,i.size,i.bytes))=some (some (.agg #[.int .i64 0, .int .i64 0, .int .i64 0]),3,24):=kR
theorem rwC_len (x:Rew):(rwC x).length=3:=rfl
theorem rwC_one (xs:List Rew):∀u∈xs.flatMap rwC,u.oneCell'=true:=by
 intro u hu;obtain⟨x,_,h⟩:=List.mem_flatMap.1 hu;simp only[rwC,List.mem_cons,List.not_mem_nil,or_false]at h
 rcases h with h|h|h<;>(subst h;rfl)
theorem clone64 (A:Option Addr) (n c:Nat) (xs:List Int) (w:World) (hR:Rd 1 inC w A n xs) (hn:n≤1099511627776):
  Calls Tryz.prog 64 #[.slice A n c] w fun e w'=>∃A' c',e= .returned (.slice A' n c')∧w'.ownsRow w.heap.size 3 1 (.slice A' n c') n (xs.flatMap inC)∧(A'=none↔A=none)∧Below w.heap.size w w':=by
 obtain⟨i0,hi,hz0,hz1,hz2⟩:=info_parts inf3;have hu:=Tryz.underlying24;have qe:∀(w:World) (a:Option Addr) (n c n' c':Nat),(binOp .eql 24 (.slice a n c) (.slice none n' c')).run Tryz.prog w= .ok (.bool a.isNone) w:=fun w a n c n' c'=>Lib.run_eql_slice_nil w _ _ a n c n' c' hu;have hr:Aside (Rd 1 inC w A n xs):=hR;clear hR
 cases A with
 | none=>
  have h0:n=0:=by
   rcases Nat.eq_zero_or_pos n with h|h
   · exact h
   obtain⟨b,o,e,_⟩:=hr.out.2.2 h;cases e
  subst h0;have hx:xs=[]:=List.eq_nil_of_length_eq_zero hr.out.1;subst hx;clear hr;go_enter Tryz.func64,Tryz.ntmps64
  go_wp2
  go_ret
  exact⟨none,0,rfl,World.ownsRow_nil _ _ _ _,by simp,Below.refl _ _⟩
 | some a=>
  have hl:(xs.flatMap inC).length=n*1:=by rw[flat_len inC_len,hr.out.1]
  have h1:∀u∈xs.flatMap inC,u.oneCell'=true:=inC_one xs
  have hc:Aside (∀j u,(xs.flatMap inC)[j]?=some u→a.block<w.heap.size∧w.cell? (a.add j)=some u):=by
   intro j u hj
   rcases Nat.eq_zero_or_pos n with h|h
   · rw[h,Nat.zero_mul]at hl;rw[List.eq_nil_of_length_eq_zero hl]at hj;cases hj
   obtain⟨b,o,e,hlt,hcc⟩:=Rd.flat dE inC_len hr.out h;cases e
   exact⟨hlt,by rw[Addr.add_lit];exact hcc j u hj⟩
  clear hr;generalize xs.flatMap inC=news at hl h1 hc ⊢;go_enter Tryz.func64,Tryz.ntmps64
  go_wp2_with (at_builtin;(refine wpList_append_own _ rfl _ _ 24 rfl w.heap.size 3 i0 (.int .i64 0) 1 8 hu hi hz0 hz1 hz2 rfl dE _ _ _ rfl (World.ownsRow_made w #[] 0 (Nat.le_refl _) (Nat.zero_le _) sI) a n c news rfl ?qc1 ?qc2 ?qc3 ?qc4 ?qc5 ?qc6 ?_))
  case qc1=>exact hl
  case qc2=>
   intro j u hj;exact Lib.cell?_alloc_some _ (hc.out j u hj).2
  case qc3=>exact h1
  case qc4=>rw[Nat.zero_add];unfold maxLen;omega
  case qc5=>rw[Nat.zero_add];omega
  case qc6=>simp
  intro v' w1 hown hgrow hnil
  have hb:Below w.heap.size w w1:=by
   exact((Below.refl _ w).alloc (Nat.le_refl _) _).grown hgrow sI (by intro k hk;simp[Value.ownBlock]at hk;omega)
  replace hown:w1.ownsRow w.heap.size 3 1 v' n news:=by simpa using hown
  obtain⟨A',c',rfl⟩:∃A' c',v'= .slice A' n c':=by
   rcases hown.2 with⟨h,h0⟩|⟨g,cap,_,h,_⟩
   · subst h0;exact⟨_,_,h⟩
   exact⟨_,_,h⟩
  clear hgrow
  go_wp2
  go_ret
  refine⟨A',c',rfl,hown,?_,hb⟩
  constructor
  · intro e;subst e
    exfalso
    rcases hown.2 with⟨h,_⟩|⟨g,cap,_,h,_⟩
    · exact absurd h (by simpa using hnil)
    cases h
  intro e;cases e
end
end Go.Proofs.YtcoackmdmohnhaaGreatDoor
