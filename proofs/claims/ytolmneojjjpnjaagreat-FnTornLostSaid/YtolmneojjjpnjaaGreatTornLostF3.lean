/- Functions of the program, and what they come to. -/
import Derived.Test.YtolmneojjjpnjaaGreatTornLostF2
namespace Go.Tf
noncomputable section
open Go.Proofs Go.Proofs.Tryz IntKind
set_option synthInstance.maxHeartbeats 400000
set_option synthInstance.maxSize 10000
set_option linter.unusedVariables false
set_option linter.unusedSimpArgs false
set_option maxRecDepth 100000
def yXf:Code:=(f106.body).getD .skip
def yXH:Env:=zku TT [(81,yM)] []
theorem yNT:FrOk prog ⟨yXH,11,fun _=>none⟩ yXf:=zky yf yg ⟨yS,trivial⟩
abbrev yw7:List Par:= [.rd tA,.rd tI]
abbrev yxr:List OT:= [⟨false,tB,.fz⟩]
def yFl (a0:dA) (a1:Int):Option (zaY yxr×zak yw7) :=let r1:=yj a1 0 (i64.wrap ((a0.2.2.1.length:Int)-1));some ((r1,()),())
theorem ySl:ConOk prog 106 ⟨yw7,yxr,fun x=>yFl x.1 x.2.1⟩:=zkG (yNT) func106 ntmps106.symm fun x=>by kernel_rfl
def ypw (a0:dA) (a1:Int):Bool :=let r1:=yj a1 0 (i64.wrap ((a0.2.2.1.length:Int)-1));r1
def yEj:Con:=⟨yw7,yxr,fun x=>(fun n=>some ((n,()),())) (ypw x.1 x.2.1)⟩
theorem yVs (a0:dA) (a1:Int):yFl a0 a1=(fun n=>some ((n,()),())) (ypw a0 a1):=zkT (p:=fun(n:Bool)=>((n,()),())) rfl
theorem yWw:ConOk prog 106 yEj:=(ySl).mono (fun x r _ h=>(yVs x.1 x.2.1).trans h)
def ymT:Code:=(f114.body).getD .skip
def ytE:Env:=zku TT [(111,ynu)] []
theorem yLe:FrOk prog ⟨ytE,16,fun _=>none⟩ ymT:=zky yf yg ⟨yxW,trivial⟩
def yBm:Nat→Option Seg:=fun _=>none
def ybM:Shape:=⟨[(6,false,[.br tI]),(7,false,[.int .i64]),(8,false,[.int .i64])],[],[]⟩
def yfq:Shape:=⟨[(6,false,[.br tI]),(7,false,[.int .i64]),(8,false,[.ci .i64 0])],[],[]⟩
def yfh:Shape:=⟨[],[],[]⟩
def yfv:Shape:=⟨[(2,false,[.bool])],[],[]⟩
abbrev ymy (v0:List Int) (v1 v2:Int):(ybM).X:=(((v0,()),(v1,()),(v2,()),()),(),())
abbrev yJ5 (v0:List Int) (v1:Int):(yfq).X:=(((v0,()),(v1,()),((),()),()),(),())
abbrev yJX  :(yfh).X:=((),(),())
abbrev yJ8 (v0:Bool):(yfv).X:=(((v0,()),()),(),())
def ymN (v0:List Int) (v1 v2:Int):Option ((ybM).X ⊕ ((yfh).X ⊕ (yfv).X)) :=bif(ltb v2 v1)then bif(inb v2 v0.length)then let r2:=yic 0;bif(leb r2 (nth v0 v2 0))then some (.inr (.inr (((true,()),()),(),()))) else some (.inl (((v0,()),(v1,()),((i64.wrap (v2+1)),()),()),(),())) else none else some (.inr (.inl ((),(),())))
def yb5 (x:(ybM).X):=ymN x.1.1.1 x.1.2.1.1 x.1.2.2.1.1
def ywj (x:(yfq).X):(ybM).X:=(((x.1.1.1,()),(x.1.2.1.1,()),(0,()),()),(),())
def yyL:Code:=(zeJ ymT 64 52).getD .skip
theorem yKJ:zeJ ymT 64 13=some (.block 0 (.loop yyL)):=by kernel_rfl
theorem yMy (x:(ybM).X):zhu ⟨ytE,16,yBm⟩ 0 yyL 52 ybM yfh yfv x=yb5 x:=by kernel_rfl
def yws (x:(yfq).X):Nat:=18446744073709551616
def ynQ (x:(yfq).X):Option ((yfh).X ⊕ (yfv).X):=zF yb5 (yws x) (ywj x)
def ywI:Seg:=⟨yfq,yfh,yfv,ynQ⟩
def yNa:Nat→Option Seg:=fun q=>bif Nat.beq q 13 then some ywI else yBm q
theorem yLf:FrOk prog ⟨ytE,16,yNa⟩ ymT:=(yLe).loop (sg:=ywI) ybM ywj (by decide) yKJ yb5 yws (by decide) (fun _=>rfl) (fun x r _ h=>h) yMy
abbrev ym7:List Par:= [.rd tM]
abbrev yuo:List OT:= [⟨false,tB,.fz⟩]
def yqI (a0:dM):Option (zaY yuo×zak ym7) :=zkr (ynQ (((a0.2.2.2,()),((a0.2.2.2.length:Int),()),((),()),()),(),())) (fun y2 =>some ((false,()),())) (fun y2 =>some ((y2.1.1.1,()),()))
theorem yOX:ConOk prog 114 ⟨ym7,yuo,fun x=>yqI x.1⟩:=zkG (yLf) func114 ntmps114.symm fun x=>by kernel_rfl
def yjl (a0:dM):Bool:=yhS a0
theorem yRX (a0:dM) (hk:zjw ym7 (a0,())):yqI a0=(fun n=>some ((n,()),())) (yjl a0):=by
 have hb:a0.2.2.2.length*8≤2^47:=hk.1.2.2.2.1
 have h1:ynQ (yJ5 a0.2.2.2 a0.2.2.2.length)=some (bif a0.2.2.2.all (fun n=> !(leb 6 n))then .inl yJX else .inr (yJ8 true)) :=
  zj7 (step:=yb5) a0.2.2.2 0 (fun i=>ymy a0.2.2.2 a0.2.2.2.length i) _ _ _ (fun i hi=>by
   simp only[yb5,ymy,ymN,zkw (show(i:Int)<a0.2.2.2.length by omega),cond_true,wq ((i:Int)+1) (by omega) (by omega),Int.natCast_add,Int.natCast_one,Int.toNat_natCast,zkP hi,zkQ,yxR,show yy 0=6 from rfl]
   cases leb 6 (a0.2.2.2.getD i 0)<;>rfl) (by simp only[yb5,ymy,ymN,zk1 (Int.le_refl _),cond_false]) _ (by show _<18446744073709551616; omega)
 unfold yqI yjl yhS;rw[h1,List.all_eq_not_any_not];simp only[Bool.not_not];cases a0.2.2.2.any (fun n=>leb 6 n)<;>rfl
def yBO:Con:=⟨ym7,yuo,fun x=>(fun n=>some ((n,()),())) (yjl x.1)⟩
theorem ySN:ConOk prog 114 yBO:=(yOX).mono (fun x r hk h=>(yRX x.1 hk).trans h)
def yoR:Code:=(f43.body).getD .skip
def ywP:Env:=zku TT [(55,yeP),(106,yEj),(114,yBO)] []
theorem yNy:FrOk prog ⟨ywP,47,fun _=>none⟩ yoR:=zky yf yg ⟨yif,yWw,ySN,trivial⟩
def yC5:Nat→Option Seg:=fun _=>none
def yb9:Shape:=⟨[(1,false,[.int .i64]),(32,false,[.br tM]),(33,false,[.int .i64]),(34,false,[.int .i64])],[],[]⟩
def ygn:Shape:=⟨[(1,false,[.int .i64]),(32,false,[.br tM]),(33,false,[.int .i64]),(34,false,[.ci .i64 0])],[],[]⟩
def yf9:Shape:=⟨[],[],[]⟩
def ygC:Shape:=⟨[(4,false,[.bool])],[],[]⟩
abbrev yob (v0:Int) (v1:List dM) (v2 v3:Int):(yb9).X:=(((v0,()),(v1,()),(v2,()),(v3,()),()),(),())
abbrev yLM (v0:Int) (v1:List dM) (v2:Int):(ygn).X:=(((v0,()),(v1,()),(v2,()),((),()),()),(),())
abbrev yLE  :(yf9).X:=((),(),())
abbrev yL0 (v0:Bool):(ygC).X:=(((v0,()),()),(),())
def yoA (v0:Int) (v1:List dM) (v2 v3:Int):Option ((yb9).X ⊕ ((yf9).X ⊕ (ygC).X)) :=bif(ltb v3 v2)then bif(inb v3 v1.length)then bif(v3 !=v0)then let r4:=yjl ((nth v1 v3 ([],[],false,[])).1,((nth v1 v3 ([],[],false,[])).2).1,(((nth v1 v3 ([],[],false,[])).2).2));bif r4 then some (.inr (.inr (((false,()),()),(),()))) else some (.inl (((v0,()),(v1,()),(v2,()),((i64.wrap (v3+1)),()),()),(),())) else some (.inl (((v0,()),(v1,()),(v2,()),((i64.wrap (v3+1)),()),()),(),())) else none else some (.inr (.inl ((),(),())))
def ycu (x:(yb9).X):=yoA x.1.1.1 x.1.2.1.1 x.1.2.2.1.1 x.1.2.2.2.1.1
def yyU (x:(ygn).X):(yb9).X:=(((x.1.1.1,()),(x.1.2.1.1,()),(x.1.2.2.1.1,()),(0,()),()),(),())
def yBq:Code:=(zeJ yoR 64 116).getD .skip
theorem yNi:zeJ yoR 64 29=some (.block 0 (.loop yBq)):=by kernel_rfl
theorem yPd (x:(yb9).X):zhu ⟨ywP,47,yC5⟩ 0 yBq 116 yb9 yf9 ygC x=ycu x:=by kernel_rfl
def yzb (x:(ygn).X):Nat:=18446744073709551616
def yjI (x:(ygn).X):Option ((yf9).X ⊕ (ygC).X):=zF ycu (yzb x) (yyU x)
def yzF:Seg:=⟨ygn,yf9,ygC,yjI⟩
def yPN:Nat→Option Seg:=fun q=>bif Nat.beq q 29 then some yzF else yC5 q
theorem yNz:FrOk prog ⟨ywP,47,yPN⟩ yoR:=(yNy).loop (sg:=yzF) yb9 yyU (by decide) yNi ycu yzb (by decide) (fun _=>rfl) (fun x r _ h=>h) yPd
abbrev yo4:List Par:= [.rd tA,.rd tI]
abbrev yxh:List OT:= [⟨false,tB,.fz⟩]
def ysy (a0:dA) (a1:Int):Option (zaY yxh×zak yo4) :=let r1:=yah a0;bif(!(!r1))then let r2:=ypw a0 a1;bif(!(!r2))then bif(!a0.2.2.2.2.2.2.2.2.2.2.2)then bif(a0.2.2.2.1 !=(-1))then bif(a0.2.2.2.1 !=a1)then some ((false,()),()) else zkr (yjI (((a1,()),(a0.2.2.1,()),((a0.2.2.1.length:Int),()),((),()),()),(),())) (fun y4 =>some ((true,()),())) (fun y4 =>some ((y4.1.1.1,()),())) else zkr (yjI (((a1,()),(a0.2.2.1,()),((a0.2.2.1.length:Int),()),((),()),()),(),())) (fun y5 =>some ((true,()),())) (fun y5 =>some ((y5.1.1.1,()),())) else some ((false,()),()) else some ((false,()),()) else some ((false,()),())
theorem yR9:ConOk prog 43 ⟨yo4,yxh,fun x=>ysy x.1 x.2.1⟩:=zkG (yNz) func43 ntmps43.symm fun x=>by kernel_rfl
def ygZ (a0:dA) (a1:Int):Bool:=ybY a0 a1
theorem yVg (a0:dA) (a1:Int) (hk:zjw yo4 (a0,a1,())):ysy a0 a1=(fun n=>some ((n,()),())) (ygZ a0 a1):=by
 have hb:a0.2.2.1.length*80≤2^47:=hk.1.2.2.1.1
 have h1:yjI (yLM a1 a0.2.2.1 a0.2.2.1.length)=some (bif(List.range a0.2.2.1.length).any (fun(i:Nat)=> !((i:Int)==a1|| !(yhS (nth a0.2.2.1 i yc))))then .inr (yL0 false)else .inl yLE) :=
  zjh (step:=ycu) (fun i=>yob a1 a0.2.2.1 a0.2.2.1.length i) a0.2.2.1.length (fun(i:Nat)=> !((i:Int)==a1|| !(yhS (nth a0.2.2.1 i yc)))) _ _ (fun i hi=>by
   simp only[ycu,yob,yoA,zkw (show(i:Int)<a0.2.2.1.length by omega),cond_true,wq ((i:Int)+1) (by omega) (by omega),Int.natCast_add,Int.natCast_one,Int.toNat_natCast,zkP hi,zkV,yjl,yc,bne]
   cases((i:Int)==a1)<;>cases yhS (nth a0.2.2.1 i ([],[],false,[]))<;>rfl) (by simp only[ycu,yob,yoA,zk1 (Int.le_refl _),cond_false]) _ (by show _<18446744073709551616; omega)
 unfold ysy ygZ ybY yHP yah ypw;rw[yal,ykt (show a0.2.2.1.length≤1152921504606846976 by omega),h1,List.all_eq_not_any_not];simp only[bne];cases yae a0
 ·rfl
 cases inb a1 a0.2.2.1.length
 ·cases a0.2.2.2.2.2.2.2.2.2.2.2<;>rfl
 cases a0.2.2.2.2.2.2.2.2.2.2.2
 ·cases(a0.2.2.2.1== -1)<;>cases(a0.2.2.2.1==a1)<;>cases((List.range a0.2.2.1.length).any (fun(i:Nat)=> !((i:Int)==a1|| !(yhS (nth a0.2.2.1 i yc)))))<;>rfl
 ·rfl
def yEb:Con:=⟨yo4,yxh,fun x=>(fun n=>some ((n,()),())) (ygZ x.1 x.2.1)⟩
theorem yWo:ConOk prog 43 yEb:=(yR9).mono (fun x r hk h=>(yVg x.1 x.2.1 hk).trans h)
def y0j:Code:=(f51.body).getD .skip
def y0P:Env:=zku TT [(123,ygV)] []
theorem yQo:FrOk prog ⟨y0P,12,fun _=>none⟩ y0j:=zky yf yg ⟨yl9,trivial⟩
abbrev yz6:List Par:= [.rd tG]
abbrev yAr:List OT:= [⟨false,tI,.fz⟩]
def yGR (a0:dG):Option (zaY yAr×zak yz6) :=let r1:=ybP a0;bif(!r1)then some ((0,()),()) else some (((i64.wrap (a0.2*(i64.wrap (a0.1-1)))),()),())
theorem yVK:ConOk prog 51 ⟨yz6,yAr,fun x=>yGR x.1⟩:=zkG (yQo) func51 ntmps51.symm fun x=>by kernel_rfl
def yej (a0:dG):Int :=let r1:=ybP a0;bif(!r1)then 0 else (i64.wrap (a0.2*(i64.wrap (a0.1-1))))
def yuI:Con:=⟨yz6,yAr,fun x=>(fun n=>some ((n,()),())) (yej x.1)⟩
theorem yYc (a0:dG):yGR a0=(fun n=>some ((n,()),())) (yej a0):=zkT (p:=fun(n:Int)=>((n,()),())) (zkE (p:=fun(n:Int)=>((n,()),())) rfl rfl)
theorem yIa:ConOk prog 51 yuI:=(yVK).mono (fun x r _ h=>(yYc x.1).trans h)
def ytr:Code:=(f69.body).getD .skip
def yDp:Env:=zku TT [] []
theorem yUN:FrOk prog ⟨yDp,32,fun _=>none⟩ ytr:=zky yf yg trivial
def yHD:Nat→Option Seg:=fun _=>none
def yfJ:Shape:=⟨[(0,false,[.fz tY]),(3,false,[.int .i64]),(4,false,[.int .i64])],[],[]⟩
def ynf:Shape:=⟨[(0,false,[.fz tY]),(3,false,[.int .i64]),(4,false,[.ci .i64 0])],[],[]⟩
def yne:Shape:=⟨[(0,false,[.fz tY]),(3,false,[.int .i64])],[],[]⟩
def ynm:Shape:=⟨[],[],[]⟩
def yFF (v0:List Int) (v1 v2:Int):Option ((yfJ).X ⊕ ((yne).X ⊕ (ynm).X)) :=bif(ltb v2 (v0.length:Int))then bif(ltb v2 4000)then bif(inb v2 v0.length)then some (.inl (((v0,()),((i64.wrap ((BitVec.ofInt IntKind.i64.bits (i64.wrap ((i64.wrap ((i64.wrap (v1*137))+(i64.wrap (nth v0 v2 0))))+11)) &&& BitVec.ofInt IntKind.i64.bits 1073741823).toNat:Int)),()),((i64.wrap (v2+1)),()),()),(),())) else none else some (.inr (.inl (((v0,()),(v1,()),()),(),()))) else some (.inr (.inl (((v0,()),(v1,()),()),(),())))
def ygQ (x:(yfJ).X):=yFF x.1.1.1 x.1.2.1.1 x.1.2.2.1.1
def yEG (x:(ynf).X):(yfJ).X:=(((x.1.1.1,()),(x.1.2.1.1,()),(0,()),()),(),())
def yF8:Code:=(zeJ ytr 64 116).getD .skip
theorem yUc:zeJ ytr 64 29=some (.block 0 (.loop yF8)):=by kernel_rfl
theorem yWY (x:(yfJ).X):zhu ⟨yDp,32,yHD⟩ 0 yF8 116 yfJ yne ynm x=ygQ x:=by kernel_rfl
def yEV (x:(ynf).X):Nat:=18446744073709551616
def ytQ (x:(ynf).X):Option ((yne).X ⊕ (ynm).X):=zF ygQ (yEV x) (yEG x)
def yFz:Seg:=⟨ynf,yne,ynm,ytQ⟩
def yXy:Nat→Option Seg:=fun q=>bif Nat.beq q 29 then some yFz else yHD q
theorem yUO:FrOk prog ⟨yDp,32,yXy⟩ ytr:=(yUN).loop (sg:=yFz) yfJ yEG (by decide) yUc ygQ yEV (by decide) (fun _=>rfl) (fun x r _ h=>h) yWY
abbrev yt8:List Par:= [.kp tYs .fz]
abbrev yDR:List OT:= [⟨true,tU,.fz⟩]
def ykQ (a0:List Int):Option (zaY yDR×zak yt8) :=zkr (ytQ (((a0,()),((i64.wrap (770770+(a0.length:Int))),()),((),()),()),(),())) (fun y0 =>some (((y0.1.1.1,0,y0.1.2.1.1),()),())) (fun y0 =>none)
theorem yY0:ConOk prog 69 ⟨yt8,yDR,fun x=>ykQ x.1⟩:=zkG (yUO) func69 ntmps69.symm fun x=>by kernel_rfl
def yhI (a0:List Int):List Int×Int×Int:=(((ykQ a0).getD (((([]:List Int),(0:Int),(0:Int)),()),())).1).1
def ycM (u:List Int×Int×Int):Prop:=0≤u.2.1∧(u.1.length:Int)≤140737488355328
theorem y2E (a0:List Int) (hb:a0.length≤140737488355328): ∃s:Int,ykQ a0=some (((a0,0,s),()),()):=by
 have hl: ∃b,ytQ (((a0,()),((i64.wrap (770770+(a0.length:Int))),()),((),()),()),(),())=some b∧(∃s:Int,b= .inl (((a0,()),(s,()),()),(),())):=by
  refine zji (step:=ygQ) (fun x=>(a0.length-(x.1.2.2.1.1:Int).toNat)) (fun x=>(x.1.1.1:List Int)=a0∧(0:Int)≤(x.1.2.2.1.1:Int)) _ ?_ _ _ ⟨rfl,Int.le_refl _⟩ (by show a0.length-_<18446744073709551616; omega)
  rintro⟨⟨⟨(l:List Int),_⟩,⟨(s:Int),_⟩,⟨(i:Int),_⟩,_⟩,_,_⟩ ⟨h0,hi⟩
  simp only at h0 hi;subst h0;simp only[ygQ,yFF];by_cases h1:i<(l.length:Int)
  ·rw[zkw h1]
   by_cases h2:i<4000
   ·rw[zkw h2,zj4.2 ⟨hi,h1⟩]
    refine .inl ⟨_,rfl,⟨rfl,?_⟩,?_⟩
    ·show 0≤i64.wrap (i+1); rw[wr (by omega) (by omega)]; omega
    ·show l.length-(i64.wrap (i+1)).toNat<l.length-i.toNat; rw[wr (by omega) (by omega)]; omega
   ·rw[zk1 (Int.not_lt.1 h2)]
    exact .inr ⟨_,rfl,_,rfl⟩
  ·rw[zk1 (Int.not_lt.1 h1)]
   exact .inr ⟨_,rfl,_,rfl⟩
 obtain⟨b,e,s,rfl⟩:=hl;refine⟨s,?_⟩;unfold ykQ;rw[e]; rfl
theorem y1y (a0:List Int) (hk:zjw yt8 (a0,())):ykQ a0=(fun n=>some ((n,()),())) (yhI a0):=by
 obtain⟨s,e⟩:=y2E a0 (by have:a0.length*1≤2^47:=hk.1.1; omega);unfold yhI;rw[e]; rfl
theorem y4L (a0:List Int) (hb:a0.length≤140737488355328):ycM (yhI a0):=by
 obtain⟨s,e⟩:=y2E a0 hb;unfold yhI;rw[e];exact⟨Int.le_refl _,by show(a0.length:Int)≤_; omega⟩
def yxM:Con:=⟨yt8,yDR,fun x=>(fun n=>some ((n,()),())) (yhI x.1)⟩
theorem yJw:ConOk prog 69 yxM:=(yY0).mono (fun x r hk h=>(y1y x.1 hk).trans h)
def y0G:Code:=(f71.body).getD .skip
def y1c:Env:=zku TT [] []
theorem yQU:FrOk prog ⟨y1c,15,fun _=>none⟩ y0G:=zky yf yg trivial
abbrev yAl:List Par:= [.rd tYs,.rd tI]
abbrev yAR:List OT:= [⟨false,tI,.fz⟩]
def yG3 (a0:List Int) (a1:Int):Option (zaY yAR×zak yAl) :=bif(ltb a1 (i64.wrap (3+(i64.wrap ((a0.length:Int).tdiv 12)))))then some ((a1,()),()) else some (((i64.wrap (3+(i64.wrap ((a0.length:Int).tdiv 12)))),()),())
theorem yWb:ConOk prog 71 ⟨yAl,yAR,fun x=>yG3 x.1 x.2.1⟩:=zkG (yQU) func71 ntmps71.symm fun x=>by kernel_rfl
def ybb (a0:List Int) (a1:Int):Int :=bif(ltb a1 (i64.wrap (3+(i64.wrap ((a0.length:Int).tdiv 12)))))then a1 else (i64.wrap (3+(i64.wrap ((a0.length:Int).tdiv 12))))
def yuU:Con:=⟨yAl,yAR,fun x=>(fun n=>some ((n,()),())) (ybb x.1 x.2.1)⟩
theorem yYA (a0:List Int) (a1:Int):yG3 a0 a1=(fun n=>some ((n,()),())) (ybb a0 a1):=zkT (p:=fun(n:Int)=>((n,()),())) (zkE (p:=fun(n:Int)=>((n,()),())) rfl rfl)
theorem yIi:ConOk prog 71 yuU:=(yWb).mono (fun x r _ h=>(yYA x.1 x.2.1).trans h)
theorem y3z (l:List Int) (n:Int) (hn:0≤n) (hl:l.length≤140737488355328):0≤ybb l n∧ybb l n≤n:=by
 unfold ybb;have h1:0≤(l.length:Int).tdiv 12:=Int.tdiv_nonneg (by omega) (by omega)
 have h2:(l.length:Int).tdiv 12≤(l.length:Int):=by
  rw[Int.tdiv_eq_ediv_of_nonneg (by omega)];exact Int.ediv_le_self _ (by omega)
 rw[wq ((l.length:Int).tdiv 12) (by omega) (by omega),wq (3+(l.length:Int).tdiv 12) (by omega) (by omega)];by_cases h:n<3+(l.length:Int).tdiv 12
 ·rw[zkw h]; exact⟨hn,Int.le_refl _⟩
 ·rw[zk1 (by omega),cond_false]; omega
def y0x:Code:=(f119.body).getD .skip
def y03:Env:=zku TT [(150,ygW)] []
theorem yQJ:FrOk prog ⟨y03,12,fun _=>none⟩ y0x:=zky yf yg ⟨yma,trivial⟩
abbrev yAf:List Par:= [.rd tG]
abbrev yAH:List OT:= [⟨false,tI,.fz⟩]
def yG0 (a0:dG):Option (zaY yAH×zak yAf) :=let r1:=yd a0;bif(!r1)then some ((0,()),()) else some (((i64.wrap (a0.2*(i64.wrap (a0.1-1)))),()),())
theorem yV1:ConOk prog 119 ⟨yAf,yAH,fun x=>yG0 x.1⟩:=zkG (yQJ) func119 ntmps119.symm fun x=>by kernel_rfl
def yn (a0:dG):Int :=let r1:=yd a0;bif(!r1)then 0 else (i64.wrap (a0.2*(i64.wrap (a0.1-1))))
def ynx:Con:=⟨yAf,yAH,fun x=>(fun n=>some ((n,()),())) (yn x.1)⟩
theorem yYt (a0:dG):yG0 a0=(fun n=>some ((n,()),())) (yn a0):=zkT (p:=fun(n:Int)=>((n,()),())) (zkE (p:=fun(n:Int)=>((n,()),())) rfl rfl)
theorem yxY:ConOk prog 119 ynx:=(yV1).mono (fun x r _ h=>(yYt x.1).trans h)
theorem yyo (a:Int×Int):0≤yn a∧yn a≤32:=by
 unfold yn;cases h:yd a
 ·simp
 ·obtain⟨⟨h1,h2⟩,h3,h4⟩:=yl.1 h
  have h5:0≤a.2*(a.1-1):=Int.mul_nonneg (by omega) (by omega);have h6:a.2*(a.1-1)≤8*4:=Int.mul_le_mul h4 (by omega) (by omega) (by omega);simp only[Bool.not_true,cond_false,wq (a.1-1) (by omega) (by omega),wq (a.2*(a.1-1)) (by omega) (by omega)];omega
theorem yyn {a:Int×Int} (h:yd a=true):yn a=a.2*(a.1-1):=by
 unfold yn;obtain⟨⟨h1,h2⟩,h3,h4⟩:=yl.1 h;have h5:0≤a.2*(a.1-1):=Int.mul_nonneg (by omega) (by omega);have h6:a.2*(a.1-1)≤8*4:=Int.mul_le_mul h4 (by omega) (by omega) (by omega);simp only[h,Bool.not_true,cond_false,wq (a.1-1) (by omega) (by omega),wq (a.2*(a.1-1)) (by omega) (by omega)]
def yan (l:List dW) (s:Int):Int:=yaj (fun e:dW=>e.1==s) l
def ye7 (g:dG) (b:Int):Bool:=leb 0 b&&leb b (yn g-1)
def yY (g:dG) (b:Int):Int:=bif ye7 g b then b.tdiv (g.1-1)else -1
def ybV (g:dG) (b:Int):Int:=bif ye7 g b then b.tmod (g.1-1)else -1
theorem yn1 {g:dG} {b:Int} (h:ye7 g b=true):yd g=true∧(0≤b.tdiv (g.1-1)∧b.tdiv (g.1-1)≤g.2-1)∧(0≤b.tmod (g.1-1)∧b.tmod (g.1-1)≤g.1-2):=by
 simp only[ye7,Bool.and_eq_true,zj5]at h;cases hg:yd g
 ·have:yn g=0:=by unfold yn; rw[hg]; rfl
  omega
 ·rw[yyn hg]at h
  have h2:=yl.1 hg;rw[Int.tdiv_eq_ediv_of_nonneg h.1,Int.tmod_eq_emod_of_nonneg h.1];have h3:=Int.ediv_lt_of_lt_mul (show 0<g.1-1 by omega) (show b<g.2*(g.1-1)by omega);have h4:=Int.ediv_nonneg h.1 (show 0≤g.1-1 by omega);have h5:=Int.emod_nonneg b (show g.1-1≠0 by omega);have h6:=Int.emod_lt_of_pos b (show 0<g.1-1 by omega);exact⟨rfl,⟨h4,by omega⟩,h5,by omega⟩
theorem yHv {g:dG} {b:Int} (h:ye7 g b=true):yN g (yY g b)=true:=by
 obtain⟨h1,h2,_⟩:=yn1 h;unfold yY;rw[h,cond_true,yW];exact⟨h1,h2⟩
def ybR (a:dA) (s:Int):List Int×Bool:=bif leb 0 (yan a.2.2.2.2.2.2.2.2.1 s)then((nth a.2.2.2.2.2.2.2.2.1 (yan a.2.2.2.2.2.2.2.2.1 s) (0,[])).2,true)else bif a.2.2.2.2.2.2.2.2.2.2.2 then([],false)else yrL a s
theorem y5r {a:dA} (h:yae a=true) {i:Nat} (hi:i<a.2.2.2.2.2.2.2.2.1.length):(0≤(nth a.2.2.2.2.2.2.2.2.1 i (0,[])).1∧(nth a.2.2.2.2.2.2.2.2.1 i (0,[])).1≤a.2.1.2-1)∧((nth a.2.2.2.2.2.2.2.2.1 i (0,[])).2.length:Int)=a.2.1.1-1∧(nth a.2.2.2.2.2.2.2.2.1 i (0,[])).2.all isW=true∧(0<i→(nth a.2.2.2.2.2.2.2.2.1 ((i-1:Nat):Int) (0,[])).1<(nth a.2.2.2.2.2.2.2.2.1 i (0,[])).1):=by
 have h1:yaY a.2.1 a.2.2.2.2.2.2.2.2.1=true:=by simp only[yae,Bool.and_eq_true]at h; exact h.2.2.2.1
 simp only[yaY,Bool.not_eq_true',List.any_eq_false,List.mem_range]at h1;have h2:=h1 i hi;simp only[yh9,Bool.not_eq_true,Bool.or_eq_false_iff,Bool.not_eq_false',bne_eq_false_iff_eq,Bool.and_eq_true,Bool.and_eq_false_iff,decide_eq_false_iff_not,zj5]at h2;refine⟨h2.1,h2.2.1,h2.2.2.1,fun h0=> ?_⟩;rcases h2.2.2.2 with h3 | h3
 ·exact absurd h0 h3
 ·have:=mt zk0 (by rw[h3]; simp: ¬leb (nth a.2.2.2.2.2.2.2.2.1 i (0,[])).1 (nth a.2.2.2.2.2.2.2.2.1 ((i-1:Nat):Int) (0,[])).1=true)
  omega
theorem yBg {a:dA} {s:Int} (h:yae a=true) (hs:yN a.2.1 s=true) (h2:(ybR a s).2=true):((ybR a s).1.length:Int)=a.2.1.1-1:=by
 have hg:=yl.1 (yi7 h);unfold ybR at h2 ⊢;cases hk:leb 0 (yan a.2.2.2.2.2.2.2.2.1 s)
 ·rw[hk]at h2
  simp only[cond_false]at h2 ⊢;cases hb:a.2.2.2.2.2.2.2.2.2.2.2
  ·rw[hb]at h2
   simp only[cond_false]at h2 ⊢;unfold yrL at h2 ⊢;cases hw:(yR a s).2
   ·rw[hw]at h2; cases h2
   ·simp only[cond_true,List.length_map,List.length_range]; omega
  ·rw[hb]at h2; cases h2
 ·have h3:=zj4.1 (yn8 (d:=((0,[]):dW)) hk).1
  have:=(y5r h (i:=(yan a.2.2.2.2.2.2.2.2.1 s).toNat) (by unfold yan; omega)).2.1;rw[show(((yan a.2.2.2.2.2.2.2.2.1 s).toNat:Nat):Int)=yan a.2.2.2.2.2.2.2.2.1 s by have:=zj5.1 hk; omega]at this;exact this
theorem y2r (g:dG) (b:Int):yb b 0 (i64.wrap (yn g-1))=ye7 g b:=by
 have:=yyo g;rw[wr (by omega) (by omega),ybU]; rfl
theorem yX8 (a:Int×Int):yej a=yn a:=by kernel_rfl
def yTw:Code:=(f180.body).getD .skip
def yTZ:Env:=zku TT [(82,yL),(119,ynx)] []
theorem yLp:FrOk prog ⟨yTZ,16,fun _=>none⟩ yTw:=zky yf yg ⟨yT,yxY,trivial⟩
abbrev ync:List Par:= [.rd tG,.rd tI]
abbrev yuw:List OT:= [⟨false,tI,.fz⟩]
def yqN (a0:dG) (a1:Int):Option (zaY yuw×zak ync) :=let r1:=yn a0;let r2:=yb a1 0 (i64.wrap (r1-1));bif(!r2)then some (((-1),()),()) else bif((i64.wrap (a0.1-1)) !=0)then some (((i64.wrap (a1.tdiv (i64.wrap (a0.1-1)))),()),()) else none
theorem yO5:ConOk prog 180 ⟨ync,yuw,fun x=>yqN x.1 x.2.1⟩:=zkG (yLp) func180 ntmps180.symm fun x=>by kernel_rfl
def yjn (a0:dG) (a1:Int):Int:=yY a0 a1
theorem yR4 (a0:dG) (a1:Int) (hk:zjw ync (a0,a1,())):yqN a0 a1=(fun n=>some ((n,()),())) (yjn a0 a1):=by
 unfold yqN yjn yY;simp only[y2r];cases hb:ye7 a0 a1
 ·rfl
 ·obtain⟨h1,h2,h3⟩:=yn1 hb
  have h4:=yl.1 h1;rw[wq (a0.1-1) (by omega) (by omega),show(a0.1-1 !=0)=true from bne_iff_ne.2 (by omega),wr (by omega) (by omega)]; rfl
def yBU:Con:=⟨ync,yuw,fun x=>(fun n=>some ((n,()),())) (yjn x.1 x.2.1)⟩
theorem yST:ConOk prog 180 yBU:=(yO5).mono (fun x r hk h=>(yR4 x.1 x.2.1 hk).trans h)
def yyt:Code:=(f215.body).getD .skip
def yHb:Env:=zku TT [] []
theorem yX5:FrOk prog ⟨yHb,22,fun _=>none⟩ yyt:=zky yf yg trivial
def yJn:Nat→Option Seg:=fun _=>none
def yeM:Shape:=⟨[(1,false,[.int .i64]),(2,false,[.ptr 0 0]),(5,false,[.int .i64])],[(0,[.int .i64,.int .i64,.int .i64,.br tM,.int .i64,.int .i64,.int .i64,.int .i64,.int .i64,.br tW,.int .i64,.bool,.bool])],[]⟩
def ykn:Shape:=⟨[(1,false,[.int .i64]),(2,false,[.ptr 0 0]),(5,false,[.ci .i64 0])],[(0,[.int .i64,.int .i64,.int .i64,.br tM,.int .i64,.int .i64,.int .i64,.int .i64,.int .i64,.br tW,.int .i64,.bool,.bool])],[]⟩
def ykk:Shape:=⟨[],[],[]⟩
def ykq:Shape:=⟨[(4,false,[.int .i64])],[],[]⟩
abbrev yvj (v0 v1:Int) (v2:dA):(yeM).X:=(((v0,()),((),()),(v1,()),()),((v2.1,v2.2.1.1,v2.2.1.2,v2.2.2.1,v2.2.2.2.1,v2.2.2.2.2.1,v2.2.2.2.2.2.1,v2.2.2.2.2.2.2.1,v2.2.2.2.2.2.2.2.1,v2.2.2.2.2.2.2.2.2.1,v2.2.2.2.2.2.2.2.2.2.1,v2.2.2.2.2.2.2.2.2.2.2.1,v2.2.2.2.2.2.2.2.2.2.2.2,()),()),())
abbrev yVd (v0:Int) (v1:dA):(ykn).X:=(((v0,()),((),()),((),()),()),((v1.1,v1.2.1.1,v1.2.1.2,v1.2.2.1,v1.2.2.2.1,v1.2.2.2.2.1,v1.2.2.2.2.2.1,v1.2.2.2.2.2.2.1,v1.2.2.2.2.2.2.2.1,v1.2.2.2.2.2.2.2.2.1,v1.2.2.2.2.2.2.2.2.2.1,v1.2.2.2.2.2.2.2.2.2.2.1,v1.2.2.2.2.2.2.2.2.2.2.2,()),()),())
abbrev yVa  :(ykk).X:=((),(),())
abbrev yGJ (v0:Int):(ykq).X:=(((v0,()),()),(),())
def yv0 (v0 v1 v2 v3 v4:Int) (v5:List dM) (v6 v7 v8 v9 v10:Int) (v11:List dW) (v12:Int) (v13 v14:Bool):Option ((yeM).X ⊕ ((ykk).X ⊕ (ykq).X)) :=bif(ltb v1 (v11.length:Int))then bif(inb v1 v11.length)then bif((nth v11 v1 (0,[])).1==v0)then some (.inr (.inr (((v1,()),()),(),()))) else some (.inl (((v0,()),((),()),((i64.wrap (v1+1)),()),()),((v2,v3,v4,v5,v6,v7,v8,v9,v10,v11,v12,v13,v14,()),()),())) else none else some (.inr (.inl ((),(),())))
def ye2 (x:(yeM).X):=yv0 x.1.1.1 x.1.2.2.1.1 x.2.1.1.1 x.2.1.1.2.1 x.2.1.1.2.2.1 x.2.1.1.2.2.2.1 x.2.1.1.2.2.2.2.1 x.2.1.1.2.2.2.2.2.1 x.2.1.1.2.2.2.2.2.2.1 x.2.1.1.2.2.2.2.2.2.2.1 x.2.1.1.2.2.2.2.2.2.2.2.1 x.2.1.1.2.2.2.2.2.2.2.2.2.1 x.2.1.1.2.2.2.2.2.2.2.2.2.2.1 x.2.1.1.2.2.2.2.2.2.2.2.2.2.2.1 x.2.1.1.2.2.2.2.2.2.2.2.2.2.2.2.1
def yGA (x:(ykn).X):(yeM).X:=(((x.1.1.1,()),((),()),(0,()),()),((x.2.1.1.1,x.2.1.1.2.1,x.2.1.1.2.2.1,x.2.1.1.2.2.2.1,x.2.1.1.2.2.2.2.1,x.2.1.1.2.2.2.2.2.1,x.2.1.1.2.2.2.2.2.2.1,x.2.1.1.2.2.2.2.2.2.2.1,x.2.1.1.2.2.2.2.2.2.2.2.1,x.2.1.1.2.2.2.2.2.2.2.2.2.1,x.2.1.1.2.2.2.2.2.2.2.2.2.2.1,x.2.1.1.2.2.2.2.2.2.2.2.2.2.2.1,x.2.1.1.2.2.2.2.2.2.2.2.2.2.2.2.1,()),()),())
def yHO:Code:=(zeJ yyt 64 52).getD .skip
theorem yXW:zeJ yyt 64 13=some (.block 0 (.loop yHO)):=by kernel_rfl
theorem yZz (x:(yeM).X):zhu ⟨yHb,22,yJn⟩ 0 yHO 52 yeM ykk ykq x=ye2 x:=by kernel_rfl
def yGD (x:(ykn).X):Nat:=18446744073709551616
def yw4 (x:(ykn).X):Option ((ykk).X ⊕ (ykq).X):=zF ye2 (yGD x) (yGA x)
def yG9:Seg:=⟨ykn,ykk,ykq,yw4⟩
def y0N:Nat→Option Seg:=fun q=>bif Nat.beq q 13 then some yG9 else yJn q
theorem yX6:FrOk prog ⟨yHb,22,y0N⟩ yyt:=(yX5).loop (sg:=yG9) yeM yGA (by decide) yXW ye2 yGD (by decide) (fun _=>rfl) (fun x r _ h=>h) yZz
abbrev yyv:List Par:= [.rd tA,.rd tI]
abbrev yHh:List OT:= [⟨false,tI,.fz⟩]
def yBf (a0:dA) (a1:Int):Option (zaY yHh×zak yyv) :=zkr (yw4 (((a1,()),((),()),((),()),()),((a0.1,a0.2.1.1,a0.2.1.2,a0.2.2.1,a0.2.2.2.1,a0.2.2.2.2.1,a0.2.2.2.2.2.1,a0.2.2.2.2.2.2.1,a0.2.2.2.2.2.2.2.1,a0.2.2.2.2.2.2.2.2.1,a0.2.2.2.2.2.2.2.2.2.1,a0.2.2.2.2.2.2.2.2.2.2.1,a0.2.2.2.2.2.2.2.2.2.2.2,()),()),())) (fun y0 =>some (((-1),()),())) (fun y0 =>some ((y0.1.1.1,()),()))
theorem y1I:ConOk prog 215 ⟨yyv,yHh,fun x=>yBf x.1 x.2.1⟩:=zkG (yX6) func215 ntmps215.symm fun x=>by kernel_rfl
def yjD (a0:dA) (a1:Int):Int:=yan a0.2.2.2.2.2.2.2.2.1 a1
theorem y2S (a0:dA) (a1:Int) (hk:zjw yyv (a0,a1,())):yBf a0 a1=(fun n=>some ((n,()),())) (yjD a0 a1):=by
 have hb:a0.2.2.2.2.2.2.2.2.1.length*32≤2^47:=hk.1.2.2.2.2.2.2.2.2.1.1
 have h1:yw4 (yVd a1 a0)=some (bif leb 0 (yan a0.2.2.2.2.2.2.2.2.1 a1)then .inr (yGJ (yan a0.2.2.2.2.2.2.2.2.1 a1))else .inl yVa) :=
  yLA (step:=ye2) a0.2.2.2.2.2.2.2.2.1 (0,[]) (fun i=>yvj a1 i a0) (fun e:dW=>e.1==a1) (fun i=> .inr (yGJ i)) _ (fun i hi=>by
   simp only[ye2,yvj,yv0,zkw (show(i:Int)<a0.2.2.2.2.2.2.2.2.1.length by omega),cond_true,wq ((i:Int)+1) (by omega) (by omega),Int.natCast_add,Int.natCast_one,Int.toNat_natCast,zkP hi,zkQ]
   cases((a0.2.2.2.2.2.2.2.2.1.getD i (0,[])).1==a1)<;>rfl) (by simp only[ye2,yvj,yv0,zk1 (Int.le_refl _),cond_false]) _ (by show _<18446744073709551616; omega)
 unfold yBf yjD;rw[h1];cases h:leb 0 (yan a0.2.2.2.2.2.2.2.2.1 a1)
 ·rw[show yan a0.2.2.2.2.2.2.2.2.1 a1= -1 from yX7 h]; rfl
 ·rfl
def yA2:Con:=⟨yyv,yHh,fun x=>(fun n=>some ((n,()),())) (yjD x.1 x.2.1)⟩
theorem yMo:ConOk prog 215 yA2:=(y1I).mono (fun x r hk h=>(y2S x.1 x.2.1 hk).trans h)
def yts:Code:=(f161.body).getD .skip
def yDq:Env:=zku TT [] []
theorem yUP:FrOk prog ⟨yDq,18,fun _=>none⟩ yts:=zky yf yg trivial
def yHE:Nat→Option Seg:=fun _=>none
def ydH:Shape:=⟨[(0,false,[.br tI]),(1,false,[.int .i64]),(5,false,[.int .i64])],[],[]⟩
def yiP:Shape:=⟨[(0,false,[.br tI]),(1,false,[.int .i64]),(5,false,[.ci .i64 0])],[],[]⟩
def yiC:Shape:=⟨[],[],[]⟩
def yi5:Shape:=⟨[(4,false,[.bool])],[],[]⟩
abbrev ysr (v0:List Int) (v1 v2:Int):(ydH).X:=(((v0,()),(v1,()),(v2,()),()),(),())
abbrev yRy (v0:List Int) (v1:Int):(yiP).X:=(((v0,()),(v1,()),((),()),()),(),())
abbrev yRo  :(yiC).X:=((),(),())
abbrev yRJ (v0:Bool):(yi5).X:=(((v0,()),()),(),())
def ys1 (v0:List Int) (v1 v2:Int):Option ((ydH).X ⊕ ((yiC).X ⊕ (yi5).X)) :=bif(ltb v2 (v0.length:Int))then bif(inb v2 v0.length)then bif((nth v0 v2 0)==v1)then some (.inr (.inr (((true,()),()),(),()))) else some (.inl (((v0,()),(v1,()),((i64.wrap (v2+1)),()),()),(),())) else none else some (.inr (.inl ((),(),())))
def yed (x:(ydH).X):=ys1 x.1.1.1 x.1.2.1.1 x.1.2.2.1.1
def yEH (x:(yiP).X):(ydH).X:=(((x.1.1.1,()),(x.1.2.1.1,()),(0,()),()),(),())
def yF9:Code:=(zeJ yts 64 52).getD .skip
theorem yUd:zeJ yts 64 13=some (.block 0 (.loop yF9)):=by kernel_rfl
theorem yWZ (x:(ydH).X):zhu ⟨yDq,18,yHE⟩ 0 yF9 52 ydH yiC yi5 x=yed x:=by kernel_rfl
def yEW (x:(yiP).X):Nat:=18446744073709551616
def ytR (x:(yiP).X):Option ((yiC).X ⊕ (yi5).X):=zF yed (yEW x) (yEH x)
def yFA:Seg:=⟨yiP,yiC,yi5,ytR⟩
def yXz:Nat→Option Seg:=fun q=>bif Nat.beq q 13 then some yFA else yHE q
theorem yUQ:FrOk prog ⟨yDq,18,yXz⟩ yts:=(yUP).loop (sg:=yFA) ydH yEH (by decide) yUd yed yEW (by decide) (fun _=>rfl) (fun x r _ h=>h) yWZ
abbrev yt9:List Par:= [.rd tL,.rd tI]
abbrev yDS:List OT:= [⟨false,tB,.fz⟩]
def yye (a0:List Int) (a1:Int):Option (zaY yDS×zak yt9) :=zkr (ytR (((a0,()),(a1,()),((),()),()),(),())) (fun y0 =>some ((false,()),())) (fun y0 =>some ((y0.1.1.1,()),()))
theorem yY1:ConOk prog 161 ⟨yt9,yDS,fun x=>yye x.1 x.2.1⟩:=zkG (yUQ) func161 ntmps161.symm fun x=>by kernel_rfl
def yhJ (a0:List Int) (a1:Int):Bool:=a0.any (· ==a1)
theorem y1z (a0:List Int) (a1:Int) (hk:zjw yt9 (a0,a1,())):yye a0 a1=(fun n=>some ((n,()),())) (yhJ a0 a1):=by
 have hb:a0.length*8≤2^47:=hk.1.1
 have h1:ytR (yRy a0 a1)=some (bif a0.all (· !=a1)then .inl yRo else .inr (yRJ true)) :=
  zj7 (step:=yed) a0 0 (fun i=>ysr a0 a1 i) (· !=a1) _ _ (fun i hi=>by
   simp only[yed,ysr,ys1,zkw (show(i:Int)<a0.length by omega),cond_true,wq ((i:Int)+1) (by omega) (by omega),Int.natCast_add,Int.natCast_one,Int.toNat_natCast,zkP hi,zkQ,bne]
   cases(a0.getD i 0==a1)<;>rfl) (by simp only[yed,ysr,ys1,zk1 (Int.le_refl _),cond_false]) _ (by show _<18446744073709551616; omega)
 unfold yye yhJ;rw[h1,show a0.any (· ==a1)= !(a0.all (· !=a1))by simp[List.all_eq_not_any_not,bne]];cases a0.all (· !=a1)<;>rfl
def yxN:Con:=⟨yt9,yDS,fun x=>(fun n=>some ((n,()),())) (yhJ x.1 x.2.1)⟩
theorem yJx:ConOk prog 161 yxN:=(yY1).mono (fun x r hk h=>(y1z x.1 x.2.1 hk).trans h)
def yoZ:Code:=(f90.body).getD .skip
def ywX:Env:=zku TT [(82,yL),(160,ygX),(161,yxN)] []
theorem yN4:FrOk prog ⟨ywX,60,fun _=>none⟩ yoZ:=zky yf yg ⟨yT,ymb,yJx,trivial⟩
def yDg:Nat→Option Seg:=fun _=>none
def ycj:Shape:=⟨[(1,false,[.int .i64]),(2,false,[.ptr 0 0]),(6,false,[.br tI]),(7,false,[.int .i64])],[(0,[.br tL,.br tW,.bool,.br tI])],[]⟩
def ygx:Shape:=⟨[(1,false,[.int .i64]),(2,false,[.ptr 0 0]),(6,false,[.br tI]),(7,false,[.ci .i64 0])],[(0,[.br tL,.br tW,.bool,.br tI])],[]⟩
def ygj:Shape:=⟨[(6,false,[.br tI])],[],[]⟩
def yjW:Shape:=⟨[],[],[]⟩
abbrev yol (v0:Int) (v1:List Int) (v2:Int) (v3:dM):(ycj).X:=(((v0,()),((),()),(v1,()),(v2,()),()),((v3.1,v3.2.1,v3.2.2.1,v3.2.2.2,()),()),())
abbrev yLW (v0:Int) (v1:List Int) (v2:dM):(ygx).X:=(((v0,()),((),()),(v1,()),((),()),()),((v2.1,v2.2.1,v2.2.2.1,v2.2.2.2,()),()),())
abbrev yzy (v0:List Int):(ygj).X:=(((v0,()),()),(),())
def yoL (v0:Int) (v1:List Int) (v2:Int) (v3:List (List Int)) (v4:List dW) (v5:Bool) (v6:List Int):Option ((ycj).X ⊕ ((ygj).X ⊕ (yjW).X)) :=bif(ltb v2 (v4.length:Int))then bif(inb v2 v4.length)then bif((nth v4 v2 (0,[])).1==v0)then bif(inb v2 v4.length)then some (.inl (((v0,()),((),()),((nth v4 v2 (0,[])).2,()),((i64.wrap (v2+1)),()),()),((v3,v4,v5,v6,()),()),())) else none else some (.inl (((v0,()),((),()),(v1,()),((i64.wrap (v2+1)),()),()),((v3,v4,v5,v6,()),()),())) else none else some (.inr (.inl (((v1,()),()),(),())))
def ycF (x:(ycj).X):=yoL x.1.1.1 x.1.2.2.1.1 x.1.2.2.2.1.1 x.2.1.1.1 x.2.1.1.2.1 x.2.1.1.2.2.1 x.2.1.1.2.2.2.1
def yy5 (x:(ygx).X):(ycj).X:=(((x.1.1.1,()),((),()),(x.1.2.2.1.1,()),(0,()),()),((x.2.1.1.1,x.2.1.1.2.1,x.2.1.1.2.2.1,x.2.1.1.2.2.2.1,()),()),())
def yBB:Code:=(zeJ yoZ 64 244).getD .skip
theorem yNt:zeJ yoZ 64 61=some (.block 0 (.loop yBB)):=by kernel_rfl
theorem yPo (x:(ycj).X):zhu ⟨ywX,60,yDg⟩ 0 yBB 244 ycj ygj yjW x=ycF x:=by kernel_rfl
def yzm (x:(ygx).X):Nat:=18446744073709551616
def yp1 (x:(ygx).X):Option ((ygj).X ⊕ (yjW).X):=zF ycF (yzm x) (yy5 x)
def yzQ:Seg:=⟨ygx,ygj,yjW,yp1⟩
def yPX:Nat→Option Seg:=fun q=>bif Nat.beq q 61 then some yzQ else yDg q
theorem yN5:FrOk prog ⟨ywX,60,yPX⟩ yoZ:=(yN4).loop (sg:=yzQ) ycj yy5 (by decide) yNt ycF yzm (by decide) (fun _=>rfl) (fun x r _ h=>h) yPo
abbrev ypf:List Par:= [.rd tM,.rd tI]
abbrev yxz:List OT:= [⟨false,tL,(.ow .fz)⟩,⟨false,tB,.fz⟩]
def ysL (a0:dM) (a1:Int):Option (zaY yxz×zak ypf) :=let r1:=yaS a0;bif(!(!r1))then bif(!a0.2.2.1)then let r2:=yb a1 0 (i64.wrap ((a0.1.length:Int)-1));bif(!(!r2))then let r3:=yhJ a0.2.2.2 a1;bif r3 then some ((([]:List Int),false,()),()) else bif(inb a1 a0.1.length)then zkr (yp1 (((a1,()),((),()),((nth a0.1 a1 []),()),((),()),()),((a0.1,a0.2.1,a0.2.2.1,a0.2.2.2,()),()),())) (fun y3 =>bif(zkj ([]:List Int).length y3.1.1.1.length 8)then some (((([]:List Int)++y3.1.1.1),true,()),()) else none) (fun y3 =>none) else none else some ((([]:List Int),false,()),()) else some ((([]:List Int),false,()),()) else some ((([]:List Int),false,()),())
theorem ySt:ConOk prog 90 ⟨ypf,yxz,fun x=>ysL x.1 x.2.1⟩:=zkG (yN5) func90 ntmps90.symm fun x=>by kernel_rfl
def ykF (a0:dM) (a1:Int):List Int×Bool:=yQ a0 a1
theorem yVz (a0:dM) (a1:Int) (hk:zjw ypf (a0,a1,())):ysL a0 a1=(fun n=>some ((n.1,n.2,()),())) (ykF a0 a1):=by
 have hb1:a0.1.length*24≤2^47:=hk.1.1.1;have hb2:a0.2.1.length*32≤2^47:=hk.1.2.1.1
 have h1: ∀s,yp1 (yLW a1 s a0)=some (.inl (yzy (yhL a1 a0.2.1 s))):=fun s =>
  zkv (step:=ycF) a0.2.1 (0,[]) (fun i s=>yol a1 s i a0) (fun s w=>bif w.1==a1 then w.2 else s) (fun _ _=>True) (fun s=> .inl (yzy s)) (fun i s hi _=>⟨by
   simp only[ycF,yol,yoL,zkw (show(i:Int)<a0.2.1.length by omega),cond_true,wq ((i:Int)+1) (by omega) (by omega),Int.natCast_add,Int.natCast_one,Int.toNat_natCast,zkP hi,zkQ]
   cases((a0.2.1.getD i (0,[])).1==a1)<;>rfl,trivial⟩) (fun s _=>by simp only[ycF,yol,yoL,zk1 (Int.le_refl _),cond_false]) s trivial _ (by show _<18446744073709551616; omega)
 unfold ysL ykF yQ yta;rw[ykt (show a0.1.length≤1152921504606846976 by omega)];unfold yaS yhJ;simp only[h1,zkL,List.nil_append];cases yv a0
 ·rfl
 cases a0.2.2.1
 ·cases hi:inb a1 a0.1.length
  ·rfl
  ·cases a0.2.2.2.any (· ==a1)
   ·have hs:(yhL a1 a0.2.1 (nth a0.1 a1 [])).length*8≤2^47 :=
     yI2 (P:=fun s=>s.length*8≤2^47) (yxU (P:=fun s:List Int=>s.length*8≤2^47) hi fun x hx=>(hk.1.1.2 x hx).1) fun w hw=>(hk.1.2.1.2 w hw).2.1
    simp only[Bool.not_true,Bool.not_false,cond_true,cond_false,Bool.true_and,show zkj ([]:List Int).length (yhL a1 a0.2.1 (nth a0.1 a1 [])).length 8=true from zkD.2 (by rw[List.length_nil]; omega)]
   ·rfl
 ·rfl
def yEq:Con:=⟨ypf,yxz,fun x=>(fun n=>some ((n.1,n.2,()),())) (ykF x.1 x.2.1)⟩
theorem yWD:ConOk prog 90 yEq:=(ySt).mono (fun x r hk h=>(yVz x.1 x.2.1 hk).trans h)
def y0A:Code:=(f211.body).getD .skip
def y06:Env:=zku TT [(82,yL)] []
theorem yQM:FrOk prog ⟨y06,34,fun _=>none⟩ y0A:=zky yf yg ⟨yT,trivial⟩
abbrev yrA:List Par:= [.rd tA,.rd tI,.rd tI]
abbrev yAK:List OT:= [⟨false,tB,.fz⟩]
def yvH (a0:dA) (a1 a2:Int):Option (zaY yAK×zak yrA) :=let r1:=yb a1 0 (i64.wrap ((a0.2.2.1.length:Int)-1));bif r1 then bif(inb a1 a0.2.2.1.length)then bif(!((((nth a0.2.2.1 a1 ([],[],false,[])).2).2).1))then bif(!(a1 !=a0.2.2.2.1))then some (((ltb a2 a0.2.2.2.2.1),()),()) else some ((true,()),()) else some ((false,()),()) else none else some ((false,()),())
theorem yV4:ConOk prog 211 ⟨yrA,yAK,fun x=>yvH x.1 x.2.1 x.2.2.1⟩:=zkG (yQM) func211 ntmps211.symm fun x=>by kernel_rfl
def yel (a0:dA) (a1 a2:Int):Bool:=ycQ a0 a1 a2
theorem yYw (a0:dA) (a1 a2:Int) (hk:zjw yrA (a0,a1,a2,())):yvH a0 a1 a2=(fun n=>some ((n,()),())) (yel a0 a1 a2):=by
 have hb:a0.2.2.1.length*80≤2^47:=hk.1.2.2.1.1;unfold yvH yel ycQ yc;rw[ykt (show a0.2.2.1.length≤1152921504606846976 by omega)];cases inb a1 a0.2.2.1.length
 ·rfl
 ·cases(nth a0.2.2.1 a1 ([],[],false,[])).2.2.1<;>cases(a1 !=a0.2.2.2.1)<;>rfl
def yuR:Con:=⟨yrA,yAK,fun x=>(fun n=>some ((n,()),())) (yel x.1 x.2.1 x.2.2.1)⟩
theorem yIg:ConOk prog 211 yuR:=(yV4).mono (fun x r hk h=>(yYw x.1 x.2.1 x.2.2.1 hk).trans h)
def y0K:Code:=(f246.body).getD .skip
def y1g:Env:=zku TT [(90,yEq),(113,ydT),(211,yuR)] []
theorem yQ7:FrOk prog ⟨y1g,36,fun _=>none⟩ y0K:=zky yf yg ⟨yWD,yg5,yIg,trivial⟩
abbrev yrE:List Par:= [.rd tA,.rd tI,.rd tI]
abbrev yAW:List OT:= [⟨false,tI,.fz⟩,⟨false,tB,.fz⟩]
def yvN (a0:dA) (a1 a2:Int):Option (zaY yAW×zak yrE) :=let r1:=yel a0 a1 a2;bif(!r1)then some ((0,false,()),()) else bif(inb a1 a0.2.2.1.length)then let r2:=yba a2;let r3:=ykF ((nth a0.2.2.1 a1 ([],[],false,[])).1,((nth a0.2.2.1 a1 ([],[],false,[])).2).1,(((nth a0.2.2.1 a1 ([],[],false,[])).2).2)) r2;bif(!(!r3.2))then bif((r3.1.length:Int) !=1)then some ((0,false,()),()) else bif(inb 0 r3.1.length)then some (((nth r3.1 0 0),true,()),()) else none else some ((0,false,()),()) else none
theorem yWj:ConOk prog 246 ⟨yrE,yAW,fun x=>yvN x.1 x.2.1 x.2.2.1⟩:=zkG (yQ7) func246 ntmps246.symm fun x=>by kernel_rfl
def yl8 (a0:dA) (a1 a2:Int):Int×Bool:=(yq2 a0 a1 a2,yG a0 a1 a2)
theorem yYG (a0:dA) (a1 a2:Int) (hk:zjw yrE (a0,a1,a2,())):yvN a0 a1 a2=(fun n=>some ((n.1,n.2,()),())) (yl8 a0 a1 a2):=by
 unfold yvN yl8 yq2 yel;simp only[zkV,yeZ,ykF];rw[show yG a0 a1 a2=(ycQ a0 a1 a2&&((ydw a0 a1 a2).2&&((ydw a0 a1 a2).1.length:Int)==1))from rfl];rw[show yQ (nth a0.2.2.1 a1 ([],[],false,[])) (yy a2)=ydw a0 a1 a2 from rfl];cases hl:ycQ a0 a1 a2
 ·rfl
 ·rw[show inb a1 a0.2.2.1.length=true by unfold ycQ at hl; exact(Bool.and_eq_true_iff.1 hl).1]
  cases(ydw a0 a1 a2).2
  ·rfl
  ·rw[bne]
   cases h1:(((ydw a0 a1 a2).1.length:Int)==1)
   ·rfl
   ·rw[show inb 0 (ydw a0 a1 a2).1.length=true from zj4.2 (by have:=beq_iff_eq.1 h1; omega)]; rfl
def yGv:Con:=⟨yrE,yAW,fun x=>(fun n=>some ((n.1,n.2,()),())) (yl8 x.1 x.2.1 x.2.2.1)⟩
theorem yZp:ConOk prog 246 yGv:=(yWj).mono (fun x r hk h=>(yYG x.1 x.2.1 x.2.2.1 hk).trans h)
def yij:Code:=(f247.body).getD .skip
def ynK:Env:=zku TT [] []
theorem yH3:FrOk prog ⟨ynK,23,fun _=>none⟩ yij:=zky yf yg trivial
def yty:Nat→Option Seg:=fun _=>none
def yaR:Shape:=⟨[(0,false,[.br tI]),(1,false,[.int .i64]),(5,false,[.int .i64]),(6,false,[.int .i64])],[],[]⟩
def ydg:Shape:=⟨[(0,false,[.br tI]),(1,false,[.int .i64]),(5,false,[.ci .i64 0]),(6,false,[.ci .i64 0])],[],[]⟩
def yde:Shape:=⟨[(5,false,[.int .i64])],[],[]⟩
def yfK:Shape:=⟨[],[],[]⟩
abbrev yjC (v0:List Int) (v1 v2 v3:Int):(yaR).X:=(((v0,()),(v1,()),(v2,()),(v3,()),()),(),())
abbrev yHq (v0:List Int) (v1:Int):(ydg).X:=(((v0,()),(v1,()),((),()),((),()),()),(),())
abbrev yHo (v0:Int):(yde).X:=(((v0,()),()),(),())
def yjG (v0:List Int) (v1 v2 v3:Int):Option ((yaR).X ⊕ ((yde).X ⊕ (yfK).X)) :=bif(ltb v3 (v0.length:Int))then bif(v3 !=v1)then bif(inb v3 v0.length)then some (.inl (((v0,()),(v1,()),((i64.wrap ((BitVec.ofInt IntKind.i64.bits v2 ^^^ BitVec.ofInt IntKind.i64.bits (nth v0 v3 0)).toNat:Int)),()),((i64.wrap (v3+1)),()),()),(),())) else none else some (.inl (((v0,()),(v1,()),(v2,()),((i64.wrap (v3+1)),()),()),(),())) else some (.inr (.inl (((v2,()),()),(),())))
def ya0 (x:(yaR).X):=yjG x.1.1.1 x.1.2.1.1 x.1.2.2.1.1 x.1.2.2.2.1.1
def yq8 (x:(ydg).X):(yaR).X:=(((x.1.1.1,()),(x.1.2.1.1,()),(0,()),(0,()),()),(),())
def ys9:Code:=(zeJ yij 64 116).getD .skip
theorem yHK:zeJ yij 64 29=some (.block 0 (.loop ys9)):=by kernel_rfl
theorem yIn (x:(yaR).X):zhu ⟨ynK,23,yty⟩ 0 ys9 116 yaR yde yfK x=ya0 x:=by kernel_rfl
def yra (x:(ydg).X):Nat:=18446744073709551616
def yj9 (x:(ydg).X):Option ((yde).X ⊕ (yfK).X):=zF ya0 (yra x) (yq8 x)
def yri:Seg:=⟨ydg,yde,yfK,yj9⟩
def yIz:Nat→Option Seg:=fun q=>bif Nat.beq q 29 then some yri else yty q
theorem yH4:FrOk prog ⟨ynK,23,yIz⟩ yij:=(yH3).loop (sg:=yri) yaR yq8 (by decide) yHK ya0 yra (by decide) (fun _=>rfl) (fun x r _ h=>h) yIn
abbrev yir:List Par:= [.rd tL,.rd tI]
abbrev yn0:List OT:= [⟨false,tI,.fz⟩]
def ylA (a0:List Int) (a1:Int):Option (zaY yn0×zak yir) :=zkr (yj9 (((a0,()),(a1,()),((),()),((),()),()),(),())) (fun y0 =>some ((y0.1.1.1,()),())) (fun y0 =>none)
theorem yI6:ConOk prog 247 ⟨yir,yn0,fun x=>ylA x.1 x.2.1⟩:=zkG (yH4) func247 ntmps247.symm fun x=>by kernel_rfl
def yfB (a0:List Int) (a1:Int):Int:=yoa a0 a1
theorem yKc (a0:List Int) (a1:Int) (hk:zjw yir (a0,a1,())):ylA a0 a1=(fun n=>some ((n,()),())) (yfB a0 a1):=by
 have hb:a0.length*8≤2^47:=hk.1.1
 have h1:=zkB (step:=ya0) a0.length (fun i s=>yjC a0 a1 s i) (fun n (i:Nat)=>bif(i:Int) !=a1 then xw n (nth a0 i 0)else n) (fun _ _=>True) (fun s=> .inl (yHo s)) (fun i s hi _=>⟨by
  simp only[ya0,yjC,yjG,zkw (show(i:Int)<a0.length by omega),cond_true,wq ((i:Int)+1) (by omega) (by omega),Int.natCast_add,Int.natCast_one,Int.toNat_natCast,zkP hi]
  cases((i:Int) !=a1)<;>rfl,trivial⟩) (fun s _=>by simp only[ya0,yjC,yjG,zk1 (Int.le_refl _),cond_false]) 0 trivial 18446744073709551616 (by omega)
 rw[y40]at h1;unfold ylA yfB;rw[show yj9 (yHq a0 a1)=_ from h1]; rfl
def yuT:Con:=⟨yir,yn0,fun x=>(fun n=>some ((n,()),())) (yfB x.1 x.2.1)⟩
theorem yKm:ConOk prog 247 yuT:=(yI6).mono (fun x r hk h=>(yKc x.1 x.2.1 hk).trans h)
def yo2:Code:=(f227.body).getD .skip
def yw0:Env:=zku TT [(246,yGv),(247,yuT)] []
theorem yOe:FrOk prog ⟨yw0,45,fun _=>none⟩ yo2:=zky yf yg ⟨yZp,yKm,trivial⟩
def yDj:Nat→Option Seg:=fun _=>none
def ycl:Shape:=⟨[(1,false,[.int .i64]),(2,false,[.ptr 0 0]),(6,false,[.at 800000000]),(7,false,[.int .i64]),(8,false,[.int .i64])],[(0,[.int .i64,.int .i64,.int .i64,.br tM,.int .i64,.int .i64,.int .i64,.int .i64,.int .i64,.br tW,.int .i64,.bool,.bool])],[(800000000,tI,.fz)]⟩
def ygz:Shape:=⟨[(1,false,[.int .i64]),(2,false,[.ptr 0 0]),(6,false,[.at 800000000]),(7,false,[.ci .i64 (-1)]),(8,false,[.ci .i64 0])],[(0,[.int .i64,.int .i64,.int .i64,.br tM,.int .i64,.int .i64,.int .i64,.int .i64,.int .i64,.br tW,.int .i64,.bool,.bool])],[(800000000,tI,.fz)]⟩
def ygl:Shape:=⟨[(6,false,[.at 800000000]),(7,false,[.int .i64])],[],[(800000000,tI,.fz)]⟩
def ygI:Shape:=⟨[(4,false,[.at 800000000]),(5,false,[.bool])],[],[(800000000,tI,.fz)]⟩
abbrev yon (v0 v1 v2:Int) (v3:dA) (v4:List Int):(ycl).X:=(((v0,()),((),()),((),()),(v1,()),(v2,()),()),((v3.1,v3.2.1.1,v3.2.1.2,v3.2.2.1,v3.2.2.2.1,v3.2.2.2.2.1,v3.2.2.2.2.2.1,v3.2.2.2.2.2.2.1,v3.2.2.2.2.2.2.2.1,v3.2.2.2.2.2.2.2.2.1,v3.2.2.2.2.2.2.2.2.2.1,v3.2.2.2.2.2.2.2.2.2.2.1,v3.2.2.2.2.2.2.2.2.2.2.2,()),()),(v4,()))
abbrev yLY (v0:Int) (v1:dA) (v2:List Int):(ygz).X:=(((v0,()),((),()),((),()),((),()),((),()),()),((v1.1,v1.2.1.1,v1.2.1.2,v1.2.2.1,v1.2.2.2.1,v1.2.2.2.2.1,v1.2.2.2.2.2.1,v1.2.2.2.2.2.2.1,v1.2.2.2.2.2.2.2.1,v1.2.2.2.2.2.2.2.2.1,v1.2.2.2.2.2.2.2.2.2.1,v1.2.2.2.2.2.2.2.2.2.2.1,v1.2.2.2.2.2.2.2.2.2.2.2,()),()),(v2,()))
abbrev yLK (v0:Int) (v1:List Int):(ygl).X:=((((),()),(v0,()),()),(),(v1,()))
abbrev yL6 (v0:Bool) (v1:List Int):(ygI).X:=((((),()),(v0,()),()),(),(v1,()))
def yoO (v0 v1 v2 v3 v4 v5:Int) (v6:List dM) (v7 v8 v9 v10 v11:Int) (v12:List dW) (v13:Int) (v14 v15:Bool) (v16:List Int):Option ((ycl).X ⊕ ((ygl).X ⊕ (ygI).X)) :=bif(ltb v2 v4)then let r2:=yl8 (v3,(v4,v5),v6,v7,v8,v9,v10,v11,v12,v13,v14,v15) v2 v0;bif(!r2.2)then bif(leb 0 v1)then some (.inr (.inr ((((),()),(false,()),()),(),(([]:List Int),())))) else bif(zkj v16.length ([r2.1]:List Int).length 8)then some (.inl (((v0,()),((),()),((),()),(v2,()),((i64.wrap (v2+1)),()),()),((v3,v4,v5,v6,v7,v8,v9,v10,v11,v12,v13,v14,v15,()),()),((v16++([r2.1]:List Int)),()))) else none else bif(zkj v16.length ([r2.1]:List Int).length 8)then some (.inl (((v0,()),((),()),((),()),(v1,()),((i64.wrap (v2+1)),()),()),((v3,v4,v5,v6,v7,v8,v9,v10,v11,v12,v13,v14,v15,()),()),((v16++([r2.1]:List Int)),()))) else none else some (.inr (.inl ((((),()),(v1,()),()),(),(v16,()))))
def ycI (x:(ycl).X):=yoO x.1.1.1 x.1.2.2.2.1.1 x.1.2.2.2.2.1.1 x.2.1.1.1 x.2.1.1.2.1 x.2.1.1.2.2.1 x.2.1.1.2.2.2.1 x.2.1.1.2.2.2.2.1 x.2.1.1.2.2.2.2.2.1 x.2.1.1.2.2.2.2.2.2.1 x.2.1.1.2.2.2.2.2.2.2.1 x.2.1.1.2.2.2.2.2.2.2.2.1 x.2.1.1.2.2.2.2.2.2.2.2.2.1 x.2.1.1.2.2.2.2.2.2.2.2.2.2.1 x.2.1.1.2.2.2.2.2.2.2.2.2.2.2.1 x.2.1.1.2.2.2.2.2.2.2.2.2.2.2.2.1 x.2.2.1
def yy8 (x:(ygz).X):(ycl).X:=(((x.1.1.1,()),((),()),((),()),((-1),()),(0,()),()),((x.2.1.1.1,x.2.1.1.2.1,x.2.1.1.2.2.1,x.2.1.1.2.2.2.1,x.2.1.1.2.2.2.2.1,x.2.1.1.2.2.2.2.2.1,x.2.1.1.2.2.2.2.2.2.1,x.2.1.1.2.2.2.2.2.2.2.1,x.2.1.1.2.2.2.2.2.2.2.2.1,x.2.1.1.2.2.2.2.2.2.2.2.2.1,x.2.1.1.2.2.2.2.2.2.2.2.2.2.1,x.2.1.1.2.2.2.2.2.2.2.2.2.2.2.1,x.2.1.1.2.2.2.2.2.2.2.2.2.2.2.2.1,()),()),(x.2.2.1,()))
def yBE:Code:=(zeJ yo2 64 244).getD .skip
theorem yNw:zeJ yo2 64 61=some (.block 0 (.loop yBE)):=by kernel_rfl
theorem yPr (x:(ycl).X):zhu ⟨yw0,45,yDj⟩ 0 yBE 244 ycl ygl ygI x=ycI x:=by kernel_rfl
def yzp (x:(ygz).X):Nat:=18446744073709551616
def yp4 (x:(ygz).X):Option ((ygl).X ⊕ (ygI).X):=zF ycI (yzp x) (yy8 x)
def yzT:Seg:=⟨ygz,ygl,ygI,yp4⟩
def yP0:Nat→Option Seg:=fun q=>bif Nat.beq q 61 then some yzT else yDj q
theorem yOf:FrOk prog ⟨yw0,45,yP0⟩ yo2:=(yOe).loop (sg:=yzT) ycl yy8 (by decide) yNw ycI yzp (by decide) (fun _=>rfl) (fun x r _ h=>h) yPr
abbrev ykf:List Par:= [.rd tA,.rd tI]
abbrev ypm:List OT:= [⟨false,tL,(.ow .fz)⟩,⟨false,tB,.fz⟩]
def ysQ (a0:dA) (a1:Int):Option (zaY ypm×zak ykf) :=zkr (yp4 (((a1,()),((),()),((),()),((),()),((),()),()),((a0.1,a0.2.1.1,a0.2.1.2,a0.2.2.1,a0.2.2.2.1,a0.2.2.2.2.1,a0.2.2.2.2.2.1,a0.2.2.2.2.2.2.1,a0.2.2.2.2.2.2.2.1,a0.2.2.2.2.2.2.2.2.1,a0.2.2.2.2.2.2.2.2.2.1,a0.2.2.2.2.2.2.2.2.2.2.1,a0.2.2.2.2.2.2.2.2.2.2.2,()),()),(([]:List Int),()))) (fun y2 =>bif(leb 0 y2.1.2.1.1)then let r4:=yfB y2.2.2.1 y2.1.2.1.1;bif(inb y2.1.2.1.1 y2.2.2.1.length)then some (((y2.2.2.1.set (y2.1.2.1.1).toNat r4),true,()),()) else none else some ((y2.2.2.1,true,()),())) (fun y2 =>some ((y2.2.2.1,y2.1.2.1.1,()),()))
theorem ySA:ConOk prog 227 ⟨ykf,ypm,fun x=>ysQ x.1 x.2.1⟩:=zkG (yOf) func227 ntmps227.symm fun x=>by kernel_rfl
def yg3 (a0:dA) (a1:Int):List Int×Bool:=yR a0 a1
def yx5 (a0:dA) (a1:Int):Bool:=yd a0.2.1
theorem yVF (a0:dA) (a1:Int) (hk:zjw ykf (a0,a1,())) (hq:yx5 a0 a1=true):ysQ a0 a1=(fun n=>some ((n.1,n.2,()),())) (yg3 a0 a1):=by
 have hg:=yl.1 hq
 have h1:yp4 (yLY a1 a0 [])=some (bif ye8 (fun(i:Nat)=>yG a0 i a1) a0.2.1.1.toNat then .inr (yL6 false [])else .inl (yLK (yK (fun(i:Nat)=>yG a0 i a1) a0.2.1.1.toNat) (yai a0 a1 a0.2.1.1.toNat))) :=
  zjh (step:=ycI) (fun i=>yon a1 (yK (fun(i:Nat)=>yG a0 i a1) i) i a0 (yai a0 a1 i)) a0.2.1.1.toNat (fun i=> !yG a0 i a1&&leb 0 (yK (fun(i:Nat)=>yG a0 i a1) i)) _ _ (fun i hi=>by
   simp only[ycI,yon,yoO,zkw (show(i:Int)<a0.2.1.1 by omega),cond_true,wq ((i:Int)+1) (by omega) (by omega),Int.natCast_add,Int.natCast_one,Int.toNat_natCast,zkV,yl8,yK];rw[zkD.2 (show((yai a0 a1 i).length+ [yq2 a0 i a1].length)*8≤140737488355328 by simp only[List.length_cons,List.length_nil,yfG]; omega),yJB]
   cases yG a0 i a1<;>cases leb 0 (yK (fun(i:Nat)=>yG a0 i a1) i)<;>rfl) (by simp only[ycI,yon,yoO,zk1 (show a0.2.1.1≤(a0.2.1.1.toNat:Int)by omega),cond_false]) _ (by show _<18446744073709551616; omega)
 unfold ysQ yg3 yR;rw[h1];cases ye8 (fun(i:Nat)=>yG a0 i a1) a0.2.1.1.toNat
 ·simp only[cond_false,zkL,yfB]
  cases hm:leb 0 (yK (fun(i:Nat)=>yG a0 i a1) a0.2.1.1.toNat)
  ·rfl
  ·obtain⟨h2,h3⟩:=yZ4 a0 a1 a0.2.1.1.toNat hm
   rw[h2,h3]; rfl
 ·rfl
def ykN (a0:dA) (a1:Int):Option (zaY ypm×zak ykf):=bif yx5 a0 a1 then(fun n=>some ((n.1,n.2,()),())) (yg3 a0 a1)else none
theorem yGO (a0:dA) (a1:Int) (h:yx5 a0 a1=true):ykN a0 a1=(fun n=>some ((n.1,n.2,()),())) (yg3 a0 a1):=by unfold ykN; rw[h]; rfl
def ysd:Con:=⟨ykf,ypm,fun x=>ykN x.1 x.2.1⟩
theorem yGL:ConOk prog 227 ysd:=(ySA).mono (fun x r hk h=>zkW h (fun hq=>yVF x.1 x.2.1 hk hq))
def yTz:Code:=(f229.body).getD .skip
def yT2:Env:=zku TT [(82,yL),(150,ygW)] []
theorem yLs:FrOk prog ⟨yT2,14,fun _=>none⟩ yTz:=zky yf yg ⟨yT,yma,trivial⟩
abbrev yua:List Par:= [.rd tG,.rd tI]
abbrev yuy:List OT:= [⟨false,tB,.fz⟩]
def yCy (a0:dG) (a1:Int):Option (zaY yuy×zak yua) :=let r1:=yd a0;bif r1 then let r2:=yb a1 0 (i64.wrap (a0.2-1));some ((r2,()),()) else some ((false,()),())
theorem yO8:ConOk prog 229 ⟨yua,yuy,fun x=>yCy x.1 x.2.1⟩:=zkG (yLs) func229 ntmps229.symm fun x=>by kernel_rfl
def yfO (a0:dG) (a1:Int):Bool :=let r1:=yd a0;bif r1 then let r2:=yb a1 0 (i64.wrap (a0.2-1));r2 else false
def yqi:Con:=⟨yua,yuy,fun x=>(fun n=>some ((n,()),())) (yfO x.1 x.2.1)⟩
theorem yR7 (a0:dG) (a1:Int):yCy a0 a1=(fun n=>some ((n,()),())) (yfO a0 a1):=zkT (p:=fun(n:Bool)=>((n,()),())) (zkE (p:=fun(n:Bool)=>((n,()),())) rfl rfl)
theorem yFf:ConOk prog 229 yqi:=(yO8).mono (fun x r _ h=>(yR7 x.1 x.2.1).trans h)
theorem yPH (g:dG) (s:Int):yfO g s=yN g s:=by
 unfold yfO yN;cases hg:yd g
 ·rfl
 have:=yl.1 hg;rw[ybU,wr (by omega) (by omega)]; rfl
def yTu:Code:=(f209.body).getD .skip
def yTX:Env:=zku TT [(229,yqi)] []
theorem yLl:FrOk prog ⟨yTX,17,fun _=>none⟩ yTu:=zky yf yg ⟨yFf,trivial⟩
abbrev yna:List Par:= [.rd tG,.rd tI]
abbrev yut:List OT:= [⟨false,tI,.fz⟩]
def yqL (a0:dG) (a1:Int):Option (zaY yut×zak yna) :=let r1:=yfO a0 a1;bif(!r1)then some (((-1),()),()) else bif(a0.1 !=0)then some (((i64.wrap ((i64.wrap (a0.1-1))-(a1.tmod a0.1))),()),()) else none
theorem yO2:ConOk prog 209 ⟨yna,yut,fun x=>yqL x.1 x.2.1⟩:=zkG (yLl) func209 ntmps209.symm fun x=>by kernel_rfl
def ydY (a0:dG) (a1:Int):Int:=yk a0 a1
theorem yR1 (a0:dG) (a1:Int) (hk:zjw yna (a0,a1,())):yqL a0 a1=(fun n=>some ((n,()),())) (ydY a0 a1):=by
 unfold yqL ydY;rw[yPH];cases hs:yN a0 a1
 ·unfold yk; rw[hs]; rfl
 ·have h1:=yW.1 hs
  have h2:=yl.1 h1.1;have h3:=yju hs;have h4:yk a0 a1=a0.1-1-a1.tmod a0.1:=by unfold yk; rw[hs]; rfl
  rw[show(a0.1 !=0)=true from bne_iff_ne.2 (by omega),wq (a0.1-1) (by omega) (by omega),wq (a0.1-1-a1.tmod a0.1) (by omega) (by omega),h4]; rfl
def yqg:Con:=⟨yna,yut,fun x=>(fun n=>some ((n,()),())) (ydY x.1 x.2.1)⟩
theorem yFd:ConOk prog 209 yqg:=(yO2).mono (fun x r hk h=>(yR1 x.1 x.2.1 hk).trans h)
def y0z:Code:=(f242.body).getD .skip
def y05:Env:=zku TT [(82,yL),(209,yqg),(229,yqi)] []
theorem yQL:FrOk prog ⟨y05,28,fun _=>none⟩ y0z:=zky yf yg ⟨yT,yFd,yFf,trivial⟩
abbrev yrz:List Par:= [.rd tG,.rd tI,.rd tI]
abbrev yAJ:List OT:= [⟨false,tI,.fz⟩]
def yvG (a0:dG) (a1 a2:Int):Option (zaY yAJ×zak yrz) :=let r1:=yfO a0 a1;bif(!(!r1))then let r2:=yb a2 0 (i64.wrap (a0.1-2));bif(!r2)then some (((-1),()),()) else let r3:=ydY a0 a1;bif(a0.1 !=0)then some ((((i64.wrap ((i64.wrap (r3+1))+a2)).tmod a0.1),()),()) else none else some (((-1),()),())
theorem yV3:ConOk prog 242 ⟨yrz,yAJ,fun x=>yvG x.1 x.2.1 x.2.2.1⟩:=zkG (yQL) func242 ntmps242.symm fun x=>by kernel_rfl
def yl5 (a0:dG) (a1 a2:Int):Int:=yaV a0 a1 a2
theorem yYv (a0:dG) (a1 a2:Int) (hk:zjw yrz (a0,a1,a2,())):yvG a0 a1 a2=(fun n=>some ((n,()),())) (yl5 a0 a1 a2):=by
 unfold yvG yl5 yaV ydY;rw[yPH];cases hs:yN a0 a1
 ·rfl
 ·have h1:=yW.1 hs
  have h2:=yl.1 h1.1;have h3:=yju hs;rw[ybU,wq (a0.1-2) (by omega) (by omega)];cases hi:(leb 0 a2&&leb a2 (a0.1-2))
  ·rfl
  ·rw[Bool.and_eq_true,zj5,zj5]at hi
   rw[show(a0.1 !=0)=true from bne_iff_ne.2 (by omega)];show some (((i64.wrap (i64.wrap (yk a0 a1+1)+a2)).tmod a0.1,()),())=some (((yk a0 a1+1+a2).tmod a0.1,()),());rw[wq (yk a0 a1+1) (by omega) (by omega),wq (yk a0 a1+1+a2) (by omega) (by omega)]
def yGm:Con:=⟨yrz,yAJ,fun x=>(fun n=>some ((n,()),())) (yl5 x.1 x.2.1 x.2.2.1)⟩
theorem yZg:ConOk prog 242 yGm:=(yV3).mono (fun x r hk h=>(yYv x.1 x.2.1 x.2.2.1 hk).trans h)
def yrm:Code:=(f218.body).getD .skip
def yzZ:Env:=zku TT [(227,ysd),(242,yGm)] []
theorem yQZ:FrOk prog ⟨yzZ,41,fun _=>none⟩ yrm:=zky yf yg ⟨yGL,yZg,trivial⟩
def yFR:Nat→Option Seg:=fun _=>none
def yc6:Shape:=⟨[(1,false,[.int .i64]),(2,false,[.ptr 0 0]),(6,false,[.at 800000000]),(7,false,[.bool]),(8,false,[.at 800000001]),(9,false,[.int .i64])],[(0,[.int .i64,.int .i64,.int .i64,.br tM,.int .i64,.int .i64,.int .i64,.int .i64,.int .i64,.br tW,.int .i64,.bool,.bool])],[(800000000,tI,.fz),(800000001,tI,.fz)]⟩
def yhu:Shape:=⟨[(1,false,[.int .i64]),(2,false,[.ptr 0 0]),(6,false,[.at 800000000]),(7,false,[.bool]),(8,false,[.at 800000001]),(9,false,[.ci .i64 0])],[(0,[.int .i64,.int .i64,.int .i64,.br tM,.int .i64,.int .i64,.int .i64,.int .i64,.int .i64,.br tW,.int .i64,.bool,.bool])],[(800000000,tI,.fz),(800000001,tI,.fz)]⟩
def yhj:Shape:=⟨[(7,false,[.bool]),(8,false,[.at 800000000])],[],[(800000000,tI,.fz)]⟩
def yli:Shape:=⟨[],[],[]⟩
abbrev ygJ (v0:Int) (v1:Bool) (v2:Int) (v3:dA) (v4 v5:List Int):(yc6).X:=(((v0,()),((),()),((),()),(v1,()),((),()),(v2,()),()),((v3.1,v3.2.1.1,v3.2.1.2,v3.2.2.1,v3.2.2.2.1,v3.2.2.2.2.1,v3.2.2.2.2.2.1,v3.2.2.2.2.2.2.1,v3.2.2.2.2.2.2.2.1,v3.2.2.2.2.2.2.2.2.1,v3.2.2.2.2.2.2.2.2.2.1,v3.2.2.2.2.2.2.2.2.2.2.1,v3.2.2.2.2.2.2.2.2.2.2.2,()),()),(v4,v5,()))
abbrev yCp (v0:Int) (v1:Bool) (v2:dA) (v3 v4:List Int):(yhu).X:=(((v0,()),((),()),((),()),(v1,()),((),()),((),()),()),((v2.1,v2.2.1.1,v2.2.1.2,v2.2.2.1,v2.2.2.2.1,v2.2.2.2.2.1,v2.2.2.2.2.2.1,v2.2.2.2.2.2.2.1,v2.2.2.2.2.2.2.2.1,v2.2.2.2.2.2.2.2.2.1,v2.2.2.2.2.2.2.2.2.2.1,v2.2.2.2.2.2.2.2.2.2.2.1,v2.2.2.2.2.2.2.2.2.2.2.2,()),()),(v3,v4,()))
abbrev yqs (v0:Bool) (v1:List Int):(yhj).X:=(((v0,()),((),()),()),(),(v1,()))
def yj5 (v0:Int) (v1:Bool) (v2 v3 v4 v5:Int) (v6:List dM) (v7 v8 v9 v10 v11:Int) (v12:List dW) (v13:Int) (v14 v15:Bool) (v16 v17:List Int):Option ((yc6).X ⊕ ((yhj).X ⊕ (yli).X)) :=bif(ltb v2 (i64.wrap (v4-1)))then bif v1 then let r3:=yl5 (v4,v5) v0 v2;bif(inb r3 v16.length)then bif(zkj v17.length ([(nth v16 r3 0)]:List Int).length 8)then some (.inl (((v0,()),((),()),((),()),(v1,()),((),()),((i64.wrap (v2+1)),()),()),((v3,v4,v5,v6,v7,v8,v9,v10,v11,v12,v13,v14,v15,()),()),(v16,(v17++([(nth v16 r3 0)]:List Int)),()))) else none else none else some (.inr (.inl (((v1,()),((),()),()),(),(v17,())))) else some (.inr (.inl (((v1,()),((),()),()),(),(v17,()))))
def yaX (x:(yc6).X):=yj5 x.1.1.1 x.1.2.2.2.1.1 x.1.2.2.2.2.2.1.1 x.2.1.1.1 x.2.1.1.2.1 x.2.1.1.2.2.1 x.2.1.1.2.2.2.1 x.2.1.1.2.2.2.2.1 x.2.1.1.2.2.2.2.2.1 x.2.1.1.2.2.2.2.2.2.1 x.2.1.1.2.2.2.2.2.2.2.1 x.2.1.1.2.2.2.2.2.2.2.2.1 x.2.1.1.2.2.2.2.2.2.2.2.2.1 x.2.1.1.2.2.2.2.2.2.2.2.2.2.1 x.2.1.1.2.2.2.2.2.2.2.2.2.2.2.1 x.2.1.1.2.2.2.2.2.2.2.2.2.2.2.2.1 x.2.2.1 x.2.2.2.1
def yB6 (x:(yhu).X):(yc6).X:=(((x.1.1.1,()),((),()),((),()),(x.1.2.2.2.1.1,()),((),()),(0,()),()),((x.2.1.1.1,x.2.1.1.2.1,x.2.1.1.2.2.1,x.2.1.1.2.2.2.1,x.2.1.1.2.2.2.2.1,x.2.1.1.2.2.2.2.2.1,x.2.1.1.2.2.2.2.2.2.1,x.2.1.1.2.2.2.2.2.2.2.1,x.2.1.1.2.2.2.2.2.2.2.2.1,x.2.1.1.2.2.2.2.2.2.2.2.2.1,x.2.1.1.2.2.2.2.2.2.2.2.2.2.1,x.2.1.1.2.2.2.2.2.2.2.2.2.2.2.1,x.2.1.1.2.2.2.2.2.2.2.2.2.2.2.2.1,()),()),(x.2.2.1,x.2.2.2.1,()))
def yD7:Code:=(zeJ yrm 64 244).getD .skip
theorem yQd:zeJ yrm 64 61=some (.block 0 (.loop yD7)):=by kernel_rfl
theorem yS9 (x:(yc6).X):zhu ⟨yzZ,41,yFR⟩ 0 yD7 244 yc6 yhj yli x=yaX x:=by kernel_rfl
def yCh (x:(yhu).X):Nat:=18446744073709551616
def yk7 (x:(yhu).X):Option ((yhj).X ⊕ (yli).X):=zF yaX (yCh x) (yB6 x)
def yCG:Seg:=⟨yhu,yhj,yli,yk7⟩
def yTG:Nat→Option Seg:=fun q=>bif Nat.beq q 61 then some yCG else yFR q
theorem yQ0:FrOk prog ⟨yzZ,41,yTG⟩ yrm:=(yQZ).loop (sg:=yCG) yc6 yB6 (by decide) yQd yaX yCh (by decide) (fun _=>rfl) (fun x r _ h=>h) yS9
abbrev ylN:List Par:= [.rd tA,.rd tI]
abbrev yrI:List OT:= [⟨false,tL,(.ow .fz)⟩,⟨false,tB,.fz⟩]
def yvL (a0:dA) (a1:Int):Option (zaY yrI×zak ylN) :=bnd (ykN a0 a1) fun r1 =>zkr (yk7 (((a1,()),((),()),((),()),(r1.1.2.1,()),((),()),((),()),()),((a0.1,a0.2.1.1,a0.2.1.2,a0.2.2.1,a0.2.2.2.1,a0.2.2.2.2.1,a0.2.2.2.2.2.1,a0.2.2.2.2.2.2.1,a0.2.2.2.2.2.2.2.1,a0.2.2.2.2.2.2.2.2.1,a0.2.2.2.2.2.2.2.2.2.1,a0.2.2.2.2.2.2.2.2.2.2.1,a0.2.2.2.2.2.2.2.2.2.2.2,()),()),(r1.1.1,([]:List Int),()))) (fun y3 =>some ((y3.2.2.1,y3.1.1.1,()),())) (fun y3 =>none)
theorem yWe:ConOk prog 218 ⟨ylN,yrI,fun x=>yvL x.1 x.2.1⟩:=zkG (yQ0) func218 ntmps218.symm fun x=>by kernel_rfl
def yrN (a0:dA) (a1:Int):List Int×Bool:=yrL a0 a1
def yBb (a0:dA) (a1:Int):Bool:=yN a0.2.1 a1
theorem yYD (a0:dA) (a1:Int) (hk:zjw ylN (a0,a1,())) (hq:yBb a0 a1=true):yvL a0 a1=(fun n=>some ((n.1,n.2,()),())) (yrN a0 a1):=by
 have hs:yN a0.2.1 a1=true:=hq;have hg:=yl.1 (yW.1 hs).1;unfold yvL yrN yrL;rw[yGO a0 a1 (yW.1 hs).1,yg3];simp only[zkF];cases hw:(yR a0 a1).2
 ·have h1:yk7 (yCp a1 false a0 (yR a0 a1).1 [])=some (.inl (yqs false [])) :=
   zkJ (step:=yaX) (fun i=>ygJ a1 false i a0 (yR a0 a1).1 []) 0 _ (fun i hi=>absurd hi (Nat.not_lt_zero _)) (by
    simp only[yaX,ygJ,yj5,cond_false]
    cases ltb ((0:Nat):Int) (i64.wrap (a0.2.1.1-1))<;>rfl) _ (by show _<18446744073709551616; omega)
  rw[h1]; rfl
 ·have hL:=yMK hw
  have h1:yk7 (yCp a1 true a0 (yR a0 a1).1 [])=some (.inl (yqs true ((List.range (a0.2.1.1-1).toNat).foldl (fun l (i:Nat)=>l++ [nth (yR a0 a1).1 (yaV a0.2.1 a1 i) 0]) []))) :=
   zkB (step:=yaX) (a0.2.1.1-1).toNat (fun i s=>ygJ a1 true i a0 (yR a0 a1).1 s) (fun l (i:Nat)=>l++ [nth (yR a0 a1).1 (yaV a0.2.1 a1 i) 0]) (fun i s=>s.length=i) (fun s=> .inl (yqs true s)) (fun i s hi hs2=>⟨by
    have hd:=yMP hs (show(0:Int)≤i by omega) (show(i:Int)≤a0.2.1.1-2 by omega);simp only[yaX,ygJ,yj5,wq (a0.2.1.1-1) (by omega) (by omega),zkw (show(i:Int)<a0.2.1.1-1 by omega),cond_true,wq ((i:Int)+1) (by omega) (by omega),Int.natCast_add,Int.natCast_one,Int.toNat_natCast,zkV,yl5,zj4.2 (show 0≤yaV a0.2.1 a1 i∧yaV a0.2.1 a1 i<(yR a0 a1).1.length by omega)]
    rw[zkD.2 (show(s.length+ [nth (yR a0 a1).1 (yaV a0.2.1 a1 i) 0].length)*8≤140737488355328 by simp only[List.length_cons,List.length_nil]; omega)]; rfl,by simp[hs2]⟩) (fun s hs2=>by simp only[yaX,ygJ,yj5,wq (a0.2.1.1-1) (by omega) (by omega),zk1 (show a0.2.1.1-1≤((a0.2.1.1-1).toNat:Int)by omega),cond_false]) [] rfl _ (by show _<18446744073709551616; omega)
  rw[h1,yps]; rfl
def yrQ (a0:dA) (a1:Int):Option (zaY yrI×zak ylN):=bif yBb a0 a1 then(fun n=>some ((n.1,n.2,()),())) (yrN a0 a1)else none
theorem yZu (a0:dA) (a1:Int) (h:yBb a0 a1=true):yrQ a0 a1=(fun n=>some ((n.1,n.2,()),())) (yrN a0 a1):=by unfold yrQ; rw[h]; rfl
def yGt:Con:=⟨ylN,yrI,fun x=>yrQ x.1 x.2.1⟩
theorem yZn:ConOk prog 218 yGt:=(yWe).mono (fun x r hk h=>zkW h (fun hq=>yYD x.1 x.2.1 hk hq))
def yTA:Code:=(f181.body).getD .skip
def yT3:Env:=zku TT [(215,yA2),(218,yGt)] []
theorem yLt:FrOk prog ⟨yT3,28,fun _=>none⟩ yTA:=zky yf yg ⟨yMo,yZn,trivial⟩
abbrev yit:List Par:= [.rd tA,.rd tI]
abbrev ynj:List OT:= [⟨false,tL,(.ow .fz)⟩,⟨false,tB,.fz⟩]
def yqQ (a0:dA) (a1:Int):Option (zaY ynj×zak yit) :=let r1:=yjD a0 a1;bif(leb 0 r1)then bif(inb r1 a0.2.2.2.2.2.2.2.2.1.length)then bif(zkj ([]:List Int).length ((nth a0.2.2.2.2.2.2.2.2.1 r1 (0,[])).2).length 8)then some (((([]:List Int)++((nth a0.2.2.2.2.2.2.2.2.1 r1 (0,[])).2)),true,()),()) else none else none else bif a0.2.2.2.2.2.2.2.2.2.2.2 then some ((([]:List Int),false,()),()) else bnd (yrQ a0 a1) fun r2 =>some ((r2.1.1,r2.1.2.1,()),())
theorem yO9:ConOk prog 181 ⟨yit,ynj,fun x=>yqQ x.1 x.2.1⟩:=zkG (yLt) func181 ntmps181.symm fun x=>by kernel_rfl
def yjp (a0:dA) (a1:Int):List Int×Bool:=ybR a0 a1
def yvx (a0:dA) (a1:Int):Bool:=yN a0.2.1 a1
theorem yR8 (a0:dA) (a1:Int) (hk:zjw yit (a0,a1,())) (hq:yvx a0 a1=true):yqQ a0 a1=(fun n=>some ((n.1,n.2,()),())) (yjp a0 a1):=by
 unfold yqQ yjp ybR yjD;rw[yZu a0 a1 hq];simp only[List.nil_append];cases h:leb 0 (yan a0.2.2.2.2.2.2.2.2.1 a1)
 ·cases a0.2.2.2.2.2.2.2.2.2.2.2<;>rfl
 ·have h1:=(yn8 (d:=((0,[]):dW)) h).1
  have h2:(nth a0.2.2.2.2.2.2.2.2.1 (yan a0.2.2.2.2.2.2.2.2.1 a1) (0,[])).2.length*8≤2^47:=yxU (P:=fun x:dW=>x.2.length*8≤2^47) h1 (fun x hx=>(hk.1.2.2.2.2.2.2.2.2.1.2 x hx).2.1);rw[show inb (yan a0.2.2.2.2.2.2.2.2.1 a1) a0.2.2.2.2.2.2.2.2.1.length=true from h1,zkD.2 (show(([]:List Int).length+(nth a0.2.2.2.2.2.2.2.2.1 (yan a0.2.2.2.2.2.2.2.2.1 a1) (0,[])).2.length)*8≤140737488355328 by rw[List.length_nil]; omega)]; rfl
def ynF (a0:dA) (a1:Int):Option (zaY ynj×zak yit):=bif yvx a0 a1 then(fun n=>some ((n.1,n.2,()),())) (yjp a0 a1)else none
theorem yS0 (a0:dA) (a1:Int) (h:yvx a0 a1=true):ynF a0 a1=(fun n=>some ((n.1,n.2,()),())) (yjp a0 a1):=by unfold ynF; rw[h]; rfl
def yBX:Con:=⟨yit,ynj,fun x=>ynF x.1 x.2.1⟩
theorem ySW:ConOk prog 181 yBX:=(yO9).mono (fun x r hk h=>zkW h (fun hq=>yR8 x.1 x.2.1 hk hq))
def yXk:Code:=(f182.body).getD .skip
def yXM:Env:=zku TT [(82,yL),(119,ynx)] []
theorem yN3:FrOk prog ⟨yXM,16,fun _=>none⟩ yXk:=zky yf yg ⟨yT,yxY,trivial⟩
abbrev ype:List Par:= [.rd tG,.rd tI]
abbrev yxy:List OT:= [⟨false,tI,.fz⟩]
def ysK (a0:dG) (a1:Int):Option (zaY yxy×zak ype) :=let r1:=yn a0;let r2:=yb a1 0 (i64.wrap (r1-1));bif(!r2)then some (((-1),()),()) else bif((i64.wrap (a0.1-1)) !=0)then some (((a1.tmod (i64.wrap (a0.1-1))),()),()) else none
theorem ySs:ConOk prog 182 ⟨ype,yxy,fun x=>ysK x.1 x.2.1⟩:=zkG (yN3) func182 ntmps182.symm fun x=>by kernel_rfl
def ykE (a0:dG) (a1:Int):Int:=ybV a0 a1
theorem yVy (a0:dG) (a1:Int) (hk:zjw ype (a0,a1,())):ysK a0 a1=(fun n=>some ((n,()),())) (ykE a0 a1):=by
 unfold ysK ykE ybV;simp only[y2r];cases hb:ye7 a0 a1
 ·rfl
 ·obtain⟨h1,h2,h3⟩:=yn1 hb
  have h4:=yl.1 h1;rw[wq (a0.1-1) (by omega) (by omega),show(a0.1-1 !=0)=true from bne_iff_ne.2 (by omega)]; rfl
def yEp:Con:=⟨ype,yxy,fun x=>(fun n=>some ((n,()),())) (ykE x.1 x.2.1)⟩
theorem yWC:ConOk prog 182 yEp:=(ySs).mono (fun x r hk h=>(yVy x.1 x.2.1 hk).trans h)
def ytv:Code:=(f183.body).getD .skip
def yDt:Env:=zku TT [] [(4096,(.pr .fz .fz)),(28800,(.pr .fz .fz)),(41472,(.pr .fz .fz)),(49280,(.pr .fz .fz))]
theorem yUX:FrOk prog ⟨yDt,67,fun _=>none⟩ ytv:=zky yf yg trivial
def yHH:Nat→Option Seg:=fun _=>none
def ydL:Shape:=⟨[(0,false,[.ptr 1000000000 0]),(3,false,[.ptr 0 0]),(4,false,[.at 800000000]),(5,false,[.bool]),(6,false,[.int .i64])],[(0,[.int .i64,.fz tI]),(1000000000,[.int .i64,.int .i64,.int .i64,.at 800000001,.int .i64,.int .i64,.int .i64,.int .i64,.int .i64,.at 800000002,.int .i64,.bool,.bool])],[(800000000,tW,(.pr .fz .fz)),(800000001,tM,(.pr (.ow .fz) (.pr (.ow (.pr .fz .fz)) (.pr .fz (.ow .fz))))),(800000002,tW,(.pr .fz .fz))]⟩
def yiT:Shape:=⟨[(0,false,[.ptr 1000000000 0]),(3,false,[.ptr 0 0]),(4,false,[.at 800000000]),(5,false,[.cb false]),(6,false,[.ci .i64 0])],[(0,[.int .i64,.fz tI]),(1000000000,[.int .i64,.int .i64,.int .i64,.at 800000001,.int .i64,.int .i64,.int .i64,.int .i64,.int .i64,.at 800000002,.int .i64,.bool,.bool])],[(800000000,tW,(.pr .fz .fz)),(800000001,tM,(.pr (.ow .fz) (.pr (.ow (.pr .fz .fz)) (.pr .fz (.ow .fz))))),(800000002,tW,(.pr .fz .fz))]⟩
def yiG:Shape:=⟨[(0,false,[.ptr 1000000000 0]),(3,false,[.ptr 0 0]),(4,false,[.at 800000000]),(5,false,[.bool])],[(0,[.int .i64,.fz tI]),(1000000000,[.int .i64,.int .i64,.int .i64,.at 800000001,.int .i64,.int .i64,.int .i64,.int .i64,.int .i64,.at 800000002,.int .i64,.bool,.bool])],[(800000000,tW,(.pr .fz .fz)),(800000001,tM,(.pr (.ow .fz) (.pr (.ow (.pr .fz .fz)) (.pr .fz (.ow .fz))))),(800000002,tW,(.pr .fz .fz))]⟩
def ynq:Shape:=⟨[],[],[]⟩
abbrev ysv (v0:Bool) (v1:Int) (v2:dW) (v3:dA) (v4:List dW):(ydL).X:=((((),()),((),()),((),()),(v0,()),(v1,()),()),((v2.1,v2.2,()),(v3.1,v3.2.1.1,v3.2.1.2,(),v3.2.2.2.1,v3.2.2.2.2.1,v3.2.2.2.2.2.1,v3.2.2.2.2.2.2.1,v3.2.2.2.2.2.2.2.1,(),v3.2.2.2.2.2.2.2.2.2.1,v3.2.2.2.2.2.2.2.2.2.2.1,v3.2.2.2.2.2.2.2.2.2.2.2,()),()),(v4,v3.2.2.1,v3.2.2.2.2.2.2.2.2.1,()))
abbrev yRC (v0:dW) (v1:dA) (v2:List dW):(yiT).X:=((((),()),((),()),((),()),((),()),((),()),()),((v0.1,v0.2,()),(v1.1,v1.2.1.1,v1.2.1.2,(),v1.2.2.2.1,v1.2.2.2.2.1,v1.2.2.2.2.2.1,v1.2.2.2.2.2.2.1,v1.2.2.2.2.2.2.2.1,(),v1.2.2.2.2.2.2.2.2.2.1,v1.2.2.2.2.2.2.2.2.2.2.1,v1.2.2.2.2.2.2.2.2.2.2.2,()),()),(v2,v1.2.2.1,v1.2.2.2.2.2.2.2.2.1,()))
abbrev yRp (v0:Bool) (v1:dW) (v2:dA) (v3:List dW):(yiG).X:=((((),()),((),()),((),()),(v0,()),()),((v1.1,v1.2,()),(v2.1,v2.2.1.1,v2.2.1.2,(),v2.2.2.2.1,v2.2.2.2.2.1,v2.2.2.2.2.2.1,v2.2.2.2.2.2.2.1,v2.2.2.2.2.2.2.2.1,(),v2.2.2.2.2.2.2.2.2.2.1,v2.2.2.2.2.2.2.2.2.2.2.1,v2.2.2.2.2.2.2.2.2.2.2.2,()),()),(v3,v2.2.2.1,v2.2.2.2.2.2.2.2.2.1,()))
def ys5 (v0:Bool) (v1 v2:Int) (v3:List Int) (v4 v5 v6 v7 v8 v9 v10 v11 v12:Int) (v13 v14:Bool) (v15:List dW) (v16:List dM) (v17:List dW):Option ((ydL).X ⊕ ((yiG).X ⊕ (ynq).X)) :=bif(ltb v1 (v17.length:Int))then bif(!v0)then bif(inb v1 v17.length)then bif(leb v2 ((nth v17 v1 (0,[])).1))then bif(zkj v15.length ([(v2,v3)]:List dW).length 32)then bif(inb v1 v17.length)then bif((nth v17 v1 (0,[])).1 !=v2)then bif(inb v1 v17.length)then bif(zkj (v15++([(v2,v3)]:List dW)).length ([(nth v17 v1 (0,[]))]:List dW).length 32)then some (.inl ((((),()),((),()),((),()),(true,()),((i64.wrap (v1+1)),()),()),((v2,v3,()),(v4,v5,v6,(),v7,v8,v9,v10,v11,(),v12,v13,v14,()),()),(((v15++([(v2,v3)]:List dW))++([(nth v17 v1 (0,[]))]:List dW)),v16,v17,()))) else none else none else some (.inl ((((),()),((),()),((),()),(true,()),((i64.wrap (v1+1)),()),()),((v2,v3,()),(v4,v5,v6,(),v7,v8,v9,v10,v11,(),v12,v13,v14,()),()),((v15++([(v2,v3)]:List dW)),v16,v17,()))) else none else none else bif(inb v1 v17.length)then bif((nth v17 v1 (0,[])).1 !=v2)then bif(inb v1 v17.length)then bif(zkj v15.length ([(nth v17 v1 (0,[]))]:List dW).length 32)then some (.inl ((((),()),((),()),((),()),(v0,()),((i64.wrap (v1+1)),()),()),((v2,v3,()),(v4,v5,v6,(),v7,v8,v9,v10,v11,(),v12,v13,v14,()),()),((v15++([(nth v17 v1 (0,[]))]:List dW)),v16,v17,()))) else none else none else some (.inl ((((),()),((),()),((),()),(v0,()),((i64.wrap (v1+1)),()),()),((v2,v3,()),(v4,v5,v6,(),v7,v8,v9,v10,v11,(),v12,v13,v14,()),()),(v15,v16,v17,()))) else none else none else bif(inb v1 v17.length)then bif((nth v17 v1 (0,[])).1 !=v2)then bif(inb v1 v17.length)then bif(zkj v15.length ([(nth v17 v1 (0,[]))]:List dW).length 32)then some (.inl ((((),()),((),()),((),()),(v0,()),((i64.wrap (v1+1)),()),()),((v2,v3,()),(v4,v5,v6,(),v7,v8,v9,v10,v11,(),v12,v13,v14,()),()),((v15++([(nth v17 v1 (0,[]))]:List dW)),v16,v17,()))) else none else none else some (.inl ((((),()),((),()),((),()),(v0,()),((i64.wrap (v1+1)),()),()),((v2,v3,()),(v4,v5,v6,(),v7,v8,v9,v10,v11,(),v12,v13,v14,()),()),(v15,v16,v17,()))) else none else some (.inr (.inl ((((),()),((),()),((),()),(v0,()),()),((v2,v3,()),(v4,v5,v6,(),v7,v8,v9,v10,v11,(),v12,v13,v14,()),()),(v15,v16,v17,()))))
def yeh (x:(ydL).X):=ys5 x.1.2.2.2.1.1 x.1.2.2.2.2.1.1 x.2.1.1.1 x.2.1.1.2.1 x.2.1.2.1.1 x.2.1.2.1.2.1 x.2.1.2.1.2.2.1 x.2.1.2.1.2.2.2.2.1 x.2.1.2.1.2.2.2.2.2.1 x.2.1.2.1.2.2.2.2.2.2.1 x.2.1.2.1.2.2.2.2.2.2.2.1 x.2.1.2.1.2.2.2.2.2.2.2.2.1 x.2.1.2.1.2.2.2.2.2.2.2.2.2.2.1 x.2.1.2.1.2.2.2.2.2.2.2.2.2.2.2.1 x.2.1.2.1.2.2.2.2.2.2.2.2.2.2.2.2.1 x.2.2.1 x.2.2.2.1 x.2.2.2.2.1
def yEL (x:(yiT).X):(ydL).X:=((((),()),((),()),((),()),(false,()),(0,()),()),((x.2.1.1.1,x.2.1.1.2.1,()),(x.2.1.2.1.1,x.2.1.2.1.2.1,x.2.1.2.1.2.2.1,(),x.2.1.2.1.2.2.2.2.1,x.2.1.2.1.2.2.2.2.2.1,x.2.1.2.1.2.2.2.2.2.2.1,x.2.1.2.1.2.2.2.2.2.2.2.1,x.2.1.2.1.2.2.2.2.2.2.2.2.1,(),x.2.1.2.1.2.2.2.2.2.2.2.2.2.2.1,x.2.1.2.1.2.2.2.2.2.2.2.2.2.2.2.1,x.2.1.2.1.2.2.2.2.2.2.2.2.2.2.2.2.1,()),()),(x.2.2.1,x.2.2.2.1,x.2.2.2.2.1,()))
def yGd:Code:=(zeJ ytv 64 244).getD .skip
theorem yUh:zeJ ytv 64 61=some (.block 0 (.loop yGd)):=by kernel_rfl
theorem yW3 (x:(ydL).X):zhu ⟨yDt,67,yHH⟩ 0 yGd 244 ydL yiG ynq x=yeh x:=by kernel_rfl
def yE0 (x:(yiT).X):Nat:=18446744073709551616
def ytV (x:(yiT).X):Option ((yiG).X ⊕ (ynq).X):=zF yeh (yE0 x) (yEL x)
def yFE:Seg:=⟨yiT,yiG,ynq,ytV⟩
def yXC:Nat→Option Seg:=fun q=>bif Nat.beq q 61 then some yFE else yHH q
theorem yUY:FrOk prog ⟨yDt,67,yXC⟩ ytv:=(yUX).loop (sg:=yFE) ydL yEL (by decide) yUh yeh yE0 (by decide) (fun _=>rfl) (fun x r _ h=>h) yW3
abbrev ynV:List Par:= [.pt tA (.pr .fz (.pr (.pr .fz .fz) (.pr (.ow (.pr (.ow .fz) (.pr (.ow (.pr .fz .fz)) (.pr .fz (.ow .fz))))) (.pr .fz (.pr .fz (.pr .fz (.pr .fz (.pr .fz (.pr (.ow (.pr .fz .fz)) (.pr .fz (.pr .fz .fz))))))))))),.kp tW .fz]
abbrev yuB:List OT:= []
def yyi (a0:dA) (a1:dW):Option (zaY yuB×zak ynV) :=zkr (ytV ((((),()),((),()),((),()),((),()),((),()),()),((a1.1,a1.2,()),(a0.1,a0.2.1.1,a0.2.1.2,(),a0.2.2.2.1,a0.2.2.2.2.1,a0.2.2.2.2.2.1,a0.2.2.2.2.2.2.1,a0.2.2.2.2.2.2.2.1,(),a0.2.2.2.2.2.2.2.2.2.1,a0.2.2.2.2.2.2.2.2.2.2.1,a0.2.2.2.2.2.2.2.2.2.2.2,()),()),(([]:List dW),a0.2.2.1,a0.2.2.2.2.2.2.2.2.1,()))) (fun y0 =>bif(!y0.1.2.2.2.1.1)then bif(zkj y0.2.2.1.length ([(y0.2.1.1.1,y0.2.1.1.2.1)]:List dW).length 32)then some ((),((y0.2.1.2.1.1,(y0.2.1.2.1.2.1,y0.2.1.2.1.2.2.1),y0.2.2.2.1,y0.2.1.2.1.2.2.2.2.1,y0.2.1.2.1.2.2.2.2.2.1,y0.2.1.2.1.2.2.2.2.2.2.1,y0.2.1.2.1.2.2.2.2.2.2.2.1,y0.2.1.2.1.2.2.2.2.2.2.2.2.1,(y0.2.2.1++([(y0.2.1.1.1,y0.2.1.1.2.1)]:List dW)),y0.2.1.2.1.2.2.2.2.2.2.2.2.2.2.1,y0.2.1.2.1.2.2.2.2.2.2.2.2.2.2.2.1,y0.2.1.2.1.2.2.2.2.2.2.2.2.2.2.2.2.1),())) else none else some ((),((y0.2.1.2.1.1,(y0.2.1.2.1.2.1,y0.2.1.2.1.2.2.1),y0.2.2.2.1,y0.2.1.2.1.2.2.2.2.1,y0.2.1.2.1.2.2.2.2.2.1,y0.2.1.2.1.2.2.2.2.2.2.1,y0.2.1.2.1.2.2.2.2.2.2.2.1,y0.2.1.2.1.2.2.2.2.2.2.2.2.1,y0.2.2.1,y0.2.1.2.1.2.2.2.2.2.2.2.2.2.2.1,y0.2.1.2.1.2.2.2.2.2.2.2.2.2.2.2.1,y0.2.1.2.1.2.2.2.2.2.2.2.2.2.2.2.2.1),()))) (fun y0 =>none)
theorem yY6:ConOk prog 183 ⟨ynV,yuB,fun x=>yyi x.1 x.2.1⟩:=zkG (yUY) func183 ntmps183.symm fun x=>by kernel_rfl
def yvr (a0:dA) (a1:dW):dA:=yym a0 (yMq a0.2.2.2.2.2.2.2.2.1 a1)
def yFi (a0:dA) (a1:dW):Bool:=decide (a0.2.2.2.2.2.2.2.2.1.length≤1000)
theorem y1D (a0:dA) (a1:dW) (hk:zjw ynV (a0,a1,())) (hq:yFi a0 a1=true):yyi a0 a1=(fun n=>some ((),(n,()))) (yvr a0 a1):=by
 have hq:=of_decide_eq_true hq
 have h1:=zkv (step:=yeh) a0.2.2.2.2.2.2.2.2.1 (0,[]) (fun i s=>ysv s.1 i a1 a0 s.2) (ycU a1) (fun i s=>s.2.length≤i*2) (fun s=> .inl (yRp s.1 a1 a0 s.2)) (fun i s hi hs=>by
  constructor
  ·simp only[yeh,ysv,ys5,zkw (show(i:Int)<a0.2.2.2.2.2.2.2.2.1.length by omega),cond_true,wq ((i:Int)+1) (by omega) (by omega),Int.natCast_add,Int.natCast_one,Int.toNat_natCast,zkP hi,zkV,zkQ,ycU,zkD.2 (show(s.2.length+ [a1].length)*32≤140737488355328 by simp only[List.length_cons,List.length_nil]; omega),
    show ∀x:dW,zkj s.2.length [x].length 32=true from fun x=>zkD.2 (by simp only[List.length_cons,List.length_nil]; omega),show ∀x:dW,zkj (s.2++ [a1]).length [x].length 32=true from fun x=>zkD.2 (by simp only[List.length_append,List.length_cons,List.length_nil]; omega)]
   cases s.1<;>cases leb a1.1 (a0.2.2.2.2.2.2.2.2.1.getD i (0,[])).1<;>cases((a0.2.2.2.2.2.2.2.2.1.getD i (0,[])).1 !=a1.1)<;>simp
  ·unfold ycU
   have: ∀(b c:Bool) (x:dW),((bif b then s.2++ [a1]else s.2)++(bif c then[x]else[])).length≤(i+1)*2:=fun b c x=>by
    cases b<;>cases c<;>simp<;>omega
   exact this _ _ _) (fun s hs=>by simp only[yeh,ysv,ys5,zk1 (Int.le_refl _),cond_false]) (false,[]) (Nat.zero_le _) 18446744073709551616 (by omega)
 have hl:((a0.2.2.2.2.2.2.2.2.1.foldl (ycU a1) (false,[])).2).length≤2000:=by
  have: ∀(l:List dW) (s:Bool×List dW),((l.foldl (ycU a1) s).2).length≤s.2.length+l.length*2:=by
   intro l
   induction l with
   | nil=>intro s; simp
   | cons x t ih =>
    intro s;rw[List.foldl_cons];have:=ih (ycU a1 s x)
    have h2:(ycU a1 s x).2.length≤s.2.length+2:=by
     unfold ycU;cases(!s.1&&leb a1.1 x.1)<;>cases(x.1 !=a1.1)<;>simp
    simp only[List.length_cons]; omega
  have:=this a0.2.2.2.2.2.2.2.2.1 (false,[]);simp only[List.length_nil]at this;omega
 unfold yyi yvr yMq;refine(congrArg (fun z=>zkr z _ _) (show ytV (yRC a1 a0 [])=_ from h1)).trans ?_;generalize a0.2.2.2.2.2.2.2.2.1.foldl (ycU a1) (false,[])=R at hl;simp only[zkL,zkV];cases hr:R.1
 ·rw[zkD.2 (show(R.2.length+ [a1].length)*32≤140737488355328 by simp only[List.length_cons,List.length_nil]; omega)]; rfl
 ·rfl
def yvt (a0:dA) (a1:dW):Option (zaY yuB×zak ynV):=bif yFi a0 a1 then(fun n=>some ((),(n,()))) (yvr a0 a1)else none
theorem y1S (a0:dA) (a1:dW) (h:yFi a0 a1=true):yvt a0 a1=(fun n=>some ((),(n,()))) (yvr a0 a1):=by unfold yvt; rw[h]; rfl
def yHW:Con:=⟨ynV,yuB,fun x=>yvt x.1 x.2.1⟩
theorem y1P:ConOk prog 183 yHW:=(yY6).mono (fun x r hk h=>zkW h (fun hq=>y1D x.1 x.2.1 hk hq))
def y2e:Code:=(f118.body).getD .skip
def y2p:Env:=zku TT [(180,yBU),(181,yBX),(182,yEp),(183,yHW)] []
theorem yUZ:FrOk prog ⟨y2p,40,fun _=>none⟩ y2e:=zky yf yg ⟨yST,ySW,yWC,y1P,trivial⟩
abbrev ynW:List Par:= [.pt tA (.pr .fz (.pr (.pr .fz .fz) (.pr (.ow (.pr (.ow .fz) (.pr (.ow (.pr .fz .fz)) (.pr .fz (.ow .fz))))) (.pr .fz (.pr .fz (.pr .fz (.pr .fz (.pr .fz (.pr (.ow (.pr .fz .fz)) (.pr .fz (.pr .fz .fz))))))))))),.rd tI,.rd tI]
abbrev yuC:List OT:= [⟨false,tI,.fz⟩]
def yyj (a0:dA) (a1 a2:Int):Option (zaY yuC×zak ynW) :=let r1:=yjn a0.2.1 a1;bnd (ynF a0 r1) fun r2 =>bif(!r2.1.2.1)then some ((5,()),(a0,())) else let r3:=ykE a0.2.1 a1;bif(inb r3 r2.1.1.length)then bnd (yvt a0 (r1,(r2.1.1.set (r3).toNat a2))) fun r4 =>some ((0,()),(r4.2.1,())) else none
theorem yY7:ConOk prog 118 ⟨ynW,yuC,fun x=>yyj x.1 x.2.1 x.2.2.1⟩:=zkG (yUZ) func118 ntmps118.symm fun x=>by kernel_rfl
def yrg (a:dA) (b n:Int):Int×dA:=bif(ybR a (yY a.2.1 b)).2 then(0,yym a (yMq a.2.2.2.2.2.2.2.2.1 (yY a.2.1 b,(ybR a (yY a.2.1 b)).1.set (ybV a.2.1 b).toNat n)))else(5,a)
def yvs (a0:dA) (a1 a2:Int):Int×dA:=yrg a0 a1 a2
def yot (a0:dA) (a1 a2:Int):Bool:=yae a0&&(ye7 a0.2.1 a1&&decide (a0.2.2.2.2.2.2.2.2.1.length≤1000))
theorem y1E (a0:dA) (a1 a2:Int) (hk:zjw ynW (a0,a1,a2,())) (hq:yot a0 a1 a2=true):yyj a0 a1 a2=(fun n=>some ((n.1,()),(n.2,()))) (yvs a0 a1 a2):=by
 simp only[yot,Bool.and_eq_true]at hq;have hs:=yHv hq.2.1;obtain⟨hg,_,hi⟩:=yn1 hq.2.1;unfold yyj yvs yrg;simp only[yjn,ykE];rw[yS0 a0 (yY a0.2.1 a1) hs];simp only[zkF,yjp];cases hn:(ybR a0 (yY a0.2.1 a1)).2
 ·rfl
 ·have hl:=yBg hq.1 hs hn
  have hx:ybV a0.2.1 a1=a1.tmod (a0.2.1.1-1):=by unfold ybV; rw[hq.2.1]; rfl
  rw[zj4.2 (show 0≤ybV a0.2.1 a1∧ybV a0.2.1 a1<(ybR a0 (yY a0.2.1 a1)).1.length by omega),y1S _ _ hq.2.2];rfl
def yfD (a0:dA) (a1 a2:Int):Option (zaY yuC×zak ynW):=bif yot a0 a1 a2 then(fun n=>some ((n.1,()),(n.2,()))) (yvs a0 a1 a2)else none
theorem y1T (a0:dA) (a1 a2:Int) (h:yot a0 a1 a2=true):yfD a0 a1 a2=(fun n=>some ((n.1,()),(n.2,()))) (yvs a0 a1 a2):=by unfold yfD; rw[h]; rfl
def yHX:Con:=⟨ynW,yuC,fun x=>yfD x.1 x.2.1 x.2.2.1⟩
theorem y1Q:ConOk prog 118 yHX:=(yY7).mono (fun x r hk h=>zkW h (fun hq=>y1E x.1 x.2.1 x.2.2.1 hk hq))
def y0D:Code:=(f147.body).getD .skip
def y09:Env:=zku TT [] []
theorem yQR:FrOk prog ⟨y09,58,fun _=>none⟩ y0D:=zky yf yg trivial
abbrev yAi:List Par:= [.pt tU .fz]
abbrev yAO:List OT:= [⟨false,tI,.fz⟩]
def ycr (a0:dU):Option (zaY yAO×zak yAi) :=bif(ltb a0.2.1 (a0.1.length:Int))then bif(inb a0.2.1 a0.1.length)then some (((i64.wrap ((BitVec.ofInt IntKind.i64.bits (i64.wrap ((i64.wrap ((BitVec.ofInt IntKind.i64.bits (i64.wrap ((BitVec.ofInt IntKind.i64.bits ((i64.wrap ((i64.wrap (a0.2.2*6364136223846793005))+1442695040888963407)).fdiv (2^(min (33:Int).toNat IntKind.i64.bits))) ^^^ BitVec.ofInt IntKind.i64.bits ((i64.wrap ((i64.wrap (a0.2.2*6364136223846793005))+1442695040888963407)).fdiv (2^(min (47:Int).toNat IntKind.i64.bits)))).toNat:Int)) &&& BitVec.ofInt IntKind.i64.bits 255).toNat:Int))+(i64.wrap (nth a0.1 a0.2.1 0)))) &&& BitVec.ofInt IntKind.i64.bits 255).toNat:Int)),()),((a0.1,(i64.wrap (a0.2.1+1)),(i64.wrap ((i64.wrap (a0.2.2*6364136223846793005))+1442695040888963407))),())) else none else some (((i64.wrap ((BitVec.ofInt IntKind.i64.bits (i64.wrap ((BitVec.ofInt IntKind.i64.bits ((i64.wrap ((i64.wrap (a0.2.2*6364136223846793005))+1442695040888963407)).fdiv (2^(min (33:Int).toNat IntKind.i64.bits))) ^^^ BitVec.ofInt IntKind.i64.bits ((i64.wrap ((i64.wrap (a0.2.2*6364136223846793005))+1442695040888963407)).fdiv (2^(min (47:Int).toNat IntKind.i64.bits)))).toNat:Int)) &&& BitVec.ofInt IntKind.i64.bits 255).toNat:Int)),()),((a0.1,a0.2.1,(i64.wrap ((i64.wrap (a0.2.2*6364136223846793005))+1442695040888963407))),()))
theorem yV8:ConOk prog 147 ⟨yAi,yAO,fun x=>ycr x.1⟩:=zkG (yQR) func147 ntmps147.symm fun x=>by kernel_rfl
def yGp:Con:=⟨yAi,yAO,fun x=>ycr x.1⟩
theorem yZj:ConOk prog 147 yGp:=yV8
theorem y4D (x:Int):0≤i64.wrap ((BitVec.ofInt IntKind.i64.bits x &&& BitVec.ofInt IntKind.i64.bits 255).toNat:Int)∧i64.wrap ((BitVec.ofInt IntKind.i64.bits x &&& BitVec.ofInt IntKind.i64.bits 255).toNat:Int)≤255:=by
 have h:(BitVec.ofInt IntKind.i64.bits x &&& BitVec.ofInt IntKind.i64.bits 255).toNat≤255:=by
  rw[BitVec.toNat_and];exact Nat.le_trans Nat.and_le_right (by decide)
 rw[wr (by omega) (by omega)];omega
theorem yMQ (u:List Int×Int×Int) (h:ycM u): ∃(r:Int) (u':List Int×Int×Int),ycr u=some ((r,()),(u',()))∧(0≤r∧r≤255)∧ycM u':=by
 unfold ycr;by_cases h1:u.2.1<(u.1.length:Int)
 ·rw[zkw h1,zj4.2 ⟨h.1,h1⟩]
  refine⟨_,_,rfl,y4D _,?_,h.2⟩;show 0≤i64.wrap (u.2.1+1);have:=h.1; have:=h.2;rw[wr (by omega) (by omega)]; omega
 ·rw[zk1 (Int.not_lt.1 h1)]
  exact⟨_,_,rfl,y4D _,h⟩
def yXo:Code:=(f72.body).getD .skip
def yXQ:Env:=zku TT [(147,yGp)] []
theorem yN9:FrOk prog ⟨yXQ,31,fun _=>none⟩ yXo:=zky yf yg ⟨yZj,trivial⟩
abbrev yxd:List Par:= [.pt tU .fz,.rd tI]
abbrev yxB:List OT:= [⟨false,tI,.fz⟩]
def yo (a0:dU) (a1:Int):Option (zaY yxB×zak yxd) :=bif(leb a1 0)then some ((0,()),(a0,())) else bif(leb a1 256)then bnd (ycr a0) fun r1 =>bif(a1 !=0)then some (((r1.1.1.tmod a1),()),(r1.2.1,())) else none else bnd (ycr a0) fun r2 =>bnd (ycr r2.2.1) fun r3 =>bnd (ycr r3.2.1) fun r4 =>bif(a1 !=0)then some ((((i64.wrap ((i64.wrap ((i64.wrap (r2.1.1*65536))+(i64.wrap (r3.1.1*256))))+r4.1.1)).tmod a1),()),(r4.2.1,())) else none
theorem ySx:ConOk prog 72 ⟨yxd,yxB,fun x=>yo x.1 x.2.1⟩:=zkG (yN9) func72 ntmps72.symm fun x=>by kernel_rfl
def ya4:Con:=⟨yxd,yxB,fun x=>yo x.1 x.2.1⟩
theorem ycq:ConOk prog 72 ya4:=ySx
theorem yda (u:List Int×Int×Int) (n:Int) (h:ycM u): ∃(r:Int) (u':List Int×Int×Int),yo u n=some ((r,()),(u',()))∧(0≤r∧(0<n→r<n)∧(n≤0→r=0))∧ycM u':=by
 unfold yo;by_cases h0:n≤0
 ·rw[zk0 h0]
  exact⟨_,_,rfl,⟨Int.le_refl _,fun h=>absurd h0 (by omega),fun _=>rfl⟩,h⟩
 ·have hn:(n !=0)=true:=bne_iff_ne.2 (by omega)
  have key: ∀x:Int,0≤x→0≤x.tmod n∧(0<n→x.tmod n<n)∧(n≤0→x.tmod n=0):=fun x hx =>
   ⟨Int.tmod_nonneg n hx,fun hp=>Int.tmod_lt_of_pos x hp,fun hp=>absurd hp h0⟩
  rw[zkZ (by omega)];by_cases h1:n≤256
  ·rw[zk0 h1]
   obtain⟨r1,u1,e1,q1,d1⟩:=yMQ u h;rw[e1,zkX,zkY,zkF,hn];exact⟨_,_,rfl,key r1 q1.1,d1⟩
  ·rw[zkZ (by omega)]
   obtain⟨r1,u1,e1,q1,d1⟩:=yMQ u h;obtain⟨r2,u2,e2,q2,d2⟩:=yMQ u1 d1;obtain⟨r3,u3,e3,q3,d3⟩:=yMQ u2 d2;simp only[e1,e2,e3,zkX,zkF,hn,zkY];refine⟨_,_,rfl,key _ ?_,d3⟩;rw[wq (r1*65536) (by omega) (by omega),wq (r2*256) (by omega) (by omega),wq (r1*65536+r2*256) (by omega) (by omega),wr (by omega) (by omega)];omega
def yrl:Code:=(f177.body).getD .skip
def yzY:Env:=zku TT [(82,yL)] [(28864,.fz),(28928,.fz)]
theorem yQN:FrOk prog ⟨yzY,22,fun _=>none⟩ yrl:=zky yf yg ⟨yT,trivial⟩
def yFP:Nat→Option Seg:=fun _=>none
def yc2:Shape:=⟨[(0,false,[.int .i64]),(2,false,[.ptr 0 0]),(3,false,[.ptr 12352 0]),(4,false,[.int .i64])],[(0,[.nil,.nil,.bool,.nil]),(12352,[.at 800000000,.nil,.bool,.nil])],[(800000000,tL,.fz)]⟩
def yhq:Shape:=⟨[(0,false,[.int .i64]),(2,false,[.ptr 0 0]),(3,false,[.ptr 12352 0]),(4,false,[.ci .i64 0])],[(0,[.nil,.nil,.bool,.nil]),(12352,[.at 800000000,.nil,.bool,.nil])],[(800000000,tL,.fz)]⟩
def yhf:Shape:=⟨[(2,false,[.ptr 0 0]),(3,false,[.ptr 12352 0])],[(0,[.nil,.nil,.bool,.nil]),(12352,[.at 800000000,.nil,.bool,.nil])],[(800000000,tL,.fz)]⟩
def ylf:Shape:=⟨[],[],[]⟩
abbrev yql (v0 v1:Int) (v2 v3:dM):(yc2).X:=(((v0,()),((),()),((),()),(v1,()),()),(((),(),v2.2.2.1,(),()),((),(),v3.2.2.1,(),()),()),(v3.1,()))
abbrev yOu (v0:Int) (v1 v2:dM):(yhq).X:=(((v0,()),((),()),((),()),((),()),()),(((),(),v1.2.2.1,(),()),((),(),v2.2.2.1,(),()),()),(v2.1,()))
abbrev yOn (v0 v1:dM):(yhf).X:=((((),()),((),()),()),(((),(),v0.2.2.1,(),()),((),(),v1.2.2.1,(),()),()),(v1.1,()))
def yqV (v0 v1:Int) (v2 v3:Bool) (v4:List (List Int)):Option ((yc2).X ⊕ ((yhf).X ⊕ (ylf).X)) :=bif(ltb v1 v0)then bif(zkj v4.length ([([]:List Int)]:List (List Int)).length 24)then some (.inl (((v0,()),((),()),((),()),((i64.wrap (v1+1)),()),()),(((),(),v2,(),()),((),(),v3,(),()),()),((v4++([([]:List Int)]:List (List Int))),()))) else none else some (.inr (.inl ((((),()),((),()),()),(((),(),v2,(),()),((),(),v3,(),()),()),(v4,()))))
def ydo (x:(yc2).X):=yqV x.1.1.1 x.1.2.2.2.1.1 x.2.1.1.2.2.1 x.2.1.2.1.2.2.1 x.2.2.1
def yB2 (x:(yhq).X):(yc2).X:=(((x.1.1.1,()),((),()),((),()),(0,()),()),(((),(),x.2.1.1.2.2.1,(),()),((),(),x.2.1.2.1.2.2.1,(),()),()),(x.2.2.1,()))
def yD3:Code:=(zeJ yrl 64 244).getD .skip
theorem yP9:zeJ yrl 64 61=some (.block 0 (.loop yD3)):=by kernel_rfl
theorem yS5 (x:(yc2).X):zhu ⟨yzY,22,yFP⟩ 0 yD3 244 yc2 yhf ylf x=ydo x:=by kernel_rfl
def yCd (x:(yhq).X):Nat:=18446744073709551616
def yr1 (x:(yhq).X):Option ((yhf).X ⊕ (ylf).X):=zF ydo (yCd x) (yB2 x)
def yCC:Seg:=⟨yhq,yhf,ylf,yr1⟩
def yTE:Nat→Option Seg:=fun q=>bif Nat.beq q 61 then some yCC else yFP q
theorem yQO:FrOk prog ⟨yzY,22,yTE⟩ yrl:=(yQN).loop (sg:=yCC) yc2 yB2 (by decide) yP9 ydo yCd (by decide) (fun _=>rfl) (fun x r _ h=>h) yS5
abbrev yrB:List Par:= [.rd tI]
abbrev yAL:List OT:= [⟨false,tM,(.pr (.ow .fz) (.pr (.ow (.pr .fz .fz)) (.pr .fz (.ow .fz))))⟩]
def yvI (a0:Int):Option (zaY yAL×zak yrB) :=let r1:=yb a0 1 20;bif(!r1)then some ((([],[],false,[]),()),()) else zkr (yr1 (((a0,()),((),()),((),()),((),()),()),(((),(),false,(),()),((),(),false,(),()),()),([],()))) (fun y1 =>some (((y1.2.2.1,[],y1.2.1.2.1.2.2.1,[]),()),())) (fun y1 =>none)
theorem yV5:ConOk prog 177 ⟨yrB,yAL,fun x=>yvI x.1⟩:=zkG (yQO) func177 ntmps177.symm fun x=>by kernel_rfl
def yem (a0:Int):dM:=ya9 a0
theorem yYx (a0:Int) (hk:zjw yrB (a0,())):yvI a0=(fun n=>some ((n,()),())) (yem a0):=by
 unfold yvI yem ya9;simp only[ybU];cases hc:(leb 1 a0&&leb a0 20)
 ·rfl
 ·rw[Bool.and_eq_true,zj5,zj5]at hc
  have h1:yr1 (yOu a0 yc yc)=some (.inl (yOn yc (List.replicate a0.toNat [],[],false,[]))) :=
   zkJ (step:=ydo) (fun i=>yql a0 i yc (List.replicate i [],[],false,[])) a0.toNat _ (fun i hi=>by
    simp only[ydo,yql,yqV,zkw (show(i:Int)<a0 by omega),cond_true,wq ((i:Int)+1) (by omega) (by omega),Int.natCast_add,Int.natCast_one,Int.toNat_natCast]
    rw[zkD.2 (show((List.replicate i ([]:List Int)).length+([[]]:List (List Int)).length)*24≤140737488355328 by simp only[List.length_cons,List.length_nil,List.length_replicate]; omega),← List.replicate_succ']; rfl) (by simp only[ydo,yql,yqV,zk1 (show a0≤(a0.toNat:Int)by omega),cond_false]) _ (by show _<18446744073709551616; omega)
  rw[h1]; rfl
def yuS:Con:=⟨yrB,yAL,fun x=>(fun n=>some ((n,()),())) (yem x.1)⟩
theorem yIh:ConOk prog 177 yuS:=(yV5).mono (fun x r hk h=>(yYx x.1 hk).trans h)
def yfU:Code:=(f115.body).getD .skip
def ylK:Env:=zku TT [(82,yL),(113,ydT),(144,yqh),(150,ygW),(177,yuS),(178,yny)] [(53440,(.pr (.ow .fz) (.pr (.ow (.pr .fz .fz)) (.pr .fz (.ow .fz))))),(53504,(.pr (.ow .fz) (.pr (.ow (.pr .fz .fz)) (.pr .fz (.ow .fz)))))]
theorem yQG:FrOk prog ⟨ylK,60,fun _=>none⟩ yfU:=zky yf yg ⟨yT,yg5,yFe,yma,yIh,yxZ,trivial⟩
def yFO:Nat→Option Seg:=fun _=>none
def ybl:Shape:=⟨[(0,false,[.int .i64]),(3,false,[.ptr 0 0]),(4,false,[.ptr 64 0]),(5,false,[.ptr 12480 0]),(6,false,[.int .i64]),(7,false,[.ptr 28864 0]),(8,false,[.int .i64])],[(0,[.int .i64,.int .i64]),(64,[.int .i64,.int .i64,.int .i64,.nil,.int .i64,.int .i64,.int .i64,.int .i64,.int .i64,.nil,.int .i64,.bool,.bool]),(12480,[.int .i64,.int .i64,.int .i64,.at 800000000,.int .i64,.int .i64,.int .i64,.int .i64,.int .i64,.nil,.int .i64,.bool,.bool]),(28864,[.at 800000001,.at 800000002,.bool,.at 800000003])],[(800000000,tM,(.pr (.ow .fz) (.pr (.ow (.pr .fz .fz)) (.pr .fz (.ow .fz))))),(800000001,tL,.fz),(800000002,tW,(.pr .fz .fz)),(800000003,tI,.fz)]⟩
def yeB:Shape:=⟨[(0,false,[.int .i64]),(3,false,[.ptr 0 0]),(4,false,[.ptr 64 0]),(5,false,[.ptr 12480 0]),(6,false,[.int .i64]),(7,false,[.ptr 28864 0]),(8,false,[.ci .i64 0])],[(0,[.int .i64,.int .i64]),(64,[.int .i64,.int .i64,.int .i64,.nil,.int .i64,.int .i64,.int .i64,.int .i64,.int .i64,.nil,.int .i64,.bool,.bool]),(12480,[.int .i64,.int .i64,.int .i64,.at 800000000,.int .i64,.int .i64,.int .i64,.int .i64,.int .i64,.nil,.int .i64,.bool,.bool]),(28864,[.at 800000001,.at 800000002,.bool,.at 800000003])],[(800000000,tM,(.pr (.ow .fz) (.pr (.ow (.pr .fz .fz)) (.pr .fz (.ow .fz))))),(800000001,tL,.fz),(800000002,tW,(.pr .fz .fz)),(800000003,tI,.fz)]⟩
def yeu:Shape:=⟨[(0,false,[.int .i64]),(3,false,[.ptr 0 0]),(4,false,[.ptr 64 0]),(5,false,[.ptr 12480 0]),(6,false,[.int .i64]),(7,false,[.ptr 28864 0])],[(0,[.int .i64,.int .i64]),(64,[.int .i64,.int .i64,.int .i64,.nil,.int .i64,.int .i64,.int .i64,.int .i64,.int .i64,.nil,.int .i64,.bool,.bool]),(12480,[.int .i64,.int .i64,.int .i64,.at 800000000,.int .i64,.int .i64,.int .i64,.int .i64,.int .i64,.nil,.int .i64,.bool,.bool]),(28864,[.at 800000001,.at 800000002,.bool,.at 800000003])],[(800000000,tM,(.pr (.ow .fz) (.pr (.ow (.pr .fz .fz)) (.pr .fz (.ow .fz))))),(800000001,tL,.fz),(800000002,tW,(.pr .fz .fz)),(800000003,tI,.fz)]⟩
def yhX:Shape:=⟨[],[],[]⟩
abbrev yls (v0 v1 v2:Int) (v3:dG) (v4 v5:dA) (v6:dM):(ybl).X:=(((v0,()),((),()),((),()),((),()),(v1,()),((),()),(v2,()),()),((v3.1,v3.2,()),(v4.1,v4.2.1.1,v4.2.1.2,(),v4.2.2.2.1,v4.2.2.2.2.1,v4.2.2.2.2.2.1,v4.2.2.2.2.2.2.1,v4.2.2.2.2.2.2.2.1,(),v4.2.2.2.2.2.2.2.2.2.1,v4.2.2.2.2.2.2.2.2.2.2.1,v4.2.2.2.2.2.2.2.2.2.2.2,()),(v5.1,v5.2.1.1,v5.2.1.2,(),v5.2.2.2.1,v5.2.2.2.2.1,v5.2.2.2.2.2.1,v5.2.2.2.2.2.2.1,v5.2.2.2.2.2.2.2.1,(),v5.2.2.2.2.2.2.2.2.2.1,v5.2.2.2.2.2.2.2.2.2.2.1,v5.2.2.2.2.2.2.2.2.2.2.2,()),((),(),v6.2.2.1,(),()),()),(v5.2.2.1,v6.1,v6.2.1,v6.2.2.2,()))
abbrev yIZ (v0 v1:Int) (v2:dG) (v3 v4:dA) (v5:dM):(yeB).X:=(((v0,()),((),()),((),()),((),()),(v1,()),((),()),((),()),()),((v2.1,v2.2,()),(v3.1,v3.2.1.1,v3.2.1.2,(),v3.2.2.2.1,v3.2.2.2.2.1,v3.2.2.2.2.2.1,v3.2.2.2.2.2.2.1,v3.2.2.2.2.2.2.2.1,(),v3.2.2.2.2.2.2.2.2.2.1,v3.2.2.2.2.2.2.2.2.2.2.1,v3.2.2.2.2.2.2.2.2.2.2.2,()),(v4.1,v4.2.1.1,v4.2.1.2,(),v4.2.2.2.1,v4.2.2.2.2.1,v4.2.2.2.2.2.1,v4.2.2.2.2.2.2.1,v4.2.2.2.2.2.2.2.1,(),v4.2.2.2.2.2.2.2.2.2.1,v4.2.2.2.2.2.2.2.2.2.2.1,v4.2.2.2.2.2.2.2.2.2.2.2,()),((),(),v5.2.2.1,(),()),()),(v4.2.2.1,v5.1,v5.2.1,v5.2.2.2,()))
abbrev yvm (v0 v1:Int) (v2:dG) (v3 v4:dA) (v5:dM):(yeu).X:=(((v0,()),((),()),((),()),((),()),(v1,()),((),()),()),((v2.1,v2.2,()),(v3.1,v3.2.1.1,v3.2.1.2,(),v3.2.2.2.1,v3.2.2.2.2.1,v3.2.2.2.2.2.1,v3.2.2.2.2.2.2.1,v3.2.2.2.2.2.2.2.1,(),v3.2.2.2.2.2.2.2.2.2.1,v3.2.2.2.2.2.2.2.2.2.2.1,v3.2.2.2.2.2.2.2.2.2.2.2,()),(v4.1,v4.2.1.1,v4.2.1.2,(),v4.2.2.2.1,v4.2.2.2.2.1,v4.2.2.2.2.2.1,v4.2.2.2.2.2.2.1,v4.2.2.2.2.2.2.2.1,(),v4.2.2.2.2.2.2.2.2.2.1,v4.2.2.2.2.2.2.2.2.2.2.1,v4.2.2.2.2.2.2.2.2.2.2.2,()),((),(),v5.2.2.1,(),()),()),(v4.2.2.1,v5.1,v5.2.1,v5.2.2.2,()))
def ylG (v0 v1 v2 v3 v4 v5 v6 v7 v8 v9 v10 v11 v12 v13:Int) (v14 v15:Bool) (v16 v17 v18 v19 v20 v21 v22 v23 v24:Int) (v25 v26 v27:Bool) (v28:List dM) (v29:List (List Int)) (v30:List dW) (v31:List Int):Option ((ybl).X ⊕ ((yeu).X ⊕ (yhX).X)) :=bif(ltb v2 v4)then let r13:=yba v2;bif(inb r13 v29.length)then some (.inl (((v0,()),((),()),((),()),((),()),(v1,()),((),()),((i64.wrap (v2+1)),()),()),((v3,v4,()),(v5,v6,v7,(),v8,v9,v10,v11,v12,(),v13,v14,v15,()),(v16,v17,v18,(),v19,v20,v21,v22,v23,(),v24,v25,v26,()),((),(),v27,(),()),()),(v28,(v29.set (r13).toNat ([0]:List Int)),v30,v31,()))) else none else some (.inr (.inl (((v0,()),((),()),((),()),((),()),(v1,()),((),()),()),((v3,v4,()),(v5,v6,v7,(),v8,v9,v10,v11,v12,(),v13,v14,v15,()),(v16,v17,v18,(),v19,v20,v21,v22,v23,(),v24,v25,v26,()),((),(),v27,(),()),()),(v28,v29,v30,v31,()))))
def ybC (x:(ybl).X):=ylG x.1.1.1 x.1.2.2.2.2.1.1 x.1.2.2.2.2.2.2.1.1 x.2.1.1.1 x.2.1.1.2.1 x.2.1.2.1.1 x.2.1.2.1.2.1 x.2.1.2.1.2.2.1 x.2.1.2.1.2.2.2.2.1 x.2.1.2.1.2.2.2.2.2.1 x.2.1.2.1.2.2.2.2.2.2.1 x.2.1.2.1.2.2.2.2.2.2.2.1 x.2.1.2.1.2.2.2.2.2.2.2.2.1 x.2.1.2.1.2.2.2.2.2.2.2.2.2.2.1 x.2.1.2.1.2.2.2.2.2.2.2.2.2.2.2.1 x.2.1.2.1.2.2.2.2.2.2.2.2.2.2.2.2.1 x.2.1.2.2.1.1 x.2.1.2.2.1.2.1 x.2.1.2.2.1.2.2.1 x.2.1.2.2.1.2.2.2.2.1 x.2.1.2.2.1.2.2.2.2.2.1 x.2.1.2.2.1.2.2.2.2.2.2.1 x.2.1.2.2.1.2.2.2.2.2.2.2.1 x.2.1.2.2.1.2.2.2.2.2.2.2.2.1 x.2.1.2.2.1.2.2.2.2.2.2.2.2.2.2.1 x.2.1.2.2.1.2.2.2.2.2.2.2.2.2.2.2.1 x.2.1.2.2.1.2.2.2.2.2.2.2.2.2.2.2.2.1 x.2.1.2.2.2.1.2.2.1 x.2.2.1 x.2.2.2.1 x.2.2.2.2.1 x.2.2.2.2.2.1
def yu0 (x:(yeB).X):(ybl).X:=(((x.1.1.1,()),((),()),((),()),((),()),(x.1.2.2.2.2.1.1,()),((),()),(0,()),()),((x.2.1.1.1,x.2.1.1.2.1,()),(x.2.1.2.1.1,x.2.1.2.1.2.1,x.2.1.2.1.2.2.1,(),x.2.1.2.1.2.2.2.2.1,x.2.1.2.1.2.2.2.2.2.1,x.2.1.2.1.2.2.2.2.2.2.1,x.2.1.2.1.2.2.2.2.2.2.2.1,x.2.1.2.1.2.2.2.2.2.2.2.2.1,(),x.2.1.2.1.2.2.2.2.2.2.2.2.2.2.1,x.2.1.2.1.2.2.2.2.2.2.2.2.2.2.2.1,x.2.1.2.1.2.2.2.2.2.2.2.2.2.2.2.2.1,()),(x.2.1.2.2.1.1,x.2.1.2.2.1.2.1,x.2.1.2.2.1.2.2.1,(),x.2.1.2.2.1.2.2.2.2.1,x.2.1.2.2.1.2.2.2.2.2.1,x.2.1.2.2.1.2.2.2.2.2.2.1,x.2.1.2.2.1.2.2.2.2.2.2.2.1,x.2.1.2.2.1.2.2.2.2.2.2.2.2.1,(),x.2.1.2.2.1.2.2.2.2.2.2.2.2.2.2.1,x.2.1.2.2.1.2.2.2.2.2.2.2.2.2.2.2.1,x.2.1.2.2.1.2.2.2.2.2.2.2.2.2.2.2.2.1,()),((),(),x.2.1.2.2.2.1.2.2.1,(),()),()),(x.2.2.1,x.2.2.2.1,x.2.2.2.2.1,x.2.2.2.2.2.1,()))
def yv6:Code:=(zeJ yfU 64 125236).getD .skip
theorem yJH:zeJ yfU 64 31309=some (.block 2 (.loop yv6)):=by kernel_rfl
theorem yKq (x:(ybl).X):zhu ⟨ylK,60,yFO⟩ 2 yv6 125236 ybl yeu yhX x=ybC x:=by kernel_rfl
def yu9 (x:(yeB).X):Nat:=18446744073709551616
def ymn (x:(yeB).X):Option ((yeu).X ⊕ (yhX).X):=zF ybC (yu9 x) (yu0 x)
def yvU:Seg:=⟨yeB,yeu,yhX,ymn⟩
def ytx:Nat→Option Seg:=fun q=>bif Nat.beq q 31309 then some yvU else yFO q
theorem yQH:FrOk prog ⟨ylK,60,ytx⟩ yfU:=(yQG).loop (sg:=yvU) ybl yu0 (by decide) yJH ybC yu9 (by decide) (fun _=>rfl) (fun x r _ h=>h) yKq
def yc1:Shape:=⟨[(0,false,[.int .i64]),(3,false,[.ptr 0 0]),(4,false,[.ptr 64 0]),(5,false,[.ptr 12480 0]),(6,false,[.int .i64])],[(0,[.int .i64,.int .i64]),(64,[.int .i64,.int .i64,.int .i64,.nil,.int .i64,.int .i64,.int .i64,.int .i64,.int .i64,.nil,.int .i64,.bool,.bool]),(12480,[.int .i64,.int .i64,.int .i64,.at 800000000,.int .i64,.int .i64,.int .i64,.int .i64,.int .i64,.nil,.int .i64,.bool,.bool])],[(800000000,tM,(.pr (.ow .fz) (.pr (.ow (.pr .fz .fz)) (.pr .fz (.ow .fz)))))]⟩
def yhp:Shape:=⟨[(0,false,[.int .i64]),(3,false,[.ptr 0 0]),(4,false,[.ptr 64 0]),(5,false,[.ptr 12480 0]),(6,false,[.ci .i64 0])],[(0,[.int .i64,.int .i64]),(64,[.int .i64,.int .i64,.int .i64,.nil,.int .i64,.int .i64,.int .i64,.int .i64,.int .i64,.nil,.int .i64,.bool,.bool]),(12480,[.int .i64,.int .i64,.int .i64,.at 800000000,.int .i64,.int .i64,.int .i64,.int .i64,.int .i64,.nil,.int .i64,.bool,.bool])],[(800000000,tM,(.pr (.ow .fz) (.pr (.ow (.pr .fz .fz)) (.pr .fz (.ow .fz)))))]⟩
def yhe:Shape:=⟨[(4,false,[.ptr 64 0]),(5,false,[.ptr 12480 0])],[(64,[.int .i64,.int .i64,.int .i64,.nil,.int .i64,.int .i64,.int .i64,.int .i64,.int .i64,.nil,.int .i64,.bool,.bool]),(12480,[.int .i64,.int .i64,.int .i64,.at 800000000,.int .i64,.int .i64,.int .i64,.int .i64,.int .i64,.nil,.int .i64,.bool,.bool])],[(800000000,tM,(.pr (.ow .fz) (.pr (.ow (.pr .fz .fz)) (.pr .fz (.ow .fz)))))]⟩
def yle:Shape:=⟨[],[],[]⟩
abbrev yj1 (v0 v1:Int) (v2:dG) (v3 v4:dA):(yc1).X:=(((v0,()),((),()),((),()),((),()),(v1,()),()),((v2.1,v2.2,()),(v3.1,v3.2.1.1,v3.2.1.2,(),v3.2.2.2.1,v3.2.2.2.2.1,v3.2.2.2.2.2.1,v3.2.2.2.2.2.2.1,v3.2.2.2.2.2.2.2.1,(),v3.2.2.2.2.2.2.2.2.2.1,v3.2.2.2.2.2.2.2.2.2.2.1,v3.2.2.2.2.2.2.2.2.2.2.2,()),(v4.1,v4.2.1.1,v4.2.1.2,(),v4.2.2.2.1,v4.2.2.2.2.1,v4.2.2.2.2.2.1,v4.2.2.2.2.2.2.1,v4.2.2.2.2.2.2.2.1,(),v4.2.2.2.2.2.2.2.2.2.1,v4.2.2.2.2.2.2.2.2.2.2.1,v4.2.2.2.2.2.2.2.2.2.2.2,()),()),(v4.2.2.1,()))
abbrev yOt (v0:Int) (v1:dG) (v2 v3:dA):(yhp).X:=(((v0,()),((),()),((),()),((),()),((),()),()),((v1.1,v1.2,()),(v2.1,v2.2.1.1,v2.2.1.2,(),v2.2.2.2.1,v2.2.2.2.2.1,v2.2.2.2.2.2.1,v2.2.2.2.2.2.2.1,v2.2.2.2.2.2.2.2.1,(),v2.2.2.2.2.2.2.2.2.2.1,v2.2.2.2.2.2.2.2.2.2.2.1,v2.2.2.2.2.2.2.2.2.2.2.2,()),(v3.1,v3.2.1.1,v3.2.1.2,(),v3.2.2.2.1,v3.2.2.2.2.1,v3.2.2.2.2.2.1,v3.2.2.2.2.2.2.1,v3.2.2.2.2.2.2.2.1,(),v3.2.2.2.2.2.2.2.2.2.1,v3.2.2.2.2.2.2.2.2.2.2.1,v3.2.2.2.2.2.2.2.2.2.2.2,()),()),(v3.2.2.1,()))
abbrev yCl (v0 v1:dA):(yhe).X:=((((),()),((),()),()),((v0.1,v0.2.1.1,v0.2.1.2,(),v0.2.2.2.1,v0.2.2.2.2.1,v0.2.2.2.2.2.1,v0.2.2.2.2.2.2.1,v0.2.2.2.2.2.2.2.1,(),v0.2.2.2.2.2.2.2.2.2.1,v0.2.2.2.2.2.2.2.2.2.2.1,v0.2.2.2.2.2.2.2.2.2.2.2,()),(v1.1,v1.2.1.1,v1.2.1.2,(),v1.2.2.2.1,v1.2.2.2.2.1,v1.2.2.2.2.2.1,v1.2.2.2.2.2.2.1,v1.2.2.2.2.2.2.2.1,(),v1.2.2.2.2.2.2.2.2.2.1,v1.2.2.2.2.2.2.2.2.2.2.1,v1.2.2.2.2.2.2.2.2.2.2.2,()),()),(v1.2.2.1,()))
def yqU (v0 v1 v2 v3 v4 v5 v6 v7 v8 v9 v10 v11 v12:Int) (v13 v14:Bool) (v15 v16 v17 v18 v19 v20 v21 v22 v23:Int) (v24 v25:Bool) (v26:List dM):Option ((yc1).X ⊕ ((yhe).X ⊕ (yle).X)) :=bif(ltb v1 v2)then let r15:=ycX (v2,v3);let r16:=yem r15;let r17:=ym (v0,0,v1,v2,v3,0,(-1),0);bif(inb 0 r16.1.length)then zkr (ymn (((v0,()),((),()),((),()),((),()),(v1,()),((),()),((),()),()),((v2,v3,()),(v4,v5,v6,(),v7,v8,v9,v10,v11,(),v12,v13,v14,()),(v15,v16,v17,(),v18,v19,v20,v21,v22,(),v23,v24,v25,()),((),(),r16.2.2.1,(),()),()),(v26,(r16.1.set (0:Int).toNat r17),r16.2.1,r16.2.2.2,()))) (fun y17 =>bif(zkj y17.2.2.1.length ([(y17.2.2.2.1,y17.2.2.2.2.1,y17.2.1.2.2.2.1.2.2.1,y17.2.2.2.2.2.1)]:List dM).length 80)then some (.inl (((y17.1.1.1,()),((),()),((),()),((),()),((i64.wrap (y17.1.2.2.2.2.1.1+1)),()),()),((y17.2.1.1.1,y17.2.1.1.2.1,()),(y17.2.1.2.1.1,y17.2.1.2.1.2.1,y17.2.1.2.1.2.2.1,(),y17.2.1.2.1.2.2.2.2.1,y17.2.1.2.1.2.2.2.2.2.1,y17.2.1.2.1.2.2.2.2.2.2.1,y17.2.1.2.1.2.2.2.2.2.2.2.1,y17.2.1.2.1.2.2.2.2.2.2.2.2.1,(),y17.2.1.2.1.2.2.2.2.2.2.2.2.2.2.1,y17.2.1.2.1.2.2.2.2.2.2.2.2.2.2.2.1,y17.2.1.2.1.2.2.2.2.2.2.2.2.2.2.2.2.1,()),(y17.2.1.2.2.1.1,y17.2.1.2.2.1.2.1,y17.2.1.2.2.1.2.2.1,(),y17.2.1.2.2.1.2.2.2.2.1,y17.2.1.2.2.1.2.2.2.2.2.1,y17.2.1.2.2.1.2.2.2.2.2.2.1,y17.2.1.2.2.1.2.2.2.2.2.2.2.1,y17.2.1.2.2.1.2.2.2.2.2.2.2.2.1,(),y17.2.1.2.2.1.2.2.2.2.2.2.2.2.2.2.1,y17.2.1.2.2.1.2.2.2.2.2.2.2.2.2.2.2.1,y17.2.1.2.2.1.2.2.2.2.2.2.2.2.2.2.2.2.1,()),()),((y17.2.2.1++([(y17.2.2.2.1,y17.2.2.2.2.1,y17.2.1.2.2.2.1.2.2.1,y17.2.2.2.2.2.1)]:List dM)),()))) else none) (fun y17 =>some (.inr (.inr ((),(),())))) else none else some (.inr (.inl ((((),()),((),()),()),((v4,v5,v6,(),v7,v8,v9,v10,v11,(),v12,v13,v14,()),(v15,v16,v17,(),v18,v19,v20,v21,v22,(),v23,v24,v25,()),()),(v26,()))))
def ydn (x:(yc1).X):=yqU x.1.1.1 x.1.2.2.2.2.1.1 x.2.1.1.1 x.2.1.1.2.1 x.2.1.2.1.1 x.2.1.2.1.2.1 x.2.1.2.1.2.2.1 x.2.1.2.1.2.2.2.2.1 x.2.1.2.1.2.2.2.2.2.1 x.2.1.2.1.2.2.2.2.2.2.1 x.2.1.2.1.2.2.2.2.2.2.2.1 x.2.1.2.1.2.2.2.2.2.2.2.2.1 x.2.1.2.1.2.2.2.2.2.2.2.2.2.2.1 x.2.1.2.1.2.2.2.2.2.2.2.2.2.2.2.1 x.2.1.2.1.2.2.2.2.2.2.2.2.2.2.2.2.1 x.2.1.2.2.1.1 x.2.1.2.2.1.2.1 x.2.1.2.2.1.2.2.1 x.2.1.2.2.1.2.2.2.2.1 x.2.1.2.2.1.2.2.2.2.2.1 x.2.1.2.2.1.2.2.2.2.2.2.1 x.2.1.2.2.1.2.2.2.2.2.2.2.1 x.2.1.2.2.1.2.2.2.2.2.2.2.2.1 x.2.1.2.2.1.2.2.2.2.2.2.2.2.2.2.1 x.2.1.2.2.1.2.2.2.2.2.2.2.2.2.2.2.1 x.2.1.2.2.1.2.2.2.2.2.2.2.2.2.2.2.2.1 x.2.2.1
def yB1 (x:(yhp).X):(yc1).X:=(((x.1.1.1,()),((),()),((),()),((),()),(0,()),()),((x.2.1.1.1,x.2.1.1.2.1,()),(x.2.1.2.1.1,x.2.1.2.1.2.1,x.2.1.2.1.2.2.1,(),x.2.1.2.1.2.2.2.2.1,x.2.1.2.1.2.2.2.2.2.1,x.2.1.2.1.2.2.2.2.2.2.1,x.2.1.2.1.2.2.2.2.2.2.2.1,x.2.1.2.1.2.2.2.2.2.2.2.2.1,(),x.2.1.2.1.2.2.2.2.2.2.2.2.2.2.1,x.2.1.2.1.2.2.2.2.2.2.2.2.2.2.2.1,x.2.1.2.1.2.2.2.2.2.2.2.2.2.2.2.2.1,()),(x.2.1.2.2.1.1,x.2.1.2.2.1.2.1,x.2.1.2.2.1.2.2.1,(),x.2.1.2.2.1.2.2.2.2.1,x.2.1.2.2.1.2.2.2.2.2.1,x.2.1.2.2.1.2.2.2.2.2.2.1,x.2.1.2.2.1.2.2.2.2.2.2.2.1,x.2.1.2.2.1.2.2.2.2.2.2.2.2.1,(),x.2.1.2.2.1.2.2.2.2.2.2.2.2.2.2.1,x.2.1.2.2.1.2.2.2.2.2.2.2.2.2.2.2.1,x.2.1.2.2.1.2.2.2.2.2.2.2.2.2.2.2.2.1,()),()),(x.2.2.1,()))
def yD2:Code:=(zeJ yfU 64 244).getD .skip
theorem yP8:zeJ yfU 64 61=some (.block 0 (.loop yD2)):=by kernel_rfl
theorem yS4 (x:(yc1).X):zhu ⟨ylK,60,ytx⟩ 0 yD2 244 yc1 yhe yle x=ydn x:=by kernel_rfl
def yCc (x:(yhp).X):Nat:=18446744073709551616
def yr0 (x:(yhp).X):Option ((yhe).X ⊕ (yle).X):=zF ydn (yCc x) (yB1 x)
def yCB:Seg:=⟨yhp,yhe,yle,yr0⟩
def yTD:Nat→Option Seg:=fun q=>bif Nat.beq q 61 then some yCB else ytx q
theorem yQI:FrOk prog ⟨ylK,60,yTD⟩ yfU:=(yQH).loop (sg:=yCB) yc1 yB1 (by decide) yP8 ydn yCc (by decide) (fun _=>rfl) (fun x r _ h=>h) yS4
abbrev yry:List Par:= [.rd tI,.rd tG]
abbrev yAG:List OT:= [⟨false,tA,(.pr .fz (.pr (.pr .fz .fz) (.pr (.ow (.pr (.ow .fz) (.pr (.ow (.pr .fz .fz)) (.pr .fz (.ow .fz))))) (.pr .fz (.pr .fz (.pr .fz (.pr .fz (.pr .fz (.pr (.ow (.pr .fz .fz)) (.pr .fz (.pr .fz .fz)))))))))))⟩]
def yvF (a0:Int) (a1:dG):Option (zaY yAG×zak yry) :=let r1:=yd a1;bif(!(!r1))then let r2:=yb a0 1 60000;bif(!r2)then some (((0,(0,0),[],0,0,0,0,0,[],0,false,false),()),()) else zkr (yr0 (((a0,()),((),()),((),()),((),()),((),()),()),((a1.1,a1.2,()),(0,0,0,(),0,0,0,0,0,(),0,false,false,()),(a0,a1.1,a1.2,(),(-1),0,0,0,0,(),(-1),false,false,()),()),([],()))) (fun y18 =>some (((y18.2.1.2.1.1,(y18.2.1.2.1.2.1,y18.2.1.2.1.2.2.1),y18.2.2.1,y18.2.1.2.1.2.2.2.2.1,y18.2.1.2.1.2.2.2.2.2.1,y18.2.1.2.1.2.2.2.2.2.2.1,y18.2.1.2.1.2.2.2.2.2.2.2.1,y18.2.1.2.1.2.2.2.2.2.2.2.2.1,[],y18.2.1.2.1.2.2.2.2.2.2.2.2.2.2.1,y18.2.1.2.1.2.2.2.2.2.2.2.2.2.2.2.1,y18.2.1.2.1.2.2.2.2.2.2.2.2.2.2.2.2.1),()),())) (fun y18 =>none) else some (((0,(0,0),[],0,0,0,0,0,[],0,false,false),()),())
theorem yV0:ConOk prog 115 ⟨yry,yAG,fun x=>yvF x.1 x.2.1⟩:=zkG (yQI) func115 ntmps115.symm fun x=>by kernel_rfl
def yl4 (a0:Int) (a1:dG):dA:=yeG a0 a1
theorem yYs (a0:Int) (a1:dG) (hk:zjw yry (a0,a1,())):yvF a0 a1=(fun n=>some ((n,()),())) (yl4 a0 a1):=by
 unfold yvF yl4 yeG;simp only[ybU];cases hg:yd a1
 ·rfl
 cases hid:(leb 1 a0&&leb a0 60000)
 ·rfl
 have hge:=yl.1 hg
 have inner: ∀(i:Int) (a:dA),ymn (yIZ a0 i a1 yaJ a (yjq a0 a1 i))=some (.inl (yvm a0 i a1 yaJ a (yP a0 a1 i))):=fun i a =>
  zkB (step:=ybC) a1.2.toNat (fun s m=>yls a0 i s a1 yaJ a m) ypC (fun _ m=>(m.1.length:Int)=6+a1.2) (fun m=> .inl (yvm a0 i a1 yaJ a m)) (fun s m hs hm=>⟨by
   simp only[ybC,yls,ylG,zkw (show(s:Int)<a1.2 by omega),cond_true,wq ((s:Int)+1) (by omega) (by omega),Int.natCast_add,Int.natCast_one,Int.toNat_natCast,yeZ];have hd:yy (s:Int)=((s+6:Nat):Int):=by unfold yy; rw[zk0 (show(0:Int)≤s by omega),zk0 (show(s:Int)≤1099511627776 by omega)]; rfl
   rw[hd,zkP (show s+6<m.1.length by omega),Int.toNat_natCast]; rfl,by show((m.1.set _ _).length:Int)=_; rw[List.length_set]; exact hm⟩) (fun m hm=>by simp only[ybC,yls,ylG,show((a1.2.toNat:Nat):Int)=a1.2 by omega,zk1 (Int.le_refl _),cond_false]) (yjq a0 a1 i) (by
   unfold yjq ya9;rw[zk0 (show 1≤6+a1.2 by omega),zk0 (show 6+a1.2≤20 by omega)];show(((List.replicate (6+a1.2).toNat ([]:List Int)).set 0 _).length:Int)=_
   rw[List.length_set,List.length_replicate]; omega) 18446744073709551616 (by omega)
 have hmn:yem (ycX a1)=ya9 (6+a1.2):=by
  unfold yem ycX;rw[wr (by omega) (by omega)]
 have h0:inb 0 (ya9 (6+a1.2)).1.length=true:=by
  unfold ya9;rw[zk0 (show 1≤6+a1.2 by omega),zk0 (show 6+a1.2≤20 by omega)];show inb 0 (List.replicate (6+a1.2).toNat ([]:List Int)).length=true;rw[List.length_replicate,zj4]; omega
 have outer:yr0 (yOt a0 a1 yaJ (yDZ a0 a1))=some (.inl (yCl yaJ ((List.range a1.1.toNat).foldl (fun a (i:Nat)=>yDV a (yP a0 a1 i)) (yDZ a0 a1)))) :=
  zkB (step:=ydn) a1.1.toNat (fun i a=>yj1 a0 i a1 yaJ a) (fun a i=>yDV a (yP a0 a1 i)) (fun i a=>a.2.2.1.length=i) (fun a=> .inl (yCl yaJ a)) (fun i a hi ha=>⟨by
   simp only[ydn,yj1,yqU,zkw (show(i:Int)<a1.1 by omega),cond_true,wq ((i:Int)+1) (by omega) (by omega),Int.natCast_add,Int.natCast_one,zkV,hmn,h0];refine(congrArg (fun z=>zkr z _ _) (inner i a)).trans ?_;simp only[zkL];show(bif zkj a.2.2.1.length [yP a0 a1 i].length 80 then _ else _)=_;rw[zkD.2 (show(a.2.2.1.length+ [yP a0 a1 i].length)*80≤140737488355328 by simp only[List.length_cons,List.length_nil]; omega)];simp only[cond_true];show some (Sum.inl (yj1 a0 (i64.wrap ((i:Int)+1)) a1 yaJ (yDV a (yP a0 a1 i))))=_
   rw[wq ((i:Int)+1) (by omega) (by omega)],by show(a.2.2.1++ [_]).length=_; rw[List.length_append,ha]; rfl⟩) (fun a ha=>by simp only[ydn,yj1,yqU,show((a1.1.toNat:Nat):Int)=a1.1 by omega,zk1 (Int.le_refl _),cond_false]) (yDZ a0 a1) rfl 18446744073709551616 (by omega)
 have hdr: ∀(l:List Nat) (a:dA),a.2.2.2.2.2.2.2.2.1= []→(l.foldl (fun a (i:Nat)=>yDV a (yP a0 a1 i)) a).2.2.2.2.2.2.2.2.1= []:=by
  intro l
  induction l with
  | nil=>intro a h; exact h
  | cons x t ih=>intro a h; exact ih _ h
 have h:=hdr (List.range a1.1.toNat) (yDZ a0 a1) rfl;simp only[Bool.not_true,Bool.not_false,cond_true,cond_false,Bool.and_self];refine(congrArg (fun z=>zkr z _ _) outer).trans ?_;generalize (List.range a1.1.toNat).foldl (fun a (i:Nat)=>yDV a (yP a0 a1 i)) (yDZ a0 a1)=R at h;simp only[zkL];show some ((((R.1,R.2.1,R.2.2.1,R.2.2.2.1,R.2.2.2.2.1,R.2.2.2.2.2.1,R.2.2.2.2.2.2.1,R.2.2.2.2.2.2.2.1,[],R.2.2.2.2.2.2.2.2.2):dA),()),())=some ((R,()),());rw[← h]
def yGl:Con:=⟨yry,yAG,fun x=>(fun n=>some ((n,()),())) (yl4 x.1 x.2.1)⟩
theorem yZf:ConOk prog 115 yGl:=(yV0).mono (fun x r hk h=>(yYs x.1 x.2.1 hk).trans h)
end
end Go.Tf
