/- Functions of the program, and what they come to. -/
import Derived.Test.YtolmneojjjpnjaaGreatSureF2
namespace Go.Tf
noncomputable section
open Go.Proofs Go.Proofs.Tryz IntKind
set_option synthInstance.maxHeartbeats 400000
set_option synthInstance.maxSize 10000
set_option linter.unusedVariables false
set_option linter.unusedSimpArgs false
set_option maxRecDepth 100000
def yr9:Code:=(f69.body).getD .skip
def yBp:Env:=zku TT [] []
theorem yR5:FrOk prog ⟨yBp,32,fun _=>none⟩ yr9:=zky yg yh trivial
def yFK:Nat→Option Seg:=fun _=>none
def ye4:Shape:=⟨[(0,false,[.fz tY]),(3,false,[.int .i64]),(4,false,[.int .i64])],[],[]⟩
def yl9:Shape:=⟨[(0,false,[.fz tY]),(3,false,[.int .i64]),(4,false,[.ci .i64 0])],[],[]⟩
def yl8:Shape:=⟨[(0,false,[.fz tY]),(3,false,[.int .i64])],[],[]⟩
def ymg:Shape:=⟨[],[],[]⟩
def yDG (v0:List Int) (v1 v2:Int):Option ((ye4).X ⊕ ((yl8).X ⊕ (ymg).X)) :=bif(ltb v2 (v0.length:Int))then bif(ltb v2 4000)then bif(inb v2 v0.length)then some (.inl (((v0,()),((i64.wrap ((BitVec.ofInt IntKind.i64.bits (i64.wrap ((i64.wrap ((i64.wrap (v1*137))+(i64.wrap (nth v0 v2 0))))+11)) &&& BitVec.ofInt IntKind.i64.bits 1073741823).toNat:Int)),()),((i64.wrap (v2+1)),()),()),(),())) else none else some (.inr (.inl (((v0,()),(v1,()),()),(),()))) else some (.inr (.inl (((v0,()),(v1,()),()),(),())))
def yf1 (x:(ye4).X):=yDG x.1.1.1 x.1.2.1.1 x.1.2.2.1.1
def yCG (x:(yl9).X):(ye4).X:=(((x.1.1.1,()),(x.1.2.1.1,()),(0,()),()),(),())
def yD9:Code:=(zeJ yr9 64 116).getD .skip
theorem yRq:zeJ yr9 64 29=some (.block 0 (.loop yD9)):=by kernel_rfl
theorem yT8 (x:(ye4).X):zhu ⟨yBp,32,yFK⟩ 0 yD9 116 ye4 yl8 ymg x=yf1 x:=by kernel_rfl
def yCW (x:(yl9).X):Nat:=18446744073709551616
def ysz (x:(yl9).X):Option ((yl8).X ⊕ (ymg).X):=zF yf1 (yCW x) (yCG x)
def yDA:Seg:=⟨yl9,yl8,ymg,ysz⟩
def yUF:Nat→Option Seg:=fun q=>bif Nat.beq q 29 then some yDA else yFK q
theorem yR6:FrOk prog ⟨yBp,32,yUF⟩ yr9:=(yR5).loop (sg:=yDA) ye4 yCG (by decide) yRq yf1 yCW (by decide) (fun _=>rfl) (fun x r _ h=>h) yT8
abbrev ysR:List Par:= [.kp tYs .fz]
abbrev yBU:List OT:= [⟨true,tU,.fz⟩]
def yjS (a0:List Int):Option (zaY yBU×zak ysR) :=zkr (ysz (((a0,()),((i64.wrap (770770+(a0.length:Int))),()),((),()),()),(),())) (fun y0 =>some (((y0.1.1.1,0,y0.1.2.1.1),()),())) (fun y0 =>none)
theorem yV9:ConOk prog 69 ⟨ysR,yBU,fun x=>yjS x.1⟩:=zkG (yR6) func69 ntmps69.symm fun x=>by kernel_rfl
def ygR (a0:List Int):List Int×Int×Int:=(((yjS a0).getD (((([]:List Int),(0:Int),(0:Int)),()),())).1).1
def yco (u:List Int×Int×Int):Prop:=0≤u.2.1∧(u.1.length:Int)≤140737488355328
theorem yZL (a0:List Int) (hb:a0.length≤140737488355328): ∃s:Int,yjS a0=some (((a0,0,s),()),()):=by
 have hl: ∃b,ysz (((a0,()),((i64.wrap (770770+(a0.length:Int))),()),((),()),()),(),())=some b∧(∃s:Int,b= .inl (((a0,()),(s,()),()),(),())):=by
  refine zji (step:=yf1) (fun x=>(a0.length-(x.1.2.2.1.1:Int).toNat)) (fun x=>(x.1.1.1:List Int)=a0∧(0:Int)≤(x.1.2.2.1.1:Int)) _ ?_ _ _ ⟨rfl,Int.le_refl _⟩ (by show a0.length-_<18446744073709551616; omega)
  rintro⟨⟨⟨(l:List Int),_⟩,⟨(s:Int),_⟩,⟨(i:Int),_⟩,_⟩,_,_⟩ ⟨h0,hi⟩
  simp only at h0 hi;subst h0;simp only[yf1,yDG];by_cases h1:i<(l.length:Int)
  ·rw[zkw h1]
   by_cases h2:i<4000
   ·rw[zkw h2,zj4.2 ⟨hi,h1⟩]
    refine .inl ⟨_,rfl,⟨rfl,?_⟩,?_⟩
    ·show 0≤i64.wrap (i+1); rw[wr (by omega) (by omega)]; omega
    ·show l.length-(i64.wrap (i+1)).toNat<l.length-i.toNat; rw[wr (by omega) (by omega)]; omega
   ·rw[zk1 (Int.not_lt.1 h2)]
    exact .inr ⟨_,rfl,_,rfl⟩
  ·rw[zk1 (Int.not_lt.1 h1)]
   exact .inr ⟨_,rfl,_,rfl⟩
 obtain⟨b,e,s,rfl⟩:=hl;refine⟨s,?_⟩;unfold yjS;rw[e]; rfl
theorem yYF (a0:List Int) (hk:zjw ysR (a0,())):yjS a0=(fun n=>some ((n,()),())) (ygR a0):=by
 obtain⟨s,e⟩:=yZL a0 (by have:a0.length*1≤2^47:=hk.1.1; omega);unfold ygR;rw[e]; rfl
theorem y1J (a0:List Int) (hb:a0.length≤140737488355328):yco (ygR a0):=by
 obtain⟨s,e⟩:=yZL a0 hb;unfold ygR;rw[e];exact⟨Int.le_refl _,by show(a0.length:Int)≤_; omega⟩
def ywd:Con:=⟨ysR,yBU,fun x=>(fun n=>some ((n,()),())) (ygR x.1)⟩
theorem yHE:ConOk prog 69 ywd:=(yV9).mono (fun x r hk h=>(yYF x.1 hk).trans h)
def yXL:Code:=(f71.body).getD .skip
def yYh:Env:=zku TT [] []
theorem yOi:FrOk prog ⟨yYh,15,fun _=>none⟩ yXL:=zky yg yh trivial
abbrev yyy:List Par:= [.rd tYs,.rd tI]
abbrev yy3:List OT:= [⟨false,tI,.fz⟩]
def yE7 (a0:List Int) (a1:Int):Option (zaY yy3×zak yyy) :=bif(ltb a1 (i64.wrap (3+(i64.wrap ((a0.length:Int).tdiv 12)))))then some ((a1,()),()) else some (((i64.wrap (3+(i64.wrap ((a0.length:Int).tdiv 12)))),()),())
theorem yTp:ConOk prog 71 ⟨yyy,yy3,fun x=>yE7 x.1 x.2.1⟩:=zkG (yOi) func71 ntmps71.symm fun x=>by kernel_rfl
def yaZ (a0:List Int) (a1:Int):Int :=bif(ltb a1 (i64.wrap (3+(i64.wrap ((a0.length:Int).tdiv 12)))))then a1 else (i64.wrap (3+(i64.wrap ((a0.length:Int).tdiv 12))))
def ytA:Con:=⟨yyy,yy3,fun x=>(fun n=>some ((n,()),())) (yaZ x.1 x.2.1)⟩
theorem yVH (a0:List Int) (a1:Int):yE7 a0 a1=(fun n=>some ((n,()),())) (yaZ a0 a1):=zkT (p:=fun(n:Int)=>((n,()),())) (zkE (p:=fun(n:Int)=>((n,()),())) rfl rfl)
theorem yGu:ConOk prog 71 ytA:=(yTp).mono (fun x r _ h=>(yVH x.1 x.2.1).trans h)
theorem y0H (l:List Int) (n:Int) (hn:0≤n) (hl:l.length≤140737488355328):0≤yaZ l n∧yaZ l n≤n:=by
 unfold yaZ;have h1:0≤(l.length:Int).tdiv 12:=Int.tdiv_nonneg (by omega) (by omega)
 have h2:(l.length:Int).tdiv 12≤(l.length:Int):=by
  rw[Int.tdiv_eq_ediv_of_nonneg (by omega)];exact Int.ediv_le_self _ (by omega)
 rw[wq ((l.length:Int).tdiv 12) (by omega) (by omega),wq (3+(l.length:Int).tdiv 12) (by omega) (by omega)];by_cases h:n<3+(l.length:Int).tdiv 12
 ·rw[zkw h]; exact⟨hn,Int.le_refl _⟩
 ·rw[zk1 (by omega),cond_false]; omega
def yXN:Code:=(f178.body).getD .skip
def yYj:Env:=zku TT [] []
theorem yOt:FrOk prog ⟨yYj,6,fun _=>none⟩ yXN:=zky yg yh trivial
abbrev yyB:List Par:= [.rd tG]
abbrev yy7:List OT:= [⟨false,tI,.fz⟩]
def yE9 (a0:dG):Option (zaY yy7×zak yyB) :=some (((i64.wrap (6+a0.2)),()),())
theorem yTv:ConOk prog 178 ⟨yyB,yy7,fun x=>yE9 x.1⟩:=zkG (yOt) func178 ntmps178.symm fun x=>by kernel_rfl
def ycy (a0:dG):Int :=(i64.wrap (6+a0.2))
def ymq:Con:=⟨yyB,yy7,fun x=>(fun n=>some ((n,()),())) (ycy x.1)⟩
theorem yVM (a0:dG):yE9 a0=(fun n=>some ((n,()),())) (ycy a0):=zkT (p:=fun(n:Int)=>((n,()),())) rfl
theorem ywm:ConOk prog 178 ymq:=(yTv).mono (fun x r _ h=>(yVM x.1).trans h)
def yp0:Code:=(f151.body).getD .skip
def yyg:Env:=zku TT [(160,yf8),(178,ymq)] []
theorem yOr:FrOk prog ⟨yyg,51,fun _=>none⟩ yp0:=zky yg yh ⟨yld,ywm,trivial⟩
def yDT:Nat→Option Seg:=fun _=>none
def ycJ:Shape:=⟨[(1,false,[.ptr 0 0]),(3,false,[.int .i64])],[(0,[.int .i64,.int .i64,.int .i64,.br tM,.int .i64,.int .i64,.int .i64,.int .i64,.int .i64,.br tW,.int .i64,.bool,.bool])],[]⟩
def ygF:Shape:=⟨[(1,false,[.ptr 0 0]),(3,false,[.ci .i64 0])],[(0,[.int .i64,.int .i64,.int .i64,.br tM,.int .i64,.int .i64,.int .i64,.int .i64,.int .i64,.br tW,.int .i64,.bool,.bool])],[]⟩
def ygu:Shape:=⟨[(1,false,[.ptr 0 0])],[(0,[.int .i64,.int .i64,.int .i64,.br tM,.int .i64,.int .i64,.int .i64,.int .i64,.int .i64,.br tW,.int .i64,.bool,.bool])],[]⟩
def ygK:Shape:=⟨[(2,false,[.bool])],[],[]⟩
abbrev yo5 (v0:Int) (v1:dA):(ycJ).X:=((((),()),(v0,()),()),((v1.1,v1.2.1.1,v1.2.1.2,v1.2.2.1,v1.2.2.2.1,v1.2.2.2.2.1,v1.2.2.2.2.2.1,v1.2.2.2.2.2.2.1,v1.2.2.2.2.2.2.2.1,v1.2.2.2.2.2.2.2.2.1,v1.2.2.2.2.2.2.2.2.2.1,v1.2.2.2.2.2.2.2.2.2.2.1,v1.2.2.2.2.2.2.2.2.2.2.2,()),()),())
abbrev yL4 (v0:dA):(ygF).X:=((((),()),((),()),()),((v0.1,v0.2.1.1,v0.2.1.2,v0.2.2.1,v0.2.2.2.1,v0.2.2.2.2.1,v0.2.2.2.2.2.1,v0.2.2.2.2.2.2.1,v0.2.2.2.2.2.2.2.1,v0.2.2.2.2.2.2.2.2.1,v0.2.2.2.2.2.2.2.2.2.1,v0.2.2.2.2.2.2.2.2.2.2.1,v0.2.2.2.2.2.2.2.2.2.2.2,()),()),())
abbrev yLV (v0:dA):(ygu).X:=((((),()),()),((v0.1,v0.2.1.1,v0.2.1.2,v0.2.2.1,v0.2.2.2.1,v0.2.2.2.2.1,v0.2.2.2.2.2.1,v0.2.2.2.2.2.2.1,v0.2.2.2.2.2.2.2.1,v0.2.2.2.2.2.2.2.2.1,v0.2.2.2.2.2.2.2.2.2.1,v0.2.2.2.2.2.2.2.2.2.2.1,v0.2.2.2.2.2.2.2.2.2.2.2,()),()),())
abbrev yL8 (v0:Bool):(ygK).X:=(((v0,()),()),(),())
def ypD (v0 v1 v2 v3:Int) (v4:List dM) (v5 v6 v7 v8 v9:Int) (v10:List dW) (v11:Int) (v12 v13:Bool):Option ((ycJ).X ⊕ ((ygu).X ⊕ (ygK).X)) :=bif(ltb v0 (v4.length:Int))then bif(inb v0 v4.length)then let r3:=yaK ((nth v4 v0 ([],[],false,[])).1,((nth v4 v0 ([],[],false,[])).2).1,(((nth v4 v0 ([],[],false,[])).2).2));bif(!(!r3))then let r4:=ycy (v2,v3);bif(!((((nth v4 v0 ([],[],false,[])).1).length:Int) !=r4))then bif(((nth v4 v0 ([],[],false,[])).2).2).1 then bif(v0 !=v5)then bif(!v13)then some (.inr (.inr (((false,()),()),(),()))) else some (.inl ((((),()),((i64.wrap (v0+1)),()),()),((v1,v2,v3,v4,v5,v6,v7,v8,v9,v10,v11,v12,v13,()),()),())) else some (.inl ((((),()),((i64.wrap (v0+1)),()),()),((v1,v2,v3,v4,v5,v6,v7,v8,v9,v10,v11,v12,v13,()),()),())) else some (.inl ((((),()),((i64.wrap (v0+1)),()),()),((v1,v2,v3,v4,v5,v6,v7,v8,v9,v10,v11,v12,v13,()),()),())) else some (.inr (.inr (((false,()),()),(),()))) else some (.inr (.inr (((false,()),()),(),()))) else none else some (.inr (.inl ((((),()),()),((v1,v2,v3,v4,v5,v6,v7,v8,v9,v10,v11,v12,v13,()),()),())))
def yc5 (x:(ycJ).X):=ypD x.1.2.1.1 x.2.1.1.1 x.2.1.1.2.1 x.2.1.1.2.2.1 x.2.1.1.2.2.2.1 x.2.1.1.2.2.2.2.1 x.2.1.1.2.2.2.2.2.1 x.2.1.1.2.2.2.2.2.2.1 x.2.1.1.2.2.2.2.2.2.2.1 x.2.1.1.2.2.2.2.2.2.2.2.1 x.2.1.1.2.2.2.2.2.2.2.2.2.1 x.2.1.1.2.2.2.2.2.2.2.2.2.2.1 x.2.1.1.2.2.2.2.2.2.2.2.2.2.2.1 x.2.1.1.2.2.2.2.2.2.2.2.2.2.2.2.1
def yAj (x:(ygF).X):(ycJ).X:=((((),()),(0,()),()),((x.2.1.1.1,x.2.1.1.2.1,x.2.1.1.2.2.1,x.2.1.1.2.2.2.1,x.2.1.1.2.2.2.2.1,x.2.1.1.2.2.2.2.2.1,x.2.1.1.2.2.2.2.2.2.1,x.2.1.1.2.2.2.2.2.2.2.1,x.2.1.1.2.2.2.2.2.2.2.2.1,x.2.1.1.2.2.2.2.2.2.2.2.2.1,x.2.1.1.2.2.2.2.2.2.2.2.2.2.1,x.2.1.1.2.2.2.2.2.2.2.2.2.2.2.1,x.2.1.1.2.2.2.2.2.2.2.2.2.2.2.2.1,()),()),())
def yCd:Code:=(zeJ yp0 64 52).getD .skip
theorem yNF:zeJ yp0 64 13=some (.block 0 (.loop yCd)):=by kernel_rfl
theorem yQt (x:(ycJ).X):zhu ⟨yyg,51,yDT⟩ 0 yCd 52 ycJ ygu ygK x=yc5 x:=by kernel_rfl
def yAu (x:(ygF).X):Nat:=18446744073709551616
def yqJ (x:(ygF).X):Option ((ygu).X ⊕ (ygK).X):=zF yc5 (yAu x) (yAj x)
def yAO:Seg:=⟨ygF,ygu,ygK,yqJ⟩
def yQX:Nat→Option Seg:=fun q=>bif Nat.beq q 13 then some yAO else yDT q
theorem yOs:FrOk prog ⟨yyg,51,yQX⟩ yp0:=(yOr).loop (sg:=yAO) ycJ yAj (by decide) yNF yc5 yAu (by decide) (fun _=>rfl) (fun x r _ h=>h) yQt
abbrev ykR:List Par:= [.rd tA]
abbrev yqm:List OT:= [⟨false,tB,.fz⟩]
def yup (a0:dA):Option (zaY yqm×zak ykR) :=zkr (yqJ ((((),()),((),()),()),((a0.1,a0.2.1.1,a0.2.1.2,a0.2.2.1,a0.2.2.2.1,a0.2.2.2.2.1,a0.2.2.2.2.2.1,a0.2.2.2.2.2.2.1,a0.2.2.2.2.2.2.2.1,a0.2.2.2.2.2.2.2.2.1,a0.2.2.2.2.2.2.2.2.2.1,a0.2.2.2.2.2.2.2.2.2.2.1,a0.2.2.2.2.2.2.2.2.2.2.2,()),()),())) (fun y4 =>some ((((y4.2.1.1.2.2.2.1.length:Int)==y4.2.1.1.2.1),()),())) (fun y4 =>some ((y4.1.1.1,()),()))
theorem yTu:ConOk prog 151 ⟨ykR,yqm,fun x=>yup x.1⟩:=zkG (yOs) func151 ntmps151.symm fun x=>by kernel_rfl
def yk8 (a0:dA):Bool:=ykX a0
def yzp (a0:dA):Bool:=ye a0.2.1
theorem yVL (a0:dA) (hk:zjw ykR (a0,())) (hq:yzp a0=true):yup a0=(fun n=>some ((n,()),())) (yk8 a0):=by
 have hb:a0.2.2.1.length*80≤2^47:=hk.1.2.2.1.1;have hg:=yn.1 hq
 have h1:yqJ (yL4 a0)=some (bif(List.range a0.2.2.1.length).any (ygN a0)then .inr (yL8 false)else .inl (yLV a0)) :=
  zjh (step:=yc5) (fun i=>yo5 i a0) a0.2.2.1.length (ygN a0) _ _ (fun i hi=>by
   simp only[yc5,yo5,ypD,zkw (show(i:Int)<a0.2.2.1.length by omega),cond_true,wq ((i:Int)+1) (by omega) (by omega),Int.natCast_add,Int.natCast_one,Int.toNat_natCast,zkP hi,zkV,yaK,ygN,ycy,wq (6+a0.2.1.2) (by omega) (by omega),yc]
   cases yu (nth a0.2.2.1 i ([],[],false,[]))<;>cases(((nth a0.2.2.1 i ([],[],false,[])).1.length:Int) !=6+a0.2.1.2)<;>cases(nth a0.2.2.1 i ([],[],false,[])).2.2.1<;>cases((i:Int) !=a0.2.2.2.1)<;>cases a0.2.2.2.2.2.2.2.2.2.2.2<;>rfl) (by simp only[yc5,yo5,ypD,zk1 (Int.le_refl _),cond_false]) _ (by show _<18446744073709551616; omega)
 unfold yup yk8 ykX;rw[h1];cases(List.range a0.2.2.1.length).any (ygN a0)<;>rfl
def yqs (a0:dA):Option (zaY yqm×zak ykR):=bif yzp a0 then(fun n=>some ((n,()),())) (yk8 a0)else none
theorem yWD (a0:dA) (h:yzp a0=true):yqs a0=(fun n=>some ((n,()),())) (yk8 a0):=by unfold yqs; rw[h]; rfl
def yEv:Con:=⟨ykR,yqm,fun x=>yqs x.1⟩
theorem yWx:ConOk prog 151 yEv:=(yTu).mono (fun x r hk h=>zkW h (fun hq=>yVL x.1 hk hq))
def yZf:Code:=(f78.body).getD .skip
def yZr:Env:=zku TT [(82,yL),(150,yf7),(151,yEv),(152,yCt)] []
theorem yRU:FrOk prog ⟨yZr,78,fun _=>none⟩ yZf:=zky yg yh ⟨yS,ylc,yWx,yTQ,trivial⟩
abbrev ysM:List Par:= [.rd tA]
abbrev yBN:List OT:= [⟨false,tB,.fz⟩]
def ywz (a0:dA):Option (zaY yBN×zak ysM) :=let r1:=ye a0.2.1;bif(!(!r1))then let r2:=yb a0.1 1 60000;bif(!(!r2))then bnd (yqs a0) fun r3 =>bif(!(!r3.1.1))then bnd (yor a0) fun r4 =>bif(!r4.1.1)then some ((false,()),()) else let r5:=yb a0.2.2.2.1 (-1) (i64.wrap (a0.2.1.1-1));bif(!(!r5))then let r6:=yb a0.2.2.2.2.1 0 a0.2.1.2;bif(!(!r6))then bif(a0.2.2.2.1==(-1))then bif(a0.2.2.2.2.1 !=0)then some ((false,()),()) else let r7:=yb a0.2.2.2.2.2.2.1 0 60000;bif r7 then let r8:=yb a0.2.2.2.2.2.1 a0.2.2.2.2.2.2.1 60000;bif r8 then bif(leb a0.2.2.2.2.2.1 (i64.wrap (a0.2.2.2.2.2.2.1+4)))then let r9:=yb a0.2.2.2.2.2.2.2.1 0 60000;bif r9 then let r10:=yb a0.2.2.2.2.2.2.2.2.2.1 (-1) 1000;some ((r10,()),()) else some ((false,()),()) else some ((false,()),()) else some ((false,()),()) else some ((false,()),()) else let r11:=yb a0.2.2.2.2.2.2.1 0 60000;bif r11 then let r12:=yb a0.2.2.2.2.2.1 a0.2.2.2.2.2.2.1 60000;bif r12 then bif(leb a0.2.2.2.2.2.1 (i64.wrap (a0.2.2.2.2.2.2.1+4)))then let r13:=yb a0.2.2.2.2.2.2.2.1 0 60000;bif r13 then let r14:=yb a0.2.2.2.2.2.2.2.2.2.1 (-1) 1000;some ((r14,()),()) else some ((false,()),()) else some ((false,()),()) else some ((false,()),()) else some ((false,()),()) else some ((false,()),()) else some ((false,()),()) else some ((false,()),()) else some ((false,()),()) else some ((false,()),())
theorem yV2:ConOk prog 78 ⟨ysM,yBN,fun x=>ywz x.1⟩:=zkG (yRU) func78 ntmps78.symm fun x=>by kernel_rfl
def yjE (a0:dA):Bool:=yal a0
theorem yYz (a0:dA) (hk:zjw ysM (a0,())):ywz a0=(fun n=>some ((n,()),())) (yjE a0):=by
 unfold ywz yjE yal;simp only[ycx];cases hg:ye a0.2.1
 ·rfl
 have hg2:=yn.1 hg;rw[yWD a0 hg,yTX a0 hg,wq (a0.2.1.1-1) (by omega) (by omega)];simp only[zkF,yk8,yjI,Bool.not_not,cond_true];cases(leb 1 a0.1&&leb a0.1 60000)
 ·rfl
 cases ykX a0
 ·rfl
 cases yaO a0.2.1 a0.2.2.2.2.2.2.2.2.1
 ·rfl
 cases(leb (-1) a0.2.2.2.1&&leb a0.2.2.2.1 (a0.2.1.1-1))
 ·rfl
 cases(leb 0 a0.2.2.2.2.1&&leb a0.2.2.2.2.1 a0.2.1.2)
 ·rfl
 have ht:(leb 0 a0.2.2.2.2.2.2.1&&leb a0.2.2.2.2.2.2.1 60000)=true→i64.wrap (a0.2.2.2.2.2.2.1+4)=a0.2.2.2.2.2.2.1+4:=fun h=>by
  rw[Bool.and_eq_true,zj5,zj5]at h;exact wr (by omega) (by omega)
 cases hT:(leb 0 a0.2.2.2.2.2.2.1&&leb a0.2.2.2.2.2.2.1 60000)
 ·cases(a0.2.2.2.1== -1)<;>cases(a0.2.2.2.2.1 !=0)<;>rfl
 rw[ht hT];cases(leb a0.2.2.2.2.2.2.1 a0.2.2.2.2.2.1&&leb a0.2.2.2.2.2.1 60000)
 ·cases(a0.2.2.2.1== -1)<;>cases(a0.2.2.2.2.1 !=0)<;>rfl
 cases leb a0.2.2.2.2.2.1 (a0.2.2.2.2.2.2.1+4)
 ·cases(a0.2.2.2.1== -1)<;>cases(a0.2.2.2.2.1 !=0)<;>rfl
 cases(leb 0 a0.2.2.2.2.2.2.2.1&&leb a0.2.2.2.2.2.2.2.1 60000)<;>cases(a0.2.2.2.1== -1)<;>cases(a0.2.2.2.2.1 !=0)<;>rfl
def yF2:Con:=⟨ysM,yBN,fun x=>(fun n=>some ((n,()),())) (yjE x.1)⟩
theorem yYU:ConOk prog 78 yF2:=(yV2).mono (fun x r hk h=>(yYz x.1 hk).trans h)
def yXC:Code:=(f119.body).getD .skip
def yX8:Env:=zku TT [(150,yf7)] []
theorem yN7:FrOk prog ⟨yX8,12,fun _=>none⟩ yXC:=zky yg yh ⟨ylc,trivial⟩
abbrev yys:List Par:= [.rd tG]
abbrev yyT:List OT:= [⟨false,tI,.fz⟩]
def yE4 (a0:dG):Option (zaY yyT×zak yys) :=let r1:=ye a0;bif(!r1)then some ((0,()),()) else some (((i64.wrap (a0.2*(i64.wrap (a0.1-1)))),()),())
theorem yTf:ConOk prog 119 ⟨yys,yyT,fun x=>yE4 x.1⟩:=zkG (yN7) func119 ntmps119.symm fun x=>by kernel_rfl
def yH (a0:dG):Int :=let r1:=ye a0;bif(!r1)then 0 else (i64.wrap (a0.2*(i64.wrap (a0.1-1))))
def ymp:Con:=⟨yys,yyT,fun x=>(fun n=>some ((n,()),())) (yH x.1)⟩
theorem yVA (a0:dG):yE4 a0=(fun n=>some ((n,()),())) (yH a0):=zkT (p:=fun(n:Int)=>((n,()),())) (zkE (p:=fun(n:Int)=>((n,()),())) rfl rfl)
theorem ywl:ConOk prog 119 ymp:=(yTf).mono (fun x r _ h=>(yVA x.1).trans h)
theorem yWL (a:Int×Int):0≤yH a∧yH a≤32:=by
 unfold yH;cases h:ye a
 ·simp
 ·obtain⟨⟨h1,h2⟩,h3,h4⟩:=yn.1 h
  have h5:0≤a.2*(a.1-1):=Int.mul_nonneg (by omega) (by omega);have h6:a.2*(a.1-1)≤8*4:=Int.mul_le_mul h4 (by omega) (by omega) (by omega);simp only[Bool.not_true,cond_false,wq (a.1-1) (by omega) (by omega),wq (a.2*(a.1-1)) (by omega) (by omega)];omega
theorem yGJ {a:Int×Int} (h:ye a=true):yH a=a.2*(a.1-1):=by
 unfold yH;obtain⟨⟨h1,h2⟩,h3,h4⟩:=yn.1 h;have h5:0≤a.2*(a.1-1):=Int.mul_nonneg (by omega) (by omega);have h6:a.2*(a.1-1)≤8*4:=Int.mul_le_mul h4 (by omega) (by omega) (by omega);simp only[h,Bool.not_true,cond_false,wq (a.1-1) (by omega) (by omega),wq (a.2*(a.1-1)) (by omega) (by omega)]
def yai (l:List dW) (s:Int):Int:=yaf (fun e:dW=>e.1==s) l
def ykn (g:dG) (b:Int):Bool:=leb 0 b&&leb b (yH g-1)
def yb2 (g:dG) (b:Int):Int:=bif ykn g b then b.tdiv (g.1-1)else -1
def ywh (g:dG) (b:Int):Int:=bif ykn g b then b.tmod (g.1-1)else -1
theorem yDZ {g:dG} {b:Int} (h:ykn g b=true):ye g=true∧(0≤b.tdiv (g.1-1)∧b.tdiv (g.1-1)≤g.2-1)∧(0≤b.tmod (g.1-1)∧b.tmod (g.1-1)≤g.1-2):=by
 simp only[ykn,Bool.and_eq_true,zj5]at h;cases hg:ye g
 ·have:yH g=0:=by unfold yH; rw[hg]; rfl
  omega
 ·rw[yGJ hg]at h
  have h2:=yn.1 hg;rw[Int.tdiv_eq_ediv_of_nonneg h.1,Int.tmod_eq_emod_of_nonneg h.1];have h3:=Int.ediv_lt_of_lt_mul (show 0<g.1-1 by omega) (show b<g.2*(g.1-1)by omega);have h4:=Int.ediv_nonneg h.1 (show 0≤g.1-1 by omega);have h5:=Int.emod_nonneg b (show g.1-1≠0 by omega);have h6:=Int.emod_lt_of_pos b (show 0<g.1-1 by omega);exact⟨rfl,⟨h4,by omega⟩,h5,by omega⟩
theorem yFB {g:dG} {b:Int} (h:ykn g b=true):yac g (yb2 g b)=true:=by
 obtain⟨h1,h2,_⟩:=yDZ h;unfold yb2;rw[h,cond_true,yY];exact⟨h1,h2⟩
def ybB (a:dA) (s:Int):List Int×Bool:=bif leb 0 (yai a.2.2.2.2.2.2.2.2.1 s)then((nth a.2.2.2.2.2.2.2.2.1 (yai a.2.2.2.2.2.2.2.2.1 s) (0,[])).2,true)else bif a.2.2.2.2.2.2.2.2.2.2.2 then([],false)else yqo a s
theorem y2t {a:dA} (h:yal a=true) {i:Nat} (hi:i<a.2.2.2.2.2.2.2.2.1.length):(0≤(nth a.2.2.2.2.2.2.2.2.1 i (0,[])).1∧(nth a.2.2.2.2.2.2.2.2.1 i (0,[])).1≤a.2.1.2-1)∧((nth a.2.2.2.2.2.2.2.2.1 i (0,[])).2.length:Int)=a.2.1.1-1∧(nth a.2.2.2.2.2.2.2.2.1 i (0,[])).2.all isW=true∧(0<i→(nth a.2.2.2.2.2.2.2.2.1 ((i-1:Nat):Int) (0,[])).1<(nth a.2.2.2.2.2.2.2.2.1 i (0,[])).1):=by
 have h1:yaO a.2.1 a.2.2.2.2.2.2.2.2.1=true:=by simp only[yal,Bool.and_eq_true]at h; exact h.2.2.2.1
 simp only[yaO,Bool.not_eq_true',List.any_eq_false,List.mem_range]at h1;have h2:=h1 i hi;simp only[yhd,Bool.not_eq_true,Bool.or_eq_false_iff,Bool.not_eq_false',bne_eq_false_iff_eq,Bool.and_eq_true,Bool.and_eq_false_iff,decide_eq_false_iff_not,zj5]at h2;refine⟨h2.1,h2.2.1,h2.2.2.1,fun h0=> ?_⟩;rcases h2.2.2.2 with h3 | h3
 ·exact absurd h0 h3
 ·have:=mt zk0 (by rw[h3]; simp: ¬leb (nth a.2.2.2.2.2.2.2.2.1 i (0,[])).1 (nth a.2.2.2.2.2.2.2.2.1 ((i-1:Nat):Int) (0,[])).1=true)
  omega
theorem yzu {a:dA} {s:Int} (h:yal a=true) (hs:yac a.2.1 s=true) (h2:(ybB a s).2=true):((ybB a s).1.length:Int)=a.2.1.1-1:=by
 have hg:=yn.1 (yrK h);unfold ybB at h2 ⊢;cases hk:leb 0 (yai a.2.2.2.2.2.2.2.2.1 s)
 ·rw[hk]at h2
  simp only[cond_false]at h2 ⊢;cases hb:a.2.2.2.2.2.2.2.2.2.2.2
  ·rw[hb]at h2
   simp only[cond_false]at h2 ⊢;unfold yqo at h2 ⊢;cases hw:(yP a s).2
   ·rw[hw]at h2; cases h2
   ·simp only[cond_true,List.length_map,List.length_range]; omega
  ·rw[hb]at h2; cases h2
 ·have h3:=zj4.1 (ymY (d:=((0,[]):dW)) hk).1
  have:=(y2t h (i:=(yai a.2.2.2.2.2.2.2.2.1 s).toNat) (by unfold yai; omega)).2.1;rw[show(((yai a.2.2.2.2.2.2.2.2.1 s).toNat:Nat):Int)=yai a.2.2.2.2.2.2.2.2.1 s by have:=zj5.1 hk; omega]at this;exact this
theorem y1B (g:dG) (b:Int):yb b 0 (i64.wrap (yH g-1))=ykn g b:=by
 have:=yWL g;rw[wr (by omega) (by omega),ycx]; rfl
def yQL:Code:=(f180.body).getD .skip
def yRc:Env:=zku TT [(82,yL),(119,ymp)] []
theorem yJg:FrOk prog ⟨yRc,16,fun _=>none⟩ yQL:=zky yg yh ⟨yS,ywl,trivial⟩
abbrev yl6:List Par:= [.rd tG,.rd tI]
abbrev ytd:List OT:= [⟨false,tI,.fz⟩]
def ypq (a0:dG) (a1:Int):Option (zaY ytd×zak yl6) :=let r1:=yH a0;let r2:=yb a1 0 (i64.wrap (r1-1));bif(!r2)then some (((-1),()),()) else bif((i64.wrap (a0.1-1)) !=0)then some (((i64.wrap (a1.tdiv (i64.wrap (a0.1-1)))),()),()) else none
theorem yMy:ConOk prog 180 ⟨yl6,ytd,fun x=>ypq x.1 x.2.1⟩:=zkG (yJg) func180 ntmps180.symm fun x=>by kernel_rfl
def yir (a0:dG) (a1:Int):Int:=yb2 a0 a1
theorem yPs (a0:dG) (a1:Int) (hk:zjw yl6 (a0,a1,())):ypq a0 a1=(fun n=>some ((n,()),())) (yir a0 a1):=by
 unfold ypq yir yb2;simp only[y1B];cases hb:ykn a0 a1
 ·rfl
 ·obtain⟨h1,h2,h3⟩:=yDZ hb
  have h4:=yn.1 h1;rw[wq (a0.1-1) (by omega) (by omega),show(a0.1-1 !=0)=true from bne_iff_ne.2 (by omega),wr (by omega) (by omega)]; rfl
def yz5:Con:=⟨yl6,ytd,fun x=>(fun n=>some ((n,()),())) (yir x.1 x.2.1)⟩
theorem yQb:ConOk prog 180 yz5:=(yMy).mono (fun x r hk h=>(yPs x.1 x.2.1 hk).trans h)
def ywQ:Code:=(f215.body).getD .skip
def yFh:Env:=zku TT [] []
theorem yVe:FrOk prog ⟨yFh,22,fun _=>none⟩ ywQ:=zky yg yh trivial
def yHw:Nat→Option Seg:=fun _=>none
def yej:Shape:=⟨[(1,false,[.int .i64]),(2,false,[.ptr 0 0]),(5,false,[.int .i64])],[(0,[.int .i64,.int .i64,.int .i64,.br tM,.int .i64,.int .i64,.int .i64,.int .i64,.int .i64,.br tW,.int .i64,.bool,.bool])],[]⟩
def yjm:Shape:=⟨[(1,false,[.int .i64]),(2,false,[.ptr 0 0]),(5,false,[.ci .i64 0])],[(0,[.int .i64,.int .i64,.int .i64,.br tM,.int .i64,.int .i64,.int .i64,.int .i64,.int .i64,.br tW,.int .i64,.bool,.bool])],[]⟩
def yji:Shape:=⟨[],[],[]⟩
def yjq:Shape:=⟨[(4,false,[.int .i64])],[],[]⟩
abbrev ytX (v0 v1:Int) (v2:dA):(yej).X:=(((v0,()),((),()),(v1,()),()),((v2.1,v2.2.1.1,v2.2.1.2,v2.2.2.1,v2.2.2.2.1,v2.2.2.2.2.1,v2.2.2.2.2.2.1,v2.2.2.2.2.2.2.1,v2.2.2.2.2.2.2.2.1,v2.2.2.2.2.2.2.2.2.1,v2.2.2.2.2.2.2.2.2.2.1,v2.2.2.2.2.2.2.2.2.2.2.1,v2.2.2.2.2.2.2.2.2.2.2.2,()),()),())
abbrev ySw (v0:Int) (v1:dA):(yjm).X:=(((v0,()),((),()),((),()),()),((v1.1,v1.2.1.1,v1.2.1.2,v1.2.2.1,v1.2.2.2.1,v1.2.2.2.2.1,v1.2.2.2.2.2.1,v1.2.2.2.2.2.2.1,v1.2.2.2.2.2.2.2.1,v1.2.2.2.2.2.2.2.2.1,v1.2.2.2.2.2.2.2.2.2.1,v1.2.2.2.2.2.2.2.2.2.2.1,v1.2.2.2.2.2.2.2.2.2.2.2,()),()),())
abbrev ySs  :(yji).X:=((),(),())
abbrev yEO (v0:Int):(yjq).X:=(((v0,()),()),(),())
def yuD (v0 v1 v2 v3 v4:Int) (v5:List dM) (v6 v7 v8 v9 v10:Int) (v11:List dW) (v12:Int) (v13 v14:Bool):Option ((yej).X ⊕ ((yji).X ⊕ (yjq).X)) :=bif(ltb v1 (v11.length:Int))then bif(inb v1 v11.length)then bif((nth v11 v1 (0,[])).1==v0)then some (.inr (.inr (((v1,()),()),(),()))) else some (.inl (((v0,()),((),()),((i64.wrap (v1+1)),()),()),((v2,v3,v4,v5,v6,v7,v8,v9,v10,v11,v12,v13,v14,()),()),())) else none else some (.inr (.inl ((),(),())))
def yeu (x:(yej).X):=yuD x.1.1.1 x.1.2.2.1.1 x.2.1.1.1 x.2.1.1.2.1 x.2.1.1.2.2.1 x.2.1.1.2.2.2.1 x.2.1.1.2.2.2.2.1 x.2.1.1.2.2.2.2.2.1 x.2.1.1.2.2.2.2.2.2.1 x.2.1.1.2.2.2.2.2.2.2.1 x.2.1.1.2.2.2.2.2.2.2.2.1 x.2.1.1.2.2.2.2.2.2.2.2.2.1 x.2.1.1.2.2.2.2.2.2.2.2.2.2.1 x.2.1.1.2.2.2.2.2.2.2.2.2.2.2.1 x.2.1.1.2.2.2.2.2.2.2.2.2.2.2.2.1
def yEC (x:(yjm).X):(yej).X:=(((x.1.1.1,()),((),()),(0,()),()),((x.2.1.1.1,x.2.1.1.2.1,x.2.1.1.2.2.1,x.2.1.1.2.2.2.1,x.2.1.1.2.2.2.2.1,x.2.1.1.2.2.2.2.2.1,x.2.1.1.2.2.2.2.2.2.1,x.2.1.1.2.2.2.2.2.2.2.1,x.2.1.1.2.2.2.2.2.2.2.2.1,x.2.1.1.2.2.2.2.2.2.2.2.2.1,x.2.1.1.2.2.2.2.2.2.2.2.2.2.1,x.2.1.1.2.2.2.2.2.2.2.2.2.2.2.1,x.2.1.1.2.2.2.2.2.2.2.2.2.2.2.2.1,()),()),())
def yFY:Code:=(zeJ ywQ 64 52).getD .skip
theorem yU1:zeJ ywQ 64 13=some (.block 0 (.loop yFY)):=by kernel_rfl
theorem yWI (x:(yej).X):zhu ⟨yFh,22,yHw⟩ 0 yFY 52 yej yji yjq x=yeu x:=by kernel_rfl
def yEG (x:(yjm).X):Nat:=18446744073709551616
def yvF (x:(yjm).X):Option ((yji).X ⊕ (yjq).X):=zF yeu (yEG x) (yEC x)
def yFe:Seg:=⟨yjm,yji,yjq,yvF⟩
def yXT:Nat→Option Seg:=fun q=>bif Nat.beq q 13 then some yFe else yHw q
theorem yVf:FrOk prog ⟨yFh,22,yXT⟩ ywQ:=(yVe).loop (sg:=yFe) yej yEC (by decide) yU1 yeu yEG (by decide) (fun _=>rfl) (fun x r _ h=>h) yWI
abbrev ywT:List Par:= [.rd tA,.rd tI]
abbrev yFo:List OT:= [⟨false,tI,.fz⟩]
def yzt (a0:dA) (a1:Int):Option (zaY yFo×zak ywT) :=zkr (yvF (((a1,()),((),()),((),()),()),((a0.1,a0.2.1.1,a0.2.1.2,a0.2.2.1,a0.2.2.2.1,a0.2.2.2.2.1,a0.2.2.2.2.2.1,a0.2.2.2.2.2.2.1,a0.2.2.2.2.2.2.2.1,a0.2.2.2.2.2.2.2.2.1,a0.2.2.2.2.2.2.2.2.2.1,a0.2.2.2.2.2.2.2.2.2.2.1,a0.2.2.2.2.2.2.2.2.2.2.2,()),()),())) (fun y0 =>some (((-1),()),())) (fun y0 =>some ((y0.1.1.1,()),()))
theorem yYQ:ConOk prog 215 ⟨ywT,yFo,fun x=>yzt x.1 x.2.1⟩:=zkG (yVf) func215 ntmps215.symm fun x=>by kernel_rfl
def yiE (a0:dA) (a1:Int):Int:=yai a0.2.2.2.2.2.2.2.2.1 a1
theorem yZY (a0:dA) (a1:Int) (hk:zjw ywT (a0,a1,())):yzt a0 a1=(fun n=>some ((n,()),())) (yiE a0 a1):=by
 have hb:a0.2.2.2.2.2.2.2.2.1.length*32≤2^47:=hk.1.2.2.2.2.2.2.2.2.1.1
 have h1:yvF (ySw a1 a0)=some (bif leb 0 (yai a0.2.2.2.2.2.2.2.2.1 a1)then .inr (yEO (yai a0.2.2.2.2.2.2.2.2.1 a1))else .inl ySs) :=
  yJs (step:=yeu) a0.2.2.2.2.2.2.2.2.1 (0,[]) (fun i=>ytX a1 i a0) (fun e:dW=>e.1==a1) (fun i=> .inr (yEO i)) _ (fun i hi=>by
   simp only[yeu,ytX,yuD,zkw (show(i:Int)<a0.2.2.2.2.2.2.2.2.1.length by omega),cond_true,wq ((i:Int)+1) (by omega) (by omega),Int.natCast_add,Int.natCast_one,Int.toNat_natCast,zkP hi,zkQ]
   cases((a0.2.2.2.2.2.2.2.2.1.getD i (0,[])).1==a1)<;>rfl) (by simp only[yeu,ytX,yuD,zk1 (Int.le_refl _),cond_false]) _ (by show _<18446744073709551616; omega)
 unfold yzt yiE;rw[h1];cases h:leb 0 (yai a0.2.2.2.2.2.2.2.2.1 a1)
 ·rw[show yai a0.2.2.2.2.2.2.2.2.1 a1= -1 from yVg h]; rfl
 ·rfl
def yze:Con:=⟨ywT,yFo,fun x=>(fun n=>some ((n,()),())) (yiE x.1 x.2.1)⟩
theorem yJ7:ConOk prog 215 yze:=(yYQ).mono (fun x r hk h=>(yZY x.1 x.2.1 hk).trans h)
def ysa:Code:=(f161.body).getD .skip
def yBq:Env:=zku TT [] []
theorem yR7:FrOk prog ⟨yBq,18,fun _=>none⟩ ysa:=zky yg yh trivial
def yFL:Nat→Option Seg:=fun _=>none
def ydj:Shape:=⟨[(0,false,[.br tI]),(1,false,[.int .i64]),(5,false,[.int .i64])],[],[]⟩
def yhU:Shape:=⟨[(0,false,[.br tI]),(1,false,[.int .i64]),(5,false,[.ci .i64 0])],[],[]⟩
def yhF:Shape:=⟨[],[],[]⟩
def yic:Shape:=⟨[(4,false,[.bool])],[],[]⟩
abbrev yq6 (v0:List Int) (v1 v2:Int):(ydj).X:=(((v0,()),(v1,()),(v2,()),()),(),())
abbrev yOX (v0:List Int) (v1:Int):(yhU).X:=(((v0,()),(v1,()),((),()),()),(),())
abbrev yOM  :(yhF).X:=((),(),())
abbrev yO9 (v0:Bool):(yic).X:=(((v0,()),()),(),())
def yrE (v0:List Int) (v1 v2:Int):Option ((ydj).X ⊕ ((yhF).X ⊕ (yic).X)) :=bif(ltb v2 (v0.length:Int))then bif(inb v2 v0.length)then bif((nth v0 v2 0)==v1)then some (.inr (.inr (((true,()),()),(),()))) else some (.inl (((v0,()),(v1,()),((i64.wrap (v2+1)),()),()),(),())) else none else some (.inr (.inl ((),(),())))
def ydP (x:(ydj).X):=yrE x.1.1.1 x.1.2.1.1 x.1.2.2.1.1
def yCH (x:(yhU).X):(ydj).X:=(((x.1.1.1,()),(x.1.2.1.1,()),(0,()),()),(),())
def yEa:Code:=(zeJ ysa 64 52).getD .skip
theorem yRr:zeJ ysa 64 13=some (.block 0 (.loop yEa)):=by kernel_rfl
theorem yT9 (x:(ydj).X):zhu ⟨yBq,18,yFL⟩ 0 yEa 52 ydj yhF yic x=ydP x:=by kernel_rfl
def yCX (x:(yhU).X):Nat:=18446744073709551616
def ysA (x:(yhU).X):Option ((yhF).X ⊕ (yic).X):=zF ydP (yCX x) (yCH x)
def yDB:Seg:=⟨yhU,yhF,yic,ysA⟩
def yUG:Nat→Option Seg:=fun q=>bif Nat.beq q 13 then some yDB else yFL q
theorem yR8:FrOk prog ⟨yBq,18,yUG⟩ ysa:=(yR7).loop (sg:=yDB) ydj yCH (by decide) yRr ydP yCX (by decide) (fun _=>rfl) (fun x r _ h=>h) yT9
abbrev ysS:List Par:= [.rd tL,.rd tI]
abbrev yBV:List OT:= [⟨false,tB,.fz⟩]
def ywC (a0:List Int) (a1:Int):Option (zaY yBV×zak ysS) :=zkr (ysA (((a0,()),(a1,()),((),()),()),(),())) (fun y0 =>some ((false,()),())) (fun y0 =>some ((y0.1.1.1,()),()))
theorem yWa:ConOk prog 161 ⟨ysS,yBV,fun x=>ywC x.1 x.2.1⟩:=zkG (yR8) func161 ntmps161.symm fun x=>by kernel_rfl
def ygS (a0:List Int) (a1:Int):Bool:=a0.any (· ==a1)
theorem yYG (a0:List Int) (a1:Int) (hk:zjw ysS (a0,a1,())):ywC a0 a1=(fun n=>some ((n,()),())) (ygS a0 a1):=by
 have hb:a0.length*8≤2^47:=hk.1.1
 have h1:ysA (yOX a0 a1)=some (bif a0.all (· !=a1)then .inl yOM else .inr (yO9 true)) :=
  zj7 (step:=ydP) a0 0 (fun i=>yq6 a0 a1 i) (· !=a1) _ _ (fun i hi=>by
   simp only[ydP,yq6,yrE,zkw (show(i:Int)<a0.length by omega),cond_true,wq ((i:Int)+1) (by omega) (by omega),Int.natCast_add,Int.natCast_one,Int.toNat_natCast,zkP hi,zkQ,bne]
   cases(a0.getD i 0==a1)<;>rfl) (by simp only[ydP,yq6,yrE,zk1 (Int.le_refl _),cond_false]) _ (by show _<18446744073709551616; omega)
 unfold ywC ygS;rw[h1,show a0.any (· ==a1)= !(a0.all (· !=a1))by simp[List.all_eq_not_any_not,bne]];cases a0.all (· !=a1)<;>rfl
def ywe:Con:=⟨ysS,yBV,fun x=>(fun n=>some ((n,()),())) (ygS x.1 x.2.1)⟩
theorem yHF:ConOk prog 161 ywe:=(yWa).mono (fun x r hk h=>(yYG x.1 x.2.1 hk).trans h)
def ynN:Code:=(f90.body).getD .skip
def yvx:Env:=zku TT [(82,yL),(160,yf8),(161,ywe)] []
theorem yLz:FrOk prog ⟨yvx,60,fun _=>none⟩ ynN:=zky yg yh ⟨yS,yld,yHF,trivial⟩
def yBf:Nat→Option Seg:=fun _=>none
def ybX:Shape:=⟨[(1,false,[.int .i64]),(2,false,[.ptr 0 0]),(6,false,[.br tI]),(7,false,[.int .i64])],[(0,[.br tL,.br tW,.bool,.br tI])],[]⟩
def yfN:Shape:=⟨[(1,false,[.int .i64]),(2,false,[.ptr 0 0]),(6,false,[.br tI]),(7,false,[.ci .i64 0])],[(0,[.br tL,.br tW,.bool,.br tI])],[]⟩
def yfB:Shape:=⟨[(6,false,[.br tI])],[],[]⟩
def yiU:Shape:=⟨[],[],[]⟩
abbrev yna (v0:Int) (v1:List Int) (v2:Int) (v3:dM):(ybX).X:=(((v0,()),((),()),(v1,()),(v2,()),()),((v3.1,v3.2.1,v3.2.2.1,v3.2.2.2,()),()),())
abbrev yJK (v0:Int) (v1:List Int) (v2:dM):(yfN).X:=(((v0,()),((),()),(v1,()),((),()),()),((v2.1,v2.2.1,v2.2.2.1,v2.2.2.2,()),()),())
abbrev yxR (v0:List Int):(yfB).X:=(((v0,()),()),(),())
def ynA (v0:Int) (v1:List Int) (v2:Int) (v3:List (List Int)) (v4:List dW) (v5:Bool) (v6:List Int):Option ((ybX).X ⊕ ((yfB).X ⊕ (yiU).X)) :=bif(ltb v2 (v4.length:Int))then bif(inb v2 v4.length)then bif((nth v4 v2 (0,[])).1==v0)then bif(inb v2 v4.length)then some (.inl (((v0,()),((),()),((nth v4 v2 (0,[])).2,()),((i64.wrap (v2+1)),()),()),((v3,v4,v5,v6,()),()),())) else none else some (.inl (((v0,()),((),()),(v1,()),((i64.wrap (v2+1)),()),()),((v3,v4,v5,v6,()),()),())) else none else some (.inr (.inl (((v1,()),()),(),())))
def ych (x:(ybX).X):=ynA x.1.1.1 x.1.2.2.1.1 x.1.2.2.2.1.1 x.2.1.1.1 x.2.1.1.2.1 x.2.1.1.2.2.1 x.2.1.1.2.2.2.1
def yxq (x:(yfN).X):(ybX).X:=(((x.1.1.1,()),((),()),(x.1.2.2.1.1,()),(0,()),()),((x.2.1.1.1,x.2.1.1.2.1,x.2.1.1.2.2.1,x.2.1.1.2.2.2.1,()),()),())
def yzN:Code:=(zeJ ynN 64 244).getD .skip
theorem yK6:zeJ ynN 64 61=some (.block 0 (.loop yzN)):=by kernel_rfl
theorem yMT (x:(ybX).X):zhu ⟨yvx,60,yBf⟩ 0 yzN 244 ybX yfB yiU x=ych x:=by kernel_rfl
def yxF (x:(yfN).X):Nat:=18446744073709551616
def yoI (x:(yfN).X):Option ((yfB).X ⊕ (yiU).X):=zF ych (yxF x) (yxq x)
def yx5:Seg:=⟨yfN,yfB,yiU,yoI⟩
def yNn:Nat→Option Seg:=fun q=>bif Nat.beq q 61 then some yx5 else yBf q
theorem yLA:FrOk prog ⟨yvx,60,yNn⟩ ynN:=(yLz).loop (sg:=yx5) ybX yxq (by decide) yK6 ych yxF (by decide) (fun _=>rfl) (fun x r _ h=>h) yMT
abbrev yn0:List Par:= [.rd tM,.rd tI]
abbrev yv3:List OT:= [⟨false,tL,(.ow .fz)⟩,⟨false,tB,.fz⟩]
def yrn (a0:dM) (a1:Int):Option (zaY yv3×zak yn0) :=let r1:=yaK a0;bif(!(!r1))then bif(!a0.2.2.1)then let r2:=yb a1 0 (i64.wrap ((a0.1.length:Int)-1));bif(!(!r2))then let r3:=ygS a0.2.2.2 a1;bif r3 then some ((([]:List Int),false,()),()) else bif(inb a1 a0.1.length)then zkr (yoI (((a1,()),((),()),((nth a0.1 a1 []),()),((),()),()),((a0.1,a0.2.1,a0.2.2.1,a0.2.2.2,()),()),())) (fun y3 =>bif(zkj ([]:List Int).length y3.1.1.1.length 8)then some (((([]:List Int)++y3.1.1.1),true,()),()) else none) (fun y3 =>none) else none else some ((([]:List Int),false,()),()) else some ((([]:List Int),false,()),()) else some ((([]:List Int),false,()),())
theorem yPM:ConOk prog 90 ⟨yn0,yv3,fun x=>yrn x.1 x.2.1⟩:=zkG (yLA) func90 ntmps90.symm fun x=>by kernel_rfl
def yjG (a0:dM) (a1:Int):List Int×Bool:=yN a0 a1
theorem ySO (a0:dM) (a1:Int) (hk:zjw yn0 (a0,a1,())):yrn a0 a1=(fun n=>some ((n.1,n.2,()),())) (yjG a0 a1):=by
 have hb1:a0.1.length*24≤2^47:=hk.1.1.1;have hb2:a0.2.1.length*32≤2^47:=hk.1.2.1.1
 have h1: ∀s,yoI (yJK a1 s a0)=some (.inl (yxR (ygU a1 a0.2.1 s))):=fun s =>
  zkv (step:=ych) a0.2.1 (0,[]) (fun i s=>yna a1 s i a0) (fun s w=>bif w.1==a1 then w.2 else s) (fun _ _=>True) (fun s=> .inl (yxR s)) (fun i s hi _=>⟨by
   simp only[ych,yna,ynA,zkw (show(i:Int)<a0.2.1.length by omega),cond_true,wq ((i:Int)+1) (by omega) (by omega),Int.natCast_add,Int.natCast_one,Int.toNat_natCast,zkP hi,zkQ]
   cases((a0.2.1.getD i (0,[])).1==a1)<;>rfl,trivial⟩) (fun s _=>by simp only[ych,yna,ynA,zk1 (Int.le_refl _),cond_false]) s trivial _ (by show _<18446744073709551616; omega)
 unfold yrn yjG yN yrO;rw[ymZ (show a0.1.length≤1152921504606846976 by omega)];unfold yaK ygS;simp only[h1,zkL,List.nil_append];cases yu a0
 ·rfl
 cases a0.2.2.1
 ·cases hi:inb a1 a0.1.length
  ·rfl
  ·cases a0.2.2.2.any (· ==a1)
   ·have hs:(ygU a1 a0.2.1 (nth a0.1 a1 [])).length*8≤2^47 :=
     yHc (P:=fun s=>s.length*8≤2^47) (yGk (P:=fun s:List Int=>s.length*8≤2^47) hi fun x hx=>(hk.1.1.2 x hx).1) fun w hw=>(hk.1.2.1.2 w hw).2.1
    simp only[Bool.not_true,Bool.not_false,cond_true,cond_false,Bool.true_and,show zkj ([]:List Int).length (ygU a1 a0.2.1 (nth a0.1 a1 [])).length 8=true from zkD.2 (by rw[List.length_nil]; omega)]
   ·rfl
 ·rfl
def yCp:Con:=⟨yn0,yv3,fun x=>(fun n=>some ((n.1,n.2,()),())) (yjG x.1 x.2.1)⟩
theorem yTM:ConOk prog 90 yCp:=(yPM).mono (fun x r hk h=>(ySO x.1 x.2.1 hk).trans h)
def yXF:Code:=(f211.body).getD .skip
def yYb:Env:=zku TT [(82,yL)] []
theorem yOa:FrOk prog ⟨yYb,34,fun _=>none⟩ yXF:=zky yg yh ⟨yS,trivial⟩
abbrev yqd:List Par:= [.rd tA,.rd tI,.rd tI]
abbrev yyW:List OT:= [⟨false,tB,.fz⟩]
def yuk (a0:dA) (a1 a2:Int):Option (zaY yyW×zak yqd) :=let r1:=yb a1 0 (i64.wrap ((a0.2.2.1.length:Int)-1));bif r1 then bif(inb a1 a0.2.2.1.length)then bif(!((((nth a0.2.2.1 a1 ([],[],false,[])).2).2).1))then bif(!(a1 !=a0.2.2.2.1))then some (((ltb a2 a0.2.2.2.2.1),()),()) else some ((true,()),()) else some ((false,()),()) else none else some ((false,()),())
theorem yTi:ConOk prog 211 ⟨yqd,yyW,fun x=>yuk x.1 x.2.1 x.2.2.1⟩:=zkG (yOa) func211 ntmps211.symm fun x=>by kernel_rfl
def ydV (a0:dA) (a1 a2:Int):Bool:=ycq a0 a1 a2
theorem yVD (a0:dA) (a1 a2:Int) (hk:zjw yqd (a0,a1,a2,())):yuk a0 a1 a2=(fun n=>some ((n,()),())) (ydV a0 a1 a2):=by
 have hb:a0.2.2.1.length*80≤2^47:=hk.1.2.2.1.1;unfold yuk ydV ycq yc;rw[ymZ (show a0.2.2.1.length≤1152921504606846976 by omega)];cases inb a1 a0.2.2.1.length
 ·rfl
 ·cases(nth a0.2.2.1 a1 ([],[],false,[])).2.2.1<;>cases(a1 !=a0.2.2.2.1)<;>rfl
def ytx:Con:=⟨yqd,yyW,fun x=>(fun n=>some ((n,()),())) (ydV x.1 x.2.1 x.2.2.1)⟩
theorem yGs:ConOk prog 211 ytx:=(yTi).mono (fun x r hk h=>(yVD x.1 x.2.1 x.2.2.1 hk).trans h)
def yXP:Code:=(f246.body).getD .skip
def yYl:Env:=zku TT [(90,yCp),(113,ye6),(211,ytx)] []
theorem yOv:FrOk prog ⟨yYl,36,fun _=>none⟩ yXP:=zky yg yh ⟨yTM,yjP,yGs,trivial⟩
abbrev yqh:List Par:= [.rd tA,.rd tI,.rd tI]
abbrev yy8:List OT:= [⟨false,tI,.fz⟩,⟨false,tB,.fz⟩]
def yuq (a0:dA) (a1 a2:Int):Option (zaY yy8×zak yqh) :=let r1:=ydV a0 a1 a2;bif(!r1)then some ((0,false,()),()) else bif(inb a1 a0.2.2.1.length)then let r2:=ybD a2;let r3:=yjG ((nth a0.2.2.1 a1 ([],[],false,[])).1,((nth a0.2.2.1 a1 ([],[],false,[])).2).1,(((nth a0.2.2.1 a1 ([],[],false,[])).2).2)) r2;bif(!(!r3.2))then bif((r3.1.length:Int) !=1)then some ((0,false,()),()) else bif(inb 0 r3.1.length)then some (((nth r3.1 0 0),true,()),()) else none else some ((0,false,()),()) else none
theorem yTx:ConOk prog 246 ⟨yqh,yy8,fun x=>yuq x.1 x.2.1 x.2.2.1⟩:=zkG (yOv) func246 ntmps246.symm fun x=>by kernel_rfl
def yk9 (a0:dA) (a1 a2:Int):Int×Bool:=(yiH a0 a1 a2,yA a0 a1 a2)
theorem yVN (a0:dA) (a1 a2:Int) (hk:zjw yqh (a0,a1,a2,())):yuq a0 a1 a2=(fun n=>some ((n.1,n.2,()),())) (yk9 a0 a1 a2):=by
 unfold yuq yk9 yiH ydV;simp only[zkV,yge,yjG];rw[show yA a0 a1 a2=(ycq a0 a1 a2&&((yc8 a0 a1 a2).2&&((yc8 a0 a1 a2).1.length:Int)==1))from rfl];rw[show yN (nth a0.2.2.1 a1 ([],[],false,[])) (yx a2)=yc8 a0 a1 a2 from rfl];cases hl:ycq a0 a1 a2
 ·rfl
 ·rw[show inb a1 a0.2.2.1.length=true by unfold ycq at hl; exact(Bool.and_eq_true_iff.1 hl).1]
  cases(yc8 a0 a1 a2).2
  ·rfl
  ·rw[bne]
   cases h1:(((yc8 a0 a1 a2).1.length:Int)==1)
   ·rfl
   ·rw[show inb 0 (yc8 a0 a1 a2).1.length=true from zj4.2 (by have:=beq_iff_eq.1 h1; omega)]; rfl
def yEw:Con:=⟨yqh,yy8,fun x=>(fun n=>some ((n.1,n.2,()),())) (yk9 x.1 x.2.1 x.2.2.1)⟩
theorem yWy:ConOk prog 246 yEw:=(yTx).mono (fun x r hk h=>(yVN x.1 x.2.1 x.2.2.1 hk).trans h)
def yhl:Code:=(f247.body).getD .skip
def ymD:Env:=zku TT [] []
theorem yGe:FrOk prog ⟨ymD,23,fun _=>none⟩ yhl:=zky yg yh trivial
def ysg:Nat→Option Seg:=fun _=>none
def yaI:Shape:=⟨[(0,false,[.br tI]),(1,false,[.int .i64]),(5,false,[.int .i64]),(6,false,[.int .i64])],[],[]⟩
def ycT:Shape:=⟨[(0,false,[.br tI]),(1,false,[.int .i64]),(5,false,[.ci .i64 0]),(6,false,[.ci .i64 0])],[],[]⟩
def ycR:Shape:=⟨[(5,false,[.int .i64])],[],[]⟩
def ye5:Shape:=⟨[],[],[]⟩
abbrev yiD (v0:List Int) (v1 v2 v3:Int):(yaI).X:=(((v0,()),(v1,()),(v2,()),(v3,()),()),(),())
abbrev yFx (v0:List Int) (v1:Int):(ycT).X:=(((v0,()),(v1,()),((),()),((),()),()),(),())
abbrev yFv (v0:Int):(ycR).X:=(((v0,()),()),(),())
def yiG (v0:List Int) (v1 v2 v3:Int):Option ((yaI).X ⊕ ((ycR).X ⊕ (ye5).X)) :=bif(ltb v3 (v0.length:Int))then bif(v3 !=v1)then bif(inb v3 v0.length)then some (.inl (((v0,()),(v1,()),((i64.wrap ((BitVec.ofInt IntKind.i64.bits v2 ^^^ BitVec.ofInt IntKind.i64.bits (nth v0 v3 0)).toNat:Int)),()),((i64.wrap (v3+1)),()),()),(),())) else none else some (.inl (((v0,()),(v1,()),(v2,()),((i64.wrap (v3+1)),()),()),(),())) else some (.inr (.inl (((v2,()),()),(),())))
def yaQ (x:(yaI).X):=yiG x.1.1.1 x.1.2.1.1 x.1.2.2.1.1 x.1.2.2.2.1.1
def ypJ (x:(ycT).X):(yaI).X:=(((x.1.1.1,()),(x.1.2.1.1,()),(0,()),(0,()),()),(),())
def yrN:Code:=(zeJ yhl 64 116).getD .skip
theorem yFR:zeJ yhl 64 29=some (.block 0 (.loop yrN)):=by kernel_rfl
theorem yGA (x:(yaI).X):zhu ⟨ymD,23,ysg⟩ 0 yrN 116 yaI ycR ye5 x=yaQ x:=by kernel_rfl
def ypL (x:(ycT).X):Nat:=18446744073709551616
def yi6 (x:(ycT).X):Option ((ycR).X ⊕ (ye5).X):=zF yaQ (ypL x) (ypJ x)
def ypU:Seg:=⟨ycT,ycR,ye5,yi6⟩
def yGN:Nat→Option Seg:=fun q=>bif Nat.beq q 29 then some ypU else ysg q
theorem yGf:FrOk prog ⟨ymD,23,yGN⟩ yhl:=(yGe).loop (sg:=ypU) yaI ypJ (by decide) yFR yaQ ypL (by decide) (fun _=>rfl) (fun x r _ h=>h) yGA
abbrev yhs:List Par:= [.rd tL,.rd tI]
abbrev ymT:List OT:= [⟨false,tI,.fz⟩]
def ykD (a0:List Int) (a1:Int):Option (zaY ymT×zak yhs) :=zkr (yi6 (((a0,()),(a1,()),((),()),((),()),()),(),())) (fun y0 =>some ((y0.1.1.1,()),())) (fun y0 =>none)
theorem yHf:ConOk prog 247 ⟨yhs,ymT,fun x=>ykD x.1 x.2.1⟩:=zkG (yGf) func247 ntmps247.symm fun x=>by kernel_rfl
def yeW (a0:List Int) (a1:Int):Int:=ym1 a0 a1
theorem yId (a0:List Int) (a1:Int) (hk:zjw yhs (a0,a1,())):ykD a0 a1=(fun n=>some ((n,()),())) (yeW a0 a1):=by
 have hb:a0.length*8≤2^47:=hk.1.1
 have h1:=zkB (step:=yaQ) a0.length (fun i s=>yiD a0 a1 s i) (fun n (i:Nat)=>bif(i:Int) !=a1 then xw n (nth a0 i 0)else n) (fun _ _=>True) (fun s=> .inl (yFv s)) (fun i s hi _=>⟨by
  simp only[yaQ,yiD,yiG,zkw (show(i:Int)<a0.length by omega),cond_true,wq ((i:Int)+1) (by omega) (by omega),Int.natCast_add,Int.natCast_one,Int.toNat_natCast,zkP hi]
  cases((i:Int) !=a1)<;>rfl,trivial⟩) (fun s _=>by simp only[yaQ,yiD,yiG,zk1 (Int.le_refl _),cond_false]) 0 trivial 18446744073709551616 (by omega)
 rw[y1W]at h1;unfold ykD yeW;rw[show yi6 (yFx a0 a1)=_ from h1]; rfl
def ytz:Con:=⟨yhs,ymT,fun x=>(fun n=>some ((n,()),())) (yeW x.1 x.2.1)⟩
theorem yIk:ConOk prog 247 ytz:=(yHf).mono (fun x r hk h=>(yId x.1 x.2.1 hk).trans h)
def ynQ:Code:=(f227.body).getD .skip
def yvA:Env:=zku TT [(246,yEw),(247,ytz)] []
theorem yLJ:FrOk prog ⟨yvA,45,fun _=>none⟩ ynQ:=zky yg yh ⟨yWy,yIk,trivial⟩
def yBi:Nat→Option Seg:=fun _=>none
def ybZ:Shape:=⟨[(1,false,[.int .i64]),(2,false,[.ptr 0 0]),(6,false,[.at 800000000]),(7,false,[.int .i64]),(8,false,[.int .i64])],[(0,[.int .i64,.int .i64,.int .i64,.br tM,.int .i64,.int .i64,.int .i64,.int .i64,.int .i64,.br tW,.int .i64,.bool,.bool])],[(800000000,tI,.fz)]⟩
def yfP:Shape:=⟨[(1,false,[.int .i64]),(2,false,[.ptr 0 0]),(6,false,[.at 800000000]),(7,false,[.ci .i64 (-1)]),(8,false,[.ci .i64 0])],[(0,[.int .i64,.int .i64,.int .i64,.br tM,.int .i64,.int .i64,.int .i64,.int .i64,.int .i64,.br tW,.int .i64,.bool,.bool])],[(800000000,tI,.fz)]⟩
def yfD:Shape:=⟨[(6,false,[.at 800000000]),(7,false,[.int .i64])],[],[(800000000,tI,.fz)]⟩
def yfV:Shape:=⟨[(4,false,[.at 800000000]),(5,false,[.bool])],[],[(800000000,tI,.fz)]⟩
abbrev ync (v0 v1 v2:Int) (v3:dA) (v4:List Int):(ybZ).X:=(((v0,()),((),()),((),()),(v1,()),(v2,()),()),((v3.1,v3.2.1.1,v3.2.1.2,v3.2.2.1,v3.2.2.2.1,v3.2.2.2.2.1,v3.2.2.2.2.2.1,v3.2.2.2.2.2.2.1,v3.2.2.2.2.2.2.2.1,v3.2.2.2.2.2.2.2.2.1,v3.2.2.2.2.2.2.2.2.2.1,v3.2.2.2.2.2.2.2.2.2.2.1,v3.2.2.2.2.2.2.2.2.2.2.2,()),()),(v4,()))
abbrev yJM (v0:Int) (v1:dA) (v2:List Int):(yfP).X:=(((v0,()),((),()),((),()),((),()),((),()),()),((v1.1,v1.2.1.1,v1.2.1.2,v1.2.2.1,v1.2.2.2.1,v1.2.2.2.2.1,v1.2.2.2.2.2.1,v1.2.2.2.2.2.2.1,v1.2.2.2.2.2.2.2.1,v1.2.2.2.2.2.2.2.2.1,v1.2.2.2.2.2.2.2.2.2.1,v1.2.2.2.2.2.2.2.2.2.2.1,v1.2.2.2.2.2.2.2.2.2.2.2,()),()),(v2,()))
abbrev yJA (v0:Int) (v1:List Int):(yfD).X:=((((),()),(v0,()),()),(),(v1,()))
abbrev yJS (v0:Bool) (v1:List Int):(yfV).X:=((((),()),(v0,()),()),(),(v1,()))
def ynD (v0 v1 v2 v3 v4 v5:Int) (v6:List dM) (v7 v8 v9 v10 v11:Int) (v12:List dW) (v13:Int) (v14 v15:Bool) (v16:List Int):Option ((ybZ).X ⊕ ((yfD).X ⊕ (yfV).X)) :=bif(ltb v2 v4)then let r2:=yk9 (v3,(v4,v5),v6,v7,v8,v9,v10,v11,v12,v13,v14,v15) v2 v0;bif(!r2.2)then bif(leb 0 v1)then some (.inr (.inr ((((),()),(false,()),()),(),(([]:List Int),())))) else bif(zkj v16.length ([r2.1]:List Int).length 8)then some (.inl (((v0,()),((),()),((),()),(v2,()),((i64.wrap (v2+1)),()),()),((v3,v4,v5,v6,v7,v8,v9,v10,v11,v12,v13,v14,v15,()),()),((v16++([r2.1]:List Int)),()))) else none else bif(zkj v16.length ([r2.1]:List Int).length 8)then some (.inl (((v0,()),((),()),((),()),(v1,()),((i64.wrap (v2+1)),()),()),((v3,v4,v5,v6,v7,v8,v9,v10,v11,v12,v13,v14,v15,()),()),((v16++([r2.1]:List Int)),()))) else none else some (.inr (.inl ((((),()),(v1,()),()),(),(v16,()))))
def yck (x:(ybZ).X):=ynD x.1.1.1 x.1.2.2.2.1.1 x.1.2.2.2.2.1.1 x.2.1.1.1 x.2.1.1.2.1 x.2.1.1.2.2.1 x.2.1.1.2.2.2.1 x.2.1.1.2.2.2.2.1 x.2.1.1.2.2.2.2.2.1 x.2.1.1.2.2.2.2.2.2.1 x.2.1.1.2.2.2.2.2.2.2.1 x.2.1.1.2.2.2.2.2.2.2.2.1 x.2.1.1.2.2.2.2.2.2.2.2.2.1 x.2.1.1.2.2.2.2.2.2.2.2.2.2.1 x.2.1.1.2.2.2.2.2.2.2.2.2.2.2.1 x.2.1.1.2.2.2.2.2.2.2.2.2.2.2.2.1 x.2.2.1
def yxt (x:(yfP).X):(ybZ).X:=(((x.1.1.1,()),((),()),((),()),((-1),()),(0,()),()),((x.2.1.1.1,x.2.1.1.2.1,x.2.1.1.2.2.1,x.2.1.1.2.2.2.1,x.2.1.1.2.2.2.2.1,x.2.1.1.2.2.2.2.2.1,x.2.1.1.2.2.2.2.2.2.1,x.2.1.1.2.2.2.2.2.2.2.1,x.2.1.1.2.2.2.2.2.2.2.2.1,x.2.1.1.2.2.2.2.2.2.2.2.2.1,x.2.1.1.2.2.2.2.2.2.2.2.2.2.1,x.2.1.1.2.2.2.2.2.2.2.2.2.2.2.1,x.2.1.1.2.2.2.2.2.2.2.2.2.2.2.2.1,()),()),(x.2.2.1,()))
def yzQ:Code:=(zeJ ynQ 64 244).getD .skip
theorem yK9:zeJ ynQ 64 61=some (.block 0 (.loop yzQ)):=by kernel_rfl
theorem yMW (x:(ybZ).X):zhu ⟨yvA,45,yBi⟩ 0 yzQ 244 ybZ yfD yfV x=yck x:=by kernel_rfl
def yxI (x:(yfP).X):Nat:=18446744073709551616
def yoL (x:(yfP).X):Option ((yfD).X ⊕ (yfV).X):=zF yck (yxI x) (yxt x)
def yx8:Seg:=⟨yfP,yfD,yfV,yoL⟩
def yNq:Nat→Option Seg:=fun q=>bif Nat.beq q 61 then some yx8 else yBi q
theorem yLK:FrOk prog ⟨yvA,45,yNq⟩ ynQ:=(yLJ).loop (sg:=yx8) ybZ yxt (by decide) yK9 yck yxI (by decide) (fun _=>rfl) (fun x r _ h=>h) yMW
abbrev yjc:List Par:= [.rd tA,.rd tI]
abbrev yn7:List OT:= [⟨false,tL,(.ow .fz)⟩,⟨false,tB,.fz⟩]
def yrs (a0:dA) (a1:Int):Option (zaY yn7×zak yjc) :=zkr (yoL (((a1,()),((),()),((),()),((),()),((),()),()),((a0.1,a0.2.1.1,a0.2.1.2,a0.2.2.1,a0.2.2.2.1,a0.2.2.2.2.1,a0.2.2.2.2.2.1,a0.2.2.2.2.2.2.1,a0.2.2.2.2.2.2.2.1,a0.2.2.2.2.2.2.2.2.1,a0.2.2.2.2.2.2.2.2.2.1,a0.2.2.2.2.2.2.2.2.2.2.1,a0.2.2.2.2.2.2.2.2.2.2.2,()),()),(([]:List Int),()))) (fun y2 =>bif(leb 0 y2.1.2.1.1)then let r4:=yeW y2.2.2.1 y2.1.2.1.1;bif(inb y2.1.2.1.1 y2.2.2.1.length)then some (((y2.2.2.1.set (y2.1.2.1.1).toNat r4),true,()),()) else none else some ((y2.2.2.1,true,()),())) (fun y2 =>some ((y2.2.2.1,y2.1.2.1.1,()),()))
theorem yPT:ConOk prog 227 ⟨yjc,yn7,fun x=>yrs x.1 x.2.1⟩:=zkG (yLK) func227 ntmps227.symm fun x=>by kernel_rfl
def ygc (a0:dA) (a1:Int):List Int×Bool:=yP a0 a1
def yws (a0:dA) (a1:Int):Bool:=ye a0.2.1
theorem ySU (a0:dA) (a1:Int) (hk:zjw yjc (a0,a1,())) (hq:yws a0 a1=true):yrs a0 a1=(fun n=>some ((n.1,n.2,()),())) (ygc a0 a1):=by
 have hg:=yn.1 hq
 have h1:yoL (yJM a1 a0 [])=some (bif yey (fun(i:Nat)=>yA a0 i a1) a0.2.1.1.toNat then .inr (yJS false [])else .inl (yJA (yG (fun(i:Nat)=>yA a0 i a1) a0.2.1.1.toNat) (yae a0 a1 a0.2.1.1.toNat))) :=
  zjh (step:=yck) (fun i=>ync a1 (yG (fun(i:Nat)=>yA a0 i a1) i) i a0 (yae a0 a1 i)) a0.2.1.1.toNat (fun i=> !yA a0 i a1&&leb 0 (yG (fun(i:Nat)=>yA a0 i a1) i)) _ _ (fun i hi=>by
   simp only[yck,ync,ynD,zkw (show(i:Int)<a0.2.1.1 by omega),cond_true,wq ((i:Int)+1) (by omega) (by omega),Int.natCast_add,Int.natCast_one,Int.toNat_natCast,zkV,yk9,yG];rw[zkD.2 (show((yae a0 a1 i).length+ [yiH a0 i a1].length)*8≤140737488355328 by simp only[List.length_cons,List.length_nil,ye1]; omega),yHJ]
   cases yA a0 i a1<;>cases leb 0 (yG (fun(i:Nat)=>yA a0 i a1) i)<;>rfl) (by simp only[yck,ync,ynD,zk1 (show a0.2.1.1≤(a0.2.1.1.toNat:Int)by omega),cond_false]) _ (by show _<18446744073709551616; omega)
 unfold yrs ygc yP;rw[h1];cases yey (fun(i:Nat)=>yA a0 i a1) a0.2.1.1.toNat
 ·simp only[cond_false,zkL,yeW]
  cases hm:leb 0 (yG (fun(i:Nat)=>yA a0 i a1) a0.2.1.1.toNat)
  ·rfl
  ·obtain⟨h2,h3⟩:=yXd a0 a1 a0.2.1.1.toNat hm
   rw[h2,h3]; rfl
 ·rfl
def yjO (a0:dA) (a1:Int):Option (zaY yn7×zak yjc):=bif yws a0 a1 then(fun n=>some ((n.1,n.2,()),())) (ygc a0 a1)else none
theorem yEU (a0:dA) (a1:Int) (h:yws a0 a1=true):yjO a0 a1=(fun n=>some ((n.1,n.2,()),())) (ygc a0 a1):=by unfold yjO; rw[h]; rfl
def yqR:Con:=⟨yjc,yn7,fun x=>yjO x.1 x.2.1⟩
theorem yER:ConOk prog 227 yqR:=(yPT).mono (fun x r hk h=>zkW h (fun hq=>ySU x.1 x.2.1 hk hq))
def yQO:Code:=(f229.body).getD .skip
def yRf:Env:=zku TT [(82,yL),(150,yf7)] []
theorem yJj:FrOk prog ⟨yRf,14,fun _=>none⟩ yQO:=zky yg yh ⟨yS,ylc,trivial⟩
abbrev ysT:List Par:= [.rd tG,.rd tI]
abbrev ytf:List OT:= [⟨false,tB,.fz⟩]
def yAE (a0:dG) (a1:Int):Option (zaY ytf×zak ysT) :=let r1:=ye a0;bif r1 then let r2:=yb a1 0 (i64.wrap (a0.2-1));some ((r2,()),()) else some ((false,()),())
theorem yMB:ConOk prog 229 ⟨ysT,ytf,fun x=>yAE x.1 x.2.1⟩:=zkG (yJj) func229 ntmps229.symm fun x=>by kernel_rfl
def yfb (a0:dG) (a1:Int):Bool :=let r1:=ye a0;bif r1 then let r2:=yb a1 0 (i64.wrap (a0.2-1));r2 else false
def yoX:Con:=⟨ysT,ytf,fun x=>(fun n=>some ((n,()),())) (yfb x.1 x.2.1)⟩
theorem yPv (a0:dG) (a1:Int):yAE a0 a1=(fun n=>some ((n,()),())) (yfb a0 a1):=zkT (p:=fun(n:Bool)=>((n,()),())) (zkE (p:=fun(n:Bool)=>((n,()),())) rfl rfl)
theorem yDh:ConOk prog 229 yoX:=(yMB).mono (fun x r _ h=>(yPv x.1 x.2.1).trans h)
theorem yNa (g:dG) (s:Int):yfb g s=yac g s:=by
 unfold yfb yac;cases hg:ye g
 ·rfl
 have:=yn.1 hg;rw[ycx,wr (by omega) (by omega)]; rfl
def yQJ:Code:=(f209.body).getD .skip
def yRa:Env:=zku TT [(229,yoX)] []
theorem yJc:FrOk prog ⟨yRa,17,fun _=>none⟩ yQJ:=zky yg yh ⟨yDh,trivial⟩
abbrev yl4:List Par:= [.rd tG,.rd tI]
abbrev yta:List OT:= [⟨false,tI,.fz⟩]
def ypo (a0:dG) (a1:Int):Option (zaY yta×zak yl4) :=let r1:=yfb a0 a1;bif(!r1)then some (((-1),()),()) else bif(a0.1 !=0)then some (((i64.wrap ((i64.wrap (a0.1-1))-(a1.tmod a0.1))),()),()) else none
theorem yMv:ConOk prog 209 ⟨yl4,yta,fun x=>ypo x.1 x.2.1⟩:=zkG (yJc) func209 ntmps209.symm fun x=>by kernel_rfl
def ydA (a0:dG) (a1:Int):Int:=yk a0 a1
theorem yPp (a0:dG) (a1:Int) (hk:zjw yl4 (a0,a1,())):ypo a0 a1=(fun n=>some ((n,()),())) (ydA a0 a1):=by
 unfold ypo ydA;rw[yNa];cases hs:yac a0 a1
 ·unfold yk; rw[hs]; rfl
 ·have h1:=yY.1 hs
  have h2:=yn.1 h1.1;have h3:=yj3 hs;have h4:yk a0 a1=a0.1-1-a1.tmod a0.1:=by unfold yk; rw[hs]; rfl
  rw[show(a0.1 !=0)=true from bne_iff_ne.2 (by omega),wq (a0.1-1) (by omega) (by omega),wq (a0.1-1-a1.tmod a0.1) (by omega) (by omega),h4]; rfl
def yoV:Con:=⟨yl4,yta,fun x=>(fun n=>some ((n,()),())) (ydA x.1 x.2.1)⟩
theorem yDf:ConOk prog 209 yoV:=(yMv).mono (fun x r hk h=>(yPp x.1 x.2.1 hk).trans h)
def yXE:Code:=(f242.body).getD .skip
def yYa:Env:=zku TT [(82,yL),(209,yoV),(229,yoX)] []
theorem yN9:FrOk prog ⟨yYa,28,fun _=>none⟩ yXE:=zky yg yh ⟨yS,yDf,yDh,trivial⟩
abbrev yqc:List Par:= [.rd tG,.rd tI,.rd tI]
abbrev yyV:List OT:= [⟨false,tI,.fz⟩]
def yuj (a0:dG) (a1 a2:Int):Option (zaY yyV×zak yqc) :=let r1:=yfb a0 a1;bif(!(!r1))then let r2:=yb a2 0 (i64.wrap (a0.1-2));bif(!r2)then some (((-1),()),()) else let r3:=ydA a0 a1;bif(a0.1 !=0)then some ((((i64.wrap ((i64.wrap (r3+1))+a2)).tmod a0.1),()),()) else none else some (((-1),()),())
theorem yTh:ConOk prog 242 ⟨yqc,yyV,fun x=>yuj x.1 x.2.1 x.2.2.1⟩:=zkG (yN9) func242 ntmps242.symm fun x=>by kernel_rfl
def yk6 (a0:dG) (a1 a2:Int):Int:=ybA a0 a1 a2
theorem yVC (a0:dG) (a1 a2:Int) (hk:zjw yqc (a0,a1,a2,())):yuj a0 a1 a2=(fun n=>some ((n,()),())) (yk6 a0 a1 a2):=by
 unfold yuj yk6 ybA ydA;rw[yNa];cases hs:yac a0 a1
 ·rfl
 ·have h1:=yY.1 hs
  have h2:=yn.1 h1.1;have h3:=yj3 hs;rw[ycx,wq (a0.1-2) (by omega) (by omega)];cases hi:(leb 0 a2&&leb a2 (a0.1-2))
  ·rfl
  ·rw[Bool.and_eq_true,zj5,zj5]at hi
   rw[show(a0.1 !=0)=true from bne_iff_ne.2 (by omega)];show some (((i64.wrap (i64.wrap (yk a0 a1+1)+a2)).tmod a0.1,()),())=some (((yk a0 a1+1+a2).tmod a0.1,()),());rw[wq (yk a0 a1+1) (by omega) (by omega),wq (yk a0 a1+1+a2) (by omega) (by omega)]
def yEn:Con:=⟨yqc,yyV,fun x=>(fun n=>some ((n,()),())) (yk6 x.1 x.2.1 x.2.2.1)⟩
theorem yWp:ConOk prog 242 yEn:=(yTh).mono (fun x r hk h=>(yVC x.1 x.2.1 x.2.2.1 hk).trans h)
def ypY:Code:=(f218.body).getD .skip
def yye:Env:=zku TT [(227,yqR),(242,yEn)] []
theorem yOn:FrOk prog ⟨yye,41,fun _=>none⟩ ypY:=zky yg yh ⟨yER,yWp,trivial⟩
def yDR:Nat→Option Seg:=fun _=>none
def ycH:Shape:=⟨[(1,false,[.int .i64]),(2,false,[.ptr 0 0]),(6,false,[.at 800000000]),(7,false,[.bool]),(8,false,[.at 800000001]),(9,false,[.int .i64])],[(0,[.int .i64,.int .i64,.int .i64,.br tM,.int .i64,.int .i64,.int .i64,.int .i64,.int .i64,.br tW,.int .i64,.bool,.bool])],[(800000000,tI,.fz),(800000001,tI,.fz)]⟩
def ygD:Shape:=⟨[(1,false,[.int .i64]),(2,false,[.ptr 0 0]),(6,false,[.at 800000000]),(7,false,[.bool]),(8,false,[.at 800000001]),(9,false,[.ci .i64 0])],[(0,[.int .i64,.int .i64,.int .i64,.br tM,.int .i64,.int .i64,.int .i64,.int .i64,.int .i64,.br tW,.int .i64,.bool,.bool])],[(800000000,tI,.fz),(800000001,tI,.fz)]⟩
def ygs:Shape:=⟨[(7,false,[.bool]),(8,false,[.at 800000000])],[],[(800000000,tI,.fz)]⟩
def ykk:Shape:=⟨[],[],[]⟩
abbrev yfW (v0:Int) (v1:Bool) (v2:Int) (v3:dA) (v4 v5:List Int):(ycH).X:=(((v0,()),((),()),((),()),(v1,()),((),()),(v2,()),()),((v3.1,v3.2.1.1,v3.2.1.2,v3.2.2.1,v3.2.2.2.1,v3.2.2.2.2.1,v3.2.2.2.2.2.1,v3.2.2.2.2.2.2.1,v3.2.2.2.2.2.2.2.1,v3.2.2.2.2.2.2.2.2.1,v3.2.2.2.2.2.2.2.2.2.1,v3.2.2.2.2.2.2.2.2.2.2.1,v3.2.2.2.2.2.2.2.2.2.2.2,()),()),(v4,v5,()))
abbrev yAA (v0:Int) (v1:Bool) (v2:dA) (v3 v4:List Int):(ygD).X:=(((v0,()),((),()),((),()),(v1,()),((),()),((),()),()),((v2.1,v2.2.1.1,v2.2.1.2,v2.2.2.1,v2.2.2.2.1,v2.2.2.2.2.1,v2.2.2.2.2.2.1,v2.2.2.2.2.2.2.1,v2.2.2.2.2.2.2.2.1,v2.2.2.2.2.2.2.2.2.1,v2.2.2.2.2.2.2.2.2.2.1,v2.2.2.2.2.2.2.2.2.2.2.1,v2.2.2.2.2.2.2.2.2.2.2.2,()),()),(v3,v4,()))
abbrev yo7 (v0:Bool) (v1:List Int):(ygs).X:=(((v0,()),((),()),()),(),(v1,()))
def yi3 (v0:Int) (v1:Bool) (v2 v3 v4 v5:Int) (v6:List dM) (v7 v8 v9 v10 v11:Int) (v12:List dW) (v13:Int) (v14 v15:Bool) (v16 v17:List Int):Option ((ycH).X ⊕ ((ygs).X ⊕ (ykk).X)) :=bif(ltb v2 (i64.wrap (v4-1)))then bif v1 then let r3:=yk6 (v4,v5) v0 v2;bif(inb r3 v16.length)then bif(zkj v17.length ([(nth v16 r3 0)]:List Int).length 8)then some (.inl (((v0,()),((),()),((),()),(v1,()),((),()),((i64.wrap (v2+1)),()),()),((v3,v4,v5,v6,v7,v8,v9,v10,v11,v12,v13,v14,v15,()),()),(v16,(v17++([(nth v16 r3 0)]:List Int)),()))) else none else none else some (.inr (.inl (((v1,()),((),()),()),(),(v17,())))) else some (.inr (.inl (((v1,()),((),()),()),(),(v17,()))))
def yaN (x:(ycH).X):=yi3 x.1.1.1 x.1.2.2.2.1.1 x.1.2.2.2.2.2.1.1 x.2.1.1.1 x.2.1.1.2.1 x.2.1.1.2.2.1 x.2.1.1.2.2.2.1 x.2.1.1.2.2.2.2.1 x.2.1.1.2.2.2.2.2.1 x.2.1.1.2.2.2.2.2.2.1 x.2.1.1.2.2.2.2.2.2.2.1 x.2.1.1.2.2.2.2.2.2.2.2.1 x.2.1.1.2.2.2.2.2.2.2.2.2.1 x.2.1.1.2.2.2.2.2.2.2.2.2.2.1 x.2.1.1.2.2.2.2.2.2.2.2.2.2.2.1 x.2.1.1.2.2.2.2.2.2.2.2.2.2.2.2.1 x.2.2.1 x.2.2.2.1
def yAh (x:(ygD).X):(ycH).X:=(((x.1.1.1,()),((),()),((),()),(x.1.2.2.2.1.1,()),((),()),(0,()),()),((x.2.1.1.1,x.2.1.1.2.1,x.2.1.1.2.2.1,x.2.1.1.2.2.2.1,x.2.1.1.2.2.2.2.1,x.2.1.1.2.2.2.2.2.1,x.2.1.1.2.2.2.2.2.2.1,x.2.1.1.2.2.2.2.2.2.2.1,x.2.1.1.2.2.2.2.2.2.2.2.1,x.2.1.1.2.2.2.2.2.2.2.2.2.1,x.2.1.1.2.2.2.2.2.2.2.2.2.2.1,x.2.1.1.2.2.2.2.2.2.2.2.2.2.2.1,x.2.1.1.2.2.2.2.2.2.2.2.2.2.2.2.1,()),()),(x.2.2.1,x.2.2.2.1,()))
def yCb:Code:=(zeJ ypY 64 244).getD .skip
theorem yND:zeJ ypY 64 61=some (.block 0 (.loop yCb)):=by kernel_rfl
theorem yQr (x:(ycH).X):zhu ⟨yye,41,yDR⟩ 0 yCb 244 ycH ygs ykk x=yaN x:=by kernel_rfl
def yAs (x:(ygD).X):Nat:=18446744073709551616
def yka (x:(ygD).X):Option ((ygs).X ⊕ (ykk).X):=zF yaN (yAs x) (yAh x)
def yAM:Seg:=⟨ygD,ygs,ykk,yka⟩
def yQV:Nat→Option Seg:=fun q=>bif Nat.beq q 61 then some yAM else yDR q
theorem yOo:FrOk prog ⟨yye,41,yQV⟩ ypY:=(yOn).loop (sg:=yAM) ycH yAh (by decide) yND yaN yAs (by decide) (fun _=>rfl) (fun x r _ h=>h) yQr
abbrev ykQ:List Par:= [.rd tA,.rd tI]
abbrev yql:List OT:= [⟨false,tL,(.ow .fz)⟩,⟨false,tB,.fz⟩]
def yuo (a0:dA) (a1:Int):Option (zaY yql×zak ykQ) :=bnd (yjO a0 a1) fun r1 =>zkr (yka (((a1,()),((),()),((),()),(r1.1.2.1,()),((),()),((),()),()),((a0.1,a0.2.1.1,a0.2.1.2,a0.2.2.1,a0.2.2.2.1,a0.2.2.2.2.1,a0.2.2.2.2.2.1,a0.2.2.2.2.2.2.1,a0.2.2.2.2.2.2.2.1,a0.2.2.2.2.2.2.2.2.1,a0.2.2.2.2.2.2.2.2.2.1,a0.2.2.2.2.2.2.2.2.2.2.1,a0.2.2.2.2.2.2.2.2.2.2.2,()),()),(r1.1.1,([]:List Int),()))) (fun y3 =>some ((y3.2.2.1,y3.1.1.1,()),())) (fun y3 =>none)
theorem yTs:ConOk prog 218 ⟨ykQ,yql,fun x=>yuo x.1 x.2.1⟩:=zkG (yOo) func218 ntmps218.symm fun x=>by kernel_rfl
def yqp (a0:dA) (a1:Int):List Int×Bool:=yqo a0 a1
def yzo (a0:dA) (a1:Int):Bool:=yac a0.2.1 a1
theorem yVK (a0:dA) (a1:Int) (hk:zjw ykQ (a0,a1,())) (hq:yzo a0 a1=true):yuo a0 a1=(fun n=>some ((n.1,n.2,()),())) (yqp a0 a1):=by
 have hs:yac a0.2.1 a1=true:=hq;have hg:=yn.1 (yY.1 hs).1;unfold yuo yqp yqo;rw[yEU a0 a1 (yY.1 hs).1,ygc];simp only[zkF];cases hw:(yP a0 a1).2
 ·have h1:yka (yAA a1 false a0 (yP a0 a1).1 [])=some (.inl (yo7 false [])) :=
   zkJ (step:=yaN) (fun i=>yfW a1 false i a0 (yP a0 a1).1 []) 0 _ (fun i hi=>absurd hi (Nat.not_lt_zero _)) (by
    simp only[yaN,yfW,yi3,cond_false]
    cases ltb ((0:Nat):Int) (i64.wrap (a0.2.1.1-1))<;>rfl) _ (by show _<18446744073709551616; omega)
  rw[h1]; rfl
 ·have hL:=yKs hw
  have h1:yka (yAA a1 true a0 (yP a0 a1).1 [])=some (.inl (yo7 true ((List.range (a0.2.1.1-1).toNat).foldl (fun l (i:Nat)=>l++ [nth (yP a0 a1).1 (ybA a0.2.1 a1 i) 0]) []))) :=
   zkB (step:=yaN) (a0.2.1.1-1).toNat (fun i s=>yfW a1 true i a0 (yP a0 a1).1 s) (fun l (i:Nat)=>l++ [nth (yP a0 a1).1 (ybA a0.2.1 a1 i) 0]) (fun i s=>s.length=i) (fun s=> .inl (yo7 true s)) (fun i s hi hs2=>⟨by
    have hd:=yU6 hs (show(0:Int)≤i by omega) (show(i:Int)≤a0.2.1.1-2 by omega);simp only[yaN,yfW,yi3,wq (a0.2.1.1-1) (by omega) (by omega),zkw (show(i:Int)<a0.2.1.1-1 by omega),cond_true,wq ((i:Int)+1) (by omega) (by omega),Int.natCast_add,Int.natCast_one,Int.toNat_natCast,zkV,yk6,zj4.2 (show 0≤ybA a0.2.1 a1 i∧ybA a0.2.1 a1 i<(yP a0 a1).1.length by omega)]
    rw[zkD.2 (show(s.length+ [nth (yP a0 a1).1 (ybA a0.2.1 a1 i) 0].length)*8≤140737488355328 by simp only[List.length_cons,List.length_nil]; omega)]; rfl,by simp[hs2]⟩) (fun s hs2=>by simp only[yaN,yfW,yi3,wq (a0.2.1.1-1) (by omega) (by omega),zk1 (show a0.2.1.1-1≤((a0.2.1.1-1).toNat:Int)by omega),cond_false]) [] rfl _ (by show _<18446744073709551616; omega)
  rw[h1,yof]; rfl
def yqr (a0:dA) (a1:Int):Option (zaY yql×zak ykQ):=bif yzo a0 a1 then(fun n=>some ((n.1,n.2,()),())) (yqp a0 a1)else none
theorem yWC (a0:dA) (a1:Int) (h:yzo a0 a1=true):yqr a0 a1=(fun n=>some ((n.1,n.2,()),())) (yqp a0 a1):=by unfold yqr; rw[h]; rfl
def yEu:Con:=⟨ykQ,yql,fun x=>yqr x.1 x.2.1⟩
theorem yWw:ConOk prog 218 yEu:=(yTs).mono (fun x r hk h=>zkW h (fun hq=>yVK x.1 x.2.1 hk hq))
def yQP:Code:=(f181.body).getD .skip
def yRg:Env:=zku TT [(215,yze),(218,yEu)] []
theorem yJk:FrOk prog ⟨yRg,28,fun _=>none⟩ yQP:=zky yg yh ⟨yJ7,yWw,trivial⟩
abbrev yhu:List Par:= [.rd tA,.rd tI]
abbrev ymd:List OT:= [⟨false,tL,(.ow .fz)⟩,⟨false,tB,.fz⟩]
def ypt (a0:dA) (a1:Int):Option (zaY ymd×zak yhu) :=let r1:=yiE a0 a1;bif(leb 0 r1)then bif(inb r1 a0.2.2.2.2.2.2.2.2.1.length)then bif(zkj ([]:List Int).length ((nth a0.2.2.2.2.2.2.2.2.1 r1 (0,[])).2).length 8)then some (((([]:List Int)++((nth a0.2.2.2.2.2.2.2.2.1 r1 (0,[])).2)),true,()),()) else none else none else bif a0.2.2.2.2.2.2.2.2.2.2.2 then some ((([]:List Int),false,()),()) else bnd (yqr a0 a1) fun r2 =>some ((r2.1.1,r2.1.2.1,()),())
theorem yMC:ConOk prog 181 ⟨yhu,ymd,fun x=>ypt x.1 x.2.1⟩:=zkG (yJk) func181 ntmps181.symm fun x=>by kernel_rfl
def yit (a0:dA) (a1:Int):List Int×Bool:=ybB a0 a1
def yt9 (a0:dA) (a1:Int):Bool:=yac a0.2.1 a1
theorem yPw (a0:dA) (a1:Int) (hk:zjw yhu (a0,a1,())) (hq:yt9 a0 a1=true):ypt a0 a1=(fun n=>some ((n.1,n.2,()),())) (yit a0 a1):=by
 unfold ypt yit ybB yiE;rw[yWC a0 a1 hq];simp only[List.nil_append];cases h:leb 0 (yai a0.2.2.2.2.2.2.2.2.1 a1)
 ·cases a0.2.2.2.2.2.2.2.2.2.2.2<;>rfl
 ·have h1:=(ymY (d:=((0,[]):dW)) h).1
  have h2:(nth a0.2.2.2.2.2.2.2.2.1 (yai a0.2.2.2.2.2.2.2.2.1 a1) (0,[])).2.length*8≤2^47:=yGk (P:=fun x:dW=>x.2.length*8≤2^47) h1 (fun x hx=>(hk.1.2.2.2.2.2.2.2.2.1.2 x hx).2.1);rw[show inb (yai a0.2.2.2.2.2.2.2.2.1 a1) a0.2.2.2.2.2.2.2.2.1.length=true from h1,zkD.2 (show(([]:List Int).length+(nth a0.2.2.2.2.2.2.2.2.1 (yai a0.2.2.2.2.2.2.2.2.1 a1) (0,[])).2.length)*8≤140737488355328 by rw[List.length_nil]; omega)]; rfl
def ymx (a0:dA) (a1:Int):Option (zaY ymd×zak yhu):=bif yt9 a0 a1 then(fun n=>some ((n.1,n.2,()),())) (yit a0 a1)else none
theorem yQi (a0:dA) (a1:Int) (h:yt9 a0 a1=true):ymx a0 a1=(fun n=>some ((n.1,n.2,()),())) (yit a0 a1):=by unfold ymx; rw[h]; rfl
def yz8:Con:=⟨yhu,ymd,fun x=>ymx x.1 x.2.1⟩
theorem yQe:ConOk prog 181 yz8:=(yMC).mono (fun x r hk h=>zkW h (fun hq=>yPw x.1 x.2.1 hk hq))
def yUq:Code:=(f182.body).getD .skip
def yUQ:Env:=zku TT [(82,yL),(119,ymp)] []
theorem yLy:FrOk prog ⟨yUQ,16,fun _=>none⟩ yUq:=zky yg yh ⟨yS,ywl,trivial⟩
abbrev ynZ:List Par:= [.rd tG,.rd tI]
abbrev yv2:List OT:= [⟨false,tI,.fz⟩]
def yrm (a0:dG) (a1:Int):Option (zaY yv2×zak ynZ) :=let r1:=yH a0;let r2:=yb a1 0 (i64.wrap (r1-1));bif(!r2)then some (((-1),()),()) else bif((i64.wrap (a0.1-1)) !=0)then some (((a1.tmod (i64.wrap (a0.1-1))),()),()) else none
theorem yPL:ConOk prog 182 ⟨ynZ,yv2,fun x=>yrm x.1 x.2.1⟩:=zkG (yLy) func182 ntmps182.symm fun x=>by kernel_rfl
def yjF (a0:dG) (a1:Int):Int:=ywh a0 a1
theorem ySN (a0:dG) (a1:Int) (hk:zjw ynZ (a0,a1,())):yrm a0 a1=(fun n=>some ((n,()),())) (yjF a0 a1):=by
 unfold yrm yjF ywh;simp only[y1B];cases hb:ykn a0 a1
 ·rfl
 ·obtain⟨h1,h2,h3⟩:=yDZ hb
  have h4:=yn.1 h1;rw[wq (a0.1-1) (by omega) (by omega),show(a0.1-1 !=0)=true from bne_iff_ne.2 (by omega)]; rfl
def yCo:Con:=⟨ynZ,yv2,fun x=>(fun n=>some ((n,()),())) (yjF x.1 x.2.1)⟩
theorem yTL:ConOk prog 182 yCo:=(yPL).mono (fun x r hk h=>(ySN x.1 x.2.1 hk).trans h)
def ysd:Code:=(f183.body).getD .skip
def yBt:Env:=zku TT [] [(4096,(.pr .fz .fz)),(28800,(.pr .fz .fz)),(41472,(.pr .fz .fz)),(49280,(.pr .fz .fz))]
theorem ySf:FrOk prog ⟨yBt,67,fun _=>none⟩ ysd:=zky yg yh trivial
def yFO:Nat→Option Seg:=fun _=>none
def ydn:Shape:=⟨[(0,false,[.ptr 1000000000 0]),(3,false,[.ptr 0 0]),(4,false,[.at 800000000]),(5,false,[.bool]),(6,false,[.int .i64])],[(0,[.int .i64,.fz tI]),(1000000000,[.int .i64,.int .i64,.int .i64,.at 800000001,.int .i64,.int .i64,.int .i64,.int .i64,.int .i64,.at 800000002,.int .i64,.bool,.bool])],[(800000000,tW,(.pr .fz .fz)),(800000001,tM,(.pr (.ow .fz) (.pr (.ow (.pr .fz .fz)) (.pr .fz (.ow .fz))))),(800000002,tW,(.pr .fz .fz))]⟩
def yhY:Shape:=⟨[(0,false,[.ptr 1000000000 0]),(3,false,[.ptr 0 0]),(4,false,[.at 800000000]),(5,false,[.cb false]),(6,false,[.ci .i64 0])],[(0,[.int .i64,.fz tI]),(1000000000,[.int .i64,.int .i64,.int .i64,.at 800000001,.int .i64,.int .i64,.int .i64,.int .i64,.int .i64,.at 800000002,.int .i64,.bool,.bool])],[(800000000,tW,(.pr .fz .fz)),(800000001,tM,(.pr (.ow .fz) (.pr (.ow (.pr .fz .fz)) (.pr .fz (.ow .fz))))),(800000002,tW,(.pr .fz .fz))]⟩
def yhJ:Shape:=⟨[(0,false,[.ptr 1000000000 0]),(3,false,[.ptr 0 0]),(4,false,[.at 800000000]),(5,false,[.bool])],[(0,[.int .i64,.fz tI]),(1000000000,[.int .i64,.int .i64,.int .i64,.at 800000001,.int .i64,.int .i64,.int .i64,.int .i64,.int .i64,.at 800000002,.int .i64,.bool,.bool])],[(800000000,tW,(.pr .fz .fz)),(800000001,tM,(.pr (.ow .fz) (.pr (.ow (.pr .fz .fz)) (.pr .fz (.ow .fz))))),(800000002,tW,(.pr .fz .fz))]⟩
def ymk:Shape:=⟨[],[],[]⟩
abbrev yra (v0:Bool) (v1:Int) (v2:dW) (v3:dA) (v4:List dW):(ydn).X:=((((),()),((),()),((),()),(v0,()),(v1,()),()),((v2.1,v2.2,()),(v3.1,v3.2.1.1,v3.2.1.2,(),v3.2.2.2.1,v3.2.2.2.2.1,v3.2.2.2.2.2.1,v3.2.2.2.2.2.2.1,v3.2.2.2.2.2.2.2.1,(),v3.2.2.2.2.2.2.2.2.2.1,v3.2.2.2.2.2.2.2.2.2.2.1,v3.2.2.2.2.2.2.2.2.2.2.2,()),()),(v4,v3.2.2.1,v3.2.2.2.2.2.2.2.2.1,()))
abbrev yO1 (v0:dW) (v1:dA) (v2:List dW):(yhY).X:=((((),()),((),()),((),()),((),()),((),()),()),((v0.1,v0.2,()),(v1.1,v1.2.1.1,v1.2.1.2,(),v1.2.2.2.1,v1.2.2.2.2.1,v1.2.2.2.2.2.1,v1.2.2.2.2.2.2.1,v1.2.2.2.2.2.2.2.1,(),v1.2.2.2.2.2.2.2.2.2.1,v1.2.2.2.2.2.2.2.2.2.2.1,v1.2.2.2.2.2.2.2.2.2.2.2,()),()),(v2,v1.2.2.1,v1.2.2.2.2.2.2.2.2.1,()))
abbrev yON (v0:Bool) (v1:dW) (v2:dA) (v3:List dW):(yhJ).X:=((((),()),((),()),((),()),(v0,()),()),((v1.1,v1.2,()),(v2.1,v2.2.1.1,v2.2.1.2,(),v2.2.2.2.1,v2.2.2.2.2.1,v2.2.2.2.2.2.1,v2.2.2.2.2.2.2.1,v2.2.2.2.2.2.2.2.1,(),v2.2.2.2.2.2.2.2.2.2.1,v2.2.2.2.2.2.2.2.2.2.2.1,v2.2.2.2.2.2.2.2.2.2.2.2,()),()),(v3,v2.2.2.1,v2.2.2.2.2.2.2.2.2.1,()))
def yrI (v0:Bool) (v1 v2:Int) (v3:List Int) (v4 v5 v6 v7 v8 v9 v10 v11 v12:Int) (v13 v14:Bool) (v15:List dW) (v16:List dM) (v17:List dW):Option ((ydn).X ⊕ ((yhJ).X ⊕ (ymk).X)) :=bif(ltb v1 (v17.length:Int))then bif(!v0)then bif(inb v1 v17.length)then bif(leb v2 ((nth v17 v1 (0,[])).1))then bif(zkj v15.length ([(v2,v3)]:List dW).length 32)then bif(inb v1 v17.length)then bif((nth v17 v1 (0,[])).1 !=v2)then bif(inb v1 v17.length)then bif(zkj (v15++([(v2,v3)]:List dW)).length ([(nth v17 v1 (0,[]))]:List dW).length 32)then some (.inl ((((),()),((),()),((),()),(true,()),((i64.wrap (v1+1)),()),()),((v2,v3,()),(v4,v5,v6,(),v7,v8,v9,v10,v11,(),v12,v13,v14,()),()),(((v15++([(v2,v3)]:List dW))++([(nth v17 v1 (0,[]))]:List dW)),v16,v17,()))) else none else none else some (.inl ((((),()),((),()),((),()),(true,()),((i64.wrap (v1+1)),()),()),((v2,v3,()),(v4,v5,v6,(),v7,v8,v9,v10,v11,(),v12,v13,v14,()),()),((v15++([(v2,v3)]:List dW)),v16,v17,()))) else none else none else bif(inb v1 v17.length)then bif((nth v17 v1 (0,[])).1 !=v2)then bif(inb v1 v17.length)then bif(zkj v15.length ([(nth v17 v1 (0,[]))]:List dW).length 32)then some (.inl ((((),()),((),()),((),()),(v0,()),((i64.wrap (v1+1)),()),()),((v2,v3,()),(v4,v5,v6,(),v7,v8,v9,v10,v11,(),v12,v13,v14,()),()),((v15++([(nth v17 v1 (0,[]))]:List dW)),v16,v17,()))) else none else none else some (.inl ((((),()),((),()),((),()),(v0,()),((i64.wrap (v1+1)),()),()),((v2,v3,()),(v4,v5,v6,(),v7,v8,v9,v10,v11,(),v12,v13,v14,()),()),(v15,v16,v17,()))) else none else none else bif(inb v1 v17.length)then bif((nth v17 v1 (0,[])).1 !=v2)then bif(inb v1 v17.length)then bif(zkj v15.length ([(nth v17 v1 (0,[]))]:List dW).length 32)then some (.inl ((((),()),((),()),((),()),(v0,()),((i64.wrap (v1+1)),()),()),((v2,v3,()),(v4,v5,v6,(),v7,v8,v9,v10,v11,(),v12,v13,v14,()),()),((v15++([(nth v17 v1 (0,[]))]:List dW)),v16,v17,()))) else none else none else some (.inl ((((),()),((),()),((),()),(v0,()),((i64.wrap (v1+1)),()),()),((v2,v3,()),(v4,v5,v6,(),v7,v8,v9,v10,v11,(),v12,v13,v14,()),()),(v15,v16,v17,()))) else none else some (.inr (.inl ((((),()),((),()),((),()),(v0,()),()),((v2,v3,()),(v4,v5,v6,(),v7,v8,v9,v10,v11,(),v12,v13,v14,()),()),(v15,v16,v17,()))))
def ydT (x:(ydn).X):=yrI x.1.2.2.2.1.1 x.1.2.2.2.2.1.1 x.2.1.1.1 x.2.1.1.2.1 x.2.1.2.1.1 x.2.1.2.1.2.1 x.2.1.2.1.2.2.1 x.2.1.2.1.2.2.2.2.1 x.2.1.2.1.2.2.2.2.2.1 x.2.1.2.1.2.2.2.2.2.2.1 x.2.1.2.1.2.2.2.2.2.2.2.1 x.2.1.2.1.2.2.2.2.2.2.2.2.1 x.2.1.2.1.2.2.2.2.2.2.2.2.2.2.1 x.2.1.2.1.2.2.2.2.2.2.2.2.2.2.2.1 x.2.1.2.1.2.2.2.2.2.2.2.2.2.2.2.2.1 x.2.2.1 x.2.2.2.1 x.2.2.2.2.1
def yCL (x:(yhY).X):(ydn).X:=((((),()),((),()),((),()),(false,()),(0,()),()),((x.2.1.1.1,x.2.1.1.2.1,()),(x.2.1.2.1.1,x.2.1.2.1.2.1,x.2.1.2.1.2.2.1,(),x.2.1.2.1.2.2.2.2.1,x.2.1.2.1.2.2.2.2.2.1,x.2.1.2.1.2.2.2.2.2.2.1,x.2.1.2.1.2.2.2.2.2.2.2.1,x.2.1.2.1.2.2.2.2.2.2.2.2.1,(),x.2.1.2.1.2.2.2.2.2.2.2.2.2.2.1,x.2.1.2.1.2.2.2.2.2.2.2.2.2.2.2.1,x.2.1.2.1.2.2.2.2.2.2.2.2.2.2.2.2.1,()),()),(x.2.2.1,x.2.2.2.1,x.2.2.2.2.1,()))
def yEe:Code:=(zeJ ysd 64 244).getD .skip
theorem yRv:zeJ ysd 64 61=some (.block 0 (.loop yEe)):=by kernel_rfl
theorem yUd (x:(ydn).X):zhu ⟨yBt,67,yFO⟩ 0 yEe 244 ydn yhJ ymk x=ydT x:=by kernel_rfl
def yC1 (x:(yhY).X):Nat:=18446744073709551616
def ysE (x:(yhY).X):Option ((yhJ).X ⊕ (ymk).X):=zF ydT (yC1 x) (yCL x)
def yDF:Seg:=⟨yhY,yhJ,ymk,ysE⟩
def yUJ:Nat→Option Seg:=fun q=>bif Nat.beq q 61 then some yDF else yFO q
theorem ySg:FrOk prog ⟨yBt,67,yUJ⟩ ysd:=(ySf).loop (sg:=yDF) ydn yCL (by decide) yRv ydT yC1 (by decide) (fun _=>rfl) (fun x r _ h=>h) yUd
abbrev ymO:List Par:= [.pt tA (.pr .fz (.pr (.pr .fz .fz) (.pr (.ow (.pr (.ow .fz) (.pr (.ow (.pr .fz .fz)) (.pr .fz (.ow .fz))))) (.pr .fz (.pr .fz (.pr .fz (.pr .fz (.pr .fz (.pr (.ow (.pr .fz .fz)) (.pr .fz (.pr .fz .fz))))))))))),.kp tW .fz]
abbrev yti:List OT:= []
def ywG (a0:dA) (a1:dW):Option (zaY yti×zak ymO) :=zkr (ysE ((((),()),((),()),((),()),((),()),((),()),()),((a1.1,a1.2,()),(a0.1,a0.2.1.1,a0.2.1.2,(),a0.2.2.2.1,a0.2.2.2.2.1,a0.2.2.2.2.2.1,a0.2.2.2.2.2.2.1,a0.2.2.2.2.2.2.2.1,(),a0.2.2.2.2.2.2.2.2.2.1,a0.2.2.2.2.2.2.2.2.2.2.1,a0.2.2.2.2.2.2.2.2.2.2.2,()),()),(([]:List dW),a0.2.2.1,a0.2.2.2.2.2.2.2.2.1,()))) (fun y0 =>bif(!y0.1.2.2.2.1.1)then bif(zkj y0.2.2.1.length ([(y0.2.1.1.1,y0.2.1.1.2.1)]:List dW).length 32)then some ((),((y0.2.1.2.1.1,(y0.2.1.2.1.2.1,y0.2.1.2.1.2.2.1),y0.2.2.2.1,y0.2.1.2.1.2.2.2.2.1,y0.2.1.2.1.2.2.2.2.2.1,y0.2.1.2.1.2.2.2.2.2.2.1,y0.2.1.2.1.2.2.2.2.2.2.2.1,y0.2.1.2.1.2.2.2.2.2.2.2.2.1,(y0.2.2.1++([(y0.2.1.1.1,y0.2.1.1.2.1)]:List dW)),y0.2.1.2.1.2.2.2.2.2.2.2.2.2.2.1,y0.2.1.2.1.2.2.2.2.2.2.2.2.2.2.2.1,y0.2.1.2.1.2.2.2.2.2.2.2.2.2.2.2.2.1),())) else none else some ((),((y0.2.1.2.1.1,(y0.2.1.2.1.2.1,y0.2.1.2.1.2.2.1),y0.2.2.2.1,y0.2.1.2.1.2.2.2.2.1,y0.2.1.2.1.2.2.2.2.2.1,y0.2.1.2.1.2.2.2.2.2.2.1,y0.2.1.2.1.2.2.2.2.2.2.2.1,y0.2.1.2.1.2.2.2.2.2.2.2.2.1,y0.2.2.1,y0.2.1.2.1.2.2.2.2.2.2.2.2.2.2.1,y0.2.1.2.1.2.2.2.2.2.2.2.2.2.2.2.1,y0.2.1.2.1.2.2.2.2.2.2.2.2.2.2.2.2.1),()))) (fun y0 =>none)
theorem yWf:ConOk prog 183 ⟨ymO,yti,fun x=>ywG x.1 x.2.1⟩:=zkG (ySg) func183 ntmps183.symm fun x=>by kernel_rfl
def yt4 (a0:dA) (a1:dW):dA:=ywK a0 (yJ9 a0.2.2.2.2.2.2.2.2.1 a1)
def yDk (a0:dA) (a1:dW):Bool:=decide (a0.2.2.2.2.2.2.2.2.1.length≤1000)
theorem yYK (a0:dA) (a1:dW) (hk:zjw ymO (a0,a1,())) (hq:yDk a0 a1=true):ywG a0 a1=(fun n=>some ((),(n,()))) (yt4 a0 a1):=by
 have hq:=of_decide_eq_true hq
 have h1:=zkv (step:=ydT) a0.2.2.2.2.2.2.2.2.1 (0,[]) (fun i s=>yra s.1 i a1 a0 s.2) (ycu a1) (fun i s=>s.2.length≤i*2) (fun s=> .inl (yON s.1 a1 a0 s.2)) (fun i s hi hs=>by
  constructor
  ·simp only[ydT,yra,yrI,zkw (show(i:Int)<a0.2.2.2.2.2.2.2.2.1.length by omega),cond_true,wq ((i:Int)+1) (by omega) (by omega),Int.natCast_add,Int.natCast_one,Int.toNat_natCast,zkP hi,zkV,zkQ,ycu,zkD.2 (show(s.2.length+ [a1].length)*32≤140737488355328 by simp only[List.length_cons,List.length_nil]; omega),
    show ∀x:dW,zkj s.2.length [x].length 32=true from fun x=>zkD.2 (by simp only[List.length_cons,List.length_nil]; omega),show ∀x:dW,zkj (s.2++ [a1]).length [x].length 32=true from fun x=>zkD.2 (by simp only[List.length_append,List.length_cons,List.length_nil]; omega)]
   cases s.1<;>cases leb a1.1 (a0.2.2.2.2.2.2.2.2.1.getD i (0,[])).1<;>cases((a0.2.2.2.2.2.2.2.2.1.getD i (0,[])).1 !=a1.1)<;>simp
  ·unfold ycu
   have: ∀(b c:Bool) (x:dW),((bif b then s.2++ [a1]else s.2)++(bif c then[x]else[])).length≤(i+1)*2:=fun b c x=>by
    cases b<;>cases c<;>simp<;>omega
   exact this _ _ _) (fun s hs=>by simp only[ydT,yra,yrI,zk1 (Int.le_refl _),cond_false]) (false,[]) (Nat.zero_le _) 18446744073709551616 (by omega)
 have hl:((a0.2.2.2.2.2.2.2.2.1.foldl (ycu a1) (false,[])).2).length≤2000:=by
  have: ∀(l:List dW) (s:Bool×List dW),((l.foldl (ycu a1) s).2).length≤s.2.length+l.length*2:=by
   intro l
   induction l with
   | nil=>intro s; simp
   | cons x t ih =>
    intro s;rw[List.foldl_cons];have:=ih (ycu a1 s x)
    have h2:(ycu a1 s x).2.length≤s.2.length+2:=by
     unfold ycu;cases(!s.1&&leb a1.1 x.1)<;>cases(x.1 !=a1.1)<;>simp
    simp only[List.length_cons]; omega
  have:=this a0.2.2.2.2.2.2.2.2.1 (false,[]);simp only[List.length_nil]at this;omega
 unfold ywG yt4 yJ9;refine(congrArg (fun z=>zkr z _ _) (show ysE (yO1 a1 a0 [])=_ from h1)).trans ?_;generalize a0.2.2.2.2.2.2.2.2.1.foldl (ycu a1) (false,[])=R at hl;simp only[zkL,zkV];cases hr:R.1
 ·rw[zkD.2 (show(R.2.length+ [a1].length)*32≤140737488355328 by simp only[List.length_cons,List.length_nil]; omega)]; rfl
 ·rfl
def yt6 (a0:dA) (a1:dW):Option (zaY yti×zak ymO):=bif yDk a0 a1 then(fun n=>some ((),(n,()))) (yt4 a0 a1)else none
theorem yY3 (a0:dA) (a1:dW) (h:yDk a0 a1=true):yt6 a0 a1=(fun n=>some ((),(n,()))) (yt4 a0 a1):=by unfold yt6; rw[h]; rfl
def yF8:Con:=⟨ymO,yti,fun x=>yt6 x.1 x.2.1⟩
theorem yY0:ConOk prog 183 yF8:=(yWf).mono (fun x r hk h=>zkW h (fun hq=>yYK x.1 x.2.1 hk hq))
def yZm:Code:=(f118.body).getD .skip
def yZy:Env:=zku TT [(180,yz5),(181,yz8),(182,yCo),(183,yF8)] []
theorem ySh:FrOk prog ⟨yZy,40,fun _=>none⟩ yZm:=zky yg yh ⟨yQb,yQe,yTL,yY0,trivial⟩
abbrev ymP:List Par:= [.pt tA (.pr .fz (.pr (.pr .fz .fz) (.pr (.ow (.pr (.ow .fz) (.pr (.ow (.pr .fz .fz)) (.pr .fz (.ow .fz))))) (.pr .fz (.pr .fz (.pr .fz (.pr .fz (.pr .fz (.pr (.ow (.pr .fz .fz)) (.pr .fz (.pr .fz .fz))))))))))),.rd tI,.rd tI]
abbrev ytj:List OT:= [⟨false,tI,.fz⟩]
def ywH (a0:dA) (a1 a2:Int):Option (zaY ytj×zak ymP) :=let r1:=yir a0.2.1 a1;bnd (ymx a0 r1) fun r2 =>bif(!r2.1.2.1)then some ((5,()),(a0,())) else let r3:=yjF a0.2.1 a1;bif(inb r3 r2.1.1.length)then bnd (yt6 a0 (r1,(r2.1.1.set (r3).toNat a2))) fun r4 =>some ((0,()),(r4.2.1,())) else none
theorem yWg:ConOk prog 118 ⟨ymP,ytj,fun x=>ywH x.1 x.2.1 x.2.2.1⟩:=zkG (ySh) func118 ntmps118.symm fun x=>by kernel_rfl
def ypS (a:dA) (b n:Int):Int×dA:=bif(ybB a (yb2 a.2.1 b)).2 then(0,ywK a (yJ9 a.2.2.2.2.2.2.2.2.1 (yb2 a.2.1 b,(ybB a (yb2 a.2.1 b)).1.set (ywh a.2.1 b).toNat n)))else(5,a)
def yt5 (a0:dA) (a1 a2:Int):Int×dA:=ypS a0 a1 a2
def ynj (a0:dA) (a1 a2:Int):Bool:=yal a0&&(ykn a0.2.1 a1&&decide (a0.2.2.2.2.2.2.2.2.1.length≤1000))
theorem yYL (a0:dA) (a1 a2:Int) (hk:zjw ymP (a0,a1,a2,())) (hq:ynj a0 a1 a2=true):ywH a0 a1 a2=(fun n=>some ((n.1,()),(n.2,()))) (yt5 a0 a1 a2):=by
 simp only[ynj,Bool.and_eq_true]at hq;have hs:=yFB hq.2.1;obtain⟨hg,_,hi⟩:=yDZ hq.2.1;unfold ywH yt5 ypS;simp only[yir,yjF];rw[yQi a0 (yb2 a0.2.1 a1) hs];simp only[zkF,yit];cases hn:(ybB a0 (yb2 a0.2.1 a1)).2
 ·rfl
 ·have hl:=yzu hq.1 hs hn
  have hx:ywh a0.2.1 a1=a1.tmod (a0.2.1.1-1):=by unfold ywh; rw[hq.2.1]; rfl
  rw[zj4.2 (show 0≤ywh a0.2.1 a1∧ywh a0.2.1 a1<(ybB a0 (yb2 a0.2.1 a1)).1.length by omega),yY3 _ _ hq.2.2];rfl
def yeY (a0:dA) (a1 a2:Int):Option (zaY ytj×zak ymP):=bif ynj a0 a1 a2 then(fun n=>some ((n.1,()),(n.2,()))) (yt5 a0 a1 a2)else none
theorem yY4 (a0:dA) (a1 a2:Int) (h:ynj a0 a1 a2=true):yeY a0 a1 a2=(fun n=>some ((n.1,()),(n.2,()))) (yt5 a0 a1 a2):=by unfold yeY; rw[h]; rfl
def yF9:Con:=⟨ymP,ytj,fun x=>yeY x.1 x.2.1 x.2.2.1⟩
theorem yY1:ConOk prog 118 yF9:=(yWg).mono (fun x r hk h=>zkW h (fun hq=>yYL x.1 x.2.1 x.2.2.1 hk hq))
def yXI:Code:=(f147.body).getD .skip
def yYe:Env:=zku TT [] []
theorem yOf:FrOk prog ⟨yYe,58,fun _=>none⟩ yXI:=zky yg yh trivial
abbrev yyv:List Par:= [.pt tU .fz]
abbrev yy0:List OT:= [⟨false,tI,.fz⟩]
def yb5 (a0:dU):Option (zaY yy0×zak yyv) :=bif(ltb a0.2.1 (a0.1.length:Int))then bif(inb a0.2.1 a0.1.length)then some (((i64.wrap ((BitVec.ofInt IntKind.i64.bits (i64.wrap ((i64.wrap ((BitVec.ofInt IntKind.i64.bits (i64.wrap ((BitVec.ofInt IntKind.i64.bits ((i64.wrap ((i64.wrap (a0.2.2*6364136223846793005))+1442695040888963407)).fdiv (2^(min (33:Int).toNat IntKind.i64.bits))) ^^^ BitVec.ofInt IntKind.i64.bits ((i64.wrap ((i64.wrap (a0.2.2*6364136223846793005))+1442695040888963407)).fdiv (2^(min (47:Int).toNat IntKind.i64.bits)))).toNat:Int)) &&& BitVec.ofInt IntKind.i64.bits 255).toNat:Int))+(i64.wrap (nth a0.1 a0.2.1 0)))) &&& BitVec.ofInt IntKind.i64.bits 255).toNat:Int)),()),((a0.1,(i64.wrap (a0.2.1+1)),(i64.wrap ((i64.wrap (a0.2.2*6364136223846793005))+1442695040888963407))),())) else none else some (((i64.wrap ((BitVec.ofInt IntKind.i64.bits (i64.wrap ((BitVec.ofInt IntKind.i64.bits ((i64.wrap ((i64.wrap (a0.2.2*6364136223846793005))+1442695040888963407)).fdiv (2^(min (33:Int).toNat IntKind.i64.bits))) ^^^ BitVec.ofInt IntKind.i64.bits ((i64.wrap ((i64.wrap (a0.2.2*6364136223846793005))+1442695040888963407)).fdiv (2^(min (47:Int).toNat IntKind.i64.bits)))).toNat:Int)) &&& BitVec.ofInt IntKind.i64.bits 255).toNat:Int)),()),((a0.1,a0.2.1,(i64.wrap ((i64.wrap (a0.2.2*6364136223846793005))+1442695040888963407))),()))
theorem yTm:ConOk prog 147 ⟨yyv,yy0,fun x=>yb5 x.1⟩:=zkG (yOf) func147 ntmps147.symm fun x=>by kernel_rfl
def yEq:Con:=⟨yyv,yy0,fun x=>yb5 x.1⟩
theorem yWs:ConOk prog 147 yEq:=yTm
theorem y1z (x:Int):0≤i64.wrap ((BitVec.ofInt IntKind.i64.bits x &&& BitVec.ofInt IntKind.i64.bits 255).toNat:Int)∧i64.wrap ((BitVec.ofInt IntKind.i64.bits x &&& BitVec.ofInt IntKind.i64.bits 255).toNat:Int)≤255:=by
 have h:(BitVec.ofInt IntKind.i64.bits x &&& BitVec.ofInt IntKind.i64.bits 255).toNat≤255:=by
  rw[BitVec.toNat_and];exact Nat.le_trans Nat.and_le_right (by decide)
 rw[wr (by omega) (by omega)];omega
theorem yKy (u:List Int×Int×Int) (h:yco u): ∃(r:Int) (u':List Int×Int×Int),yb5 u=some ((r,()),(u',()))∧(0≤r∧r≤255)∧yco u':=by
 unfold yb5;by_cases h1:u.2.1<(u.1.length:Int)
 ·rw[zkw h1,zj4.2 ⟨h.1,h1⟩]
  refine⟨_,_,rfl,y1z _,?_,h.2⟩;show 0≤i64.wrap (u.2.1+1);have:=h.1; have:=h.2;rw[wr (by omega) (by omega)]; omega
 ·rw[zk1 (Int.not_lt.1 h1)]
  exact⟨_,_,rfl,y1z _,h⟩
def yUu:Code:=(f72.body).getD .skip
def yUU:Env:=zku TT [(147,yEq)] []
theorem yLE:FrOk prog ⟨yUU,31,fun _=>none⟩ yUu:=zky yg yh ⟨yWs,trivial⟩
abbrev yvM:List Par:= [.pt tU .fz,.rd tI]
abbrev yv5:List OT:= [⟨false,tI,.fz⟩]
def ym (a0:dU) (a1:Int):Option (zaY yv5×zak yvM) :=bif(leb a1 0)then some ((0,()),(a0,())) else bif(leb a1 256)then bnd (yb5 a0) fun r1 =>bif(a1 !=0)then some (((r1.1.1.tmod a1),()),(r1.2.1,())) else none else bnd (yb5 a0) fun r2 =>bnd (yb5 r2.2.1) fun r3 =>bnd (yb5 r3.2.1) fun r4 =>bif(a1 !=0)then some ((((i64.wrap ((i64.wrap ((i64.wrap (r2.1.1*65536))+(i64.wrap (r3.1.1*256))))+r4.1.1)).tmod a1),()),(r4.2.1,())) else none
theorem yPQ:ConOk prog 72 ⟨yvM,yv5,fun x=>ym x.1 x.2.1⟩:=zkG (yLE) func72 ntmps72.symm fun x=>by kernel_rfl
def yaU:Con:=⟨yvM,yv5,fun x=>ym x.1 x.2.1⟩
theorem yb4:ConOk prog 72 yaU:=yPQ
theorem ycL (u:List Int×Int×Int) (n:Int) (h:yco u): ∃(r:Int) (u':List Int×Int×Int),ym u n=some ((r,()),(u',()))∧(0≤r∧(0<n→r<n)∧(n≤0→r=0))∧yco u':=by
 unfold ym;by_cases h0:n≤0
 ·rw[zk0 h0]
  exact⟨_,_,rfl,⟨Int.le_refl _,fun h=>absurd h0 (by omega),fun _=>rfl⟩,h⟩
 ·have hn:(n !=0)=true:=bne_iff_ne.2 (by omega)
  have key: ∀x:Int,0≤x→0≤x.tmod n∧(0<n→x.tmod n<n)∧(n≤0→x.tmod n=0):=fun x hx =>
   ⟨Int.tmod_nonneg n hx,fun hp=>Int.tmod_lt_of_pos x hp,fun hp=>absurd hp h0⟩
  rw[zkZ (by omega)];by_cases h1:n≤256
  ·rw[zk0 h1]
   obtain⟨r1,u1,e1,q1,d1⟩:=yKy u h;rw[e1,zkX,zkY,zkF,hn];exact⟨_,_,rfl,key r1 q1.1,d1⟩
  ·rw[zkZ (by omega)]
   obtain⟨r1,u1,e1,q1,d1⟩:=yKy u h;obtain⟨r2,u2,e2,q2,d2⟩:=yKy u1 d1;obtain⟨r3,u3,e3,q3,d3⟩:=yKy u2 d2;simp only[e1,e2,e3,zkX,zkF,hn,zkY];refine⟨_,_,rfl,key _ ?_,d3⟩;rw[wq (r1*65536) (by omega) (by omega),wq (r2*256) (by omega) (by omega),wq (r1*65536+r2*256) (by omega) (by omega),wr (by omega) (by omega)];omega
def ypX:Code:=(f177.body).getD .skip
def yyd:Env:=zku TT [(82,yL)] [(28864,.fz),(28928,.fz)]
theorem yOb:FrOk prog ⟨yyd,22,fun _=>none⟩ ypX:=zky yg yh ⟨yS,trivial⟩
def yDP:Nat→Option Seg:=fun _=>none
def ycD:Shape:=⟨[(0,false,[.int .i64]),(2,false,[.ptr 0 0]),(3,false,[.ptr 12352 0]),(4,false,[.int .i64])],[(0,[.nil,.nil,.bool,.nil]),(12352,[.at 800000000,.nil,.bool,.nil])],[(800000000,tL,.fz)]⟩
def ygz:Shape:=⟨[(0,false,[.int .i64]),(2,false,[.ptr 0 0]),(3,false,[.ptr 12352 0]),(4,false,[.ci .i64 0])],[(0,[.nil,.nil,.bool,.nil]),(12352,[.at 800000000,.nil,.bool,.nil])],[(800000000,tL,.fz)]⟩
def ygo:Shape:=⟨[(2,false,[.ptr 0 0]),(3,false,[.ptr 12352 0])],[(0,[.nil,.nil,.bool,.nil]),(12352,[.at 800000000,.nil,.bool,.nil])],[(800000000,tL,.fz)]⟩
def ykh:Shape:=⟨[],[],[]⟩
abbrev yo0 (v0 v1:Int) (v2 v3:dM):(ycD).X:=(((v0,()),((),()),((),()),(v1,()),()),(((),(),v2.2.2.1,(),()),((),(),v3.2.2.1,(),()),()),(v3.1,()))
abbrev yLZ (v0:Int) (v1 v2:dM):(ygz).X:=(((v0,()),((),()),((),()),((),()),()),(((),(),v1.2.2.1,(),()),((),(),v2.2.2.1,(),()),()),(v2.1,()))
abbrev yLS (v0 v1:dM):(ygo).X:=((((),()),((),()),()),(((),(),v0.2.2.1,(),()),((),(),v1.2.2.1,(),()),()),(v1.1,()))
def ypy (v0 v1:Int) (v2 v3:Bool) (v4:List (List Int)):Option ((ycD).X ⊕ ((ygo).X ⊕ (ykh).X)) :=bif(ltb v1 v0)then bif(zkj v4.length ([([]:List Int)]:List (List Int)).length 24)then some (.inl (((v0,()),((),()),((),()),((i64.wrap (v1+1)),()),()),(((),(),v2,(),()),((),(),v3,(),()),()),((v4++([([]:List Int)]:List (List Int))),()))) else none else some (.inr (.inl ((((),()),((),()),()),(((),(),v2,(),()),((),(),v3,(),()),()),(v4,()))))
def yc0 (x:(ycD).X):=ypy x.1.1.1 x.1.2.2.2.1.1 x.2.1.1.2.2.1 x.2.1.2.1.2.2.1 x.2.2.1
def yAd (x:(ygz).X):(ycD).X:=(((x.1.1.1,()),((),()),((),()),(0,()),()),(((),(),x.2.1.1.2.2.1,(),()),((),(),x.2.1.2.1.2.2.1,(),()),()),(x.2.2.1,()))
def yB7:Code:=(zeJ ypX 64 244).getD .skip
theorem yNz:zeJ ypX 64 61=some (.block 0 (.loop yB7)):=by kernel_rfl
theorem yQn (x:(ycD).X):zhu ⟨yyd,22,yDP⟩ 0 yB7 244 ycD ygo ykh x=yc0 x:=by kernel_rfl
def yAo (x:(ygz).X):Nat:=18446744073709551616
def yqE (x:(ygz).X):Option ((ygo).X ⊕ (ykh).X):=zF yc0 (yAo x) (yAd x)
def yAI:Seg:=⟨ygz,ygo,ykh,yqE⟩
def yQT:Nat→Option Seg:=fun q=>bif Nat.beq q 61 then some yAI else yDP q
theorem yOc:FrOk prog ⟨yyd,22,yQT⟩ ypX:=(yOb).loop (sg:=yAI) ycD yAd (by decide) yNz yc0 yAo (by decide) (fun _=>rfl) (fun x r _ h=>h) yQn
abbrev yqe:List Par:= [.rd tI]
abbrev yyX:List OT:= [⟨false,tM,(.pr (.ow .fz) (.pr (.ow (.pr .fz .fz)) (.pr .fz (.ow .fz))))⟩]
def yul (a0:Int):Option (zaY yyX×zak yqe) :=let r1:=yb a0 1 20;bif(!r1)then some ((([],[],false,[]),()),()) else zkr (yqE (((a0,()),((),()),((),()),((),()),()),(((),(),false,(),()),((),(),false,(),()),()),([],()))) (fun y1 =>some (((y1.2.2.1,[],y1.2.1.2.1.2.2.1,[]),()),())) (fun y1 =>none)
theorem yTj:ConOk prog 177 ⟨yqe,yyX,fun x=>yul x.1⟩:=zkG (yOc) func177 ntmps177.symm fun x=>by kernel_rfl
def ydW (a0:Int):dM:=yaY a0
theorem yVE (a0:Int) (hk:zjw yqe (a0,())):yul a0=(fun n=>some ((n,()),())) (ydW a0):=by
 unfold yul ydW yaY;simp only[ycx];cases hc:(leb 1 a0&&leb a0 20)
 ·rfl
 ·rw[Bool.and_eq_true,zj5,zj5]at hc
  have h1:yqE (yLZ a0 yc yc)=some (.inl (yLS yc (List.replicate a0.toNat [],[],false,[]))) :=
   zkJ (step:=yc0) (fun i=>yo0 a0 i yc (List.replicate i [],[],false,[])) a0.toNat _ (fun i hi=>by
    simp only[yc0,yo0,ypy,zkw (show(i:Int)<a0 by omega),cond_true,wq ((i:Int)+1) (by omega) (by omega),Int.natCast_add,Int.natCast_one,Int.toNat_natCast]
    rw[zkD.2 (show((List.replicate i ([]:List Int)).length+([[]]:List (List Int)).length)*24≤140737488355328 by simp only[List.length_cons,List.length_nil,List.length_replicate]; omega),← List.replicate_succ']; rfl) (by simp only[yc0,yo0,ypy,zk1 (show a0≤(a0.toNat:Int)by omega),cond_false]) _ (by show _<18446744073709551616; omega)
  rw[h1]; rfl
def yty:Con:=⟨yqe,yyX,fun x=>(fun n=>some ((n,()),())) (ydW x.1)⟩
theorem yGt:ConOk prog 177 yty:=(yTj).mono (fun x r hk h=>(yVE x.1 hk).trans h)
def yfh:Code:=(f115.body).getD .skip
def ykN:Env:=zku TT [(82,yL),(113,ye6),(144,yoW),(150,yf7),(177,yty),(178,ymq)] [(53440,(.pr (.ow .fz) (.pr (.ow (.pr .fz .fz)) (.pr .fz (.ow .fz))))),(53504,(.pr (.ow .fz) (.pr (.ow (.pr .fz .fz)) (.pr .fz (.ow .fz)))))]
theorem yN4:FrOk prog ⟨ykN,60,fun _=>none⟩ yfh:=zky yg yh ⟨yS,yjP,yDg,ylc,yGt,ywm,trivial⟩
def yDO:Nat→Option Seg:=fun _=>none
def ya9:Shape:=⟨[(0,false,[.int .i64]),(3,false,[.ptr 0 0]),(4,false,[.ptr 64 0]),(5,false,[.ptr 12480 0]),(6,false,[.int .i64]),(7,false,[.ptr 28864 0]),(8,false,[.int .i64])],[(0,[.int .i64,.int .i64]),(64,[.int .i64,.int .i64,.int .i64,.nil,.int .i64,.int .i64,.int .i64,.int .i64,.int .i64,.nil,.int .i64,.bool,.bool]),(12480,[.int .i64,.int .i64,.int .i64,.at 800000000,.int .i64,.int .i64,.int .i64,.int .i64,.int .i64,.nil,.int .i64,.bool,.bool]),(28864,[.at 800000001,.at 800000002,.bool,.at 800000003])],[(800000000,tM,(.pr (.ow .fz) (.pr (.ow (.pr .fz .fz)) (.pr .fz (.ow .fz))))),(800000001,tL,.fz),(800000002,tW,(.pr .fz .fz)),(800000003,tI,.fz)]⟩
def yea:Shape:=⟨[(0,false,[.int .i64]),(3,false,[.ptr 0 0]),(4,false,[.ptr 64 0]),(5,false,[.ptr 12480 0]),(6,false,[.int .i64]),(7,false,[.ptr 28864 0]),(8,false,[.ci .i64 0])],[(0,[.int .i64,.int .i64]),(64,[.int .i64,.int .i64,.int .i64,.nil,.int .i64,.int .i64,.int .i64,.int .i64,.int .i64,.nil,.int .i64,.bool,.bool]),(12480,[.int .i64,.int .i64,.int .i64,.at 800000000,.int .i64,.int .i64,.int .i64,.int .i64,.int .i64,.nil,.int .i64,.bool,.bool]),(28864,[.at 800000001,.at 800000002,.bool,.at 800000003])],[(800000000,tM,(.pr (.ow .fz) (.pr (.ow (.pr .fz .fz)) (.pr .fz (.ow .fz))))),(800000001,tL,.fz),(800000002,tW,(.pr .fz .fz)),(800000003,tI,.fz)]⟩
def yd4:Shape:=⟨[(0,false,[.int .i64]),(3,false,[.ptr 0 0]),(4,false,[.ptr 64 0]),(5,false,[.ptr 12480 0]),(6,false,[.int .i64]),(7,false,[.ptr 28864 0])],[(0,[.int .i64,.int .i64]),(64,[.int .i64,.int .i64,.int .i64,.nil,.int .i64,.int .i64,.int .i64,.int .i64,.int .i64,.nil,.int .i64,.bool,.bool]),(12480,[.int .i64,.int .i64,.int .i64,.at 800000000,.int .i64,.int .i64,.int .i64,.int .i64,.int .i64,.nil,.int .i64,.bool,.bool]),(28864,[.at 800000001,.at 800000002,.bool,.at 800000003])],[(800000000,tM,(.pr (.ow .fz) (.pr (.ow (.pr .fz .fz)) (.pr .fz (.ow .fz))))),(800000001,tL,.fz),(800000002,tW,(.pr .fz .fz)),(800000003,tI,.fz)]⟩
def yg4:Shape:=⟨[],[],[]⟩
abbrev yku (v0 v1 v2:Int) (v3:dG) (v4 v5:dA) (v6:dM):(ya9).X:=(((v0,()),((),()),((),()),((),()),(v1,()),((),()),(v2,()),()),((v3.1,v3.2,()),(v4.1,v4.2.1.1,v4.2.1.2,(),v4.2.2.2.1,v4.2.2.2.2.1,v4.2.2.2.2.2.1,v4.2.2.2.2.2.2.1,v4.2.2.2.2.2.2.2.1,(),v4.2.2.2.2.2.2.2.2.2.1,v4.2.2.2.2.2.2.2.2.2.2.1,v4.2.2.2.2.2.2.2.2.2.2.2,()),(v5.1,v5.2.1.1,v5.2.1.2,(),v5.2.2.2.1,v5.2.2.2.2.1,v5.2.2.2.2.2.1,v5.2.2.2.2.2.2.1,v5.2.2.2.2.2.2.2.1,(),v5.2.2.2.2.2.2.2.2.2.1,v5.2.2.2.2.2.2.2.2.2.2.1,v5.2.2.2.2.2.2.2.2.2.2.2,()),((),(),v6.2.2.1,(),()),()),(v5.2.2.1,v6.1,v6.2.1,v6.2.2.2,()))
abbrev yG9 (v0 v1:Int) (v2:dG) (v3 v4:dA) (v5:dM):(yea).X:=(((v0,()),((),()),((),()),((),()),(v1,()),((),()),((),()),()),((v2.1,v2.2,()),(v3.1,v3.2.1.1,v3.2.1.2,(),v3.2.2.2.1,v3.2.2.2.2.1,v3.2.2.2.2.2.1,v3.2.2.2.2.2.2.1,v3.2.2.2.2.2.2.2.1,(),v3.2.2.2.2.2.2.2.2.2.1,v3.2.2.2.2.2.2.2.2.2.2.1,v3.2.2.2.2.2.2.2.2.2.2.2,()),(v4.1,v4.2.1.1,v4.2.1.2,(),v4.2.2.2.1,v4.2.2.2.2.1,v4.2.2.2.2.2.1,v4.2.2.2.2.2.2.1,v4.2.2.2.2.2.2.2.1,(),v4.2.2.2.2.2.2.2.2.2.1,v4.2.2.2.2.2.2.2.2.2.2.1,v4.2.2.2.2.2.2.2.2.2.2.2,()),((),(),v5.2.2.1,(),()),()),(v4.2.2.1,v5.1,v5.2.1,v5.2.2.2,()))
abbrev yt0 (v0 v1:Int) (v2:dG) (v3 v4:dA) (v5:dM):(yd4).X:=(((v0,()),((),()),((),()),((),()),(v1,()),((),()),()),((v2.1,v2.2,()),(v3.1,v3.2.1.1,v3.2.1.2,(),v3.2.2.2.1,v3.2.2.2.2.1,v3.2.2.2.2.2.1,v3.2.2.2.2.2.2.1,v3.2.2.2.2.2.2.2.1,(),v3.2.2.2.2.2.2.2.2.2.1,v3.2.2.2.2.2.2.2.2.2.2.1,v3.2.2.2.2.2.2.2.2.2.2.2,()),(v4.1,v4.2.1.1,v4.2.1.2,(),v4.2.2.2.1,v4.2.2.2.2.1,v4.2.2.2.2.2.1,v4.2.2.2.2.2.2.1,v4.2.2.2.2.2.2.2.1,(),v4.2.2.2.2.2.2.2.2.2.1,v4.2.2.2.2.2.2.2.2.2.2.1,v4.2.2.2.2.2.2.2.2.2.2.2,()),((),(),v5.2.2.1,(),()),()),(v4.2.2.1,v5.1,v5.2.1,v5.2.2.2,()))
def ykJ (v0 v1 v2 v3 v4 v5 v6 v7 v8 v9 v10 v11 v12 v13:Int) (v14 v15:Bool) (v16 v17 v18 v19 v20 v21 v22 v23 v24:Int) (v25 v26 v27:Bool) (v28:List dM) (v29:List (List Int)) (v30:List dW) (v31:List Int):Option ((ya9).X ⊕ ((yd4).X ⊕ (yg4).X)) :=bif(ltb v2 v4)then let r13:=ybD v2;bif(inb r13 v29.length)then some (.inl (((v0,()),((),()),((),()),((),()),(v1,()),((),()),((i64.wrap (v2+1)),()),()),((v3,v4,()),(v5,v6,v7,(),v8,v9,v10,v11,v12,(),v13,v14,v15,()),(v16,v17,v18,(),v19,v20,v21,v22,v23,(),v24,v25,v26,()),((),(),v27,(),()),()),(v28,(v29.set (r13).toNat ([0]:List Int)),v30,v31,()))) else none else some (.inr (.inl (((v0,()),((),()),((),()),((),()),(v1,()),((),()),()),((v3,v4,()),(v5,v6,v7,(),v8,v9,v10,v11,v12,(),v13,v14,v15,()),(v16,v17,v18,(),v19,v20,v21,v22,v23,(),v24,v25,v26,()),((),(),v27,(),()),()),(v28,v29,v30,v31,()))))
def ybo (x:(ya9).X):=ykJ x.1.1.1 x.1.2.2.2.2.1.1 x.1.2.2.2.2.2.2.1.1 x.2.1.1.1 x.2.1.1.2.1 x.2.1.2.1.1 x.2.1.2.1.2.1 x.2.1.2.1.2.2.1 x.2.1.2.1.2.2.2.2.1 x.2.1.2.1.2.2.2.2.2.1 x.2.1.2.1.2.2.2.2.2.2.1 x.2.1.2.1.2.2.2.2.2.2.2.1 x.2.1.2.1.2.2.2.2.2.2.2.2.1 x.2.1.2.1.2.2.2.2.2.2.2.2.2.2.1 x.2.1.2.1.2.2.2.2.2.2.2.2.2.2.2.1 x.2.1.2.1.2.2.2.2.2.2.2.2.2.2.2.2.1 x.2.1.2.2.1.1 x.2.1.2.2.1.2.1 x.2.1.2.2.1.2.2.1 x.2.1.2.2.1.2.2.2.2.1 x.2.1.2.2.1.2.2.2.2.2.1 x.2.1.2.2.1.2.2.2.2.2.2.1 x.2.1.2.2.1.2.2.2.2.2.2.2.1 x.2.1.2.2.1.2.2.2.2.2.2.2.2.1 x.2.1.2.2.1.2.2.2.2.2.2.2.2.2.2.1 x.2.1.2.2.1.2.2.2.2.2.2.2.2.2.2.2.1 x.2.1.2.2.1.2.2.2.2.2.2.2.2.2.2.2.2.1 x.2.1.2.2.2.1.2.2.1 x.2.2.1 x.2.2.2.1 x.2.2.2.2.1 x.2.2.2.2.2.1
def ytG (x:(yea).X):(ya9).X:=(((x.1.1.1,()),((),()),((),()),((),()),(x.1.2.2.2.2.1.1,()),((),()),(0,()),()),((x.2.1.1.1,x.2.1.1.2.1,()),(x.2.1.2.1.1,x.2.1.2.1.2.1,x.2.1.2.1.2.2.1,(),x.2.1.2.1.2.2.2.2.1,x.2.1.2.1.2.2.2.2.2.1,x.2.1.2.1.2.2.2.2.2.2.1,x.2.1.2.1.2.2.2.2.2.2.2.1,x.2.1.2.1.2.2.2.2.2.2.2.2.1,(),x.2.1.2.1.2.2.2.2.2.2.2.2.2.2.1,x.2.1.2.1.2.2.2.2.2.2.2.2.2.2.2.1,x.2.1.2.1.2.2.2.2.2.2.2.2.2.2.2.2.1,()),(x.2.1.2.2.1.1,x.2.1.2.2.1.2.1,x.2.1.2.2.1.2.2.1,(),x.2.1.2.2.1.2.2.2.2.1,x.2.1.2.2.1.2.2.2.2.2.1,x.2.1.2.2.1.2.2.2.2.2.2.1,x.2.1.2.2.1.2.2.2.2.2.2.2.1,x.2.1.2.2.1.2.2.2.2.2.2.2.2.1,(),x.2.1.2.2.1.2.2.2.2.2.2.2.2.2.2.1,x.2.1.2.2.1.2.2.2.2.2.2.2.2.2.2.2.1,x.2.1.2.2.1.2.2.2.2.2.2.2.2.2.2.2.2.1,()),((),(),x.2.1.2.2.2.1.2.2.1,(),()),()),(x.2.2.1,x.2.2.2.1,x.2.2.2.2.1,x.2.2.2.2.2.1,()))
def yuI:Code:=(zeJ yfh 64 125236).getD .skip
theorem yHO:zeJ yfh 64 31309=some (.block 2 (.loop yuI)):=by kernel_rfl
theorem yIo (x:(ya9).X):zhu ⟨ykN,60,yDO⟩ 2 yuI 125236 ya9 yd4 yg4 x=ybo x:=by kernel_rfl
def ytO (x:(yea).X):Nat:=18446744073709551616
def ylm (x:(yea).X):Option ((yd4).X ⊕ (yg4).X):=zF ybo (ytO x) (ytG x)
def yux:Seg:=⟨yea,yd4,yg4,ylm⟩
def ysf:Nat→Option Seg:=fun q=>bif Nat.beq q 31309 then some yux else yDO q
theorem yN5:FrOk prog ⟨ykN,60,ysf⟩ yfh:=(yN4).loop (sg:=yux) ya9 ytG (by decide) yHO ybo ytO (by decide) (fun _=>rfl) (fun x r _ h=>h) yIo
def ycC:Shape:=⟨[(0,false,[.int .i64]),(3,false,[.ptr 0 0]),(4,false,[.ptr 64 0]),(5,false,[.ptr 12480 0]),(6,false,[.int .i64])],[(0,[.int .i64,.int .i64]),(64,[.int .i64,.int .i64,.int .i64,.nil,.int .i64,.int .i64,.int .i64,.int .i64,.int .i64,.nil,.int .i64,.bool,.bool]),(12480,[.int .i64,.int .i64,.int .i64,.at 800000000,.int .i64,.int .i64,.int .i64,.int .i64,.int .i64,.nil,.int .i64,.bool,.bool])],[(800000000,tM,(.pr (.ow .fz) (.pr (.ow (.pr .fz .fz)) (.pr .fz (.ow .fz)))))]⟩
def ygy:Shape:=⟨[(0,false,[.int .i64]),(3,false,[.ptr 0 0]),(4,false,[.ptr 64 0]),(5,false,[.ptr 12480 0]),(6,false,[.ci .i64 0])],[(0,[.int .i64,.int .i64]),(64,[.int .i64,.int .i64,.int .i64,.nil,.int .i64,.int .i64,.int .i64,.int .i64,.int .i64,.nil,.int .i64,.bool,.bool]),(12480,[.int .i64,.int .i64,.int .i64,.at 800000000,.int .i64,.int .i64,.int .i64,.int .i64,.int .i64,.nil,.int .i64,.bool,.bool])],[(800000000,tM,(.pr (.ow .fz) (.pr (.ow (.pr .fz .fz)) (.pr .fz (.ow .fz)))))]⟩
def ygn:Shape:=⟨[(4,false,[.ptr 64 0]),(5,false,[.ptr 12480 0])],[(64,[.int .i64,.int .i64,.int .i64,.nil,.int .i64,.int .i64,.int .i64,.int .i64,.int .i64,.nil,.int .i64,.bool,.bool]),(12480,[.int .i64,.int .i64,.int .i64,.at 800000000,.int .i64,.int .i64,.int .i64,.int .i64,.int .i64,.nil,.int .i64,.bool,.bool])],[(800000000,tM,(.pr (.ow .fz) (.pr (.ow (.pr .fz .fz)) (.pr .fz (.ow .fz)))))]⟩
def ykg:Shape:=⟨[],[],[]⟩
abbrev yiY (v0 v1:Int) (v2:dG) (v3 v4:dA):(ycC).X:=(((v0,()),((),()),((),()),((),()),(v1,()),()),((v2.1,v2.2,()),(v3.1,v3.2.1.1,v3.2.1.2,(),v3.2.2.2.1,v3.2.2.2.2.1,v3.2.2.2.2.2.1,v3.2.2.2.2.2.2.1,v3.2.2.2.2.2.2.2.1,(),v3.2.2.2.2.2.2.2.2.2.1,v3.2.2.2.2.2.2.2.2.2.2.1,v3.2.2.2.2.2.2.2.2.2.2.2,()),(v4.1,v4.2.1.1,v4.2.1.2,(),v4.2.2.2.1,v4.2.2.2.2.1,v4.2.2.2.2.2.1,v4.2.2.2.2.2.2.1,v4.2.2.2.2.2.2.2.1,(),v4.2.2.2.2.2.2.2.2.2.1,v4.2.2.2.2.2.2.2.2.2.2.1,v4.2.2.2.2.2.2.2.2.2.2.2,()),()),(v4.2.2.1,()))
abbrev yLY (v0:Int) (v1:dG) (v2 v3:dA):(ygy).X:=(((v0,()),((),()),((),()),((),()),((),()),()),((v1.1,v1.2,()),(v2.1,v2.2.1.1,v2.2.1.2,(),v2.2.2.2.1,v2.2.2.2.2.1,v2.2.2.2.2.2.1,v2.2.2.2.2.2.2.1,v2.2.2.2.2.2.2.2.1,(),v2.2.2.2.2.2.2.2.2.2.1,v2.2.2.2.2.2.2.2.2.2.2.1,v2.2.2.2.2.2.2.2.2.2.2.2,()),(v3.1,v3.2.1.1,v3.2.1.2,(),v3.2.2.2.1,v3.2.2.2.2.1,v3.2.2.2.2.2.1,v3.2.2.2.2.2.2.1,v3.2.2.2.2.2.2.2.1,(),v3.2.2.2.2.2.2.2.2.2.1,v3.2.2.2.2.2.2.2.2.2.2.1,v3.2.2.2.2.2.2.2.2.2.2.2,()),()),(v3.2.2.1,()))
abbrev yAw (v0 v1:dA):(ygn).X:=((((),()),((),()),()),((v0.1,v0.2.1.1,v0.2.1.2,(),v0.2.2.2.1,v0.2.2.2.2.1,v0.2.2.2.2.2.1,v0.2.2.2.2.2.2.1,v0.2.2.2.2.2.2.2.1,(),v0.2.2.2.2.2.2.2.2.2.1,v0.2.2.2.2.2.2.2.2.2.2.1,v0.2.2.2.2.2.2.2.2.2.2.2,()),(v1.1,v1.2.1.1,v1.2.1.2,(),v1.2.2.2.1,v1.2.2.2.2.1,v1.2.2.2.2.2.1,v1.2.2.2.2.2.2.1,v1.2.2.2.2.2.2.2.1,(),v1.2.2.2.2.2.2.2.2.2.1,v1.2.2.2.2.2.2.2.2.2.2.1,v1.2.2.2.2.2.2.2.2.2.2.2,()),()),(v1.2.2.1,()))
def ypx (v0 v1 v2 v3 v4 v5 v6 v7 v8 v9 v10 v11 v12:Int) (v13 v14:Bool) (v15 v16 v17 v18 v19 v20 v21 v22 v23:Int) (v24 v25:Bool) (v26:List dM):Option ((ycC).X ⊕ ((ygn).X ⊕ (ykg).X)) :=bif(ltb v1 v2)then let r15:=ycy (v2,v3);let r16:=ydW r15;let r17:=yl (v0,0,v1,v2,v3,0,(-1),0);bif(inb 0 r16.1.length)then zkr (ylm (((v0,()),((),()),((),()),((),()),(v1,()),((),()),((),()),()),((v2,v3,()),(v4,v5,v6,(),v7,v8,v9,v10,v11,(),v12,v13,v14,()),(v15,v16,v17,(),v18,v19,v20,v21,v22,(),v23,v24,v25,()),((),(),r16.2.2.1,(),()),()),(v26,(r16.1.set (0:Int).toNat r17),r16.2.1,r16.2.2.2,()))) (fun y17 =>bif(zkj y17.2.2.1.length ([(y17.2.2.2.1,y17.2.2.2.2.1,y17.2.1.2.2.2.1.2.2.1,y17.2.2.2.2.2.1)]:List dM).length 80)then some (.inl (((y17.1.1.1,()),((),()),((),()),((),()),((i64.wrap (y17.1.2.2.2.2.1.1+1)),()),()),((y17.2.1.1.1,y17.2.1.1.2.1,()),(y17.2.1.2.1.1,y17.2.1.2.1.2.1,y17.2.1.2.1.2.2.1,(),y17.2.1.2.1.2.2.2.2.1,y17.2.1.2.1.2.2.2.2.2.1,y17.2.1.2.1.2.2.2.2.2.2.1,y17.2.1.2.1.2.2.2.2.2.2.2.1,y17.2.1.2.1.2.2.2.2.2.2.2.2.1,(),y17.2.1.2.1.2.2.2.2.2.2.2.2.2.2.1,y17.2.1.2.1.2.2.2.2.2.2.2.2.2.2.2.1,y17.2.1.2.1.2.2.2.2.2.2.2.2.2.2.2.2.1,()),(y17.2.1.2.2.1.1,y17.2.1.2.2.1.2.1,y17.2.1.2.2.1.2.2.1,(),y17.2.1.2.2.1.2.2.2.2.1,y17.2.1.2.2.1.2.2.2.2.2.1,y17.2.1.2.2.1.2.2.2.2.2.2.1,y17.2.1.2.2.1.2.2.2.2.2.2.2.1,y17.2.1.2.2.1.2.2.2.2.2.2.2.2.1,(),y17.2.1.2.2.1.2.2.2.2.2.2.2.2.2.2.1,y17.2.1.2.2.1.2.2.2.2.2.2.2.2.2.2.2.1,y17.2.1.2.2.1.2.2.2.2.2.2.2.2.2.2.2.2.1,()),()),((y17.2.2.1++([(y17.2.2.2.1,y17.2.2.2.2.1,y17.2.1.2.2.2.1.2.2.1,y17.2.2.2.2.2.1)]:List dM)),()))) else none) (fun y17 =>some (.inr (.inr ((),(),())))) else none else some (.inr (.inl ((((),()),((),()),()),((v4,v5,v6,(),v7,v8,v9,v10,v11,(),v12,v13,v14,()),(v15,v16,v17,(),v18,v19,v20,v21,v22,(),v23,v24,v25,()),()),(v26,()))))
def ycZ (x:(ycC).X):=ypx x.1.1.1 x.1.2.2.2.2.1.1 x.2.1.1.1 x.2.1.1.2.1 x.2.1.2.1.1 x.2.1.2.1.2.1 x.2.1.2.1.2.2.1 x.2.1.2.1.2.2.2.2.1 x.2.1.2.1.2.2.2.2.2.1 x.2.1.2.1.2.2.2.2.2.2.1 x.2.1.2.1.2.2.2.2.2.2.2.1 x.2.1.2.1.2.2.2.2.2.2.2.2.1 x.2.1.2.1.2.2.2.2.2.2.2.2.2.2.1 x.2.1.2.1.2.2.2.2.2.2.2.2.2.2.2.1 x.2.1.2.1.2.2.2.2.2.2.2.2.2.2.2.2.1 x.2.1.2.2.1.1 x.2.1.2.2.1.2.1 x.2.1.2.2.1.2.2.1 x.2.1.2.2.1.2.2.2.2.1 x.2.1.2.2.1.2.2.2.2.2.1 x.2.1.2.2.1.2.2.2.2.2.2.1 x.2.1.2.2.1.2.2.2.2.2.2.2.1 x.2.1.2.2.1.2.2.2.2.2.2.2.2.1 x.2.1.2.2.1.2.2.2.2.2.2.2.2.2.2.1 x.2.1.2.2.1.2.2.2.2.2.2.2.2.2.2.2.1 x.2.1.2.2.1.2.2.2.2.2.2.2.2.2.2.2.2.1 x.2.2.1
def yAc (x:(ygy).X):(ycC).X:=(((x.1.1.1,()),((),()),((),()),((),()),(0,()),()),((x.2.1.1.1,x.2.1.1.2.1,()),(x.2.1.2.1.1,x.2.1.2.1.2.1,x.2.1.2.1.2.2.1,(),x.2.1.2.1.2.2.2.2.1,x.2.1.2.1.2.2.2.2.2.1,x.2.1.2.1.2.2.2.2.2.2.1,x.2.1.2.1.2.2.2.2.2.2.2.1,x.2.1.2.1.2.2.2.2.2.2.2.2.1,(),x.2.1.2.1.2.2.2.2.2.2.2.2.2.2.1,x.2.1.2.1.2.2.2.2.2.2.2.2.2.2.2.1,x.2.1.2.1.2.2.2.2.2.2.2.2.2.2.2.2.1,()),(x.2.1.2.2.1.1,x.2.1.2.2.1.2.1,x.2.1.2.2.1.2.2.1,(),x.2.1.2.2.1.2.2.2.2.1,x.2.1.2.2.1.2.2.2.2.2.1,x.2.1.2.2.1.2.2.2.2.2.2.1,x.2.1.2.2.1.2.2.2.2.2.2.2.1,x.2.1.2.2.1.2.2.2.2.2.2.2.2.1,(),x.2.1.2.2.1.2.2.2.2.2.2.2.2.2.2.1,x.2.1.2.2.1.2.2.2.2.2.2.2.2.2.2.2.1,x.2.1.2.2.1.2.2.2.2.2.2.2.2.2.2.2.2.1,()),()),(x.2.2.1,()))
def yB6:Code:=(zeJ yfh 64 244).getD .skip
theorem yNy:zeJ yfh 64 61=some (.block 0 (.loop yB6)):=by kernel_rfl
theorem yQm (x:(ycC).X):zhu ⟨ykN,60,ysf⟩ 0 yB6 244 ycC ygn ykg x=ycZ x:=by kernel_rfl
def yAn (x:(ygy).X):Nat:=18446744073709551616
def yqD (x:(ygy).X):Option ((ygn).X ⊕ (ykg).X):=zF ycZ (yAn x) (yAc x)
def yAH:Seg:=⟨ygy,ygn,ykg,yqD⟩
def yQS:Nat→Option Seg:=fun q=>bif Nat.beq q 61 then some yAH else ysf q
theorem yN6:FrOk prog ⟨ykN,60,yQS⟩ yfh:=(yN5).loop (sg:=yAH) ycC yAc (by decide) yNy ycZ yAn (by decide) (fun _=>rfl) (fun x r _ h=>h) yQm
abbrev yqb:List Par:= [.rd tI,.rd tG]
abbrev yyS:List OT:= [⟨false,tA,(.pr .fz (.pr (.pr .fz .fz) (.pr (.ow (.pr (.ow .fz) (.pr (.ow (.pr .fz .fz)) (.pr .fz (.ow .fz))))) (.pr .fz (.pr .fz (.pr .fz (.pr .fz (.pr .fz (.pr (.ow (.pr .fz .fz)) (.pr .fz (.pr .fz .fz)))))))))))⟩]
def yui (a0:Int) (a1:dG):Option (zaY yyS×zak yqb) :=let r1:=ye a1;bif(!(!r1))then let r2:=yb a0 1 60000;bif(!r2)then some (((0,(0,0),[],0,0,0,0,0,[],0,false,false),()),()) else zkr (yqD (((a0,()),((),()),((),()),((),()),((),()),()),((a1.1,a1.2,()),(0,0,0,(),0,0,0,0,0,(),0,false,false,()),(a0,a1.1,a1.2,(),(-1),0,0,0,0,(),(-1),false,false,()),()),([],()))) (fun y18 =>some (((y18.2.1.2.1.1,(y18.2.1.2.1.2.1,y18.2.1.2.1.2.2.1),y18.2.2.1,y18.2.1.2.1.2.2.2.2.1,y18.2.1.2.1.2.2.2.2.2.1,y18.2.1.2.1.2.2.2.2.2.2.1,y18.2.1.2.1.2.2.2.2.2.2.2.1,y18.2.1.2.1.2.2.2.2.2.2.2.2.1,[],y18.2.1.2.1.2.2.2.2.2.2.2.2.2.2.1,y18.2.1.2.1.2.2.2.2.2.2.2.2.2.2.2.1,y18.2.1.2.1.2.2.2.2.2.2.2.2.2.2.2.2.1),()),())) (fun y18 =>none) else some (((0,(0,0),[],0,0,0,0,0,[],0,false,false),()),())
theorem yTe:ConOk prog 115 ⟨yqb,yyS,fun x=>yui x.1 x.2.1⟩:=zkG (yN6) func115 ntmps115.symm fun x=>by kernel_rfl
def yk5 (a0:Int) (a1:dG):dA:=yed a0 a1
theorem yVz (a0:Int) (a1:dG) (hk:zjw yqb (a0,a1,())):yui a0 a1=(fun n=>some ((n,()),())) (yk5 a0 a1):=by
 unfold yui yk5 yed;simp only[ycx];cases hg:ye a1
 ·rfl
 cases hid:(leb 1 a0&&leb a0 60000)
 ·rfl
 have hge:=yn.1 hg
 have inner: ∀(i:Int) (a:dA),ylm (yG9 a0 i a1 yaB a (yiu a0 a1 i))=some (.inl (yt0 a0 i a1 yaB a (yM a0 a1 i))):=fun i a =>
  zkB (step:=ybo) a1.2.toNat (fun s m=>yku a0 i s a1 yaB a m) yon (fun _ m=>(m.1.length:Int)=6+a1.2) (fun m=> .inl (yt0 a0 i a1 yaB a m)) (fun s m hs hm=>⟨by
   simp only[ybo,yku,ykJ,zkw (show(s:Int)<a1.2 by omega),cond_true,wq ((s:Int)+1) (by omega) (by omega),Int.natCast_add,Int.natCast_one,Int.toNat_natCast,yge];have hd:yx (s:Int)=((s+6:Nat):Int):=by unfold yx; rw[zk0 (show(0:Int)≤s by omega),zk0 (show(s:Int)≤1099511627776 by omega)]; rfl
   rw[hd,zkP (show s+6<m.1.length by omega),Int.toNat_natCast]; rfl,by show((m.1.set _ _).length:Int)=_; rw[List.length_set]; exact hm⟩) (fun m hm=>by simp only[ybo,yku,ykJ,show((a1.2.toNat:Nat):Int)=a1.2 by omega,zk1 (Int.le_refl _),cond_false]) (yiu a0 a1 i) (by
   unfold yiu yaY;rw[zk0 (show 1≤6+a1.2 by omega),zk0 (show 6+a1.2≤20 by omega)];show(((List.replicate (6+a1.2).toNat ([]:List Int)).set 0 _).length:Int)=_
   rw[List.length_set,List.length_replicate]; omega) 18446744073709551616 (by omega)
 have hmn:ydW (ycy a1)=yaY (6+a1.2):=by
  unfold ydW ycy;rw[wr (by omega) (by omega)]
 have h0:inb 0 (yaY (6+a1.2)).1.length=true:=by
  unfold yaY;rw[zk0 (show 1≤6+a1.2 by omega),zk0 (show 6+a1.2≤20 by omega)];show inb 0 (List.replicate (6+a1.2).toNat ([]:List Int)).length=true;rw[List.length_replicate,zj4]; omega
 have outer:yqD (yLY a0 a1 yaB (yB3 a0 a1))=some (.inl (yAw yaB ((List.range a1.1.toNat).foldl (fun a (i:Nat)=>yBY a (yM a0 a1 i)) (yB3 a0 a1)))) :=
  zkB (step:=ycZ) a1.1.toNat (fun i a=>yiY a0 i a1 yaB a) (fun a i=>yBY a (yM a0 a1 i)) (fun i a=>a.2.2.1.length=i) (fun a=> .inl (yAw yaB a)) (fun i a hi ha=>⟨by
   simp only[ycZ,yiY,ypx,zkw (show(i:Int)<a1.1 by omega),cond_true,wq ((i:Int)+1) (by omega) (by omega),Int.natCast_add,Int.natCast_one,zkV,hmn,h0];refine(congrArg (fun z=>zkr z _ _) (inner i a)).trans ?_;simp only[zkL];show(bif zkj a.2.2.1.length [yM a0 a1 i].length 80 then _ else _)=_;rw[zkD.2 (show(a.2.2.1.length+ [yM a0 a1 i].length)*80≤140737488355328 by simp only[List.length_cons,List.length_nil]; omega)];simp only[cond_true];show some (Sum.inl (yiY a0 (i64.wrap ((i:Int)+1)) a1 yaB (yBY a (yM a0 a1 i))))=_
   rw[wq ((i:Int)+1) (by omega) (by omega)],by show(a.2.2.1++ [_]).length=_; rw[List.length_append,ha]; rfl⟩) (fun a ha=>by simp only[ycZ,yiY,ypx,show((a1.1.toNat:Nat):Int)=a1.1 by omega,zk1 (Int.le_refl _),cond_false]) (yB3 a0 a1) rfl 18446744073709551616 (by omega)
 have hdr: ∀(l:List Nat) (a:dA),a.2.2.2.2.2.2.2.2.1= []→(l.foldl (fun a (i:Nat)=>yBY a (yM a0 a1 i)) a).2.2.2.2.2.2.2.2.1= []:=by
  intro l
  induction l with
  | nil=>intro a h; exact h
  | cons x t ih=>intro a h; exact ih _ h
 have h:=hdr (List.range a1.1.toNat) (yB3 a0 a1) rfl;simp only[Bool.not_true,Bool.not_false,cond_true,cond_false,Bool.and_self];refine(congrArg (fun z=>zkr z _ _) outer).trans ?_;generalize (List.range a1.1.toNat).foldl (fun a (i:Nat)=>yBY a (yM a0 a1 i)) (yB3 a0 a1)=R at h;simp only[zkL];show some ((((R.1,R.2.1,R.2.2.1,R.2.2.2.1,R.2.2.2.2.1,R.2.2.2.2.2.1,R.2.2.2.2.2.2.1,R.2.2.2.2.2.2.2.1,[],R.2.2.2.2.2.2.2.2.2):dA),()),())=some ((R,()),());rw[← h]
def yEm:Con:=⟨yqb,yyS,fun x=>(fun n=>some ((n,()),())) (yk5 x.1 x.2.1)⟩
theorem yWo:ConOk prog 115 yEm:=(yTe).mono (fun x r hk h=>(yVz x.1 x.2.1 hk).trans h)
def yZk:Code:=(f116.body).getD .skip
def yZw:Env:=zku TT [(72,yaU)] []
theorem yR9:FrOk prog ⟨yZw,10,fun _=>none⟩ yZk:=zky yg yh ⟨yb4,trivial⟩
abbrev yBC:List Par:= [.pt tU .fz]
abbrev yBW:List OT:= [⟨false,tG,(.pr .fz .fz)⟩]
def yjT (a0:dU):Option (zaY yBW×zak yBC) :=bnd (ym a0 3) fun r1 =>bnd (ym r1.2.1 4) fun r2 =>some ((((i64.wrap (3+r1.1.1)),(i64.wrap (1+r2.1.1))),()),(r2.2.1,()))
theorem yWb:ConOk prog 116 ⟨yBC,yBW,fun x=>yjT x.1⟩:=zkG (yR9) func116 ntmps116.symm fun x=>by kernel_rfl
def yF5:Con:=⟨yBC,yBW,fun x=>yjT x.1⟩
theorem yYX:ConOk prog 116 yF5:=yWb
theorem y2u (u:dU) (h:yco u): ∃(g:dG) (u':dU),yjT u=some ((g,()),(u',()))∧ye g=true∧yco u':=by
 unfold yjT;obtain⟨r1,u1,e1,q1,d1⟩:=ycL u 3 h;obtain⟨r2,u2,e2,q2,d2⟩:=ycL u1 4 d1;simp only[e1,e2,zkF];refine⟨_,_,rfl,?_,d2⟩;have:=q1.2.1 (by omega); have:=q2.2.1 (by omega); have:=q1.1; have:=q2.1;rw[wr (by omega) (by omega),wr (by omega) (by omega)];exact yn.2 ⟨⟨by show 3≤3+r1; omega,by show 3+r1≤5; omega⟩,by show 1≤1+r2; omega,by show 1+r2≤8; omega⟩
end
end Go.Tf
