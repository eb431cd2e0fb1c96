/- Functions of the program, and what they come to. -/
import Derived.Test.YtolmneojjjpnjaaGreatTornF2
namespace Go.Tf
noncomputable section
open Go.Proofs Go.Proofs.Tryz IntKind
set_option synthInstance.maxHeartbeats 400000
set_option synthInstance.maxSize 10000
set_option linter.unusedVariables false
set_option linter.unusedSimpArgs false
set_option maxRecDepth 100000
def yZs:Code:=(f71.body).getD .skip
def yZZ:Env:=zku TT [] []
theorem yPG:FrOk prog ⟨yZZ,15,fun _=>none⟩ yZs:=zky yf yg trivial
abbrev yzo:List Par:= [.rd tYs,.rd tI]
abbrev yzU:List OT:= [⟨false,tI,.fz⟩]
def yGb (a0:List Int) (a1:Int):Option (zaY yzU×zak yzo) :=bif(ltb a1 (i64.wrap (3+(i64.wrap ((a0.length:Int).tdiv 12)))))then some ((a1,()),()) else some (((i64.wrap (3+(i64.wrap ((a0.length:Int).tdiv 12)))),()),())
theorem yUX:ConOk prog 71 ⟨yzo,yzU,fun x=>yGb x.1 x.2.1⟩:=zkG (yPG) func71 ntmps71.symm fun x=>by kernel_rfl
def ya6 (a0:List Int) (a1:Int):Int :=bif(ltb a1 (i64.wrap (3+(i64.wrap ((a0.length:Int).tdiv 12)))))then a1 else (i64.wrap (3+(i64.wrap ((a0.length:Int).tdiv 12))))
def yuj:Con:=⟨yzo,yzU,fun x=>(fun n=>some ((n,()),())) (ya6 x.1 x.2.1)⟩
theorem yXk (a0:List Int) (a1:Int):yGb a0 a1=(fun n=>some ((n,()),())) (ya6 a0 a1):=zkT (p:=fun(n:Int)=>((n,()),())) (zkE (p:=fun(n:Int)=>((n,()),())) rfl rfl)
theorem yHx:ConOk prog 71 yuj:=(yUX).mono (fun x r _ h=>(yXk x.1 x.2.1).trans h)
theorem y2s (l:List Int) (n:Int) (hn:0≤n) (hl:l.length≤140737488355328):0≤ya6 l n∧ya6 l n≤n:=by
 unfold ya6;have h1:0≤(l.length:Int).tdiv 12:=Int.tdiv_nonneg (by omega) (by omega)
 have h2:(l.length:Int).tdiv 12≤(l.length:Int):=by
  rw[Int.tdiv_eq_ediv_of_nonneg (by omega)];exact Int.ediv_le_self _ (by omega)
 rw[wq ((l.length:Int).tdiv 12) (by omega) (by omega),wq (3+(l.length:Int).tdiv 12) (by omega) (by omega)];by_cases h:n<3+(l.length:Int).tdiv 12
 ·rw[zkw h]; exact⟨hn,Int.le_refl _⟩
 ·rw[zk1 (by omega),cond_false]; omega
def yZu:Code:=(f178.body).getD .skip
def yZ1:Env:=zku TT [] []
theorem yPR:FrOk prog ⟨yZ1,6,fun _=>none⟩ yZu:=zky yf yg trivial
abbrev yzr:List Par:= [.rd tG]
abbrev yzY:List OT:= [⟨false,tI,.fz⟩]
def yGd (a0:dG):Option (zaY yzY×zak yzr) :=some (((i64.wrap (6+a0.2)),()),())
theorem yU3:ConOk prog 178 ⟨yzr,yzY,fun x=>yGd x.1⟩:=zkG (yPR) func178 ntmps178.symm fun x=>by kernel_rfl
def ycI (a0:dG):Int :=(i64.wrap (6+a0.2))
def ymY:Con:=⟨yzr,yzY,fun x=>(fun n=>some ((n,()),())) (ycI x.1)⟩
theorem yXp (a0:dG):yGd a0=(fun n=>some ((n,()),())) (ycI a0):=zkT (p:=fun(n:Int)=>((n,()),())) rfl
theorem yw2:ConOk prog 178 ymY:=(yU3).mono (fun x r _ h=>(yXp x.1).trans h)
def yqI:Code:=(f151.body).getD .skip
def yy4:Env:=zku TT [(160,ygA),(178,ymY)] []
theorem yPP:FrOk prog ⟨yy4,51,fun _=>none⟩ yqI:=zky yf yg ⟨ylK,yw2,trivial⟩
def yEX:Nat→Option Seg:=fun _=>none
def ycT:Shape:=⟨[(1,false,[.ptr 0 0]),(3,false,[.int .i64])],[(0,[.int .i64,.int .i64,.int .i64,.br tM,.int .i64,.int .i64,.int .i64,.int .i64,.int .i64,.br tW,.int .i64,.bool,.bool])],[]⟩
def yg8:Shape:=⟨[(1,false,[.ptr 0 0]),(3,false,[.ci .i64 0])],[(0,[.int .i64,.int .i64,.int .i64,.br tM,.int .i64,.int .i64,.int .i64,.int .i64,.int .i64,.br tW,.int .i64,.bool,.bool])],[]⟩
def ygX:Shape:=⟨[(1,false,[.ptr 0 0])],[(0,[.int .i64,.int .i64,.int .i64,.br tM,.int .i64,.int .i64,.int .i64,.int .i64,.int .i64,.br tW,.int .i64,.bool,.bool])],[]⟩
def yhd:Shape:=⟨[(2,false,[.bool])],[],[]⟩
abbrev ypK (v0:Int) (v1:dA):(ycT).X:=((((),()),(v0,()),()),((v1.1,v1.2.1.1,v1.2.1.2,v1.2.2.1,v1.2.2.2.1,v1.2.2.2.2.1,v1.2.2.2.2.2.1,v1.2.2.2.2.2.2.1,v1.2.2.2.2.2.2.2.1,v1.2.2.2.2.2.2.2.2.1,v1.2.2.2.2.2.2.2.2.2.1,v1.2.2.2.2.2.2.2.2.2.2.1,v1.2.2.2.2.2.2.2.2.2.2.2,()),()),())
abbrev yNm (v0:dA):(yg8).X:=((((),()),((),()),()),((v0.1,v0.2.1.1,v0.2.1.2,v0.2.2.1,v0.2.2.2.1,v0.2.2.2.2.1,v0.2.2.2.2.2.1,v0.2.2.2.2.2.2.1,v0.2.2.2.2.2.2.2.1,v0.2.2.2.2.2.2.2.2.1,v0.2.2.2.2.2.2.2.2.2.1,v0.2.2.2.2.2.2.2.2.2.2.1,v0.2.2.2.2.2.2.2.2.2.2.2,()),()),())
abbrev yNd (v0:dA):(ygX).X:=((((),()),()),((v0.1,v0.2.1.1,v0.2.1.2,v0.2.2.1,v0.2.2.2.1,v0.2.2.2.2.1,v0.2.2.2.2.2.1,v0.2.2.2.2.2.2.1,v0.2.2.2.2.2.2.2.1,v0.2.2.2.2.2.2.2.2.1,v0.2.2.2.2.2.2.2.2.2.1,v0.2.2.2.2.2.2.2.2.2.2.1,v0.2.2.2.2.2.2.2.2.2.2.2,()),()),())
abbrev yNq (v0:Bool):(yhd).X:=(((v0,()),()),(),())
def yqi (v0 v1 v2 v3:Int) (v4:List dM) (v5 v6 v7 v8 v9:Int) (v10:List dW) (v11:Int) (v12 v13:Bool):Option ((ycT).X ⊕ ((ygX).X ⊕ (yhd).X)) :=bif(ltb v0 (v4.length:Int))then bif(inb v0 v4.length)then let r3:=yaO ((nth v4 v0 ([],[],false,[])).1,((nth v4 v0 ([],[],false,[])).2).1,(((nth v4 v0 ([],[],false,[])).2).2));bif(!(!r3))then let r4:=ycI (v2,v3);bif(!((((nth v4 v0 ([],[],false,[])).1).length:Int) !=r4))then bif(((nth v4 v0 ([],[],false,[])).2).2).1 then bif(v0 !=v5)then bif(!v13)then some (.inr (.inr (((false,()),()),(),()))) else some (.inl ((((),()),((i64.wrap (v0+1)),()),()),((v1,v2,v3,v4,v5,v6,v7,v8,v9,v10,v11,v12,v13,()),()),())) else some (.inl ((((),()),((i64.wrap (v0+1)),()),()),((v1,v2,v3,v4,v5,v6,v7,v8,v9,v10,v11,v12,v13,()),()),())) else some (.inl ((((),()),((i64.wrap (v0+1)),()),()),((v1,v2,v3,v4,v5,v6,v7,v8,v9,v10,v11,v12,v13,()),()),())) else some (.inr (.inr (((false,()),()),(),()))) else some (.inr (.inr (((false,()),()),(),()))) else none else some (.inr (.inl ((((),()),()),((v1,v2,v3,v4,v5,v6,v7,v8,v9,v10,v11,v12,v13,()),()),())))
def ydg (x:(ycT).X):=yqi x.1.2.1.1 x.2.1.1.1 x.2.1.1.2.1 x.2.1.1.2.2.1 x.2.1.1.2.2.2.1 x.2.1.1.2.2.2.2.1 x.2.1.1.2.2.2.2.2.1 x.2.1.1.2.2.2.2.2.2.1 x.2.1.1.2.2.2.2.2.2.2.1 x.2.1.1.2.2.2.2.2.2.2.2.1 x.2.1.1.2.2.2.2.2.2.2.2.2.1 x.2.1.1.2.2.2.2.2.2.2.2.2.2.1 x.2.1.1.2.2.2.2.2.2.2.2.2.2.2.1 x.2.1.1.2.2.2.2.2.2.2.2.2.2.2.2.1
def yBa (x:(yg8).X):(ycT).X:=((((),()),(0,()),()),((x.2.1.1.1,x.2.1.1.2.1,x.2.1.1.2.2.1,x.2.1.1.2.2.2.1,x.2.1.1.2.2.2.2.1,x.2.1.1.2.2.2.2.2.1,x.2.1.1.2.2.2.2.2.2.1,x.2.1.1.2.2.2.2.2.2.2.1,x.2.1.1.2.2.2.2.2.2.2.2.1,x.2.1.1.2.2.2.2.2.2.2.2.2.1,x.2.1.1.2.2.2.2.2.2.2.2.2.2.1,x.2.1.1.2.2.2.2.2.2.2.2.2.2.2.1,x.2.1.1.2.2.2.2.2.2.2.2.2.2.2.2.1,()),()),())
def yDc:Code:=(zeJ yqI 64 52).getD .skip
theorem yOZ:zeJ yqI 64 13=some (.block 0 (.loop yDc)):=by kernel_rfl
theorem yRT (x:(ycT).X):zhu ⟨yy4,51,yEX⟩ 0 yDc 52 ycT ygX yhd x=ydg x:=by kernel_rfl
def yBl (x:(yg8).X):Nat:=18446744073709551616
def yrq (x:(yg8).X):Option ((ygX).X ⊕ (yhd).X):=zF ydg (yBl x) (yBa x)
def yBK:Seg:=⟨yg8,ygX,yhd,yrq⟩
def ySr:Nat→Option Seg:=fun q=>bif Nat.beq q 13 then some yBK else yEX q
theorem yPQ:FrOk prog ⟨yy4,51,ySr⟩ yqI:=(yPP).loop (sg:=yBK) ycT yBa (by decide) yOZ ydg yBl (by decide) (fun _=>rfl) (fun x r _ h=>h) yRT
abbrev ylo:List Par:= [.rd tA]
abbrev yq4:List OT:= [⟨false,tB,.fz⟩]
def yu8 (a0:dA):Option (zaY yq4×zak ylo) :=zkr (yrq ((((),()),((),()),()),((a0.1,a0.2.1.1,a0.2.1.2,a0.2.2.1,a0.2.2.2.1,a0.2.2.2.2.1,a0.2.2.2.2.2.1,a0.2.2.2.2.2.2.1,a0.2.2.2.2.2.2.2.1,a0.2.2.2.2.2.2.2.2.1,a0.2.2.2.2.2.2.2.2.2.1,a0.2.2.2.2.2.2.2.2.2.2.1,a0.2.2.2.2.2.2.2.2.2.2.2,()),()),())) (fun y4 =>some ((((y4.2.1.1.2.2.2.1.length:Int)==y4.2.1.1.2.1),()),())) (fun y4 =>some ((y4.1.1.1,()),()))
theorem yU2:ConOk prog 151 ⟨ylo,yq4,fun x=>yu8 x.1⟩:=zkG (yPQ) func151 ntmps151.symm fun x=>by kernel_rfl
def ylF (a0:dA):Bool:=ylu a0
def yAg (a0:dA):Bool:=yd a0.2.1
theorem yXo (a0:dA) (hk:zjw ylo (a0,())) (hq:yAg a0=true):yu8 a0=(fun n=>some ((n,()),())) (ylF a0):=by
 have hb:a0.2.2.1.length*80≤2^47:=hk.1.2.2.1.1;have hg:=yl.1 hq
 have h1:yrq (yNm a0)=some (bif(List.range a0.2.2.1.length).any (yhg a0)then .inr (yNq false)else .inl (yNd a0)) :=
  zjh (step:=ydg) (fun i=>ypK i a0) a0.2.2.1.length (yhg a0) _ _ (fun i hi=>by
   simp only[ydg,ypK,yqi,zkw (show(i:Int)<a0.2.2.1.length by omega),cond_true,wq ((i:Int)+1) (by omega) (by omega),Int.natCast_add,Int.natCast_one,Int.toNat_natCast,zkP hi,zkV,yaO,yhg,ycI,wq (6+a0.2.1.2) (by omega) (by omega),yc]
   cases yw (nth a0.2.2.1 i ([],[],false,[]))<;>cases(((nth a0.2.2.1 i ([],[],false,[])).1.length:Int) !=6+a0.2.1.2)<;>cases(nth a0.2.2.1 i ([],[],false,[])).2.2.1<;>cases((i:Int) !=a0.2.2.2.1)<;>cases a0.2.2.2.2.2.2.2.2.2.2.2<;>rfl) (by simp only[ydg,ypK,yqi,zk1 (Int.le_refl _),cond_false]) _ (by show _<18446744073709551616; omega)
 unfold yu8 ylF ylu;rw[h1];cases(List.range a0.2.2.1.length).any (yhg a0)<;>rfl
def yrb (a0:dA):Option (zaY yq4×zak ylo):=bif yAg a0 then(fun n=>some ((n,()),())) (ylF a0)else none
theorem yYg (a0:dA) (h:yAg a0=true):yrb a0=(fun n=>some ((n,()),())) (ylF a0):=by unfold yrb; rw[h]; rfl
def yFz:Con:=⟨ylo,yq4,fun x=>yrb x.1⟩
theorem yYa:ConOk prog 151 yFz:=(yU2).mono (fun x r hk h=>zkW h (fun hq=>yXo x.1 hk hq))
def y0U:Code:=(f78.body).getD .skip
def y05:Env:=zku TT [(82,yM),(150,ygz),(151,yFz),(152,yDt)] []
theorem yTp:FrOk prog ⟨y05,78,fun _=>none⟩ y0U:=zky yf yg ⟨yX,ylJ,yYa,yVp,trivial⟩
abbrev yts:List Par:= [.rd tA]
abbrev yCM:List OT:= [⟨false,tB,.fz⟩]
def yxf (a0:dA):Option (zaY yCM×zak yts) :=let r1:=yd a0.2.1;bif(!(!r1))then let r2:=yb a0.1 1 60000;bif(!(!r2))then bnd (yrb a0) fun r3 =>bif(!(!r3.1.1))then bnd (yo4 a0) fun r4 =>bif(!r4.1.1)then some ((false,()),()) else let r5:=yb a0.2.2.2.1 (-1) (i64.wrap (a0.2.1.1-1));bif(!(!r5))then let r6:=yb a0.2.2.2.2.1 0 a0.2.1.2;bif(!(!r6))then bif(a0.2.2.2.1==(-1))then bif(a0.2.2.2.2.1 !=0)then some ((false,()),()) else let r7:=yb a0.2.2.2.2.2.2.1 0 60000;bif r7 then let r8:=yb a0.2.2.2.2.2.1 a0.2.2.2.2.2.2.1 60000;bif r8 then bif(leb a0.2.2.2.2.2.1 (i64.wrap (a0.2.2.2.2.2.2.1+4)))then let r9:=yb a0.2.2.2.2.2.2.2.1 0 60000;bif r9 then let r10:=yb a0.2.2.2.2.2.2.2.2.2.1 (-1) 1000;some ((r10,()),()) else some ((false,()),()) else some ((false,()),()) else some ((false,()),()) else some ((false,()),()) else let r11:=yb a0.2.2.2.2.2.2.1 0 60000;bif r11 then let r12:=yb a0.2.2.2.2.2.1 a0.2.2.2.2.2.2.1 60000;bif r12 then bif(leb a0.2.2.2.2.2.1 (i64.wrap (a0.2.2.2.2.2.2.1+4)))then let r13:=yb a0.2.2.2.2.2.2.2.1 0 60000;bif r13 then let r14:=yb a0.2.2.2.2.2.2.2.2.2.1 (-1) 1000;some ((r14,()),()) else some ((false,()),()) else some ((false,()),()) else some ((false,()),()) else some ((false,()),()) else some ((false,()),()) else some ((false,()),()) else some ((false,()),()) else some ((false,()),()) else some ((false,()),())
theorem yXE:ConOk prog 78 ⟨yts,yCM,fun x=>yxf x.1⟩:=zkG (yTp) func78 ntmps78.symm fun x=>by kernel_rfl
def yff (a0:dA):Bool:=yal a0
theorem y0g (a0:dA) (hk:zjw yts (a0,())):yxf a0=(fun n=>some ((n,()),())) (yff a0):=by
 unfold yxf yff yal;simp only[ybM];cases hg:yd a0.2.1
 ·rfl
 have hg2:=yl.1 hg;rw[yYg a0 hg,yVw a0 hg,wq (a0.2.1.1-1) (by omega) (by omega)];simp only[zkF,ylF,ykh,Bool.not_not,cond_true];cases(leb 1 a0.1&&leb a0.1 60000)
 ·rfl
 cases ylu a0
 ·rfl
 cases yaT a0.2.1 a0.2.2.2.2.2.2.2.2.1
 ·rfl
 cases(leb (-1) a0.2.2.2.1&&leb a0.2.2.2.1 (a0.2.1.1-1))
 ·rfl
 cases(leb 0 a0.2.2.2.2.1&&leb a0.2.2.2.2.1 a0.2.1.2)
 ·rfl
 have ht:(leb 0 a0.2.2.2.2.2.2.1&&leb a0.2.2.2.2.2.2.1 60000)=true→i64.wrap (a0.2.2.2.2.2.2.1+4)=a0.2.2.2.2.2.2.1+4:=fun h=>by
  rw[Bool.and_eq_true,zj5,zj5]at h;exact wr (by omega) (by omega)
 cases hT:(leb 0 a0.2.2.2.2.2.2.1&&leb a0.2.2.2.2.2.2.1 60000)
 ·cases(a0.2.2.2.1== -1)<;>cases(a0.2.2.2.2.1 !=0)<;>rfl
 rw[ht hT];cases(leb a0.2.2.2.2.2.2.1 a0.2.2.2.2.2.1&&leb a0.2.2.2.2.2.1 60000)
 ·cases(a0.2.2.2.1== -1)<;>cases(a0.2.2.2.2.1 !=0)<;>rfl
 cases leb a0.2.2.2.2.2.1 (a0.2.2.2.2.2.2.1+4)
 ·cases(a0.2.2.2.1== -1)<;>cases(a0.2.2.2.2.1 !=0)<;>rfl
 cases(leb 0 a0.2.2.2.2.2.2.2.1&&leb a0.2.2.2.2.2.2.2.1 60000)<;>cases(a0.2.2.2.1== -1)<;>cases(a0.2.2.2.2.1 !=0)<;>rfl
def yG4:Con:=⟨yts,yCM,fun x=>(fun n=>some ((n,()),())) (yff x.1)⟩
theorem y0A:ConOk prog 78 yG4:=(yXE).mono (fun x r hk h=>(y0g x.1 hk).trans h)
def yZj:Code:=(f119.body).getD .skip
def yZQ:Env:=zku TT [(150,ygz)] []
theorem yPv:FrOk prog ⟨yZQ,12,fun _=>none⟩ yZj:=zky yf yg ⟨ylJ,trivial⟩
abbrev yzi:List Par:= [.rd tG]
abbrev yzK:List OT:= [⟨false,tI,.fz⟩]
def yF8 (a0:dG):Option (zaY yzK×zak yzi) :=let r1:=yd a0;bif(!r1)then some ((0,()),()) else some (((i64.wrap (a0.2*(i64.wrap (a0.1-1)))),()),())
theorem yUN:ConOk prog 119 ⟨yzi,yzK,fun x=>yF8 x.1⟩:=zkG (yPv) func119 ntmps119.symm fun x=>by kernel_rfl
def yq (a0:dG):Int :=let r1:=yd a0;bif(!r1)then 0 else (i64.wrap (a0.2*(i64.wrap (a0.1-1))))
def ymX:Con:=⟨yzi,yzK,fun x=>(fun n=>some ((n,()),())) (yq x.1)⟩
theorem yXd (a0:dG):yF8 a0=(fun n=>some ((n,()),())) (yq a0):=zkT (p:=fun(n:Int)=>((n,()),())) (zkE (p:=fun(n:Int)=>((n,()),())) rfl rfl)
theorem yw1:ConOk prog 119 ymX:=(yUN).mono (fun x r _ h=>(yXd x.1).trans h)
theorem yxs (a:Int×Int):0≤yq a∧yq a≤32:=by
 unfold yq;cases h:yd a
 ·simp
 ·obtain⟨⟨h1,h2⟩,h3,h4⟩:=yl.1 h
  have h5:0≤a.2*(a.1-1):=Int.mul_nonneg (by omega) (by omega);have h6:a.2*(a.1-1)≤8*4:=Int.mul_le_mul h4 (by omega) (by omega) (by omega);simp only[Bool.not_true,cond_false,wq (a.1-1) (by omega) (by omega),wq (a.2*(a.1-1)) (by omega) (by omega)];omega
theorem yxr {a:Int×Int} (h:yd a=true):yq a=a.2*(a.1-1):=by
 unfold yq;obtain⟨⟨h1,h2⟩,h3,h4⟩:=yl.1 h;have h5:0≤a.2*(a.1-1):=Int.mul_nonneg (by omega) (by omega);have h6:a.2*(a.1-1)≤8*4:=Int.mul_le_mul h4 (by omega) (by omega) (by omega);simp only[h,Bool.not_true,cond_false,wq (a.1-1) (by omega) (by omega),wq (a.2*(a.1-1)) (by omega) (by omega)]
def yam (l:List dW) (s:Int):Int:=yaj (fun e:dW=>e.1==s) l
def yeP (g:dG) (b:Int):Bool:=leb 0 b&&leb b (yq g-1)
def yY (g:dG) (b:Int):Int:=bif yeP g b then b.tdiv (g.1-1)else -1
def ybN (g:dG) (b:Int):Int:=bif yeP g b then b.tmod (g.1-1)else -1
theorem yns {g:dG} {b:Int} (h:yeP g b=true):yd g=true∧(0≤b.tdiv (g.1-1)∧b.tdiv (g.1-1)≤g.2-1)∧(0≤b.tmod (g.1-1)∧b.tmod (g.1-1)≤g.1-2):=by
 simp only[yeP,Bool.and_eq_true,zj5]at h;cases hg:yd g
 ·have:yq g=0:=by unfold yq; rw[hg]; rfl
  omega
 ·rw[yxr hg]at h
  have h2:=yl.1 hg;rw[Int.tdiv_eq_ediv_of_nonneg h.1,Int.tmod_eq_emod_of_nonneg h.1];have h3:=Int.ediv_lt_of_lt_mul (show 0<g.1-1 by omega) (show b<g.2*(g.1-1)by omega);have h4:=Int.ediv_nonneg h.1 (show 0≤g.1-1 by omega);have h5:=Int.emod_nonneg b (show g.1-1≠0 by omega);have h6:=Int.emod_lt_of_pos b (show 0<g.1-1 by omega);exact⟨rfl,⟨h4,by omega⟩,h5,by omega⟩
theorem yGF {g:dG} {b:Int} (h:yeP g b=true):yL g (yY g b)=true:=by
 obtain⟨h1,h2,_⟩:=yns h;unfold yY;rw[h,cond_true,yV];exact⟨h1,h2⟩
def ybI (a:dA) (s:Int):List Int×Bool:=bif leb 0 (yam a.2.2.2.2.2.2.2.2.1 s)then((nth a.2.2.2.2.2.2.2.2.1 (yam a.2.2.2.2.2.2.2.2.1 s) (0,[])).2,true)else bif a.2.2.2.2.2.2.2.2.2.2.2 then([],false)else yq6 a s
theorem y4j {a:dA} (h:yal a=true) {i:Nat} (hi:i<a.2.2.2.2.2.2.2.2.1.length):(0≤(nth a.2.2.2.2.2.2.2.2.1 i (0,[])).1∧(nth a.2.2.2.2.2.2.2.2.1 i (0,[])).1≤a.2.1.2-1)∧((nth a.2.2.2.2.2.2.2.2.1 i (0,[])).2.length:Int)=a.2.1.1-1∧(nth a.2.2.2.2.2.2.2.2.1 i (0,[])).2.all isW=true∧(0<i→(nth a.2.2.2.2.2.2.2.2.1 ((i-1:Nat):Int) (0,[])).1<(nth a.2.2.2.2.2.2.2.2.1 i (0,[])).1):=by
 have h1:yaT a.2.1 a.2.2.2.2.2.2.2.2.1=true:=by simp only[yal,Bool.and_eq_true]at h; exact h.2.2.2.1
 simp only[yaT,Bool.not_eq_true',List.any_eq_false,List.mem_range]at h1;have h2:=h1 i hi;simp only[yhI,Bool.not_eq_true,Bool.or_eq_false_iff,Bool.not_eq_false',bne_eq_false_iff_eq,Bool.and_eq_true,Bool.and_eq_false_iff,decide_eq_false_iff_not,zj5]at h2;refine⟨h2.1,h2.2.1,h2.2.2.1,fun h0=> ?_⟩;rcases h2.2.2.2 with h3 | h3
 ·exact absurd h0 h3
 ·have:=mt zk0 (by rw[h3]; simp: ¬leb (nth a.2.2.2.2.2.2.2.2.1 i (0,[])).1 (nth a.2.2.2.2.2.2.2.2.1 ((i-1:Nat):Int) (0,[])).1=true)
  omega
theorem yAl {a:dA} {s:Int} (h:yal a=true) (hs:yL a.2.1 s=true) (h2:(ybI a s).2=true):((ybI a s).1.length:Int)=a.2.1.1-1:=by
 have hg:=yl.1 (yiK h);unfold ybI at h2 ⊢;cases hk:leb 0 (yam a.2.2.2.2.2.2.2.2.1 s)
 ·rw[hk]at h2
  simp only[cond_false]at h2 ⊢;cases hb:a.2.2.2.2.2.2.2.2.2.2.2
  ·rw[hb]at h2
   simp only[cond_false]at h2 ⊢;unfold yq6 at h2 ⊢;cases hw:(yS a s).2
   ·rw[hw]at h2; cases h2
   ·simp only[cond_true,List.length_map,List.length_range]; omega
  ·rw[hb]at h2; cases h2
 ·have h3:=zj4.1 (ynz (d:=((0,[]):dW)) hk).1
  have:=(y4j h (i:=(yam a.2.2.2.2.2.2.2.2.1 s).toNat) (by unfold yam; omega)).2.1;rw[show(((yam a.2.2.2.2.2.2.2.2.1 s).toNat:Nat):Int)=yam a.2.2.2.2.2.2.2.2.1 s by have:=zj5.1 hk; omega]at this;exact this
theorem y1e (g:dG) (b:Int):yb b 0 (i64.wrap (yq g-1))=yeP g b:=by
 have:=yxs g;rw[wr (by omega) (by omega),ybM]; rfl
def ySe:Code:=(f180.body).getD .skip
def ySI:Env:=zku TT [(82,yM),(119,ymX)] []
theorem yKt:FrOk prog ⟨ySI,16,fun _=>none⟩ ySe:=zky yf yg ⟨yX,yw1,trivial⟩
abbrev ymE:List Par:= [.rd tG,.rd tI]
abbrev ytU:List OT:= [⟨false,tI,.fz⟩]
def yp5 (a0:dG) (a1:Int):Option (zaY ytU×zak ymE) :=let r1:=yq a0;let r2:=yb a1 0 (i64.wrap (r1-1));bif(!r2)then some (((-1),()),()) else bif((i64.wrap (a0.1-1)) !=0)then some (((i64.wrap (a1.tdiv (i64.wrap (a0.1-1)))),()),()) else none
theorem yNR:ConOk prog 180 ⟨ymE,ytU,fun x=>yp5 x.1 x.2.1⟩:=zkG (yKt) func180 ntmps180.symm fun x=>by kernel_rfl
def yiZ (a0:dG) (a1:Int):Int:=yY a0 a1
theorem yQR (a0:dG) (a1:Int) (hk:zjw ymE (a0,a1,())):yp5 a0 a1=(fun n=>some ((n,()),())) (yiZ a0 a1):=by
 unfold yp5 yiZ yY;simp only[y1e];cases hb:yeP a0 a1
 ·rfl
 ·obtain⟨h1,h2,h3⟩:=yns hb
  have h4:=yl.1 h1;rw[wq (a0.1-1) (by omega) (by omega),show(a0.1-1 !=0)=true from bne_iff_ne.2 (by omega),wr (by omega) (by omega)]; rfl
def yAW:Con:=⟨ymE,ytU,fun x=>(fun n=>some ((n,()),())) (yiZ x.1 x.2.1)⟩
theorem yRB:ConOk prog 180 yAW:=(yNR).mono (fun x r hk h=>(yQR x.1 x.2.1 hk).trans h)
def yxy:Code:=(f215.body).getD .skip
def yGl:Env:=zku TT [] []
theorem yWO:FrOk prog ⟨yGl,22,fun _=>none⟩ yxy:=zky yf yg trivial
def yID:Nat→Option Seg:=fun _=>none
def yex:Shape:=⟨[(1,false,[.int .i64]),(2,false,[.ptr 0 0]),(5,false,[.int .i64])],[(0,[.int .i64,.int .i64,.int .i64,.br tM,.int .i64,.int .i64,.int .i64,.int .i64,.int .i64,.br tW,.int .i64,.bool,.bool])],[]⟩
def yjY:Shape:=⟨[(1,false,[.int .i64]),(2,false,[.ptr 0 0]),(5,false,[.ci .i64 0])],[(0,[.int .i64,.int .i64,.int .i64,.br tM,.int .i64,.int .i64,.int .i64,.int .i64,.int .i64,.br tW,.int .i64,.bool,.bool])],[]⟩
def yjU:Shape:=⟨[],[],[]⟩
def yj2:Shape:=⟨[(4,false,[.int .i64])],[],[]⟩
abbrev yuH (v0 v1:Int) (v2:dA):(yex).X:=(((v0,()),((),()),(v1,()),()),((v2.1,v2.2.1.1,v2.2.1.2,v2.2.2.1,v2.2.2.2.1,v2.2.2.2.2.1,v2.2.2.2.2.2.1,v2.2.2.2.2.2.2.1,v2.2.2.2.2.2.2.2.1,v2.2.2.2.2.2.2.2.2.1,v2.2.2.2.2.2.2.2.2.2.1,v2.2.2.2.2.2.2.2.2.2.2.1,v2.2.2.2.2.2.2.2.2.2.2.2,()),()),())
abbrev yT1 (v0:Int) (v1:dA):(yjY).X:=(((v0,()),((),()),((),()),()),((v1.1,v1.2.1.1,v1.2.1.2,v1.2.2.1,v1.2.2.2.1,v1.2.2.2.2.1,v1.2.2.2.2.2.1,v1.2.2.2.2.2.2.1,v1.2.2.2.2.2.2.2.1,v1.2.2.2.2.2.2.2.2.1,v1.2.2.2.2.2.2.2.2.2.1,v1.2.2.2.2.2.2.2.2.2.2.1,v1.2.2.2.2.2.2.2.2.2.2.2,()),()),())
abbrev yTX  :(yjU).X:=((),(),())
abbrev yFR (v0:Int):(yj2).X:=(((v0,()),()),(),())
def yvm (v0 v1 v2 v3 v4:Int) (v5:List dM) (v6 v7 v8 v9 v10:Int) (v11:List dW) (v12:Int) (v13 v14:Bool):Option ((yex).X ⊕ ((yjU).X ⊕ (yj2).X)) :=bif(ltb v1 (v11.length:Int))then bif(inb v1 v11.length)then bif((nth v11 v1 (0,[])).1==v0)then some (.inr (.inr (((v1,()),()),(),()))) else some (.inl (((v0,()),((),()),((i64.wrap (v1+1)),()),()),((v2,v3,v4,v5,v6,v7,v8,v9,v10,v11,v12,v13,v14,()),()),())) else none else some (.inr (.inl ((),(),())))
def yeL (x:(yex).X):=yvm x.1.1.1 x.1.2.2.1.1 x.2.1.1.1 x.2.1.1.2.1 x.2.1.1.2.2.1 x.2.1.1.2.2.2.1 x.2.1.1.2.2.2.2.1 x.2.1.1.2.2.2.2.2.1 x.2.1.1.2.2.2.2.2.2.1 x.2.1.1.2.2.2.2.2.2.2.1 x.2.1.1.2.2.2.2.2.2.2.2.1 x.2.1.1.2.2.2.2.2.2.2.2.2.1 x.2.1.1.2.2.2.2.2.2.2.2.2.2.1 x.2.1.1.2.2.2.2.2.2.2.2.2.2.2.1 x.2.1.1.2.2.2.2.2.2.2.2.2.2.2.2.1
def yFG (x:(yjY).X):(yex).X:=(((x.1.1.1,()),((),()),(0,()),()),((x.2.1.1.1,x.2.1.1.2.1,x.2.1.1.2.2.1,x.2.1.1.2.2.2.1,x.2.1.1.2.2.2.2.1,x.2.1.1.2.2.2.2.2.1,x.2.1.1.2.2.2.2.2.2.1,x.2.1.1.2.2.2.2.2.2.2.1,x.2.1.1.2.2.2.2.2.2.2.2.1,x.2.1.1.2.2.2.2.2.2.2.2.2.1,x.2.1.1.2.2.2.2.2.2.2.2.2.2.1,x.2.1.1.2.2.2.2.2.2.2.2.2.2.2.1,x.2.1.1.2.2.2.2.2.2.2.2.2.2.2.2.1,()),()),())
def yG1:Code:=(zeJ yxy 64 52).getD .skip
theorem yWD:zeJ yxy 64 13=some (.block 0 (.loop yG1)):=by kernel_rfl
theorem yYl (x:(yex).X):zhu ⟨yGl,22,yID⟩ 0 yG1 52 yex yjU yj2 x=yeL x:=by kernel_rfl
def yFK (x:(yjY).X):Nat:=18446744073709551616
def ywl (x:(yjY).X):Option ((yjU).X ⊕ (yj2).X):=zF yeL (yFK x) (yFG x)
def yGi:Seg:=⟨yjY,yjU,yj2,ywl⟩
def yZA:Nat→Option Seg:=fun q=>bif Nat.beq q 13 then some yGi else yID q
theorem yWP:FrOk prog ⟨yGl,22,yZA⟩ yxy:=(yWO).loop (sg:=yGi) yex yFG (by decide) yWD yeL yFK (by decide) (fun _=>rfl) (fun x r _ h=>h) yYl
abbrev yxB:List Par:= [.rd tA,.rd tI]
abbrev yGs:List OT:= [⟨false,tI,.fz⟩]
def yAk (a0:dA) (a1:Int):Option (zaY yGs×zak yxB) :=zkr (ywl (((a1,()),((),()),((),()),()),((a0.1,a0.2.1.1,a0.2.1.2,a0.2.2.1,a0.2.2.2.1,a0.2.2.2.2.1,a0.2.2.2.2.2.1,a0.2.2.2.2.2.2.1,a0.2.2.2.2.2.2.2.1,a0.2.2.2.2.2.2.2.2.1,a0.2.2.2.2.2.2.2.2.2.1,a0.2.2.2.2.2.2.2.2.2.2.1,a0.2.2.2.2.2.2.2.2.2.2.2,()),()),())) (fun y0 =>some (((-1),()),())) (fun y0 =>some ((y0.1.1.1,()),()))
theorem y0x:ConOk prog 215 ⟨yxB,yGs,fun x=>yAk x.1 x.2.1⟩:=zkG (yWP) func215 ntmps215.symm fun x=>by kernel_rfl
def yje (a0:dA) (a1:Int):Int:=yam a0.2.2.2.2.2.2.2.2.1 a1
theorem y1H (a0:dA) (a1:Int) (hk:zjw yxB (a0,a1,())):yAk a0 a1=(fun n=>some ((n,()),())) (yje a0 a1):=by
 have hb:a0.2.2.2.2.2.2.2.2.1.length*32≤2^47:=hk.1.2.2.2.2.2.2.2.2.1.1
 have h1:ywl (yT1 a1 a0)=some (bif leb 0 (yam a0.2.2.2.2.2.2.2.2.1 a1)then .inr (yFR (yam a0.2.2.2.2.2.2.2.2.1 a1))else .inl yTX) :=
  yKE (step:=yeL) a0.2.2.2.2.2.2.2.2.1 (0,[]) (fun i=>yuH a1 i a0) (fun e:dW=>e.1==a1) (fun i=> .inr (yFR i)) _ (fun i hi=>by
   simp only[yeL,yuH,yvm,zkw (show(i:Int)<a0.2.2.2.2.2.2.2.2.1.length by omega),cond_true,wq ((i:Int)+1) (by omega) (by omega),Int.natCast_add,Int.natCast_one,Int.toNat_natCast,zkP hi,zkQ]
   cases((a0.2.2.2.2.2.2.2.2.1.getD i (0,[])).1==a1)<;>rfl) (by simp only[yeL,yuH,yvm,zk1 (Int.le_refl _),cond_false]) _ (by show _<18446744073709551616; omega)
 unfold yAk yje;rw[h1];cases h:leb 0 (yam a0.2.2.2.2.2.2.2.2.1 a1)
 ·rw[show yam a0.2.2.2.2.2.2.2.2.1 a1= -1 from yWQ h]; rfl
 ·rfl
def yz5:Con:=⟨yxB,yGs,fun x=>(fun n=>some ((n,()),())) (yje x.1 x.2.1)⟩
theorem yLl:ConOk prog 215 yz5:=(y0x).mono (fun x r hk h=>(y1H x.1 x.2.1 hk).trans h)
def ysP:Code:=(f161.body).getD .skip
def yCr:Env:=zku TT [] []
theorem yTC:FrOk prog ⟨yCr,18,fun _=>none⟩ ysP:=zky yf yg trivial
def yGP:Nat→Option Seg:=fun _=>none
def ydu:Shape:=⟨[(0,false,[.br tI]),(1,false,[.int .i64]),(5,false,[.int .i64])],[],[]⟩
def yir:Shape:=⟨[(0,false,[.br tI]),(1,false,[.int .i64]),(5,false,[.ci .i64 0])],[],[]⟩
def yid:Shape:=⟨[],[],[]⟩
def yiI:Shape:=⟨[(4,false,[.bool])],[],[]⟩
abbrev yrM (v0:List Int) (v1 v2:Int):(ydu).X:=(((v0,()),(v1,()),(v2,()),()),(),())
abbrev yQl (v0:List Int) (v1:Int):(yir).X:=(((v0,()),(v1,()),((),()),()),(),())
abbrev yQa  :(yid).X:=((),(),())
abbrev yQx (v0:Bool):(yiI).X:=(((v0,()),()),(),())
def ysl (v0:List Int) (v1 v2:Int):Option ((ydu).X ⊕ ((yid).X ⊕ (yiI).X)) :=bif(ltb v2 (v0.length:Int))then bif(inb v2 v0.length)then bif((nth v0 v2 0)==v1)then some (.inr (.inr (((true,()),()),(),()))) else some (.inl (((v0,()),(v1,()),((i64.wrap (v2+1)),()),()),(),())) else none else some (.inr (.inl ((),(),())))
def yd2 (x:(ydu).X):=ysl x.1.1.1 x.1.2.1.1 x.1.2.2.1.1
def yDH (x:(yir).X):(ydu).X:=(((x.1.1.1,()),(x.1.2.1.1,()),(0,()),()),(),())
def yFe:Code:=(zeJ ysP 64 52).getD .skip
theorem ySX:zeJ ysP 64 13=some (.block 0 (.loop yFe)):=by kernel_rfl
theorem yVI (x:(ydu).X):zhu ⟨yCr,18,yGP⟩ 0 yFe 52 ydu yid yiI x=yd2 x:=by kernel_rfl
def yDX (x:(yir).X):Nat:=18446744073709551616
def ytf (x:(yir).X):Option ((yid).X ⊕ (yiI).X):=zF yd2 (yDX x) (yDH x)
def yEE:Seg:=⟨yir,yid,yiI,ytf⟩
def yWh:Nat→Option Seg:=fun q=>bif Nat.beq q 13 then some yEE else yGP q
theorem yTD:FrOk prog ⟨yCr,18,yWh⟩ ysP:=(yTC).loop (sg:=yEE) ydu yDH (by decide) ySX yd2 yDX (by decide) (fun _=>rfl) (fun x r _ h=>h) yVI
abbrev yty:List Par:= [.rd tL,.rd tI]
abbrev yCU:List OT:= [⟨false,tB,.fz⟩]
def yxi (a0:List Int) (a1:Int):Option (zaY yCU×zak yty) :=zkr (ytf (((a0,()),(a1,()),((),()),()),(),())) (fun y0 =>some ((false,()),())) (fun y0 =>some ((y0.1.1.1,()),()))
theorem yXM:ConOk prog 161 ⟨yty,yCU,fun x=>yxi x.1 x.2.1⟩:=zkG (yTD) func161 ntmps161.symm fun x=>by kernel_rfl
def yhm (a0:List Int) (a1:Int):Bool:=a0.any (· ==a1)
theorem y0n (a0:List Int) (a1:Int) (hk:zjw yty (a0,a1,())):yxi a0 a1=(fun n=>some ((n,()),())) (yhm a0 a1):=by
 have hb:a0.length*8≤2^47:=hk.1.1
 have h1:ytf (yQl a0 a1)=some (bif a0.all (· !=a1)then .inl yQa else .inr (yQx true)) :=
  zj7 (step:=yd2) a0 0 (fun i=>yrM a0 a1 i) (· !=a1) _ _ (fun i hi=>by
   simp only[yd2,yrM,ysl,zkw (show(i:Int)<a0.length by omega),cond_true,wq ((i:Int)+1) (by omega) (by omega),Int.natCast_add,Int.natCast_one,Int.toNat_natCast,zkP hi,zkQ,bne]
   cases(a0.getD i 0==a1)<;>rfl) (by simp only[yd2,yrM,ysl,zk1 (Int.le_refl _),cond_false]) _ (by show _<18446744073709551616; omega)
 unfold yxi yhm;rw[h1,show a0.any (· ==a1)= !(a0.all (· !=a1))by simp[List.all_eq_not_any_not,bne]];cases a0.all (· !=a1)<;>rfl
def ywV:Con:=⟨yty,yCU,fun x=>(fun n=>some ((n,()),())) (yhm x.1 x.2.1)⟩
theorem yIM:ConOk prog 161 ywV:=(yXM).mono (fun x r hk h=>(y0n x.1 x.2.1 hk).trans h)
def yoq:Code:=(f90.body).getD .skip
def ywd:Env:=zku TT [(82,yM),(160,ygA),(161,ywV)] []
theorem yMR:FrOk prog ⟨ywd,60,fun _=>none⟩ yoq:=zky yf yg ⟨yX,ylK,yIM,trivial⟩
def yCg:Nat→Option Seg:=fun _=>none
def yb7:Shape:=⟨[(1,false,[.int .i64]),(2,false,[.ptr 0 0]),(6,false,[.br tI]),(7,false,[.int .i64])],[(0,[.br tL,.br tW,.bool,.br tI])],[]⟩
def ygc:Shape:=⟨[(1,false,[.int .i64]),(2,false,[.ptr 0 0]),(6,false,[.br tI]),(7,false,[.ci .i64 0])],[(0,[.br tL,.br tW,.bool,.br tI])],[]⟩
def yfZ:Shape:=⟨[(6,false,[.br tI])],[],[]⟩
def yjx:Shape:=⟨[],[],[]⟩
abbrev ynM (v0:Int) (v1:List Int) (v2:Int) (v3:dM):(yb7).X:=(((v0,()),((),()),(v1,()),(v2,()),()),((v3.1,v3.2.1,v3.2.2.1,v3.2.2.2,()),()),())
abbrev yKX (v0:Int) (v1:List Int) (v2:dM):(ygc).X:=(((v0,()),((),()),(v1,()),((),()),()),((v2.1,v2.2.1,v2.2.2.1,v2.2.2.2,()),()),())
abbrev yyC (v0:List Int):(yfZ).X:=(((v0,()),()),(),())
def yod (v0:Int) (v1:List Int) (v2:Int) (v3:List (List Int)) (v4:List dW) (v5:Bool) (v6:List Int):Option ((yb7).X ⊕ ((yfZ).X ⊕ (yjx).X)) :=bif(ltb v2 (v4.length:Int))then bif(inb v2 v4.length)then bif((nth v4 v2 (0,[])).1==v0)then bif(inb v2 v4.length)then some (.inl (((v0,()),((),()),((nth v4 v2 (0,[])).2,()),((i64.wrap (v2+1)),()),()),((v3,v4,v5,v6,()),()),())) else none else some (.inl (((v0,()),((),()),(v1,()),((i64.wrap (v2+1)),()),()),((v3,v4,v5,v6,()),()),())) else none else some (.inr (.inl (((v1,()),()),(),())))
def yct (x:(yb7).X):=yod x.1.1.1 x.1.2.2.1.1 x.1.2.2.2.1.1 x.2.1.1.1 x.2.1.1.2.1 x.2.1.1.2.2.1 x.2.1.1.2.2.2.1
def yx9 (x:(ygc).X):(yb7).X:=(((x.1.1.1,()),((),()),(x.1.2.2.1.1,()),(0,()),()),((x.2.1.1.1,x.2.1.1.2.1,x.2.1.1.2.2.1,x.2.1.1.2.2.2.1,()),()),())
def yAE:Code:=(zeJ yoq 64 244).getD .skip
theorem yMn:zeJ yoq 64 61=some (.block 0 (.loop yAE)):=by kernel_rfl
theorem yN9 (x:(yb7).X):zhu ⟨ywd,60,yCg⟩ 0 yAE 244 yb7 yfZ yjx x=yct x:=by kernel_rfl
def yyp (x:(ygc).X):Nat:=18446744073709551616
def ypm (x:(ygc).X):Option ((yfZ).X ⊕ (yjx).X):=zF yct (yyp x) (yx9 x)
def yyT:Seg:=⟨ygc,yfZ,yjx,ypm⟩
def yOH:Nat→Option Seg:=fun q=>bif Nat.beq q 61 then some yyT else yCg q
theorem yMS:FrOk prog ⟨ywd,60,yOH⟩ yoq:=(yMR).loop (sg:=yyT) yb7 yx9 (by decide) yMn yct yyp (by decide) (fun _=>rfl) (fun x r _ h=>h) yN9
abbrev yoE:List Par:= [.rd tM,.rd tI]
abbrev ywK:List OT:= [⟨false,tL,(.ow .fz)⟩,⟨false,tB,.fz⟩]
def yr4 (a0:dM) (a1:Int):Option (zaY ywK×zak yoE) :=let r1:=yaO a0;bif(!(!r1))then bif(!a0.2.2.1)then let r2:=yb a1 0 (i64.wrap ((a0.1.length:Int)-1));bif(!(!r2))then let r3:=yhm a0.2.2.2 a1;bif r3 then some ((([]:List Int),false,()),()) else bif(inb a1 a0.1.length)then zkr (ypm (((a1,()),((),()),((nth a0.1 a1 []),()),((),()),()),((a0.1,a0.2.1,a0.2.2.1,a0.2.2.2,()),()),())) (fun y3 =>bif(zkj ([]:List Int).length y3.1.1.1.length 8)then some (((([]:List Int)++y3.1.1.1),true,()),()) else none) (fun y3 =>none) else none else some ((([]:List Int),false,()),()) else some ((([]:List Int),false,()),()) else some ((([]:List Int),false,()),())
theorem yRc:ConOk prog 90 ⟨yoE,ywK,fun x=>yr4 x.1 x.2.1⟩:=zkG (yMS) func90 ntmps90.symm fun x=>by kernel_rfl
def ykf (a0:dM) (a1:Int):List Int×Bool:=yR a0 a1
theorem yUk (a0:dM) (a1:Int) (hk:zjw yoE (a0,a1,())):yr4 a0 a1=(fun n=>some ((n.1,n.2,()),())) (ykf a0 a1):=by
 have hb1:a0.1.length*24≤2^47:=hk.1.1.1;have hb2:a0.2.1.length*32≤2^47:=hk.1.2.1.1
 have h1: ∀s,ypm (yKX a1 s a0)=some (.inl (yyC (yho a1 a0.2.1 s))):=fun s =>
  zkv (step:=yct) a0.2.1 (0,[]) (fun i s=>ynM a1 s i a0) (fun s w=>bif w.1==a1 then w.2 else s) (fun _ _=>True) (fun s=> .inl (yyC s)) (fun i s hi _=>⟨by
   simp only[yct,ynM,yod,zkw (show(i:Int)<a0.2.1.length by omega),cond_true,wq ((i:Int)+1) (by omega) (by omega),Int.natCast_add,Int.natCast_one,Int.toNat_natCast,zkP hi,zkQ]
   cases((a0.2.1.getD i (0,[])).1==a1)<;>rfl,trivial⟩) (fun s _=>by simp only[yct,ynM,yod,zk1 (Int.le_refl _),cond_false]) s trivial _ (by show _<18446744073709551616; omega)
 unfold yr4 ykf yR ysv;rw[ynA (show a0.1.length≤1152921504606846976 by omega)];unfold yaO yhm;simp only[h1,zkL,List.nil_append];cases yw a0
 ·rfl
 cases a0.2.2.1
 ·cases hi:inb a1 a0.1.length
  ·rfl
  ·cases a0.2.2.2.any (· ==a1)
   ·have hs:(yho a1 a0.2.1 (nth a0.1 a1 [])).length*8≤2^47 :=
     yIh (P:=fun s=>s.length*8≤2^47) (yB4 (P:=fun s:List Int=>s.length*8≤2^47) hi fun x hx=>(hk.1.1.2 x hx).1) fun w hw=>(hk.1.2.1.2 w hw).2.1
    simp only[Bool.not_true,Bool.not_false,cond_true,cond_false,Bool.true_and,show zkj ([]:List Int).length (yho a1 a0.2.1 (nth a0.1 a1 [])).length 8=true from zkD.2 (by rw[List.length_nil]; omega)]
   ·rfl
 ·rfl
def yDp:Con:=⟨yoE,ywK,fun x=>(fun n=>some ((n.1,n.2,()),())) (ykf x.1 x.2.1)⟩
theorem yVl:ConOk prog 90 yDp:=(yRc).mono (fun x r hk h=>(yUk x.1 x.2.1 hk).trans h)
def yZm:Code:=(f211.body).getD .skip
def yZT:Env:=zku TT [(82,yM)] []
theorem yPy:FrOk prog ⟨yZT,34,fun _=>none⟩ yZm:=zky yf yg ⟨yX,trivial⟩
abbrev yqU:List Par:= [.rd tA,.rd tI,.rd tI]
abbrev yzN:List OT:= [⟨false,tB,.fz⟩]
def yu3 (a0:dA) (a1 a2:Int):Option (zaY yzN×zak yqU) :=let r1:=yb a1 0 (i64.wrap ((a0.2.2.1.length:Int)-1));bif r1 then bif(inb a1 a0.2.2.1.length)then bif(!((((nth a0.2.2.1 a1 ([],[],false,[])).2).2).1))then bif(!(a1 !=a0.2.2.2.1))then some (((ltb a2 a0.2.2.2.2.1),()),()) else some ((true,()),()) else some ((false,()),()) else none else some ((false,()),())
theorem yUQ:ConOk prog 211 ⟨yqU,yzN,fun x=>yu3 x.1 x.2.1 x.2.2.1⟩:=zkG (yPy) func211 ntmps211.symm fun x=>by kernel_rfl
def yd9 (a0:dA) (a1 a2:Int):Bool:=ycC a0 a1 a2
theorem yXg (a0:dA) (a1 a2:Int) (hk:zjw yqU (a0,a1,a2,())):yu3 a0 a1 a2=(fun n=>some ((n,()),())) (yd9 a0 a1 a2):=by
 have hb:a0.2.2.1.length*80≤2^47:=hk.1.2.2.1.1;unfold yu3 yd9 ycC yc;rw[ynA (show a0.2.2.1.length≤1152921504606846976 by omega)];cases inb a1 a0.2.2.1.length
 ·rfl
 ·cases(nth a0.2.2.1 a1 ([],[],false,[])).2.2.1<;>cases(a1 !=a0.2.2.2.1)<;>rfl
def yug:Con:=⟨yqU,yzN,fun x=>(fun n=>some ((n,()),())) (yd9 x.1 x.2.1 x.2.2.1)⟩
theorem yHv:ConOk prog 211 yug:=(yUQ).mono (fun x r hk h=>(yXg x.1 x.2.1 x.2.2.1 hk).trans h)
def yZw:Code:=(f246.body).getD .skip
def yZ3:Env:=zku TT [(90,yDp),(113,yfs),(211,yug)] []
theorem yPT:FrOk prog ⟨yZ3,36,fun _=>none⟩ yZw:=zky yf yg ⟨yVl,yko,yHv,trivial⟩
abbrev yqY:List Par:= [.rd tA,.rd tI,.rd tI]
abbrev yzZ:List OT:= [⟨false,tI,.fz⟩,⟨false,tB,.fz⟩]
def yu9 (a0:dA) (a1 a2:Int):Option (zaY yzZ×zak yqY) :=let r1:=yd9 a0 a1 a2;bif(!r1)then some ((0,false,()),()) else bif(inb a1 a0.2.2.1.length)then let r2:=ybK a2;let r3:=ykf ((nth a0.2.2.1 a1 ([],[],false,[])).1,((nth a0.2.2.1 a1 ([],[],false,[])).2).1,(((nth a0.2.2.1 a1 ([],[],false,[])).2).2)) r2;bif(!(!r3.2))then bif((r3.1.length:Int) !=1)then some ((0,false,()),()) else bif(inb 0 r3.1.length)then some (((nth r3.1 0 0),true,()),()) else none else some ((0,false,()),()) else none
theorem yU5:ConOk prog 246 ⟨yqY,yzZ,fun x=>yu9 x.1 x.2.1 x.2.2.1⟩:=zkG (yPT) func246 ntmps246.symm fun x=>by kernel_rfl
def ylG (a0:dA) (a1 a2:Int):Int×Bool:=(yjj a0 a1 a2,yF a0 a1 a2)
theorem yXq (a0:dA) (a1 a2:Int) (hk:zjw yqY (a0,a1,a2,())):yu9 a0 a1 a2=(fun n=>some ((n.1,n.2,()),())) (ylG a0 a1 a2):=by
 unfold yu9 ylG yjj yd9;simp only[zkV,ygH,ykf];rw[show yF a0 a1 a2=(ycC a0 a1 a2&&((ydj a0 a1 a2).2&&((ydj a0 a1 a2).1.length:Int)==1))from rfl];rw[show yR (nth a0.2.2.1 a1 ([],[],false,[])) (yA a2)=ydj a0 a1 a2 from rfl];cases hl:ycC a0 a1 a2
 ·rfl
 ·rw[show inb a1 a0.2.2.1.length=true by unfold ycC at hl; exact(Bool.and_eq_true_iff.1 hl).1]
  cases(ydj a0 a1 a2).2
  ·rfl
  ·rw[bne]
   cases h1:(((ydj a0 a1 a2).1.length:Int)==1)
   ·rfl
   ·rw[show inb 0 (ydj a0 a1 a2).1.length=true from zj4.2 (by have:=beq_iff_eq.1 h1; omega)]; rfl
def yFA:Con:=⟨yqY,yzZ,fun x=>(fun n=>some ((n.1,n.2,()),())) (ylG x.1 x.2.1 x.2.2.1)⟩
theorem yYb:ConOk prog 246 yFA:=(yU5).mono (fun x r hk h=>(yXq x.1 x.2.1 x.2.2.1 hk).trans h)
def yhT:Code:=(f247.body).getD .skip
def ynb:Env:=zku TT [] []
theorem yHh:FrOk prog ⟨ynb,23,fun _=>none⟩ yhT:=zky yf yg trivial
def ysW:Nat→Option Seg:=fun _=>none
def yaM:Shape:=⟨[(0,false,[.br tI]),(1,false,[.int .i64]),(5,false,[.int .i64]),(6,false,[.int .i64])],[],[]⟩
def yc3:Shape:=⟨[(0,false,[.br tI]),(1,false,[.int .i64]),(5,false,[.ci .i64 0]),(6,false,[.ci .i64 0])],[],[]⟩
def yc0:Shape:=⟨[(5,false,[.int .i64])],[],[]⟩
def yfr:Shape:=⟨[],[],[]⟩
abbrev yjd (v0:List Int) (v1 v2 v3:Int):(yaM).X:=(((v0,()),(v1,()),(v2,()),(v3,()),()),(),())
abbrev yGB (v0:List Int) (v1:Int):(yc3).X:=(((v0,()),(v1,()),((),()),((),()),()),(),())
abbrev yGy (v0:Int):(yc0).X:=(((v0,()),()),(),())
def yji (v0:List Int) (v1 v2 v3:Int):Option ((yaM).X ⊕ ((yc0).X ⊕ (yfr).X)) :=bif(ltb v3 (v0.length:Int))then bif(v3 !=v1)then bif(inb v3 v0.length)then some (.inl (((v0,()),(v1,()),((i64.wrap ((BitVec.ofInt IntKind.i64.bits v2 ^^^ BitVec.ofInt IntKind.i64.bits (nth v0 v3 0)).toNat:Int)),()),((i64.wrap (v3+1)),()),()),(),())) else none else some (.inl (((v0,()),(v1,()),(v2,()),((i64.wrap (v3+1)),()),()),(),())) else some (.inr (.inl (((v2,()),()),(),())))
def yaW (x:(yaM).X):=yji x.1.1.1 x.1.2.1.1 x.1.2.2.1.1 x.1.2.2.2.1.1
def yqp (x:(yc3).X):(yaM).X:=(((x.1.1.1,()),(x.1.2.1.1,()),(0,()),(0,()),()),(),())
def ysu:Code:=(zeJ yhT 64 116).getD .skip
theorem yGW:zeJ yhT 64 29=some (.block 0 (.loop ysu)):=by kernel_rfl
theorem yHE (x:(yaM).X):zhu ⟨ynb,23,ysW⟩ 0 ysu 116 yaM yc0 yfr x=yaW x:=by kernel_rfl
def yqs (x:(yc3).X):Nat:=18446744073709551616
def yjI (x:(yc3).X):Option ((yc0).X ⊕ (yfr).X):=zF yaW (yqs x) (yqp x)
def yqC:Seg:=⟨yc3,yc0,yfr,yjI⟩
def yHQ:Nat→Option Seg:=fun q=>bif Nat.beq q 29 then some yqC else ysW q
theorem yHi:FrOk prog ⟨ynb,23,yHQ⟩ yhT:=(yHh).loop (sg:=yqC) yaM yqp (by decide) yGW yaW yqs (by decide) (fun _=>rfl) (fun x r _ h=>h) yHE
abbrev yh1:List Par:= [.rd tL,.rd tI]
abbrev ynr:List OT:= [⟨false,tI,.fz⟩]
def yla (a0:List Int) (a1:Int):Option (zaY ynr×zak yh1) :=zkr (yjI (((a0,()),(a1,()),((),()),((),()),()),(),())) (fun y0 =>some ((y0.1.1.1,()),())) (fun y0 =>none)
theorem yIl:ConOk prog 247 ⟨yh1,ynr,fun x=>yla x.1 x.2.1⟩:=zkG (yHi) func247 ntmps247.symm fun x=>by kernel_rfl
def yfg (a0:List Int) (a1:Int):Int:=ynC a0 a1
theorem yJl (a0:List Int) (a1:Int) (hk:zjw yh1 (a0,a1,())):yla a0 a1=(fun n=>some ((n,()),())) (yfg a0 a1):=by
 have hb:a0.length*8≤2^47:=hk.1.1
 have h1:=zkB (step:=yaW) a0.length (fun i s=>yjd a0 a1 s i) (fun n (i:Nat)=>bif(i:Int) !=a1 then xw n (nth a0 i 0)else n) (fun _ _=>True) (fun s=> .inl (yGy s)) (fun i s hi _=>⟨by
  simp only[yaW,yjd,yji,zkw (show(i:Int)<a0.length by omega),cond_true,wq ((i:Int)+1) (by omega) (by omega),Int.natCast_add,Int.natCast_one,Int.toNat_natCast,zkP hi]
  cases((i:Int) !=a1)<;>rfl,trivial⟩) (fun s _=>by simp only[yaW,yjd,yji,zk1 (Int.le_refl _),cond_false]) 0 trivial 18446744073709551616 (by omega)
 rw[y3Q]at h1;unfold yla yfg;rw[show yjI (yGB a0 a1)=_ from h1]; rfl
def yui:Con:=⟨yh1,ynr,fun x=>(fun n=>some ((n,()),())) (yfg x.1 x.2.1)⟩
theorem yJu:ConOk prog 247 yui:=(yIl).mono (fun x r hk h=>(yJl x.1 x.2.1 hk).trans h)
def yot:Code:=(f227.body).getD .skip
def ywg:Env:=zku TT [(246,yFA),(247,yui)] []
theorem yM1:FrOk prog ⟨ywg,45,fun _=>none⟩ yot:=zky yf yg ⟨yYb,yJu,trivial⟩
def yCj:Nat→Option Seg:=fun _=>none
def yb9:Shape:=⟨[(1,false,[.int .i64]),(2,false,[.ptr 0 0]),(6,false,[.at 800000000]),(7,false,[.int .i64]),(8,false,[.int .i64])],[(0,[.int .i64,.int .i64,.int .i64,.br tM,.int .i64,.int .i64,.int .i64,.int .i64,.int .i64,.br tW,.int .i64,.bool,.bool])],[(800000000,tI,.fz)]⟩
def yge:Shape:=⟨[(1,false,[.int .i64]),(2,false,[.ptr 0 0]),(6,false,[.at 800000000]),(7,false,[.ci .i64 (-1)]),(8,false,[.ci .i64 0])],[(0,[.int .i64,.int .i64,.int .i64,.br tM,.int .i64,.int .i64,.int .i64,.int .i64,.int .i64,.br tW,.int .i64,.bool,.bool])],[(800000000,tI,.fz)]⟩
def yf1:Shape:=⟨[(6,false,[.at 800000000]),(7,false,[.int .i64])],[],[(800000000,tI,.fz)]⟩
def ygl:Shape:=⟨[(4,false,[.at 800000000]),(5,false,[.bool])],[],[(800000000,tI,.fz)]⟩
abbrev ynO (v0 v1 v2:Int) (v3:dA) (v4:List Int):(yb9).X:=(((v0,()),((),()),((),()),(v1,()),(v2,()),()),((v3.1,v3.2.1.1,v3.2.1.2,v3.2.2.1,v3.2.2.2.1,v3.2.2.2.2.1,v3.2.2.2.2.2.1,v3.2.2.2.2.2.2.1,v3.2.2.2.2.2.2.2.1,v3.2.2.2.2.2.2.2.2.1,v3.2.2.2.2.2.2.2.2.2.1,v3.2.2.2.2.2.2.2.2.2.2.1,v3.2.2.2.2.2.2.2.2.2.2.2,()),()),(v4,()))
abbrev yKZ (v0:Int) (v1:dA) (v2:List Int):(yge).X:=(((v0,()),((),()),((),()),((),()),((),()),()),((v1.1,v1.2.1.1,v1.2.1.2,v1.2.2.1,v1.2.2.2.1,v1.2.2.2.2.1,v1.2.2.2.2.2.1,v1.2.2.2.2.2.2.1,v1.2.2.2.2.2.2.2.1,v1.2.2.2.2.2.2.2.2.1,v1.2.2.2.2.2.2.2.2.2.1,v1.2.2.2.2.2.2.2.2.2.2.1,v1.2.2.2.2.2.2.2.2.2.2.2,()),()),(v2,()))
abbrev yKM (v0:Int) (v1:List Int):(yf1).X:=((((),()),(v0,()),()),(),(v1,()))
abbrev yK5 (v0:Bool) (v1:List Int):(ygl).X:=((((),()),(v0,()),()),(),(v1,()))
def yog (v0 v1 v2 v3 v4 v5:Int) (v6:List dM) (v7 v8 v9 v10 v11:Int) (v12:List dW) (v13:Int) (v14 v15:Bool) (v16:List Int):Option ((yb9).X ⊕ ((yf1).X ⊕ (ygl).X)) :=bif(ltb v2 v4)then let r2:=ylG (v3,(v4,v5),v6,v7,v8,v9,v10,v11,v12,v13,v14,v15) v2 v0;bif(!r2.2)then bif(leb 0 v1)then some (.inr (.inr ((((),()),(false,()),()),(),(([]:List Int),())))) else bif(zkj v16.length ([r2.1]:List Int).length 8)then some (.inl (((v0,()),((),()),((),()),(v2,()),((i64.wrap (v2+1)),()),()),((v3,v4,v5,v6,v7,v8,v9,v10,v11,v12,v13,v14,v15,()),()),((v16++([r2.1]:List Int)),()))) else none else bif(zkj v16.length ([r2.1]:List Int).length 8)then some (.inl (((v0,()),((),()),((),()),(v1,()),((i64.wrap (v2+1)),()),()),((v3,v4,v5,v6,v7,v8,v9,v10,v11,v12,v13,v14,v15,()),()),((v16++([r2.1]:List Int)),()))) else none else some (.inr (.inl ((((),()),(v1,()),()),(),(v16,()))))
def ycw (x:(yb9).X):=yog x.1.1.1 x.1.2.2.2.1.1 x.1.2.2.2.2.1.1 x.2.1.1.1 x.2.1.1.2.1 x.2.1.1.2.2.1 x.2.1.1.2.2.2.1 x.2.1.1.2.2.2.2.1 x.2.1.1.2.2.2.2.2.1 x.2.1.1.2.2.2.2.2.2.1 x.2.1.1.2.2.2.2.2.2.2.1 x.2.1.1.2.2.2.2.2.2.2.2.1 x.2.1.1.2.2.2.2.2.2.2.2.2.1 x.2.1.1.2.2.2.2.2.2.2.2.2.2.1 x.2.1.1.2.2.2.2.2.2.2.2.2.2.2.1 x.2.1.1.2.2.2.2.2.2.2.2.2.2.2.2.1 x.2.2.1
def yyc (x:(yge).X):(yb9).X:=(((x.1.1.1,()),((),()),((),()),((-1),()),(0,()),()),((x.2.1.1.1,x.2.1.1.2.1,x.2.1.1.2.2.1,x.2.1.1.2.2.2.1,x.2.1.1.2.2.2.2.1,x.2.1.1.2.2.2.2.2.1,x.2.1.1.2.2.2.2.2.2.1,x.2.1.1.2.2.2.2.2.2.2.1,x.2.1.1.2.2.2.2.2.2.2.2.1,x.2.1.1.2.2.2.2.2.2.2.2.2.1,x.2.1.1.2.2.2.2.2.2.2.2.2.2.1,x.2.1.1.2.2.2.2.2.2.2.2.2.2.2.1,x.2.1.1.2.2.2.2.2.2.2.2.2.2.2.2.1,()),()),(x.2.2.1,()))
def yAH:Code:=(zeJ yot 64 244).getD .skip
theorem yMq:zeJ yot 64 61=some (.block 0 (.loop yAH)):=by kernel_rfl
theorem yOc (x:(yb9).X):zhu ⟨ywg,45,yCj⟩ 0 yAH 244 yb9 yf1 ygl x=ycw x:=by kernel_rfl
def yys (x:(yge).X):Nat:=18446744073709551616
def ypp (x:(yge).X):Option ((yf1).X ⊕ (ygl).X):=zF ycw (yys x) (yyc x)
def yyW:Seg:=⟨yge,yf1,ygl,ypp⟩
def yOK:Nat→Option Seg:=fun q=>bif Nat.beq q 61 then some yyW else yCj q
theorem yM2:FrOk prog ⟨ywg,45,yOK⟩ yot:=(yM1).loop (sg:=yyW) yb9 yyc (by decide) yMq ycw yys (by decide) (fun _=>rfl) (fun x r _ h=>h) yOc
abbrev yjO:List Par:= [.rd tA,.rd tI]
abbrev yoL:List OT:= [⟨false,tL,(.ow .fz)⟩,⟨false,tB,.fz⟩]
def yr9 (a0:dA) (a1:Int):Option (zaY yoL×zak yjO) :=zkr (ypp (((a1,()),((),()),((),()),((),()),((),()),()),((a0.1,a0.2.1.1,a0.2.1.2,a0.2.2.1,a0.2.2.2.1,a0.2.2.2.2.1,a0.2.2.2.2.2.1,a0.2.2.2.2.2.2.1,a0.2.2.2.2.2.2.2.1,a0.2.2.2.2.2.2.2.2.1,a0.2.2.2.2.2.2.2.2.2.1,a0.2.2.2.2.2.2.2.2.2.2.1,a0.2.2.2.2.2.2.2.2.2.2.2,()),()),(([]:List Int),()))) (fun y2 =>bif(leb 0 y2.1.2.1.1)then let r4:=yfg y2.2.2.1 y2.1.2.1.1;bif(inb y2.1.2.1.1 y2.2.2.1.length)then some (((y2.2.2.1.set (y2.1.2.1.1).toNat r4),true,()),()) else none else some ((y2.2.2.1,true,()),())) (fun y2 =>some ((y2.2.2.1,y2.1.2.1.1,()),()))
theorem yRj:ConOk prog 227 ⟨yjO,yoL,fun x=>yr9 x.1 x.2.1⟩:=zkG (yM2) func227 ntmps227.symm fun x=>by kernel_rfl
def ygF (a0:dA) (a1:Int):List Int×Bool:=yS a0 a1
def yw8 (a0:dA) (a1:Int):Bool:=yd a0.2.1
theorem yUq (a0:dA) (a1:Int) (hk:zjw yjO (a0,a1,())) (hq:yw8 a0 a1=true):yr9 a0 a1=(fun n=>some ((n.1,n.2,()),())) (ygF a0 a1):=by
 have hg:=yl.1 hq
 have h1:ypp (yKZ a1 a0 [])=some (bif yeQ (fun(i:Nat)=>yF a0 i a1) a0.2.1.1.toNat then .inr (yK5 false [])else .inl (yKM (yJ (fun(i:Nat)=>yF a0 i a1) a0.2.1.1.toNat) (yai a0 a1 a0.2.1.1.toNat))) :=
  zjh (step:=ycw) (fun i=>ynO a1 (yJ (fun(i:Nat)=>yF a0 i a1) i) i a0 (yai a0 a1 i)) a0.2.1.1.toNat (fun i=> !yF a0 i a1&&leb 0 (yJ (fun(i:Nat)=>yF a0 i a1) i)) _ _ (fun i hi=>by
   simp only[ycw,ynO,yog,zkw (show(i:Int)<a0.2.1.1 by omega),cond_true,wq ((i:Int)+1) (by omega) (by omega),Int.natCast_add,Int.natCast_one,Int.toNat_natCast,zkV,ylG,yJ];rw[zkD.2 (show((yai a0 a1 i).length+ [yjj a0 i a1].length)*8≤140737488355328 by simp only[List.length_cons,List.length_nil,yfl]; omega),yIQ]
   cases yF a0 i a1<;>cases leb 0 (yJ (fun(i:Nat)=>yF a0 i a1) i)<;>rfl) (by simp only[ycw,ynO,yog,zk1 (show a0.2.1.1≤(a0.2.1.1.toNat:Int)by omega),cond_false]) _ (by show _<18446744073709551616; omega)
 unfold yr9 ygF yS;rw[h1];cases yeQ (fun(i:Nat)=>yF a0 i a1) a0.2.1.1.toNat
 ·simp only[cond_false,zkL,yfg]
  cases hm:leb 0 (yJ (fun(i:Nat)=>yF a0 i a1) a0.2.1.1.toNat)
  ·rfl
  ·obtain⟨h2,h3⟩:=yYQ a0 a1 a0.2.1.1.toNat hm
   rw[h2,h3]; rfl
 ·rfl
def ykn (a0:dA) (a1:Int):Option (zaY yoL×zak yjO):=bif yw8 a0 a1 then(fun n=>some ((n.1,n.2,()),())) (ygF a0 a1)else none
theorem yFW (a0:dA) (a1:Int) (h:yw8 a0 a1=true):ykn a0 a1=(fun n=>some ((n.1,n.2,()),())) (ygF a0 a1):=by unfold ykn; rw[h]; rfl
def yrx:Con:=⟨yjO,yoL,fun x=>ykn x.1 x.2.1⟩
theorem yFT:ConOk prog 227 yrx:=(yRj).mono (fun x r hk h=>zkW h (fun hq=>yUq x.1 x.2.1 hk hq))
def ySh:Code:=(f229.body).getD .skip
def ySL:Env:=zku TT [(82,yM),(150,ygz)] []
theorem yKw:FrOk prog ⟨ySL,14,fun _=>none⟩ ySh:=zky yf yg ⟨yX,ylJ,trivial⟩
abbrev ytz:List Par:= [.rd tG,.rd tI]
abbrev ytW:List OT:= [⟨false,tB,.fz⟩]
def yBA (a0:dG) (a1:Int):Option (zaY ytW×zak ytz) :=let r1:=yd a0;bif r1 then let r2:=yb a1 0 (i64.wrap (a0.2-1));some ((r2,()),()) else some ((false,()),())
theorem yNU:ConOk prog 229 ⟨ytz,ytW,fun x=>yBA x.1 x.2.1⟩:=zkG (yKw) func229 ntmps229.symm fun x=>by kernel_rfl
def yfx (a0:dG) (a1:Int):Bool :=let r1:=yd a0;bif r1 then let r2:=yb a1 0 (i64.wrap (a0.2-1));r2 else false
def ypC:Con:=⟨ytz,ytW,fun x=>(fun n=>some ((n,()),())) (yfx x.1 x.2.1)⟩
theorem yQU (a0:dG) (a1:Int):yBA a0 a1=(fun n=>some ((n,()),())) (yfx a0 a1):=zkT (p:=fun(n:Bool)=>((n,()),())) (zkE (p:=fun(n:Bool)=>((n,()),())) rfl rfl)
theorem yEk:ConOk prog 229 ypC:=(yNU).mono (fun x r _ h=>(yQU x.1 x.2.1).trans h)
theorem yOt (g:dG) (s:Int):yfx g s=yL g s:=by
 unfold yfx yL;cases hg:yd g
 ·rfl
 have:=yl.1 hg;rw[ybM,wr (by omega) (by omega)]; rfl
def ySc:Code:=(f209.body).getD .skip
def ySG:Env:=zku TT [(229,ypC)] []
theorem yKp:FrOk prog ⟨ySG,17,fun _=>none⟩ ySc:=zky yf yg ⟨yEk,trivial⟩
abbrev ymC:List Par:= [.rd tG,.rd tI]
abbrev ytR:List OT:= [⟨false,tI,.fz⟩]
def yp3 (a0:dG) (a1:Int):Option (zaY ytR×zak ymC) :=let r1:=yfx a0 a1;bif(!r1)then some (((-1),()),()) else bif(a0.1 !=0)then some (((i64.wrap ((i64.wrap (a0.1-1))-(a1.tmod a0.1))),()),()) else none
theorem yNO:ConOk prog 209 ⟨ymC,ytR,fun x=>yp3 x.1 x.2.1⟩:=zkG (yKp) func209 ntmps209.symm fun x=>by kernel_rfl
def ydK (a0:dG) (a1:Int):Int:=yk a0 a1
theorem yQO (a0:dG) (a1:Int) (hk:zjw ymC (a0,a1,())):yp3 a0 a1=(fun n=>some ((n,()),())) (ydK a0 a1):=by
 unfold yp3 ydK;rw[yOt];cases hs:yL a0 a1
 ·unfold yk; rw[hs]; rfl
 ·have h1:=yV.1 hs
  have h2:=yl.1 h1.1;have h3:=yi5 hs;have h4:yk a0 a1=a0.1-1-a1.tmod a0.1:=by unfold yk; rw[hs]; rfl
  rw[show(a0.1 !=0)=true from bne_iff_ne.2 (by omega),wq (a0.1-1) (by omega) (by omega),wq (a0.1-1-a1.tmod a0.1) (by omega) (by omega),h4]; rfl
def ypA:Con:=⟨ymC,ytR,fun x=>(fun n=>some ((n,()),())) (ydK x.1 x.2.1)⟩
theorem yEi:ConOk prog 209 ypA:=(yNO).mono (fun x r hk h=>(yQO x.1 x.2.1 hk).trans h)
def yZl:Code:=(f242.body).getD .skip
def yZS:Env:=zku TT [(82,yM),(209,ypA),(229,ypC)] []
theorem yPx:FrOk prog ⟨yZS,28,fun _=>none⟩ yZl:=zky yf yg ⟨yX,yEi,yEk,trivial⟩
abbrev yqT:List Par:= [.rd tG,.rd tI,.rd tI]
abbrev yzM:List OT:= [⟨false,tI,.fz⟩]
def yu2 (a0:dG) (a1 a2:Int):Option (zaY yzM×zak yqT) :=let r1:=yfx a0 a1;bif(!(!r1))then let r2:=yb a2 0 (i64.wrap (a0.1-2));bif(!r2)then some (((-1),()),()) else let r3:=ydK a0 a1;bif(a0.1 !=0)then some ((((i64.wrap ((i64.wrap (r3+1))+a2)).tmod a0.1),()),()) else none else some (((-1),()),())
theorem yUP:ConOk prog 242 ⟨yqT,yzM,fun x=>yu2 x.1 x.2.1 x.2.2.1⟩:=zkG (yPx) func242 ntmps242.symm fun x=>by kernel_rfl
def ylD (a0:dG) (a1 a2:Int):Int:=yaQ a0 a1 a2
theorem yXf (a0:dG) (a1 a2:Int) (hk:zjw yqT (a0,a1,a2,())):yu2 a0 a1 a2=(fun n=>some ((n,()),())) (ylD a0 a1 a2):=by
 unfold yu2 ylD yaQ ydK;rw[yOt];cases hs:yL a0 a1
 ·rfl
 ·have h1:=yV.1 hs
  have h2:=yl.1 h1.1;have h3:=yi5 hs;rw[ybM,wq (a0.1-2) (by omega) (by omega)];cases hi:(leb 0 a2&&leb a2 (a0.1-2))
  ·rfl
  ·rw[Bool.and_eq_true,zj5,zj5]at hi
   rw[show(a0.1 !=0)=true from bne_iff_ne.2 (by omega)];show some (((i64.wrap (i64.wrap (yk a0 a1+1)+a2)).tmod a0.1,()),())=some (((yk a0 a1+1+a2).tmod a0.1,()),());rw[wq (yk a0 a1+1) (by omega) (by omega),wq (yk a0 a1+1+a2) (by omega) (by omega)]
def yFr:Con:=⟨yqT,yzM,fun x=>(fun n=>some ((n,()),())) (ylD x.1 x.2.1 x.2.2.1)⟩
theorem yX2:ConOk prog 242 yFr:=(yUP).mono (fun x r hk h=>(yXf x.1 x.2.1 x.2.2.1 hk).trans h)
def yqG:Code:=(f218.body).getD .skip
def yy2:Env:=zku TT [(227,yrx),(242,yFr)] []
theorem yPL:FrOk prog ⟨yy2,41,fun _=>none⟩ yqG:=zky yf yg ⟨yFT,yX2,trivial⟩
def yEV:Nat→Option Seg:=fun _=>none
def ycR:Shape:=⟨[(1,false,[.int .i64]),(2,false,[.ptr 0 0]),(6,false,[.at 800000000]),(7,false,[.bool]),(8,false,[.at 800000001]),(9,false,[.int .i64])],[(0,[.int .i64,.int .i64,.int .i64,.br tM,.int .i64,.int .i64,.int .i64,.int .i64,.int .i64,.br tW,.int .i64,.bool,.bool])],[(800000000,tI,.fz),(800000001,tI,.fz)]⟩
def yg6:Shape:=⟨[(1,false,[.int .i64]),(2,false,[.ptr 0 0]),(6,false,[.at 800000000]),(7,false,[.bool]),(8,false,[.at 800000001]),(9,false,[.ci .i64 0])],[(0,[.int .i64,.int .i64,.int .i64,.br tM,.int .i64,.int .i64,.int .i64,.int .i64,.int .i64,.br tW,.int .i64,.bool,.bool])],[(800000000,tI,.fz),(800000001,tI,.fz)]⟩
def ygV:Shape:=⟨[(7,false,[.bool]),(8,false,[.at 800000000])],[],[(800000000,tI,.fz)]⟩
def ykS:Shape:=⟨[],[],[]⟩
abbrev ygm (v0:Int) (v1:Bool) (v2:Int) (v3:dA) (v4 v5:List Int):(ycR).X:=(((v0,()),((),()),((),()),(v1,()),((),()),(v2,()),()),((v3.1,v3.2.1.1,v3.2.1.2,v3.2.2.1,v3.2.2.2.1,v3.2.2.2.2.1,v3.2.2.2.2.2.1,v3.2.2.2.2.2.2.1,v3.2.2.2.2.2.2.2.1,v3.2.2.2.2.2.2.2.2.1,v3.2.2.2.2.2.2.2.2.2.1,v3.2.2.2.2.2.2.2.2.2.2.1,v3.2.2.2.2.2.2.2.2.2.2.2,()),()),(v4,v5,()))
abbrev yBr (v0:Int) (v1:Bool) (v2:dA) (v3 v4:List Int):(yg6).X:=(((v0,()),((),()),((),()),(v1,()),((),()),((),()),()),((v2.1,v2.2.1.1,v2.2.1.2,v2.2.2.1,v2.2.2.2.1,v2.2.2.2.2.1,v2.2.2.2.2.2.1,v2.2.2.2.2.2.2.1,v2.2.2.2.2.2.2.2.1,v2.2.2.2.2.2.2.2.2.1,v2.2.2.2.2.2.2.2.2.2.1,v2.2.2.2.2.2.2.2.2.2.2.1,v2.2.2.2.2.2.2.2.2.2.2.2,()),()),(v3,v4,()))
abbrev ypM (v0:Bool) (v1:List Int):(ygV).X:=(((v0,()),((),()),()),(),(v1,()))
def yjF (v0:Int) (v1:Bool) (v2 v3 v4 v5:Int) (v6:List dM) (v7 v8 v9 v10 v11:Int) (v12:List dW) (v13:Int) (v14 v15:Bool) (v16 v17:List Int):Option ((ycR).X ⊕ ((ygV).X ⊕ (ykS).X)) :=bif(ltb v2 (i64.wrap (v4-1)))then bif v1 then let r3:=ylD (v4,v5) v0 v2;bif(inb r3 v16.length)then bif(zkj v17.length ([(nth v16 r3 0)]:List Int).length 8)then some (.inl (((v0,()),((),()),((),()),(v1,()),((),()),((i64.wrap (v2+1)),()),()),((v3,v4,v5,v6,v7,v8,v9,v10,v11,v12,v13,v14,v15,()),()),(v16,(v17++([(nth v16 r3 0)]:List Int)),()))) else none else none else some (.inr (.inl (((v1,()),((),()),()),(),(v17,())))) else some (.inr (.inl (((v1,()),((),()),()),(),(v17,()))))
def yaS (x:(ycR).X):=yjF x.1.1.1 x.1.2.2.2.1.1 x.1.2.2.2.2.2.1.1 x.2.1.1.1 x.2.1.1.2.1 x.2.1.1.2.2.1 x.2.1.1.2.2.2.1 x.2.1.1.2.2.2.2.1 x.2.1.1.2.2.2.2.2.1 x.2.1.1.2.2.2.2.2.2.1 x.2.1.1.2.2.2.2.2.2.2.1 x.2.1.1.2.2.2.2.2.2.2.2.1 x.2.1.1.2.2.2.2.2.2.2.2.2.1 x.2.1.1.2.2.2.2.2.2.2.2.2.2.1 x.2.1.1.2.2.2.2.2.2.2.2.2.2.2.1 x.2.1.1.2.2.2.2.2.2.2.2.2.2.2.2.1 x.2.2.1 x.2.2.2.1
def yA8 (x:(yg6).X):(ycR).X:=(((x.1.1.1,()),((),()),((),()),(x.1.2.2.2.1.1,()),((),()),(0,()),()),((x.2.1.1.1,x.2.1.1.2.1,x.2.1.1.2.2.1,x.2.1.1.2.2.2.1,x.2.1.1.2.2.2.2.1,x.2.1.1.2.2.2.2.2.1,x.2.1.1.2.2.2.2.2.2.1,x.2.1.1.2.2.2.2.2.2.2.1,x.2.1.1.2.2.2.2.2.2.2.2.1,x.2.1.1.2.2.2.2.2.2.2.2.2.1,x.2.1.1.2.2.2.2.2.2.2.2.2.2.1,x.2.1.1.2.2.2.2.2.2.2.2.2.2.2.1,x.2.1.1.2.2.2.2.2.2.2.2.2.2.2.2.1,()),()),(x.2.2.1,x.2.2.2.1,()))
def yDa:Code:=(zeJ yqG 64 244).getD .skip
theorem yOX:zeJ yqG 64 61=some (.block 0 (.loop yDa)):=by kernel_rfl
theorem yRR (x:(ycR).X):zhu ⟨yy2,41,yEV⟩ 0 yDa 244 ycR ygV ykS x=yaS x:=by kernel_rfl
def yBj (x:(yg6).X):Nat:=18446744073709551616
def ykI (x:(yg6).X):Option ((ygV).X ⊕ (ykS).X):=zF yaS (yBj x) (yA8 x)
def yBI:Seg:=⟨yg6,ygV,ykS,ykI⟩
def ySp:Nat→Option Seg:=fun q=>bif Nat.beq q 61 then some yBI else yEV q
theorem yPM:FrOk prog ⟨yy2,41,ySp⟩ yqG:=(yPL).loop (sg:=yBI) ycR yA8 (by decide) yOX yaS yBj (by decide) (fun _=>rfl) (fun x r _ h=>h) yRR
abbrev yln:List Par:= [.rd tA,.rd tI]
abbrev yq3:List OT:= [⟨false,tL,(.ow .fz)⟩,⟨false,tB,.fz⟩]
def yu7 (a0:dA) (a1:Int):Option (zaY yq3×zak yln) :=bnd (ykn a0 a1) fun r1 =>zkr (ykI (((a1,()),((),()),((),()),(r1.1.2.1,()),((),()),((),()),()),((a0.1,a0.2.1.1,a0.2.1.2,a0.2.2.1,a0.2.2.2.1,a0.2.2.2.2.1,a0.2.2.2.2.2.1,a0.2.2.2.2.2.2.1,a0.2.2.2.2.2.2.2.1,a0.2.2.2.2.2.2.2.2.1,a0.2.2.2.2.2.2.2.2.2.1,a0.2.2.2.2.2.2.2.2.2.2.1,a0.2.2.2.2.2.2.2.2.2.2.2,()),()),(r1.1.1,([]:List Int),()))) (fun y3 =>some ((y3.2.2.1,y3.1.1.1,()),())) (fun y3 =>none)
theorem yU0:ConOk prog 218 ⟨yln,yq3,fun x=>yu7 x.1 x.2.1⟩:=zkG (yPM) func218 ntmps218.symm fun x=>by kernel_rfl
def yq8 (a0:dA) (a1:Int):List Int×Bool:=yq6 a0 a1
def yAf (a0:dA) (a1:Int):Bool:=yL a0.2.1 a1
theorem yXn (a0:dA) (a1:Int) (hk:zjw yln (a0,a1,())) (hq:yAf a0 a1=true):yu7 a0 a1=(fun n=>some ((n.1,n.2,()),())) (yq8 a0 a1):=by
 have hs:yL a0.2.1 a1=true:=hq;have hg:=yl.1 (yV.1 hs).1;unfold yu7 yq8 yq6;rw[yFW a0 a1 (yV.1 hs).1,ygF];simp only[zkF];cases hw:(yS a0 a1).2
 ·have h1:ykI (yBr a1 false a0 (yS a0 a1).1 [])=some (.inl (ypM false [])) :=
   zkJ (step:=yaS) (fun i=>ygm a1 false i a0 (yS a0 a1).1 []) 0 _ (fun i hi=>absurd hi (Nat.not_lt_zero _)) (by
    simp only[yaS,ygm,yjF,cond_false]
    cases ltb ((0:Nat):Int) (i64.wrap (a0.2.1.1-1))<;>rfl) _ (by show _<18446744073709551616; omega)
  rw[h1]; rfl
 ·have hL:=yLF hw
  have h1:ykI (yBr a1 true a0 (yS a0 a1).1 [])=some (.inl (ypM true ((List.range (a0.2.1.1-1).toNat).foldl (fun l (i:Nat)=>l++ [nth (yS a0 a1).1 (yaQ a0.2.1 a1 i) 0]) []))) :=
   zkB (step:=yaS) (a0.2.1.1-1).toNat (fun i s=>ygm a1 true i a0 (yS a0 a1).1 s) (fun l (i:Nat)=>l++ [nth (yS a0 a1).1 (yaQ a0.2.1 a1 i) 0]) (fun i s=>s.length=i) (fun s=> .inl (ypM true s)) (fun i s hi hs2=>⟨by
    have hd:=yLM hs (show(0:Int)≤i by omega) (show(i:Int)≤a0.2.1.1-2 by omega);simp only[yaS,ygm,yjF,wq (a0.2.1.1-1) (by omega) (by omega),zkw (show(i:Int)<a0.2.1.1-1 by omega),cond_true,wq ((i:Int)+1) (by omega) (by omega),Int.natCast_add,Int.natCast_one,Int.toNat_natCast,zkV,ylD,zj4.2 (show 0≤yaQ a0.2.1 a1 i∧yaQ a0.2.1 a1 i<(yS a0 a1).1.length by omega)]
    rw[zkD.2 (show(s.length+ [nth (yS a0 a1).1 (yaQ a0.2.1 a1 i) 0].length)*8≤140737488355328 by simp only[List.length_cons,List.length_nil]; omega)]; rfl,by simp[hs2]⟩) (fun s hs2=>by simp only[yaS,ygm,yjF,wq (a0.2.1.1-1) (by omega) (by omega),zk1 (show a0.2.1.1-1≤((a0.2.1.1-1).toNat:Int)by omega),cond_false]) [] rfl _ (by show _<18446744073709551616; omega)
  rw[h1,ykZ]; rfl
def yra (a0:dA) (a1:Int):Option (zaY yq3×zak yln):=bif yAf a0 a1 then(fun n=>some ((n.1,n.2,()),())) (yq8 a0 a1)else none
theorem yYf (a0:dA) (a1:Int) (h:yAf a0 a1=true):yra a0 a1=(fun n=>some ((n.1,n.2,()),())) (yq8 a0 a1):=by unfold yra; rw[h]; rfl
def yFy:Con:=⟨yln,yq3,fun x=>yra x.1 x.2.1⟩
theorem yX9:ConOk prog 218 yFy:=(yU0).mono (fun x r hk h=>zkW h (fun hq=>yXn x.1 x.2.1 hk hq))
def ySi:Code:=(f181.body).getD .skip
def ySM:Env:=zku TT [(215,yz5),(218,yFy)] []
theorem yKx:FrOk prog ⟨ySM,28,fun _=>none⟩ ySi:=zky yf yg ⟨yLl,yX9,trivial⟩
abbrev yh3:List Par:= [.rd tA,.rd tI]
abbrev ymL:List OT:= [⟨false,tL,(.ow .fz)⟩,⟨false,tB,.fz⟩]
def yp8 (a0:dA) (a1:Int):Option (zaY ymL×zak yh3) :=let r1:=yje a0 a1;bif(leb 0 r1)then bif(inb r1 a0.2.2.2.2.2.2.2.2.1.length)then bif(zkj ([]:List Int).length ((nth a0.2.2.2.2.2.2.2.2.1 r1 (0,[])).2).length 8)then some (((([]:List Int)++((nth a0.2.2.2.2.2.2.2.2.1 r1 (0,[])).2)),true,()),()) else none else none else bif a0.2.2.2.2.2.2.2.2.2.2.2 then some ((([]:List Int),false,()),()) else bnd (yra a0 a1) fun r2 =>some ((r2.1.1,r2.1.2.1,()),())
theorem yNV:ConOk prog 181 ⟨yh3,ymL,fun x=>yp8 x.1 x.2.1⟩:=zkG (yKx) func181 ntmps181.symm fun x=>by kernel_rfl
def yi1 (a0:dA) (a1:Int):List Int×Bool:=ybI a0 a1
def yuS (a0:dA) (a1:Int):Bool:=yL a0.2.1 a1
theorem yQV (a0:dA) (a1:Int) (hk:zjw yh3 (a0,a1,())) (hq:yuS a0 a1=true):yp8 a0 a1=(fun n=>some ((n.1,n.2,()),())) (yi1 a0 a1):=by
 unfold yp8 yi1 ybI yje;rw[yYf a0 a1 hq];simp only[List.nil_append];cases h:leb 0 (yam a0.2.2.2.2.2.2.2.2.1 a1)
 ·cases a0.2.2.2.2.2.2.2.2.2.2.2<;>rfl
 ·have h1:=(ynz (d:=((0,[]):dW)) h).1
  have h2:(nth a0.2.2.2.2.2.2.2.2.1 (yam a0.2.2.2.2.2.2.2.2.1 a1) (0,[])).2.length*8≤2^47:=yB4 (P:=fun x:dW=>x.2.length*8≤2^47) h1 (fun x hx=>(hk.1.2.2.2.2.2.2.2.2.1.2 x hx).2.1);rw[show inb (yam a0.2.2.2.2.2.2.2.2.1 a1) a0.2.2.2.2.2.2.2.2.1.length=true from h1,zkD.2 (show(([]:List Int).length+(nth a0.2.2.2.2.2.2.2.2.1 (yam a0.2.2.2.2.2.2.2.2.1 a1) (0,[])).2.length)*8≤140737488355328 by rw[List.length_nil]; omega)]; rfl
def ym5 (a0:dA) (a1:Int):Option (zaY ymL×zak yh3):=bif yuS a0 a1 then(fun n=>some ((n.1,n.2,()),())) (yi1 a0 a1)else none
theorem yRI (a0:dA) (a1:Int) (h:yuS a0 a1=true):ym5 a0 a1=(fun n=>some ((n.1,n.2,()),())) (yi1 a0 a1):=by unfold ym5; rw[h]; rfl
def yAZ:Con:=⟨yh3,ymL,fun x=>ym5 x.1 x.2.1⟩
theorem yRE:ConOk prog 181 yAZ:=(yNV).mono (fun x r hk h=>zkW h (fun hq=>yQV x.1 x.2.1 hk hq))
def yV1:Code:=(f182.body).getD .skip
def yWs:Env:=zku TT [(82,yM),(119,ymX)] []
theorem yMQ:FrOk prog ⟨yWs,16,fun _=>none⟩ yV1:=zky yf yg ⟨yX,yw1,trivial⟩
abbrev yoD:List Par:= [.rd tG,.rd tI]
abbrev ywJ:List OT:= [⟨false,tI,.fz⟩]
def yr3 (a0:dG) (a1:Int):Option (zaY ywJ×zak yoD) :=let r1:=yq a0;let r2:=yb a1 0 (i64.wrap (r1-1));bif(!r2)then some (((-1),()),()) else bif((i64.wrap (a0.1-1)) !=0)then some (((a1.tmod (i64.wrap (a0.1-1))),()),()) else none
theorem yRb:ConOk prog 182 ⟨yoD,ywJ,fun x=>yr3 x.1 x.2.1⟩:=zkG (yMQ) func182 ntmps182.symm fun x=>by kernel_rfl
def yke (a0:dG) (a1:Int):Int:=ybN a0 a1
theorem yUj (a0:dG) (a1:Int) (hk:zjw yoD (a0,a1,())):yr3 a0 a1=(fun n=>some ((n,()),())) (yke a0 a1):=by
 unfold yr3 yke ybN;simp only[y1e];cases hb:yeP a0 a1
 ·rfl
 ·obtain⟨h1,h2,h3⟩:=yns hb
  have h4:=yl.1 h1;rw[wq (a0.1-1) (by omega) (by omega),show(a0.1-1 !=0)=true from bne_iff_ne.2 (by omega)]; rfl
def yDo:Con:=⟨yoD,ywJ,fun x=>(fun n=>some ((n,()),())) (yke x.1 x.2.1)⟩
theorem yVk:ConOk prog 182 yDo:=(yRb).mono (fun x r hk h=>(yUj x.1 x.2.1 hk).trans h)
def ysS:Code:=(f183.body).getD .skip
def yCu:Env:=zku TT [] [(4096,(.pr .fz .fz)),(28800,(.pr .fz .fz)),(41472,(.pr .fz .fz)),(49280,(.pr .fz .fz))]
theorem yTK:FrOk prog ⟨yCu,67,fun _=>none⟩ ysS:=zky yf yg trivial
def yGS:Nat→Option Seg:=fun _=>none
def ydy:Shape:=⟨[(0,false,[.ptr 1000000000 0]),(3,false,[.ptr 0 0]),(4,false,[.at 800000000]),(5,false,[.bool]),(6,false,[.int .i64])],[(0,[.int .i64,.fz tI]),(1000000000,[.int .i64,.int .i64,.int .i64,.at 800000001,.int .i64,.int .i64,.int .i64,.int .i64,.int .i64,.at 800000002,.int .i64,.bool,.bool])],[(800000000,tW,(.pr .fz .fz)),(800000001,tM,(.pr (.ow .fz) (.pr (.ow (.pr .fz .fz)) (.pr .fz (.ow .fz))))),(800000002,tW,(.pr .fz .fz))]⟩
def yiv:Shape:=⟨[(0,false,[.ptr 1000000000 0]),(3,false,[.ptr 0 0]),(4,false,[.at 800000000]),(5,false,[.cb false]),(6,false,[.ci .i64 0])],[(0,[.int .i64,.fz tI]),(1000000000,[.int .i64,.int .i64,.int .i64,.at 800000001,.int .i64,.int .i64,.int .i64,.int .i64,.int .i64,.at 800000002,.int .i64,.bool,.bool])],[(800000000,tW,(.pr .fz .fz)),(800000001,tM,(.pr (.ow .fz) (.pr (.ow (.pr .fz .fz)) (.pr .fz (.ow .fz))))),(800000002,tW,(.pr .fz .fz))]⟩
def yih:Shape:=⟨[(0,false,[.ptr 1000000000 0]),(3,false,[.ptr 0 0]),(4,false,[.at 800000000]),(5,false,[.bool])],[(0,[.int .i64,.fz tI]),(1000000000,[.int .i64,.int .i64,.int .i64,.at 800000001,.int .i64,.int .i64,.int .i64,.int .i64,.int .i64,.at 800000002,.int .i64,.bool,.bool])],[(800000000,tW,(.pr .fz .fz)),(800000001,tM,(.pr (.ow .fz) (.pr (.ow (.pr .fz .fz)) (.pr .fz (.ow .fz))))),(800000002,tW,(.pr .fz .fz))]⟩
def ymS:Shape:=⟨[],[],[]⟩
abbrev yrQ (v0:Bool) (v1:Int) (v2:dW) (v3:dA) (v4:List dW):(ydy).X:=((((),()),((),()),((),()),(v0,()),(v1,()),()),((v2.1,v2.2,()),(v3.1,v3.2.1.1,v3.2.1.2,(),v3.2.2.2.1,v3.2.2.2.2.1,v3.2.2.2.2.2.1,v3.2.2.2.2.2.2.1,v3.2.2.2.2.2.2.2.1,(),v3.2.2.2.2.2.2.2.2.2.1,v3.2.2.2.2.2.2.2.2.2.2.1,v3.2.2.2.2.2.2.2.2.2.2.2,()),()),(v4,v3.2.2.1,v3.2.2.2.2.2.2.2.2.1,()))
abbrev yQp (v0:dW) (v1:dA) (v2:List dW):(yiv).X:=((((),()),((),()),((),()),((),()),((),()),()),((v0.1,v0.2,()),(v1.1,v1.2.1.1,v1.2.1.2,(),v1.2.2.2.1,v1.2.2.2.2.1,v1.2.2.2.2.2.1,v1.2.2.2.2.2.2.1,v1.2.2.2.2.2.2.2.1,(),v1.2.2.2.2.2.2.2.2.2.1,v1.2.2.2.2.2.2.2.2.2.2.1,v1.2.2.2.2.2.2.2.2.2.2.2,()),()),(v2,v1.2.2.1,v1.2.2.2.2.2.2.2.2.1,()))
abbrev yQb (v0:Bool) (v1:dW) (v2:dA) (v3:List dW):(yih).X:=((((),()),((),()),((),()),(v0,()),()),((v1.1,v1.2,()),(v2.1,v2.2.1.1,v2.2.1.2,(),v2.2.2.2.1,v2.2.2.2.2.1,v2.2.2.2.2.2.1,v2.2.2.2.2.2.2.1,v2.2.2.2.2.2.2.2.1,(),v2.2.2.2.2.2.2.2.2.2.1,v2.2.2.2.2.2.2.2.2.2.2.1,v2.2.2.2.2.2.2.2.2.2.2.2,()),()),(v3,v2.2.2.1,v2.2.2.2.2.2.2.2.2.1,()))
def ysp (v0:Bool) (v1 v2:Int) (v3:List Int) (v4 v5 v6 v7 v8 v9 v10 v11 v12:Int) (v13 v14:Bool) (v15:List dW) (v16:List dM) (v17:List dW):Option ((ydy).X ⊕ ((yih).X ⊕ (ymS).X)) :=bif(ltb v1 (v17.length:Int))then bif(!v0)then bif(inb v1 v17.length)then bif(leb v2 ((nth v17 v1 (0,[])).1))then bif(zkj v15.length ([(v2,v3)]:List dW).length 32)then bif(inb v1 v17.length)then bif((nth v17 v1 (0,[])).1 !=v2)then bif(inb v1 v17.length)then bif(zkj (v15++([(v2,v3)]:List dW)).length ([(nth v17 v1 (0,[]))]:List dW).length 32)then some (.inl ((((),()),((),()),((),()),(true,()),((i64.wrap (v1+1)),()),()),((v2,v3,()),(v4,v5,v6,(),v7,v8,v9,v10,v11,(),v12,v13,v14,()),()),(((v15++([(v2,v3)]:List dW))++([(nth v17 v1 (0,[]))]:List dW)),v16,v17,()))) else none else none else some (.inl ((((),()),((),()),((),()),(true,()),((i64.wrap (v1+1)),()),()),((v2,v3,()),(v4,v5,v6,(),v7,v8,v9,v10,v11,(),v12,v13,v14,()),()),((v15++([(v2,v3)]:List dW)),v16,v17,()))) else none else none else bif(inb v1 v17.length)then bif((nth v17 v1 (0,[])).1 !=v2)then bif(inb v1 v17.length)then bif(zkj v15.length ([(nth v17 v1 (0,[]))]:List dW).length 32)then some (.inl ((((),()),((),()),((),()),(v0,()),((i64.wrap (v1+1)),()),()),((v2,v3,()),(v4,v5,v6,(),v7,v8,v9,v10,v11,(),v12,v13,v14,()),()),((v15++([(nth v17 v1 (0,[]))]:List dW)),v16,v17,()))) else none else none else some (.inl ((((),()),((),()),((),()),(v0,()),((i64.wrap (v1+1)),()),()),((v2,v3,()),(v4,v5,v6,(),v7,v8,v9,v10,v11,(),v12,v13,v14,()),()),(v15,v16,v17,()))) else none else none else bif(inb v1 v17.length)then bif((nth v17 v1 (0,[])).1 !=v2)then bif(inb v1 v17.length)then bif(zkj v15.length ([(nth v17 v1 (0,[]))]:List dW).length 32)then some (.inl ((((),()),((),()),((),()),(v0,()),((i64.wrap (v1+1)),()),()),((v2,v3,()),(v4,v5,v6,(),v7,v8,v9,v10,v11,(),v12,v13,v14,()),()),((v15++([(nth v17 v1 (0,[]))]:List dW)),v16,v17,()))) else none else none else some (.inl ((((),()),((),()),((),()),(v0,()),((i64.wrap (v1+1)),()),()),((v2,v3,()),(v4,v5,v6,(),v7,v8,v9,v10,v11,(),v12,v13,v14,()),()),(v15,v16,v17,()))) else none else some (.inr (.inl ((((),()),((),()),((),()),(v0,()),()),((v2,v3,()),(v4,v5,v6,(),v7,v8,v9,v10,v11,(),v12,v13,v14,()),()),(v15,v16,v17,()))))
def yd6 (x:(ydy).X):=ysp x.1.2.2.2.1.1 x.1.2.2.2.2.1.1 x.2.1.1.1 x.2.1.1.2.1 x.2.1.2.1.1 x.2.1.2.1.2.1 x.2.1.2.1.2.2.1 x.2.1.2.1.2.2.2.2.1 x.2.1.2.1.2.2.2.2.2.1 x.2.1.2.1.2.2.2.2.2.2.1 x.2.1.2.1.2.2.2.2.2.2.2.1 x.2.1.2.1.2.2.2.2.2.2.2.2.1 x.2.1.2.1.2.2.2.2.2.2.2.2.2.2.1 x.2.1.2.1.2.2.2.2.2.2.2.2.2.2.2.1 x.2.1.2.1.2.2.2.2.2.2.2.2.2.2.2.2.1 x.2.2.1 x.2.2.2.1 x.2.2.2.2.1
def yDL (x:(yiv).X):(ydy).X:=((((),()),((),()),((),()),(false,()),(0,()),()),((x.2.1.1.1,x.2.1.1.2.1,()),(x.2.1.2.1.1,x.2.1.2.1.2.1,x.2.1.2.1.2.2.1,(),x.2.1.2.1.2.2.2.2.1,x.2.1.2.1.2.2.2.2.2.1,x.2.1.2.1.2.2.2.2.2.2.1,x.2.1.2.1.2.2.2.2.2.2.2.1,x.2.1.2.1.2.2.2.2.2.2.2.2.1,(),x.2.1.2.1.2.2.2.2.2.2.2.2.2.2.1,x.2.1.2.1.2.2.2.2.2.2.2.2.2.2.2.1,x.2.1.2.1.2.2.2.2.2.2.2.2.2.2.2.2.1,()),()),(x.2.2.1,x.2.2.2.1,x.2.2.2.2.1,()))
def yFi:Code:=(zeJ ysS 64 244).getD .skip
theorem yS1:zeJ ysS 64 61=some (.block 0 (.loop yFi)):=by kernel_rfl
theorem yVM (x:(ydy).X):zhu ⟨yCu,67,yGS⟩ 0 yFi 244 ydy yih ymS x=yd6 x:=by kernel_rfl
def yD1 (x:(yiv).X):Nat:=18446744073709551616
def ytj (x:(yiv).X):Option ((yih).X ⊕ (ymS).X):=zF yd6 (yD1 x) (yDL x)
def yEI:Seg:=⟨yiv,yih,ymS,ytj⟩
def yWk:Nat→Option Seg:=fun q=>bif Nat.beq q 61 then some yEI else yGS q
theorem yTL:FrOk prog ⟨yCu,67,yWk⟩ ysS:=(yTK).loop (sg:=yEI) ydy yDL (by decide) yS1 yd6 yD1 (by decide) (fun _=>rfl) (fun x r _ h=>h) yVM
abbrev ynl:List Par:= [.pt tA (.pr .fz (.pr (.pr .fz .fz) (.pr (.ow (.pr (.ow .fz) (.pr (.ow (.pr .fz .fz)) (.pr .fz (.ow .fz))))) (.pr .fz (.pr .fz (.pr .fz (.pr .fz (.pr .fz (.pr (.ow (.pr .fz .fz)) (.pr .fz (.pr .fz .fz))))))))))),.kp tW .fz]
abbrev ytZ:List OT:= []
def yxm (a0:dA) (a1:dW):Option (zaY ytZ×zak ynl) :=zkr (ytj ((((),()),((),()),((),()),((),()),((),()),()),((a1.1,a1.2,()),(a0.1,a0.2.1.1,a0.2.1.2,(),a0.2.2.2.1,a0.2.2.2.2.1,a0.2.2.2.2.2.1,a0.2.2.2.2.2.2.1,a0.2.2.2.2.2.2.2.1,(),a0.2.2.2.2.2.2.2.2.2.1,a0.2.2.2.2.2.2.2.2.2.2.1,a0.2.2.2.2.2.2.2.2.2.2.2,()),()),(([]:List dW),a0.2.2.1,a0.2.2.2.2.2.2.2.2.1,()))) (fun y0 =>bif(!y0.1.2.2.2.1.1)then bif(zkj y0.2.2.1.length ([(y0.2.1.1.1,y0.2.1.1.2.1)]:List dW).length 32)then some ((),((y0.2.1.2.1.1,(y0.2.1.2.1.2.1,y0.2.1.2.1.2.2.1),y0.2.2.2.1,y0.2.1.2.1.2.2.2.2.1,y0.2.1.2.1.2.2.2.2.2.1,y0.2.1.2.1.2.2.2.2.2.2.1,y0.2.1.2.1.2.2.2.2.2.2.2.1,y0.2.1.2.1.2.2.2.2.2.2.2.2.1,(y0.2.2.1++([(y0.2.1.1.1,y0.2.1.1.2.1)]:List dW)),y0.2.1.2.1.2.2.2.2.2.2.2.2.2.2.1,y0.2.1.2.1.2.2.2.2.2.2.2.2.2.2.2.1,y0.2.1.2.1.2.2.2.2.2.2.2.2.2.2.2.2.1),())) else none else some ((),((y0.2.1.2.1.1,(y0.2.1.2.1.2.1,y0.2.1.2.1.2.2.1),y0.2.2.2.1,y0.2.1.2.1.2.2.2.2.1,y0.2.1.2.1.2.2.2.2.2.1,y0.2.1.2.1.2.2.2.2.2.2.1,y0.2.1.2.1.2.2.2.2.2.2.2.1,y0.2.1.2.1.2.2.2.2.2.2.2.2.1,y0.2.2.1,y0.2.1.2.1.2.2.2.2.2.2.2.2.2.2.1,y0.2.1.2.1.2.2.2.2.2.2.2.2.2.2.2.1,y0.2.1.2.1.2.2.2.2.2.2.2.2.2.2.2.2.1),()))) (fun y0 =>none)
theorem yXR:ConOk prog 183 ⟨ynl,ytZ,fun x=>yxm x.1 x.2.1⟩:=zkG (yTL) func183 ntmps183.symm fun x=>by kernel_rfl
def yuM (a0:dA) (a1:dW):dA:=yxq a0 (yLn a0.2.2.2.2.2.2.2.2.1 a1)
def yEn (a0:dA) (a1:dW):Bool:=decide (a0.2.2.2.2.2.2.2.2.1.length≤1000)
theorem y0r (a0:dA) (a1:dW) (hk:zjw ynl (a0,a1,())) (hq:yEn a0 a1=true):yxm a0 a1=(fun n=>some ((),(n,()))) (yuM a0 a1):=by
 have hq:=of_decide_eq_true hq
 have h1:=zkv (step:=yd6) a0.2.2.2.2.2.2.2.2.1 (0,[]) (fun i s=>yrQ s.1 i a1 a0 s.2) (ycG a1) (fun i s=>s.2.length≤i*2) (fun s=> .inl (yQb s.1 a1 a0 s.2)) (fun i s hi hs=>by
  constructor
  ·simp only[yd6,yrQ,ysp,zkw (show(i:Int)<a0.2.2.2.2.2.2.2.2.1.length by omega),cond_true,wq ((i:Int)+1) (by omega) (by omega),Int.natCast_add,Int.natCast_one,Int.toNat_natCast,zkP hi,zkV,zkQ,ycG,zkD.2 (show(s.2.length+ [a1].length)*32≤140737488355328 by simp only[List.length_cons,List.length_nil]; omega),
    show ∀x:dW,zkj s.2.length [x].length 32=true from fun x=>zkD.2 (by simp only[List.length_cons,List.length_nil]; omega),show ∀x:dW,zkj (s.2++ [a1]).length [x].length 32=true from fun x=>zkD.2 (by simp only[List.length_append,List.length_cons,List.length_nil]; omega)]
   cases s.1<;>cases leb a1.1 (a0.2.2.2.2.2.2.2.2.1.getD i (0,[])).1<;>cases((a0.2.2.2.2.2.2.2.2.1.getD i (0,[])).1 !=a1.1)<;>simp
  ·unfold ycG
   have: ∀(b c:Bool) (x:dW),((bif b then s.2++ [a1]else s.2)++(bif c then[x]else[])).length≤(i+1)*2:=fun b c x=>by
    cases b<;>cases c<;>simp<;>omega
   exact this _ _ _) (fun s hs=>by simp only[yd6,yrQ,ysp,zk1 (Int.le_refl _),cond_false]) (false,[]) (Nat.zero_le _) 18446744073709551616 (by omega)
 have hl:((a0.2.2.2.2.2.2.2.2.1.foldl (ycG a1) (false,[])).2).length≤2000:=by
  have: ∀(l:List dW) (s:Bool×List dW),((l.foldl (ycG a1) s).2).length≤s.2.length+l.length*2:=by
   intro l
   induction l with
   | nil=>intro s; simp
   | cons x t ih =>
    intro s;rw[List.foldl_cons];have:=ih (ycG a1 s x)
    have h2:(ycG a1 s x).2.length≤s.2.length+2:=by
     unfold ycG;cases(!s.1&&leb a1.1 x.1)<;>cases(x.1 !=a1.1)<;>simp
    simp only[List.length_cons]; omega
  have:=this a0.2.2.2.2.2.2.2.2.1 (false,[]);simp only[List.length_nil]at this;omega
 unfold yxm yuM yLn;refine(congrArg (fun z=>zkr z _ _) (show ytj (yQp a1 a0 [])=_ from h1)).trans ?_;generalize a0.2.2.2.2.2.2.2.2.1.foldl (ycG a1) (false,[])=R at hl;simp only[zkL,zkV];cases hr:R.1
 ·rw[zkD.2 (show(R.2.length+ [a1].length)*32≤140737488355328 by simp only[List.length_cons,List.length_nil]; omega)]; rfl
 ·rfl
def yuO (a0:dA) (a1:dW):Option (zaY ytZ×zak ynl):=bif yEn a0 a1 then(fun n=>some ((),(n,()))) (yuM a0 a1)else none
theorem y0J (a0:dA) (a1:dW) (h:yEn a0 a1=true):yuO a0 a1=(fun n=>some ((),(n,()))) (yuM a0 a1):=by unfold yuO; rw[h]; rfl
def yHa:Con:=⟨ynl,ytZ,fun x=>yuO x.1 x.2.1⟩
theorem y0G:ConOk prog 183 yHa:=(yXR).mono (fun x r hk h=>zkW h (fun hq=>y0r x.1 x.2.1 hk hq))
def y01:Code:=(f118.body).getD .skip
def y1c:Env:=zku TT [(180,yAW),(181,yAZ),(182,yDo),(183,yHa)] []
theorem yTM:FrOk prog ⟨y1c,40,fun _=>none⟩ y01:=zky yf yg ⟨yRB,yRE,yVk,y0G,trivial⟩
abbrev ynm:List Par:= [.pt tA (.pr .fz (.pr (.pr .fz .fz) (.pr (.ow (.pr (.ow .fz) (.pr (.ow (.pr .fz .fz)) (.pr .fz (.ow .fz))))) (.pr .fz (.pr .fz (.pr .fz (.pr .fz (.pr .fz (.pr (.ow (.pr .fz .fz)) (.pr .fz (.pr .fz .fz))))))))))),.rd tI,.rd tI]
abbrev yt0:List OT:= [⟨false,tI,.fz⟩]
def yxn (a0:dA) (a1 a2:Int):Option (zaY yt0×zak ynm) :=let r1:=yiZ a0.2.1 a1;bnd (ym5 a0 r1) fun r2 =>bif(!r2.1.2.1)then some ((5,()),(a0,())) else let r3:=yke a0.2.1 a1;bif(inb r3 r2.1.1.length)then bnd (yuO a0 (r1,(r2.1.1.set (r3).toNat a2))) fun r4 =>some ((0,()),(r4.2.1,())) else none
theorem yXS:ConOk prog 118 ⟨ynm,yt0,fun x=>yxn x.1 x.2.1 x.2.2.1⟩:=zkG (yTM) func118 ntmps118.symm fun x=>by kernel_rfl
def yqz (a:dA) (b n:Int):Int×dA:=bif(ybI a (yY a.2.1 b)).2 then(0,yxq a (yLn a.2.2.2.2.2.2.2.2.1 (yY a.2.1 b,(ybI a (yY a.2.1 b)).1.set (ybN a.2.1 b).toNat n)))else(5,a)
def yuN (a0:dA) (a1 a2:Int):Int×dA:=yqz a0 a1 a2
def ynV (a0:dA) (a1 a2:Int):Bool:=yal a0&&(yeP a0.2.1 a1&&decide (a0.2.2.2.2.2.2.2.2.1.length≤1000))
theorem y0s (a0:dA) (a1 a2:Int) (hk:zjw ynm (a0,a1,a2,())) (hq:ynV a0 a1 a2=true):yxn a0 a1 a2=(fun n=>some ((n.1,()),(n.2,()))) (yuN a0 a1 a2):=by
 simp only[ynV,Bool.and_eq_true]at hq;have hs:=yGF hq.2.1;obtain⟨hg,_,hi⟩:=yns hq.2.1;unfold yxn yuN yqz;simp only[yiZ,yke];rw[yRI a0 (yY a0.2.1 a1) hs];simp only[zkF,yi1];cases hn:(ybI a0 (yY a0.2.1 a1)).2
 ·rfl
 ·have hl:=yAl hq.1 hs hn
  have hx:ybN a0.2.1 a1=a1.tmod (a0.2.1.1-1):=by unfold ybN; rw[hq.2.1]; rfl
  rw[zj4.2 (show 0≤ybN a0.2.1 a1∧ybN a0.2.1 a1<(ybI a0 (yY a0.2.1 a1)).1.length by omega),y0J _ _ hq.2.2];rfl
def yfi (a0:dA) (a1 a2:Int):Option (zaY yt0×zak ynm):=bif ynV a0 a1 a2 then(fun n=>some ((n.1,()),(n.2,()))) (yuN a0 a1 a2)else none
theorem y0K (a0:dA) (a1 a2:Int) (h:ynV a0 a1 a2=true):yfi a0 a1 a2=(fun n=>some ((n.1,()),(n.2,()))) (yuN a0 a1 a2):=by unfold yfi; rw[h]; rfl
def yHb:Con:=⟨ynm,yt0,fun x=>yfi x.1 x.2.1 x.2.2.1⟩
theorem y0H:ConOk prog 118 yHb:=(yXS).mono (fun x r hk h=>zkW h (fun hq=>y0s x.1 x.2.1 x.2.2.1 hk hq))
def yZp:Code:=(f147.body).getD .skip
def yZW:Env:=zku TT [] []
theorem yPD:FrOk prog ⟨yZW,58,fun _=>none⟩ yZp:=zky yf yg trivial
abbrev yzl:List Par:= [.pt tU .fz]
abbrev yzR:List OT:= [⟨false,tI,.fz⟩]
def ycg (a0:dU):Option (zaY yzR×zak yzl) :=bif(ltb a0.2.1 (a0.1.length:Int))then bif(inb a0.2.1 a0.1.length)then some (((i64.wrap ((BitVec.ofInt IntKind.i64.bits (i64.wrap ((i64.wrap ((BitVec.ofInt IntKind.i64.bits (i64.wrap ((BitVec.ofInt IntKind.i64.bits ((i64.wrap ((i64.wrap (a0.2.2*6364136223846793005))+1442695040888963407)).fdiv (2^(min (33:Int).toNat IntKind.i64.bits))) ^^^ BitVec.ofInt IntKind.i64.bits ((i64.wrap ((i64.wrap (a0.2.2*6364136223846793005))+1442695040888963407)).fdiv (2^(min (47:Int).toNat IntKind.i64.bits)))).toNat:Int)) &&& BitVec.ofInt IntKind.i64.bits 255).toNat:Int))+(i64.wrap (nth a0.1 a0.2.1 0)))) &&& BitVec.ofInt IntKind.i64.bits 255).toNat:Int)),()),((a0.1,(i64.wrap (a0.2.1+1)),(i64.wrap ((i64.wrap (a0.2.2*6364136223846793005))+1442695040888963407))),())) else none else some (((i64.wrap ((BitVec.ofInt IntKind.i64.bits (i64.wrap ((BitVec.ofInt IntKind.i64.bits ((i64.wrap ((i64.wrap (a0.2.2*6364136223846793005))+1442695040888963407)).fdiv (2^(min (33:Int).toNat IntKind.i64.bits))) ^^^ BitVec.ofInt IntKind.i64.bits ((i64.wrap ((i64.wrap (a0.2.2*6364136223846793005))+1442695040888963407)).fdiv (2^(min (47:Int).toNat IntKind.i64.bits)))).toNat:Int)) &&& BitVec.ofInt IntKind.i64.bits 255).toNat:Int)),()),((a0.1,a0.2.1,(i64.wrap ((i64.wrap (a0.2.2*6364136223846793005))+1442695040888963407))),()))
theorem yUU:ConOk prog 147 ⟨yzl,yzR,fun x=>ycg x.1⟩:=zkG (yPD) func147 ntmps147.symm fun x=>by kernel_rfl
def yFu:Con:=⟨yzl,yzR,fun x=>ycg x.1⟩
theorem yX5:ConOk prog 147 yFu:=yUU
theorem y3x (x:Int):0≤i64.wrap ((BitVec.ofInt IntKind.i64.bits x &&& BitVec.ofInt IntKind.i64.bits 255).toNat:Int)∧i64.wrap ((BitVec.ofInt IntKind.i64.bits x &&& BitVec.ofInt IntKind.i64.bits 255).toNat:Int)≤255:=by
 have h:(BitVec.ofInt IntKind.i64.bits x &&& BitVec.ofInt IntKind.i64.bits 255).toNat≤255:=by
  rw[BitVec.toNat_and];exact Nat.le_trans Nat.and_le_right (by decide)
 rw[wr (by omega) (by omega)];omega
theorem yLN (u:List Int×Int×Int) (h:ycA u): ∃(r:Int) (u':List Int×Int×Int),ycg u=some ((r,()),(u',()))∧(0≤r∧r≤255)∧ycA u':=by
 unfold ycg;by_cases h1:u.2.1<(u.1.length:Int)
 ·rw[zkw h1,zj4.2 ⟨h.1,h1⟩]
  refine⟨_,_,rfl,y3x _,?_,h.2⟩;show 0≤i64.wrap (u.2.1+1);have:=h.1; have:=h.2;rw[wr (by omega) (by omega)]; omega
 ·rw[zk1 (Int.not_lt.1 h1)]
  exact⟨_,_,rfl,y3x _,h⟩
def yV5:Code:=(f72.body).getD .skip
def yWw:Env:=zku TT [(147,yFu)] []
theorem yMW:FrOk prog ⟨yWw,31,fun _=>none⟩ yV5:=zky yf yg ⟨yX5,trivial⟩
abbrev yws:List Par:= [.pt tU .fz,.rd tI]
abbrev ywM:List OT:= [⟨false,tI,.fz⟩]
def yn (a0:dU) (a1:Int):Option (zaY ywM×zak yws) :=bif(leb a1 0)then some ((0,()),(a0,())) else bif(leb a1 256)then bnd (ycg a0) fun r1 =>bif(a1 !=0)then some (((r1.1.1.tmod a1),()),(r1.2.1,())) else none else bnd (ycg a0) fun r2 =>bnd (ycg r2.2.1) fun r3 =>bnd (ycg r3.2.1) fun r4 =>bif(a1 !=0)then some ((((i64.wrap ((i64.wrap ((i64.wrap (r2.1.1*65536))+(i64.wrap (r3.1.1*256))))+r4.1.1)).tmod a1),()),(r4.2.1,())) else none
theorem yRg:ConOk prog 72 ⟨yws,ywM,fun x=>yn x.1 x.2.1⟩:=zkG (yMW) func72 ntmps72.symm fun x=>by kernel_rfl
def ya0:Con:=⟨yws,ywM,fun x=>yn x.1 x.2.1⟩
theorem ycf:ConOk prog 72 ya0:=yRg
theorem ycV (u:List Int×Int×Int) (n:Int) (h:ycA u): ∃(r:Int) (u':List Int×Int×Int),yn u n=some ((r,()),(u',()))∧(0≤r∧(0<n→r<n)∧(n≤0→r=0))∧ycA u':=by
 unfold yn;by_cases h0:n≤0
 ·rw[zk0 h0]
  exact⟨_,_,rfl,⟨Int.le_refl _,fun h=>absurd h0 (by omega),fun _=>rfl⟩,h⟩
 ·have hn:(n !=0)=true:=bne_iff_ne.2 (by omega)
  have key: ∀x:Int,0≤x→0≤x.tmod n∧(0<n→x.tmod n<n)∧(n≤0→x.tmod n=0):=fun x hx =>
   ⟨Int.tmod_nonneg n hx,fun hp=>Int.tmod_lt_of_pos x hp,fun hp=>absurd hp h0⟩
  rw[zkZ (by omega)];by_cases h1:n≤256
  ·rw[zk0 h1]
   obtain⟨r1,u1,e1,q1,d1⟩:=yLN u h;rw[e1,zkX,zkY,zkF,hn];exact⟨_,_,rfl,key r1 q1.1,d1⟩
  ·rw[zkZ (by omega)]
   obtain⟨r1,u1,e1,q1,d1⟩:=yLN u h;obtain⟨r2,u2,e2,q2,d2⟩:=yLN u1 d1;obtain⟨r3,u3,e3,q3,d3⟩:=yLN u2 d2;simp only[e1,e2,e3,zkX,zkF,hn,zkY];refine⟨_,_,rfl,key _ ?_,d3⟩;rw[wq (r1*65536) (by omega) (by omega),wq (r2*256) (by omega) (by omega),wq (r1*65536+r2*256) (by omega) (by omega),wr (by omega) (by omega)];omega
def yqF:Code:=(f177.body).getD .skip
def yy1:Env:=zku TT [(82,yM)] [(28864,.fz),(28928,.fz)]
theorem yPz:FrOk prog ⟨yy1,22,fun _=>none⟩ yqF:=zky yf yg ⟨yX,trivial⟩
def yET:Nat→Option Seg:=fun _=>none
def ycN:Shape:=⟨[(0,false,[.int .i64]),(2,false,[.ptr 0 0]),(3,false,[.ptr 12352 0]),(4,false,[.int .i64])],[(0,[.nil,.nil,.bool,.nil]),(12352,[.at 800000000,.nil,.bool,.nil])],[(800000000,tL,.fz)]⟩
def yg2:Shape:=⟨[(0,false,[.int .i64]),(2,false,[.ptr 0 0]),(3,false,[.ptr 12352 0]),(4,false,[.ci .i64 0])],[(0,[.nil,.nil,.bool,.nil]),(12352,[.at 800000000,.nil,.bool,.nil])],[(800000000,tL,.fz)]⟩
def ygR:Shape:=⟨[(2,false,[.ptr 0 0]),(3,false,[.ptr 12352 0])],[(0,[.nil,.nil,.bool,.nil]),(12352,[.at 800000000,.nil,.bool,.nil])],[(800000000,tL,.fz)]⟩
def ykP:Shape:=⟨[],[],[]⟩
abbrev ypF (v0 v1:Int) (v2 v3:dM):(ycN).X:=(((v0,()),((),()),((),()),(v1,()),()),(((),(),v2.2.2.1,(),()),((),(),v3.2.2.1,(),()),()),(v3.1,()))
abbrev yNh (v0:Int) (v1 v2:dM):(yg2).X:=(((v0,()),((),()),((),()),((),()),()),(((),(),v1.2.2.1,(),()),((),(),v2.2.2.1,(),()),()),(v2.1,()))
abbrev yNa (v0 v1:dM):(ygR).X:=((((),()),((),()),()),(((),(),v0.2.2.1,(),()),((),(),v1.2.2.1,(),()),()),(v1.1,()))
def yqd (v0 v1:Int) (v2 v3:Bool) (v4:List (List Int)):Option ((ycN).X ⊕ ((ygR).X ⊕ (ykP).X)) :=bif(ltb v1 v0)then bif(zkj v4.length ([([]:List Int)]:List (List Int)).length 24)then some (.inl (((v0,()),((),()),((),()),((i64.wrap (v1+1)),()),()),(((),(),v2,(),()),((),(),v3,(),()),()),((v4++([([]:List Int)]:List (List Int))),()))) else none else some (.inr (.inl ((((),()),((),()),()),(((),(),v2,(),()),((),(),v3,(),()),()),(v4,()))))
def ydb (x:(ycN).X):=yqd x.1.1.1 x.1.2.2.2.1.1 x.2.1.1.2.2.1 x.2.1.2.1.2.2.1 x.2.2.1
def yA4 (x:(yg2).X):(ycN).X:=(((x.1.1.1,()),((),()),((),()),(0,()),()),(((),(),x.2.1.1.2.2.1,(),()),((),(),x.2.1.2.1.2.2.1,(),()),()),(x.2.2.1,()))
def yC6:Code:=(zeJ yqF 64 244).getD .skip
theorem yOT:zeJ yqF 64 61=some (.block 0 (.loop yC6)):=by kernel_rfl
theorem yRN (x:(ycN).X):zhu ⟨yy1,22,yET⟩ 0 yC6 244 ycN ygR ykP x=ydb x:=by kernel_rfl
def yBf (x:(yg2).X):Nat:=18446744073709551616
def yrl (x:(yg2).X):Option ((ygR).X ⊕ (ykP).X):=zF ydb (yBf x) (yA4 x)
def yBE:Seg:=⟨yg2,ygR,ykP,yrl⟩
def ySn:Nat→Option Seg:=fun q=>bif Nat.beq q 61 then some yBE else yET q
theorem yPA:FrOk prog ⟨yy1,22,ySn⟩ yqF:=(yPz).loop (sg:=yBE) ycN yA4 (by decide) yOT ydb yBf (by decide) (fun _=>rfl) (fun x r _ h=>h) yRN
abbrev yqV:List Par:= [.rd tI]
abbrev yzO:List OT:= [⟨false,tM,(.pr (.ow .fz) (.pr (.ow (.pr .fz .fz)) (.pr .fz (.ow .fz))))⟩]
def yu4 (a0:Int):Option (zaY yzO×zak yqV) :=let r1:=yb a0 1 20;bif(!r1)then some ((([],[],false,[]),()),()) else zkr (yrl (((a0,()),((),()),((),()),((),()),()),(((),(),false,(),()),((),(),false,(),()),()),([],()))) (fun y1 =>some (((y1.2.2.1,[],y1.2.1.2.1.2.2.1,[]),()),())) (fun y1 =>none)
theorem yUR:ConOk prog 177 ⟨yqV,yzO,fun x=>yu4 x.1⟩:=zkG (yPA) func177 ntmps177.symm fun x=>by kernel_rfl
def yea (a0:Int):dM:=ya5 a0
theorem yXh (a0:Int) (hk:zjw yqV (a0,())):yu4 a0=(fun n=>some ((n,()),())) (yea a0):=by
 unfold yu4 yea ya5;simp only[ybM];cases hc:(leb 1 a0&&leb a0 20)
 ·rfl
 ·rw[Bool.and_eq_true,zj5,zj5]at hc
  have h1:yrl (yNh a0 yc yc)=some (.inl (yNa yc (List.replicate a0.toNat [],[],false,[]))) :=
   zkJ (step:=ydb) (fun i=>ypF a0 i yc (List.replicate i [],[],false,[])) a0.toNat _ (fun i hi=>by
    simp only[ydb,ypF,yqd,zkw (show(i:Int)<a0 by omega),cond_true,wq ((i:Int)+1) (by omega) (by omega),Int.natCast_add,Int.natCast_one,Int.toNat_natCast]
    rw[zkD.2 (show((List.replicate i ([]:List Int)).length+([[]]:List (List Int)).length)*24≤140737488355328 by simp only[List.length_cons,List.length_nil,List.length_replicate]; omega),← List.replicate_succ']; rfl) (by simp only[ydb,ypF,yqd,zk1 (show a0≤(a0.toNat:Int)by omega),cond_false]) _ (by show _<18446744073709551616; omega)
  rw[h1]; rfl
def yuh:Con:=⟨yqV,yzO,fun x=>(fun n=>some ((n,()),())) (yea x.1)⟩
theorem yHw:ConOk prog 177 yuh:=(yUR).mono (fun x r hk h=>(yXh x.1 hk).trans h)
def yfE:Code:=(f115.body).getD .skip
def ylj:Env:=zku TT [(82,yM),(113,yfs),(144,ypB),(150,ygz),(177,yuh),(178,ymY)] [(53440,(.pr (.ow .fz) (.pr (.ow (.pr .fz .fz)) (.pr .fz (.ow .fz))))),(53504,(.pr (.ow .fz) (.pr (.ow (.pr .fz .fz)) (.pr .fz (.ow .fz)))))]
theorem yPs:FrOk prog ⟨ylj,60,fun _=>none⟩ yfE:=zky yf yg ⟨yX,yko,yEj,ylJ,yHw,yw2,trivial⟩
def yES:Nat→Option Seg:=fun _=>none
def ybg:Shape:=⟨[(0,false,[.int .i64]),(3,false,[.ptr 0 0]),(4,false,[.ptr 64 0]),(5,false,[.ptr 12480 0]),(6,false,[.int .i64]),(7,false,[.ptr 28864 0]),(8,false,[.int .i64])],[(0,[.int .i64,.int .i64]),(64,[.int .i64,.int .i64,.int .i64,.nil,.int .i64,.int .i64,.int .i64,.int .i64,.int .i64,.nil,.int .i64,.bool,.bool]),(12480,[.int .i64,.int .i64,.int .i64,.at 800000000,.int .i64,.int .i64,.int .i64,.int .i64,.int .i64,.nil,.int .i64,.bool,.bool]),(28864,[.at 800000001,.at 800000002,.bool,.at 800000003])],[(800000000,tM,(.pr (.ow .fz) (.pr (.ow (.pr .fz .fz)) (.pr .fz (.ow .fz))))),(800000001,tL,.fz),(800000002,tW,(.pr .fz .fz)),(800000003,tI,.fz)]⟩
def yeo:Shape:=⟨[(0,false,[.int .i64]),(3,false,[.ptr 0 0]),(4,false,[.ptr 64 0]),(5,false,[.ptr 12480 0]),(6,false,[.int .i64]),(7,false,[.ptr 28864 0]),(8,false,[.ci .i64 0])],[(0,[.int .i64,.int .i64]),(64,[.int .i64,.int .i64,.int .i64,.nil,.int .i64,.int .i64,.int .i64,.int .i64,.int .i64,.nil,.int .i64,.bool,.bool]),(12480,[.int .i64,.int .i64,.int .i64,.at 800000000,.int .i64,.int .i64,.int .i64,.int .i64,.int .i64,.nil,.int .i64,.bool,.bool]),(28864,[.at 800000001,.at 800000002,.bool,.at 800000003])],[(800000000,tM,(.pr (.ow .fz) (.pr (.ow (.pr .fz .fz)) (.pr .fz (.ow .fz))))),(800000001,tL,.fz),(800000002,tW,(.pr .fz .fz)),(800000003,tI,.fz)]⟩
def yei:Shape:=⟨[(0,false,[.int .i64]),(3,false,[.ptr 0 0]),(4,false,[.ptr 64 0]),(5,false,[.ptr 12480 0]),(6,false,[.int .i64]),(7,false,[.ptr 28864 0])],[(0,[.int .i64,.int .i64]),(64,[.int .i64,.int .i64,.int .i64,.nil,.int .i64,.int .i64,.int .i64,.int .i64,.int .i64,.nil,.int .i64,.bool,.bool]),(12480,[.int .i64,.int .i64,.int .i64,.at 800000000,.int .i64,.int .i64,.int .i64,.int .i64,.int .i64,.nil,.int .i64,.bool,.bool]),(28864,[.at 800000001,.at 800000002,.bool,.at 800000003])],[(800000000,tM,(.pr (.ow .fz) (.pr (.ow (.pr .fz .fz)) (.pr .fz (.ow .fz))))),(800000001,tL,.fz),(800000002,tW,(.pr .fz .fz)),(800000003,tI,.fz)]⟩
def yhy:Shape:=⟨[],[],[]⟩
abbrev yk3 (v0 v1 v2:Int) (v3:dG) (v4 v5:dA) (v6:dM):(ybg).X:=(((v0,()),((),()),((),()),((),()),(v1,()),((),()),(v2,()),()),((v3.1,v3.2,()),(v4.1,v4.2.1.1,v4.2.1.2,(),v4.2.2.2.1,v4.2.2.2.2.1,v4.2.2.2.2.2.1,v4.2.2.2.2.2.2.1,v4.2.2.2.2.2.2.2.1,(),v4.2.2.2.2.2.2.2.2.2.1,v4.2.2.2.2.2.2.2.2.2.2.1,v4.2.2.2.2.2.2.2.2.2.2.2,()),(v5.1,v5.2.1.1,v5.2.1.2,(),v5.2.2.2.1,v5.2.2.2.2.1,v5.2.2.2.2.2.1,v5.2.2.2.2.2.2.1,v5.2.2.2.2.2.2.2.1,(),v5.2.2.2.2.2.2.2.2.2.1,v5.2.2.2.2.2.2.2.2.2.2.1,v5.2.2.2.2.2.2.2.2.2.2.2,()),((),(),v6.2.2.1,(),()),()),(v5.2.2.1,v6.1,v6.2.1,v6.2.2.2,()))
abbrev yIe (v0 v1:Int) (v2:dG) (v3 v4:dA) (v5:dM):(yeo).X:=(((v0,()),((),()),((),()),((),()),(v1,()),((),()),((),()),()),((v2.1,v2.2,()),(v3.1,v3.2.1.1,v3.2.1.2,(),v3.2.2.2.1,v3.2.2.2.2.1,v3.2.2.2.2.2.1,v3.2.2.2.2.2.2.1,v3.2.2.2.2.2.2.2.1,(),v3.2.2.2.2.2.2.2.2.2.1,v3.2.2.2.2.2.2.2.2.2.2.1,v3.2.2.2.2.2.2.2.2.2.2.2,()),(v4.1,v4.2.1.1,v4.2.1.2,(),v4.2.2.2.1,v4.2.2.2.2.1,v4.2.2.2.2.2.1,v4.2.2.2.2.2.2.1,v4.2.2.2.2.2.2.2.1,(),v4.2.2.2.2.2.2.2.2.2.1,v4.2.2.2.2.2.2.2.2.2.2.1,v4.2.2.2.2.2.2.2.2.2.2.2,()),((),(),v5.2.2.1,(),()),()),(v4.2.2.1,v5.1,v5.2.1,v5.2.2.2,()))
abbrev yuK (v0 v1:Int) (v2:dG) (v3 v4:dA) (v5:dM):(yei).X:=(((v0,()),((),()),((),()),((),()),(v1,()),((),()),()),((v2.1,v2.2,()),(v3.1,v3.2.1.1,v3.2.1.2,(),v3.2.2.2.1,v3.2.2.2.2.1,v3.2.2.2.2.2.1,v3.2.2.2.2.2.2.1,v3.2.2.2.2.2.2.2.1,(),v3.2.2.2.2.2.2.2.2.2.1,v3.2.2.2.2.2.2.2.2.2.2.1,v3.2.2.2.2.2.2.2.2.2.2.2,()),(v4.1,v4.2.1.1,v4.2.1.2,(),v4.2.2.2.1,v4.2.2.2.2.1,v4.2.2.2.2.2.1,v4.2.2.2.2.2.2.1,v4.2.2.2.2.2.2.2.1,(),v4.2.2.2.2.2.2.2.2.2.1,v4.2.2.2.2.2.2.2.2.2.2.1,v4.2.2.2.2.2.2.2.2.2.2.2,()),((),(),v5.2.2.1,(),()),()),(v4.2.2.1,v5.1,v5.2.1,v5.2.2.2,()))
def ylf (v0 v1 v2 v3 v4 v5 v6 v7 v8 v9 v10 v11 v12 v13:Int) (v14 v15:Bool) (v16 v17 v18 v19 v20 v21 v22 v23 v24:Int) (v25 v26 v27:Bool) (v28:List dM) (v29:List (List Int)) (v30:List dW) (v31:List Int):Option ((ybg).X ⊕ ((yei).X ⊕ (yhy).X)) :=bif(ltb v2 v4)then let r13:=ybK v2;bif(inb r13 v29.length)then some (.inl (((v0,()),((),()),((),()),((),()),(v1,()),((),()),((i64.wrap (v2+1)),()),()),((v3,v4,()),(v5,v6,v7,(),v8,v9,v10,v11,v12,(),v13,v14,v15,()),(v16,v17,v18,(),v19,v20,v21,v22,v23,(),v24,v25,v26,()),((),(),v27,(),()),()),(v28,(v29.set (r13).toNat ([0]:List Int)),v30,v31,()))) else none else some (.inr (.inl (((v0,()),((),()),((),()),((),()),(v1,()),((),()),()),((v3,v4,()),(v5,v6,v7,(),v8,v9,v10,v11,v12,(),v13,v14,v15,()),(v16,v17,v18,(),v19,v20,v21,v22,v23,(),v24,v25,v26,()),((),(),v27,(),()),()),(v28,v29,v30,v31,()))))
def ybu (x:(ybg).X):=ylf x.1.1.1 x.1.2.2.2.2.1.1 x.1.2.2.2.2.2.2.1.1 x.2.1.1.1 x.2.1.1.2.1 x.2.1.2.1.1 x.2.1.2.1.2.1 x.2.1.2.1.2.2.1 x.2.1.2.1.2.2.2.2.1 x.2.1.2.1.2.2.2.2.2.1 x.2.1.2.1.2.2.2.2.2.2.1 x.2.1.2.1.2.2.2.2.2.2.2.1 x.2.1.2.1.2.2.2.2.2.2.2.2.1 x.2.1.2.1.2.2.2.2.2.2.2.2.2.2.1 x.2.1.2.1.2.2.2.2.2.2.2.2.2.2.2.1 x.2.1.2.1.2.2.2.2.2.2.2.2.2.2.2.2.1 x.2.1.2.2.1.1 x.2.1.2.2.1.2.1 x.2.1.2.2.1.2.2.1 x.2.1.2.2.1.2.2.2.2.1 x.2.1.2.2.1.2.2.2.2.2.1 x.2.1.2.2.1.2.2.2.2.2.2.1 x.2.1.2.2.1.2.2.2.2.2.2.2.1 x.2.1.2.2.1.2.2.2.2.2.2.2.2.1 x.2.1.2.2.1.2.2.2.2.2.2.2.2.2.2.1 x.2.1.2.2.1.2.2.2.2.2.2.2.2.2.2.2.1 x.2.1.2.2.1.2.2.2.2.2.2.2.2.2.2.2.2.1 x.2.1.2.2.2.1.2.2.1 x.2.2.1 x.2.2.2.1 x.2.2.2.2.1 x.2.2.2.2.2.1
def yup (x:(yeo).X):(ybg).X:=(((x.1.1.1,()),((),()),((),()),((),()),(x.1.2.2.2.2.1.1,()),((),()),(0,()),()),((x.2.1.1.1,x.2.1.1.2.1,()),(x.2.1.2.1.1,x.2.1.2.1.2.1,x.2.1.2.1.2.2.1,(),x.2.1.2.1.2.2.2.2.1,x.2.1.2.1.2.2.2.2.2.1,x.2.1.2.1.2.2.2.2.2.2.1,x.2.1.2.1.2.2.2.2.2.2.2.1,x.2.1.2.1.2.2.2.2.2.2.2.2.1,(),x.2.1.2.1.2.2.2.2.2.2.2.2.2.2.1,x.2.1.2.1.2.2.2.2.2.2.2.2.2.2.2.1,x.2.1.2.1.2.2.2.2.2.2.2.2.2.2.2.2.1,()),(x.2.1.2.2.1.1,x.2.1.2.2.1.2.1,x.2.1.2.2.1.2.2.1,(),x.2.1.2.2.1.2.2.2.2.1,x.2.1.2.2.1.2.2.2.2.2.1,x.2.1.2.2.1.2.2.2.2.2.2.1,x.2.1.2.2.1.2.2.2.2.2.2.2.1,x.2.1.2.2.1.2.2.2.2.2.2.2.2.1,(),x.2.1.2.2.1.2.2.2.2.2.2.2.2.2.2.1,x.2.1.2.2.1.2.2.2.2.2.2.2.2.2.2.2.1,x.2.1.2.2.1.2.2.2.2.2.2.2.2.2.2.2.2.1,()),((),(),x.2.1.2.2.2.1.2.2.1,(),()),()),(x.2.2.1,x.2.2.2.1,x.2.2.2.2.1,x.2.2.2.2.2.1,()))
def yvr:Code:=(zeJ yfE 64 125236).getD .skip
theorem yIV:zeJ yfE 64 31309=some (.block 2 (.loop yvr)):=by kernel_rfl
theorem yJy (x:(ybg).X):zhu ⟨ylj,60,yES⟩ 2 yvr 125236 ybg yei yhy x=ybu x:=by kernel_rfl
def yux (x:(yeo).X):Nat:=18446744073709551616
def ylU (x:(yeo).X):Option ((yei).X ⊕ (yhy).X):=zF ybu (yux x) (yup x)
def yvg:Seg:=⟨yeo,yei,yhy,ylU⟩
def ysV:Nat→Option Seg:=fun q=>bif Nat.beq q 31309 then some yvg else yES q
theorem yPt:FrOk prog ⟨ylj,60,ysV⟩ yfE:=(yPs).loop (sg:=yvg) ybg yup (by decide) yIV ybu yux (by decide) (fun _=>rfl) (fun x r _ h=>h) yJy
def ycM:Shape:=⟨[(0,false,[.int .i64]),(3,false,[.ptr 0 0]),(4,false,[.ptr 64 0]),(5,false,[.ptr 12480 0]),(6,false,[.int .i64])],[(0,[.int .i64,.int .i64]),(64,[.int .i64,.int .i64,.int .i64,.nil,.int .i64,.int .i64,.int .i64,.int .i64,.int .i64,.nil,.int .i64,.bool,.bool]),(12480,[.int .i64,.int .i64,.int .i64,.at 800000000,.int .i64,.int .i64,.int .i64,.int .i64,.int .i64,.nil,.int .i64,.bool,.bool])],[(800000000,tM,(.pr (.ow .fz) (.pr (.ow (.pr .fz .fz)) (.pr .fz (.ow .fz)))))]⟩
def yg1:Shape:=⟨[(0,false,[.int .i64]),(3,false,[.ptr 0 0]),(4,false,[.ptr 64 0]),(5,false,[.ptr 12480 0]),(6,false,[.ci .i64 0])],[(0,[.int .i64,.int .i64]),(64,[.int .i64,.int .i64,.int .i64,.nil,.int .i64,.int .i64,.int .i64,.int .i64,.int .i64,.nil,.int .i64,.bool,.bool]),(12480,[.int .i64,.int .i64,.int .i64,.at 800000000,.int .i64,.int .i64,.int .i64,.int .i64,.int .i64,.nil,.int .i64,.bool,.bool])],[(800000000,tM,(.pr (.ow .fz) (.pr (.ow (.pr .fz .fz)) (.pr .fz (.ow .fz)))))]⟩
def ygQ:Shape:=⟨[(4,false,[.ptr 64 0]),(5,false,[.ptr 12480 0])],[(64,[.int .i64,.int .i64,.int .i64,.nil,.int .i64,.int .i64,.int .i64,.int .i64,.int .i64,.nil,.int .i64,.bool,.bool]),(12480,[.int .i64,.int .i64,.int .i64,.at 800000000,.int .i64,.int .i64,.int .i64,.int .i64,.int .i64,.nil,.int .i64,.bool,.bool])],[(800000000,tM,(.pr (.ow .fz) (.pr (.ow (.pr .fz .fz)) (.pr .fz (.ow .fz)))))]⟩
def ykO:Shape:=⟨[],[],[]⟩
abbrev yjB (v0 v1:Int) (v2:dG) (v3 v4:dA):(ycM).X:=(((v0,()),((),()),((),()),((),()),(v1,()),()),((v2.1,v2.2,()),(v3.1,v3.2.1.1,v3.2.1.2,(),v3.2.2.2.1,v3.2.2.2.2.1,v3.2.2.2.2.2.1,v3.2.2.2.2.2.2.1,v3.2.2.2.2.2.2.2.1,(),v3.2.2.2.2.2.2.2.2.2.1,v3.2.2.2.2.2.2.2.2.2.2.1,v3.2.2.2.2.2.2.2.2.2.2.2,()),(v4.1,v4.2.1.1,v4.2.1.2,(),v4.2.2.2.1,v4.2.2.2.2.1,v4.2.2.2.2.2.1,v4.2.2.2.2.2.2.1,v4.2.2.2.2.2.2.2.1,(),v4.2.2.2.2.2.2.2.2.2.1,v4.2.2.2.2.2.2.2.2.2.2.1,v4.2.2.2.2.2.2.2.2.2.2.2,()),()),(v4.2.2.1,()))
abbrev yNg (v0:Int) (v1:dG) (v2 v3:dA):(yg1).X:=(((v0,()),((),()),((),()),((),()),((),()),()),((v1.1,v1.2,()),(v2.1,v2.2.1.1,v2.2.1.2,(),v2.2.2.2.1,v2.2.2.2.2.1,v2.2.2.2.2.2.1,v2.2.2.2.2.2.2.1,v2.2.2.2.2.2.2.2.1,(),v2.2.2.2.2.2.2.2.2.2.1,v2.2.2.2.2.2.2.2.2.2.2.1,v2.2.2.2.2.2.2.2.2.2.2.2,()),(v3.1,v3.2.1.1,v3.2.1.2,(),v3.2.2.2.1,v3.2.2.2.2.1,v3.2.2.2.2.2.1,v3.2.2.2.2.2.2.1,v3.2.2.2.2.2.2.2.1,(),v3.2.2.2.2.2.2.2.2.2.1,v3.2.2.2.2.2.2.2.2.2.2.1,v3.2.2.2.2.2.2.2.2.2.2.2,()),()),(v3.2.2.1,()))
abbrev yBn (v0 v1:dA):(ygQ).X:=((((),()),((),()),()),((v0.1,v0.2.1.1,v0.2.1.2,(),v0.2.2.2.1,v0.2.2.2.2.1,v0.2.2.2.2.2.1,v0.2.2.2.2.2.2.1,v0.2.2.2.2.2.2.2.1,(),v0.2.2.2.2.2.2.2.2.2.1,v0.2.2.2.2.2.2.2.2.2.2.1,v0.2.2.2.2.2.2.2.2.2.2.2,()),(v1.1,v1.2.1.1,v1.2.1.2,(),v1.2.2.2.1,v1.2.2.2.2.1,v1.2.2.2.2.2.1,v1.2.2.2.2.2.2.1,v1.2.2.2.2.2.2.2.1,(),v1.2.2.2.2.2.2.2.2.2.1,v1.2.2.2.2.2.2.2.2.2.2.1,v1.2.2.2.2.2.2.2.2.2.2.2,()),()),(v1.2.2.1,()))
def yqc (v0 v1 v2 v3 v4 v5 v6 v7 v8 v9 v10 v11 v12:Int) (v13 v14:Bool) (v15 v16 v17 v18 v19 v20 v21 v22 v23:Int) (v24 v25:Bool) (v26:List dM):Option ((ycM).X ⊕ ((ygQ).X ⊕ (ykO).X)) :=bif(ltb v1 v2)then let r15:=ycI (v2,v3);let r16:=yea r15;let r17:=ym (v0,0,v1,v2,v3,0,(-1),0);bif(inb 0 r16.1.length)then zkr (ylU (((v0,()),((),()),((),()),((),()),(v1,()),((),()),((),()),()),((v2,v3,()),(v4,v5,v6,(),v7,v8,v9,v10,v11,(),v12,v13,v14,()),(v15,v16,v17,(),v18,v19,v20,v21,v22,(),v23,v24,v25,()),((),(),r16.2.2.1,(),()),()),(v26,(r16.1.set (0:Int).toNat r17),r16.2.1,r16.2.2.2,()))) (fun y17 =>bif(zkj y17.2.2.1.length ([(y17.2.2.2.1,y17.2.2.2.2.1,y17.2.1.2.2.2.1.2.2.1,y17.2.2.2.2.2.1)]:List dM).length 80)then some (.inl (((y17.1.1.1,()),((),()),((),()),((),()),((i64.wrap (y17.1.2.2.2.2.1.1+1)),()),()),((y17.2.1.1.1,y17.2.1.1.2.1,()),(y17.2.1.2.1.1,y17.2.1.2.1.2.1,y17.2.1.2.1.2.2.1,(),y17.2.1.2.1.2.2.2.2.1,y17.2.1.2.1.2.2.2.2.2.1,y17.2.1.2.1.2.2.2.2.2.2.1,y17.2.1.2.1.2.2.2.2.2.2.2.1,y17.2.1.2.1.2.2.2.2.2.2.2.2.1,(),y17.2.1.2.1.2.2.2.2.2.2.2.2.2.2.1,y17.2.1.2.1.2.2.2.2.2.2.2.2.2.2.2.1,y17.2.1.2.1.2.2.2.2.2.2.2.2.2.2.2.2.1,()),(y17.2.1.2.2.1.1,y17.2.1.2.2.1.2.1,y17.2.1.2.2.1.2.2.1,(),y17.2.1.2.2.1.2.2.2.2.1,y17.2.1.2.2.1.2.2.2.2.2.1,y17.2.1.2.2.1.2.2.2.2.2.2.1,y17.2.1.2.2.1.2.2.2.2.2.2.2.1,y17.2.1.2.2.1.2.2.2.2.2.2.2.2.1,(),y17.2.1.2.2.1.2.2.2.2.2.2.2.2.2.2.1,y17.2.1.2.2.1.2.2.2.2.2.2.2.2.2.2.2.1,y17.2.1.2.2.1.2.2.2.2.2.2.2.2.2.2.2.2.1,()),()),((y17.2.2.1++([(y17.2.2.2.1,y17.2.2.2.2.1,y17.2.1.2.2.2.1.2.2.1,y17.2.2.2.2.2.1)]:List dM)),()))) else none) (fun y17 =>some (.inr (.inr ((),(),())))) else none else some (.inr (.inl ((((),()),((),()),()),((v4,v5,v6,(),v7,v8,v9,v10,v11,(),v12,v13,v14,()),(v15,v16,v17,(),v18,v19,v20,v21,v22,(),v23,v24,v25,()),()),(v26,()))))
def yda (x:(ycM).X):=yqc x.1.1.1 x.1.2.2.2.2.1.1 x.2.1.1.1 x.2.1.1.2.1 x.2.1.2.1.1 x.2.1.2.1.2.1 x.2.1.2.1.2.2.1 x.2.1.2.1.2.2.2.2.1 x.2.1.2.1.2.2.2.2.2.1 x.2.1.2.1.2.2.2.2.2.2.1 x.2.1.2.1.2.2.2.2.2.2.2.1 x.2.1.2.1.2.2.2.2.2.2.2.2.1 x.2.1.2.1.2.2.2.2.2.2.2.2.2.2.1 x.2.1.2.1.2.2.2.2.2.2.2.2.2.2.2.1 x.2.1.2.1.2.2.2.2.2.2.2.2.2.2.2.2.1 x.2.1.2.2.1.1 x.2.1.2.2.1.2.1 x.2.1.2.2.1.2.2.1 x.2.1.2.2.1.2.2.2.2.1 x.2.1.2.2.1.2.2.2.2.2.1 x.2.1.2.2.1.2.2.2.2.2.2.1 x.2.1.2.2.1.2.2.2.2.2.2.2.1 x.2.1.2.2.1.2.2.2.2.2.2.2.2.1 x.2.1.2.2.1.2.2.2.2.2.2.2.2.2.2.1 x.2.1.2.2.1.2.2.2.2.2.2.2.2.2.2.2.1 x.2.1.2.2.1.2.2.2.2.2.2.2.2.2.2.2.2.1 x.2.2.1
def yA3 (x:(yg1).X):(ycM).X:=(((x.1.1.1,()),((),()),((),()),((),()),(0,()),()),((x.2.1.1.1,x.2.1.1.2.1,()),(x.2.1.2.1.1,x.2.1.2.1.2.1,x.2.1.2.1.2.2.1,(),x.2.1.2.1.2.2.2.2.1,x.2.1.2.1.2.2.2.2.2.1,x.2.1.2.1.2.2.2.2.2.2.1,x.2.1.2.1.2.2.2.2.2.2.2.1,x.2.1.2.1.2.2.2.2.2.2.2.2.1,(),x.2.1.2.1.2.2.2.2.2.2.2.2.2.2.1,x.2.1.2.1.2.2.2.2.2.2.2.2.2.2.2.1,x.2.1.2.1.2.2.2.2.2.2.2.2.2.2.2.2.1,()),(x.2.1.2.2.1.1,x.2.1.2.2.1.2.1,x.2.1.2.2.1.2.2.1,(),x.2.1.2.2.1.2.2.2.2.1,x.2.1.2.2.1.2.2.2.2.2.1,x.2.1.2.2.1.2.2.2.2.2.2.1,x.2.1.2.2.1.2.2.2.2.2.2.2.1,x.2.1.2.2.1.2.2.2.2.2.2.2.2.1,(),x.2.1.2.2.1.2.2.2.2.2.2.2.2.2.2.1,x.2.1.2.2.1.2.2.2.2.2.2.2.2.2.2.2.1,x.2.1.2.2.1.2.2.2.2.2.2.2.2.2.2.2.2.1,()),()),(x.2.2.1,()))
def yC5:Code:=(zeJ yfE 64 244).getD .skip
theorem yOS:zeJ yfE 64 61=some (.block 0 (.loop yC5)):=by kernel_rfl
theorem yRM (x:(ycM).X):zhu ⟨ylj,60,ysV⟩ 0 yC5 244 ycM ygQ ykO x=yda x:=by kernel_rfl
def yBe (x:(yg1).X):Nat:=18446744073709551616
def yrk (x:(yg1).X):Option ((ygQ).X ⊕ (ykO).X):=zF yda (yBe x) (yA3 x)
def yBD:Seg:=⟨yg1,ygQ,ykO,yrk⟩
def ySm:Nat→Option Seg:=fun q=>bif Nat.beq q 61 then some yBD else ysV q
theorem yPu:FrOk prog ⟨ylj,60,ySm⟩ yfE:=(yPt).loop (sg:=yBD) ycM yA3 (by decide) yOS yda yBe (by decide) (fun _=>rfl) (fun x r _ h=>h) yRM
abbrev yqS:List Par:= [.rd tI,.rd tG]
abbrev yzJ:List OT:= [⟨false,tA,(.pr .fz (.pr (.pr .fz .fz) (.pr (.ow (.pr (.ow .fz) (.pr (.ow (.pr .fz .fz)) (.pr .fz (.ow .fz))))) (.pr .fz (.pr .fz (.pr .fz (.pr .fz (.pr .fz (.pr (.ow (.pr .fz .fz)) (.pr .fz (.pr .fz .fz)))))))))))⟩]
def yu1 (a0:Int) (a1:dG):Option (zaY yzJ×zak yqS) :=let r1:=yd a1;bif(!(!r1))then let r2:=yb a0 1 60000;bif(!r2)then some (((0,(0,0),[],0,0,0,0,0,[],0,false,false),()),()) else zkr (yrk (((a0,()),((),()),((),()),((),()),((),()),()),((a1.1,a1.2,()),(0,0,0,(),0,0,0,0,0,(),0,false,false,()),(a0,a1.1,a1.2,(),(-1),0,0,0,0,(),(-1),false,false,()),()),([],()))) (fun y18 =>some (((y18.2.1.2.1.1,(y18.2.1.2.1.2.1,y18.2.1.2.1.2.2.1),y18.2.2.1,y18.2.1.2.1.2.2.2.2.1,y18.2.1.2.1.2.2.2.2.2.1,y18.2.1.2.1.2.2.2.2.2.2.1,y18.2.1.2.1.2.2.2.2.2.2.2.1,y18.2.1.2.1.2.2.2.2.2.2.2.2.1,[],y18.2.1.2.1.2.2.2.2.2.2.2.2.2.2.1,y18.2.1.2.1.2.2.2.2.2.2.2.2.2.2.2.1,y18.2.1.2.1.2.2.2.2.2.2.2.2.2.2.2.2.1),()),())) (fun y18 =>none) else some (((0,(0,0),[],0,0,0,0,0,[],0,false,false),()),())
theorem yUM:ConOk prog 115 ⟨yqS,yzJ,fun x=>yu1 x.1 x.2.1⟩:=zkG (yPu) func115 ntmps115.symm fun x=>by kernel_rfl
def ylC (a0:Int) (a1:dG):dA:=yer a0 a1
theorem yXc (a0:Int) (a1:dG) (hk:zjw yqS (a0,a1,())):yu1 a0 a1=(fun n=>some ((n,()),())) (ylC a0 a1):=by
 unfold yu1 ylC yer;simp only[ybM];cases hg:yd a1
 ·rfl
 cases hid:(leb 1 a0&&leb a0 60000)
 ·rfl
 have hge:=yl.1 hg
 have inner: ∀(i:Int) (a:dA),ylU (yIe a0 i a1 yaD a (yi2 a0 a1 i))=some (.inl (yuK a0 i a1 yaD a (yQ a0 a1 i))):=fun i a =>
  zkB (step:=ybu) a1.2.toNat (fun s m=>yk3 a0 i s a1 yaD a m) yo0 (fun _ m=>(m.1.length:Int)=6+a1.2) (fun m=> .inl (yuK a0 i a1 yaD a m)) (fun s m hs hm=>⟨by
   simp only[ybu,yk3,ylf,zkw (show(s:Int)<a1.2 by omega),cond_true,wq ((s:Int)+1) (by omega) (by omega),Int.natCast_add,Int.natCast_one,Int.toNat_natCast,ygH];have hd:yA (s:Int)=((s+6:Nat):Int):=by unfold yA; rw[zk0 (show(0:Int)≤s by omega),zk0 (show(s:Int)≤1099511627776 by omega)]; rfl
   rw[hd,zkP (show s+6<m.1.length by omega),Int.toNat_natCast]; rfl,by show((m.1.set _ _).length:Int)=_; rw[List.length_set]; exact hm⟩) (fun m hm=>by simp only[ybu,yk3,ylf,show((a1.2.toNat:Nat):Int)=a1.2 by omega,zk1 (Int.le_refl _),cond_false]) (yi2 a0 a1 i) (by
   unfold yi2 ya5;rw[zk0 (show 1≤6+a1.2 by omega),zk0 (show 6+a1.2≤20 by omega)];show(((List.replicate (6+a1.2).toNat ([]:List Int)).set 0 _).length:Int)=_
   rw[List.length_set,List.length_replicate]; omega) 18446744073709551616 (by omega)
 have hmn:yea (ycI a1)=ya5 (6+a1.2):=by
  unfold yea ycI;rw[wr (by omega) (by omega)]
 have h0:inb 0 (ya5 (6+a1.2)).1.length=true:=by
  unfold ya5;rw[zk0 (show 1≤6+a1.2 by omega),zk0 (show 6+a1.2≤20 by omega)];show inb 0 (List.replicate (6+a1.2).toNat ([]:List Int)).length=true;rw[List.length_replicate,zj4]; omega
 have outer:yrk (yNg a0 a1 yaD (yC2 a0 a1))=some (.inl (yBn yaD ((List.range a1.1.toNat).foldl (fun a (i:Nat)=>yCX a (yQ a0 a1 i)) (yC2 a0 a1)))) :=
  zkB (step:=yda) a1.1.toNat (fun i a=>yjB a0 i a1 yaD a) (fun a i=>yCX a (yQ a0 a1 i)) (fun i a=>a.2.2.1.length=i) (fun a=> .inl (yBn yaD a)) (fun i a hi ha=>⟨by
   simp only[yda,yjB,yqc,zkw (show(i:Int)<a1.1 by omega),cond_true,wq ((i:Int)+1) (by omega) (by omega),Int.natCast_add,Int.natCast_one,zkV,hmn,h0];refine(congrArg (fun z=>zkr z _ _) (inner i a)).trans ?_;simp only[zkL];show(bif zkj a.2.2.1.length [yQ a0 a1 i].length 80 then _ else _)=_;rw[zkD.2 (show(a.2.2.1.length+ [yQ a0 a1 i].length)*80≤140737488355328 by simp only[List.length_cons,List.length_nil]; omega)];simp only[cond_true];show some (Sum.inl (yjB a0 (i64.wrap ((i:Int)+1)) a1 yaD (yCX a (yQ a0 a1 i))))=_
   rw[wq ((i:Int)+1) (by omega) (by omega)],by show(a.2.2.1++ [_]).length=_; rw[List.length_append,ha]; rfl⟩) (fun a ha=>by simp only[yda,yjB,yqc,show((a1.1.toNat:Nat):Int)=a1.1 by omega,zk1 (Int.le_refl _),cond_false]) (yC2 a0 a1) rfl 18446744073709551616 (by omega)
 have hdr: ∀(l:List Nat) (a:dA),a.2.2.2.2.2.2.2.2.1= []→(l.foldl (fun a (i:Nat)=>yCX a (yQ a0 a1 i)) a).2.2.2.2.2.2.2.2.1= []:=by
  intro l
  induction l with
  | nil=>intro a h; exact h
  | cons x t ih=>intro a h; exact ih _ h
 have h:=hdr (List.range a1.1.toNat) (yC2 a0 a1) rfl;simp only[Bool.not_true,Bool.not_false,cond_true,cond_false,Bool.and_self];refine(congrArg (fun z=>zkr z _ _) outer).trans ?_;generalize (List.range a1.1.toNat).foldl (fun a (i:Nat)=>yCX a (yQ a0 a1 i)) (yC2 a0 a1)=R at h;simp only[zkL];show some ((((R.1,R.2.1,R.2.2.1,R.2.2.2.1,R.2.2.2.2.1,R.2.2.2.2.2.1,R.2.2.2.2.2.2.1,R.2.2.2.2.2.2.2.1,[],R.2.2.2.2.2.2.2.2.2):dA),()),())=some ((R,()),());rw[← h]
def yFq:Con:=⟨yqS,yzJ,fun x=>(fun n=>some ((n,()),())) (ylC x.1 x.2.1)⟩
theorem yX1:ConOk prog 115 yFq:=(yUM).mono (fun x r hk h=>(yXc x.1 x.2.1 hk).trans h)
def y0Z:Code:=(f116.body).getD .skip
def y1a:Env:=zku TT [(72,ya0)] []
theorem yTE:FrOk prog ⟨y1a,10,fun _=>none⟩ y0Z:=zky yf yg ⟨ycf,trivial⟩
abbrev yCC:List Par:= [.pt tU .fz]
abbrev yCV:List OT:= [⟨false,tG,(.pr .fz .fz)⟩]
def yks (a0:dU):Option (zaY yCV×zak yCC) :=bnd (yn a0 3) fun r1 =>bnd (yn r1.2.1 4) fun r2 =>some ((((i64.wrap (3+r1.1.1)),(i64.wrap (1+r2.1.1))),()),(r2.2.1,()))
theorem yXN:ConOk prog 116 ⟨yCC,yCV,fun x=>yks x.1⟩:=zkG (yTE) func116 ntmps116.symm fun x=>by kernel_rfl
def yG7:Con:=⟨yCC,yCV,fun x=>yks x.1⟩
theorem y0D:ConOk prog 116 yG7:=yXN
theorem y4k (u:dU) (h:ycA u): ∃(g:dG) (u':dU),yks u=some ((g,()),(u',()))∧yd g=true∧ycA u':=by
 unfold yks;obtain⟨r1,u1,e1,q1,d1⟩:=ycV u 3 h;obtain⟨r2,u2,e2,q2,d2⟩:=ycV u1 4 d1;simp only[e1,e2,zkF];refine⟨_,_,rfl,?_,d2⟩;have:=q1.2.1 (by omega); have:=q2.2.1 (by omega); have:=q1.1; have:=q2.1;rw[wr (by omega) (by omega),wr (by omega) (by omega)];exact yl.2 ⟨⟨by show 3≤3+r1; omega,by show 3+r1≤5; omega⟩,by show 1≤1+r2; omega,by show 1+r2≤8; omega⟩
def yZr:Code:=(f83.body).getD .skip
def yZY:Env:=zku TT [(72,ya0)] []
theorem yPF:FrOk prog ⟨yZY,9,fun _=>none⟩ yZr:=zky yf yg ⟨ycf,trivial⟩
abbrev yzn:List Par:= [.pt tU .fz,.rd tI]
abbrev yzT:List OT:= [⟨false,tB,.fz⟩]
def ych (a0:dU) (a1:Int):Option (zaY yzT×zak yzn) :=bnd (yn a0 a1) fun r1 =>some (((r1.1.1==0),()),(r1.2.1,()))
theorem yUW:ConOk prog 83 ⟨yzn,yzT,fun x=>ych x.1 x.2.1⟩:=zkG (yPF) func83 ntmps83.symm fun x=>by kernel_rfl
def yFw:Con:=⟨yzn,yzT,fun x=>ych x.1 x.2.1⟩
theorem yX7:ConOk prog 83 yFw:=yUW
theorem y2r (u:dU) (n:Int) (h:ycA u): ∃(r:Bool) (u':dU),ych u n=some ((r,()),(u',()))∧ycA u':=by
 unfold ych;obtain⟨r,u1,e1,_,d1⟩:=ycV u n h;simp only[e1,zkF];exact⟨_,_,rfl,d1⟩
end
end Go.Tf
