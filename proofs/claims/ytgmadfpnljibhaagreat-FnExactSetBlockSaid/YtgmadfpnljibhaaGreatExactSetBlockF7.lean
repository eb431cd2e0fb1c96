/- Functions of the program, and what they come to. -/
import Derived.Test.YtgmadfpnljibhaaGreatExactSetBlockF6
namespace Go.Tf
noncomputable section
open Go.Proofs
set_option synthInstance.maxHeartbeats 400000
set_option synthInstance.maxSize 10000
set_option linter.unusedVariables false
set_option linter.unusedSimpArgs false
set_option maxRecDepth 100000
section
def ylp:Code:=(Tryz.f214.body).getD .skip
def yqm:Env:=zki TT [] []
theorem yKL:FrOk Tryz.prog ⟨yqm,17,fun _=>none⟩ ylp:=zkp yb yc trivial
def yz3:Nat→Option Seg:=fun _=>none
def ybU:Shape:=⟨[(3,false,[.int .i64]),(6,false,[.br tI]),(7,false,[.int .i64]),(8,false,[.int .i64])],[],[]⟩
def yf4:Shape:=⟨[(3,false,[.ci .i64 0]),(6,false,[.br tI]),(7,false,[.int .i64]),(8,false,[.ci .i64 0])],[],[]⟩
def yfP:Shape:=⟨[(3,false,[.int .i64])],[],[]⟩
def ykT:Shape:=⟨[],[],[]⟩
abbrev ypF (v0:Int) (v1:List Int) (v2 v3:Int):(ybU).X:=(((v0,()),(v1,()),(v2,()),(v3,()),()),(),())
abbrev yIg (v0:List Int) (v1:Int):(yf4).X:=((((),()),(v0,()),(v1,()),((),()),()),(),())
abbrev yxB (v0:Int):(yfP).X:=(((v0,()),()),(),())
def ypU (v0:Int) (v1:List Int) (v2 v3:Int):Option ((ybU).X ⊕ ((yfP).X ⊕ (ykT).X)) :=
 bif (ltb v3 v2) then
 bif (inb v3 v1.length) then
 some (.inl ((((IntKind.i64.wrap ((BitVec.ofInt IntKind.i64.bits v0 ^^^ BitVec.ofInt IntKind.i64.bits (nth v1 v3 0)).toNat:Int)),()),(v1,()),(v2,()),((IntKind.i64.wrap (v3+1)),()),()),(),()))
 else none
 else
 some (.inr (.inl (((v0,()),()),(),())))
def yci (x:(ybU).X):=ypU x.1.1.1 x.1.2.1.1 x.1.2.2.1.1 x.1.2.2.2.1.1
def yxb (x:(yf4).X):(ybU).X:=(((0,()),(x.1.2.1.1,()),(x.1.2.2.1.1,()),(0,()),()),(),())
def yyU:Code:=(zdI ylp 64 116).getD .skip
theorem yJ1:zdI ylp 64 29=some (.block 0 (.loop yyU)):=by kernel_rfl
theorem yML (x:(ybU).X):zg7 ⟨yqm,17,yz3⟩ 0 yyU 116 ybU yfP ykT x=yci x:=by kernel_rfl
def yxp (x:(yf4).X):Nat:=18446744073709551616
def yqw (x:(yf4).X):Option ((yfP).X ⊕ (ykT).X):=zr yci (yxp x) (yxb x)
def yxN:Seg:=⟨yf4,yfP,ykT,yqw⟩
def yz4:Nat→Option Seg:=fun q=>bif Nat.beq q 29 then some yxN else yz3 q
theorem yKM:FrOk Tryz.prog ⟨yqm,17,yz4⟩ ylp:=(yKL).loop (sg:=yxN) ybU yxb (by decide) yJ1 yci yxp (by decide) (fun _=>rfl) (fun x r _ h=>h) yML
abbrev yhW:List Par:= [.rd tL]
abbrev yqJ:List OT:= [⟨false,tI,.fz⟩]
def ynl (a0:List Int):Option (ResD yqJ×MutD yhW) :=
 zjw (yqw ((((),()),(a0,()),((a0.length:Int),()),((),()),()),(),())) (fun y0 =>
 some ((y0.1.1.1,()),())) (fun y0 =>
 none)
theorem yRo (x:InD yhW):zjH ⟨yqm,17,yz4⟩ Tryz.f214.results.toList ylp yhW yqJ x=ynl x.1:=by kernel_rfl
theorem yOz:ConOk Tryz.prog 214 ⟨yhW,yqJ,fun x=>ynl x.1⟩:=zkh (yKM) Tryz.func214 (by kernel_rfl) (by kernel_rfl) Tryz.ntmps214.symm (by decide) (fun x r h=>(yRo x).trans h)
def yma (a0:List Int):Int:=ysP a0
theorem yQq (a0:List Int) (hk:zi9 yhW (a0,())):ynl a0=(fun n=>some ((n,()),())) (yma a0):=by
 have hb:a0.length * 8≤2 ^ 47:=hk.1.1
 have h1:yqw (yIg a0 a0.length)=some (.inl (yxB (ysP a0))) :=
  zkk (step:=yci) a0 0 (fun i s=>ypF s a0 a0.length i) xw (fun _ _=>True) (fun s=> .inl (yxB s)) (fun i s hi _=>⟨by
   simp only [yci,ypF,ypU,zjI (show (i:Int) < a0.length by omega),cond_true,wr (show -9223372036854775808≤(i:Int)+1 by omega) (by omega),Int.natCast_add,Int.natCast_one,Int.toNat_natCast,zkO hi,zjW]; rfl,trivial⟩) (fun s _=>by simp only [yci,ypF,ypU,zkm (Int.le_refl _),cond_false]) 0 trivial _ (by show _ < 18446744073709551616; omega)
 unfold ynl yma
 rw [h1]; rfl
def yAu:Con:=⟨yhW,yqJ,fun x=>(fun n=>some ((n,()),())) (yma x.1)⟩
theorem yQV:ConOk Tryz.prog 214 yAu:=(yOz).mono (fun x r hk h=>(yQq x.1 hk).trans h)
end
section
def ysQ:Code:=(Tryz.f204.body).getD .skip
def ysV:Env:=zki TT [(126,yp),(214,yAu)] []
theorem yAU:FrOk Tryz.prog ⟨ysV,20,fun _=>none⟩ ysQ:=zkp yb yc ⟨yF,yQV,trivial⟩
def yBc:Nat→Option Seg:=fun _=>none
abbrev ybk:List Par:= [.rd tL,.rd tI]
abbrev ygf:List OT:= [⟨false,tI,.fz⟩]
def yea (a0:List Int) (a1:Int):Option (ResD ygf×MutD ybk) :=
 let r1:=yma a0
 let r2:=ye a1 0 (IntKind.i64.wrap ((a0.length:Int) - 1))
 bif r2 then
 bif (inb a1 a0.length) then
 some (((IntKind.i64.wrap ((BitVec.ofInt IntKind.i64.bits r1 ^^^ BitVec.ofInt IntKind.i64.bits (nth a0 a1 0)).toNat:Int)),()),())
 else none
 else
 some ((r1,()),())
theorem yDq (x:InD ybk):zjH ⟨ysV,20,yBc⟩ Tryz.f204.results.toList ysQ ybk ygf x=yea x.1 x.2.1:=by kernel_rfl
theorem yBk:ConOk Tryz.prog 204 ⟨ybk,ygf,fun x=>yea x.1 x.2.1⟩:=zkh (yAU) Tryz.func204 (by kernel_rfl) (by kernel_rfl) Tryz.ntmps204.symm (by decide) (fun x r h=>(yDq x).trans h)
def yc2 (a0:List Int) (a1:Int):Int:=ylY a0 a1
theorem yCu (a0:List Int) (a1:Int) (hk:zi9 ybk (a0,a1,())):yea a0 a1=(fun n=>some ((n,()),())) (yc2 a0 a1):=by
 have hb:a0.length * 8≤2 ^ 47:=hk.1.1
 unfold yea yc2 ylY yma
 rw [yaf,yrh (show a0.length≤1152921504606846976 by omega)]
 cases inb a1 a0.length<;>rfl
def yq7:Con:=⟨ybk,ygf,fun x=>(fun n=>some ((n,()),())) (yc2 x.1 x.2.1)⟩
theorem yCx:ConOk Tryz.prog 204 yq7:=(yBk).mono (fun x r hk h=>(yCu x.1 x.2.1 hk).trans h)
end
section
def ylo:Code:=(Tryz.f106.body).getD .skip
def yql:Env:=zki TT [(45,ysc),(116,ycZ),(117,yza),(204,yq7)] []
theorem yKJ:FrOk Tryz.prog ⟨yql,62,fun _=>none⟩ ylo:=zkp yb yc ⟨yCf,yhn,yO4,yCx,trivial⟩
def yz1:Nat→Option Seg:=fun _=>none
def ybc:Shape:=⟨[(1,false,[.int .i64]),(2,false,[.ptr 0 0]),(6,false,[.at 800000000]),(7,false,[.int .i64]),(28,false,[.int .i64]),(29,false,[.int .i64])],[(0,[.int .i64,.int .i64,.int .i64,.br tM,.int .i64,.int .i64,.int .i64,.int .i64,.int .i64,.br tW,.int .i64,.bool,.bool])],[(800000000,tI,.fz)]⟩
def yeK:Shape:=⟨[(1,false,[.int .i64]),(2,false,[.ptr 0 0]),(6,false,[.at 800000000]),(7,false,[.ci .i64 (-1)]),(28,false,[.int .i64]),(29,false,[.ci .i64 0])],[(0,[.int .i64,.int .i64,.int .i64,.br tM,.int .i64,.int .i64,.int .i64,.int .i64,.int .i64,.br tW,.int .i64,.bool,.bool])],[(800000000,tI,.fz)]⟩
def yeD:Shape:=⟨[(6,false,[.at 800000000]),(7,false,[.int .i64])],[],[(800000000,tI,.fz)]⟩
def yeR:Shape:=⟨[(4,false,[.nil]),(5,false,[.bool])],[],[]⟩
abbrev ynO (v0 v1 v2 v3:Int) (v4:dA) (v5:List Int):(ybc).X:=(((v0,()),((),()),((),()),(v1,()),(v2,()),(v3,()),()),((v4.1,v4.2.1.1,v4.2.1.2,v4.2.2.1,v4.2.2.2.1,v4.2.2.2.2.1,v4.2.2.2.2.2.1,v4.2.2.2.2.2.2.1,v4.2.2.2.2.2.2.2.1,v4.2.2.2.2.2.2.2.2.1,v4.2.2.2.2.2.2.2.2.2.1,v4.2.2.2.2.2.2.2.2.2.2.1,v4.2.2.2.2.2.2.2.2.2.2.2,()),()),(v5,()))
abbrev yFH (v0 v1:Int) (v2:dA) (v3:List Int):(yeK).X:=(((v0,()),((),()),((),()),((),()),(v1,()),((),()),()),((v2.1,v2.2.1.1,v2.2.1.2,v2.2.2.1,v2.2.2.2.1,v2.2.2.2.2.1,v2.2.2.2.2.2.1,v2.2.2.2.2.2.2.1,v2.2.2.2.2.2.2.2.1,v2.2.2.2.2.2.2.2.2.1,v2.2.2.2.2.2.2.2.2.2.1,v2.2.2.2.2.2.2.2.2.2.2.1,v2.2.2.2.2.2.2.2.2.2.2.2,()),()),(v3,()))
abbrev yFD (v0:Int) (v1:List Int):(yeD).X:=((((),()),(v0,()),()),(),(v1,()))
abbrev yFN (v0:Bool):(yeR).X:=((((),()),(v0,()),()),(),())
def ynZ (v0 v1 v2 v3 v4 v5 v6:Int) (v7:List dM) (v8 v9 v10 v11 v12:Int) (v13:List dW) (v14:Int) (v15 v16:Bool) (v17:List Int):Option ((ybc).X ⊕ ((yeD).X ⊕ (yeR).X)) :=
 bif (ltb v3 v2) then
 bnd (ypd (v4,(v5,v6),v7,v8,v9,v10,v11,v12,v13,v14,v15,v16) v3 v0) fun r4 =>
 bif (!r4.1.2.1) then
 bif (leb 0 v1) then
 some (.inr (.inr ((((),()),(false,()),()),(),())))
 else
 bif (!r4.1.2.1) then
 bif (zj4 v17.length ([r4.1.1]:List Int).length 8) then
 some (.inl (((v0,()),((),()),((),()),(v3,()),(v2,()),((IntKind.i64.wrap (v3+1)),()),()),((v4,v5,v6,v7,v8,v9,v10,v11,v12,v13,v14,v15,v16,()),()),((v17++([r4.1.1]:List Int)),())))
 else none
 else
 bif (zj4 v17.length ([r4.1.1]:List Int).length 8) then
 some (.inl (((v0,()),((),()),((),()),(v1,()),(v2,()),((IntKind.i64.wrap (v3+1)),()),()),((v4,v5,v6,v7,v8,v9,v10,v11,v12,v13,v14,v15,v16,()),()),((v17++([r4.1.1]:List Int)),())))
 else none
 else
 bif (!r4.1.2.1) then
 bif (zj4 v17.length ([r4.1.1]:List Int).length 8) then
 some (.inl (((v0,()),((),()),((),()),(v3,()),(v2,()),((IntKind.i64.wrap (v3+1)),()),()),((v4,v5,v6,v7,v8,v9,v10,v11,v12,v13,v14,v15,v16,()),()),((v17++([r4.1.1]:List Int)),())))
 else none
 else
 bif (zj4 v17.length ([r4.1.1]:List Int).length 8) then
 some (.inl (((v0,()),((),()),((),()),(v1,()),(v2,()),((IntKind.i64.wrap (v3+1)),()),()),((v4,v5,v6,v7,v8,v9,v10,v11,v12,v13,v14,v15,v16,()),()),((v17++([r4.1.1]:List Int)),())))
 else none
 else
 some (.inr (.inl ((((),()),(v1,()),()),(),(v17,()))))
def ybA (x:(ybc).X):=ynZ x.1.1.1 x.1.2.2.2.1.1 x.1.2.2.2.2.1.1 x.1.2.2.2.2.2.1.1 x.2.1.1.1 x.2.1.1.2.1 x.2.1.1.2.2.1 x.2.1.1.2.2.2.1 x.2.1.1.2.2.2.2.1 x.2.1.1.2.2.2.2.2.1 x.2.1.1.2.2.2.2.2.2.1 x.2.1.1.2.2.2.2.2.2.2.1 x.2.1.1.2.2.2.2.2.2.2.2.1 x.2.1.1.2.2.2.2.2.2.2.2.2.1 x.2.1.1.2.2.2.2.2.2.2.2.2.2.1 x.2.1.1.2.2.2.2.2.2.2.2.2.2.2.1 x.2.1.1.2.2.2.2.2.2.2.2.2.2.2.2.1 x.2.2.1
def yuZ (x:(yeK).X):(ybc).X:=(((x.1.1.1,()),((),()),((),()),((-1),()),(x.1.2.2.2.2.1.1,()),(0,()),()),((x.2.1.1.1,x.2.1.1.2.1,x.2.1.1.2.2.1,x.2.1.1.2.2.2.1,x.2.1.1.2.2.2.2.1,x.2.1.1.2.2.2.2.2.1,x.2.1.1.2.2.2.2.2.2.1,x.2.1.1.2.2.2.2.2.2.2.1,x.2.1.1.2.2.2.2.2.2.2.2.1,x.2.1.1.2.2.2.2.2.2.2.2.2.1,x.2.1.1.2.2.2.2.2.2.2.2.2.2.1,x.2.1.1.2.2.2.2.2.2.2.2.2.2.2.1,x.2.1.1.2.2.2.2.2.2.2.2.2.2.2.2.1,()),()),(x.2.2.1,()))
def yww:Code:=(zdI ylo 64 500).getD .skip
theorem yGT:zdI ylo 64 125=some (.block 0 (.loop yww)):=by kernel_rfl
theorem yJk (x:(ybc).X):zg7 ⟨yql,62,yz1⟩ 0 yww 500 ybc yeD yeR x=ybA x:=by kernel_rfl
def yve (x:(yeK).X):Nat:=18446744073709551616
def ypj (x:(yeK).X):Option ((yeD).X ⊕ (yeR).X):=zr ybA (yve x) (yuZ x)
def yvw:Seg:=⟨yeK,yeD,yeR,ypj⟩
def yz2:Nat→Option Seg:=fun q=>bif Nat.beq q 125 then some yvw else yz1 q
theorem yKK:FrOk Tryz.prog ⟨yql,62,yz2⟩ ylo:=(yKJ).loop (sg:=yvw) ybc yuZ (by decide) yGT ybA yve (by decide) (fun _=>rfl) (fun x r _ h=>h) yJk
abbrev yhV:List Par:= [.rd tA,.rd tI]
abbrev yqI:List OT:= [⟨false,tL,(.ow .fz)⟩,⟨false,tB,.fz⟩]
def ynk (a0:dA) (a1:Int):Option (ResD yqI×MutD yhV) :=
 let r1:=yc0 a0
 bif (!(!r1)) then
 bif (!a0.2.2.2.2.2.2.2.2.2.2.2) then
 let r2:=yX a0.2.1 a1
 bif (!r2) then
 some (([],false,()),())
 else
 zjw (ypj (((a1,()),((),()),((),()),((),()),((a0.2.2.1.length:Int),()),((),()),()),((a0.1,a0.2.1.1,a0.2.1.2,a0.2.2.1,a0.2.2.2.1,a0.2.2.2.2.1,a0.2.2.2.2.2.1,a0.2.2.2.2.2.2.1,a0.2.2.2.2.2.2.2.1,a0.2.2.2.2.2.2.2.2.1,a0.2.2.2.2.2.2.2.2.2.1,a0.2.2.2.2.2.2.2.2.2.2.1,a0.2.2.2.2.2.2.2.2.2.2.2,()),()),(([]:List Int),()))) (fun y4 =>
 bif (leb 0 y4.1.2.1.1) then
 let r6:=yc2 y4.2.2.1 y4.1.2.1.1
 bif (inb y4.1.2.1.1 y4.2.2.1.length) then
 some (((y4.2.2.1.set (y4.1.2.1.1).toNat r6),true,()),())
 else none
 else
 some ((y4.2.2.1,true,()),())) (fun y4 =>
 some (([],y4.1.2.1.1,()),()))
 else
 some (([],false,()),())
 else
 some (([],false,()),())
theorem yRn (x:InD yhV):zjH ⟨yql,62,yz2⟩ Tryz.f106.results.toList ylo yhV yqI x=ynk x.1 x.2.1:=by kernel_rfl
theorem yOy:ConOk Tryz.prog 106 ⟨yhV,yqI,fun x=>ynk x.1 x.2.1⟩:=zkh (yKK) Tryz.func106 (by kernel_rfl) (by kernel_rfl) Tryz.ntmps106.symm (by decide) (fun x r h=>(yRn x).trans h)
def yl9 (a0:dA) (a1:Int):List Int×Bool:=bif yI a0&&(!a0.2.2.2.2.2.2.2.2.2.2.2&&yaO a0.2.1 a1) then yaA a0 a1 else ([],false)
theorem yQp (a0:dA) (a1:Int) (hk:zi9 yhV (a0,a1,())):ynk a0 a1=(fun n=>some ((n.1,n.2,()),())) (yl9 a0 a1):=by
 unfold ynk yl9 yc0
 rw [yzH]
 cases ha:yI a0
 ·rfl
 have hg:=yo.1 (ycY ha)
 have hl:=yPt ha
 have h1:ypj (yFH a1 a0.2.2.1.length a0 [])=some (bif yEy (fun (i:Nat)=>yj a0 i a1) a0.2.1.1.toNat then .inr (yFN false) else .inl (yFD (yq (fun (i:Nat)=>yj a0 i a1) a0.2.1.1.toNat) (yS a0 a1 a0.2.1.1.toNat))) :=
  zf4 (step:=ybA) (fun i=>ynO a1 (yq (fun (i:Nat)=>yj a0 i a1) i) a0.2.2.1.length i a0 (yS a0 a1 i)) a0.2.1.1.toNat (fun i=> !yj a0 i a1&&leb 0 (yq (fun (i:Nat)=>yj a0 i a1) i)) _ _ (fun i hi=>by
   simp only [ybA,ynO,ynZ,zjI (show (i:Int) < a0.2.2.1.length by omega),cond_true,wr (show -9223372036854775808≤(i:Int)+1 by omega) (by omega),Int.natCast_add,Int.natCast_one,Int.toNat_natCast,zkV,yPl a0 i a1 (zkO (show i < a0.2.2.1.length by omega)),yj3,zky,yq]
   rw [zkw.2 (show ((yS a0 a1 i).length+ [yxX a0 i a1].length) * 8≤140737488355328 by simp only [List.length_cons,List.length_nil,ymA]; omega),yCj]
   cases yj a0 i a1<;>cases leb 0 (yq (fun (i:Nat)=>yj a0 i a1) i)<;>rfl) (by simp only [ybA,ynO,ynZ,zkm (show (a0.2.2.1.length:Int)≤(a0.2.1.1.toNat:Int) by omega),cond_false]) _ (by show _ < 18446744073709551616; omega)
 rw [h1]
 cases a0.2.2.2.2.2.2.2.2.2.2.2
 ·cases yaO a0.2.1 a1
  ·rfl
  ·unfold yaA
   cases yEy (fun (i:Nat)=>yj a0 i a1) a0.2.1.1.toNat
   ·simp only [cond_false,zkJ,yc2]
    cases hm:leb 0 (yq (fun (i:Nat)=>yj a0 i a1) a0.2.1.1.toNat)
    ·rfl
    ·obtain ⟨h2,h3⟩:=yPB a0 a1 a0.2.1.1.toNat hm
     rw [h2,h3]; rfl
   ·rfl
 ·rfl
def yAt:Con:=⟨yhV,yqI,fun x=>(fun n=>some ((n.1,n.2,()),())) (yl9 x.1 x.2.1)⟩
theorem yQU:ConOk Tryz.prog 106 yAt:=(yOy).mono (fun x r hk h=>(yQp x.1 x.2.1 hk).trans h)
end
section
def yx4:Code:=(Tryz.f231.body).getD .skip
def yyE:Env:=zki TT [(116,ycZ)] []
theorem yDv:FrOk Tryz.prog ⟨yyE,17,fun _=>none⟩ yx4:=zkp yb yc ⟨yhn,trivial⟩
def yEA:Nat→Option Seg:=fun _=>none
abbrev yc8:List Par:= [.rd tG,.rd tI]
abbrev ykC:List OT:= [⟨false,tI,.fz⟩]
def yho (a0:dG) (a1:Int):Option (ResD ykC×MutD yc8) :=
 let r1:=yX a0 a1
 bif (!r1) then
 some (((-1),()),())
 else
 bif (a0.1 !=0) then
 some (((IntKind.i64.wrap ((IntKind.i64.wrap (a0.1 - 1)) - (a1.tmod a0.1))),()),())
 else none
theorem yKh (x:InD yc8):zjH ⟨yyE,17,yEA⟩ Tryz.f231.results.toList yx4 yc8 ykC x=yho x.1 x.2.1:=by kernel_rfl
theorem yFU:ConOk Tryz.prog 231 ⟨yc8,ykC,fun x=>yho x.1 x.2.1⟩:=zkh (yDv) Tryz.func231 (by kernel_rfl) (by kernel_rfl) Tryz.ntmps231.symm (by decide) (fun x r h=>(yKh x).trans h)
def ygD (a0:dG) (a1:Int):Int:=yA a0 a1
theorem yIs (a0:dG) (a1:Int) (hk:zi9 yc8 (a0,a1,())):yho a0 a1=(fun n=>some ((n,()),())) (ygD a0 a1):=by
 unfold yho ygD
 rw [yzH]
 cases hs:yaO a0 a1
 ·unfold yA; rw [hs]; rfl
 ·have h1:=ygK.1 hs
  have h2:=yo.1 h1.1
  have h3:=ytL hs
  have h4:yA a0 a1=a0.1 - 1 - a1.tmod a0.1:=by unfold yA; rw [hs]; rfl
  rw [show (a0.1 !=0)=true from bne_iff_ne.2 (by omega),wr (show -9223372036854775808≤a0.1 - 1 by omega) (by omega),wr (show -9223372036854775808≤a0.1 - 1 - a1.tmod a0.1 by omega) (by omega),h4]; rfl
def yuN:Con:=⟨yc8,ykC,fun x=>(fun n=>some ((n,()),())) (ygD x.1 x.2.1)⟩
theorem yI6:ConOk Tryz.prog 231 yuN:=(yFU).mono (fun x r hk h=>(yIs x.1 x.2.1 hk).trans h)
end
section
def yBu:Code:=(Tryz.f148.body).getD .skip
def yBR:Env:=zki TT [(116,ycZ),(126,yp),(231,yuN)] []
theorem yHi:FrOk Tryz.prog ⟨yBR,28,fun _=>none⟩ yBu:=zkp yb yc ⟨yhn,yF,yI6,trivial⟩
def yJE:Nat→Option Seg:=fun _=>none
abbrev yff:List Par:= [.rd tG,.rd tI,.rd tI]
abbrev yoH:List OT:= [⟨false,tI,.fz⟩]
def yk5 (a0:dG) (a1 a2:Int):Option (ResD yoH×MutD yff) :=
 let r1:=yX a0 a1
 bif (!(!r1)) then
 let r2:=ye a2 0 (IntKind.i64.wrap (a0.1 - 2))
 bif (!r2) then
 some (((-1),()),())
 else
 let r3:=ygD a0 a1
 bif (a0.1 !=0) then
 some ((((IntKind.i64.wrap ((IntKind.i64.wrap (r3+1))+a2)).tmod a0.1),()),())
 else none
 else
 some (((-1),()),())
theorem yPN (x:InD yff):zjH ⟨yBR,28,yJE⟩ Tryz.f148.results.toList yBu yff yoH x=yk5 x.1 x.2.1 x.2.2.1:=by kernel_rfl
theorem yLO:ConOk Tryz.prog 148 ⟨yff,yoH,fun x=>yk5 x.1 x.2.1 x.2.2.1⟩:=zkh (yHi) Tryz.func148 (by kernel_rfl) (by kernel_rfl) Tryz.ntmps148.symm (by decide) (fun x r h=>(yPN x).trans h)
def yj0 (a0:dG) (a1 a2:Int):Int:=ycu a0 a1 a2
theorem yNY (a0:dG) (a1 a2:Int) (hk:zi9 yff (a0,a1,a2,())):yk5 a0 a1 a2=(fun n=>some ((n,()),())) (yj0 a0 a1 a2):=by
 unfold yk5 yj0 ycu ygD
 rw [yzH]
 cases hs:yaO a0 a1
 ·rfl
 ·have h1:=ygK.1 hs
  have h2:=yo.1 h1.1
  have h3:=ytL hs
  rw [yaf,ydr,wr (show -9223372036854775808≤a0.1 - 2 by omega) (by omega)]
  cases hi:(leb 0 a2&&leb a2 (a0.1 - 2))
  ·rfl
  ·rw [Bool.and_eq_true,zjQ,zjQ]at hi
   rw [show (a0.1 !=0)=true from bne_iff_ne.2 (by omega)]
   show some (((IntKind.i64.wrap (IntKind.i64.wrap (yA a0 a1+1)+a2)).tmod a0.1,()),())=some (((yA a0 a1+1+a2).tmod a0.1,()),())
   rw [wr (show -9223372036854775808≤yA a0 a1+1 by omega) (by omega),wr (show -9223372036854775808≤yA a0 a1+1+a2 by omega) (by omega)]
def yy6:Con:=⟨yff,yoH,fun x=>(fun n=>some ((n,()),())) (yj0 x.1 x.2.1 x.2.2.1)⟩
theorem yO0:ConOk Tryz.prog 148 yy6:=(yLO).mono (fun x r hk h=>(yNY x.1 x.2.1 x.2.2.1 hk).trans h)
end
section
def yjr:Code:=(Tryz.f55.body).getD .skip
def yot:Env:=zki TT [(106,yAt),(148,yy6)] []
theorem yHg:FrOk Tryz.prog ⟨yot,39,fun _=>none⟩ yjr:=zkp yb yc ⟨yQU,yO0,trivial⟩
def yye:Nat→Option Seg:=fun _=>none
def yaB:Shape:=⟨[(1,false,[.int .i64]),(2,false,[.ptr 0 0]),(6,false,[.at 800000000]),(8,false,[.at 800000001]),(22,false,[.int .i64]),(23,false,[.int .i64])],[(0,[.int .i64,.int .i64,.int .i64,.br tM,.int .i64,.int .i64,.int .i64,.int .i64,.int .i64,.br tW,.int .i64,.bool,.bool])],[(800000000,tI,.fz),(800000001,tI,.fz)]⟩
def ydP:Shape:=⟨[(1,false,[.int .i64]),(2,false,[.ptr 0 0]),(6,false,[.at 800000000]),(8,false,[.at 800000001]),(22,false,[.int .i64]),(23,false,[.ci .i64 0])],[(0,[.int .i64,.int .i64,.int .i64,.br tM,.int .i64,.int .i64,.int .i64,.int .i64,.int .i64,.br tW,.int .i64,.bool,.bool])],[(800000000,tI,.fz),(800000001,tI,.fz)]⟩
def ydF:Shape:=⟨[(8,false,[.at 800000000])],[],[(800000000,tI,.fz)]⟩
def yg6:Shape:=⟨[],[],[]⟩
abbrev ylZ (v0 v1 v2:Int) (v3:dA) (v4 v5:List Int):(yaB).X:=(((v0,()),((),()),((),()),((),()),(v1,()),(v2,()),()),((v3.1,v3.2.1.1,v3.2.1.2,v3.2.2.1,v3.2.2.2.1,v3.2.2.2.2.1,v3.2.2.2.2.2.1,v3.2.2.2.2.2.2.1,v3.2.2.2.2.2.2.2.1,v3.2.2.2.2.2.2.2.2.1,v3.2.2.2.2.2.2.2.2.2.1,v3.2.2.2.2.2.2.2.2.2.2.1,v3.2.2.2.2.2.2.2.2.2.2.2,()),()),(v4,v5,()))
abbrev yD3 (v0 v1:Int) (v2:dA) (v3 v4:List Int):(ydP).X:=(((v0,()),((),()),((),()),((),()),(v1,()),((),()),()),((v2.1,v2.2.1.1,v2.2.1.2,v2.2.2.1,v2.2.2.2.1,v2.2.2.2.2.1,v2.2.2.2.2.2.1,v2.2.2.2.2.2.2.1,v2.2.2.2.2.2.2.2.1,v2.2.2.2.2.2.2.2.2.1,v2.2.2.2.2.2.2.2.2.2.1,v2.2.2.2.2.2.2.2.2.2.2.1,v2.2.2.2.2.2.2.2.2.2.2.2,()),()),(v3,v4,()))
abbrev ytG (v0:List Int):(ydF).X:=((((),()),()),(),(v0,()))
def ymj (v0 v1 v2 v3 v4 v5:Int) (v6:List dM) (v7 v8 v9 v10 v11:Int) (v12:List dW) (v13:Int) (v14 v15:Bool) (v16 v17:List Int):Option ((yaB).X ⊕ ((ydF).X ⊕ (yg6).X)) :=
 bif (ltb v2 v1) then
 let r3:=yj0 (v4,v5) v0 v2
 bif (inb r3 v16.length) then
 bif (zj4 v17.length ([(nth v16 r3 0)]:List Int).length 8) then
 some (.inl (((v0,()),((),()),((),()),((),()),(v1,()),((IntKind.i64.wrap (v2+1)),()),()),((v3,v4,v5,v6,v7,v8,v9,v10,v11,v12,v13,v14,v15,()),()),(v16,(v17++([(nth v16 r3 0)]:List Int)),())))
 else none
 else none
 else
 some (.inr (.inl ((((),()),()),(),(v17,()))))
def yaR (x:(yaB).X):=ymj x.1.1.1 x.1.2.2.2.2.1.1 x.1.2.2.2.2.2.1.1 x.2.1.1.1 x.2.1.1.2.1 x.2.1.1.2.2.1 x.2.1.1.2.2.2.1 x.2.1.1.2.2.2.2.1 x.2.1.1.2.2.2.2.2.1 x.2.1.1.2.2.2.2.2.2.1 x.2.1.1.2.2.2.2.2.2.2.1 x.2.1.1.2.2.2.2.2.2.2.2.1 x.2.1.1.2.2.2.2.2.2.2.2.2.1 x.2.1.1.2.2.2.2.2.2.2.2.2.2.1 x.2.1.1.2.2.2.2.2.2.2.2.2.2.2.1 x.2.1.1.2.2.2.2.2.2.2.2.2.2.2.2.1 x.2.2.1 x.2.2.2.1
def ys6 (x:(ydP).X):(yaB).X:=(((x.1.1.1,()),((),()),((),()),((),()),(x.1.2.2.2.2.1.1,()),(0,()),()),((x.2.1.1.1,x.2.1.1.2.1,x.2.1.1.2.2.1,x.2.1.1.2.2.2.1,x.2.1.1.2.2.2.2.1,x.2.1.1.2.2.2.2.2.1,x.2.1.1.2.2.2.2.2.2.1,x.2.1.1.2.2.2.2.2.2.2.1,x.2.1.1.2.2.2.2.2.2.2.2.1,x.2.1.1.2.2.2.2.2.2.2.2.2.1,x.2.1.1.2.2.2.2.2.2.2.2.2.2.1,x.2.1.1.2.2.2.2.2.2.2.2.2.2.2.1,x.2.1.1.2.2.2.2.2.2.2.2.2.2.2.2.1,()),()),(x.2.2.1,x.2.2.2.1,()))
def yuw:Code:=(zdI yjr 64 500).getD .skip
theorem yEK:zdI yjr 64 125=some (.block 0 (.loop yuw)):=by kernel_rfl
theorem yGf (x:(yaB).X):zg7 ⟨yot,39,yye⟩ 0 yuw 500 yaB ydF yg6 x=yaR x:=by kernel_rfl
def yto (x:(ydP).X):Nat:=18446744073709551616
def ynv (x:(ydP).X):Option ((ydF).X ⊕ (yg6).X):=zr yaR (yto x) (ys6 x)
def ytM:Seg:=⟨ydP,ydF,yg6,ynv⟩
def yyf:Nat→Option Seg:=fun q=>bif Nat.beq q 125 then some ytM else yye q
theorem yHh:FrOk Tryz.prog ⟨yot,39,yyf⟩ yjr:=(yHg).loop (sg:=ytM) yaB ys6 (by decide) yEK yaR yto (by decide) (fun _=>rfl) (fun x r _ h=>h) yGf
abbrev yfe:List Par:= [.rd tA,.rd tI]
abbrev yoG:List OT:= [⟨false,tL,(.ow .fz)⟩,⟨false,tB,.fz⟩]
def yk4 (a0:dA) (a1:Int):Option (ResD yoG×MutD yfe) :=
 let r1:=yl9 a0 a1
 bif (!r1.2) then
 some (([],false,()),())
 else
 zjw (ynv (((a1,()),((),()),((),()),((),()),((IntKind.i64.wrap (a0.2.1.1 - 1)),()),((),()),()),((a0.1,a0.2.1.1,a0.2.1.2,a0.2.2.1,a0.2.2.2.1,a0.2.2.2.2.1,a0.2.2.2.2.2.1,a0.2.2.2.2.2.2.1,a0.2.2.2.2.2.2.2.1,a0.2.2.2.2.2.2.2.2.1,a0.2.2.2.2.2.2.2.2.2.1,a0.2.2.2.2.2.2.2.2.2.2.1,a0.2.2.2.2.2.2.2.2.2.2.2,()),()),(r1.1,([]:List Int),()))) (fun y3 =>
 some ((y3.2.2.1,true,()),())) (fun y3 =>
 none)
theorem yPM (x:InD yfe):zjH ⟨yot,39,yyf⟩ Tryz.f55.results.toList yjr yfe yoG x=yk4 x.1 x.2.1:=by kernel_rfl
theorem yLN:ConOk Tryz.prog 55 ⟨yfe,yoG,fun x=>yk4 x.1 x.2.1⟩:=zkh (yHh) Tryz.func55 (by kernel_rfl) (by kernel_rfl) Tryz.ntmps55.symm (by decide) (fun x r h=>(yPM x).trans h)
def yjZ (a0:dA) (a1:Int):List Int×Bool:=yAO a0 a1
theorem yNX (a0:dA) (a1:Int) (hk:zi9 yfe (a0,a1,())):yk4 a0 a1=(fun n=>some ((n.1,n.2,()),())) (yjZ a0 a1):=by
 unfold yk4 yjZ yAO yl9
 cases hc:(yI a0&&(!a0.2.2.2.2.2.2.2.2.2.2.2&&yaO a0.2.1 a1))
 ·rfl
 simp only [Bool.and_eq_true]at hc
 have hg:=yo.1 (ycY hc.1)
 have hs:=hc.2.2
 unfold yzr
 simp only [cond_true]
 cases hw:(yaA a0 a1).2
 ·rfl
 ·have hL:=yPF hw
  have h1:ynv (yD3 a1 (a0.2.1.1 - 1) a0 (yaA a0 a1).1 [])=some (.inl (ytG ((List.range (a0.2.1.1 - 1).toNat).foldl (fun l (i:Nat)=>l++ [nth (yaA a0 a1).1 (ycu a0.2.1 a1 i) 0]) []))) :=
   zks (step:=yaR) (a0.2.1.1 - 1).toNat (fun i s=>ylZ a1 (a0.2.1.1 - 1) i a0 (yaA a0 a1).1 s) (fun l (i:Nat)=>l++ [nth (yaA a0 a1).1 (ycu a0.2.1 a1 i) 0]) (fun i s=>s.length=i) (fun s=> .inl (ytG s)) (fun i s hi hs2=>⟨by
    have hd:=ySn hs (show (0:Int)≤i by omega) (show (i:Int)≤a0.2.1.1 - 2 by omega)
    simp only [yaR,ylZ,ymj,zjI (show (i:Int) < a0.2.1.1 - 1 by omega),cond_true,wr (show -9223372036854775808≤(i:Int)+1 by omega) (by omega),Int.natCast_add,Int.natCast_one,Int.toNat_natCast,zkV,yj0,zjP.2 (show 0≤ycu a0.2.1 a1 i∧ycu a0.2.1 a1 i < (yaA a0 a1).1.length by omega)]
    rw [zkw.2 (show (s.length+ [nth (yaA a0 a1).1 (ycu a0.2.1 a1 i) 0].length) * 8≤140737488355328 by simp only [List.length_cons,List.length_nil]; omega)]; rfl,by simp [hs2]⟩) (fun s hs2=>by simp only [yaR,ylZ,ymj,zkm (show a0.2.1.1 - 1≤((a0.2.1.1 - 1).toNat:Int) by omega),cond_false]) [] rfl _ (by show _ < 18446744073709551616; omega)
  simp only [wr (show -9223372036854775808≤a0.2.1.1 - 1 by omega) (by omega)]
  rw [h1,yvM]; rfl
def yy5:Con:=⟨yfe,yoG,fun x=>(fun n=>some ((n.1,n.2,()),())) (yjZ x.1 x.2.1)⟩
theorem yOZ:ConOk Tryz.prog 55 yy5:=(yLN).mono (fun x r hk h=>(yNX x.1 x.2.1 hk).trans h)
end
end
end Go.Tf
