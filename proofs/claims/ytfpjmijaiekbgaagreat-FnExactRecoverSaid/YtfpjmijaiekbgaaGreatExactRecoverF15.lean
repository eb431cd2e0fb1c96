/- Functions of the program, and what they come to. -/
import Derived.Test.YtfpjmijaiekbgaaGreatExactRecoverF14
namespace Go.Tf
noncomputable section
open Go.Proofs
set_option synthInstance.maxHeartbeats 400000
set_option synthInstance.maxSize 10000
set_option linter.unusedVariables false
set_option linter.unusedSimpArgs false
set_option maxRecDepth 100000
section
def yI1:Code:=(Tryz.f204.body).getD .skip
def yJq:Env:=zki TT [(114,yn)] []
theorem yQK:FrOk Tryz.prog ⟨yJq,11,fun _=>none⟩ yI1:=zkp yb yc ⟨yw,trivial⟩
def yTu:Nat→Option Seg:=fun _=>none
abbrev ynq:List Par:= [.rd tM,.rd tI]
abbrev ytF:List OT:= [⟨false,tB,.fz⟩]
def ywS (a0:dM) (a1:Int):Option (ResD ytF×MutD ynq) :=
  let r1:=yd a1 0 (IntKind.i64.wrap ((a0.1.length:Int) - 1))
  some ((r1,()),())
theorem yZI (x:InD ynq):zjH ⟨yJq,11,yTu⟩ Tryz.f204.results.toList yI1 ynq ytF x=ywS x.1 x.2.1:=by kernel_rfl
theorem yVN:ConOk Tryz.prog 204 ⟨ynq,ytF,fun x=>ywS x.1 x.2.1⟩:=zkh (yQK) Tryz.func204 (by kernel_rfl) (by kernel_rfl) Tryz.ntmps204.symm (by decide) (fun x r h=>(yZI x).trans h)
def yaY (a0:dM) (a1:Int):Bool :=
  let r1:=yd a1 0 (IntKind.i64.wrap ((a0.1.length:Int) - 1))
  r1
def ypr:Con:=⟨ynq,ytF,fun x=>(fun n=>some ((n,()),())) (yaY x.1 x.2.1)⟩
theorem yXZ (a0:dM) (a1:Int):ywS a0 a1=(fun n=>some ((n,()),())) (yaY a0 a1):=zkS (p:=fun (n:Bool)=>((n,()),())) rfl
theorem yyn:ConOk Tryz.prog 204 ypr:=(yVN).mono (fun x r _ h=>(yXZ x.1 x.2.1).trans h)
end
section
def yaL:Code:=(Tryz.f132.body).getD .skip
def yep:Env:=zki TT [(114,yn),(203,yyi),(204,ypr)] []
theorem yUw:FrOk Tryz.prog ⟨yep,76,fun _=>none⟩ yaL:=zkp yb yc ⟨yw,yJM,yyn,trivial⟩
def yHp:Nat→Option Seg:=fun _=>none
def ycK:Shape:=⟨[(1,false,[.ptr 0 0]),(10,false,[.br tL]),(11,false,[.int .i64]),(12,false,[.int .i64])],[(0,[.br tL,.br tW,.bool,.br tI])],[]⟩
def yiA:Shape:=⟨[(1,false,[.ptr 0 0]),(10,false,[.br tL]),(11,false,[.int .i64]),(12,false,[.ci .i64 0])],[(0,[.br tL,.br tW,.bool,.br tI])],[]⟩
def yii:Shape:=⟨[(1,false,[.ptr 0 0])],[(0,[.br tL,.br tW,.bool,.br tI])],[]⟩
def yiZ:Shape:=⟨[(2,false,[.bool])],[],[]⟩
abbrev yuz (v0:List (List Int)) (v1:Int) (v2:Int) (v3:dM):(ycK).X:=((((),()),(v0,()),(v1,()),(v2,()),()),((v3.1,v3.2.1,v3.2.2.1,v3.2.2.2,()),()),())
abbrev yRA (v0:List (List Int)) (v1:Int) (v2:dM):(yiA).X:=((((),()),(v0,()),(v1,()),((),()),()),((v2.1,v2.2.1,v2.2.2.1,v2.2.2.2,()),()),())
abbrev yRt (v0:dM):(yii).X:=((((),()),()),((v0.1,v0.2.1,v0.2.2.1,v0.2.2.2,()),()),())
abbrev yRM (v0:Bool):(yiZ).X:=(((v0,()),()),(),())
def yuW (v0:List (List Int)) (v1:Int) (v2:Int) (v3:List (List Int)) (v4:List dW) (v5:Bool) (v6:List Int):Option ((ycK).X ⊕ ((yii).X ⊕ (yiZ).X)) :=
  bif (ltb v2 v1) then
    bif (inb v2 v0.length) then
      let r2:=yg2 (nth v0 v2 [])
      bif (!r2) then
        some (.inr (.inr (((false,()),()),(),())))
      else
        some (.inl ((((),()),(v0,()),(v1,()),((IntKind.i64.wrap (v2+1)),()),()),((v3,v4,v5,v6,()),()),()))
    else none
  else
    some (.inr (.inl ((((),()),()),((v3,v4,v5,v6,()),()),())))
def ydi (x:(ycK).X):=yuW x.1.2.1.1 x.1.2.2.1.1 x.1.2.2.2.1.1 x.2.1.1.1 x.2.1.1.2.1 x.2.1.1.2.2.1 x.2.1.1.2.2.2.1
def yD2 (x:(yiA).X):(ycK).X:=((((),()),(x.1.2.1.1,()),(x.1.2.2.1.1,()),(0,()),()),((x.2.1.1.1,x.2.1.1.2.1,x.2.1.1.2.2.1,x.2.1.1.2.2.2.1,()),()),())
def yF6:Code:=(zdI yaL 64 52).getD .skip
theorem yTI:zdI yaL 64 13=some (.block 0 (.loop yF6)):=by kernel_rfl
theorem yWC (x:(ycK).X):zg7 ⟨yep,76,yHp⟩ 0 yF6 52 ycK yii yiZ x=ydi x:=by kernel_rfl
def yEk (x:(yiA).X):Nat:=(fun (u0:List (List Int)) (u1:Int) (u2:List (List Int)) (u3:List dW) (u4:Bool) (u5:List Int)=>18446744073709551616) x.1.2.1.1 x.1.2.2.1.1 x.2.1.1.1 x.2.1.1.2.1 x.2.1.1.2.2.1 x.2.1.1.2.2.2.1
def yvA (x:(yiA).X):Option ((yii).X ⊕ (yiZ).X):=zr ydi (yEk x) (yD2 x)
def yEP:Seg:=⟨yiA,yii,yiZ,yvA⟩
def yx9:Nat→Option Seg:=fun q=>bif Nat.beq q 13 then some yEP else yHp q
theorem yUx:FrOk Tryz.prog ⟨yep,76,yx9⟩ yaL:=(yUw).loop (sg:=yEP) ycK yD2 (by decide) yTI ydi yEk (by decide) (fun _=>rfl) (fun x r _ h=>h) yWC
def ycL:Shape:=⟨[(1,false,[.ptr 0 0]),(21,false,[.br tW]),(22,false,[.int .i64]),(23,false,[.int .i64])],[(0,[.br tL,.br tW,.bool,.br tI])],[]⟩
def yiB:Shape:=⟨[(1,false,[.ptr 0 0]),(21,false,[.br tW]),(22,false,[.int .i64]),(23,false,[.ci .i64 0])],[(0,[.br tL,.br tW,.bool,.br tI])],[]⟩
def yij:Shape:=⟨[(1,false,[.ptr 0 0])],[(0,[.br tL,.br tW,.bool,.br tI])],[]⟩
def yi0:Shape:=⟨[(2,false,[.bool])],[],[]⟩
abbrev yuA (v0:List dW) (v1:Int) (v2:Int) (v3:dM):(ycL).X:=((((),()),(v0,()),(v1,()),(v2,()),()),((v3.1,v3.2.1,v3.2.2.1,v3.2.2.2,()),()),())
abbrev yRB (v0:List dW) (v1:Int) (v2:dM):(yiB).X:=((((),()),(v0,()),(v1,()),((),()),()),((v2.1,v2.2.1,v2.2.2.1,v2.2.2.2,()),()),())
abbrev yRu (v0:dM):(yij).X:=((((),()),()),((v0.1,v0.2.1,v0.2.2.1,v0.2.2.2,()),()),())
abbrev yRN (v0:Bool):(yi0).X:=(((v0,()),()),(),())
def yuX (v0:List dW) (v1:Int) (v2:Int) (v3:List (List Int)) (v4:List dW) (v5:Bool) (v6:List Int):Option ((ycL).X ⊕ ((yij).X ⊕ (yi0).X)) :=
  bif (ltb v2 v1) then
    bif (inb v2 v0.length) then
      let r6:=yaY (v3,v4,v5,v6) ((nth v0 v2 (0,[])).1)
      bif (!(!r6)) then
        let r7:=yg2 ((nth v0 v2 (0,[])).2)
        bif (!r7) then
          some (.inr (.inr (((false,()),()),(),())))
        else
          some (.inl ((((),()),(v0,()),(v1,()),((IntKind.i64.wrap (v2+1)),()),()),((v3,v4,v5,v6,()),()),()))
      else
        some (.inr (.inr (((false,()),()),(),())))
    else none
  else
    some (.inr (.inl ((((),()),()),((v3,v4,v5,v6,()),()),())))
def ydj (x:(ycL).X):=yuX x.1.2.1.1 x.1.2.2.1.1 x.1.2.2.2.1.1 x.2.1.1.1 x.2.1.1.2.1 x.2.1.1.2.2.1 x.2.1.1.2.2.2.1
def yD3 (x:(yiB).X):(ycL).X:=((((),()),(x.1.2.1.1,()),(x.1.2.2.1.1,()),(0,()),()),((x.2.1.1.1,x.2.1.1.2.1,x.2.1.1.2.2.1,x.2.1.1.2.2.2.1,()),()),())
def yF7:Code:=(zdI yaL 64 116).getD .skip
theorem yTJ:zdI yaL 64 29=some (.block 2 (.loop yF7)):=by kernel_rfl
theorem yWD (x:(ycL).X):zg7 ⟨yep,76,yx9⟩ 2 yF7 116 ycL yij yi0 x=ydj x:=by kernel_rfl
def yEl (x:(yiB).X):Nat:=(fun (u0:List dW) (u1:Int) (u2:List (List Int)) (u3:List dW) (u4:Bool) (u5:List Int)=>18446744073709551616) x.1.2.1.1 x.1.2.2.1.1 x.2.1.1.1 x.2.1.1.2.1 x.2.1.1.2.2.1 x.2.1.1.2.2.2.1
def yvB (x:(yiB).X):Option ((yij).X ⊕ (yi0).X):=zr ydj (yEl x) (yD3 x)
def yEQ:Seg:=⟨yiB,yij,yi0,yvB⟩
def yya:Nat→Option Seg:=fun q=>bif Nat.beq q 29 then some yEQ else yx9 q
theorem yUy:FrOk Tryz.prog ⟨yep,76,yya⟩ yaL:=(yUx).loop (sg:=yEQ) ycL yD3 (by decide) yTJ ydj yEl (by decide) (fun _=>rfl) (fun x r _ h=>h) yWD
def ycM:Shape:=⟨[(1,false,[.ptr 0 0]),(40,false,[.br tI]),(41,false,[.int .i64]),(42,false,[.int .i64])],[(0,[.br tL,.br tW,.bool,.br tI])],[]⟩
def yiC:Shape:=⟨[(1,false,[.ptr 0 0]),(40,false,[.br tI]),(41,false,[.int .i64]),(42,false,[.ci .i64 0])],[(0,[.br tL,.br tW,.bool,.br tI])],[]⟩
def yik:Shape:=⟨[(1,false,[.ptr 0 0])],[(0,[.br tL,.br tW,.bool,.br tI])],[]⟩
def yi1:Shape:=⟨[(2,false,[.bool])],[],[]⟩
abbrev yuB (v0:List Int) (v1:Int) (v2:Int) (v3:dM):(ycM).X:=((((),()),(v0,()),(v1,()),(v2,()),()),((v3.1,v3.2.1,v3.2.2.1,v3.2.2.2,()),()),())
abbrev yRC (v0:List Int) (v1:Int) (v2:dM):(yiC).X:=((((),()),(v0,()),(v1,()),((),()),()),((v2.1,v2.2.1,v2.2.2.1,v2.2.2.2,()),()),())
abbrev yRv (v0:dM):(yik).X:=((((),()),()),((v0.1,v0.2.1,v0.2.2.1,v0.2.2.2,()),()),())
abbrev yRO (v0:Bool):(yi1).X:=(((v0,()),()),(),())
def yuY (v0:List Int) (v1:Int) (v2:Int) (v3:List (List Int)) (v4:List dW) (v5:Bool) (v6:List Int):Option ((ycM).X ⊕ ((yik).X ⊕ (yi1).X)) :=
  bif (ltb v2 v1) then
    bif (inb v2 v0.length) then
      let r10:=yaY (v3,v4,v5,v6) (nth v0 v2 0)
      bif (!(!r10)) then
        bif (ltb 0 v2) then
          bif (inb (IntKind.i64.wrap (v2 - 1)) v6.length) then
            bif (leb (nth v0 v2 0) (nth v6 (IntKind.i64.wrap (v2 - 1)) 0)) then
              some (.inr (.inr (((false,()),()),(),())))
            else
              some (.inl ((((),()),(v0,()),(v1,()),((IntKind.i64.wrap (v2+1)),()),()),((v3,v4,v5,v6,()),()),()))
          else none
        else
          some (.inl ((((),()),(v0,()),(v1,()),((IntKind.i64.wrap (v2+1)),()),()),((v3,v4,v5,v6,()),()),()))
      else
        some (.inr (.inr (((false,()),()),(),())))
    else none
  else
    some (.inr (.inl ((((),()),()),((v3,v4,v5,v6,()),()),())))
def ydk (x:(ycM).X):=yuY x.1.2.1.1 x.1.2.2.1.1 x.1.2.2.2.1.1 x.2.1.1.1 x.2.1.1.2.1 x.2.1.1.2.2.1 x.2.1.1.2.2.2.1
def yD4 (x:(yiC).X):(ycM).X:=((((),()),(x.1.2.1.1,()),(x.1.2.2.1.1,()),(0,()),()),((x.2.1.1.1,x.2.1.1.2.1,x.2.1.1.2.2.1,x.2.1.1.2.2.2.1,()),()),())
def yF8:Code:=(zdI yaL 64 244).getD .skip
theorem yTK:zdI yaL 64 61=some (.block 4 (.loop yF8)):=by kernel_rfl
theorem yWE (x:(ycM).X):zg7 ⟨yep,76,yya⟩ 4 yF8 244 ycM yik yi1 x=ydk x:=by kernel_rfl
def yEm (x:(yiC).X):Nat:=(fun (u0:List Int) (u1:Int) (u2:List (List Int)) (u3:List dW) (u4:Bool) (u5:List Int)=>18446744073709551616) x.1.2.1.1 x.1.2.2.1.1 x.2.1.1.1 x.2.1.1.2.1 x.2.1.1.2.2.1 x.2.1.1.2.2.2.1
def yvC (x:(yiC).X):Option ((yik).X ⊕ (yi1).X):=zr ydk (yEm x) (yD4 x)
def yER:Seg:=⟨yiC,yik,yi1,yvC⟩
def yHq:Nat→Option Seg:=fun q=>bif Nat.beq q 61 then some yER else yya q
theorem yUz:FrOk Tryz.prog ⟨yep,76,yHq⟩ yaL:=(yUy).loop (sg:=yER) ycM yD4 (by decide) yTK ydk yEm (by decide) (fun _=>rfl) (fun x r _ h=>h) yWE
abbrev yk0:List Par:= [.rd tM]
abbrev yvQ:List OT:= [⟨false,tB,.fz⟩]
def yrY (a0:dM):Option (ResD yvQ×MutD yk0) :=
  zjw (yvA ((((),()),(a0.1,()),((a0.1.length:Int),()),((),()),()),((a0.1,a0.2.1,a0.2.2.1,a0.2.2.2,()),()),())) (fun y2 =>
    zjw (yvB ((((),()),(y2.2.1.1.2.1,()),((y2.2.1.1.2.1.length:Int),()),((),()),()),((y2.2.1.1.1,y2.2.1.1.2.1,y2.2.1.1.2.2.1,y2.2.1.1.2.2.2.1,()),()),())) (fun y7 =>
      zjw (yvC ((((),()),(y7.2.1.1.2.2.2.1,()),((y7.2.1.1.2.2.2.1.length:Int),()),((),()),()),((y7.2.1.1.1,y7.2.1.1.2.1,y7.2.1.1.2.2.1,y7.2.1.1.2.2.2.1,()),()),())) (fun y10 =>
        let r12:=yd (y10.2.1.1.1.length:Int) 1 20
        bif r12 then
          some (((leb (y10.2.1.1.2.1.length:Int) 60),()),())
        else
          some ((false,()),())) (fun y10 =>
        some ((y10.1.1.1,()),()))) (fun y7 =>
      some ((y7.1.1.1,()),()))) (fun y2 =>
    some ((y2.1.1.1,()),()))
theorem y0Y (x:InD yk0):zjH ⟨yep,76,yHq⟩ Tryz.f132.results.toList yaL yk0 yvQ x=yrY x.1:=by kernel_rfl
theorem yYr:ConOk Tryz.prog 132 ⟨yk0,yvQ,fun x=>yrY x.1⟩:=zkh (yUz) Tryz.func132 (by kernel_rfl) (by kernel_rfl) Tryz.ntmps132.symm (by decide) (fun x r h=>(y0Y x).trans h)
def yE (a0:dM):Bool:=yp a0
theorem y0b (a0:dM) (hk:zi9 yk0 (a0,())):yrY a0=(fun n=>some ((n,()),())) (yE a0):=by
  have hb1:a0.1.length * 24≤2 ^ 47:=hk.1.1.1
  have hb2:a0.2.1.length * 32≤2 ^ 47:=hk.1.2.1.1
  have hb3:a0.2.2.2.length * 8≤2 ^ 47:=hk.1.2.2.2.1
  have h1:yvA (yRA a0.1 a0.1.length a0)=some (bif a0.1.all ybz then .inl (yRt a0) else .inr (yRM false)) :=
    zjS (step:=ydi) a0.1 [] (fun i=>yuz a0.1 a0.1.length i a0) ybz _ _ (fun i hi=>by
      simp only [ydi,yuz,yuW,zjI (show (i:Int) < a0.1.length by omega),cond_true,wr (show -9223372036854775808≤(i:Int)+1 by omega) (by omega),Int.natCast_add,Int.natCast_one,Int.toNat_natCast,zkO hi,zjW,yG4]
      cases ybz (a0.1.getD i [])<;>rfl) (by simp only [ydi,yuz,yuW,zkm (Int.le_refl _),cond_false]) _ (by show _ < 18446744073709551616; omega)
  have h2:yvB (yRB a0.2.1 a0.2.1.length a0)=some (bif a0.2.1.all (yyF a0.1.length) then .inl (yRu a0) else .inr (yRN false)) :=
    zjS (step:=ydj) a0.2.1 (0,[]) (fun i=>yuA a0.2.1 a0.2.1.length i a0) (yyF a0.1.length) _ _ (fun i hi=>by
      simp only [ydj,yuA,yuX,zjI (show (i:Int) < a0.2.1.length by omega),cond_true,wr (show -9223372036854775808≤(i:Int)+1 by omega) (by omega),Int.natCast_add,Int.natCast_one,Int.toNat_natCast,zkO hi,zjW,yG4,yaY,yM,ytb (show a0.1.length≤1152921504606846976 by omega),yyF]
      cases inb (a0.2.1.getD i (0,[])).1 a0.1.length<;>cases ybz (a0.2.1.getD i (0,[])).2<;>rfl) (by simp only [ydj,yuA,yuX,zkm (Int.le_refl _),cond_false]) _ (by show _ < 18446744073709551616; omega)
  have h3:yvC (yRC a0.2.2.2 a0.2.2.2.length a0)=some (bif (List.range a0.2.2.2.length).any (yF3 a0.1.length a0.2.2.2) then .inr (yRO false) else .inl (yRv a0)) :=
    zf4 (step:=ydk) (fun i=>yuB a0.2.2.2 a0.2.2.2.length i a0) a0.2.2.2.length (yF3 a0.1.length a0.2.2.2) _ _ (fun i hi=>by
      simp only [ydk,yuB,yuY,zjI (show (i:Int) < a0.2.2.2.length by omega),cond_true,wr (show -9223372036854775808≤(i:Int)+1 by omega) (by omega),Int.natCast_add,Int.natCast_one,Int.toNat_natCast,zkO hi,zjW,yaY,yM,ytb (show a0.1.length≤1152921504606846976 by omega),yF3]
      rcases Nat.eq_zero_or_pos i with rfl | h0
      · cases inb (a0.2.2.2.getD 0 0) a0.1.length<;>rfl
      · rw [show IntKind.i64.wrap ((i:Int) - 1)=((i - 1:Nat):Int) by rw [wr (by omega) (by omega)]; omega,zkO (show i - 1 < a0.2.2.2.length by omega),zjW,zjI (show (0:Int) < i by omega),decide_eq_true h0]
        cases inb (a0.2.2.2.getD i 0) a0.1.length<;>cases leb (a0.2.2.2.getD i 0) (a0.2.2.2.getD (i - 1) 0)<;>rfl) (by simp only [ydk,yuB,yuY,zkm (Int.le_refl _),cond_false]) _ (by show _ < 18446744073709551616; omega)
  unfold yrY yE yp
  rw [h1]
  cases a0.1.all ybz
  · rfl
  simp only [cond_true,zkJ,h2]
  cases a0.2.1.all (yyF a0.1.length)
  · rfl
  simp only [cond_true,zkJ,h3,yZj,yM,yfg]
  cases ywb a0.1.length a0.2.2.2
  · rfl
  simp only [Bool.not_true,cond_false,zkJ]
  cases leb 1 (a0.1.length:Int)<;>cases leb (a0.1.length:Int) 20<;>rfl
def yeb:Con:=⟨yk0,yvQ,fun x=>(fun n=>some ((n,()),())) (yE x.1)⟩
theorem yhW:ConOk Tryz.prog 132 yeb:=(yYr).mono (fun x r hk h=>(y0b x.1 hk).trans h)
end
section
def yHf:Code:=(Tryz.f133.body).getD .skip
def yHJ:Env:=zki TT [] []
theorem yN3:FrOk Tryz.prog ⟨yHJ,6,fun _=>none⟩ yHf:=zkp yb yc trivial
def yP3:Nat→Option Seg:=fun _=>none
abbrev yk3:List Par:= [.rd tG]
abbrev yrr:List OT:= [⟨false,tI,.fz⟩]
def yuN (a0:dG):Option (ResD yrr×MutD yk3) :=
  some (((IntKind.i64.wrap (6+a0.2)),()),())
theorem yXi (x:InD yk3):zjH ⟨yHJ,6,yP3⟩ Tryz.f133.results.toList yHf yk3 yrr x=yuN x.1:=by kernel_rfl
theorem ySq:ConOk Tryz.prog 133 ⟨yk3,yrr,fun x=>yuN x.1⟩:=zkh (yN3) Tryz.func133 (by kernel_rfl) (by kernel_rfl) Tryz.ntmps133.symm (by decide) (fun x r h=>(yXi x).trans h)
def yrO (a0:dG):Int :=
  (IntKind.i64.wrap (6+a0.2))
def yDN:Con:=⟨yk3,yrr,fun x=>(fun n=>some ((n,()),())) (yrO x.1)⟩
theorem yVl (a0:dG):yuN a0=(fun n=>some ((n,()),())) (yrO a0):=zkS (p:=fun (n:Int)=>((n,()),())) rfl
theorem yWj:ConOk Tryz.prog 133 yDN:=(ySq).mono (fun x r _ h=>(yVl x.1).trans h)
end
section
def ypW:Code:=(Tryz.f51.body).getD .skip
def yvr:Env:=zki TT [(114,yn),(129,yrJ),(130,ywg),(131,yDM),(132,yeb),(133,yDN)] []
theorem yUt:FrOk Tryz.prog ⟨yvr,103,fun _=>none⟩ ypW:=zkp yb yc ⟨yw,yAy,yIl,yWi,yhW,yWj,trivial⟩
def yHn:Nat→Option Seg:=fun _=>none
def ycJ:Shape:=⟨[(1,false,[.ptr 0 0]),(41,false,[.br tM]),(42,false,[.int .i64]),(43,false,[.int .i64])],[(0,[.int .i64,.int .i64,.int .i64,.br tM,.int .i64,.int .i64,.int .i64,.int .i64,.int .i64,.br tW,.int .i64,.bool,.bool])],[]⟩
def yiz:Shape:=⟨[(1,false,[.ptr 0 0]),(41,false,[.br tM]),(42,false,[.int .i64]),(43,false,[.ci .i64 0])],[(0,[.int .i64,.int .i64,.int .i64,.br tM,.int .i64,.int .i64,.int .i64,.int .i64,.int .i64,.br tW,.int .i64,.bool,.bool])],[]⟩
def yih:Shape:=⟨[(1,false,[.ptr 0 0])],[(0,[.int .i64,.int .i64,.int .i64,.br tM,.int .i64,.int .i64,.int .i64,.int .i64,.int .i64,.br tW,.int .i64,.bool,.bool])],[]⟩
def yiV:Shape:=⟨[(2,false,[.bool])],[],[]⟩
abbrev yuy (v0:List dM) (v1:Int) (v2:Int) (v3:dA):(ycJ).X:=((((),()),(v0,()),(v1,()),(v2,()),()),((v3.1,v3.2.1.1,v3.2.1.2,v3.2.2.1,v3.2.2.2.1,v3.2.2.2.2.1,v3.2.2.2.2.2.1,v3.2.2.2.2.2.2.1,v3.2.2.2.2.2.2.2.1,v3.2.2.2.2.2.2.2.2.1,v3.2.2.2.2.2.2.2.2.2.1,v3.2.2.2.2.2.2.2.2.2.2.1,v3.2.2.2.2.2.2.2.2.2.2.2,()),()),())
abbrev yRz (v0:List dM) (v1:Int) (v2:dA):(yiz).X:=((((),()),(v0,()),(v1,()),((),()),()),((v2.1,v2.2.1.1,v2.2.1.2,v2.2.2.1,v2.2.2.2.1,v2.2.2.2.2.1,v2.2.2.2.2.2.1,v2.2.2.2.2.2.2.1,v2.2.2.2.2.2.2.2.1,v2.2.2.2.2.2.2.2.2.1,v2.2.2.2.2.2.2.2.2.2.1,v2.2.2.2.2.2.2.2.2.2.2.1,v2.2.2.2.2.2.2.2.2.2.2.2,()),()),())
abbrev yRs (v0:dA):(yih).X:=((((),()),()),((v0.1,v0.2.1.1,v0.2.1.2,v0.2.2.1,v0.2.2.2.1,v0.2.2.2.2.1,v0.2.2.2.2.2.1,v0.2.2.2.2.2.2.1,v0.2.2.2.2.2.2.2.1,v0.2.2.2.2.2.2.2.2.1,v0.2.2.2.2.2.2.2.2.2.1,v0.2.2.2.2.2.2.2.2.2.2.1,v0.2.2.2.2.2.2.2.2.2.2.2,()),()),())
abbrev yRL (v0:Bool):(yiV).X:=(((v0,()),()),(),())
def yuV (v0:List dM) (v1:Int) (v2:Int) (v3:Int) (v4:Int) (v5:Int) (v6:List dM) (v7:Int) (v8:Int) (v9:Int) (v10:Int) (v11:Int) (v12:List dW) (v13:Int) (v14:Bool) (v15:Bool):Option ((ycJ).X ⊕ ((yih).X ⊕ (yiV).X)) :=
  bif (ltb v2 v1) then
    bif (inb v2 v0.length) then
      let r7:=yE ((nth v0 v2 ([],[],false,[])).1,((nth v0 v2 ([],[],false,[])).2).1,(((nth v0 v2 ([],[],false,[])).2).2))
      bif (!(!r7)) then
        let r8:=yrO (v4,v5)
        bif (!((((nth v0 v2 ([],[],false,[])).1).length:Int) !=r8)) then
          bif (((nth v0 v2 ([],[],false,[])).2).2).1 then
            bif (v7 !=v2) then
              bif (!v15) then
                some (.inr (.inr (((false,()),()),(),())))
              else
                some (.inl ((((),()),(v0,()),(v1,()),((IntKind.i64.wrap (v2+1)),()),()),((v3,v4,v5,v6,v7,v8,v9,v10,v11,v12,v13,v14,v15,()),()),()))
            else
              some (.inl ((((),()),(v0,()),(v1,()),((IntKind.i64.wrap (v2+1)),()),()),((v3,v4,v5,v6,v7,v8,v9,v10,v11,v12,v13,v14,v15,()),()),()))
          else
            some (.inl ((((),()),(v0,()),(v1,()),((IntKind.i64.wrap (v2+1)),()),()),((v3,v4,v5,v6,v7,v8,v9,v10,v11,v12,v13,v14,v15,()),()),()))
        else
          some (.inr (.inr (((false,()),()),(),())))
      else
        some (.inr (.inr (((false,()),()),(),())))
    else none
  else
    some (.inr (.inl ((((),()),()),((v3,v4,v5,v6,v7,v8,v9,v10,v11,v12,v13,v14,v15,()),()),())))
def ydh (x:(ycJ).X):=yuV x.1.2.1.1 x.1.2.2.1.1 x.1.2.2.2.1.1 x.2.1.1.1 x.2.1.1.2.1 x.2.1.1.2.2.1 x.2.1.1.2.2.2.1 x.2.1.1.2.2.2.2.1 x.2.1.1.2.2.2.2.2.1 x.2.1.1.2.2.2.2.2.2.1 x.2.1.1.2.2.2.2.2.2.2.1 x.2.1.1.2.2.2.2.2.2.2.2.1 x.2.1.1.2.2.2.2.2.2.2.2.2.1 x.2.1.1.2.2.2.2.2.2.2.2.2.2.1 x.2.1.1.2.2.2.2.2.2.2.2.2.2.2.1 x.2.1.1.2.2.2.2.2.2.2.2.2.2.2.2.1
def yD1 (x:(yiz).X):(ycJ).X:=((((),()),(x.1.2.1.1,()),(x.1.2.2.1.1,()),(0,()),()),((x.2.1.1.1,x.2.1.1.2.1,x.2.1.1.2.2.1,x.2.1.1.2.2.2.1,x.2.1.1.2.2.2.2.1,x.2.1.1.2.2.2.2.2.1,x.2.1.1.2.2.2.2.2.2.1,x.2.1.1.2.2.2.2.2.2.2.1,x.2.1.1.2.2.2.2.2.2.2.2.1,x.2.1.1.2.2.2.2.2.2.2.2.2.1,x.2.1.1.2.2.2.2.2.2.2.2.2.2.1,x.2.1.1.2.2.2.2.2.2.2.2.2.2.2.1,x.2.1.1.2.2.2.2.2.2.2.2.2.2.2.2.1,()),()),())
def yF5:Code:=(zdI ypW 64 116).getD .skip
theorem yTH:zdI ypW 64 29=some (.block 0 (.loop yF5)):=by kernel_rfl
theorem yWB (x:(ycJ).X):zg7 ⟨yvr,103,yHn⟩ 0 yF5 116 ycJ yih yiV x=ydh x:=by kernel_rfl
def yEj (x:(yiz).X):Nat:=(fun (u0:List dM) (u1:Int) (u2:Int) (u3:Int) (u4:Int) (u5:List dM) (u6:Int) (u7:Int) (u8:Int) (u9:Int) (u10:Int) (u11:List dW) (u12:Int) (u13:Bool) (u14:Bool)=>18446744073709551616) x.1.2.1.1 x.1.2.2.1.1 x.2.1.1.1 x.2.1.1.2.1 x.2.1.1.2.2.1 x.2.1.1.2.2.2.1 x.2.1.1.2.2.2.2.1 x.2.1.1.2.2.2.2.2.1 x.2.1.1.2.2.2.2.2.2.1 x.2.1.1.2.2.2.2.2.2.2.1 x.2.1.1.2.2.2.2.2.2.2.2.1 x.2.1.1.2.2.2.2.2.2.2.2.2.1 x.2.1.1.2.2.2.2.2.2.2.2.2.2.1 x.2.1.1.2.2.2.2.2.2.2.2.2.2.2.1 x.2.1.1.2.2.2.2.2.2.2.2.2.2.2.2.1
def yvz (x:(yiz).X):Option ((yih).X ⊕ (yiV).X):=zr ydh (yEj x) (yD1 x)
def yEO:Seg:=⟨yiz,yih,yiV,yvz⟩
def yHo:Nat→Option Seg:=fun q=>bif Nat.beq q 29 then some yEO else yHn q
theorem yUu:FrOk Tryz.prog ⟨yvr,103,yHo⟩ ypW:=(yUt).loop (sg:=yEO) ycJ yD1 (by decide) yTH ydh yEj (by decide) (fun _=>rfl) (fun x r _ h=>h) yWB
abbrev ykZ:List Par:= [.rd tA]
abbrev yvO:List OT:= [⟨false,tB,.fz⟩]
def yrX (a0:dA):Option (ResD yvO×MutD ykZ) :=
  let r1:=yeJ a0.2.1
  bif (!(!r1)) then
    bif (!((a0.2.2.1.length:Int) !=a0.2.1.1)) then
      let r2:=yd a0.1 1 60000
      bif (!(!r2)) then
        let r3:=yfq a0.2.1 a0.2.2.2.1 a0.2.2.2.2.1
        bif (!(!r3)) then
          bnd (yrR a0) fun r4 =>
          bif (!r4.1.1) then
            some ((false,()),())
          else
            zjw (yvz ((((),()),(a0.2.2.1,()),((a0.2.2.1.length:Int),()),((),()),()),((a0.1,a0.2.1.1,a0.2.1.2,a0.2.2.1,a0.2.2.2.1,a0.2.2.2.2.1,a0.2.2.2.2.2.1,a0.2.2.2.2.2.2.1,a0.2.2.2.2.2.2.2.1,a0.2.2.2.2.2.2.2.2.1,a0.2.2.2.2.2.2.2.2.2.1,a0.2.2.2.2.2.2.2.2.2.2.1,a0.2.2.2.2.2.2.2.2.2.2.2,()),()),())) (fun y8 =>
              let r10:=yd y8.2.1.1.2.2.2.2.2.2.1 0 60000
              bif r10 then
                let r11:=yd y8.2.1.1.2.2.2.2.2.2.2.1 0 60000
                bif r11 then
                  let r12:=yd y8.2.1.1.2.2.2.2.2.2.2.2.1 0 60000
                  bif r12 then
                    let r13:=yd (IntKind.i64.wrap (y8.2.1.1.2.2.2.2.2.2.1 - y8.2.1.1.2.2.2.2.2.2.2.1)) 0 4
                    bif r13 then
                      let r14:=yd y8.2.1.1.2.2.2.2.2.2.2.2.2.2.1 (-1) 1000
                      some ((r14,()),())
                    else
                      some ((false,()),())
                  else
                    some ((false,()),())
                else
                  some ((false,()),())
              else
                some ((false,()),())) (fun y8 =>
              some ((y8.1.1.1,()),()))
        else
          some ((false,()),())
      else
        some ((false,()),())
    else
      some ((false,()),())
  else
    some ((false,()),())
theorem y0W (x:InD ykZ):zjH ⟨yvr,103,yHo⟩ Tryz.f51.results.toList ypW ykZ yvO x=yrX x.1:=by kernel_rfl
theorem yYp:ConOk Tryz.prog 51 ⟨ykZ,yvO,fun x=>yrX x.1⟩:=zkh (yUu) Tryz.func51 (by kernel_rfl) (by kernel_rfl) Tryz.ntmps51.symm (by decide) (fun x r h=>(y0W x).trans h)
theorem y2Y {S T G F z TS le:Bool} (h1:T=true→TS=true→S=true) (h2:S=true→T=true→z=(TS&&le)) :
    (bif S then bif T then bif G then bif z then some ((F,()),()) else some ((false,()),()) else some ((false,()),()) else some ((false,()),()) else some ((false,()),()))=some (((T&&(TS&&(le&&(G&&F)))),()),()):=by
  cases S
  · cases T
    · rfl
    · cases TS
      · rfl
      · exact absurd (h1 rfl rfl) Bool.false_ne_true
  · cases T
    · cases G<;>rfl
    · rw [h2 rfl rfl]
      cases TS<;>cases le<;>cases G<;>rfl
def yc2 (a0:dA):Bool:=yaJ a0
theorem yZ9 (a0:dA) (hk:zi9 ykZ (a0,())):yrX a0=(fun n=>some ((n,()),())) (yc2 a0):=by
  have hb:a0.2.2.1.length * 80≤2 ^ 47:=hk.1.2.2.1.1
  unfold yrX yc2 yaJ
  simp only [yU5,yM,yfg]
  cases hg:yg a0.2.1
  · rfl
  have hg2:=yaZ.1 hg
  have h1:yvz (yRz a0.2.2.1 a0.2.2.1.length a0)=some (bif (List.range a0.2.2.1.length).any (yji a0) then .inr (yRL false) else .inl (yRs a0)) :=
    zf4 (step:=ydh) (fun i=>yuy a0.2.2.1 a0.2.2.1.length i a0) a0.2.2.1.length (yji a0) _ _ (fun i hi=>by
      simp only [ydh,yuy,yuV,zjI (show (i:Int) < a0.2.2.1.length by omega),cond_true,wr (show -9223372036854775808≤(i:Int)+1 by omega) (by omega),Int.natCast_add,Int.natCast_one,Int.toNat_natCast,zkO hi,zkV,yE,yji,yrO,wr (show -9223372036854775808≤6+a0.2.1.2 by omega) (by omega),yf]
      rw [show (a0.2.2.2.1 !=(i:Int))=((i:Int) !=a0.2.2.2.1) from bne_comm]
      cases yp (nth a0.2.2.1 i ([],[],false,[]))<;>cases (((nth a0.2.2.1 i ([],[],false,[])).1.length:Int) !=6+a0.2.1.2)<;>cases (nth a0.2.2.1 i ([],[],false,[])).2.2.1<;>cases ((i:Int) !=a0.2.2.2.1)<;>cases a0.2.2.2.2.2.2.2.2.2.2.2<;>rfl) (by simp only [ydh,yuy,yuV,zkm (Int.le_refl _),cond_false]) _ (by show _ < 18446744073709551616; omega)
  rw [yWy a0 hg,h1]
  simp only [zky,ylC,yfq,yM,yfg,wr (show -9223372036854775808≤a0.2.1.1 - 1 by omega) (by omega),ywE]
  have hw:(leb 0 a0.2.2.2.2.2.1&&leb a0.2.2.2.2.2.1 60000)=true→(leb 0 a0.2.2.2.2.2.2.1&&leb a0.2.2.2.2.2.2.1 60000)=true→IntKind.i64.wrap (a0.2.2.2.2.2.1 - a0.2.2.2.2.2.2.1)=a0.2.2.2.2.2.1 - a0.2.2.2.2.2.2.1:=fun h h'=>by
    rw [Bool.and_eq_true,zjQ,zjQ]at h h'
    exact wr (by omega) (by omega)
  simp only [bne,Bool.not_not,cond_true,Bool.true_and]
  have h2:(leb 0 a0.2.2.2.2.2.1&&leb a0.2.2.2.2.2.1 60000)=true→(leb 0 a0.2.2.2.2.2.2.1&&leb a0.2.2.2.2.2.2.1 60000)=true→(leb 0 (IntKind.i64.wrap (a0.2.2.2.2.2.1 - a0.2.2.2.2.2.2.1))&&leb (IntKind.i64.wrap (a0.2.2.2.2.2.1 - a0.2.2.2.2.2.2.1)) 4)=((leb a0.2.2.2.2.2.2.1 a0.2.2.2.2.2.1&&leb a0.2.2.2.2.2.1 60000)&&leb a0.2.2.2.2.2.1 (a0.2.2.2.2.2.2.1+4)):=fun h h'=>by
    rw [hw h h',Bool.eq_iff_iff]
    simp only [Bool.and_eq_true,zjQ]at h h' ⊢
    omega
  have h3:(leb 0 a0.2.2.2.2.2.2.1&&leb a0.2.2.2.2.2.2.1 60000)=true→(leb a0.2.2.2.2.2.2.1 a0.2.2.2.2.2.1&&leb a0.2.2.2.2.2.1 60000)=true→(leb 0 a0.2.2.2.2.2.1&&leb a0.2.2.2.2.2.1 60000)=true:=fun h h'=>by
    simp only [Bool.and_eq_true,zjQ]at h h' ⊢
    omega
  cases ((a0.2.2.1.length:Int)==a0.2.1.1)
  · cases (leb 1 a0.1&&leb a0.1 60000)<;>cases (List.range a0.2.2.1.length).any (yji a0)<;>rfl
  cases (leb 1 a0.1&&leb a0.1 60000)
  · rfl
  cases (leb (-1) a0.2.2.2.1&&leb a0.2.2.2.1 (a0.2.1.1 - 1))
  · cases (List.range a0.2.2.1.length).any (yji a0)<;>cases yrN a0.2.1 a0.2.2.2.2.2.2.2.2.1<;>rfl
  cases (leb 0 a0.2.2.2.2.1&&leb a0.2.2.2.2.1 a0.2.1.2)
  · cases (List.range a0.2.2.1.length).any (yji a0)<;>cases yrN a0.2.1 a0.2.2.2.2.2.2.2.2.1<;>rfl
  cases yrN a0.2.1 a0.2.2.2.2.2.2.2.2.1
  · cases (List.range a0.2.2.1.length).any (yji a0)<;>cases (a0.2.2.2.1== -1)<;>cases (a0.2.2.2.2.1==0)<;>rfl
  cases (List.range a0.2.2.1.length).any (yji a0)
  · cases (a0.2.2.2.1== -1)<;>cases (a0.2.2.2.2.1==0)
    case true.false=>rfl
    all_goals exact y2Y h3 h2
  · cases (a0.2.2.2.1== -1)<;>cases (a0.2.2.2.2.1==0)<;>rfl
def yyg:Con:=⟨ykZ,yvO,fun x=>(fun n=>some ((n,()),())) (yc2 x.1)⟩
theorem yJK:ConOk Tryz.prog 51 yyg:=(yYp).mono (fun x r hk h=>(yZ9 x.1 hk).trans h)
end
section
def yFh:Code:=(Tryz.f151.body).getD .skip
def yFV:Env:=zki TT [] []
theorem yLJ:FrOk Tryz.prog ⟨yFV,6,fun _=>none⟩ yFh:=zkp yb yc trivial
def yNk:Nat→Option Seg:=fun _=>none
abbrev yeV:List Par:= [.rd tL]
abbrev yo1:List OT:= [⟨false,tL,(.ow .fz)⟩]
def yks (a0:List Int):Option (ResD yo1×MutD yeV) :=
  bif (zj4 ([]:List Int).length a0.length 8) then
    some (((([]:List Int)++a0),()),())
  else none
theorem yT8 (x:InD yeV):zjH ⟨yFV,6,yNk⟩ Tryz.f151.results.toList yFh yeV yo1 x=yks x.1:=by kernel_rfl
theorem yO3:ConOk Tryz.prog 151 ⟨yeV,yo1,fun x=>yks x.1⟩:=zkh (yLJ) Tryz.func151 (by kernel_rfl) (by kernel_rfl) Tryz.ntmps151.symm (by decide) (fun x r h=>(yT8 x).trans h)
def yj (a0:List Int):List Int:=a0
theorem yR0 (a0:List Int) (hk:zi9 yeV (a0,())):yks a0=(fun n=>some ((n,()),())) (yj a0):=by
  have hb:a0.length * 8≤2 ^ 47:=hk.1.1
  unfold yks yj
  rw [show zj4 ([]:List Int).length a0.length 8=true by rw [zkw,List.length_nil]; omega]
  rfl
def yam:Con:=⟨yeV,yo1,fun x=>(fun n=>some ((n,()),())) (yj x.1)⟩
theorem yca:ConOk Tryz.prog 151 yam:=(yO3).mono (fun x r hk h=>(yR0 x.1 hk).trans h)
end
section
def ycc:Code:=(Tryz.f215.body).getD .skip
def yf9:Env:=zki TT [(151,yam)] []
theorem yNY:FrOk Tryz.prog ⟨yf9,49,fun _=>none⟩ ycc:=zkp yb yc ⟨yca,trivial⟩
def yCY:Nat→Option Seg:=fun _=>none
def ybn:Shape:=⟨[(1,false,[.ptr 0 0]),(2,false,[.ptr 64 0]),(3,false,[.ptr 4480 0]),(15,false,[.br tL]),(16,false,[.int .i64]),(17,false,[.int .i64])],[(0,[.br tL,.br tW,.bool,.br tI]),(64,[.nil,.nil,.bool,.nil]),(4480,[.at 800000001,.nil,.bool,.at 800000000])],[(800000001,tL,(.ow .fz)),(800000000,tI,.fz)]⟩
def yfL:Shape:=⟨[(1,false,[.ptr 0 0]),(2,false,[.ptr 64 0]),(3,false,[.ptr 4480 0]),(15,false,[.br tL]),(16,false,[.int .i64]),(17,false,[.ci .i64 0])],[(0,[.br tL,.br tW,.bool,.br tI]),(64,[.nil,.nil,.bool,.nil]),(4480,[.at 800000001,.nil,.bool,.at 800000000])],[(800000001,tL,(.ow .fz)),(800000000,tI,.fz)]⟩
def yfA:Shape:=⟨[(1,false,[.ptr 0 0]),(2,false,[.ptr 64 0]),(3,false,[.ptr 4480 0])],[(0,[.br tL,.br tW,.bool,.br tI]),(64,[.nil,.nil,.bool,.nil]),(4480,[.at 800000000,.nil,.bool,.at 800000001])],[(800000000,tL,(.ow .fz)),(800000001,tI,.fz)]⟩
def yj5:Shape:=⟨[],[],[]⟩
abbrev yqA (v0:List (List Int)) (v1:Int) (v2:Int) (v3:dM) (v4:dM) (v5:dM):(ybn).X:=((((),()),((),()),((),()),(v0,()),(v1,()),(v2,()),()),((v3.1,v3.2.1,v3.2.2.1,v3.2.2.2,()),((),(),v4.2.2.1,(),()),((),(),v5.2.2.1,(),()),()),(v5.1,v5.2.2.2,()))
abbrev yMo (v0:List (List Int)) (v1:Int) (v2:dM) (v3:dM) (v4:dM):(yfL).X:=((((),()),((),()),((),()),(v0,()),(v1,()),((),()),()),((v2.1,v2.2.1,v2.2.2.1,v2.2.2.2,()),((),(),v3.2.2.1,(),()),((),(),v4.2.2.1,(),()),()),(v4.1,v4.2.2.2,()))
abbrev yz4 (v0:dM) (v1:dM) (v2:dM):(yfA).X:=((((),()),((),()),((),()),()),((v0.1,v0.2.1,v0.2.2.1,v0.2.2.2,()),((),(),v1.2.2.1,(),()),((),(),v2.2.2.1,(),()),()),(v2.1,v2.2.2.2,()))
def yqQ (v0:List (List Int)) (v1:Int) (v2:Int) (v3:List (List Int)) (v4:List dW) (v5:Bool) (v6:List Int) (v7:Bool) (v8:Bool) (v9:List (List Int)) (v10:List Int):Option ((ybn).X ⊕ ((yfA).X ⊕ (yj5).X)) :=
  bif (ltb v2 v1) then
    bif (inb v2 v0.length) then
      let r4:=yj (nth v0 v2 [])
      bif (zj4 v9.length ([r4]:List (List Int)).length 24) then
        some (.inl ((((),()),((),()),((),()),(v0,()),(v1,()),((IntKind.i64.wrap (v2+1)),()),()),((v3,v4,v5,v6,()),((),(),v7,(),()),((),(),v8,(),()),()),((v9++([r4]:List (List Int))),v10,())))
      else none
    else none
  else
    some (.inr (.inl ((((),()),((),()),((),()),()),((v3,v4,v5,v6,()),((),(),v7,(),()),((),(),v8,(),()),()),(v9,v10,()))))
def ybF (x:(ybn).X):=yqQ x.1.2.2.2.1.1 x.1.2.2.2.2.1.1 x.1.2.2.2.2.2.1.1 x.2.1.1.1 x.2.1.1.2.1 x.2.1.1.2.2.1 x.2.1.1.2.2.2.1 x.2.1.2.1.2.2.1 x.2.1.2.2.1.2.2.1 x.2.2.1 x.2.2.2.1
def yzu (x:(yfL).X):(ybn).X:=((((),()),((),()),((),()),(x.1.2.2.2.1.1,()),(x.1.2.2.2.2.1.1,()),(0,()),()),((x.2.1.1.1,x.2.1.1.2.1,x.2.1.1.2.2.1,x.2.1.1.2.2.2.1,()),((),(),x.2.1.2.1.2.2.1,(),()),((),(),x.2.1.2.2.1.2.2.1,(),()),()),(x.2.2.1,x.2.2.2.1,()))
def yBk:Code:=(zdI ycc 64 116).getD .skip
theorem yNv:zdI ycc 64 29=some (.block 0 (.loop yBk)):=by kernel_rfl
theorem yPx (x:(ybn).X):zg7 ⟨yf9,49,yCY⟩ 0 yBk 116 ybn yfA yj5 x=ybF x:=by kernel_rfl
def yzN (x:(yfL).X):Nat:=(fun (u0:List (List Int)) (u1:Int) (u2:List (List Int)) (u3:List dW) (u4:Bool) (u5:List Int) (u6:Bool) (u7:Bool) (u8:List (List Int)) (u9:List Int)=>18446744073709551616) x.1.2.2.2.1.1 x.1.2.2.2.2.1.1 x.2.1.1.1 x.2.1.1.2.1 x.2.1.1.2.2.1 x.2.1.1.2.2.2.1 x.2.1.2.1.2.2.1 x.2.1.2.2.1.2.2.1 x.2.2.1 x.2.2.2.1
def yse (x:(yfL).X):Option ((yfA).X ⊕ (yj5).X):=zr ybF (yzN x) (yzu x)
def yAd:Seg:=⟨yfL,yfA,yj5,yse⟩
def yub:Nat→Option Seg:=fun q=>bif Nat.beq q 29 then some yAd else yCY q
theorem yNZ:FrOk Tryz.prog ⟨yf9,49,yub⟩ ycc:=(yNY).loop (sg:=yAd) ybn yzu (by decide) yNv ybF yzN (by decide) (fun _=>rfl) (fun x r _ h=>h) yPx
def ybo:Shape:=⟨[(2,false,[.ptr 64 0]),(3,false,[.ptr 4480 0]),(30,false,[.br tW]),(31,false,[.int .i64]),(32,false,[.int .i64])],[(64,[.nil,.nil,.bool,.nil]),(4480,[.at 800000000,.at 800000002,.bool,.at 800000001])],[(800000000,tL,(.ow .fz)),(800000002,tW,(.pr .fz (.ow .fz))),(800000001,tI,.fz)]⟩
def yfM:Shape:=⟨[(2,false,[.ptr 64 0]),(3,false,[.ptr 4480 0]),(30,false,[.br tW]),(31,false,[.int .i64]),(32,false,[.ci .i64 0])],[(64,[.nil,.nil,.bool,.nil]),(4480,[.at 800000000,.at 800000002,.bool,.at 800000001])],[(800000000,tL,(.ow .fz)),(800000002,tW,(.pr .fz (.ow .fz))),(800000001,tI,.fz)]⟩
def yfB:Shape:=⟨[(2,false,[.ptr 64 0]),(3,false,[.ptr 4480 0])],[(64,[.nil,.nil,.bool,.nil]),(4480,[.at 800000000,.at 800000001,.bool,.at 800000002])],[(800000000,tL,(.ow .fz)),(800000001,tW,(.pr .fz (.ow .fz))),(800000002,tI,.fz)]⟩
def yj6:Shape:=⟨[],[],[]⟩
abbrev yqB (v0:List dW) (v1:Int) (v2:Int) (v3:dM) (v4:dM):(ybo).X:=((((),()),((),()),(v0,()),(v1,()),(v2,()),()),(((),(),v3.2.2.1,(),()),((),(),v4.2.2.1,(),()),()),(v4.1,v4.2.1,v4.2.2.2,()))
abbrev yMp (v0:List dW) (v1:Int) (v2:dM) (v3:dM):(yfM).X:=((((),()),((),()),(v0,()),(v1,()),((),()),()),(((),(),v2.2.2.1,(),()),((),(),v3.2.2.1,(),()),()),(v3.1,v3.2.1,v3.2.2.2,()))
abbrev yz5 (v0:dM) (v1:dM):(yfB).X:=((((),()),((),()),()),(((),(),v0.2.2.1,(),()),((),(),v1.2.2.1,(),()),()),(v1.1,v1.2.1,v1.2.2.2,()))
def yqR (v0:List dW) (v1:Int) (v2:Int) (v3:Bool) (v4:Bool) (v5:List (List Int)) (v6:List dW) (v7:List Int):Option ((ybo).X ⊕ ((yfB).X ⊕ (yj6).X)) :=
  bif (ltb v2 v1) then
    bif (inb v2 v0.length) then
      let r8:=yj ((nth v0 v2 (0,[])).2)
      bif (zj4 v6.length ([((nth v0 v2 (0,[])).1,r8)]:List dW).length 32) then
        some (.inl ((((),()),((),()),(v0,()),(v1,()),((IntKind.i64.wrap (v2+1)),()),()),(((),(),v3,(),()),((),(),v4,(),()),()),(v5,(v6++([((nth v0 v2 (0,[])).1,r8)]:List dW)),v7,())))
      else none
    else none
  else
    some (.inr (.inl ((((),()),((),()),()),(((),(),v3,(),()),((),(),v4,(),()),()),(v5,v6,v7,()))))
def ybG (x:(ybo).X):=yqR x.1.2.2.1.1 x.1.2.2.2.1.1 x.1.2.2.2.2.1.1 x.2.1.1.2.2.1 x.2.1.2.1.2.2.1 x.2.2.1 x.2.2.2.1 x.2.2.2.2.1
def yzv (x:(yfM).X):(ybo).X:=((((),()),((),()),(x.1.2.2.1.1,()),(x.1.2.2.2.1.1,()),(0,()),()),(((),(),x.2.1.1.2.2.1,(),()),((),(),x.2.1.2.1.2.2.1,(),()),()),(x.2.2.1,x.2.2.2.1,x.2.2.2.2.1,()))
def yBl:Code:=(zdI ycc 64 244).getD .skip
theorem yNw:zdI ycc 64 61=some (.block 2 (.loop yBl)):=by kernel_rfl
theorem yPy (x:(ybo).X):zg7 ⟨yf9,49,yub⟩ 2 yBl 244 ybo yfB yj6 x=ybG x:=by kernel_rfl
def yzO (x:(yfM).X):Nat:=(fun (u0:List dW) (u1:Int) (u2:Bool) (u3:Bool) (u4:List (List Int)) (u5:List dW) (u6:List Int)=>18446744073709551616) x.1.2.2.1.1 x.1.2.2.2.1.1 x.2.1.1.2.2.1 x.2.1.2.1.2.2.1 x.2.2.1 x.2.2.2.1 x.2.2.2.2.1
def ysf (x:(yfM).X):Option ((yfB).X ⊕ (yj6).X):=zr ybG (yzO x) (yzv x)
def yAe:Seg:=⟨yfM,yfB,yj6,ysf⟩
def yCZ:Nat→Option Seg:=fun q=>bif Nat.beq q 61 then some yAe else yub q
theorem yN0:FrOk Tryz.prog ⟨yf9,49,yCZ⟩ ycc:=(yNZ).loop (sg:=yAe) ybo yzv (by decide) yNw ybG yzO (by decide) (fun _=>rfl) (fun x r _ h=>h) yPy
abbrev yge:List Par:= [.rd tM]
abbrev yrq:List OT:= [⟨false,tM,(.pr (.ow (.ow .fz)) (.pr (.ow (.pr .fz (.ow .fz))) (.pr .fz (.ow .fz))))⟩]
def ymN (a0:dM):Option (ResD yrq×MutD yge) :=
  let r1:=yj a0.2.2.2
  zjw (yse ((((),()),((),()),((),()),(a0.1,()),((a0.1.length:Int),()),((),()),()),((a0.1,a0.2.1,a0.2.2.1,a0.2.2.2,()),((),(),false,(),()),((),(),a0.2.2.1,(),()),()),([],r1,()))) (fun y4 =>
    zjw (ysf ((((),()),((),()),(y4.2.1.1.2.1,()),((y4.2.1.1.2.1.length:Int),()),((),()),()),(((),(),y4.2.1.2.1.2.2.1,(),()),((),(),y4.2.1.2.2.1.2.2.1,(),()),()),(y4.2.2.1,[],y4.2.2.2.1,()))) (fun y8 =>
      some (((y8.2.2.1,y8.2.2.2.1,y8.2.1.2.1.2.2.1,y8.2.2.2.2.1),()),())) (fun y8 =>
      none)) (fun y4 =>
    none)
theorem yXg (x:InD yge):zjH ⟨yf9,49,yCZ⟩ Tryz.f215.results.toList ycc yge yrq x=ymN x.1:=by kernel_rfl
theorem ySo:ConOk Tryz.prog 215 ⟨yge,yrq,fun x=>ymN x.1⟩:=zkh (yN0) Tryz.func215 (by kernel_rfl) (by kernel_rfl) Tryz.ntmps215.symm (by decide) (fun x r h=>(yXg x).trans h)
def yT (a0:dM):dM:=a0
theorem yVj (a0:dM) (hk:zi9 yge (a0,())):ymN a0=(fun n=>some ((n,()),())) (yT a0):=by
  have hb1:a0.1.length * 24≤2 ^ 47:=hk.1.1.1
  have hb2:a0.2.1.length * 32≤2 ^ 47:=hk.1.2.1.1
  have h1:yse (yMo a0.1 a0.1.length a0 yf ([],[],a0.2.2.1,a0.2.2.2))=some (.inl (yz4 a0 yf (a0.1,[],a0.2.2.1,a0.2.2.2))):=by
    have:=zkk (step:=ybF) a0.1 [] (fun i s=>yqA a0.1 a0.1.length i a0 yf (s,[],a0.2.2.1,a0.2.2.2)) (fun s x=>s++ [x]) (fun i s=>s.length=i) (fun s=> .inl (yz4 a0 yf (s,[],a0.2.2.1,a0.2.2.2))) (fun i s hi hs2=>⟨by
      simp only [ybF,yqA,yqQ,zjI (show (i:Int) < a0.1.length by omega),cond_true,wr (show -9223372036854775808≤(i:Int)+1 by omega) (by omega),Int.natCast_add,Int.natCast_one,Int.toNat_natCast,zkO hi,zjW,yj]
      rw [zkw.2 (show (s.length+ [a0.1.getD i []].length) * 24≤140737488355328 by simp only [List.length_cons,List.length_nil]; omega)]; rfl,by simp [hs2]⟩) (fun s _=>by simp only [ybF,yqA,yqQ,zkm (Int.le_refl _),cond_false]) [] rfl 18446744073709551616 (by omega)
    rw [yux]at this
    exact this
  have h2:ysf (yMp a0.2.1 a0.2.1.length yf (a0.1,[],a0.2.2.1,a0.2.2.2))=some (.inl (yz5 yf a0)):=by
    have:=zkk (step:=ybG) a0.2.1 (0,[]) (fun i s=>yqB a0.2.1 a0.2.1.length i yf (a0.1,s,a0.2.2.1,a0.2.2.2)) (fun s x=>s++ [x]) (fun i s=>s.length=i) (fun s=> .inl (yz5 yf (a0.1,s,a0.2.2.1,a0.2.2.2))) (fun i s hi hs2=>⟨by
      simp only [ybG,yqB,yqR,zjI (show (i:Int) < a0.2.1.length by omega),cond_true,wr (show -9223372036854775808≤(i:Int)+1 by omega) (by omega),Int.natCast_add,Int.natCast_one,Int.toNat_natCast,zkO hi,zjW,yj,zkV]
      rw [zkw.2 (show (s.length+ [a0.2.1.getD i (0,[])].length) * 32≤140737488355328 by simp only [List.length_cons,List.length_nil]; omega)]; rfl,by simp [hs2]⟩) (fun s _=>by simp only [ybG,yqB,yqR,zkm (Int.le_refl _),cond_false]) [] rfl 18446744073709551616 (by omega)
    rw [yux]at this
    exact this
  unfold ymN yT
  simp only [yj,h1,zkJ,h2]
def ygZ:Con:=⟨yge,yrq,fun x=>(fun n=>some ((n,()),())) (yT x.1)⟩
theorem ypy:ConOk Tryz.prog 215 ygZ:=(ySo).mono (fun x r hk h=>(yVj x.1 hk).trans h)
end
end
end Go.Tf
