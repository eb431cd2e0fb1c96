/- Functions of the program, and what they come to. -/
import Derived.Test.YtfpjmijaiekbgaaGreatExactBuildAllF7
namespace Go.Tf
noncomputable section
open Go.Proofs
set_option synthInstance.maxHeartbeats 400000
set_option synthInstance.maxSize 10000
set_option linter.unusedVariables false
set_option linter.unusedSimpArgs false
set_option maxRecDepth 100000
section
def yar:Code:=(Tryz.f218.body).getD .skip
def ydA:Env:=zki TT [(98,yM),(249,yuv)] []
theorem yOk:FrOk Tryz.prog ⟨ydA,91,fun _=>none⟩ yar:=zkp yb yc ⟨yaE,yEA,trivial⟩
def yCF:Nat→Option Seg:=fun _=>none
def ycu:Shape:=⟨[(1,false,[.ptr 0 0]),(3,false,[.int .i64]),(4,false,[.int .i64])],[(0,[.br tL,.br tW,.bool,.br tI])],[]⟩
def yhl:Shape:=⟨[(1,false,[.ptr 0 0]),(3,false,[.int .i64]),(4,false,[.ci .i64 0])],[(0,[.br tL,.br tW,.bool,.br tI])],[]⟩
def yg6:Shape:=⟨[(1,false,[.ptr 0 0]),(3,false,[.int .i64])],[(0,[.br tL,.br tW,.bool,.br tI])],[]⟩
def yhJ:Shape:=⟨[(2,false,[.bool])],[],[]⟩
abbrev yrB (v0:Int) (v1:Int) (v2:dM):(ycu).X:=((((),()),(v0,()),(v1,()),()),((v2.1,v2.2.1,v2.2.2.1,v2.2.2.2,()),()),())
abbrev yLs (v0:Int) (v1:dM):(yhl).X:=((((),()),(v0,()),((),()),()),((v1.1,v1.2.1,v1.2.2.1,v1.2.2.2,()),()),())
abbrev yLk (v0:Int) (v1:dM):(yg6).X:=((((),()),(v0,()),()),((v1.1,v1.2.1,v1.2.2.1,v1.2.2.2,()),()),())
abbrev yLA (v0:Bool):(yhJ).X:=(((v0,()),()),(),())
def yrW (v0:Int) (v1:Int) (v2:List (List Int)) (v3:List dW) (v4:Bool) (v5:List Int):Option ((ycu).X ⊕ ((yg6).X ⊕ (yhJ).X)) :=
  bif (ltb v1 v0) then
    bif (inb v1 v2.length) then
      let r2:=yfY (nth v2 v1 [])
      bif (!r2) then
        some (.inr (.inr (((false,()),()),(),())))
      else
        some (.inl ((((),()),(v0,()),((IntKind.i64.wrap (v1+1)),()),()),((v2,v3,v4,v5,()),()),()))
    else none
  else
    some (.inr (.inl ((((),()),(v0,()),()),((v2,v3,v4,v5,()),()),())))
def ycU (x:(ycu).X):=yrW x.1.2.1.1 x.1.2.2.1.1 x.2.1.1.1 x.2.1.1.2.1 x.2.1.1.2.2.1 x.2.1.1.2.2.2.1
def yz2 (x:(yhl).X):(ycu).X:=((((),()),(x.1.2.1.1,()),(0,()),()),((x.2.1.1.1,x.2.1.1.2.1,x.2.1.1.2.2.1,x.2.1.1.2.2.2.1,()),()),())
def yBG:Code:=(zdI yar 64 116).getD .skip
theorem yNh:zdI yar 64 29=some (.block 0 (.loop yBG)):=by kernel_rfl
theorem yPU (x:(ycu).X):zg7 ⟨ydA,91,yCF⟩ 0 yBG 116 ycu yg6 yhJ x=ycU x:=by kernel_rfl
def yAg (x:(yhl).X):Nat:=(fun (u0:Int) (u1:List (List Int)) (u2:List dW) (u3:Bool) (u4:List Int)=>18446744073709551616) x.1.2.1.1 x.2.1.1.1 x.2.1.1.2.1 x.2.1.1.2.2.1 x.2.1.1.2.2.2.1
def ysr (x:(yhl).X):Option ((yg6).X ⊕ (yhJ).X):=zr ycU (yAg x) (yz2 x)
def yAE:Seg:=⟨yhl,yg6,yhJ,ysr⟩
def yuq:Nat→Option Seg:=fun q=>bif Nat.beq q 29 then some yAE else yCF q
theorem yOl:FrOk Tryz.prog ⟨ydA,91,yuq⟩ yar:=(yOk).loop (sg:=yAE) ycu yz2 (by decide) yNh ycU yAg (by decide) (fun _=>rfl) (fun x r _ h=>h) yPU
def ycv:Shape:=⟨[(1,false,[.ptr 0 0]),(3,false,[.int .i64]),(5,false,[.int .i64])],[(0,[.br tL,.br tW,.bool,.br tI])],[]⟩
def yhm:Shape:=⟨[(1,false,[.ptr 0 0]),(3,false,[.int .i64]),(5,false,[.ci .i64 0])],[(0,[.br tL,.br tW,.bool,.br tI])],[]⟩
def yg7:Shape:=⟨[(1,false,[.ptr 0 0]),(3,false,[.int .i64])],[(0,[.br tL,.br tW,.bool,.br tI])],[]⟩
def yhK:Shape:=⟨[(2,false,[.bool])],[],[]⟩
abbrev yrC (v0:Int) (v1:Int) (v2:dM):(ycv).X:=((((),()),(v0,()),(v1,()),()),((v2.1,v2.2.1,v2.2.2.1,v2.2.2.2,()),()),())
abbrev yLt (v0:Int) (v1:dM):(yhm).X:=((((),()),(v0,()),((),()),()),((v1.1,v1.2.1,v1.2.2.1,v1.2.2.2,()),()),())
abbrev yLl (v0:Int) (v1:dM):(yg7).X:=((((),()),(v0,()),()),((v1.1,v1.2.1,v1.2.2.1,v1.2.2.2,()),()),())
abbrev yLB (v0:Bool):(yhK).X:=(((v0,()),()),(),())
def yrX (v0:Int) (v1:Int) (v2:List (List Int)) (v3:List dW) (v4:Bool) (v5:List Int):Option ((ycv).X ⊕ ((yg7).X ⊕ (yhK).X)) :=
  bif (ltb v1 (v3.length:Int)) then
    bif (inb v1 v3.length) then
      let r6:=ya ((nth v3 v1 (0,[])).1) 0 (IntKind.i64.wrap (v0 - 1))
      bif (!(!r6)) then
        bif (inb v1 v3.length) then
          let r7:=yfY ((nth v3 v1 (0,[])).2)
          bif (!r7) then
            some (.inr (.inr (((false,()),()),(),())))
          else
            some (.inl ((((),()),(v0,()),((IntKind.i64.wrap (v1+1)),()),()),((v2,v3,v4,v5,()),()),()))
        else none
      else
        some (.inr (.inr (((false,()),()),(),())))
    else none
  else
    some (.inr (.inl ((((),()),(v0,()),()),((v2,v3,v4,v5,()),()),())))
def ycV (x:(ycv).X):=yrX x.1.2.1.1 x.1.2.2.1.1 x.2.1.1.1 x.2.1.1.2.1 x.2.1.1.2.2.1 x.2.1.1.2.2.2.1
def yz3 (x:(yhm).X):(ycv).X:=((((),()),(x.1.2.1.1,()),(0,()),()),((x.2.1.1.1,x.2.1.1.2.1,x.2.1.1.2.2.1,x.2.1.1.2.2.2.1,()),()),())
def yBH:Code:=(zdI yar 64 244).getD .skip
theorem yNi:zdI yar 64 61=some (.block 2 (.loop yBH)):=by kernel_rfl
theorem yPV (x:(ycv).X):zg7 ⟨ydA,91,yuq⟩ 2 yBH 244 ycv yg7 yhK x=ycV x:=by kernel_rfl
def yAh (x:(yhm).X):Nat:=(fun (u0:Int) (u1:List (List Int)) (u2:List dW) (u3:Bool) (u4:List Int)=>18446744073709551616) x.1.2.1.1 x.2.1.1.1 x.2.1.1.2.1 x.2.1.1.2.2.1 x.2.1.1.2.2.2.1
def yss (x:(yhm).X):Option ((yg7).X ⊕ (yhK).X):=zr ycV (yAh x) (yz3 x)
def yAF:Seg:=⟨yhm,yg7,yhK,yss⟩
def yur:Nat→Option Seg:=fun q=>bif Nat.beq q 61 then some yAF else yuq q
theorem yOm:FrOk Tryz.prog ⟨ydA,91,yur⟩ yar:=(yOl).loop (sg:=yAF) ycv yz3 (by decide) yNi ycV yAh (by decide) (fun _=>rfl) (fun x r _ h=>h) yPV
def ybF:Shape:=⟨[(1,false,[.ptr 0 0]),(3,false,[.int .i64]),(6,false,[.int .i64])],[(0,[.br tL,.br tW,.bool,.br tI])],[]⟩
def yfF:Shape:=⟨[(1,false,[.ptr 0 0]),(3,false,[.int .i64]),(6,false,[.ci .i64 0])],[(0,[.br tL,.br tW,.bool,.br tI])],[]⟩
def yfx:Shape:=⟨[(1,false,[.ptr 0 0]),(3,false,[.int .i64])],[(0,[.br tL,.br tW,.bool,.br tI])],[]⟩
def yfO:Shape:=⟨[(2,false,[.bool])],[],[]⟩
abbrev ypJ (v0:Int) (v1:Int) (v2:dM):(ybF).X:=((((),()),(v0,()),(v1,()),()),((v2.1,v2.2.1,v2.2.2.1,v2.2.2.2,()),()),())
abbrev yIN (v0:Int) (v1:dM):(yfF).X:=((((),()),(v0,()),((),()),()),((v1.1,v1.2.1,v1.2.2.1,v1.2.2.2,()),()),())
abbrev yII (v0:Int) (v1:dM):(yfx).X:=((((),()),(v0,()),()),((v1.1,v1.2.1,v1.2.2.1,v1.2.2.2,()),()),())
abbrev yIU (v0:Bool):(yfO).X:=(((v0,()),()),(),())
def yp2 (v0:Int) (v1:Int) (v2:List (List Int)) (v3:List dW) (v4:Bool) (v5:List Int):Option ((ybF).X ⊕ ((yfx).X ⊕ (yfO).X)) :=
  bif (ltb v1 (v5.length:Int)) then
    bif (inb v1 v5.length) then
      let r10:=ya (nth v5 v1 0) 0 (IntKind.i64.wrap (v0 - 1))
      bif (!(!r10)) then
        bif (ltb 0 v1) then
          bif (inb (IntKind.i64.wrap (v1 - 1)) v5.length) then
            bif (inb v1 v5.length) then
              bif (leb (nth v5 v1 0) (nth v5 (IntKind.i64.wrap (v1 - 1)) 0)) then
                some (.inr (.inr (((false,()),()),(),())))
              else
                some (.inl ((((),()),(v0,()),((IntKind.i64.wrap (v1+1)),()),()),((v2,v3,v4,v5,()),()),()))
            else none
          else none
        else
          some (.inl ((((),()),(v0,()),((IntKind.i64.wrap (v1+1)),()),()),((v2,v3,v4,v5,()),()),()))
      else
        some (.inr (.inr (((false,()),()),(),())))
    else none
  else
    some (.inr (.inl ((((),()),(v0,()),()),((v2,v3,v4,v5,()),()),())))
def ycf (x:(ybF).X):=yp2 x.1.2.1.1 x.1.2.2.1.1 x.2.1.1.1 x.2.1.1.2.1 x.2.1.1.2.2.1 x.2.1.1.2.2.2.1
def yxQ (x:(yfF).X):(ybF).X:=((((),()),(x.1.2.1.1,()),(0,()),()),((x.2.1.1.1,x.2.1.1.2.1,x.2.1.1.2.2.1,x.2.1.1.2.2.2.1,()),()),())
def yzw:Code:=(zdI yar 64 500).getD .skip
theorem yKf:zdI yar 64 125=some (.block 4 (.loop yzw)):=by kernel_rfl
theorem yMK (x:(ybF).X):zg7 ⟨ydA,91,yur⟩ 4 yzw 500 ybF yfx yfO x=ycf x:=by kernel_rfl
def yx6 (x:(yfF).X):Nat:=(fun (u0:Int) (u1:List (List Int)) (u2:List dW) (u3:Bool) (u4:List Int)=>18446744073709551616) x.1.2.1.1 x.2.1.1.1 x.2.1.1.2.1 x.2.1.1.2.2.1 x.2.1.1.2.2.2.1
def yrm (x:(yfF).X):Option ((yfx).X ⊕ (yfO).X):=zr ycf (yx6 x) (yxQ x)
def yys:Seg:=⟨yfF,yfx,yfO,yrm⟩
def yCG:Nat→Option Seg:=fun q=>bif Nat.beq q 125 then some yys else yur q
theorem yOn:FrOk Tryz.prog ⟨ydA,91,yCG⟩ yar:=(yOm).loop (sg:=yys) ybF yxQ (by decide) yKf ycf yx6 (by decide) (fun _=>rfl) (fun x r _ h=>h) yMK
abbrev yjw:List Par:= [.rd tM]
abbrev ysU:List OT:= [⟨false,tB,.fz⟩]
def ypk (a0:dM):Option (ResD ysU×MutD yjw) :=
  zjw (ysr ((((),()),((a0.1.length:Int),()),((),()),()),((a0.1,a0.2.1,a0.2.2.1,a0.2.2.2,()),()),())) (fun y2 =>
    zjw (yss ((((),()),(y2.1.2.1.1,()),((),()),()),((y2.2.1.1.1,y2.2.1.1.2.1,y2.2.1.1.2.2.1,y2.2.1.1.2.2.2.1,()),()),())) (fun y7 =>
      zjw (yrm ((((),()),(y7.1.2.1.1,()),((),()),()),((y7.2.1.1.1,y7.2.1.1.2.1,y7.2.1.1.2.2.1,y7.2.1.1.2.2.2.1,()),()),())) (fun y10 =>
        let r12:=ya y10.1.2.1.1 1 20
        bif r12 then
          some (((leb (y10.2.1.1.2.1.length:Int) 60),()),())
        else
          some ((false,()),())) (fun y10 =>
        some ((y10.1.1.1,()),()))) (fun y7 =>
      some ((y7.1.1.1,()),()))) (fun y2 =>
    some ((y2.1.1.1,()),()))
theorem yUH (x:InD yjw):zjH ⟨ydA,91,yCG⟩ Tryz.f218.results.toList yar yjw ysU x=ypk x.1:=by kernel_rfl
theorem yRR:ConOk Tryz.prog 218 ⟨yjw,ysU,fun x=>ypk x.1⟩:=zkh (yOn) Tryz.func218 (by kernel_rfl) (by kernel_rfl) Tryz.ntmps218.symm (by decide) (fun x r h=>(yUH x).trans h)
def yaD (a0:dM):Bool:=yn a0
theorem yTB (a0:dM) (hk:zi9 yjw (a0,())):ypk a0=(fun n=>some ((n,()),())) (yaD a0):=by
  have hb1:a0.1.length * 24≤2 ^ 47:=hk.1.1.1
  have hb2:a0.2.1.length * 32≤2 ^ 47:=hk.1.2.1.1
  have hb3:a0.2.2.2.length * 8≤2 ^ 47:=hk.1.2.2.2.1
  have h1:ysr (yLs a0.1.length a0)=some (bif a0.1.all yaM then .inl (yLk a0.1.length a0) else .inr (yLA false)) :=
    zjS (step:=ycU) a0.1 [] (fun i=>yrB a0.1.length i a0) yaM _ _ (fun i hi=>by
      simp only [ycU,yrB,yrW,zjI (show (i:Int) < a0.1.length by omega),cond_true,wr (show -9223372036854775808≤(i:Int)+1 by omega) (by omega),Int.natCast_add,Int.natCast_one,Int.toNat_natCast,zkO hi,zjW,yCi]
      cases yaM (a0.1.getD i [])<;>rfl) (by simp only [ycU,yrB,yrW,zkm (Int.le_refl _),cond_false]) _ (by show _ < 18446744073709551616; omega)
  have h2:yss (yLt a0.1.length a0)=some (bif a0.2.1.all (yuY a0.1.length) then .inl (yLl a0.1.length a0) else .inr (yLB false)) :=
    zjS (step:=ycV) a0.2.1 (0,[]) (fun i=>yrC a0.1.length i a0) (yuY a0.1.length) _ _ (fun i hi=>by
      simp only [ycV,yrC,yrX,zjI (show (i:Int) < a0.2.1.length by omega),cond_true,wr (show -9223372036854775808≤(i:Int)+1 by omega) (by omega),Int.natCast_add,Int.natCast_one,Int.toNat_natCast,zkO hi,zjW,yCi,ynO (show a0.1.length≤1152921504606846976 by omega),yuY]
      cases inb (a0.2.1.getD i (0,[])).1 a0.1.length<;>cases yaM (a0.2.1.getD i (0,[])).2<;>rfl) (by simp only [ycV,yrC,yrX,zkm (Int.le_refl _),cond_false]) _ (by show _ < 18446744073709551616; omega)
  have h3:yrm (yIN a0.1.length a0)=some (bif (List.range a0.2.2.2.length).any (yBx a0.1.length a0.2.2.2) then .inr (yIU false) else .inl (yII a0.1.length a0)) :=
    zf4 (step:=ycf) (fun i=>ypJ a0.1.length i a0) a0.2.2.2.length (yBx a0.1.length a0.2.2.2) _ _ (fun i hi=>by
      simp only [ycf,ypJ,yp2,zjI (show (i:Int) < a0.2.2.2.length by omega),cond_true,wr (show -9223372036854775808≤(i:Int)+1 by omega) (by omega),Int.natCast_add,Int.natCast_one,Int.toNat_natCast,zkO hi,zjW,ynO (show a0.1.length≤1152921504606846976 by omega),yBx]
      rcases Nat.eq_zero_or_pos i with rfl | h0
      · cases inb (a0.2.2.2.getD 0 0) a0.1.length<;>rfl
      · rw [show IntKind.i64.wrap ((i:Int) - 1)=((i - 1:Nat):Int) by rw [wr (by omega) (by omega)]; omega,zkO (show i - 1 < a0.2.2.2.length by omega),zjW,zjI (show (0:Int) < i by omega),decide_eq_true h0]
        cases inb (a0.2.2.2.getD i 0) a0.1.length<;>cases leb (a0.2.2.2.getD i 0) (a0.2.2.2.getD (i - 1) 0)<;>rfl) (by simp only [ycf,ypJ,yp2,zkm (Int.le_refl _),cond_false]) _ (by show _ < 18446744073709551616; omega)
  unfold ypk yaD yn
  rw [h1]
  cases a0.1.all yaM
  · rfl
  simp only [cond_true,zkJ,h2]
  cases a0.2.1.all (yuY a0.1.length)
  · rfl
  simp only [cond_true,zkJ,h3,ySk,ykx]
  cases ys0 a0.1.length a0.2.2.2
  · rfl
  simp only [Bool.not_true,cond_false,zkJ]
  cases leb 1 (a0.1.length:Int)<;>cases leb (a0.1.length:Int) 20<;>rfl
def yjH:Con:=⟨yjw,ysU,fun x=>(fun n=>some ((n,()),())) (yaD x.1)⟩
theorem yra:ConOk Tryz.prog 218 yjH:=(yRR).mono (fun x r hk h=>(yTB x.1 hk).trans h)
end
section
def yEa:Code:=(Tryz.f219.body).getD .skip
def yEr:Env:=zki TT [] []
theorem yK8:FrOk Tryz.prog ⟨yEr,6,fun _=>none⟩ yEa:=zkp yb yc trivial
def yM7:Nat→Option Seg:=fun _=>none
abbrev ylj:List Par:= [.rd tG]
abbrev yq2:List OT:= [⟨false,tI,.fz⟩]
def ytz (a0:dG):Option (ResD yq2×MutD ylj) :=
  some (((IntKind.i64.wrap (6+a0.2)),()),())
theorem yS2 (x:InD ylj):zjH ⟨yEr,6,yM7⟩ Tryz.f219.results.toList yEa ylj yq2 x=ytz x.1:=by kernel_rfl
theorem yPn:ConOk Tryz.prog 219 ⟨ylj,yq2,fun x=>ytz x.1⟩:=zkh (yK8) Tryz.func219 (by kernel_rfl) (by kernel_rfl) Tryz.ntmps219.symm (by decide) (fun x r h=>(yS2 x).trans h)
def ygB (a0:dG):Int :=
  (IntKind.i64.wrap (6+a0.2))
def ys9:Con:=⟨ylj,yq2,fun x=>(fun n=>some ((n,()),())) (ygB x.1)⟩
theorem yRn (a0:dG):ytz a0=(fun n=>some ((n,()),())) (ygB a0):=zkS (p:=fun (n:Int)=>((n,()),())) rfl
theorem yDx:ConOk Tryz.prog 219 ys9:=(yPn).mono (fun x r _ h=>(yRn x.1).trans h)
end
section
def yk5:Code:=(Tryz.f158.body).getD .skip
def yqA:Env:=zki TT [(218,yjH),(219,ys9)] []
theorem yK6:FrOk Tryz.prog ⟨yqA,51,fun _=>none⟩ yk5:=zkp yb yc ⟨yra,yDx,trivial⟩
def yBk:Nat→Option Seg:=fun _=>none
def ybJ:Shape:=⟨[(1,false,[.ptr 0 0]),(3,false,[.int .i64])],[(0,[.int .i64,.int .i64,.int .i64,.br tM,.int .i64,.int .i64,.int .i64,.int .i64,.int .i64,.br tW,.int .i64,.bool,.bool])],[]⟩
def yfJ:Shape:=⟨[(1,false,[.ptr 0 0]),(3,false,[.ci .i64 0])],[(0,[.int .i64,.int .i64,.int .i64,.br tM,.int .i64,.int .i64,.int .i64,.int .i64,.int .i64,.br tW,.int .i64,.bool,.bool])],[]⟩
def yfB:Shape:=⟨[(1,false,[.ptr 0 0])],[(0,[.int .i64,.int .i64,.int .i64,.br tM,.int .i64,.int .i64,.int .i64,.int .i64,.int .i64,.br tW,.int .i64,.bool,.bool])],[]⟩
def yfP:Shape:=⟨[(2,false,[.bool])],[],[]⟩
abbrev ypN (v0:Int) (v1:dA):(ybJ).X:=((((),()),(v0,()),()),((v1.1,v1.2.1.1,v1.2.1.2,v1.2.2.1,v1.2.2.2.1,v1.2.2.2.2.1,v1.2.2.2.2.2.1,v1.2.2.2.2.2.2.1,v1.2.2.2.2.2.2.2.1,v1.2.2.2.2.2.2.2.2.1,v1.2.2.2.2.2.2.2.2.2.1,v1.2.2.2.2.2.2.2.2.2.2.1,v1.2.2.2.2.2.2.2.2.2.2.2,()),()),())
abbrev yIR (v0:dA):(yfJ).X:=((((),()),((),()),()),((v0.1,v0.2.1.1,v0.2.1.2,v0.2.2.1,v0.2.2.2.1,v0.2.2.2.2.1,v0.2.2.2.2.2.1,v0.2.2.2.2.2.2.1,v0.2.2.2.2.2.2.2.1,v0.2.2.2.2.2.2.2.2.1,v0.2.2.2.2.2.2.2.2.2.1,v0.2.2.2.2.2.2.2.2.2.2.1,v0.2.2.2.2.2.2.2.2.2.2.2,()),()),())
abbrev yIK (v0:dA):(yfB).X:=((((),()),()),((v0.1,v0.2.1.1,v0.2.1.2,v0.2.2.1,v0.2.2.2.1,v0.2.2.2.2.1,v0.2.2.2.2.2.1,v0.2.2.2.2.2.2.1,v0.2.2.2.2.2.2.2.1,v0.2.2.2.2.2.2.2.2.1,v0.2.2.2.2.2.2.2.2.2.1,v0.2.2.2.2.2.2.2.2.2.2.1,v0.2.2.2.2.2.2.2.2.2.2.2,()),()),())
abbrev yIV (v0:Bool):(yfP).X:=(((v0,()),()),(),())
def yp6 (v0:Int) (v1:Int) (v2:Int) (v3:Int) (v4:List dM) (v5:Int) (v6:Int) (v7:Int) (v8:Int) (v9:Int) (v10:List dW) (v11:Int) (v12:Bool) (v13:Bool):Option ((ybJ).X ⊕ ((yfB).X ⊕ (yfP).X)) :=
  bif (ltb v0 (v4.length:Int)) then
    bif (inb v0 v4.length) then
      let r3:=yaD ((nth v4 v0 ([],[],false,[])).1,((nth v4 v0 ([],[],false,[])).2).1,(((nth v4 v0 ([],[],false,[])).2).2))
      bif (!(!r3)) then
        let r4:=ygB (v2,v3)
        bif (!((((nth v4 v0 ([],[],false,[])).1).length:Int) !=r4)) then
          bif (((nth v4 v0 ([],[],false,[])).2).2).1 then
            bif (v0 !=v5) then
              bif (!v13) then
                some (.inr (.inr (((false,()),()),(),())))
              else
                some (.inl ((((),()),((IntKind.i64.wrap (v0+1)),()),()),((v1,v2,v3,v4,v5,v6,v7,v8,v9,v10,v11,v12,v13,()),()),()))
            else
              some (.inl ((((),()),((IntKind.i64.wrap (v0+1)),()),()),((v1,v2,v3,v4,v5,v6,v7,v8,v9,v10,v11,v12,v13,()),()),()))
          else
            some (.inl ((((),()),((IntKind.i64.wrap (v0+1)),()),()),((v1,v2,v3,v4,v5,v6,v7,v8,v9,v10,v11,v12,v13,()),()),()))
        else
          some (.inr (.inr (((false,()),()),(),())))
      else
        some (.inr (.inr (((false,()),()),(),())))
    else none
  else
    some (.inr (.inl ((((),()),()),((v1,v2,v3,v4,v5,v6,v7,v8,v9,v10,v11,v12,v13,()),()),())))
def ycj (x:(ybJ).X):=yp6 x.1.2.1.1 x.2.1.1.1 x.2.1.1.2.1 x.2.1.1.2.2.1 x.2.1.1.2.2.2.1 x.2.1.1.2.2.2.2.1 x.2.1.1.2.2.2.2.2.1 x.2.1.1.2.2.2.2.2.2.1 x.2.1.1.2.2.2.2.2.2.2.1 x.2.1.1.2.2.2.2.2.2.2.2.1 x.2.1.1.2.2.2.2.2.2.2.2.2.1 x.2.1.1.2.2.2.2.2.2.2.2.2.2.1 x.2.1.1.2.2.2.2.2.2.2.2.2.2.2.1 x.2.1.1.2.2.2.2.2.2.2.2.2.2.2.2.1
def yxU (x:(yfJ).X):(ybJ).X:=((((),()),(0,()),()),((x.2.1.1.1,x.2.1.1.2.1,x.2.1.1.2.2.1,x.2.1.1.2.2.2.1,x.2.1.1.2.2.2.2.1,x.2.1.1.2.2.2.2.2.1,x.2.1.1.2.2.2.2.2.2.1,x.2.1.1.2.2.2.2.2.2.2.1,x.2.1.1.2.2.2.2.2.2.2.2.1,x.2.1.1.2.2.2.2.2.2.2.2.2.1,x.2.1.1.2.2.2.2.2.2.2.2.2.2.1,x.2.1.1.2.2.2.2.2.2.2.2.2.2.2.1,x.2.1.1.2.2.2.2.2.2.2.2.2.2.2.2.1,()),()),())
def yzA:Code:=(zdI yk5 64 52).getD .skip
theorem yKj:zdI yk5 64 13=some (.block 0 (.loop yzA)):=by kernel_rfl
theorem yMO (x:(ybJ).X):zg7 ⟨yqA,51,yBk⟩ 0 yzA 52 ybJ yfB yfP x=ycj x:=by kernel_rfl
def yya (x:(yfJ).X):Nat:=(fun (u0:Int) (u1:Int) (u2:Int) (u3:List dM) (u4:Int) (u5:Int) (u6:Int) (u7:Int) (u8:Int) (u9:List dW) (u10:Int) (u11:Bool) (u12:Bool)=>18446744073709551616) x.2.1.1.1 x.2.1.1.2.1 x.2.1.1.2.2.1 x.2.1.1.2.2.2.1 x.2.1.1.2.2.2.2.1 x.2.1.1.2.2.2.2.2.1 x.2.1.1.2.2.2.2.2.2.1 x.2.1.1.2.2.2.2.2.2.2.1 x.2.1.1.2.2.2.2.2.2.2.2.1 x.2.1.1.2.2.2.2.2.2.2.2.2.1 x.2.1.1.2.2.2.2.2.2.2.2.2.2.1 x.2.1.1.2.2.2.2.2.2.2.2.2.2.2.1 x.2.1.1.2.2.2.2.2.2.2.2.2.2.2.2.1
def yrq (x:(yfJ).X):Option ((yfB).X ⊕ (yfP).X):=zr ycj (yya x) (yxU x)
def yyw:Seg:=⟨yfJ,yfB,yfP,yrq⟩
def yBl:Nat→Option Seg:=fun q=>bif Nat.beq q 13 then some yyw else yBk q
theorem yK7:FrOk Tryz.prog ⟨yqA,51,yBl⟩ yk5:=(yK6).loop (sg:=yyw) ybJ yxU (by decide) yKj ycj yya (by decide) (fun _=>rfl) (fun x r _ h=>h) yMO
abbrev yes:List Par:= [.rd tA]
abbrev yll:List OT:= [⟨false,tB,.fz⟩]
def ym5 (a0:dA):Option (ResD yll×MutD yes) :=
  zjw (yrq ((((),()),((),()),()),((a0.1,a0.2.1.1,a0.2.1.2,a0.2.2.1,a0.2.2.2.1,a0.2.2.2.2.1,a0.2.2.2.2.2.1,a0.2.2.2.2.2.2.1,a0.2.2.2.2.2.2.2.1,a0.2.2.2.2.2.2.2.2.1,a0.2.2.2.2.2.2.2.2.2.1,a0.2.2.2.2.2.2.2.2.2.2.1,a0.2.2.2.2.2.2.2.2.2.2.2,()),()),())) (fun y4 =>
    some ((((y4.2.1.1.2.2.2.1.length:Int)==y4.2.1.1.2.1),()),())) (fun y4 =>
    some ((y4.1.1.1,()),()))
theorem yS1 (x:InD yes):zjH ⟨yqA,51,yBl⟩ Tryz.f158.results.toList yk5 yes yll x=ym5 x.1:=by kernel_rfl
theorem yPm:ConOk Tryz.prog 158 ⟨yes,yll,fun x=>ym5 x.1⟩:=zkh (yK7) Tryz.func158 (by kernel_rfl) (by kernel_rfl) Tryz.ntmps158.symm (by decide) (fun x r h=>(yS1 x).trans h)
def ylx (a0:dA):Bool:=yti a0
def ywC (a0:dA):Bool:=yg a0.2.1
theorem yRm (a0:dA) (hk:zi9 yes (a0,())) (hq:ywC a0=true):ym5 a0=(fun n=>some ((n,()),())) (ylx a0):=by
  have hb:a0.2.2.1.length * 80≤2 ^ 47:=hk.1.2.2.1.1
  have hg:=yam.1 hq
  have h1:yrq (yIR a0)=some (bif (List.range a0.2.2.1.length).any (yhQ a0) then .inr (yIV false) else .inl (yIK a0)) :=
    zf4 (step:=ycj) (fun i=>ypN i a0) a0.2.2.1.length (yhQ a0) _ _ (fun i hi=>by
      simp only [ycj,ypN,yp6,zjI (show (i:Int) < a0.2.2.1.length by omega),cond_true,wr (show -9223372036854775808≤(i:Int)+1 by omega) (by omega),Int.natCast_add,Int.natCast_one,Int.toNat_natCast,zkO hi,zkV,yaD,yhQ,ygB,wr (show -9223372036854775808≤6+a0.2.1.2 by omega) (by omega),yf]
      cases yn (nth a0.2.2.1 i ([],[],false,[]))<;>cases (((nth a0.2.2.1 i ([],[],false,[])).1.length:Int) !=6+a0.2.1.2)<;>cases (nth a0.2.2.1 i ([],[],false,[])).2.2.1<;>cases ((i:Int) !=a0.2.2.2.1)<;>cases a0.2.2.2.2.2.2.2.2.2.2.2<;>rfl) (by simp only [ycj,ypN,yp6,zkm (Int.le_refl _),cond_false]) _ (by show _ < 18446744073709551616; omega)
  unfold ym5 ylx yti
  rw [h1]
  cases (List.range a0.2.2.1.length).any (yhQ a0)<;>rfl
def yq7 (a0:dA):Option (ResD yll×MutD yes):=bif ywC a0 then (fun n=>some ((n,()),())) (ylx a0) else none
theorem ySf (a0:dA) (h:ywC a0=true):yq7 a0=(fun n=>some ((n,()),())) (ylx a0):=by unfold yq7; rw [h]; rfl
def yBY:Con:=⟨yes,yll,fun x=>yq7 x.1⟩
theorem ySb:ConOk Tryz.prog 158 yBY:=(yPm).mono (fun x r hk h=>zkW h (fun hq=>yRm x.1 hk hq))
end
section
def yjc:Code:=(Tryz.f159.body).getD .skip
def yoB:Env:=zki TT [(98,yM),(200,yru)] []
theorem yIB:FrOk Tryz.prog ⟨yoB,57,fun _=>none⟩ yjc:=zkp yb yc ⟨yaE,yB4,trivial⟩
def yzc:Nat→Option Seg:=fun _=>none
def ya7:Shape:=⟨[(1,false,[.ptr 0 0]),(3,false,[.int .i64])],[(0,[.int .i64,.int .i64,.int .i64,.br tM,.int .i64,.int .i64,.int .i64,.int .i64,.int .i64,.br tW,.int .i64,.bool,.bool])],[]⟩
def yeR:Shape:=⟨[(1,false,[.ptr 0 0]),(3,false,[.ci .i64 0])],[(0,[.int .i64,.int .i64,.int .i64,.br tM,.int .i64,.int .i64,.int .i64,.int .i64,.int .i64,.br tW,.int .i64,.bool,.bool])],[]⟩
def yeI:Shape:=⟨[],[],[]⟩
def yeU:Shape:=⟨[(2,false,[.bool])],[],[]⟩
abbrev ynX (v0:Int) (v1:dA):(ya7).X:=((((),()),(v0,()),()),((v1.1,v1.2.1.1,v1.2.1.2,v1.2.2.1,v1.2.2.2.1,v1.2.2.2.2.1,v1.2.2.2.2.2.1,v1.2.2.2.2.2.2.1,v1.2.2.2.2.2.2.2.1,v1.2.2.2.2.2.2.2.2.1,v1.2.2.2.2.2.2.2.2.2.1,v1.2.2.2.2.2.2.2.2.2.2.1,v1.2.2.2.2.2.2.2.2.2.2.2,()),()),())
abbrev yG6 (v0:dA):(yeR).X:=((((),()),((),()),()),((v0.1,v0.2.1.1,v0.2.1.2,v0.2.2.1,v0.2.2.2.1,v0.2.2.2.2.1,v0.2.2.2.2.2.1,v0.2.2.2.2.2.2.1,v0.2.2.2.2.2.2.2.1,v0.2.2.2.2.2.2.2.2.1,v0.2.2.2.2.2.2.2.2.2.1,v0.2.2.2.2.2.2.2.2.2.2.1,v0.2.2.2.2.2.2.2.2.2.2.2,()),()),())
abbrev yGX  :(yeI).X:=((),(),())
abbrev yG9 (v0:Bool):(yeU).X:=(((v0,()),()),(),())
def yon (v0:Int) (v1:Int) (v2:Int) (v3:Int) (v4:List dM) (v5:Int) (v6:Int) (v7:Int) (v8:Int) (v9:Int) (v10:List dW) (v11:Int) (v12:Bool) (v13:Bool):Option ((ya7).X ⊕ ((yeI).X ⊕ (yeU).X)) :=
  bif (ltb v0 (v10.length:Int)) then
    bif (inb v0 v10.length) then
      let r3:=ya ((nth v10 v0 (0,[])).1) 0 (IntKind.i64.wrap (v3 - 1))
      bif (!(!r3)) then
        bif (!((((nth v10 v0 (0,[])).2).length:Int) !=(IntKind.i64.wrap (v2 - 1)))) then
          let r4:=yaL ((nth v10 v0 (0,[])).2)
          bif (!(!r4)) then
            bif (ltb 0 v0) then
              bif (inb (IntKind.i64.wrap (v0 - 1)) v10.length) then
                bif (leb ((nth v10 v0 (0,[])).1) ((nth v10 (IntKind.i64.wrap (v0 - 1)) (0,[])).1)) then
                  some (.inr (.inr (((false,()),()),(),())))
                else
                  some (.inl ((((),()),((IntKind.i64.wrap (v0+1)),()),()),((v1,v2,v3,v4,v5,v6,v7,v8,v9,v10,v11,v12,v13,()),()),()))
              else none
            else
              some (.inl ((((),()),((IntKind.i64.wrap (v0+1)),()),()),((v1,v2,v3,v4,v5,v6,v7,v8,v9,v10,v11,v12,v13,()),()),()))
          else
            some (.inr (.inr (((false,()),()),(),())))
        else
          some (.inr (.inr (((false,()),()),(),())))
      else
        some (.inr (.inr (((false,()),()),(),())))
    else none
  else
    some (.inr (.inl ((),(),())))
def ybs (x:(ya7).X):=yon x.1.2.1.1 x.2.1.1.1 x.2.1.1.2.1 x.2.1.1.2.2.1 x.2.1.1.2.2.2.1 x.2.1.1.2.2.2.2.1 x.2.1.1.2.2.2.2.2.1 x.2.1.1.2.2.2.2.2.2.1 x.2.1.1.2.2.2.2.2.2.2.1 x.2.1.1.2.2.2.2.2.2.2.2.1 x.2.1.1.2.2.2.2.2.2.2.2.2.1 x.2.1.1.2.2.2.2.2.2.2.2.2.2.1 x.2.1.1.2.2.2.2.2.2.2.2.2.2.2.1 x.2.1.1.2.2.2.2.2.2.2.2.2.2.2.2.1
def yvM (x:(yeR).X):(ya7).X:=((((),()),(0,()),()),((x.2.1.1.1,x.2.1.1.2.1,x.2.1.1.2.2.1,x.2.1.1.2.2.2.1,x.2.1.1.2.2.2.2.1,x.2.1.1.2.2.2.2.2.1,x.2.1.1.2.2.2.2.2.2.1,x.2.1.1.2.2.2.2.2.2.2.1,x.2.1.1.2.2.2.2.2.2.2.2.1,x.2.1.1.2.2.2.2.2.2.2.2.2.1,x.2.1.1.2.2.2.2.2.2.2.2.2.2.1,x.2.1.1.2.2.2.2.2.2.2.2.2.2.2.1,x.2.1.1.2.2.2.2.2.2.2.2.2.2.2.2.1,()),()),())
def yxp:Code:=(zdI yjc 64 52).getD .skip
theorem yH2:zdI yjc 64 13=some (.block 0 (.loop yxp)):=by kernel_rfl
theorem yJJ (x:(ya7).X):zg7 ⟨yoB,57,yzc⟩ 0 yxp 52 ya7 yeI yeU x=ybs x:=by kernel_rfl
def yv2 (x:(yeR).X):Nat:=(fun (u0:Int) (u1:Int) (u2:Int) (u3:List dM) (u4:Int) (u5:Int) (u6:Int) (u7:Int) (u8:Int) (u9:List dW) (u10:Int) (u11:Bool) (u12:Bool)=>18446744073709551616) x.2.1.1.1 x.2.1.1.2.1 x.2.1.1.2.2.1 x.2.1.1.2.2.2.1 x.2.1.1.2.2.2.2.1 x.2.1.1.2.2.2.2.2.1 x.2.1.1.2.2.2.2.2.2.1 x.2.1.1.2.2.2.2.2.2.2.1 x.2.1.1.2.2.2.2.2.2.2.2.1 x.2.1.1.2.2.2.2.2.2.2.2.2.1 x.2.1.1.2.2.2.2.2.2.2.2.2.2.1 x.2.1.1.2.2.2.2.2.2.2.2.2.2.2.1 x.2.1.1.2.2.2.2.2.2.2.2.2.2.2.2.1
def ypD (x:(yeR).X):Option ((yeI).X ⊕ (yeU).X):=zr ybs (yv2 x) (yvM x)
def ywr:Seg:=⟨yeR,yeI,yeU,ypD⟩
def yzd:Nat→Option Seg:=fun q=>bif Nat.beq q 13 then some ywr else yzc q
theorem yIC:FrOk Tryz.prog ⟨yoB,57,yzd⟩ yjc:=(yIB).loop (sg:=ywr) ya7 yvM (by decide) yH2 ybs yv2 (by decide) (fun _=>rfl) (fun x r _ h=>h) yJJ
abbrev ydd:List Par:= [.rd tA]
abbrev yjD:List OT:= [⟨false,tB,.fz⟩]
def ykR (a0:dA):Option (ResD yjD×MutD ydd) :=
  zjw (ypD ((((),()),((),()),()),((a0.1,a0.2.1.1,a0.2.1.2,a0.2.2.1,a0.2.2.2.1,a0.2.2.2.2.1,a0.2.2.2.2.2.1,a0.2.2.2.2.2.2.1,a0.2.2.2.2.2.2.2.1,a0.2.2.2.2.2.2.2.2.1,a0.2.2.2.2.2.2.2.2.2.1,a0.2.2.2.2.2.2.2.2.2.2.1,a0.2.2.2.2.2.2.2.2.2.2.2,()),()),())) (fun y4 =>
    some ((true,()),())) (fun y4 =>
    some ((y4.1.1.1,()),()))
theorem yQJ (x:InD ydd):zjH ⟨yoB,57,yzd⟩ Tryz.f159.results.toList yjc ydd yjD x=ykR x.1:=by kernel_rfl
theorem yMh:ConOk Tryz.prog 159 ⟨ydd,yjD,fun x=>ykR x.1⟩:=zkh (yIC) Tryz.func159 (by kernel_rfl) (by kernel_rfl) Tryz.ntmps159.symm (by decide) (fun x r h=>(yQJ x).trans h)
def yjM (a0:dA):Bool:=yoY a0.2.1 a0.2.2.2.2.2.2.2.2.1
def yuF (a0:dA):Bool:=yg a0.2.1
theorem yUa (l:List Int):yaL l=l.all isW:=by
  unfold yaL
  rw [show yO=isW from funext fun x=>by unfold yO; rw [ykx]; rfl]
theorem yOT (a0:dA) (hk:zi9 ydd (a0,())) (hq:yuF a0=true):ykR a0=(fun n=>some ((n,()),())) (yjM a0):=by
  have hb:a0.2.2.2.2.2.2.2.2.1.length * 32≤2 ^ 47:=hk.1.2.2.2.2.2.2.2.2.1.1
  have hg:=yam.1 hq
  have h1:ypD (yG6 a0)=some (bif (List.range a0.2.2.2.2.2.2.2.2.1.length).any (yoX a0.2.1 a0.2.2.2.2.2.2.2.2.1) then .inr (yG9 false) else .inl yGX) :=
    zf4 (step:=ybs) (fun i=>ynX i a0) a0.2.2.2.2.2.2.2.2.1.length (yoX a0.2.1 a0.2.2.2.2.2.2.2.2.1) _ _ (fun i hi=>by
      simp only [ybs,ynX,yon,zjI (show (i:Int) < a0.2.2.2.2.2.2.2.2.1.length by omega),cond_true,wr (show -9223372036854775808≤(i:Int)+1 by omega) (by omega),Int.natCast_add,Int.natCast_one,Int.toNat_natCast,zkO hi,ykx,yUa,wr (show -9223372036854775808≤a0.2.1.2 - 1 by omega) (by omega),wr (show -9223372036854775808≤a0.2.1.1 - 1 by omega) (by omega),yoX]
      rcases Nat.eq_zero_or_pos i with rfl | h0
      · cases (leb 0 (nth a0.2.2.2.2.2.2.2.2.1 ((0:Nat):Int) (0,[])).1&&leb (nth a0.2.2.2.2.2.2.2.2.1 ((0:Nat):Int) (0,[])).1 (a0.2.1.2 - 1))<;>cases (((nth a0.2.2.2.2.2.2.2.2.1 ((0:Nat):Int) (0,[])).2.length:Int) !=a0.2.1.1 - 1)<;>cases ((nth a0.2.2.2.2.2.2.2.2.1 ((0:Nat):Int) (0,[])).2.all isW)<;>rfl
      · rw [show IntKind.i64.wrap ((i:Int) - 1)=((i - 1:Nat):Int) by rw [wr (by omega) (by omega)]; omega,zkO (show i - 1 < a0.2.2.2.2.2.2.2.2.1.length by omega),zjI (show (0:Int) < i by omega),decide_eq_true h0]
        cases (leb 0 (nth a0.2.2.2.2.2.2.2.2.1 (i:Int) (0,[])).1&&leb (nth a0.2.2.2.2.2.2.2.2.1 (i:Int) (0,[])).1 (a0.2.1.2 - 1))<;>cases (((nth a0.2.2.2.2.2.2.2.2.1 (i:Int) (0,[])).2.length:Int) !=a0.2.1.1 - 1)<;>cases ((nth a0.2.2.2.2.2.2.2.2.1 (i:Int) (0,[])).2.all isW)<;>cases leb (nth a0.2.2.2.2.2.2.2.2.1 (i:Int) (0,[])).1 (nth a0.2.2.2.2.2.2.2.2.1 ((i - 1:Nat):Int) (0,[])).1<;>rfl) (by simp only [ybs,ynX,yon,zkm (Int.le_refl _),cond_false]) _ (by show _ < 18446744073709551616; omega)
  unfold ykR yjM yoY
  rw [h1]
  cases (List.range a0.2.2.2.2.2.2.2.2.1.length).any (yoX a0.2.1 a0.2.2.2.2.2.2.2.2.1)<;>rfl
def yo4 (a0:dA):Option (ResD yjD×MutD ydd):=bif yuF a0 then (fun n=>some ((n,()),())) (yjM a0) else none
theorem yPK (a0:dA) (h:yuF a0=true):yo4 a0=(fun n=>some ((n,()),())) (yjM a0):=by unfold yo4; rw [h]; rfl
def yzR:Con:=⟨ydd,yjD,fun x=>yo4 x.1⟩
theorem yPF:ConOk Tryz.prog 159 yzR:=(yMh).mono (fun x r hk h=>zkW h (fun hq=>yOT x.1 hk hq))
end
section
def yFs:Code:=(Tryz.f82.body).getD .skip
def yFT:Env:=zki TT [(98,yM),(141,yuu),(158,yBY),(159,yzR)] []
theorem yOi:FrOk Tryz.prog ⟨yFT,78,fun _=>none⟩ yFs:=zkp yb yc ⟨yaE,yEz,ySb,yPF,trivial⟩
def yQj:Nat→Option Seg:=fun _=>none
abbrev yjv:List Par:= [.rd tA]
abbrev ysS:List OT:= [⟨false,tB,.fz⟩]
def ypj (a0:dA):Option (ResD ysS×MutD yjv) :=
  let r1:=yg a0.2.1
  bif (!(!r1)) then
    let r2:=ya a0.1 1 60000
    bif (!(!r2)) then
      bnd (yq7 a0) fun r3 =>
      bif (!(!r3.1.1)) then
        bnd (yo4 a0) fun r4 =>
        bif (!r4.1.1) then
          some ((false,()),())
        else
          let r5:=ya a0.2.2.2.1 (-1) (IntKind.i64.wrap (a0.2.1.1 - 1))
          bif (!(!r5)) then
            let r6:=ya a0.2.2.2.2.1 0 a0.2.1.2
            bif (!(!r6)) then
              bif (a0.2.2.2.1==(-1)) then
                bif (a0.2.2.2.2.1 !=0) then
                  some ((false,()),())
                else
                  let r7:=ya a0.2.2.2.2.2.2.1 0 60000
                  bif r7 then
                    let r8:=ya a0.2.2.2.2.2.1 a0.2.2.2.2.2.2.1 60000
                    bif r8 then
                      bif (leb a0.2.2.2.2.2.1 (IntKind.i64.wrap (a0.2.2.2.2.2.2.1+4))) then
                        let r9:=ya a0.2.2.2.2.2.2.2.1 0 60000
                        bif r9 then
                          let r10:=ya a0.2.2.2.2.2.2.2.2.2.1 (-1) 1000
                          some ((r10,()),())
                        else
                          some ((false,()),())
                      else
                        some ((false,()),())
                    else
                      some ((false,()),())
                  else
                    some ((false,()),())
              else
                let r11:=ya a0.2.2.2.2.2.2.1 0 60000
                bif r11 then
                  let r12:=ya a0.2.2.2.2.2.1 a0.2.2.2.2.2.2.1 60000
                  bif r12 then
                    bif (leb a0.2.2.2.2.2.1 (IntKind.i64.wrap (a0.2.2.2.2.2.2.1+4))) then
                      let r13:=ya a0.2.2.2.2.2.2.2.1 0 60000
                      bif r13 then
                        let r14:=ya a0.2.2.2.2.2.2.2.2.2.1 (-1) 1000
                        some ((r14,()),())
                      else
                        some ((false,()),())
                    else
                      some ((false,()),())
                  else
                    some ((false,()),())
                else
                  some ((false,()),())
            else
              some ((false,()),())
          else
            some ((false,()),())
      else
        some ((false,()),())
    else
      some ((false,()),())
  else
    some ((false,()),())
theorem yUF (x:InD yjv):zjH ⟨yFT,78,yQj⟩ Tryz.f82.results.toList yFs yjv ysS x=ypj x.1:=by kernel_rfl
theorem yRP:ConOk Tryz.prog 82 ⟨yjv,ysS,fun x=>ypj x.1⟩:=zkh (yOi) Tryz.func82 (by kernel_rfl) (by kernel_rfl) Tryz.ntmps82.symm (by decide) (fun x r h=>(yUF x).trans h)
def ydZ (a0:dA):Bool:=yr a0
theorem yTz (a0:dA) (hk:zi9 yjv (a0,())):ypj a0=(fun n=>some ((n,()),())) (ydZ a0):=by
  unfold ypj ydZ yr
  simp only [ykx]
  cases hg:yg a0.2.1
  · rfl
  have hg2:=yam.1 hg
  rw [ySf a0 hg,yPK a0 hg,wr (show -9223372036854775808≤a0.2.1.1 - 1 by omega) (by omega)]
  simp only [zky,ylx,yjM,Bool.not_not,cond_true]
  cases (leb 1 a0.1&&leb a0.1 60000)
  · rfl
  cases yti a0
  · rfl
  cases yoY a0.2.1 a0.2.2.2.2.2.2.2.2.1
  · rfl
  cases (leb (-1) a0.2.2.2.1&&leb a0.2.2.2.1 (a0.2.1.1 - 1))
  · rfl
  cases (leb 0 a0.2.2.2.2.1&&leb a0.2.2.2.2.1 a0.2.1.2)
  · rfl
  have ht:(leb 0 a0.2.2.2.2.2.2.1&&leb a0.2.2.2.2.2.2.1 60000)=true→IntKind.i64.wrap (a0.2.2.2.2.2.2.1+4)=a0.2.2.2.2.2.2.1+4:=fun h=>by
    rw [Bool.and_eq_true,zjQ,zjQ]at h
    exact wr (by omega) (by omega)
  cases hT:(leb 0 a0.2.2.2.2.2.2.1&&leb a0.2.2.2.2.2.2.1 60000)
  · cases (a0.2.2.2.1== -1)<;>cases (a0.2.2.2.2.1 !=0)<;>rfl
  rw [ht hT]
  cases (leb a0.2.2.2.2.2.2.1 a0.2.2.2.2.2.1&&leb a0.2.2.2.2.2.1 60000)
  · cases (a0.2.2.2.1== -1)<;>cases (a0.2.2.2.2.1 !=0)<;>rfl
  cases leb a0.2.2.2.2.2.1 (a0.2.2.2.2.2.2.1+4)
  · cases (a0.2.2.2.1== -1)<;>cases (a0.2.2.2.2.1 !=0)<;>rfl
  cases (leb 0 a0.2.2.2.2.2.2.2.1&&leb a0.2.2.2.2.2.2.2.1 60000)<;>cases (a0.2.2.2.1== -1)<;>cases (a0.2.2.2.2.1 !=0)<;>rfl
def yDc:Con:=⟨yjv,ysS,fun x=>(fun n=>some ((n,()),())) (ydZ x.1)⟩
theorem yT5:ConOk Tryz.prog 82 yDc:=(yRP).mono (fun x r hk h=>(yTz x.1 hk).trans h)
end
section
def yFx:Code:=(Tryz.f74.body).getD .skip
def yFY:Env:=zki TT [(82,yDc)] []
theorem yOt:FrOk Tryz.prog ⟨yFY,8,fun _=>none⟩ yFx:=zkp yb yc ⟨yT5,trivial⟩
def yQo:Nat→Option Seg:=fun _=>none
abbrev ynJ:List Par:= [.rd tA]
abbrev ysY:List OT:= [⟨false,tI,.fz⟩]
def yuW (a0:dA):Option (ResD ysY×MutD ynJ) :=
  let r1:=ydZ a0
  bif (!r1) then
    some ((1,()),())
  else
    bif a0.2.2.2.2.2.2.2.2.2.2.1 then
      some ((6,()),())
    else
      some ((0,()),())
theorem yUM (x:InD ynJ):zjH ⟨yFY,8,yQo⟩ Tryz.f74.results.toList yFx ynJ ysY x=yuW x.1:=by kernel_rfl
theorem yRW:ConOk Tryz.prog 74 ⟨ynJ,ysY,fun x=>yuW x.1⟩:=zkh (yOt) Tryz.func74 (by kernel_rfl) (by kernel_rfl) Tryz.ntmps74.symm (by decide) (fun x r h=>(yUM x).trans h)
def yd1 (a0:dA):Int :=
  let r1:=ydZ a0
  bif (!r1) then
    1
  else
    bif a0.2.2.2.2.2.2.2.2.2.2.1 then
      6
    else
      0
def yoW:Con:=⟨ynJ,ysY,fun x=>(fun n=>some ((n,()),())) (yd1 x.1)⟩
theorem yTG (a0:dA):yuW a0=(fun n=>some ((n,()),())) (yd1 a0):=zkS (p:=fun (n:Int)=>((n,()),())) (zkx (p:=fun (n:Int)=>((n,()),())) rfl (zkx (p:=fun (n:Int)=>((n,()),())) rfl rfl))
theorem ywA:ConOk Tryz.prog 74 yoW:=(yRW).mono (fun x r _ h=>(yTG x.1).trans h)
end
end
end Go.Tf
