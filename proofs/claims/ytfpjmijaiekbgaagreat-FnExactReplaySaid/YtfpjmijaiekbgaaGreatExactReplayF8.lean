/- Functions of the program, and what they come to. -/
import Derived.Test.YtfpjmijaiekbgaaGreatExactReplayF7
namespace Go.Tf
noncomputable section
open Go.Proofs
set_option synthInstance.maxHeartbeats 400000
set_option synthInstance.maxSize 10000
set_option linter.unusedVariables false
set_option linter.unusedSimpArgs false
set_option maxRecDepth 100000
section
def yar:Code:=(Tryz.f218.body).getD .skip
def ydK:Env:=zki TT [(98,yz),(249,yvE)] []
theorem yQq:FrOk Tryz.prog ⟨ydK,91,fun _=>none⟩ yar:=zkp yb yc ⟨yP,yGh,trivial⟩
def yEe:Nat→Option Seg:=fun _=>none
def ycs:Shape:=⟨[(1,false,[.ptr 0 0]),(3,false,[.int .i64]),(4,false,[.int .i64])],[(0,[.br tL,.br tW,.bool,.br tI])],[]⟩
def yhw:Shape:=⟨[(1,false,[.ptr 0 0]),(3,false,[.int .i64]),(4,false,[.ci .i64 0])],[(0,[.br tL,.br tW,.bool,.br tI])],[]⟩
def yhe:Shape:=⟨[(1,false,[.ptr 0 0]),(3,false,[.int .i64])],[(0,[.br tL,.br tW,.bool,.br tI])],[]⟩
def yhU:Shape:=⟨[(2,false,[.bool])],[],[]⟩
abbrev ysv (v0:Int) (v1:Int) (v2:dM):(ycs).X:=((((),()),(v0,()),(v1,()),()),((v2.1,v2.2.1,v2.2.2.1,v2.2.2.2,()),()),())
abbrev yNn (v0:Int) (v1:dM):(yhw).X:=((((),()),(v0,()),((),()),()),((v1.1,v1.2.1,v1.2.2.1,v1.2.2.2,()),()),())
abbrev yNf (v0:Int) (v1:dM):(yhe).X:=((((),()),(v0,()),()),((v1.1,v1.2.1,v1.2.2.1,v1.2.2.2,()),()),())
abbrev yNy (v0:Bool):(yhU).X:=(((v0,()),()),(),())
def ysU (v0:Int) (v1:Int) (v2:List (List Int)) (v3:List dW) (v4:Bool) (v5:List Int):Option ((ycs).X ⊕ ((yhe).X ⊕ (yhU).X)) :=
  bif (ltb v1 v0) then
    bif (inb v1 v2.length) then
      let r2:=yf0 (nth v2 v1 [])
      bif (!r2) then
        some (.inr (.inr (((false,()),()),(),())))
      else
        some (.inl ((((),()),(v0,()),((IntKind.i64.wrap (v1+1)),()),()),((v2,v3,v4,v5,()),()),()))
    else none
  else
    some (.inr (.inl ((((),()),(v0,()),()),((v2,v3,v4,v5,()),()),())))
def yc0 (x:(ycs).X):=ysU x.1.2.1.1 x.1.2.2.1.1 x.2.1.1.1 x.2.1.1.2.1 x.2.1.1.2.2.1 x.2.1.1.2.2.2.1
def yBa (x:(yhw).X):(ycs).X:=((((),()),(x.1.2.1.1,()),(0,()),()),((x.2.1.1.1,x.2.1.1.2.1,x.2.1.1.2.2.1,x.2.1.1.2.2.2.1,()),()),())
def yC4:Code:=(zdI yar 64 116).getD .skip
theorem yPn:zdI yar 64 29=some (.block 0 (.loop yC4)):=by kernel_rfl
theorem yR9 (x:(ycs).X):zg7 ⟨ydK,91,yEe⟩ 0 yC4 116 ycs yhe yhU x=yc0 x:=by kernel_rfl
def yBr (x:(yhw).X):Nat:=(fun (u0:Int) (u1:List (List Int)) (u2:List dW) (u3:Bool) (u4:List Int)=>18446744073709551616) x.1.2.1.1 x.2.1.1.1 x.2.1.1.2.1 x.2.1.1.2.2.1 x.2.1.1.2.2.2.1
def yty (x:(yhw).X):Option ((yhe).X ⊕ (yhU).X):=zr yc0 (yBr x) (yBa x)
def yBU:Seg:=⟨yhw,yhe,yhU,yty⟩
def yvy:Nat→Option Seg:=fun q=>bif Nat.beq q 29 then some yBU else yEe q
theorem yQr:FrOk Tryz.prog ⟨ydK,91,yvy⟩ yar:=(yQq).loop (sg:=yBU) ycs yBa (by decide) yPn yc0 yBr (by decide) (fun _=>rfl) (fun x r _ h=>h) yR9
def yct:Shape:=⟨[(1,false,[.ptr 0 0]),(3,false,[.int .i64]),(5,false,[.int .i64])],[(0,[.br tL,.br tW,.bool,.br tI])],[]⟩
def yhx:Shape:=⟨[(1,false,[.ptr 0 0]),(3,false,[.int .i64]),(5,false,[.ci .i64 0])],[(0,[.br tL,.br tW,.bool,.br tI])],[]⟩
def yhf:Shape:=⟨[(1,false,[.ptr 0 0]),(3,false,[.int .i64])],[(0,[.br tL,.br tW,.bool,.br tI])],[]⟩
def yhV:Shape:=⟨[(2,false,[.bool])],[],[]⟩
abbrev ysw (v0:Int) (v1:Int) (v2:dM):(yct).X:=((((),()),(v0,()),(v1,()),()),((v2.1,v2.2.1,v2.2.2.1,v2.2.2.2,()),()),())
abbrev yNo (v0:Int) (v1:dM):(yhx).X:=((((),()),(v0,()),((),()),()),((v1.1,v1.2.1,v1.2.2.1,v1.2.2.2,()),()),())
abbrev yNg (v0:Int) (v1:dM):(yhf).X:=((((),()),(v0,()),()),((v1.1,v1.2.1,v1.2.2.1,v1.2.2.2,()),()),())
abbrev yNz (v0:Bool):(yhV).X:=(((v0,()),()),(),())
def ysV (v0:Int) (v1:Int) (v2:List (List Int)) (v3:List dW) (v4:Bool) (v5:List Int):Option ((yct).X ⊕ ((yhf).X ⊕ (yhV).X)) :=
  bif (ltb v1 (v3.length:Int)) then
    bif (inb v1 v3.length) then
      let r6:=ya ((nth v3 v1 (0,[])).1) 0 (IntKind.i64.wrap (v0 - 1))
      bif (!(!r6)) then
        bif (inb v1 v3.length) then
          let r7:=yf0 ((nth v3 v1 (0,[])).2)
          bif (!r7) then
            some (.inr (.inr (((false,()),()),(),())))
          else
            some (.inl ((((),()),(v0,()),((IntKind.i64.wrap (v1+1)),()),()),((v2,v3,v4,v5,()),()),()))
        else none
      else
        some (.inr (.inr (((false,()),()),(),())))
    else none
  else
    some (.inr (.inl ((((),()),(v0,()),()),((v2,v3,v4,v5,()),()),())))
def yc1 (x:(yct).X):=ysV x.1.2.1.1 x.1.2.2.1.1 x.2.1.1.1 x.2.1.1.2.1 x.2.1.1.2.2.1 x.2.1.1.2.2.2.1
def yBb (x:(yhx).X):(yct).X:=((((),()),(x.1.2.1.1,()),(0,()),()),((x.2.1.1.1,x.2.1.1.2.1,x.2.1.1.2.2.1,x.2.1.1.2.2.2.1,()),()),())
def yC5:Code:=(zdI yar 64 244).getD .skip
theorem yPo:zdI yar 64 61=some (.block 2 (.loop yC5)):=by kernel_rfl
theorem ySa (x:(yct).X):zg7 ⟨ydK,91,yvy⟩ 2 yC5 244 yct yhf yhV x=yc1 x:=by kernel_rfl
def yBs (x:(yhx).X):Nat:=(fun (u0:Int) (u1:List (List Int)) (u2:List dW) (u3:Bool) (u4:List Int)=>18446744073709551616) x.1.2.1.1 x.2.1.1.1 x.2.1.1.2.1 x.2.1.1.2.2.1 x.2.1.1.2.2.2.1
def ytz (x:(yhx).X):Option ((yhf).X ⊕ (yhV).X):=zr yc1 (yBs x) (yBb x)
def yBV:Seg:=⟨yhx,yhf,yhV,ytz⟩
def yvz:Nat→Option Seg:=fun q=>bif Nat.beq q 61 then some yBV else yvy q
theorem yQs:FrOk Tryz.prog ⟨ydK,91,yvz⟩ yar:=(yQr).loop (sg:=yBV) yct yBb (by decide) yPo yc1 yBs (by decide) (fun _=>rfl) (fun x r _ h=>h) ySa
def ybH:Shape:=⟨[(1,false,[.ptr 0 0]),(3,false,[.int .i64]),(6,false,[.int .i64])],[(0,[.br tL,.br tW,.bool,.br tI])],[]⟩
def yfH:Shape:=⟨[(1,false,[.ptr 0 0]),(3,false,[.int .i64]),(6,false,[.ci .i64 0])],[(0,[.br tL,.br tW,.bool,.br tI])],[]⟩
def yfA:Shape:=⟨[(1,false,[.ptr 0 0]),(3,false,[.int .i64])],[(0,[.br tL,.br tW,.bool,.br tI])],[]⟩
def yfR:Shape:=⟨[(2,false,[.bool])],[],[]⟩
abbrev yqx (v0:Int) (v1:Int) (v2:dM):(ybH).X:=((((),()),(v0,()),(v1,()),()),((v2.1,v2.2.1,v2.2.2.1,v2.2.2.2,()),()),())
abbrev yKA (v0:Int) (v1:dM):(yfH).X:=((((),()),(v0,()),((),()),()),((v1.1,v1.2.1,v1.2.2.1,v1.2.2.2,()),()),())
abbrev yKw (v0:Int) (v1:dM):(yfA).X:=((((),()),(v0,()),()),((v1.1,v1.2.1,v1.2.2.1,v1.2.2.2,()),()),())
abbrev yKG (v0:Bool):(yfR).X:=(((v0,()),()),(),())
def yqU (v0:Int) (v1:Int) (v2:List (List Int)) (v3:List dW) (v4:Bool) (v5:List Int):Option ((ybH).X ⊕ ((yfA).X ⊕ (yfR).X)) :=
  bif (ltb v1 (v5.length:Int)) then
    bif (inb v1 v5.length) then
      let r10:=ya (nth v5 v1 0) 0 (IntKind.i64.wrap (v0 - 1))
      bif (!(!r10)) then
        bif (ltb 0 v1) then
          bif (inb (IntKind.i64.wrap (v1 - 1)) v5.length) then
            bif (inb v1 v5.length) then
              bif (leb (nth v5 v1 0) (nth v5 (IntKind.i64.wrap (v1 - 1)) 0)) then
                some (.inr (.inr (((false,()),()),(),())))
              else
                some (.inl ((((),()),(v0,()),((IntKind.i64.wrap (v1+1)),()),()),((v2,v3,v4,v5,()),()),()))
            else none
          else none
        else
          some (.inl ((((),()),(v0,()),((IntKind.i64.wrap (v1+1)),()),()),((v2,v3,v4,v5,()),()),()))
      else
        some (.inr (.inr (((false,()),()),(),())))
    else none
  else
    some (.inr (.inl ((((),()),(v0,()),()),((v2,v3,v4,v5,()),()),())))
def ycc (x:(ybH).X):=yqU x.1.2.1.1 x.1.2.2.1.1 x.2.1.1.1 x.2.1.1.2.1 x.2.1.1.2.2.1 x.2.1.1.2.2.2.1
def yy5 (x:(yfH).X):(ybH).X:=((((),()),(x.1.2.1.1,()),(0,()),()),((x.2.1.1.1,x.2.1.1.2.1,x.2.1.1.2.2.1,x.2.1.1.2.2.2.1,()),()),())
def yAD:Code:=(zdI yar 64 500).getD .skip
theorem yL3:zdI yar 64 125=some (.block 4 (.loop yAD)):=by kernel_rfl
theorem yOL (x:(ybH).X):zg7 ⟨ydK,91,yvz⟩ 4 yAD 500 ybH yfA yfR x=ycc x:=by kernel_rfl
def yzk (x:(yfH).X):Nat:=(fun (u0:Int) (u1:List (List Int)) (u2:List dW) (u3:Bool) (u4:List Int)=>18446744073709551616) x.1.2.1.1 x.2.1.1.1 x.2.1.1.2.1 x.2.1.1.2.2.1 x.2.1.1.2.2.2.1
def ysh (x:(yfH).X):Option ((yfA).X ⊕ (yfR).X):=zr ycc (yzk x) (yy5 x)
def yzC:Seg:=⟨yfH,yfA,yfR,ysh⟩
def yEf:Nat→Option Seg:=fun q=>bif Nat.beq q 125 then some yzC else yvz q
theorem yQt:FrOk Tryz.prog ⟨ydK,91,yEf⟩ yar:=(yQs).loop (sg:=yzC) ybH yy5 (by decide) yL3 ycc yzk (by decide) (fun _=>rfl) (fun x r _ h=>h) yOL
abbrev yjJ:List Par:= [.rd tM]
abbrev yt1:List OT:= [⟨false,tB,.fz⟩]
def yp6 (a0:dM):Option (ResD yt1×MutD yjJ) :=
  zjw (yty ((((),()),((a0.1.length:Int),()),((),()),()),((a0.1,a0.2.1,a0.2.2.1,a0.2.2.2,()),()),())) (fun y2 =>
    zjw (ytz ((((),()),(y2.1.2.1.1,()),((),()),()),((y2.2.1.1.1,y2.2.1.1.2.1,y2.2.1.1.2.2.1,y2.2.1.1.2.2.2.1,()),()),())) (fun y7 =>
      zjw (ysh ((((),()),(y7.1.2.1.1,()),((),()),()),((y7.2.1.1.1,y7.2.1.1.2.1,y7.2.1.1.2.2.1,y7.2.1.1.2.2.2.1,()),()),())) (fun y10 =>
        let r12:=ya y10.1.2.1.1 1 20
        bif r12 then
          some (((leb (y10.2.1.1.2.1.length:Int) 60),()),())
        else
          some ((false,()),())) (fun y10 =>
        some ((y10.1.1.1,()),()))) (fun y7 =>
      some ((y7.1.1.1,()),()))) (fun y2 =>
    some ((y2.1.1.1,()),()))
theorem yWZ (x:InD yjJ):zjH ⟨ydK,91,yEf⟩ Tryz.f218.results.toList yar yjJ yt1 x=yp6 x.1:=by kernel_rfl
theorem yT8:ConOk Tryz.prog 218 ⟨yjJ,yt1,fun x=>yp6 x.1⟩:=zkh (yQt) Tryz.func218 (by kernel_rfl) (by kernel_rfl) Tryz.ntmps218.symm (by decide) (fun x r h=>(yWZ x).trans h)
def yaB (a0:dM):Bool:=yo a0
theorem yV1 (a0:dM) (hk:zi9 yjJ (a0,())):yp6 a0=(fun n=>some ((n,()),())) (yaB a0):=by
  have hb1:a0.1.length * 24≤2 ^ 47:=hk.1.1.1
  have hb2:a0.2.1.length * 32≤2 ^ 47:=hk.1.2.1.1
  have hb3:a0.2.2.2.length * 8≤2 ^ 47:=hk.1.2.2.2.1
  have h1:yty (yNn a0.1.length a0)=some (bif a0.1.all ybc then .inl (yNf a0.1.length a0) else .inr (yNy false)) :=
    zjS (step:=yc0) a0.1 [] (fun i=>ysv a0.1.length i a0) ybc _ _ (fun i hi=>by
      simp only [yc0,ysv,ysU,zjI (show (i:Int) < a0.1.length by omega),cond_true,wr (show -9223372036854775808≤(i:Int)+1 by omega) (by omega),Int.natCast_add,Int.natCast_one,Int.toNat_natCast,zkO hi,zjW,yDU]
      cases ybc (a0.1.getD i [])<;>rfl) (by simp only [yc0,ysv,ysU,zkm (Int.le_refl _),cond_false]) _ (by show _ < 18446744073709551616; omega)
  have h2:ytz (yNo a0.1.length a0)=some (bif a0.2.1.all (yv2 a0.1.length) then .inl (yNg a0.1.length a0) else .inr (yNz false)) :=
    zjS (step:=yc1) a0.2.1 (0,[]) (fun i=>ysw a0.1.length i a0) (yv2 a0.1.length) _ _ (fun i hi=>by
      simp only [yc1,ysw,ysV,zjI (show (i:Int) < a0.2.1.length by omega),cond_true,wr (show -9223372036854775808≤(i:Int)+1 by omega) (by omega),Int.natCast_add,Int.natCast_one,Int.toNat_natCast,zkO hi,zjW,yDU,yq8 (show a0.1.length≤1152921504606846976 by omega),yv2]
      cases inb (a0.2.1.getD i (0,[])).1 a0.1.length<;>cases ybc (a0.2.1.getD i (0,[])).2<;>rfl) (by simp only [yc1,ysw,ysV,zkm (Int.le_refl _),cond_false]) _ (by show _ < 18446744073709551616; omega)
  have h3:ysh (yKA a0.1.length a0)=some (bif (List.range a0.2.2.2.length).any (yCV a0.1.length a0.2.2.2) then .inr (yKG false) else .inl (yKw a0.1.length a0)) :=
    zf4 (step:=ycc) (fun i=>yqx a0.1.length i a0) a0.2.2.2.length (yCV a0.1.length a0.2.2.2) _ _ (fun i hi=>by
      simp only [ycc,yqx,yqU,zjI (show (i:Int) < a0.2.2.2.length by omega),cond_true,wr (show -9223372036854775808≤(i:Int)+1 by omega) (by omega),Int.natCast_add,Int.natCast_one,Int.toNat_natCast,zkO hi,zjW,yq8 (show a0.1.length≤1152921504606846976 by omega),yCV]
      rcases Nat.eq_zero_or_pos i with rfl | h0
      · cases inb (a0.2.2.2.getD 0 0) a0.1.length<;>rfl
      · rw [show IntKind.i64.wrap ((i:Int) - 1)=((i - 1:Nat):Int) by rw [wr (by omega) (by omega)]; omega,zkO (show i - 1 < a0.2.2.2.length by omega),zjW,zjI (show (0:Int) < i by omega),decide_eq_true h0]
        cases inb (a0.2.2.2.getD i 0) a0.1.length<;>cases leb (a0.2.2.2.getD i 0) (a0.2.2.2.getD (i - 1) 0)<;>rfl) (by simp only [ycc,yqx,yqU,zkm (Int.le_refl _),cond_false]) _ (by show _ < 18446744073709551616; omega)
  unfold yp6 yaB yo
  rw [h1]
  cases a0.1.all ybc
  · rfl
  simp only [cond_true,zkJ,h2]
  cases a0.2.1.all (yv2 a0.1.length)
  · rfl
  simp only [cond_true,zkJ,h3,yUL,yiW]
  cases yt7 a0.1.length a0.2.2.2
  · rfl
  simp only [Bool.not_true,cond_false,zkJ]
  cases leb 1 (a0.1.length:Int)<;>cases leb (a0.1.length:Int) 20<;>rfl
def yjU:Con:=⟨yjJ,yt1,fun x=>(fun n=>some ((n,()),())) (yaB x.1)⟩
theorem yr4:ConOk Tryz.prog 218 yjU:=(yT8).mono (fun x r hk h=>(yV1 x.1 hk).trans h)
end
section
def yFO:Code:=(Tryz.f219.body).getD .skip
def yF9:Env:=zki TT [] []
theorem yM1:FrOk Tryz.prog ⟨yF9,6,fun _=>none⟩ yFO:=zkp yb yc trivial
def yPe:Nat→Option Seg:=fun _=>none
abbrev ylQ:List Par:= [.rd tG]
abbrev yrW:List OT:= [⟨false,tI,.fz⟩]
def yuJ (a0:dG):Option (ResD yrW×MutD ylQ) :=
  some (((IntKind.i64.wrap (6+a0.2)),()),())
theorem yVx (x:InD ylQ):zjH ⟨yF9,6,yPe⟩ Tryz.f219.results.toList yFO ylQ yrW x=yuJ x.1:=by kernel_rfl
theorem yRz:ConOk Tryz.prog 219 ⟨ylQ,yrW,fun x=>yuJ x.1⟩:=zkh (yM1) Tryz.func219 (by kernel_rfl) (by kernel_rfl) Tryz.ntmps219.symm (by decide) (fun x r h=>(yVx x).trans h)
def yr0 (a0:dG):Int :=
  (IntKind.i64.wrap (6+a0.2))
def yDx:Con:=⟨ylQ,yrW,fun x=>(fun n=>some ((n,()),())) (yr0 x.1)⟩
theorem yTH (a0:dG):yuJ a0=(fun n=>some ((n,()),())) (yr0 a0):=zkS (p:=fun (n:Int)=>((n,()),())) rfl
theorem yUB:ConOk Tryz.prog 219 yDx:=(yRz).mono (fun x r _ h=>(yTH x.1).trans h)
end
section
def ylA:Code:=(Tryz.f158.body).getD .skip
def yrn:Env:=zki TT [(218,yjU),(219,yDx)] []
theorem yMZ:FrOk Tryz.prog ⟨yrn,51,fun _=>none⟩ ylA:=zkp yb yc ⟨yr4,yUB,trivial⟩
def yCE:Nat→Option Seg:=fun _=>none
def ybL:Shape:=⟨[(1,false,[.ptr 0 0]),(3,false,[.int .i64])],[(0,[.int .i64,.int .i64,.int .i64,.br tM,.int .i64,.int .i64,.int .i64,.int .i64,.int .i64,.br tW,.int .i64,.bool,.bool])],[]⟩
def yfL:Shape:=⟨[(1,false,[.ptr 0 0]),(3,false,[.ci .i64 0])],[(0,[.int .i64,.int .i64,.int .i64,.br tM,.int .i64,.int .i64,.int .i64,.int .i64,.int .i64,.br tW,.int .i64,.bool,.bool])],[]⟩
def yfE:Shape:=⟨[(1,false,[.ptr 0 0])],[(0,[.int .i64,.int .i64,.int .i64,.br tM,.int .i64,.int .i64,.int .i64,.int .i64,.int .i64,.br tW,.int .i64,.bool,.bool])],[]⟩
def yfS:Shape:=⟨[(2,false,[.bool])],[],[]⟩
abbrev yqB (v0:Int) (v1:dA):(ybL).X:=((((),()),(v0,()),()),((v1.1,v1.2.1.1,v1.2.1.2,v1.2.2.1,v1.2.2.2.1,v1.2.2.2.2.1,v1.2.2.2.2.2.1,v1.2.2.2.2.2.2.1,v1.2.2.2.2.2.2.2.1,v1.2.2.2.2.2.2.2.2.1,v1.2.2.2.2.2.2.2.2.2.1,v1.2.2.2.2.2.2.2.2.2.2.1,v1.2.2.2.2.2.2.2.2.2.2.2,()),()),())
abbrev yKE (v0:dA):(yfL).X:=((((),()),((),()),()),((v0.1,v0.2.1.1,v0.2.1.2,v0.2.2.1,v0.2.2.2.1,v0.2.2.2.2.1,v0.2.2.2.2.2.1,v0.2.2.2.2.2.2.1,v0.2.2.2.2.2.2.2.1,v0.2.2.2.2.2.2.2.2.1,v0.2.2.2.2.2.2.2.2.2.1,v0.2.2.2.2.2.2.2.2.2.2.1,v0.2.2.2.2.2.2.2.2.2.2.2,()),()),())
abbrev yKy (v0:dA):(yfE).X:=((((),()),()),((v0.1,v0.2.1.1,v0.2.1.2,v0.2.2.1,v0.2.2.2.1,v0.2.2.2.2.1,v0.2.2.2.2.2.1,v0.2.2.2.2.2.2.1,v0.2.2.2.2.2.2.2.1,v0.2.2.2.2.2.2.2.2.1,v0.2.2.2.2.2.2.2.2.2.1,v0.2.2.2.2.2.2.2.2.2.2.1,v0.2.2.2.2.2.2.2.2.2.2.2,()),()),())
abbrev yKH (v0:Bool):(yfS).X:=(((v0,()),()),(),())
def yqY (v0:Int) (v1:Int) (v2:Int) (v3:Int) (v4:List dM) (v5:Int) (v6:Int) (v7:Int) (v8:Int) (v9:Int) (v10:List dW) (v11:Int) (v12:Bool) (v13:Bool):Option ((ybL).X ⊕ ((yfE).X ⊕ (yfS).X)) :=
  bif (ltb v0 (v4.length:Int)) then
    bif (inb v0 v4.length) then
      let r3:=yaB ((nth v4 v0 ([],[],false,[])).1,((nth v4 v0 ([],[],false,[])).2).1,(((nth v4 v0 ([],[],false,[])).2).2))
      bif (!(!r3)) then
        let r4:=yr0 (v2,v3)
        bif (!((((nth v4 v0 ([],[],false,[])).1).length:Int) !=r4)) then
          bif (((nth v4 v0 ([],[],false,[])).2).2).1 then
            bif (v0 !=v5) then
              bif (!v13) then
                some (.inr (.inr (((false,()),()),(),())))
              else
                some (.inl ((((),()),((IntKind.i64.wrap (v0+1)),()),()),((v1,v2,v3,v4,v5,v6,v7,v8,v9,v10,v11,v12,v13,()),()),()))
            else
              some (.inl ((((),()),((IntKind.i64.wrap (v0+1)),()),()),((v1,v2,v3,v4,v5,v6,v7,v8,v9,v10,v11,v12,v13,()),()),()))
          else
            some (.inl ((((),()),((IntKind.i64.wrap (v0+1)),()),()),((v1,v2,v3,v4,v5,v6,v7,v8,v9,v10,v11,v12,v13,()),()),()))
        else
          some (.inr (.inr (((false,()),()),(),())))
      else
        some (.inr (.inr (((false,()),()),(),())))
    else none
  else
    some (.inr (.inl ((((),()),()),((v1,v2,v3,v4,v5,v6,v7,v8,v9,v10,v11,v12,v13,()),()),())))
def ycg (x:(ybL).X):=yqY x.1.2.1.1 x.2.1.1.1 x.2.1.1.2.1 x.2.1.1.2.2.1 x.2.1.1.2.2.2.1 x.2.1.1.2.2.2.2.1 x.2.1.1.2.2.2.2.2.1 x.2.1.1.2.2.2.2.2.2.1 x.2.1.1.2.2.2.2.2.2.2.1 x.2.1.1.2.2.2.2.2.2.2.2.1 x.2.1.1.2.2.2.2.2.2.2.2.2.1 x.2.1.1.2.2.2.2.2.2.2.2.2.2.1 x.2.1.1.2.2.2.2.2.2.2.2.2.2.2.1 x.2.1.1.2.2.2.2.2.2.2.2.2.2.2.2.1
def yy9 (x:(yfL).X):(ybL).X:=((((),()),(0,()),()),((x.2.1.1.1,x.2.1.1.2.1,x.2.1.1.2.2.1,x.2.1.1.2.2.2.1,x.2.1.1.2.2.2.2.1,x.2.1.1.2.2.2.2.2.1,x.2.1.1.2.2.2.2.2.2.1,x.2.1.1.2.2.2.2.2.2.2.1,x.2.1.1.2.2.2.2.2.2.2.2.1,x.2.1.1.2.2.2.2.2.2.2.2.2.1,x.2.1.1.2.2.2.2.2.2.2.2.2.2.1,x.2.1.1.2.2.2.2.2.2.2.2.2.2.2.1,x.2.1.1.2.2.2.2.2.2.2.2.2.2.2.2.1,()),()),())
def yAH:Code:=(zdI ylA 64 52).getD .skip
theorem yL7:zdI ylA 64 13=some (.block 0 (.loop yAH)):=by kernel_rfl
theorem yOP (x:(ybL).X):zg7 ⟨yrn,51,yCE⟩ 0 yAH 52 ybL yfE yfS x=ycg x:=by kernel_rfl
def yzo (x:(yfL).X):Nat:=(fun (u0:Int) (u1:Int) (u2:Int) (u3:List dM) (u4:Int) (u5:Int) (u6:Int) (u7:Int) (u8:Int) (u9:List dW) (u10:Int) (u11:Bool) (u12:Bool)=>18446744073709551616) x.2.1.1.1 x.2.1.1.2.1 x.2.1.1.2.2.1 x.2.1.1.2.2.2.1 x.2.1.1.2.2.2.2.1 x.2.1.1.2.2.2.2.2.1 x.2.1.1.2.2.2.2.2.2.1 x.2.1.1.2.2.2.2.2.2.2.1 x.2.1.1.2.2.2.2.2.2.2.2.1 x.2.1.1.2.2.2.2.2.2.2.2.2.1 x.2.1.1.2.2.2.2.2.2.2.2.2.2.1 x.2.1.1.2.2.2.2.2.2.2.2.2.2.2.1 x.2.1.1.2.2.2.2.2.2.2.2.2.2.2.2.1
def ysl (x:(yfL).X):Option ((yfE).X ⊕ (yfS).X):=zr ycg (yzo x) (yy9 x)
def yzG:Seg:=⟨yfL,yfE,yfS,ysl⟩
def yCF:Nat→Option Seg:=fun q=>bif Nat.beq q 13 then some yzG else yCE q
theorem yM0:FrOk Tryz.prog ⟨yrn,51,yCF⟩ ylA:=(yMZ).loop (sg:=yzG) ybL yy9 (by decide) yL7 ycg yzo (by decide) (fun _=>rfl) (fun x r _ h=>h) yOP
abbrev yeq:List Par:= [.rd tA]
abbrev ylR:List OT:= [⟨false,tB,.fz⟩]
def ynR (a0:dA):Option (ResD ylR×MutD yeq) :=
  zjw (ysl ((((),()),((),()),()),((a0.1,a0.2.1.1,a0.2.1.2,a0.2.2.1,a0.2.2.2.1,a0.2.2.2.2.1,a0.2.2.2.2.2.1,a0.2.2.2.2.2.2.1,a0.2.2.2.2.2.2.2.1,a0.2.2.2.2.2.2.2.2.1,a0.2.2.2.2.2.2.2.2.2.1,a0.2.2.2.2.2.2.2.2.2.2.1,a0.2.2.2.2.2.2.2.2.2.2.2,()),()),())) (fun y4 =>
    some ((((y4.2.1.1.2.2.2.1.length:Int)==y4.2.1.1.2.1),()),())) (fun y4 =>
    some ((y4.1.1.1,()),()))
theorem yVw (x:InD yeq):zjH ⟨yrn,51,yCF⟩ Tryz.f158.results.toList ylA yeq ylR x=ynR x.1:=by kernel_rfl
theorem yRy:ConOk Tryz.prog 158 ⟨yeq,ylR,fun x=>ynR x.1⟩:=zkh (yM0) Tryz.func158 (by kernel_rfl) (by kernel_rfl) Tryz.ntmps158.symm (by decide) (fun x r h=>(yVw x).trans h)
def yl7 (a0:dA):Bool:=yup a0
def yxM (a0:dA):Bool:=yf a0.2.1
theorem yTG (a0:dA) (hk:zi9 yeq (a0,())) (hq:yxM a0=true):ynR a0=(fun n=>some ((n,()),())) (yl7 a0):=by
  have hb:a0.2.2.1.length * 80≤2 ^ 47:=hk.1.2.2.1.1
  have hg:=yaF.1 hq
  have h1:ysl (yKE a0)=some (bif (List.range a0.2.2.1.length).any (yh3 a0) then .inr (yKH false) else .inl (yKy a0)) :=
    zf4 (step:=ycg) (fun i=>yqB i a0) a0.2.2.1.length (yh3 a0) _ _ (fun i hi=>by
      simp only [ycg,yqB,yqY,zjI (show (i:Int) < a0.2.2.1.length by omega),cond_true,wr (show -9223372036854775808≤(i:Int)+1 by omega) (by omega),Int.natCast_add,Int.natCast_one,Int.toNat_natCast,zkO hi,zkV,yaB,yh3,yr0,wr (show -9223372036854775808≤6+a0.2.1.2 by omega) (by omega),yh]
      cases yo (nth a0.2.2.1 i ([],[],false,[]))<;>cases (((nth a0.2.2.1 i ([],[],false,[])).1.length:Int) !=6+a0.2.1.2)<;>cases (nth a0.2.2.1 i ([],[],false,[])).2.2.1<;>cases ((i:Int) !=a0.2.2.2.1)<;>cases a0.2.2.2.2.2.2.2.2.2.2.2<;>rfl) (by simp only [ycg,yqB,yqY,zkm (Int.le_refl _),cond_false]) _ (by show _ < 18446744073709551616; omega)
  unfold ynR yl7 yup
  rw [h1]
  cases (List.range a0.2.2.1.length).any (yh3 a0)<;>rfl
def yr2 (a0:dA):Option (ResD ylR×MutD yeq):=bif yxM a0 then (fun n=>some ((n,()),())) (yl7 a0) else none
theorem yUF (a0:dA) (h:yxM a0=true):yr2 a0=(fun n=>some ((n,()),())) (yl7 a0):=by unfold yr2; rw [h]; rfl
def yDw:Con:=⟨yeq,ylR,fun x=>yr2 x.1⟩
theorem yUA:ConOk Tryz.prog 158 yDw:=(yRy).mono (fun x r hk h=>zkW h (fun hq=>yTG x.1 hk hq))
end
section
def yjv:Code:=(Tryz.f159.body).getD .skip
def ypo:Env:=zki TT [(98,yz),(200,ykY)] []
theorem yKs:FrOk Tryz.prog ⟨ypo,57,fun _=>none⟩ yjv:=zkp yb yc ⟨yP,yuw,trivial⟩
def yAo:Nat→Option Seg:=fun _=>none
def ya6:Shape:=⟨[(1,false,[.ptr 0 0]),(3,false,[.int .i64])],[(0,[.int .i64,.int .i64,.int .i64,.br tM,.int .i64,.int .i64,.int .i64,.int .i64,.int .i64,.br tW,.int .i64,.bool,.bool])],[]⟩
def yeV:Shape:=⟨[(1,false,[.ptr 0 0]),(3,false,[.ci .i64 0])],[(0,[.int .i64,.int .i64,.int .i64,.br tM,.int .i64,.int .i64,.int .i64,.int .i64,.int .i64,.br tW,.int .i64,.bool,.bool])],[]⟩
def yeK:Shape:=⟨[],[],[]⟩
def ye1:Shape:=⟨[(2,false,[.bool])],[],[]⟩
abbrev yoK (v0:Int) (v1:dA):(ya6).X:=((((),()),(v0,()),()),((v1.1,v1.2.1.1,v1.2.1.2,v1.2.2.1,v1.2.2.2.1,v1.2.2.2.2.1,v1.2.2.2.2.2.1,v1.2.2.2.2.2.2.1,v1.2.2.2.2.2.2.2.1,v1.2.2.2.2.2.2.2.2.1,v1.2.2.2.2.2.2.2.2.2.1,v1.2.2.2.2.2.2.2.2.2.2.1,v1.2.2.2.2.2.2.2.2.2.2.2,()),()),())
abbrev yIG (v0:dA):(yeV).X:=((((),()),((),()),()),((v0.1,v0.2.1.1,v0.2.1.2,v0.2.2.1,v0.2.2.2.1,v0.2.2.2.2.1,v0.2.2.2.2.2.1,v0.2.2.2.2.2.2.1,v0.2.2.2.2.2.2.2.1,v0.2.2.2.2.2.2.2.2.1,v0.2.2.2.2.2.2.2.2.2.1,v0.2.2.2.2.2.2.2.2.2.2.1,v0.2.2.2.2.2.2.2.2.2.2.2,()),()),())
abbrev yIv  :(yeK).X:=((),(),())
abbrev yIL (v0:Bool):(ye1).X:=(((v0,()),()),(),())
def yo9 (v0:Int) (v1:Int) (v2:Int) (v3:Int) (v4:List dM) (v5:Int) (v6:Int) (v7:Int) (v8:Int) (v9:Int) (v10:List dW) (v11:Int) (v12:Bool) (v13:Bool):Option ((ya6).X ⊕ ((yeK).X ⊕ (ye1).X)) :=
  bif (ltb v0 (v10.length:Int)) then
    bif (inb v0 v10.length) then
      let r3:=ya ((nth v10 v0 (0,[])).1) 0 (IntKind.i64.wrap (v3 - 1))
      bif (!(!r3)) then
        bif (!((((nth v10 v0 (0,[])).2).length:Int) !=(IntKind.i64.wrap (v2 - 1)))) then
          let r4:=yO ((nth v10 v0 (0,[])).2)
          bif (!(!r4)) then
            bif (ltb 0 v0) then
              bif (inb (IntKind.i64.wrap (v0 - 1)) v10.length) then
                bif (leb ((nth v10 v0 (0,[])).1) ((nth v10 (IntKind.i64.wrap (v0 - 1)) (0,[])).1)) then
                  some (.inr (.inr (((false,()),()),(),())))
                else
                  some (.inl ((((),()),((IntKind.i64.wrap (v0+1)),()),()),((v1,v2,v3,v4,v5,v6,v7,v8,v9,v10,v11,v12,v13,()),()),()))
              else none
            else
              some (.inl ((((),()),((IntKind.i64.wrap (v0+1)),()),()),((v1,v2,v3,v4,v5,v6,v7,v8,v9,v10,v11,v12,v13,()),()),()))
          else
            some (.inr (.inr (((false,()),()),(),())))
        else
          some (.inr (.inr (((false,()),()),(),())))
      else
        some (.inr (.inr (((false,()),()),(),())))
    else none
  else
    some (.inr (.inl ((),(),())))
def ybv (x:(ya6).X):=yo9 x.1.2.1.1 x.2.1.1.1 x.2.1.1.2.1 x.2.1.1.2.2.1 x.2.1.1.2.2.2.1 x.2.1.1.2.2.2.2.1 x.2.1.1.2.2.2.2.2.1 x.2.1.1.2.2.2.2.2.2.1 x.2.1.1.2.2.2.2.2.2.2.1 x.2.1.1.2.2.2.2.2.2.2.2.1 x.2.1.1.2.2.2.2.2.2.2.2.2.1 x.2.1.1.2.2.2.2.2.2.2.2.2.2.1 x.2.1.1.2.2.2.2.2.2.2.2.2.2.2.1 x.2.1.1.2.2.2.2.2.2.2.2.2.2.2.2.1
def ywS (x:(yeV).X):(ya6).X:=((((),()),(0,()),()),((x.2.1.1.1,x.2.1.1.2.1,x.2.1.1.2.2.1,x.2.1.1.2.2.2.1,x.2.1.1.2.2.2.2.1,x.2.1.1.2.2.2.2.2.1,x.2.1.1.2.2.2.2.2.2.1,x.2.1.1.2.2.2.2.2.2.2.1,x.2.1.1.2.2.2.2.2.2.2.2.1,x.2.1.1.2.2.2.2.2.2.2.2.2.1,x.2.1.1.2.2.2.2.2.2.2.2.2.2.1,x.2.1.1.2.2.2.2.2.2.2.2.2.2.2.1,x.2.1.1.2.2.2.2.2.2.2.2.2.2.2.2.1,()),()),())
def yyE:Code:=(zdI yjv 64 52).getD .skip
theorem yJN:zdI yjv 64 13=some (.block 0 (.loop yyE)):=by kernel_rfl
theorem yLx (x:(ya6).X):zg7 ⟨ypo,57,yAo⟩ 0 yyE 52 ya6 yeK ye1 x=ybv x:=by kernel_rfl
def yxb (x:(yeV).X):Nat:=(fun (u0:Int) (u1:Int) (u2:Int) (u3:List dM) (u4:Int) (u5:Int) (u6:Int) (u7:Int) (u8:Int) (u9:List dW) (u10:Int) (u11:Bool) (u12:Bool)=>18446744073709551616) x.2.1.1.1 x.2.1.1.2.1 x.2.1.1.2.2.1 x.2.1.1.2.2.2.1 x.2.1.1.2.2.2.2.1 x.2.1.1.2.2.2.2.2.1 x.2.1.1.2.2.2.2.2.2.1 x.2.1.1.2.2.2.2.2.2.2.1 x.2.1.1.2.2.2.2.2.2.2.2.1 x.2.1.1.2.2.2.2.2.2.2.2.2.1 x.2.1.1.2.2.2.2.2.2.2.2.2.2.1 x.2.1.1.2.2.2.2.2.2.2.2.2.2.2.1 x.2.1.1.2.2.2.2.2.2.2.2.2.2.2.2.1
def yqs (x:(yeV).X):Option ((yeK).X ⊕ (ye1).X):=zr ybv (yxb x) (ywS x)
def yxB:Seg:=⟨yeV,yeK,ye1,yqs⟩
def yAp:Nat→Option Seg:=fun q=>bif Nat.beq q 13 then some yxB else yAo q
theorem yKt:FrOk Tryz.prog ⟨ypo,57,yAp⟩ yjv:=(yKs).loop (sg:=yxB) ya6 ywS (by decide) yJN ybv yxb (by decide) (fun _=>rfl) (fun x r _ h=>h) yLx
abbrev ydo:List Par:= [.rd tA]
abbrev yjS:List OT:= [⟨false,tB,.fz⟩]
def ylm (a0:dA):Option (ResD yjS×MutD ydo) :=
  zjw (yqs ((((),()),((),()),()),((a0.1,a0.2.1.1,a0.2.1.2,a0.2.2.1,a0.2.2.2.1,a0.2.2.2.2.1,a0.2.2.2.2.2.1,a0.2.2.2.2.2.2.1,a0.2.2.2.2.2.2.2.1,a0.2.2.2.2.2.2.2.2.1,a0.2.2.2.2.2.2.2.2.2.1,a0.2.2.2.2.2.2.2.2.2.2.1,a0.2.2.2.2.2.2.2.2.2.2.2,()),()),())) (fun y4 =>
    some ((true,()),())) (fun y4 =>
    some ((y4.1.1.1,()),()))
theorem ySY (x:InD ydo):zjH ⟨ypo,57,yAp⟩ Tryz.f159.results.toList yjv ydo yjS x=ylm x.1:=by kernel_rfl
theorem yOg:ConOk Tryz.prog 159 ⟨ydo,yjS,fun x=>ylm x.1⟩:=zkh (yKt) Tryz.func159 (by kernel_rfl) (by kernel_rfl) Tryz.ntmps159.symm (by decide) (fun x r h=>(ySY x).trans h)
def ykc (a0:dA):Bool:=ypL a0.2.1 a0.2.2.2.2.2.2.2.2.1
def yvK (a0:dA):Bool:=yf a0.2.1
theorem yxT (l:List Int):yO l=l.all isW:=by
  unfold yO
  rw [show yK=isW from funext fun x=>by unfold yK; rw [yiW]; rfl]
theorem yQ1 (a0:dA) (hk:zi9 ydo (a0,())) (hq:yvK a0=true):ylm a0=(fun n=>some ((n,()),())) (ykc a0):=by
  have hb:a0.2.2.2.2.2.2.2.2.1.length * 32≤2 ^ 47:=hk.1.2.2.2.2.2.2.2.2.1.1
  have hg:=yaF.1 hq
  have h1:yqs (yIG a0)=some (bif (List.range a0.2.2.2.2.2.2.2.2.1.length).any (ypK a0.2.1 a0.2.2.2.2.2.2.2.2.1) then .inr (yIL false) else .inl yIv) :=
    zf4 (step:=ybv) (fun i=>yoK i a0) a0.2.2.2.2.2.2.2.2.1.length (ypK a0.2.1 a0.2.2.2.2.2.2.2.2.1) _ _ (fun i hi=>by
      simp only [ybv,yoK,yo9,zjI (show (i:Int) < a0.2.2.2.2.2.2.2.2.1.length by omega),cond_true,wr (show -9223372036854775808≤(i:Int)+1 by omega) (by omega),Int.natCast_add,Int.natCast_one,Int.toNat_natCast,zkO hi,yiW,yxT,wr (show -9223372036854775808≤a0.2.1.2 - 1 by omega) (by omega),wr (show -9223372036854775808≤a0.2.1.1 - 1 by omega) (by omega),ypK]
      rcases Nat.eq_zero_or_pos i with rfl | h0
      · cases (leb 0 (nth a0.2.2.2.2.2.2.2.2.1 ((0:Nat):Int) (0,[])).1&&leb (nth a0.2.2.2.2.2.2.2.2.1 ((0:Nat):Int) (0,[])).1 (a0.2.1.2 - 1))<;>cases (((nth a0.2.2.2.2.2.2.2.2.1 ((0:Nat):Int) (0,[])).2.length:Int) !=a0.2.1.1 - 1)<;>cases ((nth a0.2.2.2.2.2.2.2.2.1 ((0:Nat):Int) (0,[])).2.all isW)<;>rfl
      · rw [show IntKind.i64.wrap ((i:Int) - 1)=((i - 1:Nat):Int) by rw [wr (by omega) (by omega)]; omega,zkO (show i - 1 < a0.2.2.2.2.2.2.2.2.1.length by omega),zjI (show (0:Int) < i by omega),decide_eq_true h0]
        cases (leb 0 (nth a0.2.2.2.2.2.2.2.2.1 (i:Int) (0,[])).1&&leb (nth a0.2.2.2.2.2.2.2.2.1 (i:Int) (0,[])).1 (a0.2.1.2 - 1))<;>cases (((nth a0.2.2.2.2.2.2.2.2.1 (i:Int) (0,[])).2.length:Int) !=a0.2.1.1 - 1)<;>cases ((nth a0.2.2.2.2.2.2.2.2.1 (i:Int) (0,[])).2.all isW)<;>cases leb (nth a0.2.2.2.2.2.2.2.2.1 (i:Int) (0,[])).1 (nth a0.2.2.2.2.2.2.2.2.1 ((i - 1:Nat):Int) (0,[])).1<;>rfl) (by simp only [ybv,yoK,yo9,zkm (Int.le_refl _),cond_false]) _ (by show _ < 18446744073709551616; omega)
  unfold ylm ykc ypL
  rw [h1]
  cases (List.range a0.2.2.2.2.2.2.2.2.1.length).any (ypK a0.2.1 a0.2.2.2.2.2.2.2.2.1)<;>rfl
def ypT (a0:dA):Option (ResD yjS×MutD ydo):=bif yvK a0 then (fun n=>some ((n,()),())) (ykc a0) else none
theorem yR0 (a0:dA) (h:yvK a0=true):ypT a0=(fun n=>some ((n,()),())) (ykc a0):=by unfold ypT; rw [h]; rfl
def yA0:Con:=⟨ydo,yjS,fun x=>ypT x.1⟩
theorem yRV:ConOk Tryz.prog 159 yA0:=(yOg).mono (fun x r hk h=>zkW h (fun hq=>yQ1 x.1 hk hq))
end
section
def yG5:Code:=(Tryz.f82.body).getD .skip
def yHr:Env:=zki TT [(98,yz),(141,ypI),(158,yDw),(159,yA0)] []
theorem yQo:FrOk Tryz.prog ⟨yHr,78,fun _=>none⟩ yG5:=zkp yb yc ⟨yP,yxK,yUA,yRV,trivial⟩
def ySx:Nat→Option Seg:=fun _=>none
abbrev yjI:List Par:= [.rd tA]
abbrev ytZ:List OT:= [⟨false,tB,.fz⟩]
def yp5 (a0:dA):Option (ResD ytZ×MutD yjI) :=
  let r1:=yf a0.2.1
  bif (!(!r1)) then
    let r2:=ya a0.1 1 60000
    bif (!(!r2)) then
      bnd (yr2 a0) fun r3 =>
      bif (!(!r3.1.1)) then
        bnd (ypT a0) fun r4 =>
        bif (!r4.1.1) then
          some ((false,()),())
        else
          let r5:=ya a0.2.2.2.1 (-1) (IntKind.i64.wrap (a0.2.1.1 - 1))
          bif (!(!r5)) then
            let r6:=ya a0.2.2.2.2.1 0 a0.2.1.2
            bif (!(!r6)) then
              bif (a0.2.2.2.1==(-1)) then
                bif (a0.2.2.2.2.1 !=0) then
                  some ((false,()),())
                else
                  let r7:=ya a0.2.2.2.2.2.2.1 0 60000
                  bif r7 then
                    let r8:=ya a0.2.2.2.2.2.1 a0.2.2.2.2.2.2.1 60000
                    bif r8 then
                      bif (leb a0.2.2.2.2.2.1 (IntKind.i64.wrap (a0.2.2.2.2.2.2.1+4))) then
                        let r9:=ya a0.2.2.2.2.2.2.2.1 0 60000
                        bif r9 then
                          let r10:=ya a0.2.2.2.2.2.2.2.2.2.1 (-1) 1000
                          some ((r10,()),())
                        else
                          some ((false,()),())
                      else
                        some ((false,()),())
                    else
                      some ((false,()),())
                  else
                    some ((false,()),())
              else
                let r11:=ya a0.2.2.2.2.2.2.1 0 60000
                bif r11 then
                  let r12:=ya a0.2.2.2.2.2.1 a0.2.2.2.2.2.2.1 60000
                  bif r12 then
                    bif (leb a0.2.2.2.2.2.1 (IntKind.i64.wrap (a0.2.2.2.2.2.2.1+4))) then
                      let r13:=ya a0.2.2.2.2.2.2.2.1 0 60000
                      bif r13 then
                        let r14:=ya a0.2.2.2.2.2.2.2.2.2.1 (-1) 1000
                        some ((r14,()),())
                      else
                        some ((false,()),())
                    else
                      some ((false,()),())
                  else
                    some ((false,()),())
                else
                  some ((false,()),())
            else
              some ((false,()),())
          else
            some ((false,()),())
      else
        some ((false,()),())
    else
      some ((false,()),())
  else
    some ((false,()),())
theorem yWX (x:InD yjI):zjH ⟨yHr,78,ySx⟩ Tryz.f82.results.toList yG5 yjI ytZ x=yp5 x.1:=by kernel_rfl
theorem yT6:ConOk Tryz.prog 82 ⟨yjI,ytZ,fun x=>yp5 x.1⟩:=zkh (yQo) Tryz.func82 (by kernel_rfl) (by kernel_rfl) Tryz.ntmps82.symm (by decide) (fun x r h=>(yWX x).trans h)
def yoN (a0:dA):Bool:=yci a0
theorem yVZ (a0:dA) (hk:zi9 yjI (a0,())):yp5 a0=(fun n=>some ((n,()),())) (yoN a0):=by
  unfold yp5 yoN yci
  simp only [yiW]
  cases hg:yf a0.2.1
  · rfl
  have hg2:=yaF.1 hg
  rw [yUF a0 hg,yR0 a0 hg,wr (show -9223372036854775808≤a0.2.1.1 - 1 by omega) (by omega)]
  simp only [zky,yl7,ykc,Bool.not_not,cond_true]
  cases (leb 1 a0.1&&leb a0.1 60000)
  · rfl
  cases yup a0
  · rfl
  cases ypL a0.2.1 a0.2.2.2.2.2.2.2.2.1
  · rfl
  cases (leb (-1) a0.2.2.2.1&&leb a0.2.2.2.1 (a0.2.1.1 - 1))
  · rfl
  cases (leb 0 a0.2.2.2.2.1&&leb a0.2.2.2.2.1 a0.2.1.2)
  · rfl
  have ht:(leb 0 a0.2.2.2.2.2.2.1&&leb a0.2.2.2.2.2.2.1 60000)=true→IntKind.i64.wrap (a0.2.2.2.2.2.2.1+4)=a0.2.2.2.2.2.2.1+4:=fun h=>by
    rw [Bool.and_eq_true,zjQ,zjQ]at h
    exact wr (by omega) (by omega)
  cases hT:(leb 0 a0.2.2.2.2.2.2.1&&leb a0.2.2.2.2.2.2.1 60000)
  · cases (a0.2.2.2.1== -1)<;>cases (a0.2.2.2.2.1 !=0)<;>rfl
  rw [ht hT]
  cases (leb a0.2.2.2.2.2.2.1 a0.2.2.2.2.2.1&&leb a0.2.2.2.2.2.1 60000)
  · cases (a0.2.2.2.1== -1)<;>cases (a0.2.2.2.2.1 !=0)<;>rfl
  cases leb a0.2.2.2.2.2.1 (a0.2.2.2.2.2.2.1+4)
  · cases (a0.2.2.2.1== -1)<;>cases (a0.2.2.2.2.1 !=0)<;>rfl
  cases (leb 0 a0.2.2.2.2.2.2.2.1&&leb a0.2.2.2.2.2.2.2.1 60000)<;>cases (a0.2.2.2.1== -1)<;>cases (a0.2.2.2.2.1 !=0)<;>rfl
def yEK:Con:=⟨yjI,ytZ,fun x=>(fun n=>some ((n,()),())) (yoN x.1)⟩
theorem yWt:ConOk Tryz.prog 82 yEK:=(yT6).mono (fun x r hk h=>(yVZ x.1 hk).trans h)
end
section
def yn2:Code:=(Tryz.f252.body).getD .skip
def yto:Env:=zki TT [] []
theorem yQy:FrOk Tryz.prog ⟨yto,18,fun _=>none⟩ yn2:=zkp yb yc trivial
def yEi:Nat→Option Seg:=fun _=>none
def ycv:Shape:=⟨[(0,false,[.br tI]),(1,false,[.int .i64]),(5,false,[.int .i64])],[],[]⟩
def yhz:Shape:=⟨[(0,false,[.br tI]),(1,false,[.int .i64]),(5,false,[.ci .i64 0])],[],[]⟩
def yhh:Shape:=⟨[],[],[]⟩
def yhW:Shape:=⟨[(4,false,[.bool])],[],[]⟩
abbrev ysy (v0:List Int) (v1:Int) (v2:Int):(ycv).X:=(((v0,()),(v1,()),(v2,()),()),(),())
abbrev yNq (v0:List Int) (v1:Int):(yhz).X:=(((v0,()),(v1,()),((),()),()),(),())
abbrev yNh  :(yhh).X:=((),(),())
abbrev yNA (v0:Bool):(yhW).X:=(((v0,()),()),(),())
def ysX (v0:List Int) (v1:Int) (v2:Int):Option ((ycv).X ⊕ ((yhh).X ⊕ (yhW).X)) :=
  bif (ltb v2 (v0.length:Int)) then
    bif (inb v2 v0.length) then
      bif ((nth v0 v2 0)==v1) then
        some (.inr (.inr (((true,()),()),(),())))
      else
        some (.inl (((v0,()),(v1,()),((IntKind.i64.wrap (v2+1)),()),()),(),()))
    else none
  else
    some (.inr (.inl ((),(),())))
def yc3 (x:(ycv).X):=ysX x.1.1.1 x.1.2.1.1 x.1.2.2.1.1
def yBd (x:(yhz).X):(ycv).X:=(((x.1.1.1,()),(x.1.2.1.1,()),(0,()),()),(),())
def yC7:Code:=(zdI yn2 64 52).getD .skip
theorem yPq:zdI yn2 64 13=some (.block 0 (.loop yC7)):=by kernel_rfl
theorem ySc (x:(ycv).X):zg7 ⟨yto,18,yEi⟩ 0 yC7 52 ycv yhh yhW x=yc3 x:=by kernel_rfl
def yBu (x:(yhz).X):Nat:=(fun (u0:List Int) (u1:Int)=>18446744073709551616) x.1.1.1 x.1.2.1.1
def ytB (x:(yhz).X):Option ((yhh).X ⊕ (yhW).X):=zr yc3 (yBu x) (yBd x)
def yBX:Seg:=⟨yhz,yhh,yhW,ytB⟩
def yEj:Nat→Option Seg:=fun q=>bif Nat.beq q 13 then some yBX else yEi q
theorem yQz:FrOk Tryz.prog ⟨yto,18,yEj⟩ yn2:=(yQy).loop (sg:=yBX) ycv yBd (by decide) yPq yc3 yBu (by decide) (fun _=>rfl) (fun x r _ h=>h) ySc
abbrev yjM:List Par:= [.rd tL,.rd tI]
abbrev yt5:List OT:= [⟨false,tB,.fz⟩]
def yp8 (a0:List Int) (a1:Int):Option (ResD yt5×MutD yjM) :=
  zjw (ytB (((a0,()),(a1,()),((),()),()),(),())) (fun y0 =>
    some ((false,()),())) (fun y0 =>
    some ((y0.1.1.1,()),()))
theorem yW3 (x:InD yjM):zjH ⟨yto,18,yEj⟩ Tryz.f252.results.toList yn2 yjM yt5 x=yp8 x.1 x.2.1:=by kernel_rfl
theorem yUc:ConOk Tryz.prog 252 ⟨yjM,yt5,fun x=>yp8 x.1 x.2.1⟩:=zkh (yQz) Tryz.func252 (by kernel_rfl) (by kernel_rfl) Tryz.ntmps252.symm (by decide) (fun x r h=>(yW3 x).trans h)
def yoO (a0:List Int) (a1:Int):Bool:=a0.any (· ==a1)
theorem yV5 (a0:List Int) (a1:Int) (hk:zi9 yjM (a0,a1,())):yp8 a0 a1=(fun n=>some ((n,()),())) (yoO a0 a1):=by
  have hb:a0.length * 8≤2 ^ 47:=hk.1.1
  have h1:ytB (yNq a0 a1)=some (bif a0.all (· !=a1) then .inl yNh else .inr (yNA true)) :=
    zjS (step:=yc3) a0 0 (fun i=>ysy a0 a1 i) (· !=a1) _ _ (fun i hi=>by
      simp only [yc3,ysy,ysX,zjI (show (i:Int) < a0.length by omega),cond_true,wr (show -9223372036854775808≤(i:Int)+1 by omega) (by omega),Int.natCast_add,Int.natCast_one,Int.toNat_natCast,zkO hi,zjW,bne]
      cases (a0.getD i 0==a1)<;>rfl) (by simp only [yc3,ysy,ysX,zkm (Int.le_refl _),cond_false]) _ (by show _ < 18446744073709551616; omega)
  unfold yp8 yoO
  rw [h1,show a0.any (· ==a1)= !(a0.all (· !=a1)) by simp [List.all_eq_not_any_not,bne]]
  cases a0.all (· !=a1)<;>rfl
def yEM:Con:=⟨yjM,yt5,fun x=>(fun n=>some ((n,()),())) (yoO x.1 x.2.1)⟩
theorem yWv:ConOk Tryz.prog 252 yEM:=(yUc).mono (fun x r hk h=>(yV5 x.1 x.2.1 hk).trans h)
end
end
end Go.Tf
