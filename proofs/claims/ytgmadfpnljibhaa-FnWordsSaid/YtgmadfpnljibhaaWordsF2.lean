/- Functions of the program, and what they come to. -/
import Derived.Test.YtgmadfpnljibhaaWordsF1
namespace Go.Tf
noncomputable section
open Go.Proofs
set_option synthInstance.maxHeartbeats 400000
set_option synthInstance.maxSize 10000
set_option linter.unusedVariables false
set_option linter.unusedSimpArgs false
set_option maxRecDepth 100000
section
def ygG:Code:=(Try.f100.body).getD .skip
def ykH:Env:=zki TT [(60,yp),(136,yeF)] []
theorem yA5:FrOk Try.prog ⟨ykH,57,fun _=>none⟩ ygG:=zkp yc yd ⟨yx,yjz,trivial⟩
def ysq:Nat→Option Seg:=fun _=>none
def yaH:Shape:=⟨[(1,false,[.ptr 0 0]),(3,false,[.int .i64])],[(0,[.int .i64,.int .i64,.int .i64,.br tM,.int .i64,.int .i64,.int .i64,.int .i64,.int .i64,.br tW,.int .i64,.bool,.bool])],[]⟩
def ydB:Shape:=⟨[(1,false,[.ptr 0 0]),(3,false,[.ci .i64 0])],[(0,[.int .i64,.int .i64,.int .i64,.br tM,.int .i64,.int .i64,.int .i64,.int .i64,.int .i64,.br tW,.int .i64,.bool,.bool])],[]⟩
def ydu:Shape:=⟨[],[],[]⟩
def ydE:Shape:=⟨[(2,false,[.bool])],[],[]⟩
abbrev ykk (v0:Int) (v1:dA):(yaH).X:=((((),()),(v0,()),()),((v1.1,v1.2.1.1,v1.2.1.2,v1.2.2.1,v1.2.2.2.1,v1.2.2.2.2.1,v1.2.2.2.2.2.1,v1.2.2.2.2.2.2.1,v1.2.2.2.2.2.2.2.1,v1.2.2.2.2.2.2.2.2.1,v1.2.2.2.2.2.2.2.2.2.1,v1.2.2.2.2.2.2.2.2.2.2.1,v1.2.2.2.2.2.2.2.2.2.2.2,()),()),())
abbrev yzU (v0:dA):(ydB).X:=((((),()),((),()),()),((v0.1,v0.2.1.1,v0.2.1.2,v0.2.2.1,v0.2.2.2.1,v0.2.2.2.2.1,v0.2.2.2.2.2.1,v0.2.2.2.2.2.2.1,v0.2.2.2.2.2.2.2.1,v0.2.2.2.2.2.2.2.2.1,v0.2.2.2.2.2.2.2.2.2.1,v0.2.2.2.2.2.2.2.2.2.2.1,v0.2.2.2.2.2.2.2.2.2.2.2,()),()),())
abbrev yzN  :(ydu).X:=((),(),())
abbrev yzX (v0:Bool):(ydE).X:=(((v0,()),()),(),())
def ykz (v0:Int) (v1:Int) (v2:Int) (v3:Int) (v4:List dM) (v5:Int) (v6:Int) (v7:Int) (v8:Int) (v9:Int) (v10:List dW) (v11:Int) (v12:Bool) (v13:Bool):Option ((yaH).X ⊕ ((ydu).X ⊕ (ydE).X)) :=
  bif (ltb v0 (v10.length:Int)) then
    bif (inb v0 v10.length) then
      let r3:=ya ((nth v10 v0 (0,[])).1) 0 (IntKind.i64.wrap (v3 - 1))
      bif (!(!r3)) then
        bif (!((((nth v10 v0 (0,[])).2).length:Int) !=(IntKind.i64.wrap (v2 - 1)))) then
          let r4:=yC ((nth v10 v0 (0,[])).2)
          bif (!(!r4)) then
            bif (ltb 0 v0) then
              bif (inb (IntKind.i64.wrap (v0 - 1)) v10.length) then
                bif (leb ((nth v10 v0 (0,[])).1) ((nth v10 (IntKind.i64.wrap (v0 - 1)) (0,[])).1)) then
                  some (.inr (.inr (((false,()),()),(),())))
                else
                  some (.inl ((((),()),((IntKind.i64.wrap (v0+1)),()),()),((v1,v2,v3,v4,v5,v6,v7,v8,v9,v10,v11,v12,v13,()),()),()))
              else none
            else
              some (.inl ((((),()),((IntKind.i64.wrap (v0+1)),()),()),((v1,v2,v3,v4,v5,v6,v7,v8,v9,v10,v11,v12,v13,()),()),()))
          else
            some (.inr (.inr (((false,()),()),(),())))
        else
          some (.inr (.inr (((false,()),()),(),())))
      else
        some (.inr (.inr (((false,()),()),(),())))
    else none
  else
    some (.inr (.inl ((),(),())))
def yaS (x:(yaH).X):=ykz x.1.2.1.1 x.2.1.1.1 x.2.1.1.2.1 x.2.1.1.2.2.1 x.2.1.1.2.2.2.1 x.2.1.1.2.2.2.2.1 x.2.1.1.2.2.2.2.2.1 x.2.1.1.2.2.2.2.2.2.1 x.2.1.1.2.2.2.2.2.2.2.1 x.2.1.1.2.2.2.2.2.2.2.2.1 x.2.1.1.2.2.2.2.2.2.2.2.2.1 x.2.1.1.2.2.2.2.2.2.2.2.2.2.1 x.2.1.1.2.2.2.2.2.2.2.2.2.2.2.1 x.2.1.1.2.2.2.2.2.2.2.2.2.2.2.2.1
def yqo (x:(ydB).X):(yaH).X:=((((),()),(0,()),()),((x.2.1.1.1,x.2.1.1.2.1,x.2.1.1.2.2.1,x.2.1.1.2.2.2.1,x.2.1.1.2.2.2.2.1,x.2.1.1.2.2.2.2.2.1,x.2.1.1.2.2.2.2.2.2.1,x.2.1.1.2.2.2.2.2.2.2.1,x.2.1.1.2.2.2.2.2.2.2.2.1,x.2.1.1.2.2.2.2.2.2.2.2.2.1,x.2.1.1.2.2.2.2.2.2.2.2.2.2.1,x.2.1.1.2.2.2.2.2.2.2.2.2.2.2.1,x.2.1.1.2.2.2.2.2.2.2.2.2.2.2.2.1,()),()),())
def yri:Code:=(zdI ygG 64 52).getD .skip
theorem yAG:zdI ygG 64 13=some (.block 0 (.loop yri)):=by kernel_rfl
theorem yBQ (x:(yaH).X):zg7 ⟨ykH,57,ysq⟩ 0 yri 52 yaH ydu ydE x=yaS x:=by kernel_rfl
def yqA (x:(ydB).X):Nat:=(fun (u0:Int) (u1:Int) (u2:Int) (u3:List dM) (u4:Int) (u5:Int) (u6:Int) (u7:Int) (u8:Int) (u9:List dW) (u10:Int) (u11:Bool) (u12:Bool)=>18446744073709551616) x.2.1.1.1 x.2.1.1.2.1 x.2.1.1.2.2.1 x.2.1.1.2.2.2.1 x.2.1.1.2.2.2.2.1 x.2.1.1.2.2.2.2.2.1 x.2.1.1.2.2.2.2.2.2.1 x.2.1.1.2.2.2.2.2.2.2.1 x.2.1.1.2.2.2.2.2.2.2.2.1 x.2.1.1.2.2.2.2.2.2.2.2.2.1 x.2.1.1.2.2.2.2.2.2.2.2.2.2.1 x.2.1.1.2.2.2.2.2.2.2.2.2.2.2.1 x.2.1.1.2.2.2.2.2.2.2.2.2.2.2.2.1
def ylt (x:(ydB).X):Option ((ydu).X ⊕ (ydE).X):=zr yaS (yqA x) (yqo x)
def yqO:Seg:=⟨ydB,ydu,ydE,ylt⟩
def ysr:Nat→Option Seg:=fun q=>bif Nat.beq q 13 then some yqO else ysq q
theorem yA6:FrOk Try.prog ⟨ykH,57,ysr⟩ ygG:=(yA5).loop (sg:=yqO) yaH yqo (by decide) yAG yaS yqA (by decide) (fun _=>rfl) (fun x r _ h=>h) yBQ
abbrev ycz:List Par:= [.rd tA]
abbrev yg7:List OT:= [⟨false,tB,.fz⟩]
def yh4 (a0:dA):Option (ResD yg7×MutD ycz) :=
  zjw (ylt ((((),()),((),()),()),((a0.1,a0.2.1.1,a0.2.1.2,a0.2.2.1,a0.2.2.2.1,a0.2.2.2.2.1,a0.2.2.2.2.2.1,a0.2.2.2.2.2.2.1,a0.2.2.2.2.2.2.2.1,a0.2.2.2.2.2.2.2.2.1,a0.2.2.2.2.2.2.2.2.2.1,a0.2.2.2.2.2.2.2.2.2.2.1,a0.2.2.2.2.2.2.2.2.2.2.2,()),()),())) (fun y4 =>
    some ((true,()),())) (fun y4 =>
    some ((y4.1.1.1,()),()))
theorem yIm (x:InD ycz):zjH ⟨ykH,57,ysr⟩ Try.f100.results.toList ygG ycz yg7 x=yh4 x.1:=by kernel_rfl
theorem yEd:ConOk Try.prog 100 ⟨ycz,yg7,fun x=>yh4 x.1⟩:=zkh (yA6) Try.func100 (by kernel_rfl) (by kernel_rfl) Try.ntmps100.symm (by decide) (fun x r h=>(yIm x).trans h)
def yhp (a0:dA):Bool:=yab a0.2.1 a0.2.2.2.2.2.2.2.2.1
def ypR (a0:dA):Bool:=yb a0.2.1
theorem yq1 (l:List Int):yC l=l.all isW:=by
  unfold yC
  rw [show yN=isW from funext fun x=>by unfold yN; rw [ybB]; rfl]
theorem yGC (a0:dA) (hk:zi9 ycz (a0,())) (hq:ypR a0=true):yh4 a0=(fun n=>some ((n,()),())) (yhp a0):=by
  have hb:a0.2.2.2.2.2.2.2.2.1.length * 32≤2 ^ 47:=hk.1.2.2.2.2.2.2.2.2.1.1
  have hg:=yk.1 hq
  have h1:ylt (yzU a0)=some (bif (List.range a0.2.2.2.2.2.2.2.2.1.length).any (ye5 a0.2.1 a0.2.2.2.2.2.2.2.2.1) then .inr (yzX false) else .inl yzN) :=
    zf4 (step:=yaS) (fun i=>ykk i a0) a0.2.2.2.2.2.2.2.2.1.length (ye5 a0.2.1 a0.2.2.2.2.2.2.2.2.1) _ _ (fun i hi=>by
      simp only [yaS,ykk,ykz,zjI (show (i:Int) < a0.2.2.2.2.2.2.2.2.1.length by omega),cond_true,wr (show -9223372036854775808≤(i:Int)+1 by omega) (by omega),Int.natCast_add,Int.natCast_one,Int.toNat_natCast,zkO hi,ybB,yq1,wr (show -9223372036854775808≤a0.2.1.2 - 1 by omega) (by omega),wr (show -9223372036854775808≤a0.2.1.1 - 1 by omega) (by omega),ye5]
      rcases Nat.eq_zero_or_pos i with rfl | h0
      · cases (leb 0 (nth a0.2.2.2.2.2.2.2.2.1 ((0:Nat):Int) (0,[])).1&&leb (nth a0.2.2.2.2.2.2.2.2.1 ((0:Nat):Int) (0,[])).1 (a0.2.1.2 - 1))<;>cases (((nth a0.2.2.2.2.2.2.2.2.1 ((0:Nat):Int) (0,[])).2.length:Int) !=a0.2.1.1 - 1)<;>cases ((nth a0.2.2.2.2.2.2.2.2.1 ((0:Nat):Int) (0,[])).2.all isW)<;>rfl
      · rw [show IntKind.i64.wrap ((i:Int) - 1)=((i - 1:Nat):Int) by rw [wr (by omega) (by omega)]; omega,zkO (show i - 1 < a0.2.2.2.2.2.2.2.2.1.length by omega),zjI (show (0:Int) < i by omega),decide_eq_true h0]
        cases (leb 0 (nth a0.2.2.2.2.2.2.2.2.1 (i:Int) (0,[])).1&&leb (nth a0.2.2.2.2.2.2.2.2.1 (i:Int) (0,[])).1 (a0.2.1.2 - 1))<;>cases (((nth a0.2.2.2.2.2.2.2.2.1 (i:Int) (0,[])).2.length:Int) !=a0.2.1.1 - 1)<;>cases ((nth a0.2.2.2.2.2.2.2.2.1 (i:Int) (0,[])).2.all isW)<;>cases leb (nth a0.2.2.2.2.2.2.2.2.1 (i:Int) (0,[])).1 (nth a0.2.2.2.2.2.2.2.2.1 ((i - 1:Nat):Int) (0,[])).1<;>rfl) (by simp only [yaS,ykk,ykz,zkm (Int.le_refl _),cond_false]) _ (by show _ < 18446744073709551616; omega)
  unfold yh4 yhp yab
  rw [h1]
  cases (List.range a0.2.2.2.2.2.2.2.2.1.length).any (ye5 a0.2.1 a0.2.2.2.2.2.2.2.2.1)<;>rfl
def yk4 (a0:dA):Option (ResD yg7×MutD ycz):=bif ypR a0 then (fun n=>some ((n,()),())) (yhp a0) else none
theorem yHw (a0:dA) (h:ypR a0=true):yk4 a0=(fun n=>some ((n,()),())) (yhp a0):=by unfold yk4; rw [h]; rfl
def ysV:Con:=⟨ycz,yg7,fun x=>yk4 x.1⟩
theorem yHr:ConOk Try.prog 100 ysV:=(yEd).mono (fun x r hk h=>zkW h (fun hq=>yGC x.1 hk hq))
end
section
def yyZ:Code:=(Try.f59.body).getD .skip
def yza:Env:=zki TT [(60,yp),(91,ydY),(99,yvh),(100,ysV)] []
theorem yFN:FrOk Try.prog ⟨yza,78,fun _=>none⟩ yyZ:=zkp yc yd ⟨yx,yiS,yJF,yHr,trivial⟩
def yHU:Nat→Option Seg:=fun _=>none
abbrev ygP:List Par:= [.rd tA]
abbrev yov:List OT:= [⟨false,tB,.fz⟩]
def ylb (a0:dA):Option (ResD yov×MutD ygP) :=
  let r1:=yb a0.2.1
  bif (!(!r1)) then
    let r2:=ya a0.1 1 60000
    bif (!(!r2)) then
      bnd (ymQ a0) fun r3 =>
      bif (!(!r3.1.1)) then
        bnd (yk4 a0) fun r4 =>
        bif (!r4.1.1) then
          some ((false,()),())
        else
          let r5:=ya a0.2.2.2.1 (-1) (IntKind.i64.wrap (a0.2.1.1 - 1))
          bif (!(!r5)) then
            let r6:=ya a0.2.2.2.2.1 0 a0.2.1.2
            bif (!(!r6)) then
              bif (a0.2.2.2.1==(-1)) then
                bif (a0.2.2.2.2.1 !=0) then
                  some ((false,()),())
                else
                  let r7:=ya a0.2.2.2.2.2.2.1 0 60000
                  bif r7 then
                    let r8:=ya a0.2.2.2.2.2.1 a0.2.2.2.2.2.2.1 60000
                    bif r8 then
                      bif (leb a0.2.2.2.2.2.1 (IntKind.i64.wrap (a0.2.2.2.2.2.2.1+4))) then
                        let r9:=ya a0.2.2.2.2.2.2.2.1 0 60000
                        bif r9 then
                          let r10:=ya a0.2.2.2.2.2.2.2.2.2.1 (-1) 1000
                          some ((r10,()),())
                        else
                          some ((false,()),())
                      else
                        some ((false,()),())
                    else
                      some ((false,()),())
                  else
                    some ((false,()),())
              else
                let r11:=ya a0.2.2.2.2.2.2.1 0 60000
                bif r11 then
                  let r12:=ya a0.2.2.2.2.2.1 a0.2.2.2.2.2.2.1 60000
                  bif r12 then
                    bif (leb a0.2.2.2.2.2.1 (IntKind.i64.wrap (a0.2.2.2.2.2.2.1+4))) then
                      let r13:=ya a0.2.2.2.2.2.2.2.1 0 60000
                      bif r13 then
                        let r14:=ya a0.2.2.2.2.2.2.2.2.2.1 (-1) 1000
                        some ((r14,()),())
                      else
                        some ((false,()),())
                    else
                      some ((false,()),())
                  else
                    some ((false,()),())
                else
                  some ((false,()),())
            else
              some ((false,()),())
          else
            some ((false,()),())
      else
        some ((false,()),())
    else
      some ((false,()),())
  else
    some ((false,()),())
theorem yLT (x:InD ygP):zjH ⟨yza,78,yHU⟩ Try.f59.results.toList yyZ ygP yov x=ylb x.1:=by kernel_rfl
theorem yI8:ConOk Try.prog 59 ⟨ygP,yov,fun x=>ylb x.1⟩:=zkh (yFN) Try.func59 (by kernel_rfl) (by kernel_rfl) Try.ntmps59.symm (by decide) (fun x r h=>(yLT x).trans h)
def yhk (a0:dA):Bool:=yu a0
theorem yK7 (a0:dA) (hk:zi9 ygP (a0,())):ylb a0=(fun n=>some ((n,()),())) (yhk a0):=by
  unfold ylb yhk yu
  simp only [ybB]
  cases hg:yb a0.2.1
  · rfl
  have hg2:=yk.1 hg
  rw [yJL a0 hg,yHw a0 hg,wr (show -9223372036854775808≤a0.2.1.1 - 1 by omega) (by omega)]
  simp only [zky,yiP,yhp,Bool.not_not,cond_true]
  cases (leb 1 a0.1&&leb a0.1 60000)
  · rfl
  cases yiH a0
  · rfl
  cases yab a0.2.1 a0.2.2.2.2.2.2.2.2.1
  · rfl
  cases (leb (-1) a0.2.2.2.1&&leb a0.2.2.2.1 (a0.2.1.1 - 1))
  · rfl
  cases (leb 0 a0.2.2.2.2.1&&leb a0.2.2.2.2.1 a0.2.1.2)
  · rfl
  have ht:(leb 0 a0.2.2.2.2.2.2.1&&leb a0.2.2.2.2.2.2.1 60000)=true→IntKind.i64.wrap (a0.2.2.2.2.2.2.1+4)=a0.2.2.2.2.2.2.1+4:=fun h=>by
    rw [Bool.and_eq_true,zjQ,zjQ]at h
    exact wr (by omega) (by omega)
  cases hT:(leb 0 a0.2.2.2.2.2.2.1&&leb a0.2.2.2.2.2.2.1 60000)
  · cases (a0.2.2.2.1== -1)<;>cases (a0.2.2.2.2.1 !=0)<;>rfl
  rw [ht hT]
  cases (leb a0.2.2.2.2.2.2.1 a0.2.2.2.2.2.1&&leb a0.2.2.2.2.2.1 60000)
  · cases (a0.2.2.2.1== -1)<;>cases (a0.2.2.2.2.1 !=0)<;>rfl
  cases leb a0.2.2.2.2.2.1 (a0.2.2.2.2.2.2.1+4)
  · cases (a0.2.2.2.1== -1)<;>cases (a0.2.2.2.2.1 !=0)<;>rfl
  cases (leb 0 a0.2.2.2.2.2.2.2.1&&leb a0.2.2.2.2.2.2.2.1 60000)<;>cases (a0.2.2.2.1== -1)<;>cases (a0.2.2.2.2.1 !=0)<;>rfl
def ywG:Con:=⟨ygP,yov,fun x=>(fun n=>some ((n,()),())) (yhk x.1)⟩
theorem yLo:ConOk Try.prog 59 ywG:=(yI8).mono (fun x r hk h=>(yK7 x.1 hk).trans h)
end
section
def yxS:Code:=(Try.f62.body).getD .skip
def yyi:Env:=zki TT [(60,yp)] []
theorem yCN:FrOk Try.prog ⟨yyi,9,fun _=>none⟩ yxS:=zkp yc yd ⟨yx,trivial⟩
def yEQ:Nat→Option Seg:=fun _=>none
abbrev yis:List Par:= [.rd tI]
abbrev ymt:List OT:= [⟨false,tI,.fz⟩]
def ypb (a0:Int):Option (ResD ymt×MutD yis) :=
  let r1:=ya a0 0 1099511627776
  bif (!r1) then
    some (((-1),()),())
  else
    some (((IntKind.i64.wrap ((IntKind.i64.wrap (a0+2))+4)),()),())
theorem yKE (x:InD yis):zjH ⟨yyi,9,yEQ⟩ Try.f62.results.toList yxS yis ymt x=ypb x.1:=by kernel_rfl
theorem yGU:ConOk Try.prog 62 ⟨yis,ymt,fun x=>ypb x.1⟩:=zkh (yCN) Try.func62 (by kernel_rfl) (by kernel_rfl) Try.ntmps62.symm (by decide) (fun x r h=>(yKE x).trans h)
def yax (a0:Int):Int :=
  let r1:=ya a0 0 1099511627776
  bif (!r1) then
    (-1)
  else
    (IntKind.i64.wrap ((IntKind.i64.wrap (a0+2))+4))
def ydd:Con:=⟨yis,ymt,fun x=>(fun n=>some ((n,()),())) (yax x.1)⟩
theorem yIL (a0:Int):ypb a0=(fun n=>some ((n,()),())) (yax a0):=zkS (p:=fun (n:Int)=>((n,()),())) (zkx (p:=fun (n:Int)=>((n,()),())) rfl rfl)
theorem yhx:ConOk Try.prog 62 ydd:=(yGU).mono (fun x r _ h=>(yIL x.1).trans h)
theorem yd8 (s:Int):yax s=dataAt s:=by
  unfold yax dataAt
  rw [ybB]
  by_cases h:0≤s∧s≤1099511627776
  · rw [zk0 h.1,zk0 h.2,wr (show -9223372036854775808≤s+2 by omega) (by omega),wr (by omega) (by omega)]
    show s+2+4=s+6
    omega
  · cases h1:(leb 0 s&&leb s 1099511627776)
    · rfl
    · rw [Bool.and_eq_true,zjQ,zjQ]at h1; exact absurd h1 h
end
section
def yvW:Code:=(Try.f146.body).getD .skip
def ywt:Env:=zki TT [(60,yp),(91,ydY)] []
theorem yAZ:FrOk Try.prog ⟨ywt,60,fun _=>none⟩ yvW:=zkp yc yd ⟨yx,yiS,trivial⟩
def yB9:Nat→Option Seg:=fun _=>none
abbrev ygT:List Par:= [.rd tS]
abbrev ykR:List OT:= [⟨false,tB,.fz⟩]
def ynr (a0:dS):Option (ResD ykR×MutD ygT) :=
  let r1:=yb (a0.2.2.2.1,a0.2.2.2.2.1)
  bif (!(!r1)) then
    let r2:=ya a0.1 1 60000
    bif (!(!r2)) then
      let r3:=ya a0.2.1 0 60000
      bif (!(!r3)) then
        let r4:=ya a0.2.2.1 0 (IntKind.i64.wrap (a0.2.2.2.1 - 1))
        bif (!(!r4)) then
          let r5:=ya a0.2.2.2.2.2.1 0 60000
          bif (!r5) then
            some ((false,()),())
          else
            let r6:=ya a0.2.2.2.2.2.2.1 (-1) (IntKind.i64.wrap (a0.2.2.2.1 - 1))
            bif r6 then
              let r7:=ya a0.2.2.2.2.2.2.2 0 a0.2.2.2.2.1
              bif r7 then
                bif (!(leb 0 a0.2.2.2.2.2.2.1)) then
                  some (((a0.2.2.2.2.2.2.2==0),()),())
                else
                  some ((true,()),())
              else
                some ((false,()),())
            else
              some ((false,()),())
        else
          some ((false,()),())
      else
        some ((false,()),())
    else
      some ((false,()),())
  else
    some ((false,()),())
theorem yIh (x:InD ygT):zjH ⟨ywt,60,yB9⟩ Try.f146.results.toList yvW ygT ykR x=ynr x.1:=by kernel_rfl
theorem yD8:ConOk Try.prog 146 ⟨ygT,ykR,fun x=>ynr x.1⟩:=zkh (yAZ) Try.func146 (by kernel_rfl) (by kernel_rfl) Try.ntmps146.symm (by decide) (fun x r h=>(yIh x).trans h)
def yd2 (a0:dS):Bool :=
  let r1:=yb (a0.2.2.2.1,a0.2.2.2.2.1)
  bif (!(!r1)) then
    let r2:=ya a0.1 1 60000
    bif (!(!r2)) then
      let r3:=ya a0.2.1 0 60000
      bif (!(!r3)) then
        let r4:=ya a0.2.2.1 0 (IntKind.i64.wrap (a0.2.2.2.1 - 1))
        bif (!(!r4)) then
          let r5:=ya a0.2.2.2.2.2.1 0 60000
          bif (!r5) then
            false
          else
            let r6:=ya a0.2.2.2.2.2.2.1 (-1) (IntKind.i64.wrap (a0.2.2.2.1 - 1))
            bif r6 then
              let r7:=ya a0.2.2.2.2.2.2.2 0 a0.2.2.2.2.1
              bif r7 then
                bif (!(leb 0 a0.2.2.2.2.2.2.1)) then
                  (a0.2.2.2.2.2.2.2==0)
                else
                  true
              else
                false
            else
              false
        else
          false
      else
        false
    else
      false
  else
    false
def ysS:Con:=⟨ygT,ykR,fun x=>(fun n=>some ((n,()),())) (yd2 x.1)⟩
theorem yGy (a0:dS):ynr a0=(fun n=>some ((n,()),())) (yd2 a0):=zkS (p:=fun (n:Bool)=>((n,()),())) (zkx (p:=fun (n:Bool)=>((n,()),())) (zkx (p:=fun (n:Bool)=>((n,()),())) (zkx (p:=fun (n:Bool)=>((n,()),())) (zkx (p:=fun (n:Bool)=>((n,()),())) (zkx (p:=fun (n:Bool)=>((n,()),())) rfl (zkx (p:=fun (n:Bool)=>((n,()),())) (zkx (p:=fun (n:Bool)=>((n,()),())) (zkx (p:=fun (n:Bool)=>((n,()),())) rfl rfl) rfl) rfl)) rfl) rfl) rfl) rfl)
theorem yHo:ConOk Try.prog 146 ysS:=(yD8).mono (fun x r _ h=>(yGy x.1).trans h)
end
section
def yt6:Code:=(Try.f119.body).getD .skip
def yuB:Env:=zki TT [(146,ysS)] []
theorem yzy:FrOk Try.prog ⟨yuB,25,fun _=>none⟩ yt6:=zkp yc yd ⟨yHo,trivial⟩
def yAt:Nat→Option Seg:=fun _=>none
abbrev yfd:List Par:= [.rd tS]
abbrev yjf:List OT:= [⟨false,tL,(.ow .fz)⟩]
def ylJ (a0:dS):Option (ResD yjf×MutD yfd) :=
  let r1:=yd2 a0
  bif (!r1) then
    some ((([]:List Int),()),())
  else
    some ((([21317,a0.1,a0.2.1,a0.2.2.1,a0.2.2.2.1,a0.2.2.2.2.1,a0.2.2.2.2.2.1,(IntKind.i64.wrap (a0.2.2.2.2.2.2.1+1)),a0.2.2.2.2.2.2.2]:List Int),()),())
theorem yFs (x:InD yfd):zjH ⟨yuB,25,yAt⟩ Try.f119.results.toList yt6 yfd yjf x=ylJ x.1:=by kernel_rfl
theorem yBB:ConOk Try.prog 119 ⟨yfd,yjf,fun x=>ylJ x.1⟩:=zkh (yzy) Try.func119 (by kernel_rfl) (by kernel_rfl) Try.ntmps119.symm (by decide) (fun x r h=>(yFs x).trans h)
def yA (a0:dS):(List Int) :=
  let r1:=yd2 a0
  bif (!r1) then
    ([]:List Int)
  else
    ([21317,a0.1,a0.2.1,a0.2.2.1,a0.2.2.2.1,a0.2.2.2.2.1,a0.2.2.2.2.2.1,(IntKind.i64.wrap (a0.2.2.2.2.2.2.1+1)),a0.2.2.2.2.2.2.2]:List Int)
def ylx:Con:=⟨yfd,yjf,fun x=>(fun n=>some ((n,()),())) (yA x.1)⟩
theorem yDS (a0:dS):ylJ a0=(fun n=>some ((n,()),())) (yA a0):=zkS (p:=fun (n:(List Int))=>((n,()),())) (zkx (p:=fun (n:(List Int))=>((n,()),())) rfl rfl)
theorem ytB:ConOk Try.prog 119 ylx:=(yBB).mono (fun x r _ h=>(yDS x.1).trans h)
abbrev downA (a:dA):Bool:=a.2.2.2.2.2.2.2.2.2.2.1
def yOC (a:dA) (f:Int) (d:Bool):dA:=(a.1,a.2.1,a.2.2.1,a.2.2.2.1,a.2.2.2.2.1,a.2.2.2.2.2.1,a.2.2.2.2.2.2.1,a.2.2.2.2.2.2.2.1,a.2.2.2.2.2.2.2.2.1,f,d,a.2.2.2.2.2.2.2.2.2.2.2)
def yK (a:dA):Bool×dA:=bif downA a then (false,a) else bif a.2.2.2.2.2.2.2.2.2.1==0 then (false,yOC a (-1) true) else bif ltb 0 a.2.2.2.2.2.2.2.2.2.1 then (true,yOC a (IntKind.i64.wrap (a.2.2.2.2.2.2.2.2.2.1 - 1)) (downA a)) else (true,a)
def setMem (a:dA) (m:Int) (x:dM):dA:=(a.1,a.2.1,a.2.2.1.set m.toNat x,a.2.2.2)
def ycm (a:dA) (m n:Int) (s:List Int):dA:=bif (nth a.2.2.1 m noMem).2.2.1 then a else bif (yK a).1 then setMem (yK a).2 m (yB (nth a.2.2.1 m noMem) n s).1 else (yK a).2
def yJ (a:dA) (i:Nat):dA:=bif (nth a.2.2.1 i noMem).2.2.1 then a else bif (yK a).1 then setMem (yK a).2 i (yq (nth a.2.2.1 i noMem)) else (yK a).2
def yy (a:dA):dA:=(List.range a.2.2.1.length).foldl yJ a
def yAp (a:dA) (i:Int):dS:=(a.1,a.2.2.2.2.2.2.2.1,i,a.2.1.1,a.2.1.2,a.2.2.2.2.2.2.1,a.2.2.2.1,a.2.2.2.2.1)
def ybn (a:dA) (i:Nat):dA:=ycm a i (a.2.2.2.2.2.2.2.1.tmod 2) (yA (yAp a i))
def yaz (a:dA):dA:=(a.1,a.2.1,a.2.2.1,a.2.2.2.1,a.2.2.2.2.1,a.2.2.2.2.2.1,a.2.2.2.2.2.2.1,IntKind.i64.wrap (a.2.2.2.2.2.2.2.1+1),a.2.2.2.2.2.2.2.2)
def markA (a:dA):dA:=yy ((List.range a.2.2.1.length).foldl ybn (yaz a))
theorem yT (a:dA):(yK a).2.2.2.1=a.2.2.1:=by
  unfold yK
  cases downA a
  · cases (a.2.2.2.2.2.2.2.2.2.1==0)
    · cases ltb 0 a.2.2.2.2.2.2.2.2.2.1<;>rfl
    · rfl
  · rfl
theorem yM7 {a:dA} (h:downA a=false):downA (yK a).2= !(yK a).1:=by
  unfold yK
  rw [h]
  cases (a.2.2.2.2.2.2.2.2.2.1==0)
  · cases ltb 0 a.2.2.2.2.2.2.2.2.2.1
    · exact h
    · rfl
  · rfl
theorem yM9 {a:dA} (h:downA a=true):yK a=(false,a):=by unfold yK; rw [h]; rfl
theorem yiY (a:dA) (m n:Int) (s:List Int):(ycm a m n s).2.2.1.length=a.2.2.1.length:=by
  unfold ycm
  cases (nth a.2.2.1 m noMem).2.2.1
  · cases (yK a).1
    · show (yK a).2.2.2.1.length=_; rw [yT]
    · show ((yK a).2.2.2.1.set m.toNat _).length=_; rw [List.length_set,yT]
  · rfl
theorem yiZ (a:dA) (i:Nat):(yJ a i).2.2.1.length=a.2.2.1.length:=by
  unfold yJ
  cases (nth a.2.2.1 i noMem).2.2.1
  · cases (yK a).1
    · show (yK a).2.2.2.1.length=_; rw [yT]
    · show ((yK a).2.2.2.1.set _ _).length=_; rw [List.length_set,yT]
  · rfl
theorem yf5 {one:dA→Nat→dA} (h: ∀ a i,(one a i).2.2.1.length=a.2.2.1.length): ∀ (l:List Nat) (a:dA),(l.foldl one a).2.2.1.length=a.2.2.1.length
  | [],_=>rfl
  | x::l,a=>by rw [List.foldl_cons,yf5 h l,h]
theorem ytZ (a:dA):(yy a).2.2.1.length=a.2.2.1.length:=yf5 yiZ _ _
theorem ytE {a:dA} (h:downA a=true) (m n:Int) (s:List Int):ycm a m n s=a:=by
  unfold ycm
  rw [yM9 h]
  cases (nth a.2.2.1 m noMem).2.2.1<;>rfl
theorem yAc {a:dA} (i:Nat) (h:downA a=true):yJ a i=a:=by
  unfold yJ
  rw [yM9 h]
  cases (nth a.2.2.1 i noMem).2.2.1<;>rfl
theorem yqr {one:dA→Nat→dA} (hs: ∀ a i,downA a=true→one a i=a): ∀ (l:List Nat) (a:dA),downA a=true→l.foldl one a=a
  | [],_,_=>rfl
  | x::l,a,h=>by rw [List.foldl_cons,hs a x h]; exact yqr hs l a h
theorem yKf {a:dA} (h:downA a=true):yy a=a:=yqr (fun _ i h=>yAc i h) _ a h
theorem yOl {a:dA} (h:downA a=false) (m n:Int) (s:List Int):downA (ycm a m n s)=(!(nth a.2.2.1 m noMem).2.2.1&& !(yK a).1):=by
  have:=yM7 h
  unfold ycm
  cases (nth a.2.2.1 m noMem).2.2.1
  · cases ho:(yK a).1
    · rw [ho]at this; exact this
    · rw [ho]at this; exact this
  · exact h
theorem yMw {a:dA} (h:downA a=false) (i:Nat):downA (yJ a i)=(!(nth a.2.2.1 i noMem).2.2.1&& !(yK a).1):=by
  have:=yM7 h
  unfold yJ
  cases (nth a.2.2.1 i noMem).2.2.1
  · cases ho:(yK a).1
    · rw [ho]at this; exact this
    · rw [ho]at this; exact this
  · exact h
theorem yOd {one:dA→Nat→dA} (hs: ∀ a i,downA a=true→one a i=a): ∀ (k i:Nat) (s:dA),goE (fun i s=>bif downA (one s i) then (.inr (one s i):dA ⊕ dA) else .inl (one s i)) id k i s=(List.range' i k).foldl one s
  | 0,_,_=>rfl
  | k+1,i,s=>by
    rw [List.range'_succ,List.foldl_cons,goE]
    cases hd:downA (one s i)
    · exact yOd hs k (i+1) (one s i)
    · exact (yqr hs _ _ hd).symm
def ycG (a:dA) (m:Int):dA:=(a.1,a.2.1,a.2.2.1.set m.toNat (yhe (nth a.2.2.1 m noMem)),m,0,a.2.2.2.2.2)
def yFz (a:dA) (m:Int):dA:=(a.1,a.2.1,a.2.2.1.set m.toNat (yhe (nth a.2.2.1 m noMem)),a.2.2.2.1,a.2.2.2.2.1,a.2.2.2.2.2.1,a.2.2.2.2.2.2.1,a.2.2.2.2.2.2.2.1,a.2.2.2.2.2.2.2.2.1,a.2.2.2.2.2.2.2.2.2.1,a.2.2.2.2.2.2.2.2.2.2.1,true)
def failOne (a:dA) (m:Int):dA:=bif a.2.2.2.1== -1||a.2.2.2.1==m then (bif !(downA a)&&(!a.2.2.2.2.2.2.2.2.2.2.2&&ltb a.2.2.2.2.2.2.2.1 60000) then markA (ycG a m) else ycG a m) else yFz a m
def yPS (a:dA) (m:Int):dA:=bif yu a&&(inb m a.2.2.1.length&& !(nth a.2.2.1 m noMem).2.2.1) then failOne a m else a
theorem yMs {a:dA} {m n:Int} {s:List Int} (h:yW a.2.2.1) (hm:inb m a.2.2.1.length=true):yW (ycm a m n s).2.2.1:=by
  unfold ycm
  cases (nth a.2.2.1 m noMem).2.2.1
  · cases (yK a).1
    · show yW (yK a).2.2.2.1; rw [yT]; exact h
    · show yW ((yK a).2.2.2.1.set m.toNat _); rw [yT]; exact yxC h (yEE _ _ (yKd h hm))
  · exact h
theorem yMx {a:dA} {i:Nat} (h:yW a.2.2.1) (hi:i < a.2.2.1.length):yW (yJ a i).2.2.1:=by
  unfold yJ
  cases (nth a.2.2.1 i noMem).2.2.1
  · cases (yK a).1
    · show yW (yK a).2.2.2.1; rw [yT]; exact h
    · show yW ((yK a).2.2.2.1.set _ _); rw [yT]; exact yxC h (yL8 (yKd h (zkO hi)))
  · exact h
theorem yzr {one:dA→Nat→dA} (hl: ∀ a i,(one a i).2.2.1.length=a.2.2.1.length) (ho: ∀ a i,yW a.2.2.1→i < a.2.2.1.length→yW (one a i).2.2.1): ∀ (n:Nat) (a:dA),n≤a.2.2.1.length→yW a.2.2.1→yW ((List.range n).foldl one a).2.2.1
  | 0,_,_,h=>h
  | n+1,a,hn,h=>by
    rw [List.range_succ,List.foldl_append]
    exact ho _ _ (yzr hl ho n a (by omega) h) (by rw [yf5 hl]; exact hn)
theorem yvF {a:dA} (h:yW a.2.2.1):yW (yy a).2.2.1:=yzr yiZ (fun _ _=>yMx) _ a (Nat.le_refl _) h
theorem yzI {a:dA} (h:yW a.2.2.1):yW (markA a).2.2.1 :=
  yvF (yzr (one:=ybn) (fun _ _=>yiY _ _ _ _) (fun _ _ h hi=>yMs h (zkO hi)) _ (yaz a) (Nat.le_refl _) h)
theorem yDj (a:dA):(markA a).2.2.1.length=a.2.2.1.length:=(ytZ _).trans (yf5 (one:=ybn) (fun _ _=>yiY _ _ _ _) _ (yaz a))
theorem yxD (a:dA):(yK a).2.2.2.2.2.2.2.2.2.1=a.2.2.2.2.2.2.2.2.1:=by
  unfold yK
  cases downA a
  · cases (a.2.2.2.2.2.2.2.2.2.1==0)
    · cases ltb 0 a.2.2.2.2.2.2.2.2.2.1<;>rfl
    · rfl
  · rfl
theorem yKe (a:dA) (m n:Int) (s:List Int):(ycm a m n s).2.2.2.2.2.2.2.2.1=a.2.2.2.2.2.2.2.2.1:=by
  unfold ycm
  cases (nth a.2.2.1 m noMem).2.2.1
  · cases (yK a).1
    · exact yxD a
    · exact yxD a
  · rfl
theorem yLB (a:dA) (i:Nat):(yJ a i).2.2.2.2.2.2.2.2.1=a.2.2.2.2.2.2.2.2.1:=by
  unfold yJ
  cases (nth a.2.2.1 i noMem).2.2.1
  · cases (yK a).1
    · exact yxD a
    · exact yxD a
  · rfl
theorem yxi {one:dA→Nat→dA} (h: ∀ a i,(one a i).2.2.2.2.2.2.2.2.1=a.2.2.2.2.2.2.2.2.1): ∀ (l:List Nat) (a:dA),(l.foldl one a).2.2.2.2.2.2.2.2.1=a.2.2.2.2.2.2.2.2.1
  | [],_=>rfl
  | x::l,a=>by rw [List.foldl_cons,yxi h l,h]
theorem yr9 (a:dA):(yy a).2.2.2.2.2.2.2.2.1=a.2.2.2.2.2.2.2.2.1:=yxi yLB _ _
theorem yxp (a:dA):(markA a).2.2.2.2.2.2.2.2.1=a.2.2.2.2.2.2.2.2.1:=(yr9 _).trans (yxi (one:=ybn) (fun _ _=>yKe _ _ _ _) _ (yaz a))
theorem yJU {a x:dA} (ha:yqS a≤2097152) (hl:x.2.2.1.length≤5) (hm:yW x.2.2.1) (hd:x.2.2.2.2.2.2.2.2.1=a.2.2.2.2.2.2.2.2.1):yqS x≤2105000:=by
  have:=yz4 hm
  have:x.2.2.1.length * 1041≤5 * 1041:=Nat.mul_le_mul_right _ hl
  unfold yqS at ha ⊢
  rw [hd]
  omega
theorem yLH {a:dA} (h:yu a=true):a.2.2.1.length≤5:=by
  have h1:=yk.1 (ycT h)
  have h2:=yqb h
  omega
def yaW (n:Int):dM:=bif leb 1 n&&leb n 20 then (List.replicate n.toNat [],[],false,[]) else noMem
theorem yzJ {n:Int} (h1:1≤n) (h2:n≤20):ym (yaW n)=true:=by
  unfold yaW
  rw [zk0 h1,zk0 h2]
  refine ynb ?_ rfl rfl ?_ ?_ (Nat.zero_le _)
  · show (List.replicate n.toNat ([]:List Int)).all yI=true
    rw [List.all_eq_true]
    intro x hx
    rw [(List.mem_replicate.1 hx).2]; rfl
  · show 1≤(List.replicate n.toNat ([]:List Int)).length; rw [List.length_replicate]; omega
  · show (List.replicate n.toNat ([]:List Int)).length≤20; rw [List.length_replicate]; omega
def spareNew (a:dA):dA:=(a.1,a.2.1,a.2.2.1.set a.2.2.2.1.toNat (yaW (6+a.2.1.2)),a.2.2.2.1,0,a.2.2.2.2.2)
def yhB (a:dA):dA×Int :=
  bif !(yu a) then (a,1) else bif downA a then (a,6) else bif a.2.2.2.1== -1|| !((nth a.2.2.1 a.2.2.2.1 noMem).2.2.1) then (a,2) else bif a.2.2.2.2.2.2.2.2.2.2.2 then (a,5) else bif leb 59990 a.2.2.2.2.2.2.2.1 then (a,7)
  else (markA (spareNew a),bif downA (markA (spareNew a)) then 6 else 0)
theorem yN5 {a:dA} (h:yu a=true): -1≤a.2.2.2.1∧a.2.2.2.1≤a.2.1.1 - 1:=by
  simp only [yu,Bool.and_eq_true,zjQ]at h
  exact h.2.2.2.2.1
theorem yOQ {a:dA} (h:yu a=true) (h2:a.2.2.2.1≠ -1):inb a.2.2.2.1 a.2.2.1.length=true:=by
  have:=yN5 h
  have:=yqb h
  exact zjP.2 (by omega)
theorem yMW {a:dA} (h:yu a=true):yW (spareNew a).2.2.1∧(spareNew a).2.2.1.length=a.2.2.1.length:=by
  have hg:=yk.1 (ycT h)
  exact ⟨yxC (yxe h) (yzJ (by omega) (by omega)),List.length_set⟩
def yc1 (a:dA):dA:=(a.1,a.2.1,a.2.2.1,a.2.2.2.1,a.2.2.2.2.1,a.2.2.2.2.2.1,a.2.2.2.2.2.1,a.2.2.2.2.2.2.2)
def checkA (a:dA):dA:=bif downA (yy a) then yy a else markA (yc1 (yy a))
theorem yFl {a:dA} (h:yW a.2.2.1):yW (checkA a).2.2.1:=by
  unfold checkA
  cases downA (yy a)
  · exact yzI (a:=yc1 (yy a)) (yvF h)
  · exact yvF h
theorem yqd (a:dA):(checkA a).2.2.1.length=a.2.2.1.length:=by
  unfold checkA
  cases downA (yy a)
  · exact (yDj (yc1 (yy a))).trans (ytZ a)
  · exact ytZ a
theorem yp3 (a:dA):(checkA a).2.2.2.2.2.2.2.2.1=a.2.2.2.2.2.2.2.2.1:=by
  unfold checkA
  cases downA (yy a)
  · exact (yxp (yc1 (yy a))).trans (yr9 a)
  · exact yr9 a
def ym4 (b:dA):dA:=(b.1,b.2.1,b.2.2.1,-1,0,b.2.2.2.2.2)
def ysx (a:dA):dA×Int:=bif downA (checkA a) then (checkA a,6) else (markA (ym4 (checkA a)),bif downA (markA (ym4 (checkA a))) then 6 else 0)
def yzj (a:dA):dA×Int :=
  bif !(yu a) then (a,1) else bif downA a then (a,6) else bif a.2.2.2.1== -1||((nth a.2.2.1 a.2.2.2.1 noMem).2.2.1||ltb a.2.2.2.2.1 a.2.1.2) then (a,2) else bif a.2.2.2.2.2.2.2.2.2.2.2 then (a,5) else bif leb 59990 a.2.2.2.2.2.2.2.1 then (a,7) else ysx a
theorem yPq {a:dA} (ha:yqS a≤2097152):yqS (yzj a).1≤2105000:=by
  have h0:yqS a≤2105000:=by omega
  unfold yzj
  cases hk:yu a
  · exact h0
  have h5:=yLH hk
  have hc:=yFl (yxe hk)
  have hn:=yJU (x:=markA (ym4 (checkA a))) ha (by rw [yDj,show (ym4 (checkA a)).2.2.1=(checkA a).2.2.1 from rfl,yqd]; exact h5) (yzI (a:=ym4 (checkA a)) hc) ((yxp _).trans (yp3 a))
  have hn2:=yJU (x:=checkA a) ha (by rw [yqd]; exact h5) hc (yp3 a)
  cases downA a
  · cases (a.2.2.2.1== -1||((nth a.2.2.1 a.2.2.2.1 noMem).2.2.1||ltb a.2.2.2.2.1 a.2.1.2))
    · cases a.2.2.2.2.2.2.2.2.2.2.2
      · cases leb 59990 a.2.2.2.2.2.2.2.1
        · show yqS (ysx a).1≤_
          unfold ysx
          cases downA (checkA a)
          · exact hn
          · exact hn2
        · exact h0
      · exact h0
    · exact h0
  · exact h0
def yMm (id:Int) (g:dG) (i:Int):dS:=(id,0,i,g.1,g.2,0,-1,0)
def ynS (m:dM) (s:Nat):dM:=(m.1.set (s+6) [0],m.2)
def yht (id:Int) (g:dG) (i:Int):dM:=((yaW (6+g.2)).1.set 0 (yA (yMm id g i)),(yaW (6+g.2)).2)
def yr (id:Int) (g:dG) (i:Int):dM:=(List.range g.2.toNat).foldl ynS (yht id g i)
def ysw (a:dA) (m:dM):dA:=(a.1,a.2.1,a.2.2.1++ [m],a.2.2.2)
def ysz (id:Int) (g:dG):dA:=(id,g,[],-1,0,0,0,0,[],-1,false,false)
def yiG (id:Int) (g:dG):dA:=bif yb g&&(leb 1 id&&leb id 60000) then (List.range g.1.toNat).foldl (fun a (i:Nat)=>ysw a (yr id g i)) (ysz id g) else yk2
theorem yB1 (l:List Nat) (m:dM):(l.foldl ynS m).1.length=m.1.length:=by
  induction l generalizing m with
  | nil=>rfl
  | cons x t ih=>rw [List.foldl_cons,ih]; show (m.1.set _ _).length=_; rw [List.length_set]
def yl (a:dA):Int×(Int×Int)×Int×Int×Int×Int×Int×List dW×Bool:=(a.1,a.2.1,a.2.2.2.1,a.2.2.2.2.1,a.2.2.2.2.2.1,a.2.2.2.2.2.2.1,a.2.2.2.2.2.2.2.1,a.2.2.2.2.2.2.2.2.1,a.2.2.2.2.2.2.2.2.2.2.2)
theorem yw6 (a:dA):yl (yK a).2=yl a:=by
  unfold yK
  cases downA a
  · cases (a.2.2.2.2.2.2.2.2.2.1==0)
    · cases ltb 0 a.2.2.2.2.2.2.2.2.2.1<;>rfl
    · rfl
  · rfl
theorem yko (a:dA) (m n:Int) (s:List Int):yl (ycm a m n s)=yl a:=by
  unfold ycm
  cases (nth a.2.2.1 m noMem).2.2.1
  · cases (yK a).1
    · exact yw6 a
    · exact yw6 a
  · rfl
theorem yAb (a:dA) (i:Nat):yl (yJ a i)=yl a:=by
  unfold yJ
  cases (nth a.2.2.1 i noMem).2.2.1
  · cases (yK a).1
    · exact yw6 a
    · exact yw6 a
  · rfl
theorem yqq {one:dA→Nat→dA} (h: ∀ a i,yl (one a i)=yl a): ∀ (l:List Nat) (a:dA),yl (l.foldl one a)=yl a
  | [],_=>rfl
  | x::l,a=>by rw [List.foldl_cons,yqq h l,h]
theorem yf3 (a:dA):yl (yy a)=yl a:=yqq yAb _ _
theorem ynR (a:dA):yl (markA a)=yl (yaz a):=(yf3 _).trans (yqq (one:=ybn) (fun _ _=>yko _ _ _ _) _ _)
theorem yah {a b:dA} (h:yl a=yl b):a.2.1=b.2.1:=congrArg (fun x=>x.2.1) h
theorem ydL {a b:dA} (h:yl a=yl b):a.2.2.2.2.1=b.2.2.2.2.1:=congrArg (fun x=>x.2.2.2.1) h
theorem yFm {a b:dA} (h:yl a=yl b):a.2.2.2.2.2.2.2.2.1=b.2.2.2.2.2.2.2.2.1:=congrArg (fun x=>x.2.2.2.2.2.2.2.1) h
def yay (d:List dW) (x:dA):Prop:=x.2.2.1.length≤5∧yW x.2.2.1∧x.2.2.2.2.2.2.2.2.1=d
theorem yPW {a:dA} (h:yu a=true):yay a.2.2.2.2.2.2.2.2.1 a:=⟨yLH h,yxe h,rfl⟩
theorem yDN {d:List dW} {a:dA} {m n:Int} {s:List Int} (h:yay d a) (hm:inb m a.2.2.1.length=true):yay d (ycm a m n s):=⟨by rw [yiY]; exact h.1,yMs h.2.1 hm,(yKe _ _ _ _).trans h.2.2⟩
theorem yNP {d:List dW} {a:dA} (h:yay d a):yay d (yy a):=⟨by rw [ytZ]; exact h.1,yvF h.2.1,(yr9 _).trans h.2.2⟩
theorem yKc {d:List dW} {a:dA} (h:yay d a):yay d (markA a):=⟨by rw [yDj]; exact h.1,yzI h.2.1,(yxp _).trans h.2.2⟩
theorem yGo {d:List dW} {a:dA} (h:yay d a):yay d (checkA a):=⟨by rw [yqd]; exact h.1,yFl h.2.1,(yp3 _).trans h.2.2⟩
theorem yNs {d:List dW} {x:dA} (h:yay d x):yqS x≤yOA d+5205:=by
  have:=yz4 h.2.1
  have:x.2.2.1.length * 1041≤5 * 1041:=Nat.mul_le_mul_right _ h.1
  unfold yqS
  rw [h.2.2]
  omega
theorem yPP {a x:dA} (ha:yqS a≤2097152) (h:yay a.2.2.2.2.2.2.2.2.1 x):yqS x≤2105000:=by
  have:=yNs h
  unfold yqS at ha
  omega
theorem yNr {d:List dW} {a:dA} (h:yay d a):yay d (yzj a).1:=by
  have hn:yay d (markA (ym4 (checkA a))):=yKc (a:=ym4 (checkA a)) (yGo h)
  unfold yzj
  cases yu a
  · exact h
  cases downA a
  · cases (a.2.2.2.1== -1||((nth a.2.2.1 a.2.2.2.1 noMem).2.2.1||ltb a.2.2.2.2.1 a.2.1.2))
    · cases a.2.2.2.2.2.2.2.2.2.2.2
      · cases leb 59990 a.2.2.2.2.2.2.2.1
        · show yay d (ysx a).1
          unfold ysx
          cases downA (checkA a)
          · exact hn
          · exact yGo h
        · exact h
      · exact h
    · exact h
  · exact h
def yNS (b:dA):dA:=(b.1,b.2.1,b.2.2.1,b.2.2.2.1,IntKind.i64.wrap (b.2.2.2.2.1+1),b.2.2.2.2.2)
def yG (a:dA):dA:=ycm a a.2.2.2.1 (dataAt a.2.2.2.2.1) [nth (yv a a.2.2.2.2.1).1 a.2.2.2.1 0]
def stepOne (a:dA):Int×dA:=bif (yv a a.2.2.2.2.1).2 then (bif downA (yG a) then (6,yG a) else (0,yNS (yG a))) else (5,a)
def ydQ (a:dA):dA×Int :=
  bif !(yu a) then (a,1) else bif downA a then (a,6) else bif a.2.2.2.1== -1||((nth a.2.2.1 a.2.2.2.1 noMem).2.2.1||leb a.2.1.2 a.2.2.2.2.1) then (a,2) else bif a.2.2.2.2.2.2.2.2.2.2.2 then (a,5) else ((stepOne a).2,(stepOne a).1)
def yr4:Nat→dA→dA×Int
  | 0,a=>(a,0)
  | n+1,a=>bif ltb a.2.2.2.2.1 a.2.1.2 then (bif (ydQ a).2 !=0 then ydQ a else yr4 n (ydQ a).1) else (a,0)
def yLI (a:dA):dA×Int:=bif (yhB a).2 !=0 then yhB a else bif (yr4 8 (yhB a).1).2 !=0 then yr4 8 (yhB a).1 else yzj (yr4 8 (yhB a).1).1
theorem yNz {a:dA} (h:yu a=true):0≤a.2.2.2.2.1∧a.2.2.2.2.1≤a.2.1.2:=by
  simp only [yu,Bool.and_eq_true,zjQ]at h
  exact h.2.2.2.2.2.1
theorem yNO {d:List dW} {a:dA} (h:yay d a) (hl:inb a.2.2.2.1 a.2.2.1.length=true):yay d (stepOne a).2:=by
  unfold stepOne
  have hp:yay d (yG a):=yDN h hl
  cases (yv a a.2.2.2.2.1).2
  · exact h
  · cases downA (yG a)
    · exact hp
    · exact hp
theorem yw0 {d:List dW} {a:dA} (h:yay d a):yay d (ydQ a).1:=by
  unfold ydQ
  cases ha:yu a
  · exact h
  cases downA a
  · cases hl:(a.2.2.2.1== -1)
    · cases ((nth a.2.2.1 a.2.2.2.1 noMem).2.2.1||leb a.2.1.2 a.2.2.2.2.1)
      · cases a.2.2.2.2.2.2.2.2.2.2.2
        · exact yNO h (yOQ ha (beq_eq_false_iff_ne.1 hl))
        · exact h
      · exact h
    · exact h
  · exact h
theorem yDM {d:List dW}: ∀ {n:Nat} {a:dA},yay d a→yay d (yr4 n a).1
  | 0,_,h=>h
  | n+1,a,h=>by
    unfold yr4
    cases ltb a.2.2.2.2.1 a.2.1.2
    · exact h
    · cases ((ydQ a).2 !=0)
      · exact yDM (yw0 h)
      · exact yw0 h
theorem yxw {d:List dW} {a:dA} (h:yay d a):yay d (yhB a).1:=by
  unfold yhB
  cases ha:yu a
  · exact h
  have hs:=yMW ha
  cases downA a
  · cases (a.2.2.2.1== -1|| !((nth a.2.2.1 a.2.2.2.1 noMem).2.2.1))
    · cases a.2.2.2.2.2.2.2.2.2.2.2
      · cases leb 59990 a.2.2.2.2.2.2.2.1
        · exact yKc (a:=spareNew a) ⟨by rw [hs.2]; exact h.1,hs.1,h.2.2⟩
        · exact h
      · exact h
    · exact h
  · exact h
theorem yO2 {d:List dW} {a:dA} (h:yay d a):yay d (yLI a).1:=by
  unfold yLI
  cases ((yhB a).2 !=0)
  · cases ((yr4 8 (yhB a).1).2 !=0)
    · exact yNr (yDM (yxw h))
    · exact yDM (yxw h)
  · exact yxw h
theorem yPO {a:dA} (h:(ydQ a).2=0):yu a=true∧a.2.2.2.2.1 < a.2.1.2∧(ydQ a).1.2.1=a.2.1∧(ydQ a).1.2.2.2.2.1=a.2.2.2.2.1+1:=by
  unfold ydQ at h ⊢
  cases ha:yu a
  · rw [ha]at h; exact absurd (show (1:Int)=0 from h) (by decide)
  rw [ha]at h
  have hg:=yk.1 (ycT ha)
  have hb:=yNz ha
  cases hd:downA a
  · rw [hd]at h
    cases hc:(a.2.2.2.1== -1||((nth a.2.2.1 a.2.2.2.1 noMem).2.2.1||leb a.2.1.2 a.2.2.2.2.1))
    · rw [hc]at h
      simp only [Bool.or_eq_false_iff]at hc
      have hS:a.2.2.2.2.1 < a.2.1.2:=by
        rcases Int.lt_or_le a.2.2.2.2.1 a.2.1.2 with h1 | h1
        · exact h1
        · have:=hc.2.2; rw [zk0 h1]at this; cases this
      cases hbr:a.2.2.2.2.2.2.2.2.2.2.2
      · rw [hbr]at h
        simp only [Bool.not_true,cond_false]at h ⊢
        unfold stepOne at h ⊢
        cases hw:(yv a a.2.2.2.2.1).2
        · rw [hw]at h; exact absurd (show (5:Int)=0 from h) (by decide)
        · rw [hw]at h
          cases hp:downA (yG a)
          · have hc2:=yko a a.2.2.2.1 (dataAt a.2.2.2.2.1) [nth (yv a a.2.2.2.2.1).1 a.2.2.2.1 0]
            refine ⟨trivial,hS,(show (yG a).2.1=a.2.1 from yah hc2),?_⟩
            show IntKind.i64.wrap ((yG a).2.2.2.2.1+1)=_
            rw [show (yG a).2.2.2.2.1=a.2.2.2.2.1 from ydL hc2,wr (by omega) (by omega)]
          · rw [hp]at h; exact absurd (show (6:Int)=0 from h) (by decide)
      · rw [hbr]at h; exact absurd (show (5:Int)=0 from h) (by decide)
    · rw [hc]at h; exact absurd (show (2:Int)=0 from h) (by decide)
  · rw [hd]at h; exact absurd (show (6:Int)=0 from h) (by decide)
theorem yP1 {n:Nat} {a:dA} (h:ltb a.2.2.2.2.1 a.2.1.2=false):yr4 n a=(a,0):=by
  cases n
  · rfl
  · unfold yr4; rw [h]; rfl
theorem yPx {a:dA} (h:(yhB a).2=0):(yhB a).1.2.1=a.2.1∧(yhB a).1.2.2.2.2.1=0∧yb a.2.1=true:=by
  unfold yhB at h ⊢
  cases ha:yu a
  · rw [ha]at h; exact absurd (show (1:Int)=0 from h) (by decide)
  rw [ha]at h
  cases hd:downA a
  · rw [hd]at h
    cases hc:(a.2.2.2.1== -1|| !((nth a.2.2.1 a.2.2.2.1 noMem).2.2.1))
    · rw [hc]at h
      cases hb:a.2.2.2.2.2.2.2.2.2.2.2
      · rw [hb]at h
        cases hg:leb 59990 a.2.2.2.2.2.2.2.1
        · have hm:=ynR (spareNew a)
          exact ⟨(show (markA (spareNew a)).2.1=(yaz (spareNew a)).2.1 from yah hm),(show (markA (spareNew a)).2.2.2.2.1=(yaz (spareNew a)).2.2.2.2.1 from ydL hm),ycT ha⟩
        · rw [hg]at h; exact absurd (show (7:Int)=0 from h) (by decide)
      · rw [hb]at h; exact absurd (show (5:Int)=0 from h) (by decide)
    · rw [hc]at h; exact absurd (show (2:Int)=0 from h) (by decide)
  · rw [hd]at h; exact absurd (show (6:Int)=0 from h) (by decide)
def yqT (lost:Int) (br:Bool) (S:Int) (i:Nat) (m:dM):Prop:=ym m=true∧(m.1.length:Int)=6+S∧(m.2.2.1=true→(i:Int)=lost∨br=true)
def yxq (lost:Int) (br:Bool) (S:Int) (l:List dM):Prop:= ∀ i,i < l.length→yqT lost br S i (nth l i noMem)
theorem yqD {lost S:Int} {br:Bool} {l:List dM} {i:Nat} {x:dM} (h:yxq lost br S l) (hx:i < l.length→yqT lost br S i x):yxq lost br S (l.set i x):=fun j hj=>by
  rw [List.length_set]at hj
  by_cases e:j=i
  · subst e
    rw [zjW,zcq (by rw [List.length_set]; exact hj),List.getElem_set_self]; exact hx hj
  · have:=h j hj
    rw [zjW,zcq hj]at this
    rw [zjW,zcq (by rw [List.length_set]; exact hj),List.getElem_set_ne (fun e'=>e e'.symm)]; exact this
theorem yNq {a:dA}:yiH a=true↔yxq a.2.2.2.1 a.2.2.2.2.2.2.2.2.2.2.2 a.2.1.2 a.2.2.1∧(a.2.2.1.length:Int)=a.2.1.1:=by
  constructor
  · intro h
    refine ⟨fun i hi=>yJ8 h hi,?_⟩
    simp only [yiH,Bool.and_eq_true,beq_iff_eq]at h; exact h.2
  · rintro ⟨h1,h2⟩
    simp only [yiH,Bool.and_eq_true,beq_iff_eq,Bool.not_eq_true',List.any_eq_false,List.mem_range]
    refine ⟨fun i hi=> ?_,h2⟩
    obtain ⟨g1,g2,g3⟩:=h1 i hi
    unfold yeG
    rw [g1,show (((nth a.2.2.1 i noMem).1.length:Int) !=6+a.2.1.2)=false from bne_eq_false_iff_eq.2 g2]
    cases hf:(nth a.2.2.1 i noMem).2.2.1
    · simp
    · rcases g3 hf with e | e
      · rw [show ((i:Int) !=a.2.2.2.1)=false from bne_eq_false_iff_eq.2 e]; simp
      · rw [e]; simp
def fuz (a:dA):Int:=a.2.2.2.2.2.2.2.2.2.1
def Keep (a:dA):Prop:=(yxq a.2.2.2.1 a.2.2.2.2.2.2.2.2.2.2.2 a.2.1.2 a.2.2.1∧(a.2.2.1.length:Int)=a.2.1.1)∧ -1≤fuz a∧fuz a≤1000
def coreOk (a:dA):Prop:=yb a.2.1=true∧(1≤a.1∧a.1≤60000)∧yab a.2.1 a.2.2.2.2.2.2.2.2.1=true∧(-1≤a.2.2.2.1∧a.2.2.2.1≤a.2.1.1 - 1)∧(0≤a.2.2.2.2.1∧a.2.2.2.2.1≤a.2.1.2)∧(a.2.2.2.1= -1→a.2.2.2.2.1=0) ∧
  (0≤a.2.2.2.2.2.2.1∧a.2.2.2.2.2.2.1≤60000)∧(a.2.2.2.2.2.2.1≤a.2.2.2.2.2.1∧a.2.2.2.2.2.1≤60000)∧a.2.2.2.2.2.1≤a.2.2.2.2.2.2.1+4∧0≤a.2.2.2.2.2.2.2.1∧a.2.2.2.2.2.2.2.1≤60000
theorem yH4 {a:dA}:yu a=true↔coreOk a∧Keep a:=by
  unfold yu coreOk Keep fuz
  simp only [Bool.and_eq_true,zjQ,yNq,Bool.not_eq_true',Bool.and_eq_false_iff,beq_eq_false_iff_ne,bne_eq_false_iff_eq]
  constructor
  · rintro ⟨h1,h2,h3,h4,h5,h6,h7,h8,h9,h10,h11,h12⟩
    exact ⟨⟨h1,h2,h4,h5,h6,fun e=>h7.resolve_left (fun g=>g e),h8,h9,h10,h11.1,h11.2⟩,h3,h12⟩
  · rintro ⟨⟨h1,h2,h4,h5,h6,h7,h8,h9,h10,h11,h11'⟩,h3,h12⟩
    exact ⟨h1,h2,h3,h4,h5,h6,(Decidable.em (a.2.2.2.1= -1)).elim (fun e=> .inr (h7 e)) (fun e=> .inl e),h8,h9,h10,⟨h11,h11'⟩,h12⟩
theorem yAh {a b:dA} (h:yl b=yl a) (ha:coreOk a):coreOk b:=by
  unfold yl at h
  simp only [Prod.mk.injEq]at h
  obtain ⟨h1,h2,h3,h4,h5,h6,h7,h8,h9⟩:=h
  unfold coreOk at *
  rw [h1,h2,h3,h4,h5,h6,h7,h8]; exact ha
theorem yOP {a b:dA} (h:yl b=yl a) (hl:b.2.2.1.length=a.2.2.1.length) (hm:yxq a.2.2.2.1 a.2.2.2.2.2.2.2.2.2.2.2 a.2.1.2 b.2.2.1) (hn:(a.2.2.1.length:Int)=a.2.1.1) (hf: -1≤fuz b∧fuz b≤1000):Keep b:=by
  unfold yl at h
  simp only [Prod.mk.injEq]at h
  obtain ⟨h1,h2,h3,h4,h5,h6,h7,h8,h9⟩:=h
  unfold Keep
  rw [h2,h3,h9,hl]; exact ⟨⟨hm,hn⟩,hf⟩
theorem yPd {a:dA} (h: -1≤fuz a∧fuz a≤1000): -1≤fuz (yK a).2∧fuz (yK a).2≤1000:=by
  unfold yK
  cases downA a
  · cases h0:(a.2.2.2.2.2.2.2.2.2.1==0)
    · cases h1:ltb 0 a.2.2.2.2.2.2.2.2.2.1
      · exact h
      · have:=zjT.1 h1
        unfold fuz at h
        show -1≤IntKind.i64.wrap (a.2.2.2.2.2.2.2.2.2.1 - 1)∧IntKind.i64.wrap (a.2.2.2.2.2.2.2.2.2.1 - 1)≤1000
        rw [wr (by omega) (by omega)]; omega
    · show -1≤(-1:Int)∧(-1:Int)≤1000; omega
  · exact h
theorem yAm {a:dA} (h:Keep a):Keep (yK a).2:=yOP (yw6 a) (by rw [yT]) (by rw [yT]; exact h.1.1) h.1.2 (yPd h.2)
theorem yp4 {a:dA} {m:Int} {x:dM} (h:Keep a) (hm:inb m a.2.2.1.length=true) (hx:yqT a.2.2.2.1 a.2.2.2.2.2.2.2.2.2.2.2 a.2.1.2 m.toNat (nth a.2.2.1 m noMem)→yqT a.2.2.2.1 a.2.2.2.2.2.2.2.2.2.2.2 a.2.1.2 m.toNat x):Keep (setMem a m x):=by
  have hm:=zjP.1 hm
  refine ⟨⟨yqD h.1.1 (fun hi=>hx ?_),by show ((a.2.2.1.set m.toNat x).length:Int)=_; rw [List.length_set]; exact h.1.2⟩,h.2⟩
  have:=h.1.1 m.toNat hi
  rwa [Int.toNat_of_nonneg hm.1]at this
theorem yNp {lost S:Int} {br:Bool} {i:Nat} {m:dM} (n:Int) (s:List Int) (h:yqT lost br S i m):yqT lost br S i (yB m n s).1 :=
  ⟨yEE n s h.1,by rw [(yvH m n s).1]; exact h.2.1,by rw [(yvH m n s).2]; exact h.2.2⟩
theorem yNo {lost S:Int} {br:Bool} {i:Nat} {m:dM} (h:yqT lost br S i m):yqT lost br S i (yq m) :=
  ⟨yL8 h.1,by rw [(yvq m).1]; exact h.2.1,by rw [(yvq m).2]; exact h.2.2⟩
theorem yts {a:dA} {m n:Int} {s:List Int} (h:Keep a) (hm:inb m a.2.2.1.length=true):Keep (ycm a m n s):=by
  unfold ycm
  cases (nth a.2.2.1 m noMem).2.2.1
  · cases (yK a).1
    · exact yAm h
    · exact yp4 (yAm h) (by rw [yT]; exact hm) (fun g=>by rw [yT]at g; exact yNp _ _ g)
  · exact h
theorem yMi {a:dA} {i:Nat} (h:Keep a) (hi:i < a.2.2.1.length):Keep (yJ a i):=by
  unfold yJ
  cases (nth a.2.2.1 i noMem).2.2.1
  · cases (yK a).1
    · exact yAm h
    · exact yp4 (yAm h) (by rw [yT]; exact zkO hi) (fun g=>by rw [yT]at g; exact yNo g)
  · exact h
theorem yhQ {P:dA→Prop} {one:dA→Nat→dA} (hl: ∀ a i,(one a i).2.2.1.length=a.2.2.1.length) (ho: ∀ a i,P a→i < a.2.2.1.length→P (one a i)): ∀ (n:Nat) (a:dA),n≤a.2.2.1.length→P a→P ((List.range n).foldl one a)
  | 0,_,_,h=>h
  | n+1,a,hn,h=>by
    rw [List.range_succ,List.foldl_append]
    exact ho _ _ (yhQ hl ho n a (by omega) h) (by rw [yf5 hl]; exact hn)
theorem ynQ {a:dA} (h:Keep a):Keep (yy a):=yhQ (P:=Keep) (one:=yJ) yiZ (fun _ _=>yMi) _ a (Nat.le_refl _) h
theorem yzH {a:dA} (h:Keep a):Keep (markA a) :=
  ynQ (yhQ (P:=Keep) (one:=ybn) (fun _ _=>yiY _ _ _ _) (fun _ _ h hi=>yts h (zkO hi)) _ (yaz a) (Nat.le_refl _) h)
theorem yPu {a:dA} (h:Keep a):Keep (checkA a):=by
  unfold checkA
  cases downA (yy a)
  · exact yzH (a:=yc1 (yy a)) (ynQ h)
  · exact ynQ h
def yea (a:dA):Prop:=downA a=false∧fuz a= -1
theorem yM8 {a:dA} (h:yea a):yK a=(true,a):=by
  unfold yK
  rw [h.1,show a.2.2.2.2.2.2.2.2.2.1= -1 from h.2]; rfl
theorem yxl {a:dA} (h:yea a) (m n:Int) (s:List Int):yea (ycm a m n s):=by
  unfold ycm
  rw [yM8 h]
  cases (nth a.2.2.1 m noMem).2.2.1<;>exact h
theorem yMa {a:dA} (h:yea a) (i:Nat):yea (yJ a i):=by
  unfold yJ
  rw [yM8 h]
  cases (nth a.2.2.1 i noMem).2.2.1<;>exact h
theorem yqs {a:dA} (h:yea a):yea (yy a):=yhQ (P:=yea) (one:=yJ) yiZ (fun _ i h _=>yMa h i) _ a (Nat.le_refl _) h
theorem yJ5 {a:dA} (h:yea a):yea (markA a) :=
  yqs (yhQ (P:=yea) (one:=ybn) (fun _ _=>yiY _ _ _ _) (fun _ _ h _=>yxl h _ _ _) _ (yaz a) (Nat.le_refl _) h)
theorem yxf {a:dA} (h:yea a):checkA a=markA (yc1 (yy a)):=by
  unfold checkA
  rw [(yqs h).1]; rfl
theorem yPs {a:dA} (h:yea a):yea (checkA a):=by
  rw [yxf h]; exact yJ5 (a:=yc1 (yy a)) (yqs h)
def Wk (k:Int) (a:dA):Prop:=coreOk a∧Keep a∧yea a∧a.2.2.2.2.2.2.2.2.2.2.2=false∧a.2.2.2.2.2.2.2.1≤k
theorem yPl {k:Int} {a:dA} (h:Wk k a):yu a=true:=yH4.2 ⟨h.1,h.2.1⟩
theorem yaU {k j:Int} {a:dA} (h:Wk k a) (hj:k≤j):Wk j a:=⟨h.1,h.2.1,h.2.2.1,h.2.2.2.1,Int.le_trans h.2.2.2.2 hj⟩
theorem ysc {k:Int} {a b:dA} (hc:yl b=yl a) (hk:Keep b) (hf:yea b) (h:Wk k a):Wk k b:=by
  refine ⟨yAh hc h.1,hk,hf,?_⟩
  unfold yl at hc
  simp only [Prod.mk.injEq]at hc
  obtain ⟨_,_,_,_,_,_,h7,_,h9⟩:=hc
  rw [h7,h9]; exact h.2.2.2
theorem yPn {k:Int} {a:dA} {m n:Int} {s:List Int} (h:Wk k a) (hm:inb m a.2.2.1.length=true):Wk k (ycm a m n s):=ysc (yko _ _ _ _) (yts h.2.1 hm) (yxl h.2.2.1 _ _ _) h
theorem yOZ {k:Int} {a:dA} (h:Wk k a):Wk k (yy a):=ysc (yf3 _) (ynQ h.2.1) (yqs h.2.2.1) h
theorem yOs {k:Int} {a:dA} (h:Wk k a) (hk:k+1≤60000):Wk (k+1) (yaz a):=by
  obtain ⟨⟨c1,c2,c3,c4,c5,c6,c7,c8,c9,c10,c11⟩,h2,h3,h4,h5⟩:=h
  have e:IntKind.i64.wrap (a.2.2.2.2.2.2.2.1+1)=a.2.2.2.2.2.2.2.1+1:=wr (by omega) (by omega)
  refine ⟨⟨c1,c2,c3,c4,c5,c6,c7,c8,c9,?_,?_⟩,h2,h3,h4,?_⟩
  · show 0≤IntKind.i64.wrap (a.2.2.2.2.2.2.2.1+1); omega
  · show IntKind.i64.wrap (a.2.2.2.2.2.2.2.1+1)≤_; omega
  · show IntKind.i64.wrap (a.2.2.2.2.2.2.2.1+1)≤_; omega
theorem yJS {k:Int} {a:dA} (h:Wk k a) (hk:k+1≤60000):Wk (k+1) (markA a):=ysc (ynR _) (yzH h.2.1) (yJ5 h.2.2.1) (yOs h hk)
theorem yNZ {k:Int} {a:dA} (h:Wk k a):Wk k (yc1 a):=by
  obtain ⟨⟨c1,c2,c3,c4,c5,c6,c7,c8,c9,c10,c11⟩,h2,h3,h4,h5⟩:=h
  refine ⟨⟨c1,c2,c3,c4,c5,c6,⟨?_,?_⟩,⟨Int.le_refl _,c8.2⟩,?_,c10,c11⟩,h2,h3,h4,h5⟩
  · show 0≤a.2.2.2.2.2.1; omega
  · show a.2.2.2.2.2.1≤60000; omega
  · show a.2.2.2.2.2.1≤a.2.2.2.2.2.1+4; omega
theorem yMC {k:Int} {a:dA} (h:Wk k a) (hk:k+1≤60000):Wk (k+1) (checkA a):=by
  rw [yxf h.2.2.1]; exact yJS (yNZ (yOZ h)) hk
theorem yNY {k:Int} {a:dA} {m:Int} {x:dM} (h:Wk k a) (hm:inb m a.2.2.1.length=true) (hx:yqT a.2.2.2.1 a.2.2.2.2.2.2.2.2.2.2.2 a.2.1.2 m.toNat (nth a.2.2.1 m noMem)→yqT a.2.2.2.1 a.2.2.2.2.2.2.2.2.2.2.2 a.2.1.2 m.toNat x):Wk k (setMem a m x) :=
  ysc (a:=a) (b:=setMem a m x) rfl (yp4 h.2.1 hm hx) h.2.2.1 h
theorem yOX {k m:Int} {a:dA} (h:Wk k a) (hl:a.2.2.2.1= -1) (hm:inb m a.2.2.1.length=true) (hk:k+1≤60000):Wk (k+1) (failOne a m):=by
  have hmi:=zjP.1 hm
  have hw:Wk k (ycG a m):=by
    obtain ⟨⟨c1,c2,c3,c4,c5,c6,c7,c8,c9,c10,c11⟩,⟨⟨g1,g2⟩,g3⟩,f,b,t⟩:=h
    refine ⟨⟨c1,c2,c3,⟨?_,?_⟩,⟨Int.le_refl _,by show (0:Int)≤a.2.1.2; omega⟩,fun e=>rfl,c7,c8,c9,c10,c11⟩,⟨⟨?_,?_⟩,g3⟩,f,b,t⟩
    · show -1≤m; omega
    · show m≤a.2.1.1 - 1; omega
    · show yxq m a.2.2.2.2.2.2.2.2.2.2.2 a.2.1.2 (a.2.2.1.set m.toNat (yhe (nth a.2.2.1 m noMem)))
      refine yqD (fun i hi=> ?_) (fun hi=> ?_)
      · obtain ⟨e1,e2,e3⟩:=g1 i hi
        refine ⟨e1,e2,fun e=> ?_⟩
        rcases e3 e with e | e
        · omega
        · exact .inr e
      · have:=g1 m.toNat hi
        rw [Int.toNat_of_nonneg hmi.1]at this
        exact ⟨yM3 this.1,this.2.1,fun _=> .inl (Int.toNat_of_nonneg hmi.1)⟩
    · show ((a.2.2.1.set m.toNat (yhe (nth a.2.2.1 m noMem))).length:Int)=a.2.1.1
      rw [List.length_set]; exact g2
  unfold failOne
  rw [show (a.2.2.2.1== -1)=true from beq_iff_eq.2 hl,h.2.2.1.1,h.2.2.2.1]
  cases ltb a.2.2.2.2.2.2.2.1 60000
  · exact yaU hw (by omega)
  · exact yJS hw hk
theorem yOu {k:Int} {a:dA} (h:Wk k a) (hl:inb a.2.2.2.1 a.2.2.1.length=true) (hk:k+1≤60000):Wk (k+1) (markA (spareNew a)):=by
  have hmi:=zjP.1 hl
  refine yJS ?_ hk
  obtain ⟨⟨c1,c2,c3,c4,c5,c6,c7,c8,c9,c10,c11⟩,⟨⟨g1,g2⟩,g3⟩,f,b,t⟩:=h
  have hg:=yk.1 c1
  refine ⟨⟨c1,c2,c3,c4,⟨Int.le_refl _,by show (0:Int)≤a.2.1.2; omega⟩,fun e=>rfl,c7,c8,c9,c10,c11⟩,⟨⟨yqD g1 (fun hi=>⟨yzJ (by omega) (by omega),?_,fun e=> ?_⟩),?_⟩,g3⟩,f,b,t⟩
  · unfold yaW
    rw [zk0 (show 1≤6+a.2.1.2 by omega),zk0 (show 6+a.2.1.2≤20 by omega)]
    show ((List.replicate (6+a.2.1.2).toNat ([]:List Int)).length:Int)=6+a.2.1.2
    rw [List.length_replicate]; omega
  · unfold yaW at e
    rw [zk0 (show 1≤6+a.2.1.2 by omega),zk0 (show 6+a.2.1.2≤20 by omega)] at e
    cases e
  · show ((a.2.2.1.set a.2.2.2.1.toNat (yaW (6+a.2.1.2))).length:Int)=a.2.1.1
    rw [List.length_set]; exact g2
theorem yOY {k:Int} {a:dA} (h:Wk k a) (hl:inb a.2.2.2.1 a.2.2.1.length=true) (hb:a.2.2.2.2.1 < a.2.1.2):Wk k (stepOne a).2:=by
  have hp:Wk k (yG a):=yPn h hl
  have e:=yko a a.2.2.2.1 (dataAt a.2.2.2.2.1) [nth (yv a a.2.2.2.2.1).1 a.2.2.2.1 0]
  have e1:(yG a).2.2.2.2.1=a.2.2.2.2.1:=ydL e
  have e2:(yG a).2.1=a.2.1:=yah e
  have e3:(yG a).2.2.2.1=a.2.2.2.1:=congrArg (fun x=>x.2.2.1) e
  unfold stepOne
  cases (yv a a.2.2.2.2.1).2
  · exact h
  · generalize yG a=R at hp e1 e2 e3 ⊢
    rw [hp.2.2.1.1]
    have hmi:=zjP.1 hl
    obtain ⟨⟨c1,c2,c3,c4,c5,c6,c7,c8,c9,c10,c11⟩,g2,g3,g4,g5⟩:=hp
    have hg:=yk.1 c1
    have e4:IntKind.i64.wrap (R.2.2.2.2.1+1)=R.2.2.2.2.1+1:=wr (by omega) (by omega)
    refine ⟨⟨c1,c2,c3,c4,⟨?_,?_⟩,fun e=> ?_,c7,c8,c9,c10,c11⟩,g2,g3,g4,g5⟩
    · show 0≤IntKind.i64.wrap (R.2.2.2.2.1+1); omega
    · show IntKind.i64.wrap (R.2.2.2.2.1+1)≤R.2.1.2; rw [e4,e1,e2]; omega
    · have:R.2.2.2.1= -1:=e
      omega
theorem ynM {a b:dA} (h:yl a=yl b):a.2.2.2.1=b.2.2.2.1:=congrArg (fun x=>x.2.2.1) h
theorem yMt (s:dS):yI (yA s)=true:=by
  unfold yA
  cases h:yd2 s
  · rfl
  · unfold yd2 at h
    simp only [ybB]at h
    cases hg:yb (s.2.2.2.1,s.2.2.2.2.1)
    · rw [hg]at h; cases h
    have hge:=yk.1 hg
    simp only at hge
    rw [hg,wr (show -9223372036854775808≤s.2.2.2.1 - 1 by omega) (by omega)] at h
    cases h2:(leb 1 s.1&&leb s.1 60000)
    · rw [h2]at h; cases h
    cases h3:(leb 0 s.2.1&&leb s.2.1 60000)
    · rw [h2,h3]at h; cases h
    cases h4:(leb 0 s.2.2.1&&leb s.2.2.1 (s.2.2.2.1 - 1))
    · rw [h2,h3,h4]at h; cases h
    cases h5:(leb 0 s.2.2.2.2.2.1&&leb s.2.2.2.2.2.1 60000)
    · rw [h2,h3,h4,h5]at h; cases h
    cases h6:(leb (-1) s.2.2.2.2.2.2.1&&leb s.2.2.2.2.2.2.1 (s.2.2.2.1 - 1))
    · rw [h2,h3,h4,h5,h6]at h; cases h
    cases h7:(leb 0 s.2.2.2.2.2.2.2&&leb s.2.2.2.2.2.2.2 s.2.2.2.2.1)
    · rw [h2,h3,h4,h5,h6,h7]at h; cases h
    simp only [Bool.and_eq_true,zjQ]at h2 h3 h4 h5 h6 h7
    rw [ykr]
    refine ⟨by show (9:Nat)≤12; omega,?_⟩
    have hw:IntKind.i64.wrap (s.2.2.2.2.2.2.1+1)=s.2.2.2.2.2.2.1+1:=wr (by omega) (by omega)
    simp only [Bool.not_true,cond_false,hw,List.mem_cons,List.not_mem_nil,or_false]
    rintro x (rfl | rfl | rfl | rfl | rfl | rfl | rfl | rfl | rfl)<;>omega
theorem yxx {g:dG} (id i:Int) (hg:yb g=true):ym (yr id g i)=true∧((yr id g i).1.length:Int)=6+g.2∧(yr id g i).2=([],false,[]):=by
  have hge:=yk.1 hg
  have hm:yaW (6+g.2)=(List.replicate (6+g.2).toNat [],[],false,[]):=by
    unfold yaW
    rw [zk0 (show 1≤6+g.2 by omega),zk0 (show 6+g.2≤20 by omega)]; rfl
  have key: ∀ (l:List Nat) (m:dM),m.1.all yI=true∧m.2=([],false,[])→(l.foldl ynS m).1.all yI=true∧(l.foldl ynS m).2=([],false,[]):=by
    intro l
    induction l with
    | nil=>intro m h; exact h
    | cons x t ih =>
      intro m h
      refine ih _ ⟨?_,h.2⟩
      rw [List.all_eq_true]
      intro y hy
      rcases List.mem_or_eq_of_mem_set hy with h1 | rfl
      · exact List.all_eq_true.1 h.1 y h1
      · rfl
  have ht:(yht id g i).1.all yI=true∧(yht id g i).2=([],false,[]):=by
    unfold yht
    rw [hm]
    refine ⟨?_,rfl⟩
    rw [List.all_eq_true]
    intro y hy
    rcases List.mem_or_eq_of_mem_set hy with h1 | rfl
    · rw [List.eq_of_mem_replicate h1]; rfl
    · exact yMt _
  have hl:((yr id g i).1.length:Int)=6+g.2:=by
    unfold yr
    rw [yB1]
    unfold yht
    rw [hm]
    show (((List.replicate (6+g.2).toNat ([]:List Int)).set 0 _).length:Int)=_
    rw [List.length_set,List.length_replicate]; omega
  obtain ⟨h1,h2⟩:=key (List.range g.2.toNat) _ ht
  refine ⟨ynb h1 ?_ ?_ ?_ ?_ ?_,hl,h2⟩
  · show List.all ((yr id g i).2).1 _=true
    rw [show (yr id g i).2=([],false,[]) from h2]; rfl
  · show ykV _ ((yr id g i).2).2.2=true
    rw [show (yr id g i).2=([],false,[]) from h2,ykc]
    exact ⟨fun x hx=>absurd hx List.not_mem_nil,List.Pairwise.nil⟩
  · show 1≤(yr id g i).1.length; omega
  · show (yr id g i).1.length≤20; omega
  · show ((yr id g i).2).1.length≤60
    rw [show (yr id g i).2=([],false,[]) from h2]; exact Nat.zero_le _
theorem yzk {id:Int} {g:dG} (hg:yb g=true) (h1:1≤id) (h2:id≤60000):yiG id g=(id,g,(List.range g.1.toNat).map (fun (i:Nat)=>yr id g i),-1,0,0,0,0,[],-1,false,false):=by
  unfold yiG
  rw [hg,zk0 h1,zk0 h2]
  have: ∀ (n:Nat),(List.range n).foldl (fun a (i:Nat)=>ysw a (yr id g i)) (ysz id g)=(id,g,(List.range n).map (fun (i:Nat)=>yr id g i),-1,0,0,0,0,[],-1,false,false):=by
    intro n
    induction n with
    | zero=>rfl
    | succ n ih=>rw [List.range_succ,List.foldl_append,ih,List.map_append]; rfl
  exact this _
theorem yMF {id:Int} {g:dG} (hg:yb g=true) (h1:1≤id) (h2:id≤60000):Wk 0 (yiG id g):=by
  have hge:=yk.1 hg
  rw [yzk hg h1 h2]
  have hl:((List.range g.1.toNat).map (fun (i:Nat)=>yr id g i)).length=g.1.toNat:=by rw [List.length_map,List.length_range]
  refine ⟨⟨hg,⟨h1,h2⟩,?_,⟨Int.le_refl _,?_⟩,⟨Int.le_refl _,?_⟩,fun _=>rfl,?_,?_,?_,?_,?_⟩,⟨⟨fun i hi=> ?_,?_⟩,?_,?_⟩,⟨rfl,rfl⟩,rfl,Int.le_refl _⟩
  · rfl
  · show (-1:Int)≤g.1 - 1; omega
  · show (0:Int)≤g.2; omega
  · show (0:Int)≤0∧(0:Int)≤60000; omega
  · show (0:Int)≤0∧(0:Int)≤60000; omega
  · show (0:Int)≤0+4; omega
  · show (0:Int)≤0; omega
  · show (0:Int)≤60000; omega
  · have hi':i < ((List.range g.1.toNat).map (fun (i:Nat)=>yr id g i)).length:=hi
    show yqT (-1) false g.2 i (nth ((List.range g.1.toNat).map (fun (i:Nat)=>yr id g i)) i noMem)
    rw [zjW,zcq hi',List.getElem_map,List.getElem_range]
    obtain ⟨k1,k2,k3⟩:=yxx id i hg
    refine ⟨k1,k2,fun e=> ?_⟩
    rw [show (yr id g i).2=([],false,[]) from k3]at e
    cases e
  · show (((List.range g.1.toNat).map (fun (i:Nat)=>yr id g i)).length:Int)=g.1
    rw [hl]; omega
  · show (-1:Int)≤ -1; omega
  · show (-1:Int)≤1000; omega
theorem yOv {k m n:Int} {a:dA} (h:Wk k a) (hm:inb m a.2.2.1.length=true):Wk k (setMem a m (spoil (nth a.2.2.1 m noMem) n)) :=
  yNY h hm (fun g=>⟨yMv n g.1,by rw [(yvE _ _).1]; exact g.2.1,by rw [(yvE _ _).2]; exact g.2.2⟩)
end
section
def yie:Code:=(Try.f117.body).getD .skip
def yma:Env:=zki TT [(60,yp)] [(28864,.fz),(28928,.fz)]
theorem yCQ:FrOk Try.prog ⟨yma,22,fun _=>none⟩ yie:=zkp yc yd ⟨yx,trivial⟩
def yui:Nat→Option Seg:=fun _=>none
def ya3:Shape:=⟨[(0,false,[.int .i64]),(2,false,[.ptr 0 0]),(3,false,[.ptr 12352 0]),(4,false,[.int .i64])],[(0,[.nil,.nil,.bool,.nil]),(12352,[.at 800000000,.nil,.bool,.nil])],[(800000000,tL,.fz)]⟩
def yeu:Shape:=⟨[(0,false,[.int .i64]),(2,false,[.ptr 0 0]),(3,false,[.ptr 12352 0]),(4,false,[.ci .i64 0])],[(0,[.nil,.nil,.bool,.nil]),(12352,[.at 800000000,.nil,.bool,.nil])],[(800000000,tL,.fz)]⟩
def yej:Shape:=⟨[(2,false,[.ptr 0 0]),(3,false,[.ptr 12352 0])],[(0,[.nil,.nil,.bool,.nil]),(12352,[.at 800000000,.nil,.bool,.nil])],[(800000000,tL,.fz)]⟩
def yhJ:Shape:=⟨[],[],[]⟩
abbrev ylB (v0:Int) (v1:Int) (v2:dM) (v3:dM):(ya3).X:=(((v0,()),((),()),((),()),(v1,()),()),(((),(),v2.2.2.1,(),()),((),(),v3.2.2.1,(),()),()),(v3.1,()))
abbrev yBl (v0:Int) (v1:dM) (v2:dM):(yeu).X:=(((v0,()),((),()),((),()),((),()),()),(((),(),v1.2.2.1,(),()),((),(),v2.2.2.1,(),()),()),(v2.1,()))
abbrev yBe (v0:dM) (v1:dM):(yej).X:=((((),()),((),()),()),(((),(),v0.2.2.1,(),()),((),(),v1.2.2.1,(),()),()),(v1.1,()))
def ylO (v0:Int) (v1:Int) (v2:Bool) (v3:Bool) (v4:List (List Int)):Option ((ya3).X ⊕ ((yej).X ⊕ (yhJ).X)) :=
  bif (ltb v1 v0) then
    bif (zj4 v4.length ([([]:List Int)]:List (List Int)).length 24) then
      some (.inl (((v0,()),((),()),((),()),((IntKind.i64.wrap (v1+1)),()),()),(((),(),v2,(),()),((),(),v3,(),()),()),((v4++([([]:List Int)]:List (List Int))),())))
    else none
  else
    some (.inr (.inl ((((),()),((),()),()),(((),(),v2,(),()),((),(),v3,(),()),()),(v4,()))))
def ybt (x:(ya3).X):=ylO x.1.1.1 x.1.2.2.2.1.1 x.2.1.1.2.2.1 x.2.1.2.1.2.2.1 x.2.2.1
def yru (x:(yeu).X):(ya3).X:=(((x.1.1.1,()),((),()),((),()),(0,()),()),(((),(),x.2.1.1.2.2.1,(),()),((),(),x.2.1.2.1.2.2.1,(),()),()),(x.2.2.1,()))
def ysD:Code:=(zdI yie 64 244).getD .skip
theorem yCk:zdI yie 64 61=some (.block 0 (.loop ysD)):=by kernel_rfl
theorem yEu (x:(ya3).X):zg7 ⟨yma,22,yui⟩ 0 ysD 244 ya3 yej yhJ x=ybt x:=by kernel_rfl
def yrF (x:(yeu).X):Nat:=(fun (u0:Int) (u1:Bool) (u2:Bool) (u3:List (List Int))=>18446744073709551616) x.1.1.1 x.2.1.1.2.2.1 x.2.1.2.1.2.2.1 x.2.2.1
def ymX (x:(yeu).X):Option ((yej).X ⊕ (yhJ).X):=zr ybt (yrF x) (yru x)
def yrV:Seg:=⟨yeu,yej,yhJ,ymX⟩
def yuj:Nat→Option Seg:=fun q=>bif Nat.beq q 61 then some yrV else yui q
theorem yCR:FrOk Try.prog ⟨yma,22,yuj⟩ yie:=(yCQ).loop (sg:=yrV) ya3 yru (by decide) yCk ybt yrF (by decide) (fun _=>rfl) (fun x r _ h=>h) yEu
abbrev yeZ:List Par:= [.rd tI]
abbrev ymw:List OT:= [⟨false,tM,(.pr (.ow .fz) (.pr (.ow (.pr .fz .fz)) (.pr .fz (.ow .fz))))⟩]
def yjI (a0:Int):Option (ResD ymw×MutD yeZ) :=
  let r1:=ya a0 1 20
  bif (!r1) then
    some ((([],[],false,[]),()),())
  else
    zjw (ymX (((a0,()),((),()),((),()),((),()),()),(((),(),false,(),()),((),(),false,(),()),()),([],()))) (fun y1 =>
      some (((y1.2.2.1,[],y1.2.1.2.1.2.2.1,[]),()),())) (fun y1 =>
      none)
theorem yKH (x:InD yeZ):zjH ⟨yma,22,yuj⟩ Try.f117.results.toList yie yeZ ymw x=yjI x.1:=by kernel_rfl
theorem yGX:ConOk Try.prog 117 ⟨yeZ,ymw,fun x=>yjI x.1⟩:=zkh (yCR) Try.func117 (by kernel_rfl) (by kernel_rfl) Try.ntmps117.symm (by decide) (fun x r h=>(yKH x).trans h)
def yci (a0:Int):dM:=yaW a0
theorem yIO (a0:Int) (hk:zi9 yeZ (a0,())):yjI a0=(fun n=>some ((n,()),())) (yci a0):=by
  unfold yjI yci yaW
  simp only [ybB]
  cases hc:(leb 1 a0&&leb a0 20)
  · rfl
  · rw [Bool.and_eq_true,zjQ,zjQ]at hc
    have h1:ymX (yBl a0 noMem noMem)=some (.inl (yBe noMem (List.replicate a0.toNat [],[],false,[]))) :=
      zjs (step:=ybt) (fun i=>ylB a0 i noMem (List.replicate i [],[],false,[])) a0.toNat _ (fun i hi=>by
        simp only [ybt,ylB,ylO,zjI (show (i:Int) < a0 by omega),cond_true,wr (show -9223372036854775808≤(i:Int)+1 by omega) (by omega),Int.natCast_add,Int.natCast_one,Int.toNat_natCast]
        rw [zkw.2 (show ((List.replicate i ([]:List Int)).length+([[]]:List (List Int)).length) * 24≤140737488355328 by simp only [List.length_cons,List.length_nil,List.length_replicate]; omega),← List.replicate_succ']; rfl) (by simp only [ybt,ylB,ylO,zkm (show a0≤(a0.toNat:Int) by omega),cond_false]) _ (by show _ < 18446744073709551616; omega)
    rw [h1]; rfl
def yoN:Con:=⟨yeZ,ymw,fun x=>(fun n=>some ((n,()),())) (yci x.1)⟩
theorem yw5:ConOk Try.prog 117 yoN:=(yGX).mono (fun x r hk h=>(yIO x.1 hk).trans h)
end
end
end Go.Tf
