/- Functions of the program, and what they come to. -/
import Derived.Test.YtfpjmijaiekbgaaGreatExactBuildAllF8
namespace Go.Tf
noncomputable section
open Go.Proofs
set_option synthInstance.maxHeartbeats 400000
set_option synthInstance.maxSize 10000
set_option linter.unusedVariables false
set_option linter.unusedSimpArgs false
set_option maxRecDepth 100000
section
def yD7:Code:=(Tryz.f150.body).getD .skip
def yEo:Env:=zki TT [(98,yM)] []
theorem yKV:FrOk Tryz.prog ⟨yEo,9,fun _=>none⟩ yD7:=zkp yb yc ⟨yaE,trivial⟩
def yM4:Nat→Option Seg:=fun _=>none
abbrev ylh:List Par:= [.rd tI]
abbrev yqW:List OT:= [⟨false,tI,.fz⟩]
def ytx (a0:Int):Option (ResD yqW×MutD ylh) :=
  let r1:=ya a0 0 1099511627776
  bif (!r1) then
    some (((-1),()),())
  else
    some (((IntKind.i64.wrap ((IntKind.i64.wrap (a0+2))+4)),()),())
theorem ySV (x:InD ylh):zjH ⟨yEo,9,yM4⟩ Tryz.f150.results.toList yD7 ylh yqW x=ytx x.1:=by kernel_rfl
theorem yPg:ConOk Tryz.prog 150 ⟨ylh,yqW,fun x=>ytx x.1⟩:=zkh (yKV) Tryz.func150 (by kernel_rfl) (by kernel_rfl) Tryz.ntmps150.symm (by decide) (fun x r h=>(ySV x).trans h)
def ygA (a0:Int):Int :=
  let r1:=ya a0 0 1099511627776
  bif (!r1) then
    (-1)
  else
    (IntKind.i64.wrap ((IntKind.i64.wrap (a0+2))+4))
def ys7:Con:=⟨ylh,yqW,fun x=>(fun n=>some ((n,()),())) (ygA x.1)⟩
theorem yRg (a0:Int):ytx a0=(fun n=>some ((n,()),())) (ygA a0):=zkS (p:=fun (n:Int)=>((n,()),())) (zkx (p:=fun (n:Int)=>((n,()),())) rfl rfl)
theorem yDw:ConOk Tryz.prog 150 ys7:=(yPg).mono (fun x r _ h=>(yRg x.1).trans h)
theorem yuX (s:Int):ygA s=yqf s:=by
  unfold ygA yqf
  rw [ykx]
  by_cases h:0≤s∧s≤1099511627776
  · rw [zk0 h.1,zk0 h.2,wr (show -9223372036854775808≤s+2 by omega) (by omega),wr (by omega) (by omega)]
    show s+2+4=s+6
    omega
  · cases h1:(leb 0 s&&leb s 1099511627776)
    · rfl
    · rw [Bool.and_eq_true,zjQ,zjQ]at h1; exact absurd h1 h
end
section
def ynf:Code:=(Tryz.f252.body).getD .skip
def ysi:Env:=zki TT [] []
theorem yOq:FrOk Tryz.prog ⟨ysi,18,fun _=>none⟩ ynf:=zkp yb yc trivial
def yCH:Nat→Option Seg:=fun _=>none
def ycw:Shape:=⟨[(0,false,[.br tI]),(1,false,[.int .i64]),(5,false,[.int .i64])],[],[]⟩
def yhn:Shape:=⟨[(0,false,[.br tI]),(1,false,[.int .i64]),(5,false,[.ci .i64 0])],[],[]⟩
def yg8:Shape:=⟨[],[],[]⟩
def yhL:Shape:=⟨[(4,false,[.bool])],[],[]⟩
abbrev yrD (v0:List Int) (v1:Int) (v2:Int):(ycw).X:=(((v0,()),(v1,()),(v2,()),()),(),())
abbrev yLu (v0:List Int) (v1:Int):(yhn).X:=(((v0,()),(v1,()),((),()),()),(),())
abbrev yLm  :(yg8).X:=((),(),())
abbrev yLC (v0:Bool):(yhL).X:=(((v0,()),()),(),())
def yrY (v0:List Int) (v1:Int) (v2:Int):Option ((ycw).X ⊕ ((yg8).X ⊕ (yhL).X)) :=
  bif (ltb v2 (v0.length:Int)) then
    bif (inb v2 v0.length) then
      bif ((nth v0 v2 0)==v1) then
        some (.inr (.inr (((true,()),()),(),())))
      else
        some (.inl (((v0,()),(v1,()),((IntKind.i64.wrap (v2+1)),()),()),(),()))
    else none
  else
    some (.inr (.inl ((),(),())))
def ycW (x:(ycw).X):=yrY x.1.1.1 x.1.2.1.1 x.1.2.2.1.1
def yz4 (x:(yhn).X):(ycw).X:=(((x.1.1.1,()),(x.1.2.1.1,()),(0,()),()),(),())
def yBI:Code:=(zdI ynf 64 52).getD .skip
theorem yNj:zdI ynf 64 13=some (.block 0 (.loop yBI)):=by kernel_rfl
theorem yPW (x:(ycw).X):zg7 ⟨ysi,18,yCH⟩ 0 yBI 52 ycw yg8 yhL x=ycW x:=by kernel_rfl
def yAi (x:(yhn).X):Nat:=(fun (u0:List Int) (u1:Int)=>18446744073709551616) x.1.1.1 x.1.2.1.1
def yst (x:(yhn).X):Option ((yg8).X ⊕ (yhL).X):=zr ycW (yAi x) (yz4 x)
def yAG:Seg:=⟨yhn,yg8,yhL,yst⟩
def yCI:Nat→Option Seg:=fun q=>bif Nat.beq q 13 then some yAG else yCH q
theorem yOr:FrOk Tryz.prog ⟨ysi,18,yCI⟩ ynf:=(yOq).loop (sg:=yAG) ycw yz4 (by decide) yNj ycW yAi (by decide) (fun _=>rfl) (fun x r _ h=>h) yPW
abbrev yjz:List Par:= [.rd tL,.rd tI]
abbrev ysX:List OT:= [⟨false,tB,.fz⟩]
def ypm (a0:List Int) (a1:Int):Option (ResD ysX×MutD yjz) :=
  zjw (yst (((a0,()),(a1,()),((),()),()),(),())) (fun y0 =>
    some ((false,()),())) (fun y0 =>
    some ((y0.1.1.1,()),()))
theorem yUK (x:InD yjz):zjH ⟨ysi,18,yCI⟩ Tryz.f252.results.toList ynf yjz ysX x=ypm x.1 x.2.1:=by kernel_rfl
theorem yRU:ConOk Tryz.prog 252 ⟨yjz,ysX,fun x=>ypm x.1 x.2.1⟩:=zkh (yOr) Tryz.func252 (by kernel_rfl) (by kernel_rfl) Tryz.ntmps252.symm (by decide) (fun x r h=>(yUK x).trans h)
def yn5 (a0:List Int) (a1:Int):Bool:=a0.any (· ==a1)
theorem yTE (a0:List Int) (a1:Int) (hk:zi9 yjz (a0,a1,())):ypm a0 a1=(fun n=>some ((n,()),())) (yn5 a0 a1):=by
  have hb:a0.length * 8≤2 ^ 47:=hk.1.1
  have h1:yst (yLu a0 a1)=some (bif a0.all (· !=a1) then .inl yLm else .inr (yLC true)) :=
    zjS (step:=ycW) a0 0 (fun i=>yrD a0 a1 i) (· !=a1) _ _ (fun i hi=>by
      simp only [ycW,yrD,yrY,zjI (show (i:Int) < a0.length by omega),cond_true,wr (show -9223372036854775808≤(i:Int)+1 by omega) (by omega),Int.natCast_add,Int.natCast_one,Int.toNat_natCast,zkO hi,zjW,bne]
      cases (a0.getD i 0==a1)<;>rfl) (by simp only [ycW,yrD,yrY,zkm (Int.le_refl _),cond_false]) _ (by show _ < 18446744073709551616; omega)
  unfold ypm yn5
  rw [h1,show a0.any (· ==a1)= !(a0.all (· !=a1)) by simp [List.all_eq_not_any_not,bne]]
  cases a0.all (· !=a1)<;>rfl
def yDe:Con:=⟨yjz,ysX,fun x=>(fun n=>some ((n,()),())) (yn5 x.1 x.2.1)⟩
theorem yT7:ConOk Tryz.prog 252 yDe:=(yRU).mono (fun x r hk h=>(yTE x.1 x.2.1 hk).trans h)
end
section
def yja:Code:=(Tryz.f220.body).getD .skip
def yoz:Env:=zki TT [(98,yM),(218,yjH),(252,yDe)] []
theorem yIv:FrOk Tryz.prog ⟨yoz,60,fun _=>none⟩ yja:=zkp yb yc ⟨yaE,yra,yT7,trivial⟩
def yy8:Nat→Option Seg:=fun _=>none
def ya5:Shape:=⟨[(1,false,[.int .i64]),(2,false,[.ptr 0 0]),(6,false,[.br tI]),(7,false,[.int .i64])],[(0,[.br tL,.br tW,.bool,.br tI])],[]⟩
def yeP:Shape:=⟨[(1,false,[.int .i64]),(2,false,[.ptr 0 0]),(6,false,[.br tI]),(7,false,[.ci .i64 0])],[(0,[.br tL,.br tW,.bool,.br tI])],[]⟩
def yeG:Shape:=⟨[(6,false,[.br tI])],[],[]⟩
def yiF:Shape:=⟨[],[],[]⟩
abbrev ynV (v0:Int) (v1:List Int) (v2:Int) (v3:dM):(ya5).X:=(((v0,()),((),()),(v1,()),(v2,()),()),((v3.1,v3.2.1,v3.2.2.1,v3.2.2.2,()),()),())
abbrev yG4 (v0:Int) (v1:List Int) (v2:dM):(yeP).X:=(((v0,()),((),()),(v1,()),((),()),()),((v2.1,v2.2.1,v2.2.2.1,v2.2.2.2,()),()),())
abbrev ywa (v0:List Int):(yeG).X:=(((v0,()),()),(),())
def yok (v0:Int) (v1:List Int) (v2:Int) (v3:List (List Int)) (v4:List dW) (v5:Bool) (v6:List Int):Option ((ya5).X ⊕ ((yeG).X ⊕ (yiF).X)) :=
  bif (ltb v2 (v4.length:Int)) then
    bif (inb v2 v4.length) then
      bif ((nth v4 v2 (0,[])).1==v0) then
        bif (inb v2 v4.length) then
          some (.inl (((v0,()),((),()),((nth v4 v2 (0,[])).2,()),((IntKind.i64.wrap (v2+1)),()),()),((v3,v4,v5,v6,()),()),()))
        else none
      else
        some (.inl (((v0,()),((),()),(v1,()),((IntKind.i64.wrap (v2+1)),()),()),((v3,v4,v5,v6,()),()),()))
    else none
  else
    some (.inr (.inl (((v1,()),()),(),())))
def ybp (x:(ya5).X):=yok x.1.1.1 x.1.2.2.1.1 x.1.2.2.2.1.1 x.2.1.1.1 x.2.1.1.2.1 x.2.1.1.2.2.1 x.2.1.1.2.2.2.1
def yvJ (x:(yeP).X):(ya5).X:=(((x.1.1.1,()),((),()),(x.1.2.2.1.1,()),(0,()),()),((x.2.1.1.1,x.2.1.1.2.1,x.2.1.1.2.2.1,x.2.1.1.2.2.2.1,()),()),())
def yxm:Code:=(zdI yja 64 244).getD .skip
theorem yHZ:zdI yja 64 61=some (.block 0 (.loop yxm)):=by kernel_rfl
theorem yJG (x:(ya5).X):zg7 ⟨yoz,60,yy8⟩ 0 yxm 244 ya5 yeG yiF x=ybp x:=by kernel_rfl
def yvZ (x:(yeP).X):Nat:=(fun (u0:Int) (u1:List Int) (u2:List (List Int)) (u3:List dW) (u4:Bool) (u5:List Int)=>18446744073709551616) x.1.1.1 x.1.2.2.1.1 x.2.1.1.1 x.2.1.1.2.1 x.2.1.1.2.2.1 x.2.1.1.2.2.2.1
def ypA (x:(yeP).X):Option ((yeG).X ⊕ (yiF).X):=zr ybp (yvZ x) (yvJ x)
def ywo:Seg:=⟨yeP,yeG,yiF,ypA⟩
def yy9:Nat→Option Seg:=fun q=>bif Nat.beq q 61 then some ywo else yy8 q
theorem yIw:FrOk Tryz.prog ⟨yoz,60,yy9⟩ yja:=(yIv).loop (sg:=ywo) ya5 yvJ (by decide) yHZ ybp yvZ (by decide) (fun _=>rfl) (fun x r _ h=>h) yJG
abbrev yfj:List Par:= [.rd tM,.rd tI]
abbrev yoR:List OT:= [⟨false,tL,(.ow .fz)⟩,⟨false,tB,.fz⟩]
def ykO (a0:dM) (a1:Int):Option (ResD yoR×MutD yfj) :=
  let r1:=yaD a0
  bif (!(!r1)) then
    bif (!a0.2.2.1) then
      let r2:=ya a1 0 (IntKind.i64.wrap ((a0.1.length:Int) - 1))
      bif (!(!r2)) then
        let r3:=yn5 a0.2.2.2 a1
        bif r3 then
          some ((([]:List Int),false,()),())
        else
          bif (inb a1 a0.1.length) then
            zjw (ypA (((a1,()),((),()),((nth a0.1 a1 []),()),((),()),()),((a0.1,a0.2.1,a0.2.2.1,a0.2.2.2,()),()),())) (fun y3 =>
              bif (zj4 ([]:List Int).length y3.1.1.1.length 8) then
                some (((([]:List Int)++y3.1.1.1),true,()),())
              else none) (fun y3 =>
              none)
          else none
      else
        some ((([]:List Int),false,()),())
    else
      some ((([]:List Int),false,()),())
  else
    some ((([]:List Int),false,()),())
theorem yQF (x:InD yfj):zjH ⟨yoz,60,yy9⟩ Tryz.f220.results.toList yja yfj yoR x=ykO x.1 x.2.1:=by kernel_rfl
theorem yMd:ConOk Tryz.prog 220 ⟨yfj,yoR,fun x=>ykO x.1 x.2.1⟩:=zkh (yIw) Tryz.func220 (by kernel_rfl) (by kernel_rfl) Tryz.ntmps220.symm (by decide) (fun x r h=>(yQF x).trans h)
def yjL (a0:dM) (a1:Int):List Int×Bool:=yfp a0 a1
theorem yOP (a0:dM) (a1:Int) (hk:zi9 yfj (a0,a1,())):ykO a0 a1=(fun n=>some ((n.1,n.2,()),())) (yjL a0 a1):=by
  have hb1:a0.1.length * 24≤2 ^ 47:=hk.1.1.1
  have hb2:a0.2.1.length * 32≤2 ^ 47:=hk.1.2.1.1
  have h1: ∀ s,ypA (yG4 a1 s a0)=some (.inl (ywa (yDr a1 a0.2.1 s))):=fun s =>
    zkk (step:=ybp) a0.2.1 (0,[]) (fun i s=>ynV a1 s i a0) (fun s w=>bif w.1==a1 then w.2 else s) (fun _ _=>True) (fun s=> .inl (ywa s)) (fun i s hi _=>⟨by
      simp only [ybp,ynV,yok,zjI (show (i:Int) < a0.2.1.length by omega),cond_true,wr (show -9223372036854775808≤(i:Int)+1 by omega) (by omega),Int.natCast_add,Int.natCast_one,Int.toNat_natCast,zkO hi,zjW]
      cases ((a0.2.1.getD i (0,[])).1==a1)<;>rfl,trivial⟩) (fun s _=>by simp only [ybp,ynV,yok,zkm (Int.le_refl _),cond_false]) s trivial _ (by show _ < 18446744073709551616; omega)
  unfold ykO yjL yfp yHB
  rw [ynO (show a0.1.length≤1152921504606846976 by omega)]
  unfold yaD yn5
  simp only [h1,zkJ,List.nil_append]
  cases yn a0
  · rfl
  cases a0.2.2.1
  · cases hi:inb a1 a0.1.length
    · rfl
    · cases a0.2.2.2.any (· ==a1)
      · have hs:(yDr a1 a0.2.1 (nth a0.1 a1 [])).length * 8≤2 ^ 47 :=
          yOz (P:=fun s=>s.length * 8≤2 ^ 47) (yVq (P:=fun s:List Int=>s.length * 8≤2 ^ 47) hi fun x hx=>(hk.1.1.2 x hx).1) fun w hw=>(hk.1.2.1.2 w hw).2.1
        simp only [Bool.not_true,Bool.not_false,cond_true,cond_false,Bool.true_and,show zj4 ([]:List Int).length (yDr a1 a0.2.1 (nth a0.1 a1 [])).length 8=true from zkw.2 (by rw [List.length_nil]; omega)]
      · rfl
  · rfl
def yzO:Con:=⟨yfj,yoR,fun x=>(fun n=>some ((n.1,n.2,()),())) (yjL x.1 x.2.1)⟩
theorem yPC:ConOk Tryz.prog 220 yzO:=(yMd).mono (fun x r hk h=>(yOP x.1 x.2.1 hk).trans h)
end
section
def yD8:Code:=(Tryz.f227.body).getD .skip
def yEp:Env:=zki TT [(98,yM)] []
theorem yKW:FrOk Tryz.prog ⟨yEp,34,fun _=>none⟩ yD8:=zkp yb yc ⟨yaE,trivial⟩
def yM5:Nat→Option Seg:=fun _=>none
abbrev ygq:List Par:= [.rd tA,.rd tI,.rd tI]
abbrev yqX:List OT:= [⟨false,tB,.fz⟩]
def ym1 (a0:dA) (a1:Int) (a2:Int):Option (ResD yqX×MutD ygq) :=
  let r1:=ya a1 0 (IntKind.i64.wrap ((a0.2.2.1.length:Int) - 1))
  bif r1 then
    bif (inb a1 a0.2.2.1.length) then
      bif (!((((nth a0.2.2.1 a1 ([],[],false,[])).2).2).1)) then
        bif (!(a1 !=a0.2.2.2.1)) then
          some (((ltb a2 a0.2.2.2.2.1),()),())
        else
          some ((true,()),())
      else
        some ((false,()),())
    else none
  else
    some ((false,()),())
theorem ySW (x:InD ygq):zjH ⟨yEp,34,yM5⟩ Tryz.f227.results.toList yD8 ygq yqX x=ym1 x.1 x.2.1 x.2.2.1:=by kernel_rfl
theorem yPh:ConOk Tryz.prog 227 ⟨ygq,yqX,fun x=>ym1 x.1 x.2.1 x.2.2.1⟩:=zkh (yKW) Tryz.func227 (by kernel_rfl) (by kernel_rfl) Tryz.ntmps227.symm (by decide) (fun x r h=>(ySW x).trans h)
def ylv (a0:dA) (a1 a2:Int):Bool:=yql a0 a1 a2
theorem yRh (a0:dA) (a1 a2:Int) (hk:zi9 ygq (a0,a1,a2,())):ym1 a0 a1 a2=(fun n=>some ((n,()),())) (ylv a0 a1 a2):=by
  have hb:a0.2.2.1.length * 80≤2 ^ 47:=hk.1.2.2.1.1
  unfold ym1 ylv yql yf
  rw [ynO (show a0.2.2.1.length≤1152921504606846976 by omega)]
  cases inb a1 a0.2.2.1.length
  · rfl
  · cases (nth a0.2.2.1 a1 ([],[],false,[])).2.2.1<;>cases (a1 !=a0.2.2.2.1)<;>rfl
def yBV:Con:=⟨ygq,yqX,fun x=>(fun n=>some ((n,()),())) (ylv x.1 x.2.1 x.2.2.1)⟩
theorem yR8:ConOk Tryz.prog 227 yBV:=(yPh).mono (fun x r hk h=>(yRh x.1 x.2.1 x.2.2.1 hk).trans h)
end
section
def yEb:Code:=(Tryz.f210.body).getD .skip
def yEs:Env:=zki TT [(150,ys7),(220,yzO),(227,yBV)] []
theorem yK9:FrOk Tryz.prog ⟨yEs,36,fun _=>none⟩ yEb:=zkp yb yc ⟨yDw,yPC,yR8,trivial⟩
def yM8:Nat→Option Seg:=fun _=>none
abbrev ygu:List Par:= [.rd tA,.rd tI,.rd tI]
abbrev yq3:List OT:= [⟨false,tI,.fz⟩,⟨false,tB,.fz⟩]
def ym6 (a0:dA) (a1:Int) (a2:Int):Option (ResD yq3×MutD ygu) :=
  let r1:=ylv a0 a1 a2
  bif (!r1) then
    some ((0,false,()),())
  else
    bif (inb a1 a0.2.2.1.length) then
      let r2:=ygA a2
      let r3:=yjL ((nth a0.2.2.1 a1 ([],[],false,[])).1,((nth a0.2.2.1 a1 ([],[],false,[])).2).1,(((nth a0.2.2.1 a1 ([],[],false,[])).2).2)) r2
      bif (!(!r3.2)) then
        bif ((r3.1.length:Int) !=1) then
          some ((0,false,()),())
        else
          bif (inb 0 r3.1.length) then
            some (((nth r3.1 0 0),true,()),())
          else none
      else
        some ((0,false,()),())
    else none
theorem yS3 (x:InD ygu):zjH ⟨yEs,36,yM8⟩ Tryz.f210.results.toList yEb ygu yq3 x=ym6 x.1 x.2.1 x.2.2.1:=by kernel_rfl
theorem yPo:ConOk Tryz.prog 210 ⟨ygu,yq3,fun x=>ym6 x.1 x.2.1 x.2.2.1⟩:=zkh (yK9) Tryz.func210 (by kernel_rfl) (by kernel_rfl) Tryz.ntmps210.symm (by decide) (fun x r h=>(yS3 x).trans h)
def yly (a0:dA) (a1 a2:Int):Int×Bool:=(yAJ a0 a1 a2,yk a0 a1 a2)
theorem yRo (a0:dA) (a1 a2:Int) (hk:zi9 ygu (a0,a1,a2,())):ym6 a0 a1 a2=(fun n=>some ((n.1,n.2,()),())) (yly a0 a1 a2):=by
  unfold ym6 yly yAJ ylv
  simp only [zkV,yuX,yjL]
  rw [show yk a0 a1 a2=(yql a0 a1 a2&&((yds a0 a1 a2).2&&((yds a0 a1 a2).1.length:Int)==1)) from rfl]
  rw [show yfp (nth a0.2.2.1 a1 ([],[],false,[])) (yqf a2)=yds a0 a1 a2 from rfl]
  cases hl:yql a0 a1 a2
  · rfl
  · rw [show inb a1 a0.2.2.1.length=true by unfold yql at hl; exact (Bool.and_eq_true_iff.1 hl).1]
    cases (yds a0 a1 a2).2
    · rfl
    · rw [bne]
      cases h1:(((yds a0 a1 a2).1.length:Int)==1)
      · rfl
      · rw [show inb 0 (yds a0 a1 a2).1.length=true from zjP.2 (by have:=beq_iff_eq.1 h1; omega)]; rfl
def yBZ:Con:=⟨ygu,yq3,fun x=>(fun n=>some ((n.1,n.2,()),())) (yly x.1 x.2.1 x.2.2.1)⟩
theorem ySc:ConOk Tryz.prog 210 yBZ:=(yPo).mono (fun x r hk h=>(yRo x.1 x.2.1 x.2.2.1 hk).trans h)
end
section
def ydy:Code:=(Tryz.f212.body).getD .skip
def ygQ:Env:=zki TT [] []
theorem yDn:FrOk Tryz.prog ⟨ygQ,23,fun _=>none⟩ ydy:=zkp yb yc trivial
def yr8:Nat→Option Seg:=fun _=>none
def yQ:Shape:=⟨[(0,false,[.br tI]),(1,false,[.int .i64]),(5,false,[.int .i64]),(6,false,[.int .i64])],[],[]⟩
def ybZ:Shape:=⟨[(0,false,[.br tI]),(1,false,[.int .i64]),(5,false,[.ci .i64 0]),(6,false,[.ci .i64 0])],[],[]⟩
def ybX:Shape:=⟨[(5,false,[.int .i64])],[],[]⟩
def yel:Shape:=⟨[],[],[]⟩
abbrev yia (v0:List Int) (v1:Int) (v2:Int) (v3:Int):(yQ).X:=(((v0,()),(v1,()),(v2,()),(v3,()),()),(),())
abbrev yCf (v0:List Int) (v1:Int):(ybZ).X:=(((v0,()),(v1,()),((),()),((),()),()),(),())
abbrev yCd (v0:Int):(ybX).X:=(((v0,()),()),(),())
def yie (v0:List Int) (v1:Int) (v2:Int) (v3:Int):Option ((yQ).X ⊕ ((ybX).X ⊕ (yel).X)) :=
  bif (ltb v3 (v0.length:Int)) then
    bif (v3 !=v1) then
      bif (inb v3 v0.length) then
        some (.inl (((v0,()),(v1,()),((IntKind.i64.wrap ((BitVec.ofInt IntKind.i64.bits v2 ^^^ BitVec.ofInt IntKind.i64.bits (nth v0 v3 0)).toNat:Int)),()),((IntKind.i64.wrap (v3+1)),()),()),(),()))
      else none
    else
      some (.inl (((v0,()),(v1,()),(v2,()),((IntKind.i64.wrap (v3+1)),()),()),(),()))
  else
    some (.inr (.inl (((v2,()),()),(),())))
def yX (x:(yQ).X):=yie x.1.1.1 x.1.2.1.1 x.1.2.2.1.1 x.1.2.2.2.1.1
def yqh (x:(ybZ).X):(yQ).X:=(((x.1.1.1,()),(x.1.2.1.1,()),(0,()),(0,()),()),(),())
def yr3:Code:=(zdI ydy 64 116).getD .skip
theorem yCS:zdI ydy 64 29=some (.block 0 (.loop yr3)):=by kernel_rfl
theorem yDA (x:(yQ).X):zg7 ⟨ygQ,23,yr8⟩ 0 yr3 116 yQ ybX yel x=yX x:=by kernel_rfl
def yqj (x:(ybZ).X):Nat:=(fun (u0:List Int) (u1:Int)=>18446744073709551616) x.1.1.1 x.1.2.1.1
def yjf (x:(ybZ).X):Option ((ybX).X ⊕ (yel).X):=zr yX (yqj x) (yqh x)
def yqp:Seg:=⟨ybZ,ybX,yel,yjf⟩
def yr9:Nat→Option Seg:=fun q=>bif Nat.beq q 29 then some yqp else yr8 q
theorem yDo:FrOk Tryz.prog ⟨ygQ,23,yr9⟩ ydy:=(yDn).loop (sg:=yqp) yQ yqh (by decide) yCS yX yqj (by decide) (fun _=>rfl) (fun x r _ h=>h) yDA
abbrev ybP:List Par:= [.rd tL,.rd tI]
abbrev yht:List OT:= [⟨false,tI,.fz⟩]
def ye4 (a0:List Int) (a1:Int):Option (ResD yht×MutD ybP) :=
  zjw (yjf (((a0,()),(a1,()),((),()),((),()),()),(),())) (fun y0 =>
    some ((y0.1.1.1,()),())) (fun y0 =>
    none)
theorem yGh (x:InD ybP):zjH ⟨ygQ,23,yr9⟩ Tryz.f212.results.toList ydy ybP yht x=ye4 x.1 x.2.1:=by kernel_rfl
theorem yDQ:ConOk Tryz.prog 212 ⟨ybP,yht,fun x=>ye4 x.1 x.2.1⟩:=zkh (yDo) Tryz.func212 (by kernel_rfl) (by kernel_rfl) Tryz.ntmps212.symm (by decide) (fun x r h=>(yGh x).trans h)
def yd0 (a0:List Int) (a1:Int):Int:=ynP a0 a1
theorem yE4 (a0:List Int) (a1:Int) (hk:zi9 ybP (a0,a1,())):ye4 a0 a1=(fun n=>some ((n,()),())) (yd0 a0 a1):=by
  have hb:a0.length * 8≤2 ^ 47:=hk.1.1
  have h1:=zks (step:=yX) a0.length (fun i s=>yia a0 a1 s i) (fun n (i:Nat)=>bif (i:Int) !=a1 then xw n (nth a0 i 0) else n) (fun _ _=>True) (fun s=> .inl (yCd s)) (fun i s hi _=>⟨by
    simp only [yX,yia,yie,zjI (show (i:Int) < a0.length by omega),cond_true,wr (show -9223372036854775808≤(i:Int)+1 by omega) (by omega),Int.natCast_add,Int.natCast_one,Int.toNat_natCast,zkO hi]
    cases ((i:Int) !=a1)<;>rfl,trivial⟩) (fun s _=>by simp only [yX,yia,yie,zkm (Int.le_refl _),cond_false]) 0 trivial 18446744073709551616 (by omega)
  rw [yVM]at h1
  unfold ye4 yd0
  rw [show yjf (yCf a0 a1)=_ from h1]; rfl
def ys8:Con:=⟨ybP,yht,fun x=>(fun n=>some ((n,()),())) (yd0 x.1 x.2.1)⟩
theorem yE8:ConOk Tryz.prog 212 ys8:=(yDQ).mono (fun x r hk h=>(yE4 x.1 x.2.1 hk).trans h)
end
end
end Go.Tf
