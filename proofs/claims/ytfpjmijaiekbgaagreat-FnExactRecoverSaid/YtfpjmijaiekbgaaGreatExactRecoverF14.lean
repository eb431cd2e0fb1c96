/- Functions of the program, and what they come to. -/
import Derived.Test.YtfpjmijaiekbgaaGreatExactRecoverF13
namespace Go.Tf
noncomputable section
open Go.Proofs
set_option synthInstance.maxHeartbeats 400000
set_option synthInstance.maxSize 10000
set_option linter.unusedVariables false
set_option linter.unusedSimpArgs false
set_option maxRecDepth 100000
section
def yI2:Code:=(Tryz.f93.body).getD .skip
def yJr:Env:=zki TT [(114,yn)] []
theorem yQL:FrOk Tryz.prog ⟨yJr,5,fun _=>none⟩ yI2:=zkp yb yc ⟨yw,trivial⟩
def yTv:Nat→Option Seg:=fun _=>none
abbrev ynr:List Par:= [.rd tI]
abbrev ytG:List OT:= [⟨false,tB,.fz⟩]
def ywT (a0:Int):Option (ResD ytG×MutD ynr) :=
  let r1:=yd a0 0 65535
  some ((r1,()),())
theorem yZJ (x:InD ynr):zjH ⟨yJr,5,yTv⟩ Tryz.f93.results.toList yI2 ynr ytG x=ywT x.1:=by kernel_rfl
theorem yVO:ConOk Tryz.prog 93 ⟨ynr,ytG,fun x=>ywT x.1⟩:=zkh (yQL) Tryz.func93 (by kernel_rfl) (by kernel_rfl) Tryz.ntmps93.symm (by decide) (fun x r h=>(yZJ x).trans h)
def yQ (a0:Int):Bool :=
  let r1:=yd a0 0 65535
  r1
def yGr:Con:=⟨ynr,ytG,fun x=>(fun n=>some ((n,()),())) (yQ x.1)⟩
theorem yX0 (a0:Int):ywT a0=(fun n=>some ((n,()),())) (yQ a0):=zkS (p:=fun (n:Bool)=>((n,()),())) rfl
theorem yYU:ConOk Tryz.prog 93 yGr:=(yVO).mono (fun x r _ h=>(yX0 x.1).trans h)
end
section
def yCP:Code:=(Tryz.f100.body).getD .skip
def yDq:Env:=zki TT [(114,yn),(129,yrJ)] []
theorem yJ8:FrOk Tryz.prog ⟨yDq,14,fun _=>none⟩ yCP:=zkp yb yc ⟨yw,yAy,trivial⟩
def yKU:Nat→Option Seg:=fun _=>none
abbrev ygA:List Par:= [.rd tG,.rd tI]
abbrev ymd:List OT:= [⟨false,tB,.fz⟩]
def yqL (a0:dG) (a1:Int):Option (ResD ymd×MutD ygA) :=
  let r1:=yeJ a0
  bif r1 then
    let r2:=yd a1 0 (IntKind.i64.wrap (a0.2 - 1))
    some ((r2,()),())
  else
    some ((false,()),())
theorem yQv (x:InD ygA):zjH ⟨yDq,14,yKU⟩ Tryz.f100.results.toList yCP ygA ymd x=yqL x.1 x.2.1:=by kernel_rfl
theorem yMJ:ConOk Tryz.prog 100 ⟨ygA,ymd,fun x=>yqL x.1 x.2.1⟩:=zkh (yJ8) Tryz.func100 (by kernel_rfl) (by kernel_rfl) Tryz.ntmps100.symm (by decide) (fun x r h=>(yQv x).trans h)
def yaW (a0:dG) (a1:Int):Bool :=
  let r1:=yeJ a0
  bif r1 then
    let r2:=yd a1 0 (IntKind.i64.wrap (a0.2 - 1))
    r2
  else
    false
def yjf:Con:=⟨ygA,ymd,fun x=>(fun n=>some ((n,()),())) (yaW x.1 x.2.1)⟩
theorem yOQ (a0:dG) (a1:Int):yqL a0 a1=(fun n=>some ((n,()),())) (yaW a0 a1):=zkS (p:=fun (n:Bool)=>((n,()),())) (zkx (p:=fun (n:Bool)=>((n,()),())) rfl rfl)
theorem ysH:ConOk Tryz.prog 100 yjf:=(yMJ).mono (fun x r _ h=>(yOQ x.1 x.2.1).trans h)
theorem yPX (g:dG) (s:Int):yaW g s=ykH g s:=by
  unfold yaW ykH
  rw [yU5]
  cases hg:yg g
  · rfl
  have:=yaZ.1 hg
  rw [yM,yfg,wr (by omega) (by omega)]; rfl
end
section
def ykN:Code:=(Tryz.f199.body).getD .skip
def yra:Env:=zki TT [(93,yGr)] []
theorem yN5:FrOk Tryz.prog ⟨yra,15,fun _=>none⟩ ykN:=zkp yb yc ⟨yYU,trivial⟩
def yC2:Nat→Option Seg:=fun _=>none
def yc7:Shape:=⟨[(5,false,[.br tI]),(6,false,[.int .i64]),(7,false,[.int .i64])],[],[]⟩
def yjT:Shape:=⟨[(5,false,[.br tI]),(6,false,[.int .i64]),(7,false,[.ci .i64 0])],[],[]⟩
def yjM:Shape:=⟨[],[],[]⟩
def yj7:Shape:=⟨[(2,false,[.bool])],[],[]⟩
def yqT (v0:List Int) (v1:Int) (v2:Int):Option ((yc7).X ⊕ ((yjM).X ⊕ (yj7).X)) :=
  bif (ltb v2 v1) then
    bif (inb v2 v0.length) then
      let r2:=yQ (nth v0 v2 0)
      bif (!r2) then
        some (.inr (.inr (((false,()),()),(),())))
      else
        some (.inl (((v0,()),(v1,()),((IntKind.i64.wrap (v2+1)),()),()),(),()))
    else none
  else
    some (.inr (.inl ((),(),())))
def ybI (x:(yc7).X):=yqT x.1.1.1 x.1.2.1.1 x.1.2.2.1.1
def yzx (x:(yjT).X):(yc7).X:=(((x.1.1.1,()),(x.1.2.1.1,()),(0,()),()),(),())
def yBn:Code:=(zdI ykN 64 52).getD .skip
theorem yNy:zdI ykN 64 13=some (.block 0 (.loop yBn)):=by kernel_rfl
theorem yPA (x:(yc7).X):zg7 ⟨yra,15,yC2⟩ 0 yBn 52 yc7 yjM yj7 x=ybI x:=by kernel_rfl
def yzQ (x:(yjT).X):Nat:=(fun (u0:List Int) (u1:Int)=>18446744073709551616) x.1.1.1 x.1.2.1.1
def ysh (x:(yjT).X):Option ((yjM).X ⊕ (yj7).X):=zr ybI (yzQ x) (yzx x)
def yAg:Seg:=⟨yjT,yjM,yj7,ysh⟩
def yC3:Nat→Option Seg:=fun q=>bif Nat.beq q 13 then some yAg else yC2 q
theorem yN6:FrOk Tryz.prog ⟨yra,15,yC3⟩ ykN:=(yN5).loop (sg:=yAg) yc7 yzx (by decide) yNy ybI yzQ (by decide) (fun _=>rfl) (fun x r _ h=>h) yPA
abbrev ygf:List Par:= [.rd tL]
abbrev yrt:List OT:= [⟨false,tB,.fz⟩]
def ymP (a0:List Int):Option (ResD yrt×MutD ygf) :=
  zjw (ysh (((a0,()),((a0.length:Int),()),((),()),()),(),())) (fun y2 =>
    some ((true,()),())) (fun y2 =>
    some ((y2.1.1.1,()),()))
theorem yXk (x:InD ygf):zjH ⟨yra,15,yC3⟩ Tryz.f199.results.toList ykN ygf yrt x=ymP x.1:=by kernel_rfl
theorem ySs:ConOk Tryz.prog 199 ⟨ygf,yrt,fun x=>ymP x.1⟩:=zkh (yN6) Tryz.func199 (by kernel_rfl) (by kernel_rfl) Tryz.ntmps199.symm (by decide) (fun x r h=>(yXk x).trans h)
def yI (a0:List Int):Bool:=a0.all yQ
theorem yVn (a0:List Int) (hk:zi9 ygf (a0,())):ymP a0=(fun n=>some ((n,()),())) (yI a0):=by
  have hb:a0.length * 8≤2 ^ 47:=hk.1.1
  have hl:ysh (((a0,()),((a0.length:Int),()),((),()),()),(),())=some (bif a0.all yQ then .inl ((),(),()) else .inr (((false,()),()),(),())) :=
    zjS (step:=ybI) a0 0 (fun i=>(((a0,()),((a0.length:Int),()),((i:Int),()),()),(),())) yQ _ _ (fun i hi=>by
      simp only [ybI,yqT,zkO hi,zjW,zjI (show (i:Int) < a0.length by omega),cond_true,wr (show -9223372036854775808≤(i:Int)+1 by omega) (by omega),Int.natCast_add,Int.natCast_one]
      cases yQ (a0.getD i 0)<;>rfl) (by simp only [ybI,yqT,zkm (Int.le_refl _),cond_false]) _ (by show _ < 18446744073709551616; omega)
  unfold ymP yI
  rw [hl]
  cases a0.all yQ<;>rfl
def ymt:Con:=⟨ygf,yrt,fun x=>(fun n=>some ((n,()),())) (yI x.1)⟩
theorem ywM:ConOk Tryz.prog 199 ymt:=(ySs).mono (fun x r hk h=>(yVn x.1 hk).trans h)
end
section
def yI0:Code:=(Tryz.f121.body).getD .skip
def yJp:Env:=zki TT [(199,ymt)] []
theorem yQJ:FrOk Tryz.prog ⟨yJp,15,fun _=>none⟩ yI0:=zkp yb yc ⟨ywM,trivial⟩
def yTt:Nat→Option Seg:=fun _=>none
abbrev ynp:List Par:= [.rd tG,.rd tL]
abbrev ytE:List OT:= [⟨false,tB,.fz⟩]
def ywR (a0:dG) (a1:List Int):Option (ResD ytE×MutD ynp) :=
  bif ((a1.length:Int)==(IntKind.i64.wrap (a0.1 - 1))) then
    let r1:=yI a1
    some ((r1,()),())
  else
    some ((false,()),())
theorem yZH (x:InD ynp):zjH ⟨yJp,15,yTt⟩ Tryz.f121.results.toList yI0 ynp ytE x=ywR x.1 x.2.1:=by kernel_rfl
theorem yVM:ConOk Tryz.prog 121 ⟨ynp,ytE,fun x=>ywR x.1 x.2.1⟩:=zkh (yQJ) Tryz.func121 (by kernel_rfl) (by kernel_rfl) Tryz.ntmps121.symm (by decide) (fun x r h=>(yZH x).trans h)
def ynL (a0:dG) (a1:List Int):Bool :=
  bif ((a1.length:Int)==(IntKind.i64.wrap (a0.1 - 1))) then
    let r1:=yI a1
    r1
  else
    false
def yGq:Con:=⟨ynp,ytE,fun x=>(fun n=>some ((n,()),())) (ynL x.1 x.2.1)⟩
theorem yXY (a0:dG) (a1:List Int):ywR a0 a1=(fun n=>some ((n,()),())) (ynL a0 a1):=zkS (p:=fun (n:Bool)=>((n,()),())) (zkx (p:=fun (n:Bool)=>((n,()),())) rfl rfl)
theorem yYT:ConOk Tryz.prog 121 yGq:=(yVM).mono (fun x r _ h=>(yXY x.1 x.2.1).trans h)
end
section
def ykM:Code:=(Tryz.f131.body).getD .skip
def yq9:Env:=zki TT [(100,yjf),(121,yGq)] []
theorem yN1:FrOk Tryz.prog ⟨yq9,44,fun _=>none⟩ ykM:=zkp yb yc ⟨ysH,yYT,trivial⟩
def yC0:Nat→Option Seg:=fun _=>none
def ybp:Shape:=⟨[(1,false,[.ptr 0 0]),(6,false,[.br tW]),(7,false,[.int .i64]),(8,false,[.int .i64])],[(0,[.int .i64,.int .i64,.int .i64,.br tM,.int .i64,.int .i64,.int .i64,.int .i64,.int .i64,.br tW,.int .i64,.bool,.bool])],[]⟩
def yfN:Shape:=⟨[(1,false,[.ptr 0 0]),(6,false,[.br tW]),(7,false,[.int .i64]),(8,false,[.ci .i64 0])],[(0,[.int .i64,.int .i64,.int .i64,.br tM,.int .i64,.int .i64,.int .i64,.int .i64,.int .i64,.br tW,.int .i64,.bool,.bool])],[]⟩
def yfC:Shape:=⟨[],[],[]⟩
def yfV:Shape:=⟨[(2,false,[.bool])],[],[]⟩
abbrev yqC (v0:List dW) (v1:Int) (v2:Int) (v3:dA):(ybp).X:=((((),()),(v0,()),(v1,()),(v2,()),()),((v3.1,v3.2.1.1,v3.2.1.2,v3.2.2.1,v3.2.2.2.1,v3.2.2.2.2.1,v3.2.2.2.2.2.1,v3.2.2.2.2.2.2.1,v3.2.2.2.2.2.2.2.1,v3.2.2.2.2.2.2.2.2.1,v3.2.2.2.2.2.2.2.2.2.1,v3.2.2.2.2.2.2.2.2.2.2.1,v3.2.2.2.2.2.2.2.2.2.2.2,()),()),())
abbrev yMq (v0:List dW) (v1:Int) (v2:dA):(yfN).X:=((((),()),(v0,()),(v1,()),((),()),()),((v2.1,v2.2.1.1,v2.2.1.2,v2.2.2.1,v2.2.2.2.1,v2.2.2.2.2.1,v2.2.2.2.2.2.1,v2.2.2.2.2.2.2.1,v2.2.2.2.2.2.2.2.1,v2.2.2.2.2.2.2.2.2.1,v2.2.2.2.2.2.2.2.2.2.1,v2.2.2.2.2.2.2.2.2.2.2.1,v2.2.2.2.2.2.2.2.2.2.2.2,()),()),())
abbrev yMg  :(yfC).X:=((),(),())
abbrev yMx (v0:Bool):(yfV).X:=(((v0,()),()),(),())
def yqS (v0:List dW) (v1:Int) (v2:Int) (v3:Int) (v4:Int) (v5:Int) (v6:List dM) (v7:Int) (v8:Int) (v9:Int) (v10:Int) (v11:Int) (v12:List dW) (v13:Int) (v14:Bool) (v15:Bool):Option ((ybp).X ⊕ ((yfC).X ⊕ (yfV).X)) :=
  bif (ltb v2 v1) then
    bif (inb v2 v0.length) then
      let r4:=yaW (v4,v5) ((nth v0 v2 (0,[])).1)
      bif (!(!r4)) then
        bif (ltb 0 v2) then
          bif (inb (IntKind.i64.wrap (v2 - 1)) v12.length) then
            bif (!(leb ((nth v0 v2 (0,[])).1) ((nth v12 (IntKind.i64.wrap (v2 - 1)) (0,[])).1))) then
              let r5:=ynL (v4,v5) ((nth v0 v2 (0,[])).2)
              bif (!r5) then
                some (.inr (.inr (((false,()),()),(),())))
              else
                some (.inl ((((),()),(v0,()),(v1,()),((IntKind.i64.wrap (v2+1)),()),()),((v3,v4,v5,v6,v7,v8,v9,v10,v11,v12,v13,v14,v15,()),()),()))
            else
              some (.inr (.inr (((false,()),()),(),())))
          else none
        else
          let r6:=ynL (v4,v5) ((nth v0 v2 (0,[])).2)
          bif (!r6) then
            some (.inr (.inr (((false,()),()),(),())))
          else
            some (.inl ((((),()),(v0,()),(v1,()),((IntKind.i64.wrap (v2+1)),()),()),((v3,v4,v5,v6,v7,v8,v9,v10,v11,v12,v13,v14,v15,()),()),()))
      else
        some (.inr (.inr (((false,()),()),(),())))
    else none
  else
    some (.inr (.inl ((),(),())))
def ybH (x:(ybp).X):=yqS x.1.2.1.1 x.1.2.2.1.1 x.1.2.2.2.1.1 x.2.1.1.1 x.2.1.1.2.1 x.2.1.1.2.2.1 x.2.1.1.2.2.2.1 x.2.1.1.2.2.2.2.1 x.2.1.1.2.2.2.2.2.1 x.2.1.1.2.2.2.2.2.2.1 x.2.1.1.2.2.2.2.2.2.2.1 x.2.1.1.2.2.2.2.2.2.2.2.1 x.2.1.1.2.2.2.2.2.2.2.2.2.1 x.2.1.1.2.2.2.2.2.2.2.2.2.2.1 x.2.1.1.2.2.2.2.2.2.2.2.2.2.2.1 x.2.1.1.2.2.2.2.2.2.2.2.2.2.2.2.1
def yzw (x:(yfN).X):(ybp).X:=((((),()),(x.1.2.1.1,()),(x.1.2.2.1.1,()),(0,()),()),((x.2.1.1.1,x.2.1.1.2.1,x.2.1.1.2.2.1,x.2.1.1.2.2.2.1,x.2.1.1.2.2.2.2.1,x.2.1.1.2.2.2.2.2.1,x.2.1.1.2.2.2.2.2.2.1,x.2.1.1.2.2.2.2.2.2.2.1,x.2.1.1.2.2.2.2.2.2.2.2.1,x.2.1.1.2.2.2.2.2.2.2.2.2.1,x.2.1.1.2.2.2.2.2.2.2.2.2.2.1,x.2.1.1.2.2.2.2.2.2.2.2.2.2.2.1,x.2.1.1.2.2.2.2.2.2.2.2.2.2.2.2.1,()),()),())
def yBm:Code:=(zdI ykM 64 52).getD .skip
theorem yNx:zdI ykM 64 13=some (.block 0 (.loop yBm)):=by kernel_rfl
theorem yPz (x:(ybp).X):zg7 ⟨yq9,44,yC0⟩ 0 yBm 52 ybp yfC yfV x=ybH x:=by kernel_rfl
def yzP (x:(yfN).X):Nat:=(fun (u0:List dW) (u1:Int) (u2:Int) (u3:Int) (u4:Int) (u5:List dM) (u6:Int) (u7:Int) (u8:Int) (u9:Int) (u10:Int) (u11:List dW) (u12:Int) (u13:Bool) (u14:Bool)=>18446744073709551616) x.1.2.1.1 x.1.2.2.1.1 x.2.1.1.1 x.2.1.1.2.1 x.2.1.1.2.2.1 x.2.1.1.2.2.2.1 x.2.1.1.2.2.2.2.1 x.2.1.1.2.2.2.2.2.1 x.2.1.1.2.2.2.2.2.2.1 x.2.1.1.2.2.2.2.2.2.2.1 x.2.1.1.2.2.2.2.2.2.2.2.1 x.2.1.1.2.2.2.2.2.2.2.2.2.1 x.2.1.1.2.2.2.2.2.2.2.2.2.2.1 x.2.1.1.2.2.2.2.2.2.2.2.2.2.2.1 x.2.1.1.2.2.2.2.2.2.2.2.2.2.2.2.1
def ysg (x:(yfN).X):Option ((yfC).X ⊕ (yfV).X):=zr ybH (yzP x) (yzw x)
def yAf:Seg:=⟨yfN,yfC,yfV,ysg⟩
def yC1:Nat→Option Seg:=fun q=>bif Nat.beq q 13 then some yAf else yC0 q
theorem yN2:FrOk Tryz.prog ⟨yq9,44,yC1⟩ ykM:=(yN1).loop (sg:=yAf) ybp yzw (by decide) yNx ybH yzP (by decide) (fun _=>rfl) (fun x r _ h=>h) yPz
abbrev ydV:List Par:= [.rd tA]
abbrev ylm:List OT:= [⟨false,tB,.fz⟩]
def ymO (a0:dA):Option (ResD ylm×MutD ydV) :=
  zjw (ysg ((((),()),(a0.2.2.2.2.2.2.2.2.1,()),((a0.2.2.2.2.2.2.2.2.1.length:Int),()),((),()),()),((a0.1,a0.2.1.1,a0.2.1.2,a0.2.2.1,a0.2.2.2.1,a0.2.2.2.2.1,a0.2.2.2.2.2.1,a0.2.2.2.2.2.2.1,a0.2.2.2.2.2.2.2.1,a0.2.2.2.2.2.2.2.2.1,a0.2.2.2.2.2.2.2.2.2.1,a0.2.2.2.2.2.2.2.2.2.2.1,a0.2.2.2.2.2.2.2.2.2.2.2,()),()),())) (fun y6 =>
    some ((true,()),())) (fun y6 =>
    some ((y6.1.1.1,()),()))
theorem yXh (x:InD ydV):zjH ⟨yq9,44,yC1⟩ Tryz.f131.results.toList ykM ydV ylm x=ymO x.1:=by kernel_rfl
theorem ySp:ConOk Tryz.prog 131 ⟨ydV,ylm,fun x=>ymO x.1⟩:=zkh (yN2) Tryz.func131 (by kernel_rfl) (by kernel_rfl) Tryz.ntmps131.symm (by decide) (fun x r h=>(yXh x).trans h)
def ylC (a0:dA):Bool:=yrN a0.2.1 a0.2.2.2.2.2.2.2.2.1
def yyq (a0:dA):Bool:=yg a0.2.1
theorem yGN (l:List Int):yI l=l.all isW:=by
  unfold yI
  rw [show yQ=isW from funext fun x=>by unfold yQ; rw [yM,yfg]; rfl]
theorem yVk (a0:dA) (hk:zi9 ydV (a0,())) (hq:yyq a0=true):ymO a0=(fun n=>some ((n,()),())) (ylC a0):=by
  have hb:a0.2.2.2.2.2.2.2.2.1.length * 32≤2 ^ 47:=hk.1.2.2.2.2.2.2.2.2.1.1
  have hg:=yaZ.1 hq
  have hq':yg a0.2.1=true:=hq
  have h1:ysg (yMq a0.2.2.2.2.2.2.2.2.1 a0.2.2.2.2.2.2.2.2.1.length a0)=some (bif (List.range a0.2.2.2.2.2.2.2.2.1.length).any (yrM a0.2.1 a0.2.2.2.2.2.2.2.2.1) then .inr (yMx false) else .inl yMg) :=
    zf4 (step:=ybH) (fun i=>yqC a0.2.2.2.2.2.2.2.2.1 a0.2.2.2.2.2.2.2.2.1.length i a0) a0.2.2.2.2.2.2.2.2.1.length (yrM a0.2.1 a0.2.2.2.2.2.2.2.2.1) _ _ (fun i hi=>by
      simp only [ybH,yqC,yqS,zjI (show (i:Int) < a0.2.2.2.2.2.2.2.2.1.length by omega),cond_true,wr (show -9223372036854775808≤(i:Int)+1 by omega) (by omega),Int.natCast_add,Int.natCast_one,Int.toNat_natCast,zkO hi,zkV,yaW,ynL,yU5,hq',yM,yfg,yGN,wr (show -9223372036854775808≤a0.2.1.2 - 1 by omega) (by omega),wr (show -9223372036854775808≤a0.2.1.1 - 1 by omega) (by omega),yrM,bne]
      rcases Nat.eq_zero_or_pos i with rfl | h0
      · cases (leb 0 (nth a0.2.2.2.2.2.2.2.2.1 ((0:Nat):Int) (0,[])).1&&leb (nth a0.2.2.2.2.2.2.2.2.1 ((0:Nat):Int) (0,[])).1 (a0.2.1.2 - 1))<;>cases (((nth a0.2.2.2.2.2.2.2.2.1 ((0:Nat):Int) (0,[])).2.length:Int)==a0.2.1.1 - 1)<;>cases ((nth a0.2.2.2.2.2.2.2.2.1 ((0:Nat):Int) (0,[])).2.all isW)<;>rfl
      · rw [show IntKind.i64.wrap ((i:Int) - 1)=((i - 1:Nat):Int) by rw [wr (by omega) (by omega)]; omega,zkO (show i - 1 < a0.2.2.2.2.2.2.2.2.1.length by omega),zjI (show (0:Int) < i by omega),decide_eq_true h0]
        cases (leb 0 (nth a0.2.2.2.2.2.2.2.2.1 (i:Int) (0,[])).1&&leb (nth a0.2.2.2.2.2.2.2.2.1 (i:Int) (0,[])).1 (a0.2.1.2 - 1))<;>cases (((nth a0.2.2.2.2.2.2.2.2.1 (i:Int) (0,[])).2.length:Int)==a0.2.1.1 - 1)<;>cases ((nth a0.2.2.2.2.2.2.2.2.1 (i:Int) (0,[])).2.all isW)<;>cases leb (nth a0.2.2.2.2.2.2.2.2.1 (i:Int) (0,[])).1 (nth a0.2.2.2.2.2.2.2.2.1 ((i - 1:Nat):Int) (0,[])).1<;>rfl) (by simp only [ybH,yqC,yqS,zkm (Int.le_refl _),cond_false]) _ (by show _ < 18446744073709551616; omega)
  unfold ymO ylC yrN
  rw [h1]
  cases (List.range a0.2.2.2.2.2.2.2.2.1.length).any (yrM a0.2.1 a0.2.2.2.2.2.2.2.2.1)<;>rfl
def yrR (a0:dA):Option (ResD ylm×MutD ydV):=bif yyq a0 then (fun n=>some ((n,()),())) (ylC a0) else none
theorem yWy (a0:dA) (h:yyq a0=true):yrR a0=(fun n=>some ((n,()),())) (ylC a0):=by unfold yrR; rw [h]; rfl
def yDM:Con:=⟨ydV,ylm,fun x=>yrR x.1⟩
theorem yWi:ConOk Tryz.prog 131 yDM:=(ySp).mono (fun x r hk h=>zkW h (fun hq=>yVk x.1 hk hq))
end
section
def yKG:Code:=(Tryz.f203.body).getD .skip
def yKX:Env:=zki TT [(199,ymt)] []
theorem yUB:FrOk Tryz.prog ⟨yKX,10,fun _=>none⟩ yKG:=zkp yb yc ⟨ywM,trivial⟩
def yWU:Nat→Option Seg:=fun _=>none
abbrev yql:List Par:= [.rd tL]
abbrev yvS:List OT:= [⟨false,tB,.fz⟩]
def yyv (a0:List Int):Option (ResD yvS×MutD yql) :=
  bif (leb (a0.length:Int) 12) then
    let r1:=yI a0
    some ((r1,()),())
  else
    some ((false,()),())
theorem y00 (x:InD yql):zjH ⟨yKX,10,yWU⟩ Tryz.f203.results.toList yKG yql yvS x=yyv x.1:=by kernel_rfl
theorem yYt:ConOk Tryz.prog 203 ⟨yql,yvS,fun x=>yyv x.1⟩:=zkh (yUB) Tryz.func203 (by kernel_rfl) (by kernel_rfl) Tryz.ntmps203.symm (by decide) (fun x r h=>(y00 x).trans h)
def yg2 (a0:List Int):Bool :=
  bif (leb (a0.length:Int) 12) then
    let r1:=yI a0
    r1
  else
    false
def yyi:Con:=⟨yql,yvS,fun x=>(fun n=>some ((n,()),())) (yg2 x.1)⟩
theorem y0d (a0:List Int):yyv a0=(fun n=>some ((n,()),())) (yg2 a0):=zkS (p:=fun (n:Bool)=>((n,()),())) (zkx (p:=fun (n:Bool)=>((n,()),())) rfl rfl)
theorem yJM:ConOk Tryz.prog 203 yyi:=(yYt).mono (fun x r _ h=>(y0d x.1).trans h)
theorem yG4:yg2=ybz:=funext fun s=>by
  unfold yg2 ybz yI
  rw [show yQ=isW from funext fun x=>by unfold yQ; rw [yM,yfg]; rfl]
  cases leb (s.length:Int) 12<;>rfl
end
end
end Go.Tf
