/- Functions of the program, and what they come to. -/
import Derived.Test.YtfpjmijaiekbgaaGreatExactReplayF13
namespace Go.Tf
noncomputable section
open Go.Proofs
set_option synthInstance.maxHeartbeats 400000
set_option synthInstance.maxSize 10000
set_option linter.unusedVariables false
set_option linter.unusedSimpArgs false
set_option maxRecDepth 100000
section
def yzV:Code:=(Tryz.f100.body).getD .skip
def yAs:Env:=zki TT [(114,yp),(129,ypH)] []
theorem yGu:FrOk Tryz.prog ⟨yAs,14,fun _=>none⟩ yzV:=zkp yb yc ⟨yE,yxJ,trivial⟩
def yHc:Nat→Option Seg:=fun _=>none
abbrev yfx:List Par:= [.rd tG,.rd tI]
abbrev ykG:List OT:= [⟨false,tB,.fz⟩]
def yoR (a0:dG) (a1:Int):Option (ResD ykG×MutD yfx) :=
  let r1:=ydX a0
  bif r1 then
    let r2:=ye a1 0 (IntKind.i64.wrap (a0.2 - 1))
    some ((r2,()),())
  else
    some ((false,()),())
theorem yMd (x:InD yfx):zjH ⟨yAs,14,yHc⟩ Tryz.f100.results.toList yzV yfx ykG x=yoR x.1 x.2.1:=by kernel_rfl
theorem yIU:ConOk Tryz.prog 100 ⟨yfx,ykG,fun x=>yoR x.1 x.2.1⟩:=zkh (yGu) Tryz.func100 (by kernel_rfl) (by kernel_rfl) Tryz.ntmps100.symm (by decide) (fun x r h=>(yMd x).trans h)
def yaz (a0:dG) (a1:Int):Bool :=
  let r1:=ydX a0
  bif r1 then
    let r2:=ye a1 0 (IntKind.i64.wrap (a0.2 - 1))
    r2
  else
    false
def yhY:Con:=⟨yfx,ykG,fun x=>(fun n=>some ((n,()),())) (yaz x.1 x.2.1)⟩
theorem yKL (a0:dG) (a1:Int):yoR a0 a1=(fun n=>some ((n,()),())) (yaz a0 a1):=zkS (p:=fun (n:Bool)=>((n,()),())) (zkx (p:=fun (n:Bool)=>((n,()),())) rfl rfl)
theorem yqF:ConOk Tryz.prog 100 yhY:=(yIU).mono (fun x r _ h=>(yKL x.1 x.2.1).trans h)
theorem yLK (g:dG) (s:Int):yaz g s=yjh g s:=by
  unfold yaz yjh
  rw [yQD]
  cases hg:yf g
  · rfl
  have:=yaF.1 hg
  rw [yV,yiW,wr (by omega) (by omega)]; rfl
end
section
def yjm:Code:=(Tryz.f199.body).getD .skip
def ypf:Env:=zki TT [(93,yDi)] []
theorem yJ7:FrOk Tryz.prog ⟨ypf,15,fun _=>none⟩ yjm:=zkp yb yc ⟨yUm,trivial⟩
def yz6:Nat→Option Seg:=fun _=>none
def ycK:Shape:=⟨[(5,false,[.br tI]),(6,false,[.int .i64]),(7,false,[.int .i64])],[],[]⟩
def yiy:Shape:=⟨[(5,false,[.br tI]),(6,false,[.int .i64]),(7,false,[.ci .i64 0])],[],[]⟩
def yir:Shape:=⟨[],[],[]⟩
def yiM:Shape:=⟨[(2,false,[.bool])],[],[]⟩
def yoZ (v0:List Int) (v1:Int) (v2:Int):Option ((ycK).X ⊕ ((yir).X ⊕ (yiM).X)) :=
  bif (ltb v2 v1) then
    bif (inb v2 v0.length) then
      let r2:=yJ (nth v0 v2 0)
      bif (!r2) then
        some (.inr (.inr (((false,()),()),(),())))
      else
        some (.inl (((v0,()),(v1,()),((IntKind.i64.wrap (v2+1)),()),()),(),()))
    else none
  else
    some (.inr (.inl ((),(),())))
def ybl (x:(ycK).X):=yoZ x.1.1.1 x.1.2.1.1 x.1.2.2.1.1
def ywI (x:(yiy).X):(ycK).X:=(((x.1.1.1,()),(x.1.2.1.1,()),(0,()),()),(),())
def yyu:Code:=(zdI yjm 64 52).getD .skip
theorem yJD:zdI yjm 64 13=some (.block 0 (.loop yyu)):=by kernel_rfl
theorem yLn (x:(ycK).X):zg7 ⟨ypf,15,yz6⟩ 0 yyu 52 ycK yir yiM x=ybl x:=by kernel_rfl
def yw1 (x:(yiy).X):Nat:=(fun (u0:List Int) (u1:Int)=>18446744073709551616) x.1.1.1 x.1.2.1.1
def yqi (x:(yiy).X):Option ((yir).X ⊕ (yiM).X):=zr ybl (yw1 x) (ywI x)
def yxr:Seg:=⟨yiy,yir,yiM,yqi⟩
def yz7:Nat→Option Seg:=fun q=>bif Nat.beq q 13 then some yxr else yz6 q
theorem yJ8:FrOk Tryz.prog ⟨ypf,15,yz7⟩ yjm:=(yJ7).loop (sg:=yxr) ycK ywI (by decide) yJD ybl yw1 (by decide) (fun _=>rfl) (fun x r _ h=>h) yLn
abbrev yfk:List Par:= [.rd tL]
abbrev ypv:List OT:= [⟨false,tB,.fz⟩]
def yld (a0:List Int):Option (ResD ypv×MutD yfk) :=
  zjw (yqi (((a0,()),((a0.length:Int),()),((),()),()),(),())) (fun y2 =>
    some ((true,()),())) (fun y2 =>
    some ((y2.1.1.1,()),()))
theorem ySM (x:InD yfk):zjH ⟨ypf,15,yz7⟩ Tryz.f199.results.toList yjm yfk ypv x=yld x.1:=by kernel_rfl
theorem yN4:ConOk Tryz.prog 199 ⟨yfk,ypv,fun x=>yld x.1⟩:=zkh (yJ8) Tryz.func199 (by kernel_rfl) (by kernel_rfl) Tryz.ntmps199.symm (by decide) (fun x r h=>(ySM x).trans h)
def yC (a0:List Int):Bool:=a0.all yJ
theorem yQP (a0:List Int) (hk:zi9 yfk (a0,())):yld a0=(fun n=>some ((n,()),())) (yC a0):=by
  have hb:a0.length * 8≤2 ^ 47:=hk.1.1
  have hl:yqi (((a0,()),((a0.length:Int),()),((),()),()),(),())=some (bif a0.all yJ then .inl ((),(),()) else .inr (((false,()),()),(),())) :=
    zjS (step:=ybl) a0 0 (fun i=>(((a0,()),((a0.length:Int),()),((i:Int),()),()),(),())) yJ _ _ (fun i hi=>by
      simp only [ybl,yoZ,zkO hi,zjW,zjI (show (i:Int) < a0.length by omega),cond_true,wr (show -9223372036854775808≤(i:Int)+1 by omega) (by omega),Int.natCast_add,Int.natCast_one]
      cases yJ (a0.getD i 0)<;>rfl) (by simp only [ybl,yoZ,zkm (Int.le_refl _),cond_false]) _ (by show _ < 18446744073709551616; omega)
  unfold yld yC
  rw [hl]
  cases a0.all yJ<;>rfl
def ykX:Con:=⟨yfk,ypv,fun x=>(fun n=>some ((n,()),())) (yC x.1)⟩
theorem yuv:ConOk Tryz.prog 199 ykX:=(yN4).mono (fun x r hk h=>(yQP x.1 hk).trans h)
end
section
def yFB:Code:=(Tryz.f121.body).getD .skip
def yFW:Env:=zki TT [(199,ykX)] []
theorem yMq:FrOk Tryz.prog ⟨yFW,15,fun _=>none⟩ yFB:=zkp yb yc ⟨yuv,trivial⟩
def yO1:Nat→Option Seg:=fun _=>none
abbrev ylH:List Par:= [.rd tG,.rd tL]
abbrev yrz:List OT:= [⟨false,tB,.fz⟩]
def yuA (a0:dG) (a1:List Int):Option (ResD yrz×MutD ylH) :=
  bif ((a1.length:Int)==(IntKind.i64.wrap (a0.1 - 1))) then
    let r1:=yC a1
    some ((r1,()),())
  else
    some ((false,()),())
theorem yU9 (x:InD ylH):zjH ⟨yFW,15,yO1⟩ Tryz.f121.results.toList yFB ylH yrz x=yuA x.1 x.2.1:=by kernel_rfl
theorem yRb:ConOk Tryz.prog 121 ⟨ylH,yrz,fun x=>yuA x.1 x.2.1⟩:=zkh (yMq) Tryz.func121 (by kernel_rfl) (by kernel_rfl) Tryz.ntmps121.symm (by decide) (fun x r h=>(yU9 x).trans h)
def yl2 (a0:dG) (a1:List Int):Bool :=
  bif ((a1.length:Int)==(IntKind.i64.wrap (a0.1 - 1))) then
    let r1:=yC a1
    r1
  else
    false
def yDh:Con:=⟨ylH,yrz,fun x=>(fun n=>some ((n,()),())) (yl2 x.1 x.2.1)⟩
theorem yTj (a0:dG) (a1:List Int):yuA a0 a1=(fun n=>some ((n,()),())) (yl2 a0 a1):=zkS (p:=fun (n:Bool)=>((n,()),())) (zkx (p:=fun (n:Bool)=>((n,()),())) rfl rfl)
theorem yUl:ConOk Tryz.prog 121 yDh:=(yRb).mono (fun x r _ h=>(yTj x.1 x.2.1).trans h)
end
section
def yjl:Code:=(Tryz.f131.body).getD .skip
def ype:Env:=zki TT [(100,yhY),(121,yDh)] []
theorem yJ3:FrOk Tryz.prog ⟨ype,44,fun _=>none⟩ yjl:=zkp yb yc ⟨yqF,yUl,trivial⟩
def yz4:Nat→Option Seg:=fun _=>none
def ya2:Shape:=⟨[(1,false,[.ptr 0 0]),(6,false,[.br tW]),(7,false,[.int .i64]),(8,false,[.int .i64])],[(0,[.int .i64,.int .i64,.int .i64,.br tM,.int .i64,.int .i64,.int .i64,.int .i64,.int .i64,.br tW,.int .i64,.bool,.bool])],[]⟩
def yeR:Shape:=⟨[(1,false,[.ptr 0 0]),(6,false,[.br tW]),(7,false,[.int .i64]),(8,false,[.ci .i64 0])],[(0,[.int .i64,.int .i64,.int .i64,.br tM,.int .i64,.int .i64,.int .i64,.int .i64,.int .i64,.br tW,.int .i64,.bool,.bool])],[]⟩
def yeG:Shape:=⟨[],[],[]⟩
def yeZ:Shape:=⟨[(2,false,[.bool])],[],[]⟩
abbrev yoG (v0:List dW) (v1:Int) (v2:Int) (v3:dA):(ya2).X:=((((),()),(v0,()),(v1,()),(v2,()),()),((v3.1,v3.2.1.1,v3.2.1.2,v3.2.2.1,v3.2.2.2.1,v3.2.2.2.2.1,v3.2.2.2.2.2.1,v3.2.2.2.2.2.2.1,v3.2.2.2.2.2.2.2.1,v3.2.2.2.2.2.2.2.2.1,v3.2.2.2.2.2.2.2.2.2.1,v3.2.2.2.2.2.2.2.2.2.2.1,v3.2.2.2.2.2.2.2.2.2.2.2,()),()),())
abbrev yIC (v0:List dW) (v1:Int) (v2:dA):(yeR).X:=((((),()),(v0,()),(v1,()),((),()),()),((v2.1,v2.2.1.1,v2.2.1.2,v2.2.2.1,v2.2.2.2.1,v2.2.2.2.2.1,v2.2.2.2.2.2.1,v2.2.2.2.2.2.2.1,v2.2.2.2.2.2.2.2.1,v2.2.2.2.2.2.2.2.2.1,v2.2.2.2.2.2.2.2.2.2.1,v2.2.2.2.2.2.2.2.2.2.2.1,v2.2.2.2.2.2.2.2.2.2.2.2,()),()),())
abbrev yIs  :(yeG).X:=((),(),())
abbrev yIJ (v0:Bool):(yeZ).X:=(((v0,()),()),(),())
def yoY (v0:List dW) (v1:Int) (v2:Int) (v3:Int) (v4:Int) (v5:Int) (v6:List dM) (v7:Int) (v8:Int) (v9:Int) (v10:Int) (v11:Int) (v12:List dW) (v13:Int) (v14:Bool) (v15:Bool):Option ((ya2).X ⊕ ((yeG).X ⊕ (yeZ).X)) :=
  bif (ltb v2 v1) then
    bif (inb v2 v0.length) then
      let r4:=yaz (v4,v5) ((nth v0 v2 (0,[])).1)
      bif (!(!r4)) then
        bif (ltb 0 v2) then
          bif (inb (IntKind.i64.wrap (v2 - 1)) v12.length) then
            bif (!(leb ((nth v0 v2 (0,[])).1) ((nth v12 (IntKind.i64.wrap (v2 - 1)) (0,[])).1))) then
              let r5:=yl2 (v4,v5) ((nth v0 v2 (0,[])).2)
              bif (!r5) then
                some (.inr (.inr (((false,()),()),(),())))
              else
                some (.inl ((((),()),(v0,()),(v1,()),((IntKind.i64.wrap (v2+1)),()),()),((v3,v4,v5,v6,v7,v8,v9,v10,v11,v12,v13,v14,v15,()),()),()))
            else
              some (.inr (.inr (((false,()),()),(),())))
          else none
        else
          let r6:=yl2 (v4,v5) ((nth v0 v2 (0,[])).2)
          bif (!r6) then
            some (.inr (.inr (((false,()),()),(),())))
          else
            some (.inl ((((),()),(v0,()),(v1,()),((IntKind.i64.wrap (v2+1)),()),()),((v3,v4,v5,v6,v7,v8,v9,v10,v11,v12,v13,v14,v15,()),()),()))
      else
        some (.inr (.inr (((false,()),()),(),())))
    else none
  else
    some (.inr (.inl ((),(),())))
def ybk (x:(ya2).X):=yoY x.1.2.1.1 x.1.2.2.1.1 x.1.2.2.2.1.1 x.2.1.1.1 x.2.1.1.2.1 x.2.1.1.2.2.1 x.2.1.1.2.2.2.1 x.2.1.1.2.2.2.2.1 x.2.1.1.2.2.2.2.2.1 x.2.1.1.2.2.2.2.2.2.1 x.2.1.1.2.2.2.2.2.2.2.1 x.2.1.1.2.2.2.2.2.2.2.2.1 x.2.1.1.2.2.2.2.2.2.2.2.2.1 x.2.1.1.2.2.2.2.2.2.2.2.2.2.1 x.2.1.1.2.2.2.2.2.2.2.2.2.2.2.1 x.2.1.1.2.2.2.2.2.2.2.2.2.2.2.2.1
def ywH (x:(yeR).X):(ya2).X:=((((),()),(x.1.2.1.1,()),(x.1.2.2.1.1,()),(0,()),()),((x.2.1.1.1,x.2.1.1.2.1,x.2.1.1.2.2.1,x.2.1.1.2.2.2.1,x.2.1.1.2.2.2.2.1,x.2.1.1.2.2.2.2.2.1,x.2.1.1.2.2.2.2.2.2.1,x.2.1.1.2.2.2.2.2.2.2.1,x.2.1.1.2.2.2.2.2.2.2.2.1,x.2.1.1.2.2.2.2.2.2.2.2.2.1,x.2.1.1.2.2.2.2.2.2.2.2.2.2.1,x.2.1.1.2.2.2.2.2.2.2.2.2.2.2.1,x.2.1.1.2.2.2.2.2.2.2.2.2.2.2.2.1,()),()),())
def yyt:Code:=(zdI yjl 64 52).getD .skip
theorem yJC:zdI yjl 64 13=some (.block 0 (.loop yyt)):=by kernel_rfl
theorem yLm (x:(ya2).X):zg7 ⟨ype,44,yz4⟩ 0 yyt 52 ya2 yeG yeZ x=ybk x:=by kernel_rfl
def yw0 (x:(yeR).X):Nat:=(fun (u0:List dW) (u1:Int) (u2:Int) (u3:Int) (u4:Int) (u5:List dM) (u6:Int) (u7:Int) (u8:Int) (u9:Int) (u10:Int) (u11:List dW) (u12:Int) (u13:Bool) (u14:Bool)=>18446744073709551616) x.1.2.1.1 x.1.2.2.1.1 x.2.1.1.1 x.2.1.1.2.1 x.2.1.1.2.2.1 x.2.1.1.2.2.2.1 x.2.1.1.2.2.2.2.1 x.2.1.1.2.2.2.2.2.1 x.2.1.1.2.2.2.2.2.2.1 x.2.1.1.2.2.2.2.2.2.2.1 x.2.1.1.2.2.2.2.2.2.2.2.1 x.2.1.1.2.2.2.2.2.2.2.2.2.1 x.2.1.1.2.2.2.2.2.2.2.2.2.2.1 x.2.1.1.2.2.2.2.2.2.2.2.2.2.2.1 x.2.1.1.2.2.2.2.2.2.2.2.2.2.2.2.1
def yqh (x:(yeR).X):Option ((yeG).X ⊕ (yeZ).X):=zr ybk (yw0 x) (ywH x)
def yxq:Seg:=⟨yeR,yeG,yeZ,yqh⟩
def yz5:Nat→Option Seg:=fun q=>bif Nat.beq q 13 then some yxq else yz4 q
theorem yJ4:FrOk Tryz.prog ⟨ype,44,yz5⟩ yjl:=(yJ3).loop (sg:=yxq) ya2 ywH (by decide) yJC ybk yw0 (by decide) (fun _=>rfl) (fun x r _ h=>h) yLm
abbrev ydj:List Par:= [.rd tA]
abbrev yjQ:List OT:= [⟨false,tB,.fz⟩]
def ylc (a0:dA):Option (ResD yjQ×MutD ydj) :=
  zjw (yqh ((((),()),(a0.2.2.2.2.2.2.2.2.1,()),((a0.2.2.2.2.2.2.2.2.1.length:Int),()),((),()),()),((a0.1,a0.2.1.1,a0.2.1.2,a0.2.2.1,a0.2.2.2.1,a0.2.2.2.2.1,a0.2.2.2.2.2.1,a0.2.2.2.2.2.2.1,a0.2.2.2.2.2.2.2.1,a0.2.2.2.2.2.2.2.2.1,a0.2.2.2.2.2.2.2.2.2.1,a0.2.2.2.2.2.2.2.2.2.2.1,a0.2.2.2.2.2.2.2.2.2.2.2,()),()),())) (fun y6 =>
    some ((true,()),())) (fun y6 =>
    some ((y6.1.1.1,()),()))
theorem ySJ (x:InD ydj):zjH ⟨ype,44,yz5⟩ Tryz.f131.results.toList yjl ydj yjQ x=ylc x.1:=by kernel_rfl
theorem yN1:ConOk Tryz.prog 131 ⟨ydj,yjQ,fun x=>ylc x.1⟩:=zkh (yJ4) Tryz.func131 (by kernel_rfl) (by kernel_rfl) Tryz.ntmps131.symm (by decide) (fun x r h=>(ySJ x).trans h)
def yj7 (a0:dA):Bool:=ypL a0.2.1 a0.2.2.2.2.2.2.2.2.1
def yvJ (a0:dA):Bool:=yf a0.2.1
theorem yDC (l:List Int):yC l=l.all isW:=by
  unfold yC
  rw [show yJ=isW from funext fun x=>by unfold yJ; rw [yV,yiW]; rfl]
theorem yQM (a0:dA) (hk:zi9 ydj (a0,())) (hq:yvJ a0=true):ylc a0=(fun n=>some ((n,()),())) (yj7 a0):=by
  have hb:a0.2.2.2.2.2.2.2.2.1.length * 32≤2 ^ 47:=hk.1.2.2.2.2.2.2.2.2.1.1
  have hg:=yaF.1 hq
  have hq':yf a0.2.1=true:=hq
  have h1:yqh (yIC a0.2.2.2.2.2.2.2.2.1 a0.2.2.2.2.2.2.2.2.1.length a0)=some (bif (List.range a0.2.2.2.2.2.2.2.2.1.length).any (ypK a0.2.1 a0.2.2.2.2.2.2.2.2.1) then .inr (yIJ false) else .inl yIs) :=
    zf4 (step:=ybk) (fun i=>yoG a0.2.2.2.2.2.2.2.2.1 a0.2.2.2.2.2.2.2.2.1.length i a0) a0.2.2.2.2.2.2.2.2.1.length (ypK a0.2.1 a0.2.2.2.2.2.2.2.2.1) _ _ (fun i hi=>by
      simp only [ybk,yoG,yoY,zjI (show (i:Int) < a0.2.2.2.2.2.2.2.2.1.length by omega),cond_true,wr (show -9223372036854775808≤(i:Int)+1 by omega) (by omega),Int.natCast_add,Int.natCast_one,Int.toNat_natCast,zkO hi,zkV,yaz,yl2,yQD,hq',yV,yiW,yDC,wr (show -9223372036854775808≤a0.2.1.2 - 1 by omega) (by omega),wr (show -9223372036854775808≤a0.2.1.1 - 1 by omega) (by omega),ypK,bne]
      rcases Nat.eq_zero_or_pos i with rfl | h0
      · cases (leb 0 (nth a0.2.2.2.2.2.2.2.2.1 ((0:Nat):Int) (0,[])).1&&leb (nth a0.2.2.2.2.2.2.2.2.1 ((0:Nat):Int) (0,[])).1 (a0.2.1.2 - 1))<;>cases (((nth a0.2.2.2.2.2.2.2.2.1 ((0:Nat):Int) (0,[])).2.length:Int)==a0.2.1.1 - 1)<;>cases ((nth a0.2.2.2.2.2.2.2.2.1 ((0:Nat):Int) (0,[])).2.all isW)<;>rfl
      · rw [show IntKind.i64.wrap ((i:Int) - 1)=((i - 1:Nat):Int) by rw [wr (by omega) (by omega)]; omega,zkO (show i - 1 < a0.2.2.2.2.2.2.2.2.1.length by omega),zjI (show (0:Int) < i by omega),decide_eq_true h0]
        cases (leb 0 (nth a0.2.2.2.2.2.2.2.2.1 (i:Int) (0,[])).1&&leb (nth a0.2.2.2.2.2.2.2.2.1 (i:Int) (0,[])).1 (a0.2.1.2 - 1))<;>cases (((nth a0.2.2.2.2.2.2.2.2.1 (i:Int) (0,[])).2.length:Int)==a0.2.1.1 - 1)<;>cases ((nth a0.2.2.2.2.2.2.2.2.1 (i:Int) (0,[])).2.all isW)<;>cases leb (nth a0.2.2.2.2.2.2.2.2.1 (i:Int) (0,[])).1 (nth a0.2.2.2.2.2.2.2.2.1 ((i - 1:Nat):Int) (0,[])).1<;>rfl) (by simp only [ybk,yoG,yoY,zkm (Int.le_refl _),cond_false]) _ (by show _ < 18446744073709551616; omega)
  unfold ylc yj7 ypL
  rw [h1]
  cases (List.range a0.2.2.2.2.2.2.2.2.1.length).any (ypK a0.2.1 a0.2.2.2.2.2.2.2.2.1)<;>rfl
def ypR (a0:dA):Option (ResD yjQ×MutD ydj):=bif yvJ a0 then (fun n=>some ((n,()),())) (yj7 a0) else none
theorem yRY (a0:dA) (h:yvJ a0=true):ypR a0=(fun n=>some ((n,()),())) (yj7 a0):=by unfold ypR; rw [h]; rfl
def yAN:Con:=⟨ydj,yjQ,fun x=>ypR x.1⟩
theorem yRI:ConOk Tryz.prog 131 yAN:=(yN1).mono (fun x r hk h=>zkW h (fun hq=>yQM x.1 hk hq))
end
section
def yGT:Code:=(Tryz.f203.body).getD .skip
def yHf:Env:=zki TT [(199,ykX)] []
theorem yP4:FrOk Tryz.prog ⟨yHf,10,fun _=>none⟩ yGT:=zkp yb yc ⟨yuv,trivial⟩
def ySl:Nat→Option Seg:=fun _=>none
abbrev yok:List Par:= [.rd tL]
abbrev ytJ:List OT:= [⟨false,tB,.fz⟩]
def yvN (a0:List Int):Option (ResD ytJ×MutD yok) :=
  bif (leb (a0.length:Int) 12) then
    let r1:=yC a0
    some ((r1,()),())
  else
    some ((false,()),())
theorem yWH (x:InD yok):zjH ⟨yHf,10,ySl⟩ Tryz.f203.results.toList yGT yok ytJ x=yvN x.1:=by kernel_rfl
theorem yTQ:ConOk Tryz.prog 203 ⟨yok,ytJ,fun x=>yvN x.1⟩:=zkh (yP4) Tryz.func203 (by kernel_rfl) (by kernel_rfl) Tryz.ntmps203.symm (by decide) (fun x r h=>(yWH x).trans h)
def yfW (a0:List Int):Bool :=
  bif (leb (a0.length:Int) 12) then
    let r1:=yC a0
    r1
  else
    false
def yvC:Con:=⟨yok,ytJ,fun x=>(fun n=>some ((n,()),())) (yfW x.1)⟩
theorem yVJ (a0:List Int):yvN a0=(fun n=>some ((n,()),())) (yfW a0):=zkS (p:=fun (n:Bool)=>((n,()),())) (zkx (p:=fun (n:Bool)=>((n,()),())) rfl rfl)
theorem yGf:ConOk Tryz.prog 203 yvC:=(yTQ).mono (fun x r _ h=>(yVJ x.1).trans h)
theorem yDM:yfW=ybc:=funext fun s=>by
  unfold yfW ybc yC
  rw [show yJ=isW from funext fun x=>by unfold yJ; rw [yV,yiW]; rfl]
  cases leb (s.length:Int) 12<;>rfl
end
section
def yFC:Code:=(Tryz.f204.body).getD .skip
def yFX:Env:=zki TT [(114,yp)] []
theorem yMr:FrOk Tryz.prog ⟨yFX,11,fun _=>none⟩ yFC:=zkp yb yc ⟨yE,trivial⟩
def yO2:Nat→Option Seg:=fun _=>none
abbrev ylI:List Par:= [.rd tM,.rd tI]
abbrev yrA:List OT:= [⟨false,tB,.fz⟩]
def yuB (a0:dM) (a1:Int):Option (ResD yrA×MutD ylI) :=
  let r1:=ye a1 0 (IntKind.i64.wrap ((a0.1.length:Int) - 1))
  some ((r1,()),())
theorem yVa (x:InD ylI):zjH ⟨yFX,11,yO2⟩ Tryz.f204.results.toList yFC ylI yrA x=yuB x.1 x.2.1:=by kernel_rfl
theorem yRc:ConOk Tryz.prog 204 ⟨ylI,yrA,fun x=>yuB x.1 x.2.1⟩:=zkh (yMr) Tryz.func204 (by kernel_rfl) (by kernel_rfl) Tryz.ntmps204.symm (by decide) (fun x r h=>(yVa x).trans h)
def yaC (a0:dM) (a1:Int):Bool :=
  let r1:=ye a1 0 (IntKind.i64.wrap ((a0.1.length:Int) - 1))
  r1
def yno:Con:=⟨ylI,yrA,fun x=>(fun n=>some ((n,()),())) (yaC x.1 x.2.1)⟩
theorem yTk (a0:dM) (a1:Int):yuB a0 a1=(fun n=>some ((n,()),())) (yaC a0 a1):=zkS (p:=fun (n:Bool)=>((n,()),())) rfl
theorem yvG:ConOk Tryz.prog 204 yno:=(yRc).mono (fun x r _ h=>(yTk x.1 x.2.1).trans h)
end
end
end Go.Tf
