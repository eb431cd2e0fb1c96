/- Functions of the program, and what they come to. -/
import Derived.Test.YtgmadfpnljibhaaGreatBuiltBentF19
namespace Go.Tf
noncomputable section
open Go.Proofs
set_option synthInstance.maxHeartbeats 400000
set_option synthInstance.maxSize 10000
set_option linter.unusedVariables false
set_option linter.unusedSimpArgs false
set_option maxRecDepth 100000
section
def yHm:Code:=(Tryz.f117.body).getD .skip
def yHP:Env:=zki TT [(47,yD9),(108,yu5),(156,yBG)] []
theorem yOG:FrOk Tryz.prog ⟨yHP,38,fun _=>none⟩ yHm:=zkp yc yd ⟨yWA,yGo,yT7,trivial⟩
def yRd:Nat→Option Seg:=fun _=>none
abbrev yfx:List Par:= [.rd tA,.rd tI,.rd tI]
abbrev ymN:List OT:= [⟨false,tI,.fz⟩,⟨false,tB,.fz⟩]
def yow (a0:dA) (a1:Int) (a2:Int):Option (ResD ymN×MutD yfx) :=
  bif (inb a1 a0.2.2.1.length) then
    let r1:=ymW a2
    let r2:=ylb ((nth a0.2.2.1 a1 ([],[],false,[])).1,((nth a0.2.2.1 a1 ([],[],false,[])).2).1,(((nth a0.2.2.1 a1 ([],[],false,[])).2).2)) r1
    let r3:=ymX a0 a1 a2
    bif (!(!r3)) then
      bif (!(!r2.2)) then
        bif ((r2.1.length:Int) !=1) then
          some ((0,false,()),())
        else
          bif (inb 0 r2.1.length) then
            some (((nth r2.1 0 0),true,()),())
          else none
      else
        some ((0,false,()),())
    else
      some ((0,false,()),())
  else none
theorem yXG (x:InD yfx):zjH ⟨yHP,38,yRd⟩ Tryz.f117.results.toList yHm yfx ymN x=yow x.1 x.2.1 x.2.2.1:=by kernel_rfl
theorem yTF:ConOk Tryz.prog 117 ⟨yfx,ymN,fun x=>yow x.1 x.2.1 x.2.2.1⟩:=zkh (yOG) Tryz.func117 (by kernel_rfl) (by kernel_rfl) Tryz.ntmps117.symm (by decide) (fun x r h=>(yXG x).trans h)
def ym0 (a0:dA) (a1 a2:Int):Int×Bool:=(yxl a0 a1 a2,yn a0 a1 a2)
def yyY (a0:dA) (a1 a2:Int):Bool:=inb a1 a0.2.2.1.length
theorem yVI (a0:dA) (a1 a2:Int) (hk:zi9 yfx (a0,a1,a2,())) (hq:yyY a0 a1 a2=true):yow a0 a1 a2=(fun n=>some ((n.1,n.2,()),())) (ym0 a0 a1 a2):=by
  unfold yow ym0 yxl ymX
  simp only [zkV,yGh,ylb]
  rw [show yn a0 a1 a2=(ydk a0 a1 a2&&((yew a0 a1 a2).2&&((yew a0 a1 a2).1.length:Int)==1)) from rfl]
  rw [show ydy (nth a0.2.2.1 a1 ([],[],false,[])) (ycA a2)=yew a0 a1 a2 from rfl]
  rw [show inb a1 a0.2.2.1.length=true from hq]
  cases hl:ydk a0 a1 a2
  · rfl
  · cases (yew a0 a1 a2).2
    · rfl
    · rw [bne]
      cases h1:(((yew a0 a1 a2).1.length:Int)==1)
      · rfl
      · rw [show inb 0 (yew a0 a1 a2).1.length=true from zjP.2 (by have:=beq_iff_eq.1 h1; omega)]; rfl
def ysI (a0:dA) (a1:Int) (a2:Int):Option (ResD ymN×MutD yfx):=bif yyY a0 a1 a2 then (fun n=>some ((n.1,n.2,()),())) (ym0 a0 a1 a2) else none
theorem yWU (a0:dA) (a1:Int) (a2:Int) (h:yyY a0 a1 a2=true):ysI a0 a1 a2=(fun n=>some ((n.1,n.2,()),())) (ym0 a0 a1 a2):=by unfold ysI; rw [h]; rfl
def yEd:Con:=⟨yfx,ymN,fun x=>ysI x.1 x.2.1 x.2.2.1⟩
theorem yWE:ConOk Tryz.prog 117 yEd:=(yTF).mono (fun x r hk h=>zkW h (fun hq=>yVI x.1 x.2.1 x.2.2.1 hk hq))
end
section
def yoN:Code:=(Tryz.f214.body).getD .skip
def yub:Env:=zki TT [] []
theorem ySp:FrOk Tryz.prog ⟨yub,17,fun _=>none⟩ yoN:=zkp yc yd trivial
def yFk:Nat→Option Seg:=fun _=>none
def yc6:Shape:=⟨[(3,false,[.int .i64]),(6,false,[.br tI]),(7,false,[.int .i64]),(8,false,[.int .i64])],[],[]⟩
def yiL:Shape:=⟨[(3,false,[.ci .i64 0]),(6,false,[.br tI]),(7,false,[.int .i64]),(8,false,[.ci .i64 0])],[],[]⟩
def yiw:Shape:=⟨[(3,false,[.int .i64])],[],[]⟩
def yn8:Shape:=⟨[],[],[]⟩
abbrev yti (v0:Int) (v1:List Int) (v2:Int) (v3:Int):(yc6).X:=(((v0,()),(v1,()),(v2,()),(v3,()),()),(),())
abbrev yPA (v0:List Int) (v1:Int):(yiL).X:=((((),()),(v0,()),(v1,()),((),()),()),(),())
abbrev yCq (v0:Int):(yiw).X:=(((v0,()),()),(),())
def ytH (v0:Int) (v1:List Int) (v2:Int) (v3:Int):Option ((yc6).X ⊕ ((yiw).X ⊕ (yn8).X)) :=
  bif (ltb v3 v2) then
    bif (inb v3 v1.length) then
      some (.inl ((((IntKind.i64.wrap ((BitVec.ofInt IntKind.i64.bits v0 ^^^ BitVec.ofInt IntKind.i64.bits (nth v1 v3 0)).toNat:Int)),()),(v1,()),(v2,()),((IntKind.i64.wrap (v3+1)),()),()),(),()))
    else none
  else
    some (.inr (.inl (((v0,()),()),(),())))
def ydD (x:(yc6).X):=ytH x.1.1.1 x.1.2.1.1 x.1.2.2.1.1 x.1.2.2.2.1.1
def yBX (x:(yiL).X):(yc6).X:=(((0,()),(x.1.2.1.1,()),(x.1.2.2.1.1,()),(0,()),()),(),())
def yDY:Code:=(zdI yoN 64 116).getD .skip
theorem yRz:zdI yoN 64 29=some (.block 0 (.loop yDY)):=by kernel_rfl
theorem yUq (x:(yc6).X):zg7 ⟨yub,17,yFk⟩ 0 yDY 116 yc6 yiw yn8 x=ydD x:=by kernel_rfl
def yCd (x:(yiL).X):Nat:=(fun (u0:List Int) (u1:Int)=>18446744073709551616) x.1.2.1.1 x.1.2.2.1.1
def yup (x:(yiL).X):Option ((yiw).X ⊕ (yn8).X):=zr ydD (yCd x) (yBX x)
def yCP:Seg:=⟨yiL,yiw,yn8,yup⟩
def yFl:Nat→Option Seg:=fun q=>bif Nat.beq q 29 then some yCP else yFk q
theorem ySq:FrOk Tryz.prog ⟨yub,17,yFl⟩ yoN:=(ySp).loop (sg:=yCP) yc6 yBX (by decide) yRz ydD yCd (by decide) (fun _=>rfl) (fun x r _ h=>h) yUq
abbrev ykA:List Par:= [.rd tL]
abbrev yuI:List OT:= [⟨false,tI,.fz⟩]
def yqO (a0:List Int):Option (ResD yuI×MutD ykA) :=
  zjw (yup ((((),()),(a0,()),((a0.length:Int),()),((),()),()),(),())) (fun y0 =>
    some ((y0.1.1.1,()),())) (fun y0 =>
    none)
theorem yZa (x:InD ykA):zjH ⟨yub,17,yFl⟩ Tryz.f214.results.toList yoN ykA yuI x=yqO x.1:=by kernel_rfl
theorem yWb:ConOk Tryz.prog 214 ⟨ykA,yuI,fun x=>yqO x.1⟩:=zkh (ySq) Tryz.func214 (by kernel_rfl) (by kernel_rfl) Tryz.ntmps214.symm (by decide) (fun x r h=>(yZa x).trans h)
def ypN (a0:List Int):Int:=yoK a0
theorem yYj (a0:List Int) (hk:zi9 ykA (a0,())):yqO a0=(fun n=>some ((n,()),())) (ypN a0):=by
  have hb:a0.length * 8≤2 ^ 47:=hk.1.1
  have h1:yup (yPA a0 a0.length)=some (.inl (yCq (yoK a0))) :=
    zkk (step:=ydD) a0 0 (fun i s=>yti s a0 a0.length i) xw (fun _ _=>True) (fun s=> .inl (yCq s)) (fun i s hi _=>⟨by
      simp only [ydD,yti,ytH,zjI (show (i:Int) < a0.length by omega),cond_true,wr (show -9223372036854775808≤(i:Int)+1 by omega) (by omega),Int.natCast_add,Int.natCast_one,Int.toNat_natCast,zkO hi,zjW]; rfl,trivial⟩) (fun s _=>by simp only [ydD,yti,ytH,zkm (Int.le_refl _),cond_false]) 0 trivial _ (by show _ < 18446744073709551616; omega)
  unfold yqO ypN
  rw [h1]; rfl
def yFY:Con:=⟨ykA,yuI,fun x=>(fun n=>some ((n,()),())) (ypN x.1)⟩
theorem yYE:ConOk Tryz.prog 214 yFY:=(yWb).mono (fun x r hk h=>(yYj x.1 hk).trans h)
end
section
def yxs:Code:=(Tryz.f204.body).getD .skip
def yxA:Env:=zki TT [(126,yJ),(214,yFY)] []
theorem yGb:FrOk Tryz.prog ⟨yxA,20,fun _=>none⟩ yxs:=zkp yc yd ⟨yaa,yYE,trivial⟩
def yGA:Nat→Option Seg:=fun _=>none
abbrev ycq:List Par:= [.rd tL,.rd tI]
abbrev yiY:List OT:= [⟨false,tI,.fz⟩]
def ygj (a0:List Int) (a1:Int):Option (ResD yiY×MutD ycq) :=
  let r1:=ypN a0
  let r2:=yh a1 0 (IntKind.i64.wrap ((a0.length:Int) - 1))
  bif r2 then
    bif (inb a1 a0.length) then
      some (((IntKind.i64.wrap ((BitVec.ofInt IntKind.i64.bits r1 ^^^ BitVec.ofInt IntKind.i64.bits (nth a0 a1 0)).toNat:Int)),()),())
    else none
  else
    some ((r1,()),())
theorem yJ1 (x:InD ycq):zjH ⟨yxA,20,yGA⟩ Tryz.f204.results.toList yxs ycq yiY x=ygj x.1 x.2.1:=by kernel_rfl
theorem yG1:ConOk Tryz.prog 204 ⟨ycq,yiY,fun x=>ygj x.1 x.2.1⟩:=zkh (yGb) Tryz.func204 (by kernel_rfl) (by kernel_rfl) Tryz.ntmps204.symm (by decide) (fun x r h=>(yJ1 x).trans h)
def ye0 (a0:List Int) (a1:Int):Int:=ypA a0 a1
theorem yIO (a0:List Int) (a1:Int) (hk:zi9 ycq (a0,a1,())):ygj a0 a1=(fun n=>some ((n,()),())) (ye0 a0 a1):=by
  have hb:a0.length * 8≤2 ^ 47:=hk.1.1
  unfold ygj ye0 ypA ypN
  rw [yaw,ypz (show a0.length≤1152921504606846976 by omega)]
  cases inb a1 a0.length<;>rfl
def yu6:Con:=⟨ycq,yiY,fun x=>(fun n=>some ((n,()),())) (ye0 x.1 x.2.1)⟩
theorem yIU:ConOk Tryz.prog 204 yu6:=(yG1).mono (fun x r hk h=>(yIO x.1 x.2.1 hk).trans h)
end
section
def yoM:Code:=(Tryz.f106.body).getD .skip
def yua:Env:=zki TT [(45,yk5),(116,ypt),(117,yEd),(204,yu6)] []
theorem ySn:FrOk Tryz.prog ⟨yua,62,fun _=>none⟩ yoM:=zkp yc yd ⟨ysL,yAm,yWE,yIU,trivial⟩
def yFi:Nat→Option Seg:=fun _=>none
def yb8:Shape:=⟨[(1,false,[.int .i64]),(2,false,[.ptr 0 0]),(6,false,[.at 800000000]),(7,false,[.int .i64]),(28,false,[.int .i64]),(29,false,[.int .i64])],[(0,[.int .i64,.int .i64,.int .i64,.br tM,.int .i64,.int .i64,.int .i64,.int .i64,.int .i64,.br tW,.int .i64,.bool,.bool])],[(800000000,tI,.fz)]⟩
def yha:Shape:=⟨[(1,false,[.int .i64]),(2,false,[.ptr 0 0]),(6,false,[.at 800000000]),(7,false,[.ci .i64 (-1)]),(28,false,[.int .i64]),(29,false,[.ci .i64 0])],[(0,[.int .i64,.int .i64,.int .i64,.br tM,.int .i64,.int .i64,.int .i64,.int .i64,.int .i64,.br tW,.int .i64,.bool,.bool])],[(800000000,tI,.fz)]⟩
def ygY:Shape:=⟨[(6,false,[.at 800000000]),(7,false,[.int .i64])],[],[(800000000,tI,.fz)]⟩
def yhp:Shape:=⟨[(4,false,[.nil]),(5,false,[.bool])],[],[]⟩
abbrev yrm (v0:Int) (v1:Int) (v2:Int) (v3:Int) (v4:dA) (v5:List Int):(yb8).X:=(((v0,()),((),()),((),()),(v1,()),(v2,()),(v3,()),()),((v4.1,v4.2.1.1,v4.2.1.2,v4.2.2.1,v4.2.2.2.1,v4.2.2.2.2.1,v4.2.2.2.2.2.1,v4.2.2.2.2.2.2.1,v4.2.2.2.2.2.2.2.1,v4.2.2.2.2.2.2.2.2.1,v4.2.2.2.2.2.2.2.2.2.1,v4.2.2.2.2.2.2.2.2.2.2.1,v4.2.2.2.2.2.2.2.2.2.2.2,()),()),(v5,()))
abbrev yMI (v0:Int) (v1:Int) (v2:dA) (v3:List Int):(yha).X:=(((v0,()),((),()),((),()),((),()),(v1,()),((),()),()),((v2.1,v2.2.1.1,v2.2.1.2,v2.2.2.1,v2.2.2.2.1,v2.2.2.2.2.1,v2.2.2.2.2.2.1,v2.2.2.2.2.2.2.1,v2.2.2.2.2.2.2.2.1,v2.2.2.2.2.2.2.2.2.1,v2.2.2.2.2.2.2.2.2.2.1,v2.2.2.2.2.2.2.2.2.2.2.1,v2.2.2.2.2.2.2.2.2.2.2.2,()),()),(v3,()))
abbrev yMB (v0:Int) (v1:List Int):(ygY).X:=((((),()),(v0,()),()),(),(v1,()))
abbrev yMT (v0:Bool):(yhp).X:=((((),()),(v0,()),()),(),())
def yrB (v0:Int) (v1:Int) (v2:Int) (v3:Int) (v4:Int) (v5:Int) (v6:Int) (v7:List dM) (v8:Int) (v9:Int) (v10:Int) (v11:Int) (v12:Int) (v13:List dW) (v14:Int) (v15:Bool) (v16:Bool) (v17:List Int):Option ((yb8).X ⊕ ((ygY).X ⊕ (yhp).X)) :=
  bif (ltb v3 v2) then
    bnd (ysI (v4,(v5,v6),v7,v8,v9,v10,v11,v12,v13,v14,v15,v16) v3 v0) fun r4 =>
    bif (!r4.1.2.1) then
      bif (leb 0 v1) then
        some (.inr (.inr ((((),()),(false,()),()),(),())))
      else
        bif (!r4.1.2.1) then
          bif (zj4 v17.length ([r4.1.1]:List Int).length 8) then
            some (.inl (((v0,()),((),()),((),()),(v3,()),(v2,()),((IntKind.i64.wrap (v3+1)),()),()),((v4,v5,v6,v7,v8,v9,v10,v11,v12,v13,v14,v15,v16,()),()),((v17++([r4.1.1]:List Int)),())))
          else none
        else
          bif (zj4 v17.length ([r4.1.1]:List Int).length 8) then
            some (.inl (((v0,()),((),()),((),()),(v1,()),(v2,()),((IntKind.i64.wrap (v3+1)),()),()),((v4,v5,v6,v7,v8,v9,v10,v11,v12,v13,v14,v15,v16,()),()),((v17++([r4.1.1]:List Int)),())))
          else none
    else
      bif (!r4.1.2.1) then
        bif (zj4 v17.length ([r4.1.1]:List Int).length 8) then
          some (.inl (((v0,()),((),()),((),()),(v3,()),(v2,()),((IntKind.i64.wrap (v3+1)),()),()),((v4,v5,v6,v7,v8,v9,v10,v11,v12,v13,v14,v15,v16,()),()),((v17++([r4.1.1]:List Int)),())))
        else none
      else
        bif (zj4 v17.length ([r4.1.1]:List Int).length 8) then
          some (.inl (((v0,()),((),()),((),()),(v1,()),(v2,()),((IntKind.i64.wrap (v3+1)),()),()),((v4,v5,v6,v7,v8,v9,v10,v11,v12,v13,v14,v15,v16,()),()),((v17++([r4.1.1]:List Int)),())))
        else none
  else
    some (.inr (.inl ((((),()),(v1,()),()),(),(v17,()))))
def ycL (x:(yb8).X):=yrB x.1.1.1 x.1.2.2.2.1.1 x.1.2.2.2.2.1.1 x.1.2.2.2.2.2.1.1 x.2.1.1.1 x.2.1.1.2.1 x.2.1.1.2.2.1 x.2.1.1.2.2.2.1 x.2.1.1.2.2.2.2.1 x.2.1.1.2.2.2.2.2.1 x.2.1.1.2.2.2.2.2.2.1 x.2.1.1.2.2.2.2.2.2.2.1 x.2.1.1.2.2.2.2.2.2.2.2.1 x.2.1.1.2.2.2.2.2.2.2.2.2.1 x.2.1.1.2.2.2.2.2.2.2.2.2.2.1 x.2.1.1.2.2.2.2.2.2.2.2.2.2.2.1 x.2.1.1.2.2.2.2.2.2.2.2.2.2.2.2.1 x.2.2.1
def yzR (x:(yha).X):(yb8).X:=(((x.1.1.1,()),((),()),((),()),((-1),()),(x.1.2.2.2.2.1.1,()),(0,()),()),((x.2.1.1.1,x.2.1.1.2.1,x.2.1.1.2.2.1,x.2.1.1.2.2.2.1,x.2.1.1.2.2.2.2.1,x.2.1.1.2.2.2.2.2.1,x.2.1.1.2.2.2.2.2.2.1,x.2.1.1.2.2.2.2.2.2.2.1,x.2.1.1.2.2.2.2.2.2.2.2.1,x.2.1.1.2.2.2.2.2.2.2.2.2.1,x.2.1.1.2.2.2.2.2.2.2.2.2.2.1,x.2.1.1.2.2.2.2.2.2.2.2.2.2.2.1,x.2.1.1.2.2.2.2.2.2.2.2.2.2.2.2.1,()),()),(x.2.2.1,()))
def yBu:Code:=(zdI yoM 64 500).getD .skip
theorem yN4:zdI yoM 64 125=some (.block 0 (.loop yBu)):=by kernel_rfl
theorem yQN (x:(yb8).X):zg7 ⟨yua,62,yFi⟩ 0 yBu 500 yb8 ygY yhp x=ycL x:=by kernel_rfl
def yz3 (x:(yha).X):Nat:=(fun (u0:Int) (u1:Int) (u2:Int) (u3:Int) (u4:Int) (u5:List dM) (u6:Int) (u7:Int) (u8:Int) (u9:Int) (u10:Int) (u11:List dW) (u12:Int) (u13:Bool) (u14:Bool) (u15:List Int)=>18446744073709551616) x.1.1.1 x.1.2.2.2.2.1.1 x.2.1.1.1 x.2.1.1.2.1 x.2.1.1.2.2.1 x.2.1.1.2.2.2.1 x.2.1.1.2.2.2.2.1 x.2.1.1.2.2.2.2.2.1 x.2.1.1.2.2.2.2.2.2.1 x.2.1.1.2.2.2.2.2.2.2.1 x.2.1.1.2.2.2.2.2.2.2.2.1 x.2.1.1.2.2.2.2.2.2.2.2.2.1 x.2.1.1.2.2.2.2.2.2.2.2.2.2.1 x.2.1.1.2.2.2.2.2.2.2.2.2.2.2.1 x.2.1.1.2.2.2.2.2.2.2.2.2.2.2.2.1 x.2.2.1
def ysT (x:(yha).X):Option ((ygY).X ⊕ (yhp).X):=zr ycL (yz3 x) (yzR x)
def yAp:Seg:=⟨yha,ygY,yhp,ysT⟩
def yFj:Nat→Option Seg:=fun q=>bif Nat.beq q 125 then some yAp else yFi q
theorem ySo:FrOk Tryz.prog ⟨yua,62,yFj⟩ yoM:=(ySn).loop (sg:=yAp) yb8 yzR (by decide) yN4 ycL yz3 (by decide) (fun _=>rfl) (fun x r _ h=>h) yQN
abbrev ykz:List Par:= [.rd tA,.rd tI]
abbrev yuH:List OT:= [⟨false,tL,(.ow .fz)⟩,⟨false,tB,.fz⟩]
def yqN (a0:dA) (a1:Int):Option (ResD yuH×MutD ykz) :=
  let r1:=ybg a0
  bif (!(!r1)) then
    bif (!a0.2.2.2.2.2.2.2.2.2.2.2) then
      let r2:=ycl a0.2.1 a1
      bif (!r2) then
        some (([],false,()),())
      else
        zjw (ysT (((a1,()),((),()),((),()),((),()),((a0.2.2.1.length:Int),()),((),()),()),((a0.1,a0.2.1.1,a0.2.1.2,a0.2.2.1,a0.2.2.2.1,a0.2.2.2.2.1,a0.2.2.2.2.2.1,a0.2.2.2.2.2.2.1,a0.2.2.2.2.2.2.2.1,a0.2.2.2.2.2.2.2.2.1,a0.2.2.2.2.2.2.2.2.2.1,a0.2.2.2.2.2.2.2.2.2.2.1,a0.2.2.2.2.2.2.2.2.2.2.2,()),()),(([]:List Int),()))) (fun y4 =>
          bif (leb 0 y4.1.2.1.1) then
            let r6:=ye0 y4.2.2.1 y4.1.2.1.1
            bif (inb y4.1.2.1.1 y4.2.2.1.length) then
              some (((y4.2.2.1.set (y4.1.2.1.1).toNat r6),true,()),())
            else none
          else
            some ((y4.2.2.1,true,()),())) (fun y4 =>
          some (([],y4.1.2.1.1,()),()))
    else
      some (([],false,()),())
  else
    some (([],false,()),())
theorem yY9 (x:InD ykz):zjH ⟨yua,62,yFj⟩ Tryz.f106.results.toList yoM ykz yuH x=yqN x.1 x.2.1:=by kernel_rfl
theorem yWa:ConOk Tryz.prog 106 ⟨ykz,yuH,fun x=>yqN x.1 x.2.1⟩:=zkh (ySo) Tryz.func106 (by kernel_rfl) (by kernel_rfl) Tryz.ntmps106.symm (by decide) (fun x r h=>(yY9 x).trans h)
def ypM (a0:dA) (a1:Int):List Int×Bool:=bif ym a0&&(!a0.2.2.2.2.2.2.2.2.2.2.2&&ycW a0.2.1 a1) then yZ a0 a1 else ([],false)
theorem yYi (a0:dA) (a1:Int) (hk:zi9 ykz (a0,a1,())):yqN a0 a1=(fun n=>some ((n.1,n.2,()),())) (ypM a0 a1):=by
  unfold yqN ypM ybg
  rw [yZ5]
  cases ha:ym a0
  · rfl
  have hg:=yk.1 (ybI ha)
  have hl:=yxD ha
  have h1:ysT (yMI a1 a0.2.2.1.length a0 [])=some (bif yGR (fun (i:Nat)=>yn a0 i a1) a0.2.1.1.toNat then .inr (yMT false) else .inl (yMB (yI (fun (i:Nat)=>yn a0 i a1) a0.2.1.1.toNat) (y5 a0 a1 a0.2.1.1.toNat))) :=
    zf4 (step:=ycL) (fun i=>yrm a1 (yI (fun (i:Nat)=>yn a0 i a1) i) a0.2.2.1.length i a0 (y5 a0 a1 i)) a0.2.1.1.toNat (fun i=> !yn a0 i a1&&leb 0 (yI (fun (i:Nat)=>yn a0 i a1) i)) _ _ (fun i hi=>by
      simp only [ycL,yrm,yrB,zjI (show (i:Int) < a0.2.2.1.length by omega),cond_true,wr (show -9223372036854775808≤(i:Int)+1 by omega) (by omega),Int.natCast_add,Int.natCast_one,Int.toNat_natCast,zkV,yWU a0 i a1 (zkO (show i < a0.2.2.1.length by omega)),ym0,zky,yI]
      rw [zkw.2 (show ((y5 a0 a1 i).length+ [yxl a0 i a1].length) * 8≤140737488355328 by simp only [List.length_cons,List.length_nil,yp6]; omega),yIh]
      cases yn a0 i a1<;>cases leb 0 (yI (fun (i:Nat)=>yn a0 i a1) i)<;>rfl) (by simp only [ycL,yrm,yrB,zkm (show (a0.2.2.1.length:Int)≤(a0.2.1.1.toNat:Int) by omega),cond_false]) _ (by show _ < 18446744073709551616; omega)
  rw [h1]
  cases a0.2.2.2.2.2.2.2.2.2.2.2
  · cases ycW a0.2.1 a1
    · rfl
    · unfold yZ
      cases yGR (fun (i:Nat)=>yn a0 i a1) a0.2.1.1.toNat
      · simp only [cond_false,zkJ,ye0]
        cases hm:leb 0 (yI (fun (i:Nat)=>yn a0 i a1) a0.2.1.1.toNat)
        · rfl
        · obtain ⟨h2,h3⟩:=yXl a0 a1 a0.2.1.1.toNat hm
          rw [h2,h3]; rfl
      · rfl
  · rfl
def yFX:Con:=⟨ykz,yuH,fun x=>(fun n=>some ((n.1,n.2,()),())) (ypM x.1 x.2.1)⟩
theorem yYD:ConOk Tryz.prog 106 yFX:=(yWa).mono (fun x r hk h=>(yYi x.1 x.2.1 hk).trans h)
end
section
def yAU:Code:=(Tryz.f17.body).getD .skip
def yBm:Env:=zki TT [(45,yk5),(98,ylQ),(106,yFX),(107,ypr),(108,yu5)] []
theorem yIs:FrOk Tryz.prog ⟨yBm,73,fun _=>none⟩ yAU:=zkp yc yd ⟨ysL,yvy,yYD,yAk,yGo,trivial⟩
def yJo:Nat→Option Seg:=fun _=>none
abbrev yea:List Par:= [.rd tA]
abbrev ylA:List OT:= [⟨false,tA,(.pr .fz (.pr (.pr .fz .fz) (.pr (.ow (.pr (.ow (.ow .fz)) (.pr (.ow (.pr .fz (.ow .fz))) (.pr .fz (.ow .fz))))) (.pr .fz (.pr .fz (.pr .fz (.pr .fz (.pr .fz (.pr (.ow (.pr .fz (.ow .fz))) (.pr .fz (.pr .fz .fz)))))))))))⟩,⟨false,tI,.fz⟩]
def yjz (a0:dA):Option (ResD ylA×MutD yea) :=
  let r1:=ybl a0
  let r2:=ybg a0
  bif (!r2) then
    some ((r1,1,()),())
  else
    bif a0.2.2.2.2.2.2.2.2.2.2.1 then
      some ((r1,6,()),())
    else
      bif (!(a0.2.2.2.1==(-1))) then
        bif (inb a0.2.2.2.1 a0.2.2.1.length) then
          bif (!((((nth a0.2.2.1 a0.2.2.2.1 ([],[],false,[])).2).2).1)) then
            bif (a0.2.2.2.2.1==a0.2.1.2) then
              some ((r1,2,()),())
            else
              let r3:=ypM a0 a0.2.2.2.2.1
              bif (!(!r3.2)) then
                bif a0.2.2.2.2.2.2.2.2.2.2.2 then
                  some ((r1,5,()),())
                else
                  let r4:=ymW a0.2.2.2.2.1
                  bif (inb a0.2.2.2.1 r3.1.length) then
                    bnd (yhE r1 a0.2.2.2.1 r4 ([(nth r3.1 a0.2.2.2.1 0)]:List Int)) fun r5 =>
                    bif (!r5.1.1) then
                      some ((r5.2.1,6,()),())
                    else
                      some (((r5.2.1.1,r5.2.1.2.1,r5.2.1.2.2.1,r5.2.1.2.2.2.1,(IntKind.i64.wrap (r5.2.1.2.2.2.2.1+1)),r5.2.1.2.2.2.2.2),0,()),())
                  else none
              else
                some ((r1,5,()),())
          else
            some ((r1,2,()),())
        else none
      else
        some ((r1,2,()),())
theorem yOo (x:InD yea):zjH ⟨yBm,73,yJo⟩ Tryz.f17.results.toList yAU yea ylA x=yjz x.1:=by kernel_rfl
theorem yK3:ConOk Tryz.prog 17 ⟨yea,ylA,fun x=>yjz x.1⟩:=zkh (yIs) Tryz.func17 (by kernel_rfl) (by kernel_rfl) Tryz.ntmps17.symm (by decide) (fun x r h=>(yOo x).trans h)
def yck (a0:dA):dA×Int:=yN a0
theorem yMY (a0:dA) (hk:zi9 yea (a0,())):yjz a0=(fun n=>some ((n.1,n.2,()),())) (yck a0):=by
  unfold yjz yck yN
  simp only [ybl,ybg,ypM,yGh]
  cases ha:ym a0
  · rfl
  have hg:=yk.1 (ybI ha)
  have hb:=yW3 ha
  cases hd:yg a0
  · rw [show a0.2.2.2.2.2.2.2.2.2.2.1=false from hd]
    cases hl:(a0.2.2.2.1== -1)
    · have hi:=ywY ha (beq_eq_false_iff_ne.1 hl)
      have hS:leb a0.2.1.2 a0.2.2.2.2.1=(a0.2.2.2.2.1==a0.2.1.2):=by rw [Bool.eq_iff_iff,zjQ,beq_iff_eq]; omega
      rw [hi,hS]
      cases (nth a0.2.2.1 a0.2.2.2.1 ye).2.2.1
      · cases hbs:(a0.2.2.2.2.1==a0.2.1.2)
        · have hne:=beq_eq_false_iff_ne.1 hbs
          cases hbr:a0.2.2.2.2.2.2.2.2.2.2.2
          · rw [ye8.2 (show yf a0.2.1=true∧0≤a0.2.2.2.2.1∧a0.2.2.2.2.1≤a0.2.1.2 - 1 from ⟨ybI ha,by omega,by omega⟩)]
            simp only [Bool.not_false,Bool.not_true,Bool.and_self,cond_true,cond_false,Bool.false_or,Bool.or_false]
            unfold ybn
            cases hw:(yZ a0 a0.2.2.2.2.1).2
            · rfl
            · rw [yLs hw,yZG ha (beq_eq_false_iff_ne.1 hl),yAo a0 a0.2.2.2.1 (ycA a0.2.2.2.2.1) [nth (yZ a0 a0.2.2.2.2.1).1 a0.2.2.2.1 0] (by unfold yer; rw [hi,hd]; rfl)]
              simp only [zky,yeq]
              show (bif !(!(yg (yX a0))) then some ((yX a0,6,()),()) else some ((yUG (yX a0),0,()),()))=_
              cases yg (yX a0)<;>rfl
          · rfl
        · rfl
      · rfl
    · rfl
  · rw [show a0.2.2.2.2.2.2.2.2.2.2.1=true from hd]; rfl
def yps:Con:=⟨yea,ylA,fun x=>(fun n=>some ((n.1,n.2,()),())) (yck x.1)⟩
theorem yAl:ConOk Tryz.prog 17 yps:=(yK3).mono (fun x r hk h=>(yMY x.1 hk).trans h)
end
section
def ygO:Code:=(Tryz.f19.body).getD .skip
def ylw:Env:=zki TT [(46,yk7),(94,ywV),(95,ys8),(96,yvd),(97,yve),(109,yht),(110,yjj)] [(28672,(.pr .fz .fz))]
theorem yIx:FrOk Tryz.prog ⟨ylw,62,fun _=>none⟩ ygO:=zkp yc yd ⟨ysN,yIe,yEE,yGu,yGv,yor,yqG,trivial⟩
def yxw:Nat→Option Seg:=fun _=>none
def yau:Shape:=⟨[(2,false,[.ptr 0 0]),(3,false,[.ptr 4163 0]),(4,false,[.ptr 8448 0]),(5,false,[.int .i64])],[(0,[.int .i64,.int .i64,.int .i64,.nil,.int .i64,.int .i64,.int .i64,.int .i64,.int .i64,.nil,.int .i64,.bool,.bool]),(4163,[.fz tY,.int .i64,.int .i64]),(8448,[.int .i64,.int .i64,.int .i64,.at 800000000,.int .i64,.int .i64,.int .i64,.int .i64,.int .i64,.at 800000001,.int .i64,.bool,.bool])],[(800000000,tM,(.pr (.ow .fz) (.pr (.ow (.pr .fz .fz)) (.pr .fz (.ow .fz))))),(800000001,tW,(.pr .fz .fz))]⟩
def ydh:Shape:=⟨[(2,false,[.ptr 0 0]),(3,false,[.ptr 4163 0]),(4,false,[.ptr 8448 0]),(5,false,[.ci .i64 0])],[(0,[.int .i64,.int .i64,.int .i64,.nil,.int .i64,.int .i64,.int .i64,.int .i64,.int .i64,.nil,.int .i64,.bool,.bool]),(4163,[.fz tY,.int .i64,.int .i64]),(8448,[.int .i64,.int .i64,.int .i64,.at 800000000,.int .i64,.int .i64,.int .i64,.int .i64,.int .i64,.at 800000001,.int .i64,.bool,.bool])],[(800000000,tM,(.pr (.ow .fz) (.pr (.ow (.pr .fz .fz)) (.pr .fz (.ow .fz))))),(800000001,tW,(.pr .fz .fz))]⟩
def ydg:Shape:=⟨[(2,false,[.ptr 0 0]),(3,false,[.ptr 4163 0]),(4,false,[.ptr 8448 0])],[(0,[.int .i64,.int .i64,.int .i64,.nil,.int .i64,.int .i64,.int .i64,.int .i64,.int .i64,.nil,.int .i64,.bool,.bool]),(4163,[.fz tY,.int .i64,.int .i64]),(8448,[.int .i64,.int .i64,.int .i64,.at 800000000,.int .i64,.int .i64,.int .i64,.int .i64,.int .i64,.at 800000001,.int .i64,.bool,.bool])],[(800000000,tM,(.pr (.ow .fz) (.pr (.ow (.pr .fz .fz)) (.pr .fz (.ow .fz))))),(800000001,tW,(.pr .fz .fz))]⟩
def ygg:Shape:=⟨[],[],[]⟩
abbrev yla (v0:Int) (v1:dA) (v2:dU) (v3:dA):(yau).X:=((((),()),((),()),((),()),(v0,()),()),((v1.1,v1.2.1.1,v1.2.1.2,(),v1.2.2.2.1,v1.2.2.2.2.1,v1.2.2.2.2.2.1,v1.2.2.2.2.2.2.1,v1.2.2.2.2.2.2.2.1,(),v1.2.2.2.2.2.2.2.2.2.1,v1.2.2.2.2.2.2.2.2.2.2.1,v1.2.2.2.2.2.2.2.2.2.2.2,()),(v2.1,v2.2.1,v2.2.2,()),(v3.1,v3.2.1.1,v3.2.1.2,(),v3.2.2.2.1,v3.2.2.2.2.1,v3.2.2.2.2.2.1,v3.2.2.2.2.2.2.1,v3.2.2.2.2.2.2.2.1,(),v3.2.2.2.2.2.2.2.2.2.1,v3.2.2.2.2.2.2.2.2.2.2.1,v3.2.2.2.2.2.2.2.2.2.2.2,()),()),(v3.2.2.1,v3.2.2.2.2.2.2.2.2.1,()))
abbrev yGj (v0:dA) (v1:dU) (v2:dA):(ydh).X:=((((),()),((),()),((),()),((),()),()),((v0.1,v0.2.1.1,v0.2.1.2,(),v0.2.2.2.1,v0.2.2.2.2.1,v0.2.2.2.2.2.1,v0.2.2.2.2.2.2.1,v0.2.2.2.2.2.2.2.1,(),v0.2.2.2.2.2.2.2.2.2.1,v0.2.2.2.2.2.2.2.2.2.2.1,v0.2.2.2.2.2.2.2.2.2.2.2,()),(v1.1,v1.2.1,v1.2.2,()),(v2.1,v2.2.1.1,v2.2.1.2,(),v2.2.2.2.1,v2.2.2.2.2.1,v2.2.2.2.2.2.1,v2.2.2.2.2.2.2.1,v2.2.2.2.2.2.2.2.1,(),v2.2.2.2.2.2.2.2.2.2.1,v2.2.2.2.2.2.2.2.2.2.2.1,v2.2.2.2.2.2.2.2.2.2.2.2,()),()),(v2.2.2.1,v2.2.2.2.2.2.2.2.2.1,()))
abbrev yGi (v0:dA) (v1:dU) (v2:dA):(ydg).X:=((((),()),((),()),((),()),()),((v0.1,v0.2.1.1,v0.2.1.2,(),v0.2.2.2.1,v0.2.2.2.2.1,v0.2.2.2.2.2.1,v0.2.2.2.2.2.2.1,v0.2.2.2.2.2.2.2.1,(),v0.2.2.2.2.2.2.2.2.2.1,v0.2.2.2.2.2.2.2.2.2.2.1,v0.2.2.2.2.2.2.2.2.2.2.2,()),(v1.1,v1.2.1,v1.2.2,()),(v2.1,v2.2.1.1,v2.2.1.2,(),v2.2.2.2.1,v2.2.2.2.2.1,v2.2.2.2.2.2.1,v2.2.2.2.2.2.2.1,v2.2.2.2.2.2.2.2.1,(),v2.2.2.2.2.2.2.2.2.2.1,v2.2.2.2.2.2.2.2.2.2.2.1,v2.2.2.2.2.2.2.2.2.2.2.2,()),()),(v2.2.2.1,v2.2.2.2.2.2.2.2.2.1,()))
def ylp (v0:Int) (v1:Int) (v2:Int) (v3:Int) (v4:Int) (v5:Int) (v6:Int) (v7:Int) (v8:Int) (v9:Int) (v10:Bool) (v11:Bool) (v12:List Int) (v13:Int) (v14:Int) (v15:Int) (v16:Int) (v17:Int) (v18:Int) (v19:Int) (v20:Int) (v21:Int) (v22:Int) (v23:Int) (v24:Bool) (v25:Bool) (v26:List dM) (v27:List dW):Option ((yau).X ⊕ ((ydg).X ⊕ (ygg).X)) :=
  bif (ltb v0 8) then
    bif (ltb v19 v17) then
      bif (!v24) then
        bnd (ycD (v15,(v16,v17),v26,v18,v19,v20,v21,v22,v27,v23,v24,v25)) fun r7 =>
        bif (r7.1.1==0) then
          bif (zj4 ([]:List dW).length r7.2.1.2.2.2.2.2.2.2.2.1.length 32) then
            some (.inl ((((),()),((),()),((),()),((IntKind.i64.wrap (v0+1)),()),()),((v1,v2,v3,(),v4,v5,v6,v7,v8,(),v9,v10,v11,()),(v12,v13,v14,()),(r7.2.1.1,r7.2.1.2.1.1,r7.2.1.2.1.2,(),r7.2.1.2.2.2.1,r7.2.1.2.2.2.2.1,r7.2.1.2.2.2.2.2.1,r7.2.1.2.2.2.2.2.2.1,r7.2.1.2.2.2.2.2.2.2.1,(),r7.2.1.2.2.2.2.2.2.2.2.2.1,r7.2.1.2.2.2.2.2.2.2.2.2.2.1,r7.2.1.2.2.2.2.2.2.2.2.2.2.2,()),()),(r7.2.1.2.2.1,(([]:List dW)++r7.2.1.2.2.2.2.2.2.2.2.1),())))
          else none
        else
          some (.inr (.inl ((((),()),((),()),((),()),()),((v1,v2,v3,(),v4,v5,v6,v7,v8,(),v9,v10,v11,()),(v12,v13,v14,()),(r7.2.1.1,r7.2.1.2.1.1,r7.2.1.2.1.2,(),r7.2.1.2.2.2.1,r7.2.1.2.2.2.2.1,r7.2.1.2.2.2.2.2.1,r7.2.1.2.2.2.2.2.2.1,r7.2.1.2.2.2.2.2.2.2.1,(),r7.2.1.2.2.2.2.2.2.2.2.2.1,r7.2.1.2.2.2.2.2.2.2.2.2.2.1,r7.2.1.2.2.2.2.2.2.2.2.2.2.2,()),()),(r7.2.1.2.2.1,r7.2.1.2.2.2.2.2.2.2.2.1,()))))
      else
        some (.inr (.inl ((((),()),((),()),((),()),()),((v1,v2,v3,(),v4,v5,v6,v7,v8,(),v9,v10,v11,()),(v12,v13,v14,()),(v15,v16,v17,(),v18,v19,v20,v21,v22,(),v23,v24,v25,()),()),(v26,v27,()))))
    else
      some (.inr (.inl ((((),()),((),()),((),()),()),((v1,v2,v3,(),v4,v5,v6,v7,v8,(),v9,v10,v11,()),(v12,v13,v14,()),(v15,v16,v17,(),v18,v19,v20,v21,v22,(),v23,v24,v25,()),()),(v26,v27,()))))
  else
    some (.inr (.inl ((((),()),((),()),((),()),()),((v1,v2,v3,(),v4,v5,v6,v7,v8,(),v9,v10,v11,()),(v12,v13,v14,()),(v15,v16,v17,(),v18,v19,v20,v21,v22,(),v23,v24,v25,()),()),(v26,v27,()))))
def yaK (x:(yau).X):=ylp x.1.2.2.2.1.1 x.2.1.1.1 x.2.1.1.2.1 x.2.1.1.2.2.1 x.2.1.1.2.2.2.2.1 x.2.1.1.2.2.2.2.2.1 x.2.1.1.2.2.2.2.2.2.1 x.2.1.1.2.2.2.2.2.2.2.1 x.2.1.1.2.2.2.2.2.2.2.2.1 x.2.1.1.2.2.2.2.2.2.2.2.2.2.1 x.2.1.1.2.2.2.2.2.2.2.2.2.2.2.1 x.2.1.1.2.2.2.2.2.2.2.2.2.2.2.2.1 x.2.1.2.1.1 x.2.1.2.1.2.1 x.2.1.2.1.2.2.1 x.2.1.2.2.1.1 x.2.1.2.2.1.2.1 x.2.1.2.2.1.2.2.1 x.2.1.2.2.1.2.2.2.2.1 x.2.1.2.2.1.2.2.2.2.2.1 x.2.1.2.2.1.2.2.2.2.2.2.1 x.2.1.2.2.1.2.2.2.2.2.2.2.1 x.2.1.2.2.1.2.2.2.2.2.2.2.2.1 x.2.1.2.2.1.2.2.2.2.2.2.2.2.2.2.1 x.2.1.2.2.1.2.2.2.2.2.2.2.2.2.2.2.1 x.2.1.2.2.1.2.2.2.2.2.2.2.2.2.2.2.2.1 x.2.2.1 x.2.2.2.1
def ytW (x:(ydh).X):(yau).X:=((((),()),((),()),((),()),(0,()),()),((x.2.1.1.1,x.2.1.1.2.1,x.2.1.1.2.2.1,(),x.2.1.1.2.2.2.2.1,x.2.1.1.2.2.2.2.2.1,x.2.1.1.2.2.2.2.2.2.1,x.2.1.1.2.2.2.2.2.2.2.1,x.2.1.1.2.2.2.2.2.2.2.2.1,(),x.2.1.1.2.2.2.2.2.2.2.2.2.2.1,x.2.1.1.2.2.2.2.2.2.2.2.2.2.2.1,x.2.1.1.2.2.2.2.2.2.2.2.2.2.2.2.1,()),(x.2.1.2.1.1,x.2.1.2.1.2.1,x.2.1.2.1.2.2.1,()),(x.2.1.2.2.1.1,x.2.1.2.2.1.2.1,x.2.1.2.2.1.2.2.1,(),x.2.1.2.2.1.2.2.2.2.1,x.2.1.2.2.1.2.2.2.2.2.1,x.2.1.2.2.1.2.2.2.2.2.2.1,x.2.1.2.2.1.2.2.2.2.2.2.2.1,x.2.1.2.2.1.2.2.2.2.2.2.2.2.1,(),x.2.1.2.2.1.2.2.2.2.2.2.2.2.2.2.1,x.2.1.2.2.1.2.2.2.2.2.2.2.2.2.2.2.1,x.2.1.2.2.1.2.2.2.2.2.2.2.2.2.2.2.2.1,()),()),(x.2.2.1,x.2.2.2.1,()))
def yu3:Code:=(zdI ygO 64 980).getD .skip
theorem yGC:zdI ygO 64 245=some (.block 0 (.loop yu3)):=by kernel_rfl
theorem yG7 (x:(yau).X):zg7 ⟨ylw,62,yxw⟩ 0 yu3 980 yau ydg ygg x=yaK x:=by kernel_rfl
def ytX (x:(ydh).X):Nat:=(fun (u0:Int) (u1:Int) (u2:Int) (u3:Int) (u4:Int) (u5:Int) (u6:Int) (u7:Int) (u8:Int) (u9:Bool) (u10:Bool) (u11:List Int) (u12:Int) (u13:Int) (u14:Int) (u15:Int) (u16:Int) (u17:Int) (u18:Int) (u19:Int) (u20:Int) (u21:Int) (u22:Int) (u23:Bool) (u24:Bool) (u25:List dM) (u26:List dW)=>18446744073709551616) x.2.1.1.1 x.2.1.1.2.1 x.2.1.1.2.2.1 x.2.1.1.2.2.2.2.1 x.2.1.1.2.2.2.2.2.1 x.2.1.1.2.2.2.2.2.2.1 x.2.1.1.2.2.2.2.2.2.2.1 x.2.1.1.2.2.2.2.2.2.2.2.1 x.2.1.1.2.2.2.2.2.2.2.2.2.2.1 x.2.1.1.2.2.2.2.2.2.2.2.2.2.2.1 x.2.1.1.2.2.2.2.2.2.2.2.2.2.2.2.1 x.2.1.2.1.1 x.2.1.2.1.2.1 x.2.1.2.1.2.2.1 x.2.1.2.2.1.1 x.2.1.2.2.1.2.1 x.2.1.2.2.1.2.2.1 x.2.1.2.2.1.2.2.2.2.1 x.2.1.2.2.1.2.2.2.2.2.1 x.2.1.2.2.1.2.2.2.2.2.2.1 x.2.1.2.2.1.2.2.2.2.2.2.2.1 x.2.1.2.2.1.2.2.2.2.2.2.2.2.1 x.2.1.2.2.1.2.2.2.2.2.2.2.2.2.2.1 x.2.1.2.2.1.2.2.2.2.2.2.2.2.2.2.2.1 x.2.1.2.2.1.2.2.2.2.2.2.2.2.2.2.2.2.1 x.2.2.1 x.2.2.2.1
def yly (x:(ydh).X):Option ((ydg).X ⊕ (ygg).X):=zr yaK (ytX x) (ytW x)
def ytZ:Seg:=⟨ydh,ydg,ygg,yly⟩
def yxx:Nat→Option Seg:=fun q=>bif Nat.beq q 245 then some ytZ else yxw q
theorem yIy:FrOk Tryz.prog ⟨ylw,62,yxx⟩ ygO:=(yIx).loop (sg:=ytZ) yau ytW (by decide) yGC yaK ytX (by decide) (fun _=>rfl) (fun x r _ h=>h) yG7
abbrev yed:List Par:= [.kp tYs .fz]
abbrev yho:List OT:= [⟨false,tA,(.pr .fz (.pr (.pr .fz .fz) (.pr (.ow (.pr (.ow .fz) (.pr (.ow (.pr .fz .fz)) (.pr .fz (.ow .fz))))) (.pr .fz (.pr .fz (.pr .fz (.pr .fz (.pr .fz (.pr (.ow (.pr .fz .fz)) (.pr .fz (.pr .fz .fz)))))))))))⟩]
def ycH (a0:List Int):Option (ResD yho×MutD yed) :=
  let r1:=yhB a0
  let r2:=yfF a0 10
  bnd (ycn r1 r2) fun r3 =>
  let r4:=yW r3.1.1
  bif r4 then
    bif (leb 0 r3.1.1.2.2.2.1) then
      bif (inb r3.1.1.2.2.2.1 r3.1.1.2.2.1.length) then
        bif (!((((nth r3.1.1.2.2.1 r3.1.1.2.2.2.1 ([],[],false,[])).2).2).1)) then
          bnd (yA r3.2.1 2) fun r5 =>
          bif r5.1.1 then
            zjw (yly ((((),()),((),()),((),()),((),()),()),((0,0,0,(),0,0,0,0,0,(),0,false,false,()),(r5.2.1.1,r5.2.1.2.1,r5.2.1.2.2,()),(r3.1.1.1,r3.1.1.2.1.1,r3.1.1.2.1.2,(),r3.1.1.2.2.2.1,r3.1.1.2.2.2.2.1,r3.1.1.2.2.2.2.2.1,r3.1.1.2.2.2.2.2.2.1,r3.1.1.2.2.2.2.2.2.2.1,(),r3.1.1.2.2.2.2.2.2.2.2.2.1,r3.1.1.2.2.2.2.2.2.2.2.2.2.1,r3.1.1.2.2.2.2.2.2.2.2.2.2.2,()),()),(r3.1.1.2.2.1,r3.1.1.2.2.2.2.2.2.2.2.1,()))) (fun y7 =>
              bnd (yV (y7.2.1.2.1.1,y7.2.1.2.1.2.1,y7.2.1.2.1.2.2.1) (y7.2.1.2.2.1.1,(y7.2.1.2.2.1.2.1,y7.2.1.2.2.1.2.2.1),y7.2.2.1,y7.2.1.2.2.1.2.2.2.2.1,y7.2.1.2.2.1.2.2.2.2.2.1,y7.2.1.2.2.1.2.2.2.2.2.2.1,y7.2.1.2.2.1.2.2.2.2.2.2.2.1,y7.2.1.2.2.1.2.2.2.2.2.2.2.2.1,y7.2.2.2.1,y7.2.1.2.2.1.2.2.2.2.2.2.2.2.2.2.1,y7.2.1.2.2.1.2.2.2.2.2.2.2.2.2.2.2.1,y7.2.1.2.2.1.2.2.2.2.2.2.2.2.2.2.2.2.1)) fun r9 =>
              some ((r9.1.1,()),())) (fun y7 =>
              none)
          else
            bnd (yV r5.2.1 r3.1.1) fun r10 =>
            some ((r10.1.1,()),())
        else
          bnd (yV r3.2.1 r3.1.1) fun r11 =>
          some ((r11.1.1,()),())
      else none
    else
      bnd (yV r3.2.1 r3.1.1) fun r12 =>
      some ((r12.1.1,()),())
  else
    bnd (yV r3.2.1 r3.1.1) fun r13 =>
    some ((r13.1.1,()),())
theorem yOs (x:InD yed):zjH ⟨ylw,62,yxx⟩ Tryz.f19.results.toList ygO yed yho x=ycH x.1:=by kernel_rfl
theorem yK7:ConOk Tryz.prog 19 ⟨yed,yho,fun x=>ycH x.1⟩:=zkh (yIy) Tryz.func19 (by kernel_rfl) (by kernel_rfl) Tryz.ntmps19.symm (by decide) (fun x r h=>(yOs x).trans h)
def yxT:Con:=⟨yed,yho,fun x=>ycH x.1⟩
theorem yNp:ConOk Tryz.prog 19 yxT:=yK7
theorem yJ0 {d:List dW} (hd:d.length≤1000000000): ∀ (n:Nat) (a:dA) (u:dU) (fuel:Nat),n < fuel→n≤8→Lo d a→leb 0 a.2.2.2.1=true →
    ∃ a':dA,zr yaK fuel (yla (8 - n:Int) yU u a)=some (.inl (yGi yU u a'))∧Lo d a'
  | 0,a,u,fuel+1,_,_,h,_=>⟨a,by simp only [zr,yaK,yla,ylp]; rfl,h⟩
  | n+1,a,u,fuel+1,hf,hn,h,h0=>by
    have hq:=yot a (by unfold ycF; rw [h.2.1,(yGP h h0).1,(yGP h h0).2]; rfl)
    obtain ⟨h1,h2⟩:=y0o h h0
    have hdl:(ybn a).2.2.2.2.2.2.2.2.2.1.length≤1000000000:=by rw [h1.1.2.2]; exact hd
    rw [zr]
    simp only [yaK,yla,ylp,zjI (show (8 - ((n+1:Nat):Int)) < 8 by omega),cond_true,zkV,hq,ygD]
    cases ltb a.2.2.2.2.1 a.2.1.2
    · exact ⟨a,rfl,h⟩
    · rcases Bool.eq_false_or_eq_true (yg a) with hd' | hd'
      · rw [cond_true,yJW (show a.2.2.2.2.2.2.2.2.2.2.1=true from hd')]
        exact ⟨a,rfl,h⟩
      · rw [cond_true,yGF (show a.2.2.2.2.2.2.2.2.2.2.1=false from hd'),zky]
        dsimp only
        cases (ybn a).1==0
        · exact ⟨(ybn a).2,rfl,h1⟩
        · obtain ⟨a',e2,h3⟩:=yJ0 hd n (ybn a).2 u fuel (by omega) (by omega) h1 (by rw [h2]; exact h0)
          refine ⟨a',?_,h3⟩
          rw [← e2,cond_true,zkw.2 (show (([]:List dW).length+(ybn a).2.2.2.2.2.2.2.2.2.1.length) * 32≤140737488355328 by rw [List.length_nil]; omega),wr (show -9223372036854775808≤(8 - ((n+1:Nat):Int))+1 by omega) (by omega),show (8 - ((n+1:Nat):Int))+1=8 - (n:Int) by omega]; rfl
theorem yY2 (a0:List Int) (hb:a0.length≤140737488355328): ∃ a:dA,ycH a0=some ((a,()),())∧yb2 a:=by
  obtain ⟨h1,h2⟩:=y0l a0 10 (by omega) hb
  obtain ⟨a,u1,e1,q1,d1⟩:=yRQ _ _ (y0Y a0 hb) h1 (by omega)
  have key: ∀ (u:dU) (b:dA),yG u→yb2 b→ ∃ a:dA,(bnd (yV u b) fun r=>some ((r.1.1,()),()))=(some ((a,()),()):Option (ResD yho×MutD yed))∧yb2 a:=fun u b hu hb=>by
    obtain ⟨a',u2,e2,q2,d2⟩:=y0k u b hu hb
    rw [e2,zky]
    exact ⟨a',rfl,q2⟩
  unfold ycH
  simp only [e1,zky,yW]
  cases ha:ym a
  · exact key _ _ d1 q1
  · have hlo:=y04 ha
    cases h0:leb 0 a.2.2.2.1
    · exact key _ _ d1 q1
    · obtain ⟨i1,i2⟩:=yGP hlo h0
      rw [i1]
      simp only [cond_true]
      cases (nth a.2.2.1 a.2.2.2.1 ([],[],false,[])).2.2.1
      · obtain ⟨r,u2,e2,d2⟩:=yAP u1 2 d1
        simp only [Bool.not_false,cond_true]
        rw [e2,zky]
        cases r
        · exact key _ _ d2 q1
        · obtain ⟨a',e3,h3⟩:=yJ0 q1.2.2 8 a u2 18446744073709551616 (by omega) (by omega) hlo h0
          obtain ⟨a2,e4,q4⟩:=key u2 a' d2 (ytc h3.1 q1.2.2)
          refine ⟨a2,?_,q4⟩
          simp only [cond_true]
          refine (congrArg (fun z=>zjw z _ _) (show yly (yGj yU u2 a)=_ from e3)).trans ?_
          rw [zkJ]
          exact e4
      · exact key _ _ d1 q1
end
end
end Go.Tf
