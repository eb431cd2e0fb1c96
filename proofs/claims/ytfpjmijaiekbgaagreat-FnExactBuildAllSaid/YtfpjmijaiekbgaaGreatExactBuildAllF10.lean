/- Functions of the program, and what they come to. -/
import Derived.Test.YtfpjmijaiekbgaaGreatExactBuildAllF9
namespace Go.Tf
noncomputable section
open Go.Proofs
set_option synthInstance.maxHeartbeats 400000
set_option synthInstance.maxSize 10000
set_option linter.unusedVariables false
set_option linter.unusedSimpArgs false
set_option maxRecDepth 100000
section
def yjd:Code:=(Tryz.f148.body).getD .skip
def yoC:Env:=zki TT [(210,yBZ),(212,ys8)] []
theorem yID:FrOk Tryz.prog ⟨yoC,45,fun _=>none⟩ yjd:=zkp yb yc ⟨ySc,yE8,trivial⟩
def yze:Nat→Option Seg:=fun _=>none
def ya8:Shape:=⟨[(1,false,[.int .i64]),(2,false,[.ptr 0 0]),(6,false,[.at 800000000]),(7,false,[.int .i64]),(8,false,[.int .i64])],[(0,[.int .i64,.int .i64,.int .i64,.br tM,.int .i64,.int .i64,.int .i64,.int .i64,.int .i64,.br tW,.int .i64,.bool,.bool])],[(800000000,tI,.fz)]⟩
def yeS:Shape:=⟨[(1,false,[.int .i64]),(2,false,[.ptr 0 0]),(6,false,[.at 800000000]),(7,false,[.ci .i64 (-1)]),(8,false,[.ci .i64 0])],[(0,[.int .i64,.int .i64,.int .i64,.br tM,.int .i64,.int .i64,.int .i64,.int .i64,.int .i64,.br tW,.int .i64,.bool,.bool])],[(800000000,tI,.fz)]⟩
def yeJ:Shape:=⟨[(6,false,[.at 800000000]),(7,false,[.int .i64])],[],[(800000000,tI,.fz)]⟩
def yeV:Shape:=⟨[(4,false,[.at 800000000]),(5,false,[.bool])],[],[(800000000,tI,.fz)]⟩
abbrev ynY (v0:Int) (v1:Int) (v2:Int) (v3:dA) (v4:List Int):(ya8).X:=(((v0,()),((),()),((),()),(v1,()),(v2,()),()),((v3.1,v3.2.1.1,v3.2.1.2,v3.2.2.1,v3.2.2.2.1,v3.2.2.2.2.1,v3.2.2.2.2.2.1,v3.2.2.2.2.2.2.1,v3.2.2.2.2.2.2.2.1,v3.2.2.2.2.2.2.2.2.1,v3.2.2.2.2.2.2.2.2.2.1,v3.2.2.2.2.2.2.2.2.2.2.1,v3.2.2.2.2.2.2.2.2.2.2.2,()),()),(v4,()))
abbrev yG7 (v0:Int) (v1:dA) (v2:List Int):(yeS).X:=(((v0,()),((),()),((),()),((),()),((),()),()),((v1.1,v1.2.1.1,v1.2.1.2,v1.2.2.1,v1.2.2.2.1,v1.2.2.2.2.1,v1.2.2.2.2.2.1,v1.2.2.2.2.2.2.1,v1.2.2.2.2.2.2.2.1,v1.2.2.2.2.2.2.2.2.1,v1.2.2.2.2.2.2.2.2.2.1,v1.2.2.2.2.2.2.2.2.2.2.1,v1.2.2.2.2.2.2.2.2.2.2.2,()),()),(v2,()))
abbrev yGY (v0:Int) (v1:List Int):(yeJ).X:=((((),()),(v0,()),()),(),(v1,()))
abbrev yHa (v0:Bool) (v1:List Int):(yeV).X:=((((),()),(v0,()),()),(),(v1,()))
def yoo (v0:Int) (v1:Int) (v2:Int) (v3:Int) (v4:Int) (v5:Int) (v6:List dM) (v7:Int) (v8:Int) (v9:Int) (v10:Int) (v11:Int) (v12:List dW) (v13:Int) (v14:Bool) (v15:Bool) (v16:List Int):Option ((ya8).X ⊕ ((yeJ).X ⊕ (yeV).X)) :=
  bif (ltb v2 v4) then
    let r2:=yly (v3,(v4,v5),v6,v7,v8,v9,v10,v11,v12,v13,v14,v15) v2 v0
    bif (!r2.2) then
      bif (leb 0 v1) then
        some (.inr (.inr ((((),()),(false,()),()),(),(([]:List Int),()))))
      else
        bif (zj4 v16.length ([r2.1]:List Int).length 8) then
          some (.inl (((v0,()),((),()),((),()),(v2,()),((IntKind.i64.wrap (v2+1)),()),()),((v3,v4,v5,v6,v7,v8,v9,v10,v11,v12,v13,v14,v15,()),()),((v16++([r2.1]:List Int)),())))
        else none
    else
      bif (zj4 v16.length ([r2.1]:List Int).length 8) then
        some (.inl (((v0,()),((),()),((),()),(v1,()),((IntKind.i64.wrap (v2+1)),()),()),((v3,v4,v5,v6,v7,v8,v9,v10,v11,v12,v13,v14,v15,()),()),((v16++([r2.1]:List Int)),())))
      else none
  else
    some (.inr (.inl ((((),()),(v1,()),()),(),(v16,()))))
def ybt (x:(ya8).X):=yoo x.1.1.1 x.1.2.2.2.1.1 x.1.2.2.2.2.1.1 x.2.1.1.1 x.2.1.1.2.1 x.2.1.1.2.2.1 x.2.1.1.2.2.2.1 x.2.1.1.2.2.2.2.1 x.2.1.1.2.2.2.2.2.1 x.2.1.1.2.2.2.2.2.2.1 x.2.1.1.2.2.2.2.2.2.2.1 x.2.1.1.2.2.2.2.2.2.2.2.1 x.2.1.1.2.2.2.2.2.2.2.2.2.1 x.2.1.1.2.2.2.2.2.2.2.2.2.2.1 x.2.1.1.2.2.2.2.2.2.2.2.2.2.2.1 x.2.1.1.2.2.2.2.2.2.2.2.2.2.2.2.1 x.2.2.1
def yvN (x:(yeS).X):(ya8).X:=(((x.1.1.1,()),((),()),((),()),((-1),()),(0,()),()),((x.2.1.1.1,x.2.1.1.2.1,x.2.1.1.2.2.1,x.2.1.1.2.2.2.1,x.2.1.1.2.2.2.2.1,x.2.1.1.2.2.2.2.2.1,x.2.1.1.2.2.2.2.2.2.1,x.2.1.1.2.2.2.2.2.2.2.1,x.2.1.1.2.2.2.2.2.2.2.2.1,x.2.1.1.2.2.2.2.2.2.2.2.2.1,x.2.1.1.2.2.2.2.2.2.2.2.2.2.1,x.2.1.1.2.2.2.2.2.2.2.2.2.2.2.1,x.2.1.1.2.2.2.2.2.2.2.2.2.2.2.2.1,()),()),(x.2.2.1,()))
def yxq:Code:=(zdI yjd 64 244).getD .skip
theorem yH3:zdI yjd 64 61=some (.block 0 (.loop yxq)):=by kernel_rfl
theorem yJK (x:(ya8).X):zg7 ⟨yoC,45,yze⟩ 0 yxq 244 ya8 yeJ yeV x=ybt x:=by kernel_rfl
def yv3 (x:(yeS).X):Nat:=(fun (u0:Int) (u1:Int) (u2:Int) (u3:Int) (u4:List dM) (u5:Int) (u6:Int) (u7:Int) (u8:Int) (u9:Int) (u10:List dW) (u11:Int) (u12:Bool) (u13:Bool) (u14:List Int)=>18446744073709551616) x.1.1.1 x.2.1.1.1 x.2.1.1.2.1 x.2.1.1.2.2.1 x.2.1.1.2.2.2.1 x.2.1.1.2.2.2.2.1 x.2.1.1.2.2.2.2.2.1 x.2.1.1.2.2.2.2.2.2.1 x.2.1.1.2.2.2.2.2.2.2.1 x.2.1.1.2.2.2.2.2.2.2.2.1 x.2.1.1.2.2.2.2.2.2.2.2.2.1 x.2.1.1.2.2.2.2.2.2.2.2.2.2.1 x.2.1.1.2.2.2.2.2.2.2.2.2.2.2.1 x.2.1.1.2.2.2.2.2.2.2.2.2.2.2.2.1 x.2.2.1
def ypE (x:(yeS).X):Option ((yeJ).X ⊕ (yeV).X):=zr ybt (yv3 x) (yvN x)
def yws:Seg:=⟨yeS,yeJ,yeV,ypE⟩
def yzf:Nat→Option Seg:=fun q=>bif Nat.beq q 61 then some yws else yze q
theorem yIE:FrOk Tryz.prog ⟨yoC,45,yzf⟩ yjd:=(yID).loop (sg:=yws) ya8 yvN (by decide) yH3 ybt yv3 (by decide) (fun _=>rfl) (fun x r _ h=>h) yJK
abbrev yde:List Par:= [.rd tA,.rd tI]
abbrev yjE:List OT:= [⟨false,tL,(.ow .fz)⟩,⟨false,tB,.fz⟩]
def ykS (a0:dA) (a1:Int):Option (ResD yjE×MutD yde) :=
  zjw (ypE (((a1,()),((),()),((),()),((),()),((),()),()),((a0.1,a0.2.1.1,a0.2.1.2,a0.2.2.1,a0.2.2.2.1,a0.2.2.2.2.1,a0.2.2.2.2.2.1,a0.2.2.2.2.2.2.1,a0.2.2.2.2.2.2.2.1,a0.2.2.2.2.2.2.2.2.1,a0.2.2.2.2.2.2.2.2.2.1,a0.2.2.2.2.2.2.2.2.2.2.1,a0.2.2.2.2.2.2.2.2.2.2.2,()),()),(([]:List Int),()))) (fun y2 =>
    bif (leb 0 y2.1.2.1.1) then
      let r4:=yd0 y2.2.2.1 y2.1.2.1.1
      bif (inb y2.1.2.1.1 y2.2.2.1.length) then
        some (((y2.2.2.1.set (y2.1.2.1.1).toNat r4),true,()),())
      else none
    else
      some ((y2.2.2.1,true,()),())) (fun y2 =>
    some ((y2.2.2.1,y2.1.2.1.1,()),()))
theorem yQK (x:InD yde):zjH ⟨yoC,45,yzf⟩ Tryz.f148.results.toList yjd yde yjE x=ykS x.1 x.2.1:=by kernel_rfl
theorem yMi:ConOk Tryz.prog 148 ⟨yde,yjE,fun x=>ykS x.1 x.2.1⟩:=zkh (yIE) Tryz.func148 (by kernel_rfl) (by kernel_rfl) Tryz.ntmps148.symm (by decide) (fun x r h=>(yQK x).trans h)
def yjN (a0:dA) (a1:Int):List Int×Bool:=ye5 a0 a1
def yuG (a0:dA) (a1:Int):Bool:=yg a0.2.1
theorem yOU (a0:dA) (a1:Int) (hk:zi9 yde (a0,a1,())) (hq:yuG a0 a1=true):ykS a0 a1=(fun n=>some ((n.1,n.2,()),())) (yjN a0 a1):=by
  have hg:=yam.1 hq
  have h1:ypE (yG7 a1 a0 [])=some (bif yHE (fun (i:Nat)=>yk a0 i a1) a0.2.1.1.toNat then .inr (yHa false []) else .inl (yGY (yp (fun (i:Nat)=>yk a0 i a1) a0.2.1.1.toNat) (yT a0 a1 a0.2.1.1.toNat))) :=
    zf4 (step:=ybt) (fun i=>ynY a1 (yp (fun (i:Nat)=>yk a0 i a1) i) i a0 (yT a0 a1 i)) a0.2.1.1.toNat (fun i=> !yk a0 i a1&&leb 0 (yp (fun (i:Nat)=>yk a0 i a1) i)) _ _ (fun i hi=>by
      simp only [ybt,ynY,yoo,zjI (show (i:Int) < a0.2.1.1 by omega),cond_true,wr (show -9223372036854775808≤(i:Int)+1 by omega) (by omega),Int.natCast_add,Int.natCast_one,Int.toNat_natCast,zkV,yly,yp]
      rw [zkw.2 (show ((yT a0 a1 i).length+ [yAJ a0 i a1].length) * 8≤140737488355328 by simp only [List.length_cons,List.length_nil,yop]; omega),yED]
      cases yk a0 i a1<;>cases leb 0 (yp (fun (i:Nat)=>yk a0 i a1) i)<;>rfl) (by simp only [ybt,ynY,yoo,zkm (show a0.2.1.1≤(a0.2.1.1.toNat:Int) by omega),cond_false]) _ (by show _ < 18446744073709551616; omega)
  unfold ykS yjN ye5
  rw [h1]
  cases yHE (fun (i:Nat)=>yk a0 i a1) a0.2.1.1.toNat
  · simp only [cond_false,zkJ,yd0]
    cases hm:leb 0 (yp (fun (i:Nat)=>yk a0 i a1) a0.2.1.1.toNat)
    · rfl
    · obtain ⟨h2,h3⟩:=ySq a0 a1 a0.2.1.1.toNat hm
      rw [h2,h3]; rfl
  · rfl
def yo5 (a0:dA) (a1:Int):Option (ResD yjE×MutD yde):=bif yuG a0 a1 then (fun n=>some ((n.1,n.2,()),())) (yjN a0 a1) else none
theorem yPL (a0:dA) (a1:Int) (h:yuG a0 a1=true):yo5 a0 a1=(fun n=>some ((n.1,n.2,()),())) (yjN a0 a1):=by unfold yo5; rw [h]; rfl
def yzS:Con:=⟨yde,yjE,fun x=>yo5 x.1 x.2.1⟩
theorem yPG:ConOk Tryz.prog 148 yzS:=(yMi).mono (fun x r hk h=>zkW h (fun hq=>yOU x.1 x.2.1 hk hq))
end
section
def yJP:Code:=(Tryz.f213.body).getD .skip
def yJU:Env:=zki TT [] []
theorem yQS:FrOk Tryz.prog ⟨yJU,31,fun _=>none⟩ yJP:=zkp yb yc trivial
def ySA:Nat→Option Seg:=fun _=>none
abbrev yqe:List Par:= [.pt tA (.pr .fz (.pr (.pr .fz .fz) (.pr (.ow (.pr (.ow .fz) (.pr (.ow (.pr .fz .fz)) (.pr .fz (.ow .fz))))) (.pr .fz (.pr .fz (.pr .fz (.pr .fz (.pr .fz (.pr (.ow (.pr .fz .fz)) (.pr .fz (.pr .fz .fz)))))))))))]
abbrev yu3:List OT:= [⟨false,tB,.fz⟩]
def ywI (a0:dA):Option (ResD yu3×MutD yqe) :=
  bif a0.2.2.2.2.2.2.2.2.2.2.1 then
    some ((false,()),(a0,()))
  else
    bif (a0.2.2.2.2.2.2.2.2.2.1==0) then
      some ((false,()),((a0.1,a0.2.1,a0.2.2.1,a0.2.2.2.1,a0.2.2.2.2.1,a0.2.2.2.2.2.1,a0.2.2.2.2.2.2.1,a0.2.2.2.2.2.2.2.1,a0.2.2.2.2.2.2.2.2.1,(-1),true,a0.2.2.2.2.2.2.2.2.2.2.2),()))
    else
      bif (ltb 0 a0.2.2.2.2.2.2.2.2.2.1) then
        some ((true,()),((a0.1,a0.2.1,a0.2.2.1,a0.2.2.2.1,a0.2.2.2.2.1,a0.2.2.2.2.2.1,a0.2.2.2.2.2.2.1,a0.2.2.2.2.2.2.2.1,a0.2.2.2.2.2.2.2.2.1,(IntKind.i64.wrap (a0.2.2.2.2.2.2.2.2.2.1 - 1)),a0.2.2.2.2.2.2.2.2.2.2),()))
      else
        some ((true,()),(a0,()))
theorem yVd (x:InD yqe):zjH ⟨yJU,31,ySA⟩ Tryz.f213.results.toList yJP yqe yu3 x=ywI x.1:=by kernel_rfl
theorem yTL:ConOk Tryz.prog 213 ⟨yqe,yu3,fun x=>ywI x.1⟩:=zkh (yQS) Tryz.func213 (by kernel_rfl) (by kernel_rfl) Tryz.ntmps213.symm (by decide) (fun x r h=>(yVd x).trans h)
def yqn (a0:dA):Bool×dA :=
  bif a0.2.2.2.2.2.2.2.2.2.2.1 then
    (false,a0)
  else
    bif (a0.2.2.2.2.2.2.2.2.2.1==0) then
      (false,(a0.1,a0.2.1,a0.2.2.1,a0.2.2.2.1,a0.2.2.2.2.1,a0.2.2.2.2.2.1,a0.2.2.2.2.2.2.1,a0.2.2.2.2.2.2.2.1,a0.2.2.2.2.2.2.2.2.1,(-1),true,a0.2.2.2.2.2.2.2.2.2.2.2))
    else
      bif (ltb 0 a0.2.2.2.2.2.2.2.2.2.1) then
        (true,(a0.1,a0.2.1,a0.2.2.1,a0.2.2.2.1,a0.2.2.2.2.1,a0.2.2.2.2.2.1,a0.2.2.2.2.2.2.1,a0.2.2.2.2.2.2.2.1,a0.2.2.2.2.2.2.2.2.1,(IntKind.i64.wrap (a0.2.2.2.2.2.2.2.2.2.1 - 1)),a0.2.2.2.2.2.2.2.2.2.2))
      else
        (true,a0)
def ywu:Con:=⟨yqe,yu3,fun x=>(fun n=>some ((n.1,()),(n.2,()))) (yqn x.1)⟩
theorem yUY (a0:dA):ywI a0=(fun n=>some ((n.1,()),(n.2,()))) (yqn a0):=zkS (p:=fun (n:Bool×dA)=>((n.1,()),(n.2,()))) (zkx (p:=fun (n:Bool×dA)=>((n.1,()),(n.2,()))) rfl (zkx (p:=fun (n:Bool×dA)=>((n.1,()),(n.2,()))) rfl (zkx (p:=fun (n:Bool×dA)=>((n.1,()),(n.2,()))) rfl rfl)))
theorem yHl:ConOk Tryz.prog 213 ywu:=(yTL).mono (fun x r _ h=>(yUY x.1).trans h)
end
section
def yfs:Code:=(Tryz.f250.body).getD .skip
def yjU:Env:=zki TT [] []
theorem yER:FrOk Tryz.prog ⟨yjU,28,fun _=>none⟩ yfs:=zkp yb yc trivial
def yvb:Nat→Option Seg:=fun _=>none
def yaf:Shape:=⟨[(0,false,[.br tI]),(1,false,[.int .i64]),(5,false,[.at 800000000]),(6,false,[.int .i64])],[],[(800000000,tI,.fz)]⟩
def yc4:Shape:=⟨[(0,false,[.br tI]),(1,false,[.int .i64]),(5,false,[.at 800000000]),(6,false,[.ci .i64 0])],[],[(800000000,tI,.fz)]⟩
def yc3:Shape:=⟨[(5,false,[.at 800000000])],[],[(800000000,tI,.fz)]⟩
def yf8:Shape:=⟨[],[],[]⟩
abbrev yky (v0:List Int) (v1:Int) (v2:Int) (v3:List Int):(yaf).X:=(((v0,()),(v1,()),((),()),(v2,()),()),(),(v3,()))
abbrev yDM (v0:List Int) (v1:Int) (v2:List Int):(yc4).X:=(((v0,()),(v1,()),((),()),((),()),()),(),(v2,()))
abbrev yDL (v0:List Int):(yc3).X:=((((),()),()),(),(v0,()))
def ykV (v0:List Int) (v1:Int) (v2:Int) (v3:List Int):Option ((yaf).X ⊕ ((yc3).X ⊕ (yf8).X)) :=
  bif (ltb v2 (v0.length:Int)) then
    bif (inb v2 v0.length) then
      bif ((nth v0 v2 0) !=v1) then
        bif (inb v2 v0.length) then
          bif (zj4 v3.length ([(nth v0 v2 0)]:List Int).length 8) then
            some (.inl (((v0,()),(v1,()),((),()),((IntKind.i64.wrap (v2+1)),()),()),(),((v3++([(nth v0 v2 0)]:List Int)),())))
          else none
        else none
      else
        some (.inl (((v0,()),(v1,()),((),()),((IntKind.i64.wrap (v2+1)),()),()),(),(v3,())))
    else none
  else
    some (.inr (.inl ((((),()),()),(),(v3,()))))
def yap (x:(yaf).X):=ykV x.1.1.1 x.1.2.1.1 x.1.2.2.2.1.1 x.2.2.1
def ytd (x:(yc4).X):(yaf).X:=(((x.1.1.1,()),(x.1.2.1.1,()),((),()),(0,()),()),(),(x.2.2.1,()))
def ytG:Code:=(zdI yfs 64 116).getD .skip
theorem yEH:zdI yfs 64 29=some (.block 0 (.loop ytG)):=by kernel_rfl
theorem yFb (x:(yaf).X):zg7 ⟨yjU,28,yvb⟩ 0 ytG 116 yaf yc3 yf8 x=yap x:=by kernel_rfl
def ytg (x:(yc4).X):Nat:=(fun (u0:List Int) (u1:Int) (u2:List Int)=>18446744073709551616) x.1.1.1 x.1.2.1.1 x.2.2.1
def ylC (x:(yc4).X):Option ((yc3).X ⊕ (yf8).X):=zr yap (ytg x) (ytd x)
def ytC:Seg:=⟨yc4,yc3,yf8,ylC⟩
def yvc:Nat→Option Seg:=fun q=>bif Nat.beq q 29 then some ytC else yvb q
theorem yES:FrOk Tryz.prog ⟨yjU,28,yvc⟩ yfs:=(yER).loop (sg:=ytC) yaf ytd (by decide) yEH yap ytg (by decide) (fun _=>rfl) (fun x r _ h=>h) yFb
abbrev ydc:List Par:= [.rd tL,.rd tI]
abbrev ykg:List OT:= [⟨false,tL,(.ow .fz)⟩]
def yh8 (a0:List Int) (a1:Int):Option (ResD ykg×MutD ydc) :=
  zjw (ylC (((a0,()),(a1,()),((),()),((),()),()),(),(([]:List Int),()))) (fun y0 =>
    some ((y0.2.2.1,()),())) (fun y0 =>
    none)
theorem yKs (x:InD ydc):zjH ⟨yjU,28,yvc⟩ Tryz.f250.results.toList yfs ydc ykg x=yh8 x.1 x.2.1:=by kernel_rfl
theorem yHj:ConOk Tryz.prog 250 ⟨ydc,ykg,fun x=>yh8 x.1 x.2.1⟩:=zkh (yES) Tryz.func250 (by kernel_rfl) (by kernel_rfl) Tryz.ntmps250.symm (by decide) (fun x r h=>(yKs x).trans h)
def yfZ (a0:List Int) (a1:Int):List Int:=ySg a0 a1
theorem yGl {α:Type} (p:α→Bool): ∀ (l:List α) (s:List α),l.foldl (fun s x=>bif p x then s++ [x] else s) s=s++l.filter p
  | [],s=>by simp
  | x::l,s=>by
    rw [List.foldl_cons,yGl p l,List.filter_cons]
    cases p x<;>simp
theorem yI3 (a0:List Int) (a1:Int) (hk:zi9 ydc (a0,a1,())):yh8 a0 a1=(fun n=>some ((n,()),())) (yfZ a0 a1):=by
  have hb:a0.length * 8≤2 ^ 47:=hk.1.1
  have h1:=zkk (step:=yap) a0 0 (fun i s=>yky a0 a1 i s) (fun s x=>bif x !=a1 then s++ [x] else s) (fun i s=>s.length≤i) (fun s=> .inl (yDL s)) (fun i s hi hs=>by
      constructor
      · simp only [yap,yky,ykV,zjI (show (i:Int) < a0.length by omega),cond_true,wr (show -9223372036854775808≤(i:Int)+1 by omega) (by omega),Int.natCast_add,Int.natCast_one,Int.toNat_natCast,zkO hi,zjW]
        rw [zkw.2 (show (s.length+ [a0.getD i 0].length) * 8≤140737488355328 by simp only [List.length_cons,List.length_nil]; omega)]
        cases (a0.getD i 0 !=a1)<;>rfl
      · cases (a0.getD i 0 !=a1)
        · show s.length≤_; omega
        · simp only [cond_true,List.length_append,List.length_cons,List.length_nil]; omega) (fun s _=>by simp only [yap,yky,ykV,zkm (Int.le_refl _),cond_false]) [] (Nat.le_refl _) 18446744073709551616 (by omega)
  unfold yh8 yfZ ySg
  rw [show ylC (yDM a0 a1 [])=_ from h1,yGl]; rfl
def yvx:Con:=⟨ydc,ykg,fun x=>(fun n=>some ((n,()),())) (yfZ x.1 x.2.1)⟩
theorem yJt:ConOk Tryz.prog 250 yvx:=(yHj).mono (fun x r hk h=>(yI3 x.1 x.2.1 hk).trans h)
end
section
def yAV:Code:=(Tryz.f214.body).getD .skip
def yBu:Env:=zki TT [(98,yM),(147,ymI),(218,yjH),(249,yuv),(250,yvx)] [(16832,(.pr .fz .fz))]
theorem yGQ:FrOk Tryz.prog ⟨yBu,55,fun _=>none⟩ yAV:=zkp yb yc ⟨yaE,yuA,yra,yEA,yJt,trivial⟩
def yHL:Nat→Option Seg:=fun _=>none
abbrev yeg:List Par:= [.rd tM,.rd tI,.rd tL]
abbrev ymy:List OT:= [⟨false,tM,(.pr (.ow .fz) (.pr (.ow (.pr .fz .fz)) (.pr .fz (.ow .fz))))⟩,⟨false,tB,.fz⟩]
def yiZ (a0:dM) (a1:Int) (a2:List Int):Option (ResD ymy×MutD yeg) :=
  let r1:=ybz a0
  let r2:=yaD a0
  bif (!(!r2)) then
    bif (!a0.2.2.1) then
      let r3:=ya a1 0 (IntKind.i64.wrap ((a0.1.length:Int) - 1))
      bif (!(!r3)) then
        let r4:=yfY a2
        bif (!(!r4)) then
          bif (leb 60 (a0.2.1.length:Int)) then
            some ((r1,false,()),())
          else
            bif (zj4 ([]:List Int).length a2.length 8) then
              bif (zj4 r1.2.1.length ([(a1,(([]:List Int)++a2))]:List dW).length 32) then
                let r5:=yfZ a0.2.2.2 a1
                some (((r1.1,(r1.2.1++([(a1,(([]:List Int)++a2))]:List dW)),r1.2.2.1,r5),true,()),())
              else none
            else none
        else
          some ((r1,false,()),())
      else
        some ((r1,false,()),())
    else
      some ((r1,false,()),())
  else
    some ((r1,false,()),())
theorem yNH (x:InD yeg):zjH ⟨yBu,55,yHL⟩ Tryz.f214.results.toList yAV yeg ymy x=yiZ x.1 x.2.1 x.2.2.1:=by kernel_rfl
theorem yJl:ConOk Tryz.prog 214 ⟨yeg,ymy,fun x=>yiZ x.1 x.2.1 x.2.2.1⟩:=zkh (yGQ) Tryz.func214 (by kernel_rfl) (by kernel_rfl) Tryz.ntmps214.symm (by decide) (fun x r h=>(yNH x).trans h)
def yhX (a0:dM) (a1:Int) (a2:List Int):dM×Bool:=yif a0 a1 a2
theorem yLV (a0:dM) (a1:Int) (a2:List Int) (hk:zi9 yeg (a0,a1,a2,())):yiZ a0 a1 a2=(fun n=>some ((n.1,n.2,()),())) (yhX a0 a1 a2):=by
  have hb1:a0.1.length * 24≤2 ^ 47:=hk.1.1.1
  have hb2:a2.length * 8≤2 ^ 47:=hk.2.2.1.1
  unfold yiZ yhX yif yus
  simp only [ybz,yaD,ynO (show a0.1.length≤1152921504606846976 by omega),yCi,yfZ,List.nil_append]
  cases yn a0
  · rfl
  cases a0.2.2.1
  · cases inb a1 a0.1.length
    · rfl
    cases yaM a2
    · rfl
    by_cases h:(a0.2.1.length:Int) < 60
    · rw [zjI h,zkZ h,zkw.2 (show (([]:List Int).length+a2.length) * 8≤140737488355328 by rw [List.length_nil]; omega),zkw.2 (show (a0.2.1.length+ [(a1,a2)].length) * 32≤140737488355328 by simp only [List.length_cons,List.length_nil]; omega)]; rfl
    · rw [zkm (by omega),zk0 (by omega)]; rfl
  · rfl
def yxD:Con:=⟨yeg,ymy,fun x=>(fun n=>some ((n.1,n.2,()),())) (yhX x.1 x.2.1 x.2.2.1)⟩
theorem yMw:ConOk Tryz.prog 214 yxD:=(yJl).mono (fun x r hk h=>(yLV x.1 x.2.1 x.2.2.1 hk).trans h)
end
section
def yCo:Code:=(Tryz.f262.body).getD .skip
def yCO:Env:=zki TT [(98,yM),(141,yuu)] []
theorem yIx:FrOk Tryz.prog ⟨yCO,60,fun _=>none⟩ yCo:=zkp yb yc ⟨yaE,yEz,trivial⟩
def yJ2:Nat→Option Seg:=fun _=>none
abbrev yjy:List Par:= [.rd tS]
abbrev yoS:List OT:= [⟨false,tB,.fz⟩]
def yrM (a0:dS):Option (ResD yoS×MutD yjy) :=
  let r1:=yg (a0.2.2.2.1,a0.2.2.2.2.1)
  bif (!(!r1)) then
    let r2:=ya a0.1 1 60000
    bif (!(!r2)) then
      let r3:=ya a0.2.1 0 60000
      bif (!(!r3)) then
        let r4:=ya a0.2.2.1 0 (IntKind.i64.wrap (a0.2.2.2.1 - 1))
        bif (!(!r4)) then
          let r5:=ya a0.2.2.2.2.2.1 0 60000
          bif (!r5) then
            some ((false,()),())
          else
            let r6:=ya a0.2.2.2.2.2.2.1 (-1) (IntKind.i64.wrap (a0.2.2.2.1 - 1))
            bif r6 then
              let r7:=ya a0.2.2.2.2.2.2.2 0 a0.2.2.2.2.1
              bif r7 then
                bif (!(leb 0 a0.2.2.2.2.2.2.1)) then
                  some (((a0.2.2.2.2.2.2.2==0),()),())
                else
                  some ((true,()),())
              else
                some ((false,()),())
            else
              some ((false,()),())
        else
          some ((false,()),())
      else
        some ((false,()),())
    else
      some ((false,()),())
  else
    some ((false,()),())
theorem yQG (x:InD yjy):zjH ⟨yCO,60,yJ2⟩ Tryz.f262.results.toList yCo yjy yoS x=yrM x.1:=by kernel_rfl
theorem yMe:ConOk Tryz.prog 262 ⟨yjy,yoS,fun x=>yrM x.1⟩:=zkh (yIx) Tryz.func262 (by kernel_rfl) (by kernel_rfl) Tryz.ntmps262.symm (by decide) (fun x r h=>(yQG x).trans h)
def yb3 (a0:dS):Bool :=
  let r1:=yg (a0.2.2.2.1,a0.2.2.2.2.1)
  bif (!(!r1)) then
    let r2:=ya a0.1 1 60000
    bif (!(!r2)) then
      let r3:=ya a0.2.1 0 60000
      bif (!(!r3)) then
        let r4:=ya a0.2.2.1 0 (IntKind.i64.wrap (a0.2.2.2.1 - 1))
        bif (!(!r4)) then
          let r5:=ya a0.2.2.2.2.2.1 0 60000
          bif (!r5) then
            false
          else
            let r6:=ya a0.2.2.2.2.2.2.1 (-1) (IntKind.i64.wrap (a0.2.2.2.1 - 1))
            bif r6 then
              let r7:=ya a0.2.2.2.2.2.2.2 0 a0.2.2.2.2.1
              bif r7 then
                bif (!(leb 0 a0.2.2.2.2.2.2.1)) then
                  (a0.2.2.2.2.2.2.2==0)
                else
                  true
              else
                false
            else
              false
        else
          false
      else
        false
    else
      false
  else
    false
def yzP:Con:=⟨yjy,yoS,fun x=>(fun n=>some ((n,()),())) (yb3 x.1)⟩
theorem yOQ (a0:dS):yrM a0=(fun n=>some ((n,()),())) (yb3 a0):=zkS (p:=fun (n:Bool)=>((n,()),())) (zkx (p:=fun (n:Bool)=>((n,()),())) (zkx (p:=fun (n:Bool)=>((n,()),())) (zkx (p:=fun (n:Bool)=>((n,()),())) (zkx (p:=fun (n:Bool)=>((n,()),())) (zkx (p:=fun (n:Bool)=>((n,()),())) rfl (zkx (p:=fun (n:Bool)=>((n,()),())) (zkx (p:=fun (n:Bool)=>((n,()),())) (zkx (p:=fun (n:Bool)=>((n,()),())) rfl rfl) rfl) rfl)) rfl) rfl) rfl) rfl)
theorem yPD:ConOk Tryz.prog 262 yzP:=(yMe).mono (fun x r _ h=>(yOQ x.1).trans h)
abbrev yRr:dS:=(0,0,0,0,0,0,0,0)
theorem yVj {s:dS}:yb3 s=true↔yg (s.2.2.2.1,s.2.2.2.2.1)=true∧(1≤s.1∧s.1≤60000)∧(0≤s.2.1∧s.2.1≤60000)∧(0≤s.2.2.1∧s.2.2.1≤s.2.2.2.1 - 1)∧(0≤s.2.2.2.2.2.1∧s.2.2.2.2.2.1≤60000)∧(-1≤s.2.2.2.2.2.2.1∧s.2.2.2.2.2.2.1≤s.2.2.2.1 - 1)∧(0≤s.2.2.2.2.2.2.2∧s.2.2.2.2.2.2.2≤s.2.2.2.2.1)∧(0≤s.2.2.2.2.2.2.1∨s.2.2.2.2.2.2.2=0):=by
  unfold yb3
  cases hg:yg (s.2.2.2.1,s.2.2.2.2.1)
  · simp
  have hg2:=yam.1 hg
  simp only at hg2
  rw [wr (show -9223372036854775808≤s.2.2.2.1 - 1 by omega) (by omega)]
  simp only [Bool.not_not,cond_true,true_and]
  simp only [← yth]
  cases ya s.1 1 60000
  · simp
  cases ya s.2.1 0 60000
  · simp
  cases ya s.2.2.1 0 (s.2.2.2.1 - 1)
  · simp
  cases ya s.2.2.2.2.2.1 0 60000
  · simp
  cases ya s.2.2.2.2.2.2.1 (-1) (s.2.2.2.1 - 1)
  · simp
  cases ya s.2.2.2.2.2.2.2 0 s.2.2.2.2.1
  · simp
  cases hl:leb 0 s.2.2.2.2.2.2.1
  · have:=mt zk0 (by rw [hl]; simp: ¬ leb 0 s.2.2.2.2.2.2.1=true)
    simp [this]
  · simp [zjQ.1 hl]
def yVs (l:List Int):dS:=(nth l 1 0,nth l 2 0,nth l 3 0,nth l 4 0,nth l 5 0,nth l 6 0,IntKind.i64.wrap (nth l 7 0 - 1),nth l 8 0)
def yUN (l:List Int):dS×Bool:=bif (l.length:Int)==9&&(nth l 0 0==21317&&yb3 (yVs l)) then (yVs l,true) else (yRr,false)
def yVZ (m:dM) (i:Int):dS:=(yUN (yfp m i).1).1
def yUg (m:dM) (id i:Int):Bool:=(yfp m i).2&&((yUN (yfp m i).1).2&&((yVZ m i).1==id&&(yVZ m i).2.1.tmod 2==i))
def yUf (b:dS×Bool) (ok:Bool) (s:dS):dS×Bool:=bif ok&&(!b.2||ltb b.1.2.1 s.2.1) then (s,true) else b
def yve (m:dM) (id:Int):dS×Bool:=(List.range 2).foldl (fun s (i:Nat)=>yUf s (yUg m id i) (yVZ m i)) (yRr,false)
def yWl (m:dM) (i id:Int):Bool:= !m.2.2.1&&((yve m id).2&&(yve m id).1.2.2.1==i)
def yNm (l:List dM) (id:Int):dS×Bool:=(List.range l.length).foldl (fun s (i:Nat)=>yUf s (yWl (nth l i yf) i id) (yve (nth l i yf) id).1) (yRr,false)
def yWn (l:List dM) (id:Int) (s:Int×Int×Bool) (i:Nat):Int×Int×Bool:=bif yWl (nth l i yf) i id then s else bif s.1== -1||s.1==i then ((i:Int),0,s.2.2) else (s.1,s.2.1,true)
def yWD (b:dS) (l:List dM) (id:Int) (s:Int×Int×Bool):dA:=(id,(b.2.2.2.1,b.2.2.2.2.1),l,s.1,s.2.1,b.2.2.2.2.2.1,b.2.2.2.2.2.1,b.2.1,[],-1,false,s.2.2)
def yVC (l:List dM) (id:Int):dA:=yWD (yNm l id).1 l id ((List.range l.length).foldl (yWn l id) ((yNm l id).1.2.2.2.2.2.2.1,(yNm l id).1.2.2.2.2.2.2.2,false))
def yW6 (l:List dM) (id:Int):dA×Bool:=bif (yNm l id).2&&((l.length:Int)==(yNm l id).1.2.2.2.1&&yr (yVC l id)) then (yVC l id,true) else (ye1,false)
theorem yVY (b:dS×Bool) (s:dS):yUf b false s=b:=rfl
theorem yVh {m:dM} {i:Int} (h:(yfp m i).2=true):yn m=true:=by
  unfold yfp at h
  cases hc:yHB m i
  · rw [hc]at h; cases h
  · exact (Bool.and_eq_true_iff.1 hc).1
theorem yV0 {m:dM} {id i:Int} (h:yn m=false):yUg m id i=false:=by
  unfold yUg
  cases hr:(yfp m i).2
  · rfl
  · rw [yVh hr]at h; cases h
theorem yW7 {m:dM} {id:Int} (h:(yve m id).2=true):yn m=true:=by
  cases hm:yn m
  · unfold yve at h
    simp only [yV0 hm,yVY]at h
    exact h
  · rfl
end
section
def yAU:Code:=(Tryz.f241.body).getD .skip
def yBt:Env:=zki TT [(262,yzP)] []
theorem yGP:FrOk Tryz.prog ⟨yBt,25,fun _=>none⟩ yAU:=zkp yb yc ⟨yPD,trivial⟩
def yHK:Nat→Option Seg:=fun _=>none
abbrev ygT:List Par:= [.rd tS]
abbrev ymx:List OT:= [⟨false,tL,(.ow .fz)⟩]
def ypQ (a0:dS):Option (ResD ymx×MutD ygT) :=
  let r1:=yb3 a0
  bif (!r1) then
    some ((([]:List Int),()),())
  else
    some ((([21317,a0.1,a0.2.1,a0.2.2.1,a0.2.2.2.1,a0.2.2.2.2.1,a0.2.2.2.2.2.1,(IntKind.i64.wrap (a0.2.2.2.2.2.2.1+1)),a0.2.2.2.2.2.2.2]:List Int),()),())
theorem yNG (x:InD ygT):zjH ⟨yBt,25,yHK⟩ Tryz.f241.results.toList yAU ygT ymx x=ypQ x.1:=by kernel_rfl
theorem yJk:ConOk Tryz.prog 241 ⟨ygT,ymx,fun x=>ypQ x.1⟩:=zkh (yGP) Tryz.func241 (by kernel_rfl) (by kernel_rfl) Tryz.ntmps241.symm (by decide) (fun x r h=>(yNG x).trans h)
def yak (a0:dS):(List Int) :=
  let r1:=yb3 a0
  bif (!r1) then
    ([]:List Int)
  else
    ([21317,a0.1,a0.2.1,a0.2.2.1,a0.2.2.2.1,a0.2.2.2.2.1,a0.2.2.2.2.2.1,(IntKind.i64.wrap (a0.2.2.2.2.2.2.1+1)),a0.2.2.2.2.2.2.2]:List Int)
def yxC:Con:=⟨ygT,ymx,fun x=>(fun n=>some ((n,()),())) (yak x.1)⟩
theorem yLU (a0:dS):ypQ a0=(fun n=>some ((n,()),())) (yak a0):=zkS (p:=fun (n:(List Int))=>((n,()),())) (zkx (p:=fun (n:(List Int))=>((n,()),())) rfl rfl)
theorem yMv:ConOk Tryz.prog 241 yxC:=(yJk).mono (fun x r _ h=>(yLU x.1).trans h)
abbrev yd (a:dA):Bool:=a.2.2.2.2.2.2.2.2.2.2.1
def yUc (a:dA) (f:Int) (d:Bool):dA:=(a.1,a.2.1,a.2.2.1,a.2.2.2.1,a.2.2.2.2.1,a.2.2.2.2.2.1,a.2.2.2.2.2.2.1,a.2.2.2.2.2.2.2.1,a.2.2.2.2.2.2.2.2.1,f,d,a.2.2.2.2.2.2.2.2.2.2.2)
def opA (a:dA):Bool×dA:=bif yd a then (false,a) else bif a.2.2.2.2.2.2.2.2.2.1==0 then (false,yUc a (-1) true) else bif ltb 0 a.2.2.2.2.2.2.2.2.2.1 then (true,yUc a (IntKind.i64.wrap (a.2.2.2.2.2.2.2.2.2.1 - 1)) (yd a)) else (true,a)
def yAv (a:dA) (m:Int) (x:dM):dA:=(a.1,a.2.1,a.2.2.1.set m.toNat x,a.2.2.2)
def yic (a:dA) (m n:Int) (s:List Int):dA:=bif (nth a.2.2.1 m yf).2.2.1 then a else bif (opA a).1 then yAv (opA a).2 m (yif (nth a.2.2.1 m yf) n s).1 else (opA a).2
def yG (a:dA) (i:Nat):dA:=bif (nth a.2.2.1 i yf).2.2.1 then a else bif (opA a).1 then yAv (opA a).2 i (yfR (nth a.2.2.1 i yf)) else (opA a).2
def yL (a:dA):dA:=(List.range a.2.2.1.length).foldl yG a
def yWO (a:dA) (i:Int):dS:=(a.1,a.2.2.2.2.2.2.2.1,i,a.2.1.1,a.2.1.2,a.2.2.2.2.2.2.1,a.2.2.2.1,a.2.2.2.2.1)
def yaH (a:dA) (i:Nat):dA:=yic a i (a.2.2.2.2.2.2.2.1.tmod 2) (yak (yWO a i))
def yiJ (a:dA):dA:=(a.1,a.2.1,a.2.2.1,a.2.2.2.1,a.2.2.2.2.1,a.2.2.2.2.2.1,a.2.2.2.2.2.2.1,IntKind.i64.wrap (a.2.2.2.2.2.2.2.1+1),a.2.2.2.2.2.2.2.2)
def yz (a:dA):dA:=yL ((List.range a.2.2.1.length).foldl yaH (yiJ a))
theorem ydq (a:dA):(opA a).2.2.2.1=a.2.2.1:=by
  unfold opA
  cases yd a
  · cases (a.2.2.2.2.2.2.2.2.2.1==0)
    · cases ltb 0 a.2.2.2.2.2.2.2.2.2.1<;>rfl
    · rfl
  · rfl
theorem ySd {a:dA} (h:yd a=false):yd (opA a).2= !(opA a).1:=by
  unfold opA
  rw [h]
  cases (a.2.2.2.2.2.2.2.2.2.1==0)
  · cases ltb 0 a.2.2.2.2.2.2.2.2.2.1
    · exact h
    · rfl
  · rfl
theorem yVr {a:dA} (h:yd a=true):opA a=(false,a):=by unfold opA; rw [h]; rfl
theorem yHG (a:dA) (m n:Int) (s:List Int):(yic a m n s).2.2.1.length=a.2.2.1.length:=by
  unfold yic
  cases (nth a.2.2.1 m yf).2.2.1
  · cases (opA a).1
    · show (opA a).2.2.2.1.length=_; rw [ydq]
    · show ((opA a).2.2.2.1.set m.toNat _).length=_; rw [List.length_set,ydq]
  · rfl
theorem yu5 (a:dA) (i:Nat):(yG a i).2.2.1.length=a.2.2.1.length:=by
  unfold yG
  cases (nth a.2.2.1 i yf).2.2.1
  · cases (opA a).1
    · show (opA a).2.2.2.1.length=_; rw [ydq]
    · show ((opA a).2.2.2.1.set _ _).length=_; rw [List.length_set,ydq]
  · rfl
theorem yDE {one:dA→Nat→dA} (h: ∀ a i,(one a i).2.2.1.length=a.2.2.1.length): ∀ (l:List Nat) (a:dA),(l.foldl one a).2.2.1.length=a.2.2.1.length
  | [],_=>rfl
  | x::l,a=>by rw [List.foldl_cons,yDE h l,h]
theorem yDT (a:dA):(yL a).2.2.1.length=a.2.2.1.length:=yDE yu5 _ _
theorem yWa {a:dA} (h:yd a=true) (m n:Int) (s:List Int):yic a m n s=a:=by
  unfold yic
  rw [yVr h]
  cases (nth a.2.2.1 m yf).2.2.1<;>rfl
theorem yHA {a:dA} (i:Nat) (h:yd a=true):yG a i=a:=by
  unfold yG
  rw [yVr h]
  cases (nth a.2.2.1 i yf).2.2.1<;>rfl
theorem yGk {one:dA→Nat→dA} (hs: ∀ a i,yd a=true→one a i=a): ∀ (l:List Nat) (a:dA),yd a=true→l.foldl one a=a
  | [],_,_=>rfl
  | x::l,a,h=>by rw [List.foldl_cons,hs a x h]; exact yGk hs l a h
theorem yVQ {a:dA} (h:yd a=true):yL a=a:=yGk (fun _ i h=>yHA i h) _ a h
theorem yV9 {a:dA} (h:yd a=false) (m n:Int) (s:List Int):yd (yic a m n s)=(!(nth a.2.2.1 m yf).2.2.1&& !(opA a).1):=by
  have:=ySd h
  unfold yic
  cases (nth a.2.2.1 m yf).2.2.1
  · cases ho:(opA a).1
    · rw [ho]at this; exact this
    · rw [ho]at this; exact this
  · exact h
theorem yU6 {a:dA} (h:yd a=false) (i:Nat):yd (yG a i)=(!(nth a.2.2.1 i yf).2.2.1&& !(opA a).1):=by
  have:=ySd h
  unfold yG
  cases (nth a.2.2.1 i yf).2.2.1
  · cases ho:(opA a).1
    · rw [ho]at this; exact this
    · rw [ho]at this; exact this
  · exact h
theorem yLe {one:dA→Nat→dA} (hs: ∀ a i,yd a=true→one a i=a): ∀ (k i:Nat) (s:dA),goE (fun i s=>bif yd (one s i) then (.inr (one s i):dA ⊕ dA) else .inl (one s i)) id k i s=(List.range' i k).foldl one s
  | 0,_,_=>rfl
  | k+1,i,s=>by
    rw [List.range'_succ,List.foldl_cons,goE]
    cases hd:yd (one s i)
    · exact yLe hs k (i+1) (one s i)
    · exact (yGk hs _ _ hd).symm
theorem yP0 (a:dA):yqn a=opA a:=by kernel_rfl
theorem yU3 {a:dA} {m n:Int} {s:List Int} (h:yU a.2.2.1) (hm:inb m a.2.2.1.length=true):yU (yic a m n s).2.2.1:=by
  unfold yic
  cases (nth a.2.2.1 m yf).2.2.1
  · cases (opA a).1
    · show yU (opA a).2.2.2.1; rw [ydq]; exact h
    · show yU ((opA a).2.2.2.1.set m.toNat _); rw [ydq]; exact yDR h (yWe _ _ (ySs h hm))
  · exact h
theorem yU7 {a:dA} {i:Nat} (h:yU a.2.2.1) (hi:i < a.2.2.1.length):yU (yG a i).2.2.1:=by
  unfold yG
  cases (nth a.2.2.1 i yf).2.2.1
  · cases (opA a).1
    · show yU (opA a).2.2.2.1; rw [ydq]; exact h
    · show yU ((opA a).2.2.2.1.set _ _); rw [ydq]; exact yDR h (yV2 (ySs h (zkO hi)))
  · exact h
theorem yGj {one:dA→Nat→dA} (hl: ∀ a i,(one a i).2.2.1.length=a.2.2.1.length) (ho: ∀ a i,yU a.2.2.1→i < a.2.2.1.length→yU (one a i).2.2.1): ∀ (n:Nat) (a:dA),n≤a.2.2.1.length→yU a.2.2.1→yU ((List.range n).foldl one a).2.2.1
  | 0,_,_,h=>h
  | n+1,a,hn,h=>by
    rw [List.range_succ,List.foldl_append]
    exact ho _ _ (yGj hl ho n a (by omega) h) (by rw [yDE hl]; exact hn)
theorem yB6 {a:dA} (h:yU a.2.2.1):yU (yL a).2.2.1:=yGj yu5 (fun _ _=>yU7) _ a (Nat.le_refl _) h
theorem yGT {a:dA} (h:yU a.2.2.1):yU (yz a).2.2.1 :=
  yB6 (yGj (one:=yaH) (fun _ _=>yHG _ _ _ _) (fun _ _ h hi=>yU3 h (zkO hi)) _ (yiJ a) (Nat.le_refl _) h)
theorem yLf (a:dA):(yz a).2.2.1.length=a.2.2.1.length:=(yDT _).trans (yDE (one:=yaH) (fun _ _=>yHG _ _ _ _) _ (yiJ a))
theorem yDS (a:dA):(opA a).2.2.2.2.2.2.2.2.2.1=a.2.2.2.2.2.2.2.2.1:=by
  unfold opA
  cases yd a
  · cases (a.2.2.2.2.2.2.2.2.2.1==0)
    · cases ltb 0 a.2.2.2.2.2.2.2.2.2.1<;>rfl
    · rfl
  · rfl
theorem ySt (a:dA) (m n:Int) (s:List Int):(yic a m n s).2.2.2.2.2.2.2.2.1=a.2.2.2.2.2.2.2.2.1:=by
  unfold yic
  cases (nth a.2.2.1 m yf).2.2.1
  · cases (opA a).1
    · exact yDS a
    · exact yDS a
  · rfl
theorem yUb (a:dA) (i:Nat):(yG a i).2.2.2.2.2.2.2.2.1=a.2.2.2.2.2.2.2.2.1:=by
  unfold yG
  cases (nth a.2.2.1 i yf).2.2.1
  · cases (opA a).1
    · exact yDS a
    · exact yDS a
  · rfl
theorem yDD {one:dA→Nat→dA} (h: ∀ a i,(one a i).2.2.2.2.2.2.2.2.1=a.2.2.2.2.2.2.2.2.1): ∀ (l:List Nat) (a:dA),(l.foldl one a).2.2.2.2.2.2.2.2.1=a.2.2.2.2.2.2.2.2.1
  | [],_=>rfl
  | x::l,a=>by rw [List.foldl_cons,yDD h l,h]
theorem yyF (a:dA):(yL a).2.2.2.2.2.2.2.2.1=a.2.2.2.2.2.2.2.2.1:=yDD yUb _ _
theorem yDJ (a:dA):(yz a).2.2.2.2.2.2.2.2.1=a.2.2.2.2.2.2.2.2.1:=(yyF _).trans (yDD (one:=yaH) (fun _ _=>ySt _ _ _ _) _ (yiJ a))
theorem ySj {a x:dA} (ha:ygd a≤2097152) (hl:x.2.2.1.length≤5) (hm:yU x.2.2.1) (hd:x.2.2.2.2.2.2.2.2.1=a.2.2.2.2.2.2.2.2.1):ygd x≤2105000:=by
  have:=yHk hm
  have:x.2.2.1.length * 1041≤5 * 1041:=Nat.mul_le_mul_right _ hl
  unfold ygd at ha ⊢
  rw [hd]
  omega
theorem yUd {a:dA} (h:yr a=true):a.2.2.1.length≤5:=by
  have h1:=yam.1 (ye6 h)
  have h2:=yGc h
  omega
def yv5 (n:Int):dM:=bif leb 1 n&&leb n 20 then (List.replicate n.toNat [],[],false,[]) else yf
theorem yVI {n:Int} (h1:1≤n) (h2:n≤20):yn (yv5 n)=true:=by
  unfold yv5
  rw [zk0 h1,zk0 h2]
  refine yDK ?_ rfl rfl ?_ ?_ (Nat.zero_le _)
  · show (List.replicate n.toNat ([]:List Int)).all yaM=true
    rw [List.all_eq_true]
    intro x hx
    rw [(List.mem_replicate.1 hx).2]; rfl
  · show 1≤(List.replicate n.toNat ([]:List Int)).length; rw [List.length_replicate]; omega
  · show (List.replicate n.toNat ([]:List Int)).length≤20; rw [List.length_replicate]; omega
def yD (a:dA):dA:=(a.1,a.2.1,a.2.2.1.set a.2.2.2.1.toNat (yv5 (6+a.2.1.2)),a.2.2.2.1,0,a.2.2.2.2.2)
def yw (a:dA):dA×Int :=
  bif !(yr a) then (a,1) else bif yd a then (a,6) else bif a.2.2.2.1== -1|| !((nth a.2.2.1 a.2.2.2.1 yf).2.2.1) then (a,2) else bif a.2.2.2.2.2.2.2.2.2.2.2 then (a,5) else bif leb 59990 a.2.2.2.2.2.2.2.1 then (a,7)
  else (yz (yD a),bif yd (yz (yD a)) then 6 else 0)
theorem yUe {a:dA} (h:yr a=true): -1≤a.2.2.2.1∧a.2.2.2.1≤a.2.1.1 - 1:=by
  simp only [yr,Bool.and_eq_true,zjQ]at h
  exact h.2.2.2.2.1
theorem yuy {a:dA} (h:yr a=true) (h2:a.2.2.2.1≠ -1):inb a.2.2.2.1 a.2.2.1.length=true:=by
  have:=yUe h
  have:=yGc h
  exact zjP.2 (by omega)
theorem yVi {a:dA} (h:yr a=true):yU (yD a).2.2.1∧(yD a).2.2.1.length=a.2.2.1.length:=by
  have hg:=yam.1 (ye6 h)
  exact ⟨yDR (yDC h) (yVI (by omega) (by omega)),List.length_set⟩
def yqq (a:dA):dA:=(a.1,a.2.1,a.2.2.1,a.2.2.2.1,a.2.2.2.2.1,a.2.2.2.2.2.1,a.2.2.2.2.2.1,a.2.2.2.2.2.2.2)
def yl (a:dA):dA:=bif yd (yL a) then yL a else yz (yqq (yL a))
theorem yNn {a:dA} (h:yU a.2.2.1):yU (yl a).2.2.1:=by
  unfold yl
  cases yd (yL a)
  · exact yGT (a:=yqq (yL a)) (yB6 h)
  · exact yB6 h
theorem yGe (a:dA):(yl a).2.2.1.length=a.2.2.1.length:=by
  unfold yl
  cases yd (yL a)
  · exact (yLf (yqq (yL a))).trans (yDT a)
  · exact yDT a
theorem yB8 (a:dA):(yl a).2.2.2.2.2.2.2.2.1=a.2.2.2.2.2.2.2.2.1:=by
  unfold yl
  cases yd (yL a)
  · exact (yDJ (yqq (yL a))).trans (yyF a)
  · exact yyF a
def yaz (b:dA):dA:=(b.1,b.2.1,b.2.2.1,-1,0,b.2.2.2.2.2)
def yfQ (a:dA):dA×Int:=bif yd (yl a) then (yl a,6) else (yz (yaz (yl a)),bif yd (yz (yaz (yl a))) then 6 else 0)
def ysZ (a:dA):dA×Int :=
  bif !(yr a) then (a,1) else bif yd a then (a,6) else bif a.2.2.2.1== -1||((nth a.2.2.1 a.2.2.2.1 yf).2.2.1||ltb a.2.2.2.2.1 a.2.1.2) then (a,2) else bif a.2.2.2.2.2.2.2.2.2.2.2 then (a,5) else bif leb 59990 a.2.2.2.2.2.2.2.1 then (a,7) else yfQ a
theorem yWL {a:dA} (ha:ygd a≤2097152):ygd (ysZ a).1≤2105000:=by
  have h0:ygd a≤2105000:=by omega
  unfold ysZ
  cases hk:yr a
  · exact h0
  have h5:=yUd hk
  have hc:=yNn (yDC hk)
  have hn:=ySj (x:=yz (yaz (yl a))) ha (by rw [yLf,show (yaz (yl a)).2.2.1=(yl a).2.2.1 from rfl,yGe]; exact h5) (yGT (a:=yaz (yl a)) hc) ((yDJ _).trans (yB8 a))
  have hn2:=ySj (x:=yl a) ha (by rw [yGe]; exact h5) hc (yB8 a)
  cases yd a
  · cases (a.2.2.2.1== -1||((nth a.2.2.1 a.2.2.2.1 yf).2.2.1||ltb a.2.2.2.2.1 a.2.1.2))
    · cases a.2.2.2.2.2.2.2.2.2.2.2
      · cases leb 59990 a.2.2.2.2.2.2.2.1
        · show ygd (yfQ a).1≤_
          unfold yfQ
          cases yd (yl a)
          · exact hn
          · exact hn2
        · exact h0
      · exact h0
    · exact h0
  · exact h0
def yem (a:dA):Int×(Int×Int)×Int×Int×Int×Int×Int×List dW×Bool:=(a.1,a.2.1,a.2.2.2.1,a.2.2.2.2.1,a.2.2.2.2.2.1,a.2.2.2.2.2.2.1,a.2.2.2.2.2.2.2.1,a.2.2.2.2.2.2.2.2.1,a.2.2.2.2.2.2.2.2.2.2.2)
theorem yHF (a:dA):yem (opA a).2=yem a:=by
  unfold opA
  cases yd a
  · cases (a.2.2.2.2.2.2.2.2.2.1==0)
    · cases ltb 0 a.2.2.2.2.2.2.2.2.2.1<;>rfl
    · rfl
  · rfl
theorem yU2 (a:dA) (m n:Int) (s:List Int):yem (yic a m n s)=yem a:=by
  unfold yic
  cases (nth a.2.2.1 m yf).2.2.1
  · cases (opA a).1
    · exact yHF a
    · exact yHF a
  · rfl
theorem yU5 (a:dA) (i:Nat):yem (yG a i)=yem a:=by
  unfold yG
  cases (nth a.2.2.1 i yf).2.2.1
  · cases (opA a).1
    · exact yHF a
    · exact yHF a
  · rfl
theorem yGi {one:dA→Nat→dA} (h: ∀ a i,yem (one a i)=yem a): ∀ (l:List Nat) (a:dA),yem (l.foldl one a)=yem a
  | [],_=>rfl
  | x::l,a=>by rw [List.foldl_cons,yGi h l,h]
theorem yVP (a:dA):yem (yL a)=yem a:=yGi yU5 _ _
theorem yVH (a:dA):yem (yz a)=yem (yiJ a):=(yVP _).trans (yGi (one:=yaH) (fun _ _=>yU2 _ _ _ _) _ _)
theorem yUh {a b:dA} (h:yem a=yem b):a.2.1=b.2.1:=congrArg (fun x=>x.2.1) h
theorem yNo {a b:dA} (h:yem a=yem b):a.2.2.2.2.1=b.2.2.2.2.1:=congrArg (fun x=>x.2.2.2.1) h
theorem yWN {a b:dA} (h:yem a=yem b):a.2.2.2.2.2.2.2.2.1=b.2.2.2.2.2.2.2.2.1:=congrArg (fun x=>x.2.2.2.2.2.2.2.1) h
def ydB (d:List dW) (x:dA):Prop:=x.2.2.1.length≤5∧yU x.2.2.1∧x.2.2.2.2.2.2.2.2.1=d
theorem yV7 {a:dA} (h:yr a=true):ydB a.2.2.2.2.2.2.2.2.1 a:=⟨yUd h,yDC h,rfl⟩
theorem yV8 {d:List dW} {a:dA} {m n:Int} {s:List Int} (h:ydB d a) (hm:inb m a.2.2.1.length=true):ydB d (yic a m n s):=⟨by rw [yHG]; exact h.1,yU3 h.2.1 hm,(ySt _ _ _ _).trans h.2.2⟩
theorem yW4 {d:List dW} {a:dA} (h:ydB d a):ydB d (yL a):=⟨by rw [yDT]; exact h.1,yB6 h.2.1,(yyF _).trans h.2.2⟩
theorem ySr {d:List dW} {a:dA} (h:ydB d a):ydB d (yz a):=⟨by rw [yLf]; exact h.1,yGT h.2.1,(yDJ _).trans h.2.2⟩
theorem yOy {d:List dW} {a:dA} (h:ydB d a):ydB d (yl a):=⟨by rw [yGe]; exact h.1,yNn h.2.1,(yB8 _).trans h.2.2⟩
theorem yVA {d:List dW} {x:dA} (h:ydB d x):ygd x≤yHD d+5205:=by
  have:=yHk h.2.1
  have:x.2.2.1.length * 1041≤5 * 1041:=Nat.mul_le_mul_right _ h.1
  unfold ygd
  rw [h.2.2]
  omega
theorem yVX {a x:dA} (ha:ygd a≤2097152) (h:ydB a.2.2.2.2.2.2.2.2.1 x):ygd x≤2105000:=by
  have:=yVA h
  unfold ygd at ha
  omega
theorem yVz {d:List dW} {a:dA} (h:ydB d a):ydB d (ysZ a).1:=by
  have hn:ydB d (yz (yaz (yl a))):=ySr (a:=yaz (yl a)) (yOy h)
  unfold ysZ
  cases yr a
  · exact h
  cases yd a
  · cases (a.2.2.2.1== -1||((nth a.2.2.1 a.2.2.2.1 yf).2.2.1||ltb a.2.2.2.2.1 a.2.1.2))
    · cases a.2.2.2.2.2.2.2.2.2.2.2
      · cases leb 59990 a.2.2.2.2.2.2.2.1
        · show ydB d (yfQ a).1
          unfold yfQ
          cases yd (yl a)
          · exact hn
          · exact yOy h
        · exact h
      · exact h
    · exact h
  · exact h
def yU4 (b:dA):dA:=(b.1,b.2.1,b.2.2.1,b.2.2.2.1,IntKind.i64.wrap (b.2.2.2.2.1+1),b.2.2.2.2.2)
def yb4 (a:dA):dA:=yic a a.2.2.2.1 (yqf a.2.2.2.2.1) [nth (ye5 a a.2.2.2.2.1).1 a.2.2.2.1 0]
def yr5 (a:dA):Int×dA:=bif (ye5 a a.2.2.2.2.1).2 then (bif yd (yb4 a) then (6,yb4 a) else (0,yU4 (yb4 a))) else (5,a)
def yB (a:dA):dA×Int :=
  bif !(yr a) then (a,1) else bif yd a then (a,6) else bif a.2.2.2.1== -1||((nth a.2.2.1 a.2.2.2.1 yf).2.2.1||leb a.2.1.2 a.2.2.2.2.1) then (a,2) else bif a.2.2.2.2.2.2.2.2.2.2.2 then (a,5) else ((yr5 a).2,(yr5 a).1)
def ye0:Nat→dA→dA×Int
  | 0,a=>(a,0)
  | n+1,a=>bif ltb a.2.2.2.2.1 a.2.1.2 then (bif (yB a).2 !=0 then yB a else ye0 n (yB a).1) else (a,0)
def yku (a:dA):dA×Int:=bif (yw a).2 !=0 then yw a else bif (ye0 8 (yw a).1).2 !=0 then ye0 8 (yw a).1 else ysZ (ye0 8 (yw a).1).1
theorem ySi {a:dA} (h:yr a=true):0≤a.2.2.2.2.1∧a.2.2.2.2.1≤a.2.1.2:=by
  simp only [yr,Bool.and_eq_true,zjQ]at h
  exact h.2.2.2.2.2.1
theorem yVN {d:List dW} {a:dA} (h:ydB d a) (hl:inb a.2.2.2.1 a.2.2.1.length=true):ydB d (yr5 a).2:=by
  unfold yr5
  have hp:ydB d (yb4 a):=yV8 h hl
  cases (ye5 a a.2.2.2.2.1).2
  · exact h
  · cases yd (yb4 a)
    · exact hp
    · exact hp
theorem yDq {d:List dW} {a:dA} (h:ydB d a):ydB d (yB a).1:=by
  unfold yB
  cases ha:yr a
  · exact h
  cases yd a
  · cases hl:(a.2.2.2.1== -1)
    · cases ((nth a.2.2.1 a.2.2.2.1 yf).2.2.1||leb a.2.1.2 a.2.2.2.2.1)
      · cases a.2.2.2.2.2.2.2.2.2.2.2
        · exact yVN h (yuy ha (beq_eq_false_iff_ne.1 hl))
        · exact h
      · exact h
    · exact h
  · exact h
theorem yLD {d:List dW}: ∀ {n:Nat} {a:dA},ydB d a→ydB d (ye0 n a).1
  | 0,_,h=>h
  | n+1,a,h=>by
    unfold ye0
    cases ltb a.2.2.2.2.1 a.2.1.2
    · exact h
    · cases ((yB a).2 !=0)
      · exact yLD (yDq h)
      · exact yDq h
theorem yDN {d:List dW} {a:dA} (h:ydB d a):ydB d (yw a).1:=by
  unfold yw
  cases ha:yr a
  · exact h
  have hs:=yVi ha
  cases yd a
  · cases (a.2.2.2.1== -1|| !((nth a.2.2.1 a.2.2.2.1 yf).2.2.1))
    · cases a.2.2.2.2.2.2.2.2.2.2.2
      · cases leb 59990 a.2.2.2.2.2.2.2.1
        · exact ySr (a:=yD a) ⟨by rw [hs.2]; exact h.1,hs.1,h.2.2⟩
        · exact h
      · exact h
    · exact h
  · exact h
theorem yTb {d:List dW} {a:dA} (h:ydB d a):ydB d (yku a).1:=by
  unfold yku
  cases ((yw a).2 !=0)
  · cases ((ye0 8 (yw a).1).2 !=0)
    · exact yVz (yLD (yDN h))
    · exact yLD (yDN h)
  · exact yDN h
theorem ySu {a:dA} (h:(yB a).2=0):yr a=true∧a.2.2.2.2.1 < a.2.1.2∧(yB a).1.2.1=a.2.1∧(yB a).1.2.2.2.2.1=a.2.2.2.2.1+1:=by
  unfold yB at h ⊢
  cases ha:yr a
  · rw [ha]at h; exact absurd (show (1:Int)=0 from h) (by decide)
  rw [ha]at h
  have hg:=yam.1 (ye6 ha)
  have hb:=ySi ha
  cases hd:yd a
  · rw [hd]at h
    cases hc:(a.2.2.2.1== -1||((nth a.2.2.1 a.2.2.2.1 yf).2.2.1||leb a.2.1.2 a.2.2.2.2.1))
    · rw [hc]at h
      simp only [Bool.or_eq_false_iff]at hc
      have hS:a.2.2.2.2.1 < a.2.1.2:=by
        rcases Int.lt_or_le a.2.2.2.2.1 a.2.1.2 with h1 | h1
        · exact h1
        · have:=hc.2.2; rw [zk0 h1]at this; cases this
      cases hbr:a.2.2.2.2.2.2.2.2.2.2.2
      · rw [hbr]at h
        simp only [Bool.not_true,cond_false]at h ⊢
        unfold yr5 at h ⊢
        cases hw:(ye5 a a.2.2.2.2.1).2
        · rw [hw]at h; exact absurd (show (5:Int)=0 from h) (by decide)
        · rw [hw]at h
          cases hp:yd (yb4 a)
          · have hc2:=yU2 a a.2.2.2.1 (yqf a.2.2.2.2.1) [nth (ye5 a a.2.2.2.2.1).1 a.2.2.2.1 0]
            refine ⟨trivial,hS,(show (yb4 a).2.1=a.2.1 from yUh hc2),?_⟩
            show IntKind.i64.wrap ((yb4 a).2.2.2.2.1+1)=_
            rw [show (yb4 a).2.2.2.2.1=a.2.2.2.2.1 from yNo hc2,wr (by omega) (by omega)]
          · rw [hp]at h; exact absurd (show (6:Int)=0 from h) (by decide)
      · rw [hbr]at h; exact absurd (show (5:Int)=0 from h) (by decide)
    · rw [hc]at h; exact absurd (show (2:Int)=0 from h) (by decide)
  · rw [hd]at h; exact absurd (show (6:Int)=0 from h) (by decide)
theorem yVn {n:Nat} {a:dA} (h:ltb a.2.2.2.2.1 a.2.1.2=false):ye0 n a=(a,0):=by
  cases n
  · rfl
  · unfold ye0; rw [h]; rfl
theorem yPZ {a:dA} (h:(yw a).2=0):(yw a).1.2.1=a.2.1∧(yw a).1.2.2.2.2.1=0∧yg a.2.1=true:=by
  unfold yw at h ⊢
  cases ha:yr a
  · rw [ha]at h; exact absurd (show (1:Int)=0 from h) (by decide)
  rw [ha]at h
  cases hd:yd a
  · rw [hd]at h
    cases hc:(a.2.2.2.1== -1|| !((nth a.2.2.1 a.2.2.2.1 yf).2.2.1))
    · rw [hc]at h
      cases hb:a.2.2.2.2.2.2.2.2.2.2.2
      · rw [hb]at h
        cases hg:leb 59990 a.2.2.2.2.2.2.2.1
        · have hm:=yVH (yD a)
          exact ⟨(show (yz (yD a)).2.1=(yiJ (yD a)).2.1 from yUh hm),(show (yz (yD a)).2.2.2.2.1=(yiJ (yD a)).2.2.2.2.1 from yNo hm),ye6 ha⟩
        · rw [hg]at h; exact absurd (show (7:Int)=0 from h) (by decide)
      · rw [hb]at h; exact absurd (show (5:Int)=0 from h) (by decide)
    · rw [hc]at h; exact absurd (show (2:Int)=0 from h) (by decide)
  · rw [hd]at h; exact absurd (show (6:Int)=0 from h) (by decide)
end
end
end Go.Tf
