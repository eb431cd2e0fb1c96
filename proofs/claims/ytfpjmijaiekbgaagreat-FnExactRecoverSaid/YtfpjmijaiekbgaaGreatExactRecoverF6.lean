/- Functions of the program, and what they come to. -/
import Derived.Test.YtfpjmijaiekbgaaGreatExactRecoverF5
namespace Go.Tf
noncomputable section
open Go.Proofs
set_option synthInstance.maxHeartbeats 400000
set_option synthInstance.maxSize 10000
set_option linter.unusedVariables false
set_option linter.unusedSimpArgs false
set_option maxRecDepth 100000
section
def yJd:Code:=(Tryz.f219.body).getD .skip
def yJC:Env:=zki TT [] []
theorem yRg:FrOk Tryz.prog ⟨yJC,6,fun _=>none⟩ yJd:=zkp yb yc trivial
def yTG:Nat→Option Seg:=fun _=>none
abbrev yny:List Par:= [.rd tG]
abbrev ytZ:List OT:= [⟨false,tI,.fz⟩]
def yw0 (a0:dG):Option (ResD ytZ×MutD yny) :=
  some (((IntKind.i64.wrap (6+a0.2)),()),())
theorem yZ3 (x:InD yny):zjH ⟨yJC,6,yTG⟩ Tryz.f219.results.toList yJd yny ytZ x=yw0 x.1:=by kernel_rfl
theorem yV8:ConOk Tryz.prog 219 ⟨yny,ytZ,fun x=>yw0 x.1⟩:=zkh (yRg) Tryz.func219 (by kernel_rfl) (by kernel_rfl) Tryz.ntmps219.symm (by decide) (fun x r h=>(yZ3 x).trans h)
def yt4 (a0:dG):Int :=
  (IntKind.i64.wrap (6+a0.2))
def yGD:Con:=⟨yny,ytZ,fun x=>(fun n=>some ((n,()),())) (yt4 x.1)⟩
theorem yYk (a0:dG):yw0 a0=(fun n=>some ((n,()),())) (yt4 a0):=zkS (p:=fun (n:Int)=>((n,()),())) rfl
theorem yY6:ConOk Tryz.prog 219 yGD:=(yV8).mono (fun x r _ h=>(yYk x.1).trans h)
end
section
def ynh:Code:=(Tryz.f158.body).getD .skip
def ytr:Env:=zki TT [(218,ygp),(219,yGD)] []
theorem yRe:FrOk Tryz.prog ⟨ytr,51,fun _=>none⟩ ynh:=zkp yb yc ⟨ynS,yY6,trivial⟩
def yFH:Nat→Option Seg:=fun _=>none
def yb6:Shape:=⟨[(1,false,[.ptr 0 0]),(3,false,[.int .i64])],[(0,[.int .i64,.int .i64,.int .i64,.br tM,.int .i64,.int .i64,.int .i64,.int .i64,.int .i64,.br tW,.int .i64,.bool,.bool])],[]⟩
def ygP:Shape:=⟨[(1,false,[.ptr 0 0]),(3,false,[.ci .i64 0])],[(0,[.int .i64,.int .i64,.int .i64,.br tM,.int .i64,.int .i64,.int .i64,.int .i64,.int .i64,.br tW,.int .i64,.bool,.bool])],[]⟩
def ygH:Shape:=⟨[(1,false,[.ptr 0 0])],[(0,[.int .i64,.int .i64,.int .i64,.br tM,.int .i64,.int .i64,.int .i64,.int .i64,.int .i64,.br tW,.int .i64,.bool,.bool])],[]⟩
def ygX:Shape:=⟨[(2,false,[.bool])],[],[]⟩
abbrev ysC (v0:Int) (v1:dA):(yb6).X:=((((),()),(v0,()),()),((v1.1,v1.2.1.1,v1.2.1.2,v1.2.2.1,v1.2.2.2.1,v1.2.2.2.2.1,v1.2.2.2.2.2.1,v1.2.2.2.2.2.2.1,v1.2.2.2.2.2.2.2.1,v1.2.2.2.2.2.2.2.2.1,v1.2.2.2.2.2.2.2.2.2.1,v1.2.2.2.2.2.2.2.2.2.2.1,v1.2.2.2.2.2.2.2.2.2.2.2,()),()),())
abbrev yOH (v0:dA):(ygP).X:=((((),()),((),()),()),((v0.1,v0.2.1.1,v0.2.1.2,v0.2.2.1,v0.2.2.2.1,v0.2.2.2.2.1,v0.2.2.2.2.2.1,v0.2.2.2.2.2.2.1,v0.2.2.2.2.2.2.2.1,v0.2.2.2.2.2.2.2.2.1,v0.2.2.2.2.2.2.2.2.2.1,v0.2.2.2.2.2.2.2.2.2.2.1,v0.2.2.2.2.2.2.2.2.2.2.2,()),()),())
abbrev yOA (v0:dA):(ygH).X:=((((),()),()),((v0.1,v0.2.1.1,v0.2.1.2,v0.2.2.1,v0.2.2.2.1,v0.2.2.2.2.1,v0.2.2.2.2.2.1,v0.2.2.2.2.2.2.1,v0.2.2.2.2.2.2.2.1,v0.2.2.2.2.2.2.2.2.1,v0.2.2.2.2.2.2.2.2.2.1,v0.2.2.2.2.2.2.2.2.2.2.1,v0.2.2.2.2.2.2.2.2.2.2.2,()),()),())
abbrev yOL (v0:Bool):(ygX).X:=(((v0,()),()),(),())
def ysY (v0:Int) (v1:Int) (v2:Int) (v3:Int) (v4:List dM) (v5:Int) (v6:Int) (v7:Int) (v8:Int) (v9:Int) (v10:List dW) (v11:Int) (v12:Bool) (v13:Bool):Option ((yb6).X ⊕ ((ygH).X ⊕ (ygX).X)) :=
  bif (ltb v0 (v4.length:Int)) then
    bif (inb v0 v4.length) then
      let r3:=yX ((nth v4 v0 ([],[],false,[])).1,((nth v4 v0 ([],[],false,[])).2).1,(((nth v4 v0 ([],[],false,[])).2).2))
      bif (!(!r3)) then
        let r4:=yt4 (v2,v3)
        bif (!((((nth v4 v0 ([],[],false,[])).1).length:Int) !=r4)) then
          bif (((nth v4 v0 ([],[],false,[])).2).2).1 then
            bif (v0 !=v5) then
              bif (!v13) then
                some (.inr (.inr (((false,()),()),(),())))
              else
                some (.inl ((((),()),((IntKind.i64.wrap (v0+1)),()),()),((v1,v2,v3,v4,v5,v6,v7,v8,v9,v10,v11,v12,v13,()),()),()))
            else
              some (.inl ((((),()),((IntKind.i64.wrap (v0+1)),()),()),((v1,v2,v3,v4,v5,v6,v7,v8,v9,v10,v11,v12,v13,()),()),()))
          else
            some (.inl ((((),()),((IntKind.i64.wrap (v0+1)),()),()),((v1,v2,v3,v4,v5,v6,v7,v8,v9,v10,v11,v12,v13,()),()),()))
        else
          some (.inr (.inr (((false,()),()),(),())))
      else
        some (.inr (.inr (((false,()),()),(),())))
    else none
  else
    some (.inr (.inl ((((),()),()),((v1,v2,v3,v4,v5,v6,v7,v8,v9,v10,v11,v12,v13,()),()),())))
def ycC (x:(yb6).X):=ysY x.1.2.1.1 x.2.1.1.1 x.2.1.1.2.1 x.2.1.1.2.2.1 x.2.1.1.2.2.2.1 x.2.1.1.2.2.2.2.1 x.2.1.1.2.2.2.2.2.1 x.2.1.1.2.2.2.2.2.2.1 x.2.1.1.2.2.2.2.2.2.2.1 x.2.1.1.2.2.2.2.2.2.2.2.1 x.2.1.1.2.2.2.2.2.2.2.2.2.1 x.2.1.1.2.2.2.2.2.2.2.2.2.2.1 x.2.1.1.2.2.2.2.2.2.2.2.2.2.2.1 x.2.1.1.2.2.2.2.2.2.2.2.2.2.2.2.1
def yB3 (x:(ygP).X):(yb6).X:=((((),()),(0,()),()),((x.2.1.1.1,x.2.1.1.2.1,x.2.1.1.2.2.1,x.2.1.1.2.2.2.1,x.2.1.1.2.2.2.2.1,x.2.1.1.2.2.2.2.2.1,x.2.1.1.2.2.2.2.2.2.1,x.2.1.1.2.2.2.2.2.2.2.1,x.2.1.1.2.2.2.2.2.2.2.2.1,x.2.1.1.2.2.2.2.2.2.2.2.2.1,x.2.1.1.2.2.2.2.2.2.2.2.2.2.1,x.2.1.1.2.2.2.2.2.2.2.2.2.2.2.1,x.2.1.1.2.2.2.2.2.2.2.2.2.2.2.2.1,()),()),())
def yDE:Code:=(zdI ynh 64 52).getD .skip
theorem yQm:zdI ynh 64 13=some (.block 0 (.loop yDE)):=by kernel_rfl
theorem yTh (x:(yb6).X):zg7 ⟨ytr,51,yFH⟩ 0 yDE 52 yb6 ygH ygX x=ycC x:=by kernel_rfl
def yCh (x:(ygP).X):Nat:=(fun (u0:Int) (u1:Int) (u2:Int) (u3:List dM) (u4:Int) (u5:Int) (u6:Int) (u7:Int) (u8:Int) (u9:List dW) (u10:Int) (u11:Bool) (u12:Bool)=>18446744073709551616) x.2.1.1.1 x.2.1.1.2.1 x.2.1.1.2.2.1 x.2.1.1.2.2.2.1 x.2.1.1.2.2.2.2.1 x.2.1.1.2.2.2.2.2.1 x.2.1.1.2.2.2.2.2.2.1 x.2.1.1.2.2.2.2.2.2.2.1 x.2.1.1.2.2.2.2.2.2.2.2.1 x.2.1.1.2.2.2.2.2.2.2.2.2.1 x.2.1.1.2.2.2.2.2.2.2.2.2.2.1 x.2.1.1.2.2.2.2.2.2.2.2.2.2.2.1 x.2.1.1.2.2.2.2.2.2.2.2.2.2.2.2.1
def yun (x:(ygP).X):Option ((ygH).X ⊕ (ygX).X):=zr ycC (yCh x) (yB3 x)
def yCy:Seg:=⟨ygP,ygH,ygX,yun⟩
def yFI:Nat→Option Seg:=fun q=>bif Nat.beq q 13 then some yCy else yFH q
theorem yRf:FrOk Tryz.prog ⟨ytr,51,yFI⟩ ynh:=(yRe).loop (sg:=yCy) yb6 yB3 (by decide) yQm ycC yCh (by decide) (fun _=>rfl) (fun x r _ h=>h) yTh
abbrev yfn:List Par:= [.rd tA]
abbrev ynz:List OT:= [⟨false,tB,.fz⟩]
def ypQ (a0:dA):Option (ResD ynz×MutD yfn) :=
  zjw (yun ((((),()),((),()),()),((a0.1,a0.2.1.1,a0.2.1.2,a0.2.2.1,a0.2.2.2.1,a0.2.2.2.2.1,a0.2.2.2.2.2.1,a0.2.2.2.2.2.2.1,a0.2.2.2.2.2.2.2.1,a0.2.2.2.2.2.2.2.2.1,a0.2.2.2.2.2.2.2.2.2.1,a0.2.2.2.2.2.2.2.2.2.2.1,a0.2.2.2.2.2.2.2.2.2.2.2,()),()),())) (fun y4 =>
    some ((((y4.2.1.1.2.2.2.1.length:Int)==y4.2.1.1.2.1),()),())) (fun y4 =>
    some ((y4.1.1.1,()),()))
theorem yZ2 (x:InD yfn):zjH ⟨ytr,51,yFI⟩ Tryz.f158.results.toList ynh yfn ynz x=ypQ x.1:=by kernel_rfl
theorem yV7:ConOk Tryz.prog 158 ⟨yfn,ynz,fun x=>ypQ x.1⟩:=zkh (yRf) Tryz.func158 (by kernel_rfl) (by kernel_rfl) Tryz.ntmps158.symm (by decide) (fun x r h=>(yZ2 x).trans h)
def ynP (a0:dA):Bool:=ywE a0
def yAB (a0:dA):Bool:=yg a0.2.1
theorem yYj (a0:dA) (hk:zi9 yfn (a0,())) (hq:yAB a0=true):ypQ a0=(fun n=>some ((n,()),())) (ynP a0):=by
  have hb:a0.2.2.1.length * 80≤2 ^ 47:=hk.1.2.2.1.1
  have hg:=yaZ.1 hq
  have h1:yun (yOH a0)=some (bif (List.range a0.2.2.1.length).any (yji a0) then .inr (yOL false) else .inl (yOA a0)) :=
    zf4 (step:=ycC) (fun i=>ysC i a0) a0.2.2.1.length (yji a0) _ _ (fun i hi=>by
      simp only [ycC,ysC,ysY,zjI (show (i:Int) < a0.2.2.1.length by omega),cond_true,wr (show -9223372036854775808≤(i:Int)+1 by omega) (by omega),Int.natCast_add,Int.natCast_one,Int.toNat_natCast,zkO hi,zkV,yX,yji,yt4,wr (show -9223372036854775808≤6+a0.2.1.2 by omega) (by omega),yf]
      cases yp (nth a0.2.2.1 i ([],[],false,[]))<;>cases (((nth a0.2.2.1 i ([],[],false,[])).1.length:Int) !=6+a0.2.1.2)<;>cases (nth a0.2.2.1 i ([],[],false,[])).2.2.1<;>cases ((i:Int) !=a0.2.2.2.1)<;>cases a0.2.2.2.2.2.2.2.2.2.2.2<;>rfl) (by simp only [ycC,ysC,ysY,zkm (Int.le_refl _),cond_false]) _ (by show _ < 18446744073709551616; omega)
  unfold ypQ ynP ywE
  rw [h1]
  cases (List.range a0.2.2.1.length).any (yji a0)<;>rfl
def yt6 (a0:dA):Option (ResD ynz×MutD yfn):=bif yAB a0 then (fun n=>some ((n,()),())) (ynP a0) else none
theorem yZb (a0:dA) (h:yAB a0=true):yt6 a0=(fun n=>some ((n,()),())) (ynP a0):=by unfold yt6; rw [h]; rfl
def yGC:Con:=⟨yfn,ynz,fun x=>yt6 x.1⟩
theorem yY5:ConOk Tryz.prog 158 yGC:=(yV7).mono (fun x r hk h=>zkW h (fun hq=>yYj x.1 hk hq))
end
section
def ykX:Code:=(Tryz.f159.body).getD .skip
def yrk:Env:=zki TT [(98,yu),(200,ymu)] []
theorem yOt:FrOk Tryz.prog ⟨yrk,57,fun _=>none⟩ ykX:=zkp yb yc ⟨yF,ywN,trivial⟩
def yDm:Nat→Option Seg:=fun _=>none
def ybt:Shape:=⟨[(1,false,[.ptr 0 0]),(3,false,[.int .i64])],[(0,[.int .i64,.int .i64,.int .i64,.br tM,.int .i64,.int .i64,.int .i64,.int .i64,.int .i64,.br tW,.int .i64,.bool,.bool])],[]⟩
def yfR:Shape:=⟨[(1,false,[.ptr 0 0]),(3,false,[.ci .i64 0])],[(0,[.int .i64,.int .i64,.int .i64,.br tM,.int .i64,.int .i64,.int .i64,.int .i64,.int .i64,.br tW,.int .i64,.bool,.bool])],[]⟩
def yfG:Shape:=⟨[],[],[]⟩
def yfX:Shape:=⟨[(2,false,[.bool])],[],[]⟩
abbrev yqG (v0:Int) (v1:dA):(ybt).X:=((((),()),(v0,()),()),((v1.1,v1.2.1.1,v1.2.1.2,v1.2.2.1,v1.2.2.2.1,v1.2.2.2.2.1,v1.2.2.2.2.2.1,v1.2.2.2.2.2.2.1,v1.2.2.2.2.2.2.2.1,v1.2.2.2.2.2.2.2.2.1,v1.2.2.2.2.2.2.2.2.2.1,v1.2.2.2.2.2.2.2.2.2.2.1,v1.2.2.2.2.2.2.2.2.2.2.2,()),()),())
abbrev yMu (v0:dA):(yfR).X:=((((),()),((),()),()),((v0.1,v0.2.1.1,v0.2.1.2,v0.2.2.1,v0.2.2.2.1,v0.2.2.2.2.1,v0.2.2.2.2.2.1,v0.2.2.2.2.2.2.1,v0.2.2.2.2.2.2.2.1,v0.2.2.2.2.2.2.2.2.1,v0.2.2.2.2.2.2.2.2.2.1,v0.2.2.2.2.2.2.2.2.2.2.1,v0.2.2.2.2.2.2.2.2.2.2.2,()),()),())
abbrev yMj  :(yfG).X:=((),(),())
abbrev yMz (v0:Bool):(yfX).X:=(((v0,()),()),(),())
def yq3 (v0:Int) (v1:Int) (v2:Int) (v3:Int) (v4:List dM) (v5:Int) (v6:Int) (v7:Int) (v8:Int) (v9:Int) (v10:List dW) (v11:Int) (v12:Bool) (v13:Bool):Option ((ybt).X ⊕ ((yfG).X ⊕ (yfX).X)) :=
  bif (ltb v0 (v10.length:Int)) then
    bif (inb v0 v10.length) then
      let r3:=ya ((nth v10 v0 (0,[])).1) 0 (IntKind.i64.wrap (v3 - 1))
      bif (!(!r3)) then
        bif (!((((nth v10 v0 (0,[])).2).length:Int) !=(IntKind.i64.wrap (v2 - 1)))) then
          let r4:=yY ((nth v10 v0 (0,[])).2)
          bif (!(!r4)) then
            bif (ltb 0 v0) then
              bif (inb (IntKind.i64.wrap (v0 - 1)) v10.length) then
                bif (leb ((nth v10 v0 (0,[])).1) ((nth v10 (IntKind.i64.wrap (v0 - 1)) (0,[])).1)) then
                  some (.inr (.inr (((false,()),()),(),())))
                else
                  some (.inl ((((),()),((IntKind.i64.wrap (v0+1)),()),()),((v1,v2,v3,v4,v5,v6,v7,v8,v9,v10,v11,v12,v13,()),()),()))
              else none
            else
              some (.inl ((((),()),((IntKind.i64.wrap (v0+1)),()),()),((v1,v2,v3,v4,v5,v6,v7,v8,v9,v10,v11,v12,v13,()),()),()))
          else
            some (.inr (.inr (((false,()),()),(),())))
        else
          some (.inr (.inr (((false,()),()),(),())))
      else
        some (.inr (.inr (((false,()),()),(),())))
    else none
  else
    some (.inr (.inl ((),(),())))
def ybS (x:(ybt).X):=yq3 x.1.2.1.1 x.2.1.1.1 x.2.1.1.2.1 x.2.1.1.2.2.1 x.2.1.1.2.2.2.1 x.2.1.1.2.2.2.2.1 x.2.1.1.2.2.2.2.2.1 x.2.1.1.2.2.2.2.2.2.1 x.2.1.1.2.2.2.2.2.2.2.1 x.2.1.1.2.2.2.2.2.2.2.2.1 x.2.1.1.2.2.2.2.2.2.2.2.2.1 x.2.1.1.2.2.2.2.2.2.2.2.2.2.1 x.2.1.1.2.2.2.2.2.2.2.2.2.2.2.1 x.2.1.1.2.2.2.2.2.2.2.2.2.2.2.2.1
def yzH (x:(yfR).X):(ybt).X:=((((),()),(0,()),()),((x.2.1.1.1,x.2.1.1.2.1,x.2.1.1.2.2.1,x.2.1.1.2.2.2.1,x.2.1.1.2.2.2.2.1,x.2.1.1.2.2.2.2.2.1,x.2.1.1.2.2.2.2.2.2.1,x.2.1.1.2.2.2.2.2.2.2.1,x.2.1.1.2.2.2.2.2.2.2.2.1,x.2.1.1.2.2.2.2.2.2.2.2.2.1,x.2.1.1.2.2.2.2.2.2.2.2.2.2.1,x.2.1.1.2.2.2.2.2.2.2.2.2.2.2.1,x.2.1.1.2.2.2.2.2.2.2.2.2.2.2.2.1,()),()),())
def yBx:Code:=(zdI ykX 64 52).getD .skip
theorem yNI:zdI ykX 64 13=some (.block 0 (.loop yBx)):=by kernel_rfl
theorem yPK (x:(ybt).X):zg7 ⟨yrk,57,yDm⟩ 0 yBx 52 ybt yfG yfX x=ybS x:=by kernel_rfl
def yz0 (x:(yfR).X):Nat:=(fun (u0:Int) (u1:Int) (u2:Int) (u3:List dM) (u4:Int) (u5:Int) (u6:Int) (u7:Int) (u8:Int) (u9:List dW) (u10:Int) (u11:Bool) (u12:Bool)=>18446744073709551616) x.2.1.1.1 x.2.1.1.2.1 x.2.1.1.2.2.1 x.2.1.1.2.2.2.1 x.2.1.1.2.2.2.2.1 x.2.1.1.2.2.2.2.2.1 x.2.1.1.2.2.2.2.2.2.1 x.2.1.1.2.2.2.2.2.2.2.1 x.2.1.1.2.2.2.2.2.2.2.2.1 x.2.1.1.2.2.2.2.2.2.2.2.2.1 x.2.1.1.2.2.2.2.2.2.2.2.2.2.1 x.2.1.1.2.2.2.2.2.2.2.2.2.2.2.1 x.2.1.1.2.2.2.2.2.2.2.2.2.2.2.2.1
def ysr (x:(yfR).X):Option ((yfG).X ⊕ (yfX).X):=zr ybS (yz0 x) (yzH x)
def yAq:Seg:=⟨yfR,yfG,yfX,ysr⟩
def yDn:Nat→Option Seg:=fun q=>bif Nat.beq q 13 then some yAq else yDm q
theorem yOu:FrOk Tryz.prog ⟨yrk,57,yDn⟩ ykX:=(yOt).loop (sg:=yAq) ybt yzH (by decide) yNI ybS yz0 (by decide) (fun _=>rfl) (fun x r _ h=>h) yPK
abbrev yd1:List Par:= [.rd tA]
abbrev ylo:List OT:= [⟨false,tB,.fz⟩]
def ym0 (a0:dA):Option (ResD ylo×MutD yd1) :=
  zjw (ysr ((((),()),((),()),()),((a0.1,a0.2.1.1,a0.2.1.2,a0.2.2.1,a0.2.2.2.1,a0.2.2.2.2.1,a0.2.2.2.2.2.1,a0.2.2.2.2.2.2.1,a0.2.2.2.2.2.2.2.1,a0.2.2.2.2.2.2.2.2.1,a0.2.2.2.2.2.2.2.2.2.1,a0.2.2.2.2.2.2.2.2.2.2.1,a0.2.2.2.2.2.2.2.2.2.2.2,()),()),())) (fun y4 =>
    some ((true,()),())) (fun y4 =>
    some ((y4.1.1.1,()),()))
theorem yXy (x:InD yd1):zjH ⟨yrk,57,yDn⟩ Tryz.f159.results.toList ykX yd1 ylo x=ym0 x.1:=by kernel_rfl
theorem ySG:ConOk Tryz.prog 159 ⟨yd1,ylo,fun x=>ym0 x.1⟩:=zkh (yOu) Tryz.func159 (by kernel_rfl) (by kernel_rfl) Tryz.ntmps159.symm (by decide) (fun x r h=>(yXy x).trans h)
def ylI (a0:dA):Bool:=yrN a0.2.1 a0.2.2.2.2.2.2.2.2.1
def yyr (a0:dA):Bool:=yg a0.2.1
theorem yAI (l:List Int):yY l=l.all isW:=by
  unfold yY
  rw [show yR=isW from funext fun x=>by unfold yR; rw [yfg]; rfl]
theorem yVB (a0:dA) (hk:zi9 yd1 (a0,())) (hq:yyr a0=true):ym0 a0=(fun n=>some ((n,()),())) (ylI a0):=by
  have hb:a0.2.2.2.2.2.2.2.2.1.length * 32≤2 ^ 47:=hk.1.2.2.2.2.2.2.2.2.1.1
  have hg:=yaZ.1 hq
  have h1:ysr (yMu a0)=some (bif (List.range a0.2.2.2.2.2.2.2.2.1.length).any (yrM a0.2.1 a0.2.2.2.2.2.2.2.2.1) then .inr (yMz false) else .inl yMj) :=
    zf4 (step:=ybS) (fun i=>yqG i a0) a0.2.2.2.2.2.2.2.2.1.length (yrM a0.2.1 a0.2.2.2.2.2.2.2.2.1) _ _ (fun i hi=>by
      simp only [ybS,yqG,yq3,zjI (show (i:Int) < a0.2.2.2.2.2.2.2.2.1.length by omega),cond_true,wr (show -9223372036854775808≤(i:Int)+1 by omega) (by omega),Int.natCast_add,Int.natCast_one,Int.toNat_natCast,zkO hi,yfg,yAI,wr (show -9223372036854775808≤a0.2.1.2 - 1 by omega) (by omega),wr (show -9223372036854775808≤a0.2.1.1 - 1 by omega) (by omega),yrM]
      rcases Nat.eq_zero_or_pos i with rfl | h0
      · cases (leb 0 (nth a0.2.2.2.2.2.2.2.2.1 ((0:Nat):Int) (0,[])).1&&leb (nth a0.2.2.2.2.2.2.2.2.1 ((0:Nat):Int) (0,[])).1 (a0.2.1.2 - 1))<;>cases (((nth a0.2.2.2.2.2.2.2.2.1 ((0:Nat):Int) (0,[])).2.length:Int) !=a0.2.1.1 - 1)<;>cases ((nth a0.2.2.2.2.2.2.2.2.1 ((0:Nat):Int) (0,[])).2.all isW)<;>rfl
      · rw [show IntKind.i64.wrap ((i:Int) - 1)=((i - 1:Nat):Int) by rw [wr (by omega) (by omega)]; omega,zkO (show i - 1 < a0.2.2.2.2.2.2.2.2.1.length by omega),zjI (show (0:Int) < i by omega),decide_eq_true h0]
        cases (leb 0 (nth a0.2.2.2.2.2.2.2.2.1 (i:Int) (0,[])).1&&leb (nth a0.2.2.2.2.2.2.2.2.1 (i:Int) (0,[])).1 (a0.2.1.2 - 1))<;>cases (((nth a0.2.2.2.2.2.2.2.2.1 (i:Int) (0,[])).2.length:Int) !=a0.2.1.1 - 1)<;>cases ((nth a0.2.2.2.2.2.2.2.2.1 (i:Int) (0,[])).2.all isW)<;>cases leb (nth a0.2.2.2.2.2.2.2.2.1 (i:Int) (0,[])).1 (nth a0.2.2.2.2.2.2.2.2.1 ((i - 1:Nat):Int) (0,[])).1<;>rfl) (by simp only [ybS,yqG,yq3,zkm (Int.le_refl _),cond_false]) _ (by show _ < 18446744073709551616; omega)
  unfold ym0 ylI yrN
  rw [h1]
  cases (List.range a0.2.2.2.2.2.2.2.2.1.length).any (yrM a0.2.1 a0.2.2.2.2.2.2.2.2.1)<;>rfl
def yrT (a0:dA):Option (ResD ylo×MutD yd1):=bif yyr a0 then (fun n=>some ((n,()),())) (ylI a0) else none
theorem yWA (a0:dA) (h:yyr a0=true):yrT a0=(fun n=>some ((n,()),())) (ylI a0):=by unfold yrT; rw [h]; rfl
def yDZ:Con:=⟨yd1,ylo,fun x=>yrT x.1⟩
theorem yWv:ConOk Tryz.prog 159 yDZ:=(ySG).mono (fun x r hk h=>zkW h (fun hq=>yVB x.1 hk hq))
end
section
def yKN:Code:=(Tryz.f82.body).getD .skip
def yK4:Env:=zki TT [(98,yu),(141,yrK),(158,yGC),(159,yDZ)] []
theorem yUQ:FrOk Tryz.prog ⟨yK4,78,fun _=>none⟩ yKN:=zkp yb yc ⟨yF,yAz,yY5,yWv,trivial⟩
def yW1:Nat→Option Seg:=fun _=>none
abbrev yla:List Par:= [.rd tA]
abbrev yv3:List OT:= [⟨false,tB,.fz⟩]
def yr3 (a0:dA):Option (ResD yv3×MutD yla) :=
  let r1:=yg a0.2.1
  bif (!(!r1)) then
    let r2:=ya a0.1 1 60000
    bif (!(!r2)) then
      bnd (yt6 a0) fun r3 =>
      bif (!(!r3.1.1)) then
        bnd (yrT a0) fun r4 =>
        bif (!r4.1.1) then
          some ((false,()),())
        else
          let r5:=ya a0.2.2.2.1 (-1) (IntKind.i64.wrap (a0.2.1.1 - 1))
          bif (!(!r5)) then
            let r6:=ya a0.2.2.2.2.1 0 a0.2.1.2
            bif (!(!r6)) then
              bif (a0.2.2.2.1==(-1)) then
                bif (a0.2.2.2.2.1 !=0) then
                  some ((false,()),())
                else
                  let r7:=ya a0.2.2.2.2.2.2.1 0 60000
                  bif r7 then
                    let r8:=ya a0.2.2.2.2.2.1 a0.2.2.2.2.2.2.1 60000
                    bif r8 then
                      bif (leb a0.2.2.2.2.2.1 (IntKind.i64.wrap (a0.2.2.2.2.2.2.1+4))) then
                        let r9:=ya a0.2.2.2.2.2.2.2.1 0 60000
                        bif r9 then
                          let r10:=ya a0.2.2.2.2.2.2.2.2.2.1 (-1) 1000
                          some ((r10,()),())
                        else
                          some ((false,()),())
                      else
                        some ((false,()),())
                    else
                      some ((false,()),())
                  else
                    some ((false,()),())
              else
                let r11:=ya a0.2.2.2.2.2.2.1 0 60000
                bif r11 then
                  let r12:=ya a0.2.2.2.2.2.1 a0.2.2.2.2.2.2.1 60000
                  bif r12 then
                    bif (leb a0.2.2.2.2.2.1 (IntKind.i64.wrap (a0.2.2.2.2.2.2.1+4))) then
                      let r13:=ya a0.2.2.2.2.2.2.2.1 0 60000
                      bif r13 then
                        let r14:=ya a0.2.2.2.2.2.2.2.2.2.1 (-1) 1000
                        some ((r14,()),())
                      else
                        some ((false,()),())
                    else
                      some ((false,()),())
                  else
                    some ((false,()),())
                else
                  some ((false,()),())
            else
              some ((false,()),())
          else
            some ((false,()),())
      else
        some ((false,()),())
    else
      some ((false,()),())
  else
    some ((false,()),())
theorem y1b (x:InD yla):zjH ⟨yK4,78,yW1⟩ Tryz.f82.results.toList yKN yla yv3 x=yr3 x.1:=by kernel_rfl
theorem yYE:ConOk Tryz.prog 82 ⟨yla,yv3,fun x=>yr3 x.1⟩:=zkh (yUQ) Tryz.func82 (by kernel_rfl) (by kernel_rfl) Tryz.ntmps82.symm (by decide) (fun x r h=>(y1b x).trans h)
def yg5 (a0:dA):Bool:=yaJ a0
theorem y0o (a0:dA) (hk:zi9 yla (a0,())):yr3 a0=(fun n=>some ((n,()),())) (yg5 a0):=by
  unfold yr3 yg5 yaJ
  simp only [yfg]
  cases hg:yg a0.2.1
  · rfl
  have hg2:=yaZ.1 hg
  rw [yZb a0 hg,yWA a0 hg,wr (show -9223372036854775808≤a0.2.1.1 - 1 by omega) (by omega)]
  simp only [zky,ynP,ylI,Bool.not_not,cond_true]
  cases (leb 1 a0.1&&leb a0.1 60000)
  · rfl
  cases ywE a0
  · rfl
  cases yrN a0.2.1 a0.2.2.2.2.2.2.2.2.1
  · rfl
  cases (leb (-1) a0.2.2.2.1&&leb a0.2.2.2.1 (a0.2.1.1 - 1))
  · rfl
  cases (leb 0 a0.2.2.2.2.1&&leb a0.2.2.2.2.1 a0.2.1.2)
  · rfl
  have ht:(leb 0 a0.2.2.2.2.2.2.1&&leb a0.2.2.2.2.2.2.1 60000)=true→IntKind.i64.wrap (a0.2.2.2.2.2.2.1+4)=a0.2.2.2.2.2.2.1+4:=fun h=>by
    rw [Bool.and_eq_true,zjQ,zjQ]at h
    exact wr (by omega) (by omega)
  cases hT:(leb 0 a0.2.2.2.2.2.2.1&&leb a0.2.2.2.2.2.2.1 60000)
  · cases (a0.2.2.2.1== -1)<;>cases (a0.2.2.2.2.1 !=0)<;>rfl
  rw [ht hT]
  cases (leb a0.2.2.2.2.2.2.1 a0.2.2.2.2.2.1&&leb a0.2.2.2.2.2.1 60000)
  · cases (a0.2.2.2.1== -1)<;>cases (a0.2.2.2.2.1 !=0)<;>rfl
  cases leb a0.2.2.2.2.2.1 (a0.2.2.2.2.2.2.1+4)
  · cases (a0.2.2.2.1== -1)<;>cases (a0.2.2.2.2.1 !=0)<;>rfl
  cases (leb 0 a0.2.2.2.2.2.2.2.1&&leb a0.2.2.2.2.2.2.2.1 60000)<;>cases (a0.2.2.2.1== -1)<;>cases (a0.2.2.2.2.1 !=0)<;>rfl
def yyj:Con:=⟨yla,yv3,fun x=>(fun n=>some ((n,()),())) (yg5 x.1)⟩
theorem yJN:ConOk Tryz.prog 82 yyj:=(yYE).mono (fun x r hk h=>(y0o x.1 hk).trans h)
end
section
def yp2:Code:=(Tryz.f252.body).getD .skip
def yvx:Env:=zki TT [] []
theorem yU0:FrOk Tryz.prog ⟨yvx,18,fun _=>none⟩ yp2:=zkp yb yc trivial
def yHD:Nat→Option Seg:=fun _=>none
def ycR:Shape:=⟨[(0,false,[.br tI]),(1,false,[.int .i64]),(5,false,[.int .i64])],[],[]⟩
def yiN:Shape:=⟨[(0,false,[.br tI]),(1,false,[.int .i64]),(5,false,[.ci .i64 0])],[],[]⟩
def yiv:Shape:=⟨[],[],[]⟩
def yjd:Shape:=⟨[(4,false,[.bool])],[],[]⟩
abbrev yuG (v0:List Int) (v1:Int) (v2:Int):(ycR).X:=(((v0,()),(v1,()),(v2,()),()),(),())
abbrev yRH (v0:List Int) (v1:Int):(yiN).X:=(((v0,()),(v1,()),((),()),()),(),())
abbrev yRy  :(yiv).X:=((),(),())
abbrev yRR (v0:Bool):(yjd).X:=(((v0,()),()),(),())
def yu6 (v0:List Int) (v1:Int) (v2:Int):Option ((ycR).X ⊕ ((yiv).X ⊕ (yjd).X)) :=
  bif (ltb v2 (v0.length:Int)) then
    bif (inb v2 v0.length) then
      bif ((nth v0 v2 0)==v1) then
        some (.inr (.inr (((true,()),()),(),())))
      else
        some (.inl (((v0,()),(v1,()),((IntKind.i64.wrap (v2+1)),()),()),(),()))
    else none
  else
    some (.inr (.inl ((),(),())))
def yds (x:(ycR).X):=yu6 x.1.1.1 x.1.2.1.1 x.1.2.2.1.1
def yEc (x:(yiN).X):(ycR).X:=(((x.1.1.1,()),(x.1.2.1.1,()),(0,()),()),(),())
def yGg:Code:=(zdI yp2 64 52).getD .skip
theorem yTS:zdI yp2 64 13=some (.block 0 (.loop yGg)):=by kernel_rfl
theorem yWM (x:(ycR).X):zg7 ⟨yvx,18,yHD⟩ 0 yGg 52 ycR yiv yjd x=yds x:=by kernel_rfl
def yEu (x:(yiN).X):Nat:=(fun (u0:List Int) (u1:Int)=>18446744073709551616) x.1.1.1 x.1.2.1.1
def yvK (x:(yiN).X):Option ((yiv).X ⊕ (yjd).X):=zr yds (yEu x) (yEc x)
def yEZ:Seg:=⟨yiN,yiv,yjd,yvK⟩
def yHE:Nat→Option Seg:=fun q=>bif Nat.beq q 13 then some yEZ else yHD q
theorem yU1:FrOk Tryz.prog ⟨yvx,18,yHE⟩ yp2:=(yU0).loop (sg:=yEZ) ycR yEc (by decide) yTS yds yEu (by decide) (fun _=>rfl) (fun x r _ h=>h) yWM
abbrev yle:List Par:= [.rd tL,.rd tI]
abbrev yv9:List OT:= [⟨false,tB,.fz⟩]
def yr6 (a0:List Int) (a1:Int):Option (ResD yv9×MutD yle) :=
  zjw (yvK (((a0,()),(a1,()),((),()),()),(),())) (fun y0 =>
    some ((false,()),())) (fun y0 =>
    some ((y0.1.1.1,()),()))
theorem y1h (x:InD yle):zjH ⟨yvx,18,yHE⟩ Tryz.f252.results.toList yp2 yle yv9 x=yr6 x.1 x.2.1:=by kernel_rfl
theorem yYK:ConOk Tryz.prog 252 ⟨yle,yv9,fun x=>yr6 x.1 x.2.1⟩:=zkh (yU1) Tryz.func252 (by kernel_rfl) (by kernel_rfl) Tryz.ntmps252.symm (by decide) (fun x r h=>(y1h x).trans h)
def yqI (a0:List Int) (a1:Int):Bool:=a0.any (· ==a1)
theorem y0u (a0:List Int) (a1:Int) (hk:zi9 yle (a0,a1,())):yr6 a0 a1=(fun n=>some ((n,()),())) (yqI a0 a1):=by
  have hb:a0.length * 8≤2 ^ 47:=hk.1.1
  have h1:yvK (yRH a0 a1)=some (bif a0.all (· !=a1) then .inl yRy else .inr (yRR true)) :=
    zjS (step:=yds) a0 0 (fun i=>yuG a0 a1 i) (· !=a1) _ _ (fun i hi=>by
      simp only [yds,yuG,yu6,zjI (show (i:Int) < a0.length by omega),cond_true,wr (show -9223372036854775808≤(i:Int)+1 by omega) (by omega),Int.natCast_add,Int.natCast_one,Int.toNat_natCast,zkO hi,zjW,bne]
      cases (a0.getD i 0==a1)<;>rfl) (by simp only [yds,yuG,yu6,zkm (Int.le_refl _),cond_false]) _ (by show _ < 18446744073709551616; omega)
  unfold yr6 yqI
  rw [h1,show a0.any (· ==a1)= !(a0.all (· !=a1)) by simp [List.all_eq_not_any_not,bne]]
  cases a0.all (· !=a1)<;>rfl
def yH5:Con:=⟨yle,yv9,fun x=>(fun n=>some ((n,()),())) (yqI x.1 x.2.1)⟩
theorem y0P:ConOk Tryz.prog 252 yH5:=(yYK).mono (fun x r hk h=>(y0u x.1 x.2.1 hk).trans h)
end
section
def ykV:Code:=(Tryz.f220.body).getD .skip
def yri:Env:=zki TT [(98,yu),(218,ygp),(252,yH5)] []
theorem yOn:FrOk Tryz.prog ⟨yri,60,fun _=>none⟩ ykV:=zkp yb yc ⟨yF,ynS,y0P,trivial⟩
def yDi:Nat→Option Seg:=fun _=>none
def ybr:Shape:=⟨[(1,false,[.int .i64]),(2,false,[.ptr 0 0]),(6,false,[.br tI]),(7,false,[.int .i64])],[(0,[.br tL,.br tW,.bool,.br tI])],[]⟩
def yfP:Shape:=⟨[(1,false,[.int .i64]),(2,false,[.ptr 0 0]),(6,false,[.br tI]),(7,false,[.ci .i64 0])],[(0,[.br tL,.br tW,.bool,.br tI])],[]⟩
def yfE:Shape:=⟨[(6,false,[.br tI])],[],[]⟩
def ykd:Shape:=⟨[],[],[]⟩
abbrev yqE (v0:Int) (v1:List Int) (v2:Int) (v3:dM):(ybr).X:=(((v0,()),((),()),(v1,()),(v2,()),()),((v3.1,v3.2.1,v3.2.2.1,v3.2.2.2,()),()),())
abbrev yMs (v0:Int) (v1:List Int) (v2:dM):(yfP).X:=(((v0,()),((),()),(v1,()),((),()),()),((v2.1,v2.2.1,v2.2.2.1,v2.2.2.2,()),()),())
abbrev yz7 (v0:List Int):(yfE).X:=(((v0,()),()),(),())
def yq0 (v0:Int) (v1:List Int) (v2:Int) (v3:List (List Int)) (v4:List dW) (v5:Bool) (v6:List Int):Option ((ybr).X ⊕ ((yfE).X ⊕ (ykd).X)) :=
  bif (ltb v2 (v4.length:Int)) then
    bif (inb v2 v4.length) then
      bif ((nth v4 v2 (0,[])).1==v0) then
        bif (inb v2 v4.length) then
          some (.inl (((v0,()),((),()),((nth v4 v2 (0,[])).2,()),((IntKind.i64.wrap (v2+1)),()),()),((v3,v4,v5,v6,()),()),()))
        else none
      else
        some (.inl (((v0,()),((),()),(v1,()),((IntKind.i64.wrap (v2+1)),()),()),((v3,v4,v5,v6,()),()),()))
    else none
  else
    some (.inr (.inl (((v1,()),()),(),())))
def ybP (x:(ybr).X):=yq0 x.1.1.1 x.1.2.2.1.1 x.1.2.2.2.1.1 x.2.1.1.1 x.2.1.1.2.1 x.2.1.1.2.2.1 x.2.1.1.2.2.2.1
def yzE (x:(yfP).X):(ybr).X:=(((x.1.1.1,()),((),()),(x.1.2.2.1.1,()),(0,()),()),((x.2.1.1.1,x.2.1.1.2.1,x.2.1.1.2.2.1,x.2.1.1.2.2.2.1,()),()),())
def yBu:Code:=(zdI ykV 64 244).getD .skip
theorem yNF:zdI ykV 64 61=some (.block 0 (.loop yBu)):=by kernel_rfl
theorem yPH (x:(ybr).X):zg7 ⟨yri,60,yDi⟩ 0 yBu 244 ybr yfE ykd x=ybP x:=by kernel_rfl
def yzX (x:(yfP).X):Nat:=(fun (u0:Int) (u1:List Int) (u2:List (List Int)) (u3:List dW) (u4:Bool) (u5:List Int)=>18446744073709551616) x.1.1.1 x.1.2.2.1.1 x.2.1.1.1 x.2.1.1.2.1 x.2.1.1.2.2.1 x.2.1.1.2.2.2.1
def yso (x:(yfP).X):Option ((yfE).X ⊕ (ykd).X):=zr ybP (yzX x) (yzE x)
def yAn:Seg:=⟨yfP,yfE,ykd,yso⟩
def yDj:Nat→Option Seg:=fun q=>bif Nat.beq q 61 then some yAn else yDi q
theorem yOo:FrOk Tryz.prog ⟨yri,60,yDj⟩ ykV:=(yOn).loop (sg:=yAn) ybr yzE (by decide) yNF ybP yzX (by decide) (fun _=>rfl) (fun x r _ h=>h) yPH
abbrev ygm:List Par:= [.rd tM,.rd tI]
abbrev yrC:List OT:= [⟨false,tL,(.ow .fz)⟩,⟨false,tB,.fz⟩]
def ymX (a0:dM) (a1:Int):Option (ResD yrC×MutD ygm) :=
  let r1:=yX a0
  bif (!(!r1)) then
    bif (!a0.2.2.1) then
      let r2:=ya a1 0 (IntKind.i64.wrap ((a0.1.length:Int) - 1))
      bif (!(!r2)) then
        let r3:=yqI a0.2.2.2 a1
        bif r3 then
          some ((([]:List Int),false,()),())
        else
          bif (inb a1 a0.1.length) then
            zjw (yso (((a1,()),((),()),((nth a0.1 a1 []),()),((),()),()),((a0.1,a0.2.1,a0.2.2.1,a0.2.2.2,()),()),())) (fun y3 =>
              bif (zj4 ([]:List Int).length y3.1.1.1.length 8) then
                some (((([]:List Int)++y3.1.1.1),true,()),())
              else none) (fun y3 =>
              none)
          else none
      else
        some ((([]:List Int),false,()),())
    else
      some ((([]:List Int),false,()),())
  else
    some ((([]:List Int),false,()),())
theorem yXu (x:InD ygm):zjH ⟨yri,60,yDj⟩ Tryz.f220.results.toList ykV ygm yrC x=ymX x.1 x.2.1:=by kernel_rfl
theorem ySC:ConOk Tryz.prog 220 ⟨ygm,yrC,fun x=>ymX x.1 x.2.1⟩:=zkh (yOo) Tryz.func220 (by kernel_rfl) (by kernel_rfl) Tryz.ntmps220.symm (by decide) (fun x r h=>(yXu x).trans h)
def yeg (a0:dM) (a1:Int):List Int×Bool:=yk a0 a1
theorem yVx (a0:dM) (a1:Int) (hk:zi9 ygm (a0,a1,())):ymX a0 a1=(fun n=>some ((n.1,n.2,()),())) (yeg a0 a1):=by
  have hb1:a0.1.length * 24≤2 ^ 47:=hk.1.1.1
  have hb2:a0.2.1.length * 32≤2 ^ 47:=hk.1.2.1.1
  have h1: ∀ s,yso (yMs a1 s a0)=some (.inl (yz7 (yIi a1 a0.2.1 s))):=fun s =>
    zkk (step:=ybP) a0.2.1 (0,[]) (fun i s=>yqE a1 s i a0) (fun s w=>bif w.1==a1 then w.2 else s) (fun _ _=>True) (fun s=> .inl (yz7 s)) (fun i s hi _=>⟨by
      simp only [ybP,yqE,yq0,zjI (show (i:Int) < a0.2.1.length by omega),cond_true,wr (show -9223372036854775808≤(i:Int)+1 by omega) (by omega),Int.natCast_add,Int.natCast_one,Int.toNat_natCast,zkO hi,zjW]
      cases ((a0.2.1.getD i (0,[])).1==a1)<;>rfl,trivial⟩) (fun s _=>by simp only [ybP,yqE,yq0,zkm (Int.le_refl _),cond_false]) s trivial _ (by show _ < 18446744073709551616; omega)
  unfold ymX yeg yk yNd
  rw [ytb (show a0.1.length≤1152921504606846976 by omega)]
  unfold yX yqI
  simp only [h1,zkJ,List.nil_append]
  cases yp a0
  · rfl
  cases a0.2.2.1
  · cases hi:inb a1 a0.1.length
    · rfl
    · cases a0.2.2.2.any (· ==a1)
      · have hs:(yIi a1 a0.2.1 (nth a0.1 a1 [])).length * 8≤2 ^ 47 :=
          yVc (P:=fun s=>s.length * 8≤2 ^ 47) (y16 (P:=fun s:List Int=>s.length * 8≤2 ^ 47) hi fun x hx=>(hk.1.1.2 x hx).1) fun w hw=>(hk.1.2.1.2 w hw).2.1
        simp only [Bool.not_true,Bool.not_false,cond_true,cond_false,Bool.true_and,show zj4 ([]:List Int).length (yIi a1 a0.2.1 (nth a0.1 a1 [])).length 8=true from zkw.2 (by rw [List.length_nil]; omega)]
      · rfl
  · rfl
def yut:Con:=⟨ygm,yrC,fun x=>(fun n=>some ((n.1,n.2,()),())) (yeg x.1 x.2.1)⟩
theorem yGT:ConOk Tryz.prog 220 yut:=(ySC).mono (fun x r hk h=>(yVx x.1 x.2.1 hk).trans h)
end
end
end Go.Tf
