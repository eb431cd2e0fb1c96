/- Functions of the program, and what they come to. -/
import Derived.Test.YtfpjmijaiekbgaaGreatExactReplayF15
namespace Go.Tf
noncomputable section
open Go.Proofs
set_option synthInstance.maxHeartbeats 400000
set_option synthInstance.maxSize 10000
set_option linter.unusedVariables false
set_option linter.unusedSimpArgs false
set_option maxRecDepth 100000
section
def yjk:Code:=(Tryz.f76.body).getD .skip
def ypd:Env:=zki TT [(151,ya8),(152,yyK)] []
theorem yJY:FrOk Tryz.prog ⟨ypd,31,fun _=>none⟩ yjk:=zkp yb yc ⟨ydC,yOm,trivial⟩
def yz0:Nat→Option Seg:=fun _=>none
def yaZ:Shape:=⟨[(1,false,[.ptr 0 0]),(2,false,[.ptr 64 0]),(3,false,[.at 800000000]),(8,false,[.br tW]),(9,false,[.int .i64]),(10,false,[.int .i64])],[(0,[.int .i64,.int .i64,.int .i64,.br tM,.int .i64,.int .i64,.int .i64,.int .i64,.int .i64,.br tW,.int .i64,.bool,.bool]),(64,[.int .i64,.int .i64,.int .i64,.nil,.int .i64,.int .i64,.int .i64,.int .i64,.int .i64,.nil,.int .i64,.bool,.bool])],[(800000000,tW,(.pr .fz (.ow .fz)))]⟩
def yeO:Shape:=⟨[(1,false,[.ptr 0 0]),(2,false,[.ptr 64 0]),(3,false,[.at 800000000]),(8,false,[.br tW]),(9,false,[.int .i64]),(10,false,[.ci .i64 0])],[(0,[.int .i64,.int .i64,.int .i64,.br tM,.int .i64,.int .i64,.int .i64,.int .i64,.int .i64,.br tW,.int .i64,.bool,.bool]),(64,[.int .i64,.int .i64,.int .i64,.nil,.int .i64,.int .i64,.int .i64,.int .i64,.int .i64,.nil,.int .i64,.bool,.bool])],[(800000000,tW,(.pr .fz (.ow .fz)))]⟩
def yeD:Shape:=⟨[(1,false,[.ptr 0 0]),(2,false,[.ptr 64 0]),(3,false,[.at 800000000])],[(0,[.int .i64,.int .i64,.int .i64,.br tM,.int .i64,.int .i64,.int .i64,.int .i64,.int .i64,.br tW,.int .i64,.bool,.bool]),(64,[.int .i64,.int .i64,.int .i64,.nil,.int .i64,.int .i64,.int .i64,.int .i64,.int .i64,.nil,.int .i64,.bool,.bool])],[(800000000,tW,(.pr .fz (.ow .fz)))]⟩
def yiJ:Shape:=⟨[],[],[]⟩
abbrev yoD (v0:List dW) (v1:Int) (v2:Int) (v3:dA) (v4:dA) (v5:List dW):(yaZ).X:=((((),()),((),()),((),()),(v0,()),(v1,()),(v2,()),()),((v3.1,v3.2.1.1,v3.2.1.2,v3.2.2.1,v3.2.2.2.1,v3.2.2.2.2.1,v3.2.2.2.2.2.1,v3.2.2.2.2.2.2.1,v3.2.2.2.2.2.2.2.1,v3.2.2.2.2.2.2.2.2.1,v3.2.2.2.2.2.2.2.2.2.1,v3.2.2.2.2.2.2.2.2.2.2.1,v3.2.2.2.2.2.2.2.2.2.2.2,()),(v4.1,v4.2.1.1,v4.2.1.2,(),v4.2.2.2.1,v4.2.2.2.2.1,v4.2.2.2.2.2.1,v4.2.2.2.2.2.2.1,v4.2.2.2.2.2.2.2.1,(),v4.2.2.2.2.2.2.2.2.2.1,v4.2.2.2.2.2.2.2.2.2.2.1,v4.2.2.2.2.2.2.2.2.2.2.2,()),()),(v5,()))
abbrev yIz (v0:List dW) (v1:Int) (v2:dA) (v3:dA) (v4:List dW):(yeO).X:=((((),()),((),()),((),()),(v0,()),(v1,()),((),()),()),((v2.1,v2.2.1.1,v2.2.1.2,v2.2.2.1,v2.2.2.2.1,v2.2.2.2.2.1,v2.2.2.2.2.2.1,v2.2.2.2.2.2.2.1,v2.2.2.2.2.2.2.2.1,v2.2.2.2.2.2.2.2.2.1,v2.2.2.2.2.2.2.2.2.2.1,v2.2.2.2.2.2.2.2.2.2.2.1,v2.2.2.2.2.2.2.2.2.2.2.2,()),(v3.1,v3.2.1.1,v3.2.1.2,(),v3.2.2.2.1,v3.2.2.2.2.1,v3.2.2.2.2.2.1,v3.2.2.2.2.2.2.1,v3.2.2.2.2.2.2.2.1,(),v3.2.2.2.2.2.2.2.2.2.1,v3.2.2.2.2.2.2.2.2.2.2.1,v3.2.2.2.2.2.2.2.2.2.2.2,()),()),(v4,()))
abbrev yIr (v0:dA) (v1:dA) (v2:List dW):(yeD).X:=((((),()),((),()),((),()),()),((v0.1,v0.2.1.1,v0.2.1.2,v0.2.2.1,v0.2.2.2.1,v0.2.2.2.2.1,v0.2.2.2.2.2.1,v0.2.2.2.2.2.2.1,v0.2.2.2.2.2.2.2.1,v0.2.2.2.2.2.2.2.2.1,v0.2.2.2.2.2.2.2.2.2.1,v0.2.2.2.2.2.2.2.2.2.2.1,v0.2.2.2.2.2.2.2.2.2.2.2,()),(v1.1,v1.2.1.1,v1.2.1.2,(),v1.2.2.2.1,v1.2.2.2.2.1,v1.2.2.2.2.2.1,v1.2.2.2.2.2.2.1,v1.2.2.2.2.2.2.2.1,(),v1.2.2.2.2.2.2.2.2.2.1,v1.2.2.2.2.2.2.2.2.2.2.1,v1.2.2.2.2.2.2.2.2.2.2.2,()),()),(v2,()))
def yoV (v0:List dW) (v1:Int) (v2:Int) (v3:Int) (v4:Int) (v5:Int) (v6:List dM) (v7:Int) (v8:Int) (v9:Int) (v10:Int) (v11:Int) (v12:List dW) (v13:Int) (v14:Bool) (v15:Bool) (v16:Int) (v17:Int) (v18:Int) (v19:Int) (v20:Int) (v21:Int) (v22:Int) (v23:Int) (v24:Int) (v25:Bool) (v26:Bool) (v27:List dW):Option ((yaZ).X ⊕ ((yeD).X ⊕ (yiJ).X)) :=
  bif (ltb v2 v1) then
    bif (inb v2 v0.length) then
      let r2:=yj ((nth v0 v2 (0,[])).2)
      bif (zj4 v27.length ([((nth v0 v2 (0,[])).1,r2)]:List dW).length 32) then
        some (.inl ((((),()),((),()),((),()),(v0,()),(v1,()),((IntKind.i64.wrap (v2+1)),()),()),((v3,v4,v5,v6,v7,v8,v9,v10,v11,v12,v13,v14,v15,()),(v16,v17,v18,(),v19,v20,v21,v22,v23,(),v24,v25,v26,()),()),((v27++([((nth v0 v2 (0,[])).1,r2)]:List dW)),())))
      else none
    else none
  else
    some (.inr (.inl ((((),()),((),()),((),()),()),((v3,v4,v5,v6,v7,v8,v9,v10,v11,v12,v13,v14,v15,()),(v16,v17,v18,(),v19,v20,v21,v22,v23,(),v24,v25,v26,()),()),(v27,()))))
def ybh (x:(yaZ).X):=yoV x.1.2.2.2.1.1 x.1.2.2.2.2.1.1 x.1.2.2.2.2.2.1.1 x.2.1.1.1 x.2.1.1.2.1 x.2.1.1.2.2.1 x.2.1.1.2.2.2.1 x.2.1.1.2.2.2.2.1 x.2.1.1.2.2.2.2.2.1 x.2.1.1.2.2.2.2.2.2.1 x.2.1.1.2.2.2.2.2.2.2.1 x.2.1.1.2.2.2.2.2.2.2.2.1 x.2.1.1.2.2.2.2.2.2.2.2.2.1 x.2.1.1.2.2.2.2.2.2.2.2.2.2.1 x.2.1.1.2.2.2.2.2.2.2.2.2.2.2.1 x.2.1.1.2.2.2.2.2.2.2.2.2.2.2.2.1 x.2.1.2.1.1 x.2.1.2.1.2.1 x.2.1.2.1.2.2.1 x.2.1.2.1.2.2.2.2.1 x.2.1.2.1.2.2.2.2.2.1 x.2.1.2.1.2.2.2.2.2.2.1 x.2.1.2.1.2.2.2.2.2.2.2.1 x.2.1.2.1.2.2.2.2.2.2.2.2.1 x.2.1.2.1.2.2.2.2.2.2.2.2.2.2.1 x.2.1.2.1.2.2.2.2.2.2.2.2.2.2.2.1 x.2.1.2.1.2.2.2.2.2.2.2.2.2.2.2.2.1 x.2.2.1
def ywE (x:(yeO).X):(yaZ).X:=((((),()),((),()),((),()),(x.1.2.2.2.1.1,()),(x.1.2.2.2.2.1.1,()),(0,()),()),((x.2.1.1.1,x.2.1.1.2.1,x.2.1.1.2.2.1,x.2.1.1.2.2.2.1,x.2.1.1.2.2.2.2.1,x.2.1.1.2.2.2.2.2.1,x.2.1.1.2.2.2.2.2.2.1,x.2.1.1.2.2.2.2.2.2.2.1,x.2.1.1.2.2.2.2.2.2.2.2.1,x.2.1.1.2.2.2.2.2.2.2.2.2.1,x.2.1.1.2.2.2.2.2.2.2.2.2.2.1,x.2.1.1.2.2.2.2.2.2.2.2.2.2.2.1,x.2.1.1.2.2.2.2.2.2.2.2.2.2.2.2.1,()),(x.2.1.2.1.1,x.2.1.2.1.2.1,x.2.1.2.1.2.2.1,(),x.2.1.2.1.2.2.2.2.1,x.2.1.2.1.2.2.2.2.2.1,x.2.1.2.1.2.2.2.2.2.2.1,x.2.1.2.1.2.2.2.2.2.2.2.1,x.2.1.2.1.2.2.2.2.2.2.2.2.1,(),x.2.1.2.1.2.2.2.2.2.2.2.2.2.2.1,x.2.1.2.1.2.2.2.2.2.2.2.2.2.2.2.1,x.2.1.2.1.2.2.2.2.2.2.2.2.2.2.2.2.1,()),()),(x.2.2.1,()))
def yyq:Code:=(zdI yjk 64 116).getD .skip
theorem yJz:zdI yjk 64 29=some (.block 0 (.loop yyq)):=by kernel_rfl
theorem yLj (x:(yaZ).X):zg7 ⟨ypd,31,yz0⟩ 0 yyq 116 yaZ yeD yiJ x=ybh x:=by kernel_rfl
def ywX (x:(yeO).X):Nat:=(fun (u0:List dW) (u1:Int) (u2:Int) (u3:Int) (u4:Int) (u5:List dM) (u6:Int) (u7:Int) (u8:Int) (u9:Int) (u10:Int) (u11:List dW) (u12:Int) (u13:Bool) (u14:Bool) (u15:Int) (u16:Int) (u17:Int) (u18:Int) (u19:Int) (u20:Int) (u21:Int) (u22:Int) (u23:Int) (u24:Bool) (u25:Bool) (u26:List dW)=>18446744073709551616) x.1.2.2.2.1.1 x.1.2.2.2.2.1.1 x.2.1.1.1 x.2.1.1.2.1 x.2.1.1.2.2.1 x.2.1.1.2.2.2.1 x.2.1.1.2.2.2.2.1 x.2.1.1.2.2.2.2.2.1 x.2.1.1.2.2.2.2.2.2.1 x.2.1.1.2.2.2.2.2.2.2.1 x.2.1.1.2.2.2.2.2.2.2.2.1 x.2.1.1.2.2.2.2.2.2.2.2.2.1 x.2.1.1.2.2.2.2.2.2.2.2.2.2.1 x.2.1.1.2.2.2.2.2.2.2.2.2.2.2.1 x.2.1.1.2.2.2.2.2.2.2.2.2.2.2.2.1 x.2.1.2.1.1 x.2.1.2.1.2.1 x.2.1.2.1.2.2.1 x.2.1.2.1.2.2.2.2.1 x.2.1.2.1.2.2.2.2.2.1 x.2.1.2.1.2.2.2.2.2.2.1 x.2.1.2.1.2.2.2.2.2.2.2.1 x.2.1.2.1.2.2.2.2.2.2.2.2.1 x.2.1.2.1.2.2.2.2.2.2.2.2.2.2.1 x.2.1.2.1.2.2.2.2.2.2.2.2.2.2.2.1 x.2.1.2.1.2.2.2.2.2.2.2.2.2.2.2.2.1 x.2.2.1
def yqe (x:(yeO).X):Option ((yeD).X ⊕ (yiJ).X):=zr ybh (ywX x) (ywE x)
def yxn:Seg:=⟨yeO,yeD,yiJ,yqe⟩
def yz1:Nat→Option Seg:=fun q=>bif Nat.beq q 29 then some yxn else yz0 q
theorem yJZ:FrOk Tryz.prog ⟨ypd,31,yz1⟩ yjk:=(yJY).loop (sg:=yxn) yaZ ywE (by decide) yJz ybh ywX (by decide) (fun _=>rfl) (fun x r _ h=>h) yLj
abbrev yfi:List Par:= [.rd tA]
abbrev ypr:List OT:= [⟨false,tA,(.pr .fz (.pr (.pr .fz .fz) (.pr (.ow (.pr (.ow (.ow .fz)) (.pr (.ow (.pr .fz (.ow .fz))) (.pr .fz (.ow .fz))))) (.pr .fz (.pr .fz (.pr .fz (.pr .fz (.pr .fz (.pr (.ow (.pr .fz (.ow .fz))) (.pr .fz (.pr .fz .fz)))))))))))⟩]
def yla (a0:dA):Option (ResD ypr×MutD yfi) :=
  zjw (yqe ((((),()),((),()),((),()),(a0.2.2.2.2.2.2.2.2.1,()),((a0.2.2.2.2.2.2.2.2.1.length:Int),()),((),()),()),((a0.1,a0.2.1.1,a0.2.1.2,a0.2.2.1,a0.2.2.2.1,a0.2.2.2.2.1,a0.2.2.2.2.2.1,a0.2.2.2.2.2.2.1,a0.2.2.2.2.2.2.2.1,a0.2.2.2.2.2.2.2.2.1,a0.2.2.2.2.2.2.2.2.2.1,a0.2.2.2.2.2.2.2.2.2.2.1,a0.2.2.2.2.2.2.2.2.2.2.2,()),(0,0,0,(),0,0,0,0,0,(),0,false,false,()),()),(([]:List dW),()))) (fun y2 =>
    let r4:=ynv y2.2.1.1.2.2.2.1
    some (((y2.2.1.1.1,(y2.2.1.1.2.1,y2.2.1.1.2.2.1),r4,y2.2.1.1.2.2.2.2.1,y2.2.1.1.2.2.2.2.2.1,y2.2.1.1.2.2.2.2.2.2.1,y2.2.1.1.2.2.2.2.2.2.2.1,y2.2.1.1.2.2.2.2.2.2.2.2.1,y2.2.2.1,y2.2.1.1.2.2.2.2.2.2.2.2.2.2.1,y2.2.1.1.2.2.2.2.2.2.2.2.2.2.2.1,y2.2.1.1.2.2.2.2.2.2.2.2.2.2.2.2.1),()),())) (fun y2 =>
    none)
theorem ySH (x:InD yfi):zjH ⟨ypd,31,yz1⟩ Tryz.f76.results.toList yjk yfi ypr x=yla x.1:=by kernel_rfl
theorem yNZ:ConOk Tryz.prog 76 ⟨yfi,ypr,fun x=>yla x.1⟩:=zkh (yJZ) Tryz.func76 (by kernel_rfl) (by kernel_rfl) Tryz.ntmps76.symm (by decide) (fun x r h=>(ySH x).trans h)
def yj6 (a0:dA):dA:=a0
theorem yQK (a0:dA) (hk:zi9 yfi (a0,())):yla a0=(fun n=>some ((n,()),())) (yj6 a0):=by
  have hb:a0.2.2.2.2.2.2.2.2.1.length * 32≤2 ^ 47:=hk.1.2.2.2.2.2.2.2.2.1.1
  have h1:=zkk (step:=ybh) a0.2.2.2.2.2.2.2.2.1 (0,[]) (fun i s=>yoD a0.2.2.2.2.2.2.2.2.1 a0.2.2.2.2.2.2.2.2.1.length i a0 ynw s) (fun s x=>s++ [x]) (fun i s=>s.length=i) (fun s=> .inl (yIr a0 ynw s)) (fun i s hi hs=>⟨by
      simp only [ybh,yoD,yoV,zjI (show (i:Int) < a0.2.2.2.2.2.2.2.2.1.length by omega),cond_true,wr (show -9223372036854775808≤(i:Int)+1 by omega) (by omega),Int.natCast_add,Int.natCast_one,Int.toNat_natCast,zkO hi,zjW,yj,zkV]
      rw [zkw.2 (show (s.length+ [a0.2.2.2.2.2.2.2.2.1.getD i (0,[])].length) * 32≤140737488355328 by simp only [List.length_cons,List.length_nil]; omega)]; rfl,by simp [hs]⟩) (fun s hs=>by simp only [ybh,yoD,yoV,zkm (Int.le_refl _),cond_false]) [] rfl 18446744073709551616 (by omega)
  rw [ysp]at h1
  unfold yla yj6
  rw [show yqe (yIz a0.2.2.2.2.2.2.2.2.1 a0.2.2.2.2.2.2.2.2.1.length a0 ynw [])=_ from h1]; rfl
def yAM:Con:=⟨yfi,ypr,fun x=>(fun n=>some ((n,()),())) (yj6 x.1)⟩
theorem yRH:ConOk Tryz.prog 76 yAM:=(yNZ).mono (fun x r hk h=>(yQK x.1 hk).trans h)
end
section
def yCd:Code:=(Tryz.f84.body).getD .skip
def yCQ:Env:=zki TT [(51,yEu)] []
theorem yH2:FrOk Tryz.prog ⟨yCQ,15,fun _=>none⟩ yCd:=zkp yb yc ⟨yWd,trivial⟩
def yJs:Nat→Option Seg:=fun _=>none
abbrev yg0:List Par:= [.rd tA]
abbrev ym3:List OT:= [⟨false,tB,.fz⟩]
def yqI (a0:dA):Option (ResD ym3×MutD yg0) :=
  let r1:=yfV a0
  bif r1 then
    bif (!a0.2.2.2.2.2.2.2.2.2.2.1) then
      some (((ltb a0.2.2.2.2.2.2.2.1 60000),()),())
    else
      some ((false,()),())
  else
    some ((false,()),())
theorem yPH (x:InD yg0):zjH ⟨yCQ,15,yJs⟩ Tryz.f84.results.toList yCd yg0 ym3 x=yqI x.1:=by kernel_rfl
theorem yKX:ConOk Tryz.prog 84 ⟨yg0,ym3,fun x=>yqI x.1⟩:=zkh (yH2) Tryz.func84 (by kernel_rfl) (by kernel_rfl) Tryz.ntmps84.symm (by decide) (fun x r h=>(yPH x).trans h)
def ycG (a0:dA):Bool :=
  let r1:=yfV a0
  bif r1 then
    bif (!a0.2.2.2.2.2.2.2.2.2.2.1) then
      (ltb a0.2.2.2.2.2.2.2.1 60000)
    else
      false
  else
    false
def yyL:Con:=⟨yg0,ym3,fun x=>(fun n=>some ((n,()),())) (ycG x.1)⟩
theorem yNJ (a0:dA):yqI a0=(fun n=>some ((n,()),())) (ycG a0):=zkS (p:=fun (n:Bool)=>((n,()),())) (zkx (p:=fun (n:Bool)=>((n,()),())) (zkx (p:=fun (n:Bool)=>((n,()),())) rfl rfl) rfl)
theorem yOn:ConOk Tryz.prog 84 yyL:=(yKX).mono (fun x r _ h=>(yNJ x.1).trans h)
end
section
def ydI:Code:=(Tryz.f257.body).getD .skip
def ygY:Env:=zki TT [] []
theorem yET:FrOk Tryz.prog ⟨ygY,19,fun _=>none⟩ ydI:=zkp yb yc trivial
def ytd:Nat→Option Seg:=fun _=>none
def yL:Shape:=⟨[(0,false,[.br tI]),(1,false,[.int .i64]),(7,false,[.int .i64]),(8,false,[.int .i64])],[],[]⟩
def ybY:Shape:=⟨[(0,false,[.br tI]),(1,false,[.int .i64]),(7,false,[.int .i64]),(8,false,[.ci .i64 0])],[],[]⟩
def ybX:Shape:=⟨[],[],[]⟩
def ybZ:Shape:=⟨[(4,false,[.int .i64])],[],[]⟩
abbrev yin (v0:List Int) (v1:Int) (v2:Int) (v3:Int):(yL).X:=(((v0,()),(v1,()),(v2,()),(v3,()),()),(),())
abbrev yDO (v0:List Int) (v1:Int) (v2:Int):(ybY).X:=(((v0,()),(v1,()),(v2,()),((),()),()),(),())
abbrev yDN  :(ybX).X:=((),(),())
abbrev yra (v0:Int):(ybZ).X:=(((v0,()),()),(),())
def yio (v0:List Int) (v1:Int) (v2:Int) (v3:Int):Option ((yL).X ⊕ ((ybX).X ⊕ (ybZ).X)) :=
  bif (ltb v3 v2) then
    bif (inb v3 v0.length) then
      bif (v1==(nth v0 v3 0)) then
        some (.inr (.inr (((v3,()),()),(),())))
      else
        some (.inl (((v0,()),(v1,()),(v2,()),((IntKind.i64.wrap (v3+1)),()),()),(),()))
    else none
  else
    some (.inr (.inl ((),(),())))
def yS (x:(yL).X):=yio x.1.1.1 x.1.2.1.1 x.1.2.2.1.1 x.1.2.2.2.1.1
def yq5 (x:(ybY).X):(yL).X:=(((x.1.1.1,()),(x.1.2.1.1,()),(x.1.2.2.1.1,()),(0,()),()),(),())
def ys3:Code:=(zdI ydI 64 52).getD .skip
theorem yEt:zdI ydI 64 13=some (.block 0 (.loop ys3)):=by kernel_rfl
theorem yE4 (x:(yL).X):zg7 ⟨ygY,19,ytd⟩ 0 ys3 52 yL ybX ybZ x=yS x:=by kernel_rfl
def yq6 (x:(ybY).X):Nat:=(fun (u0:List Int) (u1:Int) (u2:Int)=>18446744073709551616) x.1.1.1 x.1.2.1.1 x.1.2.2.1.1
def yjw (x:(ybY).X):Option ((ybX).X ⊕ (ybZ).X):=zr yS (yq6 x) (yq5 x)
def yrc:Seg:=⟨ybY,ybX,ybZ,yjw⟩
def yte:Nat→Option Seg:=fun q=>bif Nat.beq q 13 then some yrc else ytd q
theorem yEU:FrOk Tryz.prog ⟨ygY,19,yte⟩ ydI:=(yET).loop (sg:=yrc) yL yq5 (by decide) yEt yS yq6 (by decide) (fun _=>rfl) (fun x r _ h=>h) yE4
abbrev ybQ:List Par:= [.rd tL,.rd tI]
abbrev yhF:List OT:= [⟨false,tI,.fz⟩]
def yfc (a0:List Int) (a1:Int):Option (ResD yhF×MutD ybQ) :=
  zjw (yjw (((a0,()),(a1,()),((a0.length:Int),()),((),()),()),(),())) (fun y0 =>
    some (((-1),()),())) (fun y0 =>
    some ((y0.1.1.1,()),()))
theorem yHM (x:InD ybQ):zjH ⟨ygY,19,yte⟩ Tryz.f257.results.toList ydI ybQ yhF x=yfc x.1 x.2.1:=by kernel_rfl
theorem yFo:ConOk Tryz.prog 257 ⟨ybQ,yhF,fun x=>yfc x.1 x.2.1⟩:=zkh (yEU) Tryz.func257 (by kernel_rfl) (by kernel_rfl) Tryz.ntmps257.symm (by decide) (fun x r h=>(yHM x).trans h)
def yS9 (l:List Int) (x:Int):Int:=bif l.any (· ==x) then ((l.takeWhile (· !=x)).length:Int) else -1
def yd1 (a0:List Int) (a1:Int):Int:=yS9 a0 a1
theorem yXS {A B α:Type} {step:A→Option (A ⊕ B)} (l:List α) (d:α) (f:Nat→A) (p:α→Bool) (b:Nat→B) (c:B)
    (h: ∀ i,i < l.length→step (f i)=some (bif p (l.getD i d) then .inr (b i) else .inl (f (i+1)))) (e:step (f l.length)=some (.inr c)) (fuel:Nat) (hf:l.length < fuel) :
    zr step fuel (f 0)=some (bif l.any p then b (l.takeWhile (fun x=> !p x)).length else c):=by
  have: ∀ (t q:List α) (fuel:Nat),q++t=l→t.length < fuel→zr step fuel (f q.length)=some (bif t.any p then b (q.length+(t.takeWhile (fun x=> !p x)).length) else c):=by
    intro t
    induction t with
    | nil =>
      intro q fuel hq hf
      obtain ⟨fuel,rfl⟩: ∃ m,fuel=m+1:=⟨fuel - 1,by omega⟩
      rw [List.append_nil]at hq
      subst hq
      simp only [zr,e,List.any_nil,cond_false]
    | cons x t ih =>
      intro q fuel hq hf
      obtain ⟨fuel,rfl⟩: ∃ m,fuel=m+1:=⟨fuel - 1,by omega⟩
      have hx:l.getD q.length d=x:=by
        subst hq
        rw [zcq (by simp)]; simp
      have hs:=h q.length (by rw [← hq]; simp)
      rw [hx]at hs
      cases hp:p x
      · rw [hp]at hs
        have:=ih (q++ [x]) fuel (by rw [← hq]; simp) (by simp at hf; omega)
        simp only [List.length_append,List.length_cons,List.length_nil]at this
        simp only [zr,hs,cond_false]
        simp only [List.any_cons,hp,Bool.false_or,List.takeWhile_cons,Bool.not_false,if_true,List.length_cons]
        rw [show q.length+((t.takeWhile (fun x=> !p x)).length+1)=q.length+(0+1)+(t.takeWhile (fun x=> !p x)).length by omega]
        exact this
      · rw [hp]at hs
        simp only [zr,hs,cond_true,List.any_cons,hp,Bool.true_or,List.takeWhile_cons,Bool.not_true,Bool.false_eq_true,if_false,List.length_nil,Nat.add_zero]
  have:=this l [] fuel rfl hf
  simpa using this
theorem yGH (a0:List Int) (a1:Int) (hk:zi9 ybQ (a0,a1,())):yfc a0 a1=(fun n=>some ((n,()),())) (yd1 a0 a1):=by
  have hb:a0.length * 8≤2 ^ 47:=hk.1.1
  have h1:yjw (yDO a0 a1 a0.length)=some (bif a0.any (· ==a1) then .inr (yra ((a0.takeWhile (fun x=> !(x==a1))).length:Int)) else .inl yDN) :=
    yXS (step:=yS) a0 0 (fun i=>yin a0 a1 a0.length i) (· ==a1) (fun i=> .inr (yra (i:Int))) _ (fun i hi=>by
      simp only [yS,yin,yio,zjI (show (i:Int) < a0.length by omega),cond_true,wr (show -9223372036854775808≤(i:Int)+1 by omega) (by omega),Int.natCast_add,Int.natCast_one,Int.toNat_natCast,zkO hi,zjW]
      rw [show (a1==a0.getD i 0)=(a0.getD i 0==a1) by rw [Bool.eq_iff_iff,beq_iff_eq,beq_iff_eq]; exact eq_comm]
      cases (a0.getD i 0==a1)<;>rfl) (by simp only [yS,yin,yio,zkm (Int.le_refl _),cond_false]) _ (by show _ < 18446744073709551616; omega)
  unfold yfc yd1 yS9
  rw [h1]
  cases a0.any (· ==a1)<;>rfl
def yud:Con:=⟨ybQ,yhF,fun x=>(fun n=>some ((n,()),())) (yd1 x.1 x.2.1)⟩
theorem yGM:ConOk Tryz.prog 257 yud:=(yFo).mono (fun x r hk h=>(yGH x.1 x.2.1 hk).trans h)
end
section
def ys1:Code:=(Tryz.f229.body).getD .skip
def ys2:Env:=zki TT [(257,yud)] []
theorem yBi:FrOk Tryz.prog ⟨ys2,9,fun _=>none⟩ ys1:=zkp yb yc ⟨yGM,trivial⟩
def yB3:Nat→Option Seg:=fun _=>none
abbrev yak:List Par:= [.rd tL,.rd tI]
abbrev yek:List OT:= [⟨false,tB,.fz⟩]
def ydc (a0:List Int) (a1:Int):Option (ResD yek×MutD yak) :=
  let r1:=yd1 a0 a1
  some (((leb 0 r1),()),())
theorem yEO (x:InD yak):zjH ⟨ys2,9,yB3⟩ Tryz.f229.results.toList ys1 yak yek x=ydc x.1 x.2.1:=by kernel_rfl
theorem yB7:ConOk Tryz.prog 229 ⟨yak,yek,fun x=>ydc x.1 x.2.1⟩:=zkh (yBi) Tryz.func229 (by kernel_rfl) (by kernel_rfl) Tryz.ntmps229.symm (by decide) (fun x r h=>(yEO x).trans h)
def yb1 (a0:List Int) (a1:Int):Bool:=a0.any (· ==a1)
theorem yDQ (a0:List Int) (a1:Int) (hk:zi9 yak (a0,a1,())):ydc a0 a1=(fun n=>some ((n,()),())) (yb1 a0 a1):=by
  unfold ydc yb1 yd1 yS9
  cases a0.any (· ==a1)
  · rfl
  · simp only [cond_true]
    rw [zk0 (show (0:Int)≤((a0.takeWhile (· !=a1)).length:Int) by omega)]
def yqb:Con:=⟨yak,yek,fun x=>(fun n=>some ((n,()),())) (yb1 x.1 x.2.1)⟩
theorem yDS:ConOk Tryz.prog 229 yqb:=(yB7).mono (fun x r hk h=>(yDQ x.1 x.2.1 hk).trans h)
end
section
def yjj:Code:=(Tryz.f164.body).getD .skip
def ypc:Env:=zki TT [(132,yjT),(151,ya8),(204,yno),(229,yqb)] []
theorem yJV:FrOk Tryz.prog ⟨ypc,49,fun _=>none⟩ yjj:=zkp yb yc ⟨yr3,ydC,yvG,yDS,trivial⟩
def yzY:Nat→Option Seg:=fun _=>none
def yaY:Shape:=⟨[(1,false,[.int .i64]),(6,false,[.br tI]),(34,false,[.br tW]),(35,false,[.int .i64]),(36,false,[.int .i64])],[],[]⟩
def yeN:Shape:=⟨[(1,false,[.int .i64]),(6,false,[.br tI]),(34,false,[.br tW]),(35,false,[.int .i64]),(36,false,[.ci .i64 0])],[],[]⟩
def yeC:Shape:=⟨[(6,false,[.br tI])],[],[]⟩
def yiI:Shape:=⟨[],[],[]⟩
abbrev yoC (v0:Int) (v1:List Int) (v2:List dW) (v3:Int) (v4:Int):(yaY).X:=(((v0,()),(v1,()),(v2,()),(v3,()),(v4,()),()),(),())
abbrev yIy (v0:Int) (v1:List Int) (v2:List dW) (v3:Int):(yeN).X:=(((v0,()),(v1,()),(v2,()),(v3,()),((),()),()),(),())
abbrev yxe (v0:List Int):(yeC).X:=(((v0,()),()),(),())
def yoU (v0:Int) (v1:List Int) (v2:List dW) (v3:Int) (v4:Int):Option ((yaY).X ⊕ ((yeC).X ⊕ (yiI).X)) :=
  bif (ltb v4 v3) then
    bif (inb v4 v2.length) then
      bif ((nth v2 v4 (0,[])).1==v0) then
        some (.inl (((v0,()),((nth v2 v4 (0,[])).2,()),(v2,()),(v3,()),((IntKind.i64.wrap (v4+1)),()),()),(),()))
      else
        some (.inl (((v0,()),(v1,()),(v2,()),(v3,()),((IntKind.i64.wrap (v4+1)),()),()),(),()))
    else none
  else
    some (.inr (.inl (((v1,()),()),(),())))
def ybg (x:(yaY).X):=yoU x.1.1.1 x.1.2.1.1 x.1.2.2.1.1 x.1.2.2.2.1.1 x.1.2.2.2.2.1.1
def ywD (x:(yeN).X):(yaY).X:=(((x.1.1.1,()),(x.1.2.1.1,()),(x.1.2.2.1.1,()),(x.1.2.2.2.1.1,()),(0,()),()),(),())
def yyp:Code:=(zdI yjj 64 244).getD .skip
theorem yJy:zdI yjj 64 61=some (.block 0 (.loop yyp)):=by kernel_rfl
theorem yLi (x:(yaY).X):zg7 ⟨ypc,49,yzY⟩ 0 yyp 244 yaY yeC yiI x=ybg x:=by kernel_rfl
def ywW (x:(yeN).X):Nat:=(fun (u0:Int) (u1:List Int) (u2:List dW) (u3:Int)=>18446744073709551616) x.1.1.1 x.1.2.1.1 x.1.2.2.1.1 x.1.2.2.2.1.1
def yqd (x:(yeN).X):Option ((yeC).X ⊕ (yiI).X):=zr ybg (ywW x) (ywD x)
def yxm:Seg:=⟨yeN,yeC,yiI,yqd⟩
def yzZ:Nat→Option Seg:=fun q=>bif Nat.beq q 61 then some yxm else yzY q
theorem yJW:FrOk Tryz.prog ⟨ypc,49,yzZ⟩ yjj:=(yJV).loop (sg:=yxm) yaY ywD (by decide) yJy ybg ywW (by decide) (fun _=>rfl) (fun x r _ h=>h) yLi
abbrev yfh:List Par:= [.rd tM,.rd tI]
abbrev ypp:List OT:= [⟨false,tL,(.ow .fz)⟩,⟨false,tB,.fz⟩]
def yk9 (a0:dM) (a1:Int):Option (ResD ypp×MutD yfh) :=
  let r1:=yay a0
  bif (!(!r1)) then
    bif (!a0.2.2.1) then
      let r2:=yaC a0 a1
      bif (!(!r2)) then
        let r3:=yb1 a0.2.2.2 a1
        bif r3 then
          some (([],false,()),())
        else
          bif (inb a1 a0.1.length) then
            zjw (yqd (((a1,()),((nth a0.1 a1 []),()),(a0.2.1,()),((a0.2.1.length:Int),()),((),()),()),(),())) (fun y3 =>
              let r5:=yj y3.1.1.1
              some ((r5,true,()),())) (fun y3 =>
              none)
          else none
      else
        some (([],false,()),())
    else
      some (([],false,()),())
  else
    some (([],false,()),())
theorem ySF (x:InD yfh):zjH ⟨ypc,49,yzZ⟩ Tryz.f164.results.toList yjj yfh ypp x=yk9 x.1 x.2.1:=by kernel_rfl
theorem yNX:ConOk Tryz.prog 164 ⟨yfh,ypp,fun x=>yk9 x.1 x.2.1⟩:=zkh (yJW) Tryz.func164 (by kernel_rfl) (by kernel_rfl) Tryz.ntmps164.symm (by decide) (fun x r h=>(ySF x).trans h)
def yj3 (a0:dM) (a1:Int):List Int×Bool:=yv a0 a1
theorem yQI (a0:dM) (a1:Int) (hk:zi9 yfh (a0,a1,())):yk9 a0 a1=(fun n=>some ((n.1,n.2,()),())) (yj3 a0 a1):=by
  have hb1:a0.1.length * 24≤2 ^ 47:=hk.1.1.1
  have hb2:a0.2.1.length * 32≤2 ^ 47:=hk.1.2.1.1
  have h1: ∀ s,yqd (yIy a1 s a0.2.1 a0.2.1.length)=some (.inl (yxe (yEX a1 a0.2.1 s))):=fun s =>
    zkk (step:=ybg) a0.2.1 (0,[]) (fun i s=>yoC a1 s a0.2.1 a0.2.1.length i) (fun s w=>bif w.1==a1 then w.2 else s) (fun _ _=>True) (fun s=> .inl (yxe s)) (fun i s hi _=>⟨by
      simp only [ybg,yoC,yoU,zjI (show (i:Int) < a0.2.1.length by omega),cond_true,wr (show -9223372036854775808≤(i:Int)+1 by omega) (by omega),Int.natCast_add,Int.natCast_one,Int.toNat_natCast,zkO hi,zjW]
      cases ((a0.2.1.getD i (0,[])).1==a1)<;>rfl,trivial⟩) (fun s _=>by simp only [ybg,yoC,yoU,zkm (Int.le_refl _),cond_false]) s trivial _ (by show _ < 18446744073709551616; omega)
  unfold yk9 yj3 yv yJj yaC
  rw [yV,yq8 (show a0.1.length≤1152921504606846976 by omega)]
  unfold yay yb1 yj
  simp only [h1,zkJ]
  cases yo a0
  · rfl
  cases a0.2.2.1
  · cases inb a1 a0.1.length
    · rfl
    · cases a0.2.2.2.any (· ==a1)<;>rfl
  · rfl
def yAK:Con:=⟨yfh,ypp,fun x=>(fun n=>some ((n.1,n.2,()),())) (yj3 x.1 x.2.1)⟩
theorem yRF:ConOk Tryz.prog 164 yAK:=(yNX).mono (fun x r hk h=>(yQI x.1 x.2.1 hk).trans h)
end
section
def yFA:Code:=(Tryz.f165.body).getD .skip
def yFV:Env:=zki TT [] []
theorem yMp:FrOk Tryz.prog ⟨yFV,8,fun _=>none⟩ yFA:=zkp yb yc trivial
def yO0:Nat→Option Seg:=fun _=>none
abbrev ylG:List Par:= [.rd tI]
abbrev yry:List OT:= [⟨false,tI,.fz⟩]
def yuz (a0:Int):Option (ResD yry×MutD ylG) :=
  bif (ltb a0 0) then
    some (((-1),()),())
  else
    some (((IntKind.i64.wrap (2+(a0.tmod 4))),()),())
theorem yU8 (x:InD ylG):zjH ⟨yFV,8,yO0⟩ Tryz.f165.results.toList yFA ylG yry x=yuz x.1:=by kernel_rfl
theorem yRa:ConOk Tryz.prog 165 ⟨ylG,yry,fun x=>yuz x.1⟩:=zkh (yMp) Tryz.func165 (by kernel_rfl) (by kernel_rfl) Tryz.ntmps165.symm (by decide) (fun x r h=>(yU8 x).trans h)
def yl1 (a0:Int):Int :=
  bif (ltb a0 0) then
    (-1)
  else
    (IntKind.i64.wrap (2+(a0.tmod 4)))
def yub:Con:=⟨ylG,yry,fun x=>(fun n=>some ((n,()),())) (yl1 x.1)⟩
theorem yTi (a0:Int):yuz a0=(fun n=>some ((n,()),())) (yl1 a0):=zkS (p:=fun (n:Int)=>((n,()),())) (zkx (p:=fun (n:Int)=>((n,()),())) rfl rfl)
theorem yE0:ConOk Tryz.prog 165 yub:=(yRa).mono (fun x r _ h=>(yTi x.1).trans h)
theorem yIn (q:Int):yl1 q=yi q:=rfl
end
end
end Go.Tf
