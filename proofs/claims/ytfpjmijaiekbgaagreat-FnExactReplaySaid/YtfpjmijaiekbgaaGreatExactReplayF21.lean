/- Functions of the program, and what they come to. -/
import Derived.Test.YtfpjmijaiekbgaaGreatExactReplayF20
namespace Go.Tf
noncomputable section
open Go.Proofs
set_option synthInstance.maxHeartbeats 400000
set_option synthInstance.maxSize 10000
set_option linter.unusedVariables false
set_option linter.unusedSimpArgs false
set_option maxRecDepth 100000
section
def yzT:Code:=(Tryz.f88.body).getD .skip
def yAq:Env:=zki TT [(168,yiV),(172,yyG)] []
theorem yGp:FrOk Tryz.prog ⟨yAq,15,fun _=>none⟩ yzT:=zkp yb yc ⟨ysC,yOi,trivial⟩
def yHa:Nat→Option Seg:=fun _=>none
abbrev ybD:List Par:= [.pt tA (.pr .fz (.pr (.pr .fz .fz) (.pr (.ow (.pr (.ow (.ow .fz)) (.pr (.ow (.pr .fz (.ow .fz))) (.pr .fz (.ow .fz))))) (.pr .fz (.pr .fz (.pr .fz (.pr .fz (.pr .fz (.pr (.ow (.pr .fz (.ow .fz))) (.pr .fz (.pr .fz .fz)))))))))))]
abbrev yfN:List OT:= [⟨false,tB,.fz⟩]
def yih (a0:dA):Option (ResD yfN×MutD ybD) :=
  bnd (yen a0) fun r1 =>
  bif (!r1.1.1) then
    some ((false,()),(r1.2.1,()))
  else
    bnd (yie (r1.2.1.1,r1.2.1.2.1,r1.2.1.2.2.1,r1.2.1.2.2.2.1,r1.2.1.2.2.2.2.1,r1.2.1.2.2.2.2.2.1,r1.2.1.2.2.2.2.2.1,r1.2.1.2.2.2.2.2.2.2)) fun r2 =>
    some ((r2.1.1,()),(r2.2.1,()))
theorem yMa (x:InD ybD):zjH ⟨yAq,15,yHa⟩ Tryz.f88.results.toList yzT ybD yfN x=yih x.1:=by kernel_rfl
theorem yIR:ConOk Tryz.prog 88 ⟨ybD,yfN,fun x=>yih x.1⟩:=zkh (yGp) Tryz.func88 (by kernel_rfl) (by kernel_rfl) Tryz.ntmps88.symm (by decide) (fun x r h=>(yMa x).trans h)
def yk1 (a0:dA):Bool×dA:=(!(yd (yQ a0)),yQ a0)
def yk7 (a0:dA):Bool:= !(yd a0)
theorem yKI (a0:dA) (hk:zi9 ybD (a0,())) (hq:yk7 a0=true):yih a0=(fun n=>some ((n.1,()),(n.2,()))) (yk1 a0):=by
  unfold yih yk1 yQ
  rw [ysD a0 hq]
  simp only [zky,yh5]
  cases hd:yd (yH a0)
  · have hm:yie (yrd (yH a0))=some ((!(yd (ygd (yrd (yH a0)))),()),(ygd (yrd (yH a0)),())):=yOy (yrd (yH a0)) (by unfold yif; rw [show yd (yrd (yH a0))=yd (yH a0) from rfl,hd]; rfl)
    exact (congrArg (fun z=>bnd z _) hm).trans rfl
  · simp only [Bool.not_true,Bool.not_false,cond_true]
    rw [hd]; rfl
def yk4 (a0:dA):Option (ResD yfN×MutD ybD):=bif yk7 a0 then (fun n=>some ((n.1,()),(n.2,()))) (yk1 a0) else none
theorem yLf (a0:dA) (h:yk7 a0=true):yk4 a0=(fun n=>some ((n.1,()),(n.2,()))) (yk1 a0):=by unfold yk4; rw [h]; rfl
def ywx:Con:=⟨ybD,yfN,fun x=>yk4 x.1⟩
theorem yLa:ConOk Tryz.prog 88 ywx:=(yIR).mono (fun x r hk h=>zkW h (fun hq=>yKI x.1 hk hq))
end
section
def ylr:Code:=(Tryz.f26.body).getD .skip
def yre:Env:=zki TT [(76,yAM),(84,yyL),(85,yAJ),(86,yuU),(87,ywy),(88,ywx)] []
theorem yMn:FrOk Tryz.prog ⟨yre,50,fun _=>none⟩ ylr:=zkp yb yc ⟨yRH,yOn,yRE,yIZ,yLb,yLa,trivial⟩
def yCi:Nat→Option Seg:=fun _=>none
def ybG:Shape:=⟨[(2,false,[.ptr 64 0]),(3,false,[.ptr 4224 0]),(16,false,[.int .i64])],[(64,[.int .i64,.int .i64,.int .i64,.nil,.int .i64,.int .i64,.int .i64,.int .i64,.int .i64,.nil,.int .i64,.bool,.bool]),(4224,[.int .i64,.int .i64,.int .i64,.at 800000000,.int .i64,.int .i64,.int .i64,.int .i64,.int .i64,.at 800000001,.int .i64,.bool,.bool])],[(800000000,tM,(.pr (.ow (.ow .fz)) (.pr (.ow (.pr .fz (.ow .fz))) (.pr .fz (.ow .fz))))),(800000001,tW,(.pr .fz (.ow .fz)))]⟩
def yfG:Shape:=⟨[(2,false,[.ptr 64 0]),(3,false,[.ptr 4224 0]),(16,false,[.ci .i64 0])],[(64,[.int .i64,.int .i64,.int .i64,.nil,.int .i64,.int .i64,.int .i64,.int .i64,.int .i64,.nil,.int .i64,.bool,.bool]),(4224,[.int .i64,.int .i64,.int .i64,.at 800000000,.int .i64,.int .i64,.int .i64,.int .i64,.int .i64,.at 800000001,.int .i64,.bool,.bool])],[(800000000,tM,(.pr (.ow (.ow .fz)) (.pr (.ow (.pr .fz (.ow .fz))) (.pr .fz (.ow .fz))))),(800000001,tW,(.pr .fz (.ow .fz)))]⟩
def yfz:Shape:=⟨[(2,false,[.ptr 64 0]),(3,false,[.ptr 4224 0])],[(64,[.int .i64,.int .i64,.int .i64,.nil,.int .i64,.int .i64,.int .i64,.int .i64,.int .i64,.nil,.int .i64,.bool,.bool]),(4224,[.int .i64,.int .i64,.int .i64,.at 800000000,.int .i64,.int .i64,.int .i64,.int .i64,.int .i64,.at 800000001,.int .i64,.bool,.bool])],[(800000000,tM,(.pr (.ow (.ow .fz)) (.pr (.ow (.pr .fz (.ow .fz))) (.pr .fz (.ow .fz))))),(800000001,tW,(.pr .fz (.ow .fz)))]⟩
def yfQ:Shape:=⟨[(2,false,[.ptr 64 0])],[(64,[.int .i64,.int .i64,.int .i64,.at 800000000,.int .i64,.int .i64,.int .i64,.int .i64,.int .i64,.at 800000001,.int .i64,.bool,.bool])],[(800000000,tM,(.pr (.ow (.ow .fz)) (.pr (.ow (.pr .fz (.ow .fz))) (.pr .fz (.ow .fz))))),(800000001,tW,(.pr .fz (.ow .fz)))]⟩
abbrev yqw (v0:Int) (v1:dA) (v2:dA):(ybG).X:=((((),()),((),()),(v0,()),()),((v1.1,v1.2.1.1,v1.2.1.2,(),v1.2.2.2.1,v1.2.2.2.2.1,v1.2.2.2.2.2.1,v1.2.2.2.2.2.2.1,v1.2.2.2.2.2.2.2.1,(),v1.2.2.2.2.2.2.2.2.2.1,v1.2.2.2.2.2.2.2.2.2.2.1,v1.2.2.2.2.2.2.2.2.2.2.2,()),(v2.1,v2.2.1.1,v2.2.1.2,(),v2.2.2.2.1,v2.2.2.2.2.1,v2.2.2.2.2.2.1,v2.2.2.2.2.2.2.1,v2.2.2.2.2.2.2.2.1,(),v2.2.2.2.2.2.2.2.2.2.1,v2.2.2.2.2.2.2.2.2.2.2.1,v2.2.2.2.2.2.2.2.2.2.2.2,()),()),(v2.2.2.1,v2.2.2.2.2.2.2.2.2.1,()))
abbrev yKz (v0:dA) (v1:dA):(yfG).X:=((((),()),((),()),((),()),()),((v0.1,v0.2.1.1,v0.2.1.2,(),v0.2.2.2.1,v0.2.2.2.2.1,v0.2.2.2.2.2.1,v0.2.2.2.2.2.2.1,v0.2.2.2.2.2.2.2.1,(),v0.2.2.2.2.2.2.2.2.2.1,v0.2.2.2.2.2.2.2.2.2.2.1,v0.2.2.2.2.2.2.2.2.2.2.2,()),(v1.1,v1.2.1.1,v1.2.1.2,(),v1.2.2.2.1,v1.2.2.2.2.1,v1.2.2.2.2.2.1,v1.2.2.2.2.2.2.1,v1.2.2.2.2.2.2.2.1,(),v1.2.2.2.2.2.2.2.2.2.1,v1.2.2.2.2.2.2.2.2.2.2.1,v1.2.2.2.2.2.2.2.2.2.2.2,()),()),(v1.2.2.1,v1.2.2.2.2.2.2.2.2.1,()))
abbrev yKv (v0:dA) (v1:dA):(yfz).X:=((((),()),((),()),()),((v0.1,v0.2.1.1,v0.2.1.2,(),v0.2.2.2.1,v0.2.2.2.2.1,v0.2.2.2.2.2.1,v0.2.2.2.2.2.2.1,v0.2.2.2.2.2.2.2.1,(),v0.2.2.2.2.2.2.2.2.2.1,v0.2.2.2.2.2.2.2.2.2.2.1,v0.2.2.2.2.2.2.2.2.2.2.2,()),(v1.1,v1.2.1.1,v1.2.1.2,(),v1.2.2.2.1,v1.2.2.2.2.1,v1.2.2.2.2.2.1,v1.2.2.2.2.2.2.1,v1.2.2.2.2.2.2.2.1,(),v1.2.2.2.2.2.2.2.2.2.1,v1.2.2.2.2.2.2.2.2.2.2.1,v1.2.2.2.2.2.2.2.2.2.2.2,()),()),(v1.2.2.1,v1.2.2.2.2.2.2.2.2.1,()))
abbrev yqD (v0:dA):(yfQ).X:=((((),()),()),((v0.1,v0.2.1.1,v0.2.1.2,(),v0.2.2.2.1,v0.2.2.2.2.1,v0.2.2.2.2.2.1,v0.2.2.2.2.2.2.1,v0.2.2.2.2.2.2.2.1,(),v0.2.2.2.2.2.2.2.2.2.1,v0.2.2.2.2.2.2.2.2.2.2.1,v0.2.2.2.2.2.2.2.2.2.2.2,()),()),(v0.2.2.1,v0.2.2.2.2.2.2.2.2.1,()))
def yqL (v0:Int) (v1:Int) (v2:Int) (v3:Int) (v4:Int) (v5:Int) (v6:Int) (v7:Int) (v8:Int) (v9:Int) (v10:Bool) (v11:Bool) (v12:Int) (v13:Int) (v14:Int) (v15:Int) (v16:Int) (v17:Int) (v18:Int) (v19:Int) (v20:Int) (v21:Bool) (v22:Bool) (v23:List dM) (v24:List dW):Option ((ybG).X ⊕ ((yfz).X ⊕ (yfQ).X)) :=
  bif (ltb v0 4) then
    bnd (ypQ (v12,(v13,v14),v23,v15,v16,v17,v18,v19,v24,v20,v21,v22) v17) fun r6 =>
    bif (!(!r6.1.2.1)) then
      bif (leb 60000 v17) then
        some (.inr (.inl ((((),()),((),()),()),((v1,v2,v3,(),v4,v5,v6,v7,v8,(),v9,v10,v11,()),(v12,v13,v14,(),v15,v16,v17,v18,v19,(),v20,v21,v22,()),()),(v23,v24,()))))
      else
        bnd (ye6 (v12,(v13,v14),v23,v15,v16,v17,v18,v19,v24,v20,v21,v22) r6.1.1) fun r7 =>
        bif (!r7.1.1) then
          some (.inr (.inr ((((),()),()),((r7.2.1.1,r7.2.1.2.1.1,r7.2.1.2.1.2,(),r7.2.1.2.2.2.1,r7.2.1.2.2.2.2.1,r7.2.1.2.2.2.2.2.1,r7.2.1.2.2.2.2.2.2.1,r7.2.1.2.2.2.2.2.2.2.1,(),r7.2.1.2.2.2.2.2.2.2.2.2.1,r7.2.1.2.2.2.2.2.2.2.2.2.2.1,r7.2.1.2.2.2.2.2.2.2.2.2.2.2,()),()),(r7.2.1.2.2.1,r7.2.1.2.2.2.2.2.2.2.2.1,()))))
        else
          bnd (yf2 (r7.2.1.1,r7.2.1.2.1,r7.2.1.2.2.1,r7.2.1.2.2.2.1,r7.2.1.2.2.2.2.1,(IntKind.i64.wrap (r7.2.1.2.2.2.2.2.1+1)),r7.2.1.2.2.2.2.2.2) r6.1.1.2.1 r6.1.1.2.2) fun r8 =>
          bif (!r8.1.1) then
            some (.inr (.inr ((((),()),()),((r8.2.1.1,r8.2.1.2.1.1,r8.2.1.2.1.2,(),r8.2.1.2.2.2.1,r8.2.1.2.2.2.2.1,r8.2.1.2.2.2.2.2.1,r8.2.1.2.2.2.2.2.2.1,r8.2.1.2.2.2.2.2.2.2.1,(),r8.2.1.2.2.2.2.2.2.2.2.2.1,r8.2.1.2.2.2.2.2.2.2.2.2.2.1,r8.2.1.2.2.2.2.2.2.2.2.2.2.2,()),()),(r8.2.1.2.2.1,r8.2.1.2.2.2.2.2.2.2.2.1,()))))
          else
            some (.inl ((((),()),((),()),((IntKind.i64.wrap (v0+1)),()),()),((v1,v2,v3,(),v4,v5,v6,v7,v8,(),v9,v10,v11,()),(r8.2.1.1,r8.2.1.2.1.1,r8.2.1.2.1.2,(),r8.2.1.2.2.2.1,r8.2.1.2.2.2.2.1,r8.2.1.2.2.2.2.2.1,r8.2.1.2.2.2.2.2.2.1,r8.2.1.2.2.2.2.2.2.2.1,(),r8.2.1.2.2.2.2.2.2.2.2.2.1,r8.2.1.2.2.2.2.2.2.2.2.2.2.1,r8.2.1.2.2.2.2.2.2.2.2.2.2.2,()),()),(r8.2.1.2.2.1,r8.2.1.2.2.2.2.2.2.2.2.1,())))
    else
      some (.inr (.inl ((((),()),((),()),()),((v1,v2,v3,(),v4,v5,v6,v7,v8,(),v9,v10,v11,()),(v12,v13,v14,(),v15,v16,v17,v18,v19,(),v20,v21,v22,()),()),(v23,v24,()))))
  else
    some (.inr (.inl ((((),()),((),()),()),((v1,v2,v3,(),v4,v5,v6,v7,v8,(),v9,v10,v11,()),(v12,v13,v14,(),v15,v16,v17,v18,v19,(),v20,v21,v22,()),()),(v23,v24,()))))
def yb3 (x:(ybG).X):=yqL x.1.2.2.1.1 x.2.1.1.1 x.2.1.1.2.1 x.2.1.1.2.2.1 x.2.1.1.2.2.2.2.1 x.2.1.1.2.2.2.2.2.1 x.2.1.1.2.2.2.2.2.2.1 x.2.1.1.2.2.2.2.2.2.2.1 x.2.1.1.2.2.2.2.2.2.2.2.1 x.2.1.1.2.2.2.2.2.2.2.2.2.2.1 x.2.1.1.2.2.2.2.2.2.2.2.2.2.2.1 x.2.1.1.2.2.2.2.2.2.2.2.2.2.2.2.1 x.2.1.2.1.1 x.2.1.2.1.2.1 x.2.1.2.1.2.2.1 x.2.1.2.1.2.2.2.2.1 x.2.1.2.1.2.2.2.2.2.1 x.2.1.2.1.2.2.2.2.2.2.1 x.2.1.2.1.2.2.2.2.2.2.2.1 x.2.1.2.1.2.2.2.2.2.2.2.2.1 x.2.1.2.1.2.2.2.2.2.2.2.2.2.2.1 x.2.1.2.1.2.2.2.2.2.2.2.2.2.2.2.1 x.2.1.2.1.2.2.2.2.2.2.2.2.2.2.2.2.1 x.2.2.1 x.2.2.2.1
def yyW (x:(yfG).X):(ybG).X:=((((),()),((),()),(0,()),()),((x.2.1.1.1,x.2.1.1.2.1,x.2.1.1.2.2.1,(),x.2.1.1.2.2.2.2.1,x.2.1.1.2.2.2.2.2.1,x.2.1.1.2.2.2.2.2.2.1,x.2.1.1.2.2.2.2.2.2.2.1,x.2.1.1.2.2.2.2.2.2.2.2.1,(),x.2.1.1.2.2.2.2.2.2.2.2.2.2.1,x.2.1.1.2.2.2.2.2.2.2.2.2.2.2.1,x.2.1.1.2.2.2.2.2.2.2.2.2.2.2.2.1,()),(x.2.1.2.1.1,x.2.1.2.1.2.1,x.2.1.2.1.2.2.1,(),x.2.1.2.1.2.2.2.2.1,x.2.1.2.1.2.2.2.2.2.1,x.2.1.2.1.2.2.2.2.2.2.1,x.2.1.2.1.2.2.2.2.2.2.2.1,x.2.1.2.1.2.2.2.2.2.2.2.2.1,(),x.2.1.2.1.2.2.2.2.2.2.2.2.2.2.1,x.2.1.2.1.2.2.2.2.2.2.2.2.2.2.2.1,x.2.1.2.1.2.2.2.2.2.2.2.2.2.2.2.2.1,()),()),(x.2.2.1,x.2.2.2.1,()))
def yAu:Code:=(zdI ylr 64 244).getD .skip
theorem yLU:zdI ylr 64 61=some (.block 0 (.loop yAu)):=by kernel_rfl
theorem yOC (x:(ybG).X):zg7 ⟨yre,50,yCi⟩ 0 yAu 244 ybG yfz yfQ x=yb3 x:=by kernel_rfl
def yzb (x:(yfG).X):Nat:=(fun (u0:Int) (u1:Int) (u2:Int) (u3:Int) (u4:Int) (u5:Int) (u6:Int) (u7:Int) (u8:Int) (u9:Bool) (u10:Bool) (u11:Int) (u12:Int) (u13:Int) (u14:Int) (u15:Int) (u16:Int) (u17:Int) (u18:Int) (u19:Int) (u20:Bool) (u21:Bool) (u22:List dM) (u23:List dW)=>18446744073709551616) x.2.1.1.1 x.2.1.1.2.1 x.2.1.1.2.2.1 x.2.1.1.2.2.2.2.1 x.2.1.1.2.2.2.2.2.1 x.2.1.1.2.2.2.2.2.2.1 x.2.1.1.2.2.2.2.2.2.2.1 x.2.1.1.2.2.2.2.2.2.2.2.1 x.2.1.1.2.2.2.2.2.2.2.2.2.2.1 x.2.1.1.2.2.2.2.2.2.2.2.2.2.2.1 x.2.1.1.2.2.2.2.2.2.2.2.2.2.2.2.1 x.2.1.2.1.1 x.2.1.2.1.2.1 x.2.1.2.1.2.2.1 x.2.1.2.1.2.2.2.2.1 x.2.1.2.1.2.2.2.2.2.1 x.2.1.2.1.2.2.2.2.2.2.1 x.2.1.2.1.2.2.2.2.2.2.2.1 x.2.1.2.1.2.2.2.2.2.2.2.2.1 x.2.1.2.1.2.2.2.2.2.2.2.2.2.2.1 x.2.1.2.1.2.2.2.2.2.2.2.2.2.2.2.1 x.2.1.2.1.2.2.2.2.2.2.2.2.2.2.2.2.1 x.2.2.1 x.2.2.2.1
def yr8 (x:(yfG).X):Option ((yfz).X ⊕ (yfQ).X):=zr yb3 (yzb x) (yyW x)
def yzt:Seg:=⟨yfG,yfz,yfQ,yr8⟩
def yCj:Nat→Option Seg:=fun q=>bif Nat.beq q 61 then some yzt else yCi q
theorem yMo:FrOk Tryz.prog ⟨yre,50,yCj⟩ ylr:=(yMn).loop (sg:=yzt) ybG yyW (by decide) yLU yb3 yzb (by decide) (fun _=>rfl) (fun x r _ h=>h) yOC
abbrev ygn:List Par:= [.rd tA]
abbrev yrx:List OT:= [⟨false,tA,(.pr .fz (.pr (.pr .fz .fz) (.pr (.ow (.pr (.ow (.ow .fz)) (.pr (.ow (.pr .fz (.ow .fz))) (.pr .fz (.ow .fz))))) (.pr .fz (.pr .fz (.pr .fz (.pr .fz (.pr .fz (.pr (.ow (.pr .fz (.ow .fz))) (.pr .fz (.pr .fz .fz)))))))))))⟩]
def ynC (a0:dA):Option (ResD yrx×MutD ygn) :=
  let r1:=yj6 a0
  let r2:=ycG a0
  bif (!(!r2)) then
    bif a0.2.2.2.2.2.2.2.2.2.2.2 then
      some ((r1,()),())
    else
      zjw (yr8 ((((),()),((),()),((),()),()),((0,0,0,(),0,0,0,0,0,(),0,false,false,()),(r1.1,r1.2.1.1,r1.2.1.2,(),r1.2.2.2.1,r1.2.2.2.2.1,r1.2.2.2.2.2.1,r1.2.2.2.2.2.2.1,r1.2.2.2.2.2.2.2.1,(),r1.2.2.2.2.2.2.2.2.2.1,r1.2.2.2.2.2.2.2.2.2.2.1,r1.2.2.2.2.2.2.2.2.2.2.2,()),()),(r1.2.2.1,r1.2.2.2.2.2.2.2.2.1,()))) (fun y8 =>
        bnd (yk4 (y8.2.1.2.1.1,(y8.2.1.2.1.2.1,y8.2.1.2.1.2.2.1),y8.2.2.1,y8.2.1.2.1.2.2.2.2.1,y8.2.1.2.1.2.2.2.2.2.1,y8.2.1.2.1.2.2.2.2.2.2.1,y8.2.1.2.1.2.2.2.2.2.2.2.1,y8.2.1.2.1.2.2.2.2.2.2.2.2.1,y8.2.2.2.1,y8.2.1.2.1.2.2.2.2.2.2.2.2.2.2.1,y8.2.1.2.1.2.2.2.2.2.2.2.2.2.2.2.1,y8.2.1.2.1.2.2.2.2.2.2.2.2.2.2.2.2.1)) fun r10 =>
        some ((r10.2.1,()),())) (fun y8 =>
        some (((y8.2.1.1.1,(y8.2.1.1.2.1,y8.2.1.1.2.2.1),y8.2.2.1,y8.2.1.1.2.2.2.2.1,y8.2.1.1.2.2.2.2.2.1,y8.2.1.1.2.2.2.2.2.2.1,y8.2.1.1.2.2.2.2.2.2.2.1,y8.2.1.1.2.2.2.2.2.2.2.2.1,y8.2.2.2.1,y8.2.1.1.2.2.2.2.2.2.2.2.2.2.1,y8.2.1.1.2.2.2.2.2.2.2.2.2.2.2.1,y8.2.1.1.2.2.2.2.2.2.2.2.2.2.2.2.1),()),()))
  else
    some ((r1,()),())
theorem yU7 (x:InD ygn):zjH ⟨yre,50,yCj⟩ Tryz.f26.results.toList ylr ygn yrx x=ynC x.1:=by kernel_rfl
theorem yQ9:ConOk Tryz.prog 26 ⟨ygn,yrx,fun x=>ynC x.1⟩:=zkh (yMo) Tryz.func26 (by kernel_rfl) (by kernel_rfl) Tryz.ntmps26.symm (by decide) (fun x r h=>(yU7 x).trans h)
def ygG (a0:dA):dA:=yke a0
theorem yYB {α:Type} {c:Bool} (h:c=false) {x y:α}:(bif c then x else y)=y:=by subst h; rfl
theorem ySD {α:Type} {c:Bool} (h:c=true) {x y:α}:(bif c then x else y)=x:=by subst h; rfl
theorem yTh (a0:dA) (hk:zi9 ygn (a0,())):ynC a0=(fun n=>some ((n,()),())) (ygG a0):=by
  unfold ynC ygG
  simp only [yj6]
  cases hm:(yci a0&&(!(yd a0)&&(!a0.2.2.2.2.2.2.2.2.2.2.2&&ltb a0.2.2.2.2.2.2.2.1 60000)))
  · have hr:yke a0=a0:=by unfold yke; rw [hm]; rfl
    rw [hr]
    cases hmk:ycG a0
    · rfl
    · have:a0.2.2.2.2.2.2.2.2.2.2.2=true:=by
        unfold ycG at hmk
        simp only [yfV]at hmk
        unfold yd at hm
        revert hm hmk
        cases yci a0<;>cases a0.2.2.2.2.2.2.2.2.2.2.1<;>cases ltb a0.2.2.2.2.2.2.2.1 60000<;>cases a0.2.2.2.2.2.2.2.2.2.2.2<;>decide
      rw [ySD (by rfl),ySD this]
  · have hr:yke a0=yJh a0:=by unfold yke; rw [hm]; rfl
    rw [hr]
    simp only [Bool.and_eq_true,Bool.not_eq_true'] at hm
    obtain ⟨ha,hdn,hbr,hlt⟩:=hm
    have hmk:ycG a0=true:=by
      unfold ycG
      simp only [yfV,ha,show a0.2.2.2.2.2.2.2.2.2.2.1=false from hdn,hlt]; rfl
    rw [hmk,ySD (by rfl),yYB hbr]
    have hgo:yf a0.2.1=true:=yHH ha
    have hle:=yHI ha
    have h1:=zkr (step:=yb3) 4 (fun i s=>yqw i ynw s) ysL (fun _ s=>s.2.1=a0.2.1∧s.2.2.1.length=a0.2.2.1.length∧yd s=false) .inl
      (fun b=>match b with | .inl x=> .inl (yKv ynw x) | .inr x=> .inr (yqD x)) (fun i s hi hs=>by
        constructor
        · simp only [yb3,yqw,yqL,zjI (show (i:Int) < 4 by omega),cond_true,wr (show -9223372036854775808≤(i:Int)+1 by omega) (by omega),Int.natCast_add,Int.natCast_one,Int.toNat_natCast,zkV]
          rw [yRX s s.2.2.2.2.2.1 (by unfold ypX; rw [hs.1]; exact hgo)]
          simp only [zky,yj2]
          unfold ysL
          cases hf:(yu s s.2.2.2.2.2.1).2
          · rfl
          · cases leb 60000 s.2.2.2.2.2.1
            · have ho:=yXJ (a:=s) (q:=s.2.2.2.2.2.1) (by rw [hs.1]; exact hgo) hf
              have hr:ye6 s (yu s s.2.2.2.2.2.1).1=some ((!(yd (yfd s)),()),(yfd s,())):=yI3 _ _ (by unfold ye7; rw [hs.2.2]; rfl)
              have hd:yd (yfd s)=false→yf2 (yr6 (yfd s)) (yu s s.2.2.2.2.2.1).1.2.1 (yu s s.2.2.2.2.2.1).1.2.2=some ((!(yd (yoS s)),()),(yoS s,())):=fun hd1=>yLg _ _ _ (by
                  unfold yf4
                  simp only [Bool.and_eq_true,beq_iff_eq,Bool.not_eq_true']
                  rw [show (yr6 (yfd s)).2.1=s.2.1 from yOR s]
                  exact ⟨hd1,ho.1,ho.2,by rw [show (yr6 (yfd s)).2.2.1.length=s.2.2.1.length from yUH s _,hs.2.1,hle,hs.1]⟩)
              rw [hr]
              generalize yoS s=R2 at hd ⊢
              generalize yfd s=R1 at hd ⊢
              generalize yu s s.2.2.2.2.2.1=F at hd ⊢
              unfold yr6 at hd
              simp only [Bool.not_true,Bool.not_false,cond_true,cond_false,Bool.or_self,zky]
              cases hd1:yd R1
              · simp only [Bool.not_true,Bool.not_false,cond_true,cond_false,hd hd1,zky]
                cases hd2:yd R2
                · rfl
                · simp only [hd2,Bool.not_true,Bool.not_false,cond_true,yqD]
              · simp only [hd1,Bool.not_true,Bool.not_false,cond_true,yqD]
            · rfl
        · intro s' h
          unfold ysL at h
          cases hc:(!(yu s s.2.2.2.2.2.1).2||leb 60000 s.2.2.2.2.2.1)
          · rw [hc]at h
            cases hd1:yd (yfd s)
            · rw [hd1]at h
              cases hd2:yd (yoS s)
              · rw [hd2]at h
                simp only [cond_false,Sum.inl.injEq]at h
                subst h
                exact ⟨(yXp s).trans hs.1,(yXq s).trans hs.2.1,hd2⟩
              · rw [hd2]at h; cases h
            · rw [hd1]at h; cases h
          · rw [hc]at h; cases h) (fun s hs=>by simp only [yb3,yqw,yqL]; rfl) a0 ⟨rfl,rfl,hdn⟩ 18446744073709551616 (by omega)
    have hdo: ∀ b,goE ysL .inl 4 0 a0= .inl b→yd b=false:=fun b hb=>yXr 4 0 a0 b hdn hb
    refine (congrArg (fun z=>zjw z _ _) (show yr8 (yKz ynw a0)=_ from h1)).trans ?_
    unfold yJh
    cases hg:goE ysL .inl 4 0 a0 with
    | inl b =>
      simp only [zkJ,zkV]
      rw [yLf b (by unfold yk7; rw [hdo b hg]; rfl)]; rfl
    | inr b=>rfl
def yDg:Con:=⟨ygn,yrx,fun x=>(fun n=>some ((n,()),())) (ygG x.1)⟩
theorem yUk:ConOk Tryz.prog 26 yDg:=(yQ9).mono (fun x r hk h=>(yTh x.1 hk).trans h)
end
section
def ytc:Code:=(Tryz.f5.body).getD .skip
def ytj:Env:=zki TT [(13,yEB),(15,yEF),(18,yEw),(19,yAT),(24,yAR),(25,yDt),(26,yDg)] []
theorem yB5:FrOk Tryz.prog ⟨ytj,69,fun _=>none⟩ ytc:=zkp yb yc ⟨yWk,yWo,yWf,yRO,yRM,yUx,yUk,trivial⟩
def yDI:Nat→Option Seg:=fun _=>none
abbrev yaE:List Par:= [.rd tA]
abbrev yfa:List OT:= [⟨false,tB,.fz⟩]
def ydH (a0:dA):Option (ResD yfa×MutD yaE) :=
  let r1:=yd0 a0 1048576
  bif (ltb r1 0) then
    some ((true,()),())
  else
    let r2:=yfZ a0
    let r3:=yl5 r2
    let r4:=yfZ a0
    let r5:=ygG r4
    let r6:=ycH r5 r3
    bif (!r6) then
      some ((false,()),())
    else
      let r7:=yfZ a0
      let r8:=ycH r4 r7
      bif (!r8) then
        some ((false,()),())
      else
        let r9:=yD r4 1
        bif (!(ltb r9.1 0)) then
          let r10:=ycH r5 r3
          bif (!r10) then
            some ((false,()),())
          else
            let r11:=yD r5 1
            let r12:=yb0 (r5.1,r5.2.1,r11.2.2.2.1,r5.2.2.2.1,r5.2.2.2.2.1,r5.2.2.2.2.2.1,r5.2.2.2.2.2.2.1,r5.2.2.2.2.2.2.2.1,r11.2.2.2.2.2.2.2.2.2.1,r5.2.2.2.2.2.2.2.2.2) 1
            bif (ltb r12 0) then
              some ((false,()),())
            else
              bif (r12 !=r11.1) then
                some ((false,()),())
              else
                let r13:=yfZ a0
                let r14:=ygG r13
                let r15:=ycH r14 r3
                bif (!r15) then
                  some ((false,()),())
                else
                  let r16:=yb0 (r5.1,r5.2.1,r11.2.2.2.1,r5.2.2.2.1,r5.2.2.2.2.1,r5.2.2.2.2.2.1,r5.2.2.2.2.2.2.1,r5.2.2.2.2.2.2.2.1,r11.2.2.2.2.2.2.2.2.2.1,r5.2.2.2.2.2.2.2.2.2) 1
                  bif (ltb r16 0) then
                    some ((false,()),())
                  else
                    bif (r16 !=r11.1) then
                      some ((false,()),())
                    else
                      some ((true,()),())
        else
          some ((false,()),())
theorem yE8 (x:InD yaE):zjH ⟨ytj,69,yDI⟩ Tryz.f5.results.toList ytc yaE yfa x=ydH x.1:=by kernel_rfl
theorem yDR:ConOk Tryz.prog 5 ⟨yaE,yfa,fun x=>ydH x.1⟩:=zkh (yB5) Tryz.func5 (by kernel_rfl) (by kernel_rfl) Tryz.ntmps5.symm (by decide) (fun x r h=>(yE8 x).trans h)
def yk3 (a0:dA):Bool:=true
theorem yXo {a:dA} (ha:yfU a≤2097152):yfU (yke a)≤2105000:=by
  cases h:yci a
  · unfold yke; rw [h]; show yfU a≤_; omega
  · exact yX9 ha (yDP (yXb h))
theorem yEY (a0:dA) (hk:zi9 yaE (a0,())):ydH a0=(fun n=>some ((n,()),())) (yk3 a0):=by
  unfold ydH yk3 ygG yl5
  cases h:ltb (yd0 a0 1048576) 0
  · have hs:=yYp (a:=a0) hk.1 h
    have hf:=yXo hs
    obtain ⟨f1,f2,f3⟩:=yXL (x:=a0) (by omega)
    obtain ⟨g1,g2,g3⟩:=yXL (x:=yke a0) (by omega)
    simp only [h,yVB,yS1,bne_self_eq_false,Bool.not_true,Bool.not_false,cond_true,cond_false,f1,g2,g3]
  · simp only [h,cond_true]
def yDK:Con:=⟨yaE,yfa,fun x=>(fun n=>some ((n,()),())) (yk3 x.1)⟩
theorem yE2:ConOk Tryz.prog 5 yDK:=(yDR).mono (fun x r hk h=>(yEY x.1 hk).trans h)
end
end
end Go.Tf
