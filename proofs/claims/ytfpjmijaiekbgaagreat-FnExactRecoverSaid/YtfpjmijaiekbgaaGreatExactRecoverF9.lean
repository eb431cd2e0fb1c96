/- Functions of the program, and what they come to. -/
import Derived.Test.YtfpjmijaiekbgaaGreatExactRecoverF8
namespace Go.Tf
noncomputable section
open Go.Proofs
set_option synthInstance.maxHeartbeats 400000
set_option synthInstance.maxSize 10000
set_option linter.unusedVariables false
set_option linter.unusedSimpArgs false
set_option maxRecDepth 100000
section
def ynk:Code:=(Tryz.f224.body).getD .skip
def ytu:Env:=zki TT [(213,yAt),(254,yBL)] []
theorem yRl:FrOk Tryz.prog ⟨ytu,39,fun _=>none⟩ ynk:=zkp yb yc ⟨yMS,ySV,trivial⟩
def yFN:Nat→Option Seg:=fun _=>none
def ycU:Shape:=⟨[(0,false,[.ptr 1000000000 0]),(2,false,[.int .i64])],[(1000000000,[.int .i64,.int .i64,.int .i64,.at 800000000,.int .i64,.int .i64,.int .i64,.int .i64,.int .i64,.at 800000001,.int .i64,.bool,.bool])],[(800000000,tM,(.pr (.ow .fz) (.pr (.ow (.pr .fz .fz)) (.pr .fz (.ow .fz))))),(800000001,tW,(.pr .fz .fz))]⟩
def yiQ:Shape:=⟨[(0,false,[.ptr 1000000000 0]),(2,false,[.ci .i64 0])],[(1000000000,[.int .i64,.int .i64,.int .i64,.at 800000000,.int .i64,.int .i64,.int .i64,.int .i64,.int .i64,.at 800000001,.int .i64,.bool,.bool])],[(800000000,tM,(.pr (.ow .fz) (.pr (.ow (.pr .fz .fz)) (.pr .fz (.ow .fz))))),(800000001,tW,(.pr .fz .fz))]⟩
def yiy:Shape:=⟨[],[(1000000000,[.int .i64,.int .i64,.int .i64,.at 800000000,.int .i64,.int .i64,.int .i64,.int .i64,.int .i64,.at 800000001,.int .i64,.bool,.bool])],[(800000000,tM,(.pr (.ow .fz) (.pr (.ow (.pr .fz .fz)) (.pr .fz (.ow .fz))))),(800000001,tW,(.pr .fz .fz))]⟩
def ypp:Shape:=⟨[],[],[]⟩
abbrev yuJ (v0:Int) (v1:dA):(ycU).X:=((((),()),(v0,()),()),((v1.1,v1.2.1.1,v1.2.1.2,(),v1.2.2.2.1,v1.2.2.2.2.1,v1.2.2.2.2.2.1,v1.2.2.2.2.2.2.1,v1.2.2.2.2.2.2.2.1,(),v1.2.2.2.2.2.2.2.2.2.1,v1.2.2.2.2.2.2.2.2.2.2.1,v1.2.2.2.2.2.2.2.2.2.2.2,()),()),(v1.2.2.1,v1.2.2.2.2.2.2.2.2.1,()))
abbrev yRK (v0:dA):(yiQ).X:=((((),()),((),()),()),((v0.1,v0.2.1.1,v0.2.1.2,(),v0.2.2.2.1,v0.2.2.2.2.1,v0.2.2.2.2.2.1,v0.2.2.2.2.2.2.1,v0.2.2.2.2.2.2.2.1,(),v0.2.2.2.2.2.2.2.2.2.1,v0.2.2.2.2.2.2.2.2.2.2.1,v0.2.2.2.2.2.2.2.2.2.2.2,()),()),(v0.2.2.1,v0.2.2.2.2.2.2.2.2.1,()))
abbrev yEF (v0:dA):(yiy).X:=((),((v0.1,v0.2.1.1,v0.2.1.2,(),v0.2.2.2.1,v0.2.2.2.2.1,v0.2.2.2.2.2.1,v0.2.2.2.2.2.2.1,v0.2.2.2.2.2.2.2.1,(),v0.2.2.2.2.2.2.2.2.2.1,v0.2.2.2.2.2.2.2.2.2.2.1,v0.2.2.2.2.2.2.2.2.2.2.2,()),()),(v0.2.2.1,v0.2.2.2.2.2.2.2.2.1,()))
def yu9 (v0:Int) (v1:Int) (v2:Int) (v3:Int) (v4:Int) (v5:Int) (v6:Int) (v7:Int) (v8:Int) (v9:Int) (v10:Bool) (v11:Bool) (v12:List dM) (v13:List dW):Option ((ycU).X ⊕ ((yiy).X ⊕ (ypp).X)) :=
  bif (ltb v0 (v12.length:Int)) then
    bif (inb v0 v12.length) then
      bif (!((((nth v12 v0 ([],[],false,[])).2).2).1)) then
        let r3:=ytg (v1,(v2,v3),v12,v4,v5,v6,v7,v8,v13,v9,v10,v11)
        bif r3.1 then
          bif (inb v0 r3.2.2.2.1.length) then
            let r4:=yjr ((nth r3.2.2.2.1 v0 ([],[],false,[])).1,((nth r3.2.2.2.1 v0 ([],[],false,[])).2).1,(((nth r3.2.2.2.1 v0 ([],[],false,[])).2).2))
            bif (inb v0 r3.2.2.2.1.length) then
              some (.inl ((((),()),((IntKind.i64.wrap (v0+1)),()),()),((r3.2.1,r3.2.2.1.1,r3.2.2.1.2,(),r3.2.2.2.2.1,r3.2.2.2.2.2.1,r3.2.2.2.2.2.2.1,r3.2.2.2.2.2.2.2.1,r3.2.2.2.2.2.2.2.2.1,(),r3.2.2.2.2.2.2.2.2.2.2.1,r3.2.2.2.2.2.2.2.2.2.2.2.1,r3.2.2.2.2.2.2.2.2.2.2.2.2,()),()),((r3.2.2.2.1.set (v0).toNat r4),r3.2.2.2.2.2.2.2.2.2.1,())))
            else none
          else none
        else
          some (.inl ((((),()),((IntKind.i64.wrap (v0+1)),()),()),((r3.2.1,r3.2.2.1.1,r3.2.2.1.2,(),r3.2.2.2.2.1,r3.2.2.2.2.2.1,r3.2.2.2.2.2.2.1,r3.2.2.2.2.2.2.2.1,r3.2.2.2.2.2.2.2.2.1,(),r3.2.2.2.2.2.2.2.2.2.2.1,r3.2.2.2.2.2.2.2.2.2.2.2.1,r3.2.2.2.2.2.2.2.2.2.2.2.2,()),()),(r3.2.2.2.1,r3.2.2.2.2.2.2.2.2.2.1,())))
      else
        some (.inl ((((),()),((IntKind.i64.wrap (v0+1)),()),()),((v1,v2,v3,(),v4,v5,v6,v7,v8,(),v9,v10,v11,()),()),(v12,v13,())))
    else none
  else
    some (.inr (.inl ((),((v1,v2,v3,(),v4,v5,v6,v7,v8,(),v9,v10,v11,()),()),(v12,v13,()))))
def ydv (x:(ycU).X):=yu9 x.1.2.1.1 x.2.1.1.1 x.2.1.1.2.1 x.2.1.1.2.2.1 x.2.1.1.2.2.2.2.1 x.2.1.1.2.2.2.2.2.1 x.2.1.1.2.2.2.2.2.2.1 x.2.1.1.2.2.2.2.2.2.2.1 x.2.1.1.2.2.2.2.2.2.2.2.1 x.2.1.1.2.2.2.2.2.2.2.2.2.2.1 x.2.1.1.2.2.2.2.2.2.2.2.2.2.2.1 x.2.1.1.2.2.2.2.2.2.2.2.2.2.2.2.1 x.2.2.1 x.2.2.2.1
def yEf (x:(yiQ).X):(ycU).X:=((((),()),(0,()),()),((x.2.1.1.1,x.2.1.1.2.1,x.2.1.1.2.2.1,(),x.2.1.1.2.2.2.2.1,x.2.1.1.2.2.2.2.2.1,x.2.1.1.2.2.2.2.2.2.1,x.2.1.1.2.2.2.2.2.2.2.1,x.2.1.1.2.2.2.2.2.2.2.2.1,(),x.2.1.1.2.2.2.2.2.2.2.2.2.2.1,x.2.1.1.2.2.2.2.2.2.2.2.2.2.2.1,x.2.1.1.2.2.2.2.2.2.2.2.2.2.2.2.1,()),()),(x.2.2.1,x.2.2.2.1,()))
def yGj:Code:=(zdI ynk 64 12).getD .skip
theorem yTV:zdI ynk 64 3=some (.block 0 (.loop yGj)):=by kernel_rfl
theorem yWP (x:(ycU).X):zg7 ⟨ytu,39,yFN⟩ 0 yGj 12 ycU yiy ypp x=ydv x:=by kernel_rfl
def yEx (x:(yiQ).X):Nat:=(fun (u0:Int) (u1:Int) (u2:Int) (u3:Int) (u4:Int) (u5:Int) (u6:Int) (u7:Int) (u8:Int) (u9:Bool) (u10:Bool) (u11:List dM) (u12:List dW)=>18446744073709551616) x.2.1.1.1 x.2.1.1.2.1 x.2.1.1.2.2.1 x.2.1.1.2.2.2.2.1 x.2.1.1.2.2.2.2.2.1 x.2.1.1.2.2.2.2.2.2.1 x.2.1.1.2.2.2.2.2.2.2.1 x.2.1.1.2.2.2.2.2.2.2.2.1 x.2.1.1.2.2.2.2.2.2.2.2.2.2.1 x.2.1.1.2.2.2.2.2.2.2.2.2.2.2.1 x.2.1.1.2.2.2.2.2.2.2.2.2.2.2.2.1 x.2.2.1 x.2.2.2.1
def yvN (x:(yiQ).X):Option ((yiy).X ⊕ (ypp).X):=zr ydv (yEx x) (yEf x)
def yE2:Seg:=⟨yiQ,yiy,ypp,yvN⟩
def yFO:Nat→Option Seg:=fun q=>bif Nat.beq q 3 then some yE2 else yFN q
theorem yRm:FrOk Tryz.prog ⟨ytu,39,yFO⟩ ynk:=(yRl).loop (sg:=yE2) ycU yEf (by decide) yTV ydv yEx (by decide) (fun _=>rfl) (fun x r _ h=>h) yWP
abbrev yhN:List Par:= [.pt tA (.pr .fz (.pr (.pr .fz .fz) (.pr (.ow (.pr (.ow .fz) (.pr (.ow (.pr .fz .fz)) (.pr .fz (.ow .fz))))) (.pr .fz (.pr .fz (.pr .fz (.pr .fz (.pr .fz (.pr (.ow (.pr .fz .fz)) (.pr .fz (.pr .fz .fz)))))))))))]
abbrev yt1:List OT:= []
def ypT (a0:dA):Option (ResD yt1×MutD yhN) :=
  zjw (yvN ((((),()),((),()),()),((a0.1,a0.2.1.1,a0.2.1.2,(),a0.2.2.2.1,a0.2.2.2.2.1,a0.2.2.2.2.2.1,a0.2.2.2.2.2.2.1,a0.2.2.2.2.2.2.2.1,(),a0.2.2.2.2.2.2.2.2.2.1,a0.2.2.2.2.2.2.2.2.2.2.1,a0.2.2.2.2.2.2.2.2.2.2.2,()),()),(a0.2.2.1,a0.2.2.2.2.2.2.2.2.1,()))) (fun y4 =>
    some ((),((y4.2.1.1.1,(y4.2.1.1.2.1,y4.2.1.1.2.2.1),y4.2.2.1,y4.2.1.1.2.2.2.2.1,y4.2.1.1.2.2.2.2.2.1,y4.2.1.1.2.2.2.2.2.2.1,y4.2.1.1.2.2.2.2.2.2.2.1,y4.2.1.1.2.2.2.2.2.2.2.2.1,y4.2.2.2.1,y4.2.1.1.2.2.2.2.2.2.2.2.2.2.1,y4.2.1.1.2.2.2.2.2.2.2.2.2.2.2.1,y4.2.1.1.2.2.2.2.2.2.2.2.2.2.2.2.1),()))) (fun y4 =>
    none)
theorem yZ6 (x:InD yhN):zjH ⟨ytu,39,yFO⟩ Tryz.f224.results.toList ynk yhN yt1 x=ypT x.1:=by kernel_rfl
theorem yWb:ConOk Tryz.prog 224 ⟨yhN,yt1,fun x=>ypT x.1⟩:=zkh (yRm) Tryz.func224 (by kernel_rfl) (by kernel_rfl) Tryz.ntmps224.symm (by decide) (fun x r h=>(yZ6 x).trans h)
def ydB (a0:dA):dA:=yN a0
theorem yYn (a0:dA) (hk:zi9 yhN (a0,())):ypT a0=(fun n=>some ((),(n,()))) (ydB a0):=by
  have hb:a0.2.2.1.length * 80≤2 ^ 47:=hk.1.2.2.1.1
  have h1:yvN (yRK a0)=some (.inl (yEF (yN a0))) :=
    zks (step:=ydv) a0.2.2.1.length (fun i s=>yuJ i s) yL (fun _ s=>s.2.2.1.length=a0.2.2.1.length) (fun s=> .inl (yEF s)) (fun i s hi hs=>⟨by
      simp only [ydv,yuJ,yu9,hs,zjI (show (i:Int) < a0.2.2.1.length by omega),cond_true,wr (show -9223372036854775808≤(i:Int)+1 by omega) (by omega),Int.natCast_add,Int.natCast_one,Int.toNat_natCast,zkO hi,zkV,yWR,yei,yjr,yL,yEN]
      cases (nth s.2.2.1 i yf).2.2.1<;>cases (opA s).1<;>simp only [cond_true,cond_false,Bool.not_true,Bool.not_false,yei,Int.toNat_natCast],(yyT s i).trans hs⟩) (fun s hs=>by simp only [ydv,yuJ,yu9,hs,zkm (Int.le_refl _),cond_false]) a0 rfl _ (by show _ < 18446744073709551616; omega)
  unfold ypT ydB
  rw [h1]; rfl
def ypu:Con:=⟨yhN,yt1,fun x=>(fun n=>some ((),(n,()))) (ydB x.1)⟩
theorem yyp:ConOk Tryz.prog 224 ypu:=(yWb).mono (fun x r hk h=>(yYn x.1 hk).trans h)
end
section
def yp3:Code:=(Tryz.f161.body).getD .skip
def yvy:Env:=zki TT [(149,yrL),(221,ywj),(223,yGy),(224,ypu)] []
theorem yU3:FrOk Tryz.prog ⟨yvy,24,fun _=>none⟩ yp3:=zkp yb yc ⟨yAA,yIn,yY1,yyp,trivial⟩
def yHF:Nat→Option Seg:=fun _=>none
def ycT:Shape:=⟨[(0,false,[.ptr 1000000000 0]),(3,false,[.ptr 0 0]),(4,false,[.int .i64])],[(0,[.int .i64,.int .i64,.br tI]),(1000000000,[.int .i64,.int .i64,.int .i64,.at 800000000,.int .i64,.int .i64,.int .i64,.int .i64,.int .i64,.at 800000001,.int .i64,.bool,.bool])],[(800000000,tM,(.pr (.ow .fz) (.pr (.ow (.pr .fz .fz)) (.pr .fz (.ow .fz))))),(800000001,tW,(.pr .fz .fz))]⟩
def yiP:Shape:=⟨[(0,false,[.ptr 1000000000 0]),(3,false,[.ptr 0 0]),(4,false,[.ci .i64 0])],[(0,[.int .i64,.int .i64,.br tI]),(1000000000,[.int .i64,.int .i64,.int .i64,.at 800000000,.int .i64,.int .i64,.int .i64,.int .i64,.int .i64,.at 800000001,.int .i64,.bool,.bool])],[(800000000,tM,(.pr (.ow .fz) (.pr (.ow (.pr .fz .fz)) (.pr .fz (.ow .fz))))),(800000001,tW,(.pr .fz .fz))]⟩
def yix:Shape:=⟨[(0,false,[.ptr 1000000000 0])],[(1000000000,[.int .i64,.int .i64,.int .i64,.at 800000000,.int .i64,.int .i64,.int .i64,.int .i64,.int .i64,.at 800000001,.int .i64,.bool,.bool])],[(800000000,tM,(.pr (.ow .fz) (.pr (.ow (.pr .fz .fz)) (.pr .fz (.ow .fz))))),(800000001,tW,(.pr .fz .fz))]⟩
def ypo:Shape:=⟨[],[],[]⟩
abbrev yuI (v0:Int) (v1:dN) (v2:dA):(ycT).X:=((((),()),((),()),(v0,()),()),((v1.1,v1.2.1,v1.2.2,()),(v2.1,v2.2.1.1,v2.2.1.2,(),v2.2.2.2.1,v2.2.2.2.2.1,v2.2.2.2.2.2.1,v2.2.2.2.2.2.2.1,v2.2.2.2.2.2.2.2.1,(),v2.2.2.2.2.2.2.2.2.2.1,v2.2.2.2.2.2.2.2.2.2.2.1,v2.2.2.2.2.2.2.2.2.2.2.2,()),()),(v2.2.2.1,v2.2.2.2.2.2.2.2.2.1,()))
abbrev yRJ (v0:dN) (v1:dA):(yiP).X:=((((),()),((),()),((),()),()),((v0.1,v0.2.1,v0.2.2,()),(v1.1,v1.2.1.1,v1.2.1.2,(),v1.2.2.2.1,v1.2.2.2.2.1,v1.2.2.2.2.2.1,v1.2.2.2.2.2.2.1,v1.2.2.2.2.2.2.2.1,(),v1.2.2.2.2.2.2.2.2.2.1,v1.2.2.2.2.2.2.2.2.2.2.1,v1.2.2.2.2.2.2.2.2.2.2.2,()),()),(v1.2.2.1,v1.2.2.2.2.2.2.2.2.1,()))
abbrev yEE (v0:dA):(yix).X:=((((),()),()),((v0.1,v0.2.1.1,v0.2.1.2,(),v0.2.2.2.1,v0.2.2.2.2.1,v0.2.2.2.2.2.1,v0.2.2.2.2.2.2.1,v0.2.2.2.2.2.2.2.1,(),v0.2.2.2.2.2.2.2.2.2.1,v0.2.2.2.2.2.2.2.2.2.2.1,v0.2.2.2.2.2.2.2.2.2.2.2,()),()),(v0.2.2.1,v0.2.2.2.2.2.2.2.2.1,()))
def yu8 (v0:Int) (v1:Int) (v2:Int) (v3:List Int) (v4:Int) (v5:Int) (v6:Int) (v7:Int) (v8:Int) (v9:Int) (v10:Int) (v11:Int) (v12:Int) (v13:Bool) (v14:Bool) (v15:List dM) (v16:List dW):Option ((ycT).X ⊕ ((yix).X ⊕ (ypo).X)) :=
  bif (ltb v0 (v15.length:Int)) then
    let r4:=yi v1
    let r5:=ynN (v1,v2,v3)
    bnd (yha (v4,(v5,v6),v15,v7,v8,v9,v10,v11,v16,v12,v13,v14) v0 r4 r5) fun r6 =>
    some (.inl ((((),()),((),()),((IntKind.i64.wrap (v0+1)),()),()),((v1,v2,v3,()),(r6.2.1.1,r6.2.1.2.1.1,r6.2.1.2.1.2,(),r6.2.1.2.2.2.1,r6.2.1.2.2.2.2.1,r6.2.1.2.2.2.2.2.1,r6.2.1.2.2.2.2.2.2.1,r6.2.1.2.2.2.2.2.2.2.1,(),r6.2.1.2.2.2.2.2.2.2.2.2.1,r6.2.1.2.2.2.2.2.2.2.2.2.2.1,r6.2.1.2.2.2.2.2.2.2.2.2.2.2,()),()),(r6.2.1.2.2.1,r6.2.1.2.2.2.2.2.2.2.2.1,())))
  else
    some (.inr (.inl ((((),()),()),((v4,v5,v6,(),v7,v8,v9,v10,v11,(),v12,v13,v14,()),()),(v15,v16,()))))
def ydu (x:(ycT).X):=yu8 x.1.2.2.1.1 x.2.1.1.1 x.2.1.1.2.1 x.2.1.1.2.2.1 x.2.1.2.1.1 x.2.1.2.1.2.1 x.2.1.2.1.2.2.1 x.2.1.2.1.2.2.2.2.1 x.2.1.2.1.2.2.2.2.2.1 x.2.1.2.1.2.2.2.2.2.2.1 x.2.1.2.1.2.2.2.2.2.2.2.1 x.2.1.2.1.2.2.2.2.2.2.2.2.1 x.2.1.2.1.2.2.2.2.2.2.2.2.2.2.1 x.2.1.2.1.2.2.2.2.2.2.2.2.2.2.2.1 x.2.1.2.1.2.2.2.2.2.2.2.2.2.2.2.2.1 x.2.2.1 x.2.2.2.1
def yEe (x:(yiP).X):(ycT).X:=((((),()),((),()),(0,()),()),((x.2.1.1.1,x.2.1.1.2.1,x.2.1.1.2.2.1,()),(x.2.1.2.1.1,x.2.1.2.1.2.1,x.2.1.2.1.2.2.1,(),x.2.1.2.1.2.2.2.2.1,x.2.1.2.1.2.2.2.2.2.1,x.2.1.2.1.2.2.2.2.2.2.1,x.2.1.2.1.2.2.2.2.2.2.2.1,x.2.1.2.1.2.2.2.2.2.2.2.2.1,(),x.2.1.2.1.2.2.2.2.2.2.2.2.2.2.1,x.2.1.2.1.2.2.2.2.2.2.2.2.2.2.2.1,x.2.1.2.1.2.2.2.2.2.2.2.2.2.2.2.2.1,()),()),(x.2.2.1,x.2.2.2.1,()))
def yGi:Code:=(zdI yp3 64 52).getD .skip
theorem yTU:zdI yp3 64 13=some (.block 0 (.loop yGi)):=by kernel_rfl
theorem yWO (x:(ycT).X):zg7 ⟨yvy,24,yHF⟩ 0 yGi 52 ycT yix ypo x=ydu x:=by kernel_rfl
def yEw (x:(yiP).X):Nat:=(fun (u0:Int) (u1:Int) (u2:List Int) (u3:Int) (u4:Int) (u5:Int) (u6:Int) (u7:Int) (u8:Int) (u9:Int) (u10:Int) (u11:Int) (u12:Bool) (u13:Bool) (u14:List dM) (u15:List dW)=>18446744073709551616) x.2.1.1.1 x.2.1.1.2.1 x.2.1.1.2.2.1 x.2.1.2.1.1 x.2.1.2.1.2.1 x.2.1.2.1.2.2.1 x.2.1.2.1.2.2.2.2.1 x.2.1.2.1.2.2.2.2.2.1 x.2.1.2.1.2.2.2.2.2.2.1 x.2.1.2.1.2.2.2.2.2.2.2.1 x.2.1.2.1.2.2.2.2.2.2.2.2.1 x.2.1.2.1.2.2.2.2.2.2.2.2.2.2.1 x.2.1.2.1.2.2.2.2.2.2.2.2.2.2.2.1 x.2.1.2.1.2.2.2.2.2.2.2.2.2.2.2.2.1 x.2.2.1 x.2.2.2.1
def yvM (x:(yiP).X):Option ((yix).X ⊕ (ypo).X):=zr ydu (yEw x) (yEe x)
def yE1:Seg:=⟨yiP,yix,ypo,yvM⟩
def yHG:Nat→Option Seg:=fun q=>bif Nat.beq q 13 then some yE1 else yHF q
theorem yU4:FrOk Tryz.prog ⟨yvy,24,yHG⟩ yp3:=(yU3).loop (sg:=yE1) ycT yEe (by decide) yTU ydu yEw (by decide) (fun _=>rfl) (fun x r _ h=>h) yWO
abbrev ylg:List Par:= [.pt tA (.pr .fz (.pr (.pr .fz .fz) (.pr (.ow (.pr (.ow .fz) (.pr (.ow (.pr .fz .fz)) (.pr .fz (.ow .fz))))) (.pr .fz (.pr .fz (.pr .fz (.pr .fz (.pr .fz (.pr (.ow (.pr .fz .fz)) (.pr .fz (.pr .fz .fz))))))))))),.rd tN]
abbrev ywa:List OT:= []
def yr8 (a0:dA) (a1:dN):Option (ResD ywa×MutD ylg) :=
  zjw (yvM ((((),()),((),()),((),()),()),((a1.1,a1.2.1,a1.2.2,()),(a0.1,a0.2.1.1,a0.2.1.2,(),a0.2.2.2.1,a0.2.2.2.2.1,a0.2.2.2.2.2.1,a0.2.2.2.2.2.2.1,a0.2.2.2.2.2.2.2.1,(),a0.2.2.2.2.2.2.2.2.2.1,a0.2.2.2.2.2.2.2.2.2.2.1,a0.2.2.2.2.2.2.2.2.2.2.2,()),()),(a0.2.2.1,a0.2.2.2.2.2.2.2.2.1,()))) (fun y6 =>
    let r8:=ydB (y6.2.1.1.1,(y6.2.1.1.2.1,y6.2.1.1.2.2.1),y6.2.2.1,y6.2.1.1.2.2.2.2.1,y6.2.1.1.2.2.2.2.2.1,y6.2.1.1.2.2.2.2.2.2.1,y6.2.1.1.2.2.2.2.2.2.2.1,y6.2.1.1.2.2.2.2.2.2.2.2.1,y6.2.2.2.1,y6.2.1.1.2.2.2.2.2.2.2.2.2.2.1,y6.2.1.1.2.2.2.2.2.2.2.2.2.2.2.1,y6.2.1.1.2.2.2.2.2.2.2.2.2.2.2.2.1)
    some ((),(r8,()))) (fun y6 =>
    none)
theorem y1j (x:InD ylg):zjH ⟨yvy,24,yHG⟩ Tryz.f161.results.toList yp3 ylg ywa x=yr8 x.1 x.2.1:=by kernel_rfl
theorem yYM:ConOk Tryz.prog 161 ⟨ylg,ywa,fun x=>yr8 x.1 x.2.1⟩:=zkh (yU4) Tryz.func161 (by kernel_rfl) (by kernel_rfl) Tryz.ntmps161.symm (by decide) (fun x r h=>(y1j x).trans h)
def yqJ (a0:dA) (a1:dN):dA:=yHb a0 a1
theorem y0w (a0:dA) (a1:dN) (hk:zi9 ylg (a0,a1,())):yr8 a0 a1=(fun n=>some ((),(n,()))) (yqJ a0 a1):=by
  have hb:a0.2.2.1.length * 80≤2 ^ 47:=hk.1.2.2.1.1
  have h1:yvM (yRJ a1 a0)=some (.inl (yEE ((List.range a0.2.2.1.length).foldl (yf2 a1) a0))) :=
    zks (step:=ydu) a0.2.2.1.length (fun i s=>yuI i a1 s) (yf2 a1) (fun _ s=>s.2.2.1.length=a0.2.2.1.length) (fun s=> .inl (yEE s)) (fun i s hi hs=>⟨by
      simp only [ydu,yuI,yu8,hs,zjI (show (i:Int) < a0.2.2.1.length by omega),cond_true,wr (show -9223372036854775808≤(i:Int)+1 by omega) (by omega),Int.natCast_add,Int.natCast_one,Int.toNat_natCast,zkV,ynN]
      rw [yt7 s i (yi a1.1) (yqK a1) (zkO (by rw [hs]; exact hi))]
      rfl,(yCI a1 s i).trans hs⟩) (fun s hs=>by simp only [ydu,yuI,yu8,hs,zkm (Int.le_refl _),cond_false]) a0 rfl _ (by show _ < 18446744073709551616; omega)
  unfold yr8 yqJ yHb
  exact (congrArg (fun z=>zjw z _ _) h1).trans rfl
def yH6:Con:=⟨ylg,ywa,fun x=>(fun n=>some ((),(n,()))) (yqJ x.1 x.2.1)⟩
theorem y0Q:ConOk Tryz.prog 161 yH6:=(yYM).mono (fun x r hk h=>(y0w x.1 x.2.1 hk).trans h)
end
section
def yI6:Code:=(Tryz.f150.body).getD .skip
def yJv:Env:=zki TT [(98,yu)] []
theorem yQ1:FrOk Tryz.prog ⟨yJv,9,fun _=>none⟩ yI6:=zkp yb yc ⟨yF,trivial⟩
def yTz:Nat→Option Seg:=fun _=>none
abbrev ynv:List Par:= [.rd tI]
abbrev ytQ:List OT:= [⟨false,tI,.fz⟩]
def ywX (a0:Int):Option (ResD ytQ×MutD ynv) :=
  let r1:=ya a0 0 1099511627776
  bif (!r1) then
    some (((-1),()),())
  else
    some (((IntKind.i64.wrap ((IntKind.i64.wrap (a0+2))+4)),()),())
theorem yZT (x:InD ynv):zjH ⟨yJv,9,yTz⟩ Tryz.f150.results.toList yI6 ynv ytQ x=ywX x.1:=by kernel_rfl
theorem yVY:ConOk Tryz.prog 150 ⟨ynv,ytQ,fun x=>ywX x.1⟩:=zkh (yQ1) Tryz.func150 (by kernel_rfl) (by kernel_rfl) Tryz.ntmps150.symm (by decide) (fun x r h=>(yZT x).trans h)
def yhS (a0:Int):Int :=
  let r1:=ya a0 0 1099511627776
  bif (!r1) then
    (-1)
  else
    (IntKind.i64.wrap ((IntKind.i64.wrap (a0+2))+4))
def yGv:Con:=⟨ynv,ytQ,fun x=>(fun n=>some ((n,()),())) (yhS x.1)⟩
theorem yYa (a0:Int):ywX a0=(fun n=>some ((n,()),())) (yhS a0):=zkS (p:=fun (n:Int)=>((n,()),())) (zkx (p:=fun (n:Int)=>((n,()),())) rfl rfl)
theorem yYY:ConOk Tryz.prog 150 yGv:=(yVY).mono (fun x r _ h=>(yYa x.1).trans h)
theorem yIp (s:Int):yhS s=ywk s:=by
  unfold yhS ywk
  rw [yfg]
  by_cases h:0≤s∧s≤1099511627776
  · rw [zk0 h.1,zk0 h.2,wr (show -9223372036854775808≤s+2 by omega) (by omega),wr (by omega) (by omega)]
    show s+2+4=s+6
    omega
  · cases h1:(leb 0 s&&leb s 1099511627776)
    · rfl
    · rw [Bool.and_eq_true,zjQ,zjQ]at h1; exact absurd h1 h
end
section
def yFo:Code:=(Tryz.f255.body).getD .skip
def yF2:Env:=zki TT [(98,yu),(141,yrK)] []
theorem yL8:FrOk Tryz.prog ⟨yF2,14,fun _=>none⟩ yFo:=zkp yb yc ⟨yF,yAz,trivial⟩
def yNr:Nat→Option Seg:=fun _=>none
abbrev yig:List Par:= [.rd tG,.rd tI]
abbrev yph:List OT:= [⟨false,tB,.fz⟩]
def ysM (a0:dG) (a1:Int):Option (ResD yph×MutD yig) :=
  let r1:=yg a0
  bif r1 then
    let r2:=ya a1 0 (IntKind.i64.wrap (a0.2 - 1))
    some ((r2,()),())
  else
    some ((false,()),())
theorem yUo (x:InD yig):zjH ⟨yF2,14,yNr⟩ Tryz.f255.results.toList yFo yig yph x=ysM x.1 x.2.1:=by kernel_rfl
theorem yPj:ConOk Tryz.prog 255 ⟨yig,yph,fun x=>ysM x.1 x.2.1⟩:=zkh (yL8) Tryz.func255 (by kernel_rfl) (by kernel_rfl) Tryz.ntmps255.symm (by decide) (fun x r h=>(yUo x).trans h)
def yjv (a0:dG) (a1:Int):Bool :=
  let r1:=yg a0
  bif r1 then
    let r2:=ya a1 0 (IntKind.i64.wrap (a0.2 - 1))
    r2
  else
    false
def yBQ:Con:=⟨yig,yph,fun x=>(fun n=>some ((n,()),())) (yjv x.1 x.2.1)⟩
theorem ySg (a0:dG) (a1:Int):ysM a0 a1=(fun n=>some ((n,()),())) (yjv a0 a1):=zkS (p:=fun (n:Bool)=>((n,()),())) (zkx (p:=fun (n:Bool)=>((n,()),())) rfl rfl)
theorem yS0:ConOk Tryz.prog 255 yBQ:=(yPj).mono (fun x r _ h=>(ySg x.1 x.2.1).trans h)
theorem y1W (g:dG) (s:Int):yjv g s=ykH g s:=by
  unfold yjv ykH
  cases hg:yg g
  · rfl
  have:=yaZ.1 hg
  rw [yfg,wr (by omega) (by omega)]; rfl
end
section
def yFl:Code:=(Tryz.f225.body).getD .skip
def yFZ:Env:=zki TT [(255,yBQ)] []
theorem yL5:FrOk Tryz.prog ⟨yFZ,17,fun _=>none⟩ yFl:=zkp yb yc ⟨yS0,trivial⟩
def yNo:Nat→Option Seg:=fun _=>none
abbrev ye7:List Par:= [.rd tG,.rd tI]
abbrev ype:List OT:= [⟨false,tI,.fz⟩]
def ykE (a0:dG) (a1:Int):Option (ResD ype×MutD ye7) :=
  let r1:=yjv a0 a1
  bif (!r1) then
    some (((-1),()),())
  else
    bif (a0.1 !=0) then
      some (((IntKind.i64.wrap ((IntKind.i64.wrap (a0.1 - 1)) - (a1.tmod a0.1))),()),())
    else none
theorem yUl (x:InD ye7):zjH ⟨yFZ,17,yNo⟩ Tryz.f225.results.toList yFl ye7 ype x=ykE x.1 x.2.1:=by kernel_rfl
theorem yPg:ConOk Tryz.prog 225 ⟨ye7,ype,fun x=>ykE x.1 x.2.1⟩:=zkh (yL5) Tryz.func225 (by kernel_rfl) (by kernel_rfl) Tryz.ntmps225.symm (by decide) (fun x r h=>(yUl x).trans h)
def yjt (a0:dG) (a1:Int):Int:=yh a0 a1
theorem ySd (a0:dG) (a1:Int) (hk:zi9 ye7 (a0,a1,())):ykE a0 a1=(fun n=>some ((n,()),())) (yjt a0 a1):=by
  unfold ykE yjt
  rw [y1W]
  cases hs:ykH a0 a1
  · unfold yh; rw [hs]; rfl
  · have h1:=ylS.1 hs
    have h2:=yaZ.1 h1.1
    have h3:=yvk hs
    have h4:yh a0 a1=a0.1 - 1 - a1.tmod a0.1:=by unfold yh; rw [hs]; rfl
    rw [show (a0.1 !=0)=true from bne_iff_ne.2 (by omega),wr (show -9223372036854775808≤a0.1 - 1 by omega) (by omega),wr (show -9223372036854775808≤a0.1 - 1 - a1.tmod a0.1 by omega) (by omega),h4]; rfl
def yBN:Con:=⟨ye7,ype,fun x=>(fun n=>some ((n,()),())) (yjt x.1 x.2.1)⟩
theorem ySX:ConOk Tryz.prog 225 yBN:=(yPg).mono (fun x r hk h=>(ySd x.1 x.2.1 hk).trans h)
end
section
def yp1:Code:=(Tryz.f256.body).getD .skip
def yvw:Env:=zki TT [] []
theorem yUY:FrOk Tryz.prog ⟨yvw,18,fun _=>none⟩ yp1:=zkp yb yc trivial
def yHB:Nat→Option Seg:=fun _=>none
def ycQ:Shape:=⟨[(0,false,[.br tI]),(3,false,[.int .i64]),(4,false,[.int .i64])],[],[]⟩
def yiM:Shape:=⟨[(0,false,[.br tI]),(3,false,[.ci .i64 0]),(4,false,[.ci .i64 0])],[],[]⟩
def yiu:Shape:=⟨[(3,false,[.int .i64])],[],[]⟩
def ypm:Shape:=⟨[],[],[]⟩
abbrev yuF (v0:List Int) (v1:Int) (v2:Int):(ycQ).X:=(((v0,()),(v1,()),(v2,()),()),(),())
abbrev yRG (v0:List Int):(yiM).X:=(((v0,()),((),()),((),()),()),(),())
abbrev yEC (v0:Int):(yiu).X:=(((v0,()),()),(),())
def yu5 (v0:List Int) (v1:Int) (v2:Int):Option ((ycQ).X ⊕ ((yiu).X ⊕ (ypm).X)) :=
  bif (ltb v2 (v0.length:Int)) then
    bif (inb v2 v0.length) then
      some (.inl (((v0,()),((IntKind.i64.wrap ((BitVec.ofInt IntKind.i64.bits v1 ^^^ BitVec.ofInt IntKind.i64.bits (nth v0 v2 0)).toNat:Int)),()),((IntKind.i64.wrap (v2+1)),()),()),(),()))
    else none
  else
    some (.inr (.inl (((v1,()),()),(),())))
def ydr (x:(ycQ).X):=yu5 x.1.1.1 x.1.2.1.1 x.1.2.2.1.1
def yEb (x:(yiM).X):(ycQ).X:=(((x.1.1.1,()),(0,()),(0,()),()),(),())
def yGf:Code:=(zdI yp1 64 116).getD .skip
theorem yTR:zdI yp1 64 29=some (.block 0 (.loop yGf)):=by kernel_rfl
theorem yWL (x:(ycQ).X):zg7 ⟨yvw,18,yHB⟩ 0 yGf 116 ycQ yiu ypm x=ydr x:=by kernel_rfl
def yEt (x:(yiM).X):Nat:=(fun (u0:List Int)=>18446744073709551616) x.1.1.1
def yvJ (x:(yiM).X):Option ((yiu).X ⊕ (ypm).X):=zr ydr (yEt x) (yEb x)
def yEY:Seg:=⟨yiM,yiu,ypm,yvJ⟩
def yHC:Nat→Option Seg:=fun q=>bif Nat.beq q 29 then some yEY else yHB q
theorem yUZ:FrOk Tryz.prog ⟨yvw,18,yHC⟩ yp1:=(yUY).loop (sg:=yEY) ycQ yEb (by decide) yTR ydr yEt (by decide) (fun _=>rfl) (fun x r _ h=>h) yWL
abbrev yld:List Par:= [.rd tL]
abbrev yv8:List OT:= [⟨false,tI,.fz⟩]
def yr5 (a0:List Int):Option (ResD yv8×MutD yld) :=
  zjw (yvJ (((a0,()),((),()),((),()),()),(),())) (fun y0 =>
    some ((y0.1.1.1,()),())) (fun y0 =>
    none)
theorem y1g (x:InD yld):zjH ⟨yvw,18,yHC⟩ Tryz.f256.results.toList yp1 yld yv8 x=yr5 x.1:=by kernel_rfl
theorem yYJ:ConOk Tryz.prog 256 ⟨yld,yv8,fun x=>yr5 x.1⟩:=zkh (yUZ) Tryz.func256 (by kernel_rfl) (by kernel_rfl) Tryz.ntmps256.symm (by decide) (fun x r h=>(y1g x).trans h)
def ylH (a0:List Int):Int:=ypV a0
theorem y0t (a0:List Int) (hk:zi9 yld (a0,())):yr5 a0=(fun n=>some ((n,()),())) (ylH a0):=by
  have hb:a0.length * 8≤2 ^ 47:=hk.1.1
  have h1:yvJ (yRG a0)=some (.inl (yEC (ypV a0))) :=
    zkk (step:=ydr) a0 0 (fun i s=>yuF a0 s i) xw (fun _ _=>True) (fun s=> .inl (yEC s)) (fun i s hi _=>⟨by
      simp only [ydr,yuF,yu5,zjI (show (i:Int) < a0.length by omega),cond_true,wr (show -9223372036854775808≤(i:Int)+1 by omega) (by omega),Int.natCast_add,Int.natCast_one,Int.toNat_natCast,zkO hi,zjW]; rfl,trivial⟩) (fun s _=>by simp only [ydr,yuF,yu5,zkm (Int.le_refl _),cond_false]) 0 trivial _ (by show _ < 18446744073709551616; omega)
  unfold yr5 ylH
  rw [h1]; rfl
def yH4:Con:=⟨yld,yv8,fun x=>(fun n=>some ((n,()),())) (ylH x.1)⟩
theorem y0O:ConOk Tryz.prog 256 yH4:=(yYJ).mono (fun x r hk h=>(y0t x.1 hk).trans h)
end
end
end Go.Tf
