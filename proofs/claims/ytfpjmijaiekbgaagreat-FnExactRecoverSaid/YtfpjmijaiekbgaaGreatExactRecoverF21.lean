/- Functions of the program, and what they come to. -/
import Derived.Test.YtfpjmijaiekbgaaGreatExactRecoverF20
namespace Go.Tf
noncomputable section
open Go.Proofs
set_option synthInstance.maxHeartbeats 400000
set_option synthInstance.maxSize 10000
set_option linter.unusedVariables false
set_option linter.unusedSimpArgs false
set_option maxRecDepth 100000
section
def yhX:Code:=(Tryz.f172.body).getD .skip
def yoC:Env:=zki TT [(78,yje),(168,ykg),(232,yBD),(233,yDO)] []
theorem yLw:FrOk Tryz.prog ⟨yoC,37,fun _=>none⟩ yhX:=zkp yb yc ⟨ysG,yuK,ySN,yWk,trivial⟩
def yAM:Nat→Option Seg:=fun _=>none
def yaN:Shape:=⟨[(0,false,[.ptr 1000000000 0]),(15,false,[.int .i64]),(16,false,[.int .i64])],[(1000000000,[.int .i64,.int .i64,.int .i64,.at 800000000,.int .i64,.int .i64,.int .i64,.int .i64,.int .i64,.at 800000001,.int .i64,.bool,.bool])],[(800000000,tM,(.pr (.ow (.ow .fz)) (.pr (.ow (.pr .fz (.ow .fz))) (.pr .fz (.ow .fz))))),(800000001,tW,(.pr .fz (.ow .fz)))]⟩
def yez:Shape:=⟨[(0,false,[.ptr 1000000000 0]),(15,false,[.int .i64]),(16,false,[.ci .i64 0])],[(1000000000,[.int .i64,.int .i64,.int .i64,.at 800000000,.int .i64,.int .i64,.int .i64,.int .i64,.int .i64,.at 800000001,.int .i64,.bool,.bool])],[(800000000,tM,(.pr (.ow (.ow .fz)) (.pr (.ow (.pr .fz (.ow .fz))) (.pr .fz (.ow .fz))))),(800000001,tW,(.pr .fz (.ow .fz)))]⟩
def yer:Shape:=⟨[(0,false,[.ptr 1000000000 0])],[(1000000000,[.int .i64,.int .i64,.int .i64,.at 800000000,.int .i64,.int .i64,.int .i64,.int .i64,.int .i64,.at 800000001,.int .i64,.bool,.bool])],[(800000000,tM,(.pr (.ow (.ow .fz)) (.pr (.ow (.pr .fz (.ow .fz))) (.pr .fz (.ow .fz))))),(800000001,tW,(.pr .fz (.ow .fz)))]⟩
def yeH:Shape:=⟨[(2,false,[.bool])],[(1000000000,[.int .i64,.int .i64,.int .i64,.at 800000000,.int .i64,.int .i64,.int .i64,.int .i64,.int .i64,.at 800000001,.int .i64,.bool,.bool])],[(800000000,tM,(.pr (.ow (.ow .fz)) (.pr (.ow (.pr .fz (.ow .fz))) (.pr .fz (.ow .fz))))),(800000001,tW,(.pr .fz (.ow .fz)))]⟩
abbrev yn8 (v0:Int) (v1:Int) (v2:dA):(yaN).X:=((((),()),(v0,()),(v1,()),()),((v2.1,v2.2.1.1,v2.2.1.2,(),v2.2.2.2.1,v2.2.2.2.2.1,v2.2.2.2.2.2.1,v2.2.2.2.2.2.2.1,v2.2.2.2.2.2.2.2.1,(),v2.2.2.2.2.2.2.2.2.2.1,v2.2.2.2.2.2.2.2.2.2.2.1,v2.2.2.2.2.2.2.2.2.2.2.2,()),()),(v2.2.2.1,v2.2.2.2.2.2.2.2.2.1,()))
abbrev yKi (v0:Int) (v1:dA):(yez).X:=((((),()),(v0,()),((),()),()),((v1.1,v1.2.1.1,v1.2.1.2,(),v1.2.2.2.1,v1.2.2.2.2.1,v1.2.2.2.2.2.1,v1.2.2.2.2.2.2.1,v1.2.2.2.2.2.2.2.1,(),v1.2.2.2.2.2.2.2.2.2.1,v1.2.2.2.2.2.2.2.2.2.2.1,v1.2.2.2.2.2.2.2.2.2.2.2,()),()),(v1.2.2.1,v1.2.2.2.2.2.2.2.2.1,()))
abbrev yof (v0:dA):(yer).X:=((((),()),()),((v0.1,v0.2.1.1,v0.2.1.2,(),v0.2.2.2.1,v0.2.2.2.2.1,v0.2.2.2.2.2.1,v0.2.2.2.2.2.2.1,v0.2.2.2.2.2.2.2.1,(),v0.2.2.2.2.2.2.2.2.2.1,v0.2.2.2.2.2.2.2.2.2.2.1,v0.2.2.2.2.2.2.2.2.2.2.2,()),()),(v0.2.2.1,v0.2.2.2.2.2.2.2.2.1,()))
abbrev yoh (v0:Bool) (v1:dA):(yeH).X:=(((v0,()),()),((v1.1,v1.2.1.1,v1.2.1.2,(),v1.2.2.2.1,v1.2.2.2.2.1,v1.2.2.2.2.2.1,v1.2.2.2.2.2.2.1,v1.2.2.2.2.2.2.2.1,(),v1.2.2.2.2.2.2.2.2.2.1,v1.2.2.2.2.2.2.2.2.2.2.1,v1.2.2.2.2.2.2.2.2.2.2.2,()),()),(v1.2.2.1,v1.2.2.2.2.2.2.2.2.1,()))
def yom (v0:Int) (v1:Int) (v2:Int) (v3:Int) (v4:Int) (v5:Int) (v6:Int) (v7:Int) (v8:Int) (v9:Int) (v10:Int) (v11:Bool) (v12:Bool) (v13:List dM) (v14:List dW):Option ((yaN).X ⊕ ((yer).X ⊕ (yeH).X)) :=
  bif (ltb v1 v0) then
    let r4:=yrP (v2,(v3,v4),v13,v5,v6,v7,v8,v9,v14,v10,v11,v12) v1
    let r5:=yjo r4
    bnd (yeh (v2,(v3,v4),v13,v5,v6,v7,v8,v9,v14,v10,v11,v12) v1 (v9.tmod 2) r5) fun r6 =>
    bif (!r6.1.1) then
      some (.inr (.inr (((false,()),()),((r6.2.1.1,r6.2.1.2.1.1,r6.2.1.2.1.2,(),r6.2.1.2.2.2.1,r6.2.1.2.2.2.2.1,r6.2.1.2.2.2.2.2.1,r6.2.1.2.2.2.2.2.2.1,r6.2.1.2.2.2.2.2.2.2.1,(),r6.2.1.2.2.2.2.2.2.2.2.2.1,r6.2.1.2.2.2.2.2.2.2.2.2.2.1,r6.2.1.2.2.2.2.2.2.2.2.2.2.2,()),()),(r6.2.1.2.2.1,r6.2.1.2.2.2.2.2.2.2.2.1,()))))
    else
      some (.inl ((((),()),(v0,()),((IntKind.i64.wrap (v1+1)),()),()),((r6.2.1.1,r6.2.1.2.1.1,r6.2.1.2.1.2,(),r6.2.1.2.2.2.1,r6.2.1.2.2.2.2.1,r6.2.1.2.2.2.2.2.1,r6.2.1.2.2.2.2.2.2.1,r6.2.1.2.2.2.2.2.2.2.1,(),r6.2.1.2.2.2.2.2.2.2.2.2.1,r6.2.1.2.2.2.2.2.2.2.2.2.2.1,r6.2.1.2.2.2.2.2.2.2.2.2.2.2,()),()),(r6.2.1.2.2.1,r6.2.1.2.2.2.2.2.2.2.2.1,())))
  else
    some (.inr (.inl ((((),()),()),((v2,v3,v4,(),v5,v6,v7,v8,v9,(),v10,v11,v12,()),()),(v13,v14,()))))
def ya3 (x:(yaN).X):=yom x.1.2.1.1 x.1.2.2.1.1 x.2.1.1.1 x.2.1.1.2.1 x.2.1.1.2.2.1 x.2.1.1.2.2.2.2.1 x.2.1.1.2.2.2.2.2.1 x.2.1.1.2.2.2.2.2.2.1 x.2.1.1.2.2.2.2.2.2.2.1 x.2.1.1.2.2.2.2.2.2.2.2.1 x.2.1.1.2.2.2.2.2.2.2.2.2.2.1 x.2.1.1.2.2.2.2.2.2.2.2.2.2.2.1 x.2.1.1.2.2.2.2.2.2.2.2.2.2.2.2.1 x.2.2.1 x.2.2.2.1
def yxo (x:(yez).X):(yaN).X:=((((),()),(x.1.2.1.1,()),(0,()),()),((x.2.1.1.1,x.2.1.1.2.1,x.2.1.1.2.2.1,(),x.2.1.1.2.2.2.2.1,x.2.1.1.2.2.2.2.2.1,x.2.1.1.2.2.2.2.2.2.1,x.2.1.1.2.2.2.2.2.2.2.1,x.2.1.1.2.2.2.2.2.2.2.2.1,(),x.2.1.1.2.2.2.2.2.2.2.2.2.2.1,x.2.1.1.2.2.2.2.2.2.2.2.2.2.2.1,x.2.1.1.2.2.2.2.2.2.2.2.2.2.2.2.1,()),()),(x.2.2.1,x.2.2.2.1,()))
def yy6:Code:=(zdI yhX 64 116).getD .skip
theorem yK9:zdI yhX 64 29=some (.block 0 (.loop yy6)):=by kernel_rfl
theorem yMU (x:(yaN).X):zg7 ⟨yoC,37,yAM⟩ 0 yy6 116 yaN yer yeH x=ya3 x:=by kernel_rfl
def yxC (x:(yez).X):Nat:=(fun (u0:Int) (u1:Int) (u2:Int) (u3:Int) (u4:Int) (u5:Int) (u6:Int) (u7:Int) (u8:Int) (u9:Int) (u10:Bool) (u11:Bool) (u12:List dM) (u13:List dW)=>18446744073709551616) x.1.2.1.1 x.2.1.1.1 x.2.1.1.2.1 x.2.1.1.2.2.1 x.2.1.1.2.2.2.2.1 x.2.1.1.2.2.2.2.2.1 x.2.1.1.2.2.2.2.2.2.1 x.2.1.1.2.2.2.2.2.2.2.1 x.2.1.1.2.2.2.2.2.2.2.2.1 x.2.1.1.2.2.2.2.2.2.2.2.2.2.1 x.2.1.1.2.2.2.2.2.2.2.2.2.2.2.1 x.2.1.1.2.2.2.2.2.2.2.2.2.2.2.2.1 x.2.2.1 x.2.2.2.1
def yp7 (x:(yez).X):Option ((yer).X ⊕ (yeH).X):=zr ya3 (yxC x) (yxo x)
def yxV:Seg:=⟨yez,yer,yeH,yp7⟩
def yAN:Nat→Option Seg:=fun q=>bif Nat.beq q 29 then some yxV else yAM q
theorem yLx:FrOk Tryz.prog ⟨yoC,37,yAN⟩ yhX:=(yLw).loop (sg:=yxV) yaN yxo (by decide) yK9 ya3 yxC (by decide) (fun _=>rfl) (fun x r _ h=>h) yMU
abbrev ycG:List Par:= [.pt tA (.pr .fz (.pr (.pr .fz .fz) (.pr (.ow (.pr (.ow (.ow .fz)) (.pr (.ow (.pr .fz (.ow .fz))) (.pr .fz (.ow .fz))))) (.pr .fz (.pr .fz (.pr .fz (.pr .fz (.pr .fz (.pr (.ow (.pr .fz (.ow .fz))) (.pr .fz (.pr .fz .fz)))))))))))]
abbrev yiR:List OT:= [⟨false,tB,.fz⟩]
def ykl (a0:dA):Option (ResD yiR×MutD ycG) :=
  zjw (yp7 ((((),()),((a0.2.2.1.length:Int),()),((),()),()),((a0.1,a0.2.1.1,a0.2.1.2,(),a0.2.2.2.1,a0.2.2.2.2.1,a0.2.2.2.2.2.1,a0.2.2.2.2.2.2.1,(IntKind.i64.wrap (a0.2.2.2.2.2.2.2.1+1)),(),a0.2.2.2.2.2.2.2.2.2.1,a0.2.2.2.2.2.2.2.2.2.2.1,a0.2.2.2.2.2.2.2.2.2.2.2,()),()),(a0.2.2.1,a0.2.2.2.2.2.2.2.2.1,()))) (fun y6 =>
    bnd (yfk (y6.2.1.1.1,(y6.2.1.1.2.1,y6.2.1.1.2.2.1),y6.2.2.1,y6.2.1.1.2.2.2.2.1,y6.2.1.1.2.2.2.2.2.1,y6.2.1.1.2.2.2.2.2.2.1,y6.2.1.1.2.2.2.2.2.2.2.1,y6.2.1.1.2.2.2.2.2.2.2.2.1,y6.2.2.2.1,y6.2.1.1.2.2.2.2.2.2.2.2.2.2.1,y6.2.1.1.2.2.2.2.2.2.2.2.2.2.2.1,y6.2.1.1.2.2.2.2.2.2.2.2.2.2.2.2.1)) fun r8 =>
    some ((r8.1.1,()),(r8.2.1,()))) (fun y6 =>
    some ((y6.1.1.1,()),((y6.2.1.1.1,(y6.2.1.1.2.1,y6.2.1.1.2.2.1),y6.2.2.1,y6.2.1.1.2.2.2.2.1,y6.2.1.1.2.2.2.2.2.1,y6.2.1.1.2.2.2.2.2.2.1,y6.2.1.1.2.2.2.2.2.2.2.1,y6.2.1.1.2.2.2.2.2.2.2.2.1,y6.2.2.2.1,y6.2.1.1.2.2.2.2.2.2.2.2.2.2.1,y6.2.1.1.2.2.2.2.2.2.2.2.2.2.2.1,y6.2.1.1.2.2.2.2.2.2.2.2.2.2.2.2.1),())))
theorem yT0 (x:InD ycG):zjH ⟨yoC,37,yAN⟩ Tryz.f172.results.toList yhX ycG yiR x=ykl x.1:=by kernel_rfl
theorem yOV:ConOk Tryz.prog 172 ⟨ycG,yiR,fun x=>ykl x.1⟩:=zkh (yLx) Tryz.func172 (by kernel_rfl) (by kernel_rfl) Tryz.ntmps172.symm (by decide) (fun x r h=>(yT0 x).trans h)
def ypw (a0:dA):Bool×dA:=(!(ye (yhp a0)),yhp a0)
def yjy (a0:dA):Bool:= !(ye a0)
theorem y1l {a:dA} (i:Nat) (h:ye a=true):ya0 a i=a:=yS5 h _ _ _
theorem yRS (a0:dA) (hk:zi9 ycG (a0,())) (hq:yjy a0=true):ykl a0=(fun n=>some ((n.1,()),(n.2,()))) (ypw a0):=by
  have hb:a0.2.2.1.length * 80≤2 ^ 47:=hk.1.2.2.1.1
  have hd0:ye a0=false:=by simpa [yjy] using hq
  have h1:yp7 (yKi a0.2.2.1.length (ypv a0))=some (bif ye ((List.range a0.2.2.1.length).foldl ya0 (ypv a0)) then .inr (yoh false ((List.range a0.2.2.1.length).foldl ya0 (ypv a0))) else .inl (yof ((List.range a0.2.2.1.length).foldl ya0 (ypv a0)))):=by
    have:=zkr (step:=ya3) a0.2.2.1.length (fun i s=>yn8 a0.2.2.1.length i s) (fun i s=>bif ye (ya0 s i) then (.inr (ya0 s i):dA ⊕ dA) else .inl (ya0 s i)) (fun _ s=>s.2.2.1.length=a0.2.2.1.length∧ye s=false) id
      (fun b=>bif ye b then .inr (yoh false b) else .inl (yof b)) (fun i s hi hs=>by
        constructor
        · simp only [ya3,yn8,yom,zjI (show (i:Int) < a0.2.2.1.length by omega),cond_true,wr (show -9223372036854775808≤(i:Int)+1 by omega) (by omega),Int.natCast_add,Int.natCast_one,Int.toNat_natCast,zkV,y1R,yrP]
          rw [ysI s i (s.2.2.2.2.2.2.2.1.tmod 2) (yax (s.1,s.2.2.2.2.2.2.2.1,(i:Int),s.2.1.1,s.2.1.2,s.2.2.2.2.2.2.1,s.2.2.2.1,s.2.2.2.2.1)) (by unfold ycb; rw [zkO (by rw [hs.1]; exact hi),hs.2]; rfl)]
          simp only [zky,yb9]
          rw [show yf4 s i (s.2.2.2.2.2.2.2.1.tmod 2) (yax (s.1,s.2.2.2.2.2.2.2.1,(i:Int),s.2.1.1,s.2.1.2,s.2.2.2.2.2.2.1,s.2.2.2.1,s.2.2.2.2.1))=ya0 s i from rfl]
          cases hd:ye (ya0 s i)
          · rfl
          · simp only [hd,Bool.not_true,Bool.not_false,cond_true,yoh]
        · intro s' h
          cases hd:ye (ya0 s i)
          · rw [hd]at h
            cases h
            exact ⟨(yPZ s i).trans hs.1,hd⟩
          · rw [hd]at h; cases h) (fun s hs=>by simp only [ya3,yn8,yom,hs.2,zkm (Int.le_refl _),cond_false,id,yof]) (ypv a0) ⟨rfl,hd0⟩ 18446744073709551616 (by omega)
    rw [yEy (fun a i h=>y1l i h),← List.range_eq_range'] at this
    exact this
  unfold ykl ypw yhp
  refine (congrArg (fun z=>zjw z _ _) h1).trans ?_
  cases hd:ye ((List.range a0.2.2.1.length).foldl ya0 (ypv a0))
  · simp only [cond_false,zkJ,zkV]
    rw [yuL _ (by unfold yfl; rw [hd]; rfl)]; rfl
  · rw [yZt hd]
    simp only [cond_true,zkK,zkV]
    rw [hd]; rfl
def yjx (a0:dA):Option (ResD yiR×MutD ycG):=bif yjy a0 then (fun n=>some ((n.1,()),(n.2,()))) (ypw a0) else none
theorem yS2 (a0:dA) (h:yjy a0=true):yjx a0=(fun n=>some ((n.1,()),(n.2,()))) (ypw a0):=by unfold yjx; rw [h]; rfl
def yBz:Con:=⟨ycG,yiR,fun x=>yjx x.1⟩
theorem ySJ:ConOk Tryz.prog 172 yBz:=(yOV).mono (fun x r hk h=>zkW h (fun hq=>yRS x.1 hk hq))
end
section
def yCN:Code:=(Tryz.f88.body).getD .skip
def yDo:Env:=zki TT [(168,ykg),(172,yBz)] []
theorem yJ1:FrOk Tryz.prog ⟨yDo,15,fun _=>none⟩ yCN:=zkp yb yc ⟨yuK,ySJ,trivial⟩
def yKS:Nat→Option Seg:=fun _=>none
abbrev ybY:List Par:= [.pt tA (.pr .fz (.pr (.pr .fz .fz) (.pr (.ow (.pr (.ow (.ow .fz)) (.pr (.ow (.pr .fz (.ow .fz))) (.pr .fz (.ow .fz))))) (.pr .fz (.pr .fz (.pr .fz (.pr .fz (.pr .fz (.pr (.ow (.pr .fz (.ow .fz))) (.pr .fz (.pr .fz .fz)))))))))))]
abbrev ygS:List OT:= [⟨false,tB,.fz⟩]
def yjA (a0:dA):Option (ResD ygS×MutD ybY) :=
  bnd (yfk a0) fun r1 =>
  bif (!r1.1.1) then
    some ((false,()),(r1.2.1,()))
  else
    bnd (yjx (r1.2.1.1,r1.2.1.2.1,r1.2.1.2.2.1,r1.2.1.2.2.2.1,r1.2.1.2.2.2.2.1,r1.2.1.2.2.2.2.2.1,r1.2.1.2.2.2.2.2.1,r1.2.1.2.2.2.2.2.2.2)) fun r2 =>
    some ((r2.1.1,()),(r2.2.1,()))
theorem yQr (x:InD ybY):zjH ⟨yDo,15,yKS⟩ Tryz.f88.results.toList yCN ybY ygS x=yjA x.1:=by kernel_rfl
theorem yMF:ConOk Tryz.prog 88 ⟨ybY,ygS,fun x=>yjA x.1⟩:=zkh (yJ1) Tryz.func88 (by kernel_rfl) (by kernel_rfl) Tryz.ntmps88.symm (by decide) (fun x r h=>(yQr x).trans h)
def ymC (a0:dA):Bool×dA:=(!(ye (y9 a0)),y9 a0)
def ymH (a0:dA):Bool:= !(ye a0)
theorem yOM (a0:dA) (hk:zi9 ybY (a0,())) (hq:ymH a0=true):yjA a0=(fun n=>some ((n.1,()),(n.2,()))) (ymC a0):=by
  unfold yjA ymC y9
  rw [yuL a0 hq]
  simp only [zky,yjk]
  cases hd:ye (yN a0)
  · have hm:yjx (ytj (yN a0))=some ((!(ye (yhp (ytj (yN a0)))),()),(yhp (ytj (yN a0)),())):=yS2 (ytj (yN a0)) (by unfold yjy; rw [show ye (ytj (yN a0))=ye (yN a0) from rfl,hd]; rfl)
    exact (congrArg (fun z=>bnd z _) hm).trans rfl
  · simp only [Bool.not_true,Bool.not_false,cond_true]
    rw [hd]; rfl
def ymE (a0:dA):Option (ResD ygS×MutD ybY):=bif ymH a0 then (fun n=>some ((n.1,()),(n.2,()))) (ymC a0) else none
theorem yPs (a0:dA) (h:ymH a0=true):ymE a0=(fun n=>some ((n.1,()),(n.2,()))) (ymC a0):=by unfold ymE; rw [h]; rfl
def yzk:Con:=⟨ybY,ygS,fun x=>ymE x.1⟩
theorem yPl:ConOk Tryz.prog 88 yzk:=(yMF).mono (fun x r hk h=>zkW h (fun hq=>yOM x.1 hk hq))
end
section
def yna:Code:=(Tryz.f26.body).getD .skip
def ytk:Env:=zki TT [(76,yDL),(84,yBF),(85,yDJ),(86,yxl),(87,yzl),(88,yzk)] []
theorem yQG:FrOk Tryz.prog ⟨ytk,50,fun _=>none⟩ yna:=zkp yb yc ⟨yWh,ySP,yWf,yMP,yPm,yPl,trivial⟩
def yFp:Nat→Option Seg:=fun _=>none
def yb1:Shape:=⟨[(2,false,[.ptr 64 0]),(3,false,[.ptr 4224 0]),(16,false,[.int .i64])],[(64,[.int .i64,.int .i64,.int .i64,.nil,.int .i64,.int .i64,.int .i64,.int .i64,.int .i64,.nil,.int .i64,.bool,.bool]),(4224,[.int .i64,.int .i64,.int .i64,.at 800000000,.int .i64,.int .i64,.int .i64,.int .i64,.int .i64,.at 800000001,.int .i64,.bool,.bool])],[(800000000,tM,(.pr (.ow (.ow .fz)) (.pr (.ow (.pr .fz (.ow .fz))) (.pr .fz (.ow .fz))))),(800000001,tW,(.pr .fz (.ow .fz)))]⟩
def ygK:Shape:=⟨[(2,false,[.ptr 64 0]),(3,false,[.ptr 4224 0]),(16,false,[.ci .i64 0])],[(64,[.int .i64,.int .i64,.int .i64,.nil,.int .i64,.int .i64,.int .i64,.int .i64,.int .i64,.nil,.int .i64,.bool,.bool]),(4224,[.int .i64,.int .i64,.int .i64,.at 800000000,.int .i64,.int .i64,.int .i64,.int .i64,.int .i64,.at 800000001,.int .i64,.bool,.bool])],[(800000000,tM,(.pr (.ow (.ow .fz)) (.pr (.ow (.pr .fz (.ow .fz))) (.pr .fz (.ow .fz))))),(800000001,tW,(.pr .fz (.ow .fz)))]⟩
def ygC:Shape:=⟨[(2,false,[.ptr 64 0]),(3,false,[.ptr 4224 0])],[(64,[.int .i64,.int .i64,.int .i64,.nil,.int .i64,.int .i64,.int .i64,.int .i64,.int .i64,.nil,.int .i64,.bool,.bool]),(4224,[.int .i64,.int .i64,.int .i64,.at 800000000,.int .i64,.int .i64,.int .i64,.int .i64,.int .i64,.at 800000001,.int .i64,.bool,.bool])],[(800000000,tM,(.pr (.ow (.ow .fz)) (.pr (.ow (.pr .fz (.ow .fz))) (.pr .fz (.ow .fz))))),(800000001,tW,(.pr .fz (.ow .fz)))]⟩
def ygV:Shape:=⟨[(2,false,[.ptr 64 0])],[(64,[.int .i64,.int .i64,.int .i64,.at 800000000,.int .i64,.int .i64,.int .i64,.int .i64,.int .i64,.at 800000001,.int .i64,.bool,.bool])],[(800000000,tM,(.pr (.ow (.ow .fz)) (.pr (.ow (.pr .fz (.ow .fz))) (.pr .fz (.ow .fz))))),(800000001,tW,(.pr .fz (.ow .fz)))]⟩
abbrev ysx (v0:Int) (v1:dA) (v2:dA):(yb1).X:=((((),()),((),()),(v0,()),()),((v1.1,v1.2.1.1,v1.2.1.2,(),v1.2.2.2.1,v1.2.2.2.2.1,v1.2.2.2.2.2.1,v1.2.2.2.2.2.2.1,v1.2.2.2.2.2.2.2.1,(),v1.2.2.2.2.2.2.2.2.2.1,v1.2.2.2.2.2.2.2.2.2.2.1,v1.2.2.2.2.2.2.2.2.2.2.2,()),(v2.1,v2.2.1.1,v2.2.1.2,(),v2.2.2.2.1,v2.2.2.2.2.1,v2.2.2.2.2.2.1,v2.2.2.2.2.2.2.1,v2.2.2.2.2.2.2.2.1,(),v2.2.2.2.2.2.2.2.2.2.1,v2.2.2.2.2.2.2.2.2.2.2.1,v2.2.2.2.2.2.2.2.2.2.2.2,()),()),(v2.2.2.1,v2.2.2.2.2.2.2.2.2.1,()))
abbrev yOC (v0:dA) (v1:dA):(ygK).X:=((((),()),((),()),((),()),()),((v0.1,v0.2.1.1,v0.2.1.2,(),v0.2.2.2.1,v0.2.2.2.2.1,v0.2.2.2.2.2.1,v0.2.2.2.2.2.2.1,v0.2.2.2.2.2.2.2.1,(),v0.2.2.2.2.2.2.2.2.2.1,v0.2.2.2.2.2.2.2.2.2.2.1,v0.2.2.2.2.2.2.2.2.2.2.2,()),(v1.1,v1.2.1.1,v1.2.1.2,(),v1.2.2.2.1,v1.2.2.2.2.1,v1.2.2.2.2.2.1,v1.2.2.2.2.2.2.1,v1.2.2.2.2.2.2.2.1,(),v1.2.2.2.2.2.2.2.2.2.1,v1.2.2.2.2.2.2.2.2.2.2.1,v1.2.2.2.2.2.2.2.2.2.2.2,()),()),(v1.2.2.1,v1.2.2.2.2.2.2.2.2.1,()))
abbrev yOx (v0:dA) (v1:dA):(ygC).X:=((((),()),((),()),()),((v0.1,v0.2.1.1,v0.2.1.2,(),v0.2.2.2.1,v0.2.2.2.2.1,v0.2.2.2.2.2.1,v0.2.2.2.2.2.2.1,v0.2.2.2.2.2.2.2.1,(),v0.2.2.2.2.2.2.2.2.2.1,v0.2.2.2.2.2.2.2.2.2.2.1,v0.2.2.2.2.2.2.2.2.2.2.2,()),(v1.1,v1.2.1.1,v1.2.1.2,(),v1.2.2.2.1,v1.2.2.2.2.1,v1.2.2.2.2.2.1,v1.2.2.2.2.2.2.1,v1.2.2.2.2.2.2.2.1,(),v1.2.2.2.2.2.2.2.2.2.1,v1.2.2.2.2.2.2.2.2.2.2.1,v1.2.2.2.2.2.2.2.2.2.2.2,()),()),(v1.2.2.1,v1.2.2.2.2.2.2.2.2.1,()))
abbrev ysF (v0:dA):(ygV).X:=((((),()),()),((v0.1,v0.2.1.1,v0.2.1.2,(),v0.2.2.2.1,v0.2.2.2.2.1,v0.2.2.2.2.2.1,v0.2.2.2.2.2.2.1,v0.2.2.2.2.2.2.2.1,(),v0.2.2.2.2.2.2.2.2.2.1,v0.2.2.2.2.2.2.2.2.2.2.1,v0.2.2.2.2.2.2.2.2.2.2.2,()),()),(v0.2.2.1,v0.2.2.2.2.2.2.2.2.1,()))
def ysN (v0:Int) (v1:Int) (v2:Int) (v3:Int) (v4:Int) (v5:Int) (v6:Int) (v7:Int) (v8:Int) (v9:Int) (v10:Bool) (v11:Bool) (v12:Int) (v13:Int) (v14:Int) (v15:Int) (v16:Int) (v17:Int) (v18:Int) (v19:Int) (v20:Int) (v21:Bool) (v22:Bool) (v23:List dM) (v24:List dW):Option ((yb1).X ⊕ ((ygC).X ⊕ (ygV).X)) :=
  bif (ltb v0 4) then
    bnd (yrQ (v12,(v13,v14),v23,v15,v16,v17,v18,v19,v24,v20,v21,v22) v17) fun r6 =>
    bif (!(!r6.1.2.1)) then
      bif (leb 60000 v17) then
        some (.inr (.inl ((((),()),((),()),()),((v1,v2,v3,(),v4,v5,v6,v7,v8,(),v9,v10,v11,()),(v12,v13,v14,(),v15,v16,v17,v18,v19,(),v20,v21,v22,()),()),(v23,v24,()))))
      else
        bnd (yf0 (v12,(v13,v14),v23,v15,v16,v17,v18,v19,v24,v20,v21,v22) r6.1.1) fun r7 =>
        bif (!r7.1.1) then
          some (.inr (.inr ((((),()),()),((r7.2.1.1,r7.2.1.2.1.1,r7.2.1.2.1.2,(),r7.2.1.2.2.2.1,r7.2.1.2.2.2.2.1,r7.2.1.2.2.2.2.2.1,r7.2.1.2.2.2.2.2.2.1,r7.2.1.2.2.2.2.2.2.2.1,(),r7.2.1.2.2.2.2.2.2.2.2.2.1,r7.2.1.2.2.2.2.2.2.2.2.2.2.1,r7.2.1.2.2.2.2.2.2.2.2.2.2.2,()),()),(r7.2.1.2.2.1,r7.2.1.2.2.2.2.2.2.2.2.1,()))))
        else
          bnd (yg9 (r7.2.1.1,r7.2.1.2.1,r7.2.1.2.2.1,r7.2.1.2.2.2.1,r7.2.1.2.2.2.2.1,(IntKind.i64.wrap (r7.2.1.2.2.2.2.2.1+1)),r7.2.1.2.2.2.2.2.2) r6.1.1.2.1 r6.1.1.2.2) fun r8 =>
          bif (!r8.1.1) then
            some (.inr (.inr ((((),()),()),((r8.2.1.1,r8.2.1.2.1.1,r8.2.1.2.1.2,(),r8.2.1.2.2.2.1,r8.2.1.2.2.2.2.1,r8.2.1.2.2.2.2.2.1,r8.2.1.2.2.2.2.2.2.1,r8.2.1.2.2.2.2.2.2.2.1,(),r8.2.1.2.2.2.2.2.2.2.2.2.1,r8.2.1.2.2.2.2.2.2.2.2.2.2.1,r8.2.1.2.2.2.2.2.2.2.2.2.2.2,()),()),(r8.2.1.2.2.1,r8.2.1.2.2.2.2.2.2.2.2.1,()))))
          else
            some (.inl ((((),()),((),()),((IntKind.i64.wrap (v0+1)),()),()),((v1,v2,v3,(),v4,v5,v6,v7,v8,(),v9,v10,v11,()),(r8.2.1.1,r8.2.1.2.1.1,r8.2.1.2.1.2,(),r8.2.1.2.2.2.1,r8.2.1.2.2.2.2.1,r8.2.1.2.2.2.2.2.1,r8.2.1.2.2.2.2.2.2.1,r8.2.1.2.2.2.2.2.2.2.1,(),r8.2.1.2.2.2.2.2.2.2.2.2.1,r8.2.1.2.2.2.2.2.2.2.2.2.2.1,r8.2.1.2.2.2.2.2.2.2.2.2.2.2,()),()),(r8.2.1.2.2.1,r8.2.1.2.2.2.2.2.2.2.2.1,())))
    else
      some (.inr (.inl ((((),()),((),()),()),((v1,v2,v3,(),v4,v5,v6,v7,v8,(),v9,v10,v11,()),(v12,v13,v14,(),v15,v16,v17,v18,v19,(),v20,v21,v22,()),()),(v23,v24,()))))
  else
    some (.inr (.inl ((((),()),((),()),()),((v1,v2,v3,(),v4,v5,v6,v7,v8,(),v9,v10,v11,()),(v12,v13,v14,(),v15,v16,v17,v18,v19,(),v20,v21,v22,()),()),(v23,v24,()))))
def ycr (x:(yb1).X):=ysN x.1.2.2.1.1 x.2.1.1.1 x.2.1.1.2.1 x.2.1.1.2.2.1 x.2.1.1.2.2.2.2.1 x.2.1.1.2.2.2.2.2.1 x.2.1.1.2.2.2.2.2.2.1 x.2.1.1.2.2.2.2.2.2.2.1 x.2.1.1.2.2.2.2.2.2.2.2.1 x.2.1.1.2.2.2.2.2.2.2.2.2.2.1 x.2.1.1.2.2.2.2.2.2.2.2.2.2.2.1 x.2.1.1.2.2.2.2.2.2.2.2.2.2.2.2.1 x.2.1.2.1.1 x.2.1.2.1.2.1 x.2.1.2.1.2.2.1 x.2.1.2.1.2.2.2.2.1 x.2.1.2.1.2.2.2.2.2.1 x.2.1.2.1.2.2.2.2.2.2.1 x.2.1.2.1.2.2.2.2.2.2.2.1 x.2.1.2.1.2.2.2.2.2.2.2.2.1 x.2.1.2.1.2.2.2.2.2.2.2.2.2.2.1 x.2.1.2.1.2.2.2.2.2.2.2.2.2.2.2.1 x.2.1.2.1.2.2.2.2.2.2.2.2.2.2.2.2.1 x.2.2.1 x.2.2.2.1
def yBS (x:(ygK).X):(yb1).X:=((((),()),((),()),(0,()),()),((x.2.1.1.1,x.2.1.1.2.1,x.2.1.1.2.2.1,(),x.2.1.1.2.2.2.2.1,x.2.1.1.2.2.2.2.2.1,x.2.1.1.2.2.2.2.2.2.1,x.2.1.1.2.2.2.2.2.2.2.1,x.2.1.1.2.2.2.2.2.2.2.2.1,(),x.2.1.1.2.2.2.2.2.2.2.2.2.2.1,x.2.1.1.2.2.2.2.2.2.2.2.2.2.2.1,x.2.1.1.2.2.2.2.2.2.2.2.2.2.2.2.1,()),(x.2.1.2.1.1,x.2.1.2.1.2.1,x.2.1.2.1.2.2.1,(),x.2.1.2.1.2.2.2.2.1,x.2.1.2.1.2.2.2.2.2.1,x.2.1.2.1.2.2.2.2.2.2.1,x.2.1.2.1.2.2.2.2.2.2.2.1,x.2.1.2.1.2.2.2.2.2.2.2.2.1,(),x.2.1.2.1.2.2.2.2.2.2.2.2.2.2.1,x.2.1.2.1.2.2.2.2.2.2.2.2.2.2.2.1,x.2.1.2.1.2.2.2.2.2.2.2.2.2.2.2.2.1,()),()),(x.2.2.1,x.2.2.2.1,()))
def yDt:Code:=(zdI yna 64 244).getD .skip
theorem yQb:zdI yna 64 61=some (.block 0 (.loop yDt)):=by kernel_rfl
theorem yS6 (x:(yb1).X):zg7 ⟨ytk,50,yFp⟩ 0 yDt 244 yb1 ygC ygV x=ycr x:=by kernel_rfl
def yB6 (x:(ygK).X):Nat:=(fun (u0:Int) (u1:Int) (u2:Int) (u3:Int) (u4:Int) (u5:Int) (u6:Int) (u7:Int) (u8:Int) (u9:Bool) (u10:Bool) (u11:Int) (u12:Int) (u13:Int) (u14:Int) (u15:Int) (u16:Int) (u17:Int) (u18:Int) (u19:Int) (u20:Bool) (u21:Bool) (u22:List dM) (u23:List dW)=>18446744073709551616) x.2.1.1.1 x.2.1.1.2.1 x.2.1.1.2.2.1 x.2.1.1.2.2.2.2.1 x.2.1.1.2.2.2.2.2.1 x.2.1.1.2.2.2.2.2.2.1 x.2.1.1.2.2.2.2.2.2.2.1 x.2.1.1.2.2.2.2.2.2.2.2.1 x.2.1.1.2.2.2.2.2.2.2.2.2.2.1 x.2.1.1.2.2.2.2.2.2.2.2.2.2.2.1 x.2.1.1.2.2.2.2.2.2.2.2.2.2.2.2.1 x.2.1.2.1.1 x.2.1.2.1.2.1 x.2.1.2.1.2.2.1 x.2.1.2.1.2.2.2.2.1 x.2.1.2.1.2.2.2.2.2.1 x.2.1.2.1.2.2.2.2.2.2.1 x.2.1.2.1.2.2.2.2.2.2.2.1 x.2.1.2.1.2.2.2.2.2.2.2.2.1 x.2.1.2.1.2.2.2.2.2.2.2.2.2.2.1 x.2.1.2.1.2.2.2.2.2.2.2.2.2.2.2.1 x.2.1.2.1.2.2.2.2.2.2.2.2.2.2.2.2.1 x.2.2.1 x.2.2.2.1
def yuc (x:(ygK).X):Option ((ygC).X ⊕ (ygV).X):=zr ycr (yB6 x) (yBS x)
def yCn:Seg:=⟨ygK,ygC,ygV,yuc⟩
def yFq:Nat→Option Seg:=fun q=>bif Nat.beq q 61 then some yCn else yFp q
theorem yQH:FrOk Tryz.prog ⟨ytk,50,yFq⟩ yna:=(yQG).loop (sg:=yCn) yb1 yBS (by decide) yQb ycr yB6 (by decide) (fun _=>rfl) (fun x r _ h=>h) yS6
abbrev yhz:List Par:= [.rd tA]
abbrev ytC:List OT:= [⟨false,tA,(.pr .fz (.pr (.pr .fz .fz) (.pr (.ow (.pr (.ow (.ow .fz)) (.pr (.ow (.pr .fz (.ow .fz))) (.pr .fz (.ow .fz))))) (.pr .fz (.pr .fz (.pr .fz (.pr .fz (.pr .fz (.pr (.ow (.pr .fz (.ow .fz))) (.pr .fz (.pr .fz .fz)))))))))))⟩]
def ypD (a0:dA):Option (ResD ytC×MutD yhz) :=
  let r1:=ylB a0
  let r2:=yc4 a0
  bif (!(!r2)) then
    bif a0.2.2.2.2.2.2.2.2.2.2.2 then
      some ((r1,()),())
    else
      zjw (yuc ((((),()),((),()),((),()),()),((0,0,0,(),0,0,0,0,0,(),0,false,false,()),(r1.1,r1.2.1.1,r1.2.1.2,(),r1.2.2.2.1,r1.2.2.2.2.1,r1.2.2.2.2.2.1,r1.2.2.2.2.2.2.1,r1.2.2.2.2.2.2.2.1,(),r1.2.2.2.2.2.2.2.2.2.1,r1.2.2.2.2.2.2.2.2.2.2.1,r1.2.2.2.2.2.2.2.2.2.2.2,()),()),(r1.2.2.1,r1.2.2.2.2.2.2.2.2.1,()))) (fun y8 =>
        bnd (ymE (y8.2.1.2.1.1,(y8.2.1.2.1.2.1,y8.2.1.2.1.2.2.1),y8.2.2.1,y8.2.1.2.1.2.2.2.2.1,y8.2.1.2.1.2.2.2.2.2.1,y8.2.1.2.1.2.2.2.2.2.2.1,y8.2.1.2.1.2.2.2.2.2.2.2.1,y8.2.1.2.1.2.2.2.2.2.2.2.2.1,y8.2.2.2.1,y8.2.1.2.1.2.2.2.2.2.2.2.2.2.2.1,y8.2.1.2.1.2.2.2.2.2.2.2.2.2.2.2.1,y8.2.1.2.1.2.2.2.2.2.2.2.2.2.2.2.2.1)) fun r10 =>
        some ((r10.2.1,()),())) (fun y8 =>
        some (((y8.2.1.1.1,(y8.2.1.1.2.1,y8.2.1.1.2.2.1),y8.2.2.1,y8.2.1.1.2.2.2.2.1,y8.2.1.1.2.2.2.2.2.1,y8.2.1.1.2.2.2.2.2.2.1,y8.2.1.1.2.2.2.2.2.2.2.1,y8.2.1.1.2.2.2.2.2.2.2.2.1,y8.2.2.2.1,y8.2.1.1.2.2.2.2.2.2.2.2.2.2.1,y8.2.1.1.2.2.2.2.2.2.2.2.2.2.2.1,y8.2.1.1.2.2.2.2.2.2.2.2.2.2.2.2.1),()),()))
  else
    some ((r1,()),())
theorem yZF (x:InD yhz):zjH ⟨ytk,50,yFq⟩ Tryz.f26.results.toList yna yhz ytC x=ypD x.1:=by kernel_rfl
theorem yVK:ConOk Tryz.prog 26 ⟨yhz,ytC,fun x=>ypD x.1⟩:=zkh (yQH) Tryz.func26 (by kernel_rfl) (by kernel_rfl) Tryz.ntmps26.symm (by decide) (fun x r h=>(yZF x).trans h)
def yhR (a0:dA):dA:=yth a0
theorem y2N {α:Type} {c:Bool} (h:c=false) {x y:α}:(bif c then x else y)=y:=by subst h; rfl
theorem yW9 {α:Type} {c:Bool} (h:c=true) {x y:α}:(bif c then x else y)=x:=by subst h; rfl
theorem yXW (a0:dA) (hk:zi9 yhz (a0,())):ypD a0=(fun n=>some ((n,()),())) (yhR a0):=by
  unfold ypD yhR
  simp only [ylB]
  cases hm:(yaJ a0&&(!(ye a0)&&(!a0.2.2.2.2.2.2.2.2.2.2.2&&ltb a0.2.2.2.2.2.2.2.1 60000)))
  · have hr:yth a0=a0:=by unfold yth; rw [hm]; rfl
    rw [hr]
    cases hmk:yc4 a0
    · rfl
    · have:a0.2.2.2.2.2.2.2.2.2.2.2=true:=by
        unfold yc4 at hmk
        simp only [yc2]at hmk
        unfold ye at hm
        revert hm hmk
        cases yaJ a0<;>cases a0.2.2.2.2.2.2.2.2.2.2.1<;>cases ltb a0.2.2.2.2.2.2.2.1 60000<;>cases a0.2.2.2.2.2.2.2.2.2.2.2<;>decide
      rw [yW9 (by rfl),yW9 this]
  · have hr:yth a0=yNa a0:=by unfold yth; rw [hm]; rfl
    rw [hr]
    simp only [Bool.and_eq_true,Bool.not_eq_true'] at hm
    obtain ⟨ha,hdn,hbr,hlt⟩:=hm
    have hmk:yc4 a0=true:=by
      unfold yc4
      simp only [yc2,ha,show a0.2.2.2.2.2.2.2.2.2.2.1=false from hdn,hlt]; rfl
    rw [hmk,yW9 (by rfl),y2N hbr]
    have hgo:yg a0.2.1=true:=yLn ha
    have hle:=yLo ha
    have h1:=zkr (step:=ycr) 4 (fun i s=>ysx i ya2 s) yuU (fun _ s=>s.2.1=a0.2.1∧s.2.2.1.length=a0.2.2.1.length∧ye s=false) .inl
      (fun b=>match b with | .inl x=> .inl (yOx ya2 x) | .inr x=> .inr (ysF x)) (fun i s hi hs=>by
        constructor
        · simp only [ycr,ysx,ysN,zjI (show (i:Int) < 4 by omega),cond_true,wr (show -9223372036854775808≤(i:Int)+1 by omega) (by omega),Int.natCast_add,Int.natCast_one,Int.toNat_natCast,zkV]
          rw [yWx s s.2.2.2.2.2.1 (by unfold yrV; rw [hs.1]; exact hgo)]
          simp only [zky,yly]
          unfold yuU
          cases hf:(yA s s.2.2.2.2.2.1).2
          · rfl
          · cases leb 60000 s.2.2.2.2.2.1
            · have ho:=y11 (a:=s) (q:=s.2.2.2.2.2.1) (by rw [hs.1]; exact hgo) hf
              have hr:yf0 s (yA s s.2.2.2.2.2.1).1=some ((!(ye (yf6 s)),()),(yf6 s,())):=yMT _ _ (by unfold yf1; rw [hs.2.2]; rfl)
              have hd:ye (yf6 s)=false→yg9 (yua (yf6 s)) (yA s s.2.2.2.2.2.1).1.2.1 (yA s s.2.2.2.2.2.1).1.2.2=some ((!(ye (yqM s)),()),(yqM s,())):=fun hd1=>yPt _ _ _ (by
                  unfold yhc
                  simp only [Bool.and_eq_true,beq_iff_eq,Bool.not_eq_true']
                  rw [show (yua (yf6 s)).2.1=s.2.1 from yTk s]
                  exact ⟨hd1,ho.1,ho.2,by rw [show (yua (yf6 s)).2.2.1.length=s.2.2.1.length from yZf s _,hs.2.1,hle,hs.1]⟩)
              rw [hr]
              generalize yqM s=R2 at hd ⊢
              generalize yf6 s=R1 at hd ⊢
              generalize yA s s.2.2.2.2.2.1=F at hd ⊢
              unfold yua at hd
              simp only [Bool.not_true,Bool.not_false,cond_true,cond_false,Bool.or_self,zky]
              cases hd1:ye R1
              · simp only [Bool.not_true,Bool.not_false,cond_true,cond_false,hd hd1,zky]
                cases hd2:ye R2
                · rfl
                · simp only [hd2,Bool.not_true,Bool.not_false,cond_true,ysF]
              · simp only [hd1,Bool.not_true,Bool.not_false,cond_true,ysF]
            · rfl
        · intro s' h
          unfold yuU at h
          cases hc:(!(yA s s.2.2.2.2.2.1).2||leb 60000 s.2.2.2.2.2.1)
          · rw [hc]at h
            cases hd1:ye (yf6 s)
            · rw [hd1]at h
              cases hd2:ye (yqM s)
              · rw [hd2]at h
                simp only [cond_false,Sum.inl.injEq]at h
                subst h
                exact ⟨(y1B s).trans hs.1,(y1C s).trans hs.2.1,hd2⟩
              · rw [hd2]at h; cases h
            · rw [hd1]at h; cases h
          · rw [hc]at h; cases h) (fun s hs=>by simp only [ycr,ysx,ysN]; rfl) a0 ⟨rfl,rfl,hdn⟩ 18446744073709551616 (by omega)
    have hdo: ∀ b,goE yuU .inl 4 0 a0= .inl b→ye b=false:=fun b hb=>y1D 4 0 a0 b hdn hb
    refine (congrArg (fun z=>zjw z _ _) (show yuc (yOC ya2 a0)=_ from h1)).trans ?_
    unfold yNa
    cases hg:goE yuU .inl 4 0 a0 with
    | inl b =>
      simp only [zkJ,zkV]
      rw [yPs b (by unfold ymH; rw [hdo b hg]; rfl)]; rfl
    | inr b=>rfl
def yGp:Con:=⟨yhz,ytC,fun x=>(fun n=>some ((n,()),())) (yhR x.1)⟩
theorem yYS:ConOk Tryz.prog 26 yGp:=(yVK).mono (fun x r hk h=>(yXW x.1 hk).trans h)
end
section
def yFd:Code:=(Tryz.f261.body).getD .skip
def yFR:Env:=zki TT [(258,yus)] []
theorem yLF:FrOk Tryz.prog ⟨yFR,46,fun _=>none⟩ yFd:=zkp yb yc ⟨yGS,trivial⟩
def yNg:Nat→Option Seg:=fun _=>none
abbrev yeS:List Par:= [.rd tL]
abbrev yoX:List OT:= [⟨false,tS,(.pr .fz (.pr .fz (.pr .fz (.pr .fz (.pr .fz (.pr .fz (.pr .fz .fz)))))))⟩,⟨false,tB,.fz⟩]
def ykp (a0:List Int):Option (ResD yoX×MutD yeS) :=
  bif (!((a0.length:Int) !=9)) then
    bif (inb 0 a0.length) then
      bif ((nth a0 0 0) !=21317) then
        some (((0,0,0,0,0,0,0,0),false,()),())
      else
        bif (inb 1 a0.length) then
          bif (inb 2 a0.length) then
            bif (inb 3 a0.length) then
              bif (inb 4 a0.length) then
                bif (inb 5 a0.length) then
                  bif (inb 6 a0.length) then
                    bif (inb 7 a0.length) then
                      bif (inb 8 a0.length) then
                        let r1:=yee ((nth a0 1 0),(nth a0 2 0),(nth a0 3 0),(nth a0 4 0),(nth a0 5 0),(nth a0 6 0),(IntKind.i64.wrap ((nth a0 7 0) - 1)),(nth a0 8 0))
                        bif (!r1) then
                          some (((0,0,0,0,0,0,0,0),false,()),())
                        else
                          some ((((nth a0 1 0),(nth a0 2 0),(nth a0 3 0),(nth a0 4 0),(nth a0 5 0),(nth a0 6 0),(IntKind.i64.wrap ((nth a0 7 0) - 1)),(nth a0 8 0)),true,()),())
                      else none
                    else none
                  else none
                else none
              else none
            else none
          else none
        else none
    else none
  else
    some (((0,0,0,0,0,0,0,0),false,()),())
theorem yT4 (x:InD yeS):zjH ⟨yFR,46,yNg⟩ Tryz.f261.results.toList yFd yeS yoX x=ykp x.1:=by kernel_rfl
theorem yOZ:ConOk Tryz.prog 261 ⟨yeS,yoX,fun x=>ykp x.1⟩:=zkh (yLF) Tryz.func261 (by kernel_rfl) (by kernel_rfl) Tryz.ntmps261.symm (by decide) (fun x r h=>(yT4 x).trans h)
def yjn (a0:List Int):dS×Bool:=yc1 a0
theorem yRW (a0:List Int) (hk:zi9 yeS (a0,())):ykp a0=(fun n=>some ((n.1,n.2,()),())) (yjn a0):=by
  unfold ykp yjn yc1
  by_cases h:(a0.length:Int)=9
  · simp only [bne,h,yJJ,beq_self_eq_true,zjP.2 (show (0:Int)≤0∧(0:Int) < a0.length by omega),zjP.2 (show (0:Int)≤1∧(1:Int) < a0.length by omega),zjP.2 (show (0:Int)≤2∧(2:Int) < a0.length by omega),zjP.2 (show (0:Int)≤3∧(3:Int) < a0.length by omega),zjP.2 (show (0:Int)≤4∧(4:Int) < a0.length by omega),zjP.2 (show (0:Int)≤5∧(5:Int) < a0.length by omega),zjP.2 (show (0:Int)≤6∧(6:Int) < a0.length by omega),zjP.2 (show (0:Int)≤7∧(7:Int) < a0.length by omega),zjP.2 (show (0:Int)≤8∧(8:Int) < a0.length by omega)]
    rw [show yr (nth a0 1 0,nth a0 2 0,nth a0 3 0,nth a0 4 0,nth a0 5 0,nth a0 6 0,IntKind.i64.wrap (nth a0 7 0 - 1),nth a0 8 0)=yr (yCM a0) from rfl]
    cases (nth a0 0 0==21317)<;>cases yr (yCM a0)<;>rfl
  · rw [show ((a0.length:Int) !=9)=true from bne_iff_ne.2 h,show ((a0.length:Int)==9)=false from beq_eq_false_iff_ne.2 h]; rfl
def yBC:Con:=⟨yeS,yoX,fun x=>(fun n=>some ((n.1,n.2,()),())) (yjn x.1)⟩
theorem ySM:ConOk Tryz.prog 261 yBC:=(yOZ).mono (fun x r hk h=>(yRW x.1 hk).trans h)
end
section
def ygv:Code:=(Tryz.f239.body).getD .skip
def ylT:Env:=zki TT [(164,yur),(261,yBC)] []
theorem yJ6:FrOk Tryz.prog ⟨ylT,60,fun _=>none⟩ ygv:=zkp yb yc ⟨yGR,ySM,trivial⟩
def yyW:Nat→Option Seg:=fun _=>none
def yap:Shape:=⟨[(1,false,[.int .i64]),(2,false,[.ptr 0 0]),(4,false,[.ptr 64 0]),(6,false,[.ptr 4160 0]),(7,false,[.bool]),(14,false,[.int .i64])],[(0,[.br tL,.br tW,.bool,.br tI]),(64,[.int .i64,.int .i64,.int .i64,.int .i64,.int .i64,.int .i64,.int .i64,.int .i64]),(4160,[.int .i64,.int .i64,.int .i64,.int .i64,.int .i64,.int .i64,.int .i64,.int .i64])],[]⟩
def ydO:Shape:=⟨[(1,false,[.int .i64]),(2,false,[.ptr 0 0]),(4,false,[.ptr 64 0]),(6,false,[.ptr 4160 0]),(7,false,[.cb false]),(14,false,[.ci .i64 0])],[(0,[.br tL,.br tW,.bool,.br tI]),(64,[.int .i64,.int .i64,.int .i64,.int .i64,.int .i64,.int .i64,.int .i64,.int .i64]),(4160,[.int .i64,.int .i64,.int .i64,.int .i64,.int .i64,.int .i64,.int .i64,.int .i64])],[]⟩
def ydI:Shape:=⟨[(4,false,[.ptr 64 0]),(6,false,[.ptr 4160 0]),(7,false,[.bool])],[(64,[.int .i64,.int .i64,.int .i64,.int .i64,.int .i64,.int .i64,.int .i64,.int .i64]),(4160,[.int .i64,.int .i64,.int .i64,.int .i64,.int .i64,.int .i64,.int .i64,.int .i64])],[]⟩
def yhj:Shape:=⟨[],[],[]⟩
abbrev ymy (v0:Int) (v1:Bool) (v2:Int) (v3:dM) (v4:dS) (v5:dS):(yap).X:=(((v0,()),((),()),((),()),((),()),(v1,()),(v2,()),()),((v3.1,v3.2.1,v3.2.2.1,v3.2.2.2,()),(v4.1,v4.2.1,v4.2.2.1,v4.2.2.2.1,v4.2.2.2.2.1,v4.2.2.2.2.2.1,v4.2.2.2.2.2.2.1,v4.2.2.2.2.2.2.2,()),(v5.1,v5.2.1,v5.2.2.1,v5.2.2.2.1,v5.2.2.2.2.1,v5.2.2.2.2.2.1,v5.2.2.2.2.2.2.1,v5.2.2.2.2.2.2.2,()),()),())
abbrev yIH (v0:Int) (v1:dM) (v2:dS) (v3:dS):(ydO).X:=(((v0,()),((),()),((),()),((),()),((),()),((),()),()),((v1.1,v1.2.1,v1.2.2.1,v1.2.2.2,()),(v2.1,v2.2.1,v2.2.2.1,v2.2.2.2.1,v2.2.2.2.2.1,v2.2.2.2.2.2.1,v2.2.2.2.2.2.2.1,v2.2.2.2.2.2.2.2,()),(v3.1,v3.2.1,v3.2.2.1,v3.2.2.2.1,v3.2.2.2.2.1,v3.2.2.2.2.2.1,v3.2.2.2.2.2.2.1,v3.2.2.2.2.2.2.2,()),()),())
abbrev yIC (v0:Bool) (v1:dS) (v2:dS):(ydI).X:=((((),()),((),()),(v0,()),()),((v1.1,v1.2.1,v1.2.2.1,v1.2.2.2.1,v1.2.2.2.2.1,v1.2.2.2.2.2.1,v1.2.2.2.2.2.2.1,v1.2.2.2.2.2.2.2,()),(v2.1,v2.2.1,v2.2.2.1,v2.2.2.2.1,v2.2.2.2.2.1,v2.2.2.2.2.2.1,v2.2.2.2.2.2.2.1,v2.2.2.2.2.2.2.2,()),()),())
def ym4 (v0:Int) (v1:Bool) (v2:Int) (v3:List (List Int)) (v4:List dW) (v5:Bool) (v6:List Int) (v7:Int) (v8:Int) (v9:Int) (v10:Int) (v11:Int) (v12:Int) (v13:Int) (v14:Int) (v15:Int) (v16:Int) (v17:Int) (v18:Int) (v19:Int) (v20:Int) (v21:Int) (v22:Int):Option ((yap).X ⊕ ((ydI).X ⊕ (yhj).X)) :=
  bif (ltb v2 2) then
    let r3:=yed (v3,v4,v5,v6) v2
    let r4:=yjn r3.1
    bif r3.2 then
      bif r4.2 then
        bif (r4.1.1==v0) then
          bif ((r4.1.2.1.tmod 2)==v2) then
            bif (!(!v1)) then
              bif (ltb v16 r4.1.2.1) then
                some (.inl (((v0,()),((),()),((),()),((),()),(true,()),((IntKind.i64.wrap (v2+1)),()),()),((v3,v4,v5,v6,()),(v7,v8,v9,v10,v11,v12,v13,v14,()),(r4.1.1,r4.1.2.1,r4.1.2.2.1,r4.1.2.2.2.1,r4.1.2.2.2.2.1,r4.1.2.2.2.2.2.1,r4.1.2.2.2.2.2.2.1,r4.1.2.2.2.2.2.2.2,()),()),()))
              else
                some (.inl (((v0,()),((),()),((),()),((),()),(v1,()),((IntKind.i64.wrap (v2+1)),()),()),((v3,v4,v5,v6,()),(v7,v8,v9,v10,v11,v12,v13,v14,()),(v15,v16,v17,v18,v19,v20,v21,v22,()),()),()))
            else
              some (.inl (((v0,()),((),()),((),()),((),()),(true,()),((IntKind.i64.wrap (v2+1)),()),()),((v3,v4,v5,v6,()),(v7,v8,v9,v10,v11,v12,v13,v14,()),(r4.1.1,r4.1.2.1,r4.1.2.2.1,r4.1.2.2.2.1,r4.1.2.2.2.2.1,r4.1.2.2.2.2.2.1,r4.1.2.2.2.2.2.2.1,r4.1.2.2.2.2.2.2.2,()),()),()))
          else
            some (.inl (((v0,()),((),()),((),()),((),()),(v1,()),((IntKind.i64.wrap (v2+1)),()),()),((v3,v4,v5,v6,()),(v7,v8,v9,v10,v11,v12,v13,v14,()),(v15,v16,v17,v18,v19,v20,v21,v22,()),()),()))
        else
          some (.inl (((v0,()),((),()),((),()),((),()),(v1,()),((IntKind.i64.wrap (v2+1)),()),()),((v3,v4,v5,v6,()),(v7,v8,v9,v10,v11,v12,v13,v14,()),(v15,v16,v17,v18,v19,v20,v21,v22,()),()),()))
      else
        some (.inl (((v0,()),((),()),((),()),((),()),(v1,()),((IntKind.i64.wrap (v2+1)),()),()),((v3,v4,v5,v6,()),(v7,v8,v9,v10,v11,v12,v13,v14,()),(v15,v16,v17,v18,v19,v20,v21,v22,()),()),()))
    else
      some (.inl (((v0,()),((),()),((),()),((),()),(v1,()),((IntKind.i64.wrap (v2+1)),()),()),((v3,v4,v5,v6,()),(v7,v8,v9,v10,v11,v12,v13,v14,()),(v15,v16,v17,v18,v19,v20,v21,v22,()),()),()))
  else
    some (.inr (.inl ((((),()),((),()),(v1,()),()),((v7,v8,v9,v10,v11,v12,v13,v14,()),(v15,v16,v17,v18,v19,v20,v21,v22,()),()),())))
def yaD (x:(yap).X):=ym4 x.1.1.1 x.1.2.2.2.2.1.1 x.1.2.2.2.2.2.1.1 x.2.1.1.1 x.2.1.1.2.1 x.2.1.1.2.2.1 x.2.1.1.2.2.2.1 x.2.1.2.1.1 x.2.1.2.1.2.1 x.2.1.2.1.2.2.1 x.2.1.2.1.2.2.2.1 x.2.1.2.1.2.2.2.2.1 x.2.1.2.1.2.2.2.2.2.1 x.2.1.2.1.2.2.2.2.2.2.1 x.2.1.2.1.2.2.2.2.2.2.2.1 x.2.1.2.2.1.1 x.2.1.2.2.1.2.1 x.2.1.2.2.1.2.2.1 x.2.1.2.2.1.2.2.2.1 x.2.1.2.2.1.2.2.2.2.1 x.2.1.2.2.1.2.2.2.2.2.1 x.2.1.2.2.1.2.2.2.2.2.2.1 x.2.1.2.2.1.2.2.2.2.2.2.2.1
def ywo (x:(ydO).X):(yap).X:=(((x.1.1.1,()),((),()),((),()),((),()),(false,()),(0,()),()),((x.2.1.1.1,x.2.1.1.2.1,x.2.1.1.2.2.1,x.2.1.1.2.2.2.1,()),(x.2.1.2.1.1,x.2.1.2.1.2.1,x.2.1.2.1.2.2.1,x.2.1.2.1.2.2.2.1,x.2.1.2.1.2.2.2.2.1,x.2.1.2.1.2.2.2.2.2.1,x.2.1.2.1.2.2.2.2.2.2.1,x.2.1.2.1.2.2.2.2.2.2.2.1,()),(x.2.1.2.2.1.1,x.2.1.2.2.1.2.1,x.2.1.2.2.1.2.2.1,x.2.1.2.2.1.2.2.2.1,x.2.1.2.2.1.2.2.2.2.1,x.2.1.2.2.1.2.2.2.2.2.1,x.2.1.2.2.1.2.2.2.2.2.2.1,x.2.1.2.2.1.2.2.2.2.2.2.2.1,()),()),())
def yxf:Code:=(zdI ygv 64 116).getD .skip
theorem yJV:zdI ygv 64 29=some (.block 0 (.loop yxf)):=by kernel_rfl
theorem yKy (x:(yap).X):zg7 ⟨ylT,60,yyW⟩ 0 yxf 116 yap ydI yhj x=yaD x:=by kernel_rfl
def yww (x:(ydO).X):Nat:=(fun (u0:Int) (u1:List (List Int)) (u2:List dW) (u3:Bool) (u4:List Int) (u5:Int) (u6:Int) (u7:Int) (u8:Int) (u9:Int) (u10:Int) (u11:Int) (u12:Int) (u13:Int) (u14:Int) (u15:Int) (u16:Int) (u17:Int) (u18:Int) (u19:Int) (u20:Int)=>18446744073709551616) x.1.1.1 x.2.1.1.1 x.2.1.1.2.1 x.2.1.1.2.2.1 x.2.1.1.2.2.2.1 x.2.1.2.1.1 x.2.1.2.1.2.1 x.2.1.2.1.2.2.1 x.2.1.2.1.2.2.2.1 x.2.1.2.1.2.2.2.2.1 x.2.1.2.1.2.2.2.2.2.1 x.2.1.2.1.2.2.2.2.2.2.1 x.2.1.2.1.2.2.2.2.2.2.2.1 x.2.1.2.2.1.1 x.2.1.2.2.1.2.1 x.2.1.2.2.1.2.2.1 x.2.1.2.2.1.2.2.2.1 x.2.1.2.2.1.2.2.2.2.1 x.2.1.2.2.1.2.2.2.2.2.1 x.2.1.2.2.1.2.2.2.2.2.2.1 x.2.1.2.2.1.2.2.2.2.2.2.2.1
def yn0 (x:(ydO).X):Option ((ydI).X ⊕ (yhj).X):=zr yaD (yww x) (ywo x)
def yw3:Seg:=⟨ydO,ydI,yhj,yn0⟩
def yyX:Nat→Option Seg:=fun q=>bif Nat.beq q 29 then some yw3 else yyW q
theorem yJ7:FrOk Tryz.prog ⟨ylT,60,yyX⟩ ygv:=(yJ6).loop (sg:=yw3) yap ywo (by decide) yJV yaD yww (by decide) (fun _=>rfl) (fun x r _ h=>h) yKy
abbrev ydT:List Par:= [.rd tM,.rd tI]
abbrev ymc:List OT:= [⟨false,tS,(.pr .fz (.pr .fz (.pr .fz (.pr .fz (.pr .fz (.pr .fz (.pr .fz .fz)))))))⟩,⟨false,tB,.fz⟩]
def yjD (a0:dM) (a1:Int):Option (ResD ymc×MutD ydT) :=
  zjw (yn0 (((a1,()),((),()),((),()),((),()),((),()),((),()),()),((a0.1,a0.2.1,a0.2.2.1,a0.2.2.2,()),(0,0,0,0,0,0,0,0,()),(0,0,0,0,0,0,0,0,()),()),())) (fun y4 =>
    some (((y4.2.1.2.1.1,y4.2.1.2.1.2.1,y4.2.1.2.1.2.2.1,y4.2.1.2.1.2.2.2.1,y4.2.1.2.1.2.2.2.2.1,y4.2.1.2.1.2.2.2.2.2.1,y4.2.1.2.1.2.2.2.2.2.2.1,y4.2.1.2.1.2.2.2.2.2.2.2.1),y4.1.2.2.1.1,()),())) (fun y4 =>
    none)
theorem yQu (x:InD ydT):zjH ⟨ylT,60,yyX⟩ Tryz.f239.results.toList ygv ydT ymc x=yjD x.1 x.2.1:=by kernel_rfl
theorem yMI:ConOk Tryz.prog 239 ⟨ydT,ymc,fun x=>yjD x.1 x.2.1⟩:=zkh (yJ7) Tryz.func239 (by kernel_rfl) (by kernel_rfl) Tryz.ntmps239.symm (by decide) (fun x r h=>(yQu x).trans h)
def yg1 (a0:dM) (a1:Int):dS×Bool:=yal a0 a1
theorem yOP (a0:dM) (a1:Int) (hk:zi9 ydT (a0,a1,())):yjD a0 a1=(fun n=>some ((n.1,n.2,()),())) (yg1 a0 a1):=by
  have h1:=zks (step:=yaD) 2 (fun i s=>ymy a1 s.2 i a0 yab s.1) (fun (s:dS×Bool) (i:Nat)=>ynB s (yDH a0 a1 i) (yQp a0 i)) (fun _ _=>True) (fun s=> .inl (yIC s.2 yab s.1)) (fun i s hi _=>⟨by
    simp only [yaD,ymy,ym4,zjI (show (i:Int) < 2 by omega),cond_true,wr (show -9223372036854775808≤(i:Int)+1 by omega) (by omega),Int.natCast_add,Int.natCast_one,Int.toNat_natCast,zkV,yed,yjn]
    unfold yDH ynB yQp
    cases (yk a0 i).2<;>cases (yc1 (yk a0 i).1).2<;>cases ((yc1 (yk a0 i).1).1.1==a1)<;>cases ((yc1 (yk a0 i).1).1.2.1.tmod 2==(i:Int))<;>cases hf:s.2<;>cases ltb s.1.2.1 (yc1 (yk a0 i).1).1.2.1<;>simp only [Bool.not_true,Bool.not_false,cond_true,cond_false,Bool.and_true,Bool.true_and,Bool.false_and,Bool.and_false,Bool.or_true,Bool.true_or,Bool.false_or,Bool.or_false,hf],trivial⟩) (fun s _=>by simp only [yaD,ymy,ym4]; rfl) (yab,false) trivial 18446744073709551616 (by omega)
  unfold yjD yg1
  rw [show yn0 (yIH a1 a0 yab yab)=_ from h1]; rfl
def yzm:Con:=⟨ydT,ymc,fun x=>(fun n=>some ((n.1,n.2,()),())) (yg1 x.1 x.2.1)⟩
theorem yPn:ConOk Tryz.prog 239 yzm:=(yMI).mono (fun x r hk h=>(yOP x.1 x.2.1 hk).trans h)
end
section
def yFj:Code:=(Tryz.f191.body).getD .skip
def yFX:Env:=zki TT [(132,yeb),(239,yzm)] []
theorem yLN:FrOk Tryz.prog ⟨yFX,35,fun _=>none⟩ yFj:=zkp yb yc ⟨yhW,yPn,trivial⟩
def yNm:Nat→Option Seg:=fun _=>none
abbrev yeX:List Par:= [.rd tM,.rd tI,.rd tI]
abbrev yo4:List OT:= [⟨false,tS,(.pr .fz (.pr .fz (.pr .fz (.pr .fz (.pr .fz (.pr .fz (.pr .fz .fz)))))))⟩,⟨false,tB,.fz⟩]
def yku (a0:dM) (a1:Int) (a2:Int):Option (ResD yo4×MutD yeX) :=
  let r1:=yg1 a0 a2
  let r2:=yE a0
  bif (!(!r2)) then
    bif (!a0.2.2.1) then
      bif (!(!r1.2)) then
        bif (r1.1.2.2.1 !=a1) then
          some (((0,0,0,0,0,0,0,0),false,()),())
        else
          some ((r1.1,true,()),())
      else
        some (((0,0,0,0,0,0,0,0),false,()),())
    else
      some (((0,0,0,0,0,0,0,0),false,()),())
  else
    some (((0,0,0,0,0,0,0,0),false,()),())
theorem yUb (x:InD yeX):zjH ⟨yFX,35,yNm⟩ Tryz.f191.results.toList yFj yeX yo4 x=yku x.1 x.2.1 x.2.2.1:=by kernel_rfl
theorem yO6:ConOk Tryz.prog 191 ⟨yeX,yo4,fun x=>yku x.1 x.2.1 x.2.2.1⟩:=zkh (yLN) Tryz.func191 (by kernel_rfl) (by kernel_rfl) Tryz.ntmps191.symm (by decide) (fun x r h=>(yUb x).trans h)
def yc5 (a0:dM) (a1 a2:Int):dS×Bool:=bif ymG a0 a1 a2 then ((yal a0 a2).1,true) else (yab,false)
theorem yR3 (a0:dM) (a1 a2:Int) (hk:zi9 yeX (a0,a1,a2,())):yku a0 a1 a2=(fun n=>some ((n.1,n.2,()),())) (yc5 a0 a1 a2):=by
  unfold yku yc5 ymG
  simp only [yg1,yE,bne]
  cases hb:(yal a0 a2).2
  · cases yp a0<;>cases a0.2.2.1<;>rfl
  · rw [y2r hb]
    cases a0.2.2.1<;>cases ((yal a0 a2).1.2.2.1==a1)<;>rfl
def yBG:Con:=⟨yeX,yo4,fun x=>(fun n=>some ((n.1,n.2,()),())) (yc5 x.1 x.2.1 x.2.2.1)⟩
theorem ySQ:ConOk Tryz.prog 191 yBG:=(yO6).mono (fun x r hk h=>(yR3 x.1 x.2.1 x.2.2.1 hk).trans h)
end
end
end Go.Tf
