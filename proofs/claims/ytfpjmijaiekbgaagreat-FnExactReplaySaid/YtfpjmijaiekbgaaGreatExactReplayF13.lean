/- Functions of the program, and what they come to. -/
import Derived.Test.YtfpjmijaiekbgaaGreatExactReplayF12
namespace Go.Tf
noncomputable section
open Go.Proofs
set_option synthInstance.maxHeartbeats 400000
set_option synthInstance.maxSize 10000
set_option linter.unusedVariables false
set_option linter.unusedSimpArgs false
set_option maxRecDepth 100000
section
def ygX:Code:=(Tryz.f83.body).getD .skip
def ymQ:Env:=zki TT [(160,yAX),(161,yEN),(162,yDy),(163,yA1)] []
theorem yIl:FrOk Tryz.prog ⟨ymQ,56,fun _=>none⟩ ygX:=zkp yb yc ⟨yRS,yWw,yUC,yRW,trivial⟩
def yyj:Nat→Option Seg:=fun _=>none
def ya7:Shape:=⟨[(0,false,[.ptr 1000000000 0]),(2,false,[.int .i64])],[(1000000000,[.int .i64,.int .i64,.int .i64,.at 800000000,.int .i64,.int .i64,.int .i64,.int .i64,.int .i64,.at 800000001,.int .i64,.bool,.bool])],[(800000000,tM,(.pr (.ow .fz) (.pr (.ow (.pr .fz .fz)) (.pr .fz (.ow .fz))))),(800000001,tW,(.pr .fz .fz))]⟩
def yeW:Shape:=⟨[(0,false,[.ptr 1000000000 0]),(2,false,[.ci .i64 0])],[(1000000000,[.int .i64,.int .i64,.int .i64,.at 800000000,.int .i64,.int .i64,.int .i64,.int .i64,.int .i64,.at 800000001,.int .i64,.bool,.bool])],[(800000000,tM,(.pr (.ow .fz) (.pr (.ow (.pr .fz .fz)) (.pr .fz (.ow .fz))))),(800000001,tW,(.pr .fz .fz))]⟩
def yeL:Shape:=⟨[(0,false,[.ptr 1000000000 0])],[(1000000000,[.int .i64,.int .i64,.int .i64,.at 800000000,.int .i64,.int .i64,.int .i64,.int .i64,.int .i64,.at 800000001,.int .i64,.bool,.bool])],[(800000000,tM,(.pr (.ow .fz) (.pr (.ow (.pr .fz .fz)) (.pr .fz (.ow .fz))))),(800000001,tW,(.pr .fz .fz))]⟩
def ye2:Shape:=⟨[],[(1000000000,[.int .i64,.int .i64,.int .i64,.at 800000000,.int .i64,.int .i64,.int .i64,.int .i64,.int .i64,.at 800000001,.int .i64,.bool,.bool])],[(800000000,tM,(.pr (.ow .fz) (.pr (.ow (.pr .fz .fz)) (.pr .fz (.ow .fz))))),(800000001,tW,(.pr .fz .fz))]⟩
abbrev yh4 (v0:Int) (v1:dA):(ya7).X:=((((),()),(v0,()),()),((v1.1,v1.2.1.1,v1.2.1.2,(),v1.2.2.2.1,v1.2.2.2.2.1,v1.2.2.2.2.2.1,v1.2.2.2.2.2.2.1,v1.2.2.2.2.2.2.2.1,(),v1.2.2.2.2.2.2.2.2.2.1,v1.2.2.2.2.2.2.2.2.2.2.1,v1.2.2.2.2.2.2.2.2.2.2.2,()),()),(v1.2.2.1,v1.2.2.2.2.2.2.2.2.1,()))
abbrev yIH (v0:dA):(yeW).X:=((((),()),((),()),()),((v0.1,v0.2.1.1,v0.2.1.2,(),v0.2.2.2.1,v0.2.2.2.2.1,v0.2.2.2.2.2.1,v0.2.2.2.2.2.2.1,v0.2.2.2.2.2.2.2.1,(),v0.2.2.2.2.2.2.2.2.2.1,v0.2.2.2.2.2.2.2.2.2.2.1,v0.2.2.2.2.2.2.2.2.2.2.2,()),()),(v0.2.2.1,v0.2.2.2.2.2.2.2.2.1,()))
abbrev yIw (v0:dA):(yeL).X:=((((),()),()),((v0.1,v0.2.1.1,v0.2.1.2,(),v0.2.2.2.1,v0.2.2.2.2.1,v0.2.2.2.2.2.1,v0.2.2.2.2.2.2.1,v0.2.2.2.2.2.2.2.1,(),v0.2.2.2.2.2.2.2.2.2.1,v0.2.2.2.2.2.2.2.2.2.2.1,v0.2.2.2.2.2.2.2.2.2.2.2,()),()),(v0.2.2.1,v0.2.2.2.2.2.2.2.2.1,()))
abbrev yoL (v0:dA):(ye2).X:=((),((v0.1,v0.2.1.1,v0.2.1.2,(),v0.2.2.2.1,v0.2.2.2.2.1,v0.2.2.2.2.2.1,v0.2.2.2.2.2.2.1,v0.2.2.2.2.2.2.2.1,(),v0.2.2.2.2.2.2.2.2.2.1,v0.2.2.2.2.2.2.2.2.2.2.1,v0.2.2.2.2.2.2.2.2.2.2.2,()),()),(v0.2.2.1,v0.2.2.2.2.2.2.2.2.1,()))
def ypa (v0:Int) (v1:Int) (v2:Int) (v3:Int) (v4:Int) (v5:Int) (v6:Int) (v7:Int) (v8:Int) (v9:Int) (v10:Bool) (v11:Bool) (v12:List dM) (v13:List dW):Option ((ya7).X ⊕ ((yeL).X ⊕ (ye2).X)) :=
  bif (ltb v0 4) then
    bnd (ypS (v1,(v2,v3),v12,v4,v5,v6,v7,v8,v13,v9,v10,v11) v6) fun r4 =>
    bif (!(!r4.1.2.1)) then
      bif (leb 60000 v6) then
        some (.inr (.inl ((((),()),()),((v1,v2,v3,(),v4,v5,v6,v7,v8,(),v9,v10,v11,()),()),(v12,v13,()))))
      else
        let r5:=yoP (v1,(v2,v3),v12,v4,v5,v6,v7,v8,v13,v9,v10,v11) r4.1.1
        bif r5.2.2.2.2.2.2.2.2.2.2.1 then
          some (.inr (.inr ((),((r5.1,r5.2.1.1,r5.2.1.2,(),r5.2.2.2.1,r5.2.2.2.2.1,r5.2.2.2.2.2.1,r5.2.2.2.2.2.2.1,r5.2.2.2.2.2.2.2.1,(),r5.2.2.2.2.2.2.2.2.2.1,r5.2.2.2.2.2.2.2.2.2.2.1,r5.2.2.2.2.2.2.2.2.2.2.2,()),()),(r5.2.2.1,r5.2.2.2.2.2.2.2.2.1,()))))
        else
          bnd (yl8 (r5.1,r5.2.1,r5.2.2.1,r5.2.2.2.1,r5.2.2.2.2.1,(IntKind.i64.wrap (r5.2.2.2.2.2.1+1)),r5.2.2.2.2.2.2) r4.1.1.2.1 r4.1.1.2.2) fun r6 =>
          bif r6.2.1.2.2.2.2.2.2.2.2.2.2.1 then
            some (.inr (.inr ((),((r6.2.1.1,r6.2.1.2.1.1,r6.2.1.2.1.2,(),r6.2.1.2.2.2.1,r6.2.1.2.2.2.2.1,r6.2.1.2.2.2.2.2.1,r6.2.1.2.2.2.2.2.2.1,r6.2.1.2.2.2.2.2.2.2.1,(),r6.2.1.2.2.2.2.2.2.2.2.2.1,r6.2.1.2.2.2.2.2.2.2.2.2.2.1,r6.2.1.2.2.2.2.2.2.2.2.2.2.2,()),()),(r6.2.1.2.2.1,r6.2.1.2.2.2.2.2.2.2.2.1,()))))
          else
            some (.inl ((((),()),((IntKind.i64.wrap (v0+1)),()),()),((r6.2.1.1,r6.2.1.2.1.1,r6.2.1.2.1.2,(),r6.2.1.2.2.2.1,r6.2.1.2.2.2.2.1,r6.2.1.2.2.2.2.2.1,r6.2.1.2.2.2.2.2.2.1,r6.2.1.2.2.2.2.2.2.2.1,(),r6.2.1.2.2.2.2.2.2.2.2.2.1,r6.2.1.2.2.2.2.2.2.2.2.2.2.1,r6.2.1.2.2.2.2.2.2.2.2.2.2.2,()),()),(r6.2.1.2.2.1,r6.2.1.2.2.2.2.2.2.2.2.1,())))
    else
      some (.inr (.inl ((((),()),()),((v1,v2,v3,(),v4,v5,v6,v7,v8,(),v9,v10,v11,()),()),(v12,v13,()))))
  else
    some (.inr (.inl ((((),()),()),((v1,v2,v3,(),v4,v5,v6,v7,v8,(),v9,v10,v11,()),()),(v12,v13,()))))
def ybw (x:(ya7).X):=ypa x.1.2.1.1 x.2.1.1.1 x.2.1.1.2.1 x.2.1.1.2.2.1 x.2.1.1.2.2.2.2.1 x.2.1.1.2.2.2.2.2.1 x.2.1.1.2.2.2.2.2.2.1 x.2.1.1.2.2.2.2.2.2.2.1 x.2.1.1.2.2.2.2.2.2.2.2.1 x.2.1.1.2.2.2.2.2.2.2.2.2.2.1 x.2.1.1.2.2.2.2.2.2.2.2.2.2.2.1 x.2.1.1.2.2.2.2.2.2.2.2.2.2.2.2.1 x.2.2.1 x.2.2.2.1
def ywT (x:(yeW).X):(ya7).X:=((((),()),(0,()),()),((x.2.1.1.1,x.2.1.1.2.1,x.2.1.1.2.2.1,(),x.2.1.1.2.2.2.2.1,x.2.1.1.2.2.2.2.2.1,x.2.1.1.2.2.2.2.2.2.1,x.2.1.1.2.2.2.2.2.2.2.1,x.2.1.1.2.2.2.2.2.2.2.2.1,(),x.2.1.1.2.2.2.2.2.2.2.2.2.2.1,x.2.1.1.2.2.2.2.2.2.2.2.2.2.2.1,x.2.1.1.2.2.2.2.2.2.2.2.2.2.2.2.1,()),()),(x.2.2.1,x.2.2.2.1,()))
def yyF:Code:=(zdI ygX 64 20).getD .skip
theorem yJO:zdI ygX 64 5=some (.block 0 (.loop yyF)):=by kernel_rfl
theorem yLy (x:(ya7).X):zg7 ⟨ymQ,56,yyj⟩ 0 yyF 20 ya7 yeL ye2 x=ybw x:=by kernel_rfl
def yxc (x:(yeW).X):Nat:=(fun (u0:Int) (u1:Int) (u2:Int) (u3:Int) (u4:Int) (u5:Int) (u6:Int) (u7:Int) (u8:Int) (u9:Bool) (u10:Bool) (u11:List dM) (u12:List dW)=>18446744073709551616) x.2.1.1.1 x.2.1.1.2.1 x.2.1.1.2.2.1 x.2.1.1.2.2.2.2.1 x.2.1.1.2.2.2.2.2.1 x.2.1.1.2.2.2.2.2.2.1 x.2.1.1.2.2.2.2.2.2.2.1 x.2.1.1.2.2.2.2.2.2.2.2.1 x.2.1.1.2.2.2.2.2.2.2.2.2.2.1 x.2.1.1.2.2.2.2.2.2.2.2.2.2.2.1 x.2.1.1.2.2.2.2.2.2.2.2.2.2.2.2.1 x.2.2.1 x.2.2.2.1
def yqt (x:(yeW).X):Option ((yeL).X ⊕ (ye2).X):=zr ybw (yxc x) (ywT x)
def yxC:Seg:=⟨yeW,yeL,ye2,yqt⟩
def yyk:Nat→Option Seg:=fun q=>bif Nat.beq q 5 then some yxC else yyj q
theorem yIm:FrOk Tryz.prog ⟨ymQ,56,yyk⟩ ygX:=(yIl).loop (sg:=yxC) ya7 ywT (by decide) yJO ybw yxc (by decide) (fun _=>rfl) (fun x r _ h=>h) yLy
abbrev ycm:List Par:= [.pt tA (.pr .fz (.pr (.pr .fz .fz) (.pr (.ow (.pr (.ow .fz) (.pr (.ow (.pr .fz .fz)) (.pr .fz (.ow .fz))))) (.pr .fz (.pr .fz (.pr .fz (.pr .fz (.pr .fz (.pr (.ow (.pr .fz .fz)) (.pr .fz (.pr .fz .fz)))))))))))]
abbrev yhG:List OT:= []
def yjg (a0:dA):Option (ResD yhG×MutD ycm) :=
  zjw (yqt ((((),()),((),()),()),((a0.1,a0.2.1.1,a0.2.1.2,(),a0.2.2.2.1,a0.2.2.2.2.1,a0.2.2.2.2.2.1,a0.2.2.2.2.2.2.1,a0.2.2.2.2.2.2.2.1,(),a0.2.2.2.2.2.2.2.2.2.1,a0.2.2.2.2.2.2.2.2.2.2.1,a0.2.2.2.2.2.2.2.2.2.2.2,()),()),(a0.2.2.1,a0.2.2.2.2.2.2.2.2.1,()))) (fun y6 =>
    let r8:=ykd (y6.2.1.1.1,(y6.2.1.1.2.1,y6.2.1.1.2.2.1),y6.2.2.1,y6.2.1.1.2.2.2.2.1,y6.2.1.1.2.2.2.2.2.1,y6.2.1.1.2.2.2.2.2.2.1,y6.2.1.1.2.2.2.2.2.2.2.1,y6.2.1.1.2.2.2.2.2.2.2.2.1,y6.2.2.2.1,y6.2.1.1.2.2.2.2.2.2.2.2.2.2.1,y6.2.1.1.2.2.2.2.2.2.2.2.2.2.2.1,y6.2.1.1.2.2.2.2.2.2.2.2.2.2.2.2.1)
    some ((),(r8,()))) (fun y6 =>
    some ((),((y6.2.1.1.1,(y6.2.1.1.2.1,y6.2.1.1.2.2.1),y6.2.2.1,y6.2.1.1.2.2.2.2.1,y6.2.1.1.2.2.2.2.2.1,y6.2.1.1.2.2.2.2.2.2.1,y6.2.1.1.2.2.2.2.2.2.2.1,y6.2.1.1.2.2.2.2.2.2.2.2.1,y6.2.2.2.1,y6.2.1.1.2.2.2.2.2.2.2.2.2.2.1,y6.2.1.1.2.2.2.2.2.2.2.2.2.2.2.1,y6.2.1.1.2.2.2.2.2.2.2.2.2.2.2.2.1),())))
theorem yPT (x:InD ycm):zjH ⟨ymQ,56,yyk⟩ Tryz.f83.results.toList ygX ycm yhG x=yjg x.1:=by kernel_rfl
theorem yK9:ConOk Tryz.prog 83 ⟨ycm,yhG,fun x=>yjg x.1⟩:=zkh (yIm) Tryz.func83 (by kernel_rfl) (by kernel_rfl) Tryz.ntmps83.symm (by decide) (fun x r h=>(yPT x).trans h)
def yid (a0:dA):dA:=yJh a0
def yig (a0:dA):Bool:=yf a0.2.1&&(a0.2.2.1.length:Int)==a0.2.1.1
theorem yNV (a0:dA) (hk:zi9 ycm (a0,())) (hq:yig a0=true):yjg a0=(fun n=>some ((),(n,()))) (yid a0):=by
  simp only [yig,Bool.and_eq_true,beq_iff_eq]at hq
  have h1:=zkr (step:=ybw) 4 (fun i s=>yh4 i s) ysL (fun _ s=>s.2.1=a0.2.1∧s.2.2.1.length=a0.2.2.1.length) .inl
    (fun b=>match b with | .inl x=> .inl (yIw x) | .inr x=> .inr (yoL x)) (fun i s hi hs=>by
      constructor
      · simp only [ybw,yh4,ypa,zjI (show (i:Int) < 4 by omega),cond_true,wr (show -9223372036854775808≤(i:Int)+1 by omega) (by omega),Int.natCast_add,Int.natCast_one,Int.toNat_natCast,zkV]
        rw [yRZ s s.2.2.2.2.2.1 (by unfold ypY; rw [hs.1]; exact hq.1)]
        simp only [zky,yj9,yoP]
        unfold ysL
        cases hf:(yu s s.2.2.2.2.2.1).2
        · rfl
        · cases leb 60000 s.2.2.2.2.2.1
          · have ho:=yXJ (a:=s) (q:=s.2.2.2.2.2.1) (by rw [hs.1]; exact hq.1) hf
            have hd:yl8 (yr6 (yfd s)) (yu s s.2.2.2.2.2.1).1.2.1 (yu s s.2.2.2.2.2.1).1.2.2=some ((),(yoS s,())):=yUG _ _ _ (by
              unfold yl9
              simp only [Bool.and_eq_true,beq_iff_eq]
              rw [show (yr6 (yfd s)).2.1=s.2.1 from yOR s]
              exact ⟨ho.1,ho.2,by rw [show (yr6 (yfd s)).2.2.1.length=s.2.2.1.length from yUH s _,hs.2,hq.2,hs.1]⟩)
            have h1:yDT s (yu s s.2.2.2.2.2.1).1=yfd s:=rfl
            rw [h1]
            generalize yoS s=R2 at hd ⊢
            generalize yfd s=R1 at hd ⊢
            generalize yu s s.2.2.2.2.2.1=F at hd ⊢
            unfold yr6 at hd
            simp only [Bool.not_true,Bool.not_false,cond_true,cond_false,Bool.or_self,hd,zky]
            show (bif yd R1 then some (Sum.inr (Sum.inr (yoL R1))) else bif yd R2 then some (Sum.inr (Sum.inr (yoL R2))) else some (Sum.inl (yh4 ((i:Int)+1) R2)))=_
            cases yd R1
            · cases yd R2<;>rfl
            · rfl
          · rfl
      · intro s' h
        unfold ysL at h
        cases hc:(!(yu s s.2.2.2.2.2.1).2||leb 60000 s.2.2.2.2.2.1)
        · rw [hc]at h
          cases hd1:yd (yfd s)
          · rw [hd1]at h
            cases hd2:yd (yoS s)
            · rw [hd2]at h
              simp only [cond_false,Sum.inl.injEq]at h
              subst h
              exact ⟨(yXp s).trans hs.1,(yXq s).trans hs.2⟩
            · rw [hd2]at h; cases h
          · rw [hd1]at h; cases h
        · rw [hc]at h; cases h) (fun s hs=>by simp only [ybw,yh4,ypa]; rfl) a0 ⟨rfl,rfl⟩ 18446744073709551616 (by omega)
  unfold yjg yid yJh
  refine (congrArg (fun z=>zjw z _ _) (show yqt (yIH a0)=_ from h1)).trans ?_
  cases goE ysL .inl 4 0 a0 with
  | inl b=>simp only [zkJ,yWx]
  | inr b=>rfl
def ynx (a0:dA):Option (ResD yhG×MutD ycm):=bif yig a0 then (fun n=>some ((),(n,()))) (yid a0) else none
theorem yOz (a0:dA) (h:yig a0=true):ynx a0=(fun n=>some ((),(n,()))) (yid a0):=by unfold ynx; rw [h]; rfl
def yyV:Con:=⟨ycm,yhG,fun x=>ynx x.1⟩
theorem yOx:ConOk Tryz.prog 83 yyV:=(yK9).mono (fun x r hk h=>zkW h (fun hq=>yNV x.1 hk hq))
end
section
def yFL:Code:=(Tryz.f25.body).getD .skip
def yF6:Env:=zki TT [(73,yDv),(82,yEK),(83,yyV)] []
theorem yMQ:FrOk Tryz.prog ⟨yF6,25,fun _=>none⟩ yFL:=zkp yb yc ⟨yUz,yWt,yOx,trivial⟩
def yPb:Nat→Option Seg:=fun _=>none
abbrev ygz:List Par:= [.rd tA]
abbrev yrR:List OT:= [⟨false,tA,(.pr .fz (.pr (.pr .fz .fz) (.pr (.ow (.pr (.ow .fz) (.pr (.ow (.pr .fz .fz)) (.pr .fz (.ow .fz))))) (.pr .fz (.pr .fz (.pr .fz (.pr .fz (.pr .fz (.pr (.ow (.pr .fz .fz)) (.pr .fz (.pr .fz .fz)))))))))))⟩]
def ynO (a0:dA):Option (ResD yrR×MutD ygz) :=
  let r1:=yl6 a0
  let r2:=yoN a0
  bif r2 then
    bif (!a0.2.2.2.2.2.2.2.2.2.2.1) then
      bif (!a0.2.2.2.2.2.2.2.2.2.2.2) then
        bif (ltb a0.2.2.2.2.2.2.2.1 60000) then
          bnd (ynx r1) fun r3 =>
          some ((r3.2.1,()),())
        else
          some ((r1,()),())
      else
        some ((r1,()),())
    else
      some ((r1,()),())
  else
    some ((r1,()),())
theorem yVr (x:InD ygz):zjH ⟨yF6,25,yPb⟩ Tryz.f25.results.toList yFL ygz yrR x=ynO x.1:=by kernel_rfl
theorem yRt:ConOk Tryz.prog 25 ⟨ygz,yrR,fun x=>ynO x.1⟩:=zkh (yMQ) Tryz.func25 (by kernel_rfl) (by kernel_rfl) Tryz.ntmps25.symm (by decide) (fun x r h=>(yVr x).trans h)
def yl5 (a0:dA):dA:=yke a0
theorem yTB (a0:dA) (hk:zi9 ygz (a0,())):ynO a0=(fun n=>some ((n,()),())) (yl5 a0):=by
  unfold ynO yl5 yke
  simp only [yl6,yoN]
  cases ha:yci a0
  · rfl
  rw [yOz a0 (by unfold yig; rw [yHH ha,yHI ha]; simp)]
  unfold yid
  generalize yJh a0=R
  show (bif true then bif !(yd a0) then (bif !a0.2.2.2.2.2.2.2.2.2.2.2 then bif ltb a0.2.2.2.2.2.2.2.1 60000 then _ else _ else _) else _ else _)=_
  cases yd a0<;>cases a0.2.2.2.2.2.2.2.2.2.2.2<;>cases ltb a0.2.2.2.2.2.2.2.1 60000<;>rfl
def yDt:Con:=⟨ygz,yrR,fun x=>(fun n=>some ((n,()),())) (yl5 x.1)⟩
theorem yUx:ConOk Tryz.prog 25 yDt:=(yRt).mono (fun x r hk h=>(yTB x.1 hk).trans h)
end
section
def yFF:Code:=(Tryz.f114.body).getD .skip
def yF0:Env:=zki TT [] []
theorem yMu:FrOk Tryz.prog ⟨yF0,15,fun _=>none⟩ yFF:=zkp yb yc trivial
def yO5:Nat→Option Seg:=fun _=>none
abbrev ylL:List Par:= [.rd tI,.rd tI,.rd tI]
abbrev yrD:List OT:= [⟨false,tB,.fz⟩]
def yuE (a0:Int) (a1:Int) (a2:Int):Option (ResD yrD×MutD ylL) :=
  bif (leb a1 a0) then
    some (((leb a0 a2),()),())
  else
    some ((false,()),())
theorem yVd (x:InD ylL):zjH ⟨yF0,15,yO5⟩ Tryz.f114.results.toList yFF ylL yrD x=yuE x.1 x.2.1 x.2.2.1:=by kernel_rfl
theorem yRf:ConOk Tryz.prog 114 ⟨ylL,yrD,fun x=>yuE x.1 x.2.1 x.2.2.1⟩:=zkh (yMu) Tryz.func114 (by kernel_rfl) (by kernel_rfl) Tryz.ntmps114.symm (by decide) (fun x r h=>(yVd x).trans h)
def ye (a0:Int) (a1:Int) (a2:Int):Bool :=
  bif (leb a1 a0) then
    (leb a0 a2)
  else
    false
def yp:Con:=⟨ylL,yrD,fun x=>(fun n=>some ((n,()),())) (ye x.1 x.2.1 x.2.2.1)⟩
theorem yTn (a0:Int) (a1:Int) (a2:Int):yuE a0 a1 a2=(fun n=>some ((n,()),())) (ye a0 a1 a2):=zkS (p:=fun (n:Bool)=>((n,()),())) (zkx (p:=fun (n:Bool)=>((n,()),())) rfl rfl)
theorem yE:ConOk Tryz.prog 114 yp:=(yRf).mono (fun x r _ h=>(yTn x.1 x.2.1 x.2.2.1).trans h)
theorem yV (a b c:Int):ye a b c=ya a b c:=by kernel_rfl
end
section
def yGR:Code:=(Tryz.f129.body).getD .skip
def yHd:Env:=zki TT [(114,yp)] []
theorem yPY:FrOk Tryz.prog ⟨yHd,11,fun _=>none⟩ yGR:=zkp yb yc ⟨yE,trivial⟩
def ySj:Nat→Option Seg:=fun _=>none
abbrev yoi:List Par:= [.rd tG]
abbrev ytG:List OT:= [⟨false,tB,.fz⟩]
def yvL (a0:dG):Option (ResD ytG×MutD yoi) :=
  let r1:=ye a0.1 3 5
  bif r1 then
    let r2:=ye a0.2 1 8
    some ((r2,()),())
  else
    some ((false,()),())
theorem yWE (x:InD yoi):zjH ⟨yHd,11,ySj⟩ Tryz.f129.results.toList yGR yoi ytG x=yvL x.1:=by kernel_rfl
theorem yTN:ConOk Tryz.prog 129 ⟨yoi,ytG,fun x=>yvL x.1⟩:=zkh (yPY) Tryz.func129 (by kernel_rfl) (by kernel_rfl) Tryz.ntmps129.symm (by decide) (fun x r h=>(yWE x).trans h)
def ydX (a0:dG):Bool :=
  let r1:=ye a0.1 3 5
  bif r1 then
    let r2:=ye a0.2 1 8
    r2
  else
    false
def ypH:Con:=⟨yoi,ytG,fun x=>(fun n=>some ((n,()),())) (ydX x.1)⟩
theorem yVG (a0:dG):yvL a0=(fun n=>some ((n,()),())) (ydX a0):=zkS (p:=fun (n:Bool)=>((n,()),())) (zkx (p:=fun (n:Bool)=>((n,()),())) rfl rfl)
theorem yxJ:ConOk Tryz.prog 129 ypH:=(yTN).mono (fun x r _ h=>(yVG x.1).trans h)
theorem yQD (a:Int×Int):ydX a=yf a:=by kernel_rfl
end
section
def yFE:Code:=(Tryz.f130.body).getD .skip
def yFZ:Env:=zki TT [(114,yp)] []
theorem yMt:FrOk Tryz.prog ⟨yFZ,26,fun _=>none⟩ yFE:=zkp yb yc ⟨yE,trivial⟩
def yO4:Nat→Option Seg:=fun _=>none
abbrev ylK:List Par:= [.rd tG,.rd tI,.rd tI]
abbrev yrC:List OT:= [⟨false,tB,.fz⟩]
def yuD (a0:dG) (a1:Int) (a2:Int):Option (ResD yrC×MutD ylK) :=
  let r1:=ye a1 (-1) (IntKind.i64.wrap (a0.1 - 1))
  bif r1 then
    let r2:=ye a2 0 a0.2
    bif r2 then
      bif (!(a2==0)) then
        some (((a1 !=(-1)),()),())
      else
        some ((true,()),())
    else
      some ((false,()),())
  else
    some ((false,()),())
theorem yVc (x:InD ylK):zjH ⟨yFZ,26,yO4⟩ Tryz.f130.results.toList yFE ylK yrC x=yuD x.1 x.2.1 x.2.2.1:=by kernel_rfl
theorem yRe:ConOk Tryz.prog 130 ⟨ylK,yrC,fun x=>yuD x.1 x.2.1 x.2.2.1⟩:=zkh (yMt) Tryz.func130 (by kernel_rfl) (by kernel_rfl) Tryz.ntmps130.symm (by decide) (fun x r h=>(yVc x).trans h)
def yet (a0:dG) (a1:Int) (a2:Int):Bool :=
  let r1:=ye a1 (-1) (IntKind.i64.wrap (a0.1 - 1))
  bif r1 then
    let r2:=ye a2 0 a0.2
    bif r2 then
      bif (!(a2==0)) then
        (a1 !=(-1))
      else
        true
    else
      false
  else
    false
def yuc:Con:=⟨ylK,yrC,fun x=>(fun n=>some ((n,()),())) (yet x.1 x.2.1 x.2.2.1)⟩
theorem yTm (a0:dG) (a1:Int) (a2:Int):yuD a0 a1 a2=(fun n=>some ((n,()),())) (yet a0 a1 a2):=zkS (p:=fun (n:Bool)=>((n,()),())) (zkx (p:=fun (n:Bool)=>((n,()),())) (zkx (p:=fun (n:Bool)=>((n,()),())) (zkx (p:=fun (n:Bool)=>((n,()),())) rfl rfl) rfl) rfl)
theorem yE1:ConOk Tryz.prog 130 yuc:=(yRe).mono (fun x r _ h=>(yTm x.1 x.2.1 x.2.2.1).trans h)
end
section
def yFD:Code:=(Tryz.f93.body).getD .skip
def yFY:Env:=zki TT [(114,yp)] []
theorem yMs:FrOk Tryz.prog ⟨yFY,5,fun _=>none⟩ yFD:=zkp yb yc ⟨yE,trivial⟩
def yO3:Nat→Option Seg:=fun _=>none
abbrev ylJ:List Par:= [.rd tI]
abbrev yrB:List OT:= [⟨false,tB,.fz⟩]
def yuC (a0:Int):Option (ResD yrB×MutD ylJ) :=
  let r1:=ye a0 0 65535
  some ((r1,()),())
theorem yVb (x:InD ylJ):zjH ⟨yFY,5,yO3⟩ Tryz.f93.results.toList yFD ylJ yrB x=yuC x.1:=by kernel_rfl
theorem yRd:ConOk Tryz.prog 93 ⟨ylJ,yrB,fun x=>yuC x.1⟩:=zkh (yMs) Tryz.func93 (by kernel_rfl) (by kernel_rfl) Tryz.ntmps93.symm (by decide) (fun x r h=>(yVb x).trans h)
def yJ (a0:Int):Bool :=
  let r1:=ye a0 0 65535
  r1
def yDi:Con:=⟨ylJ,yrB,fun x=>(fun n=>some ((n,()),())) (yJ x.1)⟩
theorem yTl (a0:Int):yuC a0=(fun n=>some ((n,()),())) (yJ a0):=zkS (p:=fun (n:Bool)=>((n,()),())) rfl
theorem yUm:ConOk Tryz.prog 93 yDi:=(yRd).mono (fun x r _ h=>(yTl x.1).trans h)
end
end
end Go.Tf
