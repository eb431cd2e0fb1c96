/- Functions of the program, and what they come to. -/
import Derived.Test.YtfpjmijaiekbgaaGreatExactReplayF18
namespace Go.Tf
noncomputable section
open Go.Proofs
set_option synthInstance.maxHeartbeats 400000
set_option synthInstance.maxSize 10000
set_option linter.unusedVariables false
set_option linter.unusedSimpArgs false
set_option maxRecDepth 100000
section
def yex:Code:=(Tryz.f86.body).getD .skip
def yiq:Env:=zki TT [(78,yhX),(165,yub),(167,yDf),(168,yiV)] []
theorem yFa:FrOk Tryz.prog ⟨yiq,26,fun _=>none⟩ yex:=zkp yb yc ⟨yqE,yE0,yUj,ysC,trivial⟩
def yuO:Nat→Option Seg:=fun _=>none
def yT:Shape:=⟨[(0,false,[.ptr 1000000000 0]),(3,false,[.ptr 0 0]),(10,false,[.int .i64]),(11,false,[.int .i64])],[(0,[.int .i64,.int .i64,.br tI]),(1000000000,[.int .i64,.int .i64,.int .i64,.at 800000000,.int .i64,.int .i64,.int .i64,.int .i64,.int .i64,.at 800000001,.int .i64,.bool,.bool])],[(800000000,tM,(.pr (.ow (.ow .fz)) (.pr (.ow (.pr .fz (.ow .fz))) (.pr .fz (.ow .fz))))),(800000001,tW,(.pr .fz (.ow .fz)))]⟩
def ycB:Shape:=⟨[(0,false,[.ptr 1000000000 0]),(3,false,[.ptr 0 0]),(10,false,[.int .i64]),(11,false,[.ci .i64 0])],[(0,[.int .i64,.int .i64,.br tI]),(1000000000,[.int .i64,.int .i64,.int .i64,.at 800000000,.int .i64,.int .i64,.int .i64,.int .i64,.int .i64,.at 800000001,.int .i64,.bool,.bool])],[(800000000,tM,(.pr (.ow (.ow .fz)) (.pr (.ow (.pr .fz (.ow .fz))) (.pr .fz (.ow .fz))))),(800000001,tW,(.pr .fz (.ow .fz)))]⟩
def ycz:Shape:=⟨[(0,false,[.ptr 1000000000 0])],[(1000000000,[.int .i64,.int .i64,.int .i64,.at 800000000,.int .i64,.int .i64,.int .i64,.int .i64,.int .i64,.at 800000001,.int .i64,.bool,.bool])],[(800000000,tM,(.pr (.ow (.ow .fz)) (.pr (.ow (.pr .fz (.ow .fz))) (.pr .fz (.ow .fz))))),(800000001,tW,(.pr .fz (.ow .fz)))]⟩
def ycD:Shape:=⟨[(4,false,[.bool])],[(1000000000,[.int .i64,.int .i64,.int .i64,.at 800000000,.int .i64,.int .i64,.int .i64,.int .i64,.int .i64,.at 800000001,.int .i64,.bool,.bool])],[(800000000,tM,(.pr (.ow (.ow .fz)) (.pr (.ow (.pr .fz (.ow .fz))) (.pr .fz (.ow .fz))))),(800000001,tW,(.pr .fz (.ow .fz)))]⟩
abbrev yjW (v0:Int) (v1:Int) (v2:dN) (v3:dA):(yT).X:=((((),()),((),()),(v0,()),(v1,()),()),((v2.1,v2.2.1,v2.2.2,()),(v3.1,v3.2.1.1,v3.2.1.2,(),v3.2.2.2.1,v3.2.2.2.2.1,v3.2.2.2.2.2.1,v3.2.2.2.2.2.2.1,v3.2.2.2.2.2.2.2.1,(),v3.2.2.2.2.2.2.2.2.2.1,v3.2.2.2.2.2.2.2.2.2.2.1,v3.2.2.2.2.2.2.2.2.2.2.2,()),()),(v3.2.2.1,v3.2.2.2.2.2.2.2.2.1,()))
abbrev yEV (v0:Int) (v1:dN) (v2:dA):(ycB).X:=((((),()),((),()),(v0,()),((),()),()),((v1.1,v1.2.1,v1.2.2,()),(v2.1,v2.2.1.1,v2.2.1.2,(),v2.2.2.2.1,v2.2.2.2.2.1,v2.2.2.2.2.2.1,v2.2.2.2.2.2.2.1,v2.2.2.2.2.2.2.2.1,(),v2.2.2.2.2.2.2.2.2.2.1,v2.2.2.2.2.2.2.2.2.2.2.1,v2.2.2.2.2.2.2.2.2.2.2.2,()),()),(v2.2.2.1,v2.2.2.2.2.2.2.2.2.1,()))
abbrev yjY (v0:dA):(ycz).X:=((((),()),()),((v0.1,v0.2.1.1,v0.2.1.2,(),v0.2.2.2.1,v0.2.2.2.2.1,v0.2.2.2.2.2.1,v0.2.2.2.2.2.2.1,v0.2.2.2.2.2.2.2.1,(),v0.2.2.2.2.2.2.2.2.2.1,v0.2.2.2.2.2.2.2.2.2.2.1,v0.2.2.2.2.2.2.2.2.2.2.2,()),()),(v0.2.2.1,v0.2.2.2.2.2.2.2.2.1,()))
abbrev yj0 (v0:Bool) (v1:dA):(ycD).X:=(((v0,()),()),((v1.1,v1.2.1.1,v1.2.1.2,(),v1.2.2.2.1,v1.2.2.2.2.1,v1.2.2.2.2.2.1,v1.2.2.2.2.2.2.1,v1.2.2.2.2.2.2.2.1,(),v1.2.2.2.2.2.2.2.2.2.1,v1.2.2.2.2.2.2.2.2.2.2.1,v1.2.2.2.2.2.2.2.2.2.2.2,()),()),(v1.2.2.1,v1.2.2.2.2.2.2.2.2.1,()))
def ykf (v0:Int) (v1:Int) (v2:Int) (v3:Int) (v4:List Int) (v5:Int) (v6:Int) (v7:Int) (v8:Int) (v9:Int) (v10:Int) (v11:Int) (v12:Int) (v13:Int) (v14:Bool) (v15:Bool) (v16:List dM) (v17:List dW):Option ((yT).X ⊕ ((ycz).X ⊕ (ycD).X)) :=
  bif (ltb v1 v0) then
    let r4:=yl1 v2
    let r5:=yl0 (v2,v3,v4)
    bnd (ydB (v5,(v6,v7),v16,v8,v9,v10,v11,v12,v17,v13,v14,v15) v1 r4 r5) fun r6 =>
    bif (!r6.1.1) then
      some (.inr (.inr (((false,()),()),((r6.2.1.1,r6.2.1.2.1.1,r6.2.1.2.1.2,(),r6.2.1.2.2.2.1,r6.2.1.2.2.2.2.1,r6.2.1.2.2.2.2.2.1,r6.2.1.2.2.2.2.2.2.1,r6.2.1.2.2.2.2.2.2.2.1,(),r6.2.1.2.2.2.2.2.2.2.2.2.1,r6.2.1.2.2.2.2.2.2.2.2.2.2.1,r6.2.1.2.2.2.2.2.2.2.2.2.2.2,()),()),(r6.2.1.2.2.1,r6.2.1.2.2.2.2.2.2.2.2.1,()))))
    else
      some (.inl ((((),()),((),()),(v0,()),((IntKind.i64.wrap (v1+1)),()),()),((v2,v3,v4,()),(r6.2.1.1,r6.2.1.2.1.1,r6.2.1.2.1.2,(),r6.2.1.2.2.2.1,r6.2.1.2.2.2.2.1,r6.2.1.2.2.2.2.2.1,r6.2.1.2.2.2.2.2.2.1,r6.2.1.2.2.2.2.2.2.2.1,(),r6.2.1.2.2.2.2.2.2.2.2.2.1,r6.2.1.2.2.2.2.2.2.2.2.2.2.1,r6.2.1.2.2.2.2.2.2.2.2.2.2.2,()),()),(r6.2.1.2.2.1,r6.2.1.2.2.2.2.2.2.2.2.1,())))
  else
    some (.inr (.inl ((((),()),()),((v5,v6,v7,(),v8,v9,v10,v11,v12,(),v13,v14,v15,()),()),(v16,v17,()))))
def yaa (x:(yT).X):=ykf x.1.2.2.1.1 x.1.2.2.2.1.1 x.2.1.1.1 x.2.1.1.2.1 x.2.1.1.2.2.1 x.2.1.2.1.1 x.2.1.2.1.2.1 x.2.1.2.1.2.2.1 x.2.1.2.1.2.2.2.2.1 x.2.1.2.1.2.2.2.2.2.1 x.2.1.2.1.2.2.2.2.2.2.1 x.2.1.2.1.2.2.2.2.2.2.2.1 x.2.1.2.1.2.2.2.2.2.2.2.2.1 x.2.1.2.1.2.2.2.2.2.2.2.2.2.2.1 x.2.1.2.1.2.2.2.2.2.2.2.2.2.2.2.1 x.2.1.2.1.2.2.2.2.2.2.2.2.2.2.2.2.1 x.2.2.1 x.2.2.2.1
def ys4 (x:(ycB).X):(yT).X:=((((),()),((),()),(x.1.2.2.1.1,()),(0,()),()),((x.2.1.1.1,x.2.1.1.2.1,x.2.1.1.2.2.1,()),(x.2.1.2.1.1,x.2.1.2.1.2.1,x.2.1.2.1.2.2.1,(),x.2.1.2.1.2.2.2.2.1,x.2.1.2.1.2.2.2.2.2.1,x.2.1.2.1.2.2.2.2.2.2.1,x.2.1.2.1.2.2.2.2.2.2.2.1,x.2.1.2.1.2.2.2.2.2.2.2.2.1,(),x.2.1.2.1.2.2.2.2.2.2.2.2.2.2.1,x.2.1.2.1.2.2.2.2.2.2.2.2.2.2.2.1,x.2.1.2.1.2.2.2.2.2.2.2.2.2.2.2.2.1,()),()),(x.2.2.1,x.2.2.2.1,()))
def yt8:Code:=(zdI yex 64 52).getD .skip
theorem yE6:zdI yex 64 13=some (.block 0 (.loop yt8)):=by kernel_rfl
theorem yFq (x:(yT).X):zg7 ⟨yiq,26,yuO⟩ 0 yt8 52 yT ycz ycD x=yaa x:=by kernel_rfl
def ys6 (x:(ycB).X):Nat:=(fun (u0:Int) (u1:Int) (u2:Int) (u3:List Int) (u4:Int) (u5:Int) (u6:Int) (u7:Int) (u8:Int) (u9:Int) (u10:Int) (u11:Int) (u12:Int) (u13:Bool) (u14:Bool) (u15:List dM) (u16:List dW)=>18446744073709551616) x.1.2.2.1.1 x.2.1.1.1 x.2.1.1.2.1 x.2.1.1.2.2.1 x.2.1.2.1.1 x.2.1.2.1.2.1 x.2.1.2.1.2.2.1 x.2.1.2.1.2.2.2.2.1 x.2.1.2.1.2.2.2.2.2.1 x.2.1.2.1.2.2.2.2.2.2.1 x.2.1.2.1.2.2.2.2.2.2.2.1 x.2.1.2.1.2.2.2.2.2.2.2.2.1 x.2.1.2.1.2.2.2.2.2.2.2.2.2.2.1 x.2.1.2.1.2.2.2.2.2.2.2.2.2.2.2.1 x.2.1.2.1.2.2.2.2.2.2.2.2.2.2.2.2.1 x.2.2.1 x.2.2.2.1
def yko (x:(ycB).X):Option ((ycz).X ⊕ (ycD).X):=zr yaa (ys6 x) (ys4 x)
def yta:Seg:=⟨ycB,ycz,ycD,yko⟩
def yuP:Nat→Option Seg:=fun q=>bif Nat.beq q 13 then some yta else yuO q
theorem yFb:FrOk Tryz.prog ⟨yiq,26,yuP⟩ yex:=(yFa).loop (sg:=yta) yT ys4 (by decide) yE6 yaa ys6 (by decide) (fun _=>rfl) (fun x r _ h=>h) yFq
abbrev yaW:List Par:= [.pt tA (.pr .fz (.pr (.pr .fz .fz) (.pr (.ow (.pr (.ow (.ow .fz)) (.pr (.ow (.pr .fz (.ow .fz))) (.pr .fz (.ow .fz))))) (.pr .fz (.pr .fz (.pr .fz (.pr .fz (.pr .fz (.pr (.ow (.pr .fz (.ow .fz))) (.pr .fz (.pr .fz .fz))))))))))),.rd tN]
abbrev yeX:List OT:= [⟨false,tB,.fz⟩]
def ygg (a0:dA) (a1:dN):Option (ResD yeX×MutD yaW) :=
  zjw (yko ((((),()),((),()),((a0.2.2.1.length:Int),()),((),()),()),((a1.1,a1.2.1,a1.2.2,()),(a0.1,a0.2.1.1,a0.2.1.2,(),a0.2.2.2.1,a0.2.2.2.2.1,a0.2.2.2.2.2.1,a0.2.2.2.2.2.2.1,a0.2.2.2.2.2.2.2.1,(),a0.2.2.2.2.2.2.2.2.2.1,a0.2.2.2.2.2.2.2.2.2.2.1,a0.2.2.2.2.2.2.2.2.2.2.2,()),()),(a0.2.2.1,a0.2.2.2.2.2.2.2.2.1,()))) (fun y6 =>
    bnd (yen (y6.2.1.1.1,(y6.2.1.1.2.1,y6.2.1.1.2.2.1),y6.2.2.1,y6.2.1.1.2.2.2.2.1,y6.2.1.1.2.2.2.2.2.1,y6.2.1.1.2.2.2.2.2.2.1,y6.2.1.1.2.2.2.2.2.2.2.1,y6.2.1.1.2.2.2.2.2.2.2.2.1,y6.2.2.2.1,y6.2.1.1.2.2.2.2.2.2.2.2.2.2.1,y6.2.1.1.2.2.2.2.2.2.2.2.2.2.2.1,y6.2.1.1.2.2.2.2.2.2.2.2.2.2.2.2.1)) fun r8 =>
    some ((r8.1.1,()),(r8.2.1,()))) (fun y6 =>
    some ((y6.1.1.1,()),((y6.2.1.1.1,(y6.2.1.1.2.1,y6.2.1.1.2.2.1),y6.2.2.1,y6.2.1.1.2.2.2.2.1,y6.2.1.1.2.2.2.2.2.1,y6.2.1.1.2.2.2.2.2.2.1,y6.2.1.1.2.2.2.2.2.2.2.1,y6.2.1.1.2.2.2.2.2.2.2.2.1,y6.2.2.2.1,y6.2.1.1.2.2.2.2.2.2.2.2.2.2.1,y6.2.1.1.2.2.2.2.2.2.2.2.2.2.2.1,y6.2.1.1.2.2.2.2.2.2.2.2.2.2.2.2.1),())))
theorem yJP (x:InD yaW):zjH ⟨yiq,26,yuP⟩ Tryz.f86.results.toList yex yaW yeX x=ygg x.1 x.2.1:=by kernel_rfl
theorem yGI:ConOk Tryz.prog 86 ⟨yaW,yeX,fun x=>ygg x.1 x.2.1⟩:=zkh (yFb) Tryz.func86 (by kernel_rfl) (by kernel_rfl) Tryz.ntmps86.symm (by decide) (fun x r h=>(yJP x).trans h)
def yiX (a0:dA) (a1:dN):Bool×dA:=(!(yd (yDT a0 a1)),yDT a0 a1)
def ye7 (a0:dA) (a1:dN):Bool:= !(yd a0)
theorem yIN (a0:dA) (a1:dN) (hk:zi9 yaW (a0,a1,())) (hq:ye7 a0 a1=true):ygg a0 a1=(fun n=>some ((n.1,()),(n.2,()))) (yiX a0 a1):=by
  have hb:a0.2.2.1.length * 80≤2 ^ 47:=hk.1.2.2.1.1
  have hd0:yd a0=false:=by simpa [ye7] using hq
  have h1:yko (yEV a0.2.2.1.length a1 a0)=some (bif yd ((List.range a0.2.2.1.length).foldl (ye8 a1) a0) then .inr (yj0 false ((List.range a0.2.2.1.length).foldl (ye8 a1) a0)) else .inl (yjY ((List.range a0.2.2.1.length).foldl (ye8 a1) a0))):=by
    have:=zkr (step:=yaa) a0.2.2.1.length (fun i s=>yjW a0.2.2.1.length i a1 s) (fun i s=>bif yd (ye8 a1 s i) then (.inr (ye8 a1 s i):dA ⊕ dA) else .inl (ye8 a1 s i)) (fun _ s=>s.2.2.1.length=a0.2.2.1.length∧yd s=false) id
      (fun b=>bif yd b then .inr (yj0 false b) else .inl (yjY b)) (fun i s hi hs=>by
        constructor
        · simp only [yaa,yjW,ykf,zjI (show (i:Int) < a0.2.2.1.length by omega),cond_true,wr (show -9223372036854775808≤(i:Int)+1 by omega) (by omega),Int.natCast_add,Int.natCast_one,Int.toNat_natCast,zkV,yIn,yl0]
          rw [yqG s i (yi a1.1) (yoQ a1) (by unfold ybO; rw [zkO (by rw [hs.1]; exact hi),hs.2]; rfl)]
          simp only [zky,ybN]
          rw [show yfb s i (yi a1.1) (yoQ a1)=ye8 a1 s i from rfl]
          cases hd:yd (ye8 a1 s i)
          · rfl
          · simp only [hd,Bool.not_true,Bool.not_false,cond_true,yj0]
        · intro s' h
          cases hd:yd (ye8 a1 s i)
          · rw [hd]at h
            cases h
            exact ⟨(yzP a1 s i).trans hs.1,hd⟩
          · rw [hd]at h; cases h) (fun s hs=>by simp only [yaa,yjW,ykf,hs.2,zkm (Int.le_refl _),cond_false,id,yjY]) a0 ⟨rfl,hd0⟩ 18446744073709551616 (by omega)
    rw [yBy (fun a i h=>yXE a1 i h),← List.range_eq_range'] at this
    exact this
  unfold ygg yiX yDT
  refine (congrArg (fun z=>zjw z _ _) h1).trans ?_
  cases hd:yd ((List.range a0.2.2.1.length).foldl (ye8 a1) a0)
  · simp only [cond_false,zkJ,zkV]
    rw [ysD _ (by unfold yeo; rw [hd]; rfl)]; rfl
  · rw [yUV hd]
    simp only [cond_true,zkK,zkV]
    rw [hd]; rfl
def ye6 (a0:dA) (a1:dN):Option (ResD yeX×MutD yaW):=bif ye7 a0 a1 then (fun n=>some ((n.1,()),(n.2,()))) (yiX a0 a1) else none
theorem yI3 (a0:dA) (a1:dN) (h:ye7 a0 a1=true):ye6 a0 a1=(fun n=>some ((n.1,()),(n.2,()))) (yiX a0 a1):=by unfold ye6; rw [h]; rfl
def yuU:Con:=⟨yaW,yeX,fun x=>ye6 x.1 x.2.1⟩
theorem yIZ:ConOk Tryz.prog 86 yuU:=(yGI).mono (fun x r hk h=>zkW h (fun hq=>yIN x.1 x.2.1 hk hq))
end
section
def yFv:Code:=(Tryz.f79.body).getD .skip
def yFQ:Env:=zki TT [(114,yp)] []
theorem yMi:FrOk Tryz.prog ⟨yFQ,9,fun _=>none⟩ yFv:=zkp yb yc ⟨yE,trivial⟩
def yOV:Nat→Option Seg:=fun _=>none
abbrev ylF:List Par:= [.rd tI]
abbrev yrs:List OT:= [⟨false,tI,.fz⟩]
def yuy (a0:Int):Option (ResD yrs×MutD ylF) :=
  let r1:=ye a0 0 1099511627776
  bif (!r1) then
    some (((-1),()),())
  else
    some (((IntKind.i64.wrap ((IntKind.i64.wrap (a0+2))+4)),()),())
theorem yU2 (x:InD ylF):zjH ⟨yFQ,9,yOV⟩ Tryz.f79.results.toList yFv ylF yrs x=yuy x.1:=by kernel_rfl
theorem yQ4:ConOk Tryz.prog 79 ⟨ylF,yrs,fun x=>yuy x.1⟩:=zkh (yMi) Tryz.func79 (by kernel_rfl) (by kernel_rfl) Tryz.ntmps79.symm (by decide) (fun x r h=>(yU2 x).trans h)
def yrZ (a0:Int):Int :=
  let r1:=ye a0 0 1099511627776
  bif (!r1) then
    (-1)
  else
    (IntKind.i64.wrap ((IntKind.i64.wrap (a0+2))+4))
def yDb:Con:=⟨ylF,yrs,fun x=>(fun n=>some ((n,()),())) (yrZ x.1)⟩
theorem yTc (a0:Int):yuy a0=(fun n=>some ((n,()),())) (yrZ a0):=zkS (p:=fun (n:Int)=>((n,()),())) (zkx (p:=fun (n:Int)=>((n,()),())) rfl rfl)
theorem yUf:ConOk Tryz.prog 79 yDb:=(yQ4).mono (fun x r _ h=>(yTc x.1).trans h)
theorem yS8 (s:Int):yrZ s=yuf s:=yE5 s
end
section
def yB9:Code:=(Tryz.f170.body).getD .skip
def yCM:Env:=zki TT [(100,yhY)] []
theorem yHW:FrOk Tryz.prog ⟨yCM,17,fun _=>none⟩ yB9:=zkp yb yc ⟨yqF,trivial⟩
def yJo:Nat→Option Seg:=fun _=>none
abbrev yd4:List Par:= [.rd tG,.rd tI]
abbrev ymY:List OT:= [⟨false,tI,.fz⟩]
def yi3 (a0:dG) (a1:Int):Option (ResD ymY×MutD yd4) :=
  let r1:=yaz a0 a1
  bif (!r1) then
    some (((-1),()),())
  else
    bif (a0.1 !=0) then
      some (((IntKind.i64.wrap ((IntKind.i64.wrap (a0.1 - 1)) - (a1.tmod a0.1))),()),())
    else none
theorem yPC (x:InD yd4):zjH ⟨yCM,17,yJo⟩ Tryz.f170.results.toList yB9 yd4 ymY x=yi3 x.1 x.2.1:=by kernel_rfl
theorem yKS:ConOk Tryz.prog 170 ⟨yd4,ymY,fun x=>yi3 x.1 x.2.1⟩:=zkh (yHW) Tryz.func170 (by kernel_rfl) (by kernel_rfl) Tryz.ntmps170.symm (by decide) (fun x r h=>(yPC x).trans h)
def ycF (a0:dG) (a1:Int):Int:=yg a0 a1
theorem yNE (a0:dG) (a1:Int) (hk:zi9 yd4 (a0,a1,())):yi3 a0 a1=(fun n=>some ((n,()),())) (ycF a0 a1):=by
  unfold yi3 ycF
  rw [yLK]
  cases hs:yjh a0 a1
  · unfold yg; rw [hs]; rfl
  · have h1:=ykk.1 hs
    have h2:=yaF.1 h1.1
    have h3:=ys9 hs
    have h4:yg a0 a1=a0.1 - 1 - a1.tmod a0.1:=by unfold yg; rw [hs]; rfl
    rw [show (a0.1 !=0)=true from bne_iff_ne.2 (by omega),wr (show -9223372036854775808≤a0.1 - 1 by omega) (by omega),wr (show -9223372036854775808≤a0.1 - 1 - a1.tmod a0.1 by omega) (by omega),h4]; rfl
def yqu:Con:=⟨yd4,ymY,fun x=>(fun n=>some ((n,()),())) (ycF x.1 x.2.1)⟩
theorem yBI:ConOk Tryz.prog 170 yqu:=(yKS).mono (fun x r hk h=>(yNE x.1 x.2.1 hk).trans h)
end
section
def yFw:Code:=(Tryz.f127.body).getD .skip
def yFR:Env:=zki TT [(100,yhY),(114,yp),(170,yqu)] []
theorem yMj:FrOk Tryz.prog ⟨yFR,28,fun _=>none⟩ yFw:=zkp yb yc ⟨yqF,yE,yBI,trivial⟩
def yOW:Nat→Option Seg:=fun _=>none
abbrev ygj:List Par:= [.rd tG,.rd tI,.rd tI]
abbrev yrt:List OT:= [⟨false,tI,.fz⟩]
def yny (a0:dG) (a1:Int) (a2:Int):Option (ResD yrt×MutD ygj) :=
  let r1:=yaz a0 a1
  bif (!(!r1)) then
    let r2:=ye a2 0 (IntKind.i64.wrap (a0.1 - 2))
    bif (!r2) then
      some (((-1),()),())
    else
      let r3:=ycF a0 a1
      bif (a0.1 !=0) then
        some ((((IntKind.i64.wrap ((IntKind.i64.wrap (r3+1))+a2)).tmod a0.1),()),())
      else none
  else
    some (((-1),()),())
theorem yU3 (x:InD ygj):zjH ⟨yFR,28,yOW⟩ Tryz.f127.results.toList yFw ygj yrt x=yny x.1 x.2.1 x.2.2.1:=by kernel_rfl
theorem yQ5:ConOk Tryz.prog 127 ⟨ygj,yrt,fun x=>yny x.1 x.2.1 x.2.2.1⟩:=zkh (yMj) Tryz.func127 (by kernel_rfl) (by kernel_rfl) Tryz.ntmps127.symm (by decide) (fun x r h=>(yU3 x).trans h)
def ylX (a0:dG) (a1 a2:Int):Int:=yug a0 a1 a2
theorem yTd (a0:dG) (a1 a2:Int) (hk:zi9 ygj (a0,a1,a2,())):yny a0 a1 a2=(fun n=>some ((n,()),())) (ylX a0 a1 a2):=by
  unfold yny ylX yug ycF
  rw [yLK]
  cases hs:yjh a0 a1
  · rfl
  · have h1:=ykk.1 hs
    have h2:=yaF.1 h1.1
    have h3:=ys9 hs
    rw [yV,yiW,wr (show -9223372036854775808≤a0.1 - 2 by omega) (by omega)]
    cases hi:(leb 0 a2&&leb a2 (a0.1 - 2))
    · rfl
    · rw [Bool.and_eq_true,zjQ,zjQ]at hi
      rw [show (a0.1 !=0)=true from bne_iff_ne.2 (by omega)]
      show some (((IntKind.i64.wrap (IntKind.i64.wrap (yg a0 a1+1)+a2)).tmod a0.1,()),())=some (((yg a0 a1+1+a2).tmod a0.1,()),())
      rw [wr (show -9223372036854775808≤yg a0 a1+1 by omega) (by omega),wr (show -9223372036854775808≤yg a0 a1+1+a2 by omega) (by omega)]
def yDc:Con:=⟨ygj,yrt,fun x=>(fun n=>some ((n,()),())) (ylX x.1 x.2.1 x.2.2.1)⟩
theorem yUg:ConOk Tryz.prog 127 yDc:=(yQ5).mono (fun x r hk h=>(yTd x.1 x.2.1 x.2.2.1 hk).trans h)
end
section
def ynX:Code:=(Tryz.f202.body).getD .skip
def yti:Env:=zki TT [] []
theorem yP5:FrOk Tryz.prog ⟨yti,17,fun _=>none⟩ ynX:=zkp yb yc trivial
def yD6:Nat→Option Seg:=fun _=>none
def ycr:Shape:=⟨[(3,false,[.int .i64]),(6,false,[.br tI]),(7,false,[.int .i64]),(8,false,[.int .i64])],[],[]⟩
def yhp:Shape:=⟨[(3,false,[.ci .i64 0]),(6,false,[.br tI]),(7,false,[.int .i64]),(8,false,[.ci .i64 0])],[],[]⟩
def yg7:Shape:=⟨[(3,false,[.int .i64])],[],[]⟩
def ynf:Shape:=⟨[],[],[]⟩
abbrev ysu (v0:Int) (v1:List Int) (v2:Int) (v3:Int):(ycr).X:=(((v0,()),(v1,()),(v2,()),(v3,()),()),(),())
abbrev yNm (v0:List Int) (v1:Int):(yhp).X:=((((),()),(v0,()),(v1,()),((),()),()),(),())
abbrev yBB (v0:Int):(yg7).X:=(((v0,()),()),(),())
def ysQ (v0:Int) (v1:List Int) (v2:Int) (v3:Int):Option ((ycr).X ⊕ ((yg7).X ⊕ (ynf).X)) :=
  bif (ltb v3 v2) then
    bif (inb v3 v1.length) then
      some (.inl ((((IntKind.i64.wrap ((BitVec.ofInt IntKind.i64.bits v0 ^^^ BitVec.ofInt IntKind.i64.bits (nth v1 v3 0)).toNat:Int)),()),(v1,()),(v2,()),((IntKind.i64.wrap (v3+1)),()),()),(),()))
    else none
  else
    some (.inr (.inl (((v0,()),()),(),())))
def ycW (x:(ycr).X):=ysQ x.1.1.1 x.1.2.1.1 x.1.2.2.1.1 x.1.2.2.2.1.1
def yA6 (x:(yhp).X):(ycr).X:=(((0,()),(x.1.2.1.1,()),(x.1.2.2.1.1,()),(0,()),()),(),())
def yC0:Code:=(zdI ynX 64 116).getD .skip
theorem yPj:zdI ynX 64 29=some (.block 0 (.loop yC0)):=by kernel_rfl
theorem yR5 (x:(ycr).X):zg7 ⟨yti,17,yD6⟩ 0 yC0 116 ycr yg7 ynf x=ycW x:=by kernel_rfl
def yBn (x:(yhp).X):Nat:=(fun (u0:List Int) (u1:Int)=>18446744073709551616) x.1.2.1.1 x.1.2.2.1.1
def ytu (x:(yhp).X):Option ((yg7).X ⊕ (ynf).X):=zr ycW (yBn x) (yA6 x)
def yBQ:Seg:=⟨yhp,yg7,ynf,ytu⟩
def yD7:Nat→Option Seg:=fun q=>bif Nat.beq q 29 then some yBQ else yD6 q
theorem yP6:FrOk Tryz.prog ⟨yti,17,yD7⟩ ynX:=(yP5).loop (sg:=yBQ) ycr yA6 (by decide) yPj ycW yBn (by decide) (fun _=>rfl) (fun x r _ h=>h) yR5
abbrev yjA:List Par:= [.rd tL]
abbrev ytK:List OT:= [⟨false,tI,.fz⟩]
def yp1 (a0:List Int):Option (ResD ytK×MutD yjA) :=
  zjw (ytu ((((),()),(a0,()),((a0.length:Int),()),((),()),()),(),())) (fun y0 =>
    some ((y0.1.1.1,()),())) (fun y0 =>
    none)
theorem yWI (x:InD yjA):zjH ⟨yti,17,yD7⟩ Tryz.f202.results.toList ynX yjA ytK x=yp1 x.1:=by kernel_rfl
theorem yTR:ConOk Tryz.prog 202 ⟨yjA,ytK,fun x=>yp1 x.1⟩:=zkh (yP6) Tryz.func202 (by kernel_rfl) (by kernel_rfl) Tryz.ntmps202.symm (by decide) (fun x r h=>(yWI x).trans h)
def yj5 (a0:List Int):Int:=ynV a0
theorem yVK (a0:List Int) (hk:zi9 yjA (a0,())):yp1 a0=(fun n=>some ((n,()),())) (yj5 a0):=by
  have hb:a0.length * 8≤2 ^ 47:=hk.1.1
  have h1:ytu (yNm a0 a0.length)=some (.inl (yBB (ynV a0))) :=
    zkk (step:=ycW) a0 0 (fun i s=>ysu s a0 a0.length i) xw (fun _ _=>True) (fun s=> .inl (yBB s)) (fun i s hi _=>⟨by
      simp only [ycW,ysu,ysQ,zjI (show (i:Int) < a0.length by omega),cond_true,wr (show -9223372036854775808≤(i:Int)+1 by omega) (by omega),Int.natCast_add,Int.natCast_one,Int.toNat_natCast,zkO hi,zjW]; rfl,trivial⟩) (fun s _=>by simp only [ycW,ysu,ysQ,zkm (Int.le_refl _),cond_false]) 0 trivial _ (by show _ < 18446744073709551616; omega)
  unfold yp1 yj5
  rw [h1]; rfl
def yEv:Con:=⟨yjA,ytK,fun x=>(fun n=>some ((n,()),())) (yj5 x.1)⟩
theorem yWe:ConOk Tryz.prog 202 yEv:=(yTR).mono (fun x r hk h=>(yVK x.1 hk).trans h)
end
section
def yxU:Code:=(Tryz.f169.body).getD .skip
def yyl:Env:=zki TT [(202,yEv)] []
theorem yFc:FrOk Tryz.prog ⟨yyl,5,fun _=>none⟩ yxU:=zkp yb yc ⟨yWe,trivial⟩
def yGi:Nat→Option Seg:=fun _=>none
abbrev yey:List Par:= [.rd tL]
abbrev yiF:List OT:= [⟨false,tI,.fz⟩]
def ymp (a0:List Int):Option (ResD yiF×MutD yey) :=
  let r1:=yj5 a0
  some ((r1,()),())
theorem yJQ (x:InD yey):zjH ⟨yyl,5,yGi⟩ Tryz.f169.results.toList yxU yey yiF x=ymp x.1:=by kernel_rfl
theorem yGJ:ConOk Tryz.prog 169 ⟨yey,yiF,fun x=>ymp x.1⟩:=zkh (yFc) Tryz.func169 (by kernel_rfl) (by kernel_rfl) Tryz.ntmps169.symm (by decide) (fun x r h=>(yJQ x).trans h)
def yiY (a0:List Int):Int :=
  let r1:=yj5 a0
  r1
def yuV:Con:=⟨yey,yiF,fun x=>(fun n=>some ((n,()),())) (yiY x.1)⟩
theorem yIO (a0:List Int):ymp a0=(fun n=>some ((n,()),())) (yiY a0):=zkS (p:=fun (n:Int)=>((n,()),())) rfl
theorem yI0:ConOk Tryz.prog 169 yuV:=(yGJ).mono (fun x r _ h=>(yIO x.1).trans h)
end
end
end Go.Tf
