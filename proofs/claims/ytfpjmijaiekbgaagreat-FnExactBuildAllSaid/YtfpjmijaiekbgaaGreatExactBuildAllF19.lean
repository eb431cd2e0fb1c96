/- Functions of the program, and what they come to. -/
import Derived.Test.YtfpjmijaiekbgaaGreatExactBuildAllF18
namespace Go.Tf
noncomputable section
open Go.Proofs
set_option synthInstance.maxHeartbeats 400000
set_option synthInstance.maxSize 10000
set_option linter.unusedVariables false
set_option linter.unusedSimpArgs false
set_option maxRecDepth 100000
section
def ygD:Code:=(Tryz.f168.body).getD .skip
def yl1:Env:=zki TT [(154,ys1),(231,yxs)] []
theorem yGo:FrOk Tryz.prog ⟨yl1,38,fun _=>none⟩ ygD:=zkp yb yc ⟨yDs,yMl,trivial⟩
def ywM:Nat→Option Seg:=fun _=>none
def yat:Shape:=⟨[(0,false,[.ptr 1000000000 0]),(8,false,[.int .i64]),(9,false,[.int .i64])],[(1000000000,[.int .i64,.int .i64,.int .i64,.at 800000000,.int .i64,.int .i64,.int .i64,.int .i64,.int .i64,.at 800000001,.int .i64,.bool,.bool])],[(800000000,tM,(.pr (.ow (.ow .fz)) (.pr (.ow (.pr .fz (.ow .fz))) (.pr .fz (.ow .fz))))),(800000001,tW,(.pr .fz (.ow .fz)))]⟩
def ydK:Shape:=⟨[(0,false,[.ptr 1000000000 0]),(8,false,[.int .i64]),(9,false,[.ci .i64 0])],[(1000000000,[.int .i64,.int .i64,.int .i64,.at 800000000,.int .i64,.int .i64,.int .i64,.int .i64,.int .i64,.at 800000001,.int .i64,.bool,.bool])],[(800000000,tM,(.pr (.ow (.ow .fz)) (.pr (.ow (.pr .fz (.ow .fz))) (.pr .fz (.ow .fz))))),(800000001,tW,(.pr .fz (.ow .fz)))]⟩
def ydD:Shape:=⟨[],[(1000000000,[.int .i64,.int .i64,.int .i64,.at 800000000,.int .i64,.int .i64,.int .i64,.int .i64,.int .i64,.at 800000001,.int .i64,.bool,.bool])],[(800000000,tM,(.pr (.ow (.ow .fz)) (.pr (.ow (.pr .fz (.ow .fz))) (.pr .fz (.ow .fz))))),(800000001,tW,(.pr .fz (.ow .fz)))]⟩
def ydR:Shape:=⟨[(2,false,[.bool])],[(1000000000,[.int .i64,.int .i64,.int .i64,.at 800000000,.int .i64,.int .i64,.int .i64,.int .i64,.int .i64,.at 800000001,.int .i64,.bool,.bool])],[(800000000,tM,(.pr (.ow (.ow .fz)) (.pr (.ow (.pr .fz (.ow .fz))) (.pr .fz (.ow .fz))))),(800000001,tW,(.pr .fz (.ow .fz)))]⟩
abbrev yga (v0:Int) (v1:Int) (v2:dA):(yat).X:=((((),()),(v0,()),(v1,()),()),((v2.1,v2.2.1.1,v2.2.1.2,(),v2.2.2.2.1,v2.2.2.2.2.1,v2.2.2.2.2.2.1,v2.2.2.2.2.2.2.1,v2.2.2.2.2.2.2.2.1,(),v2.2.2.2.2.2.2.2.2.2.1,v2.2.2.2.2.2.2.2.2.2.2.1,v2.2.2.2.2.2.2.2.2.2.2.2,()),()),(v2.2.2.1,v2.2.2.2.2.2.2.2.2.1,()))
abbrev yEW (v0:Int) (v1:dA):(ydK).X:=((((),()),(v0,()),((),()),()),((v1.1,v1.2.1.1,v1.2.1.2,(),v1.2.2.2.1,v1.2.2.2.2.1,v1.2.2.2.2.2.1,v1.2.2.2.2.2.2.1,v1.2.2.2.2.2.2.2.1,(),v1.2.2.2.2.2.2.2.2.2.1,v1.2.2.2.2.2.2.2.2.2.2.1,v1.2.2.2.2.2.2.2.2.2.2.2,()),()),(v1.2.2.1,v1.2.2.2.2.2.2.2.2.1,()))
abbrev ylJ (v0:dA):(ydD).X:=((),((v0.1,v0.2.1.1,v0.2.1.2,(),v0.2.2.2.1,v0.2.2.2.2.1,v0.2.2.2.2.2.1,v0.2.2.2.2.2.2.1,v0.2.2.2.2.2.2.2.1,(),v0.2.2.2.2.2.2.2.2.2.1,v0.2.2.2.2.2.2.2.2.2.2.1,v0.2.2.2.2.2.2.2.2.2.2.2,()),()),(v0.2.2.1,v0.2.2.2.2.2.2.2.2.1,()))
abbrev ylL (v0:Bool) (v1:dA):(ydR).X:=(((v0,()),()),((v1.1,v1.2.1.1,v1.2.1.2,(),v1.2.2.2.1,v1.2.2.2.2.1,v1.2.2.2.2.2.1,v1.2.2.2.2.2.2.1,v1.2.2.2.2.2.2.2.1,(),v1.2.2.2.2.2.2.2.2.2.1,v1.2.2.2.2.2.2.2.2.2.2.1,v1.2.2.2.2.2.2.2.2.2.2.2,()),()),(v1.2.2.1,v1.2.2.2.2.2.2.2.2.1,()))
def ylO (v0:Int) (v1:Int) (v2:Int) (v3:Int) (v4:Int) (v5:Int) (v6:Int) (v7:Int) (v8:Int) (v9:Int) (v10:Int) (v11:Bool) (v12:Bool) (v13:List dM) (v14:List dW):Option ((yat).X ⊕ ((ydD).X ⊕ (ydR).X)) :=
  bif (ltb v1 v0) then
    bif (inb v1 v13.length) then
      bif (((nth v13 v1 ([],[],false,[])).2).2).1 then
        some (.inl ((((),()),(v0,()),((IntKind.i64.wrap (v1+1)),()),()),((v2,v3,v4,(),v5,v6,v7,v8,v9,(),v10,v11,v12,()),()),(v13,v14,())))
      else
        let r3:=ygx (v2,(v3,v4),v13,v5,v6,v7,v8,v9,v14,v10,v11,v12)
        bif (!r3.1) then
          some (.inr (.inr (((false,()),()),((r3.2.1,r3.2.2.1.1,r3.2.2.1.2,(),r3.2.2.2.2.1,r3.2.2.2.2.2.1,r3.2.2.2.2.2.2.1,r3.2.2.2.2.2.2.2.1,r3.2.2.2.2.2.2.2.2.1,(),r3.2.2.2.2.2.2.2.2.2.2.1,r3.2.2.2.2.2.2.2.2.2.2.2.1,r3.2.2.2.2.2.2.2.2.2.2.2.2,()),()),(r3.2.2.2.1,r3.2.2.2.2.2.2.2.2.2.1,()))))
        else
          bif (inb v1 r3.2.2.2.1.length) then
            let r4:=yhS ((nth r3.2.2.2.1 v1 ([],[],false,[])).1,((nth r3.2.2.2.1 v1 ([],[],false,[])).2).1,(((nth r3.2.2.2.1 v1 ([],[],false,[])).2).2))
            bif (inb v1 r3.2.2.2.1.length) then
              some (.inl ((((),()),(v0,()),((IntKind.i64.wrap (v1+1)),()),()),((r3.2.1,r3.2.2.1.1,r3.2.2.1.2,(),r3.2.2.2.2.1,r3.2.2.2.2.2.1,r3.2.2.2.2.2.2.1,r3.2.2.2.2.2.2.2.1,r3.2.2.2.2.2.2.2.2.1,(),r3.2.2.2.2.2.2.2.2.2.2.1,r3.2.2.2.2.2.2.2.2.2.2.2.1,r3.2.2.2.2.2.2.2.2.2.2.2.2,()),()),((r3.2.2.2.1.set (v1).toNat r4),r3.2.2.2.2.2.2.2.2.2.1,())))
            else none
          else none
    else none
  else
    some (.inr (.inl ((),((v2,v3,v4,(),v5,v6,v7,v8,v9,(),v10,v11,v12,()),()),(v13,v14,()))))
def yaO (x:(yat).X):=ylO x.1.2.1.1 x.1.2.2.1.1 x.2.1.1.1 x.2.1.1.2.1 x.2.1.1.2.2.1 x.2.1.1.2.2.2.2.1 x.2.1.1.2.2.2.2.2.1 x.2.1.1.2.2.2.2.2.2.1 x.2.1.1.2.2.2.2.2.2.2.1 x.2.1.1.2.2.2.2.2.2.2.2.1 x.2.1.1.2.2.2.2.2.2.2.2.2.2.1 x.2.1.1.2.2.2.2.2.2.2.2.2.2.2.1 x.2.1.1.2.2.2.2.2.2.2.2.2.2.2.2.1 x.2.2.1 x.2.2.2.1
def ytI (x:(ydK).X):(yat).X:=((((),()),(x.1.2.1.1,()),(0,()),()),((x.2.1.1.1,x.2.1.1.2.1,x.2.1.1.2.2.1,(),x.2.1.1.2.2.2.2.1,x.2.1.1.2.2.2.2.2.1,x.2.1.1.2.2.2.2.2.2.1,x.2.1.1.2.2.2.2.2.2.2.1,x.2.1.1.2.2.2.2.2.2.2.2.1,(),x.2.1.1.2.2.2.2.2.2.2.2.2.2.1,x.2.1.1.2.2.2.2.2.2.2.2.2.2.2.1,x.2.1.1.2.2.2.2.2.2.2.2.2.2.2.2.1,()),()),(x.2.2.1,x.2.2.2.1,()))
def yvg:Code:=(zdI ygD 64 52).getD .skip
theorem yF0:zdI ygD 64 13=some (.block 0 (.loop yvg)):=by kernel_rfl
theorem yHn (x:(yat).X):zg7 ⟨yl1,38,ywM⟩ 0 yvg 52 yat ydD ydR x=yaO x:=by kernel_rfl
def ytV (x:(ydK).X):Nat:=(fun (u0:Int) (u1:Int) (u2:Int) (u3:Int) (u4:Int) (u5:Int) (u6:Int) (u7:Int) (u8:Int) (u9:Int) (u10:Bool) (u11:Bool) (u12:List dM) (u13:List dW)=>18446744073709551616) x.1.2.1.1 x.2.1.1.1 x.2.1.1.2.1 x.2.1.1.2.2.1 x.2.1.1.2.2.2.2.1 x.2.1.1.2.2.2.2.2.1 x.2.1.1.2.2.2.2.2.2.1 x.2.1.1.2.2.2.2.2.2.2.1 x.2.1.1.2.2.2.2.2.2.2.2.1 x.2.1.1.2.2.2.2.2.2.2.2.2.2.1 x.2.1.1.2.2.2.2.2.2.2.2.2.2.2.1 x.2.1.1.2.2.2.2.2.2.2.2.2.2.2.2.1 x.2.2.1 x.2.2.2.1
def ynj (x:(ydK).X):Option ((ydD).X ⊕ (ydR).X):=zr yaO (ytV x) (ytI x)
def yuc:Seg:=⟨ydK,ydD,ydR,ynj⟩
def ywN:Nat→Option Seg:=fun q=>bif Nat.beq q 13 then some yuc else ywM q
theorem yGp:FrOk Tryz.prog ⟨yl1,38,ywN⟩ ygD:=(yGo).loop (sg:=yuc) yat ytI (by decide) yF0 yaO ytV (by decide) (fun _=>rfl) (fun x r _ h=>h) yHn
abbrev ycn:List Par:= [.pt tA (.pr .fz (.pr (.pr .fz .fz) (.pr (.ow (.pr (.ow (.ow .fz)) (.pr (.ow (.pr .fz (.ow .fz))) (.pr .fz (.ow .fz))))) (.pr .fz (.pr .fz (.pr .fz (.pr .fz (.pr .fz (.pr (.ow (.pr .fz (.ow .fz))) (.pr .fz (.pr .fz .fz)))))))))))]
abbrev yhq:List OT:= [⟨false,tB,.fz⟩]
def yiL (a0:dA):Option (ResD yhq×MutD ycn) :=
  zjw (ynj ((((),()),((a0.2.2.1.length:Int),()),((),()),()),((a0.1,a0.2.1.1,a0.2.1.2,(),a0.2.2.2.1,a0.2.2.2.2.1,a0.2.2.2.2.2.1,a0.2.2.2.2.2.2.1,a0.2.2.2.2.2.2.2.1,(),a0.2.2.2.2.2.2.2.2.2.1,a0.2.2.2.2.2.2.2.2.2.2.1,a0.2.2.2.2.2.2.2.2.2.2.2,()),()),(a0.2.2.1,a0.2.2.2.2.2.2.2.2.1,()))) (fun y4 =>
    some ((true,()),((y4.2.1.1.1,(y4.2.1.1.2.1,y4.2.1.1.2.2.1),y4.2.2.1,y4.2.1.1.2.2.2.2.1,y4.2.1.1.2.2.2.2.2.1,y4.2.1.1.2.2.2.2.2.2.1,y4.2.1.1.2.2.2.2.2.2.2.1,y4.2.1.1.2.2.2.2.2.2.2.2.1,y4.2.2.2.1,y4.2.1.1.2.2.2.2.2.2.2.2.2.2.1,y4.2.1.1.2.2.2.2.2.2.2.2.2.2.2.1,y4.2.1.1.2.2.2.2.2.2.2.2.2.2.2.2.1),()))) (fun y4 =>
    some ((y4.1.1.1,()),((y4.2.1.1.1,(y4.2.1.1.2.1,y4.2.1.1.2.2.1),y4.2.2.1,y4.2.1.1.2.2.2.2.1,y4.2.1.1.2.2.2.2.2.1,y4.2.1.1.2.2.2.2.2.2.1,y4.2.1.1.2.2.2.2.2.2.2.1,y4.2.1.1.2.2.2.2.2.2.2.2.1,y4.2.2.2.1,y4.2.1.1.2.2.2.2.2.2.2.2.2.2.1,y4.2.1.1.2.2.2.2.2.2.2.2.2.2.2.1,y4.2.1.1.2.2.2.2.2.2.2.2.2.2.2.2.1),())))
theorem yNr (x:InD ycn):zjH ⟨yl1,38,ywN⟩ Tryz.f168.results.toList ygD ycn yhq x=yiL x.1:=by kernel_rfl
theorem yI5:ConOk Tryz.prog 168 ⟨ycn,yhq,fun x=>yiL x.1⟩:=zkh (yGp) Tryz.func168 (by kernel_rfl) (by kernel_rfl) Tryz.ntmps168.symm (by decide) (fun x r h=>(yNr x).trans h)
def yhR (a0:dA):Bool×dA:=(!(yd (yL a0)),yL a0)
def yh0 (a0:dA):Bool:= !(yd a0)
theorem yLF (a0:dA) (hk:zi9 ycn (a0,())) (hq:yh0 a0=true):yiL a0=(fun n=>some ((n.1,()),(n.2,()))) (yhR a0):=by
  have hb:a0.2.2.1.length * 80≤2 ^ 47:=hk.1.2.2.1.1
  have h1:ynj (yEW a0.2.2.1.length a0)=some (bif yd (yL a0) then .inr (ylL false (yL a0)) else .inl (ylJ (yL a0))):=by
    have:=zkr (step:=yaO) a0.2.2.1.length (fun i s=>yga a0.2.2.1.length i s) (fun i s=>bif yd (yG s i) then (.inr (yG s i):dA ⊕ dA) else .inl (yG s i)) (fun _ s=>s.2.2.1.length=a0.2.2.1.length∧yd s=false) id
      (fun b=>bif yd b then .inr (ylL false b) else .inl (ylJ b)) (fun i s hi hs=>by
        constructor
        · rw [yU6 hs.2]
          simp only [yaO,yga,ylO,hs.1,zjI (show (i:Int) < a0.2.2.1.length by omega),cond_true,wr (show -9223372036854775808≤(i:Int)+1 by omega) (by omega),Int.natCast_add,Int.natCast_one,Int.toNat_natCast,zkO hi,zkV,yOv hs.2,ydq,yhS]
          cases hf:(nth s.2.2.1 i yf).2.2.1
          · cases ho:(opA s).1
            · have e:yG s i=(opA s).2:=by unfold yG; rw [hf,ho]; rfl
              have d:yd (opA s).2=true:=by rw [ySd hs.2,ho]; rfl
              rw [e]
              simp only [Bool.not_false,Bool.and_self,cond_true,cond_false,d,ydq,ylL]
            · have e:yG s i=yAv (opA s).2 i (yfR (nth s.2.2.1 i yf)):=by unfold yG; rw [hf,ho]; rfl
              rw [e]
              simp only [Bool.not_true,Bool.not_false,Bool.and_false,cond_true,cond_false,yga,yAv,ydq,Int.toNat_natCast]
          · have e:yG s i=s:=by unfold yG; rw [hf]; rfl
            rw [e]; rfl
        · intro s' h
          cases hd:yd (yG s i)
          · rw [hd]at h
            cases h
            exact ⟨(yu5 s i).trans hs.1,hd⟩
          · rw [hd]at h; cases h) (fun s hs=>by simp only [yaO,yga,ylO,hs.2,zkm (Int.le_refl _),cond_false,id,ylJ]) a0 ⟨rfl,by simpa [yh0] using hq⟩ 18446744073709551616 (by omega)
    rw [yLe (fun a i h=>yHA i h),← List.range_eq_range'] at this
    exact this
  unfold yiL yhR
  rw [h1]
  cases hd:yd (yL a0)<;>rfl
def yhZ (a0:dA):Option (ResD yhq×MutD ycn):=bif yh0 a0 then (fun n=>some ((n.1,()),(n.2,()))) (yhR a0) else none
theorem yAt (a0:dA) (h:yh0 a0=true):yhZ a0=(fun n=>some ((n.1,()),(n.2,()))) (yhR a0):=by unfold yhZ; rw [h]; rfl
def ypF:Con:=⟨ycn,yhq,fun x=>yhZ x.1⟩
theorem yAr:ConOk Tryz.prog 168 ypF:=(yI5).mono (fun x r hk h=>zkW h (fun hq=>yLF x.1 hk hq))
end
section
def yCj:Code:=(Tryz.f258.body).getD .skip
def yCJ:Env:=zki TT [(114,yo),(129,yoV),(130,ys5)] []
theorem yH7:FrOk Tryz.prog ⟨yCJ,44,fun _=>none⟩ yCj:=zkp yb yc ⟨yF,ywz,yDv,trivial⟩
def yJX:Nat→Option Seg:=fun _=>none
abbrev yjk:List Par:= [.rd tS]
abbrev yoE:List OT:= [⟨false,tB,.fz⟩]
def yrH (a0:dS):Option (ResD yoE×MutD yjk) :=
  let r1:=ye a0.1 1 60000
  bif r1 then
    let r2:=ye a0.2.1 0 60000
    bif r2 then
      let r3:=ye a0.2.2.2.2.2.1 0 60000
      bif r3 then
        let r4:=ydT (a0.2.2.2.1,a0.2.2.2.2.1)
        bif r4 then
          let r5:=ye a0.2.2.1 0 (IntKind.i64.wrap (a0.2.2.2.1 - 1))
          bif r5 then
            let r6:=yev (a0.2.2.2.1,a0.2.2.2.2.1) a0.2.2.2.2.2.2.1 a0.2.2.2.2.2.2.2
            some ((r6,()),())
          else
            some ((false,()),())
        else
          some ((false,()),())
      else
        some ((false,()),())
    else
      some ((false,()),())
  else
    some ((false,()),())
theorem yQr (x:InD yjk):zjH ⟨yCJ,44,yJX⟩ Tryz.f258.results.toList yCj yjk yoE x=yrH x.1:=by kernel_rfl
theorem yLZ:ConOk Tryz.prog 258 ⟨yjk,yoE,fun x=>yrH x.1⟩:=zkh (yH7) Tryz.func258 (by kernel_rfl) (by kernel_rfl) Tryz.ntmps258.symm (by decide) (fun x r h=>(yQr x).trans h)
def yfl (a0:dS):Bool :=
  let r1:=ye a0.1 1 60000
  bif r1 then
    let r2:=ye a0.2.1 0 60000
    bif r2 then
      let r3:=ye a0.2.2.2.2.2.1 0 60000
      bif r3 then
        let r4:=ydT (a0.2.2.2.1,a0.2.2.2.2.1)
        bif r4 then
          let r5:=ye a0.2.2.1 0 (IntKind.i64.wrap (a0.2.2.2.1 - 1))
          bif r5 then
            let r6:=yev (a0.2.2.2.1,a0.2.2.2.2.1) a0.2.2.2.2.2.2.1 a0.2.2.2.2.2.2.2
            r6
          else
            false
        else
          false
      else
        false
    else
      false
  else
    false
def yzD:Con:=⟨yjk,yoE,fun x=>(fun n=>some ((n,()),())) (yfl x.1)⟩
theorem yOB (a0:dS):yrH a0=(fun n=>some ((n,()),())) (yfl a0):=zkS (p:=fun (n:Bool)=>((n,()),())) (zkx (p:=fun (n:Bool)=>((n,()),())) (zkx (p:=fun (n:Bool)=>((n,()),())) (zkx (p:=fun (n:Bool)=>((n,()),())) (zkx (p:=fun (n:Bool)=>((n,()),())) (zkx (p:=fun (n:Bool)=>((n,()),())) rfl rfl) rfl) rfl) rfl) rfl)
theorem yPs:ConOk Tryz.prog 258 yzD:=(yLZ).mono (fun x r _ h=>(yOB x.1).trans h)
theorem yTa (s:dS):yfl s=yb3 s:=by
  rw [Bool.eq_iff_iff,yVj]
  unfold yfl yev
  simp only [yOu,yY]
  cases hg:yg (s.2.2.2.1,s.2.2.2.2.1)
  · cases ya s.1 1 60000<;>cases ya s.2.1 0 60000<;>cases ya s.2.2.2.2.2.1 0 60000<;>simp
  have hg2:=yam.1 hg
  simp only at hg2
  rw [wr (show -9223372036854775808≤s.2.2.2.1 - 1 by omega) (by omega)]
  simp only [← yth]
  cases ya s.1 1 60000
  · simp
  cases ya s.2.1 0 60000
  · simp
  cases ya s.2.2.2.2.2.1 0 60000
  · simp
  cases ya s.2.2.1 0 (s.2.2.2.1 - 1)
  · simp
  cases hl:ya s.2.2.2.2.2.2.1 (-1) (s.2.2.2.1 - 1)
  · simp
  cases ya s.2.2.2.2.2.2.2 0 s.2.2.2.2.1
  · simp
  have:=yth.1 hl
  by_cases h0:s.2.2.2.2.2.2.2=0
  · simp [h0]
  · simp [h0]; omega
end
section
def yAR:Code:=(Tryz.f232.body).getD .skip
def yBq:Env:=zki TT [(258,yzD)] []
theorem yGu:FrOk Tryz.prog ⟨yBq,24,fun _=>none⟩ yAR:=zkp yb yc ⟨yPs,trivial⟩
def yHH:Nat→Option Seg:=fun _=>none
abbrev ygS:List Par:= [.rd tS]
abbrev yml:List OT:= [⟨false,tL,(.ow .fz)⟩]
def ypP (a0:dS):Option (ResD yml×MutD ygS) :=
  let r1:=yfl a0
  bif (!r1) then
    some (([],()),())
  else
    some ((([21317,a0.1,a0.2.1,a0.2.2.1,a0.2.2.2.1,a0.2.2.2.2.1,a0.2.2.2.2.2.1,(IntKind.i64.wrap (a0.2.2.2.2.2.2.1+1)),a0.2.2.2.2.2.2.2]:List Int),()),())
theorem yNu (x:InD ygS):zjH ⟨yBq,24,yHH⟩ Tryz.f232.results.toList yAR ygS yml x=ypP x.1:=by kernel_rfl
theorem yI8:ConOk Tryz.prog 232 ⟨ygS,yml,fun x=>ypP x.1⟩:=zkh (yGu) Tryz.func232 (by kernel_rfl) (by kernel_rfl) Tryz.ntmps232.symm (by decide) (fun x r h=>(yNu x).trans h)
def yhT (a0:dS):(List Int) :=
  let r1:=yfl a0
  bif (!r1) then
    []
  else
    ([21317,a0.1,a0.2.1,a0.2.2.1,a0.2.2.2.1,a0.2.2.2.2.1,a0.2.2.2.2.2.1,(IntKind.i64.wrap (a0.2.2.2.2.2.2.1+1)),a0.2.2.2.2.2.2.2]:List Int)
def yxt:Con:=⟨ygS,yml,fun x=>(fun n=>some ((n,()),())) (yhT x.1)⟩
theorem yLI (a0:dS):ypP a0=(fun n=>some ((n,()),())) (yhT a0):=zkS (p:=fun (n:(List Int))=>((n,()),())) (zkx (p:=fun (n:(List Int))=>((n,()),())) rfl rfl)
theorem yMm:ConOk Tryz.prog 232 yxt:=(yI8).mono (fun x r _ h=>(yLI x.1).trans h)
theorem yVe (s:dS):yhT s=yak s:=by
  unfold yhT yak
  rw [yTa]
end
section
def yCl:Code:=(Tryz.f233.body).getD .skip
def yCL:Env:=zki TT [] []
theorem yIg:FrOk Tryz.prog ⟨yCL,23,fun _=>none⟩ yCl:=zkp yb yc trivial
def yJZ:Nat→Option Seg:=fun _=>none
abbrev yjo:List Par:= [.rd tA,.rd tI]
abbrev yoI:List OT:= [⟨false,tS,(.pr .fz (.pr .fz (.pr .fz (.pr .fz (.pr .fz (.pr .fz (.pr .fz .fz)))))))⟩]
def yrJ (a0:dA) (a1:Int):Option (ResD yoI×MutD yjo) :=
  some (((a0.1,a0.2.2.2.2.2.2.2.1,a1,a0.2.1.1,a0.2.1.2,a0.2.2.2.2.2.2.1,a0.2.2.2.1,a0.2.2.2.2.1),()),())
theorem yQw (x:InD yjo):zjH ⟨yCL,23,yJZ⟩ Tryz.f233.results.toList yCl yjo yoI x=yrJ x.1 x.2.1:=by kernel_rfl
theorem yL4:ConOk Tryz.prog 233 ⟨yjo,yoI,fun x=>yrJ x.1 x.2.1⟩:=zkh (yIg) Tryz.func233 (by kernel_rfl) (by kernel_rfl) Tryz.ntmps233.symm (by decide) (fun x r h=>(yQw x).trans h)
def yo0 (a0:dA) (a1:Int):dS :=
  (a0.1,a0.2.2.2.2.2.2.2.1,a1,a0.2.1.1,a0.2.1.2,a0.2.2.2.2.2.2.1,a0.2.2.2.1,a0.2.2.2.2.1)
def yzF:Con:=⟨yjo,yoI,fun x=>(fun n=>some ((n,()),())) (yo0 x.1 x.2.1)⟩
theorem yOG (a0:dA) (a1:Int):yrJ a0 a1=(fun n=>some ((n,()),())) (yo0 a0 a1):=zkS (p:=fun (n:dS)=>((n,()),())) rfl
theorem yPu:ConOk Tryz.prog 233 yzF:=(yL4).mono (fun x r _ h=>(yOG x.1 x.2.1).trans h)
end
section
def ygC:Code:=(Tryz.f172.body).getD .skip
def yl0:Env:=zki TT [(78,ynL),(168,ypF),(232,yxt),(233,yzF)] []
theorem yGm:FrOk Tryz.prog ⟨yl0,37,fun _=>none⟩ ygC:=zkp yb yc ⟨yyf,yAr,yMm,yPu,trivial⟩
def ywK:Nat→Option Seg:=fun _=>none
def yas:Shape:=⟨[(0,false,[.ptr 1000000000 0]),(15,false,[.int .i64]),(16,false,[.int .i64])],[(1000000000,[.int .i64,.int .i64,.int .i64,.at 800000000,.int .i64,.int .i64,.int .i64,.int .i64,.int .i64,.at 800000001,.int .i64,.bool,.bool])],[(800000000,tM,(.pr (.ow (.ow .fz)) (.pr (.ow (.pr .fz (.ow .fz))) (.pr .fz (.ow .fz))))),(800000001,tW,(.pr .fz (.ow .fz)))]⟩
def ydJ:Shape:=⟨[(0,false,[.ptr 1000000000 0]),(15,false,[.int .i64]),(16,false,[.ci .i64 0])],[(1000000000,[.int .i64,.int .i64,.int .i64,.at 800000000,.int .i64,.int .i64,.int .i64,.int .i64,.int .i64,.at 800000001,.int .i64,.bool,.bool])],[(800000000,tM,(.pr (.ow (.ow .fz)) (.pr (.ow (.pr .fz (.ow .fz))) (.pr .fz (.ow .fz))))),(800000001,tW,(.pr .fz (.ow .fz)))]⟩
def ydC:Shape:=⟨[(0,false,[.ptr 1000000000 0])],[(1000000000,[.int .i64,.int .i64,.int .i64,.at 800000000,.int .i64,.int .i64,.int .i64,.int .i64,.int .i64,.at 800000001,.int .i64,.bool,.bool])],[(800000000,tM,(.pr (.ow (.ow .fz)) (.pr (.ow (.pr .fz (.ow .fz))) (.pr .fz (.ow .fz))))),(800000001,tW,(.pr .fz (.ow .fz)))]⟩
def ydQ:Shape:=⟨[(2,false,[.bool])],[(1000000000,[.int .i64,.int .i64,.int .i64,.at 800000000,.int .i64,.int .i64,.int .i64,.int .i64,.int .i64,.at 800000001,.int .i64,.bool,.bool])],[(800000000,tM,(.pr (.ow (.ow .fz)) (.pr (.ow (.pr .fz (.ow .fz))) (.pr .fz (.ow .fz))))),(800000001,tW,(.pr .fz (.ow .fz)))]⟩
abbrev ylE (v0:Int) (v1:Int) (v2:dA):(yas).X:=((((),()),(v0,()),(v1,()),()),((v2.1,v2.2.1.1,v2.2.1.2,(),v2.2.2.2.1,v2.2.2.2.2.1,v2.2.2.2.2.2.1,v2.2.2.2.2.2.2.1,v2.2.2.2.2.2.2.2.1,(),v2.2.2.2.2.2.2.2.2.2.1,v2.2.2.2.2.2.2.2.2.2.2.1,v2.2.2.2.2.2.2.2.2.2.2.2,()),()),(v2.2.2.1,v2.2.2.2.2.2.2.2.2.1,()))
abbrev yEV (v0:Int) (v1:dA):(ydJ).X:=((((),()),(v0,()),((),()),()),((v1.1,v1.2.1.1,v1.2.1.2,(),v1.2.2.2.1,v1.2.2.2.2.1,v1.2.2.2.2.2.1,v1.2.2.2.2.2.2.1,v1.2.2.2.2.2.2.2.1,(),v1.2.2.2.2.2.2.2.2.2.1,v1.2.2.2.2.2.2.2.2.2.2.1,v1.2.2.2.2.2.2.2.2.2.2.2,()),()),(v1.2.2.1,v1.2.2.2.2.2.2.2.2.1,()))
abbrev ylI (v0:dA):(ydC).X:=((((),()),()),((v0.1,v0.2.1.1,v0.2.1.2,(),v0.2.2.2.1,v0.2.2.2.2.1,v0.2.2.2.2.2.1,v0.2.2.2.2.2.2.1,v0.2.2.2.2.2.2.2.1,(),v0.2.2.2.2.2.2.2.2.2.1,v0.2.2.2.2.2.2.2.2.2.2.1,v0.2.2.2.2.2.2.2.2.2.2.2,()),()),(v0.2.2.1,v0.2.2.2.2.2.2.2.2.1,()))
abbrev ylK (v0:Bool) (v1:dA):(ydQ).X:=(((v0,()),()),((v1.1,v1.2.1.1,v1.2.1.2,(),v1.2.2.2.1,v1.2.2.2.2.1,v1.2.2.2.2.2.1,v1.2.2.2.2.2.2.1,v1.2.2.2.2.2.2.2.1,(),v1.2.2.2.2.2.2.2.2.2.1,v1.2.2.2.2.2.2.2.2.2.2.1,v1.2.2.2.2.2.2.2.2.2.2.2,()),()),(v1.2.2.1,v1.2.2.2.2.2.2.2.2.1,()))
def ylN (v0:Int) (v1:Int) (v2:Int) (v3:Int) (v4:Int) (v5:Int) (v6:Int) (v7:Int) (v8:Int) (v9:Int) (v10:Int) (v11:Bool) (v12:Bool) (v13:List dM) (v14:List dW):Option ((yas).X ⊕ ((ydC).X ⊕ (ydQ).X)) :=
  bif (ltb v1 v0) then
    let r4:=yo0 (v2,(v3,v4),v13,v5,v6,v7,v8,v9,v14,v10,v11,v12) v1
    let r5:=yhT r4
    bnd (yf0 (v2,(v3,v4),v13,v5,v6,v7,v8,v9,v14,v10,v11,v12) v1 (v9.tmod 2) r5) fun r6 =>
    bif (!r6.1.1) then
      some (.inr (.inr (((false,()),()),((r6.2.1.1,r6.2.1.2.1.1,r6.2.1.2.1.2,(),r6.2.1.2.2.2.1,r6.2.1.2.2.2.2.1,r6.2.1.2.2.2.2.2.1,r6.2.1.2.2.2.2.2.2.1,r6.2.1.2.2.2.2.2.2.2.1,(),r6.2.1.2.2.2.2.2.2.2.2.2.1,r6.2.1.2.2.2.2.2.2.2.2.2.2.1,r6.2.1.2.2.2.2.2.2.2.2.2.2.2,()),()),(r6.2.1.2.2.1,r6.2.1.2.2.2.2.2.2.2.2.1,()))))
    else
      some (.inl ((((),()),(v0,()),((IntKind.i64.wrap (v1+1)),()),()),((r6.2.1.1,r6.2.1.2.1.1,r6.2.1.2.1.2,(),r6.2.1.2.2.2.1,r6.2.1.2.2.2.2.1,r6.2.1.2.2.2.2.2.1,r6.2.1.2.2.2.2.2.2.1,r6.2.1.2.2.2.2.2.2.2.1,(),r6.2.1.2.2.2.2.2.2.2.2.2.1,r6.2.1.2.2.2.2.2.2.2.2.2.2.1,r6.2.1.2.2.2.2.2.2.2.2.2.2.2,()),()),(r6.2.1.2.2.1,r6.2.1.2.2.2.2.2.2.2.2.1,())))
  else
    some (.inr (.inl ((((),()),()),((v2,v3,v4,(),v5,v6,v7,v8,v9,(),v10,v11,v12,()),()),(v13,v14,()))))
def yaN (x:(yas).X):=ylN x.1.2.1.1 x.1.2.2.1.1 x.2.1.1.1 x.2.1.1.2.1 x.2.1.1.2.2.1 x.2.1.1.2.2.2.2.1 x.2.1.1.2.2.2.2.2.1 x.2.1.1.2.2.2.2.2.2.1 x.2.1.1.2.2.2.2.2.2.2.1 x.2.1.1.2.2.2.2.2.2.2.2.1 x.2.1.1.2.2.2.2.2.2.2.2.2.2.1 x.2.1.1.2.2.2.2.2.2.2.2.2.2.2.1 x.2.1.1.2.2.2.2.2.2.2.2.2.2.2.2.1 x.2.2.1 x.2.2.2.1
def ytH (x:(ydJ).X):(yas).X:=((((),()),(x.1.2.1.1,()),(0,()),()),((x.2.1.1.1,x.2.1.1.2.1,x.2.1.1.2.2.1,(),x.2.1.1.2.2.2.2.1,x.2.1.1.2.2.2.2.2.1,x.2.1.1.2.2.2.2.2.2.1,x.2.1.1.2.2.2.2.2.2.2.1,x.2.1.1.2.2.2.2.2.2.2.2.1,(),x.2.1.1.2.2.2.2.2.2.2.2.2.2.1,x.2.1.1.2.2.2.2.2.2.2.2.2.2.2.1,x.2.1.1.2.2.2.2.2.2.2.2.2.2.2.2.1,()),()),(x.2.2.1,x.2.2.2.1,()))
def yvf:Code:=(zdI ygC 64 116).getD .skip
theorem yFZ:zdI ygC 64 29=some (.block 0 (.loop yvf)):=by kernel_rfl
theorem yHm (x:(yas).X):zg7 ⟨yl0,37,ywK⟩ 0 yvf 116 yas ydC ydQ x=yaN x:=by kernel_rfl
def ytU (x:(ydJ).X):Nat:=(fun (u0:Int) (u1:Int) (u2:Int) (u3:Int) (u4:Int) (u5:Int) (u6:Int) (u7:Int) (u8:Int) (u9:Int) (u10:Bool) (u11:Bool) (u12:List dM) (u13:List dW)=>18446744073709551616) x.1.2.1.1 x.2.1.1.1 x.2.1.1.2.1 x.2.1.1.2.2.1 x.2.1.1.2.2.2.2.1 x.2.1.1.2.2.2.2.2.1 x.2.1.1.2.2.2.2.2.2.1 x.2.1.1.2.2.2.2.2.2.2.1 x.2.1.1.2.2.2.2.2.2.2.2.1 x.2.1.1.2.2.2.2.2.2.2.2.2.2.1 x.2.1.1.2.2.2.2.2.2.2.2.2.2.2.1 x.2.1.1.2.2.2.2.2.2.2.2.2.2.2.2.1 x.2.2.1 x.2.2.2.1
def yni (x:(ydJ).X):Option ((ydC).X ⊕ (ydQ).X):=zr yaN (ytU x) (ytH x)
def yub:Seg:=⟨ydJ,ydC,ydQ,yni⟩
def ywL:Nat→Option Seg:=fun q=>bif Nat.beq q 29 then some yub else ywK q
theorem yGn:FrOk Tryz.prog ⟨yl0,37,ywL⟩ ygC:=(yGm).loop (sg:=yub) yas ytH (by decide) yFZ yaN ytU (by decide) (fun _=>rfl) (fun x r _ h=>h) yHm
abbrev ycm:List Par:= [.pt tA (.pr .fz (.pr (.pr .fz .fz) (.pr (.ow (.pr (.ow (.ow .fz)) (.pr (.ow (.pr .fz (.ow .fz))) (.pr .fz (.ow .fz))))) (.pr .fz (.pr .fz (.pr .fz (.pr .fz (.pr .fz (.pr (.ow (.pr .fz (.ow .fz))) (.pr .fz (.pr .fz .fz)))))))))))]
abbrev yhp:List OT:= [⟨false,tB,.fz⟩]
def yiK (a0:dA):Option (ResD yhp×MutD ycm) :=
  zjw (yni ((((),()),((a0.2.2.1.length:Int),()),((),()),()),((a0.1,a0.2.1.1,a0.2.1.2,(),a0.2.2.2.1,a0.2.2.2.2.1,a0.2.2.2.2.2.1,a0.2.2.2.2.2.2.1,(IntKind.i64.wrap (a0.2.2.2.2.2.2.2.1+1)),(),a0.2.2.2.2.2.2.2.2.2.1,a0.2.2.2.2.2.2.2.2.2.2.1,a0.2.2.2.2.2.2.2.2.2.2.2,()),()),(a0.2.2.1,a0.2.2.2.2.2.2.2.2.1,()))) (fun y6 =>
    bnd (yhZ (y6.2.1.1.1,(y6.2.1.1.2.1,y6.2.1.1.2.2.1),y6.2.2.1,y6.2.1.1.2.2.2.2.1,y6.2.1.1.2.2.2.2.2.1,y6.2.1.1.2.2.2.2.2.2.1,y6.2.1.1.2.2.2.2.2.2.2.1,y6.2.1.1.2.2.2.2.2.2.2.2.1,y6.2.2.2.1,y6.2.1.1.2.2.2.2.2.2.2.2.2.2.1,y6.2.1.1.2.2.2.2.2.2.2.2.2.2.2.1,y6.2.1.1.2.2.2.2.2.2.2.2.2.2.2.2.1)) fun r8 =>
    some ((r8.1.1,()),(r8.2.1,()))) (fun y6 =>
    some ((y6.1.1.1,()),((y6.2.1.1.1,(y6.2.1.1.2.1,y6.2.1.1.2.2.1),y6.2.2.1,y6.2.1.1.2.2.2.2.1,y6.2.1.1.2.2.2.2.2.1,y6.2.1.1.2.2.2.2.2.2.1,y6.2.1.1.2.2.2.2.2.2.2.1,y6.2.1.1.2.2.2.2.2.2.2.2.1,y6.2.2.2.1,y6.2.1.1.2.2.2.2.2.2.2.2.2.2.1,y6.2.1.1.2.2.2.2.2.2.2.2.2.2.2.1,y6.2.1.1.2.2.2.2.2.2.2.2.2.2.2.2.1),())))
theorem yNq (x:InD ycm):zjH ⟨yl0,37,ywL⟩ Tryz.f172.results.toList ygC ycm yhp x=yiK x.1:=by kernel_rfl
theorem yI4:ConOk Tryz.prog 172 ⟨ycm,yhp,fun x=>yiK x.1⟩:=zkh (yGn) Tryz.func172 (by kernel_rfl) (by kernel_rfl) Tryz.ntmps172.symm (by decide) (fun x r h=>(yNq x).trans h)
def ymM (a0:dA):Bool×dA:=(!(yd (yz a0)),yz a0)
def ycA (a0:dA):Bool:= !(yd a0)
theorem yUS {a:dA} (i:Nat) (h:yd a=true):yaH a i=a:=yWa h _ _ _
theorem yLE (a0:dA) (hk:zi9 ycm (a0,())) (hq:ycA a0=true):yiK a0=(fun n=>some ((n.1,()),(n.2,()))) (ymM a0):=by
  have hb:a0.2.2.1.length * 80≤2 ^ 47:=hk.1.2.2.1.1
  have hd0:yd a0=false:=by simpa [ycA] using hq
  have h1:yni (yEV a0.2.2.1.length (yiJ a0))=some (bif yd ((List.range a0.2.2.1.length).foldl yaH (yiJ a0)) then .inr (ylK false ((List.range a0.2.2.1.length).foldl yaH (yiJ a0))) else .inl (ylI ((List.range a0.2.2.1.length).foldl yaH (yiJ a0)))):=by
    have:=zkr (step:=yaN) a0.2.2.1.length (fun i s=>ylE a0.2.2.1.length i s) (fun i s=>bif yd (yaH s i) then (.inr (yaH s i):dA ⊕ dA) else .inl (yaH s i)) (fun _ s=>s.2.2.1.length=a0.2.2.1.length∧yd s=false) id
      (fun b=>bif yd b then .inr (ylK false b) else .inl (ylI b)) (fun i s hi hs=>by
        constructor
        · simp only [yaN,ylE,ylN,zjI (show (i:Int) < a0.2.2.1.length by omega),cond_true,wr (show -9223372036854775808≤(i:Int)+1 by omega) (by omega),Int.natCast_add,Int.natCast_one,Int.toNat_natCast,zkV,yVe,yo0]
          rw [yyh s i (s.2.2.2.2.2.2.2.1.tmod 2) (yak (s.1,s.2.2.2.2.2.2.2.1,(i:Int),s.2.1.1,s.2.1.2,s.2.2.2.2.2.2.1,s.2.2.2.1,s.2.2.2.2.1)) (by unfold ydr; rw [zkO (by rw [hs.1]; exact hi),hs.2]; rfl)]
          simp only [zky,ydo]
          rw [show yic s i (s.2.2.2.2.2.2.2.1.tmod 2) (yak (s.1,s.2.2.2.2.2.2.2.1,(i:Int),s.2.1.1,s.2.1.2,s.2.2.2.2.2.2.1,s.2.2.2.1,s.2.2.2.2.1))=yaH s i from rfl]
          cases hd:yd (yaH s i)
          · rfl
          · simp only [hd,Bool.not_true,Bool.not_false,cond_true,ylK]
        · intro s' h
          cases hd:yd (yaH s i)
          · rw [hd]at h
            cases h
            exact ⟨(yJW s i).trans hs.1,hd⟩
          · rw [hd]at h; cases h) (fun s hs=>by simp only [yaN,ylE,ylN,hs.2,zkm (Int.le_refl _),cond_false,id,ylI]) (yiJ a0) ⟨rfl,hd0⟩ 18446744073709551616 (by omega)
    rw [yLe (fun a i h=>yUS i h),← List.range_eq_range'] at this
    exact this
  unfold yiK ymM yz
  refine (congrArg (fun z=>zjw z _ _) h1).trans ?_
  cases hd:yd ((List.range a0.2.2.1.length).foldl yaH (yiJ a0))
  · simp only [cond_false,zkJ,zkV]
    rw [yAt _ (by unfold yh0; rw [hd]; rfl)]; rfl
  · rw [yVQ hd]
    simp only [cond_true,zkK,zkV]
    rw [hd]; rfl
def yI (a0:dA):Option (ResD yhp×MutD ycm):=bif ycA a0 then (fun n=>some ((n.1,()),(n.2,()))) (ymM a0) else none
theorem yrG (a0:dA) (h:ycA a0=true):yI a0=(fun n=>some ((n.1,()),(n.2,()))) (ymM a0):=by unfold yI; rw [h]; rfl
def yiI:Con:=⟨ycm,yhp,fun x=>yI x.1⟩
theorem yrF:ConOk Tryz.prog 172 yiI:=(yI4).mono (fun x r hk h=>zkW h (fun hq=>yLE x.1 hk hq))
end
section
def yDY:Code:=(Tryz.f182.body).getD .skip
def yEf:Env:=zki TT [(114,yo)] []
theorem yKw:FrOk Tryz.prog ⟨yEf,10,fun _=>none⟩ yDY:=zkp yb yc ⟨yF,trivial⟩
def yMV:Nat→Option Seg:=fun _=>none
abbrev ygh:List Par:= [.rd tI]
abbrev yqG:List OT:= [⟨false,tM,(.pr (.ow (.ow .fz)) (.pr (.ow (.pr .fz (.ow .fz))) (.pr .fz (.ow .fz))))⟩]
def ymR (a0:Int):Option (ResD yqG×MutD ygh) :=
  let r1:=ye a0 1 20
  bif (!r1) then
    some ((([],[],false,[]),()),())
  else
    bif (zkc a0 24) then
      some ((((List.replicate (a0).toNat ([]:List Int)),[],false,[]),()),())
    else none
theorem ySE (x:InD ygh):zjH ⟨yEf,10,yMV⟩ Tryz.f182.results.toList yDY ygh yqG x=ymR x.1:=by kernel_rfl
theorem yOZ:ConOk Tryz.prog 182 ⟨ygh,yqG,fun x=>ymR x.1⟩:=zkh (yKw) Tryz.func182 (by kernel_rfl) (by kernel_rfl) Tryz.ntmps182.symm (by decide) (fun x r h=>(ySE x).trans h)
def yls (a0:Int):dM:=yv5 a0
theorem yQZ (a0:Int) (hk:zi9 ygh (a0,())):ymR a0=(fun n=>some ((n,()),())) (yls a0):=by
  unfold ymR yls yv5
  simp only [yY,ykx]
  cases hc:(leb 1 a0&&leb a0 20)
  · rfl
  · rw [Bool.and_eq_true,zjQ,zjQ]at hc
    rw [zkH.2 (show 0≤a0∧a0 * ((24:Nat):Int)≤140737488355328 by omega)]; rfl
def yBL:Con:=⟨ygh,yqG,fun x=>(fun n=>some ((n,()),())) (yls x.1)⟩
theorem yRY:ConOk Tryz.prog 182 yBL:=(yOZ).mono (fun x r hk h=>(yQZ x.1 hk).trans h)
end
end
end Go.Tf
