/- Functions of the program, and what they come to. -/
import Derived.Test.YtgmadfpnljibhaaGreatFallsBentF6
namespace Go.Tf
noncomputable section
open Go.Proofs
set_option synthInstance.maxHeartbeats 400000
set_option synthInstance.maxSize 10000
set_option linter.unusedVariables false
set_option linter.unusedSimpArgs false
set_option maxRecDepth 100000
section
def ypp:Code:=(Tryz.f68.body).getD .skip
def yv4:Env:=zj2 TT [(64,yxj),(98,yxm),(111,yDb),(163,yFx),(164,yA3),(165,yDc)] []
theorem yXj:FrOk Tryz.prog ⟨yv4,50,fun _=>none⟩ ypp:=zj6 yc yd ⟨yK5,yK8,yVS,yZM,ySW,yVT,trivial⟩
def yJp:Nat→Option Seg:=fun _=>none
def ycY:Shape:=⟨[(2,false,[.ptr 64 0]),(3,false,[.ptr 4224 0]),(16,false,[.int .i64])],[(64,[.int .i64,.int .i64,.int .i64,.nil,.int .i64,.int .i64,.int .i64,.int .i64,.int .i64,.nil,.int .i64,.bool,.bool]),(4224,[.int .i64,.int .i64,.int .i64,.at 800000000,.int .i64,.int .i64,.int .i64,.int .i64,.int .i64,.at 800000001,.int .i64,.bool,.bool])],[(800000000,tM,(.pr (.ow (.ow .fz)) (.pr (.ow (.pr .fz (.ow .fz))) (.pr .fz (.ow .fz))))),(800000001,tW,(.pr .fz (.ow .fz)))]⟩
def yiT:Shape:=⟨[(2,false,[.ptr 64 0]),(3,false,[.ptr 4224 0]),(16,false,[.ci .i64 0])],[(64,[.int .i64,.int .i64,.int .i64,.nil,.int .i64,.int .i64,.int .i64,.int .i64,.int .i64,.nil,.int .i64,.bool,.bool]),(4224,[.int .i64,.int .i64,.int .i64,.at 800000000,.int .i64,.int .i64,.int .i64,.int .i64,.int .i64,.at 800000001,.int .i64,.bool,.bool])],[(800000000,tM,(.pr (.ow (.ow .fz)) (.pr (.ow (.pr .fz (.ow .fz))) (.pr .fz (.ow .fz))))),(800000001,tW,(.pr .fz (.ow .fz)))]⟩
def yiG:Shape:=⟨[(2,false,[.ptr 64 0]),(3,false,[.ptr 4224 0])],[(64,[.int .i64,.int .i64,.int .i64,.nil,.int .i64,.int .i64,.int .i64,.int .i64,.int .i64,.nil,.int .i64,.bool,.bool]),(4224,[.int .i64,.int .i64,.int .i64,.at 800000000,.int .i64,.int .i64,.int .i64,.int .i64,.int .i64,.at 800000001,.int .i64,.bool,.bool])],[(800000000,tM,(.pr (.ow (.ow .fz)) (.pr (.ow (.pr .fz (.ow .fz))) (.pr .fz (.ow .fz))))),(800000001,tW,(.pr .fz (.ow .fz)))]⟩
def yi9:Shape:=⟨[(2,false,[.ptr 64 0])],[(64,[.int .i64,.int .i64,.int .i64,.at 800000000,.int .i64,.int .i64,.int .i64,.int .i64,.int .i64,.at 800000001,.int .i64,.bool,.bool])],[(800000000,tM,(.pr (.ow (.ow .fz)) (.pr (.ow (.pr .fz (.ow .fz))) (.pr .fz (.ow .fz))))),(800000001,tW,(.pr .fz (.ow .fz)))]⟩
abbrev yvl (v0:Int) (v1 v2:dA):(ycY).X:=((((),()),((),()),(v0,()),()),((v1.1,v1.2.1.1,v1.2.1.2,(),v1.2.2.2.1,v1.2.2.2.2.1,v1.2.2.2.2.2.1,v1.2.2.2.2.2.2.1,v1.2.2.2.2.2.2.2.1,(),v1.2.2.2.2.2.2.2.2.2.1,v1.2.2.2.2.2.2.2.2.2.2.1,v1.2.2.2.2.2.2.2.2.2.2.2,()),(v2.1,v2.2.1.1,v2.2.1.2,(),v2.2.2.2.1,v2.2.2.2.2.1,v2.2.2.2.2.2.1,v2.2.2.2.2.2.2.1,v2.2.2.2.2.2.2.2.1,(),v2.2.2.2.2.2.2.2.2.2.1,v2.2.2.2.2.2.2.2.2.2.2.1,v2.2.2.2.2.2.2.2.2.2.2.2,()),()),(v2.2.2.1,v2.2.2.2.2.2.2.2.2.1,()))
abbrev yU2 (v0 v1:dA):(yiT).X:=((((),()),((),()),((),()),()),((v0.1,v0.2.1.1,v0.2.1.2,(),v0.2.2.2.1,v0.2.2.2.2.1,v0.2.2.2.2.2.1,v0.2.2.2.2.2.2.1,v0.2.2.2.2.2.2.2.1,(),v0.2.2.2.2.2.2.2.2.2.1,v0.2.2.2.2.2.2.2.2.2.2.1,v0.2.2.2.2.2.2.2.2.2.2.2,()),(v1.1,v1.2.1.1,v1.2.1.2,(),v1.2.2.2.1,v1.2.2.2.2.1,v1.2.2.2.2.2.1,v1.2.2.2.2.2.2.1,v1.2.2.2.2.2.2.2.1,(),v1.2.2.2.2.2.2.2.2.2.1,v1.2.2.2.2.2.2.2.2.2.2.1,v1.2.2.2.2.2.2.2.2.2.2.2,()),()),(v1.2.2.1,v1.2.2.2.2.2.2.2.2.1,()))
abbrev yUU (v0 v1:dA):(yiG).X:=((((),()),((),()),()),((v0.1,v0.2.1.1,v0.2.1.2,(),v0.2.2.2.1,v0.2.2.2.2.1,v0.2.2.2.2.2.1,v0.2.2.2.2.2.2.1,v0.2.2.2.2.2.2.2.1,(),v0.2.2.2.2.2.2.2.2.2.1,v0.2.2.2.2.2.2.2.2.2.2.1,v0.2.2.2.2.2.2.2.2.2.2.2,()),(v1.1,v1.2.1.1,v1.2.1.2,(),v1.2.2.2.1,v1.2.2.2.2.1,v1.2.2.2.2.2.1,v1.2.2.2.2.2.2.1,v1.2.2.2.2.2.2.2.1,(),v1.2.2.2.2.2.2.2.2.2.1,v1.2.2.2.2.2.2.2.2.2.2.1,v1.2.2.2.2.2.2.2.2.2.2.2,()),()),(v1.2.2.1,v1.2.2.2.2.2.2.2.2.1,()))
abbrev yvw (v0:dA):(yi9).X:=((((),()),()),((v0.1,v0.2.1.1,v0.2.1.2,(),v0.2.2.2.1,v0.2.2.2.2.1,v0.2.2.2.2.2.1,v0.2.2.2.2.2.2.1,v0.2.2.2.2.2.2.2.1,(),v0.2.2.2.2.2.2.2.2.2.1,v0.2.2.2.2.2.2.2.2.2.2.1,v0.2.2.2.2.2.2.2.2.2.2.2,()),()),(v0.2.2.1,v0.2.2.2.2.2.2.2.2.1,()))
def yvE (v0 v1 v2 v3 v4 v5 v6 v7 v8 v9:Int) (v10 v11:Bool) (v12 v13 v14 v15 v16 v17 v18 v19 v20:Int) (v21 v22:Bool) (v23:List dM) (v24:List dW):Option ((ycY).X ⊕ ((yiG).X ⊕ (yi9).X)) :=
 bif (ltb v0 4) then
 bnd (ynY (v12,(v13,v14),v23,v15,v16,v17,v18,v19,v24,v20,v21,v22) v17) fun r6 =>
 bif (!(!r6.1.2.1)) then
 bif (leb 60000 v17) then
 some (.inr (.inl ((((),()),((),()),()),((v1,v2,v3,(),v4,v5,v6,v7,v8,(),v9,v10,v11,()),(v12,v13,v14,(),v15,v16,v17,v18,v19,(),v20,v21,v22,()),()),(v23,v24,()))))
 else
 bnd (yhW (v12,(v13,v14),v23,v15,v16,v17,v18,v19,v24,v20,v21,v22) r6.1.1) fun r7 =>
 bif (!r7.1.1) then
 some (.inr (.inr ((((),()),()),((r7.2.1.1,r7.2.1.2.1.1,r7.2.1.2.1.2,(),r7.2.1.2.2.2.1,r7.2.1.2.2.2.2.1,r7.2.1.2.2.2.2.2.1,r7.2.1.2.2.2.2.2.2.1,r7.2.1.2.2.2.2.2.2.2.1,(),r7.2.1.2.2.2.2.2.2.2.2.2.1,r7.2.1.2.2.2.2.2.2.2.2.2.2.1,r7.2.1.2.2.2.2.2.2.2.2.2.2.2,()),()),(r7.2.1.2.2.1,r7.2.1.2.2.2.2.2.2.2.2.1,()))))
 else
 bnd (yjm (r7.2.1.1,r7.2.1.2.1,r7.2.1.2.2.1,r7.2.1.2.2.2.1,r7.2.1.2.2.2.2.1,(IntKind.i64.wrap (r7.2.1.2.2.2.2.2.1+1)),r7.2.1.2.2.2.2.2.2) r6.1.1.2.1 r6.1.1.2.2) fun r8 =>
 bif (!r8.1.1) then
 some (.inr (.inr ((((),()),()),((r8.2.1.1,r8.2.1.2.1.1,r8.2.1.2.1.2,(),r8.2.1.2.2.2.1,r8.2.1.2.2.2.2.1,r8.2.1.2.2.2.2.2.1,r8.2.1.2.2.2.2.2.2.1,r8.2.1.2.2.2.2.2.2.2.1,(),r8.2.1.2.2.2.2.2.2.2.2.2.1,r8.2.1.2.2.2.2.2.2.2.2.2.2.1,r8.2.1.2.2.2.2.2.2.2.2.2.2.2,()),()),(r8.2.1.2.2.1,r8.2.1.2.2.2.2.2.2.2.2.1,()))))
 else
 some (.inl ((((),()),((),()),((IntKind.i64.wrap (v0+1)),()),()),((v1,v2,v3,(),v4,v5,v6,v7,v8,(),v9,v10,v11,()),(r8.2.1.1,r8.2.1.2.1.1,r8.2.1.2.1.2,(),r8.2.1.2.2.2.1,r8.2.1.2.2.2.2.1,r8.2.1.2.2.2.2.2.1,r8.2.1.2.2.2.2.2.2.1,r8.2.1.2.2.2.2.2.2.2.1,(),r8.2.1.2.2.2.2.2.2.2.2.2.1,r8.2.1.2.2.2.2.2.2.2.2.2.2.1,r8.2.1.2.2.2.2.2.2.2.2.2.2.2,()),()),(r8.2.1.2.2.1,r8.2.1.2.2.2.2.2.2.2.2.1,())))
 else
 some (.inr (.inl ((((),()),((),()),()),((v1,v2,v3,(),v4,v5,v6,v7,v8,(),v9,v10,v11,()),(v12,v13,v14,(),v15,v16,v17,v18,v19,(),v20,v21,v22,()),()),(v23,v24,()))))
 else
 some (.inr (.inl ((((),()),((),()),()),((v1,v2,v3,(),v4,v5,v6,v7,v8,(),v9,v10,v11,()),(v12,v13,v14,(),v15,v16,v17,v18,v19,(),v20,v21,v22,()),()),(v23,v24,()))))
def ydA (x:(ycY).X):=yvE x.1.2.2.1.1 x.2.1.1.1 x.2.1.1.2.1 x.2.1.1.2.2.1 x.2.1.1.2.2.2.2.1 x.2.1.1.2.2.2.2.2.1 x.2.1.1.2.2.2.2.2.2.1 x.2.1.1.2.2.2.2.2.2.2.1 x.2.1.1.2.2.2.2.2.2.2.2.1 x.2.1.1.2.2.2.2.2.2.2.2.2.2.1 x.2.1.1.2.2.2.2.2.2.2.2.2.2.2.1 x.2.1.1.2.2.2.2.2.2.2.2.2.2.2.2.1 x.2.1.2.1.1 x.2.1.2.1.2.1 x.2.1.2.1.2.2.1 x.2.1.2.1.2.2.2.2.1 x.2.1.2.1.2.2.2.2.2.1 x.2.1.2.1.2.2.2.2.2.2.1 x.2.1.2.1.2.2.2.2.2.2.2.1 x.2.1.2.1.2.2.2.2.2.2.2.2.1 x.2.1.2.1.2.2.2.2.2.2.2.2.2.2.1 x.2.1.2.1.2.2.2.2.2.2.2.2.2.2.2.1 x.2.1.2.1.2.2.2.2.2.2.2.2.2.2.2.2.1 x.2.2.1 x.2.2.2.1
def yFH (x:(yiT).X):(ycY).X:=((((),()),((),()),(0,()),()),((x.2.1.1.1,x.2.1.1.2.1,x.2.1.1.2.2.1,(),x.2.1.1.2.2.2.2.1,x.2.1.1.2.2.2.2.2.1,x.2.1.1.2.2.2.2.2.2.1,x.2.1.1.2.2.2.2.2.2.2.1,x.2.1.1.2.2.2.2.2.2.2.2.1,(),x.2.1.1.2.2.2.2.2.2.2.2.2.2.1,x.2.1.1.2.2.2.2.2.2.2.2.2.2.2.1,x.2.1.1.2.2.2.2.2.2.2.2.2.2.2.2.1,()),(x.2.1.2.1.1,x.2.1.2.1.2.1,x.2.1.2.1.2.2.1,(),x.2.1.2.1.2.2.2.2.1,x.2.1.2.1.2.2.2.2.2.1,x.2.1.2.1.2.2.2.2.2.2.1,x.2.1.2.1.2.2.2.2.2.2.2.1,x.2.1.2.1.2.2.2.2.2.2.2.2.1,(),x.2.1.2.1.2.2.2.2.2.2.2.2.2.2.1,x.2.1.2.1.2.2.2.2.2.2.2.2.2.2.2.1,x.2.1.2.1.2.2.2.2.2.2.2.2.2.2.2.2.1,()),()),(x.2.2.1,x.2.2.2.1,()))
def yHd:Code:=(zdD ypp 64 244).getD .skip
theorem yWO:zdD ypp 64 61=some (.block 0 (.loop yHd)):=by kernel_rfl
theorem yZ1 (x:(ycY).X):zg0 ⟨yv4,50,yJp⟩ 0 yHd 244 ycY yiG yi9 x=ydA x:=by kernel_rfl
def yFU (x:(yiT).X):Nat:=18446744073709551616
def yw7 (x:(yiT).X):Option ((yiG).X ⊕ (yi9).X):=zz ydA (yFU x) (yFH x)
def yGc:Seg:=⟨yiT,yiG,yi9,yw7⟩
def yJq:Nat→Option Seg:=fun q=>bif Nat.beq q 61 then some yGc else yJp q
theorem yXk:FrOk Tryz.prog ⟨yv4,50,yJq⟩ ypp:=(yXj).loop (sg:=yGc) ycY yFH (by decide) yWO ydA yFU (by decide) (fun _=>rfl) (fun x r _ h=>h) yZ1
abbrev yjK:List Par:= [.rd tA]
abbrev ywl:List OT:= [⟨false,tA,(.pr .fz (.pr (.pr .fz .fz) (.pr (.ow (.pr (.ow (.ow .fz)) (.pr (.ow (.pr .fz (.ow .fz))) (.pr .fz (.ow .fz))))) (.pr .fz (.pr .fz (.pr .fz (.pr .fz (.pr .fz (.pr (.ow (.pr .fz (.ow .fz))) (.pr .fz (.pr .fz .fz)))))))))))⟩]
def yr9 (a0:dA):Option (ResD ywl×MutD yjK) :=
 let r1:=yfF a0
 let r2:=yeh a0
 bif (!(!r2)) then
 bif a0.2.2.2.2.2.2.2.2.2.2.2 then
 some ((r1,()),())
 else
 zjY (yw7 ((((),()),((),()),((),()),()),((0,0,0,(),0,0,0,0,0,(),0,false,false,()),(r1.1,r1.2.1.1,r1.2.1.2,(),r1.2.2.2.1,r1.2.2.2.2.1,r1.2.2.2.2.2.1,r1.2.2.2.2.2.2.1,r1.2.2.2.2.2.2.2.1,(),r1.2.2.2.2.2.2.2.2.2.1,r1.2.2.2.2.2.2.2.2.2.2.1,r1.2.2.2.2.2.2.2.2.2.2.2,()),()),(r1.2.2.1,r1.2.2.2.2.2.2.2.2.1,()))) (fun y8 =>
 bnd (yoS (y8.2.1.2.1.1,(y8.2.1.2.1.2.1,y8.2.1.2.1.2.2.1),y8.2.2.1,y8.2.1.2.1.2.2.2.2.1,y8.2.1.2.1.2.2.2.2.2.1,y8.2.1.2.1.2.2.2.2.2.2.1,y8.2.1.2.1.2.2.2.2.2.2.2.1,y8.2.1.2.1.2.2.2.2.2.2.2.2.1,y8.2.2.2.1,y8.2.1.2.1.2.2.2.2.2.2.2.2.2.2.1,y8.2.1.2.1.2.2.2.2.2.2.2.2.2.2.2.1,y8.2.1.2.1.2.2.2.2.2.2.2.2.2.2.2.2.1)) fun r10 =>
 some ((r10.2.1,()),())) (fun y8 =>
 some (((y8.2.1.1.1,(y8.2.1.1.2.1,y8.2.1.1.2.2.1),y8.2.2.1,y8.2.1.1.2.2.2.2.1,y8.2.1.1.2.2.2.2.2.1,y8.2.1.1.2.2.2.2.2.2.1,y8.2.1.1.2.2.2.2.2.2.2.1,y8.2.1.1.2.2.2.2.2.2.2.2.1,y8.2.2.2.1,y8.2.1.1.2.2.2.2.2.2.2.2.2.2.1,y8.2.1.1.2.2.2.2.2.2.2.2.2.2.2.1,y8.2.1.1.2.2.2.2.2.2.2.2.2.2.2.2.1),()),()))
 else
 some ((r1,()),())
theorem y7R (x:InD yjK):zjw ⟨yv4,50,yJq⟩ Tryz.f68.results.toList ypp yjK ywl x=yr9 x.1:=by kernel_rfl
theorem y3i:ConOk Tryz.prog 68 ⟨yjK,ywl,fun x=>yr9 x.1⟩:=zj1 (yXk) Tryz.func68 (by kernel_rfl) (by kernel_rfl) Tryz.ntmps68.symm (by decide) (fun x r h=>(y7R x).trans h)
def yeM (a0:dA):dA:=yqm a0
theorem yacf {α:Type} {c:Bool} (h:c=false) {x y:α}:(bif c then x else y)=y:=by subst h; rfl
theorem y4Q {α:Type} {c:Bool} (h:c=true) {x y:α}:(bif c then x else y)=x:=by subst h; rfl
theorem y5K (a0:dA) (hk:zi1 yjK (a0,())):yr9 a0=(fun n=>some ((n,()),())) (yeM a0):=by
 unfold yr9 yeM
 simp only [yfF]
 cases hm:(yE a0&&(!(ye a0)&&(!a0.2.2.2.2.2.2.2.2.2.2.2&&ltb a0.2.2.2.2.2.2.2.1 60000)))
 ·have hr:yqm a0=a0:=by unfold yqm; rw [hm]; rfl
  rw [hr]
  cases hmk:yeh a0
  ·rfl
  ·have:a0.2.2.2.2.2.2.2.2.2.2.2=true:=by
    unfold yeh at hmk
    simp only [ybI]at hmk
    unfold ye at hm
    revert hm hmk
    cases yE a0<;>cases a0.2.2.2.2.2.2.2.2.2.2.1<;>cases ltb a0.2.2.2.2.2.2.2.1 60000<;>cases a0.2.2.2.2.2.2.2.2.2.2.2<;>decide
   rw [y4Q (by rfl),y4Q this]
 ·have hr:yqm a0=yTj a0:=by unfold yqm; rw [hm]; rfl
  rw [hr]
  simp only [Bool.and_eq_true,Bool.not_eq_true'] at hm
  obtain ⟨ha,hdn,hbr,hlt⟩:=hm
  have hmk:yeh a0=true:=by
   unfold yeh
   simp only [ybI,ha,show a0.2.2.2.2.2.2.2.2.2.2.1=false from hdn,hlt]; rfl
  rw [hmk,y4Q (by rfl),yacf hbr]
  have hgo:yf a0.2.1=true:=yll ha
  have hle:=yCY ha
  have h1:=zj7 (step:=ydA) 4 (fun i s=>yvl i yK s) yxV (fun _ s=>s.2.1=a0.2.1∧s.2.2.1.length=a0.2.2.1.length∧ye s=false) .inl
   (fun b=>match b with | .inl x=> .inl (yUU yK x) | .inr x=> .inr (yvw x)) (fun i s hi hs=>by
    constructor
    ·simp only [ydA,yvl,yvE,zj4 (show (i:Int) < 4 by omega),cond_true,wr (show -9223372036854775808≤(i:Int)+1 by omega) (by omega),Int.natCast_add,Int.natCast_one,Int.toNat_natCast,zkr]
     rw [yLf s s.2.2.2.2.2.1 (by unfold yn4; rw [hs.1,hgo]; rfl)]
     simp only [zkc,yim]
     unfold yxV
     cases hf:(yU s s.2.2.2.2.2.1).2
     ·rfl
     ·cases leb 60000 s.2.2.2.2.2.1
      ·have ho:=yaaJ (a:=s) (q:=s.2.2.2.2.2.1) (by rw [hs.1]; exact hgo) hf
       have hr:yhW s (yU s s.2.2.2.2.2.1).1=some ((!(ye (yh5 s)),()),(yh5 s,())):=yS4 _ _ (by unfold yhX; rw [hs.2.2]; rfl)
       have hd:ye (yh5 s)=false→yjm (yQ (yh5 s)) (yU s s.2.2.2.2.2.1).1.2.1 (yU s s.2.2.2.2.2.1).1.2.2=some ((!(ye (ytx s)),()),(ytx s,())):=fun hd1=>yVZ _ _ _ (by
         unfold yjn
         simp only [Bool.and_eq_true,beq_iff_eq,Bool.not_eq_true']
         rw [show (yQ (yh5 s)).2.1=s.2.1 from y0e s]
         exact ⟨hd1,ho.1,ho.2,by rw [show (yQ (yh5 s)).2.2.1.length=s.2.2.1.length from yNn s _,hs.2.1,hle,hs.1]⟩)
       rw [hr]
       generalize ytx s=R2 at hd ⊢
       generalize yh5 s=R1 at hd ⊢
       generalize yU s s.2.2.2.2.2.1=F at hd ⊢
       unfold yQ at hd
       simp only [Bool.not_true,Bool.not_false,cond_true,cond_false,Bool.or_self,zkc]
       cases hd1:ye R1
       ·simp only [Bool.not_true,Bool.not_false,cond_true,cond_false,hd hd1,zkc]
        cases hd2:ye R2
        ·rfl
        ·simp only [hd2,Bool.not_true,Bool.not_false,cond_true,yvw]
       ·simp only [hd1,Bool.not_true,Bool.not_false,cond_true,yvw]
      ·rfl
    ·intro s' h
     unfold yxV at h
     cases hc:(!(yU s s.2.2.2.2.2.1).2||leb 60000 s.2.2.2.2.2.1)
     ·rw [hc]at h
      cases hd1:ye (yh5 s)
      ·rw [hd1]at h
       cases hd2:ye (ytx s)
       ·rw [hd2]at h
        simp only [cond_false,Sum.inl.injEq]at h
        subst h
        exact ⟨(y94 s).trans hs.1,(y95 s).trans hs.2.1,hd2⟩
       ·rw [hd2]at h; cases h
      ·rw [hd1]at h; cases h
     ·rw [hc]at h; cases h) (fun s hs=>by simp only [ydA,yvl,yvE]; rfl) a0 ⟨rfl,rfl,hdn⟩ 18446744073709551616 (by omega)
  have hdo: ∀ b,goE yxV .inl 4 0 a0= .inl b→ye b=false:=fun b hb=>y96 4 0 a0 b hdn hb
  refine (congrArg (fun z=>zjY z _ _) (show yw7 (yU2 yK a0)=_ from h1)).trans ?_
  unfold yTj
  cases hg:goE yxV .inl 4 0 a0 with
  | inl b =>
   simp only [zkh,zkr]
   rw [yVY b (by unfold yoU; rw [hdo b hg]; rfl)]; rfl
  | inr b=>rfl
def yzo:Con:=⟨yjK,ywl,fun x=>(fun n=>some ((n,()),())) (yeM x.1)⟩
theorem yM7:ConOk Tryz.prog 68 yzo:=(y3i).mono (fun x r hk h=>(y5K x.1 hk).trans h)
end
section
def ymL:Code:=(Tryz.f168.body).getD .skip
def ytP:Env:=zj2 TT [(126,yF),(133,yfA),(200,yaX),(219,yjd)] []
theorem yT7:FrOk Tryz.prog ⟨ytP,45,fun _=>none⟩ ymL:=zj6 yc yd ⟨yS,yj0,ydd,yr3,trivial⟩
def yGE:Nat→Option Seg:=fun _=>none
def yby:Shape:=⟨[(1,false,[.int .i64]),(4,false,[.ptr 64 0]),(5,false,[.ptr 4224 0]),(18,false,[.br tW]),(19,false,[.int .i64]),(20,false,[.int .i64])],[(64,[.nil,.nil,.bool,.nil]),(4224,[.at 800000000,.at 800000001,.bool,.at 800000002])],[(800000000,tL,(.ow .fz)),(800000001,tW,(.pr .fz (.ow .fz))),(800000002,tI,.fz)]⟩
def ygf:Shape:=⟨[(1,false,[.int .i64]),(4,false,[.ptr 64 0]),(5,false,[.ptr 4224 0]),(18,false,[.br tW]),(19,false,[.int .i64]),(20,false,[.int .i64])],[(64,[.nil,.nil,.bool,.nil]),(4224,[.at 800000000,.at 800000001,.bool,.at 800000002])],[(800000000,tL,(.ow .fz)),(800000001,tW,(.pr .fz (.ow .fz))),(800000002,tI,.fz)]⟩
def yf4:Shape:=⟨[(4,false,[.ptr 64 0]),(5,false,[.ptr 4224 0])],[(64,[.nil,.nil,.bool,.nil]),(4224,[.at 800000000,.at 800000001,.bool,.at 800000002])],[(800000000,tL,(.ow .fz)),(800000001,tW,(.pr .fz (.ow .fz))),(800000002,tI,.fz)]⟩
def yk6:Shape:=⟨[],[],[]⟩
abbrev yqG (v0:Int) (v1:List dW) (v2 v3:Int) (v4 v5:dM):(yby).X:=(((v0,()),((),()),((),()),(v1,()),(v2,()),(v3,()),()),(((),(),v4.2.2.1,(),()),((),(),v5.2.2.1,(),()),()),(v5.1,v5.2.1,v5.2.2.2,()))
abbrev yP6 (v0:Int) (v1:List dW) (v2 v3:Int) (v4 v5:dM):(ygf).X:=(((v0,()),((),()),((),()),(v1,()),(v2,()),(v3,()),()),(((),(),v4.2.2.1,(),()),((),(),v5.2.2.1,(),()),()),(v5.1,v5.2.1,v5.2.2.2,()))
abbrev yBw (v0 v1:dM):(yf4).X:=((((),()),((),()),()),(((),(),v0.2.2.1,(),()),((),(),v1.2.2.1,(),()),()),(v1.1,v1.2.1,v1.2.2.2,()))
def yqW (v0:Int) (v1:List dW) (v2 v3:Int) (v4 v5:Bool) (v6:List (List Int)) (v7:List dW) (v8:List Int):Option ((yby).X ⊕ ((yf4).X ⊕ (yk6).X)) :=
 bif (ltb v3 v2) then
 bif (inb v3 v1.length) then
 bif (ltb v3 20) then
 bif (leb 0 v3) then
 bif ((IntKind.i64.wrap ((BitVec.ofInt IntKind.i64.bits (v0.fdiv (2 ^ (min (v3).toNat IntKind.i64.bits))) &&& BitVec.ofInt IntKind.i64.bits 1).toNat:Int))==1) then
 let r5:=yo ((nth v1 v3 (0,[])).2)
 bif (inb ((nth v1 v3 (0,[])).1) v6.length) then
 some (.inl (((v0,()),((),()),((),()),(v1,()),(v2,()),((IntKind.i64.wrap (v3+1)),()),()),(((),(),v4,(),()),((),(),v5,(),()),()),((v6.set ((nth v1 v3 (0,[])).1).toNat r5),v7,v8,())))
 else none
 else
 some (.inl (((v0,()),((),()),((),()),(v1,()),(v2,()),((IntKind.i64.wrap (v3+1)),()),()),(((),(),v4,(),()),((),(),v5,(),()),()),(v6,v7,v8,())))
 else none
 else
 some (.inl (((v0,()),((),()),((),()),(v1,()),(v2,()),((IntKind.i64.wrap (v3+1)),()),()),(((),(),v4,(),()),((),(),v5,(),()),()),(v6,v7,v8,())))
 else none
 else
 some (.inr (.inl ((((),()),((),()),()),(((),(),v4,(),()),((),(),v5,(),()),()),(v6,v7,v8,()))))
def ybX (x:(yby).X):=yqW x.1.1.1 x.1.2.2.2.1.1 x.1.2.2.2.2.1.1 x.1.2.2.2.2.2.1.1 x.2.1.1.2.2.1 x.2.1.2.1.2.2.1 x.2.2.1 x.2.2.2.1 x.2.2.2.2.1
def yBa (x:(ygf).X):(yby).X:=(((x.1.1.1,()),((),()),((),()),(x.1.2.2.2.1.1,()),(x.1.2.2.2.2.1.1,()),(x.1.2.2.2.2.2.1.1,()),()),(((),(),x.2.1.1.2.2.1,(),()),((),(),x.2.1.2.1.2.2.1,(),()),()),(x.2.2.1,x.2.2.2.1,x.2.2.2.2.1,()))
def yC2:Code:=(zdD ymL 64 500).getD .skip
theorem yRa:zdD ymL 64 125=some (.block 0 (.loop yC2)):=by kernel_rfl
theorem yS8 (x:(yby).X):zg0 ⟨ytP,45,yGE⟩ 0 yC2 500 yby yf4 yk6 x=ybX x:=by kernel_rfl
def yBm (x:(ygf).X):Nat:=18446744073709551616
def ykg (x:(ygf).X):Option ((yf4).X ⊕ (yk6).X):=zz ybX (yBm x) (yBa x)
def yBE:Seg:=⟨ygf,yf4,yk6,ykg⟩
def yGF:Nat→Option Seg:=fun q=>bif Nat.beq q 125 then some yBE else yGE q
theorem yT8:FrOk Tryz.prog ⟨ytP,45,yGF⟩ ymL:=(yT7).loop (sg:=yBE) yby yBa (by decide) yRa ybX yBm (by decide) (fun _=>rfl) (fun x r _ h=>h) yS8
abbrev yh9:List Par:= [.rd tM,.rd tI]
abbrev yt2:List OT:= [⟨false,tM,(.pr (.ow (.ow .fz)) (.pr (.ow (.pr .fz (.ow .fz))) (.pr .fz (.ow .fz))))⟩]
def yoV (a0:dM) (a1:Int):Option (ResD yt2×MutD yh9) :=
 let r1:=yau a0
 let r2:=yaa a0
 bif (!r2) then
 some ((r1,()),())
 else
 let r3:=yg a1 0 1048575
 bif (!r3) then
 zjY (ykg (((0,()),((),()),((),()),(a0.2.1,()),((a0.2.1.length:Int),()),(0,()),()),(((),(),false,(),()),((),(),r1.2.2.1,(),()),()),(r1.1,r1.2.1,r1.2.2.2,()))) (fun y5 =>
 some (((y5.2.2.1,[],y5.2.1.2.1.2.2.1,y5.2.2.2.2.1),()),())) (fun y5 =>
 none)
 else
 zjY (ykg (((a1,()),((),()),((),()),(a0.2.1,()),((a0.2.1.length:Int),()),(0,()),()),(((),(),false,(),()),((),(),r1.2.2.1,(),()),()),(r1.1,r1.2.1,r1.2.2.2,()))) (fun y6 =>
 some (((y6.2.2.1,[],y6.2.1.2.1.2.2.1,y6.2.2.2.2.1),()),())) (fun y6 =>
 none)
theorem y4U (x:InD yh9):zjw ⟨ytP,45,yGF⟩ Tryz.f168.results.toList ymL yh9 yt2 x=yoV x.1 x.2.1:=by kernel_rfl
theorem yZa:ConOk Tryz.prog 168 ⟨yh9,yt2,fun x=>yoV x.1 x.2.1⟩:=zj1 (yT8) Tryz.func168 (by kernel_rfl) (by kernel_rfl) Tryz.ntmps168.symm (by decide) (fun x r h=>(y4U x).trans h)
def yil (a0:dM) (a1:Int):dM:=ygU a0 a1
theorem y2K (a0:dM) (a1:Int) (hk:zi1 yh9 (a0,a1,())):yoV a0 a1=(fun n=>some ((n,()),())) (yil a0 a1):=by
 have hb2:a0.2.1.length * 32≤2 ^ 47:=hk.1.2.1.1
 unfold yoV yil ygU
 simp only [yau,yaa,yah,ybr]
 cases hm:yu a0
 ·rfl
 have h1: ∀ k,ykg (yP6 k a0.2.1 a0.2.1.length 0 noMem a0)=some (.inl (yBw noMem (ybP (fun i=>decide (i < 20)&&yNw k i) a0.2.1 a0.1,a0.2))):=fun k =>
  zj8 (step:=ybX) a0.2.1.length (fun i s=>yqG k a0.2.1 a0.2.1.length i noMem (s,a0.2)) (ybH (fun i=>decide (i < 20)&&yNw k i) a0.2.1) (fun i s=>s.length=a0.1.length) (fun s=> .inl (yBw noMem (s,a0.2))) (fun i s hi hs=>by
   have hw:=(yNI hm hi).1
   refine ⟨?_,yzZ.trans hs⟩
   simp only [ybX,yqG,yqW,zj4 (show (i:Int) < a0.2.1.length by omega),cond_true,wr (show -9223372036854775808≤(i:Int)+1 by omega) (by omega),Int.natCast_add,Int.natCast_one,Int.toNat_natCast,zkw (show (0:Int)≤i by omega),zkl hi,hs,hw,ybH,yo]
   rw [show yNw k i=(IntKind.i64.wrap ((BitVec.ofInt IntKind.i64.bits (k.fdiv (2 ^ (min i IntKind.i64.bits))) &&& BitVec.ofInt IntKind.i64.bits 1).toNat:Int)==1) from rfl]
   by_cases h20:i < 20
   ·rw [zj4 (show (i:Int) < 20 by omega),decide_eq_true h20]
    cases (IntKind.i64.wrap ((BitVec.ofInt IntKind.i64.bits (k.fdiv (2 ^ (min i IntKind.i64.bits))) &&& BitVec.ofInt IntKind.i64.bits 1).toNat:Int)==1)<;>rfl
   ·rw [zkx (show (20:Int)≤i by omega),decide_eq_false h20]; rfl) (fun s hs=>by simp only [ybX,yqG,yqW,zkx (Int.le_refl _),cond_false]) a0.1 rfl _ (by show _ < 18446744073709551616; omega)
 unfold y9M
 rw [h1 0,h1 a1]
 cases (leb 0 a1&&leb a1 1048575)<;>rfl
def yHr:Con:=⟨yh9,yt2,fun x=>(fun n=>some ((n,()),())) (yil x.1 x.2.1)⟩
theorem y3V:ConOk Tryz.prog 168 yHr:=(yZa).mono (fun x r hk h=>(y2K x.1 x.2.1 hk).trans h)
end
section
def yvQ:Code:=(Tryz.f72.body).getD .skip
def yCu:Env:=zj2 TT [(168,yHr)] []
theorem y5r:FrOk Tryz.prog ⟨yCu,33,fun _=>none⟩ yvQ:=zj6 yc yd ⟨y3V,trivial⟩
def yOL:Nat→Option Seg:=fun _=>none
def yfw:Shape:=⟨[(1,false,[.br tI]),(5,false,[.at 800000000]),(10,false,[.br tM]),(11,false,[.int .i64]),(12,false,[.int .i64])],[],[(800000000,tM,(.pr (.ow (.ow .fz)) (.pr (.ow (.pr .fz (.ow .fz))) (.pr .fz (.ow .fz)))))]⟩
def yno:Shape:=⟨[(1,false,[.br tI]),(5,false,[.at 800000000]),(10,false,[.br tM]),(11,false,[.int .i64]),(12,false,[.ci .i64 0])],[],[(800000000,tM,(.pr (.ow (.ow .fz)) (.pr (.ow (.pr .fz (.ow .fz))) (.pr .fz (.ow .fz)))))]⟩
def ynk:Shape:=⟨[(5,false,[.at 800000000])],[],[(800000000,tM,(.pr (.ow (.ow .fz)) (.pr (.ow (.pr .fz (.ow .fz))) (.pr .fz (.ow .fz)))))]⟩
def yuo:Shape:=⟨[],[],[]⟩
abbrev yz0 (v0:List Int) (v1:List dM) (v2 v3:Int) (v4:List dM):(yfw).X:=(((v0,()),((),()),(v1,()),(v2,()),(v3,()),()),(),(v4,()))
abbrev y2F (v0:List Int) (v1:List dM) (v2:Int) (v3:List dM):(yno).X:=(((v0,()),((),()),(v1,()),(v2,()),((),()),()),(),(v3,()))
abbrev yK1 (v0:List dM):(ynk).X:=((((),()),()),(),(v0,()))
def yAI (v0:List Int) (v1:List dM) (v2 v3:Int) (v4:List dM):Option ((yfw).X ⊕ ((ynk).X ⊕ (yuo).X)) :=
 bif (ltb v3 v2) then
 bif (inb v3 v1.length) then
 bif (ltb v3 (v0.length:Int)) then
 bif (inb v3 v0.length) then
 let r3:=yil ((nth v1 v3 ([],[],false,[])).1,((nth v1 v3 ([],[],false,[])).2).1,(((nth v1 v3 ([],[],false,[])).2).2)) (nth v0 v3 0)
 bif (zjQ v4.length ([r3]:List dM).length 80) then
 some (.inl (((v0,()),((),()),(v1,()),(v2,()),((IntKind.i64.wrap (v3+1)),()),()),(),((v4++([r3]:List dM)),())))
 else none
 else none
 else
 let r4:=yil ((nth v1 v3 ([],[],false,[])).1,((nth v1 v3 ([],[],false,[])).2).1,(((nth v1 v3 ([],[],false,[])).2).2)) 0
 bif (zjQ v4.length ([r4]:List dM).length 80) then
 some (.inl (((v0,()),((),()),(v1,()),(v2,()),((IntKind.i64.wrap (v3+1)),()),()),(),((v4++([r4]:List dM)),())))
 else none
 else none
 else
 some (.inr (.inl ((((),()),()),(),(v4,()))))
def yfP (x:(yfw).X):=yAI x.1.1.1 x.1.2.2.1.1 x.1.2.2.2.1.1 x.1.2.2.2.2.1.1 x.2.2.1
def yKO (x:(yno).X):(yfw).X:=(((x.1.1.1,()),((),()),(x.1.2.2.1.1,()),(x.1.2.2.2.1.1,()),(0,()),()),(),(x.2.2.1,()))
def yME:Code:=(zdD yvQ 64 116).getD .skip
theorem y4M:zdD yvQ 64 29=some (.block 0 (.loop yME)):=by kernel_rfl
theorem y62 (x:(yfw).X):zg0 ⟨yCu,33,yOL⟩ 0 yME 116 yfw ynk yuo x=yfP x:=by kernel_rfl
def yKT (x:(yno).X):Nat:=18446744073709551616
def yBR (x:(yno).X):Option ((ynk).X ⊕ (yuo).X):=zz yfP (yKT x) (yKO x)
def yLl:Seg:=⟨yno,ynk,yuo,yBR⟩
def yOM:Nat→Option Seg:=fun q=>bif Nat.beq q 29 then some yLl else yOL q
theorem y5s:FrOk Tryz.prog ⟨yCu,33,yOM⟩ yvQ:=(y5r).loop (sg:=yLl) yfw yKO (by decide) y4M yfP yKT (by decide) (fun _=>rfl) (fun x r _ h=>h) y62
abbrev yqp:List Par:= [.rd tMs,.rd tL]
abbrev yCx:List OT:= [⟨false,tMs,(.ow (.pr (.ow (.ow .fz)) (.pr (.ow (.pr .fz (.ow .fz))) (.pr .fz (.ow .fz)))))⟩]
def yw1 (a0:List dM) (a1:List Int):Option (ResD yCx×MutD yqp) :=
 zjY (yBR (((a1,()),((),()),(a0,()),((a0.length:Int),()),((),()),()),(),(([]:List dM),()))) (fun y4 =>
 some ((y4.2.2.1,()),())) (fun y4 =>
 none)
theorem yaaj (x:InD yqp):zjw ⟨yCu,33,yOM⟩ Tryz.f72.results.toList yvQ yqp yCx x=yw1 x.1 x.2.1:=by kernel_rfl
theorem y8Q:ConOk Tryz.prog 72 ⟨yqp,yCx,fun x=>yw1 x.1 x.2.1⟩:=zj1 (y5s) Tryz.func72 (by kernel_rfl) (by kernel_rfl) Tryz.ntmps72.symm (by decide) (fun x r h=>(yaaj x).trans h)
def ylP (a0:List dM) (a1:List Int):List dM:=ybf a0 a1
theorem y9V (a0:List dM) (a1:List Int) (hk:zi1 yqp (a0,a1,())):yw1 a0 a1=(fun n=>some ((n,()),())) (ylP a0 a1):=by
 have hb:a0.length * 80≤2 ^ 47:=hk.1.1
 have h1:yBR (y2F a1 a0 a0.length [])=some (.inl (yK1 ((List.range a0.length).foldl (fun s (i:Nat)=>s++ [ygU (nth a0 i noMem) (yIe a1 i)]) []))) :=
  zj8 (step:=yfP) a0.length (fun i s=>yz0 a1 a0 a0.length i s) (fun s (i:Nat)=>s++ [ygU (nth a0 i noMem) (yIe a1 i)]) (fun i s=>s.length=i) (fun s=> .inl (yK1 s)) (fun i s hi hs=>⟨by
   simp only [yfP,yz0,yAI,zj4 (show (i:Int) < a0.length by omega),cond_true,wr (show -9223372036854775808≤(i:Int)+1 by omega) (by omega),Int.natCast_add,Int.natCast_one,Int.toNat_natCast,zkl hi,zkr,yil,yIe]
   rw [zka.2 (show (s.length+ [ygU (nth a0 i ([],[],false,[])) (nth a1 i 0)].length) * 80≤140737488355328 by simp only [List.length_cons,List.length_nil]; omega),zka.2 (show (s.length+ [ygU (nth a0 i ([],[],false,[])) 0].length) * 80≤140737488355328 by simp only [List.length_cons,List.length_nil]; omega)]
   by_cases h:i < a1.length
   ·rw [zj4 (show (i:Int) < a1.length by omega),zkl h,decide_eq_true h]; rfl
   ·rw [zkx (show (a1.length:Int)≤i by omega),decide_eq_false h]; rfl,by simp [hs]⟩) (fun s hs=>by simp only [yfP,yz0,yAI,zkx (Int.le_refl _),cond_false]) [] rfl _ (by show _ < 18446744073709551616; omega)
 unfold yw1 ylP ybf
 rw [h1,yzO]; rfl
def yEl:Con:=⟨yqp,yCx,fun x=>(fun n=>some ((n,()),())) (ylP x.1 x.2.1)⟩
theorem ySX:ConOk Tryz.prog 72 yEl:=(y8Q).mono (fun x r hk h=>(y9V x.1 x.2.1 hk).trans h)
end
section
def yLD:Code:=(Tryz.f60.body).getD .skip
def yMk:Env:=zj2 TT [(50,yvb),(68,yzo),(72,yEl),(126,yF)] []
theorem yUd:FrOk Tryz.prog ⟨yMk,29,fun _=>none⟩ yLD:=zj6 yc yd ⟨yIs,yM7,ySX,yS,trivial⟩
def yWx:Nat→Option Seg:=fun _=>none
abbrev yib:List Par:= [.rd tMs,.rd tL,.rd tI,.rd tI]
abbrev yt4:List OT:= [⟨false,tA,(.pr .fz (.pr (.pr .fz .fz) (.pr (.ow (.pr (.ow (.ow .fz)) (.pr (.ow (.pr .fz (.ow .fz))) (.pr .fz (.ow .fz))))) (.pr .fz (.pr .fz (.pr .fz (.pr .fz (.pr .fz (.pr (.ow (.pr .fz (.ow .fz))) (.pr .fz (.pr .fz .fz)))))))))))⟩,⟨false,tB,.fz⟩]
def yoY (a0:List dM) (a1:List Int) (a2 a3:Int):Option (ResD yt4×MutD yib) :=
 let r1:=ylP a0 a1
 let r2:=yef r1 a2
 bif (!r2.2) then
 some (((0,(0,0),[],0,0,0,0,0,[],0,false,false),false,()),())
 else
 let r3:=yg a3 (-1) 1000
 bif r3 then
 let r4:=yeM (r2.1.1,r2.1.2.1,r2.1.2.2.1,r2.1.2.2.2.1,r2.1.2.2.2.2.1,r2.1.2.2.2.2.2.1,r2.1.2.2.2.2.2.2.1,r2.1.2.2.2.2.2.2.2.1,r2.1.2.2.2.2.2.2.2.2.1,a3,r2.1.2.2.2.2.2.2.2.2.2.2)
 some ((r4,true,()),())
 else
 let r5:=yeM r2.1
 some ((r5,true,()),())
theorem y4X (x:InD yib):zjw ⟨yMk,29,yWx⟩ Tryz.f60.results.toList yLD yib yt4 x=yoY x.1 x.2.1 x.2.2.1 x.2.2.2.1:=by kernel_rfl
theorem yZd:ConOk Tryz.prog 60 ⟨yib,yt4,fun x=>yoY x.1 x.2.1 x.2.2.1 x.2.2.2.1⟩:=zj1 (yUd) Tryz.func60 (by kernel_rfl) (by kernel_rfl) Tryz.ntmps60.symm (by decide) (fun x r h=>(y4X x).trans h)
def ynO (a0:List dM) (a1:List Int) (a2 a3:Int):dA×Bool:=yCt a0 a1 a2 a3
theorem y2N (a0:List dM) (a1:List Int) (a2 a3:Int) (hk:zi1 yib (a0,a1,a2,a3,())):yoY a0 a1 a2 a3=(fun n=>some ((n.1,n.2,()),())) (ynO a0 a1 a2 a3):=by
 unfold yoY ynO yCt
 simp only [ylP,yef,yah,ybr,yeM]
 cases h:(ycm (ybf a0 a1) a2).2
 ·rfl
 ·cases (leb (-1) a3&&leb a3 1000)<;>rfl
def yHs:Con:=⟨yib,yt4,fun x=>(fun n=>some ((n.1,n.2,()),())) (ynO x.1 x.2.1 x.2.2.1 x.2.2.2.1)⟩
theorem y3W:ConOk Tryz.prog 60 yHs:=(yZd).mono (fun x r hk h=>(y2N x.1 x.2.1 x.2.2.1 x.2.2.2.1 hk).trans h)
end
section
def yeL:Code:=(Tryz.f103.body).getD .skip
def yjF:Env:=zj2 TT [(152,ycq)] [(8192,(.pr (.ow .fz) (.pr (.ow (.pr .fz .fz)) (.pr .fz (.ow .fz))))),(25088,(.pr (.ow .fz) (.pr (.ow (.pr .fz .fz)) (.pr .fz (.ow .fz))))),(28672,(.pr .fz .fz)),(46144,(.pr .fz .fz))]
theorem yXP:FrOk Tryz.prog ⟨yjF,57,fun _=>none⟩ yeL:=zj6 yc yd ⟨yfK,trivial⟩
def yJz:Nat→Option Seg:=fun _=>none
def yc5:Shape:=⟨[(1,false,[.ptr 0 0]),(2,false,[.ptr 64 0]),(3,false,[.ptr 4160 0]),(4,false,[.int .i64])],[(0,[.int .i64,.int .i64,.int .i64,.br tM,.int .i64,.int .i64,.int .i64,.int .i64,.int .i64,.br tW,.int .i64,.bool,.bool]),(64,[.int .i64,.int .i64,.int .i64,.nil,.int .i64,.int .i64,.int .i64,.int .i64,.int .i64,.nil,.int .i64,.bool,.bool]),(4160,[.int .i64,.int .i64,.int .i64,.at 800000000,.int .i64,.int .i64,.int .i64,.int .i64,.int .i64,.br tW,.int .i64,.bool,.bool])],[(800000000,tM,(.pr (.ow .fz) (.pr (.ow (.pr .fz .fz)) (.pr .fz (.ow .fz)))))]⟩
def yi0:Shape:=⟨[(1,false,[.ptr 0 0]),(2,false,[.ptr 64 0]),(3,false,[.ptr 4160 0]),(4,false,[.ci .i64 0])],[(0,[.int .i64,.int .i64,.int .i64,.br tM,.int .i64,.int .i64,.int .i64,.int .i64,.int .i64,.br tW,.int .i64,.bool,.bool]),(64,[.int .i64,.int .i64,.int .i64,.nil,.int .i64,.int .i64,.int .i64,.int .i64,.int .i64,.nil,.int .i64,.bool,.bool]),(4160,[.int .i64,.int .i64,.int .i64,.at 800000000,.int .i64,.int .i64,.int .i64,.int .i64,.int .i64,.br tW,.int .i64,.bool,.bool])],[(800000000,tM,(.pr (.ow .fz) (.pr (.ow (.pr .fz .fz)) (.pr .fz (.ow .fz)))))]⟩
def yiN:Shape:=⟨[(1,false,[.ptr 0 0]),(2,false,[.ptr 64 0]),(3,false,[.ptr 4160 0])],[(0,[.int .i64,.int .i64,.int .i64,.br tM,.int .i64,.int .i64,.int .i64,.int .i64,.int .i64,.br tW,.int .i64,.bool,.bool]),(64,[.int .i64,.int .i64,.int .i64,.nil,.int .i64,.int .i64,.int .i64,.int .i64,.int .i64,.nil,.int .i64,.bool,.bool]),(4160,[.int .i64,.int .i64,.int .i64,.at 800000000,.int .i64,.int .i64,.int .i64,.int .i64,.int .i64,.br tW,.int .i64,.bool,.bool])],[(800000000,tM,(.pr (.ow .fz) (.pr (.ow (.pr .fz .fz)) (.pr .fz (.ow .fz)))))]⟩
def yow:Shape:=⟨[],[],[]⟩
abbrev yvq (v0:Int) (v1 v2 v3:dA):(yc5).X:=((((),()),((),()),((),()),(v0,()),()),((v1.1,v1.2.1.1,v1.2.1.2,v1.2.2.1,v1.2.2.2.1,v1.2.2.2.2.1,v1.2.2.2.2.2.1,v1.2.2.2.2.2.2.1,v1.2.2.2.2.2.2.2.1,v1.2.2.2.2.2.2.2.2.1,v1.2.2.2.2.2.2.2.2.2.1,v1.2.2.2.2.2.2.2.2.2.2.1,v1.2.2.2.2.2.2.2.2.2.2.2,()),(v2.1,v2.2.1.1,v2.2.1.2,(),v2.2.2.2.1,v2.2.2.2.2.1,v2.2.2.2.2.2.1,v2.2.2.2.2.2.2.1,v2.2.2.2.2.2.2.2.1,(),v2.2.2.2.2.2.2.2.2.2.1,v2.2.2.2.2.2.2.2.2.2.2.1,v2.2.2.2.2.2.2.2.2.2.2.2,()),(v3.1,v3.2.1.1,v3.2.1.2,(),v3.2.2.2.1,v3.2.2.2.2.1,v3.2.2.2.2.2.1,v3.2.2.2.2.2.2.1,v3.2.2.2.2.2.2.2.1,v3.2.2.2.2.2.2.2.2.1,v3.2.2.2.2.2.2.2.2.2.1,v3.2.2.2.2.2.2.2.2.2.2.1,v3.2.2.2.2.2.2.2.2.2.2.2,()),()),(v3.2.2.1,()))
abbrev yU9 (v0 v1 v2:dA):(yi0).X:=((((),()),((),()),((),()),((),()),()),((v0.1,v0.2.1.1,v0.2.1.2,v0.2.2.1,v0.2.2.2.1,v0.2.2.2.2.1,v0.2.2.2.2.2.1,v0.2.2.2.2.2.2.1,v0.2.2.2.2.2.2.2.1,v0.2.2.2.2.2.2.2.2.1,v0.2.2.2.2.2.2.2.2.2.1,v0.2.2.2.2.2.2.2.2.2.2.1,v0.2.2.2.2.2.2.2.2.2.2.2,()),(v1.1,v1.2.1.1,v1.2.1.2,(),v1.2.2.2.1,v1.2.2.2.2.1,v1.2.2.2.2.2.1,v1.2.2.2.2.2.2.1,v1.2.2.2.2.2.2.2.1,(),v1.2.2.2.2.2.2.2.2.2.1,v1.2.2.2.2.2.2.2.2.2.2.1,v1.2.2.2.2.2.2.2.2.2.2.2,()),(v2.1,v2.2.1.1,v2.2.1.2,(),v2.2.2.2.1,v2.2.2.2.2.1,v2.2.2.2.2.2.1,v2.2.2.2.2.2.2.1,v2.2.2.2.2.2.2.2.1,v2.2.2.2.2.2.2.2.2.1,v2.2.2.2.2.2.2.2.2.2.1,v2.2.2.2.2.2.2.2.2.2.2.1,v2.2.2.2.2.2.2.2.2.2.2.2,()),()),(v2.2.2.1,()))
abbrev yUY (v0 v1 v2:dA):(yiN).X:=((((),()),((),()),((),()),()),((v0.1,v0.2.1.1,v0.2.1.2,v0.2.2.1,v0.2.2.2.1,v0.2.2.2.2.1,v0.2.2.2.2.2.1,v0.2.2.2.2.2.2.1,v0.2.2.2.2.2.2.2.1,v0.2.2.2.2.2.2.2.2.1,v0.2.2.2.2.2.2.2.2.2.1,v0.2.2.2.2.2.2.2.2.2.2.1,v0.2.2.2.2.2.2.2.2.2.2.2,()),(v1.1,v1.2.1.1,v1.2.1.2,(),v1.2.2.2.1,v1.2.2.2.2.1,v1.2.2.2.2.2.1,v1.2.2.2.2.2.2.1,v1.2.2.2.2.2.2.2.1,(),v1.2.2.2.2.2.2.2.2.2.1,v1.2.2.2.2.2.2.2.2.2.2.1,v1.2.2.2.2.2.2.2.2.2.2.2,()),(v2.1,v2.2.1.1,v2.2.1.2,(),v2.2.2.2.1,v2.2.2.2.2.1,v2.2.2.2.2.2.1,v2.2.2.2.2.2.2.1,v2.2.2.2.2.2.2.2.1,v2.2.2.2.2.2.2.2.2.1,v2.2.2.2.2.2.2.2.2.2.1,v2.2.2.2.2.2.2.2.2.2.2.1,v2.2.2.2.2.2.2.2.2.2.2.2,()),()),(v2.2.2.1,()))
def yvL (v0 v1 v2 v3:Int) (v4:List dM) (v5 v6 v7 v8 v9:Int) (v10:List dW) (v11:Int) (v12 v13:Bool) (v14 v15 v16 v17 v18 v19 v20 v21 v22:Int) (v23 v24:Bool) (v25 v26 v27 v28 v29 v30 v31 v32:Int) (v33:List dW) (v34:Int) (v35 v36:Bool) (v37:List dM):Option ((yc5).X ⊕ ((yiN).X ⊕ (yow).X)) :=
 bif (ltb v0 (v4.length:Int)) then
 bif (inb v0 v4.length) then
 let r2:=yD ((nth v4 v0 ([],[],false,[])).1,((nth v4 v0 ([],[],false,[])).2).1,(((nth v4 v0 ([],[],false,[])).2).2))
 bif (zjQ v37.length ([r2]:List dM).length 80) then
 some (.inl ((((),()),((),()),((),()),((IntKind.i64.wrap (v0+1)),()),()),((v1,v2,v3,v4,v5,v6,v7,v8,v9,v10,v11,v12,v13,()),(v14,v15,v16,(),v17,v18,v19,v20,v21,(),v22,v23,v24,()),(v25,v26,v27,(),v28,v29,v30,v31,v32,v33,v34,v35,v36,()),()),((v37++([r2]:List dM)),())))
 else none
 else none
 else
 some (.inr (.inl ((((),()),((),()),((),()),()),((v1,v2,v3,v4,v5,v6,v7,v8,v9,v10,v11,v12,v13,()),(v14,v15,v16,(),v17,v18,v19,v20,v21,(),v22,v23,v24,()),(v25,v26,v27,(),v28,v29,v30,v31,v32,v33,v34,v35,v36,()),()),(v37,()))))
def ydG (x:(yc5).X):=yvL x.1.2.2.2.1.1 x.2.1.1.1 x.2.1.1.2.1 x.2.1.1.2.2.1 x.2.1.1.2.2.2.1 x.2.1.1.2.2.2.2.1 x.2.1.1.2.2.2.2.2.1 x.2.1.1.2.2.2.2.2.2.1 x.2.1.1.2.2.2.2.2.2.2.1 x.2.1.1.2.2.2.2.2.2.2.2.1 x.2.1.1.2.2.2.2.2.2.2.2.2.1 x.2.1.1.2.2.2.2.2.2.2.2.2.2.1 x.2.1.1.2.2.2.2.2.2.2.2.2.2.2.1 x.2.1.1.2.2.2.2.2.2.2.2.2.2.2.2.1 x.2.1.2.1.1 x.2.1.2.1.2.1 x.2.1.2.1.2.2.1 x.2.1.2.1.2.2.2.2.1 x.2.1.2.1.2.2.2.2.2.1 x.2.1.2.1.2.2.2.2.2.2.1 x.2.1.2.1.2.2.2.2.2.2.2.1 x.2.1.2.1.2.2.2.2.2.2.2.2.1 x.2.1.2.1.2.2.2.2.2.2.2.2.2.2.1 x.2.1.2.1.2.2.2.2.2.2.2.2.2.2.2.1 x.2.1.2.1.2.2.2.2.2.2.2.2.2.2.2.2.1 x.2.1.2.2.1.1 x.2.1.2.2.1.2.1 x.2.1.2.2.1.2.2.1 x.2.1.2.2.1.2.2.2.2.1 x.2.1.2.2.1.2.2.2.2.2.1 x.2.1.2.2.1.2.2.2.2.2.2.1 x.2.1.2.2.1.2.2.2.2.2.2.2.1 x.2.1.2.2.1.2.2.2.2.2.2.2.2.1 x.2.1.2.2.1.2.2.2.2.2.2.2.2.2.1 x.2.1.2.2.1.2.2.2.2.2.2.2.2.2.2.1 x.2.1.2.2.1.2.2.2.2.2.2.2.2.2.2.2.1 x.2.1.2.2.1.2.2.2.2.2.2.2.2.2.2.2.2.1 x.2.2.1
def yFO (x:(yi0).X):(yc5).X:=((((),()),((),()),((),()),(0,()),()),((x.2.1.1.1,x.2.1.1.2.1,x.2.1.1.2.2.1,x.2.1.1.2.2.2.1,x.2.1.1.2.2.2.2.1,x.2.1.1.2.2.2.2.2.1,x.2.1.1.2.2.2.2.2.2.1,x.2.1.1.2.2.2.2.2.2.2.1,x.2.1.1.2.2.2.2.2.2.2.2.1,x.2.1.1.2.2.2.2.2.2.2.2.2.1,x.2.1.1.2.2.2.2.2.2.2.2.2.2.1,x.2.1.1.2.2.2.2.2.2.2.2.2.2.2.1,x.2.1.1.2.2.2.2.2.2.2.2.2.2.2.2.1,()),(x.2.1.2.1.1,x.2.1.2.1.2.1,x.2.1.2.1.2.2.1,(),x.2.1.2.1.2.2.2.2.1,x.2.1.2.1.2.2.2.2.2.1,x.2.1.2.1.2.2.2.2.2.2.1,x.2.1.2.1.2.2.2.2.2.2.2.1,x.2.1.2.1.2.2.2.2.2.2.2.2.1,(),x.2.1.2.1.2.2.2.2.2.2.2.2.2.2.1,x.2.1.2.1.2.2.2.2.2.2.2.2.2.2.2.1,x.2.1.2.1.2.2.2.2.2.2.2.2.2.2.2.2.1,()),(x.2.1.2.2.1.1,x.2.1.2.2.1.2.1,x.2.1.2.2.1.2.2.1,(),x.2.1.2.2.1.2.2.2.2.1,x.2.1.2.2.1.2.2.2.2.2.1,x.2.1.2.2.1.2.2.2.2.2.2.1,x.2.1.2.2.1.2.2.2.2.2.2.2.1,x.2.1.2.2.1.2.2.2.2.2.2.2.2.1,x.2.1.2.2.1.2.2.2.2.2.2.2.2.2.1,x.2.1.2.2.1.2.2.2.2.2.2.2.2.2.2.1,x.2.1.2.2.1.2.2.2.2.2.2.2.2.2.2.2.1,x.2.1.2.2.1.2.2.2.2.2.2.2.2.2.2.2.2.1,()),()),(x.2.2.1,()))
def yHk:Code:=(zdD yeL 64 244).getD .skip
theorem yWV:zdD yeL 64 61=some (.block 0 (.loop yHk)):=by kernel_rfl
theorem yZ8 (x:(yc5).X):zg0 ⟨yjF,57,yJz⟩ 0 yHk 244 yc5 yiN yow x=ydG x:=by kernel_rfl
def yF1 (x:(yi0).X):Nat:=18446744073709551616
def yxe (x:(yi0).X):Option ((yiN).X ⊕ (yow).X):=zz ydG (yF1 x) (yFO x)
def yGj:Seg:=⟨yi0,yiN,yow,yxe⟩
def yyw:Nat→Option Seg:=fun q=>bif Nat.beq q 61 then some yGj else yJz q
theorem yXQ:FrOk Tryz.prog ⟨yjF,57,yyw⟩ yeL:=(yXP).loop (sg:=yGj) yc5 yFO (by decide) yWV ydG yF1 (by decide) (fun _=>rfl) (fun x r _ h=>h) yZ8
def ych:Shape:=⟨[(1,false,[.ptr 0 0]),(2,false,[.ptr 64 0]),(3,false,[.ptr 4160 0]),(5,false,[.int .i64])],[(0,[.int .i64,.int .i64,.int .i64,.br tM,.int .i64,.int .i64,.int .i64,.int .i64,.int .i64,.br tW,.int .i64,.bool,.bool]),(64,[.int .i64,.int .i64,.int .i64,.nil,.int .i64,.int .i64,.int .i64,.int .i64,.int .i64,.nil,.int .i64,.bool,.bool]),(4160,[.int .i64,.int .i64,.int .i64,.at 800000000,.int .i64,.int .i64,.int .i64,.int .i64,.int .i64,.at 800000001,.int .i64,.bool,.bool])],[(800000000,tM,(.pr (.ow .fz) (.pr (.ow (.pr .fz .fz)) (.pr .fz (.ow .fz))))),(800000001,tW,(.pr .fz .fz))]⟩
def yhI:Shape:=⟨[(1,false,[.ptr 0 0]),(2,false,[.ptr 64 0]),(3,false,[.ptr 4160 0]),(5,false,[.ci .i64 0])],[(0,[.int .i64,.int .i64,.int .i64,.br tM,.int .i64,.int .i64,.int .i64,.int .i64,.int .i64,.br tW,.int .i64,.bool,.bool]),(64,[.int .i64,.int .i64,.int .i64,.nil,.int .i64,.int .i64,.int .i64,.int .i64,.int .i64,.nil,.int .i64,.bool,.bool]),(4160,[.int .i64,.int .i64,.int .i64,.at 800000000,.int .i64,.int .i64,.int .i64,.int .i64,.int .i64,.at 800000001,.int .i64,.bool,.bool])],[(800000000,tM,(.pr (.ow .fz) (.pr (.ow (.pr .fz .fz)) (.pr .fz (.ow .fz))))),(800000001,tW,(.pr .fz .fz))]⟩
def yht:Shape:=⟨[(2,false,[.ptr 64 0]),(3,false,[.ptr 4160 0])],[(64,[.int .i64,.int .i64,.int .i64,.nil,.int .i64,.int .i64,.int .i64,.int .i64,.int .i64,.nil,.int .i64,.bool,.bool]),(4160,[.int .i64,.int .i64,.int .i64,.at 800000000,.int .i64,.int .i64,.int .i64,.int .i64,.int .i64,.at 800000001,.int .i64,.bool,.bool])],[(800000000,tM,(.pr (.ow .fz) (.pr (.ow (.pr .fz .fz)) (.pr .fz (.ow .fz))))),(800000001,tW,(.pr .fz .fz))]⟩
def ymd:Shape:=⟨[],[],[]⟩
abbrev ytl (v0:Int) (v1 v2 v3:dA):(ych).X:=((((),()),((),()),((),()),(v0,()),()),((v1.1,v1.2.1.1,v1.2.1.2,v1.2.2.1,v1.2.2.2.1,v1.2.2.2.2.1,v1.2.2.2.2.2.1,v1.2.2.2.2.2.2.1,v1.2.2.2.2.2.2.2.1,v1.2.2.2.2.2.2.2.2.1,v1.2.2.2.2.2.2.2.2.2.1,v1.2.2.2.2.2.2.2.2.2.2.1,v1.2.2.2.2.2.2.2.2.2.2.2,()),(v2.1,v2.2.1.1,v2.2.1.2,(),v2.2.2.2.1,v2.2.2.2.2.1,v2.2.2.2.2.2.1,v2.2.2.2.2.2.2.1,v2.2.2.2.2.2.2.2.1,(),v2.2.2.2.2.2.2.2.2.2.1,v2.2.2.2.2.2.2.2.2.2.2.1,v2.2.2.2.2.2.2.2.2.2.2.2,()),(v3.1,v3.2.1.1,v3.2.1.2,(),v3.2.2.2.1,v3.2.2.2.2.1,v3.2.2.2.2.2.1,v3.2.2.2.2.2.2.1,v3.2.2.2.2.2.2.2.1,(),v3.2.2.2.2.2.2.2.2.2.1,v3.2.2.2.2.2.2.2.2.2.2.1,v3.2.2.2.2.2.2.2.2.2.2.2,()),()),(v3.2.2.1,v3.2.2.2.2.2.2.2.2.1,()))
abbrev ySy (v0 v1 v2:dA):(yhI).X:=((((),()),((),()),((),()),((),()),()),((v0.1,v0.2.1.1,v0.2.1.2,v0.2.2.1,v0.2.2.2.1,v0.2.2.2.2.1,v0.2.2.2.2.2.1,v0.2.2.2.2.2.2.1,v0.2.2.2.2.2.2.2.1,v0.2.2.2.2.2.2.2.2.1,v0.2.2.2.2.2.2.2.2.2.1,v0.2.2.2.2.2.2.2.2.2.2.1,v0.2.2.2.2.2.2.2.2.2.2.2,()),(v1.1,v1.2.1.1,v1.2.1.2,(),v1.2.2.2.1,v1.2.2.2.2.1,v1.2.2.2.2.2.1,v1.2.2.2.2.2.2.1,v1.2.2.2.2.2.2.2.1,(),v1.2.2.2.2.2.2.2.2.2.1,v1.2.2.2.2.2.2.2.2.2.2.1,v1.2.2.2.2.2.2.2.2.2.2.2,()),(v2.1,v2.2.1.1,v2.2.1.2,(),v2.2.2.2.1,v2.2.2.2.2.1,v2.2.2.2.2.2.1,v2.2.2.2.2.2.2.1,v2.2.2.2.2.2.2.2.1,(),v2.2.2.2.2.2.2.2.2.2.1,v2.2.2.2.2.2.2.2.2.2.2.1,v2.2.2.2.2.2.2.2.2.2.2.2,()),()),(v2.2.2.1,v2.2.2.2.2.2.2.2.2.1,()))
abbrev ySj (v0 v1:dA):(yht).X:=((((),()),((),()),()),((v0.1,v0.2.1.1,v0.2.1.2,(),v0.2.2.2.1,v0.2.2.2.2.1,v0.2.2.2.2.2.1,v0.2.2.2.2.2.2.1,v0.2.2.2.2.2.2.2.1,(),v0.2.2.2.2.2.2.2.2.2.1,v0.2.2.2.2.2.2.2.2.2.2.1,v0.2.2.2.2.2.2.2.2.2.2.2,()),(v1.1,v1.2.1.1,v1.2.1.2,(),v1.2.2.2.1,v1.2.2.2.2.1,v1.2.2.2.2.2.1,v1.2.2.2.2.2.2.1,v1.2.2.2.2.2.2.2.1,(),v1.2.2.2.2.2.2.2.2.2.1,v1.2.2.2.2.2.2.2.2.2.2.1,v1.2.2.2.2.2.2.2.2.2.2.2,()),()),(v1.2.2.1,v1.2.2.2.2.2.2.2.2.1,()))
def ytK (v0 v1 v2 v3:Int) (v4:List dM) (v5 v6 v7 v8 v9:Int) (v10:List dW) (v11:Int) (v12 v13:Bool) (v14 v15 v16 v17 v18 v19 v20 v21 v22:Int) (v23 v24:Bool) (v25 v26 v27 v28 v29 v30 v31 v32 v33:Int) (v34 v35:Bool) (v36:List dM) (v37:List dW):Option ((ych).X ⊕ ((yht).X ⊕ (ymd).X)) :=
 bif (ltb v0 (v10.length:Int)) then
 bif (inb v0 v10.length) then
 bif (inb v0 v10.length) then
 bif (zjQ ([]:List Int).length ((nth v10 v0 (0,[])).2).length 8) then
 bif (zjQ v37.length ([((nth v10 v0 (0,[])).1,(([]:List Int)++((nth v10 v0 (0,[])).2)))]:List dW).length 32) then
 some (.inl ((((),()),((),()),((),()),((IntKind.i64.wrap (v0+1)),()),()),((v1,v2,v3,v4,v5,v6,v7,v8,v9,v10,v11,v12,v13,()),(v14,v15,v16,(),v17,v18,v19,v20,v21,(),v22,v23,v24,()),(v25,v26,v27,(),v28,v29,v30,v31,v32,(),v33,v34,v35,()),()),(v36,(v37++([((nth v10 v0 (0,[])).1,(([]:List Int)++((nth v10 v0 (0,[])).2)))]:List dW)),())))
 else none
 else none
 else none
 else none
 else
 some (.inr (.inl ((((),()),((),()),()),((v14,v15,v16,(),v17,v18,v19,v20,v21,(),v22,v23,v24,()),(v25,v26,v27,(),v28,v29,v30,v31,v32,(),v33,v34,v35,()),()),(v36,v37,()))))
def ycI (x:(ych).X):=ytK x.1.2.2.2.1.1 x.2.1.1.1 x.2.1.1.2.1 x.2.1.1.2.2.1 x.2.1.1.2.2.2.1 x.2.1.1.2.2.2.2.1 x.2.1.1.2.2.2.2.2.1 x.2.1.1.2.2.2.2.2.2.1 x.2.1.1.2.2.2.2.2.2.2.1 x.2.1.1.2.2.2.2.2.2.2.2.1 x.2.1.1.2.2.2.2.2.2.2.2.2.1 x.2.1.1.2.2.2.2.2.2.2.2.2.2.1 x.2.1.1.2.2.2.2.2.2.2.2.2.2.2.1 x.2.1.1.2.2.2.2.2.2.2.2.2.2.2.2.1 x.2.1.2.1.1 x.2.1.2.1.2.1 x.2.1.2.1.2.2.1 x.2.1.2.1.2.2.2.2.1 x.2.1.2.1.2.2.2.2.2.1 x.2.1.2.1.2.2.2.2.2.2.1 x.2.1.2.1.2.2.2.2.2.2.2.1 x.2.1.2.1.2.2.2.2.2.2.2.2.1 x.2.1.2.1.2.2.2.2.2.2.2.2.2.2.1 x.2.1.2.1.2.2.2.2.2.2.2.2.2.2.2.1 x.2.1.2.1.2.2.2.2.2.2.2.2.2.2.2.2.1 x.2.1.2.2.1.1 x.2.1.2.2.1.2.1 x.2.1.2.2.1.2.2.1 x.2.1.2.2.1.2.2.2.2.1 x.2.1.2.2.1.2.2.2.2.2.1 x.2.1.2.2.1.2.2.2.2.2.2.1 x.2.1.2.2.1.2.2.2.2.2.2.2.1 x.2.1.2.2.1.2.2.2.2.2.2.2.2.1 x.2.1.2.2.1.2.2.2.2.2.2.2.2.2.2.1 x.2.1.2.2.1.2.2.2.2.2.2.2.2.2.2.2.1 x.2.1.2.2.1.2.2.2.2.2.2.2.2.2.2.2.2.1 x.2.2.1 x.2.2.2.1
def yDu (x:(yhI).X):(ych).X:=((((),()),((),()),((),()),(0,()),()),((x.2.1.1.1,x.2.1.1.2.1,x.2.1.1.2.2.1,x.2.1.1.2.2.2.1,x.2.1.1.2.2.2.2.1,x.2.1.1.2.2.2.2.2.1,x.2.1.1.2.2.2.2.2.2.1,x.2.1.1.2.2.2.2.2.2.2.1,x.2.1.1.2.2.2.2.2.2.2.2.1,x.2.1.1.2.2.2.2.2.2.2.2.2.1,x.2.1.1.2.2.2.2.2.2.2.2.2.2.1,x.2.1.1.2.2.2.2.2.2.2.2.2.2.2.1,x.2.1.1.2.2.2.2.2.2.2.2.2.2.2.2.1,()),(x.2.1.2.1.1,x.2.1.2.1.2.1,x.2.1.2.1.2.2.1,(),x.2.1.2.1.2.2.2.2.1,x.2.1.2.1.2.2.2.2.2.1,x.2.1.2.1.2.2.2.2.2.2.1,x.2.1.2.1.2.2.2.2.2.2.2.1,x.2.1.2.1.2.2.2.2.2.2.2.2.1,(),x.2.1.2.1.2.2.2.2.2.2.2.2.2.2.1,x.2.1.2.1.2.2.2.2.2.2.2.2.2.2.2.1,x.2.1.2.1.2.2.2.2.2.2.2.2.2.2.2.2.1,()),(x.2.1.2.2.1.1,x.2.1.2.2.1.2.1,x.2.1.2.2.1.2.2.1,(),x.2.1.2.2.1.2.2.2.2.1,x.2.1.2.2.1.2.2.2.2.2.1,x.2.1.2.2.1.2.2.2.2.2.2.1,x.2.1.2.2.1.2.2.2.2.2.2.2.1,x.2.1.2.2.1.2.2.2.2.2.2.2.2.1,(),x.2.1.2.2.1.2.2.2.2.2.2.2.2.2.2.1,x.2.1.2.2.1.2.2.2.2.2.2.2.2.2.2.2.1,x.2.1.2.2.1.2.2.2.2.2.2.2.2.2.2.2.2.1,()),()),(x.2.2.1,x.2.2.2.1,()))
def yFm:Code:=(zdD yeL 64 1012).getD .skip
theorem yTX:zdD yeL 64 253=some (.block 2 (.loop yFm)):=by kernel_rfl
theorem yWc (x:(ych).X):zg0 ⟨yjF,57,yyw⟩ 2 yFm 1012 ych yht ymd x=ycI x:=by kernel_rfl
def yDM (x:(yhI).X):Nat:=18446744073709551616
def yu6 (x:(yhI).X):Option ((yht).X ⊕ (ymd).X):=zz ycI (yDM x) (yDu x)
def yEf:Seg:=⟨yhI,yht,ymd,yu6⟩
def yJA:Nat→Option Seg:=fun q=>bif Nat.beq q 253 then some yEf else yyw q
theorem yXR:FrOk Tryz.prog ⟨yjF,57,yJA⟩ yeL:=(yXQ).loop (sg:=yEf) ych yDu (by decide) yTX ycI yDM (by decide) (fun _=>rfl) (fun x r _ h=>h) yWc
abbrev yjT:List Par:= [.rd tA]
abbrev ywK:List OT:= [⟨false,tA,(.pr .fz (.pr (.pr .fz .fz) (.pr (.ow (.pr (.ow .fz) (.pr (.ow (.pr .fz .fz)) (.pr .fz (.ow .fz))))) (.pr .fz (.pr .fz (.pr .fz (.pr .fz (.pr .fz (.pr (.ow (.pr .fz .fz)) (.pr .fz (.pr .fz .fz)))))))))))⟩]
def ysi (a0:dA):Option (ResD ywK×MutD yjT) :=
 zjY (yxe ((((),()),((),()),((),()),((),()),()),((a0.1,a0.2.1.1,a0.2.1.2,a0.2.2.1,a0.2.2.2.1,a0.2.2.2.2.1,a0.2.2.2.2.2.1,a0.2.2.2.2.2.2.1,a0.2.2.2.2.2.2.2.1,a0.2.2.2.2.2.2.2.2.1,a0.2.2.2.2.2.2.2.2.2.1,a0.2.2.2.2.2.2.2.2.2.2.1,a0.2.2.2.2.2.2.2.2.2.2.2,()),(0,0,0,(),0,0,0,0,0,(),0,false,false,()),(a0.1,a0.2.1.1,a0.2.1.2,(),a0.2.2.2.1,a0.2.2.2.2.1,a0.2.2.2.2.2.1,a0.2.2.2.2.2.2.1,a0.2.2.2.2.2.2.2.1,a0.2.2.2.2.2.2.2.2.1,a0.2.2.2.2.2.2.2.2.2.1,a0.2.2.2.2.2.2.2.2.2.2.1,a0.2.2.2.2.2.2.2.2.2.2.2,()),()),(([]:List dM),()))) (fun y2 =>
 zjY (yu6 ((((),()),((),()),((),()),((),()),()),((y2.2.1.1.1,y2.2.1.1.2.1,y2.2.1.1.2.2.1,y2.2.1.1.2.2.2.1,y2.2.1.1.2.2.2.2.1,y2.2.1.1.2.2.2.2.2.1,y2.2.1.1.2.2.2.2.2.2.1,y2.2.1.1.2.2.2.2.2.2.2.1,y2.2.1.1.2.2.2.2.2.2.2.2.1,y2.2.1.1.2.2.2.2.2.2.2.2.2.1,y2.2.1.1.2.2.2.2.2.2.2.2.2.2.1,y2.2.1.1.2.2.2.2.2.2.2.2.2.2.2.1,y2.2.1.1.2.2.2.2.2.2.2.2.2.2.2.2.1,()),(y2.2.1.2.1.1,y2.2.1.2.1.2.1,y2.2.1.2.1.2.2.1,(),y2.2.1.2.1.2.2.2.2.1,y2.2.1.2.1.2.2.2.2.2.1,y2.2.1.2.1.2.2.2.2.2.2.1,y2.2.1.2.1.2.2.2.2.2.2.2.1,y2.2.1.2.1.2.2.2.2.2.2.2.2.1,(),y2.2.1.2.1.2.2.2.2.2.2.2.2.2.2.1,y2.2.1.2.1.2.2.2.2.2.2.2.2.2.2.2.1,y2.2.1.2.1.2.2.2.2.2.2.2.2.2.2.2.2.1,()),(y2.2.1.2.2.1.1,y2.2.1.2.2.1.2.1,y2.2.1.2.2.1.2.2.1,(),y2.2.1.2.2.1.2.2.2.2.1,y2.2.1.2.2.1.2.2.2.2.2.1,y2.2.1.2.2.1.2.2.2.2.2.2.1,y2.2.1.2.2.1.2.2.2.2.2.2.2.1,y2.2.1.2.2.1.2.2.2.2.2.2.2.2.1,(),y2.2.1.2.2.1.2.2.2.2.2.2.2.2.2.2.1,y2.2.1.2.2.1.2.2.2.2.2.2.2.2.2.2.2.1,y2.2.1.2.2.1.2.2.2.2.2.2.2.2.2.2.2.2.1,()),()),(y2.2.2.1,([]:List dW),()))) (fun y3 =>
 some (((y3.2.1.2.1.1,(y3.2.1.2.1.2.1,y3.2.1.2.1.2.2.1),y3.2.2.1,y3.2.1.2.1.2.2.2.2.1,y3.2.1.2.1.2.2.2.2.2.1,y3.2.1.2.1.2.2.2.2.2.2.1,y3.2.1.2.1.2.2.2.2.2.2.2.1,y3.2.1.2.1.2.2.2.2.2.2.2.2.1,y3.2.2.2.1,y3.2.1.2.1.2.2.2.2.2.2.2.2.2.2.1,y3.2.1.2.1.2.2.2.2.2.2.2.2.2.2.2.1,y3.2.1.2.1.2.2.2.2.2.2.2.2.2.2.2.2.1),()),())) (fun y3 =>
 none)) (fun y2 =>
 none)
theorem y8g (x:InD yjT):zjw ⟨yjF,57,yJA⟩ Tryz.f103.results.toList yeL yjT ywK x=ysi x.1:=by kernel_rfl
theorem y3H:ConOk Tryz.prog 103 ⟨yjT,ywK,fun x=>ysi x.1⟩:=zj1 (yXR) Tryz.func103 (by kernel_rfl) (by kernel_rfl) Tryz.ntmps103.symm (by decide) (fun x r h=>(y8g x).trans h)
def yha (a0:dA):dA:=a0
theorem y54 (a0:dA) (hk:zi1 yjT (a0,())):ysi a0=(fun n=>some ((n,()),())) (yha a0):=by
 have hb:a0.2.2.1.length * 80≤2 ^ 47:=hk.1.2.2.1.1
 have hb2:a0.2.2.2.2.2.2.2.2.1.length * 32≤2 ^ 47:=hk.1.2.2.2.2.2.2.2.2.1.1
 have hc: ∀ i,i < a0.2.2.2.2.2.2.2.2.1.length→(a0.2.2.2.2.2.2.2.2.1.getD i (0,[])).2.length * 8≤2 ^ 47:=fun i hi=>by rw [zkd hi]; exact (hk.1.2.2.2.2.2.2.2.2.1.2 _ (List.getElem_mem hi)).2.1
 have h1:=zj3 (step:=ydG) a0.2.2.1 noMem (fun i s=>yvq i a0 yK (a0.1,a0.2.1,s,a0.2.2.2)) (fun s x=>s++ [x]) (fun i s=>s.length=i) (fun s=> .inl (yUY a0 yK (a0.1,a0.2.1,s,a0.2.2.2))) (fun i s hi hs=>⟨by
   simp only [ydG,yvq,yvL,zj4 (show (i:Int) < a0.2.2.1.length by omega),cond_true,wr (show -9223372036854775808≤(i:Int)+1 by omega) (by omega),Int.natCast_add,Int.natCast_one,Int.toNat_natCast,zkl hi,zkm,yD,zkr]
   rw [zka.2 (show (s.length+ [a0.2.2.1.getD i ([],[],false,[])].length) * 80≤140737488355328 by simp only [List.length_cons,List.length_nil]; omega)]; rfl,by simp [hs]⟩) (fun s hs=>by simp only [ydG,yvq,yvL,zkx (Int.le_refl _),cond_false]) [] rfl 18446744073709551616 (by omega)
 have h2:=zj3 (step:=ycI) a0.2.2.2.2.2.2.2.2.1 (0,[]) (fun i s=>ytl i a0 yK (a0.1,a0.2.1,a0.2.2.1,a0.2.2.2.1,a0.2.2.2.2.1,a0.2.2.2.2.2.1,a0.2.2.2.2.2.2.1,a0.2.2.2.2.2.2.2.1,s,a0.2.2.2.2.2.2.2.2.2)) (fun s x=>s++ [x]) (fun i s=>s.length=i) (fun s=> .inl (ySj yK (a0.1,a0.2.1,a0.2.2.1,a0.2.2.2.1,a0.2.2.2.2.1,a0.2.2.2.2.2.1,a0.2.2.2.2.2.2.1,a0.2.2.2.2.2.2.2.1,s,a0.2.2.2.2.2.2.2.2.2))) (fun i s hi hs=>⟨by
   have:=hc i hi
   simp only [ycI,ytl,ytK,zj4 (show (i:Int) < a0.2.2.2.2.2.2.2.2.1.length by omega),cond_true,wr (show -9223372036854775808≤(i:Int)+1 by omega) (by omega),Int.natCast_add,Int.natCast_one,Int.toNat_natCast,zkl hi,zkm,List.nil_append,zkr]
   rw [zka.2 (show (([]:List Int).length+(a0.2.2.2.2.2.2.2.2.1.getD i (0,[])).2.length) * 8≤140737488355328 by rw [List.length_nil]; omega),zka.2 (show (s.length+ [a0.2.2.2.2.2.2.2.2.1.getD i (0,[])].length) * 32≤140737488355328 by simp only [List.length_cons,List.length_nil]; omega)]; rfl,by simp [hs]⟩) (fun s hs=>by simp only [ycI,ytl,ytK,zkx (Int.le_refl _),cond_false]) [] rfl 18446744073709551616 (by omega)
 rw [yxt]at h1 h2
 unfold ysi yha
 rw [show yxe (yU9 a0 yK (a0.1,a0.2.1,[],a0.2.2.2))=_ from h1,zkh]
 refine (congrArg (fun z=>zjY z _ _) (show yu6 (ySy a0 yK (a0.1,a0.2.1,a0.2.2.1,a0.2.2.2.1,a0.2.2.2.2.1,a0.2.2.2.2.2.1,a0.2.2.2.2.2.2.1,a0.2.2.2.2.2.2.2.1,[],a0.2.2.2.2.2.2.2.2.2))=_ from h2)).trans rfl
def yzz:Con:=⟨yjT,ywK,fun x=>(fun n=>some ((n,()),())) (yha x.1)⟩
theorem yNe:ConOk Tryz.prog 103 yzz:=(y3H).mono (fun x r hk h=>(y54 x.1 hk).trans h)
end
section
def yOv:Code:=(Tryz.f161.body).getD .skip
def yO6:Env:=zj2 TT [(239,yBZ)] []
theorem yXx:FrOk Tryz.prog ⟨yO6,40,fun _=>none⟩ yOv:=zj6 yc yd ⟨yPq,trivial⟩
def y0y:Nat→Option Seg:=fun _=>none
abbrev yjN:List Par:= [.rd tL]
abbrev yww:List OT:= [⟨false,tN,(.pr .fz (.pr .fz (.ow .fz)))⟩,⟨false,tB,.fz⟩]
def ysc (a0:List Int):Option (ResD yww×MutD yjN) :=
 bif (!(ltb (a0.length:Int) 4)) then
 bif (inb 0 a0.length) then
 bif (!((nth a0 0 0) !=21322)) then
 bif (inb 3 a0.length) then
 bif ((nth a0 3 0) !=(IntKind.i64.wrap ((a0.length:Int) - 4))) then
 some (((0,0,[]),false,()),())
 else
 bif (inb 1 a0.length) then
 bif (inb 2 a0.length) then
 bif (zjv 4 (a0.length:Int) a0.length) then
 bif (zjQ ([]:List Int).length ((a0.drop (4:Int).toNat).take ((a0.length:Int) - 4).toNat).length 8) then
 let r1:=yB ((nth a0 1 0),(nth a0 2 0),(([]:List Int)++((a0.drop (4:Int).toNat).take ((a0.length:Int) - 4).toNat)))
 bif (!r1) then
 some (((0,0,[]),false,()),())
 else
 some ((((nth a0 1 0),(nth a0 2 0),(([]:List Int)++((a0.drop (4:Int).toNat).take ((a0.length:Int) - 4).toNat))),true,()),())
 else none
 else none
 else none
 else none
 else none
 else
 some (((0,0,[]),false,()),())
 else none
 else
 some (((0,0,[]),false,()),())
theorem y72 (x:InD yjN):zjw ⟨yO6,40,y0y⟩ Tryz.f161.results.toList yOv yjN yww x=ysc x.1:=by kernel_rfl
theorem y3t:ConOk Tryz.prog 161 ⟨yjN,yww,fun x=>ysc x.1⟩:=zj1 (yXx) Tryz.func161 (by kernel_rfl) (by kernel_rfl) Tryz.ntmps161.symm (by decide) (fun x r h=>(y72 x).trans h)
def yqe (a0:List Int):dN×Bool:=ybb a0
theorem y5V (a0:List Int) (hk:zi1 yjN (a0,())):ysc a0=(fun n=>some ((n.1,n.2,()),())) (yqe a0):=by
 have hb:a0.length * 8≤2 ^ 47:=hk.1.1
 unfold ysc yqe ybb
 by_cases h:(a0.length:Int) < 4
 ·rw [zj4 h,zkv h]; rfl
 ·have ht:(a0.drop (4:Int).toNat).take ((a0.length:Int) - 4).toNat=a0.drop 4:=List.take_of_length_le (by rw [List.length_drop]; show a0.length - 4≤_; omega)
  rw [zkx (Int.not_lt.1 h),zkw (Int.not_lt.1 h)]
  simp only [bne,Bool.not_false,cond_true,zjC.2 (show (0:Int)≤0∧(0:Int) < a0.length by omega),zjC.2 (show (0:Int)≤1∧(1:Int) < a0.length by omega),zjC.2 (show (0:Int)≤2∧(2:Int) < a0.length by omega),zjC.2 (show (0:Int)≤3∧(3:Int) < a0.length by omega),zj5.2 (show (0:Int)≤4∧(4:Int)≤a0.length∧(a0.length:Int)≤a0.length by omega),ht,List.nil_append,
   zka.2 (show (([]:List Int).length+(a0.drop 4).length) * 8≤140737488355328 by rw [List.length_nil,List.length_drop]; omega),wr (show -9223372036854775808≤(a0.length:Int) - 4 by omega) (by omega)]
  rw [show yB (nth a0 1 0,nth a0 2 0,a0.drop 4)=yB (yLk a0) from rfl]
  cases (nth a0 0 0==21322)<;>cases (nth a0 3 0==(a0.length:Int) - 4)<;>cases yB (yLk a0)<;>rfl
def yKB:Con:=⟨yjN,yww,fun x=>(fun n=>some ((n.1,n.2,()),())) (yqe x.1)⟩
theorem y6O:ConOk Tryz.prog 161 yKB:=(y3t).mono (fun x r hk h=>(y5V x.1 hk).trans h)
end
section
def ymS:Code:=(Tryz.f65.body).getD .skip
def ytW:Env:=zj2 TT [(135,yq),(159,yoE),(160,yzx),(161,yKB)] []
theorem yUy:FrOk Tryz.prog ⟨ytW,65,fun _=>none⟩ ymS:=zj6 yc yd ⟨yy,yAg,yNc,y6O,trivial⟩
def yGW:Nat→Option Seg:=fun _=>none
def ycf:Shape:=⟨[(1,false,[.int .i64]),(2,false,[.ptr 0 0]),(4,false,[.ptr 64 0]),(6,false,[.int .i64])],[(0,[.int .i64,.int .i64,.int .i64,.br tM,.int .i64,.int .i64,.int .i64,.int .i64,.int .i64,.br tW,.int .i64,.bool,.bool]),(64,[.int .i64,.int .i64,.nil])],[]⟩
def yhG:Shape:=⟨[(1,false,[.int .i64]),(2,false,[.ptr 0 0]),(4,false,[.ptr 64 0]),(6,false,[.ci .i64 0])],[(0,[.int .i64,.int .i64,.int .i64,.br tM,.int .i64,.int .i64,.int .i64,.int .i64,.int .i64,.br tW,.int .i64,.bool,.bool]),(64,[.int .i64,.int .i64,.nil])],[]⟩
def yhr:Shape:=⟨[(4,false,[.ptr 64 0])],[(64,[.int .i64,.int .i64,.nil])],[]⟩
def yhQ:Shape:=⟨[(4,false,[.ptr 64 0]),(5,false,[.bool])],[(64,[.int .i64,.int .i64,.at 800000000])],[(800000000,tI,.fz)]⟩
abbrev ytj (v0 v1:Int) (v2:dA) (v3:dN):(ycf).X:=(((v0,()),((),()),((),()),(v1,()),()),((v2.1,v2.2.1.1,v2.2.1.2,v2.2.2.1,v2.2.2.2.1,v2.2.2.2.2.1,v2.2.2.2.2.2.1,v2.2.2.2.2.2.2.1,v2.2.2.2.2.2.2.2.1,v2.2.2.2.2.2.2.2.2.1,v2.2.2.2.2.2.2.2.2.2.1,v2.2.2.2.2.2.2.2.2.2.2.1,v2.2.2.2.2.2.2.2.2.2.2.2,()),(v3.1,v3.2.1,(),()),()),())
abbrev ySw (v0:Int) (v1:dA) (v2:dN):(yhG).X:=(((v0,()),((),()),((),()),((),()),()),((v1.1,v1.2.1.1,v1.2.1.2,v1.2.2.1,v1.2.2.2.1,v1.2.2.2.2.1,v1.2.2.2.2.2.1,v1.2.2.2.2.2.2.1,v1.2.2.2.2.2.2.2.1,v1.2.2.2.2.2.2.2.2.1,v1.2.2.2.2.2.2.2.2.2.1,v1.2.2.2.2.2.2.2.2.2.2.1,v1.2.2.2.2.2.2.2.2.2.2.2,()),(v2.1,v2.2.1,(),()),()),())
abbrev ySi (v0:dN):(yhr).X:=((((),()),()),((v0.1,v0.2.1,(),()),()),())
abbrev ySF (v0:Bool) (v1:dN):(yhQ).X:=((((),()),(v0,()),()),((v1.1,v1.2.1,(),()),()),(v1.2.2,()))
def ytH (v0 v1 v2 v3 v4:Int) (v5:List dM) (v6 v7 v8 v9 v10:Int) (v11:List dW) (v12:Int) (v13 v14:Bool) (v15 v16:Int):Option ((ycf).X ⊕ ((yhr).X ⊕ (yhQ).X)) :=
 bif (ltb v1 (v5.length:Int)) then
 bif (inb v1 v5.length) then
 let r5:=yl v0
 let r6:=ybQ ((nth v5 v1 ([],[],false,[])).1,((nth v5 v1 ([],[],false,[])).2).1,(((nth v5 v1 ([],[],false,[])).2).2)) r5
 let r7:=yqe r6.1
 bif r6.2 then
 bif r7.2 then
 bif (r7.1.1==v0) then
 let r8:=ya r7.1.2.1 0 (IntKind.i64.wrap (v4 - 1))
 bif r8 then
 bif ((r7.1.2.2.length:Int)==(IntKind.i64.wrap (v3 - 1))) then
 some (.inr (.inr ((((),()),(true,()),()),((r7.1.1,r7.1.2.1,(),()),()),(r7.1.2.2,()))))
 else
 some (.inl (((v0,()),((),()),((),()),((IntKind.i64.wrap (v1+1)),()),()),((v2,v3,v4,v5,v6,v7,v8,v9,v10,v11,v12,v13,v14,()),(v15,v16,(),()),()),()))
 else
 some (.inl (((v0,()),((),()),((),()),((IntKind.i64.wrap (v1+1)),()),()),((v2,v3,v4,v5,v6,v7,v8,v9,v10,v11,v12,v13,v14,()),(v15,v16,(),()),()),()))
 else
 some (.inl (((v0,()),((),()),((),()),((IntKind.i64.wrap (v1+1)),()),()),((v2,v3,v4,v5,v6,v7,v8,v9,v10,v11,v12,v13,v14,()),(v15,v16,(),()),()),()))
 else
 some (.inl (((v0,()),((),()),((),()),((IntKind.i64.wrap (v1+1)),()),()),((v2,v3,v4,v5,v6,v7,v8,v9,v10,v11,v12,v13,v14,()),(v15,v16,(),()),()),()))
 else
 some (.inl (((v0,()),((),()),((),()),((IntKind.i64.wrap (v1+1)),()),()),((v2,v3,v4,v5,v6,v7,v8,v9,v10,v11,v12,v13,v14,()),(v15,v16,(),()),()),()))
 else none
 else
 some (.inr (.inl ((((),()),()),((v15,v16,(),()),()),())))
def ycF (x:(ycf).X):=ytH x.1.1.1 x.1.2.2.2.1.1 x.2.1.1.1 x.2.1.1.2.1 x.2.1.1.2.2.1 x.2.1.1.2.2.2.1 x.2.1.1.2.2.2.2.1 x.2.1.1.2.2.2.2.2.1 x.2.1.1.2.2.2.2.2.2.1 x.2.1.1.2.2.2.2.2.2.2.1 x.2.1.1.2.2.2.2.2.2.2.2.1 x.2.1.1.2.2.2.2.2.2.2.2.2.1 x.2.1.1.2.2.2.2.2.2.2.2.2.2.1 x.2.1.1.2.2.2.2.2.2.2.2.2.2.2.1 x.2.1.1.2.2.2.2.2.2.2.2.2.2.2.2.1 x.2.1.2.1.1 x.2.1.2.1.2.1
def yDr (x:(yhG).X):(ycf).X:=(((x.1.1.1,()),((),()),((),()),(0,()),()),((x.2.1.1.1,x.2.1.1.2.1,x.2.1.1.2.2.1,x.2.1.1.2.2.2.1,x.2.1.1.2.2.2.2.1,x.2.1.1.2.2.2.2.2.1,x.2.1.1.2.2.2.2.2.2.1,x.2.1.1.2.2.2.2.2.2.2.1,x.2.1.1.2.2.2.2.2.2.2.2.1,x.2.1.1.2.2.2.2.2.2.2.2.2.1,x.2.1.1.2.2.2.2.2.2.2.2.2.2.1,x.2.1.1.2.2.2.2.2.2.2.2.2.2.2.1,x.2.1.1.2.2.2.2.2.2.2.2.2.2.2.2.1,()),(x.2.1.2.1.1,x.2.1.2.1.2.1,(),()),()),())
def yFj:Code:=(zdD ymS 64 52).getD .skip
theorem yTU:zdD ymS 64 13=some (.block 0 (.loop yFj)):=by kernel_rfl
theorem yV9 (x:(ycf).X):zg0 ⟨ytW,65,yGW⟩ 0 yFj 52 ycf yhr yhQ x=ycF x:=by kernel_rfl
def yDJ (x:(yhG).X):Nat:=18446744073709551616
def yu3 (x:(yhG).X):Option ((yhr).X ⊕ (yhQ).X):=zz ycF (yDJ x) (yDr x)
def yEc:Seg:=⟨yhG,yhr,yhQ,yu3⟩
def yGX:Nat→Option Seg:=fun q=>bif Nat.beq q 13 then some yEc else yGW q
theorem yUz:FrOk Tryz.prog ⟨ytW,65,yGX⟩ ymS:=(yUy).loop (sg:=yEc) ycf yDr (by decide) yTU ycF yDJ (by decide) (fun _=>rfl) (fun x r _ h=>h) yV9
abbrev yfn:List Par:= [.rd tA,.rd tI]
abbrev ynu:List OT:= [⟨false,tN,(.pr .fz (.pr .fz (.ow .fz)))⟩,⟨false,tB,.fz⟩]
def yo4 (a0:dA) (a1:Int):Option (ResD ynu×MutD yfn) :=
 zjY (yu3 (((a1,()),((),()),((),()),((),()),()),((a0.1,a0.2.1.1,a0.2.1.2,a0.2.2.1,a0.2.2.2.1,a0.2.2.2.2.1,a0.2.2.2.2.2.1,a0.2.2.2.2.2.2.1,a0.2.2.2.2.2.2.2.1,a0.2.2.2.2.2.2.2.2.1,a0.2.2.2.2.2.2.2.2.2.1,a0.2.2.2.2.2.2.2.2.2.2.1,a0.2.2.2.2.2.2.2.2.2.2.2,()),(0,0,(),()),()),())) (fun y8 =>
 some (((0,0,[]),false,()),())) (fun y8 =>
 some (((y8.2.1.1.1,y8.2.1.1.2.1,y8.2.2.1),y8.1.2.1.1,()),()))
theorem y5a (x:InD yfn):zjw ⟨ytW,65,yGX⟩ Tryz.f65.results.toList ymS yfn ynu x=yo4 x.1 x.2.1:=by kernel_rfl
theorem yZq:ConOk Tryz.prog 65 ⟨yfn,ynu,fun x=>yo4 x.1 x.2.1⟩:=zj1 (yUz) Tryz.func65 (by kernel_rfl) (by kernel_rfl) Tryz.ntmps65.symm (by decide) (fun x r h=>(y5a x).trans h)
def yip (a0:dA) (a1:Int):dN×Bool:=yU a0 a1
def yn5 (a0:dA) (a1:Int):Bool:=yf a0.2.1||y2v a0.2.1
theorem y2Y (a0:dA) (a1:Int) (hk:zi1 yfn (a0,a1,())) (hq:yn5 a0 a1=true):yo4 a0 a1=(fun n=>some ((n.1,n.2,()),())) (yip a0 a1):=by
 have hb:a0.2.2.1.length * 80≤2 ^ 47:=hk.1.2.2.1.1
 have hg:=y7n hq
 have h1:=yKZ (step:=ycF) (List.range a0.2.2.1.length) 0 (fun i=>ytj a1 i a0 yK4) (yql a0 a1) (fun k=> .inr (ySF true (yCF a0 a1 k.toNat))) (.inl (ySi yK4)) (fun i hi=>by
  rw [List.length_range]at hi
  rw [yOa hi]
  simp only [ycF,ytj,ytH,zj4 (show (i:Int) < a0.2.2.1.length by omega),cond_true,wr (show -9223372036854775808≤(i:Int)+1 by omega) (by omega),Int.natCast_add,Int.natCast_one,Int.toNat_natCast,zkl hi,zkr,ybQ,yqe,ybr,wr (show -9223372036854775808≤a0.2.1.2 - 1 by omega) (by omega),wr (show -9223372036854775808≤a0.2.1.1 - 1 by omega) (by omega),yql,yCF,yTi,noMem]
  cases (yr (nth a0.2.2.1 i ([],[],false,[])) (yl a1)).2<;>cases (ybb (yr (nth a0.2.2.1 i ([],[],false,[])) (yl a1)).1).2<;>cases ((ybb (yr (nth a0.2.2.1 i ([],[],false,[])) (yl a1)).1).1.1==a1)<;>cases (leb 0 (ybb (yr (nth a0.2.2.1 i ([],[],false,[])) (yl a1)).1).1.2.1&&leb (ybb (yr (nth a0.2.2.1 i ([],[],false,[])) (yl a1)).1).1.2.1 (a0.2.1.2 - 1))<;>cases (((ybb (yr (nth a0.2.2.1 i ([],[],false,[])) (yl a1)).1).1.2.2.length:Int)==a0.2.1.1 - 1)<;>rfl) (by
   rw [List.length_range]; simp only [ycF,ytj,ytH,zkx (Int.le_refl _),cond_false]) 18446744073709551616 (by rw [List.length_range]; omega)
 unfold yo4 yip yU
 rw [show yu3 (ySw a1 a0 yK4)=_ from h1]
 cases leb 0 (yR (yql a0 a1) (List.range a0.2.2.1.length))<;>rfl
def ynZ (a0:dA) (a1:Int):Option (ResD ynu×MutD yfn):=bif yn5 a0 a1 then (fun n=>some ((n.1,n.2,()),())) (yip a0 a1) else none
theorem yLg (a0:dA) (a1:Int) (h:yn5 a0 a1=true):ynZ a0 a1=(fun n=>some ((n.1,n.2,()),())) (yip a0 a1):=by unfold ynZ; rw [h]; rfl
def yxn:Con:=⟨yfn,ynu,fun x=>ynZ x.1 x.2.1⟩
theorem yK9:ConOk Tryz.prog 65 yxn:=(yZq).mono (fun x r hk h=>zks h (fun hq=>y2Y x.1 x.2.1 hk hq))
end
section
def ykd:Code:=(Tryz.f166.body).getD .skip
def yrf:Env:=zj2 TT [(65,yxn),(208,yoF),(229,yB5),(230,yzC)] []
theorem ySc:FrOk Tryz.prog ⟨yrf,56,fun _=>none⟩ ykd:=zj6 yc yd ⟨yK9,yAh,yPw,yNh,trivial⟩
def yE4:Nat→Option Seg:=fun _=>none
def ycl:Shape:=⟨[(0,false,[.ptr 1000000000 0]),(2,false,[.int .i64])],[(1000000000,[.int .i64,.int .i64,.int .i64,.at 800000000,.int .i64,.int .i64,.int .i64,.int .i64,.int .i64,.at 800000001,.int .i64,.bool,.bool])],[(800000000,tM,(.pr (.ow .fz) (.pr (.ow (.pr .fz .fz)) (.pr .fz (.ow .fz))))),(800000001,tW,(.pr .fz .fz))]⟩
def yhM:Shape:=⟨[(0,false,[.ptr 1000000000 0]),(2,false,[.ci .i64 0])],[(1000000000,[.int .i64,.int .i64,.int .i64,.at 800000000,.int .i64,.int .i64,.int .i64,.int .i64,.int .i64,.at 800000001,.int .i64,.bool,.bool])],[(800000000,tM,(.pr (.ow .fz) (.pr (.ow (.pr .fz .fz)) (.pr .fz (.ow .fz))))),(800000001,tW,(.pr .fz .fz))]⟩
def yhx:Shape:=⟨[(0,false,[.ptr 1000000000 0])],[(1000000000,[.int .i64,.int .i64,.int .i64,.at 800000000,.int .i64,.int .i64,.int .i64,.int .i64,.int .i64,.at 800000001,.int .i64,.bool,.bool])],[(800000000,tM,(.pr (.ow .fz) (.pr (.ow (.pr .fz .fz)) (.pr .fz (.ow .fz))))),(800000001,tW,(.pr .fz .fz))]⟩
def yhT:Shape:=⟨[],[(1000000000,[.int .i64,.int .i64,.int .i64,.at 800000000,.int .i64,.int .i64,.int .i64,.int .i64,.int .i64,.at 800000001,.int .i64,.bool,.bool])],[(800000000,tM,(.pr (.ow .fz) (.pr (.ow (.pr .fz .fz)) (.pr .fz (.ow .fz))))),(800000001,tW,(.pr .fz .fz))]⟩
abbrev ylp (v0:Int) (v1:dA):(ycl).X:=((((),()),(v0,()),()),((v1.1,v1.2.1.1,v1.2.1.2,(),v1.2.2.2.1,v1.2.2.2.2.1,v1.2.2.2.2.2.1,v1.2.2.2.2.2.2.1,v1.2.2.2.2.2.2.2.1,(),v1.2.2.2.2.2.2.2.2.2.1,v1.2.2.2.2.2.2.2.2.2.2.1,v1.2.2.2.2.2.2.2.2.2.2.2,()),()),(v1.2.2.1,v1.2.2.2.2.2.2.2.2.1,()))
abbrev ySC (v0:dA):(yhM).X:=((((),()),((),()),()),((v0.1,v0.2.1.1,v0.2.1.2,(),v0.2.2.2.1,v0.2.2.2.2.1,v0.2.2.2.2.2.1,v0.2.2.2.2.2.2.1,v0.2.2.2.2.2.2.2.1,(),v0.2.2.2.2.2.2.2.2.2.1,v0.2.2.2.2.2.2.2.2.2.2.1,v0.2.2.2.2.2.2.2.2.2.2.2,()),()),(v0.2.2.1,v0.2.2.2.2.2.2.2.2.1,()))
abbrev ySn (v0:dA):(yhx).X:=((((),()),()),((v0.1,v0.2.1.1,v0.2.1.2,(),v0.2.2.2.1,v0.2.2.2.2.1,v0.2.2.2.2.2.1,v0.2.2.2.2.2.2.1,v0.2.2.2.2.2.2.2.1,(),v0.2.2.2.2.2.2.2.2.2.1,v0.2.2.2.2.2.2.2.2.2.2.1,v0.2.2.2.2.2.2.2.2.2.2.2,()),()),(v0.2.2.1,v0.2.2.2.2.2.2.2.2.1,()))
abbrev ytp (v0:dA):(yhT).X:=((),((v0.1,v0.2.1.1,v0.2.1.2,(),v0.2.2.2.1,v0.2.2.2.2.1,v0.2.2.2.2.2.1,v0.2.2.2.2.2.2.1,v0.2.2.2.2.2.2.2.1,(),v0.2.2.2.2.2.2.2.2.2.1,v0.2.2.2.2.2.2.2.2.2.2.1,v0.2.2.2.2.2.2.2.2.2.2.2,()),()),(v0.2.2.1,v0.2.2.2.2.2.2.2.2.1,()))
def ytO (v0 v1 v2 v3 v4 v5 v6 v7 v8 v9:Int) (v10 v11:Bool) (v12:List dM) (v13:List dW):Option ((ycl).X ⊕ ((yhx).X ⊕ (yhT).X)) :=
 bif (ltb v0 4) then
 bnd (ynZ (v1,(v2,v3),v12,v4,v5,v6,v7,v8,v13,v9,v10,v11) v6) fun r4 =>
 bif (!(!r4.1.2.1)) then
 bif (leb 60000 v6) then
 some (.inr (.inl ((((),()),()),((v1,v2,v3,(),v4,v5,v6,v7,v8,(),v9,v10,v11,()),()),(v12,v13,()))))
 else
 let r5:=ygt (v1,(v2,v3),v12,v4,v5,v6,v7,v8,v13,v9,v10,v11) r4.1.1
 bif r5.2.2.2.2.2.2.2.2.2.2.1 then
 some (.inr (.inr ((),((r5.1,r5.2.1.1,r5.2.1.2,(),r5.2.2.2.1,r5.2.2.2.2.1,r5.2.2.2.2.2.1,r5.2.2.2.2.2.2.1,r5.2.2.2.2.2.2.2.1,(),r5.2.2.2.2.2.2.2.2.2.1,r5.2.2.2.2.2.2.2.2.2.2.1,r5.2.2.2.2.2.2.2.2.2.2.2,()),()),(r5.2.2.1,r5.2.2.2.2.2.2.2.2.1,()))))
 else
 bnd (yeQ (r5.1,r5.2.1,r5.2.2.1,r5.2.2.2.1,r5.2.2.2.2.1,(IntKind.i64.wrap (r5.2.2.2.2.2.1+1)),r5.2.2.2.2.2.2) r4.1.1.2.1 r4.1.1.2.2) fun r6 =>
 bif r6.2.1.2.2.2.2.2.2.2.2.2.2.1 then
 some (.inr (.inr ((),((r6.2.1.1,r6.2.1.2.1.1,r6.2.1.2.1.2,(),r6.2.1.2.2.2.1,r6.2.1.2.2.2.2.1,r6.2.1.2.2.2.2.2.1,r6.2.1.2.2.2.2.2.2.1,r6.2.1.2.2.2.2.2.2.2.1,(),r6.2.1.2.2.2.2.2.2.2.2.2.1,r6.2.1.2.2.2.2.2.2.2.2.2.2.1,r6.2.1.2.2.2.2.2.2.2.2.2.2.2,()),()),(r6.2.1.2.2.1,r6.2.1.2.2.2.2.2.2.2.2.1,()))))
 else
 some (.inl ((((),()),((IntKind.i64.wrap (v0+1)),()),()),((r6.2.1.1,r6.2.1.2.1.1,r6.2.1.2.1.2,(),r6.2.1.2.2.2.1,r6.2.1.2.2.2.2.1,r6.2.1.2.2.2.2.2.1,r6.2.1.2.2.2.2.2.2.1,r6.2.1.2.2.2.2.2.2.2.1,(),r6.2.1.2.2.2.2.2.2.2.2.2.1,r6.2.1.2.2.2.2.2.2.2.2.2.2.1,r6.2.1.2.2.2.2.2.2.2.2.2.2.2,()),()),(r6.2.1.2.2.1,r6.2.1.2.2.2.2.2.2.2.2.1,())))
 else
 some (.inr (.inl ((((),()),()),((v1,v2,v3,(),v4,v5,v6,v7,v8,(),v9,v10,v11,()),()),(v12,v13,()))))
 else
 some (.inr (.inl ((((),()),()),((v1,v2,v3,(),v4,v5,v6,v7,v8,(),v9,v10,v11,()),()),(v12,v13,()))))
def ycM (x:(ycl).X):=ytO x.1.2.1.1 x.2.1.1.1 x.2.1.1.2.1 x.2.1.1.2.2.1 x.2.1.1.2.2.2.2.1 x.2.1.1.2.2.2.2.2.1 x.2.1.1.2.2.2.2.2.2.1 x.2.1.1.2.2.2.2.2.2.2.1 x.2.1.1.2.2.2.2.2.2.2.2.1 x.2.1.1.2.2.2.2.2.2.2.2.2.2.1 x.2.1.1.2.2.2.2.2.2.2.2.2.2.2.1 x.2.1.1.2.2.2.2.2.2.2.2.2.2.2.2.1 x.2.2.1 x.2.2.2.1
def yDy (x:(yhM).X):(ycl).X:=((((),()),(0,()),()),((x.2.1.1.1,x.2.1.1.2.1,x.2.1.1.2.2.1,(),x.2.1.1.2.2.2.2.1,x.2.1.1.2.2.2.2.2.1,x.2.1.1.2.2.2.2.2.2.1,x.2.1.1.2.2.2.2.2.2.2.1,x.2.1.1.2.2.2.2.2.2.2.2.1,(),x.2.1.1.2.2.2.2.2.2.2.2.2.2.1,x.2.1.1.2.2.2.2.2.2.2.2.2.2.2.1,x.2.1.1.2.2.2.2.2.2.2.2.2.2.2.2.1,()),()),(x.2.2.1,x.2.2.2.1,()))
def yFq:Code:=(zdD ykd 64 20).getD .skip
theorem yT1:zdD ykd 64 5=some (.block 0 (.loop yFq)):=by kernel_rfl
theorem yWg (x:(ycl).X):zg0 ⟨yrf,56,yE4⟩ 0 yFq 20 ycl yhx yhT x=ycM x:=by kernel_rfl
def yDQ (x:(yhM).X):Nat:=18446744073709551616
def yva (x:(yhM).X):Option ((yhx).X ⊕ (yhT).X):=zz ycM (yDQ x) (yDy x)
def yEj:Seg:=⟨yhM,yhx,yhT,yva⟩
def yE5:Nat→Option Seg:=fun q=>bif Nat.beq q 5 then some yEj else yE4 q
theorem ySd:FrOk Tryz.prog ⟨yrf,56,yE5⟩ ykd:=(ySc).loop (sg:=yEj) ycl yDy (by decide) yT1 ycM yDQ (by decide) (fun _=>rfl) (fun x r _ h=>h) yWg
abbrev ydR:List Par:= [.pt tA (.pr .fz (.pr (.pr .fz .fz) (.pr (.ow (.pr (.ow .fz) (.pr (.ow (.pr .fz .fz)) (.pr .fz (.ow .fz))))) (.pr .fz (.pr .fz (.pr .fz (.pr .fz (.pr .fz (.pr (.ow (.pr .fz .fz)) (.pr .fz (.pr .fz .fz)))))))))))]
abbrev yk3:List OT:= []
def ymJ (a0:dA):Option (ResD yk3×MutD ydR) :=
 zjY (yva ((((),()),((),()),()),((a0.1,a0.2.1.1,a0.2.1.2,(),a0.2.2.2.1,a0.2.2.2.2.1,a0.2.2.2.2.2.1,a0.2.2.2.2.2.2.1,a0.2.2.2.2.2.2.2.1,(),a0.2.2.2.2.2.2.2.2.2.1,a0.2.2.2.2.2.2.2.2.2.2.1,a0.2.2.2.2.2.2.2.2.2.2.2,()),()),(a0.2.2.1,a0.2.2.2.2.2.2.2.2.1,()))) (fun y6 =>
 let r8:=yfG (y6.2.1.1.1,(y6.2.1.1.2.1,y6.2.1.1.2.2.1),y6.2.2.1,y6.2.1.1.2.2.2.2.1,y6.2.1.1.2.2.2.2.2.1,y6.2.1.1.2.2.2.2.2.2.1,y6.2.1.1.2.2.2.2.2.2.2.1,y6.2.1.1.2.2.2.2.2.2.2.2.1,y6.2.2.2.1,y6.2.1.1.2.2.2.2.2.2.2.2.2.2.1,y6.2.1.1.2.2.2.2.2.2.2.2.2.2.2.1,y6.2.1.1.2.2.2.2.2.2.2.2.2.2.2.2.1)
 some ((),(r8,()))) (fun y6 =>
 some ((),((y6.2.1.1.1,(y6.2.1.1.2.1,y6.2.1.1.2.2.1),y6.2.2.1,y6.2.1.1.2.2.2.2.1,y6.2.1.1.2.2.2.2.2.1,y6.2.1.1.2.2.2.2.2.2.1,y6.2.1.1.2.2.2.2.2.2.2.1,y6.2.1.1.2.2.2.2.2.2.2.2.1,y6.2.2.2.1,y6.2.1.1.2.2.2.2.2.2.2.2.2.2.1,y6.2.1.1.2.2.2.2.2.2.2.2.2.2.2.1,y6.2.1.1.2.2.2.2.2.2.2.2.2.2.2.2.1),())))
theorem y1G (x:InD ydR):zjw ⟨yrf,56,yE5⟩ Tryz.f166.results.toList ykd ydR yk3 x=ymJ x.1:=by kernel_rfl
theorem yVR:ConOk Tryz.prog 166 ⟨ydR,yk3,fun x=>ymJ x.1⟩:=zj1 (ySd) Tryz.func166 (by kernel_rfl) (by kernel_rfl) Tryz.ntmps166.symm (by decide) (fun x r h=>(y1G x).trans h)
def ylA (a0:dA):dA:=yTj a0
def ylF (a0:dA):Bool:=yf a0.2.1&&(a0.2.2.1.length:Int)==a0.2.1.1
theorem yY9 (a0:dA) (hk:zi1 ydR (a0,())) (hq:ylF a0=true):ymJ a0=(fun n=>some ((),(n,()))) (ylA a0):=by
 simp only [ylF,Bool.and_eq_true,beq_iff_eq]at hq
 have h1:=zj7 (step:=ycM) 4 (fun i s=>ylp i s) yxV (fun _ s=>s.2.1=a0.2.1∧s.2.2.1.length=a0.2.2.1.length) .inl
  (fun b=>match b with | .inl x=> .inl (ySn x) | .inr x=> .inr (ytp x)) (fun i s hi hs=>by
   constructor
   ·simp only [ycM,ylp,ytO,zj4 (show (i:Int) < 4 by omega),cond_true,wr (show -9223372036854775808≤(i:Int)+1 by omega) (by omega),Int.natCast_add,Int.natCast_one,Int.toNat_natCast,zkr]
    rw [yLg s s.2.2.2.2.2.1 (by unfold yn5; rw [hs.1,hq.1]; rfl)]
    simp only [zkc,yip,ygt]
    unfold yxV
    cases hf:(yU s s.2.2.2.2.2.1).2
    ·rfl
    ·cases leb 60000 s.2.2.2.2.2.1
     ·have ho:=yaaJ (a:=s) (q:=s.2.2.2.2.2.1) (by rw [hs.1]; exact hq.1) hf
      have hd:yeQ (yQ (yh5 s)) (yU s s.2.2.2.2.2.1).1.2.1 (yU s s.2.2.2.2.2.1).1.2.2=some ((),(ytx s,())):=yNk _ _ _ (by
       unfold yj2
       simp only [Bool.and_eq_true,beq_iff_eq]
       rw [show (yQ (yh5 s)).2.1=s.2.1 from y0e s]
       exact ⟨ho.1,ho.2,by rw [show (yQ (yh5 s)).2.2.1.length=s.2.2.1.length from yNn s _,hs.2,hq.2,hs.1]⟩)
      have h1:ydg s (yU s s.2.2.2.2.2.1).1=yh5 s:=rfl
      rw [h1]
      generalize ytx s=R2 at hd ⊢
      generalize yh5 s=R1 at hd ⊢
      generalize yU s s.2.2.2.2.2.1=F at hd ⊢
      unfold yQ at hd
      simp only [Bool.not_true,Bool.not_false,cond_true,cond_false,Bool.or_self,hd,zkc]
      show (bif ye R1 then some (Sum.inr (Sum.inr (ytp R1))) else bif ye R2 then some (Sum.inr (Sum.inr (ytp R2))) else some (Sum.inl (ylp ((i:Int)+1) R2)))=_
      cases ye R1
      ·cases ye R2<;>rfl
      ·rfl
     ·rfl
   ·intro s' h
    unfold yxV at h
    cases hc:(!(yU s s.2.2.2.2.2.1).2||leb 60000 s.2.2.2.2.2.1)
    ·rw [hc]at h
     cases hd1:ye (yh5 s)
     ·rw [hd1]at h
      cases hd2:ye (ytx s)
      ·rw [hd2]at h
       simp only [cond_false,Sum.inl.injEq]at h
       subst h
       exact ⟨(y94 s).trans hs.1,(y95 s).trans hs.2⟩
      ·rw [hd2]at h; cases h
     ·rw [hd1]at h; cases h
    ·rw [hc]at h; cases h) (fun s hs=>by simp only [ycM,ylp,ytO]; rfl) a0 ⟨rfl,rfl⟩ 18446744073709551616 (by omega)
 unfold ymJ ylA yTj
 refine (congrArg (fun z=>zjY z _ _) (show yva (ySC a0)=_ from h1)).trans ?_
 cases goE yxV .inl 4 0 a0 with
 | inl b=>simp only [zkh,yEC]
 | inr b=>rfl
def yr2 (a0:dA):Option (ResD yk3×MutD ydR):=bif ylF a0 then (fun n=>some ((),(n,()))) (ylA a0) else none
theorem yZZ (a0:dA) (h:ylF a0=true):yr2 a0=(fun n=>some ((),(n,()))) (ylA a0):=by unfold yr2; rw [h]; rfl
def yFG:Con:=⟨ydR,yk3,fun x=>yr2 x.1⟩
theorem yZV:ConOk Tryz.prog 166 yFG:=(yVR).mono (fun x r hk h=>zks h (fun hq=>yY9 x.1 hk hq))
end
section
def yOy:Code:=(Tryz.f69.body).getD .skip
def yO9:Env:=zj2 TT [(46,ynF),(103,yzz),(166,yFG)] []
theorem yXC:FrOk Tryz.prog ⟨yO9,25,fun _=>none⟩ yOy:=zj6 yc yd ⟨ywZ,yNe,yZV,trivial⟩
def y0B:Nat→Option Seg:=fun _=>none
abbrev yjR:List Par:= [.rd tA]
abbrev ywA:List OT:= [⟨false,tA,(.pr .fz (.pr (.pr .fz .fz) (.pr (.ow (.pr (.ow .fz) (.pr (.ow (.pr .fz .fz)) (.pr .fz (.ow .fz))))) (.pr .fz (.pr .fz (.pr .fz (.pr .fz (.pr .fz (.pr (.ow (.pr .fz .fz)) (.pr .fz (.pr .fz .fz)))))))))))⟩]
def ysg (a0:dA):Option (ResD ywA×MutD yjR) :=
 let r1:=yha a0
 let r2:=yaM a0
 bif r2 then
 bif (!a0.2.2.2.2.2.2.2.2.2.2.1) then
 bif (!a0.2.2.2.2.2.2.2.2.2.2.2) then
 bif (ltb a0.2.2.2.2.2.2.2.1 60000) then
 bnd (yr2 r1) fun r3 =>
 some ((r3.2.1,()),())
 else
 some ((r1,()),())
 else
 some ((r1,()),())
 else
 some ((r1,()),())
 else
 some ((r1,()),())
theorem y76 (x:InD yjR):zjw ⟨yO9,25,y0B⟩ Tryz.f69.results.toList yOy yjR ywA x=ysg x.1:=by kernel_rfl
theorem y3x:ConOk Tryz.prog 69 ⟨yjR,ywA,fun x=>ysg x.1⟩:=zj1 (yXC) Tryz.func69 (by kernel_rfl) (by kernel_rfl) Tryz.ntmps69.symm (by decide) (fun x r h=>(y76 x).trans h)
def yeO (a0:dA):dA:=yqm a0
theorem y5Z (a0:dA) (hk:zi1 yjR (a0,())):ysg a0=(fun n=>some ((n,()),())) (yeO a0):=by
 unfold ysg yeO yqm
 simp only [yha,yaM]
 cases ha:yE a0
 ·rfl
 rw [yZZ a0 (by unfold ylF; rw [yll ha,yCY ha]; simp)]
 unfold ylA
 generalize yTj a0=R
 show (bif true then bif !(ye a0) then (bif !a0.2.2.2.2.2.2.2.2.2.2.2 then bif ltb a0.2.2.2.2.2.2.2.1 60000 then _ else _ else _) else _ else _)=_
 cases ye a0<;>cases a0.2.2.2.2.2.2.2.2.2.2.2<;>cases ltb a0.2.2.2.2.2.2.2.1 60000<;>rfl
def yzw:Con:=⟨yjR,ywA,fun x=>(fun n=>some ((n,()),())) (yeO x.1)⟩
theorem yNb:ConOk Tryz.prog 69 yzw:=(y3x).mono (fun x r hk h=>(y5Z x.1 hk).trans h)
end
section
def ymR:Code:=(Tryz.f169.body).getD .skip
def ytV:Env:=zj2 TT [(135,yq),(152,ycq),(224,yfB)] [(45056,(.pr .fz .fz))]
theorem yUw:FrOk Tryz.prog ⟨ytV,51,fun _=>none⟩ ymR:=zj6 yc yd ⟨yy,yfK,yj1,trivial⟩
def yGU:Nat→Option Seg:=fun _=>none
def ybC:Shape:=⟨[(1,false,[.int .i64]),(4,false,[.ptr 64 0]),(5,false,[.ptr 4224 0]),(6,false,[.int .i64])],[(64,[.nil,.nil,.bool,.nil]),(4224,[.at 800000000,.at 800000001,.bool,.at 800000002])],[(800000000,tL,.fz),(800000001,tW,(.pr .fz .fz)),(800000002,tI,.fz)]⟩
def ygj:Shape:=⟨[(1,false,[.int .i64]),(4,false,[.ptr 64 0]),(5,false,[.ptr 4224 0]),(6,false,[.int .i64])],[(64,[.nil,.nil,.bool,.nil]),(4224,[.at 800000000,.at 800000001,.bool,.at 800000002])],[(800000000,tL,.fz),(800000001,tW,(.pr .fz .fz)),(800000002,tI,.fz)]⟩
def yf8:Shape:=⟨[(4,false,[.ptr 64 0]),(5,false,[.ptr 4224 0])],[(64,[.nil,.nil,.bool,.nil]),(4224,[.at 800000000,.at 800000001,.bool,.at 800000002])],[(800000000,tL,.fz),(800000001,tW,(.pr .fz .fz)),(800000002,tI,.fz)]⟩
def yle:Shape:=⟨[],[],[]⟩
abbrev yqK (v0 v1:Int) (v2 v3:dM):(ybC).X:=(((v0,()),((),()),((),()),(v1,()),()),(((),(),v2.2.2.1,(),()),((),(),v3.2.2.1,(),()),()),(v3.1,v3.2.1,v3.2.2.2,()))
abbrev yQa (v0 v1:Int) (v2 v3:dM):(ygj).X:=(((v0,()),((),()),((),()),(v1,()),()),(((),(),v2.2.2.1,(),()),((),(),v3.2.2.1,(),()),()),(v3.1,v3.2.1,v3.2.2.2,()))
abbrev yBz (v0 v1:dM):(yf8).X:=((((),()),((),()),()),(((),(),v0.2.2.1,(),()),((),(),v1.2.2.1,(),()),()),(v1.1,v1.2.1,v1.2.2.2,()))
def yq1 (v0 v1:Int) (v2 v3:Bool) (v4:List (List Int)) (v5:List dW) (v6:List Int):Option ((ybC).X ⊕ ((yf8).X ⊕ (yle).X)) :=
 bif (ltb v1 (v5.length:Int)) then
 bif (ltb v1 20) then
 bif (leb 0 (IntKind.u64.wrap v1)) then
 bif ((IntKind.i64.wrap ((BitVec.ofInt IntKind.i64.bits (v0.fdiv (2 ^ (min ((IntKind.u64.wrap v1)).toNat IntKind.i64.bits))) &&& BitVec.ofInt IntKind.i64.bits 1).toNat:Int))==1) then
 bif (inb v1 v5.length) then
 bif (inb v1 v5.length) then
 bif (inb ((nth v5 v1 (0,[])).1) v4.length) then
 let r5:=(v4.set ((nth v5 v1 (0,[])).1).toNat ((nth v5 v1 (0,[])).2))
 some (.inl (((v0,()),((),()),((),()),((IntKind.i64.wrap (v1+1)),()),()),(((),(),v2,(),()),((),(),v3,(),()),()),(r5,v5,v6,())))
 else none
 else none
 else none
 else
 some (.inl (((v0,()),((),()),((),()),((IntKind.i64.wrap (v1+1)),()),()),(((),(),v2,(),()),((),(),v3,(),()),()),(v4,v5,v6,())))
 else none
 else
 some (.inr (.inl ((((),()),((),()),()),(((),(),v2,(),()),((),(),v3,(),()),()),(v4,v5,v6,()))))
 else
 some (.inr (.inl ((((),()),((),()),()),(((),(),v2,(),()),((),(),v3,(),()),()),(v4,v5,v6,()))))
def yb2 (x:(ybC).X):=yq1 x.1.1.1 x.1.2.2.2.1.1 x.2.1.1.2.2.1 x.2.1.2.1.2.2.1 x.2.2.1 x.2.2.2.1 x.2.2.2.2.1
def yBf (x:(ygj).X):(ybC).X:=(((x.1.1.1,()),((),()),((),()),(x.1.2.2.2.1.1,()),()),(((),(),x.2.1.1.2.2.1,(),()),((),(),x.2.1.2.1.2.2.1,(),()),()),(x.2.2.1,x.2.2.2.1,x.2.2.2.2.1,()))
def yC7:Code:=(zdD ymR 64 500).getD .skip
theorem yRf:zdD ymR 64 125=some (.block 0 (.loop yC7)):=by kernel_rfl
theorem yTd (x:(ybC).X):zg0 ⟨ytV,51,yGU⟩ 0 yC7 500 ybC yf8 yle x=yb2 x:=by kernel_rfl
def yBr (x:(ygj).X):Nat:=18446744073709551616
def ykh (x:(ygj).X):Option ((yf8).X ⊕ (yle).X):=zz yb2 (yBr x) (yBf x)
def yBJ:Seg:=⟨ygj,yf8,yle,ykh⟩
def yGV:Nat→Option Seg:=fun q=>bif Nat.beq q 125 then some yBJ else yGU q
theorem yUx:FrOk Tryz.prog ⟨ytV,51,yGV⟩ ymR:=(yUw).loop (sg:=yBJ) ybC yBf (by decide) yRf yb2 yBr (by decide) (fun _=>rfl) (fun x r _ h=>h) yTd
abbrev yif:List Par:= [.rd tM,.rd tI]
abbrev yuf:List OT:= [⟨false,tM,(.pr (.ow .fz) (.pr (.ow (.pr .fz .fz)) (.pr .fz (.ow .fz))))⟩]
def yo3 (a0:dM) (a1:Int):Option (ResD yuf×MutD yif) :=
 let r1:=yD a0
 let r2:=yab a0
 bif (!r2) then
 some ((r1,()),())
 else
 let r3:=ya a1 0 1048575
 bif (!r3) then
 zjY (ykh (((0,()),((),()),((),()),(0,()),()),(((),(),false,(),()),((),(),r1.2.2.1,(),()),()),(r1.1,r1.2.1,r1.2.2.2,()))) (fun y5 =>
 some (((y5.2.2.1,([]:List dW),y5.2.1.2.1.2.2.1,y5.2.2.2.2.1),()),())) (fun y5 =>
 none)
 else
 zjY (ykh (((a1,()),((),()),((),()),(0,()),()),(((),(),false,(),()),((),(),r1.2.2.1,(),()),()),(r1.1,r1.2.1,r1.2.2.2,()))) (fun y6 =>
 some (((y6.2.2.1,([]:List dW),y6.2.1.2.1.2.2.1,y6.2.2.2.2.1),()),())) (fun y6 =>
 none)
theorem y49 (x:InD yif):zjw ⟨ytV,51,yGV⟩ Tryz.f169.results.toList ymR yif yuf x=yo3 x.1 x.2.1:=by kernel_rfl
theorem yZp:ConOk Tryz.prog 169 ⟨yif,yuf,fun x=>yo3 x.1 x.2.1⟩:=zj1 (yUx) Tryz.func169 (by kernel_rfl) (by kernel_rfl) Tryz.ntmps169.symm (by decide) (fun x r h=>(y49 x).trans h)
def yio (a0:dM) (a1:Int):dM:=ygU a0 a1
theorem y2X (a0:dM) (a1:Int) (hk:zi1 yif (a0,a1,())):yo3 a0 a1=(fun n=>some ((n,()),())) (yio a0 a1):=by
 have hb2:a0.2.1.length * 32≤2 ^ 47:=hk.1.2.1.1
 unfold yo3 yio ygU
 simp only [yD,yab,ybr]
 cases hm:yu a0
 ·rfl
 have h1: ∀ k,ykh (yQa k 0 noMem a0)=some (.inl (yBz noMem (ybP (fun i=>decide (i < 20)&&yNw k i) a0.2.1 a0.1,a0.2))):=fun k=>by
  rw [yaaq]
  exact zj8 (step:=yb2) (min a0.2.1.length 20) (fun i s=>yqK k i noMem (s,a0.2)) (ybH (yNw k) a0.2.1) (fun i s=>s.length=a0.1.length) (fun s=> .inl (yBz noMem (s,a0.2))) (fun i s hi hs=>by
   have hu:IntKind.u64.wrap (i:Int)=i:=by simp only [IntKind.wrap,IntKind.bits,IntKind.signed,Bool.false_and,Bool.false_eq_true,if_false]; omega
   have hw:=(yNI hm (show i < a0.2.1.length by omega)).1
   refine ⟨?_,yzZ.trans hs⟩
   simp only [yb2,yqK,yq1,zj4 (show (i:Int) < a0.2.1.length by omega),cond_true,wr (show -9223372036854775808≤(i:Int)+1 by omega) (by omega),Int.natCast_add,Int.natCast_one,Int.toNat_natCast,zj4 (show (i:Int) < 20 by omega),hu,zkw (show (0:Int)≤i by omega),zkl (show i < a0.2.1.length by omega),hs,hw,ybH]
   rw [show yNw k i=(IntKind.i64.wrap ((BitVec.ofInt IntKind.i64.bits (k.fdiv (2 ^ (min i IntKind.i64.bits))) &&& BitVec.ofInt IntKind.i64.bits 1).toNat:Int)==1) from rfl]
   cases (IntKind.i64.wrap ((BitVec.ofInt IntKind.i64.bits (k.fdiv (2 ^ (min i IntKind.i64.bits))) &&& BitVec.ofInt IntKind.i64.bits 1).toNat:Int)==1)<;>rfl) (fun s hs=>by
   simp only [yb2,yqK,yq1]
   by_cases h:a0.2.1.length≤20
   ·rw [zkx (show (a0.2.1.length:Int)≤((min a0.2.1.length 20:Nat):Int) by omega)]; rfl
   ·rw [zj4 (show ((min a0.2.1.length 20:Nat):Int) < (a0.2.1.length:Int) by omega),zkx (show (20:Int)≤((min a0.2.1.length 20:Nat):Int) by omega)]; rfl) a0.1 rfl _ (by show _ < 18446744073709551616; omega)
 unfold y9M
 rw [h1 0,h1 a1]
 cases (leb 0 a1&&leb a1 1048575)<;>rfl
def yHz:Con:=⟨yif,yuf,fun x=>(fun n=>some ((n,()),())) (yio x.1 x.2.1)⟩
theorem y33:ConOk Tryz.prog 169 yHz:=(yZp).mono (fun x r hk h=>(y2X x.1 x.2.1 hk).trans h)
end
section
def yvR:Code:=(Tryz.f73.body).getD .skip
def yCv:Env:=zj2 TT [(169,yHz)] [(4096,(.pr (.ow .fz) (.pr (.ow (.pr .fz .fz)) (.pr .fz (.ow .fz))))),(33216,(.pr (.ow .fz) (.pr (.ow (.pr .fz .fz)) (.pr .fz (.ow .fz)))))]
theorem y5t:FrOk Tryz.prog ⟨yCv,33,fun _=>none⟩ yvR:=zj6 yc yd ⟨y33,trivial⟩
def yON:Nat→Option Seg:=fun _=>none
def yfx:Shape:=⟨[(0,false,[.br tM]),(1,false,[.br tI]),(5,false,[.at 800000000]),(6,false,[.int .i64])],[],[(800000000,tM,(.pr (.ow .fz) (.pr (.ow (.pr .fz .fz)) (.pr .fz (.ow .fz)))))]⟩
def ynp:Shape:=⟨[(0,false,[.br tM]),(1,false,[.br tI]),(5,false,[.at 800000000]),(6,false,[.ci .i64 0])],[],[(800000000,tM,(.pr (.ow .fz) (.pr (.ow (.pr .fz .fz)) (.pr .fz (.ow .fz)))))]⟩
def ynl:Shape:=⟨[(5,false,[.at 800000000])],[],[(800000000,tM,(.pr (.ow .fz) (.pr (.ow (.pr .fz .fz)) (.pr .fz (.ow .fz)))))]⟩
def yup:Shape:=⟨[],[],[]⟩
abbrev yz1 (v0:List dM) (v1:List Int) (v2:Int) (v3:List dM):(yfx).X:=(((v0,()),(v1,()),((),()),(v2,()),()),(),(v3,()))
abbrev y2G (v0:List dM) (v1:List Int) (v2:List dM):(ynp).X:=(((v0,()),(v1,()),((),()),((),()),()),(),(v2,()))
abbrev yK2 (v0:List dM):(ynl).X:=((((),()),()),(),(v0,()))
def yAJ (v0:List dM) (v1:List Int) (v2:Int) (v3:List dM):Option ((yfx).X ⊕ ((ynl).X ⊕ (yup).X)) :=
 bif (ltb v2 (v0.length:Int)) then
 bif (ltb v2 (v1.length:Int)) then
 bif (inb v2 v1.length) then
 bif (inb v2 v0.length) then
 let r3:=yio ((nth v0 v2 ([],[],false,[])).1,((nth v0 v2 ([],[],false,[])).2).1,(((nth v0 v2 ([],[],false,[])).2).2)) (nth v1 v2 0)
 bif (zjQ v3.length ([r3]:List dM).length 80) then
 some (.inl (((v0,()),(v1,()),((),()),((IntKind.i64.wrap (v2+1)),()),()),(),((v3++([r3]:List dM)),())))
 else none
 else none
 else none
 else
 bif (inb v2 v0.length) then
 let r4:=yio ((nth v0 v2 ([],[],false,[])).1,((nth v0 v2 ([],[],false,[])).2).1,(((nth v0 v2 ([],[],false,[])).2).2)) 0
 bif (zjQ v3.length ([r4]:List dM).length 80) then
 some (.inl (((v0,()),(v1,()),((),()),((IntKind.i64.wrap (v2+1)),()),()),(),((v3++([r4]:List dM)),())))
 else none
 else none
 else
 some (.inr (.inl ((((),()),()),(),(v3,()))))
def yfQ (x:(yfx).X):=yAJ x.1.1.1 x.1.2.1.1 x.1.2.2.2.1.1 x.2.2.1
def yKP (x:(ynp).X):(yfx).X:=(((x.1.1.1,()),(x.1.2.1.1,()),((),()),(0,()),()),(),(x.2.2.1,()))
def yMF:Code:=(zdD yvR 64 116).getD .skip
theorem y4N:zdD yvR 64 29=some (.block 0 (.loop yMF)):=by kernel_rfl
theorem y63 (x:(yfx).X):zg0 ⟨yCv,33,yON⟩ 0 yMF 116 yfx ynl yup x=yfQ x:=by kernel_rfl
def yKU (x:(ynp).X):Nat:=18446744073709551616
def yBS (x:(ynp).X):Option ((ynl).X ⊕ (yup).X):=zz yfQ (yKU x) (yKP x)
def yLm:Seg:=⟨ynp,ynl,yup,yBS⟩
def yOO:Nat→Option Seg:=fun q=>bif Nat.beq q 29 then some yLm else yON q
theorem y5u:FrOk Tryz.prog ⟨yCv,33,yOO⟩ yvR:=(y5t).loop (sg:=yLm) yfx yKP (by decide) y4N yfQ yKU (by decide) (fun _=>rfl) (fun x r _ h=>h) y63
abbrev yqq:List Par:= [.rd tMs,.rd tL]
abbrev yCy:List OT:= [⟨false,tMs,(.ow (.pr (.ow .fz) (.pr (.ow (.pr .fz .fz)) (.pr .fz (.ow .fz)))))⟩]
def yw2 (a0:List dM) (a1:List Int):Option (ResD yCy×MutD yqq) :=
 zjY (yBS (((a0,()),(a1,()),((),()),((),()),()),(),(([]:List dM),()))) (fun y4 =>
 some ((y4.2.2.1,()),())) (fun y4 =>
 none)
theorem yaak (x:InD yqq):zjw ⟨yCv,33,yOO⟩ Tryz.f73.results.toList yvR yqq yCy x=yw2 x.1 x.2.1:=by kernel_rfl
theorem y8R:ConOk Tryz.prog 73 ⟨yqq,yCy,fun x=>yw2 x.1 x.2.1⟩:=zj1 (y5u) Tryz.func73 (by kernel_rfl) (by kernel_rfl) Tryz.ntmps73.symm (by decide) (fun x r h=>(yaak x).trans h)
def ylQ (a0:List dM) (a1:List Int):List dM:=ybf a0 a1
theorem y9W (a0:List dM) (a1:List Int) (hk:zi1 yqq (a0,a1,())):yw2 a0 a1=(fun n=>some ((n,()),())) (ylQ a0 a1):=by
 have hb:a0.length * 80≤2 ^ 47:=hk.1.1
 have h1:yBS (y2G a0 a1 [])=some (.inl (yK2 ((List.range a0.length).foldl (fun s (i:Nat)=>s++ [ygU (nth a0 i noMem) (yIe a1 i)]) []))) :=
  zj8 (step:=yfQ) a0.length (fun i s=>yz1 a0 a1 i s) (fun s (i:Nat)=>s++ [ygU (nth a0 i noMem) (yIe a1 i)]) (fun i s=>s.length=i) (fun s=> .inl (yK2 s)) (fun i s hi hs=>⟨by
   simp only [yfQ,yz1,yAJ,zj4 (show (i:Int) < a0.length by omega),cond_true,wr (show -9223372036854775808≤(i:Int)+1 by omega) (by omega),Int.natCast_add,Int.natCast_one,Int.toNat_natCast,zkl hi,zkr,yio,yIe]
   rw [zka.2 (show (s.length+ [ygU (nth a0 i ([],[],false,[])) (nth a1 i 0)].length) * 80≤140737488355328 by simp only [List.length_cons,List.length_nil]; omega),zka.2 (show (s.length+ [ygU (nth a0 i ([],[],false,[])) 0].length) * 80≤140737488355328 by simp only [List.length_cons,List.length_nil]; omega)]
   by_cases h:i < a1.length
   ·rw [zj4 (show (i:Int) < a1.length by omega),zkl h,decide_eq_true h]; rfl
   ·rw [zkx (show (a1.length:Int)≤i by omega),decide_eq_false h]; rfl,by simp [hs]⟩) (fun s hs=>by simp only [yfQ,yz1,yAJ,zkx (Int.le_refl _),cond_false]) [] rfl _ (by show _ < 18446744073709551616; omega)
 unfold yw2 ylQ ybf
 rw [h1,yzO]; rfl
def yEm:Con:=⟨yqq,yCy,fun x=>(fun n=>some ((n,()),())) (ylQ x.1 x.2.1)⟩
theorem yS0:ConOk Tryz.prog 73 yEm:=(y8R).mono (fun x r hk h=>(y9W x.1 x.2.1 hk).trans h)
end
section
def yLL:Code:=(Tryz.f61.body).getD .skip
def yMs:Env:=zj2 TT [(58,ymh),(69,yzw),(73,yEm),(135,yq)] []
theorem yUD:FrOk Tryz.prog ⟨yMs,29,fun _=>none⟩ yLL:=zj6 yc yd ⟨yxK,yNb,yS0,yy,trivial⟩
def yWF:Nat→Option Seg:=fun _=>none
abbrev yii:List Par:= [.rd tMs,.rd tL,.rd tI,.rd tI]
abbrev yui:List OT:= [⟨false,tA,(.pr .fz (.pr (.pr .fz .fz) (.pr (.ow (.pr (.ow .fz) (.pr (.ow (.pr .fz .fz)) (.pr .fz (.ow .fz))))) (.pr .fz (.pr .fz (.pr .fz (.pr .fz (.pr .fz (.pr (.ow (.pr .fz .fz)) (.pr .fz (.pr .fz .fz)))))))))))⟩,⟨false,tB,.fz⟩]
def yo7 (a0:List dM) (a1:List Int) (a2 a3:Int):Option (ResD yui×MutD yii) :=
 let r1:=ylQ a0 a1
 let r2:=ybc r1 a2
 bif (!r2.2) then
 some ((r2.1,false,()),())
 else
 let r3:=ya a3 (-1) 1000
 bif r3 then
 let r4:=yeO (r2.1.1,r2.1.2.1,r2.1.2.2.1,r2.1.2.2.2.1,r2.1.2.2.2.2.1,r2.1.2.2.2.2.2.1,r2.1.2.2.2.2.2.2.1,r2.1.2.2.2.2.2.2.2.1,r2.1.2.2.2.2.2.2.2.2.1,a3,r2.1.2.2.2.2.2.2.2.2.2.2)
 some ((r4,true,()),())
 else
 let r5:=yeO r2.1
 some ((r5,true,()),())
theorem y5d (x:InD yii):zjw ⟨yMs,29,yWF⟩ Tryz.f61.results.toList yLL yii yui x=yo7 x.1 x.2.1 x.2.2.1 x.2.2.2.1:=by kernel_rfl
theorem yZt:ConOk Tryz.prog 61 ⟨yii,yui,fun x=>yo7 x.1 x.2.1 x.2.2.1 x.2.2.2.1⟩:=zj1 (yUD) Tryz.func61 (by kernel_rfl) (by kernel_rfl) Tryz.ntmps61.symm (by decide) (fun x r h=>(y5d x).trans h)
def ynT (a0:List dM) (a1:List Int) (a2 a3:Int):dA×Bool:=yCt a0 a1 a2 a3
theorem y21 (a0:List dM) (a1:List Int) (a2 a3:Int) (hk:zi1 yii (a0,a1,a2,a3,())):yo7 a0 a1 a2 a3=(fun n=>some ((n.1,n.2,()),())) (ynT a0 a1 a2 a3):=by
 unfold yo7 ynT yCt
 simp only [ylQ,ybc,ybr,yeO]
 cases h:(ycm (ybf a0 a1) a2).2
 ·have:(ycm (ybf a0 a1) a2).1=yK:=by
   unfold ycm at h ⊢
   cases hc:((yam (ybf a0 a1) a2).2&&(((ybf a0 a1).length:Int)==(yam (ybf a0 a1) a2).1.2.2.2.1&&yE (yMD (ybf a0 a1) a2)))
   ·rfl
   ·rw [hc]at h; cases h
  rw [this]; rfl
 ·cases (leb (-1) a3&&leb a3 1000)<;>rfl
def yHB:Con:=⟨yii,yui,fun x=>(fun n=>some ((n.1,n.2,()),())) (ynT x.1 x.2.1 x.2.2.1 x.2.2.2.1)⟩
theorem y35:ConOk Tryz.prog 61 yHB:=(yZt).mono (fun x r hk h=>(y21 x.1 x.2.1 x.2.2.1 x.2.2.2.1 hk).trans h)
end
section
def yOK:Code:=(Tryz.f97.body).getD .skip
def yPl:Env:=zj2 TT [(110,ylo),(150,ym)] []
theorem yX4:FrOk Tryz.prog ⟨yPl,16,fun _=>none⟩ yOK:=zj6 yc yd ⟨yuC,yv,trivial⟩
def y0N:Nat→Option Seg:=fun _=>none
abbrev ypV:List Par:= [.pt tU .fz,.kp tA (.pr .fz (.pr (.pr .fz .fz) (.pr (.ow (.pr (.ow .fz) (.pr (.ow (.pr .fz .fz)) (.pr .fz (.ow .fz))))) (.pr .fz (.pr .fz (.pr .fz (.pr .fz (.pr .fz (.pr (.ow (.pr .fz .fz)) (.pr .fz (.pr .fz .fz)))))))))))]
abbrev ywP:List OT:= [⟨false,tA,(.pr .fz (.pr (.pr .fz .fz) (.pr (.ow (.pr (.ow .fz) (.pr (.ow (.pr .fz .fz)) (.pr .fz (.ow .fz))))) (.pr .fz (.pr .fz (.pr .fz (.pr .fz (.pr .fz (.pr (.ow (.pr .fz .fz)) (.pr .fz (.pr .fz .fz)))))))))))⟩]
def yeo (a0:dU) (a1:dA):Option (ResD ywP×MutD ypV) :=
 bnd (yZ a0 2) fun r1 =>
 bif r1.1.1 then
 bif (a1.2.2.2.2.2.2.2.2.2.1==(-1)) then
 bnd (yb r1.2.1 14) fun r2 =>
 some (((a1.1,a1.2.1,a1.2.2.1,a1.2.2.2.1,a1.2.2.2.2.1,a1.2.2.2.2.2.1,a1.2.2.2.2.2.2.1,a1.2.2.2.2.2.2.2.1,a1.2.2.2.2.2.2.2.2.1,r2.1.1,a1.2.2.2.2.2.2.2.2.2.2),()),(r2.2.1,()))
 else
 some ((a1,()),(r1.2.1,()))
 else
 some ((a1,()),(r1.2.1,()))
theorem y8p (x:InD ypV):zjw ⟨yPl,16,y0N⟩ Tryz.f97.results.toList yOK ypV ywP x=yeo x.1 x.2.1:=by kernel_rfl
theorem y3Q:ConOk Tryz.prog 97 ⟨ypV,ywP,fun x=>yeo x.1 x.2.1⟩:=zj1 (yX4) Tryz.func97 (by kernel_rfl) (by kernel_rfl) Tryz.ntmps97.symm (by decide) (fun x r h=>(y8p x).trans h)
def yzD:Con:=⟨ypV,ywP,fun x=>yeo x.1 x.2.1⟩
theorem yNi:ConOk Tryz.prog 97 yzD:=y3Q
theorem yaaH (u:dU) (a:dA) (h:yA u) (ha:ygR a): ∃ (a':dA) (u':dU),yeo u a=some ((a',()),(u',()))∧ygR a'∧yA u':=by
 unfold yeo
 obtain ⟨r,u1,e1,d1⟩:=yMP u 2 h
 simp only [e1,zkc]
 cases r
 ·exact ⟨_,_,rfl,ha,d1⟩
 ·cases (a.2.2.2.2.2.2.2.2.2.1== -1)
  ·exact ⟨_,_,rfl,ha,d1⟩
  ·obtain ⟨x,u2,e2,_,d2⟩:=yp u1 14 d1
   simp only [cond_true,e2,zkc]
   exact ⟨_,_,rfl,ha,d2⟩
end
section
def yQJ:Code:=(Tryz.f125.body).getD .skip
def yQ1:Env:=zj2 TT [(124,yae),(150,ym),(217,yB4)] []
theorem y2j:FrOk Tryz.prog ⟨yQ1,21,fun _=>none⟩ yQJ:=zj6 yc yd ⟨yaQ,yv,yPv,trivial⟩
def y4G:Nat→Option Seg:=fun _=>none
abbrev ysX:List Par:= [.pt tU .fz]
abbrev yzf:List OT:= [⟨false,tG,(.pr .fz .fz)⟩]
def yiu (a0:dU):Option (ResD yzf×MutD ysX) :=
 bnd (yfN a0) fun r1 =>
 bnd (yb r1.2.1 8) fun r2 =>
 bif (r2.1.1==0) then
 bnd (yn r2.2.1 ([0,2,6,(-1)]:List Int)) fun r3 =>
 some (((r3.1.1,r1.1.1.2),()),(r3.2.1,()))
 else
 bif (r2.1.1==1) then
 bnd (yn r2.2.1 ([0,9,(-1)]:List Int)) fun r4 =>
 some (((r1.1.1.1,r4.1.1),()),(r4.2.1,()))
 else
 some ((r1.1.1,()),(r2.2.1,()))
theorem y9C (x:InD ysX):zjw ⟨yQ1,21,y4G⟩ Tryz.f125.results.toList yQJ ysX yzf x=yiu x.1:=by kernel_rfl
theorem y6w:ConOk Tryz.prog 125 ⟨ysX,yzf,fun x=>yiu x.1⟩:=zj1 (y2j) Tryz.func125 (by kernel_rfl) (by kernel_rfl) Tryz.ntmps125.symm (by decide) (fun x r h=>(y9C x).trans h)
def yMK:Con:=⟨ysX,yzf,fun x=>yiu x.1⟩
theorem y8X:ConOk Tryz.prog 125 yMK:=y6w
def GS (g:dG):Prop:=(-1000≤g.1∧g.1≤1000)∧ -1000≤g.2∧g.2≤1000
theorem yacc {g:dG} (h:yf g=true):GS g:=by
 have:=yk.1 h
 unfold GS
 omega
theorem yabp (u:dU) (h:yA u): ∃ (g:dG) (u':dU),yiu u=some ((g,()),(u',()))∧GS g∧yA u':=by
 unfold yiu
 obtain ⟨g,u1,e1,q1,d1⟩:=yabn u h
 obtain ⟨r,u2,e2,_,d2⟩:=yp u1 8 d1
 have hq:=yacc q1
 simp only [e1,e2,zkc]
 cases (r==0)
 ·cases (r==1)
  ·exact ⟨_,_,rfl,hq,d2⟩
  ·obtain ⟨r3,u3,e3,q3,d3⟩:=yfe u2 [0,9,(-1)] d2 (by simp)
   simp only [cond_true,cond_false,e3,zkc]
   simp only [List.mem_cons,List.not_mem_nil,or_false]at q3
   exact ⟨_,_,rfl,⟨hq.1,by show -1000≤r3∧r3≤1000; omega⟩,d3⟩
 ·obtain ⟨r3,u3,e3,q3,d3⟩:=yfe u2 [0,2,6,(-1)] d2 (by simp)
  simp only [cond_true,e3,zkc]
  simp only [List.mem_cons,List.not_mem_nil,or_false]at q3
  exact ⟨_,_,rfl,⟨by show -1000≤r3∧r3≤1000; omega,hq.2⟩,d3⟩
end
section
def yQL:Code:=(Tryz.f114.body).getD .skip
def yQ3:Env:=zj2 TT [(113,yzA),(124,yae),(125,yMK),(141,yed),(150,ym),(211,yB2),(212,yB1),(213,yut)] [(61952,(.pr .fz .fz))]
theorem y2l:FrOk Tryz.prog ⟨yQ3,92,fun _=>none⟩ yQL:=zj6 yc yd ⟨yNf,yaQ,y8X,yis,yv,yPt,yPs,yEv,trivial⟩
def y4I:Nat→Option Seg:=fun _=>none
abbrev ysZ:List Par:= [.pt tU .fz,.rd tI]
abbrev yzh:List OT:= [⟨false,tA,(.pr .fz (.pr (.pr .fz .fz) (.pr (.ow (.pr (.ow .fz) (.pr (.ow (.pr .fz .fz)) (.pr .fz (.ow .fz))))) (.pr .fz (.pr .fz (.pr .fz (.pr .fz (.pr .fz (.pr (.ow (.pr .fz .fz)) (.pr .fz (.pr .fz .fz)))))))))))⟩]
def ybT (a0:dU) (a1:Int):Option (ResD yzh×MutD ysZ) :=
 bnd (ycs a0 a1) fun r1 =>
 bnd (yb r1.2.1 (r1.1.1.2.2.1.length:Int)) fun r2 =>
 bnd (yb r2.2.1 20) fun r3 =>
 bif (r3.1.1==0) then
 bnd (yfM r3.2.1) fun r4 =>
 bif (inb r2.1.1 r1.1.1.2.2.1.length) then
 some (((r1.1.1.1,r1.1.1.2.1,(r1.1.1.2.2.1.set (r2.1.1).toNat r4.1.1),r1.1.1.2.2.2),()),(r4.2.1,()))
 else none
 else
 bif (r3.1.1==1) then
 bnd (yn r3.2.1 ([(-2),(-1),0,5]:List Int)) fun r5 =>
 some (((r1.1.1.1,r1.1.1.2.1,r1.1.1.2.2.1,r5.1.1,r1.1.1.2.2.2.2),()),(r5.2.1,()))
 else
 bif (r3.1.1==2) then
 bnd (yn r3.2.1 ([(-1),1,9]:List Int)) fun r6 =>
 some (((r1.1.1.1,r1.1.1.2.1,r1.1.1.2.2.1,r1.1.1.2.2.2.1,r6.1.1,r1.1.1.2.2.2.2.2),()),(r6.2.1,()))
 else
 bif (r3.1.1==3) then
 bnd (yn r3.2.1 ([(-1),0,9,60000]:List Int)) fun r7 =>
 some (((r1.1.1.1,r1.1.1.2.1,r1.1.1.2.2.1,r1.1.1.2.2.2.1,r1.1.1.2.2.2.2.1,r7.1.1,r1.1.1.2.2.2.2.2.2),()),(r7.2.1,()))
 else
 bif (r3.1.1==4) then
 bnd (yn r3.2.1 ([(-1),60000,59990,60001]:List Int)) fun r8 =>
 some (((r1.1.1.1,r1.1.1.2.1,r1.1.1.2.2.1,r1.1.1.2.2.2.1,r1.1.1.2.2.2.2.1,r1.1.1.2.2.2.2.2.1,r1.1.1.2.2.2.2.2.2.1,r8.1.1,r1.1.1.2.2.2.2.2.2.2.2),()),(r8.2.1,()))
 else
 bif (r3.1.1==5) then
 bnd (yb r3.2.1 5) fun r9 =>
 bnd (ydy r9.2.1) fun r10 =>
 bif (zjQ r1.1.1.2.2.2.2.2.2.2.2.1.length ([((IntKind.i64.wrap (r9.1.1 - 1)),r10.1.1)]:List dW).length 32) then
 some (((r1.1.1.1,r1.1.1.2.1,r1.1.1.2.2.1,r1.1.1.2.2.2.1,r1.1.1.2.2.2.2.1,r1.1.1.2.2.2.2.2.1,r1.1.1.2.2.2.2.2.2.1,r1.1.1.2.2.2.2.2.2.2.1,(r1.1.1.2.2.2.2.2.2.2.2.1++([((IntKind.i64.wrap (r9.1.1 - 1)),r10.1.1)]:List dW)),r1.1.1.2.2.2.2.2.2.2.2.2),()),(r10.2.1,()))
 else none
 else
 bif (r3.1.1==6) then
 some (((r1.1.1.1,r1.1.1.2.1,r1.1.1.2.2.1,r1.1.1.2.2.2.1,r1.1.1.2.2.2.2.1,r1.1.1.2.2.2.2.2.1,r1.1.1.2.2.2.2.2.2.1,r1.1.1.2.2.2.2.2.2.2.1,r1.1.1.2.2.2.2.2.2.2.2.1,r1.1.1.2.2.2.2.2.2.2.2.2.1,r1.1.1.2.2.2.2.2.2.2.2.2.2.1,true),()),(r3.2.1,()))
 else
 bif (r3.1.1==7) then
 bnd (yn r3.2.1 ([(-2),0,1,2,5,1001]:List Int)) fun r11 =>
 some (((r1.1.1.1,r1.1.1.2.1,r1.1.1.2.2.1,r1.1.1.2.2.2.1,r1.1.1.2.2.2.2.1,r1.1.1.2.2.2.2.2.1,r1.1.1.2.2.2.2.2.2.1,r1.1.1.2.2.2.2.2.2.2.1,r1.1.1.2.2.2.2.2.2.2.2.1,r11.1.1,r1.1.1.2.2.2.2.2.2.2.2.2.2),()),(r11.2.1,()))
 else
 bif (r3.1.1==8) then
 some (((r1.1.1.1,r1.1.1.2.1,r1.1.1.2.2.1,r1.1.1.2.2.2.1,r1.1.1.2.2.2.2.1,r1.1.1.2.2.2.2.2.1,r1.1.1.2.2.2.2.2.2.1,r1.1.1.2.2.2.2.2.2.2.1,r1.1.1.2.2.2.2.2.2.2.2.1,r1.1.1.2.2.2.2.2.2.2.2.2.1,true,r1.1.1.2.2.2.2.2.2.2.2.2.2.2),()),(r3.2.1,()))
 else
 bif (r3.1.1==9) then
 bif (inb r2.1.1 r1.1.1.2.2.1.length) then
 let r12:=yaN 0
 bnd (ydz r3.2.1) fun r13 =>
 bif (inb r12 ((nth r1.1.1.2.2.1 r2.1.1 ([],[],false,[])).1).length) then
 let r14:=(r1.1.1.2.2.1.set (r2.1.1).toNat ((((nth r1.1.1.2.2.1 r2.1.1 ([],[],false,[])).1).set (r12).toNat r13.1.1),((nth r1.1.1.2.2.1 r2.1.1 ([],[],false,[])).2).1,(((nth r1.1.1.2.2.1 r2.1.1 ([],[],false,[])).2).2).1,(((nth r1.1.1.2.2.1 r2.1.1 ([],[],false,[])).2).2).2))
 some (((r1.1.1.1,r1.1.1.2.1,r14,r1.1.1.2.2.2),()),(r13.2.1,()))
 else none
 else none
 else
 bif (r3.1.1==10) then
 bnd (yiu r3.2.1) fun r15 =>
 some (((r1.1.1.1,r15.1.1,r1.1.1.2.2),()),(r15.2.1,()))
 else
 some ((r1.1.1,()),(r3.2.1,()))
theorem y9E (x:InD ysZ):zjw ⟨yQ3,92,y4I⟩ Tryz.f114.results.toList yQL ysZ yzh x=ybT x.1 x.2.1:=by kernel_rfl
theorem y6y:ConOk Tryz.prog 114 ⟨ysZ,yzh,fun x=>ybT x.1 x.2.1⟩:=zj1 (y2l) Tryz.func114 (by kernel_rfl) (by kernel_rfl) Tryz.ntmps114.symm (by decide) (fun x r h=>(y9E x).trans h)
def yuu:Con:=⟨ysZ,yzh,fun x=>ybT x.1 x.2.1⟩
theorem yEw:ConOk Tryz.prog 114 yuu:=y6y
theorem y7j (u:dU) (most:Int) (h:yA u) (h0:0≤most) (h1:most≤1000): ∃ (a:dA) (u':dU),ybT u most=some ((a,()),(u',()))∧ygR a∧GS a.2.1∧yA u':=by
 unfold ybT
 obtain ⟨a,u1,e1,q1,d1⟩:=y7k u most h h0 h1
 have hg:=yk.1 q1.1.1
 have hG:GS a.2.1:=yacc q1.1.1
 have hl:=q1.2.1.1.2
 have hd:=ys8 q1.1.2.2.1 q1.1.1
 have hA:ygR a:=y9R (yYH (yabE q1)) (by omega)
 have hL: ∀ b:dA,b.2.2.1=a.2.2.1→b.2.2.2.2.2.2.2.2.1=a.2.2.2.2.2.2.2.2.1→ygR b:=fun b e1 e2=>by unfold ygR; rw [e1,e2]; exact hA
 have hS: ∀ (m:dM) (k:Nat),m.1.length≤1000000000→m.2.1.length≤1000000000→ygR (a.1,a.2.1,a.2.2.1.set k m,a.2.2.2):=fun m k g1 g2=>⟨by show (a.2.2.1.set k m).length≤_; rw [List.length_set]; exact hA.1,fun x hx=>by
  rcases List.mem_or_eq_of_mem_set hx with h1 | rfl
  ·exact hA.2.1 x h1
  ·exact ⟨g1,g2⟩,hA.2.2⟩
 obtain ⟨m,u2,e2,q2,d2⟩:=yp u1 (a.2.2.1.length:Int) d1
 obtain ⟨r,u3,e3,_,d3⟩:=yp u2 20 d2
 have hm:inb m a.2.2.1.length=true:=zjC.2 ⟨q2.1,q2.2.1 (by omega)⟩
 simp only [e1,e2,e3,zkc,hm]
 cases (r==0)
 ·cases (r==1)
  ·cases (r==2)
   ·cases (r==3)
    ·cases (r==4)
     ·cases (r==5)
      ·cases (r==6)
       ·cases (r==7)
        ·cases (r==8)
         ·cases (r==9)
          ·cases (r==10)
           ·exact ⟨_,_,rfl,hL _ rfl rfl,hG,d3⟩
           ·obtain ⟨g,u4,e4,hG4,d4⟩:=yabp u3 d3
            simp only [cond_true,cond_false,e4,zkc]
            exact ⟨_,_,rfl,hL _ rfl rfl,hG4,d4⟩
          ·obtain ⟨l,u4,e4,_,d4⟩:=yW3 u3 d3
           have hmi:=zjC.1 hm
           have hs:=(q1.2.1.1.1 m.toNat (by omega)).2.1
           rw [Int.toNat_of_nonneg hmi.1]at hs
           simp only [cond_true,cond_false,e4,zkc,yfO]
           rw [show dataAt 0=6 from rfl,zjC.2 (show (0:Int)≤6∧(6:Int) < ((nth a.2.2.1 m noMem).1.length:Int) by omega)]
           have hnm:=yfH (P:=fun x:dM=>x.1.length≤1000000000∧x.2.1.length≤1000000000) (d:=noMem) hm hA.2.1
           exact ⟨_,_,rfl,hS _ _ (by show ((nth a.2.2.1 m noMem).1.set _ _).length≤_; rw [List.length_set]; exact hnm.1) hnm.2,hG,d4⟩
         ·exact ⟨_,_,rfl,hL _ rfl rfl,hG,d3⟩
        ·obtain ⟨x,u4,e4,_,d4⟩:=yfe u3 [(-2),0,1,2,5,1001] d3 (by simp)
         simp only [cond_true,cond_false,e4,zkc]
         exact ⟨_,_,rfl,hL _ rfl rfl,hG,d4⟩
       ·exact ⟨_,_,rfl,hL _ rfl rfl,hG,d3⟩
      ·obtain ⟨x,u4,e4,_,d4⟩:=yp u3 5 d3
       obtain ⟨l,u5,e5,_,d5⟩:=yW2 u4 d4
       simp only [cond_true,cond_false,e4,zkc,e5]
       rw [zka.2 (show (a.2.2.2.2.2.2.2.2.1.length+ [(IntKind.i64.wrap (x - 1),l)].length) * 32≤140737488355328 by simp only [List.length_cons,List.length_nil]; omega)]
       exact ⟨_,_,rfl,⟨hA.1,hA.2.1,by show (a.2.2.2.2.2.2.2.2.1++ [(IntKind.i64.wrap (x - 1),l)]).length≤1000000000; rw [List.length_append]; simp only [List.length_cons,List.length_nil]; omega⟩,hG,d5⟩
     ·obtain ⟨x,u4,e4,_,d4⟩:=yfe u3 [(-1),60000,59990,60001] d3 (by simp)
      simp only [cond_true,cond_false,e4,zkc]
      exact ⟨_,_,rfl,hL _ rfl rfl,hG,d4⟩
    ·obtain ⟨x,u4,e4,_,d4⟩:=yfe u3 [(-1),0,9,60000] d3 (by simp)
     simp only [cond_true,cond_false,e4,zkc]
     exact ⟨_,_,rfl,hL _ rfl rfl,hG,d4⟩
   ·obtain ⟨x,u4,e4,_,d4⟩:=yfe u3 [(-1),1,9] d3 (by simp)
    simp only [cond_true,cond_false,e4,zkc]
    exact ⟨_,_,rfl,hL _ rfl rfl,hG,d4⟩
  ·obtain ⟨x,u4,e4,_,d4⟩:=yfe u3 [(-2),(-1),0,5] d3 (by simp)
   simp only [cond_true,cond_false,e4,zkc]
   exact ⟨_,_,rfl,hL _ rfl rfl,hG,d4⟩
 ·obtain ⟨x,u4,e4,q4,d4⟩:=y9i u3 d3
  simp only [cond_true,e4,zkc]
  exact ⟨_,_,rfl,hS _ _ (by omega) (by omega),hG,d4⟩
theorem y9j (u:dU) (most:Int) (h:yA u) (h0:0≤most) (h1:most≤1000): ∃ (a:dA) (u':dU),ybT u most=some ((a,()),(u',()))∧ygR a∧yA u':=by
 obtain ⟨a,u',e,q,_,d⟩:=y7j u most h h0 h1
 exact ⟨a,u',e,q,d⟩
end
section
def yJf:Code:=(Tryz.f155.body).getD .skip
def yJ0:Env:=zj2 TT [(94,yds),(96,ycp),(97,yzD),(114,yuu)] []
theorem yRW:FrOk Tryz.prog ⟨yJ0,14,fun _=>none⟩ yJf:=zj6 yc yd ⟨yhb,yfJ,yNi,yEw,trivial⟩
def yTB:Nat→Option Seg:=fun _=>none
abbrev ykm:List Par:= [.kp tYs .fz]
abbrev yrx:List OT:= [⟨false,tA,(.pr .fz (.pr (.pr .fz .fz) (.pr (.ow (.pr (.ow .fz) (.pr (.ow (.pr .fz .fz)) (.pr .fz (.ow .fz))))) (.pr .fz (.pr .fz (.pr .fz (.pr .fz (.pr .fz (.pr (.ow (.pr .fz .fz)) (.pr .fz (.pr .fz .fz)))))))))))⟩]
def yet (a0:List Int):Option (ResD yrx×MutD ykm) :=
 let r1:=yaO a0
 let r2:=yaq a0 12
 bnd (ybT r1 r2) fun r3 =>
 bnd (yeo r3.2.1 r3.1.1) fun r4 =>
 some ((r4.1.1,()),())
theorem y1t (x:InD ykm):zjw ⟨yJ0,14,yTB⟩ Tryz.f155.results.toList yJf ykm yrx x=yet x.1:=by kernel_rfl
theorem yVE:ConOk Tryz.prog 155 ⟨ykm,yrx,fun x=>yet x.1⟩:=zj1 (yRW) Tryz.func155 (by kernel_rfl) (by kernel_rfl) Tryz.ntmps155.symm (by decide) (fun x r h=>(y1t x).trans h)
def yFA:Con:=⟨ykm,yrx,fun x=>yet x.1⟩
theorem yZP:ConOk Tryz.prog 155 yFA:=yVE
theorem yaai (a0:List Int) (hb:a0.length≤140737488355328): ∃ a:dA,yet a0=some ((a,()),())∧ygR a:=by
 unfold yet
 obtain ⟨h1,h2⟩:=yB7 a0 12 (by omega) hb
 obtain ⟨a,u1,e1,q1,d1⟩:=y9j _ _ (yHH a0 hb) h1 (by omega)
 obtain ⟨a',u2,e2,q2,d2⟩:=yaaH u1 a d1 q1
 simp only [e1,e2,zkc]
 exact ⟨a',rfl,q2⟩
end
section
def yEG:Code:=(Tryz.f62.body).getD .skip
def yE8:Env:=zj2 TT [(58,ymh),(94,yds),(96,ycp),(97,yzD),(110,ylo),(149,yrY),(155,yFA)] []
theorem yNE:FrOk Tryz.prog ⟨yE8,23,fun _=>none⟩ yEG:=zj6 yc yd ⟨yxK,yhb,yfJ,yNi,yuC,yCg,yZP,trivial⟩
def yPz:Nat→Option Seg:=fun _=>none
abbrev yhh:List Par:= [.kp tYs .fz]
abbrev yl2:List OT:= [⟨false,tA,(.pr .fz (.pr (.pr .fz .fz) (.pr (.ow (.pr (.ow .fz) (.pr (.ow (.pr .fz .fz)) (.pr .fz (.ow .fz))))) (.pr .fz (.pr .fz (.pr .fz (.pr .fz (.pr .fz (.pr (.ow (.pr .fz .fz)) (.pr .fz (.pr .fz .fz)))))))))))⟩]
def ycv (a0:List Int):Option (ResD yl2×MutD yhh) :=
 let r1:=yaO a0
 bnd (yZ r1 8) fun r2 =>
 bif r2.1.1 then
 bnd (yet a0) fun r3 =>
 some ((r3.1.1,()),())
 else
 let r4:=yaq a0 12
 bnd (yct r2.2.1 r4) fun r5 =>
 let r6:=ybc r5.1.1 1
 bnd (yeo r5.2.1 r6.1) fun r7 =>
 some ((r7.1.1,()),())
theorem yT5 (x:InD yhh):zjw ⟨yE8,23,yPz⟩ Tryz.f62.results.toList yEG yhh yl2 x=ycv x.1:=by kernel_rfl
theorem yQk:ConOk Tryz.prog 62 ⟨yhh,yl2,fun x=>ycv x.1⟩:=zj1 (yNE) Tryz.func62 (by kernel_rfl) (by kernel_rfl) Tryz.ntmps62.symm (by decide) (fun x r h=>(yT5 x).trans h)
def yA5:Con:=⟨yhh,yl2,fun x=>ycv x.1⟩
theorem ySZ:ConOk Tryz.prog 62 yA5:=yQk
theorem y7K (a0:List Int) (hb:a0.length≤140737488355328): ∃ a:dA,ycv a0=some ((a,()),())∧ygR a:=by
 unfold ycv
 obtain ⟨h1,h2⟩:=yB7 a0 12 (by omega) hb
 obtain ⟨r,u1,e1,d1⟩:=yMP _ 8 (yHH a0 hb)
 obtain ⟨b,e2,q2⟩:=yaai a0 hb
 simp only [e1,zkc]
 cases r
 ·obtain ⟨l,u2,e3,q3,d3⟩:=yRn u1 _ d1 h1 (by omega)
  obtain ⟨a',u3,e4,q4,d4⟩:=yaaH u2 (ycm l 1).1 d3 (y5D 1 q3)
  simp only [cond_false,e3,zkc,ybc,e4]
  exact ⟨a',rfl,q4⟩
 ·simp only [cond_true,e2,zkc]
  exact ⟨b,rfl,q2⟩
end
section
def yCH:Code:=(Tryz.f63.body).getD .skip
def yCU:Env:=zj2 TT [(94,yds),(96,ycp),(114,yuu),(124,yae)] []
theorem yMU:FrOk Tryz.prog ⟨yCU,14,fun _=>none⟩ yCH:=zj6 yc yd ⟨yhb,yfJ,yEw,yaQ,trivial⟩
def yNq:Nat→Option Seg:=fun _=>none
abbrev yfZ:List Par:= [.kp tYs .fz]
abbrev ykY:List OT:= [⟨false,tA,(.pr .fz (.pr (.pr .fz .fz) (.pr (.ow (.pr (.ow .fz) (.pr (.ow (.pr .fz .fz)) (.pr .fz (.ow .fz))))) (.pr .fz (.pr .fz (.pr .fz (.pr .fz (.pr .fz (.pr (.ow (.pr .fz .fz)) (.pr .fz (.pr .fz .fz)))))))))))⟩,⟨false,tI,.fz⟩]
def ybR (a0:List Int):Option (ResD ykY×MutD yfZ) :=
 let r1:=yaO a0
 let r2:=yaq a0 12
 bnd (ybT r1 r2) fun r3 =>
 bnd (yn r3.2.1 ([0,1,2,3,5,(-1)]:List Int)) fun r4 =>
 some ((r3.1.1,r4.1.1,()),())
theorem yRq (x:InD yfZ):zjw ⟨yCU,14,yNq⟩ Tryz.f63.results.toList yCH yfZ ykY x=ybR x.1:=by kernel_rfl
theorem yN1:ConOk Tryz.prog 63 ⟨yfZ,ykY,fun x=>ybR x.1⟩:=zj1 (yMU) Tryz.func63 (by kernel_rfl) (by kernel_rfl) Tryz.ntmps63.symm (by decide) (fun x r h=>(yRq x).trans h)
def yzs:Con:=⟨yfZ,ykY,fun x=>ybR x.1⟩
theorem yQo:ConOk Tryz.prog 63 yzs:=yN1
theorem y4S (a0:List Int) (hb:a0.length≤140737488355328): ∃ (a:dA) (q:Int),ybR a0=some ((a,q,()),())∧GS a.2.1:=by
 unfold ybR
 obtain ⟨h1,h2⟩:=yB7 a0 12 (by omega) hb
 obtain ⟨a,u1,e1,_,q1,d1⟩:=y7j _ _ (yHH a0 hb) h1 (by omega)
 obtain ⟨x,u2,e2,_,d2⟩:=yfe u1 [0,1,2,3,5,(-1)] d1 (by simp)
 simp only [e1,e2,zkc]
 exact ⟨a,x,rfl,q1⟩
end
section
def yJe:Code:=(Tryz.f66.body).getD .skip
def yJZ:Env:=zj2 TT [(94,yds),(96,ycp),(124,yae),(154,yxr),(162,yvk)] []
theorem yRV:FrOk Tryz.prog ⟨yJZ,20,fun _=>none⟩ yJe:=zj6 yc yd ⟨yhb,yfJ,yaQ,yLd,yIC,trivial⟩
def yTA:Nat→Option Seg:=fun _=>none
abbrev ykl:List Par:= [.kp tYs .fz]
abbrev yrw:List OT:= [⟨false,tMs,(.ow (.pr (.ow .fz) (.pr (.ow (.pr .fz .fz)) (.pr .fz (.ow .fz)))))⟩,⟨false,tL,(.ow .fz)⟩]
def yes (a0:List Int):Option (ResD yrw×MutD ykl) :=
 let r1:=yaO a0
 bnd (ydf r1) fun r2 =>
 let r3:=yaq a0 12
 bnd (ycn r2.2.1 r3) fun r4 =>
 bnd (yn r4.2.1 ([5,5,2,0]:List Int)) fun r5 =>
 bif (zjv 0 r5.1.1 r2.1.1.length) then
 some ((r4.1.1.2.2.1,((r2.1.1.drop (0:Int).toNat).take (r5.1.1 - 0).toNat),()),())
 else none
theorem y1s (x:InD ykl):zjw ⟨yJZ,20,yTA⟩ Tryz.f66.results.toList yJe ykl yrw x=yes x.1:=by kernel_rfl
theorem yVD:ConOk Tryz.prog 66 ⟨ykl,yrw,fun x=>yes x.1⟩:=zj1 (yRV) Tryz.func66 (by kernel_rfl) (by kernel_rfl) Tryz.ntmps66.symm (by decide) (fun x r h=>(y1s x).trans h)
def yFz:Con:=⟨ykl,yrw,fun x=>yes x.1⟩
theorem yZO:ConOk Tryz.prog 66 yFz:=yVD
theorem yaah (a0:List Int) (hb:a0.length≤140737488355328): ∃ (l:List dM) (ks:List Int),yes a0=some ((l,ks,()),())∧l.length≤5∧yan l:=by
 unfold yes
 obtain ⟨h1,h2⟩:=yB7 a0 12 (by omega) hb
 obtain ⟨ks,u1,e1,q1,d1⟩:=y1b _ (yHH a0 hb)
 obtain ⟨a,u2,e2,q2,_,d2⟩:=yWo u1 _ d1 h1 (by omega)
 obtain ⟨x,u3,e3,q3,d3⟩:=yfe u2 [5,5,2,0] d2 (by simp)
 simp only [List.mem_cons,List.not_mem_nil,or_false]at q3
 simp only [e1,e2,e3,zkc]
 rw [zj5.2 (show (0:Int)≤0∧0≤x∧x≤(ks.length:Int) by omega)]
 exact ⟨_,_,rfl,q2.1.1,q2.1.2.1⟩
end
section
def yAP:Code:=(Tryz.f67.body).getD .skip
def yAT:Env:=zj2 TT [(94,yds),(96,ycp),(114,yuu)] []
theorem yLt:FrOk Tryz.prog ⟨yAT,10,fun _=>none⟩ yAP:=zj6 yc yd ⟨yhb,yfJ,yEw,trivial⟩
def yL1:Nat→Option Seg:=fun _=>none
abbrev yeV:List Par:= [.kp tYs .fz]
abbrev yjp:List OT:= [⟨false,tA,(.pr .fz (.pr (.pr .fz .fz) (.pr (.ow (.pr (.ow .fz) (.pr (.ow (.pr .fz .fz)) (.pr .fz (.ow .fz))))) (.pr .fz (.pr .fz (.pr .fz (.pr .fz (.pr .fz (.pr (.ow (.pr .fz .fz)) (.pr .fz (.pr .fz .fz)))))))))))⟩]
def ybh (a0:List Int):Option (ResD yjp×MutD yeV) :=
 let r1:=yaO a0
 let r2:=yaq a0 8
 bnd (ybT r1 r2) fun r3 =>
 some ((r3.1.1,()),())
theorem yPL (x:InD yeV):zjw ⟨yAT,10,yL1⟩ Tryz.f67.results.toList yAP yeV yjp x=ybh x.1:=by kernel_rfl
theorem yM5:ConOk Tryz.prog 67 ⟨yeV,yjp,fun x=>ybh x.1⟩:=zj1 (yLt) Tryz.func67 (by kernel_rfl) (by kernel_rfl) Tryz.ntmps67.symm (by decide) (fun x r h=>(yPL x).trans h)
def yyf:Con:=⟨yeV,yjp,fun x=>ybh x.1⟩
theorem yN5:ConOk Tryz.prog 67 yyf:=yM5
theorem y1a (a0:List Int) (hb:a0.length≤140737488355328): ∃ a:dA,ybh a0=some ((a,()),())∧ygR a:=by
 unfold ybh
 obtain ⟨h1,h2⟩:=yB7 a0 8 (by omega) hb
 obtain ⟨a,u1,e1,q1,d1⟩:=y9j _ _ (yHH a0 hb) h1 (by omega)
 simp only [e1,zkc]
 exact ⟨a,rfl,q1⟩
end
end
end Go.Tf
