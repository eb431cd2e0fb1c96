/- Functions of the program, and what they come to. -/
import Derived.Test.YtgmadfpnljibhaaGreatBuiltBentF17
namespace Go.Tf
noncomputable section
open Go.Proofs
set_option synthInstance.maxHeartbeats 400000
set_option synthInstance.maxSize 10000
set_option linter.unusedVariables false
set_option linter.unusedSimpArgs false
set_option maxRecDepth 100000
section
def yHh:Code:=(Tryz.f102.body).getD .skip
def yHK:Env:=zki TT [] []
theorem yOB:FrOk Tryz.prog ⟨yHK,4,fun _=>none⟩ yHh:=zkp yc yd trivial
def yQ8:Nat→Option Seg:=fun _=>none
abbrev ymv:List Par:= [.rd tB]
abbrev yse:List OT:= [⟨false,tI,.fz⟩]
def yvF (a0:Bool):Option (ResD yse×MutD ymv) :=
  bif a0 then
    some ((0,()),())
  else
    some ((6,()),())
theorem yXB (x:InD ymv):zjH ⟨yHK,4,yQ8⟩ Tryz.f102.results.toList yHh ymv yse x=yvF x.1:=by kernel_rfl
theorem yTA:ConOk Tryz.prog 102 ⟨ymv,yse,fun x=>yvF x.1⟩:=zkh (yOB) Tryz.func102 (by kernel_rfl) (by kernel_rfl) Tryz.ntmps102.symm (by decide) (fun x r h=>(yXB x).trans h)
def yfD (a0:Bool):Int :=
  bif a0 then
    0
  else
    6
def yu7:Con:=⟨ymv,yse,fun x=>(fun n=>some ((n,()),())) (yfD x.1)⟩
theorem yVD (a0:Bool):yvF a0=(fun n=>some ((n,()),())) (yfD a0):=zkS (p:=fun (n:Int)=>((n,()),())) (zkx (p:=fun (n:Int)=>((n,()),())) rfl rfl)
theorem yGp:ConOk Tryz.prog 102 yu7:=(yTA).mono (fun x r _ h=>(yVD x.1).trans h)
end
section
def yI6:Code:=(Tryz.f14.body).getD .skip
def yJv:Env:=zki TT [(45,yk5),(98,ylQ),(99,yEa),(100,ys4),(101,yjY),(102,yu7)] []
theorem ySm:FrOk Tryz.prog ⟨yJv,55,fun _=>none⟩ yI6:=zkp yc yd ⟨ysL,yvy,yWB,yEA,yts,yGp,trivial⟩
def yUL:Nat→Option Seg:=fun _=>none
abbrev ykx:List Par:= [.rd tA]
abbrev yuG:List OT:= [⟨false,tA,(.pr .fz (.pr (.pr .fz .fz) (.pr (.ow (.pr (.ow (.ow .fz)) (.pr (.ow (.pr .fz (.ow .fz))) (.pr .fz (.ow .fz))))) (.pr .fz (.pr .fz (.pr .fz (.pr .fz (.pr .fz (.pr (.ow (.pr .fz (.ow .fz))) (.pr .fz (.pr .fz .fz)))))))))))⟩,⟨false,tI,.fz⟩]
def yqM (a0:dA):Option (ResD yuG×MutD ykx) :=
  let r1:=ybl a0
  let r2:=ybg a0
  bif (!r2) then
    some ((r1,1,()),())
  else
    bif a0.2.2.2.2.2.2.2.2.2.2.1 then
      some ((r1,6,()),())
    else
      bif (!(a0.2.2.2.1==(-1))) then
        bif (inb a0.2.2.2.1 a0.2.2.1.length) then
          bif (!((((nth a0.2.2.1 a0.2.2.2.1 ([],[],false,[])).2).2).1)) then
            some ((r1,2,()),())
          else
            bif a0.2.2.2.2.2.2.2.2.2.2.2 then
              some ((r1,5,()),())
            else
              bif (leb 59990 a0.2.2.2.2.2.2.2.1) then
                some ((r1,7,()),())
              else
                let r3:=ygC a0.2.1
                let r4:=ymY r3
                bif (inb a0.2.2.2.1 r1.2.2.1.length) then
                  bnd (yad (r1.1,r1.2.1,(r1.2.2.1.set (a0.2.2.2.1).toNat r4),r1.2.2.2.1,0,r1.2.2.2.2.2)) fun r5 =>
                  let r6:=yfD r5.1.1
                  some ((r5.2.1,r6,()),())
                else none
        else none
      else
        some ((r1,2,()),())
theorem yY8 (x:InD ykx):zjH ⟨yJv,55,yUL⟩ Tryz.f14.results.toList yI6 ykx yuG x=yqM x.1:=by kernel_rfl
theorem yV9:ConOk Tryz.prog 14 ⟨ykx,yuG,fun x=>yqM x.1⟩:=zkh (ySm) Tryz.func14 (by kernel_rfl) (by kernel_rfl) Tryz.ntmps14.symm (by decide) (fun x r h=>(yY8 x).trans h)
def yhy (a0:dA):dA×Int:=yL a0
theorem yYh (a0:dA) (hk:zi9 ykx (a0,())):yqM a0=(fun n=>some ((n.1,n.2,()),())) (yhy a0):=by
  unfold yqM yhy yL
  simp only [ybl,ybg]
  cases ha:ym a0
  · rfl
  have hg:=yk.1 (ybI ha)
  cases hd:yg a0
  · rw [show a0.2.2.2.2.2.2.2.2.2.2.1=false from hd]
    cases hl:(a0.2.2.2.1== -1)
    · have hi:=ywY ha (beq_eq_false_iff_ne.1 hl)
      have hm:yad (yx a0)=some ((!(yg (yy (yx a0))),()),(yy (yx a0),())):=ytu (yx a0) (by unfold ydo; rw [show yg (yx a0)=yg a0 from rfl,hd]; rfl)
      simp only [ygC,wr (show -9223372036854775808≤6+a0.2.1.2 by omega) (by omega),hi,ymY]
      rw [show yad (a0.1,a0.2.1,a0.2.2.1.set a0.2.2.2.1.toNat (ybZ (6+a0.2.1.2)),a0.2.2.2.1,0,a0.2.2.2.2.2)=_ from hm]
      simp only [zky,yfD]
      cases (nth a0.2.2.1 a0.2.2.2.1 ye).2.2.1<;>cases a0.2.2.2.2.2.2.2.2.2.2.2<;>cases leb 59990 a0.2.2.2.2.2.2.2.1<;>first | rfl | (cases yg (yy (yx a0))<;>rfl)
    · rfl
  · rw [show a0.2.2.2.2.2.2.2.2.2.2.1=true from hd]; rfl
def ywQ:Con:=⟨ykx,yuG,fun x=>(fun n=>some ((n.1,n.2,()),())) (yhy x.1)⟩
theorem yH9:ConOk Tryz.prog 14 ywQ:=(yV9).mono (fun x r hk h=>(yYh x.1 hk).trans h)
end
section
def ydP:Code:=(Tryz.f103.body).getD .skip
def yhU:Env:=zki TT [(152,yfp)] [(8192,(.pr (.ow .fz) (.pr (.ow (.pr .fz .fz)) (.pr .fz (.ow .fz))))),(25088,(.pr (.ow .fz) (.pr (.ow (.pr .fz .fz)) (.pr .fz (.ow .fz))))),(28672,(.pr .fz .fz)),(46144,(.pr .fz .fz))]
theorem yO2:FrOk Tryz.prog ⟨yhU,57,fun _=>none⟩ ydP:=zkp yc yd ⟨yln,trivial⟩
def yDs:Nat→Option Seg:=fun _=>none
def ycf:Shape:=⟨[(1,false,[.ptr 0 0]),(2,false,[.ptr 64 0]),(3,false,[.ptr 4160 0]),(4,false,[.int .i64])],[(0,[.int .i64,.int .i64,.int .i64,.br tM,.int .i64,.int .i64,.int .i64,.int .i64,.int .i64,.br tW,.int .i64,.bool,.bool]),(64,[.int .i64,.int .i64,.int .i64,.nil,.int .i64,.int .i64,.int .i64,.int .i64,.int .i64,.nil,.int .i64,.bool,.bool]),(4160,[.int .i64,.int .i64,.int .i64,.at 800000000,.int .i64,.int .i64,.int .i64,.int .i64,.int .i64,.br tW,.int .i64,.bool,.bool])],[(800000000,tM,(.pr (.ow .fz) (.pr (.ow (.pr .fz .fz)) (.pr .fz (.ow .fz)))))]⟩
def yhh:Shape:=⟨[(1,false,[.ptr 0 0]),(2,false,[.ptr 64 0]),(3,false,[.ptr 4160 0]),(4,false,[.ci .i64 0])],[(0,[.int .i64,.int .i64,.int .i64,.br tM,.int .i64,.int .i64,.int .i64,.int .i64,.int .i64,.br tW,.int .i64,.bool,.bool]),(64,[.int .i64,.int .i64,.int .i64,.nil,.int .i64,.int .i64,.int .i64,.int .i64,.int .i64,.nil,.int .i64,.bool,.bool]),(4160,[.int .i64,.int .i64,.int .i64,.at 800000000,.int .i64,.int .i64,.int .i64,.int .i64,.int .i64,.br tW,.int .i64,.bool,.bool])],[(800000000,tM,(.pr (.ow .fz) (.pr (.ow (.pr .fz .fz)) (.pr .fz (.ow .fz)))))]⟩
def yg5:Shape:=⟨[(1,false,[.ptr 0 0]),(2,false,[.ptr 64 0]),(3,false,[.ptr 4160 0])],[(0,[.int .i64,.int .i64,.int .i64,.br tM,.int .i64,.int .i64,.int .i64,.int .i64,.int .i64,.br tW,.int .i64,.bool,.bool]),(64,[.int .i64,.int .i64,.int .i64,.nil,.int .i64,.int .i64,.int .i64,.int .i64,.int .i64,.nil,.int .i64,.bool,.bool]),(4160,[.int .i64,.int .i64,.int .i64,.at 800000000,.int .i64,.int .i64,.int .i64,.int .i64,.int .i64,.br tW,.int .i64,.bool,.bool])],[(800000000,tM,(.pr (.ow .fz) (.pr (.ow (.pr .fz .fz)) (.pr .fz (.ow .fz)))))]⟩
def ylL:Shape:=⟨[],[],[]⟩
abbrev yrr (v0:Int) (v1:dA) (v2:dA) (v3:dA):(ycf).X:=((((),()),((),()),((),()),(v0,()),()),((v1.1,v1.2.1.1,v1.2.1.2,v1.2.2.1,v1.2.2.2.1,v1.2.2.2.2.1,v1.2.2.2.2.2.1,v1.2.2.2.2.2.2.1,v1.2.2.2.2.2.2.2.1,v1.2.2.2.2.2.2.2.2.1,v1.2.2.2.2.2.2.2.2.2.1,v1.2.2.2.2.2.2.2.2.2.2.1,v1.2.2.2.2.2.2.2.2.2.2.2,()),(v2.1,v2.2.1.1,v2.2.1.2,(),v2.2.2.2.1,v2.2.2.2.2.1,v2.2.2.2.2.2.1,v2.2.2.2.2.2.2.1,v2.2.2.2.2.2.2.2.1,(),v2.2.2.2.2.2.2.2.2.2.1,v2.2.2.2.2.2.2.2.2.2.2.1,v2.2.2.2.2.2.2.2.2.2.2.2,()),(v3.1,v3.2.1.1,v3.2.1.2,(),v3.2.2.2.1,v3.2.2.2.2.1,v3.2.2.2.2.2.1,v3.2.2.2.2.2.2.1,v3.2.2.2.2.2.2.2.1,v3.2.2.2.2.2.2.2.2.1,v3.2.2.2.2.2.2.2.2.2.1,v3.2.2.2.2.2.2.2.2.2.2.1,v3.2.2.2.2.2.2.2.2.2.2.2,()),()),(v3.2.2.1,()))
abbrev yMP (v0:dA) (v1:dA) (v2:dA):(yhh).X:=((((),()),((),()),((),()),((),()),()),((v0.1,v0.2.1.1,v0.2.1.2,v0.2.2.1,v0.2.2.2.1,v0.2.2.2.2.1,v0.2.2.2.2.2.1,v0.2.2.2.2.2.2.1,v0.2.2.2.2.2.2.2.1,v0.2.2.2.2.2.2.2.2.1,v0.2.2.2.2.2.2.2.2.2.1,v0.2.2.2.2.2.2.2.2.2.2.1,v0.2.2.2.2.2.2.2.2.2.2.2,()),(v1.1,v1.2.1.1,v1.2.1.2,(),v1.2.2.2.1,v1.2.2.2.2.1,v1.2.2.2.2.2.1,v1.2.2.2.2.2.2.1,v1.2.2.2.2.2.2.2.1,(),v1.2.2.2.2.2.2.2.2.2.1,v1.2.2.2.2.2.2.2.2.2.2.1,v1.2.2.2.2.2.2.2.2.2.2.2,()),(v2.1,v2.2.1.1,v2.2.1.2,(),v2.2.2.2.1,v2.2.2.2.2.1,v2.2.2.2.2.2.1,v2.2.2.2.2.2.2.1,v2.2.2.2.2.2.2.2.1,v2.2.2.2.2.2.2.2.2.1,v2.2.2.2.2.2.2.2.2.2.1,v2.2.2.2.2.2.2.2.2.2.2.1,v2.2.2.2.2.2.2.2.2.2.2.2,()),()),(v2.2.2.1,()))
abbrev yMF (v0:dA) (v1:dA) (v2:dA):(yg5).X:=((((),()),((),()),((),()),()),((v0.1,v0.2.1.1,v0.2.1.2,v0.2.2.1,v0.2.2.2.1,v0.2.2.2.2.1,v0.2.2.2.2.2.1,v0.2.2.2.2.2.2.1,v0.2.2.2.2.2.2.2.1,v0.2.2.2.2.2.2.2.2.1,v0.2.2.2.2.2.2.2.2.2.1,v0.2.2.2.2.2.2.2.2.2.2.1,v0.2.2.2.2.2.2.2.2.2.2.2,()),(v1.1,v1.2.1.1,v1.2.1.2,(),v1.2.2.2.1,v1.2.2.2.2.1,v1.2.2.2.2.2.1,v1.2.2.2.2.2.2.1,v1.2.2.2.2.2.2.2.1,(),v1.2.2.2.2.2.2.2.2.2.1,v1.2.2.2.2.2.2.2.2.2.2.1,v1.2.2.2.2.2.2.2.2.2.2.2,()),(v2.1,v2.2.1.1,v2.2.1.2,(),v2.2.2.2.1,v2.2.2.2.2.1,v2.2.2.2.2.2.1,v2.2.2.2.2.2.2.1,v2.2.2.2.2.2.2.2.1,v2.2.2.2.2.2.2.2.2.1,v2.2.2.2.2.2.2.2.2.2.1,v2.2.2.2.2.2.2.2.2.2.2.1,v2.2.2.2.2.2.2.2.2.2.2.2,()),()),(v2.2.2.1,()))
def yrI (v0:Int) (v1:Int) (v2:Int) (v3:Int) (v4:List dM) (v5:Int) (v6:Int) (v7:Int) (v8:Int) (v9:Int) (v10:List dW) (v11:Int) (v12:Bool) (v13:Bool) (v14:Int) (v15:Int) (v16:Int) (v17:Int) (v18:Int) (v19:Int) (v20:Int) (v21:Int) (v22:Int) (v23:Bool) (v24:Bool) (v25:Int) (v26:Int) (v27:Int) (v28:Int) (v29:Int) (v30:Int) (v31:Int) (v32:Int) (v33:List dW) (v34:Int) (v35:Bool) (v36:Bool) (v37:List dM):Option ((ycf).X ⊕ ((yg5).X ⊕ (ylL).X)) :=
  bif (ltb v0 (v4.length:Int)) then
    bif (inb v0 v4.length) then
      let r2:=yS ((nth v4 v0 ([],[],false,[])).1,((nth v4 v0 ([],[],false,[])).2).1,(((nth v4 v0 ([],[],false,[])).2).2))
      bif (zj4 v37.length ([r2]:List dM).length 80) then
        some (.inl ((((),()),((),()),((),()),((IntKind.i64.wrap (v0+1)),()),()),((v1,v2,v3,v4,v5,v6,v7,v8,v9,v10,v11,v12,v13,()),(v14,v15,v16,(),v17,v18,v19,v20,v21,(),v22,v23,v24,()),(v25,v26,v27,(),v28,v29,v30,v31,v32,v33,v34,v35,v36,()),()),((v37++([r2]:List dM)),())))
      else none
    else none
  else
    some (.inr (.inl ((((),()),((),()),((),()),()),((v1,v2,v3,v4,v5,v6,v7,v8,v9,v10,v11,v12,v13,()),(v14,v15,v16,(),v17,v18,v19,v20,v21,(),v22,v23,v24,()),(v25,v26,v27,(),v28,v29,v30,v31,v32,v33,v34,v35,v36,()),()),(v37,()))))
def ycR (x:(ycf).X):=yrI x.1.2.2.2.1.1 x.2.1.1.1 x.2.1.1.2.1 x.2.1.1.2.2.1 x.2.1.1.2.2.2.1 x.2.1.1.2.2.2.2.1 x.2.1.1.2.2.2.2.2.1 x.2.1.1.2.2.2.2.2.2.1 x.2.1.1.2.2.2.2.2.2.2.1 x.2.1.1.2.2.2.2.2.2.2.2.1 x.2.1.1.2.2.2.2.2.2.2.2.2.1 x.2.1.1.2.2.2.2.2.2.2.2.2.2.1 x.2.1.1.2.2.2.2.2.2.2.2.2.2.2.1 x.2.1.1.2.2.2.2.2.2.2.2.2.2.2.2.1 x.2.1.2.1.1 x.2.1.2.1.2.1 x.2.1.2.1.2.2.1 x.2.1.2.1.2.2.2.2.1 x.2.1.2.1.2.2.2.2.2.1 x.2.1.2.1.2.2.2.2.2.2.1 x.2.1.2.1.2.2.2.2.2.2.2.1 x.2.1.2.1.2.2.2.2.2.2.2.2.1 x.2.1.2.1.2.2.2.2.2.2.2.2.2.2.1 x.2.1.2.1.2.2.2.2.2.2.2.2.2.2.2.1 x.2.1.2.1.2.2.2.2.2.2.2.2.2.2.2.2.1 x.2.1.2.2.1.1 x.2.1.2.2.1.2.1 x.2.1.2.2.1.2.2.1 x.2.1.2.2.1.2.2.2.2.1 x.2.1.2.2.1.2.2.2.2.2.1 x.2.1.2.2.1.2.2.2.2.2.2.1 x.2.1.2.2.1.2.2.2.2.2.2.2.1 x.2.1.2.2.1.2.2.2.2.2.2.2.2.1 x.2.1.2.2.1.2.2.2.2.2.2.2.2.2.1 x.2.1.2.2.1.2.2.2.2.2.2.2.2.2.2.1 x.2.1.2.2.1.2.2.2.2.2.2.2.2.2.2.2.1 x.2.1.2.2.1.2.2.2.2.2.2.2.2.2.2.2.2.1 x.2.2.1
def yzY (x:(yhh).X):(ycf).X:=((((),()),((),()),((),()),(0,()),()),((x.2.1.1.1,x.2.1.1.2.1,x.2.1.1.2.2.1,x.2.1.1.2.2.2.1,x.2.1.1.2.2.2.2.1,x.2.1.1.2.2.2.2.2.1,x.2.1.1.2.2.2.2.2.2.1,x.2.1.1.2.2.2.2.2.2.2.1,x.2.1.1.2.2.2.2.2.2.2.2.1,x.2.1.1.2.2.2.2.2.2.2.2.2.1,x.2.1.1.2.2.2.2.2.2.2.2.2.2.1,x.2.1.1.2.2.2.2.2.2.2.2.2.2.2.1,x.2.1.1.2.2.2.2.2.2.2.2.2.2.2.2.1,()),(x.2.1.2.1.1,x.2.1.2.1.2.1,x.2.1.2.1.2.2.1,(),x.2.1.2.1.2.2.2.2.1,x.2.1.2.1.2.2.2.2.2.1,x.2.1.2.1.2.2.2.2.2.2.1,x.2.1.2.1.2.2.2.2.2.2.2.1,x.2.1.2.1.2.2.2.2.2.2.2.2.1,(),x.2.1.2.1.2.2.2.2.2.2.2.2.2.2.1,x.2.1.2.1.2.2.2.2.2.2.2.2.2.2.2.1,x.2.1.2.1.2.2.2.2.2.2.2.2.2.2.2.2.1,()),(x.2.1.2.2.1.1,x.2.1.2.2.1.2.1,x.2.1.2.2.1.2.2.1,(),x.2.1.2.2.1.2.2.2.2.1,x.2.1.2.2.1.2.2.2.2.2.1,x.2.1.2.2.1.2.2.2.2.2.2.1,x.2.1.2.2.1.2.2.2.2.2.2.2.1,x.2.1.2.2.1.2.2.2.2.2.2.2.2.1,x.2.1.2.2.1.2.2.2.2.2.2.2.2.2.1,x.2.1.2.2.1.2.2.2.2.2.2.2.2.2.2.1,x.2.1.2.2.1.2.2.2.2.2.2.2.2.2.2.2.1,x.2.1.2.2.1.2.2.2.2.2.2.2.2.2.2.2.2.1,()),()),(x.2.2.1,()))
def yBB:Code:=(zdI ydP 64 244).getD .skip
theorem yOb:zdI ydP 64 61=some (.block 0 (.loop yBB)):=by kernel_rfl
theorem yQU (x:(ycf).X):zg7 ⟨yhU,57,yDs⟩ 0 yBB 244 ycf yg5 ylL x=ycR x:=by kernel_rfl
def yAa (x:(yhh).X):Nat:=(fun (u0:Int) (u1:Int) (u2:Int) (u3:List dM) (u4:Int) (u5:Int) (u6:Int) (u7:Int) (u8:Int) (u9:List dW) (u10:Int) (u11:Bool) (u12:Bool) (u13:Int) (u14:Int) (u15:Int) (u16:Int) (u17:Int) (u18:Int) (u19:Int) (u20:Int) (u21:Int) (u22:Bool) (u23:Bool) (u24:Int) (u25:Int) (u26:Int) (u27:Int) (u28:Int) (u29:Int) (u30:Int) (u31:Int) (u32:List dW) (u33:Int) (u34:Bool) (u35:Bool) (u36:List dM)=>18446744073709551616) x.2.1.1.1 x.2.1.1.2.1 x.2.1.1.2.2.1 x.2.1.1.2.2.2.1 x.2.1.1.2.2.2.2.1 x.2.1.1.2.2.2.2.2.1 x.2.1.1.2.2.2.2.2.2.1 x.2.1.1.2.2.2.2.2.2.2.1 x.2.1.1.2.2.2.2.2.2.2.2.1 x.2.1.1.2.2.2.2.2.2.2.2.2.1 x.2.1.1.2.2.2.2.2.2.2.2.2.2.1 x.2.1.1.2.2.2.2.2.2.2.2.2.2.2.1 x.2.1.1.2.2.2.2.2.2.2.2.2.2.2.2.1 x.2.1.2.1.1 x.2.1.2.1.2.1 x.2.1.2.1.2.2.1 x.2.1.2.1.2.2.2.2.1 x.2.1.2.1.2.2.2.2.2.1 x.2.1.2.1.2.2.2.2.2.2.1 x.2.1.2.1.2.2.2.2.2.2.2.1 x.2.1.2.1.2.2.2.2.2.2.2.2.1 x.2.1.2.1.2.2.2.2.2.2.2.2.2.2.1 x.2.1.2.1.2.2.2.2.2.2.2.2.2.2.2.1 x.2.1.2.1.2.2.2.2.2.2.2.2.2.2.2.2.1 x.2.1.2.2.1.1 x.2.1.2.2.1.2.1 x.2.1.2.2.1.2.2.1 x.2.1.2.2.1.2.2.2.2.1 x.2.1.2.2.1.2.2.2.2.2.1 x.2.1.2.2.1.2.2.2.2.2.2.1 x.2.1.2.2.1.2.2.2.2.2.2.2.1 x.2.1.2.2.1.2.2.2.2.2.2.2.2.1 x.2.1.2.2.1.2.2.2.2.2.2.2.2.2.1 x.2.1.2.2.1.2.2.2.2.2.2.2.2.2.2.1 x.2.1.2.2.1.2.2.2.2.2.2.2.2.2.2.2.1 x.2.1.2.2.1.2.2.2.2.2.2.2.2.2.2.2.2.1 x.2.2.1
def ys0 (x:(yhh).X):Option ((yg5).X ⊕ (ylL).X):=zr ycR (yAa x) (yzY x)
def yAw:Seg:=⟨yhh,yg5,ylL,ys0⟩
def yt8:Nat→Option Seg:=fun q=>bif Nat.beq q 61 then some yAw else yDs q
theorem yO3:FrOk Tryz.prog ⟨yhU,57,yt8⟩ ydP:=(yO2).loop (sg:=yAw) ycf yzY (by decide) yOb ycR yAa (by decide) (fun _=>rfl) (fun x r _ h=>h) yQU
def ybF:Shape:=⟨[(1,false,[.ptr 0 0]),(2,false,[.ptr 64 0]),(3,false,[.ptr 4160 0]),(5,false,[.int .i64])],[(0,[.int .i64,.int .i64,.int .i64,.br tM,.int .i64,.int .i64,.int .i64,.int .i64,.int .i64,.br tW,.int .i64,.bool,.bool]),(64,[.int .i64,.int .i64,.int .i64,.nil,.int .i64,.int .i64,.int .i64,.int .i64,.int .i64,.nil,.int .i64,.bool,.bool]),(4160,[.int .i64,.int .i64,.int .i64,.at 800000000,.int .i64,.int .i64,.int .i64,.int .i64,.int .i64,.at 800000001,.int .i64,.bool,.bool])],[(800000000,tM,(.pr (.ow .fz) (.pr (.ow (.pr .fz .fz)) (.pr .fz (.ow .fz))))),(800000001,tW,(.pr .fz .fz))]⟩
def yf3:Shape:=⟨[(1,false,[.ptr 0 0]),(2,false,[.ptr 64 0]),(3,false,[.ptr 4160 0]),(5,false,[.ci .i64 0])],[(0,[.int .i64,.int .i64,.int .i64,.br tM,.int .i64,.int .i64,.int .i64,.int .i64,.int .i64,.br tW,.int .i64,.bool,.bool]),(64,[.int .i64,.int .i64,.int .i64,.nil,.int .i64,.int .i64,.int .i64,.int .i64,.int .i64,.nil,.int .i64,.bool,.bool]),(4160,[.int .i64,.int .i64,.int .i64,.at 800000000,.int .i64,.int .i64,.int .i64,.int .i64,.int .i64,.at 800000001,.int .i64,.bool,.bool])],[(800000000,tM,(.pr (.ow .fz) (.pr (.ow (.pr .fz .fz)) (.pr .fz (.ow .fz))))),(800000001,tW,(.pr .fz .fz))]⟩
def yfS:Shape:=⟨[(2,false,[.ptr 64 0]),(3,false,[.ptr 4160 0])],[(64,[.int .i64,.int .i64,.int .i64,.nil,.int .i64,.int .i64,.int .i64,.int .i64,.int .i64,.nil,.int .i64,.bool,.bool]),(4160,[.int .i64,.int .i64,.int .i64,.at 800000000,.int .i64,.int .i64,.int .i64,.int .i64,.int .i64,.at 800000001,.int .i64,.bool,.bool])],[(800000000,tM,(.pr (.ow .fz) (.pr (.ow (.pr .fz .fz)) (.pr .fz (.ow .fz))))),(800000001,tW,(.pr .fz .fz))]⟩
def yjX:Shape:=⟨[],[],[]⟩
abbrev ypJ (v0:Int) (v1:dA) (v2:dA) (v3:dA):(ybF).X:=((((),()),((),()),((),()),(v0,()),()),((v1.1,v1.2.1.1,v1.2.1.2,v1.2.2.1,v1.2.2.2.1,v1.2.2.2.2.1,v1.2.2.2.2.2.1,v1.2.2.2.2.2.2.1,v1.2.2.2.2.2.2.2.1,v1.2.2.2.2.2.2.2.2.1,v1.2.2.2.2.2.2.2.2.2.1,v1.2.2.2.2.2.2.2.2.2.2.1,v1.2.2.2.2.2.2.2.2.2.2.2,()),(v2.1,v2.2.1.1,v2.2.1.2,(),v2.2.2.2.1,v2.2.2.2.2.1,v2.2.2.2.2.2.1,v2.2.2.2.2.2.2.1,v2.2.2.2.2.2.2.2.1,(),v2.2.2.2.2.2.2.2.2.2.1,v2.2.2.2.2.2.2.2.2.2.2.1,v2.2.2.2.2.2.2.2.2.2.2.2,()),(v3.1,v3.2.1.1,v3.2.1.2,(),v3.2.2.2.1,v3.2.2.2.2.1,v3.2.2.2.2.2.1,v3.2.2.2.2.2.2.1,v3.2.2.2.2.2.2.2.1,(),v3.2.2.2.2.2.2.2.2.2.1,v3.2.2.2.2.2.2.2.2.2.2.1,v3.2.2.2.2.2.2.2.2.2.2.2,()),()),(v3.2.2.1,v3.2.2.2.2.2.2.2.2.1,()))
abbrev yKR (v0:dA) (v1:dA) (v2:dA):(yf3).X:=((((),()),((),()),((),()),((),()),()),((v0.1,v0.2.1.1,v0.2.1.2,v0.2.2.1,v0.2.2.2.1,v0.2.2.2.2.1,v0.2.2.2.2.2.1,v0.2.2.2.2.2.2.1,v0.2.2.2.2.2.2.2.1,v0.2.2.2.2.2.2.2.2.1,v0.2.2.2.2.2.2.2.2.2.1,v0.2.2.2.2.2.2.2.2.2.2.1,v0.2.2.2.2.2.2.2.2.2.2.2,()),(v1.1,v1.2.1.1,v1.2.1.2,(),v1.2.2.2.1,v1.2.2.2.2.1,v1.2.2.2.2.2.1,v1.2.2.2.2.2.2.1,v1.2.2.2.2.2.2.2.1,(),v1.2.2.2.2.2.2.2.2.2.1,v1.2.2.2.2.2.2.2.2.2.2.1,v1.2.2.2.2.2.2.2.2.2.2.2,()),(v2.1,v2.2.1.1,v2.2.1.2,(),v2.2.2.2.1,v2.2.2.2.2.1,v2.2.2.2.2.2.1,v2.2.2.2.2.2.2.1,v2.2.2.2.2.2.2.2.1,(),v2.2.2.2.2.2.2.2.2.2.1,v2.2.2.2.2.2.2.2.2.2.2.1,v2.2.2.2.2.2.2.2.2.2.2.2,()),()),(v2.2.2.1,v2.2.2.2.2.2.2.2.2.1,()))
abbrev yKG (v0:dA) (v1:dA):(yfS).X:=((((),()),((),()),()),((v0.1,v0.2.1.1,v0.2.1.2,(),v0.2.2.2.1,v0.2.2.2.2.1,v0.2.2.2.2.2.1,v0.2.2.2.2.2.2.1,v0.2.2.2.2.2.2.2.1,(),v0.2.2.2.2.2.2.2.2.2.1,v0.2.2.2.2.2.2.2.2.2.2.1,v0.2.2.2.2.2.2.2.2.2.2.2,()),(v1.1,v1.2.1.1,v1.2.1.2,(),v1.2.2.2.1,v1.2.2.2.2.1,v1.2.2.2.2.2.1,v1.2.2.2.2.2.2.1,v1.2.2.2.2.2.2.2.1,(),v1.2.2.2.2.2.2.2.2.2.1,v1.2.2.2.2.2.2.2.2.2.2.1,v1.2.2.2.2.2.2.2.2.2.2.2,()),()),(v1.2.2.1,v1.2.2.2.2.2.2.2.2.1,()))
def yp3 (v0:Int) (v1:Int) (v2:Int) (v3:Int) (v4:List dM) (v5:Int) (v6:Int) (v7:Int) (v8:Int) (v9:Int) (v10:List dW) (v11:Int) (v12:Bool) (v13:Bool) (v14:Int) (v15:Int) (v16:Int) (v17:Int) (v18:Int) (v19:Int) (v20:Int) (v21:Int) (v22:Int) (v23:Bool) (v24:Bool) (v25:Int) (v26:Int) (v27:Int) (v28:Int) (v29:Int) (v30:Int) (v31:Int) (v32:Int) (v33:Int) (v34:Bool) (v35:Bool) (v36:List dM) (v37:List dW):Option ((ybF).X ⊕ ((yfS).X ⊕ (yjX).X)) :=
  bif (ltb v0 (v10.length:Int)) then
    bif (inb v0 v10.length) then
      bif (inb v0 v10.length) then
        bif (zj4 ([]:List Int).length ((nth v10 v0 (0,[])).2).length 8) then
          bif (zj4 v37.length ([((nth v10 v0 (0,[])).1,(([]:List Int)++((nth v10 v0 (0,[])).2)))]:List dW).length 32) then
            some (.inl ((((),()),((),()),((),()),((IntKind.i64.wrap (v0+1)),()),()),((v1,v2,v3,v4,v5,v6,v7,v8,v9,v10,v11,v12,v13,()),(v14,v15,v16,(),v17,v18,v19,v20,v21,(),v22,v23,v24,()),(v25,v26,v27,(),v28,v29,v30,v31,v32,(),v33,v34,v35,()),()),(v36,(v37++([((nth v10 v0 (0,[])).1,(([]:List Int)++((nth v10 v0 (0,[])).2)))]:List dW)),())))
          else none
        else none
      else none
    else none
  else
    some (.inr (.inl ((((),()),((),()),()),((v14,v15,v16,(),v17,v18,v19,v20,v21,(),v22,v23,v24,()),(v25,v26,v27,(),v28,v29,v30,v31,v32,(),v33,v34,v35,()),()),(v36,v37,()))))
def ybV (x:(ybF).X):=yp3 x.1.2.2.2.1.1 x.2.1.1.1 x.2.1.1.2.1 x.2.1.1.2.2.1 x.2.1.1.2.2.2.1 x.2.1.1.2.2.2.2.1 x.2.1.1.2.2.2.2.2.1 x.2.1.1.2.2.2.2.2.2.1 x.2.1.1.2.2.2.2.2.2.2.1 x.2.1.1.2.2.2.2.2.2.2.2.1 x.2.1.1.2.2.2.2.2.2.2.2.2.1 x.2.1.1.2.2.2.2.2.2.2.2.2.2.1 x.2.1.1.2.2.2.2.2.2.2.2.2.2.2.1 x.2.1.1.2.2.2.2.2.2.2.2.2.2.2.2.1 x.2.1.2.1.1 x.2.1.2.1.2.1 x.2.1.2.1.2.2.1 x.2.1.2.1.2.2.2.2.1 x.2.1.2.1.2.2.2.2.2.1 x.2.1.2.1.2.2.2.2.2.2.1 x.2.1.2.1.2.2.2.2.2.2.2.1 x.2.1.2.1.2.2.2.2.2.2.2.2.1 x.2.1.2.1.2.2.2.2.2.2.2.2.2.2.1 x.2.1.2.1.2.2.2.2.2.2.2.2.2.2.2.1 x.2.1.2.1.2.2.2.2.2.2.2.2.2.2.2.2.1 x.2.1.2.2.1.1 x.2.1.2.2.1.2.1 x.2.1.2.2.1.2.2.1 x.2.1.2.2.1.2.2.2.2.1 x.2.1.2.2.1.2.2.2.2.2.1 x.2.1.2.2.1.2.2.2.2.2.2.1 x.2.1.2.2.1.2.2.2.2.2.2.2.1 x.2.1.2.2.1.2.2.2.2.2.2.2.2.1 x.2.1.2.2.1.2.2.2.2.2.2.2.2.2.2.1 x.2.1.2.2.1.2.2.2.2.2.2.2.2.2.2.2.1 x.2.1.2.2.1.2.2.2.2.2.2.2.2.2.2.2.2.1 x.2.2.1 x.2.2.2.1
def yx6 (x:(yf3).X):(ybF).X:=((((),()),((),()),((),()),(0,()),()),((x.2.1.1.1,x.2.1.1.2.1,x.2.1.1.2.2.1,x.2.1.1.2.2.2.1,x.2.1.1.2.2.2.2.1,x.2.1.1.2.2.2.2.2.1,x.2.1.1.2.2.2.2.2.2.1,x.2.1.1.2.2.2.2.2.2.2.1,x.2.1.1.2.2.2.2.2.2.2.2.1,x.2.1.1.2.2.2.2.2.2.2.2.2.1,x.2.1.1.2.2.2.2.2.2.2.2.2.2.1,x.2.1.1.2.2.2.2.2.2.2.2.2.2.2.1,x.2.1.1.2.2.2.2.2.2.2.2.2.2.2.2.1,()),(x.2.1.2.1.1,x.2.1.2.1.2.1,x.2.1.2.1.2.2.1,(),x.2.1.2.1.2.2.2.2.1,x.2.1.2.1.2.2.2.2.2.1,x.2.1.2.1.2.2.2.2.2.2.1,x.2.1.2.1.2.2.2.2.2.2.2.1,x.2.1.2.1.2.2.2.2.2.2.2.2.1,(),x.2.1.2.1.2.2.2.2.2.2.2.2.2.2.1,x.2.1.2.1.2.2.2.2.2.2.2.2.2.2.2.1,x.2.1.2.1.2.2.2.2.2.2.2.2.2.2.2.2.1,()),(x.2.1.2.2.1.1,x.2.1.2.2.1.2.1,x.2.1.2.2.1.2.2.1,(),x.2.1.2.2.1.2.2.2.2.1,x.2.1.2.2.1.2.2.2.2.2.1,x.2.1.2.2.1.2.2.2.2.2.2.1,x.2.1.2.2.1.2.2.2.2.2.2.2.1,x.2.1.2.2.1.2.2.2.2.2.2.2.2.1,(),x.2.1.2.2.1.2.2.2.2.2.2.2.2.2.2.1,x.2.1.2.2.1.2.2.2.2.2.2.2.2.2.2.2.1,x.2.1.2.2.1.2.2.2.2.2.2.2.2.2.2.2.2.1,()),()),(x.2.2.1,x.2.2.2.1,()))
def yzE:Code:=(zdI ydP 64 1012).getD .skip
theorem yLV:zdI ydP 64 253=some (.block 2 (.loop yzE)):=by kernel_rfl
theorem yNC (x:(ybF).X):zg7 ⟨yhU,57,yt8⟩ 2 yzE 1012 ybF yfS yjX x=ybV x:=by kernel_rfl
def yyl (x:(yf3).X):Nat:=(fun (u0:Int) (u1:Int) (u2:Int) (u3:List dM) (u4:Int) (u5:Int) (u6:Int) (u7:Int) (u8:Int) (u9:List dW) (u10:Int) (u11:Bool) (u12:Bool) (u13:Int) (u14:Int) (u15:Int) (u16:Int) (u17:Int) (u18:Int) (u19:Int) (u20:Int) (u21:Int) (u22:Bool) (u23:Bool) (u24:Int) (u25:Int) (u26:Int) (u27:Int) (u28:Int) (u29:Int) (u30:Int) (u31:Int) (u32:Int) (u33:Bool) (u34:Bool) (u35:List dM) (u36:List dW)=>18446744073709551616) x.2.1.1.1 x.2.1.1.2.1 x.2.1.1.2.2.1 x.2.1.1.2.2.2.1 x.2.1.1.2.2.2.2.1 x.2.1.1.2.2.2.2.2.1 x.2.1.1.2.2.2.2.2.2.1 x.2.1.1.2.2.2.2.2.2.2.1 x.2.1.1.2.2.2.2.2.2.2.2.1 x.2.1.1.2.2.2.2.2.2.2.2.2.1 x.2.1.1.2.2.2.2.2.2.2.2.2.2.1 x.2.1.1.2.2.2.2.2.2.2.2.2.2.2.1 x.2.1.1.2.2.2.2.2.2.2.2.2.2.2.2.1 x.2.1.2.1.1 x.2.1.2.1.2.1 x.2.1.2.1.2.2.1 x.2.1.2.1.2.2.2.2.1 x.2.1.2.1.2.2.2.2.2.1 x.2.1.2.1.2.2.2.2.2.2.1 x.2.1.2.1.2.2.2.2.2.2.2.1 x.2.1.2.1.2.2.2.2.2.2.2.2.1 x.2.1.2.1.2.2.2.2.2.2.2.2.2.2.1 x.2.1.2.1.2.2.2.2.2.2.2.2.2.2.2.1 x.2.1.2.1.2.2.2.2.2.2.2.2.2.2.2.2.1 x.2.1.2.2.1.1 x.2.1.2.2.1.2.1 x.2.1.2.2.1.2.2.1 x.2.1.2.2.1.2.2.2.2.1 x.2.1.2.2.1.2.2.2.2.2.1 x.2.1.2.2.1.2.2.2.2.2.2.1 x.2.1.2.2.1.2.2.2.2.2.2.2.1 x.2.1.2.2.1.2.2.2.2.2.2.2.2.1 x.2.1.2.2.1.2.2.2.2.2.2.2.2.2.2.1 x.2.1.2.2.1.2.2.2.2.2.2.2.2.2.2.2.1 x.2.1.2.2.1.2.2.2.2.2.2.2.2.2.2.2.2.1 x.2.2.1 x.2.2.2.1
def yrb (x:(yf3).X):Option ((yfS).X ⊕ (yjX).X):=zr ybV (yyl x) (yx6 x)
def yyL:Seg:=⟨yf3,yfS,yjX,yrb⟩
def yDt:Nat→Option Seg:=fun q=>bif Nat.beq q 253 then some yyL else yt8 q
theorem yO4:FrOk Tryz.prog ⟨yhU,57,yDt⟩ ydP:=(yO3).loop (sg:=yyL) ybF yx6 (by decide) yLV ybV yyl (by decide) (fun _=>rfl) (fun x r _ h=>h) yNC
abbrev yh3:List Par:= [.rd tA]
abbrev ysy:List OT:= [⟨false,tA,(.pr .fz (.pr (.pr .fz .fz) (.pr (.ow (.pr (.ow .fz) (.pr (.ow (.pr .fz .fz)) (.pr .fz (.ow .fz))))) (.pr .fz (.pr .fz (.pr .fz (.pr .fz (.pr .fz (.pr (.ow (.pr .fz .fz)) (.pr .fz (.pr .fz .fz)))))))))))⟩]
def yoD (a0:dA):Option (ResD ysy×MutD yh3) :=
  zjw (ys0 ((((),()),((),()),((),()),((),()),()),((a0.1,a0.2.1.1,a0.2.1.2,a0.2.2.1,a0.2.2.2.1,a0.2.2.2.2.1,a0.2.2.2.2.2.1,a0.2.2.2.2.2.2.1,a0.2.2.2.2.2.2.2.1,a0.2.2.2.2.2.2.2.2.1,a0.2.2.2.2.2.2.2.2.2.1,a0.2.2.2.2.2.2.2.2.2.2.1,a0.2.2.2.2.2.2.2.2.2.2.2,()),(0,0,0,(),0,0,0,0,0,(),0,false,false,()),(a0.1,a0.2.1.1,a0.2.1.2,(),a0.2.2.2.1,a0.2.2.2.2.1,a0.2.2.2.2.2.1,a0.2.2.2.2.2.2.1,a0.2.2.2.2.2.2.2.1,a0.2.2.2.2.2.2.2.2.1,a0.2.2.2.2.2.2.2.2.2.1,a0.2.2.2.2.2.2.2.2.2.2.1,a0.2.2.2.2.2.2.2.2.2.2.2,()),()),(([]:List dM),()))) (fun y2 =>
    zjw (yrb ((((),()),((),()),((),()),((),()),()),((y2.2.1.1.1,y2.2.1.1.2.1,y2.2.1.1.2.2.1,y2.2.1.1.2.2.2.1,y2.2.1.1.2.2.2.2.1,y2.2.1.1.2.2.2.2.2.1,y2.2.1.1.2.2.2.2.2.2.1,y2.2.1.1.2.2.2.2.2.2.2.1,y2.2.1.1.2.2.2.2.2.2.2.2.1,y2.2.1.1.2.2.2.2.2.2.2.2.2.1,y2.2.1.1.2.2.2.2.2.2.2.2.2.2.1,y2.2.1.1.2.2.2.2.2.2.2.2.2.2.2.1,y2.2.1.1.2.2.2.2.2.2.2.2.2.2.2.2.1,()),(y2.2.1.2.1.1,y2.2.1.2.1.2.1,y2.2.1.2.1.2.2.1,(),y2.2.1.2.1.2.2.2.2.1,y2.2.1.2.1.2.2.2.2.2.1,y2.2.1.2.1.2.2.2.2.2.2.1,y2.2.1.2.1.2.2.2.2.2.2.2.1,y2.2.1.2.1.2.2.2.2.2.2.2.2.1,(),y2.2.1.2.1.2.2.2.2.2.2.2.2.2.2.1,y2.2.1.2.1.2.2.2.2.2.2.2.2.2.2.2.1,y2.2.1.2.1.2.2.2.2.2.2.2.2.2.2.2.2.1,()),(y2.2.1.2.2.1.1,y2.2.1.2.2.1.2.1,y2.2.1.2.2.1.2.2.1,(),y2.2.1.2.2.1.2.2.2.2.1,y2.2.1.2.2.1.2.2.2.2.2.1,y2.2.1.2.2.1.2.2.2.2.2.2.1,y2.2.1.2.2.1.2.2.2.2.2.2.2.1,y2.2.1.2.2.1.2.2.2.2.2.2.2.2.1,(),y2.2.1.2.2.1.2.2.2.2.2.2.2.2.2.2.1,y2.2.1.2.2.1.2.2.2.2.2.2.2.2.2.2.2.1,y2.2.1.2.2.1.2.2.2.2.2.2.2.2.2.2.2.2.1,()),()),(y2.2.2.1,([]:List dW),()))) (fun y3 =>
      some (((y3.2.1.2.1.1,(y3.2.1.2.1.2.1,y3.2.1.2.1.2.2.1),y3.2.2.1,y3.2.1.2.1.2.2.2.2.1,y3.2.1.2.1.2.2.2.2.2.1,y3.2.1.2.1.2.2.2.2.2.2.1,y3.2.1.2.1.2.2.2.2.2.2.2.1,y3.2.1.2.1.2.2.2.2.2.2.2.2.1,y3.2.2.2.1,y3.2.1.2.1.2.2.2.2.2.2.2.2.2.2.1,y3.2.1.2.1.2.2.2.2.2.2.2.2.2.2.2.1,y3.2.1.2.1.2.2.2.2.2.2.2.2.2.2.2.2.1),()),())) (fun y3 =>
      none)) (fun y2 =>
    none)
theorem yXW (x:InD yh3):zjH ⟨yhU,57,yDt⟩ Tryz.f103.results.toList ydP yh3 ysy x=yoD x.1:=by kernel_rfl
theorem yTV:ConOk Tryz.prog 103 ⟨yh3,ysy,fun x=>yoD x.1⟩:=zkh (yO4) Tryz.func103 (by kernel_rfl) (by kernel_rfl) Tryz.ntmps103.symm (by decide) (fun x r h=>(yXW x).trans h)
def yb4 (a0:dA):dA:=a0
theorem yVU (a0:dA) (hk:zi9 yh3 (a0,())):yoD a0=(fun n=>some ((n,()),())) (yb4 a0):=by
  have hb:a0.2.2.1.length * 80≤2 ^ 47:=hk.1.2.2.1.1
  have hb2:a0.2.2.2.2.2.2.2.2.1.length * 32≤2 ^ 47:=hk.1.2.2.2.2.2.2.2.2.1.1
  have hc: ∀ i,i < a0.2.2.2.2.2.2.2.2.1.length→(a0.2.2.2.2.2.2.2.2.1.getD i (0,[])).2.length * 8≤2 ^ 47:=fun i hi=>by rw [zcq hi]; exact (hk.1.2.2.2.2.2.2.2.2.1.2 _ (List.getElem_mem hi)).2.1
  have h1:=zkk (step:=ycR) a0.2.2.1 ye (fun i s=>yrr i a0 yU (a0.1,a0.2.1,s,a0.2.2.2)) (fun s x=>s++ [x]) (fun i s=>s.length=i) (fun s=> .inl (yMF a0 yU (a0.1,a0.2.1,s,a0.2.2.2))) (fun i s hi hs=>⟨by
      simp only [ycR,yrr,yrI,zjI (show (i:Int) < a0.2.2.1.length by omega),cond_true,wr (show -9223372036854775808≤(i:Int)+1 by omega) (by omega),Int.natCast_add,Int.natCast_one,Int.toNat_natCast,zkO hi,zjW,yS,zkV]
      rw [zkw.2 (show (s.length+ [a0.2.2.1.getD i ([],[],false,[])].length) * 80≤140737488355328 by simp only [List.length_cons,List.length_nil]; omega)]; rfl,by simp [hs]⟩) (fun s hs=>by simp only [ycR,yrr,yrI,zkm (Int.le_refl _),cond_false]) [] rfl 18446744073709551616 (by omega)
  have h2:=zkk (step:=ybV) a0.2.2.2.2.2.2.2.2.1 (0,[]) (fun i s=>ypJ i a0 yU (a0.1,a0.2.1,a0.2.2.1,a0.2.2.2.1,a0.2.2.2.2.1,a0.2.2.2.2.2.1,a0.2.2.2.2.2.2.1,a0.2.2.2.2.2.2.2.1,s,a0.2.2.2.2.2.2.2.2.2)) (fun s x=>s++ [x]) (fun i s=>s.length=i) (fun s=> .inl (yKG yU (a0.1,a0.2.1,a0.2.2.1,a0.2.2.2.1,a0.2.2.2.2.1,a0.2.2.2.2.2.1,a0.2.2.2.2.2.2.1,a0.2.2.2.2.2.2.2.1,s,a0.2.2.2.2.2.2.2.2.2))) (fun i s hi hs=>⟨by
      have:=hc i hi
      simp only [ybV,ypJ,yp3,zjI (show (i:Int) < a0.2.2.2.2.2.2.2.2.1.length by omega),cond_true,wr (show -9223372036854775808≤(i:Int)+1 by omega) (by omega),Int.natCast_add,Int.natCast_one,Int.toNat_natCast,zkO hi,zjW,List.nil_append,zkV]
      rw [zkw.2 (show (([]:List Int).length+(a0.2.2.2.2.2.2.2.2.1.getD i (0,[])).2.length) * 8≤140737488355328 by rw [List.length_nil]; omega),zkw.2 (show (s.length+ [a0.2.2.2.2.2.2.2.2.1.getD i (0,[])].length) * 32≤140737488355328 by simp only [List.length_cons,List.length_nil]; omega)]; rfl,by simp [hs]⟩) (fun s hs=>by simp only [ybV,ypJ,yp3,zkm (Int.le_refl _),cond_false]) [] rfl 18446744073709551616 (by omega)
  rw [ytb]at h1 h2
  unfold yoD yb4
  rw [show ys0 (yMP a0 yU (a0.1,a0.2.1,[],a0.2.2.2))=_ from h1,zkJ]
  refine (congrArg (fun z=>zjw z _ _) (show yrb (yKR a0 yU (a0.1,a0.2.1,a0.2.2.1,a0.2.2.2.1,a0.2.2.2.2.1,a0.2.2.2.2.2.1,a0.2.2.2.2.2.2.1,a0.2.2.2.2.2.2.2.1,[],a0.2.2.2.2.2.2.2.2.2))=_ from h2)).trans rfl
def yol:Con:=⟨yh3,ysy,fun x=>(fun n=>some ((n,()),())) (yb4 x.1)⟩
theorem yw6:ConOk Tryz.prog 103 yol:=(yTV).mono (fun x r hk h=>(yVU x.1 hk).trans h)
end
section
def yJk:Code:=(Tryz.f104.body).getD .skip
def yJJ:Env:=zki TT [(46,yk7)] []
theorem ySW:FrOk Tryz.prog ⟨yJJ,8,fun _=>none⟩ yJk:=zkp yc yd ⟨ysN,trivial⟩
def yUZ:Nat→Option Seg:=fun _=>none
abbrev ypk:List Par:= [.rd tA]
abbrev yu2:List OT:= [⟨false,tI,.fz⟩]
def yxj (a0:dA):Option (ResD yu2×MutD ypk) :=
  let r1:=yW a0
  bif (!r1) then
    some ((1,()),())
  else
    bif a0.2.2.2.2.2.2.2.2.2.2.1 then
      some ((6,()),())
    else
      some ((0,()),())
theorem yZw (x:InD ypk):zjH ⟨yJJ,8,yUZ⟩ Tryz.f104.results.toList yJk ypk yu2 x=yxj x.1:=by kernel_rfl
theorem yWx:ConOk Tryz.prog 104 ⟨ypk,yu2,fun x=>yxj x.1⟩:=zkh (ySW) Tryz.func104 (by kernel_rfl) (by kernel_rfl) Tryz.ntmps104.symm (by decide) (fun x r h=>(yZw x).trans h)
def ye4 (a0:dA):Int :=
  let r1:=yW a0
  bif (!r1) then
    1
  else
    bif a0.2.2.2.2.2.2.2.2.2.2.1 then
      6
    else
      0
def yqz:Con:=⟨ypk,yu2,fun x=>(fun n=>some ((n,()),())) (ye4 x.1)⟩
theorem yYx (a0:dA):yxj a0=(fun n=>some ((n,()),())) (ye4 a0):=zkS (p:=fun (n:Int)=>((n,()),())) (zkx (p:=fun (n:Int)=>((n,()),())) rfl (zkx (p:=fun (n:Int)=>((n,()),())) rfl rfl))
theorem yyX:ConOk Tryz.prog 104 yqz:=(yWx).mono (fun x r _ h=>(yYx x.1).trans h)
end
section
def yJc:Code:=(Tryz.f15.body).getD .skip
def yJB:Env:=zki TT [(103,yol),(104,yqz),(105,yjZ)] []
theorem ySA:FrOk Tryz.prog ⟨yJB,42,fun _=>none⟩ yJc:=zkp yc yd ⟨yw6,yyX,ytt,trivial⟩
def yUR:Nat→Option Seg:=fun _=>none
abbrev ykJ:List Par:= [.rd tA]
abbrev yuP:List OT:= [⟨false,tA,(.pr .fz (.pr (.pr .fz .fz) (.pr (.ow (.pr (.ow .fz) (.pr (.ow (.pr .fz .fz)) (.pr .fz (.ow .fz))))) (.pr .fz (.pr .fz (.pr .fz (.pr .fz (.pr .fz (.pr (.ow (.pr .fz .fz)) (.pr .fz (.pr .fz .fz)))))))))))⟩,⟨false,tI,.fz⟩]
def yqS (a0:dA):Option (ResD yuP×MutD ykJ) :=
  let r1:=yb4 a0
  let r2:=ye4 a0
  bif (r2 !=0) then
    some ((r1,r2,()),())
  else
    bif (!(a0.2.2.2.1==(-1))) then
      bif (inb a0.2.2.2.1 a0.2.2.1.length) then
        bif (!((((nth a0.2.2.1 a0.2.2.2.1 ([],[],false,[])).2).2).1)) then
          some ((r1,2,()),())
        else
          bif a0.2.2.2.2.2.2.2.2.2.2.2 then
            some ((r1,5,()),())
          else
            bif (leb 59990 a0.2.2.2.2.2.2.2.1) then
              some ((r1,7,()),())
            else
              bnd (yaV r1) fun r3 =>
              some ((r3.2.1,r3.1.1,()),())
      else none
    else
      some ((r1,2,()),())
theorem yZh (x:InD ykJ):zjH ⟨yJB,42,yUR⟩ Tryz.f15.results.toList yJc ykJ yuP x=yqS x.1:=by kernel_rfl
theorem yWi:ConOk Tryz.prog 15 ⟨ykJ,yuP,fun x=>yqS x.1⟩:=zkh (ySA) Tryz.func15 (by kernel_rfl) (by kernel_rfl) Tryz.ntmps15.symm (by decide) (fun x r h=>(yZh x).trans h)
def yhA (a0:dA):dA×Int:=yL a0
theorem yYq (a0:dA) (hk:zi9 ykJ (a0,())):yqS a0=(fun n=>some ((n.1,n.2,()),())) (yhA a0):=by
  unfold yqS yhA yL
  simp only [yb4,ye4,yW]
  cases ha:ym a0
  · rfl
  cases hd:yg a0
  · rw [show a0.2.2.2.2.2.2.2.2.2.2.1=false from hd]
    cases hl:(a0.2.2.2.1== -1)
    · have hi:=ywY ha (beq_eq_false_iff_ne.1 hl)
      rw [hi,ytv a0 (by unfold ydp; rw [ybI ha,hi]; rfl)]
      cases (nth a0.2.2.1 a0.2.2.2.1 ye).2.2.1<;>cases a0.2.2.2.2.2.2.2.2.2.2.2<;>cases leb 59990 a0.2.2.2.2.2.2.2.1<;>rfl
    · rfl
  · rw [show a0.2.2.2.2.2.2.2.2.2.2.1=true from hd]; rfl
def ywT:Con:=⟨ykJ,yuP,fun x=>(fun n=>some ((n.1,n.2,()),())) (yhA x.1)⟩
theorem yIc:ConOk Tryz.prog 15 ywT:=(yWi).mono (fun x r hk h=>(yYq x.1 hk).trans h)
end
section
def yt1:Code:=(Tryz.f16.body).getD .skip
def yuc:Env:=zki TT [(13,yji)] []
theorem yC5:FrOk Tryz.prog ⟨yuc,5,fun _=>none⟩ yt1:=zkp yc yd ⟨yrw,trivial⟩
def yEO:Nat→Option Seg:=fun _=>none
abbrev ycZ:List Par:= [.kp tYs .fz]
abbrev ygf:List OT:= [⟨false,tA,(.pr .fz (.pr (.pr .fz .fz) (.pr (.ow (.pr (.ow .fz) (.pr (.ow (.pr .fz .fz)) (.pr .fz (.ow .fz))))) (.pr .fz (.pr .fz (.pr .fz (.pr .fz (.pr .fz (.pr (.ow (.pr .fz .fz)) (.pr .fz (.pr .fz .fz)))))))))))⟩]
def yaJ (a0:List Int):Option (ResD ygf×MutD ycZ) :=
  bnd (yap a0) fun r1 =>
  some ((r1.1.1,()),())
theorem yGH (x:InD ycZ):zjH ⟨yuc,5,yEO⟩ Tryz.f16.results.toList yt1 ycZ ygf x=yaJ x.1:=by kernel_rfl
theorem yEY:ConOk Tryz.prog 16 ⟨ycZ,ygf,fun x=>yaJ x.1⟩:=zkh (yC5) Tryz.func16 (by kernel_rfl) (by kernel_rfl) Tryz.ntmps16.symm (by decide) (fun x r h=>(yGH x).trans h)
def yrP:Con:=⟨ycZ,ygf,fun x=>yaJ x.1⟩
theorem yGr:ConOk Tryz.prog 16 yrP:=yEY
theorem yOj (a0:List Int) (hb:a0.length≤140737488355328): ∃ a:dA,yaJ a0=some ((a,()),())∧yb2 a:=by
  obtain ⟨a,e,q⟩:=yBS a0 hb
  unfold yaJ
  rw [e]
  exact ⟨a,rfl,q⟩
end
end
end Go.Tf
