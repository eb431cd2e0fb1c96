/- Functions of the program, and what they come to. -/
import Derived.Test.YtgmadfpnljibhaaGreatBuiltBentF14
namespace Go.Tf
noncomputable section
open Go.Proofs
set_option synthInstance.maxHeartbeats 400000
set_option synthInstance.maxSize 10000
set_option linter.unusedVariables false
set_option linter.unusedSimpArgs false
set_option maxRecDepth 100000
section
def yoL:Code:=(Tryz.f45.body).getD .skip
def yt9:Env:=zki TT [(100,ys4),(122,yqx),(126,yJ),(131,yu8),(132,yBI),(133,yk6)] []
theorem ySe:FrOk Tryz.prog ⟨yt9,103,fun _=>none⟩ yoL:=zkp yc yd ⟨yEA,yyV,yaa,yGq,yT9,ysM,trivial⟩
def yFe:Nat→Option Seg:=fun _=>none
def yc2:Shape:=⟨[(1,false,[.ptr 0 0]),(41,false,[.br tM]),(42,false,[.int .i64]),(43,false,[.int .i64])],[(0,[.int .i64,.int .i64,.int .i64,.br tM,.int .i64,.int .i64,.int .i64,.int .i64,.int .i64,.br tW,.int .i64,.bool,.bool])],[]⟩
def yiH:Shape:=⟨[(1,false,[.ptr 0 0]),(41,false,[.br tM]),(42,false,[.int .i64]),(43,false,[.ci .i64 0])],[(0,[.int .i64,.int .i64,.int .i64,.br tM,.int .i64,.int .i64,.int .i64,.int .i64,.int .i64,.br tW,.int .i64,.bool,.bool])],[]⟩
def yis:Shape:=⟨[(1,false,[.ptr 0 0])],[(0,[.int .i64,.int .i64,.int .i64,.br tM,.int .i64,.int .i64,.int .i64,.int .i64,.int .i64,.br tW,.int .i64,.bool,.bool])],[]⟩
def yi4:Shape:=⟨[(2,false,[.bool])],[],[]⟩
abbrev yte (v0:List dM) (v1:Int) (v2:Int) (v3:dA):(yc2).X:=((((),()),(v0,()),(v1,()),(v2,()),()),((v3.1,v3.2.1.1,v3.2.1.2,v3.2.2.1,v3.2.2.2.1,v3.2.2.2.2.1,v3.2.2.2.2.2.1,v3.2.2.2.2.2.2.1,v3.2.2.2.2.2.2.2.1,v3.2.2.2.2.2.2.2.2.1,v3.2.2.2.2.2.2.2.2.2.1,v3.2.2.2.2.2.2.2.2.2.2.1,v3.2.2.2.2.2.2.2.2.2.2.2,()),()),())
abbrev yPw (v0:List dM) (v1:Int) (v2:dA):(yiH).X:=((((),()),(v0,()),(v1,()),((),()),()),((v2.1,v2.2.1.1,v2.2.1.2,v2.2.2.1,v2.2.2.2.1,v2.2.2.2.2.1,v2.2.2.2.2.2.1,v2.2.2.2.2.2.2.1,v2.2.2.2.2.2.2.2.1,v2.2.2.2.2.2.2.2.2.1,v2.2.2.2.2.2.2.2.2.2.1,v2.2.2.2.2.2.2.2.2.2.2.1,v2.2.2.2.2.2.2.2.2.2.2.2,()),()),())
abbrev yPn (v0:dA):(yis).X:=((((),()),()),((v0.1,v0.2.1.1,v0.2.1.2,v0.2.2.1,v0.2.2.2.1,v0.2.2.2.2.1,v0.2.2.2.2.2.1,v0.2.2.2.2.2.2.1,v0.2.2.2.2.2.2.2.1,v0.2.2.2.2.2.2.2.2.1,v0.2.2.2.2.2.2.2.2.2.1,v0.2.2.2.2.2.2.2.2.2.2.1,v0.2.2.2.2.2.2.2.2.2.2.2,()),()),())
abbrev yPK (v0:Bool):(yi4).X:=(((v0,()),()),(),())
def ytD (v0:List dM) (v1:Int) (v2:Int) (v3:Int) (v4:Int) (v5:Int) (v6:List dM) (v7:Int) (v8:Int) (v9:Int) (v10:Int) (v11:Int) (v12:List dW) (v13:Int) (v14:Bool) (v15:Bool):Option ((yc2).X ⊕ ((yis).X ⊕ (yi4).X)) :=
  bif (ltb v2 v1) then
    bif (inb v2 v0.length) then
      let r7:=ybh ((nth v0 v2 ([],[],false,[])).1,((nth v0 v2 ([],[],false,[])).2).1,(((nth v0 v2 ([],[],false,[])).2).2))
      bif (!(!r7)) then
        let r8:=ygC (v4,v5)
        bif (!((((nth v0 v2 ([],[],false,[])).1).length:Int) !=r8)) then
          bif (((nth v0 v2 ([],[],false,[])).2).2).1 then
            bif (v7 !=v2) then
              bif (!v15) then
                some (.inr (.inr (((false,()),()),(),())))
              else
                some (.inl ((((),()),(v0,()),(v1,()),((IntKind.i64.wrap (v2+1)),()),()),((v3,v4,v5,v6,v7,v8,v9,v10,v11,v12,v13,v14,v15,()),()),()))
            else
              some (.inl ((((),()),(v0,()),(v1,()),((IntKind.i64.wrap (v2+1)),()),()),((v3,v4,v5,v6,v7,v8,v9,v10,v11,v12,v13,v14,v15,()),()),()))
          else
            some (.inl ((((),()),(v0,()),(v1,()),((IntKind.i64.wrap (v2+1)),()),()),((v3,v4,v5,v6,v7,v8,v9,v10,v11,v12,v13,v14,v15,()),()),()))
        else
          some (.inr (.inr (((false,()),()),(),())))
      else
        some (.inr (.inr (((false,()),()),(),())))
    else none
  else
    some (.inr (.inl ((((),()),()),((v3,v4,v5,v6,v7,v8,v9,v10,v11,v12,v13,v14,v15,()),()),())))
def ydz (x:(yc2).X):=ytD x.1.2.1.1 x.1.2.2.1.1 x.1.2.2.2.1.1 x.2.1.1.1 x.2.1.1.2.1 x.2.1.1.2.2.1 x.2.1.1.2.2.2.1 x.2.1.1.2.2.2.2.1 x.2.1.1.2.2.2.2.2.1 x.2.1.1.2.2.2.2.2.2.1 x.2.1.1.2.2.2.2.2.2.2.1 x.2.1.1.2.2.2.2.2.2.2.2.1 x.2.1.1.2.2.2.2.2.2.2.2.2.1 x.2.1.1.2.2.2.2.2.2.2.2.2.2.1 x.2.1.1.2.2.2.2.2.2.2.2.2.2.2.1 x.2.1.1.2.2.2.2.2.2.2.2.2.2.2.2.1
def yBT (x:(yiH).X):(yc2).X:=((((),()),(x.1.2.1.1,()),(x.1.2.2.1.1,()),(0,()),()),((x.2.1.1.1,x.2.1.1.2.1,x.2.1.1.2.2.1,x.2.1.1.2.2.2.1,x.2.1.1.2.2.2.2.1,x.2.1.1.2.2.2.2.2.1,x.2.1.1.2.2.2.2.2.2.1,x.2.1.1.2.2.2.2.2.2.2.1,x.2.1.1.2.2.2.2.2.2.2.2.1,x.2.1.1.2.2.2.2.2.2.2.2.2.1,x.2.1.1.2.2.2.2.2.2.2.2.2.2.1,x.2.1.1.2.2.2.2.2.2.2.2.2.2.2.1,x.2.1.1.2.2.2.2.2.2.2.2.2.2.2.2.1,()),()),())
def yDU:Code:=(zdI yoL 64 116).getD .skip
theorem yRv:zdI yoL 64 29=some (.block 0 (.loop yDU)):=by kernel_rfl
theorem yUm (x:(yc2).X):zg7 ⟨yt9,103,yFe⟩ 0 yDU 116 yc2 yis yi4 x=ydz x:=by kernel_rfl
def yB9 (x:(yiH).X):Nat:=(fun (u0:List dM) (u1:Int) (u2:Int) (u3:Int) (u4:Int) (u5:List dM) (u6:Int) (u7:Int) (u8:Int) (u9:Int) (u10:Int) (u11:List dW) (u12:Int) (u13:Bool) (u14:Bool)=>18446744073709551616) x.1.2.1.1 x.1.2.2.1.1 x.2.1.1.1 x.2.1.1.2.1 x.2.1.1.2.2.1 x.2.1.1.2.2.2.1 x.2.1.1.2.2.2.2.1 x.2.1.1.2.2.2.2.2.1 x.2.1.1.2.2.2.2.2.2.1 x.2.1.1.2.2.2.2.2.2.2.1 x.2.1.1.2.2.2.2.2.2.2.2.1 x.2.1.1.2.2.2.2.2.2.2.2.2.1 x.2.1.1.2.2.2.2.2.2.2.2.2.2.1 x.2.1.1.2.2.2.2.2.2.2.2.2.2.2.1 x.2.1.1.2.2.2.2.2.2.2.2.2.2.2.2.1
def yul (x:(yiH).X):Option ((yis).X ⊕ (yi4).X):=zr ydz (yB9 x) (yBT x)
def yCL:Seg:=⟨yiH,yis,yi4,yul⟩
def yFf:Nat→Option Seg:=fun q=>bif Nat.beq q 29 then some yCL else yFe q
theorem ySf:FrOk Tryz.prog ⟨yt9,103,yFf⟩ yoL:=(ySe).loop (sg:=yCL) yc2 yBT (by decide) yRv ydz yB9 (by decide) (fun _=>rfl) (fun x r _ h=>h) yUm
abbrev ykv:List Par:= [.rd tA]
abbrev yuC:List OT:= [⟨false,tB,.fz⟩]
def yqK (a0:dA):Option (ResD yuC×MutD ykv) :=
  let r1:=yeZ a0.2.1
  bif (!(!r1)) then
    bif (!((a0.2.2.1.length:Int) !=a0.2.1.1)) then
      let r2:=yh a0.1 1 60000
      bif (!(!r2)) then
        let r3:=yfE a0.2.1 a0.2.2.2.1 a0.2.2.2.2.1
        bif (!(!r3)) then
          bnd (yqD a0) fun r4 =>
          bif (!r4.1.1) then
            some ((false,()),())
          else
            zjw (yul ((((),()),(a0.2.2.1,()),((a0.2.2.1.length:Int),()),((),()),()),((a0.1,a0.2.1.1,a0.2.1.2,a0.2.2.1,a0.2.2.2.1,a0.2.2.2.2.1,a0.2.2.2.2.2.1,a0.2.2.2.2.2.2.1,a0.2.2.2.2.2.2.2.1,a0.2.2.2.2.2.2.2.2.1,a0.2.2.2.2.2.2.2.2.2.1,a0.2.2.2.2.2.2.2.2.2.2.1,a0.2.2.2.2.2.2.2.2.2.2.2,()),()),())) (fun y8 =>
              let r10:=yh y8.2.1.1.2.2.2.2.2.2.1 0 60000
              bif r10 then
                let r11:=yh y8.2.1.1.2.2.2.2.2.2.2.1 0 60000
                bif r11 then
                  let r12:=yh y8.2.1.1.2.2.2.2.2.2.2.2.1 0 60000
                  bif r12 then
                    let r13:=yh (IntKind.i64.wrap (y8.2.1.1.2.2.2.2.2.2.1 - y8.2.1.1.2.2.2.2.2.2.2.1)) 0 4
                    bif r13 then
                      let r14:=yh y8.2.1.1.2.2.2.2.2.2.2.2.2.2.1 (-1) 1000
                      some ((r14,()),())
                    else
                      some ((false,()),())
                  else
                    some ((false,()),())
                else
                  some ((false,()),())
              else
                some ((false,()),())) (fun y8 =>
              some ((y8.1.1.1,()),()))
        else
          some ((false,()),())
      else
        some ((false,()),())
    else
      some ((false,()),())
  else
    some ((false,()),())
theorem yY4 (x:InD ykv):zjH ⟨yt9,103,yFf⟩ Tryz.f45.results.toList yoL ykv yuC x=yqK x.1:=by kernel_rfl
theorem yV5:ConOk Tryz.prog 45 ⟨ykv,yuC,fun x=>yqK x.1⟩:=zkh (ySf) Tryz.func45 (by kernel_rfl) (by kernel_rfl) Tryz.ntmps45.symm (by decide) (fun x r h=>(yY4 x).trans h)
theorem y11 {S T G F z TS le:Bool} (h1:T=true→TS=true→S=true) (h2:S=true→T=true→z=(TS&&le)) :
    (bif S then bif T then bif G then bif z then some ((F,()),()) else some ((false,()),()) else some ((false,()),()) else some ((false,()),()) else some ((false,()),()))=some (((T&&(TS&&(le&&(G&&F)))),()),()):=by
  cases S
  · cases T
    · rfl
    · cases TS
      · rfl
      · exact absurd (h1 rfl rfl) Bool.false_ne_true
  · cases T
    · cases G<;>rfl
    · rw [h2 rfl rfl]
      cases TS<;>cases le<;>cases G<;>rfl
def ybg (a0:dA):Bool:=ym a0
theorem yYd (a0:dA) (hk:zi9 ykv (a0,())):yqK a0=(fun n=>some ((n,()),())) (ybg a0):=by
  have hb:a0.2.2.1.length * 80≤2 ^ 47:=hk.1.2.2.1.1
  unfold yqK ybg ym
  simp only [yS0,yaw,ydj]
  cases hg:yf a0.2.1
  · rfl
  have hg2:=yk.1 hg
  have h1:yul (yPw a0.2.2.1 a0.2.2.1.length a0)=some (bif (List.range a0.2.2.1.length).any (yhv a0) then .inr (yPK false) else .inl (yPn a0)) :=
    zf4 (step:=ydz) (fun i=>yte a0.2.2.1 a0.2.2.1.length i a0) a0.2.2.1.length (yhv a0) _ _ (fun i hi=>by
      simp only [ydz,yte,ytD,zjI (show (i:Int) < a0.2.2.1.length by omega),cond_true,wr (show -9223372036854775808≤(i:Int)+1 by omega) (by omega),Int.natCast_add,Int.natCast_one,Int.toNat_natCast,zkO hi,zkV,ybh,yhv,ygC,wr (show -9223372036854775808≤6+a0.2.1.2 by omega) (by omega),ye]
      rw [show (a0.2.2.2.1 !=(i:Int))=((i:Int) !=a0.2.2.2.1) from bne_comm]
      cases yp (nth a0.2.2.1 i ([],[],false,[]))<;>cases (((nth a0.2.2.1 i ([],[],false,[])).1.length:Int) !=6+a0.2.1.2)<;>cases (nth a0.2.2.1 i ([],[],false,[])).2.2.1<;>cases ((i:Int) !=a0.2.2.2.1)<;>cases a0.2.2.2.2.2.2.2.2.2.2.2<;>rfl) (by simp only [ydz,yte,ytD,zkm (Int.le_refl _),cond_false]) _ (by show _ < 18446744073709551616; omega)
  rw [yUi a0 hg,h1]
  simp only [zky,ylc,yfE,yaw,ydj,wr (show -9223372036854775808≤a0.2.1.1 - 1 by omega) (by omega),ymU]
  have hw:(leb 0 a0.2.2.2.2.2.1&&leb a0.2.2.2.2.2.1 60000)=true→(leb 0 a0.2.2.2.2.2.2.1&&leb a0.2.2.2.2.2.2.1 60000)=true→IntKind.i64.wrap (a0.2.2.2.2.2.1 - a0.2.2.2.2.2.2.1)=a0.2.2.2.2.2.1 - a0.2.2.2.2.2.2.1:=fun h h'=>by
    rw [Bool.and_eq_true,zjQ,zjQ]at h h'
    exact wr (by omega) (by omega)
  simp only [bne,Bool.not_not,cond_true,Bool.true_and]
  have h2:(leb 0 a0.2.2.2.2.2.1&&leb a0.2.2.2.2.2.1 60000)=true→(leb 0 a0.2.2.2.2.2.2.1&&leb a0.2.2.2.2.2.2.1 60000)=true→(leb 0 (IntKind.i64.wrap (a0.2.2.2.2.2.1 - a0.2.2.2.2.2.2.1))&&leb (IntKind.i64.wrap (a0.2.2.2.2.2.1 - a0.2.2.2.2.2.2.1)) 4)=((leb a0.2.2.2.2.2.2.1 a0.2.2.2.2.2.1&&leb a0.2.2.2.2.2.1 60000)&&leb a0.2.2.2.2.2.1 (a0.2.2.2.2.2.2.1+4)):=fun h h'=>by
    rw [hw h h',Bool.eq_iff_iff]
    simp only [Bool.and_eq_true,zjQ]at h h' ⊢
    omega
  have h3:(leb 0 a0.2.2.2.2.2.2.1&&leb a0.2.2.2.2.2.2.1 60000)=true→(leb a0.2.2.2.2.2.2.1 a0.2.2.2.2.2.1&&leb a0.2.2.2.2.2.1 60000)=true→(leb 0 a0.2.2.2.2.2.1&&leb a0.2.2.2.2.2.1 60000)=true:=fun h h'=>by
    simp only [Bool.and_eq_true,zjQ]at h h' ⊢
    omega
  cases ((a0.2.2.1.length:Int)==a0.2.1.1)
  · cases (leb 1 a0.1&&leb a0.1 60000)<;>cases (List.range a0.2.2.1.length).any (yhv a0)<;>rfl
  cases (leb 1 a0.1&&leb a0.1 60000)
  · rfl
  cases (leb (-1) a0.2.2.2.1&&leb a0.2.2.2.1 (a0.2.1.1 - 1))
  · cases (List.range a0.2.2.1.length).any (yhv a0)<;>cases yaY a0.2.1 a0.2.2.2.2.2.2.2.2.1<;>rfl
  cases (leb 0 a0.2.2.2.2.1&&leb a0.2.2.2.2.1 a0.2.1.2)
  · cases (List.range a0.2.2.1.length).any (yhv a0)<;>cases yaY a0.2.1 a0.2.2.2.2.2.2.2.2.1<;>rfl
  cases yaY a0.2.1 a0.2.2.2.2.2.2.2.2.1
  · cases (List.range a0.2.2.1.length).any (yhv a0)<;>cases (a0.2.2.2.1== -1)<;>cases (a0.2.2.2.2.1==0)<;>rfl
  cases (List.range a0.2.2.1.length).any (yhv a0)
  · cases (a0.2.2.2.1== -1)<;>cases (a0.2.2.2.2.1==0)
    case true.false=>rfl
    all_goals exact y11 h3 h2
  · cases (a0.2.2.2.1== -1)<;>cases (a0.2.2.2.2.1==0)<;>rfl
def yk5:Con:=⟨ykv,yuC,fun x=>(fun n=>some ((n,()),())) (ybg x.1)⟩
theorem ysL:ConOk Tryz.prog 45 yk5:=(yV5).mono (fun x r hk h=>(yYd x.1 hk).trans h)
end
section
def yDb:Code:=(Tryz.f200.body).getD .skip
def yDI:Env:=zki TT [] []
theorem yKi:FrOk Tryz.prog ⟨yDI,6,fun _=>none⟩ yDb:=zkp yc yd trivial
def yLC:Nat→Option Seg:=fun _=>none
abbrev yfd:List Par:= [.rd tL]
abbrev ynV:List OT:= [⟨false,tL,(.ow .fz)⟩]
def yj7 (a0:List Int):Option (ResD ynV×MutD yfd) :=
  bif (zj4 ([]:List Int).length a0.length 8) then
    some (((([]:List Int)++a0),()),())
  else none
theorem yRX (x:InD yfd):zjH ⟨yDI,6,yLC⟩ Tryz.f200.results.toList yDb yfd ynV x=yj7 x.1:=by kernel_rfl
theorem yM8:ConOk Tryz.prog 200 ⟨yfd,ynV,fun x=>yj7 x.1⟩:=zkh (yKi) Tryz.func200 (by kernel_rfl) (by kernel_rfl) Tryz.ntmps200.symm (by decide) (fun x r h=>(yRX x).trans h)
def yr (a0:List Int):List Int:=a0
theorem yPZ (a0:List Int) (hk:zi9 yfd (a0,())):yj7 a0=(fun n=>some ((n,()),())) (yr a0):=by
  have hb:a0.length * 8≤2 ^ 47:=hk.1.1
  unfold yj7 yr
  rw [show zj4 ([]:List Int).length a0.length 8=true by rw [zkw,List.length_nil]; omega]
  rfl
def ydu:Con:=⟨yfd,ynV,fun x=>(fun n=>some ((n,()),())) (yr x.1)⟩
theorem yhF:ConOk Tryz.prog 200 ydu:=(yM8).mono (fun x r hk h=>(yPZ x.1 hk).trans h)
end
section
def yco:Code:=(Tryz.f219.body).getD .skip
def ygo:Env:=zki TT [(200,ydu)] []
theorem yL5:FrOk Tryz.prog ⟨ygo,49,fun _=>none⟩ yco:=zkp yc yd ⟨yhF,trivial⟩
def yA2:Nat→Option Seg:=fun _=>none
def ybz:Shape:=⟨[(1,false,[.ptr 0 0]),(2,false,[.ptr 64 0]),(3,false,[.ptr 4480 0]),(15,false,[.br tL]),(16,false,[.int .i64]),(17,false,[.int .i64])],[(0,[.br tL,.br tW,.bool,.br tI]),(64,[.nil,.nil,.bool,.nil]),(4480,[.at 800000001,.nil,.bool,.at 800000000])],[(800000001,tL,(.ow .fz)),(800000000,tI,.fz)]⟩
def yfX:Shape:=⟨[(1,false,[.ptr 0 0]),(2,false,[.ptr 64 0]),(3,false,[.ptr 4480 0]),(15,false,[.br tL]),(16,false,[.int .i64]),(17,false,[.ci .i64 0])],[(0,[.br tL,.br tW,.bool,.br tI]),(64,[.nil,.nil,.bool,.nil]),(4480,[.at 800000001,.nil,.bool,.at 800000000])],[(800000001,tL,(.ow .fz)),(800000000,tI,.fz)]⟩
def yfM:Shape:=⟨[(1,false,[.ptr 0 0]),(2,false,[.ptr 64 0]),(3,false,[.ptr 4480 0])],[(0,[.br tL,.br tW,.bool,.br tI]),(64,[.nil,.nil,.bool,.nil]),(4480,[.at 800000000,.nil,.bool,.at 800000001])],[(800000000,tL,(.ow .fz)),(800000001,tI,.fz)]⟩
def yjQ:Shape:=⟨[],[],[]⟩
abbrev ypD (v0:List (List Int)) (v1:Int) (v2:Int) (v3:dM) (v4:dM) (v5:dM):(ybz).X:=((((),()),((),()),((),()),(v0,()),(v1,()),(v2,()),()),((v3.1,v3.2.1,v3.2.2.1,v3.2.2.2,()),((),(),v4.2.2.1,(),()),((),(),v5.2.2.1,(),()),()),(v5.1,v5.2.2.2,()))
abbrev yKL (v0:List (List Int)) (v1:Int) (v2:dM) (v3:dM) (v4:dM):(yfX).X:=((((),()),((),()),((),()),(v0,()),(v1,()),((),()),()),((v2.1,v2.2.1,v2.2.2.1,v2.2.2.2,()),((),(),v3.2.2.1,(),()),((),(),v4.2.2.1,(),()),()),(v4.1,v4.2.2.2,()))
abbrev yyq (v0:dM) (v1:dM) (v2:dM):(yfM).X:=((((),()),((),()),((),()),()),((v0.1,v0.2.1,v0.2.2.1,v0.2.2.2,()),((),(),v1.2.2.1,(),()),((),(),v2.2.2.1,(),()),()),(v2.1,v2.2.2.2,()))
def ypV (v0:List (List Int)) (v1:Int) (v2:Int) (v3:List (List Int)) (v4:List dW) (v5:Bool) (v6:List Int) (v7:Bool) (v8:Bool) (v9:List (List Int)) (v10:List Int):Option ((ybz).X ⊕ ((yfM).X ⊕ (yjQ).X)) :=
  bif (ltb v2 v1) then
    bif (inb v2 v0.length) then
      let r4:=yr (nth v0 v2 [])
      bif (zj4 v9.length ([r4]:List (List Int)).length 24) then
        some (.inl ((((),()),((),()),((),()),(v0,()),(v1,()),((IntKind.i64.wrap (v2+1)),()),()),((v3,v4,v5,v6,()),((),(),v7,(),()),((),(),v8,(),()),()),((v9++([r4]:List (List Int))),v10,())))
      else none
    else none
  else
    some (.inr (.inl ((((),()),((),()),((),()),()),((v3,v4,v5,v6,()),((),(),v7,(),()),((),(),v8,(),()),()),(v9,v10,()))))
def ybN (x:(ybz).X):=ypV x.1.2.2.2.1.1 x.1.2.2.2.2.1.1 x.1.2.2.2.2.2.1.1 x.2.1.1.1 x.2.1.1.2.1 x.2.1.1.2.2.1 x.2.1.1.2.2.2.1 x.2.1.2.1.2.2.1 x.2.1.2.2.1.2.2.1 x.2.2.1 x.2.2.2.1
def yxY (x:(yfX).X):(ybz).X:=((((),()),((),()),((),()),(x.1.2.2.2.1.1,()),(x.1.2.2.2.2.1.1,()),(0,()),()),((x.2.1.1.1,x.2.1.1.2.1,x.2.1.1.2.2.1,x.2.1.1.2.2.2.1,()),((),(),x.2.1.2.1.2.2.1,(),()),((),(),x.2.1.2.2.1.2.2.1,(),()),()),(x.2.2.1,x.2.2.2.1,()))
def yzw:Code:=(zdI yco 64 116).getD .skip
theorem yLN:zdI yco 64 29=some (.block 0 (.loop yzw)):=by kernel_rfl
theorem yNu (x:(ybz).X):zg7 ⟨ygo,49,yA2⟩ 0 yzw 116 ybz yfM yjQ x=ybN x:=by kernel_rfl
def yyd (x:(yfX).X):Nat:=(fun (u0:List (List Int)) (u1:Int) (u2:List (List Int)) (u3:List dW) (u4:Bool) (u5:List Int) (u6:Bool) (u7:Bool) (u8:List (List Int)) (u9:List Int)=>18446744073709551616) x.1.2.2.2.1.1 x.1.2.2.2.2.1.1 x.2.1.1.1 x.2.1.1.2.1 x.2.1.1.2.2.1 x.2.1.1.2.2.2.1 x.2.1.2.1.2.2.1 x.2.1.2.2.1.2.2.1 x.2.2.1 x.2.2.2.1
def yq3 (x:(yfX).X):Option ((yfM).X ⊕ (yjQ).X):=zr ybN (yyd x) (yxY x)
def yyD:Seg:=⟨yfX,yfM,yjQ,yq3⟩
def ysR:Nat→Option Seg:=fun q=>bif Nat.beq q 29 then some yyD else yA2 q
theorem yL6:FrOk Tryz.prog ⟨ygo,49,ysR⟩ yco:=(yL5).loop (sg:=yyD) ybz yxY (by decide) yLN ybN yyd (by decide) (fun _=>rfl) (fun x r _ h=>h) yNu
def ybA:Shape:=⟨[(2,false,[.ptr 64 0]),(3,false,[.ptr 4480 0]),(30,false,[.br tW]),(31,false,[.int .i64]),(32,false,[.int .i64])],[(64,[.nil,.nil,.bool,.nil]),(4480,[.at 800000000,.at 800000002,.bool,.at 800000001])],[(800000000,tL,(.ow .fz)),(800000002,tW,(.pr .fz (.ow .fz))),(800000001,tI,.fz)]⟩
def yfY:Shape:=⟨[(2,false,[.ptr 64 0]),(3,false,[.ptr 4480 0]),(30,false,[.br tW]),(31,false,[.int .i64]),(32,false,[.ci .i64 0])],[(64,[.nil,.nil,.bool,.nil]),(4480,[.at 800000000,.at 800000002,.bool,.at 800000001])],[(800000000,tL,(.ow .fz)),(800000002,tW,(.pr .fz (.ow .fz))),(800000001,tI,.fz)]⟩
def yfN:Shape:=⟨[(2,false,[.ptr 64 0]),(3,false,[.ptr 4480 0])],[(64,[.nil,.nil,.bool,.nil]),(4480,[.at 800000000,.at 800000001,.bool,.at 800000002])],[(800000000,tL,(.ow .fz)),(800000001,tW,(.pr .fz (.ow .fz))),(800000002,tI,.fz)]⟩
def yjR:Shape:=⟨[],[],[]⟩
abbrev ypE (v0:List dW) (v1:Int) (v2:Int) (v3:dM) (v4:dM):(ybA).X:=((((),()),((),()),(v0,()),(v1,()),(v2,()),()),(((),(),v3.2.2.1,(),()),((),(),v4.2.2.1,(),()),()),(v4.1,v4.2.1,v4.2.2.2,()))
abbrev yKM (v0:List dW) (v1:Int) (v2:dM) (v3:dM):(yfY).X:=((((),()),((),()),(v0,()),(v1,()),((),()),()),(((),(),v2.2.2.1,(),()),((),(),v3.2.2.1,(),()),()),(v3.1,v3.2.1,v3.2.2.2,()))
abbrev yyr (v0:dM) (v1:dM):(yfN).X:=((((),()),((),()),()),(((),(),v0.2.2.1,(),()),((),(),v1.2.2.1,(),()),()),(v1.1,v1.2.1,v1.2.2.2,()))
def ypW (v0:List dW) (v1:Int) (v2:Int) (v3:Bool) (v4:Bool) (v5:List (List Int)) (v6:List dW) (v7:List Int):Option ((ybA).X ⊕ ((yfN).X ⊕ (yjR).X)) :=
  bif (ltb v2 v1) then
    bif (inb v2 v0.length) then
      let r8:=yr ((nth v0 v2 (0,[])).2)
      bif (zj4 v6.length ([((nth v0 v2 (0,[])).1,r8)]:List dW).length 32) then
        some (.inl ((((),()),((),()),(v0,()),(v1,()),((IntKind.i64.wrap (v2+1)),()),()),(((),(),v3,(),()),((),(),v4,(),()),()),(v5,(v6++([((nth v0 v2 (0,[])).1,r8)]:List dW)),v7,())))
      else none
    else none
  else
    some (.inr (.inl ((((),()),((),()),()),(((),(),v3,(),()),((),(),v4,(),()),()),(v5,v6,v7,()))))
def ybO (x:(ybA).X):=ypW x.1.2.2.1.1 x.1.2.2.2.1.1 x.1.2.2.2.2.1.1 x.2.1.1.2.2.1 x.2.1.2.1.2.2.1 x.2.2.1 x.2.2.2.1 x.2.2.2.2.1
def yxZ (x:(yfY).X):(ybA).X:=((((),()),((),()),(x.1.2.2.1.1,()),(x.1.2.2.2.1.1,()),(0,()),()),(((),(),x.2.1.1.2.2.1,(),()),((),(),x.2.1.2.1.2.2.1,(),()),()),(x.2.2.1,x.2.2.2.1,x.2.2.2.2.1,()))
def yzx:Code:=(zdI yco 64 244).getD .skip
theorem yLO:zdI yco 64 61=some (.block 2 (.loop yzx)):=by kernel_rfl
theorem yNv (x:(ybA).X):zg7 ⟨ygo,49,ysR⟩ 2 yzx 244 ybA yfN yjR x=ybO x:=by kernel_rfl
def yye (x:(yfY).X):Nat:=(fun (u0:List dW) (u1:Int) (u2:Bool) (u3:Bool) (u4:List (List Int)) (u5:List dW) (u6:List Int)=>18446744073709551616) x.1.2.2.1.1 x.1.2.2.2.1.1 x.2.1.1.2.2.1 x.2.1.2.1.2.2.1 x.2.2.1 x.2.2.2.1 x.2.2.2.2.1
def yq4 (x:(yfY).X):Option ((yfN).X ⊕ (yjR).X):=zr ybO (yye x) (yxZ x)
def yyE:Seg:=⟨yfY,yfN,yjR,yq4⟩
def yA3:Nat→Option Seg:=fun q=>bif Nat.beq q 61 then some yyE else ysR q
theorem yL7:FrOk Tryz.prog ⟨ygo,49,yA3⟩ yco:=(yL6).loop (sg:=yyE) ybA yxZ (by decide) yLO ybO yye (by decide) (fun _=>rfl) (fun x r _ h=>h) yNv
abbrev ygs:List Par:= [.rd tM]
abbrev yqj:List OT:= [⟨false,tM,(.pr (.ow (.ow .fz)) (.pr (.ow (.pr .fz (.ow .fz))) (.pr .fz (.ow .fz))))⟩]
def yl4 (a0:dM):Option (ResD yqj×MutD ygs) :=
  let r1:=yr a0.2.2.2
  zjw (yq3 ((((),()),((),()),((),()),(a0.1,()),((a0.1.length:Int),()),((),()),()),((a0.1,a0.2.1,a0.2.2.1,a0.2.2.2,()),((),(),false,(),()),((),(),a0.2.2.1,(),()),()),([],r1,()))) (fun y4 =>
    zjw (yq4 ((((),()),((),()),(y4.2.1.1.2.1,()),((y4.2.1.1.2.1.length:Int),()),((),()),()),(((),(),y4.2.1.2.1.2.2.1,(),()),((),(),y4.2.1.2.2.1.2.2.1,(),()),()),(y4.2.2.1,[],y4.2.2.2.1,()))) (fun y8 =>
      some (((y8.2.2.1,y8.2.2.2.1,y8.2.1.2.1.2.2.1,y8.2.2.2.2.1),()),())) (fun y8 =>
      none)) (fun y4 =>
    none)
theorem yU6 (x:InD ygs):zjH ⟨ygo,49,yA3⟩ Tryz.f219.results.toList yco ygs yqj x=yl4 x.1:=by kernel_rfl
theorem yQg:ConOk Tryz.prog 219 ⟨ygs,yqj,fun x=>yl4 x.1⟩:=zkh (yL7) Tryz.func219 (by kernel_rfl) (by kernel_rfl) Tryz.ntmps219.symm (by decide) (fun x r h=>(yU6 x).trans h)
def ybm (a0:dM):dM:=a0
theorem yTe (a0:dM) (hk:zi9 ygs (a0,())):yl4 a0=(fun n=>some ((n,()),())) (ybm a0):=by
  have hb1:a0.1.length * 24≤2 ^ 47:=hk.1.1.1
  have hb2:a0.2.1.length * 32≤2 ^ 47:=hk.1.2.1.1
  have h1:yq3 (yKL a0.1 a0.1.length a0 ye ([],[],a0.2.2.1,a0.2.2.2))=some (.inl (yyq a0 ye (a0.1,[],a0.2.2.1,a0.2.2.2))):=by
    have:=zkk (step:=ybN) a0.1 [] (fun i s=>ypD a0.1 a0.1.length i a0 ye (s,[],a0.2.2.1,a0.2.2.2)) (fun s x=>s++ [x]) (fun i s=>s.length=i) (fun s=> .inl (yyq a0 ye (s,[],a0.2.2.1,a0.2.2.2))) (fun i s hi hs2=>⟨by
      simp only [ybN,ypD,ypV,zjI (show (i:Int) < a0.1.length by omega),cond_true,wr (show -9223372036854775808≤(i:Int)+1 by omega) (by omega),Int.natCast_add,Int.natCast_one,Int.toNat_natCast,zkO hi,zjW,yr]
      rw [zkw.2 (show (s.length+ [a0.1.getD i []].length) * 24≤140737488355328 by simp only [List.length_cons,List.length_nil]; omega)]; rfl,by simp [hs2]⟩) (fun s _=>by simp only [ybN,ypD,ypV,zkm (Int.le_refl _),cond_false]) [] rfl 18446744073709551616 (by omega)
    rw [ytb]at this
    exact this
  have h2:yq4 (yKM a0.2.1 a0.2.1.length ye (a0.1,[],a0.2.2.1,a0.2.2.2))=some (.inl (yyr ye a0)):=by
    have:=zkk (step:=ybO) a0.2.1 (0,[]) (fun i s=>ypE a0.2.1 a0.2.1.length i ye (a0.1,s,a0.2.2.1,a0.2.2.2)) (fun s x=>s++ [x]) (fun i s=>s.length=i) (fun s=> .inl (yyr ye (a0.1,s,a0.2.2.1,a0.2.2.2))) (fun i s hi hs2=>⟨by
      simp only [ybO,ypE,ypW,zjI (show (i:Int) < a0.2.1.length by omega),cond_true,wr (show -9223372036854775808≤(i:Int)+1 by omega) (by omega),Int.natCast_add,Int.natCast_one,Int.toNat_natCast,zkO hi,zjW,yr,zkV]
      rw [zkw.2 (show (s.length+ [a0.2.1.getD i (0,[])].length) * 32≤140737488355328 by simp only [List.length_cons,List.length_nil]; omega)]; rfl,by simp [hs2]⟩) (fun s _=>by simp only [ybO,ypE,ypW,zkm (Int.le_refl _),cond_false]) [] rfl 18446744073709551616 (by omega)
    rw [ytb]at this
    exact this
  unfold yl4 ybm
  simp only [yr,h1,zkJ,h2]
def ylR:Con:=⟨ygs,yqj,fun x=>(fun n=>some ((n,()),())) (ybm x.1)⟩
theorem yvz:ConOk Tryz.prog 219 ylR:=(yQg).mono (fun x r hk h=>(yTe x.1 hk).trans h)
end
section
def yie:Code:=(Tryz.f143.body).getD .skip
def ynJ:Env:=zki TT [(219,ylR)] []
theorem yKj:FrOk Tryz.prog ⟨ynJ,20,fun _=>none⟩ yie:=zkp yc yd ⟨yvz,trivial⟩
def yzg:Nat→Option Seg:=fun _=>none
def yba:Shape:=⟨[(3,false,[.at 800000000]),(7,false,[.br tM]),(8,false,[.int .i64]),(9,false,[.int .i64])],[],[(800000000,tM,(.pr (.ow (.ow .fz)) (.pr (.ow (.pr .fz (.ow .fz))) (.pr .fz (.ow .fz)))))]⟩
def yeR:Shape:=⟨[(3,false,[.at 800000000]),(7,false,[.br tM]),(8,false,[.int .i64]),(9,false,[.ci .i64 0])],[],[(800000000,tM,(.pr (.ow (.ow .fz)) (.pr (.ow (.pr .fz (.ow .fz))) (.pr .fz (.ow .fz)))))]⟩
def yeI:Shape:=⟨[(3,false,[.at 800000000])],[],[(800000000,tM,(.pr (.ow (.ow .fz)) (.pr (.ow (.pr .fz (.ow .fz))) (.pr .fz (.ow .fz)))))]⟩
def yja:Shape:=⟨[],[],[]⟩
abbrev ynn (v0:List dM) (v1:Int) (v2:Int) (v3:List dM):(yba).X:=((((),()),(v0,()),(v1,()),(v2,()),()),(),(v3,()))
abbrev yII (v0:List dM) (v1:Int) (v2:List dM):(yeR).X:=((((),()),(v0,()),(v1,()),((),()),()),(),(v2,()))
abbrev yIC (v0:List dM):(yeI).X:=((((),()),()),(),(v0,()))
def ynz (v0:List dM) (v1:Int) (v2:Int) (v3:List dM):Option ((yba).X ⊕ ((yeI).X ⊕ (yja).X)) :=
  bif (ltb v2 v1) then
    bif (inb v2 v0.length) then
      let r2:=ybm ((nth v0 v2 ([],[],false,[])).1,((nth v0 v2 ([],[],false,[])).2).1,(((nth v0 v2 ([],[],false,[])).2).2))
      bif (zj4 v3.length ([r2]:List dM).length 80) then
        some (.inl ((((),()),(v0,()),(v1,()),((IntKind.i64.wrap (v2+1)),()),()),(),((v3++([r2]:List dM)),())))
      else none
    else none
  else
    some (.inr (.inl ((((),()),()),(),(v3,()))))
def ybr (x:(yba).X):=ynz x.1.2.1.1 x.1.2.2.1.1 x.1.2.2.2.1.1 x.2.2.1
def ywc (x:(yeR).X):(yba).X:=((((),()),(x.1.2.1.1,()),(x.1.2.2.1.1,()),(0,()),()),(),(x.2.2.1,()))
def yxK:Code:=(zdI yie 64 116).getD .skip
theorem yJP:zdI yie 64 29=some (.block 0 (.loop yxK)):=by kernel_rfl
theorem yLk (x:(yba).X):zg7 ⟨ynJ,20,yzg⟩ 0 yxK 116 yba yeI yja x=ybr x:=by kernel_rfl
def ywm (x:(yeR).X):Nat:=(fun (u0:List dM) (u1:Int) (u2:List dM)=>18446744073709551616) x.1.2.1.1 x.1.2.2.1.1 x.2.2.1
def yo1 (x:(yeR).X):Option ((yeI).X ⊕ (yja).X):=zr ybr (ywm x) (ywc x)
def ywB:Seg:=⟨yeR,yeI,yja,yo1⟩
def yzh:Nat→Option Seg:=fun q=>bif Nat.beq q 29 then some ywB else yzg q
theorem yKk:FrOk Tryz.prog ⟨ynJ,20,yzh⟩ yie:=(yKj).loop (sg:=ywB) yba ywc (by decide) yJP ybr ywm (by decide) (fun _=>rfl) (fun x r _ h=>h) yLk
abbrev yfe:List Par:= [.rd tMs]
abbrev ynW:List OT:= [⟨false,tMs,(.ow (.pr (.ow (.ow .fz)) (.pr (.ow (.pr .fz (.ow .fz))) (.pr .fz (.ow .fz)))))⟩]
def yj8 (a0:List dM):Option (ResD ynW×MutD yfe) :=
  zjw (yo1 ((((),()),(a0,()),((a0.length:Int),()),((),()),()),(),(([]:List dM),()))) (fun y2 =>
    some ((y2.2.2.1,()),())) (fun y2 =>
    none)
theorem yRY (x:InD yfe):zjH ⟨ynJ,20,yzh⟩ Tryz.f143.results.toList yie yfe ynW x=yj8 x.1:=by kernel_rfl
theorem yM9:ConOk Tryz.prog 143 ⟨yfe,ynW,fun x=>yj8 x.1⟩:=zkh (yKk) Tryz.func143 (by kernel_rfl) (by kernel_rfl) Tryz.ntmps143.symm (by decide) (fun x r h=>(yRY x).trans h)
def yop (a0:List dM):List dM:=a0
theorem yP0 (a0:List dM) (hk:zi9 yfe (a0,())):yj8 a0=(fun n=>some ((n,()),())) (yop a0):=by
  have hb:a0.length * 80≤2 ^ 47:=hk.1.1
  have h1:=zkk (step:=ybr) a0 ye (fun i s=>ynn a0 a0.length i s) (fun s x=>s++ [x]) (fun i s=>s.length=i) (fun s=> .inl (yIC s)) (fun i s hi hs=>⟨by
      simp only [ybr,ynn,ynz,zjI (show (i:Int) < a0.length by omega),cond_true,wr (show -9223372036854775808≤(i:Int)+1 by omega) (by omega),Int.natCast_add,Int.natCast_one,Int.toNat_natCast,zkO hi,zjW,ybm,zkV]
      rw [zkw.2 (show (s.length+ [a0.getD i ([],[],false,[])].length) * 80≤140737488355328 by simp only [List.length_cons,List.length_nil]; omega)]; rfl,by simp [hs]⟩) (fun s hs=>by simp only [ybr,ynn,ynz,zkm (Int.le_refl _),cond_false]) [] rfl 18446744073709551616 (by omega)
  rw [ytb]at h1
  unfold yj8 yop
  rw [show yo1 (yII a0 a0.length [])=_ from h1]; rfl
def yzL:Con:=⟨yfe,ynW,fun x=>(fun n=>some ((n,()),())) (yop x.1)⟩
theorem yQF:ConOk Tryz.prog 143 yzL:=(yM9).mono (fun x r hk h=>(yP0 x.1 hk).trans h)
end
section
def ykk:Code:=(Tryz.f98.body).getD .skip
def yp8:Env:=zki TT [(143,yzL),(200,ydu)] []
theorem yL3:FrOk Tryz.prog ⟨yp8,31,fun _=>none⟩ ykk:=zkp yc yd ⟨yQF,yhF,trivial⟩
def yA0:Nat→Option Seg:=fun _=>none
def yby:Shape:=⟨[(1,false,[.ptr 0 0]),(2,false,[.ptr 64 0]),(3,false,[.at 800000000]),(8,false,[.br tW]),(9,false,[.int .i64]),(10,false,[.int .i64])],[(0,[.int .i64,.int .i64,.int .i64,.br tM,.int .i64,.int .i64,.int .i64,.int .i64,.int .i64,.br tW,.int .i64,.bool,.bool]),(64,[.int .i64,.int .i64,.int .i64,.nil,.int .i64,.int .i64,.int .i64,.int .i64,.int .i64,.nil,.int .i64,.bool,.bool])],[(800000000,tW,(.pr .fz (.ow .fz)))]⟩
def yfW:Shape:=⟨[(1,false,[.ptr 0 0]),(2,false,[.ptr 64 0]),(3,false,[.at 800000000]),(8,false,[.br tW]),(9,false,[.int .i64]),(10,false,[.ci .i64 0])],[(0,[.int .i64,.int .i64,.int .i64,.br tM,.int .i64,.int .i64,.int .i64,.int .i64,.int .i64,.br tW,.int .i64,.bool,.bool]),(64,[.int .i64,.int .i64,.int .i64,.nil,.int .i64,.int .i64,.int .i64,.int .i64,.int .i64,.nil,.int .i64,.bool,.bool])],[(800000000,tW,(.pr .fz (.ow .fz)))]⟩
def yfL:Shape:=⟨[(1,false,[.ptr 0 0]),(2,false,[.ptr 64 0]),(3,false,[.at 800000000])],[(0,[.int .i64,.int .i64,.int .i64,.br tM,.int .i64,.int .i64,.int .i64,.int .i64,.int .i64,.br tW,.int .i64,.bool,.bool]),(64,[.int .i64,.int .i64,.int .i64,.nil,.int .i64,.int .i64,.int .i64,.int .i64,.int .i64,.nil,.int .i64,.bool,.bool])],[(800000000,tW,(.pr .fz (.ow .fz)))]⟩
def yjP:Shape:=⟨[],[],[]⟩
abbrev ypC (v0:List dW) (v1:Int) (v2:Int) (v3:dA) (v4:dA) (v5:List dW):(yby).X:=((((),()),((),()),((),()),(v0,()),(v1,()),(v2,()),()),((v3.1,v3.2.1.1,v3.2.1.2,v3.2.2.1,v3.2.2.2.1,v3.2.2.2.2.1,v3.2.2.2.2.2.1,v3.2.2.2.2.2.2.1,v3.2.2.2.2.2.2.2.1,v3.2.2.2.2.2.2.2.2.1,v3.2.2.2.2.2.2.2.2.2.1,v3.2.2.2.2.2.2.2.2.2.2.1,v3.2.2.2.2.2.2.2.2.2.2.2,()),(v4.1,v4.2.1.1,v4.2.1.2,(),v4.2.2.2.1,v4.2.2.2.2.1,v4.2.2.2.2.2.1,v4.2.2.2.2.2.2.1,v4.2.2.2.2.2.2.2.1,(),v4.2.2.2.2.2.2.2.2.2.1,v4.2.2.2.2.2.2.2.2.2.2.1,v4.2.2.2.2.2.2.2.2.2.2.2,()),()),(v5,()))
abbrev yKK (v0:List dW) (v1:Int) (v2:dA) (v3:dA) (v4:List dW):(yfW).X:=((((),()),((),()),((),()),(v0,()),(v1,()),((),()),()),((v2.1,v2.2.1.1,v2.2.1.2,v2.2.2.1,v2.2.2.2.1,v2.2.2.2.2.1,v2.2.2.2.2.2.1,v2.2.2.2.2.2.2.1,v2.2.2.2.2.2.2.2.1,v2.2.2.2.2.2.2.2.2.1,v2.2.2.2.2.2.2.2.2.2.1,v2.2.2.2.2.2.2.2.2.2.2.1,v2.2.2.2.2.2.2.2.2.2.2.2,()),(v3.1,v3.2.1.1,v3.2.1.2,(),v3.2.2.2.1,v3.2.2.2.2.1,v3.2.2.2.2.2.1,v3.2.2.2.2.2.2.1,v3.2.2.2.2.2.2.2.1,(),v3.2.2.2.2.2.2.2.2.2.1,v3.2.2.2.2.2.2.2.2.2.2.1,v3.2.2.2.2.2.2.2.2.2.2.2,()),()),(v4,()))
abbrev yKE (v0:dA) (v1:dA) (v2:List dW):(yfL).X:=((((),()),((),()),((),()),()),((v0.1,v0.2.1.1,v0.2.1.2,v0.2.2.1,v0.2.2.2.1,v0.2.2.2.2.1,v0.2.2.2.2.2.1,v0.2.2.2.2.2.2.1,v0.2.2.2.2.2.2.2.1,v0.2.2.2.2.2.2.2.2.1,v0.2.2.2.2.2.2.2.2.2.1,v0.2.2.2.2.2.2.2.2.2.2.1,v0.2.2.2.2.2.2.2.2.2.2.2,()),(v1.1,v1.2.1.1,v1.2.1.2,(),v1.2.2.2.1,v1.2.2.2.2.1,v1.2.2.2.2.2.1,v1.2.2.2.2.2.2.1,v1.2.2.2.2.2.2.2.1,(),v1.2.2.2.2.2.2.2.2.2.1,v1.2.2.2.2.2.2.2.2.2.2.1,v1.2.2.2.2.2.2.2.2.2.2.2,()),()),(v2,()))
def ypU (v0:List dW) (v1:Int) (v2:Int) (v3:Int) (v4:Int) (v5:Int) (v6:List dM) (v7:Int) (v8:Int) (v9:Int) (v10:Int) (v11:Int) (v12:List dW) (v13:Int) (v14:Bool) (v15:Bool) (v16:Int) (v17:Int) (v18:Int) (v19:Int) (v20:Int) (v21:Int) (v22:Int) (v23:Int) (v24:Int) (v25:Bool) (v26:Bool) (v27:List dW):Option ((yby).X ⊕ ((yfL).X ⊕ (yjP).X)) :=
  bif (ltb v2 v1) then
    bif (inb v2 v0.length) then
      let r2:=yr ((nth v0 v2 (0,[])).2)
      bif (zj4 v27.length ([((nth v0 v2 (0,[])).1,r2)]:List dW).length 32) then
        some (.inl ((((),()),((),()),((),()),(v0,()),(v1,()),((IntKind.i64.wrap (v2+1)),()),()),((v3,v4,v5,v6,v7,v8,v9,v10,v11,v12,v13,v14,v15,()),(v16,v17,v18,(),v19,v20,v21,v22,v23,(),v24,v25,v26,()),()),((v27++([((nth v0 v2 (0,[])).1,r2)]:List dW)),())))
      else none
    else none
  else
    some (.inr (.inl ((((),()),((),()),((),()),()),((v3,v4,v5,v6,v7,v8,v9,v10,v11,v12,v13,v14,v15,()),(v16,v17,v18,(),v19,v20,v21,v22,v23,(),v24,v25,v26,()),()),(v27,()))))
def ybM (x:(yby).X):=ypU x.1.2.2.2.1.1 x.1.2.2.2.2.1.1 x.1.2.2.2.2.2.1.1 x.2.1.1.1 x.2.1.1.2.1 x.2.1.1.2.2.1 x.2.1.1.2.2.2.1 x.2.1.1.2.2.2.2.1 x.2.1.1.2.2.2.2.2.1 x.2.1.1.2.2.2.2.2.2.1 x.2.1.1.2.2.2.2.2.2.2.1 x.2.1.1.2.2.2.2.2.2.2.2.1 x.2.1.1.2.2.2.2.2.2.2.2.2.1 x.2.1.1.2.2.2.2.2.2.2.2.2.2.1 x.2.1.1.2.2.2.2.2.2.2.2.2.2.2.1 x.2.1.1.2.2.2.2.2.2.2.2.2.2.2.2.1 x.2.1.2.1.1 x.2.1.2.1.2.1 x.2.1.2.1.2.2.1 x.2.1.2.1.2.2.2.2.1 x.2.1.2.1.2.2.2.2.2.1 x.2.1.2.1.2.2.2.2.2.2.1 x.2.1.2.1.2.2.2.2.2.2.2.1 x.2.1.2.1.2.2.2.2.2.2.2.2.1 x.2.1.2.1.2.2.2.2.2.2.2.2.2.2.1 x.2.1.2.1.2.2.2.2.2.2.2.2.2.2.2.1 x.2.1.2.1.2.2.2.2.2.2.2.2.2.2.2.2.1 x.2.2.1
def yxX (x:(yfW).X):(yby).X:=((((),()),((),()),((),()),(x.1.2.2.2.1.1,()),(x.1.2.2.2.2.1.1,()),(0,()),()),((x.2.1.1.1,x.2.1.1.2.1,x.2.1.1.2.2.1,x.2.1.1.2.2.2.1,x.2.1.1.2.2.2.2.1,x.2.1.1.2.2.2.2.2.1,x.2.1.1.2.2.2.2.2.2.1,x.2.1.1.2.2.2.2.2.2.2.1,x.2.1.1.2.2.2.2.2.2.2.2.1,x.2.1.1.2.2.2.2.2.2.2.2.2.1,x.2.1.1.2.2.2.2.2.2.2.2.2.2.1,x.2.1.1.2.2.2.2.2.2.2.2.2.2.2.1,x.2.1.1.2.2.2.2.2.2.2.2.2.2.2.2.1,()),(x.2.1.2.1.1,x.2.1.2.1.2.1,x.2.1.2.1.2.2.1,(),x.2.1.2.1.2.2.2.2.1,x.2.1.2.1.2.2.2.2.2.1,x.2.1.2.1.2.2.2.2.2.2.1,x.2.1.2.1.2.2.2.2.2.2.2.1,x.2.1.2.1.2.2.2.2.2.2.2.2.1,(),x.2.1.2.1.2.2.2.2.2.2.2.2.2.2.1,x.2.1.2.1.2.2.2.2.2.2.2.2.2.2.2.1,x.2.1.2.1.2.2.2.2.2.2.2.2.2.2.2.2.1,()),()),(x.2.2.1,()))
def yzv:Code:=(zdI ykk 64 116).getD .skip
theorem yLM:zdI ykk 64 29=some (.block 0 (.loop yzv)):=by kernel_rfl
theorem yNt (x:(yby).X):zg7 ⟨yp8,31,yA0⟩ 0 yzv 116 yby yfL yjP x=ybM x:=by kernel_rfl
def yyc (x:(yfW).X):Nat:=(fun (u0:List dW) (u1:Int) (u2:Int) (u3:Int) (u4:Int) (u5:List dM) (u6:Int) (u7:Int) (u8:Int) (u9:Int) (u10:Int) (u11:List dW) (u12:Int) (u13:Bool) (u14:Bool) (u15:Int) (u16:Int) (u17:Int) (u18:Int) (u19:Int) (u20:Int) (u21:Int) (u22:Int) (u23:Int) (u24:Bool) (u25:Bool) (u26:List dW)=>18446744073709551616) x.1.2.2.2.1.1 x.1.2.2.2.2.1.1 x.2.1.1.1 x.2.1.1.2.1 x.2.1.1.2.2.1 x.2.1.1.2.2.2.1 x.2.1.1.2.2.2.2.1 x.2.1.1.2.2.2.2.2.1 x.2.1.1.2.2.2.2.2.2.1 x.2.1.1.2.2.2.2.2.2.2.1 x.2.1.1.2.2.2.2.2.2.2.2.1 x.2.1.1.2.2.2.2.2.2.2.2.2.1 x.2.1.1.2.2.2.2.2.2.2.2.2.2.1 x.2.1.1.2.2.2.2.2.2.2.2.2.2.2.1 x.2.1.1.2.2.2.2.2.2.2.2.2.2.2.2.1 x.2.1.2.1.1 x.2.1.2.1.2.1 x.2.1.2.1.2.2.1 x.2.1.2.1.2.2.2.2.1 x.2.1.2.1.2.2.2.2.2.1 x.2.1.2.1.2.2.2.2.2.2.1 x.2.1.2.1.2.2.2.2.2.2.2.1 x.2.1.2.1.2.2.2.2.2.2.2.2.1 x.2.1.2.1.2.2.2.2.2.2.2.2.2.2.1 x.2.1.2.1.2.2.2.2.2.2.2.2.2.2.2.1 x.2.1.2.1.2.2.2.2.2.2.2.2.2.2.2.2.1 x.2.2.1
def yq2 (x:(yfW).X):Option ((yfL).X ⊕ (yjP).X):=zr ybM (yyc x) (yxX x)
def yyC:Seg:=⟨yfW,yfL,yjP,yq2⟩
def yA1:Nat→Option Seg:=fun q=>bif Nat.beq q 29 then some yyC else yA0 q
theorem yL4:FrOk Tryz.prog ⟨yp8,31,yA1⟩ ykk:=(yL3).loop (sg:=yyC) yby yxX (by decide) yLM ybM yyc (by decide) (fun _=>rfl) (fun x r _ h=>h) yNt
abbrev ygr:List Par:= [.rd tA]
abbrev yqi:List OT:= [⟨false,tA,(.pr .fz (.pr (.pr .fz .fz) (.pr (.ow (.pr (.ow (.ow .fz)) (.pr (.ow (.pr .fz (.ow .fz))) (.pr .fz (.ow .fz))))) (.pr .fz (.pr .fz (.pr .fz (.pr .fz (.pr .fz (.pr (.ow (.pr .fz (.ow .fz))) (.pr .fz (.pr .fz .fz)))))))))))⟩]
def yl3 (a0:dA):Option (ResD yqi×MutD ygr) :=
  zjw (yq2 ((((),()),((),()),((),()),(a0.2.2.2.2.2.2.2.2.1,()),((a0.2.2.2.2.2.2.2.2.1.length:Int),()),((),()),()),((a0.1,a0.2.1.1,a0.2.1.2,a0.2.2.1,a0.2.2.2.1,a0.2.2.2.2.1,a0.2.2.2.2.2.1,a0.2.2.2.2.2.2.1,a0.2.2.2.2.2.2.2.1,a0.2.2.2.2.2.2.2.2.1,a0.2.2.2.2.2.2.2.2.2.1,a0.2.2.2.2.2.2.2.2.2.2.1,a0.2.2.2.2.2.2.2.2.2.2.2,()),(0,0,0,(),0,0,0,0,0,(),0,false,false,()),()),(([]:List dW),()))) (fun y2 =>
    let r4:=yop y2.2.1.1.2.2.2.1
    some (((y2.2.1.1.1,(y2.2.1.1.2.1,y2.2.1.1.2.2.1),r4,y2.2.1.1.2.2.2.2.1,y2.2.1.1.2.2.2.2.2.1,y2.2.1.1.2.2.2.2.2.2.1,y2.2.1.1.2.2.2.2.2.2.2.1,y2.2.1.1.2.2.2.2.2.2.2.2.1,y2.2.2.1,y2.2.1.1.2.2.2.2.2.2.2.2.2.2.1,y2.2.1.1.2.2.2.2.2.2.2.2.2.2.2.1,y2.2.1.1.2.2.2.2.2.2.2.2.2.2.2.2.1),()),())) (fun y2 =>
    none)
theorem yU5 (x:InD ygr):zjH ⟨yp8,31,yA1⟩ Tryz.f98.results.toList ykk ygr yqi x=yl3 x.1:=by kernel_rfl
theorem yQf:ConOk Tryz.prog 98 ⟨ygr,yqi,fun x=>yl3 x.1⟩:=zkh (yL4) Tryz.func98 (by kernel_rfl) (by kernel_rfl) Tryz.ntmps98.symm (by decide) (fun x r h=>(yU5 x).trans h)
def ybl (a0:dA):dA:=a0
theorem yTd (a0:dA) (hk:zi9 ygr (a0,())):yl3 a0=(fun n=>some ((n,()),())) (ybl a0):=by
  have hb:a0.2.2.2.2.2.2.2.2.1.length * 32≤2 ^ 47:=hk.1.2.2.2.2.2.2.2.2.1.1
  have h1:=zkk (step:=ybM) a0.2.2.2.2.2.2.2.2.1 (0,[]) (fun i s=>ypC a0.2.2.2.2.2.2.2.2.1 a0.2.2.2.2.2.2.2.2.1.length i a0 yU s) (fun s x=>s++ [x]) (fun i s=>s.length=i) (fun s=> .inl (yKE a0 yU s)) (fun i s hi hs=>⟨by
      simp only [ybM,ypC,ypU,zjI (show (i:Int) < a0.2.2.2.2.2.2.2.2.1.length by omega),cond_true,wr (show -9223372036854775808≤(i:Int)+1 by omega) (by omega),Int.natCast_add,Int.natCast_one,Int.toNat_natCast,zkO hi,zjW,yr,zkV]
      rw [zkw.2 (show (s.length+ [a0.2.2.2.2.2.2.2.2.1.getD i (0,[])].length) * 32≤140737488355328 by simp only [List.length_cons,List.length_nil]; omega)]; rfl,by simp [hs]⟩) (fun s hs=>by simp only [ybM,ypC,ypU,zkm (Int.le_refl _),cond_false]) [] rfl 18446744073709551616 (by omega)
  rw [ytb]at h1
  unfold yl3 ybl
  rw [show yq2 (yKK a0.2.2.2.2.2.2.2.2.1 a0.2.2.2.2.2.2.2.2.1.length a0 yU [])=_ from h1]; rfl
def ylQ:Con:=⟨ygr,yqi,fun x=>(fun n=>some ((n,()),())) (ybl x.1)⟩
theorem yvy:ConOk Tryz.prog 98 ylQ:=(yQf).mono (fun x r hk h=>(yTd x.1 hk).trans h)
end
section
def yHf:Code:=(Tryz.f99.body).getD .skip
def yHI:Env:=zki TT [(126,yJ)] []
theorem yOz:FrOk Tryz.prog ⟨yHI,10,fun _=>none⟩ yHf:=zkp yc yd ⟨yaa,trivial⟩
def yQ6:Nat→Option Seg:=fun _=>none
abbrev yhW:List Par:= [.rd tI]
abbrev ysc:List OT:= [⟨false,tM,(.pr (.ow (.ow .fz)) (.pr (.ow (.pr .fz (.ow .fz))) (.pr .fz (.ow .fz))))⟩]
def yov (a0:Int):Option (ResD ysc×MutD yhW) :=
  let r1:=yh a0 1 20
  bif (!r1) then
    some ((([],[],false,[]),()),())
  else
    bif (zkc a0 24) then
      some ((((List.replicate (a0).toNat ([]:List Int)),[],false,[]),()),())
    else none
theorem yXz (x:InD yhW):zjH ⟨yHI,10,yQ6⟩ Tryz.f99.results.toList yHf yhW ysc x=yov x.1:=by kernel_rfl
theorem yTy:ConOk Tryz.prog 99 ⟨yhW,ysc,fun x=>yov x.1⟩:=zkh (yOz) Tryz.func99 (by kernel_rfl) (by kernel_rfl) Tryz.ntmps99.symm (by decide) (fun x r h=>(yXz x).trans h)
def ymY (a0:Int):dM:=ybZ a0
theorem yVB (a0:Int) (hk:zi9 yhW (a0,())):yov a0=(fun n=>some ((n,()),())) (ymY a0):=by
  unfold yov ymY ybZ
  simp only [yaw,ydj]
  cases hc:(leb 1 a0&&leb a0 20)
  · rfl
  · rw [Bool.and_eq_true,zjQ,zjQ]at hc
    rw [zkH.2 (show 0≤a0∧a0 * ((24:Nat):Int)≤140737488355328 by omega)]; rfl
def yEa:Con:=⟨yhW,ysc,fun x=>(fun n=>some ((n,()),())) (ymY x.1)⟩
theorem yWB:ConOk Tryz.prog 99 yEa:=(yTy).mono (fun x r hk h=>(yVB x.1 hk).trans h)
end
end
end Go.Tf
