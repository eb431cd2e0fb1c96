/- Functions of the program, and what they come to. -/
import Derived.Test.YtfpjmijaiekbgaaGreatExactBuildAllF14
namespace Go.Tf
noncomputable section
open Go.Proofs
set_option synthInstance.maxHeartbeats 400000
set_option synthInstance.maxSize 10000
set_option linter.unusedVariables false
set_option linter.unusedSimpArgs false
set_option maxRecDepth 100000
section
def yCk:Code:=(Tryz.f133.body).getD .skip
def yCK:Env:=zki TT [] []
theorem yIf:FrOk Tryz.prog ⟨yCK,6,fun _=>none⟩ yCk:=zkp yb yc trivial
def yJY:Nat→Option Seg:=fun _=>none
abbrev yjn:List Par:= [.rd tG]
abbrev yoH:List OT:= [⟨false,tI,.fz⟩]
def yrI (a0:dG):Option (ResD yoH×MutD yjn) :=
  some (((IntKind.i64.wrap (6+a0.2)),()),())
theorem yQv (x:InD yjn):zjH ⟨yCK,6,yJY⟩ Tryz.f133.results.toList yCk yjn yoH x=yrI x.1:=by kernel_rfl
theorem yL3:ConOk Tryz.prog 133 ⟨yjn,yoH,fun x=>yrI x.1⟩:=zkh (yIf) Tryz.func133 (by kernel_rfl) (by kernel_rfl) Tryz.ntmps133.symm (by decide) (fun x r h=>(yQv x).trans h)
def yfm (a0:dG):Int :=
  (IntKind.i64.wrap (6+a0.2))
def yrs:Con:=⟨yjn,yoH,fun x=>(fun n=>some ((n,()),())) (yfm x.1)⟩
theorem yOF (a0:dG):yrI a0=(fun n=>some ((n,()),())) (yfm a0):=zkS (p:=fun (n:Int)=>((n,()),())) rfl
theorem yB2:ConOk Tryz.prog 133 yrs:=(yL3).mono (fun x r _ h=>(yOF x.1).trans h)
end
section
def ym9:Code:=(Tryz.f51.body).getD .skip
def ysc:Env:=zki TT [(114,yo),(129,yoV),(130,ys5),(131,yzE),(132,yjG),(133,yrs)] []
theorem yNN:FrOk Tryz.prog ⟨ysc,103,fun _=>none⟩ ym9:=zkp yb yc ⟨yF,ywz,yDv,yPt,yq9,yB2,trivial⟩
def yCr:Nat→Option Seg:=fun _=>none
def ycp:Shape:=⟨[(1,false,[.ptr 0 0]),(41,false,[.br tM]),(42,false,[.int .i64]),(43,false,[.int .i64])],[(0,[.int .i64,.int .i64,.int .i64,.br tM,.int .i64,.int .i64,.int .i64,.int .i64,.int .i64,.br tW,.int .i64,.bool,.bool])],[]⟩
def yha:Shape:=⟨[(1,false,[.ptr 0 0]),(41,false,[.br tM]),(42,false,[.int .i64]),(43,false,[.ci .i64 0])],[(0,[.int .i64,.int .i64,.int .i64,.br tM,.int .i64,.int .i64,.int .i64,.int .i64,.int .i64,.br tW,.int .i64,.bool,.bool])],[]⟩
def ygV:Shape:=⟨[(1,false,[.ptr 0 0])],[(0,[.int .i64,.int .i64,.int .i64,.br tM,.int .i64,.int .i64,.int .i64,.int .i64,.int .i64,.br tW,.int .i64,.bool,.bool])],[]⟩
def yhv:Shape:=⟨[(2,false,[.bool])],[],[]⟩
abbrev yrw (v0:List dM) (v1:Int) (v2:Int) (v3:dA):(ycp).X:=((((),()),(v0,()),(v1,()),(v2,()),()),((v3.1,v3.2.1.1,v3.2.1.2,v3.2.2.1,v3.2.2.2.1,v3.2.2.2.2.1,v3.2.2.2.2.2.1,v3.2.2.2.2.2.2.1,v3.2.2.2.2.2.2.2.1,v3.2.2.2.2.2.2.2.2.1,v3.2.2.2.2.2.2.2.2.2.1,v3.2.2.2.2.2.2.2.2.2.2.1,v3.2.2.2.2.2.2.2.2.2.2.2,()),()),())
abbrev yLn (v0:List dM) (v1:Int) (v2:dA):(yha).X:=((((),()),(v0,()),(v1,()),((),()),()),((v2.1,v2.2.1.1,v2.2.1.2,v2.2.2.1,v2.2.2.2.1,v2.2.2.2.2.1,v2.2.2.2.2.2.1,v2.2.2.2.2.2.2.1,v2.2.2.2.2.2.2.2.1,v2.2.2.2.2.2.2.2.2.1,v2.2.2.2.2.2.2.2.2.2.1,v2.2.2.2.2.2.2.2.2.2.2.1,v2.2.2.2.2.2.2.2.2.2.2.2,()),()),())
abbrev yLg (v0:dA):(ygV).X:=((((),()),()),((v0.1,v0.2.1.1,v0.2.1.2,v0.2.2.1,v0.2.2.2.1,v0.2.2.2.2.1,v0.2.2.2.2.2.1,v0.2.2.2.2.2.2.1,v0.2.2.2.2.2.2.2.1,v0.2.2.2.2.2.2.2.2.1,v0.2.2.2.2.2.2.2.2.2.1,v0.2.2.2.2.2.2.2.2.2.2.1,v0.2.2.2.2.2.2.2.2.2.2.2,()),()),())
abbrev yLw (v0:Bool):(yhv).X:=(((v0,()),()),(),())
def yrO (v0:List dM) (v1:Int) (v2:Int) (v3:Int) (v4:Int) (v5:Int) (v6:List dM) (v7:Int) (v8:Int) (v9:Int) (v10:Int) (v11:Int) (v12:List dW) (v13:Int) (v14:Bool) (v15:Bool):Option ((ycp).X ⊕ ((ygV).X ⊕ (yhv).X)) :=
  bif (ltb v2 v1) then
    bif (inb v2 v0.length) then
      let r7:=yaB ((nth v0 v2 ([],[],false,[])).1,((nth v0 v2 ([],[],false,[])).2).1,(((nth v0 v2 ([],[],false,[])).2).2))
      bif (!(!r7)) then
        let r8:=yfm (v4,v5)
        bif (!((((nth v0 v2 ([],[],false,[])).1).length:Int) !=r8)) then
          bif (((nth v0 v2 ([],[],false,[])).2).2).1 then
            bif (v7 !=v2) then
              bif (!v15) then
                some (.inr (.inr (((false,()),()),(),())))
              else
                some (.inl ((((),()),(v0,()),(v1,()),((IntKind.i64.wrap (v2+1)),()),()),((v3,v4,v5,v6,v7,v8,v9,v10,v11,v12,v13,v14,v15,()),()),()))
            else
              some (.inl ((((),()),(v0,()),(v1,()),((IntKind.i64.wrap (v2+1)),()),()),((v3,v4,v5,v6,v7,v8,v9,v10,v11,v12,v13,v14,v15,()),()),()))
          else
            some (.inl ((((),()),(v0,()),(v1,()),((IntKind.i64.wrap (v2+1)),()),()),((v3,v4,v5,v6,v7,v8,v9,v10,v11,v12,v13,v14,v15,()),()),()))
        else
          some (.inr (.inr (((false,()),()),(),())))
      else
        some (.inr (.inr (((false,()),()),(),())))
    else none
  else
    some (.inr (.inl ((((),()),()),((v3,v4,v5,v6,v7,v8,v9,v10,v11,v12,v13,v14,v15,()),()),())))
def ycM (x:(ycp).X):=yrO x.1.2.1.1 x.1.2.2.1.1 x.1.2.2.2.1.1 x.2.1.1.1 x.2.1.1.2.1 x.2.1.1.2.2.1 x.2.1.1.2.2.2.1 x.2.1.1.2.2.2.2.1 x.2.1.1.2.2.2.2.2.1 x.2.1.1.2.2.2.2.2.2.1 x.2.1.1.2.2.2.2.2.2.2.1 x.2.1.1.2.2.2.2.2.2.2.2.1 x.2.1.1.2.2.2.2.2.2.2.2.2.1 x.2.1.1.2.2.2.2.2.2.2.2.2.2.1 x.2.1.1.2.2.2.2.2.2.2.2.2.2.2.1 x.2.1.1.2.2.2.2.2.2.2.2.2.2.2.2.1
def yzU (x:(yha).X):(ycp).X:=((((),()),(x.1.2.1.1,()),(x.1.2.2.1.1,()),(0,()),()),((x.2.1.1.1,x.2.1.1.2.1,x.2.1.1.2.2.1,x.2.1.1.2.2.2.1,x.2.1.1.2.2.2.2.1,x.2.1.1.2.2.2.2.2.1,x.2.1.1.2.2.2.2.2.2.1,x.2.1.1.2.2.2.2.2.2.2.1,x.2.1.1.2.2.2.2.2.2.2.2.1,x.2.1.1.2.2.2.2.2.2.2.2.2.1,x.2.1.1.2.2.2.2.2.2.2.2.2.2.1,x.2.1.1.2.2.2.2.2.2.2.2.2.2.2.1,x.2.1.1.2.2.2.2.2.2.2.2.2.2.2.2.1,()),()),())
def yBy:Code:=(zdI ym9 64 116).getD .skip
theorem yM9:zdI ym9 64 29=some (.block 0 (.loop yBy)):=by kernel_rfl
theorem yPM (x:(ycp).X):zg7 ⟨ysc,103,yCr⟩ 0 yBy 116 ycp ygV yhv x=ycM x:=by kernel_rfl
def yz8 (x:(yha).X):Nat:=(fun (u0:List dM) (u1:Int) (u2:Int) (u3:Int) (u4:Int) (u5:List dM) (u6:Int) (u7:Int) (u8:Int) (u9:Int) (u10:Int) (u11:List dW) (u12:Int) (u13:Bool) (u14:Bool)=>18446744073709551616) x.1.2.1.1 x.1.2.2.1.1 x.2.1.1.1 x.2.1.1.2.1 x.2.1.1.2.2.1 x.2.1.1.2.2.2.1 x.2.1.1.2.2.2.2.1 x.2.1.1.2.2.2.2.2.1 x.2.1.1.2.2.2.2.2.2.1 x.2.1.1.2.2.2.2.2.2.2.1 x.2.1.1.2.2.2.2.2.2.2.2.1 x.2.1.1.2.2.2.2.2.2.2.2.2.1 x.2.1.1.2.2.2.2.2.2.2.2.2.2.1 x.2.1.1.2.2.2.2.2.2.2.2.2.2.2.1 x.2.1.1.2.2.2.2.2.2.2.2.2.2.2.2.1
def ysj (x:(yha).X):Option ((ygV).X ⊕ (yhv).X):=zr ycM (yz8 x) (yzU x)
def yAw:Seg:=⟨yha,ygV,yhv,ysj⟩
def yCs:Nat→Option Seg:=fun q=>bif Nat.beq q 29 then some yAw else yCr q
theorem yNO:FrOk Tryz.prog ⟨ysc,103,yCs⟩ ym9:=(yNN).loop (sg:=yAw) ycp yzU (by decide) yM9 ycM yz8 (by decide) (fun _=>rfl) (fun x r _ h=>h) yPM
abbrev yjh:List Par:= [.rd tA]
abbrev ysw:List OT:= [⟨false,tB,.fz⟩]
def ypa (a0:dA):Option (ResD ysw×MutD yjh) :=
  let r1:=ydT a0.2.1
  bif (!(!r1)) then
    bif (!((a0.2.2.1.length:Int) !=a0.2.1.1)) then
      let r2:=ye a0.1 1 60000
      bif (!(!r2)) then
        let r3:=yev a0.2.1 a0.2.2.2.1 a0.2.2.2.2.1
        bif (!(!r3)) then
          bnd (yo2 a0) fun r4 =>
          bif (!r4.1.1) then
            some ((false,()),())
          else
            zjw (ysj ((((),()),(a0.2.2.1,()),((a0.2.2.1.length:Int),()),((),()),()),((a0.1,a0.2.1.1,a0.2.1.2,a0.2.2.1,a0.2.2.2.1,a0.2.2.2.2.1,a0.2.2.2.2.2.1,a0.2.2.2.2.2.2.1,a0.2.2.2.2.2.2.2.1,a0.2.2.2.2.2.2.2.2.1,a0.2.2.2.2.2.2.2.2.2.1,a0.2.2.2.2.2.2.2.2.2.2.1,a0.2.2.2.2.2.2.2.2.2.2.2,()),()),())) (fun y8 =>
              let r10:=ye y8.2.1.1.2.2.2.2.2.2.1 0 60000
              bif r10 then
                let r11:=ye y8.2.1.1.2.2.2.2.2.2.2.1 0 60000
                bif r11 then
                  let r12:=ye y8.2.1.1.2.2.2.2.2.2.2.2.1 0 60000
                  bif r12 then
                    let r13:=ye (IntKind.i64.wrap (y8.2.1.1.2.2.2.2.2.2.1 - y8.2.1.1.2.2.2.2.2.2.2.1)) 0 4
                    bif r13 then
                      let r14:=ye y8.2.1.1.2.2.2.2.2.2.2.2.2.2.1 (-1) 1000
                      some ((r14,()),())
                    else
                      some ((false,()),())
                  else
                    some ((false,()),())
                else
                  some ((false,()),())
              else
                some ((false,()),())) (fun y8 =>
              some ((y8.1.1.1,()),()))
        else
          some ((false,()),())
      else
        some ((false,()),())
    else
      some ((false,()),())
  else
    some ((false,()),())
theorem yUj (x:InD yjh):zjH ⟨ysc,103,yCs⟩ Tryz.f51.results.toList ym9 yjh ysw x=ypa x.1:=by kernel_rfl
theorem yRt:ConOk Tryz.prog 51 ⟨yjh,ysw,fun x=>ypa x.1⟩:=zkh (yNO) Tryz.func51 (by kernel_rfl) (by kernel_rfl) Tryz.ntmps51.symm (by decide) (fun x r h=>(yUj x).trans h)
theorem yWy {S T G F z TS le:Bool} (h1:T=true→TS=true→S=true) (h2:S=true→T=true→z=(TS&&le)) :
    (bif S then bif T then bif G then bif z then some ((F,()),()) else some ((false,()),()) else some ((false,()),()) else some ((false,()),()) else some ((false,()),()))=some (((T&&(TS&&(le&&(G&&F)))),()),()):=by
  cases S
  · cases T
    · rfl
    · cases TS
      · rfl
      · exact absurd (h1 rfl rfl) Bool.false_ne_true
  · cases T
    · cases G<;>rfl
    · rw [h2 rfl rfl]
      cases TS<;>cases le<;>cases G<;>rfl
def yaA (a0:dA):Bool:=yr a0
theorem yTd (a0:dA) (hk:zi9 yjh (a0,())):ypa a0=(fun n=>some ((n,()),())) (yaA a0):=by
  have hb:a0.2.2.1.length * 80≤2 ^ 47:=hk.1.2.2.1.1
  unfold ypa yaA yr
  simp only [yOu,yY,ykx]
  cases hg:yg a0.2.1
  · rfl
  have hg2:=yam.1 hg
  have h1:ysj (yLn a0.2.2.1 a0.2.2.1.length a0)=some (bif (List.range a0.2.2.1.length).any (yhQ a0) then .inr (yLw false) else .inl (yLg a0)) :=
    zf4 (step:=ycM) (fun i=>yrw a0.2.2.1 a0.2.2.1.length i a0) a0.2.2.1.length (yhQ a0) _ _ (fun i hi=>by
      simp only [ycM,yrw,yrO,zjI (show (i:Int) < a0.2.2.1.length by omega),cond_true,wr (show -9223372036854775808≤(i:Int)+1 by omega) (by omega),Int.natCast_add,Int.natCast_one,Int.toNat_natCast,zkO hi,zkV,yaB,yhQ,yfm,wr (show -9223372036854775808≤6+a0.2.1.2 by omega) (by omega),yf]
      rw [show (a0.2.2.2.1 !=(i:Int))=((i:Int) !=a0.2.2.2.1) from bne_comm]
      cases yn (nth a0.2.2.1 i ([],[],false,[]))<;>cases (((nth a0.2.2.1 i ([],[],false,[])).1.length:Int) !=6+a0.2.1.2)<;>cases (nth a0.2.2.1 i ([],[],false,[])).2.2.1<;>cases ((i:Int) !=a0.2.2.2.1)<;>cases a0.2.2.2.2.2.2.2.2.2.2.2<;>rfl) (by simp only [ycM,yrw,yrO,zkm (Int.le_refl _),cond_false]) _ (by show _ < 18446744073709551616; omega)
  rw [yPI a0 hg,h1]
  simp only [zky,yjJ,yev,yY,ykx,wr (show -9223372036854775808≤a0.2.1.1 - 1 by omega) (by omega),yti]
  have hw:(leb 0 a0.2.2.2.2.2.1&&leb a0.2.2.2.2.2.1 60000)=true→(leb 0 a0.2.2.2.2.2.2.1&&leb a0.2.2.2.2.2.2.1 60000)=true→IntKind.i64.wrap (a0.2.2.2.2.2.1 - a0.2.2.2.2.2.2.1)=a0.2.2.2.2.2.1 - a0.2.2.2.2.2.2.1:=fun h h'=>by
    rw [Bool.and_eq_true,zjQ,zjQ]at h h'
    exact wr (by omega) (by omega)
  simp only [bne,Bool.not_not,cond_true,Bool.true_and]
  have h2:(leb 0 a0.2.2.2.2.2.1&&leb a0.2.2.2.2.2.1 60000)=true→(leb 0 a0.2.2.2.2.2.2.1&&leb a0.2.2.2.2.2.2.1 60000)=true→(leb 0 (IntKind.i64.wrap (a0.2.2.2.2.2.1 - a0.2.2.2.2.2.2.1))&&leb (IntKind.i64.wrap (a0.2.2.2.2.2.1 - a0.2.2.2.2.2.2.1)) 4)=((leb a0.2.2.2.2.2.2.1 a0.2.2.2.2.2.1&&leb a0.2.2.2.2.2.1 60000)&&leb a0.2.2.2.2.2.1 (a0.2.2.2.2.2.2.1+4)):=fun h h'=>by
    rw [hw h h',Bool.eq_iff_iff]
    simp only [Bool.and_eq_true,zjQ]at h h' ⊢
    omega
  have h3:(leb 0 a0.2.2.2.2.2.2.1&&leb a0.2.2.2.2.2.2.1 60000)=true→(leb a0.2.2.2.2.2.2.1 a0.2.2.2.2.2.1&&leb a0.2.2.2.2.2.1 60000)=true→(leb 0 a0.2.2.2.2.2.1&&leb a0.2.2.2.2.2.1 60000)=true:=fun h h'=>by
    simp only [Bool.and_eq_true,zjQ]at h h' ⊢
    omega
  cases ((a0.2.2.1.length:Int)==a0.2.1.1)
  · cases (leb 1 a0.1&&leb a0.1 60000)<;>cases (List.range a0.2.2.1.length).any (yhQ a0)<;>rfl
  cases (leb 1 a0.1&&leb a0.1 60000)
  · rfl
  cases (leb (-1) a0.2.2.2.1&&leb a0.2.2.2.1 (a0.2.1.1 - 1))
  · cases (List.range a0.2.2.1.length).any (yhQ a0)<;>cases yoY a0.2.1 a0.2.2.2.2.2.2.2.2.1<;>rfl
  cases (leb 0 a0.2.2.2.2.1&&leb a0.2.2.2.2.1 a0.2.1.2)
  · cases (List.range a0.2.2.1.length).any (yhQ a0)<;>cases yoY a0.2.1 a0.2.2.2.2.2.2.2.2.1<;>rfl
  cases yoY a0.2.1 a0.2.2.2.2.2.2.2.2.1
  · cases (List.range a0.2.2.1.length).any (yhQ a0)<;>cases (a0.2.2.2.1== -1)<;>cases (a0.2.2.2.2.1==0)<;>rfl
  cases (List.range a0.2.2.1.length).any (yhQ a0)
  · cases (a0.2.2.2.1== -1)<;>cases (a0.2.2.2.2.1==0)
    case true.false=>rfl
    all_goals exact yWy h3 h2
  · cases (a0.2.2.2.1== -1)<;>cases (a0.2.2.2.2.1==0)<;>rfl
def yjF:Con:=⟨yjh,ysw,fun x=>(fun n=>some ((n,()),())) (yaA x.1)⟩
theorem yq8:ConOk Tryz.prog 51 yjF:=(yRt).mono (fun x r hk h=>(yTd x.1 hk).trans h)
end
section
def yAT:Code:=(Tryz.f151.body).getD .skip
def yBs:Env:=zki TT [] []
theorem yGw:FrOk Tryz.prog ⟨yBs,6,fun _=>none⟩ yAT:=zkp yb yc trivial
def yHJ:Nat→Option Seg:=fun _=>none
abbrev yd6:List Par:= [.rd tL]
abbrev ymn:List OT:= [⟨false,tL,(.ow .fz)⟩]
def yiP (a0:List Int):Option (ResD ymn×MutD yd6) :=
  bif (zj4 ([]:List Int).length a0.length 8) then
    some (((([]:List Int)++a0),()),())
  else none
theorem yNw (x:InD yd6):zjH ⟨yBs,6,yHJ⟩ Tryz.f151.results.toList yAT yd6 ymn x=yiP x.1:=by kernel_rfl
theorem yJa:ConOk Tryz.prog 151 ⟨yd6,ymn,fun x=>yiP x.1⟩:=zkh (yGw) Tryz.func151 (by kernel_rfl) (by kernel_rfl) Tryz.ntmps151.symm (by decide) (fun x r h=>(yNw x).trans h)
def yi (a0:List Int):List Int:=a0
theorem yLK (a0:List Int) (hk:zi9 yd6 (a0,())):yiP a0=(fun n=>some ((n,()),())) (yi a0):=by
  have hb:a0.length * 8≤2 ^ 47:=hk.1.1
  unfold yiP yi
  rw [show zj4 ([]:List Int).length a0.length 8=true by rw [zkw,List.length_nil]; omega]
  rfl
def ycK:Con:=⟨yd6,ymn,fun x=>(fun n=>some ((n,()),())) (yi x.1)⟩
theorem yf1:ConOk Tryz.prog 151 ycK:=(yJa).mono (fun x r hk h=>(yLK x.1 hk).trans h)
end
section
def ybM:Code:=(Tryz.f215.body).getD .skip
def ye9:Env:=zki TT [(151,ycK)] []
theorem yIa:FrOk Tryz.prog ⟨ye9,49,fun _=>none⟩ ybM:=zkp yb yc ⟨yf1,trivial⟩
def yyR:Nat→Option Seg:=fun _=>none
def ya2:Shape:=⟨[(1,false,[.ptr 0 0]),(2,false,[.ptr 64 0]),(3,false,[.ptr 4480 0]),(15,false,[.br tL]),(16,false,[.int .i64]),(17,false,[.int .i64])],[(0,[.br tL,.br tW,.bool,.br tI]),(64,[.nil,.nil,.bool,.nil]),(4480,[.at 800000001,.nil,.bool,.at 800000000])],[(800000001,tL,(.ow .fz)),(800000000,tI,.fz)]⟩
def yeM:Shape:=⟨[(1,false,[.ptr 0 0]),(2,false,[.ptr 64 0]),(3,false,[.ptr 4480 0]),(15,false,[.br tL]),(16,false,[.int .i64]),(17,false,[.ci .i64 0])],[(0,[.br tL,.br tW,.bool,.br tI]),(64,[.nil,.nil,.bool,.nil]),(4480,[.at 800000001,.nil,.bool,.at 800000000])],[(800000001,tL,(.ow .fz)),(800000000,tI,.fz)]⟩
def yeD:Shape:=⟨[(1,false,[.ptr 0 0]),(2,false,[.ptr 64 0]),(3,false,[.ptr 4480 0])],[(0,[.br tL,.br tW,.bool,.br tI]),(64,[.nil,.nil,.bool,.nil]),(4480,[.at 800000000,.nil,.bool,.at 800000001])],[(800000000,tL,(.ow .fz)),(800000001,tI,.fz)]⟩
def yix:Shape:=⟨[],[],[]⟩
abbrev ynS (v0:List (List Int)) (v1:Int) (v2:Int) (v3:dM) (v4:dM) (v5:dM):(ya2).X:=((((),()),((),()),((),()),(v0,()),(v1,()),(v2,()),()),((v3.1,v3.2.1,v3.2.2.1,v3.2.2.2,()),((),(),v4.2.2.1,(),()),((),(),v5.2.2.1,(),()),()),(v5.1,v5.2.2.2,()))
abbrev yG1 (v0:List (List Int)) (v1:Int) (v2:dM) (v3:dM) (v4:dM):(yeM).X:=((((),()),((),()),((),()),(v0,()),(v1,()),((),()),()),((v2.1,v2.2.1,v2.2.2.1,v2.2.2.2,()),((),(),v3.2.2.1,(),()),((),(),v4.2.2.1,(),()),()),(v4.1,v4.2.2.2,()))
abbrev yv7 (v0:dM) (v1:dM) (v2:dM):(yeD).X:=((((),()),((),()),((),()),()),((v0.1,v0.2.1,v0.2.2.1,v0.2.2.2,()),((),(),v1.2.2.1,(),()),((),(),v2.2.2.1,(),()),()),(v2.1,v2.2.2.2,()))
def yob (v0:List (List Int)) (v1:Int) (v2:Int) (v3:List (List Int)) (v4:List dW) (v5:Bool) (v6:List Int) (v7:Bool) (v8:Bool) (v9:List (List Int)) (v10:List Int):Option ((ya2).X ⊕ ((yeD).X ⊕ (yix).X)) :=
  bif (ltb v2 v1) then
    bif (inb v2 v0.length) then
      let r4:=yi (nth v0 v2 [])
      bif (zj4 v9.length ([r4]:List (List Int)).length 24) then
        some (.inl ((((),()),((),()),((),()),(v0,()),(v1,()),((IntKind.i64.wrap (v2+1)),()),()),((v3,v4,v5,v6,()),((),(),v7,(),()),((),(),v8,(),()),()),((v9++([r4]:List (List Int))),v10,())))
      else none
    else none
  else
    some (.inr (.inl ((((),()),((),()),((),()),()),((v3,v4,v5,v6,()),((),(),v7,(),()),((),(),v8,(),()),()),(v9,v10,()))))
def ybg (x:(ya2).X):=yob x.1.2.2.2.1.1 x.1.2.2.2.2.1.1 x.1.2.2.2.2.2.1.1 x.2.1.1.1 x.2.1.1.2.1 x.2.1.1.2.2.1 x.2.1.1.2.2.2.1 x.2.1.2.1.2.2.1 x.2.1.2.2.1.2.2.1 x.2.2.1 x.2.2.2.1
def yvA (x:(yeM).X):(ya2).X:=((((),()),((),()),((),()),(x.1.2.2.2.1.1,()),(x.1.2.2.2.2.1.1,()),(0,()),()),((x.2.1.1.1,x.2.1.1.2.1,x.2.1.1.2.2.1,x.2.1.1.2.2.2.1,()),((),(),x.2.1.2.1.2.2.1,(),()),((),(),x.2.1.2.2.1.2.2.1,(),()),()),(x.2.2.1,x.2.2.2.1,()))
def yxd:Code:=(zdI ybM 64 116).getD .skip
theorem yHQ:zdI ybM 64 29=some (.block 0 (.loop yxd)):=by kernel_rfl
theorem yJx (x:(ya2).X):zg7 ⟨ye9,49,yyR⟩ 0 yxd 116 ya2 yeD yix x=ybg x:=by kernel_rfl
def yvQ (x:(yeM).X):Nat:=(fun (u0:List (List Int)) (u1:Int) (u2:List (List Int)) (u3:List dW) (u4:Bool) (u5:List Int) (u6:Bool) (u7:Bool) (u8:List (List Int)) (u9:List Int)=>18446744073709551616) x.1.2.2.2.1.1 x.1.2.2.2.2.1.1 x.2.1.1.1 x.2.1.1.2.1 x.2.1.1.2.2.1 x.2.1.1.2.2.2.1 x.2.1.2.1.2.2.1 x.2.1.2.2.1.2.2.1 x.2.2.1 x.2.2.2.1
def ypr (x:(yeM).X):Option ((yeD).X ⊕ (yix).X):=zr ybg (yvQ x) (yvA x)
def ywf:Seg:=⟨yeM,yeD,yix,ypr⟩
def yrb:Nat→Option Seg:=fun q=>bif Nat.beq q 29 then some ywf else yyR q
theorem yIb:FrOk Tryz.prog ⟨ye9,49,yrb⟩ ybM:=(yIa).loop (sg:=ywf) ya2 yvA (by decide) yHQ ybg yvQ (by decide) (fun _=>rfl) (fun x r _ h=>h) yJx
def ya3:Shape:=⟨[(2,false,[.ptr 64 0]),(3,false,[.ptr 4480 0]),(30,false,[.br tW]),(31,false,[.int .i64]),(32,false,[.int .i64])],[(64,[.nil,.nil,.bool,.nil]),(4480,[.at 800000000,.at 800000002,.bool,.at 800000001])],[(800000000,tL,(.ow .fz)),(800000002,tW,(.pr .fz (.ow .fz))),(800000001,tI,.fz)]⟩
def yeN:Shape:=⟨[(2,false,[.ptr 64 0]),(3,false,[.ptr 4480 0]),(30,false,[.br tW]),(31,false,[.int .i64]),(32,false,[.ci .i64 0])],[(64,[.nil,.nil,.bool,.nil]),(4480,[.at 800000000,.at 800000002,.bool,.at 800000001])],[(800000000,tL,(.ow .fz)),(800000002,tW,(.pr .fz (.ow .fz))),(800000001,tI,.fz)]⟩
def yeE:Shape:=⟨[(2,false,[.ptr 64 0]),(3,false,[.ptr 4480 0])],[(64,[.nil,.nil,.bool,.nil]),(4480,[.at 800000000,.at 800000001,.bool,.at 800000002])],[(800000000,tL,(.ow .fz)),(800000001,tW,(.pr .fz (.ow .fz))),(800000002,tI,.fz)]⟩
def yiy:Shape:=⟨[],[],[]⟩
abbrev ynT (v0:List dW) (v1:Int) (v2:Int) (v3:dM) (v4:dM):(ya3).X:=((((),()),((),()),(v0,()),(v1,()),(v2,()),()),(((),(),v3.2.2.1,(),()),((),(),v4.2.2.1,(),()),()),(v4.1,v4.2.1,v4.2.2.2,()))
abbrev yG2 (v0:List dW) (v1:Int) (v2:dM) (v3:dM):(yeN).X:=((((),()),((),()),(v0,()),(v1,()),((),()),()),(((),(),v2.2.2.1,(),()),((),(),v3.2.2.1,(),()),()),(v3.1,v3.2.1,v3.2.2.2,()))
abbrev yv8 (v0:dM) (v1:dM):(yeE).X:=((((),()),((),()),()),(((),(),v0.2.2.1,(),()),((),(),v1.2.2.1,(),()),()),(v1.1,v1.2.1,v1.2.2.2,()))
def yoc (v0:List dW) (v1:Int) (v2:Int) (v3:Bool) (v4:Bool) (v5:List (List Int)) (v6:List dW) (v7:List Int):Option ((ya3).X ⊕ ((yeE).X ⊕ (yiy).X)) :=
  bif (ltb v2 v1) then
    bif (inb v2 v0.length) then
      let r8:=yi ((nth v0 v2 (0,[])).2)
      bif (zj4 v6.length ([((nth v0 v2 (0,[])).1,r8)]:List dW).length 32) then
        some (.inl ((((),()),((),()),(v0,()),(v1,()),((IntKind.i64.wrap (v2+1)),()),()),(((),(),v3,(),()),((),(),v4,(),()),()),(v5,(v6++([((nth v0 v2 (0,[])).1,r8)]:List dW)),v7,())))
      else none
    else none
  else
    some (.inr (.inl ((((),()),((),()),()),(((),(),v3,(),()),((),(),v4,(),()),()),(v5,v6,v7,()))))
def ybh (x:(ya3).X):=yoc x.1.2.2.1.1 x.1.2.2.2.1.1 x.1.2.2.2.2.1.1 x.2.1.1.2.2.1 x.2.1.2.1.2.2.1 x.2.2.1 x.2.2.2.1 x.2.2.2.2.1
def yvB (x:(yeN).X):(ya3).X:=((((),()),((),()),(x.1.2.2.1.1,()),(x.1.2.2.2.1.1,()),(0,()),()),(((),(),x.2.1.1.2.2.1,(),()),((),(),x.2.1.2.1.2.2.1,(),()),()),(x.2.2.1,x.2.2.2.1,x.2.2.2.2.1,()))
def yxe:Code:=(zdI ybM 64 244).getD .skip
theorem yHR:zdI ybM 64 61=some (.block 2 (.loop yxe)):=by kernel_rfl
theorem yJy (x:(ya3).X):zg7 ⟨ye9,49,yrb⟩ 2 yxe 244 ya3 yeE yiy x=ybh x:=by kernel_rfl
def yvR (x:(yeN).X):Nat:=(fun (u0:List dW) (u1:Int) (u2:Bool) (u3:Bool) (u4:List (List Int)) (u5:List dW) (u6:List Int)=>18446744073709551616) x.1.2.2.1.1 x.1.2.2.2.1.1 x.2.1.1.2.2.1 x.2.1.2.1.2.2.1 x.2.2.1 x.2.2.2.1 x.2.2.2.2.1
def yps (x:(yeN).X):Option ((yeE).X ⊕ (yiy).X):=zr ybh (yvR x) (yvB x)
def ywg:Seg:=⟨yeN,yeE,yiy,yps⟩
def yyS:Nat→Option Seg:=fun q=>bif Nat.beq q 61 then some ywg else yrb q
theorem yIc:FrOk Tryz.prog ⟨ye9,49,yyS⟩ ybM:=(yIb).loop (sg:=ywg) ya3 yvB (by decide) yHR ybh yvR (by decide) (fun _=>rfl) (fun x r _ h=>h) yJy
abbrev yfc:List Par:= [.rd tM]
abbrev yoG:List OT:= [⟨false,tM,(.pr (.ow (.ow .fz)) (.pr (.ow (.pr .fz (.ow .fz))) (.pr .fz (.ow .fz))))⟩]
def ykG (a0:dM):Option (ResD yoG×MutD yfc) :=
  let r1:=yi a0.2.2.2
  zjw (ypr ((((),()),((),()),((),()),(a0.1,()),((a0.1.length:Int),()),((),()),()),((a0.1,a0.2.1,a0.2.2.1,a0.2.2.2,()),((),(),false,(),()),((),(),a0.2.2.1,(),()),()),([],r1,()))) (fun y4 =>
    zjw (yps ((((),()),((),()),(y4.2.1.1.2.1,()),((y4.2.1.1.2.1.length:Int),()),((),()),()),(((),(),y4.2.1.2.1.2.2.1,(),()),((),(),y4.2.1.2.2.1.2.2.1,(),()),()),(y4.2.2.1,[],y4.2.2.2.1,()))) (fun y8 =>
      some (((y8.2.2.1,y8.2.2.2.1,y8.2.1.2.1.2.2.1,y8.2.2.2.2.1),()),())) (fun y8 =>
      none)) (fun y4 =>
    none)
theorem yQt (x:InD yfc):zjH ⟨ye9,49,yyS⟩ Tryz.f215.results.toList ybM yfc yoG x=ykG x.1:=by kernel_rfl
theorem yL1:ConOk Tryz.prog 215 ⟨yfc,yoG,fun x=>ykG x.1⟩:=zkh (yIc) Tryz.func215 (by kernel_rfl) (by kernel_rfl) Tryz.ntmps215.symm (by decide) (fun x r h=>(yQt x).trans h)
def yaJ (a0:dM):dM:=a0
theorem yOD (a0:dM) (hk:zi9 yfc (a0,())):ykG a0=(fun n=>some ((n,()),())) (yaJ a0):=by
  have hb1:a0.1.length * 24≤2 ^ 47:=hk.1.1.1
  have hb2:a0.2.1.length * 32≤2 ^ 47:=hk.1.2.1.1
  have h1:ypr (yG1 a0.1 a0.1.length a0 yf ([],[],a0.2.2.1,a0.2.2.2))=some (.inl (yv7 a0 yf (a0.1,[],a0.2.2.1,a0.2.2.2))):=by
    have:=zkk (step:=ybg) a0.1 [] (fun i s=>ynS a0.1 a0.1.length i a0 yf (s,[],a0.2.2.1,a0.2.2.2)) (fun s x=>s++ [x]) (fun i s=>s.length=i) (fun s=> .inl (yv7 a0 yf (s,[],a0.2.2.1,a0.2.2.2))) (fun i s hi hs2=>⟨by
      simp only [ybg,ynS,yob,zjI (show (i:Int) < a0.1.length by omega),cond_true,wr (show -9223372036854775808≤(i:Int)+1 by omega) (by omega),Int.natCast_add,Int.natCast_one,Int.toNat_natCast,zkO hi,zjW,yi]
      rw [zkw.2 (show (s.length+ [a0.1.getD i []].length) * 24≤140737488355328 by simp only [List.length_cons,List.length_nil]; omega)]; rfl,by simp [hs2]⟩) (fun s _=>by simp only [ybg,ynS,yob,zkm (Int.le_refl _),cond_false]) [] rfl 18446744073709551616 (by omega)
    rw [yrv]at this
    exact this
  have h2:yps (yG2 a0.2.1 a0.2.1.length yf (a0.1,[],a0.2.2.1,a0.2.2.2))=some (.inl (yv8 yf a0)):=by
    have:=zkk (step:=ybh) a0.2.1 (0,[]) (fun i s=>ynT a0.2.1 a0.2.1.length i yf (a0.1,s,a0.2.2.1,a0.2.2.2)) (fun s x=>s++ [x]) (fun i s=>s.length=i) (fun s=> .inl (yv8 yf (a0.1,s,a0.2.2.1,a0.2.2.2))) (fun i s hi hs2=>⟨by
      simp only [ybh,ynT,yoc,zjI (show (i:Int) < a0.2.1.length by omega),cond_true,wr (show -9223372036854775808≤(i:Int)+1 by omega) (by omega),Int.natCast_add,Int.natCast_one,Int.toNat_natCast,zkO hi,zjW,yi,zkV]
      rw [zkw.2 (show (s.length+ [a0.2.1.getD i (0,[])].length) * 32≤140737488355328 by simp only [List.length_cons,List.length_nil]; omega)]; rfl,by simp [hs2]⟩) (fun s _=>by simp only [ybh,ynT,yoc,zkm (Int.le_refl _),cond_false]) [] rfl 18446744073709551616 (by omega)
    rw [yrv]at this
    exact this
  unfold ykG yaJ
  simp only [yi,h1,zkJ,h2]
def ykw:Con:=⟨yfc,yoG,fun x=>(fun n=>some ((n,()),())) (yaJ x.1)⟩
theorem ytn:ConOk Tryz.prog 215 ykw:=(yL1).mono (fun x r hk h=>(yOD x.1 hk).trans h)
end
section
def ygG:Code:=(Tryz.f152.body).getD .skip
def yl4:Env:=zki TT [(215,ykw)] []
theorem yGx:FrOk Tryz.prog ⟨yl4,20,fun _=>none⟩ ygG:=zkp yb yc ⟨ytn,trivial⟩
def ywS:Nat→Option Seg:=fun _=>none
def yaw:Shape:=⟨[(3,false,[.at 800000000]),(7,false,[.br tM]),(8,false,[.int .i64]),(9,false,[.int .i64])],[],[(800000000,tM,(.pr (.ow (.ow .fz)) (.pr (.ow (.pr .fz (.ow .fz))) (.pr .fz (.ow .fz)))))]⟩
def ydN:Shape:=⟨[(3,false,[.at 800000000]),(7,false,[.br tM]),(8,false,[.int .i64]),(9,false,[.ci .i64 0])],[],[(800000000,tM,(.pr (.ow (.ow .fz)) (.pr (.ow (.pr .fz (.ow .fz))) (.pr .fz (.ow .fz)))))]⟩
def ydG:Shape:=⟨[(3,false,[.at 800000000])],[],[(800000000,tM,(.pr (.ow (.ow .fz)) (.pr (.ow (.pr .fz (.ow .fz))) (.pr .fz (.ow .fz)))))]⟩
def yhB:Shape:=⟨[],[],[]⟩
abbrev ylG (v0:List dM) (v1:Int) (v2:Int) (v3:List dM):(yaw).X:=((((),()),(v0,()),(v1,()),(v2,()),()),(),(v3,()))
abbrev yEY (v0:List dM) (v1:Int) (v2:List dM):(ydN).X:=((((),()),(v0,()),(v1,()),((),()),()),(),(v2,()))
abbrev yET (v0:List dM):(ydG).X:=((((),()),()),(),(v0,()))
def ylQ (v0:List dM) (v1:Int) (v2:Int) (v3:List dM):Option ((yaw).X ⊕ ((ydG).X ⊕ (yhB).X)) :=
  bif (ltb v2 v1) then
    bif (inb v2 v0.length) then
      let r2:=yaJ ((nth v0 v2 ([],[],false,[])).1,((nth v0 v2 ([],[],false,[])).2).1,(((nth v0 v2 ([],[],false,[])).2).2))
      bif (zj4 v3.length ([r2]:List dM).length 80) then
        some (.inl ((((),()),(v0,()),(v1,()),((IntKind.i64.wrap (v2+1)),()),()),(),((v3++([r2]:List dM)),())))
      else none
    else none
  else
    some (.inr (.inl ((((),()),()),(),(v3,()))))
def yaQ (x:(yaw).X):=ylQ x.1.2.1.1 x.1.2.2.1.1 x.1.2.2.2.1.1 x.2.2.1
def ytL (x:(ydN).X):(yaw).X:=((((),()),(x.1.2.1.1,()),(x.1.2.2.1.1,()),(0,()),()),(),(x.2.2.1,()))
def yvj:Code:=(zdI ygG 64 116).getD .skip
theorem yF3:zdI ygG 64 29=some (.block 0 (.loop yvj)):=by kernel_rfl
theorem yHq (x:(yaw).X):zg7 ⟨yl4,20,ywS⟩ 0 yvj 116 yaw ydG yhB x=yaQ x:=by kernel_rfl
def ytY (x:(ydN).X):Nat:=(fun (u0:List dM) (u1:Int) (u2:List dM)=>18446744073709551616) x.1.2.1.1 x.1.2.2.1.1 x.2.2.1
def ynl (x:(ydN).X):Option ((ydG).X ⊕ (yhB).X):=zr yaQ (ytY x) (ytL x)
def yuf:Seg:=⟨ydN,ydG,yhB,ynl⟩
def ywT:Nat→Option Seg:=fun q=>bif Nat.beq q 29 then some yuf else ywS q
theorem yGy:FrOk Tryz.prog ⟨yl4,20,ywT⟩ ygG:=(yGx).loop (sg:=yuf) yaw ytL (by decide) yF3 yaQ ytY (by decide) (fun _=>rfl) (fun x r _ h=>h) yHq
abbrev yd7:List Par:= [.rd tMs]
abbrev ymo:List OT:= [⟨false,tMs,(.ow (.pr (.ow (.ow .fz)) (.pr (.ow (.pr .fz (.ow .fz))) (.pr .fz (.ow .fz)))))⟩]
def yiQ (a0:List dM):Option (ResD ymo×MutD yd7) :=
  zjw (ynl ((((),()),(a0,()),((a0.length:Int),()),((),()),()),(),(([]:List dM),()))) (fun y2 =>
    some ((y2.2.2.1,()),())) (fun y2 =>
    none)
theorem yNx (x:InD yd7):zjH ⟨yl4,20,ywT⟩ Tryz.f152.results.toList ygG yd7 ymo x=yiQ x.1:=by kernel_rfl
theorem yJb:ConOk Tryz.prog 152 ⟨yd7,ymo,fun x=>yiQ x.1⟩:=zkh (yGy) Tryz.func152 (by kernel_rfl) (by kernel_rfl) Tryz.ntmps152.symm (by decide) (fun x r h=>(yNx x).trans h)
def ymN (a0:List dM):List dM:=a0
theorem yLL (a0:List dM) (hk:zi9 yd7 (a0,())):yiQ a0=(fun n=>some ((n,()),())) (ymN a0):=by
  have hb:a0.length * 80≤2 ^ 47:=hk.1.1
  have h1:=zkk (step:=yaQ) a0 yf (fun i s=>ylG a0 a0.length i s) (fun s x=>s++ [x]) (fun i s=>s.length=i) (fun s=> .inl (yET s)) (fun i s hi hs=>⟨by
      simp only [yaQ,ylG,ylQ,zjI (show (i:Int) < a0.length by omega),cond_true,wr (show -9223372036854775808≤(i:Int)+1 by omega) (by omega),Int.natCast_add,Int.natCast_one,Int.toNat_natCast,zkO hi,zjW,yaJ,zkV]
      rw [zkw.2 (show (s.length+ [a0.getD i ([],[],false,[])].length) * 80≤140737488355328 by simp only [List.length_cons,List.length_nil]; omega)]; rfl,by simp [hs]⟩) (fun s hs=>by simp only [yaQ,ylG,ylQ,zkm (Int.le_refl _),cond_false]) [] rfl 18446744073709551616 (by omega)
  rw [yrv]at h1
  unfold yiQ ymN
  rw [show ynl (yEY a0 a0.length [])=_ from h1]; rfl
def yxv:Con:=⟨yd7,ymo,fun x=>(fun n=>some ((n,()),())) (ymN x.1)⟩
theorem yMo:ConOk Tryz.prog 152 yxv:=(yJb).mono (fun x r hk h=>(yLL x.1 hk).trans h)
end
section
def yi2:Code:=(Tryz.f76.body).getD .skip
def yor:Env:=zki TT [(151,ycK),(152,yxv)] []
theorem yH8:FrOk Tryz.prog ⟨yor,31,fun _=>none⟩ yi2:=zkp yb yc ⟨yf1,yMo,trivial⟩
def yyP:Nat→Option Seg:=fun _=>none
def ya1:Shape:=⟨[(1,false,[.ptr 0 0]),(2,false,[.ptr 64 0]),(3,false,[.at 800000000]),(8,false,[.br tW]),(9,false,[.int .i64]),(10,false,[.int .i64])],[(0,[.int .i64,.int .i64,.int .i64,.br tM,.int .i64,.int .i64,.int .i64,.int .i64,.int .i64,.br tW,.int .i64,.bool,.bool]),(64,[.int .i64,.int .i64,.int .i64,.nil,.int .i64,.int .i64,.int .i64,.int .i64,.int .i64,.nil,.int .i64,.bool,.bool])],[(800000000,tW,(.pr .fz (.ow .fz)))]⟩
def yeL:Shape:=⟨[(1,false,[.ptr 0 0]),(2,false,[.ptr 64 0]),(3,false,[.at 800000000]),(8,false,[.br tW]),(9,false,[.int .i64]),(10,false,[.ci .i64 0])],[(0,[.int .i64,.int .i64,.int .i64,.br tM,.int .i64,.int .i64,.int .i64,.int .i64,.int .i64,.br tW,.int .i64,.bool,.bool]),(64,[.int .i64,.int .i64,.int .i64,.nil,.int .i64,.int .i64,.int .i64,.int .i64,.int .i64,.nil,.int .i64,.bool,.bool])],[(800000000,tW,(.pr .fz (.ow .fz)))]⟩
def yeC:Shape:=⟨[(1,false,[.ptr 0 0]),(2,false,[.ptr 64 0]),(3,false,[.at 800000000])],[(0,[.int .i64,.int .i64,.int .i64,.br tM,.int .i64,.int .i64,.int .i64,.int .i64,.int .i64,.br tW,.int .i64,.bool,.bool]),(64,[.int .i64,.int .i64,.int .i64,.nil,.int .i64,.int .i64,.int .i64,.int .i64,.int .i64,.nil,.int .i64,.bool,.bool])],[(800000000,tW,(.pr .fz (.ow .fz)))]⟩
def yiw:Shape:=⟨[],[],[]⟩
abbrev ynR (v0:List dW) (v1:Int) (v2:Int) (v3:dA) (v4:dA) (v5:List dW):(ya1).X:=((((),()),((),()),((),()),(v0,()),(v1,()),(v2,()),()),((v3.1,v3.2.1.1,v3.2.1.2,v3.2.2.1,v3.2.2.2.1,v3.2.2.2.2.1,v3.2.2.2.2.2.1,v3.2.2.2.2.2.2.1,v3.2.2.2.2.2.2.2.1,v3.2.2.2.2.2.2.2.2.1,v3.2.2.2.2.2.2.2.2.2.1,v3.2.2.2.2.2.2.2.2.2.2.1,v3.2.2.2.2.2.2.2.2.2.2.2,()),(v4.1,v4.2.1.1,v4.2.1.2,(),v4.2.2.2.1,v4.2.2.2.2.1,v4.2.2.2.2.2.1,v4.2.2.2.2.2.2.1,v4.2.2.2.2.2.2.2.1,(),v4.2.2.2.2.2.2.2.2.2.1,v4.2.2.2.2.2.2.2.2.2.2.1,v4.2.2.2.2.2.2.2.2.2.2.2,()),()),(v5,()))
abbrev yG0 (v0:List dW) (v1:Int) (v2:dA) (v3:dA) (v4:List dW):(yeL).X:=((((),()),((),()),((),()),(v0,()),(v1,()),((),()),()),((v2.1,v2.2.1.1,v2.2.1.2,v2.2.2.1,v2.2.2.2.1,v2.2.2.2.2.1,v2.2.2.2.2.2.1,v2.2.2.2.2.2.2.1,v2.2.2.2.2.2.2.2.1,v2.2.2.2.2.2.2.2.2.1,v2.2.2.2.2.2.2.2.2.2.1,v2.2.2.2.2.2.2.2.2.2.2.1,v2.2.2.2.2.2.2.2.2.2.2.2,()),(v3.1,v3.2.1.1,v3.2.1.2,(),v3.2.2.2.1,v3.2.2.2.2.1,v3.2.2.2.2.2.1,v3.2.2.2.2.2.2.1,v3.2.2.2.2.2.2.2.1,(),v3.2.2.2.2.2.2.2.2.2.1,v3.2.2.2.2.2.2.2.2.2.2.1,v3.2.2.2.2.2.2.2.2.2.2.2,()),()),(v4,()))
abbrev yGU (v0:dA) (v1:dA) (v2:List dW):(yeC).X:=((((),()),((),()),((),()),()),((v0.1,v0.2.1.1,v0.2.1.2,v0.2.2.1,v0.2.2.2.1,v0.2.2.2.2.1,v0.2.2.2.2.2.1,v0.2.2.2.2.2.2.1,v0.2.2.2.2.2.2.2.1,v0.2.2.2.2.2.2.2.2.1,v0.2.2.2.2.2.2.2.2.2.1,v0.2.2.2.2.2.2.2.2.2.2.1,v0.2.2.2.2.2.2.2.2.2.2.2,()),(v1.1,v1.2.1.1,v1.2.1.2,(),v1.2.2.2.1,v1.2.2.2.2.1,v1.2.2.2.2.2.1,v1.2.2.2.2.2.2.1,v1.2.2.2.2.2.2.2.1,(),v1.2.2.2.2.2.2.2.2.2.1,v1.2.2.2.2.2.2.2.2.2.2.1,v1.2.2.2.2.2.2.2.2.2.2.2,()),()),(v2,()))
def yoa (v0:List dW) (v1:Int) (v2:Int) (v3:Int) (v4:Int) (v5:Int) (v6:List dM) (v7:Int) (v8:Int) (v9:Int) (v10:Int) (v11:Int) (v12:List dW) (v13:Int) (v14:Bool) (v15:Bool) (v16:Int) (v17:Int) (v18:Int) (v19:Int) (v20:Int) (v21:Int) (v22:Int) (v23:Int) (v24:Int) (v25:Bool) (v26:Bool) (v27:List dW):Option ((ya1).X ⊕ ((yeC).X ⊕ (yiw).X)) :=
  bif (ltb v2 v1) then
    bif (inb v2 v0.length) then
      let r2:=yi ((nth v0 v2 (0,[])).2)
      bif (zj4 v27.length ([((nth v0 v2 (0,[])).1,r2)]:List dW).length 32) then
        some (.inl ((((),()),((),()),((),()),(v0,()),(v1,()),((IntKind.i64.wrap (v2+1)),()),()),((v3,v4,v5,v6,v7,v8,v9,v10,v11,v12,v13,v14,v15,()),(v16,v17,v18,(),v19,v20,v21,v22,v23,(),v24,v25,v26,()),()),((v27++([((nth v0 v2 (0,[])).1,r2)]:List dW)),())))
      else none
    else none
  else
    some (.inr (.inl ((((),()),((),()),((),()),()),((v3,v4,v5,v6,v7,v8,v9,v10,v11,v12,v13,v14,v15,()),(v16,v17,v18,(),v19,v20,v21,v22,v23,(),v24,v25,v26,()),()),(v27,()))))
def ybf (x:(ya1).X):=yoa x.1.2.2.2.1.1 x.1.2.2.2.2.1.1 x.1.2.2.2.2.2.1.1 x.2.1.1.1 x.2.1.1.2.1 x.2.1.1.2.2.1 x.2.1.1.2.2.2.1 x.2.1.1.2.2.2.2.1 x.2.1.1.2.2.2.2.2.1 x.2.1.1.2.2.2.2.2.2.1 x.2.1.1.2.2.2.2.2.2.2.1 x.2.1.1.2.2.2.2.2.2.2.2.1 x.2.1.1.2.2.2.2.2.2.2.2.2.1 x.2.1.1.2.2.2.2.2.2.2.2.2.2.1 x.2.1.1.2.2.2.2.2.2.2.2.2.2.2.1 x.2.1.1.2.2.2.2.2.2.2.2.2.2.2.2.1 x.2.1.2.1.1 x.2.1.2.1.2.1 x.2.1.2.1.2.2.1 x.2.1.2.1.2.2.2.2.1 x.2.1.2.1.2.2.2.2.2.1 x.2.1.2.1.2.2.2.2.2.2.1 x.2.1.2.1.2.2.2.2.2.2.2.1 x.2.1.2.1.2.2.2.2.2.2.2.2.1 x.2.1.2.1.2.2.2.2.2.2.2.2.2.2.1 x.2.1.2.1.2.2.2.2.2.2.2.2.2.2.2.1 x.2.1.2.1.2.2.2.2.2.2.2.2.2.2.2.2.1 x.2.2.1
def yvz (x:(yeL).X):(ya1).X:=((((),()),((),()),((),()),(x.1.2.2.2.1.1,()),(x.1.2.2.2.2.1.1,()),(0,()),()),((x.2.1.1.1,x.2.1.1.2.1,x.2.1.1.2.2.1,x.2.1.1.2.2.2.1,x.2.1.1.2.2.2.2.1,x.2.1.1.2.2.2.2.2.1,x.2.1.1.2.2.2.2.2.2.1,x.2.1.1.2.2.2.2.2.2.2.1,x.2.1.1.2.2.2.2.2.2.2.2.1,x.2.1.1.2.2.2.2.2.2.2.2.2.1,x.2.1.1.2.2.2.2.2.2.2.2.2.2.1,x.2.1.1.2.2.2.2.2.2.2.2.2.2.2.1,x.2.1.1.2.2.2.2.2.2.2.2.2.2.2.2.1,()),(x.2.1.2.1.1,x.2.1.2.1.2.1,x.2.1.2.1.2.2.1,(),x.2.1.2.1.2.2.2.2.1,x.2.1.2.1.2.2.2.2.2.1,x.2.1.2.1.2.2.2.2.2.2.1,x.2.1.2.1.2.2.2.2.2.2.2.1,x.2.1.2.1.2.2.2.2.2.2.2.2.1,(),x.2.1.2.1.2.2.2.2.2.2.2.2.2.2.1,x.2.1.2.1.2.2.2.2.2.2.2.2.2.2.2.1,x.2.1.2.1.2.2.2.2.2.2.2.2.2.2.2.2.1,()),()),(x.2.2.1,()))
def yxc:Code:=(zdI yi2 64 116).getD .skip
theorem yHP:zdI yi2 64 29=some (.block 0 (.loop yxc)):=by kernel_rfl
theorem yJw (x:(ya1).X):zg7 ⟨yor,31,yyP⟩ 0 yxc 116 ya1 yeC yiw x=ybf x:=by kernel_rfl
def yvP (x:(yeL).X):Nat:=(fun (u0:List dW) (u1:Int) (u2:Int) (u3:Int) (u4:Int) (u5:List dM) (u6:Int) (u7:Int) (u8:Int) (u9:Int) (u10:Int) (u11:List dW) (u12:Int) (u13:Bool) (u14:Bool) (u15:Int) (u16:Int) (u17:Int) (u18:Int) (u19:Int) (u20:Int) (u21:Int) (u22:Int) (u23:Int) (u24:Bool) (u25:Bool) (u26:List dW)=>18446744073709551616) x.1.2.2.2.1.1 x.1.2.2.2.2.1.1 x.2.1.1.1 x.2.1.1.2.1 x.2.1.1.2.2.1 x.2.1.1.2.2.2.1 x.2.1.1.2.2.2.2.1 x.2.1.1.2.2.2.2.2.1 x.2.1.1.2.2.2.2.2.2.1 x.2.1.1.2.2.2.2.2.2.2.1 x.2.1.1.2.2.2.2.2.2.2.2.1 x.2.1.1.2.2.2.2.2.2.2.2.2.1 x.2.1.1.2.2.2.2.2.2.2.2.2.2.1 x.2.1.1.2.2.2.2.2.2.2.2.2.2.2.1 x.2.1.1.2.2.2.2.2.2.2.2.2.2.2.2.1 x.2.1.2.1.1 x.2.1.2.1.2.1 x.2.1.2.1.2.2.1 x.2.1.2.1.2.2.2.2.1 x.2.1.2.1.2.2.2.2.2.1 x.2.1.2.1.2.2.2.2.2.2.1 x.2.1.2.1.2.2.2.2.2.2.2.1 x.2.1.2.1.2.2.2.2.2.2.2.2.1 x.2.1.2.1.2.2.2.2.2.2.2.2.2.2.1 x.2.1.2.1.2.2.2.2.2.2.2.2.2.2.2.1 x.2.1.2.1.2.2.2.2.2.2.2.2.2.2.2.2.1 x.2.2.1
def ypq (x:(yeL).X):Option ((yeC).X ⊕ (yiw).X):=zr ybf (yvP x) (yvz x)
def ywe:Seg:=⟨yeL,yeC,yiw,ypq⟩
def yyQ:Nat→Option Seg:=fun q=>bif Nat.beq q 29 then some ywe else yyP q
theorem yH9:FrOk Tryz.prog ⟨yor,31,yyQ⟩ yi2:=(yH8).loop (sg:=ywe) ya1 yvz (by decide) yHP ybf yvP (by decide) (fun _=>rfl) (fun x r _ h=>h) yJw
abbrev yfb:List Par:= [.rd tA]
abbrev yoF:List OT:= [⟨false,tA,(.pr .fz (.pr (.pr .fz .fz) (.pr (.ow (.pr (.ow (.ow .fz)) (.pr (.ow (.pr .fz (.ow .fz))) (.pr .fz (.ow .fz))))) (.pr .fz (.pr .fz (.pr .fz (.pr .fz (.pr .fz (.pr (.ow (.pr .fz (.ow .fz))) (.pr .fz (.pr .fz .fz)))))))))))⟩]
def ykF (a0:dA):Option (ResD yoF×MutD yfb) :=
  zjw (ypq ((((),()),((),()),((),()),(a0.2.2.2.2.2.2.2.2.1,()),((a0.2.2.2.2.2.2.2.2.1.length:Int),()),((),()),()),((a0.1,a0.2.1.1,a0.2.1.2,a0.2.2.1,a0.2.2.2.1,a0.2.2.2.2.1,a0.2.2.2.2.2.1,a0.2.2.2.2.2.2.1,a0.2.2.2.2.2.2.2.1,a0.2.2.2.2.2.2.2.2.1,a0.2.2.2.2.2.2.2.2.2.1,a0.2.2.2.2.2.2.2.2.2.2.1,a0.2.2.2.2.2.2.2.2.2.2.2,()),(0,0,0,(),0,0,0,0,0,(),0,false,false,()),()),(([]:List dW),()))) (fun y2 =>
    let r4:=ymN y2.2.1.1.2.2.2.1
    some (((y2.2.1.1.1,(y2.2.1.1.2.1,y2.2.1.1.2.2.1),r4,y2.2.1.1.2.2.2.2.1,y2.2.1.1.2.2.2.2.2.1,y2.2.1.1.2.2.2.2.2.2.1,y2.2.1.1.2.2.2.2.2.2.2.1,y2.2.1.1.2.2.2.2.2.2.2.2.1,y2.2.2.1,y2.2.1.1.2.2.2.2.2.2.2.2.2.2.1,y2.2.1.1.2.2.2.2.2.2.2.2.2.2.2.1,y2.2.1.1.2.2.2.2.2.2.2.2.2.2.2.2.1),()),())) (fun y2 =>
    none)
theorem yQs (x:InD yfb):zjH ⟨yor,31,yyQ⟩ Tryz.f76.results.toList yi2 yfb yoF x=ykF x.1:=by kernel_rfl
theorem yL0:ConOk Tryz.prog 76 ⟨yfb,yoF,fun x=>ykF x.1⟩:=zkh (yH9) Tryz.func76 (by kernel_rfl) (by kernel_rfl) Tryz.ntmps76.symm (by decide) (fun x r h=>(yQs x).trans h)
def yaI (a0:dA):dA:=a0
theorem yOC (a0:dA) (hk:zi9 yfb (a0,())):ykF a0=(fun n=>some ((n,()),())) (yaI a0):=by
  have hb:a0.2.2.2.2.2.2.2.2.1.length * 32≤2 ^ 47:=hk.1.2.2.2.2.2.2.2.2.1.1
  have h1:=zkk (step:=ybf) a0.2.2.2.2.2.2.2.2.1 (0,[]) (fun i s=>ynR a0.2.2.2.2.2.2.2.2.1 a0.2.2.2.2.2.2.2.2.1.length i a0 ye1 s) (fun s x=>s++ [x]) (fun i s=>s.length=i) (fun s=> .inl (yGU a0 ye1 s)) (fun i s hi hs=>⟨by
      simp only [ybf,ynR,yoa,zjI (show (i:Int) < a0.2.2.2.2.2.2.2.2.1.length by omega),cond_true,wr (show -9223372036854775808≤(i:Int)+1 by omega) (by omega),Int.natCast_add,Int.natCast_one,Int.toNat_natCast,zkO hi,zjW,yi,zkV]
      rw [zkw.2 (show (s.length+ [a0.2.2.2.2.2.2.2.2.1.getD i (0,[])].length) * 32≤140737488355328 by simp only [List.length_cons,List.length_nil]; omega)]; rfl,by simp [hs]⟩) (fun s hs=>by simp only [ybf,ynR,yoa,zkm (Int.le_refl _),cond_false]) [] rfl 18446744073709551616 (by omega)
  rw [yrv]at h1
  unfold ykF yaI
  rw [show ypq (yG0 a0.2.2.2.2.2.2.2.2.1 a0.2.2.2.2.2.2.2.2.1.length a0 ye1 [])=_ from h1]; rfl
def ykv:Con:=⟨yfb,yoF,fun x=>(fun n=>some ((n,()),())) (yaI x.1)⟩
theorem ytm:ConOk Tryz.prog 76 ykv:=(yL0).mono (fun x r hk h=>(yOC x.1 hk).trans h)
end
end
end Go.Tf
