/- Functions of the program, and what they come to. -/
import Derived.Test.YtgmadfpnljibhaaGreatScrubsF16
namespace Go.Tf
noncomputable section
open Go.Proofs
set_option synthInstance.maxHeartbeats 400000
set_option synthInstance.maxSize 10000
set_option linter.unusedVariables false
set_option linter.unusedSimpArgs false
set_option maxRecDepth 100000
section
def ynk:Code:=(Tryz.f118.body).getD .skip
def ysz:Env:=zki TT [(117,ymQ),(214,yuV)] []
theorem yPv:FrOk Tryz.prog ⟨ysz,33,fun _=>none⟩ ynk:=zkp yc yd ⟨yu4,yGj,trivial⟩
def yC7:Nat→Option Seg:=fun _=>none
def ycp:Shape:=⟨[(1,false,[.int .i64]),(2,false,[.ptr 0 0]),(6,false,[.at 800000000]),(13,false,[.int .i64]),(14,false,[.int .i64])],[(0,[.int .i64,.int .i64,.int .i64,.br tM,.int .i64,.int .i64,.int .i64,.int .i64,.int .i64,.br tW,.int .i64,.bool,.bool])],[(800000000,tI,.fz)]⟩
def yhy:Shape:=⟨[(1,false,[.int .i64]),(2,false,[.ptr 0 0]),(6,false,[.at 800000000]),(13,false,[.int .i64]),(14,false,[.ci .i64 0])],[(0,[.int .i64,.int .i64,.int .i64,.br tM,.int .i64,.int .i64,.int .i64,.int .i64,.int .i64,.br tW,.int .i64,.bool,.bool])],[(800000000,tI,.fz)]⟩
def yhh:Shape:=⟨[(6,false,[.at 800000000])],[],[(800000000,tI,.fz)]⟩
def yhV:Shape:=⟨[(4,false,[.int .i64]),(5,false,[.bool])],[],[]⟩
abbrev yrF (v0:Int) (v1:Int) (v2:Int) (v3:dA) (v4:List Int):(ycp).X:=(((v0,()),((),()),((),()),(v1,()),(v2,()),()),((v3.1,v3.2.1.1,v3.2.1.2,v3.2.2.1,v3.2.2.2.1,v3.2.2.2.2.1,v3.2.2.2.2.2.1,v3.2.2.2.2.2.2.1,v3.2.2.2.2.2.2.2.1,v3.2.2.2.2.2.2.2.2.1,v3.2.2.2.2.2.2.2.2.2.1,v3.2.2.2.2.2.2.2.2.2.2.1,v3.2.2.2.2.2.2.2.2.2.2.2,()),()),(v4,()))
abbrev yMC (v0:Int) (v1:Int) (v2:dA) (v3:List Int):(yhy).X:=(((v0,()),((),()),((),()),(v1,()),((),()),()),((v2.1,v2.2.1.1,v2.2.1.2,v2.2.2.1,v2.2.2.2.1,v2.2.2.2.2.1,v2.2.2.2.2.2.1,v2.2.2.2.2.2.2.1,v2.2.2.2.2.2.2.2.1,v2.2.2.2.2.2.2.2.2.1,v2.2.2.2.2.2.2.2.2.2.1,v2.2.2.2.2.2.2.2.2.2.2.1,v2.2.2.2.2.2.2.2.2.2.2.2,()),()),(v3,()))
abbrev yzF (v0:List Int):(yhh).X:=((((),()),()),(),(v0,()))
abbrev yMS (v0:Int) (v1:Bool):(yhV).X:=(((v0,()),(v1,()),()),(),())
def yr1 (v0:Int) (v1:Int) (v2:Int) (v3:Int) (v4:Int) (v5:Int) (v6:List dM) (v7:Int) (v8:Int) (v9:Int) (v10:Int) (v11:Int) (v12:List dW) (v13:Int) (v14:Bool) (v15:Bool) (v16:List Int):Option ((ycp).X ⊕ ((yhh).X ⊕ (yhV).X)) :=
  bif (ltb v2 v1) then
    bnd (ygX (v3,(v4,v5),v6,v7,v8,v9,v10,v11,v12,v13,v14,v15) v2 v0) fun r2 =>
    bif (!r2.1.2.1) then
      some (.inr (.inr (((0,()),(false,()),()),(),())))
    else
      bif (zj4 v16.length ([r2.1.1]:List Int).length 8) then
        some (.inl (((v0,()),((),()),((),()),(v1,()),((IntKind.i64.wrap (v2+1)),()),()),((v3,v4,v5,v6,v7,v8,v9,v10,v11,v12,v13,v14,v15,()),()),((v16++([r2.1.1]:List Int)),())))
      else none
  else
    some (.inr (.inl ((((),()),()),(),(v16,()))))
def ycV (x:(ycp).X):=yr1 x.1.1.1 x.1.2.2.2.1.1 x.1.2.2.2.2.1.1 x.2.1.1.1 x.2.1.1.2.1 x.2.1.1.2.2.1 x.2.1.1.2.2.2.1 x.2.1.1.2.2.2.2.1 x.2.1.1.2.2.2.2.2.1 x.2.1.1.2.2.2.2.2.2.1 x.2.1.1.2.2.2.2.2.2.2.1 x.2.1.1.2.2.2.2.2.2.2.2.1 x.2.1.1.2.2.2.2.2.2.2.2.2.1 x.2.1.1.2.2.2.2.2.2.2.2.2.2.1 x.2.1.1.2.2.2.2.2.2.2.2.2.2.2.1 x.2.1.1.2.2.2.2.2.2.2.2.2.2.2.2.1 x.2.2.1
def yy7 (x:(yhy).X):(ycp).X:=(((x.1.1.1,()),((),()),((),()),(x.1.2.2.2.1.1,()),(0,()),()),((x.2.1.1.1,x.2.1.1.2.1,x.2.1.1.2.2.1,x.2.1.1.2.2.2.1,x.2.1.1.2.2.2.2.1,x.2.1.1.2.2.2.2.2.1,x.2.1.1.2.2.2.2.2.2.1,x.2.1.1.2.2.2.2.2.2.2.1,x.2.1.1.2.2.2.2.2.2.2.2.1,x.2.1.1.2.2.2.2.2.2.2.2.2.1,x.2.1.1.2.2.2.2.2.2.2.2.2.2.1,x.2.1.1.2.2.2.2.2.2.2.2.2.2.2.1,x.2.1.1.2.2.2.2.2.2.2.2.2.2.2.2.1,()),()),(x.2.2.1,()))
def yBr:Code:=(zdI ynk 64 116).getD .skip
theorem yOD:zdI ynk 64 29=some (.block 0 (.loop yBr)):=by kernel_rfl
theorem yRS (x:(ycp).X):zg7 ⟨ysz,33,yC7⟩ 0 yBr 116 ycp yhh yhV x=ycV x:=by kernel_rfl
def yzp (x:(yhy).X):Nat:=(fun (u0:Int) (u1:Int) (u2:Int) (u3:Int) (u4:Int) (u5:List dM) (u6:Int) (u7:Int) (u8:Int) (u9:Int) (u10:Int) (u11:List dW) (u12:Int) (u13:Bool) (u14:Bool) (u15:List Int)=>18446744073709551616) x.1.1.1 x.1.2.2.2.1.1 x.2.1.1.1 x.2.1.1.2.1 x.2.1.1.2.2.1 x.2.1.1.2.2.2.1 x.2.1.1.2.2.2.2.1 x.2.1.1.2.2.2.2.2.1 x.2.1.1.2.2.2.2.2.2.1 x.2.1.1.2.2.2.2.2.2.2.1 x.2.1.1.2.2.2.2.2.2.2.2.1 x.2.1.1.2.2.2.2.2.2.2.2.2.1 x.2.1.1.2.2.2.2.2.2.2.2.2.2.1 x.2.1.1.2.2.2.2.2.2.2.2.2.2.2.1 x.2.1.1.2.2.2.2.2.2.2.2.2.2.2.2.1 x.2.2.1
def ysO (x:(yhy).X):Option ((yhh).X ⊕ (yhV).X):=zr ycV (yzp x) (yy7 x)
def yAa:Seg:=⟨yhy,yhh,yhV,ysO⟩
def yC8:Nat→Option Seg:=fun q=>bif Nat.beq q 29 then some yAa else yC7 q
theorem yPw:FrOk Tryz.prog ⟨ysz,33,yC8⟩ ynk:=(yPv).loop (sg:=yAa) ycp yy7 (by decide) yOD ycV yzp (by decide) (fun _=>rfl) (fun x r _ h=>h) yRS
abbrev yi8:List Par:= [.rd tA,.rd tI]
abbrev ys7:List OT:= [⟨false,tI,.fz⟩,⟨false,tB,.fz⟩]
def yo3 (a0:dA) (a1:Int):Option (ResD ys7×MutD yi8) :=
  zjw (ysO (((a1,()),((),()),((),()),((a0.2.2.1.length:Int),()),((),()),()),((a0.1,a0.2.1.1,a0.2.1.2,a0.2.2.1,a0.2.2.2.1,a0.2.2.2.2.1,a0.2.2.2.2.2.1,a0.2.2.2.2.2.2.1,a0.2.2.2.2.2.2.2.1,a0.2.2.2.2.2.2.2.2.1,a0.2.2.2.2.2.2.2.2.2.1,a0.2.2.2.2.2.2.2.2.2.2.1,a0.2.2.2.2.2.2.2.2.2.2.2,()),()),(([]:List Int),()))) (fun y2 =>
    let r4:=ygq y2.2.2.1
    some ((r4,true,()),())) (fun y2 =>
    some ((y2.1.1.1,y2.1.2.1.1,()),()))
theorem yW2 (x:InD yi8):zjH ⟨ysz,33,yC8⟩ Tryz.f118.results.toList ynk yi8 ys7 x=yo3 x.1 x.2.1:=by kernel_rfl
theorem yTR:ConOk Tryz.prog 118 ⟨yi8,ys7,fun x=>yo3 x.1 x.2.1⟩:=zkh (yPw) Tryz.func118 (by kernel_rfl) (by kernel_rfl) Tryz.ntmps118.symm (by decide) (fun x r h=>(yW2 x).trans h)
def ygp (a0:dA) (a1:Int):Int×Bool:=yal a0 a1
theorem yV7 (a0:dA) (a1:Int) (hk:zi9 yi8 (a0,a1,())):yo3 a0 a1=(fun n=>some ((n.1,n.2,()),())) (ygp a0 a1):=by
  have hb:a0.2.2.1.length * 80≤2 ^ 47:=hk.1.2.2.1.1
  have h1:ysO (yMC a1 a0.2.2.1.length a0 [])=some (bif yrq a0 a1 then .inl (yzF ((List.range a0.2.2.1.length).foldl (fun n (i:Nat)=>n++ [ygx a0 i a1]) [])) else .inr (yMS 0 false)) :=
    zhx (step:=ycV) a0.2.2.1.length (fun i s=>yrF a1 a0.2.2.1.length i a0 s) (fun (i:Nat)=>yl a0 i a1) (fun n (i:Nat)=>n++ [ygx a0 i a1]) (fun i s=>s.length=i) (fun s=> .inl (yzF s)) _ (fun i s hi hs=>⟨by
      simp only [ycV,yrF,yr1,zjI (show (i:Int) < a0.2.2.1.length by omega),cond_true,wr (show -9223372036854775808≤(i:Int)+1 by omega) (by omega),Int.natCast_add,Int.natCast_one,Int.toNat_natCast,zkV,yva a0 i a1 (zkO hi),yeM,zky]
      rw [show zj4 s.length ([ygx a0 i a1]:List Int).length 8=true from zkw.2 (by simp only [List.length_cons,List.length_nil]; omega)]
      cases yl a0 i a1<;>rfl,fun _=>by simp [hs]⟩) (fun s _=>by simp only [ycV,yrF,yr1,zkm (Int.le_refl _),cond_false]) [] rfl _ (by show _ < 18446744073709551616; omega)
  unfold yo3 ygp yal ygq
  rw [h1,ykz,List.nil_append]
  cases yrq a0 a1<;>rfl
def yuU:Con:=⟨yi8,ys7,fun x=>(fun n=>some ((n.1,n.2,()),())) (ygp x.1 x.2.1)⟩
theorem yGi:ConOk Tryz.prog 118 yuU:=(yTR).mono (fun x r hk h=>(yV7 x.1 x.2.1 hk).trans h)
end
section
def ypY:Code:=(Tryz.f32.body).getD .skip
def yvo:Env:=zki TT [(118,yuU)] []
theorem yS2:FrOk Tryz.prog ⟨yvo,28,fun _=>none⟩ ypY:=zkp yc yd ⟨yGi,trivial⟩
def yFE:Nat→Option Seg:=fun _=>none
def ydw:Shape:=⟨[(1,false,[.ptr 0 0]),(3,false,[.int .i64])],[(0,[.int .i64,.int .i64,.int .i64,.br tM,.int .i64,.int .i64,.int .i64,.int .i64,.int .i64,.br tW,.int .i64,.bool,.bool])],[]⟩
def yjw:Shape:=⟨[(1,false,[.ptr 0 0]),(3,false,[.ci .i64 0])],[(0,[.int .i64,.int .i64,.int .i64,.br tM,.int .i64,.int .i64,.int .i64,.int .i64,.int .i64,.br tW,.int .i64,.bool,.bool])],[]⟩
def yjq:Shape:=⟨[],[],[]⟩
def yjI:Shape:=⟨[(2,false,[.bool])],[],[]⟩
abbrev ytM (v0:Int) (v1:dA):(ydw).X:=((((),()),(v0,()),()),((v1.1,v1.2.1.1,v1.2.1.2,v1.2.2.1,v1.2.2.2.1,v1.2.2.2.2.1,v1.2.2.2.2.2.1,v1.2.2.2.2.2.2.1,v1.2.2.2.2.2.2.2.1,v1.2.2.2.2.2.2.2.2.1,v1.2.2.2.2.2.2.2.2.2.1,v1.2.2.2.2.2.2.2.2.2.2.1,v1.2.2.2.2.2.2.2.2.2.2.2,()),()),())
abbrev yQm (v0:dA):(yjw).X:=((((),()),((),()),()),((v0.1,v0.2.1.1,v0.2.1.2,v0.2.2.1,v0.2.2.2.1,v0.2.2.2.2.1,v0.2.2.2.2.2.1,v0.2.2.2.2.2.2.1,v0.2.2.2.2.2.2.2.1,v0.2.2.2.2.2.2.2.2.1,v0.2.2.2.2.2.2.2.2.2.1,v0.2.2.2.2.2.2.2.2.2.2.1,v0.2.2.2.2.2.2.2.2.2.2.2,()),()),())
abbrev yQh  :(yjq).X:=((),(),())
abbrev yQq (v0:Bool):(yjI).X:=(((v0,()),()),(),())
def yuh (v0:Int) (v1:Int) (v2:Int) (v3:Int) (v4:List dM) (v5:Int) (v6:Int) (v7:Int) (v8:Int) (v9:Int) (v10:List dW) (v11:Int) (v12:Bool) (v13:Bool):Option ((ydw).X ⊕ ((yjq).X ⊕ (yjI).X)) :=
  bif (ltb v0 v3) then
    bif (ltb v0 20) then
      let r2:=ygp (v1,(v2,v3),v4,v5,v6,v7,v8,v9,v10,v11,v12,v13) v0
      bif r2.2 then
        bif (r2.1 !=0) then
          some (.inr (.inr (((false,()),()),(),())))
        else
          some (.inl ((((),()),((IntKind.i64.wrap (v0+1)),()),()),((v1,v2,v3,v4,v5,v6,v7,v8,v9,v10,v11,v12,v13,()),()),()))
      else
        some (.inl ((((),()),((IntKind.i64.wrap (v0+1)),()),()),((v1,v2,v3,v4,v5,v6,v7,v8,v9,v10,v11,v12,v13,()),()),()))
    else
      some (.inr (.inl ((),(),())))
  else
    some (.inr (.inl ((),(),())))
def ydI (x:(ydw).X):=yuh x.1.2.1.1 x.2.1.1.1 x.2.1.1.2.1 x.2.1.1.2.2.1 x.2.1.1.2.2.2.1 x.2.1.1.2.2.2.2.1 x.2.1.1.2.2.2.2.2.1 x.2.1.1.2.2.2.2.2.2.1 x.2.1.1.2.2.2.2.2.2.2.1 x.2.1.1.2.2.2.2.2.2.2.2.1 x.2.1.1.2.2.2.2.2.2.2.2.2.1 x.2.1.1.2.2.2.2.2.2.2.2.2.2.1 x.2.1.1.2.2.2.2.2.2.2.2.2.2.2.1 x.2.1.1.2.2.2.2.2.2.2.2.2.2.2.2.1
def yB2 (x:(yjw).X):(ydw).X:=((((),()),(0,()),()),((x.2.1.1.1,x.2.1.1.2.1,x.2.1.1.2.2.1,x.2.1.1.2.2.2.1,x.2.1.1.2.2.2.2.1,x.2.1.1.2.2.2.2.2.1,x.2.1.1.2.2.2.2.2.2.1,x.2.1.1.2.2.2.2.2.2.2.1,x.2.1.1.2.2.2.2.2.2.2.2.1,x.2.1.1.2.2.2.2.2.2.2.2.2.1,x.2.1.1.2.2.2.2.2.2.2.2.2.2.1,x.2.1.1.2.2.2.2.2.2.2.2.2.2.2.1,x.2.1.1.2.2.2.2.2.2.2.2.2.2.2.2.1,()),()),())
def yDP:Code:=(zdI ypY 64 52).getD .skip
theorem ySr:zdI ypY 64 13=some (.block 0 (.loop yDP)):=by kernel_rfl
theorem yUD (x:(ydw).X):zg7 ⟨yvo,28,yFE⟩ 0 yDP 52 ydw yjq yjI x=ydI x:=by kernel_rfl
def yCa (x:(yjw).X):Nat:=(fun (u0:Int) (u1:Int) (u2:Int) (u3:List dM) (u4:Int) (u5:Int) (u6:Int) (u7:Int) (u8:Int) (u9:List dW) (u10:Int) (u11:Bool) (u12:Bool)=>18446744073709551616) x.2.1.1.1 x.2.1.1.2.1 x.2.1.1.2.2.1 x.2.1.1.2.2.2.1 x.2.1.1.2.2.2.2.1 x.2.1.1.2.2.2.2.2.1 x.2.1.1.2.2.2.2.2.2.1 x.2.1.1.2.2.2.2.2.2.2.1 x.2.1.1.2.2.2.2.2.2.2.2.1 x.2.1.1.2.2.2.2.2.2.2.2.2.1 x.2.1.1.2.2.2.2.2.2.2.2.2.2.1 x.2.1.1.2.2.2.2.2.2.2.2.2.2.2.1 x.2.1.1.2.2.2.2.2.2.2.2.2.2.2.2.1
def yuO (x:(yjw).X):Option ((yjq).X ⊕ (yjI).X):=zr ydI (yCa x) (yB2 x)
def yCt:Seg:=⟨yjw,yjq,yjI,yuO⟩
def yFF:Nat→Option Seg:=fun q=>bif Nat.beq q 13 then some yCt else yFE q
theorem yS3:FrOk Tryz.prog ⟨yvo,28,yFF⟩ ypY:=(yS2).loop (sg:=yCt) ydw yB2 (by decide) ySr ydI yCa (by decide) (fun _=>rfl) (fun x r _ h=>h) yUD
abbrev ylV:List Par:= [.rd tA]
abbrev yvt:List OT:= [⟨false,tB,.fz⟩]
def yra (a0:dA):Option (ResD yvt×MutD ylV) :=
  zjw (yuO ((((),()),((),()),()),((a0.1,a0.2.1.1,a0.2.1.2,a0.2.2.1,a0.2.2.2.1,a0.2.2.2.2.1,a0.2.2.2.2.2.1,a0.2.2.2.2.2.2.1,a0.2.2.2.2.2.2.2.1,a0.2.2.2.2.2.2.2.2.1,a0.2.2.2.2.2.2.2.2.2.1,a0.2.2.2.2.2.2.2.2.2.2.1,a0.2.2.2.2.2.2.2.2.2.2.2,()),()),())) (fun y2 =>
    some ((true,()),())) (fun y2 =>
    some ((y2.1.1.1,()),()))
theorem yX9 (x:InD ylV):zjH ⟨yvo,28,yFF⟩ Tryz.f32.results.toList ypY ylV yvt x=yra x.1:=by kernel_rfl
theorem yWp:ConOk Tryz.prog 32 ⟨ylV,yvt,fun x=>yra x.1⟩:=zkh (yS3) Tryz.func32 (by kernel_rfl) (by kernel_rfl) Tryz.ntmps32.symm (by decide) (fun x r h=>(yX9 x).trans h)
def yl1 (a0:dA):Bool:=yIM a0
theorem yXG (a0:dA) (hk:zi9 ylV (a0,())):yra a0=(fun n=>some ((n,()),())) (yl1 a0):=by
  have h1:yuO (yQm a0)=some (bif (List.range (min a0.2.1.2.toNat 20)).any (fun (s:Nat)=>(yal a0 s).2&&(yal a0 s).1 !=0) then .inr (yQq false) else .inl yQh) :=
    zf4 (step:=ydI) (fun i=>ytM i a0) (min a0.2.1.2.toNat 20) _ _ _ (fun i hi=>by
      simp only [ydI,ytM,yuh,zjI (show (i:Int) < a0.2.1.2 by omega),cond_true,wr (show -9223372036854775808≤(i:Int)+1 by omega) (by omega),Int.natCast_add,Int.natCast_one,Int.toNat_natCast,zjI (show (i:Int) < 20 by omega),zkV,ygp]
      cases (yal a0 i).2<;>cases ((yal a0 i).1 !=0)<;>rfl) (by
      simp only [ydI,ytM,yuh]
      by_cases h:a0.2.1.2≤((min a0.2.1.2.toNat 20:Nat):Int)
      · rw [zkm h]; rfl
      · rw [zjI (by omega),zkm (show (20:Int)≤((min a0.2.1.2.toNat 20:Nat):Int) by omega)]; rfl) _ (by show _ < 18446744073709551616; omega)
  unfold yra yl1 yIM
  rw [h1,List.all_eq_not_any_not]; simp only [Bool.not_not]
  cases (List.range (min a0.2.1.2.toNat 20)).any (fun (s:Nat)=>(yal a0 s).2&&(yal a0 s).1 !=0)<;>rfl
def yGe:Con:=⟨ylV,yvt,fun x=>(fun n=>some ((n,()),())) (yl1 x.1)⟩
theorem yXO:ConOk Tryz.prog 32 yGe:=(yWp).mono (fun x r hk h=>(yXG x.1 hk).trans h)
end
section
def ypX:Code:=(Tryz.f33.body).getD .skip
def yvn:Env:=zki TT [(45,yjM),(118,yuU)] []
theorem yS0:FrOk Tryz.prog ⟨yvn,29,fun _=>none⟩ ypX:=zkp yc yd ⟨yq5,yGi,trivial⟩
def yFC:Nat→Option Seg:=fun _=>none
def ydv:Shape:=⟨[(1,false,[.ptr 0 0]),(3,false,[.int .i64]),(13,false,[.int .i64]),(14,false,[.int .i64])],[(0,[.int .i64,.int .i64,.int .i64,.br tM,.int .i64,.int .i64,.int .i64,.int .i64,.int .i64,.br tW,.int .i64,.bool,.bool])],[]⟩
def yjv:Shape:=⟨[(1,false,[.ptr 0 0]),(3,false,[.ci .i64 0]),(13,false,[.int .i64]),(14,false,[.ci .i64 0])],[(0,[.int .i64,.int .i64,.int .i64,.br tM,.int .i64,.int .i64,.int .i64,.int .i64,.int .i64,.br tW,.int .i64,.bool,.bool])],[]⟩
def yjp:Shape:=⟨[(3,false,[.int .i64])],[],[]⟩
def yoN:Shape:=⟨[],[],[]⟩
abbrev ytL (v0:Int) (v1:Int) (v2:Int) (v3:dA):(ydv).X:=((((),()),(v0,()),(v1,()),(v2,()),()),((v3.1,v3.2.1.1,v3.2.1.2,v3.2.2.1,v3.2.2.2.1,v3.2.2.2.2.1,v3.2.2.2.2.2.1,v3.2.2.2.2.2.2.1,v3.2.2.2.2.2.2.2.1,v3.2.2.2.2.2.2.2.2.1,v3.2.2.2.2.2.2.2.2.2.1,v3.2.2.2.2.2.2.2.2.2.2.1,v3.2.2.2.2.2.2.2.2.2.2.2,()),()),())
abbrev yQl (v0:Int) (v1:dA):(yjv).X:=((((),()),((),()),(v0,()),((),()),()),((v1.1,v1.2.1.1,v1.2.1.2,v1.2.2.1,v1.2.2.2.1,v1.2.2.2.2.1,v1.2.2.2.2.2.1,v1.2.2.2.2.2.2.1,v1.2.2.2.2.2.2.2.1,v1.2.2.2.2.2.2.2.2.1,v1.2.2.2.2.2.2.2.2.2.1,v1.2.2.2.2.2.2.2.2.2.2.1,v1.2.2.2.2.2.2.2.2.2.2.2,()),()),())
abbrev yQg (v0:Int):(yjp).X:=(((v0,()),()),(),())
def yug (v0:Int) (v1:Int) (v2:Int) (v3:Int) (v4:Int) (v5:Int) (v6:List dM) (v7:Int) (v8:Int) (v9:Int) (v10:Int) (v11:Int) (v12:List dW) (v13:Int) (v14:Bool) (v15:Bool):Option ((ydv).X ⊕ ((yjp).X ⊕ (yoN).X)) :=
  bif (ltb v2 v1) then
    let r3:=ygp (v3,(v4,v5),v6,v7,v8,v9,v10,v11,v12,v13,v14,v15) v2
    bif (!r3.2) then
      some (.inl ((((),()),((IntKind.i64.wrap (v0+1)),()),(v1,()),((IntKind.i64.wrap (v2+1)),()),()),((v3,v4,v5,v6,v7,v8,v9,v10,v11,v12,v13,v14,v15,()),()),()))
    else
      some (.inl ((((),()),(v0,()),(v1,()),((IntKind.i64.wrap (v2+1)),()),()),((v3,v4,v5,v6,v7,v8,v9,v10,v11,v12,v13,v14,v15,()),()),()))
  else
    some (.inr (.inl (((v0,()),()),(),())))
def ydH (x:(ydv).X):=yug x.1.2.1.1 x.1.2.2.1.1 x.1.2.2.2.1.1 x.2.1.1.1 x.2.1.1.2.1 x.2.1.1.2.2.1 x.2.1.1.2.2.2.1 x.2.1.1.2.2.2.2.1 x.2.1.1.2.2.2.2.2.1 x.2.1.1.2.2.2.2.2.2.1 x.2.1.1.2.2.2.2.2.2.2.1 x.2.1.1.2.2.2.2.2.2.2.2.1 x.2.1.1.2.2.2.2.2.2.2.2.2.1 x.2.1.1.2.2.2.2.2.2.2.2.2.2.1 x.2.1.1.2.2.2.2.2.2.2.2.2.2.2.1 x.2.1.1.2.2.2.2.2.2.2.2.2.2.2.2.1
def yB1 (x:(yjv).X):(ydv).X:=((((),()),(0,()),(x.1.2.2.1.1,()),(0,()),()),((x.2.1.1.1,x.2.1.1.2.1,x.2.1.1.2.2.1,x.2.1.1.2.2.2.1,x.2.1.1.2.2.2.2.1,x.2.1.1.2.2.2.2.2.1,x.2.1.1.2.2.2.2.2.2.1,x.2.1.1.2.2.2.2.2.2.2.1,x.2.1.1.2.2.2.2.2.2.2.2.1,x.2.1.1.2.2.2.2.2.2.2.2.2.1,x.2.1.1.2.2.2.2.2.2.2.2.2.2.1,x.2.1.1.2.2.2.2.2.2.2.2.2.2.2.1,x.2.1.1.2.2.2.2.2.2.2.2.2.2.2.2.1,()),()),())
def yDO:Code:=(zdI ypX 64 244).getD .skip
theorem ySq:zdI ypX 64 61=some (.block 0 (.loop yDO)):=by kernel_rfl
theorem yUC (x:(ydv).X):zg7 ⟨yvn,29,yFC⟩ 0 yDO 244 ydv yjp yoN x=ydH x:=by kernel_rfl
def yB9 (x:(yjv).X):Nat:=(fun (u0:Int) (u1:Int) (u2:Int) (u3:Int) (u4:List dM) (u5:Int) (u6:Int) (u7:Int) (u8:Int) (u9:Int) (u10:List dW) (u11:Int) (u12:Bool) (u13:Bool)=>18446744073709551616) x.1.2.2.1.1 x.2.1.1.1 x.2.1.1.2.1 x.2.1.1.2.2.1 x.2.1.1.2.2.2.1 x.2.1.1.2.2.2.2.1 x.2.1.1.2.2.2.2.2.1 x.2.1.1.2.2.2.2.2.2.1 x.2.1.1.2.2.2.2.2.2.2.1 x.2.1.1.2.2.2.2.2.2.2.2.1 x.2.1.1.2.2.2.2.2.2.2.2.2.1 x.2.1.1.2.2.2.2.2.2.2.2.2.2.1 x.2.1.1.2.2.2.2.2.2.2.2.2.2.2.1 x.2.1.1.2.2.2.2.2.2.2.2.2.2.2.2.1
def yuN (x:(yjv).X):Option ((yjp).X ⊕ (yoN).X):=zr ydH (yB9 x) (yB1 x)
def yCs:Seg:=⟨yjv,yjp,yoN,yuN⟩
def yFD:Nat→Option Seg:=fun q=>bif Nat.beq q 61 then some yCs else yFC q
theorem yS1:FrOk Tryz.prog ⟨yvn,29,yFD⟩ ypX:=(yS0).loop (sg:=yCs) ydv yB1 (by decide) ySq ydH yB9 (by decide) (fun _=>rfl) (fun x r _ h=>h) yUC
abbrev ylU:List Par:= [.rd tA]
abbrev yvs:List OT:= [⟨false,tI,.fz⟩]
def yq9 (a0:dA):Option (ResD yvs×MutD ylU) :=
  let r1:=yav a0
  bif (!r1) then
    some ((0,()),())
  else
    zjw (yuN ((((),()),((),()),(a0.2.1.2,()),((),()),()),((a0.1,a0.2.1.1,a0.2.1.2,a0.2.2.1,a0.2.2.2.1,a0.2.2.2.2.1,a0.2.2.2.2.2.1,a0.2.2.2.2.2.2.1,a0.2.2.2.2.2.2.2.1,a0.2.2.2.2.2.2.2.2.1,a0.2.2.2.2.2.2.2.2.2.1,a0.2.2.2.2.2.2.2.2.2.2.1,a0.2.2.2.2.2.2.2.2.2.2.2,()),()),())) (fun y3 =>
      some ((y3.1.1.1,()),())) (fun y3 =>
      none)
theorem yX8 (x:InD ylU):zjH ⟨yvn,29,yFD⟩ Tryz.f33.results.toList ypX ylU yvs x=yq9 x.1:=by kernel_rfl
theorem yWo:ConOk Tryz.prog 33 ⟨ylU,yvs,fun x=>yq9 x.1⟩:=zkh (yS1) Tryz.func33 (by kernel_rfl) (by kernel_rfl) Tryz.ntmps33.symm (by decide) (fun x r h=>(yX8 x).trans h)
def yl0 (a0:dA):Int:=ySx a0
theorem yXF (a0:dA) (hk:zi9 ylU (a0,())):yq9 a0=(fun n=>some ((n,()),())) (yl0 a0):=by
  unfold yq9 yl0 ySx yav
  cases ha:yo a0
  · rfl
  have hg:=yg.1 (yam ha)
  have h1:yuN (yQl a0.2.1.2 a0)=some (.inl (yQg ((yaS (fun (s:Nat)=>(yal a0 s).2) a0.2.1.2.toNat:Nat):Int))) :=
    zjs (step:=ydH) (fun i=>ytL ((yaS (fun (s:Nat)=>(yal a0 s).2) i:Nat):Int) a0.2.1.2 i a0) a0.2.1.2.toNat _ (fun i hi=>by
      have:=yEL (fun (s:Nat)=>(yal a0 s).2) i
      simp only [ydH,ytL,yug,zjI (show (i:Int) < a0.2.1.2 by omega),cond_true,wr (show -9223372036854775808≤(i:Int)+1 by omega) (by omega),Int.natCast_add,Int.natCast_one,Int.toNat_natCast,zkV,ygp,ydP,wr (show -9223372036854775808≤((yaS (fun (s:Nat)=>(yal a0 s).2) i:Nat):Int)+1 by omega) (by omega)]
      cases (yal a0 i).2<;>rfl) (by simp only [ydH,ytL,yug,zkm (show a0.2.1.2≤(a0.2.1.2.toNat:Int) by omega),cond_false]) _ (by show _ < 18446744073709551616; omega)
  rw [h1]; rfl
def yGd:Con:=⟨ylU,yvs,fun x=>(fun n=>some ((n,()),())) (yl0 x.1)⟩
theorem yXN:ConOk Tryz.prog 33 yGd:=(yWo).mono (fun x r hk h=>(yXF x.1 hk).trans h)
end
section
def ynm:Code:=(Tryz.f119.body).getD .skip
def ysB:Env:=zki TT [(215,ytE)] []
theorem yPI:FrOk Tryz.prog ⟨ysB,30,fun _=>none⟩ ynm:=zkp yc yd ⟨yEr,trivial⟩
def yDe:Nat→Option Seg:=fun _=>none
def yct:Shape:=⟨[(1,false,[.int .i64]),(2,false,[.ptr 0 0]),(6,false,[.int .i64]),(7,false,[.int .i64])],[(0,[.int .i64,.int .i64,.int .i64,.br tM,.int .i64,.int .i64,.int .i64,.int .i64,.int .i64,.br tW,.int .i64,.bool,.bool])],[]⟩
def yhD:Shape:=⟨[(1,false,[.int .i64]),(2,false,[.ptr 0 0]),(6,false,[.ci .i64 0]),(7,false,[.ci .i64 0])],[(0,[.int .i64,.int .i64,.int .i64,.br tM,.int .i64,.int .i64,.int .i64,.int .i64,.int .i64,.br tW,.int .i64,.bool,.bool])],[]⟩
def yhm:Shape:=⟨[(6,false,[.int .i64])],[],[]⟩
def yh0:Shape:=⟨[(4,false,[.int .i64]),(5,false,[.bool])],[],[]⟩
abbrev yrJ (v0:Int) (v1:Int) (v2:Int) (v3:dA):(yct).X:=(((v0,()),((),()),(v1,()),(v2,()),()),((v3.1,v3.2.1.1,v3.2.1.2,v3.2.2.1,v3.2.2.2.1,v3.2.2.2.2.1,v3.2.2.2.2.2.1,v3.2.2.2.2.2.2.1,v3.2.2.2.2.2.2.2.1,v3.2.2.2.2.2.2.2.2.1,v3.2.2.2.2.2.2.2.2.2.1,v3.2.2.2.2.2.2.2.2.2.2.1,v3.2.2.2.2.2.2.2.2.2.2.2,()),()),())
abbrev yMG (v0:Int) (v1:dA):(yhD).X:=(((v0,()),((),()),((),()),((),()),()),((v1.1,v1.2.1.1,v1.2.1.2,v1.2.2.1,v1.2.2.2.1,v1.2.2.2.2.1,v1.2.2.2.2.2.1,v1.2.2.2.2.2.2.1,v1.2.2.2.2.2.2.2.1,v1.2.2.2.2.2.2.2.2.1,v1.2.2.2.2.2.2.2.2.2.1,v1.2.2.2.2.2.2.2.2.2.2.1,v1.2.2.2.2.2.2.2.2.2.2.2,()),()),())
abbrev yzH (v0:Int):(yhm).X:=(((v0,()),()),(),())
abbrev yMV (v0:Int) (v1:Bool):(yh0).X:=(((v0,()),(v1,()),()),(),())
def yr5 (v0:Int) (v1:Int) (v2:Int) (v3:Int) (v4:Int) (v5:Int) (v6:List dM) (v7:Int) (v8:Int) (v9:Int) (v10:Int) (v11:Int) (v12:List dW) (v13:Int) (v14:Bool) (v15:Bool):Option ((yct).X ⊕ ((yhm).X ⊕ (yh0).X)) :=
  bif (ltb v2 (v6.length:Int)) then
    let r2:=yeN (v3,(v4,v5),v6,v7,v8,v9,v10,v11,v12,v13,v14,v15) v2 v0
    bif (!r2.2) then
      some (.inr (.inr (((0,()),(false,()),()),(),())))
    else
      some (.inl (((v0,()),((),()),((IntKind.i64.wrap ((BitVec.ofInt IntKind.i64.bits v1 ^^^ BitVec.ofInt IntKind.i64.bits r2.1).toNat:Int)),()),((IntKind.i64.wrap (v2+1)),()),()),((v3,v4,v5,v6,v7,v8,v9,v10,v11,v12,v13,v14,v15,()),()),()))
  else
    some (.inr (.inl (((v1,()),()),(),())))
def ycZ (x:(yct).X):=yr5 x.1.1.1 x.1.2.2.1.1 x.1.2.2.2.1.1 x.2.1.1.1 x.2.1.1.2.1 x.2.1.1.2.2.1 x.2.1.1.2.2.2.1 x.2.1.1.2.2.2.2.1 x.2.1.1.2.2.2.2.2.1 x.2.1.1.2.2.2.2.2.2.1 x.2.1.1.2.2.2.2.2.2.2.1 x.2.1.1.2.2.2.2.2.2.2.2.1 x.2.1.1.2.2.2.2.2.2.2.2.2.1 x.2.1.1.2.2.2.2.2.2.2.2.2.2.1 x.2.1.1.2.2.2.2.2.2.2.2.2.2.2.1 x.2.1.1.2.2.2.2.2.2.2.2.2.2.2.2.1
def yzb (x:(yhD).X):(yct).X:=(((x.1.1.1,()),((),()),(0,()),(0,()),()),((x.2.1.1.1,x.2.1.1.2.1,x.2.1.1.2.2.1,x.2.1.1.2.2.2.1,x.2.1.1.2.2.2.2.1,x.2.1.1.2.2.2.2.2.1,x.2.1.1.2.2.2.2.2.2.1,x.2.1.1.2.2.2.2.2.2.2.1,x.2.1.1.2.2.2.2.2.2.2.2.1,x.2.1.1.2.2.2.2.2.2.2.2.2.1,x.2.1.1.2.2.2.2.2.2.2.2.2.2.1,x.2.1.1.2.2.2.2.2.2.2.2.2.2.2.1,x.2.1.1.2.2.2.2.2.2.2.2.2.2.2.2.1,()),()),())
def yBv:Code:=(zdI ynm 64 116).getD .skip
theorem yOH:zdI ynm 64 29=some (.block 0 (.loop yBv)):=by kernel_rfl
theorem yRW (x:(yct).X):zg7 ⟨ysB,30,yDe⟩ 0 yBv 116 yct yhm yh0 x=ycZ x:=by kernel_rfl
def yzt (x:(yhD).X):Nat:=(fun (u0:Int) (u1:Int) (u2:Int) (u3:Int) (u4:List dM) (u5:Int) (u6:Int) (u7:Int) (u8:Int) (u9:Int) (u10:List dW) (u11:Int) (u12:Bool) (u13:Bool)=>18446744073709551616) x.1.1.1 x.2.1.1.1 x.2.1.1.2.1 x.2.1.1.2.2.1 x.2.1.1.2.2.2.1 x.2.1.1.2.2.2.2.1 x.2.1.1.2.2.2.2.2.1 x.2.1.1.2.2.2.2.2.2.1 x.2.1.1.2.2.2.2.2.2.2.1 x.2.1.1.2.2.2.2.2.2.2.2.1 x.2.1.1.2.2.2.2.2.2.2.2.2.1 x.2.1.1.2.2.2.2.2.2.2.2.2.2.1 x.2.1.1.2.2.2.2.2.2.2.2.2.2.2.1 x.2.1.1.2.2.2.2.2.2.2.2.2.2.2.2.1
def ysS (x:(yhD).X):Option ((yhm).X ⊕ (yh0).X):=zr ycZ (yzt x) (yzb x)
def yAe:Seg:=⟨yhD,yhm,yh0,ysS⟩
def yDf:Nat→Option Seg:=fun q=>bif Nat.beq q 29 then some yAe else yDe q
theorem yPJ:FrOk Tryz.prog ⟨ysB,30,yDf⟩ ynm:=(yPI).loop (sg:=yAe) yct yzb (by decide) yOH ycZ yzt (by decide) (fun _=>rfl) (fun x r _ h=>h) yRW
abbrev yji:List Par:= [.rd tA,.rd tI]
abbrev ytf:List OT:= [⟨false,tI,.fz⟩,⟨false,tB,.fz⟩]
def yo7 (a0:dA) (a1:Int):Option (ResD ytf×MutD yji) :=
  zjw (ysS (((a1,()),((),()),((),()),((),()),()),((a0.1,a0.2.1.1,a0.2.1.2,a0.2.2.1,a0.2.2.2.1,a0.2.2.2.2.1,a0.2.2.2.2.2.1,a0.2.2.2.2.2.2.1,a0.2.2.2.2.2.2.2.1,a0.2.2.2.2.2.2.2.2.1,a0.2.2.2.2.2.2.2.2.2.1,a0.2.2.2.2.2.2.2.2.2.2.1,a0.2.2.2.2.2.2.2.2.2.2.2,()),()),())) (fun y2 =>
    some ((y2.1.1.1,true,()),())) (fun y2 =>
    some ((y2.1.1.1,y2.1.2.1.1,()),()))
theorem yXa (x:InD yji):zjH ⟨ysB,30,yDf⟩ Tryz.f119.results.toList ynm yji ytf x=yo7 x.1 x.2.1:=by kernel_rfl
theorem yTZ:ConOk Tryz.prog 119 ⟨yji,ytf,fun x=>yo7 x.1 x.2.1⟩:=zkh (yPJ) Tryz.func119 (by kernel_rfl) (by kernel_rfl) Tryz.ntmps119.symm (by decide) (fun x r h=>(yXa x).trans h)
def ygt (a0:dA) (a1:Int):Int×Bool:=yal a0 a1
theorem yWf (a0:dA) (a1:Int) (hk:zi9 yji (a0,a1,())):yo7 a0 a1=(fun n=>some ((n.1,n.2,()),())) (ygt a0 a1):=by
  have hb:a0.2.2.1.length * 80≤2 ^ 47:=hk.1.2.2.1.1
  have h1:ysS (yMG a1 a0)=some (bif yrq a0 a1 then .inl (yzH ((List.range a0.2.2.1.length).foldl (fun n (i:Nat)=>xw n (ygx a0 i a1)) 0)) else .inr (yMV 0 false)) :=
    zhx (step:=ycZ) a0.2.2.1.length (fun i s=>yrJ a1 s i a0) (fun (i:Nat)=>yl a0 i a1) (fun n (i:Nat)=>xw n (ygx a0 i a1)) (fun _ _=>True) (fun s=> .inl (yzH s)) _ (fun i s hi _=>⟨by
      simp only [ycZ,yrJ,yr5,zjI (show (i:Int) < a0.2.2.1.length by omega),cond_true,wr (show -9223372036854775808≤(i:Int)+1 by omega) (by omega),Int.natCast_add,Int.natCast_one,Int.toNat_natCast,zkV,yeN]
      cases yl a0 i a1<;>rfl,fun _=>trivial⟩) (fun s _=>by simp only [ycZ,yrJ,yr5,zkm (Int.le_refl _),cond_false]) 0 trivial _ (by show _ < 18446744073709551616; omega)
  unfold yo7 ygt yal xorOf
  rw [h1,List.foldl_map]
  cases yrq a0 a1<;>rfl
def yuX:Con:=⟨yji,ytf,fun x=>(fun n=>some ((n.1,n.2,()),())) (ygt x.1 x.2.1)⟩
theorem yGl:ConOk Tryz.prog 119 yuX:=(yTZ).mono (fun x r hk h=>(yWf x.1 x.2.1 hk).trans h)
end
section
def yp0:Code:=(Tryz.f34.body).getD .skip
def yvq:Env:=zki TT [(119,yuX)] []
theorem yS6:FrOk Tryz.prog ⟨yvq,28,fun _=>none⟩ yp0:=zkp yc yd ⟨yGl,trivial⟩
def yFI:Nat→Option Seg:=fun _=>none
def ydy:Shape:=⟨[(1,false,[.ptr 0 0]),(3,false,[.int .i64])],[(0,[.int .i64,.int .i64,.int .i64,.br tM,.int .i64,.int .i64,.int .i64,.int .i64,.int .i64,.br tW,.int .i64,.bool,.bool])],[]⟩
def yjy:Shape:=⟨[(1,false,[.ptr 0 0]),(3,false,[.ci .i64 0])],[(0,[.int .i64,.int .i64,.int .i64,.br tM,.int .i64,.int .i64,.int .i64,.int .i64,.int .i64,.br tW,.int .i64,.bool,.bool])],[]⟩
def yjs:Shape:=⟨[],[],[]⟩
def yjJ:Shape:=⟨[(2,false,[.bool])],[],[]⟩
abbrev ytN (v0:Int) (v1:dA):(ydy).X:=((((),()),(v0,()),()),((v1.1,v1.2.1.1,v1.2.1.2,v1.2.2.1,v1.2.2.2.1,v1.2.2.2.2.1,v1.2.2.2.2.2.1,v1.2.2.2.2.2.2.1,v1.2.2.2.2.2.2.2.1,v1.2.2.2.2.2.2.2.2.1,v1.2.2.2.2.2.2.2.2.2.1,v1.2.2.2.2.2.2.2.2.2.2.1,v1.2.2.2.2.2.2.2.2.2.2.2,()),()),())
abbrev yQn (v0:dA):(yjy).X:=((((),()),((),()),()),((v0.1,v0.2.1.1,v0.2.1.2,v0.2.2.1,v0.2.2.2.1,v0.2.2.2.2.1,v0.2.2.2.2.2.1,v0.2.2.2.2.2.2.1,v0.2.2.2.2.2.2.2.1,v0.2.2.2.2.2.2.2.2.1,v0.2.2.2.2.2.2.2.2.2.1,v0.2.2.2.2.2.2.2.2.2.2.1,v0.2.2.2.2.2.2.2.2.2.2.2,()),()),())
abbrev yQi  :(yjs).X:=((),(),())
abbrev yQr (v0:Bool):(yjJ).X:=(((v0,()),()),(),())
def yui (v0:Int) (v1:Int) (v2:Int) (v3:Int) (v4:List dM) (v5:Int) (v6:Int) (v7:Int) (v8:Int) (v9:Int) (v10:List dW) (v11:Int) (v12:Bool) (v13:Bool):Option ((ydy).X ⊕ ((yjs).X ⊕ (yjJ).X)) :=
  bif (ltb v0 v3) then
    bif (ltb v0 20) then
      let r2:=ygt (v1,(v2,v3),v4,v5,v6,v7,v8,v9,v10,v11,v12,v13) v0
      bif r2.2 then
        bif (r2.1 !=0) then
          some (.inr (.inr (((false,()),()),(),())))
        else
          some (.inl ((((),()),((IntKind.i64.wrap (v0+1)),()),()),((v1,v2,v3,v4,v5,v6,v7,v8,v9,v10,v11,v12,v13,()),()),()))
      else
        some (.inl ((((),()),((IntKind.i64.wrap (v0+1)),()),()),((v1,v2,v3,v4,v5,v6,v7,v8,v9,v10,v11,v12,v13,()),()),()))
    else
      some (.inr (.inl ((),(),())))
  else
    some (.inr (.inl ((),(),())))
def ydJ (x:(ydy).X):=yui x.1.2.1.1 x.2.1.1.1 x.2.1.1.2.1 x.2.1.1.2.2.1 x.2.1.1.2.2.2.1 x.2.1.1.2.2.2.2.1 x.2.1.1.2.2.2.2.2.1 x.2.1.1.2.2.2.2.2.2.1 x.2.1.1.2.2.2.2.2.2.2.1 x.2.1.1.2.2.2.2.2.2.2.2.1 x.2.1.1.2.2.2.2.2.2.2.2.2.1 x.2.1.1.2.2.2.2.2.2.2.2.2.2.1 x.2.1.1.2.2.2.2.2.2.2.2.2.2.2.1 x.2.1.1.2.2.2.2.2.2.2.2.2.2.2.2.1
def yB4 (x:(yjy).X):(ydy).X:=((((),()),(0,()),()),((x.2.1.1.1,x.2.1.1.2.1,x.2.1.1.2.2.1,x.2.1.1.2.2.2.1,x.2.1.1.2.2.2.2.1,x.2.1.1.2.2.2.2.2.1,x.2.1.1.2.2.2.2.2.2.1,x.2.1.1.2.2.2.2.2.2.2.1,x.2.1.1.2.2.2.2.2.2.2.2.1,x.2.1.1.2.2.2.2.2.2.2.2.2.1,x.2.1.1.2.2.2.2.2.2.2.2.2.2.1,x.2.1.1.2.2.2.2.2.2.2.2.2.2.2.1,x.2.1.1.2.2.2.2.2.2.2.2.2.2.2.2.1,()),()),())
def yDR:Code:=(zdI yp0 64 52).getD .skip
theorem ySt:zdI yp0 64 13=some (.block 0 (.loop yDR)):=by kernel_rfl
theorem yUF (x:(ydy).X):zg7 ⟨yvq,28,yFI⟩ 0 yDR 52 ydy yjs yjJ x=ydJ x:=by kernel_rfl
def yCc (x:(yjy).X):Nat:=(fun (u0:Int) (u1:Int) (u2:Int) (u3:List dM) (u4:Int) (u5:Int) (u6:Int) (u7:Int) (u8:Int) (u9:List dW) (u10:Int) (u11:Bool) (u12:Bool)=>18446744073709551616) x.2.1.1.1 x.2.1.1.2.1 x.2.1.1.2.2.1 x.2.1.1.2.2.2.1 x.2.1.1.2.2.2.2.1 x.2.1.1.2.2.2.2.2.1 x.2.1.1.2.2.2.2.2.2.1 x.2.1.1.2.2.2.2.2.2.2.1 x.2.1.1.2.2.2.2.2.2.2.2.1 x.2.1.1.2.2.2.2.2.2.2.2.2.1 x.2.1.1.2.2.2.2.2.2.2.2.2.2.1 x.2.1.1.2.2.2.2.2.2.2.2.2.2.2.1 x.2.1.1.2.2.2.2.2.2.2.2.2.2.2.2.1
def yuP (x:(yjy).X):Option ((yjs).X ⊕ (yjJ).X):=zr ydJ (yCc x) (yB4 x)
def yCv:Seg:=⟨yjy,yjs,yjJ,yuP⟩
def yFJ:Nat→Option Seg:=fun q=>bif Nat.beq q 13 then some yCv else yFI q
theorem yS7:FrOk Tryz.prog ⟨yvq,28,yFJ⟩ yp0:=(yS6).loop (sg:=yCv) ydy yB4 (by decide) ySt ydJ yCc (by decide) (fun _=>rfl) (fun x r _ h=>h) yUF
abbrev ylX:List Par:= [.rd tA]
abbrev yvv:List OT:= [⟨false,tB,.fz⟩]
def yrc (a0:dA):Option (ResD yvv×MutD ylX) :=
  zjw (yuP ((((),()),((),()),()),((a0.1,a0.2.1.1,a0.2.1.2,a0.2.2.1,a0.2.2.2.1,a0.2.2.2.2.1,a0.2.2.2.2.2.1,a0.2.2.2.2.2.2.1,a0.2.2.2.2.2.2.2.1,a0.2.2.2.2.2.2.2.2.1,a0.2.2.2.2.2.2.2.2.2.1,a0.2.2.2.2.2.2.2.2.2.2.1,a0.2.2.2.2.2.2.2.2.2.2.2,()),()),())) (fun y2 =>
    some ((true,()),())) (fun y2 =>
    some ((y2.1.1.1,()),()))
theorem yYb (x:InD ylX):zjH ⟨yvq,28,yFJ⟩ Tryz.f34.results.toList yp0 ylX yvv x=yrc x.1:=by kernel_rfl
theorem yWr:ConOk Tryz.prog 34 ⟨ylX,yvv,fun x=>yrc x.1⟩:=zkh (yS7) Tryz.func34 (by kernel_rfl) (by kernel_rfl) Tryz.ntmps34.symm (by decide) (fun x r h=>(yYb x).trans h)
def yqc (a0:dA):Bool:=yIM a0
theorem yXI (a0:dA) (hk:zi9 ylX (a0,())):yrc a0=(fun n=>some ((n,()),())) (yqc a0):=by
  have h1:yuP (yQn a0)=some (bif (List.range (min a0.2.1.2.toNat 20)).any (fun (s:Nat)=>(yal a0 s).2&&(yal a0 s).1 !=0) then .inr (yQr false) else .inl yQi) :=
    zf4 (step:=ydJ) (fun i=>ytN i a0) (min a0.2.1.2.toNat 20) _ _ _ (fun i hi=>by
      simp only [ydJ,ytN,yui,zjI (show (i:Int) < a0.2.1.2 by omega),cond_true,wr (show -9223372036854775808≤(i:Int)+1 by omega) (by omega),Int.natCast_add,Int.natCast_one,Int.toNat_natCast,zjI (show (i:Int) < 20 by omega),zkV,ygt]
      cases (yal a0 i).2<;>cases ((yal a0 i).1 !=0)<;>rfl) (by
      simp only [ydJ,ytN,yui]
      by_cases h:a0.2.1.2≤((min a0.2.1.2.toNat 20:Nat):Int)
      · rw [zkm h]; rfl
      · rw [zjI (by omega),zkm (show (20:Int)≤((min a0.2.1.2.toNat 20:Nat):Int) by omega)]; rfl) _ (by show _ < 18446744073709551616; omega)
  unfold yrc yqc yIM
  rw [h1,List.all_eq_not_any_not]; simp only [Bool.not_not]
  cases (List.range (min a0.2.1.2.toNat 20)).any (fun (s:Nat)=>(yal a0 s).2&&(yal a0 s).1 !=0)<;>rfl
def yGg:Con:=⟨ylX,yvv,fun x=>(fun n=>some ((n,()),())) (yqc x.1)⟩
theorem yXQ:ConOk Tryz.prog 34 yGg:=(yWr).mono (fun x r hk h=>(yXI x.1 hk).trans h)
end
section
def ypZ:Code:=(Tryz.f35.body).getD .skip
def yvp:Env:=zki TT [(46,yfw),(119,yuX)] []
theorem yS4:FrOk Tryz.prog ⟨yvp,29,fun _=>none⟩ ypZ:=zkp yc yd ⟨ylL,yGl,trivial⟩
def yFG:Nat→Option Seg:=fun _=>none
def ydx:Shape:=⟨[(1,false,[.ptr 0 0]),(3,false,[.int .i64]),(4,false,[.int .i64])],[(0,[.int .i64,.int .i64,.int .i64,.br tM,.int .i64,.int .i64,.int .i64,.int .i64,.int .i64,.br tW,.int .i64,.bool,.bool])],[]⟩
def yjx:Shape:=⟨[(1,false,[.ptr 0 0]),(3,false,[.ci .i64 0]),(4,false,[.ci .i64 0])],[(0,[.int .i64,.int .i64,.int .i64,.br tM,.int .i64,.int .i64,.int .i64,.int .i64,.int .i64,.br tW,.int .i64,.bool,.bool])],[]⟩
def yjr:Shape:=⟨[(3,false,[.int .i64])],[],[]⟩
def yoO:Shape:=⟨[],[],[]⟩
abbrev yh4 (v0:Int) (v1:Int) (v2:dA):(ydx).X:=((((),()),(v0,()),(v1,()),()),((v2.1,v2.2.1.1,v2.2.1.2,v2.2.2.1,v2.2.2.2.1,v2.2.2.2.2.1,v2.2.2.2.2.2.1,v2.2.2.2.2.2.2.1,v2.2.2.2.2.2.2.2.1,v2.2.2.2.2.2.2.2.2.1,v2.2.2.2.2.2.2.2.2.2.1,v2.2.2.2.2.2.2.2.2.2.2.1,v2.2.2.2.2.2.2.2.2.2.2.2,()),()),())
abbrev yCi (v0:dA):(yjx).X:=((((),()),((),()),((),()),()),((v0.1,v0.2.1.1,v0.2.1.2,v0.2.2.1,v0.2.2.2.1,v0.2.2.2.2.1,v0.2.2.2.2.2.1,v0.2.2.2.2.2.2.1,v0.2.2.2.2.2.2.2.1,v0.2.2.2.2.2.2.2.2.1,v0.2.2.2.2.2.2.2.2.2.1,v0.2.2.2.2.2.2.2.2.2.2.1,v0.2.2.2.2.2.2.2.2.2.2.2,()),()),())
abbrev yCh (v0:Int):(yjr).X:=(((v0,()),()),(),())
def ynh (v0:Int) (v1:Int) (v2:Int) (v3:Int) (v4:Int) (v5:List dM) (v6:Int) (v7:Int) (v8:Int) (v9:Int) (v10:Int) (v11:List dW) (v12:Int) (v13:Bool) (v14:Bool):Option ((ydx).X ⊕ ((yjr).X ⊕ (yoO).X)) :=
  bif (ltb v1 v4) then
    let r3:=yD (v2,(v3,v4),v5,v6,v7,v8,v9,v10,v11,v12,v13,v14)
    bif r3 then
      let r4:=ygt (v2,(v3,v4),v5,v6,v7,v8,v9,v10,v11,v12,v13,v14) v1
      bif (!r4.2) then
        some (.inl ((((),()),((IntKind.i64.wrap (v0+1)),()),((IntKind.i64.wrap (v1+1)),()),()),((v2,v3,v4,v5,v6,v7,v8,v9,v10,v11,v12,v13,v14,()),()),()))
      else
        some (.inl ((((),()),(v0,()),((IntKind.i64.wrap (v1+1)),()),()),((v2,v3,v4,v5,v6,v7,v8,v9,v10,v11,v12,v13,v14,()),()),()))
    else
      some (.inr (.inl (((v0,()),()),(),())))
  else
    some (.inr (.inl (((v0,()),()),(),())))
def ya1 (x:(ydx).X):=ynh x.1.2.1.1 x.1.2.2.1.1 x.2.1.1.1 x.2.1.1.2.1 x.2.1.1.2.2.1 x.2.1.1.2.2.2.1 x.2.1.1.2.2.2.2.1 x.2.1.1.2.2.2.2.2.1 x.2.1.1.2.2.2.2.2.2.1 x.2.1.1.2.2.2.2.2.2.2.1 x.2.1.1.2.2.2.2.2.2.2.2.1 x.2.1.1.2.2.2.2.2.2.2.2.2.1 x.2.1.1.2.2.2.2.2.2.2.2.2.2.1 x.2.1.1.2.2.2.2.2.2.2.2.2.2.2.1 x.2.1.1.2.2.2.2.2.2.2.2.2.2.2.2.1
def yB3 (x:(yjx).X):(ydx).X:=((((),()),(0,()),(0,()),()),((x.2.1.1.1,x.2.1.1.2.1,x.2.1.1.2.2.1,x.2.1.1.2.2.2.1,x.2.1.1.2.2.2.2.1,x.2.1.1.2.2.2.2.2.1,x.2.1.1.2.2.2.2.2.2.1,x.2.1.1.2.2.2.2.2.2.2.1,x.2.1.1.2.2.2.2.2.2.2.2.1,x.2.1.1.2.2.2.2.2.2.2.2.2.1,x.2.1.1.2.2.2.2.2.2.2.2.2.2.1,x.2.1.1.2.2.2.2.2.2.2.2.2.2.2.1,x.2.1.1.2.2.2.2.2.2.2.2.2.2.2.2.1,()),()),())
def yDQ:Code:=(zdI ypZ 64 116).getD .skip
theorem ySs:zdI ypZ 64 29=some (.block 0 (.loop yDQ)):=by kernel_rfl
theorem yUE (x:(ydx).X):zg7 ⟨yvp,29,yFG⟩ 0 yDQ 116 ydx yjr yoO x=ya1 x:=by kernel_rfl
def yCb (x:(yjx).X):Nat:=(fun (u0:Int) (u1:Int) (u2:Int) (u3:List dM) (u4:Int) (u5:Int) (u6:Int) (u7:Int) (u8:Int) (u9:List dW) (u10:Int) (u11:Bool) (u12:Bool)=>18446744073709551616) x.2.1.1.1 x.2.1.1.2.1 x.2.1.1.2.2.1 x.2.1.1.2.2.2.1 x.2.1.1.2.2.2.2.1 x.2.1.1.2.2.2.2.2.1 x.2.1.1.2.2.2.2.2.2.1 x.2.1.1.2.2.2.2.2.2.2.1 x.2.1.1.2.2.2.2.2.2.2.2.1 x.2.1.1.2.2.2.2.2.2.2.2.2.1 x.2.1.1.2.2.2.2.2.2.2.2.2.2.1 x.2.1.1.2.2.2.2.2.2.2.2.2.2.2.1 x.2.1.1.2.2.2.2.2.2.2.2.2.2.2.2.1
def yow (x:(yjx).X):Option ((yjr).X ⊕ (yoO).X):=zr ya1 (yCb x) (yB3 x)
def yCu:Seg:=⟨yjx,yjr,yoO,yow⟩
def yFH:Nat→Option Seg:=fun q=>bif Nat.beq q 29 then some yCu else yFG q
theorem yS5:FrOk Tryz.prog ⟨yvp,29,yFH⟩ ypZ:=(yS4).loop (sg:=yCu) ydx yB3 (by decide) ySs ya1 yCb (by decide) (fun _=>rfl) (fun x r _ h=>h) yUE
abbrev ylW:List Par:= [.rd tA]
abbrev yvu:List OT:= [⟨false,tI,.fz⟩]
def yrb (a0:dA):Option (ResD yvu×MutD ylW) :=
  zjw (yow ((((),()),((),()),((),()),()),((a0.1,a0.2.1.1,a0.2.1.2,a0.2.2.1,a0.2.2.2.1,a0.2.2.2.2.1,a0.2.2.2.2.2.1,a0.2.2.2.2.2.2.1,a0.2.2.2.2.2.2.2.1,a0.2.2.2.2.2.2.2.2.1,a0.2.2.2.2.2.2.2.2.2.1,a0.2.2.2.2.2.2.2.2.2.2.1,a0.2.2.2.2.2.2.2.2.2.2.2,()),()),())) (fun y4 =>
    some ((y4.1.1.1,()),())) (fun y4 =>
    none)
theorem yYa (x:InD ylW):zjH ⟨yvp,29,yFH⟩ Tryz.f35.results.toList ypZ ylW yvu x=yrb x.1:=by kernel_rfl
theorem yWq:ConOk Tryz.prog 35 ⟨ylW,yvu,fun x=>yrb x.1⟩:=zkh (yS5) Tryz.func35 (by kernel_rfl) (by kernel_rfl) Tryz.ntmps35.symm (by decide) (fun x r h=>(yYa x).trans h)
def yqb (a0:dA):Int:=ySx a0
theorem yXH (a0:dA) (hk:zi9 ylW (a0,())):yrb a0=(fun n=>some ((n,()),())) (yqb a0):=by
  unfold yrb yqb ySx
  cases ha:yo a0
  · have h1:yow (yCi a0)=some (.inl (yCh 0)) :=
      zjs (step:=ya1) (fun i=>yh4 0 i a0) 0 _ (fun i hi=>absurd hi (Nat.not_lt_zero _)) (by
        simp only [ya1,yh4,ynh,zkV,yD,ha]
        cases ltb ((0:Nat):Int) a0.2.1.2<;>rfl) _ (by show _ < 18446744073709551616; omega)
    rw [h1]; rfl
  have hg:=yg.1 (yam ha)
  have h1:yow (yCi a0)=some (.inl (yCh ((yaS (fun (s:Nat)=>(yal a0 s).2) a0.2.1.2.toNat:Nat):Int))) :=
    zjs (step:=ya1) (fun i=>yh4 ((yaS (fun (s:Nat)=>(yal a0 s).2) i:Nat):Int) i a0) a0.2.1.2.toNat _ (fun i hi=>by
      have:=yEL (fun (s:Nat)=>(yal a0 s).2) i
      simp only [ya1,yh4,ynh,zjI (show (i:Int) < a0.2.1.2 by omega),cond_true,wr (show -9223372036854775808≤(i:Int)+1 by omega) (by omega),Int.natCast_add,Int.natCast_one,Int.toNat_natCast,zkV,yD,ha,ygt,ydP,wr (show -9223372036854775808≤((yaS (fun (s:Nat)=>(yal a0 s).2) i:Nat):Int)+1 by omega) (by omega)]
      cases (yal a0 i).2<;>rfl) (by simp only [ya1,yh4,ynh,zkm (show a0.2.1.2≤(a0.2.1.2.toNat:Int) by omega),cond_false]) _ (by show _ < 18446744073709551616; omega)
  rw [h1]; rfl
def yGf:Con:=⟨ylW,yvu,fun x=>(fun n=>some ((n,()),())) (yqb x.1)⟩
theorem yXP:ConOk Tryz.prog 35 yGf:=(yWq).mono (fun x r hk h=>(yXH x.1 hk).trans h)
end
end
end Go.Tf
