/- Functions of the program, and what they come to. -/
import Derived.Test.YtgmadfpnljibhaaGreatBlocksBentF9
namespace Go.Tf
noncomputable section
open Go.Proofs
set_option synthInstance.maxHeartbeats 400000
set_option synthInstance.maxSize 10000
set_option linter.unusedVariables false
set_option linter.unusedSimpArgs false
set_option maxRecDepth 100000
section
def yLb:Code:=(Tryz.f141.body).getD .skip
def yLI:Env:=zj3 TT [(135,yn)] []
theorem yTm:FrOk Tryz.prog ⟨yLI,9,fun _=>none⟩ yLb:=zj7 yb yc ⟨yu,trivial⟩
def yV7:Nat→Option Seg:=fun _=>none
abbrev yoc:List Par:= [.rd tI]
abbrev yut:List OT:= [⟨false,tI,.fz⟩]
def yyk (a0:Int):Option (ResD yut×MutD yoc) :=
 let r1:=ya a0 0 1099511627776
 bif (!r1) then
 some (((-1),()),())
 else
 some (((IntKind.i64.wrap ((IntKind.i64.wrap (a0+2))+4)),()),())
theorem y3d (x:InD yoc):zjx ⟨yLI,9,yV7⟩ Tryz.f141.results.toList yLb yoc yut x=yyk x.1:=by kernel_rfl
theorem yYT:ConOk Tryz.prog 141 ⟨yoc,yut,fun x=>yyk x.1⟩:=zj2 (yTm) Tryz.func141 (by kernel_rfl) (by kernel_rfl) Tryz.ntmps141.symm (by decide) (fun x r h=>(y3d x).trans h)
def yaG (a0:Int):Int :=
 let r1:=ya a0 0 1099511627776
 bif (!r1) then
 (-1)
 else
 (IntKind.i64.wrap ((IntKind.i64.wrap (a0+2))+4))
def ydT:Con:=⟨yoc,yut,fun x=>(fun n=>some ((n,()),())) (yaG x.1)⟩
theorem y07 (a0:Int):yyk a0=(fun n=>some ((n,()),())) (yaG a0):=zkq (p:=fun (n:Int)=>((n,()),())) (zkc (p:=fun (n:Int)=>((n,()),())) rfl rfl)
theorem yhC:ConOk Tryz.prog 141 ydT:=(yYT).mono (fun x r _ h=>(y07 x.1).trans h)
theorem ye9 (s:Int):yaG s=dataAt s:=by
 unfold yaG dataAt
 rw [ybE]
 by_cases h:0≤s∧s≤1099511627776
 ·rw [zkx h.1,zkx h.2,wr (show -9223372036854775808≤s+2 by omega) (by omega),wr (by omega) (by omega)]
  show s+2+4=s+6
  omega
 ·cases h1:(leb 0 s&&leb s 1099511627776)
  ·rfl
  ·rw [Bool.and_eq_true,zjE,zjE]at h1; exact absurd h1 h
theorem yJD (s:Int):yoD s=dataAt s:=ye9 s
end
section
def yF3:Code:=(Tryz.f231.body).getD .skip
def yGJ:Env:=zj3 TT [(116,ybt)] []
theorem yOg:FrOk Tryz.prog ⟨yGJ,17,fun _=>none⟩ yF3:=zj7 yb yc ⟨yd9,trivial⟩
def yPP:Nat→Option Seg:=fun _=>none
abbrev yfR:List Par:= [.rd tG,.rd tI]
abbrev ypG:List OT:= [⟨false,tI,.fz⟩]
def yll (a0:dG) (a1:Int):Option (ResD ypG×MutD yfR) :=
 let r1:=yY a0 a1
 bif (!r1) then
 some (((-1),()),())
 else
 bif (a0.1 !=0) then
 some (((IntKind.i64.wrap ((IntKind.i64.wrap (a0.1 - 1)) - (a1.tmod a0.1))),()),())
 else none
theorem yWU (x:InD yfR):zjx ⟨yGJ,17,yPP⟩ Tryz.f231.results.toList yF3 yfR ypG x=yll x.1 x.2.1:=by kernel_rfl
theorem yRy:ConOk Tryz.prog 231 ⟨yfR,ypG,fun x=>yll x.1 x.2.1⟩:=zj2 (yOg) Tryz.func231 (by kernel_rfl) (by kernel_rfl) Tryz.ntmps231.symm (by decide) (fun x r h=>(yWU x).trans h)
def ydU (a0:dG) (a1:Int):Int:=yh a0 a1
theorem yUx (a0:dG) (a1:Int) (hk:zi2 yfR (a0,a1,())):yll a0 a1=(fun n=>some ((n,()),())) (ydU a0 a1):=by
 unfold yll ydU
 rw [ytY]
 cases hs:yP a0 a1
 ·unfold yh; rw [hs]; rfl
 ·have h1:=yca.1 hs
  have h2:=yk.1 h1.1
  have h3:=yrL hs
  have h4:yh a0 a1=a0.1 - 1 - a1.tmod a0.1:=by unfold yh; rw [hs]; rfl
  rw [show (a0.1 !=0)=true from bne_iff_ne.2 (by omega),wr (show -9223372036854775808≤a0.1 - 1 by omega) (by omega),wr (show -9223372036854775808≤a0.1 - 1 - a1.tmod a0.1 by omega) (by omega),h4]; rfl
def ytb:Con:=⟨yfR,ypG,fun x=>(fun n=>some ((n,()),())) (ydU x.1 x.2.1)⟩
theorem yFi:ConOk Tryz.prog 231 ytb:=(yRy).mono (fun x r hk h=>(yUx x.1 x.2.1 hk).trans h)
end
section
def yKZ:Code:=(Tryz.f148.body).getD .skip
def yLw:Env:=zj3 TT [(116,ybt),(126,yy),(231,ytb)] []
theorem yS7:FrOk Tryz.prog ⟨yLw,28,fun _=>none⟩ yKZ:=zj7 yb yc ⟨yd9,yN,yFi,trivial⟩
def yVV:Nat→Option Seg:=fun _=>none
abbrev yiU:List Par:= [.rd tG,.rd tI,.rd tI]
abbrev yuh:List OT:= [⟨false,tI,.fz⟩]
def yqo (a0:dG) (a1 a2:Int):Option (ResD yuh×MutD yiU) :=
 let r1:=yY a0 a1
 bif (!(!r1)) then
 let r2:=yf a2 0 (IntKind.i64.wrap (a0.1 - 2))
 bif (!r2) then
 some (((-1),()),())
 else
 let r3:=ydU a0 a1
 bif (a0.1 !=0) then
 some ((((IntKind.i64.wrap ((IntKind.i64.wrap (r3+1))+a2)).tmod a0.1),()),())
 else none
 else
 some (((-1),()),())
theorem y20 (x:InD yiU):zjx ⟨yLw,28,yVV⟩ Tryz.f148.results.toList yKZ yiU yuh x=yqo x.1 x.2.1 x.2.2.1:=by kernel_rfl
theorem yYG:ConOk Tryz.prog 148 ⟨yiU,yuh,fun x=>yqo x.1 x.2.1 x.2.2.1⟩:=zj2 (yS7) Tryz.func148 (by kernel_rfl) (by kernel_rfl) Tryz.ntmps148.symm (by decide) (fun x r h=>(y20 x).trans h)
def ygq (a0:dG) (a1 a2:Int):Int:=ybR a0 a1 a2
theorem y0U (a0:dG) (a1 a2:Int) (hk:zi2 yiU (a0,a1,a2,())):yqo a0 a1 a2=(fun n=>some ((n,()),())) (ygq a0 a1 a2):=by
 unfold yqo ygq ybR ydU
 rw [ytY]
 cases hs:yP a0 a1
 ·rfl
 ·have h1:=yca.1 hs
  have h2:=yk.1 h1.1
  have h3:=yrL hs
  rw [yag,ybE,wr (show -9223372036854775808≤a0.1 - 2 by omega) (by omega)]
  cases hi:(leb 0 a2&&leb a2 (a0.1 - 2))
  ·rfl
  ·rw [Bool.and_eq_true,zjE,zjE]at hi
   rw [show (a0.1 !=0)=true from bne_iff_ne.2 (by omega)]
   show some (((IntKind.i64.wrap (IntKind.i64.wrap (yh a0 a1+1)+a2)).tmod a0.1,()),())=some (((yh a0 a1+1+a2).tmod a0.1,()),())
   rw [wr (show -9223372036854775808≤yh a0 a1+1 by omega) (by omega),wr (show -9223372036854775808≤yh a0 a1+1+a2 by omega) (by omega)]
def yxq:Con:=⟨yiU,yuh,fun x=>(fun n=>some ((n,()),())) (ygq x.1 x.2.1 x.2.2.1)⟩
theorem yJR:ConOk Tryz.prog 148 yxq:=(yYG).mono (fun x r hk h=>(y0U x.1 x.2.1 x.2.2.1 hk).trans h)
end
section
def yqH:Code:=(Tryz.f214.body).getD .skip
def ywv:Env:=zj3 TT [] []
theorem yXx:FrOk Tryz.prog ⟨ywv,17,fun _=>none⟩ yqH:=zj7 yb yc trivial
def yIy:Nat→Option Seg:=fun _=>none
def ydB:Shape:=⟨[(3,false,[.int .i64]),(6,false,[.br tI]),(7,false,[.int .i64]),(8,false,[.int .i64])],[],[]⟩
def yjO:Shape:=⟨[(3,false,[.ci .i64 0]),(6,false,[.br tI]),(7,false,[.int .i64]),(8,false,[.ci .i64 0])],[],[]⟩
def yjz:Shape:=⟨[(3,false,[.int .i64])],[],[]⟩
def yp1:Shape:=⟨[],[],[]⟩
abbrev yvt (v0:Int) (v1:List Int) (v2 v3:Int):(ydB).X:=(((v0,()),(v1,()),(v2,()),(v3,()),()),(),())
abbrev yUb (v0:List Int) (v1:Int):(yjO).X:=((((),()),(v0,()),(v1,()),((),()),()),(),())
abbrev yE9 (v0:Int):(yjz).X:=(((v0,()),()),(),())
def yvS (v0:Int) (v1:List Int) (v2 v3:Int):Option ((ydB).X ⊕ ((yjz).X ⊕ (yp1).X)) :=
 bif (ltb v3 v2) then
 bif (inb v3 v1.length) then
 some (.inl ((((IntKind.i64.wrap ((BitVec.ofInt IntKind.i64.bits v0 ^^^ BitVec.ofInt IntKind.i64.bits (nth v1 v3 0)).toNat:Int)),()),(v1,()),(v2,()),((IntKind.i64.wrap (v3+1)),()),()),(),()))
 else none
 else
 some (.inr (.inl (((v0,()),()),(),())))
def yef (x:(ydB).X):=yvS x.1.1.1 x.1.2.1.1 x.1.2.2.1.1 x.1.2.2.2.1.1
def yEF (x:(yjO).X):(ydB).X:=(((0,()),(x.1.2.1.1,()),(x.1.2.2.1.1,()),(0,()),()),(),())
def yG6:Code:=(zdD yqH 64 116).getD .skip
theorem yWs:zdD yqH 64 29=some (.block 0 (.loop yG6)):=by kernel_rfl
theorem yZH (x:(ydB).X):zg0 ⟨ywv,17,yIy⟩ 0 yG6 116 ydB yjz yp1 x=yef x:=by kernel_rfl
def yEV (x:(yjO).X):Nat:=18446744073709551616
def ywI (x:(yjO).X):Option ((yjz).X ⊕ (yp1).X):=zz yef (yEV x) (yEF x)
def yFG:Seg:=⟨yjO,yjz,yp1,ywI⟩
def yIz:Nat→Option Seg:=fun q=>bif Nat.beq q 29 then some yFG else yIy q
theorem yXy:FrOk Tryz.prog ⟨ywv,17,yIz⟩ yqH:=(yXx).loop (sg:=yFG) ydB yEF (by decide) yWs yef yEV (by decide) (fun _=>rfl) (fun x r _ h=>h) yZH
abbrev ylR:List Par:= [.rd tL]
abbrev yw1:List OT:= [⟨false,tI,.fz⟩]
def ysL (a0:List Int):Option (ResD yw1×MutD ylR) :=
 zjZ (ywI ((((),()),(a0,()),((a0.length:Int),()),((),()),()),(),())) (fun y0 =>
 some ((y0.1.1.1,()),())) (fun y0 =>
 none)
theorem y4x (x:InD ylR):zjx ⟨ywv,17,yIz⟩ Tryz.f214.results.toList yqH ylR yw1 x=ysL x.1:=by kernel_rfl
theorem y1x:ConOk Tryz.prog 214 ⟨ylR,yw1,fun x=>ysL x.1⟩:=zj2 (yXy) Tryz.func214 (by kernel_rfl) (by kernel_rfl) Tryz.ntmps214.symm (by decide) (fun x r h=>(y4x x).trans h)
def yfI (a0:List Int):Int:=ygi a0
theorem y3M (a0:List Int) (hk:zi2 ylR (a0,())):ysL a0=(fun n=>some ((n,()),())) (yfI a0):=by
 have hb:a0.length * 8≤2 ^ 47:=hk.1.1
 have h1:ywI (yUb a0 a0.length)=some (.inl (yE9 (ygi a0))) :=
  zj4 (step:=yef) a0 0 (fun i s=>yvt s a0 a0.length i) xw (fun _ _=>True) (fun s=> .inl (yE9 s)) (fun i s hi _=>⟨by
   simp only [yef,yvt,yvS,zj5 (show (i:Int) < a0.length by omega),cond_true,wr (show -9223372036854775808≤(i:Int)+1 by omega) (by omega),Int.natCast_add,Int.natCast_one,Int.toNat_natCast,zkm hi,zkn]; rfl,trivial⟩) (fun s _=>by simp only [yef,yvt,yvS,zky (Int.le_refl _),cond_false]) 0 trivial _ (by show _ < 18446744073709551616; omega)
 unfold ysL yfI
 rw [h1]; rfl
def yzw:Con:=⟨ylR,yw1,fun x=>(fun n=>some ((n,()),())) (yfI x.1)⟩
theorem yLZ:ConOk Tryz.prog 214 yzw:=(y1x).mono (fun x r hk h=>(y3M x.1 hk).trans h)
end
section
def yBO:Code:=(Tryz.f241.body).getD .skip
def yCc:Env:=zj3 TT [(214,yzw)] []
theorem yKl:FrOk Tryz.prog ⟨yCc,5,fun _=>none⟩ yBO:=zj7 yb yc ⟨yLZ,trivial⟩
def yMc:Nat→Option Seg:=fun _=>none
abbrev ygx:List Par:= [.rd tL]
abbrev ykW:List OT:= [⟨false,tI,.fz⟩]
def ype (a0:List Int):Option (ResD ykW×MutD ygx) :=
 let r1:=yfI a0
 some ((r1,()),())
theorem yQm (x:InD ygx):zjx ⟨yCc,5,yMc⟩ Tryz.f241.results.toList yBO ygx ykW x=ype x.1:=by kernel_rfl
theorem yMR:ConOk Tryz.prog 241 ⟨ygx,ykW,fun x=>ype x.1⟩:=zj2 (yKl) Tryz.func241 (by kernel_rfl) (by kernel_rfl) Tryz.ntmps241.symm (by decide) (fun x r h=>(yQm x).trans h)
def yld (a0:List Int):Int :=
 let r1:=yfI a0
 r1
def yyQ:Con:=⟨ygx,ykW,fun x=>(fun n=>some ((n,()),())) (yld x.1)⟩
theorem yPb (a0:List Int):ype a0=(fun n=>some ((n,()),())) (yld a0):=zkq (p:=fun (n:Int)=>((n,()),())) rfl
theorem yPn:ConOk Tryz.prog 241 yyQ:=(yMR).mono (fun x r _ h=>(yPb x.1).trans h)
end
section
def ybi:Code:=(Tryz.f165.body).getD .skip
def yeT:Env:=zj3 TT [(47,yxr),(107,yko),(108,yxp),(148,yxq),(231,ytb),(241,yyQ)] []
theorem yMp:FrOk Tryz.prog ⟨yeT,70,fun _=>none⟩ ybi:=zj7 yb yc ⟨yJS,ytw,yJQ,yJR,yFi,yPn,trivial⟩
def yAb:Nat→Option Seg:=fun _=>none
def yaT:Shape:=⟨[(0,false,[.ptr 1000000000 0]),(1,false,[.int .i64]),(7,false,[.at 800000000]),(28,false,[.br tI]),(29,false,[.int .i64]),(30,false,[.int .i64])],[(1000000000,[.int .i64,.int .i64,.int .i64,.at 800000001,.int .i64,.int .i64,.int .i64,.int .i64,.int .i64,.at 800000002,.int .i64,.bool,.bool])],[(800000000,tI,.fz),(800000001,tM,(.pr (.ow (.ow .fz)) (.pr (.ow (.pr .fz (.ow .fz))) (.pr .fz (.ow .fz))))),(800000002,tW,(.pr .fz (.ow .fz)))]⟩
def yeK:Shape:=⟨[(0,false,[.ptr 1000000000 0]),(1,false,[.int .i64]),(7,false,[.at 800000000]),(28,false,[.br tI]),(29,false,[.int .i64]),(30,false,[.ci .i64 0])],[(1000000000,[.int .i64,.int .i64,.int .i64,.at 800000001,.int .i64,.int .i64,.int .i64,.int .i64,.int .i64,.at 800000002,.int .i64,.bool,.bool])],[(800000000,tI,.fz),(800000001,tM,(.pr (.ow (.ow .fz)) (.pr (.ow (.pr .fz (.ow .fz))) (.pr .fz (.ow .fz))))),(800000002,tW,(.pr .fz (.ow .fz)))]⟩
def yeF:Shape:=⟨[(0,false,[.ptr 1000000000 0]),(1,false,[.int .i64]),(7,false,[.at 800000000])],[(1000000000,[.int .i64,.int .i64,.int .i64,.at 800000001,.int .i64,.int .i64,.int .i64,.int .i64,.int .i64,.at 800000002,.int .i64,.bool,.bool])],[(800000000,tI,.fz),(800000001,tM,(.pr (.ow (.ow .fz)) (.pr (.ow (.pr .fz (.ow .fz))) (.pr .fz (.ow .fz))))),(800000002,tW,(.pr .fz (.ow .fz)))]⟩
def yiE:Shape:=⟨[],[],[]⟩
abbrev ynp (v0:Int) (v1:List Int) (v2 v3:Int) (v4:dA) (v5:List Int):(yaT).X:=((((),()),(v0,()),((),()),(v1,()),(v2,()),(v3,()),()),((v4.1,v4.2.1.1,v4.2.1.2,(),v4.2.2.2.1,v4.2.2.2.2.1,v4.2.2.2.2.2.1,v4.2.2.2.2.2.2.1,v4.2.2.2.2.2.2.2.1,(),v4.2.2.2.2.2.2.2.2.2.1,v4.2.2.2.2.2.2.2.2.2.2.1,v4.2.2.2.2.2.2.2.2.2.2.2,()),()),(v5,v4.2.2.1,v4.2.2.2.2.2.2.2.2.1,()))
abbrev yKv (v0:Int) (v1:List Int) (v2:Int) (v3:dA) (v4:List Int):(yeK).X:=((((),()),(v0,()),((),()),(v1,()),(v2,()),((),()),()),((v3.1,v3.2.1.1,v3.2.1.2,(),v3.2.2.2.1,v3.2.2.2.2.1,v3.2.2.2.2.2.1,v3.2.2.2.2.2.2.1,v3.2.2.2.2.2.2.2.1,(),v3.2.2.2.2.2.2.2.2.2.1,v3.2.2.2.2.2.2.2.2.2.2.1,v3.2.2.2.2.2.2.2.2.2.2.2,()),()),(v4,v3.2.2.1,v3.2.2.2.2.2.2.2.2.1,()))
abbrev yxW (v0:Int) (v1:dA) (v2:List Int):(yeF).X:=((((),()),(v0,()),((),()),()),((v1.1,v1.2.1.1,v1.2.1.2,(),v1.2.2.2.1,v1.2.2.2.2.1,v1.2.2.2.2.2.1,v1.2.2.2.2.2.2.1,v1.2.2.2.2.2.2.2.1,(),v1.2.2.2.2.2.2.2.2.2.1,v1.2.2.2.2.2.2.2.2.2.2.1,v1.2.2.2.2.2.2.2.2.2.2.2,()),()),(v2,v1.2.2.1,v1.2.2.2.2.2.2.2.2.1,()))
def ynN (v0:Int) (v1:List Int) (v2 v3 v4 v5 v6 v7 v8 v9 v10 v11 v12:Int) (v13 v14:Bool) (v15:List Int) (v16:List dM) (v17:List dW):Option ((yaT).X ⊕ ((yeF).X ⊕ (yiE).X)) :=
 bif (ltb v3 v2) then
 bif (inb v3 v1.length) then
 let r5:=ygq (v5,v6) v0 v3
 bif (inb r5 v15.length) then
 some (.inl ((((),()),(v0,()),((),()),(v1,()),(v2,()),((IntKind.i64.wrap (v3+1)),()),()),((v4,v5,v6,(),v7,v8,v9,v10,v11,(),v12,v13,v14,()),()),((v15.set (r5).toNat (nth v1 v3 0)),v16,v17,())))
 else none
 else none
 else
 some (.inr (.inl ((((),()),(v0,()),((),()),()),((v4,v5,v6,(),v7,v8,v9,v10,v11,(),v12,v13,v14,()),()),(v15,v16,v17,()))))
def ybd (x:(yaT).X):=ynN x.1.2.1.1 x.1.2.2.2.1.1 x.1.2.2.2.2.1.1 x.1.2.2.2.2.2.1.1 x.2.1.1.1 x.2.1.1.2.1 x.2.1.1.2.2.1 x.2.1.1.2.2.2.2.1 x.2.1.1.2.2.2.2.2.1 x.2.1.1.2.2.2.2.2.2.1 x.2.1.1.2.2.2.2.2.2.2.1 x.2.1.1.2.2.2.2.2.2.2.2.1 x.2.1.1.2.2.2.2.2.2.2.2.2.2.1 x.2.1.1.2.2.2.2.2.2.2.2.2.2.2.1 x.2.1.1.2.2.2.2.2.2.2.2.2.2.2.2.1 x.2.2.1 x.2.2.2.1 x.2.2.2.2.1
def yxG (x:(yeK).X):(yaT).X:=((((),()),(x.1.2.1.1,()),((),()),(x.1.2.2.2.1.1,()),(x.1.2.2.2.2.1.1,()),(0,()),()),((x.2.1.1.1,x.2.1.1.2.1,x.2.1.1.2.2.1,(),x.2.1.1.2.2.2.2.1,x.2.1.1.2.2.2.2.2.1,x.2.1.1.2.2.2.2.2.2.1,x.2.1.1.2.2.2.2.2.2.2.1,x.2.1.1.2.2.2.2.2.2.2.2.1,(),x.2.1.1.2.2.2.2.2.2.2.2.2.2.1,x.2.1.1.2.2.2.2.2.2.2.2.2.2.2.1,x.2.1.1.2.2.2.2.2.2.2.2.2.2.2.2.1,()),()),(x.2.2.1,x.2.2.2.1,x.2.2.2.2.1,()))
def yyJ:Code:=(zdD ybi 64 244).getD .skip
theorem yMf:zdD ybi 64 61=some (.block 0 (.loop yyJ)):=by kernel_rfl
theorem yMZ (x:(yaT).X):zg0 ⟨yeT,70,yAb⟩ 0 yyJ 244 yaT yeF yiE x=ybd x:=by kernel_rfl
def yxL (x:(yeK).X):Nat:=18446744073709551616
def yoX (x:(yeK).X):Option ((yeF).X ⊕ (yiE).X):=zz ybd (yxL x) (yxG x)
def yyr:Seg:=⟨yeK,yeF,yiE,yoX⟩
def yqQ:Nat→Option Seg:=fun q=>bif Nat.beq q 61 then some yyr else yAb q
theorem yMq:FrOk Tryz.prog ⟨yeT,70,yqQ⟩ ybi:=(yMp).loop (sg:=yyr) yaT yxG (by decide) yMf ybd yxL (by decide) (fun _=>rfl) (fun x r _ h=>h) yMZ
def yaA:Shape:=⟨[(0,false,[.ptr 1000000000 0]),(1,false,[.int .i64]),(46,false,[.at 800000000]),(47,false,[.int .i64]),(48,false,[.int .i64])],[(1000000000,[.int .i64,.int .i64,.int .i64,.at 800000001,.int .i64,.int .i64,.int .i64,.int .i64,.int .i64,.at 800000002,.int .i64,.bool,.bool])],[(800000000,tI,.fz),(800000001,tM,(.pr (.ow (.ow .fz)) (.pr (.ow (.pr .fz (.ow .fz))) (.pr .fz (.ow .fz))))),(800000002,tW,(.pr .fz (.ow .fz)))]⟩
def ydP:Shape:=⟨[(0,false,[.ptr 1000000000 0]),(1,false,[.int .i64]),(46,false,[.at 800000000]),(47,false,[.int .i64]),(48,false,[.ci .i64 0])],[(1000000000,[.int .i64,.int .i64,.int .i64,.at 800000001,.int .i64,.int .i64,.int .i64,.int .i64,.int .i64,.at 800000002,.int .i64,.bool,.bool])],[(800000000,tI,.fz),(800000001,tM,(.pr (.ow (.ow .fz)) (.pr (.ow (.pr .fz (.ow .fz))) (.pr .fz (.ow .fz))))),(800000002,tW,(.pr .fz (.ow .fz)))]⟩
def ydM:Shape:=⟨[],[(1000000000,[.int .i64,.int .i64,.int .i64,.at 800000000,.int .i64,.int .i64,.int .i64,.int .i64,.int .i64,.at 800000001,.int .i64,.bool,.bool])],[(800000000,tM,(.pr (.ow (.ow .fz)) (.pr (.ow (.pr .fz (.ow .fz))) (.pr .fz (.ow .fz))))),(800000001,tW,(.pr .fz (.ow .fz)))]⟩
def ydS:Shape:=⟨[(6,false,[.bool])],[(1000000000,[.int .i64,.int .i64,.int .i64,.at 800000000,.int .i64,.int .i64,.int .i64,.int .i64,.int .i64,.at 800000001,.int .i64,.bool,.bool])],[(800000000,tM,(.pr (.ow (.ow .fz)) (.pr (.ow (.pr .fz (.ow .fz))) (.pr .fz (.ow .fz))))),(800000001,tW,(.pr .fz (.ow .fz)))]⟩
abbrev ymu (v0 v1 v2:Int) (v3:dA) (v4:List Int):(yaA).X:=((((),()),(v0,()),((),()),(v1,()),(v2,()),()),((v3.1,v3.2.1.1,v3.2.1.2,(),v3.2.2.2.1,v3.2.2.2.2.1,v3.2.2.2.2.2.1,v3.2.2.2.2.2.2.1,v3.2.2.2.2.2.2.2.1,(),v3.2.2.2.2.2.2.2.2.2.1,v3.2.2.2.2.2.2.2.2.2.2.1,v3.2.2.2.2.2.2.2.2.2.2.2,()),()),(v4,v3.2.2.1,v3.2.2.2.2.2.2.2.2.1,()))
abbrev yJH (v0 v1:Int) (v2:dA) (v3:List Int):(ydP).X:=((((),()),(v0,()),((),()),(v1,()),((),()),()),((v2.1,v2.2.1.1,v2.2.1.2,(),v2.2.2.2.1,v2.2.2.2.2.1,v2.2.2.2.2.2.1,v2.2.2.2.2.2.2.1,v2.2.2.2.2.2.2.2.1,(),v2.2.2.2.2.2.2.2.2.2.1,v2.2.2.2.2.2.2.2.2.2.2.1,v2.2.2.2.2.2.2.2.2.2.2.2,()),()),(v3,v2.2.2.1,v2.2.2.2.2.2.2.2.2.1,()))
abbrev ymx (v0:dA):(ydM).X:=((),((v0.1,v0.2.1.1,v0.2.1.2,(),v0.2.2.2.1,v0.2.2.2.2.1,v0.2.2.2.2.2.1,v0.2.2.2.2.2.2.1,v0.2.2.2.2.2.2.2.1,(),v0.2.2.2.2.2.2.2.2.2.1,v0.2.2.2.2.2.2.2.2.2.2.1,v0.2.2.2.2.2.2.2.2.2.2.2,()),()),(v0.2.2.1,v0.2.2.2.2.2.2.2.2.1,()))
abbrev ymA (v0:Bool) (v1:dA):(ydS).X:=(((v0,()),()),((v1.1,v1.2.1.1,v1.2.1.2,(),v1.2.2.2.1,v1.2.2.2.2.1,v1.2.2.2.2.2.1,v1.2.2.2.2.2.2.1,v1.2.2.2.2.2.2.2.1,(),v1.2.2.2.2.2.2.2.2.2.1,v1.2.2.2.2.2.2.2.2.2.2.1,v1.2.2.2.2.2.2.2.2.2.2.2,()),()),(v1.2.2.1,v1.2.2.2.2.2.2.2.2.1,()))
def ymV (v0 v1 v2 v3 v4 v5 v6 v7 v8 v9 v10 v11:Int) (v12 v13:Bool) (v14:List Int) (v15:List dM) (v16:List dW):Option ((yaA).X ⊕ ((ydM).X ⊕ (ydS).X)) :=
 bif (ltb v2 v1) then
 bif (inb v2 v14.length) then
 let r10:=ygr (v3,(v4,v5),v15,v6,v7,v8,v9,v10,v16,v11,v12,v13) v2 v0
 bif r10 then
 let r11:=yoD v0
 bnd (ye7 (v3,(v4,v5),v15,v6,v7,v8,v9,v10,v16,v11,v12,v13) v2 r11 ([(nth v14 v2 0)]:List Int)) fun r12 =>
 bif (!r12.1.1) then
 some (.inr (.inr (((false,()),()),((r12.2.1.1,r12.2.1.2.1.1,r12.2.1.2.1.2,(),r12.2.1.2.2.2.1,r12.2.1.2.2.2.2.1,r12.2.1.2.2.2.2.2.1,r12.2.1.2.2.2.2.2.2.1,r12.2.1.2.2.2.2.2.2.2.1,(),r12.2.1.2.2.2.2.2.2.2.2.2.1,r12.2.1.2.2.2.2.2.2.2.2.2.2.1,r12.2.1.2.2.2.2.2.2.2.2.2.2.2,()),()),(r12.2.1.2.2.1,r12.2.1.2.2.2.2.2.2.2.2.1,()))))
 else
 some (.inl ((((),()),(v0,()),((),()),(v1,()),((IntKind.i64.wrap (v2+1)),()),()),((r12.2.1.1,r12.2.1.2.1.1,r12.2.1.2.1.2,(),r12.2.1.2.2.2.1,r12.2.1.2.2.2.2.1,r12.2.1.2.2.2.2.2.1,r12.2.1.2.2.2.2.2.2.1,r12.2.1.2.2.2.2.2.2.2.1,(),r12.2.1.2.2.2.2.2.2.2.2.2.1,r12.2.1.2.2.2.2.2.2.2.2.2.2.1,r12.2.1.2.2.2.2.2.2.2.2.2.2.2,()),()),(v14,r12.2.1.2.2.1,r12.2.1.2.2.2.2.2.2.2.2.1,())))
 else
 some (.inl ((((),()),(v0,()),((),()),(v1,()),((IntKind.i64.wrap (v2+1)),()),()),((v3,v4,v5,(),v6,v7,v8,v9,v10,(),v11,v12,v13,()),()),(v14,v15,v16,())))
 else none
 else
 some (.inr (.inl ((),((v3,v4,v5,(),v6,v7,v8,v9,v10,(),v11,v12,v13,()),()),(v15,v16,()))))
def yaP (x:(yaA).X):=ymV x.1.2.1.1 x.1.2.2.2.1.1 x.1.2.2.2.2.1.1 x.2.1.1.1 x.2.1.1.2.1 x.2.1.1.2.2.1 x.2.1.1.2.2.2.2.1 x.2.1.1.2.2.2.2.2.1 x.2.1.1.2.2.2.2.2.2.1 x.2.1.1.2.2.2.2.2.2.2.1 x.2.1.1.2.2.2.2.2.2.2.2.1 x.2.1.1.2.2.2.2.2.2.2.2.2.2.1 x.2.1.1.2.2.2.2.2.2.2.2.2.2.2.1 x.2.1.1.2.2.2.2.2.2.2.2.2.2.2.2.1 x.2.2.1 x.2.2.2.1 x.2.2.2.2.1
def ywc (x:(ydP).X):(yaA).X:=((((),()),(x.1.2.1.1,()),((),()),(x.1.2.2.2.1.1,()),(0,()),()),((x.2.1.1.1,x.2.1.1.2.1,x.2.1.1.2.2.1,(),x.2.1.1.2.2.2.2.1,x.2.1.1.2.2.2.2.2.1,x.2.1.1.2.2.2.2.2.2.1,x.2.1.1.2.2.2.2.2.2.2.1,x.2.1.1.2.2.2.2.2.2.2.2.1,(),x.2.1.1.2.2.2.2.2.2.2.2.2.2.1,x.2.1.1.2.2.2.2.2.2.2.2.2.2.2.1,x.2.1.1.2.2.2.2.2.2.2.2.2.2.2.2.1,()),()),(x.2.2.1,x.2.2.2.1,x.2.2.2.2.1,()))
def yxm:Code:=(zdD ybi 64 500).getD .skip
theorem yKc:zdD ybi 64 125=some (.block 2 (.loop yxm)):=by kernel_rfl
theorem yKS (x:(yaA).X):zg0 ⟨yeT,70,yqQ⟩ 2 yxm 500 yaA ydM ydS x=yaP x:=by kernel_rfl
def ywf (x:(ydP).X):Nat:=18446744073709551616
def ym3 (x:(ydP).X):Option ((ydM).X ⊕ (ydS).X):=zz yaP (ywf x) (ywc x)
def ywj:Seg:=⟨ydP,ydM,ydS,ym3⟩
def yAc:Nat→Option Seg:=fun q=>bif Nat.beq q 125 then some ywj else yqQ q
theorem yMr:FrOk Tryz.prog ⟨yeT,70,yAc⟩ ybi:=(yMq).loop (sg:=ywj) yaA ywc (by decide) yKc yaP ywf (by decide) (fun _=>rfl) (fun x r _ h=>h) yKS
abbrev ycD:List Par:= [.pt tA (.pr .fz (.pr (.pr .fz .fz) (.pr (.ow (.pr (.ow (.ow .fz)) (.pr (.ow (.pr .fz (.ow .fz))) (.pr .fz (.ow .fz))))) (.pr .fz (.pr .fz (.pr .fz (.pr .fz (.pr .fz (.pr (.ow (.pr .fz (.ow .fz))) (.pr .fz (.pr .fz .fz))))))))))),.rd tI,.rd tL]
abbrev yig:List OT:= [⟨false,tB,.fz⟩]
def ykI (a0:dA) (a1:Int) (a2:List Int):Option (ResD yig×MutD ycD) :=
 bif (zjY a0.2.1.1 8) then
 let r1:=ydU a0.2.1 a1
 let r2:=yld a2
 bif (inb r1 (List.replicate (a0.2.1.1).toNat (0:Int)).length) then
 let r3:=((List.replicate (a0.2.1.1).toNat (0:Int)).set (r1).toNat r2)
 zjZ (yoX ((((),()),(a1,()),((),()),(a2,()),((a2.length:Int),()),((),()),()),((a0.1,a0.2.1.1,a0.2.1.2,(),a0.2.2.2.1,a0.2.2.2.2.1,a0.2.2.2.2.2.1,a0.2.2.2.2.2.2.1,a0.2.2.2.2.2.2.2.1,(),a0.2.2.2.2.2.2.2.2.2.1,a0.2.2.2.2.2.2.2.2.2.2.1,a0.2.2.2.2.2.2.2.2.2.2.2,()),()),(r3,a0.2.2.1,a0.2.2.2.2.2.2.2.2.1,()))) (fun y5 =>
 zjZ (ym3 ((((),()),(y5.1.2.1.1,()),((),()),((y5.2.2.1.length:Int),()),((),()),()),((y5.2.1.1.1,y5.2.1.1.2.1,y5.2.1.1.2.2.1,(),y5.2.1.1.2.2.2.2.1,y5.2.1.1.2.2.2.2.2.1,y5.2.1.1.2.2.2.2.2.2.1,y5.2.1.1.2.2.2.2.2.2.2.1,y5.2.1.1.2.2.2.2.2.2.2.2.1,(),y5.2.1.1.2.2.2.2.2.2.2.2.2.2.1,y5.2.1.1.2.2.2.2.2.2.2.2.2.2.2.1,y5.2.1.1.2.2.2.2.2.2.2.2.2.2.2.2.1,()),()),(y5.2.2.1,y5.2.2.2.1,y5.2.2.2.2.1,()))) (fun y12 =>
 some ((true,()),((y12.2.1.1.1,(y12.2.1.1.2.1,y12.2.1.1.2.2.1),y12.2.2.1,y12.2.1.1.2.2.2.2.1,y12.2.1.1.2.2.2.2.2.1,y12.2.1.1.2.2.2.2.2.2.1,y12.2.1.1.2.2.2.2.2.2.2.1,y12.2.1.1.2.2.2.2.2.2.2.2.1,y12.2.2.2.1,y12.2.1.1.2.2.2.2.2.2.2.2.2.2.1,y12.2.1.1.2.2.2.2.2.2.2.2.2.2.2.1,y12.2.1.1.2.2.2.2.2.2.2.2.2.2.2.2.1),()))) (fun y12 =>
 some ((y12.1.1.1,()),((y12.2.1.1.1,(y12.2.1.1.2.1,y12.2.1.1.2.2.1),y12.2.2.1,y12.2.1.1.2.2.2.2.1,y12.2.1.1.2.2.2.2.2.1,y12.2.1.1.2.2.2.2.2.2.1,y12.2.1.1.2.2.2.2.2.2.2.1,y12.2.1.1.2.2.2.2.2.2.2.2.1,y12.2.2.2.1,y12.2.1.1.2.2.2.2.2.2.2.2.2.2.1,y12.2.1.1.2.2.2.2.2.2.2.2.2.2.2.1,y12.2.1.1.2.2.2.2.2.2.2.2.2.2.2.2.1),())))) (fun y5 =>
 none)
 else none
 else none
theorem ySV (x:InD ycD):zjx ⟨yeT,70,yAc⟩ Tryz.f165.results.toList ybi ycD yig x=ykI x.1 x.2.1 x.2.2.1:=by kernel_rfl
theorem yPf:ConOk Tryz.prog 165 ⟨ycD,yig,fun x=>ykI x.1 x.2.1 x.2.2.1⟩:=zj2 (yMr) Tryz.func165 (by kernel_rfl) (by kernel_rfl) Tryz.ntmps165.symm (by decide) (fun x r h=>(ySV x).trans h)
def ynu (a0:dA) (a1:Int) (a2:List Int):Bool×dA:=(!(ye (yE a0 a1 a2)),yE a0 a1 a2)
def yit (a0:dA) (a1:Int) (a2:List Int):Bool:= !(ye a0)&&(yP a0.2.1 a1&&((a2.length:Int)==a0.2.1.1 - 1&&(a0.2.2.1.length:Int)==a0.2.1.1))
theorem yRo (a0:dA) (a1:Int) (a2:List Int) (hk:zi2 ycD (a0,a1,a2,())) (hq:yit a0 a1 a2=true):ykI a0 a1 a2=(fun n=>some ((n.1,()),(n.2,()))) (ynu a0 a1 a2):=by
 simp only [yit,Bool.and_eq_true,beq_iff_eq,Bool.not_eq_true'] at hq
 obtain ⟨hd0,hs0,hl0,hm0⟩:=hq
 have hg:=yk.1 (yca.1 hs0).1
 have hp:=yrL hs0
 have hL:=y6f (N:=a0.2.1.1) (p:=yh a0.2.1 a1) (x:=ygi a2) (data:=a2) ⟨by omega,by omega⟩ hp hl0
 generalize hw:(List.range a0.2.1.1.toNat).map (fun (i:Nat)=>yz5 (yh a0.2.1 a1) a0.2.1.1 (ygi a2) a2 i)=W at hL
 have hWl:W.length=a0.2.2.1.length:=by rw [← hw,List.length_map,List.length_range]; omega
 have hWat: ∀ i:Nat,i < a0.2.2.1.length→nth W i 0=yz5 (yh a0.2.1 a1) a0.2.1.1 (ygi a2) a2 i:=fun i hi=>by
  rw [← hw,zkn,zke (by rw [List.length_map,List.length_range]; omega)]; simp
 have h1:yoX (yKv a1 a2 a2.length a0 ((List.replicate a0.2.1.1.toNat 0).set (yh a0.2.1 a1).toNat (ygi a2)))=some (.inl (yxW a1 a0 W)):=by
  have:=zj9 (step:=ybd) a2.length (fun i s=>ynp a1 a2 a2.length i a0 s) (fun l (i:Nat)=>l.set ((yh a0.2.1 a1+1+i).tmod a0.2.1.1).toNat (nth a2 i 0)) (fun _ s=>s.length=a0.2.1.1.toNat) (fun s=> .inl (yxW a1 a0 s)) (fun i s hi hs=>⟨by
   have hd:=y0g hs0 (show (0:Int)≤i by omega) (show (i:Int)≤a0.2.1.1 - 2 by omega)
   have he:ybR a0.2.1 a1 i=(yh a0.2.1 a1+1+i).tmod a0.2.1.1:=by unfold ybR; rw [hs0,zkx (show (0:Int)≤i by omega),zkx (show (i:Int)≤a0.2.1.1 - 2 by omega)]; rfl
   simp only [ybd,ynp,ynN,zj5 (show (i:Int) < a2.length by omega),cond_true,wr (show -9223372036854775808≤(i:Int)+1 by omega) (by omega),Int.natCast_add,Int.natCast_one,Int.toNat_natCast,zkm hi,zks,ygq,zjD.2 (show 0≤ybR a0.2.1 a1 i∧ybR a0.2.1 a1 i < s.length by omega)]
   rw [he],by rw [List.length_set]; exact hs⟩) (fun s hs=>by simp only [ybd,ynp,ynN,zky (Int.le_refl _),cond_false]) ((List.replicate a0.2.1.1.toNat 0).set (yh a0.2.1 a1).toNat (ygi a2)) (by rw [List.length_set,List.length_replicate]) 18446744073709551616 (by omega)
  rw [hL]at this
  exact this
 have h2:ym3 (yJH a1 W.length a0 W)=some (bif ye (yE a0 a1 a2) then .inr (ymA false (yE a0 a1 a2)) else .inl (ymx (yE a0 a1 a2))):=by
  have:=zj8 (step:=yaP) a0.2.2.1.length (fun i s=>ymu a1 W.length i s W) (fun i s=>bif ye (ybD (yh a0.2.1 a1) a0.2.1.1 a1 a2 s i) then (.inr (ybD (yh a0.2.1 a1) a0.2.1.1 a1 a2 s i):dA ⊕ dA) else .inl (ybD (yh a0.2.1 a1) a0.2.1.1 a1 a2 s i)) (fun _ s=>s.2.2.1.length=a0.2.2.1.length∧ye s=false) id
   (fun b=>bif ye b then .inr (ymA false b) else .inl (ymx b)) (fun i s hi hs=>by
    constructor
    ·simp only [yaP,ymu,ymV,zj5 (show (i:Int) < W.length by omega),cond_true,wr (show -9223372036854775808≤(i:Int)+1 by omega) (by omega),Int.natCast_add,Int.natCast_one,Int.toNat_natCast,zkm (show i < W.length by omega),zks,ygr,yJD,hWat i hi,ybD]
     rw [ytx s i (dataAt a1) [yz5 (yh a0.2.1 a1) a0.2.1.1 (ygi a2) a2 i] (by unfold ycU; rw [zkm (by rw [hs.1]; exact hi),hs.2]; rfl)]
     cases hlv:yda s i a1
     ·simp only [cond_false,hs.2]
     ·simp only [zkd,ycR,cond_true]
      cases hd:ye (yds s i (dataAt a1) [yz5 (yh a0.2.1 a1) a0.2.1.1 (ygi a2) a2 i])
      ·rfl
      ·simp only [hd,Bool.not_true,Bool.not_false,cond_true,ymA]
    ·intro s' h
     cases hd:ye (ybD (yh a0.2.1 a1) a0.2.1.1 a1 a2 s i)
     ·rw [hd]at h
      cases h
      exact ⟨(ytT _ _ _ _ s i).trans hs.1,hd⟩
     ·rw [hd]at h; cases h) (fun s hs=>by simp only [yaP,ymu,ymV,hs.2,hWl,zky (Int.le_refl _),cond_false,id,ymx]) a0 ⟨rfl,hd0⟩ 18446744073709551616 (by omega)
  rw [yE6 (fun a i h=>y4o _ _ _ _ i h),← List.range_eq_range'] at this
  exact this
 unfold ykI ynu ydU yld yfI
 rw [zkh.2 (show 0≤a0.2.1.1∧a0.2.1.1 * ((8:Nat):Int)≤140737488355328 by omega)]
 simp only [cond_true]
 rw [zjD.2 (show 0≤yh a0.2.1 a1∧yh a0.2.1 a1 < ((List.replicate a0.2.1.1.toNat (0:Int)).length:Int) by rw [List.length_replicate]; omega),cond_true]
 refine (congrArg (fun z=>zjZ z _ _) h1).trans ?_
 rw [zki]
 refine (congrArg (fun z=>zjZ z _ _) h2).trans ?_
 cases hd:ye (yE a0 a1 a2)
 ·rfl
 ·simp only [cond_true,zkj,zks]; rfl
def ycS (a0:dA) (a1:Int) (a2:List Int):Option (ResD yig×MutD ycD):=bif yit a0 a1 a2 then (fun n=>some ((n.1,()),(n.2,()))) (ynu a0 a1 a2) else none
theorem yR0 (a0:dA) (a1:Int) (a2:List Int) (h:yit a0 a1 a2=true):ycS a0 a1 a2=(fun n=>some ((n.1,()),(n.2,()))) (ynu a0 a1 a2):=by unfold ycS; rw [h]; rfl
def yAy:Con:=⟨ycD,yig,fun x=>ycS x.1 x.2.1 x.2.2.1⟩
theorem yRW:ConOk Tryz.prog 165 yAy:=(yPf).mono (fun x r hk h=>zkt h (fun hq=>yRo x.1 x.2.1 x.2.2.1 hk hq))
end
end
end Go.Tf
