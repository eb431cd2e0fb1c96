/- Functions of the program, and what they come to. -/
import Derived.Test.YtfpjmijaiekbgaaGreatExactBuildAllF0
namespace Go.Tf
noncomputable section
open Go.Proofs
set_option synthInstance.maxHeartbeats 400000
set_option synthInstance.maxSize 10000
set_option linter.unusedVariables false
set_option linter.unusedSimpArgs false
set_option maxRecDepth 100000
section
def yFl:Code:=(Tryz.f140.body).getD .skip
def yFM:Env:=zki TT [(185,yhN)] []
theorem yN7:FrOk Tryz.prog ⟨yFM,12,fun _=>none⟩ yFl:=zkp yb yc ⟨yo7,trivial⟩
def yQc:Nat→Option Seg:=fun _=>none
abbrev ynB:List Par:= [.rd tW,.rd tI]
abbrev ysJ:List OT:= [⟨false,tI,.fz⟩]
def yuO (a0:dW) (a1:Int):Option (ResD ysJ×MutD ynB) :=
  let r1:=yh a0.2 a1
  bif (ltb r1 0) then
    some (((-1),()),())
  else
    some ((r1,()),())
theorem yUw (x:InD ynB):zjH ⟨yFM,12,yQc⟩ Tryz.f140.results.toList yFl ynB ysJ x=yuO x.1 x.2.1:=by kernel_rfl
theorem yRG:ConOk Tryz.prog 140 ⟨ynB,ysJ,fun x=>yuO x.1 x.2.1⟩:=zkh (yN7) Tryz.func140 (by kernel_rfl) (by kernel_rfl) Tryz.ntmps140.symm (by decide) (fun x r h=>(yUw x).trans h)
def ycz (a0:dW) (a1:Int):Int :=
  let r1:=yh a0.2 a1
  bif (ltb r1 0) then
    (-1)
  else
    r1
def yC3:Con:=⟨ynB,ysJ,fun x=>(fun n=>some ((n,()),())) (ycz x.1 x.2.1)⟩
theorem yTq (a0:dW) (a1:Int):yuO a0 a1=(fun n=>some ((n,()),())) (ycz a0 a1):=zkS (p:=fun (n:Int)=>((n,()),())) (zkx (p:=fun (n:Int)=>((n,()),())) rfl rfl)
theorem yTW:ConOk Tryz.prog 140 yC3:=(yRG).mono (fun x r _ h=>(yTq x.1 x.2.1).trans h)
end
section
def ykZ:Code:=(Tryz.f63.body).getD .skip
def yqu:Env:=zki TT [(140,yC3)] []
theorem yKK:FrOk Tryz.prog ⟨yqu,27,fun _=>none⟩ ykZ:=zkp yb yc ⟨yTW,trivial⟩
def yA4:Nat→Option Seg:=fun _=>none
def ydi:Shape:=⟨[(0,false,[.br tW]),(1,false,[.int .i64]),(5,false,[.int .i64])],[],[]⟩
def yj6:Shape:=⟨[(0,false,[.br tW]),(1,false,[.int .i64]),(5,false,[.ci .i64 0])],[],[]⟩
def yjY:Shape:=⟨[(1,false,[.int .i64])],[],[]⟩
def ykk:Shape:=⟨[(4,false,[.int .i64])],[],[]⟩
def ypW (v0:List dW) (v1:Int) (v2:Int):Option ((ydi).X ⊕ ((yjY).X ⊕ (ykk).X)) :=
  bif (ltb v2 (v0.length:Int)) then
    bif (inb v2 v0.length) then
      let r2:=ycz (nth v0 v2 (0,[])) v1
      bif (ltb r2 0) then
        some (.inr (.inr ((((-1),()),()),(),())))
      else
        some (.inl (((v0,()),(r2,()),((IntKind.i64.wrap (v2+1)),()),()),(),()))
    else none
  else
    some (.inr (.inl (((v1,()),()),(),())))
def yb9 (x:(ydi).X):=ypW x.1.1.1 x.1.2.1.1 x.1.2.2.1.1
def yxK (x:(yj6).X):(ydi).X:=(((x.1.1.1,()),(x.1.2.1.1,()),(0,()),()),(),())
def yzq:Code:=(zdI ykZ 64 244).getD .skip
theorem yJ9:zdI ykZ 64 61=some (.block 0 (.loop yzq)):=by kernel_rfl
theorem yME (x:(ydi).X):zg7 ⟨yqu,27,yA4⟩ 0 yzq 244 ydi yjY ykk x=yb9 x:=by kernel_rfl
def yx0 (x:(yj6).X):Nat:=(fun (u0:List dW) (u1:Int)=>18446744073709551616) x.1.1.1 x.1.2.1.1
def yrg (x:(yj6).X):Option ((yjY).X ⊕ (ykk).X):=zr yb9 (yx0 x) (yxK x)
def yym:Seg:=⟨yj6,yjY,ykk,yrg⟩
def yA5:Nat→Option Seg:=fun q=>bif Nat.beq q 61 then some yym else yA4 q
theorem yKL:FrOk Tryz.prog ⟨yqu,27,yA5⟩ ykZ:=(yKK).loop (sg:=yym) ydi yxK (by decide) yJ9 yb9 yx0 (by decide) (fun _=>rfl) (fun x r _ h=>h) yME
abbrev ygl:List Par:= [.rd tWs,.rd tI]
abbrev yqQ:List OT:= [⟨false,tI,.fz⟩]
def ymW (a0:List dW) (a1:Int):Option (ResD yqQ×MutD ygl) :=
  bif (ltb (IntKind.i64.wrap (a1 - (a0.length:Int))) 0) then
    some (((-1),()),())
  else
    zjw (yrg (((a0,()),((IntKind.i64.wrap (a1 - (a0.length:Int))),()),((),()),()),(),())) (fun y2 =>
      some ((y2.1.1.1,()),())) (fun y2 =>
      some ((y2.1.1.1,()),()))
theorem ySP (x:InD ygl):zjH ⟨yqu,27,yA5⟩ Tryz.f63.results.toList ykZ ygl yqQ x=ymW x.1 x.2.1:=by kernel_rfl
theorem yPa:ConOk Tryz.prog 63 ⟨ygl,yqQ,fun x=>ymW x.1 x.2.1⟩:=zkh (yKL) Tryz.func63 (by kernel_rfl) (by kernel_rfl) Tryz.ntmps63.symm (by decide) (fun x r h=>(ySP x).trans h)
def yby (a0:List (dW)) (a1:Int):Int:=bif ltb (IntKind.i64.wrap (a1 - (a0.length:Int))) 0 then (-1) else (szG ycz a0 (IntKind.i64.wrap (a1 - (a0.length:Int)))).getD (-1)
theorem yRa (a0:List (dW)) (a1:Int) (hk:zi9 ygl (a0,a1,())):ymW a0 a1=(fun n=>some ((n,()),())) (yby a0 a1):=by
  have hb:a0.length * 32≤2 ^ 47:=hk.1.1
  have hl: ∀ k:Int,yrg (((a0,()),(k,()),((),()),()),(),())=some (match szG ycz a0 k with | some r=> .inl (((r,()),()),(),()) | none=> .inr ((((-1),()),()),(),())):=fun k =>
    zkG (step:=yb9) a0 ((0,[]):dW) (fun i k=>(((a0,()),(k,()),((i:Int),()),()),(),())) ycz (fun r=> .inl (((r,()),()),(),())) (.inr ((((-1),()),()),(),())) (fun i s hi=>by
      simp only [yb9,ypW,zkO hi,zjW,Int.toNat_natCast,zjI (show (i:Int) < a0.length by omega),cond_true,wr (show -9223372036854775808≤(i:Int)+1 by omega) (by omega),Int.natCast_add,Int.natCast_one,zkV]
      cases ltb (ycz (a0.getD i (0,[])) s) 0<;>rfl) (fun s=>by simp only [yb9,ypW,zkm (Int.le_refl _),cond_false]) k _ (by show _ < 18446744073709551616; omega)
  unfold ymW yby
  rw [hl]
  cases ltb (IntKind.i64.wrap (a1 - (a0.length:Int))) 0
  · cases szG ycz a0 (IntKind.i64.wrap (a1 - (a0.length:Int)))<;>rfl
  · rfl
def yBR:Con:=⟨ygl,yqQ,fun x=>(fun n=>some ((n,()),())) (yby x.1 x.2.1)⟩
theorem yR4:ConOk Tryz.prog 63 yBR:=(yPa).mono (fun x r hk h=>(yRa x.1 x.2.1 hk).trans h)
end
section
def yFk:Code:=(Tryz.f13.body).getD .skip
def yFL:Env:=zki TT [(35,yBS),(63,yBR)] []
theorem yN6:FrOk Tryz.prog ⟨yFL,18,fun _=>none⟩ yFk:=zkp yb yc ⟨yR5,yR4,trivial⟩
def yQb:Nat→Option Seg:=fun _=>none
abbrev ynA:List Par:= [.rd tA,.rd tI]
abbrev ysI:List OT:= [⟨false,tI,.fz⟩]
def yuN (a0:dA) (a1:Int):Option (ResD ysI×MutD ynA) :=
  let r1:=yaG a0.2.2.1 a1
  bif (ltb r1 0) then
    some (((-1),()),())
  else
    let r2:=yby a0.2.2.2.2.2.2.2.2.1 r1
    bif (ltb r2 0) then
      some (((-1),()),())
    else
      some ((r2,()),())
theorem yUv (x:InD ynA):zjH ⟨yFL,18,yQb⟩ Tryz.f13.results.toList yFk ynA ysI x=yuN x.1 x.2.1:=by kernel_rfl
theorem yRF:ConOk Tryz.prog 13 ⟨ynA,ysI,fun x=>yuN x.1 x.2.1⟩:=zkh (yN6) Tryz.func13 (by kernel_rfl) (by kernel_rfl) Tryz.ntmps13.symm (by decide) (fun x r h=>(yUv x).trans h)
def ydX (a0:dA) (a1:Int):Int :=
  let r1:=yaG a0.2.2.1 a1
  bif (ltb r1 0) then
    (-1)
  else
    let r2:=yby a0.2.2.2.2.2.2.2.2.1 r1
    bif (ltb r2 0) then
      (-1)
    else
      r2
def yC2:Con:=⟨ynA,ysI,fun x=>(fun n=>some ((n,()),())) (ydX x.1 x.2.1)⟩
theorem yTp (a0:dA) (a1:Int):yuN a0 a1=(fun n=>some ((n,()),())) (ydX a0 a1):=zkS (p:=fun (n:Int)=>((n,()),())) (zkx (p:=fun (n:Int)=>((n,()),())) rfl (zkx (p:=fun (n:Int)=>((n,()),())) rfl rfl))
theorem yTV:ConOk Tryz.prog 13 yC2:=(yRF).mono (fun x r _ h=>(yTp x.1 x.2.1).trans h)
theorem yVR {l:List dW} {k:Int} (h0:0≤k) (h1:k≤1048576) (hl:l.length * 32≤2 ^ 47) (hx: ∀ x∈l,x.2.length * 8≤2 ^ 47) (h:0≤yby l k):((l.length+(l.map (fun x:dW=>x.2.length)).sum:Nat):Int)≤k - yby l k∧yby l k≤k :=
  yP1 (fun x hm k h0 h1 h=>by
    have:=hx x hm
    unfold ycz at h ⊢
    by_cases h2:yh x.2 k < 0
    · simp only [zjI h2,cond_true]at h; omega
    · simp only [zkm (Int.not_lt.1 h2),cond_false]at h ⊢
      have:=yB7 h0 h1 (by omega) h2
      omega) h0 h1 (by omega) h
theorem yWb {a:dA} (hm:tA.Ok a) (h:ltb (ydX a 1048576) 0=false):ygd a≤2097152:=by
  have h:0≤ydX a 1048576:=by
    rcases Int.lt_or_le (ydX a 1048576) 0 with h3 | h3
    · rw [zjI h3]at h; cases h
    · exact h3
  unfold ydX at h
  by_cases c1:yaG a.2.2.1 1048576 < 0
  · simp only [zjI c1,cond_true]at h; omega
  simp only [zkm (Int.not_lt.1 c1),cond_false]at h
  have e1:=yVS (by omega) (by omega) hm.2.2.1 (Int.not_lt.1 c1)
  by_cases c2:yby a.2.2.2.2.2.2.2.2.1 (yaG a.2.2.1 1048576) < 0
  · simp only [zjI c2,cond_true]at h; omega
  have e2:=yVR (Int.not_lt.1 c1) (by omega) hm.2.2.2.2.2.2.2.2.1.1 (fun x hx=>(hm.2.2.2.2.2.2.2.2.1.2 x hx).2.1) (Int.not_lt.1 c2)
  have e3:=yV6 (l:=a.2.2.1)
  unfold ygd yHD
  rw [yMQ (fun x:dW=>x.2.length) 1]
  omega
end
section
def yk2:Code:=(Tryz.f38.body).getD .skip
def yqx:Env:=zki TT [] []
theorem yKR:FrOk Tryz.prog ⟨yqx,22,fun _=>none⟩ yk2:=zkp yb yc trivial
def yBa:Nat→Option Seg:=fun _=>none
def ydl:Shape:=⟨[(0,false,[.br tI]),(3,false,[.at 800000000]),(4,false,[.int .i64])],[],[(800000000,tI,.fz)]⟩
def yj9:Shape:=⟨[(0,false,[.br tI]),(3,false,[.at 800000000]),(4,false,[.ci .i64 0])],[],[(800000000,tI,.fz)]⟩
def yj1:Shape:=⟨[(3,false,[.at 800000000])],[],[(800000000,tI,.fz)]⟩
def ykn:Shape:=⟨[],[],[]⟩
def ypZ (v0:List Int) (v1:Int) (v2:List Int):Option ((ydl).X ⊕ ((yj1).X ⊕ (ykn).X)) :=
  bif (ltb v1 (v0.length:Int)) then
    bif (inb v1 v0.length) then
      bif (inb v1 v2.length) then
        some (.inl (((v0,()),((),()),((IntKind.i64.wrap (v1+1)),()),()),(),((v2.set (v1).toNat (nth v0 v1 0)),())))
      else none
    else none
  else
    some (.inr (.inl ((((),()),()),(),(v2,()))))
def ycc (x:(ydl).X):=ypZ x.1.1.1 x.1.2.2.1.1 x.2.2.1
def yxN (x:(yj9).X):(ydl).X:=(((x.1.1.1,()),((),()),(0,()),()),(),(x.2.2.1,()))
def yzt:Code:=(zdI yk2 64 116).getD .skip
theorem yKc:zdI yk2 64 29=some (.block 0 (.loop yzt)):=by kernel_rfl
theorem yMH (x:(ydl).X):zg7 ⟨yqx,22,yBa⟩ 0 yzt 116 ydl yj1 ykn x=ycc x:=by kernel_rfl
def yx3 (x:(yj9).X):Nat:=(fun (u0:List Int) (u1:List Int)=>18446744073709551616) x.1.1.1 x.2.2.1
def yrj (x:(yj9).X):Option ((yj1).X ⊕ (ykn).X):=zr ycc (yx3 x) (yxN x)
def yyp:Seg:=⟨yj9,yj1,ykn,yrj⟩
def yBb:Nat→Option Seg:=fun q=>bif Nat.beq q 29 then some yyp else yBa q
theorem yKS:FrOk Tryz.prog ⟨yqx,22,yBb⟩ yk2:=(yKR).loop (sg:=yyp) ydl yxN (by decide) yKc ycc yx3 (by decide) (fun _=>rfl) (fun x r _ h=>h) yMH
abbrev ygo:List Par:= [.rd tL]
abbrev yqU:List OT:= [⟨false,tL,(.ow .fz)⟩]
def ymZ (a0:List Int):Option (ResD yqU×MutD ygo) :=
  bif (zkc (a0.length:Int) 8) then
    zjw (yrj (((a0,()),((),()),((),()),()),(),((List.replicate ((a0.length:Int)).toNat (0:Int)),()))) (fun y0 =>
      some ((y0.2.2.1,()),())) (fun y0 =>
      none)
  else none
theorem yST (x:InD ygo):zjH ⟨yqx,22,yBb⟩ Tryz.f38.results.toList yk2 ygo yqU x=ymZ x.1:=by kernel_rfl
theorem yPe:ConOk Tryz.prog 38 ⟨ygo,yqU,fun x=>ymZ x.1⟩:=zkh (yKS) Tryz.func38 (by kernel_rfl) (by kernel_rfl) Tryz.ntmps38.symm (by decide) (fun x r h=>(yST x).trans h)
def yaa (a0:List Int):List Int:=a0
theorem yRe (a0:List Int) (hk:zi9 ygo (a0,())):ymZ a0=(fun n=>some ((n,()),())) (yaa a0):=by
  have hb:a0.length * 8≤2 ^ 47:=hk.1.1
  have hs: ∀ i,i < a0.length→(a0.take i++List.replicate (a0.length - i) (0:Int)).set i (a0.getD i 0)=a0.take (i+1)++List.replicate (a0.length - (i+1)) 0:=fun i hi=>by
    have hl:(a0.take i).length=i:=by rw [List.length_take]; omega
    rw [List.set_append_right _ _ (by rw [hl]; exact Nat.le_refl _),hl,Nat.sub_self,List.take_add_one,List.append_assoc,show a0.length - i=(a0.length - (i+1))+1 by omega,List.replicate_succ]
    simp [hi]
  have hl:yrj (((a0,()),((),()),((),()),()),(),((a0.take 0++List.replicate (a0.length - 0) 0),()))=some (.inl ((((),()),()),(),(a0.take a0.length++List.replicate (a0.length - a0.length) 0,()))) :=
    zjs (step:=ycc) (fun i=>(((a0,()),((),()),((i:Int),()),()),(),(a0.take i++List.replicate (a0.length - i) 0,()))) a0.length _ (fun i hi=>by
      have hL:(a0.take i++List.replicate (a0.length - i) (0:Int)).length=a0.length:=by rw [List.length_append,List.length_take,List.length_replicate]; omega
      simp only [ycc,ypZ,hL,zkO hi,zjW,Int.toNat_natCast,zjI (show (i:Int) < a0.length by omega),cond_true,wr (show -9223372036854775808≤(i:Int)+1 by omega) (by omega),Int.natCast_add,Int.natCast_one,hs i hi]) (by
      simp only [ycc,ypZ,zkm (Int.le_refl _),cond_false]) _ (by show _ < 18446744073709551616; omega)
  unfold ymZ yaa
  rw [List.take_zero,List.nil_append,Nat.sub_zero]at hl
  rw [show zkc (a0.length:Int) 8=true by rw [zkH]; omega,zkY,Int.toNat_natCast,hl]
  simp [zjw]
def yhO:Con:=⟨ygo,yqU,fun x=>(fun n=>some ((n,()),())) (yaa x.1)⟩
theorem yo8:ConOk Tryz.prog 38 yhO:=(yPe).mono (fun x r hk h=>(yRe x.1 hk).trans h)
theorem yQT (a:List Int):yaa a=a:=by kernel_rfl
end
section
def yi9:Code:=(Tryz.f189.body).getD .skip
def yoy:Env:=zki TT [(38,yhO)] []
theorem yIt:FrOk Tryz.prog ⟨yoy,23,fun _=>none⟩ yi9:=zkp yb yc ⟨yo8,trivial⟩
def yy6:Nat→Option Seg:=fun _=>none
def ycI:Shape:=⟨[(0,false,[.br tL]),(3,false,[.at 800000000]),(4,false,[.int .i64])],[],[(800000000,tL,(.ow .fz))]⟩
def yis:Shape:=⟨[(0,false,[.br tL]),(3,false,[.at 800000000]),(4,false,[.ci .i64 0])],[],[(800000000,tL,(.ow .fz))]⟩
def yil:Shape:=⟨[(3,false,[.at 800000000])],[],[(800000000,tL,(.ow .fz))]⟩
def yiE:Shape:=⟨[],[],[]⟩
def yoj (v0:List (List Int)) (v1:Int) (v2:List (List Int)):Option ((ycI).X ⊕ ((yil).X ⊕ (yiE).X)) :=
  bif (ltb v1 (v0.length:Int)) then
    bif (inb v1 v0.length) then
      let r2:=yaa (nth v0 v1 [])
      bif (inb v1 v2.length) then
        some (.inl (((v0,()),((),()),((IntKind.i64.wrap (v1+1)),()),()),(),((v2.set (v1).toNat r2),())))
      else none
    else none
  else
    some (.inr (.inl ((((),()),()),(),(v2,()))))
def ybo (x:(ycI).X):=yoj x.1.1.1 x.1.2.2.1.1 x.2.2.1
def yvI (x:(yis).X):(ycI).X:=(((x.1.1.1,()),((),()),(0,()),()),(),(x.2.2.1,()))
def yxl:Code:=(zdI yi9 64 116).getD .skip
theorem yHY:zdI yi9 64 29=some (.block 0 (.loop yxl)):=by kernel_rfl
theorem yJF (x:(ycI).X):zg7 ⟨yoy,23,yy6⟩ 0 yxl 116 ycI yil yiE x=ybo x:=by kernel_rfl
def yvY (x:(yis).X):Nat:=(fun (u0:List (List Int)) (u1:List (List Int))=>18446744073709551616) x.1.1.1 x.2.2.1
def ypz (x:(yis).X):Option ((yil).X ⊕ (yiE).X):=zr ybo (yvY x) (yvI x)
def ywn:Seg:=⟨yis,yil,yiE,ypz⟩
def yy7:Nat→Option Seg:=fun q=>bif Nat.beq q 29 then some ywn else yy6 q
theorem yIu:FrOk Tryz.prog ⟨yoy,23,yy7⟩ yi9:=(yIt).loop (sg:=ywn) ycI yvI (by decide) yHY ybo yvY (by decide) (fun _=>rfl) (fun x r _ h=>h) yJF
abbrev yfi:List Par:= [.rd tLL]
abbrev yoQ:List OT:= [⟨false,tLL,(.ow (.ow .fz))⟩]
def ykN (a0:List (List Int)):Option (ResD yoQ×MutD yfi) :=
  bif (zkc (a0.length:Int) 24) then
    zjw (ypz (((a0,()),((),()),((),()),()),(),((List.replicate ((a0.length:Int)).toNat ([]:List Int)),()))) (fun y2 =>
      some ((y2.2.2.1,()),())) (fun y2 =>
      none)
  else none
theorem yQE (x:InD yfi):zjH ⟨yoy,23,yy7⟩ Tryz.f189.results.toList yi9 yfi yoQ x=ykN x.1:=by kernel_rfl
theorem yMc:ConOk Tryz.prog 189 ⟨yfi,yoQ,fun x=>ykN x.1⟩:=zkh (yIu) Tryz.func189 (by kernel_rfl) (by kernel_rfl) Tryz.ntmps189.symm (by decide) (fun x r h=>(yQE x).trans h)
def yfn (a0:List (List Int)):List (List Int):=a0
theorem yOO (a0:List (List Int)) (hk:zi9 yfi (a0,())):ykN a0=(fun n=>some ((n,()),())) (yfn a0):=by
  have hb:a0.length * 24≤2 ^ 47:=hk.1.1
  have hl:ypz (((a0,()),((),()),((),()),()),(),((List.replicate a0.length ([]:List Int)),()))=some (.inl ((((),()),()),(),(a0,()))) :=
    zkj (step:=ybo) a0 ([]:List Int) (fun i m=>(((a0,()),((),()),((i:Int),()),()),(),(m,()))) (fun m=> .inl ((((),()),()),(),(m,()))) (fun i m hi hm=>by
      simp only [ybo,yoj,zkO (show i < m.length by omega),zkO hi,zjW,Int.toNat_natCast,zjI (show (i:Int) < a0.length by omega),cond_true,wr (show -9223372036854775808≤(i:Int)+1 by omega) (by omega),Int.natCast_add,Int.natCast_one,zkV,yQT]) (fun m hm=>by
      simp only [ybo,yoj,zkm (Int.le_refl _),cond_false]) _ (by show _ < 18446744073709551616; omega)
  unfold ykN yfn
  rw [show zkc (a0.length:Int) 24=true by rw [zkH]; omega,zkY,Int.toNat_natCast,hl]
  rfl
def yzN:Con:=⟨yfi,yoQ,fun x=>(fun n=>some ((n,()),())) (yfn x.1)⟩
theorem yPB:ConOk Tryz.prog 189 yzN:=(yMc).mono (fun x r hk h=>(yOO x.1 hk).trans h)
theorem yWj (a:List (List Int)):yfn a=a:=by kernel_rfl
end
section
def yJN:Code:=(Tryz.f238.body).getD .skip
def yJS:Env:=zki TT [(38,yhO)] []
theorem yQQ:FrOk Tryz.prog ⟨yJS,12,fun _=>none⟩ yJN:=zkp yb yc ⟨yo8,trivial⟩
def ySy:Nat→Option Seg:=fun _=>none
abbrev yqc:List Par:= [.rd tW]
abbrev yu1:List OT:= [⟨false,tW,(.pr .fz (.ow .fz))⟩]
def ywG (a0:dW):Option (ResD yu1×MutD yqc) :=
  let r1:=yaa a0.2
  some (((a0.1,r1),()),())
theorem yVb (x:InD yqc):zjH ⟨yJS,12,ySy⟩ Tryz.f238.results.toList yJN yqc yu1 x=ywG x.1:=by kernel_rfl
theorem yTJ:ConOk Tryz.prog 238 ⟨yqc,yu1,fun x=>ywG x.1⟩:=zkh (yQQ) Tryz.func238 (by kernel_rfl) (by kernel_rfl) Tryz.ntmps238.symm (by decide) (fun x r h=>(yVb x).trans h)
def yu4 (a0:dW):dW :=
  let r1:=yaa a0.2
  (a0.1,r1)
def yEv:Con:=⟨yqc,yu1,fun x=>(fun n=>some ((n,()),())) (yu4 x.1)⟩
theorem yUW (a0:dW):ywG a0=(fun n=>some ((n,()),())) (yu4 a0):=zkS (p:=fun (n:dW)=>((n,()),())) rfl
theorem yU1:ConOk Tryz.prog 238 yEv:=(yTJ).mono (fun x r _ h=>(yUW x.1).trans h)
theorem yUO (a:dW):yu4 a=a:=by kernel_rfl
end
end
end Go.Tf
