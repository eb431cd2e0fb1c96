/- Functions of the program, and what they come to. -/
import Derived.Test.YtfpjmijaiekbgaaGreatExactRecoverF6
namespace Go.Tf
noncomputable section
open Go.Proofs
set_option synthInstance.maxHeartbeats 400000
set_option synthInstance.maxSize 10000
set_option linter.unusedVariables false
set_option linter.unusedSimpArgs false
set_option maxRecDepth 100000
section
def yJb:Code:=(Tryz.f221.body).getD .skip
def yJA:Env:=zki TT [] []
theorem yQ6:FrOk Tryz.prog ⟨yJA,8,fun _=>none⟩ yJb:=zkp yb yc trivial
def yTE:Nat→Option Seg:=fun _=>none
abbrev ynw:List Par:= [.rd tI]
abbrev ytV:List OT:= [⟨false,tI,.fz⟩]
def ywY (a0:Int):Option (ResD ytV×MutD ynw) :=
  bif (ltb a0 0) then
    some (((-1),()),())
  else
    some (((IntKind.i64.wrap (2+(a0.tmod 4))),()),())
theorem yZY (x:InD ynw):zjH ⟨yJA,8,yTE⟩ Tryz.f221.results.toList yJb ynw ytV x=ywY x.1:=by kernel_rfl
theorem yV3:ConOk Tryz.prog 221 ⟨ynw,ytV,fun x=>ywY x.1⟩:=zkh (yQ6) Tryz.func221 (by kernel_rfl) (by kernel_rfl) Tryz.ntmps221.symm (by decide) (fun x r h=>(yZY x).trans h)
def yi (a0:Int):Int :=
  bif (ltb a0 0) then
    (-1)
  else
    (IntKind.i64.wrap (2+(a0.tmod 4)))
def ywj:Con:=⟨ynw,ytV,fun x=>(fun n=>some ((n,()),())) (yi x.1)⟩
theorem yYf (a0:Int):ywY a0=(fun n=>some ((n,()),())) (yi a0):=zkS (p:=fun (n:Int)=>((n,()),())) (zkx (p:=fun (n:Int)=>((n,()),())) rfl rfl)
theorem yIn:ConOk Tryz.prog 221 ywj:=(yV3).mono (fun x r _ h=>(yYf x.1).trans h)
end
section
def yKP:Code:=(Tryz.f253.body).getD .skip
def yK6:Env:=zki TT [(98,yu),(200,ymu)] []
theorem yUW:FrOk Tryz.prog ⟨yK6,22,fun _=>none⟩ yKP:=zkp yb yc ⟨yF,ywN,trivial⟩
def yW3:Nat→Option Seg:=fun _=>none
abbrev yqt:List Par:= [.rd tN]
abbrev yv6:List OT:= [⟨false,tB,.fz⟩]
def yyD (a0:dN):Option (ResD yv6×MutD yqt) :=
  let r1:=ya a0.1 0 60000
  bif r1 then
    let r2:=ya a0.2.1 0 7
    bif r2 then
      let r3:=ya (a0.2.2.length:Int) 2 4
      bif r3 then
        let r4:=yY a0.2.2
        some ((r4,()),())
      else
        some ((false,()),())
    else
      some ((false,()),())
  else
    some ((false,()),())
theorem y1e (x:InD yqt):zjH ⟨yK6,22,yW3⟩ Tryz.f253.results.toList yKP yqt yv6 x=yyD x.1:=by kernel_rfl
theorem yYH:ConOk Tryz.prog 253 ⟨yqt,yv6,fun x=>yyD x.1⟩:=zkh (yUW) Tryz.func253 (by kernel_rfl) (by kernel_rfl) Tryz.ntmps253.symm (by decide) (fun x r h=>(y1e x).trans h)
def ym (a0:dN):Bool :=
  let r1:=ya a0.1 0 60000
  bif r1 then
    let r2:=ya a0.2.1 0 7
    bif r2 then
      let r3:=ya (a0.2.2.length:Int) 2 4
      bif r3 then
        let r4:=yY a0.2.2
        r4
      else
        false
    else
      false
  else
    false
def yyk:Con:=⟨yqt,yv6,fun x=>(fun n=>some ((n,()),())) (ym x.1)⟩
theorem y0r (a0:dN):yyD a0=(fun n=>some ((n,()),())) (ym a0):=zkS (p:=fun (n:Bool)=>((n,()),())) (zkx (p:=fun (n:Bool)=>((n,()),())) (zkx (p:=fun (n:Bool)=>((n,()),())) (zkx (p:=fun (n:Bool)=>((n,()),())) rfl rfl) rfl) rfl)
theorem yJO:ConOk Tryz.prog 253 yyk:=(yYH).mono (fun x r _ h=>(y0r x.1).trans h)
abbrev yGQ:dN:=(0,0,[])
def yqK (r:dN):List Int:=bif ym r then 21322::r.1::r.2.1::(r.2.2.length:Int)::r.2.2 else []
def yGX (l:List Int):dN:=(nth l 1 0,nth l 2 0,l.drop 4)
def yaw (l:List Int):dN×Bool:=bif leb 4 (l.length:Int)&&(nth l 0 0==21322&&(nth l 3 0==(l.length:Int) - 4&&ym (yGX l))) then (yGX l,true) else (yGQ,false)
theorem yM8 {r:dN}:ym r=true↔(0≤r.1∧r.1≤60000)∧(0≤r.2.1∧r.2.1≤7)∧(2≤(r.2.2.length:Int)∧(r.2.2.length:Int)≤4)∧r.2.2.all isW=true:=by
  unfold ym
  simp only [yAI,← yta]
  cases ya r.1 0 60000<;>cases ya r.2.1 0 7<;>cases ya (r.2.2.length:Int) 2 4<;>simp
def yM9 (a:dA) (q:Int) (i:Nat):List Int×Bool:=yk (nth a.2.2.1 i yf) (yi q)
def yyS (a:dA) (q:Int) (i:Nat):dN:=(yaw (yM9 a q i).1).1
def ynU (a:dA) (q:Int) (i:Nat):Bool:=(yM9 a q i).2&&((yaw (yM9 a q i).1).2&&((yyS a q i).1==q&&((leb 0 (yyS a q i).2.1&&leb (yyS a q i).2.1 (a.2.1.2 - 1))&&((yyS a q i).2.2.length:Int)==a.2.1.1 - 1)))
def yA (a:dA) (q:Int):dN×Bool:=bif leb 0 (yz (ynU a q) (List.range a.2.2.1.length)) then (yyS a q (yz (ynU a q) (List.range a.2.2.1.length)).toNat,true) else (yGQ,false)
theorem yIR {n i:Nat} (h:i < n):(List.range n).getD i 0=i:=by rw [zcq (by rw [List.length_range]; exact h)]; simp
theorem y2g {l:List Int} (h:(yaw l).2=true):ym (yaw l).1=true∧l=yqK (yaw l).1:=by
  unfold yaw at h ⊢
  cases hc:(leb 4 (l.length:Int)&&(nth l 0 0==21322&&(nth l 3 0==(l.length:Int) - 4&&ym (yGX l))))
  · rw [hc]at h; cases h
  · simp only [Bool.and_eq_true,zjQ,beq_iff_eq]at hc
    refine ⟨hc.2.2.2,?_⟩
    show l=yqK (yGX l)
    unfold yqK
    rw [hc.2.2.2]
    match l,hc with
    | x0::x1::x2::x3::t,hc =>
      have e0:x0=21322:=hc.2.1
      have e3:x3=((x0::x1::x2::x3::t).length:Int) - 4:=hc.2.2.1
      have e4:x3=(t.length:Int):=by rw [e3]; simp only [List.length_cons]; omega
      subst e0
      rw [e4]; rfl
    | [],hc=>exact absurd hc.1 (by simp)
    | [_],hc=>exact absurd hc.1 (by simp)
    | [_,_],hc=>exact absurd hc.1 (by simp)
    | [_,_,_],hc=>exact absurd hc.1 (by simp)
theorem y2w {a:dA} {q:Int} (h:(yA a q).2=true): ∃ i,i < a.2.2.1.length∧ynU a q i=true∧(yA a q).1=yyS a q i:=by
  unfold yA at h ⊢
  cases hk:leb 0 (yz (ynU a q) (List.range a.2.2.1.length))
  · rw [hk]at h; cases h
  · obtain ⟨h1,h2⟩:=yRp (d:=0) hk
    have h3:=zjP.1 h1
    rw [List.length_range]at h3
    refine ⟨(yz (ynU a q) (List.range a.2.2.1.length)).toNat,by omega,?_,rfl⟩
    unfold nth at h2
    rwa [yIR (by omega)] at h2
theorem y11 {a:dA} {q:Int} (hg:yg a.2.1=true) (h:(yA a q).2=true):ykH a.2.1 (yA a q).1.2.1=true∧((yA a q).1.2.2.length:Int)=a.2.1.1 - 1:=by
  obtain ⟨i,_,h1,h2⟩:=y2w h
  rw [h2]
  simp only [ynU,Bool.and_eq_true,zjQ,beq_iff_eq]at h1
  exact ⟨ylS.2 ⟨hg,h1.2.2.2.1.1,h1.2.2.2.1.2⟩,h1.2.2.2.2⟩
end
section
def yI7:Code:=(Tryz.f222.body).getD .skip
def yJw:Env:=zki TT [(253,yyk)] []
theorem yQ2:FrOk Tryz.prog ⟨yJw,40,fun _=>none⟩ yI7:=zkp yb yc ⟨yJO,trivial⟩
def yTA:Nat→Option Seg:=fun _=>none
abbrev yhG:List Par:= [.rd tL]
abbrev ytR:List OT:= [⟨false,tN,(.pr .fz (.pr .fz (.ow .fz)))⟩,⟨false,tB,.fz⟩]
def ypK (a0:List Int):Option (ResD ytR×MutD yhG) :=
  bif (!(ltb (a0.length:Int) 4)) then
    bif (inb 0 a0.length) then
      bif (!((nth a0 0 0) !=21322)) then
        bif (inb 3 a0.length) then
          bif ((nth a0 3 0) !=(IntKind.i64.wrap ((a0.length:Int) - 4))) then
            some (((0,0,[]),false,()),())
          else
            bif (inb 1 a0.length) then
              bif (inb 2 a0.length) then
                bif (zjG 4 (a0.length:Int) a0.length) then
                  bif (zj4 ([]:List Int).length ((a0.drop (4:Int).toNat).take ((a0.length:Int) - 4).toNat).length 8) then
                    let r1:=ym ((nth a0 1 0),(nth a0 2 0),(([]:List Int)++((a0.drop (4:Int).toNat).take ((a0.length:Int) - 4).toNat)))
                    bif (!r1) then
                      some (((0,0,[]),false,()),())
                    else
                      some ((((nth a0 1 0),(nth a0 2 0),(([]:List Int)++((a0.drop (4:Int).toNat).take ((a0.length:Int) - 4).toNat))),true,()),())
                  else none
                else none
              else none
            else none
        else none
      else
        some (((0,0,[]),false,()),())
    else none
  else
    some (((0,0,[]),false,()),())
theorem yZU (x:InD yhG):zjH ⟨yJw,40,yTA⟩ Tryz.f222.results.toList yI7 yhG ytR x=ypK x.1:=by kernel_rfl
theorem yVZ:ConOk Tryz.prog 222 ⟨yhG,ytR,fun x=>ypK x.1⟩:=zkh (yQ2) Tryz.func222 (by kernel_rfl) (by kernel_rfl) Tryz.ntmps222.symm (by decide) (fun x r h=>(yZU x).trans h)
def ynM (a0:List Int):dN×Bool:=yaw a0
theorem yYb (a0:List Int) (hk:zi9 yhG (a0,())):ypK a0=(fun n=>some ((n.1,n.2,()),())) (ynM a0):=by
  have hb:a0.length * 8≤2 ^ 47:=hk.1.1
  unfold ypK ynM yaw
  by_cases h:(a0.length:Int) < 4
  · rw [zjI h,zkZ h]; rfl
  · have ht:(a0.drop (4:Int).toNat).take ((a0.length:Int) - 4).toNat=a0.drop 4:=List.take_of_length_le (by rw [List.length_drop]; show a0.length - 4≤_; omega)
    rw [zkm (Int.not_lt.1 h),zk0 (Int.not_lt.1 h)]
    simp only [bne,Bool.not_false,cond_true,zjP.2 (show (0:Int)≤0∧(0:Int) < a0.length by omega),zjP.2 (show (0:Int)≤1∧(1:Int) < a0.length by omega),zjP.2 (show (0:Int)≤2∧(2:Int) < a0.length by omega),zjP.2 (show (0:Int)≤3∧(3:Int) < a0.length by omega),zko.2 (show (0:Int)≤4∧(4:Int)≤a0.length∧(a0.length:Int)≤a0.length by omega),ht,List.nil_append,
      zkw.2 (show (([]:List Int).length+(a0.drop 4).length) * 8≤140737488355328 by rw [List.length_nil,List.length_drop]; omega),wr (show -9223372036854775808≤(a0.length:Int) - 4 by omega) (by omega)]
    rw [show ym (nth a0 1 0,nth a0 2 0,a0.drop 4)=ym (yGX a0) from rfl]
    cases (nth a0 0 0==21322)<;>cases (nth a0 3 0==(a0.length:Int) - 4)<;>cases ym (yGX a0)<;>rfl
def yGw:Con:=⟨yhG,ytR,fun x=>(fun n=>some ((n.1,n.2,()),())) (ynM x.1)⟩
theorem yYZ:ConOk Tryz.prog 222 yGw:=(yVZ).mono (fun x r hk h=>(yYb x.1 hk).trans h)
end
section
def ykU:Code:=(Tryz.f160.body).getD .skip
def yrh:Env:=zki TT [(98,yu),(220,yut),(221,ywj),(222,yGw)] []
theorem yOl:FrOk Tryz.prog ⟨yrh,65,fun _=>none⟩ ykU:=zkp yb yc ⟨yF,yGT,yIn,yYZ,trivial⟩
def yDg:Nat→Option Seg:=fun _=>none
def ybq:Shape:=⟨[(1,false,[.int .i64]),(2,false,[.ptr 0 0]),(4,false,[.ptr 64 0]),(6,false,[.int .i64])],[(0,[.int .i64,.int .i64,.int .i64,.br tM,.int .i64,.int .i64,.int .i64,.int .i64,.int .i64,.br tW,.int .i64,.bool,.bool]),(64,[.int .i64,.int .i64,.nil])],[]⟩
def yfO:Shape:=⟨[(1,false,[.int .i64]),(2,false,[.ptr 0 0]),(4,false,[.ptr 64 0]),(6,false,[.ci .i64 0])],[(0,[.int .i64,.int .i64,.int .i64,.br tM,.int .i64,.int .i64,.int .i64,.int .i64,.int .i64,.br tW,.int .i64,.bool,.bool]),(64,[.int .i64,.int .i64,.nil])],[]⟩
def yfD:Shape:=⟨[(4,false,[.ptr 64 0])],[(64,[.int .i64,.int .i64,.nil])],[]⟩
def yfW:Shape:=⟨[(4,false,[.ptr 64 0]),(5,false,[.bool])],[(64,[.int .i64,.int .i64,.at 800000000])],[(800000000,tI,.fz)]⟩
abbrev yqD (v0:Int) (v1:Int) (v2:dA) (v3:dN):(ybq).X:=(((v0,()),((),()),((),()),(v1,()),()),((v2.1,v2.2.1.1,v2.2.1.2,v2.2.2.1,v2.2.2.2.1,v2.2.2.2.2.1,v2.2.2.2.2.2.1,v2.2.2.2.2.2.2.1,v2.2.2.2.2.2.2.2.1,v2.2.2.2.2.2.2.2.2.1,v2.2.2.2.2.2.2.2.2.2.1,v2.2.2.2.2.2.2.2.2.2.2.1,v2.2.2.2.2.2.2.2.2.2.2.2,()),(v3.1,v3.2.1,(),()),()),())
abbrev yMr (v0:Int) (v1:dA) (v2:dN):(yfO).X:=(((v0,()),((),()),((),()),((),()),()),((v1.1,v1.2.1.1,v1.2.1.2,v1.2.2.1,v1.2.2.2.1,v1.2.2.2.2.1,v1.2.2.2.2.2.1,v1.2.2.2.2.2.2.1,v1.2.2.2.2.2.2.2.1,v1.2.2.2.2.2.2.2.2.1,v1.2.2.2.2.2.2.2.2.2.1,v1.2.2.2.2.2.2.2.2.2.2.1,v1.2.2.2.2.2.2.2.2.2.2.2,()),(v2.1,v2.2.1,(),()),()),())
abbrev yMh (v0:dN):(yfD).X:=((((),()),()),((v0.1,v0.2.1,(),()),()),())
abbrev yMy (v0:Bool) (v1:dN):(yfW).X:=((((),()),(v0,()),()),((v1.1,v1.2.1,(),()),()),(v1.2.2,()))
def yqZ (v0:Int) (v1:Int) (v2:Int) (v3:Int) (v4:Int) (v5:List dM) (v6:Int) (v7:Int) (v8:Int) (v9:Int) (v10:Int) (v11:List dW) (v12:Int) (v13:Bool) (v14:Bool) (v15:Int) (v16:Int):Option ((ybq).X ⊕ ((yfD).X ⊕ (yfW).X)) :=
  bif (ltb v1 (v5.length:Int)) then
    bif (inb v1 v5.length) then
      let r5:=yi v0
      let r6:=yeg ((nth v5 v1 ([],[],false,[])).1,((nth v5 v1 ([],[],false,[])).2).1,(((nth v5 v1 ([],[],false,[])).2).2)) r5
      let r7:=ynM r6.1
      bif r6.2 then
        bif r7.2 then
          bif (r7.1.1==v0) then
            let r8:=ya r7.1.2.1 0 (IntKind.i64.wrap (v4 - 1))
            bif r8 then
              bif ((r7.1.2.2.length:Int)==(IntKind.i64.wrap (v3 - 1))) then
                some (.inr (.inr ((((),()),(true,()),()),((r7.1.1,r7.1.2.1,(),()),()),(r7.1.2.2,()))))
              else
                some (.inl (((v0,()),((),()),((),()),((IntKind.i64.wrap (v1+1)),()),()),((v2,v3,v4,v5,v6,v7,v8,v9,v10,v11,v12,v13,v14,()),(v15,v16,(),()),()),()))
            else
              some (.inl (((v0,()),((),()),((),()),((IntKind.i64.wrap (v1+1)),()),()),((v2,v3,v4,v5,v6,v7,v8,v9,v10,v11,v12,v13,v14,()),(v15,v16,(),()),()),()))
          else
            some (.inl (((v0,()),((),()),((),()),((IntKind.i64.wrap (v1+1)),()),()),((v2,v3,v4,v5,v6,v7,v8,v9,v10,v11,v12,v13,v14,()),(v15,v16,(),()),()),()))
        else
          some (.inl (((v0,()),((),()),((),()),((IntKind.i64.wrap (v1+1)),()),()),((v2,v3,v4,v5,v6,v7,v8,v9,v10,v11,v12,v13,v14,()),(v15,v16,(),()),()),()))
      else
        some (.inl (((v0,()),((),()),((),()),((IntKind.i64.wrap (v1+1)),()),()),((v2,v3,v4,v5,v6,v7,v8,v9,v10,v11,v12,v13,v14,()),(v15,v16,(),()),()),()))
    else none
  else
    some (.inr (.inl ((((),()),()),((v15,v16,(),()),()),())))
def ybO (x:(ybq).X):=yqZ x.1.1.1 x.1.2.2.2.1.1 x.2.1.1.1 x.2.1.1.2.1 x.2.1.1.2.2.1 x.2.1.1.2.2.2.1 x.2.1.1.2.2.2.2.1 x.2.1.1.2.2.2.2.2.1 x.2.1.1.2.2.2.2.2.2.1 x.2.1.1.2.2.2.2.2.2.2.1 x.2.1.1.2.2.2.2.2.2.2.2.1 x.2.1.1.2.2.2.2.2.2.2.2.2.1 x.2.1.1.2.2.2.2.2.2.2.2.2.2.1 x.2.1.1.2.2.2.2.2.2.2.2.2.2.2.1 x.2.1.1.2.2.2.2.2.2.2.2.2.2.2.2.1 x.2.1.2.1.1 x.2.1.2.1.2.1
def yzD (x:(yfO).X):(ybq).X:=(((x.1.1.1,()),((),()),((),()),(0,()),()),((x.2.1.1.1,x.2.1.1.2.1,x.2.1.1.2.2.1,x.2.1.1.2.2.2.1,x.2.1.1.2.2.2.2.1,x.2.1.1.2.2.2.2.2.1,x.2.1.1.2.2.2.2.2.2.1,x.2.1.1.2.2.2.2.2.2.2.1,x.2.1.1.2.2.2.2.2.2.2.2.1,x.2.1.1.2.2.2.2.2.2.2.2.2.1,x.2.1.1.2.2.2.2.2.2.2.2.2.2.1,x.2.1.1.2.2.2.2.2.2.2.2.2.2.2.1,x.2.1.1.2.2.2.2.2.2.2.2.2.2.2.2.1,()),(x.2.1.2.1.1,x.2.1.2.1.2.1,(),()),()),())
def yBt:Code:=(zdI ykU 64 52).getD .skip
theorem yNE:zdI ykU 64 13=some (.block 0 (.loop yBt)):=by kernel_rfl
theorem yPG (x:(ybq).X):zg7 ⟨yrh,65,yDg⟩ 0 yBt 52 ybq yfD yfW x=ybO x:=by kernel_rfl
def yzW (x:(yfO).X):Nat:=(fun (u0:Int) (u1:Int) (u2:Int) (u3:Int) (u4:List dM) (u5:Int) (u6:Int) (u7:Int) (u8:Int) (u9:Int) (u10:List dW) (u11:Int) (u12:Bool) (u13:Bool) (u14:Int) (u15:Int)=>18446744073709551616) x.1.1.1 x.2.1.1.1 x.2.1.1.2.1 x.2.1.1.2.2.1 x.2.1.1.2.2.2.1 x.2.1.1.2.2.2.2.1 x.2.1.1.2.2.2.2.2.1 x.2.1.1.2.2.2.2.2.2.1 x.2.1.1.2.2.2.2.2.2.2.1 x.2.1.1.2.2.2.2.2.2.2.2.1 x.2.1.1.2.2.2.2.2.2.2.2.2.1 x.2.1.1.2.2.2.2.2.2.2.2.2.2.1 x.2.1.1.2.2.2.2.2.2.2.2.2.2.2.1 x.2.1.1.2.2.2.2.2.2.2.2.2.2.2.2.1 x.2.1.2.1.1 x.2.1.2.1.2.1
def ysn (x:(yfO).X):Option ((yfD).X ⊕ (yfW).X):=zr ybO (yzW x) (yzD x)
def yAm:Seg:=⟨yfO,yfD,yfW,ysn⟩
def yDh:Nat→Option Seg:=fun q=>bif Nat.beq q 13 then some yAm else yDg q
theorem yOm:FrOk Tryz.prog ⟨yrh,65,yDh⟩ ykU:=(yOl).loop (sg:=yAm) ybq yzD (by decide) yNE ybO yzW (by decide) (fun _=>rfl) (fun x r _ h=>h) yPG
abbrev ydZ:List Par:= [.rd tA,.rd tI]
abbrev yln:List OT:= [⟨false,tN,(.pr .fz (.pr .fz (.ow .fz)))⟩,⟨false,tB,.fz⟩]
def ymW (a0:dA) (a1:Int):Option (ResD yln×MutD ydZ) :=
  zjw (ysn (((a1,()),((),()),((),()),((),()),()),((a0.1,a0.2.1.1,a0.2.1.2,a0.2.2.1,a0.2.2.2.1,a0.2.2.2.2.1,a0.2.2.2.2.2.1,a0.2.2.2.2.2.2.1,a0.2.2.2.2.2.2.2.1,a0.2.2.2.2.2.2.2.2.1,a0.2.2.2.2.2.2.2.2.2.1,a0.2.2.2.2.2.2.2.2.2.2.1,a0.2.2.2.2.2.2.2.2.2.2.2,()),(0,0,(),()),()),())) (fun y8 =>
    some (((0,0,[]),false,()),())) (fun y8 =>
    some (((y8.2.1.1.1,y8.2.1.1.2.1,y8.2.2.1),y8.1.2.1.1,()),()))
theorem yXt (x:InD ydZ):zjH ⟨yrh,65,yDh⟩ Tryz.f160.results.toList ykU ydZ yln x=ymW x.1 x.2.1:=by kernel_rfl
theorem ySB:ConOk Tryz.prog 160 ⟨ydZ,yln,fun x=>ymW x.1 x.2.1⟩:=zkh (yOm) Tryz.func160 (by kernel_rfl) (by kernel_rfl) Tryz.ntmps160.symm (by decide) (fun x r h=>(yXt x).trans h)
def ylF (a0:dA) (a1:Int):dN×Bool:=yA a0 a1
def yrW (a0:dA) (a1:Int):Bool:=yg a0.2.1
theorem yVw (a0:dA) (a1:Int) (hk:zi9 ydZ (a0,a1,())) (hq:yrW a0 a1=true):ymW a0 a1=(fun n=>some ((n.1,n.2,()),())) (ylF a0 a1):=by
  have hb:a0.2.2.1.length * 80≤2 ^ 47:=hk.1.2.2.1.1
  have hg:=yaZ.1 hq
  have h1:=yMc (step:=ybO) (List.range a0.2.2.1.length) 0 (fun i=>yqD a1 i a0 yGQ) (ynU a0 a1) (fun k=> .inr (yMy true (yyS a0 a1 k.toNat))) (.inl (yMh yGQ)) (fun i hi=>by
    rw [List.length_range]at hi
    rw [yIR hi]
    simp only [ybO,yqD,yqZ,zjI (show (i:Int) < a0.2.2.1.length by omega),cond_true,wr (show -9223372036854775808≤(i:Int)+1 by omega) (by omega),Int.natCast_add,Int.natCast_one,Int.toNat_natCast,zkO hi,zkV,yeg,ynM,yfg,wr (show -9223372036854775808≤a0.2.1.2 - 1 by omega) (by omega),wr (show -9223372036854775808≤a0.2.1.1 - 1 by omega) (by omega),ynU,yyS,yM9,yf]
    cases (yk (nth a0.2.2.1 i ([],[],false,[])) (yi a1)).2<;>cases (yaw (yk (nth a0.2.2.1 i ([],[],false,[])) (yi a1)).1).2<;>cases ((yaw (yk (nth a0.2.2.1 i ([],[],false,[])) (yi a1)).1).1.1==a1)<;>cases (leb 0 (yaw (yk (nth a0.2.2.1 i ([],[],false,[])) (yi a1)).1).1.2.1&&leb (yaw (yk (nth a0.2.2.1 i ([],[],false,[])) (yi a1)).1).1.2.1 (a0.2.1.2 - 1))<;>cases (((yaw (yk (nth a0.2.2.1 i ([],[],false,[])) (yi a1)).1).1.2.2.length:Int)==a0.2.1.1 - 1)<;>rfl) (by
      rw [List.length_range]; simp only [ybO,yqD,yqZ,zkm (Int.le_refl _),cond_false]) 18446744073709551616 (by rw [List.length_range]; omega)
  unfold ymW ylF yA
  rw [show ysn (yMr a1 a0 yGQ)=_ from h1]
  cases leb 0 (yz (ynU a0 a1) (List.range a0.2.2.1.length))<;>rfl
def yrS (a0:dA) (a1:Int):Option (ResD yln×MutD ydZ):=bif yrW a0 a1 then (fun n=>some ((n.1,n.2,()),())) (ylF a0 a1) else none
theorem yWz (a0:dA) (a1:Int) (h:yrW a0 a1=true):yrS a0 a1=(fun n=>some ((n.1,n.2,()),())) (ylF a0 a1):=by unfold yrS; rw [h]; rfl
def yDX:Con:=⟨ydZ,yln,fun x=>yrS x.1 x.2.1⟩
theorem yWt:ConOk Tryz.prog 160 yDX:=(ySB).mono (fun x r hk h=>zkW h (fun hq=>yVw x.1 x.2.1 hk hq))
end
section
def yPQ:Code:=(Tryz.f213.body).getD .skip
def yPV:Env:=zki TT [] []
theorem yXL:FrOk Tryz.prog ⟨yPV,31,fun _=>none⟩ yPQ:=zkp yb yc trivial
def yZy:Nat→Option Seg:=fun _=>none
abbrev ys7:List Par:= [.pt tA (.pr .fz (.pr (.pr .fz .fz) (.pr (.ow (.pr (.ow .fz) (.pr (.ow (.pr .fz .fz)) (.pr .fz (.ow .fz))))) (.pr .fz (.pr .fz (.pr .fz (.pr .fz (.pr .fz (.pr (.ow (.pr .fz .fz)) (.pr .fz (.pr .fz .fz)))))))))))]
abbrev yyO:List OT:= [⟨false,tB,.fz⟩]
def yAH (a0:dA):Option (ResD yyO×MutD ys7) :=
  bif a0.2.2.2.2.2.2.2.2.2.2.1 then
    some ((false,()),(a0,()))
  else
    bif (a0.2.2.2.2.2.2.2.2.2.1==0) then
      some ((false,()),((a0.1,a0.2.1,a0.2.2.1,a0.2.2.2.1,a0.2.2.2.2.1,a0.2.2.2.2.2.1,a0.2.2.2.2.2.2.1,a0.2.2.2.2.2.2.2.1,a0.2.2.2.2.2.2.2.2.1,(-1),true,a0.2.2.2.2.2.2.2.2.2.2.2),()))
    else
      bif (ltb 0 a0.2.2.2.2.2.2.2.2.2.1) then
        some ((true,()),((a0.1,a0.2.1,a0.2.2.1,a0.2.2.2.1,a0.2.2.2.2.1,a0.2.2.2.2.2.1,a0.2.2.2.2.2.2.1,a0.2.2.2.2.2.2.2.1,a0.2.2.2.2.2.2.2.2.1,(IntKind.i64.wrap (a0.2.2.2.2.2.2.2.2.2.1 - 1)),a0.2.2.2.2.2.2.2.2.2.2),()))
      else
        some ((true,()),(a0,()))
theorem y1Q (x:InD ys7):zjH ⟨yPV,31,yZy⟩ Tryz.f213.results.toList yPQ ys7 yyO x=yAH x.1:=by kernel_rfl
theorem y0D:ConOk Tryz.prog 213 ⟨ys7,yyO,fun x=>yAH x.1⟩:=zkh (yXL) Tryz.func213 (by kernel_rfl) (by kernel_rfl) Tryz.ntmps213.symm (by decide) (fun x r h=>(y1Q x).trans h)
def ytg (a0:dA):Bool×dA :=
  bif a0.2.2.2.2.2.2.2.2.2.2.1 then
    (false,a0)
  else
    bif (a0.2.2.2.2.2.2.2.2.2.1==0) then
      (false,(a0.1,a0.2.1,a0.2.2.1,a0.2.2.2.1,a0.2.2.2.2.1,a0.2.2.2.2.2.1,a0.2.2.2.2.2.2.1,a0.2.2.2.2.2.2.2.1,a0.2.2.2.2.2.2.2.2.1,(-1),true,a0.2.2.2.2.2.2.2.2.2.2.2))
    else
      bif (ltb 0 a0.2.2.2.2.2.2.2.2.2.1) then
        (true,(a0.1,a0.2.1,a0.2.2.1,a0.2.2.2.1,a0.2.2.2.2.1,a0.2.2.2.2.2.1,a0.2.2.2.2.2.2.1,a0.2.2.2.2.2.2.2.1,a0.2.2.2.2.2.2.2.2.1,(IntKind.i64.wrap (a0.2.2.2.2.2.2.2.2.2.1 - 1)),a0.2.2.2.2.2.2.2.2.2.2))
      else
        (true,a0)
def yAt:Con:=⟨ys7,yyO,fun x=>(fun n=>some ((n.1,()),(n.2,()))) (ytg x.1)⟩
theorem y1u (a0:dA):yAH a0=(fun n=>some ((n.1,()),(n.2,()))) (ytg a0):=zkS (p:=fun (n:Bool×dA)=>((n.1,()),(n.2,()))) (zkx (p:=fun (n:Bool×dA)=>((n.1,()),(n.2,()))) rfl (zkx (p:=fun (n:Bool×dA)=>((n.1,()),(n.2,()))) rfl (zkx (p:=fun (n:Bool×dA)=>((n.1,()),(n.2,()))) rfl rfl)))
theorem yMS:ConOk Tryz.prog 213 yAt:=(y0D).mono (fun x r _ h=>(y1u x.1).trans h)
end
section
def ygz:Code:=(Tryz.f250.body).getD .skip
def ylX:Env:=zki TT [] []
theorem yKf:FrOk Tryz.prog ⟨ylX,28,fun _=>none⟩ ygz:=zkp yb yc trivial
def yy4:Nat→Option Seg:=fun _=>none
def yas:Shape:=⟨[(0,false,[.br tI]),(1,false,[.int .i64]),(5,false,[.at 800000000]),(6,false,[.int .i64])],[],[(800000000,tI,.fz)]⟩
def ydR:Shape:=⟨[(0,false,[.br tI]),(1,false,[.int .i64]),(5,false,[.at 800000000]),(6,false,[.ci .i64 0])],[],[(800000000,tI,.fz)]⟩
def ydL:Shape:=⟨[(5,false,[.at 800000000])],[],[(800000000,tI,.fz)]⟩
def yho:Shape:=⟨[],[],[]⟩
abbrev ymB (v0:List Int) (v1:Int) (v2:Int) (v3:List Int):(yas).X:=(((v0,()),(v1,()),((),()),(v2,()),()),(),(v3,()))
abbrev yIK (v0:List Int) (v1:Int) (v2:List Int):(ydR).X:=(((v0,()),(v1,()),((),()),((),()),()),(),(v2,()))
abbrev yIE (v0:List Int):(ydL).X:=((((),()),()),(),(v0,()))
def ym9 (v0:List Int) (v1:Int) (v2:Int) (v3:List Int):Option ((yas).X ⊕ ((ydL).X ⊕ (yho).X)) :=
  bif (ltb v2 (v0.length:Int)) then
    bif (inb v2 v0.length) then
      bif ((nth v0 v2 0) !=v1) then
        bif (inb v2 v0.length) then
          bif (zj4 v3.length ([(nth v0 v2 0)]:List Int).length 8) then
            some (.inl (((v0,()),(v1,()),((),()),((IntKind.i64.wrap (v2+1)),()),()),(),((v3++([(nth v0 v2 0)]:List Int)),())))
          else none
        else none
      else
        some (.inl (((v0,()),(v1,()),((),()),((IntKind.i64.wrap (v2+1)),()),()),(),(v3,())))
    else none
  else
    some (.inr (.inl ((((),()),()),(),(v3,()))))
def yaI (x:(yas).X):=ym9 x.1.1.1 x.1.2.1.1 x.1.2.2.2.1.1 x.2.2.1
def ywt (x:(ydR).X):(yas).X:=(((x.1.1.1,()),(x.1.2.1.1,()),((),()),(0,()),()),(),(x.2.2.1,()))
def yxk:Code:=(zdI ygz 64 116).getD .skip
theorem yJ0:zdI ygz 64 29=some (.block 0 (.loop yxk)):=by kernel_rfl
theorem yKD (x:(yas).X):zg7 ⟨ylX,28,yy4⟩ 0 yxk 116 yas ydL yho x=yaI x:=by kernel_rfl
def ywB (x:(ydR).X):Nat:=(fun (u0:List Int) (u1:Int) (u2:List Int)=>18446744073709551616) x.1.1.1 x.1.2.1.1 x.2.2.1
def yn5 (x:(ydR).X):Option ((ydL).X ⊕ (yho).X):=zr yaI (ywB x) (ywt x)
def yw8:Seg:=⟨ydR,ydL,yho,yn5⟩
def yy5:Nat→Option Seg:=fun q=>bif Nat.beq q 29 then some yw8 else yy4 q
theorem yKg:FrOk Tryz.prog ⟨ylX,28,yy5⟩ ygz:=(yKf).loop (sg:=yw8) yas ywt (by decide) yJ0 yaI ywB (by decide) (fun _=>rfl) (fun x r _ h=>h) yKD
abbrev yd0:List Par:= [.rd tL,.rd tI]
abbrev ymh:List OT:= [⟨false,tL,(.ow .fz)⟩]
def yjH (a0:List Int) (a1:Int):Option (ResD ymh×MutD yd0) :=
  zjw (yn5 (((a0,()),(a1,()),((),()),((),()),()),(),(([]:List Int),()))) (fun y0 =>
    some ((y0.2.2.1,()),())) (fun y0 =>
    none)
theorem yQz (x:InD yd0):zjH ⟨ylX,28,yy5⟩ Tryz.f250.results.toList ygz yd0 ymh x=yjH x.1 x.2.1:=by kernel_rfl
theorem yMN:ConOk Tryz.prog 250 ⟨yd0,ymh,fun x=>yjH x.1 x.2.1⟩:=zkh (yKg) Tryz.func250 (by kernel_rfl) (by kernel_rfl) Tryz.ntmps250.symm (by decide) (fun x r h=>(yQz x).trans h)
def yg8 (a0:List Int) (a1:Int):List Int:=yZg a0 a1
theorem yLv {α:Type} (p:α→Bool): ∀ (l:List α) (s:List α),l.foldl (fun s x=>bif p x then s++ [x] else s) s=s++l.filter p
  | [],s=>by simp
  | x::l,s=>by
    rw [List.foldl_cons,yLv p l,List.filter_cons]
    cases p x<;>simp
theorem yOU (a0:List Int) (a1:Int) (hk:zi9 yd0 (a0,a1,())):yjH a0 a1=(fun n=>some ((n,()),())) (yg8 a0 a1):=by
  have hb:a0.length * 8≤2 ^ 47:=hk.1.1
  have h1:=zkk (step:=yaI) a0 0 (fun i s=>ymB a0 a1 i s) (fun s x=>bif x !=a1 then s++ [x] else s) (fun i s=>s.length≤i) (fun s=> .inl (yIE s)) (fun i s hi hs=>by
      constructor
      · simp only [yaI,ymB,ym9,zjI (show (i:Int) < a0.length by omega),cond_true,wr (show -9223372036854775808≤(i:Int)+1 by omega) (by omega),Int.natCast_add,Int.natCast_one,Int.toNat_natCast,zkO hi,zjW]
        rw [zkw.2 (show (s.length+ [a0.getD i 0].length) * 8≤140737488355328 by simp only [List.length_cons,List.length_nil]; omega)]
        cases (a0.getD i 0 !=a1)<;>rfl
      · cases (a0.getD i 0 !=a1)
        · show s.length≤_; omega
        · simp only [cond_true,List.length_append,List.length_cons,List.length_nil]; omega) (fun s _=>by simp only [yaI,ymB,ym9,zkm (Int.le_refl _),cond_false]) [] (Nat.le_refl _) 18446744073709551616 (by omega)
  unfold yjH yg8 yZg
  rw [show yn5 (yIK a0 a1 [])=_ from h1,yLv]; rfl
def yzq:Con:=⟨yd0,ymh,fun x=>(fun n=>some ((n,()),())) (yg8 x.1 x.2.1)⟩
theorem yPr:ConOk Tryz.prog 250 yzq:=(yMN).mono (fun x r hk h=>(yOU x.1 x.2.1 hk).trans h)
end
end
end Go.Tf
