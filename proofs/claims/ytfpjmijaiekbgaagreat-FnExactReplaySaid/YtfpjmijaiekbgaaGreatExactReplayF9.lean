/- Functions of the program, and what they come to. -/
import Derived.Test.YtfpjmijaiekbgaaGreatExactReplayF8
namespace Go.Tf
noncomputable section
open Go.Proofs
set_option synthInstance.maxHeartbeats 400000
set_option synthInstance.maxSize 10000
set_option linter.unusedVariables false
set_option linter.unusedSimpArgs false
set_option maxRecDepth 100000
section
def yjt:Code:=(Tryz.f220.body).getD .skip
def ypm:Env:=zki TT [(98,yz),(218,yjU),(252,yEM)] []
theorem yKn:FrOk Tryz.prog ⟨ypm,60,fun _=>none⟩ yjt:=zkp yb yc ⟨yP,yr4,yWv,trivial⟩
def yAk:Nat→Option Seg:=fun _=>none
def ya4:Shape:=⟨[(1,false,[.int .i64]),(2,false,[.ptr 0 0]),(6,false,[.br tI]),(7,false,[.int .i64])],[(0,[.br tL,.br tW,.bool,.br tI])],[]⟩
def yeT:Shape:=⟨[(1,false,[.int .i64]),(2,false,[.ptr 0 0]),(6,false,[.br tI]),(7,false,[.ci .i64 0])],[(0,[.br tL,.br tW,.bool,.br tI])],[]⟩
def yeI:Shape:=⟨[(6,false,[.br tI])],[],[]⟩
def yiS:Shape:=⟨[],[],[]⟩
abbrev yoI (v0:Int) (v1:List Int) (v2:Int) (v3:dM):(ya4).X:=(((v0,()),((),()),(v1,()),(v2,()),()),((v3.1,v3.2.1,v3.2.2.1,v3.2.2.2,()),()),())
abbrev yIE (v0:Int) (v1:List Int) (v2:dM):(yeT).X:=(((v0,()),((),()),(v1,()),((),()),()),((v2.1,v2.2.1,v2.2.2.1,v2.2.2.2,()),()),())
abbrev yxi (v0:List Int):(yeI).X:=(((v0,()),()),(),())
def yo6 (v0:Int) (v1:List Int) (v2:Int) (v3:List (List Int)) (v4:List dW) (v5:Bool) (v6:List Int):Option ((ya4).X ⊕ ((yeI).X ⊕ (yiS).X)) :=
  bif (ltb v2 (v4.length:Int)) then
    bif (inb v2 v4.length) then
      bif ((nth v4 v2 (0,[])).1==v0) then
        bif (inb v2 v4.length) then
          some (.inl (((v0,()),((),()),((nth v4 v2 (0,[])).2,()),((IntKind.i64.wrap (v2+1)),()),()),((v3,v4,v5,v6,()),()),()))
        else none
      else
        some (.inl (((v0,()),((),()),(v1,()),((IntKind.i64.wrap (v2+1)),()),()),((v3,v4,v5,v6,()),()),()))
    else none
  else
    some (.inr (.inl (((v1,()),()),(),())))
def ybs (x:(ya4).X):=yo6 x.1.1.1 x.1.2.2.1.1 x.1.2.2.2.1.1 x.2.1.1.1 x.2.1.1.2.1 x.2.1.1.2.2.1 x.2.1.1.2.2.2.1
def ywP (x:(yeT).X):(ya4).X:=(((x.1.1.1,()),((),()),(x.1.2.2.1.1,()),(0,()),()),((x.2.1.1.1,x.2.1.1.2.1,x.2.1.1.2.2.1,x.2.1.1.2.2.2.1,()),()),())
def yyB:Code:=(zdI yjt 64 244).getD .skip
theorem yJK:zdI yjt 64 61=some (.block 0 (.loop yyB)):=by kernel_rfl
theorem yLu (x:(ya4).X):zg7 ⟨ypm,60,yAk⟩ 0 yyB 244 ya4 yeI yiS x=ybs x:=by kernel_rfl
def yw8 (x:(yeT).X):Nat:=(fun (u0:Int) (u1:List Int) (u2:List (List Int)) (u3:List dW) (u4:Bool) (u5:List Int)=>18446744073709551616) x.1.1.1 x.1.2.2.1.1 x.2.1.1.1 x.2.1.1.2.1 x.2.1.1.2.2.1 x.2.1.1.2.2.2.1
def yqp (x:(yeT).X):Option ((yeI).X ⊕ (yiS).X):=zr ybs (yw8 x) (ywP x)
def yxy:Seg:=⟨yeT,yeI,yiS,yqp⟩
def yAl:Nat→Option Seg:=fun q=>bif Nat.beq q 61 then some yxy else yAk q
theorem yKo:FrOk Tryz.prog ⟨ypm,60,yAl⟩ yjt:=(yKn).loop (sg:=yxy) ya4 ywP (by decide) yJK ybs yw8 (by decide) (fun _=>rfl) (fun x r _ h=>h) yLu
abbrev yfq:List Par:= [.rd tM,.rd tI]
abbrev ypD:List OT:= [⟨false,tL,(.ow .fz)⟩,⟨false,tB,.fz⟩]
def ylk (a0:dM) (a1:Int):Option (ResD ypD×MutD yfq) :=
  let r1:=yaB a0
  bif (!(!r1)) then
    bif (!a0.2.2.1) then
      let r2:=ya a1 0 (IntKind.i64.wrap ((a0.1.length:Int) - 1))
      bif (!(!r2)) then
        let r3:=yoO a0.2.2.2 a1
        bif r3 then
          some ((([]:List Int),false,()),())
        else
          bif (inb a1 a0.1.length) then
            zjw (yqp (((a1,()),((),()),((nth a0.1 a1 []),()),((),()),()),((a0.1,a0.2.1,a0.2.2.1,a0.2.2.2,()),()),())) (fun y3 =>
              bif (zj4 ([]:List Int).length y3.1.1.1.length 8) then
                some (((([]:List Int)++y3.1.1.1),true,()),())
              else none) (fun y3 =>
              none)
          else none
      else
        some ((([]:List Int),false,()),())
    else
      some ((([]:List Int),false,()),())
  else
    some ((([]:List Int),false,()),())
theorem ySV (x:InD yfq):zjH ⟨ypm,60,yAl⟩ Tryz.f220.results.toList yjt yfq ypD x=ylk x.1 x.2.1:=by kernel_rfl
theorem yOd:ConOk Tryz.prog 220 ⟨yfq,ypD,fun x=>ylk x.1 x.2.1⟩:=zkh (yKo) Tryz.func220 (by kernel_rfl) (by kernel_rfl) Tryz.ntmps220.symm (by decide) (fun x r h=>(ySV x).trans h)
def yka (a0:dM) (a1:Int):List Int×Bool:=yv a0 a1
theorem yQY (a0:dM) (a1:Int) (hk:zi9 yfq (a0,a1,())):ylk a0 a1=(fun n=>some ((n.1,n.2,()),())) (yka a0 a1):=by
  have hb1:a0.1.length * 24≤2 ^ 47:=hk.1.1.1
  have hb2:a0.2.1.length * 32≤2 ^ 47:=hk.1.2.1.1
  have h1: ∀ s,yqp (yIE a1 s a0)=some (.inl (yxi (yEX a1 a0.2.1 s))):=fun s =>
    zkk (step:=ybs) a0.2.1 (0,[]) (fun i s=>yoI a1 s i a0) (fun s w=>bif w.1==a1 then w.2 else s) (fun _ _=>True) (fun s=> .inl (yxi s)) (fun i s hi _=>⟨by
      simp only [ybs,yoI,yo6,zjI (show (i:Int) < a0.2.1.length by omega),cond_true,wr (show -9223372036854775808≤(i:Int)+1 by omega) (by omega),Int.natCast_add,Int.natCast_one,Int.toNat_natCast,zkO hi,zjW]
      cases ((a0.2.1.getD i (0,[])).1==a1)<;>rfl,trivial⟩) (fun s _=>by simp only [ybs,yoI,yo6,zkm (Int.le_refl _),cond_false]) s trivial _ (by show _ < 18446744073709551616; omega)
  unfold ylk yka yv yJj
  rw [yq8 (show a0.1.length≤1152921504606846976 by omega)]
  unfold yaB yoO
  simp only [h1,zkJ,List.nil_append]
  cases yo a0
  · rfl
  cases a0.2.2.1
  · cases hi:inb a1 a0.1.length
    · rfl
    · cases a0.2.2.2.any (· ==a1)
      · have hs:(yEX a1 a0.2.1 (nth a0.1 a1 [])).length * 8≤2 ^ 47 :=
          yQG (P:=fun s=>s.length * 8≤2 ^ 47) (yXM (P:=fun s:List Int=>s.length * 8≤2 ^ 47) hi fun x hx=>(hk.1.1.2 x hx).1) fun w hw=>(hk.1.2.1.2 w hw).2.1
        simp only [Bool.not_true,Bool.not_false,cond_true,cond_false,Bool.true_and,show zj4 ([]:List Int).length (yEX a1 a0.2.1 (nth a0.1 a1 [])).length 8=true from zkw.2 (by rw [List.length_nil]; omega)]
      · rfl
  · rfl
def yAY:Con:=⟨yfq,ypD,fun x=>(fun n=>some ((n.1,n.2,()),())) (yka x.1 x.2.1)⟩
theorem yRT:ConOk Tryz.prog 220 yAY:=(yOd).mono (fun x r hk h=>(yQY x.1 x.2.1 hk).trans h)
end
section
def yFM:Code:=(Tryz.f221.body).getD .skip
def yF7:Env:=zki TT [] []
theorem yMR:FrOk Tryz.prog ⟨yF7,8,fun _=>none⟩ yFM:=zkp yb yc trivial
def yPc:Nat→Option Seg:=fun _=>none
abbrev ylO:List Par:= [.rd tI]
abbrev yrS:List OT:= [⟨false,tI,.fz⟩]
def yuH (a0:Int):Option (ResD yrS×MutD ylO) :=
  bif (ltb a0 0) then
    some (((-1),()),())
  else
    some (((IntKind.i64.wrap (2+(a0.tmod 4))),()),())
theorem yVs (x:InD ylO):zjH ⟨yF7,8,yPc⟩ Tryz.f221.results.toList yFM ylO yrS x=yuH x.1:=by kernel_rfl
theorem yRu:ConOk Tryz.prog 221 ⟨ylO,yrS,fun x=>yuH x.1⟩:=zkh (yMR) Tryz.func221 (by kernel_rfl) (by kernel_rfl) Tryz.ntmps221.symm (by decide) (fun x r h=>(yVs x).trans h)
def yi (a0:Int):Int :=
  bif (ltb a0 0) then
    (-1)
  else
    (IntKind.i64.wrap (2+(a0.tmod 4)))
def yue:Con:=⟨ylO,yrS,fun x=>(fun n=>some ((n,()),())) (yi x.1)⟩
theorem yTC (a0:Int):yuH a0=(fun n=>some ((n,()),())) (yi a0):=zkS (p:=fun (n:Int)=>((n,()),())) (zkx (p:=fun (n:Int)=>((n,()),())) rfl rfl)
theorem yE3:ConOk Tryz.prog 221 yue:=(yRu).mono (fun x r _ h=>(yTC x.1).trans h)
end
section
def yG7:Code:=(Tryz.f253.body).getD .skip
def yHt:Env:=zki TT [(98,yz),(200,ykY)] []
theorem yQu:FrOk Tryz.prog ⟨yHt,22,fun _=>none⟩ yG7:=zkp yb yc ⟨yP,yuw,trivial⟩
def ySz:Nat→Option Seg:=fun _=>none
abbrev yox:List Par:= [.rd tN]
abbrev yt2:List OT:= [⟨false,tB,.fz⟩]
def yv0 (a0:dN):Option (ResD yt2×MutD yox) :=
  let r1:=ya a0.1 0 60000
  bif r1 then
    let r2:=ya a0.2.1 0 7
    bif r2 then
      let r3:=ya (a0.2.2.length:Int) 2 4
      bif r3 then
        let r4:=yO a0.2.2
        some ((r4,()),())
      else
        some ((false,()),())
    else
      some ((false,()),())
  else
    some ((false,()),())
theorem yW0 (x:InD yox):zjH ⟨yHt,22,ySz⟩ Tryz.f253.results.toList yG7 yox yt2 x=yv0 x.1:=by kernel_rfl
theorem yT9:ConOk Tryz.prog 253 ⟨yox,yt2,fun x=>yv0 x.1⟩:=zkh (yQu) Tryz.func253 (by kernel_rfl) (by kernel_rfl) Tryz.ntmps253.symm (by decide) (fun x r h=>(yW0 x).trans h)
def ym (a0:dN):Bool :=
  let r1:=ya a0.1 0 60000
  bif r1 then
    let r2:=ya a0.2.1 0 7
    bif r2 then
      let r3:=ya (a0.2.2.length:Int) 2 4
      bif r3 then
        let r4:=yO a0.2.2
        r4
      else
        false
    else
      false
  else
    false
def yvD:Con:=⟨yox,yt2,fun x=>(fun n=>some ((n,()),())) (ym x.1)⟩
theorem yV2 (a0:dN):yv0 a0=(fun n=>some ((n,()),())) (ym a0):=zkS (p:=fun (n:Bool)=>((n,()),())) (zkx (p:=fun (n:Bool)=>((n,()),())) (zkx (p:=fun (n:Bool)=>((n,()),())) (zkx (p:=fun (n:Bool)=>((n,()),())) rfl rfl) rfl) rfl)
theorem yGg:ConOk Tryz.prog 253 yvD:=(yT9).mono (fun x r _ h=>(yV2 x.1).trans h)
abbrev yDD:dN:=(0,0,[])
def yoQ (r:dN):List Int:=bif ym r then 21322::r.1::r.2.1::(r.2.2.length:Int)::r.2.2 else []
def yDE (l:List Int):dN:=(nth l 1 0,nth l 2 0,l.drop 4)
def yah (l:List Int):dN×Bool:=bif leb 4 (l.length:Int)&&(nth l 0 0==21322&&(nth l 3 0==(l.length:Int) - 4&&ym (yDE l))) then (yDE l,true) else (yDD,false)
theorem yJf {r:dN}:ym r=true↔(0≤r.1∧r.1≤60000)∧(0≤r.2.1∧r.2.1≤7)∧(2≤(r.2.2.length:Int)∧(r.2.2.length:Int)≤4)∧r.2.2.all isW=true:=by
  unfold ym
  simp only [yxT,← yq7]
  cases ya r.1 0 60000<;>cases ya r.2.1 0 7<;>cases ya (r.2.2.length:Int) 2 4<;>simp
def yJg (a:dA) (q:Int) (i:Nat):List Int×Bool:=yv (nth a.2.2.1 i yh) (yi q)
def ywb (a:dA) (q:Int) (i:Nat):dN:=(yah (yJg a q i).1).1
def yma (a:dA) (q:Int) (i:Nat):Bool:=(yJg a q i).2&&((yah (yJg a q i).1).2&&((ywb a q i).1==q&&((leb 0 (ywb a q i).2.1&&leb (ywb a q i).2.1 (a.2.1.2 - 1))&&((ywb a q i).2.2.length:Int)==a.2.1.1 - 1)))
def yu (a:dA) (q:Int):dN×Bool:=bif leb 0 (yr (yma a q) (List.range a.2.2.1.length)) then (ywb a q (yr (yma a q) (List.range a.2.2.1.length)).toNat,true) else (yDD,false)
theorem yFs {n i:Nat} (h:i < n):(List.range n).getD i 0=i:=by rw [zcq (by rw [List.length_range]; exact h)]; simp
theorem yXX {l:List Int} (h:(yah l).2=true):ym (yah l).1=true∧l=yoQ (yah l).1:=by
  unfold yah at h ⊢
  cases hc:(leb 4 (l.length:Int)&&(nth l 0 0==21322&&(nth l 3 0==(l.length:Int) - 4&&ym (yDE l))))
  · rw [hc]at h; cases h
  · simp only [Bool.and_eq_true,zjQ,beq_iff_eq]at hc
    refine ⟨hc.2.2.2,?_⟩
    show l=yoQ (yDE l)
    unfold yoQ
    rw [hc.2.2.2]
    match l,hc with
    | x0::x1::x2::x3::t,hc =>
      have e0:x0=21322:=hc.2.1
      have e3:x3=((x0::x1::x2::x3::t).length:Int) - 4:=hc.2.2.1
      have e4:x3=(t.length:Int):=by rw [e3]; simp only [List.length_cons]; omega
      subst e0
      rw [e4]; rfl
    | [],hc=>exact absurd hc.1 (by simp)
    | [_],hc=>exact absurd hc.1 (by simp)
    | [_,_],hc=>exact absurd hc.1 (by simp)
    | [_,_,_],hc=>exact absurd hc.1 (by simp)
theorem yYf {a:dA} {q:Int} (h:(yu a q).2=true): ∃ i,i < a.2.2.1.length∧yma a q i=true∧(yu a q).1=ywb a q i:=by
  unfold yu at h ⊢
  cases hk:leb 0 (yr (yma a q) (List.range a.2.2.1.length))
  · rw [hk]at h; cases h
  · obtain ⟨h1,h2⟩:=yM8 (d:=0) hk
    have h3:=zjP.1 h1
    rw [List.length_range]at h3
    refine ⟨(yr (yma a q) (List.range a.2.2.1.length)).toNat,by omega,?_,rfl⟩
    unfold nth at h2
    rwa [yFs (by omega)] at h2
theorem yXJ {a:dA} {q:Int} (hg:yf a.2.1=true) (h:(yu a q).2=true):yjh a.2.1 (yu a q).1.2.1=true∧((yu a q).1.2.2.length:Int)=a.2.1.1 - 1:=by
  obtain ⟨i,_,h1,h2⟩:=yYf h
  rw [h2]
  simp only [yma,Bool.and_eq_true,zjQ,beq_iff_eq]at h1
  exact ⟨ykk.2 ⟨hg,h1.2.2.2.1.1,h1.2.2.2.1.2⟩,h1.2.2.2.2⟩
end
section
def yFI:Code:=(Tryz.f222.body).getD .skip
def yF3:Env:=zki TT [(253,yvD)] []
theorem yMN:FrOk Tryz.prog ⟨yF3,40,fun _=>none⟩ yFI:=zkp yb yc ⟨yGg,trivial⟩
def yO8:Nat→Option Seg:=fun _=>none
abbrev ygw:List Par:= [.rd tL]
abbrev yrO:List OT:= [⟨false,tN,(.pr .fz (.pr .fz (.ow .fz)))⟩,⟨false,tB,.fz⟩]
def ynL (a0:List Int):Option (ResD yrO×MutD ygw) :=
  bif (!(ltb (a0.length:Int) 4)) then
    bif (inb 0 a0.length) then
      bif (!((nth a0 0 0) !=21322)) then
        bif (inb 3 a0.length) then
          bif ((nth a0 3 0) !=(IntKind.i64.wrap ((a0.length:Int) - 4))) then
            some (((0,0,[]),false,()),())
          else
            bif (inb 1 a0.length) then
              bif (inb 2 a0.length) then
                bif (zjG 4 (a0.length:Int) a0.length) then
                  bif (zj4 ([]:List Int).length ((a0.drop (4:Int).toNat).take ((a0.length:Int) - 4).toNat).length 8) then
                    let r1:=ym ((nth a0 1 0),(nth a0 2 0),(([]:List Int)++((a0.drop (4:Int).toNat).take ((a0.length:Int) - 4).toNat)))
                    bif (!r1) then
                      some (((0,0,[]),false,()),())
                    else
                      some ((((nth a0 1 0),(nth a0 2 0),(([]:List Int)++((a0.drop (4:Int).toNat).take ((a0.length:Int) - 4).toNat))),true,()),())
                  else none
                else none
              else none
            else none
        else none
      else
        some (((0,0,[]),false,()),())
    else none
  else
    some (((0,0,[]),false,()),())
theorem yVo (x:InD ygw):zjH ⟨yF3,40,yO8⟩ Tryz.f222.results.toList yFI ygw yrO x=ynL x.1:=by kernel_rfl
theorem yRq:ConOk Tryz.prog 222 ⟨ygw,yrO,fun x=>ynL x.1⟩:=zkh (yMN) Tryz.func222 (by kernel_rfl) (by kernel_rfl) Tryz.ntmps222.symm (by decide) (fun x r h=>(yVo x).trans h)
def yl3 (a0:List Int):dN×Bool:=yah a0
theorem yTy (a0:List Int) (hk:zi9 ygw (a0,())):ynL a0=(fun n=>some ((n.1,n.2,()),())) (yl3 a0):=by
  have hb:a0.length * 8≤2 ^ 47:=hk.1.1
  unfold ynL yl3 yah
  by_cases h:(a0.length:Int) < 4
  · rw [zjI h,zkZ h]; rfl
  · have ht:(a0.drop (4:Int).toNat).take ((a0.length:Int) - 4).toNat=a0.drop 4:=List.take_of_length_le (by rw [List.length_drop]; show a0.length - 4≤_; omega)
    rw [zkm (Int.not_lt.1 h),zk0 (Int.not_lt.1 h)]
    simp only [bne,Bool.not_false,cond_true,zjP.2 (show (0:Int)≤0∧(0:Int) < a0.length by omega),zjP.2 (show (0:Int)≤1∧(1:Int) < a0.length by omega),zjP.2 (show (0:Int)≤2∧(2:Int) < a0.length by omega),zjP.2 (show (0:Int)≤3∧(3:Int) < a0.length by omega),zko.2 (show (0:Int)≤4∧(4:Int)≤a0.length∧(a0.length:Int)≤a0.length by omega),ht,List.nil_append,
      zkw.2 (show (([]:List Int).length+(a0.drop 4).length) * 8≤140737488355328 by rw [List.length_nil,List.length_drop]; omega),wr (show -9223372036854775808≤(a0.length:Int) - 4 by omega) (by omega)]
    rw [show ym (nth a0 1 0,nth a0 2 0,a0.drop 4)=ym (yDE a0) from rfl]
    cases (nth a0 0 0==21322)<;>cases (nth a0 3 0==(a0.length:Int) - 4)<;>cases ym (yDE a0)<;>rfl
def yDq:Con:=⟨ygw,yrO,fun x=>(fun n=>some ((n.1,n.2,()),())) (yl3 x.1)⟩
theorem yUu:ConOk Tryz.prog 222 yDq:=(yRq).mono (fun x r hk h=>(yTy x.1 hk).trans h)
end
section
def yjs:Code:=(Tryz.f160.body).getD .skip
def ypl:Env:=zki TT [(98,yz),(220,yAY),(221,yue),(222,yDq)] []
theorem yKl:FrOk Tryz.prog ⟨ypl,65,fun _=>none⟩ yjs:=zkp yb yc ⟨yP,yRT,yE3,yUu,trivial⟩
def yAi:Nat→Option Seg:=fun _=>none
def ya3:Shape:=⟨[(1,false,[.int .i64]),(2,false,[.ptr 0 0]),(4,false,[.ptr 64 0]),(6,false,[.int .i64])],[(0,[.int .i64,.int .i64,.int .i64,.br tM,.int .i64,.int .i64,.int .i64,.int .i64,.int .i64,.br tW,.int .i64,.bool,.bool]),(64,[.int .i64,.int .i64,.nil])],[]⟩
def yeS:Shape:=⟨[(1,false,[.int .i64]),(2,false,[.ptr 0 0]),(4,false,[.ptr 64 0]),(6,false,[.ci .i64 0])],[(0,[.int .i64,.int .i64,.int .i64,.br tM,.int .i64,.int .i64,.int .i64,.int .i64,.int .i64,.br tW,.int .i64,.bool,.bool]),(64,[.int .i64,.int .i64,.nil])],[]⟩
def yeH:Shape:=⟨[(4,false,[.ptr 64 0])],[(64,[.int .i64,.int .i64,.nil])],[]⟩
def ye0:Shape:=⟨[(4,false,[.ptr 64 0]),(5,false,[.bool])],[(64,[.int .i64,.int .i64,.at 800000000])],[(800000000,tI,.fz)]⟩
abbrev yoH (v0:Int) (v1:Int) (v2:dA) (v3:dN):(ya3).X:=(((v0,()),((),()),((),()),(v1,()),()),((v2.1,v2.2.1.1,v2.2.1.2,v2.2.2.1,v2.2.2.2.1,v2.2.2.2.2.1,v2.2.2.2.2.2.1,v2.2.2.2.2.2.2.1,v2.2.2.2.2.2.2.2.1,v2.2.2.2.2.2.2.2.2.1,v2.2.2.2.2.2.2.2.2.2.1,v2.2.2.2.2.2.2.2.2.2.2.1,v2.2.2.2.2.2.2.2.2.2.2.2,()),(v3.1,v3.2.1,(),()),()),())
abbrev yID (v0:Int) (v1:dA) (v2:dN):(yeS).X:=(((v0,()),((),()),((),()),((),()),()),((v1.1,v1.2.1.1,v1.2.1.2,v1.2.2.1,v1.2.2.2.1,v1.2.2.2.2.1,v1.2.2.2.2.2.1,v1.2.2.2.2.2.2.1,v1.2.2.2.2.2.2.2.1,v1.2.2.2.2.2.2.2.2.1,v1.2.2.2.2.2.2.2.2.2.1,v1.2.2.2.2.2.2.2.2.2.2.1,v1.2.2.2.2.2.2.2.2.2.2.2,()),(v2.1,v2.2.1,(),()),()),())
abbrev yIt (v0:dN):(yeH).X:=((((),()),()),((v0.1,v0.2.1,(),()),()),())
abbrev yIK (v0:Bool) (v1:dN):(ye0).X:=((((),()),(v0,()),()),((v1.1,v1.2.1,(),()),()),(v1.2.2,()))
def yo5 (v0:Int) (v1:Int) (v2:Int) (v3:Int) (v4:Int) (v5:List dM) (v6:Int) (v7:Int) (v8:Int) (v9:Int) (v10:Int) (v11:List dW) (v12:Int) (v13:Bool) (v14:Bool) (v15:Int) (v16:Int):Option ((ya3).X ⊕ ((yeH).X ⊕ (ye0).X)) :=
  bif (ltb v1 (v5.length:Int)) then
    bif (inb v1 v5.length) then
      let r5:=yi v0
      let r6:=yka ((nth v5 v1 ([],[],false,[])).1,((nth v5 v1 ([],[],false,[])).2).1,(((nth v5 v1 ([],[],false,[])).2).2)) r5
      let r7:=yl3 r6.1
      bif r6.2 then
        bif r7.2 then
          bif (r7.1.1==v0) then
            let r8:=ya r7.1.2.1 0 (IntKind.i64.wrap (v4 - 1))
            bif r8 then
              bif ((r7.1.2.2.length:Int)==(IntKind.i64.wrap (v3 - 1))) then
                some (.inr (.inr ((((),()),(true,()),()),((r7.1.1,r7.1.2.1,(),()),()),(r7.1.2.2,()))))
              else
                some (.inl (((v0,()),((),()),((),()),((IntKind.i64.wrap (v1+1)),()),()),((v2,v3,v4,v5,v6,v7,v8,v9,v10,v11,v12,v13,v14,()),(v15,v16,(),()),()),()))
            else
              some (.inl (((v0,()),((),()),((),()),((IntKind.i64.wrap (v1+1)),()),()),((v2,v3,v4,v5,v6,v7,v8,v9,v10,v11,v12,v13,v14,()),(v15,v16,(),()),()),()))
          else
            some (.inl (((v0,()),((),()),((),()),((IntKind.i64.wrap (v1+1)),()),()),((v2,v3,v4,v5,v6,v7,v8,v9,v10,v11,v12,v13,v14,()),(v15,v16,(),()),()),()))
        else
          some (.inl (((v0,()),((),()),((),()),((IntKind.i64.wrap (v1+1)),()),()),((v2,v3,v4,v5,v6,v7,v8,v9,v10,v11,v12,v13,v14,()),(v15,v16,(),()),()),()))
      else
        some (.inl (((v0,()),((),()),((),()),((IntKind.i64.wrap (v1+1)),()),()),((v2,v3,v4,v5,v6,v7,v8,v9,v10,v11,v12,v13,v14,()),(v15,v16,(),()),()),()))
    else none
  else
    some (.inr (.inl ((((),()),()),((v15,v16,(),()),()),())))
def ybr (x:(ya3).X):=yo5 x.1.1.1 x.1.2.2.2.1.1 x.2.1.1.1 x.2.1.1.2.1 x.2.1.1.2.2.1 x.2.1.1.2.2.2.1 x.2.1.1.2.2.2.2.1 x.2.1.1.2.2.2.2.2.1 x.2.1.1.2.2.2.2.2.2.1 x.2.1.1.2.2.2.2.2.2.2.1 x.2.1.1.2.2.2.2.2.2.2.2.1 x.2.1.1.2.2.2.2.2.2.2.2.2.1 x.2.1.1.2.2.2.2.2.2.2.2.2.2.1 x.2.1.1.2.2.2.2.2.2.2.2.2.2.2.1 x.2.1.1.2.2.2.2.2.2.2.2.2.2.2.2.1 x.2.1.2.1.1 x.2.1.2.1.2.1
def ywO (x:(yeS).X):(ya3).X:=(((x.1.1.1,()),((),()),((),()),(0,()),()),((x.2.1.1.1,x.2.1.1.2.1,x.2.1.1.2.2.1,x.2.1.1.2.2.2.1,x.2.1.1.2.2.2.2.1,x.2.1.1.2.2.2.2.2.1,x.2.1.1.2.2.2.2.2.2.1,x.2.1.1.2.2.2.2.2.2.2.1,x.2.1.1.2.2.2.2.2.2.2.2.1,x.2.1.1.2.2.2.2.2.2.2.2.2.1,x.2.1.1.2.2.2.2.2.2.2.2.2.2.1,x.2.1.1.2.2.2.2.2.2.2.2.2.2.2.1,x.2.1.1.2.2.2.2.2.2.2.2.2.2.2.2.1,()),(x.2.1.2.1.1,x.2.1.2.1.2.1,(),()),()),())
def yyA:Code:=(zdI yjs 64 52).getD .skip
theorem yJJ:zdI yjs 64 13=some (.block 0 (.loop yyA)):=by kernel_rfl
theorem yLt (x:(ya3).X):zg7 ⟨ypl,65,yAi⟩ 0 yyA 52 ya3 yeH ye0 x=ybr x:=by kernel_rfl
def yw7 (x:(yeS).X):Nat:=(fun (u0:Int) (u1:Int) (u2:Int) (u3:Int) (u4:List dM) (u5:Int) (u6:Int) (u7:Int) (u8:Int) (u9:Int) (u10:List dW) (u11:Int) (u12:Bool) (u13:Bool) (u14:Int) (u15:Int)=>18446744073709551616) x.1.1.1 x.2.1.1.1 x.2.1.1.2.1 x.2.1.1.2.2.1 x.2.1.1.2.2.2.1 x.2.1.1.2.2.2.2.1 x.2.1.1.2.2.2.2.2.1 x.2.1.1.2.2.2.2.2.2.1 x.2.1.1.2.2.2.2.2.2.2.1 x.2.1.1.2.2.2.2.2.2.2.2.1 x.2.1.1.2.2.2.2.2.2.2.2.2.1 x.2.1.1.2.2.2.2.2.2.2.2.2.2.1 x.2.1.1.2.2.2.2.2.2.2.2.2.2.2.1 x.2.1.1.2.2.2.2.2.2.2.2.2.2.2.2.1 x.2.1.2.1.1 x.2.1.2.1.2.1
def yqo (x:(yeS).X):Option ((yeH).X ⊕ (ye0).X):=zr ybr (yw7 x) (ywO x)
def yxx:Seg:=⟨yeS,yeH,ye0,yqo⟩
def yAj:Nat→Option Seg:=fun q=>bif Nat.beq q 13 then some yxx else yAi q
theorem yKm:FrOk Tryz.prog ⟨ypl,65,yAj⟩ yjs:=(yKl).loop (sg:=yxx) ya3 ywO (by decide) yJJ ybr yw7 (by decide) (fun _=>rfl) (fun x r _ h=>h) yLt
abbrev ydm:List Par:= [.rd tA,.rd tI]
abbrev yjR:List OT:= [⟨false,tN,(.pr .fz (.pr .fz (.ow .fz)))⟩,⟨false,tB,.fz⟩]
def ylj (a0:dA) (a1:Int):Option (ResD yjR×MutD ydm) :=
  zjw (yqo (((a1,()),((),()),((),()),((),()),()),((a0.1,a0.2.1.1,a0.2.1.2,a0.2.2.1,a0.2.2.2.1,a0.2.2.2.2.1,a0.2.2.2.2.2.1,a0.2.2.2.2.2.2.1,a0.2.2.2.2.2.2.2.1,a0.2.2.2.2.2.2.2.2.1,a0.2.2.2.2.2.2.2.2.2.1,a0.2.2.2.2.2.2.2.2.2.2.1,a0.2.2.2.2.2.2.2.2.2.2.2,()),(0,0,(),()),()),())) (fun y8 =>
    some (((0,0,[]),false,()),())) (fun y8 =>
    some (((y8.2.1.1.1,y8.2.1.1.2.1,y8.2.2.1),y8.1.2.1.1,()),()))
theorem ySU (x:InD ydm):zjH ⟨ypl,65,yAj⟩ Tryz.f160.results.toList yjs ydm yjR x=ylj x.1 x.2.1:=by kernel_rfl
theorem yOc:ConOk Tryz.prog 160 ⟨ydm,yjR,fun x=>ylj x.1 x.2.1⟩:=zkh (yKm) Tryz.func160 (by kernel_rfl) (by kernel_rfl) Tryz.ntmps160.symm (by decide) (fun x r h=>(ySU x).trans h)
def yj9 (a0:dA) (a1:Int):dN×Bool:=yu a0 a1
def ypY (a0:dA) (a1:Int):Bool:=yf a0.2.1
theorem yQX (a0:dA) (a1:Int) (hk:zi9 ydm (a0,a1,())) (hq:ypY a0 a1=true):ylj a0 a1=(fun n=>some ((n.1,n.2,()),())) (yj9 a0 a1):=by
  have hb:a0.2.2.1.length * 80≤2 ^ 47:=hk.1.2.2.1.1
  have hg:=yaF.1 hq
  have h1:=yIo (step:=ybr) (List.range a0.2.2.1.length) 0 (fun i=>yoH a1 i a0 yDD) (yma a0 a1) (fun k=> .inr (yIK true (ywb a0 a1 k.toNat))) (.inl (yIt yDD)) (fun i hi=>by
    rw [List.length_range]at hi
    rw [yFs hi]
    simp only [ybr,yoH,yo5,zjI (show (i:Int) < a0.2.2.1.length by omega),cond_true,wr (show -9223372036854775808≤(i:Int)+1 by omega) (by omega),Int.natCast_add,Int.natCast_one,Int.toNat_natCast,zkO hi,zkV,yka,yl3,yiW,wr (show -9223372036854775808≤a0.2.1.2 - 1 by omega) (by omega),wr (show -9223372036854775808≤a0.2.1.1 - 1 by omega) (by omega),yma,ywb,yJg,yh]
    cases (yv (nth a0.2.2.1 i ([],[],false,[])) (yi a1)).2<;>cases (yah (yv (nth a0.2.2.1 i ([],[],false,[])) (yi a1)).1).2<;>cases ((yah (yv (nth a0.2.2.1 i ([],[],false,[])) (yi a1)).1).1.1==a1)<;>cases (leb 0 (yah (yv (nth a0.2.2.1 i ([],[],false,[])) (yi a1)).1).1.2.1&&leb (yah (yv (nth a0.2.2.1 i ([],[],false,[])) (yi a1)).1).1.2.1 (a0.2.1.2 - 1))<;>cases (((yah (yv (nth a0.2.2.1 i ([],[],false,[])) (yi a1)).1).1.2.2.length:Int)==a0.2.1.1 - 1)<;>rfl) (by
      rw [List.length_range]; simp only [ybr,yoH,yo5,zkm (Int.le_refl _),cond_false]) 18446744073709551616 (by rw [List.length_range]; omega)
  unfold ylj yj9 yu
  rw [show yqo (yID a1 a0 yDD)=_ from h1]
  cases leb 0 (yr (yma a0 a1) (List.range a0.2.2.1.length))<;>rfl
def ypS (a0:dA) (a1:Int):Option (ResD yjR×MutD ydm):=bif ypY a0 a1 then (fun n=>some ((n.1,n.2,()),())) (yj9 a0 a1) else none
theorem yRZ (a0:dA) (a1:Int) (h:ypY a0 a1=true):ypS a0 a1=(fun n=>some ((n.1,n.2,()),())) (yj9 a0 a1):=by unfold ypS; rw [h]; rfl
def yAX:Con:=⟨ydm,yjR,fun x=>ypS x.1 x.2.1⟩
theorem yRS:ConOk Tryz.prog 160 yAX:=(yOc).mono (fun x r hk h=>zkW h (fun hq=>yQX x.1 x.2.1 hk hq))
end
section
def yLD:Code:=(Tryz.f213.body).getD .skip
def yLI:Env:=zki TT [] []
theorem yS6:FrOk Tryz.prog ⟨yLI,31,fun _=>none⟩ yLD:=zkp yb yc trivial
def yU0:Nat→Option Seg:=fun _=>none
abbrev yq4:List Par:= [.pt tA (.pr .fz (.pr (.pr .fz .fz) (.pr (.ow (.pr (.ow .fz) (.pr (.ow (.pr .fz .fz)) (.pr .fz (.ow .fz))))) (.pr .fz (.pr .fz (.pr .fz (.pr .fz (.pr .fz (.pr (.ow (.pr .fz .fz)) (.pr .fz (.pr .fz .fz)))))))))))]
abbrev yv7:List OT:= [⟨false,tB,.fz⟩]
def yxS (a0:dA):Option (ResD yv7×MutD yq4) :=
  bif a0.2.2.2.2.2.2.2.2.2.2.1 then
    some ((false,()),(a0,()))
  else
    bif (a0.2.2.2.2.2.2.2.2.2.1==0) then
      some ((false,()),((a0.1,a0.2.1,a0.2.2.1,a0.2.2.2.1,a0.2.2.2.2.1,a0.2.2.2.2.2.1,a0.2.2.2.2.2.2.1,a0.2.2.2.2.2.2.2.1,a0.2.2.2.2.2.2.2.2.1,(-1),true,a0.2.2.2.2.2.2.2.2.2.2.2),()))
    else
      bif (ltb 0 a0.2.2.2.2.2.2.2.2.2.1) then
        some ((true,()),((a0.1,a0.2.1,a0.2.2.1,a0.2.2.2.1,a0.2.2.2.2.1,a0.2.2.2.2.2.1,a0.2.2.2.2.2.2.1,a0.2.2.2.2.2.2.2.1,a0.2.2.2.2.2.2.2.2.1,(IntKind.i64.wrap (a0.2.2.2.2.2.2.2.2.2.1 - 1)),a0.2.2.2.2.2.2.2.2.2.2),()))
      else
        some ((true,()),(a0,()))
theorem yXA (x:InD yq4):zjH ⟨yLI,31,yU0⟩ Tryz.f213.results.toList yLD yq4 yv7 x=yxS x.1:=by kernel_rfl
theorem yWc:ConOk Tryz.prog 213 ⟨yq4,yv7,fun x=>yxS x.1⟩:=zkh (yS6) Tryz.func213 (by kernel_rfl) (by kernel_rfl) Tryz.ntmps213.symm (by decide) (fun x r h=>(yXA x).trans h)
def yrb (a0:dA):Bool×dA :=
  bif a0.2.2.2.2.2.2.2.2.2.2.1 then
    (false,a0)
  else
    bif (a0.2.2.2.2.2.2.2.2.2.1==0) then
      (false,(a0.1,a0.2.1,a0.2.2.1,a0.2.2.2.1,a0.2.2.2.2.1,a0.2.2.2.2.2.1,a0.2.2.2.2.2.2.1,a0.2.2.2.2.2.2.2.1,a0.2.2.2.2.2.2.2.2.1,(-1),true,a0.2.2.2.2.2.2.2.2.2.2.2))
    else
      bif (ltb 0 a0.2.2.2.2.2.2.2.2.2.1) then
        (true,(a0.1,a0.2.1,a0.2.2.1,a0.2.2.2.1,a0.2.2.2.2.1,a0.2.2.2.2.2.1,a0.2.2.2.2.2.2.1,a0.2.2.2.2.2.2.2.1,a0.2.2.2.2.2.2.2.2.1,(IntKind.i64.wrap (a0.2.2.2.2.2.2.2.2.2.1 - 1)),a0.2.2.2.2.2.2.2.2.2.2))
      else
        (true,a0)
def yxE:Con:=⟨yq4,yv7,fun x=>(fun n=>some ((n.1,()),(n.2,()))) (yrb x.1)⟩
theorem yXi (a0:dA):yxS a0=(fun n=>some ((n.1,()),(n.2,()))) (yrb a0):=zkS (p:=fun (n:Bool×dA)=>((n.1,()),(n.2,()))) (zkx (p:=fun (n:Bool×dA)=>((n.1,()),(n.2,()))) rfl (zkx (p:=fun (n:Bool×dA)=>((n.1,()),(n.2,()))) rfl (zkx (p:=fun (n:Bool×dA)=>((n.1,()),(n.2,()))) rfl rfl)))
theorem yI2:ConOk Tryz.prog 213 yxE:=(yWc).mono (fun x r _ h=>(yXi x.1).trans h)
end
end
end Go.Tf
