/- Functions of the program, and what they come to. -/
import Derived.Test.YtfpjmijaiekbgaaGreatExactReplayF0
namespace Go.Tf
noncomputable section
open Go.Proofs
set_option synthInstance.maxHeartbeats 400000
set_option synthInstance.maxSize 10000
set_option linter.unusedVariables false
set_option linter.unusedSimpArgs false
set_option maxRecDepth 100000
section
def yGZ:Code:=(Tryz.f140.body).getD .skip
def yHl:Env:=zki TT [(185,yh0)] []
theorem yQe:FrOk Tryz.prog ⟨yHl,12,fun _=>none⟩ yGZ:=zkp yb yc ⟨ypV,trivial⟩
def ySr:Nat→Option Seg:=fun _=>none
abbrev yoq:List Par:= [.rd tW,.rd tI]
abbrev ytR:List OT:= [⟨false,tI,.fz⟩]
def yvT (a0:dW) (a1:Int):Option (ResD ytR×MutD yoq) :=
  let r1:=yk a0.2 a1
  bif (ltb r1 0) then
    some (((-1),()),())
  else
    some ((r1,()),())
theorem yWP (x:InD yoq):zjH ⟨yHl,12,ySr⟩ Tryz.f140.results.toList yGZ yoq ytR x=yvT x.1 x.2.1:=by kernel_rfl
theorem yTY:ConOk Tryz.prog 140 ⟨yoq,ytR,fun x=>yvT x.1 x.2.1⟩:=zkh (yQe) Tryz.func140 (by kernel_rfl) (by kernel_rfl) Tryz.ntmps140.symm (by decide) (fun x r h=>(yWP x).trans h)
def ycI (a0:dW) (a1:Int):Int :=
  let r1:=yk a0.2 a1
  bif (ltb r1 0) then
    (-1)
  else
    r1
def yEC:Con:=⟨yoq,ytR,fun x=>(fun n=>some ((n,()),())) (ycI x.1 x.2.1)⟩
theorem yVR (a0:dW) (a1:Int):yvT a0 a1=(fun n=>some ((n,()),())) (ycI a0 a1):=zkS (p:=fun (n:Int)=>((n,()),())) (zkx (p:=fun (n:Int)=>((n,()),())) rfl rfl)
theorem yWl:ConOk Tryz.prog 140 yEC:=(yTY).mono (fun x r _ h=>(yVR x.1 x.2.1).trans h)
end
section
def ylv:Code:=(Tryz.f63.body).getD .skip
def yri:Env:=zki TT [(140,yEC)] []
theorem yMB:FrOk Tryz.prog ⟨yri,27,fun _=>none⟩ ylv:=zkp yb yc ⟨yWl,trivial⟩
def yCq:Nat→Option Seg:=fun _=>none
def yds:Shape:=⟨[(0,false,[.br tW]),(1,false,[.int .i64]),(5,false,[.int .i64])],[],[]⟩
def ykB:Shape:=⟨[(0,false,[.br tW]),(1,false,[.int .i64]),(5,false,[.ci .i64 0])],[],[]⟩
def ykt:Shape:=⟨[(1,false,[.int .i64])],[],[]⟩
def ykN:Shape:=⟨[(4,false,[.int .i64])],[],[]⟩
def yqP (v0:List dW) (v1:Int) (v2:Int):Option ((yds).X ⊕ ((ykt).X ⊕ (ykN).X)) :=
  bif (ltb v2 (v0.length:Int)) then
    bif (inb v2 v0.length) then
      let r2:=ycI (nth v0 v2 (0,[])) v1
      bif (ltb r2 0) then
        some (.inr (.inr ((((-1),()),()),(),())))
      else
        some (.inl (((v0,()),(r2,()),((IntKind.i64.wrap (v2+1)),()),()),(),()))
    else none
  else
    some (.inr (.inl (((v1,()),()),(),())))
def yb7 (x:(yds).X):=yqP x.1.1.1 x.1.2.1.1 x.1.2.2.1.1
def yy0 (x:(ykB).X):(yds).X:=(((x.1.1.1,()),(x.1.2.1.1,()),(0,()),()),(),())
def yAy:Code:=(zdI ylv 64 244).getD .skip
theorem yLY:zdI ylv 64 61=some (.block 0 (.loop yAy)):=by kernel_rfl
theorem yOG (x:(yds).X):zg7 ⟨yri,27,yCq⟩ 0 yAy 244 yds ykt ykN x=yb7 x:=by kernel_rfl
def yzf (x:(ykB).X):Nat:=(fun (u0:List dW) (u1:Int)=>18446744073709551616) x.1.1.1 x.1.2.1.1
def ysc (x:(ykB).X):Option ((ykt).X ⊕ (ykN).X):=zr yb7 (yzf x) (yy0 x)
def yzx:Seg:=⟨ykB,ykt,ykN,ysc⟩
def yCr:Nat→Option Seg:=fun q=>bif Nat.beq q 61 then some yzx else yCq q
theorem yMC:FrOk Tryz.prog ⟨yri,27,yCr⟩ ylv:=(yMB).loop (sg:=yzx) yds yy0 (by decide) yLY yb7 yzf (by decide) (fun _=>rfl) (fun x r _ h=>h) yOG
abbrev ygr:List Par:= [.rd tWs,.rd tI]
abbrev yrH:List OT:= [⟨false,tI,.fz⟩]
def ynG (a0:List dW) (a1:Int):Option (ResD yrH×MutD ygr) :=
  bif (ltb (IntKind.i64.wrap (a1 - (a0.length:Int))) 0) then
    some (((-1),()),())
  else
    zjw (ysc (((a0,()),((IntKind.i64.wrap (a1 - (a0.length:Int))),()),((),()),()),(),())) (fun y2 =>
      some ((y2.1.1.1,()),())) (fun y2 =>
      some ((y2.1.1.1,()),()))
theorem yVh (x:InD ygr):zjH ⟨yri,27,yCr⟩ Tryz.f63.results.toList ylv ygr yrH x=ynG x.1 x.2.1:=by kernel_rfl
theorem yRj:ConOk Tryz.prog 63 ⟨ygr,yrH,fun x=>ynG x.1 x.2.1⟩:=zkh (yMC) Tryz.func63 (by kernel_rfl) (by kernel_rfl) Tryz.ntmps63.symm (by decide) (fun x r h=>(yVh x).trans h)
def ybB (a0:List (dW)) (a1:Int):Int:=bif ltb (IntKind.i64.wrap (a1 - (a0.length:Int))) 0 then (-1) else (szG ycI a0 (IntKind.i64.wrap (a1 - (a0.length:Int)))).getD (-1)
theorem yTr (a0:List (dW)) (a1:Int) (hk:zi9 ygr (a0,a1,())):ynG a0 a1=(fun n=>some ((n,()),())) (ybB a0 a1):=by
  have hb:a0.length * 32≤2 ^ 47:=hk.1.1
  have hl: ∀ k:Int,ysc (((a0,()),(k,()),((),()),()),(),())=some (match szG ycI a0 k with | some r=> .inl (((r,()),()),(),()) | none=> .inr ((((-1),()),()),(),())):=fun k =>
    zkG (step:=yb7) a0 ((0,[]):dW) (fun i k=>(((a0,()),(k,()),((i:Int),()),()),(),())) ycI (fun r=> .inl (((r,()),()),(),())) (.inr ((((-1),()),()),(),())) (fun i s hi=>by
      simp only [yb7,yqP,zkO hi,zjW,Int.toNat_natCast,zjI (show (i:Int) < a0.length by omega),cond_true,wr (show -9223372036854775808≤(i:Int)+1 by omega) (by omega),Int.natCast_add,Int.natCast_one,zkV]
      cases ltb (ycI (a0.getD i (0,[])) s) 0<;>rfl) (fun s=>by simp only [yb7,yqP,zkm (Int.le_refl _),cond_false]) k _ (by show _ < 18446744073709551616; omega)
  unfold ynG ybB
  rw [hl]
  cases ltb (IntKind.i64.wrap (a1 - (a0.length:Int))) 0
  · cases szG ycI a0 (IntKind.i64.wrap (a1 - (a0.length:Int)))<;>rfl
  · rfl
def yDl:Con:=⟨ygr,yrH,fun x=>(fun n=>some ((n,()),())) (ybB x.1 x.2.1)⟩
theorem yUp:ConOk Tryz.prog 63 yDl:=(yRj).mono (fun x r hk h=>(yTr x.1 x.2.1 hk).trans h)
end
section
def yGY:Code:=(Tryz.f13.body).getD .skip
def yHk:Env:=zki TT [(35,yDm),(63,yDl)] []
theorem yQd:FrOk Tryz.prog ⟨yHk,18,fun _=>none⟩ yGY:=zkp yb yc ⟨yUq,yUp,trivial⟩
def ySq:Nat→Option Seg:=fun _=>none
abbrev yop:List Par:= [.rd tA,.rd tI]
abbrev ytQ:List OT:= [⟨false,tI,.fz⟩]
def yvS (a0:dA) (a1:Int):Option (ResD ytQ×MutD yop) :=
  let r1:=yaD a0.2.2.1 a1
  bif (ltb r1 0) then
    some (((-1),()),())
  else
    let r2:=ybB a0.2.2.2.2.2.2.2.2.1 r1
    bif (ltb r2 0) then
      some (((-1),()),())
    else
      some ((r2,()),())
theorem yWO (x:InD yop):zjH ⟨yHk,18,ySq⟩ Tryz.f13.results.toList yGY yop ytQ x=yvS x.1 x.2.1:=by kernel_rfl
theorem yTX:ConOk Tryz.prog 13 ⟨yop,ytQ,fun x=>yvS x.1 x.2.1⟩:=zkh (yQd) Tryz.func13 (by kernel_rfl) (by kernel_rfl) Tryz.ntmps13.symm (by decide) (fun x r h=>(yWO x).trans h)
def yd0 (a0:dA) (a1:Int):Int :=
  let r1:=yaD a0.2.2.1 a1
  bif (ltb r1 0) then
    (-1)
  else
    let r2:=ybB a0.2.2.2.2.2.2.2.2.1 r1
    bif (ltb r2 0) then
      (-1)
    else
      r2
def yEB:Con:=⟨yop,ytQ,fun x=>(fun n=>some ((n,()),())) (yd0 x.1 x.2.1)⟩
theorem yVQ (a0:dA) (a1:Int):yvS a0 a1=(fun n=>some ((n,()),())) (yd0 a0 a1):=zkS (p:=fun (n:Int)=>((n,()),())) (zkx (p:=fun (n:Int)=>((n,()),())) rfl (zkx (p:=fun (n:Int)=>((n,()),())) rfl rfl))
theorem yWk:ConOk Tryz.prog 13 yEB:=(yTX).mono (fun x r _ h=>(yVQ x.1 x.2.1).trans h)
theorem yX5 {l:List dW} {k:Int} (h0:0≤k) (h1:k≤1048576) (hl:l.length * 32≤2 ^ 47) (hx: ∀ x∈l,x.2.length * 8≤2 ^ 47) (h:0≤ybB l k):((l.length+(l.map (fun x:dW=>x.2.length)).sum:Nat):Int)≤k - ybB l k∧ybB l k≤k :=
  ySi (fun x hm k h0 h1 h=>by
    have:=hx x hm
    unfold ycI at h ⊢
    by_cases h2:yk x.2 k < 0
    · simp only [zjI h2,cond_true]at h; omega
    · simp only [zkm (Int.not_lt.1 h2),cond_false]at h ⊢
      have:=yDH h0 h1 (by omega) h2
      omega) h0 h1 (by omega) h
theorem yYp {a:dA} (hm:tA.Ok a) (h:ltb (yd0 a 1048576) 0=false):yfU a≤2097152:=by
  have h:0≤yd0 a 1048576:=by
    rcases Int.lt_or_le (yd0 a 1048576) 0 with h3 | h3
    · rw [zjI h3]at h; cases h
    · exact h3
  unfold yd0 at h
  by_cases c1:yaD a.2.2.1 1048576 < 0
  · simp only [zjI c1,cond_true]at h; omega
  simp only [zkm (Int.not_lt.1 c1),cond_false]at h
  have e1:=yX6 (by omega) (by omega) hm.2.2.1 (Int.not_lt.1 c1)
  by_cases c2:ybB a.2.2.2.2.2.2.2.2.1 (yaD a.2.2.1 1048576) < 0
  · simp only [zjI c2,cond_true]at h; omega
  have e2:=yX5 (Int.not_lt.1 c1) (by omega) hm.2.2.2.2.2.2.2.2.1.1 (fun x hx=>(hm.2.2.2.2.2.2.2.2.1.2 x hx).2.1) (Int.not_lt.1 c2)
  have e3:=yYk (l:=a.2.2.1)
  unfold yfU yJl
  rw [yOS (fun x:dW=>x.2.length) 1]
  omega
end
section
def yly:Code:=(Tryz.f38.body).getD .skip
def yrl:Env:=zki TT [] []
theorem yMI:FrOk Tryz.prog ⟨yrl,22,fun _=>none⟩ yly:=zkp yb yc trivial
def yCw:Nat→Option Seg:=fun _=>none
def ydv:Shape:=⟨[(0,false,[.br tI]),(3,false,[.at 800000000]),(4,false,[.int .i64])],[],[(800000000,tI,.fz)]⟩
def ykE:Shape:=⟨[(0,false,[.br tI]),(3,false,[.at 800000000]),(4,false,[.ci .i64 0])],[],[(800000000,tI,.fz)]⟩
def ykw:Shape:=⟨[(3,false,[.at 800000000])],[],[(800000000,tI,.fz)]⟩
def ykQ:Shape:=⟨[],[],[]⟩
def yqS (v0:List Int) (v1:Int) (v2:List Int):Option ((ydv).X ⊕ ((ykw).X ⊕ (ykQ).X)) :=
  bif (ltb v1 (v0.length:Int)) then
    bif (inb v1 v0.length) then
      bif (inb v1 v2.length) then
        some (.inl (((v0,()),((),()),((IntKind.i64.wrap (v1+1)),()),()),(),((v2.set (v1).toNat (nth v0 v1 0)),())))
      else none
    else none
  else
    some (.inr (.inl ((((),()),()),(),(v2,()))))
def yca (x:(ydv).X):=yqS x.1.1.1 x.1.2.2.1.1 x.2.2.1
def yy3 (x:(ykE).X):(ydv).X:=(((x.1.1.1,()),((),()),(0,()),()),(),(x.2.2.1,()))
def yAB:Code:=(zdI yly 64 116).getD .skip
theorem yL1:zdI yly 64 29=some (.block 0 (.loop yAB)):=by kernel_rfl
theorem yOJ (x:(ydv).X):zg7 ⟨yrl,22,yCw⟩ 0 yAB 116 ydv ykw ykQ x=yca x:=by kernel_rfl
def yzi (x:(ykE).X):Nat:=(fun (u0:List Int) (u1:List Int)=>18446744073709551616) x.1.1.1 x.2.2.1
def ysf (x:(ykE).X):Option ((ykw).X ⊕ (ykQ).X):=zr yca (yzi x) (yy3 x)
def yzA:Seg:=⟨ykE,ykw,ykQ,ysf⟩
def yCx:Nat→Option Seg:=fun q=>bif Nat.beq q 29 then some yzA else yCw q
theorem yMJ:FrOk Tryz.prog ⟨yrl,22,yCx⟩ yly:=(yMI).loop (sg:=yzA) ydv yy3 (by decide) yL1 yca yzi (by decide) (fun _=>rfl) (fun x r _ h=>h) yOJ
abbrev ygu:List Par:= [.rd tL]
abbrev yrL:List OT:= [⟨false,tL,(.ow .fz)⟩]
def ynJ (a0:List Int):Option (ResD yrL×MutD ygu) :=
  bif (zkc (a0.length:Int) 8) then
    zjw (ysf (((a0,()),((),()),((),()),()),(),((List.replicate ((a0.length:Int)).toNat (0:Int)),()))) (fun y0 =>
      some ((y0.2.2.1,()),())) (fun y0 =>
      none)
  else none
theorem yVl (x:InD ygu):zjH ⟨yrl,22,yCx⟩ Tryz.f38.results.toList yly ygu yrL x=ynJ x.1:=by kernel_rfl
theorem yRn:ConOk Tryz.prog 38 ⟨ygu,yrL,fun x=>ynJ x.1⟩:=zkh (yMJ) Tryz.func38 (by kernel_rfl) (by kernel_rfl) Tryz.ntmps38.symm (by decide) (fun x r h=>(yVl x).trans h)
def yY (a0:List Int):List Int:=a0
theorem yTv (a0:List Int) (hk:zi9 ygu (a0,())):ynJ a0=(fun n=>some ((n,()),())) (yY a0):=by
  have hb:a0.length * 8≤2 ^ 47:=hk.1.1
  have hs: ∀ i,i < a0.length→(a0.take i++List.replicate (a0.length - i) (0:Int)).set i (a0.getD i 0)=a0.take (i+1)++List.replicate (a0.length - (i+1)) 0:=fun i hi=>by
    have hl:(a0.take i).length=i:=by rw [List.length_take]; omega
    rw [List.set_append_right _ _ (by rw [hl]; exact Nat.le_refl _),hl,Nat.sub_self,List.take_add_one,List.append_assoc,show a0.length - i=(a0.length - (i+1))+1 by omega,List.replicate_succ]
    simp [hi]
  have hl:ysf (((a0,()),((),()),((),()),()),(),((a0.take 0++List.replicate (a0.length - 0) 0),()))=some (.inl ((((),()),()),(),(a0.take a0.length++List.replicate (a0.length - a0.length) 0,()))) :=
    zjs (step:=yca) (fun i=>(((a0,()),((),()),((i:Int),()),()),(),(a0.take i++List.replicate (a0.length - i) 0,()))) a0.length _ (fun i hi=>by
      have hL:(a0.take i++List.replicate (a0.length - i) (0:Int)).length=a0.length:=by rw [List.length_append,List.length_take,List.length_replicate]; omega
      simp only [yca,yqS,hL,zkO hi,zjW,Int.toNat_natCast,zjI (show (i:Int) < a0.length by omega),cond_true,wr (show -9223372036854775808≤(i:Int)+1 by omega) (by omega),Int.natCast_add,Int.natCast_one,hs i hi]) (by
      simp only [yca,yqS,zkm (Int.le_refl _),cond_false]) _ (by show _ < 18446744073709551616; omega)
  unfold ynJ yY
  rw [List.take_zero,List.nil_append,Nat.sub_zero]at hl
  rw [show zkc (a0.length:Int) 8=true by rw [zkH]; omega,zkY,Int.toNat_natCast,hl]
  simp [zjw]
def yh1:Con:=⟨ygu,yrL,fun x=>(fun n=>some ((n,()),())) (yY x.1)⟩
theorem ypW:ConOk Tryz.prog 38 yh1:=(yRn).mono (fun x r hk h=>(yTv x.1 hk).trans h)
theorem yS7 (a:List Int):yY a=a:=by kernel_rfl
end
section
def yjr:Code:=(Tryz.f189.body).getD .skip
def ypk:Env:=zki TT [(38,yh1)] []
theorem yKj:FrOk Tryz.prog ⟨ypk,23,fun _=>none⟩ yjr:=zkp yb yc ⟨ypW,trivial⟩
def yAg:Nat→Option Seg:=fun _=>none
def ycP:Shape:=⟨[(0,false,[.br tL]),(3,false,[.at 800000000]),(4,false,[.int .i64])],[],[(800000000,tL,(.ow .fz))]⟩
def yiD:Shape:=⟨[(0,false,[.br tL]),(3,false,[.at 800000000]),(4,false,[.ci .i64 0])],[],[(800000000,tL,(.ow .fz))]⟩
def yiw:Shape:=⟨[(3,false,[.at 800000000])],[],[(800000000,tL,(.ow .fz))]⟩
def yiR:Shape:=⟨[],[],[]⟩
def yo4 (v0:List (List Int)) (v1:Int) (v2:List (List Int)):Option ((ycP).X ⊕ ((yiw).X ⊕ (yiR).X)) :=
  bif (ltb v1 (v0.length:Int)) then
    bif (inb v1 v0.length) then
      let r2:=yY (nth v0 v1 [])
      bif (inb v1 v2.length) then
        some (.inl (((v0,()),((),()),((IntKind.i64.wrap (v1+1)),()),()),(),((v2.set (v1).toNat r2),())))
      else none
    else none
  else
    some (.inr (.inl ((((),()),()),(),(v2,()))))
def ybq (x:(ycP).X):=yo4 x.1.1.1 x.1.2.2.1.1 x.2.2.1
def ywN (x:(yiD).X):(ycP).X:=(((x.1.1.1,()),((),()),(0,()),()),(),(x.2.2.1,()))
def yyz:Code:=(zdI yjr 64 116).getD .skip
theorem yJI:zdI yjr 64 29=some (.block 0 (.loop yyz)):=by kernel_rfl
theorem yLs (x:(ycP).X):zg7 ⟨ypk,23,yAg⟩ 0 yyz 116 ycP yiw yiR x=ybq x:=by kernel_rfl
def yw6 (x:(yiD).X):Nat:=(fun (u0:List (List Int)) (u1:List (List Int))=>18446744073709551616) x.1.1.1 x.2.2.1
def yqn (x:(yiD).X):Option ((yiw).X ⊕ (yiR).X):=zr ybq (yw6 x) (ywN x)
def yxw:Seg:=⟨yiD,yiw,yiR,yqn⟩
def yAh:Nat→Option Seg:=fun q=>bif Nat.beq q 29 then some yxw else yAg q
theorem yKk:FrOk Tryz.prog ⟨ypk,23,yAh⟩ yjr:=(yKj).loop (sg:=yxw) ycP ywN (by decide) yJI ybq yw6 (by decide) (fun _=>rfl) (fun x r _ h=>h) yLs
abbrev yfp:List Par:= [.rd tLL]
abbrev ypC:List OT:= [⟨false,tLL,(.ow (.ow .fz))⟩]
def yli (a0:List (List Int)):Option (ResD ypC×MutD yfp) :=
  bif (zkc (a0.length:Int) 24) then
    zjw (yqn (((a0,()),((),()),((),()),()),(),((List.replicate ((a0.length:Int)).toNat ([]:List Int)),()))) (fun y2 =>
      some ((y2.2.2.1,()),())) (fun y2 =>
      none)
  else none
theorem yST (x:InD yfp):zjH ⟨ypk,23,yAh⟩ Tryz.f189.results.toList yjr yfp ypC x=yli x.1:=by kernel_rfl
theorem yOb:ConOk Tryz.prog 189 ⟨yfp,ypC,fun x=>yli x.1⟩:=zkh (yKk) Tryz.func189 (by kernel_rfl) (by kernel_rfl) Tryz.ntmps189.symm (by decide) (fun x r h=>(yST x).trans h)
def yft (a0:List (List Int)):List (List Int):=a0
theorem yQW (a0:List (List Int)) (hk:zi9 yfp (a0,())):yli a0=(fun n=>some ((n,()),())) (yft a0):=by
  have hb:a0.length * 24≤2 ^ 47:=hk.1.1
  have hl:yqn (((a0,()),((),()),((),()),()),(),((List.replicate a0.length ([]:List Int)),()))=some (.inl ((((),()),()),(),(a0,()))) :=
    zkj (step:=ybq) a0 ([]:List Int) (fun i m=>(((a0,()),((),()),((i:Int),()),()),(),(m,()))) (fun m=> .inl ((((),()),()),(),(m,()))) (fun i m hi hm=>by
      simp only [ybq,yo4,zkO (show i < m.length by omega),zkO hi,zjW,Int.toNat_natCast,zjI (show (i:Int) < a0.length by omega),cond_true,wr (show -9223372036854775808≤(i:Int)+1 by omega) (by omega),Int.natCast_add,Int.natCast_one,zkV,yS7]) (fun m hm=>by
      simp only [ybq,yo4,zkm (Int.le_refl _),cond_false]) _ (by show _ < 18446744073709551616; omega)
  unfold yli yft
  rw [show zkc (a0.length:Int) 24=true by rw [zkH]; omega,zkY,Int.toNat_natCast,hl]
  rfl
def yAW:Con:=⟨yfp,ypC,fun x=>(fun n=>some ((n,()),())) (yft x.1)⟩
theorem yRR:ConOk Tryz.prog 189 yAW:=(yOb).mono (fun x r hk h=>(yQW x.1 hk).trans h)
theorem yYx (a:List (List Int)):yft a=a:=by kernel_rfl
end
section
def yLB:Code:=(Tryz.f238.body).getD .skip
def yLG:Env:=zki TT [(38,yh1)] []
theorem yS4:FrOk Tryz.prog ⟨yLG,12,fun _=>none⟩ yLB:=zkp yb yc ⟨ypW,trivial⟩
def yUY:Nat→Option Seg:=fun _=>none
abbrev yq2:List Par:= [.rd tW]
abbrev yv5:List OT:= [⟨false,tW,(.pr .fz (.ow .fz))⟩]
def yxQ (a0:dW):Option (ResD yv5×MutD yq2) :=
  let r1:=yY a0.2
  some (((a0.1,r1),()),())
theorem yXy (x:InD yq2):zjH ⟨yLG,12,yUY⟩ Tryz.f238.results.toList yLB yq2 yv5 x=yxQ x.1:=by kernel_rfl
theorem yWa:ConOk Tryz.prog 238 ⟨yq2,yv5,fun x=>yxQ x.1⟩:=zkh (yS4) Tryz.func238 (by kernel_rfl) (by kernel_rfl) Tryz.ntmps238.symm (by decide) (fun x r h=>(yXy x).trans h)
def ywa (a0:dW):dW :=
  let r1:=yY a0.2
  (a0.1,r1)
def yGc:Con:=⟨yq2,yv5,fun x=>(fun n=>some ((n,()),())) (ywa x.1)⟩
theorem yXg (a0:dW):yxQ a0=(fun n=>some ((n,()),())) (ywa a0):=zkS (p:=fun (n:dW)=>((n,()),())) rfl
theorem yXl:ConOk Tryz.prog 238 yGc:=(yWa).mono (fun x r _ h=>(yXg x.1).trans h)
theorem yW7 (a:dW):ywa a=a:=by kernel_rfl
end
end
end Go.Tf
