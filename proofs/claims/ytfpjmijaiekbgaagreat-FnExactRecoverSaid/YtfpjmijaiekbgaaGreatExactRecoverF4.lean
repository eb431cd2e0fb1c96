/- Functions of the program, and what they come to. -/
import Derived.Test.YtfpjmijaiekbgaaGreatExactRecoverF3
namespace Go.Tf
noncomputable section
open Go.Proofs
set_option synthInstance.maxHeartbeats 400000
set_option synthInstance.maxSize 10000
set_option linter.unusedVariables false
set_option linter.unusedSimpArgs false
set_option maxRecDepth 100000
section
def yPN:Code:=(Tryz.f236.body).getD .skip
def yPS:Env:=zki TT [(185,yps)] []
theorem yXG:FrOk Tryz.prog ⟨yPS,12,fun _=>none⟩ yPN:=zkp yb yc ⟨yyo,trivial⟩
def yZv:Nat→Option Seg:=fun _=>none
abbrev ys4:List Par:= [.rd tW,.rd tI]
abbrev yyK:List OT:= [⟨false,tI,.fz⟩]
def yAE (a0:dW) (a1:Int):Option (ResD yyK×MutD ys4) :=
  let r1:=yo a0.2 a1
  bif (ltb r1 0) then
    some (((-1),()),())
  else
    some ((r1,()),())
theorem y1M (x:InD ys4):zjH ⟨yPS,12,yZv⟩ Tryz.f236.results.toList yPN ys4 yyK x=yAE x.1 x.2.1:=by kernel_rfl
theorem y0z:ConOk Tryz.prog 236 ⟨ys4,yyK,fun x=>yAE x.1 x.2.1⟩:=zkh (yXG) Tryz.func236 (by kernel_rfl) (by kernel_rfl) Tryz.ntmps236.symm (by decide) (fun x r h=>(y1M x).trans h)
def yen (a0:dW) (a1:Int):Int :=
  let r1:=yo a0.2 a1
  bif (ltb r1 0) then
    (-1)
  else
    r1
def yJF:Con:=⟨ys4,yyK,fun x=>(fun n=>some ((n,()),())) (yen x.1 x.2.1)⟩
theorem y1q (a0:dW) (a1:Int):yAE a0 a1=(fun n=>some ((n,()),())) (yen a0 a1):=zkS (p:=fun (n:Int)=>((n,()),())) (zkx (p:=fun (n:Int)=>((n,()),())) rfl rfl)
theorem y1x:ConOk Tryz.prog 236 yJF:=(y0z).mono (fun x r _ h=>(y1q x.1 x.2.1).trans h)
end
section
def ypZ:Code:=(Tryz.f184.body).getD .skip
def yvu:Env:=zki TT [(236,yJF)] []
theorem yUL:FrOk Tryz.prog ⟨yvu,27,fun _=>none⟩ ypZ:=zkp yb yc ⟨y1x,trivial⟩
def yHv:Nat→Option Seg:=fun _=>none
def yfa:Shape:=⟨[(0,false,[.br tW]),(1,false,[.int .i64]),(5,false,[.int .i64])],[],[]⟩
def yoT:Shape:=⟨[(0,false,[.br tW]),(1,false,[.int .i64]),(5,false,[.ci .i64 0])],[],[]⟩
def yoQ:Shape:=⟨[(1,false,[.int .i64])],[],[]⟩
def ypk:Shape:=⟨[(4,false,[.int .i64])],[],[]⟩
def yu1 (v0:List dW) (v1:Int) (v2:Int):Option ((yfa).X ⊕ ((yoQ).X ⊕ (ypk).X)) :=
  bif (ltb v2 (v0.length:Int)) then
    bif (inb v2 v0.length) then
      let r2:=yen (nth v0 v2 (0,[])) v1
      bif (ltb r2 0) then
        some (.inr (.inr ((((-1),()),()),(),())))
      else
        some (.inl (((v0,()),(r2,()),((IntKind.i64.wrap (v2+1)),()),()),(),()))
    else none
  else
    some (.inr (.inl (((v1,()),()),(),())))
def ydn (x:(yfa).X):=yu1 x.1.1.1 x.1.2.1.1 x.1.2.2.1.1
def yD7 (x:(yoT).X):(yfa).X:=(((x.1.1.1,()),(x.1.2.1.1,()),(0,()),()),(),())
def yGb:Code:=(zdI ypZ 64 244).getD .skip
theorem yTN:zdI ypZ 64 61=some (.block 0 (.loop yGb)):=by kernel_rfl
theorem yWH (x:(yfa).X):zg7 ⟨yvu,27,yHv⟩ 0 yGb 244 yfa yoQ ypk x=ydn x:=by kernel_rfl
def yEp (x:(yoT).X):Nat:=(fun (u0:List dW) (u1:Int)=>18446744073709551616) x.1.1.1 x.1.2.1.1
def yvF (x:(yoT).X):Option ((yoQ).X ⊕ (ypk).X):=zr ydn (yEp x) (yD7 x)
def yEU:Seg:=⟨yoT,yoQ,ypk,yvF⟩
def yHw:Nat→Option Seg:=fun q=>bif Nat.beq q 61 then some yEU else yHv q
theorem yUM:FrOk Tryz.prog ⟨yvu,27,yHw⟩ ypZ:=(yUL).loop (sg:=yEU) yfa yD7 (by decide) yTN ydn yEp (by decide) (fun _=>rfl) (fun x r _ h=>h) yWH
abbrev yk8:List Par:= [.rd tWs,.rd tI]
abbrev yv0:List OT:= [⟨false,tI,.fz⟩]
def yr1 (a0:List dW) (a1:Int):Option (ResD yv0×MutD yk8) :=
  bif (ltb (IntKind.i64.wrap (a1 - (a0.length:Int))) 0) then
    some (((-1),()),())
  else
    zjw (yvF (((a0,()),((IntKind.i64.wrap (a1 - (a0.length:Int))),()),((),()),()),(),())) (fun y2 =>
      some ((y2.1.1.1,()),())) (fun y2 =>
      some ((y2.1.1.1,()),()))
theorem y08 (x:InD yk8):zjH ⟨yvu,27,yHw⟩ Tryz.f184.results.toList ypZ yk8 yv0 x=yr1 x.1 x.2.1:=by kernel_rfl
theorem yYB:ConOk Tryz.prog 184 ⟨yk8,yv0,fun x=>yr1 x.1 x.2.1⟩:=zkh (yUM) Tryz.func184 (by kernel_rfl) (by kernel_rfl) Tryz.ntmps184.symm (by decide) (fun x r h=>(y08 x).trans h)
def ybV (a0:List (dW)) (a1:Int):Int:=bif ltb (IntKind.i64.wrap (a1 - (a0.length:Int))) 0 then (-1) else (szG yen a0 (IntKind.i64.wrap (a1 - (a0.length:Int)))).getD (-1)
theorem y0l (a0:List (dW)) (a1:Int) (hk:zi9 yk8 (a0,a1,())):yr1 a0 a1=(fun n=>some ((n,()),())) (ybV a0 a1):=by
  have hb:a0.length * 32≤2 ^ 47:=hk.1.1
  have hl: ∀ k:Int,yvF (((a0,()),(k,()),((),()),()),(),())=some (match szG yen a0 k with | some r=> .inl (((r,()),()),(),()) | none=> .inr ((((-1),()),()),(),())):=fun k =>
    zkG (step:=ydn) a0 ((0,[]):dW) (fun i k=>(((a0,()),(k,()),((i:Int),()),()),(),())) yen (fun r=> .inl (((r,()),()),(),())) (.inr ((((-1),()),()),(),())) (fun i s hi=>by
      simp only [ydn,yu1,zkO hi,zjW,Int.toNat_natCast,zjI (show (i:Int) < a0.length by omega),cond_true,wr (show -9223372036854775808≤(i:Int)+1 by omega) (by omega),Int.natCast_add,Int.natCast_one,zkV]
      cases ltb (yen (a0.getD i (0,[])) s) 0<;>rfl) (fun s=>by simp only [ydn,yu1,zkm (Int.le_refl _),cond_false]) k _ (by show _ < 18446744073709551616; omega)
  unfold yr1 ybV
  rw [hl]
  cases ltb (IntKind.i64.wrap (a1 - (a0.length:Int))) 0
  · cases szG yen a0 (IntKind.i64.wrap (a1 - (a0.length:Int)))<;>rfl
  · rfl
def yH1:Con:=⟨yk8,yv0,fun x=>(fun n=>some ((n,()),())) (ybV x.1 x.2.1)⟩
theorem y0L:ConOk Tryz.prog 184 yH1:=(yYB).mono (fun x r hk h=>(y0l x.1 x.2.1 hk).trans h)
end
section
def yKL:Code:=(Tryz.f108.body).getD .skip
def yK2:Env:=zki TT [(183,yDU),(184,yH1),(185,yps)] []
theorem yUK:FrOk Tryz.prog ⟨yK2,24,fun _=>none⟩ yKL:=zkp yb yc ⟨yWq,y0L,yyo,trivial⟩
def yWZ:Nat→Option Seg:=fun _=>none
abbrev yqq:List Par:= [.rd tM,.rd tI]
abbrev yvZ:List OT:= [⟨false,tI,.fz⟩]
def yyA (a0:dM) (a1:Int):Option (ResD yvZ×MutD yqq) :=
  let r1:=yW a0.1 a1
  bif (ltb r1 0) then
    some (((-1),()),())
  else
    let r2:=ybV a0.2.1 r1
    bif (ltb r2 0) then
      some (((-1),()),())
    else
      let r3:=yo a0.2.2.2 r2
      bif (ltb r3 0) then
        some (((-1),()),())
      else
        some ((r3,()),())
theorem y07 (x:InD yqq):zjH ⟨yK2,24,yWZ⟩ Tryz.f108.results.toList yKL yqq yvZ x=yyA x.1 x.2.1:=by kernel_rfl
theorem yYA:ConOk Tryz.prog 108 ⟨yqq,yvZ,fun x=>yyA x.1 x.2.1⟩:=zkh (yUK) Tryz.func108 (by kernel_rfl) (by kernel_rfl) Tryz.ntmps108.symm (by decide) (fun x r h=>(y07 x).trans h)
def yaX (a0:dM) (a1:Int):Int :=
  let r1:=yW a0.1 a1
  bif (ltb r1 0) then
    (-1)
  else
    let r2:=ybV a0.2.1 r1
    bif (ltb r2 0) then
      (-1)
    else
      let r3:=yo a0.2.2.2 r2
      bif (ltb r3 0) then
        (-1)
      else
        r3
def yH0:Con:=⟨yqq,yvZ,fun x=>(fun n=>some ((n,()),())) (yaX x.1 x.2.1)⟩
theorem y0k (a0:dM) (a1:Int):yyA a0 a1=(fun n=>some ((n,()),())) (yaX a0 a1):=zkS (p:=fun (n:Int)=>((n,()),())) (zkx (p:=fun (n:Int)=>((n,()),())) rfl (zkx (p:=fun (n:Int)=>((n,()),())) rfl (zkx (p:=fun (n:Int)=>((n,()),())) rfl rfl)))
theorem y0K:ConOk Tryz.prog 108 yH0:=(yYA).mono (fun x r _ h=>(y0k x.1 x.2.1).trans h)
end
section
def yne:Code:=(Tryz.f35.body).getD .skip
def yto:Env:=zki TT [(108,yH0)] []
theorem yQV:FrOk Tryz.prog ⟨yto,27,fun _=>none⟩ yne:=zkp yb yc ⟨y0K,trivial⟩
def yFx:Nat→Option Seg:=fun _=>none
def yd7:Shape:=⟨[(0,false,[.br tM]),(1,false,[.int .i64]),(5,false,[.int .i64])],[],[]⟩
def yl9:Shape:=⟨[(0,false,[.br tM]),(1,false,[.int .i64]),(5,false,[.ci .i64 0])],[],[]⟩
def yl3:Shape:=⟨[(1,false,[.int .i64])],[],[]⟩
def yml:Shape:=⟨[(4,false,[.int .i64])],[],[]⟩
def ysR (v0:List dM) (v1:Int) (v2:Int):Option ((yd7).X ⊕ ((yl3).X ⊕ (yml).X)) :=
  bif (ltb v2 (v0.length:Int)) then
    bif (inb v2 v0.length) then
      let r2:=yaX ((nth v0 v2 ([],[],false,[])).1,((nth v0 v2 ([],[],false,[])).2).1,(((nth v0 v2 ([],[],false,[])).2).2)) v1
      bif (ltb r2 0) then
        some (.inr (.inr ((((-1),()),()),(),())))
      else
        some (.inl (((v0,()),(r2,()),((IntKind.i64.wrap (v2+1)),()),()),(),()))
    else none
  else
    some (.inr (.inl (((v1,()),()),(),())))
def ycv (x:(yd7).X):=ysR x.1.1.1 x.1.2.1.1 x.1.2.2.1.1
def yBW (x:(yl9).X):(yd7).X:=(((x.1.1.1,()),(x.1.2.1.1,()),(0,()),()),(),())
def yDx:Code:=(zdI yne 64 244).getD .skip
theorem yQf:zdI yne 64 61=some (.block 0 (.loop yDx)):=by kernel_rfl
theorem yTa (x:(yd7).X):zg7 ⟨yto,27,yFx⟩ 0 yDx 244 yd7 yl3 yml x=ycv x:=by kernel_rfl
def yCa (x:(yl9).X):Nat:=(fun (u0:List dM) (u1:Int)=>18446744073709551616) x.1.1.1 x.1.2.1.1
def yug (x:(yl9).X):Option ((yl3).X ⊕ (yml).X):=zr ycv (yCa x) (yBW x)
def yCr:Seg:=⟨yl9,yl3,yml,yug⟩
def yFy:Nat→Option Seg:=fun q=>bif Nat.beq q 61 then some yCr else yFx q
theorem yQW:FrOk Tryz.prog ⟨yto,27,yFy⟩ yne:=(yQV).loop (sg:=yCr) yd7 yBW (by decide) yQf ycv yCa (by decide) (fun _=>rfl) (fun x r _ h=>h) yTa
abbrev yhD:List Par:= [.rd tMs,.rd tI]
abbrev ytN:List OT:= [⟨false,tI,.fz⟩]
def ypH (a0:List dM) (a1:Int):Option (ResD ytN×MutD yhD) :=
  bif (ltb (IntKind.i64.wrap (a1 - (a0.length:Int))) 0) then
    some (((-1),()),())
  else
    zjw (yug (((a0,()),((IntKind.i64.wrap (a1 - (a0.length:Int))),()),((),()),()),(),())) (fun y2 =>
      some ((y2.1.1.1,()),())) (fun y2 =>
      some ((y2.1.1.1,()),()))
theorem yZQ (x:InD yhD):zjH ⟨yto,27,yFy⟩ Tryz.f35.results.toList yne yhD ytN x=ypH x.1 x.2.1:=by kernel_rfl
theorem yVV:ConOk Tryz.prog 35 ⟨yhD,ytN,fun x=>ypH x.1 x.2.1⟩:=zkh (yQW) Tryz.func35 (by kernel_rfl) (by kernel_rfl) Tryz.ntmps35.symm (by decide) (fun x r h=>(yZQ x).trans h)
def ydz (a0:List (dM)) (a1:Int):Int:=bif ltb (IntKind.i64.wrap (a1 - (a0.length:Int))) 0 then (-1) else (szG yaX a0 (IntKind.i64.wrap (a1 - (a0.length:Int)))).getD (-1)
theorem yX7 (a0:List (dM)) (a1:Int) (hk:zi9 yhD (a0,a1,())):ypH a0 a1=(fun n=>some ((n,()),())) (ydz a0 a1):=by
  have hb:a0.length * 80≤2 ^ 47:=hk.1.1
  have hl: ∀ k:Int,yug (((a0,()),(k,()),((),()),()),(),())=some (match szG yaX a0 k with | some r=> .inl (((r,()),()),(),()) | none=> .inr ((((-1),()),()),(),())):=fun k =>
    zkG (step:=ycv) a0 (([],[],false,[]):dM) (fun i k=>(((a0,()),(k,()),((i:Int),()),()),(),())) yaX (fun r=> .inl (((r,()),()),(),())) (.inr ((((-1),()),()),(),())) (fun i s hi=>by
      simp only [ycv,ysR,zkO hi,zjW,Int.toNat_natCast,zjI (show (i:Int) < a0.length by omega),cond_true,wr (show -9223372036854775808≤(i:Int)+1 by omega) (by omega),Int.natCast_add,Int.natCast_one,zkV]
      cases ltb (yaX (a0.getD i ([],[],false,[])) s) 0<;>rfl) (fun s=>by simp only [ycv,ysR,zkm (Int.le_refl _),cond_false]) k _ (by show _ < 18446744073709551616; omega)
  unfold ypH ydz
  rw [hl]
  cases ltb (IntKind.i64.wrap (a1 - (a0.length:Int))) 0
  · cases szG yaX a0 (IntKind.i64.wrap (a1 - (a0.length:Int)))<;>rfl
  · rfl
def yGt:Con:=⟨yhD,ytN,fun x=>(fun n=>some ((n,()),())) (ydz x.1 x.2.1)⟩
theorem yYW:ConOk Tryz.prog 35 yGt:=(yVV).mono (fun x r hk h=>(yX7 x.1 x.2.1 hk).trans h)
def mSz (m:dM):Nat:=(m.1.length+(m.1.map (fun x:List Int=>x.length)).sum)+(m.2.1.length+(m.2.1.map (fun x:dW=>x.2.length)).sum)+m.2.2.2.length
theorem y2V (m:dM):ysw m≤1+mSz m:=by
  unfold ysw mSz
  rw [y1E (fun x:dW=>x.2.length) 1]
  omega
theorem y2I {l:List dW} {k:Int} (h0:0≤k) (h1:k≤1048576) (hl:l.length * 32≤2 ^ 47) (hx: ∀ x∈l,x.2.length * 8≤2 ^ 47) (h:0≤ybV l k):((l.length+(l.map (fun x:dW=>x.2.length)).sum:Nat):Int)≤k - ybV l k∧ybV l k≤k :=
  y1I (fun x hm k h0 h1 h=>by
    have:=hx x hm
    unfold yen at h ⊢
    by_cases h2:yo x.2 k < 0
    · simp only [zjI h2,cond_true]at h; omega
    · simp only [zkm (Int.not_lt.1 h2),cond_false]at h ⊢
      have:=yNc h0 h1 (by omega) h2
      omega) h0 h1 (by omega) h
theorem y2d {l:List (List Int)} {k:Int} (h0:0≤k) (h1:k≤1048576) (hl:l.length * 24≤2 ^ 47) (hx: ∀ x∈l,x.length * 8≤2 ^ 47) (h:0≤yW l k):((l.length+(l.map (fun x:List Int=>x.length)).sum:Nat):Int)≤k - yW l k∧yW l k≤k :=
  y1I (fun x hm k h0 h1 h=>by
    have:=hx x hm
    have:=yNc (a:=x) h0 h1 (by omega) (by omega)
    omega) h0 h1 (by omega) h
theorem y2H {m:dM} {k:Int} (h0:0≤k) (h1:k≤1048576) (hm:tM.Ok m) (h:0≤yaX m k):(mSz m:Int)≤k∧yaX m k≤k - mSz m:=by
  unfold yaX at h ⊢
  by_cases c1:yW m.1 k < 0
  · simp only [zjI c1,cond_true]at h; omega
  simp only [zkm (Int.not_lt.1 c1),cond_false]at h ⊢
  have e1:=y2d h0 h1 hm.1.1 (fun x hx=>(hm.1.2 x hx).1) (Int.not_lt.1 c1)
  by_cases c2:ybV m.2.1 (yW m.1 k) < 0
  · simp only [zjI c2,cond_true]at h; omega
  simp only [zkm (Int.not_lt.1 c2),cond_false]at h ⊢
  have e2:=y2I (Int.not_lt.1 c1) (by omega) hm.2.1.1 (fun x hx=>(hm.2.1.2 x hx).2.1) (Int.not_lt.1 c2)
  by_cases c3:yo m.2.2.2 (ybV m.2.1 (yW m.1 k)) < 0
  · simp only [zjI c3,cond_true]at h; omega
  simp only [zkm (Int.not_lt.1 c3),cond_false]at h ⊢
  have e3:=yNc (a:=m.2.2.2) (Int.not_lt.1 c2) (by omega) (by have:m.2.2.2.length * 8≤2 ^ 47:=hm.2.2.2.1; omega) c3
  unfold mSz
  omega
theorem y2n {l:List dM} {k:Int} (h0:0≤k) (h1:k≤1048576) (hm:tMs.Ok l) (h:0≤ydz l k):((l.length+(l.map mSz).sum:Nat):Int)≤k - ydz l k∧ydz l k≤k :=
  y1I (fun x hx k h0 h1 h=>y2H h0 h1 (hm.2 x hx) h) h0 h1 (by have:l.length * 80≤2 ^ 47:=hm.1; omega) h
theorem y2B {l:List dM}:ykh l≤l.length+(l.map mSz).sum:=by
  unfold ykh
  induction l with
  | nil=>simp
  | cons x l ih =>
    simp only [List.map_cons,List.sum_cons,List.length_cons]
    have:=y2V x
    omega
theorem y2i {α:Type} {f:α→Nat} {x:α}: ∀ {l:List α},x∈l→f x≤(l.map f).sum
  | y::l,h=>by
    rw [List.map_cons,List.sum_cons]
    rcases List.mem_cons.1 h with rfl | h
    · omega
    · have:=y2i (f:=f) h; omega
end
section
def ydw:Code:=(Tryz.f147.body).getD .skip
def yht:Env:=zki TT [] [(21056,.fz),(21120,.fz),(37952,(.pr .fz .fz)),(38016,(.pr .fz .fz))]
theorem yQ8:FrOk Tryz.prog ⟨yht,60,fun _=>none⟩ ydw:=zkp yb yc trivial
def yFD:Nat→Option Seg:=fun _=>none
def yb3:Shape:=⟨[(1,false,[.ptr 0 0]),(2,false,[.ptr 64 0]),(3,false,[.ptr 4544 0]),(4,false,[.int .i64])],[(0,[.br tL,.br tW,.bool,.br tI]),(64,[.nil,.nil,.bool,.nil]),(4544,[.at 800000001,.nil,.bool,.at 800000000])],[(800000001,tL,.fz),(800000000,tI,.fz)]⟩
def ygM:Shape:=⟨[(1,false,[.ptr 0 0]),(2,false,[.ptr 64 0]),(3,false,[.ptr 4544 0]),(4,false,[.ci .i64 0])],[(0,[.br tL,.br tW,.bool,.br tI]),(64,[.nil,.nil,.bool,.nil]),(4544,[.at 800000001,.nil,.bool,.at 800000000])],[(800000001,tL,.fz),(800000000,tI,.fz)]⟩
def ygE:Shape:=⟨[(1,false,[.ptr 0 0]),(2,false,[.ptr 64 0]),(3,false,[.ptr 4544 0])],[(0,[.br tL,.br tW,.bool,.br tI]),(64,[.nil,.nil,.bool,.nil]),(4544,[.at 800000000,.nil,.bool,.at 800000001])],[(800000000,tL,.fz),(800000001,tI,.fz)]⟩
def ymo:Shape:=⟨[],[],[]⟩
abbrev ysz (v0:Int) (v1:dM) (v2:dM) (v3:dM):(yb3).X:=((((),()),((),()),((),()),(v0,()),()),((v1.1,v1.2.1,v1.2.2.1,v1.2.2.2,()),((),(),v2.2.2.1,(),()),((),(),v3.2.2.1,(),()),()),(v3.1,v3.2.2.2,()))
abbrev yOE (v0:dM) (v1:dM) (v2:dM):(ygM).X:=((((),()),((),()),((),()),((),()),()),((v0.1,v0.2.1,v0.2.2.1,v0.2.2.2,()),((),(),v1.2.2.1,(),()),((),(),v2.2.2.1,(),()),()),(v2.1,v2.2.2.2,()))
abbrev yCk (v0:dM) (v1:dM) (v2:dM):(ygE).X:=((((),()),((),()),((),()),()),((v0.1,v0.2.1,v0.2.2.1,v0.2.2.2,()),((),(),v1.2.2.1,(),()),((),(),v2.2.2.1,(),()),()),(v2.1,v2.2.2.2,()))
def ysV (v0:Int) (v1:List (List Int)) (v2:List dW) (v3:Bool) (v4:List Int) (v5:Bool) (v6:Bool) (v7:List (List Int)) (v8:List Int):Option ((yb3).X ⊕ ((ygE).X ⊕ (ymo).X)) :=
  bif (ltb v0 (v1.length:Int)) then
    bif (inb v0 v1.length) then
      bif (zj4 ([]:List Int).length (nth v1 v0 []).length 8) then
        bif (zj4 v7.length ([(([]:List Int)++(nth v1 v0 []))]:List (List Int)).length 24) then
          some (.inl ((((),()),((),()),((),()),((IntKind.i64.wrap (v0+1)),()),()),((v1,v2,v3,v4,()),((),(),v5,(),()),((),(),v6,(),()),()),((v7++([(([]:List Int)++(nth v1 v0 []))]:List (List Int))),v8,())))
        else none
      else none
    else none
  else
    some (.inr (.inl ((((),()),((),()),((),()),()),((v1,v2,v3,v4,()),((),(),v5,(),()),((),(),v6,(),()),()),(v7,v8,()))))
def ycz (x:(yb3).X):=ysV x.1.2.2.2.1.1 x.2.1.1.1 x.2.1.1.2.1 x.2.1.1.2.2.1 x.2.1.1.2.2.2.1 x.2.1.2.1.2.2.1 x.2.1.2.2.1.2.2.1 x.2.2.1 x.2.2.2.1
def yB0 (x:(ygM).X):(yb3).X:=((((),()),((),()),((),()),(0,()),()),((x.2.1.1.1,x.2.1.1.2.1,x.2.1.1.2.2.1,x.2.1.1.2.2.2.1,()),((),(),x.2.1.2.1.2.2.1,(),()),((),(),x.2.1.2.2.1.2.2.1,(),()),()),(x.2.2.1,x.2.2.2.1,()))
def yDB:Code:=(zdI ydw 64 116).getD .skip
theorem yQj:zdI ydw 64 29=some (.block 0 (.loop yDB)):=by kernel_rfl
theorem yTe (x:(yb3).X):zg7 ⟨yht,60,yFD⟩ 0 yDB 116 yb3 ygE ymo x=ycz x:=by kernel_rfl
def yCe (x:(ygM).X):Nat:=(fun (u0:List (List Int)) (u1:List dW) (u2:Bool) (u3:List Int) (u4:Bool) (u5:Bool) (u6:List (List Int)) (u7:List Int)=>18446744073709551616) x.2.1.1.1 x.2.1.1.2.1 x.2.1.1.2.2.1 x.2.1.1.2.2.2.1 x.2.1.2.1.2.2.1 x.2.1.2.2.1.2.2.1 x.2.2.1 x.2.2.2.1
def yuk (x:(ygM).X):Option ((ygE).X ⊕ (ymo).X):=zr ycz (yCe x) (yB0 x)
def yCv:Seg:=⟨ygM,ygE,ymo,yuk⟩
def yvp:Nat→Option Seg:=fun q=>bif Nat.beq q 29 then some yCv else yFD q
theorem yQ9:FrOk Tryz.prog ⟨yht,60,yvp⟩ ydw:=(yQ8).loop (sg:=yCv) yb3 yB0 (by decide) yQj ycz yCe (by decide) (fun _=>rfl) (fun x r _ h=>h) yTe
def yb4:Shape:=⟨[(1,false,[.ptr 0 0]),(2,false,[.ptr 64 0]),(3,false,[.ptr 4544 0]),(5,false,[.int .i64])],[(0,[.br tL,.br tW,.bool,.br tI]),(64,[.nil,.nil,.bool,.nil]),(4544,[.at 800000000,.at 800000002,.bool,.at 800000001])],[(800000000,tL,.fz),(800000002,tW,(.pr .fz .fz)),(800000001,tI,.fz)]⟩
def ygN:Shape:=⟨[(1,false,[.ptr 0 0]),(2,false,[.ptr 64 0]),(3,false,[.ptr 4544 0]),(5,false,[.ci .i64 0])],[(0,[.br tL,.br tW,.bool,.br tI]),(64,[.nil,.nil,.bool,.nil]),(4544,[.at 800000000,.at 800000002,.bool,.at 800000001])],[(800000000,tL,.fz),(800000002,tW,(.pr .fz .fz)),(800000001,tI,.fz)]⟩
def ygF:Shape:=⟨[(2,false,[.ptr 64 0]),(3,false,[.ptr 4544 0])],[(64,[.nil,.nil,.bool,.nil]),(4544,[.at 800000000,.at 800000001,.bool,.at 800000002])],[(800000000,tL,.fz),(800000001,tW,(.pr .fz .fz)),(800000002,tI,.fz)]⟩
def ymp:Shape:=⟨[],[],[]⟩
abbrev ysA (v0:Int) (v1:dM) (v2:dM) (v3:dM):(yb4).X:=((((),()),((),()),((),()),(v0,()),()),((v1.1,v1.2.1,v1.2.2.1,v1.2.2.2,()),((),(),v2.2.2.1,(),()),((),(),v3.2.2.1,(),()),()),(v3.1,v3.2.1,v3.2.2.2,()))
abbrev yOF (v0:dM) (v1:dM) (v2:dM):(ygN).X:=((((),()),((),()),((),()),((),()),()),((v0.1,v0.2.1,v0.2.2.1,v0.2.2.2,()),((),(),v1.2.2.1,(),()),((),(),v2.2.2.1,(),()),()),(v2.1,v2.2.1,v2.2.2.2,()))
abbrev yCl (v0:dM) (v1:dM):(ygF).X:=((((),()),((),()),()),(((),(),v0.2.2.1,(),()),((),(),v1.2.2.1,(),()),()),(v1.1,v1.2.1,v1.2.2.2,()))
def ysW (v0:Int) (v1:List (List Int)) (v2:List dW) (v3:Bool) (v4:List Int) (v5:Bool) (v6:Bool) (v7:List (List Int)) (v8:List dW) (v9:List Int):Option ((yb4).X ⊕ ((ygF).X ⊕ (ymp).X)) :=
  bif (ltb v0 (v2.length:Int)) then
    bif (inb v0 v2.length) then
      bif (inb v0 v2.length) then
        bif (zj4 ([]:List Int).length ((nth v2 v0 (0,[])).2).length 8) then
          bif (zj4 v8.length ([((nth v2 v0 (0,[])).1,(([]:List Int)++((nth v2 v0 (0,[])).2)))]:List dW).length 32) then
            some (.inl ((((),()),((),()),((),()),((IntKind.i64.wrap (v0+1)),()),()),((v1,v2,v3,v4,()),((),(),v5,(),()),((),(),v6,(),()),()),(v7,(v8++([((nth v2 v0 (0,[])).1,(([]:List Int)++((nth v2 v0 (0,[])).2)))]:List dW)),v9,())))
          else none
        else none
      else none
    else none
  else
    some (.inr (.inl ((((),()),((),()),()),(((),(),v5,(),()),((),(),v6,(),()),()),(v7,v8,v9,()))))
def ycA (x:(yb4).X):=ysW x.1.2.2.2.1.1 x.2.1.1.1 x.2.1.1.2.1 x.2.1.1.2.2.1 x.2.1.1.2.2.2.1 x.2.1.2.1.2.2.1 x.2.1.2.2.1.2.2.1 x.2.2.1 x.2.2.2.1 x.2.2.2.2.1
def yB1 (x:(ygN).X):(yb4).X:=((((),()),((),()),((),()),(0,()),()),((x.2.1.1.1,x.2.1.1.2.1,x.2.1.1.2.2.1,x.2.1.1.2.2.2.1,()),((),(),x.2.1.2.1.2.2.1,(),()),((),(),x.2.1.2.2.1.2.2.1,(),()),()),(x.2.2.1,x.2.2.2.1,x.2.2.2.2.1,()))
def yDC:Code:=(zdI ydw 64 244).getD .skip
theorem yQk:zdI ydw 64 61=some (.block 2 (.loop yDC)):=by kernel_rfl
theorem yTf (x:(yb4).X):zg7 ⟨yht,60,yvp⟩ 2 yDC 244 yb4 ygF ymp x=ycA x:=by kernel_rfl
def yCf (x:(ygN).X):Nat:=(fun (u0:List (List Int)) (u1:List dW) (u2:Bool) (u3:List Int) (u4:Bool) (u5:Bool) (u6:List (List Int)) (u7:List dW) (u8:List Int)=>18446744073709551616) x.2.1.1.1 x.2.1.1.2.1 x.2.1.1.2.2.1 x.2.1.1.2.2.2.1 x.2.1.2.1.2.2.1 x.2.1.2.2.1.2.2.1 x.2.2.1 x.2.2.2.1 x.2.2.2.2.1
def yul (x:(ygN).X):Option ((ygF).X ⊕ (ymp).X):=zr ycA (yCf x) (yB1 x)
def yCw:Seg:=⟨ygN,ygF,ymp,yul⟩
def yFE:Nat→Option Seg:=fun q=>bif Nat.beq q 61 then some yCw else yvp q
theorem yRa:FrOk Tryz.prog ⟨yht,60,yFE⟩ ydw:=(yQ9).loop (sg:=yCw) yb4 yB1 (by decide) yQk ycA yCf (by decide) (fun _=>rfl) (fun x r _ h=>h) yTf
abbrev yhK:List Par:= [.rd tM]
abbrev ytX:List OT:= [⟨false,tM,(.pr (.ow .fz) (.pr (.ow (.pr .fz .fz)) (.pr .fz (.ow .fz))))⟩]
def ypO (a0:dM):Option (ResD ytX×MutD yhK) :=
  bif (zj4 ([]:List Int).length a0.2.2.2.length 8) then
    zjw (yuk ((((),()),((),()),((),()),((),()),()),((a0.1,a0.2.1,a0.2.2.1,a0.2.2.2,()),((),(),false,(),()),((),(),a0.2.2.1,(),()),()),([],(([]:List Int)++a0.2.2.2),()))) (fun y0 =>
      zjw (yul ((((),()),((),()),((),()),((),()),()),((y0.2.1.1.1,y0.2.1.1.2.1,y0.2.1.1.2.2.1,y0.2.1.1.2.2.2.1,()),((),(),y0.2.1.2.1.2.2.1,(),()),((),(),y0.2.1.2.2.1.2.2.1,(),()),()),(y0.2.2.1,[],y0.2.2.2.1,()))) (fun y1 =>
        some (((y1.2.2.1,y1.2.2.2.1,y1.2.1.2.1.2.2.1,y1.2.2.2.2.1),()),())) (fun y1 =>
        none)) (fun y0 =>
      none)
  else none
theorem yZ0 (x:InD yhK):zjH ⟨yht,60,yFE⟩ Tryz.f147.results.toList ydw yhK ytX x=ypO x.1:=by kernel_rfl
theorem yV5:ConOk Tryz.prog 147 ⟨yhK,ytX,fun x=>ypO x.1⟩:=zkh (yRa) Tryz.func147 (by kernel_rfl) (by kernel_rfl) Tryz.ntmps147.symm (by decide) (fun x r h=>(yZ0 x).trans h)
def yK (a0:dM):dM:=a0
theorem yYh (a0:dM) (hk:zi9 yhK (a0,())):ypO a0=(fun n=>some ((n,()),())) (yK a0):=by
  have hb1:a0.1.length * 24≤2 ^ 47:=hk.1.1.1
  have hb2:a0.2.1.length * 32≤2 ^ 47:=hk.1.2.1.1
  have hb3:a0.2.2.2.length * 8≤2 ^ 47:=hk.1.2.2.2.1
  have hs: ∀ i,i < a0.1.length→(a0.1.getD i []).length * 8≤2 ^ 47:=fun i hi=>by rw [zcq hi]; exact (hk.1.1.2 _ (List.getElem_mem hi)).1
  have hc: ∀ i,i < a0.2.1.length→(a0.2.1.getD i (0,[])).2.length * 8≤2 ^ 47:=fun i hi=>by rw [zcq hi]; exact (hk.1.2.1.2 _ (List.getElem_mem hi)).2.1
  have h1:yuk (yOE a0 yf ([],[],a0.2.2.1,a0.2.2.2))=some (.inl (yCk a0 yf (a0.1,[],a0.2.2.1,a0.2.2.2))):=by
    have:=zkk (step:=ycz) a0.1 [] (fun i s=>ysz i a0 yf (s,[],a0.2.2.1,a0.2.2.2)) (fun s x=>s++ [x]) (fun i s=>s.length=i) (fun s=> .inl (yCk a0 yf (s,[],a0.2.2.1,a0.2.2.2))) (fun i s hi hs2=>⟨by
      have:=hs i hi
      simp only [ycz,ysz,ysV,zjI (show (i:Int) < a0.1.length by omega),cond_true,wr (show -9223372036854775808≤(i:Int)+1 by omega) (by omega),Int.natCast_add,Int.natCast_one,Int.toNat_natCast,zkO hi,zjW,List.nil_append]
      rw [zkw.2 (show (([]:List Int).length+(a0.1.getD i []).length) * 8≤140737488355328 by rw [List.length_nil]; omega),zkw.2 (show (s.length+ [a0.1.getD i []].length) * 24≤140737488355328 by simp only [List.length_cons,List.length_nil]; omega)]; rfl,by simp [hs2]⟩) (fun s _=>by simp only [ycz,ysz,ysV,zkm (Int.le_refl _),cond_false]) [] rfl 18446744073709551616 (by omega)
    rw [yux]at this
    exact this
  have h2:yul (yOF a0 yf (a0.1,[],a0.2.2.1,a0.2.2.2))=some (.inl (yCl yf a0)):=by
    have:=zkk (step:=ycA) a0.2.1 (0,[]) (fun i s=>ysA i a0 yf (a0.1,s,a0.2.2.1,a0.2.2.2)) (fun s x=>s++ [x]) (fun i s=>s.length=i) (fun s=> .inl (yCl yf (a0.1,s,a0.2.2.1,a0.2.2.2))) (fun i s hi hs2=>⟨by
      have:=hc i hi
      simp only [ycA,ysA,ysW,zjI (show (i:Int) < a0.2.1.length by omega),cond_true,wr (show -9223372036854775808≤(i:Int)+1 by omega) (by omega),Int.natCast_add,Int.natCast_one,Int.toNat_natCast,zkO hi,zjW,List.nil_append,zkV]
      rw [zkw.2 (show (([]:List Int).length+(a0.2.1.getD i (0,[])).2.length) * 8≤140737488355328 by rw [List.length_nil]; omega),zkw.2 (show (s.length+ [a0.2.1.getD i (0,[])].length) * 32≤140737488355328 by simp only [List.length_cons,List.length_nil]; omega)]; rfl,by simp [hs2]⟩) (fun s _=>by simp only [ycA,ysA,ysW,zkm (Int.le_refl _),cond_false]) [] rfl 18446744073709551616 (by omega)
    rw [yux]at this
    exact this
  unfold ypO yK
  rw [zkw.2 (show (([]:List Int).length+a0.2.2.2.length) * 8≤140737488355328 by rw [List.length_nil]; omega)]
  simp only [cond_true,List.nil_append,h1,zkJ,h2]
def yff:Con:=⟨yhK,ytX,fun x=>(fun n=>some ((n,()),())) (yK x.1)⟩
theorem ylM:ConOk Tryz.prog 147 yff:=(yV5).mono (fun x r hk h=>(yYh x.1 hk).trans h)
end
section
def ydx:Code:=(Tryz.f73.body).getD .skip
def yhu:Env:=zki TT [(147,yff)] [(8192,(.pr (.ow .fz) (.pr (.ow (.pr .fz .fz)) (.pr .fz (.ow .fz))))),(25088,(.pr (.ow .fz) (.pr (.ow (.pr .fz .fz)) (.pr .fz (.ow .fz))))),(28672,(.pr .fz .fz)),(46144,(.pr .fz .fz))]
theorem yRb:FrOk Tryz.prog ⟨yhu,57,fun _=>none⟩ ydx:=zkp yb yc ⟨ylM,trivial⟩
def yFF:Nat→Option Seg:=fun _=>none
def yb5:Shape:=⟨[(1,false,[.ptr 0 0]),(2,false,[.ptr 64 0]),(3,false,[.ptr 4160 0]),(4,false,[.int .i64])],[(0,[.int .i64,.int .i64,.int .i64,.br tM,.int .i64,.int .i64,.int .i64,.int .i64,.int .i64,.br tW,.int .i64,.bool,.bool]),(64,[.int .i64,.int .i64,.int .i64,.nil,.int .i64,.int .i64,.int .i64,.int .i64,.int .i64,.nil,.int .i64,.bool,.bool]),(4160,[.int .i64,.int .i64,.int .i64,.at 800000000,.int .i64,.int .i64,.int .i64,.int .i64,.int .i64,.br tW,.int .i64,.bool,.bool])],[(800000000,tM,(.pr (.ow .fz) (.pr (.ow (.pr .fz .fz)) (.pr .fz (.ow .fz)))))]⟩
def ygO:Shape:=⟨[(1,false,[.ptr 0 0]),(2,false,[.ptr 64 0]),(3,false,[.ptr 4160 0]),(4,false,[.ci .i64 0])],[(0,[.int .i64,.int .i64,.int .i64,.br tM,.int .i64,.int .i64,.int .i64,.int .i64,.int .i64,.br tW,.int .i64,.bool,.bool]),(64,[.int .i64,.int .i64,.int .i64,.nil,.int .i64,.int .i64,.int .i64,.int .i64,.int .i64,.nil,.int .i64,.bool,.bool]),(4160,[.int .i64,.int .i64,.int .i64,.at 800000000,.int .i64,.int .i64,.int .i64,.int .i64,.int .i64,.br tW,.int .i64,.bool,.bool])],[(800000000,tM,(.pr (.ow .fz) (.pr (.ow (.pr .fz .fz)) (.pr .fz (.ow .fz)))))]⟩
def ygG:Shape:=⟨[(1,false,[.ptr 0 0]),(2,false,[.ptr 64 0]),(3,false,[.ptr 4160 0])],[(0,[.int .i64,.int .i64,.int .i64,.br tM,.int .i64,.int .i64,.int .i64,.int .i64,.int .i64,.br tW,.int .i64,.bool,.bool]),(64,[.int .i64,.int .i64,.int .i64,.nil,.int .i64,.int .i64,.int .i64,.int .i64,.int .i64,.nil,.int .i64,.bool,.bool]),(4160,[.int .i64,.int .i64,.int .i64,.at 800000000,.int .i64,.int .i64,.int .i64,.int .i64,.int .i64,.br tW,.int .i64,.bool,.bool])],[(800000000,tM,(.pr (.ow .fz) (.pr (.ow (.pr .fz .fz)) (.pr .fz (.ow .fz)))))]⟩
def ymq:Shape:=⟨[],[],[]⟩
abbrev ysB (v0:Int) (v1:dA) (v2:dA) (v3:dA):(yb5).X:=((((),()),((),()),((),()),(v0,()),()),((v1.1,v1.2.1.1,v1.2.1.2,v1.2.2.1,v1.2.2.2.1,v1.2.2.2.2.1,v1.2.2.2.2.2.1,v1.2.2.2.2.2.2.1,v1.2.2.2.2.2.2.2.1,v1.2.2.2.2.2.2.2.2.1,v1.2.2.2.2.2.2.2.2.2.1,v1.2.2.2.2.2.2.2.2.2.2.1,v1.2.2.2.2.2.2.2.2.2.2.2,()),(v2.1,v2.2.1.1,v2.2.1.2,(),v2.2.2.2.1,v2.2.2.2.2.1,v2.2.2.2.2.2.1,v2.2.2.2.2.2.2.1,v2.2.2.2.2.2.2.2.1,(),v2.2.2.2.2.2.2.2.2.2.1,v2.2.2.2.2.2.2.2.2.2.2.1,v2.2.2.2.2.2.2.2.2.2.2.2,()),(v3.1,v3.2.1.1,v3.2.1.2,(),v3.2.2.2.1,v3.2.2.2.2.1,v3.2.2.2.2.2.1,v3.2.2.2.2.2.2.1,v3.2.2.2.2.2.2.2.1,v3.2.2.2.2.2.2.2.2.1,v3.2.2.2.2.2.2.2.2.2.1,v3.2.2.2.2.2.2.2.2.2.2.1,v3.2.2.2.2.2.2.2.2.2.2.2,()),()),(v3.2.2.1,()))
abbrev yOG (v0:dA) (v1:dA) (v2:dA):(ygO).X:=((((),()),((),()),((),()),((),()),()),((v0.1,v0.2.1.1,v0.2.1.2,v0.2.2.1,v0.2.2.2.1,v0.2.2.2.2.1,v0.2.2.2.2.2.1,v0.2.2.2.2.2.2.1,v0.2.2.2.2.2.2.2.1,v0.2.2.2.2.2.2.2.2.1,v0.2.2.2.2.2.2.2.2.2.1,v0.2.2.2.2.2.2.2.2.2.2.1,v0.2.2.2.2.2.2.2.2.2.2.2,()),(v1.1,v1.2.1.1,v1.2.1.2,(),v1.2.2.2.1,v1.2.2.2.2.1,v1.2.2.2.2.2.1,v1.2.2.2.2.2.2.1,v1.2.2.2.2.2.2.2.1,(),v1.2.2.2.2.2.2.2.2.2.1,v1.2.2.2.2.2.2.2.2.2.2.1,v1.2.2.2.2.2.2.2.2.2.2.2,()),(v2.1,v2.2.1.1,v2.2.1.2,(),v2.2.2.2.1,v2.2.2.2.2.1,v2.2.2.2.2.2.1,v2.2.2.2.2.2.2.1,v2.2.2.2.2.2.2.2.1,v2.2.2.2.2.2.2.2.2.1,v2.2.2.2.2.2.2.2.2.2.1,v2.2.2.2.2.2.2.2.2.2.2.1,v2.2.2.2.2.2.2.2.2.2.2.2,()),()),(v2.2.2.1,()))
abbrev yOz (v0:dA) (v1:dA) (v2:dA):(ygG).X:=((((),()),((),()),((),()),()),((v0.1,v0.2.1.1,v0.2.1.2,v0.2.2.1,v0.2.2.2.1,v0.2.2.2.2.1,v0.2.2.2.2.2.1,v0.2.2.2.2.2.2.1,v0.2.2.2.2.2.2.2.1,v0.2.2.2.2.2.2.2.2.1,v0.2.2.2.2.2.2.2.2.2.1,v0.2.2.2.2.2.2.2.2.2.2.1,v0.2.2.2.2.2.2.2.2.2.2.2,()),(v1.1,v1.2.1.1,v1.2.1.2,(),v1.2.2.2.1,v1.2.2.2.2.1,v1.2.2.2.2.2.1,v1.2.2.2.2.2.2.1,v1.2.2.2.2.2.2.2.1,(),v1.2.2.2.2.2.2.2.2.2.1,v1.2.2.2.2.2.2.2.2.2.2.1,v1.2.2.2.2.2.2.2.2.2.2.2,()),(v2.1,v2.2.1.1,v2.2.1.2,(),v2.2.2.2.1,v2.2.2.2.2.1,v2.2.2.2.2.2.1,v2.2.2.2.2.2.2.1,v2.2.2.2.2.2.2.2.1,v2.2.2.2.2.2.2.2.2.1,v2.2.2.2.2.2.2.2.2.2.1,v2.2.2.2.2.2.2.2.2.2.2.1,v2.2.2.2.2.2.2.2.2.2.2.2,()),()),(v2.2.2.1,()))
def ysX (v0:Int) (v1:Int) (v2:Int) (v3:Int) (v4:List dM) (v5:Int) (v6:Int) (v7:Int) (v8:Int) (v9:Int) (v10:List dW) (v11:Int) (v12:Bool) (v13:Bool) (v14:Int) (v15:Int) (v16:Int) (v17:Int) (v18:Int) (v19:Int) (v20:Int) (v21:Int) (v22:Int) (v23:Bool) (v24:Bool) (v25:Int) (v26:Int) (v27:Int) (v28:Int) (v29:Int) (v30:Int) (v31:Int) (v32:Int) (v33:List dW) (v34:Int) (v35:Bool) (v36:Bool) (v37:List dM):Option ((yb5).X ⊕ ((ygG).X ⊕ (ymq).X)) :=
  bif (ltb v0 (v4.length:Int)) then
    bif (inb v0 v4.length) then
      let r2:=yK ((nth v4 v0 ([],[],false,[])).1,((nth v4 v0 ([],[],false,[])).2).1,(((nth v4 v0 ([],[],false,[])).2).2))
      bif (zj4 v37.length ([r2]:List dM).length 80) then
        some (.inl ((((),()),((),()),((),()),((IntKind.i64.wrap (v0+1)),()),()),((v1,v2,v3,v4,v5,v6,v7,v8,v9,v10,v11,v12,v13,()),(v14,v15,v16,(),v17,v18,v19,v20,v21,(),v22,v23,v24,()),(v25,v26,v27,(),v28,v29,v30,v31,v32,v33,v34,v35,v36,()),()),((v37++([r2]:List dM)),())))
      else none
    else none
  else
    some (.inr (.inl ((((),()),((),()),((),()),()),((v1,v2,v3,v4,v5,v6,v7,v8,v9,v10,v11,v12,v13,()),(v14,v15,v16,(),v17,v18,v19,v20,v21,(),v22,v23,v24,()),(v25,v26,v27,(),v28,v29,v30,v31,v32,v33,v34,v35,v36,()),()),(v37,()))))
def ycB (x:(yb5).X):=ysX x.1.2.2.2.1.1 x.2.1.1.1 x.2.1.1.2.1 x.2.1.1.2.2.1 x.2.1.1.2.2.2.1 x.2.1.1.2.2.2.2.1 x.2.1.1.2.2.2.2.2.1 x.2.1.1.2.2.2.2.2.2.1 x.2.1.1.2.2.2.2.2.2.2.1 x.2.1.1.2.2.2.2.2.2.2.2.1 x.2.1.1.2.2.2.2.2.2.2.2.2.1 x.2.1.1.2.2.2.2.2.2.2.2.2.2.1 x.2.1.1.2.2.2.2.2.2.2.2.2.2.2.1 x.2.1.1.2.2.2.2.2.2.2.2.2.2.2.2.1 x.2.1.2.1.1 x.2.1.2.1.2.1 x.2.1.2.1.2.2.1 x.2.1.2.1.2.2.2.2.1 x.2.1.2.1.2.2.2.2.2.1 x.2.1.2.1.2.2.2.2.2.2.1 x.2.1.2.1.2.2.2.2.2.2.2.1 x.2.1.2.1.2.2.2.2.2.2.2.2.1 x.2.1.2.1.2.2.2.2.2.2.2.2.2.2.1 x.2.1.2.1.2.2.2.2.2.2.2.2.2.2.2.1 x.2.1.2.1.2.2.2.2.2.2.2.2.2.2.2.2.1 x.2.1.2.2.1.1 x.2.1.2.2.1.2.1 x.2.1.2.2.1.2.2.1 x.2.1.2.2.1.2.2.2.2.1 x.2.1.2.2.1.2.2.2.2.2.1 x.2.1.2.2.1.2.2.2.2.2.2.1 x.2.1.2.2.1.2.2.2.2.2.2.2.1 x.2.1.2.2.1.2.2.2.2.2.2.2.2.1 x.2.1.2.2.1.2.2.2.2.2.2.2.2.2.1 x.2.1.2.2.1.2.2.2.2.2.2.2.2.2.2.1 x.2.1.2.2.1.2.2.2.2.2.2.2.2.2.2.2.1 x.2.1.2.2.1.2.2.2.2.2.2.2.2.2.2.2.2.1 x.2.2.1
def yB2 (x:(ygO).X):(yb5).X:=((((),()),((),()),((),()),(0,()),()),((x.2.1.1.1,x.2.1.1.2.1,x.2.1.1.2.2.1,x.2.1.1.2.2.2.1,x.2.1.1.2.2.2.2.1,x.2.1.1.2.2.2.2.2.1,x.2.1.1.2.2.2.2.2.2.1,x.2.1.1.2.2.2.2.2.2.2.1,x.2.1.1.2.2.2.2.2.2.2.2.1,x.2.1.1.2.2.2.2.2.2.2.2.2.1,x.2.1.1.2.2.2.2.2.2.2.2.2.2.1,x.2.1.1.2.2.2.2.2.2.2.2.2.2.2.1,x.2.1.1.2.2.2.2.2.2.2.2.2.2.2.2.1,()),(x.2.1.2.1.1,x.2.1.2.1.2.1,x.2.1.2.1.2.2.1,(),x.2.1.2.1.2.2.2.2.1,x.2.1.2.1.2.2.2.2.2.1,x.2.1.2.1.2.2.2.2.2.2.1,x.2.1.2.1.2.2.2.2.2.2.2.1,x.2.1.2.1.2.2.2.2.2.2.2.2.1,(),x.2.1.2.1.2.2.2.2.2.2.2.2.2.2.1,x.2.1.2.1.2.2.2.2.2.2.2.2.2.2.2.1,x.2.1.2.1.2.2.2.2.2.2.2.2.2.2.2.2.1,()),(x.2.1.2.2.1.1,x.2.1.2.2.1.2.1,x.2.1.2.2.1.2.2.1,(),x.2.1.2.2.1.2.2.2.2.1,x.2.1.2.2.1.2.2.2.2.2.1,x.2.1.2.2.1.2.2.2.2.2.2.1,x.2.1.2.2.1.2.2.2.2.2.2.2.1,x.2.1.2.2.1.2.2.2.2.2.2.2.2.1,x.2.1.2.2.1.2.2.2.2.2.2.2.2.2.1,x.2.1.2.2.1.2.2.2.2.2.2.2.2.2.2.1,x.2.1.2.2.1.2.2.2.2.2.2.2.2.2.2.2.1,x.2.1.2.2.1.2.2.2.2.2.2.2.2.2.2.2.2.1,()),()),(x.2.2.1,()))
def yDD:Code:=(zdI ydx 64 244).getD .skip
theorem yQl:zdI ydx 64 61=some (.block 0 (.loop yDD)):=by kernel_rfl
theorem yTg (x:(yb5).X):zg7 ⟨yhu,57,yFF⟩ 0 yDD 244 yb5 ygG ymq x=ycB x:=by kernel_rfl
def yCg (x:(ygO).X):Nat:=(fun (u0:Int) (u1:Int) (u2:Int) (u3:List dM) (u4:Int) (u5:Int) (u6:Int) (u7:Int) (u8:Int) (u9:List dW) (u10:Int) (u11:Bool) (u12:Bool) (u13:Int) (u14:Int) (u15:Int) (u16:Int) (u17:Int) (u18:Int) (u19:Int) (u20:Int) (u21:Int) (u22:Bool) (u23:Bool) (u24:Int) (u25:Int) (u26:Int) (u27:Int) (u28:Int) (u29:Int) (u30:Int) (u31:Int) (u32:List dW) (u33:Int) (u34:Bool) (u35:Bool) (u36:List dM)=>18446744073709551616) x.2.1.1.1 x.2.1.1.2.1 x.2.1.1.2.2.1 x.2.1.1.2.2.2.1 x.2.1.1.2.2.2.2.1 x.2.1.1.2.2.2.2.2.1 x.2.1.1.2.2.2.2.2.2.1 x.2.1.1.2.2.2.2.2.2.2.1 x.2.1.1.2.2.2.2.2.2.2.2.1 x.2.1.1.2.2.2.2.2.2.2.2.2.1 x.2.1.1.2.2.2.2.2.2.2.2.2.2.1 x.2.1.1.2.2.2.2.2.2.2.2.2.2.2.1 x.2.1.1.2.2.2.2.2.2.2.2.2.2.2.2.1 x.2.1.2.1.1 x.2.1.2.1.2.1 x.2.1.2.1.2.2.1 x.2.1.2.1.2.2.2.2.1 x.2.1.2.1.2.2.2.2.2.1 x.2.1.2.1.2.2.2.2.2.2.1 x.2.1.2.1.2.2.2.2.2.2.2.1 x.2.1.2.1.2.2.2.2.2.2.2.2.1 x.2.1.2.1.2.2.2.2.2.2.2.2.2.2.1 x.2.1.2.1.2.2.2.2.2.2.2.2.2.2.2.1 x.2.1.2.1.2.2.2.2.2.2.2.2.2.2.2.2.1 x.2.1.2.2.1.1 x.2.1.2.2.1.2.1 x.2.1.2.2.1.2.2.1 x.2.1.2.2.1.2.2.2.2.1 x.2.1.2.2.1.2.2.2.2.2.1 x.2.1.2.2.1.2.2.2.2.2.2.1 x.2.1.2.2.1.2.2.2.2.2.2.2.1 x.2.1.2.2.1.2.2.2.2.2.2.2.2.1 x.2.1.2.2.1.2.2.2.2.2.2.2.2.2.1 x.2.1.2.2.1.2.2.2.2.2.2.2.2.2.2.1 x.2.1.2.2.1.2.2.2.2.2.2.2.2.2.2.2.1 x.2.1.2.2.1.2.2.2.2.2.2.2.2.2.2.2.2.1 x.2.2.1
def yum (x:(ygO).X):Option ((ygG).X ⊕ (ymq).X):=zr ycB (yCg x) (yB2 x)
def yCx:Seg:=⟨ygO,ygG,ymq,yum⟩
def yvq:Nat→Option Seg:=fun q=>bif Nat.beq q 61 then some yCx else yFF q
theorem yRc:FrOk Tryz.prog ⟨yhu,57,yvq⟩ ydx:=(yRb).loop (sg:=yCx) yb5 yB2 (by decide) yQl ycB yCg (by decide) (fun _=>rfl) (fun x r _ h=>h) yTg
def ybs:Shape:=⟨[(1,false,[.ptr 0 0]),(2,false,[.ptr 64 0]),(3,false,[.ptr 4160 0]),(5,false,[.int .i64])],[(0,[.int .i64,.int .i64,.int .i64,.br tM,.int .i64,.int .i64,.int .i64,.int .i64,.int .i64,.br tW,.int .i64,.bool,.bool]),(64,[.int .i64,.int .i64,.int .i64,.nil,.int .i64,.int .i64,.int .i64,.int .i64,.int .i64,.nil,.int .i64,.bool,.bool]),(4160,[.int .i64,.int .i64,.int .i64,.at 800000000,.int .i64,.int .i64,.int .i64,.int .i64,.int .i64,.at 800000001,.int .i64,.bool,.bool])],[(800000000,tM,(.pr (.ow .fz) (.pr (.ow (.pr .fz .fz)) (.pr .fz (.ow .fz))))),(800000001,tW,(.pr .fz .fz))]⟩
def yfQ:Shape:=⟨[(1,false,[.ptr 0 0]),(2,false,[.ptr 64 0]),(3,false,[.ptr 4160 0]),(5,false,[.ci .i64 0])],[(0,[.int .i64,.int .i64,.int .i64,.br tM,.int .i64,.int .i64,.int .i64,.int .i64,.int .i64,.br tW,.int .i64,.bool,.bool]),(64,[.int .i64,.int .i64,.int .i64,.nil,.int .i64,.int .i64,.int .i64,.int .i64,.int .i64,.nil,.int .i64,.bool,.bool]),(4160,[.int .i64,.int .i64,.int .i64,.at 800000000,.int .i64,.int .i64,.int .i64,.int .i64,.int .i64,.at 800000001,.int .i64,.bool,.bool])],[(800000000,tM,(.pr (.ow .fz) (.pr (.ow (.pr .fz .fz)) (.pr .fz (.ow .fz))))),(800000001,tW,(.pr .fz .fz))]⟩
def yfF:Shape:=⟨[(2,false,[.ptr 64 0]),(3,false,[.ptr 4160 0])],[(64,[.int .i64,.int .i64,.int .i64,.nil,.int .i64,.int .i64,.int .i64,.int .i64,.int .i64,.nil,.int .i64,.bool,.bool]),(4160,[.int .i64,.int .i64,.int .i64,.at 800000000,.int .i64,.int .i64,.int .i64,.int .i64,.int .i64,.at 800000001,.int .i64,.bool,.bool])],[(800000000,tM,(.pr (.ow .fz) (.pr (.ow (.pr .fz .fz)) (.pr .fz (.ow .fz))))),(800000001,tW,(.pr .fz .fz))]⟩
def ykf:Shape:=⟨[],[],[]⟩
abbrev yqF (v0:Int) (v1:dA) (v2:dA) (v3:dA):(ybs).X:=((((),()),((),()),((),()),(v0,()),()),((v1.1,v1.2.1.1,v1.2.1.2,v1.2.2.1,v1.2.2.2.1,v1.2.2.2.2.1,v1.2.2.2.2.2.1,v1.2.2.2.2.2.2.1,v1.2.2.2.2.2.2.2.1,v1.2.2.2.2.2.2.2.2.1,v1.2.2.2.2.2.2.2.2.2.1,v1.2.2.2.2.2.2.2.2.2.2.1,v1.2.2.2.2.2.2.2.2.2.2.2,()),(v2.1,v2.2.1.1,v2.2.1.2,(),v2.2.2.2.1,v2.2.2.2.2.1,v2.2.2.2.2.2.1,v2.2.2.2.2.2.2.1,v2.2.2.2.2.2.2.2.1,(),v2.2.2.2.2.2.2.2.2.2.1,v2.2.2.2.2.2.2.2.2.2.2.1,v2.2.2.2.2.2.2.2.2.2.2.2,()),(v3.1,v3.2.1.1,v3.2.1.2,(),v3.2.2.2.1,v3.2.2.2.2.1,v3.2.2.2.2.2.1,v3.2.2.2.2.2.2.1,v3.2.2.2.2.2.2.2.1,(),v3.2.2.2.2.2.2.2.2.2.1,v3.2.2.2.2.2.2.2.2.2.2.1,v3.2.2.2.2.2.2.2.2.2.2.2,()),()),(v3.2.2.1,v3.2.2.2.2.2.2.2.2.1,()))
abbrev yMt (v0:dA) (v1:dA) (v2:dA):(yfQ).X:=((((),()),((),()),((),()),((),()),()),((v0.1,v0.2.1.1,v0.2.1.2,v0.2.2.1,v0.2.2.2.1,v0.2.2.2.2.1,v0.2.2.2.2.2.1,v0.2.2.2.2.2.2.1,v0.2.2.2.2.2.2.2.1,v0.2.2.2.2.2.2.2.2.1,v0.2.2.2.2.2.2.2.2.2.1,v0.2.2.2.2.2.2.2.2.2.2.1,v0.2.2.2.2.2.2.2.2.2.2.2,()),(v1.1,v1.2.1.1,v1.2.1.2,(),v1.2.2.2.1,v1.2.2.2.2.1,v1.2.2.2.2.2.1,v1.2.2.2.2.2.2.1,v1.2.2.2.2.2.2.2.1,(),v1.2.2.2.2.2.2.2.2.2.1,v1.2.2.2.2.2.2.2.2.2.2.1,v1.2.2.2.2.2.2.2.2.2.2.2,()),(v2.1,v2.2.1.1,v2.2.1.2,(),v2.2.2.2.1,v2.2.2.2.2.1,v2.2.2.2.2.2.1,v2.2.2.2.2.2.2.1,v2.2.2.2.2.2.2.2.1,(),v2.2.2.2.2.2.2.2.2.2.1,v2.2.2.2.2.2.2.2.2.2.2.1,v2.2.2.2.2.2.2.2.2.2.2.2,()),()),(v2.2.2.1,v2.2.2.2.2.2.2.2.2.1,()))
abbrev yMi (v0:dA) (v1:dA):(yfF).X:=((((),()),((),()),()),((v0.1,v0.2.1.1,v0.2.1.2,(),v0.2.2.2.1,v0.2.2.2.2.1,v0.2.2.2.2.2.1,v0.2.2.2.2.2.2.1,v0.2.2.2.2.2.2.2.1,(),v0.2.2.2.2.2.2.2.2.2.1,v0.2.2.2.2.2.2.2.2.2.2.1,v0.2.2.2.2.2.2.2.2.2.2.2,()),(v1.1,v1.2.1.1,v1.2.1.2,(),v1.2.2.2.1,v1.2.2.2.2.1,v1.2.2.2.2.2.1,v1.2.2.2.2.2.2.1,v1.2.2.2.2.2.2.2.1,(),v1.2.2.2.2.2.2.2.2.2.1,v1.2.2.2.2.2.2.2.2.2.2.1,v1.2.2.2.2.2.2.2.2.2.2.2,()),()),(v1.2.2.1,v1.2.2.2.2.2.2.2.2.1,()))
def yq2 (v0:Int) (v1:Int) (v2:Int) (v3:Int) (v4:List dM) (v5:Int) (v6:Int) (v7:Int) (v8:Int) (v9:Int) (v10:List dW) (v11:Int) (v12:Bool) (v13:Bool) (v14:Int) (v15:Int) (v16:Int) (v17:Int) (v18:Int) (v19:Int) (v20:Int) (v21:Int) (v22:Int) (v23:Bool) (v24:Bool) (v25:Int) (v26:Int) (v27:Int) (v28:Int) (v29:Int) (v30:Int) (v31:Int) (v32:Int) (v33:Int) (v34:Bool) (v35:Bool) (v36:List dM) (v37:List dW):Option ((ybs).X ⊕ ((yfF).X ⊕ (ykf).X)) :=
  bif (ltb v0 (v10.length:Int)) then
    bif (inb v0 v10.length) then
      bif (inb v0 v10.length) then
        bif (zj4 ([]:List Int).length ((nth v10 v0 (0,[])).2).length 8) then
          bif (zj4 v37.length ([((nth v10 v0 (0,[])).1,(([]:List Int)++((nth v10 v0 (0,[])).2)))]:List dW).length 32) then
            some (.inl ((((),()),((),()),((),()),((IntKind.i64.wrap (v0+1)),()),()),((v1,v2,v3,v4,v5,v6,v7,v8,v9,v10,v11,v12,v13,()),(v14,v15,v16,(),v17,v18,v19,v20,v21,(),v22,v23,v24,()),(v25,v26,v27,(),v28,v29,v30,v31,v32,(),v33,v34,v35,()),()),(v36,(v37++([((nth v10 v0 (0,[])).1,(([]:List Int)++((nth v10 v0 (0,[])).2)))]:List dW)),())))
          else none
        else none
      else none
    else none
  else
    some (.inr (.inl ((((),()),((),()),()),((v14,v15,v16,(),v17,v18,v19,v20,v21,(),v22,v23,v24,()),(v25,v26,v27,(),v28,v29,v30,v31,v32,(),v33,v34,v35,()),()),(v36,v37,()))))
def ybR (x:(ybs).X):=yq2 x.1.2.2.2.1.1 x.2.1.1.1 x.2.1.1.2.1 x.2.1.1.2.2.1 x.2.1.1.2.2.2.1 x.2.1.1.2.2.2.2.1 x.2.1.1.2.2.2.2.2.1 x.2.1.1.2.2.2.2.2.2.1 x.2.1.1.2.2.2.2.2.2.2.1 x.2.1.1.2.2.2.2.2.2.2.2.1 x.2.1.1.2.2.2.2.2.2.2.2.2.1 x.2.1.1.2.2.2.2.2.2.2.2.2.2.1 x.2.1.1.2.2.2.2.2.2.2.2.2.2.2.1 x.2.1.1.2.2.2.2.2.2.2.2.2.2.2.2.1 x.2.1.2.1.1 x.2.1.2.1.2.1 x.2.1.2.1.2.2.1 x.2.1.2.1.2.2.2.2.1 x.2.1.2.1.2.2.2.2.2.1 x.2.1.2.1.2.2.2.2.2.2.1 x.2.1.2.1.2.2.2.2.2.2.2.1 x.2.1.2.1.2.2.2.2.2.2.2.2.1 x.2.1.2.1.2.2.2.2.2.2.2.2.2.2.1 x.2.1.2.1.2.2.2.2.2.2.2.2.2.2.2.1 x.2.1.2.1.2.2.2.2.2.2.2.2.2.2.2.2.1 x.2.1.2.2.1.1 x.2.1.2.2.1.2.1 x.2.1.2.2.1.2.2.1 x.2.1.2.2.1.2.2.2.2.1 x.2.1.2.2.1.2.2.2.2.2.1 x.2.1.2.2.1.2.2.2.2.2.2.1 x.2.1.2.2.1.2.2.2.2.2.2.2.1 x.2.1.2.2.1.2.2.2.2.2.2.2.2.1 x.2.1.2.2.1.2.2.2.2.2.2.2.2.2.2.1 x.2.1.2.2.1.2.2.2.2.2.2.2.2.2.2.2.1 x.2.1.2.2.1.2.2.2.2.2.2.2.2.2.2.2.2.1 x.2.2.1 x.2.2.2.1
def yzG (x:(yfQ).X):(ybs).X:=((((),()),((),()),((),()),(0,()),()),((x.2.1.1.1,x.2.1.1.2.1,x.2.1.1.2.2.1,x.2.1.1.2.2.2.1,x.2.1.1.2.2.2.2.1,x.2.1.1.2.2.2.2.2.1,x.2.1.1.2.2.2.2.2.2.1,x.2.1.1.2.2.2.2.2.2.2.1,x.2.1.1.2.2.2.2.2.2.2.2.1,x.2.1.1.2.2.2.2.2.2.2.2.2.1,x.2.1.1.2.2.2.2.2.2.2.2.2.2.1,x.2.1.1.2.2.2.2.2.2.2.2.2.2.2.1,x.2.1.1.2.2.2.2.2.2.2.2.2.2.2.2.1,()),(x.2.1.2.1.1,x.2.1.2.1.2.1,x.2.1.2.1.2.2.1,(),x.2.1.2.1.2.2.2.2.1,x.2.1.2.1.2.2.2.2.2.1,x.2.1.2.1.2.2.2.2.2.2.1,x.2.1.2.1.2.2.2.2.2.2.2.1,x.2.1.2.1.2.2.2.2.2.2.2.2.1,(),x.2.1.2.1.2.2.2.2.2.2.2.2.2.2.1,x.2.1.2.1.2.2.2.2.2.2.2.2.2.2.2.1,x.2.1.2.1.2.2.2.2.2.2.2.2.2.2.2.2.1,()),(x.2.1.2.2.1.1,x.2.1.2.2.1.2.1,x.2.1.2.2.1.2.2.1,(),x.2.1.2.2.1.2.2.2.2.1,x.2.1.2.2.1.2.2.2.2.2.1,x.2.1.2.2.1.2.2.2.2.2.2.1,x.2.1.2.2.1.2.2.2.2.2.2.2.1,x.2.1.2.2.1.2.2.2.2.2.2.2.2.1,(),x.2.1.2.2.1.2.2.2.2.2.2.2.2.2.2.1,x.2.1.2.2.1.2.2.2.2.2.2.2.2.2.2.2.1,x.2.1.2.2.1.2.2.2.2.2.2.2.2.2.2.2.2.1,()),()),(x.2.2.1,x.2.2.2.1,()))
def yBw:Code:=(zdI ydx 64 1012).getD .skip
theorem yNH:zdI ydx 64 253=some (.block 2 (.loop yBw)):=by kernel_rfl
theorem yPJ (x:(ybs).X):zg7 ⟨yhu,57,yvq⟩ 2 yBw 1012 ybs yfF ykf x=ybR x:=by kernel_rfl
def yzZ (x:(yfQ).X):Nat:=(fun (u0:Int) (u1:Int) (u2:Int) (u3:List dM) (u4:Int) (u5:Int) (u6:Int) (u7:Int) (u8:Int) (u9:List dW) (u10:Int) (u11:Bool) (u12:Bool) (u13:Int) (u14:Int) (u15:Int) (u16:Int) (u17:Int) (u18:Int) (u19:Int) (u20:Int) (u21:Int) (u22:Bool) (u23:Bool) (u24:Int) (u25:Int) (u26:Int) (u27:Int) (u28:Int) (u29:Int) (u30:Int) (u31:Int) (u32:Int) (u33:Bool) (u34:Bool) (u35:List dM) (u36:List dW)=>18446744073709551616) x.2.1.1.1 x.2.1.1.2.1 x.2.1.1.2.2.1 x.2.1.1.2.2.2.1 x.2.1.1.2.2.2.2.1 x.2.1.1.2.2.2.2.2.1 x.2.1.1.2.2.2.2.2.2.1 x.2.1.1.2.2.2.2.2.2.2.1 x.2.1.1.2.2.2.2.2.2.2.2.1 x.2.1.1.2.2.2.2.2.2.2.2.2.1 x.2.1.1.2.2.2.2.2.2.2.2.2.2.1 x.2.1.1.2.2.2.2.2.2.2.2.2.2.2.1 x.2.1.1.2.2.2.2.2.2.2.2.2.2.2.2.1 x.2.1.2.1.1 x.2.1.2.1.2.1 x.2.1.2.1.2.2.1 x.2.1.2.1.2.2.2.2.1 x.2.1.2.1.2.2.2.2.2.1 x.2.1.2.1.2.2.2.2.2.2.1 x.2.1.2.1.2.2.2.2.2.2.2.1 x.2.1.2.1.2.2.2.2.2.2.2.2.1 x.2.1.2.1.2.2.2.2.2.2.2.2.2.2.1 x.2.1.2.1.2.2.2.2.2.2.2.2.2.2.2.1 x.2.1.2.1.2.2.2.2.2.2.2.2.2.2.2.2.1 x.2.1.2.2.1.1 x.2.1.2.2.1.2.1 x.2.1.2.2.1.2.2.1 x.2.1.2.2.1.2.2.2.2.1 x.2.1.2.2.1.2.2.2.2.2.1 x.2.1.2.2.1.2.2.2.2.2.2.1 x.2.1.2.2.1.2.2.2.2.2.2.2.1 x.2.1.2.2.1.2.2.2.2.2.2.2.2.1 x.2.1.2.2.1.2.2.2.2.2.2.2.2.2.2.1 x.2.1.2.2.1.2.2.2.2.2.2.2.2.2.2.2.1 x.2.1.2.2.1.2.2.2.2.2.2.2.2.2.2.2.2.1 x.2.2.1 x.2.2.2.1
def ysq (x:(yfQ).X):Option ((yfF).X ⊕ (ykf).X):=zr ybR (yzZ x) (yzG x)
def yAp:Seg:=⟨yfQ,yfF,ykf,ysq⟩
def yFG:Nat→Option Seg:=fun q=>bif Nat.beq q 253 then some yAp else yvq q
theorem yRd:FrOk Tryz.prog ⟨yhu,57,yFG⟩ ydx:=(yRc).loop (sg:=yAp) ybs yzG (by decide) yNH ybR yzZ (by decide) (fun _=>rfl) (fun x r _ h=>h) yPJ
abbrev yhL:List Par:= [.rd tA]
abbrev ytY:List OT:= [⟨false,tA,(.pr .fz (.pr (.pr .fz .fz) (.pr (.ow (.pr (.ow .fz) (.pr (.ow (.pr .fz .fz)) (.pr .fz (.ow .fz))))) (.pr .fz (.pr .fz (.pr .fz (.pr .fz (.pr .fz (.pr (.ow (.pr .fz .fz)) (.pr .fz (.pr .fz .fz)))))))))))⟩]
def ypP (a0:dA):Option (ResD ytY×MutD yhL) :=
  zjw (yum ((((),()),((),()),((),()),((),()),()),((a0.1,a0.2.1.1,a0.2.1.2,a0.2.2.1,a0.2.2.2.1,a0.2.2.2.2.1,a0.2.2.2.2.2.1,a0.2.2.2.2.2.2.1,a0.2.2.2.2.2.2.2.1,a0.2.2.2.2.2.2.2.2.1,a0.2.2.2.2.2.2.2.2.2.1,a0.2.2.2.2.2.2.2.2.2.2.1,a0.2.2.2.2.2.2.2.2.2.2.2,()),(0,0,0,(),0,0,0,0,0,(),0,false,false,()),(a0.1,a0.2.1.1,a0.2.1.2,(),a0.2.2.2.1,a0.2.2.2.2.1,a0.2.2.2.2.2.1,a0.2.2.2.2.2.2.1,a0.2.2.2.2.2.2.2.1,a0.2.2.2.2.2.2.2.2.1,a0.2.2.2.2.2.2.2.2.2.1,a0.2.2.2.2.2.2.2.2.2.2.1,a0.2.2.2.2.2.2.2.2.2.2.2,()),()),(([]:List dM),()))) (fun y2 =>
    zjw (ysq ((((),()),((),()),((),()),((),()),()),((y2.2.1.1.1,y2.2.1.1.2.1,y2.2.1.1.2.2.1,y2.2.1.1.2.2.2.1,y2.2.1.1.2.2.2.2.1,y2.2.1.1.2.2.2.2.2.1,y2.2.1.1.2.2.2.2.2.2.1,y2.2.1.1.2.2.2.2.2.2.2.1,y2.2.1.1.2.2.2.2.2.2.2.2.1,y2.2.1.1.2.2.2.2.2.2.2.2.2.1,y2.2.1.1.2.2.2.2.2.2.2.2.2.2.1,y2.2.1.1.2.2.2.2.2.2.2.2.2.2.2.1,y2.2.1.1.2.2.2.2.2.2.2.2.2.2.2.2.1,()),(y2.2.1.2.1.1,y2.2.1.2.1.2.1,y2.2.1.2.1.2.2.1,(),y2.2.1.2.1.2.2.2.2.1,y2.2.1.2.1.2.2.2.2.2.1,y2.2.1.2.1.2.2.2.2.2.2.1,y2.2.1.2.1.2.2.2.2.2.2.2.1,y2.2.1.2.1.2.2.2.2.2.2.2.2.1,(),y2.2.1.2.1.2.2.2.2.2.2.2.2.2.2.1,y2.2.1.2.1.2.2.2.2.2.2.2.2.2.2.2.1,y2.2.1.2.1.2.2.2.2.2.2.2.2.2.2.2.2.1,()),(y2.2.1.2.2.1.1,y2.2.1.2.2.1.2.1,y2.2.1.2.2.1.2.2.1,(),y2.2.1.2.2.1.2.2.2.2.1,y2.2.1.2.2.1.2.2.2.2.2.1,y2.2.1.2.2.1.2.2.2.2.2.2.1,y2.2.1.2.2.1.2.2.2.2.2.2.2.1,y2.2.1.2.2.1.2.2.2.2.2.2.2.2.1,(),y2.2.1.2.2.1.2.2.2.2.2.2.2.2.2.2.1,y2.2.1.2.2.1.2.2.2.2.2.2.2.2.2.2.2.1,y2.2.1.2.2.1.2.2.2.2.2.2.2.2.2.2.2.2.1,()),()),(y2.2.2.1,([]:List dW),()))) (fun y3 =>
      some (((y3.2.1.2.1.1,(y3.2.1.2.1.2.1,y3.2.1.2.1.2.2.1),y3.2.2.1,y3.2.1.2.1.2.2.2.2.1,y3.2.1.2.1.2.2.2.2.2.1,y3.2.1.2.1.2.2.2.2.2.2.1,y3.2.1.2.1.2.2.2.2.2.2.2.1,y3.2.1.2.1.2.2.2.2.2.2.2.2.1,y3.2.2.2.1,y3.2.1.2.1.2.2.2.2.2.2.2.2.2.2.1,y3.2.1.2.1.2.2.2.2.2.2.2.2.2.2.2.1,y3.2.1.2.1.2.2.2.2.2.2.2.2.2.2.2.2.1),()),())) (fun y3 =>
      none)) (fun y2 =>
    none)
theorem yZ1 (x:InD yhL):zjH ⟨yhu,57,yFG⟩ Tryz.f73.results.toList ydx yhL ytY x=ypP x.1:=by kernel_rfl
theorem yV6:ConOk Tryz.prog 73 ⟨yhL,ytY,fun x=>ypP x.1⟩:=zkh (yRd) Tryz.func73 (by kernel_rfl) (by kernel_rfl) Tryz.ntmps73.symm (by decide) (fun x r h=>(yZ1 x).trans h)
def ynO (a0:dA):dA:=a0
theorem yYi (a0:dA) (hk:zi9 yhL (a0,())):ypP a0=(fun n=>some ((n,()),())) (ynO a0):=by
  have hb:a0.2.2.1.length * 80≤2 ^ 47:=hk.1.2.2.1.1
  have hb2:a0.2.2.2.2.2.2.2.2.1.length * 32≤2 ^ 47:=hk.1.2.2.2.2.2.2.2.2.1.1
  have hc: ∀ i,i < a0.2.2.2.2.2.2.2.2.1.length→(a0.2.2.2.2.2.2.2.2.1.getD i (0,[])).2.length * 8≤2 ^ 47:=fun i hi=>by rw [zcq hi]; exact (hk.1.2.2.2.2.2.2.2.2.1.2 _ (List.getElem_mem hi)).2.1
  have h1:=zkk (step:=ycB) a0.2.2.1 yf (fun i s=>ysB i a0 ya2 (a0.1,a0.2.1,s,a0.2.2.2)) (fun s x=>s++ [x]) (fun i s=>s.length=i) (fun s=> .inl (yOz a0 ya2 (a0.1,a0.2.1,s,a0.2.2.2))) (fun i s hi hs=>⟨by
      simp only [ycB,ysB,ysX,zjI (show (i:Int) < a0.2.2.1.length by omega),cond_true,wr (show -9223372036854775808≤(i:Int)+1 by omega) (by omega),Int.natCast_add,Int.natCast_one,Int.toNat_natCast,zkO hi,zjW,yK,zkV]
      rw [zkw.2 (show (s.length+ [a0.2.2.1.getD i ([],[],false,[])].length) * 80≤140737488355328 by simp only [List.length_cons,List.length_nil]; omega)]; rfl,by simp [hs]⟩) (fun s hs=>by simp only [ycB,ysB,ysX,zkm (Int.le_refl _),cond_false]) [] rfl 18446744073709551616 (by omega)
  have h2:=zkk (step:=ybR) a0.2.2.2.2.2.2.2.2.1 (0,[]) (fun i s=>yqF i a0 ya2 (a0.1,a0.2.1,a0.2.2.1,a0.2.2.2.1,a0.2.2.2.2.1,a0.2.2.2.2.2.1,a0.2.2.2.2.2.2.1,a0.2.2.2.2.2.2.2.1,s,a0.2.2.2.2.2.2.2.2.2)) (fun s x=>s++ [x]) (fun i s=>s.length=i) (fun s=> .inl (yMi ya2 (a0.1,a0.2.1,a0.2.2.1,a0.2.2.2.1,a0.2.2.2.2.1,a0.2.2.2.2.2.1,a0.2.2.2.2.2.2.1,a0.2.2.2.2.2.2.2.1,s,a0.2.2.2.2.2.2.2.2.2))) (fun i s hi hs=>⟨by
      have:=hc i hi
      simp only [ybR,yqF,yq2,zjI (show (i:Int) < a0.2.2.2.2.2.2.2.2.1.length by omega),cond_true,wr (show -9223372036854775808≤(i:Int)+1 by omega) (by omega),Int.natCast_add,Int.natCast_one,Int.toNat_natCast,zkO hi,zjW,List.nil_append,zkV]
      rw [zkw.2 (show (([]:List Int).length+(a0.2.2.2.2.2.2.2.2.1.getD i (0,[])).2.length) * 8≤140737488355328 by rw [List.length_nil]; omega),zkw.2 (show (s.length+ [a0.2.2.2.2.2.2.2.2.1.getD i (0,[])].length) * 32≤140737488355328 by simp only [List.length_cons,List.length_nil]; omega)]; rfl,by simp [hs]⟩) (fun s hs=>by simp only [ybR,yqF,yq2,zkm (Int.le_refl _),cond_false]) [] rfl 18446744073709551616 (by omega)
  rw [yux]at h1 h2
  unfold ypP ynO
  rw [show yum (yOG a0 ya2 (a0.1,a0.2.1,[],a0.2.2.2))=_ from h1,zkJ]
  refine (congrArg (fun z=>zjw z _ _) (show ysq (yMt a0 ya2 (a0.1,a0.2.1,a0.2.2.1,a0.2.2.2.1,a0.2.2.2.2.1,a0.2.2.2.2.2.1,a0.2.2.2.2.2.2.1,a0.2.2.2.2.2.2.2.1,[],a0.2.2.2.2.2.2.2.2.2))=_ from h2)).trans rfl
def yGB:Con:=⟨yhL,ytY,fun x=>(fun n=>some ((n,()),())) (ynO x.1)⟩
theorem yY4:ConOk Tryz.prog 73 yGB:=(yV6).mono (fun x r hk h=>(yYi x.1 hk).trans h)
end
end
end Go.Tf
