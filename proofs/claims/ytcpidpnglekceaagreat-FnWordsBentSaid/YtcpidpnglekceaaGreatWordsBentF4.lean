/- Functions of the program, and what they come to. -/
import Derived.Test.YtcpidpnglekceaaGreatWordsBentF3
namespace Go.Tf
noncomputable section
open Go.Proofs
set_option synthInstance.maxHeartbeats 400000
set_option synthInstance.maxSize 10000
set_option linter.unusedVariables false
set_option linter.unusedSimpArgs false
set_option maxRecDepth 100000
section
def yxu:Code:=(Tryz.f209.body).getD .skip
def yx8:Env:=zki TT [(128,ygq)] [(12288,(.pr .fz .fz))]
theorem yCR:FrOk Tryz.prog ⟨yx8,10,fun _=>none⟩ yxu:=zkp ye yf ⟨ylS,trivial⟩
def yD3:Nat→Option Seg:=fun _=>none
abbrev yhk:List Par:= [.rd tM]
abbrev ylB:List OT:= [⟨false,tM,(.pr (.ow .fz) (.pr (.ow (.pr .fz .fz)) (.pr .fz (.ow .fz))))⟩]
def yor (a0:dM):Option (ResD ylB×MutD yhk) :=
  let r1:=yX a0
  some (((r1.1,([]:List dW),true,r1.2.2.2),()),())
theorem yKD (x:InD yhk):zjH ⟨yx8,10,yD3⟩ Tryz.f209.results.toList yxu yhk ylB x=yor x.1:=by kernel_rfl
theorem yGe:ConOk Tryz.prog 209 ⟨yhk,ylB,fun x=>yor x.1⟩:=zkh (yCR) Tryz.func209 (by kernel_rfl) (by kernel_rfl) Tryz.ntmps209.symm (by decide) (fun x r h=>(yKD x).trans h)
def yhP (a0:dM):dM :=
  let r1:=yX a0
  (r1.1,([]:List dW),true,r1.2.2.2)
def yn7:Con:=⟨yhk,ylB,fun x=>(fun n=>some ((n,()),())) (yhP x.1)⟩
theorem yIS (a0:dM):yor a0=(fun n=>some ((n,()),())) (yhP a0):=zkS (p:=fun (n:dM)=>((n,()),())) rfl
theorem yxd:ConOk Tryz.prog 209 yn7:=(yGe).mono (fun x r _ h=>(yIS x.1).trans h)
end
section
def yDU:Code:=(Tryz.f264.body).getD .skip
def yDW:Env:=zki TT [] []
theorem yKR:FrOk Tryz.prog ⟨yDW,31,fun _=>none⟩ yDU:=zkp ye yf trivial
def yMR:Nat→Option Seg:=fun _=>none
abbrev ymQ:List Par:= [.pt tA (.pr .fz (.pr (.pr .fz .fz) (.pr (.ow (.pr (.ow .fz) (.pr (.ow (.pr .fz .fz)) (.pr .fz (.ow .fz))))) (.pr .fz (.pr .fz (.pr .fz (.pr .fz (.pr .fz (.pr (.ow (.pr .fz .fz)) (.pr .fz (.pr .fz .fz)))))))))))]
abbrev yrr:List OT:= [⟨false,tB,.fz⟩]
def ysq (a0:dA):Option (ResD yrr×MutD ymQ) :=
  bif a0.2.2.2.2.2.2.2.2.2.2.1 then
    some ((false,()),(a0,()))
  else
    bif (a0.2.2.2.2.2.2.2.2.2.1==0) then
      some ((false,()),((a0.1,a0.2.1,a0.2.2.1,a0.2.2.2.1,a0.2.2.2.2.1,a0.2.2.2.2.2.1,a0.2.2.2.2.2.2.1,a0.2.2.2.2.2.2.2.1,a0.2.2.2.2.2.2.2.2.1,(-1),true,a0.2.2.2.2.2.2.2.2.2.2.2),()))
    else
      bif (ltb 0 a0.2.2.2.2.2.2.2.2.2.1) then
        some ((true,()),((a0.1,a0.2.1,a0.2.2.1,a0.2.2.2.1,a0.2.2.2.2.1,a0.2.2.2.2.2.1,a0.2.2.2.2.2.2.1,a0.2.2.2.2.2.2.2.1,a0.2.2.2.2.2.2.2.2.1,(IntKind.i64.wrap (a0.2.2.2.2.2.2.2.2.2.1 - 1)),a0.2.2.2.2.2.2.2.2.2.2),()))
      else
        some ((true,()),(a0,()))
theorem yPf (x:InD ymQ):zjH ⟨yDW,31,yMR⟩ Tryz.f264.results.toList yDU ymQ yrr x=ysq x.1:=by kernel_rfl
theorem yNS:ConOk Tryz.prog 264 ⟨ymQ,yrr,fun x=>ysq x.1⟩:=zkh (yKR) Tryz.func264 (by kernel_rfl) (by kernel_rfl) Tryz.ntmps264.symm (by decide) (fun x r h=>(yPf x).trans h)
def ymZ (a0:dA):Bool×dA :=
  bif a0.2.2.2.2.2.2.2.2.2.2.1 then
    (false,a0)
  else
    bif (a0.2.2.2.2.2.2.2.2.2.1==0) then
      (false,(a0.1,a0.2.1,a0.2.2.1,a0.2.2.2.1,a0.2.2.2.2.1,a0.2.2.2.2.2.1,a0.2.2.2.2.2.2.1,a0.2.2.2.2.2.2.2.1,a0.2.2.2.2.2.2.2.2.1,(-1),true,a0.2.2.2.2.2.2.2.2.2.2.2))
    else
      bif (ltb 0 a0.2.2.2.2.2.2.2.2.2.1) then
        (true,(a0.1,a0.2.1,a0.2.2.1,a0.2.2.2.1,a0.2.2.2.2.1,a0.2.2.2.2.2.1,a0.2.2.2.2.2.2.1,a0.2.2.2.2.2.2.2.1,a0.2.2.2.2.2.2.2.2.1,(IntKind.i64.wrap (a0.2.2.2.2.2.2.2.2.2.1 - 1)),a0.2.2.2.2.2.2.2.2.2.2))
      else
        (true,a0)
def ysi:Con:=⟨ymQ,yrr,fun x=>(fun n=>some ((n.1,()),(n.2,()))) (ymZ x.1)⟩
theorem yOX (a0:dA):ysq a0=(fun n=>some ((n.1,()),(n.2,()))) (ymZ a0):=zkS (p:=fun (n:Bool×dA)=>((n.1,()),(n.2,()))) (zkx (p:=fun (n:Bool×dA)=>((n.1,()),(n.2,()))) rfl (zkx (p:=fun (n:Bool×dA)=>((n.1,()),(n.2,()))) rfl (zkx (p:=fun (n:Bool×dA)=>((n.1,()),(n.2,()))) rfl rfl)))
theorem yCd:ConOk Tryz.prog 264 ysi:=(yNS).mono (fun x r _ h=>(yOX x.1).trans h)
theorem yKf (a:dA):ymZ a=opA a:=by kernel_rfl
end
section
def yeh:Code:=(Tryz.f280.body).getD .skip
def yh2:Env:=zki TT [] []
theorem yAB:FrOk Tryz.prog ⟨yh2,28,fun _=>none⟩ yeh:=zkp ye yf trivial
def yry:Nat→Option Seg:=fun _=>none
def yar:Shape:=⟨[(0,false,[.br tI]),(1,false,[.int .i64]),(5,false,[.at 800000000]),(6,false,[.int .i64])],[],[(800000000,tI,.fz)]⟩
def ycG:Shape:=⟨[(0,false,[.br tI]),(1,false,[.int .i64]),(5,false,[.at 800000000]),(6,false,[.ci .i64 0])],[],[(800000000,tI,.fz)]⟩
def ycD:Shape:=⟨[(5,false,[.at 800000000])],[],[(800000000,tI,.fz)]⟩
def ye3:Shape:=⟨[],[],[]⟩
abbrev yin (v0:List Int) (v1:Int) (v2:Int) (v3:List Int):(yar).X:=(((v0,()),(v1,()),((),()),(v2,()),()),(),(v3,()))
abbrev yzh (v0:List Int) (v1:Int) (v2:List Int):(ycG).X:=(((v0,()),(v1,()),((),()),((),()),()),(),(v2,()))
abbrev yze (v0:List Int):(ycD).X:=((((),()),()),(),(v0,()))
def yiC (v0:List Int) (v1:Int) (v2:Int) (v3:List Int):Option ((yar).X ⊕ ((ycD).X ⊕ (ye3).X)) :=
  bif (ltb v2 (v0.length:Int)) then
    bif (inb v2 v0.length) then
      bif ((nth v0 v2 0) !=v1) then
        bif (inb v2 v0.length) then
          bif (zj4 v3.length ([(nth v0 v2 0)]:List Int).length 8) then
            some (.inl (((v0,()),(v1,()),((),()),((IntKind.i64.wrap (v2+1)),()),()),(),((v3++([(nth v0 v2 0)]:List Int)),())))
          else none
        else none
      else
        some (.inl (((v0,()),(v1,()),((),()),((IntKind.i64.wrap (v2+1)),()),()),(),(v3,())))
    else none
  else
    some (.inr (.inl ((((),()),()),(),(v3,()))))
def yaB (x:(yar).X):=yiC x.1.1.1 x.1.2.1.1 x.1.2.2.2.1.1 x.2.2.1
def yp2 (x:(ycG).X):(yar).X:=(((x.1.1.1,()),(x.1.2.1.1,()),((),()),(0,()),()),(),(x.2.2.1,()))
def yqE:Code:=(zdI yeh 64 116).getD .skip
theorem yAy:zdI yeh 64 29=some (.block 0 (.loop yqE)):=by kernel_rfl
theorem yAR (x:(yar).X):zg7 ⟨yh2,28,yry⟩ 0 yqE 116 yar ycD ye3 x=yaB x:=by kernel_rfl
def yp6 (x:(ycG).X):Nat:=(fun (u0:List Int) (u1:Int) (u2:List Int)=>18446744073709551616) x.1.1.1 x.1.2.1.1 x.2.2.1
def yjA (x:(ycG).X):Option ((ycD).X ⊕ (ye3).X):=zr yaB (yp6 x) (yp2 x)
def yqy:Seg:=⟨ycG,ycD,ye3,yjA⟩
def yrz:Nat→Option Seg:=fun q=>bif Nat.beq q 29 then some yqy else yry q
theorem yAC:FrOk Tryz.prog ⟨yh2,28,yrz⟩ yeh:=(yAB).loop (sg:=yqy) yar yp2 (by decide) yAy yaB yp6 (by decide) (fun _=>rfl) (fun x r _ h=>h) yAR
abbrev ycN:List Par:= [.rd tL,.rd tI]
abbrev yh6:List OT:= [⟨false,tL,(.ow .fz)⟩]
def ygx (a0:List Int) (a1:Int):Option (ResD yh6×MutD ycN) :=
  zjw (yjA (((a0,()),(a1,()),((),()),((),()),()),(),(([]:List Int),()))) (fun y0 =>
    some ((y0.2.2.1,()),())) (fun y0 =>
    none)
theorem yEu (x:InD ycN):zjH ⟨yh2,28,yrz⟩ Tryz.f280.results.toList yeh ycN yh6 x=ygx x.1 x.2.1:=by kernel_rfl
theorem yCa:ConOk Tryz.prog 280 ⟨ycN,yh6,fun x=>ygx x.1 x.2.1⟩:=zkh (yAC) Tryz.func280 (by kernel_rfl) (by kernel_rfl) Tryz.ntmps280.symm (by decide) (fun x r h=>(yEu x).trans h)
def ye0 (a0:List Int) (a1:Int):List Int:=yPQ a0 a1
theorem yBB {α:Type} (p:α→Bool): ∀ (l:List α) (s:List α),l.foldl (fun s x=>bif p x then s++ [x] else s) s=s++l.filter p
  | [],s=>by simp
  | x::l,s=>by
    rw [List.foldl_cons,yBB p l,List.filter_cons]
    cases p x<;>simp
theorem yDw (a0:List Int) (a1:Int) (hk:zi9 ycN (a0,a1,())):ygx a0 a1=(fun n=>some ((n,()),())) (ye0 a0 a1):=by
  have hb:a0.length * 8≤2 ^ 47:=hk.1.1
  have h1:=zkk (step:=yaB) a0 0 (fun i s=>yin a0 a1 i s) (fun s x=>bif x !=a1 then s++ [x] else s) (fun i s=>s.length≤i) (fun s=> .inl (yze s)) (fun i s hi hs=>by
      constructor
      · simp only [yaB,yin,yiC,zjI (show (i:Int) < a0.length by omega),cond_true,wr (show -9223372036854775808≤(i:Int)+1 by omega) (by omega),Int.natCast_add,Int.natCast_one,Int.toNat_natCast,zkO hi,zjW]
        rw [zkw.2 (show (s.length+ [a0.getD i 0].length) * 8≤140737488355328 by simp only [List.length_cons,List.length_nil]; omega)]
        cases (a0.getD i 0 !=a1)<;>rfl
      · cases (a0.getD i 0 !=a1)
        · show s.length≤_; omega
        · simp only [cond_true,List.length_append,List.length_cons,List.length_nil]; omega) (fun s _=>by simp only [yaB,yin,yiC,zkm (Int.le_refl _),cond_false]) [] (Nat.le_refl _) 18446744073709551616 (by omega)
  unfold ygx ye0 yPQ
  rw [show yjA (yzh a0 a1 [])=_ from h1,yBB]; rfl
def yrJ:Con:=⟨ycN,yh6,fun x=>(fun n=>some ((n,()),())) (ye0 x.1 x.2.1)⟩
theorem yDK:ConOk Tryz.prog 280 yrJ:=(yCa).mono (fun x r hk h=>(yDw x.1 x.2.1 hk).trans h)
end
section
def yvK:Code:=(Tryz.f265.body).getD .skip
def ywj:Env:=zki TT [(115,yq),(128,ygq),(214,yd5),(254,yq1),(280,yrJ)] [(16832,(.pr .fz .fz))]
theorem yBN:FrOk Tryz.prog ⟨ywj,55,fun _=>none⟩ yvK:=zkp ye yf ⟨yu,ylS,yjr,yAp,yDK,trivial⟩
def yCx:Nat→Option Seg:=fun _=>none
abbrev ydk:List Par:= [.rd tM,.rd tI,.rd tL]
abbrev yjT:List OT:= [⟨false,tM,(.pr (.ow .fz) (.pr (.ow (.pr .fz .fz)) (.pr .fz (.ow .fz))))⟩,⟨false,tB,.fz⟩]
def yg0 (a0:dM) (a1:Int) (a2:List Int):Option (ResD yjT×MutD ydk) :=
  let r1:=yX a0
  let r2:=y5 a0
  bif (!(!r2)) then
    bif (!a0.2.2.1) then
      let r3:=yb a1 0 (IntKind.i64.wrap ((a0.1.length:Int) - 1))
      bif (!(!r3)) then
        let r4:=yeY a2
        bif (!(!r4)) then
          bif (leb 60 (a0.2.1.length:Int)) then
            some ((r1,false,()),())
          else
            bif (zj4 ([]:List Int).length a2.length 8) then
              bif (zj4 r1.2.1.length ([(a1,(([]:List Int)++a2))]:List dW).length 32) then
                let r5:=ye0 a0.2.2.2 a1
                some (((r1.1,(r1.2.1++([(a1,(([]:List Int)++a2))]:List dW)),r1.2.2.1,r5),true,()),())
              else none
            else none
        else
          some ((r1,false,()),())
      else
        some ((r1,false,()),())
    else
      some ((r1,false,()),())
  else
    some ((r1,false,()),())
theorem yHJ (x:InD ydk):zjH ⟨ywj,55,yCx⟩ Tryz.f265.results.toList yvK ydk yjT x=yg0 x.1 x.2.1 x.2.2.1:=by kernel_rfl
theorem yDF:ConOk Tryz.prog 265 ⟨ydk,yjT,fun x=>yg0 x.1 x.2.1 x.2.2.1⟩:=zkh (yBN) Tryz.func265 (by kernel_rfl) (by kernel_rfl) Tryz.ntmps265.symm (by decide) (fun x r h=>(yHJ x).trans h)
def yb8 (a0:dM) (a1:Int) (a2:List Int):dM×Bool:=ygG a0 a1 a2
theorem yF6 (a0:dM) (a1:Int) (a2:List Int) (hk:zi9 ydk (a0,a1,a2,())):yg0 a0 a1 a2=(fun n=>some ((n.1,n.2,()),())) (yb8 a0 a1 a2):=by
  have hb1:a0.1.length * 24≤2 ^ 47:=hk.1.1.1
  have hb2:a2.length * 8≤2 ^ 47:=hk.2.2.1.1
  unfold yg0 yb8 ygG yue
  simp only [yX,y5,ymW (show a0.1.length≤1152921504606846976 by omega),yxs,ye0,List.nil_append]
  cases yz a0
  · rfl
  cases a0.2.2.1
  · cases inb a1 a0.1.length
    · rfl
    cases yR a2
    · rfl
    by_cases h:(a0.2.1.length:Int) < 60
    · rw [zjI h,zkZ h,zkw.2 (show (([]:List Int).length+a2.length) * 8≤140737488355328 by rw [List.length_nil]; omega),zkw.2 (show (a0.2.1.length+ [(a1,a2)].length) * 32≤140737488355328 by simp only [List.length_cons,List.length_nil]; omega)]; rfl
    · rw [zkm (by omega),zk0 (by omega)]; rfl
  · rfl
def ymn:Con:=⟨ydk,yjT,fun x=>(fun n=>some ((n.1,n.2,()),())) (yb8 x.1 x.2.1 x.2.2.1)⟩
theorem yvd:ConOk Tryz.prog 265 ymn:=(yDF).mono (fun x r hk h=>(yF6 x.1 x.2.1 x.2.2.1 hk).trans h)
end
section
def yA5:Code:=(Tryz.f249.body).getD .skip
def yBm:Env:=zki TT [(264,ysi),(265,ymn)] []
theorem yIu:FrOk Tryz.prog ⟨yBm,43,fun _=>none⟩ yA5:=zkp ye yf ⟨yCd,yvd,trivial⟩
def yKv:Nat→Option Seg:=fun _=>none
abbrev yel:List Par:= [.pt tA (.pr .fz (.pr (.pr .fz .fz) (.pr (.ow (.pr (.ow .fz) (.pr (.ow (.pr .fz .fz)) (.pr .fz (.ow .fz))))) (.pr .fz (.pr .fz (.pr .fz (.pr .fz (.pr .fz (.pr (.ow (.pr .fz .fz)) (.pr .fz (.pr .fz .fz))))))))))),.rd tI,.rd tI,.rd tL]
abbrev ykZ:List OT:= []
def yl4 (a0:dA) (a1:Int) (a2:Int) (a3:List Int):Option (ResD ykZ×MutD yel) :=
  bif (inb a1 a0.2.2.1.length) then
    bif (!((((nth a0.2.2.1 a1 ([],[],false,[])).2).2).1)) then
      let r1:=ymZ a0
      bif (!r1.1) then
        some ((),(r1.2,()))
      else
        bif (inb a1 r1.2.2.2.1.length) then
          let r2:=yb8 ((nth r1.2.2.2.1 a1 ([],[],false,[])).1,((nth r1.2.2.2.1 a1 ([],[],false,[])).2).1,(((nth r1.2.2.2.1 a1 ([],[],false,[])).2).2)) a2 a3
          bif (inb a1 r1.2.2.2.1.length) then
            some ((),((r1.2.1,r1.2.2.1,(r1.2.2.2.1.set (a1).toNat r2.1),r1.2.2.2.2),()))
          else none
        else none
    else
      some ((),(a0,()))
  else none
theorem yOL (x:InD yel):zjH ⟨yBm,43,yKv⟩ Tryz.f249.results.toList yA5 yel ykZ x=yl4 x.1 x.2.1 x.2.2.1 x.2.2.2.1:=by kernel_rfl
theorem yLS:ConOk Tryz.prog 249 ⟨yel,ykZ,fun x=>yl4 x.1 x.2.1 x.2.2.1 x.2.2.2.1⟩:=zkh (yIu) Tryz.func249 (by kernel_rfl) (by kernel_rfl) Tryz.ntmps249.symm (by decide) (fun x r h=>(yOL x).trans h)
def ylf (a0:dA) (a1 a2:Int) (a3:List Int):dA:=ydT a0 a1 a2 a3
def yvf (a0:dA) (a1 a2:Int) (a3:List Int):Bool:=inb a1 a0.2.2.1.length
theorem yNM (a0:dA) (a1 a2:Int) (a3:List Int) (hk:zi9 yel (a0,a1,a2,a3,())) (hq:yvf a0 a1 a2 a3=true):yl4 a0 a1 a2 a3=(fun n=>some ((),(n,()))) (ylf a0 a1 a2 a3):=by
  have hq:inb a1 a0.2.2.1.length=true:=hq
  unfold yl4 ylf ydT yqv
  simp only [yKf,ybv,hq,zkV,yb8]
  cases (nth a0.2.2.1 a1 yg).2.2.1<;>cases (opA a0).1<;>rfl
def ydb (a0:dA) (a1:Int) (a2:Int) (a3:List Int):Option (ResD ykZ×MutD yel):=bif yvf a0 a1 a2 a3 then (fun n=>some ((),(n,()))) (ylf a0 a1 a2 a3) else none
theorem yjs (a0:dA) (a1:Int) (a2:Int) (a3:List Int) (h:yvf a0 a1 a2 a3=true):ydb a0 a1 a2 a3=(fun n=>some ((),(n,()))) (ylf a0 a1 a2 a3):=by unfold ydb; rw [h]; rfl
def yhJ:Con:=⟨yel,ykZ,fun x=>ydb x.1 x.2.1 x.2.2.1 x.2.2.2.1⟩
theorem ynR:ConOk Tryz.prog 249 yhJ:=(yLS).mono (fun x r hk h=>zkW h (fun hq=>yNM x.1 x.2.1 x.2.2.1 x.2.2.2.1 hk hq))
end
section
def yfu:Code:=(Tryz.f266.body).getD .skip
def yjH:Env:=zki TT [(128,ygq),(214,yd5)] [(32768,(.pr .fz .fz))]
theorem yBG:FrOk Tryz.prog ⟨yjH,40,fun _=>none⟩ yfu:=zkp ye yf ⟨ylS,yjr,trivial⟩
def ysv:Nat→Option Seg:=fun _=>none
def yaE:Shape:=⟨[(2,false,[.ptr 64 0]),(3,false,[.ptr 4224 0]),(4,false,[.int .i64])],[(64,[.nil,.nil,.bool,.nil]),(4224,[.at 800000000,.at 800000001,.bool,.at 800000002])],[(800000000,tL,.fz),(800000001,tW,(.pr .fz .fz)),(800000002,tI,.fz)]⟩
def yc5:Shape:=⟨[(2,false,[.ptr 64 0]),(3,false,[.ptr 4224 0]),(4,false,[.ci .i64 0])],[(64,[.nil,.nil,.bool,.nil]),(4224,[.at 800000000,.at 800000001,.bool,.at 800000002])],[(800000000,tL,.fz),(800000001,tW,(.pr .fz .fz)),(800000002,tI,.fz)]⟩
def yc3:Shape:=⟨[(2,false,[.ptr 64 0]),(3,false,[.ptr 4224 0])],[(64,[.nil,.nil,.bool,.nil]),(4224,[.at 800000000,.at 800000001,.bool,.at 800000002])],[(800000000,tL,.fz),(800000001,tW,(.pr .fz .fz)),(800000002,tI,.fz)]⟩
def ygk:Shape:=⟨[],[],[]⟩
abbrev yjB (v0:Int) (v1:dM) (v2:dM):(yaE).X:=((((),()),((),()),(v0,()),()),(((),(),v1.2.2.1,(),()),((),(),v2.2.2.1,(),()),()),(v2.1,v2.2.1,v2.2.2.2,()))
abbrev yAE (v0:dM) (v1:dM):(yc5).X:=((((),()),((),()),((),()),()),(((),(),v0.2.2.1,(),()),((),(),v1.2.2.1,(),()),()),(v1.1,v1.2.1,v1.2.2.2,()))
abbrev yqM (v0:dM) (v1:dM):(yc3).X:=((((),()),((),()),()),(((),(),v0.2.2.1,(),()),((),(),v1.2.2.1,(),()),()),(v1.1,v1.2.1,v1.2.2.2,()))
def yjE (v0:Int) (v1:Bool) (v2:Bool) (v3:List (List Int)) (v4:List dW) (v5:List Int):Option ((yaE).X ⊕ ((yc3).X ⊕ (ygk).X)) :=
  bif (ltb v0 (v4.length:Int)) then
    bif (inb v0 v4.length) then
      bif (inb v0 v4.length) then
        bif (inb ((nth v4 v0 (0,[])).1) v3.length) then
          let r4:=(v3.set ((nth v4 v0 (0,[])).1).toNat ((nth v4 v0 (0,[])).2))
          some (.inl ((((),()),((),()),((IntKind.i64.wrap (v0+1)),()),()),(((),(),v1,(),()),((),(),v2,(),()),()),(r4,v4,v5,())))
        else none
      else none
    else none
  else
    some (.inr (.inl ((((),()),((),()),()),(((),(),v1,(),()),((),(),v2,(),()),()),(v3,v4,v5,()))))
def yaN (x:(yaE).X):=yjE x.1.2.2.1.1 x.2.1.1.2.2.1 x.2.1.2.1.2.2.1 x.2.2.1 x.2.2.2.1 x.2.2.2.2.1
def yqH (x:(yc5).X):(yaE).X:=((((),()),((),()),(0,()),()),(((),(),x.2.1.1.2.2.1,(),()),((),(),x.2.1.2.1.2.2.1,(),()),()),(x.2.2.1,x.2.2.2.1,x.2.2.2.2.1,()))
def yrF:Code:=(zdI yfu 64 244).getD .skip
theorem yBp:zdI yfu 64 61=some (.block 0 (.loop yrF)):=by kernel_rfl
theorem yCh (x:(yaE).X):zg7 ⟨yjH,40,ysv⟩ 0 yrF 244 yaE yc3 ygk x=yaN x:=by kernel_rfl
def yqK (x:(yc5).X):Nat:=(fun (u0:Bool) (u1:Bool) (u2:List (List Int)) (u3:List dW) (u4:List Int)=>18446744073709551616) x.2.1.1.2.2.1 x.2.1.2.1.2.2.1 x.2.2.1 x.2.2.2.1 x.2.2.2.2.1
def ykK (x:(yc5).X):Option ((yc3).X ⊕ (ygk).X):=zr yaN (yqK x) (yqH x)
def yqO:Seg:=⟨yc5,yc3,ygk,ykK⟩
def ysw:Nat→Option Seg:=fun q=>bif Nat.beq q 61 then some yqO else ysv q
theorem yBH:FrOk Tryz.prog ⟨yjH,40,ysw⟩ yfu:=(yBG).loop (sg:=yqO) yaE yqH (by decide) yBp yaN yqK (by decide) (fun _=>rfl) (fun x r _ h=>h) yCh
abbrev ydg:List Par:= [.rd tM]
abbrev yjO:List OT:= [⟨false,tM,(.pr (.ow .fz) (.pr (.ow (.pr .fz .fz)) (.pr .fz (.ow .fz))))⟩]
def ygW (a0:dM):Option (ResD yjO×MutD ydg) :=
  let r1:=yX a0
  let r2:=y5 a0
  bif (!(!r2)) then
    bif a0.2.2.1 then
      some ((r1,()),())
    else
      zjw (ykK ((((),()),((),()),((),()),()),(((),(),false,(),()),((),(),r1.2.2.1,(),()),()),(r1.1,r1.2.1,r1.2.2.2,()))) (fun y4 =>
        some (((y4.2.2.1,([]:List dW),y4.2.1.2.1.2.2.1,y4.2.2.2.2.1),()),())) (fun y4 =>
        none)
  else
    some ((r1,()),())
theorem yHE (x:InD ydg):zjH ⟨yjH,40,ysw⟩ Tryz.f266.results.toList yfu ydg yjO x=ygW x.1:=by kernel_rfl
theorem yDA:ConOk Tryz.prog 266 ⟨ydg,yjO,fun x=>ygW x.1⟩:=zkh (yBH) Tryz.func266 (by kernel_rfl) (by kernel_rfl) Tryz.ntmps266.symm (by decide) (fun x r h=>(yHE x).trans h)
def yb6 (a0:dM):dM:=ygz a0
theorem yF1 (a0:dM) (hk:zi9 ydg (a0,())):ygW a0=(fun n=>some ((n,()),())) (yb6 a0):=by
  have hb2:a0.2.1.length * 32≤2 ^ 47:=hk.1.2.1.1
  unfold ygW yb6 ygz
  simp only [yX,y5]
  cases hm:yz a0
  · rfl
  have h1:ykK (yAE yg a0)=some (.inl (yqM yg (yd6 (fun _=>true) a0.2.1 a0.1,a0.2))) :=
    zks (step:=yaN) a0.2.1.length (fun i s=>yjB i yg (s,a0.2)) (ygr (fun _=>true) a0.2.1) (fun i s=>s.length=a0.1.length) (fun s=> .inl (yqM yg (s,a0.2))) (fun i s hi hs=>by
      have hw:=(yQz hm hi).1
      refine ⟨?_,yIG.trans hs⟩
      simp only [yaN,yjB,yjE,zjI (show (i:Int) < a0.2.1.length by omega),cond_true,wr (show -9223372036854775808≤(i:Int)+1 by omega) (by omega),Int.natCast_add,Int.natCast_one,Int.toNat_natCast,zkO hi,hs,hw,ygr]) (fun s hs=>by simp only [yaN,yjB,yjE,zkm (Int.le_refl _),cond_false]) a0.1 rfl _ (by show _ < 18446744073709551616; omega)
  rw [h1]
  cases hf:a0.2.2.1
  · exact congrArg (fun z=>some (((yd6 (fun _=>true) a0.2.1 a0.1,([]:List dW),z,a0.2.2.2),()),())) hf
  · rfl
def ymj:Con:=⟨ydg,yjO,fun x=>(fun n=>some ((n,()),())) (yb6 x.1)⟩
theorem yu9:ConOk Tryz.prog 266 ymj:=(yDA).mono (fun x r hk h=>(yF1 x.1 hk).trans h)
end
end
end Go.Tf
