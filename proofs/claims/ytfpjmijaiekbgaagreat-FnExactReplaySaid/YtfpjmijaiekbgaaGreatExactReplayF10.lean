/- Functions of the program, and what they come to. -/
import Derived.Test.YtfpjmijaiekbgaaGreatExactReplayF9
namespace Go.Tf
noncomputable section
open Go.Proofs
set_option synthInstance.maxHeartbeats 400000
set_option synthInstance.maxSize 10000
set_option linter.unusedVariables false
set_option linter.unusedSimpArgs false
set_option maxRecDepth 100000
section
def yfw:Code:=(Tryz.f250.body).getD .skip
def ykn:Env:=zki TT [] []
theorem yGz:FrOk Tryz.prog ⟨ykn,28,fun _=>none⟩ yfw:=zkp yb yc trivial
def ywj:Nat→Option Seg:=fun _=>none
def yad:Shape:=⟨[(0,false,[.br tI]),(1,false,[.int .i64]),(5,false,[.at 800000000]),(6,false,[.int .i64])],[],[(800000000,tI,.fz)]⟩
def ydg:Shape:=⟨[(0,false,[.br tI]),(1,false,[.int .i64]),(5,false,[.at 800000000]),(6,false,[.ci .i64 0])],[],[(800000000,tI,.fz)]⟩
def yde:Shape:=⟨[(5,false,[.at 800000000])],[],[(800000000,tI,.fz)]⟩
def ygc:Shape:=⟨[],[],[]⟩
abbrev yk0 (v0:List Int) (v1:Int) (v2:Int) (v3:List Int):(yad).X:=(((v0,()),(v1,()),((),()),(v2,()),()),(),(v3,()))
abbrev yFl (v0:List Int) (v1:Int) (v2:List Int):(ydg).X:=(((v0,()),(v1,()),((),()),((),()),()),(),(v2,()))
abbrev yFj (v0:List Int):(yde).X:=((((),()),()),(),(v0,()))
def ylq (v0:List Int) (v1:Int) (v2:Int) (v3:List Int):Option ((yad).X ⊕ ((yde).X ⊕ (ygc).X)) :=
  bif (ltb v2 (v0.length:Int)) then
    bif (inb v2 v0.length) then
      bif ((nth v0 v2 0) !=v1) then
        bif (inb v2 v0.length) then
          bif (zj4 v3.length ([(nth v0 v2 0)]:List Int).length 8) then
            some (.inl (((v0,()),(v1,()),((),()),((IntKind.i64.wrap (v2+1)),()),()),(),((v3++([(nth v0 v2 0)]:List Int)),())))
          else none
        else none
      else
        some (.inl (((v0,()),(v1,()),((),()),((IntKind.i64.wrap (v2+1)),()),()),(),(v3,())))
    else none
  else
    some (.inr (.inl ((((),()),()),(),(v3,()))))
def yao (x:(yad).X):=ylq x.1.1.1 x.1.2.1.1 x.1.2.2.2.1.1 x.2.2.1
def yuk (x:(ydg).X):(yad).X:=(((x.1.1.1,()),(x.1.2.1.1,()),((),()),(0,()),()),(),(x.2.2.1,()))
def yuT:Code:=(zdI yfw 64 116).getD .skip
theorem yGo:zdI yfw 64 29=some (.block 0 (.loop yuT)):=by kernel_rfl
theorem yGQ (x:(yad).X):zg7 ⟨ykn,28,ywj⟩ 0 yuT 116 yad yde ygc x=yao x:=by kernel_rfl
def yuo (x:(ydg).X):Nat:=(fun (u0:List Int) (u1:Int) (u2:List Int)=>18446744073709551616) x.1.1.1 x.1.2.1.1 x.2.2.1
def ymf (x:(ydg).X):Option ((yde).X ⊕ (ygc).X):=zr yao (yuo x) (yuk x)
def yuN:Seg:=⟨ydg,yde,ygc,ymf⟩
def ywk:Nat→Option Seg:=fun q=>bif Nat.beq q 29 then some yuN else ywj q
theorem yGA:FrOk Tryz.prog ⟨ykn,28,ywk⟩ yfw:=(yGz).loop (sg:=yuN) yad yuk (by decide) yGo yao yuo (by decide) (fun _=>rfl) (fun x r _ h=>h) yGQ
abbrev ydn:List Par:= [.rd tL,.rd tI]
abbrev ykJ:List OT:= [⟨false,tL,(.ow .fz)⟩]
def yim (a0:List Int) (a1:Int):Option (ResD ykJ×MutD ydn) :=
  zjw (ymf (((a0,()),(a1,()),((),()),((),()),()),(),(([]:List Int),()))) (fun y0 =>
    some ((y0.2.2.1,()),())) (fun y0 =>
    none)
theorem yMg (x:InD ydn):zjH ⟨ykn,28,ywk⟩ Tryz.f250.results.toList yfw ydn ykJ x=yim x.1 x.2.1:=by kernel_rfl
theorem yIX:ConOk Tryz.prog 250 ⟨ydn,ykJ,fun x=>yim x.1 x.2.1⟩:=zkh (yGA) Tryz.func250 (by kernel_rfl) (by kernel_rfl) Tryz.ntmps250.symm (by decide) (fun x r h=>(yMg x).trans h)
def yf1 (a0:List Int) (a1:Int):List Int:=yUI a0 a1
theorem yHP {α:Type} (p:α→Bool): ∀ (l:List α) (s:List α),l.foldl (fun s x=>bif p x then s++ [x] else s) s=s++l.filter p
  | [],s=>by simp
  | x::l,s=>by
    rw [List.foldl_cons,yHP p l,List.filter_cons]
    cases p x<;>simp
theorem yKO (a0:List Int) (a1:Int) (hk:zi9 ydn (a0,a1,())):yim a0 a1=(fun n=>some ((n,()),())) (yf1 a0 a1):=by
  have hb:a0.length * 8≤2 ^ 47:=hk.1.1
  have h1:=zkk (step:=yao) a0 0 (fun i s=>yk0 a0 a1 i s) (fun s x=>bif x !=a1 then s++ [x] else s) (fun i s=>s.length≤i) (fun s=> .inl (yFj s)) (fun i s hi hs=>by
      constructor
      · simp only [yao,yk0,ylq,zjI (show (i:Int) < a0.length by omega),cond_true,wr (show -9223372036854775808≤(i:Int)+1 by omega) (by omega),Int.natCast_add,Int.natCast_one,Int.toNat_natCast,zkO hi,zjW]
        rw [zkw.2 (show (s.length+ [a0.getD i 0].length) * 8≤140737488355328 by simp only [List.length_cons,List.length_nil]; omega)]
        cases (a0.getD i 0 !=a1)<;>rfl
      · cases (a0.getD i 0 !=a1)
        · show s.length≤_; omega
        · simp only [cond_true,List.length_append,List.length_cons,List.length_nil]; omega) (fun s _=>by simp only [yao,yk0,ylq,zkm (Int.le_refl _),cond_false]) [] (Nat.le_refl _) 18446744073709551616 (by omega)
  unfold yim yf1 yUI
  rw [show ymf (yFl a0 a1 [])=_ from h1,yHP]; rfl
def ywB:Con:=⟨ydn,ykJ,fun x=>(fun n=>some ((n,()),())) (yf1 x.1 x.2.1)⟩
theorem yLe:ConOk Tryz.prog 250 ywB:=(yIX).mono (fun x r hk h=>(yKO x.1 x.2.1 hk).trans h)
end
section
def yCg:Code:=(Tryz.f214.body).getD .skip
def yCT:Env:=zki TT [(98,yz),(147,ynq),(218,yjU),(249,yvE),(250,ywB)] [(16832,(.pr .fz .fz))]
theorem yIj:FrOk Tryz.prog ⟨yCT,55,fun _=>none⟩ yCg:=zkp yb yc ⟨yP,yvH,yr4,yGh,yLe,trivial⟩
def yJv:Nat→Option Seg:=fun _=>none
abbrev yeg:List Par:= [.rd tM,.rd tI,.rd tL]
abbrev ynd:List OT:= [⟨false,tM,(.pr (.ow .fz) (.pr (.ow (.pr .fz .fz)) (.pr .fz (.ow .fz))))⟩,⟨false,tB,.fz⟩]
def yjf (a0:dM) (a1:Int) (a2:List Int):Option (ResD ynd×MutD yeg) :=
  let r1:=ybC a0
  let r2:=yaB a0
  bif (!(!r2)) then
    bif (!a0.2.2.1) then
      let r3:=ya a1 0 (IntKind.i64.wrap ((a0.1.length:Int) - 1))
      bif (!(!r3)) then
        let r4:=yf0 a2
        bif (!(!r4)) then
          bif (leb 60 (a0.2.1.length:Int)) then
            some ((r1,false,()),())
          else
            bif (zj4 ([]:List Int).length a2.length 8) then
              bif (zj4 r1.2.1.length ([(a1,(([]:List Int)++a2))]:List dW).length 32) then
                let r5:=yf1 a0.2.2.2 a1
                some (((r1.1,(r1.2.1++([(a1,(([]:List Int)++a2))]:List dW)),r1.2.2.1,r5),true,()),())
              else none
            else none
        else
          some ((r1,false,()),())
      else
        some ((r1,false,()),())
    else
      some ((r1,false,()),())
  else
    some ((r1,false,()),())
theorem yPR (x:InD yeg):zjH ⟨yCT,55,yJv⟩ Tryz.f214.results.toList yCg yeg ynd x=yjf x.1 x.2.1 x.2.2.1:=by kernel_rfl
theorem yK7:ConOk Tryz.prog 214 ⟨yeg,ynd,fun x=>yjf x.1 x.2.1 x.2.2.1⟩:=zkh (yIj) Tryz.func214 (by kernel_rfl) (by kernel_rfl) Tryz.ntmps214.symm (by decide) (fun x r h=>(yPR x).trans h)
def yib (a0:dM) (a1:Int) (a2:List Int):dM×Bool:=yip a0 a1 a2
theorem yNT (a0:dM) (a1:Int) (a2:List Int) (hk:zi9 yeg (a0,a1,a2,())):yjf a0 a1 a2=(fun n=>some ((n.1,n.2,()),())) (yib a0 a1 a2):=by
  have hb1:a0.1.length * 24≤2 ^ 47:=hk.1.1.1
  have hb2:a2.length * 8≤2 ^ 47:=hk.2.2.1.1
  unfold yjf yib yip yvA
  simp only [ybC,yaB,yq8 (show a0.1.length≤1152921504606846976 by omega),yDU,yf1,List.nil_append]
  cases yo a0
  · rfl
  cases a0.2.2.1
  · cases inb a1 a0.1.length
    · rfl
    cases ybc a2
    · rfl
    by_cases h:(a0.2.1.length:Int) < 60
    · rw [zjI h,zkZ h,zkw.2 (show (([]:List Int).length+a2.length) * 8≤140737488355328 by rw [List.length_nil]; omega),zkw.2 (show (a0.2.1.length+ [(a1,a2)].length) * 32≤140737488355328 by simp only [List.length_cons,List.length_nil]; omega)]; rfl
    · rw [zkm (by omega),zk0 (by omega)]; rfl
  · rfl
def yyT:Con:=⟨yeg,ynd,fun x=>(fun n=>some ((n.1,n.2,()),())) (yib x.1 x.2.1 x.2.2.1)⟩
theorem yOv:ConOk Tryz.prog 214 yyT:=(yK7).mono (fun x r hk h=>(yNT x.1 x.2.1 x.2.2.1 hk).trans h)
end
section
def yD0:Code:=(Tryz.f262.body).getD .skip
def yEr:Env:=zki TT [(98,yz),(141,ypI)] []
theorem yKp:FrOk Tryz.prog ⟨yEr,60,fun _=>none⟩ yD0:=zkp yb yc ⟨yP,yxK,trivial⟩
def yLS:Nat→Option Seg:=fun _=>none
abbrev yjK:List Par:= [.rd tS]
abbrev ypE:List OT:= [⟨false,tB,.fz⟩]
def ysJ (a0:dS):Option (ResD ypE×MutD yjK) :=
  let r1:=yf (a0.2.2.2.1,a0.2.2.2.2.1)
  bif (!(!r1)) then
    let r2:=ya a0.1 1 60000
    bif (!(!r2)) then
      let r3:=ya a0.2.1 0 60000
      bif (!(!r3)) then
        let r4:=ya a0.2.2.1 0 (IntKind.i64.wrap (a0.2.2.2.1 - 1))
        bif (!(!r4)) then
          let r5:=ya a0.2.2.2.2.2.1 0 60000
          bif (!r5) then
            some ((false,()),())
          else
            let r6:=ya a0.2.2.2.2.2.2.1 (-1) (IntKind.i64.wrap (a0.2.2.2.1 - 1))
            bif r6 then
              let r7:=ya a0.2.2.2.2.2.2.2 0 a0.2.2.2.2.1
              bif r7 then
                bif (!(leb 0 a0.2.2.2.2.2.2.1)) then
                  some (((a0.2.2.2.2.2.2.2==0),()),())
                else
                  some ((true,()),())
              else
                some ((false,()),())
            else
              some ((false,()),())
        else
          some ((false,()),())
      else
        some ((false,()),())
    else
      some ((false,()),())
  else
    some ((false,()),())
theorem ySW (x:InD yjK):zjH ⟨yEr,60,yLS⟩ Tryz.f262.results.toList yD0 yjK ypE x=ysJ x.1:=by kernel_rfl
theorem yOe:ConOk Tryz.prog 262 ⟨yjK,ypE,fun x=>ysJ x.1⟩:=zkh (yKp) Tryz.func262 (by kernel_rfl) (by kernel_rfl) Tryz.ntmps262.symm (by decide) (fun x r h=>(ySW x).trans h)
def yb2 (a0:dS):Bool :=
  let r1:=yf (a0.2.2.2.1,a0.2.2.2.2.1)
  bif (!(!r1)) then
    let r2:=ya a0.1 1 60000
    bif (!(!r2)) then
      let r3:=ya a0.2.1 0 60000
      bif (!(!r3)) then
        let r4:=ya a0.2.2.1 0 (IntKind.i64.wrap (a0.2.2.2.1 - 1))
        bif (!(!r4)) then
          let r5:=ya a0.2.2.2.2.2.1 0 60000
          bif (!r5) then
            false
          else
            let r6:=ya a0.2.2.2.2.2.2.1 (-1) (IntKind.i64.wrap (a0.2.2.2.1 - 1))
            bif r6 then
              let r7:=ya a0.2.2.2.2.2.2.2 0 a0.2.2.2.2.1
              bif r7 then
                bif (!(leb 0 a0.2.2.2.2.2.2.1)) then
                  (a0.2.2.2.2.2.2.2==0)
                else
                  true
              else
                false
            else
              false
        else
          false
      else
        false
    else
      false
  else
    false
def yAZ:Con:=⟨yjK,ypE,fun x=>(fun n=>some ((n,()),())) (yb2 x.1)⟩
theorem yQZ (a0:dS):ysJ a0=(fun n=>some ((n,()),())) (yb2 a0):=zkS (p:=fun (n:Bool)=>((n,()),())) (zkx (p:=fun (n:Bool)=>((n,()),())) (zkx (p:=fun (n:Bool)=>((n,()),())) (zkx (p:=fun (n:Bool)=>((n,()),())) (zkx (p:=fun (n:Bool)=>((n,()),())) (zkx (p:=fun (n:Bool)=>((n,()),())) rfl (zkx (p:=fun (n:Bool)=>((n,()),())) (zkx (p:=fun (n:Bool)=>((n,()),())) (zkx (p:=fun (n:Bool)=>((n,()),())) rfl rfl) rfl) rfl)) rfl) rfl) rfl) rfl)
theorem yRU:ConOk Tryz.prog 262 yAZ:=(yOe).mono (fun x r _ h=>(yQZ x.1).trans h)
abbrev yTL:dS:=(0,0,0,0,0,0,0,0)
theorem yXG {s:dS}:yb2 s=true↔yf (s.2.2.2.1,s.2.2.2.2.1)=true∧(1≤s.1∧s.1≤60000)∧(0≤s.2.1∧s.2.1≤60000)∧(0≤s.2.2.1∧s.2.2.1≤s.2.2.2.1 - 1)∧(0≤s.2.2.2.2.2.1∧s.2.2.2.2.2.1≤60000)∧(-1≤s.2.2.2.2.2.2.1∧s.2.2.2.2.2.2.1≤s.2.2.2.1 - 1)∧(0≤s.2.2.2.2.2.2.2∧s.2.2.2.2.2.2.2≤s.2.2.2.2.1)∧(0≤s.2.2.2.2.2.2.1∨s.2.2.2.2.2.2.2=0):=by
  unfold yb2
  cases hg:yf (s.2.2.2.1,s.2.2.2.2.1)
  · simp
  have hg2:=yaF.1 hg
  simp only at hg2
  rw [wr (show -9223372036854775808≤s.2.2.2.1 - 1 by omega) (by omega)]
  simp only [Bool.not_not,cond_true,true_and]
  simp only [← yq7]
  cases ya s.1 1 60000
  · simp
  cases ya s.2.1 0 60000
  · simp
  cases ya s.2.2.1 0 (s.2.2.2.1 - 1)
  · simp
  cases ya s.2.2.2.2.2.1 0 60000
  · simp
  cases ya s.2.2.2.2.2.2.1 (-1) (s.2.2.2.1 - 1)
  · simp
  cases ya s.2.2.2.2.2.2.2 0 s.2.2.2.2.1
  · simp
  cases hl:leb 0 s.2.2.2.2.2.2.1
  · have:=mt zk0 (by rw [hl]; simp: ¬ leb 0 s.2.2.2.2.2.2.1=true)
    simp [this]
  · simp [zjQ.1 hl]
def yXO (l:List Int):dS:=(nth l 1 0,nth l 2 0,nth l 3 0,nth l 4 0,nth l 5 0,nth l 6 0,IntKind.i64.wrap (nth l 7 0 - 1),nth l 8 0)
def yW6 (l:List Int):dS×Bool:=bif (l.length:Int)==9&&(nth l 0 0==21317&&yb2 (yXO l)) then (yXO l,true) else (yTL,false)
def yYb (m:dM) (i:Int):dS:=(yW6 (yv m i).1).1
def yWB (m:dM) (id i:Int):Bool:=(yv m i).2&&((yW6 (yv m i).1).2&&((yYb m i).1==id&&(yYb m i).2.1.tmod 2==i))
def yWA (b:dS×Bool) (ok:Bool) (s:dS):dS×Bool:=bif ok&&(!b.2||ltb b.1.2.1 s.2.1) then (s,true) else b
def ywl (m:dM) (id:Int):dS×Bool:=(List.range 2).foldl (fun s (i:Nat)=>yWA s (yWB m id i) (yYb m i)) (yTL,false)
def yYy (m:dM) (i id:Int):Bool:= !m.2.2.1&&((ywl m id).2&&(ywl m id).1.2.2.1==i)
def yzJ (l:List dM) (id:Int):dS×Bool:=(List.range l.length).foldl (fun s (i:Nat)=>yWA s (yYy (nth l i yh) i id) (ywl (nth l i yh) id).1) (yTL,false)
def yYA (l:List dM) (id:Int) (s:Int×Int×Bool) (i:Nat):Int×Int×Bool:=bif yYy (nth l i yh) i id then s else bif s.1== -1||s.1==i then ((i:Int),0,s.2.2) else (s.1,s.2.1,true)
def yYS (b:dS) (l:List dM) (id:Int) (s:Int×Int×Bool):dA:=(id,(b.2.2.2.1,b.2.2.2.2.1),l,s.1,s.2.1,b.2.2.2.2.2.1,b.2.2.2.2.2.1,b.2.1,[],-1,false,s.2.2)
def yPx (l:List dM) (id:Int):dA:=yYS (yzJ l id).1 l id ((List.range l.length).foldl (yYA l id) ((yzJ l id).1.2.2.2.2.2.2.1,(yzJ l id).1.2.2.2.2.2.2.2,false))
def ydx (l:List dM) (id:Int):dA×Bool:=bif (yzJ l id).2&&((l.length:Int)==(yzJ l id).1.2.2.2.1&&yci (yPx l id)) then (yPx l id,true) else (ynw,false)
theorem yYa (b:dS×Bool) (s:dS):yWA b false s=b:=rfl
theorem yXD {m:dM} {i:Int} (h:(yv m i).2=true):yo m=true:=by
  unfold yv at h
  cases hc:yJj m i
  · rw [hc]at h; cases h
  · exact (Bool.and_eq_true_iff.1 hc).1
theorem yYc {m:dM} {id i:Int} (h:yo m=false):yWB m id i=false:=by
  unfold yWB
  cases hr:(yv m i).2
  · rfl
  · rw [yXD hr]at h; cases h
theorem yZn {m:dM} {id:Int} (h:(ywl m id).2=true):yo m=true:=by
  cases hm:yo m
  · unfold ywl at h
    simp only [yYc hm,yYa]at h
    exact h
  · rfl
end
section
def yCf:Code:=(Tryz.f241.body).getD .skip
def yCS:Env:=zki TT [(262,yAZ)] []
theorem yIi:FrOk Tryz.prog ⟨yCS,25,fun _=>none⟩ yCf:=zkp yb yc ⟨yRU,trivial⟩
def yJu:Nat→Option Seg:=fun _=>none
abbrev yg1:List Par:= [.rd tS]
abbrev ync:List OT:= [⟨false,tL,(.ow .fz)⟩]
def yqJ (a0:dS):Option (ResD ync×MutD yg1) :=
  let r1:=yb2 a0
  bif (!r1) then
    some ((([]:List Int),()),())
  else
    some ((([21317,a0.1,a0.2.1,a0.2.2.1,a0.2.2.2.1,a0.2.2.2.2.1,a0.2.2.2.2.2.1,(IntKind.i64.wrap (a0.2.2.2.2.2.2.1+1)),a0.2.2.2.2.2.2.2]:List Int),()),())
theorem yPQ (x:InD yg1):zjH ⟨yCS,25,yJu⟩ Tryz.f241.results.toList yCf yg1 ync x=yqJ x.1:=by kernel_rfl
theorem yK6:ConOk Tryz.prog 241 ⟨yg1,ync,fun x=>yqJ x.1⟩:=zkh (yIi) Tryz.func241 (by kernel_rfl) (by kernel_rfl) Tryz.ntmps241.symm (by decide) (fun x r h=>(yPQ x).trans h)
def yaj (a0:dS):(List Int) :=
  let r1:=yb2 a0
  bif (!r1) then
    ([]:List Int)
  else
    ([21317,a0.1,a0.2.1,a0.2.2.1,a0.2.2.2.1,a0.2.2.2.2.1,a0.2.2.2.2.2.1,(IntKind.i64.wrap (a0.2.2.2.2.2.2.1+1)),a0.2.2.2.2.2.2.2]:List Int)
def yyS:Con:=⟨yg1,ync,fun x=>(fun n=>some ((n,()),())) (yaj x.1)⟩
theorem yNS (a0:dS):yqJ a0=(fun n=>some ((n,()),())) (yaj a0):=zkS (p:=fun (n:(List Int))=>((n,()),())) (zkx (p:=fun (n:(List Int))=>((n,()),())) rfl rfl)
theorem yOu:ConOk Tryz.prog 241 yyS:=(yK6).mono (fun x r _ h=>(yNS x.1).trans h)
abbrev yd (a:dA):Bool:=a.2.2.2.2.2.2.2.2.2.2.1
def yJn (a:dA) (f:Int) (d:Bool):dA:=(a.1,a.2.1,a.2.2.1,a.2.2.2.1,a.2.2.2.2.1,a.2.2.2.2.2.1,a.2.2.2.2.2.2.1,a.2.2.2.2.2.2.2.1,a.2.2.2.2.2.2.2.2.1,f,d,a.2.2.2.2.2.2.2.2.2.2.2)
def opA (a:dA):Bool×dA:=bif yd a then (false,a) else bif a.2.2.2.2.2.2.2.2.2.1==0 then (false,yJn a (-1) true) else bif ltb 0 a.2.2.2.2.2.2.2.2.2.1 then (true,yJn a (IntKind.i64.wrap (a.2.2.2.2.2.2.2.2.2.1 - 1)) (yd a)) else (true,a)
def yBL (a:dA) (m:Int) (x:dM):dA:=(a.1,a.2.1,a.2.2.1.set m.toNat x,a.2.2.2)
def yfb (a:dA) (m n:Int) (s:List Int):dA:=bif (nth a.2.2.1 m yh).2.2.1 then a else bif (opA a).1 then yBL (opA a).2 m (yip (nth a.2.2.1 m yh) n s).1 else (opA a).2
def yF (a:dA) (i:Nat):dA:=bif (nth a.2.2.1 i yh).2.2.1 then a else bif (opA a).1 then yBL (opA a).2 i (yfT (nth a.2.2.1 i yh)) else (opA a).2
def yH (a:dA):dA:=(List.range a.2.2.1.length).foldl yF a
def yY5 (a:dA) (i:Int):dS:=(a.1,a.2.2.2.2.2.2.2.1,i,a.2.1.1,a.2.1.2,a.2.2.2.2.2.2.1,a.2.2.2.1,a.2.2.2.2.1)
def yaG (a:dA) (i:Nat):dA:=yfb a i (a.2.2.2.2.2.2.2.1.tmod 2) (yaj (yY5 a i))
def yns (a:dA):dA:=(a.1,a.2.1,a.2.2.1,a.2.2.2.1,a.2.2.2.2.1,a.2.2.2.2.2.1,a.2.2.2.2.2.2.1,IntKind.i64.wrap (a.2.2.2.2.2.2.2.1+1),a.2.2.2.2.2.2.2.2)
def ygd (a:dA):dA:=yH ((List.range a.2.2.1.length).foldl yaG (yns a))
theorem ydD (a:dA):(opA a).2.2.2.1=a.2.2.1:=by
  unfold opA
  cases yd a
  · cases (a.2.2.2.2.2.2.2.2.2.1==0)
    · cases ltb 0 a.2.2.2.2.2.2.2.2.2.1<;>rfl
    · rfl
  · rfl
theorem yUE {a:dA} (h:yd a=false):yd (opA a).2= !(opA a).1:=by
  unfold opA
  rw [h]
  cases (a.2.2.2.2.2.2.2.2.2.1==0)
  · cases ltb 0 a.2.2.2.2.2.2.2.2.2.1
    · exact h
    · rfl
  · rfl
theorem yXN {a:dA} (h:yd a=true):opA a=(false,a):=by unfold opA; rw [h]; rfl
theorem yzS (a:dA) (m n:Int) (s:List Int):(yfb a m n s).2.2.1.length=a.2.2.1.length:=by
  unfold yfb
  cases (nth a.2.2.1 m yh).2.2.1
  · cases (opA a).1
    · show (opA a).2.2.2.1.length=_; rw [ydD]
    · show ((opA a).2.2.2.1.set m.toNat _).length=_; rw [List.length_set,ydD]
  · rfl
theorem ywc (a:dA) (i:Nat):(yF a i).2.2.1.length=a.2.2.1.length:=by
  unfold yF
  cases (nth a.2.2.1 i yh).2.2.1
  · cases (opA a).1
    · show (opA a).2.2.2.1.length=_; rw [ydD]
    · show ((opA a).2.2.2.1.set _ _).length=_; rw [List.length_set,ydD]
  · rfl
theorem yso {one:dA→Nat→dA} (h: ∀ a i,(one a i).2.2.1.length=a.2.2.1.length): ∀ (l:List Nat) (a:dA),(l.foldl one a).2.2.1.length=a.2.2.1.length
  | [],_=>rfl
  | x::l,a=>by rw [List.foldl_cons,yso h l,h]
theorem yB1 (a:dA):(yH a).2.2.1.length=a.2.2.1.length:=yso ywc _ _
theorem yOB {a:dA} (h:yd a=true) (m n:Int) (s:List Int):yfb a m n s=a:=by
  unfold yfb
  rw [yXN h]
  cases (nth a.2.2.1 m yh).2.2.1<;>rfl
theorem yJi {a:dA} (i:Nat) (h:yd a=true):yF a i=a:=by
  unfold yF
  rw [yXN h]
  cases (nth a.2.2.1 i yh).2.2.1<;>rfl
theorem yHO {one:dA→Nat→dA} (hs: ∀ a i,yd a=true→one a i=a): ∀ (l:List Nat) (a:dA),yd a=true→l.foldl one a=a
  | [],_,_=>rfl
  | x::l,a,h=>by rw [List.foldl_cons,hs a x h]; exact yHO hs l a h
theorem yUV {a:dA} (h:yd a=true):yH a=a:=yHO (fun _ i h=>yJi i h) _ a h
theorem yYn {a:dA} (h:yd a=false) (m n:Int) (s:List Int):yd (yfb a m n s)=(!(nth a.2.2.1 m yh).2.2.1&& !(opA a).1):=by
  have:=yUE h
  unfold yfb
  cases (nth a.2.2.1 m yh).2.2.1
  · cases ho:(opA a).1
    · rw [ho]at this; exact this
    · rw [ho]at this; exact this
  · exact h
theorem yXt {a:dA} (h:yd a=false) (i:Nat):yd (yF a i)=(!(nth a.2.2.1 i yh).2.2.1&& !(opA a).1):=by
  have:=yUE h
  unfold yF
  cases (nth a.2.2.1 i yh).2.2.1
  · cases ho:(opA a).1
    · rw [ho]at this; exact this
    · rw [ho]at this; exact this
  · exact h
theorem yBy {one:dA→Nat→dA} (hs: ∀ a i,yd a=true→one a i=a): ∀ (k i:Nat) (s:dA),goE (fun i s=>bif yd (one s i) then (.inr (one s i):dA ⊕ dA) else .inl (one s i)) id k i s=(List.range' i k).foldl one s
  | 0,_,_=>rfl
  | k+1,i,s=>by
    rw [List.range'_succ,List.foldl_cons,goE]
    cases hd:yd (one s i)
    · exact yBy hs k (i+1) (one s i)
    · exact (yHO hs _ _ hd).symm
theorem ySh (a:dA):yrb a=opA a:=by kernel_rfl
theorem yXm {a:dA} {m n:Int} {s:List Int} (h:yZ a.2.2.1) (hm:inb m a.2.2.1.length=true):yZ (yfb a m n s).2.2.1:=by
  unfold yfb
  cases (nth a.2.2.1 m yh).2.2.1
  · cases (opA a).1
    · show yZ (opA a).2.2.2.1; rw [ydD]; exact h
    · show yZ ((opA a).2.2.2.1.set m.toNat _); rw [ydD]; exact yRD h (yYs _ _ (yUS h hm))
  · exact h
theorem yXu {a:dA} {i:Nat} (h:yZ a.2.2.1) (hi:i < a.2.2.1.length):yZ (yF a i).2.2.1:=by
  unfold yF
  cases (nth a.2.2.1 i yh).2.2.1
  · cases (opA a).1
    · show yZ (opA a).2.2.2.1; rw [ydD]; exact h
    · show yZ ((opA a).2.2.2.1.set _ _); rw [ydD]; exact yRD h (yYg (yUS h (zkO hi)))
  · exact h
theorem yHN {one:dA→Nat→dA} (hl: ∀ a i,(one a i).2.2.1.length=a.2.2.1.length) (ho: ∀ a i,yZ a.2.2.1→i < a.2.2.1.length→yZ (one a i).2.2.1): ∀ (n:Nat) (a:dA),n≤a.2.2.1.length→yZ a.2.2.1→yZ ((List.range n).foldl one a).2.2.1
  | 0,_,_,h=>h
  | n+1,a,hn,h=>by
    rw [List.range_succ,List.foldl_append]
    exact ho _ _ (yHN hl ho n a (by omega) h) (by rw [yso hl]; exact hn)
theorem yDG {a:dA} (h:yZ a.2.2.1):yZ (yH a).2.2.1:=yHN ywc (fun _ _=>yXu) _ a (Nat.le_refl _) h
theorem yIp {a:dA} (h:yZ a.2.2.1):yZ (ygd a).2.2.1 :=
  yDG (yHN (one:=yaG) (fun _ _=>yzS _ _ _ _) (fun _ _ h hi=>yXm h (zkO hi)) _ (yns a) (Nat.le_refl _) h)
theorem yM9 (a:dA):(ygd a).2.2.1.length=a.2.2.1.length:=(yB1 _).trans (yso (one:=yaG) (fun _ _=>yzS _ _ _ _) _ (yns a))
theorem yFp (a:dA):(opA a).2.2.2.2.2.2.2.2.2.1=a.2.2.2.2.2.2.2.2.1:=by
  unfold opA
  cases yd a
  · cases (a.2.2.2.2.2.2.2.2.2.1==0)
    · cases ltb 0 a.2.2.2.2.2.2.2.2.2.1<;>rfl
    · rfl
  · rfl
theorem yUT (a:dA) (m n:Int) (s:List Int):(yfb a m n s).2.2.2.2.2.2.2.2.1=a.2.2.2.2.2.2.2.2.1:=by
  unfold yfb
  cases (nth a.2.2.1 m yh).2.2.1
  · cases (opA a).1
    · exact yFp a
    · exact yFp a
  · rfl
theorem yWy (a:dA) (i:Nat):(yF a i).2.2.2.2.2.2.2.2.1=a.2.2.2.2.2.2.2.2.1:=by
  unfold yF
  cases (nth a.2.2.1 i yh).2.2.1
  · cases (opA a).1
    · exact yFp a
    · exact yFp a
  · rfl
theorem yE9 {one:dA→Nat→dA} (h: ∀ a i,(one a i).2.2.2.2.2.2.2.2.1=a.2.2.2.2.2.2.2.2.1): ∀ (l:List Nat) (a:dA),(l.foldl one a).2.2.2.2.2.2.2.2.1=a.2.2.2.2.2.2.2.2.1
  | [],_=>rfl
  | x::l,a=>by rw [List.foldl_cons,yE9 h l,h]
theorem yzQ (a:dA):(yH a).2.2.2.2.2.2.2.2.1=a.2.2.2.2.2.2.2.2.1:=yE9 yWy _ _
theorem yFi (a:dA):(ygd a).2.2.2.2.2.2.2.2.1=a.2.2.2.2.2.2.2.2.1:=(yzQ _).trans (yE9 (one:=yaG) (fun _ _=>yUT _ _ _ _) _ (yns a))
theorem yUK {a x:dA} (ha:yfU a≤2097152) (hl:x.2.2.1.length≤5) (hm:yZ x.2.2.1) (hd:x.2.2.2.2.2.2.2.2.1=a.2.2.2.2.2.2.2.2.1):yfU x≤2105000:=by
  have:=yIY hm
  have:x.2.2.1.length * 1041≤5 * 1041:=Nat.mul_le_mul_right _ hl
  unfold yfU at ha ⊢
  rw [hd]
  omega
theorem yWz {a:dA} (h:yci a=true):a.2.2.1.length≤5:=by
  have h1:=yaF.1 (yHH h)
  have h2:=yHI h
  omega
def yrd (a:dA):dA:=(a.1,a.2.1,a.2.2.1,a.2.2.2.1,a.2.2.2.2.1,a.2.2.2.2.2.1,a.2.2.2.2.2.1,a.2.2.2.2.2.2.2)
def yQ (a:dA):dA:=bif yd (yH a) then yH a else ygd (yrd (yH a))
theorem yPy {a:dA} (h:yZ a.2.2.1):yZ (yQ a).2.2.1:=by
  unfold yQ
  cases yd (yH a)
  · exact yIp (a:=yrd (yH a)) (yDG h)
  · exact yDG h
theorem yHK (a:dA):(yQ a).2.2.1.length=a.2.2.1.length:=by
  unfold yQ
  cases yd (yH a)
  · exact (yM9 (yrd (yH a))).trans (yB1 a)
  · exact yB1 a
theorem yDJ (a:dA):(yQ a).2.2.2.2.2.2.2.2.1=a.2.2.2.2.2.2.2.2.1:=by
  unfold yQ
  cases yd (yH a)
  · exact (yFi (yrd (yH a))).trans (yzQ a)
  · exact yzQ a
def ysn (b:dA):dA:=(b.1,b.2.1,b.2.2.1,-1,0,b.2.2.2.2.2)
def yAt (a:dA):dA×Int:=bif yd (yQ a) then (yQ a,6) else (ygd (ysn (yQ a)),bif yd (ygd (ysn (yQ a))) then 6 else 0)
def yPu (a:dA):dA×Int :=
  bif !(yci a) then (a,1) else bif yd a then (a,6) else bif a.2.2.2.1== -1||((nth a.2.2.1 a.2.2.2.1 yh).2.2.1||ltb a.2.2.2.2.1 a.2.1.2) then (a,2) else bif a.2.2.2.2.2.2.2.2.2.2.2 then (a,5) else bif leb 59990 a.2.2.2.2.2.2.2.1 then (a,7) else yAt a
theorem yY0 {a:dA} (ha:yfU a≤2097152):yfU (yPu a).1≤2105000:=by
  have h0:yfU a≤2105000:=by omega
  unfold yPu
  cases hk:yci a
  · exact h0
  have h5:=yWz hk
  have hc:=yPy (yPw hk)
  have hn:=yUK (x:=ygd (ysn (yQ a))) ha (by rw [yM9,show (ysn (yQ a)).2.2.1=(yQ a).2.2.1 from rfl,yHK]; exact h5) (yIp (a:=ysn (yQ a)) hc) ((yFi _).trans (yDJ a))
  have hn2:=yUK (x:=yQ a) ha (by rw [yHK]; exact h5) hc (yDJ a)
  cases yd a
  · cases (a.2.2.2.1== -1||((nth a.2.2.1 a.2.2.2.1 yh).2.2.1||ltb a.2.2.2.2.1 a.2.1.2))
    · cases a.2.2.2.2.2.2.2.2.2.2.2
      · cases leb 59990 a.2.2.2.2.2.2.2.1
        · show yfU (yAt a).1≤_
          unfold yAt
          cases yd (yQ a)
          · exact hn
          · exact hn2
        · exact h0
      · exact h0
    · exact h0
  · exact h0
def ya9 (a:dA):Int×(Int×Int)×Int×Int×Int×Int×Int×List dW×Bool:=(a.1,a.2.1,a.2.2.2.1,a.2.2.2.2.1,a.2.2.2.2.2.1,a.2.2.2.2.2.2.1,a.2.2.2.2.2.2.2.1,a.2.2.2.2.2.2.2.2.1,a.2.2.2.2.2.2.2.2.2.2.2)
theorem yJm (a:dA):ya9 (opA a).2=ya9 a:=by
  unfold opA
  cases yd a
  · cases (a.2.2.2.2.2.2.2.2.2.1==0)
    · cases ltb 0 a.2.2.2.2.2.2.2.2.2.1<;>rfl
    · rfl
  · rfl
theorem yOA (a:dA) (m n:Int) (s:List Int):ya9 (yfb a m n s)=ya9 a:=by
  unfold yfb
  cases (nth a.2.2.1 m yh).2.2.1
  · cases (opA a).1
    · exact yJm a
    · exact yJm a
  · rfl
theorem yXs (a:dA) (i:Nat):ya9 (yF a i)=ya9 a:=by
  unfold yF
  cases (nth a.2.2.1 i yh).2.2.1
  · cases (opA a).1
    · exact yJm a
    · exact yJm a
  · rfl
theorem ywU {one:dA→Nat→dA} (h: ∀ a i,ya9 (one a i)=ya9 a): ∀ (l:List Nat) (a:dA),ya9 (l.foldl one a)=ya9 a
  | [],_=>rfl
  | x::l,a=>by rw [List.foldl_cons,ywU h l,h]
theorem yUU (a:dA):ya9 (yH a)=ya9 a:=ywU yXs _ _
theorem yZl (a:dA):ya9 (ygd a)=ya9 (yns a):=(yUU _).trans (ywU (one:=yaG) (fun _ _=>yOA _ _ _ _) _ _)
theorem yL9 {a b:dA} (h:ya9 a=ya9 b):a.2.1=b.2.1:=congrArg (fun x=>x.2.1) h
theorem yY2 {a b:dA} (h:ya9 a=ya9 b):a.2.2.2.2.1=b.2.2.2.2.1:=congrArg (fun x=>x.2.2.2.1) h
theorem yY3 {a b:dA} (h:ya9 a=ya9 b):a.2.2.2.2.2.2.2.2.1=b.2.2.2.2.2.2.2.2.1:=congrArg (fun x=>x.2.2.2.2.2.2.2.1) h
def yax (d:List dW) (x:dA):Prop:=x.2.2.1.length≤5∧yZ x.2.2.1∧x.2.2.2.2.2.2.2.2.1=d
theorem yXb {a:dA} (h:yci a=true):yax a.2.2.2.2.2.2.2.2.1 a:=⟨yWz h,yPw h,rfl⟩
theorem yXd {d:List dW} {a:dA} {m n:Int} {s:List Int} (h:yax d a) (hm:inb m a.2.2.1.length=true):yax d (yfb a m n s):=⟨by rw [yzS]; exact h.1,yXm h.2.1 hm,(yUT _ _ _ _).trans h.2.2⟩
theorem yX4 {d:List dW} {a:dA} (h:yax d a):yax d (yH a):=⟨by rw [yB1]; exact h.1,yDG h.2.1,(yzQ _).trans h.2.2⟩
theorem yX3 {d:List dW} {a:dA} (h:yax d a):yax d (ygd a):=⟨by rw [yM9]; exact h.1,yIp h.2.1,(yFi _).trans h.2.2⟩
theorem yFm {d:List dW} {a:dA} (h:yax d a):yax d (yQ a):=⟨by rw [yHK]; exact h.1,yPy h.2.1,(yDJ _).trans h.2.2⟩
theorem yFn {d:List dW} {x:dA} (h:yax d x):yfU x≤yJl d+5205:=by
  have:=yIY h.2.1
  have:x.2.2.1.length * 1041≤5 * 1041:=Nat.mul_le_mul_right _ h.1
  unfold yfU
  rw [h.2.2]
  omega
theorem yX9 {a x:dA} (ha:yfU a≤2097152) (h:yax a.2.2.2.2.2.2.2.2.1 x):yfU x≤2105000:=by
  have:=yFn h
  unfold yfU at ha
  omega
theorem yY4 {d:List dW} {a:dA} (h:yax d a):yax d (yPu a).1:=by
  have hn:yax d (ygd (ysn (yQ a))):=yX3 (a:=ysn (yQ a)) (yFm h)
  unfold yPu
  cases yci a
  · exact h
  cases yd a
  · cases (a.2.2.2.1== -1||((nth a.2.2.1 a.2.2.2.1 yh).2.2.1||ltb a.2.2.2.2.1 a.2.1.2))
    · cases a.2.2.2.2.2.2.2.2.2.2.2
      · cases leb 59990 a.2.2.2.2.2.2.2.1
        · show yax d (yAt a).1
          unfold yAt
          cases yd (yQ a)
          · exact hn
          · exact yFm h
        · exact h
      · exact h
    · exact h
  · exact h
def ye8 (r:dN) (a:dA) (i:Nat):dA:=yfb a i (yi r.1) (yoQ r)
def yDT (a:dA) (r:dN):dA:=yH ((List.range a.2.2.1.length).foldl (ye8 r) a)
theorem yzP (r:dN) (a:dA) (i:Nat):(ye8 r a i).2.2.1.length=a.2.2.1.length:=yzS _ _ _ _
theorem yXE (r:dN) {a:dA} (i:Nat) (h:yd a=true):ye8 r a i=a:=yOB h _ _ _
theorem yUH (a:dA) (r:dN):(yDT a r).2.2.1.length=a.2.2.1.length:=(yB1 _).trans (yso (yzP r) _ _)
theorem yYo (a:dA) (r:dN):ya9 (yDT a r)=ya9 a:=(yUU _).trans (ywU (one:=ye8 r) (fun _ _=>yOA _ _ _ _) _ _)
theorem yIM {one:dA→Nat→dA} {d:List dW} (hl: ∀ a i,(one a i).2.2.1.length=a.2.2.1.length) (ho: ∀ a i,yax d a→i < a.2.2.1.length→yax d (one a i)): ∀ (n:Nat) (a:dA),n≤a.2.2.1.length→yax d a→yax d ((List.range n).foldl one a)
  | 0,_,_,h=>h
  | n+1,a,hn,h=>by
    rw [List.range_succ,List.foldl_append]
    exact ho _ _ (yIM hl ho n a (by omega) h) (by rw [yso hl]; exact hn)
theorem yYl {d:List dW} {a:dA} (r:dN) (h:yax d a):yax d (yDT a r):=yX4 (yIM (yzP r) (fun _ _ h hi=>yXd h (zkO hi)) _ a (Nat.le_refl _) h)
def yv9 (p N x:Int) (data:List Int) (i:Int):Int:=bif i==p then x else nth data ((i - p - 1+N).tmod N) 0
def ydy (p N s:Int) (data:List Int) (a:dA) (i:Nat):dA:=bif yjV a i s then yfb a i (yuf s) [yv9 p N (ynV data) data i] else a
def ygE (a:dA) (s:Int) (data:List Int):dA:=(List.range a.2.2.1.length).foldl (ydy (yg a.2.1 s) a.2.1.1 s data) a
theorem yv8 (p N s:Int) (data:List Int) (a:dA) (i:Nat):(ydy p N s data a i).2.2.1.length=a.2.2.1.length:=by
  unfold ydy; cases yjV a i s
  · rfl
  · exact yzS _ _ _ _
theorem yWC (p N s:Int) (data:List Int) {a:dA} (i:Nat) (h:yd a=true):ydy p N s data a i=a:=by
  unfold ydy; cases yjV a i s
  · rfl
  · exact yOB h _ _ _
theorem yHL (p N s:Int) (data:List Int) (a:dA) (i:Nat):ya9 (ydy p N s data a i)=ya9 a:=by
  unfold ydy; cases yjV a i s
  · rfl
  · exact yOA _ _ _ _
theorem yYd (a:dA) (s:Int) (data:List Int):(ygE a s data).2.2.1.length=a.2.2.1.length:=yso (yv8 _ _ _ _) _ _
theorem yXW (a:dA) (s:Int) (data:List Int):ya9 (ygE a s data)=ya9 a:=ywU (yHL _ _ _ _) _ _
theorem yX2 {d:List dW} {a:dA} (s:Int) (data:List Int) (h:yax d a):yax d (ygE a s data):=yIM (yv8 _ _ _ _) (fun a i h hi=>by
  unfold ydy; cases yjV a i s
  · exact h
  · exact yXd h (zkO hi)) _ a (Nat.le_refl _) h
theorem yZo {N i p:Int} (h:3≤N∧N≤5) (hi:0≤i∧i < N) (hp:0≤p∧p≤N - 1) (hne:i≠p):0≤(i - p - 1+N).tmod N∧(i - p - 1+N).tmod N < N - 1:=by
  rw [Int.tmod_eq_emod_of_nonneg (by omega)]
  have:N=3∨N=4∨N=5:=by omega
  rcases this with rfl | rfl | rfl<;>omega
theorem yXV {N p x:Int} {data:List Int} (h:3≤N∧N≤5) (hp:0≤p∧p≤N - 1) (hd:(data.length:Int)=N - 1) :
    (List.range data.length).foldl (fun l (i:Nat)=>l.set ((p+1+i).tmod N).toNat (nth data i 0)) ((List.replicate N.toNat 0).set p.toNat x)=(List.range N.toNat).map (fun (i:Nat)=>yv9 p N x data i):=by
  have:N=3∨N=4∨N=5:=by omega
  rcases this with rfl | rfl | rfl
  · match data,hd with
    | [a,b],_ =>
      have:p=0∨p=1∨p=2:=by omega
      rcases this with rfl | rfl | rfl<;>simp [yv9,nth,List.range_succ,List.replicate_succ]
    | [],hd=>simp at hd
    | [_],hd=>simp at hd
    | _::_::_::_,hd=>simp only [List.length_cons]at hd; omega
  · match data,hd with
    | [a,b,c],_ =>
      have:p=0∨p=1∨p=2∨p=3:=by omega
      rcases this with rfl | rfl | rfl | rfl<;>simp [yv9,nth,List.range_succ,List.replicate_succ]
    | [],hd=>simp at hd
    | [_],hd=>simp at hd
    | [_,_],hd=>simp at hd
    | _::_::_::_::_,hd=>simp only [List.length_cons]at hd; omega
  · match data,hd with
    | [a,b,c,d],_ =>
      have:p=0∨p=1∨p=2∨p=3∨p=4:=by omega
      rcases this with rfl | rfl | rfl | rfl | rfl<;>simp [yv9,nth,List.range_succ,List.replicate_succ]
    | [],hd=>simp at hd
    | [_],hd=>simp at hd
    | [_,_],hd=>simp at hd
    | [_,_,_],hd=>simp at hd
    | _::_::_::_::_::_,hd=>simp only [List.length_cons]at hd; omega
def yr6 (a:dA):dA:=(a.1,a.2.1,a.2.2.1,a.2.2.2.1,a.2.2.2.2.1,IntKind.i64.wrap (a.2.2.2.2.2.1+1),a.2.2.2.2.2.2)
def yfd (a:dA):dA:=yDT a (yu a a.2.2.2.2.2.1).1
def yoS (a:dA):dA:=ygE (yr6 (yfd a)) (yu a a.2.2.2.2.2.1).1.2.1 (yu a a.2.2.2.2.2.1).1.2.2
def ysL (_:Nat) (a:dA):dA ⊕ (dA ⊕ dA) :=
  bif !(yu a a.2.2.2.2.2.1).2||leb 60000 a.2.2.2.2.2.1 then .inr (.inl a) else bif yd (yfd a) then .inr (.inr (yfd a)) else bif yd (yoS a) then .inr (.inr (yoS a)) else .inl (yoS a)
def yJh (a:dA):dA:=match goE ysL .inl 4 0 a with
  | .inl b=>yQ b
  | .inr b=>b
def yke (a:dA):dA:=bif yci a&&(!(yd a)&&(!a.2.2.2.2.2.2.2.2.2.2.2&&ltb a.2.2.2.2.2.2.2.1 60000)) then yJh a else a
def yXn (l:List dM) (ks:List Int) (id fuse:Int):dA×Bool :=
  bif (ydx (ypM l ks) id).2 then (yke (bif leb (-1) fuse&&leb fuse 1000 then yJn (ydx (ypM l ks) id).1 fuse (yd (ydx (ypM l ks) id).1) else (ydx (ypM l ks) id).1),true) else (ynw,false)
theorem yOR (a:dA):(yfd a).2.1=a.2.1:=yL9 (yYo _ _)
theorem yXp (a:dA):(yoS a).2.1=a.2.1:=(yL9 (yXW (yr6 (yfd a)) _ _)).trans (yOR a)
theorem yXq (a:dA):(yoS a).2.2.1.length=a.2.2.1.length:=(yYd (yr6 (yfd a)) _ _).trans (yUH a _)
theorem yUQ {d:List dW} {a:dA} (h:yax d a):yax d (yfd a):=yYl _ h
theorem yUR {d:List dW} {a:dA} (h:yax d a):yax d (yoS a):=yX2 (a:=yr6 (yfd a)) _ _ (yUQ h)
theorem yXc {d:List dW}: ∀ (k i:Nat) (a:dA),yax d a→(match goE ysL .inl k i a with | .inl b=>yax d b | .inr b=>yax d b)
  | 0,_,_,h=>h
  | k+1,i,a,h=>by
    unfold goE ysL
    cases (!(yu a a.2.2.2.2.2.1).2||leb 60000 a.2.2.2.2.2.1)
    · cases yd (yfd a)
      · cases yd (yoS a)
        · exact yXc k (i+1) (yoS a) (yUR h)
        · exact yUR h
      · exact yUQ h
    · exact h
theorem yYm {d:List dW} {a:dA} (h:yax d a):yax d (yJh a):=by
  have:=yXc 4 0 a h
  unfold yJh
  cases hg:goE ysL .inl 4 0 a with
  | inl b=>rw [hg]at this; exact yFm this
  | inr b=>rw [hg]at this; exact this
theorem yDP {d:List dW} {a:dA} (h:yax d a):yax d (yke a):=by
  unfold yke
  cases (yci a&&(!(yd a)&&(!a.2.2.2.2.2.2.2.2.2.2.2&&ltb a.2.2.2.2.2.2.2.1 60000)))
  · exact h
  · exact yYm h
theorem yXv {l:List dM} {id:Int} (h:(ydx l id).2=true):yci (ydx l id).1=true:=by
  unfold ydx at h ⊢
  cases hc:((yzJ l id).2&&((l.length:Int)==(yzJ l id).1.2.2.2.1&&yci (yPx l id)))
  · rw [hc]at h; cases h
  · simp only [Bool.and_eq_true]at hc
    exact hc.2.2
theorem ySC (l:List dM) (id:Int):(ydx l id).1.2.2.2.2.2.2.2.2.1= []:=by
  unfold ydx
  cases ((yzJ l id).2&&((l.length:Int)==(yzJ l id).1.2.2.2.1&&yci (yPx l id)))<;>rfl
theorem yYR (l:List dM) (ks:List Int) (id fuse:Int):yfU (yXn l ks id fuse).1≤5205:=by
  unfold yXn
  cases h:(ydx (ypM l ks) id).2
  · exact Nat.zero_le _
  · have hn:yax [] (ydx (ypM l ks) id).1:=by
      have:=yXb (yXv h)
      rwa [ySC]at this
    cases (leb (-1) fuse&&leb fuse 1000)
    · have:=yFn (yDP hn); exact this
    · have:=yFn (yDP (a:=yJn (ydx (ypM l ks) id).1 fuse (yd (ydx (ypM l ks) id).1)) hn); exact this
theorem yXr: ∀ (k i:Nat) (a b:dA),yd a=false→goE ysL .inl k i a= .inl b→yd b=false
  | 0,_,a,b,h,e=>by cases e; exact h
  | k+1,i,a,b,h,e=>by
    unfold goE ysL at e
    cases hc:(!(yu a a.2.2.2.2.2.1).2||leb 60000 a.2.2.2.2.2.1)
    · rw [hc]at e
      cases hd1:yd (yfd a)
      · rw [hd1]at e
        cases hd2:yd (yoS a)
        · rw [hd2]at e
          exact yXr k (i+1) (yoS a) b hd2 e
        · rw [hd2]at e; cases e
      · rw [hd1]at e; cases e
    · rw [hc]at e; cases e; exact h
end
section
def yG9:Code:=(Tryz.f149.body).getD .skip
def yHv:Env:=zki TT [(213,yxE),(214,yyT)] []
theorem yQA:FrOk Tryz.prog ⟨yHv,43,fun _=>none⟩ yG9:=zkp yb yc ⟨yI2,yOv,trivial⟩
def ySB:Nat→Option Seg:=fun _=>none
abbrev yfy:List Par:= [.pt tA (.pr .fz (.pr (.pr .fz .fz) (.pr (.ow (.pr (.ow .fz) (.pr (.ow (.pr .fz .fz)) (.pr .fz (.ow .fz))))) (.pr .fz (.pr .fz (.pr .fz (.pr .fz (.pr .fz (.pr (.ow (.pr .fz .fz)) (.pr .fz (.pr .fz .fz))))))))))),.rd tI,.rd tI,.rd tL]
abbrev yoz:List OT:= []
def yp9 (a0:dA) (a1:Int) (a2:Int) (a3:List Int):Option (ResD yoz×MutD yfy) :=
  bif (inb a1 a0.2.2.1.length) then
    bif (!((((nth a0.2.2.1 a1 ([],[],false,[])).2).2).1)) then
      let r1:=yrb a0
      bif (!r1.1) then
        some ((),(r1.2,()))
      else
        bif (inb a1 r1.2.2.2.1.length) then
          let r2:=yib ((nth r1.2.2.2.1 a1 ([],[],false,[])).1,((nth r1.2.2.2.1 a1 ([],[],false,[])).2).1,(((nth r1.2.2.2.1 a1 ([],[],false,[])).2).2)) a2 a3
          bif (inb a1 r1.2.2.2.1.length) then
            some ((),((r1.2.1,r1.2.2.1,(r1.2.2.2.1.set (a1).toNat r2.1),r1.2.2.2.2),()))
          else none
        else none
    else
      some ((),(a0,()))
  else none
theorem yW4 (x:InD yfy):zjH ⟨yHv,43,ySB⟩ Tryz.f149.results.toList yG9 yfy yoz x=yp9 x.1 x.2.1 x.2.2.1 x.2.2.2.1:=by kernel_rfl
theorem yUd:ConOk Tryz.prog 149 ⟨yfy,yoz,fun x=>yp9 x.1 x.2.1 x.2.2.1 x.2.2.2.1⟩:=zkh (yQA) Tryz.func149 (by kernel_rfl) (by kernel_rfl) Tryz.ntmps149.symm (by decide) (fun x r h=>(yW4 x).trans h)
def yut (a0:dA) (a1 a2:Int) (a3:List Int):dA:=yfb a0 a1 a2 a3
def yBK (a0:dA) (a1 a2:Int) (a3:List Int):Bool:=inb a1 a0.2.2.1.length
theorem yV6 (a0:dA) (a1 a2:Int) (a3:List Int) (hk:zi9 yfy (a0,a1,a2,a3,())) (hq:yBK a0 a1 a2 a3=true):yp9 a0 a1 a2 a3=(fun n=>some ((),(n,()))) (yut a0 a1 a2 a3):=by
  have hq:inb a1 a0.2.2.1.length=true:=hq
  unfold yp9 yut yfb yBL
  simp only [ySh,ydD,hq,zkV,yib]
  cases (nth a0.2.2.1 a1 yh).2.2.1<;>cases (opA a0).1<;>rfl
def yf3 (a0:dA) (a1:Int) (a2:Int) (a3:List Int):Option (ResD yoz×MutD yfy):=bif yBK a0 a1 a2 a3 then (fun n=>some ((),(n,()))) (yut a0 a1 a2 a3) else none
theorem yr5 (a0:dA) (a1:Int) (a2:Int) (a3:List Int) (h:yBK a0 a1 a2 a3=true):yf3 a0 a1 a2 a3=(fun n=>some ((),(n,()))) (yut a0 a1 a2 a3):=by unfold yf3; rw [h]; rfl
def ypJ:Con:=⟨yfy,yoz,fun x=>yf3 x.1 x.2.1 x.2.2.1 x.2.2.2.1⟩
theorem yxL:ConOk Tryz.prog 149 ypJ:=(yUd).mono (fun x r hk h=>zkW h (fun hq=>yV6 x.1 x.2.1 x.2.2.1 x.2.2.2.1 hk hq))
end
section
def yFK:Code:=(Tryz.f223.body).getD .skip
def yF5:Env:=zki TT [(253,yvD)] []
theorem yMP:FrOk Tryz.prog ⟨yF5,18,fun _=>none⟩ yFK:=zkp yb yc ⟨yGg,trivial⟩
def yPa:Nat→Option Seg:=fun _=>none
abbrev ygy:List Par:= [.rd tN]
abbrev yrQ:List OT:= [⟨false,tL,(.ow .fz)⟩]
def ynN (a0:dN):Option (ResD yrQ×MutD ygy) :=
  let r1:=ym a0
  bif (!r1) then
    some ((([]:List Int),()),())
  else
    bif (zj4 ([21322,a0.1,a0.2.1,(a0.2.2.length:Int)]:List Int).length a0.2.2.length 8) then
      some (((([21322,a0.1,a0.2.1,(a0.2.2.length:Int)]:List Int)++a0.2.2),()),())
    else none
theorem yVq (x:InD ygy):zjH ⟨yF5,18,yPa⟩ Tryz.f223.results.toList yFK ygy yrQ x=ynN x.1:=by kernel_rfl
theorem yRs:ConOk Tryz.prog 223 ⟨ygy,yrQ,fun x=>ynN x.1⟩:=zkh (yMP) Tryz.func223 (by kernel_rfl) (by kernel_rfl) Tryz.ntmps223.symm (by decide) (fun x r h=>(yVq x).trans h)
def yl4 (a0:dN):List Int:=yoQ a0
theorem yTA (a0:dN) (hk:zi9 ygy (a0,())):ynN a0=(fun n=>some ((n,()),())) (yl4 a0):=by
  unfold ynN yl4 yoQ
  cases hr:ym a0
  · rfl
  · have:=(yJf.1 hr).2.2.1
    rw [zkw.2 (show (([21322,a0.1,a0.2.1,(a0.2.2.length:Int)]:List Int).length+a0.2.2.length) * 8≤140737488355328 by simp only [List.length_cons,List.length_nil]; omega)]; rfl
def yDs:Con:=⟨ygy,yrQ,fun x=>(fun n=>some ((n,()),())) (yl4 x.1)⟩
theorem yUw:ConOk Tryz.prog 223 yDs:=(yRs).mono (fun x r hk h=>(yTA x.1 hk).trans h)
end
end
end Go.Tf
