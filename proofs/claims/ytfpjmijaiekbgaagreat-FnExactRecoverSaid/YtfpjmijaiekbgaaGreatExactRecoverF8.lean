/- Functions of the program, and what they come to. -/
import Derived.Test.YtfpjmijaiekbgaaGreatExactRecoverF7
namespace Go.Tf
noncomputable section
open Go.Proofs
set_option synthInstance.maxHeartbeats 400000
set_option synthInstance.maxSize 10000
set_option linter.unusedVariables false
set_option linter.unusedSimpArgs false
set_option maxRecDepth 100000
section
def yFn:Code:=(Tryz.f214.body).getD .skip
def yF1:Env:=zki TT [(98,yu),(147,yff),(218,ygp),(249,yyl),(250,yzq)] [(16832,(.pr .fz .fz))]
theorem yL7:FrOk Tryz.prog ⟨yF1,55,fun _=>none⟩ yFn:=zkp yb yc ⟨yF,ylM,ynS,yJP,yPr,trivial⟩
def yNq:Nat→Option Seg:=fun _=>none
abbrev ye8:List Par:= [.rd tM,.rd tI,.rd tL]
abbrev ypg:List OT:= [⟨false,tM,(.pr (.ow .fz) (.pr (.ow (.pr .fz .fz)) (.pr .fz (.ow .fz))))⟩,⟨false,tB,.fz⟩]
def ykF (a0:dM) (a1:Int) (a2:List Int):Option (ResD ypg×MutD ye8) :=
  let r1:=yK a0
  let r2:=yX a0
  bif (!(!r2)) then
    bif (!a0.2.2.1) then
      let r3:=ya a1 0 (IntKind.i64.wrap ((a0.1.length:Int) - 1))
      bif (!(!r3)) then
        let r4:=yg7 a2
        bif (!(!r4)) then
          bif (leb 60 (a0.2.1.length:Int)) then
            some ((r1,false,()),())
          else
            bif (zj4 ([]:List Int).length a2.length 8) then
              bif (zj4 r1.2.1.length ([(a1,(([]:List Int)++a2))]:List dW).length 32) then
                let r5:=yg8 a0.2.2.2 a1
                some (((r1.1,(r1.2.1++([(a1,(([]:List Int)++a2))]:List dW)),r1.2.2.1,r5),true,()),())
              else none
            else none
        else
          some ((r1,false,()),())
      else
        some ((r1,false,()),())
    else
      some ((r1,false,()),())
  else
    some ((r1,false,()),())
theorem yUn (x:InD ye8):zjH ⟨yF1,55,yNq⟩ Tryz.f214.results.toList yFn ye8 ypg x=ykF x.1 x.2.1 x.2.2.1:=by kernel_rfl
theorem yPi:ConOk Tryz.prog 214 ⟨ye8,ypg,fun x=>ykF x.1 x.2.1 x.2.2.1⟩:=zkh (yL7) Tryz.func214 (by kernel_rfl) (by kernel_rfl) Tryz.ntmps214.symm (by decide) (fun x r h=>(yUn x).trans h)
def yju (a0:dM) (a1:Int) (a2:List Int):dM×Bool:=yjK a0 a1 a2
theorem ySf (a0:dM) (a1:Int) (a2:List Int) (hk:zi9 ye8 (a0,a1,a2,())):ykF a0 a1 a2=(fun n=>some ((n.1,n.2,()),())) (yju a0 a1 a2):=by
  have hb1:a0.1.length * 24≤2 ^ 47:=hk.1.1.1
  have hb2:a2.length * 8≤2 ^ 47:=hk.2.2.1.1
  unfold ykF yju yjK yyf
  simp only [yK,yX,ytb (show a0.1.length≤1152921504606846976 by omega),yHc,yg8,List.nil_append]
  cases yp a0
  · rfl
  cases a0.2.2.1
  · cases inb a1 a0.1.length
    · rfl
    cases ybz a2
    · rfl
    by_cases h:(a0.2.1.length:Int) < 60
    · rw [zjI h,zkZ h,zkw.2 (show (([]:List Int).length+a2.length) * 8≤140737488355328 by rw [List.length_nil]; omega),zkw.2 (show (a0.2.1.length+ [(a1,a2)].length) * 32≤140737488355328 by simp only [List.length_cons,List.length_nil]; omega)]; rfl
    · rw [zkm (by omega),zk0 (by omega)]; rfl
  · rfl
def yBP:Con:=⟨ye8,ypg,fun x=>(fun n=>some ((n.1,n.2,()),())) (yju x.1 x.2.1 x.2.2.1)⟩
theorem ySZ:ConOk Tryz.prog 214 yBP:=(yPi).mono (fun x r hk h=>(ySf x.1 x.2.1 x.2.2.1 hk).trans h)
end
section
def yHk:Code:=(Tryz.f262.body).getD .skip
def yHO:Env:=zki TT [(98,yu),(141,yrK)] []
theorem yOq:FrOk Tryz.prog ⟨yHO,60,fun _=>none⟩ yHk:=zkp yb yc ⟨yF,yAz,trivial⟩
def yP8:Nat→Option Seg:=fun _=>none
abbrev ylc:List Par:= [.rd tS]
abbrev yrE:List OT:= [⟨false,tB,.fz⟩]
def yuR (a0:dS):Option (ResD yrE×MutD ylc) :=
  let r1:=yg (a0.2.2.2.1,a0.2.2.2.2.1)
  bif (!(!r1)) then
    let r2:=ya a0.1 1 60000
    bif (!(!r2)) then
      let r3:=ya a0.2.1 0 60000
      bif (!(!r3)) then
        let r4:=ya a0.2.2.1 0 (IntKind.i64.wrap (a0.2.2.2.1 - 1))
        bif (!(!r4)) then
          let r5:=ya a0.2.2.2.2.2.1 0 60000
          bif (!r5) then
            some ((false,()),())
          else
            let r6:=ya a0.2.2.2.2.2.2.1 (-1) (IntKind.i64.wrap (a0.2.2.2.1 - 1))
            bif r6 then
              let r7:=ya a0.2.2.2.2.2.2.2 0 a0.2.2.2.2.1
              bif r7 then
                bif (!(leb 0 a0.2.2.2.2.2.2.1)) then
                  some (((a0.2.2.2.2.2.2.2==0),()),())
                else
                  some ((true,()),())
              else
                some ((false,()),())
            else
              some ((false,()),())
        else
          some ((false,()),())
      else
        some ((false,()),())
    else
      some ((false,()),())
  else
    some ((false,()),())
theorem yXw (x:InD ylc):zjH ⟨yHO,60,yP8⟩ Tryz.f262.results.toList yHk ylc yrE x=yuR x.1:=by kernel_rfl
theorem ySE:ConOk Tryz.prog 262 ⟨ylc,yrE,fun x=>yuR x.1⟩:=zkh (yOq) Tryz.func262 (by kernel_rfl) (by kernel_rfl) Tryz.ntmps262.symm (by decide) (fun x r h=>(yXw x).trans h)
def yr (a0:dS):Bool :=
  let r1:=yg (a0.2.2.2.1,a0.2.2.2.2.1)
  bif (!(!r1)) then
    let r2:=ya a0.1 1 60000
    bif (!(!r2)) then
      let r3:=ya a0.2.1 0 60000
      bif (!(!r3)) then
        let r4:=ya a0.2.2.1 0 (IntKind.i64.wrap (a0.2.2.2.1 - 1))
        bif (!(!r4)) then
          let r5:=ya a0.2.2.2.2.2.1 0 60000
          bif (!r5) then
            false
          else
            let r6:=ya a0.2.2.2.2.2.2.1 (-1) (IntKind.i64.wrap (a0.2.2.2.1 - 1))
            bif r6 then
              let r7:=ya a0.2.2.2.2.2.2.2 0 a0.2.2.2.2.1
              bif r7 then
                bif (!(leb 0 a0.2.2.2.2.2.2.1)) then
                  (a0.2.2.2.2.2.2.2==0)
                else
                  true
              else
                false
            else
              false
        else
          false
      else
        false
    else
      false
  else
    false
def yuu:Con:=⟨ylc,yrE,fun x=>(fun n=>some ((n,()),())) (yr x.1)⟩
theorem yVz (a0:dS):yuR a0=(fun n=>some ((n,()),())) (yr a0):=zkS (p:=fun (n:Bool)=>((n,()),())) (zkx (p:=fun (n:Bool)=>((n,()),())) (zkx (p:=fun (n:Bool)=>((n,()),())) (zkx (p:=fun (n:Bool)=>((n,()),())) (zkx (p:=fun (n:Bool)=>((n,()),())) (zkx (p:=fun (n:Bool)=>((n,()),())) rfl (zkx (p:=fun (n:Bool)=>((n,()),())) (zkx (p:=fun (n:Bool)=>((n,()),())) (zkx (p:=fun (n:Bool)=>((n,()),())) rfl rfl) rfl) rfl)) rfl) rfl) rfl) rfl)
theorem yGU:ConOk Tryz.prog 262 yuu:=(ySE).mono (fun x r _ h=>(yVz x.1).trans h)
abbrev yab:dS:=(0,0,0,0,0,0,0,0)
theorem y1X {s:dS}:yr s=true↔yg (s.2.2.2.1,s.2.2.2.2.1)=true∧(1≤s.1∧s.1≤60000)∧(0≤s.2.1∧s.2.1≤60000)∧(0≤s.2.2.1∧s.2.2.1≤s.2.2.2.1 - 1)∧(0≤s.2.2.2.2.2.1∧s.2.2.2.2.2.1≤60000)∧(-1≤s.2.2.2.2.2.2.1∧s.2.2.2.2.2.2.1≤s.2.2.2.1 - 1)∧(0≤s.2.2.2.2.2.2.2∧s.2.2.2.2.2.2.2≤s.2.2.2.2.1)∧(0≤s.2.2.2.2.2.2.1∨s.2.2.2.2.2.2.2=0):=by
  unfold yr
  cases hg:yg (s.2.2.2.1,s.2.2.2.2.1)
  · simp
  have hg2:=yaZ.1 hg
  simp only at hg2
  rw [wr (show -9223372036854775808≤s.2.2.2.1 - 1 by omega) (by omega)]
  simp only [Bool.not_not,cond_true,true_and]
  simp only [← yta]
  cases ya s.1 1 60000
  · simp
  cases ya s.2.1 0 60000
  · simp
  cases ya s.2.2.1 0 (s.2.2.2.1 - 1)
  · simp
  cases ya s.2.2.2.2.2.1 0 60000
  · simp
  cases ya s.2.2.2.2.2.2.1 (-1) (s.2.2.2.1 - 1)
  · simp
  cases ya s.2.2.2.2.2.2.2 0 s.2.2.2.2.1
  · simp
  cases hl:leb 0 s.2.2.2.2.2.2.1
  · have:=mt zk0 (by rw [hl]; simp: ¬ leb 0 s.2.2.2.2.2.2.1=true)
    simp [this]
  · simp [zjQ.1 hl]
def yCM (l:List Int):dS:=(nth l 1 0,nth l 2 0,nth l 3 0,nth l 4 0,nth l 5 0,nth l 6 0,IntKind.i64.wrap (nth l 7 0 - 1),nth l 8 0)
def yc1 (l:List Int):dS×Bool:=bif (l.length:Int)==9&&(nth l 0 0==21317&&yr (yCM l)) then (yCM l,true) else (yab,false)
def yQp (m:dM) (i:Int):dS:=(yc1 (yk m i).1).1
def yDH (m:dM) (id i:Int):Bool:=(yk m i).2&&((yc1 (yk m i).1).2&&((yQp m i).1==id&&(yQp m i).2.1.tmod 2==i))
def ynB (b:dS×Bool) (ok:Bool) (s:dS):dS×Bool:=bif ok&&(!b.2||ltb b.1.2.1 s.2.1) then (s,true) else b
def yal (m:dM) (id:Int):dS×Bool:=(List.range 2).foldl (fun s (i:Nat)=>ynB s (yDH m id i) (yQp m i)) (yab,false)
def ymG (m:dM) (i id:Int):Bool:= !m.2.2.1&&((yal m id).2&&(yal m id).1.2.2.1==i)
def yH (l:List dM) (id:Int):dS×Bool:=(List.range l.length).foldl (fun s (i:Nat)=>ynB s (ymG (nth l i yf) i id) (yal (nth l i yf) id).1) (yab,false)
def ylq (l:List dM) (id:Int) (s:Int×Int×Bool) (i:Nat):Int×Int×Bool:=bif ymG (nth l i yf) i id then s else bif s.1== -1||s.1==i then ((i:Int),0,s.2.2) else (s.1,s.2.1,true)
def ygY (b:dS) (l:List dM) (id:Int) (s:Int×Int×Bool):dA:=(id,(b.2.2.2.1,b.2.2.2.2.1),l,s.1,s.2.1,b.2.2.2.2.2.1,b.2.2.2.2.2.1,b.2.1,[],-1,false,s.2.2)
def yDs (l:List dM) (id:Int):dA:=ygY (yH l id).1 l id ((List.range l.length).foldl (ylq l id) ((yH l id).1.2.2.2.2.2.2.1,(yH l id).1.2.2.2.2.2.2.2,false))
def yO (l:List dM) (id:Int):dA×Bool:=bif (yH l id).2&&((l.length:Int)==(yH l id).1.2.2.2.1&&yaJ (yDs l id)) then (yDs l id,true) else (ya2,false)
theorem y2s (b:dS×Bool) (s:dS):ynB b false s=b:=rfl
theorem y1U {m:dM} {i:Int} (h:(yk m i).2=true):yp m=true:=by
  unfold yk at h
  cases hc:yNd m i
  · rw [hc]at h; cases h
  · exact (Bool.and_eq_true_iff.1 hc).1
theorem y2t {m:dM} {id i:Int} (h:yp m=false):yDH m id i=false:=by
  unfold yDH
  cases hr:(yk m i).2
  · rfl
  · rw [y1U hr]at h; cases h
theorem y2r {m:dM} {id:Int} (h:(yal m id).2=true):yp m=true:=by
  cases hm:yp m
  · unfold yal at h
    simp only [y2t hm,y2s]at h
    exact h
  · rfl
end
section
def yFm:Code:=(Tryz.f241.body).getD .skip
def yF0:Env:=zki TT [(262,yuu)] []
theorem yL6:FrOk Tryz.prog ⟨yF0,25,fun _=>none⟩ yFm:=zkp yb yc ⟨yGU,trivial⟩
def yNp:Nat→Option Seg:=fun _=>none
abbrev yif:List Par:= [.rd tS]
abbrev ypf:List OT:= [⟨false,tL,(.ow .fz)⟩]
def ysL (a0:dS):Option (ResD ypf×MutD yif) :=
  let r1:=yr a0
  bif (!r1) then
    some ((([]:List Int),()),())
  else
    some ((([21317,a0.1,a0.2.1,a0.2.2.1,a0.2.2.2.1,a0.2.2.2.2.1,a0.2.2.2.2.2.1,(IntKind.i64.wrap (a0.2.2.2.2.2.2.1+1)),a0.2.2.2.2.2.2.2]:List Int),()),())
theorem yUm (x:InD yif):zjH ⟨yF0,25,yNp⟩ Tryz.f241.results.toList yFm yif ypf x=ysL x.1:=by kernel_rfl
theorem yPh:ConOk Tryz.prog 241 ⟨yif,ypf,fun x=>ysL x.1⟩:=zkh (yL6) Tryz.func241 (by kernel_rfl) (by kernel_rfl) Tryz.ntmps241.symm (by decide) (fun x r h=>(yUm x).trans h)
def yax (a0:dS):(List Int) :=
  let r1:=yr a0
  bif (!r1) then
    ([]:List Int)
  else
    ([21317,a0.1,a0.2.1,a0.2.2.1,a0.2.2.2.1,a0.2.2.2.2.1,a0.2.2.2.2.2.1,(IntKind.i64.wrap (a0.2.2.2.2.2.2.1+1)),a0.2.2.2.2.2.2.2]:List Int)
def yBO:Con:=⟨yif,ypf,fun x=>(fun n=>some ((n,()),())) (yax x.1)⟩
theorem ySe (a0:dS):ysL a0=(fun n=>some ((n,()),())) (yax a0):=zkS (p:=fun (n:(List Int))=>((n,()),())) (zkx (p:=fun (n:(List Int))=>((n,()),())) rfl rfl)
theorem ySY:ConOk Tryz.prog 241 yBO:=(yPh).mono (fun x r _ h=>(ySe x.1).trans h)
abbrev ye (a:dA):Bool:=a.2.2.2.2.2.2.2.2.2.2.1
def yNf (a:dA) (f:Int) (d:Bool):dA:=(a.1,a.2.1,a.2.2.1,a.2.2.2.1,a.2.2.2.2.1,a.2.2.2.2.2.1,a.2.2.2.2.2.2.1,a.2.2.2.2.2.2.2.1,a.2.2.2.2.2.2.2.2.1,f,d,a.2.2.2.2.2.2.2.2.2.2.2)
def opA (a:dA):Bool×dA:=bif ye a then (false,a) else bif a.2.2.2.2.2.2.2.2.2.1==0 then (false,yNf a (-1) true) else bif ltb 0 a.2.2.2.2.2.2.2.2.2.1 then (true,yNf a (IntKind.i64.wrap (a.2.2.2.2.2.2.2.2.2.1 - 1)) (ye a)) else (true,a)
def yEN (a:dA) (m:Int) (x:dM):dA:=(a.1,a.2.1,a.2.2.1.set m.toNat x,a.2.2.2)
def yf4 (a:dA) (m n:Int) (s:List Int):dA:=bif (nth a.2.2.1 m yf).2.2.1 then a else bif (opA a).1 then yEN (opA a).2 m (yjK (nth a.2.2.1 m yf) n s).1 else (opA a).2
def yL (a:dA) (i:Nat):dA:=bif (nth a.2.2.1 i yf).2.2.1 then a else bif (opA a).1 then yEN (opA a).2 i (yg0 (nth a.2.2.1 i yf)) else (opA a).2
def yN (a:dA):dA:=(List.range a.2.2.1.length).foldl yL a
def y3d (a:dA) (i:Int):dS:=(a.1,a.2.2.2.2.2.2.2.1,i,a.2.1.1,a.2.1.2,a.2.2.2.2.2.2.1,a.2.2.2.1,a.2.2.2.2.1)
def ya0 (a:dA) (i:Nat):dA:=yf4 a i (a.2.2.2.2.2.2.2.1.tmod 2) (yax (y3d a i))
def ypv (a:dA):dA:=(a.1,a.2.1,a.2.2.1,a.2.2.2.1,a.2.2.2.2.1,a.2.2.2.2.2.1,a.2.2.2.2.2.2.1,IntKind.i64.wrap (a.2.2.2.2.2.2.2.1+1),a.2.2.2.2.2.2.2.2)
def yhp (a:dA):dA:=yN ((List.range a.2.2.1.length).foldl ya0 (ypv a))
theorem yei (a:dA):(opA a).2.2.2.1=a.2.2.1:=by
  unfold opA
  cases ye a
  · cases (a.2.2.2.2.2.2.2.2.2.1==0)
    · cases ltb 0 a.2.2.2.2.2.2.2.2.2.1<;>rfl
    · rfl
  · rfl
theorem yZa {a:dA} (h:ye a=false):ye (opA a).2= !(opA a).1:=by
  unfold opA
  rw [h]
  cases (a.2.2.2.2.2.2.2.2.2.1==0)
  · cases ltb 0 a.2.2.2.2.2.2.2.2.2.1
    · exact h
    · rfl
  · rfl
theorem y17 {a:dA} (h:ye a=true):opA a=(false,a):=by unfold opA; rw [h]; rfl
theorem yCL (a:dA) (m n:Int) (s:List Int):(yf4 a m n s).2.2.1.length=a.2.2.1.length:=by
  unfold yf4
  cases (nth a.2.2.1 m yf).2.2.1
  · cases (opA a).1
    · show (opA a).2.2.2.1.length=_; rw [yei]
    · show ((opA a).2.2.2.1.set m.toNat _).length=_; rw [List.length_set,yei]
  · rfl
theorem yyT (a:dA) (i:Nat):(yL a i).2.2.1.length=a.2.2.1.length:=by
  unfold yL
  cases (nth a.2.2.1 i yf).2.2.1
  · cases (opA a).1
    · show (opA a).2.2.2.1.length=_; rw [yei]
    · show ((opA a).2.2.2.1.set _ _).length=_; rw [List.length_set,yei]
  · rfl
theorem yuw {one:dA→Nat→dA} (h: ∀ a i,(one a i).2.2.1.length=a.2.2.1.length): ∀ (l:List Nat) (a:dA),(l.foldl one a).2.2.1.length=a.2.2.1.length
  | [],_=>rfl
  | x::l,a=>by rw [List.foldl_cons,yuw h l,h]
theorem yE3 (a:dA):(yN a).2.2.1.length=a.2.2.1.length:=yuw yyT _ _
theorem yS5 {a:dA} (h:ye a=true) (m n:Int) (s:List Int):yf4 a m n s=a:=by
  unfold yf4
  rw [y17 h]
  cases (nth a.2.2.1 m yf).2.2.1<;>rfl
theorem yNb {a:dA} (i:Nat) (h:ye a=true):yL a i=a:=by
  unfold yL
  rw [y17 h]
  cases (nth a.2.2.1 i yf).2.2.1<;>rfl
theorem yLu {one:dA→Nat→dA} (hs: ∀ a i,ye a=true→one a i=a): ∀ (l:List Nat) (a:dA),ye a=true→l.foldl one a=a
  | [],_,_=>rfl
  | x::l,a,h=>by rw [List.foldl_cons,hs a x h]; exact yLu hs l a h
theorem yZt {a:dA} (h:ye a=true):yN a=a:=yLu (fun _ i h=>yNb i h) _ a h
theorem y2F {a:dA} (h:ye a=false) (m n:Int) (s:List Int):ye (yf4 a m n s)=(!(nth a.2.2.1 m yf).2.2.1&& !(opA a).1):=by
  have:=yZa h
  unfold yf4
  cases (nth a.2.2.1 m yf).2.2.1
  · cases ho:(opA a).1
    · rw [ho]at this; exact this
    · rw [ho]at this; exact this
  · exact h
theorem y1G {a:dA} (h:ye a=false) (i:Nat):ye (yL a i)=(!(nth a.2.2.1 i yf).2.2.1&& !(opA a).1):=by
  have:=yZa h
  unfold yL
  cases (nth a.2.2.1 i yf).2.2.1
  · cases ho:(opA a).1
    · rw [ho]at this; exact this
    · rw [ho]at this; exact this
  · exact h
theorem yEy {one:dA→Nat→dA} (hs: ∀ a i,ye a=true→one a i=a): ∀ (k i:Nat) (s:dA),goE (fun i s=>bif ye (one s i) then (.inr (one s i):dA ⊕ dA) else .inl (one s i)) id k i s=(List.range' i k).foldl one s
  | 0,_,_=>rfl
  | k+1,i,s=>by
    rw [List.range'_succ,List.foldl_cons,goE]
    cases hd:ye (one s i)
    · exact yEy hs k (i+1) (one s i)
    · exact (yLu hs _ _ hd).symm
theorem yWR (a:dA):ytg a=opA a:=by kernel_rfl
theorem y1A {a:dA} {m n:Int} {s:List Int} (h:yah a.2.2.1) (hm:inb m a.2.2.1.length=true):yah (yf4 a m n s).2.2.1:=by
  unfold yf4
  cases (nth a.2.2.1 m yf).2.2.1
  · cases (opA a).1
    · show yah (opA a).2.2.2.1; rw [yei]; exact h
    · show yah ((opA a).2.2.2.1.set m.toNat _); rw [yei]; exact yWd h (y2J _ _ (yZq h hm))
  · exact h
theorem y1H {a:dA} {i:Nat} (h:yah a.2.2.1) (hi:i < a.2.2.1.length):yah (yL a i).2.2.1:=by
  unfold yL
  cases (nth a.2.2.1 i yf).2.2.1
  · cases (opA a).1
    · show yah (opA a).2.2.2.1; rw [yei]; exact h
    · show yah ((opA a).2.2.2.1.set _ _); rw [yei]; exact yWd h (y2x (yZq h (zkO hi)))
  · exact h
theorem yLt {one:dA→Nat→dA} (hl: ∀ a i,(one a i).2.2.1.length=a.2.2.1.length) (ho: ∀ a i,yah a.2.2.1→i < a.2.2.1.length→yah (one a i).2.2.1): ∀ (n:Nat) (a:dA),n≤a.2.2.1.length→yah a.2.2.1→yah ((List.range n).foldl one a).2.2.1
  | 0,_,_,h=>h
  | n+1,a,hn,h=>by
    rw [List.range_succ,List.foldl_append]
    exact ho _ _ (yLt hl ho n a (by omega) h) (by rw [yuw hl]; exact hn)
theorem yG1 {a:dA} (h:yah a.2.2.1):yah (yN a).2.2.1:=yLt yyT (fun _ _=>y1H) _ a (Nat.le_refl _) h
theorem yMd {a:dA} (h:yah a.2.2.1):yah (yhp a).2.2.1 :=
  yG1 (yLt (one:=ya0) (fun _ _=>yCL _ _ _ _) (fun _ _ h hi=>y1A h (zkO hi)) _ (ypv a) (Nat.le_refl _) h)
theorem yRq (a:dA):(yhp a).2.2.1.length=a.2.2.1.length:=(yE3 _).trans (yuw (one:=ya0) (fun _ _=>yCL _ _ _ _) _ (ypv a))
theorem yIO (a:dA):(opA a).2.2.2.2.2.2.2.2.2.1=a.2.2.2.2.2.2.2.2.1:=by
  unfold opA
  cases ye a
  · cases (a.2.2.2.2.2.2.2.2.2.1==0)
    · cases ltb 0 a.2.2.2.2.2.2.2.2.2.1<;>rfl
    · rfl
  · rfl
theorem yZr (a:dA) (m n:Int) (s:List Int):(yf4 a m n s).2.2.2.2.2.2.2.2.1=a.2.2.2.2.2.2.2.2.1:=by
  unfold yf4
  cases (nth a.2.2.1 m yf).2.2.1
  · cases (opA a).1
    · exact yIO a
    · exact yIO a
  · rfl
theorem y0T (a:dA) (i:Nat):(yL a i).2.2.2.2.2.2.2.2.1=a.2.2.2.2.2.2.2.2.1:=by
  unfold yL
  cases (nth a.2.2.1 i yf).2.2.1
  · cases (opA a).1
    · exact yIO a
    · exact yIO a
  · rfl
theorem yIs {one:dA→Nat→dA} (h: ∀ a i,(one a i).2.2.2.2.2.2.2.2.1=a.2.2.2.2.2.2.2.2.1): ∀ (l:List Nat) (a:dA),(l.foldl one a).2.2.2.2.2.2.2.2.1=a.2.2.2.2.2.2.2.2.1
  | [],_=>rfl
  | x::l,a=>by rw [List.foldl_cons,yIs h l,h]
theorem yCJ (a:dA):(yN a).2.2.2.2.2.2.2.2.1=a.2.2.2.2.2.2.2.2.1:=yIs y0T _ _
theorem yIA (a:dA):(yhp a).2.2.2.2.2.2.2.2.1=a.2.2.2.2.2.2.2.2.1:=(yCJ _).trans (yIs (one:=ya0) (fun _ _=>yZr _ _ _ _) _ (ypv a))
theorem yZi {a x:dA} (ha:yn7 a≤2097152) (hl:x.2.2.1.length≤5) (hm:yah x.2.2.1) (hd:x.2.2.2.2.2.2.2.2.1=a.2.2.2.2.2.2.2.2.1):yn7 x≤2105000:=by
  have:=yMO hm
  have:x.2.2.1.length * 1041≤5 * 1041:=Nat.mul_le_mul_right _ hl
  unfold yn7 at ha ⊢
  rw [hd]
  omega
theorem y0U {a:dA} (h:yaJ a=true):a.2.2.1.length≤5:=by
  have h1:=yaZ.1 (yLn h)
  have h2:=yLo h
  omega
def ytj (a:dA):dA:=(a.1,a.2.1,a.2.2.1,a.2.2.2.1,a.2.2.2.2.1,a.2.2.2.2.2.1,a.2.2.2.2.2.1,a.2.2.2.2.2.2.2)
def y9 (a:dA):dA:=bif ye (yN a) then yN a else yhp (ytj (yN a))
theorem yTZ {a:dA} (h:yah a.2.2.1):yah (y9 a).2.2.1:=by
  unfold y9
  cases ye (yN a)
  · exact yMd (a:=ytj (yN a)) (yG1 h)
  · exact yG1 h
theorem yLq (a:dA):(y9 a).2.2.1.length=a.2.2.1.length:=by
  unfold y9
  cases ye (yN a)
  · exact (yRq (ytj (yN a))).trans (yE3 a)
  · exact yE3 a
theorem yG2 (a:dA):(y9 a).2.2.2.2.2.2.2.2.1=a.2.2.2.2.2.2.2.2.1:=by
  unfold y9
  cases ye (yN a)
  · exact (yIA (ytj (yN a))).trans (yCJ a)
  · exact yCJ a
def yuq (b:dA):dA:=(b.1,b.2.1,b.2.2.1,-1,0,b.2.2.2.2.2)
def yDr (a:dA):dA×Int:=bif ye (y9 a) then (y9 a,6) else (yhp (yuq (y9 a)),bif ye (yhp (yuq (y9 a))) then 6 else 0)
def yTW (a:dA):dA×Int :=
  bif !(yaJ a) then (a,1) else bif ye a then (a,6) else bif a.2.2.2.1== -1||((nth a.2.2.1 a.2.2.2.1 yf).2.2.1||ltb a.2.2.2.2.1 a.2.1.2) then (a,2) else bif a.2.2.2.2.2.2.2.2.2.2.2 then (a,5) else bif leb 59990 a.2.2.2.2.2.2.2.1 then (a,7) else yDr a
theorem y29 {a:dA} (ha:yn7 a≤2097152):yn7 (yTW a).1≤2105000:=by
  have h0:yn7 a≤2105000:=by omega
  unfold yTW
  cases hk:yaJ a
  · exact h0
  have h5:=y0U hk
  have hc:=yTZ (yTY hk)
  have hn:=yZi (x:=yhp (yuq (y9 a))) ha (by rw [yRq,show (yuq (y9 a)).2.2.1=(y9 a).2.2.1 from rfl,yLq]; exact h5) (yMd (a:=yuq (y9 a)) hc) ((yIA _).trans (yG2 a))
  have hn2:=yZi (x:=y9 a) ha (by rw [yLq]; exact h5) hc (yG2 a)
  cases ye a
  · cases (a.2.2.2.1== -1||((nth a.2.2.1 a.2.2.2.1 yf).2.2.1||ltb a.2.2.2.2.1 a.2.1.2))
    · cases a.2.2.2.2.2.2.2.2.2.2.2
      · cases leb 59990 a.2.2.2.2.2.2.2.1
        · show yn7 (yDr a).1≤_
          unfold yDr
          cases ye (y9 a)
          · exact hn
          · exact hn2
        · exact h0
      · exact h0
    · exact h0
  · exact h0
def ybw (a:dA):Int×(Int×Int)×Int×Int×Int×Int×Int×List dW×Bool:=(a.1,a.2.1,a.2.2.2.1,a.2.2.2.2.1,a.2.2.2.2.2.1,a.2.2.2.2.2.2.1,a.2.2.2.2.2.2.2.1,a.2.2.2.2.2.2.2.2.1,a.2.2.2.2.2.2.2.2.2.2.2)
theorem yNe (a:dA):ybw (opA a).2=ybw a:=by
  unfold opA
  cases ye a
  · cases (a.2.2.2.2.2.2.2.2.2.1==0)
    · cases ltb 0 a.2.2.2.2.2.2.2.2.2.1<;>rfl
    · rfl
  · rfl
theorem yS4 (a:dA) (m n:Int) (s:List Int):ybw (yf4 a m n s)=ybw a:=by
  unfold yf4
  cases (nth a.2.2.1 m yf).2.2.1
  · cases (opA a).1
    · exact yNe a
    · exact yNe a
  · rfl
theorem y1F (a:dA) (i:Nat):ybw (yL a i)=ybw a:=by
  unfold yL
  cases (nth a.2.2.1 i yf).2.2.1
  · cases (opA a).1
    · exact yNe a
    · exact yNe a
  · rfl
theorem yzJ {one:dA→Nat→dA} (h: ∀ a i,ybw (one a i)=ybw a): ∀ (l:List Nat) (a:dA),ybw (l.foldl one a)=ybw a
  | [],_=>rfl
  | x::l,a=>by rw [List.foldl_cons,yzJ h l,h]
theorem yZs (a:dA):ybw (yN a)=ybw a:=yzJ y1F _ _
theorem y3q (a:dA):ybw (yhp a)=ybw (ypv a):=(yZs _).trans (yzJ (one:=ya0) (fun _ _=>yS4 _ _ _ _) _ _)
theorem yQq {a b:dA} (h:ybw a=ybw b):a.2.1=b.2.1:=congrArg (fun x=>x.2.1) h
theorem y3a {a b:dA} (h:ybw a=ybw b):a.2.2.2.2.1=b.2.2.2.2.1:=congrArg (fun x=>x.2.2.2.1) h
theorem y3b {a b:dA} (h:ybw a=ybw b):a.2.2.2.2.2.2.2.2.1=b.2.2.2.2.2.2.2.2.1:=congrArg (fun x=>x.2.2.2.2.2.2.2.1) h
def yaV (d:List dW) (x:dA):Prop:=x.2.2.1.length≤5∧yah x.2.2.1∧x.2.2.2.2.2.2.2.2.1=d
theorem y2C {a:dA} (h:yaJ a=true):yaV a.2.2.2.2.2.2.2.2.1 a:=⟨y0U h,yTY h,rfl⟩
theorem y1n {d:List dW} {a:dA} {m n:Int} {s:List Int} (h:yaV d a) (hm:inb m a.2.2.1.length=true):yaV d (yf4 a m n s):=⟨by rw [yCL]; exact h.1,y1A h.2.1 hm,(yZr _ _ _ _).trans h.2.2⟩
theorem y2m {d:List dW} {a:dA} (h:yaV d a):yaV d (yN a):=⟨by rw [yE3]; exact h.1,yG1 h.2.1,(yCJ _).trans h.2.2⟩
theorem y2l {d:List dW} {a:dA} (h:yaV d a):yaV d (yhp a):=⟨by rw [yRq]; exact h.1,yMd h.2.1,(yIA _).trans h.2.2⟩
theorem yIL {d:List dW} {a:dA} (h:yaV d a):yaV d (y9 a):=⟨by rw [yLq]; exact h.1,yTZ h.2.1,(yG2 _).trans h.2.2⟩
theorem yIM {d:List dW} {x:dA} (h:yaV d x):yn7 x≤yU8 d+5205:=by
  have:=yMO h.2.1
  have:x.2.2.1.length * 1041≤5 * 1041:=Nat.mul_le_mul_right _ h.1
  unfold yn7
  rw [h.2.2]
  omega
theorem y3s {a x:dA} (ha:yn7 a≤2097152) (h:yaV a.2.2.2.2.2.2.2.2.1 x):yn7 x≤2105000:=by
  have:=yIM h
  unfold yn7 at ha
  omega
theorem y3c {d:List dW} {a:dA} (h:yaV d a):yaV d (yTW a).1:=by
  have hn:yaV d (yhp (yuq (y9 a))):=y2l (a:=yuq (y9 a)) (yIL h)
  unfold yTW
  cases yaJ a
  · exact h
  cases ye a
  · cases (a.2.2.2.1== -1||((nth a.2.2.1 a.2.2.2.1 yf).2.2.1||ltb a.2.2.2.2.1 a.2.1.2))
    · cases a.2.2.2.2.2.2.2.2.2.2.2
      · cases leb 59990 a.2.2.2.2.2.2.2.1
        · show yaV d (yDr a).1
          unfold yDr
          cases ye (y9 a)
          · exact hn
          · exact yIL h
        · exact h
      · exact h
    · exact h
  · exact h
def yf2 (r:dN) (a:dA) (i:Nat):dA:=yf4 a i (yi r.1) (yqK r)
def yHb (a:dA) (r:dN):dA:=yN ((List.range a.2.2.1.length).foldl (yf2 r) a)
theorem yCI (r:dN) (a:dA) (i:Nat):(yf2 r a i).2.2.1.length=a.2.2.1.length:=yCL _ _ _ _
theorem y1V (r:dN) {a:dA} (i:Nat) (h:ye a=true):yf2 r a i=a:=yS5 h _ _ _
theorem yZf (a:dA) (r:dN):(yHb a r).2.2.1.length=a.2.2.1.length:=(yE3 _).trans (yuw (yCI r) _ _)
theorem y2G (a:dA) (r:dN):ybw (yHb a r)=ybw a:=(yZs _).trans (yzJ (one:=yf2 r) (fun _ _=>yS4 _ _ _ _) _ _)
theorem yMA {one:dA→Nat→dA} {d:List dW} (hl: ∀ a i,(one a i).2.2.1.length=a.2.2.1.length) (ho: ∀ a i,yaV d a→i < a.2.2.1.length→yaV d (one a i)): ∀ (n:Nat) (a:dA),n≤a.2.2.1.length→yaV d a→yaV d ((List.range n).foldl one a)
  | 0,_,_,h=>h
  | n+1,a,hn,h=>by
    rw [List.range_succ,List.foldl_append]
    exact ho _ _ (yMA hl ho n a (by omega) h) (by rw [yuw hl]; exact hn)
theorem y2D {d:List dW} {a:dA} (r:dN) (h:yaV d a):yaV d (yHb a r):=y2m (yMA (yCI r) (fun _ _ h hi=>y1n h (zkO hi)) _ a (Nat.le_refl _) h)
def yyQ (p N x:Int) (data:List Int) (i:Int):Int:=bif i==p then x else nth data ((i - p - 1+N).tmod N) 0
def yec (p N s:Int) (data:List Int) (a:dA) (i:Nat):dA:=bif ylr a i s then yf4 a i (ywk s) [yyQ p N (ypV data) data i] else a
def yhP (a:dA) (s:Int) (data:List Int):dA:=(List.range a.2.2.1.length).foldl (yec (yh a.2.1 s) a.2.1.1 s data) a
theorem yyP (p N s:Int) (data:List Int) (a:dA) (i:Nat):(yec p N s data a i).2.2.1.length=a.2.2.1.length:=by
  unfold yec; cases ylr a i s
  · rfl
  · exact yCL _ _ _ _
theorem y0V (p N s:Int) (data:List Int) {a:dA} (i:Nat) (h:ye a=true):yec p N s data a i=a:=by
  unfold yec; cases ylr a i s
  · rfl
  · exact yS5 h _ _ _
theorem yLr (p N s:Int) (data:List Int) (a:dA) (i:Nat):ybw (yec p N s data a i)=ybw a:=by
  unfold yec; cases ylr a i s
  · rfl
  · exact yS4 _ _ _ _
theorem y2u (a:dA) (s:Int) (data:List Int):(yhP a s data).2.2.1.length=a.2.2.1.length:=yuw (yyP _ _ _ _) _ _
theorem y2f (a:dA) (s:Int) (data:List Int):ybw (yhP a s data)=ybw a:=yzJ (yLr _ _ _ _) _ _
theorem y2k {d:List dW} {a:dA} (s:Int) (data:List Int) (h:yaV d a):yaV d (yhP a s data):=yMA (yyP _ _ _ _) (fun a i h hi=>by
  unfold yec; cases ylr a i s
  · exact h
  · exact y1n h (zkO hi)) _ a (Nat.le_refl _) h
theorem y3t {N i p:Int} (h:3≤N∧N≤5) (hi:0≤i∧i < N) (hp:0≤p∧p≤N - 1) (hne:i≠p):0≤(i - p - 1+N).tmod N∧(i - p - 1+N).tmod N < N - 1:=by
  rw [Int.tmod_eq_emod_of_nonneg (by omega)]
  have:N=3∨N=4∨N=5:=by omega
  rcases this with rfl | rfl | rfl<;>omega
theorem y2e {N p x:Int} {data:List Int} (h:3≤N∧N≤5) (hp:0≤p∧p≤N - 1) (hd:(data.length:Int)=N - 1) :
    (List.range data.length).foldl (fun l (i:Nat)=>l.set ((p+1+i).tmod N).toNat (nth data i 0)) ((List.replicate N.toNat 0).set p.toNat x)=(List.range N.toNat).map (fun (i:Nat)=>yyQ p N x data i):=by
  have:N=3∨N=4∨N=5:=by omega
  rcases this with rfl | rfl | rfl
  · match data,hd with
    | [a,b],_ =>
      have:p=0∨p=1∨p=2:=by omega
      rcases this with rfl | rfl | rfl<;>simp [yyQ,nth,List.range_succ,List.replicate_succ]
    | [],hd=>simp at hd
    | [_],hd=>simp at hd
    | _::_::_::_,hd=>simp only [List.length_cons]at hd; omega
  · match data,hd with
    | [a,b,c],_ =>
      have:p=0∨p=1∨p=2∨p=3:=by omega
      rcases this with rfl | rfl | rfl | rfl<;>simp [yyQ,nth,List.range_succ,List.replicate_succ]
    | [],hd=>simp at hd
    | [_],hd=>simp at hd
    | [_,_],hd=>simp at hd
    | _::_::_::_::_,hd=>simp only [List.length_cons]at hd; omega
  · match data,hd with
    | [a,b,c,d],_ =>
      have:p=0∨p=1∨p=2∨p=3∨p=4:=by omega
      rcases this with rfl | rfl | rfl | rfl | rfl<;>simp [yyQ,nth,List.range_succ,List.replicate_succ]
    | [],hd=>simp at hd
    | [_],hd=>simp at hd
    | [_,_],hd=>simp at hd
    | [_,_,_],hd=>simp at hd
    | _::_::_::_::_::_,hd=>simp only [List.length_cons]at hd; omega
def yua (a:dA):dA:=(a.1,a.2.1,a.2.2.1,a.2.2.2.1,a.2.2.2.2.1,IntKind.i64.wrap (a.2.2.2.2.2.1+1),a.2.2.2.2.2.2)
def yf6 (a:dA):dA:=yHb a (yA a a.2.2.2.2.2.1).1
def yqM (a:dA):dA:=yhP (yua (yf6 a)) (yA a a.2.2.2.2.2.1).1.2.1 (yA a a.2.2.2.2.2.1).1.2.2
def yuU (_:Nat) (a:dA):dA ⊕ (dA ⊕ dA) :=
  bif !(yA a a.2.2.2.2.2.1).2||leb 60000 a.2.2.2.2.2.1 then .inr (.inl a) else bif ye (yf6 a) then .inr (.inr (yf6 a)) else bif ye (yqM a) then .inr (.inr (yqM a)) else .inl (yqM a)
def yNa (a:dA):dA:=match goE yuU .inl 4 0 a with
  | .inl b=>y9 b
  | .inr b=>b
def yth (a:dA):dA:=bif yaJ a&&(!(ye a)&&(!a.2.2.2.2.2.2.2.2.2.2.2&&ltb a.2.2.2.2.2.2.2.1 60000)) then yNa a else a
def yuT (l:List dM) (ks:List Int) (id fuse:Int):dA×Bool :=
  bif (yO (yaA l ks) id).2 then (yth (bif leb (-1) fuse&&leb fuse 1000 then yNf (yO (yaA l ks) id).1 fuse (ye (yO (yaA l ks) id).1) else (yO (yaA l ks) id).1),true) else (ya2,false)
theorem yTk (a:dA):(yf6 a).2.1=a.2.1:=yQq (y2G _ _)
theorem y1B (a:dA):(yqM a).2.1=a.2.1:=(yQq (y2f (yua (yf6 a)) _ _)).trans (yTk a)
theorem y1C (a:dA):(yqM a).2.2.1.length=a.2.2.1.length:=(y2u (yua (yf6 a)) _ _).trans (yZf a _)
theorem yZo {d:List dW} {a:dA} (h:yaV d a):yaV d (yf6 a):=y2D _ h
theorem yZp {d:List dW} {a:dA} (h:yaV d a):yaV d (yqM a):=y2k (a:=yua (yf6 a)) _ _ (yZo h)
theorem y1m {d:List dW}: ∀ (k i:Nat) (a:dA),yaV d a→(match goE yuU .inl k i a with | .inl b=>yaV d b | .inr b=>yaV d b)
  | 0,_,_,h=>h
  | k+1,i,a,h=>by
    unfold goE yuU
    cases (!(yA a a.2.2.2.2.2.1).2||leb 60000 a.2.2.2.2.2.1)
    · cases ye (yf6 a)
      · cases ye (yqM a)
        · exact y1m k (i+1) (yqM a) (yZp h)
        · exact yZp h
      · exact yZo h
    · exact h
theorem y2E {d:List dW} {a:dA} (h:yaV d a):yaV d (yNa a):=by
  have:=y1m 4 0 a h
  unfold yNa
  cases hg:goE yuU .inl 4 0 a with
  | inl b=>rw [hg]at this; exact yIL this
  | inr b=>rw [hg]at this; exact this
theorem yP0 {d:List dW} {a:dA} (h:yaV d a):yaV d (yth a):=by
  unfold yth
  cases (yaJ a&&(!(ye a)&&(!a.2.2.2.2.2.2.2.2.2.2.2&&ltb a.2.2.2.2.2.2.2.1 60000)))
  · exact h
  · exact y2E h
theorem y1J {l:List dM} {id:Int} (h:(yO l id).2=true):yaJ (yO l id).1=true:=by
  unfold yO at h ⊢
  cases hc:((yH l id).2&&((l.length:Int)==(yH l id).1.2.2.2.1&&yaJ (yDs l id)))
  · rw [hc]at h; cases h
  · simp only [Bool.and_eq_true]at hc
    exact hc.2.2
theorem yW8 (l:List dM) (id:Int):(yO l id).1.2.2.2.2.2.2.2.2.1= []:=by
  unfold yO
  cases ((yH l id).2&&((l.length:Int)==(yH l id).1.2.2.2.1&&yaJ (yDs l id)))<;>rfl
theorem y0R (l:List dM) (ks:List Int) (id fuse:Int):yn7 (yuT l ks id fuse).1≤5205:=by
  unfold yuT
  cases h:(yO (yaA l ks) id).2
  · exact Nat.zero_le _
  · have hn:yaV [] (yO (yaA l ks) id).1:=by
      have:=y2C (y1J h)
      rwa [yW8]at this
    cases (leb (-1) fuse&&leb fuse 1000)
    · have:=yIM (yP0 hn); exact this
    · have:=yIM (yP0 (a:=yNf (yO (yaA l ks) id).1 fuse (ye (yO (yaA l ks) id).1)) hn); exact this
theorem y1D: ∀ (k i:Nat) (a b:dA),ye a=false→goE yuU .inl k i a= .inl b→ye b=false
  | 0,_,a,b,h,e=>by cases e; exact h
  | k+1,i,a,b,h,e=>by
    unfold goE yuU at e
    cases hc:(!(yA a a.2.2.2.2.2.1).2||leb 60000 a.2.2.2.2.2.1)
    · rw [hc]at e
      cases hd1:ye (yf6 a)
      · rw [hd1]at e
        cases hd2:ye (yqM a)
        · rw [hd2]at e
          exact y1D k (i+1) (yqM a) b hd2 e
        · rw [hd2]at e; cases e
      · rw [hd1]at e; cases e
    · rw [hc]at e; cases e; exact h
end
section
def yKR:Code:=(Tryz.f149.body).getD .skip
def yK8:Env:=zki TT [(213,yAt),(214,yBP)] []
theorem yU2:FrOk Tryz.prog ⟨yK8,43,fun _=>none⟩ yKR:=zkp yb yc ⟨yMS,ySZ,trivial⟩
def yW5:Nat→Option Seg:=fun _=>none
abbrev ygB:List Par:= [.pt tA (.pr .fz (.pr (.pr .fz .fz) (.pr (.ow (.pr (.ow .fz) (.pr (.ow (.pr .fz .fz)) (.pr .fz (.ow .fz))))) (.pr .fz (.pr .fz (.pr .fz (.pr .fz (.pr .fz (.pr (.ow (.pr .fz .fz)) (.pr .fz (.pr .fz .fz))))))))))),.rd tI,.rd tI,.rd tL]
abbrev yqv:List OT:= []
def yr7 (a0:dA) (a1:Int) (a2:Int) (a3:List Int):Option (ResD yqv×MutD ygB) :=
  bif (inb a1 a0.2.2.1.length) then
    bif (!((((nth a0.2.2.1 a1 ([],[],false,[])).2).2).1)) then
      let r1:=ytg a0
      bif (!r1.1) then
        some ((),(r1.2,()))
      else
        bif (inb a1 r1.2.2.2.1.length) then
          let r2:=yju ((nth r1.2.2.2.1 a1 ([],[],false,[])).1,((nth r1.2.2.2.1 a1 ([],[],false,[])).2).1,(((nth r1.2.2.2.1 a1 ([],[],false,[])).2).2)) a2 a3
          bif (inb a1 r1.2.2.2.1.length) then
            some ((),((r1.2.1,r1.2.2.1,(r1.2.2.2.1.set (a1).toNat r2.1),r1.2.2.2.2),()))
          else none
        else none
    else
      some ((),(a0,()))
  else none
theorem y1i (x:InD ygB):zjH ⟨yK8,43,yW5⟩ Tryz.f149.results.toList yKR ygB yqv x=yr7 x.1 x.2.1 x.2.2.1 x.2.2.2.1:=by kernel_rfl
theorem yYL:ConOk Tryz.prog 149 ⟨ygB,yqv,fun x=>yr7 x.1 x.2.1 x.2.2.1 x.2.2.2.1⟩:=zkh (yU2) Tryz.func149 (by kernel_rfl) (by kernel_rfl) Tryz.ntmps149.symm (by decide) (fun x r h=>(y1i x).trans h)
def ywL (a0:dA) (a1 a2:Int) (a3:List Int):dA:=yf4 a0 a1 a2 a3
def yEM (a0:dA) (a1 a2:Int) (a3:List Int):Bool:=inb a1 a0.2.2.1.length
theorem y0v (a0:dA) (a1 a2:Int) (a3:List Int) (hk:zi9 ygB (a0,a1,a2,a3,())) (hq:yEM a0 a1 a2 a3=true):yr7 a0 a1 a2 a3=(fun n=>some ((),(n,()))) (ywL a0 a1 a2 a3):=by
  have hq:inb a1 a0.2.2.1.length=true:=hq
  unfold yr7 ywL yf4 yEN
  simp only [yWR,yei,hq,zkV,yju]
  cases (nth a0.2.2.1 a1 yf).2.2.1<;>cases (opA a0).1<;>rfl
def yha (a0:dA) (a1:Int) (a2:Int) (a3:List Int):Option (ResD yqv×MutD ygB):=bif yEM a0 a1 a2 a3 then (fun n=>some ((),(n,()))) (ywL a0 a1 a2 a3) else none
theorem yt7 (a0:dA) (a1:Int) (a2:Int) (a3:List Int) (h:yEM a0 a1 a2 a3=true):yha a0 a1 a2 a3=(fun n=>some ((),(n,()))) (ywL a0 a1 a2 a3):=by unfold yha; rw [h]; rfl
def yrL:Con:=⟨ygB,yqv,fun x=>yha x.1 x.2.1 x.2.2.1 x.2.2.2.1⟩
theorem yAA:ConOk Tryz.prog 149 yrL:=(yYL).mono (fun x r hk h=>zkW h (fun hq=>y0v x.1 x.2.1 x.2.2.1 x.2.2.2.1 hk hq))
end
section
def yI9:Code:=(Tryz.f223.body).getD .skip
def yJy:Env:=zki TT [(253,yyk)] []
theorem yQ4:FrOk Tryz.prog ⟨yJy,18,fun _=>none⟩ yI9:=zkp yb yc ⟨yJO,trivial⟩
def yTC:Nat→Option Seg:=fun _=>none
abbrev yhI:List Par:= [.rd tN]
abbrev ytT:List OT:= [⟨false,tL,(.ow .fz)⟩]
def ypM (a0:dN):Option (ResD ytT×MutD yhI) :=
  let r1:=ym a0
  bif (!r1) then
    some ((([]:List Int),()),())
  else
    bif (zj4 ([21322,a0.1,a0.2.1,(a0.2.2.length:Int)]:List Int).length a0.2.2.length 8) then
      some (((([21322,a0.1,a0.2.1,(a0.2.2.length:Int)]:List Int)++a0.2.2),()),())
    else none
theorem yZW (x:InD yhI):zjH ⟨yJy,18,yTC⟩ Tryz.f223.results.toList yI9 yhI ytT x=ypM x.1:=by kernel_rfl
theorem yV1:ConOk Tryz.prog 223 ⟨yhI,ytT,fun x=>ypM x.1⟩:=zkh (yQ4) Tryz.func223 (by kernel_rfl) (by kernel_rfl) Tryz.ntmps223.symm (by decide) (fun x r h=>(yZW x).trans h)
def ynN (a0:dN):List Int:=yqK a0
theorem yYd (a0:dN) (hk:zi9 yhI (a0,())):ypM a0=(fun n=>some ((n,()),())) (ynN a0):=by
  unfold ypM ynN yqK
  cases hr:ym a0
  · rfl
  · have:=(yM8.1 hr).2.2.1
    rw [zkw.2 (show (([21322,a0.1,a0.2.1,(a0.2.2.length:Int)]:List Int).length+a0.2.2.length) * 8≤140737488355328 by simp only [List.length_cons,List.length_nil]; omega)]; rfl
def yGy:Con:=⟨yhI,ytT,fun x=>(fun n=>some ((n,()),())) (ynN x.1)⟩
theorem yY1:ConOk Tryz.prog 223 yGy:=(yV1).mono (fun x r hk h=>(yYd x.1 hk).trans h)
end
section
def yh8:Code:=(Tryz.f254.body).getD .skip
def yoN:Env:=zki TT [(147,yff),(218,ygp)] [(32768,(.pr .fz .fz))]
theorem yL2:FrOk Tryz.prog ⟨yoN,40,fun _=>none⟩ yh8:=zkp yb yc ⟨ylM,ynS,trivial⟩
def yBa:Nat→Option Seg:=fun _=>none
def yaU:Shape:=⟨[(2,false,[.ptr 64 0]),(3,false,[.ptr 4224 0]),(4,false,[.int .i64])],[(64,[.nil,.nil,.bool,.nil]),(4224,[.at 800000000,.at 800000001,.bool,.at 800000002])],[(800000000,tL,.fz),(800000001,tW,(.pr .fz .fz)),(800000002,tI,.fz)]⟩
def yeG:Shape:=⟨[(2,false,[.ptr 64 0]),(3,false,[.ptr 4224 0]),(4,false,[.ci .i64 0])],[(64,[.nil,.nil,.bool,.nil]),(4224,[.at 800000000,.at 800000001,.bool,.at 800000002])],[(800000000,tL,.fz),(800000001,tW,(.pr .fz .fz)),(800000002,tI,.fz)]⟩
def yey:Shape:=⟨[(2,false,[.ptr 64 0]),(3,false,[.ptr 4224 0])],[(64,[.nil,.nil,.bool,.nil]),(4224,[.at 800000000,.at 800000001,.bool,.at 800000002])],[(800000000,tL,.fz),(800000001,tW,(.pr .fz .fz)),(800000002,tI,.fz)]⟩
def yja:Shape:=⟨[],[],[]⟩
abbrev yoe (v0:Int) (v1:dM) (v2:dM):(yaU).X:=((((),()),((),()),(v0,()),()),(((),(),v1.2.2.1,(),()),((),(),v2.2.2.1,(),()),()),(v2.1,v2.2.1,v2.2.2.2,()))
abbrev yKp (v0:dM) (v1:dM):(yeG).X:=((((),()),((),()),((),()),()),(((),(),v0.2.2.1,(),()),((),(),v1.2.2.1,(),()),()),(v1.1,v1.2.1,v1.2.2.2,()))
abbrev yxU (v0:dM) (v1:dM):(yey).X:=((((),()),((),()),()),(((),(),v0.2.2.1,(),()),((),(),v1.2.2.1,(),()),()),(v1.1,v1.2.1,v1.2.2.2,()))
def yoz (v0:Int) (v1:Bool) (v2:Bool) (v3:List (List Int)) (v4:List dW) (v5:List Int):Option ((yaU).X ⊕ ((yey).X ⊕ (yja).X)) :=
  bif (ltb v0 (v4.length:Int)) then
    bif (inb v0 v4.length) then
      bif (inb v0 v4.length) then
        bif (inb ((nth v4 v0 (0,[])).1) v3.length) then
          let r4:=(v3.set ((nth v4 v0 (0,[])).1).toNat ((nth v4 v0 (0,[])).2))
          some (.inl ((((),()),((),()),((IntKind.i64.wrap (v0+1)),()),()),(((),(),v1,(),()),((),(),v2,(),()),()),(r4,v4,v5,())))
        else none
      else none
    else none
  else
    some (.inr (.inl ((((),()),((),()),()),(((),(),v1,(),()),((),(),v2,(),()),()),(v3,v4,v5,()))))
def ybg (x:(yaU).X):=yoz x.1.2.2.1.1 x.2.1.1.2.2.1 x.2.1.2.1.2.2.1 x.2.2.1 x.2.2.2.1 x.2.2.2.2.1
def yxB (x:(yeG).X):(yaU).X:=((((),()),((),()),(0,()),()),(((),(),x.2.1.1.2.2.1,(),()),((),(),x.2.1.2.1.2.2.1,(),()),()),(x.2.2.1,x.2.2.2.1,x.2.2.2.2.1,()))
def yzj:Code:=(zdI yh8 64 244).getD .skip
theorem yLm:zdI yh8 64 61=some (.block 0 (.loop yzj)):=by kernel_rfl
theorem yM7 (x:(yaU).X):zg7 ⟨yoN,40,yBa⟩ 0 yzj 244 yaU yey yja x=ybg x:=by kernel_rfl
def yxP (x:(yeG).X):Nat:=(fun (u0:Bool) (u1:Bool) (u2:List (List Int)) (u3:List dW) (u4:List Int)=>18446744073709551616) x.2.1.1.2.2.1 x.2.1.2.1.2.2.1 x.2.2.1 x.2.2.2.1 x.2.2.2.2.1
def yqi (x:(yeG).X):Option ((yey).X ⊕ (yja).X):=zr ybg (yxP x) (yxB x)
def yx8:Seg:=⟨yeG,yey,yja,yqi⟩
def yBb:Nat→Option Seg:=fun q=>bif Nat.beq q 61 then some yx8 else yBa q
theorem yL3:FrOk Tryz.prog ⟨yoN,40,yBb⟩ yh8:=(yL2).loop (sg:=yx8) yaU yxB (by decide) yLm ybg yxP (by decide) (fun _=>rfl) (fun x r _ h=>h) yM7
abbrev ye5:List Par:= [.rd tM]
abbrev ypc:List OT:= [⟨false,tM,(.pr (.ow .fz) (.pr (.ow (.pr .fz .fz)) (.pr .fz (.ow .fz))))⟩]
def ykC (a0:dM):Option (ResD ypc×MutD ye5) :=
  let r1:=yK a0
  let r2:=yX a0
  bif (!(!r2)) then
    bif a0.2.2.1 then
      some ((r1,()),())
    else
      zjw (yqi ((((),()),((),()),((),()),()),(((),(),false,(),()),((),(),r1.2.2.1,(),()),()),(r1.1,r1.2.1,r1.2.2.2,()))) (fun y4 =>
        some (((y4.2.2.1,([]:List dW),y4.2.1.2.1.2.2.1,y4.2.2.2.2.1),()),())) (fun y4 =>
        none)
  else
    some ((r1,()),())
theorem yUj (x:InD ye5):zjH ⟨yoN,40,yBb⟩ Tryz.f254.results.toList yh8 ye5 ypc x=ykC x.1:=by kernel_rfl
theorem yPe:ConOk Tryz.prog 254 ⟨ye5,ypc,fun x=>ykC x.1⟩:=zkh (yL3) Tryz.func254 (by kernel_rfl) (by kernel_rfl) Tryz.ntmps254.symm (by decide) (fun x r h=>(yUj x).trans h)
def yjr (a0:dM):dM:=yg0 a0
theorem ySb (a0:dM) (hk:zi9 ye5 (a0,())):ykC a0=(fun n=>some ((n,()),())) (yjr a0):=by
  have hb2:a0.2.1.length * 32≤2 ^ 47:=hk.1.2.1.1
  unfold ykC yjr yg0
  simp only [yK,yX]
  cases hm:yp a0
  · rfl
  have h1:yqi (yKp yf a0)=some (.inl (yxU yf (ycn (fun _=>true) a0.2.1 a0.1,a0.2))) :=
    zks (step:=ybg) a0.2.1.length (fun i s=>yoe i yf (s,a0.2)) (yco (fun _=>true) a0.2.1) (fun i s=>s.length=a0.1.length) (fun s=> .inl (yxU yf (s,a0.2))) (fun i s hi hs=>by
      have hw:=(yIB hm hi).1
      refine ⟨?_,ywD.trans hs⟩
      simp only [ybg,yoe,yoz,zjI (show (i:Int) < a0.2.1.length by omega),cond_true,wr (show -9223372036854775808≤(i:Int)+1 by omega) (by omega),Int.natCast_add,Int.natCast_one,Int.toNat_natCast,zkO hi,hs,hw,yco]) (fun s hs=>by simp only [ybg,yoe,yoz,zkm (Int.le_refl _),cond_false]) a0.1 rfl _ (by show _ < 18446744073709551616; omega)
  rw [h1]
  cases hf:a0.2.2.1
  · exact congrArg (fun z=>some (((ycn (fun _=>true) a0.2.1 a0.1,([]:List dW),z,a0.2.2.2),()),())) hf
  · rfl
def yBL:Con:=⟨ye5,ypc,fun x=>(fun n=>some ((n,()),())) (yjr x.1)⟩
theorem ySV:ConOk Tryz.prog 254 yBL:=(yPe).mono (fun x r hk h=>(ySb x.1 hk).trans h)
end
end
end Go.Tf
