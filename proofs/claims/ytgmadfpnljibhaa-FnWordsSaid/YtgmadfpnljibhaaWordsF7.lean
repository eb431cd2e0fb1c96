/- Functions of the program, and what they come to. -/
import Derived.Test.YtgmadfpnljibhaaWordsF6
namespace Go.Tf
noncomputable section
open Go.Proofs
set_option synthInstance.maxHeartbeats 400000
set_option synthInstance.maxSize 10000
set_option linter.unusedVariables false
set_option linter.unusedSimpArgs false
set_option maxRecDepth 100000
section
def yx5:Code:=(Try.f152.body).getD .skip
def yyv:Env:=zki TT [(59,ywG),(60,yp),(136,yeF)] []
theorem yDb:FrOk Try.prog ⟨yyv,48,fun _=>none⟩ yx5:=zkp yc yd ⟨yLo,yx,yjz,trivial⟩
def yE3:Nat→Option Seg:=fun _=>none
abbrev yiB:List Par:= [.rd tA,.rd tI,.rd tL]
abbrev ymI:List OT:= [⟨false,tI,.fz⟩]
def ypg (a0:dA) (a1:Int) (a2:List Int):Option (ResD ymI×MutD yiB) :=
  let r1:=yhk a0
  bif (!(!r1)) then
    bif (!((a2.length:Int) !=(IntKind.i64.wrap (a0.2.1.1 - 1)))) then
      let r2:=yC a2
      bif (!r2) then
        some ((1,()),())
      else
        bif a0.2.2.2.2.2.2.2.2.2.2.1 then
          some ((6,()),())
        else
          let r3:=ya a1 0 (IntKind.i64.wrap (a0.2.1.2 - 1))
          bif (!r3) then
            some ((2,()),())
          else
            bif a0.2.2.2.2.2.2.2.2.2.2.2 then
              some ((5,()),())
            else
              bif (!(leb 60000 a0.2.2.2.2.2.1)) then
                bif (leb 59990 a0.2.2.2.2.2.2.2.1) then
                  some ((7,()),())
                else
                  some ((0,()),())
              else
                some ((7,()),())
    else
      some ((1,()),())
  else
    some ((1,()),())
theorem yKW (x:InD yiB):zjH ⟨yyv,48,yE3⟩ Try.f152.results.toList yx5 yiB ymI x=ypg x.1 x.2.1 x.2.2.1:=by kernel_rfl
theorem yHc:ConOk Try.prog 152 ⟨yiB,ymI,fun x=>ypg x.1 x.2.1 x.2.2.1⟩:=zkh (yDb) Try.func152 (by kernel_rfl) (by kernel_rfl) Try.ntmps152.symm (by decide) (fun x r h=>(yKW x).trans h)
def yH (a0:dA) (a1:Int) (a2:List Int):Int :=
  let r1:=yhk a0
  bif (!(!r1)) then
    bif (!((a2.length:Int) !=(IntKind.i64.wrap (a0.2.1.1 - 1)))) then
      let r2:=yC a2
      bif (!r2) then
        1
      else
        bif a0.2.2.2.2.2.2.2.2.2.2.1 then
          6
        else
          let r3:=ya a1 0 (IntKind.i64.wrap (a0.2.1.2 - 1))
          bif (!r3) then
            2
          else
            bif a0.2.2.2.2.2.2.2.2.2.2.2 then
              5
            else
              bif (!(leb 60000 a0.2.2.2.2.2.1)) then
                bif (leb 59990 a0.2.2.2.2.2.2.2.1) then
                  7
                else
                  0
              else
                7
    else
      1
  else
    1
def yvk:Con:=⟨yiB,ymI,fun x=>(fun n=>some ((n,()),())) (yH x.1 x.2.1 x.2.2.1)⟩
theorem yIY (a0:dA) (a1:Int) (a2:List Int):ypg a0 a1 a2=(fun n=>some ((n,()),())) (yH a0 a1 a2):=zkS (p:=fun (n:Int)=>((n,()),())) (zkx (p:=fun (n:Int)=>((n,()),())) (zkx (p:=fun (n:Int)=>((n,()),())) (zkx (p:=fun (n:Int)=>((n,()),())) rfl (zkx (p:=fun (n:Int)=>((n,()),())) rfl (zkx (p:=fun (n:Int)=>((n,()),())) rfl (zkx (p:=fun (n:Int)=>((n,()),())) rfl (zkx (p:=fun (n:Int)=>((n,()),())) (zkx (p:=fun (n:Int)=>((n,()),())) rfl rfl) rfl))))) rfl) rfl)
theorem yJI:ConOk Try.prog 152 yvk:=(yHc).mono (fun x r _ h=>(yIY x.1 x.2.1 x.2.2.1).trans h)
end
section
def yBT:Code:=(Try.f181.body).getD .skip
def yBV:Env:=zki TT [] []
theorem yIs:FrOk Try.prog ⟨yBV,31,fun _=>none⟩ yBT:=zkp yc yd trivial
def yKp:Nat→Option Seg:=fun _=>none
abbrev ylX:List Par:= [.pt tA (.pr .fz (.pr (.pr .fz .fz) (.pr (.ow (.pr (.ow .fz) (.pr (.ow (.pr .fz .fz)) (.pr .fz (.ow .fz))))) (.pr .fz (.pr .fz (.pr .fz (.pr .fz (.pr .fz (.pr (.ow (.pr .fz .fz)) (.pr .fz (.pr .fz .fz)))))))))))]
abbrev yp1:List OT:= [⟨false,tB,.fz⟩]
def yq0 (a0:dA):Option (ResD yp1×MutD ylX) :=
  bif a0.2.2.2.2.2.2.2.2.2.2.1 then
    some ((false,()),(a0,()))
  else
    bif (a0.2.2.2.2.2.2.2.2.2.1==0) then
      some ((false,()),((a0.1,a0.2.1,a0.2.2.1,a0.2.2.2.1,a0.2.2.2.2.1,a0.2.2.2.2.2.1,a0.2.2.2.2.2.2.1,a0.2.2.2.2.2.2.2.1,a0.2.2.2.2.2.2.2.2.1,(-1),true,a0.2.2.2.2.2.2.2.2.2.2.2),()))
    else
      bif (ltb 0 a0.2.2.2.2.2.2.2.2.2.1) then
        some ((true,()),((a0.1,a0.2.1,a0.2.2.1,a0.2.2.2.1,a0.2.2.2.2.1,a0.2.2.2.2.2.1,a0.2.2.2.2.2.2.1,a0.2.2.2.2.2.2.2.1,a0.2.2.2.2.2.2.2.2.1,(IntKind.i64.wrap (a0.2.2.2.2.2.2.2.2.2.1 - 1)),a0.2.2.2.2.2.2.2.2.2.2),()))
      else
        some ((true,()),(a0,()))
theorem yMI (x:InD ylX):zjH ⟨yBV,31,yKp⟩ Try.f181.results.toList yBT ylX yp1 x=yq0 x.1:=by kernel_rfl
theorem yLl:ConOk Try.prog 181 ⟨ylX,yp1,fun x=>yq0 x.1⟩:=zkh (yIs) Try.func181 (by kernel_rfl) (by kernel_rfl) Try.ntmps181.symm (by decide) (fun x r h=>(yMI x).trans h)
def yl5 (a0:dA):Bool×dA :=
  bif a0.2.2.2.2.2.2.2.2.2.2.1 then
    (false,a0)
  else
    bif (a0.2.2.2.2.2.2.2.2.2.1==0) then
      (false,(a0.1,a0.2.1,a0.2.2.1,a0.2.2.2.1,a0.2.2.2.2.1,a0.2.2.2.2.2.1,a0.2.2.2.2.2.2.1,a0.2.2.2.2.2.2.2.1,a0.2.2.2.2.2.2.2.2.1,(-1),true,a0.2.2.2.2.2.2.2.2.2.2.2))
    else
      bif (ltb 0 a0.2.2.2.2.2.2.2.2.2.1) then
        (true,(a0.1,a0.2.1,a0.2.2.1,a0.2.2.2.1,a0.2.2.2.2.1,a0.2.2.2.2.2.1,a0.2.2.2.2.2.2.1,a0.2.2.2.2.2.2.2.1,a0.2.2.2.2.2.2.2.2.1,(IntKind.i64.wrap (a0.2.2.2.2.2.2.2.2.2.1 - 1)),a0.2.2.2.2.2.2.2.2.2.2))
      else
        (true,a0)
def yqQ:Con:=⟨ylX,yp1,fun x=>(fun n=>some ((n.1,()),(n.2,()))) (yl5 x.1)⟩
theorem yMo (a0:dA):yq0 a0=(fun n=>some ((n.1,()),(n.2,()))) (yl5 a0):=zkS (p:=fun (n:Bool×dA)=>((n.1,()),(n.2,()))) (zkx (p:=fun (n:Bool×dA)=>((n.1,()),(n.2,()))) rfl (zkx (p:=fun (n:Bool×dA)=>((n.1,()),(n.2,()))) rfl (zkx (p:=fun (n:Bool×dA)=>((n.1,()),(n.2,()))) rfl rfl)))
theorem yz7:ConOk Try.prog 181 yqQ:=(yLl).mono (fun x r _ h=>(yMo x.1).trans h)
theorem yHN (a:dA):yl5 a=yK a:=by kernel_rfl
end
section
def yd9:Code:=(Try.f197.body).getD .skip
def yhD:Env:=zki TT [] []
theorem yyJ:FrOk Try.prog ⟨yhD,28,fun _=>none⟩ yd9:=zkp yc yd trivial
def yp7:Nat→Option Seg:=fun _=>none
def yag:Shape:=⟨[(0,false,[.br tI]),(1,false,[.int .i64]),(5,false,[.at 800000000]),(6,false,[.int .i64])],[],[(800000000,tI,.fz)]⟩
def ycu:Shape:=⟨[(0,false,[.br tI]),(1,false,[.int .i64]),(5,false,[.at 800000000]),(6,false,[.ci .i64 0])],[],[(800000000,tI,.fz)]⟩
def ycr:Shape:=⟨[(5,false,[.at 800000000])],[],[(800000000,tI,.fz)]⟩
def yeO:Shape:=⟨[],[],[]⟩
abbrev yhU (v0:List Int) (v1:Int) (v2:Int) (v3:List Int):(yag).X:=(((v0,()),(v1,()),((),()),(v2,()),()),(),(v3,()))
abbrev yxv (v0:List Int) (v1:Int) (v2:List Int):(ycu).X:=(((v0,()),(v1,()),((),()),((),()),()),(),(v2,()))
abbrev yxs (v0:List Int):(ycr).X:=((((),()),()),(),(v0,()))
def yia (v0:List Int) (v1:Int) (v2:Int) (v3:List Int):Option ((yag).X ⊕ ((ycr).X ⊕ (yeO).X)) :=
  bif (ltb v2 (v0.length:Int)) then
    bif (inb v2 v0.length) then
      bif ((nth v0 v2 0) !=v1) then
        bif (inb v2 v0.length) then
          bif (zj4 v3.length ([(nth v0 v2 0)]:List Int).length 8) then
            some (.inl (((v0,()),(v1,()),((),()),((IntKind.i64.wrap (v2+1)),()),()),(),((v3++([(nth v0 v2 0)]:List Int)),())))
          else none
        else none
      else
        some (.inl (((v0,()),(v1,()),((),()),((IntKind.i64.wrap (v2+1)),()),()),(),(v3,())))
    else none
  else
    some (.inr (.inl ((((),()),()),(),(v3,()))))
def yar (x:(yag).X):=yia x.1.1.1 x.1.2.1.1 x.1.2.2.2.1.1 x.2.2.1
def yoS (x:(ycu).X):(yag).X:=(((x.1.1.1,()),(x.1.2.1.1,()),((),()),(0,()),()),(),(x.2.2.1,()))
def ypo:Code:=(zdI yd9 64 116).getD .skip
theorem yyH:zdI yd9 64 29=some (.block 0 (.loop ypo)):=by kernel_rfl
theorem yyW (x:(yag).X):zg7 ⟨yhD,28,yp7⟩ 0 ypo 116 yag ycr yeO x=yar x:=by kernel_rfl
def yoV (x:(ycu).X):Nat:=(fun (u0:List Int) (u1:Int) (u2:List Int)=>18446744073709551616) x.1.1.1 x.1.2.1.1 x.2.2.1
def yi2 (x:(ycu).X):Option ((ycr).X ⊕ (yeO).X):=zr yar (yoV x) (yoS x)
def ypj:Seg:=⟨ycu,ycr,yeO,yi2⟩
def yp8:Nat→Option Seg:=fun q=>bif Nat.beq q 29 then some ypj else yp7 q
theorem yyK:FrOk Try.prog ⟨yhD,28,yp8⟩ yd9:=(yyJ).loop (sg:=ypj) yag yoS (by decide) yyH yar yoV (by decide) (fun _=>rfl) (fun x r _ h=>h) yyW
abbrev ycy:List Par:= [.rd tL,.rd tI]
abbrev yhG:List OT:= [⟨false,tL,(.ow .fz)⟩]
def yf2 (a0:List Int) (a1:Int):Option (ResD yhG×MutD ycy) :=
  zjw (yi2 (((a0,()),(a1,()),((),()),((),()),()),(),(([]:List Int),()))) (fun y0 =>
    some ((y0.2.2.1,()),())) (fun y0 =>
    none)
theorem yCv (x:InD ycy):zjH ⟨yhD,28,yp8⟩ Try.f197.results.toList yd9 ycy yhG x=yf2 x.1 x.2.1:=by kernel_rfl
theorem yz3:ConOk Try.prog 197 ⟨ycy,yhG,fun x=>yf2 x.1 x.2.1⟩:=zkh (yyK) Try.func197 (by kernel_rfl) (by kernel_rfl) Try.ntmps197.symm (by decide) (fun x r h=>(yCv x).trans h)
def yeK (a0:List Int) (a1:Int):List Int:=yEC a0 a1
theorem yzs {α:Type} (p:α→Bool): ∀ (l:List α) (s:List α),l.foldl (fun s x=>bif p x then s++ [x] else s) s=s++l.filter p
  | [],s=>by simp
  | x::l,s=>by
    rw [List.foldl_cons,yzs p l,List.filter_cons]
    cases p x<;>simp
theorem yBw (a0:List Int) (a1:Int) (hk:zi9 ycy (a0,a1,())):yf2 a0 a1=(fun n=>some ((n,()),())) (yeK a0 a1):=by
  have hb:a0.length * 8≤2 ^ 47:=hk.1.1
  have h1:=zkk (step:=yar) a0 0 (fun i s=>yhU a0 a1 i s) (fun s x=>bif x !=a1 then s++ [x] else s) (fun i s=>s.length≤i) (fun s=> .inl (yxs s)) (fun i s hi hs=>by
      constructor
      · simp only [yar,yhU,yia,zjI (show (i:Int) < a0.length by omega),cond_true,wr (show -9223372036854775808≤(i:Int)+1 by omega) (by omega),Int.natCast_add,Int.natCast_one,Int.toNat_natCast,zkO hi,zjW]
        rw [zkw.2 (show (s.length+ [a0.getD i 0].length) * 8≤140737488355328 by simp only [List.length_cons,List.length_nil]; omega)]
        cases (a0.getD i 0 !=a1)<;>rfl
      · cases (a0.getD i 0 !=a1)
        · show s.length≤_; omega
        · simp only [cond_true,List.length_append,List.length_cons,List.length_nil]; omega) (fun s _=>by simp only [yar,yhU,yia,zkm (Int.le_refl _),cond_false]) [] (Nat.le_refl _) 18446744073709551616 (by omega)
  unfold yf2 yeK yEC
  rw [show yi2 (yxv a0 a1 [])=_ from h1,yzs]; rfl
def yqe:Con:=⟨ycy,yhG,fun x=>(fun n=>some ((n,()),())) (yeK x.1 x.2.1)⟩
theorem yBI:ConOk Try.prog 197 yqe:=(yz3).mono (fun x r hk h=>(yBw x.1 x.2.1 hk).trans h)
end
section
def yt8:Code:=(Try.f182.body).getD .skip
def yuD:Env:=zki TT [(60,yp),(98,yfS),(101,ydZ),(137,ypF),(197,yqe)] [(16832,(.pr .fz .fz))]
theorem yzC:FrOk Try.prog ⟨yuD,55,fun _=>none⟩ yt8:=zkp yc yd ⟨yx,yk6,yiT,yyz,yBI,trivial⟩
def yAv:Nat→Option Seg:=fun _=>none
abbrev yc9:List Par:= [.rd tM,.rd tI,.rd tL]
abbrev yji:List OT:= [⟨false,tM,(.pr (.ow .fz) (.pr (.ow (.pr .fz .fz)) (.pr .fz (.ow .fz))))⟩,⟨false,tB,.fz⟩]
def ygx (a0:dM) (a1:Int) (a2:List Int):Option (ResD yji×MutD yc9) :=
  let r1:=yO a0
  let r2:=yR a0
  bif (!(!r2)) then
    bif (!a0.2.2.1) then
      let r3:=ya a1 0 (IntKind.i64.wrap ((a0.1.length:Int) - 1))
      bif (!(!r3)) then
        let r4:=yeI a2
        bif (!(!r4)) then
          bif (leb 60 (a0.2.1.length:Int)) then
            some ((r1,false,()),())
          else
            bif (zj4 ([]:List Int).length a2.length 8) then
              bif (zj4 r1.2.1.length ([(a1,(([]:List Int)++a2))]:List dW).length 32) then
                let r5:=yeK a0.2.2.2 a1
                some (((r1.1,(r1.2.1++([(a1,(([]:List Int)++a2))]:List dW)),r1.2.2.1,r5),true,()),())
              else none
            else none
        else
          some ((r1,false,()),())
      else
        some ((r1,false,()),())
    else
      some ((r1,false,()),())
  else
    some ((r1,false,()),())
theorem yFv (x:InD yc9):zjH ⟨yuD,55,yAv⟩ Try.f182.results.toList yt8 yc9 yji x=ygx x.1 x.2.1 x.2.2.1:=by kernel_rfl
theorem yBE:ConOk Try.prog 182 ⟨yc9,yji,fun x=>ygx x.1 x.2.1 x.2.2.1⟩:=zkh (yzC) Try.func182 (by kernel_rfl) (by kernel_rfl) Try.ntmps182.symm (by decide) (fun x r h=>(yFv x).trans h)
def yfW (a0:dM) (a1:Int) (a2:List Int):dM×Bool:=yB a0 a1 a2
theorem yDV (a0:dM) (a1:Int) (a2:List Int) (hk:zi9 yc9 (a0,a1,a2,())):ygx a0 a1 a2=(fun n=>some ((n.1,n.2,()),())) (yfW a0 a1 a2):=by
  have hb1:a0.1.length * 24≤2 ^ 47:=hk.1.1.1
  have hb2:a2.length * 8≤2 ^ 47:=hk.2.2.1.1
  unfold ygx yfW yB yaJ
  simp only [yO,yR,yl3 (show a0.1.length≤1152921504606846976 by omega),yvQ,yeK,List.nil_append]
  cases ym a0
  · rfl
  cases a0.2.2.1
  · cases inb a1 a0.1.length
    · rfl
    cases yI a2
    · rfl
    by_cases h:(a0.2.1.length:Int) < 60
    · rw [zjI h,zkZ h,zkw.2 (show (([]:List Int).length+a2.length) * 8≤140737488355328 by rw [List.length_nil]; omega),zkw.2 (show (a0.2.1.length+ [(a1,a2)].length) * 32≤140737488355328 by simp only [List.length_cons,List.length_nil]; omega)]; rfl
    · rw [zkm (by omega),zk0 (by omega)]; rfl
  · rfl
def yro:Con:=⟨yc9,yji,fun x=>(fun n=>some ((n.1,n.2,()),())) (yfW x.1 x.2.1 x.2.2.1)⟩
theorem yEm:ConOk Try.prog 182 yro:=(yBE).mono (fun x r hk h=>(yDV x.1 x.2.1 x.2.2.1 hk).trans h)
end
section
def yy5:Code:=(Try.f157.body).getD .skip
def yzg:Env:=zki TT [(181,yqQ),(182,yro)] []
theorem yF3:FrOk Try.prog ⟨yzg,43,fun _=>none⟩ yy5:=zkp yc yd ⟨yz7,yEm,trivial⟩
def yH0:Nat→Option Seg:=fun _=>none
abbrev yec:List Par:= [.pt tA (.pr .fz (.pr (.pr .fz .fz) (.pr (.ow (.pr (.ow .fz) (.pr (.ow (.pr .fz .fz)) (.pr .fz (.ow .fz))))) (.pr .fz (.pr .fz (.pr .fz (.pr .fz (.pr .fz (.pr (.ow (.pr .fz .fz)) (.pr .fz (.pr .fz .fz))))))))))),.rd tI,.rd tI,.rd tL]
abbrev yj8:List OT:= []
def ylf (a0:dA) (a1:Int) (a2:Int) (a3:List Int):Option (ResD yj8×MutD yec) :=
  bif (inb a1 a0.2.2.1.length) then
    bif (!((((nth a0.2.2.1 a1 ([],[],false,[])).2).2).1)) then
      let r1:=yl5 a0
      bif (!r1.1) then
        some ((),(r1.2,()))
      else
        bif (inb a1 r1.2.2.2.1.length) then
          let r2:=yfW ((nth r1.2.2.2.1 a1 ([],[],false,[])).1,((nth r1.2.2.2.1 a1 ([],[],false,[])).2).1,(((nth r1.2.2.2.1 a1 ([],[],false,[])).2).2)) a2 a3
          bif (inb a1 r1.2.2.2.1.length) then
            some ((),((r1.2.1,r1.2.2.1,(r1.2.2.2.1.set (a1).toNat r2.1),r1.2.2.2.2),()))
          else none
        else none
    else
      some ((),(a0,()))
  else none
theorem yL3 (x:InD yec):zjH ⟨yzg,43,yH0⟩ Try.f157.results.toList yy5 yec yj8 x=ylf x.1 x.2.1 x.2.2.1 x.2.2.2.1:=by kernel_rfl
theorem yJi:ConOk Try.prog 157 ⟨yec,yj8,fun x=>ylf x.1 x.2.1 x.2.2.1 x.2.2.2.1⟩:=zkh (yF3) Try.func157 (by kernel_rfl) (by kernel_rfl) Try.ntmps157.symm (by decide) (fun x r h=>(yL3 x).trans h)
def ykm (a0:dA) (a1 a2:Int) (a3:List Int):dA:=ycm a0 a1 a2 a3
def ytF (a0:dA) (a1 a2:Int) (a3:List Int):Bool:=inb a1 a0.2.2.1.length
theorem yLf (a0:dA) (a1 a2:Int) (a3:List Int) (hk:zi9 yec (a0,a1,a2,a3,())) (hq:ytF a0 a1 a2 a3=true):ylf a0 a1 a2 a3=(fun n=>some ((),(n,()))) (ykm a0 a1 a2 a3):=by
  have hq:inb a1 a0.2.2.1.length=true:=hq
  unfold ylf ykm ycm setMem
  simp only [yHN,yT,hq,zkV,yfW]
  cases (nth a0.2.2.1 a1 noMem).2.2.1<;>cases (yK a0).1<;>rfl
def ycZ (a0:dA) (a1:Int) (a2:Int) (a3:List Int):Option (ResD yj8×MutD yec):=bif ytF a0 a1 a2 a3 then (fun n=>some ((),(n,()))) (ykm a0 a1 a2 a3) else none
theorem yiU (a0:dA) (a1:Int) (a2:Int) (a3:List Int) (h:ytF a0 a1 a2 a3=true):ycZ a0 a1 a2 a3=(fun n=>some ((),(n,()))) (ykm a0 a1 a2 a3):=by unfold ycZ; rw [h]; rfl
def yhd:Con:=⟨yec,yj8,fun x=>ycZ x.1 x.2.1 x.2.2.1 x.2.2.2.1⟩
theorem ymR:ConOk Try.prog 157 yhd:=(yJi).mono (fun x r hk h=>zkW h (fun hq=>yLf x.1 x.2.1 x.2.2.1 x.2.2.2.1 hk hq))
end
section
def ye9:Code:=(Try.f183.body).getD .skip
def yi7:Env:=zki TT [(98,yfS),(101,ydZ)] [(32768,(.pr .fz .fz))]
theorem yzv:FrOk Try.prog ⟨yi7,40,fun _=>none⟩ ye9:=zkp yc yd ⟨yk6,yiT,trivial⟩
def yq5:Nat→Option Seg:=fun _=>none
def yau:Shape:=⟨[(2,false,[.ptr 64 0]),(3,false,[.ptr 4224 0]),(4,false,[.int .i64])],[(64,[.nil,.nil,.bool,.nil]),(4224,[.at 800000000,.at 800000001,.bool,.at 800000002])],[(800000000,tL,.fz),(800000001,tW,(.pr .fz .fz)),(800000002,tI,.fz)]⟩
def ycS:Shape:=⟨[(2,false,[.ptr 64 0]),(3,false,[.ptr 4224 0]),(4,false,[.ci .i64 0])],[(64,[.nil,.nil,.bool,.nil]),(4224,[.at 800000000,.at 800000001,.bool,.at 800000002])],[(800000000,tL,.fz),(800000001,tW,(.pr .fz .fz)),(800000002,tI,.fz)]⟩
def ycR:Shape:=⟨[(2,false,[.ptr 64 0]),(3,false,[.ptr 4224 0])],[(64,[.nil,.nil,.bool,.nil]),(4224,[.at 800000000,.at 800000001,.bool,.at 800000002])],[(800000000,tL,.fz),(800000001,tW,(.pr .fz .fz)),(800000002,tI,.fz)]⟩
def yfO:Shape:=⟨[],[],[]⟩
abbrev yi3 (v0:Int) (v1:dM) (v2:dM):(yau).X:=((((),()),((),()),(v0,()),()),(((),(),v1.2.2.1,(),()),((),(),v2.2.2.1,(),()),()),(v2.1,v2.2.1,v2.2.2.2,()))
abbrev yyL (v0:dM) (v1:dM):(ycS).X:=((((),()),((),()),((),()),()),(((),(),v0.2.2.1,(),()),((),(),v1.2.2.1,(),()),()),(v1.1,v1.2.1,v1.2.2.2,()))
abbrev ypt (v0:dM) (v1:dM):(ycR).X:=((((),()),((),()),()),(((),(),v0.2.2.1,(),()),((),(),v1.2.2.1,(),()),()),(v1.1,v1.2.1,v1.2.2.2,()))
def yi6 (v0:Int) (v1:Bool) (v2:Bool) (v3:List (List Int)) (v4:List dW) (v5:List Int):Option ((yau).X ⊕ ((ycR).X ⊕ (yfO).X)) :=
  bif (ltb v0 (v4.length:Int)) then
    bif (inb v0 v4.length) then
      bif (inb v0 v4.length) then
        bif (inb ((nth v4 v0 (0,[])).1) v3.length) then
          let r4:=(v3.set ((nth v4 v0 (0,[])).1).toNat ((nth v4 v0 (0,[])).2))
          some (.inl ((((),()),((),()),((IntKind.i64.wrap (v0+1)),()),()),(((),(),v1,(),()),((),(),v2,(),()),()),(r4,v4,v5,())))
        else none
      else none
    else none
  else
    some (.inr (.inl ((((),()),((),()),()),(((),(),v1,(),()),((),(),v2,(),()),()),(v3,v4,v5,()))))
def yaA (x:(yau).X):=yi6 x.1.2.2.1.1 x.2.1.1.2.2.1 x.2.1.2.1.2.2.1 x.2.2.1 x.2.2.2.1 x.2.2.2.2.1
def ypr (x:(ycS).X):(yau).X:=((((),()),((),()),(0,()),()),(((),(),x.2.1.1.2.2.1,(),()),((),(),x.2.1.2.1.2.2.1,(),()),()),(x.2.2.1,x.2.2.2.1,x.2.2.2.2.1,()))
def yqc:Code:=(zdI ye9 64 244).getD .skip
theorem yzi:zdI ye9 64 61=some (.block 0 (.loop yqc)):=by kernel_rfl
theorem yAa (x:(yau).X):zg7 ⟨yi7,40,yq5⟩ 0 yqc 244 yau ycR yfO x=yaA x:=by kernel_rfl
def yps (x:(ycS).X):Nat:=(fun (u0:Bool) (u1:Bool) (u2:List (List Int)) (u3:List dW) (u4:List Int)=>18446744073709551616) x.2.1.1.2.2.1 x.2.1.2.1.2.2.1 x.2.2.1 x.2.2.2.1 x.2.2.2.2.1
def yj0 (x:(ycS).X):Option ((ycR).X ⊕ (yfO).X):=zr yaA (yps x) (ypr x)
def ypu:Seg:=⟨ycS,ycR,yfO,yj0⟩
def yq6:Nat→Option Seg:=fun q=>bif Nat.beq q 61 then some ypu else yq5 q
theorem yzw:FrOk Try.prog ⟨yi7,40,yq6⟩ ye9:=(yzv).loop (sg:=ypu) yau ypr (by decide) yzi yaA yps (by decide) (fun _=>rfl) (fun x r _ h=>h) yAa
abbrev yc5:List Par:= [.rd tM]
abbrev yjd:List OT:= [⟨false,tM,(.pr (.ow .fz) (.pr (.ow (.pr .fz .fz)) (.pr .fz (.ow .fz))))⟩]
def ygt (a0:dM):Option (ResD yjd×MutD yc5) :=
  let r1:=yO a0
  let r2:=yR a0
  bif (!(!r2)) then
    bif a0.2.2.1 then
      some ((r1,()),())
    else
      zjw (yj0 ((((),()),((),()),((),()),()),(((),(),false,(),()),((),(),r1.2.2.1,(),()),()),(r1.1,r1.2.1,r1.2.2.2,()))) (fun y4 =>
        some (((y4.2.2.1,([]:List dW),y4.2.1.2.1.2.2.1,y4.2.2.2.2.1),()),())) (fun y4 =>
        none)
  else
    some ((r1,()),())
theorem yFq (x:InD yc5):zjH ⟨yi7,40,yq6⟩ Try.f183.results.toList ye9 yc5 yjd x=ygt x.1:=by kernel_rfl
theorem yBz:ConOk Try.prog 183 ⟨yc5,yjd,fun x=>ygt x.1⟩:=zkh (yzw) Try.func183 (by kernel_rfl) (by kernel_rfl) Try.ntmps183.symm (by decide) (fun x r h=>(yFq x).trans h)
def yfU (a0:dM):dM:=yq a0
theorem yDQ (a0:dM) (hk:zi9 yc5 (a0,())):ygt a0=(fun n=>some ((n,()),())) (yfU a0):=by
  have hb2:a0.2.1.length * 32≤2 ^ 47:=hk.1.2.1.1
  unfold ygt yfU yq
  simp only [yO,yR]
  cases hm:ym a0
  · rfl
  have h1:yj0 (yyL noMem a0)=some (.inl (ypt noMem (yd1 (fun _=>true) a0.2.1 a0.1,a0.2))) :=
    zks (step:=yaA) a0.2.1.length (fun i s=>yi3 i noMem (s,a0.2)) (ybm (fun _=>true) a0.2.1) (fun i s=>s.length=a0.1.length) (fun s=> .inl (ypt noMem (s,a0.2))) (fun i s hi hs=>by
      have hw:=(yOk hm hi).1
      refine ⟨?_,yxm.trans hs⟩
      simp only [yaA,yi3,yi6,zjI (show (i:Int) < a0.2.1.length by omega),cond_true,wr (show -9223372036854775808≤(i:Int)+1 by omega) (by omega),Int.natCast_add,Int.natCast_one,Int.toNat_natCast,zkO hi,hs,hw,ybm]) (fun s hs=>by simp only [yaA,yi3,yi6,zkm (Int.le_refl _),cond_false]) a0.1 rfl _ (by show _ < 18446744073709551616; omega)
  rw [h1]
  cases hf:a0.2.2.1
  · exact congrArg (fun z=>some (((yd1 (fun _=>true) a0.2.1 a0.1,([]:List dW),z,a0.2.2.2),()),())) hf
  · rfl
def yrl:Con:=⟨yc5,yjd,fun x=>(fun n=>some ((n,()),())) (yfU x.1)⟩
theorem yEj:ConOk Try.prog 183 yrl:=(yBz).mono (fun x r hk h=>(yDQ x.1 hk).trans h)
end
end
end Go.Tf
