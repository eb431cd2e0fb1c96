/- Functions of the program, and what they come to. -/
import Derived.Test.YtgmadfpnljibhaaGreatExactSetBlockF5
namespace Go.Tf
noncomputable section
open Go.Proofs
set_option synthInstance.maxHeartbeats 400000
set_option synthInstance.maxSize 10000
set_option linter.unusedVariables false
set_option linter.unusedSimpArgs false
set_option maxRecDepth 100000
section
def yBt:Code:=(Tryz.f108.body).getD .skip
def yBQ:Env:=zki TT [(126,yp)] []
theorem yHf:FrOk Tryz.prog ⟨yBQ,9,fun _=>none⟩ yBt:=zkp yb yc ⟨yF,trivial⟩
def yJD:Nat→Option Seg:=fun _=>none
abbrev yjD:List Par:= [.rd tI]
abbrev yoF:List OT:= [⟨false,tI,.fz⟩]
def yrt (a0:Int):Option (ResD yoF×MutD yjD) :=
 let r1:=ye a0 0 1099511627776
 bif (!r1) then
 some (((-1),()),())
 else
 some (((IntKind.i64.wrap ((IntKind.i64.wrap (a0+2))+4)),()),())
theorem yPL (x:InD yjD):zjH ⟨yBQ,9,yJD⟩ Tryz.f108.results.toList yBt yjD yoF x=yrt x.1:=by kernel_rfl
theorem yLM:ConOk Tryz.prog 108 ⟨yjD,yoF,fun x=>yrt x.1⟩:=zkh (yHf) Tryz.func108 (by kernel_rfl) (by kernel_rfl) Tryz.ntmps108.symm (by decide) (fun x r h=>(yPL x).trans h)
def yo9 (a0:Int):Int :=
 let r1:=ye a0 0 1099511627776
 bif (!r1) then
 (-1)
 else
 (IntKind.i64.wrap ((IntKind.i64.wrap (a0+2))+4))
def yy4:Con:=⟨yjD,yoF,fun x=>(fun n=>some ((n,()),())) (yo9 x.1)⟩
theorem yNW (a0:Int):yrt a0=(fun n=>some ((n,()),())) (yo9 a0):=zkS (p:=fun (n:Int)=>((n,()),())) (zkx (p:=fun (n:Int)=>((n,()),())) rfl rfl)
theorem yOY:ConOk Tryz.prog 108 yy4:=(yLM).mono (fun x r _ h=>(yNW x.1).trans h)
end
section
def yBE:Code:=(Tryz.f141.body).getD .skip
def yB1:Env:=zki TT [(135,yl)] []
theorem yHI:FrOk Tryz.prog ⟨yB1,9,fun _=>none⟩ yBE:=zkp yb yc ⟨yv,trivial⟩
def yJO:Nat→Option Seg:=fun _=>none
abbrev yjL:List Par:= [.rd tI]
abbrev yoY:List OT:= [⟨false,tI,.fz⟩]
def yrB (a0:Int):Option (ResD yoY×MutD yjL) :=
 let r1:=ya a0 0 1099511627776
 bif (!r1) then
 some (((-1),()),())
 else
 some (((IntKind.i64.wrap ((IntKind.i64.wrap (a0+2))+4)),()),())
theorem yP5 (x:InD yjL):zjH ⟨yB1,9,yJO⟩ Tryz.f141.results.toList yBE yjL yoY x=yrB x.1:=by kernel_rfl
theorem yL6:ConOk Tryz.prog 141 ⟨yjL,yoY,fun x=>yrB x.1⟩:=zkh (yHI) Tryz.func141 (by kernel_rfl) (by kernel_rfl) Tryz.ntmps141.symm (by decide) (fun x r h=>(yP5 x).trans h)
def yj4 (a0:Int):Int :=
 let r1:=ya a0 0 1099511627776
 bif (!r1) then
 (-1)
 else
 (IntKind.i64.wrap ((IntKind.i64.wrap (a0+2))+4))
def yzh:Con:=⟨yjL,yoY,fun x=>(fun n=>some ((n,()),())) (yj4 x.1)⟩
theorem yOg (a0:Int):yrB a0=(fun n=>some ((n,()),())) (yj4 a0):=zkS (p:=fun (n:Int)=>((n,()),())) (zkx (p:=fun (n:Int)=>((n,()),())) rfl rfl)
theorem yPb:ConOk Tryz.prog 141 yzh:=(yL6).mono (fun x r _ h=>(yOg x.1).trans h)
theorem yBb (s:Int):yj4 s=yw6 s:=by
 unfold yj4 yw6
 rw [ydr]
 by_cases h:0≤s∧s≤1099511627776
 ·rw [zk0 h.1,zk0 h.2,wr (show -9223372036854775808≤s+2 by omega) (by omega),wr (by omega) (by omega)]
  show s+2+4=s+6
  omega
 ·cases h1:(leb 0 s&&leb s 1099511627776)
  ·rfl
  ·rw [Bool.and_eq_true,zjQ,zjQ]at h1; exact absurd h1 h
theorem yNS (s:Int):yo9 s=yw6 s:=yBb s
end
section
def ycS:Code:=(Tryz.f275.body).getD .skip
def yfG:Env:=zki TT [] []
theorem yAV:FrOk Tryz.prog ⟨yfG,19,fun _=>none⟩ ycS:=zkp yb yc trivial
def yqe:Nat→Option Seg:=fun _=>none
def yO:Shape:=⟨[(0,false,[.br tI]),(1,false,[.int .i64]),(7,false,[.int .i64]),(8,false,[.int .i64])],[],[]⟩
def ybv:Shape:=⟨[(0,false,[.br tI]),(1,false,[.int .i64]),(7,false,[.int .i64]),(8,false,[.ci .i64 0])],[],[]⟩
def ybt:Shape:=⟨[],[],[]⟩
def ybx:Shape:=⟨[(4,false,[.int .i64])],[],[]⟩
abbrev ygN (v0:List Int) (v1 v2 v3:Int):(yO).X:=(((v0,()),(v1,()),(v2,()),(v3,()),()),(),())
abbrev yzK (v0:List Int) (v1 v2:Int):(ybv).X:=(((v0,()),(v1,()),(v2,()),((),()),()),(),())
abbrev yzI  :(ybt).X:=((),(),())
abbrev yop (v0:Int):(ybx).X:=(((v0,()),()),(),())
def ygQ (v0:List Int) (v1 v2 v3:Int):Option ((yO).X ⊕ ((ybt).X ⊕ (ybx).X)) :=
 bif (ltb v3 v2) then
 bif (inb v3 v0.length) then
 bif (v1==(nth v0 v3 0)) then
 some (.inr (.inr (((v3,()),()),(),())))
 else
 some (.inl (((v0,()),(v1,()),(v2,()),((IntKind.i64.wrap (v3+1)),()),()),(),()))
 else none
 else
 some (.inr (.inl ((),(),())))
def yU (x:(yO).X):=ygQ x.1.1.1 x.1.2.1.1 x.1.2.2.1.1 x.1.2.2.2.1.1
def yok (x:(ybv).X):(yO).X:=(((x.1.1.1,()),(x.1.2.1.1,()),(x.1.2.2.1.1,()),(0,()),()),(),())
def yp4:Code:=(zdI ycS 64 52).getD .skip
theorem yAp:zdI ycS 64 13=some (.block 0 (.loop yp4)):=by kernel_rfl
theorem yA8 (x:(yO).X):zg7 ⟨yfG,19,yqe⟩ 0 yp4 52 yO ybt ybx x=yU x:=by kernel_rfl
def yom (x:(ybv).X):Nat:=18446744073709551616
def yhR (x:(ybv).X):Option ((ybt).X ⊕ (ybx).X):=zr yU (yom x) (yok x)
def yor:Seg:=⟨ybv,ybt,ybx,yhR⟩
def yqf:Nat→Option Seg:=fun q=>bif Nat.beq q 13 then some yor else yqe q
theorem yAW:FrOk Tryz.prog ⟨yfG,19,yqf⟩ ycS:=(yAV).loop (sg:=yor) yO yok (by decide) yAp yU yom (by decide) (fun _=>rfl) (fun x r _ h=>h) yA8
abbrev ybl:List Par:= [.rd tL,.rd tI]
abbrev ygg:List OT:= [⟨false,tI,.fz⟩]
def yeb (a0:List Int) (a1:Int):Option (ResD ygg×MutD ybl) :=
 zjw (yhR (((a0,()),(a1,()),((a0.length:Int),()),((),()),()),(),())) (fun y0 =>
 some (((-1),()),())) (fun y0 =>
 some ((y0.1.1.1,()),()))
theorem yDr (x:InD ybl):zjH ⟨yfG,19,yqf⟩ Tryz.f275.results.toList ycS ybl ygg x=yeb x.1 x.2.1:=by kernel_rfl
theorem yBl:ConOk Tryz.prog 275 ⟨ybl,ygg,fun x=>yeb x.1 x.2.1⟩:=zkh (yAW) Tryz.func275 (by kernel_rfl) (by kernel_rfl) Tryz.ntmps275.symm (by decide) (fun x r h=>(yDr x).trans h)
def yNT (l:List Int) (x:Int):Int:=bif l.any (· ==x) then ((l.takeWhile (· !=x)).length:Int) else -1
def yc6 (a0:List Int) (a1:Int):Int:=yNT a0 a1
theorem ySz {A B α:Type} {step:A→Option (A ⊕ B)} (l:List α) (d:α) (f:Nat→A) (p:α→Bool) (b:Nat→B) (c:B)
  (h: ∀ i,i < l.length→step (f i)=some (bif p (l.getD i d) then .inr (b i) else .inl (f (i+1)))) (e:step (f l.length)=some (.inr c)) (fuel:Nat) (hf:l.length < fuel) :
  zr step fuel (f 0)=some (bif l.any p then b (l.takeWhile (fun x=> !p x)).length else c):=by
 have: ∀ (t q:List α) (fuel:Nat),q++t=l→t.length < fuel→zr step fuel (f q.length)=some (bif t.any p then b (q.length+(t.takeWhile (fun x=> !p x)).length) else c):=by
  intro t
  induction t with
  | nil =>
   intro q fuel hq hf
   obtain ⟨fuel,rfl⟩: ∃ m,fuel=m+1:=⟨fuel - 1,by omega⟩
   rw [List.append_nil]at hq
   subst hq
   simp only [zr,e,List.any_nil,cond_false]
  | cons x t ih =>
   intro q fuel hq hf
   obtain ⟨fuel,rfl⟩: ∃ m,fuel=m+1:=⟨fuel - 1,by omega⟩
   have hx:l.getD q.length d=x:=by
    subst hq
    rw [zcq (by simp)]; simp
   have hs:=h q.length (by rw [← hq]; simp)
   rw [hx]at hs
   cases hp:p x
   ·rw [hp]at hs
    have:=ih (q++ [x]) fuel (by rw [← hq]; simp) (by simp at hf; omega)
    simp only [List.length_append,List.length_cons,List.length_nil]at this
    simp only [zr,hs,cond_false]
    simp only [List.any_cons,hp,Bool.false_or,List.takeWhile_cons,Bool.not_false,if_true,List.length_cons]
    rw [show q.length+((t.takeWhile (fun x=> !p x)).length+1)=q.length+(0+1)+(t.takeWhile (fun x=> !p x)).length by omega]
    exact this
   ·rw [hp]at hs
    simp only [zr,hs,cond_true,List.any_cons,hp,Bool.true_or,List.takeWhile_cons,Bool.not_true,Bool.false_eq_true,if_false,List.length_nil,Nat.add_zero]
 have:=this l [] fuel rfl hf
 simpa using this
theorem yCv (a0:List Int) (a1:Int) (hk:zi9 ybl (a0,a1,())):yeb a0 a1=(fun n=>some ((n,()),())) (yc6 a0 a1):=by
 have hb:a0.length * 8≤2 ^ 47:=hk.1.1
 have h1:yhR (yzK a0 a1 a0.length)=some (bif a0.any (· ==a1) then .inr (yop ((a0.takeWhile (fun x=> !(x==a1))).length:Int)) else .inl yzI) :=
  ySz (step:=yU) a0 0 (fun i=>ygN a0 a1 a0.length i) (· ==a1) (fun i=> .inr (yop (i:Int))) _ (fun i hi=>by
   simp only [yU,ygN,ygQ,zjI (show (i:Int) < a0.length by omega),cond_true,wr (show -9223372036854775808≤(i:Int)+1 by omega) (by omega),Int.natCast_add,Int.natCast_one,Int.toNat_natCast,zkO hi,zjW]
   rw [show (a1==a0.getD i 0)=(a0.getD i 0==a1) by rw [Bool.eq_iff_iff,beq_iff_eq,beq_iff_eq]; exact eq_comm]
   cases (a0.getD i 0==a1)<;>rfl) (by simp only [yU,ygN,ygQ,zkm (Int.le_refl _),cond_false]) _ (by show _ < 18446744073709551616; omega)
 unfold yeb yc6 yNT
 rw [h1]
 cases a0.any (· ==a1)<;>rfl
def yra:Con:=⟨ybl,ygg,fun x=>(fun n=>some ((n,()),())) (yc6 x.1 x.2.1)⟩
theorem yCy:ConOk Tryz.prog 275 yra:=(yBl).mono (fun x r hk h=>(yCv x.1 x.2.1 hk).trans h)
end
section
def yp2:Code:=(Tryz.f236.body).getD .skip
def yp3:Env:=zki TT [(275,yra)] []
theorem yxk:FrOk Tryz.prog ⟨yp3,9,fun _=>none⟩ yp2:=zkp yb yc ⟨yCy,trivial⟩
def yxY:Nat→Option Seg:=fun _=>none
abbrev yah:List Par:= [.rd tL,.rd tI]
abbrev ydp:List OT:= [⟨false,tB,.fz⟩]
def yct (a0:List Int) (a1:Int):Option (ResD ydp×MutD yah) :=
 let r1:=yc6 a0 a1
 some (((leb 0 r1),()),())
theorem yAP (x:InD yah):zjH ⟨yp3,9,yxY⟩ Tryz.f236.results.toList yp2 yah ydp x=yct x.1 x.2.1:=by kernel_rfl
theorem yx1:ConOk Tryz.prog 236 ⟨yah,ydp,fun x=>yct x.1 x.2.1⟩:=zkh (yxk) Tryz.func236 (by kernel_rfl) (by kernel_rfl) Tryz.ntmps236.symm (by decide) (fun x r h=>(yAP x).trans h)
def ybz (a0:List Int) (a1:Int):Bool:=a0.any (· ==a1)
theorem yzM (a0:List Int) (a1:Int) (hk:zi9 yah (a0,a1,())):yct a0 a1=(fun n=>some ((n,()),())) (ybz a0 a1):=by
 unfold yct ybz yc6 yNT
 cases a0.any (· ==a1)
 ·rfl
 ·simp only [cond_true]
  rw [zk0 (show (0:Int)≤((a0.takeWhile (· !=a1)).length:Int) by omega)]
def ynu:Con:=⟨yah,ydp,fun x=>(fun n=>some ((n,()),())) (ybz x.1 x.2.1)⟩
theorem yzN:ConOk Tryz.prog 236 ynu:=(yx1).mono (fun x r hk h=>(yzM x.1 x.2.1 hk).trans h)
end
section
def yhE:Code:=(Tryz.f156.body).getD .skip
def ymB:Env:=zki TT [(133,ysd),(200,yd2),(220,yq8),(236,ynu)] []
theorem yE3:FrOk Tryz.prog ⟨ymB,49,fun _=>none⟩ yhE:=zkp yb yc ⟨yCg,yi5,yA4,yzN,trivial⟩
def yvZ:Nat→Option Seg:=fun _=>none
def yaC:Shape:=⟨[(1,false,[.int .i64]),(6,false,[.br tI]),(34,false,[.br tW]),(35,false,[.int .i64]),(36,false,[.int .i64])],[],[]⟩
def ydQ:Shape:=⟨[(1,false,[.int .i64]),(6,false,[.br tI]),(34,false,[.br tW]),(35,false,[.int .i64]),(36,false,[.ci .i64 0])],[],[]⟩
def ydG:Shape:=⟨[(6,false,[.br tI])],[],[]⟩
def yg7:Shape:=⟨[],[],[]⟩
abbrev yl0 (v0:Int) (v1:List Int) (v2:List dW) (v3 v4:Int):(yaC).X:=(((v0,()),(v1,()),(v2,()),(v3,()),(v4,()),()),(),())
abbrev yD4 (v0:Int) (v1:List Int) (v2:List dW) (v3:Int):(ydQ).X:=(((v0,()),(v1,()),(v2,()),(v3,()),((),()),()),(),())
abbrev ytH (v0:List Int):(ydG).X:=(((v0,()),()),(),())
def ymk (v0:Int) (v1:List Int) (v2:List dW) (v3 v4:Int):Option ((yaC).X ⊕ ((ydG).X ⊕ (yg7).X)) :=
 bif (ltb v4 v3) then
 bif (inb v4 v2.length) then
 bif ((nth v2 v4 (0,[])).1==v0) then
 some (.inl (((v0,()),((nth v2 v4 (0,[])).2,()),(v2,()),(v3,()),((IntKind.i64.wrap (v4+1)),()),()),(),()))
 else
 some (.inl (((v0,()),(v1,()),(v2,()),(v3,()),((IntKind.i64.wrap (v4+1)),()),()),(),()))
 else none
 else
 some (.inr (.inl (((v1,()),()),(),())))
def yaS (x:(yaC).X):=ymk x.1.1.1 x.1.2.1.1 x.1.2.2.1.1 x.1.2.2.2.1.1 x.1.2.2.2.2.1.1
def ys7 (x:(ydQ).X):(yaC).X:=(((x.1.1.1,()),(x.1.2.1.1,()),(x.1.2.2.1.1,()),(x.1.2.2.2.1.1,()),(0,()),()),(),())
def yux:Code:=(zdI yhE 64 244).getD .skip
theorem yEL:zdI yhE 64 61=some (.block 0 (.loop yux)):=by kernel_rfl
theorem yGg (x:(yaC).X):zg7 ⟨ymB,49,yvZ⟩ 0 yux 244 yaC ydG yg7 x=yaS x:=by kernel_rfl
def ytp (x:(ydQ).X):Nat:=18446744073709551616
def ynw (x:(ydQ).X):Option ((ydG).X ⊕ (yg7).X):=zr yaS (ytp x) (ys7 x)
def ytN:Seg:=⟨ydQ,ydG,yg7,ynw⟩
def yv0:Nat→Option Seg:=fun q=>bif Nat.beq q 61 then some ytN else yvZ q
theorem yE4:FrOk Tryz.prog ⟨ymB,49,yv0⟩ yhE:=(yE3).loop (sg:=ytN) yaC ys7 (by decide) yEL yaS ytp (by decide) (fun _=>rfl) (fun x r _ h=>h) yGg
abbrev yeg:List Par:= [.rd tM,.rd tI]
abbrev ymP:List OT:= [⟨false,tL,(.ow .fz)⟩,⟨false,tB,.fz⟩]
def yi9 (a0:dM) (a1:Int):Option (ResD ymP×MutD yeg) :=
 let r1:=yeW a0
 bif (!(!r1)) then
 bif (!a0.2.2.1) then
 let r2:=ycs a0 a1
 bif (!(!r2)) then
 let r3:=ybz a0.2.2.2 a1
 bif r3 then
 some (([],false,()),())
 else
 bif (inb a1 a0.1.length) then
 zjw (ynw (((a1,()),((nth a0.1 a1 []),()),(a0.2.1,()),((a0.2.1.length:Int),()),((),()),()),(),())) (fun y3 =>
 let r5:=yk y3.1.1.1
 some ((r5,true,()),())) (fun y3 =>
 none)
 else none
 else
 some (([],false,()),())
 else
 some (([],false,()),())
 else
 some (([],false,()),())
theorem yNn (x:InD yeg):zjH ⟨ymB,49,yv0⟩ Tryz.f156.results.toList yhE yeg ymP x=yi9 x.1 x.2.1:=by kernel_rfl
theorem yIL:ConOk Tryz.prog 156 ⟨yeg,ymP,fun x=>yi9 x.1 x.2.1⟩:=zkh (yE4) Tryz.func156 (by kernel_rfl) (by kernel_rfl) Tryz.ntmps156.symm (by decide) (fun x r h=>(yNn x).trans h)
def yij (a0:dM) (a1:Int):List Int×Bool:=ysD a0 a1
theorem yLq (a0:dM) (a1:Int) (hk:zi9 yeg (a0,a1,())):yi9 a0 a1=(fun n=>some ((n.1,n.2,()),())) (yij a0 a1):=by
 have hb1:a0.1.length * 24≤2 ^ 47:=hk.1.1.1
 have hb2:a0.2.1.length * 32≤2 ^ 47:=hk.1.2.1.1
 have h1: ∀ s,ynw (yD4 a1 s a0.2.1 a0.2.1.length)=some (.inl (ytH (yA3 a1 a0.2.1 s))):=fun s =>
  zkk (step:=yaS) a0.2.1 (0,[]) (fun i s=>yl0 a1 s a0.2.1 a0.2.1.length i) (fun s w=>bif w.1==a1 then w.2 else s) (fun _ _=>True) (fun s=> .inl (ytH s)) (fun i s hi _=>⟨by
   simp only [yaS,yl0,ymk,zjI (show (i:Int) < a0.2.1.length by omega),cond_true,wr (show -9223372036854775808≤(i:Int)+1 by omega) (by omega),Int.natCast_add,Int.natCast_one,Int.toNat_natCast,zkO hi,zjW]
   cases ((a0.2.1.getD i (0,[])).1==a1)<;>rfl,trivial⟩) (fun s _=>by simp only [yaS,yl0,ymk,zkm (Int.le_refl _),cond_false]) s trivial _ (by show _ < 18446744073709551616; omega)
 unfold yi9 yij ysD yNk ycs
 rw [yaf,yrh (show a0.1.length≤1152921504606846976 by omega)]
 unfold yeW ybz yk
 simp only [h1,zkJ]
 cases yK a0
 ·rfl
 cases a0.2.2.1
 ·cases inb a1 a0.1.length
  ·rfl
  ·cases a0.2.2.2.any (· ==a1)<;>rfl
 ·rfl
def ywM:Con:=⟨yeg,ymP,fun x=>(fun n=>some ((n.1,n.2,()),())) (yij x.1 x.2.1)⟩
theorem yMl:ConOk Tryz.prog 156 ywM:=(yIL).mono (fun x r hk h=>(yLq x.1 x.2.1 hk).trans h)
end
section
def yBB:Code:=(Tryz.f117.body).getD .skip
def yBY:Env:=zki TT [(47,yy7),(108,yy4),(156,ywM)] []
theorem yHp:FrOk Tryz.prog ⟨yBY,38,fun _=>none⟩ yBB:=zkp yb yc ⟨yO1,yOY,yMl,trivial⟩
def yJL:Nat→Option Seg:=fun _=>none
abbrev ydy:List Par:= [.rd tA,.rd tI,.rd tI]
abbrev yjR:List OT:= [⟨false,tI,.fz⟩,⟨false,tB,.fz⟩]
def yk7 (a0:dA) (a1 a2:Int):Option (ResD yjR×MutD ydy) :=
 bif (inb a1 a0.2.2.1.length) then
 let r1:=yo9 a2
 let r2:=yij ((nth a0.2.2.1 a1 ([],[],false,[])).1,((nth a0.2.2.1 a1 ([],[],false,[])).2).1,(((nth a0.2.2.1 a1 ([],[],false,[])).2).2)) r1
 let r3:=yj1 a0 a1 a2
 bif (!(!r3)) then
 bif (!(!r2.2)) then
 bif ((r2.1.length:Int) !=1) then
 some ((0,false,()),())
 else
 bif (inb 0 r2.1.length) then
 some (((nth r2.1 0 0),true,()),())
 else none
 else
 some ((0,false,()),())
 else
 some ((0,false,()),())
 else none
theorem yPU (x:InD ydy):zjH ⟨yBY,38,yJL⟩ Tryz.f117.results.toList yBB ydy yjR x=yk7 x.1 x.2.1 x.2.2.1:=by kernel_rfl
theorem yLV:ConOk Tryz.prog 117 ⟨ydy,yjR,fun x=>yk7 x.1 x.2.1 x.2.2.1⟩:=zkh (yHp) Tryz.func117 (by kernel_rfl) (by kernel_rfl) Tryz.ntmps117.symm (by decide) (fun x r h=>(yPU x).trans h)
def yj3 (a0:dA) (a1 a2:Int):Int×Bool:=(yxX a0 a1 a2,yj a0 a1 a2)
def yt7 (a0:dA) (a1 a2:Int):Bool:=inb a1 a0.2.2.1.length
theorem yN5 (a0:dA) (a1 a2:Int) (hk:zi9 ydy (a0,a1,a2,())) (hq:yt7 a0 a1 a2=true):yk7 a0 a1 a2=(fun n=>some ((n.1,n.2,()),())) (yj3 a0 a1 a2):=by
 unfold yk7 yj3 yxX yj1
 simp only [zkV,yNS,yij]
 rw [show yj a0 a1 a2=(yeV a0 a1 a2&&((ycM a0 a1 a2).2&&((ycM a0 a1 a2).1.length:Int)==1)) from rfl]
 rw [show ysD (nth a0.2.2.1 a1 ([],[],false,[])) (yw6 a2)=ycM a0 a1 a2 from rfl]
 rw [show inb a1 a0.2.2.1.length=true from hq]
 cases hl:yeV a0 a1 a2
 ·rfl
 ·cases (ycM a0 a1 a2).2
  ·rfl
  ·rw [bne]
   cases h1:(((ycM a0 a1 a2).1.length:Int)==1)
   ·rfl
   ·rw [show inb 0 (ycM a0 a1 a2).1.length=true from zjP.2 (by have:=beq_iff_eq.1 h1; omega)]; rfl
def ypd (a0:dA) (a1 a2:Int):Option (ResD yjR×MutD ydy):=bif yt7 a0 a1 a2 then (fun n=>some ((n.1,n.2,()),())) (yj3 a0 a1 a2) else none
theorem yPl (a0:dA) (a1 a2:Int) (h:yt7 a0 a1 a2=true):ypd a0 a1 a2=(fun n=>some ((n.1,n.2,()),())) (yj3 a0 a1 a2):=by unfold ypd; rw [h]; rfl
def yza:Con:=⟨ydy,yjR,fun x=>ypd x.1 x.2.1 x.2.2.1⟩
theorem yO4:ConOk Tryz.prog 117 yza:=(yLV).mono (fun x r hk h=>zkW h (fun hq=>yN5 x.1 x.2.1 x.2.2.1 hk hq))
end
end
end Go.Tf
