/- Functions of the program, and what they come to. -/
import Derived.Test.YtgmadfpnljibhaaGreatStripesF8
namespace Go.Tf
noncomputable section
open Go.Proofs
set_option synthInstance.maxHeartbeats 400000
set_option synthInstance.maxSize 10000
set_option linter.unusedVariables false
set_option linter.unusedSimpArgs false
set_option maxRecDepth 100000
section
def yFh:Code:=(Tryz.f109.body).getD .skip
def yFT:Env:=zki TT [(141,yfu),(206,ys9),(207,yld)] []
theorem yME:FrOk Tryz.prog ⟨yFT,49,fun _=>none⟩ yFh:=zkp yb yd ⟨ylC,yEF,ysS,trivial⟩
def yOh:Nat→Option Seg:=fun _=>none
abbrev yen:List Par:= [.pt tA (.pr .fz (.pr (.pr .fz .fz) (.pr (.ow (.pr (.ow .fz) (.pr (.ow (.pr .fz .fz)) (.pr .fz (.ow .fz))))) (.pr .fz (.pr .fz (.pr .fz (.pr .fz (.pr .fz (.pr (.ow (.pr .fz .fz)) (.pr .fz (.pr .fz .fz)))))))))))]
abbrev yk4:List OT:= [⟨false,tI,.fz⟩]
def ymp (a0:dA):Option (ResD yk4×MutD yen) :=
 bnd (ylA a0 a0.2.2.2.2.1) fun r1 =>
 bif (!r1.1.2.1) then
 some ((5,()),(a0,()))
 else
 let r2:=ybm a0.2.2.2.2.1
 bif (inb a0.2.2.2.1 r1.1.1.length) then
 bnd (yfa a0 a0.2.2.2.1 r2 ([(nth r1.1.1 a0.2.2.2.1 0)]:List Int)) fun r3 =>
 bif r3.2.1.2.2.2.2.2.2.2.2.2.2.1 then
 some ((6,()),(r3.2.1,()))
 else
 some ((0,()),((r3.2.1.1,r3.2.1.2.1,r3.2.1.2.2.1,r3.2.1.2.2.2.1,(IntKind.i64.wrap (r3.2.1.2.2.2.2.1+1)),r3.2.1.2.2.2.2.2),()))
 else none
theorem yVu (x:InD yen):zjH ⟨yFT,49,yOh⟩ Tryz.f109.results.toList yFh yen yk4 x=ymp x.1:=by kernel_rfl
theorem yQG:ConOk Tryz.prog 109 ⟨yen,yk4,fun x=>ymp x.1⟩:=zkh (yME) Tryz.func109 (by kernel_rfl) (by kernel_rfl) Tryz.ntmps109.symm (by decide) (fun x r h=>(yVu x).trans h)
def yqP (a0:dA):Int×dA:=stepOne a0
def ylE (a0:dA):Bool:=yc a0.2.1&&(inb a0.2.2.2.1 a0.2.2.1.length&&inb a0.2.2.2.1 a0.2.1.1.toNat)
theorem yTy (a0:dA) (hk:zi9 yen (a0,())) (hq:ylE a0=true):ymp a0=(fun n=>some ((n.1,()),(n.2,()))) (yqP a0):=by
 simp only [ylE,Bool.and_eq_true]at hq
 unfold ymp yqP stepOne
 rw [yEJ a0 a0.2.2.2.2.1 hq.1]
 simp only [zky,ygN,ygT]
 cases hw:(yE a0 a0.2.2.2.2.1).2
 ·rfl
 ·rw [yLv hw,hq.2.2,ynp a0 a0.2.2.2.1 (dataAt a0.2.2.2.2.1) [nth (yE a0 a0.2.2.2.2.1).1 a0.2.2.2.1 0] hq.2.1]
  simp only [zky,ypU,Bool.not_true,cond_false,cond_true]
  show (bif downA (yZ a0) then some ((6,()),(yZ a0,())) else some ((0,()),(y1P (yZ a0),())))=_
  cases downA (yZ a0)<;>rfl
def ylz (a0:dA):Option (ResD yk4×MutD yen):=bif ylE a0 then (fun n=>some ((n.1,()),(n.2,()))) (yqP a0) else none
theorem yUA (a0:dA) (h:ylE a0=true):ylz a0=(fun n=>some ((n.1,()),(n.2,()))) (yqP a0):=by unfold ylz; rw [h]; rfl
def yBO:Con:=⟨yen,yk4,fun x=>ylz x.1⟩
theorem yUw:ConOk Tryz.prog 109 yBO:=(yQG).mono (fun x r hk h=>zkW h (fun hq=>yTy x.1 hk hq))
end
section
def yHS:Code:=(Tryz.f110.body).getD .skip
def yIo:Env:=zki TT [(150,yew)] []
theorem yO8:FrOk Tryz.prog ⟨yIo,9,fun _=>none⟩ yHS:=zkp yb yd ⟨yjp,trivial⟩
def yRC:Nat→Option Seg:=fun _=>none
abbrev ymY:List Par:= [.pt tU .fz,.rd tI]
abbrev ysA:List OT:= [⟨false,tB,.fz⟩]
def yaX (a0:dU) (a1:Int):Option (ResD ysA×MutD ymY) :=
 bnd (yg a0 a1) fun r1 =>
 some (((r1.1.1==0),()),(r1.2.1,()))
theorem yYd (x:InD ymY):zjH ⟨yIo,9,yRC⟩ Tryz.f110.results.toList yHS ymY ysA x=yaX x.1 x.2.1:=by kernel_rfl
theorem yT3:ConOk Tryz.prog 110 ⟨ymY,ysA,fun x=>yaX x.1 x.2.1⟩:=zkh (yO8) Tryz.func110 (by kernel_rfl) (by kernel_rfl) Tryz.ntmps110.symm (by decide) (fun x r h=>(yYd x).trans h)
def yEk:Con:=⟨ymY,ysA,fun x=>yaX x.1 x.2.1⟩
theorem yWS:ConOk Tryz.prog 110 yEk:=yT3
theorem y0P (u:dU) (n:Int) (h:yd3 u): ∃ (r:Bool) (u':dU),yaX u n=some ((r,()),(u',()))∧yd3 u':=by
 unfold yaX
 obtain ⟨r,u1,e1,_,d1⟩:=yfF u n h
 simp only [e1,zky]
 exact ⟨_,_,rfl,d1⟩
end
section
def yJv:Code:=(Tryz.f124.body).getD .skip
def yJJ:Env:=zki TT [(150,yew)] []
theorem ySP:FrOk Tryz.prog ⟨yJJ,12,fun _=>none⟩ yJv:=zkp yb yd ⟨yjp,trivial⟩
def yU5:Nat→Option Seg:=fun _=>none
abbrev ypr:List Par:= [.pt tU .fz,.rd tL]
abbrev yu2:List OT:= [⟨false,tI,.fz⟩]
def ygQ (a0:dU) (a1:List Int):Option (ResD yu2×MutD ypr) :=
 bnd (yg a0 (a1.length:Int)) fun r1 =>
 bif (inb r1.1.1 a1.length) then
 some (((nth a1 r1.1.1 0),()),(r1.2.1,()))
 else none
theorem yZC (x:InD ypr):zjH ⟨yJJ,12,yU5⟩ Tryz.f124.results.toList yJv ypr yu2 x=ygQ x.1 x.2.1:=by kernel_rfl
theorem yWy:ConOk Tryz.prog 124 ⟨ypr,yu2,fun x=>ygQ x.1 x.2.1⟩:=zkh (ySP) Tryz.func124 (by kernel_rfl) (by kernel_rfl) Tryz.ntmps124.symm (by decide) (fun x r h=>(yZC x).trans h)
def yGa:Con:=⟨ypr,yu2,fun x=>ygQ x.1 x.2.1⟩
theorem yY0:ConOk Tryz.prog 124 yGa:=yWy
theorem y3a (u:List Int×Int×Int) (l:List Int) (h:yd3 u) (hl:l≠ []): ∃ (r:Int) (u':List Int×Int×Int),ygQ u l=some ((r,()),(u',()))∧r∈l∧yd3 u':=by
 unfold ygQ
 obtain ⟨r1,u1,e1,q1,d1⟩:=yfF u (l.length:Int) h
 have hp:0 < l.length:=List.length_pos_iff.2 hl
 have hr:=q1.2.1 (by omega)
 simp only [e1,zky,zjP.2 ⟨q1.1,hr⟩,cond_true]
 refine ⟨_,_,rfl,?_,d1⟩
 have:r1.toNat < l.length:=by have:=q1.1; omega
 unfold nth
 rw [List.getD_eq_getElem?_getD,List.getElem?_eq_getElem this,Option.getD_some]
 exact List.getElem_mem this
end
section
def yHR:Code:=(Tryz.f115.body).getD .skip
def yIn:Env:=zki TT [(124,yGa)] []
theorem yO7:FrOk Tryz.prog ⟨yIn,6,fun _=>none⟩ yHR:=zkp yb yd ⟨yY0,trivial⟩
def yRB:Nat→Option Seg:=fun _=>none
abbrev ymX:List Par:= [.pt tU .fz]
abbrev ysz:List OT:= [⟨false,tI,.fz⟩]
def yas (a0:dU):Option (ResD ysz×MutD ymX) :=
 bnd (ygQ a0 ([0,1,2,7,255,256,4660,65535]:List Int)) fun r1 =>
 some ((r1.1.1,()),(r1.2.1,()))
theorem yYc (x:InD ymX):zjH ⟨yIn,6,yRB⟩ Tryz.f115.results.toList yHR ymX ysz x=yas x.1:=by kernel_rfl
theorem yT2:ConOk Tryz.prog 115 ⟨ymX,ysz,fun x=>yas x.1⟩:=zkh (yO7) Tryz.func115 (by kernel_rfl) (by kernel_rfl) Tryz.ntmps115.symm (by decide) (fun x r h=>(yYc x).trans h)
def yEj:Con:=⟨ymX,ysz,fun x=>yas x.1⟩
theorem yWR:ConOk Tryz.prog 115 yEj:=yT2
theorem y2J (u:List Int×Int×Int) (h:yd3 u): ∃ (r:Int) (u':List Int×Int×Int),yas u=some ((r,()),(u',()))∧ya r 0 65535=true∧yd3 u':=by
 unfold yas
 obtain ⟨r1,u1,e1,q1,d1⟩:=y3a u [0,1,2,7,255,256,4660,65535] h (by simp)
 simp only [e1,zky]
 refine ⟨_,_,rfl,?_,d1⟩
 simp only [List.mem_cons,List.not_mem_nil,or_false]at q1
 exact y31 (by omega) (by omega)
end
section
def yFj:Code:=(Tryz.f208.body).getD .skip
def yFV:Env:=zki TT [(203,yoz),(261,yoA)] []
theorem yMM:FrOk Tryz.prog ⟨yFV,17,fun _=>none⟩ yFj:=zkp yb yd ⟨yw2,yw3,trivial⟩
def yOj:Nat→Option Seg:=fun _=>none
abbrev ykU:List Par:= [.pt tA (.pr .fz (.pr (.pr .fz .fz) (.pr (.ow (.pr (.ow .fz) (.pr (.ow (.pr .fz .fz)) (.pr .fz (.ow .fz))))) (.pr .fz (.pr .fz (.pr .fz (.pr .fz (.pr .fz (.pr (.ow (.pr .fz .fz)) (.pr .fz (.pr .fz .fz)))))))))))]
abbrev yqD:List OT:= []
def ytD (a0:dA):Option (ResD yqD×MutD ykU) :=
 let r1:=yd2 a0
 bif r1.2.2.2.2.2.2.2.2.2.2.1 then
 some ((),(r1,()))
 else
 let r2:=yaF (r1.1,r1.2.1,r1.2.2.1,r1.2.2.2.1,r1.2.2.2.2.1,r1.2.2.2.2.2.1,r1.2.2.2.2.2.1,r1.2.2.2.2.2.2.2)
 some ((),(r2,()))
theorem yVz (x:InD ykU):zjH ⟨yFV,17,yOj⟩ Tryz.f208.results.toList yFj ykU yqD x=ytD x.1:=by kernel_rfl
theorem yQL:ConOk Tryz.prog 208 ⟨ykU,yqD,fun x=>ytD x.1⟩:=zkh (yMM) Tryz.func208 (by kernel_rfl) (by kernel_rfl) Tryz.ntmps208.symm (by decide) (fun x r h=>(yVz x).trans h)
def ygO (a0:dA):dA :=
 let r1:=yd2 a0
 bif r1.2.2.2.2.2.2.2.2.2.2.1 then
 r1
 else
 let r2:=yaF (r1.1,r1.2.1,r1.2.2.1,r1.2.2.2.1,r1.2.2.2.2.1,r1.2.2.2.2.2.1,r1.2.2.2.2.2.1,r1.2.2.2.2.2.2.2)
 r2
def yta:Con:=⟨ykU,yqD,fun x=>(fun n=>some ((),(n,()))) (ygO x.1)⟩
theorem yTC (a0:dA):ytD a0=(fun n=>some ((),(n,()))) (ygO a0):=zkS (p:=fun (n:dA)=>((),(n,()))) (zkx (p:=fun (n:dA)=>((),(n,()))) rfl rfl)
theorem yEG:ConOk Tryz.prog 208 yta:=(yQL).mono (fun x r _ h=>(yTC x.1).trans h)
theorem yIz (a:dA):ygO a=checkA a:=by
 unfold ygO checkA yd2 yaF
 show (bif downA (yn a) then yn a else markA (yaq (yn a)))=_
 rfl
end
section
def yJt:Code:=(Tryz.f239.body).getD .skip
def yJH:Env:=zki TT [(135,yx),(225,yhv)] []
theorem ySL:FrOk Tryz.prog ⟨yJH,22,fun _=>none⟩ yJt:=zkp yb yd ⟨yD,yoG,trivial⟩
def yU3:Nat→Option Seg:=fun _=>none
abbrev ypp:List Par:= [.rd tN]
abbrev yuZ:List OT:= [⟨false,tB,.fz⟩]
def yxe (a0:dN):Option (ResD yuZ×MutD ypp) :=
 let r1:=ya a0.1 0 60000
 bif r1 then
 let r2:=ya a0.2.1 0 7
 bif r2 then
 let r3:=ya (a0.2.2.length:Int) 2 4
 bif r3 then
 let r4:=yS a0.2.2
 some ((r4,()),())
 else
 some ((false,()),())
 else
 some ((false,()),())
 else
 some ((false,()),())
theorem yZz (x:InD ypp):zjH ⟨yJH,22,yU3⟩ Tryz.f239.results.toList yJt ypp yuZ x=yxe x.1:=by kernel_rfl
theorem yWv:ConOk Tryz.prog 239 ⟨ypp,yuZ,fun x=>yxe x.1⟩:=zkh (ySL) Tryz.func239 (by kernel_rfl) (by kernel_rfl) Tryz.ntmps239.symm (by decide) (fun x r h=>(yZz x).trans h)
def ybg (a0:dN):Bool :=
 let r1:=ya a0.1 0 60000
 bif r1 then
 let r2:=ya a0.2.1 0 7
 bif r2 then
 let r3:=ya (a0.2.2.length:Int) 2 4
 bif r3 then
 let r4:=yS a0.2.2
 r4
 else
 false
 else
 false
 else
 false
def yF8:Con:=⟨ypp,yuZ,fun x=>(fun n=>some ((n,()),())) (ybg x.1)⟩
theorem yYG (a0:dN):yxe a0=(fun n=>some ((n,()),())) (ybg a0):=zkS (p:=fun (n:Bool)=>((n,()),())) (zkx (p:=fun (n:Bool)=>((n,()),())) (zkx (p:=fun (n:Bool)=>((n,()),())) (zkx (p:=fun (n:Bool)=>((n,()),())) rfl rfl) rfl) rfl)
theorem yYY:ConOk Tryz.prog 239 yF8:=(yWv).mono (fun x r _ h=>(yYG x.1).trans h)
abbrev y3y:dN:=(0,0,[])
def ypW (r:dN):List Int:=bif ybg r then 21322::r.1::r.2.1::(r.2.2.length:Int)::r.2.2 else []
def y2H (l:List Int):dN:=(nth l 1 0,nth l 2 0,l.drop 4)
def y4g (l:List Int):dN×Bool:=bif leb 4 (l.length:Int)&&(nth l 0 0==21322&&(nth l 3 0==(l.length:Int) - 4&&ybg (y2H l))) then (y2H l,true) else (y3y,false)
theorem yXD {r:dN}:ybg r=true↔(0≤r.1∧r.1≤60000)∧(0≤r.2.1∧r.2.1≤7)∧(2≤(r.2.2.length:Int)∧(r.2.2.length:Int)≤4)∧r.2.2.all isW=true:=by
 unfold ybg
 simp only [yh9,← yrY]
 cases ya r.1 0 60000<;>cases ya r.2.1 0 7<;>cases ya (r.2.2.length:Int) 2 4<;>simp
def ybi (r:dN) (a:dA) (i:Nat):dA:=ybo a i (yM r.1) (ypW r)
def yF (a:dA) (r:dN):dA:=yn ((List.range a.2.2.1.length).foldl (ybi r) a)
theorem ymv (r:dN) (a:dA) (i:Nat):(ybi r a i).2.2.1.length=a.2.2.1.length:=ynw _ _ _ _
theorem yN3 (r:dN) {a:dA} (i:Nat) (h:downA a=true):ybi r a i=a:=yw4 h _ _ _
theorem y0X (a:dA) (r:dN):(yF a r).2.2.1.length=a.2.2.1.length:=(yxg _).trans (yjz (ymv r) _ _)
theorem ybj (a:dA) (r:dN):yo (yF a r)=yo a:=(ycZ _).trans (yx9 (one:=ybi r) (fun _ _=>ypX _ _ _ _) _ _)
theorem yKX {one:dA→Nat→dA} {d:List dW} (hl: ∀ a i,(one a i).2.2.1.length=a.2.2.1.length) (ho: ∀ a i,ybe d a→i < a.2.2.1.length→ybe d (one a i)): ∀ (n:Nat) (a:dA),n≤a.2.2.1.length→ybe d a→ybe d ((List.range n).foldl one a)
 | 0,_,_,h=>h
 | n+1,a,hn,h=>by
  rw [List.range_succ,List.foldl_append]
  exact ho _ _ (yKX hl ho n a (by omega) h) (by rw [yjz hl]; exact hn)
theorem y34 {d:List dW} {a:dA} (r:dN) (h:ybe d a):ybe d (yF a r):=y1M (yKX (ymv r) (fun _ _ h hi=>yP7 h (zkO hi)) _ a (Nat.le_refl _) h)
def ycc (p N x:Int) (data:List Int) (i:Int):Int:=bif i==p then x else nth data ((i - p - 1+N).tmod N) 0
def yaH (p N s:Int) (data:List Int) (a:dA) (i:Nat):dA:=bif yby a i s then ybo a i (dataAt s) [ycc p N (xorOf data) data i] else a
def yA (a:dA) (s:Int) (data:List Int):dA:=(List.range a.2.2.1.length).foldl (yaH (ye a.2.1 s) a.2.1.1 s data) a
theorem ynu (p N s:Int) (data:List Int) (a:dA) (i:Nat):(yaH p N s data a i).2.2.1.length=a.2.2.1.length:=by
 unfold yaH; cases yby a i s
 ·rfl
 ·exact ynw _ _ _ _
theorem yJZ (p N s:Int) (data:List Int) {a:dA} (i:Nat) (h:downA a=true):yaH p N s data a i=a:=by
 unfold yaH; cases yby a i s
 ·rfl
 ·exact yw4 h _ _ _
theorem yJY (p N s:Int) (data:List Int) (a:dA) (i:Nat):yo (yaH p N s data a i)=yo a:=by
 unfold yaH; cases yby a i s
 ·rfl
 ·exact ypX _ _ _ _
theorem y3X (a:dA) (s:Int) (data:List Int):(yA a s data).2.2.1.length=a.2.2.1.length:=yjz (ynu _ _ _ _) _ _
theorem yxT (a:dA) (s:Int) (data:List Int):yo (yA a s data)=yo a:=yx9 (yJY _ _ _ _) _ _
theorem y3S {d:List dW} {a:dA} (s:Int) (data:List Int) (h:ybe d a):ybe d (yA a s data):=yKX (ynu _ _ _ _) (fun a i h hi=>by
 unfold yaH; cases yby a i s
 ·exact h
 ·exact yP7 h (zkO hi)) _ a (Nat.le_refl _) h
theorem y3Y {N i p:Int} (h:3≤N∧N≤5) (hi:0≤i∧i < N) (hp:0≤p∧p≤N - 1) (hne:i≠p):0≤(i - p - 1+N).tmod N∧(i - p - 1+N).tmod N < N - 1:=by
 rw [Int.tmod_eq_emod_of_nonneg (by omega)]
 have:N=3∨N=4∨N=5:=by omega
 rcases this with rfl | rfl | rfl<;>omega
theorem y1q {N p x:Int} {data:List Int} (h:3≤N∧N≤5) (hp:0≤p∧p≤N - 1) (hd:(data.length:Int)=N - 1) :
  (List.range data.length).foldl (fun l (i:Nat)=>l.set ((p+1+i).tmod N).toNat (nth data i 0)) ((List.replicate N.toNat 0).set p.toNat x)=(List.range N.toNat).map (fun (i:Nat)=>ycc p N x data i):=by
 have:N=3∨N=4∨N=5:=by omega
 rcases this with rfl | rfl | rfl
 ·match data,hd with
  | [a,b],_ =>
   have:p=0∨p=1∨p=2:=by omega
   rcases this with rfl | rfl | rfl<;>simp [ycc,nth,List.range_succ,List.replicate_succ]
  | [],hd=>simp at hd
  | [_],hd=>simp at hd
  | _::_::_::_,hd=>simp only [List.length_cons]at hd; omega
 ·match data,hd with
  | [a,b,c],_ =>
   have:p=0∨p=1∨p=2∨p=3:=by omega
   rcases this with rfl | rfl | rfl | rfl<;>simp [ycc,nth,List.range_succ,List.replicate_succ]
  | [],hd=>simp at hd
  | [_],hd=>simp at hd
  | [_,_],hd=>simp at hd
  | _::_::_::_::_,hd=>simp only [List.length_cons]at hd; omega
 ·match data,hd with
  | [a,b,c,d],_ =>
   have:p=0∨p=1∨p=2∨p=3∨p=4:=by omega
   rcases this with rfl | rfl | rfl | rfl | rfl<;>simp [ycc,nth,List.range_succ,List.replicate_succ]
  | [],hd=>simp at hd
  | [_],hd=>simp at hd
  | [_,_],hd=>simp at hd
  | [_,_,_],hd=>simp at hd
  | _::_::_::_::_::_,hd=>simp only [List.length_cons]at hd; omega
def dsk (a:dA) (i:Int):dM:=nth a.2.2.1 i noMem
theorem yVd {a:dA} {m i:Int} {x:dM} (hm:inb m a.2.2.1.length=true) (hi:0≤i):dsk (setMem a m x) i=bif m==i then x else dsk a i:=yCy hm hi
def ygq (n:Int) (s:List Int) (m:dM):dM:=bif m.2.2.1 then m else (yG m n s).1
def Did (g:dM→dM) (i:Int) (a r:dA):Prop:=yo r=yo a∧r.2.2.1.length=a.2.2.1.length ∧
 ((downA r=false∧ ∀ j,0≤j→dsk r j=bif i==j then g (dsk a j) else dsk a j)∨(downA r=true∧ ∀ j,dsk r j=dsk a j))
theorem yLI {a:dA} {m:Int} (n:Int) (s:List Int) (h:downA a=false) (hm:inb m a.2.2.1.length=true):Did (ygq n s) m a (ybo a m n s):=by
 refine ⟨ypX _ _ _ _,ynw _ _ _ _,?_⟩
 have hd:=y0b h m n s
 unfold ybo at hd ⊢
 cases hf:(nth a.2.2.1 m noMem).2.2.1
 ·rw [hf]at hd
  cases ho:(yY a).1
  ·rw [ho]at hd
   refine .inr ⟨hd,fun j=> ?_⟩
   show nth (yY a).2.2.2.1 j noMem=dsk a j
   rw [yU]; rfl
  ·rw [ho]at hd
   refine .inl ⟨hd,fun j hj=> ?_⟩
   show dsk (setMem (yY a).2 m (yG (nth a.2.2.1 m noMem) n s).1) j=_
   rw [yVd (by rw [yU]; exact hm) hj]
   cases hj2:(m==j)
   ·show nth (yY a).2.2.2.1 j noMem=dsk a j
    rw [yU]; rfl
   ·have:=beq_iff_eq.1 hj2
    subst this
    show _=ygq n s (dsk a m)
    unfold ygq dsk
    rw [hf]; rfl
 ·refine .inl ⟨h,fun j hj=> ?_⟩
  cases hj2:(m==j)
  ·rfl
  ·have:=beq_iff_eq.1 hj2
   subst this
   show dsk a m=ygq n s (dsk a m)
   unfold ygq dsk
   rw [hf]; rfl
theorem y2w {a:dA} {i:Nat} (h:downA a=false) (hm:i < a.2.2.1.length):Did yq i a (yC a i):=by
 refine ⟨yLr _ _,yjI _ _,?_⟩
 have hd:=yLs h i
 unfold yC at hd ⊢
 cases hf:(nth a.2.2.1 i noMem).2.2.1
 ·rw [hf]at hd
  cases ho:(yY a).1
  ·rw [ho]at hd
   refine .inr ⟨hd,fun j=> ?_⟩
   show nth (yY a).2.2.2.1 j noMem=dsk a j
   rw [yU]; rfl
  ·rw [ho]at hd
   refine .inl ⟨hd,fun j hj=> ?_⟩
   show dsk (setMem (yY a).2 i (yq (nth a.2.2.1 i noMem))) j=_
   rw [yVd (by rw [yU]; exact zkO hm) hj]
   cases hj2:((i:Int)==j)
   ·show nth (yY a).2.2.2.1 j noMem=dsk a j
    rw [yU]; rfl
   ·have:=beq_iff_eq.1 hj2
    subst this; rfl
 ·refine .inl ⟨h,fun j hj=> ?_⟩
  cases hj2:((i:Int)==j)
  ·rfl
  ·have:=beq_iff_eq.1 hj2
   subst this
   show dsk a i=yq (dsk a i)
   unfold yq dsk
   rw [hf,Bool.not_true,Bool.and_false]; rfl
def Adv (g:Int→dM→dM) (a r:dA) (n:Nat):Prop:=yo r=yo a∧r.2.2.1.length=a.2.2.1.length ∧
 ∃ k:Nat,k≤n∧(∀ j:Int,0≤j→dsk r j=bif ltb j k then g j (dsk a j) else dsk a j)∧(downA r=false→k=n)
theorem yBm {one:dA→Nat→dA} {g:Int→dM→dM} {a:dA} (hs: ∀ b i,downA b=true→one b i=b)
  (ho: ∀ (b:dA) (i:Nat),yo b=yo a→b.2.2.1.length=a.2.2.1.length→i < a.2.2.1.length→downA b=false→dsk b i=dsk a i→Did (g i) i b (one b i)) (hd:downA a=false) :
  ∀ n,n≤a.2.2.1.length→Adv g a ((List.range n).foldl one a) n
 | 0,_=>⟨rfl,rfl,0,Nat.le_refl _,fun j hj=>by rw [zkm (show ((0:Nat):Int)≤j by omega)]; rfl,fun _=>rfl⟩
 | n+1,hn=>by
  obtain ⟨h1,h2,k,h3,h4,h5⟩:=yBm hs ho hd n (by omega)
  rw [List.range_succ,List.foldl_append,List.foldl_cons,List.foldl_nil]
  generalize (List.range n).foldl one a=R at h1 h2 h4 h5 ⊢
  cases hR:downA R
  ·have hk:=h5 hR
   subst hk
   have e:dsk R k=dsk a k:=by rw [h4 k (by omega),zkm (Int.le_refl _)]; rfl
   obtain ⟨g1,g2,g3⟩:=ho R k h1 h2 (by omega) hR e
   refine ⟨g1.trans h1,g2.trans h2,?_⟩
   rcases g3 with ⟨g3,g4⟩ | ⟨g3,g4⟩
   ·refine ⟨k+1,Nat.le_refl _,fun j hj=> ?_,fun _=>rfl⟩
    rw [g4 j hj]
    by_cases hj2:(k:Int)=j
    ·subst hj2
     rw [show ((k:Int)==(k:Int))=true from beq_self_eq_true _,zjI (show (k:Int) < ((k+1:Nat):Int) by omega),e]; try rfl
    ·rw [show ((k:Int)==j)=false from beq_eq_false_iff_ne.2 hj2,cond_false,h4 j hj,show ltb j ((k+1:Nat):Int)=ltb j k by rw [Bool.eq_iff_iff,zjT,zjT]; omega]
   ·refine ⟨k,by omega,fun j hj=>by rw [g4 j,h4 j hj],fun h=> ?_⟩
    rw [g3]at h; cases h
  ·rw [hs R n hR]
   exact ⟨h1,h2,k,by omega,h4,fun h=>by rw [hR]at h; cases h⟩
theorem y2v {a:dA} (hd:downA a=false):Adv (fun _=>yq) a (yn a) a.2.2.1.length :=
 yBm (one:=yC) (g:=fun _=>yq) (fun _ i h=>yC0 i h) (fun b i _ h2 hi hb _=>y2w hb (by omega)) hd _ (Nat.le_refl _)
theorem yZl {a b:dA} (h:yo b=yo a) (i:Int):yLK b i=yLK a i:=by
 unfold yo at h
 simp only [Prod.mk.injEq]at h
 obtain ⟨h1,h2,h3,h4,h5,h6,h7,h8,h9⟩:=h
 unfold yLK
 rw [h1,h2,h3,h4,h6,h7]
theorem yBQ {a b:dA} (h:yo b=yo a):b.2.2.2.2.2.2.2.1=a.2.2.2.2.2.2.2.1:=congrArg (fun x=>x.2.2.2.2.2.2.1) h
theorem yOy {a b:dA} (h:yo b=yo a):b.2.2.2.2.2.2.2.2.2.2.2=a.2.2.2.2.2.2.2.2.2.2.2:=congrArg (fun x=>x.2.2.2.2.2.2.2.2) h
theorem y4a {a b:dA} (h:yo b=yo a):b.1=a.1:=congrArg (fun x=>x.1) h
def yS3 (a:dA) (i:Int) (m:dM):dM:=ygq (a.2.2.2.2.2.2.2.1.tmod 2) (yz (yLK a i)) m
theorem y2p {a:dA} (hd:downA a=false):Adv (yS3 a) a ((List.range a.2.2.1.length).foldl yP a) a.2.2.1.length :=
 yBm (one:=yP) (g:=yS3 a) (fun _ i h=>yw4 h _ _ _) (fun b i h1 h2 hi hb _=>by
  have:=yLI (b.2.2.2.2.2.2.2.1.tmod 2) (yz (yLK b i)) hb (show inb (i:Int) b.2.2.1.length=true from zkO (by omega))
  rw [yBQ h1,yZl h1]at this
  unfold yS3 yP
  rw [yBQ h1,yZl h1]
  exact this) hd _ (Nat.le_refl _)
theorem y2Y {a:dA} (r:dN) (hd:downA a=false):Adv (fun _=>ygq (yM r.1) (ypW r)) a ((List.range a.2.2.1.length).foldl (ybi r) a) a.2.2.1.length :=
 yBm (one:=ybi r) (g:=fun _=>ygq (yM r.1) (ypW r)) (fun _ i h=>yN3 r i h) (fun b i _ h2 hi hb _=>yLI _ _ hb (zkO (by omega))) hd _ (Nat.le_refl _)
def yH (L B i s:Int) (m:dM):Bool:= !m.2.2.1&&(i !=L||ltb s B)
theorem y0T {a:dA} {i s:Int} (hi:inb i a.2.2.1.length=true):yby a i s=yH a.2.2.2.1 a.2.2.2.2.1 i s (dsk a i):=by
 unfold yby yH dsk
 rw [hi]; rfl
def yj5 (L B p N s:Int) (d:List Int) (i:Int) (m:dM):dM:=bif yH L B i s m then (yG m (dataAt s) [ycc p N (xorOf d) d i]).1 else m
theorem yZm {a:dA} (s:Int) (d:List Int) (hd:downA a=false):Adv (yj5 a.2.2.2.1 a.2.2.2.2.1 (ye a.2.1 s) a.2.1.1 s d) a (yA a s d) a.2.2.1.length :=
 yBm (one:=yaH (ye a.2.1 s) a.2.1.1 s d) (g:=yj5 a.2.2.2.1 a.2.2.2.2.1 (ye a.2.1 s) a.2.1.1 s d) (fun _ i h=>yJZ _ _ _ _ i h) (fun b i h1 h2 hi hb _=>by
  have hib:inb (i:Int) b.2.2.1.length=true:=zkO (by omega)
  unfold yaH
  rw [y0T hib,ycM h1,yah h1]
  cases hl:yH a.2.2.2.1 a.2.2.2.2.1 i s (dsk b i)
  ·refine ⟨rfl,rfl,.inl ⟨hb,fun j hj=> ?_⟩⟩
   by_cases hj2:(i:Int)=j
   ·subst hj2
    rw [beq_self_eq_true]
    show dsk b i=yj5 _ _ _ _ _ _ _ (dsk b i)
    unfold yj5
    rw [hl]; rfl
   ·rw [show ((i:Int)==j)=false from beq_eq_false_iff_ne.2 hj2]; rfl
  ·obtain ⟨g1,g2,g3⟩:=yLI (dataAt s) [ycc (ye a.2.1 s) a.2.1.1 (xorOf d) d i] hb hib
   refine ⟨g1,g2,g3.imp (fun ⟨g3,g4⟩=>⟨g3,fun j hj=> ?_⟩) id⟩
   show dsk (ybo b i (dataAt s) _) j=_
   rw [g4 j hj]
   by_cases hj2:(i:Int)=j
   ·subst hj2
    rw [beq_self_eq_true,cond_true,cond_true]
    unfold yj5 ygq
    rw [hl,cond_true]
    simp only [yH,Bool.and_eq_true,Bool.not_eq_true'] at hl
    rw [hl.1]; rfl
   ·rw [show ((i:Int)==j)=false from beq_eq_false_iff_ne.2 hj2]; rfl) hd _ (Nat.le_refl _)
def yk (a:dA):dA:=bif leb 4 (IntKind.i64.wrap (a.2.2.2.2.2.1 - a.2.2.2.2.2.2.1)) then checkA a else a
def yu (a:dA) (s:Int) (d:List Int):Int×dA :=
 bif downA (yk a) then (6,yk a) else
 bif downA (yF (yk a) ((yk a).2.2.2.2.2.1,s,d)) then (6,yF (yk a) ((yk a).2.2.2.2.2.1,s,d)) else
 (bif downA (yA (yO (yF (yk a) ((yk a).2.2.2.2.2.1,s,d))) s d) then 6 else 0,yA (yO (yF (yk a) ((yk a).2.2.2.2.2.1,s,d))) s d)
theorem yJV (a:dA):(checkA a).2.1=a.2.1:=by
 unfold checkA
 cases downA (yn a)
 ·exact (yaf (ylL (yaq (yn a)))).trans (show (yn a).2.1=a.2.1 from yaf (ycZ a))
 ·exact yaf (ycZ a)
theorem yLz (a:dA):(yk a).2.1=a.2.1:=by
 unfold yk
 cases leb 4 (IntKind.i64.wrap (a.2.2.2.2.2.1 - a.2.2.2.2.2.2.1))
 ·rfl
 ·exact yJV a
theorem y39 (a:dA):(yk a).2.2.1.length=a.2.2.1.length:=by
 unfold yk
 cases leb 4 (IntKind.i64.wrap (a.2.2.2.2.2.1 - a.2.2.2.2.2.2.1))
 ·rfl
 ·exact ytZ a
def yLB (l:List dW) (k:Nat):List dW:=l.take k++l.drop (k+1)
def flushE (a:dA) (s:Int):Int×dA :=
 bif ltb (yW a.2.2.2.2.2.2.2.2.1 s) 0 then (0,a) else
 bif yy a s (nth a.2.2.2.2.2.2.2.2.1 (yW a.2.2.2.2.2.2.2.2.1 s) (0,[])).2 !=0 then (yy a s (nth a.2.2.2.2.2.2.2.2.1 (yW a.2.2.2.2.2.2.2.2.1 s) (0,[])).2,a) else
 bif (yu a s (nth a.2.2.2.2.2.2.2.2.1 (yW a.2.2.2.2.2.2.2.2.1 s) (0,[])).2).1==0 then
 (0,yCJ (yu a s (nth a.2.2.2.2.2.2.2.2.1 (yW a.2.2.2.2.2.2.2.2.1 s) (0,[])).2).2 (yLB a.2.2.2.2.2.2.2.2.1 (yW a.2.2.2.2.2.2.2.2.1 s).toNat))
 else yu a s (nth a.2.2.2.2.2.2.2.2.1 (yW a.2.2.2.2.2.2.2.2.1 s) (0,[])).2
theorem yt0 {a:dA} {s:Int} {d:List Int} (h:yy a s d=0):yw a=true∧(d.length:Int)=a.2.1.1 - 1∧d.all isW=true∧downA a=false∧yI a.2.1 s=true∧a.2.2.2.2.2.2.2.2.2.2.2=false∧a.2.2.2.2.2.1 < 60000∧a.2.2.2.2.2.2.2.1 < 59990:=by
 unfold yy at h
 simp only [ye7,yh9,ycd]at h
 cases ha:yw a
 ·rw [ha]at h; exact absurd (show (1:Int)=0 from h) (by decide)
 have hg:=yi.1 (ydV ha)
 rw [ha,wr (show -9223372036854775808≤a.2.1.1 - 1 by omega) (by omega),wr (show -9223372036854775808≤a.2.1.2 - 1 by omega) (by omega)] at h
 cases hl:((d.length:Int) !=a.2.1.1 - 1)
 ·cases hw:d.all isW
  ·rw [hl,hw]at h; exact absurd (show (1:Int)=0 from h) (by decide)
  cases hd:a.2.2.2.2.2.2.2.2.2.2.1
  ·cases hs:(leb 0 s&&leb s (a.2.1.2 - 1))
   ·rw [hl,hw,hd,hs]at h; exact absurd (show (2:Int)=0 from h) (by decide)
   cases hb:a.2.2.2.2.2.2.2.2.2.2.2
   ·cases h6:leb 60000 a.2.2.2.2.2.1
    ·cases h7:leb 59990 a.2.2.2.2.2.2.2.1
     ·have e6: ¬ (60000≤a.2.2.2.2.2.1):=fun g=>by rw [zk0 g]at h6; cases h6
      have e7: ¬ (59990≤a.2.2.2.2.2.2.2.1):=fun g=>by rw [zk0 g]at h7; cases h7
      exact ⟨rfl,bne_eq_false_iff_eq.1 hl,rfl,hd,by unfold yI; rw [ydV ha,hs]; rfl,rfl,by omega,by omega⟩
     ·rw [hl,hw,hd,hs,hb,h6,h7]at h; exact absurd (show (7:Int)=0 from h) (by decide)
    ·rw [hl,hw,hd,hs,hb,h6]at h; exact absurd (show (7:Int)=0 from h) (by decide)
   ·rw [hl,hw,hd,hs,hb]at h; exact absurd (show (5:Int)=0 from h) (by decide)
  ·rw [hl,hw,hd]at h; exact absurd (show (6:Int)=0 from h) (by decide)
 ·rw [hl]at h; exact absurd (show (1:Int)=0 from h) (by decide)
theorem yXh (a:dA):(yk a).2.2.2.2.2.2.2.2.1=a.2.2.2.2.2.2.2.2.1:=by
 unfold yk
 cases leb 4 (IntKind.i64.wrap (a.2.2.2.2.2.1 - a.2.2.2.2.2.2.1))
 ·rfl
 ·exact yxo a
theorem y0I (a:dA):(yO a).2.2.2.2.2.2.2.2.1=a.2.2.2.2.2.2.2.2.1:=rfl
theorem yN7 (a:dA) (s:Int) (d:List Int):(yu a s d).2.2.2.2.2.2.2.2.2.1=a.2.2.2.2.2.2.2.2.1:=by
 unfold yu
 have h2:=(yR3 (ybj (yk a) ((yk a).2.2.2.2.2.1,s,d))).trans (yXh a)
 generalize yF (yk a) ((yk a).2.2.2.2.2.1,s,d)=R at h2 ⊢
 have h3:=(yR3 (yxT (yO R) s d)).trans ((y0I R).trans h2)
 generalize yA (yO R) s d=Q at h3 ⊢
 cases downA (yk a)
 ·cases downA R
  ·exact h3
  ·exact h2
 ·exact yXh a
theorem y1x {l:List dW} {k:Int} (h0:0≤k) (h1:k < (l.length:Int)):(([]:List dW)++((l.drop (0:Int).toNat).take (k - 0).toNat))++((l.drop (k+1).toNat).take ((l.length:Int) - (k+1)).toNat)=yLB l k.toNat:=by
 unfold yLB
 rw [List.nil_append,show (0:Int).toNat=0 from rfl,List.drop_zero,Int.sub_zero,show (k+1).toNat=k.toNat+1 by omega,List.take_of_length_le (l:=l.drop (k.toNat+1)) (by rw [List.length_drop]; omega)]
def ywT (_:Nat) (a:dA):dA ⊕ (Int×dA):=bif (flushE a (nth a.2.2.2.2.2.2.2.2.1 0 (0,[])).1).1 !=0 then .inr (flushE a (nth a.2.2.2.2.2.2.2.2.1 0 (0,[])).1) else .inl (flushE a (nth a.2.2.2.2.2.2.2.2.1 0 (0,[])).1).2
def allE (a:dA):Int×dA:=goE ywT (fun b=>(0,b)) a.2.2.2.2.2.2.2.2.1.length 0 a
theorem y1b {e:dW} {l:List dW}:yW (e::l) e.1=0:=by
 unfold yW
 rw [yAI,show (e.1==e.1)=true from beq_self_eq_true _]; rfl
theorem y1d {a:dA} (h:0 < a.2.2.2.2.2.2.2.2.1.length) (h0:(flushE a (nth a.2.2.2.2.2.2.2.2.1 0 (0,[])).1).1=0):(flushE a (nth a.2.2.2.2.2.2.2.2.1 0 (0,[])).1).2.2.2.2.2.2.2.2.2.1=a.2.2.2.2.2.2.2.2.1.drop 1:=by
 unfold flushE at h0 ⊢
 have hk:yW a.2.2.2.2.2.2.2.2.1 (nth a.2.2.2.2.2.2.2.2.1 0 (0,[])).1=0:=by
  cases hl:a.2.2.2.2.2.2.2.2.1 with
  | nil=>rw [hl]at h; exact absurd h (Nat.lt_irrefl 0)
  | cons e l=>exact y1b
 rw [hk]at h0 ⊢
 generalize (nth a.2.2.2.2.2.2.2.2.1 0 (0,[])).2=D at h0 ⊢
 generalize (nth a.2.2.2.2.2.2.2.2.1 0 (0,[])).1=s at h0 ⊢
 cases hc:(yy a s D !=0)
 ·rw [hc]at h0
  cases hr:((yu a s D).1==0)
  ·rw [hr]at h0
   exact absurd (show (yu a s D).1=0 from h0) (beq_eq_false_iff_ne.1 hr)
  ·rfl
 ·rw [hc]at h0
  exact absurd (show yy a s D=0 from h0) (bne_iff_ne.1 hc)
inductive Turned (a:dA):dA→Prop where
 | same:Turned a a
 | put (b x:Int):blkOk a.2.1 b=true→isW x=true→Turned a (setOne a b x).2
 | flush (s:Int):Turned a (flushE a s).2
 | all:Turned a (allE a).2
 | fail (m:Int):a.2.2.2.1= -1→inb m a.2.2.1.length=true→Turned a (failOne a m)
 | spare:inb a.2.2.2.1 a.2.2.1.length=true→(nth a.2.2.1 a.2.2.2.1 noMem).2.2.1=true→Turned a (markA (spareNew a))
 | step:inb a.2.2.2.1 a.2.2.1.length=true→(nth a.2.2.1 a.2.2.2.1 noMem).2.2.1=false→a.2.2.2.2.1 < a.2.1.2→Turned a (stepOne a).2
 | check:Turned a (checkA a)
 | spoil (m s:Int):inb m a.2.2.1.length=true→0≤s→s < a.2.1.2→Turned a (setMem a m (spoil (nth a.2.2.1 m noMem) (dataAt s)))
def yZc (g:dG) (e:dW):Prop:=(0≤e.1∧e.1≤g.2 - 1)∧(e.2.length:Int)=g.1 - 1∧e.2.all isW=true
theorem yxU {g:dG} {l:List dW}:yaI g l=true↔(∀ e∈l,yZc g e)∧l.Pairwise (fun x y=>x.1 < y.1):=by
 have bad: ∀ i,yh4 g l i=false↔yZc g (nth l i (0,[]))∧(0 < i→(nth l ((i - 1:Nat):Int) (0,[])).1 < (nth l i (0,[])).1):=by
  intro i
  unfold yh4 yZc
  simp only [Bool.or_eq_false_iff,Bool.not_eq_false',bne_eq_false_iff_eq,Bool.and_eq_true,Bool.and_eq_false_iff,decide_eq_false_iff_not,zjQ]
  constructor
  ·rintro ⟨h1,h2,h3,h4⟩
   refine ⟨⟨h1,h2,h3⟩,fun h0=> ?_⟩
   rcases h4 with h4 | h4
   ·exact absurd h0 h4
   ·have:=mt zk0 (by rw [h4]; simp: ¬ leb (nth l i (0,[])).1 (nth l ((i - 1:Nat):Int) (0,[])).1=true)
    omega
  ·rintro ⟨⟨h1,h2,h3⟩,h4⟩
   refine ⟨h1,h2,h3,?_⟩
   by_cases h0:0 < i
   ·exact .inr (zkZ (by have:=h4 h0; omega))
   ·exact .inl h0
 unfold yaI
 simp only [Bool.not_eq_true',List.any_eq_false,List.mem_range,Bool.not_eq_true,bad]
 constructor
 ·intro h
  refine ⟨fun e he=> ?_,?_⟩
  ·obtain ⟨i,hi,rfl⟩:=List.getElem_of_mem he
   have:=(h i hi).1
   rwa [zjW,zcq hi]at this
  ·rw [List.pairwise_iff_getElem]
   have step: ∀ (d i:Nat) (hi:i < l.length) (hj:i+d+1 < l.length),l[i].1 < l[i+d+1].1:=by
    intro d
    induction d with
    | zero =>
     intro i hi hj
     have:=(h (i+1) hj).2 (by omega)
     rwa [Nat.add_sub_cancel,zjW,zjW,zcq hi,zcq hj]at this
    | succ d ih =>
     intro i hi hj
     have h1:=ih i hi (by omega)
     have:=(h (i+d+1+1) hj).2 (by omega)
     rw [Nat.add_sub_cancel,zjW,zjW,zcq (show i+d+1 < l.length by omega),zcq (show i+d+1+1 < l.length from hj)] at this
     exact Int.lt_trans h1 this
   intro i j hi hj hij
   have:=step (j - i - 1) i hi (by omega)
   have e:i+(j - i - 1)+1=j:=by omega
   simp only [e]at this
   exact this
 ·rintro ⟨h1,h2⟩ i hi
  rw [List.pairwise_iff_getElem]at h2
  refine ⟨by rw [zjW,zcq hi]; exact h1 _ (List.getElem_mem hi),fun h0=> ?_⟩
  rw [zjW,zjW,zcq hi,zcq (show i - 1 < l.length by omega)]
  exact h2 (i - 1) i (by omega) hi (by omega)
theorem yXk {g:dG} {l:List dW} (k:Nat) (h:yaI g l=true):yaI g (yLB l k)=true:=by
 rw [yxU]at h ⊢
 have hs:(yLB l k).Sublist l:=by
  unfold yLB
  have:(l.take k++l.drop (k+1)).Sublist (l.take k++l.drop k):=List.Sublist.append_left (by rw [← List.drop_drop]; exact List.drop_sublist _ _) _
  rwa [List.take_append_drop]at this
 exact ⟨fun e he=>h.1 e (hs.subset he),h.2.sublist hs⟩
theorem y0a (e:dW): ∀ (l acc:List dW),l.foldl (yca e) (true,acc)=(true,acc++l.filter (fun x=>x.1 !=e.1))
 | [],acc=>by simp
 | x::t,acc=>by
  rw [List.foldl_cons]
  have:yca e (true,acc) x=(true,acc++(bif x.1 !=e.1 then [x] else [])):=rfl
  rw [this,y0a e t,List.filter_cons]
  cases x.1 !=e.1<;>simp
theorem y1N {e:dW} {l:List dW} (h:l.Pairwise (fun x y=>x.1 < y.1)):yLj l e=l.filter (fun x=>ltb x.1 e.1)++e::l.filter (fun x=>ltb e.1 x.1):=by
 have: ∀ (l acc:List dW),l.Pairwise (fun x y=>x.1 < y.1)→(bif (l.foldl (yca e) (false,acc)).1 then (l.foldl (yca e) (false,acc)).2 else (l.foldl (yca e) (false,acc)).2++ [e])=acc++(l.filter (fun x=>ltb x.1 e.1)++e::l.filter (fun x=>ltb e.1 x.1)):=by
  intro l
  induction l with
  | nil=>intro acc _; simp
  | cons x t ih =>
   intro acc h
   obtain ⟨hx,ht⟩:=List.pairwise_cons.1 h
   rw [List.foldl_cons]
   by_cases hle:e.1≤x.1
   ·have h1:yca e (false,acc) x=(true,(acc++ [e])++(bif x.1 !=e.1 then [x] else [])):=by
     unfold yca; rw [zk0 hle]; rfl
    have h2:t.filter (fun x=>x.1 !=e.1)=t:=List.filter_eq_self.2 (fun y hy=>bne_iff_ne.2 (by have:=hx y hy; omega))
    have h3:t.filter (fun x=>ltb x.1 e.1)= []:=List.filter_eq_nil_iff.2 (fun y hy=>by rw [zkm (by have:=hx y hy; omega)]; simp)
    have h4:t.filter (fun x=>ltb e.1 x.1)=t:=List.filter_eq_self.2 (fun y hy=>zjI (by have:=hx y hy; omega))
    rw [h1,y0a,h2,List.filter_cons,List.filter_cons,h3,h4,zkm (show e.1≤x.1 by omega)]
    by_cases he:x.1=e.1
    ·rw [show (x.1 !=e.1)=false from bne_eq_false_iff_eq.2 he,zkm (show x.1≤e.1 by omega)]; simp
    ·rw [show (x.1 !=e.1)=true from bne_iff_ne.2 he,zjI (show e.1 < x.1 by omega)]; simp
   ·have h1:yca e (false,acc) x=(false,acc++ [x]):=by
     unfold yca; rw [zkZ (show x.1 < e.1 by omega),show (x.1 !=e.1)=true from bne_iff_ne.2 (by omega)]; rfl
    rw [h1,ih _ ht,List.filter_cons,List.filter_cons,zjI (show x.1 < e.1 by omega),zkm (show x.1≤e.1 by omega)]
    simp
 have:=this l [] h
 rw [List.nil_append]at this
 exact this
theorem yXl {g:dG} {l:List dW} {e:dW} (h:yaI g l=true) (he:yZc g e):yaI g (yLj l e)=true:=by
 rw [yxU]at h ⊢
 rw [y1N h.2]
 refine ⟨fun x hx=> ?_,?_⟩
 ·rcases List.mem_append.1 hx with h1 | h1
  ·exact h.1 x (List.mem_filter.1 h1).1
  ·rcases List.mem_cons.1 h1 with rfl | h1
   ·exact he
   ·exact h.1 x (List.mem_filter.1 h1).1
 ·rw [List.pairwise_append,List.pairwise_cons]
  refine ⟨h.2.filter _,⟨fun y hy=>zjT.1 (List.mem_filter.1 hy).2,h.2.filter _⟩,fun x hx y hy=> ?_⟩
  have h1:=zjT.1 (List.mem_filter.1 hx).2
  rcases List.mem_cons.1 hy with rfl | hy
  ·exact h1
  ·exact Int.lt_trans h1 (zjT.1 (List.mem_filter.1 hy).2)
theorem ypC {g:dG} {l:List dW} (h:yaI g l=true) (hg:yc g=true):l.length≤8:=by
 rw [yxU]at h
 have hg:=yi.1 hg
 have:=yLy (l:=l.map (fun e=>e.1)) (lo:=0) (n:=g.2) (by rw [List.pairwise_map]; exact h.2) (fun x hx=>by
  obtain ⟨e,he,rfl⟩:=List.mem_map.1 hx
  have:=(h.1 e he).1; omega) (by omega)
 rw [List.length_map]at this
 omega
theorem yZW {a:dA} (r:dN) (h:Keep a):Keep (yF a r) :=
 yt8 (yl8 (P:=Keep) (one:=ybi r) (ymv r) (fun _ _ h hi=>yCo h (zkO hi)) _ a (Nat.le_refl _) h)
theorem y2h {a:dA} (r:dN) (h:ygW a):ygW (yF a r) :=
 yyb (yl8 (P:=ygW) (one:=ybi r) (ymv r) (fun _ _ h _=>yG2 h _ _ _) _ a (Nat.le_refl _) h)
theorem yXt {a:dA} (s:Int) (d:List Int) (h:Keep a):Keep (yA a s d) :=
 yl8 (P:=Keep) (one:=yaH (ye a.2.1 s) a.2.1.1 s d) (ynu _ _ _ _) (fun b i h hi=>by
  unfold yaH
  cases yby b i s
  ·exact h
  ·exact yCo h (zkO hi)) _ a (Nat.le_refl _) h
theorem y1D {a:dA} (s:Int) (d:List Int) (h:ygW a):ygW (yA a s d) :=
 yl8 (P:=ygW) (one:=yaH (ye a.2.1 s) a.2.1.1 s d) (ynu _ _ _ _) (fun b i h hi=>by
  unfold yaH
  cases yby b i s
  ·exact h
  ·exact yG2 h _ _ _) _ a (Nat.le_refl _) h
theorem y3r {k:Int} {a:dA} (r:dN) (h:Wk k a):Wk k (yF a r):=yAQ (ybj _ _) (yZW r h.2.1) (y2h r h.2.2.1) h
theorem y20 {k:Int} {a:dA} (s:Int) (d:List Int) (h:Wk k a):Wk k (yA a s d):=yAQ (yxT _ _ _) (yXt s d h.2.1) (y1D s d h.2.2.1) h
theorem y2z {k:Int} {a:dA} (h:Wk k a) (h1:a.2.2.2.2.2.1 < 60000) (h2:a.2.2.2.2.2.1 - a.2.2.2.2.2.2.1≤3):Wk k (yO a):=by
 obtain ⟨⟨c1,c2,c3,c4,c5,c6,c7,c8,c9,c10,c11⟩,g2,g3,g4,g5⟩:=h
 have e:IntKind.i64.wrap (a.2.2.2.2.2.1+1)=a.2.2.2.2.2.1+1:=wr (by omega) (by omega)
 refine ⟨⟨c1,c2,c3,c4,c5,c6,c7,⟨?_,?_⟩,?_,c10,c11⟩,g2,g3,g4,g5⟩
 ·show a.2.2.2.2.2.2.1≤IntKind.i64.wrap (a.2.2.2.2.2.1+1); omega
 ·show IntKind.i64.wrap (a.2.2.2.2.2.1+1)≤60000; omega
 ·show IntKind.i64.wrap (a.2.2.2.2.2.1+1)≤a.2.2.2.2.2.2.1+4; omega
theorem yjy {a b:dA} (h:yo a=yo b):a.2.2.2.2.2.1=b.2.2.2.2.2.1:=congrArg (fun x=>x.2.2.2.2.1) h
theorem yXi {a b:dA} (h:yo a=yo b):a.2.2.2.2.2.2.1=b.2.2.2.2.2.2.1:=congrArg (fun x=>x.2.2.2.2.2.1) h
theorem yR1 {a:dA} (h:ygW a):yo (checkA a)=yo (yaa (yaq a)):=by
 rw [yGS h,ylL]
 have:=ycZ a
 unfold yo at this ⊢
 simp only [Prod.mk.injEq]at this
 obtain ⟨h1,h2,h3,h4,h5,h6,h7,h8,h9⟩:=this
 unfold yaa yaq
 simp only [h1,h2,h3,h4,h5,h7,h8,h9]
theorem y3p {k:Int} {a:dA} (h:Wk k a) (hk:k+1≤60000):Wk (k+1) (yk a)∧(yk a).2.2.2.2.2.1=a.2.2.2.2.2.1∧(yk a).2.2.2.2.2.1 - (yk a).2.2.2.2.2.2.1≤3:=by
 have c:=h.1
 unfold coreOk at c
 unfold yk
 rw [wr (by omega) (by omega)]
 cases h4:leb 4 (a.2.2.2.2.2.1 - a.2.2.2.2.2.2.1)
 ·refine ⟨yb5 h (by omega),rfl,?_⟩
  have: ¬ (4≤a.2.2.2.2.2.1 - a.2.2.2.2.2.2.1):=fun g=>by rw [zk0 g]at h4; cases h4
  show a.2.2.2.2.2.1 - a.2.2.2.2.2.2.1≤3; omega
 ·have e1:(checkA a).2.2.2.2.2.1=a.2.2.2.2.2.1:=(yjy (yR1 h.2.2.1)).trans rfl
  have e2:(checkA a).2.2.2.2.2.2.1=a.2.2.2.2.2.1:=(yXi (yR1 h.2.2.1)).trans rfl
  rw [cond_true]
  exact ⟨y0l h hk,e1,by omega⟩
theorem y0p {k:Int} {a:dA} (s:Int) (d:List Int) (h:Wk k a) (hs:a.2.2.2.2.2.1 < 60000) (hk:k+1≤60000):Wk (k+1) (yu a s d).2∧(yu a s d).1=0:=by
 obtain ⟨h1,h2,h3⟩:=y3p h hk
 have h4:=y3r ((yk a).2.2.2.2.2.1,s,d) h1
 have e1:=yjy (ybj (yk a) ((yk a).2.2.2.2.2.1,s,d))
 have e2:=yXi (ybj (yk a) ((yk a).2.2.2.2.2.1,s,d))
 unfold yu
 generalize yF (yk a) ((yk a).2.2.2.2.2.1,s,d)=R at h4 e1 e2 ⊢
 have h5:=y20 s d (y2z h4 (by omega) (by omega))
 generalize yA (yO R) s d=Q at h5 ⊢
 rw [h1.2.2.1.1,h4.2.2.1.1,h5.2.2.1.1]
 exact ⟨h5,rfl⟩
theorem yN6 {k:Int} {a:dA} {l:List dW} (h:Wk k a) (hd:yaI a.2.1 l=true):Wk k (yCJ a l):=by
 obtain ⟨⟨c1,c2,c3,c4,c5,c6,c7,c8,c9,c10,c11⟩,g2,g3,g4,g5⟩:=h
 exact ⟨⟨c1,c2,hd,c4,c5,c6,c7,c8,c9,c10,c11⟩,g2,g3,g4,g5⟩
theorem yuf (a:dA) (s:Int) (d:List Int):(yu a s d).2.2.1=a.2.1:=by
 unfold yu
 have h2:=(yaf (ybj (yk a) ((yk a).2.2.2.2.2.1,s,d))).trans (yLz a)
 generalize yF (yk a) ((yk a).2.2.2.2.2.1,s,d)=R at h2 ⊢
 have h3:=(yaf (yxT (yO R) s d)).trans (show (yO R).2.1=a.2.1 from h2)
 generalize yA (yO R) s d=Q at h3 ⊢
 cases downA (yk a)
 ·cases downA R
  ·exact h3
  ·exact h2
 ·exact yLz a
theorem y0m {k:Int} {a:dA} (s:Int) (h:Wk k a) (hk:k+1≤60000):Wk (k+1) (flushE a s).2:=by
 unfold flushE
 cases ltb (yW a.2.2.2.2.2.2.2.2.1 s) 0
 ·generalize hD:(nth a.2.2.2.2.2.2.2.2.1 (yW a.2.2.2.2.2.2.2.2.1 s) (0,[])).2=D
  cases hc:(yy a s D !=0)
  ·have hz:=yt0 (bne_eq_false_iff_eq.1 hc)
   obtain ⟨h1,h2⟩:=y0p s D h hz.2.2.2.2.2.2.1 hk
   rw [show ((yu a s D).1==0)=true from beq_iff_eq.2 h2]
   exact yN6 h1 (by rw [yuf]; exact yXk _ h.1.2.2.1)
  ·exact yb5 h (by omega)
 ·exact yb5 h (by omega)
theorem y0n {k:Int}: ∀ (n i:Nat) (j:Int) (a:dA),Wk j a→j+n≤k→k≤60000→Wk k (goE ywT (fun b=>((0:Int),b)) n i a).2
 | 0,_,j,a,h,h1,_=>yb5 h (by omega)
 | n+1,i,j,a,h,h1,h2=>by
  have h3:=y0m (nth a.2.2.2.2.2.2.2.2.1 0 (0,[])).1 h (by omega)
  unfold goE ywT
  cases ((flushE a (nth a.2.2.2.2.2.2.2.2.1 0 (0,[])).1).1 !=0)
  ·exact y0n n (i+1) (j+1) _ h3 (by omega) h2
  ·exact yb5 h3 (by omega)
theorem y3n {k:Int} {a:dA} (h:Wk k a) (hk:k+8≤60000):Wk (k+8) (allE a).2:=by
 have:=ypC h.1.2.2.1 h.1.1
 exact y0n _ 0 k a h (by omega) hk
theorem y3s {k:Int} {a:dA} {b n:Int} (h:Wk k a) (hb:blkOk a.2.1 b=true) (hn:isW n=true):Wk k (setOne a b n).2:=by
 unfold setOne
 cases hs:(ybk a (ybO a.2.1 b)).2
 ·exact h
 ·have hstr:=yE7 hb
  have hl:=yy9 (y3o h) hstr hs
  refine yN6 h (yXl h.1.2.2.1 ⟨(yN.1 hstr).2,by rw [List.length_set]; exact hl,yW9 ?_ hn⟩)
  unfold ybk
  cases hk:leb 0 (yW a.2.2.2.2.2.2.2.2.1 (ybO a.2.1 b))
  ·rw [h.2.2.2.1]; exact yXj _ _
  ·have:=(yte (d:=((0:Int),([]:List Int))) hk).1
   exact yub (P:=fun e:dW=>e.2.all isW=true) this (fun e he=>((yxU.1 h.1.2.2.1).1 e he).2.2)
def yxh (a:dA) (s:Int) (d:List Int):dA×Int:=bif yy a s d !=0 then (a,yy a s d) else ((yu a s d).2,(yu a s d).1)
theorem y1r (a:dA) (s:Int) (d:List Int):(yu a s d).1=bif downA (yu a s d).2 then 6 else 0:=by
 unfold yu
 generalize yk a=C
 generalize yF C (C.2.2.2.2.2.1,s,d)=R
 generalize yA (yO R) s d=Q
 rcases Bool.eq_false_or_eq_true (downA C) with h | h
 ·rw [h,cond_true]
  exact (congrArg (fun x=>bif x then (6:Int) else 0) h).symm
 ·rw [h,cond_false]
  rcases Bool.eq_false_or_eq_true (downA R) with h2 | h2
  ·rw [h2,cond_true]
   exact (congrArg (fun x=>bif x then (6:Int) else 0) h2).symm
  ·rw [h2,cond_false]
theorem yqI {a:dA} (h:Keep a) {i:Int} (h0:0≤i) (h1:i < a.2.1.1):yl (dsk a i)=true∧((dsk a i).1.length:Int)=6+a.2.1.2∧((dsk a i).2.2.1=true→i=a.2.2.2.1∨a.2.2.2.2.2.2.2.2.2.2.2=true):=by
 have:=h.1.1 i.toNat (by have:=h.1.2; omega)
 unfold yyX at this
 rw [Int.toNat_of_nonneg h0]at this
 exact this
theorem yAF {s:Int} (h0:0≤s) (h1:s≤1000):dataAt s=s+6:=by
 unfold dataAt
 rw [zk0 h0,zk0 (show s≤1099511627776 by omega)]; rfl
def yR (a:dA) (s i:Int):Bool:=yH a.2.2.2.1 a.2.2.2.2.1 i s (dsk a i)&& !(ypy (dsk a i) (s+6))
def View (V:Int→Int→Int) (a:dA):Prop:= ∀ i s,0≤i→i < a.2.1.1→0≤s→s < a.2.1.2→yR a s i=true→ypB (dsk a i) (s+6)= [V s i]
def vlist (V:Int→Int→Int) (N:Int) (s:Int):List Int:=(List.range N.toNat).map (fun (i:Nat)=>V s i)
structure EvV (g:dG) (V:Int→Int→Int):Prop where
 ev: ∀ s,0≤s→s < g.2→xorOf (vlist V g.1 s)=0
 ew: ∀ s i,0≤s→s < g.2→0≤i→i < g.1→isW (V s i)=true
theorem yqe {V:Int→Int→Int} {a:dA} {i s:Int} (hg:yc a.2.1=true) (hk:Keep a) (hv:View V a) (i0:0≤i) (i1:i < a.2.1.1) (s0:0≤s) (s1:s < a.2.1.2):ym a i s=yR a s i∧(yR a s i=true→yjJ a i s=V s i):=by
 have hge:=yi.1 hg
 have hin:inb i a.2.2.1.length=true:=zjP.2 (by have:=hk.1.2; omega)
 obtain ⟨d1,d2,d3⟩:=yqI hk i0 i1
 have key:yH a.2.2.2.1 a.2.2.2.2.1 i s (dsk a i)=true→yc0 a i s=bif ypy (dsk a i) (s+6) then ([],false) else (ypB (dsk a i) (s+6),true):=fun hl=>by
  simp only [yH,Bool.and_eq_true,Bool.not_eq_true'] at hl
  unfold yc0
  rw [yAF s0 (by omega)]
  exact y2q d1 hl.1 (zjP.2 (show 0≤s+6∧s+6 < ((dsk a i).1.length:Int) by omega))
 have hw:ym a i s=yR a s i:=by
  unfold ym
  rw [y0T hin]
  cases hl:yH a.2.2.2.1 a.2.2.2.2.1 i s (dsk a i)
  ·unfold yR; rw [hl]; rfl
  ·rw [key hl]
   cases hb:ypy (dsk a i) (s+6)
   ·have hh:yR a s i=true:=by unfold yR; rw [hl,hb]; rfl
    rw [hh,cond_false,hv i s i0 i1 s0 s1 hh]; rfl
   ·unfold yR; rw [hl,hb]; rfl
 refine ⟨hw,fun hh=> ?_⟩
 unfold yjJ
 rw [hw,hh,cond_true]
 have hh':=hh
 unfold yR at hh'
 rw [Bool.and_eq_true,Bool.not_eq_true'] at hh'
 rw [key hh'.1,hh'.2,cond_false,hv i s i0 i1 s0 s1 hh]; rfl
theorem y2D: ∀ (l:List Int) (k:Nat) (x:Int),k < l.length→yd4 (l.set k x)=yd4 l ^^^ bv (nth l k 0) ^^^ bv x:=by
 intro l k x hk
 have e1:l=l.take k++nth l k 0::l.drop (k+1):=by
  rw [zjW,zcq hk,← List.drop_eq_getElem_cons hk,List.take_append_drop]
 have e2:l.set k x=l.take k++x::l.drop (k+1):=by
  rw [List.set_eq_take_append_cons_drop,if_pos hk]
 have fo: ∀ (l:List Int) (v:BitVec 64),l.foldl (fun v x=>v ^^^ bv x) v=v ^^^ yd4 l:=by
  intro l
  induction l with
  | nil=>intro v; show v=v ^^^ 0#64; rw [BitVec.xor_zero]
  | cons y t ih =>
   intro v
   unfold yd4
   rw [List.foldl_cons,List.foldl_cons,ih,ih (0#64 ^^^ bv y),BitVec.zero_xor,BitVec.xor_assoc]
 have cut: ∀ (A:List Int) (y:Int) (B:List Int),yd4 (A++y::B)=yd4 A ^^^ bv y ^^^ yd4 B:=fun A y B=>by
  show (A++y::B).foldl _ _=_
  rw [List.foldl_append,List.foldl_cons,fo]; rfl
 rw [e2,cut]
 conv=>rhs; rw [e1]
 rw [cut]
 have hn:nth (List.take k l++nth l (↑k) 0::List.drop (k+1) l) (k:Int) 0=nth l k 0:=by rw [← e1]
 rw [hn,BitVec.xor_assoc (yd4 (l.take k)),BitVec.xor_assoc (yd4 (l.take k)),BitVec.xor_comm (bv (nth l k 0)),BitVec.xor_assoc (yd4 (l.take k)),yXM,BitVec.xor_comm (bv x),BitVec.xor_assoc]
theorem yUW {l:List Int} (h:xorOf l=0):yd4 l=0#64:=by
 rw [ymB]at h
 have:=congrArg bv h
 rw [ys8]at this
 rw [this]; rfl
theorem yXy {p:Nat→Bool}: ∀ {n:Nat},yeK p n=false→ ∀ j,j < n→p j=true∨(j:Int)=yr p n
 | 0,_,j,hj=>absurd hj (Nat.not_lt_zero _)
 | n+1,h,j,hj=>by
  have h':yeK p n=false:=by
   unfold yeK at h ⊢
   rw [List.range_succ,List.any_append,Bool.or_eq_false_iff]at h
   exact h.1
  have hl:(!p n&&leb 0 (yr p n))=false:=by
   unfold yeK at h
   rw [List.range_succ,List.any_append,Bool.or_eq_false_iff]at h
   simpa using h.2
  unfold yr
  rcases Nat.lt_succ_iff_lt_or_eq.1 hj with hj | rfl
  ·rcases yXy h' j hj with h1 | h1
   ·exact .inl h1
   ·cases hp:p n
    ·rw [hp,← h1]at hl
     rw [zk0 (show (0:Int)≤j by omega)] at hl; cases hl
    ·exact .inr h1
  ·cases hp:p j
   ·exact .inr rfl
   ·exact .inl rfl
theorem yXx {p:Nat→Bool}: ∀ {n:Nat},leb 0 (yr p n)=false→ ∀ j,j < n→p j=true
 | 0,_,j,hj=>absurd hj (Nat.not_lt_zero _)
 | n+1,h,j,hj=>by
  unfold yr at h
  cases hp:p n
  ·rw [hp,cond_false,zk0 (show (0:Int)≤n by omega)] at h; cases h
  ·rw [hp,cond_true]at h
   rcases Nat.lt_succ_iff_lt_or_eq.1 hj with hj | rfl
   ·exact yXx h j hj
   ·exact hp
theorem yES (V:Int→Int→Int) (N s:Int):(vlist V N s).length=N.toNat:=by unfold vlist; rw [List.length_map,List.length_range]
theorem y1T (V:Int→Int→Int) (N s:Int) {j:Nat} (h:j < (vlist V N s).length):(vlist V N s)[j]=V s j:=by simp [vlist]
theorem yRe (V:Int→Int→Int) {N s i:Int} (h0:0≤i) (h1:i < N):nth (vlist V N s) i 0=V s i:=by
 unfold vlist nth
 rw [zcq (by rw [List.length_map,List.length_range]; omega),List.getElem_map,List.getElem_range,Int.toNat_of_nonneg h0]
theorem yUV {V:Int→Int→Int} {a:dA} {s:Int} (hg:yc a.2.1=true) (hk:Keep a) (he:EvV a.2.1 V) (hv:View V a) (s0:0≤s) (s1:s < a.2.1.2) :
  yE a s=bif yeK (fun (i:Nat)=>yR a s i) a.2.1.1.toNat then ([],false) else (vlist V a.2.1.1 s,true):=by
 have hw: ∀ i:Nat,i < a.2.1.1.toNat→ym a i s=yR a s i:=fun i hi=>(yqe hg hk hv (by omega) (by omega) s0 s1).1
 have hm: ∀ n,n≤a.2.1.1.toNat→yr (fun (i:Nat)=>ym a i s) n=yr (fun (i:Nat)=>yR a s i) n:=by
  intro n
  induction n with
  | zero=>intro _; rfl
  | succ n ih=>intro hn; unfold yr; rw [hw n (by omega),ih (by omega)]
 have h2:yeK (fun (i:Nat)=>ym a i s) a.2.1.1.toNat=yeK (fun (i:Nat)=>yR a s i) a.2.1.1.toNat:=by
  unfold yeK
  rw [Bool.eq_iff_iff,List.any_eq_true,List.any_eq_true]
  constructor
  ·rintro ⟨i,hi,h⟩
   have hi':=List.mem_range.1 hi
   exact ⟨i,hi,by dsimp only at h ⊢; rw [hw i hi',hm i (by omega)] at h; exact h⟩
  ·rintro ⟨i,hi,h⟩
   have hi':=List.mem_range.1 hi
   exact ⟨i,hi,by dsimp only at h ⊢; rw [hw i hi',hm i (by omega)]; exact h⟩
 unfold yE
 rw [h2,hm _ (Nat.le_refl _)]
 cases hc:yeK (fun (i:Nat)=>yR a s i) a.2.1.1.toNat
 ·simp only [cond_false]
  cases hn:leb 0 (yr (fun (i:Nat)=>yR a s i) a.2.1.1.toNat)
  ·simp only [cond_false]
   congr 1
   refine List.map_congr_left fun i hi=> ?_
   have hi':=List.mem_range.1 hi
   exact (yqe hg hk hv (by omega) (by omega) s0 s1).2 (yXx hn i hi')
  ·simp only [cond_true]
   congr 1
   rcases yKC (fun (i:Nat)=>yR a s i) a.2.1.1.toNat with h3 | ⟨k0,k1,k2⟩
   ·rw [h3]at hn; cases hn
   ·have hu:=yXy hc
    generalize yr (fun (i:Nat)=>yR a s i) a.2.1.1.toNat=k at *
    obtain ⟨k,rfl⟩: ∃ m:Nat,k=m:=⟨k.toNat,by omega⟩
    rw [Int.toNat_natCast]at k2 ⊢
    have hkl:k < (vlist V a.2.1.1 s).length:=by rw [yES]; omega
    have e:yK a s a.2.1.1.toNat=(vlist V a.2.1.1 s).set k 0:=by
     refine List.ext_getElem (by rw [yfe,List.length_set,yES]) fun j h3 h4=> ?_
     rw [yfe]at h3
     rw [List.getElem_set]
     have e1:(yK a s a.2.1.1.toNat)[j]'(by rw [yfe]; exact h3)=yjJ a j s:=by unfold yK; simp
     have e2:(vlist V a.2.1.1 s)[j]'(by rw [yES]; exact h3)=V s j:=by unfold vlist; simp
     rw [e1]
     by_cases hj:k=j
     ·subst hj
      rw [if_pos rfl]
      unfold yjJ
      rw [hw k (by omega),k2]; rfl
     ·rw [if_neg hj,e2]
      rcases hu j h3 with h5 | h5
      ·exact (yqe hg hk hv (by omega) (by omega) s0 s1).2 h5
      ·exact absurd h5 (by omega)
    have hx:xorOf (yK a s a.2.1.1.toNat)=V s k:=by
     rw [e,ymB,y2D _ _ _ hkl,yUW (he.ev s s0 s1),BitVec.zero_xor,show bv 0=0#64 by decide,BitVec.xor_zero,yRe V (by omega) (by omega)]
     have:=yqK.1 (he.ew s k s0 s1 (by omega) (by omega))
     exact y0i (by omega) (by omega)
    rw [hx,e,List.set_set]
    refine List.ext_getElem (by rw [List.length_set]) fun j h3 h4=> ?_
    rw [List.getElem_set]
    by_cases hj:k=j
    ·subst hj
     rw [if_pos rfl]
     exact (y1T _ _ _ h4).symm
    ·rw [if_neg hj]
 ·rfl
theorem yXI {k:Int} {a b:dA} (h:Wk k a) (ht:Turned a b) (hk:k+8≤60000):Wk (k+8) b:=by
 cases ht with
 | same=>exact yb5 h (by omega)
 | put b x hb hx=>exact yb5 (y3s h hb hx) (by omega)
 | flush s=>exact yb5 (y0m s h (by omega)) (by omega)
 | all=>exact y3n h hk
 | fail m hl hm=>exact yb5 (y21 h hl hm (by omega)) (by omega)
 | spare hl _=>exact yb5 (y2A h hl (by omega)) (by omega)
 | step hl _ hb=>exact yb5 (y22 h hl hb) (by omega)
 | check=>exact yb5 (y0l h (by omega)) (by omega)
 | spoil m s hm _ _=>exact yb5 (y2B h hm) (by omega)
structure Ix (k:Int) (V:Int→Int→Int) (a:dA):Prop where
 xc:coreOk a
 xk:Keep a
 xu:downA a=false
 xb:a.2.2.2.2.2.2.2.2.2.2.2=false
 xg:a.2.2.2.2.2.2.2.1≤k
 xs:a.2.2.2.2.2.1≤k
 xe:EvV a.2.1 V
 xv:View V a
 xn: ∀ i,0≤i→i < a.2.1.1→((dsk a i).2.1.length:Int)≤1+(bif i==a.2.2.2.1 then a.2.2.2.2.1 else 0)
theorem yCn {k:Int} {V:Int→Int→Int} {a:dA} (h:Ix k V a):yw a=true:=yLx.2 ⟨h.xc,h.xk⟩
theorem yey {k j:Int} {V:Int→Int→Int} {a:dA} (h:Ix k V a) (hj:k≤j):Ix j V a:=⟨h.xc,h.xk,h.xu,h.xb,Int.le_trans h.xg hj,Int.le_trans h.xs hj,h.xe,h.xv,h.xn⟩
def yBh (S:Int) (m x:dM):Prop:=(x.2.2.1=false→m.2.2.1=false∧ ∀ k,6≤k→k < 6+S→ypy x k=false→ypy m k=false∧ypB x k=ypB m k)
theorem yED (S:Int) (m:dM):yBh S m m:=fun h=>⟨h,fun _ _ _ hb=>⟨hb,rfl⟩⟩
theorem yS8 {S:Int} {m x y:dM} (h:yBh S m x) (g:yBh S x y):yBh S m y:=fun hy=>by
 obtain ⟨h1,h2⟩:=g hy
 obtain ⟨h3,h4⟩:=h h1
 exact ⟨h3,fun k k0 k1 hb=>⟨(h4 k k0 k1 (h2 k k0 k1 hb).1).1,(h2 k k0 k1 hb).2.trans (h4 k k0 k1 (h2 k k0 k1 hb).1).2⟩⟩
theorem yG6 {S:Int} {m:dM} (h:yl m=true):yBh S m (yq m):=fun hf=>by
 rw [(ylJ m).2]at hf
 exact ⟨hf,fun k k0 k1 hb=>⟨by rw [yXo]at hb; exact hb,y1B h hf (by omega)⟩⟩
theorem yZZ {S n:Int} {s:List Int} {m:dM} (hn:n < 6):yBh S m (ygq n s m):=fun hf=>by
 unfold ygq at hf ⊢
 cases hm:m.2.2.1
 ·refine ⟨rfl,fun k k0 k1 hb=> ?_⟩
  rw [cond_false]at hb ⊢
  cases hc:yaC m n s
  ·unfold yG at hb ⊢
   rw [hc]at hb ⊢; exact ⟨hb,rfl⟩
  ·rw [yxH hc,show (k !=n)=true from bne_iff_ne.2 (by omega),Bool.and_true]at hb
   rw [yEu hc,show (n==k)=false from beq_eq_false_iff_ne.2 (by omega)]
   exact ⟨hb,rfl⟩
 ·rw [hm]at hf
  rw [cond_true,hm]at hf; cases hf
theorem yEC (n:Int) (s:List Int) (m:dM):(ygq n s m).2.2.1=m.2.2.1:=by
 unfold ygq
 cases hm:m.2.2.1
 ·show (yG m n s).1.2.2.1=false
  rw [(yyQ m n s).2]; exact hm
 ·exact hm
theorem y3w (n:Int) (s:List Int) (m:dM):(ygq n s m).2.1.length≤m.2.1.length+1:=by
 unfold ygq
 cases m.2.2.1
 ·show (yG m n s).1.2.1.length≤_
  unfold yG
  cases yaC m n s
  ·show m.2.1.length≤_; omega
  ·show (m.2.1++ [(n,s)]).length≤_; rw [List.length_append]; simp only [List.length_cons,List.length_nil]; omega
 ·show m.2.1.length≤_; omega
theorem yLu {V:Int→Int→Int} {a b:dA} (hg:b.2.1=a.2.1) (hl: ∀ i s,0≤i→i < a.2.1.1→0≤s→yH b.2.2.2.1 b.2.2.2.2.1 i s (dsk b i)=true→(i !=a.2.2.2.1||ltb s a.2.2.2.2.1)=true∧yBh a.2.1.2 (dsk a i) (dsk b i)) (h:View V a):View V b:=fun i s i0 i1 s0 s1 hh=>by
 rw [hg]at i1 s1
 unfold yR at hh
 rw [Bool.and_eq_true,Bool.not_eq_true'] at hh
 obtain ⟨h1,h2⟩:=hl i s i0 i1 s0 hh.1
 have hf:(dsk b i).2.2.1=false:=by
  have:=hh.1
  simp only [yH,Bool.and_eq_true,Bool.not_eq_true'] at this; exact this.1
 obtain ⟨h3,h4⟩:=h2 hf
 obtain ⟨h5,h6⟩:=h4 (s+6) (by omega) (by omega) hh.2
 rw [h6]
 exact h i s i0 i1 s0 s1 (by unfold yR yH; rw [h3,h1,h5]; rfl)
theorem y1S {V:Int→Int→Int} {a b:dA} (hc:yo b=yo a) (hl: ∀ i,0≤i→i < a.2.1.1→yBh a.2.1.2 (dsk a i) (dsk b i)) (h:View V a):View V b :=
 yLu (yaf hc) (fun i s i0 i1 s0 hh=>⟨by
  rw [ycM hc,yah hc]at hh
  simp only [yH,Bool.and_eq_true]at hh; exact hh.2,hl i i0 i1⟩) h
theorem yLF {k:Int} {V:Int→Int→Int} {a b:dA} (hc:yo b=yo a) (hk:Keep b) (hu:downA b=false) (hl: ∀ i,0≤i→i < a.2.1.1→yBh a.2.1.2 (dsk a i) (dsk b i)∧(dsk b i).2.1.length≤(dsk a i).2.1.length) (h:Ix k V a):Ix k V b:=by
 refine ⟨yLA hc h.xc,hk,hu,(yOy hc).trans h.xb,by rw [yBQ hc]; exact h.xg,by rw [yjy hc]; exact h.xs,by rw [yaf hc]; exact h.xe,y1S hc (fun i i0 i1=>(hl i i0 i1).1) h.xv,fun i i0 i1=> ?_⟩
 rw [yaf hc]at i1
 rw [ycM hc,yah hc]
 have:=h.xn i i0 i1
 have:=(hl i i0 i1).2
 omega
theorem yBl {g:Int→dM→dM} {a r:dA} (h:Adv g a r a.2.2.1.length) (hu:downA r=false) {i:Int} (i0:0≤i) (i1:i < (a.2.2.1.length:Int)):dsk r i=g i (dsk a i):=by
 obtain ⟨_,_,k,h1,h2,h3⟩:=h
 rw [h2 i i0,h3 hu,zjI i1]; rfl
theorem yC1 {a:dA} (hu:downA (yn a)=false) {i:Int} (i0:0≤i) (i1:i < (a.2.2.1.length:Int)):dsk (yn a) i=yq (dsk a i):=by
 cases hd:downA a
 ·exact yBl (y2v hd) hu i0 i1
 ·rw [yER hd]at hu; rw [hd]at hu; cases hu
theorem y01 {a:dA} (hu:downA (yn a)=false):downA a=false:=by
 cases hd:downA a
 ·rfl
 ·rw [yER hd]at hu; rw [hd]at hu; cases hu
theorem yNW {m:dM} (h:yl m=true):(yq m).2.1.length≤m.2.1.length:=by
 unfold yq
 rw [h]
 cases m.2.2.1
 ·exact Nat.zero_le _
 ·exact Nat.le_refl _
theorem y0R {k:Int} {V:Int→Int→Int} {a:dA} (h:Ix k V a) (hu:downA (yn a)=false):Ix k V (yn a) :=
 yLF (ycZ a) (yt8 h.xk) hu (fun i i0 i1=>by
  obtain ⟨d1,_,_⟩:=yqI h.xk i0 i1
  rw [yC1 hu i0 (by have:=h.xk.1.2; omega)]
  exact ⟨yG6 d1,yNW d1⟩) h
theorem y2X {a:dA} (hu:downA (markA a)=false):downA ((List.range a.2.2.1.length).foldl yP (yaa a))=false∧downA a=false:=by
 have h1:=y01 hu
 refine ⟨h1,?_⟩
 cases hd:downA a
 ·rfl
 ·rw [yya (one:=yP) (fun _ _ h=>yw4 h _ _ _) _ (yaa a) hd]at h1
  exact (hd.symm.trans h1)
theorem yPA {a:dA} (hu:downA (markA a)=false) {i:Int} (i0:0≤i) (i1:i < (a.2.2.1.length:Int)):dsk (markA a) i=yq (yS3 (yaa a) i (dsk a i)):=by
 obtain ⟨h1,h2⟩:=y2X hu
 have hl:((List.range a.2.2.1.length).foldl yP (yaa a)).2.2.1.length=a.2.2.1.length:=yjz (one:=yP) (fun _ _=>ynw _ _ _ _) _ (yaa a)
 unfold markA at hu ⊢
 rw [yC1 hu i0 (by omega)]
 exact congrArg yq (yBl (a:=yaa a) (y2p (a:=yaa a) h2) h1 i0 i1)
theorem yLE {n:Int} {s:List Int} {m:dM} (h:yl m=true):yl (ygq n s m)=true:=by
 unfold ygq
 cases m.2.2.1
 ·exact yRf _ _ h
 ·exact h
theorem yEy {n:Int} {s:List Int} {m:dM} (h:yl m=true):(yq (ygq n s m)).2.1.length≤m.2.1.length:=by
 cases hf:m.2.2.1
 ·rw [(yGU (yLE h) ((yEC n s m).trans hf)).1]; exact Nat.zero_le _
 ·have e:ygq n s m=m:=by unfold ygq; rw [hf]; rfl
  rw [e]; exact yNW h
theorem y0Z {q:Int} (h:0≤q):2≤yM q∧yM q < 6∧yM q=2+q % 4:=by
 unfold yM
 rw [zkm h,cond_false,Int.tmod_eq_emod_of_nonneg h]
 have:=Int.emod_nonneg q (show (4:Int)≠0 by omega)
 have:=Int.emod_lt_of_pos q (show (0:Int) < 4 by omega)
 rw [wr (by omega) (by omega)]; omega
theorem y0h {g:Int} (h:0≤g):0≤g.tmod 2∧g.tmod 2 < 2:=by
 rw [Int.tmod_eq_emod_of_nonneg h]; omega
theorem yVc {a b:dA} (h:yo a=yo b):a.2.2.2.2.2.2.1=b.2.2.2.2.2.2.1:=congrArg (fun x=>x.2.2.2.2.2.1) h
theorem yVK {k:Int} {V:Int→Int→Int} {a:dA} (h:Ix k V a) (hk:k+1≤60000) (hu:downA (markA a)=false):Ix (k+1) V (markA a):=by
 have c:=h.xc
 unfold coreOk at c
 have hgk:=h.xg
 have hsk:=h.xs
 have e:IntKind.i64.wrap (a.2.2.2.2.2.2.2.1+1)=a.2.2.2.2.2.2.2.1+1:=wr (by omega) (by omega)
 have hG:Ix (k+1) V (yaa a):=by
  obtain ⟨⟨c1,c2,c3,c4,c5,c6,c7,c8,c9,c10,c11⟩,g2,g3,g4,g5,g6,g7,g8,g9⟩:=h
  refine ⟨⟨c1,c2,c3,c4,c5,c6,c7,c8,c9,?_,?_⟩,g2,g3,g4,?_,?_,g7,g8,g9⟩
  ·show 0≤IntKind.i64.wrap (a.2.2.2.2.2.2.2.1+1); omega
  ·show IntKind.i64.wrap (a.2.2.2.2.2.2.2.1+1)≤_; omega
  ·show IntKind.i64.wrap (a.2.2.2.2.2.2.2.1+1)≤_; omega
  ·show a.2.2.2.2.2.1≤k+1; omega
 refine yLF (a:=yaa a) (ylL a) (yKz h.xk) hu (fun i i0 i1=> ?_) hG
 have i1':i < a.2.1.1:=i1
 obtain ⟨d1,_,_⟩:=yqI h.xk i0 i1'
 rw [yPA hu i0 (by have:=h.xk.1.2; omega)]
 have hn:(yaa a).2.2.2.2.2.2.2.1.tmod 2 < 6:=by
  show (IntKind.i64.wrap (a.2.2.2.2.2.2.2.1+1)).tmod 2 < 6
  have:=y0h (g:=IntKind.i64.wrap (a.2.2.2.2.2.2.2.1+1)) (by omega)
  omega
 exact ⟨yS8 (yZZ hn) (yG6 (yLE d1)),yEy d1⟩
theorem yXs {k:Int} {V:Int→Int→Int} {a:dA} (h:Ix k V a):Ix k V (yaq a):=by
 obtain ⟨⟨c1,c2,c3,c4,c5,c6,c7,c8,c9,c10,c11⟩,g2,g3,g4,g5,g6,g7,g8,g9⟩:=h
 refine ⟨⟨c1,c2,c3,c4,c5,c6,⟨?_,?_⟩,⟨Int.le_refl _,c8.2⟩,?_,c10,c11⟩,g2,g3,g4,g5,g6,g7,g8,g9⟩
 ·show 0≤a.2.2.2.2.2.1; omega
 ·show a.2.2.2.2.2.1≤60000; omega
 ·show a.2.2.2.2.2.1≤a.2.2.2.2.2.1+4; omega
theorem yGT {a:dA} (hu:downA (checkA a)=false):downA (yn a)=false∧checkA a=markA (yaq (yn a)):=by
 unfold checkA at hu ⊢
 cases hd:downA (yn a)
 ·exact ⟨rfl,rfl⟩
 ·rw [hd]at hu; exact absurd (hd.symm.trans hu) (by simp)
theorem yZQ {k:Int} {V:Int→Int→Int} {a:dA} (h:Ix k V a) (hk:k+1≤60000) (hu:downA (checkA a)=false):Ix (k+1) V (checkA a):=by
 obtain ⟨h1,h2⟩:=yGT hu
 rw [h2]at hu ⊢
 exact yVK (yXs (y0R h h1)) hk hu
theorem y3i {a:dA} {r:dN} (hu:downA (yF a r)=false):downA ((List.range a.2.2.1.length).foldl (ybi r) a)=false∧downA a=false:=by
 have h1:=y01 hu
 refine ⟨h1,?_⟩
 cases hd:downA a
 ·rfl
 ·rw [yya (one:=ybi r) (fun _ _ h=>yw4 h _ _ _) _ a hd]at h1
  exact (hd.symm.trans h1)
theorem yLJ {a:dA} {r:dN} (hu:downA (yF a r)=false) {i:Int} (i0:0≤i) (i1:i < (a.2.2.1.length:Int)):dsk (yF a r) i=yq (ygq (yM r.1) (ypW r) (dsk a i)):=by
 obtain ⟨h1,h2⟩:=y3i hu
 have hl:((List.range a.2.2.1.length).foldl (ybi r) a).2.2.1.length=a.2.2.1.length:=yjz (ymv r) _ a
 unfold yF at hu ⊢
 rw [yC1 hu i0 (by omega)]
 exact congrArg yq (yBl (y2Y r h2) h1 i0 i1)
theorem y1G {k:Int} {V:Int→Int→Int} {a:dA} {r:dN} (h:Ix k V a) (hr:0≤r.1) (hu:downA (yF a r)=false):Ix k V (yF a r)∧ ∀ i,0≤i→i < a.2.1.1→(dsk (yF a r) i).2.2.1=false→(dsk (yF a r) i).2.1= []:=by
 refine ⟨yLF (ybj a r) (yZW r h.xk) hu (fun i i0 i1=> ?_) h,fun i i0 i1 hf=> ?_⟩
 ·obtain ⟨d1,_,_⟩:=yqI h.xk i0 i1
  rw [yLJ hu i0 (by have:=h.xk.1.2; omega)]
  exact ⟨yS8 (yZZ (y0Z hr).2.1) (yG6 (yLE d1)),yEy d1⟩
 ·obtain ⟨d1,_,_⟩:=yqI h.xk i0 i1
  rw [yLJ hu i0 (by have:=h.xk.1.2; omega)] at hf ⊢
  rw [(ylJ _).2]at hf
  exact (yGU (yLE d1) hf).1
theorem yZS {k:Int} {V:Int→Int→Int} {a:dA} (h:Ix k V a) (h1:a.2.2.2.2.2.1 < 60000) (h2:a.2.2.2.2.2.1 - a.2.2.2.2.2.2.1≤3):Ix (k+1) V (yO a):=by
 obtain ⟨⟨c1,c2,c3,c4,c5,c6,c7,c8,c9,c10,c11⟩,g2,g3,g4,g5,g6,g7,g8,g9⟩:=h
 have e:IntKind.i64.wrap (a.2.2.2.2.2.1+1)=a.2.2.2.2.2.1+1:=wr (by omega) (by omega)
 refine ⟨⟨c1,c2,c3,c4,c5,c6,c7,⟨?_,?_⟩,?_,c10,c11⟩,g2,g3,g4,?_,?_,g7,g8,g9⟩
 ·show a.2.2.2.2.2.2.1≤IntKind.i64.wrap (a.2.2.2.2.2.1+1); omega
 ·show IntKind.i64.wrap (a.2.2.2.2.2.1+1)≤60000; omega
 ·show IntKind.i64.wrap (a.2.2.2.2.2.1+1)≤a.2.2.2.2.2.2.1+4; omega
 ·show a.2.2.2.2.2.2.2.1≤k+1; omega
 ·show IntKind.i64.wrap (a.2.2.2.2.2.1+1)≤k+1; omega
def yza (V:Int→Int→Int) (g:dG) (s:Int) (d:List Int):Int→Int→Int:=fun t i=>bif t==s then ycc (ye g s) g.1 (xorOf d) d i else V t i
theorem y07 {N p x:Int} {d:List Int} (h:3≤N∧N≤5) (hp:0≤p∧p≤N - 1) (hd:(d.length:Int)=N - 1):((List.range N.toNat).map (fun (i:Nat)=>ycc p N x d i)).Perm (x::d):=by
 have:N=3∨N=4∨N=5:=by omega
 rcases this with rfl | rfl | rfl
 ·match d,hd with
  | [a,b],_ =>
   have:p=0∨p=1∨p=2:=by omega
   rcases this with rfl | rfl | rfl<;>simp [ycc,nth,List.range_succ,List.perm_iff_count,List.count_cons]<;>(intro z; omega)
  | [],hd=>simp at hd
  | [_],hd=>simp at hd
  | _::_::_::_,hd=>simp only [List.length_cons]at hd; omega
 ·match d,hd with
  | [a,b,c],_ =>
   have:p=0∨p=1∨p=2∨p=3:=by omega
   rcases this with rfl | rfl | rfl | rfl<;>simp [ycc,nth,List.range_succ,List.perm_iff_count,List.count_cons]<;>(intro z; omega)
  | [],hd=>simp at hd
  | [_],hd=>simp at hd
  | [_,_],hd=>simp at hd
  | _::_::_::_::_,hd=>simp only [List.length_cons]at hd; omega
 ·match d,hd with
  | [a,b,c,e],_ =>
   have:p=0∨p=1∨p=2∨p=3∨p=4:=by omega
   rcases this with rfl | rfl | rfl | rfl | rfl<;>simp [ycc,nth,List.range_succ,List.perm_iff_count,List.count_cons]<;>(intro z; omega)
  | [],hd=>simp at hd
  | [_],hd=>simp at hd
  | [_,_],hd=>simp at hd
  | [_,_,_],hd=>simp at hd
  | _::_::_::_::_::_,hd=>simp only [List.length_cons]at hd; omega
theorem yjx (x:Int) (l:List Int):yd4 (x::l)=bv x ^^^ yd4 l:=by
 have fo: ∀ (l:List Int) (v:BitVec 64),l.foldl (fun v x=>v ^^^ bv x) v=v ^^^ yd4 l:=by
  intro l
  induction l with
  | nil=>intro v; show v=v ^^^ 0#64; rw [BitVec.xor_zero]
  | cons y t ih =>
   intro v
   unfold yd4
   rw [List.foldl_cons,List.foldl_cons,ih,ih (0#64 ^^^ bv y),BitVec.zero_xor,BitVec.xor_assoc]
 show l.foldl _ (0#64 ^^^ bv x)=_
 rw [fo,BitVec.zero_xor]
theorem yXL {l m:List Int} (h:l.Perm m):yd4 l=yd4 m:=by
 induction h with
 | nil=>rfl
 | cons x _ ih=>rw [yjx,yjx,ih]
 | swap x y l=>rw [yjx,yjx,yjx,yjx,← BitVec.xor_assoc,BitVec.xor_comm (bv y),BitVec.xor_assoc]
 | trans _ _ h1 h2=>exact h1.trans h2
theorem y1Y (d:List Int):yd4 (xorOf d::d)=0#64:=by rw [yjx,ymB,ys8,BitVec.xor_self]
theorem y06 {N p:Int} {d:List Int} (h:3≤N∧N≤5) (hp:0≤p∧p≤N - 1) (hd:(d.length:Int)=N - 1):xorOf ((List.range N.toNat).map (fun (i:Nat)=>ycc p N (xorOf d) d i))=0:=by
 rw [ymB,yXL (y07 h hp hd),y1Y]; rfl
theorem yJ0 {N p i:Int} {d:List Int} (hd:d.all isW=true):isW (ycc p N (xorOf d) d i)=true:=by
 unfold ycc
 cases (i==p)
 ·exact yLH hd
 ·exact yXK hd
theorem y2M {V:Int→Int→Int} {g:dG} {s:Int} {d:List Int} (h:EvV g V) (hs:yI g s=true) (hl:(d.length:Int)=g.1 - 1) (hd:d.all isW=true):EvV g (yza V g s d):=by
 have h1:=yN.1 hs
 have hg:=yi.1 h1.1
 refine ⟨fun t t0 t1=> ?_,fun t i t0 t1 i0 i1=> ?_⟩
 ·unfold vlist yza
  cases ht:(t==s)
  ·exact h.ev t t0 t1
  ·exact y06 hg.1 (ygz hs) hl
 ·unfold yza
  cases ht:(t==s)
  ·exact h.ew t i t0 t1 i0 i1
  ·exact yJ0 hd
theorem yG3 {L B p N s i:Int} {d:List Int} {S:Int} {m:dM} (k:Int) (hk:k≠dataAt s):(yj5 L B p N s d i m).2.2.1=m.2.2.1∧ypy (yj5 L B p N s d i m) k=ypy m k∧ypB (yj5 L B p N s d i m) k=ypB m k:=by
 unfold yj5
 cases hl:yH L B i s m
 ·exact ⟨rfl,rfl,rfl⟩
 ·refine ⟨(yyQ _ _ _).2,?_⟩
  rw [cond_true]
  cases hc:yaC m (dataAt s) [ycc p N (xorOf d) d i]
  ·unfold yG; rw [hc]; exact ⟨rfl,rfl⟩
  ·rw [yxH hc,yEu hc,show (k !=dataAt s)=true from bne_iff_ne.2 hk,show (dataAt s==k)=false from beq_eq_false_iff_ne.2 (fun e=>hk e.symm),Bool.and_true]
   exact ⟨rfl,rfl⟩
theorem y0w (L B p N s:Int) (d:List Int) (i:Int) (m:dM):(yj5 L B p N s d i m).2.1.length≤m.2.1.length+1∧(m.2.2.1=true→yj5 L B p N s d i m=m):=by
 unfold yj5
 cases hl:yH L B i s m
 ·exact ⟨Nat.le_succ _,fun _=>rfl⟩
 ·simp only [yH,Bool.and_eq_true,Bool.not_eq_true'] at hl
  refine ⟨?_,fun h=>by rw [hl.1]at h; cases h⟩
  rw [cond_true]
  unfold yG
  cases yaC m (dataAt s) [ycc p N (xorOf d) d i]
  ·exact Nat.le_succ _
  ·show (m.2.1++ [(dataAt s,[ycc p N (xorOf d) d i])]).length≤_; rw [List.length_append]; simp only [List.length_cons,List.length_nil]; omega
theorem y2R {k:Int} {V:Int→Int→Int} {a:dA} {s:Int} {d:List Int} (h:Ix k V a) (hs:yI a.2.1 s=true) (hl:(d.length:Int)=a.2.1.1 - 1) (hd:d.all isW=true)
  (hz: ∀ i,0≤i→i < a.2.1.1→(dsk a i).2.2.1=false→(dsk a i).2.1= []) (hu:downA (yA a s d)=false):Ix k (yza V a.2.1 s d) (yA a s d):=by
 have hc:=yxT a s d
 have h1:=yN.1 hs
 have hg:=yi.1 h1.1
 have hlen:=h.xk.1.2
 have hdsk: ∀ i,0≤i→i < a.2.1.1→dsk (yA a s d) i=yj5 a.2.2.2.1 a.2.2.2.2.1 (ye a.2.1 s) a.2.1.1 s d i (dsk a i):=fun i i0 i1=>yBl (yZm s d h.xu) hu i0 (by omega)
 refine ⟨yLA hc h.xc,yXt s d h.xk,hu,(yOy hc).trans h.xb,by rw [yBQ hc]; exact h.xg,by rw [yjy hc]; exact h.xs,by rw [yaf hc]; exact y2M h.xe hs hl hd,fun i t i0 i1 t0 t1 hh=> ?_,fun i i0 i1=> ?_⟩
 ·rw [yaf hc]at i1 t1
  obtain ⟨d1,d2,d3⟩:=yqI h.xk i0 i1
  unfold yR at hh
  rw [ycM hc,yah hc,hdsk i i0 i1,Bool.and_eq_true,Bool.not_eq_true'] at hh
  rw [hdsk i i0 i1]
  have hda:=yAF (s:=s) h1.2.1 (by omega)
  unfold yza
  by_cases ht:t=s
  ·subst ht
   rw [beq_self_eq_true,cond_true]
   have hlv:yH a.2.2.2.1 a.2.2.2.2.1 i t (dsk a i)=true:=by
    have:=hh.1
    unfold yH at this ⊢
    rw [(yG3 (S:=0) (-1) (by omega)).1]at this
    exact this
   have hf:(dsk a i).2.2.1=false:=by
    simp only [yH,Bool.and_eq_true,Bool.not_eq_true'] at hlv; exact hlv.1
   unfold yj5
   rw [hlv,cond_true,yEu (yEU d1 hf (by rw [hda]; exact zjP.2 (by omega)) (ylM.2 ⟨by simp,fun x hx=> ?_⟩) (by rw [hz i i0 i1 hf]; decide)),hda,beq_self_eq_true]; rfl
   rw [List.mem_singleton.1 hx]
   exact yqK.1 (yJ0 hd)
  ·rw [show (t==s)=false from beq_eq_false_iff_ne.2 ht]
   obtain ⟨e1,e2,e3⟩:=yG3 (L:=a.2.2.2.1) (B:=a.2.2.2.2.1) (p:=ye a.2.1 s) (N:=a.2.1.1) (s:=s) (i:=i) (d:=d) (S:=0) (m:=dsk a i) (t+6) (by omega)
   rw [e3]
   refine h.xv i t i0 i1 t0 t1 ?_
   unfold yR
   rw [e2]at hh
   have h2:=hh.1
   unfold yH at h2 ⊢
   rw [e1]at h2
   rw [h2,hh.2]; rfl
 ·rw [yaf hc]at i1
  rw [ycM hc,yah hc,hdsk i i0 i1]
  obtain ⟨g1,g2⟩:=y0w a.2.2.2.1 a.2.2.2.2.1 (ye a.2.1 s) a.2.1.1 s d i (dsk a i)
  have c:=h.xc
  unfold coreOk at c
  cases hf:(dsk a i).2.2.1
  ·rw [hz i i0 i1 hf]at g1
   simp only [List.length_nil]at g1
   cases (i==a.2.2.2.1)
   ·simp only [cond_false]; omega
   ·simp only [cond_true]; omega
  ·rw [g2 hf]
   exact h.xn i i0 i1
theorem y1F {k:Int} {V:Int→Int→Int} {a:dA} (h:Ix k V a) (hk:k+1≤60000) (hu:downA (yk a)=false):Ix (k+1) V (yk a)∧(yk a).2.2.2.2.2.1=a.2.2.2.2.2.1∧(yk a).2.2.2.2.2.1 - (yk a).2.2.2.2.2.2.1≤3:=by
 have c:=h.xc
 unfold coreOk at c
 have e0:yk a=bif leb 4 (a.2.2.2.2.2.1 - a.2.2.2.2.2.2.1) then checkA a else a:=by
  unfold yk
  rw [wr (by omega) (by omega)]
 rw [e0]at hu ⊢
 cases h4:leb 4 (a.2.2.2.2.2.1 - a.2.2.2.2.2.2.1)
 ·refine ⟨yey h (by omega),rfl,?_⟩
  have: ¬ (4≤a.2.2.2.2.2.1 - a.2.2.2.2.2.2.1):=fun g=>by rw [zk0 g]at h4; cases h4
  show a.2.2.2.2.2.1 - a.2.2.2.2.2.2.1≤3; omega
 ·rw [h4]at hu
  simp only [cond_true]at hu ⊢
  have hi:=yZQ h hk hu
  obtain ⟨_,h2⟩:=yGT hu
  have e:=ylL (yaq (yn a))
  have e1:(checkA a).2.2.2.2.2.1=a.2.2.2.2.2.1:=by rw [h2]; exact (yjy e).trans (show (yaa (yaq (yn a))).2.2.2.2.2.1=_ from yjy (a:=yn a) (b:=a) (ycZ a))
  have e2:(checkA a).2.2.2.2.2.2.1=a.2.2.2.2.2.1:=by rw [h2]; exact (yVc e).trans (show (yaa (yaq (yn a))).2.2.2.2.2.2.1=_ from yjy (a:=yn a) (b:=a) (ycZ a))
  exact ⟨hi,e1,by omega⟩
theorem yPz {k:Int} {V:Int→Int→Int} {a:dA} {s:Int} {d:List Int} (h:Ix k V a) (hs:yI a.2.1 s=true) (hl:(d.length:Int)=a.2.1.1 - 1) (hd:d.all isW=true) (hq:a.2.2.2.2.2.1 < 60000) (hk:k+1≤60000)
  (hu:downA (yu a s d).2=false):Ix (k+2) (yza V a.2.1 s d) (yu a s d).2∧(yu a s d).1=0:=by
 unfold yu at hu ⊢
 cases hc:downA (yk a)
 ·obtain ⟨h1,h2,h3⟩:=y1F h hk hc
  have eg:(yk a).2.1=a.2.1:=yLz a
  rw [hc]at hu
  simp only [cond_false]at hu ⊢
  have c:=h.xc
  unfold coreOk at c
  cases hr:downA (yF (yk a) ((yk a).2.2.2.2.2.1,s,d))
  ·rw [hr]at hu
   simp only [cond_false]at hu ⊢
   obtain ⟨h4,h5⟩:=y1G (r:=((yk a).2.2.2.2.2.1,s,d)) h1 (by show 0≤(yk a).2.2.2.2.2.1; omega) hr
   have e1:=yjy (ybj (yk a) ((yk a).2.2.2.2.2.1,s,d))
   have e2:=yVc (ybj (yk a) ((yk a).2.2.2.2.2.1,s,d))
   have e3:=(yaf (ybj (yk a) ((yk a).2.2.2.2.2.1,s,d))).trans eg
   rw [eg]at h5
   generalize yF (yk a) ((yk a).2.2.2.2.2.1,s,d)=R at h4 h5 e1 e2 e3 hu ⊢
   have h6:=yZS h4 (by omega) (by omega)
   have e4:(yO R).2.1=a.2.1:=e3
   have h7:=y2R (s:=s) (d:=d) h6 (by rw [e4]; exact hs) (by rw [e4]; exact hl) hd (fun i i0 i1 hf=>h5 i i0 (by rw [e4]at i1; exact i1) hf) hu
   rw [hu,e4]at *
   exact ⟨yey h7 (by omega),rfl⟩
  ·rw [hr]at hu
   exact absurd (hr.symm.trans hu) (by simp)
 ·rw [hc]at hu
  exact absurd (hc.symm.trans hu) (by simp)
theorem yNX {k:Int} {V:Int→Int→Int} {a:dA} {l:List dW} (h:Ix k V a) (hd:yaI a.2.1 l=true):Ix k V (yCJ a l):=by
 obtain ⟨⟨c1,c2,c3,c4,c5,c6,c7,c8,c9,c10,c11⟩,g2,g3,g4,g5,g6,g7,g8,g9⟩:=h
 exact ⟨⟨c1,c2,hd,c4,c5,c6,c7,c8,c9,c10,c11⟩,g2,g3,g4,g5,g6,g7,g8,g9⟩
theorem yPy {k:Int} {V:Int→Int→Int} {a:dA} (s:Int) (h:Ix k V a) (hk:k+1≤60000) (hu:downA (flushE a s).2=false): ∃ V',Ix (k+2) V' (flushE a s).2:=by
 unfold flushE at hu ⊢
 cases h0:ltb (yW a.2.2.2.2.2.2.2.2.1 s) 0
 ·rw [h0]at hu
  generalize (nth a.2.2.2.2.2.2.2.2.1 (yW a.2.2.2.2.2.2.2.2.1 s) (0,[])).2=D at hu ⊢
  cases hc:(yy a s D !=0)
  ·rw [hc]at hu
   obtain ⟨_,z1,z2,_,z4,_,z6,_⟩:=yt0 (bne_eq_false_iff_eq.1 hc)
   simp only [cond_false]at hu ⊢
   cases hw:((yu a s D).1==0)
   ·rw [hw]at hu
    obtain ⟨h1,h2⟩:=yPz h z4 z1 z2 z6 hk hu
    exact ⟨_,h1⟩
   ·rw [hw]at hu
    obtain ⟨h1,h2⟩:=yPz h z4 z1 z2 z6 hk hu
    exact ⟨_,yNX h1 (by rw [yuf]; exact yXk _ h.xc.2.2.1)⟩
  ·exact ⟨V,yey h (by omega)⟩
 ·exact ⟨V,yey h (by omega)⟩
theorem y0v {a:dA} (s:Int) (h:downA a=true):(flushE a s).2=a:=by
 unfold flushE
 cases ltb (yW a.2.2.2.2.2.2.2.2.1 s) 0
 ·cases hc:(yy a s (nth a.2.2.2.2.2.2.2.2.1 (yW a.2.2.2.2.2.2.2.2.1 s) (0,[])).2 !=0)
  ·have:=(yt0 (bne_eq_false_iff_eq.1 hc)).2.2.2.1
   rw [h]at this; cases this
  ·rfl
 ·rfl
theorem yXe: ∀ (n i:Nat) {a:dA},downA a=true→(goE ywT (fun b=>((0:Int),b)) n i a).2=a
 | 0,_,_,_=>rfl
 | n+1,i,a,h=>by
  unfold goE ywT
  have e:=y0v (nth a.2.2.2.2.2.2.2.2.1 0 (0,[])).1 h
  cases ((flushE a (nth a.2.2.2.2.2.2.2.2.1 0 (0,[])).1).1 !=0)
  ·simp only [cond_false,e]
   exact yXe n (i+1) h
  ·exact e
theorem yZR {k:Int}: ∀ (n i:Nat) (j:Int) (V:Int→Int→Int) (a:dA),Ix j V a→j+2 * n≤k→k≤60000→downA (goE ywT (fun b=>((0:Int),b)) n i a).2=false→ ∃ V',Ix k V' (goE ywT (fun b=>((0:Int),b)) n i a).2
 | 0,_,j,V,a,h,h1,_,_=>⟨V,yey h (by omega)⟩
 | n+1,i,j,V,a,h,h1,h2,hu=>by
  unfold goE ywT at hu ⊢
  cases hc:((flushE a (nth a.2.2.2.2.2.2.2.2.1 0 (0,[])).1).1 !=0)
  ·rw [hc]at hu
   simp only [cond_false]at hu ⊢
   have hu:downA (goE ywT (fun b=>((0:Int),b)) n (i+1) (flushE a (nth a.2.2.2.2.2.2.2.2.1 0 (0,[])).1).2).2=false:=hu
   have hf:downA (flushE a (nth a.2.2.2.2.2.2.2.2.1 0 (0,[])).1).2=false:=by
    cases hd:downA (flushE a (nth a.2.2.2.2.2.2.2.2.1 0 (0,[])).1).2
    ·rfl
    ·rw [yXe n (i+1) hd]at hu; exact hd.symm.trans hu
   obtain ⟨V1,h3⟩:=yPy (nth a.2.2.2.2.2.2.2.2.1 0 (0,[])).1 h (by omega) hf
   exact yZR n (i+1) (j+2) V1 _ h3 (by omega) h2 hu
  ·rw [hc]at hu
   simp only [cond_true]at hu ⊢
   obtain ⟨V1,h3⟩:=yPy (nth a.2.2.2.2.2.2.2.2.1 0 (0,[])).1 h (by omega) hu
   exact ⟨V1,yey h3 (by omega)⟩
theorem y3d {k:Int} {V:Int→Int→Int} {a:dA} (h:Ix k V a) (hk:k+16≤60000) (hu:downA (allE a).2=false): ∃ V',Ix (k+16) V' (allE a).2:=by
 have:=ypC h.xc.2.2.1 h.xc.1
 exact yZR _ 0 k V a h (by omega) hk hu
theorem y3f {k:Int} {V:Int→Int→Int} {a:dA} {b n:Int} (h:Ix k V a) (hb:blkOk a.2.1 b=true) (hn:isW n=true):Ix k V (setOne a b n).2:=by
 unfold setOne
 cases hs:(ybk a (ybO a.2.1 b)).2
 ·exact h
 ·have hstr:=yE7 hb
  have hl:=yy9 (yCn h) hstr hs
  refine yNX h (yXl h.xc.2.2.1 ⟨(yN.1 hstr).2,by rw [List.length_set]; exact hl,yW9 ?_ hn⟩)
  unfold ybk
  cases hk:leb 0 (yW a.2.2.2.2.2.2.2.2.1 (ybO a.2.1 b))
  ·rw [h.xb]; exact yXj _ _
  ·have:=(yte (d:=((0:Int),([]:List Int))) hk).1
   exact yub (P:=fun e:dW=>e.2.all isW=true) this (fun e he=>((yxU.1 h.xc.2.2.1).1 e he).2.2)
theorem yZn {a:dA} {m i:Int} {x:dM} (l:Int) (t:Int×Int×Int×Int×List dW×Int×Bool×Bool) (hm:inb m a.2.2.1.length=true) (hi:0≤i):dsk (a.1,a.2.1,a.2.2.1.set m.toNat x,l,t) i=bif m==i then x else dsk a i:=yCy hm hi
theorem y3R (S:Int) (m:dM):yBh S m (yle m):=fun h=>by cases h
theorem y1A {a:dA} {m:Int} (hl:a.2.2.2.1= -1∨a.2.2.2.1=m) (hm:inb m a.2.2.1.length=true) (i s:Int) (i0:0≤i) (s0:0≤s) (hh:yH m 0 i s (dsk (yex a m) i)=true):(i !=a.2.2.2.1||ltb s a.2.2.2.2.1)=true∧i≠m∧dsk (yex a m) i=dsk a i:=by
 have e:dsk (yex a m) i=bif m==i then yle (dsk a m) else dsk a i:=yZn m _ hm i0
 by_cases hi:m=i
 ·subst hi
  rw [e,beq_self_eq_true]at hh
  simp only [yH,Bool.and_eq_true,Bool.not_eq_true',cond_true]at hh
  have:=hh.1
  cases this
 ·rw [show (m==i)=false from beq_eq_false_iff_ne.2 hi]at e
  refine ⟨?_,fun e=>hi e.symm,e⟩
  rw [show (i !=a.2.2.2.1)=true from bne_iff_ne.2 (by omega)]; rfl
theorem y0z {k m:Int} {V:Int→Int→Int} {a:dA} (h:Ix k V a) (hl:a.2.2.2.1= -1∨a.2.2.2.1=m) (hm:inb m a.2.2.1.length=true):Ix k V (yex a m):=by
 have hmi:=zjP.1 hm
 have hv:View V (yex a m):=yLu (a:=a) (b:=yex a m) rfl (fun i s i0 i1 s0 hh=>by
  obtain ⟨h1,h2,h3⟩:=y1A hl hm i s i0 s0 hh
  rw [h3]
  exact ⟨h1,yED _ _⟩) h.xv
 have hn: ∀ i,0≤i→i < a.2.1.1→((dsk (yex a m) i).2.1.length:Int)≤1+(bif i==m then 0 else 0):=fun i i0 i1=>by
  have e:dsk (yex a m) i=bif m==i then yle (dsk a m) else dsk a i:=yZn m _ hm i0
  rw [e]
  by_cases hi:m=i
  ·rw [show (m==i)=true from beq_iff_eq.2 hi]
   show (([]:List dW).length:Int)≤_
   rw [List.length_nil]
   cases (i==m)<;>decide
  ·rw [show (m==i)=false from beq_eq_false_iff_ne.2 hi,cond_false]
   have:=h.xn i i0 i1
   rw [show (i==a.2.2.2.1)=false from beq_eq_false_iff_ne.2 (by omega)] at this
   simp only [cond_false]at this
   cases (i==m)<;>simp only [cond_true,cond_false]<;>omega
 obtain ⟨⟨c1,c2,c3,c4,c5,c6,c7,c8,c9,c10,c11⟩,⟨⟨g1,g2⟩,g3⟩,f,b,t,t2,t3,_,_⟩:=h
 refine ⟨⟨c1,c2,c3,⟨?_,?_⟩,⟨Int.le_refl _,by show (0:Int)≤a.2.1.2; omega⟩,fun e=>rfl,c7,c8,c9,c10,c11⟩,⟨⟨?_,?_⟩,g3⟩,f,b,t,t2,t3,hv,hn⟩
 ·show -1≤m; omega
 ·show m≤a.2.1.1 - 1; omega
 ·show yG9 m a.2.2.2.2.2.2.2.2.2.2.2 a.2.1.2 (a.2.2.1.set m.toNat (yle (nth a.2.2.1 m noMem)))
  refine yyr (fun i hi=> ?_) (fun hi=> ?_)
  ·obtain ⟨e1,e2,e3⟩:=g1 i hi
   refine ⟨e1,e2,fun e=> ?_⟩
   rcases e3 e with e | e
   ·exact .inl (by omega)
   ·exact .inr e
  ·have:=g1 m.toNat hi
   rw [Int.toNat_of_nonneg hmi.1]at this
   exact ⟨y0Q this.1,this.2.1,fun _=> .inl (Int.toNat_of_nonneg hmi.1)⟩
 ·show ((a.2.2.1.set m.toNat (yle (nth a.2.2.1 m noMem))).length:Int)=a.2.1.1
  rw [List.length_set]; exact g2
theorem y2N {k m:Int} {V:Int→Int→Int} {a:dA} (h:Ix k V a) (hl:a.2.2.2.1= -1∨a.2.2.2.1=m) (hk:k+1≤60000):failOne a m=markA (yex a m):=by
 have:=h.xg
 unfold failOne
 rw [h.xu,h.xb,zjI (show a.2.2.2.2.2.2.2.1 < 60000 by omega)]
 rcases hl with e | e
 ·rw [show (a.2.2.2.1== -1)=true from beq_iff_eq.2 e]; rfl
 ·rw [show (a.2.2.2.1==m)=true from beq_iff_eq.2 e,Bool.or_true]; rfl
theorem y2T {k m:Int} {V:Int→Int→Int} {a:dA} (h:Ix k V a) (hl:a.2.2.2.1= -1∨a.2.2.2.1=m) (hm:inb m a.2.2.1.length=true) (hk:k+1≤60000) (hu:downA (failOne a m)=false):Ix (k+1) V (failOne a m):=by
 rw [y2N h hl hk]at hu ⊢
 exact yVK (y0z h hl hm) hk hu
theorem yyq {S:Int} (h:1≤S∧S≤8):yb7 (6+S)=(List.replicate (6+S).toNat [],[],false,[]):=by
 unfold yb7
 rw [zk0 (show 1≤6+S by omega),zk0 (show 6+S≤20 by omega)]; rfl
theorem y0A {k:Int} {V:Int→Int→Int} {a:dA} (h:Ix k V a) (hm:inb a.2.2.2.1 a.2.2.1.length=true):Ix k V (spareNew a):=by
 have hg:=yi.1 h.xc.1
 have e: ∀ i,0≤i→dsk (spareNew a) i=bif a.2.2.2.1==i then yb7 (6+a.2.1.2) else dsk a i:=fun i i0=>yZn _ _ hm i0
 have hv:View V (spareNew a):=yLu (a:=a) (b:=spareNew a) rfl (fun i s i0 i1 s0 hh=>by
  have hh:yH a.2.2.2.1 0 i s (dsk (spareNew a) i)=true:=hh
  rw [e i i0]at hh ⊢
  simp only [yH,Bool.and_eq_true,Bool.or_eq_true,bne_iff_ne,ne_eq,zjT]at hh
  have hne:i≠a.2.2.2.1:=hh.2.resolve_right (by omega)
  rw [show (a.2.2.2.1==i)=false from beq_eq_false_iff_ne.2 (fun e=>hne e.symm),show (i !=a.2.2.2.1)=true from bne_iff_ne.2 hne]
  exact ⟨rfl,yED _ _⟩) h.xv
 have hn: ∀ i,0≤i→i < a.2.1.1→((dsk (spareNew a) i).2.1.length:Int)≤1+(bif i==a.2.2.2.1 then 0 else 0):=fun i i0 i1=>by
  rw [e i i0]
  by_cases hi:a.2.2.2.1=i
  ·rw [show (a.2.2.2.1==i)=true from beq_iff_eq.2 hi,cond_true,yyq hg.2]
   show (([]:List dW).length:Int)≤_
   rw [List.length_nil]
   cases (i==a.2.2.2.1)<;>decide
  ·rw [show (a.2.2.2.1==i)=false from beq_eq_false_iff_ne.2 hi,cond_false]
   have:=h.xn i i0 i1
   rw [show (i==a.2.2.2.1)=false from beq_eq_false_iff_ne.2 (fun e=>hi e.symm)] at this ⊢
   exact this
 have hmi:=zjP.1 hm
 obtain ⟨⟨c1,c2,c3,c4,c5,c6,c7,c8,c9,c10,c11⟩,⟨⟨g1,g2⟩,g3⟩,f,b,t,t2,t3,_,_⟩:=h
 refine ⟨⟨c1,c2,c3,c4,⟨Int.le_refl _,by show (0:Int)≤a.2.1.2; omega⟩,fun e=>rfl,c7,c8,c9,c10,c11⟩,⟨⟨yyr g1 (fun hi=>⟨yKB (by omega) (by omega),?_,fun e=> ?_⟩),?_⟩,g3⟩,f,b,t,t2,t3,hv,hn⟩
 ·rw [yyq hg.2]
  show ((List.replicate (6+a.2.1.2).toNat ([]:List Int)).length:Int)=6+a.2.1.2
  rw [List.length_replicate]; omega
 ·rw [yyq hg.2]at e
  cases e
 ·show ((a.2.2.1.set a.2.2.2.1.toNat (yb7 (6+a.2.1.2))).length:Int)=a.2.1.1
  rw [List.length_set]; exact g2
theorem y2m {k:Int} {V:Int→Int→Int} {a:dA} (h:Ix k V a) (hm:inb a.2.2.2.1 a.2.2.1.length=true) (hk:k+1≤60000) (hu:downA (markA (spareNew a))=false):Ix (k+1) V (markA (spareNew a)):=yVK (y0A h hm) hk hu
theorem y1n (S:Int) (m:dM) (n:Int):yBh S m (spoil m n):=by
 unfold spoil
 cases (yl m&&(inb n m.1.length&& !(m.2.2.2.any (· ==n))))
 ·exact yED _ _
 ·refine fun h=>⟨h,fun k k0 k1 hb=>⟨?_,rfl⟩⟩
  have hb:(yGq m.2.2.2 n).any (· ==k)=false:=hb
  show m.2.2.2.any (· ==k)=false
  rw [List.any_eq_false]at hb ⊢
  intro x hx hxk
  have hxk':=beq_iff_eq.1 hxk
  refine hb x ?_ hxk
  unfold yGq
  rw [List.mem_append,List.mem_cons,List.mem_filter,List.mem_filter]
  rcases Int.lt_trichotomy x n with h1 | h1 | h1
  ·exact .inl ⟨hx,zjI h1⟩
  ·exact .inr (.inl h1)
  ·exact .inr (.inr ⟨hx,zjI h1⟩)
theorem y0K (m:dM) (n:Int):(spoil m n).2.1=m.2.1:=by
 unfold spoil
 cases (yl m&&(inb n m.1.length&& !(m.2.2.2.any (· ==n))))<;>rfl
theorem y2n {k m n:Int} {V:Int→Int→Int} {a:dA} (h:Ix k V a) (hm:inb m a.2.2.1.length=true):Ix k V (setMem a m (spoil (nth a.2.2.1 m noMem) n)) :=
 yLF (a:=a) (b:=setMem a m (spoil (nth a.2.2.1 m noMem) n)) rfl (yxq h.xk hm (fun g=>⟨y0f n g.1,by rw [(yEP _ _).1]; exact g.2.1,by rw [(yEP _ _).2]; exact g.2.2⟩)) h.xu (fun i i0 i1=>by
  rw [yVd hm i0]
  by_cases hi:m=i
  ·subst hi
   rw [beq_self_eq_true,cond_true]
   exact ⟨y1n _ _ _,by rw [y0K]; exact Nat.le_refl _⟩
  ·rw [show (m==i)=false from beq_eq_false_iff_ne.2 hi]
   exact ⟨yED _ _,Nat.le_refl _⟩) h
theorem y2U {k:Int} {V:Int→Int→Int} {a:dA} (h:Ix k V a) (hl:inb a.2.2.2.1 a.2.2.1.length=true) (hf:(nth a.2.2.1 a.2.2.2.1 noMem).2.2.1=false) (hb:a.2.2.2.2.1 < a.2.1.2) (hu:downA (stepOne a).2=false):Ix k V (stepOne a).2:=by
 have hmi:=zjP.1 hl
 have hlen:=h.xk.1.2
 have hg:=yi.1 h.xc.1
 have c:=h.xc
 unfold coreOk at c
 have hb0:0≤a.2.2.2.2.1:=by omega
 have hda:=yAF hb0 (by omega)
 have e:=ypX a a.2.2.2.1 (dataAt a.2.2.2.2.1) [nth (yE a a.2.2.2.2.1).1 a.2.2.2.1 0]
 have hkp:Keep (yZ a):=yCo h.xk hl
 have hd:=yLI (dataAt a.2.2.2.2.1) [nth (yE a a.2.2.2.2.1).1 a.2.2.2.1 0] h.xu hl
 have e1:(yZ a).2.2.2.2.1=a.2.2.2.2.1:=yah e
 have e2:(yZ a).2.1=a.2.1:=yaf e
 have e3:(yZ a).2.2.2.1=a.2.2.2.1:=ycM e
 unfold stepOne at hu ⊢
 cases hw:(yE a a.2.2.2.2.1).2
 ·exact h
 ·rw [hw]at hu
  have hwv:=yUV h.xc.1 h.xk h.xe h.xv hb0 hb
  have hw1:(yE a a.2.2.2.2.1).1=vlist V a.2.1.1 a.2.2.2.2.1:=by
   rw [hwv]at hw ⊢
   cases hm:yeK (fun (i:Nat)=>yR a a.2.2.2.2.1 i) a.2.1.1.toNat
   ·rfl
   ·rw [hm]at hw; cases hw
  have hx:nth (yE a a.2.2.2.2.1).1 a.2.2.2.1 0=V a.2.2.2.2.1 a.2.2.2.1:=by rw [hw1]; exact yRe V (by omega) (by omega)
  rw [hx]at hd e
  have hst:yZ a=ybo a a.2.2.2.1 (dataAt a.2.2.2.2.1) [V a.2.2.2.2.1 a.2.2.2.1]:=by unfold yZ; rw [hx]
  have hcc:yo (yZ a)=yo a:=by rw [hst]; exact e
  rw [← hst]at hd
  generalize yZ a=R at *
  simp only [cond_true]at hu ⊢
  cases hr:downA R
  ·rw [hr]at hu
   obtain ⟨_,_,⟨_,hdd⟩ | ⟨hdd,_⟩⟩:=hd
   ·obtain ⟨d1,d2,d3⟩:=yqI h.xk (i:=a.2.2.2.1) (by omega) (by omega)
    have hf':(dsk a a.2.2.2.1).2.2.1=false:=hf
    have hxw:=h.xe.ew a.2.2.2.2.1 a.2.2.2.1 hb0 hb (by omega) (by omega)
    have hcn:=h.xn a.2.2.2.1 (by omega) (by omega)
    rw [beq_self_eq_true,cond_true]at hcn
    have hcw:yaC (dsk a a.2.2.2.1) (a.2.2.2.2.1+6) [V a.2.2.2.2.1 a.2.2.2.1]=true:=yEU d1 hf' (zjP.2 (by omega)) (ylM.2 ⟨by simp,fun x hx=>by rw [List.mem_singleton.1 hx]; exact yqK.1 hxw⟩) (by omega)
    have e4:IntKind.i64.wrap (R.2.2.2.2.1+1)=a.2.2.2.2.1+1:=by rw [e1]; exact wr (by omega) (by omega)
    have hRL:dsk R a.2.2.2.1=(yG (dsk a a.2.2.2.1) (a.2.2.2.2.1+6) [V a.2.2.2.2.1 a.2.2.2.1]).1:=by
     rw [hdd _ (by omega),beq_self_eq_true,cond_true,hda]
     unfold ygq
     rw [hf']; rfl
    have hRo: ∀ i,0≤i→i≠a.2.2.2.1→dsk R i=dsk a i:=fun i i0 hi=>by rw [hdd i i0,show (a.2.2.2.1==i)=false from beq_eq_false_iff_ne.2 (fun e=>hi e.symm)]; rfl
    have hco:=yLA hcc h.xc
    refine ⟨?_,hkp,hr,(yOy hcc).trans h.xb,by show R.2.2.2.2.2.2.2.1≤k; rw [yBQ hcc]; exact h.xg,by show R.2.2.2.2.2.1≤k; rw [yjy hcc]; exact h.xs,by show EvV R.2.1 V; rw [e2]; exact h.xe,?_,?_⟩
    ·obtain ⟨c1,c2,c3,c4,c5,c6,c7,c8,c9,c10,c11⟩:=hco
     refine ⟨c1,c2,c3,c4,⟨?_,?_⟩,fun e=> ?_,c7,c8,c9,c10,c11⟩
     ·show 0≤IntKind.i64.wrap (R.2.2.2.2.1+1); omega
     ·show IntKind.i64.wrap (R.2.2.2.2.1+1)≤R.2.1.2; rw [e4,e2]; omega
     ·have:R.2.2.2.1= -1:=e
      omega
    ·intro i t i0 i1 t0 t1 hh
     have i1:i < R.2.1.1:=i1
     have t1:t < R.2.1.2:=t1
     rw [e2]at i1 t1
     unfold yR at hh
     have hh:(yH R.2.2.2.1 (IntKind.i64.wrap (R.2.2.2.2.1+1)) i t (dsk R i)&& !(ypy (dsk R i) (t+6)))=true:=hh
     show ypB (dsk R i) (t+6)= [V t i]
     rw [e3,e4]at hh
     by_cases hi:i=a.2.2.2.1
     ·subst hi
      rw [hRL]at hh ⊢
      rw [yEu hcw]
      by_cases ht:a.2.2.2.2.1+6=t+6
      ·rw [show (a.2.2.2.2.1+6==t+6)=true from beq_iff_eq.2 ht,show a.2.2.2.2.1=t by omega]; rfl
      ·rw [show (a.2.2.2.2.1+6==t+6)=false from beq_eq_false_iff_ne.2 ht,cond_false]
       refine h.xv _ t i0 i1 t0 t1 ?_
       rw [yxH hcw,show (t+6 !=a.2.2.2.2.1+6)=true from bne_iff_ne.2 (fun e=>ht e.symm),Bool.and_true,Bool.and_eq_true]at hh
       have h2:=hh.1
       simp only [yH,Bool.and_eq_true,Bool.or_eq_true,bne_self_eq_false,Bool.false_eq_true,false_or,zjT]at h2
       unfold yR yH
       rw [hf',hh.2,zjI (show t < a.2.2.2.2.1 by omega),Bool.or_true]; rfl
     ·rw [hRo i i0 hi]at hh ⊢
      refine h.xv i t i0 i1 t0 t1 ?_
      rw [Bool.and_eq_true]at hh
      have h2:=hh.1
      simp only [yH,Bool.and_eq_true]at h2
      unfold yR yH
      rw [h2.1,hh.2,show (i !=a.2.2.2.1)=true from bne_iff_ne.2 hi]; rfl
    ·intro i i0 i1
     have i1:i < R.2.1.1:=i1
     rw [e2]at i1
     show ((dsk R i).2.1.length:Int)≤1+(bif i==R.2.2.2.1 then IntKind.i64.wrap (R.2.2.2.2.1+1) else 0)
     rw [e3,e4]
     by_cases hi:i=a.2.2.2.1
     ·subst hi
      rw [hRL,yHw hcw,beq_self_eq_true,cond_true]
      show (((dsk a a.2.2.2.1).2.1++ [(a.2.2.2.2.1+6,[V a.2.2.2.2.1 a.2.2.2.1])]).length:Int)≤_
      rw [List.length_append]
      simp only [List.length_cons,List.length_nil]
      omega
     ·rw [hRo i i0 hi,show (i==a.2.2.2.1)=false from beq_eq_false_iff_ne.2 hi]
      have:=h.xn i i0 i1
      rw [show (i==a.2.2.2.1)=false from beq_eq_false_iff_ne.2 hi]at this
      exact this
   ·rw [hr]at hdd; cases hdd
  ·rw [hr]at hu
   exact absurd (hr.symm.trans hu) (by simp)
theorem y0C {id i:Int} {g:dG} (hg:yc g=true): ∀ n:Nat,n≤g.2.toNat→ ∀ k:Int,0≤k→nth ((List.range n).foldl yua (ylx id g i)).1 k []=bif leb 6 k&&ltb k (6+n) then [0] else bif k==0 then yz (yZ3 id g i) else []:=by
 have hge:=yi.1 hg
 intro n
 induction n with
 | zero =>
  intro _ k hk
  show nth (ylx id g i).1 k []=_
  unfold ylx
  rw [yyq hge.2]
  have h0:inb 0 (List.replicate (6+g.2).toNat ([]:List Int)).length=true:=by rw [List.length_replicate]; exact zjP.2 (by omega)
  have:=yCy (x:=yz (yZ3 id g i)) (d:=([]:List Int)) h0 hk
  rw [show (0:Int).toNat=0 from rfl]at this
  rw [this]
  have e1:(leb 6 k&&ltb k (6+((0:Nat):Int)))=false:=by
   cases h:(leb 6 k&&ltb k (6+((0:Nat):Int)))
   ·rfl
   ·rw [Bool.and_eq_true,zjQ,zjT]at h; omega
  rw [e1,cond_false]
  by_cases h:k=0
  ·rw [show ((0:Int)==k)=true from beq_iff_eq.2 h.symm,show (k==0)=true from beq_iff_eq.2 h]; rfl
  ·rw [show ((0:Int)==k)=false from beq_eq_false_iff_ne.2 (fun e=>h e.symm),show (k==0)=false from beq_eq_false_iff_ne.2 h,cond_false,cond_false]
   unfold nth
   rw [List.getD_eq_getElem?_getD,List.getElem?_replicate]
   split<;>rfl
 | succ n ih =>
  intro hn k hk
  rw [List.range_succ,List.foldl_append,List.foldl_cons,List.foldl_nil]
  have hlen:((List.range n).foldl yua (ylx id g i)).1.length=(6+g.2).toNat:=by
   rw [yN1]
   show ((yb7 (6+g.2)).1.set 0 _).length=_
   rw [List.length_set,yyq hge.2]
   show (List.replicate (6+g.2).toNat ([]:List Int)).length=_
   rw [List.length_replicate]
  have h1:=ih (by omega) k hk
  generalize (List.range n).foldl yua (ylx id g i)=M at h1 hlen ⊢
  show nth (M.1.set (n+6) [0]) k []=_
  have:=yCy (l:=M.1) (i:=((n+6:Nat):Int)) (x:= [0]) (d:=([]:List Int)) (zkO (by omega)) hk
  rw [Int.toNat_natCast]at this
  rw [this,h1]
  by_cases h:((n+6:Nat):Int)=k
  ·rw [show (((n+6:Nat):Int)==k)=true from beq_iff_eq.2 h,zk0 (show 6≤k by omega),zjI (show k < 6+((n+1:Nat):Int) by omega)]; rfl
  ·rw [show (((n+6:Nat):Int)==k)=false from beq_eq_false_iff_ne.2 h,cond_false,show ltb k (6+((n+1:Nat):Int))=ltb k (6+(n:Int)) by rw [Bool.eq_iff_iff,zjT,zjT]; omega]
theorem y2f (g:dG):EvV g (fun _ _=>0):=by
 refine ⟨fun s _ _=> ?_,fun _ _ _ _ _ _=>rfl⟩
 unfold vlist
 rw [ymB]
 have: ∀ l:List Nat,yd4 (l.map (fun (_:Nat)=>(0:Int)))=0#64:=by
  intro l
  induction l with
  | nil=>rfl
  | cons x t ih=>rw [List.map_cons,yjx,ih]; decide
 rw [this]; rfl
theorem y3g {id:Int} {g:dG} (hg:yc g=true) (h1:1≤id) (h2:id≤60000) {i:Int} (i0:0≤i) (i1:i < g.1):dsk (ym8 id g) i=yB id g i:=by
 rw [yJU hg h1 h2]
 show nth ((List.range g.1.toNat).map (fun (i:Nat)=>yB id g i)) i noMem=_
 unfold nth
 rw [zcq (by rw [List.length_map,List.length_range]; omega),List.getElem_map,List.getElem_range,Int.toNat_of_nonneg i0]
theorem y3e {id:Int} {g:dG} (hg:yc g=true) (h1:1≤id) (h2:id≤60000):Ix 0 (fun _ _=>0) (ym8 id g):=by
 have hw:=y0o hg h1 h2
 have hge:=yi.1 hg
 have e:=yJU hg h1 h2
 have eg:(ym8 id g).2.1=g:=by rw [e]
 have ed: ∀ i,0≤i→i < g.1→dsk (ym8 id g) i=yB id g i:=fun i i0 i1=>y3g hg h1 h2 i0 i1
 refine ⟨hw.1,hw.2.1,hw.2.2.1.1,hw.2.2.2.1,hw.2.2.2.2,by rw [e]; exact Int.le_refl _,y2f _,fun i s i0 i1 s0 s1 _=> ?_,fun i i0 i1=> ?_⟩
 ·rw [eg]at i1 s1
  rw [ed i i0 i1]
  obtain ⟨_,_,n3⟩:=yHh id i hg
  unfold ypB
  rw [n3]
  show nth (yB id g i).1 (s+6) []=_
  unfold yB
  rw [y0C hg g.2.toNat (Nat.le_refl _) (s+6) (by omega),zk0 (show 6≤s+6 by omega),zjI (show s+6 < 6+(g.2.toNat:Int) by omega)]; rfl
 ·rw [eg]at i1
  rw [ed i i0 i1,(yHh id i hg).2.2,e]
  show ((([]:List dW).length:Nat):Int)≤1+(bif i== -1 then 0 else 0)
  rw [List.length_nil]
  cases (i== -1)<;>decide
theorem y1H {k:Int} {V:Int→Int→Int} {a b:dA} (h:Ix k V a) (ht:Turned a b) (hk:k+16≤60000) (hu:downA b=false): ∃ V',Ix (k+16) V' b:=by
 cases ht with
 | same=>exact ⟨V,yey h (by omega)⟩
 | put b x hb hx=>exact ⟨V,yey (y3f h hb hx) (by omega)⟩
 | flush s=>obtain ⟨V',h'⟩:=yPy s h (by omega) hu; exact ⟨V',yey h' (by omega)⟩
 | all=>exact y3d h hk hu
 | fail m hl hm=>exact ⟨V,yey (y2T h (.inl hl) hm (by omega) hu) (by omega)⟩
 | spare hl _=>exact ⟨V,yey (y2m h hl (by omega) hu) (by omega)⟩
 | step hl hf hb=>exact ⟨V,yey (y2U h hl hf hb hu) (by omega)⟩
 | check=>exact ⟨V,yey (yZQ h (by omega) hu) (by omega)⟩
 | spoil m s hm _ _=>exact ⟨V,yey (y2n h hm) (by omega)⟩
theorem y2s {N p:Int} {l:List Int} (h:3≤N∧N≤5) (hp:0≤p∧p≤N - 1) (hl:(l.length:Int)=N):(nth l p 0::(List.range (N - 1).toNat).map (fun (i:Nat)=>nth l ((p+1+i).tmod N) 0)).Perm l:=by
 have:N=3∨N=4∨N=5:=by omega
 rcases this with rfl | rfl | rfl
 ·match l,hl with
  | [a,b,c],_ =>
   have:p=0∨p=1∨p=2:=by omega
   rcases this with rfl | rfl | rfl<;>simp [nth,List.range_succ,List.perm_iff_count,List.count_cons]<;>(try (intro z; omega))
  | [],hl=>simp at hl
  | [_],hl=>simp at hl
  | [_,_],hl=>simp at hl
  | _::_::_::_::_,hl=>simp only [List.length_cons]at hl; omega
 ·match l,hl with
  | [a,b,c,d],_ =>
   have:p=0∨p=1∨p=2∨p=3:=by omega
   rcases this with rfl | rfl | rfl | rfl<;>simp [nth,List.range_succ,List.perm_iff_count,List.count_cons]<;>(try (intro z; omega))
  | [],hl=>simp at hl
  | [_],hl=>simp at hl
  | [_,_],hl=>simp at hl
  | [_,_,_],hl=>simp at hl
  | _::_::_::_::_::_,hl=>simp only [List.length_cons]at hl; omega
 ·match l,hl with
  | [a,b,c,d,e],_ =>
   have:p=0∨p=1∨p=2∨p=3∨p=4:=by omega
   rcases this with rfl | rfl | rfl | rfl | rfl<;>simp [nth,List.range_succ,List.perm_iff_count,List.count_cons]<;>(try (intro z; omega))
  | [],hl=>simp at hl
  | [_],hl=>simp at hl
  | [_,_],hl=>simp at hl
  | [_,_,_],hl=>simp at hl
  | [_,_,_,_],hl=>simp at hl
  | _::_::_::_::_::_::_,hl=>simp only [List.length_cons]at hl; omega
theorem y0G {N p:Int} {l:List Int} (h:3≤N∧N≤5) (hp:0≤p∧p≤N - 1) (hl:(l.length:Int)=N) (hw:l.all isW=true) (hx:yd4 l=0#64):xorOf ((List.range (N - 1).toNat).map (fun (i:Nat)=>nth l ((p+1+i).tmod N) 0))=nth l p 0:=by
 have h1:=yXL (y2s h hp hl)
 rw [yjx,hx]at h1
 have h2:=yqK.1 (yLH (i:=p) hw)
 rw [ymB]
 have:yd4 ((List.range (N - 1).toNat).map (fun (i:Nat)=>nth l ((p+1+i).tmod N) 0))=bv (nth l p 0):=by
  have ab: ∀ u v:BitVec 64,u ^^^ v=0#64→v=u:=fun u v h=>by
   have h3:u ^^^ (u ^^^ v)=u ^^^ 0#64:=by rw [h]
   rw [← BitVec.xor_assoc,BitVec.xor_self,BitVec.zero_xor,BitVec.xor_zero]at h3
   exact h3
  exact ab _ _ h1
 rw [this]
 exact y0i (by omega) (by omega)
theorem y1U {V:Int→Int→Int} {g:dG} {s:Int} (h:EvV g V) (s0:0≤s) (s1:s < g.2):(vlist V g.1 s).all isW=true:=by
 rw [yAP]
 intro x hx
 unfold vlist at hx
 obtain ⟨i,hi,rfl⟩:=List.mem_map.1 hx
 have:=List.mem_range.1 hi
 exact h.ew s i s0 s1 (by omega) (by omega)
def ygr (a:dA) (s:Int):Nat:=ygs (fun (i:Nat)=>yR a s i) a.2.1.1.toNat
theorem y2o {k:Int} {V:Int→Int→Int} {a:dA} {s:Int} (h:Ix k V a) (s0:0≤s) (s1:s < a.2.1.2):yE a s=bif decide (ygr a s < 2) then (vlist V a.2.1.1 s,true) else ([],false):=by
 rw [yUV h.xc.1 h.xk h.xe h.xv s0 s1,(yS9 _ _).2]
 show (bif decide (2≤ygr a s) then ([],false) else (vlist V a.2.1.1 s,true))=_
 by_cases h2:ygr a s < 2
 ·rw [decide_eq_true h2,decide_eq_false (by omega)]; rfl
 ·rw [decide_eq_false h2,decide_eq_true (by omega)]; rfl
theorem y4e {k:Int} {V:Int→Int→Int} {a:dA} {s:Int} (h:Ix k V a) (s0:0≤s) (s1:s < a.2.1.2):y1I a s=(ygr a s:Nat):=by
 unfold y1I ygr
 rw [yCn h,zk0 s0,zk0 (show s≤a.2.1.2 - 1 by omega)]
 have: ∀ n,n≤a.2.1.1.toNat→ygs (fun (i:Nat)=>ym a i s) n=ygs (fun (i:Nat)=>yR a s i) n:=by
  intro n
  induction n with
  | zero=>intro _; rfl
  | succ n ih=>intro hn; rw [ygt,ygt,ih (by omega),(yqe h.xc.1 h.xk h.xv (show (0:Int)≤(n:Int) by omega) (by omega) s0 s1).1]
 rw [this _ (Nat.le_refl _)]; rfl
def yh3 (V:Int→Int→Int) (g:dG) (s:Int):List Int:=(List.range (g.1 - 1).toNat).map (fun (i:Nat)=>nth (vlist V g.1 s) (yao g s i) 0)
theorem yZT {k:Int} {V:Int→Int→Int} {a:dA} {s:Int} (h:Ix k V a) (s0:0≤s) (s1:s < a.2.1.2):yI a.2.1 s=true:=yN.2 ⟨h.xc.1,s0,by omega⟩
theorem yG4 {k:Int} {V:Int→Int→Int} {a:dA} {s:Int} (h:Ix k V a) (s0:0≤s) (s1:s < a.2.1.2):yvq a s=bif decide (ygr a s < 2) then (yh3 V a.2.1 s,true) else ([],false):=by
 unfold yvq yvp
 rw [yCn h,h.xb,yZT h s0 s1,y2o h s0 s1]
 cases decide (ygr a s < 2)<;>rfl
theorem y25 {V:Int→Int→Int} {g:dG} {s:Int} (hs:yI g s=true) (h:EvV g V):xorOf (yh3 V g s)=nth (vlist V g.1 s) (ye g s) 0:=by
 have h1:=yN.1 hs
 have hg:=yi.1 h1.1
 have hd:yh3 V g s=(List.range (g.1 - 1).toNat).map (fun (i:Nat)=>nth (vlist V g.1 s) ((ye g s+1+i).tmod g.1) 0):=by
  unfold yh3
  refine List.map_congr_left fun i hi=> ?_
  have:=List.mem_range.1 hi
  unfold yao
  rw [hs,zk0 (show (0:Int)≤i by omega),zk0 (show (i:Int)≤g.1 - 2 by omega)]; rfl
 rw [hd]
 exact y0G hg.1 (ygz hs) (by rw [yES]; omega) (y1U h h1.2.1 (by omega)) (yUW (h.ev s h1.2.1 (by omega)))
theorem yET (V:Int→Int→Int) (g:dG) (s:Int):(yh3 V g s).length=(g.1 - 1).toNat:=by unfold yh3; rw [List.length_map,List.length_range]
def yLw (S:Int) (m x:dM):Prop:=x.2.2.1=m.2.2.1∧ ∀ k,6≤k→k < 6+S→ypy x k=ypy m k
theorem yN4 {S:Int} {m x y:dM} (h:yLw S m x) (g:yLw S x y):yLw S m y:=⟨g.1.trans h.1,fun k k0 k1=>(g.2 k k0 k1).trans (h.2 k k0 k1)⟩
theorem yE5 (S:Int) (m:dM):yLw S m (yq m):=⟨(ylJ m).2,fun k _ _=>yXo m k⟩
theorem yXE {S n:Int} (s:List Int) (m:dM) (hn:n < 6):yLw S m (ygq n s m):=⟨yEC n s m,fun k k0 k1=>by
 unfold ygq
 cases m.2.2.1
 ·rw [cond_false]
  cases hc:yaC m n s
  ·unfold yG; rw [hc]; rfl
  ·rw [yxH hc,show (k !=n)=true from bne_iff_ne.2 (by omega),Bool.and_true]
 ·rfl⟩
theorem yPx {a b:dA} {s i:Int} (h1:b.2.2.2.1=a.2.2.2.1) (h2:b.2.2.2.2.1=a.2.2.2.2.1) (s0:0≤s) (s1:s < a.2.1.2) (h:yLw a.2.1.2 (dsk a i) (dsk b i)):yR b s i=yR a s i:=by
 unfold yR yH
 rw [h1,h2,h.1,h.2 (s+6) (by omega) (by omega)]
theorem y2k {a:dA} {s i:Int} (hk:Keep a) (hu:downA (yn a)=false) (i0:0≤i) (i1:i < a.2.1.1) (s0:0≤s) (s1:s < a.2.1.2):yR (yn a) s i=yR a s i:=by
 have e:=ycZ a
 refine yPx (ycM e) (yah e) s0 s1 ?_
 rw [yC1 hu i0 (by have:=hk.1.2; omega)]
 exact yE5 _ _
theorem y2j {a:dA} {s i:Int} (hk:Keep a) (hg:0≤a.2.2.2.2.2.2.2.1) (hg2:a.2.2.2.2.2.2.2.1 < 60000) (hu:downA (markA a)=false) (i0:0≤i) (i1:i < a.2.1.1) (s0:0≤s) (s1:s < a.2.1.2):yR (markA a) s i=yR a s i:=by
 have e:=ylL a
 refine yPx ((ycM e).trans rfl) ((yah e).trans rfl) s0 s1 ?_
 rw [yPA hu i0 (by have:=hk.1.2; omega)]
 have hn:(yaa a).2.2.2.2.2.2.2.1.tmod 2 < 6:=by
  show (IntKind.i64.wrap (a.2.2.2.2.2.2.2.1+1)).tmod 2 < 6
  rw [wr (by omega) (by omega)]
  have:=y0h (g:=a.2.2.2.2.2.2.2.1+1) (by omega)
  omega
 exact yN4 (yXE _ _ hn) (yE5 _ _)
theorem y2Q {a:dA} {r:dN} {s i:Int} (hk:Keep a) (hr:0≤r.1) (hu:downA (yF a r)=false) (i0:0≤i) (i1:i < a.2.1.1) (s0:0≤s) (s1:s < a.2.1.2):yR (yF a r) s i=yR a s i:=by
 have e:=ybj a r
 refine yPx (ycM e) (yah e) s0 s1 ?_
 rw [yLJ hu i0 (by have:=hk.1.2; omega)]
 exact yN4 (yXE _ _ (y0Z hr).2.1) (yE5 _ _)
theorem y1E {k:Int} {V:Int→Int→Int} {a:dA} {s i:Int} (h:Ix k V a) (hk:k+1≤60000) (hu:downA (checkA a)=false) (i0:0≤i) (i1:i < a.2.1.1) (s0:0≤s) (s1:s < a.2.1.2):yR (checkA a) s i=yR a s i:=by
 obtain ⟨h1,h2⟩:=yGT hu
 rw [h2]at hu ⊢
 have hs:=yXs (y0R h h1)
 have eg:(yaq (yn a)).2.1=a.2.1:=(by have h9:=yaf (ycZ a); exact h9)
 have c:=hs.xc
 unfold coreOk at c
 have:=hs.xg
 rw [y2j hs.xk (by omega) (by omega) hu i0 (by rw [eg]; exact i1) s0 (by rw [eg]; exact s1)]
 exact y2k h.xk h1 i0 i1 s0 s1
theorem y2P {k:Int} {V:Int→Int→Int} {a:dA} {s i:Int} (h:Ix k V a) (hk:k+1≤60000) (hu:downA (yk a)=false) (i0:0≤i) (i1:i < a.2.1.1) (s0:0≤s) (s1:s < a.2.1.2):yR (yk a) s i=yR a s i:=by
 unfold yk at hu ⊢
 cases h4:leb 4 (IntKind.i64.wrap (a.2.2.2.2.2.1 - a.2.2.2.2.2.2.1))
 ·rfl
 ·rw [h4]at hu
  exact y1E h hk hu i0 i1 s0 s1
theorem y2i {k:Int} {V:Int→Int→Int} {a:dA} {s:Int} {d:List Int} {i t:Int} (h:Ix k V a) (hs:yI a.2.1 s=true) (hd:d.all isW=true) (hz:(dsk a i).2.2.1=false→(dsk a i).2.1= []) (hu:downA (yA a s d)=false)
  (i0:0≤i) (i1:i < a.2.1.1) (t0:0≤t) (t1:t < a.2.1.2):yR (yA a s d) t i=bif t==s then yH a.2.2.2.1 a.2.2.2.2.1 i s (dsk a i) else yR a t i:=by
 have hc:=yxT a s d
 have h1:=yN.1 hs
 have hg:=yi.1 h1.1
 have hlen:=h.xk.1.2
 have e:dsk (yA a s d) i=yj5 a.2.2.2.1 a.2.2.2.2.1 (ye a.2.1 s) a.2.1.1 s d i (dsk a i):=yBl (yZm s d h.xu) hu i0 (by omega)
 obtain ⟨d1,d2,d3⟩:=yqI h.xk i0 i1
 have hda:=yAF (s:=s) h1.2.1 (by omega)
 unfold yR
 rw [ycM hc,yah hc,e]
 by_cases ht:t=s
 ·subst ht
  rw [beq_self_eq_true,cond_true]
  unfold yj5
  cases hl:yH a.2.2.2.1 a.2.2.2.2.1 i t (dsk a i)
  ·rw [cond_false,hl]; rfl
  ·have hf:(dsk a i).2.2.1=false:=by
    simp only [yH,Bool.and_eq_true,Bool.not_eq_true'] at hl; exact hl.1
   have hcw:yaC (dsk a i) (dataAt t) [ycc (ye a.2.1 t) a.2.1.1 (xorOf d) d i]=true:=yEU d1 hf (by rw [hda]; exact zjP.2 (by omega)) (ylM.2 ⟨by simp,fun x hx=>by rw [List.mem_singleton.1 hx]; exact yqK.1 (yJ0 hd)⟩) (by rw [hz hf]; decide)
   rw [cond_true,yxH hcw,hda,bne_self_eq_false,Bool.and_false,Bool.not_false,Bool.and_true]
   unfold yH at hl ⊢
   rw [(yyQ _ _ _).2]; exact hl
 ·rw [show (t==s)=false from beq_eq_false_iff_ne.2 ht,cond_false]
  obtain ⟨e1,e2,e3⟩:=yG3 (L:=a.2.2.2.1) (B:=a.2.2.2.2.1) (p:=ye a.2.1 s) (N:=a.2.1.1) (s:=s) (i:=i) (d:=d) (S:=0) (m:=dsk a i) (t+6) (by omega)
  unfold yH
  rw [e1,e2]
theorem yXJ {k:Int} {V:Int→Int→Int} {a:dA} {s:Int} {d:List Int} {i t:Int} (h:Ix k V a) (hs:yI a.2.1 s=true) (hd:d.all isW=true) (hq:a.2.2.2.2.2.1 < 60000) (hk:k+1≤60000) (hu:downA (yu a s d).2=false)
  (i0:0≤i) (i1:i < a.2.1.1) (t0:0≤t) (t1:t < a.2.1.2):yR (yu a s d).2 t i=bif t==s then yH a.2.2.2.1 a.2.2.2.2.1 i s (dsk a i) else yR a t i:=by
 unfold yu at hu ⊢
 cases hc:downA (yk a)
 ·obtain ⟨h1,h2,h3⟩:=y1F h hk hc
  have eg:(yk a).2.1=a.2.1:=yLz a
  have hb0:=fun t t0 t1=>y2P (s:=t) h hk hc i0 i1 t0 t1
  have hlv:yH (yk a).2.2.2.1 (yk a).2.2.2.2.1 i s (dsk (yk a) i)=yH a.2.2.2.1 a.2.2.2.2.1 i s (dsk a i):=by
   unfold yk at hc ⊢
   cases h4:leb 4 (IntKind.i64.wrap (a.2.2.2.2.2.1 - a.2.2.2.2.2.2.1))
   ·rfl
   ·rw [h4]at hc
    simp only [cond_true]at hc ⊢
    obtain ⟨g1,g2⟩:=yGT hc
    have e:=ylL (yaq (yn a))
    rw [g2]at hc ⊢
    rw [ycM e,yah e,yPA hc i0 (by show i < ((yn a).2.2.1.length:Int); rw [yxg]; have:=h.xk.1.2; omega)]
    have el:(yaa (yaq (yn a))).2.2.2.1=a.2.2.2.1:=(by have h9:=ycM (ycZ a); exact h9)
    have eb:(yaa (yaq (yn a))).2.2.2.2.1=a.2.2.2.2.1:=(by have h9:=yah (ycZ a); exact h9)
    rw [el,eb]
    unfold yH yS3
    rw [(ylJ _).2,yEC,show dsk (yaq (yn a)) i=dsk (yn a) i from rfl,yC1 g1 i0 (by have:=h.xk.1.2; omega),(ylJ _).2]
  rw [hc]at hu
  simp only [cond_false]at hu ⊢
  have c:=h.xc
  unfold coreOk at c
  cases hr:downA (yF (yk a) ((yk a).2.2.2.2.2.1,s,d))
  ·rw [hr]at hu
   simp only [cond_false]at hu ⊢
   have hq0:0≤(yk a).2.2.2.2.2.1:=by omega
   obtain ⟨h4,h5⟩:=y1G (r:=((yk a).2.2.2.2.2.1,s,d)) h1 hq0 hr
   have e1:=yjy (ybj (yk a) ((yk a).2.2.2.2.2.1,s,d))
   have e2:=yVc (ybj (yk a) ((yk a).2.2.2.2.2.1,s,d))
   have e3:=(yaf (ybj (yk a) ((yk a).2.2.2.2.2.1,s,d))).trans eg
   have e5:=ycM (ybj (yk a) ((yk a).2.2.2.2.2.1,s,d))
   have e6:=yah (ybj (yk a) ((yk a).2.2.2.2.2.1,s,d))
   have hb1:=fun t t0 t1=>y2Q (s:=t) (r:=((yk a).2.2.2.2.2.1,s,d)) h1.xk hq0 hr i0 (by rw [eg]; exact i1) t0 t1
   have hfl:(dsk (yF (yk a) ((yk a).2.2.2.2.2.1,s,d)) i).2.2.1=(dsk (yk a) i).2.2.1:=by
    rw [yLJ hr i0 (by have:=h1.xk.1.2; rw [eg]at this; omega),(ylJ _).2,yEC]
   rw [eg]at h5 hb1
   generalize yF (yk a) ((yk a).2.2.2.2.2.1,s,d)=R at h4 h5 e1 e2 e3 e5 e6 hb1 hfl hu ⊢
   have h6:=yZS h4 (by omega) (by omega)
   have e4:(yO R).2.1=a.2.1:=e3
   have h7:=y2i (s:=s) (d:=d) (i:=i) (t:=t) h6 (by rw [e4]; exact hs) hd (fun hf=>h5 i i0 i1 hf) hu i0 (by rw [e4]; exact i1) t0 (by rw [e4]; exact t1)
   show yR (yA (yO R) s d) t i=_
   rw [h7]
   have e7:yH (yO R).2.2.2.1 (yO R).2.2.2.2.1 i s (dsk (yO R) i)=yH a.2.2.2.1 a.2.2.2.2.1 i s (dsk a i):=by
    rw [← hlv]
    show yH R.2.2.2.1 R.2.2.2.2.1 i s (dsk R i)=_
    unfold yH
    rw [e5,e6,hfl]
   have e8:yR (yO R) t i=yR a t i:=(hb1 t t0 t1).trans (hb0 t t0 t1)
   rw [e7,e8]
  ·rw [hr]at hu
   exact absurd (hr.symm.trans hu) (by simp)
 ·rw [hc]at hu
  exact absurd (hc.symm.trans hu) (by simp)
theorem yG5 (p:Nat→Bool): ∀ n,decide (ygs p n=0)=(List.range n).all p
 | 0=>rfl
 | n+1=>by
  rw [List.range_succ,List.all_append,← yG5 p n,ygt]
  cases hp:p n
  ·simp [hp]
  ·simp [hp]
theorem yZU {k:Int} {V:Int→Int→Int} {a:dA} {s:Int} (h:Ix k V a) (s0:0≤s) (s1:s < a.2.1.2):yoZ a s=(0,decide (ygr a s=0)):=by
 have hlen:=h.xk.1.2
 have hN:a.2.2.1.length=a.2.1.1.toNat:=by omega
 have hw:yBn a s=decide (ygr a s=0):=by
  unfold yBn ygr
  rw [yG5,hN,Bool.eq_iff_iff,List.all_eq_true,List.all_eq_true]
  constructor
  ·intro g i hi
   have hi':=List.mem_range.1 hi
   have:=g i hi
   rwa [(yqe h.xc.1 h.xk h.xv (show (0:Int)≤(i:Int) by omega) (by omega) s0 s1).1]at this
  ·intro g i hi
   have hi':=List.mem_range.1 hi
   rw [(yqe h.xc.1 h.xk h.xv (show (0:Int)≤(i:Int) by omega) (by omega) s0 s1).1]
   exact g i hi
 unfold yoZ
 rw [hw]
 cases hd:decide (ygr a s=0)
 ·rfl
 ·rw [cond_true,hN]
  congr 1
  have:(List.range a.2.1.1.toNat).map (fun (i:Nat)=>yjJ a i s)=vlist V a.2.1.1 s:=by
   unfold vlist
   refine List.map_congr_left fun i hi=> ?_
   have hi':=List.mem_range.1 hi
   refine (yqe h.xc.1 h.xk h.xv (show (0:Int)≤(i:Int) by omega) (by omega) s0 s1).2 ?_
   unfold ygr at hd
   rw [yG5,List.all_eq_true]at hd
   exact hd i hi
  rw [this]
  exact h.xe.ev s s0 s1
theorem y2S {k:Int} {V:Int→Int→Int} {a:dA} (h:Ix k V a):yZd a=true:=by
 unfold yZd
 rw [List.all_eq_true]
 intro s hs
 have:=List.mem_range.1 hs
 rw [yZU h (by omega) (by omega)]
 simp
theorem y4d {k:Int} {V:Int→Int→Int} {a:dA} (h:Ix k V a):y28 a=(ygs (fun (s:Nat)=>decide (ygr a s=0)) a.2.1.2.toNat:Nat):=by
 unfold y28
 rw [yCn h,cond_true]
 have: ∀ n,n≤a.2.1.2.toNat→ygs (fun (s:Nat)=>(yoZ a s).2) n=ygs (fun (s:Nat)=>decide (ygr a s=0)) n:=by
  intro n
  induction n with
  | zero=>intro _; rfl
  | succ n ih=>intro hn; rw [ygt,ygt,ih (by omega),yZU h (show (0:Int)≤(n:Int) by omega) (by omega)]
 rw [this _ (Nat.le_refl _)]
end
end
end Go.Tf
