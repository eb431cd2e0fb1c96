/- Functions of the program, and what they come to. -/
import Derived.Test.YtgmadfpnljibhaaGreatBlocksBentF24
namespace Go.Tf
noncomputable section
open Go.Proofs
set_option synthInstance.maxHeartbeats 400000
set_option synthInstance.maxSize 10000
set_option linter.unusedVariables false
set_option linter.unusedSimpArgs false
set_option maxRecDepth 100000
section
def yqJ:Code:=(Tryz.f94.body).getD .skip
def ywx:Env:=zj3 TT [] []
theorem yXM:FrOk Tryz.prog ⟨ywx,32,fun _=>none⟩ yqJ:=zj7 yb yc trivial
def yII:Nat→Option Seg:=fun _=>none
def yf6:Shape:=⟨[(0,false,[.fz tY]),(3,false,[.int .i64]),(4,false,[.int .i64])],[],[]⟩
def ypC:Shape:=⟨[(0,false,[.fz tY]),(3,false,[.int .i64]),(4,false,[.ci .i64 0])],[],[]⟩
def ypB:Shape:=⟨[(0,false,[.fz tY]),(3,false,[.int .i64])],[],[]⟩
def yp3:Shape:=⟨[],[],[]⟩
def yFR (v0:List Int) (v1 v2:Int):Option ((yf6).X ⊕ ((ypB).X ⊕ (yp3).X)) :=
 bif (ltb v2 (v0.length:Int)) then
 bif (ltb v2 4000) then
 bif (inb v2 v0.length) then
 some (.inl (((v0,()),((IntKind.i64.wrap ((BitVec.ofInt IntKind.i64.bits (IntKind.i64.wrap ((IntKind.i64.wrap ((IntKind.i64.wrap (v1 * 137))+(IntKind.i64.wrap (nth v0 v2 0))))+11)) &&& BitVec.ofInt IntKind.i64.bits 1073741823).toNat:Int)),()),((IntKind.i64.wrap (v2+1)),()),()),(),()))
 else none
 else
 some (.inr (.inl (((v0,()),(v1,()),()),(),())))
 else
 some (.inr (.inl (((v0,()),(v1,()),()),(),())))
def yg9 (x:(yf6).X):=yFR x.1.1.1 x.1.2.1.1 x.1.2.2.1.1
def yEJ (x:(ypC).X):(yf6).X:=(((x.1.1.1,()),(x.1.2.1.1,()),(0,()),()),(),())
def yHa:Code:=(zdD yqJ 64 116).getD .skip
theorem yWw:zdD yqJ 64 29=some (.block 0 (.loop yHa)):=by kernel_rfl
theorem yZL (x:(yf6).X):zg0 ⟨ywx,32,yII⟩ 0 yHa 116 yf6 ypB yp3 x=yg9 x:=by kernel_rfl
def yEZ (x:(ypC).X):Nat:=18446744073709551616
def ywM (x:(ypC).X):Option ((ypB).X ⊕ (yp3).X):=zz yg9 (yEZ x) (yEJ x)
def yFK:Seg:=⟨ypC,ypB,yp3,ywM⟩
def yIJ:Nat→Option Seg:=fun q=>bif Nat.beq q 29 then some yFK else yII q
theorem yXN:FrOk Tryz.prog ⟨ywx,32,yIJ⟩ yqJ:=(yXM).loop (sg:=yFK) yf6 yEJ (by decide) yWw yg9 yEZ (by decide) (fun _=>rfl) (fun x r _ h=>h) yZL
abbrev yl4:List Par:= [.kp tYs .fz]
abbrev yxb:List OT:= [⟨true,tU,.fz⟩]
def yhD (a0:List Int):Option (ResD yxb×MutD yl4) :=
 zjZ (ywM (((a0,()),((IntKind.i64.wrap (770770+(a0.length:Int))),()),((),()),()),(),())) (fun y0 =>
 some (((y0.1.1.1,0,y0.1.2.1.1),()),())) (fun y0 =>
 none)
theorem y4H (x:InD yl4):zjx ⟨ywx,32,yIJ⟩ Tryz.f94.results.toList yqJ yl4 yxb x=yhD x.1:=by kernel_rfl
theorem y1H:ConOk Tryz.prog 94 ⟨yl4,yxb,fun x=>yhD x.1⟩:=zj2 (yXN) Tryz.func94 (by kernel_rfl) (by kernel_rfl) Tryz.ntmps94.symm (by decide) (fun x r h=>(y4H x).trans h)
def ydZ (a0:List Int):List Int×Int×Int:=(((yhD a0).getD (((([]:List Int),(0:Int),(0:Int)),()),())).1).1
def yG (u:List Int×Int×Int):Prop:=0≤u.2.1∧(u.1.length:Int)≤140737488355328
theorem y4Z (a0:List Int) (hb:a0.length≤140737488355328): ∃ s:Int,yhD a0=some (((a0,0,s),()),()):=by
 have hl: ∃ b,ywM (((a0,()),((IntKind.i64.wrap (770770+(a0.length:Int))),()),((),()),()),(),())=some b∧(∃ s:Int,b= .inl (((a0,()),(s,()),()),(),())):=by
  refine ziP (step:=yg9) (fun x=>(a0.length - (x.1.2.2.1.1:Int).toNat)) (fun x=>(x.1.1.1:List Int)=a0∧(0:Int)≤(x.1.2.2.1.1:Int)) _ ?_ _ _ ⟨rfl,Int.le_refl _⟩ (by show a0.length - _ < 18446744073709551616; omega)
  rintro ⟨⟨⟨(l:List Int),_⟩,⟨(s:Int),_⟩,⟨(i:Int),_⟩,_⟩,_,_⟩ ⟨h0,hi⟩
  simp only at h0 hi
  subst h0
  simp only [yg9,yFR]
  by_cases h1:i < (l.length:Int)
  ·rw [zj5 h1]
   by_cases h2:i < 4000
   ·rw [zj5 h2,zjD.2 ⟨hi,h1⟩]
    refine .inl ⟨_,rfl,⟨rfl,?_⟩,?_⟩
    ·show 0≤IntKind.i64.wrap (i+1); rw [wr (by omega) (by omega)]; omega
    ·show l.length - (IntKind.i64.wrap (i+1)).toNat < l.length - i.toNat; rw [wr (by omega) (by omega)]; omega
   ·rw [zky (Int.not_lt.1 h2)]
    exact .inr ⟨_,rfl,_,rfl⟩
  ·rw [zky (Int.not_lt.1 h1)]
   exact .inr ⟨_,rfl,_,rfl⟩
 obtain ⟨b,e,s,rfl⟩:=hl
 refine ⟨s,?_⟩
 unfold yhD
 rw [e]; rfl
theorem y3U (a0:List Int) (hk:zi2 yl4 (a0,())):yhD a0=(fun n=>some ((n,()),())) (ydZ a0):=by
 obtain ⟨s,e⟩:=y4Z a0 (by have:a0.length * 1≤2 ^ 47:=hk.1.1; omega)
 unfold ydZ
 rw [e]; rfl
theorem yWO (a0:List Int) (hb:a0.length≤140737488355328):yG (ydZ a0):=by
 obtain ⟨s,e⟩:=y4Z a0 hb
 unfold ydZ
 rw [e]
 exact ⟨Int.le_refl _,by show (a0.length:Int)≤_; omega⟩
def ymp:Con:=⟨yl4,yxb,fun x=>(fun n=>some ((n,()),())) (ydZ x.1)⟩
theorem yuY:ConOk Tryz.prog 94 ymp:=(y1H).mono (fun x r hk h=>(y3U x.1 hk).trans h)
end
section
def yLj:Code:=(Tryz.f96.body).getD .skip
def yLQ:Env:=zj3 TT [] []
theorem yTw:FrOk Tryz.prog ⟨yLQ,15,fun _=>none⟩ yLj:=zj7 yb yc trivial
def yWf:Nat→Option Seg:=fun _=>none
abbrev yoh:List Par:= [.rd tYs,.rd tI]
abbrev yuC:List OT:= [⟨false,tI,.fz⟩]
def yym (a0:List Int) (a1:Int):Option (ResD yuC×MutD yoh) :=
 bif (ltb a1 (IntKind.i64.wrap (3+(IntKind.i64.wrap ((a0.length:Int).tdiv 12))))) then
 some ((a1,()),())
 else
 some (((IntKind.i64.wrap (3+(IntKind.i64.wrap ((a0.length:Int).tdiv 12)))),()),())
theorem y3m (x:InD yoh):zjx ⟨yLQ,15,yWf⟩ Tryz.f96.results.toList yLj yoh yuC x=yym x.1 x.2.1:=by kernel_rfl
theorem yY2:ConOk Tryz.prog 96 ⟨yoh,yuC,fun x=>yym x.1 x.2.1⟩:=zj2 (yTw) Tryz.func96 (by kernel_rfl) (by kernel_rfl) Tryz.ntmps96.symm (by decide) (fun x r h=>(y3m x).trans h)
def ycz (a0:List Int) (a1:Int):Int :=
 bif (ltb a1 (IntKind.i64.wrap (3+(IntKind.i64.wrap ((a0.length:Int).tdiv 12))))) then
 a1
 else
 (IntKind.i64.wrap (3+(IntKind.i64.wrap ((a0.length:Int).tdiv 12))))
def ykq:Con:=⟨yoh,yuC,fun x=>(fun n=>some ((n,()),())) (ycz x.1 x.2.1)⟩
theorem y1d (a0:List Int) (a1:Int):yym a0 a1=(fun n=>some ((n,()),())) (ycz a0 a1):=zkq (p:=fun (n:Int)=>((n,()),())) (zkc (p:=fun (n:Int)=>((n,()),())) rfl rfl)
theorem ysH:ConOk Tryz.prog 96 ykq:=(yY2).mono (fun x r _ h=>(y1d x.1 x.2.1).trans h)
theorem yPK (l:List Int) (n:Int) (hn:0≤n) (hl:l.length≤140737488355328):0≤ycz l n∧ycz l n≤n:=by
 unfold ycz
 have h1:0≤(l.length:Int).tdiv 12:=Int.tdiv_nonneg (by omega) (by omega)
 have h2:(l.length:Int).tdiv 12≤(l.length:Int):=by
  rw [Int.tdiv_eq_ediv_of_nonneg (by omega)]
  exact Int.ediv_le_self _ (by omega)
 rw [wr (show -9223372036854775808≤(l.length:Int).tdiv 12 by omega) (by omega),wr (show -9223372036854775808≤3+(l.length:Int).tdiv 12 by omega) (by omega)]
 by_cases h:n < 3+(l.length:Int).tdiv 12
 ·rw [zj5 h]; exact ⟨hn,Int.le_refl _⟩
 ·rw [zky (by omega),cond_false]; omega
end
section
def ynT:Code:=(Tryz.f138.body).getD .skip
def yt5:Env:=zj3 TT [(135,yn)] [(28864,.fz),(28928,.fz)]
theorem yTp:FrOk Tryz.prog ⟨yt5,22,fun _=>none⟩ ynT:=zj7 yb yc ⟨yu,trivial⟩
def yGo:Nat→Option Seg:=fun _=>none
def ycH:Shape:=⟨[(0,false,[.int .i64]),(2,false,[.ptr 0 0]),(3,false,[.ptr 12352 0]),(4,false,[.int .i64])],[(0,[.nil,.nil,.bool,.nil]),(12352,[.at 800000000,.nil,.bool,.nil])],[(800000000,tL,.fz)]⟩
def yh5:Shape:=⟨[(0,false,[.int .i64]),(2,false,[.ptr 0 0]),(3,false,[.ptr 12352 0]),(4,false,[.ci .i64 0])],[(0,[.nil,.nil,.bool,.nil]),(12352,[.at 800000000,.nil,.bool,.nil])],[(800000000,tL,.fz)]⟩
def yhT:Shape:=⟨[(2,false,[.ptr 0 0]),(3,false,[.ptr 12352 0])],[(0,[.nil,.nil,.bool,.nil]),(12352,[.at 800000000,.nil,.bool,.nil])],[(800000000,tL,.fz)]⟩
def yna:Shape:=⟨[],[],[]⟩
abbrev ytn (v0 v1:Int) (v2 v3:dM):(ycH).X:=(((v0,()),((),()),((),()),(v1,()),()),(((),(),v2.2.2.1,(),()),((),(),v3.2.2.1,(),()),()),(v3.1,()))
abbrev yRb (v0:Int) (v1 v2:dM):(yh5).X:=(((v0,()),((),()),((),()),((),()),()),(((),(),v1.2.2.1,(),()),((),(),v2.2.2.1,(),()),()),(v2.1,()))
abbrev yQ3 (v0 v1:dM):(yhT).X:=((((),()),((),()),()),(((),(),v0.2.2.1,(),()),((),(),v1.2.2.1,(),()),()),(v1.1,()))
def ytF (v0 v1:Int) (v2 v3:Bool) (v4:List (List Int)):Option ((ycH).X ⊕ ((yhT).X ⊕ (yna).X)) :=
 bif (ltb v1 v0) then
 bif (zjR v4.length ([([]:List Int)]:List (List Int)).length 24) then
 some (.inl (((v0,()),((),()),((),()),((IntKind.i64.wrap (v1+1)),()),()),(((),(),v2,(),()),((),(),v3,(),()),()),((v4++([([]:List Int)]:List (List Int))),())))
 else none
 else
 some (.inr (.inl ((((),()),((),()),()),(((),(),v2,(),()),((),(),v3,(),()),()),(v4,()))))
def ydj (x:(ycH).X):=ytF x.1.1.1 x.1.2.2.2.1.1 x.2.1.1.2.2.1 x.2.1.2.1.2.2.1 x.2.2.1
def yCJ (x:(yh5).X):(ycH).X:=(((x.1.1.1,()),((),()),((),()),(0,()),()),(((),(),x.2.1.1.2.2.1,(),()),((),(),x.2.1.2.1.2.2.1,(),()),()),(x.2.2.1,()))
def yEd:Code:=(zdD ynT 64 244).getD .skip
theorem ySI:zdD ynT 64 61=some (.block 0 (.loop yEd)):=by kernel_rfl
theorem yVC (x:(ycH).X):zg0 ⟨yt5,22,yGo⟩ 0 yEd 244 ycH yhT yna x=ydj x:=by kernel_rfl
def yCV (x:(yh5).X):Nat:=18446744073709551616
def yu7 (x:(yh5).X):Option ((yhT).X ⊕ (yna).X):=zz ydj (yCV x) (yCJ x)
def yDd:Seg:=⟨yh5,yhT,yna,yu7⟩
def yGp:Nat→Option Seg:=fun q=>bif Nat.beq q 61 then some yDd else yGo q
theorem yTq:FrOk Tryz.prog ⟨yt5,22,yGp⟩ ynT:=(yTp).loop (sg:=yDd) ycH yCJ (by decide) ySI ydj yCV (by decide) (fun _=>rfl) (fun x r _ h=>h) yVC
abbrev yi0:List Par:= [.rd tI]
abbrev yuw:List OT:= [⟨false,tM,(.pr (.ow .fz) (.pr (.ow (.pr .fz .fz)) (.pr .fz (.ow .fz))))⟩]
def yqv (a0:Int):Option (ResD yuw×MutD yi0) :=
 let r1:=ya a0 1 20
 bif (!r1) then
 some ((([],[],false,[]),()),())
 else
 zjZ (yu7 (((a0,()),((),()),((),()),((),()),()),(((),(),false,(),()),((),(),false,(),()),()),([],()))) (fun y1 =>
 some (((y1.2.2.1,[],y1.2.1.2.1.2.2.1,[]),()),())) (fun y1 =>
 none)
theorem y3g (x:InD yi0):zjx ⟨yt5,22,yGp⟩ Tryz.f138.results.toList ynT yi0 yuw x=yqv x.1:=by kernel_rfl
theorem yYW:ConOk Tryz.prog 138 ⟨yi0,yuw,fun x=>yqv x.1⟩:=zj2 (yTq) Tryz.func138 (by kernel_rfl) (by kernel_rfl) Tryz.ntmps138.symm (by decide) (fun x r h=>(y3g x).trans h)
def ybA (a0:Int):dM:=yeQ a0
theorem y1a (a0:Int) (hk:zi2 yi0 (a0,())):yqv a0=(fun n=>some ((n,()),())) (ybA a0):=by
 unfold yqv ybA yeQ
 simp only [ybE]
 cases hc:(leb 1 a0&&leb a0 20)
 ·rfl
 ·rw [Bool.and_eq_true,zjE,zjE]at hc
  have h1:yu7 (yRb a0 noMem noMem)=some (.inl (yQ3 noMem (List.replicate a0.toNat [],[],false,[]))) :=
   zkg (step:=ydj) (fun i=>ytn a0 i noMem (List.replicate i [],[],false,[])) a0.toNat _ (fun i hi=>by
    simp only [ydj,ytn,ytF,zj5 (show (i:Int) < a0 by omega),cond_true,wr (show -9223372036854775808≤(i:Int)+1 by omega) (by omega),Int.natCast_add,Int.natCast_one,Int.toNat_natCast]
    rw [zkb.2 (show ((List.replicate i ([]:List Int)).length+([[]]:List (List Int)).length) * 24≤140737488355328 by simp only [List.length_cons,List.length_nil,List.length_replicate]; omega),← List.replicate_succ']; rfl) (by simp only [ydj,ytn,ytF,zky (show a0≤(a0.toNat:Int) by omega),cond_false]) _ (by show _ < 18446744073709551616; omega)
  rw [h1]; rfl
def yqd:Con:=⟨yi0,yuw,fun x=>(fun n=>some ((n,()),())) (ybA x.1)⟩
theorem yzI:ConOk Tryz.prog 138 yqd:=(yYW).mono (fun x r hk h=>(y1a x.1 hk).trans h)
end
section
def yeq:Code:=(Tryz.f49.body).getD .skip
def yiQ:Env:=zj3 TT [(134,yhx),(135,yn),(138,yqd),(139,yqf),(140,ytg),(141,ydT)] [(53440,(.pr (.ow .fz) (.pr (.ow (.pr .fz .fz)) (.pr .fz (.ow .fz))))),(53504,(.pr (.ow .fz) (.pr (.ow (.pr .fz .fz)) (.pr .fz (.ow .fz)))))]
theorem yTi:FrOk Tryz.prog ⟨yiQ,60,fun _=>none⟩ yeq:=zj7 yb yc ⟨yoN,yu,yzI,yzK,yFo,yhC,trivial⟩
def yGm:Nat→Option Seg:=fun _=>none
def yaV:Shape:=⟨[(0,false,[.int .i64]),(3,false,[.ptr 0 0]),(4,false,[.ptr 64 0]),(5,false,[.ptr 12480 0]),(6,false,[.int .i64]),(7,false,[.ptr 28864 0]),(8,false,[.int .i64])],[(0,[.int .i64,.int .i64]),(64,[.int .i64,.int .i64,.int .i64,.nil,.int .i64,.int .i64,.int .i64,.int .i64,.int .i64,.nil,.int .i64,.bool,.bool]),(12480,[.int .i64,.int .i64,.int .i64,.at 800000000,.int .i64,.int .i64,.int .i64,.int .i64,.int .i64,.nil,.int .i64,.bool,.bool]),(28864,[.at 800000001,.at 800000002,.bool,.at 800000003])],[(800000000,tM,(.pr (.ow .fz) (.pr (.ow (.pr .fz .fz)) (.pr .fz (.ow .fz))))),(800000001,tL,.fz),(800000002,tW,(.pr .fz .fz)),(800000003,tI,.fz)]⟩
def yeM:Shape:=⟨[(0,false,[.int .i64]),(3,false,[.ptr 0 0]),(4,false,[.ptr 64 0]),(5,false,[.ptr 12480 0]),(6,false,[.int .i64]),(7,false,[.ptr 28864 0]),(8,false,[.ci .i64 0])],[(0,[.int .i64,.int .i64]),(64,[.int .i64,.int .i64,.int .i64,.nil,.int .i64,.int .i64,.int .i64,.int .i64,.int .i64,.nil,.int .i64,.bool,.bool]),(12480,[.int .i64,.int .i64,.int .i64,.at 800000000,.int .i64,.int .i64,.int .i64,.int .i64,.int .i64,.nil,.int .i64,.bool,.bool]),(28864,[.at 800000001,.at 800000002,.bool,.at 800000003])],[(800000000,tM,(.pr (.ow .fz) (.pr (.ow (.pr .fz .fz)) (.pr .fz (.ow .fz))))),(800000001,tL,.fz),(800000002,tW,(.pr .fz .fz)),(800000003,tI,.fz)]⟩
def yeH:Shape:=⟨[(0,false,[.int .i64]),(3,false,[.ptr 0 0]),(4,false,[.ptr 64 0]),(5,false,[.ptr 12480 0]),(6,false,[.int .i64]),(7,false,[.ptr 28864 0])],[(0,[.int .i64,.int .i64]),(64,[.int .i64,.int .i64,.int .i64,.nil,.int .i64,.int .i64,.int .i64,.int .i64,.int .i64,.nil,.int .i64,.bool,.bool]),(12480,[.int .i64,.int .i64,.int .i64,.at 800000000,.int .i64,.int .i64,.int .i64,.int .i64,.int .i64,.nil,.int .i64,.bool,.bool]),(28864,[.at 800000001,.at 800000002,.bool,.at 800000003])],[(800000000,tM,(.pr (.ow .fz) (.pr (.ow (.pr .fz .fz)) (.pr .fz (.ow .fz))))),(800000001,tL,.fz),(800000002,tW,(.pr .fz .fz)),(800000003,tI,.fz)]⟩
def yiG:Shape:=⟨[],[],[]⟩
abbrev ynr (v0 v1 v2:Int) (v3:dG) (v4 v5:dA) (v6:dM):(yaV).X:=(((v0,()),((),()),((),()),((),()),(v1,()),((),()),(v2,()),()),((v3.1,v3.2,()),(v4.1,v4.2.1.1,v4.2.1.2,(),v4.2.2.2.1,v4.2.2.2.2.1,v4.2.2.2.2.2.1,v4.2.2.2.2.2.2.1,v4.2.2.2.2.2.2.2.1,(),v4.2.2.2.2.2.2.2.2.2.1,v4.2.2.2.2.2.2.2.2.2.2.1,v4.2.2.2.2.2.2.2.2.2.2.2,()),(v5.1,v5.2.1.1,v5.2.1.2,(),v5.2.2.2.1,v5.2.2.2.2.1,v5.2.2.2.2.2.1,v5.2.2.2.2.2.2.1,v5.2.2.2.2.2.2.2.1,(),v5.2.2.2.2.2.2.2.2.2.1,v5.2.2.2.2.2.2.2.2.2.2.1,v5.2.2.2.2.2.2.2.2.2.2.2,()),((),(),v6.2.2.1,(),()),()),(v5.2.2.1,v6.1,v6.2.1,v6.2.2.2,()))
abbrev yKx (v0 v1:Int) (v2:dG) (v3 v4:dA) (v5:dM):(yeM).X:=(((v0,()),((),()),((),()),((),()),(v1,()),((),()),((),()),()),((v2.1,v2.2,()),(v3.1,v3.2.1.1,v3.2.1.2,(),v3.2.2.2.1,v3.2.2.2.2.1,v3.2.2.2.2.2.1,v3.2.2.2.2.2.2.1,v3.2.2.2.2.2.2.2.1,(),v3.2.2.2.2.2.2.2.2.2.1,v3.2.2.2.2.2.2.2.2.2.2.1,v3.2.2.2.2.2.2.2.2.2.2.2,()),(v4.1,v4.2.1.1,v4.2.1.2,(),v4.2.2.2.1,v4.2.2.2.2.1,v4.2.2.2.2.2.1,v4.2.2.2.2.2.2.1,v4.2.2.2.2.2.2.2.1,(),v4.2.2.2.2.2.2.2.2.2.1,v4.2.2.2.2.2.2.2.2.2.2.1,v4.2.2.2.2.2.2.2.2.2.2.2,()),((),(),v5.2.2.1,(),()),()),(v4.2.2.1,v5.1,v5.2.1,v5.2.2.2,()))
abbrev yxY (v0 v1:Int) (v2:dG) (v3 v4:dA) (v5:dM):(yeH).X:=(((v0,()),((),()),((),()),((),()),(v1,()),((),()),()),((v2.1,v2.2,()),(v3.1,v3.2.1.1,v3.2.1.2,(),v3.2.2.2.1,v3.2.2.2.2.1,v3.2.2.2.2.2.1,v3.2.2.2.2.2.2.1,v3.2.2.2.2.2.2.2.1,(),v3.2.2.2.2.2.2.2.2.2.1,v3.2.2.2.2.2.2.2.2.2.2.1,v3.2.2.2.2.2.2.2.2.2.2.2,()),(v4.1,v4.2.1.1,v4.2.1.2,(),v4.2.2.2.1,v4.2.2.2.2.1,v4.2.2.2.2.2.1,v4.2.2.2.2.2.2.1,v4.2.2.2.2.2.2.2.1,(),v4.2.2.2.2.2.2.2.2.2.1,v4.2.2.2.2.2.2.2.2.2.2.1,v4.2.2.2.2.2.2.2.2.2.2.2,()),((),(),v5.2.2.1,(),()),()),(v4.2.2.1,v5.1,v5.2.1,v5.2.2.2,()))
def ynP (v0 v1 v2 v3 v4 v5 v6 v7 v8 v9 v10 v11 v12 v13:Int) (v14 v15:Bool) (v16 v17 v18 v19 v20 v21 v22 v23 v24:Int) (v25 v26 v27:Bool) (v28:List dM) (v29:List (List Int)) (v30:List dW) (v31:List Int):Option ((yaV).X ⊕ ((yeH).X ⊕ (yiG).X)) :=
 bif (ltb v2 v4) then
 let r13:=yaG v2
 bif (inb r13 v29.length) then
 some (.inl (((v0,()),((),()),((),()),((),()),(v1,()),((),()),((IntKind.i64.wrap (v2+1)),()),()),((v3,v4,()),(v5,v6,v7,(),v8,v9,v10,v11,v12,(),v13,v14,v15,()),(v16,v17,v18,(),v19,v20,v21,v22,v23,(),v24,v25,v26,()),((),(),v27,(),()),()),(v28,(v29.set (r13).toNat ([0]:List Int)),v30,v31,())))
 else none
 else
 some (.inr (.inl (((v0,()),((),()),((),()),((),()),(v1,()),((),()),()),((v3,v4,()),(v5,v6,v7,(),v8,v9,v10,v11,v12,(),v13,v14,v15,()),(v16,v17,v18,(),v19,v20,v21,v22,v23,(),v24,v25,v26,()),((),(),v27,(),()),()),(v28,v29,v30,v31,()))))
def ybf (x:(yaV).X):=ynP x.1.1.1 x.1.2.2.2.2.1.1 x.1.2.2.2.2.2.2.1.1 x.2.1.1.1 x.2.1.1.2.1 x.2.1.2.1.1 x.2.1.2.1.2.1 x.2.1.2.1.2.2.1 x.2.1.2.1.2.2.2.2.1 x.2.1.2.1.2.2.2.2.2.1 x.2.1.2.1.2.2.2.2.2.2.1 x.2.1.2.1.2.2.2.2.2.2.2.1 x.2.1.2.1.2.2.2.2.2.2.2.2.1 x.2.1.2.1.2.2.2.2.2.2.2.2.2.2.1 x.2.1.2.1.2.2.2.2.2.2.2.2.2.2.2.1 x.2.1.2.1.2.2.2.2.2.2.2.2.2.2.2.2.1 x.2.1.2.2.1.1 x.2.1.2.2.1.2.1 x.2.1.2.2.1.2.2.1 x.2.1.2.2.1.2.2.2.2.1 x.2.1.2.2.1.2.2.2.2.2.1 x.2.1.2.2.1.2.2.2.2.2.2.1 x.2.1.2.2.1.2.2.2.2.2.2.2.1 x.2.1.2.2.1.2.2.2.2.2.2.2.2.1 x.2.1.2.2.1.2.2.2.2.2.2.2.2.2.2.1 x.2.1.2.2.1.2.2.2.2.2.2.2.2.2.2.2.1 x.2.1.2.2.1.2.2.2.2.2.2.2.2.2.2.2.2.1 x.2.1.2.2.2.1.2.2.1 x.2.2.1 x.2.2.2.1 x.2.2.2.2.1 x.2.2.2.2.2.1
def yxI (x:(yeM).X):(yaV).X:=(((x.1.1.1,()),((),()),((),()),((),()),(x.1.2.2.2.2.1.1,()),((),()),(0,()),()),((x.2.1.1.1,x.2.1.1.2.1,()),(x.2.1.2.1.1,x.2.1.2.1.2.1,x.2.1.2.1.2.2.1,(),x.2.1.2.1.2.2.2.2.1,x.2.1.2.1.2.2.2.2.2.1,x.2.1.2.1.2.2.2.2.2.2.1,x.2.1.2.1.2.2.2.2.2.2.2.1,x.2.1.2.1.2.2.2.2.2.2.2.2.1,(),x.2.1.2.1.2.2.2.2.2.2.2.2.2.2.1,x.2.1.2.1.2.2.2.2.2.2.2.2.2.2.2.1,x.2.1.2.1.2.2.2.2.2.2.2.2.2.2.2.2.1,()),(x.2.1.2.2.1.1,x.2.1.2.2.1.2.1,x.2.1.2.2.1.2.2.1,(),x.2.1.2.2.1.2.2.2.2.1,x.2.1.2.2.1.2.2.2.2.2.1,x.2.1.2.2.1.2.2.2.2.2.2.1,x.2.1.2.2.1.2.2.2.2.2.2.2.1,x.2.1.2.2.1.2.2.2.2.2.2.2.2.1,(),x.2.1.2.2.1.2.2.2.2.2.2.2.2.2.2.1,x.2.1.2.2.1.2.2.2.2.2.2.2.2.2.2.2.1,x.2.1.2.2.1.2.2.2.2.2.2.2.2.2.2.2.2.1,()),((),(),x.2.1.2.2.2.1.2.2.1,(),()),()),(x.2.2.1,x.2.2.2.1,x.2.2.2.2.1,x.2.2.2.2.2.1,()))
def yyL:Code:=(zdD yeq 64 125236).getD .skip
theorem yMh:zdD yeq 64 31309=some (.block 2 (.loop yyL)):=by kernel_rfl
theorem yM1 (x:(yaV).X):zg0 ⟨yiQ,60,yGm⟩ 2 yyL 125236 yaV yeH yiG x=ybf x:=by kernel_rfl
def yxN (x:(yeM).X):Nat:=18446744073709551616
def yoZ (x:(yeM).X):Option ((yeH).X ⊕ (yiG).X):=zz ybf (yxN x) (yxI x)
def yyt:Seg:=⟨yeM,yeH,yiG,yoZ⟩
def ywo:Nat→Option Seg:=fun q=>bif Nat.beq q 31309 then some yyt else yGm q
theorem yTj:FrOk Tryz.prog ⟨yiQ,60,ywo⟩ yeq:=(yTi).loop (sg:=yyt) yaV yxI (by decide) yMh ybf yxN (by decide) (fun _=>rfl) (fun x r _ h=>h) yM1
def ycG:Shape:=⟨[(0,false,[.int .i64]),(3,false,[.ptr 0 0]),(4,false,[.ptr 64 0]),(5,false,[.ptr 12480 0]),(6,false,[.int .i64])],[(0,[.int .i64,.int .i64]),(64,[.int .i64,.int .i64,.int .i64,.nil,.int .i64,.int .i64,.int .i64,.int .i64,.int .i64,.nil,.int .i64,.bool,.bool]),(12480,[.int .i64,.int .i64,.int .i64,.at 800000000,.int .i64,.int .i64,.int .i64,.int .i64,.int .i64,.nil,.int .i64,.bool,.bool])],[(800000000,tM,(.pr (.ow .fz) (.pr (.ow (.pr .fz .fz)) (.pr .fz (.ow .fz)))))]⟩
def yh4:Shape:=⟨[(0,false,[.int .i64]),(3,false,[.ptr 0 0]),(4,false,[.ptr 64 0]),(5,false,[.ptr 12480 0]),(6,false,[.ci .i64 0])],[(0,[.int .i64,.int .i64]),(64,[.int .i64,.int .i64,.int .i64,.nil,.int .i64,.int .i64,.int .i64,.int .i64,.int .i64,.nil,.int .i64,.bool,.bool]),(12480,[.int .i64,.int .i64,.int .i64,.at 800000000,.int .i64,.int .i64,.int .i64,.int .i64,.int .i64,.nil,.int .i64,.bool,.bool])],[(800000000,tM,(.pr (.ow .fz) (.pr (.ow (.pr .fz .fz)) (.pr .fz (.ow .fz)))))]⟩
def yhS:Shape:=⟨[(4,false,[.ptr 64 0]),(5,false,[.ptr 12480 0])],[(64,[.int .i64,.int .i64,.int .i64,.nil,.int .i64,.int .i64,.int .i64,.int .i64,.int .i64,.nil,.int .i64,.bool,.bool]),(12480,[.int .i64,.int .i64,.int .i64,.at 800000000,.int .i64,.int .i64,.int .i64,.int .i64,.int .i64,.nil,.int .i64,.bool,.bool])],[(800000000,tM,(.pr (.ow .fz) (.pr (.ow (.pr .fz .fz)) (.pr .fz (.ow .fz)))))]⟩
def ym9:Shape:=⟨[],[],[]⟩
abbrev ylc (v0 v1:Int) (v2:dG) (v3 v4:dA):(ycG).X:=(((v0,()),((),()),((),()),((),()),(v1,()),()),((v2.1,v2.2,()),(v3.1,v3.2.1.1,v3.2.1.2,(),v3.2.2.2.1,v3.2.2.2.2.1,v3.2.2.2.2.2.1,v3.2.2.2.2.2.2.1,v3.2.2.2.2.2.2.2.1,(),v3.2.2.2.2.2.2.2.2.2.1,v3.2.2.2.2.2.2.2.2.2.2.1,v3.2.2.2.2.2.2.2.2.2.2.2,()),(v4.1,v4.2.1.1,v4.2.1.2,(),v4.2.2.2.1,v4.2.2.2.2.1,v4.2.2.2.2.2.1,v4.2.2.2.2.2.2.1,v4.2.2.2.2.2.2.2.1,(),v4.2.2.2.2.2.2.2.2.2.1,v4.2.2.2.2.2.2.2.2.2.2.1,v4.2.2.2.2.2.2.2.2.2.2.2,()),()),(v4.2.2.1,()))
abbrev yRa (v0:Int) (v1:dG) (v2 v3:dA):(yh4).X:=(((v0,()),((),()),((),()),((),()),((),()),()),((v1.1,v1.2,()),(v2.1,v2.2.1.1,v2.2.1.2,(),v2.2.2.2.1,v2.2.2.2.2.1,v2.2.2.2.2.2.1,v2.2.2.2.2.2.2.1,v2.2.2.2.2.2.2.2.1,(),v2.2.2.2.2.2.2.2.2.2.1,v2.2.2.2.2.2.2.2.2.2.2.1,v2.2.2.2.2.2.2.2.2.2.2.2,()),(v3.1,v3.2.1.1,v3.2.1.2,(),v3.2.2.2.1,v3.2.2.2.2.1,v3.2.2.2.2.2.1,v3.2.2.2.2.2.2.1,v3.2.2.2.2.2.2.2.1,(),v3.2.2.2.2.2.2.2.2.2.1,v3.2.2.2.2.2.2.2.2.2.2.1,v3.2.2.2.2.2.2.2.2.2.2.2,()),()),(v3.2.2.1,()))
abbrev yC5 (v0 v1:dA):(yhS).X:=((((),()),((),()),()),((v0.1,v0.2.1.1,v0.2.1.2,(),v0.2.2.2.1,v0.2.2.2.2.1,v0.2.2.2.2.2.1,v0.2.2.2.2.2.2.1,v0.2.2.2.2.2.2.2.1,(),v0.2.2.2.2.2.2.2.2.2.1,v0.2.2.2.2.2.2.2.2.2.2.1,v0.2.2.2.2.2.2.2.2.2.2.2,()),(v1.1,v1.2.1.1,v1.2.1.2,(),v1.2.2.2.1,v1.2.2.2.2.1,v1.2.2.2.2.2.1,v1.2.2.2.2.2.2.1,v1.2.2.2.2.2.2.2.1,(),v1.2.2.2.2.2.2.2.2.2.1,v1.2.2.2.2.2.2.2.2.2.2.1,v1.2.2.2.2.2.2.2.2.2.2.2,()),()),(v1.2.2.1,()))
def ytE (v0 v1 v2 v3 v4 v5 v6 v7 v8 v9 v10 v11 v12:Int) (v13 v14:Bool) (v15 v16 v17 v18 v19 v20 v21 v22 v23:Int) (v24 v25:Bool) (v26:List dM):Option ((ycG).X ⊕ ((yhS).X ⊕ (ym9).X)) :=
 bif (ltb v1 v2) then
 let r15:=ycB (v2,v3)
 let r16:=ybA r15
 let r17:=yM (v0,0,v1,v2,v3,0,(-1),0)
 bif (inb 0 r16.1.length) then
 zjZ (yoZ (((v0,()),((),()),((),()),((),()),(v1,()),((),()),((),()),()),((v2,v3,()),(v4,v5,v6,(),v7,v8,v9,v10,v11,(),v12,v13,v14,()),(v15,v16,v17,(),v18,v19,v20,v21,v22,(),v23,v24,v25,()),((),(),r16.2.2.1,(),()),()),(v26,(r16.1.set (0:Int).toNat r17),r16.2.1,r16.2.2.2,()))) (fun y17 =>
 bif (zjR y17.2.2.1.length ([(y17.2.2.2.1,y17.2.2.2.2.1,y17.2.1.2.2.2.1.2.2.1,y17.2.2.2.2.2.1)]:List dM).length 80) then
 some (.inl (((y17.1.1.1,()),((),()),((),()),((),()),((IntKind.i64.wrap (y17.1.2.2.2.2.1.1+1)),()),()),((y17.2.1.1.1,y17.2.1.1.2.1,()),(y17.2.1.2.1.1,y17.2.1.2.1.2.1,y17.2.1.2.1.2.2.1,(),y17.2.1.2.1.2.2.2.2.1,y17.2.1.2.1.2.2.2.2.2.1,y17.2.1.2.1.2.2.2.2.2.2.1,y17.2.1.2.1.2.2.2.2.2.2.2.1,y17.2.1.2.1.2.2.2.2.2.2.2.2.1,(),y17.2.1.2.1.2.2.2.2.2.2.2.2.2.2.1,y17.2.1.2.1.2.2.2.2.2.2.2.2.2.2.2.1,y17.2.1.2.1.2.2.2.2.2.2.2.2.2.2.2.2.1,()),(y17.2.1.2.2.1.1,y17.2.1.2.2.1.2.1,y17.2.1.2.2.1.2.2.1,(),y17.2.1.2.2.1.2.2.2.2.1,y17.2.1.2.2.1.2.2.2.2.2.1,y17.2.1.2.2.1.2.2.2.2.2.2.1,y17.2.1.2.2.1.2.2.2.2.2.2.2.1,y17.2.1.2.2.1.2.2.2.2.2.2.2.2.1,(),y17.2.1.2.2.1.2.2.2.2.2.2.2.2.2.2.1,y17.2.1.2.2.1.2.2.2.2.2.2.2.2.2.2.2.1,y17.2.1.2.2.1.2.2.2.2.2.2.2.2.2.2.2.2.1,()),()),((y17.2.2.1++([(y17.2.2.2.1,y17.2.2.2.2.1,y17.2.1.2.2.2.1.2.2.1,y17.2.2.2.2.2.1)]:List dM)),())))
 else none) (fun y17 =>
 some (.inr (.inr ((),(),()))))
 else none
 else
 some (.inr (.inl ((((),()),((),()),()),((v4,v5,v6,(),v7,v8,v9,v10,v11,(),v12,v13,v14,()),(v15,v16,v17,(),v18,v19,v20,v21,v22,(),v23,v24,v25,()),()),(v26,()))))
def ydi (x:(ycG).X):=ytE x.1.1.1 x.1.2.2.2.2.1.1 x.2.1.1.1 x.2.1.1.2.1 x.2.1.2.1.1 x.2.1.2.1.2.1 x.2.1.2.1.2.2.1 x.2.1.2.1.2.2.2.2.1 x.2.1.2.1.2.2.2.2.2.1 x.2.1.2.1.2.2.2.2.2.2.1 x.2.1.2.1.2.2.2.2.2.2.2.1 x.2.1.2.1.2.2.2.2.2.2.2.2.1 x.2.1.2.1.2.2.2.2.2.2.2.2.2.2.1 x.2.1.2.1.2.2.2.2.2.2.2.2.2.2.2.1 x.2.1.2.1.2.2.2.2.2.2.2.2.2.2.2.2.1 x.2.1.2.2.1.1 x.2.1.2.2.1.2.1 x.2.1.2.2.1.2.2.1 x.2.1.2.2.1.2.2.2.2.1 x.2.1.2.2.1.2.2.2.2.2.1 x.2.1.2.2.1.2.2.2.2.2.2.1 x.2.1.2.2.1.2.2.2.2.2.2.2.1 x.2.1.2.2.1.2.2.2.2.2.2.2.2.1 x.2.1.2.2.1.2.2.2.2.2.2.2.2.2.2.1 x.2.1.2.2.1.2.2.2.2.2.2.2.2.2.2.2.1 x.2.1.2.2.1.2.2.2.2.2.2.2.2.2.2.2.2.1 x.2.2.1
def yCI (x:(yh4).X):(ycG).X:=(((x.1.1.1,()),((),()),((),()),((),()),(0,()),()),((x.2.1.1.1,x.2.1.1.2.1,()),(x.2.1.2.1.1,x.2.1.2.1.2.1,x.2.1.2.1.2.2.1,(),x.2.1.2.1.2.2.2.2.1,x.2.1.2.1.2.2.2.2.2.1,x.2.1.2.1.2.2.2.2.2.2.1,x.2.1.2.1.2.2.2.2.2.2.2.1,x.2.1.2.1.2.2.2.2.2.2.2.2.1,(),x.2.1.2.1.2.2.2.2.2.2.2.2.2.2.1,x.2.1.2.1.2.2.2.2.2.2.2.2.2.2.2.1,x.2.1.2.1.2.2.2.2.2.2.2.2.2.2.2.2.1,()),(x.2.1.2.2.1.1,x.2.1.2.2.1.2.1,x.2.1.2.2.1.2.2.1,(),x.2.1.2.2.1.2.2.2.2.1,x.2.1.2.2.1.2.2.2.2.2.1,x.2.1.2.2.1.2.2.2.2.2.2.1,x.2.1.2.2.1.2.2.2.2.2.2.2.1,x.2.1.2.2.1.2.2.2.2.2.2.2.2.1,(),x.2.1.2.2.1.2.2.2.2.2.2.2.2.2.2.1,x.2.1.2.2.1.2.2.2.2.2.2.2.2.2.2.2.1,x.2.1.2.2.1.2.2.2.2.2.2.2.2.2.2.2.2.1,()),()),(x.2.2.1,()))
def yEc:Code:=(zdD yeq 64 244).getD .skip
theorem ySH:zdD yeq 64 61=some (.block 0 (.loop yEc)):=by kernel_rfl
theorem yVB (x:(ycG).X):zg0 ⟨yiQ,60,ywo⟩ 0 yEc 244 ycG yhS ym9 x=ydi x:=by kernel_rfl
def yCU (x:(yh4).X):Nat:=18446744073709551616
def yu6 (x:(yh4).X):Option ((yhS).X ⊕ (ym9).X):=zz ydi (yCU x) (yCI x)
def yDc:Seg:=⟨yh4,yhS,ym9,yu6⟩
def yGn:Nat→Option Seg:=fun q=>bif Nat.beq q 61 then some yDc else ywo q
theorem yTk:FrOk Tryz.prog ⟨yiQ,60,yGn⟩ yeq:=(yTj).loop (sg:=yDc) ycG yCI (by decide) ySH ydi yCU (by decide) (fun _=>rfl) (fun x r _ h=>h) yVB
abbrev yiX:List Par:= [.rd tI,.rd tG]
abbrev yur:List OT:= [⟨false,tA,(.pr .fz (.pr (.pr .fz .fz) (.pr (.ow (.pr (.ow .fz) (.pr (.ow (.pr .fz .fz)) (.pr .fz (.ow .fz))))) (.pr .fz (.pr .fz (.pr .fz (.pr .fz (.pr .fz (.pr (.ow (.pr .fz .fz)) (.pr .fz (.pr .fz .fz)))))))))))⟩]
def yqs (a0:Int) (a1:dG):Option (ResD yur×MutD yiX) :=
 let r1:=yg a1
 bif (!(!r1)) then
 let r2:=ya a0 1 60000
 bif (!r2) then
 some (((0,(0,0),[],0,0,0,0,0,[],0,false,false),()),())
 else
 zjZ (yu6 (((a0,()),((),()),((),()),((),()),((),()),()),((a1.1,a1.2,()),(0,0,0,(),0,0,0,0,0,(),0,false,false,()),(a0,a1.1,a1.2,(),(-1),0,0,0,0,(),(-1),false,false,()),()),([],()))) (fun y18 =>
 some (((y18.2.1.2.1.1,(y18.2.1.2.1.2.1,y18.2.1.2.1.2.2.1),y18.2.2.1,y18.2.1.2.1.2.2.2.2.1,y18.2.1.2.1.2.2.2.2.2.1,y18.2.1.2.1.2.2.2.2.2.2.1,y18.2.1.2.1.2.2.2.2.2.2.2.1,y18.2.1.2.1.2.2.2.2.2.2.2.2.1,[],y18.2.1.2.1.2.2.2.2.2.2.2.2.2.2.1,y18.2.1.2.1.2.2.2.2.2.2.2.2.2.2.2.1,y18.2.1.2.1.2.2.2.2.2.2.2.2.2.2.2.2.1),()),())) (fun y18 =>
 none)
 else
 some (((0,(0,0),[],0,0,0,0,0,[],0,false,false),()),())
theorem y3b (x:InD yiX):zjx ⟨yiQ,60,yGn⟩ Tryz.f49.results.toList yeq yiX yur x=yqs x.1 x.2.1:=by kernel_rfl
theorem yYR:ConOk Tryz.prog 49 ⟨yiX,yur,fun x=>yqs x.1 x.2.1⟩:=zj2 (yTk) Tryz.func49 (by kernel_rfl) (by kernel_rfl) Tryz.ntmps49.symm (by decide) (fun x r h=>(y3b x).trans h)
def yoH (a0:Int) (a1:dG):dA:=yAm a0 a1
theorem y05 (a0:Int) (a1:dG) (hk:zi2 yiX (a0,a1,())):yqs a0 a1=(fun n=>some ((n,()),())) (yoH a0 a1):=by
 unfold yqs yoH yAm
 simp only [ybE]
 cases hg:yg a1
 ·rfl
 cases hid:(leb 1 a0&&leb a0 60000)
 ·rfl
 have hge:=yk.1 hg
 have inner: ∀ (i:Int) (a:dA),yoZ (yKx a0 i a1 yaC a (yBe a0 a1 i))=some (.inl (yxY a0 i a1 yaC a (yF a0 a1 i))):=fun i a =>
  zj9 (step:=ybf) a1.2.toNat (fun s m=>ynr a0 i s a1 yaC a m) yJJ (fun _ m=>(m.1.length:Int)=6+a1.2) (fun m=> .inl (yxY a0 i a1 yaC a m)) (fun s m hs hm=>⟨by
   simp only [ybf,ynr,ynP,zj5 (show (s:Int) < a1.2 by omega),cond_true,wr (show -9223372036854775808≤(s:Int)+1 by omega) (by omega),Int.natCast_add,Int.natCast_one,Int.toNat_natCast,ye9]
   have hd:dataAt (s:Int)=((s+6:Nat):Int):=by unfold dataAt; rw [zkx (show (0:Int)≤s by omega),zkx (show (s:Int)≤1099511627776 by omega)]; rfl
   rw [hd,zkm (show s+6 < m.1.length by omega),Int.toNat_natCast]; rfl,by show ((m.1.set _ _).length:Int)=_; rw [List.length_set]; exact hm⟩) (fun m hm=>by simp only [ybf,ynr,ynP,show ((a1.2.toNat:Nat):Int)=a1.2 by omega,zky (Int.le_refl _),cond_false]) (yBe a0 a1 i) (by
   unfold yBe yeQ
   rw [zkx (show 1≤6+a1.2 by omega),zkx (show 6+a1.2≤20 by omega)]
   show (((List.replicate (6+a1.2).toNat ([]:List Int)).set 0 _).length:Int)=_
   rw [List.length_set,List.length_replicate]; omega) 18446744073709551616 (by omega)
 have hmn:ybA (ycB a1)=yeQ (6+a1.2):=by
  unfold ybA ycB
  rw [wr (by omega) (by omega)]
 have h0:inb 0 (yeQ (6+a1.2)).1.length=true:=by
  unfold yeQ
  rw [zkx (show 1≤6+a1.2 by omega),zkx (show 6+a1.2≤20 by omega)]
  show inb 0 (List.replicate (6+a1.2).toNat ([]:List Int)).length=true
  rw [List.length_replicate,zjD]; omega
 have outer:yu6 (yRa a0 a1 yaC (yEa a0 a1))=some (.inl (yC5 yaC ((List.range a1.1.toNat).foldl (fun a (i:Nat)=>yD8 a (yF a0 a1 i)) (yEa a0 a1)))) :=
  zj9 (step:=ydi) a1.1.toNat (fun i a=>ylc a0 i a1 yaC a) (fun a i=>yD8 a (yF a0 a1 i)) (fun i a=>a.2.2.1.length=i) (fun a=> .inl (yC5 yaC a)) (fun i a hi ha=>⟨by
   simp only [ydi,ylc,ytE,zj5 (show (i:Int) < a1.1 by omega),cond_true,wr (show -9223372036854775808≤(i:Int)+1 by omega) (by omega),Int.natCast_add,Int.natCast_one,zks,hmn,h0]
   refine (congrArg (fun z=>zjZ z _ _) (inner i a)).trans ?_
   simp only [zki]
   show (bif zjR a.2.2.1.length [yF a0 a1 i].length 80 then _ else _)=_
   rw [zkb.2 (show (a.2.2.1.length+ [yF a0 a1 i].length) * 80≤140737488355328 by simp only [List.length_cons,List.length_nil]; omega)]
   simp only [cond_true]
   show some (Sum.inl (ylc a0 (IntKind.i64.wrap ((i:Int)+1)) a1 yaC (yD8 a (yF a0 a1 i))))=_
   rw [wr (show -9223372036854775808≤(i:Int)+1 by omega) (by omega)],by show (a.2.2.1++ [_]).length=_; rw [List.length_append,ha]; rfl⟩) (fun a ha=>by simp only [ydi,ylc,ytE,show ((a1.1.toNat:Nat):Int)=a1.1 by omega,zky (Int.le_refl _),cond_false]) (yEa a0 a1) rfl 18446744073709551616 (by omega)
 have hdr: ∀ (l:List Nat) (a:dA),a.2.2.2.2.2.2.2.2.1= []→(l.foldl (fun a (i:Nat)=>yD8 a (yF a0 a1 i)) a).2.2.2.2.2.2.2.2.1= []:=by
  intro l
  induction l with
  | nil=>intro a h; exact h
  | cons x t ih=>intro a h; exact ih _ h
 have h:=hdr (List.range a1.1.toNat) (yEa a0 a1) rfl
 simp only [Bool.not_true,Bool.not_false,cond_true,cond_false,Bool.and_self]
 refine (congrArg (fun z=>zjZ z _ _) outer).trans ?_
 generalize (List.range a1.1.toNat).foldl (fun a (i:Nat)=>yD8 a (yF a0 a1 i)) (yEa a0 a1)=R at h
 simp only [zki]
 show some ((((R.1,R.2.1,R.2.2.1,R.2.2.2.1,R.2.2.2.2.1,R.2.2.2.2.2.1,R.2.2.2.2.2.2.1,R.2.2.2.2.2.2.2.1,[],R.2.2.2.2.2.2.2.2.2):dA),()),())=some ((R,()),())
 rw [← h]
def yHn:Con:=⟨yiX,yur,fun x=>(fun n=>some ((n,()),())) (yoH x.1 x.2.1)⟩
theorem y14:ConOk Tryz.prog 49 yHn:=(yYR).mono (fun x r hk h=>(y05 x.1 x.2.1 hk).trans h)
end
section
def yLg:Code:=(Tryz.f234.body).getD .skip
def yLN:Env:=zj3 TT [] []
theorem yTt:FrOk Tryz.prog ⟨yLN,58,fun _=>none⟩ yLg:=zj7 yb yc trivial
def yWc:Nat→Option Seg:=fun _=>none
abbrev yoe:List Par:= [.pt tU .fz]
abbrev yuz:List OT:= [⟨false,tI,.fz⟩]
def ya8 (a0:dU):Option (ResD yuz×MutD yoe) :=
 bif (ltb a0.2.1 (a0.1.length:Int)) then
 bif (inb a0.2.1 a0.1.length) then
 some (((IntKind.i64.wrap ((BitVec.ofInt IntKind.i64.bits (IntKind.i64.wrap ((IntKind.i64.wrap ((BitVec.ofInt IntKind.i64.bits (IntKind.i64.wrap ((BitVec.ofInt IntKind.i64.bits ((IntKind.i64.wrap ((IntKind.i64.wrap (a0.2.2 * 6364136223846793005))+1442695040888963407)).fdiv (2 ^ (min (33:Int).toNat IntKind.i64.bits))) ^^^ BitVec.ofInt IntKind.i64.bits ((IntKind.i64.wrap ((IntKind.i64.wrap (a0.2.2 * 6364136223846793005))+1442695040888963407)).fdiv (2 ^ (min (47:Int).toNat IntKind.i64.bits)))).toNat:Int)) &&& BitVec.ofInt IntKind.i64.bits 255).toNat:Int))+(IntKind.i64.wrap (nth a0.1 a0.2.1 0)))) &&& BitVec.ofInt IntKind.i64.bits 255).toNat:Int)),()),((a0.1,(IntKind.i64.wrap (a0.2.1+1)),(IntKind.i64.wrap ((IntKind.i64.wrap (a0.2.2 * 6364136223846793005))+1442695040888963407))),()))
 else none
 else
 some (((IntKind.i64.wrap ((BitVec.ofInt IntKind.i64.bits (IntKind.i64.wrap ((BitVec.ofInt IntKind.i64.bits ((IntKind.i64.wrap ((IntKind.i64.wrap (a0.2.2 * 6364136223846793005))+1442695040888963407)).fdiv (2 ^ (min (33:Int).toNat IntKind.i64.bits))) ^^^ BitVec.ofInt IntKind.i64.bits ((IntKind.i64.wrap ((IntKind.i64.wrap (a0.2.2 * 6364136223846793005))+1442695040888963407)).fdiv (2 ^ (min (47:Int).toNat IntKind.i64.bits)))).toNat:Int)) &&& BitVec.ofInt IntKind.i64.bits 255).toNat:Int)),()),((a0.1,a0.2.1,(IntKind.i64.wrap ((IntKind.i64.wrap (a0.2.2 * 6364136223846793005))+1442695040888963407))),()))
theorem y3j (x:InD yoe):zjx ⟨yLN,58,yWc⟩ Tryz.f234.results.toList yLg yoe yuz x=ya8 x.1:=by kernel_rfl
theorem yYZ:ConOk Tryz.prog 234 ⟨yoe,yuz,fun x=>ya8 x.1⟩:=zj2 (yTt) Tryz.func234 (by kernel_rfl) (by kernel_rfl) Tryz.ntmps234.symm (by decide) (fun x r h=>(y3j x).trans h)
def yHr:Con:=⟨yoe,yuz,fun x=>ya8 x.1⟩
theorem y2b:ConOk Tryz.prog 234 yHr:=yYZ
theorem y6j (x:Int):0≤IntKind.i64.wrap ((BitVec.ofInt IntKind.i64.bits x &&& BitVec.ofInt IntKind.i64.bits 255).toNat:Int)∧IntKind.i64.wrap ((BitVec.ofInt IntKind.i64.bits x &&& BitVec.ofInt IntKind.i64.bits 255).toNat:Int)≤255:=by
 have h:(BitVec.ofInt IntKind.i64.bits x &&& BitVec.ofInt IntKind.i64.bits 255).toNat≤255:=by
  rw [BitVec.toNat_and]
  exact Nat.le_trans Nat.and_le_right (by decide)
 rw [wr (by omega) (by omega)]
 omega
theorem yPJ (u:List Int×Int×Int) (h:yG u): ∃ (r:Int) (u':List Int×Int×Int),ya8 u=some ((r,()),(u',()))∧(0≤r∧r≤255)∧yG u':=by
 unfold ya8
 by_cases h1:u.2.1 < (u.1.length:Int)
 ·rw [zj5 h1,zjD.2 ⟨h.1,h1⟩]
  refine ⟨_,_,rfl,y6j _,?_,h.2⟩
  show 0≤IntKind.i64.wrap (u.2.1+1)
  have:=h.1; have:=h.2
  rw [wr (by omega) (by omega)]; omega
 ·rw [zky (Int.not_lt.1 h1)]
  exact ⟨_,_,rfl,y6j _,h⟩
end
section
def yIn:Code:=(Tryz.f150.body).getD .skip
def yI8:Env:=zj3 TT [(234,yHr)] []
theorem yQR:FrOk Tryz.prog ⟨yI8,31,fun _=>none⟩ yIn:=zj7 yb yc ⟨y2b,trivial⟩
def ySB:Nat→Option Seg:=fun _=>none
abbrev yl3:List Par:= [.pt tU .fz,.rd tI]
abbrev ysr:List OT:= [⟨false,tI,.fz⟩]
def yd (a0:dU) (a1:Int):Option (ResD ysr×MutD yl3) :=
 bif (leb a1 0) then
 some ((0,()),(a0,()))
 else
 bif (leb a1 256) then
 bnd (ya8 a0) fun r1 =>
 bif (a1 !=0) then
 some (((r1.1.1.tmod a1),()),(r1.2.1,()))
 else none
 else
 bnd (ya8 a0) fun r2 =>
 bnd (ya8 r2.2.1) fun r3 =>
 bnd (ya8 r3.2.1) fun r4 =>
 bif (a1 !=0) then
 some ((((IntKind.i64.wrap ((IntKind.i64.wrap ((IntKind.i64.wrap (r2.1.1 * 65536))+(IntKind.i64.wrap (r3.1.1 * 256))))+r4.1.1)).tmod a1),()),(r4.2.1,()))
 else none
theorem y0B (x:InD yl3):zjx ⟨yI8,31,ySB⟩ Tryz.f150.results.toList yIn yl3 ysr x=yd x.1 x.2.1:=by kernel_rfl
theorem yVb:ConOk Tryz.prog 150 ⟨yl3,ysr,fun x=>yd x.1 x.2.1⟩:=zj2 (yQR) Tryz.func150 (by kernel_rfl) (by kernel_rfl) Tryz.ntmps150.symm (by decide) (fun x r h=>(y0B x).trans h)
def yz:Con:=⟨yl3,ysr,fun x=>yd x.1 x.2.1⟩
theorem yO:ConOk Tryz.prog 150 yz:=yVb
theorem yA (u:List Int×Int×Int) (n:Int) (h:yG u): ∃ (r:Int) (u':List Int×Int×Int),yd u n=some ((r,()),(u',()))∧(0≤r∧(0 < n→r < n)∧(n≤0→r=0))∧yG u':=by
 unfold yd
 by_cases h0:n≤0
 ·rw [zkx h0]
  exact ⟨_,_,rfl,⟨Int.le_refl _,fun h=>absurd h0 (by omega),fun _=>rfl⟩,h⟩
 ·have hn:(n !=0)=true:=bne_iff_ne.2 (by omega)
  have key: ∀ x:Int,0≤x→0≤x.tmod n∧(0 < n→x.tmod n < n)∧(n≤0→x.tmod n=0):=fun x hx =>
   ⟨Int.tmod_nonneg n hx,fun hp=>Int.tmod_lt_of_pos x hp,fun hp=>absurd hp h0⟩
  rw [zkw (by omega)]
  by_cases h1:n≤256
  ·rw [zkx h1]
   obtain ⟨r1,u1,e1,q1,d1⟩:=yPJ u h
   rw [e1,zku,zkv,zkd,hn]
   exact ⟨_,_,rfl,key r1 q1.1,d1⟩
  ·rw [zkw (by omega)]
   obtain ⟨r1,u1,e1,q1,d1⟩:=yPJ u h
   obtain ⟨r2,u2,e2,q2,d2⟩:=yPJ u1 d1
   obtain ⟨r3,u3,e3,q3,d3⟩:=yPJ u2 d2
   simp only [e1,e2,e3,zku,zkd,hn,zkv]
   refine ⟨_,_,rfl,key _ ?_,d3⟩
   rw [wr (show -9223372036854775808≤r1 * 65536 by omega) (by omega),wr (show -9223372036854775808≤r2 * 256 by omega) (by omega),wr (show -9223372036854775808≤r1 * 65536+r2 * 256 by omega) (by omega),wr (by omega) (by omega)]
   omega
end
end
end Go.Tf
