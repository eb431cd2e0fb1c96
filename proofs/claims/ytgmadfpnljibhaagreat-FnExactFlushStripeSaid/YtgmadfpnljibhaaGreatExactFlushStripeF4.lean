/- Functions of the program, and what they come to. -/
import Derived.Test.YtgmadfpnljibhaaGreatExactFlushStripeF3
namespace Go.Tf
noncomputable section
open Go.Proofs
set_option synthInstance.maxHeartbeats 400000
set_option synthInstance.maxSize 10000
set_option linter.unusedVariables false
set_option linter.unusedSimpArgs false
set_option maxRecDepth 100000
section
def yb5:Code:=(Tryz.f219.body).getD .skip
def yf5:Env:=zki TT [(200,yde)] []
theorem yMD:FrOk Tryz.prog ⟨yf5,49,fun _=>none⟩ yb5:=zkp yb yc ⟨ygU,trivial⟩
def yBM:Nat→Option Seg:=fun _=>none
def ybf:Shape:=⟨[(1,false,[.ptr 0 0]),(2,false,[.ptr 64 0]),(3,false,[.ptr 4480 0]),(15,false,[.br tL]),(16,false,[.int .i64]),(17,false,[.int .i64])],[(0,[.br tL,.br tW,.bool,.br tI]),(64,[.nil,.nil,.bool,.nil]),(4480,[.at 800000001,.nil,.bool,.at 800000000])],[(800000001,tL,(.ow .fz)),(800000000,tI,.fz)]⟩
def yfz:Shape:=⟨[(1,false,[.ptr 0 0]),(2,false,[.ptr 64 0]),(3,false,[.ptr 4480 0]),(15,false,[.br tL]),(16,false,[.int .i64]),(17,false,[.ci .i64 0])],[(0,[.br tL,.br tW,.bool,.br tI]),(64,[.nil,.nil,.bool,.nil]),(4480,[.at 800000001,.nil,.bool,.at 800000000])],[(800000001,tL,(.ow .fz)),(800000000,tI,.fz)]⟩
def yfr:Shape:=⟨[(1,false,[.ptr 0 0]),(2,false,[.ptr 64 0]),(3,false,[.ptr 4480 0])],[(0,[.br tL,.br tW,.bool,.br tI]),(64,[.nil,.nil,.bool,.nil]),(4480,[.at 800000000,.nil,.bool,.at 800000001])],[(800000000,tL,(.ow .fz)),(800000001,tI,.fz)]⟩
def yjE:Shape:=⟨[],[],[]⟩
abbrev ypQ (v0:List (List Int)) (v1 v2:Int) (v3 v4 v5:dM):(ybf).X:=((((),()),((),()),((),()),(v0,()),(v1,()),(v2,()),()),((v3.1,v3.2.1,v3.2.2.1,v3.2.2.2,()),((),(),v4.2.2.1,(),()),((),(),v5.2.2.1,(),()),()),(v5.1,v5.2.2.2,()))
abbrev yLi (v0:List (List Int)) (v1:Int) (v2 v3 v4:dM):(yfz).X:=((((),()),((),()),((),()),(v0,()),(v1,()),((),()),()),((v2.1,v2.2.1,v2.2.2.1,v2.2.2.2,()),((),(),v3.2.2.1,(),()),((),(),v4.2.2.1,(),()),()),(v4.1,v4.2.2.2,()))
abbrev yyY (v0 v1 v2:dM):(yfr).X:=((((),()),((),()),((),()),()),((v0.1,v0.2.1,v0.2.2.1,v0.2.2.2,()),((),(),v1.2.2.1,(),()),((),(),v2.2.2.1,(),()),()),(v2.1,v2.2.2.2,()))
def yp4 (v0:List (List Int)) (v1 v2:Int) (v3:List (List Int)) (v4:List dW) (v5:Bool) (v6:List Int) (v7 v8:Bool) (v9:List (List Int)) (v10:List Int):Option ((ybf).X ⊕ ((yfr).X ⊕ (yjE).X)) :=
 bif (ltb v2 v1) then
 bif (inb v2 v0.length) then
 let r4:=yi (nth v0 v2 [])
 bif (zj4 v9.length ([r4]:List (List Int)).length 24) then
 some (.inl ((((),()),((),()),((),()),(v0,()),(v1,()),((IntKind.i64.wrap (v2+1)),()),()),((v3,v4,v5,v6,()),((),(),v7,(),()),((),(),v8,(),()),()),((v9++([r4]:List (List Int))),v10,())))
 else none
 else none
 else
 some (.inr (.inl ((((),()),((),()),((),()),()),((v3,v4,v5,v6,()),((),(),v7,(),()),((),(),v8,(),()),()),(v9,v10,()))))
def ybu (x:(ybf).X):=yp4 x.1.2.2.2.1.1 x.1.2.2.2.2.1.1 x.1.2.2.2.2.2.1.1 x.2.1.1.1 x.2.1.1.2.1 x.2.1.1.2.2.1 x.2.1.1.2.2.2.1 x.2.1.2.1.2.2.1 x.2.1.2.2.1.2.2.1 x.2.2.1 x.2.2.2.1
def yyt (x:(yfz).X):(ybf).X:=((((),()),((),()),((),()),(x.1.2.2.2.1.1,()),(x.1.2.2.2.2.1.1,()),(0,()),()),((x.2.1.1.1,x.2.1.1.2.1,x.2.1.1.2.2.1,x.2.1.1.2.2.2.1,()),((),(),x.2.1.2.1.2.2.1,(),()),((),(),x.2.1.2.2.1.2.2.1,(),()),()),(x.2.2.1,x.2.2.2.1,()))
def yAd:Code:=(zdI yb5 64 116).getD .skip
theorem yMh:zdI yb5 64 29=some (.block 0 (.loop yAd)):=by kernel_rfl
theorem yNX (x:(ybf).X):zg7 ⟨yf5,49,yBM⟩ 0 yAd 116 ybf yfr yjE x=ybu x:=by kernel_rfl
def yyJ (x:(yfz).X):Nat:=18446744073709551616
def yri (x:(yfz).X):Option ((yfr).X ⊕ (yjE).X):=zr ybu (yyJ x) (yyt x)
def yy8:Seg:=⟨yfz,yfr,yjE,yri⟩
def ytd:Nat→Option Seg:=fun q=>bif Nat.beq q 29 then some yy8 else yBM q
theorem yME:FrOk Tryz.prog ⟨yf5,49,ytd⟩ yb5:=(yMD).loop (sg:=yy8) ybf yyt (by decide) yMh ybu yyJ (by decide) (fun _=>rfl) (fun x r _ h=>h) yNX
def ybg:Shape:=⟨[(2,false,[.ptr 64 0]),(3,false,[.ptr 4480 0]),(30,false,[.br tW]),(31,false,[.int .i64]),(32,false,[.int .i64])],[(64,[.nil,.nil,.bool,.nil]),(4480,[.at 800000000,.at 800000002,.bool,.at 800000001])],[(800000000,tL,(.ow .fz)),(800000002,tW,(.pr .fz (.ow .fz))),(800000001,tI,.fz)]⟩
def yfA:Shape:=⟨[(2,false,[.ptr 64 0]),(3,false,[.ptr 4480 0]),(30,false,[.br tW]),(31,false,[.int .i64]),(32,false,[.ci .i64 0])],[(64,[.nil,.nil,.bool,.nil]),(4480,[.at 800000000,.at 800000002,.bool,.at 800000001])],[(800000000,tL,(.ow .fz)),(800000002,tW,(.pr .fz (.ow .fz))),(800000001,tI,.fz)]⟩
def yfs:Shape:=⟨[(2,false,[.ptr 64 0]),(3,false,[.ptr 4480 0])],[(64,[.nil,.nil,.bool,.nil]),(4480,[.at 800000000,.at 800000001,.bool,.at 800000002])],[(800000000,tL,(.ow .fz)),(800000001,tW,(.pr .fz (.ow .fz))),(800000002,tI,.fz)]⟩
def yjF:Shape:=⟨[],[],[]⟩
abbrev ypR (v0:List dW) (v1 v2:Int) (v3 v4:dM):(ybg).X:=((((),()),((),()),(v0,()),(v1,()),(v2,()),()),(((),(),v3.2.2.1,(),()),((),(),v4.2.2.1,(),()),()),(v4.1,v4.2.1,v4.2.2.2,()))
abbrev yLj (v0:List dW) (v1:Int) (v2 v3:dM):(yfA).X:=((((),()),((),()),(v0,()),(v1,()),((),()),()),(((),(),v2.2.2.1,(),()),((),(),v3.2.2.1,(),()),()),(v3.1,v3.2.1,v3.2.2.2,()))
abbrev yyZ (v0 v1:dM):(yfs).X:=((((),()),((),()),()),(((),(),v0.2.2.1,(),()),((),(),v1.2.2.1,(),()),()),(v1.1,v1.2.1,v1.2.2.2,()))
def yp5 (v0:List dW) (v1 v2:Int) (v3 v4:Bool) (v5:List (List Int)) (v6:List dW) (v7:List Int):Option ((ybg).X ⊕ ((yfs).X ⊕ (yjF).X)) :=
 bif (ltb v2 v1) then
 bif (inb v2 v0.length) then
 let r8:=yi ((nth v0 v2 (0,[])).2)
 bif (zj4 v6.length ([((nth v0 v2 (0,[])).1,r8)]:List dW).length 32) then
 some (.inl ((((),()),((),()),(v0,()),(v1,()),((IntKind.i64.wrap (v2+1)),()),()),(((),(),v3,(),()),((),(),v4,(),()),()),(v5,(v6++([((nth v0 v2 (0,[])).1,r8)]:List dW)),v7,())))
 else none
 else none
 else
 some (.inr (.inl ((((),()),((),()),()),(((),(),v3,(),()),((),(),v4,(),()),()),(v5,v6,v7,()))))
def ybv (x:(ybg).X):=yp5 x.1.2.2.1.1 x.1.2.2.2.1.1 x.1.2.2.2.2.1.1 x.2.1.1.2.2.1 x.2.1.2.1.2.2.1 x.2.2.1 x.2.2.2.1 x.2.2.2.2.1
def yyu (x:(yfA).X):(ybg).X:=((((),()),((),()),(x.1.2.2.1.1,()),(x.1.2.2.2.1.1,()),(0,()),()),(((),(),x.2.1.1.2.2.1,(),()),((),(),x.2.1.2.1.2.2.1,(),()),()),(x.2.2.1,x.2.2.2.1,x.2.2.2.2.1,()))
def yAe:Code:=(zdI yb5 64 244).getD .skip
theorem yMi:zdI yb5 64 61=some (.block 2 (.loop yAe)):=by kernel_rfl
theorem yNY (x:(ybg).X):zg7 ⟨yf5,49,ytd⟩ 2 yAe 244 ybg yfs yjF x=ybv x:=by kernel_rfl
def yyK (x:(yfA).X):Nat:=18446744073709551616
def yrj (x:(yfA).X):Option ((yfs).X ⊕ (yjF).X):=zr ybv (yyK x) (yyu x)
def yy9:Seg:=⟨yfA,yfs,yjF,yrj⟩
def yBN:Nat→Option Seg:=fun q=>bif Nat.beq q 61 then some yy9 else ytd q
theorem yMF:FrOk Tryz.prog ⟨yf5,49,yBN⟩ yb5:=(yME).loop (sg:=yy9) ybg yyu (by decide) yMi ybv yyK (by decide) (fun _=>rfl) (fun x r _ h=>h) yNY
abbrev yf7:List Par:= [.rd tM]
abbrev yqw:List OT:= [⟨false,tM,(.pr (.ow (.ow .fz)) (.pr (.ow (.pr .fz (.ow .fz))) (.pr .fz (.ow .fz))))⟩]
def yl6 (a0:dM):Option (ResD yqw×MutD yf7) :=
 let r1:=yi a0.2.2.2
 zjw (yri ((((),()),((),()),((),()),(a0.1,()),((a0.1.length:Int),()),((),()),()),((a0.1,a0.2.1,a0.2.2.1,a0.2.2.2,()),((),(),false,(),()),((),(),a0.2.2.1,(),()),()),([],r1,()))) (fun y4 =>
 zjw (yrj ((((),()),((),()),(y4.2.1.1.2.1,()),((y4.2.1.1.2.1.length:Int),()),((),()),()),(((),(),y4.2.1.2.1.2.2.1,(),()),((),(),y4.2.1.2.2.1.2.2.1,(),()),()),(y4.2.2.1,[],y4.2.2.2.1,()))) (fun y8 =>
 some (((y8.2.2.1,y8.2.2.2.1,y8.2.1.2.1.2.2.1,y8.2.2.2.2.1),()),())) (fun y8 =>
 none)) (fun y4 =>
 none)
theorem yVT (x:InD yf7):zjH ⟨yf5,49,yBN⟩ Tryz.f219.results.toList yb5 yf7 yqw x=yl6 x.1:=by kernel_rfl
theorem yQK:ConOk Tryz.prog 219 ⟨yf7,yqw,fun x=>yl6 x.1⟩:=zkh (yMF) Tryz.func219 (by kernel_rfl) (by kernel_rfl) Tryz.ntmps219.symm (by decide) (fun x r h=>(yVT x).trans h)
def yaY (a0:dM):dM:=a0
theorem yTH (a0:dM) (hk:zi9 yf7 (a0,())):yl6 a0=(fun n=>some ((n,()),())) (yaY a0):=by
 have hb1:a0.1.length * 24≤2 ^ 47:=hk.1.1.1
 have hb2:a0.2.1.length * 32≤2 ^ 47:=hk.1.2.1.1
 have h1:yri (yLi a0.1 a0.1.length a0 yh ([],[],a0.2.2.1,a0.2.2.2))=some (.inl (yyY a0 yh (a0.1,[],a0.2.2.1,a0.2.2.2))):=by
  have:=zkk (step:=ybu) a0.1 [] (fun i s=>ypQ a0.1 a0.1.length i a0 yh (s,[],a0.2.2.1,a0.2.2.2)) (fun s x=>s++ [x]) (fun i s=>s.length=i) (fun s=> .inl (yyY a0 yh (s,[],a0.2.2.1,a0.2.2.2))) (fun i s hi hs2=>⟨by
   simp only [ybu,ypQ,yp4,zjI (show (i:Int) < a0.1.length by omega),cond_true,wr (show -9223372036854775808≤(i:Int)+1 by omega) (by omega),Int.natCast_add,Int.natCast_one,Int.toNat_natCast,zkO hi,zjW,yi]
   rw [zkw.2 (show (s.length+ [a0.1.getD i []].length) * 24≤140737488355328 by simp only [List.length_cons,List.length_nil]; omega)]; rfl,by simp [hs2]⟩) (fun s _=>by simp only [ybu,ypQ,yp4,zkm (Int.le_refl _),cond_false]) [] rfl 18446744073709551616 (by omega)
  rw [ytu]at this
  exact this
 have h2:yrj (yLj a0.2.1 a0.2.1.length yh (a0.1,[],a0.2.2.1,a0.2.2.2))=some (.inl (yyZ yh a0)):=by
  have:=zkk (step:=ybv) a0.2.1 (0,[]) (fun i s=>ypR a0.2.1 a0.2.1.length i yh (a0.1,s,a0.2.2.1,a0.2.2.2)) (fun s x=>s++ [x]) (fun i s=>s.length=i) (fun s=> .inl (yyZ yh (a0.1,s,a0.2.2.1,a0.2.2.2))) (fun i s hi hs2=>⟨by
   simp only [ybv,ypR,yp5,zjI (show (i:Int) < a0.2.1.length by omega),cond_true,wr (show -9223372036854775808≤(i:Int)+1 by omega) (by omega),Int.natCast_add,Int.natCast_one,Int.toNat_natCast,zkO hi,zjW,yi,zkV]
   rw [zkw.2 (show (s.length+ [a0.2.1.getD i (0,[])].length) * 32≤140737488355328 by simp only [List.length_cons,List.length_nil]; omega)]; rfl,by simp [hs2]⟩) (fun s _=>by simp only [ybv,ypR,yp5,zkm (Int.le_refl _),cond_false]) [] rfl 18446744073709551616 (by omega)
  rw [ytu]at this
  exact this
 unfold yl6 yaY
 simp only [yi,h1,zkJ,h2]
def ylV:Con:=⟨yf7,yqw,fun x=>(fun n=>some ((n,()),())) (yaY x.1)⟩
theorem yvP:ConOk Tryz.prog 219 ylV:=(yQK).mono (fun x r hk h=>(yTH x.1 hk).trans h)
end
section
def yhL:Code:=(Tryz.f143.body).getD .skip
def ynQ:Env:=zki TT [(219,ylV)] []
theorem yKL:FrOk Tryz.prog ⟨ynQ,20,fun _=>none⟩ yhL:=zkp yb yc ⟨yvP,trivial⟩
def yzS:Nat→Option Seg:=fun _=>none
def yaQ:Shape:=⟨[(3,false,[.at 800000000]),(7,false,[.br tM]),(8,false,[.int .i64]),(9,false,[.int .i64])],[],[(800000000,tM,(.pr (.ow (.ow .fz)) (.pr (.ow (.pr .fz (.ow .fz))) (.pr .fz (.ow .fz)))))]⟩
def yes:Shape:=⟨[(3,false,[.at 800000000]),(7,false,[.br tM]),(8,false,[.int .i64]),(9,false,[.ci .i64 0])],[],[(800000000,tM,(.pr (.ow (.ow .fz)) (.pr (.ow (.pr .fz (.ow .fz))) (.pr .fz (.ow .fz)))))]⟩
def yen:Shape:=⟨[(3,false,[.at 800000000])],[],[(800000000,tM,(.pr (.ow (.ow .fz)) (.pr (.ow (.pr .fz (.ow .fz))) (.pr .fz (.ow .fz)))))]⟩
def yiL:Shape:=⟨[],[],[]⟩
abbrev ynp (v0:List dM) (v1 v2:Int) (v3:List dM):(yaQ).X:=((((),()),(v0,()),(v1,()),(v2,()),()),(),(v3,()))
abbrev yJa (v0:List dM) (v1:Int) (v2:List dM):(yes).X:=((((),()),(v0,()),(v1,()),((),()),()),(),(v2,()))
abbrev yI6 (v0:List dM):(yen).X:=((((),()),()),(),(v0,()))
def ynC (v0:List dM) (v1 v2:Int) (v3:List dM):Option ((yaQ).X ⊕ ((yen).X ⊕ (yiL).X)) :=
 bif (ltb v2 v1) then
 bif (inb v2 v0.length) then
 let r2:=yaY ((nth v0 v2 ([],[],false,[])).1,((nth v0 v2 ([],[],false,[])).2).1,(((nth v0 v2 ([],[],false,[])).2).2))
 bif (zj4 v3.length ([r2]:List dM).length 80) then
 some (.inl ((((),()),(v0,()),(v1,()),((IntKind.i64.wrap (v2+1)),()),()),(),((v3++([r2]:List dM)),())))
 else none
 else none
 else
 some (.inr (.inl ((((),()),()),(),(v3,()))))
def ya3 (x:(yaQ).X):=ynC x.1.2.1.1 x.1.2.2.1.1 x.1.2.2.2.1.1 x.2.2.1
def ywt (x:(yes).X):(yaQ).X:=((((),()),(x.1.2.1.1,()),(x.1.2.2.1.1,()),(0,()),()),(),(x.2.2.1,()))
def yyd:Code:=(zdI yhL 64 116).getD .skip
theorem yKh:zdI yhL 64 29=some (.block 0 (.loop yyd)):=by kernel_rfl
theorem yLS (x:(yaQ).X):zg7 ⟨ynQ,20,yzS⟩ 0 yyd 116 yaQ yen yiL x=ya3 x:=by kernel_rfl
def ywE (x:(yes).X):Nat:=18446744073709551616
def ypj (x:(yes).X):Option ((yen).X ⊕ (yiL).X):=zr ya3 (ywE x) (ywt x)
def ywR:Seg:=⟨yes,yen,yiL,ypj⟩
def yzT:Nat→Option Seg:=fun q=>bif Nat.beq q 29 then some ywR else yzS q
theorem yKM:FrOk Tryz.prog ⟨ynQ,20,yzT⟩ yhL:=(yKL).loop (sg:=ywR) yaQ ywt (by decide) yKh ya3 ywE (by decide) (fun _=>rfl) (fun x r _ h=>h) yLS
abbrev yeM:List Par:= [.rd tMs]
abbrev yoa:List OT:= [⟨false,tMs,(.ow (.pr (.ow (.ow .fz)) (.pr (.ow (.pr .fz (.ow .fz))) (.pr .fz (.ow .fz)))))⟩]
def yjZ (a0:List dM):Option (ResD yoa×MutD yeM) :=
 zjw (ypj ((((),()),(a0,()),((a0.length:Int),()),((),()),()),(),(([]:List dM),()))) (fun y2 =>
 some ((y2.2.2.1,()),())) (fun y2 =>
 none)
theorem ySw (x:InD yeM):zjH ⟨ynQ,20,yzT⟩ Tryz.f143.results.toList yhL yeM yoa x=yjZ x.1:=by kernel_rfl
theorem yNB:ConOk Tryz.prog 143 ⟨yeM,yoa,fun x=>yjZ x.1⟩:=zkh (yKM) Tryz.func143 (by kernel_rfl) (by kernel_rfl) Tryz.ntmps143.symm (by decide) (fun x r h=>(ySw x).trans h)
def yoD (a0:List dM):List dM:=a0
theorem yQu (a0:List dM) (hk:zi9 yeM (a0,())):yjZ a0=(fun n=>some ((n,()),())) (yoD a0):=by
 have hb:a0.length * 80≤2 ^ 47:=hk.1.1
 have h1:=zkk (step:=ya3) a0 yh (fun i s=>ynp a0 a0.length i s) (fun s x=>s++ [x]) (fun i s=>s.length=i) (fun s=> .inl (yI6 s)) (fun i s hi hs=>⟨by
   simp only [ya3,ynp,ynC,zjI (show (i:Int) < a0.length by omega),cond_true,wr (show -9223372036854775808≤(i:Int)+1 by omega) (by omega),Int.natCast_add,Int.natCast_one,Int.toNat_natCast,zkO hi,zjW,yaY,zkV]
   rw [zkw.2 (show (s.length+ [a0.getD i ([],[],false,[])].length) * 80≤140737488355328 by simp only [List.length_cons,List.length_nil]; omega)]; rfl,by simp [hs]⟩) (fun s hs=>by simp only [ya3,ynp,ynC,zkm (Int.le_refl _),cond_false]) [] rfl 18446744073709551616 (by omega)
 rw [ytu]at h1
 unfold yjZ yoD
 rw [show ypj (yJa a0 a0.length [])=_ from h1]; rfl
def yAv:Con:=⟨yeM,yoa,fun x=>(fun n=>some ((n,()),())) (yoD x.1)⟩
theorem yRa:ConOk Tryz.prog 143 yAv:=(yNB).mono (fun x r hk h=>(yQu x.1 hk).trans h)
end
section
def ykc:Code:=(Tryz.f98.body).getD .skip
def yqi:Env:=zki TT [(143,yAv),(200,yde)] []
theorem yMB:FrOk Tryz.prog ⟨yqi,31,fun _=>none⟩ ykc:=zkp yb yc ⟨yRa,ygU,trivial⟩
def yBK:Nat→Option Seg:=fun _=>none
def ybe:Shape:=⟨[(1,false,[.ptr 0 0]),(2,false,[.ptr 64 0]),(3,false,[.at 800000000]),(8,false,[.br tW]),(9,false,[.int .i64]),(10,false,[.int .i64])],[(0,[.int .i64,.int .i64,.int .i64,.br tM,.int .i64,.int .i64,.int .i64,.int .i64,.int .i64,.br tW,.int .i64,.bool,.bool]),(64,[.int .i64,.int .i64,.int .i64,.nil,.int .i64,.int .i64,.int .i64,.int .i64,.int .i64,.nil,.int .i64,.bool,.bool])],[(800000000,tW,(.pr .fz (.ow .fz)))]⟩
def yfy:Shape:=⟨[(1,false,[.ptr 0 0]),(2,false,[.ptr 64 0]),(3,false,[.at 800000000]),(8,false,[.br tW]),(9,false,[.int .i64]),(10,false,[.ci .i64 0])],[(0,[.int .i64,.int .i64,.int .i64,.br tM,.int .i64,.int .i64,.int .i64,.int .i64,.int .i64,.br tW,.int .i64,.bool,.bool]),(64,[.int .i64,.int .i64,.int .i64,.nil,.int .i64,.int .i64,.int .i64,.int .i64,.int .i64,.nil,.int .i64,.bool,.bool])],[(800000000,tW,(.pr .fz (.ow .fz)))]⟩
def yfq:Shape:=⟨[(1,false,[.ptr 0 0]),(2,false,[.ptr 64 0]),(3,false,[.at 800000000])],[(0,[.int .i64,.int .i64,.int .i64,.br tM,.int .i64,.int .i64,.int .i64,.int .i64,.int .i64,.br tW,.int .i64,.bool,.bool]),(64,[.int .i64,.int .i64,.int .i64,.nil,.int .i64,.int .i64,.int .i64,.int .i64,.int .i64,.nil,.int .i64,.bool,.bool])],[(800000000,tW,(.pr .fz (.ow .fz)))]⟩
def yjD:Shape:=⟨[],[],[]⟩
abbrev ypP (v0:List dW) (v1 v2:Int) (v3 v4:dA) (v5:List dW):(ybe).X:=((((),()),((),()),((),()),(v0,()),(v1,()),(v2,()),()),((v3.1,v3.2.1.1,v3.2.1.2,v3.2.2.1,v3.2.2.2.1,v3.2.2.2.2.1,v3.2.2.2.2.2.1,v3.2.2.2.2.2.2.1,v3.2.2.2.2.2.2.2.1,v3.2.2.2.2.2.2.2.2.1,v3.2.2.2.2.2.2.2.2.2.1,v3.2.2.2.2.2.2.2.2.2.2.1,v3.2.2.2.2.2.2.2.2.2.2.2,()),(v4.1,v4.2.1.1,v4.2.1.2,(),v4.2.2.2.1,v4.2.2.2.2.1,v4.2.2.2.2.2.1,v4.2.2.2.2.2.2.1,v4.2.2.2.2.2.2.2.1,(),v4.2.2.2.2.2.2.2.2.2.1,v4.2.2.2.2.2.2.2.2.2.2.1,v4.2.2.2.2.2.2.2.2.2.2.2,()),()),(v5,()))
abbrev yLh (v0:List dW) (v1:Int) (v2 v3:dA) (v4:List dW):(yfy).X:=((((),()),((),()),((),()),(v0,()),(v1,()),((),()),()),((v2.1,v2.2.1.1,v2.2.1.2,v2.2.2.1,v2.2.2.2.1,v2.2.2.2.2.1,v2.2.2.2.2.2.1,v2.2.2.2.2.2.2.1,v2.2.2.2.2.2.2.2.1,v2.2.2.2.2.2.2.2.2.1,v2.2.2.2.2.2.2.2.2.2.1,v2.2.2.2.2.2.2.2.2.2.2.1,v2.2.2.2.2.2.2.2.2.2.2.2,()),(v3.1,v3.2.1.1,v3.2.1.2,(),v3.2.2.2.1,v3.2.2.2.2.1,v3.2.2.2.2.2.1,v3.2.2.2.2.2.2.1,v3.2.2.2.2.2.2.2.1,(),v3.2.2.2.2.2.2.2.2.2.1,v3.2.2.2.2.2.2.2.2.2.2.1,v3.2.2.2.2.2.2.2.2.2.2.2,()),()),(v4,()))
abbrev yLc (v0 v1:dA) (v2:List dW):(yfq).X:=((((),()),((),()),((),()),()),((v0.1,v0.2.1.1,v0.2.1.2,v0.2.2.1,v0.2.2.2.1,v0.2.2.2.2.1,v0.2.2.2.2.2.1,v0.2.2.2.2.2.2.1,v0.2.2.2.2.2.2.2.1,v0.2.2.2.2.2.2.2.2.1,v0.2.2.2.2.2.2.2.2.2.1,v0.2.2.2.2.2.2.2.2.2.2.1,v0.2.2.2.2.2.2.2.2.2.2.2,()),(v1.1,v1.2.1.1,v1.2.1.2,(),v1.2.2.2.1,v1.2.2.2.2.1,v1.2.2.2.2.2.1,v1.2.2.2.2.2.2.1,v1.2.2.2.2.2.2.2.1,(),v1.2.2.2.2.2.2.2.2.2.1,v1.2.2.2.2.2.2.2.2.2.2.1,v1.2.2.2.2.2.2.2.2.2.2.2,()),()),(v2,()))
def yp3 (v0:List dW) (v1 v2 v3 v4 v5:Int) (v6:List dM) (v7 v8 v9 v10 v11:Int) (v12:List dW) (v13:Int) (v14 v15:Bool) (v16 v17 v18 v19 v20 v21 v22 v23 v24:Int) (v25 v26:Bool) (v27:List dW):Option ((ybe).X ⊕ ((yfq).X ⊕ (yjD).X)) :=
 bif (ltb v2 v1) then
 bif (inb v2 v0.length) then
 let r2:=yi ((nth v0 v2 (0,[])).2)
 bif (zj4 v27.length ([((nth v0 v2 (0,[])).1,r2)]:List dW).length 32) then
 some (.inl ((((),()),((),()),((),()),(v0,()),(v1,()),((IntKind.i64.wrap (v2+1)),()),()),((v3,v4,v5,v6,v7,v8,v9,v10,v11,v12,v13,v14,v15,()),(v16,v17,v18,(),v19,v20,v21,v22,v23,(),v24,v25,v26,()),()),((v27++([((nth v0 v2 (0,[])).1,r2)]:List dW)),())))
 else none
 else none
 else
 some (.inr (.inl ((((),()),((),()),((),()),()),((v3,v4,v5,v6,v7,v8,v9,v10,v11,v12,v13,v14,v15,()),(v16,v17,v18,(),v19,v20,v21,v22,v23,(),v24,v25,v26,()),()),(v27,()))))
def ybt (x:(ybe).X):=yp3 x.1.2.2.2.1.1 x.1.2.2.2.2.1.1 x.1.2.2.2.2.2.1.1 x.2.1.1.1 x.2.1.1.2.1 x.2.1.1.2.2.1 x.2.1.1.2.2.2.1 x.2.1.1.2.2.2.2.1 x.2.1.1.2.2.2.2.2.1 x.2.1.1.2.2.2.2.2.2.1 x.2.1.1.2.2.2.2.2.2.2.1 x.2.1.1.2.2.2.2.2.2.2.2.1 x.2.1.1.2.2.2.2.2.2.2.2.2.1 x.2.1.1.2.2.2.2.2.2.2.2.2.2.1 x.2.1.1.2.2.2.2.2.2.2.2.2.2.2.1 x.2.1.1.2.2.2.2.2.2.2.2.2.2.2.2.1 x.2.1.2.1.1 x.2.1.2.1.2.1 x.2.1.2.1.2.2.1 x.2.1.2.1.2.2.2.2.1 x.2.1.2.1.2.2.2.2.2.1 x.2.1.2.1.2.2.2.2.2.2.1 x.2.1.2.1.2.2.2.2.2.2.2.1 x.2.1.2.1.2.2.2.2.2.2.2.2.1 x.2.1.2.1.2.2.2.2.2.2.2.2.2.2.1 x.2.1.2.1.2.2.2.2.2.2.2.2.2.2.2.1 x.2.1.2.1.2.2.2.2.2.2.2.2.2.2.2.2.1 x.2.2.1
def yys (x:(yfy).X):(ybe).X:=((((),()),((),()),((),()),(x.1.2.2.2.1.1,()),(x.1.2.2.2.2.1.1,()),(0,()),()),((x.2.1.1.1,x.2.1.1.2.1,x.2.1.1.2.2.1,x.2.1.1.2.2.2.1,x.2.1.1.2.2.2.2.1,x.2.1.1.2.2.2.2.2.1,x.2.1.1.2.2.2.2.2.2.1,x.2.1.1.2.2.2.2.2.2.2.1,x.2.1.1.2.2.2.2.2.2.2.2.1,x.2.1.1.2.2.2.2.2.2.2.2.2.1,x.2.1.1.2.2.2.2.2.2.2.2.2.2.1,x.2.1.1.2.2.2.2.2.2.2.2.2.2.2.1,x.2.1.1.2.2.2.2.2.2.2.2.2.2.2.2.1,()),(x.2.1.2.1.1,x.2.1.2.1.2.1,x.2.1.2.1.2.2.1,(),x.2.1.2.1.2.2.2.2.1,x.2.1.2.1.2.2.2.2.2.1,x.2.1.2.1.2.2.2.2.2.2.1,x.2.1.2.1.2.2.2.2.2.2.2.1,x.2.1.2.1.2.2.2.2.2.2.2.2.1,(),x.2.1.2.1.2.2.2.2.2.2.2.2.2.2.1,x.2.1.2.1.2.2.2.2.2.2.2.2.2.2.2.1,x.2.1.2.1.2.2.2.2.2.2.2.2.2.2.2.2.1,()),()),(x.2.2.1,()))
def yAc:Code:=(zdI ykc 64 116).getD .skip
theorem yMg:zdI ykc 64 29=some (.block 0 (.loop yAc)):=by kernel_rfl
theorem yNW (x:(ybe).X):zg7 ⟨yqi,31,yBK⟩ 0 yAc 116 ybe yfq yjD x=ybt x:=by kernel_rfl
def yyI (x:(yfy).X):Nat:=18446744073709551616
def yrh (x:(yfy).X):Option ((yfq).X ⊕ (yjD).X):=zr ybt (yyI x) (yys x)
def yy7:Seg:=⟨yfy,yfq,yjD,yrh⟩
def yBL:Nat→Option Seg:=fun q=>bif Nat.beq q 29 then some yy7 else yBK q
theorem yMC:FrOk Tryz.prog ⟨yqi,31,yBL⟩ ykc:=(yMB).loop (sg:=yy7) ybe yys (by decide) yMg ybt yyI (by decide) (fun _=>rfl) (fun x r _ h=>h) yNW
abbrev yf6:List Par:= [.rd tA]
abbrev yqv:List OT:= [⟨false,tA,(.pr .fz (.pr (.pr .fz .fz) (.pr (.ow (.pr (.ow (.ow .fz)) (.pr (.ow (.pr .fz (.ow .fz))) (.pr .fz (.ow .fz))))) (.pr .fz (.pr .fz (.pr .fz (.pr .fz (.pr .fz (.pr (.ow (.pr .fz (.ow .fz))) (.pr .fz (.pr .fz .fz)))))))))))⟩]
def yl5 (a0:dA):Option (ResD yqv×MutD yf6) :=
 zjw (yrh ((((),()),((),()),((),()),(a0.2.2.2.2.2.2.2.2.1,()),((a0.2.2.2.2.2.2.2.2.1.length:Int),()),((),()),()),((a0.1,a0.2.1.1,a0.2.1.2,a0.2.2.1,a0.2.2.2.1,a0.2.2.2.2.1,a0.2.2.2.2.2.1,a0.2.2.2.2.2.2.1,a0.2.2.2.2.2.2.2.1,a0.2.2.2.2.2.2.2.2.1,a0.2.2.2.2.2.2.2.2.2.1,a0.2.2.2.2.2.2.2.2.2.2.1,a0.2.2.2.2.2.2.2.2.2.2.2,()),(0,0,0,(),0,0,0,0,0,(),0,false,false,()),()),(([]:List dW),()))) (fun y2 =>
 let r4:=yoD y2.2.1.1.2.2.2.1
 some (((y2.2.1.1.1,(y2.2.1.1.2.1,y2.2.1.1.2.2.1),r4,y2.2.1.1.2.2.2.2.1,y2.2.1.1.2.2.2.2.2.1,y2.2.1.1.2.2.2.2.2.2.1,y2.2.1.1.2.2.2.2.2.2.2.1,y2.2.1.1.2.2.2.2.2.2.2.2.1,y2.2.2.1,y2.2.1.1.2.2.2.2.2.2.2.2.2.2.1,y2.2.1.1.2.2.2.2.2.2.2.2.2.2.2.1,y2.2.1.1.2.2.2.2.2.2.2.2.2.2.2.2.1),()),())) (fun y2 =>
 none)
theorem yVS (x:InD yf6):zjH ⟨yqi,31,yBL⟩ Tryz.f98.results.toList ykc yf6 yqv x=yl5 x.1:=by kernel_rfl
theorem yQJ:ConOk Tryz.prog 98 ⟨yf6,yqv,fun x=>yl5 x.1⟩:=zkh (yMC) Tryz.func98 (by kernel_rfl) (by kernel_rfl) Tryz.ntmps98.symm (by decide) (fun x r h=>(yVS x).trans h)
def yan (a0:dA):dA:=a0
theorem yTG (a0:dA) (hk:zi9 yf6 (a0,())):yl5 a0=(fun n=>some ((n,()),())) (yan a0):=by
 have hb:a0.2.2.2.2.2.2.2.2.1.length * 32≤2 ^ 47:=hk.1.2.2.2.2.2.2.2.2.1.1
 have h1:=zkk (step:=ybt) a0.2.2.2.2.2.2.2.2.1 (0,[]) (fun i s=>ypP a0.2.2.2.2.2.2.2.2.1 a0.2.2.2.2.2.2.2.2.1.length i a0 yxT s) (fun s x=>s++ [x]) (fun i s=>s.length=i) (fun s=> .inl (yLc a0 yxT s)) (fun i s hi hs=>⟨by
   simp only [ybt,ypP,yp3,zjI (show (i:Int) < a0.2.2.2.2.2.2.2.2.1.length by omega),cond_true,wr (show -9223372036854775808≤(i:Int)+1 by omega) (by omega),Int.natCast_add,Int.natCast_one,Int.toNat_natCast,zkO hi,zjW,yi,zkV]
   rw [zkw.2 (show (s.length+ [a0.2.2.2.2.2.2.2.2.1.getD i (0,[])].length) * 32≤140737488355328 by simp only [List.length_cons,List.length_nil]; omega)]; rfl,by simp [hs]⟩) (fun s hs=>by simp only [ybt,ypP,yp3,zkm (Int.le_refl _),cond_false]) [] rfl 18446744073709551616 (by omega)
 rw [ytu]at h1
 unfold yl5 yan
 rw [show yrh (yLh a0.2.2.2.2.2.2.2.2.1 a0.2.2.2.2.2.2.2.2.1.length a0 yxT [])=_ from h1]; rfl
def ytt:Con:=⟨yf6,yqv,fun x=>(fun n=>some ((n,()),())) (yan x.1)⟩
theorem yFD:ConOk Tryz.prog 98 ytt:=(yQJ).mono (fun x r hk h=>(yTG x.1 hk).trans h)
end
section
def yHZ:Code:=(Tryz.f102.body).getD .skip
def yIo:Env:=zki TT [] []
theorem yO7:FrOk Tryz.prog ⟨yIo,4,fun _=>none⟩ yHZ:=zkp yb yc trivial
def yRO:Nat→Option Seg:=fun _=>none
abbrev ymG:List Par:= [.rd tB]
abbrev ysy:List OT:= [⟨false,tI,.fz⟩]
def yvY (a0:Bool):Option (ResD ysy×MutD ymG) :=
 bif a0 then
 some ((0,()),())
 else
 some ((6,()),())
theorem yYE (x:InD ymG):zjH ⟨yIo,4,yRO⟩ Tryz.f102.results.toList yHZ ymG ysy x=yvY x.1:=by kernel_rfl
theorem yUa:ConOk Tryz.prog 102 ⟨ymG,ysy,fun x=>yvY x.1⟩:=zkh (yO7) Tryz.func102 (by kernel_rfl) (by kernel_rfl) Tryz.ntmps102.symm (by decide) (fun x r h=>(yYE x).trans h)
def ys3 (a0:Bool):Int :=
 bif a0 then
 0
 else
 6
def yFd:Con:=⟨ymG,ysy,fun x=>(fun n=>some ((n,()),())) (ys3 x.1)⟩
theorem yWy (a0:Bool):yvY a0=(fun n=>some ((n,()),())) (ys3 a0):=zkS (p:=fun (n:Int)=>((n,()),())) (zkx (p:=fun (n:Int)=>((n,()),())) rfl rfl)
theorem yXH:ConOk Tryz.prog 102 yFd:=(yUa).mono (fun x r _ h=>(yWy x.1).trans h)
end
section
def yH5:Code:=(Tryz.f121.body).getD .skip
def yIu:Env:=zki TT [(134,ykS)] []
theorem yPt:FrOk Tryz.prog ⟨yIu,12,fun _=>none⟩ yH5:=zkp yb yc ⟨ys9,trivial⟩
def yRU:Nat→Option Seg:=fun _=>none
abbrev ymM:List Par:= [.rd tG]
abbrev ysM:List OT:= [⟨false,tI,.fz⟩]
def yv4 (a0:dG):Option (ResD ysM×MutD ymM) :=
 let r1:=yf a0
 bif (!r1) then
 some ((0,()),())
 else
 some (((IntKind.i64.wrap (a0.2 * (IntKind.i64.wrap (a0.1 - 1)))),()),())
theorem yYS (x:InD ymM):zjH ⟨yIu,12,yRU⟩ Tryz.f121.results.toList yH5 ymM ysM x=yv4 x.1:=by kernel_rfl
theorem yUo:ConOk Tryz.prog 121 ⟨ymM,ysM,fun x=>yv4 x.1⟩:=zkh (yPt) Tryz.func121 (by kernel_rfl) (by kernel_rfl) Tryz.ntmps121.symm (by decide) (fun x r h=>(yYS x).trans h)
def yO (a0:dG):Int :=
 let r1:=yf a0
 bif (!r1) then
 0
 else
 (IntKind.i64.wrap (a0.2 * (IntKind.i64.wrap (a0.1 - 1))))
def yvq:Con:=⟨ymM,ysM,fun x=>(fun n=>some ((n,()),())) (yO x.1)⟩
theorem yWM (a0:dG):yv4 a0=(fun n=>some ((n,()),())) (yO a0):=zkS (p:=fun (n:Int)=>((n,()),())) (zkx (p:=fun (n:Int)=>((n,()),())) rfl rfl)
theorem yHf:ConOk Tryz.prog 121 yvq:=(yUo).mono (fun x r _ h=>(yWM x.1).trans h)
theorem yX8 (a:Int×Int):0≤yO a∧yO a≤32:=by
 unfold yO
 cases h:yf a
 ·simp
 ·obtain ⟨⟨h1,h2⟩,h3,h4⟩:=ym.1 h
  have h5:0≤a.2 * (a.1 - 1):=Int.mul_nonneg (by omega) (by omega)
  have h6:a.2 * (a.1 - 1)≤8 * 4:=Int.mul_le_mul h4 (by omega) (by omega) (by omega)
  simp only [Bool.not_true,cond_false,wr (show -9223372036854775808≤a.1 - 1 by omega) (by omega),wr (show -9223372036854775808≤a.2 * (a.1 - 1) by omega) (by omega)]
  omega
theorem yX7 {a:Int×Int} (h:yf a=true):yO a=a.2 * (a.1 - 1):=by
 unfold yO
 obtain ⟨⟨h1,h2⟩,h3,h4⟩:=ym.1 h
 have h5:0≤a.2 * (a.1 - 1):=Int.mul_nonneg (by omega) (by omega)
 have h6:a.2 * (a.1 - 1)≤8 * 4:=Int.mul_le_mul h4 (by omega) (by omega) (by omega)
 simp only [h,Bool.not_true,cond_false,wr (show -9223372036854775808≤a.1 - 1 by omega) (by omega),wr (show -9223372036854775808≤a.2 * (a.1 - 1) by omega) (by omega)]
def yq (l:List dW) (s:Int):Int:=yC (fun e:dW=>e.1==s) l
def ys0 (g:dG) (b:Int):Bool:=leb 0 b&&leb b (yO g - 1)
def yfl (g:dG) (b:Int):Int:=bif ys0 g b then b.tdiv (g.1 - 1) else -1
def yug (g:dG) (b:Int):Int:=bif ys0 g b then b.tmod (g.1 - 1) else -1
theorem yER {g:dG} {b:Int} (h:ys0 g b=true):yf g=true∧(0≤b.tdiv (g.1 - 1)∧b.tdiv (g.1 - 1)≤g.2 - 1)∧(0≤b.tmod (g.1 - 1)∧b.tmod (g.1 - 1)≤g.1 - 2):=by
 simp only [ys0,Bool.and_eq_true,zjQ]at h
 cases hg:yf g
 ·have:yO g=0:=by unfold yO; rw [hg]; rfl
  omega
 ·rw [yX7 hg]at h
  have h2:=ym.1 hg
  rw [Int.tdiv_eq_ediv_of_nonneg h.1,Int.tmod_eq_emod_of_nonneg h.1]
  have h3:=Int.ediv_lt_of_lt_mul (show 0 < g.1 - 1 by omega) (show b < g.2 * (g.1 - 1) by omega)
  have h4:=Int.ediv_nonneg h.1 (show 0≤g.1 - 1 by omega)
  have h5:=Int.emod_nonneg b (show g.1 - 1≠0 by omega)
  have h6:=Int.emod_lt_of_pos b (show 0 < g.1 - 1 by omega)
  exact ⟨rfl,⟨h4,by omega⟩,h5,by omega⟩
theorem y1C {g:dG} {b:Int} (h:ys0 g b=true):yL g (yfl g b)=true:=by
 obtain ⟨h1,h2,_⟩:=yER h
 unfold yfl
 rw [h,cond_true,ydE]
 exact ⟨h1,h2⟩
def yt8 (a:dA) (b:Int):Int:=bif !(yB a) then 1 else bif a.2.2.2.2.2.2.2.2.2.2.1 then 6 else bif ys0 a.2.1 b then 0 else 2
def yeH (a:dA) (s:Int):List Int×Bool:=bif leb 0 (yq a.2.2.2.2.2.2.2.2.1 s) then ((nth a.2.2.2.2.2.2.2.2.1 (yq a.2.2.2.2.2.2.2.2.1 s) (0,[])).2,true) else bif a.2.2.2.2.2.2.2.2.2.2.2 then ([],false) else yHr a s
def y4b (a:dA) (b:Int):Int×Int:=bif yt8 a b !=0 then (0,yt8 a b) else bif (yeH a (yfl a.2.1 b)).2 then (nth (yeH a (yfl a.2.1 b)).1 (yug a.2.1 b) 0,0) else (0,5)
theorem y30 {a:dA} {b:Int} (h:yt8 a b=0):yB a=true∧ys0 a.2.1 b=true∧a.2.2.2.2.2.2.2.2.2.2.1=false:=by
 unfold yt8 at h
 cases ha:yB a
 ·rw [ha]at h; exact absurd (show (1:Int)=0 from h) (by decide)
 ·rw [ha]at h
  cases hd:a.2.2.2.2.2.2.2.2.2.2.1
  ·rw [hd]at h
   cases hb:ys0 a.2.1 b
   ·rw [hb]at h; exact absurd (show (2:Int)=0 from h) (by decide)
   ·exact ⟨rfl,rfl,rfl⟩
  ·rw [hd]at h; exact absurd (show (6:Int)=0 from h) (by decide)
theorem y2C {a:dA} (h:yB a=true) {i:Nat} (hi:i < a.2.2.2.2.2.2.2.2.1.length):(0≤(nth a.2.2.2.2.2.2.2.2.1 i (0,[])).1∧(nth a.2.2.2.2.2.2.2.2.1 i (0,[])).1≤a.2.1.2 - 1)∧((nth a.2.2.2.2.2.2.2.2.1 i (0,[])).2.length:Int)=a.2.1.1 - 1∧(nth a.2.2.2.2.2.2.2.2.1 i (0,[])).2.all isW=true∧(0 < i→(nth a.2.2.2.2.2.2.2.2.1 ((i - 1:Nat):Int) (0,[])).1 < (nth a.2.2.2.2.2.2.2.2.1 i (0,[])).1):=by
 have h1:yaE a.2.1 a.2.2.2.2.2.2.2.2.1=true:=by simp only [yB,Bool.and_eq_true]at h; exact h.2.2.2.1
 simp only [yaE,Bool.not_eq_true',List.any_eq_false,List.mem_range]at h1
 have h2:=h1 i hi
 simp only [yhC,Bool.not_eq_true,Bool.or_eq_false_iff,Bool.not_eq_false',bne_eq_false_iff_eq,Bool.and_eq_true,Bool.and_eq_false_iff,decide_eq_false_iff_not,zjQ]at h2
 refine ⟨h2.1,h2.2.1,h2.2.2.1,fun h0=> ?_⟩
 rcases h2.2.2.2 with h3 | h3
 ·exact absurd h0 h3
 ·have:=mt zk0 (by rw [h3]; simp: ¬ leb (nth a.2.2.2.2.2.2.2.2.1 i (0,[])).1 (nth a.2.2.2.2.2.2.2.2.1 ((i - 1:Nat):Int) (0,[])).1=true)
  omega
theorem y0f {a:dA} {s:Int} (h:yB a=true) (hs:yL a.2.1 s=true) (h2:(yeH a s).2=true):((yeH a s).1.length:Int)=a.2.1.1 - 1:=by
 have hg:=ym.1 (yew h)
 unfold yeH at h2 ⊢
 cases hk:leb 0 (yq a.2.2.2.2.2.2.2.2.1 s)
 ·rw [hk]at h2
  simp only [cond_false]at h2 ⊢
  cases hb:a.2.2.2.2.2.2.2.2.2.2.2
  ·rw [hb]at h2
   simp only [cond_false]at h2 ⊢
   unfold yHr at h2 ⊢
   cases hw:(yhg a s).2
   ·rw [hw]at h2; cases h2
   ·simp only [cond_true,List.length_map,List.length_range]; omega
  ·rw [hb]at h2; cases h2
 ·have h3:=zjP.1 (yxc (d:=((0,[]):dW)) hk).1
  have:=(y2C h (i:=(yq a.2.2.2.2.2.2.2.2.1 s).toNat) (by unfold yq; omega)).2.1
  rw [show (((yq a.2.2.2.2.2.2.2.2.1 s).toNat:Nat):Int)=yq a.2.2.2.2.2.2.2.2.1 s by have:=zjQ.1 hk; omega]at this
  exact this
theorem y19 (g:dG) (b:Int):ya b 0 (IntKind.i64.wrap (yO g - 1))=ys0 g b:=by
 have:=yX8 g
 rw [wr (by omega) (by omega),ye1]; rfl
end
section
def yFW:Code:=(Tryz.f226.body).getD .skip
def yGt:Env:=zki TT [(134,ykS),(135,yl)] []
theorem yM2:FrOk Tryz.prog ⟨yGt,60,fun _=>none⟩ yFW:=zkp yb yc ⟨ys9,yp,trivial⟩
def yOy:Nat→Option Seg:=fun _=>none
abbrev ykE:List Par:= [.rd tS]
abbrev yqK:List OT:= [⟨false,tB,.fz⟩]
def ytQ (a0:dS):Option (ResD yqK×MutD ykE) :=
 let r1:=yf (a0.2.2.2.1,a0.2.2.2.2.1)
 bif (!(!r1)) then
 let r2:=ya a0.1 1 60000
 bif (!(!r2)) then
 let r3:=ya a0.2.1 0 60000
 bif (!(!r3)) then
 let r4:=ya a0.2.2.1 0 (IntKind.i64.wrap (a0.2.2.2.1 - 1))
 bif (!(!r4)) then
 let r5:=ya a0.2.2.2.2.2.1 0 60000
 bif (!r5) then
 some ((false,()),())
 else
 let r6:=ya a0.2.2.2.2.2.2.1 (-1) (IntKind.i64.wrap (a0.2.2.2.1 - 1))
 bif r6 then
 let r7:=ya a0.2.2.2.2.2.2.2 0 a0.2.2.2.2.1
 bif r7 then
 bif (!(leb 0 a0.2.2.2.2.2.2.1)) then
 some (((a0.2.2.2.2.2.2.2==0),()),())
 else
 some ((true,()),())
 else
 some ((false,()),())
 else
 some ((false,()),())
 else
 some ((false,()),())
 else
 some ((false,()),())
 else
 some ((false,()),())
 else
 some ((false,()),())
theorem yV8 (x:InD ykE):zjH ⟨yGt,60,yOy⟩ Tryz.f226.results.toList yFW ykE yqK x=ytQ x.1:=by kernel_rfl
theorem yQZ:ConOk Tryz.prog 226 ⟨ykE,yqK,fun x=>ytQ x.1⟩:=zkh (yM2) Tryz.func226 (by kernel_rfl) (by kernel_rfl) Tryz.ntmps226.symm (by decide) (fun x r h=>(yV8 x).trans h)
def ycl (a0:dS):Bool :=
 let r1:=yf (a0.2.2.2.1,a0.2.2.2.2.1)
 bif (!(!r1)) then
 let r2:=ya a0.1 1 60000
 bif (!(!r2)) then
 let r3:=ya a0.2.1 0 60000
 bif (!(!r3)) then
 let r4:=ya a0.2.2.1 0 (IntKind.i64.wrap (a0.2.2.2.1 - 1))
 bif (!(!r4)) then
 let r5:=ya a0.2.2.2.2.2.1 0 60000
 bif (!r5) then
 false
 else
 let r6:=ya a0.2.2.2.2.2.2.1 (-1) (IntKind.i64.wrap (a0.2.2.2.1 - 1))
 bif r6 then
 let r7:=ya a0.2.2.2.2.2.2.2 0 a0.2.2.2.2.1
 bif r7 then
 bif (!(leb 0 a0.2.2.2.2.2.2.1)) then
 (a0.2.2.2.2.2.2.2==0)
 else
 true
 else
 false
 else
 false
 else
 false
 else
 false
 else
 false
 else
 false
def yCI:Con:=⟨ykE,yqK,fun x=>(fun n=>some ((n,()),())) (ycl x.1)⟩
theorem yTW (a0:dS):ytQ a0=(fun n=>some ((n,()),())) (ycl a0):=zkS (p:=fun (n:Bool)=>((n,()),())) (zkx (p:=fun (n:Bool)=>((n,()),())) (zkx (p:=fun (n:Bool)=>((n,()),())) (zkx (p:=fun (n:Bool)=>((n,()),())) (zkx (p:=fun (n:Bool)=>((n,()),())) (zkx (p:=fun (n:Bool)=>((n,()),())) rfl (zkx (p:=fun (n:Bool)=>((n,()),())) (zkx (p:=fun (n:Bool)=>((n,()),())) (zkx (p:=fun (n:Bool)=>((n,()),())) rfl rfl) rfl) rfl)) rfl) rfl) rfl) rfl)
theorem yUU:ConOk Tryz.prog 226 yCI:=(yQZ).mono (fun x r _ h=>(yTW x.1).trans h)
abbrev yW3:dS:=(0,0,0,0,0,0,0,0)
theorem y1D {s:dS}:ycl s=true↔yf (s.2.2.2.1,s.2.2.2.2.1)=true∧(1≤s.1∧s.1≤60000)∧(0≤s.2.1∧s.2.1≤60000)∧(0≤s.2.2.1∧s.2.2.1≤s.2.2.2.1 - 1)∧(0≤s.2.2.2.2.2.1∧s.2.2.2.2.2.1≤60000)∧(-1≤s.2.2.2.2.2.2.1∧s.2.2.2.2.2.2.1≤s.2.2.2.1 - 1)∧(0≤s.2.2.2.2.2.2.2∧s.2.2.2.2.2.2.2≤s.2.2.2.2.1)∧(0≤s.2.2.2.2.2.2.1∨s.2.2.2.2.2.2.2=0):=by
 unfold ycl
 cases hg:yf (s.2.2.2.1,s.2.2.2.2.1)
 ·simp
 have hg2:=ym.1 hg
 simp only at hg2
 rw [wr (show -9223372036854775808≤s.2.2.2.1 - 1 by omega) (by omega)]
 simp only [Bool.not_not,cond_true,true_and]
 simp only [← yr9]
 cases ya s.1 1 60000
 ·simp
 cases ya s.2.1 0 60000
 ·simp
 cases ya s.2.2.1 0 (s.2.2.2.1 - 1)
 ·simp
 cases ya s.2.2.2.2.2.1 0 60000
 ·simp
 cases ya s.2.2.2.2.2.2.1 (-1) (s.2.2.2.1 - 1)
 ·simp
 cases ya s.2.2.2.2.2.2.2 0 s.2.2.2.2.1
 ·simp
 cases hl:leb 0 s.2.2.2.2.2.2.1
 ·have:=mt zk0 (by rw [hl]; simp: ¬ leb 0 s.2.2.2.2.2.2.1=true)
  simp [this]
 ·simp [zjQ.1 hl]
def y1N (l:List Int):dS:=(nth l 1 0,nth l 2 0,nth l 3 0,nth l 4 0,nth l 5 0,nth l 6 0,IntKind.i64.wrap (nth l 7 0 - 1),nth l 8 0)
def y0Y (l:List Int):dS×Bool:=bif (l.length:Int)==9&&(nth l 0 0==21317&&ycl (y1N l)) then (y1N l,true) else (yW3,false)
def y2z (m:dM) (i:Int):dS:=(y0Y (ynh m i).1).1
def y0n (m:dM) (id i:Int):Bool:=(ynh m i).2&&((y0Y (ynh m i).1).2&&((y2z m i).1==id&&(y2z m i).2.1.tmod 2==i))
def y0m (b:dS×Bool) (ok:Bool) (s:dS):dS×Bool:=bif ok&&(!b.2||ltb b.1.2.1 s.2.1) then (s,true) else b
def yx9 (m:dM) (id:Int):dS×Bool:=(List.range 2).foldl (fun s (i:Nat)=>y0m s (y0n m id i) (y2z m i)) (yW3,false)
def y2Y (m:dM) (i id:Int):Bool:= !m.2.2.1&&((yx9 m id).2&&(yx9 m id).1.2.2.1==i)
def ySm (l:List dM) (id:Int):dS×Bool:=(List.range l.length).foldl (fun s (i:Nat)=>y0m s (y2Y (nth l i yh) i id) (yx9 (nth l i yh) id).1) (yW3,false)
def y22 (l:List dM) (id:Int) (s:Int×Int×Bool) (i:Nat):Int×Int×Bool:=bif y2Y (nth l i yh) i id then s else bif s.1== -1||s.1==i then ((i:Int),0,s.2.2) else (s.1,s.2.1,true)
def y3p (b:dS) (l:List dM) (id:Int) (s:Int×Int×Bool):dA:=(id,(b.2.2.2.1,b.2.2.2.2.1),l,s.1,s.2.1,b.2.2.2.2.2.1,b.2.2.2.2.2.1,b.2.1,[],-1,false,s.2.2)
def y18 (l:List dM) (id:Int):dA:=y3p (ySm l id).1 l id ((List.range l.length).foldl (y22 l id) ((ySm l id).1.2.2.2.2.2.2.1,(ySm l id).1.2.2.2.2.2.2.2,false))
def y36 (l:List dM) (id:Int):dA×Bool:=bif (ySm l id).2&&((l.length:Int)==(ySm l id).1.2.2.2.1&&yB (y18 l id)) then (y18 l id,true) else (yxT,false)
theorem y2y (b:dS×Bool) (s:dS):y0m b false s=b:=rfl
theorem y1x {m:dM} {i:Int} (h:(ynh m i).2=true):yr m=true:=by
 unfold ynh at h
 cases hc:yVO m i
 ·rw [hc]at h; cases h
 ·exact (Bool.and_eq_true_iff.1 hc).1
theorem y2A {m:dM} {id i:Int} (h:yr m=false):y0n m id i=false:=by
 unfold y0n
 cases hr:(ynh m i).2
 ·rfl
 ·rw [y1x hr]at h; cases h
theorem y37 {m:dM} {id:Int} (h:(yx9 m id).2=true):yr m=true:=by
 cases hm:yr m
 ·unfold yx9 at h
  simp only [y2A hm,y2y]at h
  exact h
 ·rfl
end
end
end Go.Tf
