/- Walks and plain laws that lead to the given statement, part 6 of 10. -/
import Derived.Test.YtongccnhomncnaaGreatQE
import Derived.Test.YtongccnhomncnaaGreatProg
set_option maxRecDepth 100000
set_option maxHeartbeats 4000000
set_option linter.all false
open Nat renaming beq_refl->nbr
namespace Go.Proofs.YtongccnhomncnaaGreat.Cm
open Go Go.Sx Go.Azalai
theorem Zup {a b A:Int} (h0:0<=a) (h1:a<=A) (hA:A<=1000000000000000) (hb:1<=b) (hb2:b<=1000000000) :
 IntKind.i64.wrap (a+b)=a+b/\IntKind.i64.wrap (a+b - 1)=a+b - 1/\IntKind.i64.wrap ((a+b - 1).tdiv b)=upF a b:=by
 have:=Zlh h0 h1 hb;refine ⟨Zg (by omega) (by omega),Zg (by omega) (by omega),?_⟩;unfold upF at *;exact Zg (by omega) (by omega)
theorem ZfJ (a b:Int) (h0:0<=a) (h1:a<=1000000000000000) (hb:1<=b) (hb2:b<=1000000000):Ct Tryz.prog 175 [I a,I b] (I (upF a b)):=by
 obtain ⟨q1,q2,q3⟩:=Zup h0 h1 (Int.le_refl _) hb hb2;refine t175.1 (by simp) (by simp) ?_;dsimp only [c175,r175,go_sem];simp only [q1,q2];refine ZvB (by omega) ?_;dsimp only [go_sem];rw [q3]
def scl (s:Span) (b n:Int):Span:=⟨(s.lo * n).tdiv b,upF (s.hi * n) b⟩
theorem Zfj (s:Span) (b n A:Int) (c:Bool) (h1:0<=s.lo) (h2:s.lo<=s.hi) (h3:0<=n) (h4:s.hi * n<=100000000000000) (hb:1<=b) (hb2:b<=1000000000) :
 Ct Tryz.prog 171 [.agg (Ze s),I b,.sl c 1 [[I n]]] (.agg (Ze (scl s b n))):=by
 have k1:0<=s.lo * n:=Int.mul_nonneg h1 h3;have k2:s.lo * n<=s.hi * n:=Int.mul_le_mul_of_nonneg_right h2 h3;refine t171.1 (by simp [Ze,KFR]) (by simp [Ze]) ?_;dsimp only [c171,r171,Ze,go_sem];refine ZY 2 ?_;dsimp only [Zb,go_sem];refine Zr (by decide) ?_;dsimp only [Zb,go_sem];refine ixs 0 [I n] rfl rfl ?_;dsimp only [Zb,go_sem];refine Zo (by decide) ?_;dsimp only [go_sem];rw [Zg (n:=s.lo * n) (by omega) (by omega),Zg (n:=s.hi * n) (by omega) (by omega)]
 refine ZvB (by omega) ?_;dsimp only [go_sem];refine call (ZfJ _ _ (by omega) (by omega) hb hb2) ?_;dsimp only [go_sem];have:=WR k1 (Int.le_trans k2 h4) hb;rw [Zg (n:=(s.lo * n).tdiv b) (by omega) (by omega)];rfl
theorem UZ (s:Span) (b n m A:Int) (c:Bool) (h1:0<=s.lo) (h2:s.lo<=s.hi) (h3:0<=n) (h3':0<=m) (h4:s.hi * n<=100000000000000) (h5:s.hi * n * m<=100000000000000) (hb:1<=b) (hb2:b<=1000000000) :
 Ct Tryz.prog 171 [.agg (Ze s),I b,.sl c 1 [[I n],[I m]]] (.agg (Ze ⟨(s.lo * n * m).tdiv b,upF (s.hi * n * m) b⟩)):=by
 have k1:0<=s.lo * n:=Int.mul_nonneg h1 h3;have k2:s.lo * n<=s.hi * n:=Int.mul_le_mul_of_nonneg_right h2 h3;have k3:0<=s.lo * n * m:=Int.mul_nonneg k1 h3';have k4:s.lo * n * m<=s.hi * n * m:=Int.mul_le_mul_of_nonneg_right k2 h3';refine t171.1 (by simp [Ze,KFR]) (by simp [Ze]) ?_;dsimp only [c171,r171,Ze,go_sem];refine ZY 3 ?_;dsimp only [Zb,go_sem];refine Zr (by decide) ?_;dsimp only [Zb,go_sem];refine ixs 0 [I n] rfl rfl ?_
 dsimp only [Zb,go_sem];refine Zr (by decide) ?_;dsimp only [Zb,go_sem];refine ixs 1 [I m] rfl rfl ?_;dsimp only [Zb,go_sem];refine Zo (by decide) ?_;dsimp only [go_sem];rw [Zg (n:=s.lo * n) (by omega) (by omega),Zg (n:=s.hi * n) (by omega) (by omega),Zg (n:=s.lo * n * m) (by omega) (by omega),Zg (n:=s.hi * n * m) (by omega) (by omega)];refine ZvB (by omega) ?_;dsimp only [go_sem];refine call (ZfJ _ _ (by omega) (by omega) hb hb2) ?_
 dsimp only [go_sem];have:=WR k3 (Int.le_trans k4 h5) hb;rw [Zg (n:=(s.lo * n * m).tdiv b) (by omega) (by omega)]
def bdS (A:Int) (s:Span):Prop:=0<=s.lo/\s.lo<=A/\0<=s.hi/\s.hi<=A
theorem Ud (s t:Span) (c:Bool) (h1:bdS 1000000000000000 s) (h2:bdS 1000000000000000 t):Ct Tryz.prog 170 [.sl c 2 [[I s.lo,I s.hi],[I t.lo,I t.hi]]] (.agg (Ze ⟨s.lo+t.lo,s.hi+t.hi⟩)):=by
 unfold bdS at h1 h2;refine t170.1 (by simp [KFR]) (by simp [Ze]) ?_;dsimp only [c170,r170,Ze,go_sem];refine ZY 3 ?_;dsimp only [Zb,go_sem];refine Zr (by decide) ?_;dsimp only [Zb,go_sem];refine ixs 0 [I s.lo,I s.hi] rfl rfl ?_;dsimp only [Zb,go_sem];refine Zr (by decide) ?_;dsimp only [Zb,go_sem];refine ixs 1 [I t.lo,I t.hi] rfl rfl ?_;dsimp only [Zb,go_sem];refine Zo (by decide) ?_;dsimp only [go_sem]
 simp only [Int.zero_add];rw [Zg (n:=s.lo) (by omega) (by omega),Zg (n:=s.hi) (by omega) (by omega),Zg (n:=s.lo+t.lo) (by omega) (by omega),Zg (n:=s.hi+t.hi) (by omega) (by omega)]
theorem plus3 (s t u:Span) (c:Bool) (h1:bdS 1000000000000000 s) (h2:bdS 1000000000000000 t) (h3:bdS 1000000000000000 u):Ct Tryz.prog 170 [.sl c 2 [[I s.lo,I s.hi],[I t.lo,I t.hi],[I u.lo,I u.hi]]] (.agg (Ze ⟨s.lo+t.lo+u.lo,s.hi+t.hi+u.hi⟩)):=by
 unfold bdS at h1 h2 h3;refine t170.1 (by simp [KFR]) (by simp [Ze]) ?_;dsimp only [c170,r170,Ze,go_sem];refine ZY 4 ?_;dsimp only [Zb,go_sem];refine Zr (by decide) ?_;dsimp only [Zb,go_sem];refine ixs 0 [I s.lo,I s.hi] rfl rfl ?_;dsimp only [Zb,go_sem];refine Zr (by decide) ?_;dsimp only [Zb,go_sem];refine ixs 1 [I t.lo,I t.hi] rfl rfl ?_;dsimp only [Zb,go_sem];refine Zr (by decide) ?_;dsimp only [Zb,go_sem]
 refine ixs 2 [I u.lo,I u.hi] rfl rfl ?_;dsimp only [Zb,go_sem];refine Zo (by decide) ?_;dsimp only [go_sem];simp only [Int.zero_add];rw [Zg (n:=s.lo) (by omega) (by omega),Zg (n:=s.hi) (by omega) (by omega),Zg (n:=s.lo+t.lo) (by omega) (by omega),Zg (n:=s.hi+t.hi) (by omega) (by omega),Zg (n:=s.lo+t.lo+u.lo) (by omega) (by omega),Zg (n:=s.hi+t.hi+u.hi) (by omega) (by omega)]
theorem ZxQ (n:Int) (s:Span) (h1:0<=n) (h2:n<=1000000) (h3:bdS 1000000 s):Ct Tryz.prog 178 [I n,.agg (Ze s)] (.agg (Ze ⟨n - s.hi,n - s.lo⟩)):=by
 unfold bdS at h3;refine t178.1 (by simp [Ze]) (by simp [Ze]) ?_;dsimp only [c178,r178,Ze,go_sem];rw [Zg (n:=n - s.hi) (by omega) (by omega),Zg (n:=n - s.lo) (by omega) (by omega)]
theorem breed_bd {b:Breed} (h:ZD b=true):1<=b.full/\b.full<=1000000/\1<=b.fed/\b.fed<=1000000/\0<=b.heal/\b.heal<=1000/\(0<=b.strong.lo/\b.strong.lo<=b.strong.hi/\b.strong.hi<=1000000)/\(0<=b.rest.lo/\b.rest.lo<=b.rest.hi/\b.rest.hi<=100000) /\
 (0<=b.heat.lo/\b.heat.lo<=b.heat.hi/\b.heat.hi<=100000)/\(0<=b.toil.lo/\b.toil.lo<=b.toil.hi/\b.toil.hi<=100000)/\(0<=b.burn.lo/\b.burn.lo<=b.burn.hi/\b.burn.hi<=100000)/\(0<=b.rub.lo/\b.rub.lo<=b.rub.hi/\b.rub.hi<=100000)/\(0<=b.milk.lo/\b.milk.lo<=b.milk.hi/\b.milk.hi<=100000):=by
 simp only [ZD,ZX,inR,Bool.and_eq_true,decide_eq_true_eq] at h;omega
theorem camel_bd {b:Breed} {c:Camel} (hb:ZD b=true) (h:Zz b c=true):(0<=c.water.lo/\c.water.lo<=c.water.hi/\c.water.hi<=b.full)/\(0<=c.fat.lo/\c.fat.lo<=c.fat.hi/\c.fat.hi<=b.fed)/\(0<=c.sore.lo/\c.sore.lo<=c.sore.hi/\c.sore.hi<=1000):=by
 simp only [Zz,ZX,Bool.and_eq_true,decide_eq_true_eq] at h;omega
theorem march_bd {m:March} (h:Z3 m=true):0<=m.hours/\m.hours<=24/\0<=m.load/\m.load<=1000000/\(0<=m.heat.lo/\m.heat.lo<=m.heat.hi/\m.heat.hi<=60)/\(0<=m.grass.lo/\m.grass.lo<=m.grass.hi/\m.grass.hi<=1000000)/\(0<=m.drinks.lo/\m.drinks.lo<=m.drinks.hi/\m.drinks.hi<=1000000):=by
 simp only [Z3,ZX,inR,Bool.and_eq_true,decide_eq_true_eq] at h;omega
theorem ZA6 (b:Breed) (c:Camel) (hb:ZD b=true) (hc:Zz b c=true):Ct Tryz.prog 174 [.agg (ZA b c)] (.agg (Ze (Zfc b c))):=by
 obtain ⟨b1,b2,b3,b4,_⟩:=breed_bd hb;obtain ⟨⟨w1,w2,w3⟩,⟨f1,f2,f3⟩,⟨s1,s2,s3⟩⟩:=camel_bd hb hc;refine t174.1 (by simp [ZA]) (by simp [Ze]) ?_;dsimp only [c174,r174,ZA,go_sem];refine call (UZ c.water b.full 2 1000 0 true w1 w2 (by omega) (by omega) (by omega) (by omega) b1 (by omega)) ?_;dsimp only [Ze,go_sem];refine call (UZ c.fat b.fed 2 1000 0 true f1 f2 (by omega) (by omega) (by omega) (by omega) b3 (by omega)) ?_
 dsimp only [Ze,go_sem];refine call (ZxQ 1000 c.sore (by omega) (by omega) ⟨by omega,by omega,by omega,by omega⟩) ?_;dsimp only [Ze,go_sem];refine ZY 4 ?_;dsimp only [Zb,go_sem];refine Zr (by decide) ?_;dsimp only [Zb,go_sem];refine ixa 0 rfl (by decide) ?_;dsimp only [Zb,go_sem];refine Zr (by decide) ?_;dsimp only [Zb,go_sem];refine ixa 1 rfl (by decide) ?_;dsimp only [Zb,go_sem];refine Zr (by decide) ?_
 dsimp only [Zb,go_sem];refine ixa 2 rfl (by decide) ?_;dsimp only [Zb,go_sem];refine Zo (by decide) ?_;dsimp only [go_sem];have e1:c.water.lo * 2 * 1000=2000 * c.water.lo:=by omega
 have e2:c.water.hi * 2 * 1000=2000 * c.water.hi:=by omega
 have e3:c.fat.lo * 2 * 1000=2000 * c.fat.lo:=by omega
 have e4:c.fat.hi * 2 * 1000=2000 * c.fat.hi:=by omega
 simp only [e1,e2,e3,e4,Zfc,Int.min_assoc]
theorem ZBk {b:Breed} {c:Camel} (hb:ZD b=true) (hc:Zz b c=true):0<=(Zfc b c).lo/\(Zfc b c).lo<=1000/\0<=(Zfc b c).hi/\(Zfc b c).hi<=1000:=by
 obtain ⟨b1,b2,b3,b4,_⟩:=breed_bd hb;obtain ⟨⟨w1,w2,w3⟩,⟨f1,f2,f3⟩,⟨s1,s2,s3⟩⟩:=camel_bd hb hc;have d1:=WR (a:=2000 * c.water.lo) (A:=2000000000) (d:=b.full) (by omega) (by omega) b1;have d2:=WR (a:=2000 * c.fat.lo) (A:=2000000000) (d:=b.fed) (by omega) (by omega) b3;have d3:=Zlh (a:=2000 * c.water.hi) (A:=2000000000) (d:=b.full) (by omega) (by omega) b1;have d4:=Zlh (a:=2000 * c.fat.hi) (A:=2000000000) (d:=b.fed) (by omega) (by omega) b3
 simp only [Zfc];omega
theorem Zzy (b:Breed) (c:Camel) (hb:ZD b=true) (hc:Zz b c=true):Ct Tryz.prog 160 [.agg (ZA b c)] (.agg (Ze (Zzr b c))):=by
 obtain ⟨b1,b2,b3,b4,_,_,⟨g1,g2,g3⟩,_⟩:=breed_bd hb;obtain ⟨q1,q2,q3,q4⟩:=ZBk hb hc;have k1:=UP (a:=b.strong.lo) (A:=1000000) (b:=(Zfc b c).lo) (B:=1000) (by omega) (by omega) q1 q2;have k2:=UP (a:=b.strong.hi) (A:=1000000) (b:=(Zfc b c).hi) (B:=1000) (by omega) (by omega) q3 q4;refine t160.1 (by simp [ZA]) (by simp [Ze]) ?_;dsimp only [c160,r160,ZA,go_sem];refine call (ZA6 b c hb hc) ?_;dsimp only [Ze,go_sem]
 rw [Zg (n:=b.strong.lo * (Zfc b c).lo) (by omega) (by omega)];refine ZvB (by omega) ?_;dsimp only [go_sem];rw [Zg (n:=b.strong.hi * (Zfc b c).hi) (by omega) (by omega)];refine call (ZfJ _ _ (by omega) (by omega) (by omega) (by omega)) ?_;dsimp only [go_sem];have d1:=WR (a:=b.strong.lo * (Zfc b c).lo) (d:=1000) k1.1 k1.2 (by omega);rw [Zg (n:=(b.strong.lo * (Zfc b c).lo).tdiv 1000) (by omega) (by omega)]
 rfl
def sres (b:Breed) (c:Camel) (s:Span):SV:=.tup [.agg (Ze (if Zav b c=0 then s else ZaC)),I (Zav b c)]
theorem errC_0 {b:Breed} {c:Camel}:Zav b c=0↔ZD b=true/\Zz b c=true:=by
 simp only [Zav];cases ZD b<;>cases Zz b c<;>simp
theorem carries_ok (b:Breed) (c:Camel):Ct Tryz.prog 126 [.agg (breedL b),.agg (camelL c)] (sres b c (Zzr b c)):=by
 refine t126.1 (by simp [breedL,camelL]) (by simp [sres,Ze]) ?_;dsimp only [c126,r126,breedL,camelL,go_sem];refine call (checkCamel_ok b c) ?_;dsimp only [go_sem];by_cases h:Zav b c=0
 case neg =>
  refine Zr (by simpa using h) ?_;dsimp only [sres,Ze,go_sem];rw [if_neg h];rfl
 refine Zo (by simpa using h) ?_;obtain ⟨hb,hc⟩:=errC_0.1 h;dsimp only [go_sem];refine call (Zzy b c hb hc) ?_;dsimp only [Ze,sres,go_sem];rw [if_pos h,h]
theorem work_bd {m:March} (h:Z3 m=true):0<=Yx m/\Yx m<=26400000:=by
 obtain ⟨h1,h2,h3,h4,_⟩:=march_bd h;have:=UP (a:=m.hours) (A:=24) (b:=100000+m.load) (B:=1100000) h1 h2 (by omega) (by omega);exact this
theorem toil_bd {m:March} {x:Int} (h:Z3 m=true) (h0:0<=x) (h1:x<=100000):0<=x * Yx m/\x * Yx m<=2640000000000:=by
 obtain ⟨w1,w2⟩:=work_bd h;exact UP h0 h1 w1 w2
theorem heat_bd {x y:Int} (h0:0<=x) (h1:x<=100000) (h2:0<=y) (h3:y<=60):0<=x * max 0 (y - 20)/\x * max 0 (y - 20)<=4000000 :=
 UP h0 h1 (B:=40) (by omega) (by omega)
theorem ZmP (b:Breed) (k:Bool) (m:March) (hb:ZD b=true) (hm:Z3 m=true):Ct Tryz.prog 169 [.agg (breedL b),B k,.agg (marchL m)] (.agg [I (Vu b k m).lo,I (Vu b k m).hi,I (VX b m).lo,I (VX b m).hi]):=by
 obtain ⟨_,_,_,_,_,_,_,⟨r1,r2,r3⟩,⟨a1,a2,a3⟩,⟨t1,t2,t3⟩,⟨u1,u2,u3⟩,_,⟨k1,k2,k3⟩⟩:=breed_bd hb;obtain ⟨m1,m2,m3,m4,⟨g1,g2,g3⟩,_⟩:=march_bd hm;have w0:=work_bd hm;have e1:=heat_bd (x:=b.heat.lo) (y:=m.heat.lo) (by omega) (by omega) (by omega) (by omega);have e2:=heat_bd (x:=b.heat.hi) (y:=m.heat.hi) (by omega) (by omega) (by omega) (by omega);have f1:=toil_bd (x:=b.toil.lo) hm (by omega) (by omega);have f2:=toil_bd (x:=b.toil.hi) hm (by omega) (by omega)
 have f3:=toil_bd (x:=b.burn.lo) hm (by omega) (by omega);have f4:=toil_bd (x:=b.burn.hi) hm (by omega) (by omega);have d1:=WR f1.1 f1.2 (d:=100000) (by omega);have d2:=Zlh f2.1 f2.2 (d:=100000) (by omega);have hw:IntKind.i64.wrap (m.hours * IntKind.i64.wrap (100000+m.load))=Yx m:=by
  rw [Zg (n:=100000+m.load) (by omega) (by omega)];unfold Yx at *;exact Zg (by omega) (by omega)
 refine t169.1 (by simp [breedL,marchL]) (by simp) ?_;dsimp only [c169,r169,breedL,marchL,go_sem];rw [hw,Zg (n:=m.heat.lo - 20) (by omega) (by omega),Zg (n:=m.heat.hi - 20) (by omega) (by omega),Zg (n:=b.heat.lo * max 0 (m.heat.lo - 20)) (by omega) (by omega),Zg (n:=b.heat.hi * max 0 (m.heat.hi - 20)) (by omega) (by omega)];refine call (Zfj b.toil 100000 (Yx m) 0 true t1 t2 w0.1 (by omega) (by omega) (by omega)) ?_
 dsimp only [Ze,go_sem]
 refine call (plus3 b.rest ⟨b.heat.lo * max 0 (m.heat.lo - 20),b.heat.hi * max 0 (m.heat.hi - 20)⟩ (scl b.toil 100000 (Yx m)) true ⟨by omega,by omega,by omega,by omega⟩ ⟨e1.1,by simp only;omega,e2.1,by simp only;omega⟩
  ⟨d1.1,by simp only [scl];omega,d2.1,by simp only [scl];omega⟩) ?_
 dsimp only [Ze,go_sem];refine br ?_ ?_
 . intro hk;dsimp only [go_sem]
   refine call (Ud ⟨b.rest.lo+b.heat.lo * max 0 (m.heat.lo - 20)+(scl b.toil 100000 (Yx m)).lo,b.rest.hi+b.heat.hi * max 0 (m.heat.hi - 20)+(scl b.toil 100000 (Yx m)).hi⟩ b.milk true
    ⟨by simp only [scl];omega,by simp only [scl];omega,by simp only [scl];omega,by simp only [scl];omega⟩ ⟨by omega,by omega,by omega,by omega⟩) ?_
   dsimp only [Ze,go_sem];refine call (Zfj b.burn 100000 (Yx m) 0 true u1 u2 w0.1 (by omega) (by omega) (by omega)) ?_;dsimp only [Ze,go_sem];simp only [Vu,VX,hk,scl,if_true]
 . intro hk;dsimp only [go_sem];refine call (Zfj b.burn 100000 (Yx m) 0 true u1 u2 w0.1 (by omega) (by omega) (by omega)) ?_;dsimp only [Ze,go_sem];simp only [Vu,VX,hk,scl,Bool.false_eq_true,if_false,Int.add_zero]
end Go.Proofs.YtongccnhomncnaaGreat.Cm
namespace Go.Azalai
def ZiF (b:Breed) (c:Camel) (l:List March):Int:=if Zav b c≠0 then Zav b c else if l.length > 60 then 4 else if l.all Z3=false then 12 else 0
end Go.Azalai
namespace Go.Proofs.YtongccnhomncnaaGreat.Cm
open Go Go.Sx Go.Azalai
def tres (r:Span × Int):SV:=.tup [.agg (Ze r.1),I r.2]
end Go.Proofs.YtongccnhomncnaaGreat.Cm
namespace Go.Azalai
def Xa:Camel:=⟨⟨0,0⟩,⟨0,0⟩,⟨0,0⟩,false⟩
def Zbi (most:Int) (has cost gets:Span):Span:=⟨min most (max 0 (has.lo - cost.hi)+gets.lo),min most (has.hi - cost.lo+gets.hi)⟩
def Zch (b:Breed) (s:Span) (m:March):Span :=
 if m.hours=0 then ⟨max 0 (s.lo - b.heal),max 0 (s.hi - b.heal)⟩
 else ⟨min 1000 (s.lo+(b.rub.lo * (m.hours * m.load)).tdiv 1000000),min 1000 (s.hi+upF (b.rub.hi * (m.hours * m.load)) 1000000)⟩
def ZQ (b:Breed) (c:Camel) (m:March):Camel × Int :=
 let w:=Vu b c.milks m
 let f:=VX b m
 if c.water.hi < w.lo\/c.fat.hi < f.lo then (Xa,2)
 else (⟨Zbi b.full c.water w m.drinks,Zbi b.fed c.fat f m.grass,Zch b c.sore m,c.milks⟩,if c.water.lo ≥ w.hi/\c.fat.lo ≥ f.hi then 0 else 1)
theorem Zdv {b:Breed} {k:Bool} {m:March} (hb:ZD b=true) (hm:Z3 m=true):0<=(Vu b k m).lo/\(Vu b k m).lo<=1000000000/\0<=(Vu b k m).hi/\(Vu b k m).hi<=1000000000:=by
 have h:=Go.Proofs.YtongccnhomncnaaGreat.Cm.breed_bd hb;have h2:=Go.Proofs.YtongccnhomncnaaGreat.Cm.march_bd hm;have q1:=Go.Proofs.YtongccnhomncnaaGreat.Cm.toil_bd (x:=b.toil.lo) hm (by omega) (by omega);have q2:=Go.Proofs.YtongccnhomncnaaGreat.Cm.toil_bd (x:=b.toil.hi) hm (by omega) (by omega);have q3:=Go.Proofs.YtongccnhomncnaaGreat.Cm.heat_bd (x:=b.heat.lo) (y:=m.heat.lo) (by omega) (by omega) (by omega) (by omega)
 have q4:=Go.Proofs.YtongccnhomncnaaGreat.Cm.heat_bd (x:=b.heat.hi) (y:=m.heat.hi) (by omega) (by omega) (by omega) (by omega);have r1:0<=(b.toil.lo * Yx m).tdiv 100000/\(b.toil.lo * Yx m).tdiv 100000<=26400000:=by
  rw [Int.tdiv_eq_ediv_of_nonneg q1.1];omega
 have r2:0<=upF (b.toil.hi * Yx m) 100000/\upF (b.toil.hi * Yx m) 100000<=26400001:=by
  unfold upF;rw [Int.tdiv_eq_ediv_of_nonneg (by omega)];omega
 simp only [Vu];cases k<;>simp<;>omega
theorem Zdm {b:Breed} {m:March} (hb:ZD b=true) (hm:Z3 m=true):0<=(VX b m).lo/\(VX b m).lo<=1000000000/\0<=(VX b m).hi/\(VX b m).hi<=1000000000:=by
 have h:=Go.Proofs.YtongccnhomncnaaGreat.Cm.breed_bd hb;have q1:=Go.Proofs.YtongccnhomncnaaGreat.Cm.toil_bd (x:=b.burn.lo) hm (by omega) (by omega);have q2:=Go.Proofs.YtongccnhomncnaaGreat.Cm.toil_bd (x:=b.burn.hi) hm (by omega) (by omega);have r1:0<=(b.burn.lo * Yx m).tdiv 100000/\(b.burn.lo * Yx m).tdiv 100000<=26400000:=by
  rw [Int.tdiv_eq_ediv_of_nonneg q1.1];omega
 have r2:0<=upF (b.burn.hi * Yx m) 100000/\upF (b.burn.hi * Yx m) 100000<=26400001:=by
  unfold upF;rw [Int.tdiv_eq_ediv_of_nonneg (by omega)];omega
 simp only [VX];omega
end Go.Azalai
namespace Go.Proofs.YtongccnhomncnaaGreat.Cm
open Go Go.Sx Go.Azalai
theorem Zky (b:Breed) (c:Camel) (m:March) (hb:ZD b=true) (hc:Zz b c=true) (hm:Z3 m=true) (hd:(ZQ b c m).2≠2) :
 Ct Tryz.prog 154 [.agg (ZA b c),.agg (marchL m)] (.tup [.agg (ZA b (ZQ b c m).1),.v (.int .u8 (ZQ b c m).2)]):=by
 have h1:=breed_bd hb;have h2:=camel_bd hb hc;have h3:=march_bd hm;have w1:=Zdv (k:=c.milks) hb hm;have w2:=Zdm hb hm;have k0:=UP (a:=m.hours) (b:=m.load) (A:=24) (B:=1000000) (by omega) (by omega) (by omega) (by omega);have k1:=UP (a:=b.rub.lo) (b:=m.hours * m.load) (A:=100000) (B:=24000000) (by omega) (by omega) (by omega) (by omega);have k2:=UP (a:=b.rub.hi) (b:=m.hours * m.load) (A:=100000) (B:=24000000) (by omega) (by omega) (by omega) (by omega)
 have k3:=WR k1.1 k1.2 (d:=1000000) (by omega);have k4:=Zlh k2.1 k2.2 (d:=1000000) (by omega);refine t154.1 (by simp [ZA,marchL]) (by simp [ZA]) ?_;dsimp only [c154,r154,ZA,marchL,go_sem];refine call (ZmP b c.milks m hb hm) ?_;dsimp only [go_sem];generalize hW:Vu b c.milks m=W at w1;generalize hF:VX b m=F at w2;have hd':W.lo<=c.water.hi/\F.lo<=c.fat.hi:=by
  by_cases h:c.water.hi < W.lo\/c.fat.hi < F.lo
  . exact absurd (by simp only [ZQ,hW,hF,if_pos h]) hd
  . omega
 clear hd;have k5:=UP (a:=b.rub.hi) (b:=m.hours) (A:=100000) (B:=24) (by omega) (by omega) (by omega) (by omega);have k6:b.rub.hi * m.hours * m.load<=100000000000000:=by rw [Int.mul_assoc];omega
 have hd0:¬ (c.water.hi < W.lo\/c.fat.hi < F.lo):=by omega
 by_cases hp:c.water.lo < W.hi<;>by_cases hq:c.fat.lo < F.hi
 . refine ZY 3 ?_;dsimp only [Zb,go_sem];refine Zr (by decide) ?_;dsimp only [Zb,go_sem];repeat (first | (refine ixa 0 rfl (by decide) ?_;dsimp only [Zb,go_sem]) | (refine Zo (by simp;omega) ?_;dsimp only [Zb,go_sem]) | (refine Zr (by simp;omega) ?_;dsimp only [Zb,go_sem]))
   simp (disch:=omega) only [Zg];refine call (Ud ⟨max 0 (c.water.lo - W.hi),c.water.hi - W.lo⟩ m.drinks _ (by unfold bdS;simp only;omega) (by unfold bdS;omega)) ?_;dsimp only [Zb,Ze,go_sem];repeat (first | (refine ixa 0 rfl (by decide) ?_;dsimp only [Zb,go_sem]) | (refine Zo (by simp;omega) ?_;dsimp only [Zb,go_sem]) | (refine Zr (by simp;omega) ?_;dsimp only [Zb,go_sem]))
   simp (disch:=omega) only [Zg];refine Zr (by decide) ?_;dsimp only [Zb,go_sem];repeat (first | (refine ixa 1 rfl (by decide) ?_;dsimp only [Zb,go_sem]) | (refine Zo (by simp;omega) ?_;dsimp only [Zb,go_sem]) | (refine Zr (by simp;omega) ?_;dsimp only [Zb,go_sem]))
   simp (disch:=omega) only [Zg];refine call (Ud ⟨max 0 (c.fat.lo - F.hi),c.fat.hi - F.lo⟩ m.grass _ (by unfold bdS;simp only;omega) (by unfold bdS;omega)) ?_;dsimp only [Zb,Ze,go_sem];repeat (first | (refine ixa 1 rfl (by decide) ?_;dsimp only [Zb,go_sem]) | (refine Zo (by simp;omega) ?_;dsimp only [Zb,go_sem]) | (refine Zr (by simp;omega) ?_;dsimp only [Zb,go_sem]))
   refine Zo (by decide) ?_;dsimp only [go_sem];have e:(if c.water.lo ≥ W.hi/\c.fat.lo ≥ F.hi then (0:Int) else 1)=1:=if_neg (by omega);by_cases hz:m.hours=0
   . refine Zr (by simpa using hz) ?_;dsimp only [go_sem];simp (disch:=omega) only [Zg];simp only [ZQ,hW,hF,if_neg hd0,Zbi,Zch,ZA,e,if_pos hz]
   . refine Zo (by simpa using hz) ?_;dsimp only [go_sem];refine call (UZ b.rub 1000000 m.hours m.load 0 _ (by omega) (by omega) (by omega) (by omega) (by omega) k6 (by omega) (by omega)) ?_;dsimp only [Ze,go_sem];simp only [Int.mul_assoc];refine call (Ud c.sore ⟨(b.rub.lo * (m.hours * m.load)).tdiv 1000000,upF (b.rub.hi * (m.hours * m.load)) 1000000⟩ _ (by unfold bdS;omega) (by unfold bdS;simp only;omega)) ?_
     dsimp only [Ze,go_sem];simp only [ZQ,hW,hF,if_neg hd0,Zbi,Zch,ZA,e,if_neg hz]
 . refine ZY 3 ?_;dsimp only [Zb,go_sem];refine Zr (by decide) ?_;dsimp only [Zb,go_sem];repeat (first | (refine ixa 0 rfl (by decide) ?_;dsimp only [Zb,go_sem]) | (refine Zo (by simp;omega) ?_;dsimp only [Zb,go_sem]) | (refine Zr (by simp;omega) ?_;dsimp only [Zb,go_sem]))
   simp (disch:=omega) only [Zg];refine call (Ud ⟨max 0 (c.water.lo - W.hi),c.water.hi - W.lo⟩ m.drinks _ (by unfold bdS;simp only;omega) (by unfold bdS;omega)) ?_;dsimp only [Zb,Ze,go_sem];repeat (first | (refine ixa 0 rfl (by decide) ?_;dsimp only [Zb,go_sem]) | (refine Zo (by simp;omega) ?_;dsimp only [Zb,go_sem]) | (refine Zr (by simp;omega) ?_;dsimp only [Zb,go_sem]))
   simp (disch:=omega) only [Zg];refine Zr (by decide) ?_;dsimp only [Zb,go_sem];repeat (first | (refine ixa 1 rfl (by decide) ?_;dsimp only [Zb,go_sem]) | (refine Zo (by simp;omega) ?_;dsimp only [Zb,go_sem]) | (refine Zr (by simp;omega) ?_;dsimp only [Zb,go_sem]))
   simp (disch:=omega) only [Zg];refine call (Ud ⟨max 0 (c.fat.lo - F.hi),c.fat.hi - F.lo⟩ m.grass _ (by unfold bdS;simp only;omega) (by unfold bdS;omega)) ?_;dsimp only [Zb,Ze,go_sem];repeat (first | (refine ixa 1 rfl (by decide) ?_;dsimp only [Zb,go_sem]) | (refine Zo (by simp;omega) ?_;dsimp only [Zb,go_sem]) | (refine Zr (by simp;omega) ?_;dsimp only [Zb,go_sem]))
   refine Zo (by decide) ?_;dsimp only [go_sem];have e:(if c.water.lo ≥ W.hi/\c.fat.lo ≥ F.hi then (0:Int) else 1)=1:=if_neg (by omega);by_cases hz:m.hours=0
   . refine Zr (by simpa using hz) ?_;dsimp only [go_sem];simp (disch:=omega) only [Zg];simp only [ZQ,hW,hF,if_neg hd0,Zbi,Zch,ZA,e,if_pos hz]
   . refine Zo (by simpa using hz) ?_;dsimp only [go_sem];refine call (UZ b.rub 1000000 m.hours m.load 0 _ (by omega) (by omega) (by omega) (by omega) (by omega) k6 (by omega) (by omega)) ?_;dsimp only [Ze,go_sem];simp only [Int.mul_assoc];refine call (Ud c.sore ⟨(b.rub.lo * (m.hours * m.load)).tdiv 1000000,upF (b.rub.hi * (m.hours * m.load)) 1000000⟩ _ (by unfold bdS;omega) (by unfold bdS;simp only;omega)) ?_
     dsimp only [Ze,go_sem];simp only [ZQ,hW,hF,if_neg hd0,Zbi,Zch,ZA,e,if_neg hz]
 . refine ZY 3 ?_;dsimp only [Zb,go_sem];refine Zr (by decide) ?_;dsimp only [Zb,go_sem];repeat (first | (refine ixa 0 rfl (by decide) ?_;dsimp only [Zb,go_sem]) | (refine Zo (by simp;omega) ?_;dsimp only [Zb,go_sem]) | (refine Zr (by simp;omega) ?_;dsimp only [Zb,go_sem]))
   simp (disch:=omega) only [Zg];refine call (Ud ⟨max 0 (c.water.lo - W.hi),c.water.hi - W.lo⟩ m.drinks _ (by unfold bdS;simp only;omega) (by unfold bdS;omega)) ?_;dsimp only [Zb,Ze,go_sem];repeat (first | (refine ixa 0 rfl (by decide) ?_;dsimp only [Zb,go_sem]) | (refine Zo (by simp;omega) ?_;dsimp only [Zb,go_sem]) | (refine Zr (by simp;omega) ?_;dsimp only [Zb,go_sem]))
   simp (disch:=omega) only [Zg];refine Zr (by decide) ?_;dsimp only [Zb,go_sem];repeat (first | (refine ixa 1 rfl (by decide) ?_;dsimp only [Zb,go_sem]) | (refine Zo (by simp;omega) ?_;dsimp only [Zb,go_sem]) | (refine Zr (by simp;omega) ?_;dsimp only [Zb,go_sem]))
   simp (disch:=omega) only [Zg];refine call (Ud ⟨max 0 (c.fat.lo - F.hi),c.fat.hi - F.lo⟩ m.grass _ (by unfold bdS;simp only;omega) (by unfold bdS;omega)) ?_;dsimp only [Zb,Ze,go_sem];repeat (first | (refine ixa 1 rfl (by decide) ?_;dsimp only [Zb,go_sem]) | (refine Zo (by simp;omega) ?_;dsimp only [Zb,go_sem]) | (refine Zr (by simp;omega) ?_;dsimp only [Zb,go_sem]))
   refine Zo (by decide) ?_;dsimp only [go_sem];have e:(if c.water.lo ≥ W.hi/\c.fat.lo ≥ F.hi then (0:Int) else 1)=1:=if_neg (by omega);by_cases hz:m.hours=0
   . refine Zr (by simpa using hz) ?_;dsimp only [go_sem];simp (disch:=omega) only [Zg];simp only [ZQ,hW,hF,if_neg hd0,Zbi,Zch,ZA,e,if_pos hz]
   . refine Zo (by simpa using hz) ?_;dsimp only [go_sem];refine call (UZ b.rub 1000000 m.hours m.load 0 _ (by omega) (by omega) (by omega) (by omega) (by omega) k6 (by omega) (by omega)) ?_;dsimp only [Ze,go_sem];simp only [Int.mul_assoc];refine call (Ud c.sore ⟨(b.rub.lo * (m.hours * m.load)).tdiv 1000000,upF (b.rub.hi * (m.hours * m.load)) 1000000⟩ _ (by unfold bdS;omega) (by unfold bdS;simp only;omega)) ?_
     dsimp only [Ze,go_sem];simp only [ZQ,hW,hF,if_neg hd0,Zbi,Zch,ZA,e,if_neg hz]
 . refine ZY 3 ?_;dsimp only [Zb,go_sem];refine Zr (by decide) ?_;dsimp only [Zb,go_sem];repeat (first | (refine ixa 0 rfl (by decide) ?_;dsimp only [Zb,go_sem]) | (refine Zo (by simp;omega) ?_;dsimp only [Zb,go_sem]) | (refine Zr (by simp;omega) ?_;dsimp only [Zb,go_sem]))
   simp (disch:=omega) only [Zg];refine call (Ud ⟨max 0 (c.water.lo - W.hi),c.water.hi - W.lo⟩ m.drinks _ (by unfold bdS;simp only;omega) (by unfold bdS;omega)) ?_;dsimp only [Zb,Ze,go_sem];repeat (first | (refine ixa 0 rfl (by decide) ?_;dsimp only [Zb,go_sem]) | (refine Zo (by simp;omega) ?_;dsimp only [Zb,go_sem]) | (refine Zr (by simp;omega) ?_;dsimp only [Zb,go_sem]))
   simp (disch:=omega) only [Zg];refine Zr (by decide) ?_;dsimp only [Zb,go_sem];repeat (first | (refine ixa 1 rfl (by decide) ?_;dsimp only [Zb,go_sem]) | (refine Zo (by simp;omega) ?_;dsimp only [Zb,go_sem]) | (refine Zr (by simp;omega) ?_;dsimp only [Zb,go_sem]))
   simp (disch:=omega) only [Zg];refine call (Ud ⟨max 0 (c.fat.lo - F.hi),c.fat.hi - F.lo⟩ m.grass _ (by unfold bdS;simp only;omega) (by unfold bdS;omega)) ?_;dsimp only [Zb,Ze,go_sem];repeat (first | (refine ixa 1 rfl (by decide) ?_;dsimp only [Zb,go_sem]) | (refine Zo (by simp;omega) ?_;dsimp only [Zb,go_sem]) | (refine Zr (by simp;omega) ?_;dsimp only [Zb,go_sem]))
   refine Zo (by decide) ?_;dsimp only [go_sem];have e:(if c.water.lo ≥ W.hi/\c.fat.lo ≥ F.hi then (0:Int) else 1)=0:=if_pos (by omega);by_cases hz:m.hours=0
   . refine Zr (by simpa using hz) ?_;dsimp only [go_sem];simp (disch:=omega) only [Zg];simp only [ZQ,hW,hF,if_neg hd0,Zbi,Zch,ZA,e,if_pos hz]
   . refine Zo (by simpa using hz) ?_;dsimp only [go_sem];refine call (UZ b.rub 1000000 m.hours m.load 0 _ (by omega) (by omega) (by omega) (by omega) (by omega) k6 (by omega) (by omega)) ?_;dsimp only [Ze,go_sem];simp only [Int.mul_assoc];refine call (Ud c.sore ⟨(b.rub.lo * (m.hours * m.load)).tdiv 1000000,upF (b.rub.hi * (m.hours * m.load)) 1000000⟩ _ (by unfold bdS;omega) (by unfold bdS;simp only;omega)) ?_
     dsimp only [Ze,go_sem];simp only [ZQ,hW,hF,if_neg hd0,Zbi,Zch,ZA,e,if_neg hz]
end Go.Proofs.YtongccnhomncnaaGreat.Cm
namespace Go.Azalai
theorem Ze6 {x y d:Int} (hd:1<=d) (h0:0<=x) (h:x<=y):x.tdiv d<=upF y d:=by
 unfold upF;rw [Int.tdiv_eq_ediv_of_nonneg h0,Int.tdiv_eq_ediv_of_nonneg (by omega)];exact Int.ediv_le_ediv (by omega) (by omega)
theorem ZqR {b:Breed} {k:Bool} {m:March} (hb:ZD b=true) (hm:Z3 m=true):(Vu b k m).lo<=(Vu b k m).hi:=by
 have h:=Go.Proofs.YtongccnhomncnaaGreat.Cm.breed_bd hb;have h2:=Go.Proofs.YtongccnhomncnaaGreat.Cm.march_bd hm;have hw:=Go.Proofs.YtongccnhomncnaaGreat.Cm.work_bd hm;have q1:(b.toil.lo * Yx m).tdiv 100000<=upF (b.toil.hi * Yx m) 100000:=Ze6 (by omega) (Int.mul_nonneg (by omega) hw.1) (Int.mul_le_mul_of_nonneg_right (by omega) hw.1);have q2:b.heat.lo * max 0 (m.heat.lo - 20)<=b.heat.hi * max 0 (m.heat.hi - 20):=Int.mul_le_mul (by omega) (by omega) (by omega) (by omega)
 simp only [Vu];cases k<;>simp<;>omega
theorem Znf {b:Breed} {m:March} (hb:ZD b=true) (hm:Z3 m=true):(VX b m).lo<=(VX b m).hi:=by
 have h:=Go.Proofs.YtongccnhomncnaaGreat.Cm.breed_bd hb;have hw:=Go.Proofs.YtongccnhomncnaaGreat.Cm.work_bd hm;exact Ze6 (by omega) (Int.mul_nonneg (by omega) hw.1) (Int.mul_le_mul_of_nonneg_right (by omega) hw.1)
theorem after_ok {b:Breed} {c:Camel} {m:March} (hb:ZD b=true) (hc:Zz b c=true) (hm:Z3 m=true) (hd:(ZQ b c m).2≠2):Zz b (ZQ b c m).1=true:=by
 have h1:=Go.Proofs.YtongccnhomncnaaGreat.Cm.breed_bd hb;have h2:=Go.Proofs.YtongccnhomncnaaGreat.Cm.camel_bd hb hc;have h3:=Go.Proofs.YtongccnhomncnaaGreat.Cm.march_bd hm;have w1:=Zdv (k:=c.milks) hb hm;have w2:=Zdm hb hm;have hlo:(Vu b c.milks m).lo<=(Vu b c.milks m).hi:=ZqR hb hm;have hlf:(VX b m).lo<=(VX b m).hi:=Znf hb hm;have hr:(b.rub.lo * (m.hours * m.load)).tdiv 1000000<=upF (b.rub.hi * (m.hours * m.load)) 1000000 :=
  Ze6 (by omega) (Int.mul_nonneg (by omega) (Int.mul_nonneg (by omega) (by omega))) (Int.mul_le_mul_of_nonneg_right (by omega) (Int.mul_nonneg (by omega) (by omega)))
 have hr0:0<=(b.rub.lo * (m.hours * m.load)).tdiv 1000000 :=
  Int.tdiv_nonneg (Int.mul_nonneg (by omega) (Int.mul_nonneg (by omega) (by omega))) (by omega)
 unfold ZQ at hd ⊢;simp only at hd ⊢;split at hd
 . exact absurd rfl hd
 . rename_i h;rw [if_neg h];simp only [Zz,ZX,Zbi,Zch,Bool.and_eq_true,decide_eq_true_eq];by_cases hz:m.hours=0
   . simp only [if_pos hz,Bool.and_eq_true,decide_eq_true_eq];refine ⟨⟨decide_eq_true ⟨by omega,by omega,by omega⟩,decide_eq_true ⟨by omega,by omega,by omega⟩⟩,by omega,by omega,by omega⟩
   . simp only [if_neg hz,Bool.and_eq_true,decide_eq_true_eq];refine ⟨⟨decide_eq_true ⟨by omega,by omega,by omega⟩,decide_eq_true ⟨by omega,by omega,by omega⟩⟩,by omega,by omega,by omega⟩
end Go.Azalai
namespace Go.Proofs.YtongccnhomncnaaGreat.Cm
open Go Go.Sx Go.Azalai
end Go.Proofs.YtongccnhomncnaaGreat.Cm
namespace Go.Azalai
end Go.Azalai
namespace Go.Proofs.YtongccnhomncnaaGreat.Cm
open Go Go.Sx Go.Azalai
theorem Zc7 (b:Breed) (c:Camel) (m:March) (hb:ZD b=true) (hc:Zz b c=true) (hm:Z3 m=true) (hd:(ZQ b c m).2=2) :
 Ct Tryz.prog 154 [.agg (ZA b c),.agg (marchL m)] (.tup [.agg (ZA ⟨0,0,⟨0,0⟩,⟨0,0⟩,⟨0,0⟩,⟨0,0⟩,⟨0,0⟩,⟨0,0⟩,0,⟨0,0⟩⟩ Xa),.v (.int .u8 2)]):=by
 have h1:=breed_bd hb;have h2:=camel_bd hb hc;have h3:=march_bd hm;have w1:=Zdv (k:=c.milks) hb hm;have w2:=Zdm hb hm;refine t154.1 (by simp [ZA,marchL]) (by simp [ZA,Xa]) ?_;dsimp only [c154,r154,ZA,marchL,go_sem];refine call (ZmP b c.milks m hb hm) ?_;dsimp only [go_sem];generalize hW:Vu b c.milks m=W at w1;generalize hF:VX b m=F at w2;have hd':c.water.hi < W.lo\/c.fat.hi < F.lo:=by
  by_cases h:c.water.hi < W.lo\/c.fat.hi < F.lo
  . exact h
  . simp only [ZQ,hW,hF,if_neg h] at hd;split at hd<;>cases hd
 by_cases hw:c.water.hi < W.lo
 . refine ZY 3 ?_;dsimp only [Zb,go_sem];refine Zr (by decide) ?_;dsimp only [Zb,go_sem];repeat (first | (refine ixa 0 rfl (by decide) ?_;dsimp only [Zb,go_sem]) | (refine Zr (by simp;omega) ?_;dsimp only [Zb,Xa,go_sem]))
 . have hf:c.fat.hi < F.lo:=by omega
   by_cases hp:c.water.lo < W.hi
   . refine ZY 3 ?_;dsimp only [Zb,go_sem];refine Zr (by decide) ?_;dsimp only [Zb,go_sem];repeat (first | (refine ixa 0 rfl (by decide) ?_;dsimp only [Zb,go_sem]) | (refine Zo (by simp;omega) ?_;dsimp only [Zb,go_sem]) | (refine Zr (by simp;omega) ?_;dsimp only [Zb,go_sem]))
     simp (disch:=omega) only [Zg];refine call (Ud ⟨max 0 (c.water.lo - W.hi),c.water.hi - W.lo⟩ m.drinks _ (by unfold bdS;simp only;omega) (by unfold bdS;omega)) ?_;dsimp only [Zb,Ze,go_sem];repeat (first | (refine ixa 0 rfl (by decide) ?_;dsimp only [Zb,go_sem]) | (refine Zo (by simp;omega) ?_;dsimp only [Zb,go_sem]) | (refine Zr (by simp;omega) ?_;dsimp only [Zb,go_sem]))
     simp (disch:=omega) only [Zg];refine Zr (by decide) ?_;dsimp only [Zb,go_sem];repeat (first | (refine ixa 1 rfl (by decide) ?_;dsimp only [Zb,go_sem]) | (refine Zr (by simp;omega) ?_;dsimp only [Zb,Xa,go_sem]))
   . refine ZY 3 ?_;dsimp only [Zb,go_sem];refine Zr (by decide) ?_;dsimp only [Zb,go_sem];repeat (first | (refine ixa 0 rfl (by decide) ?_;dsimp only [Zb,go_sem]) | (refine Zo (by simp;omega) ?_;dsimp only [Zb,go_sem]) | (refine Zr (by simp;omega) ?_;dsimp only [Zb,go_sem]))
     simp (disch:=omega) only [Zg];refine call (Ud ⟨max 0 (c.water.lo - W.hi),c.water.hi - W.lo⟩ m.drinks _ (by unfold bdS;simp only;omega) (by unfold bdS;omega)) ?_;dsimp only [Zb,Ze,go_sem];repeat (first | (refine ixa 0 rfl (by decide) ?_;dsimp only [Zb,go_sem]) | (refine Zo (by simp;omega) ?_;dsimp only [Zb,go_sem]) | (refine Zr (by simp;omega) ?_;dsimp only [Zb,go_sem]))
     simp (disch:=omega) only [Zg];refine Zr (by decide) ?_;dsimp only [Zb,go_sem];repeat (first | (refine ixa 1 rfl (by decide) ?_;dsimp only [Zb,go_sem]) | (refine Zr (by simp;omega) ?_;dsimp only [Zb,Xa,go_sem]))
end Go.Proofs.YtongccnhomncnaaGreat.Cm
namespace Go.Azalai
def XJ (b:Breed) (c:Camel) (m:March):Camel × Int × Int :=
 if Zav b c≠0 then (Xa,0,Zav b c) else if Z3 m=false then (Xa,0,12) else if (ZQ b c m).2=2 then (Xa,0,13) else ((ZQ b c m).1,(ZQ b c m).2,0)
def Zfp (b:Breed) (c:Camel) (out:List Camel) (worst:Int):List March->List Camel × Int × Int × Int
 | []=>(out,worst,0,0)
 | m :: r=>if (ZQ b c m).2=2 then ([],2,out.length,13) else Zfp b (ZQ b c m).1 (out ++ [(ZQ b c m).1]) (max worst (ZQ b c m).2) r
def Uo (b:Breed) (c:Camel) (l:List March):List Camel × Int × Int × Int:=if ZiF b c l≠0 then ([],0,0,ZiF b c l) else Zfp b c [] 0 l
end Go.Azalai
namespace Go.Proofs.YtongccnhomncnaaGreat.Cm
open Go Go.Sx Go.Azalai
def ZlB (e:Int) (l:List Camel):SV:=if e=0 then .sl false 7 (l.map camelL) else .v (.slice none 0 0)
def U8 (n:Int):SV:=.v (.int .u8 n)
theorem after1_ok (b:Breed) (c:Camel) (m:March):Ct Tryz.prog 176 [.agg (breedL b),.agg (camelL c),.agg (marchL m)] (.tup [.agg (camelL (XJ b c m).1),U8 (XJ b c m).2.1,I (XJ b c m).2.2]):=by
 refine t176.1 (by simp [breedL,camelL,marchL]) (by simp [camelL,U8]) ?_;dsimp only [c176,r176,breedL,camelL,marchL,go_sem];refine call (checkCamel_ok b c) ?_;dsimp only [go_sem];by_cases h0:Zav b c=0
 case neg =>
  refine Zr (by simpa using h0) ?_;dsimp only [go_sem];simp [XJ,h0,Xa,U8,camelL]
 refine Zo (by simpa using h0) ?_;dsimp only [go_sem];obtain ⟨hb,hc⟩:=errC_0.1 h0;refine call (ZkN m true) ?_;dsimp only [go_sem];by_cases hm:Z3 m=true
 case neg =>
  refine Zr (by simp [hm]) ?_;dsimp only [go_sem];simp [XJ,h0,hm,Xa,U8,camelL]
 refine Zo (by simp [hm]) ?_;dsimp only [go_sem];by_cases hd:(ZQ b c m).2=2
 . refine call (Zc7 b c m hb hc hm hd) ?_;dsimp only [ZA,Xa,go_sem];refine Zr (by decide) ?_;dsimp only [go_sem];simp [XJ,h0,hm,hd,Xa,U8,camelL]
 refine call (Zky b c m hb hc hm hd) ?_;dsimp only [ZA,go_sem];refine Zo (by simpa using hd) ?_;dsimp only [go_sem];simp [XJ,h0,hm,hd,U8,camelL]
theorem Zth {b:Breed} {c:Camel} {l:List March} (h0:ZiF b c l=0):ZD b=true/\Zz b c=true/\l.length<=60/\l.all Z3=true:=by
 unfold ZiF at h0;by_cases e1:Zav b c=0
 . obtain ⟨q1,q2⟩:=errC_0.1 e1;by_cases e2:l.length > 60
   . simp [e1,e2] at h0
   . by_cases e3:l.all Z3=true
     . exact ⟨q1,q2,by omega,e3⟩
     . simp only [e1,e2] at h0;simp at e3 h0;grind
 . simp [e1] at h0
end Go.Proofs.YtongccnhomncnaaGreat.Cm
namespace Go.Proofs.YtongccnhomncnaaGreat
open Go Go.Sx Go.Azalai
theorem Zpo (l:Land) (hs:WT l):Ct Tryz.prog 121 [.agg (Ye l)] (B (Z1 l)):=by
 have hw1:IntKind.i64.wrap ((l.wells.length:Int) - 1)=(l.wells.length:Int) - 1:=Zg (by omega) (by have:=hs.1;omega);refine t121.1 (by simp [Ye,Zh,Zn,Zi,Za]) (by simp) ?_;dsimp only [c121,r121,Ye,go_sem];refine call (XY _ _ _) ?_;dsimp only [go_sem];repeat (refine gb ?_;dsimp only [go_sem])
 simp only [List.length_map];refine br ?_ ?_
 . intro h;dsimp only [go_sem];have:Z1 l=false:=by simp only [Z1];grind
   rw [this]
 intro h;dsimp only [go_sem];have ho1:Z1 l=(l.wells.all YL && l.legs.all (Ww l.wells.length)):=by simp only [Z1];grind
 refine YF (λk:Nat=>[(3,I k)]) (λ_=>[]) (λk=>k<=l.wells.length/\(l.wells.drop k).all YL=l.wells.all YL) (λk=>l.wells.length - k) 0 ⟨Nat.zero_le _,rfl⟩ ?_ ?_
 . (refine Zj ?_ ?_ ?_ rfl rfl<;>dsimp only [Zi,Zh,Zn,id,go_sem]<;>simp [Zi,Zh,Zn,Za])
 intro k ⟨hk,hi⟩;dsimp only [go_sem];by_cases hlt:k < l.wells.length
 . refine Zr (by simpa using hlt) ?_;dsimp only [go_sem];refine Zp k hlt rfl ?_;dsimp only [Zh,go_sem];repeat (first | (refine gb ?_;dsimp only [go_sem]) | (refine call (XY _ _ _) ?_;dsimp only [go_sem]) | (refine call (ZV l.wells[k].yld _ _) ?_;dsimp only [go_sem]) | (refine call (ZV l.wells[k].has _ _) ?_;dsimp only [go_sem]))
   rw [List.drop_eq_getElem_cons hlt,List.all_cons] at hi;refine br ?_ ?_
   . intro hb;dsimp only [go_sem];have:YL l.wells[k]=false:=by simp only [YL];grind
     rw [ho1,<- hi,this];rfl
   . intro hb;dsimp only [go_sem];rw [Zg (n:=(k:Int)+1) (by omega) (by have:=hs.1;omega)];have:YL l.wells[k]=true:=by simp only [YL];grind
     rw [this,Bool.true_and] at hi;refine ⟨k+1,⟨hlt,hi⟩,by omega,?_⟩;(refine Zj ?_ ?_ ?_ rfl rfl<;>dsimp only [Zi,Zh,Zn,id,go_sem]<;>simp [Zi,Zh,Zn,Za])
 refine Zo (by simp;omega) ?_;dsimp only [go_sem];have hke:k=l.wells.length:=by omega
 subst hke;rw [List.drop_length] at hi;rw [<- hi] at ho1;rw [show Z1 l=l.legs.all (Ww l.wells.length) from by rw [ho1];simp];refine YF (λk:Nat=>[(5,I k)]) (λ_=>[]) (λk=>k<=l.legs.length/\(l.legs.drop k).all (Ww l.wells.length)=l.legs.all (Ww l.wells.length)) (λk=>l.legs.length - k) 0 ⟨Nat.zero_le _,rfl⟩ ?_ ?_
 . (refine Zj ?_ ?_ ?_ rfl rfl<;>dsimp only [Zi,Zh,Zn,id,go_sem]<;>simp [Zi,Zh,Zn,Za])
 intro k ⟨hk,hi⟩;dsimp only [go_sem];by_cases hlt:k < l.legs.length
 . refine Zr (by simpa using hlt) ?_;dsimp only [go_sem];refine Zp k hlt rfl ?_;dsimp only [Zn,go_sem];simp only [List.length_map,hw1];repeat (first | (refine gb ?_;dsimp only [go_sem]) | (refine call (XY _ _ _) ?_;dsimp only [go_sem]) | (refine call (ZV l.legs[k].long _ _) ?_;dsimp only [go_sem]))
   rw [List.drop_eq_getElem_cons hlt,List.all_cons] at hi;simp only [List.length_map];have hgl:=hs.2.2 l.legs[k] (List.getElem_mem _);generalize l.legs[k]=x at *;refine br ?_ ?_
   . intro hb;dsimp only [go_sem];have:Ww l.wells.length x=false:=by simp only [Ww];grind
     rw [<- hi,this];rfl
   . intro hb;dsimp only [go_sem];have hx:Ww l.wells.length x=YD 0 x.gates:=by simp only [Ww];grind
     refine YF (λs:Nat × Int=>[(8,I s.1),(7,I s.2)]) (λ_=>[]) (λs=>s.1<=x.gates.length/\YD (s.2+1) (x.gates.drop s.1)=YD 0 x.gates) (λs=>x.gates.length - s.1) (0,-1) ⟨Nat.zero_le _,rfl⟩ ?_ ?_
     . (refine Zj ?_ ?_ ?_ rfl rfl<;>dsimp only [Zi,Zh,Zn,id,go_sem]<;>simp [Zi,Zh,Zn,Za])
     rintro ⟨j,last⟩ ⟨hj,hji⟩;simp only at hj hji;dsimp only [go_sem];by_cases hlt2:j < x.gates.length
     . refine Zr (by simpa using hlt2) ?_;dsimp only [go_sem];refine Zp j hlt2 rfl ?_;dsimp only [Zi,go_sem];repeat (first | (refine gb ?_;dsimp only [go_sem]) | (refine call (ZV x.gates[j].opens _ _) ?_;dsimp only [go_sem]) | (refine call (ZV x.gates[j].shuts _ _) ?_;dsimp only [go_sem]))
       rw [List.drop_eq_getElem_cons hlt2] at hji;simp only [YD] at hji;refine br ?_ ?_
       . intro hb2;dsimp only [go_sem];have:Ww l.wells.length x=false:=by rw [hx,<- hji];simp only [inR];grind
         rw [<- hi,this];rfl
       . intro hb2;dsimp only [go_sem];rw [Zg (n:=(j:Int)+1) (by omega) (by omega)];refine ⟨(j+1,x.gates[j].shuts.hi),⟨hlt2,?_⟩,by simp only;omega,?_⟩
         . simp only;rw [<- hji];simp only [inR];grind
         . (refine Zj ?_ ?_ ?_ rfl rfl<;>dsimp only [Zi,Zh,Zn,id,go_sem]<;>simp [Zi,Zh,Zn,Za])
     . refine Zo (by simp;omega) ?_;dsimp only [go_sem];rw [Zg (n:=(k:Int)+1) (by omega) (by have:=hs.2.1;omega)];have hje:j=x.gates.length:=by omega
       subst hje;rw [List.drop_length] at hji;simp only [YD] at hji;rw [hx,<- hji,Bool.true_and] at hi;refine ⟨k+1,⟨hlt,hi⟩,by omega,?_⟩;(refine Zj ?_ ?_ ?_ rfl rfl<;>dsimp only [Zi,Zh,Zn,id,go_sem]<;>simp [Zi,Zh,Zn,Za])
 refine Zo (by simp;omega) ?_;dsimp only [go_sem];have hke:k=l.legs.length:=by omega
 subst hke;rw [List.drop_length] at hi;rw [<- hi];rfl
theorem Zo2 (l:Land):Ct Tryz.prog 40 [.agg (Ye l)] (B (Zbr l)):=by
 refine t40.1 (by simp [Ye,Zh,Zn,Zi,Za]) (by simp) ?_;dsimp only [c40,r40,Ye,go_sem];repeat (refine gb ?_;dsimp only [go_sem])
 simp only [List.length_map];refine br ?_ ?_
 . intro h;dsimp only [go_sem]
   (simp only [Zbr,Option.some.injEq,SV.v.injEq,Value.bool.injEq]<;>grind)
 intro h;dsimp only [go_sem];have hg:Zbr l=l.legs.any λx=>decide (x.gates.length > 20):=by simp only [Zbr];grind
 have hlen:l.legs.length<=40:=by grind
 rw [hg];refine YF (λk:Nat=>[(3,I k)]) (λ_=>[]) (λk=>k<=l.legs.length/\((l.legs.drop k).any λx=>decide (x.gates.length > 20))=l.legs.any λx=>decide (x.gates.length > 20)) (λk=>l.legs.length - k) 0 ⟨Nat.zero_le _,rfl⟩ ?_ ?_
 . (refine Zj ?_ ?_ ?_ rfl rfl<;>dsimp only [Zi,Zh,Zn,id,go_sem]<;>simp [Zi,Zh,Zn,Za])
 intro k ⟨hk,hi⟩;dsimp only [go_sem];by_cases hlt:k < l.legs.length
 . refine Zr (by simpa using hlt) ?_;dsimp only [go_sem];refine Zp k hlt rfl ?_;dsimp only [Zn,go_sem];rw [List.drop_eq_getElem_cons hlt,List.any_cons] at hi;refine br ?_ ?_
   . intro hb;dsimp only [go_sem];have:decide (l.legs[k].gates.length > 20)=true:=by simp at hb ⊢;omega
     rw [<- hi,this];rfl
   . intro hb;dsimp only [go_sem];rw [Zg (n:=(k:Int)+1) (by omega) (by omega)];have:decide (l.legs[k].gates.length > 20)=false:=by simp at hb ⊢;omega
     rw [this,Bool.false_or] at hi;refine ⟨k+1,⟨hlt,hi⟩,by omega,?_⟩;(refine Zj ?_ ?_ ?_ rfl rfl<;>dsimp only [Zi,Zh,Zn,id,go_sem]<;>simp [Zi,Zh,Zn,Za])
 refine Zo (by simp;omega) ?_;dsimp only [go_sem];have hke:k=l.legs.length:=by omega
 subst hke;rw [List.drop_length] at hi;rw [<- hi];rfl
end Go.Proofs.YtongccnhomncnaaGreat
namespace Go.Azalai
def Z6 (p:Span):Bool:=ZX 1 100000 p
def ZaN (l:Land) (p:Span):Int:=if Z1 l=false then 30 else if Z6 p=false then 31 else 0
def Zcw (x:Leg) (p:Span):Span:=⟨(x.long.lo+p.hi - 1).tdiv p.hi,(x.long.hi+p.lo - 1).tdiv p.lo⟩
def ZaU (n day:Int) (o s:Gate->Int):List Gate->Int
 | []=>100001
 | g :: r=>if max day (o g)+n - 1<=s g then max day (o g) else ZaU n day o s r
def ZdI (n day:Int) (o s:Gate->Int) (acc:Int):List Gate->Int
 | []=>acc
 | g :: r=>ZdI n day o s (if max day (o g)+n - 1<=s g then min (min acc (max day (o g))) 100001 else acc) r
def ZyI (x:Leg) (p:Span) (day:Int):Int:=ZaU (Zcw x p).lo day (·.opens.lo) (·.shuts.hi) x.gates
def ZvV (x:Leg) (p:Span) (day:Int):Int:=ZaU (Zcw x p).hi day (·.opens.hi) (·.shuts.lo) x.gates
def X7 (l:Land) (leg:Int) (p:Span):Span × Int :=
 if ZaN l p≠0 then (⟨0,0⟩,ZaN l p)
 else if inR 0 (l.legs.length - 1) leg=false then (⟨0,0⟩,2)
 else match l.legs[leg.toNat]? with
  | some x=>(Zcw x p,0)
  | none=>(⟨0,0⟩,0)
structure GoodLeg (x:Leg):Prop where
 l1:1<=x.long.lo
 l2:x.long.lo<=x.long.hi
 l3:x.long.hi<=1000000
 g1:x.gates.length<=6
 g2:YD 0 x.gates=true
theorem WB {l:Land} (h:Z1 l=true):∀ x ∈ l.legs,GoodLeg x:=by
 simp only [Z1,Bool.and_eq_true,List.all_eq_true] at h;intro x hx;have:=h.2 x hx;simp only [Ww,ZX,Bool.and_eq_true,decide_eq_true_eq] at this;exact ⟨by omega,by omega,by omega,by omega,this.2⟩
theorem Xr:∀ {l:List Gate} {next:Int},YD next l=true->0<=next->∀ g ∈ l,0<=g.opens.lo/\g.opens.lo<=g.opens.hi/\g.opens.hi<=100000/\0<=g.shuts.lo/\g.shuts.lo<=g.shuts.hi/\g.shuts.hi<=100000/\next<=g.opens.lo
 | [],_,_,_,g,hg=>by simp at hg
 | x :: l,next,h,h0,g,hg=>by
  simp only [YD,ZX,inR,Bool.and_eq_true,decide_eq_true_eq] at h;rcases List.mem_cons.1 hg with rfl | hg
  . omega
  . have:=Xr h.2 (by omega) g hg;omega
theorem Zc1 {n day:Int} {o s:Gate->Int} (hn:1<=n) (ho:∀ g,(0<=g.opens.lo/\g.opens.lo<=g.opens.hi/\g.opens.hi<=100000/\0<=g.shuts.lo/\g.shuts.lo<=g.shuts.hi/\g.shuts.hi<=100000)->g.opens.lo<=o g/\s g<=g.shuts.hi) :
 ∀ {l:List Gate} {next acc:Int},YD next l=true->0<=next->acc<=100001->ZdI n day o s acc l=min acc (ZaU n day o s l)
 | [],next,acc,_,_,ha=>by simp only [ZdI,ZaU];omega
 | x :: l,next,acc,h,h0,ha=>by
  have hm:=Xr h h0 x (by simp);simp only [YD,ZX,inR,Bool.and_eq_true,decide_eq_true_eq] at h;have h1:=ho x ⟨hm.1,hm.2.1,hm.2.2.1,hm.2.2.2.1,hm.2.2.2.2.1,hm.2.2.2.2.2.1⟩;have hrest:∀ (l:List Gate),(∀ g ∈ l,x.shuts.hi+1<=o g)->x.shuts.hi+1<=ZaU n day o s l:=λl=>by
   induction l with
   | nil=>intro _;simp only [ZaU];omega
   | cons g l ih=>intro hg;simp only [ZaU];have:=hg g (by simp);have:=ih (λg' h'=>hg g' (by simp [h']));split<;>omega
  have hr:=hrest l (λg hg=>by
   have q:=Xr h.2 (by omega) g hg;have:=ho g ⟨q.1,q.2.1,q.2.2.1,q.2.2.2.1,q.2.2.2.2.1,q.2.2.2.2.2.1⟩
   omega)
  simp only [ZdI,ZaU];rw [Zc1 hn ho h.2 (by omega) (by split<;>omega)]
  repeat' split
  all_goals first | rfl | omega
theorem day_bd {x:Leg} {p:Span} (h:GoodLeg x) (hp:Z6 p=true):1<=(Zcw x p).lo/\(Zcw x p).lo<=1000000/\1<=(Zcw x p).hi/\(Zcw x p).hi<=1000000:=by
 simp only [Z6,ZX,decide_eq_true_eq] at hp;obtain ⟨p1,p2,p3⟩:=hp;obtain ⟨h1,h2,h3,_,_⟩:=h;simp only [Zcw];have key:∀ a b:Int,1<=a->a<=1000000->1<=b->1<=(a+b - 1).tdiv b/\(a+b - 1).tdiv b<=1000000:=λa b ha ha2 hb=>by
  rw [Int.tdiv_eq_ediv_of_nonneg (by omega)];constructor
  . exact Int.le_ediv_of_mul_le (by omega) (by omega)
  . refine Int.le_of_lt_add_one (Int.ediv_lt_of_lt_mul (by omega) ?_);have:1 * a<=b * a:=Int.mul_le_mul_of_nonneg_right hb (by omega);have e:(1000000+1) * b=b * 1000000+b:=by rw [Int.add_mul];omega
    have:b * a<=b * 1000000:=Int.mul_le_mul_of_nonneg_left ha2 (by omega);rw [e];have:=Int.mul_le_mul_of_nonneg_left ha2 (show (0:Int)<=b - 1 by omega);have q:(b - 1) * a=b * a - a:=by rw [Int.sub_mul];omega
    have q2:(b - 1) * 1000000=b * 1000000 - 1000000:=by rw [Int.sub_mul];omega
    omega
 exact ⟨(key _ _ h1 (by omega) (by omega)).1,(key _ _ h1 (by omega) (by omega)).2,(key _ _ (by omega) h3 p1).1,(key _ _ (by omega) h3 p1).2⟩
end Go.Azalai
namespace Go.Proofs.YtongccnhomncnaaGreat
open Go Go.Sx Go.Azalai
def sres (r:Span × Int):SV:=.tup [.agg (Ze r.1),I r.2]
theorem Zjx (l:Land) (hs:WT l):Ct Tryz.prog 76 [.agg (Ye l)] (I (if Z1 l=true then 0 else 30)):=by
 refine t76.1 (by simp [Ye,Zh,Zn,Zi,Za]) (by simp) ?_;dsimp only [c76,r76,Ye,go_sem];refine call (Zpo l hs) ?_;dsimp only [go_sem];refine br ?_ ?_
 . intro h;dsimp only [go_sem];have:Z1 l=false:=by simpa using h
   simp [this]
 . intro h;dsimp only [go_sem];have:Z1 l=true:=by simpa using h
   simp [this]
theorem ZpM (p:Span):Ct Tryz.prog 77 [.agg (Ze p)] (B (Z6 p)):=by
 refine t77.1 (by simp [Ze]) (by simp) ?_;dsimp only [c77,r77,Ze,go_sem];refine call (ZV p _ _) ?_;dsimp only [go_sem];simp [Z6]
theorem Zvg {l:Land} {leg:Int} (h:inR 0 (l.legs.length - 1) leg=true):∃ (k:Nat) (hk:k < l.legs.length),leg=(k:Int)/\l.legs[leg.toNat]? = some l.legs[k]:=by
 simp only [inR,decide_eq_true_eq] at h;refine ⟨leg.toNat,by omega,by omega,?_⟩;rw [List.getElem?_eq_getElem (by omega)]
theorem ask0 {l:Land} {p:Span} (h:ZaN l p=0):Z1 l=true/\Z6 p=true:=by
 unfold ZaN at h;cases h1:Z1 l<;>cases h2:Z6 p<;>simp_all
theorem Zxh (a b d:Int) (c:Bool):Ct Tryz.prog 47 [.sl c 1 [[I a],[I b],[I d]]] (I (min (min a b) d)):=by
 refine t47.1 (by simp [KFR]) (by simp) ?_;dsimp only [c47,r47,go_sem];refine Zo (by decide) ?_;dsimp only [go_sem];refine ixs 0 [I a] rfl rfl ?_;dsimp only [go_sem];refine ZY 3 ?_;dsimp only [Zb,go_sem];refine Zr (by decide) ?_;dsimp only [Zb,go_sem];refine ixs 1 [I b] rfl rfl ?_;dsimp only [Zb,go_sem];refine Zr (by decide) ?_;dsimp only [Zb,go_sem];refine ixs 2 [I d] rfl rfl ?_;dsimp only [Zb,go_sem]
 refine Zo (by decide) ?_;dsimp only [go_sem]
theorem VU (a b:Int):Ct Tryz.prog 98 [.sl true 1 [[I a],[I b]]] (I (min (min a b) 100001)):=by
 refine t98.1 (by simp [KFR]) (by simp) ?_;dsimp only [c98,r98,go_sem];refine ZBX (by simp) ?_;dsimp only [go_sem];refine call (Zxh a b 100001 false) ?_;dsimp only [go_sem]
theorem ZfM {n day:Int} {o s:Gate->Int} (hn:1<=n):∀ {l:List Gate},(∀ g ∈ l,s g<=100000)->ZaU n day o s l<=100001
 | [],_=>by simp only [ZaU];omega
 | x :: l,h=>by
  have:=h x (by simp);have:=ZfM (day:=day) (o:=o) (s:=s) (l:=l) hn (λg hg=>h g (by simp [hg]));simp only [ZaU];split<;>omega
def Yc (l:Land) (p:Span):List SV:=[.sl false 9 (l.wells.map Zh),.sl false 5 (l.legs.map Zn),I p.lo,I p.hi]
theorem ZcU (l:Land) (hs:WT l) (p:Span) (ha:ZaN l p=0):Ct Tryz.prog 56 [.agg (Ye l),.agg (Ze p)] (.tup [.agg (Yc l p),I 0]):=by
 obtain ⟨h1,h2⟩:=ask0 ha;refine t56.1 (by simp [Ye,Zh,Zn,Zi,Ze,Za]) (by simp [Yc,Zh,Zn,Zi,Ze,Za]) ?_;dsimp only [c56,r56,Ye,Ze,go_sem];refine call (ZcS l hs) ?_;dsimp only [go_sem];refine Zo (by simp [h1]) ?_;dsimp only [go_sem];refine call (Y8 1 100000 p _) ?_;dsimp only [go_sem];refine Zo (by simpa [Z6] using h2) ?_;dsimp only [Yc,go_sem]
theorem ZaH (l:Land) (hs:WT l) (p:Span) (ha:ZaN l p≠0):Ct Tryz.prog 56 [.agg (Ye l),.agg (Ze p)] (.tup [.agg [.v (.slice none 0 0),.v (.slice none 0 0),I 0,I 0],I (ZaN l p)]):=by
 refine t56.1 (by simp [Ye,Zh,Zn,Zi,Ze,Za]) (by simp) ?_;dsimp only [c56,r56,Ye,Ze,go_sem];refine call (ZcS l hs) ?_;dsimp only [go_sem];by_cases h1:Z1 l=true
 case neg =>
  refine Zr (by simp [h1]) ?_;dsimp only [go_sem];simp [ZaN,h1]
 refine Zo (by simp [h1]) ?_;dsimp only [go_sem];refine call (Y8 1 100000 p _) ?_;dsimp only [go_sem];have h2:Z6 p=false:=by
  by_cases h2:Z6 p=true
  . exact absurd (by simp [ZaN,h1,h2]) ha
  . simpa using h2
 refine Zr (by simpa [Z6] using h2) ?_;dsimp only [go_sem];simp [ZaN,h1,h2]
theorem Zdi (l:Land) (p:Span) (k:Nat) (hk:k < l.legs.length) (hx:GoodLeg l.legs[k]) (hp:Z6 p=true):Ct Tryz.prog 97 [.agg (Yc l p),I k] (.agg (Ze (Zcw l.legs[k] p))):=by
 have hb:=day_bd hx hp;have hp':=hp;simp only [Z6,ZX,decide_eq_true_eq] at hp';obtain ⟨h1,h2,h3,h4,h5⟩:=hx;refine t97.1 (by simp [Yc,Zh,Zn,Zi,Ze,Za]) (by simp [Ze]) ?_;dsimp only [c97,r97,Yc,go_sem];refine Zp k hk rfl ?_;dsimp only [Zn,go_sem];rw [Zg (n:=l.legs[k].long.lo+p.hi) (by omega) (by omega),Zg (n:=l.legs[k].long.lo+p.hi - 1) (by omega) (by omega)];refine ZvB (by omega) ?_;dsimp only [go_sem]
 rw [Zg (n:=l.legs[k].long.hi+p.lo) (by omega) (by omega),Zg (n:=l.legs[k].long.hi+p.lo - 1) (by omega) (by omega)];refine ZvB (by omega) ?_;dsimp only [Ze,go_sem];simp only [Zcw] at hb ⊢;rw [Zg (n:=(l.legs[k].long.lo+p.hi - 1).tdiv p.hi) (by omega) (by omega),Zg (n:=(l.legs[k].long.hi+p.lo - 1).tdiv p.lo) (by omega) (by omega)]
theorem Zc2 (a b:Int):Ct Tryz.prog 117 [.agg [I a,I b]] (.agg [I a,I b]):=by
 refine t117.1 (by simp) (by simp) ?_;dsimp only [c117,r117,go_sem];refine ixa 0 rfl (by decide) ?_;dsimp only [go_sem];refine ixa 1 rfl (by decide) ?_;dsimp only [go_sem]
theorem Zgg (l:Land) (hs:WT l) (leg:Int) (p:Span):Ct Tryz.prog 73 [.agg (Ye l),I leg,.agg (Ze p)] (sres (X7 l leg p)):=by
 have hw1:IntKind.i64.wrap ((l.legs.length:Int) - 1)=(l.legs.length:Int) - 1:=Zg (by omega) (by have:=hs.2.1;omega);refine t73.1 (by simp [Ye,Zh,Zn,Zi,Ze,Za]) (by simp [sres,Ze]) ?_;dsimp only [c73,r73,Ye,Ze,go_sem];by_cases ha:ZaN l p=0
 case neg =>
  refine call (ZaH l hs p ha) ?_;dsimp only [go_sem];refine Zr (by simpa using ha) ?_;dsimp only [go_sem];simp [X7,ha,sres,Ze]
 refine call (ZcU l hs p ha) ?_;dsimp only [Yc,go_sem];refine Zo (by decide) ?_;dsimp only [go_sem];simp only [List.length_map,hw1];repeat (first | (refine gb ?_;dsimp only [go_sem]) | (refine call (Zaa _ _ _ _) ?_;dsimp only [go_sem]))
 by_cases hr:inR 0 (l.legs.length - 1) leg=true
 case neg =>
  refine Zr (by grind) ?_;dsimp only [go_sem];simp [X7,ha,hr,sres,Ze]
 refine Zo (by grind) ?_;dsimp only [go_sem];obtain ⟨k,hk,rfl,hget⟩:=Zvg hr;obtain ⟨hol,hop⟩:=ask0 ha;have hx:=WB hol l.legs[k] (List.getElem_mem _);refine call (Zdi l p k hk hx hop) ?_;dsimp only [Ze,go_sem];refine call (Zc2 _ _) ?_;dsimp only [go_sem];simp only [X7,ha,hr,hget,sres,Ze];simp
theorem Wg (l:Land) (p:Span) (k:Nat) (hk:k < l.legs.length) (d0 d1:Int) (hx:GoodLeg l.legs[k]) (hp:Z6 p=true) (h0:inR 0 100001 d0=true) (h1:inR 0 100001 d1=true) :
 Ct Tryz.prog 96 [.agg (Yc l p),I k,.agg [I d0,I d1]] (.agg [I (ZyI l.legs[k] p d0),I (ZvV l.legs[k] p d1)]):=by
 have hb:=day_bd hx hp;have hg:=Xr hx.g2 (Int.le_refl _);have hl:=hx.g1;simp only [inR,decide_eq_true_eq] at h0 h1;refine t96.1 (by simp [Yc,Zh,Zn,Zi,Ze,Za]) (by simp) ?_;dsimp only [c96,r96,Yc,go_sem];refine call (Zdi l p k hk hx hp) ?_;dsimp only [Ze,go_sem];refine Zp k hk rfl ?_;dsimp only [Zn,go_sem];have e0:ZdI (Zcw l.legs[k] p).lo d0 (·.opens.lo) (·.shuts.hi) 100001 l.legs[k].gates=ZyI l.legs[k] p d0:=by
  rw [Zc1 hb.1 (λg h=>by omega) hx.g2 (Int.le_refl _) (by omega)];exact Int.min_eq_right (ZfM hb.1 (λg h=>by have:=hg g h;omega))
 have e1:ZdI (Zcw l.legs[k] p).hi d1 (·.opens.hi) (·.shuts.lo) 100001 l.legs[k].gates=ZvV l.legs[k] p d1:=by
  rw [Zc1 hb.2.2.1 (λg h=>by omega) hx.g2 (Int.le_refl _) (by omega)];exact Int.min_eq_right (ZfM hb.2.2.1 (λg h=>by have:=hg g h;omega))
 generalize hnl:(Zcw l.legs[k] p).lo=nl at hb e0;generalize hnh:(Zcw l.legs[k] p).hi=nh at hb e1;refine YF (λs:Nat × Int × Int=>[(27,I s.1)]) (λs=>[(4,.cells [I s.2.1,I s.2.2] 141)])
  (λs=>s.1<=l.legs[k].gates.length/\ZdI nl d0 (·.opens.lo) (·.shuts.hi) s.2.1 (l.legs[k].gates.drop s.1)=ZyI l.legs[k] p d0/\ZdI nh d1 (·.opens.hi) (·.shuts.lo) s.2.2 (l.legs[k].gates.drop s.1)=ZvV l.legs[k] p d1)
  (λs=>l.legs[k].gates.length - s.1) (0,100001,100001) ⟨Nat.zero_le _,e0,e1⟩ ?_ ?_
 . (refine Zj ?_ ?_ ?_ rfl rfl<;>dsimp only [Zi,Zh,Zn,Ze,id,go_sem]<;>simp [Zi,Zh,Zn,Ze,Za])
 rintro ⟨j,m0,m1⟩ ⟨hj,i0,i1⟩;simp only at hj i0 i1;dsimp only [go_sem];by_cases hlt:j < l.legs[k].gates.length
 . refine Zr (by simpa using hlt) ?_;dsimp only [go_sem];have hgk:=hg l.legs[k].gates[j] (List.getElem_mem _);rw [List.drop_eq_getElem_cons hlt,ZdI] at i0 i1;refine Zp j hlt rfl ?_;dsimp only [Zi,go_sem];refine ZY 3 ?_;dsimp only [Zb,go_sem];refine Zr (by decide) ?_;dsimp only [Zb,go_sem];repeat (first | (refine ixa 0 rfl (by decide) ?_;dsimp only [Zb,go_sem]) | (refine call (VU _ _) ?_;dsimp only [Zb,go_sem]))
   rw [Zg (n:=max d0 l.legs[k].gates[j].opens.lo+nl) (by omega) (by omega),Zg (n:=max d0 l.legs[k].gates[j].opens.lo+nl - 1) (by omega) (by omega)];refine br ?_ ?_
   . intro hA;dsimp only [Zb,go_sem];repeat (first | (refine ixa 0 rfl (by decide) ?_;dsimp only [Zb,go_sem]) | (refine call (VU _ _) ?_;dsimp only [Zb,go_sem]))
     rw [if_pos (by simpa using hA)] at i0;refine Zr (by decide) ?_;dsimp only [Zb,go_sem];repeat (first | (refine ixa 1 rfl (by decide) ?_;dsimp only [Zb,go_sem]) | (refine call (VU _ _) ?_;dsimp only [Zb,go_sem]))
     rw [Zg (n:=max d1 l.legs[k].gates[j].opens.hi+nh) (by omega) (by omega),Zg (n:=max d1 l.legs[k].gates[j].opens.hi+nh - 1) (by omega) (by omega)];refine br ?_ ?_
     . intro hB;dsimp only [Zb,go_sem];repeat (first | (refine ixa 1 rfl (by decide) ?_;dsimp only [Zb,go_sem]) | (refine call (VU _ _) ?_;dsimp only [Zb,go_sem]))
       rw [if_pos (by simpa using hB)] at i1;refine Zo (by decide) ?_;dsimp only [go_sem];rw [Zg (n:=(j:Int)+1) (by omega) (by omega)];refine ⟨(j+1,min (min m0 (max d0 l.legs[k].gates[j].opens.lo)) 100001,min (min m1 (max d1 l.legs[k].gates[j].opens.hi)) 100001),⟨hlt,i0,i1⟩,by simp only;omega,?_⟩;(refine Zj ?_ ?_ ?_ rfl rfl<;>dsimp only [Zi,Zh,Zn,Ze,id,go_sem]<;>simp [Zi,Zh,Zn,Ze,Za])
     . intro hB;dsimp only [Zb,go_sem];rw [if_neg (by simpa using hB)] at i1;refine Zo (by decide) ?_;dsimp only [go_sem];rw [Zg (n:=(j:Int)+1) (by omega) (by omega)];refine ⟨(j+1,min (min m0 (max d0 l.legs[k].gates[j].opens.lo)) 100001,m1),⟨hlt,i0,i1⟩,by simp only;omega,?_⟩;(refine Zj ?_ ?_ ?_ rfl rfl<;>dsimp only [Zi,Zh,Zn,Ze,id,go_sem]<;>simp [Zi,Zh,Zn,Ze,Za])
   . intro hA;dsimp only [Zb,go_sem];rw [if_neg (by simpa using hA)] at i0;refine Zr (by decide) ?_;dsimp only [Zb,go_sem];repeat (first | (refine ixa 1 rfl (by decide) ?_;dsimp only [Zb,go_sem]) | (refine call (VU _ _) ?_;dsimp only [Zb,go_sem]))
     rw [Zg (n:=max d1 l.legs[k].gates[j].opens.hi+nh) (by omega) (by omega),Zg (n:=max d1 l.legs[k].gates[j].opens.hi+nh - 1) (by omega) (by omega)];refine br ?_ ?_
     . intro hB;dsimp only [Zb,go_sem];repeat (first | (refine ixa 1 rfl (by decide) ?_;dsimp only [Zb,go_sem]) | (refine call (VU _ _) ?_;dsimp only [Zb,go_sem]))
       rw [if_pos (by simpa using hB)] at i1;refine Zo (by decide) ?_;dsimp only [go_sem];rw [Zg (n:=(j:Int)+1) (by omega) (by omega)];refine ⟨(j+1,m0,min (min m1 (max d1 l.legs[k].gates[j].opens.hi)) 100001),⟨hlt,i0,i1⟩,by simp only;omega,?_⟩;(refine Zj ?_ ?_ ?_ rfl rfl<;>dsimp only [Zi,Zh,Zn,Ze,id,go_sem]<;>simp [Zi,Zh,Zn,Ze,Za])
     . intro hB;dsimp only [Zb,go_sem];rw [if_neg (by simpa using hB)] at i1;refine Zo (by decide) ?_;dsimp only [go_sem];rw [Zg (n:=(j:Int)+1) (by omega) (by omega)];refine ⟨(j+1,m0,m1),⟨hlt,i0,i1⟩,by simp only;omega,?_⟩;(refine Zj ?_ ?_ ?_ rfl rfl<;>dsimp only [Zi,Zh,Zn,Ze,id,go_sem]<;>simp [Zi,Zh,Zn,Ze,Za])
 refine Zo (by simp;omega) ?_;dsimp only [go_sem];have hke:j=l.legs[k].gates.length:=by omega
 subst hke;rw [List.drop_length,ZdI] at i0 i1;rw [<- i0,<- i1]
end Go.Proofs.YtongccnhomncnaaGreat
namespace Go.Azalai
theorem Zj1 {n day:Int} {o s:Gate->Int} (hn:1<=n) (hd:day<=100001):∀ {l:List Gate},(∀ g ∈ l,s g<=100000)->(day<=ZaU n day o s l/\ZaU n day o s l<=100001)/\(ZaU n day o s l=100001\/ZaU n day o s l+n<=100001)
 | [],_=>⟨⟨by simp only [ZaU];omega,by simp only [ZaU];omega⟩,.inl rfl⟩
 | x :: l,h=>by
  have:=h x (by simp);have:=Zj1 (day:=day) (o:=o) (s:=s) (l:=l) hn hd (λg hg=>h g (by simp [hg]));simp only [ZaU];split<;>omega
theorem ZeV {n day:Int} {o s:Gate->Int} (hn:1<=n):∀ {l:List Gate},(∀ g ∈ l,s g<=100000)->ZaU n day o s l<=100001
 | [],_=>by simp only [ZaU];omega
 | x :: l,h=>by
  have:=h x (by simp);have:=ZeV (day:=day) (o:=o) (s:=s) (l:=l) hn (λg hg=>h g (by simp [hg]));simp only [ZaU];split<;>omega
def nK (k:Bool) (x:Leg) (p:Span):Int:=bif k then (Zcw x p).hi else (Zcw x p).lo
def leK (k:Bool) (x:Leg) (p:Span) (t:Int):Int:=bif k then ZvV x p t else ZyI x p t
def Z0 (k:Bool) (x:Leg) (p:Span) (t:Int):Int:=min 100001 (leK k x p t+nK k x p)
theorem Zq8 {k:Bool} {x:Leg} {p:Span} (h:GoodLeg x) (hp:Z6 p=true):1<=nK k x p/\nK k x p<=1000000:=by
 have:=day_bd h hp;cases k<;>simp only [nK,cond_true,cond_false]<;>omega
theorem ZbG {k:Bool} {x:Leg} {p:Span} {t:Int} (h:GoodLeg x) (hp:Z6 p=true) :
 leK k x p t=ZdI (nK k x p) t (λg=>bif k then g.opens.hi else g.opens.lo) (λg=>bif k then g.shuts.lo else g.shuts.hi) 100001 x.gates /\
 leK k x p t=ZaU (nK k x p) t (λg=>bif k then g.opens.hi else g.opens.lo) (λg=>bif k then g.shuts.lo else g.shuts.hi) x.gates/\∀ g ∈ x.gates,(bif k then g.shuts.lo else g.shuts.hi)<=100000:=by
 have hn:=Zq8 (k:=k) h hp;have hg:=Xr h.g2 (Int.le_refl _);have h2:∀ g ∈ x.gates,(bif k then g.shuts.lo else g.shuts.hi)<=100000:=λg hm=>by have:=hg g hm;cases k<;>simp only [cond_true,cond_false]<;>omega
 have h1:leK k x p t=ZaU (nK k x p) t (λg=>bif k then g.opens.hi else g.opens.lo) (λg=>bif k then g.shuts.lo else g.shuts.hi) x.gates:=by cases k<;>rfl
 refine ⟨?_,h1,h2⟩;rw [Zc1 hn.1 (λg q=>by cases k<;>simp only [cond_true,cond_false]<;>omega) h.g2 (Int.le_refl _) (by omega),h1];have:=ZeV (day:=t) (o:=λg=>bif k then g.opens.hi else g.opens.lo) hn.1 h2;omega
theorem Zeq {n:Int} {o s:Gate->Int} {d d':Int} (hn:1<=n) (hd:d<=d'):∀ {l:List Gate} {a a':Int},a<=a'->a'<=100001->(∀ g ∈ l,s g<=100000)->ZdI n d o s a l<=ZdI n d' o s a' l
 | [],a,a',ha,_,_=>by simpa only [ZdI] using ha
 | g :: l,a,a',ha,hb,hs=>by
  simp only [ZdI];have:=hs g (by simp);refine Zeq hn hd ?_ ?_ (λg hg=>hs g (by simp [hg]))
  . repeat' split
    all_goals omega
  . split<;>omega
theorem Za2 {k:Bool} {x:Leg} {p:Span} {t t':Int} (h:GoodLeg x) (hp:Z6 p=true) (ht:t<=t'):Z0 k x p t<=Z0 k x p t':=by
 have hn:=Zq8 (k:=k) h hp;obtain ⟨a1,_,a3⟩:=ZbG (k:=k) (t:=t) h hp;obtain ⟨b1,_,_⟩:=ZbG (k:=k) (t:=t') h hp;have:=Zeq (o:=λg=>bif k then g.opens.hi else g.opens.lo) hn.1 ht (Int.le_refl 100001) (Int.le_refl _) a3;simp only [Z0];omega
theorem X1 {k:Bool} {x:Leg} {p:Span} {t:Int} (h:GoodLeg x) (hp:Z6 p=true) (ht:t<=100001):Z0 k x p t<=100001/\(t+1<=Z0 k x p t\/t=100001/\Z0 k x p t=100001)/\(Z0 k x p t < 100001->Z0 k x p t=leK k x p t+nK k x p/\leK k x p t < 100001)/\(leK k x p t < 100001->leK k x p t+nK k x p<=100001)/\t<=leK k x p t/\leK k x p t<=100001:=by
 have hn:=Zq8 (k:=k) h hp;obtain ⟨_,a2,a3⟩:=ZbG (k:=k) (t:=t) h hp;have:=Zj1 (o:=λg=>bif k then g.opens.hi else g.opens.lo) hn.1 ht a3;rw [<- a2] at this;simp only [Z0];omega
theorem Zbm {k:Bool} {x:Leg} {p:Span} {t:Int} (h:GoodLeg x) (hp:Z6 p=true) (ht:t<=100001):t<=Z0 k x p t:=by
 have:=X1 (k:=k) h hp ht;omega
def Zk (x:Leg) (v:Int):Int:=if x.a=v then x.b else if x.b=v then x.a else -1
def goW (k:Bool) (l:Land) (p:Span):Int->Int->List Nat->Option (Int × Int)
 | v,t,[]=>some (v,t)
 | v,t,i :: r=>match l.legs[i]? with
  | none=>none
  | some x=>if Zk x v < 0 then none else if Z0 k x p t > 100000 then none else goW k l p (Zk x v) (Z0 k x p t) r
structure OkLP (l:Land) (p:Span):Prop where
 land:Z1 l=true
 pace:Z6 p=true
theorem OkLP.leg {l:Land} {p:Span} (h:OkLP l p) {i:Nat} {x:Leg} (hx:l.legs[i]? = some x):GoodLeg x:=WB h.land x (List.mem_of_getElem? hx)
theorem OkLP.ends {l:Land} {p:Span} (h:OkLP l p) {x:Leg} (hx:x ∈ l.legs):(0<=x.a/\x.a < l.wells.length)/\(0<=x.b/\x.b < l.wells.length)/\x.a≠x.b:=by
 have h1:=h.land;simp only [Z1,Bool.and_eq_true,List.all_eq_true] at h1;have:=h1.2 x hx;simp only [Ww,inR,Bool.and_eq_true,decide_eq_true_eq,bne_iff_ne] at this;obtain ⟨⟨⟨⟨⟨q1,q2⟩,q3⟩,_⟩,_⟩,_⟩:=this;refine ⟨by omega,by omega,q3⟩
theorem Yb {l:Land} {p:Span} (h:OkLP l p) {i:Nat} {x:Leg} (hx:l.legs[i]? = some x) {v:Int} (ho:¬ Zk x v < 0):(0<=Zk x v/\Zk x v < l.wells.length)/\(x.a=v/\Zk x v=x.b\/x.b=v/\Zk x v=x.a)/\0<=v/\v < l.wells.length:=by
 have:=h.ends (List.mem_of_getElem? hx);unfold Zk at ho ⊢;split
 . omega
 . split
   . omega
   . rw [if_neg (by assumption),if_neg (by assumption)] at ho;omega
theorem Zbw {k:Bool} {l:Land} {p:Span}:∀ {a b:List Nat} {v t:Int},goW k l p v t (a ++ b)=(goW k l p v t a).bind λs=>goW k l p s.1 s.2 b
 | [],b,v,t=>rfl
 | i :: a,b,v,t=>by
  simp only [List.cons_append,goW];cases l.legs[i]? with
  | none=>rfl
  | some x =>
   simp only;split
   . rfl
   . split
     . rfl
     . exact Zbw
theorem V1 {k:Bool} {l:Land} {p:Span} (h:OkLP l p):∀ {a:List Nat} {v t v' t':Int},goW k l p v t a=some (v',t')->t<=100000->0<=v->v < l.wells.length->t+a.length<=t'/\t'<=100000/\0<=v'/\v' < l.wells.length
 | [],v,t,v',t',e,ht,h0,h1=>by simp only [goW,Option.some.injEq,Prod.mk.injEq] at e;simp;omega
 | i :: a,v,t,v',t',e,ht,h0,h1=>by
  simp only [goW] at e;cases hx:l.legs[i]? with
  | none=>rw [hx] at e;cases e
  | some x =>
   rw [hx] at e;simp only at e;by_cases ho:Zk x v < 0
   . rw [if_pos ho] at e;cases e
   . rw [if_neg ho] at e;by_cases hr:Z0 k x p t > 100000
     . rw [if_pos hr] at e;cases e
     . rw [if_neg hr] at e;have hb:=X1 (k:=k) (h.leg hx) h.pace (show t<=100001 by omega);have ho':=Yb h hx ho;have:=V1 h e (by omega) ho'.1.1 ho'.1.2;simp only [List.length_cons];omega
def ZmR (k:Bool) (l:Land) (p:Span) (d:Int->Int):Prop:=∀ x ∈ l.legs,d x.b<=Z0 k x p (d x.a)/\d x.a<=Z0 k x p (d x.b)
theorem ZeB {k:Bool} {l:Land} {p:Span} {d:Int->Int} (h:OkLP l p) (hc:ZmR k l p d):∀ {a:List Nat} {v t v' t':Int},goW k l p v t a=some (v',t')->d v<=t->d v'<=t'
 | [],v,t,v',t',e,ht=>by simp only [goW,Option.some.injEq,Prod.mk.injEq] at e;rw [<- e.1];omega
 | i :: a,v,t,v',t',e,ht=>by
  simp only [goW] at e;cases hx:l.legs[i]? with
  | none=>rw [hx] at e;cases e
  | some x =>
   rw [hx] at e;simp only at e;by_cases ho:Zk x v < 0
   . rw [if_pos ho] at e;cases e
   . rw [if_neg ho] at e;by_cases hr:Z0 k x p t > 100000
     . rw [if_pos hr] at e;cases e
     . rw [if_neg hr] at e;refine ZeB h hc e ?_;have hcx:=hc x (List.mem_of_getElem? hx);have hm:=Za2 (k:=k) (h.leg hx) h.pace ht;rcases (Yb h hx ho).2.1 with ⟨q1,q2⟩ | ⟨q1,q2⟩
       . rw [q2];rw [<- q1] at hm;omega
       . rw [q2];rw [<- q1] at hm;omega
open Classical in
noncomputable def Y3 (k:Bool) (l:Land) (p:Span) (s day v:Int):Int :=
 if h:∃ n:Nat,∃ a,goW k l p s day a=some (v,(n:Int)) then ((Go.Sx.least_ex _ h).choose:Int) else 100001
theorem Zbe {k:Bool} {l:Land} {p:Span} (h:OkLP l p) {s day v t:Int} {a:List Nat} (e:goW k l p s day a=some (v,t)) (hd:0<=day) (hd':day<=100000) (h0:0<=s) (h1:s < l.wells.length):Y3 k l p s day v<=t:=by
 have hb:=V1 h e hd' h0 h1;have hex:∃ n:Nat,∃ a,goW k l p s day a=some (v,(n:Int)):=⟨t.toNat,a,by rw [e,show ((t.toNat:Nat):Int)=t by omega]⟩
 unfold Y3;rw [dif_pos hex];have:=(Go.Sx.least_ex _ hex).choose_spec.2 t.toNat ⟨a,by rw [e,show ((t.toNat:Nat):Int)=t by omega]⟩;omega
theorem ZbX {k:Bool} {l:Land} {p:Span} {s day v:Int}:Y3 k l p s day v=100001\/∃ a,goW k l p s day a=some (v,Y3 k l p s day v):=by
 unfold Y3;by_cases hex:∃ n:Nat,∃ a,goW k l p s day a=some (v,(n:Int))
 . rw [dif_pos hex];exact .inr (Go.Sx.least_ex _ hex).choose_spec.1
 . rw [dif_neg hex];exact .inl rfl
theorem Zjm {k:Bool} {l:Land} {p:Span} (h:OkLP l p) {s day v:Int} (hd:0<=day) (hd':day<=100000) (h0:0<=s) (h1:s < l.wells.length):day<=Y3 k l p s day v/\Y3 k l p s day v<=100001:=by
 rcases ZbX (k:=k) (l:=l) (p:=p) (s:=s) (day:=day) (v:=v) with e | ⟨a,e⟩
 . omega
 . have:=V1 h e hd' h0 h1;omega
theorem ZaS {k:Bool} {l:Land} {p:Span} {a:List Nat} {s t v u:Int} {i:Nat} {x:Leg} (e:goW k l p s t a=some (v,u)) (hx:l.legs[i]? = some x) (ho:¬ Zk x v < 0) (hr:¬ Z0 k x p u > 100000):goW k l p s t (a ++ [i])=some (Zk x v,Z0 k x p u):=by
 rw [Zbw,e];simp only [Option.bind_some,goW,hx];rw [if_neg ho,if_neg hr]
theorem Zc3 {k:Bool} {l:Land} {p:Span} (h:OkLP l p) {s day:Int} (hd:0<=day) (hd':day<=100000) (h0:0<=s) (h1:s < l.wells.length) {d:Int->Int} (hs:d s<=day) (hc:ZmR k l p d) (hb:∀ v,d v<=100001)
 (hr:∀ v,d v=100001\/∃ a,goW k l p s day a=some (v,d v)) (v:Int):d v=Y3 k l p s day v:=by
 have h2:Y3 k l p s day v<=d v:=by
  rcases hr v with e | ⟨a,e⟩
  . have:=Zjm (k:=k) (v:=v) h hd hd' h0 h1;omega
  . exact Zbe h e hd hd' h0 h1
 have h3:d v<=Y3 k l p s day v:=by
  rcases ZbX (k:=k) (l:=l) (p:=p) (s:=s) (day:=day) (v:=v) with e | ⟨a,e⟩
  . have:=hb v;omega
  . exact ZeB h hc e hs
 omega
noncomputable def Wt (k:Bool) (l:Land) (p:Span) (s day:Int):List Int:=(List.range l.wells.length).map λv:Nat=>Y3 k l p s day (v:Int)
end Go.Azalai
namespace Go.Proofs.YtongccnhomncnaaGreat
open Go Go.Sx
def c60:SC:=(sr1 [o1 2 (Jz 0 0 130),o1 3 (Jz 1 0 3),o1 4 (.mv (.c (.nilFunc)))] (sr1 [o1 5 (.mkf 95 [.t 2,.t 3]),m1 4 5] .ret))
def r60:List RV:=[.tmp 4]
theorem n60:Tryz.f60.ntmps=6:=by kernel_rfl
theorem b60:Yn Tryz.prog 60=true:=by kernel_rfl
theorem ZzJ:Xi Tryz.prog c60 ((Tryz.f60.body).getD .skip)=true:=by kernel_rfl
theorem ZA9:XV Tryz.prog r60 Tryz.f60.results.toList=true:=by kernel_rfl
theorem m60 {n0:Nat} {hp0:List (Nat × HB)} {args:List SV} {ZO:Ot->Prop} (hh:hpb n0 hp0) (hx:∀ o,ZO o->KX o.res/\KXP o.hp) (h:sx Tryz.prog Y0 n0 c60 ⟨Xx 0 args,hp0,n0,6,[]⟩ (Uk r60 λo=>∃ o',ZO o'/\Zbs n0 o o')) (hA:Nat.ble args.length 6=true:=by rfl):CtM Tryz.prog 60 hp0 n0 args ZO:=Yf Tryz.func60 rfl b60 ZzJ ZA9 n60 (Nat.le_of_ble_eq_true hA) hh hx h
def c95:SC:=(sr1 [o1 6 (ao 1 0),o1 7 (ao 6 1),o1 8 (lf 7 1),o1 9 (Jl 8),Jk 10 0] (.block 0 (.loop (sr1 [o1 11 (Jb .lss 10 9)] (.seq (Ji 11 .skip (.exit 0)) (.seq (.block 1 (sr1 [m1 12 10,o1 13 (Jx 8 10 5),o1 14 (lt 13 5),o1 5 (.alloc Zyv 120),m1 4
 12,Js 5 14 5] (sr1 [o1 15 (lf 2 1)] (.block 2 (sr1 [o1 17 (ao 5 0),o1 18 (lf 17 1),o1 19 (Jb .eql 15 18),m1 16 19] (Ji 16 (sr1 [m1 20 0,m1 21 4,o1 22 (ao 5 1),o1 23 (lf 22 1),o1 24 (.calvm (.t 20) [.t 21,.t 23]),o1 25 (Jh 24)] (Ji 25 .ret .skip))
 (sr1 [o1 27 (ao 5 1),o1 28 (lf 27 1),o1 29 (Jb .eql 15 28),m1 26 29] (Ji 26 (sr1 [m1 30 0,m1 31 4,o1 32 (ao 5 0),o1 33 (lf 32 1),o1 34 (.calvm (.t 30) [.t 31,.t 33]),o1 35 (Jh 34)] (Ji 35 .ret .skip)) .skip)))))))) (.reg [o1 36 (Jc .add 10 1),m1 10
 36])))))))
def r95:List RV:=[]
theorem n95:Tryz.f95.ntmps=37:=by kernel_rfl
theorem b95:Yn Tryz.prog 95=true:=by kernel_rfl
theorem ZA2:Xi Tryz.prog c95 ((Tryz.f95.body).getD .skip)=true:=by kernel_rfl
theorem ZAH:XV Tryz.prog r95 Tryz.f95.results.toList=true:=by kernel_rfl
theorem y95 {Y:Hd} {n0:Nat} {hp0:List (Nat × HB)} {args:List SV} {ZO:Ot->Prop} (h:sx Tryz.prog Y n0 c95 ⟨Xx 0 args,hp0,n0,37,[]⟩ (Uk r95 ZO)) (hA:Nat.ble args.length 37=true:=by rfl):CtY Tryz.prog Y 95 hp0 n0 args ZO:=WC Tryz.func95 rfl ZA2 ZAH n95 (Nat.le_of_ble_eq_true hA) h
def c159:SC:=(sr1 [o1 3 (Jz 0 0 130),o1 4 (Jz 1 0 3),o1 6 (.alloc [.int .i64 0] 3)] (.seq (sr1 [o1 9 (lt 3 4),m1 10 2,o1 11 (.callm 60 [.t 9,.t 10])] (.block 0 (.gh (.rfun (.t 11) [12,13] (sr1 [m1 7 12] (.reg [m1 8 13])) (.block 1 (sr1 [m1 14 7,o1 15
 (lf 4 1),o1 16 (Jb .eql 14 15)] (Ji 16 (sr1 [m1 17 8,Js 6 17 1] .ret) .skip))))))) (sr1 [⟨none,.st (.t 6) (cn (-1)) 1,none,[]⟩] .ret)))
def r159:List RV:=[.cell 6 1 false]
theorem t159:Qt1 Tryz.prog 159 c159 r159 18:=ZH Tryz.func159
def c61:SC:=(sr1 [o1 3 (Jz 0 0 130),o1 5 (Jz 2 0 141),o1 6 (.alloc zv0 141)] (.seq (.regd (Jr 11) [Jo 10 (lt 3 4),Jm 11 1,Jo 12 (lt 5 2),Jp 13 (J3 96 10 11 12) [0,1,2],Jo 14 (lt 3 4),Jm 15 1,Jp 16 (J2 97 14 15) [3,4,5]] 2 2 [o1 7 (.alloc zv0 141),o1 8
 (.alloc zv0 141),Ju 7 13 2 [0,1,2,3,6,7,8],Ju 8 16 2 (Jr 10)]) (.seq (sr1 [Jk 17 0] (.block 0 (.loop (sr1 [o1 18 (Jc .lss 17 2)] (.seq (Ji 18 .skip (.exit 0)) (.seq (.block 1 (sr1 [m1 19 17,m1 9 19] (.regd (Jr 12) [Jm 20 9,Jm 21 9,Jp 22 (.ixa (.t 7)
 (.t 21) 2 1) [1],Jp 23 (lf 22 1) [2],Jm 24 9,Jp 25 (.ixa (.t 8) (.t 24) 2 1) [4],Jp 26 (lf 25 1) [5],Jp 27 (Jb .add 23 26) [3,6],Jp 28 (.bsl 1 3 [.t 27]) [7],Jp 29 (J1 98 28) [8],Jp 30 (.ixa (.t 7) (.t 20) 2 1) (Jr 10)] 0 1 [Ju 30 29 1 (Jr 11)])))
 (.reg [o1 31 (Jc .add 17 1),m1 17 31]))))))) (sr1 [o1 32 (lt 7 2),Js 6 32 2] .ret))))
def r61:List RV:=[.cell 6 2 true]
theorem t61:Qt1 Tryz.prog 61 c61 r61 33:=ZH Tryz.func61
def c88:SC:=(sr1 [o1 4 (Jz 0 0 130),o1 7 (Jz 3 0 3),o1 8 (.mv (.c (.slice none 0 0)))] (sr1 [o1 16 (.bsl 1 3 [cn 100001]),o1 17 (ao 4 0),o1 18 (ao 17 0),o1 19 (lf 18 1),o1 20 (Jl 19),o1 21 (.callm 129 [.t 16,.t 20]),o1 9 (.alloc [.slice none 0 0]
 35),Js 9 21 1] (sr1 [o1 22 (lf 9 1),m1 23 1,m1 24 2,o1 25 (Jx 22 23 1),Js 25 24 1] (sr1 [o1 26 (.raw (Go.Op.makeMap 116 Option.none) 116),m1 10 26] (.seq (sr1 [o1 27 (lf 9 1),o1 28 (Jl 27),Jk 29 0] (.block 0 (.loop (sr1 [o1 30 (Jb .lss 29 28)] (.seq
 (Ji 30 .skip (.exit 0)) (.seq (.block 1 (sr1 [m1 31 29,m1 11 31] (.reg [m1 32 10,m1 33 11,⟨none,.raw (Go.Op.mapUpdate 116 (Go.Operand.tmp 32) (Go.Operand.tmp 33) (Go.Operand.const (Go.Value.bool Bool.true))) 0,none,[]⟩]))) (.reg [o1 34 (Jc .add 29
 1),m1 29 34]))))))) (.seq (.block 2 (.loop (.seq (sr1 [m1 35 10,o1 36 (.raw (Go.Op.call { callee:=(Go.Callee.builtin Go.Builtin.len),args:=#[(Go.Operand.tmp 35)],argTypes:=#[116] }) 3),o1 37 (Jc .gtr 36 0)] (Ji 37 .skip (.exit 2))) (.block 3 (sr1 [o1
 12 (.alloc [.int .i64 0] 3),⟨none,.st (.t 12) (cn (-1)) 1,none,[]⟩] (.seq (sr1 [m1 38 10,o1 39 (.raw (Go.Op.range 116 (Go.Operand.tmp 38)) 0)] (.block 4 (.loop (sr1 [o1 40 (.raw (Go.Op.next (Go.Operand.tmp 39) Bool.false) 0),o1 41 (Je 40 0)] (.seq
 (Ji 41 .skip (.exit 4)) (.block 5 (sr1 [o1 42 (.raw (Go.Op.entry (Go.Operand.tmp 39)) 0),o1 43 (Je 42 0),m1 13 43] (.seq (.regd (Jr 29) [Jo 44 (lf 12 1),Jp 45 (Jc .lss 44 0) [0],Jp 46 (.mv (.t 45)) [1],Jq 47 46 false (lf 9 1) [2],Jq 48 46 false (.mv
 (.t 13)) [2],Jq 49 46 false (Jx 47 48 1) [2,3,4],Jq 50 46 false (lf 49 1) [2,5],Jq 51 46 false (lf 9 1) [2],Jq 52 46 false (lf 12 1) [2],Jq 53 46 false (Jx 51 52 1) [2,7,8],Jq 54 46 false (lf 53 1) [2,9],Jq 55 46 false (Jb .lss 50 54) [2,6,10],Jp 56
 (.pick (.t 46) Jt (.t 55)) [2,11],Jp 57 (.mv (.t 56)) [2,12],Jq 58 57 false (lf 9 1) [13],Jq 59 57 false (.mv (.t 13)) [13],Jq 60 57 false (Jx 58 59 1) [13,14,15],Jq 61 57 false (lf 60 1) [13,16],Jq 62 57 false (lf 9 1) [13],Jq 63 57 false (lf 12 1)
 [13],Jq 64 57 false (Jx 62 63 1) [13,18,19],Jq 65 57 false (lf 64 1) [13,20],Jq 66 57 false (Jb .eql 61 65) [13,17,21],Jq 67 57 false (.mv (.t 66)) [13,22],Jq 68 67 true (.mv (.t 13)) [23],Jq 69 67 true (lf 12 1) [23],Jq 70 67 true (Jb .lss 68 69)
 [23,24,25],Jq 71 57 false (.pick (.t 67) (.t 70) Jf) [13,23,26],Jp 72 (.pick (.t 57) Jt (.t 71)) [13,27]] 0 0 []) (Ji 72 (.reg [m1 73 13,Js 12 73 1]) .skip))))))))) (sr1 [m1 74 10,o1 75 (lf 12 1),⟨none,.raw (Go.Op.call { callee:=(Go.Callee.builtin Go.Builtin.delete),args:=#[(Go.Operand.tmp 74),(Go.Operand.tmp 75)],argTypes:=#[116,3] })
 0,none,[]⟩] (sr1 [o1 76 (lt 4 4),o1 77 (lf 12 1),o1 78 (.callm 60 [.t 76,.t 77])] (.block 6 (.gh (.rfun (.t 78) [79,80] (sr1 [m1 14 79] (.reg [m1 15 80])) (.block 7 (.regd (Jr 23) [Jo 81 (lf 9 1),Jm 82 15,Jo 83 (lf 9 1),Jm 84 15,Jp 85 (Jx 83 84 1)
 [2,3],Jp 86 (lf 85 1) [4],Jo 87 (lt 4 4),Jm 88 14,Jo 89 (lf 9 1),Jo 90 (lf 12 1),Jp 91 (Jx 89 90 1) [8,9],Jp 92 (lf 91 1) [10],Jo 93 (lf 9 1),Jo 94 (lf 12 1),Jp 95 (Jx 93 94 1) [12,13],Jp 96 (lf 95 1) [14],Jp 97 (.build zv0 [(0,1,.t 92),(1,1,.t 96)])
 [11,15],Jp 98 (J3 61 87 88 97) [6,7,16],Jo 99 (lf 7 1),Jp 100 (.idx (.t 98) (.t 99) 2 1 false) [17,18],Jp 101 (.mm false [.t 86,.t 100]) [5,19],Jp 102 (Jx 81 82 1) (Jr 21)] 0 1 [Ju 102 101 1 (Jr 22)]))))))))))))) (sr1 [o1 103 (lf 9 1),m1 8 103]
 .ret)))))))
def r88:List RV:=[.tmp 8]
theorem t88:Qt1 Tryz.prog 88 c88 r88 104:=ZH Tryz.func88
def c53:SC:=(sr1 [o1 4 (Jz 0 0 25),o1 7 (Jz 3 0 27),o1 8 (.mv (.c (.slice none 0 0))),Jk 9 0] (sr1 [o1 17 (lt 4 2),o1 18 (lt 7 2),o1 19 (J2 56 17 18),m1 16 19,o1 20 (Je 16 0),o1 21 (Je 16 1),o1 10 (.alloc ZoM 130),Js 10 20 4,m1 11 21] (.seq (.block 0
 (sr1 [m1 23 11,o1 24 (Jc .neq 23 0),m1 22 24] (Ji 22 (sr1 [m1 25 11,o1 8 (.mv (.c (.slice none 0 0))),m1 9 25] .ret) (sr1 [o1 27 (ao 4 0),o1 28 (lf 27 1),o1 29 (Jl 28),o1 30 (Jc .sub 29 1),m1 31 1,o1 32 (.bsl 1 3 [.t 31]),o1 33 (.call 57 [cn 0,.t
 30,.t 32]),o1 34 (Jh 33),m1 35 34,g1 36 35 false (.mv (.t 2)),g1 37 35 false (.bsl 1 3 [.t 36]),g1 38 35 false (.call 57 [cn 0,cn 100000,.t 37]),g1 39 35 false (Jh 38),o1 40 (.pick (.t 35) Jt (.t 39)),m1 26 40] (Ji 26 (sr1 [o1 8 (.mv (.c (.slice none
 0 0))),Jk 9 2] .ret) .skip))))) (sr1 [o1 12 (.mv (.c (.slice none 0 0)))] (sr1 [o1 41 (lt 10 4),m1 42 1,m1 43 2,o1 44 (.call 88 [.t 41,.t 42,.t 43,cn 1]),m1 13 44] (.seq (sr1 [o1 45 (lt 10 4),m1 46 1,m1 47 2,o1 48 (.call 88 [.t 45,.t 46,.t 47,cn
 0]),o1 49 (Jl 48),Jk 50 0] (.block 1 (.loop (sr1 [o1 51 (Jb .lss 50 49)] (.seq (Ji 51 .skip (.exit 1)) (.seq (.block 2 (sr1 [m1 52 50,o1 53 (Jx 48 50 1),o1 54 (lf 53 1),m1 14 52,m1 15 54] (.reg [m1 55 12,m1 56 15,m1 57 13,m1 58 14,o1 59 (Jx 57 58
 1),o1 60 (lf 59 1),o1 61 (.build zv0 [(0,1,.t 56),(1,1,.t 60)]),o1 62 (.bsl 2 27 [.t 61]),o1 63 (.appm 2 16 27 (.t 55) (.t 62)),m1 12 63]))) (.reg [o1 64 (Jc .add 50 1),m1 50 64]))))))) (sr1 [m1 65 12,m1 8 65,Jk 9 0] .ret)))))))
def r53:List RV:=[.tmp 8,.tmp 9]
theorem t53:Qt1 Tryz.prog 53 c53 r53 66:=ZH Tryz.func53
def c125:SC:=(sr1 [o1 5 (Jz 0 0 25),o1 8 (Jz 3 0 27),o1 10 (.mv (.c (.slice none 0 0))),Jk 11 0,Jk 12 0] (sr1 [o1 23 (lt 5 2),o1 24 (lt 8 2),o1 25 (J2 56 23 24),m1 22 25,o1 26 (Je 22 0),o1 27 (Je 22 1),o1 13 (.alloc ZoM 130),Js 13 26 4,m1 12 27] (.seq
 (.block 0 (sr1 [m1 29 12,o1 30 (Jc .neq 29 0),m1 28 30] (Ji 28 (sr1 [m1 31 12,o1 10 (.mv (.c (.slice none 0 0))),Jk 11 0,m1 12 31] .ret) (sr1 [o1 33 (ao 5 0),o1 34 (lf 33 1),o1 35 (Jl 34),o1 36 (Jc .sub 35 1),m1 37 1,o1 38 (.bsl 1 3 [.t 37]),o1 39
 (.call 57 [cn 0,.t 36,.t 38]),o1 40 (Jh 39),m1 41 40,g1 42 41 false (.mv (.t 2)),g1 43 41 false (.bsl 1 3 [.t 42]),g1 44 41 false (.call 57 [cn 0,cn 100000,.t 43]),g1 45 41 false (Jh 44),o1 46 (.pick (.t 41) Jt (.t 45)),m1 32 46] (Ji 32 (sr1 [o1 10
 (.mv (.c (.slice none 0 0))),Jk 11 0,Jk 12 2] .ret) (sr1 [m1 48 4,o1 49 (Jl 48),o1 50 (Jc .gtr 49 24),m1 47 50] (Ji 47 (sr1 [o1 10 (.mv (.c (.slice none 0 0))),Jk 11 0,Jk 12 4] .ret) .skip))))))) (sr1 [o1 14 (.mv (.c (.slice none 0 0)))] (sr1 [m1 51
 1,m1 15 51] (.seq (sr1 [m1 52 4,o1 53 (Jl 52),Jk 54 0] (.block 1 (.loop (sr1 [o1 55 (Jb .lss 54 53)] (.seq (Ji 55 .skip (.exit 1)) (.seq (.block 2 (sr1 [m1 56 54,o1 57 (Jx 52 54 1),o1 58 (lf 57 1),m1 16 56,m1 17 58] (.seq (sr1 [o1 59 (lt 13 4),m1 60
 17,m1 61 15,o1 62 (J3 159 59 60 61),m1 15 62] (sr1 [m1 63 15,o1 64 (Jc .lss 63 0)] (Ji 64 (sr1 [m1 65 16,o1 10 (.mv (.c (.slice none 0 0))),m1 11 65,Jk 12 8] .ret) .skip))) (.reg [m1 66 14,m1 67 15,o1 68 (.bsl 1 3 [.t 67]),o1 69 (.appm 1 8 3 (.t 66)
 (.t 68)),m1 14 69])))) (.reg [o1 70 (Jc .add 54 1),m1 54 70]))))))) (sr1 [m1 71 2,m1 72 2,o1 73 (.build zv0 [(0,1,.t 71),(1,1,.t 72)]),o1 18 (.alloc zv0 141),Js 18 73 2] (.seq (sr1 [m1 74 4,o1 75 (Jl 74),Jk 76 0] (.block 3 (.loop (sr1 [o1 77 (Jb .lss
 76 75)] (.seq (Ji 77 .skip (.exit 3)) (.seq (.block 4 (sr1 [m1 78 76,o1 79 (Jx 74 76 1),o1 80 (lf 79 1),m1 19 78,m1 20 80] (sr1 [o1 81 (lt 13 4),m1 82 20,o1 83 (lt 18 2),o1 84 (J3 96 81 82 83),o1 21 (.alloc zv0 141),Js 21 84 2] (.seq (sr1 [o1 85 (lt
 13 4),m1 86 20,o1 87 (lt 18 2),o1 88 (J3 61 85 86 87),Js 18 88 2] (sr1 [o1 89 (.ixa (.t 18) (cn 1) 2 1),o1 90 (lf 89 1),o1 91 (Jc .gtr 90 100000)] (Ji 91 (sr1 [m1 92 19,o1 10 (.mv (.c (.slice none 0 0))),m1 11 92,Jk 12 34] .ret) .skip))) (.regs (Jr
 14) ⟨[Jm 93 10,Jm 94 20,Jm 95 14,Jm 96 19,Jp 97 (Jx 95 96 1) [2,3],Jp 98 (lf 97 1) [4],Jo 99 (lt 21 2),Jp 100 (J1 117 99) [6],Jo 101 (lt 18 2),Jp 102 (J1 117 101) [7,8],Jp 103 (.build ZqK [(0,1,.t 94),(1,1,.t 98),(2,2,.t 100),(4,2,.t 102)])
 [1,5,7,9],Jp 104 (.bsl 6 148 [.t 103]) [10]],0,1,[⟨some 105,.appm 6 48 148 (.t 93) (.t 104),none,[0,9,11]⟩]⟩ [⟨[],0,1,[⟨some 10,.mv (.t 105),none,(Jr 13)⟩]⟩]))))) (.reg [o1 106 (Jc .add 76 1),m1 76 106]))))))) (sr1 [m1 107 10,m1 10 107,Jk 11 0,Jk 12
 0] .ret)))))))))
def r125:List RV:=[.tmp 10,.tmp 11,.tmp 12]
theorem t125:Qt1 Tryz.prog 125 c125 r125 108:=ZH Tryz.func125
def c62:SC:=(sr1 [o1 4 (.mv (.c (.slice none 0 0)))] (sr1 [m1 5 0,o1 6 (J1 59 5),o1 7 (J1 99 6),m1 8 1,o1 9 (.bsl 1 3 [.t 8]),o1 10 (.app 1 8 3 (.t 7) (.t 9)),m1 4 10] .ret))
def r62:List RV:=[.tmp 4]
theorem t62:Qt1 Tryz.prog 62 c62 r62 11:=ZH Tryz.func62
def c59:SC:=(sr1 [o1 2 (.mv (.c (.slice none 0 0)))] (.seq (sr1 [m1 3 0,o1 4 (.isn (.t 3))] (Ji 4 (sr1 [o1 2 (.mv (.c (.slice none 0 0)))] .ret) .skip)) (sr1 [o1 5 (.bsl 1 3 []),m1 6 0,o1 7 (.app 1 8 3 (.t 5) (.t 6)),m1 2 7] .ret)))
def r59:List RV:=[.tmp 2]
theorem n59:Tryz.f59.ntmps=8:=by kernel_rfl
theorem b59:Yn Tryz.prog 59=true:=by kernel_rfl
theorem ZBl:Xi Tryz.prog c59 ((Tryz.f59.body).getD .skip)=true:=by kernel_rfl
theorem Zzf:XV Tryz.prog r59 Tryz.f59.results.toList=true:=by kernel_rfl
def c99:SC:=(sr1 [o1 2 (.mv (.c (.slice none 0 0)))] (sr1 [m1 3 0,m1 4 0,o1 5 (Jl 4),m1 6 0,o1 7 (Jl 6),o1 8 (.slc (.t 3) (.t 5) (.t 7)),m1 2 8] .ret))
def r99:List RV:=[.tmp 2]
theorem t99:Qt1 Tryz.prog 99 c99 r99 9:=ZH Tryz.func99
def c64:SC:=(sr1 [Jk 4 0] (.seq (sr1 [m1 9 0,o1 10 (Jl 9),Jk 11 0] (.block 0 (.loop (sr1 [o1 12 (Jb .lss 11 10)] (.seq (Ji 12 .skip (.exit 0)) (.seq (.block 1 (sr1 [m1 13 11,o1 14 (Jx 9 11 1),o1 15 (lf 14 1),m1 5 13,m1 6 15] (.seq (sr1 [m1 16 5,m1 17
 1,o1 18 (Jl 17),o1 19 (Jb .geq 16 18)] (Ji 19 (sr1 [Jk 4 1] .ret) .skip)) (sr1 [m1 20 1,m1 21 5,o1 22 (Jx 20 21 1),o1 23 (lf 22 1),m1 7 23] (sr1 [m1 24 6,m1 25 7,o1 26 (J2 103 24 25),m1 8 26] (sr1 [m1 27 8,o1 28 (Jc .neq 27 0)] (Ji 28 (sr1 [m1 29
 8,m1 4 29] .ret) .skip))))))) (.reg [o1 30 (Jc .add 11 1),m1 11 30]))))))) (.seq (sr1 [m1 31 0,o1 32 (Jl 31),m1 33 1,o1 34 (Jl 33),o1 35 (Jb .lss 32 34)] (Ji 35 (sr1 [o1 4 (.mv (cn (-1)))] .ret) .skip)) (sr1 [Jk 4 0] .ret))))
def r64:List RV:=[.tmp 4]
theorem t64:Qt1 Tryz.prog 64 c64 r64 36:=ZH Tryz.func64
def c103:SC:=(sr1 [Jk 4 0] (sr1 [m1 7 0,o1 8 (J1 140 7),m1 5 8] (sr1 [m1 9 1,o1 10 (J1 140 9),m1 6 10] (.seq (sr1 [m1 11 5] (Ji 11 (.seq (sr1 [m1 12 6] (Ji 12 (sr1 [Jk 4 0] .ret) .skip)) (sr1 [o1 4 (.mv (cn (-1)))] .ret)) .skip)) (.seq (sr1 [m1 13 6]
 (Ji 13 (sr1 [Jk 4 1] .ret) .skip)) (.seq (sr1 [m1 14 0,m1 15 1,o1 16 (Jb .lss 14 15)] (Ji 16 (sr1 [o1 4 (.mv (cn (-1)))] .ret) .skip)) (.seq (sr1 [m1 17 0,m1 18 1,o1 19 (Jb .gtr 17 18)] (Ji 19 (sr1 [Jk 4 1] .ret) .skip)) (sr1 [Jk 4 0] .ret))))))))
def r103:List RV:=[.tmp 4]
theorem t103:Qt1 Tryz.prog 103 c103 r103 20:=ZH Tryz.func103
def c140:SC:=(sr1 [Jw 2 Jf] (sr1 [m1 3 0,m1 4 0,o1 5 (Jb .neq 3 4),m1 2 5] .ret))
def r140:List RV:=[.tmp 2]
theorem t140:Qt1 Tryz.prog 140 c140 r140 6:=ZH Tryz.func140
def c129:SC:=(sr1 [o1 4 (.mv (.c (.slice none 0 0)))] (.seq (sr1 [m1 9 1,o1 10 (Jc .lss 9 0)] (Ji 10 (.reg [o1 11 (.raw (Go.Op.makeInterface 9 (Go.Operand.const (Go.Value.string { data:=#[99,97,110,110,111,116,32,98,101,32,110,101,103,97,116,105,118,101] })))
 20),⟨none,.raw (Go.Op.panic (Go.Operand.tmp 11)) 0,none,[]⟩]) .skip)) (sr1 [m1 13 0,o1 14 (Jl 13),o1 15 (.conv .u64 (.t 14)),m1 16 1,o1 17 (.conv .u64 (.t 16)),o1 18 (J2 155 15 17),m1 12 18,o1 19 (Je 12 0),o1 20 (Je 12 1),m1 5 19,m1 6 20] (.seq (sr1
 [m1 21 5,o1 22 (.bin .gtr (.t 21) (.c (.int .u64 0))),m1 23 22,g1 24 23 false (.mv (.t 6)),g1 25 23 false (.bin .gtr (.t 24) (.c (.int .u64 9223372036854775807))),o1 26 (.pick (.t 23) Jt (.t 25))] (Ji 26 (.reg [o1 27 (.raw (Go.Op.makeInterface 9
 (Go.Operand.const (Go.Value.string { data:=#[116,104,101,32,114,101,115,117,108,116,32,111,102,32,40,108,101,110,40,120,41,32,42,32,99,111,117,110,116,41,32,111,118,101,114,102,108,111,119,115] }))) 20),⟨none,.raw (Go.Op.panic (Go.Operand.tmp 27))
 0,none,[]⟩]) .skip)) (sr1 [m1 28 6,o1 29 (.conv .i64 (.t 28)),o1 30 (.mks 1 8 [.int .i64 0] 3 (.t 29)),m1 7 30] (sr1 [m1 31 7,m1 32 0,o1 33 (.cpy 1 (.t 31) (.t 32)),m1 8 33] (.seq (.block 0 (.loop (.seq (sr1 [m1 34 8,m1 35 7,o1 36 (Jl 35),o1 37 (Jb
 .lss 34 36)] (Ji 37 .skip (.exit 0))) (.block 1 (.regd [1,2,3,4,5,6,0,7,8,9] [Jm 39 7,Jm 40 8,Jp 41 (.sub 1 (.t 39) (some (.t 40)) none) [1,2],Jm 42 7,Jm 43 8,Jp 44 (.sub 1 (.t 42) none (some (.t 43))) [4,5],.hide (.t 41),Jm 38 8] 0 1 [⟨some 45,.cpy
 1 (.t 41) (.t 44),none,[3,6]⟩,⟨some 46,Jb .add 38 45,none,[0,7]⟩,⟨some 8,.mv (.t 46),none,(Jr 9)⟩]))))) (sr1 [m1 47 7,m1 4 47] .ret))))))))
def r129:List RV:=[.tmp 4]
theorem n129:Tryz.f129.ntmps=48:=by kernel_rfl
theorem b129:Yn Tryz.prog 129=true:=by kernel_rfl
theorem Zyk:Xi Tryz.prog c129 ((Tryz.f129.body).getD .skip)=true:=by kernel_rfl
theorem Zxt:XV Tryz.prog r129 Tryz.f129.results.toList=true:=by kernel_rfl
theorem m129 {n0:Nat} {hp0:List (Nat × HB)} {args:List SV} {ZO:Ot->Prop} (hh:hpb n0 hp0) (hx:∀ o,ZO o->KX o.res/\KXP o.hp) (h:sx Tryz.prog Y0 n0 c129 ⟨Xx 0 args,hp0,n0,48,[]⟩ (Uk r129 λo=>∃ o',ZO o'/\Zbs n0 o o')) (hA:Nat.ble args.length 48=true:=by rfl):CtM Tryz.prog 129 hp0 n0 args ZO:=Yf Tryz.func129 rfl b129 Zyk Zxt n129 (Nat.le_of_ble_eq_true hA) hh hx h
def c155:SC:=(sr1 [o1 4 (.mv (.c (.int .u64 0))),o1 5 (.mv (.c (.int .u64 0)))] (.seq (.cond Jf (sr1 [m1 11 0,o1 12 (.conv .u32 (.t 11)),m1 13 1,o1 14 (.conv .u32 (.t 13)),o1 15 (J2 172 12 14),m1 10 15,o1 16 (Je 10 0),o1 17 (Je 10 1),m1 6 16,m1 7 17]
 (sr1 [m1 18 6,o1 19 (.conv .u64 (.t 18)),m1 20 7,o1 21 (.conv .u64 (.t 20)),m1 4 19,m1 5 21] .ret)) .skip) (sr1 [m1 23 0,m1 24 1,o1 25 (J2 173 23 24),m1 22 25,o1 26 (Je 22 0),o1 27 (Je 22 1),m1 8 26,m1 9 27] (sr1 [m1 28 8,m1 29 9,m1 4 28,m1 5 29]
 .ret))))
def r155:List RV:=[.tmp 4,.tmp 5]
theorem t155:Qt1 Tryz.prog 155 c155 r155 30:=ZH Tryz.func155
def c173:SC:=(sr1 [o1 4 (.mv (.c (.int .u64 0))),o1 5 (.mv (.c (.int .u64 0)))] (sr1 [m1 14 0,o1 15 (.raw (Go.Op.binOp Go.BinOp.and 257 (Go.Operand.tmp 14) (Go.Operand.const (Go.Value.int Go.IntKind.u64 4294967295)) 257) 257),m1 6 15] (sr1 [m1 16 0,o1
 17 (.raw (Go.Op.binOp Go.BinOp.shr 257 (Go.Operand.tmp 16) (Go.Operand.const (Go.Value.int Go.IntKind.u64 32)) 242) 257),m1 7 17] (sr1 [m1 18 1,o1 19 (.raw (Go.Op.binOp Go.BinOp.and 257 (Go.Operand.tmp 18) (Go.Operand.const (Go.Value.int
 Go.IntKind.u64 4294967295)) 257) 257),m1 8 19] (sr1 [m1 20 1,o1 21 (.raw (Go.Op.binOp Go.BinOp.shr 257 (Go.Operand.tmp 20) (Go.Operand.const (Go.Value.int Go.IntKind.u64 32)) 242) 257),m1 9 21] (sr1 [m1 22 6,m1 23 8,o1 24 (Jb .mul 22 23),m1 10 24]
 (sr1 [m1 25 7,m1 26 8,o1 27 (Jb .mul 25 26),m1 28 10,o1 29 (.raw (Go.Op.binOp Go.BinOp.shr 257 (Go.Operand.tmp 28) (Go.Operand.const (Go.Value.int Go.IntKind.u64 32)) 242) 257),o1 30 (Jb .add 27 29),m1 11 30] (sr1 [m1 31 11,o1 32 (.raw (Go.Op.binOp
 Go.BinOp.and 257 (Go.Operand.tmp 31) (Go.Operand.const (Go.Value.int Go.IntKind.u64 4294967295)) 257) 257),m1 12 32] (sr1 [m1 33 11,o1 34 (.raw (Go.Op.binOp Go.BinOp.shr 257 (Go.Operand.tmp 33) (Go.Operand.const (Go.Value.int Go.IntKind.u64 32)) 242)
 257),m1 13 34] (sr1 [m1 35 12,m1 36 6,m1 37 9,o1 38 (Jb .mul 36 37),o1 39 (Jb .add 35 38),m1 12 39] (sr1 [m1 40 7,m1 41 9,o1 42 (Jb .mul 40 41),m1 43 13,o1 44 (Jb .add 42 43),m1 45 12,o1 46 (.raw (Go.Op.binOp Go.BinOp.shr 257 (Go.Operand.tmp 45)
 (Go.Operand.const (Go.Value.int Go.IntKind.u64 32)) 242) 257),o1 47 (Jb .add 44 46),m1 4 47] (sr1 [m1 48 0,m1 49 1,o1 50 (Jb .mul 48 49),m1 5 50] .ret))))))))))))
def r173:List RV:=[.tmp 4,.tmp 5]
theorem t173:Qt1 Tryz.prog 173 c173 r173 51:=ZH Tryz.func173
def c39:SC:=(sr1 [Jw 4 Jf] (.seq (sr1 [m1 6 0,o1 7 (Jl 6),m1 8 1,o1 9 (Jl 8),o1 10 (Jb .neq 7 9)] (Ji 10 (sr1 [Jw 4 Jf] .ret) .skip)) (.seq (sr1 [Jk 5 0] (.block 0 (.loop (.seq (sr1 [m1 11 5,m1 12 0,o1 13 (Jl 12),o1 14 (Jb .lss 11 13)] (Ji 14 .skip
 (.exit 0))) (.seq (.block 1 (.seq (.regd (Jr 9) [Jm 17 0,Jm 18 5,Jp 19 (Jx 17 18 1) [0,1],Jp 20 (lf 19 1) [2],Jm 21 1,Jm 22 5,Jp 23 (Jx 21 22 1) [4,5],Jp 24 (lf 23 1) [6],Jp 25 (Jb .neq 20 24) [3,7]] 0 0 []) (Ji 25 (sr1 [Jw 4 Jf] .ret) .skip))) (.reg
 [m1 15 5,o1 16 (Jc .add 15 1),m1 5 16])))))) (sr1 [Jw 4 Jt] .ret))))
def r39:List RV:=[.tmp 4]
theorem t39:Qt1 Tryz.prog 39 c39 r39 26:=ZH Tryz.func39
open Go.Azalai
theorem Zuc (a b:Int) (c:Bool):Ct Tryz.prog 47 [.sl c 1 [[I a],[I b]]] (I (min a b)):=by
 refine t47.1 (by simp [KFR]) (by simp) ?_;dsimp only [c47,r47,go_sem];refine Zo (by decide) ?_;dsimp only [go_sem];refine ixs 0 [I a] rfl rfl ?_;dsimp only [go_sem];refine ZY 2 ?_;dsimp only [Zb,go_sem];refine Zr (by decide) ?_;dsimp only [Zb,go_sem];refine ixs 1 [I b] rfl rfl ?_;dsimp only [Zb,go_sem];refine Zo (by decide) ?_;dsimp only [go_sem]
theorem Zek (a:Int):Ct Tryz.prog 98 [.sl true 1 [[I a]]] (I (min a 100001)):=by
 refine t98.1 (by simp [KFR]) (by simp) ?_;dsimp only [c98,r98,go_sem];refine ZBX (by simp) ?_;dsimp only [go_sem];refine call (Zuc a 100001 false) ?_;dsimp only [go_sem]
theorem Vp (l:Land) (p:Span) (k:Nat) (hk:k < l.legs.length) (d0 d1:Int) (hx:GoodLeg l.legs[k]) (hp:Z6 p=true) (h0:inR 0 100001 d0=true) (h1:inR 0 100001 d1=true) :
 Ct Tryz.prog 61 [.agg (Yc l p),I k,.agg [I d0,I d1]] (.agg [I (Z0 false l.legs[k] p d0),I (Z0 true l.legs[k] p d1)]):=by
 have hb:=day_bd hx hp;refine t61.1 (by simp [Yc,Zh,Zn,Zi,Ze,Za]) (by simp) ?_;dsimp only [c61,r61,Yc,go_sem];refine call (Wg l p k hk d0 d1 hx hp h0 h1) ?_;dsimp only [Yc,go_sem];refine call (Zdi l p k hk hx hp) ?_;dsimp only [Ze,go_sem];simp only [inR,decide_eq_true_eq] at h0 h1;have a0:=X1 (k:=false) hx hp h0.2;have a1:=X1 (k:=true) hx hp h1.2;simp only [leK,nK,cond_true,cond_false] at a0 a1;refine ZY 3 ?_
 dsimp only [Zb,go_sem];refine Zr (by decide) ?_;dsimp only [Zb,go_sem];repeat (refine ixa 0 rfl (by decide) ?_;dsimp only [Zb,go_sem])
 rw [Zg (n:=ZyI l.legs[k] p d0+(Zcw l.legs[k] p).lo) (by omega) (by omega)];refine call (Zek _) ?_;dsimp only [Zb,go_sem];repeat (refine ixa 0 rfl (by decide) ?_;dsimp only [Zb,go_sem])
 refine Zr (by decide) ?_;dsimp only [Zb,go_sem];repeat (refine ixa 1 rfl (by decide) ?_;dsimp only [Zb,go_sem])
 rw [Zg (n:=ZvV l.legs[k] p d1+(Zcw l.legs[k] p).hi) (by omega) (by omega)];refine call (Zek _) ?_;dsimp only [Zb,go_sem];repeat (refine ixa 1 rfl (by decide) ?_;dsimp only [Zb,go_sem])
 refine Zo (by decide) ?_;dsimp only [go_sem];simp only [Z0,leK,nK,cond_true,cond_false];rw [Int.min_comm,Int.min_comm 100001 (ZvV l.legs[k] p d1+(Zcw l.legs[k] p).hi)]
def Zcv (l:Land) (p:Span) (v:Int):Ot:=⟨false,.cl 95 [.p 0 0,.p 1 0],[(1,.cells [I v] 3),(0,.cells (Yc l p) 130)],2⟩
theorem Zc9 (l:Land) (p:Span) (v:Int):CtM Tryz.prog 60 [] 0 [.agg (Yc l p),I v] (λo=>o=Zcv l p v):=by
 refine m60 (by simp [hpb]) (λo ho=>by subst ho;simp [Zcv,KX,KXL,KXP,KXH,Za,KFL,KF,Yc,Zh,Zn,Zi]) ?_;dsimp only [c60,r60,Yc,go_sem];refine ⟨_,rfl,?_⟩;simp only [Zcv];(refine ZT ?_ ?_ ?_ rfl<;>dsimp only [Yc,Zh,Zn,Zi,id,go_sem]<;>simp [Yc,Zh,Zn,Zi,Za])
end Go.Proofs.YtongccnhomncnaaGreat
namespace Go.Azalai
def Vh (l:Land) (leg v:Int):Int:=if h:0<=leg/\leg.toNat < l.legs.length then Zk l.legs[leg.toNat] v else -1
end Go.Azalai
namespace Go.Proofs.YtongccnhomncnaaGreat
open Go Go.Sx Go.Azalai
theorem ZzN (l:Land) (p:Span) (leg v:Int) (hl:l.legs.length<=1000):Ct Tryz.prog 159 [.agg (Yc l p),I leg,I v] (I (Vh l leg v)):=by
 refine t159.1 (by simp [Yc,Zh,Zn,Zi,Za]) (by simp) ?_;dsimp only [c159,r159,Yc,go_sem];refine Zan [] (Zc9 l p v) rfl rfl rfl ?_ ?_ ?_
 . exact Zc (by simp [Yc,Zh,Zn,Zi,Za])
 . trivial
 dsimp only [Zcv,Yc,go_sem];refine gh Xu ?_;dsimp only [go_sem];refine ⟨b95,λrec=>?_⟩;refine y95 ?_;dsimp only [c95,r95,go_sem];refine YF (λj:Nat=>[(10,I j)]) (λ_=>[]) (λj=>j<=l.legs.length/\(0<=leg->leg < j->Vh l leg v = -1)) (λj=>l.legs.length - j) 0 ⟨Nat.zero_le _,λh1 h2=>by omega⟩ ?_ ?_
 . (refine Zj ?_ ?_ ?_ rfl rfl<;>dsimp only [Yc,Zh,Zn,Zi,id,go_sem]<;>simp [Yc,Zh,Zn,Zi,Za])
 rintro j ⟨hj,hi⟩;dsimp only [go_sem];simp only [List.length_map];by_cases hlt:j < l.legs.length
 . refine Zr (by simpa using hlt) ?_;dsimp only [go_sem];refine Zp j hlt rfl ?_;dsimp only [Zn,go_sem];have hend:leg=j->Vh l leg v=Zk l.legs[j] v:=λhe=>by
    subst he;unfold Vh;rw [dif_pos ⟨by omega,by simpa using hlt⟩];simp
   by_cases ha:v=l.legs[j].a
   . refine Zr (by simpa using ha) ?_;dsimp only [go_sem];refine ⟨rfl,rfl,?_⟩;by_cases he:leg=j
     . refine Zr (by simp [he]) ?_;dsimp only [go_sem];refine ⟨rfl,?_⟩;refine Zr (by decide) ?_;dsimp only [go_sem];rw [hend he,Zk,if_pos ha.symm]
     . refine Zo (by simp;omega) ?_;dsimp only [go_sem];refine ⟨rfl,?_⟩;refine Zo (by decide) ?_;dsimp only [go_sem];rw [Zg (n:=(j:Int)+1) (by omega) (by omega)];refine ⟨j+1,⟨hlt,λh1 h2=>hi h1 (by omega)⟩,by omega,?_⟩;(refine Zj ?_ ?_ ?_ rfl rfl<;>dsimp only [Yc,Zh,Zn,Zi,id,go_sem]<;>simp [Yc,Zh,Zn,Zi,Za])
   refine Zo (by simpa using ha) ?_;dsimp only [go_sem];by_cases hb:v=l.legs[j].b
   . refine Zr (by simpa using hb) ?_;dsimp only [go_sem];refine ⟨rfl,rfl,?_⟩;by_cases he:leg=j
     . refine Zr (by simp [he]) ?_;dsimp only [go_sem];refine ⟨rfl,?_⟩;refine Zr (by decide) ?_;dsimp only [go_sem];rw [hend he,Zk,if_neg (λe=>ha e.symm),if_pos hb.symm]
     . refine Zo (by simp;omega) ?_;dsimp only [go_sem];refine ⟨rfl,?_⟩;refine Zo (by decide) ?_;dsimp only [go_sem];rw [Zg (n:=(j:Int)+1) (by omega) (by omega)];refine ⟨j+1,⟨hlt,λh1 h2=>hi h1 (by omega)⟩,by omega,?_⟩;(refine Zj ?_ ?_ ?_ rfl rfl<;>dsimp only [Yc,Zh,Zn,Zi,id,go_sem]<;>simp [Yc,Zh,Zn,Zi,Za])
   refine Zo (by simpa using hb) ?_;dsimp only [go_sem];rw [Zg (n:=(j:Int)+1) (by omega) (by omega)];refine ⟨j+1,⟨hlt,λh1 h2=>?_⟩,by omega,?_⟩
   . by_cases he:leg=j
     . rw [hend he,Zk,if_neg (λe=>ha e.symm),if_neg (λe=>hb e.symm)]
     . exact hi h1 (by omega)
   (refine Zj ?_ ?_ ?_ rfl rfl<;>dsimp only [Yc,Zh,Zn,Zi,id,go_sem]<;>simp [Yc,Zh,Zn,Zi,Za])
 refine Zo (by simp;omega) ?_;dsimp only [go_sem];have hz:Vh l leg v = -1:=by
  by_cases h1:0<=leg
  . by_cases h2:leg < j
    . exact hi h1 h2
    . unfold Vh;rw [dif_neg (by omega)]
  . unfold Vh;rw [dif_neg (by omega)]
 rw [hz]
def U64 (n:Int):SV:=.v (.int .u64 n)
theorem uw {n:Int} (h0:0<=n) (h1:n < 18446744073709551616):IntKind.u64.wrap n=n:=by
 have e:n % 2 ^ IntKind.u64.bits=n:=Int.emod_eq_of_lt h0 (by show n < 2 ^ 64;omega);simp only [IntKind.wrap,e,show IntKind.u64.signed=false from rfl,Bool.false_and];rfl
theorem ZcX (n:Int) (h0:0<=n) (h1:n<=1000000):Ct Tryz.prog 173 [U64 1,U64 n] (.tup [U64 0,U64 n]):=by
 refine t173.1 (by simp [U64]) (by simp [U64]) ?_;dsimp only [c173,r173,U64,go_sem];have sh:∀ (m:Int),0<=m->m < 4294967296->∀ w:World,(binOp .shr 168 (.int .u64 m) (.int .u64 32)).run Tryz.prog w = .ok (.int .u64 0) w:=λm q0 q1 w=>by
  simp only [binOp,Op.shift];rw [if_neg (by decide)];have:m.fdiv (2 ^ 32)=0:=by rw [Int.fdiv_eq_ediv_of_nonneg _ (by decide)];omega
  show Result.ok (Value.int .u64 (m.fdiv (2 ^ (min (32:Int).toNat IntKind.u64.bits)))) w=_;rw [show min (32:Int).toNat IntKind.u64.bits=32 from by decide,this]
 have an:∀ (m:Int),0<=m->m < 4294967296->∀ w:World,(binOp .and 168 (.int .u64 m) (.int .u64 4294967295)).run Tryz.prog w = .ok (.int .u64 m) w:=λm q0 q1 w=>by
  obtain ⟨k,rfl⟩:=Int.eq_ofNat_of_zero_le q0;have hk:k < 4294967296:=by omega
  have e:(BitVec.ofInt 64 (k:Int) &&& BitVec.ofInt 64 4294967295).toNat=k:=by
   rw [BitVec.toNat_and,show (BitVec.ofInt 64 4294967295).toNat=2 ^ 32 - 1 from by decide,Nat.and_two_pow_sub_one_eq_mod,BitVec.ofInt_natCast,BitVec.toNat_ofNat];omega
  show Result.ok (Value.int .u64 (IntKind.u64.wrap (((BitVec.ofInt 64 (k:Int) &&& BitVec.ofInt 64 4294967295).toNat:Nat):Int))) w=_;rw [e,uw (by omega) (by omega)]
 refine YO rfl (.inl rfl) (an 1 (by omega) (by omega)) rfl ?_;dsimp only [go_sem];refine YO rfl (.inr rfl) (sh 1 (by omega) (by omega)) rfl ?_;dsimp only [go_sem];refine YO rfl (.inl rfl) (an n (by omega) (by omega)) rfl ?_;dsimp only [go_sem];refine YO rfl (.inr rfl) (sh n (by omega) (by omega)) rfl ?_;dsimp only [go_sem];simp (disch:=omega) only [uw,Int.one_mul,Int.zero_mul,Int.mul_zero,Int.add_zero,Int.zero_add]
 refine YO rfl (.inr rfl) (sh n (by omega) (by omega)) rfl ?_;dsimp only [go_sem];simp (disch:=omega) only [uw,Int.one_mul,Int.zero_mul,Int.mul_zero,Int.add_zero,Int.zero_add];refine YO rfl (.inl rfl) (an 0 (by omega) (by omega)) rfl ?_;dsimp only [go_sem];refine YO rfl (.inr rfl) (sh 0 (by omega) (by omega)) rfl ?_;dsimp only [go_sem];simp (disch:=omega) only [uw,Int.one_mul,Int.zero_mul,Int.mul_zero,Int.add_zero,Int.zero_add]
 refine YO rfl (.inr rfl) (sh 0 (by omega) (by omega)) rfl ?_;dsimp only [go_sem];simp (disch:=omega) only [uw,Int.one_mul,Int.zero_mul,Int.mul_zero,Int.add_zero,Int.zero_add]
theorem Zj3 (n:Int) (h0:0<=n) (h1:n<=1000000):Ct Tryz.prog 155 [U64 1,U64 n] (.tup [U64 0,U64 n]):=by
 refine t155.1 (by simp [U64]) (by simp [U64]) ?_;dsimp only [c155,r155,U64,go_sem];refine Zo (by decide) ?_;dsimp only [go_sem];refine call (ZcX n h0 h1) ?_;dsimp only [U64,go_sem]
theorem XI {r:List SV} (h:KFL r):∀ n,KFR (List.replicate n r)
 | 0=>trivial
 | n+1=>⟨h,XI h n⟩
theorem ZuN (x:Int) (n:Nat) (h0:1<=n) (h1:n<=1000) (k:Bool):CtM Tryz.prog 129 [] 0 [.sl k 1 [[I x]],I n] (λo=>o=⟨false,.mr 0 0,[(0,.row 0 1 (List.replicate n [I x]) 3)],1⟩):=by
 have hm:KFL [I x]:=by simp
 have hone:Yt [I x]=true:=rfl;have hkr:=XI hm n;refine m129 (by simp [hpb]) (λo ho=>by subst ho;simp only [KX,KXL,KXP,KXH];exact ⟨trivial,hkr,trivial⟩) ?_;generalize [I x]=row at hm hone hkr;dsimp only [c129,r129,go_sem];refine Zo (by simp) ?_;dsimp only [go_sem];rw [show ((1:Nat):Int)=1 from rfl];simp (disch:=omega) only [uw];refine call (Zj3 n (by omega) (by omega)) ?_;dsimp only [U64,go_sem]
 refine gb ?_;dsimp only [go_sem];refine gb ?_;dsimp only [go_sem];refine Zo (by simp;omega) ?_;dsimp only [go_sem];refine ⟨n,Zg (by omega) (by omega),by omega,?_⟩;have hz:KFL [SV.v (Value.int IntKind.i64 0)]:=by simp
 generalize [SV.v (Value.int IntKind.i64 0)]=z at hz;dsimp only [go_sem];refine ⟨(by intro c hc;simp only [List.mem_singleton] at hc;subst hc;exact hone),by simp,?_⟩;have hmin:min n 1=1:=by omega
 simp only [List.length_replicate,List.length_singleton,hmin,List.drop_replicate];dsimp only [go_sem];refine YF (λj:Nat=>[(8,I j)]) (λj=>[(0,.row 0 1 (List.replicate j row ++ List.replicate (n - j) z) 3)]) (λj=>1<=j/\j<=n) (λj=>n - j) 1 ⟨Nat.le_refl _,h0⟩ ?_ ?_
 . refine Zj ?_ ?_ ?_ rfl rfl<;>dsimp only [id,go_sem]<;>simp [Zd,XI,hz,hm,Zc,mtO,nbr,KFR,KFL,KF]
 rintro j ⟨hj0,hj⟩;dsimp only [go_sem];simp only [List.length_append,List.length_replicate,show j+(n - j)=n from by omega];by_cases hlt:j < n
 . refine Zr (by simpa using hlt) ?_;dsimp only [go_sem];refine ⟨j,n,⟨rfl,by simp;omega,by omega,by simp;omega⟩,?_⟩;dsimp only [go_sem];refine ⟨0,j,⟨rfl,rfl,by omega,by simp⟩,?_⟩;dsimp only [go_sem];have hx:List.take (j - 0) (List.replicate j row ++ List.replicate (n - j) z)=List.replicate j row:=by rw [Nat.sub_zero];exact List.take_left' (by simp)
   have hx':List.take j (List.replicate j row ++ List.replicate (n - j) z)=List.replicate j row:=List.take_left' (by simp);rw [hx];refine ⟨by simp,(by intro c hc;rw [List.eq_of_mem_replicate hc];exact hone),by simp,?_⟩;simp only [List.length_replicate];generalize hN:min (n - j) j=N;have e:List.take j (List.replicate j row ++ List.replicate (n - j) z) ++ (List.take N (List.replicate j row) ++ List.drop (j+N) (List.replicate j row ++ List.replicate (n - j) z))=List.replicate (j+N) row ++ List.replicate (n - (j+N)) z:=by
    rw [hx',List.take_replicate,List.drop_append,List.drop_of_length_le (l:=List.replicate j row) (by simp),List.length_replicate,List.nil_append,List.drop_replicate,<- List.append_assoc,List.replicate_append_replicate,show min N j=N from by omega];congr 2;omega
   rw [e];dsimp only [go_sem];rw [show (j:Int)+(N:Int)=((j+N:Nat):Int) from by omega,Zg (n:=((j+N:Nat):Int)) (by omega) (by omega)];refine ⟨j+N,⟨by omega,by omega⟩,by omega,?_⟩;refine Zj ?_ ?_ ?_ rfl rfl<;>dsimp only [id,go_sem]<;>simp [Zd,XI,hz,hm,Zc,mtO,nbr,KFR,KFL,KF]
 refine Zo (by simp;omega) ?_;dsimp only [go_sem];have hje:j=n:=by omega
 subst hje;simp only [Nat.sub_self,List.replicate_zero,List.append_nil];refine ⟨_,rfl,?_⟩;refine ZT ?_ ?_ ?_ rfl<;>dsimp only [id,go_sem]<;>simp [Zd,XI,hm,Zc,mtO,nbr,KFR,KFL,KF]
end Go.Proofs.YtongccnhomncnaaGreat
namespace Go.Azalai
open Go.Sx
def dv (d:List Int) (v:Int):Int:=if 0<=v then d.getD v.toNat 100001 else 100001
theorem WL {d:List Int} {i:Nat} (h:i < d.length):dv d i=d[i]:=by simp [dv,h]
theorem ZBf {d:List Int} {v:Int} (h:¬ (0<=v/\v < d.length)):dv d v=100001:=by
 unfold dv;split
 . have:¬ v.toNat < d.length:=by omega
   simp [List.getD_eq_getElem?_getD,List.getElem?_eq_none (Nat.le_of_not_lt this)]
 . rfl
theorem Wr {d:List Int} {i:Nat} {x v:Int} (h:i < d.length):dv (d.set i x) v=if v=i then x else dv d v:=by
 unfold dv;by_cases hv:0<=v
 . rw [if_pos hv,if_pos hv];by_cases he:v=i
   . subst he;simp [h]
   . rw [if_neg he];have:i≠v.toNat:=by omega
     simp [List.getD_eq_getElem?_getD,this]
 . rw [if_neg hv,if_neg hv,if_neg (by omega)]
structure Gone (k:Bool) (l:Land) (p:Span) (s day:Int) (d:List Int):Prop where
 len:d.length=l.wells.length
 ub:∀ v,dv d v<=100001
 real:∀ v,dv d v=100001\/∃ a,goW k l p s day a=some (v,dv d v)
 st:dv d s<=day
theorem Gone.lb {k:Bool} {l:Land} {p:Span} {s day:Int} {d:List Int} (h:Gone k l p s day d) (hg:OkLP l p) (hd:0<=day) (hd':day<=100000) (h0:0<=s) (h1:s < l.wells.length) (v:Int):day<=dv d v:=by
 rcases h.real v with e | ⟨a,e⟩
 . omega
 . have:=V1 hg e hd' h0 h1;omega
theorem Gone.relax {k:Bool} {l:Land} {p:Span} {s day:Int} {d:List Int} (h:Gone k l p s day d) (hg:OkLP l p) {i:Nat} {x:Leg} (hx:l.legs[i]? = some x) {v:Int} {w:Nat} (hw:Zk x v=w) (hd:0<=day) (hd':day<=100000) (h0:0<=s) (h1:s < l.wells.length) :
 Gone k l p s day (d.set w (min (dv d w) (Z0 k x p (dv d v))))/\w < d.length:=by
 have hwl:=(Yb hg hx (v:=v) (by omega)).1;have hwd:w < d.length:=by rw [h.len];omega
 refine ⟨⟨by simp [h.len],λu=>?_,λu=>?_,?_⟩,hwd⟩
 . rw [Wr hwd];split
   . have:=h.ub w;omega
   . exact h.ub u
 . rw [Wr hwd];split
   . rename_i hu;by_cases hr:Z0 k x p (dv d v) > 100000
     . have:=h.ub w;have hb:=X1 (k:=k) (hg.leg hx) hg.pace (h.ub v);rw [show min (dv d w) (Z0 k x p (dv d v))=dv d w by omega,hu];exact h.real w
     . by_cases hm:dv d w<=Z0 k x p (dv d v)
       . rw [Int.min_eq_left hm,hu];exact h.real w
       . rw [Int.min_eq_right (by omega),hu];have hb:=X1 (k:=k) (hg.leg hx) hg.pace (h.ub v);rcases h.real v with e | ⟨a,e⟩
         . omega
         . refine .inr ⟨a ++ [i],?_⟩;have:=ZaS e hx (by omega) hr;rw [hw] at this;exact this
   . exact h.real u
 . rw [Wr hwd];split
   . rename_i hs;have:=h.st;rw [hs] at this;omega
   . exact h.st
structure Dij (k:Bool) (l:Land) (p:Span) (s day:Int) (d:List Int) (left:Int->Prop):Prop where
 g:Gone k l p s day d
 cl:∀ x ∈ l.legs,∀ v:Int,0<=v->v < l.wells.length->¬ left v->0<=Zk x v->dv d (Zk x v)<=Z0 k x p (dv d v)
 or:∀ u v:Int,0<=u->u < l.wells.length->¬ left u->0<=v->v < l.wells.length->left v->dv d u<=dv d v
theorem Dij.done {k:Bool} {l:Land} {p:Span} {s day:Int} {d:List Int} {left:Int->Prop} (h:Dij k l p s day d left) (hg:OkLP l p) (he:∀ v,¬ left v) (hd:0<=day) (hd':day<=100000) (h0:0<=s) (h1:s < l.wells.length):d=Wt k l p s day:=by
 have hc:ZmR k l p (dv d):=λx hx=>by
  have hen:=hg.ends hx;have q1:=h.cl x hx x.a hen.1.1 hen.1.2 (he _) (by simp [Zk];omega);have q2:=h.cl x hx x.b hen.2.1.1 hen.2.1.2 (he _) (by simp [Zk,hen.2.2];omega);simp only [Zk,if_true] at q1;simp only [Zk,if_neg hen.2.2,if_true] at q2;exact ⟨q1,q2⟩
 have heq:=Zc3 (k:=k) hg hd hd' h0 h1 h.g.st hc h.g.ub h.g.real;refine List.ext_getElem (by simp [Wt,h.g.len]) λi hi hi'=>?_;simp only [Wt,List.getElem_map,List.getElem_range];rw [<- heq,WL hi]
structure Rnd (k:Bool) (l:Land) (p:Span) (s day:Int) (d0 d:List Int) (near:Int) (j:Nat):Prop where
 g:Gone k l p s day d
 le:∀ v,dv d v<=dv d0 v
 ch:∀ v,dv d v=dv d0 v\/dv d0 near<=dv d v
 nr:dv d near=dv d0 near
 cl:∀ i x,i < j->l.legs[i]? = some x->0<=Zk x near->dv d (Zk x near)<=Z0 k x p (dv d0 near)
theorem Rnd.start {k:Bool} {l:Land} {p:Span} {s day:Int} {d:List Int} {near:Int} (h:Gone k l p s day d):Rnd k l p s day d d near 0 :=
 ⟨h,λ_=>Int.le_refl _,λ_=>.inl rfl,rfl,λi x hi=>by omega⟩
theorem Rnd.skip {k:Bool} {l:Land} {p:Span} {s day:Int} {d0 d:List Int} {near:Int} {j:Nat} (h:Rnd k l p s day d0 d near j) {x:Leg} (hx:l.legs[j]? = some x) (ho:Zk x near < 0):Rnd k l p s day d0 d near (j+1) :=
 ⟨h.g,h.le,h.ch,h.nr,λi y hi hy h0=>by
  by_cases he:i=j
  . subst he;rw [hx] at hy;cases hy;omega
  . exact h.cl i y (by omega) hy h0⟩
theorem Rnd.step {k:Bool} {l:Land} {p:Span} {s day:Int} {d0 d:List Int} {near:Int} {j:Nat} (h:Rnd k l p s day d0 d near j) (hg:OkLP l p) {x:Leg} (hx:l.legs[j]? = some x) {w:Nat} (hw:Zk x near=w) (hd:0<=day) (hd':day<=100000) (h0:0<=s) (h1:s < l.wells.length) :
 Rnd k l p s day d0 (d.set w (min (dv d w) (Z0 k x p (dv d near)))) near (j+1):=by
 obtain ⟨q1,q2⟩:=h.g.relax hg hx hw hd hd' h0 h1;have hge:=Zbm (k:=k) (hg.leg hx) hg.pace (h.g.ub near);have hwn:(w:Int)≠near:=λe=>by
  have:=hg.ends (List.mem_of_getElem? hx);unfold Zk at hw;split at hw
  . omega
  . split at hw
    . omega
    . omega
 rw [h.nr] at hge;refine ⟨q1,λv=>?_,λv=>?_,?_,λi y hi hy ho=>?_⟩
 . rw [Wr q2];split
   . rename_i hv;have:=h.le w;rw [hv];omega
   . exact h.le v
 . rw [Wr q2];split
   . rename_i hv;rw [hv,h.nr];have:=h.ch w;have:=h.le w;omega
   . exact h.ch v
 . rw [Wr q2,if_neg (λe=>hwn e.symm)];exact h.nr
 . rw [Wr q2];by_cases he:i=j
   . subst he;rw [hx] at hy;cases hy;rw [if_pos hw,h.nr];omega
   . have:=h.cl i y (by omega) hy ho;split
     . rename_i hv;rw [hv] at this;omega
     . exact this
theorem Rnd.finish {k:Bool} {l:Land} {p:Span} {s day:Int} {d0 d:List Int} {near:Int} {left left':Int->Prop} (hD:Dij k l p s day d0 left) (h:Rnd k l p s day d0 d near l.legs.length) (hn:left near) (hn0:0<=near) (hn1:near < l.wells.length)
 (hmin:∀ v:Int,0<=v->v < l.wells.length->left v->dv d0 near<=dv d0 v) (hl:∀ v,left' v↔left v/\v≠near) (hg:OkLP l p):Dij k l p s day d left':=by
 have keep:∀ u:Int,0<=u->u < l.wells.length->¬ left' u->dv d u=dv d0 u:=λu q1 q2 q3=>by
  by_cases he:u=near
  . rw [he];exact h.nr
  . have hnl:¬ left u:=λhh=>q3 ((hl u).2 ⟨hh,he⟩);have:=hD.or u near q1 q2 hnl hn0 hn1 hn;have:=h.ch u;have:=h.le u;omega
 refine ⟨h.g,λx hx v q1 q2 q3 ho=>?_,λu v q1 q2 q3 q4 q5 q6=>?_⟩
 . by_cases he:v=near
   . subst he;obtain ⟨i,hi⟩:=List.mem_iff_getElem?.1 hx;have:=h.cl i x (by rcases List.getElem?_eq_some_iff.1 hi with ⟨a,_⟩;exact a) hi ho;rw [keep _ q1 q2 q3];exact this
   . have hnl:¬ left v:=λhh=>q3 ((hl v).2 ⟨hh,he⟩);have:=hD.cl x hx v q1 q2 hnl ho;rw [keep v q1 q2 q3];have:=h.le (Zk x v);omega
 . rw [keep u q1 q2 q3];have hv:=(hl v).1 q6;have hun:dv d0 u<=dv d0 near:=by
    by_cases he:u=near
    . rw [he];omega
    . exact hD.or u near q1 q2 (λhh=>q3 ((hl u).2 ⟨hh,he⟩)) hn0 hn1 hn
   have:=hmin v q4 q5 hv.1;have:=h.ch v;omega
theorem ZiA {k:Bool} {l:Land} {p:Span} {s:Nat} {day:Int} (hs:s < l.wells.length) (hd:day<=100000):Gone k l p s day ((List.replicate l.wells.length 100001).set s day):=by
 have hl:s < (List.replicate l.wells.length (100001:Int)).length:=by simpa using hs
 have hz:∀ v,dv (List.replicate l.wells.length (100001:Int)) v=100001:=λv=>by
  unfold dv;split
  . simp only [List.getD_eq_getElem?_getD,List.getElem?_replicate];split<;>rfl
  . rfl
 refine ⟨by simp,λv=>?_,λv=>?_,?_⟩
 . rw [Wr hl,hz];split<;>omega
 . rw [Wr hl,hz];split
   . rename_i hv;exact .inr ⟨[],by rw [hv];rfl⟩
   . exact .inl rfl
 . rw [Wr hl,if_pos rfl];exact Int.le_refl _
theorem ZjI {k:Bool} {l:Land} {p:Span} {s day:Int} {d:List Int} {left:Int->Prop} (h:Gone k l p s day d) (hl:∀ v:Int,0<=v->v < l.wells.length->left v):Dij k l p s day d left :=
 ⟨h,λ_ _ v h0 h1 hn=>absurd (hl v h0 h1) hn,λu _ h0 h1 hn=>absurd (hl u h0 h1) hn⟩
end Go.Azalai
namespace Go.Proofs.YtongccnhomncnaaGreat
open Go Go.Sx Go.Azalai
theorem Zia:Tryz.prog.underlying 116=some (.map 3 4):=by kernel_rfl
theorem u3:Tryz.prog.underlying 3=some (.int .i64):=by kernel_rfl
theorem Zhp:KeyT Tryz.prog 3 (λn:Int=>.int .i64 n) (λn=>.v (.int .i64 n)):=ZAZ u3
abbrev kI:Int->Value:=λn=>.int .i64 n
abbrev sI:Int->SV:=λn=>.v (.int .i64 n)
def mpR (n:Nat):List (Nat × Int × Bool):=(List.range n).map λj=>(j,(j:Int),true)
theorem ZaI (n:Nat):UR n (n:Int) true (mpR n)=mpR (n+1)/\Zcn n (n:Int) (mpR n)=n+1:=by
 have h:XH (n:Int) (mpR n)=none:=by
  rw [XC];intro e he;simp only [mpR,List.mem_map,List.mem_range] at he;obtain ⟨j,hj,rfl⟩:=he;simp only;omega
 rw [ZaE h];exact ⟨by simp [mpR,List.range_succ],by simp [Zcn,h]⟩
theorem Zza (n:Nat):MW (mpR n) n:=by
 induction n with
 | zero=>exact MW.nil
 | succ n ih =>
  have:=ih.set (k:=(n:Int)) true;rw [(ZaI n).1,(ZaI n).2] at this;exact this
theorem ZdN {K V:Type} {L:List (Nat × K × V)} (h:(L.map (·.1)).Nodup) {e e':Nat × K × V} (he:e ∈ L) (he':e' ∈ L) (hb:e.1=e'.1):e=e':=by
 induction L with
 | nil=>cases he
 | cons x l ih =>
  simp only [List.map_cons,List.nodup_cons] at h;rcases List.mem_cons.1 he with h1 | h1<;>rcases List.mem_cons.1 he' with h2 | h2
  . rw [h1,h2]
  . exact absurd (by rw [<- h1,hb];exact List.mem_map.2 ⟨e',h2,rfl⟩) h.1
  . exact absurd (by rw [<- h2,<- hb];exact List.mem_map.2 ⟨e,h1,rfl⟩) h.1
  . exact ih h.2 h1 h2
theorem Zgh (l:Land) (p:Span) (hs:WT l) (hg:OkLP l p) (s:Nat) (hsl:s < l.wells.length) (day:Int) (hd:inR 0 100000 day=true) (k:Bool) :
 Ct Tryz.prog 88 [.agg (Yc l p),I s,I day,I (bif k then 1 else 0)] (.sl false 1 ((Wt k l p s day).map Zq)):=by
 refine t88.1 (by simp [Yc,Zh,Zn,Zi,Za]) (by simp [Za,Zq]) ?_;simp only [inR,decide_eq_true_eq] at hd;have hw:=hs.1;have hleg:=hs.2.1;generalize hkk:(bif k then (1:Int) else 0)=kk;have hkk':kk=((bif k then 1 else 0:Nat):Int):=by cases k<;>simp [<- hkk]
 dsimp only [c88,r88,Yc,go_sem];simp only [List.length_map];refine Zan [] (ZuN 100001 l.wells.length (by omega) hw true) rfl rfl rfl ?_ ?_ ?_
 . exact Zc (by simp [KFR])
 . trivial
 dsimp only [go_sem];rw [show List.replicate l.wells.length [I 100001]=(List.replicate l.wells.length (100001:Int)).map Zq by simp [Zq]];refine Uu s rfl (by simpa using hsl) ?_;dsimp only [go_sem];refine ZxJ day (by simpa using hsl) (by simp [Zq]) (by simp [Zq,Zv]) ?_;dsimp only [go_sem];refine Za8 rfl rfl rfl ?_;dsimp only [go_sem];have hgo:=ZiA (k:=k) (l:=l) (p:=p) (s:=s) (day:=day) hsl hd.2;generalize (List.replicate l.wells.length (100001:Int)).set s day=d0 at hgo
 have hlen:=hgo.len;simp only [List.length_map,hlen];refine YF (λj:Nat=>[(29,I j)]) (λj=>[(4,.map (mpS kI B (mpR j)) j)]) (λj=>j<=l.wells.length) (λj=>l.wells.length - j) 0 (Nat.zero_le _) ?_ ?_
 . (refine Zj ?_ ?_ ?_ rfl rfl<;>dsimp only [Yc,Zh,Zn,Zi,Zq,mpS,mpR,id,go_sem]<;>simp [Yc,Zh,Zn,Zi,Zq,mpS,mpR,Za])
 . intro j hj;dsimp only [go_sem];by_cases hlt:j < l.wells.length
   . refine Zr (by simpa using hlt) ?_;dsimp only [go_sem];refine ZcV (ins:=false) (key:=kI) (val:=B) (L:=mpR j) (k:=(j:Int)) (v:=true) rfl rfl Zia Zhp rfl rfl (by simp) ?_;dsimp only [go_sem];rw [(ZaI j).1,(ZaI j).2,Zg (n:=(j:Int)+1) (by omega) (by omega)];refine ⟨j+1,hlt,by omega,?_⟩;(refine Zj ?_ ?_ ?_ rfl rfl<;>dsimp only [Yc,Zh,Zn,Zi,Zq,mpS,mpR,id,go_sem]<;>simp [Yc,Zh,Zn,Zi,Zq,mpS,mpR,Za])
   refine Zo (by simp;omega) ?_;dsimp only [go_sem];have hje:j=l.wells.length:=by omega
   subst hje;have hmem0:∀ v:Int,0<=v->v < l.wells.length->(XH v (mpR l.wells.length)).isSome=true:=λv h0 h1=>by
    cases hq:XH v (mpR l.wells.length) with
    | some _=>rfl
    | none =>
     have:=XC.1 hq (v.toNat,v,true) (by simp only [mpR,List.mem_map,List.mem_range];exact ⟨v.toNat,by omega,by simp;omega⟩);exact absurd rfl this
   refine YF (λ_:List Int × List (Nat × Int × Bool)=>[]) (λq=>[(2,.row 0 1 (q.1.map Zq) 3),(4,.map (mpS kI B q.2) l.wells.length)])
    (λq=>Dij k l p s day q.1 (λv=>(XH v q.2).isSome=true)/\MW q.2 l.wells.length/\∀ e ∈ q.2,0<=e.2.1/\e.2.1 < l.wells.length) (λq=>q.2.length) (d0,mpR l.wells.length)
    ⟨ZjI hgo hmem0,Zza _,λe he=>(by simp only [mpR,List.mem_map,List.mem_range] at he;obtain ⟨i,hi,rfl⟩:=he;simp only;omega)⟩ ?_ ?_
   . (refine Zj ?_ ?_ ?_ rfl rfl<;>dsimp only [Yc,Zh,Zn,Zi,Zq,ZF,Zw,id,go_sem]<;>simp [Yc,Zh,Zn,Zi,Zq,ZF,Zw,Za])
   rintro ⟨d,L⟩ ⟨hD,hM,hb⟩;simp only at hD hM hb;have hdl:=hD.g.len;dsimp only [go_sem];refine ZsJ rfl rfl Zia rfl ?_;dsimp only [go_sem];by_cases hL:L=[]
   . subst hL;refine Zo (by simp [mpS]) ?_;dsimp only [go_sem];have:=hD.done hg (λv=>by simp [XH]) hd.1 hd.2 (by omega) (by omega);rw [this]
   refine Zr (by simp [mpS,List.length_pos_iff.2 hL]) ?_;dsimp only [go_sem];refine ZkZ rfl rfl Zia rfl rfl ?_;dsimp only [go_sem];have hd0:∀ v,0<=dv d v/\dv d v<=100001:=λv=>⟨by have:=hD.g.lb hg hd.1 hd.2 (by omega) (by omega) v;omega,hD.g.ub v⟩;refine YF (λ_:List Nat × Int=>[]) (λq=>[(5,.cells [I q.2] 3),(6,.it 4 l.wells.length q.1 l.wells.length)])
    (λq=>(q.2 = -1/\∀ e ∈ L,e.1 ∉ q.1)\/(0<=q.2/\q.2 < l.wells.length/\(XH q.2 L).isSome=true/\∀ e ∈ L,e.1 ∈ q.1->dv d q.2 < dv d e.2.1\/dv d q.2=dv d e.2.1/\q.2<=e.2.1))
    (λq=>Zqb L q.1) ([],-1) (.inl ⟨rfl,by simp⟩) ?_ ?_
   . (refine Zj ?_ ?_ ?_ rfl rfl<;>dsimp only [Yc,Zh,Zn,Zi,Zq,ZF,Zw,id,go_sem]<;>simp [Yc,Zh,Zn,Zi,Zq,ZF,Zw,Za])
   rintro ⟨seen,near⟩ hi;simp only at hi;dsimp only [go_sem];refine Zno (key:=kI) (sv:=sI) (val:=B) (L:=L) (c:=l.wells.length) rfl rfl rfl hM.bl (Nat.le_refl _) Zhp ?_ ?_
   . intro hall;dsimp only [go_sem];refine Zo rfl ?_;dsimp only [go_sem];have hnn:(0<=near/\near < l.wells.length/\(XH near L).isSome=true/\∀ e ∈ L,e.1 ∈ seen->dv d near < dv d e.2.1\/dv d near=dv d e.2.1/\near<=e.2.1):=by
      rcases hi with ⟨_,hi⟩ | hi
      . obtain ⟨e,he⟩:=List.exists_mem_of_ne_nil _ hL;exact absurd (hall e he) (hi e he)
      . exact hi
     obtain ⟨hn0,hn1,hn2,hn3⟩:=hnn;have hmin:∀ v:Int,0<=v->v < l.wells.length->(XH v L).isSome=true->dv d near<=dv d v:=λv _ _ hv=>by
      obtain ⟨y,hy⟩:=Option.isSome_iff_exists.1 hv;obtain ⟨b,hbm⟩:=ZgB hy;have:=hn3 _ hbm (hall _ hbm);simp only at this;omega
     obtain ⟨m,rfl⟩:∃ m:Nat,near=(m:Int):=⟨near.toNat,by omega⟩
     have hml:m < d.length:=by omega
     refine ZtX (key:=kI) (sv:=sI) (val:=B) (L:=L) (k:=(m:Int)) rfl rfl Zia Zhp rfl rfl ?_;dsimp only [go_sem];refine Zan [] (Zc9 l p m) rfl rfl rfl ?_ ?_ ?_
     . exact Zc (by simp [Yc,Zh,Zn,Zi,Za])
     . trivial
     dsimp only [Zcv,Yc,go_sem];refine gh Xu ?_;dsimp only [go_sem];refine ⟨b95,λrec=>?_⟩;refine y95 ?_;dsimp only [c95,r95,go_sem];refine YF (λq:Nat × List Int=>[(10,I q.1)]) (λq=>[(2,.row 0 1 (q.2.map Zq) 3)]) (λq=>q.1<=l.legs.length/\Rnd k l p s day d q.2 m q.1) (λq=>l.legs.length - q.1) (0,d) ⟨Nat.zero_le _,.start hD.g⟩ ?_ ?_
     . (refine Zj ?_ ?_ ?_ rfl rfl<;>dsimp only [Yc,Zh,Zn,Zi,Zq,ZF,Zw,id,go_sem]<;>simp [Yc,Zh,Zn,Zi,Zq,ZF,Zw,Za])
     rintro ⟨j,d'⟩ ⟨hj,hR⟩;simp only at hj hR;have hdl':=hR.g.len;dsimp only [go_sem];simp only [List.length_map];by_cases hlt:j < l.legs.length
     . refine Zr (by simpa using hlt) ?_;dsimp only [go_sem];refine Zp j hlt rfl ?_;dsimp only [Zn,go_sem];have hgl:GoodLeg l.legs[j]:=WB hg.land _ (List.getElem_mem _);have hends:=hg.ends (List.getElem_mem hlt);obtain ⟨wa,hwa⟩:∃ w:Nat,l.legs[j].a=(w:Int):=⟨l.legs[j].a.toNat,by omega⟩
       obtain ⟨wb,hwb⟩:∃ w:Nat,l.legs[j].b=(w:Int):=⟨l.legs[j].b.toNat,by omega⟩
       have hwal:wa < d'.length:=by omega
       have hwbl:wb < d'.length:=by omega
       have hml':m < d'.length:=by omega
       have hxj:l.legs[j]? = some l.legs[j]:=List.getElem?_eq_getElem hlt;have hin:inR 0 100001 d'[m]=true:=by
        have q1:=hR.g.lb hg hd.1 hd.2 (by omega) (by omega) (m:Int);have q2:=hR.g.ub (m:Int);rw [WL hml'] at q1 q2;simp only [inR,decide_eq_true_eq];omega
       by_cases hca:(m:Int)=l.legs[j].a
       . refine Zr (by simpa using hca) ?_;dsimp only [go_sem];refine ⟨rfl,rfl,?_⟩;simp only [hwb,List.length_map];refine Uu wb rfl hwbl ?_;dsimp only [go_sem];refine ZgX hwbl ?_;dsimp only [Zq,go_sem];simp only [List.length_map];refine Uu m rfl hml' ?_;dsimp only [go_sem];refine ZgX hml' ?_;dsimp only [Zq,go_sem];simp only [List.length_map];refine Uu m rfl hml' ?_;dsimp only [go_sem];refine ZgX hml' ?_
         dsimp only [Zq,go_sem];refine call (Vp l p j hlt d'[m] d'[m] hgl hg.pace hin hin) ?_;dsimp only [go_sem];refine ixa (bif k then 1 else 0) hkk' (by cases k<;>decide) ?_;rw [show nth [I (Z0 false l.legs[j] p d'[m]),I (Z0 true l.legs[j] p d'[m])] ((bif k then 1 else 0) * 1)=some (I (Z0 k l.legs[j] p d'[m])) from by cases k<;>rfl];dsimp only [go_sem];simp only [List.length_map];refine Uu wb rfl hwbl ?_
         dsimp only [go_sem];refine ZxJ (min d'[wb] (Z0 k l.legs[j] p d'[m])) hwbl (by simp [Zq]) (by simp [Zq,Zv]) ?_;dsimp only [go_sem];refine ⟨rfl,?_⟩;refine Zo (by decide) ?_;dsimp only [go_sem];rw [Zg (n:=(j:Int)+1) (by omega) (by omega)];have hst:=hR.step hg hxj (w:=wb) (by rw [Zk,if_pos hca.symm,hwb]) hd.1 hd.2 (by omega) (by omega);rw [WL hwbl,WL hml'] at hst;generalize d'.set wb (min d'[wb] (Z0 k l.legs[j] p d'[m]))=d2 at hst ⊢
         refine ⟨(j+1,d2),⟨hlt,hst⟩,by simp only;omega,?_⟩;(refine Zj ?_ ?_ ?_ rfl rfl<;>dsimp only [Yc,Zh,Zn,Zi,Zq,ZF,Zw,id,go_sem]<;>simp [Yc,Zh,Zn,Zi,Zq,ZF,Zw,Za])
       refine Zo (by simpa using hca) ?_;dsimp only [go_sem];by_cases hcb:(m:Int)=l.legs[j].b
       . refine Zr (by simpa using hcb) ?_;dsimp only [go_sem];refine ⟨rfl,rfl,?_⟩;simp only [hwa,List.length_map];refine Uu wa rfl hwal ?_;dsimp only [go_sem];refine ZgX hwal ?_;dsimp only [Zq,go_sem];simp only [List.length_map];refine Uu m rfl hml' ?_;dsimp only [go_sem];refine ZgX hml' ?_;dsimp only [Zq,go_sem];simp only [List.length_map];refine Uu m rfl hml' ?_;dsimp only [go_sem];refine ZgX hml' ?_
         dsimp only [Zq,go_sem];refine call (Vp l p j hlt d'[m] d'[m] hgl hg.pace hin hin) ?_;dsimp only [go_sem];refine ixa (bif k then 1 else 0) hkk' (by cases k<;>decide) ?_;rw [show nth [I (Z0 false l.legs[j] p d'[m]),I (Z0 true l.legs[j] p d'[m])] ((bif k then 1 else 0) * 1)=some (I (Z0 k l.legs[j] p d'[m])) from by cases k<;>rfl];dsimp only [go_sem];simp only [List.length_map];refine Uu wa rfl hwal ?_
         dsimp only [go_sem];refine ZxJ (min d'[wa] (Z0 k l.legs[j] p d'[m])) hwal (by simp [Zq]) (by simp [Zq,Zv]) ?_;dsimp only [go_sem];refine ⟨rfl,?_⟩;refine Zo (by decide) ?_;dsimp only [go_sem];rw [Zg (n:=(j:Int)+1) (by omega) (by omega)];have hst:=hR.step hg hxj (w:=wa) (by rw [Zk,if_neg (λe=>hca e.symm),if_pos hcb.symm,hwa]) hd.1 hd.2 (by omega) (by omega);rw [WL hwal,WL hml'] at hst;generalize d'.set wa (min d'[wa] (Z0 k l.legs[j] p d'[m]))=d2 at hst ⊢
         refine ⟨(j+1,d2),⟨hlt,hst⟩,by simp only;omega,?_⟩;(refine Zj ?_ ?_ ?_ rfl rfl<;>dsimp only [Yc,Zh,Zn,Zi,Zq,ZF,Zw,id,go_sem]<;>simp [Yc,Zh,Zn,Zi,Zq,ZF,Zw,Za])
       refine Zo (by simpa using hcb) ?_;dsimp only [go_sem];rw [Zg (n:=(j:Int)+1) (by omega) (by omega)];refine ⟨(j+1,d'),⟨hlt,hR.skip hxj (by rw [Zk,if_neg (λe=>hca e.symm),if_neg (λe=>hcb e.symm)];decide)⟩,by simp only;omega,?_⟩;(refine Zj ?_ ?_ ?_ rfl rfl<;>dsimp only [Yc,Zh,Zn,Zi,Zq,ZF,Zw,id,go_sem]<;>simp [Yc,Zh,Zn,Zi,Zq,ZF,Zw,Za])
     refine Zo (by simp;omega) ?_;dsimp only [go_sem];have hje:j=l.legs.length:=by omega
     subst hje
     have hfin:=Rnd.finish (left':=λv=>(XH v (UM (m:Int) L)).isSome=true) hD hR hn2 hn0 hn1 hmin (λv=>by
      rw [ZfW hM.kn];by_cases hv:v=(m:Int)
      . simp [hv]
      . simp [hv]) hg
     refine ⟨(d',UM (m:Int) L),⟨hfin,hM.del,λe he=>hb e (UK.subset he)⟩,by simp only;have:=ZfV hn2;omega,?_⟩;(refine Zj ?_ ?_ ?_ rfl rfl<;>dsimp only [Yc,Zh,Zn,Zi,Zq,ZF,Zw,id,go_sem]<;>simp [Yc,Zh,Zn,Zi,Zq,ZF,Zw,Za])
   intro e he hse;dsimp only [go_sem];refine Zr rfl ?_;dsimp only [go_sem];refine Zi7 (key:=kI) (sv:=sI) (val:=B) (L:=L) (c:=l.wells.length) (e:=e) rfl rfl rfl he hM.bn Zhp ?_;dsimp only [go_sem];have hbe:=hb e he;have hget:=ZkQ hM.kn he;obtain ⟨m,hm⟩:∃ m:Nat,e.2.1=(m:Int):=⟨e.2.1.toNat,by omega⟩
   rw [hm] at hbe hget;simp only [hm];have hml:m < d.length:=by omega
   have hmeas:=Zqq he hse;have hnl:near.toNat < d.length:=by rcases hi with ⟨rfl,_⟩ | ⟨_,_,_⟩<;>omega
   refine gb ?_;dsimp only [go_sem];refine gb ?_;dsimp only [go_sem];refine gb ?_;dsimp only [go_sem];simp only [List.length_map];refine Uu m rfl hml ?_;dsimp only [go_sem];refine gb ?_;dsimp only [go_sem];refine ZgX hml ?_;dsimp only [Zq,go_sem];refine gb ?_;dsimp only [go_sem];refine gb ?_;dsimp only [go_sem];refine gb ?_;dsimp only [go_sem];simp only [List.length_map];refine Ztx near.toNat rfl (λh=>⟨by simp at h;omega,hnl⟩) ?_
   dsimp only [go_sem];refine gb ?_;dsimp only [go_sem];refine ZgX hnl ?_;dsimp only [Zq,go_sem];refine gb ?_;dsimp only [go_sem];refine gb ?_;dsimp only [go_sem];refine gb ?_;dsimp only [go_sem];refine gb ?_;dsimp only [go_sem];simp only [List.length_map];refine Uu m rfl hml ?_;dsimp only [go_sem];refine gb ?_;dsimp only [go_sem];refine ZgX hml ?_;dsimp only [Zq,go_sem];refine gb ?_;dsimp only [go_sem]
   refine gb ?_;dsimp only [go_sem];refine gb ?_;dsimp only [go_sem];simp only [List.length_map];refine Ztx near.toNat rfl (λh=>⟨by simp at h;omega,hnl⟩) ?_;dsimp only [go_sem];refine gb ?_;dsimp only [go_sem];refine ZgX hnl ?_;dsimp only [Zq,go_sem];repeat (refine gb ?_;dsimp only [go_sem])
   have hdm:dv d (m:Int)=d[m]:=WL hml;have hdn:0<=near->dv d near=d[near.toNat]:=λh=>by
    have:=WL hnl;rw [<- this];congr 1;omega
   have hse':∀ e' ∈ L,e'.1 ∈ seen ++ [e.1]->e'.1 ∈ seen\/e'.2.1=m:=λe' he' h=>by
    rcases List.mem_append.1 h with h | h
    . exact .inl h
    . refine .inr ?_;simp only [List.mem_singleton] at h;have:e'=e:=ZdN hM.bn he' he h;rw [this,hm]
   refine br ?_ ?_
   . intro hA;dsimp only [go_sem];refine ⟨(seen ++ [e.1],m),.inr ⟨by simp only;omega,by simp only;omega,by simp only;rw [hget];rfl,λe' he' h=>?_⟩,hmeas,?_⟩
     . simp only [hdm];rcases hse' e' he' h with h | h
       . rcases hi with ⟨rfl,hi⟩ | ⟨hn0,hn1,hn2,hi⟩
         . exact absurd h (hi e' he')
         . have:=hi e' he' h;rw [hdn hn0] at this;simp only [Bool.or_eq_true,Bool.and_eq_true,decide_eq_true_eq,beq_iff_eq] at hA;omega
       . rw [h,hdm];omega
     (refine Zj ?_ ?_ ?_ rfl rfl<;>dsimp only [Yc,Zh,Zn,Zi,Zq,ZF,Zw,id,go_sem]<;>simp [Yc,Zh,Zn,Zi,Zq,ZF,Zw,Za])
   . intro hA;dsimp only [go_sem];simp only [Bool.or_eq_false_iff,Bool.and_eq_false_iff,decide_eq_false_iff_not,beq_eq_false_iff_ne] at hA;refine ⟨(seen ++ [e.1],near),.inr ?_,hmeas,?_⟩
     . rcases hi with ⟨rfl,hi⟩ | ⟨hn0,hn1,hn2,hi⟩
       . omega
       . refine ⟨hn0,hn1,hn2,λe' he' h=>?_⟩;simp only [hdn hn0];rcases hse' e' he' h with h | h
         . have:=hi e' he' h;rw [hdn hn0] at this;exact this
         . rw [h,hdm];omega
     (refine Zj ?_ ?_ ?_ rfl rfl<;>dsimp only [Yc,Zh,Zn,Zi,Zq,ZF,Zw,id,go_sem]<;>simp [Yc,Zh,Zn,Zi,Zq,ZF,Zw,Za])
end Go.Proofs.YtongccnhomncnaaGreat
namespace Go.Azalai
noncomputable def WE (l:Land) (p:Span) (s day:Int):List Span:=List.zipWith Span.mk (Wt false l p s day) (Wt true l p s day)
def Wy (l:Land) (p:Span) (s day:Int):Int:=if ZaN l p≠0 then ZaN l p else if (inR 0 (l.wells.length - 1) s && inR 0 100000 day)=false then 2 else 0
theorem VT {k:Bool} {l:Land} {p:Span} {s day:Int}:(Wt k l p s day).length=l.wells.length:=by simp [Wt]
theorem VR {l:Land} {p:Span} {s day:Int}:(WE l p s day).length=l.wells.length:=by simp [WE,VT]
theorem Zlq {l:Land} {p:Span} (h:ZaN l p=0):OkLP l p:=by
 unfold ZaN at h;split at h
 . omega
 . split at h
   . omega
   . rename_i h1 h2;exact ⟨by simpa using h1,by simpa using h2⟩
end Go.Azalai
namespace Go.Proofs.YtongccnhomncnaaGreat
open Go Go.Sx Go.Azalai
theorem Wi {xs:List (List SV)} {n:Nat} (h:KFR xs):KFR (xs.take n):=by
 induction xs generalizing n with
 | nil=>simpa using h
 | cons x l ih=>cases n with
  | zero=>simp [KFR]
  | succ n=>simp only [List.take_succ_cons,KFR] at h ⊢;exact ⟨h.1,ih h.2⟩
def XX (e:Int) (m:Nat) (xs:List (List SV)):SV:=if e=0 then .sl false m xs else .v (.slice none 0 0)
theorem Zkw (l:Land) (hs:WT l) (s day:Int) (p:Span):Ct Tryz.prog 53 [.agg (Ye l),I s,I day,.agg (Ze p)] (.tup [XX (Wy l p s day) 2 ((WE l p s day).map Ze),I (Wy l p s day)]):=by
 have hw:=hs.1;refine t53.1 (by simp [Ye,Zh,Zn,Zi,Ze,Za]) (by unfold XX;split<;>simp [KFL,KF,Za,Ze]) ?_;dsimp only [c53,r53,Ye,Ze,go_sem];by_cases ha:ZaN l p=0
 case neg =>
  refine call (ZaH l hs p ha) ?_;dsimp only [go_sem];refine Zr (by simpa using ha) ?_;dsimp only [go_sem];simp [Wy,ha,XX]
 have hok:=Zlq ha;refine call (ZcU l hs p ha) ?_;dsimp only [Yc,go_sem];refine Zo (by decide) ?_;dsimp only [go_sem];simp only [List.length_map];have h1:=U1 hok.land;rw [Zg (n:=(l.wells.length:Int) - 1) (by omega) (by omega)];refine call (Zaa 0 (l.wells.length - 1) s true) ?_;dsimp only [go_sem];repeat (first | (refine gb ?_;dsimp only [go_sem]) | (refine call (Zaa 0 100000 day true) ?_;dsimp only [go_sem]))
 by_cases hr:(inR 0 (l.wells.length - 1) s && inR 0 100000 day)=true
 case neg =>
  refine Zr (by simpa [Bool.and_eq_true,<- Bool.not_and] using hr) ?_;dsimp only [go_sem];simp [Wy,ha,XX,hr]
 refine Zo (by simpa [<- Bool.not_and] using hr) ?_;dsimp only [go_sem];have he:Wy l p s day=0:=by simp [Wy,ha,hr]
 rw [he];simp only [Bool.and_eq_true] at hr;obtain ⟨hr1,hr2⟩:=hr;obtain ⟨s0,hs0,rfl⟩:∃ s0:Nat,s0 < l.wells.length/\s=(s0:Int):=by
  simp only [inR,decide_eq_true_eq] at hr1;exact ⟨s.toNat,by omega,by omega⟩
 refine call (Zgh l p hs hok s0 hs0 day hr2 true) ?_;dsimp only [go_sem];refine call (Zgh l p hs hok s0 hs0 day hr2 false) ?_;dsimp only [go_sem];simp only [List.length_map,VT];refine Zfa (Xn 12 2 27 rfl rfl) (λq:Nat × Nat=>[(50,I q.1),(12,.mr 3 q.2)]) (λq=>[(3,.row q.2 2 (((WE l p s0 day).take q.1).map Ze) 27)]) (λq=>q.1<=l.wells.length) (λq=>l.wells.length - q.1) (0,0) (Nat.zero_le _) ?_ ?_
 . (refine Zj ?_ ?_ ?_ rfl rfl<;>dsimp only [Ze,Zh,Zn,Zi,Zq,Wi,id,go_sem]<;>simp [Ze,Zh,Zn,Zi,Zq,Wi,Za])
 rintro ⟨j,v⟩ hj;simp only at hj;dsimp only [go_sem];by_cases hlt:j < l.wells.length
 . refine Zr (by simpa using hlt) ?_;dsimp only [go_sem];have hf0:j < (Wt false l p s0 day).length:=by rw [VT];exact hlt
   have hf1:j < (Wt true l p s0 day).length:=by rw [VT];exact hlt
   refine Zp j hf0 rfl ?_;dsimp only [Zq,go_sem];refine Zp j hf1 rfl ?_;dsimp only [Zq,go_sem];simp only [nbr];dsimp only [go_sem];have hlen:(((WE l p s0 day).take j).map Ze).length=j:=by simp [VR];omega
   refine ⟨(by intro c hc;simp only [List.mem_singleton] at hc;subst hc;rfl),by simp only [List.length_append,hlen,List.length_singleton];omega,?_⟩;dsimp only [go_sem];rw [Zg (n:=(j:Int)+1) (by omega) (by omega)];have hjl:j < (WE l p s0 day).length:=by rw [VR];exact hlt
   have e:((WE l p s0 day).take j).map Ze ++ [[SV.v (.int .i64 (Wt false l p s0 day)[j]),SV.v (.int .i64 (Wt true l p s0 day)[j])]]=((WE l p s0 day).take (j+1)).map Ze:=by
    rw [List.take_succ_eq_append_getElem hjl,List.map_append];simp [WE,Ze]
   rw [e];refine ⟨(j+1,v+1),hlt,by simp only;omega,?_⟩;(refine Zj ?_ ?_ ?_ rfl rfl<;>dsimp only [Ze,Zh,Zn,Zi,Zq,Wi,id,go_sem]<;>simp [Ze,Zh,Zn,Zi,Zq,Wi,Za])
 refine Zo (by simp;omega) ?_;dsimp only [go_sem];have hje:j=l.wells.length:=by omega
 subst hje;have:(WE l p s0 day).take l.wells.length=WE l p s0 day:=List.take_of_length_le (by rw [VR];exact Nat.le_refl _);rw [this];simp [XX,vwN]
end Go.Proofs.YtongccnhomncnaaGreat
namespace Go.Azalai
def ZiL (S:List Span):List Int:=S.map (·.lo)
def ZjB (S:List Span):List Int:=S.map (·.hi)
def ZzE (p:Span) (S:List Span) (x:Leg) (v:Int):Prop:=0<=Zk x v->dv (ZiL S) (Zk x v)<=Z0 false x p (dv (ZiL S) v)/\dv (ZjB S) (Zk x v)<=Z0 true x p (dv (ZjB S) v)
def ZBZ (S:List Span):Nat:=(S.map λs=>s.lo.toNat+s.hi.toNat).sum
def ZAS (x:Leg) (c:Nat):Int:=if c % 2=0 then x.a else x.b
structure RI (l:Land) (p:Span) (s day:Int) (S0 S:List Span) (ch:Bool) (c:Nat):Prop where
 g0:Gone false l p s day (ZiL S)
 g1:Gone true l p s day (ZjB S)
 le:ZBZ S<=ZBZ S0
 dec:ch=true->ZBZ S < ZBZ S0
 same:ch=false->S=S0/\∀ c' x,c' < c->l.legs[c' / 2]? = some x->ZzE p S0 x (ZAS x c')
theorem RI.start {l:Land} {p:Span} {s day:Int} {S:List Span} (h0:Gone false l p s day (ZiL S)) (h1:Gone true l p s day (ZjB S)):RI l p s day S S false 0 :=
 ⟨h0,h1,Nat.le_refl _,λh=>(by cases h),λ_=>⟨rfl,λc' x h=>absurd h (Nat.not_lt_zero _)⟩⟩
theorem RI.len {l:Land} {p:Span} {s day:Int} {S0 S:List Span} {ch:Bool} {c:Nat} (h:RI l p s day S0 S ch c):S.length=l.wells.length:=by have:=h.g0.len;simpa [ZiL] using this
theorem Zs9 {S:List Span} {i:Nat} (h:i < S.length):dv (ZiL S) i=S[i].lo/\dv (ZjB S) i=S[i].hi:=by
 constructor
 . rw [WL (by simpa [ZiL] using h)];simp [ZiL]
 . rw [WL (by simpa [ZjB] using h)];simp [ZjB]
theorem RI.in {l:Land} {p:Span} {s day:Int} {S0 S:List Span} {ch:Bool} {c:Nat} (h:RI l p s day S0 S ch c) (hg:OkLP l p) (hd:0<=day) (hd':day<=100000) (h0:0<=s) (h1:s < l.wells.length) {i:Nat} (hi:i < S.length) :
 (0<=S[i].lo/\S[i].lo<=100001)/\0<=S[i].hi/\S[i].hi<=100001:=by
 have q:=Zs9 hi;have a1:=h.g0.lb hg hd hd' h0 h1 i;have a2:=h.g0.ub i;have b1:=h.g1.lb hg hd hd' h0 h1 i;have b2:=h.g1.ub i;omega
theorem RI.done {l:Land} {p:Span} {s day:Int} {S0 S:List Span} {c:Nat} (h:RI l p s day S0 S false c) (hc:2 * l.legs.length<=c) (hg:OkLP l p) (hd:0<=day) (hd':day<=100000) (h0:0<=s) (h1:s < l.wells.length):S=WE l p s day:=by
 obtain ⟨q1,q2⟩:=h.same rfl;subst q1;have hcl:∀ x ∈ l.legs,(dv (ZiL S) x.b<=Z0 false x p (dv (ZiL S) x.a)/\dv (ZiL S) x.a<=Z0 false x p (dv (ZiL S) x.b))/\(dv (ZjB S) x.b<=Z0 true x p (dv (ZjB S) x.a)/\dv (ZjB S) x.a<=Z0 true x p (dv (ZjB S) x.b)):=λx hx=>by
  obtain ⟨i,hi⟩:=List.mem_iff_getElem?.1 hx;have hil:i < l.legs.length:=(List.getElem?_eq_some_iff.1 hi).1;have hen:=hg.ends hx;have k1:=q2 (2 * i) x (by omega) (by rw [show 2 * i / 2=i by omega];exact hi);have k2:=q2 (2 * i+1) x (by omega) (by rw [show (2 * i+1) / 2=i by omega];exact hi);simp only [ZzE,ZAS,show 2 * i % 2=0 by omega,show ¬ (2 * i+1) % 2=0 by omega,if_true,if_false,Zk,if_neg hen.2.2] at k1 k2
  have m1:=k1 hen.2.1.1;have m2:=k2 hen.1.1;exact ⟨⟨m1.1,m2.1⟩,⟨m1.2,m2.2⟩⟩
 have e0:=Zc3 (k:=false) hg hd hd' h0 h1 h.g0.st (λx hx=>(hcl x hx).1) h.g0.ub h.g0.real;have e1:=Zc3 (k:=true) hg hd hd' h0 h1 h.g1.st (λx hx=>(hcl x hx).2) h.g1.ub h.g1.real;have hl:=h.len;refine List.ext_getElem (by rw [hl,VR]) λi hi hi'=>?_;have d:=Zs9 hi;simp only [WE,List.getElem_zipWith,Wt,List.getElem_map,List.getElem_range];rw [<- e0,<- e1,d.1,d.2]
theorem RI.again {l:Land} {p:Span} {s day:Int} {S0 S:List Span} {ch:Bool} {c:Nat} (h:RI l p s day S0 S ch c):RI l p s day S S false 0:=.start h.g0 h.g1
open Go.Sx
def Vj:List Nat->List Nat->Bool
 | [],[]=>false
 | [],_ :: _=>true
 | _ :: _,[]=>false
 | x :: a,y :: b=>decide (x < y) || (x == y && Vj a b)
theorem Vc:∀ a:List Nat,Vj a a=false
 | []=>rfl
 | x :: a=>by simp [Vj,Vc a]
theorem ZfU:∀ {a b:List Nat},Vj a b=false->Vj b a=false->a=b
 | [],[],_,_=>rfl
 | [],_ :: _,h,_=>by simp [Vj] at h
 | _ :: _,[],_,h=>by simp [Vj] at h
 | x :: a,y :: b,h,h'=>by
  simp only [Vj,Bool.or_eq_false_iff,decide_eq_false_iff_not,Bool.and_eq_false_iff,beq_eq_false_iff_ne] at h h';have hxy:x=y:=by omega
  subst hxy;rw [ZfU (a:=a) (b:=b) (by simpa using h.2) (by simpa using h'.2)]
theorem WH:∀ {a b c:List Nat},Vj a b=true->Vj b c=true->Vj a c=true
 | [],[],_,h,_=>by simp [Vj] at h
 | [],_ :: _,[],_,h=>by simp [Vj] at h
 | [],_ :: _,_ :: _,_,_=>rfl
 | _ :: _,[],_,h,_=>by simp [Vj] at h
 | _ :: _,_ :: _,[],_,h=>by simp [Vj] at h
 | x :: a,y :: b,z :: c,h,h'=>by
  simp only [Vj,Bool.or_eq_true,decide_eq_true_eq,Bool.and_eq_true,beq_iff_eq] at h h' ⊢;rcases h with h | ⟨rfl,h⟩
  . rcases h' with h' | ⟨rfl,h'⟩
    . exact .inl (by omega)
    . exact .inl h
  . rcases h' with h' | ⟨rfl,h'⟩
    . exact .inl h'
    . exact .inr ⟨rfl,WH h h'⟩
theorem ZaT:∀ {a b c d:List Nat},a.length=b.length->Vj (a ++ c) (b ++ d)=(Vj a b || (decide (a=b) && Vj c d))
 | [],[],c,d,_=>by simp [Vj]
 | x :: a,y :: b,c,d,h=>by
  rw [List.cons_append,List.cons_append,Vj,Vj,ZaT (a:=a) (b:=b) (c:=c) (d:=d) (by simpa using h)];by_cases hxy:x=y
  . subst hxy;simp
  . have hb:(x == y)=false:=beq_eq_false_iff_ne.2 hxy;have hc:decide (x :: a=y :: b)=false:=by simp [hxy]
    rw [hb,hc];simp
 | [],_ :: _,_,_,h=>by simp at h
 | _ :: _,[],_,_,h=>by simp at h
def ZzA (W:List Nat->Prop) (a:List Nat):Prop:=W a/\∀ b,W b->Vj b a=false
theorem ZzA.congr {W W':List Nat->Prop} {a:List Nat} (h:ZzA W a) (hw:∀ b,W' b↔W b):ZzA W' a:=⟨(hw a).2 h.1,λb hb=>h.2 b ((hw b).1 hb)⟩
def ZlX (l:Land) (p:Span) (s day:Int) (n:Nat) (q:Int × Int) (a:List Nat):Prop:=a.length=n/\goW true l p s day a=some q
theorem ZgR {l:Land} {p:Span} {s day:Int} {a:List Nat} {i:Nat} {q:Int × Int} (h:goW true l p s day (a ++ [i])=some q) :
 ∃ u x,goW true l p s day a=some u/\l.legs[i]? = some x/\0<=Zk x u.1/\Z0 true x p u.2<=100000/\q=(Zk x u.1,Z0 true x p u.2):=by
 rw [Zbw] at h;cases hu:goW true l p s day a with
 | none=>rw [hu] at h;simp at h
 | some u =>
  rw [hu] at h;simp only [Option.bind_some,goW] at h;cases hx:l.legs[i]? with
  | none=>rw [hx] at h;cases h
  | some x =>
   rw [hx] at h;simp only at h;split at h
   . cases h
   . split at h
     . cases h
     . exact ⟨u,x,rfl,rfl,by omega,by omega,by injection h with h;exact h.symm⟩
def Cand (l:Land) (p:Span) (G:Int) (L:Int × Int->Option (List Nat)) (done:Int × Int->Nat->Prop) (q:Int × Int) (a:List Nat):Prop :=
 ∃ u w i x,L u=some w/\done u i/\l.legs[i]? = some x/\0<=Zk x u.1/\Z0 true x p u.2<=G/\q=(Zk x u.1,Z0 true x p u.2)/\a=w ++ [i]
def Zdo (W:List Nat->Prop):Option (List Nat)->Prop
 | none=>∀ a,¬ W a
 | some a=>ZzA W a
theorem Zdo.congr {W W':List Nat->Prop} {o:Option (List Nat)} (h:Zdo W o) (hw:∀ b,W' b↔W b):Zdo W' o:=by
 cases o with
 | none=>exact λa ha=>h a ((hw a).1 ha)
 | some a=>exact ZzA.congr h hw
def ZuR (c:List Nat):Option (List Nat)->Option (List Nat)
 | none=>some c
 | some d=>if Vj c d=true then some c else some d
theorem Zdo.more {W W':List Nat->Prop} {o:Option (List Nat)} {c:List Nat} (h:Zdo W o) (hw:∀ b,W' b↔W b\/b=c) :
 Zdo W' (ZuR c o):=by
 cases o with
 | none=>exact ⟨(hw c).2 (.inr rfl),λb hb=>by
  rcases (hw b).1 hb with hb | rfl
  . exact absurd hb (h b)
  . exact Vc _⟩
 | some d =>
  simp only [ZuR];split
  . rename_i hcd;refine ⟨(hw c).2 (.inr rfl),λb hb=>?_⟩;rcases (hw b).1 hb with hb | rfl
    . cases hq:Vj b c with
      | false=>rfl
      | true=>have:=WH hq hcd;rw [h.2 b hb] at this;cases this
    . exact Vc _
  . rename_i hcd;refine ⟨(hw d).2 (.inl h.1),λb hb=>?_⟩;rcases (hw b).1 hb with hb | rfl
    . exact h.2 b hb
    . simpa using hcd
def Nxt (l:Land) (p:Span) (G:Int) (L N:Int × Int->Option (List Nat)) (done:Int × Int->Nat->Prop):Prop:=∀ q,Zdo (Cand l p G L done q) (N q)
theorem Nxt.congr {l:Land} {p:Span} {G:Int} {L N N':Int × Int->Option (List Nat)} {done done':Int × Int->Nat->Prop} (h:Nxt l p G L N done) (hN:∀ q,N' q=N q) (hd:∀ u w i,L u=some w->i < l.legs.length->(done' u i↔done u i)):Nxt l p G L N' done':=λq=>by
 rw [hN];refine (h q).congr λb=>⟨?_,?_⟩
 . rintro ⟨u,w,i,x,h1,h2,h3⟩;exact ⟨u,w,i,x,h1,(hd u w i h1 (List.getElem?_eq_some_iff.1 h3.1).1).1 h2,h3⟩
 . rintro ⟨u,w,i,x,h1,h2,h3⟩;exact ⟨u,w,i,x,h1,(hd u w i h1 (List.getElem?_eq_some_iff.1 h3.1).1).2 h2,h3⟩
theorem Nxt.start {l:Land} {p:Span} {G:Int} {L N:Int × Int->Option (List Nat)} (hN:∀ q,N q=none):Nxt l p G L N (λ_ _=>False):=λq=>by
 rw [hN];rintro a ⟨_,_,_,_,_,h,_⟩;exact h
theorem Nxt.skip {l:Land} {p:Span} {G:Int} {L N:Int × Int->Option (List Nat)} {done:Int × Int->Nat->Prop} (h:Nxt l p G L N done) {u:Int × Int} {i:Nat} {x:Leg} (hx:l.legs[i]? = some x) (hn:¬ (0<=Zk x u.1/\Z0 true x p u.2<=G)) :
 Nxt l p G L N (λu' i'=>done u' i'\/u'=u/\i'=i):=λq=>(h q).congr λb=>⟨by
  rintro ⟨u',w,i',x',h1,h2,h3,h4,h5,h6⟩;rcases h2 with h2 | ⟨rfl,rfl⟩
  . exact ⟨u',w,i',x',h1,h2,h3,h4,h5,h6⟩
  . rw [hx] at h3;cases h3;exact absurd ⟨h4,h5⟩ hn,by
  rintro ⟨u',w,i',x',h1,h2,h3⟩;exact ⟨u',w,i',x',h1,.inl h2,h3⟩⟩
theorem Nxt.step {l:Land} {p:Span} {G:Int} {L N N':Int × Int->Option (List Nat)} {done:Int × Int->Nat->Prop} (h:Nxt l p G L N done) {u:Int × Int} {w:List Nat} {i:Nat} {x:Leg} (hL:L u=some w) (hx:l.legs[i]? = some x) (h0:0<=Zk x u.1) (h1:Z0 true x p u.2<=G)
 (hN:∀ q,N' q=if q=(Zk x u.1,Z0 true x p u.2) then ZuR (w ++ [i]) (N q) else N q) :
 Nxt l p G L N' (λu' i'=>done u' i'\/u'=u/\i'=i):=λq=>by
 rw [hN];by_cases hq:q=(Zk x u.1,Z0 true x p u.2)
 . rw [if_pos hq];refine Zdo.more (h q) λb=>⟨?_,?_⟩
   . rintro ⟨u',w',i',x',k1,k2,k3,k4,k5,k6,k7⟩;rcases k2 with k2 | ⟨rfl,rfl⟩
     . exact .inl ⟨u',w',i',x',k1,k2,k3,k4,k5,k6,k7⟩
     . rw [hL] at k1;cases k1;exact .inr k7
   . rintro (⟨u',w',i',x',k1,k2,k3⟩ | rfl)
     . exact ⟨u',w',i',x',k1,.inl k2,k3⟩
     . exact ⟨u,w,i,x,hL,.inr ⟨rfl,rfl⟩,hx,h0,h1,hq,rfl⟩
 . rw [if_neg hq];refine (h q).congr λb=>⟨?_,?_⟩
   . rintro ⟨u',w',i',x',k1,k2,k3,k4,k5,k6,k7⟩;rcases k2 with k2 | ⟨rfl,rfl⟩
     . exact ⟨u',w',i',x',k1,k2,k3,k4,k5,k6,k7⟩
     . rw [hx] at k3;cases k3;exact absurd k6 hq
   . rintro ⟨u',w',i',x',k1,k2,k3⟩;exact ⟨u',w',i',x',k1,.inl k2,k3⟩
def Rd (l:Land) (p:Span) (s day G:Int) (n:Nat) (L:Int × Int->Option (List Nat)):Prop:=∀ q,Zdo (λa=>q.2<=G/\ZlX l p s day n q a) (L q)
theorem Rd.start {l:Land} {p:Span} {s day G:Int} {L:Int × Int->Option (List Nat)} (hG:day<=G) (hL:∀ q,L q=if q=(s,day) then some [] else none):Rd l p s day G 0 L:=λq=>by
 rw [hL];split
 . rename_i hq;subst hq;exact ⟨⟨hG,rfl,rfl⟩,λb hb=>by rw [List.eq_nil_of_length_eq_zero hb.2.1];rfl⟩
 . rename_i hq;rintro a ⟨_,h1,h2⟩;rw [List.eq_nil_of_length_eq_zero h1] at h2;simp only [goW,Option.some.injEq] at h2;exact hq h2.symm
theorem Rd.next {l:Land} {p:Span} {s day G:Int} {n:Nat} {L N:Int × Int->Option (List Nat)} {done:Int × Int->Nat->Prop} (hg:OkLP l p) (h:Rd l p s day G n L) (hN:Nxt l p G L N done) (hd:∀ u w i,L u=some w->i < l.legs.length->done u i) (hG:G<=100000)
 (hd':day<=100000) (h0:0<=s) (h1:s < l.wells.length):Rd l p s day G (n+1) N:=λq=>by
 have hq:=hN q;have one:∀ a,Cand l p G L done q a->q.2<=G/\ZlX l p s day (n+1) q a:=by
  rintro a ⟨u,w,i,x,k1,_,k3,k4,k5,rfl,rfl⟩;have:=h u;rw [k1] at this;obtain ⟨⟨g1,g2,g3⟩,_⟩:=this;exact ⟨k5,by simp [g2],ZaS (v:=u.1) (u:=u.2) g3 k3 (by omega) (by omega)⟩
 have two:∀ b,(q.2<=G/\ZlX l p s day (n+1) q b)->∃ a,Cand l p G L done q a/\Vj b a=false:=by
  rintro b ⟨k1,k2,k3⟩;obtain ⟨c,i,rfl⟩:∃ c i,b=c ++ [i]:=by
   rcases List.eq_nil_or_concat b with rfl | ⟨c,i,rfl⟩
   . simp at k2
   . exact ⟨c,i,by simp⟩
  obtain ⟨u,x,g1,g2,g3,g4,g5⟩:=ZgR k3;have hub:=V1 hg (v':=u.1) (t':=u.2) g1 hd' h0 h1;have hge:=Zbm (k:=true) (t:=u.2) (hg.leg g2) hg.pace (by omega);have hq2:q.2=Z0 true x p u.2:=by rw [g5]
  have hu:=h u;cases hLu:L u with
  | none=>rw [hLu] at hu;exact absurd ⟨by omega,by simpa using k2,g1⟩ (hu c)
  | some w =>
   rw [hLu] at hu;have hlen:c.length=w.length:=by rw [hu.1.2.1];simpa using k2
   refine ⟨w ++ [i],⟨u,w,i,x,hLu,hd u w i hLu (List.getElem?_eq_some_iff.1 g2).1,g2,g3,by omega,g5,rfl⟩,?_⟩;rw [ZaT hlen,hu.2 c ⟨by omega,by simpa using k2,g1⟩];simp [Vj]
 cases hNq:N q with
 | none =>
  rw [hNq] at hq;intro b hb;obtain ⟨a,ha,_⟩:=two b hb;exact hq a ha
 | some a =>
  rw [hNq] at hq;refine ⟨one a hq.1,λb hb=>?_⟩;obtain ⟨c,hc,hbc⟩:=two b hb;cases hba:Vj b a with
  | false=>rfl
  | true =>
   have hca:=hq.2 c hc;cases hcb:Vj c b with
   | true=>have:=WH hcb hba;rw [hca] at this;cases this
   | false=>rw [ZfU hbc hcb,hca] at hba;cases hba
def Ztr (l:Land) (p:Span) (s to day:Int) (a:List Nat):Prop :=
 goW true l p s day a=some (to,Y3 true l p s day to)/\∀ b,goW true l p s day b=some (to,Y3 true l p s day to)->a.length < b.length\/(a.length=b.length/\Vj b a=false)
theorem Rd.sure {l:Land} {p:Span} {s to day G:Int} {n:Nat} {L:Int × Int->Option (List Nat)} {a:List Nat} (h:Rd l p s day G n L) (hG:G=Y3 true l p s day to) (hL:L (to,G)=some a) (hm:∀ m,m < n->∀ b,¬ ZlX l p s day m (to,G) b):Ztr l p s to day a:=by
 subst hG;have hq:=h (to,Y3 true l p s day to);rw [hL] at hq;refine ⟨hq.1.2.2,λb hb=>?_⟩;by_cases hlt:b.length < n
 . exact absurd ⟨rfl,hb⟩ (hm b.length hlt b)
 . have hn:=hq.1.2.1;by_cases he:b.length=n
   . exact .inr ⟨by omega,hq.2 b ⟨Int.le_refl _,he,hb⟩⟩
   . exact .inl (by omega)
theorem Rd.not {l:Land} {p:Span} {s to day G:Int} {n:Nat} {L:Int × Int->Option (List Nat)} (h:Rd l p s day G n L) (hL:L (to,G)=none) (hm:∀ m,m < n->∀ b,¬ ZlX l p s day m (to,G) b):∀ m,m < n+1->∀ b,¬ ZlX l p s day m (to,G) b:=λm hmn b hb=>by
 by_cases he:m=n
 . subst he;have:=h (to,G);rw [hL] at this;exact this b ⟨Int.le_refl _,hb⟩
 . exact hm m (by omega) b hb
open Classical in
noncomputable def YZ (l:Land) (p:Span) (v t:Int) (n:Nat) (w:Int):Int :=
 if h:∃ m:Nat,∃ a,ZlX l p v t n (w,(m:Int)) a then ((Go.Sx.least_ex _ h).choose:Int) else 100001
theorem Vm {l:Land} {p:Span} (h:OkLP l p) {v t w u:Int} {n:Nat} {a:List Nat} (e:ZlX l p v t n (w,u) a) (ht:0<=t) (ht':t<=100000) (h0:0<=v) (h1:v < l.wells.length):YZ l p v t n w<=u:=by
 have hb:=V1 h e.2 ht' h0 h1;have eu:((u.toNat:Nat):Int)=u:=by omega
 have hex:∃ m:Nat,∃ a,ZlX l p v t n (w,(m:Int)) a:=⟨u.toNat,a,by rw [eu];exact e⟩
 unfold YZ;rw [dif_pos hex];have:=(Go.Sx.least_ex _ hex).choose_spec.2 u.toNat ⟨a,by rw [eu];exact e⟩;omega
theorem YU {l:Land} {p:Span} {v t w:Int} {n:Nat}:YZ l p v t n w=100001\/∃ a,ZlX l p v t n (w,YZ l p v t n w) a:=by
 unfold YZ;by_cases hex:∃ m:Nat,∃ a,ZlX l p v t n (w,(m:Int)) a
 . rw [dif_pos hex];exact .inr (Go.Sx.least_ex _ hex).choose_spec.1
 . rw [dif_neg hex];exact .inl rfl
theorem Zbq {l:Land} {p:Span} (h:OkLP l p) {v t w:Int} {n:Nat} (ht:0<=t) (ht':t<=100000) (h0:0<=v) (h1:v < l.wells.length):t<=YZ l p v t n w/\YZ l p v t n w<=100001:=by
 rcases YU (l:=l) (p:=p) (v:=v) (t:=t) (n:=n) (w:=w) with e | ⟨a,e⟩
 . omega
 . have:=V1 h e.2 ht' h0 h1;omega
theorem Zrn {l:Land} {p:Span} (h:OkLP l p) {v t w:Int} (ht:0<=t) (ht':t<=100000) (h0:0<=v) (h1:v < l.wells.length):YZ l p v t 0 w=if w=v then t else 100001:=by
 rcases YU (l:=l) (p:=p) (v:=v) (t:=t) (n:=0) (w:=w) with e | ⟨a,e1,e2⟩
 . split
   . rename_i hw;subst hw;have:=Vm (u:=t) (a:=[]) (n:=0) (w:=w) h ⟨rfl,rfl⟩ ht ht' h0 h1;omega
   . exact e
 . rw [List.eq_nil_of_length_eq_zero e1] at e2;simp only [goW,Option.some.injEq,Prod.mk.injEq] at e2;rw [if_pos e2.1.symm];exact e2.2.symm
noncomputable def Zap (l:Land) (p:Span) (v t:Int) (n:Nat):List Int:=(List.range l.wells.length).map λw:Nat=>YZ l p v t n (w:Int)
theorem Zcz {l:Land} {p:Span} {v t:Int} {n:Nat}:(Zap l p v t n).length=l.wells.length:=by simp [Zap]
theorem Zf9 {l:Land} {p:Span} {v t w:Int} {n:Nat} (h0:0<=w) (h1:w < l.wells.length):dv (Zap l p v t n) w=YZ l p v t n w:=by
 obtain ⟨i,rfl⟩:∃ i:Nat,w=(i:Int):=⟨w.toNat,by omega⟩
 rw [WL (by rw [Zcz];omega)];simp [Zap]
structure Lst (l:Land) (p:Span) (c d:List Int) (j:Nat):Prop where
 len:d.length=l.wells.length
 ub:∀ w,dv d w<=100001
 le:∀ (i:Nat) (x:Leg) (v:Int),i < j->l.legs[i]? = some x->0<=Zk x v->dv d (Zk x v)<=Z0 true x p (dv c v)
 real:∀ w,dv d w=100001\/∃ (i:Nat) (x:Leg) (v:Int),l.legs[i]? = some x/\0<=Zk x v/\Zk x v=w/\dv d w=Z0 true x p (dv c v)
theorem Lst.start {l:Land} {p:Span} {c:List Int}:Lst l p c (List.replicate l.wells.length 100001) 0:=by
 have e:∀ w,dv (List.replicate l.wells.length 100001) w=100001:=λw=>by
  by_cases hw:0<=w/\w < (List.replicate l.wells.length (100001:Int)).length
  . obtain ⟨i,rfl⟩:∃ i:Nat,w=(i:Int):=⟨w.toNat,by omega⟩
    rw [WL (by omega)];simp
  . exact ZBf hw
 exact ⟨by simp,λw=>by rw [e];exact Int.le_refl _,λi x v h=>by omega,λw=>.inl (e w)⟩
theorem Zet {l:Land} {p:Span} {c d:List Int} {x:Leg} {v:Int} {w:Nat} (hlen:d.length=l.wells.length) (hw:w < d.length) {i:Nat} (hx:l.legs[i]? = some x) (ho:Zk x v=w) (hub:∀ w,dv d w<=100001) (hr:∀ w,dv d w=100001\/∃ (i:Nat) (x:Leg) (v:Int),l.legs[i]? = some x/\0<=Zk x v/\Zk x v=w/\dv d w=Z0 true x p (dv c v)) :
 (∀ u,dv (d.set w (min (dv d w) (Z0 true x p (dv c v)))) u<=dv d u)/\(dv (d.set w (min (dv d w) (Z0 true x p (dv c v)))) w<=Z0 true x p (dv c v)) /\
 ∀ u,dv (d.set w (min (dv d w) (Z0 true x p (dv c v)))) u=100001\/∃ (i:Nat) (y:Leg) (v':Int),l.legs[i]? = some y/\0<=Zk y v'/\Zk y v'=u/\dv (d.set w (min (dv d w) (Z0 true x p (dv c v)))) u=Z0 true y p (dv c v'):=by
 refine ⟨λu=>?_,?_,λu=>?_⟩
 . rw [Wr hw];split
   . rename_i hu;rw [hu];omega
   . exact Int.le_refl _
 . rw [Wr hw,if_pos rfl];omega
 . rw [Wr hw];split
   . rename_i hu;by_cases hm:dv d w<=Z0 true x p (dv c v)
     . rw [Int.min_eq_left hm,hu];exact hr w
     . rw [Int.min_eq_right (by omega)];exact .inr ⟨i,x,v,hx,by omega,by omega,rfl⟩
   . exact hr u
theorem Lst.step {l:Land} {p:Span} {c d:List Int} {j:Nat} (h:Lst l p c d j) (hg:OkLP l p) {x:Leg} (hx:l.legs[j]? = some x) {a b:Nat} (ha:x.a=a) (hb:x.b=b) :
 Lst l p c ((d.set b (min (dv d b) (Z0 true x p (dv c a)))).set a (min (dv (d.set b (min (dv d b) (Z0 true x p (dv c a)))) a) (Z0 true x p (dv c b)))) (j+1):=by
 have hen:=hg.ends (List.mem_of_getElem? hx);have hbl:b < d.length:=by rw [h.len];omega
 have hal:a < d.length:=by rw [h.len];omega
 have o1:Zk x (a:Int)=(b:Int):=by rw [Zk,if_pos ha,hb]
 have o2:Zk x (b:Int)=(a:Int):=by rw [Zk,if_neg (by omega),if_pos hb,ha]
 obtain ⟨q1,q2,q3⟩:=Zet (v:=(a:Int)) h.len hbl hx o1 h.ub h.real;have hl1:(d.set b (min (dv d b) (Z0 true x p (dv c a)))).length=d.length:=List.length_set;generalize d.set b (min (dv d b) (Z0 true x p (dv c a)))=d1 at q1 q2 q3 hl1;obtain ⟨r1,r2,r3⟩:=Zet (v:=(b:Int)) (hl1.trans h.len) (by omega:a < d1.length) hx o2 (λw=>Int.le_trans (q1 w) (h.ub w)) q3;have hl2:(d1.set a (min (dv d1 a) (Z0 true x p (dv c b)))).length=d1.length:=List.length_set
 generalize d1.set a (min (dv d1 a) (Z0 true x p (dv c b)))=d2 at r1 r2 r3 hl2;refine ⟨by rw [hl2,hl1,h.len],λw=>Int.le_trans (r1 w) (Int.le_trans (q1 w) (h.ub w)),λi y v hi hy ho=>?_,r3⟩;by_cases he:i=j
 . subst he;rw [hx] at hy;cases hy;rcases (Yb hg hx (v:=v) (by omega)).2.1 with ⟨e1,e2⟩ | ⟨e1,e2⟩
   . have ev:v=(a:Int):=by omega
     subst ev;rw [o1];exact Int.le_trans (r1 _) q2
   . have ev:v=(b:Int):=by omega
     subst ev;rw [o2];exact r2
 . exact Int.le_trans (r1 _) (Int.le_trans (q1 _) (h.le i y v (by omega) hy ho))
theorem Lst.done {l:Land} {p:Span} {v t:Int} {n:Nat} {d:List Int} (h:Lst l p (Zap l p v t n) d l.legs.length) (hg:OkLP l p) (ht:0<=t) (ht':t<=100000) (h0:0<=v) (h1:v < l.wells.length):d=Zap l p v t (n+1):=by
 refine List.ext_getElem (by rw [h.len,Zcz]) λi hi hi'=>?_;have hil:i < l.wells.length:=by rw [h.len] at hi;exact hi
 rw [show (Zap l p v t (n+1))[i]=YZ l p v t (n+1) i by simp [Zap],<- WL hi];have hlow:YZ l p v t (n+1) i<=dv d i:=by
  rcases h.real i with e | ⟨k,x,u,hx,ho,hou,e⟩
  . rw [e];exact (Zbq hg ht ht' h0 h1).2
  . have hin:=Yb hg hx (v:=u) (by omega);rw [Zf9 hin.2.2.1 hin.2.2.2] at e;by_cases hr:dv d i=100001
    . rw [hr];exact (Zbq hg ht ht' h0 h1).2
    . have hub:=h.ub i;have hb:=X1 (k:=true) (t:=YZ l p v t n u) (hg.leg hx) hg.pace (Zbq hg ht ht' h0 h1).2;rcases YU (l:=l) (p:=p) (v:=v) (t:=t) (n:=n) (w:=u) with e' | ⟨a,e1,e2⟩
      . omega
      . rw [e,<- hou];exact Vm hg ⟨by simp [e1],ZaS e2 hx (by omega) (by omega)⟩ ht ht' h0 h1
 have hup:dv d i<=YZ l p v t (n+1) i:=by
  rcases YU (l:=l) (p:=p) (v:=v) (t:=t) (n:=n+1) (w:=i) with e' | ⟨b,e1,e2⟩
  . rw [e'];exact h.ub i
  . obtain ⟨c,k,rfl⟩:∃ c k,b=c ++ [k]:=by
     rcases List.eq_nil_or_concat b with rfl | ⟨c,k,rfl⟩
     . simp at e1
     . exact ⟨c,k,by simp⟩
    obtain ⟨u,x,g1,g2,g3,g4,g5⟩:=ZgR e2;have hin:=Yb hg g2 (v:=u.1) (by omega);have:=h.le k x u.1 (List.getElem?_eq_some_iff.1 g2).1 g2 g3;rw [Zf9 hin.2.2.1 hin.2.2.2] at this;have hl:=Vm (n:=n) (w:=u.1) (u:=u.2) hg ⟨by simpa using e1,g1⟩ ht ht' h0 h1;have hm:=Za2 (k:=true) (hg.leg g2) hg.pace hl;simp only [Prod.mk.injEq] at g5;rw [<- g5.1] at this;omega
 omega
structure Gr (l:Land) (p:Span) (s day to best:Int) (n0 n:Nat) (v t:Int) (out:List Nat):Prop where
 go:goW true l p s day out=some (v,t)
 len:out.length+n=n0
 least:YZ l p v t n to=best
 pre:∀ b,b.length=n0->goW true l p s day b=some (to,best)->b.take out.length=out\/Vj out (b.take out.length)=true
def Fit (l:Land) (p:Span) (to best:Int) (n:Nat) (v t:Int) (i:Nat):Prop:=∃ x,l.legs[i]? = some x/\0<=Zk x v/\Z0 true x p t < 100001/\YZ l p (Zk x v) (Z0 true x p t) n to=best
theorem Gr.start {l:Land} {p:Span} {s day to best:Int} {n:Nat} (h:YZ l p s day n to=best):Gr l p s day to best n n s day []:=⟨rfl,by simp,h,λ_ _ _=>.inl (by simp)⟩
theorem Zq1 {l:Land} {p:Span} {v t:Int} {i:Nat} {c:List Nat} {q:Int × Int} (h:goW true l p v t (i :: c)=some q):∃ x,l.legs[i]? = some x/\0<=Zk x v/\Z0 true x p t<=100000/\goW true l p (Zk x v) (Z0 true x p t) c=some q:=by
 simp only [goW] at h;cases hx:l.legs[i]? with
 | none=>rw [hx] at h;cases h
 | some x =>
  rw [hx] at h;simp only at h;split at h
  . cases h
  . split at h
    . cases h
    . exact ⟨x,rfl,by omega,by omega,h⟩
theorem Gr.fit {l:Land} {p:Span} {s day to best:Int} {n0 n:Nat} {v t:Int} {out:List Nat} (h:Gr l p s day to best n0 (n+1) v t out) (hg:OkLP l p) (hd:0<=day) (hd':day<=100000) (h0:0<=s) (h1:s < l.wells.length) (hb:best=Y3 true l p s day to) {i:Nat} {c:List Nat} (hc:c.length=n)
 (hw:goW true l p v t (i :: c)=some (to,best)):Fit l p to best n v t i:=by
 obtain ⟨x,g1,g2,g3,g4⟩:=Zq1 hw;have hbd:=V1 hg h.go hd' h0 h1;have hin:=Yb hg g1 (v:=v) (by omega);have ha:=X1 (k:=true) (t:=t) (hg.leg g1) hg.pace (by omega);have hle:=Vm (n:=n) (w:=to) (u:=best) hg ⟨hc,g4⟩ (by omega) g3 hin.1.1 hin.1.2;refine ⟨x,g1,g2,by omega,?_⟩;rcases YU (l:=l) (p:=p) (v:=Zk x v) (t:=Z0 true x p t) (n:=n) (w:=to) with e | ⟨a,e1,e2⟩
 . have:=V1 hg g4 g3 hin.1.1 hin.1.2;omega
 . have hgo:goW true l p s day (out ++ (i :: a))=some (to,YZ l p (Zk x v) (Z0 true x p t) n to):=by
    rw [Zbw,h.go];simp only [Option.bind_some,goW,g1];rw [if_neg (by omega),if_neg (by omega)];exact e2
   have:=Zbe hg hgo hd hd' h0 h1;omega
theorem Gr.ex {l:Land} {p:Span} {s day to best:Int} {n0 n:Nat} {v t:Int} {out:List Nat} (h:Gr l p s day to best n0 (n+1) v t out) (hg:OkLP l p) (hd:0<=day) (hd':day<=100000) (h0:0<=s) (h1:s < l.wells.length) (hb:best=Y3 true l p s day to) (hb':best<=100000) :
 ∃ i,i < l.legs.length/\Fit l p to best n v t i:=by
 rcases YU (l:=l) (p:=p) (v:=v) (t:=t) (n:=n+1) (w:=to) with e | ⟨a,e1,e2⟩
 . have:=h.least;omega
 . rw [h.least] at e2;cases a with
   | nil=>simp at e1
   | cons i c =>
    have hf:=h.fit hg hd hd' h0 h1 hb (by simpa using e1) e2;have hf':=hf;obtain ⟨x,hx,_⟩:=hf';exact ⟨i,(List.getElem?_eq_some_iff.1 hx).1,hf⟩
theorem Gr.step {l:Land} {p:Span} {s day to best:Int} {n0 n:Nat} {v t:Int} {out:List Nat} (h:Gr l p s day to best n0 (n+1) v t out) (hg:OkLP l p) (hd:0<=day) (hd':day<=100000) (h0:0<=s) (h1:s < l.wells.length) (hb:best=Y3 true l p s day to) {i:Nat} {x:Leg} (hx:l.legs[i]? = some x) (ho:0<=Zk x v) (ha:Z0 true x p t < 100001)
 (hf:YZ l p (Zk x v) (Z0 true x p t) n to=best) (hm:∀ j,j < i->¬ Fit l p to best n v t j):Gr l p s day to best n0 n (Zk x v) (Z0 true x p t) (out ++ [i]):=by
 refine ⟨ZaS h.go hx (by omega) (by omega),by have:=h.len;simp;omega,hf,λb hbl hbw=>?_⟩;have hlen:=h.len;have hsplit:b.take (out ++ [i]).length=b.take out.length ++ (b[out.length]?).toList:=by
  rw [List.length_append,List.length_singleton];exact List.take_add_one
 have hlt:out.length < b.length:=by omega
 rw [hsplit,List.getElem?_eq_getElem hlt,Option.toList_some];have hl:out.length=(b.take out.length).length:=by rw [List.length_take];omega
 rcases h.pre b hbl hbw with e | e
 . rw [e];have hbeq:b=out ++ (b[out.length] :: b.drop (out.length+1)):=by
    conv=>lhs;rw [<- List.take_append_drop out.length b,e,List.drop_eq_getElem_cons hlt]
   have hw2:goW true l p v t (b[out.length] :: b.drop (out.length+1))=some (to,best):=by
    rw [hbeq,Zbw,h.go] at hbw;simpa using hbw
   have hfit:=h.fit hg hd hd' h0 h1 hb (by rw [List.length_drop];omega) hw2;by_cases heq:b[out.length]=i
   . left;rw [heq]
   . right;have:¬ b[out.length] < i:=λhlt'=>hm _ hlt' hfit;rw [ZaT rfl];simp [Vj,Vc];omega
 . right;rw [ZaT hl,e];rfl
theorem Gr.done {l:Land} {p:Span} {s day to best:Int} {n0:Nat} {v t:Int} {out:List Nat} (h:Gr l p s day to best n0 0 v t out) (hg:OkLP l p) (hd:0<=day) (hd':day<=100000) (h0:0<=s) (h1:s < l.wells.length) (hb:best=Y3 true l p s day to) (hb':best<=100000)
 (hm:∀ m,m < n0->YZ l p s day m to≠best):Ztr l p s to day out:=by
 have hbd:=V1 hg h.go hd' h0 h1;have h2:=h.least;rw [Zrn hg (by omega) (by omega) hbd.2.2.1 hbd.2.2.2] at h2;split at h2
 case isFalse=>omega
 rename_i hv;subst hv;subst h2;have hlen:=h.len;refine ⟨by rw [<- hb];exact h.go,λb hbw=>?_⟩;rw [<- hb] at hbw;by_cases hlt:b.length < n0
 . refine absurd ?_ (hm b.length hlt);have q1:=Vm (n:=b.length) hg ⟨rfl,hbw⟩ hd hd' h0 h1;rcases YU (l:=l) (p:=p) (v:=s) (t:=day) (n:=b.length) (w:=to) with e | ⟨a,e1,e2⟩
   . omega
   . have:=Zbe hg e2 hd hd' h0 h1;omega
 . by_cases he:b.length=n0
   . refine .inr ⟨by omega,?_⟩;have hpre:=h.pre b he hbw;rw [List.take_of_length_le (by omega)] at hpre;rcases hpre with rfl | hpre
     . exact Vc _
     . cases hq:Vj b out with
       | false=>rfl
       | true=>have:=WH hpre hq;rw [Vc] at this;cases this
   . exact .inl (by omega)
structure Stop where
 leg:Int
 well:Int
 leaves:Span
 arrives:Span
deriving DecidableEq
def Wz (l:Land):Int->List Int->Nat->Option Nat
 | _,[],_=>none
 | v,i :: r,k=>if Vh l i v < 0 then some k else Wz l (Vh l i v) r (k+1)
def Uc (l:Land):Int->List Int->List Int
 | _,[]=>[]
 | v,i :: r=>if Vh l i v < 0 then [] else Vh l i v :: Uc l (Vh l i v) r
def goS (l:Land) (p:Span):Int->Int->Int->List Int->Nat->List Stop->List Stop × Int × Int
 | _,_,_,[],_,acc=>(acc,0,0)
 | v,a,b,i :: r,k,acc=>match l.legs[i.toNat]? with
  | none=>([],0,0)
  | some x=>if Z0 true x p b > 100000 then ([],k,34)
   else goS l p (Zk x v) (Z0 false x p a) (Z0 true x p b) r (k+1) (acc ++ [⟨i,Zk x v,⟨leK false x p a,leK true x p b⟩,⟨Z0 false x p a,Z0 true x p b⟩⟩])
def Xp (l:Land) (p:Span) (s day:Int) (legs:List Int):List Stop × Int × Int :=
 if ZaN l p≠0 then ([],0,ZaN l p)
 else if (inR 0 (l.wells.length - 1) s && inR 0 100000 day)=false then ([],0,2)
 else if legs.length > 24 then ([],0,4)
 else match Wz l s legs 0 with
  | some k=>([],k,8)
  | none=>goS l p s day day legs 0 []
theorem ZbY {l:Land} {i v:Int} (h:¬ Vh l i v < 0):∃ k:Nat,∃ x,i=(k:Int)/\∃ hk:k < l.legs.length,l.legs[k]? = some x/\l.legs[k]=x/\Vh l i v=Zk x v:=by
 unfold Vh at h ⊢;split at h
 . rename_i hk;refine ⟨i.toNat,l.legs[i.toNat],by omega,hk.2,by simp [hk.2],rfl,?_⟩;rw [dif_pos hk]
 . omega
theorem Zfd {l:Land} {i v:Int}:i < 0\/(l.legs.length:Int)<=i->Vh l i v = -1:=λh=>by
 unfold Vh;rw [dif_neg (by omega)]
theorem ZbV {l:Land} {k:Nat} {v:Int} (hk:k < l.legs.length):Vh l k v=Zk l.legs[k] v:=by
 unfold Vh;rw [dif_pos ⟨by omega,by simpa using hk⟩];simp
theorem X3 {α : Type} {l:List α} {j:Nat} (h:j < l.length):l.drop j=l[j] :: l.drop (j+1):=List.drop_eq_getElem_cons h
theorem Zd2 {l:Land}:∀ {legs:List Int} {v:Int} {k:Nat},Wz l v legs k=none->(Uc l v legs).length=legs.length
 | [],_,_,_=>rfl
 | i :: r,v,k,h=>by
  simp only [Wz] at h;simp only [Uc];split at h
  . cases h
  . rename_i hn;rw [if_neg hn,List.length_cons,List.length_cons,Zd2 h]
structure W1 (l:Land) (s:Int) (legs:List Int) (j:Nat) (v:Int) (ends:List Int):Prop where
 bad:Wz l s legs 0=Wz l v (legs.drop j) j
 eds:Uc l s legs=ends ++ Uc l v (legs.drop j)
 len:ends.length=j
 inn:0<=v/\v < l.wells.length
theorem W1.start {l:Land} {s:Int} {legs:List Int} (h:0<=s/\s < l.wells.length):W1 l s legs 0 s []:=⟨by simp,by simp,rfl,h⟩
theorem W1.step {l:Land} {p:Span} {s:Int} {legs:List Int} {j:Nat} {v:Int} {ends:List Int} (h:W1 l s legs j v ends) (hg:OkLP l p) (hj:j < legs.length) (he:¬ Vh l legs[j] v < 0):W1 l s legs (j+1) (Vh l legs[j] v) (ends ++ [Vh l legs[j] v]):=by
 obtain ⟨k,x,_,_,hx,_,e⟩:=ZbY he;refine ⟨?_,?_,by simp [h.len],by rw [e] at he ⊢;exact (Yb hg hx he).1⟩
 . rw [h.bad,X3 hj];simp only [Wz];rw [if_neg he]
 . rw [h.eds,X3 hj];simp only [Uc];rw [if_neg he];simp
theorem W1.stop {l:Land} {s:Int} {legs:List Int} {j:Nat} {v:Int} {ends:List Int} (h:W1 l s legs j v ends) (hj:j < legs.length) (he:Vh l legs[j] v < 0):Wz l s legs 0=some j:=by
 rw [h.bad,X3 hj];simp only [Wz];rw [if_pos he]
theorem W1.done {l:Land} {s:Int} {legs:List Int} {v:Int} {ends:List Int} (h:W1 l s legs legs.length v ends):Wz l s legs 0=none/\ends=Uc l s legs:=by
 have h1:=h.bad;have h2:=h.eds;rw [List.drop_of_length_le (Nat.le_refl _)] at h1 h2;exact ⟨by rw [h1];rfl,by rw [h2];simp [Uc]⟩
structure W2 (l:Land) (p:Span) (s day:Int) (legs:List Int) (j:Nat) (v a b:Int) (acc:List Stop):Prop where
 eq:goS l p s day day legs 0 []=goS l p v a b (legs.drop j) j acc
 bad:Wz l v (legs.drop j) j=none
 ends:(Uc l s legs).drop j=Uc l v (legs.drop j)
 inn:0<=v/\v < l.wells.length
 da:0<=a/\a<=100001
 db:0<=b/\b<=100000
 len:acc.length=j
theorem W2.start {l:Land} {p:Span} {s day:Int} {legs:List Int} (h:Wz l s legs 0=none) (hs:0<=s/\s < l.wells.length) (hd:0<=day/\day<=100000):W2 l p s day legs 0 s day day []:=⟨by simp,by simpa using h,by simp,hs,⟨hd.1,by omega⟩,hd,rfl⟩
theorem W2.at {l:Land} {p:Span} {s day:Int} {legs:List Int} {j:Nat} {v a b:Int} {acc:List Stop} (h:W2 l p s day legs j v a b acc) (hj:j < legs.length):∃ k:Nat,∃ hk:k < l.legs.length,legs[j]=(k:Int)/\Vh l legs[j] v=Zk l.legs[k] v/\0<=Zk l.legs[k] v/\(Uc l s legs)[j]? = some (Zk l.legs[k] v):=by
 have hb:=h.bad;have he:=h.ends;rw [X3 hj] at hb he;simp only [Wz] at hb;simp only [Uc] at he;split at hb
 . cases hb
 . rename_i hn;rw [if_neg hn] at he;obtain ⟨k,x,e1,hk,e2,e3,e4⟩:=ZbY hn;subst e3;refine ⟨k,hk,e1,e4,by omega,?_⟩;have:=congrArg (λq=>q[0]?) he;simp only [List.getElem?_drop,Nat.add_zero,List.getElem?_cons_zero] at this;rw [this,e4]
theorem W2.step {l:Land} {p:Span} {s day:Int} {legs:List Int} {j:Nat} {v a b:Int} {acc:List Stop} (h:W2 l p s day legs j v a b acc) (hg:OkLP l p) (hj:j < legs.length) {k:Nat} (hk:k < l.legs.length) (hl:legs[j]=(k:Int)) (hr:¬ Z0 true l.legs[k] p b > 100000) (ho:0<=Zk l.legs[k] v) :
 W2 l p s day legs (j+1) (Zk l.legs[k] v) (Z0 false l.legs[k] p a) (Z0 true l.legs[k] p b) (acc ++ [⟨k,Zk l.legs[k] v,⟨leK false l.legs[k] p a,leK true l.legs[k] p b⟩,⟨Z0 false l.legs[k] p a,Z0 true l.legs[k] p b⟩⟩]):=by
 have hx:l.legs[k]? = some l.legs[k]:=List.getElem?_eq_getElem hk;have hend:Vh l legs[j] v=Zk l.legs[k] v:=by rw [hl];exact ZbV hk
 have hb:=h.bad;have he:=h.ends;rw [X3 hj] at hb he;simp only [Wz,hend] at hb;rw [if_neg (by omega)] at hb;simp only [Uc,hend] at he;rw [if_neg (by omega)] at he;have ha:=Zbm (k:=false) (hg.leg hx) hg.pace h.da.2;have ha':=X1 (k:=false) (hg.leg hx) hg.pace h.da.2;have hb':=Zbm (k:=true) (t:=b) (hg.leg hx) hg.pace (by have:=h.db;omega);have h1:=h.da;have h2:=h.db;refine ⟨?_,hb,?_,(Yb hg hx (by omega)).1,by omega,by omega,by simp [h.len]⟩
 . rw [h.eq,X3 hj,hl];simp only [goS,Int.toNat_natCast,hx];rw [if_neg hr]
 . have:=congrArg (List.drop 1) he;simpa [List.drop_drop,Nat.add_comm] using this
theorem W2.stop {l:Land} {p:Span} {s day:Int} {legs:List Int} {j:Nat} {v a b:Int} {acc:List Stop} (h:W2 l p s day legs j v a b acc) (hj:j < legs.length) {k:Nat} (hk:k < l.legs.length) (hl:legs[j]=(k:Int)) (hr:Z0 true l.legs[k] p b > 100000):goS l p s day day legs 0 []=([],(j:Int),34):=by
 rw [h.eq,X3 hj,hl];simp only [goS,Int.toNat_natCast,List.getElem?_eq_getElem hk];rw [if_pos hr]
theorem W2.done {l:Land} {p:Span} {s day:Int} {legs:List Int} {v a b:Int} {acc:List Stop} (h:W2 l p s day legs legs.length v a b acc):goS l p s day day legs 0 []=(acc,0,0):=by
 rw [h.eq,List.drop_of_length_le (Nat.le_refl _)];rfl
end Go.Azalai
namespace Go.Proofs.YtongccnhomncnaaGreat
open Go Go.Sx Go.Azalai
def ZZ (s:Stop):List SV:=[I s.leg,I s.well,I s.leaves.lo,I s.leaves.hi,I s.arrives.lo,I s.arrives.hi]
def ZbD (r:List Stop × Int × Int):SV:=.tup [XX r.2.2 6 (r.1.map ZZ),I r.2.1,I r.2.2]
theorem ZnO (r:List Stop × Int × Int):KF (ZbD r):=by
 unfold ZbD XX;split<;>simp [KFL,KF,Za,ZZ]
theorem Znp (l:Land) (hs:WT l) (s day:Int) (p:Span) (legs:List Int) (hl:legs.length<=1000) (c:Bool):Ct Tryz.prog 125 [.agg (Ye l),I s,I day,.agg (Ze p),.sl c 1 (legs.map Zq)] (ZbD (Xp l p s day legs)):=by
 have hw:=hs.1;have hleg:=hs.2.1;refine t125.1 (by simp [Ye,Zh,Zn,Zi,Ze,Zq,Za]) (ZnO _) ?_;dsimp only [c125,r125,Ye,Ze,go_sem];by_cases ha:ZaN l p=0
 case neg =>
  refine call (ZaH l hs p ha) ?_;dsimp only [go_sem];refine Zr (by simpa using ha) ?_;dsimp only [go_sem];simp [Xp,ha,ZbD,XX]
 have hok:=Zlq ha;refine call (ZcU l hs p ha) ?_;dsimp only [Yc,go_sem];refine Zo (by decide) ?_;dsimp only [go_sem];simp only [List.length_map];have h1:=U1 hok.land;rw [Zg (n:=(l.wells.length:Int) - 1) (by omega) (by omega)];refine call (Zaa 0 (l.wells.length - 1) s true) ?_;dsimp only [go_sem];repeat (first | (refine gb ?_;dsimp only [go_sem]) | (refine call (Zaa 0 100000 day true) ?_;dsimp only [go_sem]))
 by_cases hr:(inR 0 (l.wells.length - 1) s && inR 0 100000 day)=true
 case neg =>
  refine Zr (by simpa [Bool.and_eq_true,<- Bool.not_and] using hr) ?_;dsimp only [go_sem];simp [Xp,ha,ZbD,XX,hr]
 refine Zo (by simpa [<- Bool.not_and] using hr) ?_;dsimp only [go_sem];simp only [List.length_map];by_cases hm:legs.length > 24
 . refine Zr (by simp;omega) ?_;dsimp only [go_sem];simp only [Xp,ha,hr,ne_eq,not_true_eq_false,if_false,Bool.true_eq_false,hm,if_true,ZbD,XX];simp
 refine Zo (by simp;omega) ?_;dsimp only [go_sem];simp only [List.length_map];have hF1:∀ k,Wz l s legs 0=some k->Xp l p s day legs=([],(k:Int),8):=λk h=>by
  simp only [Xp,ha,hr,ne_eq,not_true_eq_false,if_false,Bool.true_eq_false,hm,h]
 have hF2:Wz l s legs 0=none->Xp l p s day legs=goS l p s day day legs 0 []:=λh=>by
  simp only [Xp,ha,hr,ne_eq,not_true_eq_false,if_false,Bool.true_eq_false,hm,h]
 simp only [Bool.and_eq_true,inR,decide_eq_true_eq] at hr;obtain ⟨hr1,hd⟩:=hr;refine Zfa (Xn 14 1 3 rfl rfl) (λq:Nat × Nat × Int × List Int=>[(54,I q.1),(14,.mr 3 q.2.1),(15,I q.2.2.1)]) (λq=>[(3,.row q.2.1 1 (q.2.2.2.map Zq) 3)])
  (λq=>q.1<=legs.length/\W1 l s legs q.1 q.2.2.1 q.2.2.2) (λq=>legs.length - q.1) (0,0,s,[]) ⟨Nat.zero_le _,W1.start (by omega)⟩ ?_ ?_
 . (refine Zj ?_ ?_ ?_ rfl rfl<;>dsimp only [Ze,Zh,Zn,Zi,Zq,id,go_sem]<;>simp [Ze,Zh,Zn,Zi,Zq,Za])
 rintro ⟨j,v,well,ends⟩ ⟨hj,hI⟩;simp only at hj hI;dsimp only [go_sem];by_cases hlt:j < legs.length
 . refine Zr (by simpa using hlt) ?_;dsimp only [go_sem];refine Zp j hlt rfl ?_;dsimp only [Zq,go_sem];refine call (ZzN l p legs[j] well hleg) ?_;dsimp only [go_sem];by_cases hn:Vh l legs[j] well < 0
   . refine Zr (by simpa using hn) ?_;dsimp only [go_sem];rw [hF1 j (hI.stop hlt hn)];simp [ZbD,XX]
   refine Zo (by simpa using hn) ?_;dsimp only [go_sem];simp only [nbr];dsimp only [go_sem];have hst:=hI.step hok hlt hn;refine ⟨(by intro c hc;simp only [List.mem_singleton] at hc;subst hc;rfl),by have:=hI.len;simp;omega,?_⟩;dsimp only [go_sem];rw [Zg (n:=(j:Int)+1) (by omega) (by omega)];have e:ends.map Zq ++ [[SV.v (.int .i64 (Vh l legs[j] well))]]=(ends ++ [Vh l legs[j] well]).map Zq:=by simp [Zq]
   rw [e];refine ⟨(j+1,v+1,Vh l legs[j] well,ends ++ [Vh l legs[j] well]),⟨hlt,hst⟩,by simp only;omega,?_⟩;(refine Zj ?_ ?_ ?_ rfl rfl<;>dsimp only [Ze,Zh,Zn,Zi,Zq,id,go_sem]<;>simp [Ze,Zh,Zn,Zi,Zq,Za])
 refine Zo (by simp;omega) ?_;dsimp only [go_sem];have hje:j=legs.length:=by omega
 subst hje;obtain ⟨hbad,hends⟩:=hI.done;subst hends;have hF:=hF2 hbad;have hlen:=Zd2 hbad;have h2:=W2.start (p:=p) hbad (by omega) hd;clear hI;refine Zfa (Xn 10 6 148 rfl rfl) (λq:Nat × Nat × Int × Int × Int × List Stop=>[(76,I q.1),(10,.mr 5 q.2.1)]) (λq=>[(5,.row q.2.1 6 (q.2.2.2.2.2.map ZZ) 148),(4,.cells [I q.2.2.2.1,I q.2.2.2.2.1] 141)])
  (λq=>q.1<=legs.length/\W2 l p s day legs q.1 q.2.2.1 q.2.2.2.1 q.2.2.2.2.1 q.2.2.2.2.2) (λq=>legs.length - q.1) (0,0,s,day,day,[]) ⟨Nat.zero_le _,h2⟩ ?_ ?_
 . (refine Zj ?_ ?_ ?_ rfl rfl<;>dsimp only [Ze,Zh,Zn,Zi,Zq,ZZ,id,go_sem]<;>simp [Ze,Zh,Zn,Zi,Zq,ZZ,Za])
 clear h2;rintro ⟨j,u,wl,a,b,acc⟩ ⟨hj,hI⟩;simp only at hj hI;dsimp only [go_sem];by_cases hlt:j < legs.length
 . refine Zr (by simpa using hlt) ?_;dsimp only [go_sem];refine Zp j hlt rfl ?_;dsimp only [Zq,go_sem];obtain ⟨k,hk,hlk,_,ho,hej⟩:=hI.at hlt;have hgl:GoodLeg l.legs[k]:=WB hok.land _ (List.getElem_mem _);have hda:=hI.da;have hdb:=hI.db;have q0:inR 0 100001 a=true:=by simp only [inR,decide_eq_true_eq];omega
   have q1:inR 0 100001 b=true:=by simp only [inR,decide_eq_true_eq];omega
   simp only [hlk];refine call (Wg l p k hk a b hgl hok.pace q0 q1) ?_;dsimp only [go_sem];refine call (Vp l p k hk a b hgl hok.pace q0 q1) ?_;dsimp only [go_sem];refine ixa 1 rfl (by decide) ?_;dsimp only [go_sem];by_cases hR:Z0 true l.legs[k] p b > 100000
   . refine Zr (by simpa using hR) ?_;dsimp only [go_sem];rw [hF,hI.stop hlt hk hlk hR];simp [ZbD,XX]
   refine Zo (by simpa using hR) ?_;dsimp only [go_sem];simp only [nbr];dsimp only [go_sem];have hjl:j < (Uc l s legs).length:=by omega
   simp only [List.length_map];refine Uu j rfl hjl ?_;dsimp only [go_sem];simp only [nbr];dsimp only [go_sem];refine ZgX hjl ?_;dsimp only [Zq,go_sem];have hej':(Uc l s legs)[j]=Zk l.legs[k] wl:=by rw [List.getElem?_eq_getElem hjl] at hej;exact Option.some.inj hej
   rw [hej'];refine call (Zc2 _ _) ?_;dsimp only [go_sem];refine call (Zc2 _ _) ?_;dsimp only [go_sem];simp only [nbr];dsimp only [go_sem];have hst:=hI.step hok hlt hk hlk hR ho;refine ⟨(by intro c hc;simp only [List.mem_singleton] at hc;subst hc;rfl),by have:=hI.len;simp;omega,?_⟩;dsimp only [go_sem];rw [Zg (n:=(j:Int)+1) (by omega) (by omega)];have e:acc.map ZZ ++ [[SV.v (.int .i64 (k:Int)),SV.v (.int .i64 (Zk l.legs[k] wl)),SV.v (.int .i64 (ZyI l.legs[k] p a)),SV.v (.int .i64 (ZvV l.legs[k] p b)),SV.v (.int .i64 (Z0 false l.legs[k] p a)),SV.v (.int .i64 (Z0 true l.legs[k] p b))]] =
    (acc ++ [(⟨(k:Int),Zk l.legs[k] wl,⟨leK false l.legs[k] p a,leK true l.legs[k] p b⟩,⟨Z0 false l.legs[k] p a,Z0 true l.legs[k] p b⟩⟩:Stop)]).map ZZ:=by simp [ZZ,leK]
   rw [e];refine ⟨(j+1,u+1,Zk l.legs[k] wl,Z0 false l.legs[k] p a,Z0 true l.legs[k] p b,_),⟨hlt,hst⟩,by simp only;omega,?_⟩;(refine Zj ?_ ?_ ?_ rfl rfl<;>dsimp only [Ze,Zh,Zn,Zi,Zq,ZZ,id,go_sem]<;>simp [Ze,Zh,Zn,Zi,Zq,ZZ,Za])
 refine Zo (by simp;omega) ?_;dsimp only [go_sem];have hje:j=legs.length:=by omega
 subst hje;simp only [nbr];dsimp only [go_sem];rw [hF,hI.done];simp [ZbD,XX,vwN]
end Go.Proofs.YtongccnhomncnaaGreat
namespace Go.Azalai
open Go.Sx
structure Scene where
 heat:Span
 grass:Span
 yields:List Span
 prices:List Int
deriving DecidableEq
structure Season where
 land:Land
 pace:Span
 breed:Breed
 camel:Camel
 herd:Int
 hours:Int
 slab:Int
 cost:Int
 sale:Int
 start:Int
 day:Int
 till:Int
 scenes:List Scene
deriving DecidableEq
structure Plan where
 legs:List Int
 animals:Int
 slabs:Int
deriving DecidableEq
def Zam (x:Scene):Bool:=decide (x.yields.length > 20) || decide (x.prices.length > 20)
def Up (s:Season):Bool:=Zbr s.land || decide (s.scenes.length > 8) || s.scenes.any Zam
structure SmallS (s:Season):Prop where
 land:WT s.land
 sc:s.scenes.length<=8
 each:∀ x ∈ s.scenes,x.yields.length<=20/\x.prices.length<=20
def Yz (n:Nat) (x:Scene):Bool :=
 ZX 0 60 x.heat && ZX 0 1000000 x.grass && decide (x.yields.length=n) && decide (x.prices.length=n) && x.yields.all (ZX 0 10000000) && x.prices.all (inR 0 1000000)
def UH (s:Season):Bool :=
 inR 1 30 s.herd && inR 1 24 s.hours && inR 1 1000000 s.slab && inR 0 1000000 s.cost && inR 0 1000000 s.sale && inR 0 s.till s.day && decide (s.till<=100000)
def ZB (s:Season):Bool :=
 Z1 s.land && Z6 s.pace && decide (Zav s.breed s.camel=0) && UH s && inR 0 (s.land.wells.length - 1) s.start && inR 1 4 s.scenes.length && s.scenes.all (Yz s.land.wells.length)
theorem ZrL {l:Land} (h:Zbr l=false):WT l:=by
 simp only [Zbr,Bool.or_eq_false_iff,decide_eq_false_iff_not,List.any_eq_false,decide_eq_true_eq] at h;exact ⟨by omega,by omega,λx hx=>by have:=h.2 x hx;omega⟩
theorem ZdJ {s:Season} (h:Up s=false):SmallS s:=by
 simp only [Up,Bool.or_eq_false_iff,decide_eq_false_iff_not,List.any_eq_false,Zam,Bool.or_eq_true,decide_eq_true_eq] at h;exact ⟨ZrL h.1.1,by omega,λx hx=>by have:=h.2 x hx;omega⟩
end Go.Azalai
namespace Go.Proofs.YtongccnhomncnaaGreat
open Go Go.Sx Go.Azalai
def Zl (x:Scene):List SV:=[I x.heat.lo,I x.heat.hi,I x.grass.lo,I x.grass.hi,.sl false 2 (x.yields.map Ze),.sl false 1 (x.prices.map Zq)]
def Zt (s:Season):List SV :=
 [.sl false 9 (s.land.wells.map Zh),.sl false 5 (s.land.legs.map Zn),I s.pace.lo,I s.pace.hi,
  I s.breed.full,I s.breed.fed,I s.breed.rest.lo,I s.breed.rest.hi,I s.breed.heat.lo,I s.breed.heat.hi,I s.breed.toil.lo,I s.breed.toil.hi,I s.breed.burn.lo,I s.breed.burn.hi,I s.breed.rub.lo,I s.breed.rub.hi,I s.breed.milk.lo,I s.breed.milk.hi,I s.breed.heal,I s.breed.strong.lo,I s.breed.strong.hi,
  I s.camel.water.lo,I s.camel.water.hi,I s.camel.fat.lo,I s.camel.fat.hi,I s.camel.sore.lo,I s.camel.sore.hi,B s.camel.milks,
  I s.herd,I s.hours,I s.slab,I s.cost,I s.sale,I s.start,I s.day,I s.till,.sl false 6 (s.scenes.map Zl)]
def ZL (p:Plan):List SV:=[.sl false 1 (p.legs.map Zq),I p.animals,I p.slabs]
theorem XR (n lo hi:Int):Ct Tryz.prog 43 [I n,I lo,I hi] (B (inR lo hi n)):=by
 refine t43.1 (by simp) (by simp) ?_;dsimp only [c43,r43,go_sem];repeat (refine gb ?_;dsimp only [go_sem])
 (simp only [inR,Option.some.injEq,SV.v.injEq,Value.bool.injEq]<;>grind)
theorem V9 (s:Span) (lo hi:Int):Ct Tryz.prog 79 [.agg (Ze s),I lo,I hi] (B (ZX lo hi s)):=by
 refine t79.1 (by simp [Ze]) (by simp) ?_;dsimp only [c79,r79,Ze,go_sem];refine call (XR _ _ _) ?_;dsimp only [go_sem];repeat (refine gb ?_;dsimp only [go_sem])
 (simp only [ZX,inR,Option.some.injEq,SV.v.injEq,Value.bool.injEq]<;>grind)
theorem Zk4 (lo hi x:Int):Ct Tryz.prog 85 [I x,.ps [I lo] 0,.ps [I hi] 0] (B (!inR lo hi x)):=by
 refine t85.1 (by simp) (by simp) ?_;dsimp only [c85,r85,go_sem];repeat (refine gb ?_;dsimp only [go_sem])
 (simp only [inR,Option.some.injEq,SV.v.injEq,Value.bool.injEq]<;>grind)
theorem ZaZ (lo hi:Int) (l:List Int) (hl:l.length < 4611686018427387904) (c:Bool):Ct Tryz.prog 46 [I lo,I hi,.sl c 1 (l.map Zq)] (B (l.all (inR lo hi))):=by
 refine t46.1 (by simp [Za,Zq]) (by simp) ?_;dsimp only [c46,r46,go_sem];refine Vi (by simp [FLT]) (res:=B (l.any λx=>!inR lo hi x)) ?_ ?_
 . dsimp only [go_sem];exact Zpw 85 [.ps [I lo] 0,.ps [I hi] 0] (by simp) (λx=>!inR lo hi x) l (λx _=>Zk4 lo hi x) hl
 . dsimp only [go_sem];simp [List.all_eq_not_any_not]
theorem ZkV (lo hi a:Int) (c:Bool):Ct Tryz.prog 46 [I lo,I hi,.sl c 1 [[I a]]] (B (inR lo hi a)):=by
 have:=ZaZ lo hi [a] (by simp) c;simpa [Zq] using this
theorem Zti (lo hi a b:Int) (c:Bool):Ct Tryz.prog 46 [I lo,I hi,.sl c 1 [[I a],[I b]]] (B (inR lo hi a && inR lo hi b)):=by
 have:=ZaZ lo hi [a,b] (by simp) c;simpa [Zq] using this
theorem ZeD (lo hi:Int) (s:Span):Ct Tryz.prog 91 [.agg (Ze s),.ps [I lo] 0,.ps [I hi] 0] (B (!ZX lo hi s)):=by
 refine t91.1 (by simp [Ze]) (by simp) ?_;dsimp only [c91,r91,Ze,go_sem];repeat (first | (refine gb ?_;dsimp only [go_sem]) | (refine call (Zti _ _ _ _ _) ?_;dsimp only [go_sem]))
 (simp only [ZX,inR,Option.some.injEq,SV.v.injEq,Value.bool.injEq]<;>grind)
theorem Zao (lo hi:Int) (l:List Span) (hl:l.length < 4611686018427387904) (c:Bool):Ct Tryz.prog 55 [I lo,I hi,.sl c 2 (l.map Ze)] (B (l.all (ZX lo hi))):=by
 refine t55.1 (by simp [Za,Ze]) (by simp) ?_;dsimp only [c55,r55,go_sem];refine Vi (by simp [FLT]) (res:=B (l.any λx=>!ZX lo hi x)) ?_ ?_
 . dsimp only [go_sem];exact ZgD 91 [.ps [I lo] 0,.ps [I hi] 0] (by simp) (λx=>!ZX lo hi x) l (λx _=>ZeD lo hi x) hl
 . dsimp only [go_sem];simp [List.all_eq_not_any_not]
theorem Zec (lo hi:Int) (s:Span) (c:Bool):Ct Tryz.prog 55 [I lo,I hi,.sl c 2 [[I s.lo,I s.hi]]] (B (ZX lo hi s)):=by
 have:=Zao lo hi [s] (by simp) c;simpa [Ze] using this
theorem Zjv (s:Season):Ct Tryz.prog 13 [.agg (Zt s)] (B (Up s)):=by
 refine t13.1 (by simp [Zt,Zl,Zh,Zn,Zi,Ze,Zq,Za]) (by simp) ?_;dsimp only [c13,r13,Zt,go_sem];refine call (Zo2 s.land) ?_;dsimp only [go_sem];repeat (refine gb ?_;dsimp only [go_sem])
 simp only [List.length_map];refine br ?_ ?_
 . intro h;dsimp only [go_sem]
   (simp only [Up,Option.some.injEq,SV.v.injEq,Value.bool.injEq]<;>grind)
 intro h;dsimp only [go_sem];have hg:Up s=s.scenes.any Zam:=by simp only [Up];grind
 have hlen:s.scenes.length<=8:=by grind
 rw [hg];refine YF (λk:Nat=>[(3,I k)]) (λ_=>[]) (λk=>k<=s.scenes.length/\(s.scenes.drop k).any Zam=s.scenes.any Zam) (λk=>s.scenes.length - k) 0 ⟨Nat.zero_le _,rfl⟩ ?_ ?_
 . (refine Zj ?_ ?_ ?_ rfl rfl<;>dsimp only [Zi,Zh,Zn,Zl,Ze,Zq,id,go_sem]<;>simp [Zi,Zh,Zn,Zl,Ze,Zq,Za])
 intro k ⟨hk,hi⟩;dsimp only [go_sem];simp only [List.length_map];by_cases hlt:k < s.scenes.length
 . refine Zr (by simpa using hlt) ?_;dsimp only [go_sem];refine Zp k hlt rfl ?_;dsimp only [Zl,go_sem];repeat (first | (refine gb ?_;dsimp only [go_sem]) | (refine Zp k hlt rfl ?_;dsimp only [Zl,go_sem]))
   simp only [List.length_map];rw [List.drop_eq_getElem_cons hlt,List.any_cons] at hi;refine br ?_ ?_
   . intro hb;dsimp only [go_sem];rw [<- hi];simp only [Zam];grind
   . intro hb;dsimp only [go_sem];rw [Zg (n:=(k:Int)+1) (by omega) (by omega)];have:Zam s.scenes[k]=false:=by simp only [Zam];grind
     rw [this,Bool.false_or] at hi;refine ⟨k+1,⟨hlt,hi⟩,by omega,?_⟩;(refine Zj ?_ ?_ ?_ rfl rfl<;>dsimp only [Zi,Zh,Zn,Zl,Ze,Zq,id,go_sem]<;>simp [Zi,Zh,Zn,Zl,Ze,Zq,Za])
 refine Zo (by simp;omega) ?_;dsimp only [go_sem];rw [<- hi,List.drop_eq_nil_of_le (by omega)];rfl
end Go.Proofs.YtongccnhomncnaaGreat
namespace Go.Sx
open Go Go.RowKit
theorem Ct.res {P:Program} {f:FuncId} {args:List SV} {res res0:SV} (h:Ct P f args res) (kr:KF res0) (hw:Zcy res res0):Ct P f args res0 :=
 ⟨h.1,h.2,kr,λw ok vs hG hR=>Calls.mono (h.4 w ok vs hG hR) λe w' q=>by
  obtain ⟨y,h1,h2,h3⟩:=q
  exact ⟨y,h1,hw _ _ _ _ _ h2,h3⟩⟩
theorem Wd {l:List SV}:∀ (w:World) (E:Env) (n ok:Nat->Prop) (ys:List Value),RL w E n ok l ys->RL w E n ok l ys:=λ_ _ _ _ _ h=>h
def ZaA (fr:List (Nat × SV)):List Nat->List (Nat × SV)
 | []=>[]
 | t :: ts=>(t,lk t fr) :: ZaA fr ts
theorem Zjq (fr:List (Nat × SV)):ZaA fr []=[]:=rfl
theorem Zhn (fr:List (Nat × SV)) (t:Nat) (ts:List Nat):ZaA fr (t :: ts)=(t,lk t fr) :: ZaA fr ts:=rfl
attribute [go_sem] Zjq Zhn
theorem ZdL (fr:List (Nat × SV)):∀ ts,ZyP (ZaA fr ts) fr
 | []=>trivial
 | _ :: ts=>⟨rfl,ZdL fr ts⟩
theorem ZaW {m:Nat} {σ : St} (ts:List Nat) (hg:ZyQ (ZaA σ.fr ts)=true):Ent m σ ⟨ZaA σ.fr ts,σ.hp,σ.n,σ.N,[]⟩:=by
 intro C E a w _ h;refine ⟨E,λt=>?_,h.sz,h.df,λt j b s ht=>absurd ht (Ze4 hg t j b s),h.hs⟩;have hfr:=h.fr t;rcases Zkq (ZdL σ.fr ts) t with h1 | h1
 . rw [h1];exact trivial
 . rw [h1];have:=Ze4 hg t;rw [h1] at this;cases hq:lk t σ.fr<;>rw [hq] at hfr this<;>first | exact hfr | exact absurd rfl (this _ _ _)
theorem UD {m:Nat} {f:CT} {σ : St} {K:Ex->St->Prop} {S:Type} (ts:List Nat) (hg:ZyQ (ZaA σ.fr ts)=true) (ov:S->List (Nat × SV)) (hv:S->List (Nat × HB)) (rel:S->Prop) (μ : S->Nat) (s0:S) (h0:rel s0)
 (he:Ent m ⟨ZaA σ.fr ts,σ.hp,σ.n,σ.N,[]⟩ (stO ⟨ZaA σ.fr ts,σ.hp,σ.n,σ.N,[]⟩ ov hv s0))
 (hb:∀ s,rel s->f (stO ⟨ZaA σ.fr ts,σ.hp,σ.n,σ.N,[]⟩ ov hv s) (ZoF m (stO ⟨ZaA σ.fr ts,σ.hp,σ.n,σ.N,[]⟩ ov hv) rel μ s K)):ZtZ m f σ K :=
 Zfa (ZaW ts hg) ov hv rel μ s0 h0 he hb
end Go.Sx
