/- Walks and plain laws that lead to the given statement, part 2 of 10. -/
import Derived.Test.YtongccnhomncnaaGreatQA
set_option linter.all false
open Nat renaming beq_refl->nbr
namespace Go.Sx
open Go Go.RowKit
theorem WW {o:Option SV} {d:Option Nat} {g:Option (Nat × Bool)} {σ : St} {r:KT} {K:RK} (h:Wv o d g σ r K):∃ s,o=some s/\Yq d s g σ r K:=by
 cases o with
 | none=>exact absurd h (by simp [Wv])
 | some s=>exact ⟨s,rfl,h⟩
section
variable {P:Program} {σ : St} {g:Option (Nat × Bool)} {d:Option Nat} {r:KT} {K:RK}
def Ztq (P:Program) (o:Oper) (i:SI) (g:Option (Nat × Bool)) (σ : St) (s:SV):Prop :=
 ∀ C E n a w,HSim C E σ.hp n w->(∀ p ∈ opG g i,geP p.1 σ.fr->R w E n (okS C E σ.hp) (rdG p.1 σ.fr p.2) (evX a p.2))->geP g σ.fr->Yld P o a w (ZO C E σ.hp n w s)
theorem Zl2 {o:Oper} {i:SI} {s:SV} (hc:ZM P i o.op=true) (hs:pv (rdG g σ.fr) i=some s):Ztq P o i g σ s:=by
 intro C E n a w hh hρ hg;have hi:opG g i=(opX i).map λx=>(g,x):=by
  cases i<;>first | rfl | (simp [pv] at hs;done)
 have hρ':∀ x ∈ opX i,R w E n (okS C E σ.hp) (rdG g σ.fr x) (evX a x):=λx hx=>hρ (g,x) (by rw [hi];exact List.mem_map.2 ⟨x,hx,rfl⟩) hg;obtain ⟨y,h1,h2⟩:=ZzQ hρ' hc hs;exact ZK h1 (ZS h2)
theorem Wo {t b off len cap m n:Nat} {k:IntKind} {w:World} (h:(match P.underlying t with | some (.slice e)=>XT P e == some m | _=>false)=true) (hn:n < len) :
 (Instr.indexAt t (.slice (some ⟨b,off,none⟩) len cap) (.int k n)).run P w = .ok (.pointer (some ⟨b,off+n * m,none⟩)) w:=by
 split at h
 . rename_i e hu;simp at h;simp [Instr.indexAt,asIntOf,run_underlying hu,hn,Z4 h,YT]
 . cases h
theorem X6 {t b off len m n:Nat} {k:IntKind} {w:World} (h:(match P.underlying t with | some (.array len' e)=>len' == len && XT P e == some m | _=>false)=true) (hn:n < len) :
 (Instr.indexAt t (.pointer (some ⟨b,off,none⟩)) (.int k n)).run P w = .ok (.pointer (some ⟨b,off+n * m,none⟩)) w:=by
 split at h
 . rename_i len' e hu;simp at h;obtain ⟨rfl,h⟩:=h;simp [Instr.indexAt,asIntOf,run_underlying hu,hn,Z4 h,YT,Instr.sureAddr]
 . cases h
theorem ZtC {w:World} {E:Env} {n:Nat->Prop} {ok:Nat->Prop} {b m:Nat}:∀ {xs:List (List SV)} {off i:Nat} {row:List SV},RR w E n ok b m xs off->xs[i]? = some row ->
 ∃ cs,RL w E n ok row cs/\Uf w ok b (off+i * m) cs
 | [],_,i,row,_,h=>by simp at h
 | r0 :: xs,off,0,row,h,hi=>by
  simp only [RR] at h;simp at hi;subst hi;obtain ⟨_,⟨cs,h1,h2⟩,_⟩:=h;exact ⟨cs,h1,by simpa using h2⟩
 | r0 :: xs,off,i+1,row,h,hi=>by
  simp only [RR] at h;obtain ⟨cs,h1,h2⟩:=ZtC h.2.2 (by simpa using hi);exact ⟨cs,h1,by rw [show off+(i+1) * m=off+m+i * m from by rw [Nat.add_mul];omega];exact h2⟩
theorem WM {w:World} {E:Env} {n:Nat->Prop} {ok:Nat->Prop} {b off o m t:Nat} {ag:Bool} {l:List SV} {cs:List Value} {s:SV} (hl:RL w E n ok l cs)
 (hc:∀ j c,cs[j]? = some c->w.cell? ⟨b,off+j,none⟩=some c) (ha:Zcl P t=some ag) (hs:XT P t=some m) (hp:Wa l o m ag=some s) :
 ∃ y,(loadVar t ⟨b,off+o,none⟩).run P w = .ok y w/\R w E n ok s y:=by
 cases ag
 . simp only [Wa,ZgF] at hp;obtain ⟨y,h1,h2⟩:=Vs hl hp;exact ⟨y,ZbB ha (hc _ _ h1),h2⟩
 . simp only [Wa] at hp;cases hb:Nat.ble (o+m) l.length
   . simp [hb] at hp
   . simp only [hb,cond_true,Option.some.injEq] at hp;subst hp;have hlen:=ZC hl;have hle:o+m<=l.length:=Nat.le_of_ble_eq_true hb;have hR:=X2 m (W4 o hl);refine ⟨.agg ((cs.drop o).take m).toArray,ZbQ ha hs (by simp;omega) (λj c hj=>?_),by simp only [R];exact ⟨_,rfl,by simpa using hR⟩⟩;have hj':j < m:=by have:=(List.getElem?_eq_some_iff.1 hj).1;simp at this;omega
     rw [List.getElem?_take_of_lt hj',List.getElem?_drop] at hj;rw [show off+o+j=off+(o+j) from by omega];exact hc _ _ hj
theorem Zqd {f:FuncId} {xs:List X} {op:Op} (h:ZM P (.call f xs) op=true):∃ as ts,op = .call ⟨.value (.func f),as,ts⟩/\Vl xs as.toList=true:=by
 cases op<;>simp [ZM] at h
 rename_i c;obtain ⟨callee,as,ts⟩:=c;cases callee<;>try (simp at h;done)
 rename_i x;cases x<;>simp at h
 obtain ⟨rfl,h⟩:=h;exact ⟨as,ts,rfl,h⟩
theorem ZoG {x:X} {xs:List X} {op:Op} (h:ZM P (.calv x xs) op=true):∃ y as ts,op = .call ⟨.value y,as,ts⟩/\YV x y=true/\Vl xs as.toList=true:=by
 cases op<;>simp [ZM] at h
 rename_i c;obtain ⟨callee,as,ts⟩:=c;cases callee<;>try (simp at h;done)
 simp at h;exact ⟨_,as,ts,rfl,h⟩
theorem ZiP {f:FuncId} {xs:List X} {op:Op} (h:ZM P (.callm f xs) op=true):∃ as ts,op = .call ⟨.value (.func f),as,ts⟩/\Vl xs as.toList=true:=by
 cases op<;>simp [ZM] at h
 rename_i c;obtain ⟨callee,as,ts⟩:=c;cases callee<;>try (simp at h;done)
 rename_i x;cases x<;>simp at h
 obtain ⟨rfl,h⟩:=h;exact ⟨as,ts,rfl,h⟩
theorem Zj2 {x:X} {xs:List X} {op:Op} (h:ZM P (.calvm x xs) op=true):∃ y as ts,op = .call ⟨.value y,as,ts⟩/\YV x y=true/\Vl xs as.toList=true:=by
 cases op<;>simp [ZM] at h
 rename_i c;obtain ⟨callee,as,ts⟩:=c;cases callee<;>try (simp at h;done)
 simp at h;exact ⟨_,as,ts,rfl,h⟩
theorem Ze7 {x:X} {op:Op} (h:ZM P (.len x) op=true):∃ as ts y t e,op = .call ⟨.builtin .len,as,ts⟩/\as.toList=[y]/\ts[0]? = some t/\YV x y=true/\P.underlying t=some (.slice e):=by
 cases op<;>simp [ZM] at h
 rename_i c;obtain ⟨callee,as,ts⟩:=c;cases callee<;>try (simp at h;done)
 rename_i b;cases b<;>try (simp at h;done)
 simp only at h;split at h
 . rename_i y t e1 e2;simp only [Bool.and_eq_true] at h;obtain ⟨hx,hu⟩:=h;split at hu
   . rename_i e hu';exact ⟨as,ts,y,t,e,rfl,e1,e2,hx,hu'⟩
   . cases hu
 . cases h
theorem Zdd {w:World} {E:Env} {n:Nat->Prop} {ok:Nat->Prop} {m:Nat}:∀ {xs:List (List SV)} {i:Nat} {row:List SV} {L:List Value},xs[i]? = some row->(∀ r ∈ xs,r.length=m)->RL w E n ok xs.flatten (L.take (xs.length * m)) ->
 ∃ cs,RL w E n ok row cs/\∀ j c,cs[j]? = some c->L[i * m+j]? = some c
 | [],i,row,L,h,_,_=>by simp at h
 | r0 :: xs,i,row,L,h,hm,hR=>by
  have hr0:r0.length=m:=hm r0 (by simp);simp only [List.flatten_cons,List.length_cons] at hR;cases i with
  | zero =>
   simp at h;subst h;have h1:=X2 r0.length hR;rw [List.take_left' rfl,List.take_take,show min r0.length ((xs.length+1) * m)=m from by rw [hr0,Nat.add_mul];omega] at h1;refine ⟨_,h1,λj c hj=>?_⟩;have hj':j < m:=by have:=(List.getElem?_eq_some_iff.1 hj).1;simp at this;omega
   rw [List.getElem?_take_of_lt hj'] at hj;simpa using hj
  | succ i =>
   have h1:=W4 r0.length hR;rw [List.drop_left' rfl,List.drop_take,hr0,show (xs.length+1) * m - m=xs.length * m from by rw [Nat.add_mul];omega] at h1;obtain ⟨cs,q1,q2⟩:=Zdd (i:=i) (by simpa using h) (λr hr=>hm r (by simp [hr])) h1;refine ⟨cs,q1,λj c hj=>?_⟩;have:=q2 j c hj;rw [List.getElem?_drop] at this;rw [show (i+1) * m+j=m+(i * m+j) from by rw [Nat.add_mul];omega];exact this
theorem Zad {E:Env} {n ok:Nat->Prop} {w:World} {k v m:Nat} {xs:List (List SV)} {T:TypeId} (h:Ya w E n ok k (.row v m xs T)):∃ cs,UB w (E.hv k v) m xs.length cs/\RL w E n ok xs.flatten cs/\∀ r ∈ xs,r.length=m:=by
 simp only [Ya] at h;rcases h with ⟨_,⟨rfl,a0,h⟩ | ⟨b,cap,cs,h1,h2,h3,⟨h4,_⟩,h5,h6,h7⟩⟩
 . exact ⟨[],by rw [h];exact ⟨a0,0,rfl,Nat.le_refl _,by simp,.inl rfl⟩,by simp [RL],λr h=>by simp at h⟩
 . refine ⟨_,⟨_,cap,h1,h4,?_,.inr ⟨b,0,rfl,λj c hj=>?_⟩⟩,h7,h6⟩
   . have:=Nat.mul_le_mul_right m h4;simp only [List.length_take,Array.length_toList,h3];exact Nat.min_eq_left this
   . rw [Nat.zero_add,cell_of_row _ _ _ _ _ _ h2];have hj':j < xs.length * m:=by have:=(List.getElem?_eq_some_iff.1 hj).1;simp at this;omega
     rw [List.getElem?_take_of_lt hj'] at hj;simpa using hj
theorem VB {xs ys:List (List SV)} {b:Bool} (h:Zhx xs b=some ys):b=true/\xs=ys:=by cases b<;>simp [Zhx] at h;exact ⟨rfl,h⟩
theorem Ze2 {E:Env} {n ok:Nat->Prop} {w:World} {c:Bool} {m:Nat} {xs:List (List SV)} {y:Value} (h:R w E n ok (.sl c m xs) y):∀ r ∈ xs,r.length=m:=by
 simp only [R] at h;obtain ⟨_,_,_,_,_,_,_,h | ⟨b,off,_,h⟩⟩:=h
 . subst h;intro r h;simp at h
 . exact Zk7 xs off h
theorem Zix {C:Cx} {E:Env} {hp:List (Nat × HB)} {n:Nat->Prop} {w:World} {m:Nat} {s:SV} {y:Value} {ys:List (List SV)} (hh:HSim C E hp n w) (hR:R w E n (okS C E hp) s y) (h:ZvX m hp s=some ys) :
 ∃ cs,UB w y m ys.length cs/\RL w E n (okS C E hp) ys.flatten cs/\∀ r ∈ ys,r.length=m:=by
 unfold ZvX at h;split at h
 . rename_i m' xs;obtain ⟨hb,rfl⟩:=VB h;have:=Nat.eq_of_beq_eq_true hb;subst this;obtain ⟨cs,h1,h2,_⟩:=ZcW hR;exact ⟨cs,h1,h2,Ze2 hR⟩
 . simp at h;subst h;simp only [R] at hR;subst hR;exact ⟨[],ZbF,by simp [RL],λr h=>by simp at h⟩
 . rename_i k v;simp only [R] at hR;cases hk:lkh k hp<;>rw [hk] at h<;>simp only [ZiI] at h<;>try (cases h;done)
   obtain ⟨hb,rfl⟩:=VB h;obtain ⟨hb,hv⟩:=Yi hb;have:=Nat.eq_of_beq_eq_true hb;subst this;have:=Nat.eq_of_beq_eq_true hv;subst this;have hb:=hh.bk k;rw [hk] at hb;rw [hR.2.2.1];exact Zad hb
 . cases h
theorem Zaf {E:Env} {n ok:Nat->Prop} {w:World} {m:Nat} {s:SV} {y:Value} {xs:List (List SV)} (hR:R w E n ok s y) (h:Zh4 m s=some xs) :
 ∃ cs,UB w y m xs.length cs/\RL w E n ok xs.flatten cs/\(∀ r ∈ xs,r.length=m)/\∃ a,y = .slice a xs.length xs.length:=by
 unfold Zh4 at h;split at h
 . rename_i m' xs;obtain ⟨hb,rfl⟩:=VB h;have:=Nat.eq_of_beq_eq_true hb;subst this;obtain ⟨cs,h1,h2,h3⟩:=ZcW hR;exact ⟨cs,h1,h2,Ze2 hR,h3 rfl⟩
 . simp at h;subst h;simp only [R] at hR;subst hR;exact ⟨[],ZbF,by simp [RL],(λr h=>by simp at h),none,rfl⟩
 . cases h
theorem ZAy {E:Env} {n ok:Nat->Prop} {w:World} {m:Nat} {s:SV} {y:Value} {xs:List (List SV)} (hR:R w E n ok s y) (h:Zh4 m s=some xs) :
 ∃ a len cap,y = .slice a len cap/\len=xs.length/\(len<=cap/\(false=true->cap=len))/\xs.length<=9223372036854775807/\(xs=[]\/∃ b off,a=some ⟨b,off,none⟩/\RR w E n ok b m xs off):=by
 unfold Zh4 at h;split at h
 . rename_i m' xs;obtain ⟨hb,rfl⟩:=VB h;have:=Nat.eq_of_beq_eq_true hb;subst this;simp only [R] at hR;obtain ⟨a,len,cap,q1,q2,⟨q3,_⟩,q4⟩:=hR;exact ⟨a,len,cap,q1,q2,⟨q3,λh=>by cases h⟩,q4⟩
 . simp at h;subst h;simp only [R] at hR;subst hR;exact ⟨none,0,0,rfl,rfl,⟨Nat.le_refl _,λh=>by cases h⟩,by simp,.inl rfl⟩
 . cases h
theorem Xt {P:Program} {t e:TypeId} {w:World} (x:Value) (lo hi mx:Option Value) (h:P.underlying t=some (.slice e)) :
 (Instr.sliceAt t x lo hi mx).run P w=(Instr.slice t x lo hi mx).run P w:=by
 simp [Instr.sliceAt,run_underlying h]
theorem ZjC {w:World} {E:Env} {n ok:Nat->Prop} {b m:Nat}:∀ {xs:List (List SV)} {off:Nat} (j:Nat),RR w E n ok b m xs off->RR w E n ok b m (xs.take j) off
 | [],_,j,_=>by simp [RR]
 | x :: xs,off,0,_=>by simp [RR]
 | x :: xs,off,j+1,h=>by simp only [List.take_succ_cons,RR] at *;exact ⟨h.1,h.2.1,ZjC j h.2.2⟩
theorem Zly {w:World} {E:Env} {n ok:Nat->Prop} {b m:Nat}:∀ {xs:List (List SV)} {off:Nat} (i:Nat),RR w E n ok b m xs off->RR w E n ok b m (xs.drop i) (off+i * m)
 | [],off,i,_=>by simp [RR]
 | x :: xs,off,0,h=>by simpa using h
 | x :: xs,off,i+1,h=>by
  simp only [RR] at h;have:=Zly i h.2.2;rw [List.drop_succ_cons,show off+(i+1) * m=off+m+i * m from by rw [Nat.add_mul];omega];exact this
theorem ZAp {w:World} {E:Env} {n ok:Nat->Prop} {b m:Nat} {xs:List (List SV)} {off:Nat} (h:RR w E n ok b m xs off) (i j:Nat):RR w E n ok b m ((xs.take j).drop i) (off+i * m):=Zly i (ZjC j h)
theorem ZuG {P:Program} {o:Oper} {ρ : X->SV} {m i j len cap:Nat} {ad:Option Addr} {x:X} {lo hi:Option X} {a:Act} {w:World} {E:Env} {n ok:Nat->Prop} (hc:ZM P (.sub m x lo hi) o.op=true) (q0:evX a x = .slice ad len cap) (q1:len<=cap) (e3:i<=j) (e4:j<=len)
 (hli:ZcB 0 ρ lo=some (i:Int)) (hhj:ZcB len ρ hi=some (j:Int)) (hρ : ∀ x ∈ lo.toList ++ hi.toList,R w E n ok (ρ x) (evX a x)) :
 (execOp a.eval o).run P w = .ok (.value (.slice (if cap - i=0 then ad else ad.map (·.add (i * m))) (j - i) (cap - i))) w:=by
 obtain ⟨dst,op,ty,pos,after,guard⟩:=o;cases op<;>simp [ZM] at hc
 rename_i t y lo' hi' mx;cases mx<;>simp [ZM] at hc
 obtain ⟨⟨⟨c1,c2⟩,c3⟩,c4⟩:=hc;split at c4
 case h_2=>cases c4
 rename_i e hu;simp only [beq_iff_eq] at c4;have hsz:=Z4 (w:=w) c4;have hlo:∃ v,(lo'.map a.eval)=v/\((v=none/\i=0)\/∃ k,v=some (.int k i)):=by
  cases lo with
  | none=>cases lo' with
   | none=>simp only [ZcB,Option.some.injEq] at hli;exact ⟨none,rfl,.inl ⟨rfl,by omega⟩⟩
   | some _=>simp [Um] at c2
  | some xl=>cases lo' with
   | none=>simp [Um] at c2
   | some ol =>
    simp only [Um] at c2;have hRl:=hρ xl (by simp);simp only [ZcB] at hli;split at hli
    . rename_i k0 n0 hq;simp only [Option.some.injEq] at hli;subst hli;rw [hq] at hRl;simp only [R] at hRl;exact ⟨_,rfl,.inr ⟨k0,by simp only [Option.map_some,Zf c2 a,hRl]⟩⟩
    . cases hli
 have hhi:∃ v,(hi'.map a.eval)=v/\((v=none/\j=len)\/∃ k,v=some (.int k j)):=by
  cases hi with
  | none=>cases hi' with
   | none=>simp only [ZcB,Option.some.injEq] at hhj;exact ⟨none,rfl,.inl ⟨rfl,by omega⟩⟩
   | some _=>simp [Um] at c3
  | some xl=>cases hi' with
   | none=>simp [Um] at c3
   | some ol =>
    simp only [Um] at c3;have hRl:=hρ xl (by simp);simp only [ZcB] at hhj;split at hhj
    . rename_i k0 n0 hq;simp only [Option.some.injEq] at hhj;subst hhj;rw [hq] at hRl;simp only [R] at hRl;exact ⟨_,rfl,.inr ⟨k0,by simp only [Option.map_some,Zf c3 a,hRl]⟩⟩
    . cases hhj
 obtain ⟨vl,el,hl⟩:=hlo;obtain ⟨vh,eh,hh'⟩:=hhi;have hb:(Instr.sliceBounds true len cap vl vh none).run P w = .ok (i,j,cap) w:=by
  have b1:(0:Int)<=i/\(i:Int)<=(j:Int):=by omega
  have b2:(0:Int)<=j/\(j:Int)<=(cap:Int):=by omega
  rcases hh' with ⟨rfl,rfl⟩ | ⟨k,rfl⟩<;>rcases hl with ⟨rfl,rfl⟩ | ⟨k',rfl⟩
  . simp [Instr.sliceBounds]
  . simp only [Instr.sliceBounds,Instr.sliceBound,Sem.run_bind,asIntOf,Sem.run_pure,Result.andThen_ok];rw [if_pos b1];simp
  . simp only [Instr.sliceBounds,Instr.sliceBound,Sem.run_bind,asIntOf,Sem.run_pure,Result.andThen_ok];rw [if_pos b2];simp
  . simp only [Instr.sliceBounds,Instr.sliceBound,Sem.run_bind,asIntOf,Sem.run_pure,Result.andThen_ok];rw [if_pos b2];simp only [Sem.run_pure,Result.andThen_ok,Int.toNat_natCast];rw [if_pos b1];simp
 simp only [execOp,Zf c1 a,q0,el,eh,Option.map_none];rw [Sem.run_bind,Xt _ _ _ _ hu];have hrun:(Instr.slice t (.slice ad len cap) vl vh none).run P w = .ok (.slice (if cap - i=0 then ad else ad.map (·.add (i * m))) (j - i) (cap - i)) w:=by
  have hcc:(if cap=i then ad else ad.map (·.add (i * m)))=(if cap - i=0 then ad else ad.map (·.add (i * m))):=by
   by_cases hq:cap=i
   . rw [if_pos hq,if_pos (by omega)]
   . rw [if_neg hq,if_neg (by omega)]
  simp only [Instr.slice,Sem.run_bind,run_underlying hu,Result.andThen_ok,hb,hsz,Sem.run_pure,hcc]
 rw [hrun];rfl
theorem XW {o:Oper} {i:SI} (hc:ZM P i o.op=true) (h:Yl P g d i σ r K):∃ s,Yq d s g σ r K/\Ztq P o i g σ s:=by
 have dflt:Wv (pv (rdG g σ.fr) i) d g σ r K->∃ s,Yq d s g σ r K/\Ztq P o i g σ s:=λh=>by
  obtain ⟨s,h1,h2⟩:=WW h;exact ⟨s,h2,Zl2 hc h1⟩
 have dfl2:∀ s,pv (rdG g σ.fr) i=some s->Yq d s g σ r K->∃ s,Yq d s g σ r K/\Ztq P o i g σ s:=λs h1 h2=>⟨s,h2,Zl2 hc h1⟩;cases i<;>try (first | exact dflt h | exact dfl2 _ rfl h | exact False.elim h)
 case call f as =>
  obtain ⟨res,h1,h2⟩:=h;rw [Zx,Zx] at h1;refine ⟨res,h2,λC E n a w hh hρ hg=>?_⟩;have hR:RL w E n (okS C E σ.hp) (UT (rdG g σ.fr) as) (as.map (evX a)):=U0 as λx hx=>hρ (g,x) (by simp only [opG,opX];exact List.mem_map.2 ⟨x,hx,rfl⟩) hg;obtain ⟨as',ts,e1,e2⟩:=Zqd hc;have he:as'.map a.eval=(as.map (evX a)).toArray:=by apply Array.toList_inj.1;simp [YG e2 a]
  have hrun:Yn P f=true->(execOp a.eval o).run P w = .ok (.enter f (as.map (evX a)).toArray) w:=λhbd=>by
   simp [execOp,e1,resolve,Act.eval,Deferred.ofValue,invoke,he,Y2 hbd]
  rcases h1 with h1 | ⟨hf,h1⟩
  . exact Zs0 (f:=f) hh (hrun (h1 hg).bd) hR (h1 hg)
  . exact Zmm (f:=f) hh (hrun (h1 hg).bd) hR hf (h1 hg)
 case calv x as =>
  simp only [Yl,Znt] at h;split at h
  . rename_i f caps hx;obtain ⟨res,h1,h2⟩:=h;rw [Zx,Zx] at h1;refine ⟨res,h2,λC E n a w hh hρ hg=>?_⟩;have hR:RL w E n (okS C E σ.hp) (UT (rdG g σ.fr) as) (as.map (evX a)):=U0 as λy hy=>hρ (g,y) (by simp only [opG,opX];exact List.mem_map.2 ⟨y,by simp [hy],rfl⟩) hg;have hRx:=hρ (g,x) (by simp only [opG,opX];exact List.mem_map.2 ⟨x,by simp,rfl⟩) hg;simp only [hx,R] at hRx;obtain ⟨cs,k1,k2⟩:=hRx
    obtain ⟨y,as',ts,e1,e2,e3⟩:=ZoG hc;have he:as'.map a.eval=(as.map (evX a)).toArray:=by apply Array.toList_inj.1;simp [YG e3 a]
    have he2:(as.map (evX a)).toArray ++ cs=(as.map (evX a) ++ cs.toList).toArray:=by apply Array.toList_inj.1;simp
    have hrun:Yn P f=true->(execOp a.eval o).run P w = .ok (.enter f (as.map (evX a) ++ cs.toList).toArray) w:=λhbd=>by
     simp [execOp,e1,resolve,Zf e2 a,k1,Deferred.ofValue,invoke,he,he2,Y2 hbd]
    rcases h1 with h1 | ⟨hf,h1⟩
    . exact Zs0 (f:=f) hh (hrun (h1 hg).bd) (Z7 hR k2) (h1 hg)
    . exact Zmm (f:=f) hh (hrun (h1 hg).bd) (Z7 hR k2) hf (h1 hg)
  . cases h
 case pick c x y =>
  obtain ⟨s,h1,h2⟩:=WW h;refine ⟨s,h2,λC E n a w hh hρ hg=>?_⟩;obtain ⟨dst,op,ty,pos,after,guard⟩:=o;cases op<;>simp [ZM] at hc
  rename_i c' x' y';obtain ⟨⟨hc1,hc2⟩,hc3⟩:=hc;have hgt:∀ t cb,rdG g σ.fr (.t t) = .v (.bool cb)->ge σ.fr t cb:=λt cb hcb=>by
   simp only [rdG,rd] at hcb;cases hl:lk t σ.fr<;>rw [hl] at hcb<;>simp only [Xh] at hcb<;>try (cases hcb;done)
   . exact .base (by rw [hl];exact hcb)
   . rename_i j wj s';cases g with
     | none=>cases hcb
     | some q =>
      obtain ⟨j0,w0⟩:=q;simp only at hcb;cases ha:alw 8 σ.fr j0 w0 j wj
      . rw [ha] at hcb;cases hcb
      . rw [ha] at hcb;simp only [Zfe] at hcb;subst hcb;exact .step hl (Za1 8 ha hg)
  unfold Zho at h1;split at h1
  . rename_i t;simp only [opG] at hρ;have hRc:=hρ (g,.t t) (by simp) hg;have hRy:=hρ (some (t,false),y) (by simp);unfold ZhO at h1;split at h1
    . rename_i cb yb hcb hyb;simp at h1;subst h1;rw [hcb] at hRc;simp only [R] at hRc;have hge:=hgt t cb hcb;rw [hyb] at hRy;simp only [R] at hRy;refine ZK (y:=.bool (cb || yb)) ?_ (ZS (by simp [R]));simp only [execOp,Zf hc1 a,Zf hc2 a,Zf hc3 a,hRc,asBool,Sem.run_bind,Sem.run_pure,Result.andThen_ok];cases cb
      . simp [hRy hge]
      . simp [evX]
    . rename_i cb tb hcb hyb;cases cb
      . cases h1
      simp at h1;subst h1;rw [hcb] at hRc;simp only [R] at hRc;refine ZK (y:=.bool true) ?_ (ZS (by simp [R]));simp only [execOp,Zf hc1 a,Zf hc2 a,Zf hc3 a,hRc,asBool,Sem.run_bind,Sem.run_pure,Result.andThen_ok];simp [evX]
    . cases h1
  . rename_i t hne;simp only [opG] at hρ;have hRc:=hρ (g,.t t) (by simp) hg;have hRx:=hρ (some (t,true),x) (by simp);unfold Zfo at h1;split at h1
    . rename_i cb xb hcb hxb;simp at h1;subst h1;rw [hcb] at hRc;simp only [R] at hRc;have hge:=hgt t cb hcb;rw [hxb] at hRx;simp only [R] at hRx;refine ZK (y:=.bool (cb && xb)) ?_ (ZS (by simp [R]));simp only [execOp,Zf hc1 a,Zf hc2 a,Zf hc3 a,hRc,asBool,Sem.run_bind,Sem.run_pure,Result.andThen_ok];cases cb
      . simp [evX]
      . simp [hRx hge]
    . rename_i cb tb hcb hxb;cases cb
      case true=>cases h1
      simp at h1;subst h1;rw [hcb] at hRc;simp only [R] at hRc;refine ZK (y:=.bool false) ?_ (ZS (by simp [R]));simp only [execOp,Zf hc1 a,Zf hc2 a,Zf hc3 a,hRc,asBool,Sem.run_bind,Sem.run_pure,Result.andThen_ok];simp [evX]
    . cases h1
  . cases h1
 case bsl m T ps =>
  obtain ⟨s,h1,h2⟩:=WW h;refine ⟨s,h2,λC E n a w hh hρ hg=>?_⟩;obtain ⟨dst,op,ty,pos,after,guard⟩:=o;cases op<;>simp [ZM] at hc
  rename_i t len parts;obtain ⟨⟨⟨⟨⟨⟨⟨c1,c2⟩,c3⟩,c4⟩,c5⟩,c6⟩,c7⟩,c8⟩:=hc;have c1':P.underlying t=some (.slice T):=by split at c1<;>simp_all
  have c6':∃ z,Y1 P T=some z/\z.cells.size=m:=by split at c6<;>simp_all
  obtain ⟨y,w',k1,k2⟩:=Zv3 hh (λx hx=>hρ (g,x) (by simp only [opG,opX];exact List.mem_map.2 ⟨x,hx,rfl⟩) hg) c1' c2 c3 c4 c5 c6' c7 c8 h1;exact ZK (w':=w') (by simp only [execOp,Sem.run_bind,k1,Result.andThen_ok,Sem.run_pure]) k2
 case slc x h' k' =>
  simp only [Yl,ZBK] at h;split at h
  . rename_i c m xs kd n kd' j hx hh' hk';obtain ⟨h1,h2⟩:=h;rw [Zx] at h1;refine ⟨_,h2,λC E n' a w hh hρ hg=>?_⟩;obtain ⟨e1,e2⟩:=h1 hg;have hRx:=hρ (g,x) (by simp [opG,opX]) hg;have hRh:=hρ (g,h') (by simp [opG,opX]) hg;have hRk:=hρ (g,k') (by simp [opG,opX]) hg;simp only [hx,R] at hRx;simp only [hh',R] at hRh;simp only [hk',R] at hRk;obtain ⟨dst,op,ty,pos,after,guard⟩:=o;cases op<;>simp [ZM] at hc
    rename_i t y lo hi mx;cases lo<;>cases hi<;>cases mx<;>simp [ZM] at hc
    obtain ⟨⟨⟨c1,c2⟩,c3⟩,c4⟩:=hc;split at c4
    . rename_i e hu;obtain ⟨i,hi⟩:=Option.isSome_iff_exists.1 c4;obtain ⟨ad,len,cap,q0,rfl,⟨q1,_⟩,q2,q3⟩:=hRx;have hsz:(sizeOf e).run P w = .ok i.size w:=by simp [sizeOf,typeInfo,hi]
      have hrun:∃ ad',(Instr.slice t (.slice ad xs.length cap) none (some (.int kd n)) (some (.int kd' j))).run P w = .ok (.slice ad' xs.length xs.length) w/\(xs=[]\/ad'=ad):=by
       have b1:(0:Int)<=j/\j<=cap:=by omega
       have b2:(0:Int)<=n/\n<=(j.toNat:Int):=by omega
       refine ⟨if j.toNat=0 then ad else ad.map (·.add (0 * i.size)),?_,?_⟩
       . simp only [Instr.slice,Sem.run_bind,run_underlying hu,Result.andThen_ok,Instr.sliceBounds,Instr.sliceBound,asIntOf,Sem.run_pure];rw [if_pos b1];simp only [Sem.run_pure,Result.andThen_ok];rw [if_pos b2];simp only [Sem.run_pure,Result.andThen_ok,hsz];rw [show j.toNat=xs.length from by omega,show n.toNat=xs.length from by omega];simp
       . by_cases h0:xs=[]
         . exact .inl h0
         . right;have:¬ j.toNat=0:=by
            have:xs.length≠0:=λh=>h0 (List.eq_nil_of_length_eq_zero h);omega
           rw [if_neg this];cases ad<;>simp [Addr.add]
      obtain ⟨ad',hrun,had⟩:=hrun;refine ZK (y:=.slice ad' xs.length xs.length) (w':=w) ?_ (ZS ?_)
      . simp only [execOp,Option.map_some,Option.map_none,Zf c1 a,Zf c2 a,Zf c3 a,q0,hRh,hRk];rw [Sem.run_bind,Xt _ _ _ _ hu,hrun];rfl
      . simp only [R];refine ⟨ad',_,_,rfl,rfl,⟨Nat.le_refl _,λ_=>rfl⟩,q2,?_⟩;rcases q3 with q3 | q3
        . exact .inl q3
        . rcases had with h0 | rfl
          . exact .inl h0
          . exact .inr q3
    . cases c4
  . cases h
 case sub m x lo hi =>
  simp only [Yl,ZA1] at h;split at h
  . rename_i c m' xs hx;cases hm:Nat.beq m m'
    . rw [hm] at h;exact h.elim
    . rw [hm] at h;simp only [cond_true,Zyx] at h;have:=Nat.eq_of_beq_eq_true hm;subst this;split at h
      case h_2=>cases h
      case h_3=>cases h
      rename_i li hj hli hhj;obtain ⟨i,j,h1,h2⟩:=h;rw [Zx] at h1;refine ⟨_,h2,λC E n' a w hh hρ hg=>?_⟩;obtain ⟨rfl,rfl,e3,e4⟩:=h1 hg;have hRx:=hρ (g,x) (by simp [opG,opX]) hg;simp only [hx,R] at hRx;obtain ⟨ad,len,cap,q0,rfl,⟨q1,_⟩,q2,q3⟩:=hRx;obtain ⟨dst,op,ty,pos,after,guard⟩:=o;cases op<;>simp [ZM] at hc
      rename_i t y lo' hi' mx;cases mx<;>simp [ZM] at hc
      obtain ⟨⟨⟨c1,c2⟩,c3⟩,c4⟩:=hc;split at c4
      . rename_i e hu;simp only [beq_iff_eq] at c4;have hsz:=Z4 (w:=w) c4;have hlo:∃ v,(lo'.map a.eval)=v/\((v=none/\i=0)\/∃ k,v=some (.int k i)):=by
         cases lo with
         | none=>cases lo' with
          | none=>simp only [ZcB,Option.some.injEq] at hli;exact ⟨none,rfl,.inl ⟨rfl,by omega⟩⟩
          | some _=>simp [Um] at c2
         | some xl=>cases lo' with
          | none=>simp [Um] at c2
          | some ol =>
           simp only [Um] at c2;have hRl:=hρ (g,xl) (by simp [opG,opX]) hg;simp only [ZcB] at hli;split at hli
           . rename_i k0 n0 hq;simp only [Option.some.injEq] at hli;subst hli;rw [hq] at hRl;simp only [R] at hRl;exact ⟨_,rfl,.inr ⟨k0,by simp only [Option.map_some,Zf c2 a,hRl]⟩⟩
           . cases hli
        have hhi:∃ v,(hi'.map a.eval)=v/\((v=none/\j=xs.length)\/∃ k,v=some (.int k j)):=by
         cases hi with
         | none=>cases hi' with
          | none=>simp only [ZcB,Option.some.injEq] at hhj;exact ⟨none,rfl,.inl ⟨rfl,by omega⟩⟩
          | some _=>simp [Um] at c3
         | some xl=>cases hi' with
          | none=>simp [Um] at c3
          | some ol =>
           simp only [Um] at c3;have hRl:=hρ (g,xl) (by simp [opG,opX]) hg;simp only [ZcB] at hhj;split at hhj
           . rename_i k0 n0 hq;simp only [Option.some.injEq] at hhj;subst hhj;rw [hq] at hRl;simp only [R] at hRl;exact ⟨_,rfl,.inr ⟨k0,by simp only [Option.map_some,Zf c3 a,hRl]⟩⟩
           . cases hhj
        obtain ⟨vl,el,hl⟩:=hlo;obtain ⟨vh,eh,hh'⟩:=hhi;have hb:(Instr.sliceBounds true xs.length cap vl vh none).run P w = .ok (i,j,cap) w:=by
         have b1:(0:Int)<=i/\(i:Int)<=(j:Int):=by omega
         have b2:(0:Int)<=j/\(j:Int)<=(cap:Int):=by omega
         rcases hh' with ⟨rfl,rfl⟩ | ⟨k,rfl⟩<;>rcases hl with ⟨rfl,rfl⟩ | ⟨k',rfl⟩
         . simp [Instr.sliceBounds]
         . simp only [Instr.sliceBounds,Instr.sliceBound,Sem.run_bind,asIntOf,Sem.run_pure,Result.andThen_ok];rw [if_pos b1];simp
         . simp only [Instr.sliceBounds,Instr.sliceBound,Sem.run_bind,asIntOf,Sem.run_pure,Result.andThen_ok];rw [if_pos b2];simp
         . simp only [Instr.sliceBounds,Instr.sliceBound,Sem.run_bind,asIntOf,Sem.run_pure,Result.andThen_ok];rw [if_pos b2];simp only [Sem.run_pure,Result.andThen_ok,Int.toNat_natCast];rw [if_pos b1];simp
        refine ZK (y:=.slice (if cap - i=0 then ad else ad.map (·.add (i * m))) (j - i) (cap - i)) (w':=w) ?_ (ZS ?_)
        . simp only [execOp,Zf c1 a,q0,el,eh,Option.map_none];rw [Sem.run_bind,Xt _ _ _ _ hu];have hrun:(Instr.slice t (.slice ad xs.length cap) vl vh none).run P w = .ok (.slice (if cap - i=0 then ad else ad.map (·.add (i * m))) (j - i) (cap - i)) w:=by
           have hcc:(if cap=i then ad else ad.map (·.add (i * m)))=(if cap - i=0 then ad else ad.map (·.add (i * m))):=by
            by_cases hq:cap=i
            . rw [if_pos hq,if_pos (by omega)]
            . rw [if_neg hq,if_neg (by omega)]
           simp only [Instr.slice,Sem.run_bind,run_underlying hu,Result.andThen_ok,hb,hsz,Sem.run_pure,hcc]
          rw [hrun];rfl
        . simp only [R];have hlen:(List.drop i (List.take j xs)).length=j - i:=by simp;omega
          refine ⟨_,_,_,rfl,hlen.symm,⟨by omega,λh=>by cases h⟩,by omega,?_⟩;rcases q3 with q3 | ⟨b,off,rfl,q4⟩
          . left;rw [q3];simp
          . by_cases he:j - i=0
            . left;exact List.eq_nil_of_length_eq_zero (by omega)
            . right;have hci:¬ (cap - i=0):=by omega
              rw [if_neg hci];refine ⟨b,off+i * m,by simp [YT],?_⟩;exact ZAp q4 i j
      . cases c4
  . rename_i kk vv hx;unfold ZBM at h;split at h
    case h_2=>cases h
    rename_i v' m' xs T hk;cases hm:X9 (Nat.beq m m') (Nat.beq vv v')
    . rw [hm] at h;exact h.elim
    rw [hm] at h;simp only [ZeQ,ZyS] at h;obtain ⟨hm,hv⟩:=Yi hm;have:=Nat.eq_of_beq_eq_true hm;subst this;have:=Nat.eq_of_beq_eq_true hv;subst this;split at h
    case h_2=>cases h
    case h_3=>cases h
    rename_i li hj hli hhj;obtain ⟨i,j,h1,h2⟩:=h;rw [Zx] at h1;refine ⟨_,h2,λC E n' a w hh hρ hg=>?_⟩;obtain ⟨rfl,rfl,e3,e4⟩:=h1 hg;have hRx:=hρ (g,x) (by simp [opG,opX]) hg;simp only [hx,R] at hRx;obtain ⟨g1,g0,g2,_⟩:=hRx;have hb:=hh.bk kk;rw [hk] at hb;simp only [Ya] at hb;have hsl:∃ ad cap,E.hv kk vv = .slice ad xs.length cap/\xs.length<=cap:=by
     rcases hb with ⟨_,⟨q1,a0,q2⟩ | ⟨b',cap',cs,q1,_,_,q4,_⟩⟩
     . exact ⟨a0,0,by rw [q2,q1];rfl,by rw [q1];exact Nat.le_refl _⟩
     . exact ⟨_,cap',q1,q4.1⟩
    obtain ⟨ad,cap,q0,q1⟩:=hsl;refine ZK (ZuG (n:=n') (E:=E) (ok:=okS C E σ.hp) hc (g2.trans q0) q1 e3 e4 hli hhj (λy hy=>hρ (g,y) (by simp only [opG,opX,List.mem_map];exact ⟨y,by simp only [List.mem_cons];exact .inr hy,rfl⟩) hg)) (ZS ?_);simp only [R];exact ⟨g1,g0,ad,_,cap,q0,by omega,rfl⟩
  . cases h
 case app m b T x y =>
  simp only [Yl,ZyE] at h;split at h
  case h_2=>cases h
  case h_3=>cases h
  rename_i xs ys hxs hys;obtain ⟨h1,h2⟩:=h;rw [Zx] at h1;refine ⟨_,h2,λC E n a w hh hρ hg=>?_⟩;have hlim:=h1 hg;have hRx:=hρ (g,x) (by simp [opG,opX]) hg;have hRy:=hρ (g,y) (by simp [opG,opX]) hg;obtain ⟨dst,op,ty,pos,after,guard⟩:=o;cases op<;>simp [ZM] at hc
  rename_i c;obtain ⟨callee,as,ts⟩:=c;cases callee<;>try (simp at hc;done)
  rename_i bi;cases bi<;>try (simp at hc;done)
  simp only [Bool.and_eq_true,beq_iff_eq,Nat.blt_eq] at hc;obtain ⟨⟨⟨⟨hc,hsz⟩,hby⟩,hb0⟩,hz⟩:=hc;obtain ⟨z,hz⟩:=Option.isSome_iff_exists.1 hz;split at hc
  . rename_i x' y' t t' e1 e2;simp only [Bool.and_eq_true,beq_iff_eq] at hc;obtain ⟨⟨⟨rfl,c1⟩,c2⟩,c3⟩:=hc;have c3':P.underlying t=some (.slice T):=by split at c3<;>simp_all
    have has:as.map a.eval = #[evX a x,evX a y]:=by apply Array.toList_inj.1;simp [e1,Zf c1 a,Zf c2 a]
    have hts:ts = #[t,t]:=by apply Array.toList_inj.1;simpa using e2
    obtain ⟨cx,x1,x2,x3,x4⟩:=Zaf hRx hxs;obtain ⟨cy,y1,y2,y3⟩:=Zix hh hRy hys;have hlim2:xs.length+ys.length<=140737488355328:=Nat.le_trans (Nat.le_mul_of_pos_right _ hb0) hlim;obtain ⟨v,w',q1,q2,q3⟩:=Wm (P:=P) (ty:=ty) c3' hsz hby hz x1 x4 y1 hlim hlim2;refine ZK (y:=v) (w':=w') (by simp [execOp,resolve,has,hts,invoke,builtin,q1]) ⟨?_,q2⟩;have hst:=Z5 (ok:=okS C E σ.hp) q2;simp only [R];rcases q3 with ⟨g0,rfl,rfl⟩ | ⟨g0,cap,g1,rfl,rfl⟩
    . have:ys=[]:=List.eq_nil_of_length_eq_zero g0;subst this;rw [List.append_nil];exact (ZAy hRx hxs)
    . refine ⟨_,_,cap,rfl,by simp,⟨by simpa using g1,λh=>by cases h⟩,by simp;omega,.inr ⟨w.heap.size,0,rfl,?_⟩⟩;refine ZbN (WG hh (Nat.le_refl _)) (xs ++ ys) 0 (cx ++ cy) (λr hr=>?_) ?_ (λj c hj=>?_)
      . rcases List.mem_append.1 hr with hr | hr
        . exact x3 r hr
        . exact y3 r hr
      . rw [List.flatten_append];exact Z7 (ZE hst (λ_ _=>Ele.rfl) (λ_ h=>h) _ _ x2) (ZE hst (λ_ _=>Ele.rfl) (λ_ h=>h) _ _ y2)
      . have hnew:(w.drew.alloc (.cells (cx.toArray ++ cy.toArray ++ Builtin.zeroCells z.cells (cap - (xs.length+ys.length))) T)).heap[w.heap.size]? = some (.cells (cx.toArray ++ cy.toArray ++ Builtin.zeroCells z.cells (cap - (xs.length+ys.length))) T (0,0)):=heap_alloc_new _ _;rw [Nat.zero_add,cell_of_row _ _ _ _ _ _ hnew];rw [Array.getElem?_append_left (by have:=(List.getElem?_eq_some_iff.1 hj).1;simpa using this)]
        simpa using hj
  . cases hc
 case ld x m ag =>
  simp only [Yl,ldK] at h;have hop:∃ t y,o.op = .load t y/\YV x y=true/\Zcl P t=some ag/\XT P t=some m:=by
   obtain ⟨dst,op,ty,pos,after,guard⟩:=o;cases op<;>simp [ZM] at hc
   exact ⟨_,_,rfl,hc.1.1,hc.1.2,hc.2⟩
  obtain ⟨t,y,e1,e2,e3,e4⟩:=hop;have fin {a:Act} {w:World} {b off:Nat} {v:Value} (he:evX a x = .pointer (some ⟨b,off,none⟩)) (hl:(loadVar t ⟨b,off,none⟩).run P w = .ok v w):(execOp a.eval o).run P w = .ok (.value v) w:=by
   simp only [execOp,e1,Zf e2 a,he,Instr.loadAt,Instr.sureAddr,Sem.run_bind,Sem.run_pure,Result.andThen_ok,hl]
  split at h
  . rename_i k o' hx;unfold ldC at h;split at h
    . rename_i l T hk;obtain ⟨s,h1,h2⟩:=WW h;refine ⟨s,h2,λC E n a w hh hρ hg=>?_⟩;have hRx:=hρ (g,x) (by simp [opG,opX]) hg;simp only [hx,R] at hRx;have hb:=hh.bk k;rw [hk] at hb;simp only [Ya] at hb;obtain ⟨cs,k1,k2⟩:=hb;obtain ⟨v,q1,q2⟩:=WM (P:=P) (b:=E.β k) (off:=0) (t:=t) (o:=o') k2 (λj c hj=>by rw [Nat.zero_add,cell_of_row _ _ _ _ _ _ k1];simpa using hj) e3 e4 h1;rw [Nat.zero_add] at q1
      exact ZK (fin hRx.2 q1) (ZS q2)
    . cases h
  . rename_i row o' hx;obtain ⟨s,h1,h2⟩:=WW h;refine ⟨s,h2,λC E n a w hh hρ hg=>?_⟩;have hRx:=hρ (g,x) (by simp [opG,opX]) hg;simp only [hx,R] at hRx;obtain ⟨b,off,r1,cs,r2,r3⟩:=hRx;obtain ⟨v,q1,q2⟩:=WM (P:=P) (b:=b) (off:=off) (t:=t) (o:=o') r2 r3.2 e3 e4 h1;exact ZK (fin r1 q1) (ZS q2)
  . rename_i k v m' j o' hx;unfold ldR at h;split at h
    . rename_i v' m'' xs T hk;cases hm:X9 (Nat.beq m' m'') (Nat.beq v v')
      . rw [hm] at h;exact h.elim
      . rw [hm] at h;simp only [ldB] at h;obtain ⟨hm,hv⟩:=Yi hm;have:=Nat.eq_of_beq_eq_true hm;subst this;have:=Nat.eq_of_beq_eq_true hv;subst this;obtain ⟨row,h1,h2⟩:=h;rw [Zx] at h1;obtain ⟨s,h3,h4⟩:=WW h2;refine ⟨s,h4,λC E n a w hh hρ hg=>?_⟩;have hRx:=hρ (g,x) (by simp [opG,opX]) hg;simp only [hx,R] at hRx;obtain ⟨_,_,b,len,cap,r1,r2⟩:=hRx;have hb:=hh.bk k;rw [hk] at hb;simp only [Ya] at hb
        rcases hb with ⟨_,⟨hb,_⟩ | ⟨b',cap',cs,q1,q2,q3,⟨q4,_⟩,_,q6,q7⟩⟩
        . have hi:=h1 hg;rw [hb] at hi;simp at hi
        . rw [r1] at q1;simp at q1;obtain ⟨rfl,_,_⟩:=q1;have hi:=h1 hg;obtain ⟨cs',p1,p2⟩:=Zdd (m:=m') hi q6 q7
          obtain ⟨v,s1,s2⟩:=WM (P:=P) (w:=w) (b:=b) (off:=j * m') (t:=t) (o:=o') p1 (λj' c hj=>by
           rw [cell_of_row _ _ _ _ _ _ q2];have:=p2 j' c hj
           simpa using this) e3 e4 h3
          exact ZK (fin r2 s1) (ZS s2)
    . rename_i v' m0 xs T oo mi inn T' hk;obtain ⟨ia,rows,TT,rfl,hat,row,h1,h2⟩:=h;rw [Zx] at h1;obtain ⟨s,h3,h4⟩:=WW h2;refine ⟨s,h4,λC E n a w hh hρ hg=>?_⟩;have hRx:=hρ (g,x) (by simp [opG,opX]) hg;simp only [hx,R] at hRx;obtain ⟨_,_,b,len,cap,r1,r2⟩:=hRx;have hb:=hh.bk k;rw [hk] at hb;simp only [Ya] at hb;rcases hb.2.2.1 _ _ _ _ hat with ⟨hb,_⟩ | ⟨b',cap',cs,q1,q2,q3,⟨q4,_⟩,_,q6,q7⟩
      . have hi:=h1 hg;rw [hb] at hi;simp at hi
      . rw [r1] at q1;simp at q1;obtain ⟨rfl,_,_⟩:=q1;have hi:=h1 hg;obtain ⟨cs',p1,p2⟩:=Zdd (m:=m') hi q6 q7
        obtain ⟨v,s1,s2⟩:=WM (P:=P) (w:=w) (b:=b) (off:=j * m') (t:=t) (o:=o') p1 (λj' c hj=>by
         rw [cell_of_row _ _ _ _ _ _ q2];have:=p2 j' c hj
         simpa using this) e3 e4 h3
        exact ZK (fin r2 s1) (ZS s2)
    . cases h
  . cases h
 case div b x y =>
  simp only [Yl,ZBE] at h;split at h
  . rename_i k u j v hx hy
    . cases hk:ZdG k j
      . rw [hk] at h;exact h.elim
      . rw [hk] at h;simp only [ZAP] at h;have:=Zff hk;subst this;obtain ⟨h1,h2⟩:=h;rw [Zx] at h1;refine ⟨_,h2,λC E n a w hh hρ hg=>?_⟩;have h0:=h1 hg;have hRx:=hρ (g,x) (by simp [opG,opX]) hg;have hRy:=hρ (g,y) (by simp [opG,opX]) hg;simp only [hx,hy,R] at hRx hRy;obtain ⟨dst,op,ty,pos,after,guard⟩:=o;cases op<;>simp [ZM] at hc
        rename_i b' T x' y' T';obtain ⟨⟨⟨rfl,hb⟩,c1⟩,c2⟩:=hc;refine ZK (y:=.int k (Zzq b k u v)) ?_ (ZS (by simp [R]));rcases hb with rfl | rfl <;>
         simp [execOp,Zf c1 a,Zf c2 a,hRx,hRy,eqGuard,binOp,Op.intDiv,h0,Zzq]
  . cases h
 case idx x i len m ag =>
  simp only [Yl,ZBO] at h;split at h
  . rename_i k j l hi hx
    . skip
      obtain ⟨ix,h1,h2⟩:=h;rw [Zx] at h1;obtain ⟨s,h3,h4⟩:=WW h2;refine ⟨s,h4,λC E n a w hh hρ hg=>?_⟩;obtain ⟨rfl,hn⟩:=h1 hg;have hRx:=hρ (g,x) (by simp [opG,opX]) hg;have hRi:=hρ (g,i) (by simp [opG,opX]) hg;simp only [hx,hi,R] at hRx hRi;obtain ⟨cs,r1,r2⟩:=hRx;obtain ⟨dst,op,ty,pos,after,guard⟩:=o;cases op<;>simp [ZM] at hc
      obtain ⟨⟨c1,c2⟩,c3⟩:=hc;split at c3
      . rename_i len' e hu;simp at c3;obtain ⟨⟨rfl,c4⟩,c5⟩:=c3;obtain ⟨c,p1,p2⟩:=ZdM r2 h3;refine ZK (y:=if ag then .agg (cs.extract (ix * m) (ix * m+m)) else c) ?_ (ZS p2);simp [execOp,Zf c1 a,Zf c2 a,r1,hRi,Instr.index,asIntOf,run_underlying hu,hn,Z4 c4,ZaL c5 c4 c p1]
      . cases c3
  . cases h
 case ixa x i len m =>
  simp only [Yl,ZBS] at h;split at h
  . rename_i k j hi;obtain ⟨ix,h1,h2⟩:=h;rw [Zx] at h1;obtain ⟨s,h3,h4⟩:=WW h2;refine ⟨s,h4,λC E n a w hh hρ hg=>?_⟩;obtain ⟨rfl,hn⟩:=h1 hg;have hRx:=hρ (g,x) (by simp [opG,opX]) hg;have hRi:=hρ (g,i) (by simp [opG,opX]) hg;simp only [hi,R] at hRi;obtain ⟨dst,op,ty,pos,after,guard⟩:=o;cases op<;>simp [ZM] at hc
    rename_i tt xx jj;obtain ⟨⟨c1,c2⟩,c3⟩:=hc;have key:∃ y,(Instr.indexAt tt (evX a x) (.int k ix)).run P w = .ok y w/\R w E n (okS C E σ.hp) s y:=by
     cases hs:rdG g σ.fr x<;>rw [hs] at h3 hRx<;>simp [UN] at h3<;>subst h3<;>simp only [R] at hRx
     case p kk q=>obtain ⟨g1,g2⟩:=hRx;rw [g2];exact ⟨_,X6 c3 hn,by simp [R,g1]⟩
     case pr kk vv mm ii q=>obtain ⟨g1,g0,b,l,c,g2,g3⟩:=hRx;rw [g3];exact ⟨_,X6 c3 hn,by simp only [R];exact ⟨g1,g0,b,l,c,g2,by rw [Nat.add_assoc]⟩⟩
     case ps row q=>obtain ⟨b,off,g2,g3⟩:=hRx;rw [g2];exact ⟨_,X6 c3 hn,by simp only [R];exact ⟨b,off,by rw [Nat.add_assoc],g3⟩⟩
    obtain ⟨y,q1,q2⟩:=key;exact ZK (by simp only [execOp,Zf c1 a,Zf c2 a,hRi,Sem.run_bind,q1,Result.andThen_ok,Sem.run_pure]) (ZS q2)
  . cases h
 case ixs x i m =>
  simp only [Yl,ZAk] at h;have hop:∃ t y z,o.op = .indexAddr t y z/\YV x y=true/\YV i z=true/\(match P.underlying t with | some (.slice e)=>XT P e == some m | _=>false)=true:=by
   obtain ⟨dst,op,ty,pos,after,guard⟩:=o;cases op<;>simp [ZM] at hc
   exact ⟨_,_,_,rfl,hc.1.1,hc.1.2,hc.2⟩
  obtain ⟨t,y,z,e1,c1,c2,c3⟩:=hop;split at h
  . rename_i k j m' xs hi hx
    . cases hm:Nat.beq m m'
      . rw [hm] at h;exact h.elim
      . rw [hm] at h;simp only [ZzD] at h;have:=Nat.eq_of_beq_eq_true hm;subst this;obtain ⟨row,h1,h2⟩:=h;rw [Zx] at h1;refine ⟨_,h2,λC E n a w hh hρ hg=>?_⟩;obtain ⟨ix,rfl,hn⟩:=h1 hg;have hRx:=hρ (g,x) (by simp [opG,opX]) hg;have hRi:=hρ (g,i) (by simp [opG,opX]) hg;simp only [hx,hi,R] at hRx hRi;obtain ⟨ad,len,cap,r1,r2,r3,r4,r5⟩:=hRx;have hlt:ix < xs.length:=(List.getElem?_eq_some_iff.1 hn).1
        rcases r5 with r5 | ⟨b,off,r5,r6⟩
        . subst r5;simp at hlt
        . obtain ⟨cs,q1,q2⟩:=ZtC r6 hn;subst r5;subst r2;exact ZK (y:=.pointer (some ⟨b,off+ix * m,none⟩)) (by simp only [execOp,e1,Zf c1 a,Zf c2 a,r1,hRi,Sem.run_bind,Wo c3 hlt,Result.andThen_ok,Sem.run_pure]) (ZS (by simp only [R];exact ⟨b,off+ix * m,by simp,cs,q1,q2⟩))
  . rename_i k j kk vv hi hx
    . unfold ZyZ at h;split at h
      . rename_i v' m' xs T hk;cases hm:X9 (Nat.beq m m') (Nat.beq vv v')
        . rw [hm] at h;exact h.elim
        . rw [hm] at h;simp only [ZBa] at h;obtain ⟨hm,hv⟩:=Yi hm;have:=Nat.eq_of_beq_eq_true hm;subst this;have:=Nat.eq_of_beq_eq_true hv;subst this;obtain ⟨ix,h1,h2⟩:=h;rw [Zx] at h1;refine ⟨_,h2,λC E n a w hh hρ hg=>?_⟩;obtain ⟨rfl,hn⟩:=h1 hg;have hRx:=hρ (g,x) (by simp [opG,opX]) hg;have hRi:=hρ (g,i) (by simp [opG,opX]) hg;simp only [hx,hi,R] at hRx hRi;have hb:=hh.bk kk;rw [hk] at hb;simp only [Ya] at hb
          rcases hb with ⟨_,⟨hb,_⟩ | ⟨b',cap',cs,q1,q2,q3,q4,_⟩⟩
          . subst hb;simp at hn
          . have r1:evX a x = .slice (some ⟨b',0,none⟩) xs.length cap':=hRx.2.2.1.trans q1;exact ZK (y:=.pointer (some ⟨b',0+ix * m,none⟩)) (by simp only [execOp,e1,Zf c1 a,Zf c2 a,r1,hRi,Sem.run_bind,Wo c3 hn,Result.andThen_ok,Sem.run_pure]) (ZS (by simp only [R];exact ⟨hRx.1,hRx.2.1,b',_,_,q1,by simp⟩))
      . rename_i v' m0 xs T oo mi inn T' hk;obtain ⟨ia,rows,TT,rfl,hat,ix,h1,h2⟩:=h;rw [Zx] at h1;refine ⟨_,h2,λC E n a w hh hρ hg=>?_⟩;obtain ⟨rfl,hn⟩:=h1 hg;have hRx:=hρ (g,x) (by simp [opG,opX]) hg;have hRi:=hρ (g,i) (by simp [opG,opX]) hg;simp only [hx,hi,R] at hRx hRi;have hb:=hh.bk kk;rw [hk] at hb;simp only [Ya] at hb;rcases hb.2.2.1 _ _ _ _ hat with ⟨hb,_⟩ | ⟨b',cap',cs,q1,q2,q3,q4,_⟩
        . subst hb;simp at hn
        . have r1:evX a x = .slice (some ⟨b',0,none⟩) rows.length cap':=hRx.2.2.1.trans q1;exact ZK (y:=.pointer (some ⟨b',0+ix * m,none⟩)) (by simp only [execOp,e1,Zf c1 a,Zf c2 a,r1,hRi,Sem.run_bind,Wo c3 hn,Result.andThen_ok,Sem.run_pure]) (ZS (by simp only [R];exact ⟨hRx.1,hRx.2.1,b',_,_,q1,by simp⟩))
      . cases h
  . cases h
 case len x =>
  simp only [Yl,ZyT] at h;split at h
  . rename_i k vv hx;unfold ZAA at h;split at h
    . rename_i v' m xs T hk;cases hv:Nat.beq vv v'
      . rw [hv] at h;exact h.elim
      rw [hv] at h;simp only [ZAY] at h;have:=Nat.eq_of_beq_eq_true hv;subst this;refine ⟨_,h,λC E n a w hh hρ hg=>?_⟩;have hRx:=hρ (g,x) (by simp [opG,opX]) hg;simp only [hx,R] at hRx;obtain ⟨as,ts,y,t,e,e1,e2,e3,e4,e5⟩:=Ze7 hc;have he:as.map a.eval = #[evX a x]:=by apply Array.toList_inj.1;simp [e2,Zf e4 a]
      have hb:=hh.bk k;rw [hk] at hb;simp only [Ya] at hb;have hv:∃ ad cap,evX a x = .slice ad xs.length cap:=by
       rcases hb with ⟨_,⟨q1,a0,q2⟩ | ⟨b',cap',cs,q1,_⟩⟩
       . exact ⟨a0,0,by rw [hRx.2.2.1,q2,q1];rfl⟩
       . exact ⟨_,cap',by rw [hRx.2.2.1,q1]⟩
      obtain ⟨ad,cap,hv⟩:=hv;exact ZK (by simp [execOp,e1,resolve,he,invoke,builtin,Builtin.len_,e3,run_underlying e5,hv];rfl) (ZS (by simp only [R];rfl))
    . rename_i v' m0 xs T oo mi inn T' hk;obtain ⟨ia,mm,rows,TT,rfl,hat,h⟩:=h;refine ⟨_,h,λC E n a w hh hρ hg=>?_⟩;have hRx:=hρ (g,x) (by simp [opG,opX]) hg;simp only [hx,R] at hRx;obtain ⟨as,ts,y,t,e,e1,e2,e3,e4,e5⟩:=Ze7 hc;have he:as.map a.eval = #[evX a x]:=by apply Array.toList_inj.1;simp [e2,Zf e4 a]
      have hb:=hh.bk k;rw [hk] at hb;simp only [Ya] at hb;have hv:∃ ad cap,evX a x = .slice ad rows.length cap:=by
       rcases hb.2.2.1 _ _ _ _ hat with ⟨q1,a0,q2⟩ | ⟨b',cap',cs,q1,_⟩
       . exact ⟨a0,0,by rw [hRx.2.2.1,q2,q1];rfl⟩
       . exact ⟨_,cap',by rw [hRx.2.2.1,q1]⟩
      obtain ⟨ad,cap,hv⟩:=hv;exact ZK (by simp [execOp,e1,resolve,he,invoke,builtin,Builtin.len_,e3,run_underlying e5,hv];rfl) (ZS (by simp only [R];rfl))
    . cases h
  . rename_i kk vv mm ii ll hx;refine ⟨_,h,λC E n a w hh hρ hg=>?_⟩;have hRx:=hρ (g,x) (by simp [opG,opX]) hg;simp only [hx,R] at hRx;obtain ⟨as,ts,y,t,e,e1,e2,e3,e4,e5⟩:=Ze7 hc;have he:as.map a.eval = #[evX a x]:=by apply Array.toList_inj.1;simp [e2,Zf e4 a]
    obtain ⟨_,_,ad,_,cap,_,_,hv⟩:=hRx;exact ZK (by simp [execOp,e1,resolve,he,invoke,builtin,Builtin.len_,e3,run_underlying e5,hv];rfl) (ZS (by simp only [R];rfl))
  . rename_i m xs hx;exact dfl2 (.v (.int .i64 xs.length)) (by simp [pv,hx]) h
  . cases h
end
section
variable {fr:List (Nat × SV)} {gs:List Nat} {t:Nat} {s:SV}
theorem ZW {t:Nat}:∀ {l:List Nat},Xk t l=true↔t ∈ l
 | []=>by simp [Xk]
 | u :: r=>by
  simp only [Xk,List.mem_cons];cases h:Nat.beq t u
  . have:t≠u:=λe=>by subst e;rw [nbr] at h;cases h
    simp [ZW (l:=r),this]
  . simp [Nat.eq_of_beq_eq_true h]
theorem Zbb (hc:∀ t j b s,lk t fr = .gd j b s->j ∈ gs) (ht:t ∉ gs) {j:Nat} {b:Bool} (hj:j ∈ gs):GE ((t,s) :: fr) j b↔GE fr j b:=by
 have hne:∀ {j},j ∈ gs->lk j ((t,s) :: fr)=lk j fr:=λ{j} hj=>by
  rw [ZI,if_neg];rintro rfl;exact ht hj
 constructor
 . intro h
   induction h with
   | base h=>rw [hne hj] at h;exact .base h
   | step h h' ih=>rw [hne hj] at h;exact .step h (ih (hc _ _ _ _ h))
 . intro h
   induction h with
   | base h=>exact .base (by rw [hne hj];exact h)
   | step h h' ih=>exact .step (by rw [hne hj];exact h) (ih (hc _ _ _ _ h))
end
section
variable {C:Cx} {E E':Env} {σ : St} {a:Act} {w w':World} {hp':List (Nat × HB)} {n':Nat}
theorem Zbt (a:Act) (t u:Nat) (y:Value) (h:t < a.tmps.size):(a.put (some t) y).tmps.getD u undef=if u=t then y else a.tmps.getD u undef:=by
 simp only [Act.put];by_cases hu:u=t
 . subst hu;simp [h]
 . simp [hu,Ne.symm hu]
theorem Xs {fr fr':List (Nat × SV)} {n n':Nat->Prop} {ok ok':Nat->Prop} {s:SV} {y:Value} (hs:ZG w w' ok ok') (hE:∀ k,n k->Ele E E' k k) (hn:∀ k,n k->n' k)
 (hg:∀ j b t,s = .gd j b t->(GE fr' j b↔GE fr j b)) (h:FR w E n ok fr s y):FR w' E' n' ok' fr' s y:=by
 cases s<;>try exact ZU hs.c hE hn _ _ h
 rename_i j b t;have hg':=hg j b t rfl;exact ⟨λhh=>ZU hs hE hn _ _ (h.1 (hg'.1 hh)),λhh=>h.2 (λx=>hh (hg'.2 x))⟩
theorem Xo {t:Nat} {s:SV} {y:Value} (h:Sim C E σ a w) (hs:ZG w w' (okS C E σ.hp) (okS C E' hp')) (hE:∀ k,k < σ.n->Ele E E' k k) (hn:σ.n<=n')
 (hh:HSim C E' hp' (ltn n') w') (ht:t ∉ σ.gs) (hN:t < σ.N) (hne:∀ j b u,s≠.gd j b u) (hR:R w' E' (ltn n') (okS C E' hp') s y):Sim C E' ⟨(t,s) :: σ.fr,hp',n',σ.N,σ.gs⟩ (a.put (some t) y) w':=by
 have hsz:t < a.tmps.size:=by rw [h.sz];exact hN
 refine ⟨λu=>?_,by simp [Act.put,h.sz],XZ hs (by simpa [Act.put] using h.df),λu j b v hu=>?_,hh⟩
 . rw [Zbt a t u y hsz,ZI];by_cases hu:u=t
   . rw [if_pos hu,if_pos hu];cases s<;>first | exact hR | exact absurd rfl (hne _ _ _)
   . rw [if_neg hu,if_neg hu];refine Xs hs hE (λk hk=>Nat.lt_of_lt_of_le hk hn) (λj b v hv=>?_) (h.fr u);exact Zbb h.gs ht (h.gs u j b v hv)
 . simp only [ZI] at hu;split at hu
   . exact absurd hu (hne _ _ _)
   . exact h.gs u j b v hu
theorem ZgN {t j:Nat} {b:Bool} {s:SV} {y:Value} (h:Sim C E σ a w) (hb:Below w.heap.size w w') (ht:t ∉ σ.gs) (htj:t≠j) (hN:t < σ.N)
 (hR:ge σ.fr j b->R w' E (ltn σ.n) (okS C E σ.hp) s y) (hU:¬ ge σ.fr j b->y=undef) :
 Sim C E ⟨(t,.gd j b s) :: σ.fr,σ.hp,σ.n,σ.N,j :: σ.gs⟩ (a.put (some t) y) w':=by
 have hsz:t < a.tmps.size:=by rw [h.sz];exact hN
 have hc:∀ u j' b' s',lk u σ.fr = .gd j' b' s'->j' ∈ j :: σ.gs:=λu j' b' s' hu=>by simp [h.gs u j' b' s' hu]
 have htg:t ∉ j :: σ.gs:=by simp [htj,ht]
 have hst:ZG w w' (okS C E σ.hp) (okS C E σ.hp):=Z5 hb;refine ⟨λu=>?_,by simp [Act.put,h.sz],XZ hst (by simpa [Act.put] using h.df),λu j' b' v hu=>?_,Xl h.hs hb⟩
 . rw [Zbt a t u y hsz,ZI];by_cases hu:u=t
   . rw [if_pos hu,if_pos hu];have:=Zbb (s:=.gd j b s) (b:=b) hc htg (j:=j) (by simp);exact ⟨λhh=>hR (this.1 hh),λhh=>hU (λx=>hh (this.2 x))⟩
   . rw [if_neg hu,if_neg hu];refine Xs hst (λ_ _=>Ele.rfl) (λ_ h=>h) (λj' b' v hv=>?_) (h.fr u);exact Zbb hc htg (hc u j' b' v hv)
 . simp only [ZI] at hu;split at hu
   . cases hu;simp
   . simp [h.gs u j' b' v hu]
theorem YA (h:Sim C E σ a w) (hs:ZG w w' (okS C E σ.hp) (okS C E' hp')) (hE:∀ k,k < σ.n->Ele E E' k k) (hn:σ.n<=n') (hh:HSim C E' hp' (ltn n') w'):Sim C E' ⟨σ.fr,hp',n',σ.N,σ.gs⟩ a w' :=
 ⟨λu=>Xs hs hE (λk hk=>Nat.lt_of_lt_of_le hk hn) (λ_ _ _ _=>Iff.rfl) (h.fr u),h.sz,XZ hs h.df,h.gs,hh⟩
theorem ZaM {hp:List (Nat × HB)} {k:Nat} {hb:HB} (h:∀ b,occ E k hb b↔occ E k (lkh k hp) b) (j b:Nat):occ E j (lkh j ((k,hb) :: hp)) b↔occ E j (lkh j hp) b:=by
 rw [Zs];by_cases hj:j=k
 . subst hj;rw [if_pos rfl];exact h b
 . rw [if_neg hj]
theorem Zpy {hp:List (Nat × HB)} {k:Nat} {hb:HB} (h:∀ b,occ E k hb b↔occ E k (lkh k hp) b) (b:Nat):okS C E ((k,hb) :: hp) b↔okS C E hp b:=by
 unfold okS;have:=ZaM h;constructor
 . rintro ⟨h1,h2⟩;exact ⟨h1,λj hj=>h2 j ((this j b).2 hj)⟩
 . rintro ⟨h1,h2⟩;exact ⟨h1,λj hj=>h2 j ((this j b).1 hj)⟩
theorem W8 {hp:List (Nat × HB)} {n:Nat->Prop} {k B:Nat} {hb:HB} (h:HSim C E hp n w) (hocc:∀ b,occ E k hb b↔occ E k (lkh k hp) b) (hB:occ E k (lkh k hp) B) (hw:Wr0 w w' B)
 (hk:ZG w w' (okS C E hp) (okS C E ((k,hb) :: hp))->Ya w' E n (okS C E ((k,hb) :: hp)) k hb) :
 HSim C E ((k,hb) :: hp) n w'/\ZG w w' (okS C E hp) (okS C E ((k,hb) :: hp)):=by
 have hkn:n k:=by
  rcases Classical.em (n k) with h' | h'
  . exact h'
  . rw [h.kn k h'] at hB;exact hB.elim
 have hst:ZG w w' (okS C E hp) (okS C E ((k,hb) :: hp)):=λb hb' _=>⟨(Zpy hocc b).2 hb',hw.same b (λe=>by subst e;exact hb'.2 k hB)⟩;refine ⟨⟨λj hj=>?_,λj=>?_,λj j' b h1 h2=>?_,λj b h1=>?_,⟨hw.os.trans h.kp.os,hw.tape.trans h.kp.tape,hw.output.trans h.kp.output,by rw [hw.size];exact h.kp.size,λb h1 h2=>?_⟩,h.pin⟩,hst⟩
 . rw [Zs,if_neg (by rintro rfl;exact hj hkn)];exact h.kn j hj
 . rw [Zs];by_cases hj:j=k
   . subst hj;rw [if_pos rfl];exact hk hst
   . rw [if_neg hj];refine YH hst (λ_ _=>Ele.rfl) (λ_ h=>h) ?_ (λb ho=>hw.same b (λe=>?_)) rfl (h.bk j)
     . rcases Classical.em (n j) with h' | h'
       . exact .inr h'
       . exact .inl (h.kn j h')
     . subst e;exact hj (h.dj j k b ho hB)
 . exact h.dj j j' b ((ZaM hocc j b).1 h1) ((ZaM hocc j' b).1 h2)
 . exact h.lo j b ((ZaM hocc j b).1 h1)
 . rw [hw.same b ?_]
   . exact h.kp.block b h1 h2
   . rintro rfl;rcases h.lo k b hB with h' | h'
     . omega
     . exact h2 _ h'
theorem Xm {hp:List (Nat × HB)} {n:Nat->Prop} {k B:Nat} {hb:HB} {cs:List Value} {T:TypeId} (h:HSim C E hp n w) (hocc:∀ b,occ E k hb b↔occ E k (lkh k hp) b) (hB:occ E k (lkh k hp) B) (hw:Wrote w w' B cs T)
 (hk:ZG w w' (okS C E hp) (okS C E ((k,hb) :: hp))->Ya w' E n (okS C E ((k,hb) :: hp)) k hb) :
 HSim C E ((k,hb) :: hp) n w'/\ZG w w' (okS C E hp) (okS C E ((k,hb) :: hp)) :=
 W8 h hocc hB ⟨hw.os,hw.tape,hw.output,hw.size,hw.same⟩ hk
theorem Zf0 {hp:List (Nat × HB)} {n:Nat->Prop} {q:Nat} {l:List SV} {cs:Array Value} {T:TypeId} (h:HSim C E hp n w) (hq:¬ n q) (hR:RL w E n (okS C E hp) l cs.toList) :
 ∃ E',(∀ k,n k->Ele E E' k k)/\E'.β q=w.heap.size/\HSim C E' ((q,.cells l T) :: hp) (λk=>n k\/k=q) (w.alloc (.cells cs T)) /\
  ZG w (w.alloc (.cells cs T)) (okS C E hp) (okS C E' ((q,.cells l T) :: hp)):=by
 let E':Env:=⟨λk=>if k=q then w.heap.size else E.β k,E.hv,E.iss⟩
 have hE:∀ k,n k->Ele E E' k k:=λk hk=>⟨by simp [E',show k≠q from by rintro rfl;exact hq hk],Nat.le_refl _,λ_ _=>rfl⟩;have hEn:E'.β q=w.heap.size:=by simp [E']
 have hbel:Below w.heap.size w (w.alloc (.cells cs T)):=(Below.refl _ _).alloc (Nat.le_refl _) _;have hoc:∀ j b,j≠q->(occ E' j (lkh j ((q,.cells l T) :: hp)) b↔occ E j (lkh j hp) b):=λj b hj=>by
  rw [Zs,if_neg hj];cases hl:lkh j hp<;>simp only [occ,E',if_neg hj]
 have hocn:∀ b,occ E' q (lkh q ((q,.cells l T) :: hp)) b↔b=w.heap.size:=λb=>by
  rw [Zs,if_pos rfl];simp only [occ,hEn]
 have hlt:∀ b,b < w.heap.size->(okS C E' ((q,.cells l T) :: hp) b↔okS C E hp b):=λb hb=>by
  unfold okS;constructor
  . rintro ⟨h1,h2⟩;refine ⟨h1,λj hj=>?_⟩;by_cases hjn:j=q
    . subst hjn;rw [h.kn j hq] at hj;exact hj
    . exact h2 j ((hoc j b hjn).2 hj)
  . rintro ⟨h1,h2⟩;refine ⟨h1,λj hj=>?_⟩;by_cases hjn:j=q
    . subst hjn;rw [hocn] at hj;omega
    . exact h2 j ((hoc j b hjn).1 hj)
 have hst:ZG w (w.alloc (.cells cs T)) (okS C E hp) (okS C E' ((q,.cells l T) :: hp)):=λb hb hs=>by
  have hlt':b < w.heap.size:=by
   obtain ⟨o,ho⟩:=Option.isSome_iff_exists.1 hs;exact (Array.getElem?_eq_some_iff.1 ho).1
  exact ⟨(hlt b hlt').2 hb,hbel.block b hlt'⟩
 refine ⟨E',hE,hEn,⟨λj hj=>?_,λj=>?_,λj j' b h1 h2=>?_,λj b h1=>?_,WX h.kp hbel,λk hk=>(by obtain ⟨p1,p2⟩:=h.pin k hk;exact ⟨.inl p1,p2.trans (hE k p1)⟩)⟩,hst⟩
 . rw [Zs,if_neg (λe=>hj (.inr e))];exact h.kn j (λe=>hj (.inl e))
 . rw [Zs];by_cases hj:j=q
   . subst hj;rw [if_pos rfl];simp only [Ya,hEn];exact ⟨cs,heap_alloc_new _ _,ZE hst hE (λ_ h=>.inl h) _ _ hR⟩
   . rw [if_neg hj];refine YH hst hE (λ_ h=>.inl h) ?_ (λb ho=>hbel.block b (YE h ho)) (by simp [E',hj]) (h.bk j);rcases Classical.em (n j) with h' | h'
     . exact .inr h'
     . exact .inl (h.kn j h')
 . by_cases hj:j=q<;>by_cases hj':j'=q
   . omega
   . subst hj;rw [hocn] at h1;rw [hoc j' b hj'] at h2;have:=YE h h2;omega
   . subst hj';rw [hocn] at h2;rw [hoc j b hj] at h1;have:=YE h h1;omega
   . exact h.dj j j' b ((hoc j b hj).1 h1) ((hoc j' b hj').1 h2)
 . by_cases hj:j=q
   . subst hj;rw [hocn] at h1;exact .inl (by rw [h1];exact h.kp.size)
   . exact h.lo j b ((hoc j b hj).1 h1)
end
section
variable {C:Cx} {E:Env} {w w':World}
theorem ZgG {hp:List (Nat × HB)} {n:Nat->Prop} {k v m:Nat} {xs xs':List (List SV)} {T:TypeId} {y:Value} (h:HSim C E hp n w) (hk:lkh k hp = .row v m xs T)
 (ho:w'.os=w.os) (ht:w'.tape=w.tape) (hu:w'.output=w.output) (hsz:w.heap.size<=w'.heap.size) (hsame:∀ b,b < w.heap.size->¬ occ E k (lkh k hp) b->w'.heap[b]? = w.heap[b]?)
 (hv:(xs'=[]/\∃ a,y = .slice a 0 0)\/∃ b cap cs,y = .slice (some ⟨b,0,none⟩) xs'.length cap/\(occ E k (lkh k hp) b\/w.heap.size<=b)/\w'.heap[b]? = some (.cells cs T (0,0))/\cs.size=cap * m/\(xs'.length<=cap/\cap≠0)/\xs'.length<=9223372036854775807 /\
  (∀ r ∈ xs',r.length=m)/\RL w E n (okS C E hp) xs'.flatten (cs.toList.take (xs'.length * m))) :
 ∃ E',(∀ k,n k->Ele E E' k k)/\E'.hv k (v+1)=y/\E'.iss k=v+2/\n k/\HSim C E' ((k,.row (v+1) m xs' T) :: hp) n w'/\ZG w w' (okS C E hp) (okS C E' ((k,.row (v+1) m xs' T) :: hp)):=by
 have hkn:n k:=by
  rcases Classical.em (n k) with h' | h'
  . exact h'
  . rw [h.kn k h'] at hk;cases hk
 have hb0:=h.bk k;rw [hk] at hb0;have his:E.iss k=v+1:=by simp only [Ya] at hb0;exact hb0.1
 let E':Env:=⟨E.β,λj u=>if j=k/\u=v+1 then y else E.hv j u,λj=>if j=k then v+2 else E.iss j⟩
 have hE:∀ j,n j->Ele E E' j j:=λj _=>⟨rfl,by
  by_cases hj:j=k
  . subst hj;simp [E',his]
  . simp [E',hj],λu hu'=>by
  by_cases hj:j=k
  . subst hj;rw [his] at hu';simp [E',show u≠v+1 from by omega]
  . simp [E',hj]⟩
 have hEn:E'.hv k (v+1)=y:=by simp [E']
 have hEi:E'.iss k=v+2:=by simp [E']
 have hoc:∀ j b,j≠k->(occ E' j (lkh j ((k,.row (v+1) m xs' T) :: hp)) b↔occ E j (lkh j hp) b):=λj b hj=>by
  rw [Zs,if_neg hj];have hvv:∀ u,E'.hv j u=E.hv j u:=λu=>by simp [E',hj]
  have hbb:E'.β j=E.β j:=rfl;cases hl:lkh j hp<;>simp only [occ,hvv,hbb]
 have hocn:∀ b,occ E' k (lkh k ((k,.row (v+1) m xs' T) :: hp)) b->occ E k (lkh k hp) b\/w.heap.size<=b:=λb=>by
  rw [Zs,if_pos rfl];simp only [occ,hEn];rintro ⟨len,cap,e1,e2⟩;rcases hv with ⟨_,a,rfl⟩ | ⟨b',cap',cs,rfl,q,_⟩
  . simp only [Value.slice.injEq] at e1;exact absurd e1.2.2.symm e2
  . simp at e1;rw [<- e1.1];exact q
 have hst:ZG w w' (okS C E hp) (okS C E' ((k,.row (v+1) m xs' T) :: hp)):=λb hb hs=>by
  have hlt':b < w.heap.size:=by
   obtain ⟨o,ho⟩:=Option.isSome_iff_exists.1 hs;exact (Array.getElem?_eq_some_iff.1 ho).1
  refine ⟨⟨hb.1,λj hj=>?_⟩,hsame b hlt' (hb.2 k)⟩;by_cases hjk:j=k
  . subst hjk;rcases hocn b hj with q | q
    . exact hb.2 _ q
    . omega
  . exact hb.2 j ((hoc j b hjk).1 hj)
 refine ⟨E',hE,hEn,hEi,hkn,⟨λj hj=>?_,λj=>?_,λj j' b h1 h2=>?_,λj b h1=>?_,⟨ho.trans h.kp.os,ht.trans h.kp.tape,hu.trans h.kp.output,Nat.le_trans h.kp.size hsz,λb h1 h2=>?_⟩,λj hj=>(by obtain ⟨p1,p2⟩:=h.pin j hj;exact ⟨p1,p2.trans (hE j p1)⟩)⟩,hst⟩
 . rw [Zs,if_neg (λe=>hj (by rw [e];exact hkn))];exact h.kn j hj
 . rw [Zs];by_cases hj:j=k
   . subst hj;rw [if_pos rfl];simp only [Ya,hEn,hEi];refine ⟨by trivial,?_⟩;rcases hv with ⟨e1,e2⟩ | ⟨b,cap,cs,e1,_,e2,e3,e4,e5,e6,e7⟩
     . exact .inl ⟨e1,e2⟩
     . exact .inr ⟨b,cap,cs,e1,e2,e3,e4,e5,e6,ZE hst hE (λ_ h=>h) _ _ e7⟩
   . rw [if_neg hj];refine YH hst hE (λ_ h=>h) ?_ (λb hob=>hsame b (YE h hob) (λq=>hj (h.dj j k b hob q))) (by simp [E',hj]) (h.bk j);rcases Classical.em (n j) with h' | h'
     . exact .inr h'
     . exact .inl (h.kn j h')
 . by_cases hj:j=k<;>by_cases hj':j'=k
   . omega
   . subst hj;rw [hoc j' b hj'] at h2;rcases hocn b h1 with q | q
     . exact h.dj _ _ b q h2
     . have:=YE h h2;omega
   . subst hj';rw [hoc j b hj] at h1;rcases hocn b h2 with q | q
     . exact h.dj _ _ b h1 q
     . have:=YE h h1;omega
   . exact h.dj j j' b ((hoc j b hj).1 h1) ((hoc j' b hj').1 h2)
 . by_cases hj:j=k
   . subst hj;rcases hocn b h1 with q | q
     . exact h.lo _ b q
     . exact .inl (Nat.le_trans h.kp.size q)
   . exact h.lo j b ((hoc j b hj).1 h1)
 . rw [hsame b (Nat.lt_of_lt_of_le h1 h.kp.size) (λq=>by rcases h.lo k b q with g | g;omega;exact h2 _ g)];exact h.kp.block b h1 h2
theorem X4 {hp:List (Nat × HB)} {n:Nat->Prop} {q m:Nat} {xs:List (List SV)} {T:TypeId} {v:Value} (h:HSim C E hp n w) (hq:¬ n q) (hbel:Below w.heap.size w w')
 (hv:(xs=[]/\∃ a,v = .slice a 0 0)\/∃ cap cs,v = .slice (some ⟨w.heap.size,0,none⟩) xs.length cap/\w'.heap[w.heap.size]? = some (.cells cs T (0,0))/\cs.size=cap * m/\(xs.length<=cap/\cap≠0)/\xs.length<=9223372036854775807 /\
  (∀ r ∈ xs,r.length=m)/\RL w E n (okS C E hp) xs.flatten (cs.toList.take (xs.length * m))) :
 ∃ E',(∀ k,n k->Ele E E' k k)/\E'.hv q 0=v/\E'.iss q=1/\HSim C E' ((q,.row 0 m xs T) :: hp) (λk=>n k\/k=q) w'/\ZG w w' (okS C E hp) (okS C E' ((q,.row 0 m xs T) :: hp)):=by
 let E':Env:=⟨E.β,λk u=>if k=q then v else E.hv k u,λk=>if k=q then 1 else E.iss k⟩
 have hE:∀ k,n k->Ele E E' k k:=λk hk=>⟨rfl,by simp [E',show k≠q from by rintro rfl;exact hq hk],λ_ _=>by simp [E',show k≠q from by rintro rfl;exact hq hk]⟩;have hEi:E'.iss q=1:=by simp [E']
 have hEn:E'.hv q 0=v:=by simp [E']
 have hoc:∀ j b,j≠q->(occ E' j (lkh j ((q,.row 0 m xs T) :: hp)) b↔occ E j (lkh j hp) b):=λj b hj=>by
  rw [Zs,if_neg hj];cases hl:lkh j hp<;>simp only [occ,E',if_neg hj]
 have hocn:∀ b,occ E' q (lkh q ((q,.row 0 m xs T) :: hp)) b->b=w.heap.size:=λb=>by
  rw [Zs,if_pos rfl];simp only [occ,hEn];rintro ⟨len,cap,e1,e2⟩;rcases hv with ⟨_,a,rfl⟩ | ⟨cap',cs,rfl,_⟩
  . simp only [Value.slice.injEq] at e1;exact absurd e1.2.2.symm e2
  . simp at e1;exact e1.1.symm
 have hlt:∀ b,b < w.heap.size->(okS C E' ((q,.row 0 m xs T) :: hp) b↔okS C E hp b):=λb hb=>by
  unfold okS;constructor
  . rintro ⟨h1,h2⟩;refine ⟨h1,λj hj=>?_⟩;by_cases hjn:j=q
    . subst hjn;rw [h.kn j hq] at hj;exact hj
    . exact h2 j ((hoc j b hjn).2 hj)
  . rintro ⟨h1,h2⟩;refine ⟨h1,λj hj=>?_⟩;by_cases hjn:j=q
    . subst hjn;have:=hocn b hj;omega
    . exact h2 j ((hoc j b hjn).1 hj)
 have hst:ZG w w' (okS C E hp) (okS C E' ((q,.row 0 m xs T) :: hp)):=λb hb hs=>by
  have hlt':b < w.heap.size:=by
   obtain ⟨o,ho⟩:=Option.isSome_iff_exists.1 hs;exact (Array.getElem?_eq_some_iff.1 ho).1
  exact ⟨(hlt b hlt').2 hb,hbel.block b hlt'⟩
 refine ⟨E',hE,hEn,hEi,⟨λj hj=>?_,λj=>?_,λj j' b h1 h2=>?_,λj b h1=>?_,WX h.kp hbel,λk hk=>(by obtain ⟨p1,p2⟩:=h.pin k hk;exact ⟨.inl p1,p2.trans (hE k p1)⟩)⟩,hst⟩
 . rw [Zs,if_neg (λe=>hj (.inr e))];exact h.kn j (λe=>hj (.inl e))
 . rw [Zs];by_cases hj:j=q
   . subst hj;rw [if_pos rfl];simp only [Ya,hEn,hEi];refine ⟨trivial,?_⟩;rcases hv with ⟨e1,e2⟩ | ⟨cap,cs,e1,e2,e3,e4,e5,e6,e7⟩
     . exact .inl ⟨e1,e2⟩
     . exact .inr ⟨_,cap,cs,e1,e2,e3,e4,e5,e6,ZE hst hE (λ_ h=>.inl h) _ _ e7⟩
   . rw [if_neg hj];refine YH hst hE (λ_ h=>.inl h) ?_ (λb ho=>hbel.block b (YE h ho)) (by simp [E',hj]) (h.bk j);rcases Classical.em (n j) with h' | h'
     . exact .inr h'
     . exact .inl (h.kn j h')
 . by_cases hj:j=q<;>by_cases hj':j'=q
   . omega
   . subst hj;have:=hocn b h1;rw [hoc j' b hj'] at h2;have:=YE h h2;omega
   . subst hj';have:=hocn b h2;rw [hoc j b hj] at h1;have:=YE h h1;omega
   . exact h.dj j j' b ((hoc j b hj).1 h1) ((hoc j' b hj').1 h2)
 . by_cases hj:j=q
   . subst hj;have:=hocn b h1;exact .inl (by rw [this];exact h.kp.size)
   . exact h.lo j b ((hoc j b hj).1 h1)
end
theorem ZmI {α : Type} (z:List α):∀ (k i:Nat),i < k * z.length->(List.replicate k z).flatten[i]? = z[i % z.length]?
 | 0,i,h=>by simp at h
 | k+1,i,h=>by
  rw [List.replicate_succ,List.flatten_cons];by_cases hi:i < z.length
  . rw [List.getElem?_append_left hi,Nat.mod_eq_of_lt hi]
  . rw [List.getElem?_append_right (by omega),ZmI z k (i - z.length) (by rw [Nat.add_mul,Nat.one_mul] at h;omega),<- Nat.mod_eq_sub_mod (by omega)]
theorem Zoc (z:Array Value) (k:Nat):(madeCells z (k * z.size)).toList=(List.replicate k z.toList).flatten:=by
 apply List.ext_getElem?;intro i;by_cases hi:i < k * z.size
 . rw [ZmI z.toList k i (by simpa using hi)];have hz:0 < z.size:=by
    rcases Nat.eq_zero_or_pos z.size with h | h
    . rw [h] at hi;simp at hi
    . exact h
   have hm:=Nat.mod_lt i hz;unfold madeCells;rw [Array.toList_map,List.getElem?_map,Array.toList_range,List.getElem?_range hi];simp only [Option.map_some,Array.length_toList];rw [getElem!_pos z (i % z.size) hm,List.getElem?_eq_getElem (by simpa using hm)];rfl
 . rw [List.getElem?_eq_none (by simp [madeCells];omega),List.getElem?_eq_none (by simp;omega)]
section
variable {P:Program} {w:World}
theorem ZkX {t e m by' k:Nat} {kd kd':IntKind} {z:Value} (ht:P.underlying t=some (.slice e)) (hm:XT P e=some m) (hb:WZ P e=some by') (hz:Y1 P e=some z) (hzm:z.cells.size=m) (hlim:k * by'<=140737488355328) (hb0:0 < by') (hm0:0 < m) :
 (Instr.makeSlice t (.int kd k) (.int kd' k)).run P w = .ok (.slice (some ⟨w.heap.size,0,none⟩) k k) (w.alloc (.cells (List.replicate k z.cells.toList).flatten.toArray e)):=by
 obtain ⟨i,hi⟩:∃ i,P.info? e=some i:=by
  unfold XT at hm;cases hq:P.info? e with
  | none=>simp [hq] at hm
  | some i=>exact ⟨i,rfl⟩
 have hsz:i.size=m:=by simpa [XT,hi] using hm
 have hby:i.bytes=by':=by simpa [WZ,hi] using hb
 have hzi:i.zero=some z:=by simpa [Y1,hi] using hz
 have hk:k<=140737488355328:=Nat.le_trans (Nat.le_mul_of_pos_right _ hb0) hlim;have hl1:(i.bytes:Int) * (k:Int)<=281474976710656:=by
  have h:((i.bytes * k:Nat):Int)<=281474976710656:=by rw [hby,Nat.mul_comm];omega
  rwa [Int.natCast_mul] at h
 have hr:=run_make (P:=P) w t e i z ht hi hzi kd kd' (k:Int) (k:Int) (by omega) (Int.le_refl _) hl1 (by omega);simp only [Int.toNat_natCast] at hr;rw [hr];congr 3;apply Array.toList_inj.1;rw [hsz,<- hzm,Zoc]
end
def ZyL:SV->Option (List SV)
 | .agg l=>some l
 | _=>none
def ZyK:SV->Option (List SV)
 | .tup l=>some l
 | _=>none
def clL (f:FuncId):SV->Option (List SV)
 | .cl f2 l=>bif Nat.beq f2 f then some l else none
 | _=>none
def mtI (p:SV->Prop) (T:TypeId):SV->Prop
 | .ifc T2 s=>T2=T/\p s
 | _=>False
def mtO (p:List SV->Prop):Option (List SV)->Prop
 | some l=>p l
 | none=>False
def mtB (p:SV->Prop) (q:List SV->Prop):List SV->Prop
 | []=>False
 | s2 :: l2=>p s2/\q l2
mutual
def mtS (ρ : Nat->Nat) (n':Nat):SV->SV->Prop
 | .any,_=>True
 | .p k o,s=>k < n'/\s = .p (ρ k) o
 | .mr k v,s=>k < n'/\s = .mr (ρ k) v
 | .pr k v m i o,s=>k < n'/\s = .pr (ρ k) v m i o
 | .ms k v m i o,s=>k < n'/\s = .ms (ρ k) v m i o
 | .agg l,s=>mtO (mtL ρ n' l) (ZyL s)
 | .tup l,s=>mtO (mtL ρ n' l) (ZyK s)
 | .cl f l,s=>mtO (mtL ρ n' l) (clL f s)
 | .v x,s=>s = .v x
 | .sl c m xs,s=>s = .sl c m xs/\KFR xs
 | .ps l o,s=>s = .ps l o/\KFL l
 | .mp k,s=>k < n'/\s = .mp (ρ k)
 | .yl k,s=>k < n'/\s = .yl (ρ k)
 | .ifc T t,s=>mtI (mtS ρ n' t) T s
 | .q φ,s=>s = .q φ
 | .gd _ _ _,_=>False
def mtL (ρ : Nat->Nat) (n':Nat):List SV->List SV->Prop
 | [],l=>l=[]
 | s :: l,l2=>mtB (mtS ρ n' s) (mtL ρ n' l) l2
end
def mtH (ρ : Nat->Nat) (n':Nat):HB->HB->Prop
 | .gone,_=>True
 | .cells l T,.cells l2 T2=>T2=T/\mtL ρ n' l l2
 | .row v m xs T,h=>h = .row v m xs T/\KFR xs
 | .ob φ,h=>h = .ob φ
 | .map es c,h=>h = .map es c/\∀ e ∈ es,KF e.2.2
 | .it km a b c,h=>km < n'/\h = .it (ρ km) a b c
 | .lp r pd,h=>h = .lp r pd
 | .lb r,h=>h = .lb r
 | .rws v m xs T o m' inn T',h=>h = .rws v m xs T o m' inn T'/\KFR xs/\∀ r ∈ inn,KFR r
 | .cells _ _,.row _ _ _ _=>False
 | .cells _ _,.ob _=>False
 | .cells _ _,.map _ _=>False
 | .cells _ _,.it _ _ _ _=>False
 | .cells _ _,.lp _ _=>False
 | .cells _ _,.lb _=>False
 | .cells _ _,.rws _ _ _ _ _ _ _ _=>False
 | .cells _ _,.gone=>False
def mtM (b:Bool) (p:Prop):Prop :=
 match b with
 | true=>True
 | false=>p
def mtF (ρ : Nat->Nat) (n':Nat):List Nat->List (Nat × SV)->List (Nat × SV)->Prop
 | _,[],_=>True
 | seen,(t,s) :: r,fr=>mtM (Xk t seen) (mtS ρ n' s (lk t fr))/\mtF ρ n' (t :: seen) r fr
def mtP (ρ : Nat->Nat) (hp' hp:List (Nat × HB)) (n':Nat):Nat->Prop
 | 0=>True
 | k+1=>mtH ρ n' (lkh k hp') (lkh (ρ k) hp)/\mtP ρ hp' hp n' k
def hpb (n':Nat):List (Nat × HB)->Prop
 | []=>True
 | (k,_) :: r=>k < n'/\hpb n' r
section
variable {w:World} {E:Env} {ok ok':Nat->Prop} {ρ : Nat->Nat} {n':Nat} {n:Nat->Prop}
def rnE (E:Env) (ρ : Nat->Nat):Env:=⟨λk=>E.β (ρ k),λk=>E.hv (ρ k),λk=>E.iss (ρ k)⟩
mutual
theorem Zkd (hs:ZG w w ok ok'):∀ (s' s:SV) (y:Value),mtS ρ n' s' s->R w E n ok s y->R w (rnE E ρ) (ltn n') ok' s' y
 | .any,_,y,_,_=>by simp only [R]
 | .p k o,s,y,h,hR=>by simp only [mtS] at h;obtain ⟨h1,rfl⟩:=h;simp only [R] at hR ⊢;exact ⟨h1,hR.2⟩
 | .mr k v,s,y,h,hR=>by simp only [mtS] at h;obtain ⟨h1,rfl⟩:=h;simp only [R] at hR ⊢;exact ⟨h1,hR.2⟩
 | .pr k v m i o,s,y,h,hR=>by simp only [mtS] at h;obtain ⟨h1,rfl⟩:=h;simp only [R] at hR ⊢;exact ⟨h1,hR.2⟩
 | .ms k v m i o,s,y,h,hR=>by simp only [mtS] at h;obtain ⟨h1,rfl⟩:=h;simp only [R] at hR ⊢;exact ⟨h1,hR.2⟩
 | .agg l,s,y,h,hR=>by
  simp only [mtS] at h;cases s<;>simp only [ZyL,mtO] at h
  simp only [R] at hR ⊢;obtain ⟨cs,h1,h2⟩:=hR;exact ⟨cs,h1,ZbA hs l _ _ h h2⟩
 | .tup l,s,y,h,hR=>by
  simp only [mtS] at h;cases s<;>simp only [ZyK,mtO] at h
  simp only [R] at hR ⊢;obtain ⟨cs,h1,h2⟩:=hR;exact ⟨cs,h1,ZbA hs l _ _ h h2⟩
 | .cl f l,s,y,h,hR=>by
  simp only [mtS] at h;cases s<;>simp only [clL,mtO] at h
  rename_i f2 l2;cases hf:Nat.beq f2 f<;>rw [hf] at h<;>simp only [cond_true,cond_false,mtO] at h
  have:=Nat.eq_of_beq_eq_true hf;subst this;simp only [R] at hR ⊢;obtain ⟨cs,h1,h2⟩:=hR;exact ⟨cs,h1,ZbA hs l _ _ h h2⟩
 | .v x,s,y,h,hR=>by simp only [mtS] at h;subst h;simpa [R] using hR
 | .sl c m xs,s,y,h,hR=>by
  simp only [mtS] at h;obtain ⟨rfl,h⟩:=h;exact ZU hs (λ_ h=>Ele.rfl) (λ_ h=>h.elim) _ _ (ZiC (E':=rnE E ρ) (n':=λ_=>False) (.sl c m xs) y h hR)
 | .ps l o,s,y,h,hR=>by
  simp only [mtS] at h;obtain ⟨rfl,h⟩:=h;exact ZU hs (λ_ h=>Ele.rfl) (λ_ h=>h.elim) _ _ (ZiC (E':=rnE E ρ) (n':=λ_=>False) (.ps l o) y h hR)
 | .mp k,s,y,h,hR=>by simp only [mtS] at h;obtain ⟨h1,rfl⟩:=h;simp only [R] at hR ⊢;exact ⟨h1,hR.2⟩
 | .yl k,s,y,h,hR=>by simp only [mtS] at h;obtain ⟨h1,rfl⟩:=h;simp only [R] at hR ⊢;exact ⟨h1,hR.2⟩
 | .ifc T t,s,y,h,hR=>by
  simp only [mtS] at h;cases s<;>simp only [mtI] at h
  obtain ⟨rfl,h⟩:=h;simp only [R] at hR ⊢;obtain ⟨x,h1,h2⟩:=hR;exact ⟨x,h1,Zkd hs t _ x h h2⟩
 | .q φ,s,y,h,hR=>by
  simp only [mtS] at h;subst h;exact ZU hs (λ_ h=>Ele.rfl) (λ_ h=>h.elim) _ _ (ZiC (E':=rnE E ρ) (n':=λ_=>False) (.q φ) y trivial hR)
 | .gd _ _ _,_,y,h,_=>by simp only [mtS] at h
theorem ZbA (hs:ZG w w ok ok'):∀ (l' l:List SV) (ys:List Value),mtL ρ n' l' l->RL w E n ok l ys->RL w (rnE E ρ) (ltn n') ok' l' ys
 | [],l,ys,h,hR=>by simp only [mtL] at h;subst h;simpa [RL] using hR
 | s :: l',l,ys,h,hR=>by
  simp only [mtL] at h;cases l<;>simp only [mtB] at h
  simp only [RL] at hR ⊢;obtain ⟨y,r,h1,h2,h3⟩:=hR;exact ⟨y,r,h1,Zkd hs s _ y h.1 h2,ZbA hs l' _ r h.2 h3⟩
end
theorem Zlj:∀ {a b:List SV},KFL a->KFL b->KFL (a ++ b)
 | [],_,_,h=>h
 | _ :: _,_,h1,h2=>⟨h1.1,Zlj h1.2 h2⟩
theorem VN:∀ {xs:List (List SV)},KFR xs->KFL xs.flatten
 | [],_=>trivial
 | _ :: _,h=>by rw [List.flatten_cons];exact Zlj h.1 (VN h.2)
theorem Zdk {s' s:SV} (h:mtS ρ n' s' s):∀ j b u,s'≠.gd j b u:=by rintro j b u rfl;simp only [mtS] at h
theorem Zy3 {s':SV} {j:Nat} {b:Bool} {u:SV} (h:mtS ρ n' s' (.gd j b u)):s' = .any:=by
 cases s'<;>simp only [mtS,ZyL,ZyK,clL,mtO] at h<;>first | rfl | exact h.elim | (cases h;done) | (cases h.2;done) | (cases h.1;done)
theorem mtS_R {fr:List (Nat × SV)} {s' s:SV} {y:Value} (hs:ZG w w ok ok') (h:mtS ρ n' s' s) (hR:FR w E n ok fr s y):R w (rnE E ρ) (ltn n') ok' s' y:=by
 by_cases hg:∃ j b u,s = .gd j b u
 . obtain ⟨j,b,u,rfl⟩:=hg;rw [Zy3 h];simp only [R]
 . exact Zkd hs _ _ _ h (Zt6 hR (λj b u e=>hg ⟨j,b,u,e⟩))
theorem Zks:∀ {seen:List Nat} {r fr:List (Nat × SV)},mtF ρ n' seen r fr->∀ t,Xk t seen=false->lk t r = .any\/mtS ρ n' (lk t r) (lk t fr)
 | _,[],_,_,t,_=>.inl rfl
 | seen,(u,s) :: r,fr,h,t,hs=>by
  rw [ZI];by_cases ht:t=u
  . subst ht;rw [if_pos rfl];have:=h.1;rw [hs] at this;exact .inr this
  . rw [if_neg ht];refine Zks h.2 t ?_;have:Nat.beq t u=false:=Bool.eq_false_iff.2 (λe=>ht (Nat.eq_of_beq_eq_true e));simp [Xk,this,hs]
theorem Zj0 {hp' hp:List (Nat × HB)}:∀ {m:Nat},mtP ρ hp' hp n' m->∀ k,k < m->mtH ρ n' (lkh k hp') (lkh (ρ k) hp)
 | 0,_,k,h=>by omega
 | m+1,h,k,hk=>by
  by_cases e:k=m
  . subst e;exact h.1
  . exact Zj0 h.2 k (by omega)
theorem Zdj:∀ {hp:List (Nat × HB)},hpb n' hp->∀ k,¬ k < n'->lkh k hp = .gone
 | [],_,k,_=>rfl
 | (j,_) :: r,h,k,hk=>by rw [Zs,if_neg (by rintro rfl;exact hk h.1)];exact Zdj h.2 k hk
theorem Zrp {w:World} {E E':Env} {n n' ok ok':Nat->Prop} (hs:ZG w w ok ok'):∀ (l:List (Nat × Value × SV)) (ys:List MapEntry),(∀ e ∈ l,KF e.2.2)->RM w E n ok l ys->RM w E' n' ok' l ys
 | [],ys,_,h=>by simpa [RM] using h
 | e :: l,ys,hk,h=>by
  simp only [RM] at h ⊢;obtain ⟨y,r,h1,h2,h3⟩:=h;exact ⟨y,r,h1,ZU hs (λ_ h=>Ele.rfl) (λ_ h=>h.elim) _ _ (ZiC (E':=E') (n':=λ_=>False) _ y (hk e (by simp)) h2),Zrp hs l r (λe he=>hk e (by simp [he])) h3⟩
end
theorem Zo8 {w:World} {E E':Env} {n n' ok ok':Nat->Prop} (hs:YM w w ok ok'):∀ {l:List SV},KFL l->F2 (λs s'=>∀ y,R w E n ok s y->R w E' n' ok' s' y) l l
 | [],_=>.nil
 | _ :: _,h=>.cons (λy hy=>ZU hs (λ_ h=>Ele.rfl) (λ_ h=>h.elim) _ _ (ZiC (E':=E') (n':=λ_=>False) _ y h.1 hy)) (Zo8 hs h.2)
theorem ZjZ {w:World} {E E':Env} {n n' ok ok':Nat->Prop} (hs:YM w w ok ok') {k k' o:Nat} (hm:∀ u y,R w E n ok (.mr k u) y->R w E' n' ok' (.mr k' u) y):∀ {xs:List (List SV)} {u N:Nat},KFR xs ->
 F2 (λs s'=>∀ y,R w E n ok s y->R w E' n' ok' s' y) (ZaB k o u N xs).flatten (ZaB k' o u N xs).flatten
 | xs,u,0,h=>by simp only [ZaB];exact Zo8 hs (VN h)
 | [],u,N+1,h=>by simp only [ZaB];exact .nil
 | row :: xs,u,N+1,h=>by
  simp only [ZaB,List.flatten_cons];exact ZjS (Zk0 (hm u) o (Zo8 hs h.1)) (ZjZ hs hm h.2)
theorem WQ (k o:Nat):∀ (u N:Nat) (xs:List (List SV)) (i:Nat),(ZaB k o u N xs)[i]? = if i < N then (xs[i]?).map (λr=>r.set o (.mr k (u+i))) else xs[i]?
 | _,0,_,_=>by simp [ZaB]
 | _,_+1,[],_=>by simp [ZaB]
 | u,N+1,row :: xs,0=>by simp [ZaB]
 | u,N+1,row :: xs,i+1=>by
  simp only [ZaB,List.getElem?_cons_succ,WQ k o (u+1) N xs i,show u+1+i=u+(i+1) from by omega];by_cases h:i < N
  . rw [if_pos h,if_pos (by omega)]
  . rw [if_neg h,if_neg (by omega)]
theorem Zel {k o m:Nat} {u N:Nat} {xs:List (List SV)}:(∀ r ∈ ZaB k o u N xs,r.length=m)↔∀ r ∈ xs,r.length=m:=by
 constructor
 . intro h r hr;obtain ⟨i,hi⟩:=List.mem_iff_getElem?.1 hr;by_cases hN:i < N
   . have:=h (r.set o (.mr k (u+i))) (List.mem_iff_getElem?.2 ⟨i,by rw [WQ,if_pos hN,hi];rfl⟩);simpa using this
   . exact h r (List.mem_iff_getElem?.2 ⟨i,by rw [WQ,if_neg hN,hi]⟩)
 . intro h r hr;obtain ⟨i,hi⟩:=List.mem_iff_getElem?.1 hr;rw [WQ] at hi;split at hi
   . cases hx:xs[i]? with
     | none=>rw [hx] at hi;cases hi
     | some r0=>rw [hx] at hi;simp at hi;subst hi;rw [List.length_set];exact h r0 (List.mem_of_getElem? hx)
   . exact h r (List.mem_of_getElem? hi)
theorem Ua {w:World} {E E':Env} {n n' ok ok':Nat->Prop} {k k' v m:Nat} {xs:List (List SV)} {T:TypeId} {o m':Nat} {inn:List (List (List SV))} {T':TypeId} (hs:YM w w ok ok') (hv:∀ u,u < E.iss k->E'.hv k' u=E.hv k u) (hi:E'.iss k'=E.iss k) (hn:n' k')
 (h1:KFR xs) (h2:∀ r ∈ inn,KFR r) (h:Ya w E n ok k (.rws v m xs T o m' inn T')):Ya w E' n' ok' k' (.rws v m xs T o m' inn T'):=by
 simp only [Ya] at h ⊢;obtain ⟨a1,a2,a3,a4⟩:=h;have hm:∀ u y,R w E n ok (.mr k u) y->R w E' n' ok' (.mr k' u) y:=λu y hy=>by
  simp only [R] at hy ⊢;exact ⟨hn,by rw [hi];exact hy.2.1,by rw [hv u hy.2.1];exact hy.2.2.1,hy.2.2.2⟩
 refine ⟨hi.trans a1,a2,λi mm rows TT hr=>?_,λi j b q1 q2 g1 g2=>a4 i j b q1 q2 (by rw [<- hv _ (by omega)];exact g1) (by rw [<- hv _ (by omega)];exact g2)⟩;have hil:=ZaV hr;rw [hv _ (by omega)];cases i with
 | zero =>
  simp only [Xg,Option.some.injEq,Prod.mk.injEq] at hr;obtain ⟨rfl,rfl,rfl⟩:=hr;have hl1:=VO k o (v+1) inn.length xs;have hl2:=VO k' o (v+1) inn.length xs;rcases a3 0 _ _ _ rfl with ⟨q1,q2⟩ | ⟨b,cap,cs,q1,q2,q3,q4,q5,q6,q7⟩
  . exact .inl ⟨List.eq_nil_of_length_eq_zero (by rw [hl2,<- hl1,q1];rfl),q2⟩
  . rw [hl1] at q1 q4 q5 q7;exact .inr ⟨b,cap,cs,by rw [hl2];exact q1,q2,q3,by rw [hl2];exact q4,by rw [hl2];exact q5,Zel.2 (Zel.1 q6),by rw [hl2];exact Zdz (ZjZ hs hm h1) q7⟩
 | succ j =>
  have hr0:=hr;simp only [Xg] at hr;split at hr
  . rename_i r hr1;simp only [Option.some.injEq,Prod.mk.injEq] at hr;obtain ⟨rfl,rfl,rfl⟩:=hr;have hkf:=h2 r (List.mem_of_getElem? hr1);rcases a3 (j+1) m' r T' (by simp only [Xg,hr1]) with q | ⟨b,cap,cs,q1,q2,q3,q4,q5,q6,q7⟩
    . exact .inl q
    . exact .inr ⟨b,cap,cs,q1,q2,q3,q4,q5,q6,Zdz (Zo8 hs (VN hkf)) q7⟩
  . cases hr
mutual
def rnS (ρ : Nat->Nat):SV->SV
 | .p k o=>.p (ρ k) o
 | .mr k v=>.mr (ρ k) v
 | .pr k v m i o=>.pr (ρ k) v m i o
 | .ms k v m i o=>.ms (ρ k) v m i o
 | .mp k=>.mp (ρ k)
 | .yl k=>.yl (ρ k)
 | .agg l=>.agg (rnL ρ l)
 | .tup l=>.tup (rnL ρ l)
 | .cl f l=>.cl f (rnL ρ l)
 | .ifc T s=>.ifc T (rnS ρ s)
 | .v x=>.v x
 | .sl c m xs=>.sl c m xs
 | .ps l o=>.ps l o
 | .q φ=>.q φ
 | .gd j w s=>.gd j w s
 | .any=>.any
def rnL (ρ : Nat->Nat):List SV->List SV
 | []=>[]
 | s :: l=>rnS ρ s :: rnL ρ l
end
mutual
def KX:SV->Prop
 | .sl _ _ xs=>KFR xs
 | .ps row _=>KFL row
 | .agg l=>KXL l
 | .tup l=>KXL l
 | .cl _ l=>KXL l
 | .ifc _ s=>KX s
 | .p _ _=>True
 | .mr _ _=>True
 | .pr _ _ _ _ _=>True
 | .ms _ _ _ _ _=>True
 | .mp _=>True
 | .yl _=>True
 | .v _=>True
 | .q _=>True
 | .gd _ _ _=>True
 | .any=>True
def KXL:List SV->Prop
 | []=>True
 | s :: l=>KX s/\KXL l
end
def rnH (ρ : Nat->Nat):HB->HB
 | .cells l T=>.cells (rnL ρ l) T
 | .row v m xs T=>.row v m xs T
 | .ob φ=>.ob φ
 | .map es c=>.map es c
 | .it km a b c=>.it (ρ km) a b c
 | .lp r pd=>.lp r pd
 | .lb r=>.lb r
 | .rws v m xs T o m' inn T'=>.rws v m xs T o m' inn T'
 | .gone=>.gone
def KXH:HB->Prop
 | .cells l _=>KXL l
 | .row _ _ xs _=>KFR xs
 | .map es _=>∀ e ∈ es,KF e.2.2
 | .ob _=>True
 | .it _ _ _ _=>True
 | .lp _ _=>True
 | .lb _=>True
 | .rws _ _ xs _ _ _ inn _=>KFR xs/\∀ r ∈ inn,KFR r
 | .gone=>True
def KXP:List (Nat × HB)->Prop
 | []=>True
 | (_,hb) :: r=>KXH hb/\KXP r
def rnP (ρ : Nat->Nat):List (Nat × HB)->List (Nat × HB)
 | []=>[]
 | (k,hb) :: r=>(ρ k,rnH ρ hb) :: rnP ρ r
def Zb7 (ρ : Nat->Nat):Nat->List (Nat × HB)
 | 0=>[]
 | k+1=>(ρ k,.gone) :: Zb7 ρ k
def exB (b:Bool) (x y:Nat):Nat:=bif b then x else y
def exR (ρ : Nat->Nat) (n0 n:Nat) (k:Nat):Nat:=exB (Nat.blt k n0) (ρ k) (n+(k - n0))
structure Ot where
 pn:Bool
 res:SV
 hp:List (Nat × HB)
 n:Nat
def ZuQ:Bool->Value->Ending
 | false,y=>.returned y
 | true,y=>.panicked [{ v:=y,recovered:=false }]
def ZBY (ρ : Nat->Nat) (n0:Nat):Prop:=∀ i,i < n0->∀ j,j < n0->ρ i = ρ j->i=j
abbrev Hd:=Nat->List SV->List (Nat × HB)->Nat->(Ot->Prop)->Prop
def Y0:Hd:=λ_ _ _ _ _=>False
def Sub (C C':Cx):Prop:=∀ E hp n w,HSim C' E hp (ltn n) w->C.w0.heap.size<=w.heap.size/\(∀ b,C.okp b->b < C.w0.heap.size->(∀ k,¬ C.pass k b)->okS C' E hp b/\w.heap[b]? = C.w0.heap[b]?)/\∀ k,k < C.m0->k < n/\Ele C.e0 E k k
theorem Sub.rfl {C:Cx}:Sub C C:=λE hp n w h=>⟨h.kp.size,λb h1 h2 h3=>⟨⟨.inl h1,λk ho=>by
 rcases h.lo k b ho with q | q
 . omega
 . exact h3 k q⟩,h.kp.block b h2 h3⟩,λk hk=>h.pin k hk⟩
def ZcM (P:Program) (C0:Cx) (Y:Hd):Prop:=∀ C,Sub C0 C->∀ k args hp n Φ,Y k args hp n Φ->∀ E w vs,HSim C E hp (ltn n) w->k < n->RL w E (ltn n) (okS C E hp) args vs ->
 ∃ fn tmps assign body,(Instr.yield (E.β k) vs.toArray).run P w = .ok (.round (E.β k) fn tmps assign body) w/\Za3 P (E.β k) fn tmps assign body w λe w' =>
  ∃ o E' y,Φ o/\(∀ j,j < n->Ele E E' j j)/\n<=o.n/\HSim C E' o.hp (ltn o.n) w'/\R w' E' (ltn o.n) (okS C E' o.hp) o.res y/\ZG w w' (okS C E hp) (okS C E' o.hp)/\e=ZuQ o.pn y
theorem Zcm {P:Program} {C:Cx}:ZcM P C Y0:=λ_ _ _ _ _ _ _ h=>h.elim
def CtY (P:Program) (Y:Hd) (f:FuncId) (hp0:List (Nat × HB)) (n0:Nat) (args:List SV) (ZO:Ot->Prop):Prop :=
 ∀ C E w vs,C.w0=w->C.rd=none->C.ds=[]->C.e0=E->C.m0=n0->(∀ k b,C.pass k b->k < C.m0)->ZcM P C Y->HSim C E hp0 (ltn n0) w->RL w E (ltn n0) (okS C E hp0) args vs->Calls P f vs.toArray w λe w' =>
  ∃ o E' y,ZO o/\HSim C E' o.hp (ltn o.n) w'/\R w' E' (ltn o.n) (okS C E' o.hp) o.res y/\e=ZuQ o.pn y
structure CtM (P:Program) (f:FuncId) (hp0:List (Nat × HB)) (n0:Nat) (args:List SV) (ZO:Ot->Prop):Prop where
 bd:Yn P f=true
 hb:hpb n0 hp0
 kp:∀ o,ZO o->KX o.res/\KXP o.hp
 run:CtY P Y0 f hp0 n0 args ZO
section
variable {w:World} {E E':Env} {n n' ok:Nat->Prop} {ρ : Nat->Nat}
mutual
theorem R_rn (hE:∀ k,n k->Ele E E' k (ρ k)) (hn:∀ k,n k->n' (ρ k)):∀ (s:SV) (y:Value),KX s->R w E n ok s y->R w E' n' ok (rnS ρ s) y
 | .p k o,y,_,h=>by simp only [R,rnS] at *;exact ⟨hn k h.1,by rw [(hE k h.1).1];exact h.2⟩
 | .mr k v,y,_,h=>by simp only [R,rnS] at *;exact ⟨hn k h.1,Nat.lt_of_lt_of_le h.2.1 (hE k h.1).2.1,by rw [(hE k h.1).2.2 v h.2.1];exact h.2.2⟩
 | .pr k v m i o,y,_,h=>by simp only [R,rnS] at *;exact ⟨hn k h.1,Nat.lt_of_lt_of_le h.2.1 (hE k h.1).2.1,by rw [(hE k h.1).2.2 v h.2.1];exact h.2.2⟩
 | .ms k v m i o,y,_,h=>by simp only [R,rnS] at *;exact ⟨hn k h.1,Nat.lt_of_lt_of_le h.2.1 (hE k h.1).2.1,by rw [(hE k h.1).2.2 v h.2.1];exact h.2.2⟩
 | .mp k,y,_,h=>by simp only [R,rnS] at *;exact ⟨hn k h.1,by rw [(hE k h.1).1];exact h.2⟩
 | .yl k,y,_,h=>by simp only [R,rnS] at *;exact ⟨hn k h.1,by rw [(hE k h.1).1];exact h.2⟩
 | .agg l,y,hx,h=>by simp only [R,rnS,KX] at *;obtain ⟨cs,h1,h2⟩:=h;exact ⟨cs,h1,Zku hE hn l _ hx h2⟩
 | .tup l,y,hx,h=>by simp only [R,rnS,KX] at *;obtain ⟨cs,h1,h2⟩:=h;exact ⟨cs,h1,Zku hE hn l _ hx h2⟩
 | .cl f l,y,hx,h=>by simp only [R,rnS,KX] at *;obtain ⟨cs,h1,h2⟩:=h;exact ⟨cs,h1,Zku hE hn l _ hx h2⟩
 | .ifc T s,y,hx,h=>by simp only [R,rnS,KX] at *;obtain ⟨x,h1,h2⟩:=h;exact ⟨x,h1,R_rn hE hn s x hx h2⟩
 | .v x,y,_,h=>by simpa only [R,rnS] using h
 | .sl c m xs,y,hx,h=>ZiC (E':=E') (n':=n') (.sl c m xs) y (by simpa [KF,KX] using hx) h
 | .ps l o,y,hx,h=>ZiC (E':=E') (n':=n') (.ps l o) y (by simpa [KF,KX] using hx) h
 | .q φ,y,_,h=>by simpa only [R,rnS] using h
 | .gd _ _ _,y,_,h=>by simp only [R] at h
 | .any,y,_,h=>by simp only [R,rnS]
theorem Zku (hE:∀ k,n k->Ele E E' k (ρ k)) (hn:∀ k,n k->n' (ρ k)):∀ (l:List SV) (ys:List Value),KXL l->RL w E n ok l ys->RL w E' n' ok (rnL ρ l) ys
 | [],ys,_,h=>by simpa only [RL,rnL] using h
 | s :: l,ys,hx,h=>by simp only [RL,rnL,KXL] at *;obtain ⟨y,r,h1,h2,h3⟩:=h;exact ⟨y,r,h1,R_rn hE hn s y hx.1 h2,Zku hE hn l r hx.2 h3⟩
end
theorem ZtW {k:Nat} {hb:HB} (hk:hb = .gone\/n k) (hE:∀ k,n k->Ele E E' k (ρ k)) (hn:∀ k,n k->n' (ρ k)) (hx:KXH hb) (hI:E'.iss (ρ k)=E.iss k) (h:Ya w E n ok k hb):Ya w E' n' ok (ρ k) (rnH ρ hb):=by
 cases hb with
 | gone=>trivial
 | cells l T =>
  have e:=hE k (by simpa using hk);simp only [Ya,rnH,e.1] at *;obtain ⟨cs,h1,h2⟩:=h;exact ⟨cs,h1,Zku hE hn l _ hx h2⟩
 | row v m xs T =>
  have e:=hE k (by simpa using hk);simp only [Ya,rnH] at h ⊢;obtain ⟨hi,h⟩:=h;rw [e.2.2 v (by omega)];refine ⟨hI.trans hi,?_⟩;rcases h with h | ⟨b,cap,cs,h1,h2,h3,h4,h5,h6,h7⟩
  . exact .inl h
  . exact .inr ⟨b,cap,cs,h1,h2,h3,h4,h5,h6,Zb6 _ _ (VN hx) h7⟩
 | ob φ =>
  have e:=hE k (by simpa using hk);simp only [Ya,rnH,e.1] at *;exact h
 | map es c =>
  have e:=hE k (by simpa using hk);simp only [Ya,rnH,e.1] at *;obtain ⟨ys,h1,h2⟩:=h;exact ⟨ys,h1,Zrp (λb hb _=>⟨hb,rfl⟩) _ _ hx h2⟩
 | it km a b c =>
  have e:=hE k (by simpa using hk);simp only [Ya,rnH,e.1] at *;exact ⟨hn km h.1,by rw [(hE km h.1).1];exact h.2⟩
 | lp r pd =>
  have e:=hE k (by simpa using hk);simp only [Ya,rnH,e.1] at *;exact h
 | lb r =>
  have e:=hE k (by simpa using hk);simp only [Ya,rnH,e.1] at *;exact h
 | rws v m xs T o m' inn T' =>
  have e:=hE k (by simpa using hk);exact Ua (λb hb _=>⟨hb,rfl⟩) e.2.2 hI (hn k (by simpa using hk)) hx.1 hx.2 h
theorem Zzs {k b:Nat} {hb:HB} (e:E'.β (ρ k)=E.β k/\E'.iss (ρ k)=E.iss k/\∀ v,E'.hv (ρ k) v=E.hv k v):occ E' (ρ k) (rnH ρ hb) b↔occ E k hb b:=by
 cases hb<;>simp only [rnH,occ,e.1,e.2.2]
end
def Vn (l:List (Nat × HB)):List Nat:=l.map (·.1)
theorem ZbM (j:Nat):∀ (l r:List (Nat × HB)),lkh j (l ++ r)=if j ∈ Vn l then lkh j l else lkh j r
 | [],r=>by simp [Vn]
 | (k,hb) :: l,r=>by
  rw [List.cons_append,Zs,Zs,ZbM j l r];by_cases h:j=k
  . subst h;simp [Vn]
  . simp only [if_neg h];have:(j ∈ Vn ((k,hb) :: l))↔j ∈ Vn l:=by simp [Vn,h]
    simp only [this]
theorem Zer {j:Nat}:∀ {l:List (Nat × HB)},j ∉ Vn l->lkh j l = .gone
 | [],_=>rfl
 | (k,hb) :: l,h=>by
  simp only [Vn,List.map_cons,List.mem_cons,not_or] at h;rw [Zs,if_neg h.1];exact Zer (l:=l) h.2
theorem Zlv {ρ : Nat->Nat} (hi:∀ i j,ρ i = ρ j->i=j) (k:Nat):∀ (l:List (Nat × HB)),lkh (ρ k) (rnP ρ l)=rnH ρ (lkh k l)
 | []=>rfl
 | (u,hb) :: l=>by
  simp only [rnP,Zs,Zlv hi k l];by_cases h:k=u
  . subst h;simp
  . rw [if_neg h,if_neg (λe=>h (hi _ _ e))]
theorem Zgf {ρ : Nat->Nat} (l:List (Nat × HB)):Vn (rnP ρ l)=(Vn l).map ρ:=by
 induction l with
 | nil=>rfl
 | cons x l ih=>obtain ⟨k,hb⟩:=x;simp only [rnP,Vn,List.map_cons] at *;rw [ih]
theorem Us {ρ : Nat->Nat} {j:Nat}:∀ {n0:Nat},j ∈ Vn (Zb7 ρ n0)↔∃ i,i < n0/\ρ i=j
 | 0=>by simp [Vn,Zb7]
 | n0+1=>by
  simp only [Zb7,Vn,List.map_cons,List.mem_cons];have ih:=Us (ρ:=ρ) (j:=j) (n0:=n0);simp only [Vn] at ih;rw [ih];constructor
  . rintro (h | ⟨i,h1,h2⟩)
    . exact ⟨n0,by omega,h.symm⟩
    . exact ⟨i,by omega,h2⟩
  . rintro ⟨i,h1,h2⟩;by_cases e:i=n0
    . subst e;exact .inl h2.symm
    . exact .inr ⟨i,by omega,h2⟩
theorem Zf3 {ρ : Nat->Nat} {j:Nat}:∀ {n0:Nat},lkh j (Zb7 ρ n0) = .gone
 | 0=>rfl
 | n0+1=>by simp only [Zb7,Zs];split;rfl;exact Zf3
theorem Zte:∀ {l:List (Nat × HB)},KXP l->∀ k,KXH (lkh k l)
 | [],_,k=>by simp [lkh,KXH]
 | (u,hb) :: l,h,k=>by
  rw [Zs];split
  . exact h.1
  . exact Zte h.2 k
def hpM (ρ : Nat->Nat) (n0 n:Nat) (o:Ot) (hp:List (Nat × HB)):List (Nat × HB):=rnP (exR ρ n0 n) o.hp ++ (Zb7 ρ n0 ++ hp)
section
variable {P:Program} {C:Cx} {E:Env} {hp:List (Nat × HB)} {w:World}
theorem Vd {ρ : Nat->Nat} {n0 n k:Nat} (h:k < n0):exR ρ n0 n k = ρ k:=by
 have:Nat.blt k n0=true:=by simpa [Nat.blt_eq] using h
 simp [exR,exB,this]
theorem Uw {ρ : Nat->Nat} {n0 n k:Nat} (h:¬ k < n0):exR ρ n0 n k=n+(k - n0):=by
 have:Nat.blt k n0=false:=by rw [Bool.eq_false_iff];intro e;exact h (by simpa [Nat.blt_eq] using e)
 simp [exR,exB,this]
theorem Zx6 {ρ : Nat->Nat} {n0 n:Nat} (hi:ZBY ρ n0) (hl:∀ i,i < n0->ρ i < n) (i j:Nat) (h:exR ρ n0 n i=exR ρ n0 n j):i=j:=by
 by_cases h1:i < n0<;>by_cases h2:j < n0
 . rw [Vd h1,Vd h2] at h;exact hi i h1 j h2 h
 . rw [Vd h1,Uw h2] at h;have:=hl i h1;omega
 . rw [Uw h1,Vd h2] at h;have:=hl j h2;omega
 . rw [Uw h1,Uw h2] at h;omega
theorem ZjN {f:FuncId} {hp0:List (Nat × HB)} {n0 n:Nat} {args0 args:List SV} {vs:List Value} {ZO:Ot->Prop} (ρ : Nat->Nat) (hh:HSim C E hp (ltn n) w) (hc:CtM P f hp0 n0 args0 ZO) (hargs:mtL ρ n0 args0 args)
 (hP:mtP ρ hp0 hp n0 n0) (hi:ZBY ρ n0) (hl:∀ i,i < n0->ρ i < n) (hR:RL w E (ltn n) (okS C E hp) args vs):Calls P f vs.toArray w λe w' =>
 ∃ o E' y,ZO o/\(∀ k,k < n->Ele E E' k k)/\HSim C E' (hpM ρ n0 n o hp) (ltn (n+(o.n - n0))) w'/\R w' E' (ltn (n+(o.n - n0))) (okS C E' (hpM ρ n0 n o hp)) (rnS (exR ρ n0 n) o.res) y /\
  ZG w w' (okS C E hp) (okS C E' (hpM ρ n0 n o hp))/\e=ZuQ o.pn y:=by
 have hH:=Zj0 hP;have hgone:=Zdj hc.hb;have hocc:∀ k b,occ (rnE E ρ) k (lkh k hp0) b->k < n0/\occ E (ρ k) (lkh (ρ k) hp) b:=λk b ho=>by
  by_cases hk:k < n0
  . refine ⟨hk,?_⟩;have:=hH k hk;cases h1:lkh k hp0<;>rw [h1] at ho this
    . cases h2:lkh (ρ k) hp<;>rw [h2] at this<;>simp only [mtH] at this
      exact ho
    . simp only [mtH] at this;rw [this.1];exact ho
    . simp only [mtH] at this;rw [this];exact ho
    . simp only [mtH] at this;rw [this.1];exact ho
    . simp only [mtH] at this;rw [this.2];exact ho
    . simp only [mtH] at this;rw [this];exact ho
    . simp only [mtH] at this;rw [this];exact ho
    . simp only [mtH] at this;rw [this.1];exact ho
    . exact ho.elim
  . rw [hgone k hk] at ho;exact ho.elim
 let C2:Cx:=⟨w,okS C E hp,λk b=>k < n0/\occ E (ρ k) (lkh (ρ k) hp) b,[],none,rnE E ρ,n0,Zu hh,λg l hg k ho=>Vk hh hg (ρ k) ho.2⟩
 have hst0:ZG w w (okS C E hp) (okS C2 (rnE E ρ) hp0):=λb hb _=>⟨⟨.inl hb,λk ho=>hb.2 _ (hocc k b ho).2⟩,rfl⟩;have hS2:HSim C2 (rnE E ρ) hp0 (ltn n0) w:=by
  refine ⟨hgone,λk=>?_,λk k' b h1 h2=>?_,λk b h1=>.inr ⟨(hocc k b h1).1,(hocc k b h1).2⟩,⟨rfl,rfl,rfl,Nat.le_refl _,λ_ _ _=>rfl⟩,λk hk=>⟨hk,Ele.rfl⟩⟩
  . by_cases hk:k < n0
    . have:=hH k hk;have hbk:=hh.bk (ρ k);cases h1:lkh k hp0<;>rw [h1] at this
      . cases h2:lkh (ρ k) hp<;>rw [h2] at this hbk<;>simp only [mtH] at this
        obtain ⟨rfl,this⟩:=this;simp only [Ya] at hbk ⊢;obtain ⟨cs,k1,k2⟩:=hbk;exact ⟨cs,k1,ZbA hst0 _ _ _ this k2⟩
      . simp only [mtH] at this;rw [this.1] at hbk;simp only [Ya] at hbk ⊢;obtain ⟨hi',hbk⟩:=hbk;refine ⟨hi',?_⟩;rcases hbk with q | ⟨b,cap,cs,q1,q2,q3,q4,q5,q6,q7⟩
        . exact .inl q
        . exact .inr ⟨b,cap,cs,q1,q2,q3,q4,q5,q6,ZE hst0 (λ_ h=>Ele.rfl) (λ_ h=>h.elim) _ _ (Zb6 (E':=rnE E ρ) (n':=λ_=>False) _ _ (VN this.2) q7)⟩
      . rename_i φ;simp only [mtH] at this;rw [this] at hbk;simp only [Ya] at hbk ⊢;obtain ⟨o,k1,k2⟩:=hbk;exact ⟨o,k1,φ.mono _ _ _ _ _ hst0 k2⟩
      . simp only [mtH] at this;obtain ⟨this,hkf⟩:=this;rw [this] at hbk;simp only [Ya] at hbk ⊢;obtain ⟨ys,k1,k2⟩:=hbk;exact ⟨ys,k1,Zrp hst0 _ _ hkf k2⟩
      . simp only [mtH] at this;rw [this.2] at hbk;simp only [Ya] at hbk ⊢;exact ⟨this.1,hbk.2⟩
      . simp only [mtH] at this;rw [this] at hbk;simp only [Ya] at hbk ⊢;exact hbk
      . simp only [mtH] at this;rw [this] at hbk;simp only [Ya] at hbk ⊢;exact hbk
      . simp only [mtH] at this;obtain ⟨this,k1,k2⟩:=this;rw [this] at hbk;exact Ua (E:=E) (k:=ρ k) (E':=rnE E ρ) hst0.c (λ_ _=>rfl) rfl hk k1 k2 hbk
      . trivial
    . rw [hgone k hk];trivial
  . have e1:=hocc k b h1;have e2:=hocc k' b h2;exact hi k e1.1 k' e2.1 (hh.dj _ _ b e1.2 e2.2)
 refine (hc.run C2 (rnE E ρ) w vs rfl rfl rfl rfl rfl (λk b h=>h.1) Zcm hS2 (ZbA hst0 _ _ _ hargs hR)).mono λe w' ⟨o,E2,y,hpo,h2,hy,he⟩=>?_;obtain ⟨kx1,kx2⟩:=hc.kp o hpo;have kx2:=Zte kx2
 let σ:=exR ρ n0 n
 have hinj:=Zx6 hi hl;have hn0:n0<=o.n:=by
  rcases Nat.eq_zero_or_pos n0 with h | h
  . omega
  . have:=(h2.pin (n0 - 1) (show n0 - 1 < n0 by omega)).1;simp only [ltn] at this;omega
 let iv:Nat->Nat:=λj=>open Classical in if h:∃ k,σ k=j then Classical.choose h else 0
 have hiv:∀ k,iv (σ k)=k:=λk=>by
  have h:∃ i,σ i = σ k:=⟨k,rfl⟩
  simp only [iv,dif_pos h];exact hinj _ _ (Classical.choose_spec h)
 let im:Nat->Prop:=λj=>∃ k,σ k=j
 let E':Env:=open Classical in ⟨λj=>if im j then E2.β (iv j) else E.β j,λj=>if im j then E2.hv (iv j) else E.hv j,λj=>if im j then E2.iss (iv j) else E.iss j⟩
 have hEq:∀ k,E'.β (σ k)=E2.β k/\E'.iss (σ k)=E2.iss k/\∀ v,E'.hv (σ k) v=E2.hv k v:=λk=>by
  have:im (σ k):=⟨k,rfl⟩
  simp only [E',if_pos this,hiv];exact ⟨trivial,trivial,λ_=>trivial⟩
 have hEo:∀ j,(∀ k,σ k≠j)->E'.β j=E.β j/\E'.iss j=E.iss j/\∀ v,E'.hv j v=E.hv j v:=λj hj=>by
  have:¬ im j:=λ⟨k,h⟩=>hj k h;simp only [E',if_neg this];exact ⟨trivial,trivial,λ_=>trivial⟩
 have hE0:∀ k,k < n->Ele E E' k k:=λk hk=>by
  by_cases hm:im k
  . obtain ⟨i,rfl⟩:=hm;have hi0:i < n0:=by
     rcases Nat.lt_or_ge i n0 with h | h
     . exact h
     . exfalso;have e:=Uw (ρ:=ρ) (n:=n) (Nat.not_lt.2 h);simp only [σ] at hk;omega
    have e:σ i = ρ i:=Vd hi0;obtain ⟨_,p1,p2,p3⟩:=h2.pin i hi0;obtain ⟨q1,q2,q3⟩:=hEq i;rw [e] at q1 q2 q3 ⊢;exact ⟨q1.trans p1,q2 ▸ p2,λv hv=>(q3 v).trans (p3 v hv)⟩
  . obtain ⟨q1,q2,q3⟩:=hEo k (λi h=>hm ⟨i,h⟩);exact ⟨q1,Nat.le_of_eq q2.symm,λv _=>q3 v⟩
 have hE2:∀ k,ltn o.n k->Ele E2 E' k (σ k):=λk _=>⟨(hEq k).1,Nat.le_of_eq (hEq k).2.1.symm,λv _=>(hEq k).2.2 v⟩;have hnn:∀ k,ltn o.n k->ltn (n+(o.n - n0)) (σ k):=λk hk=>by
  show exR ρ n0 n k < n+(o.n - n0)
  simp only [ltn] at hk;by_cases hk0:k < n0
  . rw [Vd hk0];have:=hl k hk0;omega
  . rw [Uw hk0];omega
 have hgk:∀ k,lkh k o.hp = .gone\/ltn o.n k:=λk=>by
  by_cases hk:ltn o.n k
  . exact .inr hk
  . exact .inl (h2.kn k hk)
 have hA:∀ k,lkh (σ k) (hpM ρ n0 n o hp)=rnH σ (lkh k o.hp):=λk=>by
  simp only [hpM];rw [ZbM,Zgf];by_cases hm:σ k ∈ (Vn o.hp).map (exR ρ n0 n)
  . rw [if_pos hm];exact Zlv hinj k o.hp
  . rw [if_neg hm];have hnk:k ∉ Vn o.hp:=λhk=>hm (List.mem_map.2 ⟨k,hk,rfl⟩);rw [Zer hnk,ZbM];by_cases hk0:k < n0
    . rw [if_pos (Us.2 ⟨k,hk0,(Vd hk0).symm⟩),Zf3];rfl
    . rw [if_neg (λhg=>by obtain ⟨i,i1,i2⟩:=Us.1 hg;have:=hl i i1;have e:=Uw (ρ:=ρ) (n:=n) hk0;simp only [σ] at i2;omega)];rw [hh.kn _ (by show ¬ exR ρ n0 n k < n;rw [Uw hk0];omega)];rfl
 have hB:∀ j,(∀ k,σ k≠j)->lkh j (hpM ρ n0 n o hp)=lkh j hp:=λj hj=>by
  simp only [hpM];rw [ZbM,Zgf,if_neg (λhm=>by obtain ⟨k,_,hk⟩:=List.mem_map.1 hm;exact hj k hk),ZbM,if_neg (λhg=>by obtain ⟨i,i1,i2⟩:=Us.1 hg;exact hj i ((Vd i1).trans i2))]
 have hcase:∀ j,(∃ k,σ k=j)\/((∀ k,σ k≠j)/\j < n):=λj=>by
  by_cases hj:∃ k,σ k=j
  . exact .inl hj
  . refine .inr ⟨λk hk=>hj ⟨k,hk⟩,?_⟩;rcases Nat.lt_or_ge j n with h | h
    . exact h
    . exact absurd ⟨n0+(j - n),by show exR ρ n0 n _=j;rw [Uw (by omega)];omega⟩ hj
 have hoA:∀ k b,occ E' (σ k) (lkh (σ k) (hpM ρ n0 n o hp)) b↔occ E2 k (lkh k o.hp) b:=λk b=>by
  rw [hA k];exact Zzs (hEq k)
 have hoB:∀ j b,(∀ k,σ k≠j)->j < n->(occ E' j (lkh j (hpM ρ n0 n o hp)) b↔occ E j (lkh j hp) b):=λj b hj hjn=>by
  rw [hB j hj];have:=hEo j hj;cases lkh j hp<;>simp only [occ,this.1,this.2.2]
 have hkeep:∀ b,b < w.heap.size->(∀ k,k < n0->¬ occ E (ρ k) (lkh (ρ k) hp) b)->w'.heap[b]? = w.heap[b]?:=λb hb hp'=>h2.kp.block b hb (λk ⟨k1,k2⟩=>hp' k k1 k2);have hok:∀ b,okS C2 E2 o.hp b->okS C E' (hpM ρ n0 n o hp) b:=λb hb=>by
  refine ⟨?_,λj ho=>?_⟩
  . rcases hb.1 with h | h
    . exact (show okS C E hp b from h).1
    . exact .inr (Nat.le_trans hh.kp.size h)
  . rcases hcase j with ⟨k,rfl⟩ | ⟨hj,hjn⟩
    . exact hb.2 k ((hoA k b).1 ho)
    . have ho':=(hoB j b hj hjn).1 ho;rcases hb.1 with h | h
      . exact (show okS C E hp b from h).2 j ho'
      . have:=YE hh ho';have h':w.heap.size<=b:=h;omega
 have hst:ZG w w' (okS C E hp) (okS C E' (hpM ρ n0 n o hp)):=λb hb hs=>by
  have hlt:b < w.heap.size:=by
   obtain ⟨x,hx⟩:=Option.isSome_iff_exists.1 hs;exact (Array.getElem?_eq_some_iff.1 hx).1
  refine ⟨hok b ⟨.inl hb,λk ho=>?_⟩,hkeep b hlt (λk _ ho=>hb.2 _ ho)⟩;rcases h2.lo k b ho with h | ⟨_,h⟩
  . exact absurd hlt (Nat.not_lt.2 h)
  . exact hb.2 _ h
 have hstC:YM w' w' (okS C2 E2 o.hp) (okS C E' (hpM ρ n0 n o hp)):=λb hb _=>⟨hok b hb,rfl⟩;refine ⟨o,E',y,hpo,hE0,⟨λj hj=>?_,λj=>?_,λj j' b h1 h2'=>?_,λj b h1=>?_,⟨h2.kp.os.trans hh.kp.os,h2.kp.tape.trans hh.kp.tape,h2.kp.output.trans hh.kp.output,Nat.le_trans hh.kp.size h2.kp.size,λb h1 h3=>?_⟩,λk hk=>?_⟩,?_,hst,he⟩
 . rcases hcase j with ⟨k,rfl⟩ | ⟨hj',hjn⟩
   . rw [hA k];rcases hgk k with h | h
     . rw [h];rfl
     . exact absurd (hnn k h) hj
   . simp only [ltn] at hj;omega
 . rcases hcase j with ⟨k,rfl⟩ | ⟨hj',hjn⟩
   . rw [hA k];have hb2:=XQ (E':=E2) (n':=ltn o.n) hstC (λ_ _=>Ele.rfl) (λ_ h=>h) (hgk k) (λ_ _=>rfl) rfl (h2.bk k);exact ZtW (hgk k) hE2 hnn (kx2 k) (hEq k).2.1 hb2
   . rw [hB j hj'];refine YH hst (λk hk=>hE0 k hk) (λk hk=>by simp only [ltn] at *;omega) (.inr hjn) (λb ho=>?_) (hEo j hj').2.1 (hh.bk j);refine hkeep b (YE hh ho) (λk hk ho'=>?_);have:=hh.dj j (ρ k) b ho ho';exact hj' k ((Vd hk).trans this.symm)
 . rcases hcase j with ⟨k,rfl⟩ | ⟨hj,hjn⟩<;>rcases hcase j' with ⟨k',rfl⟩ | ⟨hj',hjn'⟩
   . rw [h2.dj k k' b ((hoA k b).1 h1) ((hoA k' b).1 h2')]
   . exfalso;have o1:=(hoA k b).1 h1;have o2:=(hoB j' b hj' hjn').1 h2';rcases h2.lo k b o1 with h | ⟨i1,h⟩
     . have:=YE hh o2;have h':w.heap.size<=b:=h;omega
     . have:=hh.dj j' (ρ k) b o2 h;exact hj' k ((Vd i1).trans this.symm)
   . exfalso;have o1:=(hoA k' b).1 h2';have o2:=(hoB j b hj hjn).1 h1;rcases h2.lo k' b o1 with h | ⟨i1,h⟩
     . have:=YE hh o2;have h':w.heap.size<=b:=h;omega
     . have:=hh.dj j (ρ k') b o2 h;exact hj k' ((Vd i1).trans this.symm)
   . exact hh.dj j j' b ((hoB j b hj hjn).1 h1) ((hoB j' b hj' hjn').1 h2')
 . rcases hcase j with ⟨k,rfl⟩ | ⟨hj,hjn⟩
   . rcases h2.lo k b ((hoA k b).1 h1) with h | ⟨i1,h⟩
     . exact .inl (Nat.le_trans hh.kp.size h)
     . have e:σ k = ρ k:=Vd i1;rw [e];exact hh.lo _ b h
   . exact hh.lo j b ((hoB j b hj hjn).1 h1)
 . rw [hkeep b (Nat.lt_of_lt_of_le h1 hh.kp.size) (λk _ ho=>by rcases hh.lo _ b ho with h | h;exact absurd h1 (Nat.not_lt.2 h);exact h3 _ h)];exact hh.kp.block b h1 h3
 . obtain ⟨p1,p2⟩:=hh.pin k hk;have:=hE0 k p1;exact ⟨by simp only [ltn] at *;omega,p2.trans this⟩
 . exact R_rn hE2 hnn _ _ kx1 (ZU hstC (λ_ _=>Ele.rfl) (λ_ h=>h) _ _ hy)
end
def cmK (pn:Bool) (res:SV) (hp:List (Nat × HB)) (n:Nat) (d:Option Nat) (σ : St) (r:KT) (K:RK):Prop :=
 match pn with
 | false=>Yq d res none ⟨σ.fr,hp,n,σ.N,σ.gs⟩ r K
 | true=>K (.pan res) ⟨σ.fr,hp,n,σ.N,σ.gs⟩
def Zdr (P:Program) (f:FuncId) (args:List SV) (d:Option Nat) (σ : St) (r:KT) (K:RK):Prop :=
 ∃ hp0 n0 args0 ZO ρ,CtM P f hp0 n0 args0 ZO/\mtL ρ n0 args0 args/\mtP ρ hp0 σ.hp n0 n0/\ZBY ρ n0/\(∀ i,i < n0->ρ i < σ.n) /\
  ∀ o,ZO o->cmK o.pn (rnS (exR ρ n0 σ.n) o.res) (hpM ρ n0 σ.n o σ.hp) (σ.n+(o.n - n0)) d σ r K
def YLD (Y:Hd) (k:Nat) (args:List SV) (d:Option Nat) (σ : St) (r:KT) (K:RK):Prop :=
 Y k args σ.hp σ.n λo=>cmK o.pn o.res o.hp o.n d σ r K
def ZhF (P:Program) (Y:Hd) (s:SV) (args:List SV) (d:Option Nat) (σ : St) (r:KT) (K:RK):Prop :=
 match s with
 | .cl f caps=>Zdr P f (args ++ caps) d σ r K
 | .yl k=>YLD Y k args d σ r K
 | _=>False
variable {Y:Hd}
def Yt:List SV->Bool
 | []=>true
 | s :: l=>bif ZaO s then Yt l else false
def ZBL:Bool->Bool->Nat->List SV->TypeId->St->KT->RK->Prop
 | false,true,t,c,T,σ,r,K=>r ⟨(t,.p σ.n 0) :: σ.fr,(σ.n,.cells c T) :: σ.hp,σ.n+1,σ.N,σ.gs⟩ K
 | _,_,_,_,_,_,_,_=>False
def ZiG (d:Option Nat) (c:Option (List SV)) (T:TypeId) (σ : St) (r:KT) (K:RK):Prop :=
 match d,c with
 | some t,some c=>ZBL (Xk t σ.gs) (Nat.blt t σ.N) t c T σ r K
 | _,_=>False
def STR (v:Nat) (xs:List (List SV)) (j o k m:Nat) (c:List SV) (T:TypeId) (σ : St) (r:KT) (K:RK):Prop :=
 ∃ row,xs[j]? = some row/\o+c.length<=row.length/\r ⟨σ.fr,(k,.row v m (xs.set j (Zv row o c)) T) :: σ.hp,σ.n,σ.N,σ.gs⟩ K
def RAW (P:Program) (d:Option Nat) (op:Op) (ty:TypeId) (σ : St) (r:KT) (K:RK):Prop :=
 ∀ (o:Oper) C E a w next Q,o.dst=d->o.op=op->o.type=ty->Sim C E σ a w->(∀ σ' E' a' w',r σ' K->Sim C E' σ' a' w'->next a' w') ->
  (∀ s σ' E' w' y,K (.pan s) σ'->Sim C E' σ' a w'->R w' E' (ltn σ'.n) (okS C E' σ'.hp) s y->Q (.panic [{ v:=y,recovered:=false }]) a w')->o.wpq C.rd P a w next Q
def HExt (hp hp':List (Nat × HB)):Prop:=∀ k,lkh k hp = .gone\/lkh k hp'=lkh k hp
def Imp (hb:HB) (φ : OP):Prop:=(∀ E k b,occ E k hb b↔b=E.β k)/\∀ w E n ok k,Ya w E n ok k hb->Ya w E n ok k (.ob φ)
def WK (h0 h1:HB):Prop:=∃ φ,h0 = .ob φ/\Imp h1 φ
def ZnD (hp hp':List (Nat × HB)):Prop:=∀ k,lkh k hp = .gone\/lkh k hp'=lkh k hp\/WK (lkh k hp) (lkh k hp')
def RBB (P:Program) (op:Op) (xs:List X) (k:Nat) (h0 h1:HB) (σ : St) (s:SV):Prop :=
 ∀ (o:Oper),o.op=op->∀ C E hpX nX a w (next:Act->World->Prop) (Q:Exit->Act->World->Prop),lkh k hpX=h0->HSim C E hpX nX w->(∀ x ∈ xs,R w E nX (okS C E hpX) (rdG none σ.fr x) (evX a x)) ->
  (∀ w' y,HSim C E ((k,h1) :: hpX) nX w'->ZG w w' (okS C E hpX) (okS C E ((k,h1) :: hpX))->R w' E nX (okS C E ((k,h1) :: hpX)) s y->next (a.put o.dst y) w')->o.wpq C.rd P a w next Q
def RBE (P:Program) (op:Op) (xs:List X) (σ : St) (s:SV):Prop :=
 ∀ (o:Oper),o.op=op->∀ C E hpX nX a w (next:Act->World->Prop) (Q:Exit->Act->World->Prop),ZnD σ.hp hpX->HSim C E hpX nX w->(∀ x ∈ xs,R w E nX (okS C E hpX) (rdG none σ.fr x) (evX a x)) ->
  (∀ w' y,HSim C E hpX nX w'->ZG w w' (okS C E hpX) (okS C E hpX)->R w' E nX (okS C E hpX) s y->next (a.put o.dst y) w')->o.wpq C.rd P a w next Q
def ZyD:Bool->Nat->Nat->List SV->TypeId->List SV->St->KT->RK->Prop
 | true,k,o,l,T,c,σ,r,K=>r ⟨σ.fr,(k,.cells (Zv l o c) T) :: σ.hp,σ.n,σ.N,σ.gs⟩ K
 | false,_,_,_,_,_,_,_,_=>False
def stC (k o m:Nat) (hb:HB) (c:List SV) (σ : St) (r:KT) (K:RK):Prop :=
 match hb with
 | .cells l T=>ZyD (Nat.ble (o+m) l.length) k o l T c σ r K
 | _=>False
def ZyU:Bool->Nat->List (List SV)->Nat->Nat->Nat->Nat->List SV->TypeId->St->KT->RK->Prop
 | true,v,xs,j,o,k,m,c,T,σ,r,K=>STR v xs j o k m c T σ r K
 | false,_,_,_,_,_,_,_,_,_,_,_=>False
def STW (v' m0:Nat) (xs:List (List SV)) (T oo mi:Nat) (inn:List (List (List SV))) (T' v m j o k:Nat) (c:List SV) (σ : St) (r:KT) (K:RK):Prop :=
 (v=v'/\m=m0/\∃ row,xs[j]? = some row/\o+c.length<=row.length/\(inn.length<=j\/o+c.length<=oo\/oo < o)/\r ⟨σ.fr,(k,.rws v' m0 (xs.set j (Zv row o c)) T oo mi inn T') :: σ.hp,σ.n,σ.N,σ.gs⟩ K) \/
 ∃ i rows row,v=v'+(i+1)/\m=mi/\inn[i]? = some rows/\rows[j]? = some row/\o+c.length<=row.length/\r ⟨σ.fr,(k,.rws v' m0 xs T oo mi (inn.set i (rows.set j (Zv row o c))) T') :: σ.hp,σ.n,σ.N,σ.gs⟩ K
def stR (k v m' j o:Nat) (hb:HB) (c:List SV) (σ : St) (r:KT) (K:RK):Prop :=
 match hb with
 | .row v' m'' xs T=>ZyU (X9 (Nat.beq m' m'') (Nat.beq v v')) v' xs j o k m' c T σ r K
 | .rws v' m0 xs T oo mi inn T'=>STW v' m0 xs T oo mi inn T' v m' j o k c σ r K
 | _=>False
def stX (x:SV) (m:Nat) (c:List SV) (σ : St) (r:KT) (K:RK):Prop :=
 match x with
 | .p k o=>stC k o m (lkh k σ.hp) c σ r K
 | .pr k v m' j o=>stR k v m' j o (lkh k σ.hp) c σ r K
 | _=>False
def Zef:Bool->Bool->SV->Nat->List SV->St->KT->RK->Prop
 | true,true,x,m,c,σ,r,K=>stX x m c σ r K
 | _,_,_,_,_,_,_,_=>False
def ZeF (d:Option Nat) (c:Option (List SV)) (m:Nat) (x:SV) (σ : St) (r:KT) (K:RK):Prop :=
 match d,c with
 | none,some c=>Zef (chk c m) (Yt c) x m c σ r K
 | _,_=>False
def Zre:Bool->Bool->Nat->Nat->List (List SV)->TypeId->St->KT->RK->Prop
 | false,true,t,m,xs,T,σ,r,K=>r ⟨(t,.mr σ.n 0) :: σ.fr,(σ.n,.row 0 m xs T) :: σ.hp,σ.n+1,σ.N,σ.gs⟩ K
 | _,_,_,_,_,_,_,_,_=>False
def Znd (d:Option Nat) (m:Nat) (xs:List (List SV)) (T:TypeId) (σ : St) (r:KT) (K:RK):Prop :=
 match d with
 | some t=>Zre (Xk t σ.gs) (Nat.blt t σ.N) t m xs T σ r K
 | none=>False
def CLN (b:Nat) (d:Option Nat) (m:Nat) (xs:List (List SV)) (T:TypeId) (σ : St) (r:KT) (K:RK):Prop :=
 xs.length * b<=140737488355328/\Znd d m xs T σ r K
def Ztp (b:Nat) (d:Option Nat) (m:Nat) (x y:Option (List (List SV))) (T:TypeId) (σ : St) (r:KT) (K:RK):Prop :=
 match x,y with
 | some [],some ys=>CLN b d m ys T σ r K
 | some (_ :: _),_=>False
 | some [],none=>False
 | none,_=>False
def MKS (b:Nat) (d:Option Nat) (m:Nat) (z:List SV) (n:Int) (T:TypeId) (σ : St) (r:KT) (K:RK):Prop :=
 ∃ k:Nat,n=k/\k * b<=140737488355328/\Znd d m (List.replicate k z) T σ r K
def Zw5:Bool->Bool->Nat->Nat->Nat->Nat->List (List SV)->Nat->TypeId->St->KT->RK->Prop
 | false,true,t,k,v,m,xs,N,T,σ,r,K=>r ⟨(t,.v (.int .i64 N)) :: σ.fr,(k,.row v m xs T) :: σ.hp,σ.n,σ.N,σ.gs⟩ K
 | _,_,_,_,_,_,_,_,_,_,_,_=>False
def ZAo (d:Option Nat) (k v m:Nat) (xs:List (List SV)) (N:Nat) (T:TypeId) (σ : St) (r:KT) (K:RK):Prop :=
 match d with
 | some t=>Zw5 (Xk t σ.gs) (Nat.blt t σ.N) t k v m xs N T σ r K
 | none=>r ⟨σ.fr,(k,.row v m xs T) :: σ.hp,σ.n,σ.N,σ.gs⟩ K
def CPY (d:Option Nat) (k v m i L:Nat) (xs ys:List (List SV)) (T:TypeId) (σ : St) (r:KT) (K:RK):Prop :=
 (∀ c ∈ ys,Yt c=true)/\i+L<=xs.length/\ZAo d k v m (xs.take i ++ (ys.take (min L ys.length) ++ xs.drop (i+min L ys.length))) (min L ys.length) T σ r K
def Zs6 (d:Option Nat) (k v m i L:Nat) (xs:List (List SV)) (T:TypeId) (s:SV) (σ : St) (r:KT) (K:RK):Prop :=
 match s with
 | .sl _ m' ys=>ZeQ (Nat.beq m m') (CPY d k v m i L xs ys T σ r K)
 | .v (.slice none 0 0)=>CPY d k v m i L xs [] T σ r K
 | .mr k' v'=>ZeQ (X9 (Nat.beq k k') (Nat.beq v v')) (CPY d k v m i L xs xs T σ r K)
 | .ms k' v' m' i' l'=>ZeQ (X9 (X9 (Nat.beq k k') (Nat.beq v v')) (Nat.beq m m')) (i'+l'<=xs.length/\CPY d k v m i L xs ((xs.drop i').take l') T σ r K)
 | _=>False
def lO (o:Option Nat) (n:Nat):Nat :=
 match o with
 | some l=>l
 | none=>n
def Zu1 (d:Option Nat) (m k v i:Nat) (lo:Option Nat) (hb:HB) (s:SV) (σ : St) (r:KT) (K:RK):Prop :=
 match hb with
 | .row v' m' xs T=>ZeQ (X9 (Nat.beq m m') (Nat.beq v v')) (Zs6 d k v m i (lO lo xs.length) xs T s σ r K)
 | _=>False
def ZyF (d:Option Nat) (m:Nat) (sx sy:SV) (σ : St) (r:KT) (K:RK):Prop :=
 match sx with
 | .mr k v=>Zu1 d m k v 0 none (lkh k σ.hp) sy σ r K
 | .ms k v m' i l=>ZeQ (Nat.beq m m') (Zu1 d m k v i (some l) (lkh k σ.hp) sy σ r K)
 | _=>False
def verB:Bool->Bool->Nat->Nat->Nat->Nat->List (List SV)->TypeId->St->KT->RK->Prop
 | false,true,t,k,v,m,xs,T,σ,r,K=>r ⟨(t,.mr k v) :: σ.fr,(k,.row v m xs T) :: σ.hp,σ.n,σ.N,σ.gs⟩ K
 | _,_,_,_,_,_,_,_,_,_,_=>False
def ZyG (d:Option Nat) (k v m:Nat) (xs:List (List SV)) (T:TypeId) (σ : St) (r:KT) (K:RK):Prop :=
 match d with
 | some t=>verB (Xk t σ.gs) (Nat.blt t σ.N) t k v m xs T σ r K
 | none=>False
def APM (b:Nat) (d:Option Nat) (k v m:Nat) (xs ys:List (List SV)) (T:TypeId) (σ : St) (r:KT) (K:RK):Prop :=
 (∀ c ∈ ys,Yt c=true)/\(xs.length+ys.length) * b<=140737488355328/\ZyG d k (v+1) m (xs ++ ys) T σ r K
def ZAB (c:Bool) (b:Nat) (d:Option Nat) (k v m:Nat) (xs ys:List (List SV)) (T:TypeId) (σ : St) (r:KT) (K:RK):Prop :=
 match c with
 | true=>APM b d k v m xs ys T σ r K
 | false=>False
def ZBN (b:Nat) (d:Option Nat) (k v m:Nat) (hb:HB) (ys:List (List SV)) (T:TypeId) (σ : St) (r:KT) (K:RK):Prop :=
 match hb with
 | .row v' m' xs T'=>ZAB (X9 (Nat.beq m m') (X9 (Nat.beq v v') (Nat.beq T T'))) b d k v m xs ys T σ r K
 | _=>False
def APF (d:Option Nat) (k v m i:Nat) (xs ys:List (List SV)) (T:TypeId) (σ : St) (r:KT) (K:RK):Prop :=
 (∀ c ∈ ys,Yt c=true)/\xs.length=i+ys.length/\0 < ys.length/\ZyG d k v m (xs.take i ++ ys) T σ r K
def ZAq (c:Bool) (d:Option Nat) (k v m i:Nat) (xs ys:List (List SV)) (T:TypeId) (σ : St) (r:KT) (K:RK):Prop :=
 match c with
 | true=>APF d k v m i xs ys T σ r K
 | false=>False
def ZBR (d:Option Nat) (k v m m2 j i:Nat) (hb:HB) (ys:List (List SV)) (T:TypeId) (σ : St) (r:KT) (K:RK):Prop :=
 match hb with
 | .row v' m' xs T'=>ZAq (X9 (X9 (Nat.beq m m2) (Nat.beq j 0)) (X9 (Nat.beq m m') (X9 (Nat.beq v v') (Nat.beq T T')))) d k v m i xs ys T σ r K
 | _=>False
def ZAG (b:Nat) (d:Option Nat) (m:Nat) (s:SV) (ys:List (List SV)) (T:TypeId) (σ : St) (r:KT) (K:RK):Prop :=
 match s with
 | .mr k v=>ZBN b d k v m (lkh k σ.hp) ys T σ r K
 | .ms k v m2 j i=>ZBR d k v m m2 j i (lkh k σ.hp) ys T σ r K
 | _=>False
def ZyO (b:Nat) (d:Option Nat) (m:Nat) (s:SV) (ys:Option (List (List SV))) (T:TypeId) (σ : St) (r:KT) (K:RK):Prop :=
 match ys with
 | some ys=>ZAG b d m s ys T σ r K
 | none=>False
def Zzg (b:Nat) (d:Option Nat) (m:Nat) (z:List Value) (x:SV) (T:TypeId) (σ : St) (r:KT) (K:RK):Prop :=
 match x with
 | .v (.int _ n)=>MKS b d m (lit z) n T σ r K
 | _=>False
def ISN (d:Option Nat) (xs:List (List SV)) (σ : St) (r:KT) (K:RK):Prop :=
 ∀ b:Bool,(b=true->xs=[])->Yq d (.v (.bool b)) none σ r K
def ZBW (d:Option Nat) (x:SV) (σ : St) (r:KT) (K:RK):Prop :=
 match x with
 | .sl _ _ xs=>ISN d xs σ r K
 | _=>False
def stp (P:Program) (Y:Hd) (d:Option Nat) (i:SI) (σ : St) (r:KT) (K:RK):Prop :=
 match i with
 | .st x y m=>ZeF d (Ys (rdG none σ.fr y)) m (rdG none σ.fr x) σ r K
 | .box x _ T=>ZiG d (Ys (rdG none σ.fr x)) T σ r K
 | .alloc z T=>ZiG d (some (lit z)) T σ r K
 | .cln m b T x y=>Ztp b d m (Zh4 m (rdG none σ.fr x)) (ZdX m (rdG none σ.fr y)) T σ r K
 | .mks m b z T x=>Zzg b d m z (rdG none σ.fr x) T σ r K
 | .cpy m x y=>ZyF d m (rdG none σ.fr x) (rdG none σ.fr y) σ r K
 | .appm m b T x y=>ZyO b d m (rdG none σ.fr x) (ZdX m (rdG none σ.fr y)) T σ r K
 | .callm f as=>Zdr P f (UT (rdG none σ.fr) as) d σ r K
 | .calvm x as=>ZhF P Y (rdG none σ.fr x) (UT (rdG none σ.fr) as) d σ r K
 | .isn x=>ZBW d (rdG none σ.fr x) σ r K
 | .raw op ty=>RAW P d op ty σ r K
 | .rv op xs=>∃ s,RBE P op xs σ s/\Yq d s none σ r K
 | .rb op x xs=>∃ k h1 s,rdG none σ.fr x = .mp k/\WK (lkh k σ.hp) h1/\RBB P op (x :: xs) k (lkh k σ.hp) h1 σ s/\Yq d s none ⟨σ.fr,(k,h1) :: σ.hp,σ.n,σ.N,σ.gs⟩ r K
 | i=>Yl P none d i σ r K
def Zvn (d:Option Nat) (σ : St) (r:KT) (K:RK):Prop:=Yq d (.v undef) none σ r K
def GB (P:Program) (Y:Hd) (b:Bool) (j:Nat) (w:Bool) (d:Option Nat) (i:SI) (σ : St) (r:KT) (K:RK):Prop :=
 (b=w/\stp P Y d i σ r K)\/(b≠w/\Zvn d σ r K)\/Yl P (some (j,w)) d i σ r K
def gK (P:Program) (Y:Hd) (s:SV) (j:Nat) (w:Bool) (d:Option Nat) (i:SI) (σ : St) (r:KT) (K:RK):Prop :=
 match s with
 | .v (.bool b)=>GB P Y b j w d i σ r K
 | .gd _ _ (.v (.bool _))=>Yl P (some (j,w)) d i σ r K
 | _=>False
def st1 (P:Program) (Y:Hd) (io:Ins) (σ : St) (r:KT) (K:RK):Prop :=
 match io with
 | ⟨d,i,none,_⟩=>stp P Y d i σ r K
 | ⟨d,i,some (j,w),_⟩=>gK P Y (lk j σ.fr) j w d i σ r K
def rx (P:Program) (Y:Hd):List Ins->KT
 | [],σ,K=>K .n σ
 | io :: r,σ,K=>st1 P Y io σ (rx P Y r) K
def eqO:Operand->Operand->Bool
 | .tmp a,.tmp b=>a == b
 | .const a,.const b=>eqV a b
 | .global a,.global b=>a == b
 | .func a,.func b=>a == b
 | _,_=>false
theorem Z2:∀ {a b:Operand},eqO a b=true->a=b:=by
 intro a b h;unfold eqO at h;split at h<;>simp_all;exact Za7 h
def Zna:List Operand->List Operand->Bool
 | [],[]=>true
 | a :: l,b :: m=>eqO a b && Zna l m
 | _,_=>false
theorem ZcC:∀ {a b:List Operand},Zna a b=true->a=b
 | [],[],_=>rfl
 | x :: xs,y :: ys,h=>by simp only [Zna,Bool.and_eq_true] at h;rw [Z2 h.1,ZcC h.2]
 | [],_ :: _,h=>by simp [Zna] at h
 | _ :: _,[],h=>by simp [Zna] at h
def ZA5:Option Operand->Option Operand->Bool
 | none,none=>true
 | some a,some b=>eqO a b
 | _,_=>false
theorem Z8:∀ {a b:Option Operand},ZA5 a b=true->a=b
 | none,none,_=>rfl
 | some a,some b,h=>by rw [Z2 h]
 | none,some _,h=>by cases h
 | some _,none,h=>by cases h
def ZyN:List (Nat × Operand)->List (Nat × Operand)->Bool
 | [],[]=>true
 | (i,x) :: r,(j,y) :: l=>i == j && eqO x y && ZyN r l
 | _,_=>false
theorem ZcG:∀ {a b:List (Nat × Operand)},ZyN a b=true->a=b
 | [],[],_=>rfl
 | (i,x) :: r,(j,y) :: l,h=>by
  simp only [ZyN,Bool.and_eq_true,beq_iff_eq] at h;rw [h.1.1,Z2 h.1.2,ZcG h.2]
 | [],_ :: _,h=>by simp [ZyN] at h
 | _ :: _,[],h=>by simp [ZyN] at h
def ZBo:Op->Op->Bool
 | .call ⟨.builtin b,as,ts⟩,.call ⟨.builtin b',as',ts'⟩=>decide (b=b') && Zna as.toList as'.toList && decide (ts=ts')
 | .call ⟨.value f,as,ts⟩,.call ⟨.value f',as',ts'⟩=>eqO f f' && Zna as.toList as'.toList && decide (ts=ts')
 | .defer ⟨.value f,as,ts⟩,.defer ⟨.value f',as',ts'⟩=>eqO f f' && Zna as.toList as'.toList && decide (ts=ts')
 | .defer ⟨.builtin b,as,ts⟩,.defer ⟨.builtin b',as',ts'⟩=>decide (b=b') && Zna as.toList as'.toList && decide (ts=ts')
 | .makeSlice t a b,.makeSlice t' a' b'=>t == t' && eqO a a' && eqO b b'
 | .slice t a l h m,.slice t' a' l' h' m'=>t == t' && eqO a a' && ZA5 l l' && ZA5 h h' && ZA5 m m'
 | .makeMap t r,.makeMap t' r'=>t == t' && ZA5 r r'
 | .buildSlice t n ps,.buildSlice t' n' ps'=>t == t' && n == n' && ZyN ps.toList ps'.toList
 | .lookup t a b c,.lookup t' a' b' c'=>t == t' && eqO a a' && eqO b b' && c == c'
 | .mapUpdate t a b c,.mapUpdate t' a' b' c'=>t == t' && eqO a a' && eqO b b' && eqO c c'
 | .insert t a b c,.insert t' a' b' c'=>t == t' && eqO a a' && eqO b b' && eqO c c'
 | .mapEntry t a b,.mapEntry t' a' b'=>t == t' && eqO a a' && eqO b b'
 | .entryStore t a b c,.entryStore t' a' b' c'=>t == t' && eqO a a' && eqO b b' && eqO c c'
 | .range t a,.range t' a'=>t == t' && eqO a a'
 | .next a s,.next a' s'=>eqO a a' && s == s'
 | .entry a,.entry a'=>eqO a a'
 | .typeAssert a t u c,.typeAssert a' t' u' c'=>eqO a a' && t == t' && u == u' && c == c'
 | .makeInterface t a,.makeInterface t' a'=>t == t' && eqO a a'
 | .panic a,.panic a'=>eqO a a'
 | .binOp b t x y u,.binOp b' t' x' y' u'=>decide (b=b') && t == t' && eqO x x' && eqO y y' && u == u'
 | .convert s d x,.convert s' d' x'=>s == s' && d == d' && eqO x x'
 | .fieldAddr t a f,.fieldAddr t' a' f'=>t == t' && eqO a a' && f == f'
 | .indexAddr t a f,.indexAddr t' a' f'=>t == t' && eqO a a' && eqO f f'
 | .load t a,.load t' a'=>t == t' && eqO a a'
 | .store t a b,.store t' a' b'=>t == t' && eqO a a' && eqO b b'
 | _,_=>false
theorem WO {a b:Op} (h:ZBo a b=true):a=b:=by
 have harr:∀ {x y:Array Operand},Zna x.toList y.toList=true->x=y:=λh=>Array.toList_inj.1 (ZcC h);unfold ZBo at h;split at h<;>(try simp only [Bool.and_eq_true,decide_eq_true_eq,beq_iff_eq] at h)
 all_goals first
  | (cases h;done)
  | (obtain ⟨⟨h1,h2⟩,h3⟩:=h;replace h3:=Array.toList_inj.1 (ZcG h3);subst_vars;rfl)
  | (obtain ⟨⟨⟨⟨h1,h2⟩,h3⟩,h4⟩,h5⟩:=h;(first | replace h1:=Z2 h1 | replace h1:=Z8 h1 | replace h1:=harr h1 | skip);(first | replace h2:=Z2 h2 | replace h2:=Z8 h2 | replace h2:=harr h2 | skip);(first | replace h3:=Z2 h3 | replace h3:=Z8 h3 | replace h3:=harr h3 | skip);(first | replace h4:=Z2 h4 | replace h4:=Z8 h4 | replace h4:=harr h4 | skip);(first | replace h5:=Z2 h5 | replace h5:=Z8 h5 | replace h5:=harr h5 | skip);subst_vars;rfl)
  | (obtain ⟨⟨⟨h1,h2⟩,h3⟩,h4⟩:=h;(first | replace h1:=Z2 h1 | replace h1:=Z8 h1 | replace h1:=harr h1 | skip);(first | replace h2:=Z2 h2 | replace h2:=Z8 h2 | replace h2:=harr h2 | skip);(first | replace h3:=Z2 h3 | replace h3:=Z8 h3 | replace h3:=harr h3 | skip);(first | replace h4:=Z2 h4 | replace h4:=Z8 h4 | replace h4:=harr h4 | skip);subst_vars;rfl)
  | (obtain ⟨⟨h1,h2⟩,h3⟩:=h;(first | replace h1:=Z2 h1 | replace h1:=Z8 h1 | replace h1:=harr h1 | skip);(first | replace h2:=Z2 h2 | replace h2:=Z8 h2 | replace h2:=harr h2 | skip);(first | replace h3:=Z2 h3 | replace h3:=Z8 h3 | replace h3:=harr h3 | skip);subst_vars;rfl)
  | (obtain ⟨h1,h2⟩:=h;(first | replace h1:=Z2 h1 | replace h1:=Z8 h1 | replace h1:=harr h1 | skip);(first | replace h2:=Z2 h2 | replace h2:=Z8 h2 | replace h2:=harr h2 | skip);subst_vars;rfl)
  | (replace h:=Z2 h;subst_vars;rfl)
def ZzM (C:Cx) (E:Env) (hp:List (Nat × HB)) (n:Nat->Prop) (w w':World) (m:Nat) (xs:List (List SV)) (T:TypeId) (v:Value):Prop :=
 (xs=[]/\∃ a,v = .slice a 0 0)\/∃ cap cs,v = .slice (some ⟨w.heap.size,0,none⟩) xs.length cap/\w'.heap[w.heap.size]? = some (.cells cs T (0,0))/\cs.size=cap * m/\(xs.length<=cap/\cap≠0)/\xs.length<=9223372036854775807 /\
  (∀ r ∈ xs,r.length=m)/\RL w E n (okS C E hp) xs.flatten (cs.toList.take (xs.length * m))
theorem WF {E:Env} {n ok:Nat->Prop} {w:World} {m:Nat} {s:SV} {y:Value} {ys:List (List SV)} (hR:R w E n ok s y) (h:ZdX m s=some ys) :
 ∃ cs,UB w y m ys.length cs/\RL w E n ok ys.flatten cs/\∀ r ∈ ys,r.length=m:=by
 unfold ZdX at h;split at h
 . rename_i m' xs;obtain ⟨hb,rfl⟩:=VB h;have:=Nat.eq_of_beq_eq_true hb;subst this;obtain ⟨cs,h1,h2,_⟩:=ZcW hR;exact ⟨cs,h1,h2,Ze2 hR⟩
 . simp at h;subst h;simp only [R] at hR;subst hR;exact ⟨[],ZbF,by simp [RL],λr h=>by simp at h⟩
 . cases h
theorem Xe {m:Nat}:∀ {ys:List (List SV)},(∀ r ∈ ys,r.length=m)->ys.flatten.length=ys.length * m
 | [],_=>by simp
 | y :: ys,h=>by
  rw [List.flatten_cons,List.length_append,h y (by simp),Xe (λr hr=>h r (by simp [hr])),List.length_cons,Nat.add_mul];omega
section
variable {P:Program} {C:Cx} {E:Env} {hp:List (Nat × HB)} {n:Nat->Prop} {a:Act} {w:World} {o:Oper}
theorem ZlR {m b:Nat} {T:TypeId} {x y:X} {sx sy:SV} {ys:List (List SV)} (hc:ZM P (.cln m b T x y) o.op=true) (hRx:R w E n (okS C E hp) sx (evX a x)) (hRy:R w E n (okS C E hp) sy (evX a y))
 (hx:Zh4 m sx=some []) (hy:ZdX m sy=some ys) (hlim:ys.length * b<=140737488355328) :
 ∃ v w',(execOp a.eval o).run P w = .ok (.value v) w'/\Below w.heap.size w w'/\ZzM C E hp n w w' m ys T v:=by
 obtain ⟨dst,op,ty,pos,after,guard⟩:=o;cases op<;>simp [ZM] at hc
 rename_i c;obtain ⟨callee,as,ts⟩:=c;cases callee<;>try (simp at hc;done)
 rename_i bi;cases bi<;>try (simp at hc;done)
 simp only [Bool.and_eq_true,beq_iff_eq,Nat.blt_eq] at hc;obtain ⟨⟨⟨⟨⟨hc,hsz⟩,hby⟩,hb0⟩,hz⟩,hm0⟩:=hc;split at hz
 case h_2=>cases hz
 rename_i z hz';simp only [beq_iff_eq] at hz;split at hc
 . rename_i x' y' t t' e1 e2;simp only [Bool.and_eq_true,beq_iff_eq] at hc;obtain ⟨⟨⟨rfl,c1⟩,c2⟩,c3⟩:=hc;have c3':P.underlying t=some (.slice T):=by split at c3<;>simp_all
   have has:as.map a.eval = #[evX a x,evX a y]:=by apply Array.toList_inj.1;simp [e1,Zf c1 a,Zf c2 a]
   have hts:ts = #[t,t]:=by apply Array.toList_inj.1;simpa using e2
   obtain ⟨cx,x1,x2,x3,a0,x4⟩:=Zaf hRx hx;obtain ⟨cy,y1,y2,y3⟩:=WF hRy hy;have hlim2:0+ys.length<=140737488355328:=by rw [Nat.zero_add];exact Nat.le_trans (Nat.le_mul_of_pos_right _ hb0) hlim
   obtain ⟨v,w',q1,q2,q3⟩:=Wm (P:=P) (ty:=ty) (lx:=0) c3' hsz hby hz' x1 ⟨a0,x4⟩ y1 (by rw [Nat.zero_add];exact hlim) hlim2;have hcx:cx=[]:=by simp only [List.flatten_nil,RL] at x2;exact x2
   subst hcx;refine ⟨v,w',by simp [execOp,resolve,has,hts,invoke,builtin,q1],q2,?_⟩;rcases q3 with ⟨g0,rfl,rfl⟩ | ⟨g0,cap,g1,rfl,rfl⟩
   . exact .inl ⟨List.eq_nil_of_length_eq_zero g0,a0,x4⟩
   . have hcy:cy.length=ys.length * m:=by rw [ZC y2];exact Xe y3
     refine .inr ⟨cap,_,by simp,heap_alloc_new _ _,?_,⟨by omega,by omega⟩,by omega,y3,?_⟩
     . simp only [Array.size_append,List.size_toArray,List.length_nil,Builtin.zeroCells,Array.size_map,Array.size_range,hz,hcy,Nat.zero_add];rw [<- Nat.add_mul];congr 1;omega
     . have e:∀ Z:Array Value,List.take (ys.length * m) (([]:List Value).toArray ++ cy.toArray ++ Z).toList=cy:=λZ=>by rw [<- hcy];simp
       rw [e];exact y2
 . cases hc
theorem ZfA {m b k:Nat} {kd:IntKind} {z:List Value} {T:TypeId} {x:X} (hc:ZM P (.mks m b z T x) o.op=true) (hx:evX a x = .int kd k) (hlim:k * b<=140737488355328) :
 ∃ v w',(execOp a.eval o).run P w = .ok (.value v) w'/\Below w.heap.size w w'/\ZzM C E hp n w w' m (List.replicate k (lit z)) T v:=by
 obtain ⟨dst,op,ty,pos,after,guard⟩:=o;cases op<;>simp [ZM] at hc
 rename_i t z1 z2;obtain ⟨⟨⟨⟨⟨⟨⟨c1,c2⟩,c3⟩,hsz⟩,hby⟩,hb0⟩,hm0⟩,hz⟩:=hc;split at hz
 case h_2=>cases hz
 rename_i zv hz';simp only [Bool.and_eq_true,beq_iff_eq] at hz;obtain ⟨hz1,hz2⟩:=hz;have c3':P.underlying t=some (.slice T):=by split at c3<;>simp_all
 have hzl:=WA hz1;have hlz:(lit z).length=m:=by rw [<- hz2,<- Array.length_toList,hzl,Zcs];simp
 have hk:k<=140737488355328:=Nat.le_trans (Nat.le_mul_of_pos_right _ hb0) hlim;have hfl:(List.replicate k (lit z)).flatten.length=k * m:=by rw [Xe (m:=m) (λr hr=>by rw [List.eq_of_mem_replicate hr,hlz])];simp
 refine ⟨.slice (some ⟨w.heap.size,0,none⟩) k k,w.alloc (.cells (List.replicate k zv.cells.toList).flatten.toArray T),?_,(Below.refl _ _).alloc (Nat.le_refl _) _,?_⟩
 . simp only [execOp,Zf c1 a,Zf c2 a,hx];rw [Sem.run_bind,ZkX c3' hsz hby hz' hz2 hlim hb0 hm0];rfl
 . by_cases hk0:k=0
   . subst hk0;exact .inl ⟨rfl,_,rfl⟩
   . have hlen:(List.replicate k z).flatten.length=k * m:=by
      have:=hfl;rw [Zcs,show (List.replicate k (List.map SV.v z)).flatten=((List.replicate k z).flatten).map SV.v from by simp,List.length_map] at this;exact this
     rw [hzl];refine .inr ⟨k,_,by simp,heap_alloc_new _ _,by simpa using hlen,⟨by simp,hk0⟩,by simp;omega,λr hr=>by rw [List.eq_of_mem_replicate hr,hlz],?_⟩;rw [List.length_replicate,List.take_of_length_le (Nat.le_of_eq hlen),Zcs];rw [show (List.replicate k (List.map SV.v z)).flatten=((List.replicate k z).flatten).map SV.v from by simp];exact ZAV _
theorem Zkz {t e:TypeId} (d:Nat) (ad:Option Addr) (l c:Nat) (h:P.underlying t=some (.slice e)):(Op.equalIn (d+1) t (.slice ad l c) (.slice none 0 0)).run P w = .ok ad.isNone w:=by
 cases ad<;>simp [Op.equalIn,run_underlying h]
theorem Zg2 {t e:TypeId} (ad:Option Addr) (l c:Nat) (h:P.underlying t=some (.slice e)):(binOp .eql t (.slice ad l c) (.slice none 0 0)).run P w = .ok (.bool ad.isNone) w:=by
 simp only [binOp,Sem.run_bind,show (Op.equal t (.slice ad l c) (.slice none 0 0)).run P w = .ok ad.isNone w from Zkz 9999 ad l c h,Result.andThen_ok,Sem.run_pure]
theorem Zuv {x:X} {c:Bool} {m:Nat} {xs:List (List SV)} {ok:Nat->Prop} (hc:ZM P (.isn x) o.op=true) (hRx:R w E n ok (.sl c m xs) (evX a x)) :
 ∃ b:Bool,(b=true->xs=[])/\(execOp a.eval o).run P w = .ok (.value (.bool b)) w:=by
 simp only [R] at hRx;obtain ⟨ad,len,cap,q0,q1,_,_,q3⟩:=hRx;obtain ⟨dst,op,ty,pos,after,guard⟩:=o;simp only at hc;cases op<;>simp [ZM] at hc
 rename_i b t x' y _;obtain ⟨⟨⟨hb,hx'⟩,hy⟩,ht⟩:=hc;cases b<;>simp at hb
 split at hy
 case h_2=>cases hy
 have hu:∃ e,P.underlying t=some (.slice e):=by
  split at ht
  . exact ⟨_,by assumption⟩
  . cases ht
 obtain ⟨e,hu⟩:=hu;refine ⟨ad.isNone,λhb=>?_,?_⟩
 . rcases q3 with q3 | ⟨b0,off,q3,_⟩
   . exact q3
   . rw [q3] at hb;cases hb
 . have hev:a.eval x' = .slice ad len cap:=by rw [Zf hx' a,q0]
   have hk:∀ v:Value,a.eval (.const v)=v:=λ_=>rfl;have hg:∀ y:Operand,(eqGuard .eql t x' y (.slice ad len cap) (.slice none 0 0)).run P w = .ok () w:=λ_=>rfl;simp only [execOp,hev,hk,Sem.run_bind,hg,Result.andThen_ok,Zg2 ad len cap hu];rfl
end
def Zm9 (P:Program) (i:SI) (o:Oper):Bool :=
 match i with | .raw op ty=>ZBo op o.op && ty == o.type | .rv op _=>ZBo op o.op | .rb op _ _=>ZBo op o.op | i=>ZM P i o.op
def VC (P:Program) (ops:Array Oper) (io:Ins) (o:Oper):Bool :=
 decide (io.d=o.dst) && Zm9 P io.i o &&
  (match io.g,o.guard with
   | none,none=>true
   | some (t,w),some (j,w')=>w == w' && (match (ops[j]?).bind (·.dst) with | some t'=>t == t' | none=>false)
   | _,_=>false)
def Zau (P:Program) (ops:Array Oper):List Ins->List Oper->Bool
 | [],[]=>true
 | io :: r,o :: os=>VC P ops io o && Zau P ops r os
 | _,_=>false
section
variable {P:Program} {C:Cx} {E:Env} {σ : St} {a:Act} {w:World}
theorem Zeg {g:Option (Nat × Bool)} (h:Sim C E σ a w) (i:SI):∀ p ∈ opG g i,geP p.1 σ.fr->R w E (ltn σ.n) (okS C E σ.hp) (rdG p.1 σ.fr p.2) (evX a p.2) :=
 λp _ hg=>Yw (Zu h.hs) h.fr hg p.2
theorem ZaG {d:Option Nat} {s:SV} {r:KT} {K:RK} {y:Value} {w':World} (hp:Yq d s none σ r K) (h:Sim C E σ a w) (hs:∀ j b u,s≠.gd j b u) (hb:Below w.heap.size w w')
 (hR:R w' E (ltn σ.n) (okS C E σ.hp) s y):∃ σ',r σ' K/\Sim C E σ' (a.put d y) w':=by
 have hst:ZG w w' (okS C E σ.hp) (okS C E σ.hp):=Z5 hb;cases d with
 | none=>exact ⟨σ,hp,YA h hst (λ_ _=>Ele.rfl) (Nat.le_refl _) (Xl h.hs hb)⟩
 | some t =>
  simp only [Yq] at hp;cases hm:Xk t σ.gs
  . rw [hm] at hp;cases hN:Nat.blt t σ.N
    . rw [hN] at hp;exact hp.elim
    . rw [hN] at hp;cases hgs:gdS s<;>rw [hgs] at hp
      case true=>exact hp.elim
      simp only [Zzb] at hp;refine ⟨_,hp,Xo h hst (λ_ _=>Ele.rfl) (Nat.le_refl _) (Xl h.hs hb) (λhh=>?_) (by simpa [Nat.blt_eq] using hN) hs hR⟩;rw [ZW.2 hh] at hm;cases hm
  . rw [hm] at hp;exact hp.elim
theorem ZeE {d:Option Nat} {s:SV} {r:KT} {K:RK} {y:Value} {w':World} (hp:Yq d s none σ r K) (h:Sim C E σ a w) (hs:∀ j b u,s≠.gd j b u) (hh:HSim C E σ.hp (ltn σ.n) w') (hst:ZG w w' (okS C E σ.hp) (okS C E σ.hp))
 (hR:R w' E (ltn σ.n) (okS C E σ.hp) s y):∃ σ',r σ' K/\Sim C E σ' (a.put d y) w':=by
 cases d with
 | none=>exact ⟨σ,hp,YA h hst (λ_ _=>Ele.rfl) (Nat.le_refl _) hh⟩
 | some t =>
  simp only [Yq] at hp;cases hm:Xk t σ.gs
  . rw [hm] at hp;cases hN:Nat.blt t σ.N
    . rw [hN] at hp;exact hp.elim
    . rw [hN] at hp;cases hgs:gdS s<;>rw [hgs] at hp
      case true=>exact hp.elim
      simp only [Zzb] at hp;refine ⟨_,hp,Xo h hst (λ_ _=>Ele.rfl) (Nat.le_refl _) hh (λhh=>?_) (by simpa [Nat.blt_eq] using hN) hs hR⟩;rw [ZW.2 hh] at hm;cases hm
  . rw [hm] at hp;exact hp.elim
theorem Ux {s:SV} {y:Value} {n ok} (h:R w E n ok s y):∀ j b u,s≠.gd j b u:=by rintro j b u rfl;simp only [R] at h
theorem Zx9 {o:Oper} {i:SI} {d:Option Nat} {s:SV} {r:KT} {K:RK} {next:Act->World->Prop} {Q:Exit->Act->World->Prop} (hd:o.dst=d) (hp:Yq d s none σ r K) (hG:Ztq P o i none σ s) (h:Sim C E σ a w)
 (hn:∀ σ' E' a' w',r σ' K->Sim C E' σ' a' w'->next a' w'):o.wpq C.rd P a w next Q:=by
 refine hG C E (ltn σ.n) a w h.hs (Zeg h i) trivial _ next Q λy w' ⟨hR,hb⟩=>?_;subst hd;obtain ⟨σ',h1,h2⟩:=ZaG hp h (Ux hR) hb hR;exact hn σ' E _ w' h1 h2
theorem ZgC {t T:Nat} {c:List SV} {cs:Array Value} {r:KT} {K:RK} (hp:ZiG (some t) (some c) T σ r K) (h:Sim C E σ a w) (hR:RL w E (ltn σ.n) (okS C E σ.hp) c cs.toList) :
 ∃ E' σ',r σ' K/\Sim C E' σ' (a.put (some t) (.pointer (some ⟨w.heap.size,0,none⟩))) (w.alloc (.cells cs T)):=by
 simp only [ZiG] at hp;cases hm:Xk t σ.gs
 . rw [hm] at hp;cases hN:Nat.blt t σ.N
   . rw [hN] at hp;exact hp.elim
   . rw [hN] at hp;simp only [ZBL] at hp;obtain ⟨E',h1,h2,h3,h4⟩:=Zf0 (q:=σ.n) (T:=T) h.hs (by simp [ltn]) hR;have hV:(λk=>ltn σ.n k\/k = σ.n)=ltn (σ.n+1):=by funext k;simp only [ltn,eq_iff_iff];omega
     rw [hV] at h3;refine ⟨E',_,hp,Xo h h4 h1 (by omega) h3 (λhh=>?_) (by simpa [Nat.blt_eq] using hN) (λ_ _ _ e=>by cases e) ?_⟩
     . rw [ZW.2 hh] at hm;cases hm
     . simp only [R,h2];exact ⟨by simp [ltn],trivial⟩
 . rw [hm] at hp;exact hp.elim
theorem ZdB {d:Option Nat} {m T:Nat} {xs:List (List SV)} {r:KT} {K:RK} {v:Value} {w':World} (hp:Znd d m xs T σ r K) (h:Sim C E σ a w) (hb:Below w.heap.size w w') (hv:ZzM C E σ.hp (ltn σ.n) w w' m xs T v) :
 ∃ E' σ',r σ' K/\Sim C E' σ' (a.put d v) w':=by
 unfold Znd at hp;split at hp
 case h_2=>cases hp
 rename_i t;cases hm:Xk t σ.gs
 . rw [hm] at hp;cases hN:Nat.blt t σ.N
   . rw [hN] at hp;exact hp.elim
   . rw [hN] at hp;simp only [Zre] at hp;obtain ⟨E',h1,h2,h2',h3,h4⟩:=X4 (q:=σ.n) (T:=T) h.hs (by simp [ltn]) hb hv;have hV:(λk=>ltn σ.n k\/k = σ.n)=ltn (σ.n+1):=by funext k;simp only [ltn,eq_iff_iff];omega
     rw [hV] at h3;refine ⟨E',_,hp,Xo h h4 h1 (by omega) h3 (λhh=>?_) (by simpa [Nat.blt_eq] using hN) (λ_ _ _ e=>by cases e) ?_⟩
     . rw [ZW.2 hh] at hm;cases hm
     . simp only [R,h2,h2'];refine ⟨by simp [ltn],by omega,trivial,?_⟩;rcases hv with ⟨_,a0,rfl⟩ | ⟨cap,cs,rfl,_⟩<;>rfl
 . rw [hm] at hp;exact hp.elim
theorem Y4:∀ {c:List SV} {ys:List Value} {n ok},Yt c=true->RL w E n ok c ys->∀ y ∈ ys,y.oneCell'=true
 | [],ys,_,_,_,h=>by simp only [RL] at h;subst h;intro y hy;simp at hy
 | s :: c,ys,n,ok,ha,h=>by
  simp only [Yt] at ha;cases h1:ZaO s
  . simp [h1] at ha
  . simp only [h1,cond_true] at ha;simp only [RL] at h;obtain ⟨y,r,rfl,h2,h3⟩:=h;intro z hz;simp at hz;rcases hz with rfl | hz
    . exact ZA0 h2 h1
    . exact Y4 ha h3 z hz
theorem Xb:∀ (l:List SV) (o:Nat) (m:List SV),(Zv l o m).length=l.length
 | [],0,[]=>rfl
 | [],0,_ :: _=>rfl
 | [],_+1,_=>rfl
 | _ :: _,0,[]=>rfl
 | _ :: l,0,_ :: m=>by simp [Zv,Xb l 0 m]
 | _ :: l,o+1,m=>by simp [Zv,Xb l o m]
theorem U4:∀ (l l':List SV) (o:Nat) (c:List SV),o+c.length<=l.length->Zv (l ++ l') o c=Zv l o c ++ l'
 | [],l',0,[],_=>by cases l'<;>rfl
 | [],_,0,_ :: _,h=>by simp at h
 | [],_,_+1,_,h=>by simp at h
 | _ :: _,_,0,[],_=>rfl
 | x :: l,l',0,c :: m,h=>by simp only [List.cons_append,Zv];rw [U4 l l' 0 m (by simp at h;omega)]
 | x :: l,l',o+1,m,h=>by simp only [List.cons_append,Zv];rw [U4 l l' o m (by simp at h;omega)]
theorem Za5:∀ (l l':List SV) (o:Nat) (c:List SV),Zv (l ++ l') (l.length+o) c=l ++ Zv l' o c
 | [],l',o,c=>by simp
 | x :: l,l',o,c=>by rw [List.cons_append,List.length_cons,show l.length+1+o=(l.length+o)+1 from by omega];simp only [Zv,List.cons_append,Za5 l l' o c]
theorem WV {m o:Nat} {c:List SV}:∀ {xs:List (List SV)} {j:Nat} {row:List SV},xs[j]? = some row->(∀ r ∈ xs,r.length=m)->o+c.length<=m ->
 (xs.set j (Zv row o c)).flatten=Zv xs.flatten (j * m+o) c
 | [],_,_,h,_,_=>by simp at h
 | x :: xs,0,row,h,hr,ho=>by
  simp at h;subst h;simp only [List.set_cons_zero,List.flatten_cons,Nat.zero_mul,Nat.zero_add];rw [U4 _ _ _ _ (by rw [hr x (by simp)];exact ho)]
 | x :: xs,j+1,row,h,hr,ho=>by
  simp at h;have:=WV (o:=o) (c:=c) h (λr hq=>hr r (by simp [hq])) ho;simp only [List.set_cons_succ,List.flatten_cons,this];have hx:=hr x (by simp);rw [show (j+1) * m+o=x.length+(j * m+o) from by rw [hx,Nat.add_mul];omega,Za5]
theorem Y6 {l zs:List Value} {o N:Nat} (h1:o+zs.length<=N) (h2:N<=l.length):(ZJ l o zs).take N=ZJ (l.take N) o zs:=by
 apply List.ext_getElem?;intro j;rw [Yg _ _ _ _ (by simp;omega),List.getElem?_take,Yg _ _ _ _ (by omega),List.getElem?_take];by_cases h:j < N
 . simp [h]
 . simp only [if_neg h];rw [if_neg (by omega)]
theorem UW {x:SV}:∀ (l:List SV) (off:Nat) (c:List SV) (o:Nat),off+c.length<=o\/o < off->(Zv l off c).set o x=Zv (l.set o x) off c
 | [],0,[],_,_=>by simp [Zv]
 | [],0,_ :: _,_,_=>by simp [Zv]
 | [],_+1,_,_,_=>by simp [Zv]
 | _ :: _,0,[],o,_=>by cases o<;>simp [Zv]
 | _ :: l,0,d :: c,0,h=>by simp at h
 | _ :: l,0,d :: c,o+1,h=>by
  simp only [Zv,List.set_cons_succ];rw [UW l 0 c o (by simp at h;omega)]
 | _ :: l,off+1,c,0,h=>by simp [Zv]
 | _ :: l,off+1,c,o+1,h=>by
  simp only [Zv,List.set_cons_succ];rw [UW l off c o (by omega)]
theorem ZpQ {k o u N:Nat} {xs:List (List SV)} {j off:Nat} {row c:List SV} (hj:xs[j]? = some row) (hc:N<=j\/off+c.length<=o\/o < off) :
 ∃ row',(ZaB k o u N xs)[j]? = some row'/\row'.length=row.length/\ZaB k o u N (xs.set j (Zv row off c))=(ZaB k o u N xs).set j (Zv row' off c):=by
 have hjl:j < xs.length:=(List.getElem?_eq_some_iff.1 hj).1;have hg:=WQ k o u N xs;by_cases hN:j < N
 . refine ⟨row.set o (.mr k (u+j)),by rw [hg,if_pos hN,hj];rfl,by simp,?_⟩;refine List.ext_getElem? λi=>?_;rw [WQ];by_cases hi:i=j
   . subst hi;rw [if_pos hN,List.getElem?_set_self hjl,List.getElem?_set_self (by rw [VO];exact hjl),Option.map_some,UW _ _ _ _ (by omega)]
   . rw [List.getElem?_set_ne (Ne.symm hi),List.getElem?_set_ne (Ne.symm hi),hg]
 . refine ⟨row,by rw [hg,if_neg hN,hj],rfl,?_⟩;refine List.ext_getElem? λi=>?_;rw [WQ];by_cases hi:i=j
   . subst hi;rw [if_neg hN,List.getElem?_set_self hjl,List.getElem?_set_self (by rw [VO];exact hjl)]
   . rw [List.getElem?_set_ne (Ne.symm hi),List.getElem?_set_ne (Ne.symm hi),hg]
theorem Zta {v' m0:Nat} {xs:List (List SV)} {T oo mi:Nat} {inn:List (List (List SV))} {T' v m j o k:Nat} {c:List SV} {σ : St} {r:KT} {K:RK} (h:STW v' m0 xs T oo mi inn T' v m j o k c σ r K) :
 ∃ i rows TT xs2 inn2 row,v=v'+i/\Xg k v' m0 xs T oo mi inn T' i=some (m,rows,TT)/\rows[j]? = some row/\o+c.length<=row.length/\xs2.length=xs.length/\inn2.length=inn.length /\
  Xg k v' m0 xs2 T oo mi inn2 T' i=some (m,rows.set j (Zv row o c),TT)/\(∀ i',i'≠i->Xg k v' m0 xs2 T oo mi inn2 T' i'=Xg k v' m0 xs T oo mi inn T' i') /\
  r ⟨σ.fr,(k,.rws v' m0 xs2 T oo mi inn2 T') :: σ.hp,σ.n,σ.N,σ.gs⟩ K:=by
 rcases h with ⟨rfl,rfl,row,h1,h2,h3,h4⟩ | ⟨i,rows,row,rfl,rfl,h0,h1,h2,h4⟩
 . obtain ⟨row',q1,q2,q3⟩:=ZpQ (k:=k) (o:=oo) (u:=v+1) (N:=inn.length) (off:=o) (c:=c) h1 h3;refine ⟨0,_,_,_,_,row',rfl,rfl,q1,by omega,by simp,rfl,by simp only [Xg];rw [q3],λi' hi=>?_,h4⟩;cases i' with
   | zero=>exact absurd rfl hi
   | succ=>rfl
 . have hil:i < inn.length:=(List.getElem?_eq_some_iff.1 h0).1;refine ⟨i+1,rows,T',xs,_,row,rfl,by simp only [Xg,h0],h1,h2,rfl,by simp,by simp only [Xg];rw [List.getElem?_set_self hil],λi' hi=>?_,h4⟩;cases i' with
   | zero=>simp only [Xg,List.length_set]
   | succ i'=>simp only [Xg];rw [List.getElem?_set_ne (by omega)]
theorem ZdU {C:Cx} {E:Env} {hp:List (Nat × HB)} {n:Nat->Prop} {w:World} (hh:HSim C E hp n w) {k v m0:Nat} {xs:List (List SV)} {T oo mi:Nat} {inn:List (List (List SV))} {T':Nat} (hk:lkh k hp = .rws v m0 xs T oo mi inn T')
 {i m j off TT:Nat} {rows xs2:List (List SV)} {inn2:List (List (List SV))} {row c:List SV} {cv:List Value} (hat:Xg k v m0 xs T oo mi inn T' i=some (m,rows,TT)) (r1:rows[j]? = some row) (r2:off+c.length<=row.length)
 (hl1:xs2.length=xs.length) (hl2:inn2.length=inn.length) (hat2:Xg k v m0 xs2 T oo mi inn2 T' i=some (m,rows.set j (Zv row off c),TT)) (hoth:∀ i',i'≠i->Xg k v m0 xs2 T oo mi inn2 T' i'=Xg k v m0 xs T oo mi inn T' i')
 (hRc:RL w E n (okS C E hp) c cv) {b len cap:Nat} (g1:E.hv k (v+i) = .slice (some ⟨b,0,none⟩) len cap) :
 ∃ cs:Array Value,w.heap[b]? = some (.cells cs TT (0,0))/\j * m+off+c.length<=cs.size/\∀ w',Wrote w w' b (ZJ cs.toList (j * m+off) cv) TT ->
  HSim C E ((k,.rws v m0 xs2 T oo mi inn2 T') :: hp) n w'/\ZG w w' (okS C E hp) (okS C E ((k,.rws v m0 xs2 T oo mi inn2 T') :: hp)):=by
 have hb:=hh.bk k;rw [hk] at hb;simp only [Ya] at hb;obtain ⟨a1,a2,a3,a4⟩:=hb;have hil:=ZaV hat;have hcl:=ZC hRc;rcases a3 i _ _ _ hat with ⟨hb,_⟩ | ⟨b',cap',cs,q1,q2,q3,⟨q4,q4'⟩,q5,q6,q7⟩
 . rw [hb] at r1;simp at r1
 rw [g1] at q1;simp at q1;obtain ⟨rfl,rfl,rfl⟩:=q1;have hjl:j < rows.length:=(List.getElem?_eq_some_iff.1 r1).1;have hrow:row.length=m:=q6 row (List.mem_of_getElem? r1);have hjm:j * m+m<=rows.length * m:=by
  have:=Nat.mul_le_mul_right m (show j+1<=rows.length from hjl);rw [Nat.add_mul,Nat.one_mul] at this;exact this
 have hcapm:rows.length * m<=cap * m:=Nat.mul_le_mul_right m q4;refine ⟨cs,q2,by omega,λw' p2=>?_⟩;have hocc:∀ b',occ E k (.rws v m0 xs2 T oo mi inn2 T') b'↔occ E k (lkh k hp) b':=λb'=>by rw [hk];simp only [occ,hl2]
 refine Xm hh (hb:=.rws v m0 xs2 T oo mi inn2 T') hocc (by rw [hk];exact ⟨i,hil,_,_,g1,q4'⟩) p2 (λhst=>?_);simp only [Ya];refine ⟨by rw [hl2];exact a1,by rw [hl1,hl2];exact a2,λi' mm rr TT' hr=>?_,λx y b' hx hy e1 e2=>a4 x y b' (by omega) (by omega) e1 e2⟩;by_cases hi:i'=i
 . subst hi;rw [hat2] at hr;simp only [Option.some.injEq,Prod.mk.injEq] at hr;obtain ⟨rfl,rfl,rfl⟩:=hr;refine .inr ⟨b,cap,_,by simpa using g1,p2.here,?_,by simpa using ⟨q4,q4'⟩,by simpa using q5,λrr hrr=>?_,?_⟩
   . simp [ZP,q3]
   . rcases List.mem_or_eq_of_mem_set hrr with hrr | rfl
     . exact q6 rr hrr
     . rw [Xb,hrow]
   . rw [WV r1 q6 (by omega),List.length_set];rw [Y6 (by omega) (by simp [q3];omega)];exact Xy _ (ZE hst (λ_ _=>Ele.rfl) (λ_ h=>h) _ _ q7) (ZE hst (λ_ _=>Ele.rfl) (λ_ h=>h) _ _ hRc)
 . rw [hoth i' hi] at hr;have hil':=ZaV hr;exact (a3 i' mm rr TT' hr).mono hst (λ_ _=>Ele.rfl) (λ_ h=>h) λb' hb'=>p2.same b' (λe=>by subst e;exact hi (a4 i' i _ hil' hil hb' ⟨_,_,g1,q4'⟩))
theorem Zkt {pn:Bool} {res:SV} {hp':List (Nat × HB)} {n':Nat} {E':Env} {w':World} {y:Value} {d:Option Nat} {r:KT} {K:RK} {next:Act->World->Prop} {Q:Exit->Act->World->Prop} (hp:cmK pn res hp' n' d σ r K) (h:Sim C E σ a w)
 (hE:∀ k,k < σ.n->Ele E E' k k) (hn0:σ.n<=n') (hh:HSim C E' hp' (ltn n') w') (hR:R w' E' (ltn n') (okS C E' hp') res y) (hs:ZG w w' (okS C E σ.hp) (okS C E' hp'))
 (hn:∀ σ' E' a' w',r σ' K->Sim C E' σ' a' w'->next a' w')
 (hq:∀ s σ' E' w' y,K (.pan s) σ'->Sim C E' σ' a w'->R w' E' (ltn σ'.n) (okS C E' σ'.hp) s y->Q (.panic [{ v:=y,recovered:=false }]) a w') :
 ∀ o:Oper,o.dst=d->Zax o a next Q (ZuQ pn y) w':=by
 intro o hod;have hsim:Sim C E' ⟨σ.fr,hp',n',σ.N,σ.gs⟩ a w':=YA h hs hE hn0 hh;cases pn
 . simp only [cmK] at hp;obtain ⟨σ',k1,k2⟩:=ZaG hp hsim (Ux hR) (Below.refl _ _) hR;subst hod;exact hn σ' E' _ w' k1 k2
 . exact hq res _ E' w' y hp hsim hR
theorem Zez {f:FuncId} {args:List SV} {vs:List Value} {d:Option Nat} {r:KT} {K:RK} {next:Act->World->Prop} {Q:Exit->Act->World->Prop} (hp:Zdr P f args d σ r K) (h:Sim C E σ a w) (hR:RL w E (ltn σ.n) (okS C E σ.hp) args vs)
 (hn:∀ σ' E' a' w',r σ' K->Sim C E' σ' a' w'->next a' w')
 (hq:∀ s σ' E' w' y,K (.pan s) σ'->Sim C E' σ' a w'->R w' E' (ltn σ'.n) (okS C E' σ'.hp) s y->Q (.panic [{ v:=y,recovered:=false }]) a w') :
 Yn P f=true/\∀ o:Oper,o.dst=d->Calls P f vs.toArray w (Zax o a next Q):=by
 obtain ⟨hp0,n0,args0,ZO,ρ,hc,h1,h2,h3,h4,h5⟩:=hp;refine ⟨hc.bd,λoo hod=>(ZjN ρ h.hs hc h1 h2 h3 h4 hR).mono λe w' ⟨o,E',y,k1,k2,k3,k4,k5,k6⟩=>?_⟩;rw [k6];exact Zkt (h5 o k1) h k2 (by omega) k3 k4 k5 hn hq oo hod
set_option maxHeartbeats 1000000 in
theorem VF:∀ {l r:List SV},Yt l=true->Yt r=true->Yt (l ++ r)=true
 | [],_,_,h=>h
 | s :: l,r,h,h'=>by
  simp only [List.cons_append,Yt] at h ⊢;cases h1:ZaO s
  . simp [h1] at h
  . simp only [h1,cond_true] at h ⊢;exact VF h h'
section
variable {hp:List (Nat × HB)} {n:Nat->Prop} {o:Oper}
theorem VV {c:Bool} {p:Prop} (h:ZeQ c p):c=true/\p:=by cases c;exact h.elim;exact ⟨rfl,h⟩
def cpD (sx:SV) (k v m i L:Nat) (xs:List (List SV)):Prop:=(sx = .mr k v/\i=0/\L=xs.length)\/sx = .ms k v m i L
def cpS (sy:SV) (k v m:Nat) (xs ys:List (List SV)):Prop:=ZdX m sy=some ys\/(sy = .mr k v/\ys=xs)\/∃ i' l',sy = .ms k v m i' l'/\i'+l'<=xs.length/\ys=(xs.drop i').take l'
theorem ZkC {d:Option Nat} {k v m i L:Nat} {xs:List (List SV)} {T:TypeId} {s:SV} {σ : St} {r:KT} {K:RK} (h:Zs6 d k v m i L xs T s σ r K):∃ ys,cpS s k v m xs ys/\CPY d k v m i L xs ys T σ r K:=by
 unfold Zs6 at h;split at h
 . rename_i c m' ys;obtain ⟨h1,h2⟩:=VV h;exact ⟨ys,.inl (by simp only [ZdX,h1,Zhx]),h2⟩
 . exact ⟨[],.inl (by simp only [ZdX]),h⟩
 . obtain ⟨h1,h2⟩:=VV h;obtain ⟨h3,h4⟩:=Yi h1;have:=Nat.eq_of_beq_eq_true h3;subst this;have:=Nat.eq_of_beq_eq_true h4;subst this;exact ⟨xs,.inr (.inl ⟨rfl,rfl⟩),h2⟩
 . rename_i k' v' m' i' l';obtain ⟨h1,h0,h2⟩:=VV h;obtain ⟨h5,h6⟩:=Yi h1;obtain ⟨h3,h4⟩:=Yi h5;have:=Nat.eq_of_beq_eq_true h3;subst this;have:=Nat.eq_of_beq_eq_true h4;subst this;have:=Nat.eq_of_beq_eq_true h6;subst this;exact ⟨_,.inr (.inr ⟨i',l',rfl,h0,rfl⟩),h2⟩
 . exact h.elim
theorem ZtD {d:Option Nat} {m:Nat} {sx sy:SV} {σ : St} {r:KT} {K:RK} (h:ZyF d m sx sy σ r K) :
 ∃ k v i L xs ys T,cpD sx k v m i L xs/\lkh k σ.hp = .row v m xs T/\cpS sy k v m xs ys/\CPY d k v m i L xs ys T σ r K:=by
 unfold ZyF at h;split at h
 . rename_i k v;unfold Zu1 at h;split at h
   case h_2=>exact h.elim
   rename_i v' m' xs T hk;obtain ⟨h1,h2⟩:=VV h;obtain ⟨h3,h4⟩:=Yi h1;have:=Nat.eq_of_beq_eq_true h3;subst this;have:=Nat.eq_of_beq_eq_true h4;subst this;obtain ⟨ys,h5,h6⟩:=ZkC h2;exact ⟨k,v,0,xs.length,xs,ys,T,.inl ⟨rfl,rfl,rfl⟩,hk,h5,h6⟩
 . rename_i k v m' i l;obtain ⟨h0,hq⟩:=VV h;clear h;have:=Nat.eq_of_beq_eq_true h0;subst this;unfold Zu1 at hq;split at hq
   case h_2=>exact hq.elim
   rename_i v' m' xs T hk;obtain ⟨h1,h2⟩:=VV hq;obtain ⟨h3,h4⟩:=Yi h1;have:=Nat.eq_of_beq_eq_true h3;subst this;have:=Nat.eq_of_beq_eq_true h4;subst this;obtain ⟨ys,h5,h6⟩:=ZkC h2;exact ⟨k,v,i,l,xs,ys,T,.inr rfl,hk,h5,h6⟩
 . exact h.elim
theorem Vr {m:Nat}:∀ {xs:List (List SV)} (i:Nat),(∀ r ∈ xs,r.length=m)->(xs.take i).flatten=xs.flatten.take (i * m)
 | [],i,_=>by simp
 | x :: xs,0,_=>by simp
 | x :: xs,i+1,h=>by
  have hx:=h x (by simp);rw [List.take_succ_cons,List.flatten_cons,List.flatten_cons,Vr i (λr hr=>h r (by simp [hr])),List.take_append,List.take_of_length_le (l:=x) (by rw [hx,Nat.add_mul];omega),hx];congr 2;rw [Nat.add_mul];omega
theorem Za4 {m:Nat}:∀ {xs:List (List SV)} (i:Nat),(∀ r ∈ xs,r.length=m)->(xs.drop i).flatten=xs.flatten.drop (i * m)
 | [],i,_=>by simp
 | x :: xs,0,_=>by simp
 | x :: xs,i+1,h=>by
  have hx:=h x (by simp);rw [List.drop_succ_cons,List.flatten_cons,Za4 i (λr hr=>h r (by simp [hr])),List.drop_append,List.drop_of_length_le (l:=x) (by rw [hx,Nat.add_mul];omega),hx,List.nil_append];congr 1;rw [Nat.add_mul];omega
theorem ZbZ {P:Program} {w w':World} {y:Value} {m len N:Nat} {cs:List Value} (h:UB w y m len cs) (hN:N<=len) (hw:∀ a,w'.cell? a=w.cell? a):(Builtin.firstCells m N y).run P w' = .ok (cs.take (N * m)).toArray w':=by
 obtain ⟨a,cap,rfl,_,hl,h⟩:=h;have hle:N * m<=len * m:=Nat.mul_le_mul_right m hN;rcases h with rfl | ⟨b,off,rfl,h⟩
 . have:cs=[]:=by simpa using hl
   subst this;have hN0:N=0:=by omega
   subst hN0;cases a with
   | none=>simp [Builtin.firstCells]
   | some a=>simpa using run_firstCells_some w' m 0 a 0 cap [] (by simp) (λj v hj=>by simp at hj)
 . exact run_firstCells_some w' m N _ len cap _ (by rw [List.length_take,hl];omega) (λj v hj=>by
    rw [YT,hw];have hj':j < N * m:=by have:=(List.getElem?_eq_some_iff.1 hj).1;simp at this;omega
    rw [List.getElem?_take_of_lt hj'] at hj;exact h j v hj)
theorem Zfw {hp hp':List (Nat × HB)} {n:Nat->Prop} (h:HSim C E hp n w) (hl:∀ j,lkh j hp'=lkh j hp):HSim C E hp' n w/\ZG w w (okS C E hp) (okS C E hp'):=by
 have e:okS C E hp'=okS C E hp:=by funext b;simp only [okS,hl]
 exact ⟨⟨λk hk=>by rw [hl];exact h.kn k hk,λk=>by rw [hl,e];exact h.bk k,λk k' b h1 h2=>by rw [hl] at h1 h2;exact h.dj k k' b h1 h2,λk b h1=>by rw [hl] at h1;exact h.lo k b h1,h.kp,h.pin⟩,λb hb _=>⟨by rw [e];exact hb,rfl⟩⟩
theorem Zss {n ok:Nat->Prop} {k v m i l:Nat} {xs:List (List SV)} {T:TypeId} {y:Value} (hb:Ya w E n ok k (.row v m xs T)) (hR:R w E n ok (.ms k v m i l) y) (hl:i+l<=xs.length) :
 ∃ cs,UB w y m l cs/\RL w E n ok ((xs.drop i).take l).flatten cs/\∀ r ∈ (xs.drop i).take l,r.length=m:=by
 simp only [R] at hR;obtain ⟨_,_,a,len,cap,g1,g2,rfl⟩:=hR;simp only [Ya] at hb;have hrl:∀ {zs:List (List SV)},(∀ r ∈ zs,r.length=m)->∀ r ∈ (zs.drop i).take l,r.length=m:=λh r hr=>h r (List.mem_of_mem_drop (List.mem_of_mem_take hr));rcases hb with ⟨_,⟨rfl,a0,h⟩ | ⟨b,cap',cs,h1,h2,h3,⟨h4,_⟩,h5,h6,h7⟩⟩
 . have hl0:l=0:=by simp at hl;omega
   subst hl0;exact ⟨[],⟨_,_,rfl,Nat.zero_le _,by simp,.inl rfl⟩,by simp [RL],λr hr=>by simp at hr⟩
 . rw [h1] at g1;simp at g1;obtain ⟨rfl,rfl,rfl⟩:=g1;have e1:((xs.drop i).take l).flatten=(xs.flatten.drop (i * m)).take (l * m):=by
    rw [Vr l (λr hr=>h6 r (List.mem_of_mem_drop hr)),Za4 i h6]
   refine ⟨(((cs.toList.take (xs.length * m)).drop (i * m)).take (l * m)),?_,by rw [e1];exact X2 _ (W4 _ h7),hrl h6⟩;by_cases hl0:l=0
   . subst hl0;exact ⟨_,_,rfl,Nat.zero_le _,by simp,.inl rfl⟩
   . rw [if_neg (by omega)];have hmm:i * m+l * m<=xs.length * m:=by rw [<- Nat.add_mul];exact Nat.mul_le_mul_right m hl
     have hmc:xs.length * m<=cap' * m:=Nat.mul_le_mul_right m h4;refine ⟨_,_,rfl,by omega,?_,.inr ⟨b,i * m,by simp [YT],λj c hj=>?_⟩⟩
     . simp only [List.length_take,List.length_drop,Array.length_toList,h3];omega
     . rw [cell_of_row _ _ _ _ _ _ h2];have hj':j < l * m:=by have:=(List.getElem?_eq_some_iff.1 hj).1;simp at this;omega
       rw [List.getElem?_take_of_lt hj',List.getElem?_drop,List.getElem?_take_of_lt (by omega)] at hj;simpa using hj
theorem ZmT {m k v i L:Nat} {T:TypeId} {x y:X} {sx sy:SV} {xs ys:List (List SV)} (hc:ZM P (.cpy m x y) o.op=true) (hh:HSim C E hp n w) (hkk:lkh k hp = .row v m xs T) (hD:cpD sx k v m i L xs) (hRx:R w E n (okS C E hp) sx (evX a x))
 (hS:cpS sy k v m xs ys) (hRy:R w E n (okS C E hp) sy (evX a y)) (h1:∀ c ∈ ys,Yt c=true) (hL:i+L<=xs.length) :
 ∃ w',(execOp a.eval o).run P w = .ok (.value (.int .i64 (min L ys.length:Nat))) w'/\HSim C E ((k,.row v m (xs.take i ++ (ys.take (min L ys.length) ++ xs.drop (i+min L ys.length))) T) :: hp) n w' /\
  ZG w w' (okS C E hp) (okS C E ((k,.row v m (xs.take i ++ (ys.take (min L ys.length) ++ xs.drop (i+min L ys.length))) T) :: hp)):=by
 have hb:=hh.bk k;rw [hkk] at hb;have hsrc:∃ cy,UB w (evX a y) m ys.length cy/\RL w E n (okS C E hp) ys.flatten cy/\∀ r ∈ ys,r.length=m:=by
  rcases hS with h | ⟨rfl,rfl⟩ | ⟨i',l',rfl,h2,rfl⟩
  . exact WF hRy h
  . simp only [R] at hRy;rw [hRy.2.2.1];exact Zad hb
  . obtain ⟨cs,q1,q2,q3⟩:=Zss hb hRy h2;have:((xs.drop i').take l').length=l':=by rw [List.length_take,List.length_drop];omega
    rw [this];exact ⟨cs,q1,q2,q3⟩
 obtain ⟨cy,y1,y2,y3⟩:=hsrc;generalize hN:min L ys.length=N;have hNL:N<=L:=by omega
 have hNy:N<=ys.length:=by omega
 have hcyl:cy.length=ys.length * m:=by rw [ZC y2];exact Xe y3
 have hNm:N * m<=ys.length * m:=Nat.mul_le_mul_right m hNy;have hcn:(cy.take (N * m)).length=N * m:=by rw [List.length_take,hcyl];omega
 have hf:=ZbZ (P:=P) (w':=w) y1 hNy (λ_=>rfl);have hone:∀ u ∈ cy,u.oneCell'=true:=by
  have:Yt ys.flatten=true:=by
   clear hN hNy hNm hcyl hcn hf y1 y2 y3 hS
   induction ys with
   | nil=>rfl
   | cons c ys ih=>rw [List.flatten_cons];exact VF (h1 c (by simp)) (ih (λc hc=>h1 c (by simp [hc])))
  exact Y4 this y2
 have hdst:∃ ad cx,evX a x = .slice ad L cx/\(N≠0->∃ b cap cs,E.hv k v = .slice (some ⟨b,0,none⟩) xs.length cap/\ad=some ⟨b,i * m,none⟩/\w.heap[b]? = some (.cells cs T (0,0)) /\
  cs.size=cap * m/\(xs.length<=cap/\cap≠0)/\xs.length<=9223372036854775807/\(∀ r ∈ xs,r.length=m)/\RL w E n (okS C E hp) xs.flatten (cs.toList.take (xs.length * m))):=by
  simp only [Ya] at hb;rcases hD with ⟨rfl,rfl,rfl⟩ | rfl
  . simp only [R] at hRx;rcases hb with ⟨_,⟨q0,a0,q1⟩ | ⟨b,cap,cs,q1,q2⟩⟩
    . exact ⟨a0,0,by rw [hRx.2.2.1,q1,q0];rfl,λh=>absurd (by rw [q0] at hNL;simpa using hNL) h⟩
    . exact ⟨_,cap,by rw [hRx.2.2.1,q1],λ_=>⟨b,cap,cs,q1,by simp,q2⟩⟩
  . simp only [R] at hRx;obtain ⟨_,_,a0,len,cap,g1,g2,g3⟩:=hRx;refine ⟨_,_,g3,λh=>?_⟩;rcases hb with ⟨_,⟨q0,a1,q1⟩ | ⟨b,cap',cs,q1,q2,q3,q4,q5⟩⟩
    . rw [q0] at hL;simp at hL;omega
    . rw [q1] at g1;simp at g1;obtain ⟨rfl,rfl,rfl⟩:=g1;exact ⟨b,cap',cs,q1,by rw [if_neg (by omega)];simp [YT],q2,q3,q4,q5⟩
 obtain ⟨ad,cx,hx,hdst⟩:=hdst;obtain ⟨dst,op,ty,pos,after,guard⟩:=o;cases op<;>simp [ZM] at hc
 rename_i c;obtain ⟨callee,as,ts⟩:=c;cases callee<;>try (simp at hc;done)
 rename_i bi;cases bi<;>try (simp at hc;done)
 simp only at hc;split at hc
 case h_2=>cases hc
 rename_i x' y' t e1 e2;simp only [Bool.and_eq_true] at hc;obtain ⟨⟨c1,c2⟩,c3⟩:=hc;split at c3
 case h_2=>cases c3
 rename_i e hu;simp only [beq_iff_eq] at c3;have has:as.map a.eval = #[evX a x,evX a y]:=by apply Array.toList_inj.1;simp [e1,Zf c1 a,Zf c2 a]
 have hrun:∀ w',(match ad with | some b=>storeCells b (cy.take (N * m)) 0 | none=>pure ()).run P w = .ok () w'->(Builtin.copy_ ts ty #[evX a x,evX a y]).run P w = .ok (goInt N) w':=λw' hw'=>by
  have hmin:Nat.min ys.length L=N:=by rw [<- hN];exact Nat.min_comm _ _
  obtain ⟨ay,capy,hye,_,_⟩:=y1;rw [hye] at hf;rw [hx,hye];have hszr:(sizeOf e).run P w = .ok m w:=Z4 c3;cases ad with
  | none =>
   simp only [Sem.run_pure] at hw';cases hw'
   simp [Builtin.copy_,e2,Sem.run_bind,run_underlying hu,Builtin.lenOf,hszr,hmin,hf]
  | some ad =>
   simp [Builtin.copy_,e2,Sem.run_bind,run_underlying hu,Builtin.lenOf,hszr,hmin,hf,hw']
 have hval:∀ w',(Builtin.copy_ ts ty #[evX a x,evX a y]).run P w = .ok (goInt N) w'->(execOp a.eval ⟨dst,.call ⟨.builtin .copy,as,ts⟩,ty,pos,after,guard⟩).run P w = .ok (.value (.int .i64 N)) w':=λw' h=>by
  simp [execOp,resolve,has,invoke,builtin,h];rfl
 by_cases hN0:N=0
 . subst hN0;have hnil:(match ad with | some b=>storeCells b (cy.take (0 * m)) 0 | none=>pure ()).run P w = .ok () w:=by
    cases ad<;>simp [storeCells]
   have hre:∀ j,lkh j ((k,.row v m (xs.take i ++ (ys.take 0 ++ xs.drop (i+0))) T) :: hp)=lkh j hp:=λj=>by
    rw [Zs];split
    . rename_i hj;subst hj;rw [hkk];simp
    . rfl
   obtain ⟨q1,q2⟩:=Zfw hh hre;exact ⟨w,hval w (hrun w hnil),q1,q2⟩
 . obtain ⟨b,cap,cs,g1,rfl,g2,g3,g4,g5,g6,g7⟩:=hdst hN0;have hiN:i * m+N * m<=xs.length * m:=by rw [<- Nat.add_mul];exact Nat.mul_le_mul_right m (by omega)
   have hcap:xs.length * m<=cap * m:=Nat.mul_le_mul_right m g4.1;have g3':cs.toList.length=cap * m:=by rw [Array.length_toList];exact g3
   obtain ⟨w',s1,s2⟩:=YQ (P:=P) (cy.take (N * m)) (w:=w) (b:=b) (o:=i * m) (i:=0) (cs:=cs.toList) (T:=T) (by simpa using g2) (by rw [hcn,g3'];omega) (λu hu'=>hone u (List.mem_of_mem_take hu'));have hlens:∀ r ∈ xs.take i ++ (ys.take N ++ xs.drop (i+N)),r.length=m:=λr hr=>by
    rcases List.mem_append.1 hr with hr | hr
    . exact g6 r (List.mem_of_mem_take hr)
    . rcases List.mem_append.1 hr with hr | hr
      . exact y3 r (List.mem_of_mem_take hr)
      . exact g6 r (List.mem_of_mem_drop hr)
   have hlen:(xs.take i ++ (ys.take N ++ xs.drop (i+N))).length=xs.length:=by
    simp only [List.length_append,List.length_take,List.length_drop];omega
   have hocc:∀ b',occ E k (.row v m (xs.take i ++ (ys.take N ++ xs.drop (i+N))) T) b'↔occ E k (lkh k hp) b':=λb'=>by rw [hkk];rfl
   have his:E.iss k=v+1:=by simp only [Ya] at hb;exact hb.1
   obtain ⟨q1,q2⟩:=Xm hh (hb:=.row v m (xs.take i ++ (ys.take N ++ xs.drop (i+N))) T) hocc (by rw [hkk];exact ⟨_,_,g1,g4.2⟩) s2 (λhst=>by
    simp only [Ya];refine ⟨his,.inr ⟨b,cap,_,by rw [hlen];exact g1,s2.here,by simp [ZP,g3],by rw [hlen];exact g4,by rw [hlen];exact g5,hlens,?_⟩⟩;rw [hlen,List.flatten_append,List.flatten_append,Vr i g6,Vr N y3,Za4 (i+N) g6];rw [List.toList_toArray,Nat.add_zero,Y6 (by rw [hcn];omega) (by rw [g3'];omega),VJ _ _ _ (by rw [hcn,List.length_take,g3'];omega),hcn,<- Nat.add_mul];refine ZE hst.c (λ_ _=>Ele.rfl) (λ_ h=>h) _ _ ?_
    exact Z7 (X2 _ g7) (Z7 (X2 _ y2) (W4 _ g7)))
   exact ⟨w',hval w' (hrun w' s1),q1,q2⟩
theorem ZmF {d:Option Nat} {k v m N:Nat} {xs:List (List SV)} {T:TypeId} {σ : St} {r:KT} {K:RK} (h:ZAo d k v m xs N T σ r K):(d=none/\r ⟨σ.fr,(k,.row v m xs T) :: σ.hp,σ.n,σ.N,σ.gs⟩ K) \/
 ∃ t,d=some t/\t ∉ σ.gs/\t < σ.N/\r ⟨(t,.v (.int .i64 N)) :: σ.fr,(k,.row v m xs T) :: σ.hp,σ.n,σ.N,σ.gs⟩ K:=by
 unfold ZAo at h;split at h
 . rename_i t;cases hm:Xk t σ.gs<;>cases hN:Nat.blt t σ.N<;>rw [hm,hN] at h<;>first | exact h.elim | skip
   exact .inr ⟨t,rfl,λhh=>(by rw [ZW.2 hh] at hm;cases hm),by simpa [Nat.blt_eq] using hN,h⟩
 . exact .inl ⟨rfl,h⟩
theorem Zmo {d:Option Nat} {k v m:Nat} {xs:List (List SV)} {T:TypeId} {σ : St} {r:KT} {K:RK} (h:ZyG d k v m xs T σ r K):∃ t,d=some t/\t ∉ σ.gs/\t < σ.N/\r ⟨(t,.mr k v) :: σ.fr,(k,.row v m xs T) :: σ.hp,σ.n,σ.N,σ.gs⟩ K:=by
 unfold ZyG at h;split at h
 . rename_i t;cases hm:Xk t σ.gs<;>cases hN:Nat.blt t σ.N<;>rw [hm,hN] at h<;>first | exact h.elim | skip
   exact ⟨t,rfl,λhh=>(by rw [ZW.2 hh] at hm;cases hm),by simpa [Nat.blt_eq] using hN,h⟩
 . exact h.elim
def APO (m b:Nat) (s:SV) (k v v':Nat) (xs xs' ys:List (List SV)):Prop :=
 (∀ c ∈ ys,Yt c=true)/\((s = .mr k v/\v'=v+1/\xs'=xs ++ ys/\(xs.length+ys.length) * b<=140737488355328)\/∃ i,s = .ms k v m 0 i/\v'=v/\xs'=xs.take i ++ ys/\xs.length=i+ys.length/\0 < ys.length)
theorem Ztu {b:Nat} {d:Option Nat} {m:Nat} {s:SV} {yo:Option (List (List SV))} {T:TypeId} {σ : St} {r:KT} {K:RK} (h:ZyO b d m s yo T σ r K) :
 ∃ k v xs ys t v' xs',yo=some ys/\lkh k σ.hp = .row v m xs T/\APO m b s k v v' xs xs' ys /\
  d=some t/\t ∉ σ.gs/\t < σ.N/\r ⟨(t,.mr k v') :: σ.fr,(k,.row v' m xs' T) :: σ.hp,σ.n,σ.N,σ.gs⟩ K:=by
 unfold ZyO at h;split at h
 case h_2=>exact h.elim
 rename_i ys;unfold ZAG at h;split at h
 case h_3=>exact h.elim
 . rename_i k v;unfold ZBN at h;split at h
   case h_2=>exact h.elim
   rename_i v' m' xs T' hk;cases hc:X9 (Nat.beq m m') (X9 (Nat.beq v v') (Nat.beq T T'))
   . rw [hc] at h;exact h.elim
   rw [hc] at h;simp only [ZAB] at h;obtain ⟨c1,c2⟩:=Yi hc;obtain ⟨c2,c3⟩:=Yi c2;have:=Nat.eq_of_beq_eq_true c1;subst this;have:=Nat.eq_of_beq_eq_true c2;subst this;have:=Nat.eq_of_beq_eq_true c3;subst this;obtain ⟨q1,q2,q3⟩:=h;obtain ⟨t,e1,e2,e3,e4⟩:=Zmo q3;exact ⟨k,v,xs,ys,t,_,_,rfl,hk,⟨q1,.inl ⟨rfl,rfl,rfl,q2⟩⟩,e1,e2,e3,e4⟩
 . rename_i k v m2 j i;unfold ZBR at h;split at h
   case h_2=>exact h.elim
   rename_i v' m' xs T' hk;cases hc:X9 (X9 (Nat.beq m m2) (Nat.beq j 0)) (X9 (Nat.beq m m') (X9 (Nat.beq v v') (Nat.beq T T')))
   . rw [hc] at h;exact h.elim
   rw [hc] at h;simp only [ZAq] at h;obtain ⟨c0,c1⟩:=Yi hc;obtain ⟨d1,d2⟩:=Yi c0;obtain ⟨c1,c2⟩:=Yi c1;obtain ⟨c2,c3⟩:=Yi c2;have:=Nat.eq_of_beq_eq_true d1;subst this;have:=Nat.eq_of_beq_eq_true d2;subst this;have:=Nat.eq_of_beq_eq_true c1;subst this;have:=Nat.eq_of_beq_eq_true c2;subst this;have:=Nat.eq_of_beq_eq_true c3;subst this;obtain ⟨q1,q2,q3,q4⟩:=h;obtain ⟨t,e1,e2,e3,e4⟩:=Zmo q4;exact ⟨k,v,xs,ys,t,_,_,rfl,hk,⟨q1,.inr ⟨i,rfl,rfl,rfl,q2,q3⟩⟩,e1,e2,e3,e4⟩
theorem Zq7 {m b k v:Nat} {T:TypeId} {x y:X} {sy:SV} {xs ys:List (List SV)} (hc:ZM P (.appm m b T x y) o.op=true) (hh:HSim C E hp n w) (hkk:lkh k hp = .row v m xs T) (hRx:R w E n (okS C E hp) (.mr k v) (evX a x)) (hRy:R w E n (okS C E hp) sy (evX a y))
 (hy:ZdX m sy=some ys) (h1:∀ c ∈ ys,Yt c=true) (hlim:(xs.length+ys.length) * b<=140737488355328) :
 ∃ y' w' E',(execOp a.eval o).run P w = .ok (.value y') w'/\(∀ k,n k->Ele E E' k k)/\HSim C E' ((k,.row (v+1) m (xs ++ ys) T) :: hp) n w'/\ZG w w' (okS C E hp) (okS C E' ((k,.row (v+1) m (xs ++ ys) T) :: hp)) /\
  R w' E' n (okS C E' ((k,.row (v+1) m (xs ++ ys) T) :: hp)) (.mr k (v+1)) y':=by
 obtain ⟨dst,op,ty,pos,after,guard⟩:=o;cases op<;>simp [ZM] at hc
 rename_i c;obtain ⟨callee,as,ts⟩:=c;cases callee<;>try (simp at hc;done)
 rename_i bi;cases bi<;>try (simp at hc;done)
 simp only [Bool.and_eq_true,beq_iff_eq,Nat.blt_eq] at hc;obtain ⟨⟨⟨⟨⟨hc,hsz⟩,hby⟩,hb0⟩,hz⟩,hm0⟩:=hc;split at hz
 case h_2=>cases hz
 rename_i z hz';simp only [beq_iff_eq] at hz;split at hc
 case h_2=>cases hc
 rename_i x' y' t t' e1 e2;simp only [Bool.and_eq_true,beq_iff_eq] at hc;obtain ⟨⟨⟨rfl,c1⟩,c2⟩,c3⟩:=hc;have c3':P.underlying t=some (.slice T):=by split at c3<;>simp_all
 have has:as.map a.eval = #[evX a x,evX a y]:=by apply Array.toList_inj.1;simp [e1,Zf c1 a,Zf c2 a]
 have hts:ts = #[t,t]:=by apply Array.toList_inj.1;simpa using e2
 obtain ⟨cy,y1,y2,y3⟩:=WF hRy hy;have hone:∀ u ∈ cy,u.oneCell'=true:=by
  have:Yt ys.flatten=true:=by
   clear y1 y2 y3 hy hlim
   induction ys with
   | nil=>rfl
   | cons c ys ih=>rw [List.flatten_cons];exact VF (h1 c (by simp)) (ih (λc hc=>h1 c (by simp [hc])))
  exact Y4 this y2
 have hlim2:xs.length+ys.length<=140737488355328:=Nat.le_trans (Nat.le_mul_of_pos_right _ hb0) hlim;have hcy:cy.length=ys.length * m:=by rw [ZC y2];exact Xe y3
 have hb:=hh.bk k;have hshow:=Zad (by rw [hkk] at hb;exact hb);simp only [R] at hRx;obtain ⟨hnk,hvi,hxv,_⟩:=hRx;obtain ⟨i,hi⟩:∃ i,P.info? T=some i:=by
  unfold XT at hsz;cases hq:P.info? T with
  | none=>simp [hq] at hsz
  | some i=>exact ⟨i,rfl⟩
 have hszi:i.size=m:=by simpa [XT,hi] using hsz
 have hbyi:i.bytes=b:=by simpa [WZ,hi] using hby
 have hzi:i.zero=some z:=by simpa [Y1,hi] using hz'
 have fin:∀ (y':Value) (w':World),(Builtin.append_ #[t,t] ty #[evX a x,evX a y]).run P w = .ok y' w'->y'.oneCell'=true->w'.os=w.os->w'.tape=w.tape->w'.output=w.output->w.heap.size<=w'.heap.size ->
  (∀ b,b < w.heap.size->¬ occ E k (lkh k hp) b->w'.heap[b]? = w.heap[b]?) ->
  ((xs ++ ys=[]/\∃ a,y' = .slice a 0 0)\/∃ b cap cs,y' = .slice (some ⟨b,0,none⟩) (xs ++ ys).length cap/\(occ E k (lkh k hp) b\/w.heap.size<=b)/\w'.heap[b]? = some (.cells cs T (0,0))/\cs.size=cap * m/\((xs ++ ys).length<=cap/\cap≠0)/\(xs ++ ys).length<=9223372036854775807 /\
   (∀ r ∈ xs ++ ys,r.length=m)/\RL w E n (okS C E hp) (xs ++ ys).flatten (cs.toList.take ((xs ++ ys).length * m))) ->
  ∃ y' w' E',(execOp a.eval ⟨dst,.call ⟨.builtin .append,as,ts⟩,ty,pos,after,guard⟩).run P w = .ok (.value y') w'/\(∀ k,n k->Ele E E' k k)/\HSim C E' ((k,.row (v+1) m (xs ++ ys) T) :: hp) n w'/\ZG w w' (okS C E hp) (okS C E' ((k,.row (v+1) m (xs ++ ys) T) :: hp)) /\
   R w' E' n (okS C E' ((k,.row (v+1) m (xs ++ ys) T) :: hp)) (.mr k (v+1)) y':=λy' w' hrun ho1 q1 q2 q3 q4 q5 q6=>by
  obtain ⟨E',g1,g2,g3,g4,g5,g6⟩:=ZgG hh hkk q1 q2 q3 q4 q5 q6;exact ⟨y',w',E',by simp [execOp,resolve,has,hts,invoke,builtin,hrun],g1,g5,g6,by simp only [R];exact ⟨g4,by omega,g2.symm,ho1⟩⟩
 rw [hkk] at hb;simp only [Ya] at hb;obtain ⟨his,hb⟩:=hb;have hsz':∀ w,(sizeOf T).run P w = .ok m w:=λw=>Z4 hsz;by_cases h0:ys=[]
 . subst h0;have hcy0:cy=[]:=by simpa using hcy
   subst hcy0;have hf:=Z9 (P:=P) (w':=w) y1 (λ_=>rfl);obtain ⟨ay,capy,hye,hcy',_,_⟩:=y1;refine fin (evX a x) w ?_ ?_ rfl rfl rfl (Nat.le_refl _) (λ_ _ _=>rfl) ?_
   . obtain ⟨cx,⟨ax,capx,hxe,hxl,_,hxs⟩,_⟩:=hshow;rw [hye] at hf;rw [hxv,hxe,hye];simp only [List.length_nil] at hf;cases ax<;>simp [Builtin.append_,Sem.run_bind,run_underlying c3',hsz',Builtin.lenOf,hf,storeCells,hxl]
   . rw [hxv];obtain ⟨cx,⟨ax,capx,hxe,_⟩,_⟩:=hshow;rw [hxe];rfl
   . rw [List.append_nil,hxv];rcases hb with hb | ⟨b',cap,cs,g1,g2,g3,g4,g5,g6,g7⟩
     . exact .inl hb
     . exact .inr ⟨b',cap,cs,g1,.inl (by rw [hkk];exact ⟨_,_,g1,g4.2⟩),g2,g3,g4,g5,g6,g7⟩
 . have hyl:ys.length≠0:=λe=>h0 (List.eq_nil_of_length_eq_zero e);obtain ⟨cx,x1,x2,x3⟩:=hshow;have hcx:cx.length=xs.length * m:=by rw [ZC x2];exact Xe x3
   have hlens:∀ r ∈ xs ++ ys,r.length=m:=λr hr=>by rcases List.mem_append.1 hr with h | h;exact x3 r h;exact y3 r h
   have hfx:=λw' (hw:∀ a,w'.cell? a=w.cell? a)=>Z9 (P:=P) (w':=w') (by rw [hszi];exact x1:UB w (E.hv k v) i.size xs.length cx) hw;have hfy:=λw' (hw:∀ a,w'.cell? a=w.cell? a)=>Z9 (P:=P) (w':=w') (by rw [hszi];exact y1:UB w (evX a y) i.size ys.length cy) hw;obtain ⟨ay,capy,hye,hcy',_,_⟩:=y1;obtain ⟨ax,capx,hxe,hxl,_,_⟩:=x1;rw [hxe] at hfx;rw [hye] at hfy;by_cases hfit:xs.length+ys.length<=capx
   ·
    rcases hb with ⟨g0,a0,g1⟩ | ⟨b',cap,cs,g1,g2,g3,g4,g5,g6,g7⟩
    . rw [hxe] at g1;simp at g1;omega
    . rw [hxe] at g1;simp at g1;obtain ⟨rfl,rfl⟩:=g1;have hle:xs.length * m+cy.length<=cs.toList.length:=by
       have e3:cs.toList.length=capx * m:=by rw [Array.length_toList];exact g3
       rw [hcy,e3,<- Nat.add_mul];exact Nat.mul_le_mul_right m hfit
      obtain ⟨w',s1,s2⟩:=YQ (P:=P) cy (w:=w) (b:=b') (o:=xs.length * m) (i:=0) (cs:=cs.toList) (T:=T) (by simpa using g2) (by simpa using hle) hone;refine fin (.slice (some ⟨b',0,none⟩) (xs.length+ys.length) capx) w' ?_ rfl s2.os s2.tape s2.output (Nat.le_of_eq s2.size.symm) (λb hb hno=>s2.same b (λe=>by subst e;exact hno (by rw [hkk];exact ⟨_,_,hxe,g4.2⟩))) (.inr ⟨b',capx,(ZJ cs.toList (xs.length * m) cy).toArray,by simp,.inl (by rw [hkk];exact ⟨_,_,hxe,g4.2⟩),by simpa using s2.here,by simp [ZP,g3],⟨by simpa using hfit,g4.2⟩,by simp;omega,hlens,?_⟩)
      . rw [hxv,hxe,hye];simp [Builtin.append_,Sem.run_bind,run_underlying c3',hsz',Builtin.lenOf,hfit,<- hszi,hfy w (λ_=>rfl),YT];rw [hszi,s1];rfl
      . rw [List.flatten_append,List.length_append,Nat.add_mul,<- hcy];rw [List.toList_toArray,Y6 (Nat.le_refl _) hle];have e1:ZJ (List.take (xs.length * m+cy.length) cs.toList) (xs.length * m) cy=List.take (xs.length * m) cs.toList ++ cy:=by
         rw [VJ _ _ _ (by rw [List.length_take,Nat.min_eq_left hle];exact Nat.le_refl _),List.take_take,Nat.min_eq_left (by omega),List.drop_of_length_le (by rw [List.length_take,Nat.min_eq_left hle];exact Nat.le_refl _),List.append_nil]
        rw [e1];exact Z7 g7 y2
   ·
    have hn':¬ (xs.length+ys.length<=capx):=hfit;have h63':¬ (9223372036854775807 < ((xs.length:Int)+(ys.length:Int))):=by omega
    have hfit':Builtin.nextslicecap (xs.length+ys.length) capx * i.bytes<=281474976710656:=growslice_fits (by omega) (by rw [hbyi];exact hlim);have h48':¬ (281474976710656 < Builtin.nextslicecap (xs.length+ys.length) capx * i.bytes):=by omega
    have hcap:xs.length+ys.length<=grownCap w (xs.length+ys.length) capx T:=by unfold grownCap;simp only [Question.cut];omega
    refine fin (.slice (some ⟨w.heap.size,0,none⟩) (xs.length+ys.length) (grownCap w (xs.length+ys.length) capx T)) (w.drew.alloc (.cells (cx.toArray ++ cy.toArray ++ Builtin.zeroCells z.cells (grownCap w (xs.length+ys.length) capx T - (xs.length+ys.length))) T)) ?_ rfl rfl rfl rfl
     (by have:=(U2.alloc (Nat.le_refl _) (.cells (cx.toArray ++ cy.toArray ++ Builtin.zeroCells z.cells (grownCap w (xs.length+ys.length) capx T - (xs.length+ys.length))) T):Below w.heap.size w _).size;exact this)
     (λb hb _=>(U2.alloc (Nat.le_refl _) _:Below w.heap.size w _).block b hb) (.inr ⟨w.heap.size,grownCap w (xs.length+ys.length) capx T,_,by rw [List.length_append],.inr (Nat.le_refl _),heap_alloc_new _ _,?_,⟨by simpa using hcap,by omega⟩,by simp;omega,hlens,?_⟩)
    . rw [hxv,hxe,hye];simp [Builtin.append_,run_underlying c3',sizeOf,typeInfo,zeroValue,hi,hzi,Builtin.lenOf,hn',h63',h48',Question.forced,hfx w.drew (λ_=>rfl),hfy w.drew (λ_=>rfl),newRow,grownCap];congr 2;apply Array.ext';simp [List.append_assoc]
    . simp only [Array.size_append,List.size_toArray,Builtin.zeroCells,Array.size_map,Array.size_range,hz,hcx,hcy];rw [<- Nat.add_mul,<- Nat.add_mul];congr 1;omega
    . have e:∀ Z:Array Value,List.take ((xs ++ ys).length * m) (cx.toArray ++ cy.toArray ++ Z).toList=cx ++ cy:=λZ=>by
       have e9:(cx.toArray ++ cy.toArray ++ Z).toList=(cx ++ cy) ++ Z.toList:=by simp
       rw [e9];exact List.take_left' (by rw [List.length_append,List.length_append,Nat.add_mul,hcx,hcy])
      rw [e,List.flatten_append];exact Z7 x2 y2
theorem Zxx {m b k v i:Nat} {T:TypeId} {x y:X} {sy:SV} {xs ys:List (List SV)} (hc:ZM P (.appm m b T x y) o.op=true) (hh:HSim C E hp n w) (hkk:lkh k hp = .row v m xs T) (hRx:R w E n (okS C E hp) (.ms k v m 0 i) (evX a x)) (hRy:R w E n (okS C E hp) sy (evX a y))
 (hy:ZdX m sy=some ys) (h1:∀ c ∈ ys,Yt c=true) (hlen:xs.length=i+ys.length) (hpos:0 < ys.length) :
 ∃ y' w' E',(execOp a.eval o).run P w = .ok (.value y') w'/\(∀ k,n k->Ele E E' k k)/\HSim C E' ((k,.row v m (xs.take i ++ ys) T) :: hp) n w'/\ZG w w' (okS C E hp) (okS C E' ((k,.row v m (xs.take i ++ ys) T) :: hp)) /\
  R w' E' n (okS C E' ((k,.row v m (xs.take i ++ ys) T) :: hp)) (.mr k v) y':=by
 obtain ⟨dst,op,ty,pos,after,guard⟩:=o;cases op<;>simp [ZM] at hc
 rename_i c;obtain ⟨callee,as,ts⟩:=c;cases callee<;>try (simp at hc;done)
 rename_i bi;cases bi<;>try (simp at hc;done)
 simp only [Bool.and_eq_true,beq_iff_eq,Nat.blt_eq] at hc;obtain ⟨⟨⟨⟨⟨hc,hsz⟩,hby⟩,hb0⟩,hz⟩,hm0⟩:=hc;split at hc
 case h_2=>cases hc
 rename_i x' y' t t' e1 e2;simp only [Bool.and_eq_true,beq_iff_eq] at hc;obtain ⟨⟨⟨rfl,c1⟩,c2⟩,c3⟩:=hc;have c3':P.underlying t=some (.slice T):=by split at c3<;>simp_all
 have has:as.map a.eval = #[evX a x,evX a y]:=by apply Array.toList_inj.1;simp [e1,Zf c1 a,Zf c2 a]
 have hts:ts = #[t,t]:=by apply Array.toList_inj.1;simpa using e2
 obtain ⟨cy,hsh,y2,y3⟩:=WF hRy hy;have hone:∀ u ∈ cy,u.oneCell'=true:=by
  have:Yt ys.flatten=true:=by
   clear hsh y2 y3 hy hlen hpos
   induction ys with
   | nil=>rfl
   | cons c ys ih=>rw [List.flatten_cons];exact VF (h1 c (by simp)) (ih (λc hc=>h1 c (by simp [hc])))
  exact Y4 this y2
 have hcyl:cy.length=ys.length * m:=by rw [ZC y2];exact Xe y3
 simp only [R] at hRx;obtain ⟨hnk,hvi,a0,len0,cap0,p1,p2,p3⟩:=hRx;have hb:=hh.bk k;rw [hkk] at hb;simp only [Ya] at hb;obtain ⟨his,hb⟩:=hb;rcases hb with ⟨g0,_⟩ | ⟨b',cap,cs,g1,g2,g3,g4,g5,g6,g7⟩
 . rw [g0] at hlen;simp at hlen;omega
 have p1':=p1;rw [p1] at g1;injection g1 with q1 q2 q3
 subst q1 q2 q3;have hsz':∀ w,(sizeOf T).run P w = .ok m w:=λw=>Z4 hsz;rw [if_neg (show ¬ cap0 - 0=0 by omega)] at p3;have ex:evX a x = .slice (some ⟨b',0,none⟩) i cap0:=by
  rw [p3];simp [Addr.add]
 have hf:=Z9 (P:=P) (w':=w) hsh (λ_=>rfl);obtain ⟨a2,cap2,ey,_⟩:=hsh;rw [ey] at hf;have hcsl:cs.toList.length=cap0 * m:=by rw [Array.length_toList];exact g3
 have hle:i * m+cy.length<=cs.toList.length:=by rw [hcyl,hcsl,<- Nat.add_mul];exact Nat.mul_le_mul_right m (by omega)
 obtain ⟨w',s1,s2⟩:=YQ (P:=P) cy (w:=w) (b:=b') (o:=i * m) (i:=0) (cs:=cs.toList) (T:=T) (by simpa using g2) (by simpa using hle) hone;have hfit:i+ys.length<=cap0:=by omega
 have hrun:(Builtin.append_ #[t,t] ty #[evX a x,evX a y]).run P w = .ok (.slice (some ⟨b',0,none⟩) (i+ys.length) cap0) w':=by
  rw [ex,ey];simp only [Builtin.append_];simp [Sem.run_bind,run_underlying c3',hsz',Builtin.lenOf,hfit,hf,YT];rw [s1];rfl
 have hxl:(xs.take i ++ ys).length=xs.length:=by simp;omega
 have hlens:∀ q ∈ xs.take i ++ ys,q.length=m:=λq hq=>by
  rcases List.mem_append.1 hq with hq | hq
  . exact g6 q (List.mem_of_mem_take hq)
  . exact y3 q hq
 have hocc:∀ b1,occ E k (.row v m (xs.take i ++ ys) T) b1↔occ E k (lkh k hp) b1:=λb1=>by rw [hkk];rfl
 obtain ⟨z1,z2⟩:=Xm hh (hb:=.row v m (xs.take i ++ ys) T) hocc (by rw [hkk];exact ⟨_,_,p1',g4.2⟩) s2 (λhst=>by
  simp only [Ya];refine ⟨his,.inr ⟨b',cap0,_,by rw [hxl];exact p1',s2.here,by simp [ZP,hcsl],by rw [hxl];exact g4,by rw [hxl];exact g5,hlens,?_⟩⟩;rw [hxl,hlen,List.flatten_append,List.toList_toArray,Nat.add_mul,<- hcyl,show i * m+0=i * m from rfl];have e1:(ZJ cs.toList (i * m) cy).take (i * m+cy.length)=cs.toList.take (i * m) ++ cy:=by
   rw [Y6 (Nat.le_refl _) hle];rw [VJ _ _ _ (by rw [List.length_take,Nat.min_eq_left hle];exact Nat.le_refl _),List.take_take,Nat.min_eq_left (by omega),List.drop_of_length_le (by rw [List.length_take,Nat.min_eq_left hle];exact Nat.le_refl _),List.append_nil]
  rw [e1];refine ZE hst.c (λ_ _=>Ele.rfl) (λ_ h=>h) _ _ (Z7 ?_ y2);rw [Vr i g6];have:=X2 (i * m) g7;rw [List.take_take,Nat.min_eq_left (Nat.mul_le_mul_right m (by omega))] at this
  exact this)
 refine ⟨.slice (some ⟨b',0,none⟩) (i+ys.length) cap0,w',E,by simp [execOp,resolve,has,hts,invoke,builtin,hrun],λ_ _=>Ele.rfl,z1,z2,?_⟩;simp only [R];exact ⟨hnk,hvi,by rw [p1',hlen],rfl⟩
theorem Zk3 {m b k v v':Nat} {T:TypeId} {x y:X} {s sy:SV} {xs xs' ys:List (List SV)} (hc:ZM P (.appm m b T x y) o.op=true) (hh:HSim C E hp n w) (hkk:lkh k hp = .row v m xs T) (hRx:R w E n (okS C E hp) s (evX a x)) (hRy:R w E n (okS C E hp) sy (evX a y))
 (hy:ZdX m sy=some ys) (ho:APO m b s k v v' xs xs' ys) :
 ∃ y' w' E',(execOp a.eval o).run P w = .ok (.value y') w'/\(∀ k,n k->Ele E E' k k)/\HSim C E' ((k,.row v' m xs' T) :: hp) n w'/\ZG w w' (okS C E hp) (okS C E' ((k,.row v' m xs' T) :: hp)) /\
  R w' E' n (okS C E' ((k,.row v' m xs' T) :: hp)) (.mr k v') y':=by
 obtain ⟨h1,⟨rfl,rfl,rfl,h2⟩ | ⟨i,rfl,rfl,rfl,h2,h3⟩⟩:=ho
 . exact Zq7 hc hh hkk hRx hRy hy h1 h2
 . exact Zxx hc hh hkk hRx hRy hy h1 h2 h3
theorem APO.key {m b k v v':Nat} {s:SV} {xs xs' ys:List (List SV)} (ho:APO m b s k v v' xs xs' ys):(∃ u,s = .mr k u)\/∃ u i,s = .ms k u m 0 i:=by
 obtain ⟨_,⟨rfl,_⟩ | ⟨i,rfl,_⟩⟩:=ho
 . exact .inl ⟨_,rfl⟩
 . exact .inr ⟨_,_,rfl⟩
end
theorem ZeK {o:Oper} {i:SI} {d:Option Nat} {r:KT} {K:RK} {next:Act->World->Prop} {Q:Exit->Act->World->Prop} (hd:d=o.dst) (hc:Zm9 P i o=true) (hp:stp P Y d i σ r K) (h:Sim C E σ a w)
 (hn:∀ σ' E' a' w',r σ' K->Sim C E' σ' a' w'->next a' w')
 (hq:∀ s σ' E' w' y,K (.pan s) σ'->Sim C E' σ' a w'->R w' E' (ltn σ'.n) (okS C E' σ'.hp) s y->Q (.panic [{ v:=y,recovered:=false }]) a w') (hY:ZcM P C Y):o.wpq C.rd P a w next Q:=by
 subst hd;unfold Zm9 at hc;have dflt:ZM P i o.op=true->Yl P none o.dst i σ r K->o.wpq C.rd P a w next Q:=λhc h'=>by
  obtain ⟨s,h1,h2⟩:=XW hc h';exact Zx9 rfl h1 h2 h hn
 cases i<;>try (exact dflt hc hp)
 case rv op xs =>
  obtain ⟨s,h1,h2⟩:=hp;refine h1 o (WO hc).symm C E σ.hp (ltn σ.n) a w next Q (λ_=>.inr (.inl rfl)) h.hs (λx _=>Yw (Zu h.hs) h.fr (g:=none) trivial x) λw' y k1 k2 k3=>?_;obtain ⟨σ',g1,g2⟩:=ZeE h2 h (Ux k3) k1 k2 k3;exact hn σ' E _ w' g1 g2
 case rb op x xs =>
  obtain ⟨k,h1,s,g1,g2,g3,g4⟩:=hp;refine g3 o (WO hc).symm C E σ.hp (ltn σ.n) a w next Q rfl h.hs (λx _=>Yw (Zu h.hs) h.fr (g:=none) trivial x) λw' y k1 k2 k3=>?_;have hS:=YA h k2 (λ_ _=>Ele.rfl) (Nat.le_refl _) k1;obtain ⟨σ',q1,q2⟩:=ZeE (w:=w') (w':=w') g4 hS (Ux k3) k1 (λb hb _=>⟨hb,rfl⟩) k3;exact hn σ' E _ w' q1 q2
 case box x m T =>
  simp only [stp,ZiG] at hp;split at hp
  . rename_i t c ht hcx;obtain ⟨dst,op,ty,pos,after,guard⟩:=o;simp only at ht hc;subst ht;cases op<;>simp [ZM] at hc
    obtain ⟨rfl,hx⟩:=hc;have hR:=Yw (Zu h.hs) h.fr (g:=none) trivial x;have hRc:=UV hR hcx;obtain ⟨E',σ',h1,h2⟩:=ZgC (cs:=(evX a x).cells) (show ZiG (some t) (some c) T σ r K from hp) h hRc
    refine Zy (show (execOp a.eval _).run P w = .ok (.value (.pointer (some ⟨w.heap.size,0,none⟩))) (w.alloc (.cells (evX a x).cells T)) from by
     simp [execOp,Zf hx a,Instr.box,newVar,newRow]) (by simp) (hn σ' E' _ _ h1 h2)
  . cases hp
 case alloc z T =>
  simp only [stp] at hp;obtain ⟨dst,op,ty,pos,after,guard⟩:=o;cases dst with
  | none=>exact hp.elim
  | some t =>
   simp only at hc;cases op<;>simp [ZM] at hc
   obtain ⟨rfl,hz⟩:=hc;split at hz
   . rename_i zv hzv;have hzl:=WA hz;obtain ⟨E',σ',h1,h2⟩:=ZgC (cs:=zv.cells) hp h (by rw [hzl,Zcs];exact ZAV z)
     refine Zy (show (execOp a.eval _).run P w = .ok (.value (.pointer (some ⟨w.heap.size,0,none⟩))) (w.alloc (.cells zv.cells T)) from by
      simp [execOp,Instr.alloc,Sem.run_bind,VL hzv,newVar,newRow]) (by simp) (hn σ' E' _ _ h1 h2)
   . cases hz
 case st x y m =>
  simp only [stp,ZeF] at hp;split at hp
  . rename_i c hdn hcy;cases hk:chk c m
    . rw [hk] at hp;exact hp.elim
    . cases ho:Yt c
      . rw [hk,ho] at hp;exact hp.elim
      . rw [hk,ho] at hp;simp only [Zef,stX] at hp;obtain ⟨dst,op,ty,pos,after,guard⟩:=o;simp only at hdn hc;subst hdn;cases op<;>simp [ZM] at hc
        rename_i t xa yv;obtain ⟨⟨hx,hy⟩,hsz⟩:=hc;have hRx:=Yw (Zu h.hs) h.fr (g:=none) trivial x;have hRy:=Yw (Zu h.hs) h.fr (g:=none) trivial y;have hRc:=UV hRy hcy;have hlen:(evX a y).cells.size=m:=by
         have:=ZC hRc;rw [<- Array.length_toList,this];exact Ut hk
        have h1:=Y4 ho hRc;split at hp
        . rename_i k off hkx;unfold stC at hp;split at hp
          . rename_i l T hkk;cases hle:Nat.ble (off+m) l.length
            . rw [hle] at hp;exact hp.elim
            . rw [hle] at hp;simp only [ZyD] at hp;rw [hkx] at hRx;simp only [R] at hRx;have hb:=h.hs.bk k;rw [hkk] at hb;simp only [Ya] at hb;obtain ⟨cs,e1,e2⟩:=hb;have hcl:=ZC e2;have hle':off+m<=l.length:=Nat.le_of_ble_eq_true hle;obtain ⟨w',q1,q2⟩:=YY (P:=P) (t:=t) (m:=m) (v:=evX a y) (o:=off) (cs:=cs.toList) (T:=T) hsz hlen (by simpa using e1) (by omega) h1;have hocc:∀ b,occ E k (.cells (Zv l off c) T) b↔occ E k (lkh k σ.hp) b:=λb=>by rw [hkk];rfl
              obtain ⟨s1,s2⟩:=Xm h.hs (hb:=.cells (Zv l off c) T) hocc (by rw [hkk];rfl) q2 (λhst=>by
               simp only [Ya]
               exact ⟨_,q2.here,by simpa using Xy off (ZE hst (λ_ _=>Ele.rfl) (λ_ h=>h) _ _ e2) (ZE hst (λ_ _=>Ele.rfl) (λ_ h=>h) _ _ hRc)⟩)
              have hsim:=YA h s2 (λ_ _=>Ele.rfl) (Nat.le_refl _) s1
              refine Zy (show (execOp a.eval _).run P w = .ok .skip w' from by
               simp only [execOp,Zf hx a,Zf hy a,hRx.2,Instr.storeAt,Instr.sureAddr,Sem.run_bind,Sem.run_pure,Result.andThen_ok,q1]) (by simp) (hn _ E _ _ hp hsim)
          . cases hp
        . rename_i k vv m' j off hkx;unfold stR at hp;split at hp
          . rename_i v' m'' xs T hkk;cases hm:X9 (Nat.beq m' m'') (Nat.beq vv v')
            . rw [hm] at hp;exact hp.elim
            . rw [hm] at hp;simp only [ZyU] at hp;obtain ⟨hm,hvv⟩:=Yi hm;have:=Nat.eq_of_beq_eq_true hm;subst this;have:=Nat.eq_of_beq_eq_true hvv;subst this;obtain ⟨row,r1,r2,r3⟩:=hp;rw [hkx] at hRx;simp only [R] at hRx;obtain ⟨_,_,b,len,cap,g1,g2⟩:=hRx;have hb:=h.hs.bk k;rw [hkk] at hb;simp only [Ya] at hb;rcases hb with ⟨hi0,⟨hb,_⟩ | ⟨b',cap',cs,q1,q2,q3,⟨q4,q4'⟩,q5,q6,q7⟩⟩
              . rw [hb] at r1;simp at r1
              . rw [g1] at q1;simp at q1;obtain ⟨rfl,rfl,rfl⟩:=q1;have hjl:j < xs.length:=(List.getElem?_eq_some_iff.1 r1).1;have hrow:row.length=m':=q6 row (List.mem_of_getElem? r1);have hcm:=Ut hk;have hjm:j * m'+m'<=xs.length * m':=by
                 have:=Nat.mul_le_mul_right m' (show j+1<=xs.length from hjl);rw [Nat.add_mul,Nat.one_mul] at this;exact this
                have hcapm:xs.length * m'<=cap * m':=Nat.mul_le_mul_right m' q4;obtain ⟨w',p1,p2⟩:=YY (P:=P) (t:=t) (m:=m) (v:=evX a y) (o:=j * m'+off) (cs:=cs.toList) (T:=T) hsz hlen (by simpa using q2) (by simp only [Array.length_toList,q3];omega) h1;have hocc:∀ b',occ E k (.row vv m' (xs.set j (Zv row off c)) T) b'↔occ E k (lkh k σ.hp) b':=λb'=>by rw [hkk];rfl
                obtain ⟨s1,s2⟩:=Xm h.hs (hb:=.row vv m' (xs.set j (Zv row off c)) T) hocc (by rw [hkk];exact ⟨_,_,g1,q4'⟩) p2 (λhst=>by
                 simp only [Ya];refine ⟨hi0,.inr ⟨b,cap,_,by simpa using g1,p2.here,?_,by simpa using ⟨q4,q4'⟩,by simpa using q5,λrr hrr=>?_,?_⟩⟩
                 . simp [ZP,q3]
                 . rcases List.mem_or_eq_of_mem_set hrr with hrr | rfl
                   . exact q6 rr hrr
                   . rw [Xb,hrow]
                 . rw [WV r1 q6 (by omega),List.length_set];rw [Y6 (by rw [show (evX a y).cells.toList.length=m from by simpa using hlen];omega) (by simp [q3];omega)]
                   exact Xy _ (ZE hst (λ_ _=>Ele.rfl) (λ_ h=>h) _ _ q7) (ZE hst (λ_ _=>Ele.rfl) (λ_ h=>h) _ _ hRc))
                have hsim:=YA h s2 (λ_ _=>Ele.rfl) (Nat.le_refl _) s1
                refine Zy (show (execOp a.eval _).run P w = .ok .skip w' from by
                 simp only [execOp,Zf hx a,Zf hy a,g2,Instr.storeAt,Instr.sureAddr,Sem.run_bind,Sem.run_pure,Result.andThen_ok,p1]) (by simp) (hn _ E _ _ r3 hsim)
          . rename_i v' m0 xs T oo mi inn T' hkk;obtain ⟨i,rows,TT,xs2,inn2,row,rfl,hat,r1,r2,hl1,hl2,hat2,hoth,r3⟩:=Zta hp;rw [hkx] at hRx;simp only [R] at hRx;obtain ⟨_,_,b,len,cap,g1,g2⟩:=hRx;have hcm:=Ut hk;obtain ⟨cs,q2,q3,q4⟩:=ZdU h.hs hkk hat r1 r2 hl1 hl2 hat2 hoth hRc g1;obtain ⟨w',p1,p2⟩:=YY (P:=P) (t:=t) (m:=m) (v:=evX a y) (o:=j * m'+off) (cs:=cs.toList) (T:=TT) hsz hlen (by simpa using q2) (by simp only [Array.length_toList];omega) h1
            obtain ⟨s1,s2⟩:=q4 w' p2;have hsim:=YA h s2 (λ_ _=>Ele.rfl) (Nat.le_refl _) s1
            refine Zy (show (execOp a.eval _).run P w = .ok .skip w' from by
             simp only [execOp,Zf hx a,Zf hy a,g2,Instr.storeAt,Instr.sureAddr,Sem.run_bind,Sem.run_pure,Result.andThen_ok,p1]) (by simp) (hn _ E _ _ r3 hsim)
          . cases hp
        . cases hp
  . cases hp
 case cln m b T x y =>
  simp only [stp,Ztp] at hp;split at hp
  case h_2=>cases hp
  case h_3=>cases hp
  case h_4=>cases hp
  rename_i ys hxs hys;obtain ⟨hlim,hp⟩:=hp;obtain ⟨v,w',e1,e2,e3⟩:=ZlR hc (Yw (Zu h.hs) h.fr (g:=none) trivial x) (Yw (Zu h.hs) h.fr (g:=none) trivial y) hxs hys hlim;obtain ⟨E',σ',h1,h2⟩:=ZdB hp h e2 e3;exact Zy e1 (by simp) (hn σ' E' _ _ h1 h2)
 case cpy m x y =>
  simp only [stp] at hp;obtain ⟨k,v,i,L,xs,ys,T,q1,q2,q3,q4,q5,q6⟩:=ZtD hp;obtain ⟨w',e1,e2,e3⟩:=ZmT hc h.hs q2 q1 (Yw (Zu h.hs) h.fr (g:=none) trivial x) q3 (Yw (Zu h.hs) h.fr (g:=none) trivial y) q4 q5;rcases ZmF q6 with ⟨g1,g2⟩ | ⟨t,g1,g2,g3,g4⟩
  . have hS:=YA h e3 (λ_ _=>Ele.rfl) (Nat.le_refl _) e2;exact Zy e1 (by simp) (hn _ E _ _ g2 (by rw [g1];exact hS))
  . have hS:=Xo h e3 (λ_ _=>Ele.rfl) (Nat.le_refl _) e2 g2 g3 (s:=.v (.int .i64 (min L ys.length:Nat))) (λ_ _ _ e=>by cases e) (by simp only [R];rfl);rw [<- g1] at hS;exact Zy e1 (by simp) (hn _ E _ _ g4 hS)
 case appm m b T x y =>
  simp only [stp] at hp;obtain ⟨k,v,xs,ys,t,v',xs',q2,q3,q4,q6,q7,q8,q9⟩:=Ztu hp;have hRx:=Yw (Zu h.hs) h.fr (g:=none) trivial x;obtain ⟨y',w',E',e1,e2,e3,e4,e5⟩:=Zk3 hc h.hs q3 hRx (Yw (Zu h.hs) h.fr (g:=none) trivial y) q2 q4;have hS:=Xo h e4 e2 (Nat.le_refl _) e3 q7 q8 (λ_ _ _ e=>by cases e) e5;rw [<- q6] at hS;exact Zy e1 (by simp) (hn _ E' _ _ q9 hS)
 case mks m b z T x =>
  simp only [stp,Zzg] at hp;split at hp
  case h_2=>cases hp
  rename_i kd n hx;obtain ⟨k,rfl,hlim,hp⟩:=hp;have hRx:=Yw (Zu h.hs) h.fr (g:=none) trivial x;rw [hx] at hRx;simp only [R] at hRx;obtain ⟨v,w',e1,e2,e3⟩:=ZfA (C:=C) (E:=E) (hp:=σ.hp) (n:=ltn σ.n) (w:=w) hc hRx hlim;obtain ⟨E',σ',h1,h2⟩:=ZdB hp h e2 e3;exact Zy e1 (by simp) (hn σ' E' _ _ h1 h2)
 case isn x =>
  simp only [stp,ZBW] at hp;split at hp
  case h_2=>cases hp
  rename_i c m xs hx;have hRx:=Yw (Zu h.hs) h.fr (g:=none) trivial x;rw [hx] at hRx;have hrun:=Zuv hc hRx;obtain ⟨bb,k1,k2⟩:=hrun;obtain ⟨σ',h1,h2⟩:=ZaG (hp bb k1) h (λ_ _ _ e=>by cases e) (Below.refl _ _) (show R w E (ltn σ.n) (okS C E σ.hp) (.v (.bool bb)) (.bool bb) by simp [R]);exact Zy k2 (by simp) (hn σ' E _ _ h1 h2)
 case callm f as =>
  have hR:RL w E (ltn σ.n) (okS C E σ.hp) (UT (rdG none σ.fr) as) (as.map (evX a)):=U0 as λx _=>Yw (Zu h.hs) h.fr (g:=none) trivial x;obtain ⟨as',ts,e1,e2⟩:=ZiP hc;have he:as'.map a.eval=(as.map (evX a)).toArray:=by apply Array.toList_inj.1;simp [YG e2 a]
  obtain ⟨hbd,hcall⟩:=Zez hp h hR hn hq;refine ZbH (f:=f) (vs:=(as.map (evX a)).toArray) (w':=w) ?_ (hcall o rfl);simp [execOp,e1,resolve,Act.eval,Deferred.ofValue,invoke,he,Y2 hbd]
 case calvm x as =>
  have hR:RL w E (ltn σ.n) (okS C E σ.hp) (UT (rdG none σ.fr) as) (as.map (evX a)):=U0 as λx _=>Yw (Zu h.hs) h.fr (g:=none) trivial x;have hRx:=Yw (Zu h.hs) h.fr (g:=none) trivial x;obtain ⟨y,as',ts,e1,e2,e3⟩:=Zj2 hc;have he:as'.map a.eval=(as.map (evX a)).toArray:=by apply Array.toList_inj.1;simp [YG e3 a]
  simp only [stp,ZhF] at hp;split at hp
  . rename_i f caps hx;simp only [hx,R] at hRx;obtain ⟨cs,k1,k2⟩:=hRx;have he2:(as.map (evX a)).toArray ++ cs=(as.map (evX a) ++ cs.toList).toArray:=by apply Array.toList_inj.1;simp
    obtain ⟨hbd,hcall⟩:=Zez hp h (Z7 hR k2) hn hq;refine ZbH (f:=f) (vs:=(as.map (evX a) ++ cs.toList).toArray) (w':=w) ?_ (hcall o rfl);simp [execOp,e1,resolve,Zf e2 a,k1,Deferred.ofValue,invoke,he,he2,Y2 hbd]
  . rename_i k hx;simp only [hx,R] at hRx;obtain ⟨k1,k2⟩:=hRx;obtain ⟨fn,tmps,assign,body,q1,q2⟩:=hY C Sub.rfl k _ _ _ _ hp E w _ h.hs k1 hR;refine Zy (x:=.round (E.β k) fn tmps assign body) (w':=w) ?_ (by simp) ?_
    . simp [execOp,e1,resolve,Zf e2 a,k2,Deferred.ofValue,invoke,he,q1]
    . refine (Za3.mono q2 λe w' ⟨oo,E',y,r1,r2,r3,r4,r5,r6,r7⟩=>?_);rw [r7];exact Zkt r1 h r2 r3 r4 r5 r6 hn hq _ rfl
  . cases hp
 case raw op ty =>
  simp only [Bool.and_eq_true,beq_iff_eq] at hc;exact hp o C E a w next Q rfl (WO hc.1).symm hc.2.symm h hn hq
end
def ExQ (C:Cx) (Q:Exit->Act->World->Prop) (e:Ex) (σ : St) (E:Env) (a:Act) (w:World):Prop :=
 match e with
 | .n=>Q .normal a w
 | .ex i=>Q (.exit i) a w
 | .ret=>Q .ret a w
 | .pan s=>∀ y,R w E (ltn σ.n) (okS C E σ.hp) s y->Q (.panic [{ v:=y,recovered:=false }]) a w
def LkQ (C:Cx) (K:Ex->St->Prop) (Q:Exit->Act->World->Prop):Prop:=∀ e σ,K e σ->∀ E a w,Sim C E σ a w->ExQ C Q e σ E a w
section
variable {P:Program} {C:Cx}
theorem Za6 {E:Env} {σ : St} {a:Act} {w:World} {o:Oper} {io:Ins} {ops:Array Oper} {r:KT} {K:RK} {next:Act->World->Prop} {Q:Exit->Act->World->Prop} {j:Nat} {wt:Bool}
 (hc:VC P ops io o=true) (hg:io.g=some (j,wt)) (hb:(∃ b,lk j σ.fr = .v (.bool b))\/∃ j' b' b,lk j σ.fr = .gd j' b' (.v (.bool b))) (hp:Yl P (some (j,wt)) io.d io.i σ r K) (h:Sim C E σ a w)
 (hn:∀ σ' E' a' w',r σ' K->Sim C E' σ' a' w'->next a' w'):if Region.wanted o (yielded ops a.tmps) then o.wpq C.rd P a w next Q else next (a.put o.dst undef) w:=by
 obtain ⟨d,i,g,af⟩:=io;simp only at hg;subst hg;simp only [VC,Bool.and_eq_true,decide_eq_true_eq] at hc;obtain ⟨⟨hd,hc⟩,hgd⟩:=hc;subst hd;have hci:ZM P i o.op=true:=by
  cases i<;>first | exact hc | (simp [Yl,pv,Wv] at hp)
 split at hgd
 . rename_i h1 h2;cases h1
 . rename_i t w1 j' w' h1 h2;simp only [Option.some.injEq,Prod.mk.injEq] at h1;obtain ⟨rfl,rfl⟩:=h1;simp only [Bool.and_eq_true,beq_iff_eq] at hgd;obtain ⟨rfl,hgd⟩:=hgd;have hdst:(ops[j']?).bind (·.dst)=some j:=by
    split at hgd
    . rename_i t' ht';simp at hgd;subst hgd;exact ht'
    . cases hgd
   obtain ⟨s,k1,k2⟩:=XW hci hp;have hFR:=h.fr j;have hsz:=h.sz;have hwant:Region.wanted o (yielded ops a.tmps)=true↔ge σ.fr j wt:=by
    simp only [Region.wanted,h2,yielded,hdst,Option.bind_some];rcases hb with ⟨b,hb⟩ | ⟨j0,b0,b,hb⟩
    . rw [hb] at hFR;have hv:a.tmps.getD j undef = .bool b:=hFR;have hv':a.tmps[j]? = some (.bool b):=by
       cases hq:a.tmps[j]?<;>simp [hq] at hv
       . cases hv
       . exact congrArg some hv
      simp only [hv',beq_iff_eq,Option.some.injEq];exact ⟨λe=>.base (by rw [hb,e]),λe=>ZA4 e hb⟩
    . rw [hb] at hFR;obtain ⟨f1,f2⟩:=hFR;by_cases hge:ge σ.fr j0 b0
      . have hv:a.tmps.getD j undef = .bool b:=by have:=f1 hge;simpa only [R] using this
        have hv':a.tmps[j]? = some (.bool b):=by
         cases hq:a.tmps[j]?<;>simp [hq] at hv
         . cases hv
         . exact congrArg some hv
        simp only [hv',beq_iff_eq,Option.some.injEq];exact ⟨λe=>.step (by rw [hb,e]) hge,λe=>by have:=(Zil e hb).2;simpa using this⟩
      . have hv:=f2 hge;have hv':a.tmps[j]? = none\/a.tmps[j]? = some undef:=by
         cases hq:a.tmps[j]?<;>simp [hq] at hv
         . exact .inl rfl
         . exact .inr (congrArg some hv)
        constructor
        . intro e;rcases hv' with hv' | hv'<;>simp [hv',undef] at e
        . intro e;exact absurd (Zil e hb).1 hge
   cases hdd:o.dst with
   | none=>rw [hdd] at k1;simp [Yq] at k1
   | some t =>
    rw [hdd] at k1;simp only [Yq] at k1;cases hm:Xk t σ.gs
    . cases hN:Nat.blt t σ.N
      . rw [hm,hN] at k1;exact k1.elim
      . cases htj:Nat.beq t j
        . rw [hm,hN,htj] at k1;simp only [ZBG] at k1;have htg:t ∉ σ.gs:=λhh=>by rw [ZW.2 hh] at hm;cases hm
          have htj':t≠j:=λe=>by subst e;rw [nbr] at htj;cases htj
          have hN':t < σ.N:=by simpa [Nat.blt_eq] using hN
          split
          . rename_i hw;have hge:=hwant.1 hw;refine k2 C E (ltn σ.n) a w h.hs (Zeg h i) hge _ next Q λy w' ⟨hR,hbel⟩=>?_;rw [hdd];exact hn _ E _ w' k1 (ZgN h hbel htg htj' hN' (λ_=>hR) (λhh=>absurd hge hh))
          . rename_i hw;have hge:¬ ge σ.fr j wt:=λhh=>hw (hwant.2 hh);exact hn _ E _ w k1 (ZgN h (Below.refl _ _) htg htj' hN' (λhh=>absurd hh hge) (λ_=>rfl))
        . rw [hm,hN,htj] at k1;exact k1.elim
    . rw [hm] at k1;exact k1.elim
 . cases hgd
theorem Zb2 {E:Env} {σ : St} {a:Act} {w:World} {ops:Array Oper} {io:Ins} {o:Oper} {r:KT} {K:RK} {next:Act->World->Prop} {Q:Exit->Act->World->Prop} (hc:VC P ops io o=true) (hr:st1 P Y io σ r K) (h:Sim C E σ a w)
 (hn':∀ σ' E' a' w',r σ' K->Sim C E' σ' a' w'->next a' w')
 (hq:∀ s σ' E' w' y,K (.pan s) σ'->Sim C E' σ' a w'->R w' E' (ltn σ'.n) (okS C E' σ'.hp) s y->Q (.panic [{ v:=y,recovered:=false }]) a w') (hY:ZcM P C Y):if Region.wanted o (yielded ops a.tmps) then o.wpq C.rd P a w next Q else next (a.put o.dst undef) w:=by
 obtain ⟨d,i,g,af⟩:=io;rcases g with _ | ⟨j,wt⟩
 . simp only [st1] at hr;have hg:(⟨d,i,none,af⟩:Ins).g=none:=rfl;have hgo:o.guard=none:=by
    have hc1:=hc;simp only [VC,Bool.and_eq_true] at hc1;have:=hc1.2;cases hq:o.guard<;>simp [hq] at this ⊢
   rw [if_pos (by simp [Region.wanted,hgo])];have hc1:=hc;simp only [VC,Bool.and_eq_true,decide_eq_true_eq] at hc1;exact ZeK hc1.1.1 hc1.1.2 hr h hn' hq hY
 . simp only [st1,gK] at hr;have hg:(⟨d,i,some (j,wt),af⟩:Ins).g=some (j,wt):=rfl;split at hr
   . rename_i b hb;have hc1:=hc;simp only [VC,Bool.and_eq_true,decide_eq_true_eq] at hc1;have hw:Region.wanted o (yielded ops a.tmps)=(b == wt):=by
      have h3:=hc1.2;split at h3
      . rename_i e _;cases e
      . rename_i t w1 j' w' e1 e2;simp only [Option.some.injEq,Prod.mk.injEq] at e1;obtain ⟨rfl,rfl⟩:=e1;simp only [Bool.and_eq_true,beq_iff_eq] at h3;obtain ⟨rfl,h3⟩:=h3;have hdst:(ops[j']?).bind (·.dst)=some j:=by
         split at h3
         . rename_i t' ht';simp at h3;subst h3;exact ht'
         . cases h3
        have hFR:=h.fr j;rw [hb] at hFR;have hv:a.tmps.getD j undef = .bool b:=hFR;have hv':a.tmps[j]? = some (.bool b):=by
         cases hq:a.tmps[j]?<;>simp [hq] at hv
         . cases hv
         . exact congrArg some hv
        simp only [Region.wanted,e2,yielded,hdst,Option.bind_some,hv'];rfl
      . cases h3
     rcases hr with ⟨rfl,hr⟩ | ⟨hne,hr⟩ | hr
     . rw [hw];simp only [BEq.rfl,if_true];exact ZeK hc1.1.1 hc1.1.2 hr h hn' hq hY
     . rw [hw,if_neg (by simpa using hne)];obtain ⟨σ',h1,h2⟩:=ZaG hr h (λ_ _ _ e=>by cases e) (Below.refl _ _) (y:=undef) (by simp [R]);rw [hc1.1.1] at h2;exact hn' σ' E _ w h1 h2
     . exact Za6 hc hg (.inl ⟨b,hb⟩) hr h hn'
   . rename_i j' b' b hb;exact Za6 hc hg (.inr ⟨j',b',b,hb⟩) hr h hn'
   . cases hr
theorem Zdn (hY:ZcM P C Y) {ops:Array Oper} {Q:Exit->Act->World->Prop} {K:RK} (hK:LkQ C K Q):∀ (l:List Ins) (os:List Oper),Zau P ops l os=true ->
 ∀ (σ : St) E a w,rx P Y l σ K->Sim C E σ a w->Ur C.rd P ops Q os a w
 | [],[],_,σ,E,a,w,hr,h=>hK .n σ hr E a w h
 | io :: l,o :: os,hc,σ,E,a,w,hr,h=>by
  simp only [Zau,Bool.and_eq_true] at hc;have ih:=Zdn hY hK l os hc.2;have hn:∀ σ' E' a' w',rx P Y l σ' K->Sim C E' σ' a' w'->Ur C.rd P ops Q os a' w':=λσ' E' a' w' h1 h2=>ih σ' E' a' w' h1 h2;have key:=Zb2 (next:=Ur C.rd P ops Q os) hc.1 hr h (λσ' E' a' w' h1 h2=>hn σ' E' a' w' h1 h2) (λs σ' E' w' y h1 h2 h3=>hK (.pan s) σ' h1 E' a w' h2 y h3) hY;exact key
 | [],_ :: _,h,_,_,_,_,_,_=>by simp [Zau] at h
 | _ :: _,[],h,_,_,_,_,_,_=>by simp [Zau] at h
end
end Go.Sx
