/- A walk through the code of the given statement, and what it says. -/
import Derived.Test.YthilckbkffjliaaCI
import Derived.Test.YthilckbkffjliaaRows
set_option linter.all false
open Nat renaming reduceAdd→rA,reduceMul→rM,reduceSub→rS,beq_refl→nbr
set_option maxRecDepth 100000
namespace Go.Proofs.Ythilckbkffjliaa
open Go Go.Sx
def c10:SC:=(.seq (.reg [
 o1 3 (.box (.t 0) 0 24),
 o1 6 (.mv (.c (.bool false)))])
 (.seq (.reg [
 o1 21 (.call 34 []),
 m1 7 21])
 (.seq (.seq (.reg [
 o1 22 (.ld (.t 3) 4 true),
 m1 23 1,
 o1 24 (.call 35 [.t 22,.t 23]),
 o1 25 (.un .not (.t 24)),
 m1 26 25,
 ⟨some 27,.mv (.t 7),some (26,false),[]⟩,
 ⟨some 28,.un .not (.t 27),some (26,false),[]⟩,
 o1 29 (.pick (.t 26) (.c (.bool true)) (.t 28))])
 (.cond (.t 29)
 (.seq (.reg [
  m1 30 7,
  m1 6 30])
  .ret)
 .skip))
 (.seq (.reg [
 o1 32 (.ld (.t 3) 4 true),
 m1 33 1,
 o1 34 (.call 24 [.t 32,.t 33]),
 m1 31 34,
 o1 35 (.ext (.t 31) 0),
 o1 36 (.ext (.t 31) 1),
 o1 37 (.ext (.t 31) 2),
 m1 8 35,
 m1 9 36,
 m1 10 37])
 (.seq (.seq (.reg [
 m1 38 10,
 o1 39 (.bin .neq (.t 38) (.c (.int .i64 0))),
 m1 40 39,
 ⟨some 41,.mv (.t 9),some (40,false),[]⟩,
 ⟨some 42,.len (.t 41),some (40,false),[]⟩,
 ⟨some 43,.mv (.t 8),some (40,false),[]⟩,
 ⟨some 44,.len (.t 43),some (40,false),[]⟩,
 ⟨some 45,.bin .neq (.t 42) (.t 44),some (40,false),[]⟩,
 o1 46 (.pick (.t 40) (.c (.bool true)) (.t 45))])
 (.cond (.t 46)
 (.seq (.reg [
  o1 6 (.mv (.c (.bool false)))])
  .ret)
 .skip))
 (.seq (.seq (.reg [
 m1 47 8,
 o1 48 (.len (.t 47)),
 o1 49 (.bin .eql (.t 48) (.c (.int .i64 0)))])
 (.cond (.t 49)
 (.seq (.reg [
  m1 50 7,
  m1 6 50])
  .ret)
 .skip))
 (.seq (.seq (.reg [
 o1 11 (.mv (.c (.int .i64 1)))])
 (.block 0 (.loop (.seq (.seq (.reg [
  m1 51 11,
  m1 52 8,
  o1 53 (.len (.t 52)),
  o1 54 (.bin .lss (.t 51) (.t 53))])
  (.cond (.t 54)
  .skip
  (.exit 0)))
  (.seq (.block 1 (.seq (.regd [0,1,2,3,4,5,6,7,8,9,10,11,12,13,14,15,16,17,18,19,20,21,22,23,24,25,26,27,28,29,30,31,32,33,34,35,36,37,38,39] [
   .op (m1 57 8),
   .op (m1 58 11),
   .op ⟨some 59,.ixs (.t 57) (.t 58) 8,none,[0,1]⟩,
   .op ⟨some 60,.addo (.t 59) 1,none,[2]⟩,
   .op ⟨some 61,.ld (.t 60) 1 false,none,[3]⟩,
   .op (m1 62 8),
   .op (m1 63 11),
   .op ⟨some 64,.bin .sub (.t 63) (.c (.int .i64 1)),none,[6]⟩,
   .op ⟨some 65,.ixs (.t 62) (.t 64) 8,none,[5,7]⟩,
   .op ⟨some 66,.addo (.t 65) 1,none,[8]⟩,
   .op ⟨some 67,.ld (.t 66) 1 false,none,[9]⟩,
   .op ⟨some 68,.bin .lss (.t 61) (.t 67),none,[4,10]⟩,
   .op ⟨some 69,.mv (.t 68),none,[11]⟩,
   .op ⟨some 70,.mv (.t 8),some (69,false),[12]⟩,
   .op ⟨some 71,.mv (.t 11),some (69,false),[12]⟩,
   .op ⟨some 72,.ixs (.t 70) (.t 71) 8,some (69,false),[12,13,14]⟩,
   .op ⟨some 73,.addo (.t 72) 1,some (69,false),[12,15]⟩,
   .op ⟨some 74,.ld (.t 73) 1 false,some (69,false),[12,16]⟩,
   .op ⟨some 75,.mv (.t 8),some (69,false),[12]⟩,
   .op ⟨some 76,.mv (.t 11),some (69,false),[12]⟩,
   .op ⟨some 77,.bin .sub (.t 76) (.c (.int .i64 1)),some (69,false),[12,19]⟩,
   .op ⟨some 78,.ixs (.t 75) (.t 77) 8,some (69,false),[12,18,20]⟩,
   .op ⟨some 79,.addo (.t 78) 1,some (69,false),[12,21]⟩,
   .op ⟨some 80,.ld (.t 79) 1 false,some (69,false),[12,22]⟩,
   .op ⟨some 81,.bin .eql (.t 74) (.t 80),some (69,false),[12,17,23]⟩,
   .op ⟨some 82,.mv (.t 81),some (69,false),[12,24]⟩,
   .op ⟨some 83,.mv (.t 8),some (82,true),[25]⟩,
   .op ⟨some 84,.mv (.t 11),some (82,true),[25]⟩,
   .op ⟨some 85,.ixs (.t 83) (.t 84) 8,some (82,true),[25,26,27]⟩,
   .op ⟨some 86,.addo (.t 85) 0,some (82,true),[25,28]⟩,
   .op ⟨some 87,.ld (.t 86) 1 false,some (82,true),[25,29]⟩,
   .op ⟨some 88,.mv (.t 8),some (82,true),[25]⟩,
   .op ⟨some 89,.mv (.t 11),some (82,true),[25]⟩,
   .op ⟨some 90,.bin .sub (.t 89) (.c (.int .i64 1)),some (82,true),[25,32]⟩,
   .op ⟨some 91,.ixs (.t 88) (.t 90) 8,some (82,true),[25,31,33]⟩,
   .op ⟨some 92,.addo (.t 91) 0,some (82,true),[25,34]⟩,
   .op ⟨some 93,.ld (.t 92) 1 false,some (82,true),[25,35]⟩,
   .op ⟨some 94,.bin .leq (.t 87) (.t 93),some (82,true),[25,30,36]⟩,
   .op ⟨some 95,.pick (.t 82) (.t 94) (.c (.bool false)),some (69,false),[12,25,37]⟩,
   .op ⟨some 96,.pick (.t 69) (.c (.bool true)) (.t 95),none,[12,38]⟩] 0 0 [
])
 (.cond (.t 96)
 (.seq (.reg [
  o1 6 (.mv (.c (.bool false)))])
  .ret)
 .skip)))
 (.reg [
 m1 55 11,
 o1 56 (.bin .add (.t 55) (.c (.int .i64 1))),
 m1 11 56]))))))
 (.seq (.reg [
 m1 97 2,
 o1 98 (.conv .i64 (.t 97)),
 m1 99 8,
 o1 100 (.len (.t 99)),
 o1 101 (.div .rem (.t 98) (.t 100)),
 m1 12 101])
 (.seq (.seq (.reg [
 m1 102 9,
 m1 103 12,
 o1 104 (.ixs (.t 102) (.t 103) 1),
 o1 105 (.ld (.t 104) 1 false),
 o1 106 (.bin .eql (.t 105) (.c (.int .u8 0)))])
 (.cond (.t 106)
 (.seq (.reg [
  m1 107 7,
  m1 6 107])
  .ret)
 .skip))
 (.seq (.regd [0,1,2,3,5,6,7,8,4,9,10] [
 .op (o1 108 (.bsl 8 50 [])),
 .op (m1 109 8),
 .op (m1 110 12),
 .op ⟨some 111,.sub 8 (.t 109) none (some (.t 110)),none,[1,2]⟩,
 .op (m1 113 8),
 .op (m1 114 12),
 .op ⟨some 115,.bin .add (.t 114) (.c (.int .i64 1)),none,[6]⟩,
 .op ⟨some 116,.sub 8 (.t 113) (some (.t 115)) none,none,[5,7]⟩] 1 2 [
 ⟨some 112,.cln 8 64 50 (.t 108) (.t 111),none,[0,3]⟩,
 ⟨some 117,.appm 8 64 50 (.t 112) (.t 116),none,[4,8]⟩,
 ⟨some 13,.mv (.t 117),none,[0,1,2,3,4,5,6,7,8,9]⟩])
 (.seq (.gh (.reg [
 o1 119 (.ld (.t 3) 4 true),
 m1 120 1,
 o1 121 (.call 29 [.t 119,.t 120]),
 m1 118 121,
 o1 122 (.ext (.t 118) 0),
 o1 123 (.ext (.t 118) 1),
 m1 14 122,
 m1 15 123]))
 (.seq (.gh (.reg [
 o1 125 (.ld (.t 3) 4 true),
 m1 126 13,
 o1 127 (.call 29 [.t 125,.t 126]),
 m1 124 127,
 o1 128 (.ext (.t 124) 0),
 o1 129 (.ext (.t 124) 1),
 m1 16 128,
 m1 17 129]))
 (.seq (.reg [
 o1 131 (.ld (.t 3) 4 true),
 m1 132 13,
 o1 133 (.call 24 [.t 131,.t 132]),
 m1 130 133,
 o1 134 (.ext (.t 130) 0),
 o1 135 (.ext (.t 130) 1),
 o1 136 (.ext (.t 130) 2),
 m1 18 134,
 m1 19 135,
 m1 20 136])
 (.seq (.regd [0,1,2,3,4,5,6,7,8,9,10,11,12,13,14,15,16,17,18,19,20,21,22,23,24,25,26,27,28,29,30,31,32,33,34,35,36,37,38,39,40,41,42,43,44,45,46,47,48,49,50,51,52,53,54,55] [
 .op (m1 137 7),
 .op ⟨some 138,.mv (.t 137),none,[0]⟩,
 .op ⟨some 139,.mv (.t 9),some (138,true),[1]⟩,
 .op ⟨some 140,.mv (.t 12),some (138,true),[1]⟩,
 .op ⟨some 141,.ixs (.t 139) (.t 140) 1,some (138,true),[1,2,3]⟩,
 .op ⟨some 142,.ld (.t 141) 1 false,some (138,true),[1,4]⟩,
 .op ⟨some 143,.bin .leq (.t 142) (.c (.int .u8 5)),some (138,true),[1,5]⟩,
 .op ⟨some 144,.pick (.t 138) (.t 143) (.c (.bool false)),none,[1,6]⟩,
 .op ⟨some 145,.mv (.t 144),none,[1,7]⟩,
 .op ⟨some 146,.mv (.t 15),some (145,true),[8]⟩,
 .op ⟨some 147,.bin .eql (.t 146) (.c (.int .i64 0)),some (145,true),[8,9]⟩,
 .op ⟨some 148,.pick (.t 145) (.t 147) (.c (.bool false)),none,[8,10]⟩,
 .op ⟨some 149,.mv (.t 148),none,[8,11]⟩,
 .op ⟨some 150,.mv (.t 17),some (149,true),[12]⟩,
 .op ⟨some 151,.bin .eql (.t 150) (.c (.int .i64 0)),some (149,true),[12,13]⟩,
 .op ⟨some 152,.pick (.t 149) (.t 151) (.c (.bool false)),none,[12,14]⟩,
 .op ⟨some 153,.mv (.t 152),none,[12,15]⟩,
 .op ⟨some 154,.mv (.t 20),some (153,true),[16]⟩,
 .op ⟨some 155,.bin .eql (.t 154) (.c (.int .i64 0)),some (153,true),[16,17]⟩,
 .op ⟨some 156,.pick (.t 153) (.t 155) (.c (.bool false)),none,[16,18]⟩,
 .op ⟨some 157,.mv (.t 156),none,[16,19]⟩,
 .op ⟨some 158,.mv (.t 14),some (157,true),[20]⟩,
 .op ⟨some 159,.mv (.t 16),some (157,true),[20]⟩,
 .op ⟨some 160,.call 22 [.t 158,.t 159],some (157,true),[20,21,22]⟩,
 .op ⟨some 161,.pick (.t 157) (.t 160) (.c (.bool false)),none,[20,23]⟩,
 .op ⟨some 162,.mv (.t 161),none,[23,24]⟩,
 .op ⟨some 163,.mv (.t 19),some (162,true),[25]⟩,
 .op ⟨some 164,.len (.t 163),some (162,true),[25,26]⟩,
 .op ⟨some 165,.mv (.t 13),some (162,true),[25]⟩,
 .op ⟨some 166,.len (.t 165),some (162,true),[25,28]⟩,
 .op ⟨some 167,.bin .eql (.t 164) (.t 166),some (162,true),[25,27,29]⟩,
 .op ⟨some 168,.pick (.t 162) (.t 167) (.c (.bool false)),none,[25,30]⟩,
 .op ⟨some 169,.mv (.t 168),none,[25,31]⟩,
 .op ⟨some 170,.mv (.t 19),some (169,true),[32]⟩,
 .op ⟨some 171,.mv (.t 12),some (169,true),[32]⟩,
 .op ⟨some 172,.sub 1 (.t 170) none (some (.t 171)),some (169,true),[32,33,34]⟩,
 .op ⟨some 173,.rv (Go.Op.convert 39 9 (Go.Operand.tmp 172)) [.t 172],some (169,true),[32,35]⟩,
 .op ⟨some 174,.mv (.t 9),some (169,true),[32]⟩,
 .op ⟨some 175,.mv (.t 12),some (169,true),[32]⟩,
 .op ⟨some 176,.sub 1 (.t 174) none (some (.t 175)),some (169,true),[32,37,38]⟩,
 .op ⟨some 177,.rv (Go.Op.convert 39 9 (Go.Operand.tmp 176)) [.t 176],some (169,true),[32,39]⟩,
 .op ⟨some 178,.rv (Go.Op.binOp Go.BinOp.eql 9 (Go.Operand.tmp 173) (Go.Operand.tmp 177) 9) [.t 173,.t 177],some (169,true),[32,36,40]⟩,
 .op ⟨some 179,.pick (.t 169) (.t 178) (.c (.bool false)),none,[32,41]⟩,
 .op ⟨some 180,.mv (.t 179),none,[32,42]⟩,
 .op ⟨some 181,.mv (.t 19),some (180,true),[43]⟩,
 .op ⟨some 182,.mv (.t 12),some (180,true),[43]⟩,
 .op ⟨some 183,.sub 1 (.t 181) (some (.t 182)) none,some (180,true),[43,44,45]⟩,
 .op ⟨some 184,.rv (Go.Op.convert 39 9 (Go.Operand.tmp 183)) [.t 183],some (180,true),[43,46]⟩,
 .op ⟨some 185,.mv (.t 9),some (180,true),[43]⟩,
 .op ⟨some 186,.mv (.t 12),some (180,true),[43]⟩,
 .op ⟨some 187,.bin .add (.t 186) (.c (.int .i64 1)),some (180,true),[43,49]⟩,
 .op ⟨some 188,.sub 1 (.t 185) (some (.t 187)) none,some (180,true),[43,48,50]⟩,
 .op ⟨some 189,.rv (Go.Op.convert 39 9 (Go.Operand.tmp 188)) [.t 188],some (180,true),[43,51]⟩,
 .op ⟨some 190,.rv (Go.Op.binOp Go.BinOp.eql 9 (Go.Operand.tmp 184) (Go.Operand.tmp 189) 9) [.t 184,.t 189],some (180,true),[43,47,52]⟩,
 .op ⟨some 191,.pick (.t 180) (.t 190) (.c (.bool false)),none,[43,53]⟩,
 .op ⟨some 6,.mv (.t 191),none,[0,1,2,3,4,5,6,7,8,9,10,11,12,13,14,15,16,17,18,19,20,21,22,23,24,25,26,27,28,29,30,31,32,33,34,35,36,37,38,39,40,41,42,43,44,45,46,47,48,49,50,51,52,53,54]⟩] 0 0 [
])
 .ret))))))))))))))
def r10:List RV:=[.tmp 6]
theorem n10:Try.f10.ntmps=192:=by kernel_rfl
theorem b10:bodyB Try.prog 10=true:=by kernel_rfl
theorem c10_ok:cmpC Try.prog c10 ((Try.f10.body).getD .skip)=true:=by kernel_rfl
theorem r10_ok:cmpR Try.prog r10 Try.f10.results.toList=true:=by kernel_rfl
theorem t10 {args:List SV} {res:SV} (ka:KFL args) (kr:KF res) (h:sx Try.prog Y0 0 c10 (st0 args 192) (retK r10 res)) (hA:Nat.ble args.length 192=true:=by rfl):Ct Try.prog 10 args res:=ct_intro Try.func10 rfl b10 c10_ok r10_ok n10 (Nat.le_of_ble_eq_true hA) ka kr h
end Go.Proofs.Ythilckbkffjliaa
namespace Go.Sx
open Go Go.RowKit
theorem rv_str {P:Program} {u src dst e:Nat} {ns:List Int} {s:SV} {σ : St} (hl:lk u σ.fr=s) (hng:∀ j b u,s≠.gd j b u) (hs:sprV 1 s=some (ns.map fun n=>[SV.v (.int .u8 n)]))
 (hsrc:P.underlying src=some (.slice e)) (hdst:P.underlying dst=some .string) (he:P.underlying e=some (.int .u8)):RBE P (.convert src dst (.tmp u)) [.t u] σ (.v (.string (byS ns))):=by
 intro o ho C E hpX nX a w next Q hx hS hR hn
 have hR:=hR (.t u) (by simp)
 simp only [rdG,rd,hl,evX] at hR
 rw [strip_ng hng] at hR
 obtain ⟨cs,⟨ad,cap,y0,y1,y2,y3⟩,hcs,_⟩:=sprV_shows hR hs
 have hflat:(ns.map fun n=>[SV.v (.int .u8 n)]).flatten=(ns.map (Value.int .u8)).map SV.v:=by rw [flat1 (fun n=>SV.v (.int .u8 n)),List.map_map];rfl
 rw [hflat] at hcs
 have hcs:=RL_vals hcs
 subst hcs
 have hrun:(convert src dst (a.tmps.getD u undef)).run P w = .ok (.string (byS ns)) w:=by
  rw [y0,run_convert_bytes_string w src dst e ad _ cap hsrc he hdst]
  cases ad with
  | none =>
   have:ns=[]:=by
    rcases y3 with h | ⟨b,off,h,_⟩
    · simpa using h
    · cases h
   subst this
   simp [Conv.bytesToString,Sem.run_pure,byS]
  | some ad =>
   refine run_bytesToString w ad _ cap ns ?_
   rcases y3 with h | ⟨b,off,h,hc⟩
   · have:ns=[]:=by simpa using h
     subst this
     simp [loadCells,loadCellsFrom,Sem.run_pure]
   · cases h
     have hlen:(ns.map fun n=>[SV.v (.int .u8 n)]).length=(ns.map (Value.int .u8)).length:=by simp
     rw [hlen]
     exact run_loadCells_list w _ _ (fun j v hv=>by rw [addr_add];exact hc j v hv)
 have hx:(execOp a.eval o).run P w = .ok (.value (.string (byS ns))) w:=by
  obtain ⟨dst',op',ty',pos,after,guard⟩:=o
  simp only at ho;subst ho
  simp only [Array.getD_eq_getD_getElem?] at hrun
  simp only [execOp,Act.eval]
  simp [Sem.run_bind,hrun]
 refine wpq_res hx (by simp) ?_
 exact hn w _ hS (fun b hb _=>⟨hb,rfl⟩) (by simp only [R])
theorem rv_seq {P:Program} {u v t t':Nat} {x y:ByteArray} {σ : St} (hu:lk u σ.fr = .v (.string x)) (hv:lk v σ.fr = .v (.string y)) :
 RBE P (.binOp .eql t (.tmp u) (.tmp v) t') [.t u,.t v] σ (.v (.bool (x.toList == y.toList))):=by
 intro o ho C E hpX nX a w next Q hx hS hR hn
 have h1:=hR (.t u) (by simp)
 have h2:=hR (.t v) (by simp)
 simp only [rdG,rd,hu,hv,strip,evX,R] at h1 h2
 have hx:a.eval (.tmp u) = .string x:=h1
 have hy:a.eval (.tmp v) = .string y:=h2
 have hrun:(execOp a.eval o).run P w = .ok (.value (.bool (x.toList == y.toList))) w:=by
  obtain ⟨dst',op',ty',pos,after,guard⟩:=o
  simp only at ho;subst ho
  simp only [execOp,hx,hy]
  simp [Sem.run_bind,eqGuard,binOp,Op.stringOp,Sem.run_pure]
 refine wpq_res hrun (by simp) ?_
 exact hn w _ hS (fun b hb _=>⟨hb,rfl⟩) (by simp only [R])
end Go.Sx
set_option maxRecDepth 100000
set_option maxHeartbeats 8000000
namespace Go.Azalai
theorem step_why5 {p:Pact} {c:Co} {x:Letter}:(stepF p c x).2≤5:=by
 unfold stepF
 repeat' split
 all_goals simp
theorem why_le {p:Pact} {X:List Letter} {k:Nat} (hk:k < X.length) (c:Co) (h:k < (whyL p c X).length:=by rw [whyL_len];exact hk):(whyL p c X)[k]≤5:=by
 rw [why_at hk];exact step_why5
theorem ord_at {X:List Letter} (ho:X.Pairwise fun a b=>lt2 a b=true) {k:Nat} (hk:k < X.length) (h1:1≤k):X[k - 1].day < X[k].day∨(X[k].day=X[k - 1].day∧X[k - 1].id < X[k].id):=by
 have:=List.pairwise_iff_getElem.1 ho (k - 1) k (by omega) hk (by omega)
 simp only [lt2,Bool.or_eq_true,Bool.and_eq_true,decide_eq_true_eq] at this
 omega
theorem few_sub {X:List Letter} (k:Nat):(X.take k ++ X.drop (k+1)).Sublist X:=by
 rw [← List.eraseIdx_eq_take_drop_succ];exact List.eraseIdx_sublist X k
end Go.Azalai
namespace Go.Proofs.Ythilckbkffjliaa
open Go Go.Sx Go.Azalai
theorem allOne_l (l:List Letter):∀ c ∈ l.map letterL,allOne c=true:=fun c hc=>by
 obtain ⟨x,_,rfl⟩:=List.mem_map.1 hc
 simp [letterL,allOne,oneS,oneV]
theorem void_ok (p:Pact) (l:List Letter) (w:Int) (hw:0≤w∧w < 256) (c:Bool):Ct Try.prog 10 [.agg (pactL p),.sl c 8 (l.map letterL),U8 w] (B true):=by
 refine t10 (by simp [pactL,partnerL,letterL,KFR_iff,KFL,KF]) (by simp [KFL,KF]) ?_
 obtain ⟨wn,rfl⟩:=Int.eq_ofNat_of_zero_le hw.1
 dsimp only [c10,r10,pactL,go_sem,rA,rM,rS]
 refine call alive_ok ?_
 dsimp only [go_sem,rA,rM,rS]
 refine call (readyA_ok p l c) ?_
 dsimp only [go_sem,rA,rM,rS]
 by_cases hr:readyF p l=true
 case neg =>
  rw [Bool.not_eq_true] at hr
  rw [hr]
  repeat (refine gb_skip (by decide) ?_;dsimp only [go_sem,rA,rM,rS])
  refine br_t rfl ?_
  dsimp only [go_sem,rA,rM,rS]
 rw [hr]
 obtain ⟨hs,hl,h0⟩:=readyF_t hr
 obtain ⟨hp,-,hok,h2⟩:=readE_0 h0
 repeat (refine gb_run rfl ?_;dsimp only [go_sem,rA,rM,rS])
 refine br_f rfl ?_
 dsimp only [go_sem,rA,rM,rS]
 refine call (Read_ok p l hs (by omega) c) ?_
 dsimp only [go_sem,rA,rM,rS]
 have hX:=readL_ok h0
 have hrl:=readL_len (p:=p) (l:=l)
 have e1:readR p l=readL p l:=by rw [readR,if_pos h0]
 have e2:whyRR p l=whyL p co0 (readL p l):=by rw [whyRR,if_pos h0]
 have e3:settleR p l=settleF p (readL p l):=by rw [settleR,if_pos h0]
 have hst:=settle_ok p l hs (by omega) c
 rw [e3,h0] at hst
 have hwl:=whyL_len (p:=p) (l:=readL p l) (c:=co0)
 have hord:(readL p l).Pairwise fun a b=>lt2 a b=true:=readL_ord
 have hsub:=fun {few:List Letter} (h:few.Sublist (readL p l))=>read_sub h0 h
 have h8:=(okPact_all hp).2.2.2.2.2.2
 rw [e1,e2,h0]
 generalize readL p l=X at *
 repeat (refine gb ?_;dsimp only [go_sem,rA,rM,rS])
 simp only [List.length_map]
 refine br_f (by simp [hwl]) ?_
 dsimp only [go_sem,rA,rM,rS]
 simp only [List.length_map]
 by_cases hx0:X.length=0
 · refine br_t (by simp [hx0]) ?_
   dsimp only [go_sem,rA,rM,rS]
 refine br_f (by simp;intro h;exact hx0 (by rw [h];rfl)) ?_
 dsimp only [go_sem,rA,rM,rS]
 refine loopO (fun s:Nat=>[(11,I (s:Nat))]) (fun _=>[]) (fun s=>1≤s∧s≤X.length) (fun s=>X.length - s) 1 ⟨Nat.le_refl _,by omega⟩ ?_ ?_
 · (refine ent_id ?_ ?_ ?_ rfl rfl<;>dsimp only [pactL,partnerL,letterL,u8L,intL,id,go_sem,rA,rM,rS]<;>simp [pactL,partnerL,letterL,u8L,intL,KFR_iff,KFR_app,KFR,KFL,KF,mtL_same,mtO,nbr])
 intro k ⟨hk1,hk⟩
 dsimp only [go_sem,rA,rM,rS]
 simp only [List.length_map]
 by_cases hlt:k < X.length
 · refine br_t (by simpa using hlt) ?_
   dsimp only [go_sem,rA,rM,rS]
   have ho:=ord_at hord hlt hk1
   have hkm:k - 1 < X.length:=by omega
   have hkc:((k - 1:Nat):Int)=(k:Int) - 1:=by omega
   refine ixs_map k hlt rfl ?_
   dsimp only [letterL,go_sem,rA,rM,rS]
   rw [w64_in (n:=(k:Int) - 1) (by omega) (by omega),← hkc]
   refine ixs_map (k - 1) hkm rfl ?_
   dsimp only [letterL,go_sem,rA,rM,rS]
   have g1:decide (X[k].day < X[k - 1].day)=false:=by simp;omega
   simp only [g1]
   repeat (first | (refine gb_run rfl ?_;dsimp only [go_sem,rA,rM,rS]) | (refine ixs_map k hlt rfl ?_;dsimp only [letterL,go_sem,rA,rM,rS]))
   rw [w64_in (n:=(k:Int) - 1) (by omega) (by omega),← hkc]
   repeat (first | (refine gb_run rfl ?_;dsimp only [go_sem,rA,rM,rS]) | (refine ixs_map (k - 1) hkm rfl ?_;dsimp only [letterL,go_sem,rA,rM,rS]))
   by_cases hd:X[k].day=X[k - 1].day
   · have g2:(X[k].day == X[k - 1].day)=true:=by simp [hd]
     simp only [g2]
     repeat (first | (refine gb_run rfl ?_;dsimp only [go_sem,rA,rM,rS]) | (refine ixs_map k hlt rfl ?_;dsimp only [letterL,go_sem,rA,rM,rS]))
     rw [w64_in (n:=(k:Int) - 1) (by omega) (by omega),← hkc]
     repeat (first | (refine gb_run rfl ?_;dsimp only [go_sem,rA,rM,rS]) | (refine ixs_map (k - 1) hkm rfl ?_;dsimp only [letterL,go_sem,rA,rM,rS]))
     refine br_f (by simp;omega) ?_
     dsimp only [go_sem,rA,rM,rS]
     rw [w64_in (n:=(k:Int)+1) (by omega) (by omega)]
     refine ⟨k+1,⟨by omega,hlt⟩,by omega,?_⟩
     (refine ent_id ?_ ?_ ?_ rfl rfl<;>dsimp only [pactL,partnerL,letterL,u8L,intL,id,go_sem,rA,rM,rS]<;>simp [pactL,partnerL,letterL,u8L,intL,KFR_iff,KFR_app,KFR,KFL,KF,mtL_same,mtO,nbr])
   · have g2:(X[k].day == X[k - 1].day)=false:=by simp [hd]
     simp only [g2]
     repeat (first | (refine gb_skip (by decide) ?_;dsimp only [go_sem,rA,rM,rS]) | (refine gb_run rfl ?_;dsimp only [go_sem,rA,rM,rS]))
     refine br_f (by simp) ?_
     dsimp only [go_sem,rA,rM,rS]
     rw [w64_in (n:=(k:Int)+1) (by omega) (by omega)]
     refine ⟨k+1,⟨by omega,hlt⟩,by omega,?_⟩
     (refine ent_id ?_ ?_ ?_ rfl rfl<;>dsimp only [pactL,partnerL,letterL,u8L,intL,id,go_sem,rA,rM,rS]<;>simp [pactL,partnerL,letterL,u8L,intL,KFR_iff,KFR_app,KFR,KFL,KF,mtL_same,mtO,nbr])
 refine br_f (by simpa using hlt) ?_
 dsimp only [go_sem,rA,rM,rS]
 simp only [List.length_map]
 rw [w64_in (n:=(wn:Int)) (by omega) (by omega)]
 refine div0 (by omega) ?_
 dsimp only [divr,go_sem,rA,rM,rS]
 rw [nat_tmod]
 clear hk hk1 hlt
 have hk:wn % X.length < X.length:=Nat.mod_lt _ (by omega)
 generalize wn % X.length=k at *
 have hkW:k < (whyL p co0 X).length:=by omega
 refine ixs_map k hkW rfl ?_
 dsimp only [u8L,go_sem,rA,rM,rS]
 by_cases hv:(whyL p co0 X)[k]=0
 · refine br_t (by simp [hv]) ?_
   dsimp only [go_sem,rA,rM,rS]
 refine br_f (by simp [hv]) ?_
 dsimp only [go_sem,rA,rM,rS]
 obtain ⟨v1,v2⟩:=run_void hk hv
 have hw5:=why_le (p:=p) hk co0 hkW
 try simp only [List.length_map]
 have q1:List.take k (X.map letterL)=(X.take k).map letterL:=by rw [List.map_take]
 have q2:List.drop (k+1) (List.take X.length (X.map letterL))=(X.drop (k+1)).map letterL:=by rw [List.take_of_length_le (by simp),List.map_drop]
 have hfs:=hsub (few_sub k)
 have hset:settleF p (X.take k ++ X.drop (k+1))=settleF p X:=by unfold settleF;rw [v1]
 have hFl:(X.take k ++ X.drop (k+1)).length=X.length - 1:=by simp;omega
 refine ⟨0,k,⟨rfl,rfl,by omega,by simp;omega⟩,?_⟩
 dsimp only [go_sem,rA,rM,rS]
 rw [q1]
 try simp only [List.length_map]
 rw [w64_in (n:=(k:Int)+1) (by omega) (by omega)]
 refine ⟨k+1,X.length,⟨by omega,rfl,by omega,by simp⟩,?_⟩
 dsimp only [go_sem,rA,rM,rS]
 rw [q2]
 refine ⟨by simp;omega,?_⟩
 (repeat first | dsimp only [go_sem,rA,rM,rS] | simp only [nbr])
 refine ⟨allOne_l _,by simp;omega,?_⟩
 (repeat first | dsimp only [go_sem,rA,rM,rS] | simp only [nbr])
 rw [← List.map_append]
 generalize X.take k ++ X.drop (k+1)=F at *
 refine gh ent_refl ?_
 dsimp only [go_sem,rA,rM,rS]
 refine call hst ?_
 dsimp only [go_sem,rA,rM,rS]
 try simp only [List.length_map]
 refine gh (ent_frz 13 1 1 rfl rfl rfl rfl) ?_
 dsimp only [go_sem,rA,rM,rS]
 refine call (settle_ok p F hs (by omega) false) ?_
 dsimp only [go_sem,rA,rM,rS]
 rw [settleR_of hfs,hfs.1,hset]
 refine call (Read_ok p F hs (by omega) false) ?_
 dsimp only [go_sem,rA,rM,rS]
 rw [show readR p F=F from by rw [readR,if_pos hfs.1,hfs.2],show whyRR p F=whyL p co0 F from by rw [whyRR,if_pos hfs.1,hfs.2],hfs.1,v2]
 have hsl:(settleF p X).length=p.partners.length:=hasF_len
 have q22:=same22_ok (settleF p X) (settleF p X) (by omega) (by omega) false false
 simp only [decide_true] at q22
 generalize settleF p X=S at *
 have hWl:((whyL p co0 X).take k ++ (whyL p co0 X).drop (k+1)).length=F.length:=by rw [← v2,whyL_len]
 have hlk:((whyL p co0 X).take k).length=k:=by simp;omega
 have r1:List.take k (((whyL p co0 X).take k ++ (whyL p co0 X).drop (k+1)).map u8L)=((whyL p co0 X).take k).map u8L:=by rw [← List.map_take,List.take_left' hlk]
 have r2:List.take k ((whyL p co0 X).map u8L)=((whyL p co0 X).take k).map u8L:=by rw [List.map_take]
 have r3:List.drop k (List.take F.length (((whyL p co0 X).take k ++ (whyL p co0 X).drop (k+1)).map u8L))=((whyL p co0 X).drop (k+1)).map u8L:=by rw [List.take_of_length_le (by rw [List.length_map];omega),← List.map_drop,List.drop_left' hlk]
 have r4:List.drop (k+1) (List.take (whyL p co0 X).length ((whyL p co0 X).map u8L))=((whyL p co0 X).drop (k+1)).map u8L:=by rw [List.take_of_length_le (by simp),List.map_drop]
 have hns:∀ w:List Int,sprV 1 (.sl false 1 (w.map u8L))=some (w.map fun n=>[SV.v (.int .u8 n)]):=fun w=>rfl
 clear v1 v2
 generalize (whyL p co0 X).take k ++ (whyL p co0 X).drop (k+1)=W' at *
 generalize hWX:whyL p co0 X=W at *
 have g5:decide (W[k]≤5)=true:=by simp [hw5]
 have g6:((W'.length:Int) == (F.length:Int))=true:=by rw [hWl];simp
 repeat (first | (refine gb_run rfl ?_;dsimp only [go_sem,rA,rM,rS]) | (refine ixs_map k hkW rfl ?_;dsimp only [u8L,go_sem,rA,rM,rS]) | (refine call q22 ?_;dsimp only [go_sem,rA,rM,rS]))
 simp only [g5]
 repeat (first | (refine gb_run rfl ?_;dsimp only [go_sem,rA,rM,rS]) | (refine call q22 ?_;dsimp only [go_sem,rA,rM,rS]))
 simp only [List.length_map,g6]
 repeat (first | (refine gb_run rfl ?_;dsimp only [go_sem,rA,rM,rS]) | (refine call q22 ?_;dsimp only [go_sem,rA,rM,rS]))
 refine ⟨0,k,⟨rfl,rfl,by omega,by simp;omega⟩,?_⟩
 dsimp only [go_sem,rA,rM,rS]
 rw [r1]
 repeat (refine gb_run rfl ?_;dsimp only [go_sem,rA,rM,rS])
 refine ⟨_,rv_str (e:=5) (ns:=W.take k) rfl (fun _ _ _ e=>by cases e) (hns _) (by kernel_rfl) (by kernel_rfl) (by kernel_rfl),?_⟩
 dsimp only [go_sem,rA,rM,rS]
 repeat (refine gb_run rfl ?_;dsimp only [go_sem,rA,rM,rS])
 refine ⟨0,k,⟨rfl,rfl,by omega,by simp;omega⟩,?_⟩
 dsimp only [go_sem,rA,rM,rS]
 rw [r2]
 repeat (refine gb_run rfl ?_;dsimp only [go_sem,rA,rM,rS])
 refine ⟨_,rv_str (e:=5) (ns:=W.take k) rfl (fun _ _ _ e=>by cases e) (hns _) (by kernel_rfl) (by kernel_rfl) (by kernel_rfl),?_⟩
 dsimp only [go_sem,rA,rM,rS]
 repeat (refine gb_run rfl ?_;dsimp only [go_sem,rA,rM,rS])
 refine ⟨_,rv_seq rfl rfl,?_⟩
 dsimp only [go_sem,rA,rM,rS]
 simp only [beq_self_eq_true]
 repeat (refine gb_run rfl ?_;dsimp only [go_sem,rA,rM,rS])
 try simp only [List.length_map]
 refine ⟨k,F.length,⟨rfl,by omega,by omega,by simp;omega⟩,?_⟩
 dsimp only [go_sem,rA,rM,rS]
 rw [r3]
 repeat (refine gb_run rfl ?_;dsimp only [go_sem,rA,rM,rS])
 refine ⟨_,rv_str (e:=5) (ns:=W.drop (k+1)) rfl (fun _ _ _ e=>by cases e) (hns _) (by kernel_rfl) (by kernel_rfl) (by kernel_rfl),?_⟩
 dsimp only [go_sem,rA,rM,rS]
 repeat (refine gb_run rfl ?_;dsimp only [go_sem,rA,rM,rS])
 try simp only [List.length_map]
 rw [w64_in (n:=(k:Int)+1) (by omega) (by omega)]
 refine ⟨k+1,W.length,⟨by omega,rfl,by omega,by simp⟩,?_⟩
 dsimp only [go_sem,rA,rM,rS]
 rw [r4]
 repeat (refine gb_run rfl ?_;dsimp only [go_sem,rA,rM,rS])
 refine ⟨_,rv_str (e:=5) (ns:=W.drop (k+1)) rfl (fun _ _ _ e=>by cases e) (hns _) (by kernel_rfl) (by kernel_rfl) (by kernel_rfl),?_⟩
 dsimp only [go_sem,rA,rM,rS]
 repeat (refine gb_run rfl ?_;dsimp only [go_sem,rA,rM,rS])
 refine ⟨_,rv_seq rfl rfl,?_⟩
 dsimp only [go_sem,rA,rM,rS]
 simp
end Go.Proofs.Ythilckbkffjliaa
set_option maxRecDepth 100000
set_option maxHeartbeats 4000000
namespace Go.Proofs.Ythilckbkffjliaa
open Go Go.Sx Go.Azalai Go.ChangeShapes Go.WideShapes Go.RowKit
theorem wf8 {n:Int} (h:(Lit.int .u8 n).wf=true):0≤n∧n < 256:=by
 simp only [Lit.wf,Bool.and_eq_true,decide_eq_true_eq] at h
 have e1:IntKind.u8.min=0:=rfl
 have e2:IntKind.u8.max=255:=rfl
 omega
theorem lift_map {α : Type} {rep:α→List SV} {q:List SV→Prop} (hq:∀ r,q r→∃ a,r=rep a):∀ {xs:List (List SV)},(∀ r ∈ xs,q r)→∃ l:List α,xs=l.map rep
 | [],_=>⟨[],rfl⟩
 | x :: xs,h=>by
  obtain ⟨a,rfl⟩:=hq x (h x (by simp))
  obtain ⟨l,rfl⟩:=lift_map (xs:=xs) hq (fun r hr=>h r (by simp [hr]))
  exact ⟨a :: l,rfl⟩
theorem shp3 {f:Nat} {l:List SV} (h:Shp Try.prog (f+1) 3 l):∃ n:Int,l=[.v (.int .i64 n)]∧(Lit.int .i64 n).wf=true:=by
 rw [Shp,Try.underlying3] at h
 exact h
theorem shp64 {f:Nat} {l:List SV} (h:Shp Try.prog (f+2) 64 l):∃ w:Partner,l=partnerL w:=by
 rw [Shp,Try.underlying64] at h
 simp only [ShpF] at h
 obtain ⟨_,_,rfl,_,h0,_,_,rfl,_,h1,_,_,rfl,_,h2,rfl⟩:=h
 obtain ⟨a0,rfl,_⟩:=shp3 (f:=f+0) h0
 obtain ⟨a1,rfl,_⟩:=shp3 (f:=f+0) h1
 obtain ⟨a2,rfl,_⟩:=shp3 (f:=f+0) h2
 exact ⟨⟨a0,a1,a2⟩,rfl⟩
theorem cells64:Try.prog.cellsOf 64=3:=by kernel_rfl
theorem shp22 {f:Nat} {l:List SV} (h:Shp Try.prog (f+3) 22 l):∃ ds:List Partner,l=[.sl false 3 (ds.map partnerL)]∧ds.length≤9223372036854775807:=by
 rw [Shp,Try.underlying22] at h
 obtain ⟨xs,rfl,hl,hx⟩:=h
 obtain ⟨ws,rfl⟩:=lift_map (rep:=partnerL) (fun r h=>shp64 (f:=f) h.2) hx
 rw [cells64]
 exact ⟨ws,rfl,by simpa using hl⟩
theorem shp24 {f:Nat} {l:List SV} (h:Shp Try.prog (f+4) 24 l):∃ w:Pact,l=pactL w:=by
 rw [Shp,Try.underlying24] at h
 simp only [ShpF] at h
 obtain ⟨_,_,rfl,_,h0,_,_,rfl,_,h1,_,_,rfl,_,h2,_,_,rfl,_,h3,rfl⟩:=h
 obtain ⟨a0,rfl,_⟩:=shp22 (f:=f+0) h0
 obtain ⟨a1,rfl,_⟩:=shp3 (f:=f+2) h1
 obtain ⟨a2,rfl,_⟩:=shp3 (f:=f+2) h2
 obtain ⟨a3,rfl,_⟩:=shp3 (f:=f+2) h3
 exact ⟨⟨a0,a1,a2,a3⟩,rfl⟩
theorem shp5 {f:Nat} {l:List SV} (h:Shp Try.prog (f+1) 5 l):∃ n:Int,l=[.v (.int .u8 n)]∧(Lit.int .u8 n).wf=true:=by
 rw [Shp,Try.underlying5] at h
 exact h
theorem shp4 {f:Nat} {l:List SV} (h:Shp Try.prog (f+1) 4 l):∃ n:Bool,l=[B n]:=by
 rw [Shp,Try.underlying4] at h
 exact h
theorem shp50 {f:Nat} {l:List SV} (h:Shp Try.prog (f+2) 50 l):∃ w:Letter,l=letterL w:=by
 rw [Shp,Try.underlying50] at h
 simp only [ShpF] at h
 obtain ⟨_,_,rfl,_,h0,_,_,rfl,_,h1,_,_,rfl,_,h2,_,_,rfl,_,h3,_,_,rfl,_,h4,_,_,rfl,_,h5,_,_,rfl,_,h6,_,_,rfl,_,h7,rfl⟩:=h
 obtain ⟨a0,rfl,_⟩:=shp3 (f:=f+0) h0
 obtain ⟨a1,rfl,_⟩:=shp3 (f:=f+0) h1
 obtain ⟨a2,rfl,_⟩:=shp5 (f:=f+0) h2
 obtain ⟨a3,rfl,_⟩:=shp3 (f:=f+0) h3
 obtain ⟨a4,rfl,_⟩:=shp3 (f:=f+0) h4
 obtain ⟨a5,rfl,_⟩:=shp3 (f:=f+0) h5
 obtain ⟨a6,rfl,_⟩:=shp3 (f:=f+0) h6
 obtain ⟨a7,rfl⟩:=shp4 (f:=f+0) h7
 exact ⟨⟨a0,a1,a2,a3,a4,a5,a6,a7⟩,rfl⟩
theorem cells50:Try.prog.cellsOf 50=8:=by kernel_rfl
theorem shp38 {f:Nat} {l:List SV} (h:Shp Try.prog (f+3) 38 l):∃ ds:List Letter,l=[.sl false 8 (ds.map letterL)]∧ds.length≤9223372036854775807:=by
 rw [Shp,Try.underlying38] at h
 obtain ⟨xs,rfl,hl,hx⟩:=h
 obtain ⟨ws,rfl⟩:=lift_map (rep:=letterL) (fun r h=>shp50 (f:=f) h.2) hx
 rw [cells50]
 exact ⟨ws,rfl,by simpa using hl⟩
theorem Try.own:ownKnob Try.prog.godebug=none:=by kernel_rfl
theorem Try.laidOut:laidOutB Try.prog=true:=by kernel_rfl
theorem tyB24:tyB Try.prog 20 24=true:=by kernel_rfl
theorem tyB38:tyB Try.prog 20 38=true:=by kernel_rfl
theorem tyB5:tyB Try.prog 20 5=true:=by kernel_rfl
theorem shareVoid_lifted (os:Os) (started:os.Started) (H:Type) (enc:TypeId × Value→H) :
 ReturnsInHanded {} Try.checked os 10 .any (Rows.shareVoidSpec.pre6 enc Try.prog Try.f10 Rows.shareVoidRow.domain false) (Rows.shareVoidSpec.post enc Try.prog Try.f10 false true false false):=by
 refine returnsInHanded_of_change (C:=Try.checked) Try.own started (by kernel_rfl) Try.func10
  (ChangeSpec.witness6 (enc:=enc) (C:=Try.checked) false ⟨#[],#[.agg #[.slice none 0 0,.int .i64 0,.int .i64 0,.int .i64 0],.slice none 0 0,.int .u8 0],[]⟩ 8 (by kernel_rfl) (by kernel_rfl) (by kernel_rfl) (by kernel_rfl)) ?_
 intro W base args ds gs before hval0 hW hcnd _
 have hval:∀ (j:Nat) t v,Try.f10.params[j]? = some t→args[j]? = some v→Value.okWide Try.prog W .any base t v:=hval0
 have hW':=hW
 obtain ⟨p,q,hA0,hV,rfl,hfz,hnd⟩:=hW
 have hA:DataW.TrodAll enc Try.prog W 0 (fun _=>true) true Try.f10.params.toList args.toList ds p:=hA0
 rw [Try.params10] at hA hval
 obtain ⟨v0,vs0,d0,ds0,p0,q0,ea0,rfl,rfl,h0,hA⟩:=trodAll_cons hA
 obtain ⟨v1,vs1,d1,ds1,p1,q1,rfl,rfl,rfl,h1,hA⟩:=trodAll_cons hA
 obtain ⟨v2,vs2,d2,ds2,p2,q2,rfl,rfl,rfl,h2,hA⟩:=trodAll_cons hA
 obtain ⟨rfl,rfl,rfl⟩:=trodAll_nil hA
 obtain ⟨rfl,rfl⟩:=trodVars_none hV
 have hargs:args = #[v0,v1,v2]:=Array.toList_inj.1 ea0
 subst hargs
 obtain ⟨l0,r0,s0⟩:=trod_arg tyB24 (hval 0 24 v0 rfl rfl) h0
 obtain ⟨l1,r1,s1⟩:=trod_arg tyB38 (hval 1 38 v1 rfl rfl) h1
 obtain ⟨l2,r2,s2⟩:=trod_arg tyB5 (hval 2 5 v2 rfl rfl) h2
 obtain ⟨x0,rfl⟩:=shp24 s0
 obtain ⟨x1,rfl,b1⟩:=shp38 s1
 obtain ⟨x2,rfl,b2⟩:=shp5 s2
 simp only [argV,Try.underlying24,Try.underlying38,Try.underlying5,List.headD_cons] at r0 r1 r2
 refine ((void_ok x0 x1 x2 (wf8 b2) false).run W Tr [v0,v1,v2] (by simp only [RL];exact ⟨_,_,rfl,r0,_,_,rfl,r1,_,_,rfl,r2,rfl⟩)).mono fun e W' ⟨y,he,hy,hb⟩=>?_
 simp only [R] at hy
 subst hy
 exact ⟨_,he,post_law (P:=Try.prog) Try.laidOut (by kernel_rfl) (by kernel_rfl) Try.underlying4 rfl rfl hW' hb⟩
theorem shareVoid_holds:Rows.ShareVoidSaid :=
 OpenClaim.holds_of_wide 10 Try.f10 rfl rfl rfl rfl rfl rfl rfl ⟨rfl,rfl,rfl,rfl,rfl⟩ rfl rfl rfl rfl rfl (by kernel_rfl) Try.func10 (by kernel_rfl)
  (of_decide_eq_true (by kernel_rfl)) (by unfold Func.isWrapper;first | (rw [if_pos (by decide +kernel)];kernel_rfl) | (rw [if_neg (by decide +kernel)];exact ⟨rfl,rfl⟩))
  (fun os started H enc _=>shareVoid_lifted os started H enc)
end Go.Proofs.Ythilckbkffjliaa
