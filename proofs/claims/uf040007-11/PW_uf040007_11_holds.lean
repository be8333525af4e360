import PyProof.Rows.All
import Open.Line
import Open.FastRun
import Open.FastT9
import KE.KSortTup
import KE.KDictSum
import KE.KDictOf
import KE.KRevSl
import KE.KIntText
import PyProof.RulesAs
import PyProof.Conv_int_bool
import PyProof.AttrMissHeap
import PySem.Challenge.RW_uf040007_11
set_option Elab.async false
set_option bootstrap.genMatcherCode false
set_option linter.unusedVariables false
set_option linter.unusedSimpArgs false
set_option genSizeOfSpec false
set_option genSizeOf false
set_option genInjectivity false
set_option genCtorIdx false
open Array renaming length_toList -> bH, getElem?_toList -> bJ, getElem?_eq_getElem -> bW, getD_eq_getD_getElem? -> cD, toList_append -> iA, toList_push -> iS
open Bool renaming false_ne_true -> aD, and_eq_true -> aG, false_eq_true -> cC, not_eq_true' -> dJ, or_eq_true -> dN, decide_and -> eR, or_eq_false_iff -> fP, and_false -> fQ, not_eq_true -> fR, not_true -> fU, true_and -> iX, and_true -> iY
open Classical renaming byContradiction -> aI
open Eq renaming symm -> bO
open Exists renaming elim -> aM
open Int renaming le_of_eq -> aO, natCast_nonneg -> aQ, ofNat_lt -> bA, ofNat_le -> bN, toNat_natCast -> bT, le_antisymm -> cI, toNat_of_nonneg -> cY, lt_of_lt_of_le -> eM, fmod_eq_emod_of_nonneg -> eN, self_le_toNat -> eW, le_of_lt_add_one -> eX, le_of_lt -> eY, eq_ofNat_of_zero_le -> fA, not_lt -> fO, le_trans -> gI, lt_iff_le_and_ne -> hJ, lt_of_le_of_lt -> iJ, lt_trans -> jH
open LawfulBEq renaming eq_of_beq -> cA
open List renaming length_map -> aB, length_append -> aC, getElem?_eq_getElem -> aF, mem_cons_self -> aH, getElem?_map -> aK, mem_cons_of_mem -> aL, length_cons -> aN, map_append -> aU, mem_of_getElem? -> aX, getElem?_concat_length -> aY, map_cons -> aZ, getElem?_append_left -> bB, append_assoc -> bC, size_toArray -> bL, mem_append_right -> bQ, take_length -> bS, mem_cons -> bU, length_singleton -> bV, length_take -> bY, getElem_mem -> bZ, not_mem_nil -> cL, lookup_cons -> cM, map_map -> cO, cons_append -> cP, mem_map_of_mem -> cQ, getElem?_eq_none -> cR, take_add_one -> cS, mem_append_left -> cT, getElem?_append_right -> cU, getD_eq_getElem?_getD -> cV, length_drop -> cW, length_filter_le -> cZ, nil_append -> dA, length_nil -> dB, append_nil -> dC, pairwise_singleton -> dE, nodup_cons -> dM, isEmpty_iff -> dR, nodup_append -> dU, getElem?_inj -> dW, mem_append -> dX, findIdx?_cons -> eL, mem_of_find?_eq_some -> eQ, map_nil -> eT, length_range -> eU, getLast?_concat -> eV, getElem?_set_self -> fD, drop_eq_nil_of_le -> fE, getElem?_toArray -> fH, count_append -> fK, getElem?_set_ne -> fN, contains_cons -> fY, take_sublist -> gH, set_append_right -> gK, concat_eq_append -> gM, map_take -> gR, mem_of_mem_take -> gW, mem_of_mem_drop -> gX, eq_nil_of_length_eq_zero -> gY, dropLast_concat -> gZ, find?_some -> hP, map_congr_left -> hZ, filter_append -> iI, sum_cons -> iU, map_drop -> iV, all_cons -> iW, filter_cons -> jE, length_set -> jS
open Nat renaming le_of_eq -> aE, lt_of_lt_of_le -> aP, le_trans -> aR, le_refl -> aS, zero_le -> bE, le_of_ble_eq_true -> bF, sub_add_cancel -> bI, le_of_not_lt -> bK, le_antisymm -> bM, min_le_right -> cB, ne_of_lt -> cE, mul_le_mul_left -> cH, succ_le_succ -> cK, sub_le -> dH, le_of_lt_succ -> dI, not_lt_of_le -> dP, le_add_right -> dQ, le_of_lt -> dY, lt_succ_self -> eB, lt_or_gt_of_ne -> eJ, lt_of_le_of_ne -> eK, le_succ_of_le -> eS, lt_irrefl -> fG, not_lt_zero -> fV, lt_of_le_of_lt -> fX, le_succ -> fZ, ne_of_gt -> gG, le_of_not_le -> gO, sub_le_of_le_add -> gU, le_add_of_sub_le -> gV, min_eq_left -> hO, add_sub_cancel' -> hW, add_le_add_left -> hY, sub_self -> iB, min_self -> iC, lt_trans -> iD, add_sub_cancel -> iH, lt_succ_of_lt -> iP, min_eq_right -> jC, lt_of_not_le -> jD, min_le_left -> jR
open Ne renaming symm -> gF
open Option renaming bind_some -> aW, toList_some -> eI, isNone_iff_eq_none -> eP, map_some -> fF, map_none -> jQ
open PyProof.Rows renaming listUpdate_at -> iT, Subscript_ -> jG, seqEpoch_at -> jT
open PySem renaming wpAny_bind -> aA, wpAny_pure -> aJ, wpAny_mono -> aT, wpAny_holding -> bD, wpAny_loadPart_at -> bP, wpAny_items_cons -> bX, wpAny_call_entry -> cJ, wpAny_truthy_bool -> cN, wpAny_dictEntries -> dG, wpAny_isSubtype_exc -> dK, wpAny_items_nil -> dL, wpAny_standAt -> dS, wpAny_callSpecial?_slot -> dT, clipAt_nat -> eF, wpAny_notOrdered_dict -> eO, wpAny_typeNameOfWhole_keyiter -> fB, sizeLine_eq -> fC, wpAny_newObj_type -> fJ, call_meets -> fM, wpAny_evalPart_none -> fS, wpAny_getItem_list_slice -> fT, wpAny_Constant_str -> fW, wpAny_setField -> gC, wpAny_assign_Name -> gD, builtinLookup_eq_fast -> gJ, wpAny_loadName_local -> gS, wpAny_field -> gT, wpAny_execs_nil -> hM, length_partsBetween -> hV, wpAny_Name -> iE, wpAny_Constant_int -> iF, wpAny_sequenceKey -> iM, wpAny_Assign_Name -> iN, wpAny_execs_cons -> iZ, isinstance_outer -> jB, typeIs_str -> jF, wpAny_operating -> jJ, wpAny_dictEpoch -> jK, typeLookup_type -> jL, codeAny_builtin -> jM, call_isinstance -> jP
open PySem.Around renaming frames_deeper -> dF
open PySem.Calls renaming callWith_builtin -> eA
open PySem.Code renaming quiet_builtin -> iL
open PySem.F renaming typeOf_object_class -> gN, plainAttrs_str -> gQ, slot_dict_keyiterator_next -> hU, args_str_split_2 -> iK, plainAttrs_list -> iQ, entry_str_split -> iR
open PySem.Heap renaming get?_push_of_some -> aV, get?_push_size -> bG, get?_update_self -> bR, lt_size -> cX, get?_update_other -> dZ, get?_none_of_le -> eZ, get?_push_ne -> fL, size_update -> gP
open PySem.Obj renaming data_mapFields -> dD, isFreed_of_fields -> dO, cls_mapFields -> iO
open PySem.StrLaws renaming glued_between_self -> iG
namespace Mine.Internal
section
section
open Nat.Internal.Linear
noncomputable def ZS(c:Context)(G:Prop)(s:List (Expr×Expr)):Prop:=List.rec G (fun p _ r=>p.1.denote c<=p.2.denote c->r) s
noncomputable def rR(s:List (Expr×Expr)):Expr->Expr->Bool:=List.rec (fun x y=>(ExprCnstr.mk false x y).toNormPoly.isUnsat) (fun p _ r x y=>r (.add x p.1) (.add y p.2)) s
theorem rS{c:Context}{G:Prop}:∀ {s:List (Expr×Expr)} {x y:Expr},rR s x y=true->(¬G->x.denote c<=y.denote c)->ZS c G s
 | [],x,y,h,e=>aI fun n=>(ExprCnstr.eq_false_of_isUnsat c ⟨false,x,y⟩ h).mp (e n)
 | p :: s,x,y,h,e=>fun q=>rS (s:=s) h fun n=>Nat.add_le_add (e n) q
theorem ql(c:Context)(s:List (Expr×Expr))(x y:Expr)(h:rR s (.add y (.num 1)) x=true):ZS c (x.denote c<=y.denote c) s:=rS h jD
theorem qf(c:Context)(s:List (Expr×Expr))(h:rR s (.num 0) (.num 0)=true):ZS c False s:=rS h fun _=>aS 0
theorem SM{a b:Nat}:a<=a-b+b:=gV (aS _)
noncomputable abbrev qA:=Expr.add
noncomputable abbrev qN:=Expr.num
noncomputable abbrev Af:=Expr.var 0
noncomputable abbrev Aj:=Expr.var 1
noncomputable abbrev AA:=Expr.var 2
noncomputable abbrev CS:=Expr.var 3
noncomputable abbrev Re:=Expr.var 4
noncomputable abbrev mP:=Expr.var 5
noncomputable abbrev xM:=Expr.var 6
noncomputable abbrev xN:=Expr.var 7
noncomputable abbrev IG(a:Nat):Context:=.leaf a
noncomputable abbrev CW(a b:Nat):Context:=.branch 1 (.leaf a) (.leaf b)
noncomputable abbrev Ck(a b c:Nat):Context:=.branch 1 (.leaf a) (.branch 2 (.leaf b) (.leaf c))
noncomputable abbrev Es(a b c d:Nat):Context:=.branch 1 (.leaf a) (.branch 2 (.leaf b) (.branch 3 (.leaf c) (.leaf d)))
noncomputable abbrev Zm(a b c d e:Nat):Context:=.branch 1 (.leaf a) (.branch 2 (.leaf b) (.branch 3 (.leaf c) (.branch 4 (.leaf d) (.leaf e))))
noncomputable abbrev mW(a b c d e f:Nat):Context:=.branch 1 (.leaf a) (.branch 2 (.leaf b) (.branch 3 (.leaf c) (.branch 4 (.leaf d) (.branch 5 (.leaf e) (.leaf f)))))
noncomputable abbrev xO(a b c d e f g:Nat):Context:=.branch 1 (.leaf a) (.branch 2 (.leaf b) (.branch 3 (.leaf c) (.branch 4 (.leaf d) (.branch 5 (.leaf e) (.branch 6 (.leaf f) (.leaf g))))))
noncomputable abbrev xP(a b c d e f g h:Nat):Context:=.branch 1 (.leaf a) (.branch 2 (.leaf b) (.branch 3 (.leaf c) (.branch 4 (.leaf d) (.branch 5 (.leaf e) (.branch 6 (.leaf f) (.branch 7 (.leaf g) (.leaf h)))))))
noncomputable abbrev qI:=Expr.num 1
noncomputable abbrev BP:=qA Af qI
noncomputable abbrev Ee:=qA Aj qI
noncomputable abbrev HC:=qA AA qI
noncomputable abbrev PK:=qA CS qI
end
section
open Int.Internal.Linear
noncomputable def ZT(c:Context)(G:Prop)(s:List (Expr×Expr)):Prop:=List.rec G (fun p _ r=>p.1.denote c<=p.2.denote c->r) s
noncomputable def rT(s:List (Expr×Expr)):Expr->Expr->Bool:=List.rec (fun x y=>(Expr.sub x y).norm.isUnsatLe) (fun p _ r x y=>r (.add x p.1) (.add y p.2)) s
theorem rU{c:Context}{G:Prop}:∀ {s:List (Expr×Expr)} {x y:Expr},rT s x y=true->(¬G->x.denote c<=y.denote c)->ZT c G s
 | [],x,y,h,e=>aI fun n=>(le_eq_false c x y h).mp (e n)
 | p :: s,x,y,h,e=>fun q=>rU (s:=s) h fun n=>Int.add_le_add (e n) q
theorem jl(c:Context)(s:List (Expr×Expr))(x y:Expr)(h:rT s (.add y (.num 1)) x=true):ZT c (x.denote c<=y.denote c) s:=rU h Int.lt_of_not_ge
theorem jf(c:Context)(s:List (Expr×Expr))(h:rT s (.num 0) (.num 0)=true):ZT c False s:=rU h fun _=>Int.le_refl 0
noncomputable abbrev jA:=Expr.add
noncomputable abbrev jN:=Expr.num
noncomputable abbrev AC:=Expr.var 0
noncomputable abbrev BH:=Expr.var 1
noncomputable abbrev II:=Expr.var 2
noncomputable abbrev rD:=Expr.var 3
noncomputable abbrev xQ:=Expr.var 4
noncomputable abbrev xR:=Expr.var 5
noncomputable abbrev xS:=Expr.var 6
noncomputable abbrev xT:=Expr.var 7
noncomputable abbrev CX(a:Int):Context:=.leaf a
noncomputable abbrev DT(a b:Int):Context:=.branch 1 (.leaf a) (.leaf b)
noncomputable abbrev LE(a b c:Int):Context:=.branch 1 (.leaf a) (.branch 2 (.leaf b) (.leaf c))
noncomputable abbrev rE(a b c d:Int):Context:=.branch 1 (.leaf a) (.branch 2 (.leaf b) (.branch 3 (.leaf c) (.leaf d)))
noncomputable abbrev xU(a b c d e:Int):Context:=.branch 1 (.leaf a) (.branch 2 (.leaf b) (.branch 3 (.leaf c) (.branch 4 (.leaf d) (.leaf e))))
noncomputable abbrev xV(a b c d e f:Int):Context:=.branch 1 (.leaf a) (.branch 2 (.leaf b) (.branch 3 (.leaf c) (.branch 4 (.leaf d) (.branch 5 (.leaf e) (.leaf f)))))
noncomputable abbrev xW(a b c d e f g:Int):Context:=.branch 1 (.leaf a) (.branch 2 (.leaf b) (.branch 3 (.leaf c) (.branch 4 (.leaf d) (.branch 5 (.leaf e) (.branch 6 (.leaf f) (.leaf g))))))
noncomputable abbrev xX(a b c d e f g h:Int):Context:=.branch 1 (.leaf a) (.branch 2 (.leaf b) (.branch 3 (.leaf c) (.branch 4 (.leaf d) (.branch 5 (.leaf e) (.branch 6 (.leaf f) (.branch 7 (.leaf g) (.leaf h)))))))
noncomputable abbrev jO:=Expr.num 0
noncomputable abbrev jI:=Expr.num 1
noncomputable abbrev Ca:=jA AC jI
noncomputable abbrev H5:=jA BH jI
noncomputable abbrev XH:=jA II jI
end
theorem XJ{a:Int}{n:Nat}(h:a.natAbs<n):-(n:Int)<a/\a<n:=by
 rcases a with m|m
 ·exact⟨jl (DT m n) [(jN 0,AC),(jN 0,AC),(Ca,BH)] (jA (.neg BH) jI) AC rfl (aQ m) (aQ m) (bA.2 h),bA.2 h⟩
 ·exact⟨Int.neg_lt_neg (bA.2 h),eM (Int.negSucc_lt_zero m) (aQ n)⟩
theorem wB{x:Int}{K:Nat}(h:-(K:Int)<x)(g:x<K):x.natAbs<K:=by
 rcases x with n|n
 ·exact bA.1 g
 ·exact bA.1 (Int.lt_of_neg_lt_neg h)
theorem Rf{x:Int}(h:-18446744073709551616<x)(g:x<18446744073709551616):x.natAbs<2 ^ 64:=wB (K:=2 ^ 64) h g
theorem na{x a b:Int}(h:a<=x)(g:x<=b)(k:(decide (-18446744073709551616<a)&&decide (b<18446744073709551616))=true):x.natAbs<2 ^ 64:=
 have k:=Bool.and_eq_true_iff.mp k
 Rf (eM (of_decide_eq_true k.1) h) (iJ g (of_decide_eq_true k.2))
theorem Zn{a b c:Nat}(h0:a<b)(h1:c=b):a<c:=ql (Ck a b c) [(BP,Aj),(Aj,AA)] BP AA rfl h0 (aE (bO h1))
theorem A6{a b c:Nat}(h0:a=b)(h1:a<=c):b<=c:=ql (Ck a b c) [(Aj,Af),(Af,AA)] Aj AA rfl (aE (bO h0)) h1
theorem Fk{a:Int}(h0:a<10000000000)(h1:0<=a):(Int.natAbs a)<(2 ^ 64):=Rf (jl (CX a) [(jO,AC)] (jA (.neg (jN 18446744073709551616)) jI) AC rfl h1) (jl (CX a) [(Ca,(jN 10000000000))] Ca (jN 18446744073709551616) rfl h0)
theorem mX{a b c:Nat}(h0:((a+(100*b))+100)<c):(a+1)<c:=ql (Ck a b c) [((qA (qA (qA Af (.mulL 100 Aj)) (qN 100)) qI),AA)] (qA BP qI) AA rfl h0
theorem rF{a b c:Nat}(h0:a<((b+1)+c)):a<(b+(c+1)):=ql (Ck a b c) [(BP,(qA Ee AA))] BP (qA Aj HC) rfl h0
theorem rG{a:Int}(h0:a<=1000000)(h1:1<=a):(Int.natAbs a)<(2 ^ 64):=Rf (jl (CX a) [(jI,AC)] (jA (.neg (jN 18446744073709551616)) jI) AC rfl h1) (jl (CX a) [(AC,(jN 1000000))] Ca (jN 18446744073709551616) rfl h0)
theorem rH{a:Int}(h0:(a=0)\/(a=1)):0<=a:=h0.elim (fun g0=>jl (CX a) [(jO,AC)] jO AC rfl (aO (bO g0))) (fun g0=>jl (CX a) [(jI,AC)] jO AC rfl (aO (bO g0)))
theorem rV{a b c:Nat}(h0:a<b)(h1:b=c):a<c:=ql (Ck a b c) [(BP,Aj),(Aj,AA)] BP AA rfl h0 (aE h1)
theorem rW{b:Nat}{a:Int}(h0:a<((b:Nat):Int))(h1:((b:Nat):Int)<(2 ^ 63)):a<(2 ^ 63):=jl (DT a ((b:Nat):Int)) [(Ca,BH),(H5,(jN (2 ^ 63)))] Ca (jN (2 ^ 63)) rfl h0 h1
theorem rX{a:Nat}{b:Int}(h0:((a:Nat):Int)<(2 ^ 63))(h1:(-((a:Nat):Int))<=b):(-(2 ^ 63))<=b:=jl (DT ((a:Nat):Int) b) [(Ca,(jN (2 ^ 63))),((.neg AC),BH)] (.neg (jN (2 ^ 63))) BH rfl h0 h1
theorem ZU{a b c d:Nat}:((a+b)+(c+d))=((a+c)+(d+b)):=bM (ql (Es a b c d) [] (qA (qA Af Aj) (qA AA CS)) (qA (qA Af AA) (qA CS Aj)) rfl) (ql (Es a c d b) [] (qA (qA Af Aj) (qA AA CS)) (qA (qA Af CS) (qA Aj AA)) rfl)
theorem ZV{a b:Int}(h0:a=b):¬ (a<b):=fun g=>jf (DT a b) [(BH,AC),(Ca,BH)] rfl (aO (bO h0)) g
theorem ZW{a b:Nat}(h0:a=b)(h1:2<=b):0<a:=ql (CW a b) [(Aj,Af),(qN 2,Aj)] (qA (qN 0) qI) Af rfl (aE (bO h0)) h1
theorem ZX{a:Nat}(h0:¬ (a<2)):0<a:=ql (IG a) [(qN 2,Af)] (qA (qN 0) qI) Af rfl (bK h0)
theorem ZY{a b:Int}(h0:(0<=a)/\(a<b)):b≠0:=fun g=>jf (DT a b) [(jO,AC),(Ca,BH),(BH,jO)] rfl h0.1 h0.2 (aO g)
theorem XK{a:Nat}(h0:((a:Nat):Int)<10000000000):a<(10 ^ 10):=bA.1 h0
theorem ZZ{a b:Int}(h0:(0<=a)/\((a<=1)/\((0<=b)/\(b<1000)))):a<10000000000:=jl (DT a b) [(AC,jI)] Ca (jN 10000000000) rfl h0.2.1
theorem jU{a b:Int}(h0:(0<=a)/\((a<=1)/\((0<=b)/\(b<1000)))):b<10000000000:=jl (DT a b) [(H5,(jN 1000))] H5 (jN 10000000000) rfl h0.2.2.2
theorem jV{a b:Nat}(h0:a<b)(h1:¬ (a=(b-1))):a<(b-1):=(eJ h1).elim (fun g0=>ql (Ck a b (b-1)) [(BP,AA)] BP AA rfl g0) (fun g0=>ql (Ck a b (b-1)) [(BP,Aj),(BP,Aj),(HC,Af),(Aj,HC),(Aj,HC)] BP AA rfl h0 h0 g0 SM SM)
theorem jW{a b c:Nat}(h0:(a+(b+1))<=c):a<c:=ql (Ck a b c) [((qA Af Ee),AA)] BP AA rfl h0
theorem jX{a b c d:Nat}(h0:((((a+b)+c)+d)+3)<=100):(((a+b)+c)+d)<=2900:=ql (Es a b c d) [((qA (qA (qA (qA Af Aj) AA) CS) (qN 3)),(qN 100))] (qA (qA (qA Af Aj) AA) CS) (qN 2900) rfl h0
theorem jY{a b c d e:Nat}(h0:a<=11)(h1:(((b+c)+d)+e)<=57):(((a+c)+d)+e)<=97:=ql (Zm a b c d e) [(Af,(qN 11)),((qA (qA (qA Aj AA) CS) Re),(qN 57))] (qA (qA (qA Af AA) CS) Re) (qN 97) rfl h0 h1
theorem jZ{a:Int}(h0:(a=0)\/(a=1)):a<10000000000:=h0.elim (fun g0=>jl (CX a) [(AC,jO)] Ca (jN 10000000000) rfl (aO g0)) (fun g0=>jl (CX a) [(AC,jI)] Ca (jN 10000000000) rfl (aO g0))
theorem kA{a b:Int}(h0:a<b)(h1:b<=1000):a<10000000000:=jl (DT a b) [(Ca,BH),(BH,(jN 1000))] Ca (jN 10000000000) rfl h0 h1
theorem mY{a:Int}(h0:(Int.natAbs a)<(2 ^ 64)):(-(2 ^ 64))<a:=(XJ h0).1
theorem mZ{a:Int}(h0:(Int.natAbs a)<(2 ^ 64)):a<(2 ^ 64):=(XJ h0).2
theorem nA{a b c:Nat}(h0:((a+(2*b))+150)<c):(a+100)<c:=ql (Ck a b c) [((qA (qA (qA Af (.mulL 2 Aj)) (qN 150)) qI),AA)] (qA (qA Af (qN 100)) qI) AA rfl h0
theorem nB{a b c:Nat}(h0:((a+(100*b))+100)<c):(a+6)<c:=ql (Ck a b c) [((qA (qA (qA Af (.mulL 100 Aj)) (qN 100)) qI),AA)] (qA (qA Af (qN 6)) qI) AA rfl h0
theorem nC{a:Nat}(h0:((a:Nat):Int)<(2 ^ 63)):¬ (((a:Nat):Int) >= (2 ^ 63)):=fun g=>jf (CX ((a:Nat):Int)) [(Ca,(jN (2 ^ 63))),((jN (2 ^ 63)),AC)] rfl h0 g
theorem nD{a b:Nat}(h0:a=b)(h1:((a:Nat):Int)<(2 ^ 63)):((b:Nat):Int)<(2 ^ 63):=h0▸h1
theorem nE{b:Nat}{a:Int}(h0:(Int.toNat a)<b):a<((b:Nat):Int):=jl (LE (((Int.toNat a):Nat):Int) ((b:Nat):Int) a) [(Ca,BH),(II,AC)] XH BH rfl (bA.2 h0) (eW _)
theorem nF{a:Int}(h0:0<=a):¬ (a<0):=fun g=>jf (CX a) [(jO,AC),(Ca,jO)] rfl h0 g
theorem nG{a b:Nat}(h0:a<64)(h1:a=b):b<=16777216:=ql (CW a b) [(BP,(qN 64)),(Aj,Af)] Aj (qN 16777216) rfl h0 (aE (bO h1))
theorem SN{a b:Int}(h0:(0<=a)/\(a<b)):1<=(1+a):=jl (DT a b) [(jO,AC)] jI (jA jI AC) rfl h0.1
theorem nH{a b c:Nat}(h0:a<b)(h1:c<=a)(h2:b<=14):c<=14:=ql (Ck a b c) [(BP,Aj),(AA,Af),(Aj,(qN 14))] AA (qN 14) rfl h0 h1 h2
theorem nI:(-1000000000)<=(1000000000:Int):=by decide
theorem nJ{a b c:Nat}(h0:a<b)(h1:c<=a)(h2:b<=14):c<=1000:=ql (Ck a b c) [(BP,Aj),(AA,Af),(Aj,(qN 14))] AA (qN 1000) rfl h0 h1 h2
theorem nK{a b c d:Nat}:((a+1)+((b+1)+((c+1)+d)))=((((a+b)+c)+d)+3):=bM (ql (Es a b c d) [] (qA BP (qA Ee (qA HC CS))) (qA (qA (qA (qA Af Aj) AA) CS) (qN 3)) rfl) (ql (Es a b c d) [] (qA (qA (qA (qA Af Aj) AA) CS) (qN 3)) (qA BP (qA Ee (qA HC CS))) rfl)
theorem nL{a:Int}(h0:(a=0)\/(a=1)):a<=1:=h0.elim (fun g0=>jl (CX a) [(AC,jO)] AC jI rfl (aO g0)) (fun g0=>jl (CX a) [(AC,jI)] AC jI rfl (aO g0))
theorem nM{a b:Int}(h0:(0<=a)/\((a<=1)/\((0<=b)/\(b<1000)))):(-10000000000)<b:=jl (DT a b) [(jO,BH)] (jA (.neg (jN 10000000000)) jI) BH rfl h0.2.2.1
theorem nN{a:Nat}(h0:1<=a):a≠(a-1):=fun g=>qf (CW a (a-1)) [(Af,Aj),(Ee,Af)] rfl (aE g) (aE (bI (ql (CW a (a-1)) [(qI,Af)] qI Af rfl h0)))
theorem nO{a b c:Nat}(h0:(a+(b+1))<=c):((a+1)+b)<=c:=ql (Ck a b c) [((qA Af Ee),AA)] (qA BP Aj) AA rfl h0
theorem nP{a b c:Nat}(h0:a<=((b+1)+c)):a<=(b+(c+1)):=ql (Ck a b c) [(Af,(qA Ee AA))] Af (qA Aj HC) rfl h0
theorem nQ{a b c:Nat}(h0:(a+(b+1))=c):a<c:=ql (Ck a b c) [((qA Af Ee),AA)] BP AA rfl (aE h0)
theorem nR{a b:Nat}(h0:a<=(101*b))(h1:b<=25):a<=3000:=ql (CW a b) [(Af,(.mulL 101 Aj)),((.mulL 101 Aj),(.mulL 101 (qN 25)))] Af (qN 3000) rfl h0 (cH 101 h1)
theorem rY{a b:Int}(h0:(0<=a)/\((a<=1)/\((0<=b)/\(b<1000)))):(Int.natAbs b)<(2 ^ 64):=Rf (jl (DT a b) [(jO,BH)] (jA (.neg (jN 18446744073709551616)) jI) BH rfl h0.2.2.1) (jl (DT a b) [(H5,(jN 1000))] H5 (jN 18446744073709551616) rfl h0.2.2.2)
theorem nS{a b:Nat}:a=((a+0)+(0*b)):=bM (ql (CW a b) [] Af (qA (qA Af (qN 0)) (.mulL 0 Aj)) rfl) (ql (CW a b) [] (qA (qA Af (qN 0)) (.mulL 0 Aj)) Af rfl)
theorem nT{a b c:Nat}(h0:a=b)(h1:((c:Nat):Int)<((b:Nat):Int)):c<a:=h0▸bA.1 h1
theorem nU{a b c d e:Nat}(h0:a<=11)(h1:(((b+c)+d)+e)<=57):(((b+a)+d)+e)<=97:=ql (Zm a b c d e) [(Af,(qN 11)),((qA (qA (qA Aj AA) CS) Re),(qN 57))] (qA (qA (qA Aj Af) CS) Re) (qN 97) rfl h0 h1
theorem nV{a b c d e:Nat}(h0:a<=11)(h1:(((b+c)+d)+e)<=57):(((b+c)+a)+e)<=97:=ql (Zm a b c d e) [(Af,(qN 11)),((qA (qA (qA Aj AA) CS) Re),(qN 57))] (qA (qA (qA Aj AA) Af) Re) (qN 97) rfl h0 h1
theorem nW{a b c d e:Nat}(h0:a<=11)(h1:(((b+c)+d)+e)<=57):(((b+c)+d)+a)<=97:=ql (Zm a b c d e) [(Af,(qN 11)),((qA (qA (qA Aj AA) CS) Re),(qN 57))] (qA (qA (qA Aj AA) CS) Af) (qN 97) rfl h0 h1
theorem nX{a b:Nat}(h0:a<=20)(h1:(b+1)<=(101*(a+1))):(b+1)<=3000:=ql (CW a b) [(Ee,(.mulL 101 BP)),((.mulL 101 Af),(.mulL 101 (qN 20)))] Ee (qN 3000) rfl h1 (cH 101 h0)
theorem nY{a b c:Nat}(h0:a<b):a<=(b+c):=ql (Ck a b c) [(BP,Aj)] Af (qA Aj AA) rfl h0
theorem nZ{a b c:Nat}(h0:a<=(101*(b+c)))(h1:c<=1)(h2:b<=22):a<=3000:=ql (Ck a b c) [(Af,(.mulL 101 (qA Aj AA))),((.mulL 101 AA),(.mulL 101 qI)),((.mulL 101 Aj),(.mulL 101 (qN 22)))] Af (qN 3000) rfl h0 (cH 101 h1) (cH 101 h2)
theorem oA{a b c:Nat}(h0:a<=11)(h1:b<=11)(h2:c<=12):(((b+a)+c)+1)<=97:=ql (Ck a b c) [(Af,(qN 11)),(Aj,(qN 11)),(AA,(qN 12))] (qA (qA (qA Aj Af) AA) qI) (qN 97) rfl h0 h1 h2
theorem oB{a b c:Nat}(h0:a<=11)(h1:b<=11)(h2:c<=12):(((b+a)+c)+1)<=2900:=ql (Ck a b c) [(Af,(qN 11)),(Aj,(qN 11)),(AA,(qN 12))] (qA (qA (qA Aj Af) AA) qI) (qN 2900) rfl h0 h1 h2
theorem oC{a b:Int}(h0:a<=1000)(h1:(0<=b)/\(b<a)):b<10000000000:=jl (DT a b) [(AC,(jN 1000)),(H5,AC)] H5 (jN 10000000000) rfl h0 h1.2
theorem oD{a b:Int}(h0:a<b)(h1:b<=1000)(h2:0<=a):(Int.natAbs a)<(2 ^ 64):=Rf (jl (DT a b) [(jO,AC)] (jA (.neg (jN 18446744073709551616)) jI) AC rfl h2) (jl (DT a b) [(Ca,BH),(BH,(jN 1000))] Ca (jN 18446744073709551616) rfl h0 h1)
theorem oE{a:Nat}(h0:a<=12):(((1+1)+a)+1)<=97:=ql (IG a) [(Af,(qN 12))] (qA (qA (qA qI qI) Af) qI) (qN 97) rfl h0
theorem oF{a b:Nat}(h0:a<=11)(h1:b<=12):(((1+a)+b)+1)<=2900:=ql (CW a b) [(Af,(qN 11)),(Aj,(qN 12))] (qA (qA (qA qI Af) Aj) qI) (qN 2900) rfl h0 h1
theorem oG{a b c d:Nat}(h0:a<=11)(h1:b<=11)(h2:c<=11)(h3:d<=12):(((b+c)+d)+a)<=57:=ql (Es a b c d) [(Af,(qN 11)),(Aj,(qN 11)),(AA,(qN 11)),(CS,(qN 12))] (qA (qA (qA Aj AA) CS) Af) (qN 57) rfl h0 h1 h2 h3
theorem rZ{a:Nat}:(1+((a:Nat):Int))=((a+1:Nat):Int):=cI (jl (CX ((a:Nat):Int)) [] (jA jI AC) Ca rfl) (jl (CX ((a:Nat):Int)) [] Ca (jA jI AC) rfl)
theorem xY{a b c:Int}(h0:a<18446744073709551616)(h1:b<=c)(h2:c<=a)(h3:(-18446744073709551616)<b):(Int.natAbs c)<(2 ^ 64):=Rf (jl (LE a b c) [(BH,II),((jA (.neg (jN 18446744073709551616)) jI),BH)] (jA (.neg (jN 18446744073709551616)) jI) II rfl h1 h3) (jl (LE a b c) [(Ca,(jN 18446744073709551616)),(II,AC)] XH (jN 18446744073709551616) rfl h0 h2)
theorem wC{a b:Nat}(h0:a=1048576)(h1:b<=a):((b:Nat):Int)<(2 ^ 63):=jl (DT ((a:Nat):Int) ((b:Nat):Int)) [(AC,(jN 1048576)),(BH,AC)] H5 (jN (2 ^ 63)) rfl (aO (congrArg Int.ofNat h0)) (bN.2 h1)
theorem wD{a b:Nat}(h0:a=16777216)(h1:b<=a):((b:Nat):Int)<(2 ^ 63):=jl (DT ((a:Nat):Int) ((b:Nat):Int)) [(AC,(jN 16777216)),(BH,AC)] H5 (jN (2 ^ 63)) rfl (aO (congrArg Int.ofNat h0)) (bN.2 h1)
theorem wE{a b:Nat}(h0:a=b)(h1:((a:Nat):Int)<(2 ^ 63)):¬ (((b:Nat):Int) >= (2 ^ 63)):=fun g=>jf (DT ((a:Nat):Int) ((b:Nat):Int)) [(BH,AC),(Ca,(jN (2 ^ 63))),((jN (2 ^ 63)),BH)] rfl (aO (congrArg Int.ofNat (bO h0))) h1 g
theorem wF{b:Nat}{a:Int}(h0:a<0)(h1:0<=a):(Int.toNat a)=(Int.toNat (a+((b:Nat):Int))):=absurd h0 (fO.2 h1)
theorem wG{b:Nat}{a:Int}(h0:(Int.toNat (a+((b:Nat):Int)))<b)(h1:0<=a):(Int.toNat (a+((b:Nat):Int)))=(Int.toNat a):=absurd h0 (dP ((Int.le_toNat (Int.add_nonneg h1 (aQ b))).2 (Int.le_add_of_nonneg_left h1)))
theorem wH{a b:Nat}{c:Int}(h0:a=b)(h1:(-((a:Nat):Int))<=c):(-((b:Nat):Int))<=c:=jl (LE ((a:Nat):Int) ((b:Nat):Int) c) [(AC,BH),((.neg AC),II)] (.neg BH) II rfl (aO (congrArg Int.ofNat h0)) h1
theorem wI{a c:Nat}{b:Int}(h0:((a:Nat):Int)=(max 0 (min b ((c:Nat):Int)))):a<=c:=bN.1 (h0▸Int.max_le.2 ⟨aQ c,Int.min_le_right _ _⟩)
theorem wJ{a b c:Nat}(h0:a<=b)(h1:(a-c)=b):(min (a-c) (b-c))=b:=by
 have e:a=b:=bM h0 (h1▸dH a c)
 subst e
 rw[h1,iC]
theorem wK{a b c:Nat}:(min (a-b) (c-b))<=c:=ql (mW (min (a-b) (c-b)) c (a-b) (c-b) a b) [(Af,CS),(CS,Aj)] Af Aj rfl (cB _ _) (dH _ _)
theorem sA{a b c:Nat}(h0:a=b)(h1:a<=c):b<=c:=ql (Ck a b c) [(Aj,Af),(Af,AA)] Aj AA rfl (aE (bO h0)) h1
theorem wM:((((0+1)+1)+1)+1)<=(16777216+2:Nat):=ql (IG 0) [] (qA (qA (qA (qA (qN 0) qI) qI) qI) qI) (qA (qN 16777216) (qN 2)) rfl
theorem wN:0<=(16777216:Nat):=ql (IG 0) [] (qN 0) (qN 16777216) rfl
theorem sB{a:Int}(h0:(Int.natAbs a)<=3000000):(-(2 ^ 63))<=a:=eY (iJ (by decide) (XJ (Nat.lt_succ_of_le h0)).1)
theorem sC{a:Int}(h0:(Int.natAbs a)<=3000000):a<(2 ^ 63):=jH (XJ (Nat.lt_succ_of_le h0)).2 (by decide)
theorem sD{a:Nat}{b:Int}(h0:a=1048576)(h1:(Int.natAbs b)<=a):(Int.natAbs (((Int.toNat b):Nat):Int))<=3000000:=by
 subst h0
 rcases b with n|n
 ·exact aR h1 (by decide)
 ·exact bE _
theorem sE{a:Nat}{b:Int}(h0:a<(Int.toNat b)):0<((((Int.toNat b):Nat):Int)-((a:Nat):Int)):=jl (LE ((a:Nat):Int) (((Int.toNat b):Nat):Int) b) [(Ca,BH)] (jA jO jI) (.sub BH AC) rfl (bA.2 h0)
theorem sF{a:Nat}{b:Int}(h0:a >= (Int.toNat b)):((((Int.toNat b):Nat):Int)-((a:Nat):Int))<=0:=jl (LE (((Int.toNat b):Nat):Int) ((a:Nat):Int) b) [(AC,BH)] (.sub AC BH) jO rfl (bN.2 h0)
theorem sG{a b c:Nat}(h0:a<b)(h1:c=16777216)(h2:b<=c):((a:Nat):Int)<((2 ^ 63)-1):=by
 subst h1
 exact eM (bA.2 (aP h0 h2)) (by decide)
theorem sH{a b:Nat}(h0:(a+1)<=b):(b-a)=((b-(a+1))+1):=bM (ql (Es a b (b-a) (b-(a+1))) [(Aj,(qA CS BP)),((qA AA Af),Aj)] AA PK rfl SM (aE (bI (ql (Es a b (b-a) (b-(a+1))) [(BP,Aj)] Af Aj rfl h0)))) (ql (Es a b (b-(a+1)) (b-a)) [(Aj,(qA CS Af)),((qA AA BP),Aj)] HC CS rfl SM (aE (bI (ql (Es a b (b-(a+1)) (b-a)) [(BP,Aj)] BP Aj rfl h0))))
theorem sI{a b c:Nat}(h0:a=b):(a+((b+c)-b))=(b+c):=bM (ql (Es a b ((b+c)-b) c) [(Af,Aj),((qA AA Aj),(qA Aj CS))] (qA Af AA) (qA Aj CS) rfl (aE h0) (aE (bI (ql (Es a b ((b+c)-b) c) [] Aj (qA Aj CS) rfl)))) (ql (Es a b c ((b+c)-b)) [(Aj,Af),((qA Aj AA),(qA CS Aj))] (qA Aj AA) (qA Af CS) rfl (aE (bO h0)) SM)
theorem sJ{a:Int}(h0:a<=1000):(Int.toNat a)<=1000:=Int.toNat_le.2 h0
theorem sK{a b:Int}(h0:(0<=a)/\(a<b)):a=(((Int.toNat a):Nat):Int):=cI (jl (LE a b (((Int.toNat a):Nat):Int)) [(AC,II)] AC II rfl (eW _)) (jl (LE a b (((Int.toNat a):Nat):Int)) [(II,AC)] II AC rfl (aO (cY (jl (LE a b (((Int.toNat a):Nat):Int)) [(jO,AC)] jO AC rfl h0.1))))
theorem sL{a b:Int}(h0:(0<=a)/\(a<b)):(((Int.toNat a):Nat):Int)<b:=jl (LE a b (((Int.toNat a):Nat):Int)) [(Ca,BH),(II,AC)] XH BH rfl h0.2 (aO (cY (jl (LE a b (((Int.toNat a):Nat):Int)) [(jO,AC)] jO AC rfl h0.1)))
theorem sM{b:Nat}{a:Int}(h0:a=((b:Nat):Int))(h1:((b:Nat):Int)<36):(Int.toNat a)<36:=bA.1 (jl (LE a ((b:Nat):Int) (((Int.toNat a):Nat):Int)) [(AC,BH),(H5,(jN 36)),(II,AC)] XH (jN 36) rfl (aO h0) h1 (aO (cY (jl (LE a ((b:Nat):Int) (((Int.toNat a):Nat):Int)) [(BH,AC),(jO,BH)] jO AC rfl (aO (bO h0)) (aQ _)))))
theorem sN{a:Int}(h0:(0<=a)/\(a<36)):(Int.toNat a)<36:=bA.1 (jl (DT a (((Int.toNat a):Nat):Int)) [(Ca,(jN 36)),(BH,AC)] H5 (jN 36) rfl h0.2 (aO (cY (jl (DT a (((Int.toNat a):Nat):Int)) [(jO,AC)] jO AC rfl h0.1))))
theorem sO{a b:Nat}{c:Int}(h0:a<30)(h1:b<30)(h2:((c+((b:Nat):Int)) % 36)=((c+((a:Nat):Int)) % 36)):b=a:=by omega
theorem sP{a b c:Nat}(h0:¬ (a<=b)):(min c b)<=a:=ql (Es b a (min c b) c) [(BP,Aj),(AA,Af)] AA Aj rfl (jD h0) (cB _ _)
theorem sQ{a b:Nat}(h0:a<=9):(min b a)<=9:=ql (Ck a (min b a) b) [(Af,(qN 9)),(Aj,Af)] Aj (qN 9) rfl h0 (cB _ _)
theorem sR{a b c:Nat}:(((min a b)+(c+1))+(b-a))=((b+c)+1):=by
 rw[Nat.add_right_comm,show min a b+(b-a)=b from (Nat.le_total a b).elim (fun h=>by rw[hO h,hW h]) fun h=>by rw[jC h,Nat.sub_eq_zero_of_le h];rfl];rfl
theorem sS{a b:Nat}(h0:a=(b+1))(h1:b<=2):a<=3000:=ql (CW a b) [(Af,Ee),(Aj,(qN 2))] Af (qN 3000) rfl (aE h0) h1
theorem sT{a b:Nat}(h0:a<=9):(a-b)<=3000:=ql (Ck a (a-b) b) [(Af,(qN 9)),(Aj,Af)] Aj (qN 3000) rfl h0 (dH _ _)
theorem sU{a:Nat}(h0:((a:Nat):Int)<10):(Int.natAbs ((a:Nat):Int))<=3000:=dY (iD (bA.1 h0:a<10) (by decide))
theorem sV{a b c:Nat}(h0:a<b)(h1:c=a)(h2:((b:Nat):Int)<10):c<=3000:=bN.1 (jl (LE ((a:Nat):Int) ((b:Nat):Int) ((c:Nat):Int)) [(Ca,BH),(II,AC),(H5,(jN 10))] II (jN 3000) rfl (bA.2 h0) (aO (congrArg Int.ofNat h1)) h2)
theorem sW{a b:Nat}(h0:a=b)(h1:((b:Nat):Int)<10):a<=9:=bN.1 (jl (DT ((a:Nat):Int) ((b:Nat):Int)) [(AC,BH),(H5,(jN 10))] AC (jN 9) rfl (aO (congrArg Int.ofNat h0)) h1)
theorem sX{a b:Nat}(h0:a<=100):(min b a)<=1000:=ql (Ck a (min b a) b) [(Af,(qN 100)),(Aj,Af)] Aj (qN 1000) rfl h0 (cB _ _)
theorem sY{a b:Nat}(h0:a=21)(h1:((b:Nat):Int)<20):b<a:=bA.1 (jl (DT ((a:Nat):Int) ((b:Nat):Int)) [(jN 21,AC),(H5,(jN 20))] H5 AC rfl (aO (congrArg Int.ofNat (bO h0))) h1)
theorem sZ{a:Nat}(h0:((a:Nat):Int)<20):a<(min 20 21):=(bA.1 h0:a<20)
theorem tA:1000000000<=(1000000000:Int):=by decide
theorem tB:(-1000000000)<=((-1000000000):Int):=by decide
theorem tC{a:Nat}(h0:¬ (a<10)):0<(a / 10):=Nat.div_pos (bK h0) (by decide)
theorem tD{a:Nat}(h0:¬ (a<10)):(a / 10)<a:=Nat.div_lt_self (aP (by decide) (bK h0)) (by decide)
theorem tE{a:Nat}(h0:(a / 10)=0)(h1:¬ (a<10)):a=0:=absurd h0 (gG (Nat.div_pos (bK h1) (by decide)))
theorem oH{a:Nat}(h0:((a:Nat):Int)<=1000000000):a<(10 ^ 10):=fX (bN.1 h0:a<=1000000000) (by decide)
theorem tF{a:Nat}:¬ (((a+1:Nat):Int)=0):=fun g=>jf (CX ((a:Nat):Int)) [(Ca,jO),(jO,AC)] rfl (aO g) (aQ _)
theorem oJ{a b c d:Nat}(h0:4=(((((a+b)+c)+d)+3)+1)):a=0:=bM (ql (Es a b c d) [((qA (qA (qA (qA (qA Af Aj) AA) CS) (qN 3)) qI),(qN 4))] Af (qN 0) rfl (aE (bO h0))) (ql (Es a b c d) [] (qN 0) Af rfl)
theorem oN{a b c d:Nat}(h0:4=(((((a+b)+c)+d)+3)+1)):b=0:=bM (ql (Es a b c d) [((qA (qA (qA (qA (qA Af Aj) AA) CS) (qN 3)) qI),(qN 4))] Aj (qN 0) rfl (aE (bO h0))) (ql (Es a b c d) [] (qN 0) Aj rfl)
theorem oO{a b c d:Nat}(h0:4=(((((a+b)+c)+d)+3)+1)):c=0:=bM (ql (Es a b c d) [((qA (qA (qA (qA (qA Af Aj) AA) CS) (qN 3)) qI),(qN 4))] AA (qN 0) rfl (aE (bO h0))) (ql (Es a b c d) [] (qN 0) AA rfl)
theorem oP{a b c d:Nat}(h0:4=(((((a+b)+c)+d)+3)+1)):d=0:=bM (ql (Es a b c d) [((qA (qA (qA (qA (qA Af Aj) AA) CS) (qN 3)) qI),(qN 4))] CS (qN 0) rfl (aE (bO h0))) (ql (Es a b c d) [] (qN 0) CS rfl)
theorem tG{a b:Int}(h0:(0<=a)/\((a<=1)/\((0<=b)/\(b<1000)))):(-10000000000)<a:=jl (DT a b) [(jO,AC)] (jA (.neg (jN 10000000000)) jI) AC rfl h0.1
theorem tH{a:Nat}(h0:¬ ((1<=a)/\(a<=10))):¬ ((1<=((a:Nat):Int))/\(((a:Nat):Int)<=10)):=fun g=>h0 ⟨bN.1 g.1,bN.1 g.2⟩
theorem tI{a b:Nat}:(((0+a)-1)-b)=((a-1)-b):=by rw[Nat.zero_add]
theorem tJ{a b c:Nat}(h0:a<b)(h1:c<a):((b-1)-a)<((b-1)-c):=ql (mW a b c ((b-1)-a) ((b-1)-c) (b-1)) [(HC,Af),(mP,(qA Re AA)),((qA CS Af),mP)] PK Re rfl h1 SM (aE (bI (ql (mW a b c ((b-1)-a) ((b-1)-c) (b-1)) [(BP,Aj),(Aj,(qA mP qI))] Af mP rfl h0 SM)))
theorem tK{a b c:Nat}(h0:a<b):((b-1)-c)<b:=ql (Zm a b ((b-1)-c) (b-1) c) [(AA,CS),(PK,Aj)] HC Aj rfl (dH _ _) (aE (bI (ql (Zm a b ((b-1)-c) (b-1) c) [(BP,Aj)] qI Aj rfl h0)))
theorem tL{a b c:Nat}(h0:a<=b)(h1:c<=(a+(b-a))):c<=b:=ql (Es a b c (b-a)) [(AA,(qA Af CS)),((qA CS Af),Aj)] AA Aj rfl h1 (aE (bI (ql (Es a b c (b-a)) [(Af,Aj)] Af Aj rfl h0)))
theorem tM{a:Nat}(h0:0<a):(1+(a-1))<=a:=ql (CW a (a-1)) [(Ee,Af)] (qA qI Aj) Af rfl (aE (bI (ql (CW a (a-1)) [((qA (qN 0) qI),Af)] qI Af rfl h0)))
theorem tN{a:Nat}(h0:a > 1):(a-1)<a:=ql (CW a (a-1)) [(Ee,Af)] Ee Af rfl (aE (bI (ql (CW a (a-1)) [((qA qI qI),Af)] qI Af rfl h0)))
theorem tO{a:Nat}(h0:0<a)(h1:¬ (1=a)):¬ (1=(1+(a-1))):=(eJ h1).elim (fun g0=>fun g=>qf (CW a (a-1)) [((qA qI qI),Af),((qA qI Aj),qI),(Af,Ee)] rfl g0 (aE (bO g)) SM) (fun g0=>fun g=>qf (CW a (a-1)) [((qA (qN 0) qI),Af),(BP,qI)] rfl h0 g0)
theorem tP{a:Nat}(h0:0<a)(h1:¬ (1=a)):((1+1)+(a-(1+1)))<=a:=(eJ h1).elim (fun g0=>ql (CW a (a-(1+1))) [((qA Aj (qA qI qI)),Af)] (qA (qA qI qI) Aj) Af rfl (aE (bI (ql (CW a (a-(1+1))) [((qA qI qI),Af)] (qA qI qI) Af rfl g0)))) (fun g0=>ql (CW a (a-(1+1))) [((qA Aj (qA qI qI)),Af)] (qA (qA qI qI) Aj) Af rfl (aE (bI (ql (CW a (a-(1+1))) [((qA (qN 0) qI),Af),((qA (qN 0) qI),Af),(BP,qI)] (qA qI qI) Af rfl h0 h0 g0))))
theorem tQ{a b:Nat}(h0:a<=((1+1)+(b-(1+1))))(h1:0<b)(h2:¬ (1=b)):a<=b:=(eJ h2).elim (fun g0=>ql (Ck a (b-(1+1)) b) [(Af,(qA (qA qI qI) Aj)),((qA Aj (qA qI qI)),AA)] Af AA rfl h0 (aE (bI (ql (Ck a (b-(1+1)) b) [((qA qI qI),AA)] (qA qI qI) AA rfl g0)))) (fun g0=>ql (Ck a (b-(1+1)) b) [(Af,(qA (qA qI qI) Aj)),((qA Aj (qA qI qI)),AA)] Af AA rfl h0 (aE (bI (ql (Ck a (b-(1+1)) b) [((qA (qN 0) qI),AA),((qA (qN 0) qI),AA),(HC,qI)] (qA qI qI) AA rfl h1 h1 g0))))
theorem tR{a b c:Nat}(h0:((a+b) / 2)=c)(h1:¬ (a >= b)):a<=c:=by
 subst h0
 exact(Nat.le_div_iff_mul_le (by decide)).2 (by rw[Nat.mul_two];exact hY (gO h1) a)
theorem tS{a b c:Nat}(h0:((a+b) / 2)=c)(h1:¬ (a >= b)):c<b:=by
 subst h0
 exact Nat.div_lt_of_lt_mul (by rw[Nat.two_mul];exact Nat.add_lt_add_right (jD h1) b)
theorem tT{a b c d:Nat}(h0:a<b)(h1:(b-c)<=(d+1)):(a-c)<=d:=gU (ql (Es a b c d) [(BP,Aj),(Aj,(qA PK AA))] Af (qA CS AA) rfl h0 (gV h1))
theorem tU{a b c d:Nat}(h0:a<=b)(h1:(c-a)<=(d+1)):(c-(b+1))<=d:=gU (ql (Es a b c d) [(Af,Aj),(AA,(qA PK Af))] AA (qA CS Ee) rfl h0 (gV h1))
theorem tV{a b c d:Nat}(h0:a<b)(h1:b<(c+1))(h2:a=d):(d<b)/\(b<=c):=⟨ql (Es a b c d) [(BP,Aj),(CS,Af)] PK Aj rfl h0 (aE (bO h2)),ql (Es a b c d) [(Ee,HC)] Aj AA rfl h1⟩
theorem tW{a b c:Nat}(h0:a<b)(h1:b<(c+1)):(b-1)<c:=ql (Es a b c (b-1)) [(Ee,HC),(PK,Aj)] PK AA rfl h1 (aE (bI (ql (Es a b c (b-1)) [(BP,Aj)] qI Aj rfl h0)))
theorem tX{a b c d:Nat}(h0:a<b)(h1:b=c):¬ ((c<a)/\(a<=d)):=fun g=>qf (Es a b c d) [(BP,Aj),(Aj,AA),(HC,Af)] rfl h0 (aE h1) g.1
theorem tY{a b c d:Nat}(h0:a<b)(h1:b<(c+1))(h2:(d<a)/\(a<=c)):(d<b)/\(b<=c):=⟨ql (Es a b c d) [(BP,Aj),(PK,Af)] PK Aj rfl h0 h2.1,ql (Es a b c d) [(Ee,HC)] Aj AA rfl h1⟩
theorem tZ{a b c d:Nat}(h0:a<b)(h1:(c<a)/\(a<=d)):(a-1)<(b-1):=ql (mW a b c d (a-1) (b-1)) [(BP,Aj),(Aj,(qA mP qI)),((qA Re qI),Af)] (qA Re qI) mP rfl h0 SM (aE (bI (ql (mW a b c d (a-1) (b-1)) [(HC,Af)] qI Af rfl h1.1)))
theorem uA{a b c d:Nat}(h0:a<(b+1))(h1:(c<d)/\(d<=b)):(a-1)<b:=fX (Nat.sub_le_sub_right (dI h0) 1) (Nat.sub_lt (aP (Nat.zero_lt_of_lt h1.1) h1.2) Nat.one_pos)
theorem uC{a b c:Nat}(h0:(a<b)/\(b<=c)):(b-1)<c:=ql (Es a b c (b-1)) [(Aj,AA),(PK,Aj)] PK AA rfl h0.2 (aE (bI (ql (Es a b c (b-1)) [(BP,Aj)] qI Aj rfl h0.1)))
theorem uD{a b c:Nat}(h0:a<(b+1))(h1:c<=b)(h2:¬ (a=c))(h3:¬ ((c<a)/\(a<=b))):a<b:=aP (eK (bK fun g=>h3 ⟨g,dI h0⟩) h2) h1
theorem uE{a b c d e f:Int}(h0:(a<b)\/((a=b)/\(c<d)))(h1:(e<a)\/((e=a)/\(f<c))):(e<b)\/((e=b)/\(f<d)):=h1.elim (fun g=>.inl (h0.elim (fun k=>jH g k) fun k=>k.1▸g)) fun g=>h0.elim (fun k=>.inl (g.1▸k)) fun k=>.inr ⟨g.1.trans k.1,jH g.2 k.2⟩
theorem uF{a b c d:Int}(h0:¬ (a<b)/\(¬ (a=b)\/¬ (c<d)))(h1:¬ ((a=b)/\(c=d))):(b<a)\/((b=a)/\(d<c)):=(Classical.em (a=b)).elim (fun e=>.inr ⟨e.symm,hJ.2 ⟨fO.1 (h0.2.resolve_left fun q=>q e),fun q=>h1 ⟨e,q.symm⟩⟩⟩) fun e=>.inl (hJ.2 ⟨fO.1 h0.1,fun q=>e q.symm⟩)
theorem uG{a b c d:Int}(h0:(a<b)\/((a=b)/\(c<d)))(h1:(b<a)\/((b=a)/\(d<c))):False:=h0.elim (fun g0=>h1.elim (fun g1=>jf (DT a b) [(Ca,BH),(H5,AC)] rfl g0 g1) (fun g1=>jf (rE a b d c) [(Ca,BH),(BH,AC)] rfl g0 (aO g1.1))) (fun g0=>h1.elim (fun g1=>jf (rE a b c d) [(AC,BH),(H5,AC)] rfl (aO g0.1) g1) (fun g1=>jf (rE a b c d) [(XH,rD),((jA rD jI),II)] rfl g0.2 g1.2))
theorem oQ{a:Int}(h0:(0<=a)/\(a<=1)):(a=0)\/(a=1):=(Int.lt_or_le a 1).elim (fun k=>.inl (cI (eX k) h0.1)) fun k=>.inr (cI h0.2 k)
theorem uH{a b:Int}(h0:(0<=a)/\((a<=1)/\((0<=b)/\(b<1000)))):(Int.natAbs a)<(2 ^ 64):=Rf (jl (DT a b) [(jO,AC)] (jA (.neg (jN 18446744073709551616)) jI) AC rfl h0.1) (jl (DT a b) [(AC,jI)] Ca (jN 18446744073709551616) rfl h0.2.1)
theorem uI{a b:Int}(h0:(0<=a)/\((a<=1)/\((0<=b)/\(b<1000)))):(Int.natAbs b)<(2 ^ 64):=Rf (jl (DT a b) [(jO,BH)] (jA (.neg (jN 18446744073709551616)) jI) BH rfl h0.2.2.1) (jl (DT a b) [(H5,(jN 1000))] H5 (jN 18446744073709551616) rfl h0.2.2.2)
theorem uJ{a:Nat}(h0:a<=11):(a+(0+1))<=3000:=ql (IG a) [(Af,(qN 11))] (qA Af (qA (qN 0) qI)) (qN 3000) rfl h0
theorem uK{a b:Nat}(h0:a<=11)(h1:b<=11):((b+(0+1))+a)<=3000:=ql (CW a b) [(Af,(qN 11)),(Aj,(qN 11))] (qA (qA Aj (qA (qN 0) qI)) Af) (qN 3000) rfl h0 h1
theorem uL{a b:Nat}(h0:a<=11)(h1:b<=11):(((b+(0+1))+a)+(0+1))<=3000:=ql (CW a b) [(Af,(qN 11)),(Aj,(qN 11))] (qA (qA (qA Aj (qA (qN 0) qI)) Af) (qA (qN 0) qI)) (qN 3000) rfl h0 h1
theorem uM{a b c:Nat}(h0:a<=11)(h1:b<=11)(h2:c<=12):((((b+(0+1))+a)+(0+1))+c)<=3000:=ql (Ck a b c) [(Af,(qN 11)),(Aj,(qN 11)),(AA,(qN 12))] (qA (qA (qA (qA Aj (qA (qN 0) qI)) Af) (qA (qN 0) qI)) AA) (qN 3000) rfl h0 h1 h2
theorem uN{a b c:Nat}(h0:a<=11)(h1:b<=11)(h2:c<=12):(((((b+(0+1))+a)+(0+1))+c)+(0+1))<=3000:=ql (Ck a b c) [(Af,(qN 11)),(Aj,(qN 11)),(AA,(qN 12))] (qA (qA (qA (qA (qA Aj (qA (qN 0) qI)) Af) (qA (qN 0) qI)) AA) (qA (qN 0) qI)) (qN 3000) rfl h0 h1 h2
theorem uO{a b c:Nat}(h0:a=b)(h1:b<=20):((min c a)+1)<=3000:=ql (Es a b (min c a) c) [(Af,Aj),(Aj,(qN 20)),(AA,Af)] HC (qN 3000) rfl (aE h0) h1 (cB _ _)
theorem uP{a b:Nat}(h0:a<=3000):(a-b)<=3000:=ql (Ck a (a-b) b) [(Af,(qN 3000)),(Aj,Af)] Aj (qN 3000) rfl h0 (dH _ _)
theorem uQ{a:Nat}(h0:a<=3000):(a-1)<=2999:=gU h0
theorem uR{a b:Nat}(h0:a<=30):(min b a)<60:=ql (Ck a (min b a) b) [(Af,(qN 30)),(Aj,Af)] Ee (qN 60) rfl h0 (cB _ _)
theorem uS{a b:Nat}(h0:(a+b)<=a):b=0:=bM (ql (CW a b) [((qA Af Aj),Af)] Aj (qN 0) rfl h0) (ql (CW a b) [] (qN 0) Aj rfl)
theorem uT{a b c d:Nat}(h0:a<=11)(h1:b<=11)(h2:c<=11)(h3:d<=12):(((b+c)+d)+a)<=2900:=ql (Es a b c d) [(Af,(qN 11)),(Aj,(qN 11)),(AA,(qN 11)),(CS,(qN 12))] (qA (qA (qA Aj AA) CS) Af) (qN 2900) rfl h0 h1 h2 h3
theorem uU{a b c:Nat}(h0:a=b)(h1:b<=20):(min c a)<=3000:=ql (Es a b (min c a) c) [(Af,Aj),(Aj,(qN 20)),(AA,Af)] AA (qN 3000) rfl (aE h0) h1 (cB _ _)
theorem uV{a b:Nat}(h0:a<=3000):(min b a)<=3000:=ql (Ck a (min b a) b) [(Af,(qN 3000)),(Aj,Af)] Aj (qN 3000) rfl h0 (cB _ _)
theorem uW{a:Nat}:(Int.toNat (1+((a:Nat):Int)))=(a+1):=bM (bN.1 (jl (DT (((Int.toNat (1+((a:Nat):Int))):Nat):Int) ((a:Nat):Int)) [(AC,(jA jI BH))] AC H5 rfl (aO (cY (jl (DT (((Int.toNat (1+((a:Nat):Int))):Nat):Int) ((a:Nat):Int)) [(jO,BH)] jO (jA jI BH) rfl (aQ _)))))) (bN.1 (jl (DT ((a:Nat):Int) (((Int.toNat (1+((a:Nat):Int))):Nat):Int)) [((jA jI AC),BH)] Ca BH rfl (eW _)))
theorem uX{a b:Nat}(h0:a=(b+1)):0<((a:Nat):Int):=jl (DT ((a:Nat):Int) ((b:Nat):Int)) [(H5,AC),(jO,BH)] (jA jO jI) AC rfl (aO (congrArg Int.ofNat (bO h0))) (aQ _)
theorem uY{a b c:Nat}(h0:a=(b+1))(h1:((c:Nat):Int)<((a:Nat):Int)):c<(b+1):=bA.1 (jl (LE ((a:Nat):Int) ((b:Nat):Int) ((c:Nat):Int)) [(AC,H5),(XH,AC)] XH H5 rfl (aO (congrArg Int.ofNat h0)) h1)
theorem uZ{a b:Nat}(h0:a=(b+1)):((a:Nat):Int)≠0:=fun g=>jf (DT ((a:Nat):Int) ((b:Nat):Int)) [(H5,AC),(AC,jO),(jO,BH)] rfl (aO (congrArg Int.ofNat (bO h0))) (aO g) (aQ _)
theorem vA:0<=(0:Int):=by decide
theorem vB:0<(10000:Int):=by decide
theorem vC(h0:(2=(0:Int))\/(2=(1:Int))):False:=h0.elim (by decide) (by decide)
theorem vD{a b c:Int}(h0:((a+1)+b)=a)(h1:(0<=b)/\(b<(c-1))):False:=jf (LE a b c) [((jA Ca BH),AC),(jO,BH)] rfl (aO h0) h1.1
theorem vE{a b:Int}(h0:(0<=a)/\(a<b)):(-10000000000)<a:=jl (DT a b) [(jO,AC)] (jA (.neg (jN 10000000000)) jI) AC rfl h0.1
theorem oR{a b:Int}(h0:a<=1000)(h1:(0<=b)/\(b<a)):(Int.natAbs b)<(2 ^ 64):=Rf (jl (DT a b) [(jO,BH)] (jA (.neg (jN 18446744073709551616)) jI) BH rfl h1.1) (jl (DT a b) [(AC,(jN 1000)),(H5,AC)] H5 (jN 18446744073709551616) rfl h0 h1.2)
theorem Zo{a b:Int}(h0:(0<=a)/\((a<=1)/\((0<=b)/\(b<1000)))):(a=0)\/(a=1):=(Int.lt_or_le a 1).elim (fun k=>.inl (cI (eX k) h0.1)) fun k=>.inr (cI h0.2.1 k)
theorem oS{a b:Int}(h0:(0<=a)/\((a<=1)/\((0<=b)/\(b<1000)))):0<=b:=jl (DT a b) [(jO,BH)] jO BH rfl h0.2.2.1
theorem oU{a b:Nat}(h0:a<=22):(a+(min b 1))<=3000:=ql (Ck a (min b 1) b) [(Af,(qN 22)),(Aj,qI)] (qA Af Aj) (qN 3000) rfl h0 (cB _ _)
theorem oV{a b:Nat}(h0:a<=20):(min b a)<60:=ql (Ck a (min b a) b) [(Af,(qN 20)),(Aj,Af)] Ee (qN 60) rfl h0 (cB _ _)
theorem oW{a:Nat}:((a+1:Nat):Int)≠0:=fun g=>jf (CX ((a:Nat):Int)) [(Ca,jO),(jO,AC)] rfl (aO g) (aQ _)
theorem oX{a:Nat}:(1+((a:Nat):Int))=((a+1:Nat):Int):=cI (jl (CX ((a:Nat):Int)) [] (jA jI AC) Ca rfl) (jl (CX ((a:Nat):Int)) [] Ca (jA jI AC) rfl)
theorem oY{a b:Int}(h0:(0<=a)/\((a<=1)/\((0<=b)/\(b<1000)))):0<=a:=jl (DT a b) [(jO,AC)] jO AC rfl h0.1
theorem oZ{a b:Nat}(h0:a<(min 20 b))(h1:20=a):False:=qf (Ck a (min 20 b) b) [(BP,Aj),(qN 20,Af),(Aj,(qN 20))] rfl h0 (aE h1) (jR _ _)
theorem pA{P:Nat->Prop}{j n:Nat}(h:j<n+1)(a:P 0)(s:∀ j,j<n->P (j+1)):P j:=by
 rcases j with _|j
 ·exact a
 ·exact s j (Nat.lt_of_succ_lt_succ h)
section
variable {P:Nat->Prop} {j:Nat}
theorem vX(h:j<2)(a:P 0)(b:P 1):P j:=pA h a fun _ h=>pA (P:=fun j=>P (j+1)) h b fun _ h=>absurd h (fV _)
theorem vY(h:j<3)(a:P 0)(b:P 1)(c:P 2):P j:=pA h a fun _ h=>vX (P:=fun j=>P (j+1)) h b c
theorem rI(h:j<4)(a:P 0)(b:P 1)(c:P 2)(d:P 3):P j:=pA h a fun _ h=>vY (P:=fun j=>P (j+1)) h b c d
theorem wO(h:j<5)(a:P 0)(b:P 1)(c:P 2)(d:P 3)(e:P 4):P j:=pA h a fun _ h=>rI (P:=fun j=>P (j+1)) h b c d e
end
theorem Zp{a k:Int}(h:k<=a)(g:¬ a=k):k+1<=a:=hJ.2 ⟨h,fun e=>g e.symm⟩
theorem pB{a b:Int}(h:0<=a/\a<b):1+a<=b:=by rw[Int.add_comm];exact h.2
theorem wP{r:Nat}:(if (1:Int)+0<((r+1:Nat):Int) then (1:Int)+0 else ((r+1:Nat):Int))=(1:Nat):=by
 by_cases h:(1:Int)+0<((r+1:Nat):Int)
 ·rw[if_pos h];rfl
 ·rw[if_neg h];exact cI (fO.1 h) (bN.2 (cK (bE r)))
theorem wQ{r:Nat}:(if (1:Int)+1<((r+1+1:Nat):Int) then (1:Int)+1 else ((r+1+1:Nat):Int))=(2:Nat):=by
 by_cases h:(1:Int)+1<((r+1+1:Nat):Int)
 ·rw[if_pos h];rfl
 ·rw[if_neg h];exact cI (fO.1 h) (bN.2 (cK (cK (bE r))))
theorem wR{a:Int}(h:0<=a/\a<7)(h0:¬ a=0)(h1:¬ a=1)(h2:¬ a=2)(h3:¬ a=3)(h4:¬ a=4)(h5:¬ a=5):a=6:=cI (eX h.2) (Zp (Zp (Zp (Zp (Zp (Zp h.1 h0) h1) h2) h3) h4) h5)
theorem wS{a:Int}(h:0<=a/\a<3):a=0\/a=1\/a=2:=(Classical.em (a=0)).imp id fun e=>(Classical.em (a=1)).imp id fun e1=>cI (eX h.2) (Zp (Zp h.1 e) e1)
end
section
variable {G:Prop}
theorem xA{P1 P2:Prop}(h:P1/\P2)(k:P1->P2->G):G:=k h.1 h.2
theorem xE{T0:Sort _}{P1:T0->Prop}(h:∃ a,P1 a)(k:∀ a,P1 a->G):G:=aM h k
theorem JZ{P1 P2 P3:Prop}(h:P1/\P2/\P3)(k:P1->P2->P3->G):G:=xA h.2 (k h.1)
theorem UE{T0:Sort _}{P1:Prop}{P2:T0->Prop}(h:P1/\∃ a,P2 a)(k:P1->∀ a,P2 a->G):G:=xE h.2 (k h.1)
theorem A9{T0:Sort _}{P1 P2:T0->Prop}(h:∃ a,P1 a/\P2 a)(k:∀ a,P1 a->P2 a->G):G:=aM h fun a h=>xA h (k a)
theorem PJ{T0 T1:Sort _}{P1:T0->T1->Prop}(h:∃ a b,P1 a b)(k:∀ a b,P1 a b->G):G:=aM h fun a h=>xE h (k a)
theorem MS{P1 P2 P3 P4:Prop}(h:P1/\P2/\P3/\P4)(k:P1->P2->P3->P4->G):G:=JZ h.2 (k h.1)
theorem NX{T0:Sort _}{P1:Prop}{P2 P3:T0->Prop}(h:P1/\∃ a,P2 a/\P3 a)(k:P1->∀ a,P2 a->P3 a->G):G:=A9 h.2 (k h.1)
theorem F5{T0:Sort _}{P1 P2 P3:T0->Prop}(h:∃ a,P1 a/\P2 a/\P3 a)(k:∀ a,P1 a->P2 a->P3 a->G):G:=aM h fun a h=>JZ h (k a)
theorem XM{T0 T1:Sort _}{P1:T0->Prop}{P2:T0->T1->Prop}(h:∃ a,P1 a/\∃ b,P2 a b)(k:∀ a,P1 a->∀ b,P2 a b->G):G:=aM h fun a h=>UE h (k a)
theorem Av{T0 T1:Sort _}{P1 P2:T0->T1->Prop}(h:∃ a b,P1 a b/\P2 a b)(k:∀ a b,P1 a b->P2 a b->G):G:=aM h fun a h=>A9 h (k a)
theorem Ka{P1 P2 P3 P4 P5:Prop}(h:P1/\P2/\P3/\P4/\P5)(k:P1->P2->P3->P4->P5->G):G:=MS h.2 (k h.1)
theorem Rg{T0:Sort _}{P1:Prop}{P2 P3 P4:T0->Prop}(h:P1/\∃ a,P2 a/\P3 a/\P4 a)(k:P1->∀ a,P2 a->P3 a->P4 a->G):G:=F5 h.2 (k h.1)
theorem BT{T0:Sort _}{P1 P2 P3 P4:T0->Prop}(h:∃ a,P1 a/\P2 a/\P3 a/\P4 a)(k:∀ a,P1 a->P2 a->P3 a->P4 a->G):G:=aM h fun a h=>MS h (k a)
theorem Zq{T0 T1 T2:Sort _}{P1:T0->Prop}{P2:T0->T1->T2->Prop}(h:∃ a,P1 a/\∃ b c,P2 a b c)(k:∀ a,P1 a->∀ b c,P2 a b c->G):G:=aM h fun a h=>PJ h.2 (k a h.1)
theorem AF{T0 T1:Sort _}{P1 P2 P3:T0->T1->Prop}(h:∃ a b,P1 a b/\P2 a b/\P3 a b)(k:∀ a b,P1 a b->P2 a b->P3 a b->G):G:=aM h fun a h=>F5 h (k a)
theorem C4{T0 T1 T2:Sort _}{P1 P2:T0->T1->T2->Prop}(h:∃ a b c,P1 a b c/\P2 a b c)(k:∀ a b c,P1 a b c->P2 a b c->G):G:=aM h fun a h=>Av h (k a)
theorem Rh{T0 T1 T2 T3:Sort _}{P1:T0->T1->T2->T3->Prop}(h:∃ a b c d,P1 a b c d)(k:∀ a b c d,P1 a b c d->G):G:=aM h fun a h=>aM h fun b h=>PJ h (k a b)
theorem PL{T0 T1:Sort _}{P1:Prop}{P2 P3 P4:T0->T1->Prop}(h:P1/\∃ a b,P2 a b/\P3 a b/\P4 a b)(k:P1->∀ a b,P2 a b->P3 a b->P4 a b->G):G:=AF h.2 (k h.1)
theorem F6{T0:Sort _}{P1 P2 P3 P4 P5:T0->Prop}(h:∃ a,P1 a/\P2 a/\P3 a/\P4 a/\P5 a)(k:∀ a,P1 a->P2 a->P3 a->P4 a->P5 a->G):G:=aM h fun a h=>Ka h (k a)
theorem kB{T0 T1 T2:Sort _}{P1:T0->Prop}{P2 P3:T0->T1->T2->Prop}(h:∃ a,P1 a/\∃ b c,P2 a b c/\P3 a b c)(k:∀ a,P1 a->∀ b c,P2 a b c->P3 a b c->G):G:=aM h fun a h=>Av h.2 (k a h.1)
theorem MT{T0 T1:Sort _}{P1 P2 P3 P4:T0->T1->Prop}(h:∃ a b,P1 a b/\P2 a b/\P3 a b/\P4 a b)(k:∀ a b,P1 a b->P2 a b->P3 a b->P4 a b->G):G:=aM h fun a h=>BT h (k a)
theorem UI{T0 T1 T2:Sort _}{P1 P2:T0->T1->Prop}{P3:T0->T1->T2->Prop}(h:∃ a b,P1 a b/\P2 a b/\∃ c,P3 a b c)(k:∀ a b,P1 a b->P2 a b->∀ c,P3 a b c->G):G:=aM h fun a h=>aM h fun b h=>UE h.2 (k a b h.1)
theorem kC{T0 T1 T2:Sort _}{P1:T0->T1->Prop}{P2 P3:T0->T1->T2->Prop}(h:∃ a b,P1 a b/\∃ c,P2 a b c/\P3 a b c)(k:∀ a b,P1 a b->∀ c,P2 a b c->P3 a b c->G):G:=aM h fun a h=>aM h fun b h=>NX h (k a b)
theorem B2{T0 T1 T2:Sort _}{P1 P2 P3:T0->T1->T2->Prop}(h:∃ a b c,P1 a b c/\P2 a b c/\P3 a b c)(k:∀ a b c,P1 a b c->P2 a b c->P3 a b c->G):G:=aM h fun a h=>AF h (k a)
theorem F7{T0 T1 T2 T3:Sort _}{P1 P2:T0->T1->T2->T3->Prop}(h:∃ a b c d,P1 a b c d/\P2 a b c d)(k:∀ a b c d,P1 a b c d->P2 a b c d->G):G:=aM h fun a h=>C4 h (k a)
theorem JE{P1 P2 P3 P4 P5 P6 P7:Prop}(h:P1/\P2/\P3/\P4/\P5/\P6/\P7)(k:P1->P2->P3->P4->P5->P6->P7->G):G:=Ka h.2.2 (k h.1 h.2.1)
theorem XN{T0 T1 T2:Sort _}{P1 P2:Prop}{P3 P4:T0->T1->T2->Prop}(h:P1/\P2/\∃ a b c,P3 a b c/\P4 a b c)(k:P1->P2->∀ a b c,P3 a b c->P4 a b c->G):G:=have q0:=h.1;C4 h.2.2 (k q0 h.2.1)
theorem MU{T0:Sort _}{P1 P2 P3 P4 P5 P6:T0->Prop}(h:∃ a,P1 a/\P2 a/\P3 a/\P4 a/\P5 a/\P6 a)(k:∀ a,P1 a->P2 a->P3 a->P4 a->P5 a->P6 a->G):G:=aM h fun a h=>Ka h.2 (k a h.1)
theorem JF{T0 T1:Sort _}{P1 P2 P3 P4 P5:T0->T1->Prop}(h:∃ a b,P1 a b/\P2 a b/\P3 a b/\P4 a b/\P5 a b)(k:∀ a b,P1 a b->P2 a b->P3 a b->P4 a b->P5 a b->G):G:=aM h fun a h=>F6 h (k a)
theorem XQ{T0 T1 T2:Sort _}{P1:T0->T1->Prop}{P2 P3 P4:T0->T1->T2->Prop}(h:∃ a b,P1 a b/\∃ c,P2 a b c/\P3 a b c/\P4 a b c)(k:∀ a b,P1 a b->∀ c,P2 a b c->P3 a b c->P4 a b c->G):G:=aM h fun a h=>aM h fun b h=>Rg h (k a b)
theorem DU{T0 T1 T2:Sort _}{P1 P2 P3 P4:T0->T1->T2->Prop}(h:∃ a b c,P1 a b c/\P2 a b c/\P3 a b c/\P4 a b c)(k:∀ a b c,P1 a b c->P2 a b c->P3 a b c->P4 a b c->G):G:=aM h fun a h=>MT h (k a)
theorem JG{T0 T1 T2 T3:Sort _}{P1 P2 P3:T0->T1->T2->T3->Prop}(h:∃ a b c d,P1 a b c d/\P2 a b c d/\P3 a b c d)(k:∀ a b c d,P1 a b c d->P2 a b c d->P3 a b c d->G):G:=aM h fun a h=>B2 h (k a)
theorem XR{T0 T1 T2 T3 T4:Sort _}{P1 P2:T0->T1->T2->T3->T4->Prop}(h:∃ a b c d e,P1 a b c d e/\P2 a b c d e)(k:∀ a b c d e,P1 a b c d e->P2 a b c d e->G):G:=aM h fun a h=>F7 h (k a)
theorem Dq{T0 T1 T2:Sort _}{P1 P2 P3 P4 P5:T0->T1->T2->Prop}(h:∃ a b c,P1 a b c/\P2 a b c/\P3 a b c/\P4 a b c/\P5 a b c)(k:∀ a b c,P1 a b c->P2 a b c->P3 a b c->P4 a b c->P5 a b c->G):G:=aM h fun a h=>JF h (k a)
theorem UJ{T0 T1 T2 T3:Sort _}{P1 P2:T0->T1->T2->Prop}{P3 P4:T0->T1->T2->T3->Prop}(h:∃ a b c,P1 a b c/\P2 a b c/\∃ d,P3 a b c d/\P4 a b c d)(k:∀ a b c,P1 a b c->P2 a b c->∀ d,P3 a b c d->P4 a b c d->G):G:=aM h fun a h=>aM h fun b h=>aM h fun c h=>NX h.2 (k a b c h.1)
theorem LX{T0 T1:Sort _}{P1 P2 P3 P4 P5 P6 P7:T0->T1->Prop}(h:∃ a b,P1 a b/\P2 a b/\P3 a b/\P4 a b/\P5 a b/\P6 a b/\P7 a b)(k:∀ a b,P1 a b->P2 a b->P3 a b->P4 a b->P5 a b->P6 a b->P7 a b->G):G:=aM h fun a h=>aM h fun b h=>JE h (k a b)
theorem SO{T0 T1 T2 T3:Sort _}{P1 P2:T0->T1->T2->Prop}{P3 P4 P5:T0->T1->T2->T3->Prop}(h:∃ a b c,P1 a b c/\P2 a b c/\∃ d,P3 a b c d/\P4 a b c d/\P5 a b c d)(k:∀ a b c,P1 a b c->P2 a b c->∀ d,P3 a b c d->P4 a b c d->P5 a b c d->G):G:=aM h fun a h=>aM h fun b h=>aM h fun c h=>Rg h.2 (k a b c h.1)
theorem IJ{T0 T1 T2 T3:Sort _}{P1 P2 P3 P4 P5:T0->T1->T2->T3->Prop}(h:∃ a b c d,P1 a b c d/\P2 a b c d/\P3 a b c d/\P4 a b c d/\P5 a b c d)(k:∀ a b c d,P1 a b c d->P2 a b c d->P3 a b c d->P4 a b c d->P5 a b c d->G):G:=aM h fun a h=>Dq h (k a)
theorem IK{T0 T1 T2 T3 T4:Sort _}{P1 P2 P3 P4:T0->T1->T2->T3->T4->Prop}(h:∃ a b c d e,P1 a b c d e/\P2 a b c d e/\P3 a b c d e/\P4 a b c d e)(k:∀ a b c d e,P1 a b c d e->P2 a b c d e->P3 a b c d e->P4 a b c d e->G):G:=aM h fun a h=>aM h fun b h=>DU h (k a b)
theorem D8{T0 T1 T2 T3:Sort _}{P1:Prop}{P2 P3 P4 P5 P6:T0->T1->T2->T3->Prop}(h:P1/\∃ a b c d,P2 a b c d/\P3 a b c d/\P4 a b c d/\P5 a b c d/\P6 a b c d)(k:P1->∀ a b c d,P2 a b c d->P3 a b c d->P4 a b c d->P5 a b c d->P6 a b c d->G):G:=IJ h.2 (k h.1)
theorem Kb{T0 T1 T2 T3 T4:Sort _}{P1 P2 P3 P4 P5:T0->T1->T2->T3->T4->Prop}(h:∃ a b c d e,P1 a b c d e/\P2 a b c d e/\P3 a b c d e/\P4 a b c d e/\P5 a b c d e)(k:∀ a b c d e,P1 a b c d e->P2 a b c d e->P3 a b c d e->P4 a b c d e->P5 a b c d e->G):G:=aM h fun a h=>IJ h (k a)
theorem Jd{T0 T1 T2 T3 T4 T5:Sort _}{P1 P2 P3 P4 P5:T0->T1->T2->T3->T4->T5->Prop}(h:∃ a b c d e f,P1 a b c d e f/\P2 a b c d e f/\P3 a b c d e f/\P4 a b c d e f/\P5 a b c d e f)(k:∀ a b c d e f,P1 a b c d e f->P2 a b c d e f->P3 a b c d e f->P4 a b c d e f->P5 a b c d e f->G):G:=aM h fun a h=>Kb h (k a)
theorem NY{T0 T1 T2 T3 T4 T5 T6:Sort _}{P1 P2 P3 P4:T0->T1->T2->T3->T4->T5->T6->Prop}(h:∃ a b c d e f i,P1 a b c d e f i/\P2 a b c d e f i/\P3 a b c d e f i/\P4 a b c d e f i)(k:∀ a b c d e f i,P1 a b c d e f i->P2 a b c d e f i->P3 a b c d e f i->P4 a b c d e f i->G):G:=aM h fun a h=>aM h fun b h=>IK h (k a b)
theorem MV{T0 T1 T2 T3:Sort _}{P1 P2 P3 P4 P5 P6 P7 P8:T0->T1->T2->T3->Prop}(h:∃ a b c d,P1 a b c d/\P2 a b c d/\P3 a b c d/\P4 a b c d/\P5 a b c d/\P6 a b c d/\P7 a b c d/\P8 a b c d)(k:∀ a b c d,P1 a b c d->P2 a b c d->P3 a b c d->P4 a b c d->P5 a b c d->P6 a b c d->P7 a b c d->P8 a b c d->G):G:=aM h fun a h=>aM h fun b h=>aM h fun c h=>aM h fun d h=>JE h.2 (k a b c d h.1)
theorem Ej{T0 T1 T2 T3 T4 T5 T6:Sort _}{P1 P2 P3 P4 P5:T0->T1->T2->T3->T4->T5->T6->Prop}(h:∃ a b c d e f i,P1 a b c d e f i/\P2 a b c d e f i/\P3 a b c d e f i/\P4 a b c d e f i/\P5 a b c d e f i)(k:∀ a b c d e f i,P1 a b c d e f i->P2 a b c d e f i->P3 a b c d e f i->P4 a b c d e f i->P5 a b c d e f i->G):G:=aM h fun a h=>Jd h (k a)
theorem DV{T0 T1 T2 T3 T4 T5 T6:Sort _}{P1 P2 P3 P4 P5 P6:T0->T1->T2->T3->T4->T5->T6->Prop}(h:∃ a b c d e f i,P1 a b c d e f i/\P2 a b c d e f i/\P3 a b c d e f i/\P4 a b c d e f i/\P5 a b c d e f i/\P6 a b c d e f i)(k:∀ a b c d e f i,P1 a b c d e f i->P2 a b c d e f i->P3 a b c d e f i->P4 a b c d e f i->P5 a b c d e f i->P6 a b c d e f i->G):G:=aM h fun a h=>aM h fun b h=>aM h fun c h=>aM h fun d h=>aM h fun e h=>aM h fun f h=>MU h (k a b c d e f)
theorem Hn{T0 T1 T2 T3 T4 T5 T6 T7 T8 T9:Sort _}{P1 P2 P3:T0->T1->T2->T3->T4->T5->T6->T7->T8->T9->Prop}(h:∃ a b c d e f i j l m,P1 a b c d e f i j l m/\P2 a b c d e f i j l m/\P3 a b c d e f i j l m)(k:∀ a b c d e f i j l m,P1 a b c d e f i j l m->P2 a b c d e f i j l m->P3 a b c d e f i j l m->G):G:=aM h fun a h=>aM h fun b h=>aM h fun c h=>aM h fun d h=>aM h fun e h=>aM h fun f h=>JG h (k a b c d e f)
theorem Cp{T0 T1 T2 T3 T4 T5 T6 T7 T8 T9 T10 T11:Sort _}{P1:T0->T1->T2->T3->T4->T5->T6->T7->T8->T9->T10->T11->Prop}(h:∃ a b c d e f i j l m n o,P1 a b c d e f i j l m n o)(k:∀ a b c d e f i j l m n o,P1 a b c d e f i j l m n o->G):G:=aM h fun a h=>aM h fun b h=>aM h fun c h=>aM h fun d h=>aM h fun e h=>aM h fun f h=>aM h fun i h=>aM h fun j h=>Rh h (k a b c d e f i j)
theorem n3{a b c:Nat}(h:a<=b)(k:Nat.ble b c=true):a<=c:=aR h (bF k)
theorem l3{a b c:Nat}(h:a<b)(k:Nat.ble b c=true):a<c:=aP h (bF k)
theorem l4{a b c:Nat}(h:a<=b)(k:Nat.blt b c=true):a<c:=fX h (bF k)
theorem l5{a b c:Nat}(h:a<b)(k:Nat.ble b (c+1)=true):a<=c:=dI (aP h (bF k))
theorem pC{a b c d:Nat}(h:a<=b)(k:Nat.ble (b+d) c=true):a+d<=c:=aR (Nat.add_le_add_right h d) (bF k)
theorem Zr{a b c d:Nat}(h:a<=b)(k:Nat.ble (d+b) c=true):d+a<=c:=aR (hY h d) (bF k)
theorem Zs{a b c x y:Nat}(h:a<=x)(g:b<=y)(k:Nat.ble (x+y) c=true):a+b<=c:=aR (Nat.add_le_add h g) (bF k)
theorem i3{a b c:Int}(h:a<=b)(k:decide (b<=c)=true):a<=c:=gI h (of_decide_eq_true k)
theorem i4{a b c:Int}(h:a<b)(k:decide (b<=c)=true):a<c:=eM h (of_decide_eq_true k)
theorem i5{a b c:Int}(h:a<=b)(k:decide (b<c)=true):a<c:=iJ h (of_decide_eq_true k)
theorem i6{a b c:Int}(h:a<b)(k:decide (b<=c)=true):a<=c:=gI (eY h) (of_decide_eq_true k)
theorem j3{a b c:Int}(h:b<=a)(k:decide (c<=b)=true):c<=a:=gI (of_decide_eq_true k) h
theorem j4{a b c:Int}(h:b<=a)(k:decide (c<b)=true):c<a:=eM (of_decide_eq_true k) h
theorem j5{a b c:Int}(h:b<=a)(k:decide (c<b)=true):a≠c:=fun e=>Int.lt_irrefl c (by rw[e] at h;exact eM (of_decide_eq_true k) h)
theorem n7{a b:Nat}(h:a<b)(k:true=true):a<=b:=dY h
end
section
open PySem PySem.W PyProof.Rows
noncomputable def Ri(v:Option Value)(f:Addr->Bool):Bool:=match v with
 | some v=>match v with
  | .ref C=>f C
  | _=>false
 | none=>false
theorem Zt{v:Option Value}{f:Addr->Bool}(h:Ri v f=true):∃ C,v=some (.ref C)/\f C=true:=by
 rcases v with _|v
 case none=>exact absurd h aD
 case some=>cases v<;>first|exact absurd h aD|exact⟨_,rfl,h⟩
noncomputable def MW(h:Heap)(v:Value):Bool:=match v with
 | .ref A=>match h.get? A with
  | some o=>match o.data with
   | .cls cd=>h.isNs cd.ns&&(h.nsMap cd.ns "__class__").isNone
   | _=>false
  | none=>false
 | _=>true
noncomputable def MX(excs:List (Str×List Str))(all:List Str)(h:Heap):Bool:=excs.all fun p=>Ri (h.nsMap mainGlobals p.1) fun C=>match h.get? C with
 | some o=>match o.data with
  | .cls cd=>(all.all fun j=>Ri (h.nsMap mainGlobals j) fun D=>cd.mro.contains (.ref D)==p.2.contains j)&&cd.mro.all (MW h)
  | _=>false
 | none=>false
structure FD (excs:List (Str×List Str)) (all:List Str) (mg:Str->Option Value) (h:Heap):Prop where
 sub:∀ p∈excs,∀ j∈all,∃ C D o cd,mg p.1=some (.ref C)/\mg j=some (.ref D)/\h.get? C=some o/\o.data=.cls cd/\cd.mro.contains (.ref D)=p.2.contains j
 ncl:∀ p∈excs,∃ C o cd,mg p.1=some (.ref C)/\h.get? C=some o/\o.data=.cls cd/\∀ A,Value.ref A∈cd.mro->∃ ob je m,h.get? A=some ob/\ob.data=.cls je/\h.Ns je.ns m/\m "__class__"=none
theorem SP{h:Heap}{A:Addr}(e:MW h (.ref A)=true):∃ ob je m,h.get? A=some ob/\ob.data=.cls je/\h.Ns je.ns m/\m "__class__"=none:=by
 unfold MW at e
 dsimp only at e
 rcases ho:h.get? A with _|o<;>rw[ho] at e
 case none=>exact absurd e aD
 case some=>
  dsimp only at e
  rcases hd:o.data with _|_|_|_|_|_|_|_|cd|_<;>rw[hd] at e<;>try exact absurd e aD
  rw[aG,eP] at e
  exact⟨o,cd,_,rfl,hd,.of_isNs e.1,e.2⟩
theorem Kc{excs:List (Str×List Str)}{all:List Str}{h:Heap}(e:MX excs all h=true){p:Str×List Str}(hp:p∈excs):∃ C o cd,h.nsMap mainGlobals p.1=some (.ref C)/\h.get? C=some o/\o.data=.cls cd/\(all.all fun j=>Ri (h.nsMap mainGlobals j) fun D=>cd.mro.contains (.ref D)==p.2.contains j)=true/\cd.mro.all (MW h)=true:=by
 have h1:=List.all_eq_true.mp e p hp
 refine A9 (Zt h1) fun C hC h1=>?_
 rcases ho:h.get? C with _|o<;>rw[ho] at h1
 case none=>exact absurd h1 aD
 case some=>
  dsimp only at h1
  rcases hd:o.data with _|_|_|_|_|_|_|_|cd|_<;>rw[hd] at h1<;>try exact absurd h1 aD
  rw[aG] at h1
  exact⟨C,o,cd,hC,ho,hd,h1⟩
theorem kD{excs:List (Str×List Str)}{all:List Str}{h:Heap}(e:MX excs all h=true):FD excs all (h.nsMap mainGlobals) h:=by
 refine⟨fun p hp j hj=>?_,fun p hp=>?_⟩
 ·refine Dq (Kc e hp) fun C o cd hC ho hd h1 _=>?_
  refine A9 (Zt (List.all_eq_true.mp h1 j hj)) fun D hD h2=>?_
  exact⟨C,D,o,cd,hC,hD,ho,hd,cA h2⟩
 ·refine Dq (Kc e hp) fun C o cd hC ho hd _ h2=>?_
  exact⟨C,o,cd,hC,ho,hd,fun A hA=>SP (List.all_eq_true.mp h2 _ hA)⟩
theorem FD.keeps{excs:List (Str×List Str)}{all:List Str}(mg:Str->Option Value)(h h':Heap)(x:FD excs all mg h)(k:∀ b o,h.get? b=some o->h'.get? b=some o):FD excs all mg h':=
 ⟨fun p hp j hj=>F7 (x.sub p hp j hj) fun C D o cd a q=>⟨C,D,o,cd,a,q.1,k _ _ q.2.1,q.2.2⟩,
  fun p hp=>DU (x.ncl p hp) fun C o cd a b c d=>⟨C,o,cd,a,k _ _ b,c,fun A hA=>DU (d A hA) fun ob je m h1 h2 h3 h4=>⟨ob,je,m,k _ _ h1,h2,h3.keeps k,h4⟩⟩⟩
end
section
open PySem PySem.W PyProof.Rows
noncomputable def pD:Program:=view PySem.Challenge.pw_uf040007_11 [0,2,3,4,5,6,7,8,9,10,11,12,14,15,16,17,19,20,21,22,23,24,25,27,28,29,30,31,32,33,34,36,37,38,39,40,41,42,43,44,45,46,47,48,49,50,51,52,53,54]
noncomputable def kE:List (Str×List Str):=[("NestError",["NestError"]),("NoNests",["NoNests","NestError"]),("NoName",["NoName","NestError"]),("NoValue",["NoValue","NestError"]),("NoNest",["NoNest","NestError"]),("NoHome",["NoHome","NestError"]),("Taken",["Taken","NestError"]),("Twice",["Twice","NestError"]),("NoRoom",["NoRoom","NestError"]),("Unknown",["Unknown","NestError"]),("NoNote",["NoNote","NestError"])]
noncomputable def pE:List Str:=["NestError","NoNests","NoName","NoValue","NoNest","NoHome","Taken","Twice","NoRoom","Unknown","NoNote"]
noncomputable def vF(s:Shared):Bool:=(xlAt pD [] s&&recOk (RowW.records (OpenRow.toRowW PySem.Challenge.rw_uf040007_11.row)) s)&&MX kE pE s.heap
theorem vG:LeftO PySem.Challenge.pw_uf040007_11 pD [] vF (Hook.obs Hook.none) (Hook.val Hook.none) 8358:=by
 intro w
 unfold openEnds fencedOpening topFrom
 rw[PySem.W.Fast.te14364793385576792824,PySem.W.Fast.te10274390034422433532,PySem.W.Fast.te14082659384304107361,PySem.W.Fast.te1435165496053646825,PySem.W.Fast.te14289696077712309145,PySem.W.Fast.te8920871248978507458,PySem.W.Fast.te4187177175401517315]
 kernel_rfl
end
end Mine.Internal
set_option backward.match.sparseCases false
namespace Mine.Internal
section
open PySem
inductive AV where
 | none
 | bool (b:Bool)
 | int (i:Int)
 | str (s:List Nat)
 | tup (vs:List AV)
 | loc (n:Nat)
 | rng (b:Int)
 | scr (xs:List Int)
set_option genCtorIdx true in
set_option genInjectivity true in
inductive Bc where
 | str (s:List Nat)
 | pair (a b:Int)
 deriving DecidableEq
inductive Ay where
 | list (vs:List AV)
 | dict (kvs:List (Bc×AV)) (ep:Nat)
 | inst (k:Nat)
 | ns (fs:List (Str×AV))
 | exc (k:Str)
noncomputable def AV.ctorIdx(v:AV):Nat:=@AV.casesOn (fun _=>Nat) v 0 (fun _=>1) (fun _=>2) (fun _=>3) (fun _=>4) (fun _=>5) (fun _=>6) (fun _=>7)
noncomputable def Ay.ctorIdx(v:Ay):Nat:=Ay.casesOn (motive:=fun _=>Nat) v (fun _=>0) (fun _ _=>1) (fun _=>2) (fun _=>3) (fun _=>4)
abbrev A0:=List Ay
abbrev Ah:=List (Option AV)
inductive B7 (α:Type) where
 | ok (a:α) (h:A0)
 | exc (k:Str) (h:A0)
 | bad
noncomputable def B7.ctorIdx{α:Type}(v:B7 α):Nat:=B7.casesOn (motive:=fun _=>Nat) v (fun _ _=>0) (fun _ _=>1) 2
inductive XS (u:Nat) where
 | eq|ne|lt|le|gt|ge|isin|notin
abbrev UF:=XS 0
noncomputable def XS.ctorIdx{u:Nat}(v:XS u):Nat:=XS.casesOn (motive:=fun _=>Nat) v 0 1 2 3 4 5 6 7
inductive XT (u:Nat) where
 | add|sub|mul|div|mod|pow
abbrev UK:=XT 0
noncomputable def XT.ctorIdx{u:Nat}(v:XT u):Nat:=XT.casesOn (motive:=fun _=>Nat) v 0 1 2 3 4 5
inductive rJ (u:Nat) where
 | len|sorted|list|dict|str|int|min
abbrev BI:=rJ 0
noncomputable def rJ.ctorIdx{u:Nat}(v:rJ u):Nat:=rJ.casesOn (motive:=fun _=>Nat) v 0 1 2 3 4 5 6
inductive rK (u:Nat) where
 | append|get|index|pop|count|split|join
abbrev BM:=rK 0
noncomputable def rK.ctorIdx{u:Nat}(v:rK u):Nat:=rK.casesOn (motive:=fun _=>Nat) v 0 1 2 3 4 5 6
inductive rL (u:Nat) where
 | int|bool|str|tuple
abbrev Ty:=rL 0
noncomputable def rL.ctorIdx{u:Nat}(v:rL u):Nat:=rL.casesOn (motive:=fun _=>Nat) v 0 1 2 3
mutual
inductive X where
 | none
 | bool (b:Bool)
 | int (i:Int)
 | str (s:List Nat)
 | loc (i:Nat)
 | bin (op:UK) (l r:X)
 | neg (x:X)
 | not (x:X)
 | and (l r:X)
 | or (l r:X)
 | cmp (op:UF) (l r:X)
 | cmp2 (o1 o2:UF) (l m r:X)
 | call (f:Str) (as:Xs)
 | bi (b:BI) (as:Xs)
 | isi (x:X) (t:Ty)
 | isx (x:X) (ks:List Str)
 | new (as:Xs)
 | im (m:Str) (o:X) (as:Xs)
 | bm (m:BM) (o:X) (as:Xs)
 | attr (a:Str) (o:X)
 | sub (o i:X)
 | slice (o lo hi:X)
 | rev (o:X)
 | tup (es:Xs)
 | list (es:Xs)
 | dict0
 | range (as:Xs)
 | comp (e:X) (k j:Nat) (it:X) (cs:Xs)
inductive Xs where
 | nil
 | cons (x:X) (xs:Xs)
end
mutual
inductive S where
 | expr (x:X)
 | ret (x:X)
 | asg (i:Nat) (x:X)
 | setitem (o k x:X)
 | setattr (a:Str) (o x:X)
 | iff (c:X) (a b:Ss)
 | forr (i:Nat) (it:X) (b:Ss)
 | raise (k:Str)
 | tryx (b:Ss) (hs:Hs)
 | asgt (is:List Nat) (x:X)
 | fort (is:List Nat) (it:X) (b:Ss)
 | repl (c:X) (i:Nat) (ts:Xs) (x:X) (j l k:Nat) (y:List Nat) (n:X) (a:Ss)
 | bad
inductive Ss where
 | nil
 | cons (s:S) (r:Ss)
inductive Hs where
 | nil
 | cons (ks:List Str) (i:Nat) (b:Ss) (r:Hs)
end
structure Bz where
 params:Nat
 slots:Nat
 body:Ss
end
section
open PySem
structure Cx where
 sc:Scope
 loc:List (Str×Nat)
 n:Nat
 funs:List Str
 meths:List Str
 attrs:List Str
 cls:Str
 consts:List (Str×Const)
 excs:List (Str×List Str)
noncomputable def LY:NameKind->Bool
 | .local|.cell|.free=>true
 | _=>false
noncomputable def H6(x:Str):Bool:=x != ("__debug__":Str)&&x != ("__classdict__":Str)
noncomputable def Cx.slot(c:Cx)(x:Str):Option Nat:=(c.sc.names.lookup x).bind fun k=>if LY k&&H6 x then c.loc.lookup x else none
noncomputable def Cx.isGlob(c:Cx)(x:Str):Bool:=c.sc.names.lookup x==some .globalImplicit&&H6 x
noncomputable def Cx.slotW(c:Cx)(x:Str):Option Nat:=
 match c.sc.names.lookup x with
 | some .local|some .cell=>c.slot x
 | _=>none
noncomputable def D9:Expr->Bool
 | .ListComp ..|.SetComp ..|.DictComp ..|.GeneratorExp ..=>true
 | _=>false
noncomputable def HY:Operator->Option UK
 | .Add=>some .add|.Sub=>some .sub|.Mult=>some .mul|.FloorDiv=>some .div|.Mod=>some .mod|.Pow=>some .pow
 | _=>none
noncomputable def BZ:CmpOp->Option UF
 | .Eq=>some .eq|.NotEq=>some .ne|.Lt=>some .lt|.LtE=>some .le|.Gt=>some .gt|.GtE=>some .ge
 | .In=>some .isin|.NotIn=>some .notin
 | _=>none
noncomputable def pF:List (Str×BI):=[("len",.len),("sorted",.sorted),("list",.list),("dict",.dict),("str",.str),("int",.int),("min",.min)]
noncomputable def kF(x:Str):Option BI:=pF.lookup x
noncomputable def pG(x:Str):Option Ty:=if x==("int":Str) then some .int else if x==("bool":Str) then some .bool else if x==("str":Str) then some .str else if x==("tuple":Str) then some .tuple else none
noncomputable def CG:Expr->Option Str
 | .Name x _=>some x
 | _=>none
noncomputable def PM(c:Cx)(e:Expr):Option Ty:=(CG e).bind fun x=>if c.isGlob x then pG x else none
noncomputable def BK(scope:Scope):List Str:=scope.names.filterMap fun p=>if p.2==.local&&p.1 != (".0":Str) then some p.1 else none
noncomputable def Ce(c:Cx)(scope:Scope):Cx:=
 { c with sc:=scope,loc:=(BK scope).zipIdx c.n++c.loc,n:=c.n+(BK scope).length }
noncomputable def H7(c:Cx)(p:Str×NameKind):Bool:=match p.2 with
 | .local=>p.1 != (".0":Str)||(c.loc.lookup p.1).isNone
 | .free=>c.sc.names.lookup p.1==some .cell&&(c.slot p.1).isSome
 | .globalImplicit=>true
 | _=>false
noncomputable def El(c:Cx)(scope:Scope):Bool:=
 scope.kind==.function&&decide (scope.names.map (·.1)).Nodup&&scope.names.all (H7 c)
noncomputable def FE(c:Cx)(as:List Expr):Option Ty:=match as with
 | []=>none
 | _ :: r=>match r with
  | []=>none
  | t :: r=>match r with
   | []=>PM c t
   | _=>none
noncomputable def taken(excs:List (Str×List Str))(j:Str):List Str:=(excs.map (·.1)).filter fun k=>match excs.lookup k with
 | some ks=>ks.contains j
 | none=>false
noncomputable def XU(c:Cx)(e:Expr):Option (List Str):=(CG e).bind fun x=>if c.isGlob x then (if c.excs.any fun p=>p.2.contains x then some (taken c.excs x) else if x==("ValueError":Str) then some (c.excs.map (·.1)) else none) else none
noncomputable def MY(c:Cx)(e:Expr):Option (List Str):=(CG e).bind fun x=>if c.isGlob x&&c.excs.any fun p=>p.2.contains x then some (taken c.excs x) else none
noncomputable def PN:Expr->Option (Expr×Expr)
 | .Tuple es _ _=>match es with
  | []=>none
  | a :: r=>match r with
   | []=>none
   | b :: r=>match r with
    | []=>some (a,b)
    | _=>none
 | _=>none
noncomputable def Kd(c:Cx)(e:Expr):Option (List Str):=match PN e with
 | some p=>(MY c p.1).bind fun a=>(MY c p.2).map fun b=>a++b
 | none=>XU c e
noncomputable def UL(as:List Expr):Option Expr:=match as with
 | []=>none
 | _ :: r=>match r with
  | []=>none
  | t :: r=>match r with
   | []=>some t
   | _=>none
noncomputable def JH(c:Cx)(x:X)(as:List Expr):Option X:=match FE c as with
 | some t=>some (.isi x t)
 | none=>((UL as).bind (Kd c)).map fun ks=>.isx x ks
noncomputable def pH(as:Xs):Option X:=match as with
 | .nil=>none
 | as=>some (.new as)
noncomputable def Ke(c:Cx)(f:Str)(as:Xs):Option X:=
 if c.funs.contains f&&!c.meths.contains f then some (.call f as)
 else if f==c.cls then pH as
 else if f==("range":Str) then some (.range as)
 else match kF f with
  | some b=>some (.bi b as)
  | none=>none
noncomputable def BL:Expr->Bool
 | .Name ..=>true
 | .Subscript ..=>true
 | .Attribute ..=>true
 | .Constant ..=>true
 | .Call f _ _ _=>match f with
  | .Attribute ..=>true
  | _=>false
 | _=>false
noncomputable def pI:List (Str×BM):=[("append",.append),("get",.get),("index",.index),("pop",.pop),("count",.count),("split",.split),("join",.join)]
noncomputable def pJ(x:Str):Option BM:=pI.lookup x
noncomputable def Kf(c:Cx)(m:Str)(o:X)(as:Xs):Option X:=
 if c.funs.contains m&&c.meths.contains m then some (.im m o as)
 else match pJ m with
  | some b=>some (.bm b o as)
  | none=>none
noncomputable def Fl:Const->Option X
 | .none=>some .none
 | .bool b=>some (.bool b)
 | .int i=>some (.int i)
 | .str s=>some (.str s.cps.toList)
 | _=>none
noncomputable def Ge(c:Cx)(x:Str):Option X:=
 match c.slot x with
 | some i=>some (.loc i)
 | none=>if c.isGlob x then (c.consts.lookup x).bind Fl else none
noncomputable def UM(op:UnaryOp)(x:X):Option X:=match op with
 | .USub=>some (.neg x)
 | .Not=>some (.not x)
 | _=>none
noncomputable def Kg(ops:List CmpOp)(l:X)(rs:Xs):Option X:=match ops with
 | []=>none
 | op :: ops=>match rs with
  | .nil=>none
  | .cons r rs=>match ops with
   | []=>match rs with
    | .nil=>(BZ op).map fun o=>.cmp o l r
    | _=>none
   | op2 :: ops=>match ops with
    | []=>match rs with
     | .nil=>none
     | .cons r2 rs=>match rs with
      | .nil=>do return .cmp2 (<- BZ op) (<- BZ op2) l r r2
      | _=>none
    | _=>none
noncomputable def HZ(f:Expr->Option X)(op:BoolOp):List Expr->Option X
 | []=>none
 | x :: r=>match r with
  | []=>f x
  | _=>do
   let a <- f x
   let b <- HZ f op r
   return match op with|.And=>.and a b|.Or=>.or a b
noncomputable def B6(f:Expr->Option X):List Expr->Option Xs
 | []=>some .nil
 | e :: r=>do return .cons (<- f e) (<- B6 f r)
noncomputable def I0(f:Expr->Option X):List Expr->Option X
 | []=>none
 | e :: _=>f e
noncomputable def DZ(f:Expr->Option X):Option Expr->Option X
 | none=>some .none
 | some e=>f e
noncomputable def Zu:Expr->Option Str
 | .Name x _=>some x
 | _=>none
noncomputable def PO(f:Cx->Expr->Option X)(c:Cx)(elt:Expr)(gens:List Comprehension)(scope:Scope):Option X:=match gens with
 | []=>none
 | g :: r=>match r with
  | []=>if g.is_async==0&&El c scope&&decide (g.ifs.length<=1) then do
    let x <- Zu g.target
    if scope.names.lookup x==some .local then do
     return .comp (<- f (Ce c scope) elt) (BK scope).length (<- (Ce c scope).slotW x) (<- f c g.iter) (<- B6 (f (Ce c scope)) g.ifs)
    else none
   else none
  | _=>none
noncomputable def UN(ks:List (Option Expr))(vs:List Expr):Option X:=if ks.isEmpty&&vs.isEmpty then some .dict0 else none
noncomputable def PP:Expr->Option Int
 | .Constant v _ _=>match v with
  | .int i=>some i
  | _=>none
 | _=>none
noncomputable def UO:UnaryOp->Bool
 | .USub=>true
 | _=>false
noncomputable def kG:Expr->Bool
 | .UnaryOp op x _=>UO op&&PP x==some 1
 | _=>false
noncomputable def Je(f:Cx->Expr->Option X)(c:Cx):Expr->Option X
 | .Constant v _ _=>Fl v
 | .Name x _=>Ge c x
 | .BinOp l op r _=>do return .bin (<- HY op) (<- f c l) (<- f c r)
 | .UnaryOp op x _=>do UM op (<- f c x)
 | .BoolOp op vs _=>HZ (f c) op vs
 | .Compare l ops rs _=>do Kg ops (<- f c l) (<- B6 (f c) rs)
 | .Call g as ks pos=>match ks with
  | []=>match g with
   | .Name g _=>if !c.isGlob g then none
    else if g==("isinstance":Str) then do JH c (<- I0 (f c) as) as
    else do Ke c g (<- B6 (f c) as)
   | .Attribute o m ap=>if !(ap.endLine==pos.line&&BL o&&decide (as.length<20)) then none
    else do Kf c m (<- f c o) (<- B6 (f c) as)
   | _=>none
  | _=>none
 | .Attribute o a _=>if c.attrs.contains a&&BL o then do return .attr a (<- f c o) else none
 | .Subscript o i _=>match i with
  | .Slice lo hi st _=>match st with
   | none=>do return .slice (<- f c o) (<- DZ (f c) lo) (<- DZ (f c) hi)
   | some e=>if lo.isNone&&hi.isNone&&kG e then do return .rev (<- f c o) else none
  | i=>do return .sub (<- f c o) (<- f c i)
 | .Tuple es _ _=>do return .tup (<- B6 (f c) es)
 | .List es _=>do return .list (<- B6 (f c) es)
 | .Dict ks vs _=>UN ks vs
 | .ListComp elt gens scope _=>PO f c elt gens scope
 | _=>none
noncomputable def Ag:Nat->Cx->Expr->Option X
 | 0,_,_=>none
 | n+1,c,e=>Je (Ag n) c e
noncomputable def Cy:Nat:=30
noncomputable def Rj(c:Cx)(y:Str)(py:Pos)(v:Expr):Bool:=match v with
 | .ListComp _ _ scope pos=>c.sc.names.lookup y==some .local&&py.line==pos.line&&!(scope.names.any fun p=>p.1==y&&(p.2==.local||p.2==.cell))
 | _=>true
noncomputable def Rk(c:Cx)(t:Expr):Option Nat:=(CG t).bind c.slotW
noncomputable def UP:Expr->Bool
 | .Tuple ..=>true
 | _=>false
noncomputable def FF(c:Cx):List Expr->Option (List Nat)
 | []=>some []
 | t :: r=>do return (<- Rk c t) :: (<- FF c r)
noncomputable def Rl(c:Cx)(ts:List Expr)(v:Expr):Option S:=match ts with
 | [t]=>match t with
  | .Name x p=>if Rj c x p v then do return .asg (<- c.slotW x) (<- Ag Cy c v) else none
  | .Subscript o k _=>if D9 v then none else do return .setitem (<- Ag Cy c o) (<- Ag Cy c k) (<- Ag Cy c v)
  | .Attribute o a _=>if c.attrs.contains a&&BL o&&!D9 v then do return .setattr a (<- Ag Cy c o) (<- Ag Cy c v) else none
  | .Tuple ts _ _=>if D9 v||UP v then none else do return .asgt (<- FF c ts) (<- Ag Cy c v)
  | _=>none
 | _=>none
noncomputable def Cf(g:Stmt->Option S):List Stmt->Option Ss
 | []=>some .nil
 | s :: r=>do return .cons (<- g s) (<- Cf g r)
noncomputable def MZ(c:Cx)(e:Expr):Option S:=match e with
 | .Call f as ks _=>match f with
  | .Name k _=>match as with
   | [a]=>match a with
    | .Constant v _ _=>match v with
     | .str _=>if ks.isEmpty&&c.isGlob k&&(c.excs.lookup k).isSome then some (.raise k) else none
     | _=>none
    | _=>none
   | _=>none
  | _=>none
 | _=>none
noncomputable def PQ(c:Cx)(n:Option Str):Option Nat:=n.bind fun x=>if c.sc.names.lookup x==some .local then c.slot x else none
noncomputable def Kh(g:Stmt->Option S)(c:Cx):List ExceptHandler->Option Hs
 | []=>some .nil
 | h :: r=>match h with
  | .ExceptHandler t n b _=>match t with
   | some t=>match t with
    | .Name k _=>if c.isGlob k&&!b.isEmpty&&(c.excs.any fun p=>p.2.contains k) then do
      return .cons (taken c.excs k) (<- PQ c n) (<- Cf g b) (<- Kh g c r) else none
    | _=>none
   | none=>none
noncomputable def NZ(op:Operator)(l:Expr):Bool:=match op with
 | .FloorDiv=>true
 | .Mod=>true
 | .Add=>(PP l).isSome
 | _=>false
noncomputable def Dr(c:Cx):Nat->Expr->Bool
 | 0,_=>false
 | n+1,e=>match e with
  | .Name x _=>(c.slot x).isSome
  | .Constant v _ _=>match v with
   | .int _=>true
   | _=>false
  | .BinOp l op r _=>NZ op l&&Dr c n l&&Dr c n r
  | _=>false
noncomputable def SQ:Expr->Option (List Nat)
 | .Constant v _ _=>match v with
  | .str s=>some s.cps.toList
  | _=>none
 | _=>none
noncomputable def O0:Expr->Option (Expr×Expr)
 | .Subscript o i _=>some (o,i)
 | _=>none
noncomputable def PR:Expr->Option (List Expr)
 | .List es _=>some es
 | _=>none
noncomputable def UQ:CmpOp->Bool
 | .Eq=>true
 | _=>false
noncomputable def kH:Expr->Option (Expr×Expr)
 | .Compare l ops rs _=>match ops with
  | []=>none
  | op :: q=>match rs with
   | []=>none
   | r :: rs=>if q.isEmpty&&rs.isEmpty&&UQ op then some (l,r) else none
 | _=>none
noncomputable def O1:Stmt->Option (Str×Expr)
 | .Assign ts v _=>match ts with
  | []=>none
  | t :: r=>if r.isEmpty then (CG t).map fun x=>(x,v) else none
 | _=>none
structure MC where
 o:Expr
 m:Str
 as:List Expr
 ap:Pos
 pos:Pos
noncomputable def PS:Expr->Option MC
 | .Call g as ks pos=>match ks with
  | []=>match g with
   | .Attribute o m ap=>some ⟨o,m,as,ap,pos⟩
   | _=>none
  | _=>none
 | _=>none
noncomputable def IL(as:List Expr):Option (Expr×Expr×Expr):=match as with
 | []=>none
 | a :: r=>match r with
  | []=>none
  | b :: r=>match r with
   | []=>none
   | d :: r=>if r.isEmpty then some (a,b,d) else none
structure Rp where
 q:Expr×Expr
 p1:Str×Expr
 p2:Str×Expr
 sx:Expr×Expr
 es:List Expr
 mc:MC
 ok:Expr×Expr
 a:Expr
 b:Expr
 n:Expr
noncomputable def kI(t:Expr)(s1 s2:Stmt):Option Rp:=(kH t).bind fun q=>(O1 s1).bind fun p1=>(O1 s2).bind fun p2=>(O0 p1.2).bind fun sx=>(PR sx.1).bind fun es=>(PS p2.2).bind fun mc=>(O0 mc.o).bind fun ok=>(IL mc.as).map fun r=>⟨q,p1,p2,sx,es,mc,ok,r.1,r.2.1,r.2.2⟩
noncomputable def Rp.good(r:Rp)(c:Cx):Bool:=Dr c 5 r.q.1&&(PP r.q.2).isSome&&r.es.all (fun e=>(SQ e).isSome)&&Dr c 5 r.sx.2&&CG r.b==some r.p1.1&&c.sc.names.lookup r.p1.1==some .local&&r.mc.m==("replace":Str)&&r.mc.ap.endLine==r.mc.pos.line&&Dr c 5 r.n
noncomputable def Ki(c:Cx)(t:Expr)(s1 s2:Stmt)(a:Ss):Option S:=(kI t s1 s2).bind fun r=>if r.good c then do
  return .repl (<- Ag Cy c t) (<- c.slotW r.p1.1) (<- B6 (Ag Cy c) r.es) (<- Ag Cy c r.sx.2) (<- c.slotW r.p2.1) (<- (CG r.ok.1).bind c.slot) (<- (CG r.ok.2).bind c.slot) (<- SQ r.a) (<- Ag Cy c r.n) a
 else none
noncomputable def N0(g:Stmt->Option S)(c:Cx)(t:Expr)(a b:List Stmt):Option S:=match a with
 | []=>none
 | s1 :: r=>match r with
  | []=>none
  | s2 :: r=>if b.isEmpty then (Cf g r).bind (Ki c t s1 s2) else none
noncomputable def O2(g:Stmt->Option S)(c:Cx):Stmt->Option S
 | .Expr x _=>if D9 x then none else do return .expr (<- Ag Cy c x)
 | .Return v _=>match v with
  | some x=>do return .ret (<- Ag Cy c x)
  | none=>none
 | .Assign ts v _=>Rl c ts v
 | .If t a b _=>match N0 g c t a b with
  | some s=>some s
  | none=>do return .iff (<- Ag Cy c t) (<- Cf g a) (<- Cf g b)
 | .For t it b o _=>if o.isEmpty then match t with
   | .Tuple ts _ _=>do return .fort (<- FF c ts) (<- Ag Cy c it) (<- Cf g b)
   | t=>do return .forr (<- Rk c t) (<- Ag Cy c it) (<- Cf g b)
  else none
 | .Raise e cause _=>match cause with
  | some _=>none
  | none=>e.bind (MZ c)
 | .Try b hs o f _=>if o.isEmpty&&f.isEmpty&&!hs.isEmpty then do return .tryx (<- Cf g b) (<- Kh g c hs) else none
 | _=>none
noncomputable def Ct:Nat->Cx->Stmt->Option S
 | 0,_,_=>none
 | n+1,c,s=>match O2 (Ct n c) c s with
  | some x=>some x
  | none=>some .bad
noncomputable def C5(ps:List Str)(sc:Scope):List Str:=
 ps++sc.names.filterMap fun p=>if LY p.2&&!ps.contains p.1 then some p.1 else none
noncomputable def Kj(args:Arguments)(sc:Scope):Bool:=
 args.posonlyargs.isEmpty&&args.kwonlyargs.isEmpty&&args.vararg.isNone&&args.kwarg.isNone&&sc.kind==.function&&!sc.isGenerator&&!sc.isCoroutine &&
 decide (args.args.map (·.arg)).Nodup&&decide (sc.names.map (·.1)).Nodup&&sc.names.all (fun p=>p.2 != .free) &&
 (args.args.map (·.arg)).all (fun x=>sc.names.lookup x==some .local||sc.names.lookup x==some .cell)
structure Sh where
 funs:List Str
 meths:List Str
 attrs:List Str
 cls:Str
 consts:List (Str×Const)
 excs:List (Str×List Str)
noncomputable def Rm(sh:Sh)(ps:List Str)(sc:Scope):Cx:={ sc:=sc,loc:=(C5 ps sc).zipIdx,n:=(C5 ps sc).length,funs:=sh.funs,meths:=sh.meths,attrs:=sh.attrs,cls:=sh.cls,consts:=sh.consts,excs:=sh.excs }
noncomputable def FG(sh:Sh)(args:Arguments)(body:List Stmt)(sc:Scope):Option Bz:=do
 let ps:=args.args.map (·.arg)
 let ns:=C5 ps sc
 if !Kj args sc then none
 let b <- Cf (Ct Cy (Rm sh ps sc)) body
 return ⟨ps.length,ns.length,b⟩
abbrev AI:=List (Str×Bz)
end
section
open PySem
noncomputable def Ab:Nat:=2 ^ 20
namespace B7
noncomputable def bind{α β:Type}(r:B7 α)(f:α->A0->B7 β):B7 β:=match r with
 | .ok a h=>f a h
 | .exc k h=>.exc k h
 | .bad=>.bad
end B7
noncomputable def Bc.av:Bc->AV
 | .str s=>.str s
 | .pair a b=>.tup [.int a,.int b]
noncomputable def Ds:AV->Option Int
 | .int i=>some i
 | _=>none
noncomputable def AV.key?:AV->Option Bc
 | .str s=>some (.str s)
 | .tup xs=>match xs with
  | [x,y]=>(Ds x).bind fun a=>(Ds y).bind fun b=>some (.pair a b)
  | _=>Option.none
 | _=>Option.none
noncomputable def Bc.sort:Bc->Bool
 | .str _=>false
 | .pair _ _=>true
noncomputable def Be(kvs:List (Bc×AV))(k:Bc):Bool:=kvs.all fun p=>p.1.sort==k.sort
noncomputable def kJ(a b:Option Bool):Option Bool:=a.bind fun x=>b.map fun y=>x&&y
noncomputable def vH(a b:Option Bool):Option Bool:=a.bind fun x=>b.map fun y=>x||y
noncomputable def EU(f:AV->AV->Option Bool):List AV->List AV->Option Bool
 | [],ys=>some ys.isEmpty
 | x :: xs,ys=>match ys with
  | []=>some false
  | y :: ys=>kJ (f x y) (EU f xs ys)
noncomputable def Am(h:A0)(n:Nat):Option (List AV):=match h[n]? with
 | some o=>match o with
  | .list xs=>some xs
  | _=>none
 | none=>none
noncomputable def Bi(h:A0)(n:Nat):Option (List (Bc×AV)×Nat):=match h[n]? with
 | some o=>match o with
  | .dict kvs ep=>some (kvs,ep)
  | _=>none
 | none=>none
noncomputable def pK(f:AV->AV->Option Bool)(a b:Option (List AV)):Option Bool:=match a,b with
 | some xs,some ys=>if xs.length=ys.length then EU f xs ys else some false
 | _,_=>none
noncomputable def FH(h:A0)(n:Nat):Option (List (Str×AV)):=match h[n]? with
 | some o=>match o with
  | .inst k=>match h[k]? with
   | some o=>match o with
    | .ns fs=>some fs
    | _=>none
   | none=>none
  | _=>none
 | none=>none
noncomputable def Jf(h:A0)(v:AV):Option Bool:=match v with
 | .int _=>some false
 | .str _=>some false
 | .tup _=>some false
 | .loc i=>(Am h i).map fun _=>false
 | _=>none
noncomputable def FI(h:A0):Nat->AV->AV->Option Bool
 | 0,_,_=>none
 | n+1,a,b=>match a with
  | .none=>match b with
   | .none=>some true
   | b=>Jf h b
  | .int x=>match b with
   | .int y=>some (decide (x=y))
   | .none=>some false
   | _=>none
  | .str x=>match b with
   | .str y=>some (decide (x=y))
   | .none=>some false
   | _=>none
  | .tup xs=>match b with
   | .tup ys=>EU (FI h n) xs ys
   | .none=>some false
   | _=>none
  | .loc i=>match b with
   | .loc j=>pK (FI h n) (Am h i) (Am h j)
   | .none=>(Am h i).map fun _=>false
   | _=>none
  | _=>none
noncomputable def Cg:Nat:=6
noncomputable def PT(op:UF)(x y:Int):Option Bool:=match op with
 | .lt=>some (decide (x<y))
 | .le=>some (decide (x<=y))
 | .gt=>some (decide (y<x))
 | .ge=>some (decide (y<=x))
 | _=>none
noncomputable def UR(op:UF)(a b:AV):Option Bool:=match a with
 | .int x=>match b with
  | .int y=>PT op x y
  | _=>none
 | _=>none
noncomputable def F8(h:A0)(v:AV):List AV->Option Bool
 | []=>some false
 | x :: r=>vH (FI h Cg x v) (F8 h v r)
noncomputable def N1(kvs:List (Bc×AV))(k:Option Bc):Option Bool:=match k with
 | some k=>if Be kvs k then some (kvs.lookup k).isSome else none
 | none=>none
noncomputable def Jg(x y:List Nat):Bool:=!(Builtin.Str.occurrences ⟨y.toArray⟩ ⟨x.toArray⟩ 0 y.length 1).isEmpty
noncomputable def Gf:AV->Option (List Nat)
 | .str s=>some s
 | _=>none
noncomputable def Jh(v:AV):Option Nat:=match v with
 | .str x=>match x with
  | []=>none
  | c :: r=>match r with
   | []=>some c
   | _=>none
 | _=>none
noncomputable def LF(h:A0)(v c:AV):Option Bool:=match c with
 | .tup xs=>F8 h v xs
 | .loc n=>match h[n]? with
  | some o=>match o with
   | .list xs=>F8 h v xs
   | .dict kvs _=>N1 kvs v.key?
   | _=>none
  | none=>none
 | .str y=>match Jh v with
  | some c=>some (decide (c∈y))
  | none=>(Gf v).map fun x=>Jg x y
 | _=>none
noncomputable def vI(a:Option (List (Bc×AV)×Nat))(b:List (Bc×AV)):Option Bool:=if b.isEmpty then a.map fun d=>d.1.isEmpty else none
noncomputable def LZ(h:A0)(a b:AV):Option Bool:=match a with
 | .loc i=>match b with
  | .loc j=>(Bi h j).bind fun d=>(vI (Bi h i) d.1).map not
  | _=>none
 | _=>none
noncomputable def kK(h:A0)(a b:AV):Option Bool:=match LZ h a b with
 | some r=>some r
 | none=>(FI h Cg a b).map not
noncomputable def B9(h:A0)(op:UF)(a b:AV):Option Bool:=match op with
 | .eq=>FI h Cg a b
 | .ne=>kK h a b
 | .isin=>LF h a b
 | .notin=>(LF h a b).map not
 | op=>UR op a b
noncomputable def Rn(a b:Int):Bool:=decide (a.natAbs<2 ^ 64)||decide (b.natAbs<2 ^ 64)
noncomputable def Au(vs:List AV)(h:A0):B7 AV:=if vs.length<=Ab then .ok (.loc h.length) (h++[.list vs]) else .bad
noncomputable def AW(vs:Option (List AV))(h:A0):B7 AV:=match vs with
 | some vs=>Au vs h
 | none=>.bad
noncomputable def Ey(v:Option AV)(h:A0):B7 AV:=match v with
 | some v=>.ok v h
 | none=>.bad
noncomputable def kL(op:UK)(x y:Int)(h:A0):B7 AV:=match op with
 | .add=>.ok (.int (x+y)) h
 | .sub=>.ok (.int (x-y)) h
 | .mul=>if Rn x y then .ok (.int (x*y)) h else .bad
 | .div=>if y=0 then .bad else .ok (.int (x.fdiv y)) h
 | .mod=>if y=0 then .bad else .ok (.int (x.fmod y)) h
 | .pow=>if 0<=y/\y<=100/\x.natAbs<2 ^ 64 then .ok (.int (x ^ y.toNat)) h else .bad
noncomputable def Zv:UK->Bool
 | .add=>true
 | _=>false
noncomputable def vJ(x y:List Nat)(h:A0):B7 AV:=if x.length+y.length<=Ab then .ok (.str (x++y)) h else .bad
noncomputable def SS(a b:Option (List AV)):Option (List AV):=match a,b with
 | some xs,some ys=>some (xs++ys)
 | _,_=>none
noncomputable def Cz(op:UK)(a b:AV)(h:A0):B7 AV:=match a with
 | .int x=>match b with
  | .int y=>kL op x y h
  | _=>.bad
 | .str x=>match b with
  | .str y=>if Zv op then vJ x y h else .bad
  | _=>.bad
 | .loc n=>match b with
  | .loc m=>if Zv op then AW (SS (Am h n) (Am h m)) h else .bad
  | _=>.bad
 | _=>.bad
noncomputable def Ro(a:AV)(h:A0):B7 AV:=match a with
 | .int x=>.ok (.int (-x)) h
 | _=>.bad
noncomputable def Gg(a:AV)(h:A0):B7 AV:=match a with
 | .str xs=>if xs.length<=Ab then .ok (.int xs.length) h else .bad
 | .tup xs=>if xs.length<=Ab then .ok (.int xs.length) h else .bad
 | .scr xs=>if xs.length<=Ab then .ok (.int xs.length) h else .bad
 | .loc n=>match h[n]? with
  | some o=>match o with
   | .list xs=>.ok (.int xs.length) h
   | .dict kvs _=>.ok (.int kvs.length) h
   | _=>.bad
  | none=>.bad
 | _=>.bad
noncomputable def C6(b:Int):List AV:=(List.range b.toNat).map fun (k:Nat)=>.int k
noncomputable def Ch(h:A0)(n:Nat):Option (List AV):=match h[n]? with
 | some o=>match o with
  | .list xs=>some xs
  | .dict kvs _=>some (kvs.map fun p=>p.1.av)
  | _=>none
 | none=>none
noncomputable def CH(a:AV)(h:A0):Option (List AV):=match a with
 | .str x=>if x.all (fun c=>decide (c<128)) then some (x.map fun c=>.str [c]) else none
 | .tup xs=>some xs
 | .loc n=>Am h n
 | .rng b=>if b.natAbs<=Ab then some (C6 b) else none
 | _=>none
noncomputable def BU(kvs:List (Bc×AV))(k:Bc)(v:AV):List (Bc×AV):=
 if kvs.any (fun p=>p.1==k) then kvs.map (fun p=>if p.1==k then (p.1,v) else p) else kvs++[(k,v)]
noncomputable def PU(h:A0)(n:Nat)(kvs:List (Bc×AV))(ep:Nat)(v:AV)(k:Option Bc):Option A0:=match k with
 | some k=>if Be kvs k&&decide (kvs.length<Ab) then some (h.set n (.dict (BU kvs k v) (if (kvs.lookup k).isSome then ep else ep+1))) else none
 | none=>none
noncomputable def US(h:A0)(n:Nat)(xs:List AV)(v:AV)(k:Option Int):Option A0:=k.bind fun i=>if 0<=i/\i<xs.length then some (h.set n (.list (xs.set i.toNat v))) else none
noncomputable def C7(o k v:AV)(h:A0):Option A0:=match o with
 | .loc n=>match h[n]? with
  | some ob=>match ob with
   | .dict kvs ep=>PU h n kvs ep v k.key?
   | .list xs=>US h n xs v (Ds k)
   | _=>none
  | none=>none
 | _=>none
noncomputable def Cb(a b:Int×Int):Bool:=decide (a.1<b.1)||(decide (a.1=b.1)&&decide (a.2<b.2))
noncomputable def BR{α:Type}(lt:Nat->Nat->Bool):PySem.W.KasT α->α
 | .ret a=>a
 | .ask i j k=>BR lt (k (lt i j))
noncomputable def Gh(v:AV):Option (Int×Int):=match v.key? with
 | some k=>match k with
  | .pair a b=>some (a,b)
  | _=>none
 | none=>none
noncomputable def DI{α:Type}(f:AV->Option α):List AV->Option (List α)
 | []=>some []
 | v :: r=>(f v).bind fun p=>(DI f r).bind fun ps=>some (p :: ps)
noncomputable def Ez(p:Int×Int):AV:=.tup [.int p.1,.int p.2]
noncomputable def Jv(ps:List (Int×Int))(i:Nat):Int×Int:=ps.getD i (0,0)
noncomputable def EV(ps:List (Int×Int)):List Nat:=(BR (fun i j=>Cb (Jv ps i) (Jv ps j)) (PySem.W.kas_sort ps.length)).toList
noncomputable def M0(ps:List (Int×Int)):Option (List AV):=if ps.length<2 then some (ps.map Ez)
 else if ps.length<64 then some ((EV ps).map fun i=>Ez (Jv ps i)) else none
noncomputable def O3(h:A0)(n:Nat):Option (List AV):=((Ch h n).bind (DI Gh)).bind M0
noncomputable def I5(n:Nat)(x:AV)(h:A0):Option A0:=match x with
 | .tup vs=>match vs with
  | [k,v]=>(Bi h n).bind fun d=>PU h n d.1 d.2 v k.key?
  | _=>none
 | _=>none
noncomputable def E3(n:Nat):List AV->A0->Option A0
 | [],h=>some h
 | x :: r,h=>(I5 n x h).bind (E3 n r)
noncomputable def IM(xs:List AV)(h:A0):B7 AV:=match E3 h.length xs (h++[.dict [] 0]) with
 | some h'=>.ok (.loc h.length) h'
 | none=>.bad
noncomputable def O4(d:Option (List (Bc×AV)×Nat))(h:A0):B7 AV:=match d with
 | some d=>if d.1.all fun p=>!p.1.sort then .ok (.loc h.length) (h++[.dict d.1 0]) else .bad
 | none=>.bad
noncomputable def Gi(h:A0)(n:Nat):B7 AV:=match Am h n with
 | some xs=>IM xs h
 | none=>O4 (Bi h n) h
noncomputable def Ad(i:Int):List Nat:=(PySem.Str.ofString (toString i)).cps.toList
noncomputable def EW(x:List Nat):Nat:=x.foldl (fun a c=>a*10+(c-48)) 0
noncomputable def EX(c:Nat):Bool:=decide (48<=c)&&decide (c<=57)
noncomputable def pL(a:AV)(h:A0):B7 AV:=match a with
 | .int i=>if i.natAbs<2 ^ 64 then .ok (.str (Ad i)) h else .bad
 | _=>.bad
noncomputable def Zw(a:AV)(h:A0):B7 AV:=match a with
 | .str x=>if x.all EX&&!x.isEmpty&&decide (x.length<=600) then .ok (.int (EW x)) h else .bad
 | _=>.bad
noncomputable def pM(a b:AV)(h:A0):B7 AV:=match a with
 | .int x=>match b with
  | .int y=>.ok (.int (if y<x then y else x)) h
  | _=>.bad
 | _=>.bad
noncomputable def CI(b:BI)(as:List AV)(h:A0):B7 AV:=match as with
 | [a]=>match b with
  | .len=>Gg a h
  | .list=>match a with
   | .loc n=>AW (Ch h n) h
   | _=>.bad
  | .sorted=>match a with
   | .loc n=>AW (O3 h n) h
   | _=>.bad
  | .dict=>match a with
   | .loc n=>Gi h n
   | _=>.bad
  | .str=>pL a h
  | .int=>Zw a h
  | .min=>.bad
 | [a,c]=>match b with
  | .min=>pM a c h
  | _=>.bad
 | _=>.bad
noncomputable def Fm(o:AV)(as:List AV)(h:A0):B7 AV:=match o with
 | .loc n=>match as with
  | [v]=>match Am h n with
   | some xs=>if xs.length<Ab then .ok .none (h.set n (.list (xs++[v]))) else .bad
   | none=>.bad
  | _=>.bad
 | _=>.bad
noncomputable def O5(kvs:List (Bc×AV))(k:Option Bc):Option AV:=match k with
 | some k=>if Be kvs k then some ((kvs.lookup k).getD .none) else none
 | none=>none
noncomputable def Ji(o:AV)(as:List AV)(h:A0):B7 AV:=match o with
 | .loc n=>match as with
  | [v]=>match Bi h n with
   | some d=>Ey (O5 d.1 v.key?) h
   | none=>.bad
  | _=>.bad
 | _=>.bad
noncomputable def Gj:AV->Option Bool
 | .bool b=>some b
 | _=>none
noncomputable def Gk(xs:Option (List AV))(as:List AV):Option (List Bool):=match as with
 | [v]=>(Gj v).bind fun b=>if b then xs.bind (DI Gj) else none
 | _=>none
noncomputable def XV(o:AV)(as:List AV)(h:A0):B7 AV:=match o with
 | .loc n=>Ey ((Gk (Am h n) as).map fun bs=>.int (bs.count true:Nat)) h
 | _=>.bad
noncomputable def XW(o:AV)(as:List AV)(h:A0):B7 AV:=match o with
 | .str x=>match as with
  | [v]=>Ey (((Jh v).bind fun c=>x.findIdx? (·==c)).map fun (i:Nat)=>AV.int (i:Int)) h
  | _=>.bad
 | .loc n=>Ey (((Gk (Am h n) as).bind fun bs=>bs.findIdx? (·==true)).map fun (i:Nat)=>AV.int (i:Int)) h
 | _=>.bad
noncomputable def Aq(c:Nat):List Nat->List (List Nat)
 | []=>[[]]
 | x :: r=>if x=c then [] :: Aq c r else match Aq c r with
  | []=>[[x]]
  | w :: ws=>(x :: w) :: ws
noncomputable def Bv(sep:List Nat):List (List Nat)->List Nat
 | []=>[]
 | x :: r=>match r with
  | []=>x
  | y :: q=>x++sep++Bv sep (y :: q)
noncomputable def N2(o:AV)(as:List AV)(h:A0):B7 AV:=match o with
 | .str x=>match as with
  | [v]=>if x.length<=Ab then AW ((Jh v).bind fun c=>if c<128 then some ((Aq c x).map .str) else none) h else .bad
  | _=>.bad
 | _=>.bad
noncomputable def Da(sep:List Nat)(xs:List (List Nat)):Nat:=(xs.map fun x=>x.length+sep.length).sum
noncomputable def kM(o:AV)(as:List AV)(h:A0):B7 AV:=match o with
 | .str sep=>match as with
  | [v]=>match v with
   | .loc n=>Ey (((Am h n).bind (DI Gf)).bind fun xs=>if Da sep xs<=Ab then some (.str (Bv sep xs)) else none) h
   | _=>.bad
  | _=>.bad
 | _=>.bad
noncomputable def EY(kvs:List (Bc×AV))(k:Bc):List (Bc×AV):=kvs.filter fun p=>!(p.1==k)
noncomputable def ST(h:A0)(n:Nat)(kvs:List (Bc×AV))(ep:Nat)(k:Option Bc):B7 AV:=match k with
 | some k=>if Be kvs k then match kvs.lookup k with
   | some v=>.ok v (h.set n (.dict (EY kvs k) (ep+1)))
   | none=>.bad
  else .bad
 | none=>.bad
noncomputable def M1(o:AV)(as:List AV)(h:A0):B7 AV:=match o with
 | .loc n=>match as with
  | [v]=>match Bi h n with
   | some d=>ST h n d.1 d.2 v.key?
   | none=>.bad
  | _=>.bad
 | _=>.bad
noncomputable def Cq(m:BM)(o:AV)(as:List AV)(h:A0):B7 AV:=match m with
 | .append=>Fm o as h
 | .get=>Ji o as h
 | .index=>XW o as h
 | .pop=>M1 o as h
 | .count=>XV o as h
 | .split=>N2 o as h
 | .join=>kM o as h
noncomputable def Gc(m:BM)(v:AV)(h:A0):Bool:=match v with
 | .loc n=>match m with
  | .append=>(Am h n).isSome
  | .get=>(Bi h n).isSome
  | .index=>(Am h n).isSome
  | .pop=>(Bi h n).isSome
  | .count=>(Am h n).isSome
  | _=>false
 | .str _=>match m with
  | .index=>true
  | .split=>true
  | .join=>true
  | _=>false
 | _=>false
noncomputable def idx?{α:Type}(xs:List α)(i:Int):Option α:=
 if 0<=i then xs[i.toNat]? else if 0<=i+xs.length then xs[(i+xs.length).toNat]? else none
noncomputable def XX(kvs:List (Bc×AV))(k:Option Bc):Option AV:=match k with
 | some k=>if Be kvs k then kvs.lookup k else none
 | none=>none
noncomputable def IN(xs:List AV)(i:Option Int):Option AV:=match i with
 | some i=>if xs.length<=Ab then idx? xs i else none
 | none=>none
noncomputable def vK(ob:Ay)(i:AV)(h:A0):B7 AV:=match ob with
 | .list xs=>Ey (IN xs (Ds i)) h
 | .dict kvs _=>Ey (XX kvs i.key?) h
 | _=>.bad
noncomputable def Cc(o i:AV)(h:A0):B7 AV:=match o with
 | .str xs=>Ey (IN (xs.map fun c=>.str [c]) (Ds i)) h
 | .tup xs=>Ey (IN xs (Ds i)) h
 | .scr xs=>Ey (IN (xs.map .int) (Ds i)) h
 | .loc n=>match h[n]? with
  | some ob=>vK ob i h
  | none=>.bad
 | _=>.bad
noncomputable def AL{α:Type}(xs:List α)(lo hi:Int):List α:=(xs.take (PySem.clipAt xs.length hi)).drop (PySem.clipAt xs.length lo)
noncomputable def UT:AV->Option Int
 | .none=>some 0
 | .int i=>some i
 | _=>none
noncomputable def XY(n:Nat):AV->Option Int
 | .none=>some n
 | .int i=>some i
 | _=>none
noncomputable def Do{α:Type}(xs:List α)(lo hi:AV):Option (List α):=if xs.length<=Ab then (UT lo).bind fun a=>(XY xs.length hi).map fun b=>AL xs a b else none
noncomputable def C0(o lo hi:AV)(h:A0):B7 AV:=match o with
 | .scr xs=>AW ((Do xs lo hi).map fun ys=>ys.map .int) h
 | .str x=>Ey ((Do x lo hi).map .str) h
 | .loc n=>AW ((Am h n).bind fun xs=>Do xs lo hi) h
 | _=>.bad
noncomputable def Kk(o:AV)(h:A0):B7 AV:=match o with
 | .loc n=>AW ((Am h n).map List.reverse) h
 | _=>.bad
noncomputable def Ef(a:Str)(v:AV)(h:A0):B7 AV:=match v with
 | .loc n=>Ey ((FH h n).bind fun fs=>fs.lookup a) h
 | _=>.bad
noncomputable def FJ(m:Str)(v:AV)(h:A0):Bool:=match v with
 | .loc n=>match FH h n with
  | some fs=>(fs.lookup m).isNone
  | none=>false
 | _=>false
noncomputable def SU(h:A0)(n:Nat):Option (Nat×List (Str×AV)):=match h[n]? with
 | some o=>match o with
  | .inst k=>match h[k]? with
   | some o=>match o with
    | .ns fs=>some (k,fs)
    | _=>none
   | none=>none
  | _=>none
 | none=>none
noncomputable def Fn(a:Str)(o v:AV)(h:A0):Option A0:=match o with
 | .loc n=>(SU h n).map fun p=>h.set p.1 (.ns ((a,v) :: p.2))
 | _=>none
noncomputable def O6:AV->Bool
 | .none=>true
 | _=>false
noncomputable def UU(a:AV)(t:Ty):Option Bool:=match a with
 | .int _=>match t with
  | .int=>some true
  | _=>some false
 | .str _=>match t with
  | .str=>some true
  | _=>some false
 | .tup _=>match t with
  | .tuple=>some true
  | _=>some false
 | _=>none
noncomputable def kO(h:A0)(v:AV)(ks:List Str):Option Bool:=match v with
 | .loc n=>match h[n]? with
  | some o=>match o with
   | .exc k=>some (ks.contains k)
   | _=>none
  | none=>none
 | _=>none
structure CA where
 F:Str->List AV->A0->B7 AV
 Fq:Str->List AV->A0->B7 AV
 q:Bool
 fuel:Nat
noncomputable def CA.quiet(c:CA):CA:=⟨c.Fq,c.Fq,true,c.fuel⟩
noncomputable def CA.still{α:Type}(c:CA)(r:B7 α):B7 α:=if c.q then .bad else r
noncomputable def B7.noExc{α:Type}(r:B7 α):B7 α:=match r with
 | .exc _ _=>.bad
 | r=>r
noncomputable def FK(as:List AV):Option AV:=match as with
 | [a]=>(Ds a).bind fun b=>if b.natAbs<=Ab then some (.rng b) else none
 | _=>none
noncomputable def Bj(src:AV)(i:Nat)(h:A0):Option (Option AV):=(CH src h).map fun xs=>xs[i]?
noncomputable def AG(body:AV->A0->B7 (Option AV))(src:AV):Nat->Nat->List AV->A0->B7 (List AV)
 | 0,_,_,_=>.bad
 | f+1,i,acc,h=>match Bj src i h with
  | none=>.bad
  | some none=>.ok acc h
  | some (some v)=>(body v h).bind fun r h=>match r with
   | some x=>if acc.length<Ab then AG body src f (i+1) (acc++[x]) h else .bad
   | none=>AG body src f (i+1) acc h
noncomputable def BN(l:Ah)(i:Nat):Option AV:=match l[i]? with
 | some o=>o
 | none=>none
noncomputable def Rq(v:AV)(h:A0):B7 AV:=match v with
 | .bool b=>.ok (.bool !b) h
 | _=>.bad
noncomputable def Kl(v:AV)(x y:B7 AV):B7 AV:=match v with
 | .bool b=>if b then x else y
 | _=>.bad
noncomputable def G6(r:Option Bool)(h:A0):B7 AV:=match r with
 | some r=>.ok (.bool r) h
 | none=>.bad
noncomputable def BC(l:Ah)(k j:Nat)(v:AV):Ah:=(l++List.replicate k none).set j (some v)
noncomputable def O8(v:AV)(x y:B7 Bool):B7 Bool:=match v with
 | .bool b=>if b then x else y
 | _=>.bad
noncomputable def pN(b:Bool)(h:A0)(x:B7 AV):B7 (Option AV):=if b then x.bind fun x h=>.ok (some x) h else .ok none h
noncomputable def Rr:BI->Bool
 | .len=>false
 | .str=>false
 | .int=>false
 | _=>true
noncomputable def HD(h:A0):A0:=h++[.ns [],.inst h.length]
noncomputable def HE(n:Nat)(r:AV)(h:A0):B7 AV:=if O6 r then .ok (.loc n) h else .bad
noncomputable def Km(r:Option Bool)(h:A0)(k:B7 AV):B7 AV:=match r with
 | some b=>if b then k else .ok (.bool false) h
 | none=>.bad
mutual
noncomputable def A1(c:CA):X->Ah->A0->B7 AV
 | .none,_,h=>.ok .none h
 | .bool b,_,h=>.ok (.bool b) h
 | .int i,_,h=>.ok (.int i) h
 | .str s,_,h=>.ok (.str s) h
 | .loc i,l,h=>Ey (BN l i) h
 | .bin op a b,l,h=>(A1 c a l h).bind fun x h=>(A1 c b l h).bind fun y h=>Cz op x y h
 | .neg a,l,h=>(A1 c a l h).bind Ro
 | .not a,l,h=>(A1 c a l h).bind Rq
 | .and a b,l,h=>(A1 c a l h).bind fun x h=>Kl x (A1 c b l h) (.ok (.bool false) h)
 | .or a b,l,h=>(A1 c a l h).bind fun x h=>Kl x (.ok (.bool true) h) (A1 c b l h)
 | .cmp op a b,l,h=>(A1 c a l h).bind fun x h=>(A1 c b l h).bind fun y h=>G6 (B9 h op x y) h
 | .cmp2 o1 o2 a b d,l,h=>(A1 c a l h).bind fun x h=>(A1 c b l h).bind fun y h=>Km (B9 h o1 x y) h ((A1 c d l h).bind fun z h=>G6 (B9 h o2 y z) h)
 | .call f as,l,h=>(evalXs c as l h).bind fun vs h=>c.F f vs h
 | .bi b as,l,h=>(evalXs c as l h).bind fun vs h=>if Rr b&&c.q then .bad else CI b vs h
 | .isi x t,l,h=>(A1 c x l h).bind fun v h=>G6 (UU v t) h
 | .isx x ks,l,h=>(A1 c x l h).bind fun v h=>G6 (kO h v ks) h
 | .new as,l,h=>(evalXs c as l h).bind fun vs h=>(c.F "__init__" (.loc (h.length+1) :: vs) (HD h)).bind fun r h'=>HE (h.length+1) r h'
 | .im m o as,l,h=>(A1 c o l h).bind fun v h=>if FJ m v h then (evalXs c as l h).bind fun vs h=>c.F m (v :: vs) h else .bad
 | .bm m o as,l,h=>(A1 c o l h).bind fun v h=>if Gc m v h then (evalXs c as l h).bind fun vs h=>Cq m v vs h else .bad
 | .attr a o,l,h=>(A1 c o l h).bind fun v h=>Ef a v h
 | .sub o i,l,h=>(A1 c o l h).bind fun v h=>(A1 c i l h).bind fun k h=>Cc v k h
 | .slice o a b,l,h=>(A1 c o l h).bind fun v h=>(A1 c a l h).bind fun x h=>(A1 c b l h).bind fun y h=>C0 v x y h
 | .rev o,l,h=>(A1 c o l h).bind fun v h=>Kk v h
 | .tup es,l,h=>(evalXs c es l h).bind fun vs h=>if vs.length<=Ab then .ok (.tup vs) h else .bad
 | .list es,l,h=>(evalXs c es l h).bind fun vs h=>Au vs h
 | .dict0,_,h=>.ok (.loc h.length) (h++[.dict [] 0])
 | .range as,l,h=>(evalXs c as l h).bind fun vs h=>Ey (FK vs) h
 | .comp e k j it cs,l,h=>(A1 c it l h).noExc.bind fun src h=>if c.q then .bad else
  (AG (fun v h=>(evalConds c cs (BC l k j v) h).noExc.bind fun b h=>pN b h (A1 c e (BC l k j v) h)) src c.fuel 0 [] h).bind fun vs h=>Au vs h
noncomputable def evalXs(c:CA):Xs->Ah->A0->B7 (List AV)
 | .nil,_,h=>.ok [] h
 | .cons x r,l,h=>(A1 c x l h).bind fun v h=>(evalXs c r l h).bind fun vs h=>.ok (v :: vs) h
noncomputable def evalConds(c:CA):Xs->Ah->A0->B7 Bool
 | .nil,_,h=>.ok true h
 | .cons x r,l,h=>(A1 c x l h).bind fun v h=>O8 v (evalConds c r l h) (.ok false h)
end
inductive N3 where
 | next
 | ret (v:AV)
inductive SR where
 | ok (f:N3) (l:Ah) (h:A0)
 | exc (k:Str) (l:Ah) (h:A0)
 | bad
noncomputable def N3.ctorIdx(v:N3):Nat:=N3.casesOn (motive:=fun _=>Nat) v 0 (fun _=>1)
noncomputable def SR.ctorIdx(v:SR):Nat:=SR.casesOn (motive:=fun _=>Nat) v (fun _ _ _=>0) (fun _ _ _=>1) 2
noncomputable def B7.st{α:Type}(r:B7 α)(l:Ah)(f:α->A0->SR):SR:=match r with
 | .ok a h=>f a h
 | .exc k h=>.exc k l h
 | .bad=>.bad
noncomputable def O9(l:Ah)(h:Option A0):SR:=match h with
 | some h=>.ok .next l h
 | none=>.bad
noncomputable def Ho(v:AV)(x y:SR):SR:=match v with
 | .bool b=>if b then x else y
 | _=>.bad
noncomputable def SR.turn(r:SR)(k:Ah->A0->SR):SR:=match r with
 | .ok f l h=>match f with
  | .next=>k l h
  | .ret v=>.ok (.ret v) l h
 | .exc k l h=>.exc k l h
 | .bad=>.bad
noncomputable def SR.noExc(r:SR):SR:=match r with
 | .exc _ _ _=>.bad
 | r=>r
noncomputable def SR.forget(r:SR):SR:=match r with
 | .ok f l h=>.ok f (l.map fun _=>none) h
 | r=>r
noncomputable def AO(put:Ah->AV->Option Ah)(body:Ah->A0->SR)(src:AV):Nat->Nat->Ah->A0->SR
 | 0,_,_,_=>.bad
 | f+1,k,l,h=>match Bj src k h with
  | none=>.bad
  | some r=>match r with
   | none=>.ok .next l h
   | some v=>match put l v with
    | some l'=>(body l' h).turn (AO put body src f (k+1))
    | none=>.bad
noncomputable def Jw(i:Nat)(l:Ah)(v:AV):Option Ah:=some (l.set i (some v))
noncomputable def Kn:List Nat->List AV->Ah->Ah
 | i :: is,v :: vs,l=>Kn is vs (l.set i (some v))
 | _,_,l=>l
noncomputable def Jx(is:List Nat)(l:Ah)(v:AV):Option Ah:=match v with
 | .tup vs=>if is.length=vs.length then some (Kn is vs l) else none
 | _=>none
noncomputable def Zx(l:Option Ah)(h:A0):SR:=match l with
 | some l=>.ok .next l h
 | none=>.bad
noncomputable def Jj(x y z:List Nat)(k:Nat):List Nat:=(Builtin.Str.glued ⟨z.toArray⟩ (Builtin.Str.partsBetween ⟨x.toArray⟩ (Builtin.Str.occurrences ⟨x.toArray⟩ ⟨y.toArray⟩ 0 x.length k) y.length)).cps.toList
noncomputable def Oa(o:AV)(y:List Nat)(z m:AV):Option AV:=(Gf o).bind fun x=>(Gf z).bind fun z=>(Ds m).bind fun k=>
 if y.length=1/\y≠z/\x.length<=1000/\z.length<=10/\1<=k/\k<=1000/\(∀ c∈y,c∈x) then some (.str (Jj x y z k.toNat)) else none
noncomputable def Rs(o:Option AV)(f:AV->SR):SR:=match o with
 | some r=>f r
 | none=>.bad
noncomputable def pO:AV->Option Nat
 | .loc n=>some n
 | _=>none
noncomputable def Ob(l:Ah)(h:A0)(a k:Nat):Option AV:=(BN l a).bind fun v=>(pO v).bind fun n=>(Am h n).bind fun xs=>(BN l k).bind fun i=>IN xs (Ds i)
mutual
noncomputable def AQ(c:CA):S->Ah->A0->SR
 | .expr x,l,h=>(A1 c x l h).st l fun _ h=>.ok .next l h
 | .ret x,l,h=>(A1 c x l h).st l fun v h=>.ok (.ret v) l h
 | .asg i x,l,h=>(A1 c x l h).st l fun v h=>.ok .next (l.set i (some v)) h
 | .setitem o k x,l,h=>(A1 c x l h).st l fun v h=>(A1 c o l h).st l fun o h=>(A1 c k l h).st l fun k h=>O9 l (C7 o k v h)
 | .iff t a b,l,h=>(A1 c t l h).st l fun v h=>Ho v (execSs c a l h) (execSs c b l h)
 | .forr i it b,l,h=>(A1 c it l h).st l fun src h=>if c.q then .bad else AO (Jw i) (fun l h=>execSs c b l h) src c.fuel 0 l h
 | .setattr a o x,l,h=>(A1 c x l h).st l fun v h=>(A1 c o l h).st l fun o h=>O9 l (Fn a o v h)
 | .raise k,l,h=>if c.q then .bad else .exc k l h
 | .tryx b hs,l,h=>if c.q then .bad else match execSs c b l h with
  | .exc k l h=>handle c hs k l h
  | r=>r
 | .asgt is x,l,h=>(A1 c x l h).st l fun v h=>if c.q then .bad else Zx (Jx is l v) h
 | .fort is it b,l,h=>(A1 c it l h).st l fun src h=>if c.q then .bad else AO (Jx is) (fun l h=>execSs c b l h) src c.fuel 0 l h
 | .repl t i ts x j a k y n b,l,h=>(A1 c t l h).st l fun v h=>Ho v ((A1 c (.sub (.list ts) x) l h).st l fun z h=>
   (A1 c n (l.set i (some z)) h).st (l.set i (some z)) fun m h=>Rs ((Ob (l.set i (some z)) h a k).bind fun o=>Oa o y z m) fun r=>execSs c b ((l.set i (some z)).set j (some r)) h) (.ok .next l h)
 | .bad,_,_=>.bad
noncomputable def execSs(c:CA):Ss->Ah->A0->SR
 | .nil,l,h=>.ok .next l h
 | .cons s r,l,h=>(AQ c s l h).turn fun l h=>execSs c r l h
noncomputable def handle(c:CA):Hs->Str->Ah->A0->SR
 | .nil,_,_,_=>.bad
 | .cons ks i b r,k,l,h=>if ks.contains k then (execSs c.quiet b (l.set i (some (.loc h.length))) (h++[.exc k])).noExc.forget else handle c r k l h
end
noncomputable def HF(r:SR):B7 AV:=match r with
 | .ok f _ h=>match f with
  | .ret v=>.ok v h
  | .next=>.ok .none h
 | .exc k _ h=>.exc k h
 | .bad=>.bad
noncomputable def Gl(c:CA)(d:Bz)(as:List AV)(h:A0):B7 AV:=
 if as.length=d.params then HF (execSs c d.body (as.map some++List.replicate (d.slots-d.params) none) h)
 else .bad
noncomputable def EA:Nat:=100000
noncomputable def AD(p:AI):Nat->Bool->Str->List AV->A0->B7 AV
 | 0=>fun _ _ _ _=>.bad
 | n+1=>fun q f as h=>match p.lookup f with
  | some d=>Gl ⟨AD p n q,AD p n true,q,EA⟩ d as h
  | none=>.bad
noncomputable abbrev cF(p:AI)(n F:Nat):CA:=⟨AD p n false,AD p n true,false,F⟩
end
section
open PySem
theorem A2{α:Type}{r:α}{C:Prop}(h:none=some r):C:=nomatch h
theorem Ko [Decidable p]{α:Type}{a b:Option α}{x:α}{G:Prop}(h:(if p then a else b)=some x)(t:p->a=some x->G)(e:¬ p->b=some x->G):G:=by
 by_cases c:p
 ·exact t c ((if_pos c).symm.trans h)
 ·exact e c ((if_neg c).symm.trans h)
theorem Cr{p:Prop}[Decidable p]{α:Type}{a:Option α}{x:α}(h:(if p then a else none)=some x):p/\a=some x:=Ko h (fun c q=>⟨c,q⟩) fun _ q=>A2 q
theorem PV{f g:Str}{α:Type}{a b:Option α}{x:α}{G:Prop}(h:(if (f==g)=true then a else b)=some x)(t:f=g->a=some x->G)(e:b=some x->G):G:=Ko h (fun c=>t (cA c)) fun _=>e
section
variable {α β:Type} {a:α} {h:A0} {l:Ah} {c:CA}
theorem Et{f:α->A0->B7 β}:(B7.ok a h).bind f=f a h:=rfl
theorem Jy{f:α->A0->SR}:(B7.ok a h).st l f=f a h:=rfl
theorem wT{f:α->A0->B7 β}{k:Str}:(B7.exc k h:B7 α).bind f=.exc k h:=rfl
theorem wU{f:α->A0->SR}{k:Str}:(B7.exc k h:B7 α).st l f=.exc k l h:=rfl
theorem BJ{k:Ah->A0->SR}:(SR.ok .next l h).turn k=k l h:=rfl
theorem Kq{k:Ah->A0->SR}{x:Str}:(SR.exc x l h).turn k=.exc x l h:=rfl
theorem Dt{k:Ah->A0->SR}{v:AV}:(SR.ok (.ret v) l h).turn k=.ok (.ret v) l h:=rfl
theorem kP{x y:SR}:Ho (.bool true) x y=x:=rfl
theorem IO{x y:SR}:Ho (.bool false) x y=y:=rfl
theorem rM{x y:B7 AV}:Kl (.bool true) x y=x:=rfl
theorem Rt{x y:B7 AV}:Kl (.bool false) x y=y:=rfl
theorem Kr{put:Ah->AV->Option Ah}{body:Ah->A0->SR}{src:AV}{f k:Nat}:AO put body src (f+1) k l h=(match Bj src k h with
  | none=>.bad
  | some r=>match r with
   | none=>.ok .next l h
   | some v=>match put l v with
    | some l'=>(body l' h).turn (AO put body src f (k+1))
    | none=>.bad):=rfl
theorem H8{body:AV->A0->B7 (Option AV)}{src:AV}{f i:Nat}{acc:List AV}:AG body src (f+1) i acc h=(match Bj src i h with
  | none=>.bad
  | some none=>.ok acc h
  | some (some v)=>(body v h).bind fun r h=>match r with
   | some x=>if acc.length<Ab then AG body src f (i+1) (acc++[x]) h else .bad
   | none=>AG body src f (i+1) acc h):=rfl
theorem XZ{p:Prop}[Decidable p]{x y:SR}:Ho (.bool (decide p)) x y=if p then x else y:=by
 by_cases hp:p
 ·rw[decide_eq_true hp,if_pos hp];rfl
 ·rw[decide_eq_false hp,if_neg hp];rfl
theorem FL{b:Bool}:G6 (some b) h=.ok (.bool b) h:=rfl
theorem Cl{b:AV}:Ey (some b) h=.ok b h:=rfl
theorem PW:O9 l (some h)=.ok .next l h:=rfl
theorem FM{b:Bool}:Rq (.bool b) h=.ok (.bool !b) h:=rfl
theorem SV{b:Int}:Ro (.int b) h=.ok (.int (-b)) h:=rfl
theorem EB{v:AV}:HF (.ok (.ret v) l h)=.ok v h:=rfl
theorem IP:HF (.ok .next l h)=.ok .none h:=rfl
theorem Jz{o:AV}{r:Ah}:BN (some o :: r) 0=some o:=rfl
theorem N4{o:Option AV}{r:Ah}{i:Nat}:BN (o :: r) (i+1)=BN r i:=rfl
theorem Eg:execSs c .nil l h=.ok .next l h:=rfl
theorem C1{s:S}{r:Ss}:execSs c (.cons s r) l h=(AQ c s l h).turn fun l h=>execSs c r l h:=rfl
theorem PX{x:X}:AQ c (.expr x) l h=(A1 c x l h).st l fun _ h=>.ok .next l h:=rfl
theorem Hp{x:X}:AQ c (.ret x) l h=(A1 c x l h).st l fun v h=>.ok (.ret v) l h:=rfl
theorem I6{i:Nat}{x:X}:AQ c (.asg i x) l h=(A1 c x l h).st l fun v h=>.ok .next (l.set i (some v)) h:=rfl
theorem Zy{o k x:X}:AQ c (.setitem o k x) l h=(A1 c x l h).st l fun v h=>(A1 c o l h).st l fun o h=>(A1 c k l h).st l fun k h=>O9 l (C7 o k v h):=rfl
theorem Hq{t:X}{x y:Ss}:AQ c (.iff t x y) l h=(A1 c t l h).st l fun v h=>Ho v (execSs c x l h) (execSs c y l h):=rfl
theorem Ru{i:Nat}{it:X}{b:Ss}:AQ c (.forr i it b) l h=(A1 c it l h).st l fun src h=>if c.q then .bad else AO (Jw i) (fun l h=>execSs c b l h) src c.fuel 0 l h:=rfl
theorem kQ{is:List Nat}{it:X}{b:Ss}:AQ c (.fort is it b) l h=(A1 c it l h).st l fun src h=>if c.q then .bad else AO (Jx is) (fun l h=>execSs c b l h) src c.fuel 0 l h:=rfl
theorem UV{is:List Nat}{x:X}:AQ c (.asgt is x) l h=(A1 c x l h).st l fun v h=>if c.q then .bad else Zx (Jx is l v) h:=rfl
theorem I7{k:Str}:AQ c (.raise k) l h=if c.q then .bad else .exc k l h:=rfl
theorem Zz{b:Ss}{hs:Hs}:AQ c (.tryx b hs) l h=if c.q then .bad else match execSs c b l h with
  | .exc k l h=>handle c hs k l h
  | r=>r:=rfl
theorem PY{ks:List Str}{i:Nat}{b:Ss}{r:Hs}{k:Str}:handle c (.cons ks i b r) k l h=if ks.contains k then (execSs c.quiet b (l.set i (some (.loc h.length))) (h++[.exc k])).noExc.forget else handle c r k l h:=rfl
theorem PZ{t x n:X}{i j a k:Nat}{ts:Xs}{y:List Nat}{b:Ss}:AQ c (.repl t i ts x j a k y n b) l h=(A1 c t l h).st l fun v h=>Ho v ((A1 c (.sub (.list ts) x) l h).st l fun z h=>
   (A1 c n (l.set i (some z)) h).st (l.set i (some z)) fun m h=>Rs ((Ob (l.set i (some z)) h a k).bind fun o=>Oa o y z m) fun r=>execSs c b ((l.set i (some z)).set j (some r)) h) (.ok .next l h):=rfl
theorem UW{a:Str}{o x:X}:AQ c (.setattr a o x) l h=(A1 c x l h).st l fun v h=>(A1 c o l h).st l fun o h=>O9 l (Fn a o v h):=rfl
theorem Q0:A1 c .none l h=.ok .none h:=rfl
theorem UX{b:Bool}:A1 c (.bool b) l h=.ok (.bool b) h:=rfl
theorem Gm{b:Int}:A1 c (.int b) l h=.ok (.int b) h:=rfl
theorem Rv{b:List Nat}:A1 c (.str b) l h=.ok (.str b) h:=rfl
theorem BO{i:Nat}:A1 c (.loc i) l h=Ey (BN l i) h:=rfl
theorem Ks{op:UK}{x y:X}:A1 c (.bin op x y) l h=(A1 c x l h).bind fun x h=>(A1 c y l h).bind fun y h=>Cz op x y h:=rfl
theorem UY{x:X}:A1 c (.neg x) l h=(A1 c x l h).bind Ro:=rfl
theorem Kt{x:X}:A1 c (.not x) l h=(A1 c x l h).bind Rq:=rfl
theorem Rw{x y:X}:A1 c (.and x y) l h=(A1 c x l h).bind fun v h=>Kl v (A1 c y l h) (.ok (.bool false) h):=rfl
theorem SW{x y:X}:A1 c (.or x y) l h=(A1 c x l h).bind fun v h=>Kl v (.ok (.bool true) h) (A1 c y l h):=rfl
theorem Ku{op:UF}{x y:X}:A1 c (.cmp op x y) l h=(A1 c x l h).bind fun x h=>(A1 c y l h).bind fun y h=>G6 (B9 h op x y) h:=rfl
theorem Kv{f:Str}{as:Xs}:A1 c (.call f as) l h=(evalXs c as l h).bind fun vs h=>c.F f vs h:=rfl
theorem Y0{b:BI}{as:Xs}:A1 c (.bi b as) l h=(evalXs c as l h).bind fun vs h=>if Rr b&&c.q then .bad else CI b vs h:=rfl
theorem UZ{x:X}{t:Ty}:A1 c (.isi x t) l h=(A1 c x l h).bind fun v h=>G6 (UU v t) h:=rfl
theorem ZA{x:X}{ks:List Str}:A1 c (.isx x ks) l h=(A1 c x l h).bind fun v h=>G6 (kO h v ks) h:=rfl
theorem ZB{x:X}:A1 c (.rev x) l h=(A1 c x l h).bind fun v h=>Kk v h:=rfl
theorem N5{o1 o2:UF}{x y z:X}:A1 c (.cmp2 o1 o2 x y z) l h=(A1 c x l h).bind fun x h=>(A1 c y l h).bind fun y h=>Km (B9 h o1 x y) h ((A1 c z l h).bind fun z h=>G6 (B9 h o2 y z) h):=rfl
theorem V0{as:Xs}:A1 c (.new as) l h=(evalXs c as l h).bind fun vs h=>(c.F "__init__" (.loc (h.length+1) :: vs) (HD h)).bind fun r h'=>HE (h.length+1) r h':=rfl
theorem pP{m:Str}{o:X}{as:Xs}:A1 c (.im m o as) l h=(A1 c o l h).bind fun v h=>if FJ m v h then (evalXs c as l h).bind fun vs h=>c.F m (v :: vs) h else .bad:=rfl
theorem Y1{m:BM}{o:X}{as:Xs}:A1 c (.bm m o as) l h=(A1 c o l h).bind fun v h=>if Gc m v h then (evalXs c as l h).bind fun vs h=>Cq m v vs h else .bad:=rfl
theorem V1{a:Str}{o:X}:A1 c (.attr a o) l h=(A1 c o l h).bind fun v h=>Ef a v h:=rfl
theorem Rx{x y z:X}:A1 c (.slice x y z) l h=(A1 c x l h).bind fun v h=>(A1 c y l h).bind fun x h=>(A1 c z l h).bind fun y h=>C0 v x y h:=rfl
theorem V2{e it:X}{k j:Nat}{cs:Xs}:A1 c (.comp e k j it cs) l h=(A1 c it l h).noExc.bind fun src h=>if c.q then .bad else
  (AG (fun v h=>(evalConds c cs (BC l k j v) h).noExc.bind fun b h=>pN b h (A1 c e (BC l k j v) h)) src c.fuel 0 [] h).bind fun vs h=>Au vs h:=rfl
theorem Ry{x y:X}:A1 c (.sub x y) l h=(A1 c x l h).bind fun x h=>(A1 c y l h).bind fun y h=>Cc x y h:=rfl
theorem V3{as:Xs}:A1 c (.tup as) l h=(evalXs c as l h).bind fun vs h=>if vs.length<=Ab then .ok (.tup vs) h else .bad:=rfl
theorem Q3{as:Xs}:A1 c (.list as) l h=(evalXs c as l h).bind fun vs h=>Au vs h:=rfl
theorem N6:A1 c .dict0 l h=.ok (.loc h.length) (h++[.dict [] 0]):=rfl
theorem Y2{as:Xs}:A1 c (.range as) l h=(evalXs c as l h).bind fun vs h=>Ey (FK vs) h:=rfl
theorem Gn:evalXs c .nil l h=.ok [] h:=rfl
theorem CY{x:X}{xs:Xs}:evalXs c (.cons x xs) l h=(A1 c x l h).bind fun v h=>(evalXs c xs l h).bind fun vs h=>.ok (v :: vs) h:=rfl
end
theorem N7{prog:AI}{f:Str}{d:Bz}(h:prog.lookup f=some d)(n:Nat)(q:Bool)(as:List AV)(hp:A0):AD prog (n+1) q f as hp=Gl ⟨AD prog n q,AD prog n true,q,EA⟩ d as hp:=by
 show (match prog.lookup f with|some d=>Gl ⟨AD prog n q,AD prog n true,q,EA⟩ d as hp|none=>.bad)=_
 rw[h]
end
end Mine.Internal
set_option backward.match.sparseCases true
namespace Mine.Internal
section
open PySem PySem.Spec PyProof.Rows
abbrev Sg:=List (Addr×Nat)
structure Bs where
 h₀:Heap
 C:Addr
 attrs:List Str
 mg:Str->Option Value
 excs:List (Str×List Str)
abbrev C8(h:Heap)(a:Addr)(cls:Value)(d:Data):Prop:=h.get? a=some { cls:=cls,data:=d }
mutual
noncomputable def RV(B:Bs)(h:Heap)(Z:Sg):AV->Value->Prop
 | .none,v=>v=.none
 | .bool b,v=>v=.bool b
 | .int i,v=>∃ t,v=.int i t
 | .str s,v=>∃ t,v=.str ⟨s.toArray⟩ t
 | .tup xs,v=>∃ a ws n,v=.ref a/\C8 h a (.type "tuple") (.seq ws n)/\RVs B h Z xs ws.toList
 | .loc n,v=>∃ a off,v=.ref a/\Z[n]?=some (a,off)
 | .rng b,v=>∃ r t u x,v=.ref r/\IsRange h r 0 b 1 t u x
 | .scr xs,v=>∃ a items,v=.ref a/\B.h₀.IsList a items/\RIs xs items.toList
noncomputable def RVs(B:Bs)(h:Heap)(Z:Sg):List AV->List Value->Prop
 | [],[]=>True
 | x :: xs,w :: ws=>RV B h Z x w/\RVs B h Z xs ws
 | _,_=>False
noncomputable def RIs:List Int->List Value->Prop
 | [],[]=>True
 | x :: xs,w :: ws=>(∃ t,w=.int x t)/\RIs xs ws
 | _,_=>False
end
noncomputable def BQ(o:Obj):Prop:=match o.data with
 | .seq _ _=>o.cls=.type "tuple"
 | .fields _=>o.cls=.type "range"
 | _=>False
noncomputable def HG(o:Obj)(r:Option Obj):Prop:=r=some o\/((∃ es ep,o.data=.dict es ep)/\∃ sl,r=some { o with slots:=sl })
structure AN (Z Z':Sg) (X:List Addr) (h h':Heap):Prop where
 ext:∃ τ,Z'=Z++τ/\∀ p∈τ,h.get? p.1=none
 fix:∀ b o,h.get? b=some o->BQ o->h'.get? b=some o
 oth:∀ b o,h.get? b=some o->b∉Z.map (·.1)->b∉X->HG o (h'.get? b)
 ex:∀ b o,h.get? b=some o->∃ o',h'.get? b=some o'
theorem HG.refl:HG o (some o):=.inl rfl
theorem HG.trans(h1:HG o r)(e:r=some o')(h2:HG o' r'):HG o r':=by
 subst e
 rcases h1 with h1|⟨hc,sl,h1⟩
 ·cases h1;exact h2
 ·cases h1
  rcases h2 with h2|⟨_,sl',h2⟩
  ·exact .inr ⟨hc,sl,h2⟩
  ·exact .inr ⟨hc,sl',h2⟩
theorem HG.get(h:HG o r):∃ o',r=some o'/\o'.cls=o.cls/\o'.data=o.data/\o'.dict=o.dict:=by
 rcases h with h|⟨_,sl,h⟩
 ·exact⟨o,h,rfl,rfl,rfl⟩
 ·exact⟨_,h,rfl,rfl,rfl⟩
theorem AN.refl(Z:Sg)(X:List Addr)(h:Heap):AN Z Z X h h:=
 ⟨⟨[],by simp,fun _ hp=>nomatch hp⟩,fun _ _ e _=>e,fun b o e _ _=>by rw[e];exact .refl,fun b o e=>⟨o,e⟩⟩
theorem AN.trans{X:List Addr}(x:AN Z₁ am X ax bq)(y:AN am br X bq bu):AN Z₁ br X ax bu:=by
 refine A9 x.ext fun τ A6 hτ=>?_;subst A6
 refine A9 y.ext fun τ' A6 hτ'=>?_;subst A6
 refine⟨⟨τ++τ',by simp,fun p hp=>?_⟩,fun b o e f=>y.fix b o (x.fix b o e f) f,fun b o e h1 h2=>?_,fun b o e=>(x.ex b o e).elim fun o' e'=>y.ex b o' e'⟩
 ·rcases List.mem_append.mp hp with hp|hp
  ·exact hτ p hp
  ·rcases hq:ax.get? p.1 with _|o
   case none=>rfl
   case some=>
    refine xE (x.ex _ o hq) fun o' e'=>?_
    rw[hτ' p hp] at e';cases e'
 ·have n:=x.oth b o e h1 h2
  refine A9 n.get fun o' e' _=>?_
  refine n.trans e' (y.oth b o' e' ?_ h2)
  rw[aU,dX]
  rintro (hb|hb)
  ·exact h1 hb
  ·refine A9 (List.mem_map.mp hb) fun p hp A6=>?_;subst A6
   rw[hτ p hp] at e;cases e
theorem AN.drop{X Y:List Addr}(x:AN Z Z' X h h')(hs:∀ a∈X,a∈Y\/h.get? a=none):AN Z Z' Y h h':=
 ⟨x.ext,x.fix,fun b o e h1 h2=>x.oth b o e h1 fun hb=>(hs b hb).elim h2 (fun q=>by rw[q] at e;cases e),x.ex⟩
theorem AN.more{X Y:List Addr}(x:AN Z Z' X h h')(hs:∀ a∈X,a∈Y):AN Z Z' Y h h':=
 ⟨x.ext,x.fix,fun b o e h1 h2=>x.oth b o e h1 fun hb=>h2 (hs b hb),x.ex⟩
theorem AN.look{X:List Addr}(x:AN Z Z' X h h'){n:Nat}(e:Z[n]?=some p):Z'[n]?=some p:=by
 refine A9 x.ext fun τ A6 _=>?_;subst A6
 rw[bB (List.getElem?_eq_some_iff.mp e).1];exact e
theorem SX{X:List Addr}(x:AN Z Z' X h h')(o:C8 h a c d)(f:∀ o:Obj,o.cls=c->o.data=d->BQ o):C8 h' a c d:=
 x.fix a _ o (f _ rfl rfl)
theorem Go(hc:o.cls=.type "tuple")(hd:o.data=.seq ws n):BQ o:=by
 unfold BQ;rw[hd];exact hc
theorem N8(hd:o.data=.fields ws)(hc:o.cls=.type "range"):BQ o:=by
 unfold BQ;rw[hd];exact hc
abbrev Gp(h h':Heap):Prop:=∀ b o,h.get? b=some o->BQ o->h'.get? b=some o
abbrev HH(Z Z':Sg):Prop:=∀ (n:Nat) p,Z[n]?=some p->Z'[n]?=some p
mutual
theorem RV.mono(g:Gp h h')(k:HH Z Z'):∀ (x:AV) (v:Value),RV B h Z x v->RV B h' Z' x v
 | .none,v,r=>r
 | .bool b,v,r=>r
 | .int i,v,r=>r
 | .str s,v,r=>r
 | .tup xs,v,r=>B2 r fun a ws n e o rs=>⟨a,ws,n,e,g a _ o (Go rfl rfl),RVs.mono g k xs ws.toList rs⟩
 | .loc n,v,r=>Av r fun a off e l=>⟨a,off,e,k n _ l⟩
 | .rng _,v,r=>F7 r fun r t u x e ho=>⟨r,t,u,x,e,g r _ ho (N8 rfl rfl)⟩
 | .scr xs,v,r=>r
theorem RVs.mono(g:Gp h h')(k:HH Z Z'):∀ (xs:List AV) (vs:List Value),RVs B h Z xs vs->RVs B h' Z' xs vs
 | [],[],r=>r
 | x :: xs,w :: ws,r=>⟨RV.mono g k x w r.1,RVs.mono g k xs ws r.2⟩
 | [],_ :: _,r=>r.elim
 | _ :: _,[],r=>r.elim
end
theorem RV.grows{X:List Addr}(g:AN Z Z' X h h')(x:AV)(v:Value)(r:RV B h Z x v):RV B h' Z' x v:=RV.mono g.fix (fun _ _=>g.look) x v r
theorem RVs.grows{X:List Addr}(g:AN Z Z' X h h')(x:List AV)(v:List Value)(r:RVs B h Z x v):RVs B h' Z' x v:=RVs.mono g.fix (fun _ _=>g.look) x v r
theorem RV.fixes(g:Gp h h')(x:AV)(v:Value)(r:RV B h Z x v):RV B h' Z x v:=RV.mono g (fun _ _ e=>e) x v r
theorem RVs.fixes(g:Gp h h')(x:List AV)(v:List Value)(r:RVs B h Z x v):RVs B h' Z x v:=RVs.mono g (fun _ _ e=>e) x v r
theorem RVs.length:∀ {xs:List AV} {vs:List Value},RVs B h Z xs vs->xs.length=vs.length
 | [],[],_=>rfl
 | _ :: _,_ :: _,r=>by simp[RVs.length r.2]
 | [],_ :: _,r=>r.elim
 | _ :: _,[],r=>r.elim
theorem RVs.nil(r:RVs B h Z [] vs):vs=[]:=by
 rcases vs with _|⟨w,ws⟩
 case nil=>rfl
 case cons=>exact r.elim
theorem RVs.cons(r:RVs B h Z (x :: xs) vs):∃ w ws,vs=w :: ws/\RV B h Z x w/\RVs B h Z xs ws:=by
 rcases vs with _|⟨w,ws⟩
 case nil=>exact r.elim
 case cons=>exact⟨w,ws,rfl,r⟩
theorem RVs.one(r:RVs B h Z [x] vs):∃ w,vs=[w]/\RV B h Z x w:=by
 refine AF r.cons fun w ws A6 r1 r2=>?_;subst A6
 rcases r2.nil with rfl
 exact⟨w,rfl,r1⟩
theorem RVs.size{ws:Array Value}(r:RVs B h Z xs ws.toList):xs.length=ws.size:=r.length.trans bH
theorem RVs.get:∀ {xs:List AV} {vs:List Value},RVs B h Z xs vs->∀ {i:Nat} {x:AV},xs[i]?=some x->∃ v,vs[i]?=some v/\RV B h Z x v
 | [],[],_,i,x,e=>by simp at e
 | x :: xs,w :: ws,r,0,y,e=>by
  simp at e;subst e;exact⟨w,by simp,r.1⟩
 | x :: xs,w :: ws,r,i+1,y,e=>by
  simp at e
  refine A9 (RVs.get r.2 e) fun v h1 h2=>?_
  exact⟨v,by simpa using h1,h2⟩
 | [],_ :: _,r,_,_,_=>r.elim
 | _ :: _,[],r,_,_,_=>r.elim
theorem RVs.append:∀ {xs:List AV} {vs:List Value} {ys:List AV} {ws:List Value},RVs B h Z xs vs->RVs B h Z ys ws->RVs B h Z (xs++ys) (vs++ws)
 | [],[],_,_,_,r=>r
 | _ :: _,_ :: _,_,_,q,r=>⟨q.1,RVs.append q.2 r⟩
 | [],_ :: _,_,_,q,_=>q.elim
 | _ :: _,[],_,_,q,_=>q.elim
noncomputable def EZ(w:World):Bc->Int
 | .str s=>hashStr w ⟨s.toArray⟩
 | .pair a b=>reduceHash (Builtin.Tuple.tupleHashOf [hashInt a,hashInt b])
noncomputable def Ed(w:World)(B:Bs)(h:Heap)(Z:Sg):List (Bc×AV)->List DictEntry->Prop
 | [],[]=>True
 | p :: ps,e :: es=>(e.hash=EZ w p.1/\RV B h Z p.1.av e.key/\RV B h Z p.2 e.val)/\Ed w B h Z ps es
 | _,_=>False
structure vL (B:Bs) (h:Heap) (Z:Sg) (fs:List (Str×AV)) (mA:Str->Option Value):Prop where
 has:∀ y av,fs.lookup y=some av->∃ v,mA y=some v/\RV B h Z av v
 non:∀ y,fs.lookup y=none->mA y=none
 within:PySem.Within mA B.attrs
noncomputable def RO(w:World)(B:Bs)(h:Heap)(Z:Sg)(a:Addr)(off:Nat):Ay->Prop
 | .list xs=>∃ ws n,C8 h a (.type "list") (.seq ws n)/\RVs B h Z xs ws.toList/\xs.length<=sizeLine
 | .dict kvs ep=>∃ es,C8 h a (.type "dict") (.dict es (off+ep))/\Ed w B h Z kvs es.toList/\(kvs.map (·.1)).Nodup/\(∀ p∈kvs,∀ q∈kvs,p.1.sort=q.1.sort)/\kvs.length<=sizeLine
 | .inst k=>∃ o gx,h.get? a=some o/\o.cls=.ref B.C/\(∀ c,o.data≠.cls c)/\o.dict=some off/\off≠a/\Z[k]?=some (off,gx)/\∀ v,o.data≠.prim v
 | .ns fs=>∃ mA,h.Ns1 a mA/\vL B h Z fs mA
 | .exc k=>∃ o C vs,h.get? a=some o/\o.cls=.ref C/\B.mg k=some (.ref C)/\o.data=.fields vs/\(B.excs.lookup k).isSome=true
structure St (w:World) (B:Bs) (Z:Sg) (hp:A0) (h:Heap):Prop where
 len:Z.length=hp.length
 nd:(Z.map (·.1)).Nodup
 obj:∀ (n:Nat) a off o,Z[n]?=some (a,off)->hp[n]?=some o->RO w B h Z a off o
 base:B.h₀.StaysIn h
 new:∀ p∈Z,B.h₀.get? p.1=none
theorem Ed.mono(g:Gp h h')(k:HH Z Z'):∀ {ps:List (Bc×AV)} {es:List DictEntry},Ed w B h Z ps es->Ed w B h' Z' ps es
 | [],[],r=>r
 | _ :: _,_ :: _,r=>⟨⟨r.1.1,RV.mono g k _ _ r.1.2.1,RV.mono g k _ _ r.1.2.2⟩,Ed.mono g k r.2⟩
 | [],_ :: _,r=>r.elim
 | _ :: _,[],r=>r.elim
theorem Ed.grows{X:List Addr}(g:AN Z Z' X h h'){ps:List (Bc×AV)}(r:Ed w B h Z ps es):Ed w B h' Z' ps es:=r.mono g.fix (fun _ _=>g.look)
theorem Ed.length:∀ {ps:List (Bc×AV)} {es:List DictEntry},Ed w B h Z ps es->ps.length=es.length
 | [],[],_=>rfl
 | _ :: _,_ :: _,r=>by simp[Ed.length r.2]
 | [],_ :: _,r=>r.elim
 | _ :: _,[],r=>r.elim
theorem Ed.append:∀ {ps:List (Bc×AV)} {es:List DictEntry} {qs:List (Bc×AV)} {fs:List DictEntry},Ed w B h Z ps es->Ed w B h Z qs fs->Ed w B h Z (ps++qs) (es++fs)
 | [],[],_,_,_,r=>r
 | _ :: _,_ :: _,_,_,q,r=>⟨q.1,Ed.append q.2 r⟩
 | [],_ :: _,_,_,q,_=>q.elim
 | _ :: _,[],_,_,q,_=>q.elim
theorem Ed.get:∀ {ps:List (Bc×AV)} {es:List DictEntry},Ed w B h Z ps es->∀ {i:Nat} {p:Bc×AV},ps[i]?=some p ->
  ∃ e,es[i]?=some e/\e.hash=EZ w p.1/\RV B h Z p.1.av e.key/\RV B h Z p.2 e.val
 | [],[],_,i,x,e=>by simp at e
 | x :: xs,w :: ws,r,0,y,e=>by
  simp at e;subst e;exact⟨w,by simp,r.1⟩
 | x :: xs,w :: ws,r,i+1,y,e=>by
  simp at e
  refine A9 (Ed.get r.2 e) fun v h1 h2=>?_
  exact⟨v,by simpa using h1,h2⟩
 | [],_ :: _,r,_,_,_=>r.elim
 | _ :: _,[],r,_,_,_=>r.elim
theorem V4{h h':Heap}(e:h'.get? a=h.get? a)(x:h.Ns1 a m):h'.Ns1 a m:=by
 unfold Heap.Ns1 at x |-
 rw[e];exact x
theorem M2{h:Heap}(x:h.Ns1 a m):∃ ob,h.get? a=some ob/\¬ BQ ob:=by
 refine B2 x.ns fun o es ep ho hd _=>?_
 exact⟨o,ho,by unfold BQ;rw[hd];exact fun f=>f⟩
theorem Ht(h:o.cls=.ref C):¬ BQ o:=by
 unfold BQ
 rw[h]
 rcases o.data with _|_<;>first|exact fun e=>e|exact fun e=>nomatch e
theorem RO.mono{h h':Heap}(g:Gp h h')(k:HH Z Z')(e:h'.get? a=h.get? a):∀ {o:Ay},RO w B h Z a off o->RO w B h' Z' a off o
 | .list xs,r=>AF r fun ws n o r q=>⟨ws,n,(e.trans o),RVs.mono g k _ _ r,q⟩
 | .dict kvs ep,r=>F5 r fun es o r q=>⟨es,(e.trans o),r.mono g k,q⟩
 | .inst j,r=>LX r fun o gx h1 h2 h3 h4 h5 h6 h7=>⟨o,gx,e.trans h1,h2,h3,h4,h5,k _ _ h6,h7⟩
 | .ns fs,r=>A9 r fun mA h1 h2=>⟨mA,V4 e h1,fun y av q=>A9 (h2.has y av q) fun v a b=>⟨v,a,RV.mono g k _ _ b⟩,h2.non,h2.within⟩
 | .exc _,r=>C4 r fun o C vs h1 h2=>⟨o,C,vs,e.trans h1,h2⟩
theorem RO.keep{X:List Addr}{off:Nat}(g:AN Z Z' X h h')(e:h'.get? a=h.get? a)(r:RO w B h Z a off o):RO w B h' Z' a off o:=r.mono g.fix (fun _ _=>g.look) e
theorem RO.fixes(g:Gp h h')(e:h'.get? a=h.get? a)(r:RO w B h Z a off o):RO w B h' Z a off o:=r.mono g (fun _ _ e=>e) e
theorem RO.there:∀ {o:Ay},RO w B h Z a off o->∃ ob,h.get? a=some ob/\¬ BQ ob
 | .list xs,r=>Av r fun ws n ho r=>⟨_,ho,fun f=>absurd (Value.type.inj f) (by decide)⟩
 | .dict kvs ep,r=>A9 r fun es ho r=>⟨_,ho,fun f=>f⟩
 | .inst j,r=>AF r fun o gx h1 h2 _=>⟨o,h1,Ht h2⟩
 | .ns fs,r=>A9 r fun mA h1 h2=>M2 h1
 | .exc _,r=>B2 r fun o C vs h1 h2 _=>⟨o,h1,Ht h2⟩
theorem St.there(S:St w B Z hp h)(hm:p∈Z):∃ ob,h.get? p.1=some ob/\¬ BQ ob:=by
 refine xE (List.mem_iff_getElem.mp hm) fun n A6=>?_;refine xE A6 fun hn e=>?_
 have e':Z[n]?=some (p.1,p.2):=by rw[aF hn,e]
 have hl:n<hp.length:=S.len▸hn
 exact(S.obj n p.1 p.2 hp[n] e' (aF hl)).there
theorem AN.but{X:List Addr}(hs:∀ c o,c≠b->h.get? c=some o->h'.get? c=some o)(hf:∀ o,h.get? b=some o->¬ BQ o)(hm:b∈Z.map (·.1)\/b∈X)(io:h'.get? b=some ob):AN Z Z X h h':=by
 refine⟨⟨[],(dC _).symm,fun _ hp=>nomatch hp⟩,fun c o e f=>hs c o (fun q=>hf o (q▸e) f) e,fun c o e h1 h2=>?_,fun c o e=>?_⟩
 ·rw[hs c o (fun q=>by subst q;exact hm.elim h1 h2) e];exact .refl
 ·by_cases q:c=b
  ·subst q;exact⟨_,io⟩
  ·exact⟨o,hs c o q e⟩
theorem AN.sameBut{X:List Addr}(hs:Heap.SameBut b h h')(hf:∀ o,h.get? b=some o->¬ BQ o)(hm:b∈Z.map (·.1)\/b∈X)(io:h'.get? b=some ob):AN Z Z X h h':=
 .but (fun c o q e=>(hs.2 c q).trans e) hf hm io
theorem AN.push{X:List Addr}(o:Obj):AN Z Z X h (h.push o):=
 ⟨⟨[],by simp,fun _ hp=>nomatch hp⟩,fun c o' e _=>aV o e,fun c o' e _ _=>by rw[aV o e];exact .refl,fun c o' e=>⟨o',aV o e⟩⟩
theorem Bk{X:List Addr}(hk:∀ b o,h.get? b=some o->h'.get? b=some o):AN Z Z X h h':=
 ⟨⟨[],by simp,fun _ hp=>nomatch hp⟩,fun c o e _=>hk c o e,fun c o e _ _=>by rw[hk c o e];exact .refl,fun c o e=>⟨o,hk c o e⟩⟩
theorem IQ(h:Heap)(o:Obj):(h.push o).objs.size=h.objs.size+1:=by rcases h with ⟨_,_⟩;simp[Heap.push]
theorem St.step{X:List Addr}(S:St w B Z hp h)(g:AN Z Z X h h')(same:∀ p∈Z,h'.get? p.1=h.get? p.1)(hb:B.h₀.StaysIn h'):St w B Z hp h':=
 ⟨S.len,S.nd,fun n a off o e e'=>(S.obj n a off o e e').keep g (same (a,off) (aX e)),hb,S.new⟩
theorem St.keep{Z:Sg}(S:St w B Z hp h)(hk:∀ b o,h.get? b=some o->h'.get? b=some o):St w B Z hp h':=
 S.step (X:=[]) (Bk hk) (fun p hp=>by refine A9 (S.there hp) fun ob e _=>?_;rw[hk _ _ e,e]) fun b o e=>hk b o (S.base b o e)
theorem St.push{Z:Sg}(S:St w B Z hp h)(o:Obj):St w B Z hp (h.push o):=
 S.step (X:=[]) (.push o) (fun p hp=>by refine A9 (S.there hp) fun ob e _=>?_;rw[aV o e,e]) fun b o' e=>aV o (S.base b o' e)
theorem St.sameBut{X:List Addr}(S:St w B Z hp h)(hs:Heap.SameBut b h h')(hf:∀ o,h.get? b=some o->¬ BQ o)(hm:b∉Z.map (·.1))(hb:B.h₀.get? b=none)(hX:b∈X)(io:h'.get? b=some ob):St w B Z hp h'/\AN Z Z X h h':=by
 have g:AN Z Z X h h':=.sameBut hs hf (.inr hX) io
 refine⟨S.step g (fun p hp=>hs.2 p.1 fun q=>hm (q▸cQ hp)) fun c o e=>?_,g⟩
 have:c≠b:=fun q=>by subst q;rw[hb] at e;cases e
 exact(hs.2 c this).trans (S.base c o e)
theorem St.fresh(S:St w B Z hp h):h.objs.size∉Z.map (·.1):=fun hm=>by
 refine A9 (List.mem_map.mp hm) fun p hp e=>?_
 refine A9 (S.there hp) fun ob e' _=>?_
 have h1:p.1<h.objs.size:=cX e'
 exact absurd e (cE h1)
theorem St.adopt(S:St w B Z hp h)(hn:a∉Z.map (·.1))(hb:B.h₀.get? a=none)
  (hr:HH Z (Z++[(a,off)])->RO w B h (Z++[(a,off)]) a off ao):St w B (Z++[(a,off)]) (hp++[ao]) h:=by
 have k:HH Z (Z++[(a,off)]):=fun n p e=>by
  rw[bB (List.getElem?_eq_some_iff.mp e).1];exact e
 refine⟨by rw[aC,aC,S.len];rfl,?_,fun n b gx o' e e'=>?_,S.base,fun p hp=>?_⟩
 ·rw[aU,dU]
  refine⟨S.nd,dE _ _,fun x hx y hy e=>?_⟩
  cases List.mem_singleton.mp hy
  exact hn ((show x=a from e)▸hx)
 ·rcases Nat.lt_trichotomy n Z.length with hl|hl|hl
  ·rw[bB hl] at e
   rw[bB (S.len▸hl)] at e'
   exact(S.obj n b gx o' e e').mono (fun _ _ x _=>x) k rfl
  ·have e1:(Z++[(a,off)])[n]?=some (a,off):=by rw[hl];exact aY
   have e2:(hp++[ao])[n]?=some ao:=by rw[hl,S.len];exact aY
   rw[e1] at e;rw[e2] at e'
   cases e;cases e'
   exact hr k
  ·exact absurd (List.getElem?_eq_some_iff.mp e).1 (by rw[aC,bV];exact dP hl)
 ·rcases List.mem_append.mp hp with hp|hp
  ·exact S.new p hp
  ·rcases List.mem_singleton.mp hp with rfl;exact hb
theorem AN.adopt{X:List Addr}(g:AN Z Z' X h h')(ha:h.get? a=none):AN Z (Z'++[(a,off)]) X h h':=by
 refine A9 g.ext fun τ A6 hτ=>?_;subst A6
 refine⟨⟨τ++[(a,off)],(bC ..),fun p hp=>?_⟩,g.fix,g.oth,g.ex⟩
 rcases List.mem_append.mp hp with hp|hp
 ·exact hτ p hp
 ·rcases List.mem_singleton.mp hp with rfl;exact ha
theorem Eu(h:Heap):h.get? h.objs.size=none:=by
 rcases hq:h.get? h.objs.size with _|o'
 case none=>rfl
 case some=>exact absurd (cX hq) (fG _)
theorem St.alloc{X:List Addr}{hp:A0}(S:St w B Z hp h)(o:Obj)(off:Nat)(ao:Ay)
  (hr:AN Z (Z++[(h.objs.size,off)]) X h (h.push o)->RO w B (h.push o) (Z++[(h.objs.size,off)]) h.objs.size off ao) :
  St w B (Z++[(h.objs.size,off)]) (hp++[ao]) (h.push o)/\AN Z (Z++[(h.objs.size,off)]) X h (h.push o):=
 have g:=(AN.push (Z:=Z) (X:=X) o).adopt (Eu h) (off:=off)
 ⟨(S.push o).adopt S.fresh S.base.fresh fun _=>hr g,g⟩
theorem St.upd{X:List Addr}(S:St w B Z hp h)(hn:Z[n]?=some (a,off))(hs:∀ c o,c≠a->h.get? c=some o->h'.get? c=some o)(ao:Ay)
  {ob':Obj} (io:h'.get? a=some ob') (hr:AN Z Z X h h'->RO w B h' Z a off ao):St w B Z (hp.set n ao) h'/\AN Z Z X h h':=by
 have u0:=aX hn
 refine A9 (S.there u0) fun ob ck hf=>?_
 have g:AN Z Z X h h':=.but hs (fun o e=>by rw[ck] at e;cases e;exact hf) (.inl (cQ (f:=(·.1)) u0)) io
 refine⟨⟨by simp[S.len],S.nd,fun k b gx o' e e'=>?_,fun c o e=>?_,S.new⟩,g⟩
 ·by_cases hk:k=n
  ·subst hk
   rw[hn] at e;cases e
   have hl:k<hp.length:=S.len▸(List.getElem?_eq_some_iff.mp hn).1
   rw[fD hl] at e'
   cases e'
   exact hr g
  ·rw[fN (gF hk)] at e'
   have u1:b≠a:=fun q=>by
    have h1:(Z.map (·.1))[k]?=some b:=by rw[aK,e];rfl
    have h2:(Z.map (·.1))[n]?=some a:=by rw[aK,hn];rfl
    exact hk ((dW (List.getElem?_eq_some_iff.mp h1).1 S.nd).mp (by rw[h1,h2,q]))
   refine A9 (S.there (aX e)) fun ob e2 _=>?_
   exact(S.obj k b gx o' e e').keep g ((hs b ob u1 e2).trans e2.symm)
 ·have:c≠a:=fun q=>by subst q;have:=S.new _ u0;rw[this] at e;cases e
  exact hs c o this (S.base c o e)
end
end Mine.Internal
set_option maxRecDepth 100000
namespace Mine.Internal
section
open PySem PyProof.Rows
noncomputable def Ei:List Value:=[.type "ValueError",.type "Exception",.type "BaseException",.type "object"]
theorem Oc:typeLookup (.type "ValueError") "__class__"=pure (some (.builtin "object.__class__")):=by rw[jL,gJ];kernel_rfl
inductive ED (h:Heap):List Value->Prop
 | base:ED h Ei
 | own {A:Addr} {c0:Value} {dd:Option Addr} {cd:ClassData} {sl:Array (Option Value)} {mA:Str->Option Value} {tl:List Value} (hA:h.get? A=some { cls:=c0,dict:=dd,data:=.cls cd,slots:=sl }) (hN:h.Ns cd.ns mA) (hq:mA "__class__"=none) (T:ED h tl):ED h (.ref A :: tl)
theorem ED.keeps{h h':Heap}{tl:List Value}(T:ED h tl)(hk:∀ b o,h.get? b=some o->h'.get? b=some o):ED h' tl:=by
 induction T with
 | base=>exact .base
 | own hA hN hq _ ih=>exact .own (hk _ _ hA) (hN.keeps hk) hq ih
section
variable {prog:Program} {w:World} {A:Around} {E:Value->Shared->Prop} {h:Heap} {g:Array GenState} {d:Drawn} {t:Nat} {os:OsState} {a:Addr} {o:Obj}
 {nm q:Str} {C N:Addr} {bs bm:List Value} {hdct:Bool} {sn:List Str} {sub:List Value} {ab:Bool} {col:Option Bool} {dd:Option Addr} {k0 k1 k2 k3 k5:Option Value} {gg:String} {mN:Str->Option Value}
theorem N9{M:Model}{tl:List Value}{Q:Option Value->Shared->Prop}(T:ED h tl)(hq:Q (some (.builtin "object.__class__")) ⟨h,g,d,t,os⟩):wpAny M A (lookupAlong tl "__class__") Q E ⟨h,g,d,t,os⟩:=by
 induction T with
 | base=>
  have u0:lookupAlong Ei "__class__"=pure (some (.builtin "object.__class__")):=by
   have t0:=Oc
   rw[typeLookup_eq,F.attrBase_ValueError.mro] at t0;exact t0
  rw[u0];exact aJ hq
 | own hA hN hni _ ih=>
  rw[lookupAlong_cons]
  refine aA (wpAny_classOwn_cls hA hN ?_)
  rw[hni]
  exact ih
theorem Q4{M:Model}{Q:Option Value->Shared->Prop}(hC:h.get? C=some (excClassObj nm q C N bs bm hdct sn sub ab col dd k0 k1 k2 k3 k5 gg))(hT:ED h (.ref C :: bm))(hq:Q (some (.builtin "object.__class__")) ⟨h,g,d,t,os⟩):wpAny M A (typeLookup (.ref C) "__class__") Q E ⟨h,g,d,t,os⟩:=by
 rw[typeLookup_eq]
 exact aA (wpAny_mroOf_exc hC (N9 hT hq))
theorem Od{R:Result->Shared->Prop}(hC:h.get? C=some (excClassObj nm q C N bs bm hdct sn sub ab col dd k0 k1 k2 k3 k5 gg))(T:OwnTailQ h Ei bm)(hx:h.get? a=some o)(hc:o.cls=.ref C)(hq:R (.ok (.ret (.ref C))) ⟨h,g,d,t,os⟩):
  codeAny (model prog w) A (.call (.builtin "getset_descriptor.__get__") ⟨[.builtin "object.__class__",.ref a,.ref C],[]⟩) R ⟨h,g,d,t,os⟩:=by
 have u0:(⟨h,g,d,t,os⟩:Shared).TypeIs (.builtin "object.__class__") "getset_descriptor":=gN
 have u1:(Value.ref C :: bm).contains (.type (".".intercalate ("object.__class__".cutAt '.').dropLast))=true:=by
  rw[F.owner_object_class,fY,T.tail.hasType (b:=true) (by decide)];rfl
 refine codeAny_call_builtin F.slot_gs_get.plain F.entry_gs_get (F.slot_gs_get.check _ _ _ _ _ _ _ _ u0 (F.args_gs_get _ _ _) ?_)
 repeat (any_goals (first|assumption|(with_reducible refine bP hx ?_;rw[hc])|(with_reducible refine dK hC ?_;rw[u1])|wp_step))
 refine⟨iL _ (by decide +kernel),jM F.entry_object_class ?_⟩
 repeat (any_goals (first|assumption|(with_reducible refine bP hx ?_;rw[hc])|wp_step))
theorem LG{tk:Tok}{Q:Fin->Shared->Prop}(hC:h.get? C=some (excClassObj nm q C N bs bm hdct sn sub ab col dd k0 k1 k2 k3 k5 gg))(T:OwnTailQ h Ei bm)(hT:ED h (.ref C :: bm))(hx:h.get? a=some o)(hc:o.cls=.ref C)(hq:Q (.done (.ret (.ref C))) ⟨h,g,d,t,os⟩):
  wpAny (model prog w) A (Builtin.«object.__getattribute__» ⟨[.ref a,.str "__class__" tk],[]⟩) Q E ⟨h,g,d,t,os⟩:=by
 have u0:(⟨h,g,d,t,os⟩:Shared).TypeIs (.builtin "object.__class__") "getset_descriptor":=gN
 have f5:=gN
 have f6:=F.slot_gs_get.lookup
 have f7:=F.slot_gs_set.lookup
 repeat (any_goals (first|assumption|(with_reducible refine bP hx ?_;rw[hc])|with_reducible refine Q4 hC hT ?_|wp_step))
 refine Od hC T hx hc ?_
 repeat (any_goals (first|assumption|wp_step))
theorem Q5{tk:Tok}{Q:Value->Shared->Prop}(hC:h.get? C=some (excClassObj nm q C N bs bm hdct sn sub ab col dd k0 k1 k2 k3 k5 gg))(hN:h.Ns N mN)(hmN:∀ n∈quietNames,mN n=none)(T:OwnTailQ h Ei bm)(hT:ED h (.ref C :: bm))(hx:h.get? a=some o)(hc:o.cls=.ref C)(hq:Q (.ref C) ⟨h,g,d,t,os⟩):
  wpAny (model prog w) A (getAttrBy (.ref a) (.str "__class__" tk) false) Q E ⟨h,g,d,t,os⟩:=by
 have FB:=F.attrBase_ValueError
 have f3:=FB.ga.bind (.ref a)
 have u2:(Value.builtin "BaseException.__getattribute__"==Value.builtin "object.__getattribute__")=false:=by decide +kernel
 have u3:(onTheHeap (Value.ref C)&&Value.builtin "BaseException.__getattribute__"==Value.builtin "object.__getattribute__")=false:=by rw[u2];rfl
 have u0:("__getattribute__":Str)∈quietNames:=.tail _ (.head _)
 have u1:("__getattr__":Str)∈quietNames:=.tail _ (.tail _ (.head _))
 repeat (any_goals (first|assumption|(with_reducible refine bP hx ?_;rw[hc])|with_reducible refine wpAny_typeLookup_tailQ u0 hC hN hmN T FB.mro FB.ga.lookup ?_|with_reducible refine wpAny_typeLookup_tailQ u1 hC hN hmN T FB.mro FB.noGetattr ?_|wp_step))
 refine codeAny_call_builtin FB.ga.plain F.entry_bexc_ga (wpAny_check_ga_own FB hC T hx hc (LG hC T hT hx hc ?_))
 repeat (any_goals (first|assumption|wp_step))
theorem Na{Q:Option Value->Shared->Prop}(hC:h.get? C=some (excClassObj nm q C N bs bm hdct sn sub ab col dd k0 k1 k2 k3 k5 gg))(hN:h.Ns N mN)(hmN:∀ n∈quietNames,mN n=none)(T:OwnTailQ h Ei bm)(hT:ED h (.ref C :: bm))(hx:h.get? a=some o)(hc:o.cls=.ref C)(hq:Q (some (.ref C)) ⟨h,g,d,t+1,os⟩):
  wpAny (model prog w) A (getAttr? (.ref a) "__class__") Q E ⟨h,g,d,t,os⟩:=by
 unfold getAttr? getAttrBy?
 repeat (any_goals (first|assumption|with_reducible apply Q5 hC hN hmN T hT hx hc|wp_step))
theorem Q6{D N':Addr}{nm' q':Str}{bs' bm':List Value}{jg:Bool}{sn':List Str}{jt:List Value}{ab':Bool}{jy:Option Bool}{dd':Option Addr}{l0 l1 l2 l3 l5:Option Value}{ir:String}{dep:Int}{tk:Tok}{b:Bool}{Q:Fin->Shared->Prop}
  (hC:h.get? C=some (excClassObj nm q C N bs bm hdct sn sub ab col dd k0 k1 k2 k3 k5 gg)) (hN:h.Ns N mN) (hmN:∀ n∈quietNames,mN n=none) (T:OwnTailQ h Ei bm) (hT:ED h (.ref C :: bm)) (hD:h.get? D=some (excClassObj nm' q' D N' bs' bm' jg sn' jt ab' jy dd' l0 l1 l2 l3 l5 ir)) (hx:h.get? a=some o) (hc:o.cls=.ref C) (hm:(Value.ref C :: bm).contains (.ref D)=b) (hq:∀ k,Q (.done (.ret (.bool b))) ⟨h,g,d,k,os⟩) :
  wpAny (model prog w) A (Builtin.«isinstance.nested» ⟨[.ref a,.ref D,.int dep tk],[]⟩) Q E ⟨h,g,d,t,os⟩:=by
 have u1:=hq t
 have u2:=hq (t+1)
 by_cases hne:C=D
 ·subst hne
  have t0:b=true:=by rw[<- hm,fY,beq_self_eq_true];rfl
  subst t0
  repeat (any_goals (first|assumption|(with_reducible refine bP hx ?_;rw[hc])|wp_step))
 ·have u0:(Value.ref C==Value.ref D)=false:=beq_eq_false_iff_ne.mpr fun q=>hne (Value.ref.inj q)
  cases b with
  | true=>
   repeat (any_goals (first|assumption|(with_reducible refine bP hx ?_;rw[hc])|with_reducible refine bP hD ?_|(with_reducible refine dK hC ?_;rw[hm])|wp_step))
  | false=>
   repeat (any_goals (first|assumption|(with_reducible refine bP hx ?_;rw[hc])|with_reducible refine bP hD ?_|(with_reducible refine dK hC ?_;rw[hm])|with_reducible apply Na hC hN hmN T hT hx hc|wp_step))
theorem LH{dep:Int}{tk:Tok}{Q:Fin->Shared->Prop}(hC:h.get? C=some (excClassObj nm q C N bs bm hdct sn sub ab col dd k0 k1 k2 k3 k5 gg))(T:OwnTailQ h Ei bm)(hx:h.get? a=some o)(hc:o.cls=.ref C)(hq:Q (.done (.ret (.bool true))) ⟨h,g,d,t,os⟩):
  wpAny (model prog w) A (Builtin.«isinstance.nested» ⟨[.ref a,.type "ValueError",.int dep tk],[]⟩) Q E ⟨h,g,d,t,os⟩:=by
 have u1:typeOf (.type "ValueError")=pure (.type "type"):=by kernel_rfl
 have u0:(Value.ref C==Value.type "ValueError")=false:=rfl
 have hm:(Value.ref C :: bm).contains (.type "ValueError")=true:=by rw[fY,T.tail.hasType (b:=true) (by decide)];rfl
 repeat (any_goals (first|assumption|(with_reducible refine bP hx ?_;rw[hc])|(with_reducible refine dK hC ?_;rw[hm])|wp_step))
theorem V5{c:Value}{b:Bool}{Q:Value->Shared->Prop}(H:∀ (prog:Program) (w:World) (A:Around) (E:Value->Shared->Prop) (Q:Fin->Shared->Prop) (tk:Tok),(∀ k,Q (.done (.ret (.bool b))) ⟨h,g,d,k,os⟩)->wpAny (model prog w) A (Builtin.«isinstance.nested» ⟨[.ref a,c,.int 0 tk],[]⟩) Q E ⟨h,g,d,t,os⟩)(hq:∀ k,Q (.bool b) ⟨h,g,d,k,os⟩):
  wpAny (model prog w) A (call (.builtin "isinstance") [.ref a,c]) Q E ⟨h,g,d,t,os⟩:=
 jP (S:=fun _ R s=>s=⟨h,g,d,t,os⟩/\∀ k,R (.ok (.ret (.bool b))) ⟨h,g,d,k,os⟩) (fun _ _ _ _ s hs=>by
  obtain⟨rfl,hs⟩:=hs
  exact jB (H _ _ _ _ _ _ fun k=>hs k) (fun e=>nomatch e)) ⟨rfl,hq⟩
theorem Kw{tp:Addr}{cs:List Value}{vs:List Bool}{tk:Tok}{Q:Fin->Shared->Prop}(htp:h.get? tp=some { cls:=.type "tuple",data:=.seq cs.toArray })(hx:h.get? a=some o)(hc:o.cls=.ref C)(hne:(Value.ref C==Value.ref tp)=false)
  (ha:AnswersAll (fun s=>s.heap=h) (.ref a) cs vs) (hq:∀ k,Q (.done (.ret (.bool (vs.any id)))) ⟨h,g,d,k,os⟩) :
  wpAny (model prog w) A (Builtin.«isinstance.nested» ⟨[.ref a,.ref tp,.int 0 tk],[]⟩) Q E ⟨h,g,d,t,os⟩:=by
 have u0:(⟨h,g,d,t,os⟩:Shared).TypeIs (.ref tp) "tuple":=⟨_,htp,rfl⟩
 have f1:=F.isi_sub_tuple
 repeat (any_goals (first|assumption|(with_reducible refine bP hx ?_;rw[hc])|wp_step))
 refine wpAny_arrayLoop ?_
 simp only[Option.getD_some,List.toList_toArray]
 refine isinstance_items (dep:=0) (P:=fun s=>s.heap=h) (fun s tk e=>e) cs vs _ _ ha rfl fun tk'=>?_
 cases hv:vs.any id with
 | true=>
  simp only[if_true]
  repeat (any_goals (first|assumption|wp_step))
  exact hv▸hq tk'
 | false=>
  simp only[cC,if_false]
  repeat (any_goals (first|assumption|wp_step))
  exact hv▸hq tk'
theorem SY{D N':Addr}{nm' q':Str}{bs' bm':List Value}{jg:Bool}{sn':List Str}{jt:List Value}{ab':Bool}{jy:Option Bool}{dd':Option Addr}{l0 l1 l2 l3 l5:Option Value}{ir:String}{b:Bool}
  (hC:h.get? C=some (excClassObj nm q C N bs bm hdct sn sub ab col dd k0 k1 k2 k3 k5 gg)) (hN:h.Ns N mN) (hmN:∀ n∈quietNames,mN n=none) (T:OwnTailQ h Ei bm) (hT:ED h (.ref C :: bm)) (hD:h.get? D=some (excClassObj nm' q' D N' bs' bm' jg sn' jt ab' jy dd' l0 l1 l2 l3 l5 ir)) (hx:h.get? a=some o) (hc:o.cls=.ref C) (hm:(Value.ref C :: bm).contains (.ref D)=b) :
  Answers (fun s=>s.heap=h) (.ref a) (.ref D) b:=fun dep tk=>Meets.of_wp fun prog w A R s hs=>by
 obtain⟨h',g,d,t,os⟩:=s
 obtain⟨e,hq⟩:=hs
 cases (show h'=h from e)
 exact Q6 hC hN hmN T hT hD hx hc hm fun k=>⟨_,rfl,hq k⟩
end
end
section
open PySem PySem.Spec PyProof.Rows
structure BW where
 prog:Program
 w:World
 B:Bs
 mb:Str->Option Value
 N:Addr
 mN:Str->Option Value
 meths:List Str
abbrev BW.mg(P:BW):Str->Option Value:=P.B.mg
noncomputable def BW.fn(P:BW)(f:Str):Option Value:=if P.meths.contains f then P.mN f else P.mg f
structure Ai (P:BW) (Z Z':Sg) (X:List Addr) (hp':A0) (s s':Shared):Prop where
 ctl:s'={ s with heap:=s'.heap,toks:=s'.toks }
 st:St P.w P.B Z' hp' s'.heap
 gr:AN Z Z' X s.heap s'.heap
theorem Ai.trans{X:List Addr}(x:Ai P Z₁ am X al s₁ ae)(y:Ai P am br X bo ae aj):Ai P Z₁ br X bo s₁ aj:=
 ⟨by rw[y.ctl,x.ctl],y.st,x.gr.trans y.gr⟩
theorem Ai.more{X Y:List Addr}(x:Ai P Z Z' X hp' s s')(hs:∀ a∈X,a∈Y):Ai P Z Z' Y hp' s s':=⟨x.ctl,x.st,x.gr.more hs⟩
theorem Ai.refl{X:List Addr}(S:St P.w P.B Z hp s.heap):Ai P Z Z X hp s s:=⟨rfl,S,.refl ..⟩
theorem Ai.tok{X:List Addr}(S:St P.w P.B Z hp s.heap)(t:Nat):Ai P Z Z X hp s { s with toks:=t }:=⟨rfl,S,.refl ..⟩
abbrev NE:Value->Shared->Prop:=fun _ _=>False
structure Y3 (P:BW) (Z:Sg) (h₀:Heap) (k:Str) (e:Addr) (h:Heap):Prop where
 obj:∃ oe vs C,h.get? e=some oe/\P.mg k=some (.ref C)/\oe.cls=.ref C/\oe.data=.fields vs /\
  (vs[1]?=some .none\/∃ T oT ts fl,vs[1]?=some (.ref T)/\T≠e/\h.get? T=some oT/\oT.cls=.type "traceback"/\oT.data=.fields ts/\ts[3]?=some fl/\h₀.get? T=none/\T∉Z.map (·.1))
 new:h₀.get? e=none
 out:e∉Z.map (·.1)
inductive QE (P:BW) (Z:Sg) (s:Shared) {α:Type} (r:B7 α) (v:Value) (s':Shared):Prop
 | mk (k:Str) (hp':A0) (Z':Sg) (e:Addr) (er:r=.exc k hp') (ev:v=.ref e) (a:Ai P Z Z' [] hp' s s') (f:Y3 P Z' s.heap k e s'.heap)
theorem DK{X:List Addr}(g:AN Z Z' X h h')(e:h'.get? a=none):h.get? a=none:=by
 rcases hq:h.get? a with _|o
 case none=>rfl
 case some=>refine xE (g.ex a o hq) fun o' e'=>?_;rw[e] at e';cases e'
theorem Y3.lift{X:List Addr}(g:AN Z Z₁ X h ax)(f:Y3 P Z' ax k e h'):Y3 P Z' h k e h':=by
 refine Dq f.obj fun oe vs C h1 h2 h3 h4 h5=>?_
 exact⟨⟨oe,vs,C,h1,h2,h3,h4,h5.imp id fun q=>MV q fun T oT ts fl a b c d x w y z=>⟨T,oT,ts,fl,a,b,c,d,x,w,DK g y,z⟩⟩,DK g f.new,f.out⟩
theorem QE.lift(a:Ai P Z Z₁ [] ac s s₁)(q:QE P Z₁ s₁ r v s'):QE P Z s r v s':=by
 obtain⟨k,hp',Z',e,er,ev,b,f⟩:=q
 exact⟨k,hp',Z',e,er,ev,a.trans b,f.lift a.gr⟩
theorem QE.bind{α β:Type}{r:B7 α}{f:α->A0->B7 β}(q:QE P Z s r v s'):QE P Z s (r.bind f) v s':=by
 obtain⟨k,hp',Z',e,er,ev,b,fl⟩:=q
 exact⟨k,hp',Z',e,by rw[er];rfl,ev,b,fl⟩
inductive QV (P:BW) (Z:Sg) (s:Shared) (r:B7 AV) (v:Value) (s':Shared):Prop
 | mk (av:AV) (hp':A0) (Z':Sg) (e:r=.ok av hp') (a:Ai P Z Z' [] hp' s s') (rv:RV P.B s'.heap Z' av v)
inductive rN (P:BW) (Z:Sg) (s:Shared) (r:B7 (List AV)) (v:List Value) (s':Shared):Prop
 | mk (av:List AV) (hp':A0) (Z':Sg) (e:r=.ok av hp') (a:Ai P Z Z' [] hp' s s') (rv:RVs P.B s'.heap Z' av v)
theorem QV.lift(a:Ai P Z Z' [] hp' s s')(q:QV P Z' s' r v s''):QV P Z s r v s'':=by
 obtain⟨av,hp,am,e,b,rv⟩:=q
 exact⟨av,hp,am,e,a.trans b,rv⟩
structure Ev (P:BW) (h:Heap) (Z:Sg) (env:Env) (cx:Cx) (l:Ah):Prop where
 kind:env.scope.kind=.function
 len:l.length=cx.n
 inj:∀ x y i,cx.slot x=some i->cx.slot y=some i->x=y
 lt:∀ x i,cx.slot x=some i->i<cx.n
 glob:∀ x,cx.isGlob x=true->env.kindOf x=some .globalImplicit
 wr:∀ x i,cx.slotW x=some i->env.kindOf x≠some .free
 names:∃ m,h.Ns env.locals m/\∀ x i,cx.slot x=some i ->
  (env.kindOf x=some .local/\∀ av,l[i]?=some (some av)->∃ v,m x=some v/\RV P.B h Z av v) \/
  ((env.kindOf x=some .cell\/env.kindOf x=some .free)/\∃ c ov,env.cells.lookup x=some c/\h.IsCell c ov/\∀ av,l[i]?=some (some av)->∃ v,ov=some v/\RV P.B h Z av v)
 out:env.locals∉Z.map (·.1)/\∀ p∈env.cells,p.2∉Z.map (·.1)
 new:P.B.h₀.get? env.locals=none/\∀ p∈env.cells,P.B.h₀.get? p.2=none
 globals:env.globals=mainGlobals
 builtins:env.builtins=builtinsNs
 cells:∀ p∈env.cells,∃ o v,h.get? p.2=some o/\o.data=.cell v
 apart:∀ p∈env.cells,∀ q∈env.cells,p.2=q.2->p.1=q.1
 kinds:∀ x k,cx.sc.names.lookup x=some k->k=.local\/k=.cell->env.kindOf x=some k
structure ArndC (n:Nat) (q:Bool) (A:Around):Prop where
 frames:∃ gd,A.frames=some gd
 depth:A.depth+2*n+150<recursionLimit
 units:A.units+100*n+100<cLine
 handled:q=false->A.handled=none
structure E5 (n:Nat) (q:Bool) (A:Around):Prop extends ArndC n q A where
 depth1:A.depth+2*n+151<recursionLimit
 units1:A.units+100*n+150<cLine
 frame:∃ f gd,A.frames=some (f :: gd)/\f.scope.isGenerator=false/\f.scope.isCoroutine=false/\f.builtins=builtinsNs/\f.globals=mainGlobals
noncomputable def LI(P:BW)(h:Heap)(Z:Sg)(A:Around):Prop:=∀ l,A.frames=some l->∀ f∈l,f.scope.kind≠.module/\∃ L o es ep,f.frame=some L/\P.B.h₀.get? L=none/\h.get? L=some o/\o.data=.dict es ep/\L∉Z.map (·.1)
noncomputable def Tp(env:Env)(A:Around):Prop:=∃ f gd L,A.frames=some (f :: gd)/\f.frame=some L/\env.frame=some L
structure Inv (P:BW) (cx:Cx) (n:Nat) (q:Bool) (env:Env) (A:Around) (Z:Sg) (l:Ah) (hp:A0) (s:Shared):Prop where
 st:St P.w P.B Z hp s.heap
 fr:Ev P s.heap Z env cx l
 ar:E5 n q A
 fs:LI P s.heap Z A
 tp:Tp env A
theorem I8{h h':Heap}(n:h.Ns a m)(hk:∀ o,h.get? a=some o->HG o (h'.get? a)):h'.Ns a m:=by
 refine B2 n fun o es ep ho hd r=>?_
 refine BT ((hk o ho).get) fun o' e _ gm _=>?_
 exact⟨o',es,ep,e,gm.trans hd,r⟩
theorem M3{h h':Heap}(n:h.IsCell a v)(hk:∀ o,h.get? a=some o->HG o (h'.get? a)):h'.IsCell a v:=by
 refine A9 n fun o ho hd=>?_
 refine BT ((hk o ho).get) fun o' e _ gm _=>?_
 exact⟨o',e,gm.trans hd⟩
theorem Bo{X:List Addr}(g:AN Z Z' X h h')(ho:h.get? a=some o)(hn:a∉Z.map (·.1)):a∉Z'.map (·.1):=by
 refine A9 g.ext fun τ A6 hτ=>?_;subst A6
 rw[aU,dX]
 rintro (hb|hb)
 ·exact hn hb
 ·refine A9 (List.mem_map.mp hb) fun p hp A6=>?_;subst A6
  rw[hτ p hp] at ho;cases ho
theorem Az{α:Type}:∀ {l:List (Str×α)} {n:Str} {c:α},l.lookup n=some c->(n,c)∈l:=PySem.mem_of_lookup
theorem Ev.after(f:Ev P s.heap Z env cx l)(a:Ai P Z Z' [] hp' s s'):Ev P s'.heap Z' env cx l:=by
 refine A9 f.names fun m hn hm=>?_
 have hL:∀ o,s.heap.get? env.locals=some o->HG o (s'.heap.get? env.locals):=fun o ho=>a.gr.oth _ o ho f.out.1 (by simp)
 have hC:∀ p∈env.cells,∀ o,s.heap.get? p.2=some o->HG o (s'.heap.get? p.2):=fun p hp o ho=>a.gr.oth _ o ho (f.out.2 p hp) (by simp)
 refine⟨f.kind,f.len,f.inj,f.lt,f.glob,f.wr,⟨m,I8 hn hL,fun x i hx=>?_⟩,⟨?_,fun p hp=>?_⟩,f.new,f.globals,f.builtins,fun p hp=>?_,f.apart,f.kinds⟩
 ·rcases hm x i hx with ⟨hk,hv⟩|⟨hk,c,ov,hc,hi,hv⟩
  ·exact .inl ⟨hk,fun av e=>(hv av e).imp fun _ q=>⟨q.1,RV.grows a.gr _ _ q.2⟩⟩
  ·exact .inr ⟨hk,c,ov,hc,M3 hi (hC (x,c) (Az hc)),fun av e=>(hv av e).imp fun _ q=>⟨q.1,RV.grows a.gr _ _ q.2⟩⟩
 ·refine C4 hn fun o _ _ ho _=>?_
  exact Bo a.gr ho f.out.1
 ·refine Av (f.cells p hp) fun o v ho _=>?_
  exact Bo a.gr ho (f.out.2 p hp)
 ·refine Av (f.cells p hp) fun o v ho hd=>?_
  refine BT ((hC p hp o ho).get) fun o' e _ gm _=>?_
  exact⟨o',v,e,gm.trans hd⟩
theorem LI.after(F:LI P h Z A)(g:AN Z Z' [] h h'):LI P h' Z' A:=fun l hl f hf=>by
 refine D8 (F l hl f hf) fun hk L o es ep h1 h2 h3 h4 h5=>?_
 refine BT ((g.oth L o h3 h5 (fun q=>nomatch q)).get) fun o' e _ hd _=>?_
 exact⟨hk,L,o',es,ep,h1,h2,e,hd.trans h4,Bo g h3 h5⟩
theorem Inv.after(I:Inv P cx n q env A Z l hp s)(a:Ai P Z Z' [] hp' s s'):Inv P cx n q env A Z' l hp' s':=
 ⟨a.st,I.fr.after a,I.ar,I.fs.after a.gr,I.tp⟩
noncomputable def B5:List (Str×Value):=[("len",.builtin "len"),("isinstance",.builtin "isinstance"),("range",.type "range"),("sorted",.builtin "sorted"),("list",.type "list"),("str",.type "str"),("int",.type "int"),("bool",.type "bool"),("tuple",.type "tuple"),("dict",.type "dict"),("min",.builtin "min"),("ValueError",.type "ValueError")]
theorem Y4:(("len":Str),Value.builtin "len")∈B5:=.head _
theorem Rz:(("isinstance":Str),Value.builtin "isinstance")∈B5:=.tail _ (.head _)
theorem SZ:(("range":Str),Value.type "range")∈B5:=.tail _ (.tail _ (.head _))
theorem Q7:(("sorted":Str),Value.builtin "sorted")∈B5:=.tail _ (.tail _ (.tail _ (.head _)))
theorem V6:(("list":Str),Value.type "list")∈B5:=.tail _ (.tail _ (.tail _ (.tail _ (.head _))))
theorem RA:(("str":Str),Value.type "str")∈B5:=.tail _ (.tail _ (.tail _ (.tail _ (.tail _ (.head _)))))
theorem RB:(("int":Str),Value.type "int")∈B5:=.tail _ (.tail _ (.tail _ (.tail _ (.tail _ (.tail _ (.head _))))))
theorem V7:(("bool":Str),Value.type "bool")∈B5:=.tail _ (.tail _ (.tail _ (.tail _ (.tail _ (.tail _ (.tail _ (.head _)))))))
theorem Ta:(("tuple":Str),Value.type "tuple")∈B5:=.tail _ (.tail _ (.tail _ (.tail _ (.tail _ (.tail _ (.tail _ (.tail _ (.head _))))))))
theorem V8:(("dict":Str),Value.type "dict")∈B5:=.tail _ (.tail _ (.tail _ (.tail _ (.tail _ (.tail _ (.tail _ (.tail _ (.tail _ (.head _)))))))))
theorem Y5:(("min":Str),Value.builtin "min")∈B5:=.tail _ (.tail _ (.tail _ (.tail _ (.tail _ (.tail _ (.tail _ (.tail _ (.tail _ (.tail _ (.head _))))))))))
theorem kR:(("ValueError":Str),Value.type "ValueError")∈B5:=.tail _ (.tail _ (.tail _ (.tail _ (.tail _ (.tail _ (.tail _ (.tail _ (.tail _ (.tail _ (.tail _ (.head _)))))))))))
structure BW.Ok (P:BW):Prop where
 blt:∀ x v,(x,v)∈B5->P.mg x=none/\P.mb x=some v
 g:P.B.h₀.Ns mainGlobals P.mg
 b:P.B.h₀.Ns builtinsNs P.mb
 nolimit:P.B.h₀.NoLimit
 seer:P.B.h₀.NoSeer
 tree:P.prog.given.tree=none
 mods:∃ o,P.B.h₀.get? sysModules=some o
 cls:ClsAt P.B.h₀ P.B.C P.N P.mN
 q1:P.mN "__setattr__"=none
 q2:P.mN "__getattribute__"=none
 q3:P.mN "__getattr__"=none
 qa:∀ a,P.B.attrs.contains a=true->P.mN a=none/\typeLookup (.type "object") a=pure none
 qm:∀ m,P.meths.contains m=true->∃ y,typeLookup (.type "object") m=pure y
 few:P.B.attrs.length<=sizeLine
 init:P.meths.contains "__init__"=true
noncomputable def V9(P:BW)(funs:List Str)(F:Str->List AV->A0->B7 AV)(n:Nat)(q:Bool):Prop:=
 ∀ f,funs.contains f=true->∃ a o fd,P.fn f=some (.ref a)/\P.B.h₀.get? a=some o/\(P.meths.contains f=true->o.cls=.type "function")/\o.data=.func fd /\
  ∀ gf vs Z hp s A,St P.w P.B Z hp s.heap->RVs P.B s.heap Z gf vs->ArndC n q A->LI P s.heap Z A->F f gf hp≠.bad ->
   wpAny (model P.prog P.w) A (call (.ref a) vs) (QV P Z s (F f gf hp)) (QE P Z s (F f gf hp)) s
noncomputable def Nb(k:Const)(v:Value):Prop:=match k with
 | .int i=>∃ t,v=.int i t
 | .str x=>∃ t,v=.str x t
 | _=>False
inductive pQ (C:Addr) (bmB:List Value) (gg:String) (h:Heap):Prop
 | mk (bm:List Value) (N:Addr) (nm q:Str) (bs:List Value) (hdct:Bool) (sn:List Str) (sub:List Value) (ab:Bool) (col:Option Bool) (dd:Option Addr) (k0 k1 k2 k3 k5:Option Value) (mN:Str->Option Value)
  (hC:h.get? C=some (excClassObj nm q C N bs bm hdct sn sub ab col dd k0 k1 k2 k3 k5 gg)) (hN:h.Ns N mN) (hq:∀ n∈quietNames,mN n=none) (T:OwnTailQ h bmB bm):pQ C bmB gg h
theorem Va(O:OwnClsQ x C bmB gg mg h):pQ C bmB gg h:=by
 refine Cp O.obj fun bm N nm q bs hdct sn sub ab col dd k0 A6=>?_;refine IK A6 fun k1 k2 k3 k5 mN hC hN hq T=>?_
 exact .mk bm N nm q bs hdct sn sub ab col dd k0 k1 k2 k3 k5 mN hC hN hq T
structure RC (P:BW) (excs:List (Str×List Str)):Prop where
 own:∀ k ks,excs.lookup k=some ks->∃ C,OwnClsQ k C Ei "ValueError.__new__" P.mg P.B.h₀
 cat:∀ j,(excs.any fun p=>p.2.contains j)=true->∃ D,OwnClsQ j D Ei "ValueError.__new__" P.mg P.B.h₀
 sub:∀ k ks j C D o cd,excs.lookup k=some ks->(excs.any fun p=>p.2.contains j)=true->P.mg k=some (.ref C)->P.mg j=some (.ref D)->P.B.h₀.get? C=some o->o.data=.cls cd->cd.mro.contains (.ref D)=ks.contains j
 same:excs=P.B.excs
 ncl:∀ k ks C o cd,excs.lookup k=some ks->P.mg k=some (.ref C)->P.B.h₀.get? C=some o->o.data=.cls cd->∀ A ob je,Value.ref A∈cd.mro->P.B.h₀.get? A=some ob->ob.data=.cls je->P.B.h₀.nsMap je.ns "__class__"=none
theorem Q8{h:Heap}{tl:List Value}(T:OwnTailQ h Ei tl)(H:∀ A ob je,Value.ref A∈tl->h.get? A=some ob->ob.data=.cls je->h.nsMap je.ns "__class__"=none):ED h tl:=by
 induction T with
 | base=>exact .base
 | own hA hN hq _ ih=>exact .own hA hN (by rw[hN.eq_nsMap];exact H _ _ _ aH hA rfl) (ih fun A ob je hm=>H A ob je (aL _ hm))
structure ER (P:BW) (cx:Cx) (c:CA) (n:Nat):Prop where
 ok:P.Ok
 f:V9 P cx.funs c.F n c.q
 fq:V9 P cx.funs c.Fq n true
 meths:cx.meths=P.meths
 attrs:cx.attrs=P.B.attrs
 cls:P.mg cx.cls=some (.ref P.B.C)
 init:cx.funs.contains "__init__"=true
 exc:RC P cx.excs
 g:∀ x k,cx.consts.lookup x=some k->∃ v,P.mg x=some v/\Nb k v
noncomputable def As(P:BW)(cx:Cx)(e:Expr)(x:X):Prop:=
 ∀ c n env A Z l hp s,ER P cx c n->Inv P cx n c.q env A Z l hp s->A1 c x l hp≠.bad ->
  wpAny (model P.prog P.w) A (eval e env) (QV P Z s (A1 c x l hp)) (QE P Z s (A1 c x l hp)) s
noncomputable def DJ(P:BW)(cx:Cx)(es:List Expr)(xs:Xs):Prop:=
 ∀ c n env A Z l hp s pos,ER P cx c n->Inv P cx n c.q env A Z l hp s->evalXs c xs l hp≠.bad ->
  wpAny (model P.prog P.w) A (spliced (backTo pos (starEach es env))) (rN P Z s (evalXs c xs l hp)) (QE P Z s (evalXs c xs l hp)) s
theorem Ap{α β:Type}{r:B7 α}{f:α->A0->B7 β}(h:r.bind f≠.bad):r≠.bad:=fun e=>h (by rw[e];rfl)
theorem HI{cx:Cx}(h:cx.slot x=some i):(x==("__debug__":Str))=false/\(x==("__classdict__":Str))=false:=by
 refine A9 (Option.bind_eq_some_iff.mp h) fun k _ h=>?_
 refine xA (Cr h) fun hk _=>?_
 simp only[H6,aG,bne_iff_ne,ne_eq] at hk
 exact⟨beq_eq_false_iff_ne.mpr hk.2.1,beq_eq_false_iff_ne.mpr hk.2.2⟩
theorem HJ{cx:Cx}(h:cx.isGlob x=true):(x==("__debug__":Str))=false/\(x==("__classdict__":Str))=false:=by
 simp only[Cx.isGlob,H6,aG,bne_iff_ne,ne_eq] at h
 exact⟨beq_eq_false_iff_ne.mpr h.2.1,beq_eq_false_iff_ne.mpr h.2.2⟩
section
variable {P:BW} {cx:Cx}
theorem Vb:As P cx (.Constant .none k pos) .none:=fun c n env A Z l hp s _ I _=>
 wpAny_Constant_none ⟨.none,hp,Z,rfl,.refl I.st,rfl⟩
theorem Vc:As P cx (.Constant (.bool b) k pos) (.bool b):=fun c n env A Z l hp s _ I _=>
 wpAny_Constant_bool ⟨.bool b,hp,Z,rfl,.refl I.st,rfl⟩
theorem RD:As P cx (.Constant (.int i) k pos) (.int i):=fun c n env A Z l hp s _ I _=>
 iF ⟨.int i,hp,Z,rfl,.tok I.st _,_,rfl⟩
theorem Y6:As P cx (.Constant (.str x) k pos) (.str x.cps.toList):=fun c n env A Z l hp s _ I _=>
 fW ⟨.str x.cps.toList,hp,Z,rfl,.tok I.st _,_,rfl⟩
theorem Y7{x:Str}(hx:cx.slot x=some i):As P cx (.Name x pos) (.loc i):=by
 intro c n env A Z l hp s _ I hb
 refine xA (HI hx) fun hd hcl=>?_
 rw[BO] at hb |-
 rcases hl:BN l i with _|av
 case none=>rw[hl] at hb;exact absurd rfl hb
 case some=>
  have hl:l[i]?=some (some av):=by
   unfold BN at hl
   split at hl
   ·rename_i o e;rw[e,hl]
   ·cases hl
  refine A9 I.fr.names fun m hn hm=>?_
  refine iE ?_ hd
  rcases hm x i hx with ⟨hk,hv⟩|⟨hk,cc,ov,hc,hi,hv⟩
  ·refine A9 (hv av hl) fun v e rv=>?_
   exact gS I.fr.kind hk hn e ⟨av,hp,Z,rfl,.refl I.st,rv⟩
  ·refine A9 (hv av hl) fun v e rv=>?_
   subst e
   rcases hk with hk|hk
   ·exact wpAny_loadName_cell I.fr.kind hk hc hi ⟨av,hp,Z,rfl,.refl I.st,rv⟩
   ·exact wpAny_loadName_free I.fr.kind hk hc hi ⟨av,hp,Z,rfl,.refl I.st,rv⟩ hcl
theorem Vd(h:Fl k=some x)(r:Nb k v):(∃ i t,x=.int i/\v=.int i t)\/∃ z t,x=.str z/\v=.str ⟨z.toArray⟩ t:=by
 cases k with
 | int i=>cases h;refine xE r fun t A6=>?_;try clear r;subst A6;exact .inl ⟨i,t,rfl,rfl⟩
 | str z=>cases h;refine xE r fun t A6=>?_;try clear r;subst A6;exact .inr ⟨_,t,rfl,rfl⟩
 | _=>exact r.elim
theorem Ve{k:Const}(hg:cx.isGlob x=true)(hk:cx.consts.lookup x=some k)(hx:Fl k=some xx):As P cx (.Name x pos) xx:=by
 intro c n env A Z l hp s C I hb
 refine xA (HJ hg) fun hd _=>?_
 refine A9 (C.g x k hk) fun v e1 r=>?_
 refine iE ?_ hd
 rw[loadName_read I.fr.kind (I.fr.glob x hg)]
 have hn:s.heap.Ns env.globals P.mg:=by rw[I.fr.globals];exact C.ok.g.keeps I.st.base
 refine Calls.loadGlobal_global hn e1 ?_
 rcases Vd hx r with ⟨i,t,rfl,rfl⟩|⟨z,t,rfl,rfl⟩
 ·exact⟨_,hp,Z,rfl,.refl I.st,_,rfl⟩
 ·exact⟨_,hp,Z,rfl,.refl I.st,_,rfl⟩
end
end
section
open PySem PySem.Spec PyProof.Rows PySem.SeqAt
theorem AX{ws:Array Value}(o:C8 h a (.type "tuple") (.seq ws n)):h.IsTuple a ws:=
 ⟨_,o,rfl,n,rfl⟩
theorem CJ{ws:Array Value}(o:C8 h a (.type "list") (.seq ws n)):h.IsList a ws:=
 ⟨_,o,rfl,n,rfl⟩
theorem St.isList(S:St w B Z hp h){n:Nat}{a:Addr}(e:hp[n]?=some (.list xs))(hs:Z[n]?=some (a,off)):
  ∃ ws,h.IsList a ws/\RVs B h Z xs ws.toList:=by
 refine AF (S.obj n a off _ hs e) fun ws k o r _=>?_
 exact⟨ws,(CJ o),r⟩
theorem HK(x y:List Nat):((⟨x.toArray⟩:Str)==⟨y.toArray⟩)=decide (x=y):=by
 by_cases h:x=y
 ·subst h;simp
 ·rw[decide_eq_false h]
  refine beq_eq_false_iff_ne.mpr fun e=>h ?_
  have t0:=Str.mk.inj e
  simpa using t0
theorem JI(h:kJ a b=some r):∃ x y,a=some x/\b=some y/\r=(x&&y):=by
 rcases a with _|x
 ·exact A2 h
 rcases b with _|y
 ·exact A2 h
 exact⟨x,y,rfl,rfl,(Option.some.inj h).symm⟩
theorem Q9:∀ {xs ys:List AV} {r:Bool},EU f xs ys=some r ->
  ∃ e:Nat->Bool,(∀ j x y,xs[j]?=some x->ys[j]?=some y->f x y=some (e j))/\r=((List.range (min xs.length ys.length)).all e&&xs.length==ys.length):=by
 intro xs
 induction xs with
 | nil=>
  intro ys r h
  refine⟨fun _=>true,fun j x y hx=>(nomatch hx),?_⟩
  rw[<- Option.some.inj h]
  rcases ys with _|⟨y,ys⟩<;>rfl
 | cons x xs ih=>
  intro ys r h
  rcases ys with _|⟨y,ys⟩
  ·rw[<- Option.some.inj h]
   exact⟨fun _=>true,fun j x y _ hy=>(nomatch hy),rfl⟩
  refine AF (JI h) fun b r' h1 h2 h3=>?_
  refine A9 (ih h2) fun e he hr=>?_
  refine⟨fun j=>Nat.casesOn j b e,fun j x' y' hx hy=>?_,?_⟩
  ·rcases j with _|j
   ·rcases Option.some.inj hx with rfl;rcases Option.some.inj hy with rfl;exact h1
   ·exact he j x' y' hx hy
  ·rw[h3,hr]
   simp only[aN,Nat.add_min_add_right,List.range_succ_eq_map,iW,List.all_map,Bool.and_assoc]
   have e1:(xs.length+1==ys.length+1)=(xs.length==ys.length):=by simp
   rw[e1]
   rfl
section
variable {w:World} {B:Bs} {Z:Sg} {hp:A0} {s:Shared}
theorem HL{a b:Addr}(h:RcAt A s (.ref a) (.ref b) k)(hs:a=b->k=true):EqAt A s (.ref a) (.ref b) k:=by
 by_cases e:a=b
 ·subst e;rw[hs rfl];exact EqAt.same _
 ·exact .of_refs e h
theorem Kx:∀ {xs ys:List AV} {vs:List Value} {r:Bool},EU f xs ys=some r->RVs B s.heap Z xs vs->RVs B s.heap Z ys vs ->
  (∀ x y v r,f x y=some r->RV B s.heap Z x v->RV B s.heap Z y v->r=true)->r=true:=by
 intro xs
 induction xs with
 | nil=>
  intro ys vs r h rx ry _
  rw[rx.nil] at ry
  rw[<- Option.some.inj h]
  rcases ys with _|⟨y,ys⟩
  ·rfl
  ·exact ry.elim
 | cons x xs ih=>
  intro ys vs r h rx ry H
  refine AF rx.cons fun v us A6 r1 r2=>?_;subst A6
  rcases ys with _|⟨y,ys⟩
  ·exact ry.elim
  refine AF (JI h) fun b r' h1 h2 h3=>?_
  rw[h3,H x y v b h1 r1 ry.1,ih h2 r2 ry.2 H];rfl
theorem St.inj(S:St w B Z hp s.heap){i j:Nat}{a:Addr}(hi:Z[i]?=some (a,o))(hj:Z[j]?=some (a,o')):i=j:=by
 have h1:(Z.map (·.1))[i]?=some a:=by rw[aK,hi];rfl
 have h2:(Z.map (·.1))[j]?=some a:=by rw[aK,hj];rfl
 exact(dW (List.getElem?_eq_some_iff.mp h1).1 S.nd).mp (by rw[h1,h2])
theorem Ky{c c':Value}(x:C8 h a c d)(y:C8 h a c' d'):c=c'/\d=d':=by
 have t0:=x.symm.trans y
 cases t0
 exact⟨rfl,rfl⟩
theorem B3{n:Nat}{xs:List AV}(h:Am hp n=some xs):hp[n]?=some (.list xs):=by
 unfold Am at h
 rcases e:hp[n]? with _|o<;>rw[e] at h
 case none=>exact A2 h
 case some=>rcases o with _|_<;>first|exact A2 h|(cases h;rfl)
theorem Dh{n:Nat}{d:List (Bc×AV)×Nat}(h:Bi hp n=some d):hp[n]?=some (.dict d.1 d.2):=by
 unfold Bi at h
 rcases e:hp[n]? with _|o<;>rw[e] at h
 case none=>exact A2 h
 case some=>rcases o with _|_<;>first|exact A2 h|(cases h;rfl)
theorem Oe{a b:Option (List AV)}{r:Bool}(h:pK f a b=some r):∃ xs ys,a=some xs/\b=some ys/\((xs.length=ys.length/\EU f xs ys=some r)\/(xs.length≠ys.length/\r=false)):=by
 rcases a with _|xs
 case none=>exact A2 h
 case some=>
  rcases b with _|ys
  case none=>exact A2 h
  case some=>
   refine⟨xs,ys,rfl,rfl,?_⟩
   change (if xs.length=ys.length then _ else _)=_ at h
   by_cases e:xs.length=ys.length
   ·rw[if_pos e] at h;exact .inl ⟨e,h⟩
   ·rw[if_neg e] at h;exact .inr ⟨e,(Option.some.inj h).symm⟩
inductive ZC (hp:A0) (n:Nat):AV->AV->Bool->Prop
 | none:ZC hp n .none .none true
 | nv (b:AV) (h:Jf hp b=some false):ZC hp n .none b false
 | vn (b:AV) (h:Jf hp b=some false):ZC hp n b .none false
 | int (x y:Int):ZC hp n (.int x) (.int y) (decide (x=y))
 | str (x y:List Nat):ZC hp n (.str x) (.str y) (decide (x=y))
 | tup (xs ys:List AV) (r:Bool) (h:EU (FI hp n) xs ys=some r):ZC hp n (.tup xs) (.tup ys) r
 | loc (i j:Nat) (r:Bool) (h:pK (FI hp n) (Am hp i) (Am hp j)=some r):ZC hp n (.loc i) (.loc j) r
theorem Of{b:AV}{r:Bool}(h:Jf hp b=some r):r=false:=by
 rcases b with _|_
 case int=>cases h;rfl
 case str=>cases h;rfl
 case tup=>cases h;rfl
 case loc i=>obtain⟨_,_,rfl⟩:=Option.map_eq_some_iff.mp (show (Am hp i).map (fun _=>false)=some r from h);rfl
 all_goals exact A2 h
theorem IR{a b:AV}{r:Bool}(h:FI hp (n+1) a b=some r):ZC hp n a b r:=by
 rcases a with _|_
 case none=>
  rcases b with _|_
  case none=>cases (show some true=some r from h);exact .none
  case int=>cases (show some false=some r from h);exact .nv _ rfl
  case str=>cases (show some false=some r from h);exact .nv _ rfl
  case tup=>cases (show some false=some r from h);exact .nv _ rfl
  case loc i=>have h:Jf hp (.loc i)=some r:=h;rcases Of h with rfl;exact .nv _ h
  all_goals exact A2 h
 case int x=>
  rcases b with _|_
  case int y=>cases (show some (decide (x=y))=some r from h);exact .int x y
  case none=>cases (show some false=some r from h);exact .vn _ rfl
  all_goals exact A2 h
 case str x=>
  rcases b with _|_
  case str y=>cases (show some (decide (x=y))=some r from h);exact .str x y
  case none=>cases (show some false=some r from h);exact .vn _ rfl
  all_goals exact A2 h
 case tup xs=>
  rcases b with _|_
  case tup ys=>exact .tup xs ys r h
  case none=>cases (show some false=some r from h);exact .vn _ rfl
  all_goals exact A2 h
 case loc i=>
  rcases b with _|_
  case loc j=>exact .loc i j r h
  case none=>have h:Jf hp (.loc i)=some r:=h;rcases Of h with rfl;exact .vn _ h
  all_goals exact A2 h
 all_goals exact A2 h
theorem Oh{b:AV}{v:Value}(h:Jf hp b=some false)(r:RV B s.heap Z b v):v≠.none:=by
 rcases b with _|_
 case int=>refine xE r fun t A6=>?_;try clear r;subst A6;exact fun e=>nomatch e
 case str=>refine xE r fun t A6=>?_;try clear r;subst A6;exact fun e=>nomatch e
 case tup=>refine C4 r fun a _ _ A6 _=>?_;try clear r;subst A6;exact fun e=>nomatch e
 case loc=>refine Av r fun a _ A6 _=>?_;try clear r;subst A6;exact fun e=>nomatch e
 all_goals exact A2 h
theorem Kz(S:St w B Z hp s.heap):∀ (n:Nat) (a b:AV) (v:Value) (r:Bool),FI hp n a b=some r->RV B s.heap Z a v->RV B s.heap Z b v->r=true
 | 0,_,_,_,_,h,_,_=>nomatch h
 | n+1,a,b,v,r,h,ra,rb=>by
  have H:∀ x y v r,FI hp n x y=some r->RV B s.heap Z x v->RV B s.heap Z y v->r=true:=fun x y v r=>Kz S n x y v r
  cases IR h with
  | none=>rfl
  | nv=>rename_i hx;exact absurd (show v=.none from ra) (Oh hx rb)
  | vn=>rename_i hx;exact absurd (show v=.none from rb) (Oh hx ra)
  | int x y=>refine xE ra fun t A6=>?_;try clear ra;subst A6;refine xE rb fun t' e=>?_;exact decide_eq_true (Value.int.inj e).1
  | str x y=>
   refine xE ra fun t A6=>?_;try clear ra;subst A6;refine xE rb fun t' e=>?_
   exact decide_eq_true (by simpa using (Value.str.inj e).1)
  | tup xs ys r h=>
   refine B2 ra fun a ws k A6 oa rx=>?_;try clear ra;subst A6;refine B2 rb fun b us k' e ob ry=>?_
   cases e
   have t0:=(Ky oa ob).2
   cases t0
   exact Kx h rx ry H
  | loc i j r h=>
   refine Av ra fun a o A6 e1=>?_;try clear ra;subst A6;refine Av rb fun b o' e e2=>?_
   cases e
   obtain rfl:=S.inj e1 e2
   refine AF (Oe h) fun xs ys h1 h2 h3=>?_
   rw[h1] at h2;cases h2
   rcases h3 with ⟨_,h3⟩|⟨h3,_⟩
   ·refine A9 (S.isList (B3 h1) e1) fun ws hl rx=>?_
    exact Kx h3 rx rx H
   ·exact absurd rfl h3
structure M4 (A:Around) (s:Shared) (v u:Value) (r:Bool):Prop where
 rc:RcAt A s v u r
 ne:RcNeAt A s v u (!r)
 eq:EqAt A s v u r
theorem Vf{ws us:Array Value}(H:∀ a b r v u,FI hp n a b=some r->RV B s.heap Z a v->RV B s.heap Z b u->EqAt A s v u r)(he:EU (FI hp n) xs ys=some r)(rx:RVs B s.heap Z xs ws.toList)(ry:RVs B s.heap Z ys us.toList):
  ∃ e:Nat->Bool,r=((List.range (min ws.size us.size)).all e&&ws.size==us.size)/\∀ j (h1:j<ws.size) (h2:j<us.size),EqAt A s ws[j] us[j] (e j):=by
 refine A9 (Q9 he) fun e h1 h2=>?_
 refine⟨e,by rw[h2,rx.size,ry.size],fun j h3 h4=>?_⟩
 have ex:xs[j]?=some (xs[j]'(by rw[rx.size];exact h3)):=aF _
 have ey:ys[j]?=some (ys[j]'(by rw[ry.size];exact h4)):=aF _
 refine A9 (rx.get ex) fun v' e1 q1=>?_
 refine A9 (ry.get ey) fun u' e2 q2=>?_
 rw[bJ,bW h3] at e1
 rw[bJ,bW h4] at e2
 cases e1;cases e2
 exact H _ _ _ _ _ (h1 j _ _ ex ey) q1 q2
theorem Y8{r:Bool}(hu:A.units<cLine)(oa:C8 s.heap a (.type "tuple") (.seq ws k))(ob:C8 s.heap b (.type "tuple") (.seq us k'))(hr:r=((List.range (min ws.size us.size)).all e&&ws.size==us.size))
  (he:∀ j (h1:j<ws.size) (h2:j<us.size),EqAt A.in1 s ws[j] us[j] (e j)) (hs:a=b->r=true):M4 A s (.ref a) (.ref b) r:=by
 subst hr
 have u0:=RcAt.tuples (AX oa) (AX ob) hu he
 exact⟨u0,RcNeAt.tuples (AX oa) (AX ob) hu he,HL u0 hs⟩
theorem Y9{r:Bool}(hu:A.units<cLine)(hl:s.heap.IsList a ws)(jc:s.heap.IsList b us)(gh:ws.size=us.size)(hr:r=((List.range (min ws.size us.size)).all e&&ws.size==us.size))
  (he:∀ j (h1:j<ws.size) (h2:j<us.size),EqAt A.in1 s ws[j] us[j] (e j)) (hs:a=b->r=true):M4 A s (.ref a) (.ref b) r:=by
 have er:r=(List.range ws.size).all e:=by rw[hr,gh,iC,beq_self_eq_true,iY]
 subst er
 have u0:=RcAt.lists hl jc gh hu he
 exact⟨u0,RcNeAt.lists hl jc gh hu he,HL u0 hs⟩
theorem Yb(S:St w B Z hp s.heap){A:Around}{i j:Nat}{v u:Value}(H:∀ a b r v u,FI hp n a b=some r->RV B s.heap Z a v->RV B s.heap Z b u->EqAt A.in1 s v u r)(hu:A.units<cLine)
  (h:pK (FI hp n) (Am hp i) (Am hp j)=some r) (ra:RV B s.heap Z (.loc i) v) (rb:RV B s.heap Z (.loc j) u):M4 A s v u r:=by
 refine Av ra fun a o A6 e1=>?_;try clear ra;subst A6;refine Av rb fun b o' A6 e2=>?_;try clear rb;subst A6
 have hs:a=b->r=true:=fun q=>by
  subst q
  have ij:=S.inj e1 e2
  subst ij
  exact Kz S (n+1) (.loc i) (.loc i) (.ref a) r h ⟨a,o,rfl,e1⟩ ⟨a,o,rfl,e1⟩
 refine AF (Oe h) fun xs ys hi hj hc=>?_
 refine A9 (S.isList (B3 hi) e1) fun ws hl rx=>?_
 refine A9 (S.isList (B3 hj) e2) fun us jc ry=>?_
 rcases hc with ⟨hlen,h⟩|⟨hlen,hr⟩
 ·refine A9 (Vf H h rx ry) fun e hr he=>?_
  exact Y9 hu hl jc (rx.size.symm.trans (hlen.trans ry.size)) hr he hs
 ·subst hr
  have u0:(ws.size != us.size)=true:=bne_iff_ne.mpr fun q=>hlen (rx.size.trans (q.trans ry.size.symm))
  exact⟨RcAt.lists_lengths hl jc u0 hu,RcNeAt.lists_lengths hl jc u0 hu,HL (RcAt.lists_lengths hl jc u0 hu) hs⟩
theorem ZD(S:St w B Z hp s.heap){b:AV}{u:Value}(hu:A.units<cLine)(h:Jf hp b=some false)(rb:RV B s.heap Z b u):M4 A s .none u false/\M4 A s u .none false:=by
 rcases b with _|_
 case int=>refine xE rb fun t A6=>?_;try clear rb;subst A6;exact⟨⟨RcAt.none_int _ _,RcNeAt.none_int _ _,EqAt.none_int _ _⟩,⟨RcAt.int_none _ _,RcNeAt.int_none _ _,EqAt.int_none _ _⟩⟩
 case str=>refine xE rb fun t A6=>?_;try clear rb;subst A6;exact⟨⟨RcAt.none_str _ _,RcNeAt.none_str _ _,EqAt.none_str _ _⟩,⟨RcAt.str_none _ _,RcNeAt.str_none _ _,EqAt.str_none _ _⟩⟩
 case tup xs=>
  refine B2 rb fun a ws k A6 oa _=>?_;try clear rb;subst A6
  exact⟨⟨RcAt.none_tuple (AX oa) hu,RcNeAt.none_tuple (AX oa) hu,EqAt.none_tuple (AX oa) hu⟩,⟨RcAt.tuple_none (AX oa) hu,RcNeAt.tuple_none (AX oa) hu,EqAt.tuple_none (AX oa) hu⟩⟩
 case loc i=>
  refine A9 (Option.map_eq_some_iff.mp (show (Am hp i).map (fun _=>false)=some false from h)) fun xs h1 _=>?_
  refine Av rb fun a o A6 e1=>?_;try clear rb;subst A6
  refine A9 (S.isList (B3 h1) e1) fun ws hl _=>?_
  exact⟨⟨RcAt.none_list hl hu,RcNeAt.none_list hl hu,EqAt.none_list hl hu⟩,⟨RcAt.list_none hl hu,RcNeAt.list_none hl hu,EqAt.list_none hl hu⟩⟩
 all_goals exact A2 h
theorem KF(S:St w B Z hp s.heap):∀ (n:Nat) (a b:AV) (r:Bool) (A:Around) (v u:Value),FI hp n a b=some r->RV B s.heap Z a v->RV B s.heap Z b u->A.units+n<cLine->M4 A s v u r
 | 0,_,_,_,_,_,_,h,_,_,_=>nomatch h
 | n+1,a,b,r,A,v,u,h,ra,rb,hu=>by
  have hu':A.units<cLine:=by exact ql (Ck _ _ _) [((qA (qA Af Ee) qI),AA)] BP AA rfl hu
  have H:∀ a b r v u,FI hp n a b=some r->RV B s.heap Z a v->RV B s.heap Z b u->EqAt A.in1 s v u r:=fun a b r v u h ra rb=>(KF S n a b r A.in1 v u h ra rb (by show A.units+1+n<_;exact ql (Ck _ _ _) [((qA (qA Af Ee) qI),AA)] (qA (qA BP Aj) qI) AA rfl hu)).eq
  cases IR h with
  | none=>rcases (show v=.none from ra) with rfl;rcases (show u=.none from rb) with rfl;exact⟨RcAt.none_none,RcNeAt.none_none,EqAt.same _⟩
  | nv=>rename_i hx;rcases (show v=.none from ra) with rfl;exact(ZD S hu' hx rb).1
  | vn=>rename_i hx;rcases (show u=.none from rb) with rfl;exact(ZD S hu' hx ra).2
  | int x y=>
   refine xE ra fun t A6=>?_;try clear ra;subst A6;refine xE rb fun t' A6=>?_;try clear rb;subst A6
   have e:(x==y)=decide (x=y):=by by_cases q:x=y<;>simp[q]
   rw[<- e]
   exact⟨RcAt.int_int _ _ _ _,RcNeAt.int_int _ _ _ _,EqAt.int_int _ _ _ _⟩
  | str x y=>
   refine xE ra fun t A6=>?_;try clear ra;subst A6;refine xE rb fun t' A6=>?_;try clear rb;subst A6
   rw[<- HK]
   exact⟨RcAt.str_str _ _ _ _,RcNeAt.str_str _ _ _ _,EqAt.str_str _ _ _ _⟩
  | tup xs ys r he=>
   have hs:=Kz S (n+1) (.tup xs) (.tup ys) v r h ra
   refine B2 ra fun a ws k A6 oa rx=>?_;try clear ra;subst A6;refine B2 rb fun b us k' A6 ob ry=>?_;try clear rb;subst A6
   refine A9 (Vf H he rx ry) fun e hr he=>?_
   exact Y8 hu' oa ob hr he fun q=>hs ⟨b,us,k',by rw[q],ob,ry⟩
  | loc i j r h=>exact Yb S H hu' h ra rb
end
end
section
open PySem PySem.Spec PyProof.Rows PySem.SeqAt
theorem AY{n:Nat}(h:n<=Ab):n<=sizeLine:=aR h (by decide +kernel)
section
variable {P:BW} {A:Around} {Z:Sg} {hp:A0} {s:Shared} {E:Value->Shared->Prop}
theorem BW.Ok.noLimit(ok:P.Ok)(S:St P.w P.B Z hp s.heap):s.heap.NoLimit:=ok.nolimit.keeps S.base
theorem BW.Ok.noSeer(ok:P.Ok)(S:St P.w P.B Z hp s.heap):s.heap.NoSeer:=ok.seer.keeps S.base
theorem Vg{a b:Int}(h:Rn a b=true):IntMulOk a b:=by
 simp only[Rn,dN,decide_eq_true_eq] at h
 rcases h with h|h
 ·exact IntMulOk.of_left (intBits_le_64 (mY h) (mZ h))
 ·exact IntMulOk.of_right (intBits_le_64 (mY h) (mZ h))
theorem Db(S:St P.w P.B Z hp s.heap){ws:Array Value}(hr:RVs P.B s.heap Z vs ws.toList)(hb:Au vs hp≠.bad):
  ws.size<=sizeLine/\QV P Z s (Au vs hp) (.ref s.heap.objs.size) { s with heap:=s.heap.push { cls:=.type "list",data:=.seq ws } }:=by
 unfold Au at hb |-
 split at hb
 ·rename_i gh
  have hl:=hr.size
  refine⟨AY (hl▸gh),?_⟩
  rw[if_pos gh]
  refine xA (S.alloc (X:=[]) { cls:=.type "list",data:=.seq ws } 0 (.list vs) fun g=>⟨ws,0,bG _ rfl,RVs.grows g _ _ hr,AY gh⟩) fun S' g=>?_
  refine⟨_,_,_,rfl,⟨rfl,S',g⟩,s.heap.objs.size,0,rfl,?_⟩
  rw[<- S.len];simp
 ·exact absurd rfl hb
theorem St.isL(S:St P.w P.B Z hp s.heap){n:Nat}{off:Nat}(e:hp[n]?=some (.list xs))(hs:Z[n]?=some (a,off)):
  ∃ ws k,IsL s.heap a ws k/\RVs P.B s.heap Z xs ws.toList:=by
 refine AF (S.obj n a off _ hs e) fun ws k o r _=>?_
 exact⟨ws,k,o,r⟩
theorem St.isLen(S:St P.w P.B Z hp s.heap){n:Nat}{off:Nat}(e:hp[n]?=some (.list xs))(hs:Z[n]?=some (a,off)):xs.length<=sizeLine:=by
 refine AF (S.obj n a off _ hs e) fun ws k o r q=>?_
 exact q
inductive Yc:UK->AV->AV->Prop
 | int (op:UK) (x y:Int):Yc op (.int x) (.int y)
 | str (x y:List Nat):Yc .add (.str x) (.str y)
 | cat (n m:Nat):Yc .add (.loc n) (.loc m)
theorem Oi{h:A0}(hb:Cz op a b h≠.bad):Yc op a b:=by
 rcases a with _|_
 case int x=>
  rcases b with _|_
  case int y=>exact .int op x y
  all_goals exact absurd rfl hb
 case str x=>
  rcases b with _|_
  case str y=>rcases op with _|_<;>first|exact .str x y|exact absurd rfl hb
  all_goals exact absurd rfl hb
 case loc n=>
  rcases b with _|_
  case loc m=>rcases op with _|_<;>first|exact .cat n m|exact absurd rfl hb
  all_goals exact absurd rfl hb
 all_goals exact absurd rfl hb
theorem Cd{h:A0}(hb:AW o h≠.bad):∃ vs,o=some vs/\Au vs h≠.bad:=by
 rcases o with _|vs
 case none=>exact absurd rfl hb
 case some=>exact⟨vs,rfl,hb⟩
theorem Gq [Decidable c]{α:Type}{y:B7 α}(hb:(if c then B7.bad else y)≠.bad):¬ c:=fun hc=>hb (if_pos hc)
theorem FN [Decidable c]{α:Type}{y:B7 α}(hb:(if c then y else B7.bad)≠.bad):c:=aI fun hc=>hb (if_neg hc)
theorem Yd(S:St P.w P.B Z hp s.heap)(hroom:PylongRoom (model P.prog P.w) A s){t t':Tok}(iu:HY op=some iw)(hb:kL iw x y hp≠.bad):wpAny (model P.prog P.w) A (binaryOp op (.int x t) (.int y t')) (QV P Z s (kL iw x y hp)) E s:=by
 rcases op with _|_<;>(try exact A2 iu)<;>cases iu
 ·exact add_int ⟨_,_,_,rfl,.tok S _,_,rfl⟩
 ·exact sub_int ⟨_,_,_,rfl,.tok S _,_,rfl⟩
 ·have hm:=FN (c:=Rn x y=true) hb
  exact mul_int ⟨_,_,_,if_pos hm,.tok S _,_,rfl⟩ (Vg hm)
 ·have hy:=Gq (c:=y=0) hb
  exact mod_int hy ⟨_,_,_,if_neg hy,.tok S _,_,rfl⟩
 ·have hy:=FN (c:=0<=y/\y<=100/\x.natAbs<2 ^ 64) hb
  exact pow_int_small hy.1 (gI hy.2.1 (by decide)) hy.2.2 ⟨_,_,_,if_pos hy,.tok S _,_,rfl⟩
 ·have hy:=Gq (c:=y=0) hb
  exact floordiv_int hy ⟨_,_,_,if_neg hy,.tok S _,_,rfl⟩ (.inr hroom)
theorem Ye{vs:List AV}(h:SS a b=some vs):∃ xs ys,a=some xs/\b=some ys/\vs=xs++ys:=by
 rcases a with _|xs
 case none=>exact A2 h
 case some=>
  rcases b with _|ys
  case none=>exact A2 h
  case some=>exact⟨xs,ys,rfl,rfl,(Option.some.inj h).symm⟩
theorem Yg(S:St P.w P.B Z hp s.heap){v u:Value}(ra:RV P.B s.heap Z (.loc i) v)(rb:RV P.B s.heap Z (.loc j) u)(hb:AW (SS (Am hp i) (Am hp j)) hp≠.bad):wpAny (model P.prog P.w) A (binaryOp .Add v u) (QV P Z s (AW (SS (Am hp i) (Am hp j)) hp)) E s:=by
 refine Av ra fun a o A6 e1=>?_;try clear ra;subst A6;refine Av rb fun b o' A6 e2=>?_;try clear rb;subst A6
 refine A9 (Cd hb) fun vs hv hb=>?_
 rw[hv]
 refine AF (Ye hv) fun xs ys hi hj A6=>?_;subst A6
 refine aI fun gj=>?_
 refine Av (S.isL (B3 hi) e1) fun ws k hl rx=>?_
 refine Av (S.isL (B3 hj) e2) fun us k' jc ry=>?_
 have hr:RVs P.B s.heap Z (xs++ys) (ws++us).toList:=by rw[iA];exact rx.append ry
 refine xA (Db S hr hb) fun gh hq=>?_
 refine gj ?_
 exact PySem.P.add_list hl jc hq (by rw[Array.size_append] at gh;exact gh)
theorem Vh(ok:P.Ok)(S:St P.w P.B Z hp s.heap)(ar:E5 n q A){v u:Value}(iu:HY op=some iw)
  (ra:RV P.B s.heap Z a v) (rb:RV P.B s.heap Z b u) (hb:Cz iw a b hp≠.bad):wpAny (model P.prog P.w) A (binaryOp op v u) (QV P Z s (Cz iw a b hp)) E s:=by
 cases Oi hb with
 | int iw x y=>
  refine JF ar.frame fun f gd hf1 hf2 hf3 hf4 hf5=>?_
  refine xE ra fun t A6=>?_;try clear ra;subst A6;refine xE rb fun t' A6=>?_;try clear rb;subst A6
  exact Yd S (PylongRoom.of (ok.noLimit S) (by have t0:=ar.depth;show A.depth+100<recursionLimit;exact nA t0) (SeerAt.of (ok.noSeer S) ok.tree hf1 hf2 hf3 hf4 hf5)) iu hb
 | str x y=>
  rcases op with _|_<;>(try exact A2 iu)<;>cases iu
  refine xE ra fun t A6=>?_;try clear ra;subst A6;refine xE rb fun t' A6=>?_;try clear rb;subst A6
  have u0:=FN (c:=x.length+y.length<=Ab) hb
  refine SB.add (fun t' k=>⟨.str (x++y),_,_,if_pos u0,.tok S _,t',?_⟩) (AY u0)
  show Value.str ⟨x.toArray++y.toArray⟩ t'=_
  rw[List.append_toArray]
 | cat i j=>
  rcases op with _|_<;>(try exact A2 iu)<;>cases iu
  exact Yg S ra rb hb
end
end
section
open PySem PySem.Spec PyProof.Rows PySem.SeqAt
section
variable {w:World} {B:Bs} {Z:Sg} {hp:A0} {s:Shared}
theorem Tc:∀ {xs ys vs:List AV} {us:List Value} {r r':Bool},EU f xs vs=some r->EU f ys vs=some r'->RVs B s.heap Z xs us->RVs B s.heap Z ys us ->
  (∀ x y v u b b',f x v=some b->f y v=some b'->RV B s.heap Z x u->RV B s.heap Z y u->b=b')->r=r':=by
 intro xs
 induction xs with
 | nil=>
  intro ys vs us r r' h h' rx ry _
  rw[rx.nil] at ry
  rcases ys with _|⟨y,ys⟩
  ·rw[h] at h';exact Option.some.inj h'
  ·exact ry.elim
 | cons x xs ih=>
  intro ys vs us r r' h h' rx ry H
  refine AF rx.cons fun u us A6 r1 r2=>?_;subst A6
  rcases ys with _|⟨y,ys⟩
  ·exact ry.elim
  rcases vs with _|⟨v,vs⟩
  ·exact(Option.some.inj h).symm.trans (Option.some.inj h')
  refine AF (JI h) fun b c h1 h2 h3=>?_
  refine AF (JI h') fun b' c' h1' h2' h3'=>?_
  rw[h3,h3',H x y v u b b' h1 h1' r1 ry.1,ih h2 h2' r2 ry.2 H]
noncomputable def vM:Value->Option AV
 | .none=>some .none
 | .bool b=>some (.bool b)
 | .int i _=>some (.int i)
 | .str x _=>some (.str x.cps.toList)
 | _=>none
theorem RV.dec(r:RV B h Z x u)(hr:∀ a,u≠.ref a):vM u=some x:=by
 rcases x with _|b|i|t|xs|j|_
 ·rw[show u=.none from r];rfl
 ·rw[show u=.bool b from r];rfl
 ·refine xE r fun t e=>?_;rw[e];rfl
 ·refine xE r fun t e=>?_;rw[e];rfl
 ·refine C4 r fun a _ _ e _=>?_;exact absurd e (hr a)
 ·refine Av r fun a _ e _=>?_;exact absurd e (hr a)
 ·refine F7 r fun a _ _ _ e _=>?_;exact absurd e (hr a)
 ·refine Av r fun a _ e _=>?_;exact absurd e (hr a)
theorem Nc(S:St w B Z hp s.heap):∀ (n:Nat) (x y v:AV) (u:Value) (b b':Bool),FI hp n x v=some b->FI hp n y v=some b'->RV B s.heap Z x u->RV B s.heap Z y u->b=b'
 | 0,_,_,_,_,_,_,h,_,_,_=>nomatch h
 | n+1,x,y,v,u,b,b',h,h',rx,ry=>by
  by_cases hr:∃ a,u=.ref a
  ·have H:∀ x y v u b b',FI hp n x v=some b->FI hp n y v=some b'->RV B s.heap Z x u->RV B s.heap Z y u->b=b':=fun x y v u b b'=>Nc S n x y v u b b'
   refine xE hr fun a hu=>?_
   have ne:u≠.none:=by rw[hu];exact fun q=>nomatch q
   cases IR h with
   | none=>exact absurd rx ne
   | nv=>exact absurd rx ne
   | int=>refine xE rx fun t e=>?_;rw[hu] at e;cases e
   | str=>refine xE rx fun t e=>?_;rw[hu] at e;cases e
   | vn=>
    cases IR h' with
    | none=>exact absurd ry ne
    | nv=>rename_i hv;exact A2 hv
    | vn=>rfl
   | tup xs zs b e=>
    cases IR h' with
    | tup ys zs b' e'=>
     clear H hr
     refine B2 rx fun a ws k qq oa rx1=>?_
     refine B2 ry fun c us k' q ob ry1=>?_
     rw[qq] at q
     cases q
     have t0:=(Ky oa ob).2
     cases t0
     exact Tc e e' rx1 ry1 fun x y v u b b'=>Nc S n x y v u b b'
    | nv=>exact absurd ry ne
   | loc i k b e=>
    cases IR h' with
    | loc j k b' e'=>
     refine Av rx fun a o qq e1=>?_
     refine Av ry fun c o' q e2=>?_
     rw[qq] at q
     cases q
     obtain rfl:=S.inj e1 e2
     rw[e] at e';exact Option.some.inj e'
    | nv=>exact absurd ry ne
  ·have q:=(rx.dec fun a e=>hr ⟨a,e⟩).symm.trans (ry.dec fun a e=>hr ⟨a,e⟩)
   rw[Option.some.inj q] at h
   exact Option.some.inj (h.symm.trans h')
theorem kT(h:vH a b=some r):∃ x y,a=some x/\b=some y/\r=(x||y):=by
 rcases a with _|x
 ·exact A2 h
 rcases b with _|y
 ·exact A2 h
 exact⟨x,y,rfl,rfl,(Option.some.inj h).symm⟩
theorem F0:∀ {xs:List AV} {r:Bool},F8 hp v xs=some r->(∀ (j:Nat) x,xs[j]?=some x->∃ b,FI hp Cg x v=some b)/\(r=true↔∃ (j:Nat) (x:AV),xs[j]?=some x/\FI hp Cg x v=some true)
 | [],r,h=>by rw[<- Option.some.inj h];simp
 | x :: xs,r,h=>by
  refine AF (kT h) fun b c h1 h2 h=>?_
  replace h:=h.symm
  next=>
   next=>
    refine xA (F0 h2) fun ih1 ih2=>?_
    refine⟨fun j y hy=>?_,?_⟩
    ·rcases j with _|j
     case zero=>simp at hy;subst hy;exact⟨b,h1⟩
     case succ=>simp at hy;exact ih1 j y hy
    ·rw[<- h,dN,ih2]
     constructor
     ·rintro (rfl|⟨j,y,e1,e2⟩)
      ·exact⟨0,x,by simp,h1⟩
      ·exact⟨j+1,y,by simpa using e1,e2⟩
     ·rintro ⟨j,y,e1,e2⟩
      rcases j with _|j
      case zero=>simp at e1;subst e1;rw[h1] at e2;left;exact Option.some.inj e2
      case succ=>right;exact⟨j,y,by simpa using e1,e2⟩
open Classical in
theorem Oj(S:St w B Z hp s.heap){ws:Array Value}(hd:∀ (j:Nat) x,xs[j]?=some x->∃ b,FI hp Cg x v=some b)(rx:RVs B s.heap Z xs ws.toList)(rv:RV B s.heap Z v u)(hu:A.units+Cg<cLine):
  ∃ e:Value->Bool,(∀ y,y∈ws->EqAt A s y u (e y))/\∀ (j:Nat) y x,ws[j]?=some y->xs[j]?=some x->FI hp Cg x v=some (e y):=by
 have u0:∀ (j:Nat) (y:Value) (x:AV),ws[j]?=some y->xs[j]?=some x->FI hp Cg x v=some (decide (∃ (j:Nat) (x:AV),ws[j]?=some y/\xs[j]?=some x/\FI hp Cg x v=some true)):=by
  intro j y x hy hx
  refine xE (hd j x hx) fun b hb=>?_
  rw[hb]
  congr 1
  rcases b with _|_
  case true=>exact(decide_eq_true ⟨j,x,hy,hx,hb⟩).symm
  case false=>
   refine(decide_eq_false ?_).symm
   rintro ⟨k,z,hy',hz,ht⟩
   refine A9 (rx.get hx) fun v1 e1 q1=>?_
   refine A9 (rx.get hz) fun v2 e2 q2=>?_
   rw[bJ,hy] at e1
   rw[bJ,hy'] at e2
   cases e1;cases e2
   exact absurd (Nc S _ _ _ _ _ _ _ hb ht q1 q2) (by simp)
 refine⟨fun y=>decide (∃ (j:Nat) (x:AV),ws[j]?=some y/\xs[j]?=some x/\FI hp Cg x v=some true),?_,u0⟩
 ·intro y hy
  refine xE (Array.mem_iff_getElem.mp hy) fun j A6=>?_;refine xE A6 fun hj e=>?_
  have ey:ws[j]?=some y:=by rw[bW hj,e]
  have hl:=rx.size
  have ex:xs[j]?=some xs[j]:=aF (Zn hj hl)
  refine A9 (rx.get ex) fun v1 e1 q1=>?_
  rw[bJ,ey] at e1
  cases e1
  exact(KF S _ _ _ _ A _ _ (u0 j y _ ey ex) q1 rv hu).eq
theorem M5{ws:Array Value}(h:F8 hp v xs=some r)(rx:RVs B s.heap Z xs ws.toList)(he:∀ (j:Nat) y x,ws[j]?=some y->xs[j]?=some x->FI hp Cg x v=some (e y)):ws.any e=r:=by
 refine xA (F0 h) fun hd hr=>?_
 have hl:=rx.size
 have t0:ws.any e=true↔r=true:=by
  rw[hr,Array.any_eq_true]
  constructor
  ·rintro ⟨j,hj,ht⟩
   have ex:xs[j]?=some xs[j]:=aF (Zn hj hl)
   exact⟨j,_,ex,by rw[he j _ _ (bW hj) ex,ht]⟩
  ·rintro ⟨j,x,hx,ht⟩
   have hj:j<ws.size:=by have t1:=(List.getElem?_eq_some_iff.mp hx).1;exact rV t1 hl
   have t2:=he j _ x (bW hj) hx
   rw[ht] at t2
   exact⟨j,hj,(Option.some.inj t2).symm⟩
 rcases h1:ws.any e with _|_<;>rcases h2:r with _|_<;>simp_all
end
end
section
open PySem PySem.Spec PyProof.Rows PySem.SeqAt
section
variable {P:BW} {A:Around} {Z:Sg} {hp:A0} {s:Shared} {E:Value->Shared->Prop}
theorem IS(r:RV B h Z (Bc.pair a b).av v):∃ c,v=.ref c/\IsTupleKey (intKind P.prog P.w) h [a,b] c:=by
 refine B2 r fun c ws n A6 o rs=>?_;try clear r;subst A6
 refine⟨c,rfl,_,ws,n,o,rfl,rfl,?_⟩
 obtain⟨wl⟩:=ws
 replace rs:RVs B h Z [.int a,.int b] wl:=rs
 refine AF rs.cons fun x r1 A6 Fk rs2=>?_;subst A6;refine xE Fk fun t A6=>?_;try clear Fk;subst A6
 refine XM rs2.one fun y A6 u Fk=>?_;subst A6;subst Fk
 exact .cons (by simp[intKind,Value.isInt]) (.cons (by simp[intKind,Value.isInt]) .nil)
theorem Gr(r:RV P.B s.heap Z k.av v)(hu:A.units<cLine):
  ∃ d,∀ (E:Value->Shared->Prop) (Q:Int->Shared->Prop),Q (EZ P.w k) { s with toks:=s.toks+d }->wpAny (model P.prog P.w) A (pyHash v) Q E s:=by
 rcases k with x|⟨a,b⟩
 case str=>
  refine xE r fun t A6=>?_;try clear r;subst A6
  exact⟨1,fun E Q h=>wpAny_pyHash_str h⟩
 case pair=>
  refine A9 (IS (P:=P) r) fun c A6 ht=>?_;subst A6
  exact⟨3,fun E Q h=>wpAny_pyHash_tuple hu ht h⟩
theorem Ed.idx:∀ {ps:List (Bc×AV)} {es:List DictEntry},Ed w B h Z ps es ->
  (∀ p e,p∈ps->e.hash=EZ w p.1->RV B h Z p.1.av e.key->f e=(p.1==k))->es.findIdx? f=ps.findIdx? (fun p=>p.1==k)
 | [],[],_,_=>rfl
 | p :: ps,e :: es,r,H=>by
  rw[eL,eL,H p e (.head _) r.1.1 r.1.2.1,Ed.idx r.2 fun p e hp=>H p e (.tail _ hp)]
 | [],_ :: _,r,_=>r.elim
 | _ :: _,[],r,_=>r.elim
theorem Ed.mem:∀ {ps:List (Bc×AV)} {es:List DictEntry},Ed w B h Z ps es->∀ e∈es,∃ p∈ps,e.hash=EZ w p.1/\RV B h Z p.1.av e.key/\RV B h Z p.2 e.val
 | [],[],_,e,he=>nomatch he
 | p :: ps,e' :: es,r,e,he=>by
  rcases List.mem_cons.mp he with rfl|he
  ·exact⟨p,.head _,r.1⟩
  ·refine A9 (Ed.mem r.2 e he) fun q hq x=>?_
   exact⟨q,.tail _ hq,x⟩
 | [],_ :: _,r,_,_=>r.elim
 | _ :: _,[],r,_,_=>r.elim
noncomputable def RE:Bc->List Int
 | .pair a b=>[a,b]
 | _=>[]
theorem Ed.pairs:∀ {ps:List (Bc×AV)} {es:List DictEntry},Ed P.w B h Z ps es->(∀ p∈ps,p.1.sort=true) ->
  ∃ xs:List (List Int×Addr×Value),es=xs.map (entryOfKey (tupleKind (intKind P.prog P.w)))/\(∀ x∈xs,IsTupleKey (intKind P.prog P.w) h x.1 x.2.1)/\xs.map (·.1)=ps.map (fun p=>RE p.1)
 | [],[],_,_=>⟨[],rfl,fun _ hx=>(nomatch hx),rfl⟩
 | p :: ps,e :: es,r,H=>by
  refine F5 (Ed.pairs r.2 fun q hq=>H q (.tail _ hq)) fun xs h1 h2 h3=>?_
  obtain⟨k,v⟩:=p
  rcases k with i|⟨a,b⟩
  case str=>exact absurd (H _ (.head _)) (by simp[Bc.sort])
  case pair=>
   refine A9 (IS (P:=P) r.1.2.1) fun c hc ht=>?_
   refine⟨([a,b],c,e.val) :: xs,?_,?_,?_⟩
   ·rw[aZ,h1]
    congr 1
    obtain⟨hh,hk,hv⟩:=e
    simp only[entryOfKey]
    have e1:=r.1.1
    simp only at e1 hc
    rw[e1,hc]
    rfl
   ·intro x hx
    rcases List.mem_cons.mp hx with rfl|hx
    ·exact ht
    ·exact h2 x hx
   ·rw[aZ,h3];rfl
 | [],_ :: _,r,_=>r.elim
 | _ :: _,[],r,_=>r.elim
theorem HM:Be kvs k=true↔∀ p∈kvs,p.1.sort=k.sort:=by
 simp[Be,List.all_eq_true]
theorem M6(hk:k.sort=true):RE k=[a,b]↔k=.pair a b:=by
 rcases k with _|⟨x,y⟩
 ·exact nomatch hk
 ·exact⟨fun e=>by cases e;rfl,fun e=>by cases e;rfl⟩
theorem IU{ps:List (Bc×AV)}(hn:(ps.map (·.1)).Nodup)(h:ps[j]?=some (k,v)):ps.findIdx? (fun p=>p.1==k)=some j:=by
 refine xE (List.getElem?_eq_some_iff.mp h) fun hj e=>?_
 rw[List.findIdx?_eq_some_iff_getElem]
 refine⟨hj,by rw[e];simp,fun i hi=>?_⟩
 have u0:i<ps.length:=by exact iD hi hj
 intro q
 have q:=cA q
 have h1:(ps.map (·.1))[i]?=some k:=by rw[aK,aF u0];simp[q]
 have h2:(ps.map (·.1))[j]?=some k:=by rw[aK,h];rfl
 have:=(dW (by simpa using u0) hn).mp (h1.trans h2.symm)
 exact cE hi this
theorem F9{es:Array DictEntry}(ho:s.heap.get? a=some o)(hd:o.data=.dict es ep)(re:Ed P.w P.B s.heap Z kvs es.toList)(hn:(kvs.map (·.1)).Nodup)
  {k:Bc} {v:Value} (r:RV P.B s.heap Z k.av v) (hs:Be kvs k=true) (hu:A.units<cLine) {Q:Option Nat->Shared->Prop} (h:Q (kvs.findIdx? fun p=>p.1==k) s) :
  wpAny (model P.prog P.w) A (dictFind a v (EZ P.w k)) Q E s:=by
 have u0:=HM.mp hs
 rcases k with x|⟨p,q⟩
 case str=>
  refine xE r fun t A6=>?_;try clear r;subst A6
  refine wpAny_dictFind_of (knd:=PySem.strKind P.prog P.w) (k:=⟨x.toArray⟩) (by simp[PySem.strKind,Value.isStrOf]) ho hd (fun e he=>?_) ?_
  ·refine BT (re.mem e (Array.mem_toList_iff.mpr he)) fun p hp h1 h2 h3=>?_
   have:=u0 p hp
   obtain⟨kk,vv⟩:=p
   rcases kk with _|_<;>simp[Bc.sort] at this
   obtain⟨t',h2⟩:=h2
   exact⟨_,by rw[h2];simp[PySem.strKind,Value.isStrOf],h1⟩
  ·have:es.findIdx? (fun e=>(PySem.strKind P.prog P.w).is ⟨x.toArray⟩ e.key)=kvs.findIdx? (fun p=>p.1==Bc.str x):=by
    obtain⟨el⟩:=es
    rw[List.findIdx?_toArray]
    refine re.idx fun p e hp h1 h2=>?_
    have:=u0 p hp
    obtain⟨kk,vv⟩:=p
    rcases kk with _|_<;>simp[Bc.sort] at this
    obtain⟨t',h2⟩:=h2
    rw[h2]
    rename_i j
    show ((⟨j.toArray⟩:Str)==⟨x.toArray⟩)=(Bc.str j==Bc.str x)
    rw[HK]
    by_cases q:j=x<;>simp[q]
   rw[this];exact h
 case pair=>
  refine A9 (IS (P:=P) r) fun c A6 ht=>?_;subst A6
  refine F5 (re.pairs (P:=P) fun p hp=>(u0 p hp).trans rfl) fun xs h1 h2 h3=>?_
  have u2:xs.length=kvs.length:=by have:=congrArg List.length h3;simpa using this
  have u3:(xs.map (·.1)).Nodup:=by
   rw[h3]
   have:kvs.map (fun p=>RE p.1)=(kvs.map (·.1)).map RE:=by simp
   rw[this]
   refine List.pairwise_map.mpr (List.Pairwise.imp_of_mem ?_ hn)
   intro x y hx hy hne e
   refine hne ?_
   refine A9 (List.mem_map.mp hx) fun p1 hp1 A6=>?_;subst A6
   refine A9 (List.mem_map.mp hy) fun p2 hp2 A6=>?_;subst A6
   have s1:=u0 p1 hp1
   have s2:=u0 p2 hp2
   obtain⟨k1,_⟩:=p1
   obtain⟨k2,_⟩:=p2
   rcases k1 with _|⟨x1,y1⟩
   ·exact nomatch s1
   rcases k2 with _|⟨x2,y2⟩
   ·exact nomatch s2
   exact(M6 (a:=x2) (b:=y2) rfl).mp e
  have u1:∀ j:Nat,(∃ w,xs[j]?=some ([p,q],w))↔∃ w,kvs[j]?=some (Bc.pair p q,w):=by
   intro j
   have e:=congrArg (·[j]?) h3
   simp only[aK] at e
   constructor
   ·rintro ⟨w,hw⟩
    rw[hw] at e
    rcases hk:kvs[j]? with _|y
    case none=>rw[hk] at e;cases e
    case some=>
     rw[hk] at e
     simp only[fF,Option.some.injEq] at e
     obtain⟨k,w'⟩:=y
     have u4:=u0 _ (aX hk)
     have:=(M6 (a:=p) (b:=q) (u4.trans rfl)).mp e.symm
     exact⟨w',by simp at this;rw[this]⟩
   ·rintro ⟨w,hw⟩
    rw[hw] at e
    rcases hk:xs[j]? with _|y
    case none=>rw[hk] at e;cases e
    case some=>
     rw[hk] at e
     obtain⟨k,w'⟩:=y
     exact⟨w',by rw[show k=[p,q] from Option.some.inj e]⟩
  refine wpAny_dictFind_heap (knd:=tupleKind (intKind P.prog P.w)) (k:=[p,q]) hu ht ho hd h1 h2 u3 (fun hno=>?_) (fun j w hj=>?_)
  ·have:kvs.findIdx? (fun y=>y.1==Bc.pair p q)=none:=by
    rw[List.findIdx?_eq_none_iff]
    intro y hy
    refine xE (List.mem_iff_getElem.mp hy) fun j A6=>?_;refine xE A6 fun hj e=>?_
    obtain⟨k,w⟩:=y
    simp only[beq_eq_false_iff_ne,ne_eq]
    rintro rfl
    refine xE ((u1 j).mpr ⟨w,by rw[aF hj,e]⟩) fun w' hw'=>?_
    exact hno j w' hw'
   rw[this] at h;exact h
  ·refine xE ((u1 j).mp ⟨w,hj⟩) fun w' hw'=>?_
   rw[IU hn hw'] at h
   exact h
end
end
section
open PySem PySem.Spec PyProof.Rows PySem.SeqAt
section
variable {P:BW} {A:Around} {Z:Sg} {hp:A0} {s:Shared} {E:Value->Shared->Prop}
theorem F1:∀ (kvs:List (Bc×AV)),(kvs.findIdx? (fun p=>p.1==k)=none/\kvs.lookup k=none)\/∃ i v,kvs.findIdx? (fun p=>p.1==k)=some i/\kvs[i]?=some (k,v)/\kvs.lookup k=some v
 | []=>.inl ⟨rfl,rfl⟩
 | (k',v) :: r=>by
  rw[eL,cM]
  by_cases h:k'=k
  ·subst h
   exact .inr ⟨0,v,by simp,by simp,by simp⟩
  ·have h1:(k'==k)=false:=beq_eq_false_iff_ne.mpr h
   have h2:(k==k')=false:=beq_eq_false_iff_ne.mpr fun e=>h e.symm
   simp only[h1,h2,cC,if_false]
   rcases F1 r with ⟨e1,e2⟩|⟨i,w,e1,e2,e3⟩
   ·exact .inl ⟨by rw[e1];rfl,e2⟩
   ·exact .inr ⟨i+1,w,by rw[e1];rfl,by simpa using e2,e3⟩
theorem St.isDict(S:St P.w P.B Z hp s.heap){n:Nat}(e:hp[n]?=some (.dict kvs ep))(hs:Z[n]?=some (a,off)):
  ∃ es,C8 s.heap a (.type "dict") (.dict es (off+ep))/\Ed P.w P.B s.heap Z kvs es.toList/\(kvs.map (·.1)).Nodup/\(∀ p∈kvs,∀ q∈kvs,p.1.sort=q.1.sort)/\kvs.length<=sizeLine:=
 S.obj n a off _ hs e
theorem St.notMods(S:St P.w P.B Z hp s.heap)(ok:P.Ok){n:Nat}(hs:Z[n]?=some (a,off)):(a==sysModules)=false:=by
 refine beq_eq_false_iff_ne.mpr fun e=>?_
 refine xE ok.mods fun o ho=>?_
 have t0:=S.new _ (aX hs)
 simp only at t0
 rw[e,ho] at t0
 cases t0
theorem FO(S:St P.w P.B Z hp s.heap){j:Nat}(hj:hp[j]?=some (.dict kvs ep))(hs:Z[j]?=some (a,off))
  {k:Bc} {v:Value} (r:RV P.B s.heap Z k.av v) (ic:Be kvs k=true) (hu:A.units<cLine) :
  ∃ d,∀ (E:Value->Shared->Prop) (Q:Option Value->Shared->Prop),(kvs.lookup k=none->Q none { s with toks:=s.toks+d })->(∀ x u,kvs.lookup k=some x->RV P.B s.heap Z x u->Q (some u) { s with toks:=s.toks+d }) ->
   wpAny (model P.prog P.w) A (dictGet a v) Q E s:=by
 refine BT (S.isDict hj hs) fun es ho re hn _=>?_
 refine xE (Gr (A:=A) r hu) fun d hh=>?_
 refine⟨d,fun E Q h1 h2=>?_⟩
 unfold dictGet
 refine bD (aA (hh _ _ (aA (F9 (s:={ s with toks:=s.toks+d }) ho rfl re hn r ic hu ?_))))
 rcases F1 (k:=k) kvs with ⟨e1,e2⟩|⟨i,x,e1,e2,e3⟩
 ·rw[e1]
  exact aJ (h1 e2)
 ·rw[e1]
  refine aA (dG (s:={ s with toks:=s.toks+d }) ho rfl ?_)
  refine BT (re.get e2) fun en f1 f2 f3 f4=>?_
  rw[bJ] at f1
  rw[f1]
  exact aJ (h2 x _ e3 f4)
theorem RG(ok:P.Ok)(S:St P.w P.B Z hp s.heap){j:Nat}{ep:Nat}(hj:hp[j]?=some (.dict kvs ep))(hs:Z[j]?=some (a,off))
  {k:Bc} {v:Value} (r:RV P.B s.heap Z k.av v) (ic:Be kvs k=true) (hu:A.units+1<cLine) {Q:Bool->Shared->Prop} (h:∀ d,Q (kvs.lookup k).isSome { s with toks:=s.toks+d }) :
  wpAny (model P.prog P.w) A (contains (.ref a) v) Q E s:=by
 refine BT (S.isDict hj hs) fun es ho re hn _=>?_
 have hT:s.TypeIs (.ref a) "dict":=⟨_,ho,rfl⟩
 refine xE (FO (A:=A.in1) S hj hs r ic (by simpa using hu)) fun d hh=>?_
 unfold contains
 try with_reducible refine bD ?_
 refine aA (wpAny_specialOf hT slot_dict_contains.lookup ?_)
 show wpAny _ _ (if (some (Value.builtin "dict.__contains__")==some Value.none)=true then _ else _) _ E s
 rw[if_neg (by rw[beq_builtin_none];exact aD)]
 refine aA (wpAny_callSpecialUnlessNone?_slot (name:=Str.ofString "__contains__") hT slot_dict_contains
  (cJ slot_dict_contains hT entry_dict_contains ?_ (args_dict_contains _ _)))
 show wpAny _ _ (dictGet a v >>= _) _ _ s
 refine aA (hh _ _ (fun e=>?_) (fun x u e rx=>?_))
 ·show wpAny _ _ (Builtin.Dict.pendingKey? a v >>= _) _ _ _
  refine aA (wpAny_pendingKey_other (S.notMods ok hs) (aJ ⟨_,rfl,cN ?_⟩))
  have t0:=h d
  rw[e] at t0
  exact t0
 ·show wpAny _ _ (ret (.bool true)) _ _ _
  refine aJ ⟨_,rfl,cN ?_⟩
  have t1:=h d
  rw[e] at t1
  exact t1
theorem Gs(h:Ds x=some i):x=.int i:=by
 rcases x with _|_<;>first|exact A2 h|(cases h;rfl)
theorem HN{a:AV}(h:a.key?=some k):a=k.av:=by
 rcases a with _|_|_|s|vs|_<;>try exact A2 h
 case str=>cases h;rfl
 case tup=>
  rcases vs with _|⟨x,_|⟨y,_|⟨z,t⟩⟩⟩<;>try exact A2 h
  refine A9 (Option.bind_eq_some_iff.mp h) fun a ha h=>?_
  refine A9 (Option.bind_eq_some_iff.mp h) fun b hb h=>?_
  cases h;rw[Gs ha,Gs hb];rfl
theorem Nd(ok:P.Ok)(S:St P.w P.B Z hp s.heap){j:Nat}(hj:hp[j]?=some (.dict kvs ep))(hs:Z[j]?=some (a,off))
  {k:Bc} {v:Value} (r:RV P.B s.heap Z k.av v) (ic:Be kvs k=true) (hu:A.units+1<cLine) {x:AV} (hx:kvs.lookup k=some x) {Q:Value->Shared->Prop} (h:∀ d u,RV P.B s.heap Z x u->Q u { s with toks:=s.toks+d }) :
  wpAny (model P.prog P.w) A (getItem (.ref a) v) Q E s:=by
 refine BT (S.isDict hj hs) fun es ho re hn _=>?_
 have hT:s.TypeIs (.ref a) "dict":=⟨_,ho,rfl⟩
 refine xE (FO (A:=A.in1) S hj hs r ic (by simpa using hu)) fun d hh=>?_
 unfold getItem
 try with_reducible refine bD ?_
 refine aA (iM hT (by decide) ?_)
 refine aA (dT (name:=Str.ofString "__getitem__") hT slot_dict_getitem
  (cJ slot_dict_getitem hT entry_dict_getitem ?_ (args_dict_getitem _ _)))
 show wpAny _ _ (dictGet a v >>= _) _ _ s
 refine aA (hh _ _ (fun e=>?_) (fun x' u e rx=>?_))
 ·rw[hx] at e;cases e
 ·rw[hx] at e;cases e
  exact aJ ⟨u,rfl,aJ (h d u rx)⟩
theorem Ed.setAt(rv:RV B h Z x v):∀ {ps:List (Bc×AV)} {es:List DictEntry},Ed w B h Z ps es->∀ {i:Nat},ps.findIdx? (fun p=>p.1==k)=some i->(ps.map (·.1)).Nodup ->
  Ed w B h Z (ps.map (fun p=>if p.1==k then (p.1,x) else p)) (es.modify i fun e=>{ e with val:=v })
 | p :: ps,e :: es,r,i,hi,hn=>by
  rw[eL] at hi
  rw[aZ,dM] at hn
  by_cases h:p.1==k
  ·rw[if_pos h] at hi
   cases hi
   have u0:ps.map (fun p=>if p.1==k then (p.1,x) else p)=ps:=by
    conv=>rhs;rw[<- List.map_id ps]
    refine hZ fun q hq=>?_
    have t0:(q.1==k)=false:=beq_eq_false_iff_ne.mpr fun e=>hn.1 (by rw[cA h,<- e];exact cQ (f:=(·.1)) hq)
    rw[if_neg (by rw[t0];simp)];rfl
   rw[aZ,if_pos h,u0]
   exact⟨⟨r.1.1,r.1.2.1,rv⟩,r.2⟩
  ·rw[if_neg h] at hi
   rcases hj:ps.findIdx? (fun p=>p.1==k) with _|j
   case none=>rw[hj] at hi;cases hi
   case some=>
    rw[hj] at hi
    cases hi
    rw[aZ,if_neg h]
    exact⟨r.1,Ed.setAt rv r.2 hj hn.2⟩
 | [],[],_,_,hi,_=>by cases hi
 | [],_ :: _,r,_,_,_=>r.elim
 | _ :: _,[],r,_,_,_=>r.elim
theorem Nf(ps:List (Bc×AV)):(ps.map (fun p=>if p.1==k then (p.1,x) else p)).map (·.1)=ps.map (·.1):=by
 rw[cO]
 refine hZ fun q _=>?_
 simp only[Function.comp]
 split<;>rfl
theorem Hu(kvs:List (Bc×AV)):kvs.any (fun p=>p.1==k)=(kvs.lookup k).isSome:=by
 induction kvs with
 | nil=>rfl
 | cons p r ih=>
  obtain⟨k',v⟩:=p
  rw[List.any_cons,cM,ih]
  by_cases h:k'=k
  ·subst h;simp
  ·have h1:(k'==k)=false:=beq_eq_false_iff_ne.mpr h
   have h2:(k==k')=false:=beq_eq_false_iff_ne.mpr fun e=>h e.symm
   simp[h1,h2]
theorem I9(S:St P.w P.B Z hp s.heap){j:Nat}(hj:hp[j]?=some (.dict kvs ep))(hs:Z[j]?=some (a,off))
  {k:Bc} {v:Value} (r:RV P.B s.heap Z k.av v) (ic:Be kvs k=true) (hu:A.units<cLine) (gh:kvs.length<Ab) {x:AV} {u:Value} (rx:RV P.B s.heap Z x u) {Q:Unit->Shared->Prop}
  (h:∀ s',Ai P Z Z [] (hp.set j (.dict (BU kvs k x) (if (kvs.lookup k).isSome then ep else ep+1))) s s'->Q () s') :
  wpAny (model P.prog P.w) A (dictSet a v u) Q E s:=by
 refine F6 (S.isDict hj hs) fun es ho re hn jm ji=>?_
 refine xE (Gr (A:=A) r hu) fun d hh=>?_
 have u1:=re.length.trans bH
 unfold dictSet
 refine bD (aA (hh _ _ ?_))
 unfold dictSetHashed
 refine bD (aA (F9 (s:={ s with toks:=s.toks+d }) ho rfl re hn r ic hu ?_))
 rcases F1 (k:=k) kvs with ⟨e1,e2⟩|⟨i,x',e1,e2,e3⟩
 ·rw[e1]
  have u2:Heap.SameBut a s.heap (s.heap.update a (Obj.mapDictKeys fun es=>es.push ⟨EZ P.w k,v,u⟩)):=.update ..
  have u0:BU kvs k x=kvs++[(k,x)]:=by unfold BU;rw[Hu,e2];rfl
  refine aA (wpAny_rule (wpAny_updateDictKeys (s:={ s with toks:=s.toks+d }) ho rfl ?_ (hz:=by have t0:=AY (dY gh);exact A6 u1 t0)))
  refine xA (S.upd (X:=[]) hs u2.extBut (.dict (BU kvs k x) (if (kvs.lookup k).isSome then ep else ep+1)) (bR _ ho rfl) fun g=>by
   refine⟨es.push ⟨EZ P.w k,v,u⟩,?_,?_,?_,?_,?_⟩
   ·rw[e2]
    exact bR _ ho rfl
   ·rw[u0,iS]
    exact(re.grows g).append ⟨⟨rfl,RV.grows g _ _ r,RV.grows g _ _ rx⟩,trivial⟩
   ·rw[u0,aU,dU]
    refine⟨hn,by simp,fun y hy z hz e=>?_⟩
    simp at hz;subst hz;subst e
    refine A9 (List.mem_map.mp hy) fun p hp' A6=>?_;subst A6
    have t1:=(List.findIdx?_eq_none_iff.mp e1) p hp'
    simp at t1
   ·rw[u0]
    have hk:=HM.mp ic
    have t2:∀ p∈kvs++[(k,x)],p.1.sort=k.sort:=fun p hp'=>by
     rcases List.mem_append.mp hp' with hp'|hp'
     ·exact hk p hp'
     ·simp at hp';subst hp';rfl
    exact fun p hp' q hq=>(t2 p hp').trans (t2 q hq).symm
   ·rw[u0,aC]
    have t3:=AY gh
    simpa using t3) fun S' g=>?_
  exact h _ ⟨rfl,S',g⟩
 ·rw[e1]
  have u2:Heap.SameBut a s.heap (s.heap.update a (Obj.mapDict fun es=>es.modify i fun e=>{ e with val:=u })):=.update ..
  have u0:BU kvs k x=kvs.map (fun p=>if p.1==k then (p.1,x) else p):=by unfold BU;rw[Hu,e3];rfl
  refine aA (wpAny_rule (aA (wpAny_updateDict (s:={ s with toks:=s.toks+d }) ho rfl (wpAny_point ?_) (hz:=by simp))))
  refine xA (S.upd (X:=[]) hs u2.extBut (.dict (BU kvs k x) (if (kvs.lookup k).isSome then ep else ep+1)) (bR _ ho rfl) fun g=>by
   refine⟨es.modify i fun e=>{ e with val:=u },?_,?_,?_,?_,?_⟩
   ·rw[e3]
    exact bR _ ho rfl
   ·rw[u0]
    have t4:=Ed.setAt (RV.grows g _ _ rx) (re.grows g) e1 hn
    obtain⟨el⟩:=es
    simpa using t4
   ·rw[u0,Nf];exact hn
   ·rw[u0]
    have hk:=HM.mp ic
    have t5:∀ p∈kvs.map (fun p=>if p.1==k then (p.1,x) else p),p.1.sort=k.sort:=fun p hp'=>by
     refine A9 (List.mem_map.mp hp') fun q hq A6=>?_;subst A6
     split<;>exact hk q hq
    exact fun p hp' q hq=>(t5 p hp').trans (t5 q hq).symm
   ·rw[u0,aB];exact ji) fun S' g=>?_
  exact h _ ⟨rfl,S',g⟩
theorem Ng(S:St P.w P.B Z hp s.heap){j:Nat}(hj:hp[j]?=some (.dict kvs ep))(hs:Z[j]?=some (a,off))
  {k:Bc} {v:Value} (r:RV P.B s.heap Z k.av v) (ic:Be kvs k=true) (hu:A.units+1<cLine) (gh:kvs.length<Ab) {x:AV} {u:Value} (rx:RV P.B s.heap Z x u) {Q:Unit->Shared->Prop}
  (h:∀ s',Ai P Z Z [] (hp.set j (.dict (BU kvs k x) (if (kvs.lookup k).isSome then ep else ep+1))) s s'->Q () s') :
  wpAny (model P.prog P.w) A (setItem (.ref a) v u) Q E s:=by
 refine BT (S.isDict hj hs) fun es ho re hn _=>?_
 have hT:s.TypeIs (.ref a) "dict":=⟨_,ho,rfl⟩
 unfold setItem
 try with_reducible refine bD ?_
 refine aA (iM hT (by decide) ?_)
 refine aA (dT (name:=Str.ofString "__setitem__") hT slot_dict_setitem
  (cJ slot_dict_setitem hT entry_dict_setitem ?_ (args_dict_setitem _ _ _)))
 show wpAny _ _ (Builtin.Dict.notOrdered "__setitem__" ⟨[.ref a,v,u],[]⟩ >>= _) _ _ s
 refine aA (eO hT ?_)
 show wpAny _ _ (dictSet a v u >>= _) _ _ s
 exact aA (I9 (A:=A.in1) S hj hs r ic (by simpa using hu) gh rx fun s' a=>aJ ⟨.none,rfl,aJ (h s' a)⟩)
end
end
end Mine.Internal
set_option maxRecDepth 100000
namespace Mine.Internal
section
open PySem PyProof.Rows
section
variable {prog:Program} {w:World} {A:Around} {E:Value->Shared->Prop} {h:Heap} {g:Array GenState} {d:Drawn} {t:Nat} {os:OsState}
theorem Yh{a b:Addr}{oa ob:Obj}{es:Array DictEntry}{ep il:Nat}{Q:Value->Shared->Prop}(ha:(a==sysModules)=false)(hb:(b==sysModules)=false)(h1:h.get? a=some oa)(c1:oa.cls=.type "dict")(d1:oa.data=.dict es ep)(h2:h.get? b=some ob)(c2:ob.cls=.type "dict")(d2:ob.data=.dict #[] il)(hu:A.units<cLine)
  (hq:Q (.bool !es.isEmpty) ⟨h,g,d,t,os⟩):wpAny (model prog w) A (richCompare .NotEq (.ref a) (.ref b)) Q E ⟨h,g,d,t,os⟩:=by
 have t1:(⟨h,g,d,t,os⟩:Shared).TypeIs (.ref a) "dict":=⟨_,h1,c1⟩
 have t2:(⟨h,g,d,t,os⟩:Shared).TypeIs (.ref b) "dict":=⟨_,h2,c2⟩
 refine wpAny_richCompare_same_room (op:=.NotEq) t1 t2 PySem.F.slot_dict_ne (cJ PySem.F.slot_dict_ne t1 PySem.F.entry_dict_ne ?_ (PySem.F.args_dict_ne_2 _ _)) hu
 show wpAny _ _ (Builtin.Dict.dictSlotArgs "__ne__" ⟨[.ref a,.ref b],[]⟩ >>= _) _ _ _
 refine aA ?_
 unfold Builtin.Dict.dictSlotArgs
 refine aA (eO t1 ?_)
 show wpAny _ _ (pure (Value.ref a,Value.ref b)) _ _ _
 refine aJ ?_
 refine aA (wpAny_isInstance (T:="dict") t2 PySem.F.sub_dict_dict ?_)
 simp only[fU,cC,if_false]
 refine aA (aJ (aA (aJ ?_)))
 refine aA ?_
 unfold Builtin.Dict.samePairs Builtin.Dict.showsAll
 rw[if_neg (show ¬ (a==sysModules)=true by rw[ha];exact aD),if_neg (show ¬ (b==sysModules)=true by rw[hb];exact aD)]
 refine aA (aJ (aA (aJ ?_)))
 refine aA (dG h1 d1 ?_)
 dsimp only
 refine aA (dG h2 d2 ?_)
 by_cases gh:es.size=0
 ·rw[if_neg (by rw[gh];simp)]
  refine aA (jK h1 d1 ?_)
  refine aA ?_
  rw[gh]
  rw[Std.Legacy.Range.forIn_eq_forIn_range']
  refine aJ (aJ ?_)
  refine aJ ⟨_,rfl,(fun x=>nomatch x),?_⟩
  have t0:es.isEmpty=true:=by simpa [Array.isEmpty] using gh
  rw[t0] at hq
  exact hq
 ·rw[if_pos (by simpa using gh)]
  refine aA (wpAny_rule (aJ ?_))
  refine aJ ⟨_,rfl,(fun x=>nomatch x),?_⟩
  have t3:es.isEmpty=false:=by simpa [Array.isEmpty] using gh
  rw[t3] at hq
  exact hq
end
end
section
open PySem PySem.Spec PyProof.Rows PySem.SeqAt
inductive QB (P:BW) (Z:Sg) (hp:A0) (s:Shared) (r:Option Bool) (c:Value) (s':Shared):Prop
 | mk (b:Bool) (e:c=.bool b) (er:r=some b) (a:Ai P Z Z [] hp s s')
section
variable {P:BW} {A:Around} {Z:Sg} {hp:A0} {s:Shared} {E:Value->Shared->Prop}
theorem Td(h:N1 kvs o=some r):∃ k,o=some k/\Be kvs k=true/\r=(kvs.lookup k).isSome:=by
 rcases o with _|k
 case none=>exact A2 h
 case some=>exact xA (Cr h) fun hs e=>⟨_,rfl,hs,(Option.some.inj e).symm⟩
theorem KI(h:Jh v=some c):v=.str [c]:=by
 rcases v with _|_
 case str x=>
  rcases x with _|⟨a,r⟩
  case nil=>exact A2 h
  case cons=>
   rcases r with _|⟨_,_⟩
   case nil=>cases (show some a=some c from h);rfl
   case cons=>exact A2 h
 all_goals exact A2 h
inductive mQ (hp:A0) (a:AV) (r:Bool):AV->Prop
 | tup (xs:List AV) (h:F8 hp a xs=some r):mQ hp a r (.tup xs)
 | lst (j:Nat) (xs:List AV) (hj:hp[j]?=some (.list xs)) (h:F8 hp a xs=some r):mQ hp a r (.loc j)
 | dct (j:Nat) (kvs:List (Bc×AV)) (ep:Nat) (hj:hp[j]?=some (.dict kvs ep)) (h:N1 kvs a.key?=some r):mQ hp a r (.loc j)
 | str (y:List Nat) (c:Nat) (h:a=.str [c]) (hr:r=decide (c∈y)):mQ hp a r (.str y)
 | sub (x y:List Nat) (h:a=.str x) (hr:r=Jg x y):mQ hp a r (.str y)
theorem Ia(h:Gf v=some x):v=.str x:=by
 rcases v with _|_
 case str y=>cases (show some y=some x from h);rfl
 all_goals exact A2 h
theorem Yi(h:LF hp a b=some r):mQ hp a r b:=by
 rcases b with _|_
 case tup xs=>exact .tup xs h
 case str y=>
  have h:(match Jh a with
   | some c=>some (decide (c∈y))
   | none=>(Gf a).map fun x=>Jg x y)=some r:=h
  rcases hc:Jh a with _|c
  ·rw[hc] at h
   refine A9 (Option.map_eq_some_iff.mp (show (Gf a).map (fun x=>Jg x y)=some r from h)) fun x hx hr=>?_
   exact .sub x y (Ia hx) hr.symm
  ·rw[hc] at h
   exact .str y c (KI hc) (Option.some.inj h).symm
 case loc j=>
  delta LF at h
  dsimp only at h
  rcases hj:hp[j]? with _|o
  case none=>rw[hj] at h;exact A2 h
  case some=>
   rw[hj] at h
   rcases o with _|_
   case list xs=>exact .lst j xs hj h
   case dict kvs ep=>exact .dct j kvs ep hj h
   all_goals exact A2 h
 all_goals exact A2 h
theorem RH(ok:P.Ok)(S:St P.w P.B Z hp s.heap)(ar:E5 n q A)(ra:RV P.B s.heap Z a v)(rb:RV P.B s.heap Z b u)(h:LF hp a b=some r):
  wpAny (model P.prog P.w) A (compareOp .In v u) (QB P Z hp s (some r)) E s/\wpAny (model P.prog P.w) A (compareOp .NotIn v u) (QB P Z hp s (some (!r))) E s:=by
 have hu:A.in1.units+Cg<cLine:=by have t0:=ar.units;show A.units+1+6<_;exact ql (Ck _ _ _) [((qA (qA (qA Af (.mulL 100 Aj)) (qN 100)) qI),AA)] (qA (qA BP (qN 6)) qI) AA rfl t0
 have u1:=Yi h
 clear h
 cases u1 with
 | tup xs h=>
  refine B2 rb fun c ws k A6 ob rx=>?_;try clear rb;subst A6
  refine A9 (Oj S (A:=A.in1) (F0 h).1 rx ra hu) fun e h1 h2=>?_
  have h3:=M5 h rx h2
  exact⟨in_tupleAt e (AX ob) h1 ⟨r,by rw[h3],rfl,.refl S⟩,notIn_tupleAt e (AX ob) h1 ⟨!r,by rw[h3],rfl,.refl S⟩⟩
 | str y c ha hr=>
  subst ha hr
  refine xE ra fun t A6=>?_;try clear ra;subst A6;refine xE rb fun t' A6=>?_;try clear rb;subst A6
  have hf:=StrLaws.found_one ⟨y.toArray⟩ c
  exact⟨PySem.P.in_str ⟨_,by rw[hf],rfl,.refl S⟩,PySem.P.notIn_str ⟨_,by rw[hf],rfl,.refl S⟩⟩
 | sub x y ha hr=>
  subst ha hr
  refine xE ra fun t A6=>?_;try clear ra;subst A6;refine xE rb fun t' A6=>?_;try clear rb;subst A6
  exact⟨PySem.P.in_str ⟨_,rfl,rfl,.refl S⟩,PySem.P.notIn_str ⟨_,rfl,rfl,.refl S⟩⟩
 | lst j xs hj h=>
  refine Av rb fun c o A6 e1=>?_;try clear rb;subst A6
  refine A9 (S.isList hj e1) fun ws hl rx=>?_
  refine A9 (Oj S (A:=A.in1) (F0 h).1 rx ra hu) fun e h1 h2=>?_
  have h3:=M5 h rx h2
  exact⟨in_listAt e hl h1 ⟨r,by rw[h3],rfl,.refl S⟩,notIn_listAt e hl h1 ⟨!r,by rw[h3],rfl,.refl S⟩⟩
 | dct j kvs ep hj h=>
  refine Av rb fun c o A6 e1=>?_;try clear rb;subst A6
  refine F5 (Td h) fun k hk ic A6=>?_;subst A6
  have u0:A.units+1<cLine:=by have t1:=ar.units;exact mX t1
  rw[HN hk] at ra
  constructor
  ·show wpAny _ _ (contains (Value.ref c) v >>= fun b=>pure (Value.bool b)) _ _ _
   exact aA (RG ok S hj e1 ra ic u0 fun d=>aJ ⟨_,rfl,rfl,.tok S _⟩)
  ·show wpAny _ _ (contains (Value.ref c) v >>= fun b=>pure (Value.bool (!b))) _ _ _
   exact aA (RG ok S hj e1 ra ic u0 fun d=>aJ ⟨_,rfl,rfl,.tok S _⟩)
theorem Vi(h:UR op a b=some r):∃ x y,a=.int x/\b=.int y/\PT op x y=some r:=by
 rcases a with _|_<;>try exact A2 h
 rcases b with _|_<;>try exact A2 h
 exact⟨_,_,rfl,rfl,h⟩
theorem M7(h:FH hp j=some fs):∃ k,hp[j]?=some (.inst k)/\hp[k]?=some (.ns fs):=by
 delta FH at h
 rcases hj:hp[j]? with _|o
 case none=>rw[hj] at h;exact A2 h
 case some=>
  rw[hj] at h
  rcases o with _|_
  case inst i=>
   dsimp only at h
   rcases hi:hp[i]? with _|o
   case none=>rw[hi] at h;exact A2 h
   case some=>
    rw[hi] at h
    rcases o with _|_
    case ns gs=>cases (show some gs=some fs from h);exact⟨i,rfl,hi⟩
    all_goals exact A2 h
  all_goals exact A2 h
theorem Vj(h:LZ hp a b=some r):∃ i j kvs ep d,a=.loc i/\b=.loc j/\hp[i]?=some (.dict kvs ep)/\hp[j]?=some (.dict [] d)/\r=!kvs.isEmpty:=by
 rcases a with _|_|_|_|_|i|_<;>try exact A2 h
 rcases b with _|_|_|_|_|j|_<;>try exact A2 h
 refine aI fun gj=>?_
 refine A9 (Option.bind_eq_some_iff.mp (show ((Bi hp j).bind fun d=>(vI (Bi hp i) d.1).map not)=some r from h)) fun d hd h=>?_
 refine A9 (Option.map_eq_some_iff.mp h) fun k hk hr=>?_
 refine xA (Cr hk) fun he hk=>?_
 refine A9 (Option.map_eq_some_iff.mp hk) fun d' gm hr'=>?_
 refine gj ?_
 have h2:=Dh hd
 rw[List.isEmpty_iff.mp he] at h2
 exact⟨i,j,d'.1,d'.2,d.2,rfl,rfl,Dh gm,h2,by rw[<- hr,<- hr']⟩
theorem Yj(ok:P.Ok)(S:St P.w P.B Z hp s.heap)(ar:E5 n q A){v u:Value}(ra:RV P.B s.heap Z a v)(rb:RV P.B s.heap Z b u)(h:LZ hp a b=some r):wpAny (model P.prog P.w) A (compareOp .NotEq v u) (QB P Z hp s (some r)) E s:=by
 obtain⟨i,j,kvs,ep,d,rfl,rfl,hi,hj,rfl⟩:=Vj h
 refine Av ra fun a1 o1 A6 e1=>?_;try clear ra;subst A6;refine Av rb fun a2 o2 A6 e2=>?_;try clear rb;subst A6
 refine A9 (S.isDict hi e1) fun es ho r1=>?_
 refine A9 (S.isDict hj e2) fun es2 ho2 r2=>?_
 have h0:es2=#[]:=by
  have t0:=r2.1.length
  obtain⟨l⟩:=es2
  rcases l with _|_
  ·rfl
  ·cases t0
 subst h0
 have hl:=r1.1.length
 have u0:es.isEmpty=kvs.isEmpty:=by
  obtain⟨l⟩:=es
  rcases l with _|_<;>rcases kvs with _|_<;>first|rfl|cases hl
 obtain⟨h',g,dd,t,os⟩:=s
 show wpAny _ _ (richCompare .NotEq (.ref a1) (.ref a2)) _ _ _
 exact Yh (S.notMods ok e1) (S.notMods ok e2) ho rfl rfl ho2 rfl rfl (by have t1:=ar.units;exact ql (Ck _ _ _) [((qA (qA (qA Af (.mulL 100 Aj)) (qN 100)) qI),AA)] BP AA rfl t1) (by rw[u0];exact⟨_,rfl,rfl,.refl S⟩)
theorem Fo(ok:P.Ok)(S:St P.w P.B Z hp s.heap)(ar:E5 n q A)(iu:BZ op=some cop)(ra:RV P.B s.heap Z a v)(rb:RV P.B s.heap Z b u)(h:B9 hp cop a b=some r):
  wpAny (model P.prog P.w) A (compareOp op v u) (QB P Z hp s (some r)) E s:=by
 have hu:A.units+Cg<cLine:=by have t0:=ar.units;show A.units+6<_;exact nB t0
 have u0:∀ {o:UF},UR o a b=some r->∃ x y t t',v=.int x t/\u=.int y t'/\PT o x y=some r:=fun h=>by
  obtain⟨x,y,rfl,rfl,h⟩:=Vi h
  refine xE ra fun t A6=>?_;try clear ra;subst A6;refine xE rb fun t' A6=>?_;try clear rb;subst A6
  exact⟨x,y,t,t',rfl,rfl,h⟩
 rcases op with _|_<;>(try exact A2 iu)<;>cases iu
 ·exact(KF S _ _ _ _ A _ _ h ra rb hu).rc _ _ _ _ ⟨r,rfl,rfl,.refl S⟩
 ·have h:(match LZ hp a b with
   | some r=>some r
   | none=>(FI hp Cg a b).map not)=some r:=h
  rcases hn:LZ hp a b with _|k
  case some=>rw[hn] at h;cases h;exact Yj ok S ar ra rb hn
  rw[hn] at h
  refine A9 (Option.map_eq_some_iff.mp (show (FI hp Cg a b).map not=some r from h)) fun k he A6=>?_;subst A6
  exact(KF S _ _ _ _ A _ _ he ra rb hu).ne _ _ _ _ ⟨!k,rfl,rfl,.refl S⟩
 ·obtain⟨x,y,t,t',rfl,rfl,h⟩:=u0 (o:=.lt) h;cases h;exact PySem.P.lt_int ⟨_,rfl,rfl,.refl S⟩
 ·obtain⟨x,y,t,t',rfl,rfl,h⟩:=u0 (o:=.le) h;cases h;exact PySem.P.le_int ⟨_,rfl,rfl,.refl S⟩
 ·obtain⟨x,y,t,t',rfl,rfl,h⟩:=u0 (o:=.gt) h;cases h;exact PySem.P.gt_int ⟨_,rfl,rfl,.refl S⟩
 ·obtain⟨x,y,t,t',rfl,rfl,h⟩:=u0 (o:=.ge) h;cases h;exact PySem.P.ge_int ⟨_,rfl,rfl,.refl S⟩
 ·exact(RH ok S ar ra rb h).1
 ·refine A9 (Option.map_eq_some_iff.mp (show (LF hp a b).map not=some r from h)) fun k he A6=>?_;subst A6
  exact(RH ok S ar ra rb he).2
end
end
section
open PySem PySem.Spec PyProof.Rows PySem.SeqAt
section
variable {P:BW} {A:Around} {Z:Sg} {hp:A0} {s:Shared} {E:Value->Shared->Prop}
theorem FP(h:n<=Ab):(n:Int)<2 ^ 63:=by have t0:Ab=1048576:=rfl;exact wC t0 h
theorem KJ(h:n<=sizeLine):(n:Int)<2 ^ 63:=by have t0:sizeLine=16777216:=rfl;exact wD t0 h
theorem RIs.length:∀ {xs:List Int} {vs:List Value},RIs xs vs->xs.length=vs.length
 | [],[],_=>rfl
 | _ :: _,_ :: _,r=>by simp[RIs.length r.2]
 | [],_ :: _,r=>r.elim
 | _ :: _,[],r=>r.elim
theorem RIs.rvs:∀ {xs:List Int} {vs:List Value},RIs xs vs->RVs B h Z (xs.map .int) vs
 | [],[],r=>trivial
 | _ :: _,_ :: _,r=>⟨r.1,RIs.rvs r.2⟩
 | [],_ :: _,r=>r.elim
 | _ :: _,[],r=>r.elim
theorem LJ(ok:P.Ok)(S:St P.w P.B Z hp s.heap){j:Nat}(hj:hp[j]?=some (.dict kvs ep))(hs:Z[j]?=some (a,off))
  (h:∀ t k,Q (.int kvs.length t) { s with toks:=k }):wpAny (model P.prog P.w) A (call (.builtin "len") [.ref a]) Q E s:=by
 refine F6 (S.isDict hj hs) fun es ho re hn jm ji=>?_
 have hT:s.TypeIs (.ref a) "dict":=⟨_,ho,rfl⟩
 have u1:=re.length.trans bH
 have u0:=KJ ji
 refine Calls.call_function_entry kind_len plain_len entry_len (args_len1 _) ?_
 unfold Builtin.«len»
 refine aA (m:=oneArg "len" _) (aJ ?_)
 refine aA (m:=callSpecial? (.ref a) (Str.ofString "__len__")) (dT (name:=Str.ofString "__len__") hT F.slot_dict_len
  (cJ F.slot_dict_len hT F.entry_dict_len ?_ (F.args_dict_len_1 _)))
 show wpAny _ _ (dictSize a >>= _) _ _ s
 unfold dictSize
 refine aA (aA (dG ho rfl (aJ ?_)))
 show wpAny _ _ (Builtin.Dict.pendingCount a >>= _) _ _ s
 refine aA (wpAny_pendingCount_other (S.notMods ok hs) ?_)
 refine wpAny_ret_mkInt ?_
 rw[Nat.add_zero,<- u1]
 refine aA (bD (aJ ?_))
 refine aA (wpAny_letGo ?_)
 show wpAny _ _ (if ((kvs.length:Nat):Int)<0 then _ else _) _ _ _
 rw[if_neg (by exact fun g=>jf (CX _) [(Ca,jO),(jO,AC)] rfl g (aQ _))]
 show wpAny _ _ (if ((kvs.length:Nat):Int) >= 2 ^ 63 then _ else _) _ _ _
 rw[if_neg (nC u0)]
 exact aA (wpAny_mkInt (aJ ⟨_,rfl,h _ _⟩))
theorem Gu(S:St P.w P.B Z hp s.heap)(h:P.B.h₀.IsList a items):s.heap.IsList a items:=by
 refine A9 h fun o ho r=>?_
 exact⟨o,S.base a o ho,r⟩
theorem HO [Decidable p]{r:B7 AV}(h:(if p then r else .bad)≠.bad):p:=aI fun n=>h (if_neg n)
theorem Vk(ok:P.Ok)(S:St P.w P.B Z hp s.heap){v:Value}(ra:RV P.B s.heap Z a v)(hb:Gg a hp≠.bad):wpAny (model P.prog P.w) A (call (.builtin "len") [v]) (QV P Z s (Gg a hp)) E s:=by
 rcases a with _|_
 case str x=>
  refine xE ra fun t A6=>?_;try clear ra;subst A6
  have u0:=HO hb
  rw[show Gg (.str x) hp=.ok (.int x.length) hp from if_pos u0]
  have hl:(⟨x.toArray⟩:Str).length=x.length:=bL
  have t0:=FP u0
  exact PySem.P.len_str (by rw[hl];exact nC t0) ⟨_,_,_,rfl,.tok S _,s.toks+1,by rw[hl]⟩
 case tup xs=>
  refine B2 ra fun a ws n A6 o rx=>?_;try clear ra;subst A6
  have u0:=HO hb
  rw[show Gg (.tup xs) hp=.ok (.int xs.length) hp from if_pos u0]
  have hl:=rx.size
  have t1:=FP u0
  exact PySem.P.len_tuple o (wE hl t1) ⟨_,_,_,rfl,.tok S _,s.toks+1,by rw[hl]⟩
 case scr xs=>
  refine AF ra fun a items A6 hl rx=>?_;try clear ra;subst A6
  have u0:=HO hb
  rw[show Gg (.scr xs) hp=.ok (.int xs.length) hp from if_pos u0]
  have hx:=rx.length.trans bH
  have t2:=FP u0
  exact len_list (Gu S hl) (nD hx t2) ⟨_,_,_,rfl,.tok S _,s.toks+1,by rw[hx]⟩
 case loc j=>
  refine Av ra fun a o A6 e1=>?_;try clear ra;subst A6
  delta Gg at hb |-
  dsimp only at hb |-
  rcases hj:hp[j]? with _|ob
  case none=>rw[hj] at hb;exact absurd rfl hb
  case some=>
   rw[hj] at hb
   rcases ob with _|_
   case list xs=>
    refine Av (S.isL hj e1) fun ws k hl rx=>?_
    have hx:=rx.size
    have t3:=KJ (S.isLen hj e1)
    exact len_list (CJ hl) (nD hx t3) ⟨_,_,_,rfl,.tok S _,s.toks+1,by rw[hx]⟩
   case dict kvs ep=>exact LJ ok S hj e1 fun t k=>⟨_,_,_,rfl,.tok S _,_,rfl⟩
   all_goals exact absurd rfl hb
 all_goals exact absurd rfl hb
theorem JJ{α:Type}{xs:List α}{x:α}(h:idx? xs k=some x):∃ j,seqIndex? k xs.length=some j/\xs[j]?=some x/\-(xs.length:Int)<=k/\k<xs.length/\(0<=k->j=k.toNat)/\(k<0->j=(k+xs.length).toNat):=by
 unfold idx? at h
 split at h
 ·rename_i h0
  have u0:=(List.getElem?_eq_some_iff.mp h).1
  refine⟨k.toNat,?_,h,by exact jl (DT _ _) [(jO,AC),(jO,BH)] (.neg BH) AC rfl h0 (aQ _),by exact nE u0,fun _=>rfl,fun h=>by exact wF h h0⟩
  unfold seqIndex?
  have h1:¬ k<0:=by exact nF h0
  have h2:k<(xs.length:Int):=by exact nE u0
  simp[h1,h0,h2]
 ·split at h
  ·rename_i h0 h1
   have u0:=(List.getElem?_eq_some_iff.mp h).1
   refine⟨(k+xs.length).toNat,?_,h,by exact jl (DT _ _) [(jO,(jA AC BH))] (.neg BH) AC rfl h1,by exact jl (LE _ _ _) [(Ca,BH),((jA II BH),AC),(jO,BH)] XH BH rfl (bA.2 u0) (eW _) (aQ _),fun h=>by exact wG u0 h,fun _=>rfl⟩
   unfold seqIndex?
   have h2:k<0:=by exact jl (LE _ _ _) [(Ca,BH),((jA II BH),AC)] XH jO rfl (bA.2 u0) (eW _)
   have h3:k+(xs.length:Int)<(xs.length:Int):=by exact jl (DT _ _) [(Ca,jO)] (jA (jA AC BH) jI) BH rfl h2
   simp[h2,h1,h3]
  ·cases h
theorem H9(h:IN xs (Ds i)=some x):∃ k,i=.int k/\xs.length<=Ab/\idx? xs k=some x:=by
 rcases i with _|_|k|_<;>try exact A2 h
 exact xA (Cr h) fun hs h=>⟨_,rfl,hs,h⟩
theorem Yk(h:XX kvs o=some x):∃ k,o=some k/\Be kvs k=true/\kvs.lookup k=some x:=by
 rcases o with _|k
 case none=>exact A2 h
 case some=>exact xA (Cr h) fun hs h=>⟨_,rfl,hs,h⟩
theorem kU(hb:Ey o h≠.bad):∃ v,o=some v:=by
 rcases o with _|v
 case none=>exact absurd rfl hb
 case some=>exact⟨v,rfl⟩
inductive Te (hp:A0) (i:AV):AV->AV->Prop
 | str (xs:List Nat) (x:AV) (h:IN (xs.map fun c=>.str [c]) (Ds i)=some x):Te hp i (.str xs) x
 | tup (xs:List AV) (x:AV) (h:IN xs (Ds i)=some x):Te hp i (.tup xs) x
 | scr (xs:List Int) (x:AV) (h:IN (xs.map .int) (Ds i)=some x):Te hp i (.scr xs) x
 | lst (j:Nat) (xs:List AV) (x:AV) (hj:hp[j]?=some (.list xs)) (h:IN xs (Ds i)=some x):Te hp i (.loc j) x
 | dct (j:Nat) (kvs:List (Bc×AV)) (ep:Nat) (x:AV) (hj:hp[j]?=some (.dict kvs ep)) (h:XX kvs i.key?=some x):Te hp i (.loc j) x
theorem Du(hb:Ey o h≠.bad):∃ v,o=some v/\Ey o h=.ok v h:=by
 rcases o with _|v
 case none=>exact absurd rfl hb
 case some=>exact⟨v,rfl,rfl⟩
theorem KL(hb:Cc a i hp≠.bad):∃ x,Cc a i hp=.ok x hp/\Te hp i a x:=by
 rcases a with _|_
 case str xs=>refine A9 (Du hb) fun x hx e=>?_;exact⟨x,e,.str xs x hx⟩
 case tup xs=>refine A9 (Du hb) fun x hx e=>?_;exact⟨x,e,.tup xs x hx⟩
 case scr xs=>refine A9 (Du hb) fun x hx e=>?_;exact⟨x,e,.scr xs x hx⟩
 case loc j=>
  delta Cc at hb |-
  dsimp only at hb |-
  rcases hj:hp[j]? with _|ob
  case none=>rw[hj] at hb;exact absurd rfl hb
  case some=>
   rw[hj] at hb
   rcases ob with _|_
   case list xs=>refine A9 (Du hb) fun x hx e=>?_;exact⟨x,e,.lst j xs x hj hx⟩
   case dict kvs ep=>refine A9 (Du hb) fun x hx e=>?_;exact⟨x,e,.dct j kvs ep x hj hx⟩
   all_goals exact absurd rfl hb
 all_goals exact absurd rfl hb
theorem EE{a:Addr}(hl:s.heap.IsList a ws)(rx:RVs P.B s.heap Z xs ws.toList)(gh:xs.length<=Ab)(hi:idx? xs k=some x){Q:Value->Shared->Prop}(h:∀ w,RV P.B s.heap Z x w->Q w s):
  wpAny (model P.prog P.w) A (getItem (.ref a) (.int k t)) Q E s:=by
 refine MU (JJ hi) fun i h1 h2 h3 h4 h5 h6=>?_
 have u0:=rx.size
 refine A9 (rx.get h2) fun w e iz=>?_
 rw[bJ] at e
 have t0:=FP gh
 by_cases h0:0<=k
 ·exact wpAny_getItem_list hl h0 (rW h4 t0) (by rw[<- h5 h0];exact e) (h w iz)
 ·exact wpAny_getItem_list_neg hl (Int.not_le.1 h0) (wH u0 h3) (rX t0 h3) (by rw[<- u0,<- h6 (Int.not_le.1 h0)];exact e) (h w iz)
theorem Vl(ok:P.Ok)(S:St P.w P.B Z hp s.heap){q:Bool}(ar:E5 n q A){v u:Value}(ra:RV P.B s.heap Z a v)(rb:RV P.B s.heap Z b u)(hb:Cc a b hp≠.bad):wpAny (model P.prog P.w) A (getItem v u) (QV P Z s (Cc a b hp)) E s:=by
 refine A9 (KL hb) fun x e K=>?_
 rw[e]
 cases K with
 | str xs x h=>
  refine F5 (H9 h) fun k A6 gh hi=>?_;subst A6
  refine xE ra fun t A6=>?_;try clear ra;subst A6
  refine xE rb fun t' A6=>?_;try clear rb;subst A6
  refine F6 (JJ hi) fun j h1 h2 h3 h4 _=>?_
  rw[aB] at h1 h3 h4 gh
  rw[aK] at h2
  refine A9 (Option.map_eq_some_iff.mp h2) fun c hc A6=>?_;subst A6
  have t0:=FP gh
  have hr:(decide (k < -(2 ^ 63:Int))||decide (k >= 2 ^ 63))=false:=by
   rw[decide_eq_false (by exact fun g=>jf (DT _ _) [(Ca,(jN (2 ^ 63))),((.neg AC),BH),(H5,(.neg (jN (2 ^ 63))))] rfl t0 h3 g),decide_eq_false (by exact fun g=>jf (DT _ _) [(Ca,BH),(H5,(jN (2 ^ 63))),((jN (2 ^ 63)),AC)] rfl h4 t0 g)];rfl
  refine PySem.P.getItem_str (c:=c) hr ?_ ⟨_,_,_,rfl,.tok S _,s.toks,rfl⟩
  have hl:(⟨xs.toArray⟩:Str).length=xs.length:=bL
  rw[hl,h1]
  exact(fH ..).trans hc
 | tup xs x h=>
  refine F5 (H9 h) fun k A6 gh hi=>?_;subst A6
  refine B2 ra fun a ws m A6 o rx=>?_;try clear ra;subst A6
  refine xE rb fun t A6=>?_;try clear rb;subst A6
  refine F6 (JJ hi) fun j h1 h2 h3 h4 _=>?_
  have hl:=rx.size
  refine A9 (rx.get h2) fun w e iz=>?_
  rw[bJ] at e
  have t1:=FP gh
  exact getItem_tuple (AX o) (rX t1 h3) (rW h4 t1) (by rw[<- hl];exact h1) e ⟨_,_,_,rfl,.refl S,iz⟩
 | scr xs x h=>
  refine F5 (H9 h) fun k A6 gh hi=>?_;subst A6
  refine AF ra fun a items A6 hl rx=>?_;try clear ra;subst A6
  refine xE rb fun t' A6=>?_;try clear rb;subst A6
  exact EE (Gu S hl) rx.rvs gh hi fun w iz=>⟨_,_,_,rfl,.refl S,iz⟩
 | lst j xs x hj h=>
  refine F5 (H9 h) fun k A6 gh hi=>?_;subst A6
  refine Av ra fun a o A6 e1=>?_;try clear ra;subst A6
  refine xE rb fun t' A6=>?_;try clear rb;subst A6
  refine A9 (S.isList hj e1) fun ws hl rx=>?_
  exact EE hl rx gh hi fun w iz=>⟨_,_,_,rfl,.refl S,iz⟩
 | dct j kvs ep x hj h=>
  refine F5 (Yk h) fun k hk ic hx=>?_
  refine Av ra fun a o A6 e1=>?_;try clear ra;subst A6
  rw[HN hk] at rb
  exact Nd ok S hj e1 rb ic (by have t2:=ar.units;exact mX t2) hx fun d w iz=>⟨_,_,_,rfl,.tok S _,iz⟩
end
end
section
open PySem PySem.Spec PyProof.Rows PySem.SeqAt
section
variable {P:BW} {A:Around} {Z:Sg} {hp:A0} {s:Shared} {E:Value->Shared->Prop}
theorem Tf(n:Nat):clipAt n (n:Int)=n:=by rw[eF];exact iC _
theorem Tg(n:Nat):clipAt n 0=0:=by have t0:=eF n 0;simpa using t0
noncomputable def CR:AV->Option Int
 | .int i=>some i
 | _=>none
theorem Ha(r:RV P.B s.heap Z a v)(h:UT a=some n):IsPart v (CR a)/\∃ p:Option (Int×Tok),v=partValue p/\p.map (·.1)=CR a:=by
 rcases a with _|_
 case none=>rcases (show v=.none from r) with rfl;exact⟨.none,none,rfl,rfl⟩
 case int i=>refine xE r fun t A6=>?_;try clear r;subst A6;exact⟨.int _ _,some (_,t),rfl,rfl⟩
 all_goals exact A2 h
theorem Vm(h:XY n a=some m):∃ k,UT a=some k:=by
 rcases a with _|_
 case none=>exact⟨_,rfl⟩
 case int i=>exact⟨_,rfl⟩
 all_goals exact A2 h
theorem JK(h:UT a=some m):(CR a).elim 0 (clipAt n)=clipAt n m:=by
 rcases a with _|_
 case none=>cases (show some (0:Int)=some m from h);exact(Tg n).symm
 case int i=>cases (show some i=some m from h);rfl
 all_goals exact A2 h
theorem JL(h:XY n a=some m):(CR a).elim n (clipAt n)=clipAt n m:=by
 rcases a with _|_
 case none=>cases (show some (n:Int)=some m from h);exact(Tf n).symm
 case int i=>cases (show some i=some m from h);rfl
 all_goals exact A2 h
theorem RVs.drop:∀ {xs:List AV} {vs:List Value},RVs B h Z xs vs->∀ n,RVs B h Z (xs.drop n) (vs.drop n)
 | _,_,r,0=>r
 | [],[],r,_+1=>r
 | _ :: _,_ :: _,r,n+1=>RVs.drop r.2 n
 | [],_ :: _,r,_=>r.elim
 | _ :: _,[],r,_=>r.elim
theorem RVs.take:∀ {xs:List AV} {vs:List Value},RVs B h Z xs vs->∀ n,RVs B h Z (xs.take n) (vs.take n)
 | [],[],r,0=>r
 | _ :: _,_ :: _,_,0=>trivial
 | [],[],r,_+1=>r
 | _ :: _,_ :: _,r,n+1=>⟨r.1,RVs.take r.2 n⟩
 | [],_ :: _,r,_=>r.elim
 | _ :: _,[],r,_=>r.elim
theorem RVs.reverse:∀ {xs:List AV} {vs:List Value},RVs B h Z xs vs->RVs B h Z xs.reverse vs.reverse
 | [],[],_=>trivial
 | _ :: _,_ :: _,r=>by
  rw[List.reverse_cons,List.reverse_cons]
  exact(RVs.reverse r.2).append ⟨r.1,trivial⟩
 | [],_ :: _,r=>r.elim
 | _ :: _,[],r=>r.elim
theorem Nh{α:Type}(xs:List α)(lo hi:Int):AL xs lo hi=(xs.drop (clipAt xs.length lo)).take (clipAt xs.length hi-clipAt xs.length lo):=by
 unfold AL
 rw[List.drop_take]
theorem RVs.cut(r:RVs B h Z xs vs)(lo hi:Int):RVs B h Z (AL xs lo hi) ((vs.drop (clipAt xs.length lo)).take (clipAt xs.length hi-clipAt xs.length lo)):=by
 rw[Nh]
 exact(r.drop _).take _
theorem Vn(x:List Nat)(lo hi:Option Int):(Builtin.Str.strSliceIndices lo hi 1 x.length).filterMap ((⟨x.toArray⟩:Str).cps[·]?)=(x.drop (lo.elim 0 (clipAt x.length))).take (hi.elim x.length (clipAt x.length)-lo.elim 0 (clipAt x.length)):=by
 have h:Builtin.Str.strSliceIndices lo hi 1 x.length=sliceRange (lo.elim 0 (clipAt x.length):Nat) (hi.elim x.length (clipAt x.length):Nat) 1:=by
  unfold Builtin.Str.strSliceIndices
  rcases lo with _|_<;>rcases hi with _|_<;>simp[clipAt_cast]
 rw[h,sliceRange_one,pick_run]
theorem Ni{α:Type}{xs:List α}{lo hi:AV}{ys:List α}(h:Do xs lo hi=some ys):xs.length<=Ab/\∃ m k,UT lo=some m/\XY xs.length hi=some k/\ys=AL xs m k:=by
 unfold Do at h
 split at h
 ·rename_i hl
  refine A9 (Option.bind_eq_some_iff.mp h) fun m hm h=>?_
  refine A9 (Option.map_eq_some_iff.mp h) fun k hk h=>?_
  exact⟨hl,m,k,hm,hk,h.symm⟩
 ·cases h
theorem Vo(n:Nat)(i:Int):clipAt n i<=n:=by have t0:=clipAt_cast n i;exact wI t0
theorem Vp{n a b:Nat}(h:b-a=n)(h2:b<=n):min (b-a) (n-a)=n:=by exact wJ h2 h
abbrev Di(vl vu:Value):Obj:={ cls:=.type "slice",data:=.fields #[vl,vu,.none] }
theorem Th(S:St P.w P.B Z hp s.heap){t:Tok}{lo hi:AV}{vl vu:Value}(rl:RV P.B s.heap Z lo vl)(rh:RV P.B s.heap Z hi vu)(h:Do x lo hi=some y):
  wpAny (model P.prog P.w) A (getItem (.str ⟨x.toArray⟩ t) (.ref s.heap.objs.size)) (QV P Z s (.ok (.str y) hp)) E { s with heap:=s.heap.push (Di vl vu) }:=by
 have bg:=S.push (Di vl vu)
 have aa:Ai P Z Z [] hp s { s with heap:=s.heap.push (Di vl vu) }:=⟨rfl,bg,.push _⟩
 refine PL (Ni h) fun hxl m k hl hh A6=>?_;subst A6
 refine NX (Ha rl hl) fun _ p A6 hp1=>?_;subst A6
 refine xE (Vm hh) fun k' gk=>?_
 refine NX (Ha rh gk) fun _ q A6 hq1=>?_;subst A6
 have u2:(⟨x.toArray⟩:Str).length=x.length:=bL
 refine wpAny_getItem_str_slice (l:=p) (u:=q) (st:=none) ⟨_,bG _ rfl,rfl,rfl⟩ rfl ?_
 unfold sliceMade slicePicked
 rw[hp1,hq1,u2]
 have u0:=Vn x (CR lo) (CR hi)
 rw[JK hl,JL hh,<- Nh] at u0
 split
 ·rename_i hw
  have u3:(Builtin.Str.strSliceIndices (CR lo) (CR hi) 1 x.length).length=x.length:=beq_iff_eq.mp (Bool.and_eq_true_iff.mp hw).2
  have u1:AL x m k=x:=by
   refine List.Sublist.eq_of_length ((List.drop_sublist ..).trans (gH ..)) ?_
   have hs:Builtin.Str.strSliceIndices (CR lo) (CR hi) 1 x.length=(List.range (clipAt x.length k-clipAt x.length m)).map (clipAt x.length m+·):=by
    rw[<- JK (n:=x.length) hl,<- JL hh,<- sliceRange_one]
    unfold Builtin.Str.strSliceIndices
    rcases CR lo with _|_<;>rcases CR hi with _|_<;>simp[clipAt_cast]
   have h2:=Vo x.length k
   rw[hs,aB,eU] at u3
   show (AL x m k).length=_
   rw[Nh,bY,cW]
   exact Vp u3 h2
  exact⟨_,_,_,rfl,aa,t,by rw[u1]⟩
 ·have u4:(⟨(AL x m k).toArray⟩:Str).length<=sizeLine:=by
   have h1:(AL x m k).length<=x.length:=by rw[Nh,bY,cW];exact wK
   exact aR (aE bL) (aR h1 (AY hxl))
  show _/\_
  have e1:(none:Option (Int×Tok)).map (·.1)=none:=rfl
  rw[e1,Option.getD_none,u0]
  exact⟨u4,_,_,_,rfl,aa.trans (.tok bg _),_,rfl⟩
theorem Ti(S:St P.w P.B Z hp s.heap){v:Value}{lo hi:AV}{vl vu:Value}(ra:RV P.B s.heap Z (.scr xs) v)(rl:RV P.B s.heap Z lo vl)(rh:RV P.B s.heap Z hi vu)(h:Do xs lo hi=some ys)(hb:Au (ys.map .int) hp≠.bad):
  wpAny (model P.prog P.w) A (getItem v (.ref s.heap.objs.size)) (QV P Z s (Au (ys.map .int) hp)) E { s with heap:=s.heap.push (Di vl vu) }:=by
 have bg:=S.push (Di vl vu)
 have aa:Ai P Z Z [] hp s { s with heap:=s.heap.push (Di vl vu) }:=⟨rfl,bg,.push _⟩
 refine PL (Ni h) fun hxl m k hl hh A6=>?_;subst A6
 refine AF ra fun a items A6 hl0 rx=>?_;try clear ra;subst A6
 refine aI fun gj=>?_
 refine xA (Ha rl hl) fun ip _=>?_
 refine xE (Vm hh) fun k' gk=>?_
 refine xA (Ha rh gk) fun iq _=>?_
 refine gj ?_
 have u0:=rx.length.trans bH
 have hr:RVs P.B (s.heap.push (Di vl vu)) Z ((AL xs m k).map .int) (slicePick items (CR lo) (CR hi) none).toList:=by
  rw[slicePick_plain]
  show RVs _ _ _ _ ((items.toList.drop _).take _)
  rw[<- u0,JK hl,JL hh]
  have t0:=RVs.cut (B:=P.B) (h:=s.heap.push (Di vl vu)) (Z:=Z) rx.rvs m k
  rw[aB] at t0
  have e:AL (xs.map AV.int) m k=(AL xs m k).map AV.int:=by unfold AL;rw[aB,<- gR,<- iV]
  rw[e] at t0
  exact t0
 refine xA (Db (s:={ s with heap:=s.heap.push (Di vl vu) }) bg hr hb) fun gh hq=>?_
 exact fT (Gu (s:={ s with heap:=s.heap.push (Di vl vu) }) bg hl0) (.new ..) ip iq .none (by simp) (hq.lift aa) (by have t1:=AY hxl;exact A6 u0 t1)
theorem Qa(S:St P.w P.B Z hp s.heap){j:Nat}{xs ys:List AV}{v:Value}{lo hi:AV}{vl vu:Value}(ra:RV P.B s.heap Z (.loc j) v)(hj:hp[j]?=some (.list xs))(rl:RV P.B s.heap Z lo vl)(rh:RV P.B s.heap Z hi vu)(h:Do xs lo hi=some ys)(hb:Au ys hp≠.bad):
  wpAny (model P.prog P.w) A (getItem v (.ref s.heap.objs.size)) (QV P Z s (Au ys hp)) E { s with heap:=s.heap.push (Di vl vu) }:=by
 have bg:=S.push (Di vl vu)
 have aa:Ai P Z Z [] hp s { s with heap:=s.heap.push (Di vl vu) }:=⟨rfl,bg,.push _⟩
 refine PL (Ni h) fun hxl m k hl hh A6=>?_;subst A6
 refine Av ra fun a off A6 e1=>?_;try clear ra;subst A6
 refine aI fun gj=>?_
 refine Av (St.isL (s:={ s with heap:=s.heap.push (Di vl vu) }) bg hj e1) fun ws n hL rx=>?_
 refine xA (Ha rl hl) fun ip _=>?_
 refine xE (Vm hh) fun k' gk=>?_
 refine xA (Ha rh gk) fun iq _=>?_
 refine gj ?_
 have u0:=rx.size
 have hr:RVs P.B (s.heap.push (Di vl vu)) Z (AL xs m k) (slicePick ws (CR lo) (CR hi) none).toList:=by
  rw[slicePick_plain]
  show RVs _ _ _ _ ((ws.toList.drop _).take _)
  rw[<- u0,JK hl,JL hh]
  exact rx.cut m k
 refine xA (Db (s:={ s with heap:=s.heap.push (Di vl vu) }) bg hr hb) fun gh hq=>?_
 exact fT (CJ hL) (.new ..) ip iq .none (by simp) (hq.lift aa) (by have t0:=AY hxl;exact A6 u0 t0)
theorem Vq(S:St P.w P.B Z hp s.heap){j:Nat}{v:Value}{t:Tok}(ra:RV P.B s.heap Z (.loc j) v)(hb:Kk (.loc j) hp≠.bad):
  (∃ T id,({ s with heap:=s.heap.push { cls:=.type "slice",data:=.fields #[.none,.none,.int (-1) t] } }:Shared).TypeIs v T/\typeLookup (.type T) "__getitem__"=pure (some (.builtin id))) /\
  wpAny (model P.prog P.w) A (getItem v (.ref s.heap.objs.size)) (QV P Z s (Kk (.loc j) hp)) E { s with heap:=s.heap.push { cls:=.type "slice",data:=.fields #[.none,.none,.int (-1) t] } }:=by
 generalize ho:({ cls:=.type "slice",data:=.fields #[.none,.none,.int (-1) t] }:Obj)=o
 have bg:=S.push o
 have aa:Ai P Z Z [] hp s { s with heap:=s.heap.push o }:=⟨rfl,bg,.push _⟩
 refine Av ra fun a off A6 e1=>?_;try clear ra;subst A6
 refine A9 (Cd (show AW ((Am hp j).map List.reverse) hp≠.bad from hb)) fun y hy hb2=>?_
 refine A9 (Option.map_eq_some_iff.mp hy) fun xs hx A6=>?_
 have e:Kk (.loc j) hp=Au y hp:=by
  show AW ((Am hp j).map List.reverse) hp=_
  rw[hy];rfl
 rw[e]
 refine Av (St.isL (s:={ s with heap:=s.heap.push o }) bg (B3 hx) e1) fun ws n hL rx=>?_
 have u0:=rx.size
 have u1:=S.isLen (B3 hx) e1
 refine⟨⟨"list",_,(CJ hL).typeIs,slot_list_getitem.lookup⟩,?_⟩
 have hr:RVs P.B (s.heap.push o) Z y (slicePick ws none none (some (-1))).toList:=by
  rw[PySem.W.krv_pick,<- A6]
  exact rx.reverse
 refine xA (Db (s:={ s with heap:=s.heap.push o }) bg hr hb2) fun hsz2 hq=>?_
 refine fT (vl:=.none) (vu:=.none) (vs:=.int (-1) t) (CJ hL) ?_ .none .none (.int ..) (by simp) (hq.lift aa) (sA u0 u1)
 subst ho
 exact .new ..
theorem Qb(S:St P.w P.B Z hp s.heap){a lo hi:AV}(ra:RV P.B s.heap Z a v)(rl:RV P.B s.heap Z lo vl)(rh:RV P.B s.heap Z hi vu)(hb:C0 a lo hi hp≠.bad):
  wpAny (model P.prog P.w) A (getItem v (.ref s.heap.objs.size)) (QV P Z s (C0 a lo hi hp)) E { s with heap:=s.heap.push (Di vl vu) }:=by
 rcases a with _|_
 case str x=>
  refine A9 (Du (show Ey ((Do x lo hi).map AV.str) hp≠.bad from hb)) fun y hy e=>?_
  refine A9 (Option.map_eq_some_iff.mp hy) fun z hz A6=>?_;subst A6
  refine xE ra fun t A6=>?_;try clear ra;subst A6
  rw[show C0 (.str x) lo hi hp=.ok (.str z) hp from e]
  exact Th S rl rh hz
 case scr xs=>
  refine A9 (Cd (show AW ((Do xs lo hi).map fun ys=>ys.map AV.int) hp≠.bad from hb)) fun y hy hb2=>?_
  refine A9 (Option.map_eq_some_iff.mp hy) fun z hz A6=>?_;subst A6
  have e:C0 (.scr xs) lo hi hp=Au (z.map .int) hp:=by
   show AW ((Do xs lo hi).map fun ys=>ys.map AV.int) hp=_
   rw[hz];rfl
  rw[e]
  exact Ti S ra rl rh hz hb2
 case loc j=>
  refine A9 (Cd (show AW ((Am hp j).bind fun xs=>Do xs lo hi) hp≠.bad from hb)) fun y hy hb2=>?_
  refine A9 (Option.bind_eq_some_iff.mp hy) fun xs hx hz=>?_
  have e:C0 (.loc j) lo hi hp=Au y hp:=by
   show AW ((Am hp j).bind fun xs=>Do xs lo hi) hp=_
   rw[hy];rfl
  rw[e]
  exact Qa S ra (B3 hx) rl rh hz hb2
 all_goals exact absurd rfl hb
end
end
section
open PySem PySem.Spec PyProof.Rows PySem.SeqAt
noncomputable def Nj:Ty->String
 | .int=>"int"|.bool=>"bool"|.str=>"str"|.tuple=>"tuple"
theorem Ib{α:Type}{f:AV->Option α}{g:α->AV}(hf:∀ {v a},f v=some a->v=g a):∀ {xs:List AV} {as:List α},DI f xs=some as->xs=as.map g
 | [],as,h=>by cases h;rfl
 | x :: xs,as,h=>by
  refine A9 (Option.bind_eq_some_iff.mp h) fun p h1 h=>?_
  refine A9 (Option.bind_eq_some_iff.mp h) fun qs h2 h=>?_
  cases h
  rw[hf h1,Ib hf h2];rfl
section
variable {P:BW} {A:Around} {Z:Sg} {hp:A0} {s:Shared} {E:Value->Shared->Prop}
theorem Vr(S:St P.w P.B Z hp s.heap){r:Bool}(ra:RV P.B s.heap Z a v)(h:UU a t=some r):
  wpAny (model P.prog P.w) A (call (.builtin "isinstance") [v,.type (Nj t)]) (QB P Z hp s (some r)) E s:=by
 have q1:∀ b k,QB P Z hp s (some b) (.bool b) { s with toks:=k }:=fun b k=>⟨b,rfl,rfl,.tok S _⟩
 have q0:∀ b,QB P Z hp s (some b) (.bool b) s:=fun b=>⟨b,rfl,rfl,.refl S⟩
 rcases a with _|_
 case int=>
  refine xE ra fun _ A6=>?_;try clear ra;subst A6
  rcases t with _|_<;>cases h
  ·exact IsiPair.int_int (q0 _)
  ·exact IsiPair.int_bool (q1 _ _)
  ·exact IsiPair.int_str (q1 _ _)
  ·exact IsiPair.int_tuple (q1 _ _)
 case str=>
  refine xE ra fun _ A6=>?_;try clear ra;subst A6
  rcases t with _|_<;>cases h
  ·exact IsiPair.str_int (q1 _ _)
  ·exact IsiPair.str_bool (q1 _ _)
  ·exact IsiPair.str_str (q0 _)
  ·exact IsiPair.str_tuple (q1 _ _)
 case tup=>
  refine B2 ra fun _ _ _ A6 o _=>?_;try clear ra;subst A6
  rcases t with _|_<;>cases h
  ·exact IsiPair.tuple_int o rfl (q1 _ _)
  ·exact IsiPair.tuple_bool o rfl (q1 _ _)
  ·exact IsiPair.tuple_str o rfl (q1 _ _)
  ·exact IsiPair.tuple_tuple o rfl (q0 _)
 all_goals exact A2 h
theorem JM [Decidable c]{α:Type}{x y:α}(h:(if c then some x else none)=some y):c/\x=y:=by
 by_cases hc:c
 ·rw[if_pos hc] at h;exact⟨hc,Option.some.inj h⟩
 ·rw[if_neg hc] at h;cases h
theorem Qc(S:St P.w P.B Z hp s.heap){r:AV}(ra:RVs P.B s.heap Z as vs)(h:FK as=some r):
  wpAny (model P.prog P.w) A (call (.type "range") vs) (QV P Z s (.ok r hp)) E s:=by
 rcases as with _|⟨a,_|⟨_,_⟩⟩<;>try exact A2 h
 refine A9 (Option.bind_eq_some_iff.mp h) fun b hb h=>?_
 cases Gs hb
 refine xA (JM h) fun _ A6=>?_;subst A6
 refine XM ra.one fun v A6 t Fk=>?_;subst A6;subst Fk
 exact call_range_1 ⟨_,_,_,rfl,⟨rfl,S.push _,.push _⟩,_,_,_,_,rfl,IsRange.new ..⟩
theorem Ol(S:St P.w P.B Z hp s.heap)(hj:hp[j]?=some (.list xs))(e1:Z[j]?=some (a,off))(gh:xs.length<Ab){v:Value}(rx:RV P.B s.heap Z x v):
  ∃ ws n,ws.size<=sizeLine/\IsL s.heap a ws n/\Ai P Z Z [] (hp.set j (.list (xs++[x]))) s { s with heap:=s.heap.update a (Obj.mapSeq fun xs=>xs.push v) }:=by
 refine Av (S.isL hj e1) fun ws n hl r=>?_
 have u0:=r.size
 have u1:Heap.SameBut a s.heap (s.heap.update a (Obj.mapSeq fun xs=>xs.push v)):=.update ..
 refine xA (S.upd (X:=[]) e1 u1.extBut (.list (xs++[x])) (IsL.update hl _) fun g=>
  ⟨ws.push v,_,IsL.update hl _,by rw[iS];exact(RVs.grows g _ _ r).append ⟨RV.grows g _ _ rx,trivial⟩,by rw[aC];exact AY gh⟩) fun S' g=>?_
 exact⟨ws,n,by have t0:=AY (dY gh);exact A6 u0 t0,hl,rfl,S',g⟩
theorem Yl{x:List Nat}{c i:Nat}(h:x.findIdx? (·==c)=some i):∃ rest,Builtin.Str.occurrences ⟨x.toArray⟩ ⟨#[c]⟩ 0 (⟨x.toArray⟩:Str).length 1=i :: rest:=by
 refine A9 (List.findIdx?_eq_some_iff_getElem.mp h) fun hi he hn=>?_
 have u0:∀ j,StrLaws.At (⟨x.toArray⟩:Str) ⟨#[c]⟩ (⟨x.toArray⟩:Str).length j↔x[j]?=some c:=fun j=>by
  have t0:=StrLaws.subAt_one (⟨x.toArray⟩:Str) c j
  simpa [StrLaws.At] using t0
 have hc:x[i]?=some c:=by rw[aF hi,cA he]
 rcases StrLaws.occ_head (⟨x.toArray⟩:Str) ⟨#[c]⟩ 1 (aS 1) with ⟨_,h0⟩|⟨k,r,e,ha,hb⟩
 ·exact absurd ((u0 i).mpr hc) (h0 i)
 ·have hk:k=i:=by
   rcases Nat.lt_trichotomy k i with hlt|heq|hgt
   ·have h1:=(u0 k).mp ha
    refine xE (List.getElem?_eq_some_iff.mp h1) fun hk e'=>?_
    have t1:=hn k hlt
    rw[e'] at t1
    simp at t1
   ·exact heq
   ·exact absurd ((u0 i).mpr hc) (hb i hgt)
  subst hk
  exact⟨r,e⟩
end
end
section
open PySem PySem.Spec PyProof.Rows PySem.SeqAt Builtin.Str
theorem Jk{c:Nat}:∀ {p:List Nat},c∉p->Aq c p=[p]
 | [],_=>rfl
 | x :: r,h=>by
  show (if x=c then [] :: Aq c r else match Aq c r with
   | []=>[[x]]
   | w :: ws=>(x :: w) :: ws)=_
  rw[if_neg fun e=>h (by rw[e];exact aH),Jk fun m=>h (aL _ m)]
theorem KM{c:Nat}{q:List Nat}:∀ {p:List Nat},c∉p->Aq c (p++c :: q)=p :: Aq c q
 | [],_=>if_pos rfl
 | x :: r,h=>by
  show (if x=c then [] :: Aq c (r++c :: q) else match Aq c (r++c :: q) with
   | []=>[[x]]
   | w :: ws=>(x :: w) :: ws)=_
  rw[if_neg fun e=>h (by rw[e];exact aH),KM fun m=>h (aL _ m)]
theorem DL{c:Nat}:∀ {ps:List (List Nat)},ps≠[]->(∀ p∈ps,c∉p)->Aq c (Bv [c] ps)=ps
 | [],h,_=>absurd rfl h
 | [p],_,h=>Jk (h p aH)
 | p :: q :: r,_,h=>by
  show Aq c (p++[c]++Bv [c] (q :: r))=_
  rw[bC,List.singleton_append,KM (h p aH),DL (ps:=q :: r) (fun e=>nomatch e) fun x hx=>h x (aL _ hx)]
theorem Ic(sep:Str):∀ ps:List Str,(Str.join sep ps).cps.toList=Bv sep.cps.toList (ps.map fun p=>p.cps.toList)
 | []=>rfl
 | [p]=>rfl
 | p :: q :: r=>by
  show (p++sep++Str.join sep (q :: r)).cps.toList=p.cps.toList++sep.cps.toList++Bv sep.cps.toList ((q :: r).map fun p=>p.cps.toList)
  rw[<- Ic sep (q :: r)]
  show (p.cps++sep.cps++(Str.join sep (q :: r)).cps).toList=_
  rw[iA,iA]
theorem pR{x:Str}{c:Nat}:(Txt.split x ⟨#[c]⟩).map (fun p=>p.cps.toList)≠[]\/x.cps.toList=[]:=by
 rcases h:Txt.split x ⟨#[c]⟩ with _|⟨p,r⟩
 ·right
  have t0:=StrLaws.join_split x ⟨#[c]⟩
  rw[h] at t0
  rw[<- t0];rfl
 ·left;exact fun e=>nomatch e
theorem Tj(x:List Nat)(c:Nat)(hne:Txt.split ⟨x.toArray⟩ ⟨#[c]⟩≠[]):(Txt.split ⟨x.toArray⟩ ⟨#[c]⟩).map (fun p=>p.cps.toList)=Aq c x:=by
 have h:=DL (c:=c) (ps:=(Txt.split ⟨x.toArray⟩ ⟨#[c]⟩).map fun p=>p.cps.toList) (fun e=>hne (List.map_eq_nil_iff.mp e)) (fun p hp=>by
  refine A9 (List.mem_map.mp hp) fun q hq A6=>?_;subst A6
  exact StrLaws.split_free _ c q hq)
 have e:=Ic ⟨#[c]⟩ (Txt.split ⟨x.toArray⟩ ⟨#[c]⟩)
 rw[StrLaws.join_split] at e
 rw[<- e] at h
 exact h.symm
section
variable {P:BW} {A:Around} {Z:Sg} {hp:A0} {s:Shared} {E:Value->Shared->Prop} {B:Bs} {h:Heap}
theorem Om:∀ l:List (Str×Tok),RVs B h Z (l.map fun p=>.str p.1.cps.toList) (strValues l)
 | []=>trivial
 | (⟨⟨l⟩⟩,t) :: r=>⟨⟨t,rfl⟩,Om r⟩
theorem On:∀ {xs:List (List Nat)} {vs:List Value},RVs B h Z (xs.map .str) vs->∃ l:List (Str×Tok),vs=strValues l/\l.map (fun p=>p.1.cps.toList)=xs
 | [],vs,r=>⟨[],r.nil,rfl⟩
 | x :: xs,vs,r=>by
  refine AF (RVs.cons r) fun v us A6 r1 r2=>?_;subst A6
  refine xE r1 fun t A6=>?_;subst A6
  refine A9 (On r2) fun l h1 h2=>?_
  exact⟨(⟨x.toArray⟩,t) :: l,by rw[h1];rfl,by rw[aZ,h2]⟩
theorem M8(S:St P.w P.B Z hp s.heap){l:List (Str×Tok)}{ys:List AV}(he:ys=l.map fun p=>.str p.1.cps.toList)(hb:Au ys hp≠.bad)(k:Nat):
  QV P Z s (Au ys hp) (.ref s.heap.objs.size) { s with heap:=s.heap.push { cls:=.type "list",data:=.seq (strValues l).toArray },toks:=k }:=by
 subst he
 refine xA (Db (ws:=(strValues l).toArray) S (Om l) hb) fun _ q=>?_
 obtain⟨av,hp',Z',e,a,rv⟩:=q
 exact⟨av,hp',Z',e,a.trans (.tok a.st k),rv⟩
theorem Qd(S:St P.w P.B Z hp s.heap){t u:Tok}{x:List Nat}{c:Nat}(hc:c<128)(hx:x.length<=Ab)(hb:Au ((Aq c x).map .str) hp≠.bad):
  wpAny (model P.prog P.w) A (call (.builtin "str.split") [.str ⟨x.toArray⟩ t,.str ⟨#[c]⟩ u]) (QV P Z s (Au ((Aq c x).map .str) hp)) E s:=by
 have u1:(⟨x.toArray⟩:Str).length=x.length:=bL
 have hk:Builtin.Str.strKind ⟨#[c]⟩=1:=by
  unfold Builtin.Str.strKind
  rw[if_pos]
  simp only[List.all_toArray,iW,List.all_nil,iY,decide_eq_true_eq]
  exact n3 hc rfl
 have u5:¬ Builtin.Str.strKind ⟨x.toArray⟩<Builtin.Str.strKind ⟨#[c]⟩:=by
  rw[hk]
  unfold Builtin.Str.strKind
  split
  ·exact fun g=>qf (IG 0) [((qA qI qI),qI)] rfl g
  ·split<;>decide
 have u6:x.length<1\/1<=x.length:=by exact Nat.lt_or_ge _ _
 have u2:∀ k,Aq c x=[x]->QV P Z s (Au ((Aq c x).map .str) hp) (.ref s.heap.objs.size) { s with heap:=s.heap.push { cls:=.type "list",data:=.seq [Value.str ⟨x.toArray⟩ t].toArray },toks:=k }:=fun k e=>M8 S (l:=[(⟨x.toArray⟩,t)]) (by rw[e];rfl) hb k
 have u0:=F.slot_str_split
 cases h1:(decide ((⟨x.toArray⟩:Str).length<(⟨#[c]⟩:Str).length)||decide (Builtin.Str.strKind ⟨x.toArray⟩<Builtin.Str.strKind ⟨#[c]⟩))
 ·have u4:∀ ps,Txt.split ⟨x.toArray⟩ ⟨#[c]⟩=ps->ps≠[]->ps.map (fun p=>p.cps.toList)=Aq c x:=fun ps e hne=>by
   subst e;exact Tj x c hne
  cases hf:(occurrences ⟨x.toArray⟩ ⟨#[c]⟩ 0 (⟨x.toArray⟩:Str).length ((⟨x.toArray⟩:Str).length+1)).isEmpty
  ·have hs:Txt.split ⟨x.toArray⟩ ⟨#[c]⟩=partsBetween ⟨x.toArray⟩ (occurrences ⟨x.toArray⟩ ⟨#[c]⟩ 0 (⟨x.toArray⟩:Str).length ((⟨x.toArray⟩:Str).length+1)) (⟨#[c]⟩:Str).length:=(if_neg (ne_true_of_eq_false h1)).trans (if_neg (ne_true_of_eq_false hf))
   have u3:=u4 _ hs (fun e=>by
    have t0:=congrArg List.length e
    simp[partsBetween] at t0)
   have hl:(Aq c x).length<=Ab:=by
    have t1:=FN (c:=((Aq c x).map AV.str).length<=Ab) hb
    rwa [aB] at t1
   have hn:(partsBetween ⟨x.toArray⟩ (occurrences ⟨x.toArray⟩ ⟨#[c]⟩ 0 (⟨x.toArray⟩:Str).length ((⟨x.toArray⟩:Str).length+1)) (⟨#[c]⟩:Str).length).length=(Aq c x).length:=by rw[<- u3,aB]
   refine fM u0 (jF _ _ _) iR (iK _ _) (meets_str_split_sep ⟨x.toArray⟩ ⟨#[c]⟩ t u h1 rfl hf (by rw[u1];exact AY hx) (by rw[hn];exact AY hl)) ?_
   rw[strsFrom_eq]
   refine M8 S (l:=numbered s.toks _) ?_ hb _
   rw[<- u3,<- numbered_texts s.toks (partsBetween _ _ _),cO,cO]
   simp only[numbered_texts]
   rfl
  ·exact fM u0 (jF _ _ _) iR (iK _ _) (meets_str_split_not_found ⟨x.toArray⟩ ⟨#[c]⟩ t u h1 rfl hf) (u2 s.toks ((u4 [⟨x.toArray⟩] ((if_neg (ne_true_of_eq_false h1)).trans (if_pos hf)) (fun e=>nomatch e)).symm))
 ·have h0:x=[]:=by
   rw[dN,decide_eq_true_eq,decide_eq_true_eq] at h1
   rcases h1 with h1|h1
   ·rw[u1] at h1
    exact gY (Nat.lt_one_iff.mp h1)
   ·exact absurd h1 u5
  exact fM u0 (jF _ _ _) iR (iK _ _) (meets_str_split_cannot_occur ⟨x.toArray⟩ ⟨#[c]⟩ t u h1) (u2 s.toks (by rw[h0];rfl))
theorem RI(sep:List Nat):∀ xs:List (List Nat),Da sep xs=(xs.map List.length).sum+xs.length*sep.length
 | []=>by simp[Da]
 | x :: xs=>by
  have t0:=RI sep xs
  unfold Da at t0 |-
  rw[aZ,iU,t0,aZ,iU,aN,Nat.succ_mul]
  exact ZU
theorem Tk(S:St P.w P.B Z hp s.heap){t:Tok}{sep:List Nat}{xs:List (List Nat)}{j:Nat}{v:Value}(rv:RV P.B s.heap Z (.loc j) v)(hj:hp[j]?=some (.list (xs.map .str)))(hl:Da sep xs<=Ab):
  wpAny (model P.prog P.w) A (call (.builtin "str.join") [.str ⟨sep.toArray⟩ t,v]) (QV P Z s (.ok (.str (Bv sep xs)) hp)) E s:=by
 refine Av rv fun a off A6 e1=>?_;try clear rv;subst A6
 refine A9 (S.isList hj e1) fun ws hL rx=>?_
 refine A9 (On rx) fun l h1 h2=>?_
 have u1:ws=(strValues l).toArray:=by rw[<- h1]
 subst u1
 have u0:tooLong ((l.map (·.1)).toArray.foldl (·+·.length+(⟨sep.toArray⟩:Str).length) 0)=false:=by
  rw[StrLaws.joinTotal]
  have e:((l.map (·.1)).map (·.length)).sum+(l.map (·.1)).length*(⟨sep.toArray⟩:Str).length=Da sep xs:=by
   rw[RI,<- h2,aB,aB,cO,cO]
   congr 1
  rw[e]
  unfold tooLong
  exact decide_eq_false (Nat.not_lt.mpr (AY hl))
 refine fM F.slot_str_join (jF _ _ _) F.entry_str_join (F.args_str_join_2 _ _) (meets_str_join_list ⟨sep.toArray⟩ t a l u0) ⟨hL,post_join l ⟨joinFit_length u0,fun t' k=>⟨_,_,_,rfl,.tok S k,t',?_⟩⟩⟩
 have e:=Ic ⟨sep.toArray⟩ (l.map (·.1))
 rw[cO] at e
 have e2:(Txt.join ⟨sep.toArray⟩ (l.map (·.1))).cps.toList=Bv sep xs:=by
  show (glued ⟨sep.toArray⟩ (l.map (·.1))).cps.toList=_
  rw[StrLaws.glued_eq_join,e,<- h2];rfl
 rw[<- e2]
theorem Tl(S:St P.w P.B Z hp s.heap){i:Int}{t:Tok}(hi:i.natAbs<2 ^ 64):wpAny (model P.prog P.w) A (call (.type "str") [.int i t]) (QV P Z s (.ok (.str (Ad i)) hp)) E s:=by
 refine PySem.P.str_of_int ?_ ⟨_,_,_,rfl,.tok S _,s.toks,?_⟩
 ·by_cases h0:i.natAbs=0
  ·rw[h0];decide
  ·exact iD ((Nat.log2_lt h0).mpr hi) (by decide)
 ·rfl
theorem Tm(S:St P.w P.B Z hp s.heap){x:List Nat}{t:Tok}(hf:x.all EX=true)(hn:x≠[])(hl:x.length<=600):wpAny (model P.prog P.w) A (call (.type "int") [.str ⟨x.toArray⟩ t]) (QV P Z s (.ok (.int (EW x)) hp)) E s:=by
 have u0:(⟨x.toArray⟩:Str).length=x.length:=bL
 refine PySem.W.KIN.call_text (n:=((EW x:Nat):Int)) (PySem.intText_digits (x:=⟨x.toArray⟩) (fun c hc=>?_) hn (by rw[u0];exact n3 hl rfl)) (by rw[u0];exact n3 hl rfl) ⟨_,_,_,rfl,.tok S _,s.toks,rfl⟩
 have t0:=List.all_eq_true.mp hf c hc
 unfold EX at t0
 rw[aG,decide_eq_true_eq,decide_eq_true_eq] at t0
 exact t0
end
end
section
open PySem PySem.Spec PyProof.Rows PySem.W PySem.SeqAt
section
variable {α β:Type} {n:Nat}
noncomputable def IV(n:Nat)(R:α->Prop):KasT α->Prop
 | .ret a=>R a
 | .ask i j k=>i<n/\j<n/\∀ b,IV n R (k b)
theorem IV.bind(hf:∀ a,R a->IV n R' (f a)):∀ {t:KasT α},IV n R t->IV n R' (t.bind f)
 | .ret a,h=>hf a h
 | .ask i j k,h=>⟨h.1,h.2.1,fun b=>IV.bind hf (h.2.2 b)⟩
theorem IV.run:∀ {t:KasT α},IV n R t->R (BR lt t)
 | .ret a,h=>h
 | .ask i j k,h=>show R (BR lt (k (lt i j))) from IV.run (t:=k (lt i j)) (h.2.2 (lt i j))
theorem IV.wp(hc:∀ i j,i<n->j<n->∀ C:Bool->Shared->Prop,C (lt i j) s->cmp i j C s):
  ∀ {t:KasT α},IV n R t->Q (BR lt t) s->t.kasWp cmp Q s
 | .ret a,h,hq=>hq
 | .ask i j k,h,hq=>hc i j h.1 h.2.1 _ (IV.wp hc (h.2.2 (lt i j)) hq)
structure Bd (n:Nat) (p:Array Nat):Prop where
 pos:0<n
 same:p.toList.Perm (List.range n)
theorem Bd.size(h:Bd n p):p.size=n:=by have t0:=h.same.length_eq;rwa [eU,bH] at t0
theorem Bd.lt(h:Bd n p)(x:Nat)(hx:x∈p):x<n:=List.mem_range.mp (h.same.mem_iff.mp (Array.mem_toList_iff.mpr hx))
theorem Bd.get(h:Bd n p)(i:Nat):p.getD i 0<n:=by
 unfold Array.getD
 split
 ·exact h.lt _ (Array.getElem_mem _)
 ·exact h.pos
theorem Bd.perm(h:Bd n p)(hp:q.Perm p):Bd n q:=⟨h.pos,(Array.perm_iff_toList_perm.mp hp).trans h.same⟩
theorem Bd.rev(h:Bd n p)(i j:Nat):Bd n (kas_rev p i j):=h.perm (mirror_perm ..)
theorem Qe(h:Bd n p):∀ f m,IV n (fun _=>True) (kas_asc p f m)
 | 0,_=>trivial
 | f+1,m=>⟨h.get _,h.get _,fun b=>by
  rcases b with _|_
  case true=>exact trivial
  case false=>exact Qe h f (m+1)⟩
theorem JN:∀ f (p:Array Nat) m q,Bd n p->IV n (fun r=>Bd n r.1) (kas_desc f p m q)
 | 0,_,_,_,h=>h
 | f+1,p,m,q,h=>⟨h.get _,h.get _,fun b=>by
  rcases b with _|_
  case true=>
   show IV n _ (if q > 0 then _ else _)
   split
   ·exact JN f _ _ _ (h.rev ..)
   ·exact JN f _ _ _ h
  case false=>exact⟨h.get _,h.get _,fun d=>by
    rcases d with _|_
    case true=>exact h
    case false=>exact JN f _ _ _ h⟩⟩
theorem RJ(h:Bd n p)(m k:Nat):IV n (fun r=>Bd n r.2) (kas_tail3 m k p):=by
 unfold kas_tail3
 refine IV.bind (R:=fun _=>True) (fun m _=>?_) (Qe (h.rev ..) _ _)
 exact h.rev ..
theorem Jl(h:Bd n p)(m k:Nat):IV n (fun r=>Bd n r.2) (kas_descPart m k p):=by
 unfold kas_descPart
 refine IV.bind (R:=fun r=>Bd n r.1) (fun r hr=>?_) (JN _ _ _ _ h)
 split
 ·exact RJ (hr.rev ..) _ _
 ·exact RJ hr _ _
theorem Vs(h:Bd n p)(k:Nat):IV n (fun r=>Bd n r.2) (kas_count k p):=by
 unfold kas_count
 refine IV.bind (R:=fun _=>True) (fun m _=>?_) (Qe h _ _)
 split
 ·exact h
 ·split
  ·exact⟨h.get _,h.get _,fun b=>by
    rcases b with _|_
    case true=>exact h
    case false=>exact Jl (h.rev ..) _ _⟩
  ·exact Jl h _ _
theorem KN(h:Bd n p)(k:Nat):∀ f l r,IV n (fun _=>True) (kas_place p k f l r)
 | 0,_,_=>trivial
 | f+1,l,r=>by
  unfold kas_place
  split
  ·exact trivial
  ·exact⟨h.get _,h.get _,fun b=>by
    rcases b with _|_
    case true=>exact KN h k f _ _
    case false=>exact KN h k f _ _⟩
theorem Vt:∀ f (p:Array Nat) k,Bd n p->IV n (Bd n) (kas_bin f p k)
 | 0,_,_,h=>h
 | f+1,p,k,h=>IV.bind (fun l _=>Vt f _ _ (h.perm (bubble_perm ..))) (KN h _ _ _ _)
theorem Hb(h:0<n):IV n (Bd n) (kas_sort n):=by
 unfold kas_sort
 refine IV.bind (R:=fun r=>Bd n r.2) (fun r hr=>?_) (Vs ⟨h,List.Perm.refl _⟩ _)
 split
 ·exact Vt _ _ _ hr
 ·exact hr
end
theorem mR(h:0<ps.length):(EV ps).length=ps.length:=(bH ..).trans (Hb h).run.size
theorem Vu(h:0<ps.length)(hi:i∈EV ps):i<ps.length:=(Hb h).run.lt i (Array.mem_toList_iff.mp hi)
theorem Qf(h:0<ps.length):(EV ps).Perm (List.range ps.length):=(Hb h).run.same
section
variable {prog:Program} {w:World} {A:Around} {E:Value->Shared->Prop} {s:Shared}
noncomputable def Gv(h:Heap)(p:Int×Int)(v:Value):Prop:=∃ a n t u,v=.ref a/\h.get? a=some { cls:=.type "tuple",data:=.seq #[.int p.1 t,.int p.2 u] n }
structure Id (h:Heap) (ps:List (Int×Int)) (vs:List Value):Prop where
 len:ps.length=vs.length
 at_:∀ i v,vs[i]?=some v->Gv h (Jv ps i) v
theorem Id.get(x:Id h ps vs)(hi:i<ps.length):Gv h (Jv ps i) (vs.getD i Value.none):=by
 refine x.at_ i _ ?_
 rw[x.len] at hi
 rw[cV,aF hi];rfl
theorem Ym(hv:Gv s.heap p v)(hu:Gv s.heap q u)(h:Q (Cb p q) s):wpAny (model prog w) A (keyLt' (tuples' true) v u) Q E s:=by
 refine F7 hv fun a n t1 t2 A6 ha=>?_;try clear hv;subst A6
 refine F7 hu fun b m u1 u2 A6 hb=>?_;try clear hu;subst A6
 refine kat_lt ha rfl hb rfl ?_
 refine kat_cons (EqAt.int_int _ _ _ _ _ _ _ _ ?_)
 by_cases e1:p.1=q.1
 ·rw[show (p.1==q.1)=true from beq_iff_eq.mpr e1]
  refine kat_yes (kat_cons (EqAt.int_int _ _ _ _ _ _ _ _ ?_))
  by_cases e2:p.2=q.2
  ·rw[show (p.2==q.2)=true from beq_iff_eq.mpr e2]
   refine kat_yes (kat_nil ?_)
   have t0:Cb p q=false:=by
    unfold Cb
    rw[decide_eq_false (ZV e1),decide_eq_true e1,decide_eq_false (ZV e2)];rfl
   rw[t0] at h
   exact h
  ·rw[show (p.2==q.2)=false from beq_eq_false_iff_ne.mpr e2]
   refine kat_no (kat_one _ _ (PySem.P.lt_int ?_))
   have t3:Cb p q=decide (p.2<q.2):=by
    unfold Cb
    rw[decide_eq_false (ZV e1),decide_eq_true e1];rfl
   rw[t3] at h
   exact h
 ·rw[show (p.1==q.1)=false from beq_eq_false_iff_ne.mpr e1]
  refine kat_no (oneLt_int ?_)
  have t4:Cb p q=decide (p.1<q.1):=by
   unfold Cb
   rw[decide_eq_false e1];exact Bool.or_false _
  rw[t4] at h
  exact h
theorem RK:∀ {vs:List Value},(∀ v∈vs,∃ p,Gv h p v)->∃ fs:List Value,KatTups h vs fs/\fs.length=vs.length/\∀ f∈fs,∃ i t,f=.int i t
 | [],_=>⟨[],trivial,rfl,fun f hf=>nomatch hf⟩
 | v :: vs,H=>by
  refine F5 (RK fun x hx=>H x (aL _ hx)) fun fs h1 h2 h3=>?_
  refine XR (H v aH) fun p a n t u A6 ha=>?_;subst A6
  refine⟨.int p.1 t :: fs,.cons ha rfl rfl rfl h1,by rw[aN,h2];rfl,fun f hf=>?_⟩
  rcases List.mem_cons.mp hf with rfl|hf
  ·exact⟨_,_,rfl⟩
  ·exact h3 f hf
theorem JA(ho:s.heap.get? a=some (seqObj "list" vs.toArray n))(hp:Id s.heap ps vs)(h2:2<=vs.length)(h64:vs.length<64)
  (h:P (.done (.ret .none)) { s with heap:=sortedHeap s.heap a vs (List.toArray ((EV ps).map fun i=>vs.getD i Value.none)) }) :
  wpAny (model prog w) A (Builtin.«list.sort» ⟨[.ref a],[]⟩) P E s:=by
 have ha:a<s.heap.objs.size:=cX ho
 have u0:=hp.len
 obtain⟨e1,ho1⟩:∃ e1,(s.heap.update a (Obj.mapSeq fun _=>(#[]:Array Value))).get? a=some (seqObj "list" #[] e1):=⟨_,get?_update_seq ho fun _=>#[]⟩
 rw[list_sort_plain]
 refine aA (listItems_at ho rfl ?_)
 refine aA (iT ho rfl ?_ (by rw[bL,fC];exact l5 h64 rfl) (bE _))
 refine aA (jT ho1 rfl ?_)
 refine aA (wpAny_newTuple ?_ (by show vs.length<=_;rw[fC];exact l5 h64 rfl))
 refine aA (wpAny_newList ?_ (bE _))
 refine bD ?_
 have u6:(((s.heap.update a (Obj.mapSeq fun _=>#[])).push (seqObj "tuple" vs.toArray 0)).push (seqObj "list" #[] 0)).get? a=some (seqObj "list" #[] e1):=by
  rw[fL _ _ _ (by rw[size_push',gP];exact cE (iP ha)),fL _ _ _ (by rw[gP];exact cE ha)]
  exact ho1
 show wpAny (model prog w) A _ P E { s with heap:=((s.heap.update a (Obj.mapSeq fun _=>#[])).push (seqObj "tuple" vs.toArray 0)).push (seqObj "list" #[] 0) }
 have u1:∀ p v,Gv s.heap p v->Gv (((s.heap.update a (Obj.mapSeq fun _=>#[])).push (seqObj "tuple" vs.toArray 0)).push (seqObj "list" #[] 0)) p v:=by
  rintro p v ⟨b,m,t,u,rfl,hb⟩
  have u7:b≠a:=fun q=>by subst q;rw[ho] at hb;exact absurd (congrArg Obj.cls (Option.some.inj hb)) (fun e=>absurd (Value.type.inj e) (by decide))
  exact⟨b,m,t,u,rfl,aV _ (aV _ ((Heap.get?_update_ne _ _ _ _ u7).trans hb))⟩
 have u4:Id (((s.heap.update a (Obj.mapSeq fun _=>#[])).push (seqObj "tuple" vs.toArray 0)).push (seqObj "list" #[] 0)) ps vs:=⟨hp.len,fun i v hv=>u1 _ _ (hp.at_ i v hv)⟩
 obtain⟨fs,t1,t2,t3⟩:=RK (vs:=vs) fun v hv=>by
  refine xE (List.mem_iff_getElem.mp hv) fun i A6=>?_;refine xE A6 fun hi e=>?_
  exact⟨_,u4.at_ i v (by rw[aF hi,e])⟩
 have u5:¬ vs.toArray.size<2:=by rw[bL];exact dP h2
 dsimp only
 rw[if_neg u5,if_neg u5]
 refine aA (kat_kind (T:=.type "int") (s:={ s with heap:=((s.heap.update a (Obj.mapSeq fun _=>#[])).push (seqObj "tuple" vs.toArray 0)).push (seqObj "list" #[] 0) }) t1 (ZW t2 h2) (fun f hf=>by refine PJ (t3 f hf) fun i t A6=>?_;subst A6;exact Looks.of_pure rfl) rfl ?_)
 have u2:=(Hb (n:=ps.length) (ZW u0 h2)).run (lt:=fun i j=>Cb (Jv ps i) (Jv ps j))
 refine aA (aT (kat_run (κ:=tuples' true) (G:=fun p s'=>p=BR (fun i j=>Cb (Jv ps i) (Jv ps j)) (kas_sort ps.length)/\s'={ s with heap:=((s.heap.update a (Obj.mapSeq fun _=>#[])).push (seqObj "tuple" vs.toArray 0)).push (seqObj "list" #[] 0) })
  (Q:=fun st' s'=>∃ p:Array Nat,arrOf st'=p.map (kas_item (vs.toArray.zip vs.toArray))/\failedOf st'=none/\p=BR (fun i j=>Cb (Jv ps i) (Jv ps j)) (kas_sort ps.length)/\s'={ s with heap:=((s.heap.update a (Obj.mapSeq fun _=>#[])).push (seqObj "tuple" vs.toArray 0)).push (seqObj "list" #[] 0) })
  rfl h2 h64 (fun p' st' s' _ a2 a3 a4=>⟨p',a2,a3,a4⟩) (u0▸IV.wp (n:=ps.length) (fun i j hi hj C hC=>Ym (u4.get hi) (u4.get hj) hC) (Hb (ZW u0 h2)) ⟨rfl,rfl⟩)) ?_ fun _ _ e=>e)
 rintro ⟨⟨⟩,st'⟩ s' ⟨p,har,hf,rfl,rfl⟩
 dsimp only
 have u3:=kat_snds (vs:=vs) rfl har
 rw[u3]
 refine aA (jT u6 rfl ?_)
 refine aA (iT u6 rfl ?_ (bE _) (by rw[bL,aB,bH,u2.size,fC];exact ql (CW _ _) [(BP,(qN 64)),(Aj,Af)] Aj (qA (qN 16777216) qI) rfl h64 (aE u0)))
 rw[hf,bne_self_eq_false]
 exact aJ h
theorem LK(ho:s.heap.get? a=some (seqObj "list" vs.toArray n))(h2:vs.length<2)(h:P (.done (.ret .none)) { s with heap:=sortedHeap s.heap a vs vs.toArray }):
  wpAny (model prog w) A (Builtin.«list.sort» ⟨[.ref a],[]⟩) P E s:=by
 have ha:a<s.heap.objs.size:=cX ho
 obtain⟨e1,ho1⟩:∃ e1,(s.heap.update a (Obj.mapSeq fun _=>(#[]:Array Value))).get? a=some (seqObj "list" #[] e1):=⟨_,get?_update_seq ho fun _=>#[]⟩
 have u2:(((s.heap.update a (Obj.mapSeq fun _=>#[])).push (seqObj "tuple" vs.toArray 0)).push (seqObj "list" #[] 0)).get? a=some (seqObj "list" #[] e1):=by
  rw[fL _ _ _ (by rw[size_push',gP];exact cE (iP ha)),fL _ _ _ (by rw[gP];exact cE ha)]
  exact ho1
 have u0:vs.toArray.size<2:=by rw[bL];exact h2
 have u1:(vs.toArray.zip vs.toArray).map (·.2)=vs.toArray:=by
  apply Array.toList_inj.mp
  rw[Array.toList_map,Array.toList_zip,List.map_snd_zip (aS _)]
 rw[list_sort_plain]
 refine aA (listItems_at ho rfl ?_)
 refine aA (iT ho rfl ?_ (by rw[bL,fC];exact l5 u0 rfl) (bE _))
 refine aA (jT ho1 rfl ?_)
 refine aA (wpAny_newTuple ?_ (by show vs.length<=_;rw[fC];exact l5 u0 rfl))
 refine aA (wpAny_newList ?_ (bE _))
 refine bD ?_
 show wpAny (model prog w) A _ P E { s with heap:=((s.heap.update a (Obj.mapSeq fun _=>#[])).push (seqObj "tuple" vs.toArray 0)).push (seqObj "list" #[] 0) }
 dsimp only
 rw[if_pos u0,if_pos u0]
 refine aA (aJ ?_)
 rw[StateT.run_pure]
 refine aA (aJ ?_)
 dsimp only
 refine aA (jT u2 rfl ?_)
 have e2:(arrOf (SortSt.mk' general' (vs.toArray.zip vs.toArray) #[] 7 none)).map (·.2)=vs.toArray:=u1
 rw[e2]
 refine aA (iT u2 rfl ?_ (bE _) (by rw[bL,fC];exact l5 u0 rfl))
 rw[bne_self_eq_false]
 exact aJ h
end
end
section
open PySem PySem.Spec PyProof.Rows PySem.SeqAt
abbrev JO(h:Heap)(it d:Addr)(i n ep:Nat):Prop:=h.IsKeyIter it d i n ep
section
variable {P:BW} {A:Around} {Z:Sg} {hp:A0} {s:Shared} {E:Value->Shared->Prop}
theorem Ai.made(S:St P.w P.B Z hp s.heap){a:Addr}(hk:∀ b o,s.heap.get? b=some o->h'.get? b=some o)(ha:s.heap.get? a=none){ws:Array Value}(ho:C8 h' a (.type "list") (.seq ws n))
  {vs:List AV} (hr:RVs P.B h' Z vs ws.toList) (hb:Au vs hp≠.bad):QV P Z s (Au vs hp) (.ref a) { s with heap:=h',toks:=t }:=by
 unfold Au at hb |-
 split at hb
 ·rename_i gh
  rw[if_pos gh]
  have hn:a∉Z.map (·.1):=fun hm=>by
   refine A9 (List.mem_map.mp hm) fun p hp A6=>?_;subst A6
   refine A9 (S.there hp) fun ob e _=>?_
   rw[ha] at e;cases e
  have u0:P.B.h₀.get? a=none:=by
   rcases e:P.B.h₀.get? a with _|o
   case none=>rfl
   case some=>rw[S.base a o e] at ha;cases ha
  have S':=(S.keep hk).adopt (off:=0) (ao:=.list vs) hn u0 fun k=>⟨ws,n,ho,RVs.mono (fun _ _ x _=>x) k _ _ hr,AY gh⟩
  refine⟨_,_,_,rfl,⟨rfl,S',(Bk hk).adopt ha⟩,a,0,rfl,?_⟩
  rw[<- S.len];exact aY
 ·exact absurd rfl hb
theorem Tn(S:St P.w P.B Z hp s.heap){j:Nat}{xs:List AV}{a:Addr}(hj:hp[j]?=some (.list xs))(e1:Z[j]?=some (a,off))(hb:Au xs hp≠.bad):
  wpAny (model P.prog P.w) A (call (.type "list") [.ref a]) (QV P Z s (Au xs hp)) E s:=by
 refine Av (S.isL hj e1) fun ws n hl r=>?_
 have u0:=r.size
 have u1:=S.isLen hj e1
 exact call_list_seq a (.inl rfl) hl rfl rfl (fun h' c' hk ho=>Ai.made (t:=s.toks) S hk (Eu _) ho (RVs.fixes (fun b o e _=>hk b o e) _ _ r) hb) (A6 u0 u1)
theorem kW{vs:List Value}{xs:List Int}(h:IntsAre vs xs):RIs xs vs:=by
 induction h with
 | nil=>trivial
 | cons n t r ih=>exact⟨⟨t,rfl⟩,ih⟩
theorem pS{es:Array DictEntry}{ep:Nat}(hm:(d==sysModules)=false)(ho:C8 s.heap d (.type "dict") (.dict es ep))
  (hQ:Q (.ref s.heap.objs.size) { s with heap:=s.heap.push { cls:=.type "dict_keyiterator",data:=.fields #[.ref d,.int 0 0,.int es.size 0,.int ep 0] } }):wpAny (model P.prog P.w) A (pyIter (.ref d)) Q E s:=by
 have hT:s.TypeIs (.ref d) "dict":=⟨_,ho,rfl⟩
 refine wpAny_pyIter_slot hT F.slot_dict_iter (cJ F.slot_dict_iter hT F.entry_dict_iter ?_ (F.args_dict_iter_1 _))
 unfold Builtin.«dict.__iter__» Builtin.Dict.dictSlotNone
 refine aA (aA (eO hT (aJ ?_)))
 show wpAny _ _ (Builtin.Dict.showsAll d >>= _) _ _ s
 unfold Builtin.Dict.showsAll
 rw[if_neg (by rw[hm];exact aD)]
 refine aA (aJ (aA (dG ho rfl (aA (jK ho rfl ?_)))))
 exact aA (fJ (aJ ⟨_,rfl,"dict_keyiterator",_,⟨_,bG _ rfl,rfl⟩,F.slot_dict_keyiterator_next.lookup,hQ⟩))
theorem ZE{i ep:Nat}{es:Array DictEntry}(gp:JO s.heap it d i es.size ep)(ho:C8 s.heap d (.type "dict") (.dict es ep))(hh:A.handled=none)
  (jz:∀ e h',es[i]?=some e->JO h' it d (i+1) es.size ep->Heap.SameBut it s.heap h'->Q (some e.key) { s with heap:=h' }) (ka:es[i]?=none->∀ h',Heap.ExtBut it s.heap h'->Q none { s with heap:=h' }) :
  wpAny (model P.prog P.w) A (pyNext (.ref it)) Q E s:=by
 refine F5 (id gp) fun oi kc hci hdi=>?_
 have u1:Builtin.Dict_items.ownsTuple "dict_keyiterator"=false:=by decide
 unfold pyNext
 refine aA (wpAny_attempt (dT (name:=Str.ofString "__next__") gp.typeIs hU
  (cJ hU gp.typeIs F.entry_dict_keyiterator_next ?_ (F.args_dict_keyiterator_next_1 _))))
 refine aA (aJ ?_)
 refine aA (aA (aA (fB gp.typeIs (aJ ?_))))
 refine aA (wpAny_fieldsOf kc hdi ?_)
 rw[u1]
 show wpAny _ _ (if (Value.ref d==Value.none)=true then _ else _) _ _ s
 rw[if_neg (show ¬ ((Value.ref d==Value.none)=true) from aD)]
 refine aA (aJ (aA (dG ho rfl ?_)))
 rw[if_neg (by simp)]
 refine aA (aJ (aA (jK ho rfl ?_)))
 rw[if_neg (by simp)]
 refine aJ ?_
 dsimp only
 rw[if_neg (Int.not_lt.mpr (aQ i)),bT]
 rcases he:es[i]? with _|e
 case some=>
  refine aA (aA (fB gp.typeIs (aJ ?_)))
  refine aA (wpAny_isOneOf_keyiter gp.typeIs ?_)
  show wpAny _ _ (setField (.ref it) 1 (rawInt ((i:Int)+1)) >>= _) _ _ s
  refine aA (gC kc hdi (by simp) ?_)
  have u0:JO (s.heap.update it (Obj.mapFields (·.setIfInBounds 1 (rawInt ((i:Int)+1))))) it d (i+1) es.size ep:=
   ⟨_,bR _ kc (dO (dD hdi _)),(iO ..).trans hci,by rw[dD hdi];simp[rawInt]⟩
  refine aA (bD ?_)
  refine aA (wpAny_isOneOf_keyiter (s:={ s with heap:=s.heap.update it (Obj.mapFields (·.setIfInBounds 1 (rawInt ((i:Int)+1)))) }) u0.typeIs ?_)
  show wpAny _ _ (pure e.key) _ _ _
  exact aJ (aJ ⟨_,rfl,aJ (jz e _ he u0 (Heap.SameBut.update ..))⟩)
 case none=>
  refine aA (aA (fB gp.typeIs (aJ ?_)))
  show wpAny _ _ (setField (.ref it) 0 .none >>= _) _ _ s
  refine aA (gC kc hdi (by simp) ?_)
  show wpAny _ _ (newExc (.type "StopIteration") [] >>= _) _ _ _
  refine aA ?_
  delta newExc newTuple
  refine aA (fJ ?_ (by size_fits))
  refine aA (m:=firstArgMember _ _) (wpAny_of_eq (a:=Value.none) (by first|rfl|(simp only[firstArgMember];rfl)) ?_)
  refine fJ ?_ (by size_fits)
  show wpAny _ _ (handled >>= _) _ _ _
  refine aA (wpAny_handled ?_)
  rw[show A.in1.handled=none from hh]
  refine aA (aJ (wpAny_throw ?_))
  refine aA (wpAny_isInstance (T:="StopIteration") (b:=true) ⟨_,bG _ rfl,rfl⟩ isSubtype_stop ?_)
  exact aJ (ka he _ (((Heap.SameBut.update ..).extBut.push _).push _))
theorem To(hh:A.handled=none)(I d:Addr)(hne:d≠I)(es:Array DictEntry)(ep:Nat):
  Walks P.prog P.w A I [I,d] [I] es.size (fun i v=>∃ e,es[i]?=some e/\e.key=v) (fun i h=>JO h I d i es.size ep/\C8 h d (.type "dict") (.dict es ep)) where
 sub:=fun b hb=>by rw[List.mem_singleton.mp hb];exact aH
 frame:=fun _ _ _ st hk=>⟨st.1.at fun o e=>hk I aH o e,hk d (aL _ aH) _ st.2⟩
 item:=fun i s Q E hi st hQ=>ZE (P:=P) st.1 st.2 hh (fun e h' he jn hs'=>hQ e.key h' s.toks ⟨e,he,rfl⟩ ⟨jn,(hs'.2 d hne).trans st.2⟩ fun b o hb e=>(hs'.2 b fun h=>hb (List.mem_singleton.mpr h)).trans e)
  (fun he=>absurd he (by rw[bW hi];exact fun e=>nomatch e))
 done:=fun s Q E st hQ=>ZE (P:=P) st.1 st.2 hh (fun e h' he=>absurd he (by rw[Array.getElem?_eq_none (aS _)];exact fun e=>nomatch e)) (fun _ h' he'=>hQ h' s.toks fun b o hb e=>he' b o (fun h=>hb (List.mem_singleton.mpr h)) e)
 self:=fun _ _ _ _ st hQ=>wpAny_pyIter_keyiter st.1 hQ
theorem RL(lo:(d==sysModules)=false)(es:Array DictEntry)(ep:Nat):W.KdlSrc P.prog P.w "dict" d d es.size (fun i v=>∃ e,es[i]?=some e/\e.key=v) (fun h=>C8 h d (.type "dict") (.dict es ep)) where
 type:=fun _ hm=>⟨_,hm,rfl⟩
 there:=fun _ hm=>⟨cX hm,cX hm⟩
 keep:=fun _ _ hm hk=>hk d (.inl rfl) _ hm
 notList:=by decide
 notTuple:=by decide
 hint:=fun _ _ _ _ hm hq=>W.kdl_hint_dict ⟨_,hm,rfl⟩ hq
 iter:=fun _ _ hh hm=>⟨_,_,(fun _ _ hq=>pS (P:=P) lo hm hq),To hh _ d (cE (cX hm)) es ep,⟨⟨_,bG _ rfl,rfl,rfl⟩,aV _ hm⟩⟩
theorem Ed.keys{w:World}{B:Bs}:∀ {ps:List (Bc×AV)} {es:List DictEntry},Ed w B h Z ps es->RVs B h Z (ps.map fun p=>p.1.av) (es.map fun e=>e.key)
 | [],[],_=>trivial
 | _ :: _,_ :: _,r=>⟨r.1.2.1,Ed.keys r.2⟩
 | [],_ :: _,r=>r.elim
 | _ :: _,[],r=>r.elim
theorem KO{es acc:Array Value}{n:Nat}{ds:Array DictEntry}(h:ItemsOf (fun i v=>∃ e,ds[i]?=some e/\e.key=v) acc ds.size):acc.toList=ds.toList.map fun e=>e.key:=by
 refine List.ext_getElem? fun i=>?_
 rw[aK,bJ,bJ]
 rcases hi:acc[i]? with _|v
 case none=>
  have t0:ds[i]?=none:=by rw[Array.getElem?_eq_none_iff] at hi |-;rw[h.1] at hi;exact hi
  rw[t0];rfl
 case some=>
  refine A9 (h.2 i v hi) fun e h1 h2=>?_
  rw[h1,<- h2];rfl
inductive Vv (hp:A0) (j:Nat):List AV->Prop
 | lst (xs:List AV) (hj:hp[j]?=some (.list xs)):Vv hp j xs
 | dct (kvs:List (Bc×AV)) (ep:Nat) (hj:hp[j]?=some (.dict kvs ep)):Vv hp j (kvs.map fun p=>p.1.av)
theorem M9{j:Nat}(h:Ch hp j=some xs):Vv hp j xs:=by
 delta Ch at h
 rcases hj:hp[j]? with _|o
 case none=>rw[hj] at h;exact A2 h
 case some=>
  rw[hj] at h
  rcases o with _|_
  case list ys=>cases (show some ys=some xs from h);exact .lst _ hj
  case dict kvs ep=>cases (show some (kvs.map fun p=>p.1.av)=some xs from h);exact .dct _ _ hj
  all_goals exact A2 h
theorem Tq(ok:P.Ok)(S:St P.w P.B Z hp s.heap)(hh:A.handled=none){j:Nat}{xs:List AV}{v:Value}(rv:RV P.B s.heap Z (.loc j) v)(hx:Ch hp j=some xs)(hb:Au xs hp≠.bad):
  wpAny (model P.prog P.w) A (call (.type "list") [v]) (QV P Z s (Au xs hp)) E s:=by
 refine Av rv fun a off A6 e1=>?_;try clear rv;subst A6
 cases M9 hx with
 | lst xs hj=>exact Tn S hj e1 hb
 | dct kvs ep hj=>
  refine F6 (S.isDict hj e1) fun es ho re jp jm ji=>?_
  have u0:=re.length.trans bH
  refine W.kdl_call (RL (P:=P) (S.notMods ok e1) es (off+ep)) hh ho (A6 u0 ji) fun h' tk acc' c' hk hS' ja=>Ai.made (t:=tk) S hk (Eu _) hS' ?_ hb
  rw[KO (es:=acc') (n:=0) ja]
  exact RVs.fixes (fun b o e _=>hk b o e) _ _ re.keys
theorem Nk(ok:P.Ok)(S:St P.w P.B Z hp s.heap)(hh:A.handled=none){a:Addr}{off:Nat}(e1:Z[j]?=some (a,off))(hx:Ch hp j=some xs)(gh:xs.length<64){R:List Value->Shared->Prop}
  (h:∀ (h':Heap) (tk:Nat) (vs:List Value),(∀ b o,s.heap.get? b=some o->h'.get? b=some o)->RVs P.B h' Z xs vs->R vs { s with heap:=h',toks:=tk }):wpAny (model P.prog P.w) A (collect (.ref a)) R E s:=by
 cases M9 hx with
 | lst xs hj=>
  refine A9 (S.isList hj e1) fun ws hl rx=>?_
  have u0:=rx.size
  have hk:∀ b o,s.heap.get? b=some o->((s.heap.push (seqObj "list" #[] 0)).update s.heap.objs.size (Obj.mapSeq (·++ws.toList.toArray))).get? b=some o:=fun b o q=>by
   have u1:b<s.heap.objs.size:=cX q
   rw[Heap.get?_update_ne _ _ _ _ (cE u1),fL _ _ _ (cE u1)]
   exact q
  exact collect_list (vs:=ws.toList) (by rw[Array.toArray_toList];exact hl) (h _ _ _ hk (RVs.fixes (fun b o e _=>hk b o e) _ _ rx)) (by rw[bH,fC];exact nG gh u0)
 | dct kvs ep hj=>
  refine F6 (S.isDict hj e1) fun es ho re jp jm ji=>?_
  have u0:=re.length.trans bH
  refine W.kdu_collect (RL (P:=P) (S.notMods ok e1) es (off+ep)) hh ho (A6 u0 ji) fun h' tk acc hk ja=>h h' tk _ hk ?_
  rw[KO (es:=acc) (n:=0) ja]
  exact RVs.fixes (fun b o e _=>hk b o e) _ _ re.keys
theorem Tr{v:AV}(h:Gh v=some p):v=Ez p:=by
 unfold Gh at h
 rcases hk:v.key? with _|k
 case none=>rw[hk] at h;exact A2 h
 case some=>
  rw[hk] at h
  rcases k with _|_
  case str=>exact A2 h
  case pair=>cases h;exact HN hk
theorem Qg{xs:List AV}{ps:List (Int×Int)}(h:DI Gh xs=some ps):xs=ps.map Ez:=Ib Tr h
theorem Ts{h:Heap}{p:Int×Int}(r:RV B h Z (Ez p) v):Gv h p v:=by
 refine B2 r fun c A6 n Fk o rs=>?_;try clear r;obtain⟨ws⟩:=A6;subst Fk
 replace rs:RVs B h Z [.int p.1,.int p.2] ws:=rs
 refine AF rs.cons fun x r1 A6 Fk rs2=>?_;subst A6;refine xE Fk fun t A6=>?_;try clear Fk;subst A6
 refine XM rs2.one fun y A6 u Fk=>?_;subst A6;subst Fk
 exact⟨c,n,t,u,rfl,o⟩
theorem RM{ps:List (Int×Int)}(hi:i<ps.length):(ps.map Ez)[i]?=some (Ez (Jv ps i)):=by
 rw[aK,aF hi]
 unfold Jv
 rw[cV,aF hi];rfl
theorem Qh{h:Heap}{ps:List (Int×Int)}(r:RVs B h Z (ps.map Ez) vs):Id h ps vs:=by
 have hl:=r.length
 rw[aB] at hl
 refine⟨hl,fun i v hv=>?_⟩
 have hi:i<ps.length:=by rw[hl];exact(List.getElem?_eq_some_iff.mp hv).1
 refine A9 (r.get (RM hi)) fun u h1 h2=>?_
 rw[hv] at h1;cases h1
 exact Ts h2
theorem Ma{h:Heap}{ps:List (Int×Int)}(r:RVs B h Z (ps.map Ez) vs):∀ (is:List Nat),(∀ i∈is,i<ps.length)->RVs B h Z (is.map fun i=>Ez (Jv ps i)) (is.map fun i=>vs.getD i Value.none)
 | [],_=>trivial
 | i :: is,H=>by
  refine A9 (r.get (RM (H i aH))) fun u h1 h2=>?_
  refine⟨?_,Ma r is fun k hk=>H k (aL _ hk)⟩
  show RV B h Z (Ez (Jv ps i)) (vs.getD i Value.none)
  rw[cV,h1]
  exact h2
theorem Jm(S:St P.w P.B Z hp s.heap){vs:List Value}{ys:List AV}(hk:∀ b o,s.heap.get? b=some o->h'.get? b=some o)(hb:Au ys hp≠.bad)
  (hr:RVs P.B h' Z ys out.toList):QV P Z s (Au ys hp) (.ref h'.objs.size) { s with heap:=sortedHeap (h'.push (seqObj "list" vs.toArray 0)) h'.objs.size vs out,toks:=tk }:=by
 have u3:(h'.push (seqObj "list" vs.toArray 0)).get? h'.objs.size=some (seqObj "list" vs.toArray 0):=bG _ rfl
 have u0:s.heap.get? h'.objs.size=none:=by
  rcases e:s.heap.get? h'.objs.size with _|o
  case none=>rfl
  case some=>have t0:=hk _ o e;rw[Eu] at t0;cases t0
 have u1:∀ b o,h'.get? b=some o->(sortedHeap (h'.push (seqObj "list" vs.toArray 0)) h'.objs.size vs out).get? b=some o:=fun b o e=>by
  have u2:=cX e
  rw[sortedHeap_old (cE u2) (by rw[IQ];exact iP u2)]
  exact aV _ e
 refine xE (sortedHeap_at (out:=out) u3) fun e he=>?_
 exact Ai.made (t:=tk) S (fun b o e=>u1 b o (hk b o e)) u0 he (RVs.fixes (fun b o e _=>u1 b o e) _ _ hr) hb
theorem Op(ok:P.Ok)(S:St P.w P.B Z hp s.heap)(hh:A.handled=none){ps:List (Int×Int)}{ys:List AV}(rv:RV P.B s.heap Z (.loc j) v)(hx:(Ch hp j).bind (DI Gh)=some ps)(hy:M0 ps=some ys)(hb:Au ys hp≠.bad):
  wpAny (model P.prog P.w) A (call (.builtin "sorted") [v]) (QV P Z s (Au ys hp)) E s:=by
 refine Av rv fun a off A6 e1=>?_;try clear rv;subst A6
 refine A9 (Option.bind_eq_some_iff.mp hx) fun xs hw hp1=>?_
 obtain rfl:=Qg hp1
 have u1:ps.length<64:=by
  exact Ko hy (fun h _=>aP h (by decide)) fun _ hy=>(Cr hy).1
 refine Calls.call_function_entry kind_sorted plain_sorted entry_sorted (args_sorted1 _) ?_
 unfold Builtin.«sorted»
 refine aA (m:=checkCount "sorted" 1 1 _) (aJ ?_)
 refine aA (Nk (A:=A.in1) ok S hh e1 hw (by rw[aB];exact u1) fun h' tk vs hk rv=>?_)
 have hl:=rv.length
 rw[aB] at hl
 refine aA (wpAny_newList ?_ (by show _<=16777216;exact nG u1 hl))
 have u0:(h'.push (seqObj "list" vs.toArray 0)).get? h'.objs.size=some (seqObj "list" vs.toArray 0):=bG _ rfl
 have u2:∀ b o,h'.get? b=some o->(h'.push (seqObj "list" vs.toArray 0)).get? b=some o:=fun b o e=>aV _ e
 unfold M0 at hy
 split at hy
 ·rename_i h2
  cases hy
  refine aA (bD (cJ slot_list_sort ⟨_,u0,rfl⟩ entry_list_sort (LK u0 (ql (CW _ _) [(BP,(qN 2)),(Aj,Af)] Ee (qN 2) rfl h2 (aE (bO hl))) ⟨_,rfl,?_⟩) (args_list_sort _)))
  exact aJ ⟨_,rfl,Jm S hk hb rv⟩
 ·rename_i h2
  cases hy
  have u3:=RVs.fixes (fun b o e _=>u2 b o e) _ _ rv
  refine aA (bD (cJ slot_list_sort ⟨_,u0,rfl⟩ entry_list_sort (JA u0 (Qh u3) (ql (CW _ _) [(Af,Aj),(qN 2,Af)] (qN 2) Aj rfl (aE hl) (bK h2)) (ql (CW _ _) [(BP,(qN 64)),(Aj,Af)] Ee (qN 64) rfl u1 (aE (bO hl))) ⟨_,rfl,?_⟩) (args_list_sort _)))
  exact aJ ⟨_,rfl,Jm S hk hb (Ma rv _ fun i hi=>Vu (ZX h2) hi)⟩
theorem Ed.dropAt{B:Bs}{h:Heap}:∀ {ps:List (Bc×AV)} {es:List DictEntry},Ed w B h Z ps es->∀ {i:Nat},ps.findIdx? (fun p=>p.1==k)=some i->(ps.map (·.1)).Nodup ->
  Ed w B h Z (EY ps k) (es.eraseIdx i)
 | p :: ps,e :: es,r,i,hi,hn=>by
  rw[eL] at hi
  rw[aZ,dM] at hn
  unfold EY
  by_cases h:p.1==k
  ·rw[if_pos h] at hi
   cases hi
   have jh:ps.filter (fun p=>!(p.1==k))=ps:=by
    refine List.filter_eq_self.mpr fun q hq=>?_
    have t0:(q.1==k)=false:=beq_eq_false_iff_ne.mpr fun e=>hn.1 (by rw[cA h,<- e];exact cQ (f:=(·.1)) hq)
    rw[t0];rfl
   rw[List.filter_cons_of_neg (by rw[h];exact aD),jh]
   exact r.2
  ·rw[if_neg h] at hi
   rcases hj:ps.findIdx? (fun p=>p.1==k) with _|j
   case none=>rw[hj] at hi;cases hi
   case some=>
    rw[hj] at hi
    cases hi
    rw[List.filter_cons_of_pos (by simpa using h)]
    exact⟨r.1,Ed.dropAt r.2 hj hn.2⟩
 | [],[],_,_,hi,_=>by cases hi
 | [],_ :: _,r,_,_,_=>r.elim
 | _ :: _,[],r,_,_,_=>r.elim
theorem Tt{ps:List (Bc×AV)}(h:(ps.map (·.1)).Nodup):((EY ps k).map (·.1)).Nodup:=(List.filter_sublist.map _).nodup h
theorem Ed.at{w:World}{B:Bs}:∀ {ps:List (Bc×AV)} {es:List DictEntry},Ed w B h Z ps es->∀ {i:Nat} {k:Bc} {v:AV},ps[i]?=some (k,v)->∃ e,es[i]?=some e/\RV B h Z v e.val
 | p :: ps,e :: es,r,0,k,v,hi=>by rcases (Option.some.inj hi) with rfl;exact⟨e,rfl,r.1.2.2⟩
 | p :: ps,e :: es,r,i+1,k,v,hi=>Ed.at r.2 (i:=i) hi
 | [],[],_,_,_,_,hi=>by cases hi
 | [],_ :: _,r,_,_,_,_=>r.elim
 | _ :: _,[],r,_,_,_,_=>r.elim
theorem Vw(ok:P.Ok)(S:St P.w P.B Z hp s.heap)(hu:A.units+1<cLine)(hj:hp[j]?=some (.dict kvs ep))(e1:Z[j]?=some (a,off)){k:Bc}{y:AV}(rx:RV P.B s.heap Z k.av u)(ic:Be kvs k=true)(hy:kvs.lookup k=some y):
  wpAny (model P.prog P.w) A (call (.builtin "dict.pop") [.ref a,u]) (QV P Z s (.ok y (hp.set j (.dict (EY kvs k) (ep+1))))) E s:=by
 refine F6 (S.isDict hj e1) fun es ho re jp jm ji=>?_
 have hT:s.TypeIs (.ref a) "dict":=⟨_,ho,rfl⟩
 refine xE (Gr (A:=A.in1) rx (by show A.units+1<_;exact hu)) fun d hh=>?_
 have u2:=re.length.trans bH
 obtain⟨i,y',f1,f2,f3⟩:∃ i v,kvs.findIdx? (fun p=>p.1==k)=some i/\kvs[i]?=some (k,v)/\kvs.lookup k=some v:=by
  rcases F1 (k:=k) kvs with ⟨_,e2⟩|h
  ·rw[e2] at hy;cases hy
  ·exact h
 rw[hy] at f3;cases f3
 refine A9 (re.at f2) fun e he rv=>?_
 have u3:es[i]?=some e:=by rw[<- he];obtain⟨l⟩:=es;simp
 have hi:i<es.size:=(Array.getElem?_eq_some_iff.mp u3).1
 refine cJ F.slot_dict_pop hT F.entry_dict_pop ?_ (F.args_dict_pop_2 _ _)
 unfold Builtin.«dict.pop»
 refine aA ?_
 unfold Builtin.Dict.keyAndDefault
 refine aA (eO hT ?_)
 show wpAny _ _ (pure (a,u,none)) _ _ s
 refine aJ ?_
 have u5:Heap.SameBut a s.heap (s.heap.update a (Obj.mapDictKeys fun es=>es.eraseIdxIfInBounds i)):=.update ..
 have u1:(EY kvs k).length<=kvs.length:=cZ ..
 refine xA (S.upd (X:=[]) e1 u5.extBut (.dict (EY kvs k) (ep+1)) (bR _ ho rfl) fun g=>by
  refine⟨es.eraseIdxIfInBounds i,bR _ ho rfl,?_,Tt jp,fun p hp' q hq=>jm p (List.mem_filter.mp hp').1 q (List.mem_filter.mp hq).1,by exact aR u1 ji⟩
  have t0:=(re.grows g).dropAt f1 jp
  obtain⟨el⟩:=es
  simpa using t0) fun S' g=>?_
 have u0:wpAny (model P.prog P.w) A.in1 (Builtin.Dict.takeOut a u) (fun old s'=>old=some e/\s'={ s with heap:=s.heap.update a (Obj.mapDictKeys fun es=>es.eraseIdxIfInBounds i),toks:=s.toks+d }) E s:=by
  unfold Builtin.Dict.takeOut
  refine bD (aA (hh _ _ ?_))
  refine aA (F9 (s:={ s with toks:=s.toks+d }) ho rfl re jp rx ic (by show A.units+1<_;exact hu) ?_)
  rw[f1]
  refine aA (dG (s:={ s with toks:=s.toks+d }) ho rfl ?_)
  rw[u3]
  exact aA (wpAny_updateDictKeys (s:={ s with toks:=s.toks+d }) ho rfl (aJ ⟨rfl,rfl⟩) (hz:=by exact A6 u2 ji))
 have u4:es.isEmpty=false:=by
  rcases q:es.isEmpty with _|_
  case false=>rfl
  case true=>rw[Array.isEmpty_iff.mp q] at hi;exact absurd hi (fV _)
 dsimp only
 split
 case' isTrue=>refine aA (aJ ?_)
 case' isFalse=>
  refine aA (dG ho rfl ?_)
  rw[u4]
  refine aA (aJ ?_)
 all_goals
  rw[if_neg aD]
  refine aA (aT u0 ?_ fun _ _ q=>q)
  rintro _ _ ⟨rfl,rfl⟩
  exact aA (wpAny_letGo (aJ ⟨e.val,rfl,_,_,_,rfl,⟨rfl,S',g⟩,RV.grows g _ _ rv⟩))
theorem Vx(ok:P.Ok)(S:St P.w P.B Z hp s.heap)(hu:A.units+1<cLine){off:Nat}(hj:Bi hp j=some d)(e1:Z[j]?=some (a,off)){x y:AV}(rx:RV P.B s.heap Z x u)(hy:O5 d.1 x.key?=some y):
  wpAny (model P.prog P.w) A (call (.builtin "dict.get") [.ref a,u]) (QV P Z s (.ok y hp)) E s:=by
 refine BT (S.isDict (Dh hj) e1) fun es ho re jp _=>?_
 have hT:s.TypeIs (.ref a) "dict":=⟨_,ho,rfl⟩
 have hk:∃ k,x.key?=some k/\Be d.1 k=true/\y=(d.1.lookup k).getD .none:=by
  rcases hq:x.key? with _|k<;>rw[hq] at hy
  case none=>exact A2 hy
  case some=>exact xA (Cr hy) fun hs h=>⟨_,rfl,hs,(Option.some.inj h).symm⟩
 obtain⟨k,hk,ic,rfl⟩:=hk
 rw[HN hk] at rx
 refine xE (FO (A:=A.in1) S (Dh hj) e1 rx ic (by show A.units+1<_;exact hu)) fun n hg=>?_
 refine cJ F.slot_dict_get hT F.entry_dict_get ?_ (F.args_dict_get_2 _ _)
 show wpAny _ _ (dictGet a u >>= _) _ _ s
 refine aA (hg _ _ (fun e=>?_) (fun z w e rz=>?_))
 ·rw[e]
  show wpAny _ _ (Builtin.Dict.missed a u >>= _) _ _ _
  exact aA (wpAny_missed_other (S.notMods ok e1) (aJ ⟨.none,rfl,_,_,_,rfl,.tok S _,rfl⟩))
 ·rw[e]
  exact aJ ⟨w,rfl,_,_,_,rfl,.tok S _,rz⟩
end
end
section
open PySem PySem.Spec PyProof.Rows PySem.SeqAt
section
variable {P:BW} {A:Around} {Z:Sg} {hp:A0} {s:Shared} {E:Value->Shared->Prop}
theorem Yn(h:SU hp j=some (k,fs)):hp[j]?=some (.inst k)/\hp[k]?=some (.ns fs):=by
 delta SU at h
 rcases hj:hp[j]? with _|o
 case none=>rw[hj] at h;exact A2 h
 case some=>
  rw[hj] at h
  rcases o with _|_
  case inst i=>
   dsimp only at h
   rcases hi:hp[i]? with _|o
   case none=>rw[hi] at h;exact A2 h
   case some=>
    rw[hi] at h
    rcases o with _|_
    case ns gs=>cases (show some (i,gs)=some (k,fs) from h);exact⟨rfl,hi⟩
    all_goals exact A2 h
  all_goals exact A2 h
structure kX (P:BW) (Z:Sg) (h:Heap) (x dx:Addr) (fs:List (Str×AV)) (mA:Str->Option Value):Prop where
 inst:h.Inst x P.B.C mA
 ns:vL P.B h Z fs mA
 obj:∃ o,h.get? x=some o/\o.dict=some dx
 ne:dx≠x
theorem Nl(S:St P.w P.B Z hp s.heap){j k:Nat}(hj:hp[j]?=some (.inst k))(hk:hp[k]?=some (.ns fs))(e1:Z[j]?=some (x,off)):∃ mA gx,Z[k]?=some (off,gx)/\kX P Z s.heap x off fs mA:=by
 refine LX (S.obj j x off _ e1 hj) fun o gx h1 h2 h3 h4 h5 h6 _=>?_
 refine A9 (S.obj k off gx _ h6 hk) fun mA n1 n2=>?_
 exact⟨mA,gx,h6,⟨⟨o,h1,h2,h3,.inr ⟨off,h4,h5,n1⟩⟩,n2,⟨o,h1,h4⟩,h5⟩⟩
theorem RV.handed:∀ {x:AV} {v:Value},RV B h Z x v->handedOut v=pure v
 | .none,v,r=>by rcases (show v=.none from r) with rfl;rfl
 | .bool b,v,r=>by rcases (show v=.bool b from r) with rfl;rfl
 | .int i,v,r=>by refine xE r fun t A6=>?_;try clear r;subst A6;rfl
 | .str i,v,r=>by refine xE r fun t A6=>?_;try clear r;subst A6;rfl
 | .tup i,v,r=>by refine C4 r fun a _ _ A6 _=>?_;try clear r;subst A6;rfl
 | .loc i,v,r=>by refine Av r fun a _ A6 _=>?_;try clear r;subst A6;rfl
 | .rng ..,v,r=>by refine F7 r fun a _ _ _ A6 _=>?_;try clear r;subst A6;rfl
 | .scr i,v,r=>by refine Av r fun a _ A6 _=>?_;try clear r;subst A6;rfl
theorem Tu(ok:P.Ok)(S:St P.w P.B Z hp s.heap)(hn:P.B.attrs.contains n=true)(rv:RV P.B s.heap Z a v)(hb:Ef n a hp≠.bad):wpAny (model P.prog P.w) A (getAttr v n true) (QV P Z s (Ef n a hp)) E s:=by
 rcases a with _|_
 case loc j=>
  refine Av rv fun x off A6 e1=>?_;try clear rv;subst A6
  refine A9 (Du hb) fun y hy e=>?_
  rw[show Ef n (.loc j) hp=.ok y hp from e]
  refine aI fun gj=>?_
  refine A9 (Option.bind_eq_some_iff.mp hy) fun fs hf hl=>?_
  refine A9 (M7 hf) fun k hj hk=>?_
  refine Av (Nl S hj hk e1) fun mA gx e2 I=>?_
  refine A9 (I.ns.has n y hl) fun u hu ru=>?_
  refine Cp ((ok.cls.keeps S.base).obj) fun nm q bs sn sub col dd k0 k1 k2 k3 k5 hC=>?_
  refine xA (ok.qa n hn) fun q1 q2=>?_
  refine gj ?_
  exact load_attr hC (ok.cls.keeps S.base).ns ok.q2 q1 q2 I.inst hu ru.handed ⟨_,_,_,rfl,.tok S _,ru⟩
 all_goals exact absurd rfl hb
theorem Nn(ok:P.Ok)(S:St P.w P.B Z hp s.heap)(hn:P.B.attrs.contains n=true){a y:AV}(rv:RV P.B s.heap Z a v)(ru:RV P.B s.heap Z y u)(hs:Fn n a y hp=some hp')
  (h:∀ s',Ai P Z Z [] hp' s s'->Q () s'):wpAny (model P.prog P.w) A (setAttr v n u) Q E s:=by
 rcases a with _|_
 case loc j=>
  refine A9 (Option.map_eq_some_iff.mp (show (SU hp j).map (fun p=>hp.set p.1 (.ns ((n,y) :: p.2)))=some hp' from hs)) fun A6 hk Fk=>?_;obtain⟨k,fs⟩:=A6;subst Fk
  refine xA (Yn hk) fun hj hk=>?_
  refine Av rv fun x off A6 e1=>?_;try clear rv;subst A6
  refine Av (Nl S hj hk e1) fun mA gx e2 I=>?_
  refine Cp ((ok.cls.keeps S.base).obj) fun nm q bs sn sub col dd k0 k1 k2 k3 k5 hC=>?_
  refine xA (ok.qa n hn) fun q1 q2=>?_
  refine A9 I.obj fun o hx hd=>?_
  have u3:x≠P.B.C:=fun e=>by
   refine Cp ok.cls.obj fun _ _ _ _ _ _ _ _ _ _ _ _ ke=>?_
   have t0:=S.new _ (aX e1)
   rw[show ((x,off):Addr×Nat).1=x from rfl,e] at t0
   rw[t0] at ke;cases ke
  refine store_attr PySem.F.store_object hC (ok.cls.keeps S.base).ns ok.q1 q1 q2 u3 I.inst (fun h' tk' I' gk hsame=>?_) I.ns.within ok.few
  refine F6 (hsame o hx) fun bw ck dr du s₁ dv=>?_
  have eo:bw=o:=by
   have u1:=dv off hd
   rcases o with ⟨_,_,_,_⟩;rcases bw with ⟨_,_,_,_⟩
   cases dr;cases du;cases s₁
   cases hd;cases u1;rfl
  subst eo
  have u2:∀ b ob,b≠off->s.heap.get? b=some ob->h'.get? b=some ob:=fun b ob hb e=>by
   by_cases q:b=x
   ·subst q;rw[hx] at e;cases e;exact ck
   ·exact gk b ob q (fun fp dx q1 q2=>by rw[hx] at q1;cases q1;rw[hd] at q2;cases q2;exact hb) e
  refine BT I' fun o2 e2' _ _ hdd=>?_
  rw[ck] at e2';cases e2'
  have u0:h'.Ns1 off (fun y=>if y=n then some u else mA y):=by
   rcases hdd with ⟨hn0,_⟩|⟨d',gm,_,hns'⟩
   ·rw[hd] at hn0;cases hn0
   ·rw[hd] at gm;cases gm;exact hns'
  refine A9 (M2 u0) fun ob hob _=>?_
  have hN:∀ g:AN Z Z [] s.heap h',vL P.B h' Z ((n,y) :: fs) (fun y=>if y=n then some u else mA y):=fun g=>by
   refine⟨fun z av hz=>?_,fun z hz=>?_,fun z hz=>?_⟩
   ·rw[cM] at hz
    rcases hq:z==n with _|_
    case true=>
     rw[hq] at hz;cases hz
     exact⟨u,if_pos (beq_iff_eq.mp hq),RV.grows g _ _ ru⟩
    case false=>
     rw[hq] at hz
     refine A9 (I.ns.has z av hz) fun w h1 h2=>?_
     exact⟨w,(if_neg (beq_eq_false_iff_ne.mp hq)).trans h1,RV.grows g _ _ h2⟩
   ·rw[cM] at hz
    rcases hq:z==n with _|_
    case true=>rw[hq] at hz;cases hz
    case false=>
     rw[hq] at hz
     exact(if_neg (beq_eq_false_iff_ne.mp hq)).trans (I.ns.non z hz)
   ·by_cases q:z=n
    ·subst q;exact List.contains_iff_mem.mp hn
    ·exact I.ns.within z (fun e=>hz ((if_neg q).trans e))
  refine xA (S.upd (X:=[]) e2 u2 (.ns ((n,y) :: fs)) hob fun g=>⟨_,u0,hN g⟩) fun S' g=>?_
  exact h _ ⟨rfl,S',g⟩
 all_goals exact A2 hs
theorem St.made(S:St P.w P.B Z hp s.heap)(M:Heap.MadeObj s.heap h' x dx P.B.C)(hpl:∀ o,h'.get? x=some o->∀ v,o.data≠.prim v):
  St P.w P.B (Z++[(dx,0)]++[(x,dx)]) (HD hp) h'/\AN Z (Z++[(dx,0)]++[(x,dx)]) [] s.heap h':=by
 refine BT M.inst fun ox hx hcx hncx hdx=>?_
 have u1:=M.dict ox hx
 have u3:h'.Ns1 dx fun _=>none:=by
  rcases hdx with ⟨hn0,_⟩|⟨d',gm,_,hns'⟩
  ·rw[hn0] at u1;cases u1
  ·rw[u1] at gm;cases gm;exact hns'
 have u4:dx≠x:=by
  rcases hdx with ⟨hn0,_⟩|⟨d',gm,hne',_⟩
  ·rw[hn0] at u1;cases u1
  ·rw[u1] at gm;cases gm;exact hne'
 have u0:∀ b,s.heap.get? b=none->b∉Z.map (·.1)/\P.B.h₀.get? b=none:=fun b hb=>by
  refine⟨fun hm=>?_,?_⟩
  ·refine A9 (List.mem_map.mp hm) fun p hp A6=>?_;subst A6
   refine A9 (S.there hp) fun ob e _=>?_
   rw[hb] at e;cases e
  ·rcases hq:P.B.h₀.get? b with _|o
   case none=>rfl
   case some=>have t0:=S.base b o hq;rw[hb] at t0;cases t0
 have S1:=(S.keep M.keeps).adopt (off:=0) (ao:=.ns []) (u0 dx M.newD).1 (u0 dx M.newD).2 fun _=>⟨_,u3,⟨fun y av e=>(nomatch (show none=some av from e)),fun y _=>rfl,fun y hy=>absurd rfl hy⟩⟩
 have u5:x∉(Z++[(dx,0)]).map (fun p:Addr×Nat=>p.1):=by
  rw[aU,dX]
  rintro (q|q)
  ·exact(u0 x M.newX).1 q
  ·exact u4 (List.mem_singleton.mp q).symm
 have u2:(Z++[(dx,0)]++[(x,dx)])[hp.length]?=some (dx,0):=by
  rw[bB (by rw[aC,S.len];exact eB _),<- S.len];exact aY
 have S2:=S1.adopt (off:=dx) (ao:=.inst hp.length) u5 (u0 x M.newX).2 fun _=>⟨ox,0,hx,hcx,hncx,u1,u4,u2,hpl ox hx⟩
 refine⟨?_,((Bk M.keeps).adopt M.newD).adopt M.newX⟩
 have e:Mine.Internal.HD hp=hp++[.ns []]++[.inst hp.length]:=by unfold Mine.Internal.HD;rw[bC];rfl
 rw[e];exact S2
end
end
section
open PySem PySem.Spec PyProof.Rows PySem.SeqAt
noncomputable def Yo:Bc->Str
 | .str x=>⟨x.toArray⟩
 | _=>⟨#[]⟩
section
variable {prog:Program} {w:World} {B:Bs} {h:Heap} {Z:Sg}
theorem Ed.strs:∀ {ps:List (Bc×AV)} {es:List DictEntry},Ed w B h Z ps es->(∀ p∈ps,p.1.sort=false) ->
  KeysOf (PySem.strKind prog w) es.toArray/\∃ more:List (Str×Value),Pairs (PySem.strKind prog w) es more/\more.map (·.1)=ps.map (fun p=>Yo p.1)/\RVs B h Z (ps.map (·.2)) (more.map (·.2))
 | [],[],_,_=>⟨(fun e he=>by simp at he),[],.nil,rfl,trivial⟩
 | p :: ps,e :: es,r,H=>by
  refine Rg (Ed.strs r.2 fun q hq=>H q (.tail _ hq)) fun h0 more h1 h2 h3=>?_
  obtain⟨k,v⟩:=p
  rcases k with x|_
  case pair=>exact absurd (H _ (.head _)) (fun q=>nomatch q)
  refine xE r.1.2.1 fun t hk=>?_
  have hi:(PySem.strKind prog w).is ⟨x.toArray⟩ e.key=true:=by rw[hk];simp[PySem.strKind,Value.isStrOf]
  refine⟨fun e' he'=>?_,(⟨x.toArray⟩,e.val) :: more,.cons hi rfl h1,by rw[aZ,h2];rfl,r.1.2.2,h3⟩
  rcases List.mem_cons.mp (List.mem_toArray.mp he') with e1|he'
  ·rw[e1];exact⟨_,hi,r.1.1⟩
  ·exact h0 e' (List.mem_toArray.mpr he')
 | [],_ :: _,r,_=>r.elim
 | _ :: _,[],r,_=>r.elim
theorem Vy{es:List DictEntry}{more:List (Str×Value)}(q:Pairs (PySem.strKind prog w) es more):∀ {ps:List (Bc×AV)},(∀ e∈es,∃ k,(PySem.strKind prog w).is k e.key=true/\e.hash=(PySem.strKind prog w).hash k)->(∀ p∈ps,p.1.sort=false) ->
  more.map (·.1)=ps.map (fun p=>Yo p.1)->RVs B h Z (ps.map (·.2)) (more.map (·.2))->Ed w B h Z ps es:=by
 induction q with
 | nil=>
  intro ps _ _ e _
  rcases ps with _|_
  ·trivial
  ·cases e
 | @cons e kv es kvs hi hv _ ih=>
  intro ps hk hs em rv
  rcases ps with _|⟨p,ps⟩
  ·cases em
  have u0:=List.cons.inj em
  refine⟨?_,ih (fun e he=>hk e (.tail _ he)) (fun p hp=>hs p (.tail _ hp)) u0.2 rv.2⟩
  obtain⟨k,v⟩:=p
  rcases k with x|_
  case pair=>exact absurd (hs _ (.head _)) (fun q=>nomatch q)
  have e1:kv.1=⟨x.toArray⟩:=u0.1
  refine A9 (hk e (.head _)) fun k' h1 h2=>?_
  have e2:k'=kv.1:=(PySem.strKind prog w).inj _ _ _ h1 hi
  refine⟨by rw[h2,e2,e1];rfl,?_,by rw[hv];exact rv.1⟩
  refine xE (Value.isStrOf_shape hi) fun t ht=>?_
  exact⟨t,by rw[ht,e1]⟩
end
section
variable {P:BW} {A:Around} {Z:Sg} {hp:A0} {s:Shared} {E:Value->Shared->Prop}
theorem Tv(ok:P.Ok)(S:St P.w P.B Z hp s.heap)(rv:RV P.B s.heap Z (.loc j) v)(hb:O4 (Bi hp j) hp≠.bad):
  wpAny (model P.prog P.w) A (call (.type "dict") [v]) (QV P Z s (O4 (Bi hp j) hp)) E s:=by
 refine Av rv fun a off A6 e1=>?_;try clear rv;subst A6
 rcases hd:Bi hp j with _|d
 case none=>rw[hd] at hb;exact absurd rfl hb
 case some=>
  rw[hd] at hb
  have u1:=FN (c:=(d.1.all fun p=>!p.1.sort)=true) hb
  rw[show O4 (some d) hp=.ok (.loc hp.length) (hp++[.dict d.1 0]) from if_pos u1]
  refine F6 (S.isDict (Dh hd) e1) fun es ho re jp jm ji=>?_
  have hs:∀ p∈d.1,p.1.sort=false:=fun p hp=>by simpa using List.all_eq_true.mp u1 p hp
  have u3:=re.length.trans bH
  refine Rg (Ed.strs (prog:=P.prog) re hs) fun hk more hm hmk hmv=>?_
  have u5:more.length=d.1.length:=by have t0:=congrArg List.length hmk;rwa [aB,aB] at t0
  have hD:s.heap.DictOf (PySem.strKind P.prog P.w) a more:=⟨_,es,_,ho,⟨rfl,rfl,rfl⟩,rfl,by rw[Array.toArray_toList] at hk;exact hk,hm,by
   rw[hmk]
   have e:d.1.map (fun p=>Yo p.1)=(d.1.map (·.1)).map Yo:=by rw[cO];rfl
   rw[e]
   refine List.pairwise_map.mpr (List.Pairwise.imp_of_mem (fun {x y} hx hy hne q=>hne ?_) jp)
   refine A9 (List.mem_map.mp hx) fun p hp A6=>?_;subst A6
   refine A9 (List.mem_map.mp hy) fun p' hp' A6=>?_;subst A6
   have s1:=hs p hp
   have s2:=hs p' hp'
   rcases h1:p.1 with x|_
   case pair=>rw[h1] at s1;cases s1
   rcases h2:p'.1 with y|_
   case pair=>rw[h2] at s2;cases s2
   rw[h1,h2] at q
   have t1:=Str.mk.inj q
   rw[show x=y by simpa using t1]⟩
  refine kt_call_dict (S.notMods ok e1) hD (ql (Ck _ _ _) [(Af,Aj),(Aj,AA)] Af AA rfl (aE u5) ji) fun h' hn hsb=>?_
  obtain⟨o,kf,il,gq,hex,gm,gk,hp',_⟩:=hn
  have u0:∀ b o,s.heap.get? b=some o->h'.get? b=some o:=fun b o q=>by
   have u4:=cX q
   rw[hsb.2 b (cE u4)]
   exact aV _ q
  have u2:C8 h' s.heap.objs.size (.type "dict") (.dict kf (il+0)):=by
   rw[C8,gq]
   obtain⟨c,dd,dt,sl⟩:=o
   obtain⟨h1,h2,h3⟩:=hex
   cases h1;cases h2;cases h3;cases gm;rfl
  have u6:Ed P.w P.B h' Z d.1 kf.toList:=Vy (prog:=P.prog) hp' (fun e he=>gk e (Array.mem_toList_iff.mp he)) hs hmk (RVs.fixes (fun b o e _=>u0 b o e) _ _ hmv)
  have S1:=(S.keep u0).adopt (a:=s.heap.objs.size) (off:=il) (ao:=.dict d.1 0) S.fresh S.base.fresh fun k=>⟨kf,u2,u6.mono (fun _ _ x _=>x) k,jp,jm,ji⟩
  have g:=(Bk (Z:=Z) (X:=[]) u0).adopt (a:=s.heap.objs.size) (Eu s.heap) (off:=il)
  exact⟨_,_,_,rfl,⟨rfl,S1,g⟩,_,il,rfl,by rw[<- S.len];exact aY⟩
end
end
section
open PySem PySem.Spec PyProof.Rows PySem.SeqAt
noncomputable def Cs(P:BW)(h:Heap)(Z:Sg)(it:Addr)(src:AV)(i:Nat):Prop:=match src with
 | .rng b=>IsRangeIter h it i ((b.toNat:Int)-i) 1
 | .str x=>∃ t,h.IsStrIter it "str_ascii_iterator" ⟨x.toArray⟩ t i
 | .tup xs=>∃ a ws n,C8 h a (.type "tuple") (.seq ws n)/\RVs P.B h Z xs ws.toList/\h.IsTupleIter it a i
 | .loc j=>∃ a off,Z[j]?=some (a,off)/\h.IsListIter it a i
 | _=>False
noncomputable def Vz:List String:=["enumerate","zip","dict_itemiterator","dict_reverseitemiterator","odict_iterator","itertools.zip_longest","itertools.pairwise"]
noncomputable def Mb(T:String):Prop:=T ≠ "range"/\Vz.contains T=false
noncomputable def Ie(h:Heap)(it:Addr):Prop:=∃ o T fs,h.get? it=some o/\o.cls=.type T/\Mb T/\o.data=.fields fs
theorem Ie.notFixed(x:Ie h it):∃ o,h.get? it=some o/\¬ BQ o:=by
 refine DU x fun o T fs ho hc ht hd=>?_
 refine⟨o,ho,?_⟩
 unfold BQ
 rw[hd]
 dsimp only
 rw[hc]
 exact fun e=>ht.1 (Value.type.inj e)
section
variable {P:BW} {cx:Cx} {A:Around} {E:Value->Shared->Prop} {Z:Sg} {hp:A0} {s:Shared}
theorem Cs.obj(x:Cs P h Z it src i):Ie h it:=by
 have ne:∀ T:String,T ≠ "range"->Vz.contains T=false->Mb T:=fun T a b=>⟨a,b⟩
 rcases src with _|_
 case rng=>exact⟨_,_,_,x,rfl,ne _ (by decide) (by decide),rfl⟩
 case tup=>refine SO x fun _ _ _ _ _ o h1 h2 h3=>?_;exact⟨o,_,_,h1,h2,ne _ (by decide) (by decide),h3⟩
 case str=>refine AF x fun _ o h1 h2 h3=>?_;exact⟨o,_,_,h1,h2,ne _ (by decide) (by decide),h3⟩
 case loc=>refine XQ x fun _ _ _ o h1 h2 h3=>?_;exact⟨o,_,_,h1,h2,ne _ (by decide) (by decide),h3⟩
 all_goals exact x.elim
theorem Cs.keep{X:List Addr}(g:AN Z Z' X h h')(hq:h'.get? it=h.get? it)(x:Cs P h Z it src i):Cs P h' Z' it src i:=by
 rcases src with _|_
 case rng=>exact hq.trans x
 case tup=>refine UJ x fun a ws n h1 h2 o h3 h4=>?_;exact⟨a,ws,n,SX g h1 (fun _ hc hd=>Go hc hd),RVs.grows g _ _ h2,o,hq.trans h3,h4⟩
 case str=>refine Av x fun t o h3 h4=>?_;exact⟨t,o,hq.trans h3,h4⟩
 case loc=>refine kC x fun a off h1 o h3 h4=>?_;exact⟨a,off,g.look h1,o,hq.trans h3,h4⟩
 all_goals exact x.elim
theorem Ai.extBut{X:List Addr}(a:Ai P Z Z' X hp s₀ s)(hs:Heap.ExtBut it s.heap h')(h0:s₀.heap.get? it=none)(hZ:it∉Z'.map (·.1))(hb:P.B.h₀.get? it=none)(ho:∃ o,s.heap.get? it=some o/\¬ BQ o):
  Ai P Z Z' X hp s₀ { s with heap:=h',toks:=t }/\(∀ x v,RV P.B s.heap Z' x v->RV P.B h' Z' x v)/\(∀ b o,b≠it->s.heap.get? b=some o->h'.get? b=some o):=by
 refine A9 ho fun o e hf=>?_
 have u2:∀ b ob,s.heap.get? b=some ob->BQ ob->b≠it:=fun b ob e' f q=>by subst q;rw[e] at e';cases e';exact hf f
 -- as if the iterator might turn
 have hx:∀ x v,RV P.B s.heap Z' x v->RV P.B h' Z' x v:=by
  have u1:∀ b ob,s.heap.get? b=some ob->BQ ob->h'.get? b=some ob:=fun b ob e' f=>hs b ob (u2 b ob e' f) e'
  intro x v r
  exact RV.fixes (fun b ob e' f=>u1 b ob e' f) x v r
 refine⟨⟨by rw[a.ctl],?_,?_⟩,hx,fun b o hb' e'=>hs b o hb' e'⟩
 ·refine⟨a.st.len,a.st.nd,fun n b off ob e1 e2=>?_,fun b ob e'=>?_,a.st.new⟩
  ·have u0:b≠it:=fun q=>by subst q;exact hZ (cQ (f:=(·.1)) (aX e1))
   refine A9 (a.st.there (aX e1)) fun o' e3 _=>?_
   exact RO.fixes (fun b ob e' f=>hs b ob (u2 b ob e' f) e') ((hs b o' u0 e3).trans e3.symm) (a.st.obj n b off ob e1 e2)
  ·have u0:b≠it:=fun q=>by subst q;rw[hb] at e';cases e'
   exact hs b ob u0 (a.st.base b ob e')
 ·refine⟨a.gr.ext,fun b ob e' f=>?_,fun b ob e' h1 h2=>?_,fun b ob e'=>?_⟩
  ·have u0:b≠it:=fun q=>by subst q;rw[h0] at e';cases e'
   exact hs b ob u0 (a.gr.fix b ob e' f)
  ·have u0:b≠it:=fun q=>by subst q;rw[h0] at e';cases e'
   have nn:=a.gr.oth b ob e' h1 h2
   refine A9 nn.get fun o' e1 _=>?_
   rw[e1] at nn
   show HG ob (h'.get? b)
   rw[hs b o' u0 e1];exact nn
  ·have u0:b≠it:=fun q=>by subst q;rw[h0] at e';cases e'
   refine xE (a.gr.ex b ob e') fun o' e1=>?_
   exact⟨o',hs b o' u0 e1⟩
theorem RN:Builtin.Range.rangeSize 0 b 1=(b.toNat:Int):=by
 unfold Builtin.Range.rangeSize
 simp
 split
 ·rename_i h;exact(Int.max_eq_left (eY h)).symm
 ·rename_i h;exact(Int.max_eq_right (fO.1 h)).symm
theorem Hc(h:x.natAbs<=3000000):Builtin.Range.rangeFitsLong x=true:=by
 unfold Builtin.Range.rangeFitsLong
 rw[aG]
 exact⟨decide_eq_true (sB h),decide_eq_true (sC h)⟩
theorem Tw(hb:b.natAbs<=Ab):Builtin.Range.small 0 b 1=true:=by
 have hl:Ab=1048576:=rfl
 unfold Builtin.Range.small
 rw[RN]
 have fb:=Hc (aR hb (by decide))
 rw[Hc (x:=0) (by decide),fb,Hc (x:=1) (by decide),Hc (x:=(b.toNat:Int)) (sD hl hb)]
 simp only[iX,dN]
 right
 simp[fb]
inductive Oq (hp:A0):AV->List AV->Prop
 | tup (xs:List AV):Oq hp (.tup xs) xs
 | lst (j:Nat) (xs:List AV) (hj:hp[j]?=some (.list xs)):Oq hp (.loc j) xs
 | str (x:List Nat) (h:x.all (fun c=>decide (c<128))=true):Oq hp (.str x) (x.map fun c=>.str [c])
 | rng (b:Int) (h:b.natAbs<=Ab):Oq hp (.rng b) (C6 b)
theorem Os(hi:CH src hp=some xs):Oq hp src xs:=by
 rcases src with _|_
 case tup ys=>cases (show some ys=some xs from hi);exact .tup _
 case loc j=>exact .lst j xs (B3 hi)
 case str x=>
  by_cases hc:x.all (fun c=>decide (c<128))=true
  ·cases (show some (x.map fun c=>AV.str [c])=some xs from (if_pos hc).symm.trans hi);exact .str x hc
  ·exact A2 ((if_neg hc).symm.trans hi)
 case rng b=>exact xA (Cr (show (if b.natAbs<=Ab then some (C6 b) else none)=some xs from hi)) fun hc e=>by cases e;exact .rng b hc
 all_goals exact A2 hi
theorem IW(ok:P.Ok)(S:St P.w P.B Z hp s.heap)(ra:RV P.B s.heap Z src v)(hi:CH src hp=some xs)
  (h:∀ it s',s.heap.get? it=none->it∉Z.map (·.1)->P.B.h₀.get? it=none->Ai P Z Z [] hp s s'->Cs P s'.heap Z it src 0->Q (.ref it) s'):wpAny (model P.prog P.w) A (pyIter v) Q E s:=by
 have push:∀ (o:Obj),Ai P Z Z [] hp s { s with heap:=s.heap.push o }:=fun o=>⟨rfl,S.push o,.push o⟩
 have u0:∀ (o:Obj),Cs P (s.heap.push o) Z s.heap.objs.size src 0->Q (.ref s.heap.objs.size) { s with heap:=s.heap.push o }:=fun o gp=>
  h s.heap.objs.size _ (Eu _) S.fresh S.base.fresh (push o) gp
 cases Os hi with
 | tup xs=>
  refine B2 ra fun a ws n A6 o rx=>?_;try clear ra;subst A6
  have g:=(push { cls:=.type "tuple_iterator",data:=.fields #[.ref a,.int 0 0] }).gr
  exact wpAny_pyIter_tuple (AX o) (u0 _ ⟨a,ws,n,aV _ o,RVs.grows g _ _ rx,_,bG _ rfl,rfl,rfl⟩)
 | lst j xs hj=>
  refine Av ra fun a off A6 e1=>?_;try clear ra;subst A6
  refine Av (S.isL hj e1) fun ws k hl _=>?_
  exact wpAny_pyIter_list (CJ hl) (u0 _ ⟨a,off,e1,_,bG _ rfl,rfl,rfl⟩)
 | str x hx=>
  refine xE ra fun t A6=>?_;try clear ra;subst A6
  have ha:x.toArray.all (·<128)=true:=by rw[List.all_toArray];exact hx
  exact wpAny_pyIter_ascii ha (u0 _ ⟨t,_,bG _ rfl,rfl,rfl⟩)
 | rng b hb=>
  refine F7 ra fun r t u x A6 hr=>?_;try clear ra;subst A6
  refine wpAny_pyIter_range hr (Tw hb) (u0 _ ?_)
  rw[RN]
  show IsRangeIter _ _ ((0:Nat):Int) ((b.toNat:Int)-((0:Nat):Int)) 1
  rw[show (b.toNat:Int)-((0:Nat):Int)=b.toNat from Int.sub_zero _]
  exact bG _ rfl
theorem Yp(hn:Bj src i hp=some r):∃ xs,CH src hp=some xs/\xs[i]?=r:=Option.map_eq_some_iff.mp hn
structure Ou (P:BW) (Z:Sg) (s:Shared) (it:Addr) (src:AV) (i:Nat) (r:Option AV) (Q:Option Value->Shared->Prop):Prop where
 fin:r=none->∀ h',Heap.ExtBut it s.heap h'->Q none { s with heap:=h' }
 item:∀ av v h' t,r=some av->RV P.B s.heap Z av v->Heap.ExtBut it s.heap h'->(∀ (g:Gp s.heap h'),Cs P h' Z it src (i+1))->Q (some v) { s with heap:=h',toks:=t }
section
variable {it a:Addr} {i n:Nat} {Q:Option Value->Shared->Prop} {xs:List AV} {ws:Array Value}
theorem RP(rx:RVs P.B s.heap Z xs ws.toList)(h:xs[i]?=none):ws[i]?=none:=
 Array.getElem?_eq_none (aR (aE rx.size.symm) (List.getElem?_eq_none_iff.mp h))
theorem Tx(hh:A.handled=none)(o:C8 s.heap a (.type "tuple") (.seq ws n))(rx:RVs P.B s.heap Z xs ws.toList)(hI:s.heap.IsTupleIter it a i)(N:Ou P Z s it (.tup xs) i xs[i]? Q):wpAny (model P.prog P.w) A (pyNext (.ref it)) Q E s:=by
 rcases hc:xs[i]? with _|av
 case none=>exact wpAny_pyNext_tuple_end hh hI (AX o) (RP rx hc) (N.fin hc)
 case some=>
  refine A9 (rx.get hc) fun v e1 rv=>?_
  rw[bJ] at e1
  exact wpAny_pyNext_tuple_item hI (AX o) e1 fun h' hI' hs=>N.item av v h' s.toks hc rv hs.extBut fun g=>⟨a,ws,n,g a _ o (Go rfl rfl),RVs.fixes g _ _ rx,hI'⟩
theorem Tz(hh:A.handled=none)(e1:Z[j]?=some (a,off))(hl:IsL s.heap a ws n)(rx:RVs P.B s.heap Z xs ws.toList)(hI:s.heap.IsListIter it a i)(N:Ou P Z s it (.loc j) i xs[i]? Q):wpAny (model P.prog P.w) A (pyNext (.ref it)) Q E s:=by
 rcases hc:xs[i]? with _|av
 case none=>exact wpAny_pyNext_list_end hh hI (CJ hl) (RP rx hc) (N.fin hc)
 case some=>
  refine A9 (rx.get hc) fun v e2 rv=>?_
  rw[bJ] at e2
  exact wpAny_pyNext_list_item hI (CJ hl) e2 fun h' hI' hs=>N.item av v h' s.toks hc rv hs.extBut fun g=>⟨a,off,e1,hI'⟩
theorem TA(hh:A.handled=none)(hI:s.heap.IsStrIter it "str_ascii_iterator" ⟨x.toArray⟩ t i)(N:Ou P Z s it (.str x) i (x.map fun c=>AV.str [c])[i]? Q):wpAny (model P.prog P.w) A (pyNext (.ref it)) Q E s:=by
 rw[aK] at N
 rcases hc:x[i]? with _|c
 case none=>
  rw[hc] at N
  exact wpAny_pyNext_ascii_end hh hI ((fH ..).trans hc) (N.fin rfl)
 case some=>
  rw[hc] at N
  exact wpAny_pyNext_ascii_item hI (c:=c) ((fH ..).trans hc) (fun h' hI' hs=>N.item (.str [c]) _ h' _ rfl ⟨_,rfl⟩ hs.extBut fun _=>⟨t,hI'⟩)
theorem TB{b:Int}(hh:A.handled=none)(gp:IsRangeIter s.heap it i ((b.toNat:Int)-i) 1)(N:Ou P Z s it (.rng b) i (C6 b)[i]? Q):wpAny (model P.prog P.w) A (pyNext (.ref it)) Q E s:=by
 have u0:(C6 b)[i]?=((List.range b.toNat)[i]?).map fun (k:Nat)=>AV.int k:=aK ..
 rcases Nat.lt_or_ge i b.toNat with hlt|hge
 ·rw[List.getElem?_range hlt] at u0
  refine wpAny_pyNext_range_item gp (sE hlt) fun h' hI' hs=>N.item _ _ h' _ u0 ⟨_,rfl⟩ hs.extBut fun g=>?_
  show IsRangeIter h' it ((i+1:Nat):Int) ((b.toNat:Int)-((i+1:Nat):Int)) 1
  rw[Int.natCast_add,<- Int.sub_sub]
  exact hI'
 ·rw[cR (l:=List.range b.toNat) (by rw[eU];exact hge)] at u0
  exact wpAny_pyNext_range_end hh gp (sF hge) (N.fin u0)
end
theorem Hd(S:St P.w P.B Z hp s.heap)(hh:A.handled=none)(gp:Cs P s.heap Z it src i)(hn:Bj src i hp=some r)
  (ka:r=none->∀ h',Heap.ExtBut it s.heap h'->Q none { s with heap:=h' })
  (jz:∀ av v h' t,r=some av->RV P.B s.heap Z av v->Heap.ExtBut it s.heap h'->(∀ (g:Gp s.heap h'),Cs P h' Z it src (i+1))->Q (some v) { s with heap:=h',toks:=t }) :
  wpAny (model P.prog P.w) A (pyNext (.ref it)) Q E s:=by
 have N:Ou P Z s it src i r Q:=⟨ka,jz⟩
 refine A9 (Yp hn) fun xs hx A6=>?_;subst A6
 cases Os hx with
 | tup xs=>
  refine B2 gp fun a ws n o rx hI=>?_
  exact Tx hh o rx hI N
 | lst j xs hj=>
  refine Av gp fun a off e1 hI=>?_
  refine Av (S.isL hj e1) fun ws k hl rx=>?_
  exact Tz hh e1 hl rx hI N
 | str x hx=>
  refine xE gp fun t hI=>?_
  exact TA hh hI N
 | rng b hb=>exact TB hh gp N
end
end
end Mine.Internal
set_option maxRecDepth 100000
namespace Mine.Internal
section
open PySem PyProof.Rows
section
variable {prog:Program} {w:World} {A:Around} {E:Value->Shared->Prop} {h:Heap} {g:Array GenState} {d:Drawn} {t:Nat} {os:OsState}
variable {nm q:Str} {C N:Addr} {bs:List Value} {sn:List Str} {sub:List Value} {col:Option Bool} {dd:Option Addr} {k0 k1 k2 k3 k5:Option Value} {gg:String}
abbrev Hv(h:Heap)(C:Addr):Heap:=(h.push { cls:=.type "dict",data:=.dict #[] }).push { cls:=.ref C,dict:=some h.objs.size,data:=.plain }
theorem JP:(Hv h C).get? (h.objs.size+1)=some { cls:=.ref C,dict:=some h.objs.size,data:=.plain }:=by heap_get
theorem Mc:Heap.MadeObj h (Hv h C) (h.objs.size+1) h.objs.size C:=by
 have u0:(Hv h C).get? h.objs.size=some { cls:=.type "dict",data:=.dict #[] }:=aV _ (Heap.get?_push_at rfl rfl)
 exact⟨fun b o hb=>aV _ (aV _ hb),eZ (fZ _),eZ (aS _),
  ⟨_,JP,rfl,fun c=>by simp,.inr ⟨h.objs.size,rfl,cE (eB _),Heap.Ns1.of_empty ⟨_,#[],_,u0,rfl,fun e he=>absurd he (by simp),fun _=>rfl⟩⟩⟩,
  fun o ho=>by obtain rfl:=Option.some.inj (JP.symm.trans ho);rfl,by simp only[Heap.size_push];exact ql (IG _) [] Af (qA BP qI) rfl⟩
theorem TC(F:ObjNewFacts gg)
  (hC:h.get? C=some (excClassObj nm q C N bs [.type "object"] true sn sub false col dd k0 k1 k2 k3 k5 gg)) (hn:h.Ns N mN) (hi:mN "__init__"=some (.ref fI)) (hfI:h.get? fI=some oI) (hfc:oI.cls=.type "function")
  (hq:wpAny (model prog w) A (call (.ref fI) (.ref (h.objs.size+1) :: rest)) (fun r s'=>r=.none/\Q (.done (.ret (.ref (h.objs.size+1)))) s') E ⟨Hv h C,g,d,t,os⟩) :
  wpAny (model prog w) A (Builtin.«type.__call__» ⟨.ref C :: rest,[]⟩) Q E ⟨h,g,d,t,os⟩:=by
 have u2:mroOf (.type "object")=pure [.type "object"]:=by kernel_rfl
 have u5:typeLookup (.type "object") "__init__"=pure (some (.builtin "object.__init__")):=by rw[jL,gJ];kernel_rfl
 repeat (first|with_reducible refine bP hC ?_|with_reducible refine wpAny_madeBy_exc hC ?_|wp_step)
 refine codeAny_call_builtin_code (iL _ F.quiet) (wpAny_check_obj_new F hC ?_)
 refine codeAny_obj_new F hC hn hi ?_
 show wpAny _ _ _ _ _ _
 have hk:=(Mc (h:=h) (C:=C)).keeps
 have u3:=hk _ _ hC
 have u0:=hk _ _ hfI
 have u6:(Hv h C).Ns N mN:=hn.keeps hk
 have u1:=JP (h:=h) (C:=C)
 have u4:(Value.ref C :: [Value.type "object"]).contains (.ref C)=true:=by simp
 unfold isInstance
 repeat (first|with_reducible refine bP u1 ?_|(with_reducible refine dK u3 ?_;rw[u4])|wp_step)
 show wpAny _ _ (typeLookup (.ref C) _) _ _ _
 refine wpAny_typeLookup_exc u3 u6 u2 u5 ?_
 rw[hi]
 refine bD (aA ?_)
 unfold bindSpecial
 refine aA (wpAny_typeOf (T:="function") ⟨_,u0,hfc⟩ ?_)
 rw[if_pos (by decide)]
 refine aJ (aA (aT hq (fun r s' hr=>?_) fun _ _ x=>x))
 refine xA hr fun A6 hQ=>?_;try clear hr;subst A6
 wp_walk
 exact hQ
theorem TF(F:ObjNewFacts gg)
  (hC:h.get? C=some (excClassObj nm q C N bs [.type "object"] true sn sub false col dd k0 k1 k2 k3 k5 gg)) (hn:h.Ns N mN) (hi:mN "__init__"=some (.ref fI)) (hfI:h.get? fI=some oI) (hfc:oI.cls=.type "function")
  (hq:wpAny (model prog w) (A.under (.builtin "type.__call__" ⟨.ref C :: rest,[]⟩)) (call (.ref fI) (.ref (h.objs.size+1) :: rest)) (fun r s'=>r=.none/\Q (.ref (h.objs.size+1)) s') E ⟨Hv h C,g,d,t,os⟩) :
  wpAny (model prog w) A (call (.ref C) rest) Q E ⟨h,g,d,t,os⟩:=by
 have f1:=tc_lookup
 have f2:=tc_bind (.ref C)
 have hT:(⟨h,g,d,t,os⟩:Shared).TypeIs (.ref C) "type":=⟨_,hC,rfl⟩
 refine wpAny_call (codeAny_of_tree ?_)
 show wpAny _ _ (callAny (.ref C) _) _ _ _
 repeat (any_goals (first|assumption|with_reducible refine bP hC ?_|wp_step))
 refine⟨rfl,?_⟩
 exact codeAny_call_builtin_at (iL _ (by decide +kernel)) entry_typeCall (wpAny_check_type_call_sub hC (TC F hC hn hi hfI hfc hq))
end
end
end Mine.Internal
set_option maxRecDepth 100000
namespace Mine.Internal
section
open PySem PySem.Spec PyProof.Rows PySem.SeqAt
section
variable {prog:Program} {w:World} {A:Around} {E:Value->Shared->Prop} {s:Shared} {a:Addr} {xs:Array Value} {k:Nat}
theorem No:typeLookup (.type "list") "keys"=pure none:=by rw[jL,gJ];kernel_rfl
theorem Yq(hget:s.heap.get? a=some { cls:=.type "list",data:=.seq xs k })(hA:A.handled=none)
  (h:∀ h' tk,(∀ b o,s.heap.get? b=some o->h'.get? b=some o)->Q none { s with heap:=h',toks:=tk }):wpAny (model prog w) A (getAttr? (.ref a) "keys") Q E s:=by
 obtain⟨hp,g,d,tk,os⟩:=s
 have hT:∀ t:Nat,(⟨hp,g,d,t,os⟩:Shared).TypeIs (.ref a) "list":=fun _=>⟨_,hget,rfl⟩
 have f1:=sub_AttributeError
 have f3:=F.slot_list_getattribute.lookup
 have f4:=F.slot_list_getattribute.bind (.ref a)
 have f5:=am_list_getattr_none
 unfold getAttr? getAttrBy? getAttrBy
 repeat (any_goals (first|assumption|((with_reducible show wpAny _ _ (call (Value.builtin "list.__getattribute__") _ _) _ _ _);refine fM F.slot_list_getattribute (hT _) am_entry_list_getattribute (F.args_list_getattribute_2 _ _) (meets_getattribute_miss_list a xs k #[] "keys" _ No (by decide +kernel)) ⟨hget,hA,fun h' tk' e hx=>?_⟩)|wp_step))
 obtain⟨t',u',he⟩:=hx.there
 show wpAny _ _ (getattributeRaised _ _ _ _ _ _ _) _ _ _
 unfold getattributeRaised
 repeat (any_goals (first|assumption|wp_step))
 exact h _ _ hx.keeps
end
theorem He:plainId "dict.update.loop"=true:=by decide +kernel
theorem Md:entryFor table "dict.update.loop"=some Builtin.«dict.update.loop»:=entryFor_of_tree (by kernel_rfl)
section
variable {P:BW} {A:Around} {Z Z₁:Sg} {s:Shared} {hp:A0}
section
variable {Z':Sg} {s':Shared}
theorem Ew{X:List Addr}(g:AN Z Z' X s.heap s'.heap)(hn:it∉Z.map (·.1))(hX:it∉X)(x:Cs P s.heap Z it src k):Cs P s'.heap Z' it src k/\it∉Z'.map (·.1):=by
 refine DU x.obj fun o T fs ho hc ht hd=>?_
 have t0:s'.heap.get? it=some o:=by
  rcases g.oth it o ho hn hX with q|⟨hcf,_⟩
  ·exact q
  ·obtain⟨_,_,hcf⟩:=hcf;rw[hd] at hcf;cases hcf
 exact⟨x.keep g (t0.trans ho.symm),Bo g ho hn⟩
end
theorem RQ(h:PU hp j kvs ep v o=some h'):∃ k,o=some k/\Be kvs k=true/\kvs.length<Ab/\h'=hp.set j (.dict (BU kvs k v) (if (kvs.lookup k).isSome then ep else ep+1)):=by
 rcases o with _|k
 case none=>exact A2 h
 case some=>
  refine xA (Cr h) fun hs h=>?_
  rw[aG,decide_eq_true_eq] at hs
  exact⟨_,rfl,hs.1,hs.2,(Option.some.inj h).symm⟩
inductive VA (n:Nat) (h:A0) (h':A0):AV->Prop
 | mk (k v:AV) (kvs:List (Bc×AV)) (ep:Nat) (key:Bc) (hj:h[n]?=some (.dict kvs ep)) (hk:k.key?=some key) (ic:Be kvs key=true) (gh:kvs.length<Ab) (e:h'=h.set n (.dict (BU kvs key v) (if (kvs.lookup key).isSome then ep else ep+1))):VA n h h' (.tup [k,v])
theorem Yr(e:I5 n x h=some h'):VA n h h' x:=by
 rcases x with _|_|_|_|vs|_<;>try exact A2 e
 rcases vs with _|⟨k,_|⟨v,_|⟨_,_⟩⟩⟩<;>try exact A2 e
 refine A9 (Option.bind_eq_some_iff.mp (show ((Bi h n).bind fun d=>PU h n d.1 d.2 v k.key?)=some h' from e)) fun d hd e=>?_
 refine BT (RQ e) fun key hkey ic gh qq=>?_
 exact .mk _ _ _ _ key (Dh hd) hkey ic gh qq
theorem KP(hh:A.handled=none)(hu:A.units+50<cLine){d it:Addr}(hnj:n≠j)(hn0:s.heap.get? it=none)(hb0:P.B.h₀.get? it=none)(hZ:it∉Z₁.map (·.1))(hs:Z₁[n]?=some (d,off)):
  ∀ (r:List AV) (i:Nat) (c:Int) (tk:Tok) (ac al:A0) (s₁:Shared),xs.drop i=r->Ai P Z Z₁ [] ac s s₁->ac[j]?=some (.list xs)->Cs P s₁.heap Z₁ it (.loc j) i->E3 n r ac=some al->(∀ ae,Ai P Z Z₁ [] al s ae->R (.ok (.ret .none)) ae) ->
   codeAny (model P.prog P.w) A (.builtin "dict.update.loop" ⟨[.ref d,.ref it,.int c tk,.none],[]⟩) R s₁
 | [],i,c,tk,ac,al,s₁,hr,a,hj,gp,he,hR=>by
  cases he
  have hx:xs[i]?=none:=cR (List.drop_eq_nil_iff.mp hr)
  have u1:Bj (.loc j) i ac=some none:=by
   have e:CH (.loc j) ac=some xs:=by show Am ac j=_;delta Am;rw[hj]
   delta Bj;rw[e,fF,hx]
  refine jM Md ?_
  rw[Around.under_plainId He _]
  show wpAny _ A.in1 (pyNext (.ref it) >>= _) _ _ s₁
  refine aA (Hd (A:=A.in1) a.st hh gp u1 (fun _ h' hs=>?_) fun av v h' t er _ _ _=>nomatch er)
  show wpAny _ A.in1 (Builtin.Dict.addKeywords d [] >>= _) _ _ _
  refine aA (aJ (aJ ?_))
  exact hR _ (a.extBut (t:=s₁.toks) hs hn0 hZ hb0 gp.obj.notFixed).1
 | x :: r,i,c,tk,ac,al,s₁,hr,a,hj,gp,he,hR=>by
  have hx:xs[i]?=some x:=by
   have t0:=congrArg (·[0]?) hr
   simpa using t0
  have u1:Bj (.loc j) i ac=some (some x):=by
   have e:CH (.loc j) ac=some xs:=by show Am ac j=_;delta Am;rw[hj]
   delta Bj;rw[e,fF,hx]
  refine A9 (Option.bind_eq_some_iff.mp (show (I5 n x ac).bind (E3 n r)=some al from he)) fun hp' e1 e2=>?_
  have pi:=Yr e1
  refine jM Md ?_
  rw[Around.under_plainId He _]
  show wpAny _ A.in1 (pyNext (.ref it) >>= _) _ _ s₁
  refine aA (Hd (A:=A.in1) a.st hh gp u1 (fun er=>nomatch er) fun av v h' t er rv hs' jn=>?_)
  cases er
  refine JZ (a.extBut (t:=t) hs' hn0 hZ hb0 gp.obj.notFixed) fun a' kg gk=>?_
  have rv:=kg _ _ rv
  have u0:=jn fun b o e f=>gk b o (fun q=>by subst q;refine A9 gp.obj.notFixed fun o2 e2 hf2=>?_;rw[e2] at e;cases e;exact hf2 f) e
  cases pi with
  | mk k w kvs ep key hjn hk ic gh eh=>
  refine B2 rv fun ta ws tn qq ot rs=>?_;subst qq
  refine AF rs.cons fun w1 r1 q1 rk rs1=>?_
  refine A9 rs1.one fun w2 q2 rw2=>?_
  have u2:ws.toList=[w1,w2]:=by rw[q1,q2]
  show wpAny _ A.in1 (holding [.ref ta] _ >>= _) _ _ _
  refine aA (bD (aA (wpAny_tryCatch ?_)))
  unfold Builtin.Dict.pairItems
  refine aA (wpAny_typeOf (T:="tuple") ⟨_,ot,rfl⟩ ?_)
  rw[if_pos (by decide)]
  refine aA (wpAny_seqItems ot rfl (aJ ?_))
  show wpAny _ _ (match ws.toList with|[k,v]=>holding [k,v] (dictSet d k v)|l=>_) _ _ _
  rw[u2]
  rw[HN hk] at rk
  refine bD (I9 (A:=A.in1) a'.st hjn hs rk ic (by show A.units+1<cLine;exact ql (CW _ _) [((qA (qA Af (qN 50)) qI),Aj)] (qA BP qI) Aj rfl hu) gh rw2 fun aj ai=>?_)
  rw[<- eh] at ai
  refine xA (Ew (Z':=Z₁) ai.gr hZ (fun q=>nomatch q) u0) fun ju _=>?_
  refine aJ ⟨plainId_quiet He _,KP (xs:=xs) hh hu hnj hn0 hb0 hZ hs r (i+1) (c+1) 0 hp' al aj ?_ (a'.trans ai) ?_ ju e2 hR⟩
  ·have t1:=congrArg List.tail hr
   rwa [List.tail_drop] at t1
  ·rw[eh,fN hnj];exact hj
theorem Qi(ok:P.Ok)(S:St P.w P.B Z hp s.heap)(hh:A.handled=none)(hu:A.units+60<cLine)(rv:RV P.B s.heap Z (.loc j) v)(hx:hp[j]?=some (.list xs))(hb:IM xs hp≠.bad):
  wpAny (model P.prog P.w) A (call (.type "dict") [v]) (QV P Z s (IM xs hp)) E s:=by
 refine Av rv fun a off qq e1=>?_;try clear rv;subst qq
 delta IM at hb |-
 rcases he:E3 hp.length xs (hp++[.dict [] 0]) with _|al
 case none=>rw[he] at hb;exact absurd rfl hb
 case some=>
 refine Av (S.isL hx e1) fun ws k hl rx=>?_
 refine xA (S.alloc (X:=[]) { cls:=.type "dict",data:=.dict #[] } 0 (.dict [] 0) fun g=>⟨#[],bG _ rfl,trivial,List.Pairwise.nil,(fun p hp=>nomatch hp),bE _⟩) fun S1 g1=>?_
 have a1:Ai P Z (Z++[(s.heap.objs.size,0)]) [] (hp++[.dict [] 0]) s { s with heap:=s.heap.push { cls:=.type "dict",data:=.dict #[] } }:=⟨rfl,S1,g1⟩
 have u3:=aV { cls:=.type "dict",data:=.dict #[] } hl
 have u1:Z.length=hp.length:=S.len
 have u0:j<hp.length:=(List.getElem?_eq_some_iff.mp hx).1
 refine callType_codes (Q₁:=fun obj s₁=>obj=.ref s.heap.objs.size/\s₁={ s with heap:=s.heap.push { cls:=.type "dict",data:=.dict #[] } }) F.kt_called_dict (F.kt_typeCall_dict_1 _) F.entry_dict_init (kt_code_dict_new _ ⟨rfl,rfl⟩) ?_
 rintro obj s₁ ⟨rfl,rfl⟩
 have t1:({ s with heap:=s.heap.push { cls:=.type "dict",data:=.dict #[] } }:Shared).TypeIs (.ref s.heap.objs.size) "dict":=⟨_,bG _ rfl,rfl⟩
 refine⟨t1,F.args_dict_init_2 _ _,?_⟩
 unfold Builtin.«dict.__init__»
 refine aA ?_
 unfold Builtin.Dict.selfAndRest
 refine aA (eO t1 ?_)
 show wpAny _ _ (pure (s.heap.objs.size,[Value.ref a])) _ _ _
 refine aJ ?_
 show wpAny _ _ (Builtin.Dict.updateFrom "dict.__init__" s.heap.objs.size (.ref a) [] .none) _ _ _
 unfold Builtin.Dict.updateFrom
 refine aA (wpAny_typeOf (T:="list") ⟨_,u3,rfl⟩ ?_)
 rw[if_pos (by decide)]
 refine aA (Yq u3 hh fun h2 tk hk=>?_)
 rw[if_pos (show (none:Option Value).isNone=true from rfl)]
 have a2:Ai P (Z++[(s.heap.objs.size,0)]) (Z++[(s.heap.objs.size,0)]) [] (hp++[.dict [] 0]) { s with heap:=s.heap.push { cls:=.type "dict",data:=.dict #[] } } { s with heap:=h2,toks:=tk }:=⟨rfl,S1.keep hk,Bk hk⟩
 have hi:CH (.loc j) (hp++[.dict [] 0])=some xs:=by
  show Am _ j=_
  delta Am
  rw[bB u0,hx]
 have rl:RV P.B h2 (Z++[(s.heap.objs.size,0)]) (.loc j) (.ref a):=⟨a,off,rfl,by rw[bB (Zn u0 u1)];exact e1⟩
 refine aA (wpAny_rule (aA (IW ok a2.st rl hi fun it s3 hn0 hnZ hnb a3 gp=>?_)))
 have u2:s.heap.get? it=none:=DK a1.gr (DK a2.gr hn0)
 refine aJ ⟨plainId_quiet He _,KP (A:=A.in1) (xs:=xs) (s:=s) (Z:=Z) (Z₁:=Z++[(s.heap.objs.size,0)]) hh (by show A.units+1+50<cLine;exact ql (CW _ _) [((qA (qA Af (qN 60)) qI),Aj)] (qA (qA BP (qN 50)) qI) Aj rfl hu) (gG u0) u2 hnb hnZ (off:=0) (by rw[<- u1];exact aY) xs 0 0 0 _ al s3 rfl ((a1.trans a2).trans a3) (by rw[bB u0,hx]) gp he fun s4 a4=>⟨rfl,?_⟩⟩
 rw[he]
 exact⟨_,_,_,rfl,a4,s.heap.objs.size,0,rfl,by rw[<- u1];exact aY⟩
end
end
section
open PySem PySem.Spec PyProof.Rows PySem.SeqAt
section
variable {P:BW}
theorem DM{γ:Type}{f:AV->A0->B7 γ}{G:B7 γ->Value->Shared->Prop}(bx:Ai P bz Z [] hp s₀ s)
  (h:wpAny (model P.prog P.w) A m (QV P Z s r) (QE P Z s r) s) (hb:r.bind f≠.bad)
  (hk:∀ av hp' Z' v s',Ai P bz Z' [] hp' s₀ s'->Ai P Z Z' [] hp' s s'->RV P.B s'.heap Z' av v->f av hp'≠.bad->G (f av hp') v s') :
  wpAny (model P.prog P.w) A m (G (r.bind f)) (QE P bz s₀ (r.bind f)) s:=
 aT h (fun v s' ⟨av,hp',Z',e,a,rv⟩=>by subst e;exact hk av hp' Z' v s' (bx.trans a) a rv hb) (fun _ _ q=>(q.bind).lift bx)
theorem Ig{γ:Type}{f:List AV->A0->B7 γ}{G:B7 γ->List Value->Shared->Prop}(bx:Ai P bz Z [] hp s₀ s)
  (h:wpAny (model P.prog P.w) A m (rN P Z s r) (QE P Z s r) s) (hb:r.bind f≠.bad)
  (hk:∀ av hp' Z' v s',Ai P bz Z' [] hp' s₀ s'->Ai P Z Z' [] hp' s s'->RVs P.B s'.heap Z' av v->f av hp'≠.bad->G (f av hp') v s') :
  wpAny (model P.prog P.w) A m (G (r.bind f)) (QE P bz s₀ (r.bind f)) s:=
 aT h (fun v s' ⟨av,hp',Z',e,a,rv⟩=>by subst e;exact hk av hp' Z' v s' (bx.trans a) a rv hb) (fun _ _ q=>(q.bind).lift bx)
theorem EG(hb:G6 o h≠.bad):∃ b,o=some b:=by
 rcases o with _|b
 case none=>exact absurd rfl hb
 case some=>exact⟨b,rfl⟩
theorem Ih(hb:Kl v x y≠.bad):∃ b,v=.bool b:=by
 rcases v with _|_<;>first|exact absurd rfl hb|exact⟨_,rfl⟩
theorem Ov(hb:Rq v h≠.bad):∃ b,v=.bool b:=by
 rcases v with _|_<;>first|exact absurd rfl hb|exact⟨_,rfl⟩
theorem VB(hb:Ro v h≠.bad):∃ i,v=.int i:=by
 rcases v with _|_<;>first|exact absurd rfl hb|exact⟨_,rfl⟩
variable {cx:Cx}
theorem Ys{xl xr:X}{pos:Pos}(iu:HY op=some iw)(hl:As P cx l xl)(hr:As P cx r xr):As P cx (.BinOp l op r pos) (.bin iw xl xr):=by
 intro c n env A Z loc hp s C I hb
 rw[Ks] at hb |-
 refine wpAny_BinOp (DM (G:=fun R a s₁=>wpAny (model P.prog P.w) A (eval r env) (fun b ae=>wpAny (model P.prog P.w) A (binaryOp op a b) (QV P Z s R) (QE P Z s R) ae) (QE P Z s R) s₁) (.refl I.st) (hl c n env A Z loc hp s C I (Ap hb)) hb ?_)
 intro av ac Z₁ v s₁ aa _ rv hb
 have az:=I.after aa
 refine DM (G:=fun R b ae=>wpAny (model P.prog P.w) A (binaryOp op v b) (QV P Z s R) (QE P Z s R) ae) aa (hr c n env A Z₁ loc ac s₁ C az (Ap hb)) hb ?_
 intro bv al am u ae ah bb ru hb
 exact aT (Vh C.ok ah.st I.ar iu (RV.grows bb.gr _ _ rv) ru hb) (fun _ _ q=>q.lift ah) (fun _ _ q=>q)
theorem RR{xx:X}{pos:Pos}(hx:As P cx x xx):As P cx (.UnaryOp .USub x pos) (.neg xx):=by
 intro c n env A Z loc hp s C I hb
 rw[UY] at hb |-
 refine wpAny_UnaryOp (DM (G:=fun R a s₁=>wpAny (model P.prog P.w) A (unaryOp .USub a) (QV P Z s R) (QE P Z s R) s₁) (.refl I.st) (hx c n env A Z loc hp s C I (Ap hb)) hb ?_)
 intro av ac Z₁ v s₁ aa _ rv hb
 obtain⟨i,rfl⟩:=VB hb
 refine xE rv fun t A6=>?_;try clear rv;subst A6
 exact PySem.P.neg_int (QV.lift aa ⟨_,_,_,rfl,.tok aa.st _,_,rfl⟩)
theorem Yt{xx:X}{pos:Pos}(hx:As P cx x xx):As P cx (.UnaryOp .Not x pos) (.not xx):=by
 intro c n env A Z loc hp s C I hb
 rw[Kt] at hb |-
 refine wpAny_UnaryOp (DM (G:=fun R a s₁=>wpAny (model P.prog P.w) A (unaryOp .Not a) (QV P Z s R) (QE P Z s R) s₁) (.refl I.st) (hx c n env A Z loc hp s C I (Ap hb)) hb ?_)
 intro av ac Z₁ v s₁ aa _ rv hb
 obtain⟨b,rfl⟩:=Ov hb
 rcases (show v=.bool b from rv) with rfl
 exact not_value (cN (QV.lift aa ⟨_,_,_,rfl,.refl aa.st,rfl⟩))
noncomputable def Qj(P:BW)(cx:Cx)(op:BoolOp)(es:List Expr)(x:X):Prop:=
 ∀ c n env A Z l hp s pos,ER P cx c n->Inv P cx n c.q env A Z l hp s->A1 c x l hp≠.bad ->
  wpAny (model P.prog P.w) A (boolOp pos op (evalEach es env)) (QV P Z s (A1 c x l hp)) (QE P Z s (A1 c x l hp)) s
theorem Qk(h:Qj P cx op es x):As P cx (.BoolOp op es pos) x:=by
 intro c n env A Z loc hp s C I hb
 rw[arm_eval_BoolOp]
 exact h c n env A Z loc hp s pos C I hb
theorem VC(h:As P cx e x):Qj P cx op [e] x:=by
 intro c n env A Z loc hp s pos C I hb
 exact h c n env A Z loc hp s C I hb
theorem VD{es:List Expr}{x y:X}(h:As P cx e x)(hr:Qj P cx .And (e' :: es) y):Qj P cx .And (e :: e' :: es) (.and x y):=by
 intro c n env A Z loc hp s pos C I hb
 rw[Rw] at hb |-
 show wpAny _ _ (eval e env >>= fun v=>standAt pos >>= fun _=>holding [v] (truthy v) >>= fun t=>match BoolOp.And,t with|.And,false|.Or,true=>pure v|_,_=>boolOp pos .And (evalEach (e' :: es) env)) _ _ _
 refine aA (DM (G:=fun R v s₁=>wpAny (model P.prog P.w) A (standAt pos >>= fun _=>holding [v] (truthy v) >>= fun t=>match BoolOp.And,t with|.And,false|.Or,true=>pure v|_,_=>boolOp pos .And (evalEach (e' :: es) env)) (QV P Z s R) (QE P Z s R) s₁) (.refl I.st) (h c n env A Z loc hp s C I (Ap hb)) hb ?_)
 intro av ac Z₁ v s₁ aa _ rv hb
 refine xE (Ih hb) fun b A6=>?_;subst A6
 rcases (show v=.bool b from rv) with rfl
 refine aA (dS (aA (bD (cN ?_))))
 rcases b with _|_
 case false=>exact aJ (QV.lift aa ⟨_,_,_,rfl,.refl aa.st,rfl⟩)
 case true=>exact aT (hr c n env A Z₁ loc ac s₁ pos C (I.after aa) hb) (fun _ _ q=>q.lift aa) (fun _ _ q=>q.lift aa)
theorem Yu{es:List Expr}{x y:X}(h:As P cx e x)(hr:Qj P cx .Or (e' :: es) y):Qj P cx .Or (e :: e' :: es) (.or x y):=by
 intro c n env A Z loc hp s pos C I hb
 rw[SW] at hb |-
 show wpAny _ _ (eval e env >>= fun v=>standAt pos >>= fun _=>holding [v] (truthy v) >>= fun t=>match BoolOp.Or,t with|.And,false|.Or,true=>pure v|_,_=>boolOp pos .Or (evalEach (e' :: es) env)) _ _ _
 refine aA (DM (G:=fun R v s₁=>wpAny (model P.prog P.w) A (standAt pos >>= fun _=>holding [v] (truthy v) >>= fun t=>match BoolOp.Or,t with|.And,false|.Or,true=>pure v|_,_=>boolOp pos .Or (evalEach (e' :: es) env)) (QV P Z s R) (QE P Z s R) s₁) (.refl I.st) (h c n env A Z loc hp s C I (Ap hb)) hb ?_)
 intro av ac Z₁ v s₁ aa _ rv hb
 refine xE (Ih hb) fun b A6=>?_;subst A6
 rcases (show v=.bool b from rv) with rfl
 refine aA (dS (aA (bD (cN ?_))))
 rcases b with _|_
 case true=>exact aJ (QV.lift aa ⟨_,_,_,rfl,.refl aa.st,rfl⟩)
 case false=>exact aT (hr c n env A Z₁ loc ac s₁ pos C (I.after aa) hb) (fun _ _ q=>q.lift aa) (fun _ _ q=>q.lift aa)
theorem Ii(h:Ag k cx r=some x):behindInMarks op r=false:=by
 rcases k with _|k
 case zero=>exact A2 h
 case succ=>rcases r with _|_<;>first|exact rfl|exact A2 h
theorem Yv{xl xr:X}{pos:Pos}(iu:BZ op=some cop)(hm:behindInMarks op r=false)(hl:As P cx l xl)(hr:As P cx r xr):As P cx (.Compare l [op] [r] pos) (.cmp cop xl xr):=by
 intro c n env A Z loc hp s C I hb
 rw[Ku] at hb |-
 refine wpAny_Compare1 (DM (G:=fun R a s₁=>wpAny (model P.prog P.w) A (eval r env) (fun b ae=>wpAny (model P.prog P.w) A (compareOp op a b) (QV P Z s R) (QE P Z s R) ae) (QE P Z s R) s₁) (.refl I.st) (hl c n env A Z loc hp s C I (Ap hb)) hb ?_) hm
 intro av ac Z₁ v s₁ aa _ rv hb
 have az:=I.after aa
 refine DM (G:=fun R b ae=>wpAny (model P.prog P.w) A (compareOp op v b) (QV P Z s R) (QE P Z s R) ae) aa (hr c n env A Z₁ loc ac s₁ C az (Ap hb)) hb ?_
 intro bv al am u ae ah bb ru hb
 refine xE (EG hb) fun k hc=>?_
 rw[hc]
 refine aT (Fo C.ok ah.st I.ar iu (RV.grows bb.gr _ _ rv) ru hc) (fun w aj q=>?_) (fun _ _ q=>q)
 obtain⟨b,rfl,e,ai⟩:=q
 cases e
 exact⟨_,_,_,rfl,ah.trans ai,rfl⟩
theorem Me(hb:Km o h k≠.bad):∃ b,o=some b:=by
 rcases o with _|b
 case none=>exact absurd rfl hb
 case some=>exact⟨b,rfl⟩
theorem wV:compareChain pos v [o1,o2] [a,b]=(do
  let rv <- holding [v] a
  standAt pos
  let c <- holding [v,rv] (compareOp o1 v rv)
  release [v,rv] [c]
  if <- holding [c,rv] (truthy c) then compareChain pos rv [o2] [b] else pure c):=rfl
theorem wW:compareChain pos v [o] [a]=(do
  let rv <- holding [v] a
  standAt pos
  operate [v,rv] (compareOp o v rv)):=rfl
theorem VE{xl xm xr:X}{pos:Pos}(h1:BZ o1=some c1)(h2:BZ o2=some c2)(hm:behindInMarks o2 r=false)(hl:As P cx l xl)(hmm:As P cx m xm)(hr:As P cx r xr):
  As P cx (.Compare l [o1,o2] [m,r] pos) (.cmp2 c1 c2 xl xm xr):=by
 intro c n env A Z loc hp s C I hb
 rw[N5] at hb |-
 rw[arm_eval_Compare]
 have u0:markedEach [o1,o2] [m,r] (evalEach [m,r] env)=[eval m env,eval r env]:=by
  show [eval m env,markedBehindIn o2 r (eval r env)]=_
  rw[markedBehindIn_of_false hm]
 rw[u0]
 refine aA (DM (G:=fun R a s₁=>wpAny (model P.prog P.w) A (compareChain pos a [o1,o2] [eval m env,eval r env]) (QV P Z s R) (QE P Z s R) s₁) (.refl I.st) (hl c n env A Z loc hp s C I (Ap hb)) hb ?_)
 intro av ac Z₁ v s₁ aa _ rv hb
 have az:=I.after aa
 rw[wV]
 ·refine aA (bD (DM (G:=fun R b ae=>wpAny (model P.prog P.w) A (standAt pos >>= fun _=>holding [v,b] (compareOp o1 v b) >>= fun cc=>release [v,b] [cc] >>= fun _=>holding [cc,b] (truthy cc) >>= fun t=>if t=true then compareChain pos b [o2] [eval r env] else pure cc) (QV P Z s R) (QE P Z s R) ae) aa (hmm c n env A Z₁ loc ac s₁ C az (Ap hb)) hb ?_))
  intro bv al am u ae ah bb ru hb
  have bh:=I.after ah
  refine xE (Me hb) fun k hc=>?_
  rw[hc] at hb |-
  refine aA (dS (aA (bD (aT (Fo C.ok ah.st I.ar h1 (RV.grows bb.gr _ _ rv) ru hc) (fun w aj q=>?_) (fun _ _ q=>q)))))
  obtain⟨b,rfl,e,ai⟩:=q
  cases e
  refine aA (wpAny_release (aA (bD (cN ?_))))
  rcases k with _|_
  case false=>exact aJ (QV.lift (ah.trans ai) ⟨_,_,_,rfl,.refl ai.st,rfl⟩)
  case true=>
   rw[if_pos rfl]
   have cb:=bh.after ai
   rw[wW]
   refine aA (bD (DM (G:=fun R z aq=>wpAny (model P.prog P.w) A (standAt pos >>= fun _=>operate [u,z] (compareOp o2 u z)) (QV P Z s R) (QE P Z s R) aq) (f:=fun z h=>G6 (B9 h c2 bv z) h) (ah.trans ai) (hr c n env A am loc al aj C cb (Ap hb)) hb ?_))
   intro zv bc ay z aq au cq rz hb
   refine xE (EG hb) fun k2 hc2=>?_
   rw[hc2]
   refine aA (dS (jJ (aT (Fo C.ok au.st I.ar h2 (RV.grows cq.gr _ _ (RV.grows ai.gr _ _ ru)) rz hc2) (fun w ak q=>?_) (fun _ _ q=>q))))
   obtain⟨b,rfl,e,aw⟩:=q
   cases e
   exact⟨_,_,_,rfl,au.trans aw,rfl⟩
end
end
section
open PySem PySem.Spec PyProof.Rows PySem.SeqAt
theorem E6(h:Ag k cx e=some x):∀ env rest,starEach (e :: rest) env=(false,eval e env) :: starEach rest env:=by
 intro env rest
 rcases k with _|k
 case zero=>cases h
 case succ=>rcases e with _|_<;>first|rfl|(cases h)
section
variable {P:BW} {cx:Cx}
theorem TG:DJ P cx [] .nil:=by
 intro c n env A Z loc hp s pos C I hb
 exact dL ⟨[],hp,Z,rfl,.refl I.st,trivial⟩
theorem Ql(hs:∀ env rest,starEach (e :: rest) env=(false,eval e env) :: starEach rest env)(h:As P cx e x)(hr:DJ P cx es xs):DJ P cx (e :: es) (.cons x xs):=by
 intro c n env A Z loc hp s pos C I hb
 rw[CY] at hb |-
 refine bX (DM (G:=fun R v s₁=>wpAny (model P.prog P.w) A (spliced (backTo pos (starEach es env))) (fun vs ae=>rN P Z s R (v :: vs) ae) (QE P Z s R) s₁) (.refl I.st) (h c n env A Z loc hp s C I (Ap hb)) hb ?_) (hs env es)
 intro av ac Z₁ v s₁ aa _ rv hb
 refine Ig (G:=fun R vs ae=>rN P Z s R (v :: vs) ae) aa (hr c n env A Z₁ loc ac s₁ pos C (I.after aa) (Ap hb)) hb ?_
 intro gf al am vs ae ah bb rvs hb
 exact⟨_,_,_,rfl,ah,RV.grows bb.gr _ _ rv,rvs⟩
theorem Yw(h:DJ P cx es xs):As P cx (.Tuple es k pos) (.tup xs):=by
 intro c n env A Z loc hp s C I hb
 rw[V3] at hb |-
 refine wpAny_Tuple (Ig (G:=fun R vs s₁=>vs.length<=sizeLine/\QV P Z s R (.ref s₁.heap.objs.size) { s₁ with heap:=s₁.heap.push { cls:=.type "tuple",data:=.seq vs.toArray } }) (.refl I.st) (h c n env A Z loc hp s pos C I (Ap hb)) hb ?_)
 intro gf ac Z₁ vs s₁ aa _ rv hb
 have hl:=rv.length
 split at hb
 ·rename_i gh
  rw[if_pos gh]
  have cg:=aa.st.push { cls:=.type "tuple",data:=.seq vs.toArray }
  have cy:AN Z₁ Z₁ [] s₁.heap (s₁.heap.push { cls:=.type "tuple",data:=.seq vs.toArray }):=.push _
  exact⟨hl▸AY gh,_,_,_,rfl,aa.trans ⟨rfl,cg,cy⟩,s₁.heap.objs.size,vs.toArray,0,rfl,bG _ rfl,RVs.grows cy _ _ rv⟩
 ·exact absurd rfl hb
theorem VF(h:DJ P cx es xs):As P cx (.List es pos) (.list xs):=by
 intro c n env A Z loc hp s C I hb
 rw[Q3] at hb |-
 refine wpAny_List (Ig (G:=fun R vs s₁=>vs.length<=sizeLine/\QV P Z s R (.ref s₁.heap.objs.size) { s₁ with heap:=s₁.heap.push { cls:=.type "list",data:=.seq vs.toArray } }) (.refl I.st) (h c n env A Z loc hp s pos C I (Ap hb)) hb ?_)
 intro gf ac Z₁ vs s₁ aa _ rv hb
 refine xA (Db (ws:=vs.toArray) aa.st rv hb) fun h1 h2=>?_
 exact⟨by simpa using h1,h2.lift aa⟩
theorem TH{s:Shared}(S:St P.w P.B Z hp s.heap)(ra:RV P.B s.heap Z (.loc j) v)(hj:hp[j]?=some (.list xs)):s.TypeIs v "list":=by
 refine Av ra fun b o A6 e1=>?_;try clear ra;subst A6
 refine A9 (S.isList hj e1) fun ws hl _=>?_
 exact hl.typeIs
theorem Yx{s:Shared}(S:St P.w P.B Z hp s.heap)(ra:RV P.B s.heap Z a v)(hb:Cc a i hp≠.bad):
  ∃ T id,s.TypeIs v T/\typeLookup (.type T) "__getitem__"=pure (some (.builtin id)):=by
 refine A9 (KL hb) fun x _ K=>?_
 cases K with
 | str=>refine xE ra fun t A6=>?_;try clear ra;subst A6;exact⟨"str",_,rfl,F.slot_str_getitem.lookup⟩
 | tup=>refine B2 ra fun b ws k A6 o _=>?_;try clear ra;subst A6;exact⟨"tuple",_,⟨_,o,rfl⟩,F.slot_tuple_getitem.lookup⟩
 | scr=>refine AF ra fun b items A6 hl _=>?_;try clear ra;subst A6;exact⟨"list",_,(Gu S hl).typeIs,slot_list_getitem.lookup⟩
 | lst j xs x hj=>exact⟨"list",_,TH S ra hj,slot_list_getitem.lookup⟩
 | dct j kvs ep x hj=>
  refine Av ra fun b o A6 e1=>?_;try clear ra;subst A6
  refine A9 (S.isDict hj e1) fun es hl _=>?_
  exact⟨"dict",_,⟨_,hl,rfl⟩,slot_dict_getitem.lookup⟩
theorem Yy(slice:Expr)(o i:Value):∃ l,subscripted slice false o i=operate l (getItem o i):=by
 rcases slice with _|_
 case Slice lo hi st p=>rcases st with _|_<;>exact⟨_,rfl⟩
 all_goals exact⟨_,rfl⟩
theorem Gw{T id:String}(hT:s.TypeIs o T)
  (hl:typeLookup (.type T) "__getitem__"=pure (some (.builtin id))) (h:wpAny (model P.prog P.w) A (getItem o i) Q E s) :
  wpAny (model P.prog P.w) A (subscriptTail value slice o i) Q E s:=by
 unfold subscriptTail
 refine aA ?_
 rw[getitemInPython_of_ne hT.not_modules]
 refine aA (wpAny_specialOf hT hl ?_)
 have u0:∀ l:List Value,wpAny (model P.prog P.w) A (operate l (getItem o i)) (fun r aj=>wpAny (model P.prog P.w) A (letTemporaryGo value o r >>= fun _=>pure r) Q E aj) E s:=fun l=>
  jJ (aT h (fun r aj hr=>aA (wpAny_letTemporaryGo (aJ hr))) fun _ _ x=>x)
 refine aJ ?_
 refine aA ?_
 refine xE (Yy slice o i) fun l e=>?_
 rw[e]
 exact u0 l
theorem Yz(ho:As P cx o xo)(hi:As P cx i xi):As P cx (.Subscript o i pos) (.sub xo xi):=by
 intro c n env A Z loc hp s C I hb
 rw[Ry] at hb |-
 refine jG (DM (G:=fun R v s₁=>wpAny (model P.prog P.w) A (eval i env) (fun u ae=>wpAny (model P.prog P.w) A (subscriptTail o i v u) (QV P Z s R) (QE P Z s R) ae) (QE P Z s R) s₁) (.refl I.st) (ho c n env A Z loc hp s C I (Ap hb)) hb ?_)
 intro av ac Z₁ v s₁ aa _ rv hb
 refine DM (G:=fun R u ae=>wpAny (model P.prog P.w) A (subscriptTail o i v u) (QV P Z s R) (QE P Z s R) ae) aa (hi c n env A Z₁ loc ac s₁ C (I.after aa) (Ap hb)) hb ?_
 intro bv al am u ae ah bb ru hb
 have u0:=RV.grows bb.gr _ _ rv
 refine Av (Yx ah.st u0 hb) fun T id hT hl=>?_
 exact Gw hT hl (aT (Vl C.ok ah.st I.ar u0 ru hb) (fun _ _ q=>q.lift ah) (fun _ _ q=>q))
theorem Ow(hx:DZ (Ag k cx) o=some x)(h:∀ e,o=some e->As P cx e x):
  ∀ c n env A Z l hp s,ER P cx c n->Inv P cx n c.q env A Z l hp s->A1 c x l hp≠.bad->wpAny (model P.prog P.w) A (evalPart o env) (QV P Z s (A1 c x l hp)) (QE P Z s (A1 c x l hp)) s:=by
 intro c n env A Z l hp s C I hb
 rcases o with _|e
 case none=>
  cases (show some X.none=some x from hx)
  exact fS ⟨_,_,_,rfl,.refl I.st,rfl⟩
 case some=>exact wpAny_evalPart_some (h e rfl c n env A Z l hp s C I hb)
theorem Qm{s:Shared}(S:St P.w P.B Z hp s.heap)(ra:RV P.B s.heap Z a v)(hb:C0 a i j hp≠.bad):
  ∃ T id,s.TypeIs v T/\typeLookup (.type T) "__getitem__"=pure (some (.builtin id)):=by
 rcases a with _|_
 case str=>refine xE ra fun t A6=>?_;try clear ra;subst A6;exact⟨"str",_,rfl,F.slot_str_getitem.lookup⟩
 case scr=>refine AF ra fun b items A6 hl _=>?_;try clear ra;subst A6;exact⟨"list",_,(Gu S hl).typeIs,slot_list_getitem.lookup⟩
 case loc n=>
  refine Av ra fun b off A6 e1=>?_;try clear ra;subst A6
  refine aI fun gj=>?_
  refine A9 (Cd hb) fun y hy _=>?_
  refine A9 (Option.bind_eq_some_iff.mp hy) fun xs hx _=>?_
  refine Av (S.isL (B3 hx) e1) fun ws n hL _=>?_
  refine gj ?_
  exact⟨"list",_,(CJ hL).typeIs,slot_list_getitem.lookup⟩
 all_goals exact absurd rfl hb
theorem TI{lo hi:Option Expr}(ho:As P cx o xo)(hxl:DZ (Ag k cx) lo=some xl)(hl:∀ e,lo=some e->As P cx e xl)(hxh:DZ (Ag k cx) hi=some xh)(hh:∀ e,hi=some e->As P cx e xh):
  As P cx (.Subscript o (.Slice lo hi none p) pos) (.slice xo xl xh):=by
 intro c n env A Z loc hp s C I hb
 rw[Rx] at hb |-
 refine jG (DM (G:=fun R v s₁=>wpAny (model P.prog P.w) A (eval (.Slice lo hi none p) env) (fun u ae=>wpAny (model P.prog P.w) A (subscriptTail o (.Slice lo hi none p) v u) (QV P Z s R) (QE P Z s R) ae) (QE P Z s R) s₁) (.refl I.st) (ho c n env A Z loc hp s C I (Ap hb)) hb ?_)
 intro av ac Z₁ v s₁ aa _ rv hb
 refine wpAny_Slice (DM (G:=fun R vl ae=>wpAny (model P.prog P.w) A (evalPart hi env) (fun vh aj=>wpAny (model P.prog P.w) A (evalPart none env) (fun st aq=>(fun u ak=>wpAny (model P.prog P.w) A (subscriptTail o (.Slice lo hi none p) v u) (QV P Z s R) (QE P Z s R) ak) (.ref aq.heap.objs.size) { aq with heap:=aq.heap.push { cls:=.type "slice",data:=.fields #[vl,vh,st] } }) (QE P Z s R) aj) (QE P Z s R) ae) aa (Ow hxl hl c n env A Z₁ loc ac s₁ C (I.after aa) (Ap hb)) hb ?_)
 intro lv al am vl ae ah bb rl hb
 refine DM (G:=fun R vh aj=>wpAny (model P.prog P.w) A (evalPart none env) (fun st aq=>(fun u ak=>wpAny (model P.prog P.w) A (subscriptTail o (.Slice lo hi none p) v u) (QV P Z s R) (QE P Z s R) ak) (.ref aq.heap.objs.size) { aq with heap:=aq.heap.push { cls:=.type "slice",data:=.fields #[vl,vh,st] } }) (QE P Z s R) aj) ah (Ow hxh hh c n env A am loc al ae C (I.after ah) (Ap hb)) hb ?_
 intro hv bo br vh aj ai cz rh hb
 refine fS ?_
 have u0:=RV.grows cz.gr _ _ (RV.grows bb.gr _ _ rv)
 have u1:=RV.grows cz.gr _ _ rl
 have dw:=ai.st.push (Di vl vh)
 have dy:AN br br [] aj.heap (aj.heap.push (Di vl vh)):=.push _
 refine Av (Qm (s:={ aj with heap:=aj.heap.push (Di vl vh) }) dw (RV.grows dy _ _ u0) hb) fun T id hT jq=>?_
 exact Gw hT jq (aT (Qb ai.st u0 u1 rh hb) (fun _ _ q=>q.lift ai) (fun _ _ q=>q))
theorem YA{e:Expr}(ho:As P cx o xo)(hst:As P cx e (.neg (.int 1))):As P cx (.Subscript o (.Slice none none (some e) p) pos) (.rev xo):=by
 intro c n env A Z loc hp s C I hb
 rw[ZB] at hb |-
 refine jG (DM (G:=fun R v s₁=>wpAny (model P.prog P.w) A (eval (.Slice none none (some e) p) env) (fun u ae=>wpAny (model P.prog P.w) A (subscriptTail o (.Slice none none (some e) p) v u) (QV P Z s R) (QE P Z s R) ae) (QE P Z s R) s₁) (.refl I.st) (ho c n env A Z loc hp s C I (Ap hb)) hb ?_)
 intro av ac Z₁ v s₁ aa _ rv hb
 refine wpAny_Slice (fS (fS (wpAny_evalPart_some ?_)))
 refine aT (hst c n env A Z₁ loc ac s₁ C (I.after aa) (fun q=>nomatch q)) (fun u ae q=>?_) (fun _ _ q=>by obtain⟨_,_,_,_,er,_⟩:=q;cases er)
 obtain⟨_,_,am,e2,ah,ru⟩:=q
 cases e2
 refine xE ru fun t A6=>?_;try clear ru;subst A6
 rcases av with _|_|_|_|_|j|_
 case loc=>
  refine xA (Vq (A:=A) (E:=QE P Z s (Kk (.loc j) ac)) (t:=t) ah.st (RV.grows ah.gr _ _ rv) hb) fun qq hw=>?_
  refine Av qq fun T id hT jq=>?_
  exact Gw hT jq (aT hw (fun _ _ q=>q.lift (aa.trans ah)) (fun _ _ q=>q))
 all_goals exact absurd rfl hb
end
end
section
open PySem PySem.Spec PyProof.Rows PySem.SeqAt
theorem A7{α β:Type}{a:Option α}{f:α->Option β}{b:β}(h:(a >>= f)=some b):∃ x,a=some x/\f x=some b:=Option.bind_eq_some_iff.mp h
theorem Aw{α:Type}{a b:α}(h:(pure a:Option α)=some b):a=b:=Option.some.inj h
theorem CB{cx:Cx}{k:Nat}:∀ {es:List Expr} {xs:Xs},B6 (Ag k cx) es=some xs->∀ env pos,(backTo pos (starEach es env)).any (·.1)=false
 | [],_,_,_,_=>rfl
 | e :: es,xs,h,env,pos=>by
  refine A9 (A7 h) fun x hx h=>?_
  refine A9 (A7 h) fun ys hy _=>?_
  rw[E6 hx env es]
  exact CB hy env pos
section
variable {P:BW} {cx:Cx}
theorem BV(hp:(backTo pos (starEach es env)).any (·.1)=false)
  (h:wpAny (model P.prog P.w) A (spliced (backTo pos (starEach es env))) (fun vs s'=>Q ⟨vs,[]⟩ s') E s):wpAny (model P.prog P.w) A (evalArgs f true (backTo pos (starEach es env)) []) Q E s:=by
 rcases hb:backTo pos (starEach es env) with _|⟨p,r⟩
 case nil=>
  rw[hb] at h
  unfold evalArgs
  show wpAny _ _ (spliced [] >>= _) Q E s
  refine aA (aT h (fun vs s' h'=>?_) fun _ _ x=>x)
  refine bD ?_
  exact aA (aJ (aA (aJ (aJ h'))))
 case cons=>
  obtain⟨b,t⟩:=p
  rw[hb] at hp h
  simp only[List.any_cons,fP] at hp
  have t0:b=false:=hp.1
  subst t0
  exact Calls.evalArgs_plain h
theorem DN(C:ER P cx c n)(I:Inv P cx n c.q env A Z l hp s)(hg:cx.isGlob x=true)(hv:P.mg x=some v)(h:Q v s):
  wpAny (model P.prog P.w) A (eval (.Name x pos) env) Q E s:=by
 refine xA (HJ hg) fun hd _=>?_
 refine iE ?_ hd
 rw[loadName_read I.fr.kind (I.fr.glob x hg)]
 have hn:s.heap.Ns env.globals P.mg:=by rw[I.fr.globals];exact C.ok.g.keeps I.st.base
 exact Calls.loadGlobal_global hn hv h
theorem Fp(C:ER P cx c n)(I:Inv P cx n c.q env A Z l hp s)(hg:cx.isGlob x=true)(hv:(x,v)∈B5)(h:Q v s):
  wpAny (model P.prog P.w) A (eval (.Name x pos) env) Q E s:=by
 refine xA (HJ hg) fun hd _=>?_
 refine iE ?_ hd
 rw[loadName_read I.fr.kind (I.fr.glob x hg)]
 have hn:s.heap.Ns env.globals P.mg:=by rw[I.fr.globals];exact C.ok.g.keeps I.st.base
 have hb:s.heap.Ns env.builtins P.mb:=by rw[I.fr.builtins];exact C.ok.b.keeps I.st.base
 refine xA (C.ok.blt x v hv) fun h1 h2=>?_
 exact Calls.loadGlobal_builtin hn h1 hb h2 h
theorem Hf:eval (.Call (.Name f p) es [] pos) env=(eval (.Name f p) env >>= fun fv=>callWith pos fv [] (backTo pos (starEach es env)) []):=rfl
theorem VG(hg:cx.isGlob f=true)(hf:cx.funs.contains f=true)(hm:cx.meths.contains f=false)(hc:B6 (Ag k cx) es=some xs)(h:DJ P cx es xs):As P cx (.Call (.Name f p) es [] pos) (.call f xs):=by
 intro c n env A Z loc hp s C I hb
 rw[Kv] at hb |-
 rw[Hf]
 refine Dq (C.f f hf) fun a o fd kh ho _ hd iy=>?_
 have hm:P.mg f=some (.ref a):=by
  unfold BW.fn at kh
  rw[<- C.meths,hm] at kh
  exact kh
 refine aA (DN C I hg hm (Calls.callWith_function (o:=o) (fd:=fd) (BV (CB hc env pos) (Ig (G:=fun R vs s₁=>(s₁.heap.get? a=some o/\o.data=.func fd)/\wpAny (model P.prog P.w) A (call (.ref a) ([]++vs) []) (QV P Z s R) (QE P Z s R) s₁) (.refl I.st) (h c n env A Z loc hp s pos C I (Ap hb)) hb ?_))))
 intro gf ac Z₁ vs s₁ aa _ rv hb
 refine⟨⟨aa.st.base a o ho,hd⟩,?_⟩
 exact aT (iy gf vs Z₁ ac s₁ A aa.st rv I.ar.toArndC (I.fs.after aa.gr) hb) (fun _ _ q=>q.lift aa) (fun _ _ q=>q.lift aa)
noncomputable def LL(P:BW)(st:Bool)(v:Value)(r:List AV->A0->B7 AV):Prop:=
 ∀ n q A Z hp s gf vs,P.Ok->E5 n q A->(st=true->q=false)->St P.w P.B Z hp s.heap->RVs P.B s.heap Z gf vs->r gf hp≠.bad->wpAny (model P.prog P.w) A (call v vs) (QV P Z s (r gf hp)) NE s
theorem Qn{id:String}{st:Bool}(hx:∀ c l h,A1 c x l h=(evalXs c xs l h).bind fun vs h=>if st&&c.q then .bad else r vs h)(hv:(f,Value.builtin id)∈B5)(H:LL P st (.builtin id) r)
  (hg:cx.isGlob f=true) (hc:B6 (Ag k cx) es=some xs) (h:DJ P cx es xs):As P cx (.Call (.Name f p) es [] pos) x:=by
 intro c n env A Z loc hp s C I hb
 rw[hx] at hb |-
 rw[Hf]
 refine aA (Fp C I hg hv (eA (CB hc env pos) (BV (CB hc env pos) (Ig (G:=fun R vs s₁=>wpAny (model P.prog P.w) A (call (.builtin id) ([]++vs) []) (QV P Z s R) (QE P Z s R) s₁) (.refl I.st) (h c n env A Z loc hp s pos C I (Ap hb)) hb ?_))))
 intro gf ac Z₁ vs s₁ aa _ rv hb
 have hq:=Gq hb
 rw[if_neg hq] at hb |-
 exact aT (H n c.q A Z₁ ac s₁ gf vs C.ok I.ar (fun h=>by rw[h,iX,fR] at hq;exact hq) aa.st rv hb) (fun _ _ q=>q.lift aa) (fun _ _ q=>q.elim)
theorem KQ{id:String}{st:Bool}(hx:∀ c l h,A1 c x l h=(evalXs c xs l h).bind fun vs h=>if st&&c.q then .bad else r vs h)(hv:(f,Value.type id)∈B5)(H:LL P st (.type id) r)
  (hg:cx.isGlob f=true) (hc:B6 (Ag k cx) es=some xs) (h:DJ P cx es xs):As P cx (.Call (.Name f p) es [] pos) x:=by
 intro c n env A Z loc hp s C I hb
 rw[hx] at hb |-
 rw[Hf]
 refine aA (Fp C I hg hv (PySem.callWith_type (CB hc env pos) (BV (CB hc env pos) (Ig (G:=fun R vs s₁=>wpAny (model P.prog P.w) A (call (.type id) ([]++vs) []) (QV P Z s R) (QE P Z s R) s₁) (.refl I.st) (h c n env A Z loc hp s pos C I (Ap hb)) hb ?_))))
 intro gf ac Z₁ vs s₁ aa _ rv hb
 have hq:=Gq hb
 rw[if_neg hq] at hb |-
 exact aT (H n c.q A Z₁ ac s₁ gf vs C.ok I.ar (fun h=>by rw[h,iX,fR] at hq;exact hq) aa.st rv hb) (fun _ _ q=>q.lift aa) (fun _ _ q=>q.elim)
noncomputable def pT:BI->Bool
 | .min=>true
 | _=>false
theorem IX(hm:pT b=false)(hb:CI b as h≠.bad):∃ a,as=[a]:=by
 rcases as with _|⟨a,r⟩
 case nil=>exact absurd rfl hb
 case cons=>
  rcases r with _|⟨c,r⟩
  case nil=>exact⟨a,rfl⟩
  case cons=>rcases r with _|_<;>rcases b with _|_<;>first|exact absurd rfl hb|exact absurd hm.symm aD
theorem VH:LL P false (.builtin "len") (CI .len):=fun n q A Z hp s gf vs ok ar _ S rv hb=>by
 refine xE (IX rfl hb) fun a A6=>?_;subst A6
 refine A9 rv.one fun v A6 rv1=>?_;subst A6
 exact Vk ok S rv1 hb
theorem VI(hne:b=.list\/b=.sorted)(hb:CI b [a] h≠.bad):∃ n,a=.loc n:=by
 rcases hne with rfl|rfl<;>rcases a with _|_<;>first|exact⟨_,rfl⟩|exact absurd rfl hb
theorem TJ:LL P true (.type "list") (CI .list):=fun n q A Z hp s gf vs ok ar hq S rv hb=>by
 refine xE (IX rfl hb) fun a A6=>?_;subst A6
 refine xE (VI (.inl rfl) hb) fun j A6=>?_;subst A6
 refine A9 rv.one fun v A6 rv1=>?_;subst A6
 have hb:AW (Ch hp j) hp≠.bad:=hb
 show wpAny _ _ _ (QV P Z s (AW (Ch hp j) hp)) _ _
 refine A9 (Cd hb) fun xs hx hb=>?_
 rw[hx]
 exact Tq ok S (ar.handled (hq rfl)) rv1 hx hb
theorem Ox:LL P true (.builtin "sorted") (CI .sorted):=fun n q A Z hp s gf vs ok ar hq S rv hb=>by
 refine xE (IX rfl hb) fun a A6=>?_;subst A6
 refine xE (VI (.inr rfl) hb) fun j A6=>?_;subst A6
 refine A9 rv.one fun v A6 rv1=>?_;subst A6
 have hb:AW (O3 hp j) hp≠.bad:=hb
 show wpAny _ _ _ (QV P Z s (AW (O3 hp j) hp)) _ _
 refine A9 (Cd hb) fun xs hx hb=>?_
 rw[hx]
 refine A9 (Option.bind_eq_some_iff.mp (show ((Ch hp j).bind (DI Gh)).bind M0=some xs from hx)) fun ps hp1 hx=>?_
 exact Op ok S (ar.handled (hq rfl)) rv1 hp1 hx hb
theorem TK:LL P true (.type "dict") (CI .dict):=fun n q A Z hp s gf vs ok ar hq S rv hb=>by
 refine xE (IX rfl hb) fun a A6=>?_;subst A6
 refine A9 rv.one fun v A6 rv1=>?_;subst A6
 rcases a with _|_|_|_|_|j|_
 case loc=>
  have hb:Gi hp j≠.bad:=hb
  show wpAny _ _ _ (QV P Z s (Gi hp j)) _ _
  delta Gi at hb |-
  rcases hl:Am hp j with _|xs
  case none=>rw[hl] at hb;exact Tv ok S rv1 hb
  case some=>rw[hl] at hb;exact Qi ok S (ar.handled (hq rfl)) (by have t0:=ar.units1;exact ql (Ck _ _ _) [((qA (qA (qA Af (.mulL 100 Aj)) (qN 150)) qI),AA)] (qA (qA Af (qN 60)) qI) AA rfl t0) rv1 (B3 hl) hb
 all_goals exact absurd rfl hb
theorem VJ:LL P false (.type "int") (CI .int):=fun n q A Z hp s gf vs ok ar _ S rv hb=>by
 refine xE (IX rfl hb) fun a A6=>?_;subst A6
 refine A9 rv.one fun v A6 rv1=>?_;subst A6
 rcases a with _|_|_|x|_
 case str=>
  refine xE rv1 fun t A6=>?_;subst A6
  have hc:=FN (c:=(x.all EX&&!x.isEmpty&&decide (x.length<=600))=true) hb
  rw[show CI .int [.str x] hp=.ok (.int (EW x)) hp from if_pos hc]
  rw[aG,aG,decide_eq_true_eq,dJ] at hc
  exact Tm S hc.1.1 (fun e=>by rw[e] at hc;exact nomatch hc.1.2) hc.2
 all_goals exact absurd rfl hb
theorem VK:LL P false (.type "str") (CI .str):=fun n q A Z hp s gf vs ok ar _ S rv hb=>by
 refine xE (IX rfl hb) fun a A6=>?_;subst A6
 refine A9 rv.one fun v A6 rv1=>?_;subst A6
 rcases a with _|_|i|_
 case int=>
  refine xE rv1 fun t A6=>?_;subst A6
  have hc:=FN (c:=i.natAbs<2 ^ 64) hb
  rw[show CI .str [.int i] hp=.ok (.str (Ad i)) hp from if_pos hc]
  exact Tl S hc
 all_goals exact absurd rfl hb
theorem kY(hb:CI .min as hp≠.bad):∃ x y,as=[.int x,.int y]:=by
 rcases as with _|⟨a,_|⟨b,_|⟨_,_⟩⟩⟩<;>try exact absurd rfl hb
 rcases a with _|_|x|_<;>try exact absurd rfl hb
 rcases b with _|_|y|_<;>try exact absurd rfl hb
 exact⟨x,y,rfl⟩
theorem VL{A:Around}{Z:Sg}{s:Shared}{x y:Int}{t t':Tok}(S:St P.w P.B Z hp s.heap)(hh:A.handled=none):wpAny (model P.prog P.w) A (call (.builtin "min") [.int x t,.int y t']) (QV P Z s (.ok (.int (if y<x then y else x)) hp)) NE s:=by
 refine min_two_ints hh fun h' tk hk=>⟨_,_,_,rfl,⟨rfl,S.keep hk,Bk hk⟩,?_⟩
 by_cases q:y<x
 ·rw[if_pos q,if_pos q];exact⟨_,rfl⟩
 ·rw[if_neg q,if_neg q];exact⟨_,rfl⟩
theorem VM:LL P true (.builtin "min") (CI .min):=fun n q A Z hp s gf vs ok ar hq S rv hb=>by
 refine PJ (kY hb) fun x y A6=>?_;subst A6
 refine AF rv.cons fun _ _ A6 Fk rv2=>?_;subst A6;refine xE Fk fun t A6=>?_;try clear Fk;subst A6
 refine XM rv2.one fun _ A6 t' Fk=>?_;subst A6;subst Fk
 exact VL S (ar.handled (hq rfl))
theorem Qo:LL P false (.type "range") (fun vs h=>Ey (FK vs) h):=fun n q A Z hp s gf vs ok ar _ S rv hb=>by
 refine xE (kU hb) fun r hr=>?_
 show wpAny _ _ _ (QV P Z s (Ey (FK gf) hp)) _ _
 rw[hr]
 exact Qc S rv hr
theorem YB(hg:cx.isGlob "isinstance"=true)(hgT:cx.isGlob T=true)(hT:(T,Value.type (Nj t))∈B5)(hs:∀ env rest,starEach (e :: rest) env=(false,eval e env) :: starEach rest env)(h:As P cx e x):
  As P cx (.Call (.Name "isinstance" p) [e,.Name T q] [] pos) (.isi x t):=by
 intro c n env A Z loc hp s C I hb
 rw[UZ] at hb |-
 rw[Hf]
 have u0:(backTo pos (starEach [e,.Name T q] env)).any (·.1)=false:=by
  rw[hs];rfl
 refine aA (Fp C I hg Rz (eA u0 (BV u0 ?_)))
 refine bX (DM (G:=fun R v s₁=>wpAny (model P.prog P.w) A (spliced (backTo pos (starEach [.Name T q] env))) (fun vs ae=>wpAny (model P.prog P.w) A (call (.builtin "isinstance") ([]++(v :: vs)) []) (QV P Z s R) (QE P Z s R) ae) (QE P Z s R) s₁) (.refl I.st) (h c n env A Z loc hp s C I (Ap hb)) hb ?_) (hs env _)
 intro av ac Z₁ v s₁ aa _ rv hb
 refine bX (Fp C (I.after aa) hgT hT (dL ?_))
 refine xE (EG hb) fun r hr=>?_
 rw[hr]
 refine aT (Vr aa.st rv hr) (fun w ae qb=>?_) (fun _ _ q=>q)
 obtain⟨b,rfl,e2,ah⟩:=qb
 cases e2
 exact⟨_,_,_,rfl,aa.trans ah,rfl⟩
theorem E5.make(ar:E5 n q A)(C:Addr)(vs:List Value):ArndC n q (A.under (.builtin "type.__call__" ⟨.ref C :: vs,[]⟩)):=by
 refine Av ar.frame fun f gd hf _=>?_
 refine⟨⟨f :: gd,hf⟩,?_,?_,ar.handled⟩
 ·have t0:=ar.depth1
  rw[depth_under_make];exact ql (Ck _ _ _) [((qA (qA (qA Af (.mulL 2 Aj)) (qN 151)) qI),AA)] (qA (qA (qA BP (.mulL 2 Aj)) (qN 150)) qI) AA rfl t0
 ·have t1:=ar.units1
  rw[units_under_make];exact ql (Ck _ _ _) [((qA (qA (qA Af (.mulL 100 Aj)) (qN 150)) qI),AA)] (qA (qA (qA BP (.mulL 100 Aj)) (qN 100)) qI) AA rfl t1
theorem TL(hb:HE n r h≠.bad):r=.none/\HE n r h=.ok (.loc n) h:=by
 have h1:O6 r=true:=FN hb
 refine⟨?_,if_pos h1⟩
 rcases r with _|_<;>first|rfl|exact absurd h1 aD
theorem VN(C:ER P cx c n)(S:St P.w P.B Z hp s.heap)(ar:E5 n c.q A)(fs:LI P s.heap Z A)(rv:RVs P.B s.heap Z gf vs)
  (hb:((c.F "__init__" (.loc (hp.length+1) :: gf) (HD hp)).bind fun r h'=>HE (hp.length+1) r h')≠.bad) :
  wpAny (model P.prog P.w) A (call (.ref P.B.C) vs) (QV P Z s ((c.F "__init__" (.loc (hp.length+1) :: gf) (HD hp)).bind fun r h'=>HE (hp.length+1) r h')) (QE P Z s ((c.F "__init__" (.loc (hp.length+1) :: gf) (HD hp)).bind fun r h'=>HE (hp.length+1) r h')) s:=by
 refine Dq (C.f "__init__" C.init) fun fI oI fd hm ho hfc hd iy=>?_
 have hi:P.mN "__init__"=some (.ref fI):=by
  unfold BW.fn at hm
  rw[C.ok.init] at hm
  exact hm
 refine Cp ((C.ok.cls.keeps S.base).obj) fun nm q bs sn sub col dd k0 k1 k2 k3 k5 hC=>?_
 have u1:=S.base _ _ ho
 have u0:=(C.ok.cls.keeps S.base).ns
 obtain⟨hh,g,d,t,os⟩:=s
 refine TF PySem.F.objNew hC u0 hi u1 (hfc C.ok.init) ?_
 have M:=Mc (h:=hh) (C:=P.B.C)
 have u2:∀ o,(Hv hh P.B.C).get? (hh.objs.size+1)=some o->∀ v,o.data≠.prim v:=fun o ho v=>by rw[JP] at ho;cases ho;exact fun e=>nomatch e
 refine xA (St.made (s:=⟨hh,g,d,t,os⟩) S M u2) fun S' g'=>?_
 have hx:(Z++[(hh.objs.size,0)]++[(hh.objs.size+1,hh.objs.size)])[hp.length+1]?=some (hh.objs.size+1,hh.objs.size):=by
  have e:hp.length+1=(Z++[(hh.objs.size,0)]).length:=by rw[aC,S.len];rfl
  rw[e];exact aY
 refine aT (iy (.loc (hp.length+1) :: gf) (.ref (hh.objs.size+1) :: vs) _ (HD hp) ⟨Hv hh P.B.C,g,d,t,os⟩ _ S' ⟨⟨hh.objs.size+1,hh.objs.size,rfl,hx⟩,RVs.grows g' _ _ rv⟩ (ar.make P.B.C vs) (fs.after g') (Ap hb)) (fun r s' qv=>?_) fun _ _ q=>q.bind.lift (Ai.mk (s:=⟨hh,g,d,t,os⟩) (s':=⟨Hv hh P.B.C,g,d,t,os⟩) rfl S' g')
 obtain⟨av,bo,br,e,ai,rr⟩:=qv
 rw[e,Et] at hb |-
 refine xA (TL hb) fun A6 e2=>?_;subst A6
 rw[e2]
 exact⟨rr,_,_,_,rfl,(Ai.mk (s:=⟨hh,g,d,t,os⟩) (s':=⟨Hv hh P.B.C,g,d,t,os⟩) rfl S' g').trans ai,hh.objs.size+1,hh.objs.size,rfl,ai.gr.look hx⟩
theorem YC(hg:cx.isGlob cx.cls=true)(hs:∀ env rest,starEach (e :: rest) env=(false,eval e env) :: starEach rest env)(hc:B6 (Ag k cx) (e :: es)=some xs)(h:DJ P cx (e :: es) xs):
  As P cx (.Call (.Name cx.cls p) (e :: es) [] pos) (.new xs):=by
 intro c n env A Z loc hp s C I hb
 rw[V0] at hb |-
 rw[Hf]
 have u0:=CB hc env pos
 rw[hs env es] at u0
 refine aA (DN C I hg C.cls (callWith_cls C.ok.cls ?_ (hs env es) (Bool.or_eq_false_iff.mp u0).2))
 refine Ig (G:=fun R vs s₁=>(∀ b o,P.B.h₀.get? b=some o->s₁.heap.get? b=some o)/\wpAny (model P.prog P.w) A (call (.ref P.B.C) vs) (QV P Z s R) (QE P Z s R) s₁) (.refl I.st) (h c n env A Z loc hp s pos C I (Ap hb)) hb ?_
 intro gf ac Z₁ vs s₁ aa _ rv hb
 exact⟨aa.st.base,aT (VN C aa.st I.ar (I.fs.after aa.gr) rv hb) (fun _ _ q=>q.lift aa) (fun _ _ q=>q.lift aa)⟩
end
end
section
open PySem PySem.Spec PyProof.Rows PySem.SeqAt
theorem FQ(h:BL o=true)(attr:Str)(env:Env)(whole:Sem Value):attributeBase o attr env whole=whole:=by
 rcases o with _|_
 case Name=>rfl
 case Subscript=>rfl
 case Attribute=>rfl
 case Constant=>rfl
 case Call f _ _ _=>rcases f with _|_<;>first|rfl|exact absurd h aD
 all_goals exact absurd h aD
section
variable {P:BW} {cx:Cx}
theorem VO(hc:B6 (Ag k cx) es=some xs)(hl:es.length<20)(env:Env)(pos:Pos):((backTo pos (starEach es env)).all (fun x=>!x.1)&&(backToKw pos (keywordEach [] env)).all (fun x=>x.1.isSome)
   && decide (es.length+([]:List Keyword).length+(if ([]:List Keyword).isEmpty then 0 else 1)<30))=true:=by
 have h1:=CB hc env pos
 have h2:(backTo pos (starEach es env)).all (fun x=>!x.1)=true:=by
  rw[List.all_eq_true]
  intro x hx
  have t0:=List.any_eq_false.mp h1 x hx
  simpa using t0
 rw[h2]
 exact decide_eq_true (show es.length+0+0<30 from iD hl (by decide))
theorem VP(I:Inv P cx n qq env A Z loc hp s){T id:String}
  (pa:PlainAttrs T) (slot:Slot T name id) (hty:typeOf (.builtin id)=pure (.type "method_descriptor")) (gz:BL o=true) (hc:B6 (Ag k cx) es=some xs) (hl:es.length<20) (gi:(ap.endLine==pos.line)=true)
  {r:B7 AV} {f:AV->A0->B7 AV} (ho:wpAny (model P.prog P.w) A (eval o env) (QV P Z s r) (QE P Z s r) s) (hb:r.bind f≠.bad)
  (hk:∀ av hp' Z' v s',r=.ok av hp'->Ai P Z Z' [] hp' s s'->RV P.B s'.heap Z' av v->f av hp'≠.bad ->
   s'.TypeIs v T/\(∀ a,v=.ref a->∃ ob,s'.heap.get? a=some ob/\ob.dict=none) /\
   wpAny (model P.prog P.w) A (evalArgs (.builtin id) true (backTo pos (starEach es env)) []) (fun a s₁=>wpAny (model P.prog P.w) A (call (.builtin id) ([v]++a.pos) a.kw) (QV P Z s (f av hp')) (QE P Z s (f av hp')) s₁) (QE P Z s (f av hp')) s') :
  wpAny (model P.prog P.w) A (eval (.Call (.Attribute o name ap) es [] pos) env) (QV P Z s (r.bind f)) (QE P Z s (r.bind f)) s:=by
 refine wpAny_Call_method (FQ gz _ _ _) (VO hc hl env pos) gi pa slot hty (aT ho (fun v s' ⟨av,hp',Z',e,a,rv⟩=>?_) fun _ _ q=>q.bind)
 subst e
 refine JZ (hk av hp' Z' v s' rfl a rv hb) fun h1 h2 h3=>?_
 exact⟨h1,h2,eA (CB hc env pos) h3⟩
theorem TM(hb:Fm (.loc j) as h≠.bad):∃ x xs,as=[x]/\h[j]?=some (.list xs)/\xs.length<Ab/\Fm (.loc j) as h=.ok .none (h.set j (.list (xs++[x]))):=by
 rcases as with _|⟨x,_|⟨_,_⟩⟩
 ·exact absurd rfl hb
 ·unfold Fm at hb |-
  dsimp only at hb |-
  rcases hx:Am h j with _|xs<;>rw[hx] at hb
  case none=>exact absurd rfl hb
  case some=>
   have u0:=HO hb
   exact⟨_,_,rfl,B3 hx,u0,if_pos u0⟩
 ·exact absurd rfl hb
theorem JQ{T id:String}(p:AV->Prop)(pa:PlainAttrs T)(slot:Slot T name id)(hty:typeOf (.builtin id)=pure (.type "method_descriptor"))
  (hT:∀ {Z:Sg} {hp:A0} {s:Shared} {av:AV} {v:Value},p av->St P.w P.B Z hp s.heap->RV P.B s.heap Z av v->Gc m av hp=true->s.TypeIs v T/\∀ a,v=.ref a->∃ ob,s.heap.get? a=some ob/\ob.dict=none)
  (H:∀ {n:Nat} {q:Bool} {A:Around} {Z:Sg} {hp:A0} {s:Shared} {av:AV} {v:Value} {gf:List AV} {vs:List Value},p av->P.Ok->E5 n q A->St P.w P.B Z hp s.heap->RV P.B s.heap Z av v->RVs P.B s.heap Z gf vs->Cq m av gf hp≠.bad->wpAny (model P.prog P.w) A (call (.builtin id) (v :: vs)) (QV P Z s (Cq m av gf hp)) NE s)
  {o:Expr} {es:List Expr} {xo:X} {xs:Xs} {ap pos:Pos} {k:Nat} (gz:BL o=true) (hc:B6 (Ag k cx) es=some xs) (hl:es.length<20) (gi:(ap.endLine==pos.line)=true) (ho:As P cx o xo) (jr:DJ P cx es xs)
  (C:ER P cx c n) (I:Inv P cx n c.q env A Z loc hp s) (hb:A1 c (.bm m xo xs) loc hp≠.bad) (hpv:∀ av h,A1 c xo loc hp=.ok av h->Gc m av h=true->p av) :
  wpAny (model P.prog P.w) A (eval (.Call (.Attribute o name ap) es [] pos) env) (QV P Z s (A1 c (.bm m xo xs) loc hp)) (QE P Z s (A1 c (.bm m xo xs) loc hp)) s:=by
 rw[Y1] at hb |-
 refine VP I pa slot hty gz hc hl gi (ho c n env A Z loc hp s C I (Ap hb)) hb ?_
 intro av ac Z₁ v s₁ hr aa rv hb
 have hk:=HO hb
 have u0:=hpv av ac hr hk
 rw[if_pos hk] at hb |-
 refine xA (hT u0 aa.st rv hk) fun h1 h2=>?_
 refine⟨h1,h2,?_⟩
 refine BV (CB hc env pos) (Ig (G:=fun R vs ae=>wpAny (model P.prog P.w) A (call (.builtin id) ([v]++vs) []) (QV P Z s R) (QE P Z s R) ae) aa (jr c n env A Z₁ loc ac s₁ pos C (I.after aa) (Ap hb)) hb ?_)
 intro gf al am vs ae ah bb rvs hb
 exact aT (H u0 C.ok I.ar ah.st (RV.grows bb.gr _ _ rv) rvs hb) (fun _ _ q=>q.lift ah) (fun _ _ q=>q.elim)
theorem KS{T id:String}(pa:PlainAttrs T)(slot:Slot T name id)(hty:typeOf (.builtin id)=pure (.type "method_descriptor"))
  (hT:∀ {Z:Sg} {hp:A0} {s:Shared} {av:AV} {v:Value},St P.w P.B Z hp s.heap->RV P.B s.heap Z av v->Gc m av hp=true->s.TypeIs v T/\∀ a,v=.ref a->∃ ob,s.heap.get? a=some ob/\ob.dict=none)
  (H:∀ {n:Nat} {q:Bool} {A:Around} {Z:Sg} {hp:A0} {s:Shared} {av:AV} {v:Value} {gf:List AV} {vs:List Value},P.Ok->E5 n q A->St P.w P.B Z hp s.heap->RV P.B s.heap Z av v->RVs P.B s.heap Z gf vs->Cq m av gf hp≠.bad->wpAny (model P.prog P.w) A (call (.builtin id) (v :: vs)) (QV P Z s (Cq m av gf hp)) NE s)
  {o:Expr} {es:List Expr} {xo:X} {xs:Xs} {ap pos:Pos} {k:Nat} (gz:BL o=true) (hc:B6 (Ag k cx) es=some xs) (hl:es.length<20) (gi:(ap.endLine==pos.line)=true) (ho:As P cx o xo) (jr:DJ P cx es xs) :
  As P cx (.Call (.Attribute o name ap) es [] pos) (.bm m xo xs):=fun c n env A Z loc hp s C I hb=>
 JQ (fun _=>True) pa slot hty (fun _=>hT) (fun _=>H) gz hc hl gi ho jr C I hb fun _ _ _ _=>trivial
theorem TN(ok:P.Ok)(ar:E5 n q A)(S:St P.w P.B Z hp s.heap)(rv:RV P.B s.heap Z av v)(rvs:RVs P.B s.heap Z gf vs)(hb:Cq .append av gf hp≠.bad):
  wpAny (model P.prog P.w) A (call (.builtin "list.append") (v :: vs)) (QV P Z s (Cq .append av gf hp)) NE s:=by
 rcases av with _|_
 case loc j=>
  refine Av rv fun a off A6 e1=>?_;try clear rv;subst A6
  refine MT (TM hb) fun x zs A6 hj gh er=>?_;subst A6
  rw[show Cq .append (.loc j) [x] hp=_ from er]
  refine A9 rvs.one fun u A6 ru=>?_;subst A6
  refine AF (Ol S hj e1 gh ru) fun us m' h1 h2 h3=>?_
  exact fM F.slot_list_append ⟨_,h2,rfl⟩ F.entry_list_append (F.args_list_append_2 _ _) (list_append a us m' u h1) ⟨h2,_,_,_,rfl,h3,rfl⟩
 all_goals exact absurd rfl hb
theorem kZ(ok:P.Ok)(ar:E5 n q A)(S:St P.w P.B Z hp s.heap)(rv:RV P.B s.heap Z av v)(rvs:RVs P.B s.heap Z gf vs)(hb:Cq .get av gf hp≠.bad):
  wpAny (model P.prog P.w) A (call (.builtin "dict.get") (v :: vs)) (QV P Z s (Cq .get av gf hp)) NE s:=by
 rcases av with _|_
 case loc j=>
  refine Av rv fun a off A6 e1=>?_;try clear rv;subst A6
  rcases gf with _|⟨x,r⟩
  case nil=>exact absurd rfl hb
  case cons=>
   rcases r with _|⟨_,_⟩
   case cons=>exact absurd rfl hb
   case nil=>
    refine A9 rvs.one fun u A6 ru=>?_;subst A6
    change Ji (.loc j) [x] hp≠.bad at hb
    show wpAny _ _ _ (QV P Z s (Ji (.loc j) [x] hp)) _ _
    delta Ji at hb |-
    dsimp only at hb |-
    rcases hd:Bi hp j with _|d
    case none=>rw[hd] at hb;exact absurd rfl hb
    case some=>
     rw[hd] at hb
     refine A9 (Du (show Ey (O5 d.1 x.key?) hp≠.bad from hb)) fun y hy e=>?_
     show wpAny _ _ _ (QV P Z s (Ey (O5 d.1 x.key?) hp)) _ _
     rw[e]
     exact Vx ok S (by have t0:=ar.units;exact mX t0) hd e1 ru hy
 all_goals exact absurd rfl hb
theorem lA(ok:P.Ok)(ar:E5 n q A)(S:St P.w P.B Z hp s.heap)(rv:RV P.B s.heap Z av v)(rvs:RVs P.B s.heap Z gf vs)(hb:Cq .pop av gf hp≠.bad):
  wpAny (model P.prog P.w) A (call (.builtin "dict.pop") (v :: vs)) (QV P Z s (Cq .pop av gf hp)) NE s:=by
 rcases av with _|_
 case loc j=>
  refine Av rv fun a off A6 e1=>?_;try clear rv;subst A6
  rcases gf with _|⟨x,r⟩
  case nil=>exact absurd rfl hb
  case cons=>
   rcases r with _|⟨_,_⟩
   case cons=>exact absurd rfl hb
   case nil=>
    refine A9 rvs.one fun u A6 ru=>?_;subst A6
    change M1 (.loc j) [x] hp≠.bad at hb
    show wpAny _ _ _ (QV P Z s (M1 (.loc j) [x] hp)) _ _
    delta M1 at hb |-
    dsimp only at hb |-
    rcases hd:Bi hp j with _|d
    case none=>rw[hd] at hb;exact absurd rfl hb
    case some=>
     rw[hd] at hb
     change ST hp j d.1 d.2 x.key?≠.bad at hb
     show wpAny _ _ _ (QV P Z s (ST hp j d.1 d.2 x.key?)) _ _
     rcases hk:x.key? with _|k
     case none=>rw[hk] at hb;exact absurd rfl hb
     case some=>
      rw[hk] at hb
      delta ST at hb |-
      dsimp only at hb |-
      have u0:=HO hb
      rw[if_pos u0] at hb |-
      rcases hy:d.1.lookup k with _|y
      case none=>rw[hy] at hb;exact absurd rfl hb
      case some=>
       rw[HN hk] at ru
       exact Vw ok S (by have t0:=ar.units;exact mX t0) (Dh hd) e1 ru u0 hy
 all_goals exact absurd rfl hb
noncomputable def Jn:AV->Bool
 | .loc _=>true
 | _=>false
theorem VQ(hnl:Jn av=false)(ok:P.Ok)(ar:E5 n q A)(S:St P.w P.B Z hp s.heap)(rv:RV P.B s.heap Z av v)(rvs:RVs P.B s.heap Z gf vs)(hb:Cq .index av gf hp≠.bad):
  wpAny (model P.prog P.w) A (call (.builtin "str.index") (v :: vs)) (QV P Z s (Cq .index av gf hp)) NE s:=by
 rcases av with _|_
 case str x=>
  refine xE rv fun t A6=>?_;try clear rv;subst A6
  rcases gf with _|⟨y,r⟩
  case nil=>exact absurd rfl hb
  case cons=>
   rcases r with _|⟨_,_⟩
   case cons=>exact absurd rfl hb
   case nil=>
    refine A9 rvs.one fun u A6 ru=>?_;subst A6
    refine A9 (Du (show Ey (((Jh y).bind fun c=>x.findIdx? (·==c)).map fun (i:Nat)=>AV.int (i:Int)) hp≠.bad from hb)) fun z hz e=>?_
    rw[show Cq .index (.str x) [y] hp=.ok z hp from e]
    refine A9 (Option.map_eq_some_iff.mp hz) fun i hi1 A6=>?_;subst A6
    refine A9 (Option.bind_eq_some_iff.mp hi1) fun c hc hi=>?_
    rw[KI hc] at ru
    refine xE ru fun t' A6=>?_;try clear ru;subst A6
    refine xE (Yl hi) fun rest hocc=>?_
    exact SC.index hocc ⟨_,_,_,rfl,.tok S _,_,rfl⟩
 case loc=>exact absurd hnl.symm aD
 all_goals exact absurd rfl hb
theorem KT{s:Shared}(S:St P.w P.B Z hp s.heap)(rv:RV P.B s.heap Z av v)(h:Gc .append av hp=true):s.TypeIs v "list"/\∀ a,v=.ref a->∃ ob,s.heap.get? a=some ob/\ob.dict=none:=by
 rcases av with _|_
 case loc j=>
  refine Av rv fun a off A6 e1=>?_;try clear rv;subst A6
  refine xE (Option.isSome_iff_exists.mp h) fun xs hx=>?_
  refine Av (S.isL (B3 hx) e1) fun ws m hL _=>?_
  exact⟨⟨_,hL,rfl⟩,fun b e=>by cases e;exact⟨_,hL,rfl⟩⟩
 all_goals exact absurd h aD
theorem RS{s:Shared}(S:St P.w P.B Z hp s.heap)(rv:RV P.B s.heap Z av v)(h:Gc .get av hp=true):s.TypeIs v "dict"/\∀ a,v=.ref a->∃ ob,s.heap.get? a=some ob/\ob.dict=none:=by
 rcases av with _|_
 case loc j=>
  refine Av rv fun a off A6 e1=>?_;try clear rv;subst A6
  refine xE (Option.isSome_iff_exists.mp h) fun d hx=>?_
  refine A9 (S.isDict (Dh hx) e1) fun es hL _=>?_
  exact⟨⟨_,hL,rfl⟩,fun b e=>by cases e;exact⟨_,hL,rfl⟩⟩
 all_goals exact absurd h aD
theorem YD{s:Shared}(S:St P.w P.B Z hp s.heap)(rv:RV P.B s.heap Z av v)(h:Gc .pop av hp=true):s.TypeIs v "dict"/\∀ a,v=.ref a->∃ ob,s.heap.get? a=some ob/\ob.dict=none:=by
 rcases av with _|_
 case loc j=>exact RS S rv h
 all_goals exact absurd h aD
theorem TO{s:Shared}(hnl:Jn av=false)(S:St P.w P.B Z hp s.heap)(rv:RV P.B s.heap Z av v)(h:Gc .index av hp=true):s.TypeIs v "str"/\∀ a,v=.ref a->∃ ob,s.heap.get? a=some ob/\ob.dict=none:=by
 rcases av with _|_
 case str x=>refine xE rv fun t A6=>?_;try clear rv;subst A6;exact⟨rfl,fun b e=>nomatch e⟩
 case loc=>exact absurd hnl.symm aD
 all_goals exact absurd h aD
theorem Oy{s:Shared}(hm:m=.index\/m=.count)(hl:Jn av=true)(S:St P.w P.B Z hp s.heap)(rv:RV P.B s.heap Z av v)(h:Gc m av hp=true):s.TypeIs v "list"/\∀ a,v=.ref a->∃ ob,s.heap.get? a=some ob/\ob.dict=none:=by
 rcases av with _|_
 case loc j=>exact KT S rv (show (Am hp j).isSome=true by rcases hm with rfl|rfl<;>exact h)
 all_goals exact absurd hl aD
theorem RT{s:Shared}(hm:m=.split\/m=.join)(S:St P.w P.B Z hp s.heap)(rv:RV P.B s.heap Z av v)(h:Gc m av hp=true):s.TypeIs v "str"/\∀ a,v=.ref a->∃ ob,s.heap.get? a=some ob/\ob.dict=none:=by
 rcases av with _|_
 case str x=>refine xE rv fun t A6=>?_;try clear rv;subst A6;exact⟨rfl,fun b e=>nomatch e⟩
 all_goals rcases hm with rfl|rfl<;>exact absurd h aD
theorem Mf(h:Gj v=some b):v=.bool b:=by
 rcases v with _|k|_<;>try exact A2 h
 cases (show some k=some b from h);rfl
theorem KU{B:Bs}{h:Heap}{Z:Sg}:∀ {bs:List Bool} {vs:List Value},RVs B h Z (bs.map .bool) vs->vs=bs.map Value.bool
 | [],vs,r=>r.nil
 | b :: bs,vs,r=>by
  refine AF (RVs.cons r) fun v us A6 r1 r2=>?_;subst A6
  rcases (show v=.bool b from r1) with rfl
  rw[KU r2];rfl
theorem Mg(h:Gk xs as=some bs):as=[.bool true]/\∃ ys,xs=some ys/\ys=bs.map AV.bool:=by
 rcases as with _|⟨v,_|⟨_,_⟩⟩<;>try exact A2 h
 refine A9 (Option.bind_eq_some_iff.mp (show ((Gj v).bind fun b=>if b then xs.bind (DI Gj) else none)=some bs from h)) fun b hb h=>?_
 rcases Mf hb with rfl
 refine xA (Cr h) fun hb h=>?_
 subst hb
 refine A9 (Option.bind_eq_some_iff.mp h) fun ys h1 h2=>?_
 exact⟨rfl,ys,h1,Ib Mf h2⟩
noncomputable def mS:Value->Bool
 | .bool b=>b
 | _=>false
theorem VR{A:Around}{s:Shared}{bs:List Bool}{ws:Array Value}(hw:ws.toList=bs.map Value.bool)(y:Value)(hy:y∈ws):EqAt A s y (.bool true) (mS y):=by
 rw[<- Array.mem_toList_iff,hw] at hy
 refine A9 (List.mem_map.mp hy) fun b _ A6=>?_;subst A6
 have t0:=EqAt.bool_bool (A:=A) (s:=s) b true
 rwa [show (b==true)=mS (.bool b) by cases b<;>rfl] at t0
theorem TP(hl:Jn av=true)(ok:P.Ok)(ar:E5 n q A)(S:St P.w P.B Z hp s.heap)(rv:RV P.B s.heap Z av v)(rvs:RVs P.B s.heap Z gf vs)(hb:Cq .index av gf hp≠.bad):
  wpAny (model P.prog P.w) A (call (.builtin "list.index") (v :: vs)) (QV P Z s (Cq .index av gf hp)) NE s:=by
 rcases av with _|_|_|_|_|j|_
 case loc=>
  refine Av rv fun a off A6 e1=>?_;try clear rv;subst A6
  refine A9 (Du (show Ey (((Gk (Am hp j) gf).bind fun bs=>bs.findIdx? (·==true)).map fun (i:Nat)=>AV.int (i:Int)) hp≠.bad from hb)) fun z hz e=>?_
  rw[show Cq .index (.loc j) gf hp=.ok z hp from e]
  refine A9 (Option.map_eq_some_iff.mp hz) fun i hi1 A6=>?_;subst A6
  refine A9 (Option.bind_eq_some_iff.mp hi1) fun bs hbs hi=>?_
  refine NX (Mg hbs) fun A6 ys hy Fk=>?_;subst A6;subst Fk
  refine A9 rvs.one fun u A6 ru=>?_;subst A6
  rcases (show u=.bool true from ru) with rfl
  refine Av (S.isL (B3 hy) e1) fun ws m hL rx=>?_
  have hw:=KU rx
  have u0:=S.isLen (B3 hy) e1
  rw[aB] at u0
  obtain⟨hlt,ht,hno⟩:=List.findIdx?_eq_some_iff_getElem.mp hi
  have u1:ws.size=bs.length:=by rw[<- bH,hw,aB]
  have u2:∀ (k:Nat) (hk:k<ws.size),mS ws[k]=bs[k]'(u1▸hk):=fun k hk=>by
   have t0:ws.toList[k]'(by rw[bH];exact hk)=Value.bool (bs[k]'(u1▸hk)):=by
    simp only[hw,List.getElem_map]
   rw[<- Array.getElem_toList,t0];rfl
  refine fM F.slot_list_index ⟨_,hL,rfl⟩ F.entry_list_index (F.args_list_index_2 _ _) (list_indexAt a ws m none #[] (.bool true) mS i (Zn hlt u1) (by have t1:=fC;exact sG hlt t1 u0) (by rw[u2 i (Zn hlt u1)];exact cA ht) (fun k hk hki=>by
   rw[u2 k hk]
   have t2:=hno k hki
   revert t2
   cases bs[k]'(u1▸hk)<;>intro t2
   ·rfl
   ·exact absurd rfl t2)) ⟨hL,fun y hy=>VR hw y hy,_,_,_,rfl,.tok S _,_,rfl⟩
 all_goals exact absurd hl aD
theorem VS(hl:Jn av=true)(ok:P.Ok)(ar:E5 n q A)(S:St P.w P.B Z hp s.heap)(rv:RV P.B s.heap Z av v)(rvs:RVs P.B s.heap Z gf vs)(hb:Cq .count av gf hp≠.bad):
  wpAny (model P.prog P.w) A (call (.builtin "list.count") (v :: vs)) (QV P Z s (Cq .count av gf hp)) NE s:=by
 rcases av with _|_|_|_|_|j|_
 case loc=>
  refine Av rv fun a off A6 e1=>?_;try clear rv;subst A6
  refine A9 (Du (show Ey ((Gk (Am hp j) gf).map fun bs=>AV.int (bs.count true:Nat)) hp≠.bad from hb)) fun z hz e=>?_
  rw[show Cq .count (.loc j) gf hp=.ok z hp from e]
  refine A9 (Option.map_eq_some_iff.mp hz) fun bs hbs A6=>?_;subst A6
  refine NX (Mg hbs) fun A6 ys hy Fk=>?_;subst A6;subst Fk
  refine A9 rvs.one fun u A6 ru=>?_;subst A6
  rcases (show u=.bool true from ru) with rfl
  refine Av (S.isL (B3 hy) e1) fun ws m hL rx=>?_
  have hw:=KU rx
  have hc:ws.toList.countP mS=bs.count true:=by
   rw[hw,List.countP_map,List.count]
   congr 1
   funext b
   cases b<;>rfl
  refine fM F.slot_list_count ⟨_,hL,rfl⟩ F.entry_list_count (F.args_list_count_2 _ _) (list_countAt a ws m none #[] (.bool true) mS) ⟨hL,fun y hy=>VR hw y hy,_,_,_,rfl,.tok S _,_,by rw[hc]⟩
 all_goals exact absurd hl aD
theorem VT(ok:P.Ok)(ar:E5 n q A)(S:St P.w P.B Z hp s.heap)(rv:RV P.B s.heap Z av v)(rvs:RVs P.B s.heap Z gf vs)(hb:Cq .split av gf hp≠.bad):
  wpAny (model P.prog P.w) A (call (.builtin "str.split") (v :: vs)) (QV P Z s (Cq .split av gf hp)) NE s:=by
 rcases av with _|_|_|x|_<;>try exact absurd rfl hb
 rcases gf with _|⟨y,_|⟨_,_⟩⟩<;>try exact absurd rfl hb
 refine xE rv fun t A6=>?_;try clear rv;subst A6
 have hx:=FN (c:=x.length<=Ab) hb
 have e:Cq .split (.str x) [y] hp=AW ((Jh y).bind fun c=>if c<128 then some ((Aq c x).map .str) else none) hp:=if_pos hx
 rw[e] at hb |-
 refine A9 (Cd hb) fun ys hy hb=>?_
 rw[hy]
 refine A9 (Option.bind_eq_some_iff.mp hy) fun c hc h=>?_
 refine xA (JM h) fun hc1 A6=>?_;subst A6
 rw[KI hc] at rvs
 refine A9 rvs.one fun u A6 ru=>?_;subst A6
 refine xE ru fun t' A6=>?_;try clear ru;subst A6
 exact Qd S hc1 hx hb
theorem YE(ok:P.Ok)(ar:E5 n q A)(S:St P.w P.B Z hp s.heap)(rv:RV P.B s.heap Z av v)(rvs:RVs P.B s.heap Z gf vs)(hb:Cq .join av gf hp≠.bad):
  wpAny (model P.prog P.w) A (call (.builtin "str.join") (v :: vs)) (QV P Z s (Cq .join av gf hp)) NE s:=by
 rcases av with _|_|_|x|_<;>try exact absurd rfl hb
 rcases gf with _|⟨y,_|⟨_,_⟩⟩<;>try exact absurd rfl hb
 rcases y with _|_|_|_|_|j|_<;>try exact absurd rfl hb
 refine xE rv fun t A6=>?_;try clear rv;subst A6
 refine A9 (Du (show Ey (((Am hp j).bind (DI Gf)).bind fun xs=>if Da x xs<=Ab then some (.str (Bv x xs)) else none) hp≠.bad from hb)) fun z hz e=>?_
 rw[show Cq .join (.str x) [.loc j] hp=.ok z hp from e]
 refine A9 (Option.bind_eq_some_iff.mp hz) fun xs h1 h=>?_
 refine xA (JM h) fun hl A6=>?_;subst A6
 refine A9 (Option.bind_eq_some_iff.mp h1) fun ys hy h2=>?_
 have hj:=B3 hy
 rw[Ib Ia h2] at hj
 refine A9 rvs.one fun u A6 ru=>?_;subst A6
 exact Tk S ru hj hl
theorem TQ{o:Expr}{es:List Expr}{xo:X}{xs:Xs}{ap pos:Pos}{k:Nat}(gz:BL o=true)(hc:B6 (Ag k cx) es=some xs)(hl:es.length<20)(gi:(ap.endLine==pos.line)=true)(ho:As P cx o xo)(jr:DJ P cx es xs):
  As P cx (.Call (.Attribute o "count" ap) es [] pos) (.bm .count xo xs):=fun c n env A Z loc hp s C I hb=>
 JQ (fun av=>Jn av=true) iQ F.slot_list_count F.type_list_count (fun p=>Oy (.inr rfl) p) (fun p=>VS p) gz hc hl gi ho jr C I hb fun av h e hk=>by
  rcases av with _|_<;>first|rfl|exact absurd hk aD
theorem TR{o:Expr}{es:List Expr}{xo:X}{xs:Xs}{ap pos:Pos}{k:Nat}(gz:BL o=true)(hc:B6 (Ag k cx) es=some xs)(hl:es.length<20)(gi:(ap.endLine==pos.line)=true)(ho:As P cx o xo)(jr:DJ P cx es xs):
  As P cx (.Call (.Attribute o "index" ap) es [] pos) (.bm .index xo xs):=fun c n env A Z loc hp s C I hb=>by
 by_cases hL:∃ j h,A1 c xo loc hp=.ok (.loc j) h
 ·refine PJ hL fun j h e=>?_
  exact JQ (fun av=>Jn av=true) iQ F.slot_list_index F.type_list_index (fun p=>Oy (.inl rfl) p) (fun p=>TP p) gz hc hl gi ho jr C I hb fun av h' e' _=>by rw[e] at e';cases e';rfl
 ·exact JQ (fun av=>Jn av=false) gQ F.slot_str_index F.type_str_index (fun p=>TO p) (fun p=>VQ p) gz hc hl gi ho jr C I hb fun av h' e' _=>by
   rcases av with _|_|_|_|_|j|_
   case loc=>exact absurd ⟨j,h',e'⟩ hL
   all_goals rfl
theorem VU(ha:cx.attrs.contains a=true)(gz:BL o=true)(ho:As P cx o xo):As P cx (.Attribute o a pos) (.attr a xo):=by
 intro c n env A Z loc hp s C I hb
 rw[V1] at hb |-
 have he:eval (.Attribute o a pos) env=(do
   let o' <- eval o env
   standAt pos.atName
   let r <- holding [o'] (getAttr o' a true)
   letTemporaryGo o o' r
   pure r):=by rw[arm_eval_Attribute,FQ gz]
 refine Attribute_any_ (DM (G:=fun R v s₁=>wpAny (model P.prog P.w) A (getAttr v a true) (QV P Z s R) (QE P Z s R) s₁) (.refl I.st) (ho c n env A Z loc hp s C I (Ap hb)) hb ?_) he
 intro av ac Z₁ v s₁ aa _ rv hb
 exact aT (Tu C.ok aa.st (C.attrs▸ha) rv hb) (fun _ _ q=>q.lift aa) (fun _ _ q=>q)
theorem Qp(hb:FJ m v h=true):∃ j fs,v=.loc j/\FH h j=some fs/\fs.lookup m=none:=by
 rcases v with _|_
 case loc j=>
  delta FJ at hb
  dsimp only at hb
  rcases hi:FH h j with _|fs
  case none=>rw[hi] at hb;exact absurd hb aD
  case some=>rw[hi] at hb;exact⟨j,fs,rfl,hi,Option.isNone_iff_eq_none.mp hb⟩
 all_goals exact absurd hb aD
theorem lB(hf:cx.funs.contains m=true)(hm:cx.meths.contains m=true)(gz:BL o=true)(hc:B6 (Ag k cx) es=some xs)(hl:es.length<20)(gi:(ap.endLine==pos.line)=true)(ho:As P cx o xo)(jr:DJ P cx es xs):
  As P cx (.Call (.Attribute o m ap) es [] pos) (.im m xo xs):=by
 intro c n env A Z loc hp s C I hb
 rw[pP] at hb |-
 rw[arm_eval_Call,FQ gz]
 refine Dq (C.f m hf) fun f of fd hfn hfo hfc hd iy=>?_
 have u2:P.mN m=some (.ref f):=by
  unfold BW.fn at hfn
  rw[<- C.meths,hm] at hfn
  exact hfn
 refine aA (DM (G:=fun R v s₁=>wpAny (model P.prog P.w) A (standAt ap.atName >>= fun _=>methodCall o m ap pos env v (es.length+([]:List Keyword).length) (backTo pos (starEach es env)) (backToKw pos (keywordEach [] env))) (QV P Z s R) (QE P Z s R) s₁) (.refl I.st) (ho c n env A Z loc hp s C I (Ap hb)) hb ?_)
 intro av ac Z₁ v s₁ aa _ rv hb
 have hk:=HO hb
 rw[if_pos hk] at hb |-
 refine AF (Qp hk) fun j fs A6 hi hno=>?_;subst A6
 refine Av rv fun x off A6 e1=>?_;try clear rv;subst A6
 refine aI fun gj=>?_
 refine A9 (M7 hi) fun q hj hq=>?_
 refine Av (Nl aa.st hj hq e1) fun mA gx e2 Ins=>?_
 refine Cp ((C.ok.cls.keeps aa.st.base).obj) fun nm qq bs sn sub col dd k0 k1 k2 k3 k5 hC=>?_
 refine xE (C.ok.qm m (C.meths▸hm)) fun y hy=>?_
 refine gj ?_
 refine aA (dS ?_)
 have u0:methodCallForm (es.length+([]:List Keyword).length) (backTo pos (starEach es env)) (backToKw pos (keywordEach [] env))=true:=VO hc hl env pos
 have u1:methodCallPos true o env ap pos=pure pos:=by unfold methodCallPos;simp[gi]
 unfold methodCall
 rw[u0]
 refine aA (bD (method_of hC (C.ok.cls.keeps aa.st.base).ns C.ok.q2 C.ok.q3 u2 (aa.st.base _ _ hfo) (hfc (C.meths▸hm)) hy Ins.inst (Ins.ns.non m hno) ?_))
 refine aA (wpAny_of_eq u1 ?_)
 refine Calls.callWith_function (o:=of) (fd:=fd) (BV (CB hc env pos) (Ig (G:=fun R vs ae=>(ae.heap.get? f=some of/\of.data=.func fd)/\wpAny (model P.prog P.w) A (call (.ref f) ([Value.ref x]++vs) []) (QV P Z s R) (QE P Z s R) ae) aa (jr c n env A Z₁ loc ac s₁ pos C (I.after aa) (Ap hb)) hb ?_))
 intro gf al am vs ae ah bb rvs hb
 refine⟨⟨ah.st.base _ _ hfo,hd⟩,?_⟩
 exact aT (iy (.loc j :: gf) (.ref x :: vs) am al ae A ah.st ⟨⟨x,off,rfl,bb.gr.look e1⟩,rvs⟩ I.ar.toArndC (I.fs.after ah.gr) hb) (fun _ _ q=>q.lift ah) (fun _ _ q=>q.lift ah)
end
end
section
open PySem PySem.Spec PyProof.Rows PySem.SeqAt
section
variable {P:BW} {cx:Cx}
theorem TS{pos:Pos}:As P cx (.Dict [] [] pos) .dict0:=by
 intro c n env A Z loc hp s C I hb
 rw[N6]
 refine wpAny_Dict_empty ?_
 refine xA (I.st.alloc (X:=[]) { cls:=.type "dict",data:=.dict #[] } 0 (.dict [] 0) fun g=>⟨#[],bG _ rfl,trivial,List.Pairwise.nil,(fun p hp=>nomatch hp),bE _⟩) fun S' g=>?_
 refine⟨_,_,_,rfl,⟨rfl,S',g⟩,_,0,rfl,?_⟩
 rw[<- I.st.len];exact aY
end
end
section
open PySem PySem.Spec PyProof.Rows PySem.SeqAt
theorem Ij{excs:List (Str×List Str)}{j k:Str}{ks:List Str}(h:excs.lookup k=some ks):(taken excs j).contains k=ks.contains j:=by
 have hm:k∈excs.map (·.1):=List.mem_map.mpr ⟨_,Az h,rfl⟩
 cases hc:ks.contains j with
 | true=>exact List.contains_iff_mem.mpr (List.mem_filter.mpr ⟨hm,by rw[h];exact hc⟩)
 | false=>
  cases hq:(taken excs j).contains k with
  | false=>rfl
  | true=>
   have:=(List.mem_filter.mp (List.contains_iff_mem.mp hq)).2
   rw[h] at this
   exact absurd (hc.symm.trans this) aD
theorem lC{h:A0}{v:AV}{ks:List Str}{r:Bool}(e:kO h v ks=some r):∃ j k,v=.loc j/\h[j]?=some (.exc k)/\r=ks.contains k:=by
 cases v
 case loc j=>
  delta kO at e
  dsimp only at e
  cases hj:h[j]? with
  | none=>rw[hj] at e;exact A2 e
  | some o=>
   rw[hj] at e
   cases o
   case exc k=>exact⟨j,k,rfl,hj,(Option.some.inj e).symm⟩
   all_goals exact A2 e
 all_goals exact A2 e
section
variable {P:BW} {cx:Cx}
inductive RU (P:BW) (k:Str) (ks:List Str) (C:Addr):Prop
 | mk (bm:List Value) (N:Addr) (nm q:Str) (bs:List Value) (hdct:Bool) (sn:List Str) (sub:List Value) (ab:Bool) (col:Option Bool) (dd:Option Addr) (k0 k1 k2 k3 k5:Option Value) (gg:String) (mN:Str->Option Value)
  (hC:P.B.h₀.get? C=some (excClassObj nm q C N bs bm hdct sn sub ab col dd k0 k1 k2 k3 k5 gg)) (hN:P.B.h₀.Ns N mN) (hq:∀ n∈quietNames,mN n=none) (T:OwnTailQ P.B.h₀ Ei bm) (nc:ED P.B.h₀ (.ref C :: bm))
  (jt:∀ j D,P.mg j=some (.ref D)->(P.B.excs.any fun p=>p.2.contains j)=true->(Value.ref C :: bm).contains (.ref D)=ks.contains j):RU P k ks C
theorem lD{excs:List (Str×List Str)}(X:RC P excs)(ki:excs.lookup k=some ks)(hmk:P.mg k=some (.ref C')):RU P k ks C':=by
 refine xE (X.own k ks ki) fun K OK=>?_
 have:C'=K:=by have:=OK.bound;rw[show P.mg k=some (.ref C') from hmk] at this;cases this;rfl
 subst this
 cases Va OK with
 | mk bmC N _ _ _ _ _ _ _ _ _ _ _ _ _ _ mN ke hN0 hq0 T0=>
 have nc:=X.ncl k ks C' _ _ ki hmk ke rfl
 exact .mk _ _ _ _ _ _ _ _ _ _ _ _ _ _ _ _ _ _ ke hN0 hq0 T0 (.own ke hN0 (by rw[hN0.eq_nsMap];exact nc C' _ _ aH ke rfl) (Q8 T0 fun A ob je hm=>nc A ob je (aL _ hm)))
  fun j D h1 h2=>X.sub k ks j C' D _ _ ki (by rw[X.same];exact h2) hmk h1 ke rfl
theorem RU.answers{h:Heap}(x:RU P k ks C)(hb:∀ b o,P.B.h₀.get? b=some o->h.get? b=some o){T:Str}{D:Addr}(O:OwnClsQ T D Ei "ValueError.__new__" P.mg P.B.h₀)(ha:(P.B.excs.any fun p=>p.2.contains T)=true)(he:h.get? a=some o)(hc:o.cls=.ref C):Answers (fun s=>s.heap=h) (.ref a) (.ref D) (ks.contains T):=by
 cases x with
 | mk bm N _ _ _ _ _ _ _ _ _ _ _ _ _ _ _ mN hC hN hq T nc hs=>
 cases Va (O.keeps hb) with
 | mk bmD _ _ _ _ _ _ _ _ _ _ _ _ _ _ _ _ hD _ _ _=>
 exact SY (hb _ _ hC) (hN.keeps hb) hq (T.keeps hb) (nc.keeps hb) hD he hc (hs _ _ O.bound ha)
structure YF (cx:Cx) (T:Str):Prop where
 g:cx.isGlob T=true
 a:(cx.excs.any fun p=>p.2.contains T)=true
inductive Oz (cx:Cx):Expr->List Str->Prop
 | own {T:Str} {q:Pos} (o:YF cx T):Oz cx (.Name T q) (taken cx.excs T)
 | two {T U:Str} {q r t:Pos} {k:Nat} (o:YF cx T) (o':YF cx U):Oz cx (.Tuple [.Name T q,.Name U r] k t) (taken cx.excs T++taken cx.excs U)
 | ve {q:Pos} (g:cx.isGlob "ValueError"=true):Oz cx (.Name "ValueError" q) (cx.excs.map (·.1))
theorem Oz.star{e:Expr}(h:Oz cx e ks)(env:Env):starEach [e] env=[(false,eval e env)]:=by
 cases h<;>rfl
theorem YG{e t:Expr}{x:X}{ks:List Str}{p pos:Pos}(hg:cx.isGlob "isinstance"=true)(hT:Oz cx t ks)(hs:∀ env rest,starEach (e :: rest) env=(false,eval e env) :: starEach rest env)(h:As P cx e x):
  As P cx (.Call (.Name "isinstance" p) [e,t] [] pos) (.isx x ks):=by
 intro c n env A Z loc hp s C I hb
 rw[ZA] at hb |-
 rw[Hf]
 have u0:(backTo pos (starEach [e,t] env)).any (·.1)=false:=by
  rw[hs,hT.star];rfl
 refine aA (Fp C I hg Rz (eA u0 (BV u0 ?_)))
 refine bX (DM (G:=fun R v s₁=>wpAny (model P.prog P.w) A (spliced (backTo pos (starEach [t] env))) (fun vs ae=>wpAny (model P.prog P.w) A (call (.builtin "isinstance") ([]++(v :: vs)) []) (QV P Z s R) (QE P Z s R) ae) (QE P Z s R) s₁) (.refl I.st) (h c n env A Z loc hp s C I (Ap hb)) hb ?_) (hs env _)
 intro av ac Z₁ v s₁ aa _ rv hb
 refine xE (EG hb) fun r hr=>?_
 rw[hr]
 obtain⟨j,k,rfl,hj,rfl⟩:=lC hr
 refine Av rv fun ad off A6 e1=>?_;try clear rv;subst A6
 obtain⟨o,C',vs,he,hc,hmk,hd,hkn⟩:=aa.st.obj j ad off _ e1 hj
 rw[<- C.exc.same] at hkn
 refine xE (Option.isSome_iff_exists.mp hkn) fun ca ki=>?_
 have XO:=lD C.exc ki hmk
 have u1:=aa.st.base
 have same:=C.exc.same
 cases hT with
 | @own T q ot=>
  refine xE (C.exc.cat T ot.a) fun D O=>?_
  refine bX (DN C (I.after aa) ot.g O.bound (dL ?_))
  rw[Ij ki]
  have H:=XO.answers u1 O (by rw[<- same];exact ot.a) he hc
  obtain⟨hh,g,d,t,os⟩:=s₁
  exact jP (S:=fun _ R s=>s=⟨hh,g,d,t,os⟩/\∀ k,R (.ok (.ret (.bool (ca.contains T)))) ⟨hh,g,d,k,os⟩) (fun pr w A R s hs=>by
   obtain⟨rfl,hs⟩:=hs
   exact jB (H 0 0 pr w A R _ ⟨rfl,hs⟩) (fun e=>nomatch e)) ⟨rfl,fun tk=>⟨_,_,_,rfl,aa.trans (.tok aa.st tk),rfl⟩⟩
 | @two T U q r t kk o1 o2=>
  refine xE (C.exc.cat T o1.a) fun D O=>?_
  refine xE (C.exc.cat U o2.a) fun D' O'=>?_
  refine bX (wpAny_Tuple (bX (DN C (I.after aa) o1.g O.bound (bX (DN C (I.after aa) o2.g O'.bound (dL ⟨by show 2<=sizeLine;decide,dL ?_⟩)))))) (Oz.star (.two o1 o2) env)
  have u6:(taken cx.excs T++taken cx.excs U).contains k=(ca.contains T||(ca.contains U||false)):=by
   rw[Bool.or_false,<- Ij (j:=T) ki,<- Ij (j:=U) ki]
   simp only[List.contains_eq_mem,dX,Bool.decide_or]
  rw[u6]
  generalize u4:({ cls:=.type "tuple",data:=.seq ([.ref D,.ref D']:List Value).toArray }:Obj)=ot
  have cg:=aa.st.push ot
  have ah:Ai P Z Z₁ [] ac s { s₁ with heap:=s₁.heap.push ot }:=aa.trans ⟨rfl,cg,.push _⟩
  have u3:=cg.base
  have u2:(s₁.heap.push ot).get? ad=some o:=aV _ he
  have H1:=XO.answers u3 O (by rw[<- same];exact o1.a) u2 hc
  have H2:=XO.answers u3 O' (by rw[<- same];exact o2.a) u2 hc
  have u5:(s₁.heap.push ot).get? s₁.heap.objs.size=some ot:=bG _ (by rw[<- u4];rfl)
  have u8:(Value.ref C'==Value.ref s₁.heap.objs.size)=false:=beq_eq_false_iff_ne.mpr fun e=>by
   cases XO with
   | mk bm N _ _ _ _ _ _ _ _ _ _ _ _ _ _ _ mN hC hN hq T nc hs=>
   have:=cX (u1 _ _ hC)
   rw[Value.ref.inj e] at this
   exact fG _ this
  obtain⟨hh,g,d,t,os⟩:=s₁
  refine jP (S:=fun _ R s=>s=⟨hh.push ot,g,d,t,os⟩/\∀ k,R (.ok (.ret (.bool (ca.contains T||(ca.contains U||false))))) ⟨hh.push ot,g,d,k,os⟩) (fun pr w A R s hs=>by
   obtain⟨rfl,hs⟩:=hs
   exact jB (Kw (cs:=[.ref D,.ref D']) (vs:=[ca.contains T,ca.contains U]) (by rw[<- u4] at u5 |-;exact u5) u2 hc u8 ⟨H1,H2,trivial⟩ fun k=>hs k) (fun e=>nomatch e)) ⟨rfl,fun tk=>⟨_,_,_,rfl,ah.trans (.tok ah.st tk),rfl⟩⟩
 | ve hgT=>
  refine bX (Fp C (I.after aa) hgT kR (dL ?_))
  have u7:(cx.excs.map (·.1)).contains k=true:=List.contains_iff_mem.mpr (List.mem_map.mpr ⟨_,Az ki,rfl⟩)
  rw[u7]
  cases XO with
  | mk bm N _ _ _ _ _ _ _ _ _ _ _ _ _ _ _ mN hC hN hq T nc hs=>
  obtain⟨hh,g,d,t,os⟩:=s₁
  exact V5 (fun prog w A E Q tk hq=>LH (u1 _ _ hC) (T.keeps u1) he hc (hq _)) fun tk=>⟨_,_,_,rfl,aa.trans (.tok aa.st tk),rfl⟩
end
end
section
open PySem PySem.Spec PyProof.Rows PySem.SeqAt
noncomputable def FX(env:Env):List Addr:=env.locals :: env.cells.map (·.2)
noncomputable def RF(B:Bs)(h:Heap)(Z:Sg):N3->PySem.Flow->Prop
 | .next,f=>f=.next
 | .ret av,f=>∃ v,f=.ret v/\RV B h Z av v
inductive QS (P:BW) (env:Env) (cx:Cx) (Z:Sg) (s:Shared) (r:SR) (f:PySem.Flow) (s':Shared):Prop
 | mk (fl:N3) (l':Ah) (hp':A0) (Z':Sg) (e:r=.ok fl l' hp') (a:Ai P Z Z' (FX env) hp' s s') (rf:RF P.B s'.heap Z' fl f) (fr:Ev P s'.heap Z' env cx l')
inductive HP (P:BW) (env:Env) (cx:Cx) (Z:Sg) (s:Shared) (r:SR) (v:Value) (s':Shared):Prop
 | mk (k:Str) (l':Ah) (hp':A0) (Z':Sg) (e:Addr) (er:r=.exc k l' hp') (ev:v=.ref e) (a:Ai P Z Z' (FX env) hp' s s') (f:Y3 P Z' s.heap k e s'.heap) (fr:Ev P s'.heap Z' env cx l')
section
variable {P:BW} {cx:Cx} {env:Env} {A:Around} {E:Value->Shared->Prop} {Z:Sg} {l:Ah} {hp:A0} {s:Shared}
theorem Ev.nsObj(f:Ev P s.heap Z env cx l):∃ o es ep,s.heap.get? env.locals=some o/\o.data=.dict es ep:=by
 refine A9 f.names fun m A6 _=>?_;refine B2 A6 fun o es ep ho hd _=>?_
 exact⟨o,es,ep,ho,hd⟩
theorem Ev.cell_ne(f:Ev P s.heap Z env cx l)(hp:p∈env.cells):p.2≠env.locals:=fun e=>by
 refine Av (f.cells p hp) fun o v ho hd=>?_
 refine C4 f.nsObj fun o' es ep gq gm=>?_
 rw[e,gq] at ho
 cases ho
 rw[gm] at hd
 cases hd
theorem VV(f:Ev P s.heap Z env cx l)(hx:cx.slot x=some i):i<l.length:=by rw[f.len];exact f.lt x i hx
theorem HQ(h:cx.slotW x=some i):cx.slot x=some i:=by
 unfold Cx.slotW at h
 rcases hq:cx.sc.names.lookup x with _|k<;>rw[hq] at h
 case none=>exact A2 h
 case some=>cases k<;>first|exact h|exact A2 h
theorem OA{X:List Addr}(S:St P.w P.B Z hp s.heap)(f:Ev P s.heap Z env cx l)(hw:cx.slotW x=some i)(rv:RV P.B s.heap Z av v)(hL:env.kindOf x=some .local->env.locals∈X)(hC:env.kindOf x≠some .local->∀ p∈env.cells,p.2∈X)
  (h:∀ s',Ai P Z Z X hp s s'->Ev P s'.heap Z env cx (l.set i (some av))->(env.kindOf x=some .local->s.toks<=s'.toks/\∃ m,s'.heap.Ns env.locals m/\m x=some v)->Q () s'):wpAny (model P.prog P.w) A (storeName env x v) Q E s:=by
 refine A9 f.names fun m hn hm=>?_
 have hx:=HQ hw
 have u2:=f.wr x i hw
 have u6:=VV f hx
 have u3:∀ y j,cx.slot y=some j->y≠x->(l.set i (some av))[j]?=l[j]?:=fun y j hy u5=>by
  rw[fN]
  intro e;subst e;exact u5 (f.inj y x i hy hx)
 rcases hm x i hx with ⟨hk,_⟩|⟨hk,c,ov,hc,hi,_⟩
 ·refine wpAny_storeName_local hk hn (fun h' hn' hs=>?_) (by rw[f.kind];rfl)
  refine aI fun gj=>?_
  refine C4 f.nsObj fun o es ep ho hd=>?_
  refine C4 (id hn') fun bw _ _ ci _=>?_
  refine xA (S.sameBut (X:=X) hs (fun o' gq=>by rw[ho] at gq;cases gq;unfold BQ;rw[hd];simp) f.out.1 f.new.1 (hL hk) ci) fun S' g=>?_
  refine gj ?_
  have u1:∀ p∈env.cells,h'.get? p.2=s.heap.get? p.2:=fun p hp=>hs.2 p.2 (f.cell_ne hp)
  refine h { s with heap:=h',toks:=s.toks+1 } ⟨rfl,S',g⟩ ⟨f.kind,by rw[jS];exact f.len,f.inj,f.lt,f.glob,f.wr,⟨_,hn',fun y j hy=>?_⟩,f.out,f.new,f.globals,f.builtins,fun p hp=>?_,f.apart,f.kinds⟩ (fun _=>⟨fZ _,_,hn',if_pos rfl⟩)
  ·by_cases hyx:y=x
   ·subst hyx
    rw[hx] at hy;cases hy
    refine .inl ⟨hk,fun av' e=>?_⟩
    rw[fD u6] at e
    cases e
    exact⟨v,by simp,RV.grows g _ _ rv⟩
   ·rw[u3 y j hy hyx]
    rcases hm y j hy with ⟨gk,hv⟩|⟨gk,c,ov,hc,hi,hv⟩
    ·exact .inl ⟨gk,fun av' e=>(hv av' e).imp fun _ q=>⟨by rw[if_neg hyx];exact q.1,RV.grows g _ _ q.2⟩⟩
    ·refine A9 hi fun oc hoc hdc=>?_
     exact .inr ⟨gk,c,ov,hc,⟨oc,(u1 (y,c) (Az hc)).trans hoc,hdc⟩,fun av' e=>(hv av' e).imp fun _ q=>⟨q.1,RV.grows g _ _ q.2⟩⟩
  ·refine Av (f.cells p hp) fun oc vc hoc hdc=>?_
   exact⟨oc,vc,(u1 p hp).trans hoc,hdc⟩
 ·rcases hk with hk|hk
  ·refine wpAny_storeName_cell f.kind hk hc hi fun h' hi' hs=>?_
   have u0:=Az hc
   refine A9 hi fun oc hoc hdc=>?_
   refine A9 (id hi') fun bw ci _=>?_
   refine xA (S.sameBut (X:=X) hs (fun o' gq=>by rw[hoc] at gq;cases gq;unfold BQ;rw[hdc];simp) (f.out.2 _ u0) (f.new.2 _ u0) (hC (fun q=>by rw[hk] at q;cases q) _ u0) ci) fun S' g=>?_
   have u4:h'.get? env.locals=s.heap.get? env.locals:=hs.2 _ (gF (f.cell_ne u0))
   refine B2 hn fun o es ep ho hd jh=>?_
   refine h { s with heap:=h' } ⟨rfl,S',g⟩ ⟨f.kind,by rw[jS];exact f.len,f.inj,f.lt,f.glob,f.wr,⟨m,⟨o,es,ep,u4.trans ho,hd,jh⟩,fun y j hy=>?_⟩,f.out,f.new,f.globals,f.builtins,fun p hp=>?_,f.apart,f.kinds⟩ (fun q=>by rw[hk] at q;cases q)
   ·by_cases hyx:y=x
    ·subst hyx
     rw[hx] at hy;cases hy
     refine .inr ⟨.inl hk,c,some v,hc,hi',fun av' e=>?_⟩
     rw[fD u6] at e
     cases e
     exact⟨v,rfl,RV.grows g _ _ rv⟩
    ·rw[u3 y j hy hyx]
     rcases hm y j hy with ⟨gk,hv⟩|⟨gk,c',ov',hc',dz,hv⟩
     ·exact .inl ⟨gk,fun av' e=>(hv av' e).imp fun _ q=>⟨q.1,RV.grows g _ _ q.2⟩⟩
     ·have u5:c'≠c:=fun e=>hyx (f.apart (y,c') (Az hc') (x,c) u0 e)
      refine A9 dz fun oc' hoc' hdc'=>?_
      exact .inr ⟨gk,c',ov',hc',⟨oc',(hs.2 c' u5).trans hoc',hdc'⟩,fun av' e=>(hv av' e).imp fun _ q=>⟨q.1,RV.grows g _ _ q.2⟩⟩
   ·by_cases e:p.2=c
    ·refine A9 hi' fun o' gq gm=>?_
     exact⟨o',_,e▸gq,gm⟩
    ·refine Av (f.cells p hp) fun oc' vc hoc' hdc'=>?_
     exact⟨oc',vc,(hs.2 p.2 e).trans hoc',hdc'⟩
  ·exact absurd hk u2
theorem Dc(S:St P.w P.B Z hp s.heap)(f:Ev P s.heap Z env cx l)(hw:cx.slotW x=some i)(rv:RV P.B s.heap Z av v)
  (h:∀ s',Ai P Z Z (FX env) hp s s'->Ev P s'.heap Z env cx (l.set i (some av))->(env.kindOf x=some .local->s.toks<=s'.toks/\∃ m,s'.heap.Ns env.locals m/\m x=some v)->Q () s'):wpAny (model P.prog P.w) A (storeName env x v) Q E s:=
 OA S f hw rv (fun _=>aH) (fun _ p hp=>aL _ (cQ hp)) h
end
end
section
open PySem PySem.Spec PyProof.Rows PySem.SeqAt
inductive QT (P:BW) (Z:Sg) (s:Shared) (r:B7 AV) (b:Bool) (s':Shared):Prop
 | mk (hp':A0) (Z':Sg) (e:r=.ok (.bool b) hp') (a:Ai P Z Z' [] hp' s s')
noncomputable def KV(r:B7 AV):Prop:=∀ av h,r=.ok av h->∃ b,av=.bool b
noncomputable def ES(P:BW)(cx:Cx)(e:Expr)(x:X):Prop:=
 ∀ c n env A Z l hp s,ER P cx c n->Inv P cx n c.q env A Z l hp s->A1 c x l hp≠.bad->KV (A1 c x l hp) ->
  wpAny (model P.prog P.w) A (isTrue e env (eval e env)) (QT P Z s (A1 c x l hp)) (QE P Z s (A1 c x l hp)) s
noncomputable def KW(P:BW)(cx:Cx)(op:BoolOp)(es:List Expr)(x:X):Prop:=
 ∀ c n env A Z l hp s,ER P cx c n->Inv P cx n c.q env A Z l hp s->A1 c x l hp≠.bad->KV (A1 c x l hp) ->
  wpAny (model P.prog P.w) A (allTrue op es env) (QT P Z s (A1 c x l hp)) (QE P Z s (A1 c x l hp)) s
section
variable {P:BW} {cx:Cx}
theorem QT.lift(a:Ai P Z Z' [] hp' s s')(q:QT P Z' s' r v s''):QT P Z s r v s'':=by
 obtain⟨hp,am,e,b⟩:=q
 exact⟨hp,am,e,a.trans b⟩
theorem OB (hv : ∀ env whole, isTrue e env whole = (do let v <- whole; standAt e.pos; holding [v] (truthy v))) (h : As P cx e x) : ES P cx e x := by
  intro c n env A Z l hp s C I hb hr
  refine wpAny_isTrue_value (aT (h c n env A Z l hp s C I hb) (fun v s' ⟨av, hp', Z', e, a, rv⟩ => ?_) fun _ _ q => q) (hv env _)
  refine xE (hr av hp' e) fun b A6 => ?_; subst A6
  rcases (show v = .bool b from rv) with rfl
  exact cN ⟨hp', Z', e, a⟩
theorem VW(hx:ES P cx x xx):ES P cx (.UnaryOp .Not x pos) (.not xx):=by
 intro c n env A Z loc hp s C I hb hr
 rw[Kt] at hb hr |-
 have u0:KV (A1 c xx loc hp):=fun av h e=>by
  rw[e,Et] at hb
  exact Ov hb
 refine wpAny_isTrue_Not (aT (hx c n env A Z loc hp s C I (Ap hb) u0) (fun b s' ⟨hp',Z',e,a⟩=>?_) fun _ _ q=>q.bind)
 rw[e]
 exact⟨hp',Z',rfl,a⟩
theorem OC(h:KW P cx op es x):ES P cx (.BoolOp op es pos) x:=by
 intro c n env A Z loc hp s C I hb hr
 exact wpAny_isTrue_BoolOp (h c n env A Z loc hp s C I hb hr)
theorem TT(h:ES P cx e x):KW P cx op [e] x:=by
 intro c n env A Z loc hp s C I hb hr
 have hh:=h c n env A Z loc hp s C I hb hr
 rcases op with _|_
 case And=>
  refine wpAny_allTrue_And_cons (aT hh (fun b s' q=>?_) fun _ _ q=>q)
  rcases b with _|_
  case true=>rw[if_pos rfl];exact wpAny_allTrue_And_nil q
  case false=>exact q
 case Or=>
  refine wpAny_allTrue_Or_cons (aT hh (fun b s' q=>?_) fun _ _ q=>q)
  rcases b with _|_
  case true=>exact q
  case false=>exact wpAny_allTrue_Or_nil q
theorem TU(h:ES P cx e x)(hr:KW P cx .And es y):KW P cx .And (e :: es) (.and x y):=by
 intro c n env A Z loc hp s C I hb kj
 rw[Rw] at hb kj |-
 have u0:KV (A1 c x loc hp):=fun av h e=>by
  rw[e,Et] at hb
  exact Ih hb
 refine wpAny_allTrue_And_cons (aT (h c n env A Z loc hp s C I (Ap hb) u0) (fun b s' ⟨hp',Z',e,a⟩=>?_) fun _ _ q=>q.bind)
 rw[e] at hb kj |-
 rcases b with _|_
 case true=>
  rw[if_pos rfl]
  exact aT (hr c n env A Z' loc hp' s' C (I.after a) hb kj) (fun _ _ q=>q.lift a) (fun _ _ q=>q.lift a)
 case false=>exact⟨hp',Z',rfl,a⟩
theorem VX(h:ES P cx e x)(hr:KW P cx .Or es y):KW P cx .Or (e :: es) (.or x y):=by
 intro c n env A Z loc hp s C I hb kj
 rw[SW] at hb kj |-
 have u0:KV (A1 c x loc hp):=fun av h e=>by
  rw[e,Et] at hb
  exact Ih hb
 refine wpAny_allTrue_Or_cons (aT (h c n env A Z loc hp s C I (Ap hb) u0) (fun b s' ⟨hp',Z',e,a⟩=>?_) fun _ _ q=>q.bind)
 rw[e] at hb kj |-
 rcases b with _|_
 case false=>
  exact aT (hr c n env A Z' loc hp' s' C (I.after a) hb kj) (fun _ _ q=>q.lift a) (fun _ _ q=>q.lift a)
 case true=>exact⟨hp',Z',rfl,a⟩
theorem VY(iu:BZ op=some cop)(hm:behindInMarks op r=false)(hl:As P cx l xl)(hr:As P cx r xr):ES P cx (.Compare l [op] [r] pos) (.cmp cop xl xr):=by
 intro c n env A Z loc hp s C I hb kj
 rw[Ku] at hb kj |-
 refine wpAny_isTrue_Compare1 (DM (G:=fun R a s₁=>wpAny (model P.prog P.w) A (eval r env) (fun b ae=>wpAny (model P.prog P.w) A (compareOp op a b) (fun c aj=>wpAny (model P.prog P.w) A (truthy c) (QT P Z s R) (QE P Z s R) aj) (QE P Z s R) ae) (QE P Z s R) s₁) (.refl I.st) (hl c n env A Z loc hp s C I (Ap hb)) hb ?_) hm
 intro av ac Z₁ v s₁ aa _ rv hb
 refine DM (G:=fun R b ae=>wpAny (model P.prog P.w) A (compareOp op v b) (fun c aj=>wpAny (model P.prog P.w) A (truthy c) (QT P Z s R) (QE P Z s R) aj) (QE P Z s R) ae) aa (hr c n env A Z₁ loc ac s₁ C (I.after aa) (Ap hb)) hb ?_
 intro bv al am u ae ah bb ru hb
 refine xE (EG hb) fun k hc=>?_
 rw[hc]
 refine aT (Fo C.ok ah.st I.ar iu (RV.grows bb.gr _ _ rv) ru hc) (fun w aj q=>?_) (fun _ _ q=>q)
 obtain⟨b,rfl,e,ai⟩:=q
 cases e
 exact cN ⟨_,_,rfl,ah.trans ai⟩
theorem wX:testChain pos v [o1,o2] [a,b]=(do
  let rv <- holding [v] a
  standAt pos
  let c <- holding [v,rv] (compareOp o1 v rv)
  release [v,rv] [c]
  if <- holding [c,rv] (truthy c) then testChain pos rv [o2] [b] else pure false):=rfl
theorem wY:testChain pos v [o] [a]=(do
  let rv <- holding [v] a
  standAt pos
  let c <- operate [v,rv] (compareOp o v rv)
  holding [c] (truthy c)):=rfl
theorem TV(h1:BZ o1=some c1)(h2:BZ o2=some c2)(hm:behindInMarks o2 r=false)(hl:As P cx l xl)(hmm:As P cx m xm)(hr:As P cx r xr):
  ES P cx (.Compare l [o1,o2] [m,r] pos) (.cmp2 c1 c2 xl xm xr):=by
 intro c n env A Z loc hp s C I hb kj
 rw[N5] at hb kj |-
 show wpAny _ _ (eval l env >>= fun a=>testChain pos a [o1,o2] (markedEach [o1,o2] [m,r] (evalEach [m,r] env))) _ _ _
 have u0:markedEach [o1,o2] [m,r] (evalEach [m,r] env)=[eval m env,eval r env]:=by
  show [eval m env,markedBehindIn o2 r (eval r env)]=_
  rw[markedBehindIn_of_false hm]
 rw[u0]
 refine aA (DM (G:=fun R a s₁=>wpAny (model P.prog P.w) A (testChain pos a [o1,o2] [eval m env,eval r env]) (QT P Z s R) (QE P Z s R) s₁) (.refl I.st) (hl c n env A Z loc hp s C I (Ap hb)) hb ?_)
 intro av ac Z₁ v s₁ aa _ rv hb
 have az:=I.after aa
 rw[wX]
 ·refine aA (bD (DM (G:=fun R b ae=>wpAny (model P.prog P.w) A (standAt pos >>= fun _=>holding [v,b] (compareOp o1 v b) >>= fun cc=>release [v,b] [cc] >>= fun _=>holding [cc,b] (truthy cc) >>= fun t=>if t=true then testChain pos b [o2] [eval r env] else pure false) (QT P Z s R) (QE P Z s R) ae) aa (hmm c n env A Z₁ loc ac s₁ C az (Ap hb)) hb ?_))
  intro bv al am u ae ah bb ru hb
  have bh:=I.after ah
  refine xE (Me hb) fun k hc=>?_
  rw[hc] at hb |-
  refine aA (dS (aA (bD (aT (Fo C.ok ah.st I.ar h1 (RV.grows bb.gr _ _ rv) ru hc) (fun w aj q=>?_) (fun _ _ q=>q)))))
  obtain⟨b,rfl,e,ai⟩:=q
  cases e
  refine aA (wpAny_release (aA (bD (cN ?_))))
  rcases k with _|_
  case false=>exact aJ ⟨_,_,rfl,ah.trans ai⟩
  case true=>
   rw[if_pos rfl]
   have cb:=bh.after ai
   rw[wY]
   refine aA (bD (DM (G:=fun R z aq=>wpAny (model P.prog P.w) A (standAt pos >>= fun _=>operate [u,z] (compareOp o2 u z) >>= fun cc=>holding [cc] (truthy cc)) (QT P Z s R) (QE P Z s R) aq) (f:=fun z h=>G6 (B9 h c2 bv z) h) (ah.trans ai) (hr c n env A am loc al aj C cb (Ap hb)) hb ?_))
   intro zv bc ay z aq au cq rz hb
   refine xE (EG hb) fun k2 hc2=>?_
   rw[hc2]
   refine aA (dS (aA (jJ (aT (Fo C.ok au.st I.ar h2 (RV.grows cq.gr _ _ (RV.grows ai.gr _ _ ru)) rz hc2) (fun w ak q=>?_) (fun _ _ q=>q)))))
   obtain⟨b,rfl,e,aw⟩:=q
   cases e
   exact bD (cN ⟨_,_,rfl,au.trans aw⟩)
end
end
section
open PySem PySem.Spec PyProof.Rows
structure Ik (P:BW) (Z:Sg) (h₀:Heap) (k:Str) (e:Addr) (h:Heap):Prop where
 obj:∃ oe vs C T oT ts fl,h.get? e=some oe/\P.mg k=some (.ref C)/\oe.cls=.ref C/\oe.data=.fields vs/\vs[1]?=some (.ref T)/\T≠e/\h.get? T=some oT/\oT.cls=.type "traceback"/\oT.data=.fields ts/\ts[3]?=some fl/\h₀.get? T=none/\T∉Z.map (·.1)
 new:h₀.get? e=none
 out:e∉Z.map (·.1)
theorem Ik.fly(f:Ik P Z h₀ k e h):Y3 P Z h₀ k e h:=by
 refine Ej f.obj fun oe vs C T oT ts fl h1 h2 h3 h4 h5=>?_
 exact⟨⟨oe,vs,C,h1,h2,h3,h4,.inr ⟨T,oT,ts,fl,h5⟩⟩,f.new,f.out⟩
structure Qq (Z:Sg) (h₀:Heap) (Fs D:List Addr) (h h':Heap):Prop where
 new:∀ d∈D,h₀.get? d=none/\d∉Z.map (·.1)/\∀ o,h.get? d=some o->∃ vs,o.data=.fields vs/\o.cls≠.type "range"
 keep:∀ b o,b∉D->h.get? b=some o->(b∉Fs->h'.get? b=some o)/\∃ sl,h'.get? b=some { o with slots:=sl }
 ex:∀ d∈D,∀ o,h.get? d=some o->∃ o',h'.get? d=some o'
theorem Qq.trans(x:Qq Z h₀ Fs D h ax)(y:Qq Z h₀ Fs D' ax bq):Qq Z h₀ Fs (D++D') h bq:=by
 refine⟨fun d hd=>?_,fun b o hb ho=>?_,fun d hd o ho=>?_⟩
 ·rcases List.mem_append.mp hd with h1|h1
  ·exact x.new d h1
  ·refine JZ (y.new d h1) fun a b c=>?_
   refine⟨a,b,fun o ho=>?_⟩
   by_cases hD:d∈D
   ·exact(x.new d hD).2.2 o ho
   ·refine UE (x.keep d o hD ho) fun _ sl e=>?_
    refine A9 (c _ e) fun vs q1 q2=>?_
    exact⟨vs,q1,q2⟩
 ·rw[dX,not_or] at hb
  refine UE (x.keep b o hb.1 ho) fun k1 sl e1=>?_
  refine UE (y.keep b _ hb.2 e1) fun k2 sl2 e2=>?_
  refine⟨fun hF=>?_,sl2,e2⟩
  have t0:=k1 hF
  exact(y.keep b o hb.2 t0).1 hF
 ·by_cases hD:d∈D
  ·refine xE (x.ex d hD o ho) fun o1 e1=>?_
   by_cases hD':d∈D'
   ·exact y.ex d hD' o1 e1
   ·refine UE (y.keep d o1 hD' e1) fun _ sl e2=>?_;exact⟨_,e2⟩
  ·refine UE (x.keep d o hD ho) fun _ sl e1=>?_
   by_cases hD':d∈D'
   ·exact y.ex d hD' _ e1
   ·refine UE (y.keep d _ hD' e1) fun _ sl e2=>?_;exact⟨_,e2⟩
section
variable {P:BW} {A:Around} {E:Value->Shared->Prop} {s s₀:Shared} {Z Z':Sg} {hp':A0} {X:List Addr} {h':Heap} {Fs D:List Addr}
noncomputable def FR(l:List Env):List Addr:=l.filterMap (·.frame)
theorem LI.fun(F:LI P h Z A)(hl:A.frames=some l):h.FunFrames P.B.h₀ l:=by
 have t0:∀ l':List Env,(∀ f∈l',f∈l)->h.FunFrames P.B.h₀ l':=by
  intro l'
  induction l' with
  | nil=>intro _;trivial
  | cons f r ih=>
   intro hs
   refine D8 (F l hl f (hs f (aH ..))) fun hk L o es ep h1 h2 h3 h4 h5=>?_
   exact⟨hk,⟨L,o,h1,h2,h3,fun vs q=>by rw[h4] at q;cases q⟩,ih fun g hg=>hs g (aL _ hg)⟩
 exact t0 l fun _ h=>h
theorem LI.place(F:LI P h Z A)(hl:A.frames=some l)(hb:b∈FR l):P.B.h₀.get? b=none/\b∉Z.map (·.1)/\∃ o es ep,h.get? b=some o/\o.data=.dict es ep:=by
 refine A9 (List.mem_filterMap.mp hb) fun f hf e=>?_
 refine D8 (F l hl f hf) fun hk L o es ep h1 h2 h3 h4 h5=>?_
 rw[h1] at e;cases e
 exact⟨h2,h5,o,es,ep,h3,h4⟩
theorem Qq.fixes(t:Qq Z s₀.heap Fs D s.heap h')(hF:∀ b∈Fs,∃ o es ep,s.heap.get? b=some o/\o.data=.dict es ep):Gp s.heap h':=fun b o ho hf=>by
 have hD:b∉D:=fun hd=>by
  refine A9 ((t.new b hd).2.2 o ho) fun vs h1 h2=>?_
  unfold BQ at hf;rw[h1] at hf;exact h2 hf
 refine(t.keep b o hD ho).1 fun hb=>?_
 refine C4 (hF b hb) fun o' es ep e hd=>?_
 rw[ho] at e;cases e
 unfold BQ at hf;rw[hd] at hf;exact hf
theorem Ai.touch(a:Ai P Z Z' X hp' s₀ s)(hB:P.B.h₀.StaysIn s₀.heap)(t:Qq Z' s₀.heap Fs D s.heap h')(hF:∀ b∈Fs,P.B.h₀.get? b=none/\b∉Z'.map (·.1)/\∃ o es ep,s.heap.get? b=some o/\o.data=.dict es ep):Ai P Z Z' X hp' s₀ { s with heap:=h' }:=by
 have fx:=t.fixes fun b hb=>(hF b hb).2.2
 have u0:∀ p∈Z',h'.get? p.1=s.heap.get? p.1:=fun p hp=>by
  refine A9 (a.st.there hp) fun ob e _=>?_
  have hm:=cQ (f:=(·.1)) hp
  rw[e]
  exact(t.keep p.1 ob (fun hd=>(t.new _ hd).2.1 hm) e).1 fun hb=>(hF _ hb).2.1 hm
 refine⟨by rw[a.ctl],⟨a.st.len,a.st.nd,fun n b off o e1 e2=>(a.st.obj n b off o e1 e2).fixes fx (u0 (b,off) (aX e1)),fun b o e=>?_,a.st.new⟩,?_⟩
 ·have ho:=a.st.base b o e
  refine(t.keep b o (fun hd=>?_) ho).1 fun hb=>?_
  ·have t0:=hB b o e
   rw[(t.new b hd).1] at t0;cases t0
  ·rw[(hF b hb).1] at e;cases e
 ·refine⟨a.gr.ext,fun b o e f=>fx b o (a.gr.fix b o e f) f,fun b o e h1 h2=>?_,fun b o e=>?_⟩
  ·have n:=a.gr.oth b o e h1 h2
   refine BT n.get fun o' e' _ gm _=>?_
   have hD:b∉D:=fun hd=>by rw[(t.new b hd).1] at e;cases e
   refine n.trans e' ?_
   refine UE (t.keep b o' hD e') fun k1 sl k2=>?_
   by_cases hb:b∈Fs
   ·refine C4 ((hF b hb).2.2) fun o2 es ep e2 hd2=>?_
    rw[e'] at e2;cases e2
    exact .inr ⟨⟨es,ep,hd2⟩,sl,k2⟩
   ·exact .inl (k1 hb)
  ·refine xE (a.gr.ex b o e) fun o' e'=>?_
   have hD:b∉D:=fun hd=>by rw[(t.new b hd).1] at e;cases e
   refine UE (t.keep b o' hD e') fun _ sl k2=>?_
   exact⟨_,k2⟩
theorem Ev.touch(f:Ev P s.heap Z' env cx l)(t:Qq Z' s₀.heap Fs D s.heap h')(hF:∀ b∈Fs,∃ o es ep,s.heap.get? b=some o/\o.data=.dict es ep)(hL:env.locals∉D)(hC:∀ p∈env.cells,p.2∉D):Ev P h' Z' env cx l:=by
 have fx:=t.fixes hF
 refine A9 f.names fun m hn hm=>?_
 have u0:∀ b o,b∉D->s.heap.get? b=some o->HG o (h'.get? b):=fun b o hb ho=>by
  refine UE (t.keep b o hb ho) fun k1 sl k2=>?_
  by_cases hf:b∈Fs
  ·refine C4 (hF b hf) fun o2 es ep e2 hd2=>?_
   rw[ho] at e2;cases e2
   exact .inr ⟨⟨es,ep,hd2⟩,sl,k2⟩
  ·exact .inl (k1 hf)
 refine⟨f.kind,f.len,f.inj,f.lt,f.glob,f.wr,⟨m,I8 hn fun o ho=>u0 _ o hL ho,fun x i hx=>?_⟩,f.out,f.new,f.globals,f.builtins,fun p hp=>?_,f.apart,f.kinds⟩
 ·rcases hm x i hx with ⟨hk,hv⟩|⟨hk,c,ov,hc,hi,hv⟩
  ·exact .inl ⟨hk,fun av e=>(hv av e).imp fun _ q=>⟨q.1,RV.fixes fx _ _ q.2⟩⟩
  ·exact .inr ⟨hk,c,ov,hc,M3 hi fun o ho=>u0 _ o (hC (x,c) (Az hc)) ho,fun av e=>(hv av e).imp fun _ q=>⟨q.1,RV.fixes fx _ _ q.2⟩⟩
 ·refine Av (f.cells p hp) fun o v ho hd=>?_
  refine BT ((u0 _ o (hC p hp) ho).get) fun o' e _ gm _=>?_
  exact⟨o',v,e,gm.trans hd⟩
theorem Mh (gu : A.frames = some (env :: gd)) (F : LI P s.heap Z A) (hf : env.frame = some L)
    (cf : ∀ b, s.heap.get? b = none -> h₀.get? b = none) (hZ : ∀ p ∈ Z, s.heap.get? p.1 ≠ none) (he : s.heap.get? e = some oe) (hg : P.mg k = some (.ref C)) (hc : oe.cls = .ref C) (hd : oe.data = .fields vs) (gh : 1 < vs.size) (h0 : h₀.get? e = none) (hout : e ∉ Z.map (·.1))
    (hQ : ∀ h', Qq Z h₀ (FR (env :: gd)) [e] s.heap h' -> Ik P Z h₀ k e h' -> Q () { s with heap := h' }) :
    wpAny (model P.prog P.w) A (do let a <- frameOf env; let pl <- entryPlaceOf L hadNext; let b <- EntryCells.newEntry head a .none (rawInt L) .none pl; setField (.ref e) 1 b) Q E s := by
  have u2 : e ∉ FR (env :: gd) := fun hm => by
    refine XN (F.place gu hm) fun _ _ o es ep ho hq => ?_
    rw [he] at ho; cases ho; rw [hd] at hq; cases hq
  refine aA (wpAny_frameOf_fun gu (F.fun gu) hf fun ax cm => ?_)
  refine aA (wpAny_entryPlaceOf fun pl hpl => ?_)
  unfold EntryCells.newEntry newFields
  refine aA (fJ ?_ (hpl.sizeOk5 _ _ _ _ _))
  have u5 : ax.get? e = some oe := (cm.2.1 e u2).trans he
  generalize hT : ({ cls := .type "traceback", dict := none, data := .fields ([head, .ref L, .none, rawInt L, .none] ++ (if pl.isEmpty then List.replicate 6 Value.none else pl)).toArray } : Obj) = oT
  have u3 := aV (h := ax) oT u5
  refine gC u3 hd gh (hQ _ ?_ ?_)
  . refine ⟨fun d hm => ?_, fun b o hb ho => ?_, fun d hm o ho => ?_⟩
    . rcases List.mem_singleton.mp hm with rfl
      exact ⟨h0, hout, fun o ho => by rw [he] at ho; cases ho; exact ⟨vs, hd, by rw [hc]; exact fun q => nomatch q⟩⟩
    . have u6 : b ≠ e := fun q => hb (by rw [q]; exact List.mem_singleton.mpr rfl)
      refine xE (cm.2.2 b o ho) fun sl e1 => ?_
      have up : ∀ o', ax.get? b = some o' -> ((ax.push oT).update e (Obj.mapFields (·.setIfInBounds 1 (Value.ref ax.objs.size)))).get? b = some o' := fun o' h' => by
        rw [dZ _ _ (gF u6)]; exact aV _ h'
      exact ⟨fun hF => up o ((cm.2.1 b hF).trans ho), sl, up _ e1⟩
    . rcases List.mem_singleton.mp hm with rfl
      have u1 := dD hd (·.setIfInBounds 1 (Value.ref ax.objs.size))
      exact ⟨_, bR _ u3 (dO u1)⟩
  . have u4 : ax.objs.size ≠ e := gG (cX u5)
    have u1 := dD hd (·.setIfInBounds 1 (Value.ref ax.objs.size))
    have u0 : s.heap.get? ax.objs.size = none := eZ (by rw [cm.1]; exact aS _)
    refine ⟨⟨_, _, C, ax.objs.size, oT, ([head, .ref L, .none, rawInt L, .none] ++ (if pl.isEmpty then List.replicate 6 Value.none else pl)).toArray, rawInt L, bR _ u3 (dO u1), hg, (iO _ _).trans hc, u1, by simp [gh], u4, ?_, by rw [<- hT], by rw [<- hT], by simp, cf _ u0, fun hm => ?_⟩, h0, hout⟩
    . rw [dZ _ _ (gF u4)]; exact bG ax (by rw [<- hT]; rfl)
    . refine A9 (List.mem_map.mp hm) fun p hp e => ?_
      exact hZ p hp (by rw [e]; exact u0)
theorem KX(gu:A.frames=some (env :: gd))(F:LI P s.heap Z A)(hf:env.frame=some L)
  (cf:∀ b,s.heap.get? b=none->h₀.get? b=none) (hZ:∀ p∈Z,s.heap.get? p.1≠none) (fl:Y3 P Z h₀ k e s.heap)
  (hQ:∀ h' D,Qq Z h₀ (FR (env :: gd)) D s.heap h'->Ik P Z h₀ k e h'->Q () { s with heap:=h' }):wpAny (model P.prog P.w) A (noteFrame (.ref e) env) Q E s:=by
 refine Dq fl.obj fun oe vs C he hg hc hd ht=>?_
 unfold noteFrame
 simp only[hf]
 rcases ht with h1|⟨T,oT,ts,fv,h1,hTe,hT,hcT,jw,h3,hnT,hoT⟩
 ·refine aA (gT he hd h1 ?_)
  rw[if_neg (by decide)]
  exact Mh gu F hf cf hZ he hg hc hd (Array.getElem?_eq_some_iff.mp h1).1 fl.new fl.out fun h' t ft=>hQ h' [e] t ft
 ·refine aA (gT he hd h1 ?_)
  rw[if_pos (show (Value.ref T != Value.none)=true from by simp)]
  refine aA (gT hT jw h3 ?_)
  by_cases hv:(fv==rawInt L)=true
  ·rw[if_pos hv]
   exact aJ (hQ s.heap [] ⟨(fun d hm=>nomatch hm),(fun b o _ ho=>⟨fun _=>ho,o.slots,ho⟩),(fun d hm=>nomatch hm)⟩ ⟨⟨oe,vs,C,T,oT,ts,fv,he,hg,hc,hd,h1,hTe,hT,hcT,jw,h3,hnT,hoT⟩,fl.new,fl.out⟩)
  ·rw[if_neg hv]
   refine aA (gC hT jw (Array.getElem?_eq_some_iff.mp h3).1 ?_)
   have u0:∀ b,b≠T->(s.heap.update T (Obj.mapFields (·.setIfInBounds 3 Value.none))).get? b=s.heap.get? b:=fun b hb=>dZ _ _ (gF hb)
   have u2:(s.heap.update T (Obj.mapFields (·.setIfInBounds 3 Value.none))).get? T=some (oT.mapFields (·.setIfInBounds 3 Value.none)):=bR _ hT (dO (dD jw _))
   have t1:Qq Z h₀ (FR (env :: gd)) [T] s.heap (s.heap.update T (Obj.mapFields (·.setIfInBounds 3 Value.none))):=by
    refine⟨fun d hm=>?_,fun b o hb ho=>?_,fun d hm o ho=>?_⟩
    ·rcases List.mem_singleton.mp hm with rfl
     exact⟨hnT,hoT,fun o ho=>by rw[hT] at ho;cases ho;exact⟨ts,jw,by rw[hcT];exact fun q=>absurd (Value.type.inj q) (by decide)⟩⟩
    ·have u1:b≠T:=fun q=>hb (by rw[q];exact List.mem_singleton.mpr rfl)
     exact⟨fun _=>(u0 b u1).trans ho,o.slots,(u0 b u1).trans ho⟩
    ·rcases List.mem_singleton.mp hm with rfl
     exact⟨_,u2⟩
   have u3:∀ b o es ep,s.heap.get? b=some o->o.data=.dict es ep->b≠T:=fun b o es ep ho hq q=>by
    rw[q,hT] at ho;cases ho;rw[jw] at hq;cases hq
   refine Mh (s:={ s with heap:=s.heap.update T (Obj.mapFields (·.setIfInBounds 3 Value.none)) }) gu ?_ hf ?_ ?_ ((u0 e (gF hTe)).trans he) hg hc hd (Array.getElem?_eq_some_iff.mp h1).1 fl.new fl.out fun h' t ft=>?_
   ·intro l hl f hm
    refine D8 (F l hl f hm) fun hk L' o es ep q1 q2 q3 q4 q5=>?_
    exact⟨hk,L',o,es,ep,q1,q2,(u0 L' (u3 L' o es ep q3 q4)).trans q3,q4,q5⟩
   ·intro b hb
    by_cases q:b=T
    ·subst q;exact hnT
    ·exact cf b ((u0 b q).symm.trans hb)
   ·intro p hp hb
    by_cases q:p.1=T
    ·exact hoT (q▸cQ hp)
    ·exact hZ p hp ((u0 _ q).symm.trans hb)
   ·exact hQ h' _ (t1.trans t) ft
theorem FS(fl:Ik P Z h₀ k e s.heap)(hQ:∀ h' D,Qq Z h₀ Fs D s.heap h'->Ik P Z h₀ k e h'->Q () { s with heap:=h' }):wpAny (model P.prog P.w) A (setFlight (.ref e) fr) Q E s:=by
 refine DV fl.obj fun oe vs C T oT ts fv he hg hc hd h1 A6=>?_;refine JE A6 fun hTe hT hcT jw h3 hnT hoT=>?_
 unfold setFlight
 refine aA (gT he hd h1 ?_)
 rw[if_pos (show (Value.ref T != Value.none)=true from by simp)]
 have u0:3<ts.size:=(Array.getElem?_eq_some_iff.mp h3).1
 refine gC hT jw u0 (hQ _ [T] ?_ ?_)
 ·refine⟨fun d hm=>?_,fun b o hb ho=>?_,fun d hm o ho=>?_⟩
  ·rcases List.mem_singleton.mp hm with rfl
   exact⟨hnT,hoT,fun o ho=>by rw[hT] at ho;cases ho;exact⟨ts,jw,by rw[hcT];exact fun q=>absurd (Value.type.inj q) (by decide)⟩⟩
  ·have u1:b≠T:=fun q=>hb (by rw[q];exact List.mem_singleton.mpr rfl)
   have t0:=(dZ s.heap (Obj.mapFields (·.setIfInBounds 3 (fr.elim Value.none fun f=>rawInt f))) (gF u1)).trans ho
   exact⟨fun _=>t0,o.slots,t0⟩
  ·rcases List.mem_singleton.mp hm with rfl
   exact⟨_,bR _ hT (dO (dD jw _))⟩
 ·refine⟨⟨oe,vs,C,T,_,_,(fr.elim Value.none fun f=>rawInt f),(dZ _ _ hTe).trans he,hg,hc,hd,h1,hTe,bR _ hT (dO (dD jw _)),(iO _ _).trans hcT,dD jw _,by simp[u0],hnT,hoT⟩,fl.new,fl.out⟩
theorem Mi(gu:A.frames=some (env :: gd))(F:LI P s.heap Z A)(hf:env.frame=some L)
  (cf:∀ b,s.heap.get? b=none->h₀.get? b=none) (hZ:∀ p∈Z,s.heap.get? p.1≠none) (fl:Y3 P Z h₀ k e s.heap)
  (hQ:∀ h' D,Qq Z h₀ (FR (env :: gd)) D s.heap h'->Ik P Z h₀ k e h'->Q () { s with heap:=h' }):wpAny (model P.prog P.w) A (noteFrame (.ref e) env) (fun _ ae=>wpAny (model P.prog P.w) A (setFlight (.ref e) fr) Q E ae) E s:=
 KX gu F hf cf hZ fl fun h' D t ft=>FS (s:={ s with heap:=h' }) ft fun h'' D' t' ft'=>hQ h'' _ (t.trans t') ft'
theorem VZ(fl:Ik P Z h₀ k e s.heap)(hQ:∀ h' D,Qq Z h₀ Fs D s.heap h'->Ik P Z h₀ k e h'->E (.ref e) { s with heap:=h' }):cameBackBy (model P.prog P.w) A env E (.ref e) s:=by
 refine DV fl.obj fun oe vs C T oT ts fv he hg hc hd h1 r=>?_
 unfold cameBackBy
 refine aA (gT he hd h1 ?_)
 rw[if_neg (show ¬ (Value.ref T==Value.none)=true from by simp)]
 exact FS fl hQ
theorem RW(a:Ai P Z Z' X hp' s₀ s):(∀ b,s.heap.get? b=none->s₀.heap.get? b=none)/\∀ p∈Z',s.heap.get? p.1≠none:=
 ⟨fun b hb=>DK a.gr hb,fun p hp=>by refine A9 (a.st.there hp) fun o e _=>?_;rw[e];exact fun q=>nomatch q⟩
end
end
section
open PySem PySem.Spec PyProof.Rows PySem.SeqAt
structure Gd (P:BW) (cx:Cx) (n:Nat) (q:Bool) (env:Env) (A:Around) (Z:Sg) (l:Ah) (hp:A0) (s:Shared):Prop extends Inv P cx n q env A Z l hp s where
 top:∃ gd,A.frames=some (env :: gd)
 own:env.frame=some env.locals
noncomputable def Cm(P:BW)(cx:Cx)(st:Stmt)(x:S):Prop:=
 ∀ c n env A Z l hp s,ER P cx c n->Gd P cx n c.q env A Z l hp s->AQ c x l hp≠.bad ->
  wpAny (model P.prog P.w) A (exec st env) (QS P env cx Z s (AQ c x l hp)) (HP P env cx Z s (AQ c x l hp)) s
noncomputable def Gx(P:BW)(cx:Cx)(st:List Stmt)(x:Ss):Prop:=
 ∀ c n env A Z l hp s,ER P cx c n->Gd P cx n c.q env A Z l hp s->execSs c x l hp≠.bad ->
  wpAny (model P.prog P.w) A (execs st env) (QS P env cx Z s (execSs c x l hp)) (HP P env cx Z s (execSs c x l hp)) s
section
variable {P:BW} {cx:Cx} {env:Env} {A:Around} {Z Z':Sg} {l l':Ah} {hp hp':A0} {s s':Shared} {n:Nat} {q:Bool}
theorem LI.afterX(F:LI P s.heap Z A)(g:AN Z Z' (FX env) s.heap s'.heap)(f:Ev P s.heap Z env cx l)(f':Ev P s'.heap Z' env cx l'):LI P s'.heap Z' A:=fun fr hl e hm=>by
 refine D8 (F fr hl e hm) fun hk L o es ep h1 h2 h3 h4 h5=>?_
 by_cases hL:L=env.locals
 ·refine C4 f'.nsObj fun o' kf il gq gm=>?_
  exact⟨hk,L,o',kf,il,h1,h2,hL▸gq,gm,Bo g h3 h5⟩
 ·have hX:L∉FX env:=fun hx=>by
   rcases List.mem_cons.mp hx with q|hx
   ·exact hL q
   ·refine A9 (List.mem_map.mp hx) fun p hp q=>?_
    refine Av (f.cells p hp) fun o' v gq gm=>?_
    rw[q,h3] at gq;cases gq;rw[h4] at gm;cases gm
  refine BT ((g.oth L o h3 h5 hX).get) fun o' e' _ gm _=>?_
  exact⟨hk,L,o',es,ep,h1,h2,e',gm.trans h4,Bo g h3 h5⟩
theorem Gd.afterX(I:Gd P cx n q env A Z l hp s)(a:Ai P Z Z' (FX env) hp' s s')(f:Ev P s'.heap Z' env cx l'):Gd P cx n q env A Z' l' hp' s':=⟨⟨a.st,f,I.ar,I.fs.afterX a.gr I.fr f,I.tp⟩,I.top,I.own⟩
theorem Gd.after(I:Gd P cx n q env A Z l hp s)(a:Ai P Z Z' [] hp' s s'):Gd P cx n q env A Z' l hp' s':=⟨I.toInv.after a,I.top,I.own⟩
theorem QS.lift(a:Ai P Z Z' (FX env) hp' s s')(q:QS P env cx Z' s' r f s''):QS P env cx Z s r f s'':=by
 obtain⟨fl,l',h2,am,e,b,rf,fr⟩:=q
 exact⟨fl,l',h2,am,e,a.trans b,rf,fr⟩
theorem HP.lift(a:Ai P Z Z' (FX env) hp' s s')(q:HP P env cx Z' s' r v s''):HP P env cx Z s r v s'':=by
 obtain⟨k,l',h2,am,e,er,ev,b,fl,fr⟩:=q
 exact⟨k,l',h2,am,e,er,ev,a.trans b,fl.lift a.gr,fr⟩
theorem Ai.toX{X:List Addr}(a:Ai P Z Z' [] hp' s s'):Ai P Z Z' X hp' s s':=a.more fun _ h=>nomatch h
theorem EH{α:Type}{r:B7 α}{f:α->A0->SR}(h:r.st l f≠.bad):r≠.bad:=fun e=>h (by rw[e];rfl)
theorem RX{r:SR}(h:r.turn f≠.bad):r≠.bad:=fun e=>h (by rw[e];rfl)
theorem W0(hb:Ho v x y≠.bad):∃ b,v=.bool b:=by
 rcases v with _|_<;>first|exact absurd rfl hb|exact⟨_,rfl⟩
theorem W1{x y:AV->A0->SR}(hb:(r.st l fun v h=>Ho v (x v h) (y v h))≠.bad):KV r:=fun av h e=>by
 rw[e] at hb
 exact W0 hb
theorem QE.st{α:Type}{r:B7 α}{f:α->A0->SR}(fr:Ev P s.heap Z env cx l)(q:QE P Z s r v s''):HP P env cx Z s (r.st l f) v s'':=by
 obtain⟨k,h2,am,e,er,ev,b,fl⟩:=q
 exact⟨k,l,h2,am,e,by rw[er];rfl,ev,b.toX,fl,fr.after b⟩
theorem LM{m:Sem Value}{r:B7 AV}{G:SR->Value->Shared->Prop}(bx:Ai P bz Z [] fu s₀ s)(eu:Ev P s.heap Z env cx l)
  (h:wpAny (model P.prog P.w) A m (QV P Z s r) (QE P Z s r) s) (hb:r.st l f≠.bad)
  (hk:∀ av hp' Z' v s',Ai P Z Z' [] hp' s s'->RV P.B s'.heap Z' av v->f av hp'≠.bad->G (f av hp') v s') :
  wpAny (model P.prog P.w) A m (G (r.st l f)) (HP P env cx bz s₀ (r.st l f)) s:=
 aT h (fun v s' ⟨av,hp',Z',e,a,rv⟩=>by subst e;exact hk av hp' Z' v s' a rv hb) (fun _ _ q=>(q.st eu).lift bx.toX)
theorem TX(I:Inv P cx n q env A Z l hp s):interactive env=false:=by
 unfold interactive;rw[I.fr.kind];rfl
theorem EI(h:D9 e=false):swapsWith e t k env=pure false:=by
 unfold swapsWith
 rcases e with _|_<;>first|rfl|(cases h;done)
theorem Qr{x:X}{pos:Pos}(hc:D9 e=false)(h:As P cx e x):Cm P cx (.Expr e pos) (.expr x):=by
 intro c n env A Z l hp s C I hb
 rw[PX] at hb |-
 refine wpAny_Expr_any (LM (G:=fun R v s'=>QS P env cx Z s R .next s') (.refl I.st) I.fr (h c n env A Z l hp s C I.toInv (EH hb)) hb ?_) (TX I.toInv) (EI hc)
 intro av hp' Z' v s' a rv hb
 exact⟨_,_,_,_,rfl,a.toX,rfl,I.fr.after a⟩
theorem TY{x:X}{pos:Pos}(h:As P cx e x):Cm P cx (.Return (some e) pos) (.ret x):=by
 intro c n env A Z l hp s C I hb
 rw[Hp] at hb |-
 refine wpAny_Return_some (LM (G:=fun R v s'=>QS P env cx Z s R (.ret v) s') (.refl I.st) I.fr (h c n env A Z l hp s C I.toInv (EH hb)) hb ?_)
 intro av hp' Z' v s' a rv hb
 exact⟨_,_,_,_,rfl,a.toX,⟨v,rfl,rv⟩,I.fr.after a⟩
theorem TZ{x:X}{p pos:Pos}(hw:cx.slotW y=some i)(hc:D9 e=false)(h:As P cx e x):Cm P cx (.Assign [.Name y p] e pos) (.asg i x):=by
 intro c n env A Z l hp s C I hb
 rw[I6] at hb |-
 refine iN (LM (G:=fun R v s'=>wpAny (model P.prog P.w) A (storeName env y v) (fun _=>QS P env cx Z s R .next) (HP P env cx Z s R) s') (.refl I.st) I.fr (h c n env A Z l hp s C I.toInv (EH hb)) hb ?_) (EI hc)
 intro av hp' Z' v s' a rv hb
 refine Dc a.st (I.fr.after a) hw rv fun s'' a2 fr _=>?_
 exact⟨_,_,_,_,rfl,a.toX.trans a2,rfl,fr⟩
theorem RVs.set{B:Bs}{h:Heap}{x:AV}{w:Value}(r:RV B h Z x w):∀ {xs:List AV} {vs:List Value},RVs B h Z xs vs->∀ i,RVs B h Z (xs.set i x) (vs.set i w)
 | [],[],_,_=>trivial
 | _ :: _,_ :: _,q,0=>⟨r,q.2⟩
 | _ :: _,_ :: _,q,i+1=>⟨q.1,RVs.set r q.2 i⟩
theorem YH{n:Nat}{xs:List AV}{v:AV}{k:AV}{h':A0}(h:US hp n xs v (Ds k)=some h'):∃ i:Nat,k=.int i/\i<xs.length/\h'=hp.set n (.list (xs.set i v)):=by
 refine aI fun gj=>?_
 refine A9 (Option.bind_eq_some_iff.mp h) fun i h1 h2=>?_
 refine xA (Cr h2) fun h3 h4=>?_
 refine xE (fA h3.1) fun m e=>?_
 refine gj ?_
 subst e
 exact⟨m,Gs h1,Int.ofNat_lt.mp h3.2,(Option.some.inj h4).symm⟩
theorem Qs{l:Addr}{ws:Array Value}{k:Int}{t:Tok}{v:Value}{E:Value->Shared->Prop}{Q:Unit->Shared->Prop}(hl:IsL s.heap l ws m)
  (h0:0<=k) (hfit:k<2 ^ 63) (hn:k<ws.size) (hQ:Q () { s with heap:=s.heap.update l (Obj.mapSeq (·.setIfInBounds k.toNat v)) }) :
  wpAny (model P.prog P.w) A (setItem (.ref l) (.int k t) v) Q E s:=by
 have hT:s.TypeIs (.ref l) "list":=⟨_,hl,rfl⟩
 unfold setItem
 try with_reducible refine bD ?_
 first|refine aA (aJ ?_)|skip
 refine aA (iM hT (by decide) ?_)
 refine aA (dT (name:=Str.ofString "__setitem__") hT slot_list_setitem
  (cJ slot_list_setitem hT entry_list_setitem ?_ (args_list_setitem _ _ _)))
 show wpAny _ _ (Builtin.List.listSubscript? (.int k t) >>= _) _ _ s
 refine aA (wpAny_listSubscript_int (fitsIndex_of h0 hfit) ?_)
 clear hfit
 refine xE (fA h0) fun j e=>?_
 subst e
 have hj:j<ws.size:=by exact bA.1 hn
 have u0:ws[j]?=some ws[j]:=bW hj
 show wpAny _ _ ((seqItemAt l j >>= fun r=>pure (r.map (j,·))) >>= _) _ _ s
 refine aA (aA (wpAny_seqItemAt hl rfl (aJ ?_)))
 rw[u0]
 show wpAny _ _ (setSeqItemAt l j v >>= _) _ _ s
 refine aA (wpAny_setSeqItemAt hl rfl ?_)
 first
  | exact aA (aJ (aJ ⟨.none,rfl,aJ hQ⟩))
  | exact aJ ⟨.none,rfl,aJ hQ⟩
theorem Np(S:St P.w P.B Z hp s.heap){j:Nat}{xs:List AV}{a:Addr}{off:Nat}(hj:hp[j]?=some (.list xs))(e1:Z[j]?=some (a,off)){k x:AV}{u v:Value}(ru:RV P.B s.heap Z k u)(rx:RV P.B s.heap Z x v)(hset:US hp j xs x (Ds k)=some hp'){Q:Unit->Shared->Prop}
  (h:∀ s',Ai P Z Z [] hp' s s'->Q () s'):wpAny (model P.prog P.w) A (setItem (.ref a) u v) Q E s:=by
 refine F5 (YH hset) fun i e2 hi e3=>?_
 subst e2;subst e3
 refine xE ru fun t e2=>?_
 subst e2
 refine Av (S.isL hj e1) fun ws n hl r=>?_
 have u1:=r.size
 have u0:=KJ (S.isLen hj e1)
 have u2:Heap.SameBut a s.heap (s.heap.update a (Obj.mapSeq fun xs=>xs.setIfInBounds i v)):=.update ..
 refine Qs hl (aQ i) (jH (Int.ofNat_lt.mpr hi) u0) (Int.ofNat_lt.mpr (u1▸hi)) (h _ ?_)
 refine xA (S.upd (X:=[]) e1 u2.extBut (.list (xs.set i x)) (IsL.update hl _) fun g=>
  ⟨ws.setIfInBounds i v,_,IsL.update hl _,by
   rw[Array.toList_setIfInBounds]
   exact RVs.set (RV.grows g _ _ rx) (RVs.grows g _ _ r) i,by rw[jS];exact S.isLen hj e1⟩) fun S' g=>?_
 exact⟨rfl,S',g⟩
theorem Nq(S:St P.w P.B Z hp s.heap)(ar:E5 n q A)(ro:RV P.B s.heap Z o v)(rk:RV P.B s.heap Z k u)(rx:RV P.B s.heap Z x w)(h:C7 o k x hp=some hp')
  (hq:∀ s',Ai P Z Z [] hp' s s'->Q () s'):wpAny (model P.prog P.w) A (setItem v u w) Q E s:=by
 rcases o with _|_
 case loc j=>
  refine Av ro fun a off A6 e1=>?_;try clear ro;subst A6
  delta C7 at h
  dsimp only at h
  rcases hj:hp[j]? with _|ob
  case none=>rw[hj] at h;exact A2 h
  case some=>
   rw[hj] at h
   rcases ob with _|_
   case list xs=>exact Np S hj e1 rk rx h hq
   case dict kvs ep=>
    refine BT (RQ h) fun key hkey ic gh A6=>?_;subst A6
    rw[HN hkey] at rk
    exact Ng S hj e1 rk ic (by have t0:=ar.units;exact mX t0) gh rx hq
   all_goals exact A2 h
 all_goals exact A2 h
theorem Qt{a:Str}{p pos:Pos}(ha:cx.attrs.contains a=true)(hc:D9 e=false)(ho:As P cx o xo)(h:As P cx e x):Cm P cx (.Assign [.Attribute o a p] e pos) (.setattr a xo x):=by
 intro c n env A Z l hp s C I hb
 rw[UW] at hb |-
 refine plainObj_wpAny_Assign_Attribute (LM (G:=fun R v s₁=>wpAny (model P.prog P.w) A (eval o env) (fun ov ae=>wpAny (model P.prog P.w) A (setAttr ov a v) (fun _=>QS P env cx Z s R .next) (HP P env cx Z s R) ae) (HP P env cx Z s R) s₁) (.refl I.st) I.fr (h c n env A Z l hp s C I.toInv (EH hb)) hb ?_) (EI hc)
 intro av ac Z₁ v s₁ aa rv hb
 have az:=I.after aa
 refine LM (G:=fun R ov ae=>wpAny (model P.prog P.w) A (setAttr ov a v) (fun _=>QS P env cx Z s R .next) (HP P env cx Z s R) ae) aa az.fr (ho c n env A Z₁ l ac s₁ C az.toInv (EH hb)) hb ?_
 intro ov al am u ae ah ru hb
 rcases hset:Fn a ov av al with _|bo
 case none=>rw[hset] at hb;exact absurd rfl hb
 case some=>
  refine Nn C.ok ah.st (C.attrs▸ha) ru (RV.grows ah.gr _ _ rv) hset fun aj ai=>?_
  have a:=(aa.trans ah).trans ai
  exact⟨_,_,_,_,rfl,a.toX,rfl,I.fr.after a⟩
theorem U0{xo xk x:X}{p pos:Pos}(hc:D9 e=false)(ho:As P cx o xo)(hk:As P cx k xk)(h:As P cx e x):Cm P cx (.Assign [.Subscript o k p] e pos) (.setitem xo xk x):=by
 intro c n env A Z l hp s C I hb
 rw[Zy] at hb |-
 refine wpAny_Assign_Subscript (LM (G:=fun R v s₁=>wpAny (model P.prog P.w) A (eval o env) (fun ov ae=>wpAny (model P.prog P.w) A (eval k env) (fun iv aj=>wpAny (model P.prog P.w) A (setItem ov iv v) (fun _=>QS P env cx Z s R .next) (HP P env cx Z s R) aj) (HP P env cx Z s R) ae) (HP P env cx Z s R) s₁) (.refl I.st) I.fr (h c n env A Z l hp s C I.toInv (EH hb)) hb ?_) (EI hc)
 intro av ac Z₁ v s₁ aa rv hb
 have az:=I.after aa
 refine LM (G:=fun R ov ae=>wpAny (model P.prog P.w) A (eval k env) (fun iv aj=>wpAny (model P.prog P.w) A (setItem ov iv v) (fun _=>QS P env cx Z s R .next) (HP P env cx Z s R) aj) (HP P env cx Z s R) ae) aa az.fr (ho c n env A Z₁ l ac s₁ C az.toInv (EH hb)) hb ?_
 intro ov al am u ae ah ru hb
 have bh:=az.after ah
 refine LM (G:=fun R iv aj=>wpAny (model P.prog P.w) A (setItem u iv v) (fun _=>QS P env cx Z s R .next) (HP P env cx Z s R) aj) (aa.trans ah) bh.fr (hk c n env A am l al ae C bh.toInv (EH hb)) hb ?_
 intro kv bo br w aj ai iz hb
 rcases hset:C7 ov kv av bo with _|bc
 case none=>rw[hset] at hb;exact absurd rfl hb
 case some=>
  refine Nq ai.st I.ar (RV.grows ai.gr _ _ ru) iz (RV.grows ai.gr _ _ (RV.grows ah.gr _ _ rv)) hset fun aq au=>?_
  have a:=((aa.trans ah).trans ai).trans au
  exact⟨_,_,_,_,rfl,a.toX,rfl,I.fr.after a⟩
theorem W2{x:X}{b o:List Stmt}{xb xo:Ss}{pos:Pos}(ht:ES P cx t x)(hb:Gx P cx b xb)(ho:Gx P cx o xo):Cm P cx (.If t b o pos) (.iff x xb xo):=by
 intro c n env A Z l hp s C I jv
 rw[Hq] at jv |-
 refine wpAny_If (aT (ht c n env A Z l hp s C I.toInv (EH jv) (W1 jv)) (fun k s' ⟨hp',Z',e,a⟩=>?_) fun _ _ q=>q.st I.fr)
 rw[e] at jv |-
 have I':=I.after a
 rcases k with _|_
 case true=>
  rw[if_pos rfl]
  exact aT (hb c n env A Z' l hp' s' C I' jv) (fun _ _ q=>q.lift a.toX) (fun _ _ q=>q.lift a.toX)
 case false=>
  exact aT (ho c n env A Z' l hp' s' C I' jv) (fun _ _ q=>q.lift a.toX) (fun _ _ q=>q.lift a.toX)
theorem U1:Gx P cx [] .nil:=by
 intro c n env A Z l hp s C I hb
 exact hM ⟨_,_,_,_,rfl,.refl I.st,rfl,I.fr⟩
theorem HP.turn(q:HP P env cx Z s r v s''):HP P env cx Z s (r.turn f) v s'':=by
 obtain⟨k,l',h2,am,e,er,ev,b,fl,fr⟩:=q
 exact⟨k,l',h2,am,e,by rw[er];rfl,ev,b,fl,fr⟩
theorem Qu{st:Stmt}{x:S}(h:Cm P cx st x)(hr:Gx P cx sts xs):Gx P cx (st :: sts) (.cons x xs):=by
 intro c n env A Z l hp s C I hb
 rw[C1] at hb |-
 refine iZ (aT (h c n env A Z l hp s C I (RX hb)) (fun f s' q=>?_) (fun _ _ q=>q.turn))
 obtain⟨fl,l',hp',Z',e,a,rf,fr⟩:=q
 rw[e] at hb |-
 rcases fl with _|av
 case next=>
  rcases (show f=.next from rf) with rfl
  exact aT (hr c n env A Z' l' hp' s' C (I.afterX a fr) hb) (fun _ _ q=>q.lift a) (fun _ _ q=>q.lift a)
 case ret=>
  refine A9 rf fun v A6 rv=>?_;try clear rf;subst A6
  exact⟨_,_,_,_,rfl,a,⟨v,rfl,rv⟩,fr⟩
theorem pU{α:Type}{r:B7 α}(h:r.noExc≠.bad):r≠.bad/\(∀ k h',r≠.exc k h')/\r.noExc=r:=by
 rcases r with ⟨a,h'⟩|⟨k,h'⟩|_
 case ok=>exact⟨(fun e=>nomatch e),(fun _ _ e=>nomatch e),rfl⟩
 case exc=>exact absurd rfl h
 case bad=>exact absurd rfl h
theorem U2{r:SR}(h:r.noExc≠.bad):r≠.bad/\(∀ k l' h',r≠.exc k l' h')/\r.noExc=r:=by
 rcases r with ⟨f,l',h'⟩|⟨k,l',h'⟩|_
 case ok=>exact⟨(fun e=>nomatch e),(fun _ _ _ e=>nomatch e),rfl⟩
 case exc=>exact absurd rfl h
 case bad=>exact absurd rfl h
theorem QE.none{α:Type}{r:B7 α}(h:∀ k h',r≠.exc k h')(q:QE P Z s r v s''):False:=by
 obtain⟨k,h2,am,e,er,_⟩:=q
 exact h _ _ er
theorem HP.none(h:∀ k l' h',r≠.exc k l' h')(q:HP P env cx Z s r v s''):False:=by
 obtain⟨k,l',h2,am,e,er,_⟩:=q
 exact h _ _ _ er
theorem Mj(h:Ag k cx e=some x)(v:Value):foldedSetIterable e env v=pure v:=by
 rcases k with _|k
 case zero=>exact A2 h
 case succ=>rcases e with _|_<;>first|exact rfl|exact A2 h
theorem Gy(f:Ev P s.heap Z env cx l)(h:Ie s.heap it):it∉FX env:=by
 refine DU h fun o T fs ho hc _ hd=>?_
 intro hm
 simp only[FX,bU,List.mem_map] at hm
 rcases hm with rfl|⟨p,hp,rfl⟩
 ·refine C4 f.nsObj fun o' es ep gq gm=>?_
  rw[ho] at gq;cases gq;rw[hd] at gm;cases gm
 ·refine Av (f.cells p hp) fun o' v gq gm=>?_
  rw[ho] at gq;cases gq;rw[hd] at gm;cases gm
theorem Ev.extBut(f:Ev P s.heap Z env cx l)(hn:it∉FX env)(hx:∀ x v,RV P.B s.heap Z x v->RV P.B h' Z x v)(hk:∀ b o,b≠it->s.heap.get? b=some o->h'.get? b=some o):Ev P h' Z env cx l:=by
 simp only[FX,bU,List.mem_map,not_or,not_exists,not_and] at hn
 refine A9 f.names fun m A6 hm=>?_;refine B2 A6 fun o es ep ho hd hr=>?_
 refine⟨f.kind,f.len,f.inj,f.lt,f.glob,f.wr,⟨m,⟨o,es,ep,hk _ o (fun e=>hn.1 e.symm) ho,hd,hr⟩,fun x i gn=>?_⟩,f.out,f.new,f.globals,f.builtins,fun p hp=>?_,f.apart,f.kinds⟩
 ·rcases hm x i gn with ⟨gk,hv⟩|⟨gk,c,ov,hc,⟨oc,hoc,hdc⟩,hv⟩
  ·exact .inl ⟨gk,fun av e=>(hv av e).imp fun _ q=>⟨q.1,hx _ _ q.2⟩⟩
  ·exact .inr ⟨gk,c,ov,hc,⟨oc,hk _ oc (fun e=>hn.2 _ (Az hc) e) hoc,hdc⟩,fun av e=>(hv av e).imp fun _ q=>⟨q.1,hx _ _ q.2⟩⟩
 ·refine Av (f.cells p hp) fun o' v gq gm=>?_
  exact⟨o',v,hk _ o' (fun e=>hn.2 p hp e) gq,gm⟩
end
end
section
open PySem PySem.Spec PyProof.Rows PySem.SeqAt
noncomputable def vN(P:BW)(cx:Cx)(t:Expr)(put:Ah->AV->Option Ah):Prop:=
 ∀ (env:Env) (A:Around) (Z:Sg) (l l':Ah) (hp:A0) (s:Shared) (av:AV) (v:Value) (Q:Unit->Shared->Prop) (E:Value->Shared->Prop),A.handled=none->St P.w P.B Z hp s.heap->Ev P s.heap Z env cx l->RV P.B s.heap Z av v->put l av=some l' ->
  (∀ s',Ai P Z Z (FX env) hp s s'->Ev P s'.heap Z env cx l'->Q () s')->wpAny (model P.prog P.w) A (assign t env v) Q E s
section
variable {P:BW} {cx:Cx} {env:Env} {A:Around} {Z Z':Sg} {l l':Ah} {hp hp':A0} {s s':Shared} {n:Nat} {q:Bool}
theorem W3(hw:cx.slotW y=some i):vN P cx (.Name y p) (Jw i):=fun env A Z l l' hp s av v Q E hh S f rv hp' h=>by
 cases hp'
 exact gD (Dc S f hw rv fun s' a fr _=>h s' a fr)
theorem lE{B:Bs}(rv:RV B h Z (.tup xs) v):∃ a ws,v=.ref a/\h.IsTuple a ws/\RVs B h Z xs ws.toList:=by
 refine B2 rv fun a ws n A6 o r=>?_;try clear rv;subst A6
 exact⟨a,ws,rfl,AX o,r⟩
theorem Mk:∀ {ts:List Expr} {is:List Nat},FF cx ts=some is->ts.length=is.length/\∀ env,(assignEach ts env).length=is.length/\(assignEach ts env).findIdx? (·.1)=none
 | [],is,h=>by cases h;exact⟨rfl,fun env=>⟨rfl,rfl⟩⟩
 | t :: r,is,h=>by
  refine A9 (A7 h) fun i hi h=>?_
  refine A9 (A7 h) fun js hj h=>?_
  rcases Aw h with rfl
  refine xA (Mk hj) fun h1 h2=>?_
  refine A9 (A7 hi) fun y hy hw=>?_
  rcases t with _|_
  case Name y' p=>
   refine⟨by rw[aN,aN,h1],fun env=>?_⟩
   refine xA (h2 env) fun q1 q2=>?_
   show ((false,assign (.Name y' p) env) :: assignEach r env).length=_/\((false,assign (.Name y' p) env) :: assignEach r env).findIdx? (·.1)=none
   rw[aN,aN,q1,eL,q2]
   exact⟨rfl,rfl⟩
  all_goals exact A2 hy
theorem KY:∀ {ts:List Expr} {is:List Nat},FF cx ts=some is->∀ {gf:List AV} {vs:List Value} {Z:Sg} {l:Ah} {hp:A0} {s:Shared} {Q:Unit->Shared->Prop} {E:Value->Shared->Prop},is.length=gf.length->RVs P.B s.heap Z gf vs->St P.w P.B Z hp s.heap->Ev P s.heap Z env cx l ->
  (∀ s',Ai P Z Z (FX env) hp s s'->Ev P s'.heap Z env cx (Kn is gf l)->Q () s')->wpAny (model P.prog P.w) A (assignInOrder ((assignEach ts env).map (·.2)) vs) Q E s
 | [],is,h,gf,vs,Z,l,hp,s,Q,E,hl,rv,S,f,k=>by
  cases h
  rcases gf with _|⟨_,_⟩
  case cons=>exact nomatch hl
  case nil=>
   rcases rv.nil with rfl
   exact aJ (k s (.refl S) f)
 | t :: r,is,h,gf,vs,Z,l,hp,s,Q,E,hl,rv,S,f,k=>by
  refine A9 (A7 h) fun i hi h=>?_
  refine A9 (A7 h) fun js hj h=>?_
  rcases Aw h with rfl
  refine A9 (A7 hi) fun y hy hw=>?_
  rcases gf with _|⟨av,gf⟩
  case nil=>exact nomatch hl
  case cons=>
   refine AF rv.cons fun v ws A6 r1 r2=>?_;subst A6
   rcases t with _|_
   case Name y' p=>
    cases hy
    show wpAny _ _ (do holding ws (assign (.Name y p) env v);assignInOrder ((assignEach r env).map (·.2)) ws) _ _ _
    refine aA (bD (gD (Dc S f hw r1 fun s' a fr _=>?_)))
    exact KY hj (Nat.succ.inj hl) (RVs.grows a.gr _ _ r2) a.st fr fun s'' a' fr'=>k s'' (a.trans a') fr'
   all_goals exact A2 hy
theorem YI(h:Jx is l v=some l'):∃ vs,v=.tup vs/\is.length=vs.length/\l'=Kn is vs l:=by
 rcases v with _|_
 case tup vs=>
  have h:(if is.length=vs.length then some (Kn is vs l) else none)=some l':=h
  split at h
  ·rename_i hl;cases h;exact⟨vs,rfl,hl,rfl⟩
  ·cases h
 all_goals exact A2 h
theorem Ml{ts:List Expr}(ht:FF cx ts=some is):vN P cx (.Tuple ts x1 p) (Jx is):=fun env A Z l l' hp s av v Q E hh S f rv hp' h=>by
 refine F5 (YI hp') fun vs A6 hl Fk=>?_;subst A6;subst Fk
 refine AF (lE rv) fun a ws A6 hT rvs=>?_;subst A6
 refine xA (Mk ht) fun _ h2=>?_
 refine wpAny_assign_Tuple hh hT ((h2 env).1.trans (hl.trans rvs.size)) (h2 env).2 fun h' hx=>?_
 have hk:∀ b o,s.heap.get? b=some o->h'.get? b=some o:=fun b o e=>hx b o (cE (cX e)) e
 have aa:Ai P Z Z [] hp s { s with heap:=h' }:=⟨rfl,S.keep hk,Bk hk⟩
 exact KY ht hl (RVs.grows aa.gr _ _ rvs) aa.st (f.after aa) fun s' a' fr'=>h s' (aa.toX.trans a') fr'
theorem pV{body:List Stmt}(I:Nat->Shared->Prop)
  (turn:∀ n s,I n s->wpAny (model prog w) A (pyNext it) (fun r s₁=>match r with
   | none=>R (.ok .next) s₁
   | some v=>wpAny (model prog w) A (letOwnedTupleGo target it v) (fun _ s₁=>wpAny (model prog w) A (assign target env v) (fun _ ae=>wpAny (model prog w) A (execs body env) (fun f aj=>match f with
     | .next|.cont=>∃ m,m<n/\I m aj
     | .brk=>R (.ok .next) aj
     | .ret v=>R (.ok (.ret v)) aj) (notedBy (model prog w) A env fun e s'=>R (.error e) s') ae) (notedBy (model prog w) A env fun e s'=>R (.error e) s') s₁) (notedBy (model prog w) A env fun e s'=>R (.error e) s') s₁) (notedBy (model prog w) A env fun e s'=>R (.error e) s') s)
  (n:Nat) (h:I n s):codeAny (model prog w) A (.forLoop target it body [] env) R s:=by
 refine codeAny_loop' rfl I (fun n s hI=>?_) n h
 show wpAny _ _ ((forTurn target it body [] env).onRaise (fun x=>do noteFrame x env;theTreesLotGoes x)) _ _ s
 refine wpAny_noted ?_
 simp only[forTurn]
 refine aA (dS (aA (wpAny_onRaise (aT (turn n s hI) (fun r s₁ ax=>?_) fun _ _ h'=>dS h'))))
 rcases r with _|v
 case none=>exact aJ (.inr ⟨rfl,codeAny_block (hM ax)⟩)
 case some=>
  refine aA (aT ax (fun _ ae bq=>aA (aT bq (fun _ ae bq=>aA (aT bq (fun f aj bu=>?_) fun _ _ h'=>h')) fun _ _ h'=>h')) fun _ _ h'=>h')
  rcases f with _|_|_|v
  case next=>exact aJ (.inl ⟨rfl,bu⟩)
  case cont=>exact aJ (.inl ⟨rfl,bu⟩)
  case brk=>exact aJ bu
  case ret=>exact aJ bu
theorem W4 {it a : Addr} (x : Ie s.heap it) (h : Q () s) : wpAny (model P.prog P.w) A (letOwnedTupleGo target (.ref it) v) Q E s := by
  refine DU x fun o T fs ho hc ht hd => ?_
  have tail : ∀ {r : Addr}, wpAny (model P.prog P.w) A (load it >>= fun o => match o.cls, o.data with
      | .type n, .fields vs => if (["enumerate", "zip", "dict_itemiterator", "dict_reverseitemiterator", "odict_iterator", "itertools.zip_longest", "itertools.pairwise"].contains n && vs[0]? == some (rawInt r)) = true then (do rule "for.unpacks-the-owned-tuple"; updateField it 0 .none) else pure ()
      | _, _ => pure ()) Q E s := fun {r} => by
    refine aA (wpAny_load ho ?_)
    rw [hc, hd]
    dsimp only
    rw [if_neg (by rw [show (["enumerate", "zip", "dict_itemiterator", "dict_reverseitemiterator", "odict_iterator", "itertools.zip_longest", "itertools.pairwise"].contains T) = false from ht.2, Bool.false_and]; exact aD)]
    exact aJ h
  unfold letOwnedTupleGo
  rcases target with _ | _
  case Tuple => rcases v with _ | _ <;> first | exact tail | exact aJ h
  case List => rcases v with _ | _ <;> first | exact tail | exact aJ h
  all_goals exact aJ h
theorem W5{src:AV}(hb:AO put f src fuel k l hp≠.bad):∃ xs,CH src hp=some xs:=by
 rcases hi:CH src hp with _|xs
 case some=>exact⟨xs,rfl⟩
 case none=>
  exfalso;apply hb
  rcases fuel with _|f
  case zero=>rfl
  case succ=>rw[Kr];delta Bj;rw[hi];rfl
theorem YJ(h:(if q=true then SR.bad else x)≠.bad):q=false:=by
 rcases q with _|_
 case false=>rfl
 case true=>exact absurd rfl h
structure LN (P:BW) (env:Env) (cx:Cx) (Z:Sg) (s:Shared) (k:Str) (e:Addr) (l':Ah) (hp':A0) (Z':Sg) (s':Shared):Prop where
 a:Ai P Z Z' (FX env) hp' s s'
 f:Ik P Z' s.heap k e s'.heap
 fr:Ev P s'.heap Z' env cx l'
theorem Gd.fresh(I:Gd P cx n q env A Z l hp s)(h:s.heap.get? d=none):d≠env.locals/\∀ p∈env.cells,p.2≠d:=by
 refine⟨fun e=>?_,fun p hp e=>?_⟩
 ·refine C4 I.fr.nsObj fun o _ _ ho _=>?_
  rw[<- e,h] at ho;cases ho
 ·refine Av (I.fr.cells p hp) fun o _ ho _=>?_
  rw[e,h] at ho;cases ho
theorem LN.touch(I:Gd P cx n q env A Z l hp s)(gu:A.frames=some (env :: gd)){Z':Sg}(a:Ai P Z Z' (FX env) hp' s s')(fr:Ev P s'.heap Z' env cx l')
  (t:Qq Z' s.heap (FR (env :: gd)) D s'.heap h') (ft:Ik P Z' s.heap k e h'):LN P env cx Z s k e l' hp' Z' { s' with heap:=h' }:=by
 have F:=I.fs.afterX a.gr I.fr fr
 refine⟨a.touch I.st.base t fun b hb=>F.place gu hb,ft,fr.touch (s₀:=s) t (fun b hb=>(F.place gu hb).2.2) (fun hd=>(I.fresh (t.new _ hd).1).1 rfl) fun p hp hd=>(I.fresh (t.new _ hd).1).2 p hp rfl⟩
theorem HP.out(I:Gd P cx n q env A Z l hp s)(hr:∀ k l h,r=.exc k l h->R=.exc k l h)(q:HP P env cx Z s r v s''):
  notedBy (model P.prog P.w) A env (fun e s'=>cameBackBy (model P.prog P.w) A env (HP P env cx Z s R) e s') v s'':=by
 obtain⟨k,cn,h2,am,e,er,rfl,b,fl,fr⟩:=q
 refine xE I.top fun gd gu=>?_
 refine xA (RW b) fun al1 al2=>?_
 have F:=I.fs.afterX b.gr I.fr fr
 refine KX gu F I.own al1 al2 fl fun h' D t ft=>VZ (s:={ s'' with heap:=h' }) (Fs:=FR (env :: gd)) ft fun h'' D' t' ft'=>?_
 have H:=LN.touch I gu b fr (t.trans t') ft'
 exact⟨k,cn,h2,am,e,hr _ _ _ er,rfl,H.a,H.f.fly,H.fr⟩
inductive W6 (P:BW) (cx:Cx) (env:Env) (put:Ah->AV->Option Ah) (c:CA) (xb:Ss) (src:AV) (Z:Sg) (s:Shared) (it:Addr) (R:SR) (f:Nat) (s':Shared):Prop
 | mk (k:Nat) (l':Ah) (hp':A0) (Z':Sg) (hR:AO put (fun l h=>execSs c xb l h) src f k l' hp'=R) (a:Ai P Z Z' (FX env) hp' s s') (fr:Ev P s'.heap Z' env cx l') (gp:Cs P s'.heap Z' it src k) (hn:it∉Z'.map (·.1)):W6 P cx env put c xb src Z s it R f s'
theorem W7{b:List Stmt}(ht:vN P cx t put)(hce:Ag kk cx e=some x)(h:As P cx e x)(hbody:Gx P cx b xb)
  (hy:∀ c l h,AQ c y l h=(A1 c x l h).st l fun src h=>if c.q then .bad else AO put (fun l h=>execSs c xb l h) src c.fuel 0 l h):Cm P cx (.For t e b [] pos) y:=by
 intro c n env A Z l hp s C I hb
 rw[hy] at hb |-
 refine wpAny_For (LM (G:=fun R v s₁=>wpAny (model P.prog P.w) A (pyIter v) (fun it ae=>codeAny (model P.prog P.w) A (.forLoop t it b [] env) (fun r s'=>match r with|.ok f=>QS P env cx Z s R f s'|.error e=>cameBackBy (model P.prog P.w) A env (HP P env cx Z s R) e s') ae) (HP P env cx Z s R) s₁) (.refl I.st) I.fr (h c n env A Z l hp s C I.toInv (EH hb)) hb ?_) (fun v=>Mj hce v)
 intro src ac Z₁ v s₁ aa rv hb
 have hq:=YJ hb
 rw[if_neg (by rw[hq];exact aD)] at hb |-
 have hh:=I.ar.handled hq
 refine xE (W5 hb) fun xs hi=>?_
 refine IW C.ok aa.st rv hi fun it ae hn0 hnZ hnb ah gp=>?_
 generalize hR:AO put (fun l h=>execSs c xb l h) src c.fuel 0 l ac=R at hb |-
 have u3:s.heap.get? it=none:=DK aa.gr hn0
 refine pV (W6 P cx env put c xb src Z s it R) ?_ c.fuel
  ⟨0,l,ac,Z₁,hR,(aa.trans ah).toX,(I.fr.after (aa.trans ah)),gp,hnZ⟩
 rintro f s' ⟨k,l',hp',Z',u0,a,fr,gp,hnZ'⟩
 have ho:=gp.obj
 rcases f with _|f
 case zero=>exact absurd u0.symm hb
 case succ=>
  rw[Kr] at u0
  rcases hnx:Bj src k hp' with _|r
  case none=>rw[hnx] at u0;exact absurd u0.symm hb
  case some=>
   rw[hnx] at u0
   refine Hd a.st hh gp hnx (fun er h' hs=>?_) (fun av u h' tt er ru hs jn=>?_)
   ·subst er
    refine JZ (a.extBut (t:=s'.toks) hs u3 hnZ' hnb ho.notFixed) fun a' kg gk=>?_
    show QS P env cx Z s R .next _
    rw[<- u0]
    exact⟨_,_,_,_,rfl,a',rfl,fr.extBut (Gy fr ho) kg gk⟩
   ·subst er
    have u0:(match put l' av with|some l'=>(execSs c xb l' hp').turn (AO put (fun l h=>execSs c xb l h) src f (k+1))|none=>SR.bad)=R:=u0
    obtain⟨lb,hpt⟩:∃ lb,put l' av=some lb:=by
     rcases hpt:put l' av with _|lb
     case none=>rw[hpt] at u0;exact absurd u0.symm hb
     case some=>exact⟨lb,rfl⟩
    rw[hpt] at u0
    have u0:(execSs c xb lb hp').turn (AO put (fun l h=>execSs c xb l h) src f (k+1))=R:=u0
    refine JZ (a.extBut (t:=tt) hs u3 hnZ' hnb ho.notFixed) fun a' kg gk=>?_
    have u1:=jn fun b o e f=>gk b o (fun q=>by
     subst q
     refine A9 ho.notFixed fun o2 e2 hf2=>?_
     rw[e2] at e;cases e;exact hf2 f) e
    have u2:=fr.extBut (Gy fr ho) kg gk
    refine W4 (s:={ s' with heap:=h',toks:=tt }) (a:=0) u1.obj ?_
    refine ht env A Z' l' lb hp' { s' with heap:=h',toks:=tt } av u _ _ hh a'.st u2 (kg _ _ ru) hpt fun aj ai bp=>?_
    refine xA (Ew (s:={ s' with heap:=h',toks:=tt }) ai.gr hnZ' (Gy (s:={ s' with heap:=h',toks:=tt }) u2 u1.obj) u1) fun ju hn3=>?_
    have a4:=a'.trans ai
    refine aT (hbody c n env A Z' lb hp' aj C (I.afterX a4 bp) (RX (u0.symm▸hb))) (fun fl aq q=>?_) (fun _ _ q=>(q.lift a4).out I fun k l h er=>by rw[<- u0,er];rfl)
    obtain⟨fl',da,bc,ay,e4,au,rf,bj⟩:=q
    rw[e4] at u0
    have a5:=a4.trans au
    rcases fl' with _|av
    case next=>
     rcases (show fl=.next from rf) with rfl
     refine xA (Ew au.gr hn3 (Gy bp ju.obj) ju) fun hit4 hn4=>?_
     exact⟨f,eB f,⟨k+1,da,bc,ay,u0,a5,bj,hit4,hn4⟩⟩
    case ret=>
     refine A9 rf fun v A6 rv=>?_;try clear rf;subst A6
     show QS P env cx Z s R (.ret v) aq
     rw[<- u0]
     exact⟨_,_,_,_,rfl,a5,⟨v,rfl,rv⟩,bj⟩
theorem Qv{x1:Nat}(ht:FF cx ts=some is)(hc:D9 e=false)(hnt:UP e=false)(h:As P cx e x):Cm P cx (.Assign [.Tuple ts x1 p] e pos) (.asgt is x):=by
 intro c n env A Z l hp s C I hb
 rw[UV] at hb |-
 have hw:swappedStores [.Tuple ts x1 p] e env=pure none:=by
  unfold swappedStores
  rcases e with _|_<;>first|rfl|(cases hnt;done)
 refine wpAny_Assign_stores (LM (G:=fun R v s₁=>wpAny (model P.prog P.w) A (assign (.Tuple ts x1 p) env v) (fun _=>QS P env cx Z s R .next) (HP P env cx Z s R) s₁) (.refl I.st) I.fr (h c n env A Z l hp s C I.toInv (EH hb)) hb ?_) (show swapsWithSole [.Tuple ts x1 p] e pos.line env=pure false from EI (env:=env) (t:=some (.Tuple ts x1 p)) (k:=pos.line) hc) hw
 intro av ac Z₁ v s₁ aa rv hb
 have hq:=YJ hb
 rw[if_neg (by rw[hq];exact aD)] at hb |-
 rcases hpt:Jx is l av with _|l'
 case none=>rw[hpt] at hb;exact absurd rfl hb
 case some=>
  refine Ml ht env A Z₁ l l' ac s₁ av v _ _ (I.ar.handled hq) aa.st (I.fr.after aa) rv hpt fun s' a fr=>?_
  exact⟨_,_,_,_,rfl,aa.toX.trans a,rfl,fr⟩
theorem U3{st:Stmt}:Cm P cx st .bad:=fun c n env A Z l hp s C I hb=>absurd rfl hb
theorem OD(hg:cx.isGlob k=true)(hk:(cx.excs.lookup k).isSome=true):Cm P cx (.Raise (some (.Call (.Name k np) [.Constant (.str w) m cp] [] cpos)) none pos) (.raise k):=by
 intro c n env A Z l hp s C I hb
 rw[I7] at hb |-
 have hq:=YJ hb
 rw[if_neg (by rw[hq];exact aD)]
 refine xE (Option.isSome_iff_exists.mp hk) fun ks ki=>?_
 refine xE (C.exc.own k ks ki) fun D O=>?_
 rcases Va (O.keeps I.st.base) with ⟨bm,N,nm,qn,bs,hdct,sn,sub,ab,col,dd,k0,k1,k2,k3,k5,mN,hC,hN,hqn,T⟩
 refine wpAny_Raise_call_subT (C:=D) (nm:=nm) (q:=qn) (N:=N) (bs:=bs) (bm:=bm) (hdct:=hdct) (sn:=sn) (sub:=sub) (ab:=ab) (col:=col) (dd:=dd) (k0:=k0) (k1:=k1) (k2:=k2) (k3:=k3) (k5:=k5) (mN:=mN) F.excBase_ValueError (T.tail.hasType (b:=true) (by decide)) (I.ar.handled hq) rfl (hqn _ (.head _)) (DN C I.toInv hg O.bound ⟨rfl,?_⟩)
 refine BV (P:=P) rfl (bX (fW (dL ?_)))
 refine⟨rfl,aR (show 1<=1 from aS _) (by decide),hC,hN,T.tail,fun h' e M=>?_⟩
 refine F5 M.there fun t he htn ht=>?_
 have a:Ai P Z Z (FX env) hp s { s with heap:=h',toks:=s.toks+1 }:=⟨rfl,I.st.keep M.keeps,Bk M.keeps⟩
 refine⟨k,l,hp,Z,e,rfl,rfl,a,⟨⟨_,_,D,he,O.bound,rfl,rfl,.inl rfl⟩,M.new,fun hm=>?_⟩,I.fr.after (s':={ s with heap:=h',toks:=s.toks+1 }) (hp':=hp) ⟨rfl,I.st.keep M.keeps,Bk M.keeps⟩⟩
 refine A9 (List.mem_map.mp hm) fun p hp q=>?_
 refine A9 (I.st.there hp) fun o e' _=>?_
 rw[q,M.new] at e';cases e'
end
end
section
open PySem PySem.Spec PyProof.Rows PySem.SeqAt
section
variable {M:Model} {A:Around} {E:Value->Shared->Prop}
theorem U4{h:Heap}{g:Array GenState}{d:Drawn}{t:Nat}{os:OsState}{C D e N N':Addr}{oe:Obj}{b:Bool}{nm q nm' q':Str}{bs bm bs' bm':List Value}{hdct jg:Bool}{sn sn':List Str}{sub jt:List Value}{ab ab':Bool}{col jy:Option Bool}{dd dd':Option Addr}{k0 k1 k2 k3 k5 l0 l1 l2 l3 l5:Option Value}{gg ir:String}{Q:Bool->Shared->Prop}
  (hC:h.get? C=some (excClassObj nm q C N bs bm hdct sn sub ab col dd k0 k1 k2 k3 k5 gg)) (hD:h.get? D=some (excClassObj nm' q' D N' bs' bm' jg sn' jt ab' jy dd' l0 l1 l2 l3 l5 ir)) (he:h.get? e=some oe) (jo:oe.cls=.ref C)
  (hbase:bm'.contains (.type "BaseException")=true) (hm:(Value.ref C :: bm).contains (.ref D)=b) (hq:Q b ⟨h,g,d,t,os⟩):wpAny M A (excMatches (.ref e) (.ref D)) Q E ⟨h,g,d,t,os⟩:=by
 have u0:(Value.ref D :: bm').contains (.type "BaseException")=true:=by rw[fY,hbase,Bool.or_true]
 have f:=tc_notTuple
 unfold excMatches
 repeat (first|(with_reducible refine bP he ?_;rw[jo])|with_reducible refine bP hD ?_|(with_reducible refine dK hD ?_;rw[u0])|(with_reducible refine dK hC ?_;rw[hm])|wp_step)
 rcases b with _|_<;>(wp_walk;exact hq)
end
inductive Qw (P:BW) (cx:Cx):List ExceptHandler->Hs->Prop
 | nil:Qw P cx [] .nil
 | cons {j x:Str} {i:Nat} {np hpos:Pos} {cj:Stmt} {bs:List Stmt} {xb:Ss} {hs:List ExceptHandler} {xr:Hs} (hg:cx.isGlob j=true) (hl:cx.sc.names.lookup x=some .local) (hn:cx.slot x=some i) (ha:(cx.excs.any fun p=>p.2.contains j)=true) (hb:Gx P cx (cj :: bs) xb) (hr:Qw P cx hs xr) :
   Qw P cx (.ExceptHandler (some (.Name j np)) (some x) (cj :: bs) hpos :: hs) (.cons (taken cx.excs j) i xb xr)
theorem U5{cx:Cx}{nm:Option Str}{i:Nat}(h:PQ cx nm=some i):∃ x,nm=some x/\cx.sc.names.lookup x=some .local/\cx.slot x=some i:=by
 refine A9 (Option.bind_eq_some_iff.mp h) fun x hx h=>?_
 refine xA (Cr h) fun hk h=>?_
 exact⟨x,hx,cA hk,h⟩
section
variable {P:BW} {cx:Cx} {env:Env} {A:Around} {Z Z':Sg} {l l':Ah} {hp hp':A0} {s s':Shared} {n:Nat} {q:Bool}
theorem OE{excs:List (Str×List Str)}{j k:Str}(h:(taken excs j).contains k=true):∃ ks,excs.lookup k=some ks:=by
 have:=(List.mem_filter.mp (List.contains_iff_mem.mp h)).2
 rcases hq:excs.lookup k with _|ks
 case none=>rw[hq] at this;exact absurd this aD
 case some=>exact⟨ks,rfl⟩
theorem Nr{c:CA}{k:Str}{hs:List ExceptHandler}{xs:Hs}(H:Qw P cx hs xs)(hb:handle c xs k l hp≠.bad):∃ ks,cx.excs.lookup k=some ks:=by
 induction H with
 | nil=>exact absurd rfl hb
 | cons hg hl hn ha hbd hr ih=>
  rw[PY] at hb
  split at hb
  ·rename_i hq;exact OE hq
  ·exact ih hb
theorem E5.mark{v:Value}(ar:E5 n q A):E5 n true (A.mark (some v)):=⟨⟨ar.frames,ar.depth,ar.units,fun e=>nomatch e⟩,ar.depth1,ar.units1,ar.frame⟩
theorem ER.quiet{c:CA}(C:ER P cx c n):ER P cx c.quiet n:=⟨C.ok,C.fq,C.fq,C.meths,C.attrs,C.cls,C.init,C.exc,C.g⟩
theorem LN.inv(I:Gd P cx n q env A Z l hp s){k:Str}{e:Addr}{bk:Ah}{ac:A0}{Z₁:Sg}{s₁:Shared}(H:LN P env cx Z s k e bk ac Z₁ s₁):Gd P cx n true env (A.mark (some (.ref e))) Z₁ bk ac s₁:=
 ⟨⟨H.a.st,H.fr,I.ar.mark,I.fs.afterX H.a.gr I.fr H.fr,I.tp⟩,I.top,I.own⟩
theorem U6{r:SR}(h:r.forget≠.bad):r≠.bad:=fun e=>h (by rw[e];rfl)
theorem Jo{i:Nat}{av:AV}(h:(l.map fun _=>(none:Option AV))[i]?=some (some av)):False:=by
 rw[aK] at h
 rcases hq:l[i]? with _|o
 case none=>rw[hq] at h;cases h
 case some=>rw[hq] at h;cases h
theorem RF.grows{B:Bs}{X:List Addr}{h h':Heap}{fl:N3}{f:PySem.Flow}(g:AN Z Z' X h h')(r:RF B h Z fl f):RF B h' Z' fl f:=by
 rcases fl with _|av
 case next=>exact r
 case ret=>exact A9 r fun v e rv=>⟨v,e,RV.grows g _ _ rv⟩
theorem Ev.forget(f:Ev P s.heap Z env cx l)(S:St P.w P.B Z hp s.heap){h':Heap}{m':Str->Option Value}(hn':h'.Ns env.locals m')(hs:Heap.SameBut env.locals s.heap h')(tk:Nat):
  Ai P Z Z (FX env) hp s { s with heap:=h',toks:=tk }/\Ev P h' Z env cx (l.map fun _=>none):=by
 refine aI fun gj=>?_
 refine A9 f.names fun m hn hm=>?_
 refine C4 f.nsObj fun o es ep ho hd=>?_
 refine C4 (id hn') fun bw _ _ ci _=>?_
 refine xA (S.sameBut (X:=FX env) hs (fun o' gq=>by rw[ho] at gq;cases gq;unfold BQ;rw[hd];exact fun q=>q) f.out.1 f.new.1 aH ci) fun S' g=>?_
 refine gj ?_
 have u0:∀ p∈env.cells,h'.get? p.2=s.heap.get? p.2:=fun p hp=>hs.2 p.2 (f.cell_ne hp)
 refine⟨⟨rfl,S',g⟩,f.kind,by rw[aB];exact f.len,f.inj,f.lt,f.glob,f.wr,⟨m',hn',fun y j hy=>?_⟩,f.out,f.new,f.globals,f.builtins,fun p hp=>?_,f.apart,f.kinds⟩
 ·rcases hm y j hy with ⟨hk,_⟩|⟨hk,c,ov,hc,⟨oc,h1,h2⟩,_⟩
  ·exact .inl ⟨hk,fun av e=>(Jo e).elim⟩
  ·exact .inr ⟨hk,c,ov,hc,⟨oc,(u0 (y,c) (Az hc)).trans h1,h2⟩,fun av e=>(Jo e).elim⟩
 ·refine Av (f.cells p hp) fun oc v h1 h2=>?_
  exact⟨oc,v,(u0 p hp).trans h1,h2⟩
theorem LN.adopt(I:Gd P cx n q env A Z l hp s){k:Str}{e:Addr}{bk:Ah}{ac:A0}{Z₁:Sg}{s₁:Shared}(H:LN P env cx Z s k e bk ac Z₁ s₁)(hkn:(P.B.excs.lookup k).isSome=true):
  Ai P Z (Z₁++[(e,0)]) (FX env) (ac++[.exc k]) s s₁/\Gd P cx n true env (A.mark (some (.ref e))) (Z₁++[(e,0)]) bk (ac++[.exc k]) s₁:=by
 refine Ej H.f.obj fun oe vs C' T oT ts fv he hgk hc hd _=>?_
 have hb:P.B.h₀.get? e=none:=by
  rcases hq:P.B.h₀.get? e with _|o
  case none=>rfl
  case some=>have:=I.st.base e o hq;rw[H.f.new] at this;cases this
 have k:HH Z₁ (Z₁++[(e,0)]):=fun n p e=>by
  rw[bB (List.getElem?_eq_some_iff.mp e).1];exact e
 have ah:Ai P Z (Z₁++[(e,0)]) (FX env) (ac++[.exc _]) s s₁:=⟨H.a.ctl,H.a.st.adopt H.f.out hb fun _=>⟨oe,C',vs,he,hc,hgk,hd,hkn⟩,H.a.gr.adopt H.f.new⟩
 have u0:∀ b,b∉Z₁.map (·.1)->b≠e->b∉(Z₁++[((e,0):Addr×Nat)]).map (·.1):=fun b h1 h2 h3=>by
  rw[aU,dX] at h3
  exact h3.elim h1 fun q=>h2 (List.mem_singleton.mp q)
 have u1:=I.fresh H.f.new
 have F:=I.fs.afterX H.a.gr I.fr H.fr
 refine A9 H.fr.names fun m hn hm=>?_
 refine⟨ah,⟨⟨ah.st,⟨H.fr.kind,H.fr.len,H.fr.inj,H.fr.lt,H.fr.glob,H.fr.wr,⟨m,hn,fun x i hx=>?_⟩,⟨u0 _ H.fr.out.1 (gF u1.1),fun p hp=>u0 _ (H.fr.out.2 p hp) (u1.2 p hp)⟩,H.fr.new,H.fr.globals,H.fr.builtins,H.fr.cells,H.fr.apart,H.fr.kinds⟩,I.ar.mark,?_,I.tp⟩,I.top,I.own⟩⟩
 ·rcases hm x i hx with ⟨hk,hv⟩|⟨hk,c,ov,hc,hi,hv⟩
  ·exact .inl ⟨hk,fun av e=>A9 (hv av e) fun v h1 h2=>⟨v,h1,RV.mono (fun _ _ e _=>e) k _ _ h2⟩⟩
  ·exact .inr ⟨hk,c,ov,hc,hi,fun av e=>A9 (hv av e) fun v h1 h2=>⟨v,h1,RV.mono (fun _ _ e _=>e) k _ _ h2⟩⟩
 ·intro l' hl f hf
  refine D8 (F l' hl f hf) fun h1 L o es ep h2 h3 h4 h5 h6=>?_
  refine⟨h1,L,o,es,ep,h2,h3,h4,h5,u0 _ h6 fun q=>?_⟩
  refine D8 (I.fs l' hl f hf) fun _ L' o' _ _ q2 _ q4 _ _=>?_
  rw[h2] at q2;cases q2
  rw[q,H.f.new] at q4
  exact nomatch q4
theorem Qx{c:CA}(C:ER P cx c n)(I:Gd P cx n c.q env A Z l hp s){k:Str}{e:Addr}{bk:Ah}{ac:A0}{Z₁:Sg}{ks:List Str}(hk:cx.excs.lookup k=some ks){hs:List ExceptHandler}{xs:Hs}(H:Qw P cx hs xs):
  ∀ {s₁:Shared},LN P env cx Z s k e bk ac Z₁ s₁->handle c xs k bk ac≠.bad->wpAny (model P.prog P.w) A (handleBy (.ref e) env hs) (QS P env cx Z s (handle c xs k bk ac)) (HP P env cx Z s (handle c xs k bk ac)) s₁:=by
 induction H with
 | nil=>intro s₁ _ hb;exact absurd rfl hb
 | @cons j x i np hpos cj bs xb hs xr hg hloc hslot ha hbd hr ih=>
  intro s₁ H hb
  rw[PY,Ij hk] at hb |-
  refine xE (C.exc.cat j ha) fun D O=>?_
  refine xE I.top fun gd gu=>?_
  have az:=H.inv I
  refine wpAny_handleBy_cons (codeAny_handlers_test (DN C.quiet az.toInv hg O.bound ?_)) (by intro q;cases q)
  refine NY H.f.obj fun oe vs C' T oT ts fv he hgk hc r=>?_
  refine xE (C.exc.own k ks hk) fun K OK=>?_
  have:C'=K:=by have:=OK.bound;rw[hgk] at this;cases this;rfl
  subst this
  have hm:=C.exc.sub k ks j C' D
  rcases Va (O.keeps H.a.st.base) with ⟨bmD,_,_,_,_,_,_,_,_,_,_,_,_,_,_,_,_,hD,_,_,TD⟩
  rcases Va OK with ⟨bmC,_,_,_,_,_,_,_,_,_,_,_,_,_,_,_,_,ke,_,_,_⟩
  have hC:=H.a.st.base _ _ ke
  have u0:=hm _ _ hk ha hgk O.bound ke rfl
  obtain⟨hh,g,d,t,os⟩:=s₁
  refine U4 hC hD he hc (TD.tail.hasType (b:=true) (by decide)) u0 ?_
  rcases hj:ks.contains j with _|_
  case false=>
   rw[hj] at hb
   exact ih H hb
  case true=>
   rw[hj] at hb
   refine JZ (U2 (U6 (show (execSs c.quiet xb (bk.set i (some (.loc ac.length))) (ac++[.exc k])).noExc.forget≠.bad from hb))) fun hy1 hy2 hy3=>?_
   show codeAny _ _ (.handlers (.ref e) [.ExceptHandler none (some x) (cj :: bs) hpos] env) _ _
   refine codeAny_handlers_suite_as (FS (Fs:=FR (env :: gd)) H.f fun h' Dd tt ft=>?_)
   refine xA ((LN.touch I gu H.a H.fr tt ft).adopt I (by rw[<- C.exc.same,hk];rfl)) fun ah bh=>?_
   have hw:cx.slotW x=some i:=by unfold Cx.slotW;rw[hloc];exact hslot
   have rv:RV P.B h' (Z₁++[(e,0)]) (.loc ac.length) (.ref e):=⟨e,0,rfl,by rw[<- H.a.st.len];exact aY⟩
   refine Dc (s:=⟨h',g,d,t,os⟩) ah.st bh.fr hw rv fun aj ai bp _=>?_
   refine aT (hbd c.quiet n env _ _ _ _ aj C.quiet (bh.afterX ai bp) hy1) (fun fl aq q=>?_) (fun _ _ q=>(q.none hy2).elim)
   obtain⟨fl',da,bc,ay,e4,au,rf,bj⟩:=q
   refine A9 (id bj.names) fun m gz hm=>?_
   have hk:env.kindOf x=some .local :=bj.kinds x _ hloc (.inl rfl)
   refine wpAny_nameGoes hk gz (by rw[bj.kind];rfl) fun fw m' hn' hs'=>?_
   refine xA (bj.forget au.st hn' hs' (aq.toks+1)) fun aw cr=>?_
   show QS P env cx Z s (execSs c.quiet xb (bk.set i (some (.loc ac.length))) (ac++[.exc k])).noExc.forget fl _
   rw[hy3,e4]
   exact⟨fl',_,bc,ay,rfl,((ah.trans ai).trans au).trans aw,rf.grows aw.gr,cr⟩
theorem U7{b:List Stmt}{xb:Ss}{h₀:ExceptHandler}{hs:List ExceptHandler}{xs:Hs}{pos:Pos}(hb:Gx P cx b xb)(H:Qw P cx (h₀ :: hs) xs):Cm P cx (.Try b (h₀ :: hs) [] [] pos) (.tryx xb xs):=by
 intro c n env A Z l hp s C I u0
 rw[Zz] at u0 |-
 have hq:=YJ u0
 rw[if_neg (by rw[hq];exact aD)] at u0 |-
 have u1:execSs c xb l hp≠.bad:=fun e=>u0 (by rw[e])
 refine wpAny_Try_except (aT (hb c n env A Z l hp s C I u1) (fun fl s' q=>?_) (fun v s' q=>?_))
 ·obtain⟨fl',l',hp',Z',e,a,rf,fr⟩:=q
  rw[e]
  rcases fl' with _|av
  case next=>rcases (show fl=.next from rf) with rfl;exact hM ⟨_,_,_,_,rfl,a,rfl,fr⟩
  case ret=>refine A9 rf fun v A6 rv=>?_;try clear rf;subst A6;exact⟨_,_,_,_,rfl,a,⟨v,rfl,rv⟩,fr⟩
 ·obtain⟨k,cn,h2,am,e,er,rfl,a,fl,fr⟩:=q
  rw[er] at u0 |-
  have u0:handle c xs k cn h2≠.bad:=u0
  refine aI fun gj=>?_
  refine xE (Nr H u0) fun ks hk=>?_
  refine xE I.top fun gd gu=>?_
  refine xA (RW a) fun al1 al2=>?_
  refine gj ?_
  refine Mi gu (I.fs.afterX a.gr I.fr fr) I.own al1 al2 fl fun h' D t ft=>?_
  exact Qx C I hk H (LN.touch I gu a fr t ft) u0
end
end
section
open PySem PySem.Spec PyProof.Rows PySem.SeqAt
theorem Dv{α:Type}:∀ {l:List (Str×α)},(l.map (·.1)).Nodup->∀ {x:Str} {v:α},(x,v)∈l->l.lookup x=some v
 | [],_,_,_,h=>nomatch h
 | (k,w) :: r,nd,x,v,h=>by
  rw[aZ,dM] at nd
  rw[cM]
  rcases List.mem_cons.mp h with e|h2
  ·cases e;rw[BEq.rfl]
  ·have hne:(x==k)=false:=beq_eq_false_iff_ne.mpr fun e=>nd.1 (List.mem_map.mpr ⟨(x,v),h2,e⟩)
   rw[hne]
   exact Dv nd.2 h2
section
variable {env:Env}
noncomputable def U8(env:Env)(x:Str)(k:NameKind):NameKind:=if (k==.free&&env.scope.kind==.function&&env.kindOf x==some .cell) then .cell else k
theorem Gz:∀ {names:List (Str×NameKind)} {x:Str} {k:NameKind},names.lookup x=some k ->
  (names.map fun (n,k)=>if (k==NameKind.free&&env.scope.kind==.function&&env.kindOf n==some .cell) then (n,NameKind.cell) else (n,k)).lookup x=some (U8 env x k)
 | [],_,_,h=>by cases h
 | (n,k) :: r,x,k',h=>by
  have ih:=@Gz r x k'
  rw[cM] at h
  show List.lookup x ((if (k==NameKind.free&&env.scope.kind==.function&&env.kindOf n==some .cell)=true then (n,NameKind.cell) else (n,k)) :: _)=_
  have e:(if (k==NameKind.free&&env.scope.kind==.function&&env.kindOf n==some .cell)=true then (n,NameKind.cell) else (n,k))=(n,U8 env n k):=by
   unfold U8;split<;>rfl
  rw[e,cM]
  rcases hx:x==n with _|_
  case true=>rw[hx] at h;cases h;rw[beq_iff_eq.mp hx]
  case false=>rw[hx] at h;exact ih h
theorem Il{α:Type}{c:α}:∀ {l:List (Str×α)},(x,c)∈l->∃ c',l.lookup x=some c'/\(x,c')∈l
 | [],h=>nomatch h
 | (k,w) :: r,h=>by
  rw[cM]
  rcases hx:x==k with _|_
  case true=>exact⟨w,rfl,by rw[beq_iff_eq.mp hx];exact aH⟩
  case false=>
   rcases List.mem_cons.mp h with e|h
   ·cases e;simp at hx
   ·refine A9 (Il h) fun c' h1 h2=>?_
    exact⟨c',h1,aL _ h2⟩
theorem FT:∀ (names:List (Str×NameKind)) (acc:List (Str×Addr)),(∀ p∈names,p.2=.free->∃ c,env.cells.lookup p.1=some c) ->
  ∃ cl,(forIn names acc fun (x:Str×NameKind) (cs:List (Str×Addr))=>match x with
    | (name,kind)=>if (kind==NameKind.free)=true then do let a <- cellOf env name;pure (ForInStep.yield ((name,a) :: cs)) else pure (ForInStep.yield cs))=(pure cl:Sem _) /\
   (∀ q∈cl,q∈acc\/env.cells.lookup q.1=some q.2)/\(∀ q∈acc,q∈cl)/\∀ p∈names,p.2=.free->∃ c,(p.1,c)∈cl
 | [],acc,_=>⟨acc,by rw[List.forIn_nil],fun q h=>.inl h,fun q h=>h,fun p hp=>nomatch hp⟩
 | (n,k) :: r,acc,H=>by
  have Hr:∀ p∈r,p.2=.free->∃ c,env.cells.lookup p.1=some c:=fun p hp=>H p (aL _ hp)
  by_cases hk:k=.free
  ·subst hk
   refine xE (H (n,.free) aH rfl) fun c hc=>?_
   refine BT (FT r ((n,c) :: acc) Hr) fun cl h1 h2 h3 h4=>?_
   refine⟨cl,?_,fun q hq=>?_,fun q hq=>h3 q (aL _ hq),fun p hp hpk=>?_⟩
   ·rw[List.forIn_cons,<- h1]
    have e:cellOf env n=pure c:=by unfold cellOf;rw[hc]
    show (if (NameKind.free==NameKind.free)=true then (cellOf env n >>= fun a=>pure (ForInStep.yield ((n,a) :: acc))) else _) >>= _=_
    rw[if_pos (show (NameKind.free==NameKind.free)=true from rfl),e]
    rfl
   ·rcases h2 q hq with h|h
    ·rcases List.mem_cons.mp h with e|h
     ·subst e;exact .inr hc
     ·exact .inl h
    ·exact .inr h
   ·rcases List.mem_cons.mp hp with e|hp
    ·subst e;exact⟨c,h3 _ aH⟩
    ·exact h4 p hp hpk
  ·refine BT (FT r acc Hr) fun cl h1 h2 h3 h4=>?_
   refine⟨cl,?_,h2,h3,fun p hp hpk=>?_⟩
   ·rw[List.forIn_cons,<- h1]
    have t0:(k==NameKind.free)=false:=beq_eq_false_iff_ne.mpr hk
    show (if (k==NameKind.free)=true then _ else pure (ForInStep.yield acc)) >>= _=_
    rw[if_neg (by rw[t0];exact aD)]
    rfl
   ·rcases List.mem_cons.mp hp with e|hp
    ·subst e;exact absurd hpk hk
    ·exact h4 p hp hpk
theorem Qy{scope:Scope}(H:∀ p∈scope.names,p.2=.free->∃ c,env.cells.lookup p.1=some c):
  ∃ cl,closureFor scope env=pure cl/\(∀ q∈cl,env.cells.lookup q.1=some q.2)/\∀ p∈scope.names,p.2=.free->∃ c,cl.lookup p.1=some c:=by
 refine BT (FT (env:=env) scope.names [] H) fun cl h1 h2 h3 h4=>?_
 refine⟨cl,?_,fun q hq=>(h2 q hq).elim (fun h=>nomatch h) id,fun p hp hpk=>?_⟩
 ·unfold closureFor
  exact(congrArg (· >>= fun r=>pure r) h1).trans rfl
 ·refine xE (h4 p hp hpk) fun c hc=>?_
  refine A9 (Il hc) fun c' h _=>?_
  exact⟨c',h⟩
end
theorem CT:∀ {ns:List Str} {k:Nat} {x:Str} {i:Nat},(ns.zipIdx k).lookup x=some i->k<=i/\ns[i-k]?=some x
 | [],_,_,_,h=>by simp at h
 | n :: ns,k,x,i,h=>by
  rw[List.zipIdx_cons,cM] at h
  split at h
  ·rename_i hb
   cases h
   rw[beq_iff_eq.mp hb]
   exact⟨aS _,by simp⟩
  ·refine xA (CT h) fun h1 h2=>?_
   refine⟨by exact ql (CW _ _) [(BP,Aj)] Af Aj rfl h1,?_⟩
   rw[show i-k=(i-(k+1))+1 by exact sH h1]
   exact h2
theorem KZ:∀ {ns:List Str} {k:Nat} {x:Str},x∈ns->∃ i,(ns.zipIdx k).lookup x=some i
 | n :: ns,k,x,h=>by
  rw[List.zipIdx_cons,cM]
  rcases hb:x==n with _|_
  case true=>exact⟨_,rfl⟩
  case false=>
   rcases List.mem_cons.mp h with e|h
   ·subst e;simp at hb
   ·exact KZ h
section
variable {P:BW} {cx:Cx} {env:Env} {A:Around} {E:Value->Shared->Prop} {Z Z':Sg} {l l':Ah} {hp hp':A0} {s s':Shared} {n:Nat} {scope:Scope}
theorem Qz(hok:El cx scope=true)(h:(Ce cx scope).slot x=some i):
  (scope.names.lookup x=some .local/\cx.n<=i/\(BK scope)[i-cx.n]?=some x)\/(scope.names.lookup x=some .free/\cx.sc.names.lookup x=some .cell/\cx.slot x=some i):=by
 simp only[El,aG,decide_eq_true_eq] at hok
 refine xA hok fun A6 km=>?_;try clear hok;refine xA A6 fun _ jp=>?_
 refine A9 (Option.bind_eq_some_iff.mp h) fun k hk hi=>?_
 refine xA (Cr hi) fun hkk hi2=>?_;clear hi
 next=>
  next=>
   have hk:scope.names.lookup x=some k:=hk
   have h:((BK scope).zipIdx cx.n++cx.loc).lookup x=some i:=hi2
   have u0:=Az hk
   have hx:=List.all_eq_true.mp km _ u0
   rw[List.lookup_append] at h
   unfold H7 at hx
   rcases k with _|_<;>first|(cases hx;done)|(cases hkk;done)|skip
   ·left
    refine⟨hk,?_⟩
    dsimp only at hx
    by_cases h0:x=(".0":Str)
    ·have u1:x∉BK scope:=fun hm=>by
      refine A9 (List.mem_filterMap.mp hm) fun q hq e=>?_
      refine xA (Cr e) fun hc e=>?_
      rcases Option.some.inj e with rfl;rw[aG,bne_iff_ne] at hc;exact hc.2 h0
     rw[dN,bne_iff_ne] at hx
     rcases hx with hx|hx
     ·exact absurd h0 hx
     ·rcases hz:((BK scope).zipIdx cx.n).lookup x with _|j
      case some=>
       refine xA (CT hz) fun _ h2=>?_
       exact absurd (aX h2) u1
      case none=>
       rw[hz,Option.isNone_iff_eq_none.mp hx] at h
       cases h
    ·have u2:x∈BK scope:=List.mem_filterMap.mpr ⟨(x,.local),u0,by
      rw[if_pos]
      rw[aG,bne_iff_ne]
      exact⟨rfl,h0⟩⟩
     refine xE (KZ (k:=cx.n) u2) fun j hj=>?_
     rw[hj] at h
     cases h
     exact CT hj
   ·right
    dsimp only at hx
    rw[aG,beq_iff_eq] at hx
    refine xE (Option.isSome_iff_exists.mp hx.2) fun i' hi'=>?_
    refine⟨hk,hx.1,?_⟩
    have u1:x∉BK scope:=fun hm=>by
     refine A9 (List.mem_filterMap.mp hm) fun A6 hq e=>?_;obtain⟨y,ky⟩:=A6
     refine xA (Cr e) fun hc e=>?_
     rcases Option.some.inj e with rfl
     rw[aG,beq_iff_eq] at hc
     have t0:=Mine.Internal.Dv jp hq
     rw[hk] at t0
     exact nomatch (Option.some.inj t0).trans hc.1
    rcases hz:((BK scope).zipIdx cx.n).lookup x with _|j
    case some=>
     refine xA (CT hz) fun _ h2=>?_
     exact absurd (aX h2) u1
    case none=>
     rw[hz] at h
     refine A9 (Option.bind_eq_some_iff.mp hi') fun k2 hk2 hi'=>?_
     exact Option.bind_eq_some_iff.mpr ⟨k2,hk2,(if_pos (Cr hi').1).trans h⟩
theorem U9(f:Ev P h Z env cx l)(hok:El cx scope=true)(sub:∀ q∈cl,env.cells.lookup q.1=some q.2)(has:∀ p∈scope.names,p.2=.free->∃ c,cl.lookup p.1=some c)
  (gz:h'.Ns C (fun _=>none)) (hk:∀ b o,h.get? b=some o->h'.get? b=some o) (hC:C∉Z.map (·.1)) (hCb:P.B.h₀.get? C=none) :
  Ev P h' Z (compEnvC scope cl C env) (Ce cx scope) (l++List.replicate (BK scope).length none):=by
 have u4:=fun x i=>Qz (x:=x) (i:=i) hok
 have u3:=hok
 simp only[El,aG,decide_eq_true_eq,beq_iff_eq] at u3
 refine xA u3 fun A6 km=>?_;try clear u3;refine xA A6 fun jb jp=>?_
 have u1:∀ p∈cl,p∈env.cells:=fun p hp=>Az (sub p hp)
 have u0:∀ x k,scope.names.lookup x=some k->(compEnvC scope cl C env).kindOf x=some (U8 env x k):=fun x k h=>Gz h
 have u5:∀ av v,RV P.B h Z av v->RV P.B h' Z av v:=fun av v r=>RV.fixes (fun b o e _=>hk b o e) av v r
 refine⟨jb,?_,fun x y i h1 h2=>?_,fun x i hx=>?_,fun x hx=>?_,fun x i hx=>?_,⟨_,gz,fun x i hx=>?_⟩,⟨hC,fun p hp=>f.out.2 p (u1 p hp)⟩,⟨hCb,fun p hp=>f.new.2 p (u1 p hp)⟩,f.globals,f.builtins,fun p hp=>?_,
  fun p hp q hq e=>f.apart p (u1 p hp) q (u1 q hq) e,fun x k hx jq=>?_⟩
 ·rw[aC,List.length_replicate,f.len];rfl
 ·rcases u4 x i h1 with ⟨_,a1,a2⟩|⟨_,_,a3⟩<;>rcases u4 y i h2 with ⟨_,b1,b2⟩|⟨_,_,b3⟩
  ·rw[a2] at b2;exact Option.some.inj b2
  ·exact absurd (f.lt y i b3) (dP a1)
  ·exact absurd (f.lt x i a3) (dP b1)
  ·exact f.inj x y i a3 b3
 ·rcases u4 x i hx with ⟨_,a1,a2⟩|⟨_,_,a3⟩
  ·have t0:=(List.getElem?_eq_some_iff.mp a2).1
   show i<cx.n+(BK scope).length
   exact ql (Es _ _ _ _) [(BP,Aj),(AA,(qA Af CS))] HC (qA CS Aj) rfl t0 SM
  ·exact aP (f.lt x i a3) (dQ _ _)
 ·have h1:scope.names.lookup x=some .globalImplicit:=by
   have t1:=(Bool.and_eq_true_iff.mp hx).1
   exact beq_iff_eq.mp t1
  rw[u0 x _ h1];rfl
 ·unfold Cx.slotW at hx
  have u7:∀ k,scope.names.lookup x=some k->k≠.free->(compEnvC scope cl C env).kindOf x≠some .free:=fun k h1 h2=>by
   rw[u0 x k h1]
   unfold U8
   intro e
   split at e
   ·cases e
   ·exact h2 (Option.some.inj e)
  rcases h1:scope.names.lookup x with _|k
  ·rw[show (Ce cx scope).sc.names.lookup x=none from h1] at hx;exact A2 hx
  ·rw[show (Ce cx scope).sc.names.lookup x=some k from h1] at hx
   exact u7 k h1 fun e=>by rw[e] at hx;exact A2 hx
 ·rcases u4 x i hx with ⟨a0,a1,a2⟩|⟨a0,a1,a3⟩
  ·refine .inl ⟨by rw[u0 x _ a0];rfl,fun av e=>?_⟩
   rw[cU (by rw[f.len];exact a1),List.getElem?_replicate] at e
   split at e<;>cases e
  ·have u2:=f.kinds x .cell a1 (.inr rfl)
   refine A9 f.names fun m _ hm=>?_
   rcases hm x i a3 with ⟨gk,_⟩|⟨_,c,ov,hc,⟨o,ho,hd⟩,hv⟩
   ·rw[u2] at gk;cases gk
   ·refine xE (has (x,.free) (Az a0) rfl) fun c' hc'=>?_
    have u6:=sub _ (Az hc')
    obtain rfl:c'=c:=by
     rw[hc] at u6
     exact(Option.some.inj u6).symm
    refine .inr ⟨.inl ?_,c',ov,hc',⟨o,hk c' o ho,hd⟩,fun av e=>?_⟩
    ·rw[u0 x _ a0]
     unfold U8
     rw[u2,f.kind]
     rfl
    ·rw[bB (by rw[f.len];exact f.lt x i a3)] at e
     refine A9 (hv av e) fun v h1 h2=>?_
     exact⟨v,h1,u5 _ _ h2⟩
 ·refine Av (f.cells p (u1 p hp)) fun o v ho hd=>?_
  exact⟨o,v,hk _ o ho,hd⟩
 ·rw[u0 x k hx]
  rcases jq with rfl|rfl<;>rfl
end
end
section
open PySem PySem.Spec PyProof.Rows PySem.SeqAt
structure CP where
 e:X
 k:Nat
 j:Nat
 it:X
 cs:Xs
noncomputable def CP.x(p:CP):X:=.comp p.e p.k p.j p.it p.cs
noncomputable def Ft(c:CA)(e:X)(cs:Xs)(l:Ah)(h:A0):B7 (Option AV):=(evalConds c cs l h).noExc.bind fun b h=>pN b h (A1 c e l h)
noncomputable def EJ(c:CA)(p:CP)(l:Ah)(h:A0):B7 AV:=A1 c p.x l h
theorem vO{c:CA}{p:CP}{l:Ah}{h:A0}:EJ c p l h=(A1 c p.it l h).noExc.bind fun src h=>if c.q then .bad else
  (AG (fun v h=>Ft c p.e p.cs (BC l p.k p.j v) h) src c.fuel 0 [] h).bind fun vs h=>Au vs h:=rfl
section
variable {P:BW} {cx:Cx} {env:Env} {A:Around} {E:Value->Shared->Prop} {Z Z':Sg} {l l':Ah} {hp hp':A0} {s s':Shared} {n:Nat} {scope:Scope}
theorem W8{v:AV}{x y:B7 Bool}(hb:O8 v x y≠.bad):∃ b,v=.bool b:=by
 rcases v with _|_
 case bool b=>exact⟨b,rfl⟩
 all_goals exact absurd rfl hb
theorem QA{c:CA}{ifs:List Expr}{cs:Xs}(hifs:(ifs=[]/\cs=.nil)\/∃ q xq,ifs=[q]/\cs=.cons xq .nil/\ES P cx q xq)(C:ER P cx c n)(I:Inv P cx n c.q env A Z l hp s)(hb:evalConds c cs l hp≠.bad)(hne:∀ k h',evalConds c cs l hp≠.exc k h'):
  wpAny (model P.prog P.w) A (forIn ifs true fun c r=>if r=true then do let ok <- isTrue c env (eval c env);pure (ForInStep.yield ok) else pure (ForInStep.yield r))
   (fun ok s'=>∃ hp' Z',evalConds c cs l hp=.ok ok hp'/\Ai P Z Z' [] hp' s s') NE s:=by
 rcases hifs with ⟨rfl,rfl⟩|⟨q,xq,rfl,rfl,h⟩
 ·exact wpAny_tests_nil ⟨hp,Z,rfl,.refl I.st⟩
 ·have e:evalConds c (.cons xq .nil) l hp=(A1 c xq l hp).bind fun v h=>O8 v (.ok true h) (.ok false h):=rfl
  rw[e] at hb hne
  have u0:KV (A1 c xq l hp):=fun av h er=>by
   rw[er,Et] at hb
   exact W8 hb
  refine wpAny_tests_one (aT (h c n env A Z l hp s C I (Ap hb) u0) (fun b s' ⟨hp',Z',er,a⟩=>⟨hp',Z',?_,a⟩) fun _ _ q=>(q.bind (f:=fun v h=>O8 v (.ok true h) (.ok false h))).none hne)
  rw[e,er]
  rcases b with _|_<;>rfl
theorem QC{body:AV->A0->B7 (Option AV)}{src:AV}{fuel:Nat}{acc:List AV}{k:Nat}(hb:AG body src fuel k acc hp≠.bad):∃ xs,CH src hp=some xs:=by
 rcases hi:CH src hp with _|xs
 case some=>exact⟨xs,rfl⟩
 case none=>
  exfalso;apply hb
  rcases fuel with _|f
  case zero=>rfl
  case succ=>rw[H8];delta Bj;rw[hi];rfl
theorem Ua{it:Addr}{src:AV}{k:Nat}(x:Cs P s.heap Z it src k){Q:Value->Shared->Prop}(h:Q (.ref it) s):wpAny (model P.prog P.w) A (pyIter (.ref it)) Q E s:=by
 rcases src with _|_
 case rng=>exact wpAny_pyIter_rangeiter x h
 case str=>obtain⟨_,x⟩:=x;exact wpAny_pyIter_striter_ascii x h
 case tup=>obtain⟨_,_,_,_,_,x⟩:=x;exact wpAny_pyIter_tupleiter x h
 case loc=>obtain⟨_,_,_,x⟩:=x;exact wpAny_pyIter_listiter x h
 all_goals exact x.elim
theorem L0{X:List Addr}{b:Addr}{o:Obj}{h h':Heap}(g:AN Z Z' X h h')(ho:h.get? b=some o)(hd:∀ es ep,o.data≠.dict es ep)(hn:b∉Z.map (·.1))(hX:b∉X):h'.get? b=some o:=by
 rcases g.oth b o ho hn hX with q|⟨hcf,_⟩
 ·exact q
 ·refine PJ hcf fun _ _ q=>?_;exact absurd q (hd _ _)
theorem Mm{l:Ah}{k j:Nat}{a b:AV}:(BC l k j a).set j (some b)=BC l k j b:=by unfold BC;rw[List.set_set]
structure RY (P:BW) (cx:Cx) (env:Env) (l:Ah) (K j:Nat) (src:AV) (it D:Addr) (Z:Sg) (s:Shared) (k:Nat) (acc:List AV) (hp':A0) (Z':Sg) (s':Shared):Prop where
 af:Ai P Z Z' [] hp' s s'
 fr:∃ lv,Ev P s'.heap Z' env cx lv/\∀ av,lv.set j (some av)=BC l K j av
 walk:Cs P s'.heap Z' it src k
 itn:it∉Z'.map (·.1)
 have_:∃ ws m,C8 s'.heap D (.type "list") (.seq ws m)/\RVs P.B s'.heap Z' acc ws.toList
 accn:D∉Z'.map (·.1)
 len:acc.length<=Ab
theorem pW{b:Addr}{o:Obj}(f:Ev P s.heap Z env cx l)(ho:s.heap.get? b=some o)(h1:∀ es ep,o.data≠.dict es ep)(h2:∀ v,o.data≠.cell v):b∉FX env:=by
 intro hm
 simp only[FX,bU,List.mem_map] at hm
 rcases hm with rfl|⟨p,hp,rfl⟩
 ·refine C4 f.nsObj fun o' es ep gq gm=>?_
  rw[ho] at gq;cases gq;exact h1 _ _ gm
 ·refine Av (f.cells p hp) fun o' v gq gm=>?_
  rw[ho] at gq;cases gq;exact h2 _ gm
structure RZ (P:BW) (s:Shared) (it D K:Addr):Prop where
 i0:s.heap.get? it=none
 ib:P.B.h₀.get? it=none
 d0:s.heap.get? D=none
 db:P.B.h₀.get? D=none
 k0:s.heap.get? K=none
 kb:P.B.h₀.get? K=none
 dk:D≠K
 di:D≠it
 ik:it≠K
structure W9 (P:BW) (cx:Cx) (c:CA) (n:Nat) (env:Env) (A:Around) (K:Addr) (elt:Expr) (x:Str) (ifs:List Expr) (p:CP):Prop where
 sims:ER P cx c n
 ar:E5 n c.q A
 tp:Tp env A
 hq:c.q=false
 wx:cx.slotW x=some p.j
 el:As P cx elt p.e
 ifs:(ifs=[]/\p.cs=.nil)\/∃ q xq,ifs=[q]/\p.cs=.cons xq .nil/\ES P cx q xq
 loc:env.kindOf x=some .local
 k:env.locals=K
noncomputable def De(c:CA)(p:CP)(l:Ah)(v:AV)(h:A0):B7 (Option AV):=Ft c p.e p.cs (BC l p.k p.j v) h
noncomputable def GA(P:BW)(cx:Cx)(env:Env)(c:CA)(p:CP)(l:Ah)(src:AV)(it D:Addr)(Z:Sg)(s:Shared)(R:B7 (List AV))(f:Nat)(s':Shared):Prop:=
 ∃ k acc hp' Z',AG (De c p l) src f k acc hp'=R/\RY P cx env l p.k p.j src it D Z s k acc hp' Z' s'
theorem QD{b:Addr}{h h':Heap}(hk:∀ x o,x≠b->h.get? x=some o->h'.get? x=some o)(hf:∃ o,h.get? b=some o/\¬ BQ o):Gp h h':=fun x o e f=>hk x o (fun q=>by
 subst q;refine A9 hf fun o2 e2 hf2=>?_;rw[e2] at e;cases e;exact hf2 f) e
section
variable {c:CA} {K it D:Addr} {elt:Expr} {x:Str} {ifs:List Expr} {p:CP} {src:AV} {acc:List AV} {R:B7 (List AV)} {f k:Nat}
theorem Wa(ap:RZ P s it D K){bc bn:A0}{ay bf:Sg}{aq ak:Shared}{lv:Ah}{xv:AV}{w:Value}{ws:Array Value}{m:Nat}(hset:∀ av,lv.set p.j (some av)=BC l p.k p.j av)
  (a4:Ai P Z ay [] bc s aq) (aw:Ai P ay bf [] bn aq ak) (fr:Ev P ak.heap bf env cx lv) (gp:Cs P aq.heap ay it src (k+1)) (hin:it∉ay.map (·.1)) (hD:C8 aq.heap D (.type "list") (.seq ws m)) (ja:RVs P.B aq.heap ay acc ws.toList) (hDn:D∉ay.map (·.1))
  (iz:RV P.B ak.heap bf xv w) (hR:(if acc.length<Ab then AG (De c p l) src f (k+1) (acc++[xv]) bn else .bad)=R) (hne:R≠.bad) :
  wpAny (model P.prog P.w) A (call (.builtin "list.append") [.ref D,w]) (fun _ s'=>∃ m,m<f+1/\GA P cx env c p l src it D Z s R m s') E ak:=by
 have gr:=aw.gr
 have u1:C8 ak.heap D (.type "list") (.seq ws m):=L0 gr hD (fun _ _ e=>nomatch e) hDn (fun h=>nomatch h)
 have u0:=RVs.grows gr _ _ ja
 have u4:=u0.size
 have u2:D∉bf.map (·.1):=Bo gr hD hDn
 have u3:¬ BQ ({ cls:=.type "list",data:=.seq ws m }:Obj):=fun q=>absurd (Value.type.inj q) (by decide)
 refine xA (Ew gr hin (fun h=>nomatch h) gp) fun hit5 hin5=>?_
 split at hR
 ·rename_i hlt
  refine append_at u1 (fun ff ct dc=>?_) (by have t0:=AY (dY hlt);exact A6 u4 t0)
  refine JZ ((a4.trans aw).extBut (t:=ak.toks) ct.extBut ap.d0 u2 ap.db ⟨_,u1,u3⟩) fun a7 hx7 hk7=>?_
  have g7:AN bf bf [D] ak.heap ff:=.sameBut ct (fun o e=>by rw[u1] at e;cases e;exact u3) (.inr aH) dc
  exact⟨f,eB f,k+1,acc++[xv],bn,bf,hR,a7,⟨_,fr.extBut (pW fr u1 (fun _ _ e=>nomatch e) (fun _ e=>nomatch e)) hx7 hk7,hset⟩,hit5.keep g7 (ct.2 it (gF ap.di)),hin5,
   ⟨ws.push w,m+1,dc,by rw[iS];exact(RVs.fixes (QD hk7 ⟨_,u1,u3⟩) _ _ u0).append ⟨hx7 _ _ iz,trivial⟩⟩,u2,by rw[aC,bV];exact hlt⟩
 ·exact absurd hR.symm hne
theorem Ub(cs:W9 P cx c n env A K elt x ifs p)(Fr:LI P s.heap Z A)(ap:RZ P s it D K){ac:A0}{Z₁:Sg}{s₁:Shared}{lv:Ah}{av:AV}{u:Value}{px:Pos}{ws:Array Value}{m:Nat}(hset:∀ av,lv.set p.j (some av)=BC l p.k p.j av)
  (aa:Ai P Z Z₁ [] ac s s₁) (fr:Ev P s₁.heap Z₁ env cx lv) (ru:RV P.B s₁.heap Z₁ av u) (gp:Cs P s₁.heap Z₁ it src (k+1)) (hin:it∉Z₁.map (·.1)) (hD:C8 s₁.heap D (.type "list") (.seq ws m)) (ja:RVs P.B s₁.heap Z₁ acc ws.toList) (hDn:D∉Z₁.map (·.1)) (hlen:acc.length<=Ab)
  (hR:(De c p l av ac).bind (fun r h=>match r with
   | some x=>if acc.length<Ab then AG (De c p l) src f (k+1) (acc++[x]) h else .bad
   | none=>AG (De c p l) src f (k+1) acc h)=R) (hne:R≠.bad)
  (hexc:∀ ay bc aq v ak,Ai P Z ay [] bc s aq->(∃ m,aq.heap.Ns K m)->K∉ay.map (·.1)->QE P ay aq R v ak->E v ak) :
  wpAny (model P.prog P.w) A (assign (.Name x px) env u) (fun _ ae=>
   wpAny (model P.prog P.w) A (forIn ifs true fun c r=>if r=true then do let ok <- isTrue c env (eval c env);pure (ForInStep.yield ok) else pure (ForInStep.yield r)) (fun ok aj=>
    if ok=true then wpAny (model P.prog P.w) A (eval elt env) (fun x aq=>
     wpAny (model P.prog P.w) A (call (.builtin "list.append") [.ref D,x]) (fun _ ak=>∃ m,m<f+1/\GA P cx env c p l src it D Z s R m ak) E aq) E aj
    else ∃ m,m<f+1/\GA P cx env c p l src it D Z s R m aj) E ae) E s₁:=by
 have u4:=cs.k
 refine gD (OA (X:=[K]) aa.st fr cs.wx ru (fun _=>by rw[u4];exact aH) (fun hne=>absurd cs.loc hne) fun aj ai bp _=>?_)
 rw[hset av] at bp
 have a4:Ai P Z Z₁ [] ac s aj:=by
  have z:=(aa.more (Y:=[K]) (fun _ h=>nomatch h)).trans ai
  exact⟨z.ctl,z.st,z.gr.drop fun b hb=>.inr (by rw[List.mem_singleton.mp hb];exact ap.k0)⟩
 have u3:C8 aj.heap D (.type "list") (.seq ws m):=L0 ai.gr hD (fun _ _ e=>nomatch e) hDn (fun q=>ap.dk (List.mem_singleton.mp q))
 have u0:=RVs.grows ai.gr _ _ ja
 refine xA (Ew ai.gr hin (fun q=>ap.ik (List.mem_singleton.mp q)) gp) fun ju hin3=>?_
 have u5:evalConds c p.cs (BC l p.k p.j av) ac≠.bad:=fun e=>by
  unfold De Ft at hR;rw[e] at hR;exact hne hR.symm
 have u6:∀ k h',evalConds c p.cs (BC l p.k p.j av) ac≠.exc k h':=fun k h' e=>by
  unfold De Ft at hR;rw[e] at hR;exact hne hR.symm
 refine aT (QA cs.ifs cs.sims ⟨a4.st,bp,cs.ar,Fr.after a4.gr,cs.tp⟩ u5 u6) (fun b aq q=>?_) (fun _ _ q=>q.elim)
 refine Av q fun bc ay e4 au=>?_
 have hR:((if b then (A1 c p.e (BC l p.k p.j av) bc).bind fun x h=>.ok (some x) h else .ok none bc:B7 (Option AV)).bind (fun r h=>match r with
   | some x=>if acc.length<Ab then AG (De c p l) src f (k+1) (acc++[x]) h else .bad
   | none=>AG (De c p l) src f (k+1) acc h))=R:=by
  unfold De Ft at hR
  rw[e4] at hR
  exact hR
 have bj:=bp.after au
 have a5:=a4.trans au
 refine xA (Ew au.gr hin3 (fun h=>nomatch h) ju) fun hit4 hin4=>?_
 have hD4:C8 aq.heap D (.type "list") (.seq ws m):=L0 au.gr u3 (fun _ _ e=>nomatch e) hDn (fun h=>nomatch h)
 have hacc4:=RVs.grows au.gr _ _ u0
 have hDn4:D∉ay.map (·.1):=Bo au.gr u3 hDn
 rcases b with _|_
 case false=>exact⟨f,eB f,k+1,acc,bc,ay,hR,a5,⟨_,bj,fun _=>Mm⟩,hit4,hin4,⟨ws,m,hD4,hacc4⟩,hDn4,hlen⟩
 case true=>
  rw[if_pos rfl] at hR |-
  have u2:=cs.el c n env A ay (BC l p.k p.j av) bc aq cs.sims ⟨a5.st,bj,cs.ar,Fr.after a5.gr,cs.tp⟩
  have u1:(∃ m,aq.heap.Ns K m)/\K∉ay.map (·.1):=by rw[<- u4];exact⟨bj.names.imp fun m q=>q.1,bj.out.1⟩
  refine aT (u2 fun e=>by rw[e] at hR;exact hne hR.symm) (fun w ak q=>?_) (fun v ak q=>hexc ay bc aq v ak a5 u1.1 u1.2 ?_)
  ·obtain⟨xv,bn,bf,e,aw,iz⟩:=q
   rw[e] at hR
   exact Wa ap (fun _=>Mm) a5 aw (bj.after aw) hit4 hin4 hD4 hacc4 hDn4 iz hR hne
  ·obtain⟨k,bn,bf,e,er,ev,aw,fl⟩:=q
   rw[er] at hR
   exact⟨k,bn,bf,e,hR.symm,ev,aw,fl⟩
theorem Uc(cs:W9 P cx c n env A K elt x ifs p)(Fr:LI P s.heap Z A)(ap:RZ P s it D K){iter:Expr}{scope:Scope}{px pos:Pos}{R':Result->Shared->Prop}{s₀:Shared}(h₀:GA P cx env c p l src it D Z s R c.fuel s₀)(hne:R≠.bad)(gh:∀ vs al,R=.ok vs al->vs.length<=Ab)
  (ka:∀ vs al Z' lv ak,R=.ok vs al->Ai P Z (Z'++[(D,0)]) [] (al++[.list vs]) s ak->Z'.length=al.length->Ev P ak.heap Z' env cx lv->R' (.ok .next) ak)
  (hexc:∀ ay bc aq v ak,Ai P Z ay [] bc s aq->(∃ m,aq.heap.Ns K m)->K∉ay.map (·.1)->QE P ay aq R v ak->notedBy (model P.prog P.w) A env (fun e s'=>R' (.error e) s') v ak) :
  codeAny (model P.prog P.w) A (.compLoop (.ListComp elt [⟨.Name x px,iter,ifs,0⟩] scope pos) 0 (.ref it) (.ref D) env) R' s₀:=by
 refine codeAny_compLoop_tests (GA P cx env c p l src it D Z s R) ?_ c.fuel h₀
 rintro f s' ⟨k,acc,hp',Z',u0,J⟩
 refine A9 J.fr fun lv fr hlv=>?_
 have ho:=J.walk.obj
 rcases f with _|f
 case zero=>exact absurd u0.symm hne
 case succ=>
  rw[H8] at u0
  rcases hnx:Bj src k hp' with _|r
  case none=>rw[hnx] at u0;exact absurd u0.symm hne
  case some=>
   rw[hnx] at u0
   refine Av J.have_ fun ws m hD ja=>?_
   have u2:=Gy fr ho
   refine Hd J.af.st (cs.ar.handled cs.hq) J.walk hnx (fun er h' hs=>?_) (fun av u h' t er ru hs jn=>?_)
   ·subst er
    have u0:B7.ok acc hp'=R:=u0
    refine JZ (J.af.extBut (t:=s'.toks) hs ap.i0 J.itn ap.ib ho.notFixed) fun a' kg gk=>?_
    have fg:=a'.st.adopt (off:=0) (ao:=.list acc) J.accn ap.db fun kl=>⟨ws,m,gk D _ ap.di hD,RVs.mono (fun _ _ x _=>x) kl _ _ (RVs.fixes (QD gk ho.notFixed) _ _ ja),AY (gh _ _ u0.symm)⟩
    exact ka acc hp' Z' lv _ u0.symm ⟨a'.ctl,fg,a'.gr.adopt ap.d0⟩ a'.st.len (fr.extBut u2 kg gk)
   ·subst er
    refine JZ (J.af.extBut (t:=t) hs ap.i0 J.itn ap.ib ho.notFixed) fun a' kg gk=>?_
    have u1:=QD gk ho.notFixed
    exact Ub (s₁:={ s' with heap:=h',toks:=t }) cs Fr ap hlv a' (fr.extBut u2 kg gk) (kg _ _ ru) (jn u1) J.itn (gk D _ ap.di hD) (RVs.fixes u1 _ _ ja) J.accn J.len u0 hne hexc
end
end
end
section
open PySem PySem.Spec PyProof.Rows PySem.SeqAt
section
variable {P:BW} {cx:Cx} {env:Env} {A:Around} {Z Z':Sg} {l:Ah} {hp hp':A0} {s s':Shared} {n:Nat} {scope:Scope} {c:CA}
theorem OF(hok:El cx scope=true)(f:Ev P s.heap Z env cx l):scope.kind=.function/\(∀ q∈scope.names,q.2=.local->scope.names.lookup q.1=some .local)/\(∀ q∈scope.names,q.2≠.cell) /\
  ∀ q∈scope.names,q.2=.free->∃ c',env.cells.lookup q.1=some c':=by
 unfold El at hok
 rw[aG,aG,decide_eq_true_eq,beq_iff_eq] at hok
 refine xA hok fun A6 km=>?_;try clear hok;refine xA A6 fun jb jp=>?_
 refine⟨jb,fun q hq e=>?_,fun q hq e=>?_,fun q hq e=>?_⟩
 ·obtain⟨a,b⟩:=q
  rcases (show b=.local from e) with rfl
  exact Dv jp hq
 ·have t0:=List.all_eq_true.mp km q hq
  unfold H7 at t0
  rw[e] at t0
  cases t0
 ·have u0:=List.all_eq_true.mp km q hq
  unfold H7 at u0
  rw[e] at u0
  dsimp only at u0
  rw[aG,beq_iff_eq] at u0
  refine xE (Option.isSome_iff_exists.mp u0.2) fun i' hi'=>?_
  have hk:=f.kinds _ _ u0.1 (.inr rfl)
  refine A9 f.names fun m _ hm=>?_
  rcases hm q.1 i' hi' with ⟨h1,_⟩|⟨_,c',_,h1,_⟩
  ·rw[hk] at h1;cases h1
  ·exact⟨c',h1⟩
theorem pX{p:CP}(hb:EJ c p l hp≠.bad):∃ src ac xs,c.q=false/\A1 c p.it l hp=.ok src ac/\CH src ac=some xs/\EJ c p l hp=(AG (De c p l) src c.fuel 0 [] ac).bind fun vs h=>Au vs h:=by
 rw[vO] at hb |-
 rcases hr:A1 c p.it l hp with ⟨src,ac⟩|⟨_,_⟩|_
 case bad=>rw[hr] at hb;exact absurd rfl hb
 case exc=>rw[hr] at hb;exact absurd rfl hb
 case ok=>
  rw[hr] at hb
  have hb:(if c.q=true then B7.bad else (AG (De c p l) src c.fuel 0 [] ac).bind fun vs h=>Au vs h)≠.bad:=hb
  have hg:((B7.ok src ac).noExc.bind fun src h=>if c.q=true then B7.bad else (AG (fun v h=>Ft c p.e p.cs (BC l p.k p.j v) h) src c.fuel 0 [] h).bind fun vs h=>Au vs h)=(if c.q=true then B7.bad else (AG (De c p l) src c.fuel 0 [] ac).bind fun vs h=>Au vs h):=rfl
  rw[hg]
  have hq:c.q=false:=by
   rcases hq:c.q with _|_
   case false=>rfl
   case true=>rw[hq] at hb;exact absurd rfl hb
  rw[if_neg (by rw[hq];exact aD)] at hb |-
  refine xE (QC (Ap hb)) fun xs hi=>?_
  exact⟨src,ac,xs,hq,rfl,hi,rfl⟩
theorem QF{h:Heap}{K:Addr}{mm:Str->Option Value}(x:h.Ns K mm):∃ o,h.get? K=some o/\¬ BQ o:=by
 refine B2 x fun o es ep ho hd _=>?_
 exact⟨o,ho,by unfold BQ;rw[hd];exact fun f=>f⟩
theorem Nt{e:Value}{env env':Env}(h:env.frame=env'.frame):noteFrame e env=noteFrame e env':=by
 unfold noteFrame frameOf
 rw[h]
theorem Ik.sameBut{k:Str}{e K:Addr}{h₀ h h':Heap}{mm:Str->Option Value}(f:Ik P Z h₀ k e h)(hn:h.Ns K mm)(hs:Heap.SameBut K h h'):Ik P Z h₀ k e h':=by
 refine DV f.obj fun oe vs C T oT ts fl h1 h2 h3 h4 h5 r=>?_
 refine JE r fun r1 r2 r3 r4 r5 r6 r7=>?_
 refine B2 hn fun o es ep ho hd _=>?_
 have ne:∀ b ob vs,h.get? b=some ob->ob.data=.fields vs->b≠K:=fun b ob vs q1 q2 q=>by
  rw[q,ho] at q1;cases q1;rw[hd] at q2;cases q2
 exact⟨⟨oe,vs,C,T,oT,ts,fl,(hs.2 e (ne e oe vs h1 h4)).trans h1,h2,h3,h4,h5,r1,(hs.2 T (ne T oT ts r2 r4)).trans r2,r3,r4,r5,r6,r7⟩,f.new,f.out⟩
theorem Wb{E:Value->Shared->Prop}{r:B7 AV}{k:Str}{e K:Addr}{bn:A0}{bf:Sg}{ak:Shared}{cenv:Env}{mm:Str->Option Value}(I:Inv P cx n q env A Z l hp s)(hc:cenv.frame=env.frame)(er:r=.exc k bn)(a:Ai P Z bf [] bn s ak)(fl:Y3 P bf s.heap k e ak.heap)
  (hK:s.heap.get? K=none) (hKZ:K∉bf.map (·.1)) (hKb:P.B.h₀.get? K=none) (gz:ak.heap.Ns K mm) (hE:∀ v s',QE P Z s r v s'->E v s') :
  wpAny (model P.prog P.w) A (noteFrame (.ref e) cenv) (fun _ s'=>∃ m,s'.heap.Ns K m/\∀ h',Heap.SameBut K s'.heap h'->∀ c':Env,c'.locals=K->wpAny (model P.prog P.w) A (PySem.passOn "comprehension.variables-let-go" (.ref e) c':Sem Value) (fun _ _=>False) E { s' with heap:=h' }) (fun _ _=>False) ak:=by
 refine B2 I.tp fun f gd L gu hf he=>?_
 rw[Nt (hc.trans (he.trans hf.symm))]
 have F:=I.fs.after a.gr
 refine xA (RW a) fun al1 al2=>?_
 refine KX gu F hf al1 al2 fl fun h' D t ft=>?_
 refine B2 gz fun o es ep ho hd hm=>?_
 have hD:K∉D:=fun gm=>by
  refine A9 ((t.new K gm).2.2 o ho) fun vs h1 _=>?_
  rw[hd] at h1;cases h1
 have u0:h'.Ns K mm:=I8 gz fun o' gq=>by
  rw[ho] at gq;cases gq
  refine UE (t.keep K o hD ho) fun _ sl e1=>?_
  exact .inr ⟨⟨es,ep,hd⟩,sl,e1⟩
 have a':=a.touch I.st.base t fun b hb=>F.place gu hb
 refine⟨mm,u0,fun bq hs c' _=>?_⟩
 have u1:=ft.sameBut u0 hs
 refine JZ (a'.extBut (t:=ak.toks) hs.extBut hK hKZ hKb (QF u0)) fun ah _ _=>?_
 refine DV u1.obj fun oe vs C T oT ts fv q1 q2 q3 q4 q5 r=>?_
 unfold PySem.passOn
 refine aA (gT q1 q4 q5 ?_)
 rw[if_neg (show ¬ (Value.ref T==Value.none)=true from by simp)]
 refine aA (FS (s:={ ak with heap:=bq }) (Fs:=[]) u1 fun bu D' t' ft'=>wpAny_throw (hE _ _ ?_))
 have ai:=ah.touch I.st.base t' fun b hb=>nomatch hb
 exact⟨k,bn,bf,e,er,rfl,ai,ft'.fly⟩
theorem pY{Z₁:Sg}{ac:A0}{X:List Addr}(a:Ai P Z Z₁ X ac s s'){b:Addr}(hb:s'.heap.objs.size<=b):s'.heap.get? b=none/\s.heap.get? b=none/\b∉Z₁.map (·.1)/\P.B.h₀.get? b=none:=by
 have h1:s'.heap.get? b=none:=eZ hb
 refine⟨h1,?_,fun hm=>?_,?_⟩
 ·rcases hq:s.heap.get? b with _|o
  case none=>rfl
  case some=>refine xE (a.gr.ex _ o hq) fun o' e'=>?_;rw[h1] at e';cases e'
 ·refine A9 (List.mem_map.mp hm) fun p hp A6=>?_;subst A6
  refine A9 (a.st.there hp) fun ob e _=>?_
  rw[h1] at e;cases e
 ·rcases hq:P.B.h₀.get? b with _|o
  case none=>rfl
  case some=>rw[a.st.base b o hq] at h1;cases h1
noncomputable def DO:Obj:={ cls:=.type "list",dict:=none,data:=.seq ([]:List Value).toArray }
theorem Mn{elt iter:Expr}{x:Str}{px pos pp:Pos}{ifs:List Expr}{p:CP}(hok:El cx scope=true)(hx:scope.names.lookup x=some .local)(hwx:(Ce cx scope).slotW x=some p.j)(hpk:p.k=(BK scope).length)
  (hce:∃ kk,Ag kk cx iter=some p.it) (hsi:As P cx iter p.it) (hel:As P (Ce cx scope) elt p.e) (hifs:(ifs=[]/\p.cs=.nil)\/∃ q xq,ifs=[q]/\p.cs=.cons xq .nil/\ES P (Ce cx scope) q xq)
  (C:ER P cx c n) (I:Inv P cx n c.q env A Z l hp s) (hb:EJ c p l hp≠.bad) {use:Option (Value->Sem Unit)} {Q:Value->Shared->Prop} {E:Value->Shared->Prop} (hE:∀ v s',QE P Z s (EJ c p l hp) v s'->E v s')
  (hfin:∀ Z' bo ak D K mm,Ai P Z (Z'++[(D,0)]) [] bo s ak->EJ c p l hp=.ok (.loc Z'.length) bo->s.heap.get? K=none->K∉(Z'++[(D,0)]).map (fun p:Addr×Nat=>p.1)->P.B.h₀.get? K=none->ak.heap.Ns K mm->compPost (model P.prog P.w) A E use Q (.ref D) K (.ok .next) ak) :
  wpAny (model P.prog P.w) A (comprehension (.ListComp elt [⟨.Name x px,iter,ifs,0⟩] scope pos) scope env pp (PySem.newList []) false (eval iter env) use) Q E s:=by
 obtain⟨kk,hce⟩:=hce
 refine DU (pX hb) fun src ac xs hq hr hi ecp=>?_
 have u6:((AG (De c p l) src c.fuel 0 [] ac).bind fun vs h=>Au vs h)≠.bad:=by rw[<- ecp];exact hb
 refine MS (OF hok I.fr) fun jb hhl hcell kn=>?_
 refine F5 (Qy (env:=env) (scope:=scope) kn) fun cl hclos sub has=>?_
 have u1:=hsi c n env A Z l hp s C I (by rw[hr];exact fun e=>nomatch e)
 rw[hr] at u1
 refine wpAny_comprehension_free rfl (fun v=>Mj hce v) hclos jb hhl (aT u1 (fun xv s₁ q=>?_) fun _ _ e=>(e.none (by intro _ _ z;cases z)).elim)
 obtain⟨_,_,Z₁,e,aa,rv⟩:=q
 cases e
 refine IW C.ok aa.st rv hi fun it ae hn0 hnZ hnb ah gp=>?_
 have ah:=aa.trans ah
 have v6:s.heap.get? it=none:=by
  rcases hq:s.heap.get? it with _|o
  case none=>rfl
  case some=>refine xE (aa.gr.ex _ o hq) fun o' e'=>?_;rw[hn0] at e';cases e'
 refine C4 gp.obj fun oi _ _ kc _=>?_
 refine fJ (wpAny_newFunctionEnv hcell (by intro y hy;simp at hy) (fun ax cu de=>?_) jb)
 replace cu:ax.Ns (ae.heap.push DO).objs.size _:=cu
 have u5:=pY ah (aS ae.heap.objs.size)
 have u0:=pY ah (b:=(ae.heap.push DO).objs.size) (by rw[IQ];exact fZ _)
 have u7:ae.heap.objs.size≠(ae.heap.push DO).objs.size:=by rw[IQ];exact cE (eB _)
 have u4:∀ b o,ae.heap.get? b=some o->ax.get? b=some o:=fun b o e=>de.extBut b o (fun q=>by rw[q] at e;exact absurd (e.symm.trans u0.1) (fun z=>nomatch z)) (aV _ (aV _ e))
 have v3:ax.get? ae.heap.objs.size=some DO:=de.extBut _ _ u7 (aV _ (bG _ rfl))
 have ai:Ai P Z Z₁ [] ac s { ae with heap:=ax,toks:=ae.toks+([]:List (Str×Value)).length }:=ah.trans ⟨rfl,ah.st.keep u4,Bk u4⟩
 have v2:=U9 (I.fr.after ah) hok sub has (C:=(ae.heap.push DO).objs.size) cu u4 u0.2.2.1 u0.2.2.2
 have u8:ae.heap.objs.size≠it:=fun q=>by rw[<- q,u5.1] at kc;cases kc
 have u9:it≠(ae.heap.push DO).objs.size:=fun q=>by rw[q,u0.1] at kc;cases kc
 have ap:RZ P s it ae.heap.objs.size (ae.heap.push DO).objs.size:=⟨v6,hnb,u5.2.1,u5.2.2.2,u0.2.1,u0.2.2.2,u7,u8,u9⟩
 have cs:W9 P (Ce cx scope) c n (compEnvC scope cl (ae.heap.push DO).objs.size env) A (ae.heap.push DO).objs.size elt x ifs p:=⟨⟨C.ok,C.f,C.fq,C.meths,C.attrs,C.cls,C.init,C.exc,C.g⟩,I.ar,I.tp,hq,hwx,hel,hifs,lookup_relabel_local hx,rfl⟩
 have dg:RY P (Ce cx scope) (compEnvC scope cl (ae.heap.push DO).objs.size env) l p.k p.j src it ae.heap.objs.size Z s 0 [] ac Z₁ { ae with heap:=ax,toks:=ae.toks+([]:List (Str×Value)).length }:=
  ⟨ai,⟨_,v2,fun av=>by rw[hpk];rfl⟩,gp.keep (X:=[]) (Bk u4) ((u4 it oi kc).trans kc.symm),hnZ,⟨#[],0,v3,trivial⟩,u5.2.2.1,bE _⟩
 generalize v5:AG (De c p l) src c.fuel 0 [] ac=R at ecp u6
 have u2:∀ vs al,R=.ok vs al->vs.length<=Ab/\EJ c p l hp=.ok (.loc al.length) (al++[.list vs]):=fun vs al e=>by
  rw[e] at u6 ecp
  have v1:vs.length<=Ab:=aI fun hn=>u6 (if_neg hn)
  exact⟨v1,ecp.trans (if_pos v1)⟩
 have u3:=Uc cs I.fs ap (iter:=iter) (scope:=scope) (px:=px) (pos:=pos) (R':=compPost (model P.prog P.w) A E use Q (.ref ae.heap.objs.size) (ae.heap.push DO).objs.size) ⟨0,[],ac,Z₁,v5,dg⟩ (Ap u6) (fun vs al e=>(u2 vs al e).1) (fun vs al Z' lv ak e aw hlen fr'=>by
  refine A9 fr'.names fun mm hnsC _=>?_
  refine hfin Z' _ ak _ _ mm aw (by rw[hlen];exact(u2 vs al e).2) u0.2.1 ?_ u0.2.2.2 hnsC
  rw[aU,dX]
  rintro (q|q)
  ·exact fr'.out.1 q
  ·exact u7 (List.mem_singleton.mp q).symm) (fun ay bc aq v ak a4 hns4 hK4 q=>by
  obtain⟨k,bn,bf,e,er,ev,aw,fl⟩:=q
  subst ev
  refine xE hns4 fun mm gz=>?_
  refine C4 gz fun oK _ _ hoK _=>?_
  have v4:=Bo aw.gr hoK hK4
  have v0:ak.heap.Ns (ae.heap.push DO).objs.size mm:=I8 gz fun o ho=>aw.gr.oth _ o ho hK4 (fun q=>nomatch q)
  have z:=Wb (cenv:=compEnvC scope cl (ae.heap.push DO).objs.size env) (E:=E) I rfl (show EJ c p l hp=.exc k bn by rw[ecp,er];rfl) (a4.trans aw) (fl.lift a4.gr) u0.2.1 v4 u0.2.2.2 v0 hE
  exact aT z (fun _ s' q=>by cases use<;>exact q) (fun _ _ q=>q.elim))
 exact codeAny_compStart_list u3 (Ua dg.walk u3)
theorem lF{K:Addr}(f:Ev P s.heap Z env cx l)(h:s.heap.get? K=none):K∉FX env:=fun hm=>by
 rcases List.mem_cons.mp hm with q|hm
 ·refine C4 f.nsObj fun o' _ _ gq _=>?_
  rw[<- q,h] at gq;cases gq
 ·refine A9 (List.mem_map.mp hm) fun p hp q=>?_
  refine Av (f.cells p hp) fun o' _ gq _=>?_
  rw[q,h] at gq;cases gq
structure lG (P:BW) (cx:Cx) (elt:Expr) (x:Str) (iter:Expr) (ifs:List Expr) (scope:Scope) (p:CP):Prop where
 ok:El cx scope=true
 hx:scope.names.lookup x=some .local
 wx:(Ce cx scope).slotW x=some p.j
 pk:p.k=(BK scope).length
 ce:∃ kk,Ag kk cx iter=some p.it
 si:As P cx iter p.it
 el:As P (Ce cx scope) elt p.e
 ifs:(ifs=[]/\p.cs=.nil)\/∃ q xq,ifs=[q]/\p.cs=.cons xq .nil/\ES P (Ce cx scope) q xq
theorem Wc{elt iter:Expr}{x:Str}{px pos:Pos}{ifs:List Expr}{p:CP}(o:lG P cx elt x iter ifs scope p):As P cx (.ListComp elt [⟨.Name x px,iter,ifs,0⟩] scope pos) p.x:=by
 intro c n env A Z l hp s C I hb
 show wpAny _ A (eval (.ListComp elt [⟨.Name x px,iter,ifs,0⟩] scope pos) env) _ _ _
 refine Mn (P:=P) (px:=px) (pos:=pos) o.ok o.hx o.wx o.pk o.ce o.si o.el o.ifs C I (show EJ c p l hp≠.bad from hb) (use:=none) (fun _ _ q=>q) fun Z' bo ak D K mm aw er hK hKZ hKb gz=>?_
 refine⟨mm,gz,fun h' hs=>?_⟩
 rw[show A1 c p.x l hp=_ from er]
 refine JZ (aw.extBut (t:=ak.toks) hs.extBut hK hKZ hKb (QF gz)) fun cv dh dj=>?_
 exact⟨_,_,_,rfl,cv,D,0,rfl,aY⟩
theorem QG {elt iter : Expr} {x y : Str} {px py pos spos : Pos} {ifs : List Expr} {p : CP} {i : Nat} (o : lG P cx elt x iter ifs scope p) (hput : Rj cx y py (.ListComp elt [⟨.Name x px, iter, ifs, 0⟩] scope pos) = true) (hwy : cx.slotW y = some i) :
    Cm P cx (.Assign [.Name y py] (.ListComp elt [⟨.Name x px, iter, ifs, 0⟩] scope pos) spos) (.asg i p.x) := by
  intro c n env A Z l hp s C I hb
  have hput : (cx.sc.names.lookup y == some .local && py.line == pos.line && !(scope.names.any fun p => p.1 == y && (p.2 == .local || p.2 == .cell))) = true := hput
  rw [aG, aG, beq_iff_eq (a := cx.sc.names.lookup y), dJ] at hput
  refine xA hput fun A6 hny => ?_; try clear hput; refine xA A6 fun hy gi => ?_
  rw [I6] at hb |-
  have u2 : swapsWith (.ListComp elt [⟨.Name x px, iter, ifs, 0⟩] scope pos) (some (.Name y py)) spos.line env = pure true := by
    show (pure (env.blockKind == .function && env.kindOf y == some .local && py.line == pos.line && !(scope.names.any fun p => p.1 == y && (p.2 == .local || p.2 == .cell))) : Sem Bool) = _
    rw [I.fr.kinds y .local hy (.inl rfl), gi, hny]
    unfold Env.blockKind
    rw [I.fr.kind]
    rfl
  rw [exec_Assign_Name_used _ _ _ _ u2]
  refine aA (dS (aA ?_))
  show wpAny _ A (do let _ <- comprehension (.ListComp elt [⟨.Name x px, iter, ifs, 0⟩] scope pos) scope env _ (PySem.newList []) false (eval iter env) (some (assign (.Name y py) env))) _ _ s
  refine aA (aT (Mn (P := P) (px := px) (pos := pos) o.ok o.hx o.wx o.pk o.ce o.si o.el o.ifs C I.toInv (EH hb) (use := some (assign (.Name y py) env)) (E := HP P env cx Z s ((EJ c p l hp).st l fun v h => .ok .next (l.set i (some v)) h)) (fun _ _ q => q.st I.fr) (Q := fun _ s' => QS P env cx Z s ((EJ c p l hp).st l fun v h => .ok .next (l.set i (some v)) h) .next s')
    fun Z' bo ak D K mm aw er hK hKZ hKb gz => ?_) (fun _ s' hq => aJ (aJ hq)) fun _ _ e => e)
  rw [er]
  show wpAny _ A (assign (.Name y py) env (.ref D)) _ _ _
  have u1 := lF I.fr hK
  refine gD (Dc aw.st (I.fr.after aw) hwy (av := .loc Z'.length) ⟨D, 0, rfl, aY⟩ fun dm dn fh _ => ?_)
  have u0 : dm.heap.Ns K mm := I8 gz (fun o ho => dn.gr.oth K o ho hKZ u1)
  refine ⟨mm, u0, fun fy fi => ?_⟩
  refine JZ ((aw.toX.trans dn).extBut (t := dm.toks) fi.extBut hK hKZ hKb (QF u0)) fun cv dh dj => ?_
  exact ⟨_, _, _, _, rfl, cv, rfl, fh.extBut u1 dh dj⟩
end
end
section
open PySem PySem.Spec PyProof.Rows PySem.SeqAt
section
theorem L1{α:Type}:∀ {ps:List Str} {vs:List α},ps.Nodup->∀ {i:Nat} {x:Str} {v:α},ps[i]?=some x->vs[i]?=some v->(ps.zip vs).lookup x=some v
 | [],_,_,i,x,v,h,_=>by simp at h
 | _ :: _,[],_,i,x,v,_,h=>by simp at h
 | p :: ps,w :: ws,nd,0,x,v,h,h'=>by
  simp at h h';subst h;subst h'
  simp[List.lookup]
 | p :: ps,w :: ws,nd,i+1,x,v,h,h'=>by
  simp only[List.getElem?_cons_succ] at h h'
  have hne:(x==p)=false:=by
   rw[beq_eq_false_iff_ne]
   intro e;subst e
   exact(List.nodup_cons.mp nd).1 (aX h)
  simp only[List.zip_cons_cons,List.lookup,hne]
  exact L1 (List.nodup_cons.mp nd).2 h h'
theorem Hw{α:Type}:∀ {ps:List Str} {vs:List α},ps.Nodup->ps.length=vs.length->∀ (f:Str->Option α),(∀ x v,(x,v)∈ps.zip vs->f x=some v)->ps.filterMap (fun n=>(f n).map (n,·))=ps.zip vs
 | [],[],_,_,_,_=>rfl
 | [],_ :: _,_,h,_,_=>by simp at h
 | _ :: _,[],_,h,_,_=>by simp at h
 | p :: ps,v :: vs,nd,hl,f,hf=>by
  have h1:f p=some v:=hf p v (by simp)
  simp only[List.filterMap_cons,h1,fF,List.zip_cons_cons]
  rw[Hw (List.nodup_cons.mp nd).2 (by simpa using hl) f fun x v hm=>hf x v (by simp[hm])]
theorem vP{α:Type}{a b:Bool}{x y z:α}(ha:a=false)(hb:b=false):(if a=true then x else if b=true then y else z)=z:=by rw[ha,hb];rfl
theorem Wd{f q:Str}{args:List Arg}{kd:List (Option Expr)}{df:List Expr}{body:List Stmt}{scope:Scope}{pm cd jd:Value}{gy:List Value}
  (nd:(args.map (·.arg)).Nodup) (hl:(args.map (·.arg)).length=gy.length):bindArgs (methDef f q ⟨[],args,none,[],kd,none,df⟩ body scope pm cd jd) ⟨gy,[]⟩=pure ((args.map (·.arg)).zip gy):=by
 have hz:(((args.map (·.arg)).zip gy).map (·.1)).Nodup:=by
  rw[List.map_fst_zip (aE hl)];exact nd
 have hf:=Hw nd hl (fun n=>((args.map (·.arg)).zip gy).lookup n) fun x v hm=>Dv hz hm
 have hm:(args.map (·.arg)).filter (fun n=>(((args.map (·.arg)).zip gy).lookup n).isNone)=[]:=by
  rw[List.filter_eq_nil_iff]
  intro x hx
  refine xE (List.mem_iff_getElem.mp hx) fun i A6=>?_;refine xE A6 fun hi e=>?_
  have t0:=L1 (vs:=gy) nd (i:=i) (x:=x) (v:=gy[i]'(hl▸hi)) (by rw[aF hi,e]) (by rw[aF])
  rw[t0];exact aD
 have hb:∀ D:List Value,D=[]->(!((((args.map (fun x:Arg=>x.arg))).take ((args.map (fun x:Arg=>x.arg)).length-D.length)).filter (fun n=>(((args.map (fun x:Arg=>x.arg)).zip gy).lookup n).isNone)).isEmpty)=false:=by
  rintro _ rfl
  rw[dB,Nat.sub_zero,bS,hm];rfl
 have ha:(decide (gy.length > (args.map (fun x:Arg=>x.arg)).length)&&true)=false:=by
  rw[hl,iY,decide_eq_false_iff_not];exact fG _
 have u1:∀ {α β:Type} (x:α) (f:α->Sem β),(pure x >>= f)=f x:=fun _ _=>rfl
 have u0:∀ (l:List Str) (ds:List Value) (b:List (Str×Value)) (g:Str×Value->List (Str×Value)->Sem (ForInStep (List (Str×Value)))),ds=[]->forIn (l.zip ds) b g=pure b:=by
  rintro l _ b g rfl
  rw[List.zip_nil_right];rfl
 unfold bindArgs
 refine(u1 _ _).trans ((u1 none _).trans ((vP ha (hb _ List.drop_nil)).trans ?_))
 refine(congrArg (· >>= _) (u0 _ _ _ _ List.drop_nil)).trans ?_
 exact congrArg (pure (f:=Sem)) ((congrArg (List.filterMap _) (dC _)).trans hf)
theorem QH{params:Arguments}{f q:Str}{body:List Stmt}{scope:Scope}{pm cd jd:Value}{gy:List Value}(h1:params.posonlyargs=[])(h2:params.kwonlyargs=[])(h3:params.vararg=none)(h4:params.kwarg=none)
  (nd:(params.args.map (·.arg)).Nodup) (hl:(params.args.map (·.arg)).length=gy.length):bindArgs (methDef f q params body scope pm cd jd) ⟨gy,[]⟩=pure ((params.args.map (·.arg)).zip gy):=by
 obtain⟨po,ar,va,ko,kd,kw,df⟩:=params
 cases h1;cases h2;cases h3;cases h4
 exact Wd nd hl
end
section
theorem GB:∀ (names:List (Str×NameKind)) (n:Nat) (acc:List (Str×Addr)),(acc.map (·.1)).Nodup->(names.map (·.1)).Nodup->(∀ x∈names,x.1∉acc.map (·.1))->((cellsFrom n names acc).map (·.1)).Nodup
 | [],_,_,h,_,_=>h
 | (x,k) :: r,n,acc,h,h2,h3=>by
  simp only[aZ,dM] at h2
  unfold cellsFrom
  split
  ·refine GB r _ _ ?_ h2.2 fun y hy=>?_
   ·simp only[aZ,dM]
    exact⟨h3 (x,k) aH,h⟩
   ·simp only[aZ,bU,not_or]
    exact⟨fun e=>h2.1 (e▸cQ hy),h3 y (aL _ hy)⟩
  ·exact GB r _ _ h h2.2 fun y hy=>h3 y (aL _ hy)
theorem Hg:∀ (names:List (Str×NameKind)) (n:Nat) (acc:List (Str×Addr)) (x:Str),(names.lookup x=some .cell\/(acc.lookup x).isSome=true)->((cellsFrom n names acc).lookup x).isSome=true
 | [],_,_,_,h=>h.elim (fun e=>by simp at e) id
 | (y,k) :: r,n,acc,x,h=>by
  unfold cellsFrom
  split
  ·rename_i hk
   refine Hg r _ _ x ?_
   rcases hxy:x==y with _|_
   case true=>exact .inr (by simp[List.lookup,hxy])
   case false=>
    refine h.imp (fun e=>?_) fun e=>?_
    ·simpa only [List.lookup,hxy] using e
    ·simpa only [List.lookup,hxy] using e
  ·rename_i hk
   refine Hg r _ _ x (h.imp (fun e=>?_) id)
   rcases hxy:x==y with _|_
   case true=>simp only[List.lookup,hxy] at e;cases e;exact absurd rfl hk
   case false=>simpa only [List.lookup,hxy] using e
theorem L2{k:Str->Option NameKind}{x:Str}:∀ {bs:List (Str×Value)} {m:Str->Option Value},x∉bs.map (·.1)->bindL k bs m x=m x
 | [],_,_=>rfl
 | (n,v) :: r,m,h=>by
  simp only[aZ,bU,not_or] at h
  unfold bindL
  rw[L2 h.2]
  split
  ·exact if_neg h.1
  ·rfl
theorem L3{k:Str->Option NameKind}{x:Str}:∀ {bs:List (Str×Value)} {m:Str->Option Value},x∉bs.map (·.1)->bindC k bs m x=m x
 | [],_,_=>rfl
 | (n,v) :: r,m,h=>by
  simp only[aZ,bU,not_or] at h
  unfold bindC
  rw[L3 h.2]
  split
  ·rfl
  ·exact if_neg h.1
theorem OG{k:Str->Option NameKind}{x:Str}(hk:k x=some .local){v:Value}:∀ {bs:List (Str×Value)} {m:Str->Option Value},(bs.map (·.1)).Nodup->(x,v)∈bs->bindL k bs m x=some v
 | [],_,_,h=>nomatch h
 | (n,w) :: r,m,nd,h=>by
  simp only[aZ,dM] at nd
  unfold bindL
  rcases List.mem_cons.mp h with e|h2
  ·cases e
   rw[L2 nd.1,if_pos hk];exact if_pos rfl
  ·exact OG hk nd.2 h2
theorem OH{k:Str->Option NameKind}{x:Str}(hk:¬ k x=some .local){v:Value}:∀ {bs:List (Str×Value)} {m:Str->Option Value},(bs.map (·.1)).Nodup->(x,v)∈bs->bindC k bs m x=some v
 | [],_,_,h=>nomatch h
 | (n,w) :: r,m,nd,h=>by
  simp only[aZ,dM] at nd
  unfold bindC
  rcases List.mem_cons.mp h with e|h2
  ·cases e
   rw[L3 nd.1,if_neg hk];exact if_pos rfl
  ·exact OH hk nd.2 h2
end
theorem We{P:BW}{Z:Sg}{hp:A0}{s s₁:Shared}{sh:Sh}{params:Arguments}{scope:Scope}{fd:FuncData}{a:Addr}{gf:List AV}{vs:List Value}
  (S:St P.w P.B Z hp s.heap) (rv:RVs P.B s.heap Z gf vs) (hs:fd.scope=scope) (hok:Kj params scope=true) (hl:gf.length=(params.args.map (·.arg)).length) (hg:fd.globals=mainGlobals) (hb:fd.builtins=builtinsNs)
  (x:InCallC s (callEnvC fd s.heap.objs.size a).locals (bindL (callEnvC fd s.heap.objs.size a).kindOf ((params.args.map (·.arg)).zip vs) fun _=>none) (callEnvC fd s.heap.objs.size a).cells
    (bindC (callEnvC fd s.heap.objs.size a).kindOf ((params.args.map (·.arg)).zip vs) fun _=>none) s₁) :
  Ev P s₁.heap Z (callEnvC fd s.heap.objs.size a) (Rm sh (params.args.map (·.arg)) scope)
   (gf.map some++List.replicate ((C5 (params.args.map (·.arg)) scope).length-(params.args.map (·.arg)).length) none):=by
 subst hs
 have u7:=rv.length
 simp only[Kj,aG,dJ,decide_eq_true_eq,dR,eP,beq_iff_eq] at hok
 refine xA hok fun A6 hpar=>?_;try clear hok;obtain⟨⟨⟨⟨⟨⟨⟨⟨⟨ho1,ho2⟩,ho3⟩,ho4⟩,hk⟩,hgen⟩,hco⟩,hnp⟩,hnn⟩,kn⟩:=A6
 generalize u9:params.args.map (·.arg)=ps at *
 have u4:(callEnvC fd s.heap.objs.size a).kindOf=fun x=>fd.scope.names.lookup x:=rfl
 have u6:((cellsFrom (s.heap.objs.size+1) fd.scope.names []).map (·.1)).Nodup:=GB _ _ _ (by simp) hnn (by simp)
 have u5:((ps.zip vs).map (·.1)).Nodup:=by rw[List.map_fst_zip (ql (Ck _ _ _) [(Aj,Af),(Af,AA)] Aj AA rfl (aE (bO hl)) (aE u7))];exact hnp
 have u3:∃ r,C5 ps fd.scope=ps++r:=⟨_,rfl⟩
 obtain⟨r,u3⟩:=u3
 have u1:∀ (cx:Cx) y i,cx.sc=fd.scope->cx.loc=(C5 ps fd.scope).zipIdx->cx.slot y=some i->(C5 ps fd.scope)[i]?=some y/\((fd.scope.names.lookup y=some .local)\/fd.scope.names.lookup y=some .cell):=by
  intro cx y i e1 e2 h
  unfold Cx.slot at h
  rw[e1,e2] at h
  refine A9 (Option.bind_eq_some_iff.mp h) fun k gk h=>?_
  refine xA (Cr h) fun hkk h=>?_
  next=>
   next=>
    refine⟨by simpa using (CT h).2,?_⟩
    have u8:k≠.free:=by
     have t0:=List.all_eq_true.mp kn _ (Az gk)
     simpa using t0
    simp only[aG] at hkk
    have t1:=hkk.1
    rcases k with _|_<;>first|exact .inl gk|exact .inr gk|exact absurd rfl u8|exact absurd t1 aD
 have hfar:∀ c,s.heap.objs.size<=c->s.heap.get? c=none:=fun c hc=>by
  rcases hq:s.heap.get? c with _|o
  case none=>rfl
  case some=>exact absurd (cX hq) (Nat.not_lt.mpr hc)
 have u0:∀ c,s.heap.objs.size<=c->c∉Z.map (·.1)/\P.B.h₀.get? c=none:=fun c hc=>by
  refine⟨fun hm=>?_,?_⟩
  ·refine A9 (List.mem_map.mp hm) fun p hp A6=>?_;subst A6
   refine A9 (S.there hp) fun ob e _=>?_
   rw[hfar _ hc] at e;cases e
  ·rcases hq:P.B.h₀.get? c with _|o
   case none=>rfl
   case some=>have t2:=S.base c o hq;rw[hfar _ hc] at t2;cases t2
 have u2:∀ (i:Nat) (y:Str) (av:AV),(C5 ps fd.scope)[i]?=some y->(gf.map some++List.replicate ((C5 ps fd.scope).length-ps.length) none)[i]?=some (some av)->∃ v,(y,v)∈ps.zip vs/\RV P.B s₁.heap Z av v:=by
  intro i y av h1 h2
  have hi:i<gf.length:=by
   by_cases hi:i<gf.length
   ·exact hi
   ·rw[cU (by simpa using Nat.not_lt.mp hi),List.getElem?_replicate] at h2
    split at h2<;>cases h2
  rw[bB (by simpa using hi),aK] at h2
  refine A9 (Option.map_eq_some_iff.mp h2) fun av' e e'=>?_
  cases e'
  refine A9 (rv.get e) fun v hv r'=>?_
  rw[u3,bB (rV hi hl)] at h1
  refine⟨v,?_,RV.grows (Bk (X:=[]) x.toInCall.keep) _ _ r'⟩
  apply aX (i:=i)
  rw[List.getElem?_zip_eq_some]
  exact⟨h1,hv⟩
 refine⟨hk,?_,fun y z i h1 h2=>?_,fun y i h=>?_,fun y h=>?_,fun y i h=>?_,⟨_,x.toInCall.ns,fun y i h=>?_⟩,⟨(u0 _ (aS _)).1,fun p hp=>?_⟩,⟨(u0 _ (aS _)).2,fun p hp=>?_⟩,hg,hb,fun p hp=>?_,fun p hp q hq e=>?_,fun y k h _=>h⟩
 ·show _=(C5 ps fd.scope).length
  rw[aC,aB,List.length_replicate,u3,aC];exact sI hl
 ·have e1:=(u1 _ y i rfl rfl h1).1
  have e2:=(u1 _ z i rfl rfl h2).1
  rw[e1] at e2;exact Option.some.inj e2
 ·have e1:=(u1 _ y i rfl rfl h).1
  exact(List.getElem?_eq_some_iff.mp e1).1
 ·simp only[Cx.isGlob,aG,beq_iff_eq] at h
  exact h.1
 ·have e1:=(u1 _ y i rfl rfl (HQ h)).2
  show fd.scope.names.lookup y≠_
  rcases e1 with e1|e1<;>rw[e1]<;>simp
 ·refine xA (u1 _ y i rfl rfl h) fun h1 h2=>?_
  rcases h2 with h2|h2
  ·refine .inl ⟨h2,fun av e=>?_⟩
   refine A9 (u2 i y av h1 e) fun v hm r'=>?_
   exact⟨v,OG (k:=(callEnvC fd s.heap.objs.size a).kindOf) h2 u5 hm,r'⟩
  ·refine xE (Option.isSome_iff_exists.mp (Hg fd.scope.names (s.heap.objs.size+1) [] y (.inl h2))) fun c hc=>?_
   refine .inr ⟨.inl h2,c,_,hc,x.cell y c hc,fun av e=>?_⟩
   refine A9 (u2 i y av h1 e) fun v hm r'=>?_
   exact⟨v,OH (k:=(callEnvC fd s.heap.objs.size a).kindOf) (by show ¬ fd.scope.names.lookup y=_;rw[h2];simp) u5 hm,r'⟩
 ·exact(u0 _ (dY (x.above p.1 p.2 hp))).1
 ·exact(u0 _ (dY (x.above p.1 p.2 hp))).2
 ·refine A9 (x.cell p.1 p.2 (Dv u6 hp)) fun o ho hd=>?_
  exact⟨o,_,ho,hd⟩
 ·exact name_of_addr x.apart (c:=p.2) hp (by rw[e];exact hq)
end
section
open PySem PySem.Spec PyProof.Rows PySem.SeqAt
noncomputable def Xs.ctorIdx(v:Xs):Nat:=@Xs.casesOn (fun _=>Nat) v 0 (fun _ _=>1)
section
variable {P:BW} {cx:Cx}
theorem Ud{T:Str}{t:Ty}(h:pG T=some t):(T,Value.type (Nj t))∈B5:=by
 refine PV h (fun e h=>?_) fun h=>PV h (fun e h=>?_) fun h=>PV h (fun e h=>?_) fun h=>PV h (fun e h=>?_) A2<;>subst e<;>cases h
 ·exact RB
 ·exact V7
 ·exact RA
 ·exact Ta
theorem CC{t:Expr}{x:Str}(h:CG t=some x):∃ p,t=.Name x p:=by
 rcases t with _|_
 case Name=>cases h;exact⟨_,rfl⟩
 all_goals exact A2 h
theorem OI{e:Expr}{t:Ty}(h:PM cx e=some t):∃ T q,e=.Name T q/\cx.isGlob T=true/\(T,Value.type (Nj t))∈B5:=by
 refine A9 (Option.bind_eq_some_iff.mp h) fun x hx h2=>?_
 refine xE (CC hx) fun q A6=>?_;subst A6
 exact xA (Cr h2) fun hg h2=>⟨x,q,rfl,hg,Ud h2⟩
theorem Ue{as:List Expr}{t:Ty}(h:FE cx as=some t):∃ a b,as=[a,b]/\PM cx b=some t:=by
 rcases as with _|⟨a,r⟩
 case nil=>exact A2 h
 case cons=>
  rcases r with _|⟨b,r⟩
  case nil=>exact A2 h
  case cons=>
   rcases r with _|⟨_,_⟩
   case nil=>exact⟨a,b,rfl,h⟩
   case cons=>exact A2 h
variable {k:Nat}
theorem QI{as:List Expr}{y:X}{t:Ty}{q p:Pos}(hg:cx.isGlob "isinstance"=true)(hy:I0 (Ag k cx) as=some y)(ht:FE cx as=some t)(H:∀ e y,Ag k cx e=some y->As P cx e y):
  As P cx (.Call (.Name "isinstance" q) as [] p) (.isi y t):=by
 obtain⟨a,b,rfl,ht⟩:=Ue ht
 refine AF (OI ht) fun T q' A6 hgT hT=>?_;subst A6
 exact YB hg hgT hT (E6 hy) (H _ y hy)
theorem Uf{as:List Expr}{t:Expr}(h:UL as=some t):∃ a,as=[a,t]:=by
 rcases as with _|⟨a,_|⟨b,_|⟨_,_⟩⟩⟩<;>try exact A2 h
 exact⟨a,by rw[Option.some.inj h]⟩
theorem Ug{e:Expr}{p:Expr×Expr}(h:PN e=some p):∃ m q,e=.Tuple [p.1,p.2] m q:=by
 rcases e with _|_
 case Tuple es m q=>
  rcases es with _|⟨a,_|⟨b,_|⟨_,_⟩⟩⟩<;>try exact A2 h
  rw[<- Option.some.inj h];exact⟨m,q,rfl⟩
 all_goals exact A2 h
theorem Wf{e:Expr}{ks:List Str}(h:MY cx e=some ks):∃ T q,e=.Name T q/\YF cx T/\ks=taken cx.excs T:=by
 refine A9 (Option.bind_eq_some_iff.mp h) fun x hx h2=>?_
 refine xE (CC hx) fun q A6=>?_;subst A6
 refine xA (Cr h2) fun hg h2=>?_
 rw[aG] at hg
 exact⟨x,q,rfl,⟨hg.1,hg.2⟩,(Option.some.inj h2).symm⟩
theorem lH{e:Expr}{ks:List Str}(h:Kd cx e=some ks):Oz cx e ks:=by
 unfold Kd at h
 rcases hp:PN e with _|p<;>rw[hp] at h
 case some=>
  refine PJ (Ug hp) fun m q A6=>?_;subst A6
  refine A9 (Option.bind_eq_some_iff.mp h) fun a ha h=>?_
  refine A9 (Option.map_eq_some_iff.mp h) fun b hb A6=>?_;subst A6
  refine AF (Wf ha) fun T r A6 o1 Fk=>?_;subst Fk;rw[A6]
  refine AF (Wf hb) fun U r' A6 o2 Fk=>?_;subst Fk;rw[A6]
  exact .two o1 o2
 case none=>
  refine A9 (Option.bind_eq_some_iff.mp h) fun x hx h2=>?_
  refine xE (CC hx) fun q A6=>?_;subst A6
  refine xA (Cr h2) fun hg h2=>?_
  refine Ko h2 (fun ha h2=>?_) fun _ h2=>?_
  ·rw[<- Option.some.inj h2];exact .own ⟨hg,ha⟩
  ·refine xA (Cr h2) fun he h2=>?_
   rcases cA he with rfl
   rw[<- Option.some.inj h2];exact .ve hg
theorem Wg{as:List Expr}{y x:X}{q p:Pos}(hg:cx.isGlob "isinstance"=true)(hy:I0 (Ag k cx) as=some y)(h:JH cx y as=some x)(H:∀ e y,Ag k cx e=some y->As P cx e y):
  As P cx (.Call (.Name "isinstance" q) as [] p) x:=by
 unfold JH at h
 rcases ht:FE cx as with _|t<;>rw[ht] at h
 case some=>cases h;exact QI hg hy ht H
 case none=>
  refine A9 (Option.map_eq_some_iff.mp h) fun ks hk A6=>?_;subst A6
  refine A9 (Option.bind_eq_some_iff.mp hk) fun t ht hk=>?_
  refine xE (Uf ht) fun a A6=>?_;subst A6
  exact YG hg (lH hk) (E6 hy) (H _ y hy)
theorem Uh{v:Const}{m:Nat}{p:Pos}{x:X}(h:Fl v=some x):As P cx (.Constant v m p) x:=by
 rcases v with _|_<;>try exact A2 h
 all_goals rcases Option.some.inj h with rfl
 ·exact Vb
 ·exact Vc
 ·exact RD
 ·exact Y6
theorem Wh{y:Str}{p:Pos}{x:X}(h:Ge cx y=some x):As P cx (.Name y p) x:=by
 unfold Ge at h
 rcases hq:cx.slot y with _|i<;>rw[hq] at h
 case some=>cases h;exact Y7 hq
 case none=>
  refine xA (Cr h) fun hg h=>?_
  refine A9 (Option.bind_eq_some_iff.mp h) fun k hk h=>?_
  exact Ve hg hk h
theorem lI{op:UnaryOp}{e:Expr}{y:X}{p:Pos}{x:X}(h:UM op y=some x)(hy:As P cx e y):As P cx (.UnaryOp op e p) x:=by
 rcases op with _|_<;>try exact A2 h
 all_goals rcases Option.some.inj h with rfl
 ·exact Yt hy
 ·exact RR hy
theorem L4{f:Expr->Option X}{es:List Expr}(h:B6 f es=some .nil):es=[]:=by
 rcases es with _|⟨e,r⟩
 case nil=>rfl
 case cons=>
  refine A9 (A7 h) fun a ha h=>?_
  refine A9 (A7 h) fun b hb h=>?_
  cases Aw h
theorem GC{f:Expr->Option X}{es:List Expr}{x:X}{xs:Xs}(h:B6 f es=some (.cons x xs)):∃ e r,es=e :: r/\f e=some x/\B6 f r=some xs:=by
 rcases es with _|⟨e,r⟩
 case nil=>cases h
 case cons=>
  refine A9 (A7 h) fun a ha h=>?_
  refine A9 (A7 h) fun b hb h=>?_
  cases Aw h
  exact⟨e,r,rfl,ha,hb⟩
inductive lJ (f:Expr->Option X) (xl:X):List CmpOp->List Expr->X->Prop
 | one (op:CmpOp) (o:UF) (r:Expr) (y:X) (h1:BZ op=some o) (h2:f r=some y):lJ f xl [op] [r] (.cmp o xl y)
 | two (op op2:CmpOp) (o o2:UF) (m r:Expr) (y z:X) (h1:BZ op=some o) (h2:BZ op2=some o2) (h3:f m=some y) (h4:f r=some z):lJ f xl [op,op2] [m,r] (.cmp2 o o2 xl y z)
theorem QJ{ops:List CmpOp}{f:Expr->Option X}{rs:List Expr}{xl:X}{xr:Xs}{x:X}(hrs:B6 f rs=some xr)(h:Kg ops xl xr=some x):lJ f xl ops rs x:=by
 rcases ops with _|⟨op,ops⟩
 case nil=>exact A2 h
 case cons=>
  rcases xr with _|⟨y,ys⟩
  case nil=>exact A2 h
  case cons=>
   obtain⟨r,rs',rfl,h1,hrs⟩:=GC hrs
   rcases ops with _|⟨op2,ops⟩
   case nil=>
    rcases ys with _|⟨_,_⟩
    case cons=>exact A2 h
    case nil=>
     obtain⟨o,ho,rfl⟩:=Option.map_eq_some_iff.mp (show (BZ op).map (fun o=>X.cmp o xl y)=some x from h)
     rcases L4 hrs with rfl
     exact .one op o r y ho h1
   case cons=>
    rcases ops with _|⟨_,_⟩
    case cons=>exact A2 h
    case nil=>
     rcases ys with _|⟨z,zs⟩
     case nil=>exact A2 h
     case cons=>
      rcases zs with _|⟨_,_⟩
      case cons=>exact A2 h
      case nil=>
       obtain⟨r2,rs2,rfl,h3,hrs⟩:=GC hrs
       rcases L4 hrs with rfl
       refine A9 (A7 (show (do return X.cmp2 (<- BZ op) (<- BZ op2) xl y z)=some x from h)) fun o ho h=>?_
       refine A9 (A7 h) fun o2 ho2 h=>?_
       rcases Aw h with rfl
       exact .two op op2 o o2 r r2 y z ho ho2 h1 h3
theorem YK{f:Str}{as:List Expr}{xs:Xs}{b:BI}{q p:Pos}(hg:cx.isGlob f=true)(gn:B6 (Ag k cx) as=some xs)(hS:DJ P cx as xs)(h:kF f=some b):As P cx (.Call (.Name f q) as [] p) (.bi b xs):=by
 rcases List.mem_cons.mp (Az h) with e|m
 ·cases e;exact Qn (fun _ _ _=>rfl) Y4 VH hg gn hS
 rcases List.mem_cons.mp m with e|m
 ·cases e;exact Qn (fun _ _ _=>rfl) Q7 Ox hg gn hS
 rcases List.mem_cons.mp m with e|m
 ·cases e;exact KQ (fun _ _ _=>rfl) V6 TJ hg gn hS
 rcases List.mem_cons.mp m with e|m
 ·cases e;exact KQ (fun _ _ _=>rfl) V8 TK hg gn hS
 rcases List.mem_cons.mp m with e|m
 ·cases e;exact KQ (fun _ _ _=>rfl) RA VK hg gn hS
 rcases List.mem_cons.mp m with e|m
 ·cases e;exact KQ (fun _ _ _=>rfl) RB VJ hg gn hS
 rcases List.mem_cons.mp m with e|m
 ·cases e;exact Qn (fun _ _ _=>rfl) Y5 VM hg gn hS
 ·cases m
theorem Ui{f:Str}{as:List Expr}{xs:Xs}{x:X}{q p:Pos}(hg:cx.isGlob f=true)(gn:B6 (Ag k cx) as=some xs)(hS:DJ P cx as xs)(h:Ke cx f xs=some x):As P cx (.Call (.Name f q) as [] p) x:=by
 refine Ko h (fun hf g=>?_) fun _ h=>PV h (fun e g=>?_) fun h=>PV h (fun e g=>?_) fun g=>?_
 ·rw[aG,dJ] at hf
  cases g
  exact VG hg hf.1 hf.2 gn hS
 ·subst e
  rcases xs with _|⟨y,ys⟩
  case nil=>exact A2 g
  case cons=>
   rcases Option.some.inj (show some (X.new (.cons y ys))=some x from g) with rfl
   refine AF (GC gn) fun e r A6 h1 _=>?_;subst A6
   exact YC hg (E6 h1) gn hS
 ·subst e
  rcases Option.some.inj g with rfl
  exact KQ (fun _ _ _=>rfl) SZ Qo hg gn hS
 ·rcases jq:kF f with _|b<;>rw[jq] at g
  case none=>exact A2 g
  case some=>
   rcases Option.some.inj g with rfl
   exact YK hg gn hS jq
theorem Uj{o:Expr}{m:Str}{as:List Expr}{xo x:X}{xs:Xs}{ap p:Pos}(h1:(ap.endLine==p.line)=true)(h2:BL o=true)(h3:as.length<20)(gn:B6 (Ag k cx) as=some xs)(ho:As P cx o xo)(hS:DJ P cx as xs)(h:Kf cx m xo xs=some x):
  As P cx (.Call (.Attribute o m ap) as [] p) x:=by
 refine Ko h (fun hf h=>?_) fun _ h=>?_
 ·rw[aG] at hf
  cases h
  exact lB hf.1 hf.2 h2 gn h3 h1 ho hS
 ·rcases hb:pJ m with _|b<;>rw[hb] at h
  case none=>exact A2 h
  case some=>
   cases h
   rcases List.mem_cons.mp (Az hb) with e|m
   ·cases e;exact KS iQ F.slot_list_append F.type_list_append KT TN h2 gn h3 h1 ho hS
   rcases List.mem_cons.mp m with e|m
   ·cases e;exact KS F.plainAttrs_dict F.slot_dict_get F.type_dict_get RS kZ h2 gn h3 h1 ho hS
   rcases List.mem_cons.mp m with e|m
   ·cases e;exact TR h2 gn h3 h1 ho hS
   rcases List.mem_cons.mp m with e|m
   ·cases e;exact KS F.plainAttrs_dict F.slot_dict_pop F.type_dict_pop YD lA h2 gn h3 h1 ho hS
   rcases List.mem_cons.mp m with e|m
   ·cases e;exact TQ h2 gn h3 h1 ho hS
   rcases List.mem_cons.mp m with e|m
   ·cases e;exact KS gQ F.slot_str_split F.type_str_split (RT (.inl rfl)) VT h2 gn h3 h1 ho hS
   rcases List.mem_cons.mp m with e|m
   ·cases e;exact KS gQ F.slot_str_join F.type_str_join (RT (.inr rfl)) YE h2 gn h3 h1 ho hS
   ·cases m
theorem S6(op:BoolOp)(H:∀ e y,Ag k cx e=some y->As P cx e y):∀ (es:List Expr) (x:X),HZ (Ag k cx) op es=some x->Qj P cx op es x
 | [],x,h=>by cases h
 | [e],x,h=>VC (H e x h)
 | e :: e' :: r,x,h=>by
  refine A9 (A7 h) fun a ha h=>?_
  refine A9 (A7 h) fun b hb h=>?_
  have hR:=S6 op H (e' :: r) b hb
  rcases op with _|_
  case And=>rcases Aw h with rfl;exact VD (H e a ha) hR
  case Or=>rcases Aw h with rfl;exact Yu (H e a ha) hR
theorem GD(H:∀ e y,Ag k cx e=some y->As P cx e y):∀ (es:List Expr) (xs:Xs),B6 (Ag k cx) es=some xs->DJ P cx es xs
 | [],xs,h=>by cases h;exact TG
 | e :: r,xs,h=>by
  refine A9 (A7 h) fun a ha h=>?_
  refine A9 (A7 h) fun b hb h=>?_
  rcases Aw h with rfl
  exact Ql (E6 ha) (H e a ha) (GD H r b hb)
theorem OJ(op:BoolOp)(H:∀ e y,Ag k cx e=some y->ES P cx e y):∀ (es:List Expr) (x:X),HZ (Ag k cx) op es=some x->KW P cx op es x
 | [],x,h=>by cases h
 | [e],x,h=>TT (H e x h)
 | e :: e' :: r,x,h=>by
  refine A9 (A7 h) fun a ha h=>?_
  refine A9 (A7 h) fun b hb h=>?_
  have hR:=OJ op H (e' :: r) b hb
  rcases op with _|_
  case And=>rcases Aw h with rfl;exact TU (H e a ha) hR
  case Or=>rcases Aw h with rfl;exact VX (H e a ha) hR
theorem OL{g:Expr}{as:List Expr}{ks:List Keyword}{p:Pos}{x:X}(h:Je (Ag k) cx (.Call g as ks p)=some x)(IH:∀ e y,Ag k cx e=some y->As P cx e y):As P cx (.Call g as ks p) x:=by
 rcases ks with _|⟨_,_⟩
 case cons=>exact A2 h
 case nil=>
  rcases g with _|_
  case Name g q=>
   replace h:(if (!cx.isGlob g)=true then none else if (g==("isinstance":Str))=true then (do JH cx (<- I0 (Ag k cx) as) as) else (do Ke cx g (<- B6 (Ag k cx) as)))=some x:=h
   refine Ko h (fun _ h=>A2 h) fun hg h=>?_
   ·rw[dJ,Bool.not_eq_false] at hg
    refine PV h (fun e h=>?_) fun h=>?_
    ·subst e
     refine A9 (A7 h) fun y hy h=>?_
     exact Wg hg hy h IH
    ·refine A9 (A7 h) fun xs gn h=>?_
     exact Ui hg gn (GD IH _ xs gn) h
  case Attribute o m ap=>
   replace h:(if (!(ap.endLine==p.line&&BL o&&decide (as.length<20)))=true then none else (do Kf cx m (<- Ag k cx o) (<- B6 (Ag k cx) as)))=some x:=h
   refine Ko h (fun _ h=>A2 h) fun hok h=>?_
   ·rw[dJ,Bool.not_eq_false,aG,aG,decide_eq_true_eq] at hok
    refine A9 (A7 h) fun xo ho h=>?_
    refine A9 (A7 h) fun xs gn h=>?_
    exact Uj hok.1.1 hok.1.2 hok.2 gn (IH o xo ho) (GD IH _ xs gn) h
  all_goals exact A2 h
theorem S7{o:Option Expr}{x:X}(h:DZ (Ag k cx) o=some x)(IH:∀ e y,Ag k cx e=some y->As P cx e y):∀ e,o=some e->As P cx e x:=fun e he=>by
 subst he
 exact IH e x h
theorem Nu{e:Expr}{i:Int}(h:PP e=some i):∃ m p,e=.Constant (.int i) m p:=by
 rcases e with _|_
 case Constant v m p=>
  rcases v with _|_
  case int j=>cases (show some j=some i from h);exact⟨m,p,rfl⟩
  all_goals exact A2 h
 all_goals exact A2 h
theorem lK{e:Expr}(h:kG e=true):As P cx e (.neg (.int 1)):=by
 rcases e with _|_
 case UnaryOp op x q=>
  have h:(UO op&&PP x==some 1)=true:=h
  rw[aG,beq_iff_eq] at h
  refine PJ (Nu h.2) fun m p A6=>?_;subst A6
  rcases op with _|_<;>try exact absurd h.1 aD
  exact RR RD
 all_goals exact absurd h aD
theorem QK{o i:Expr}{p:Pos}{x:X}(h:Je (Ag k) cx (.Subscript o i p)=some x)(IH:∀ e y,Ag k cx e=some y->As P cx e y):As P cx (.Subscript o i p) x:=by
 have sub:(do return .sub (<- Ag k cx o) (<- Ag k cx i))=some x->As P cx (.Subscript o i p) x:=fun h=>by
  refine A9 (A7 h) fun xo ho h=>?_
  refine A9 (A7 h) fun xi hi h=>?_
  rcases Aw h with rfl
  exact Yz (IH _ xo ho) (IH _ xi hi)
 rcases i with _|_
 case Slice lo hi st q=>
  rcases st with _|st
  case some=>
   replace h:(if (lo.isNone&&hi.isNone&&kG st)=true then (do return .rev (<- Ag k cx o)) else none)=some x:=h
   refine xA (Cr h) fun hc h=>?_
   rw[aG,aG,eP,eP] at hc
   refine A9 (A7 h) fun xo ho h=>?_
   rcases Aw h with rfl
   rw[hc.1.1,hc.1.2]
   exact YA (IH _ xo ho) (lK hc.2)
  case none=>
   refine A9 (A7 (show (do return .slice (<- Ag k cx o) (<- DZ (Ag k cx) lo) (<- DZ (Ag k cx) hi))=some x from h)) fun xo ho h=>?_
   refine A9 (A7 h) fun xl hl h=>?_
   refine A9 (A7 h) fun xh hh h=>?_
   rcases Aw h with rfl
   exact TI (IH _ xo ho) hl (S7 hl IH) hh (S7 hh IH)
 all_goals exact sub h
theorem OM{o:Expr}{a:Str}{p:Pos}{x:X}(h:Je (Ag k) cx (.Attribute o a p)=some x)(IH:∀ e y,Ag k cx e=some y->As P cx e y):As P cx (.Attribute o a p) x:=by
 replace h:(if (cx.attrs.contains a&&BL o)=true then (do return .attr a (<- Ag k cx o)) else none)=some x:=h
 refine xA (Cr h) fun hc h=>?_
 rw[aG] at hc
 refine A9 (A7 h) fun xo ho h=>?_
 rcases Aw h with rfl
 exact VU hc.1 hc.2 (IH _ xo ho)
theorem Wi{t:Expr}{x:Str}(h:Zu t=some x):∃ p,t=.Name x p:=by
 rcases t with _|_
 case Name=>cases h;exact⟨_,rfl⟩
 all_goals exact A2 h
inductive LC (P:BW) (cx:Cx) (x:X):Expr->Prop
 | mk (elt:Expr) (y:Str) (px:Pos) (iter:Expr) (ifs:List Expr) (scope:Scope) (pos:Pos) (p:CP) (o:lG P cx elt y iter ifs scope p) (e:x=p.x):LC P cx x (.ListComp elt [⟨.Name y px,iter,ifs,0⟩] scope pos)
theorem ZF{elt:Expr}{gens:List Comprehension}{scope:Scope}{p:Pos}{x:X}(h:PO (Ag k) cx elt gens scope=some x)(IH:∀ cx e y,Ag k cx e=some y->As P cx e y)(IT:∀ cx e y,Ag k cx e=some y->ES P cx e y):LC P cx x (.ListComp elt gens scope p):=by
 rcases gens with _|⟨g,r⟩
 case nil=>exact A2 h
 case cons=>
  rcases r with _|⟨_,_⟩
  case cons=>exact A2 h
  case nil=>
   obtain⟨t,iter,ifs,n⟩:=g
   delta PO at h
   dsimp only at h
   split at h
   ·rename_i hc
    rw[aG,aG,decide_eq_true_eq] at hc
    refine xA hc fun A6 h6=>?_;try clear hc;refine xA A6 fun hn h1=>?_
    rcases cA hn with rfl
    refine A9 (A7 h) fun y hy h2=>?_
    refine xE (Wi hy) fun px A6=>?_;subst A6
    clear h
    split at h2
    ·rename_i h5
     have h:=h2
     refine A9 (A7 h) fun e he h=>?_
     refine A9 (A7 h) fun j hj h=>?_
     refine A9 (A7 h) fun it gp h=>?_
     refine A9 (A7 h) fun cs hcs h=>?_
     rcases Aw h with rfl
     refine .mk elt y px iter ifs scope p ⟨e,(BK scope).length,j,it,cs⟩ ⟨h1,cA h5,hj,rfl,⟨k,gp⟩,IH _ _ _ gp,IH _ _ _ he,?_⟩ rfl
     rcases ifs with _|⟨q,r⟩
     case nil=>cases hcs;exact .inl ⟨rfl,rfl⟩
     case cons=>
      rcases r with _|⟨_,_⟩
      case nil=>
       refine A9 (A7 hcs) fun xq hq hcs=>?_
       rcases Aw hcs with rfl
       exact .inr ⟨q,xq,rfl,rfl,IT _ _ _ hq⟩
      case cons=>exact absurd h6 (by rw[aN,aN];exact fun g=>qf (IG _) [((qA BP qI),qI)] rfl g)
    ·cases h2
   ·cases h
theorem ON{ks:List (Option Expr)}{vs:List Expr}{p:Pos}{x:X}(h:Je (Ag k) cx (.Dict ks vs p)=some x):As P cx (.Dict ks vs p) x:=by
 replace h:(if (ks.isEmpty&&vs.isEmpty)=true then some X.dict0 else none)=some x:=h
 split at h
 ·rename_i hc
  rw[aG,dR,dR] at hc
  refine xA hc fun A6 Fk=>?_;try clear hc;subst A6;subst Fk
  cases h;exact TS
 ·cases h
theorem L5{l:Expr}{ops:List CmpOp}{rs:List Expr}{p:Pos}{x:X}(h:Je (Ag k) cx (.Compare l ops rs p)=some x)(IH:∀ e y,Ag k cx e=some y->As P cx e y):As P cx (.Compare l ops rs p) x/\ES P cx (.Compare l ops rs p) x:=by
 refine A9 (A7 h) fun xl hl h=>?_
 have hL:=IH _ xl hl
 refine A9 (A7 h) fun xr hr h=>?_
 cases QJ hr h with
 | one op o r y h1 h2=>exact⟨Yv h1 (Ii h2) hL (IH r y h2),VY h1 (Ii h2) hL (IH r y h2)⟩
 | two op op2 o o2 m r y z h1 h2 h3 h4=>exact⟨VE h1 h2 (Ii h4) hL (IH m y h3) (IH r z h4),TV h1 h2 (Ii h4) hL (IH m y h3) (IH r z h4)⟩
theorem Wj{e:Expr}{x:X}(h:Je (Ag k) cx e=some x)(IH:∀ cx e y,Ag k cx e=some y->As P cx e y)(IT:∀ cx e y,Ag k cx e=some y->ES P cx e y):As P cx e x:=by
 have u0:=IH cx
 rcases e with _|_
 case Constant=>exact Uh h
 case Name=>exact Wh h
 case BinOp=>
  refine A9 (A7 h) fun b hb h=>?_
  refine A9 (A7 h) fun xl hl h=>?_
  refine A9 (A7 h) fun xr hr h=>?_
  rcases Aw h with rfl
  exact Ys hb (u0 _ xl hl) (u0 _ xr hr)
 case UnaryOp=>
  refine A9 (A7 h) fun xl hl h=>?_
  exact lI h (u0 _ xl hl)
 case BoolOp=>exact Qk (S6 _ u0 _ _ h)
 case Compare=>exact(L5 h u0).1
 case Call=>exact OL h u0
 case Attribute=>exact OM h u0
 case Subscript=>exact QK h u0
 case Tuple=>
  refine A9 (A7 h) fun xs gn h=>?_
  rcases Aw h with rfl
  exact Yw (GD u0 _ xs gn)
 case List=>
  refine A9 (A7 h) fun xs gn h=>?_
  rcases Aw h with rfl
  exact VF (GD u0 _ xs gn)
 case Dict=>exact ON h
 case ListComp elt gens scope p=>
  cases ZF (p:=p) h IH IT with
  | mk _ _ _ _ _ _ _ q o e=>subst e;exact Wc o
 all_goals exact A2 h
theorem lL{e:Expr}{x:X}(h:Je (Ag k) cx e=some x)(hE:As P cx e x)(IH:∀ cx e y,Ag k cx e=some y->As P cx e y)(IT:∀ cx e y,Ag k cx e=some y->ES P cx e y):ES P cx e x:=by
 rcases e with _|_
 case UnaryOp op y p=>
  rcases op with _|_
  case Not=>
   refine A9 (A7 h) fun xl hl h=>?_
   cases h
   exact VW (IT _ y xl hl)
  all_goals exact OB (fun _ _=>rfl) hE
 case BoolOp op vs p=>exact OC (OJ op (IT cx) vs x h)
 case IfExp=>exact A2 h
 case Compare=>exact(L5 h (IH cx)).2
 all_goals exact OB (fun _ _=>rfl) hE
theorem L6:∀ (k:Nat),(∀ (cx:Cx) (e:Expr) (x:X),Ag k cx e=some x->As P cx e x)/\∀ (cx:Cx) (e:Expr) (x:X),Ag k cx e=some x->ES P cx e x
 | 0=>⟨fun cx e x h=>A2 h,fun cx e x h=>A2 h⟩
 | k+1=>by
  refine xA (L6 k) fun IH IT=>?_
  exact⟨fun cx e x h=>Wj h IH IT,fun cx e x h=>lL h (Wj h IH IT) IH IT⟩
theorem Dw(k:Nat)(e:Expr)(x:X)(h:Ag k cx e=some x):As P cx e x:=(L6 k).1 cx e x h
theorem YL(k:Nat)(e:Expr)(x:X)(h:Ag k cx e=some x):ES P cx e x:=(L6 k).2 cx e x h
end
end
section
open PySem PySem.Spec PyProof.Rows PySem.SeqAt Builtin.Str
theorem LO (x y z : Str) (k : Int) (t u v tk : Tok) (h0 : 0 <= k) (hk : k <= 1000) (hu : (u == 0 || v == 0) = false) (huv : (u == v) = false) (hyz : (y == z) = false) (hy : (y.length == 0) = false) (hf : (occurrences x y 0 x.length k.toNat).isEmpty = false)
    (hl : tooLong (x.length + (occurrences x y 0 x.length k.toNat).length * z.length) = false) :
    Gives (Builtin.«str.replace» ⟨[.str x t, .str y u, .str z v, .int k tk], []⟩) (.str (glued z (partsBetween x (occurrences x y 0 x.length k.toNat) y.length))) := by
  have hc := countLimit_int "str.replace" k tk (x.length + 1) (by rw [decide_eq_false (by exact fun g => jf (CX _) [(jO, AC), (Ca, (.neg (jN (2 ^ 63))))] rfl h0 g), decide_eq_false (by exact fun g => jf (CX _) [(AC, (jN 1000)), ((jN (2 ^ 63)), AC)] rfl hk g)]; rfl)
  rw [if_neg (nF h0)] at hc
  show Gives (do
    let limit <- countLimit "str.replace" (some (.int k tk)) (x.length + 1)
    let cuts := occurrences x y 0 x.length limit
    if (cuts.isEmpty || (y.length == 0 && z.length == 0)) = true then (do rule "str.replace.nothing"; ret (.str x t)) else
          (do let same <- isSame (.str y u) (.str z v)
              if same = true then (do rule "str.replace.old-is-new"; ret (.str x t)) else
              if tooLong (x.length + cuts.length * z.length) = true then unsupported "str.replace:memory" else
              retStr (glued z (partsBetween x cuts y.length)))) _
  rw [hc]
  show Gives (if ((occurrences x y 0 x.length k.toNat).isEmpty || (y.length == 0 && z.length == 0)) = true then (do rule "str.replace.nothing"; ret (.str x t)) else
          (do let same <- isSame (.str y u) (.str z v)
              if same = true then (do rule "str.replace.old-is-new"; ret (.str x t)) else
              if tooLong (x.length + (occurrences x y 0 x.length k.toNat).length * z.length) = true then unsupported "str.replace:memory" else
              retStr (glued z (partsBetween x (occurrences x y 0 x.length k.toNat) y.length)))) _
  rw [hf, hy, isSame_str_other y z u v hu huv hyz, hl]
  exact .of_eq rfl
theorem JB{x z:Str}(y:Str)(k:Nat)(hb:x.length+k*z.length<=16777216):(glued z (partsBetween x (occurrences x y 0 x.length k) y.length)).length<=sizeLine/\tooLong (x.length+(occurrences x y 0 x.length k).length*z.length)=false:=by
 have h1:=StrLaws.occ_length_le x y 0 x.length k
 have hy:(glued y (partsBetween x (occurrences x y 0 x.length k) y.length)).length=x.length:=by rw[iG]
 rw[size_glued,hV,iH] at hy
 have h2:(occurrences x y 0 x.length k).length*z.length<=k*z.length:=Nat.mul_le_mul_right _ h1
 refine⟨?_,?_⟩
 ·rw[size_glued,hV,iH,fC];exact ql (Zm _ _ _ _ _) [(Af,Aj),((qA AA CS),Re),((qA Re Aj),(qN 16777216))] (qA AA Af) (qN 16777216) rfl h2 (aE hy) hb
 ·unfold tooLong sizeLine;exact decide_eq_false (fun g=>qf (Ck _ _ _) [(Af,Aj),((qA AA Aj),(qN 16777216)),((qA (qN (2 ^ 24)) qI),(qA AA Af))] rfl h2 hb g)
theorem OO{x:List Nat}{c k:Nat}(hc:c∈x)(hk:1<=k):(occurrences ⟨x.toArray⟩ ⟨#[c]⟩ 0 (⟨x.toArray⟩:Str).length k).isEmpty=false:=by
 rcases StrLaws.occ_head (⟨x.toArray⟩:Str) ⟨#[c]⟩ k hk with ⟨_,h0⟩|⟨i,r,e,_⟩
 ·refine xE (List.mem_iff_getElem.mp hc) fun i qq=>?_;refine xE qq fun hi e=>?_
  have t0:=StrLaws.subAt_one (⟨x.toArray⟩:Str) c i
  refine absurd ?_ (h0 i)
  have hx:x[i]?=some c:=by rw[aF hi,e]
  simpa [StrLaws.At,hx] using t0
 ·rw[e];rfl
inductive SI (cx:Cx):Expr->X->Prop
 | loc {y:Str} {p:Pos} {i:Nat} (h:cx.slot y=some i):SI cx (.Name y p) (.loc i)
 | int {i:Int} {m:Nat} {p:Pos}:SI cx (.Constant (.int i) m p) (.int i)
 | bin {l r:Expr} {op:Operator} {iw:UK} {xl xr:X} {p:Pos} (iu:HY op=some iw) (hd:iw=.div\/iw=.mod\/(iw=.add/\∃ i,xl=.int i)) (hl:SI cx l xl) (hr:SI cx r xr):SI cx (.BinOp l op r p) (.bin iw xl xr)
section
variable {P:BW} {cx:Cx}
theorem OP:∀ (n k:Nat) (e:Expr) (x:X),Dr cx n e=true->Ag k cx e=some x->SI cx e x
 | 0,_,_,_,h,_=>absurd h aD
 | n+1,0,_,_,_,hx=>A2 hx
 | n+1,k+1,e,x,h,hx=>by
  rcases e with _|_
  case Name y p=>
   refine xE (Option.isSome_iff_exists.mp (show (cx.slot y).isSome=true from h)) fun i hi=>?_
   have hx:Ge cx y=some x:=hx
   unfold Ge at hx
   rw[hi] at hx
   cases hx
   exact .loc hi
  case Constant v m p=>
   rcases v with _|_<;>try exact absurd h aD
   rcases Option.some.inj (show some (X.int _)=some x from hx) with rfl
   exact .int
  case BinOp l op r p=>
   have h:(NZ op l&&Dr cx n l&&Dr cx n r)=true:=h
   rw[aG,aG] at h
   refine A9 (A7 hx) fun b hb hx=>?_
   refine A9 (A7 hx) fun xl hl hx=>?_
   refine A9 (A7 hx) fun xr hr hx=>?_
   rcases Aw hx with rfl
   have sl:=OP n k l xl h.1.2 hl
   refine .bin hb ?_ sl (OP n k r xr h.2 hr)
   rcases op with _|_<;>first|exact absurd h.1.1 aD|(cases hb;done)|skip
   all_goals cases hb
   ·refine .inr (.inr ⟨rfl,?_⟩)
    refine xE (Option.isSome_iff_exists.mp (show (PP l).isSome=true from h.1.1)) fun i hi=>?_
    refine PJ (Nu hi) fun m p qq=>?_;subst qq
    cases sl;exact⟨_,rfl⟩
   ·exact .inr (.inl rfl)
   ·exact .inl rfl
  all_goals exact absurd h aD
theorem Wk{iw:UK}{xl:X}{va vb:AV}{c:CA}{l:Ah}{h h':A0}(hd:iw=.div\/iw=.mod\/(iw=.add/\∃ i,xl=.int i))(ea:A1 c xl l h'=.ok va h')(hb:Cz iw va vb h≠.bad):∃ x y,va=.int x/\vb=.int y/\∃ r,Cz iw va vb h=.ok (.int r) h:=by
 have hk:=Oi hb
 have u0:∀ x y,Cz iw (.int x) (.int y) h≠.bad->∃ r,Cz iw (.int x) (.int y) h=.ok (.int r) h:=fun x y hb=>by
  rcases hd with e|e|⟨e,_⟩<;>subst e
  ·exact⟨_,if_neg (Gq (c:=y=0) hb)⟩
  ·exact⟨_,if_neg (Gq (c:=y=0) hb)⟩
  ·exact⟨_,rfl⟩
 cases hk with
 | int _ x y=>exact⟨x,y,rfl,rfl,u0 x y hb⟩
 | str x y=>rcases hd with e|e|⟨_,i,e⟩<;>cases e;cases ea
 | cat x y=>rcases hd with e|e|⟨_,i,e⟩<;>cases e;cases ea
theorem SI.run{e:Expr}{x:X}(S:SI cx e x){c:CA}{l:Ah}:∀ {h:A0},A1 c x l h≠.bad->∃ v,A1 c x l h=.ok v h:=by
 induction S with
 | loc hi=>
  intro h hb
  refine A9 (Du hb) fun v _ e=>?_
  exact⟨v,e⟩
 | int=>intro h _;exact⟨_,rfl⟩
 | bin iu hd hl hr ih1 ih2=>
  intro h hb
  rw[Ks] at hb |-
  refine xE (ih1 (Ap hb)) fun va ea=>?_
  rw[ea,Et] at hb |-
  refine xE (ih2 (Ap hb)) fun vb eb=>?_
  rw[eb,Et] at hb |-
  refine UI (Wk hd ea hb) fun x y _ _ r e=>?_
  exact⟨_,e⟩
theorem SI.sim{e:Expr}{x:X}(S:SI cx e x){c:CA}{n:Nat}{env:Env}{A:Around}{Z:Sg}{l:Ah}{hp:A0}{E:Value->Shared->Prop}(C:ER P cx c n):∀ {s:Shared} {Q:Value->Shared->Prop},Inv P cx n c.q env A Z l hp s->A1 c x l hp≠.bad ->
  (∀ w k av,A1 c x l hp=.ok av hp->RV P.B s.heap Z av w->s.toks<=k->Q w { s with toks:=k })->wpAny (model P.prog P.w) A (eval e env) Q E s:=by
 induction S with
 | @loc y p i hx=>
  intro s Q I hb hq
  refine xA (HI hx) fun hd hcl=>?_
  refine A9 (Du hb) fun av hl e=>?_
  have hl:l[i]?=some (some av):=by
   unfold BN at hl
   split at hl
   ·rename_i o e;rw[e,hl]
   ·cases hl
  refine A9 I.fr.names fun m hn hm=>?_
  refine iE ?_ hd
  rcases hm y i hx with ⟨hk,hv⟩|⟨hk,cc,ov,hc,hi,hv⟩
  ·refine A9 (hv av hl) fun v e' rv=>?_
   exact gS I.fr.kind hk hn e' (hq v s.toks av e rv (aS _))
  ·refine A9 (hv av hl) fun v e' rv=>?_
   subst e'
   rcases hk with hk|hk
   ·exact wpAny_loadName_cell I.fr.kind hk hc hi (hq v s.toks av e rv (aS _))
   ·exact wpAny_loadName_free I.fr.kind hk hc hi (hq v s.toks av e rv (aS _)) hcl
 | int=>intro s Q I hb hq;exact iF (hq _ _ _ rfl ⟨_,rfl⟩ (fZ _))
 | @bin lx rx op iw xl xr p iu hd hl hr ih1 ih2=>
  intro s Q I hb hq
  rw[Ks] at hb hq
  refine wpAny_BinOp (ih1 I (Ap hb) fun w k av ea rw hk=>?_)
  rw[ea,Et] at hb hq
  have az:Inv P cx n c.q env A Z l hp { s with toks:=k }:=I.after (.tok I.st k)
  refine ih2 az (Ap hb) fun w' k' bv eb iz gk=>?_
  rw[eb,Et] at hb hq
  refine UI (Wk hd ea hb) fun x y A6 Fk r er=>?_
  subst A6;subst Fk
  refine xE rw fun t qq=>?_;subst qq
  refine xE iz fun t' qq=>?_;subst qq
  have cg:=(az.after (.tok (t:=k') az.st)).st
  refine JF I.ar.frame fun f gd hf1 hf2 hf3 hf4 hf5=>?_
  have u1:PylongRoom (model P.prog P.w) A { s with toks:=k' }:=PylongRoom.of (C.ok.noLimit (s:={ s with toks:=k' }) I.st) (by have t0:=I.ar.depth;show A.depth+100<recursionLimit;exact nA t0) (SeerAt.of (C.ok.noSeer (s:={ s with toks:=k' }) I.st) C.ok.tree hf1 hf2 hf3 hf4 hf5)
  have u0:s.toks<=k'+1:=eS (aR hk gk)
  rcases hd with e|e|⟨e,_⟩<;>subst e
  ·have hy:=Gq (c:=y=0) hb
   rw[show Cz .div (.int x) (.int y) hp=.ok (.int (x.fdiv y)) hp from if_neg hy] at hq
   rcases op with _|_<;>(try cases iu)
   exact floordiv_int hy (hq _ _ _ rfl ⟨_,rfl⟩ u0) (.inr u1)
  ·have hy:=Gq (c:=y=0) hb
   rw[show Cz .mod (.int x) (.int y) hp=.ok (.int (x.fmod y)) hp from if_neg hy] at hq
   rcases op with _|_<;>(try cases iu)
   exact mod_int hy (hq _ _ _ rfl ⟨_,rfl⟩ u0)
  ·rcases op with _|_<;>(try cases iu)
   exact add_int (hq _ _ _ rfl ⟨_,rfl⟩ u0)
inductive LP:List Expr->List (List Nat)->Prop
 | nil:LP [] []
 | cons {x:Str} {m:Nat} {p:Pos} {es:List Expr} {ts:List (List Nat)} (h:LP es ts):LP (.Constant (.str x) m p :: es) (x.cps.toList :: ts)
noncomputable def GE:List (List Nat)->Xs
 | []=>.nil
 | t :: r=>.cons (.str t) (GE r)
theorem Sa{c:CA}{l:Ah}{h:A0}:∀ ts,evalXs c (GE ts) l h=.ok (ts.map .str) h
 | []=>rfl
 | t :: r=>by
  show (A1 c (.str t) l h).bind _=_
  rw[Rv,Et]
  show (evalXs c (GE r) l h).bind _=_
  rw[Sa r];rfl
theorem LP.sim{es:List Expr}{ts:List (List Nat)}(L:LP es ts){env:Env}{A:Around}{Z:Sg}{E:Value->Shared->Prop}{pos:Pos}{B:Bs}:∀ {s:Shared} {Q:List Value->Shared->Prop},
  (∀ vs k,RVs B s.heap Z (ts.map .str) vs->(∀ v∈vs,∃ x t,v=.str x t/\s.toks<=t/\t<k)->s.toks<=k->Q vs { s with toks:=k })->wpAny (model P.prog P.w) A (spliced (backTo pos (starEach es env))) Q E s:=by
 induction L with
 | nil=>intro s Q hq;exact dL (hq [] s.toks trivial (fun v hv=>nomatch hv) (aS _))
 | @cons x m p es ts L ih=>
  intro s Q hq
  refine bX (fW (ih fun vs k r ht hk=>?_))
  refine hq (.str x s.toks :: vs) k ⟨⟨s.toks,by obtain⟨⟨l⟩⟩:=x;rfl⟩,r⟩ (fun v hv=>?_) (Nat.le_of_succ_le hk)
  rcases List.mem_cons.mp hv with e|hv
  ·exact⟨x,s.toks,e,aS _,hk⟩
  ·exact AF (ht v hv) fun x t e h1 h2=>⟨x,t,e,Nat.le_of_succ_le h1,h2⟩
theorem LP.plain{es:List Expr}{ts:List (List Nat)}(L:LP es ts)(env:Env)(pos:Pos):(backTo pos (starEach es env)).any (·.1)=false:=by
 induction L with
 | nil=>rfl
 | cons _ ih=>exact ih
theorem Wl{es:List Expr}{ts:List (List Nat)}(L:LP es ts){ix:Expr}{xi:X}(hi:SI cx ix xi){c:CA}{n:Nat}{env:Env}{A:Around}{Z:Sg}{l:Ah}{hp:A0}{s:Shared}{pl ps:Pos}{E:Value->Shared->Prop}(C:ER P cx c n)(I:Inv P cx n c.q env A Z l hp s)(hb:A1 c (.sub (.list (GE ts)) xi) l hp≠.bad)
  {Q:Value->Shared->Prop} (hq:∀ z t Z' hp' s',A1 c (.sub (.list (GE ts)) xi) l hp=.ok (.str z) hp'->s.toks<=t->t<s'.toks->Ai P Z Z' [] hp' s s'->Q (.str ⟨z.toArray⟩ t) s') :
  wpAny (model P.prog P.w) A (eval (.Subscript (.List es pl) ix ps) env) Q E s:=by
 have e1:A1 c (.sub (.list (GE ts)) xi) l hp=(Au (ts.map .str) hp).bind fun x h=>(A1 c xi l h).bind fun y h=>Cc x y h:=by
  rw[Ry,Q3,Sa,Et]
 rw[e1] at hb hq
 refine jG (wpAny_List (L.sim (B:=P.B) (Z:=Z) fun vs k rv ht hk=>?_))
 have az:Inv P cx n c.q env A Z l hp { s with toks:=k }:=I.after (.tok I.st k)
 refine xA (Db (s:={ s with toks:=k }) (ws:=vs.toArray) az.st rv (Ap hb)) fun gh qv=>?_
 refine⟨by simpa using gh,?_⟩
 obtain⟨av,ac,Z₁,e2,aa,r1⟩:=qv
 rw[e2,Et] at hb hq
 have u2:Ai P Z Z₁ [] ac s { s with toks:=k,heap:=s.heap.push { cls:=.type "list",data:=.seq vs.toArray } }:=Ai.trans (.tok I.st k) aa
 have bh:=I.after u2
 refine hi.sim C bh (Ap hb) fun w k' iv ei ri gk=>?_
 rw[ei,Et] at hb hq
 have u3:(ts.map AV.str).length<=Ab:=aI fun hn=>by
  have t1:Au (ts.map AV.str) hp=.bad:=if_neg hn
  rw[t1] at e2;cases e2
 have e3:Au (ts.map AV.str) hp=.ok (.loc hp.length) (hp++[.list (ts.map .str)]):=if_pos u3
 rw[e3] at e2
 cases e2
 have u6:(hp++[Ay.list (ts.map AV.str)])[hp.length]?=some (.list (ts.map .str)):=aY
 have ah:Ai P Z Z₁ [] (hp++[.list (ts.map .str)]) s { s with toks:=k',heap:=s.heap.push { cls:=.type "list",data:=.seq vs.toArray } }:=Ai.trans u2 (.tok (s:={ s with toks:=k,heap:=s.heap.push { cls:=.type "list",data:=.seq vs.toArray } }) u2.st k')
 refine A9 (KL hb) fun x ex K=>?_
 rw[ex] at hq
 cases K with
 | dct j kvs ep x hj h=>rw[u6] at hj;cases hj
 | lst j xs x hj h=>
  rw[u6] at hj;cases hj
  refine F5 (H9 h) fun m A6 gh hid=>?_;subst A6
  refine xE ri fun t0 qq=>?_;subst qq
  refine MU (JJ hid) fun j h1 h2 h3 h4 h5 h6=>?_
  rw[aK] at h2
  refine A9 (Option.map_eq_some_iff.mp h2) fun z hz qq=>?_;subst qq
  have hl:(s.heap.push { cls:=.type "list",data:=.seq vs.toArray }).IsList s.heap.objs.size vs.toArray:=⟨_,bG _ rfl,rfl,0,rfl⟩
  have u1:=rv.length
  rw[aB] at u1 gh h3 h4 h6
  refine aI fun gj=>?_
  refine A9 (rv.get (i:=j) (x:=.str z) (by rw[aK,hz];rfl)) fun w ew iz=>?_
  refine AF (ht w (aX ew)) fun x t ex h7 h8=>?_
  refine xE iz fun t' e'=>?_
  refine gj ?_
  rw[ex] at e'
  cases e'
  rw[ex] at ew
  have u5:=FP gh
  have u4:∀ q,q=j->vs.toArray[q]?=some (.str ⟨z.toArray⟩ t):=fun q e=>by rw[e,fH];exact ew
  have u0:=hq z t Z₁ _ _ rfl h7 (aP h8 gk) ah
  have sz:(vs.toArray.size:Int)=ts.length:=by rw[bL,<- u1]
  refine Gw (T:="list") hl.typeIs slot_list_getitem.lookup ?_
  by_cases h0:0<=m
  ·exact wpAny_getItem_list hl h0 (rW h4 u5) (u4 _ (h5 h0).symm) u0
  ·exact wpAny_getItem_list_neg hl (Int.not_le.1 h0) (jl (LE _ _ _) [(BH,AC),((.neg BH),II)] (.neg AC) II rfl (aO (bO sz)) h3) (rX u5 h3) (u4 _ (by rw[h6 (Int.not_le.1 h0)];congr 2)) u0
theorem SI.star{e:Expr}{x:X}(h:SI cx e x)(env:Env)(r:List Expr):starEach (e :: r) env=(false,eval e env) :: starEach r env:=by cases h<;>rfl
theorem Wm{l:Ah}{h:A0}{a k:Nat}{o:AV}(e:Ob l h a k=some o):∃ n xs i,BN l a=some (.loc n)/\h[n]?=some (.list xs)/\BN l k=some (.int i)/\xs.length<=Ab/\idx? xs i=some o:=by
 refine aI fun gj=>?_
 refine A9 (Option.bind_eq_some_iff.mp e) fun v h1 e=>?_
 refine A9 (Option.bind_eq_some_iff.mp e) fun n h2 e=>?_
 refine A9 (Option.bind_eq_some_iff.mp e) fun xs h3 e=>?_
 refine A9 (Option.bind_eq_some_iff.mp e) fun iv h4 e=>?_
 refine gj ?_
 refine F5 (H9 e) fun i qq h5 h6=>?_;subst qq
 have t0:v=.loc n:=by
  rcases v with _|_|_|_|_|m|_<;>try exact A2 h2
  cases (show some m=some n from h2);rfl
 subst t0
 exact⟨n,xs,i,h1,B3 h3,h4,h5,h6⟩
theorem Wn{o z m r:AV}{y:List Nat}(e:Oa o y z m=some r):∃ x z' k c,o=.str x/\z=.str z'/\m=.int k/\y=[c]/\y≠z'/\x.length<=1000/\z'.length<=10/\1<=k/\k<=1000/\c∈x/\r=.str (Jj x y z' k.toNat):=by
 refine aI fun gj=>?_
 refine A9 (Option.bind_eq_some_iff.mp e) fun x h1 e=>?_
 refine A9 (Option.bind_eq_some_iff.mp e) fun z' h2 e=>?_
 refine A9 (Option.bind_eq_some_iff.mp e) fun k h3 e=>?_
 refine xA (JM e) fun h4 h5=>?_
 obtain⟨g1,g2,g3,g4,g5,g6,g7⟩:=h4
 refine gj ?_
 rcases y with _|⟨c,_|⟨_,_⟩⟩
 ·cases g1
 ·exact⟨x,z',k,c,Ia h1,Ia h2,Gs h3,rfl,g2,g3,g4,g5,g6,g7 c aH,h5.symm⟩
 ·cases g1
theorem Uk{la lk bl:Str}{ia ik ib:Nat}{y:Str}{z:List Nat}{ne:Expr}{xn:X}(hn:SI cx ne xn){c:CA}{n:Nat}{env:Env}{A:Around}{Z:Sg}{l:Ah}{hp:A0}{s:Shared}{m:Str->Option Value}{t:Tok}{mv r:AV}{p1 p2 p3 p4 p5 ap pc:Pos}{m1:Nat}{E:Value->Shared->Prop}{Q:Value->Shared->Prop}
  (C:ER P cx c n) (I:Inv P cx n c.q env A Z l hp s) (hla:cx.slot la=some ia) (jq:cx.slot lk=some ik) (hbl:cx.slot bl=some ib) (gi:(ap.endLine==pc.line)=true)
  (hm:s.heap.Ns env.locals m) (hmb:m bl=some (.str ⟨z.toArray⟩ t)) (hkb:env.kindOf bl=some .local) (ht0:1<=t) (ht:t<s.toks)
  (en:A1 c xn l hp=.ok mv hp) (hv:(Ob l hp ia ik).bind (fun o=>Oa o y.cps.toList (.str z) mv)=some r) (hq:∀ s' v,Ai P Z Z [] hp s s'->RV P.B s'.heap Z r v->Q v s') :
  wpAny (model P.prog P.w) A (eval (.Call (.Attribute (.Subscript (.Name la p1) (.Name lk p2) p3) "replace" ap) [.Constant (.str y) m1 p4,.Name bl p5,ne] [] pc) env) Q E s:=by
 refine A9 (Option.bind_eq_some_iff.mp hv) fun o ho hr=>?_
 obtain⟨j,xs,ix,hl1,hl2,hl3,hl4,hl5⟩:=Wm ho
 obtain⟨x,z',k,cc,rfl,e1,rfl,hy,hyz,hx,hz,hk1,hk2,hcx,rfl⟩:=Wn hr
 cases e1
 have u6:starEach [.Constant (.str y) m1 p4,.Name bl p5,ne] env=[(false,eval (.Constant (.str y) m1 p4) env),(false,eval (.Name bl p5) env),(false,eval ne env)]:=by
  show _ :: _ :: starEach [ne] env=_
  rw[hn.star];rfl
 have u2:((backTo pc (starEach [.Constant (.str y) m1 p4,.Name bl p5,ne] env)).all (fun x=>!x.1)&&(backToKw pc (keywordEach [] env)).all (fun x=>x.1.isSome)
   && decide (3+([]:List Keyword).length+(if ([]:List Keyword).isEmpty then 0 else 1)<30))=true:=by rw[u6];rfl
 have u5:(backTo pc (starEach [.Constant (.str y) m1 p4,.Name bl p5,ne] env)).any (·.1)=false:=by rw[u6];rfl
 have tk:∀ q,Ai P Z Z [] hp s { s with toks:=q }:=fun q=>.tok I.st q
 have u1:∀ i v,BN l i=some v->A1 c (.loc i) l hp=.ok v hp:=fun i v e=>by rw[BO,e];rfl
 refine wpAny_Call_method (FQ (o:=.Subscript (.Name la p1) (.Name lk p2) p3) rfl _ _ _) u2 gi gQ F.slot_str_replace F.type_str_replace ?_
 refine jG ((SI.loc (p:=p1) hla).sim C I (by rw[u1 _ _ hl1];exact fun e=>nomatch e) fun w1 k1 a1 ee1 r1 hk1'=>?_)
 rw[u1 _ _ hl1] at ee1;cases ee1
 refine(SI.loc (p:=p2) jq).sim C (I.after (tk k1)) (by rw[u1 _ _ hl3];exact fun e=>nomatch e) fun w2 k2 a2 ee2 r2 u0=>?_
 rw[u1 _ _ hl3] at ee2;cases ee2
 refine Av r1 fun a off qq e1=>?_;subst qq
 refine xE r2 fun t2 qq=>?_;subst qq
 refine A9 (I.st.isList hl2 e1) fun ws hl rx=>?_
 have u0:k1<=k2:=u0
 refine Gw (s:={ s with toks:=k2 }) (T:="list") (Shared.TypeIs.toks (s:=s) k2 hl.typeIs) slot_list_getitem.lookup (EE (s:={ s with toks:=k2 }) hl rx hl4 hl5 fun w iz=>?_)
 refine xE iz fun t3 qq=>?_;subst qq
 refine⟨rfl,fun b e=>(nomatch e),eA u5 (BV u5 ?_)⟩
 refine bX (fW ?_)
 refine bX (iE (gS (s:={ s with toks:=k2+1 }) I.fr.kind hkb hm hmb ?_) (HI hbl).1)
 refine bX (hn.sim C (I.after (tk (k2+1))) (by rw[en];exact fun e=>nomatch e) fun w4 k4 a4 ee4 r4 hk4=>?_) (hn.star env [])
 rw[en] at ee4;cases ee4
 refine xE r4 fun t4 qq=>?_;subst qq
 refine dL ?_
 have u8:y=⟨#[cc]⟩:=by obtain⟨⟨yl⟩⟩:=y;rw[show yl=[cc] from hy]
 have h1:(k2==0||t==0)=false:=by
  rw[fP];exact⟨beq_eq_false_iff_ne.mpr (fun g=>qf (Es _ _ _ _) [(BP,Aj),(AA,CS),(Aj,AA),(CS,(qN 0))] rfl ht u0 hk1' (aE g)),beq_eq_false_iff_ne.mpr (gG ht0)⟩
 have h2:(k2==t)=false:=beq_eq_false_iff_ne.mpr (fun g=>qf (Es _ _ _ _) [(BP,Aj),(AA,CS),(Aj,AA),(CS,Af)] rfl ht u0 hk1' (aE g))
 have u3:(⟨x.toArray⟩:Str).length=x.length:=bL
 have u7:(⟨z.toArray⟩:Str).length=z.length:=bL
 have hb:(⟨x.toArray⟩:Str).length+k.toNat*(⟨z.toArray⟩:Str).length<=16777216:=by
  rw[u3,u7]
  have t0:=Nat.mul_le_mul (show k.toNat<=1000 by exact sJ hk2) hz
  exact ql (CW _ _) [(Af,(.mulL 1000 (qN 10))),(Aj,(qN 1000))] (qA Aj Af) (qN 16777216) rfl t0 hx
 refine xA (JB (x:=⟨x.toArray⟩) (z:=⟨z.toArray⟩) ⟨#[cc]⟩ k.toNat hb) fun f1 f2=>?_
 have u4:((⟨#[cc]⟩:Str)==⟨z.toArray⟩)=false:=by
  rw[show (⟨#[cc]⟩:Str)=⟨[cc].toArray⟩ from rfl,HK]
  exact decide_eq_false fun e=>hyz (by rw[hy];exact e)
 subst u8
 refine fM (s:={ s with toks:=k4 }) F.slot_str_replace (jF _ _ _) F.entry_str_replace (F.args_str_replace_4 _ _ _ _) (LO ⟨x.toArray⟩ ⟨#[cc]⟩ ⟨z.toArray⟩ k t3 k2 t t4 (j3 hk1 rfl) hk2 h1 h2 u4 rfl (OO hcx (bN.1 (jl (DT _ _) [(jI,AC),(AC,BH)] jI BH rfl hk1 (eW _)))) f2).meets ?_
 exact(show (Made.str (glued ⟨z.toArray⟩ (partsBetween ⟨x.toArray⟩ (occurrences ⟨x.toArray⟩ ⟨#[cc]⟩ 0 (⟨x.toArray⟩:Str).length k.toNat) (⟨#[cc]⟩:Str).length))).post _ _ from ⟨f1,hq _ _ (tk _) ⟨k4,rfl⟩⟩)
theorem Wo{o:Option AV}{f:AV->SR}(hb:Rs o f≠.bad):∃ r,o=some r/\Rs o f=f r:=by
 rcases o with _|r
 ·exact absurd rfl hb
 ·exact⟨r,rfl,rfl⟩
theorem QL{lt:Expr}{xl:X}(ht:SI cx lt xl){e:Int}{m0:Nat}{p0 tp:Pos}{bl row la lk:Str}{i j ia ik:Nat}(hwb:cx.slotW bl=some i)(hlb:cx.sc.names.lookup bl=some .local)(hwr:cx.slotW row=some j)(hla:cx.slot la=some ia)(jq:cx.slot lk=some ik)
  {es:List Expr} {ts:List (List Nat)} (jr:LP es ts) {ix:Expr} {xi:X} (hix:SI cx ix xi) {y:Str} {ne:Expr} {xn:X} (hn:SI cx ne xn) {rest:List Stmt} {xr:Ss} (jh:Gx P cx rest xr)
  {pb pl ps q1 pr p1 p2 p3 p4 p5 ap pc q2 pos:Pos} {m1:Nat} (gi:(ap.endLine==pc.line)=true) :
  Cm P cx (.If (.Compare lt [.Eq] [.Constant (.int e) m0 p0] tp) (.Assign [.Name bl pb] (.Subscript (.List es pl) ix ps) q1 :: .Assign [.Name row pr] (.Call (.Attribute (.Subscript (.Name la p1) (.Name lk p2) p3) "replace" ap) [.Constant (.str y) m1 p4,.Name bl p5,ne] [] pc) q2 :: rest) [] pos)
   (.repl (.cmp .eq xl (.int e)) i (GE ts) xi j ia ik y.cps.toList xn xr):=by
 intro c n env A Z l hp s C I hb
 rw[PZ] at hb |-
 have u0:=EH hb
 rw[Ku] at u0 hb |-
 refine xE (ht.run (Ap u0)) fun va ea=>?_
 rw[ea,Et,Gm,Et] at u0 hb |-
 refine xE (EG u0) fun b hbo=>?_
 rw[hbo] at hb |-
 have hb:Ho (.bool b) _ _≠.bad:=hb
 refine wpAny_If (wpAny_isTrue_Compare1 (ht.sim C I.toInv (by rw[ea];exact fun e=>nomatch e) fun w k av eav rw hk=>iF ?_) rfl)
 rw[ea] at eav;cases eav
 have hu:A.units+Cg<cLine:=by have t0:=I.ar.units;show A.units+6<_;exact nB t0
 refine(KF (s:={ s with toks:=k+1 }) I.st _ _ _ _ A _ _ hbo rw ⟨_,rfl⟩ hu).rc _ _ _ _ (cN ?_)
 have aa:Ai P Z Z [] hp s { s with toks:=k+1 }:=.tok I.st _
 rcases b with _|_
 ·exact hM ⟨_,_,_,_,rfl,aa.toX,rfl,I.fr⟩
 rw[if_pos rfl]
 have hb:((A1 c (.sub (.list (GE ts)) xi) l hp).st l _)≠.bad:=hb
 have az:=I.after aa
 show wpAny _ A _ (QS P env cx Z s ((A1 c (.sub (.list (GE ts)) xi) l hp).st l _)) (HP P env cx Z s ((A1 c (.sub (.list (GE ts)) xi) l hp).st l _)) _
 refine iZ (iN (Wl jr hix C az.toInv (EH hb) fun z t am al ae e2 h1 h2 ah=>?_) (EI rfl))
 rw[e2,Jy] at hb |-
 have bh:=az.after ah
 refine Dc ah.st bh.fr hwb (av:=.str z) ⟨t,rfl⟩ fun aj ai bp hex=>?_
 have u2:env.kindOf bl=some .local :=I.fr.kinds bl _ hlb (.inl rfl)
 refine NX (hex u2) fun htk m hm hmb=>?_
 have u3:=(aa.trans ah).toX.trans ai
 have cb:=bh.afterX ai bp
 refine xE (hn.run (EH hb)) fun mv en=>?_
 rw[en,Jy] at hb |-
 refine A9 (Wo hb) fun r hr er=>?_
 rw[er] at hb |-
 refine iZ (iN (Uk hn C cb.toInv hla jq (HQ hwb) gi hm hmb u2 (aR (cK (bE _)) h1) (aP h2 htk) en hr fun aq v au rv=>?_) (EI rfl))
 have dp:=cb.after au
 refine Dc au.st dp.fr hwr rv fun ak aw cr _=>?_
 have u1:=(u3.trans au.toX).trans aw
 exact aT (jh c n env A am _ al ak C (dp.afterX aw cr) hb) (fun _ _ q=>q.lift u1) (fun _ _ q=>q.lift u1)
theorem YM{t:Expr}{q:Expr×Expr}(h:kH t=some q):∃ p,t=.Compare q.1 [.Eq] [q.2] p:=by
 rcases t with _|_
 case Compare l ops rs p=>
  rcases ops with _|⟨op,ops⟩
  ·exact A2 h
  rcases rs with _|⟨r,rs⟩
  ·exact A2 h
  refine xA (Cr (show (if (ops.isEmpty&&rs.isEmpty&&UQ op)=true then some (l,r) else none)=some q from h)) fun hc hx=>?_
  rw[aG,aG,dR,dR] at hc
  rcases op with _|_<;>try exact absurd hc.2 aD
  rw[hc.1.1,hc.1.2,<- Option.some.inj hx]
  exact⟨p,rfl⟩
 all_goals exact A2 h
theorem OQ{s:Stmt}{p:Str×Expr}(h:O1 s=some p):∃ q r,s=.Assign [.Name p.1 q] p.2 r:=by
 rcases s with _|_
 case Assign ts v r=>
  rcases ts with _|⟨t,ts⟩
  ·exact A2 h
  refine aI fun gj=>?_
  refine xA (Cr (show (if ts.isEmpty=true then (CG t).map (fun x=>(x,v)) else none)=some p from h)) fun hc h=>?_
  refine A9 (Option.map_eq_some_iff.mp h) fun x hx e=>?_
  refine xE (CC hx) fun q qq=>?_
  refine gj ?_
  rw[List.isEmpty_iff.mp hc,qq,<- e]
  exact⟨q,r,rfl⟩
 all_goals exact A2 h
theorem OR{e:Expr}{p:Expr×Expr}(h:O0 e=some p):∃ q,e=.Subscript p.1 p.2 q:=by
 rcases e with _|_
 case Subscript o i q=>rw[<- Option.some.inj (show some (o,i)=some p from h)];exact⟨q,rfl⟩
 all_goals exact A2 h
theorem Ul{e:Expr}{es:List Expr}(h:PR e=some es):∃ q,e=.List es q:=by
 rcases e with _|_
 case List o q=>rw[<- Option.some.inj (show some o=some es from h)];exact⟨q,rfl⟩
 all_goals exact A2 h
theorem Um{e:Expr}{m:MC}(h:PS e=some m):e=.Call (.Attribute m.o m.m m.ap) m.as [] m.pos:=by
 rcases e with _|_
 case Call g as ks pos=>
  rcases ks with _|_
  case cons=>exact A2 h
  rcases g with _|_
  case Attribute o a ap=>rw[<- Option.some.inj (show some (MC.mk o a as ap pos)=some m from h)]
  all_goals exact A2 h
 all_goals exact A2 h
theorem Wp{as:List Expr}{r:Expr×Expr×Expr}(h:IL as=some r):as=[r.1,r.2.1,r.2.2]:=by
 rcases as with _|⟨a,_|⟨b,_|⟨d,q⟩⟩⟩<;>try exact A2 h
 refine xA (Cr (show (if q.isEmpty=true then some (a,b,d) else none)=some r from h)) fun hc h=>?_
 rw[List.isEmpty_iff.mp hc,<- Option.some.inj h]
theorem Sb{e:Expr}{x:List Nat}(h:SQ e=some x):∃ y m p,e=.Constant (.str y) m p/\x=y.cps.toList:=by
 rcases e with _|_
 case Constant v m p=>
  rcases v with _|_<;>try exact A2 h
  exact⟨_,m,p,rfl,(Option.some.inj h).symm⟩
 all_goals exact A2 h
theorem Sc{k:Nat}:∀ {es:List Expr} {xs:Xs},es.all (fun e=>(SQ e).isSome)=true->B6 (Ag (k+1) cx) es=some xs->∃ ts,LP es ts/\xs=GE ts
 | [],xs,_,h=>⟨[],.nil,(Option.some.inj h).symm⟩
 | e :: es,xs,ha,h=>by
  rw[iW,aG] at ha
  refine A9 (A7 h) fun x hx h=>?_
  refine A9 (A7 h) fun ys hy h=>?_
  rcases Aw h with rfl
  refine xE (Option.isSome_iff_exists.mp ha.1) fun z hz=>?_
  refine C4 (Sb hz) fun y m p qq _=>?_;subst qq
  refine A9 (Sc ha.2 hy) fun ts h1 h2=>?_
  exact⟨y.cps.toList :: ts,.cons h1,by rw[h2,<- Option.some.inj (show some (X.str y.cps.toList)=some x from hx)];rfl⟩
inductive pZ (c:Cx) (t:Expr) (s1 s2:Stmt) (a:Ss):S->Prop
 | mk (r:Rp) (xt:X) (i:Nat) (xs:Xs) (xi:X) (j ia ik:Nat) (y:List Nat) (xn:X) (hr:kI t s1 s2=some r) (hg:r.good c=true) (hxt:Ag Cy c t=some xt) (hi:c.slotW r.p1.1=some i) (gn:B6 (Ag Cy c) r.es=some xs) (hxi:Ag Cy c r.sx.2=some xi) (hj:c.slotW r.p2.1=some j) (hia:(CG r.ok.1).bind c.slot=some ia) (jx:(CG r.ok.2).bind c.slot=some ik) (hy:SQ r.a=some y) (hxn:Ag Cy c r.n=some xn):pZ c t s1 s2 a (.repl xt i xs xi j ia ik y xn a)
theorem qB{c:Cx}{t:Expr}{s1 s2:Stmt}{a:Ss}{x:S}(h:Ki c t s1 s2 a=some x):pZ c t s1 s2 a x:=by
 refine aI fun gj=>?_
 refine A9 (Option.bind_eq_some_iff.mp h) fun r hr h=>?_
 refine xA (Cr h) fun hg h=>?_
 refine A9 (A7 h) fun xt hxt h=>?_
 refine A9 (A7 h) fun i hi h=>?_
 refine A9 (A7 h) fun xs gn h=>?_
 refine A9 (A7 h) fun xi hxi h=>?_
 refine A9 (A7 h) fun j hj h=>?_
 refine A9 (A7 h) fun ia hia h=>?_
 refine A9 (A7 h) fun ik jx h=>?_
 refine A9 (A7 h) fun y hy h=>?_
 refine A9 (A7 h) fun xn hxn h=>?_
 refine gj ?_
 rcases Aw h with rfl
 exact .mk r xt i xs xi j ia ik y xn hr hg hxt hi gn hxi hj hia jx hy hxn
structure vQ (t:Expr) (s1 s2:Stmt) (r:Rp):Prop where
 q:kH t=some r.q
 p1:O1 s1=some r.p1
 p2:O1 s2=some r.p2
 sx:O0 r.p1.2=some r.sx
 es:PR r.sx.1=some r.es
 mc:PS r.p2.2=some r.mc
 ok:O0 r.mc.o=some r.ok
 ar:IL r.mc.as=some (r.a,r.b,r.n)
theorem YN{t:Expr}{s1 s2:Stmt}{r:Rp}(h:kI t s1 s2=some r):vQ t s1 s2 r:=by
 refine A9 (Option.bind_eq_some_iff.mp h) fun q hq h=>?_
 refine A9 (Option.bind_eq_some_iff.mp h) fun p1 hp1 h=>?_
 refine A9 (Option.bind_eq_some_iff.mp h) fun p2 hp2 h=>?_
 refine A9 (Option.bind_eq_some_iff.mp h) fun sx hsx h=>?_
 refine A9 (Option.bind_eq_some_iff.mp h) fun es jr h=>?_
 refine A9 (Option.bind_eq_some_iff.mp h) fun mc hmc h=>?_
 refine A9 (Option.bind_eq_some_iff.mp h) fun ok hok h=>?_
 refine A9 (Option.map_eq_some_iff.mp h) fun ar har h=>?_
 subst h
 exact⟨hq,hp1,hp2,hsx,jr,hmc,hok,har⟩
theorem YO{g:Stmt->Option S}{t:Expr}{a b:List Stmt}{x:S}{pos:Pos}(h:N0 g cx t a b=some x)(H:∀ r xr,Cf g r=some xr->Gx P cx r xr):Cm P cx (.If t a b pos) x:=by
 rcases a with _|⟨s1,_|⟨s2,l⟩⟩<;>try exact A2 h
 refine xA (Cr (show (if b.isEmpty=true then (Cf g l).bind (Ki cx t s1 s2) else none)=some x from h)) fun hbe h=>?_
 rcases List.isEmpty_iff.mp hbe with rfl
 refine A9 (Option.bind_eq_some_iff.mp h) fun xr hl0 h=>?_
 rcases qB h with ⟨r,xt,i,xs,xi,j,ia,ik,y,xn,hr,hg,hxt,hi,gn,hxi,hj,hia,jx,hy,hxn⟩
 have R:=YN hr
 have hg:(Dr cx 5 r.q.1&&(PP r.q.2).isSome&&r.es.all (fun e=>(SQ e).isSome)&&Dr cx 5 r.sx.2&&CG r.b==some r.p1.1&&cx.sc.names.lookup r.p1.1==some .local&&r.mc.m==("replace":Str)&&r.mc.ap.endLine==r.mc.pos.line&&Dr cx 5 r.n)=true:=hg
 simp only[aG] at hg
 obtain⟨⟨⟨⟨⟨⟨⟨⟨g1,g2⟩,g3⟩,g4⟩,g5⟩,g6⟩,g7⟩,g8⟩,g9⟩:=hg
 refine xE (YM R.q) fun tp qq=>?_;subst qq
 refine PJ (OQ R.p1) fun pb q1 qq=>?_;subst qq
 refine PJ (OQ R.p2) fun pr q2 qq=>?_;subst qq
 refine aI fun no=>?_
 refine xE (OR R.sx) fun ps e1=>?_
 refine xE (Ul R.es) fun pl e2=>?_
 have e3:=Um R.mc
 refine xE (OR R.ok) fun p3 e4=>?_
 have e5:=Wp R.ar
 refine xE (CC (cA g5)) fun p5 e6=>?_
 refine A9 (Option.bind_eq_some_iff.mp hia) fun la e7 hla=>?_
 refine xE (CC e7) fun pa e7=>?_
 refine A9 (Option.bind_eq_some_iff.mp jx) fun lk e8 jq=>?_
 refine xE (CC e8) fun pk e8=>?_
 refine C4 (Sb hy) fun y' m1 p4 e9 e10=>?_
 refine xE (Option.isSome_iff_exists.mp g2) fun e he=>?_
 refine PJ (Nu he) fun m0 p0 e11=>?_
 refine A9 (Sc (k:=29) g3 gn) fun ts hl e12=>?_
 have e9:r.a=.Constant (.str y') m1 p4:=e9
 have e6:r.b=.Name r.p1.1 p5:=e6
 have e7:r.ok.1=.Name la pa:=e7
 have e8:r.ok.2=.Name lk pk:=e8
 refine no ?_
 rw[e1,e2,e3,e5,e4,e6,e7,e8,e9,e11,e10,e12,cA g7]
 rw[e11] at hxt
 refine A9 (A7 (show (do Kg [.Eq] (<- Ag 29 cx r.q.1) (<- B6 (Ag 29 cx) [.Constant (.int e) m0 p0]))=some xt from hxt)) fun xl hxl hxt=>?_
 refine A9 (A7 hxt) fun xe hxe hxt=>?_
 cases (show some (Xs.cons (.int e) .nil)=some xe from hxe)
 cases (show some (X.cmp .eq xl (.int e))=some xt from hxt)
 exact QL (OP 5 29 _ _ g1 hxl) hi (cA g6) hj hla jq hl (OP 5 30 _ _ g4 hxi) (OP 5 30 _ _ g9 hxn) (H _ _ hl0) g8
end
end
section
open PySem PySem.Spec PyProof.Rows PySem.SeqAt
section
variable {P:BW} {cx:Cx}
theorem QM{elt:Expr}{gens:List Comprehension}{scope:Scope}{pos p q:Pos}{y:Str}{i:Nat}{x:X}(hi:cx.slotW y=some i)(hput:Rj cx y q (.ListComp elt gens scope pos)=true)(hy:Ag Cy cx (.ListComp elt gens scope pos)=some x):
  Cm P cx (.Assign [.Name y q] (.ListComp elt gens scope pos) p) (.asg i x):=by
 cases ZF (p:=pos) (k:=29) hy (fun cx=>(L6 29).1 cx) (fun cx=>(L6 29).2 cx) with
 | mk _ _ _ _ _ _ _ q o e=>subst e;exact QG o hput hi
theorem QN{ts:List Expr}{v:Expr}{x:S}{p:Pos}(h:Rl cx ts v=some x):Cm P cx (.Assign ts v p) x:=by
 rcases ts with _|⟨t,r⟩
 case nil=>exact A2 h
 case cons=>
 rcases r with _|⟨_,_⟩
 case cons=>exact A2 h
 case nil=>
  rcases t with _|_
  case Name y q=>
   replace h:(if Rj cx y q v=true then (do return .asg (<- cx.slotW y) (<- Ag Cy cx v)) else none)=some x:=h
   refine xA (Cr h) fun hput h=>?_
   ·refine A9 (A7 h) fun i hi h=>?_
    refine A9 (A7 h) fun y hy h=>?_
    rcases Aw h with rfl
    rcases hc:D9 v with _|_
    case false=>exact TZ hi hc (Dw _ _ _ hy)
    case true=>
     rcases v with _|_
     case ListComp=>exact QM hi hput hy
     all_goals first|exact absurd hc aD|exact A2 hy
  case Subscript o k q=>
   replace h:(if D9 v=true then none else (do return .setitem (<- Ag Cy cx o) (<- Ag Cy cx k) (<- Ag Cy cx v)))=some x:=h
   refine Ko h (fun _ h=>A2 h) fun hc h=>?_
   ·rw[fR] at hc
    refine A9 (A7 h) fun xo ho h=>?_
    refine A9 (A7 h) fun xk hk h=>?_
    refine A9 (A7 h) fun y hy h=>?_
    rcases Aw h with rfl
    exact U0 hc (Dw _ _ _ ho) (Dw _ _ _ hk) (Dw _ _ _ hy)
  case Attribute o a q=>
   replace h:(if (cx.attrs.contains a&&BL o&&!D9 v)=true then (do return .setattr a (<- Ag Cy cx o) (<- Ag Cy cx v)) else none)=some x:=h
   refine xA (Cr h) fun hc g=>?_
   clear h;rename _=some _=>h
   ·rw[aG,aG,dJ] at hc
    refine A9 (A7 h) fun xo ho h=>?_
    refine A9 (A7 h) fun y hy h=>?_
    rcases Aw h with rfl
    exact Qt hc.1.1 hc.2 (Dw _ _ _ ho) (Dw _ _ _ hy)
  case Tuple ts x1 q=>
   replace h:(if (D9 v||UP v)=true then none else (do return .asgt (<- FF cx ts) (<- Ag Cy cx v)))=some x:=h
   refine Ko h (fun _ h=>A2 h) fun hc h=>?_
   ·rw[fR,fP] at hc
    refine A9 (A7 h) fun is his h=>?_
    refine A9 (A7 h) fun y hy h=>?_
    rcases Aw h with rfl
    exact Qv his hc.1 hc.2 (Dw _ _ _ hy)
  all_goals exact A2 h
theorem lM{t:Expr}{i:Nat}(h:Rk cx t=some i):∃ y p,t=.Name y p/\cx.slotW y=some i:=by
 refine A9 (Option.bind_eq_some_iff.mp h) fun x hx h2=>?_
 refine xE (CC hx) fun p A6=>?_;subst A6
 exact⟨x,p,rfl,h2⟩
theorem Dx{k:Nat}(H:∀ st x,Ct k cx st=some x->Cm P cx st x):∀ (sts:List Stmt) (xs:Ss),Cf (Ct k cx) sts=some xs->Gx P cx sts xs
 | [],xs,h=>by cases h;exact U1
 | st :: r,xs,h=>by
  refine A9 (A7 h) fun a ha h=>?_
  refine A9 (A7 h) fun b hb h=>?_
  rcases Aw h with rfl
  exact Qu (H st a ha) (Dx H r b hb)
inductive ZG (cx:Cx):Expr->S->Prop
 | mk (k w:Str) (m:Nat) (np cp cpos:Pos) (h1:cx.isGlob k=true) (h2:(cx.excs.lookup k).isSome=true):ZG cx (.Call (.Name k np) [.Constant (.str w) m cp] [] cpos) (.raise k)
theorem lN{e:Expr}{x:S}(h:MZ cx e=some x):ZG cx e x:=by
 rcases e with _|_
 case Call f as ks cpos=>
  rcases f with _|_
  case Name k np=>
   rcases as with _|⟨a,r⟩
   case nil=>exact A2 h
   case cons=>
    rcases r with _|⟨_,_⟩
    case cons=>exact A2 h
    case nil=>
     rcases a with _|_
     case Constant v m cp=>
      rcases v with _|_
      case str w=>
       replace h:(if (ks.isEmpty&&cx.isGlob k&&(cx.excs.lookup k).isSome)=true then some (S.raise k) else none)=some x:=h
       refine xA (Cr h) fun hc g=>?_
       clear h;rename _=some _=>h
       ·rw[aG,aG,dR] at hc
        rcases hc.1.1 with rfl
        cases h
        exact .mk k w m np cp cpos hc.1.2 hc.2
      all_goals exact A2 h
     all_goals exact A2 h
  all_goals exact A2 h
 all_goals exact A2 h
theorem ZH{k:Nat}(H:∀ st x,Ct k cx st=some x->Cm P cx st x):∀ (hs:List ExceptHandler) (xs:Hs),Kh (Ct k cx) cx hs=some xs->Qw P cx hs xs
 | [],xs,h=>by cases h;exact .nil
 | .ExceptHandler t nm b p :: r,xs,h=>by
  rcases t with _|t
  case none=>exact A2 h
  case some=>
   rcases t with _|_
   case Name j np=>
    replace h:(if (cx.isGlob j&&!b.isEmpty&&(cx.excs.any fun p=>p.2.contains j))=true then (do return .cons (taken cx.excs j) (<- PQ cx nm) (<- Cf (Ct k cx) b) (<- Kh (Ct k cx) cx r)) else none)=some xs:=h
    refine xA (Cr h) fun hc g=>?_
    clear h;rename _=some _=>h
    ·rw[aG,aG] at hc
     refine xA hc fun A6 h4=>?_;try clear hc;refine xA A6 fun h1 h3=>?_
     refine A9 (A7 h) fun i hi h5=>?_
     refine F5 (U5 hi) fun x A6 hx1 hx2=>?_;subst A6
     refine A9 (A7 h5) fun xb hb h6=>?_
     refine A9 (A7 h6) fun xr hr h7=>?_
     rcases Aw h7 with rfl
     rcases b with _|⟨cj,bs⟩
     case nil=>exact absurd h3 aD
     case cons=>exact .cons h1 hx1 hx2 h4 (Dx H _ _ hb) (ZH H r xr hr)
   all_goals exact A2 h
theorem lO{k:Nat}{t it:Expr}{b:List Stmt}{p:Pos}{x:S}(h:O2 (Ct k cx) cx (.For t it b [] p)=some x)(IH:∀ st x,Ct k cx st=some x->Cm P cx st x):Cm P cx (.For t it b [] p) x:=by
 have u0:(do return .forr (<- Rk cx t) (<- Ag Cy cx it) (<- Cf (Ct k cx) b))=some x->Cm P cx (.For t it b [] p) x:=fun h=>by
  refine A9 (A7 h) fun i hy h=>?_
  refine A9 (A7 h) fun xi hxi h=>?_
  refine A9 (A7 h) fun xb hb h=>?_
  rcases Aw h with rfl
  refine Av (lM hy) fun y p A6 hi=>?_;subst A6
  exact W7 (W3 hi) hxi (Dw _ _ xi hxi) (Dx IH _ xb hb) fun _ _ _=>rfl
 rcases t with _|_
 case Tuple ts x1 q=>
  replace h:(do return S.fort (<- FF cx ts) (<- Ag Cy cx it) (<- Cf (Ct k cx) b))=some x:=h
  refine A9 (A7 h) fun is his h=>?_
  refine A9 (A7 h) fun xi hxi h=>?_
  refine A9 (A7 h) fun xb hb h=>?_
  rcases Aw h with rfl
  exact W7 (Ml his) hxi (Dw _ _ xi hxi) (Dx IH _ xb hb) fun _ _ _=>rfl
 all_goals exact u0 h
theorem YQ{k:Nat}(IH:∀ st x,Ct k cx st=some x->Cm P cx st x)(st:Stmt)(x:S)(h:O2 (Ct k cx) cx st=some x):Cm P cx st x:=by
  rcases st with _|_
  case Expr e p=>
   replace h:(if D9 e=true then none else (do return .expr (<- Ag Cy cx e)))=some x:=h
   refine Ko h (fun _ h=>A2 h) fun hc h=>?_
   ·refine A9 (A7 h) fun y hy h=>?_
    rcases Aw h with rfl
    exact Qr (fR _▸hc) (Dw _ _ y hy)
  case Return v p=>
   rcases v with _|v
   case none=>exact A2 h
   case some=>
    refine A9 (A7 h) fun y hy h=>?_
    rcases Aw h with rfl
    exact TY (Dw _ _ y hy)
  case Assign=>exact QN h
  case If t a b p=>
   replace h:(match N0 (Ct k cx) cx t a b with
    | some s=>some s
    | none=>do return .iff (<- Ag Cy cx t) (<- Cf (Ct k cx) a) (<- Cf (Ct k cx) b))=some x:=h
   rcases hq:N0 (Ct k cx) cx t a b with _|y<;>rw[hq] at h
   case some=>cases h;exact YO hq fun r xr=>Dx IH r xr
   case none=>
    refine aI fun gj=>?_
    refine A9 (A7 h) fun xt ht h=>?_
    refine A9 (A7 h) fun xa ha h=>?_
    refine A9 (A7 h) fun xb hb h=>?_
    refine gj ?_
    rcases Aw h with rfl
    exact W2 (YL _ _ xt ht) (Dx IH _ xa ha) (Dx IH _ xb hb)
  case For t it b o p=>
   rcases o with _|⟨_,_⟩
   case cons=>exact A2 h
   case nil=>exact lO h IH
  case Raise e cause p=>
   rcases cause with _|_
   case some=>exact A2 h
   case none=>
    obtain⟨e,rfl,h⟩:=Option.bind_eq_some_iff.mp (show e.bind (MZ cx)=some x from h)
    cases lN h with
    | mk k w m np cp cpos h1 h2=>exact OD h1 h2
  case Try b hs o f p=>
   replace h:(if (o.isEmpty&&f.isEmpty&&!hs.isEmpty)=true then (do return .tryx (<- Cf (Ct k cx) b) (<- Kh (Ct k cx) cx hs)) else none)=some x:=h
   refine xA (Cr h) fun hc g=>?_
   clear h;rename _=some _=>h
   ·rw[aG,aG,dR,dR] at hc
    refine xA hc fun A6 h3=>?_;try clear hc;obtain⟨rfl,rfl⟩:=A6
    refine A9 (A7 h) fun xb hb h=>?_
    refine A9 (A7 h) fun xs hx h=>?_
    rcases Aw h with rfl
    rcases hs with _|⟨h₀,hs⟩
    case nil=>exact absurd h3 aD
    case cons=>exact U7 (Dx IH _ xb hb) (ZH IH _ xs hx)
  all_goals exact A2 h
theorem OS:∀ (k:Nat) (st:Stmt) (x:S),Ct k cx st=some x->Cm P cx st x
 | 0,st,x,h=>A2 h
 | k+1,st,x,h=>by
  have h:(match O2 (Ct k cx) cx st with|some x=>some x|none=>some .bad)=some x:=h
  rcases hq:O2 (Ct k cx) cx st with _|y
  case none=>rw[hq] at h;cases h;exact U3
  case some=>rw[hq] at h;cases h;exact YQ (fun st x=>OS k st x) st _ hq
structure qC (P:BW) (prog:AI) (sh:Sh) (f:Str):Prop where
 get:∃ a o q params body scope pm cd jd d,P.fn f=some (.ref a)/\P.B.h₀.get? a=some o/\(P.meths.contains f=true->o.cls=.type "function")/\o.data=.func (methDef f q params body scope pm cd jd)/\P.B.h₀.CodeRec cd q /\
  prog.lookup f=some d/\FG sh params body scope=some d
structure lP (P:BW) (sh:Sh):Prop where
 meths:sh.meths=P.meths
 attrs:sh.attrs=P.B.attrs
 cls:P.mg sh.cls=some (.ref P.B.C)
 init:sh.funs.contains "__init__"=true
 exc:RC P sh.excs
 g:∀ x k,sh.consts.lookup x=some k->∃ v,P.mg x=some v/\Nb k v
theorem QO{sh:Sh}{params:Arguments}{body:List Stmt}{scope:Scope}{d:Bz}(h:FG sh params body scope=some d):Kj params scope=true/\∃ xb,
  Cf (Ct Cy (Rm sh (params.args.map (·.arg)) scope)) body=some xb /\
   d=⟨(params.args.map (·.arg)).length,(C5 (params.args.map (·.arg)) scope).length,xb⟩:=by
 rcases hok:Kj params scope with _|_
 case false=>unfold FG at h;rw[hok] at h;cases h
 case true=>
  unfold FG at h
  rw[hok] at h
  refine A9 (A7 h) fun xb hxb h=>?_
  rcases Aw h with rfl
  exact⟨rfl,xb,hxb,rfl⟩
theorem not_true{b:Bool}(h:(!b)=true):b=false:=by rcases b with _|_;rfl;cases h
structure qD (params:Arguments) (scope:Scope):Prop where
 po:params.posonlyargs=[]
 ko:params.kwonlyargs=[]
 va:params.vararg=none
 kw:params.kwarg=none
 kind:scope.kind=.function
 gen:scope.isGenerator=false
 co:scope.isCoroutine=false
 np:(params.args.map (·.arg)).Nodup
 par:∀ x∈params.args.map (·.arg),scope.names.lookup x=some .local\/scope.names.lookup x=some .cell
theorem Wq{params:Arguments}{scope:Scope}(h:Kj params scope=true):qD params scope:=by
 unfold Kj at h
 rw[aG,aG,aG,aG,aG,aG,aG,aG,aG,aG,decide_eq_true_eq] at h
 refine xA h fun A6 h9=>?_;try clear h;obtain⟨⟨⟨⟨⟨⟨⟨⟨⟨h1,h2⟩,h3⟩,h4⟩,h5⟩,h6⟩,h7⟩,h8⟩,_⟩,_⟩:=A6
 refine⟨List.isEmpty_iff.mp h1,List.isEmpty_iff.mp h2,Option.isNone_iff_eq_none.mp h3,Option.isNone_iff_eq_none.mp h4,cA h5,not_true h6,not_true h7,h8,fun x hx=>?_⟩
 have t0:=List.all_eq_true.mp h9 x hx
 rw[dN] at t0
 exact t0.imp cA cA
theorem Un{c:CA}{d:Bz}{as:List AV}{h:A0}(hb:Gl c d as h≠.bad):as.length=d.params/\Gl c d as h=HF (execSs c d.body (as.map some++List.replicate (d.slots-d.params) none) h):=by
 by_cases hl:as.length=d.params
 ·exact⟨hl,if_pos hl⟩
 ·exact absurd (if_neg hl) hb
theorem YR{n:Nat}{z:Bool}{A:Around}{f q:Str}{params:Arguments}{body:List Stmt}{scope:Scope}{pm cd jd:Value}{k:Nat}{a:Addr}(ar:ArndC (n+1) z A)(hgen:scope.isGenerator=false)(hco:scope.isCoroutine=false):
  E5 n z (A.deeper (callEnvC (methDef f q params body scope pm cd jd) k a)):=by
 refine xE ar.frames fun gd gu=>?_
 exact⟨⟨⟨_,dF gu⟩,by have t0:=ar.depth;show A.depth+1+2*n+150<_;exact ql (Ck _ _ _) [((qA (qA (qA Af (.mulL 2 Ee)) (qN 150)) qI),AA)] (qA (qA (qA BP (.mulL 2 Aj)) (qN 150)) qI) AA rfl t0,by have t1:=ar.units;show A.units+3+100*n+100<_;exact ql (Ck _ _ _) [((qA (qA (qA Af (.mulL 100 Ee)) (qN 100)) qI),AA)] (qA (qA (qA (qA Af (qN 3)) (.mulL 100 Aj)) (qN 100)) qI) AA rfl t1,ar.handled⟩,by have t2:=ar.depth;show A.depth+1+2*n+151<_;exact ql (Ck _ _ _) [((qA (qA (qA Af (.mulL 2 Ee)) (qN 150)) qI),AA)] (qA (qA (qA BP (.mulL 2 Aj)) (qN 151)) qI) AA rfl t2,by have t3:=ar.units;show A.units+3+100*n+150<_;exact ql (Ck _ _ _) [((qA (qA (qA Af (.mulL 100 Ee)) (qN 100)) qI),AA)] (qA (qA (qA (qA Af (qN 3)) (.mulL 100 Aj)) (qN 150)) qI) AA rfl t3,⟨_,gd,dF gu,hgen,hco,rfl,rfl⟩⟩
theorem QP{Z:Sg}{s:Shared}{A:Around}{env:Env}{l:Ah}{gd:List Env}(gu:A.frames=some gd)(F:LI P s.heap Z A)(f:Ev P s.heap Z env cx l)(ho:env.frame=some env.locals):LI P s.heap Z (A.deeper env):=fun l hl g hg=>by
 rw[dF gu] at hl
 cases hl
 rcases List.mem_cons.mp hg with rfl|hg
 ·refine C4 f.nsObj fun o es ep h1 h2=>?_
  exact⟨(by rw[f.kind];exact fun e=>nomatch e),_,o,es,ep,ho,f.new.1,h1,h2,f.out.1⟩
 ·exact F gd gu g hg
theorem Mo{s:Shared}{fd:FuncData}{a:Addr}(habove:∀ y c,(y,c)∈(callEnvC fd s.heap.objs.size a).cells->s.heap.objs.size<c):∀ b∈FX (callEnvC fd s.heap.objs.size a),b∈([]:List Addr)\/s.heap.get? b=none:=fun b hb=>.inr <| by
 have u0:s.heap.objs.size<=b:=by
  rcases List.mem_cons.mp hb with rfl|hb
  ·exact aS _
  ·refine A9 (List.mem_map.mp hb) fun p hp A6=>?_;subst A6
   exact dY (habove p.1 p.2 hp)
 exact eZ u0
theorem Wr{prog:AI}{sh:Sh}{n:Nat}{z:Bool}(ok:P.Ok)(so:lP P sh)(ih:V9 P sh.funs (AD prog n z) n z)(iq:V9 P sh.funs (AD prog n true) n true){f q:Str}{params:Arguments}{body:List Stmt}{scope:Scope}{pm cd jd:Value}{d:Bz}{a:Addr}{o:Obj}(hd:FG sh params body scope=some d)
  (h2:P.B.h₀.get? a=some o) (h3:o.data=.func (methDef f q params body scope pm cd jd)) (h4:P.B.h₀.CodeRec cd q) {gf:List AV} {vs:List Value} {Z:Sg} {hp:A0} {s:Shared} {A:Around} (S:St P.w P.B Z hp s.heap) (rv:RVs P.B s.heap Z gf vs) (ar:ArndC (n+1) z A) (F:LI P s.heap Z A)
  (hb:Gl ⟨AD prog n z,AD prog n true,z,EA⟩ d gf hp≠.bad):wpAny (model P.prog P.w) A (call (.ref a) vs) (QV P Z s (Gl ⟨AD prog n z,AD prog n true,z,EA⟩ d gf hp)) (QE P Z s (Gl ⟨AD prog n z,AD prog n true,z,EA⟩ d gf hp)) s:=by
 refine NX (QO hd) fun hok xb hxb A6=>?_;subst A6
 have D:=Wq hok
 refine xA (Un hb) fun hlen er=>?_
 rw[er] at hb |-
 have u2:=rv.length
 refine xE ar.frames fun gd gu=>?_
 refine wpAny_call (codeAny_call_cells (fd:=methDef f q params body scope pm cd jd) (body:=body) (binds:=(params.args.map (·.arg)).zip vs) (by have t0:=ar.depth;exact ql (Ck _ _ _) [((qA (qA (qA Af (.mulL 2 Ee)) (qN 150)) qI),AA)] BP AA rfl t0) (S.base a o h2) h3 (ok.noLimit S) (h4.keeps S.base) rfl
  (QH D.po D.ko D.va D.kw D.np (hlen.symm.trans u2)) rfl (fun x hx=>?_) (fun s₁ x=>?_) D.co D.gen D.kind)
 ·have u1:x.1∈params.args.map (·.arg):=(List.of_mem_zip (a:=x.1) (b:=x.2) hx).1
  exact(D.par _ u1).imp id fun e=>⟨e,Hg _ _ _ _ (.inl e)⟩
 ·have fr:=We (sh:=sh) (scope:=scope) S rv rfl hok hlen rfl rfl x
  have u0:=x.above
  refine Av x.done fun h' tk A6 hkeep=>?_;subst A6
  have aa:Ai P Z Z [] hp s { s with heap:=h',toks:=tk }:=⟨rfl,S.keep hkeep,Bk hkeep⟩
  have fj:=QP (s:={ s with heap:=h',toks:=tk }) gu (F.after aa.gr) fr rfl
  have I:Gd P (Rm sh (params.args.map (·.arg)) scope) n z (callEnvC (methDef f q params body scope pm cd jd) s.heap.objs.size a) (A.deeper (callEnvC (methDef f q params body scope pm cd jd) s.heap.objs.size a)) Z _ hp { s with heap:=h',toks:=tk }:=
   ⟨⟨aa.st,fr,YR ar D.gen D.co,fj,⟨_,gd,_,dF gu,rfl,rfl⟩⟩,⟨gd,dF gu⟩,rfl⟩
  refine aT (Dx (OS Cy) body xb hxb ⟨AD prog n z,AD prog n true,z,EA⟩ n _ _ Z _ hp _ ⟨ok,ih,iq,so.meths,so.attrs,so.cls,so.init,so.exc,so.g⟩ I (fun e=>hb (by rw[e];rfl))) (fun fl s' Q=>?_) (fun v s' Q=>?_)
  ·obtain⟨fl',l',hp',Z',e,ah,rf,_⟩:=Q
   rw[e] at hb |-
   have ai:=aa.toX.trans ah
   have au:Ai P Z Z' [] hp' s s':=⟨ai.ctl,ai.st,ai.gr.drop (Mo u0)⟩
   rcases fl' with _|av
   case next=>rcases (show fl=.next from rf) with rfl;exact⟨_,_,_,rfl,au,rfl⟩
   case ret=>refine A9 rf fun v A6 rv'=>?_;try clear rf;subst A6;exact⟨_,_,_,rfl,au,rv'⟩
  ·obtain⟨k,cn,al,am,e,er2,rfl,b,fl,fk⟩:=Q
   rw[er2]
   have dq:=I.fs.afterX b.gr I.fr fk
   have ai:=aa.toX.trans b
   refine xA (RW ai) fun al1 al2=>?_
   refine aA (Mi (dF gu) dq rfl al1 al2 (fl.lift aa.gr) fun h'' Dd t ft=>?_)
   have au:=ai.touch S.base t fun b hb=>dq.place (dF gu) hb
   exact⟨k,al,am,e,rfl,rfl,⟨au.ctl,au.st,au.gr.drop (Mo u0)⟩,ft.fly⟩
theorem L7{prog:AI}{sh:Sh}(ok:P.Ok)(so:lP P sh)(hf:∀ f,sh.funs.contains f=true->qC P prog sh f):∀ n z,V9 P sh.funs (AD prog n z) n z
 | 0,z,f,hc=>by
  refine Hn ((hf f hc).get) fun a o q params body scope pm cd jd d h1 h2 A6=>?_;refine Ka A6 fun hc h3 h4 h5 h6=>?_
  exact⟨a,o,_,h1,h2,hc,h3,fun gf vs Z hp s A S rv ar F hb=>absurd rfl hb⟩
 | n+1,z,f,hc=>by
  refine Hn ((hf f hc).get) fun a o q params body scope pm cd jd d h1 h2 A6=>?_;refine Ka A6 fun hc h3 h4 h5 h6=>?_
  refine⟨a,o,_,h1,h2,hc,h3,fun gf vs Z hp s A S rv ar F hb=>?_⟩
  rw[N7 h5] at hb |-
  exact Wr ok so (L7 ok so hf n z) (L7 ok so hf n true) h6 h2 h3 h4 S rv ar F hb
end
end
section
open PySem PySem.Spec PySem.W PyProof.Rows PySem.SeqAt
noncomputable def Nv(p:Program)(sh:Sh):Option ClsRec:=(plainsOf p []).find? fun c=>c.name==sh.cls
structure wZ where
 params:Arguments
 body:List Stmt
 scope:Scope
noncomputable def Ws(p:Program)(sh:Sh)(f:Str):Option wZ:=
 if sh.meths.contains f then (Nv p sh).bind fun c=>(c.meths.find? fun m=>m.name==f).map fun m=>⟨m.params,m.body,m.scope⟩
 else ((recsOf p).find? fun d=>d.name==f).map fun d=>⟨d.params,d.body,d.scope⟩
noncomputable def Im(p:Program)(sh:Sh):List Str->Option AI
 | []=>some []
 | f :: r=>((Ws p sh f).bind fun x=>FG sh x.params x.body x.scope).bind fun x=>(Im p sh r).bind fun xs=>some ((f,x) :: xs)
theorem Jp{p:Program}{sh:Sh}:∀ {fs:List Str} {ds:AI},Im p sh fs=some ds->∀ f∈fs,∃ s x,Ws p sh f=some s/\FG sh s.params s.body s.scope=some x/\ds.lookup f=some x
 | [],_,_,_,h=>nomatch h
 | g :: r,ds,h,f,hf=>by
  refine A9 (Option.bind_eq_some_iff.mp h) fun x hx h=>?_
  refine A9 (Option.bind_eq_some_iff.mp h) fun xs gn h=>?_
  rcases Option.some.inj h with rfl
  next=>
   rw[cM]
   by_cases e:f=g
   ·subst e
    refine A9 (Option.bind_eq_some_iff.mp hx) fun s h1 h2=>?_
    exact⟨s,x,h1,h2,by rw[beq_self_eq_true]⟩
   ·have hf':f∈r:=(List.mem_cons.mp hf).resolve_left e
    refine AF (Jp gn f hf') fun s x' h1 h3 h4=>?_
    have t0:(f==g)=false:=beq_eq_false_iff_ne.mpr e
    exact⟨s,x',h1,h3,by rw[t0];exact h4⟩
theorem qE:∀ x v,(x,v)∈B5->bootBuiltins x=some v/\x ≠ "__name__":=by
 intro x v h
 simp only[B5,bU,Prod.mk.injEq,cL,or_false] at h
 rcases h with ⟨rfl,rfl⟩|⟨rfl,rfl⟩|⟨rfl,rfl⟩|⟨rfl,rfl⟩|⟨rfl,rfl⟩|⟨rfl,rfl⟩|⟨rfl,rfl⟩|⟨rfl,rfl⟩|⟨rfl,rfl⟩|⟨rfl,rfl⟩|⟨rfl,rfl⟩|⟨rfl,rfl⟩<;>exact⟨by rfl,by decide⟩
noncomputable def Wt(p:Program)(loose:List Str):Bool:=B5.all fun x=>!startupNames.contains x.1&&!loose.contains x.1&&!((recsOf p).map (·.name)).contains x.1&&!((litsOf p).map (·.1)).contains x.1&&!((clssOf p loose).map (·.name)).contains x.1
noncomputable def Wu:Const->Option PyData
 | .int i=>some (.int i)
 | .str x=>some (.str x)
 | _=>none
noncomputable def YS(p:Program)(sh:Sh)(c:ClsRec):Bool:=
 sh.attrs.all (fun a=>c.statics.contains a)&&sh.meths.contains "__init__"&&sh.funs.contains "__init__"&&decide (sh.attrs.length<=1000)
noncomputable def OT(p:Program)(sh:Sh):Prop:=∀ x k,(x,k)∈sh.consts->∃ d,Wu k=some d/\valOf p x=some d
noncomputable def QQ(p:Program)(sh:Sh)(all:List Str):Bool:=
 (sh.excs.all fun q=>specOf p q.1==some ("ValueError.__new__",Ei))&&(all.all fun j=>specOf p j==some ("ValueError.__new__",Ei))&&sh.excs.all fun q=>q.2.all fun j=>all.contains j
section
variable {prog view:Program} {mean:ExcName->Option Value} {w:World} {mg mb:Str->Option Value} {h:Heap} {sh:Sh}
theorem Uo(T:Top view [] mean mg mb h)(hi:importsNone view=true)(ht:prog.given.tree=none)(hf:Wt view []=true){c:ClsRec}{C N:Addr}{mN:Str->Option Value}(pa:PlainAt h c C N mN)(hs:YS view sh c=true)
  (ha:∀ a∈sh.attrs,typeLookup (.type "object") a=pure none) (hm:∀ m∈sh.meths,∃ y,typeLookup (.type "object") m=pure y):BW.Ok ⟨prog,w,⟨h,C,sh.attrs,mg,sh.excs⟩,mb,N,mN,sh.meths⟩:=by
 simp only[YS,aG,decide_eq_true_eq] at hs
 refine xA hs fun A6 hs4=>?_;try clear hs;obtain⟨⟨hs1,hs2⟩,hs3⟩:=A6
 refine⟨fun x v hm=>?_,T.g,T.b,T.nolimit,T.seer hi,ht,?_,pa.cls,pa.quiet _ (cT _ (.head _)),pa.quiet _ (cT _ (.tail _ (.head _))),pa.quiet _ (cT _ (.tail _ (.tail _ (.head _)))),fun a q=>?_,fun m q=>hm m (List.contains_iff_mem.mp q),aR hs4 (by decide),hs2⟩
 ·refine xA (qE x v hm) fun h1 h2=>?_
  have t0:=List.all_eq_true.mp hf _ hm
  simp only[aG,dJ,List.contains_eq_mem,decide_eq_false_iff_not] at t0
  refine xA t0 fun A6 e=>?_;try clear t0;obtain⟨⟨⟨a,b⟩,c⟩,d⟩:=A6
  exact⟨T.free x a b c d e,(T.builtins x h2).trans h1⟩
 ·refine A9 ((T.seer hi).mods) fun mm A6 _=>?_;refine C4 A6 fun o _ _ ho _=>?_
  exact⟨o,ho⟩
 ·have u0:=List.contains_iff_mem.mp q
  exact⟨pa.quiet _ (bQ _ (List.contains_iff_mem.mp (List.all_eq_true.mp hs1 a u0))),ha a u0⟩
theorem QR(T:Top view [] mean mg mb h){pr:AI}(hc:Im view sh sh.funs=some pr){c:ClsRec}(jo:Nv view sh=some c){C N:Addr}{mN:Str->Option Value}(pa:PlainAt h c C N mN)(f:Str)(hf:sh.funs.contains f=true):
  qC ⟨prog,w,⟨h,C,sh.attrs,mg,sh.excs⟩,mb,N,mN,sh.meths⟩ pr sh f:=by
 refine AF (Jp hc f (List.contains_iff_mem.mp hf)) fun s x h1 h2 h3=>?_
 unfold Ws at h1
 rcases hm:sh.meths.contains f with _|_
 case true=>
  rw[hm,if_pos rfl,jo] at h1
  refine A9 (Option.map_eq_some_iff.mp h1) fun m hfm A6=>?_;subst A6
  have hn:m.name=f:=cA (hP (p:=fun m:MethRec=>m.name==f) hfm)
  refine Kb (pa.meths m (eQ hfm)) fun g o pm cd jd e1 e2 e3 e4 e5=>?_
  subst hn
  exact⟨⟨g,o,_,_,_,_,pm,cd,jd,x,(show (if sh.meths.contains m.name=true then mN m.name else mg m.name)=_ by rw[if_pos hm];exact e1),e2,fun _=>e3,e4,e5,h3,h2⟩⟩
 case false=>
  rw[hm,if_neg aD] at h1
  refine A9 (Option.map_eq_some_iff.mp h1) fun d hfd A6=>?_;subst A6
  have hn:d.name=f:=cA (hP (p:=fun d:DefRec=>d.name==f) hfd)
  refine IK (T.fn d (eQ hfd)) fun a o pm code jd e1 e2 e3 e4=>?_
  subst hn
  exact⟨⟨a,o,_,_,_,_,pm,code,jd,x,(show (if sh.meths.contains d.name=true then mN d.name else mg d.name)=_ by rw[if_neg (by rw[hm];exact aD)];exact e1),e2,fun q=>absurd (hm.symm.trans q) aD,e3,e4,h3,h2⟩⟩
theorem Hh{α:Type}:∀ {l:List (Str×α)} {n:Str} {c:α},l.lookup n=some c->(n,c)∈l:=PySem.mem_of_lookup
theorem Wv{k:Const}{d:PyData}{v:Value}(hk:Wu k=some d)(r:Reads h v d []):Nb k v:=by
 rcases k with _|_
 case int i=>cases hk;cases r;exact⟨_,rfl⟩
 case str x=>cases hk;cases r;exact⟨_,rfl⟩
 all_goals exact A2 hk
theorem YT(T:Top view [] mean mg mb h){all:List Str}(hs:QQ view sh all=true)(he:FD sh.excs all mg h){C N:Addr}{mN:Str->Option Value}:RC ⟨prog,w,⟨h,C,sh.attrs,mg,sh.excs⟩,mb,N,mN,sh.meths⟩ sh.excs:=by
 unfold QQ at hs
 rw[aG,aG] at hs
 refine xA hs fun A6 h3=>?_;try clear hs;refine xA A6 fun h1 h2=>?_
 have u0:∀ j,(sh.excs.any fun p=>p.2.contains j)=true->j∈all:=fun j hj=>by
  refine A9 (List.any_eq_true.mp hj) fun p hp hc=>?_
  exact List.contains_iff_mem.mp (List.all_eq_true.mp (List.all_eq_true.mp h3 p hp) j (List.contains_iff_mem.mp hc))
 refine⟨fun k ks hk=>?_,fun j hj=>?_,fun k ks j C' D o cd hk hj e1 e2 e3 e4=>?_,rfl,fun k ks C' o cd hk e1 e3 e4 A ob je hA a1 a2=>?_⟩
 ·refine A9 (T.ownAt (cA (List.all_eq_true.mp h1 _ (Hh hk)))) fun K O _=>?_
  exact⟨K,O⟩
 ·refine A9 (T.ownAt (cA (List.all_eq_true.mp h2 _ (u0 j hj)))) fun K O _=>?_
  exact⟨K,O⟩
 ·refine IJ (he.sub (k,ks) (Hh hk) j (u0 j hj)) fun cw fz bw fm f1 f2 f3 f4 f5=>?_
  have e1:mg k=some (.ref C'):=e1
  have e2:mg j=some (.ref D):=e2
  have f1:mg k=some (.ref cw):=f1
  rw[f1] at e1;rw[f2] at e2
  cases e1;cases e2
  have e3:h.get? C'=some o:=e3
  rw[f3] at e3;cases e3
  rw[f4] at e4;cases e4
  exact f5
 ·refine DU (he.ncl (k,ks) (Hh hk)) fun cw bw fm f1 f3 f4 f5=>?_
  have e1:mg k=some (.ref C'):=e1
  have f1:mg k=some (.ref cw):=f1
  rw[f1] at e1
  cases e1
  have e3:h.get? C'=some o:=e3
  rw[f3] at e3;cases e3
  rw[f4] at e4;cases e4
  refine DU (f5 A hA) fun gb gc m b1 b2 b3 b4=>?_
  have a1:h.get? A=some ob:=a1
  rw[b1] at a1;cases a1
  rw[b2] at a2;cases a2
  have t0:=congrFun b3.eq_nsMap "__class__"
  exact t0.symm.trans b4
theorem qF(T:Top view [] mean mg mb h)(TE:TopE view [] mg h){s₁:Shared}(hs:s₁.heap=h)(hi:importsNone view=true)(ht:prog.given.tree=none)(hf:Wt view []=true){c:ClsRec}(jo:Nv view sh=some c)(hsh:YS view sh c=true)
  (ha:∀ a∈sh.attrs,typeLookup (.type "object") a=pure none) (hm:∀ m∈sh.meths,∃ y,typeLookup (.type "object") m=pure y) (hk:OT view sh) {all:List Str} (gn:QQ view sh all=true) (hxe:FD sh.excs all mg h) {pr:AI} (hc:Im view sh sh.funs=some pr)
  (hl:sh.funs.contains "law"=true) (hlm:sh.meths.contains "law"=false) {fa:Addr} (hfa:mg "law"=some (.ref fa)) {a:Addr} {vs:List Value} {xs:List Int} (hL:h.IsList a vs.toArray) (hI:IntsAre vs xs) {hp:A0}
  (kq:AD pr 16 false "law" [.scr xs] []=.ok (.bool true) hp) {Q:Value->Shared->Prop} {E:Value->Shared->Prop}
  (k:∀ s',(∀ b o,s₁.heap.get? b=some o->s'.heap.get? b=some o)->s'.os=s₁.os->s'.gens=s₁.gens->Q (.bool true) s') :
  wpAny (model prog w) callerA (call (.ref fa) [.ref a]) Q E s₁:=by
 subst hs
 refine C4 (TE.topC c (eQ jo)) fun C N mN hC pa'=>?_
 have u1:c.name=sh.cls:=cA (hP (p:=fun c:ClsRec=>c.name==sh.cls) jo)
 let P:BW:=⟨prog,w,⟨s₁.heap,C,sh.attrs,mg,sh.excs⟩,mb,N,mN,sh.meths⟩
 have ok:P.Ok:=Uo T hi ht hf pa' hsh ha hm
 have so:lP P sh:=⟨rfl,rfl,u1▸hC,(by simp only[YS,aG] at hsh;exact hsh.1.2),YT T gn hxe,fun x kk hx=>by
  refine A9 (hk x kk (Hh hx)) fun d h1 h2=>?_
  refine A9 (T.const x d h2) fun v h3 h4=>?_
  exact⟨v,h3,Wv h1 (h4 s₁.heap)⟩⟩
 refine Dq (L7 (P:=P) ok so (QR (prog:=prog) (w:=w) T hc jo pa') 16 false "law" hl) fun fa' o fd e1 e2 _ e3 iy=>?_
 have t0:fa'=fa:=by
  have u0:(if sh.meths.contains "law"=true then mN "law" else mg "law")=some (.ref fa'):=e1
  rw[hlm,if_neg aD,hfa] at u0;cases u0;rfl
 subst t0
 have S:St P.w P.B [] [] s₁.heap:=⟨rfl,by simp,(fun n a off o e=>by simp at e),(fun b o e=>e),(fun p hp=>nomatch hp)⟩
 have rv:RVs P.B s₁.heap [] [.scr xs] [.ref a]:=⟨⟨a,_,rfl,hL,kW hI⟩,trivial⟩
 refine aT (iy [.scr xs] [.ref a] [] [] s₁ callerA S rv ⟨⟨[],rfl⟩,by decide,by decide,fun _=>rfl⟩ (fun l hl f hf=>by cases hl;exact nomatch hf) (by rw[kq];exact fun e=>nomatch e)) (fun v s' q=>?_) (fun _ _ q=>by obtain⟨_,_,_,_,er,_⟩:=q;rw[kq] at er;cases er)
 obtain⟨av,hp',Z',er,af,r⟩:=q
 rw[kq] at er
 cases er
 rcases (show v=.bool true from r) with rfl
 exact k s' af.st.base (by rw[af.ctl]) (by rw[af.ctl])
end
end
end Mine.Internal
set_option backward.match.sparseCases false
namespace Mine.Internal
section
open PySem
theorem AM{n:Nat}(h:n<=3000):n<=Ab:=aR h (by decide)
theorem L8{n:Nat}(h:n<=3000):n<Ab:=fX h (by decide)
section
variable {h:A0} {l:Ah} {c:CA}
theorem CO{x y:Int}:Cz .add (.int x) (.int y) h=.ok (.int (x+y)) h:=rfl
theorem OU{x y:Int}:Cz .sub (.int x) (.int y) h=.ok (.int (x-y)) h:=rfl
theorem QU{x y:Int}(hx:x.natAbs<2 ^ 64):Cz .mul (.int x) (.int y) h=.ok (.int (x*y)) h:=
 if_pos (show (decide (x.natAbs<2 ^ 64)||decide (y.natAbs<2 ^ 64))=true by rw[decide_eq_true hx];rfl)
theorem QW{x y:Int}(hx:y.natAbs<2 ^ 64):Cz .mul (.int x) (.int y) h=.ok (.int (x*y)) h:=
 if_pos (show (decide (x.natAbs<2 ^ 64)||decide (y.natAbs<2 ^ 64))=true by rw[decide_eq_true hx];exact Bool.or_true _)
theorem BX{x y:Int}(hy:y≠0):Cz .div (.int x) (.int y) h=.ok (.int (x.fdiv y)) h:=if_neg hy
theorem B1{x y:Int}(hy:y≠0):Cz .mod (.int x) (.int y) h=.ok (.int (x.fmod y)) h:=if_neg hy
theorem vR{x y:Int}:B9 h .lt (.int x) (.int y)=some (decide (x<y)):=rfl
theorem qG{x y:Int}:B9 h .le (.int x) (.int y)=some (decide (x<=y)):=rfl
theorem lQ{x y:Int}:B9 h .gt (.int x) (.int y)=some (decide (y<x)):=rfl
theorem xB{x y:Int}:B9 h .ge (.int x) (.int y)=some (decide (y<=x)):=rfl
theorem OV{x y:Int}:B9 h .eq (.int x) (.int y)=some (decide (x=y)):=rfl
theorem ZI{x y:Int}:B9 h .ne (.int x) (.int y)=some (!decide (x=y)):=rfl
theorem Ww{x y:List Nat}:B9 h .eq (.str x) (.str y)=some (decide (x=y)):=rfl
theorem Sd{x:List Int}(hl:x.length<=Ab):CI .len [.scr x] h=.ok (.int x.length) h:=if_pos hl
theorem len_list{n:Nat}{x:List AV}(hn:h[n]?=some (.list x)):CI .len [.loc n] h=.ok (.int x.length) h:=by
 show Gg (.loc n) h=_
 delta Gg
 dsimp only
 rw[hn]
theorem JR{γ:Type}{xs:List γ}{k:Int}(hk:0<=k):idx? xs k=xs[k.toNat]?:=by unfold idx?;rw[if_pos hk]
theorem Nw{x:List AV}{k:Int}{d:AV}(hl:x.length<=Ab)(hd:idx? x k=some d):Ey (IN x (some k)) h=.ok d h:=by
 show Ey (if x.length<=Ab then idx? x k else none) h=_
 rw[if_pos hl,hd];rfl
theorem YU{x:List Int}{k:Int}{d:Int}(hl:x.length<=Ab)(hk:0<=k)(hd:x[k.toNat]?=some d):Cc (.scr x) (.int k) h=.ok (.int d) h:=
 Nw (x:=x.map .int) (by rw[aB];exact hl) (by rw[JR hk,aK,hd];rfl)
theorem YV{n:Nat}{x:List AV}{i:AV}(hh:h[n]?=some (.list x)):Cc (.loc n) i h=Ey (IN x (Ds i)) h:=by
 delta Cc
 dsimp only
 rw[hh];rfl
theorem Bf{n:Nat}{x:List AV}{k:Int}{d:AV}(hl:x.length<=Ab)(hh:h[n]?=some (.list x))(hk:0<=k)(hd:x[k.toNat]?=some d):Cc (.loc n) (.int k) h=.ok d h:=
 (YV hh).trans (Nw hl (by rw[JR hk];exact hd))
theorem Wx{n:Nat}{x:List (Bc×AV)}{ep:Nat}{kv:AV}{k:Bc}{d:AV}(hh:h[n]?=some (.dict x ep))(hk:kv.key?=some k)(hs:Be x k=true)(hd:x.lookup k=some d):Cc (.loc n) kv h=.ok d h:=by
 delta Cc
 dsimp only
 rw[hh]
 show Ey (XX x kv.key?) h=_
 rw[hk]
 show Ey (if Be x k=true then x.lookup k else none) h=_
 rw[if_pos hs,hd];rfl
theorem Mp{n:Nat}{x:List (Bc×AV)}{ep:Nat}{kv:AV}{k:Bc}(hh:h[n]?=some (.dict x ep))(hk:kv.key?=some k)(hs:Be x k=true):LF h kv (.loc n)=some (x.lookup k).isSome:=by
 delta LF
 dsimp only
 rw[hh]
 show N1 x kv.key?=_
 rw[hk]
 exact if_pos hs
theorem OW{n:Nat}{x:List (Bc×AV)}{ep:Nat}{kv:AV}{k:Bc}(hh:h[n]?=some (.dict x ep))(hk:kv.key?=some k)(hs:Be x k=true):B9 h .isin kv (.loc n)=some (x.lookup k).isSome:=Mp hh hk hs
theorem Jq{n:Nat}{x:List (Bc×AV)}{ep:Nat}{kv:AV}{k:Bc}(hh:h[n]?=some (.dict x ep))(hk:kv.key?=some k)(hs:Be x k=true):B9 h .notin kv (.loc n)=some (!(x.lookup k).isSome):=
 congrArg (Option.map not) (Mp hh hk hs)
theorem OX{n:Nat}{x:List (Bc×AV)}{ep:Nat}{kv v:AV}{k:Bc}(hh:h[n]?=some (.dict x ep))(hk:kv.key?=some k)(hs:Be x k=true)(hl:x.length<Ab):
  ∃ il,C7 (.loc n) kv v h=some (h.set n (.dict (BU x k v) il)):=
 ⟨if (x.lookup k).isSome then ep else ep+1,by
  delta C7
  dsimp only
  rw[hh]
  show PU h n x ep v kv.key?=_
  rw[hk]
  exact if_pos (by rw[hs,decide_eq_true hl];rfl)⟩
theorem HR{vs:List AV}(hl:vs.length<=Ab):Au vs h=.ok (.loc h.length) (h++[.list vs]):=if_pos hl
theorem B4{n:Nat}{x:List AV}(hh:h[n]?=some (.list x)):Am h n=some x:=by delta Am;rw[hh]
theorem CK{n:Nat}{x:List (Bc×AV)}{ep:Nat}(hh:h[n]?=some (.dict x ep)):Bi h n=some (x,ep):=by delta Bi;rw[hh]
theorem Up{n:Nat}{x:List AV}{v:AV}(hh:h[n]?=some (.list x))(hl:x.length<Ab):Fm (.loc n) [v] h=.ok .none (h.set n (.list (x++[v]))):=by
 delta Fm
 dsimp only
 rw[B4 hh]
 exact if_pos hl
theorem BF{o:Option (List AV)}{x:List AV}(ho:o=some x)(hl:x.length<=Ab):AW o h=.ok (.loc h.length) (h++[.list x]):=by
 rw[ho];exact HR hl
theorem FU{n:Nat}{x:List AV}(hh:Ch h n=some x)(hl:x.length<=Ab):CI .list [.loc n] h=.ok (.loc h.length) (h++[.list x]):=BF hh hl
theorem Mq{n:Nat}{x:List AV}(hh:h[n]?=some (.list x)):Ch h n=some x:=by delta Ch;rw[hh]
theorem Uq{n:Nat}{x:List (Bc×AV)}{ep:Nat}(hh:h[n]?=some (.dict x ep)):Ch h n=some (x.map fun p=>p.1.av):=by delta Ch;rw[hh]
end
theorem Mr{f:AV->AV->Option Bool}{κ:Type}[DecidableEq κ]{g:κ->AV}(hf:∀ a b,f (g a) (g b)=some (decide (a=b))):∀ xs ys:List κ,xs.length=ys.length->EU f (xs.map g) (ys.map g)=some (decide (xs=ys))
 | [],[],_=>rfl
 | a :: xs,b :: ys,h=>by
  have e:EU f ((a :: xs).map g) ((b :: ys).map g)=kJ (f (g a) (g b)) (EU f (xs.map g) (ys.map g)):=rfl
  rw[e,hf,Mr hf xs ys (Nat.succ.inj h)]
  by_cases h1:a=b
  ·subst h1
   by_cases h2:xs=ys
   ·rw[decide_eq_true rfl,decide_eq_true h2,decide_eq_true (by rw[h2])];rfl
   ·rw[decide_eq_true rfl,decide_eq_false h2,decide_eq_false fun q=>h2 (List.cons.inj q).2];rfl
  ·rw[decide_eq_false h1,decide_eq_false fun q=>h1 (List.cons.inj q).1];rfl
 | [],_ :: _,h=>nomatch h
 | _ :: _,[],h=>nomatch h
theorem Wy{h:A0}{n:Nat}{a b c d:Int}:FI h (n+2) (.tup [.int a,.int b]) (.tup [.int c,.int d])=some (decide (a=c)&&decide (b=d)):=by
 show some (decide (a=c)&&(decide (b=d)&&true))=_
 rw[iY]
theorem Wz{h:A0}{n m f:Nat}{κ:Type}[DecidableEq κ]{g:κ->AV}{xs ys:List κ}(hn:h[n]?=some (.list (xs.map g)))(hm:h[m]?=some (.list (ys.map g)))(hf:∀ a b,FI h f (g a) (g b)=some (decide (a=b))):
  FI h (f+1) (.loc n) (.loc m)=some (decide (xs=ys)):=by
 have e:FI h (f+1) (.loc n) (.loc m)=pK (FI h f) (Am h n) (Am h m):=rfl
 rw[e,B4 hn,B4 hm]
 show (if (xs.map g).length=(ys.map g).length then EU (FI h f) (xs.map g) (ys.map g) else some false)=_
 rw[aB,aB]
 by_cases hl:xs.length=ys.length
 ·rw[if_pos hl,Mr hf _ _ hl]
 ·rw[if_neg hl]
  have t0:xs≠ys:=fun e=>hl (by rw[e])
  rw[decide_eq_false t0]
theorem ZJ{α:Type}{a:α}{h:A0}:(B7.ok a h).noExc=.ok a h:=rfl
theorem xC{f:N3}{l:Ah}{h:A0}:(SR.ok f l h).noExc=.ok f l h:=rfl
theorem qH{k:Str}{l:Ah}{h:A0}:HF (.exc k l h)=.exc k h:=rfl
inductive lR:SR->Prop
 | ret (v:AV) (l:Ah) (h:A0):lR (.ok (.ret v) l h)
 | exc (k:Str) (l:Ah) (h:A0):lR (.exc k l h)
inductive QX (I:Ah->A0->Prop) (R:SR->Prop):SR->Prop
 | next (l:Ah) (h:A0) (i:I l h):QX I R (.ok .next l h)
 | halt (r:SR) (q:lR r) (x:R r):QX I R r
theorem Dj{put:Ah->AV->Option Ah}{body:Ah->A0->SR}{src:AV}{items:List AV}(I:Nat->Ah->A0->Prop)(R:SR->Prop)
  (hn:∀ k l h,I k l h->Bj src k h=some items[k]?)
  (step:∀ k v l h,items[k]?=some v->I k l h->∃ l1,put l v=some l1/\QX (I (k+1)) R (body l1 h)) :
  ∀ f k l h,items.length<f+k->k<=items.length->I k l h ->
   (∃ l' h',AO put body src f k l h=.ok .next l' h'/\I items.length l' h')\/R (AO put body src f k l h)
 | 0,k,l,h,h1,h2,_=>absurd h1 (fun g=>qf (CW _ _) [(Af,Aj),(Ee,(qA (qN 0) Af))] rfl h2 g)
 | f+1,k,l,h,h1,h2,hI=>by
  rw[Kr,hn k l h hI]
  by_cases hk:k<items.length
  ·refine A9 (step k items[k] l h (aF hk) hI) fun l1 hp t=>?_
   rw[aF hk]
   show (∃ l' h',(match put l items[k] with|some l'=>(body l' h).turn (AO put body src f (k+1))|none=>SR.bad)=SR.ok .next l' h'/\I items.length l' h')\/R (match put l items[k] with|some l'=>(body l' h).turn (AO put body src f (k+1))|none=>SR.bad)
   rw[hp]
   show (∃ l' h',(body l1 h).turn (AO put body src f (k+1))=SR.ok .next l' h'/\I items.length l' h')\/R ((body l1 h).turn (AO put body src f (k+1)))
   generalize hb:body l1 h=r at t
   cases t with
   | next l' h' i=>exact Dj I R hn step f (k+1) l' h' (rF h1) (hk) i
   | halt _ q x=>cases q<;>exact .inr x
  ·have e:k=items.length:=by exact bM h2 (bK hk)
   subst e
   rw[cR (aS _)]
   exact .inl ⟨l,h,rfl,hI⟩
theorem OY{put:Ah->AV->Option Ah}{body:Ah->A0->SR}{src:AV}{items:List AV}(I:Nat->Ah->A0->Prop)
  (hn:∀ k l h,I k l h->Bj src k h=some items[k]?)
  (step:∀ k v l h,items[k]?=some v->I k l h->∃ l1,put l v=some l1/\∃ l' h',body l1 h=.ok .next l' h'/\I (k+1) l' h')
  {f:Nat} {l:Ah} {h:A0} (hf:items.length<f) (hI:I 0 l h):∃ l' h',AO put body src f 0 l h=.ok .next l' h'/\I items.length l' h':=by
 rcases Dj (body:=body) I (fun _=>False) hn (fun k v l h e hI=>kB (step k v l h e hI) fun l1 hp l' h' a c=>⟨l1,hp,by rw[a];exact .next l' h' c⟩) f 0 l h (hf) (bF rfl) hI with h1|h1
 ·exact h1
 ·exact h1.elim
theorem Bh{i:Nat}{body:Ah->A0->SR}{src:AV}{items:List AV}(I:Nat->Ah->A0->Prop)
  (hn:∀ k l h,I k l h->Bj src k h=some items[k]?)
  (step:∀ k v l h,items[k]?=some v->I k l h->∃ l' h',body (l.set i (some v)) h=.ok .next l' h'/\I (k+1) l' h')
  {f:Nat} {l:Ah} {h:A0} (hf:items.length<f) (hI:I 0 l h):∃ l' h',AO (Jw i) body src f 0 l h=.ok .next l' h'/\I items.length l' h':=
 OY I hn (fun k v l h e hI=>⟨_,rfl,step k v l h e hI⟩) hf hI
theorem FV{body:AV->A0->B7 (Option AV)}{src:AV}{items:List AV}(I:Nat->List AV->A0->Prop)
  (hn:∀ k a h,I k a h->Bj src k h=some items[k]?)
  (step:∀ k v a h,items[k]?=some v->I k a h->∃ r h',body v h=.ok r h'/\I (k+1) (a++r.toList) h') (hl:items.length<=1000) :
  ∀ f k a h,items.length<f+k->k<=items.length->a.length<=k->I k a h->∃ a' h',AG body src f k a h=.ok a' h'/\I items.length a' h'/\a'.length<=items.length
 | 0,k,a,h,h1,h2,_,_=>absurd (Nat.lt_of_lt_of_eq h1 (Nat.zero_add _)) (dP h2)
 | f+1,k,a,h,h1,h2,h3,hI=>by
  rw[H8,hn k a h hI]
  by_cases hk:k<items.length
  ·refine Av (step k items[k] a h (aF hk) hI) fun r h' hb hc=>?_
   rw[aF hk]
   show ∃ a1 h1,(body items[k] h).bind _=_/\_
   rw[hb]
   rcases r with _|x
   case none=>
    rw[Option.toList_none,dC] at hc
    exact FV I hn step hl f (k+1) a h' (rF h1) (hk) (eS h3) hc
   case some=>
    rw[eI] at hc
    show ∃ a1 h1,(if a.length<Ab then AG body src f (k+1) (a++[x]) h' else B7.bad)=_/\_
    rw[if_pos (by unfold Ab;exact ql (Ck _ _ _) [(BP,Aj),(AA,Af),(Aj,(qN 1000))] HC (qN (2 ^ 20)) rfl hk h3 hl)]
    exact FV I hn step hl f (k+1) _ h' (rF h1) (hk) (by simp;exact h3) hc
  ·have e:k=items.length:=by exact bM h2 (bK hk)
   subst e
   rw[cR (aS _)]
   exact⟨a,h,rfl,hI,h3⟩
theorem A5{c:CA}{s:S}{r:Ss}{l l':Ah}{h h':A0}(e:AQ c s l h=.ok .next l' h'):execSs c (.cons s r) l h=execSs c r l' h':=by
 show (AQ c s l h).turn _=_
 rw[e];rfl
theorem DW{c:CA}{s:S}{r:Ss}{l l':Ah}{h h':A0}{v:AV}(e:AQ c s l h=.ok (.ret v) l' h'):execSs c (.cons s r) l h=.ok (.ret v) l' h':=by
 show (AQ c s l h).turn _=_
 rw[e];rfl
theorem WA{c:CA}{s:S}{l l':Ah}{h h':A0}{f:N3}(e:AQ c s l h=.ok f l' h'):execSs c (.cons s .nil) l h=.ok f l' h':=by
 show (AQ c s l h).turn _=_
 rw[e];rcases f with _|_<;>rfl
abbrev AI.has(p:AI)(f:Str)(d:Bz):Prop:=p.lookup f=some d
theorem BA{p:AI}{n:Nat}{f:Str}{as:List AV}{h:A0}{d:Bz}(hl:AI.has p f d)(ha:as.length=d.params):
  ∃ F,50000<=F/\AD p (n+1) false f as h=HF (execSs (cF p n F) d.body (as.map some++List.replicate (d.slots-d.params) none) h):=by
 refine⟨EA,by decide,?_⟩
 rw[N7 hl]
 exact if_pos ha
theorem Nx{src:AV}{k:Nat}{xs:List AV}{h:A0}(hi:CH src h=some xs):Bj src k h=some xs[k]?:=by
 delta Bj
 rw[hi];rfl
theorem Bw{h:A0}{n k:Nat}{x:List AV}(hh:h[n]?=some (.list x)):Bj (.loc n) k h=some x[k]?:=Nx (B4 hh)
theorem L9{b:Int}{k:Nat}{h:A0}(hb:b.natAbs<=Ab):Bj (.rng b) k h=some (C6 b)[k]?:=Nx (if_pos hb)
theorem Ny{m k:Nat}{v:AV}(h:(C6 m)[k]?=some v):k<m/\v=.int k:=by
 rw[C6,bT,aK] at h
 refine A9 (Option.map_eq_some_iff.mp h) fun j hj A6=>?_;subst A6
 refine xE (List.getElem?_eq_some_iff.mp hj) fun h1 h2=>?_
 rw[eU] at h1
 rw[List.getElem_range] at h2
 subst h2
 exact⟨h1,rfl⟩
theorem Fu(m:Nat):(C6 m).length=m:=by rw[C6,bT,aB,eU]
theorem La{m:Nat}(hm:m<=1000):FK [.int (m:Int)]=some (.rng m):=if_pos (aR hm (by decide))
theorem BS{p:AI}{n:Nat}{f:Str}{as:List AV}{h:A0}{d:Bz}(hl:AI.has p f d)(l:Ah)(he:as.map some++List.replicate (d.slots-d.params) none=l)(ha:as.length=d.params):
  ∃ F,50000<=F/\AD p (n+1) false f as h=HF (execSs (cF p n F) d.body l h):=by
 subst he
 exact BA hl ha
noncomputable def Bl(xs:List Int)(k:Nat):Int:=xs.getD k 0
noncomputable def YW(c k:Int):Int:=((c+7919*k+11)*48271).fmod 2147483647
noncomputable def G7(c k:Int):Int:=(YW c k*YW c k+40692*YW c k).fmod 2147483399
theorem AK(a:Int){m:Int}(hm:0<m):0<=a.fmod m/\a.fmod m<m:=by
 rw[eN _ (eY hm)]
 exact⟨Int.emod_nonneg _ (Int.ne_of_gt hm),Int.emod_lt_of_pos _ hm⟩
noncomputable def Dy:Bz:=⟨2,2,
 (.cons (.iff (.cmp .lt (.loc 1) (.bi .len (.cons (.loc 0) .nil)))
  (.cons (.ret (.sub (.loc 0) (.loc 1)))
  .nil)
  .nil)
 (.cons (.ret (.int 0))
 .nil))⟩
noncomputable def Em:Bz:=⟨2,3,
 (.cons (.asg 2 (.bin .mod (.bin .mul (.bin .add (.bin .add (.loc 0) (.bin .mul (.int 7919) (.loc 1))) (.int 11)) (.int 48271)) (.int 2147483647)))
 (.cons (.ret (.bin .mod (.bin .add (.bin .mul (.loc 2) (.loc 2)) (.bin .mul (.int 40692) (.loc 2))) (.int 2147483399)))
 .nil))⟩
section
variable {p:AI} {n:Nat} {h:A0}
theorem OZ(hp:AI.has p "_law_cell_at" Dy){xs:List Int}(hl:xs.length<=63)(k:Nat):AD p (n+1) false "_law_cell_at" [.scr xs,.int k] h=.ok (.int (Bl xs k)) h:=by
 refine A9 (BA (n:=n) (h:=h) hp (as:=[.scr xs,.int k]) rfl) fun F hF e=>?_
 rw[e]
 have hs:xs.length<=Ab:=aR hl (by decide)
 simp only[Dy,C1,Eg,Hq,Hp,Ku,BO,Y0,CY,Gn,Ry,Gm,aZ,eT,cP,dA,Jz,N4,Cl,Et,Jy,Sd hs,vR,FL,XZ,fQ,cC,if_false]
 by_cases hk:k<xs.length
 ·rw[if_pos (bA.2 hk),YU hs (aQ _) (d:=Bl xs k) (by simp[Bl,hk]),Jy,Dt,Dt,EB]
 ·rw[if_neg (by exact fun g=>jf (DT _ _) [(AC,BH),(H5,AC)] rfl (bN.2 (bK hk)) g),BJ,Dt,EB,Bl,cV,cR (by exact bK hk)]
  rfl
theorem DP(hp:AI.has p "_law_mixed" Em)(c k:Int):AD p (n+1) false "_law_mixed" [.int c,.int k] h=.ok (.int (G7 c k)) h:=by
 refine A9 (BA (n:=n) (h:=h) hp (as:=[.int c,.int k]) rfl) fun F hF e=>?_
 rw[e]
 have hb:=AK ((c+7919*k+11)*48271) (m:=2147483647) (by decide)
 have hm:((c+7919*k+11)*48271).fmod 2147483647=YW c k:=rfl
 rw[hm] at hb
 simp only[Em,C1,Eg,I6,Hp,Ks,BO,Gm,aZ,eT,cP,dA,List.replicate,List.set,Jz,N4,Cl,Et,Jy,CO,QU (x:=7919) (by decide),QW (y:=48271) (by decide),B1 (y:=2147483647) (by decide),BJ,hm]
 rw[QU (by exact Rf (jl (CX _) [(jO,AC)] (jA (.neg (jN 18446744073709551616)) jI) AC rfl hb.1) (jl (CX _) [(Ca,(jN 2147483647))] Ca (jN 18446744073709551616) rfl hb.2)),Et,QU (by decide),Et,CO,Et,B1 (by decide),Jy,Dt,EB]
 rfl
end
end
section
open PySem
section
variable {c:CA} {l l':Ah} {h h' h1 h2 h3:A0} {v u w:AV} {vs:List AV} {r:B7 AV} {x y o t:X} {as:Xs} {b q:Bool} {s:SR} {k f m:Str} {i:Nat}
theorem Ac(ea:evalXs c as l h=.ok vs h1)(ef:c.F f vs h1=r):A1 c (.call f as) l h=r:=by rw[Kv,ea];exact ef
theorem CD(eo:A1 c o l h=.ok v h1)(hm:FJ m v h1=true)(ea:evalXs c as l h1=.ok vs h2)(ef:c.F m (v :: vs) h2=r):A1 c (.im m o as) l h=r:=by
 rw[pP,eo,Et,if_pos hm,ea];exact ef
theorem F2{m:BM}(eo:A1 c o l h=.ok v h1)(hm:Gc m v h1=true)(ea:evalXs c as l h1=.ok vs h2)(ef:Cq m v vs h2=r):A1 c (.bm m o as) l h=r:=by
 rw[Y1,eo,Et,if_pos hm,ea];exact ef
theorem Bq{b:BI}(hq:c.q=false)(ea:evalXs c as l h=.ok vs h1)(ef:CI b vs h1=r):A1 c (.bi b as) l h=r:=by
 rw[Y0,ea,Et,hq,fQ];exact ef
theorem AU(eo:A1 c o l h=.ok v h1)(ef:Ef k v h1=r):A1 c (.attr k o) l h=r:=by rw[V1,eo];exact ef
theorem An(eo:A1 c o l h=.ok v h1)(ei:A1 c x l h1=.ok u h2)(ef:Cc v u h2=r):A1 c (.sub o x) l h=r:=by rw[Ry,eo,Et,ei];exact ef
theorem A8{op:UK}(eo:A1 c o l h=.ok v h1)(ei:A1 c x l h1=.ok u h2)(ef:Cz op v u h2=r):A1 c (.bin op o x) l h=r:=by rw[Ks,eo,Et,ei];exact ef
theorem Al{op:UF}(eo:A1 c o l h=.ok v h1)(ei:A1 c x l h1=.ok u h2)(ef:B9 h2 op v u=some b):A1 c (.cmp op o x) l h=.ok (.bool b) h2:=by rw[Ku,eo,Et,ei,Et,ef];rfl
theorem Bg(ex:A1 c x l h=.ok (.bool false) h1)(ey:A1 c y l h1=r):A1 c (.or x y) l h=r:=by rw[SW,ex];exact ey
theorem JS(ex:A1 c x l h=.ok (.bool true) h1):A1 c (.or x y) l h=.ok (.bool true) h1:=by rw[SW,ex];rfl
theorem Cn(ex:A1 c x l h=.ok (.bool true) h1)(ey:A1 c y l h1=r):A1 c (.and x y) l h=r:=by rw[Rw,ex];exact ey
theorem E8(ex:A1 c x l h=.ok (.bool false) h1):A1 c (.and x y) l h=.ok (.bool false) h1:=by rw[Rw,ex];rfl
theorem HS(ex:A1 c x l h=.ok (.bool b) h1):A1 c (.not x) l h=.ok (.bool !b) h1:=by rw[Kt,ex];rfl
theorem Dl(ex:A1 c x l h=.ok (.bool true) h1):A1 c (.not x) l h=.ok (.bool false) h1:=HS ex
theorem Io(ex:A1 c x l h=.ok (.bool false) h1):A1 c (.not x) l h=.ok (.bool true) h1:=HS ex
theorem Dz(ea:evalXs c as l h=.ok vs h1)(hl:vs.length<=1000):A1 c (.tup as) l h=.ok (.tup vs) h1:=by rw[V3,ea];exact if_pos (aR hl (by decide))
theorem Bx(ea:evalXs c as l h=.ok vs h1)(hl:vs.length<=1000):A1 c (.list as) l h=.ok (.loc h1.length) (h1++[.list vs]):=by rw[Q3,ea];exact if_pos (aR hl (by decide))
theorem Lb(ea:evalXs c as l h=.ok vs h1)(er:FK vs=some v):A1 c (.range as) l h=.ok v h1:=by rw[Y2,ea,Et,er];rfl
theorem A4{xs:Xs}(ex:A1 c x l h=.ok v h1)(er:evalXs c xs l h1=.ok vs h2):evalXs c (.cons x xs) l h=.ok (v :: vs) h2:=by rw[CY,ex,Et,er];rfl
theorem A3(ex:A1 c x l h=.ok v h1):evalXs c (.cons x .nil) l h=.ok [v] h1:=A4 ex rfl
theorem C2(e:A1 c x l h=.ok v h1):AQ c (.expr x) l h=.ok .next l h1:=by rw[PX,e];rfl
theorem AZ(e:A1 c x l h=.ok v h1):AQ c (.ret x) l h=.ok (.ret v) l h1:=by rw[Hp,e];rfl
theorem Ak(e:A1 c x l h=.ok v h1):AQ c (.asg i x) l h=.ok .next (l.set i (some v)) h1:=by rw[I6,e];rfl
theorem Fa(ex:A1 c x l h=.ok v h1)(eo:A1 c o l h1=.ok u h2)(ek:A1 c y l h2=.ok w h3)(es:C7 u w v h3=some h'):AQ c (.setitem o y x) l h=.ok .next l h':=by
 rw[Zy,ex,Jy,eo,Jy,ek,Jy,es];rfl
theorem Ip{a d:Ss}(e:A1 c t l h=.ok (.bool true) h1)(ea:execSs c a l h1=s):AQ c (.iff t a d) l h=s:=by rw[Hq,e];exact ea
theorem qJ{a d:Ss}(e:A1 c t l h=.ok (.bool false) h1)(ea:execSs c d l h1=s):AQ c (.iff t a d) l h=s:=by rw[Hq,e];exact ea
theorem DQ{d:Ss}(hq:c.q=false)(e:A1 c x l h=.ok v h1)(ef:AO (Jw i) (fun l h=>execSs c d l h) v c.fuel 0 l h1=s):AQ c (.forr i x d) l h=s:=by
 rw[Ru,e,Jy,hq];exact ef
theorem Se{d:Ss}{is:List Nat}(hq:c.q=false)(e:A1 c x l h=.ok v h1)(ef:AO (Jx is) (fun l h=>execSs c d l h) v c.fuel 0 l h1=s):AQ c (.fort is x d) l h=s:=by
 rw[kQ,e,Jy,hq];exact ef
theorem Fv(e:A1 c x l h=.exc k h1):AQ c (.expr x) l h=.exc k l h1:=by rw[PX,e];rfl
theorem Iq(e:A1 c x l h=.exc k h1):AQ c (.ret x) l h=.exc k l h1:=by rw[Hp,e];rfl
theorem Fw(e:A1 c x l h=.exc k h1):AQ c (.asg i x) l h=.exc k l h1:=by rw[I6,e];rfl
theorem Eh{a:S}{d:Ss}(e:AQ c a l h=.exc k l' h'):execSs c (.cons a d) l h=.exc k l' h':=by rw[C1,e];rfl
theorem Ao{a:S}(e:AQ c a l h=s):execSs c (.cons a .nil) l h=s:=by
 rw[C1,e]
 rcases s with ⟨f,_,_⟩|⟨_,_,_⟩|_
 case ok=>rcases f with _|_<;>rfl
 case exc=>rfl
 case bad=>rfl
theorem AR(e:execSs c d l h=.exc k l' h'):HF (execSs c d l h)=.exc k h':=by rw[e];rfl
theorem AH(e:execSs c d l h=.ok (.ret v) l' h'):HF (execSs c d l h)=.ok v h':=by rw[e];rfl
theorem IY{k:Int}(e:A1 c x l h=.ok (.int k) h1):A1 c (.neg x) l h=.ok (.int (-k)) h1:=by rw[UY,e];rfl
theorem EK{t:Ty}(e:A1 c x l h=.ok v h1)(et:UU v t=some b):A1 c (.isi x t) l h=.ok (.bool b) h1:=by rw[UZ,e,Et,et];rfl
theorem YX{d:Ss}{hs:Hs}(hq:c.q=false)(e:execSs c d l h=.exc k l' h')(eh:handle c hs k l' h'=s):AQ c (.tryx d hs) l h=s:=by
 rw[Zz,hq,if_neg aD,e];exact eh
theorem Ba(e:A1 c o l h=.ok v h1)(e1:A1 c x l h1=.ok u h2)(e2:A1 c y l h2=.ok w h3)(ef:C0 v u w h3=r):A1 c (.slice o x y) l h=r:=by rw[Rx,e,Et,e1,Et,e2];exact ef
theorem lS(e:A1 c o l h=.ok v h1)(ef:Kk v h1=r):A1 c (.rev o) l h=r:=by rw[ZB,e];exact ef
theorem Fb{ks:List Str}(e:A1 c x l h=.ok v h1)(et:kO h1 v ks=some b):A1 c (.isx x ks) l h=.ok (.bool b) h1:=by rw[ZA,e,Et,et];rfl
theorem WB(ea:evalXs c as l h=.ok vs h1)(ef:c.F "__init__" (.loc (h1.length+1) :: vs) (HD h1)=.ok .none h2):A1 c (.new as) l h=.ok (.loc (h1.length+1)) h2:=by rw[V0,ea,Et,ef];rfl
theorem WC(ea:evalXs c as l h=.ok vs h1)(ef:c.F "__init__" (.loc (h1.length+1) :: vs) (HD h1)=.exc k h2):A1 c (.new as) l h=.exc k h2:=by rw[V0,ea,Et,ef];rfl
theorem QY{x1 x2 x3:Int}{z:X}(e1:A1 c x l h=.ok (.int x1) h1)(e2:A1 c y l h1=.ok (.int x2) h2)(e3:A1 c z l h2=.ok (.int x3) h2):A1 c (.cmp2 .le .le x y z) l h=.ok (.bool (decide (x1<=x2)&&decide (x2<=x3))) h2:=by
 rw[N5,e1,Et,e2,Et,e3,qG]
 rcases decide (x1<=x2) with _|_<;>rfl
theorem WD{xs:Xs}(ex:A1 c x l h=.exc k h1):evalXs c (.cons x xs) l h=.exc k h1:=by rw[CY,ex];rfl
theorem lT{xs:Xs}(ex:A1 c x l h=.ok v h1)(er:evalXs c xs l h1=.exc k h2):evalXs c (.cons x xs) l h=.exc k h2:=by rw[CY,ex,Et,er];rfl
theorem GF(ea:evalXs c as l h=.exc k h1):A1 c (.tup as) l h=.exc k h1:=by rw[V3,ea];rfl
theorem Nz{is:List Nat}(hq:c.q=false)(e:A1 c x l h=.ok v h1)(ep:Jx is l v=some l'):AQ c (.asgt is x) l h=.ok .next l' h1:=by rw[UV,e,Jy,hq,if_neg aD,ep];rfl
theorem WE(hq:c.q=false):AQ c (.raise k) l h=.exc k l h:=by rw[I7,hq];rfl
theorem BD{d:Ss}(hq:c.q=false)(e:A1 c t l h=.ok (.bool true) h1):execSs c (.cons (.iff t (.cons (.raise k) .nil) .nil) d) l h=.exc k l h1:=Eh (Ip e (Ao (WE hq)))
theorem Aa{d a:Ss}(e:A1 c t l h=.ok (.bool false) h1):execSs c (.cons (.iff t a .nil) d) l h=execSs c d l h1:=A5 (qJ e rfl)
theorem JT{d:Ss}(e:A1 c t l h=.ok (.bool true) h1)(ex:A1 c x l h1=.ok v h2):execSs c (.cons (.iff t (.cons (.ret x) .nil) .nil) d) l h=.ok (.ret v) l h2:=DW (Ip e (Ao (AZ ex)))
end
theorem QX.of{I:Ah->A0->Prop}{R:SR->Prop}{r r':SR}(e:r'=r)(t:QX I R r):QX I R r':=e▸t
noncomputable def Kp(b:Nat)(h h':A0):Prop:=∀ i o,i<b->h[i]?=some o->h'[i]?=some o
section
variable {b b':Nat} {h h' h'' g:A0} {o o':Ay}
theorem Ae:(h++[o])[h.length]?=some o:=aY
theorem AS{i:Nat}(e:h[i]?=some o):(h++g)[i]?=some o:=by
 rw[bB (List.getElem?_eq_some_iff.mp e).1];exact e
theorem NA:(h++[o]).set h.length o'=h++[o']:=by
 rw[gK _ _ (aS _),iB];rfl
theorem CL{i:Nat}(e:h[i]?=some o):(h.set i o')[i]?=some o':=by
 rw[fD (List.getElem?_eq_some_iff.mp e).1]
theorem Bm{i j:Nat}(e:h[i]?=some o)(hne:j≠i):(h.set j o')[i]?=some o:=by
 rw[fN hne];exact e
theorem EL{i:Nat}(e:h[i]?=some o):i<h.length:=(List.getElem?_eq_some_iff.mp e).1
theorem Kp.refl:Kp b h h:=fun _ _ _ e=>e
theorem Kp.app:Kp b h (h++g):=fun _ _ _ e=>AS e
theorem Kp.set{j:Nat}(hj:b<=j):Kp b h (h.set j o):=fun i x hi e=>Bm e (gG (aP hi hj))
theorem Kp.trans(a:Kp b h h')(c:Kp b h' h''):Kp b h h'':=fun i o hi e=>c i o hi (a i o hi e)
theorem Kp.low(a:Kp b h h')(hb:b'<=b):Kp b' h h':=fun i o hi e=>a i o (aP hi hb) e
theorem Kp.all(a:Kp h.length h h'){i:Nat}(e:h[i]?=some o):h'[i]?=some o:=a i o (EL e) e
theorem Kp.then(a:Kp h.length h h')(c:Kp h'.length h' h''):Kp h.length h h'':=fun i o hi e=>c.all (a i o hi e)
theorem Kp.len(a:Kp h.length h h'):h.length<=h'.length:=by
 rcases hl:h.length with _|m
 ·exact bE _
 ·exact EL (a.all (aF (show m<h.length by exact ql (CW _ _) [(Ee,Af)] Ee Af rfl (aE (bO hl)))))
theorem Kp.on(a:Kp b h h')(c:Kp h'.length h' h''):Kp b h h'':=fun i o hi e=>c.all (a i o hi e)
end
inductive NB {α:Type} (o:Option α) (k:Str) (h:A0):B7 α->Prop
 | ok (v:α) (h':A0) (e:o=some v) (K:Kp h.length h h'):NB o k h (.ok v h')
 | no (h':A0) (e:o=none) (K:Kp h.length h h'):NB o k h (.exc k h')
section
variable {α β:Type} {k:Str} {h:A0}
theorem NB.is{o:Option α}{r:B7 α}(a:NB o k h r):(∃ v h',o=some v/\r=.ok v h'/\Kp h.length h h')\/∃ h',o=none/\r=.exc k h'/\Kp h.length h h':=by
 rcases a with ⟨v,h',e,K⟩|⟨h',e,K⟩
 ·exact .inl ⟨v,h',e,rfl,K⟩
 ·exact .inr ⟨h',e,rfl,K⟩
theorem NB.one{v:α}:NB (some v) k h (.ok v h):=.ok v h rfl .refl
theorem NB.of{o o':Option α}{r r':B7 α}(a:NB o k h r)(e:o=o')(e':r'=r):NB o' k h r':=by subst e;subst e';exact a
noncomputable def Df(q:α->Option β):List α->Option (List β)
 | []=>some []
 | x :: r=>(q x).bind fun y=>(Df q r).bind fun ys=>some (y :: ys)
theorem Ms{q:α->Option β}{f:α->β}:∀ {xs:List α},(∀ x∈xs,q x=some (f x))->Df q xs=some (xs.map f)
 | [],_=>rfl
 | x :: r,e=>by
  show (q x).bind _=_
  rw[e x aH,aW,Ms fun y hy=>e y (aL _ hy)];rfl
theorem Mt{q:α->Option β}:∀ {xs:List α} {x:α},x∈xs->q x=none->Df q xs=none
 | y :: r,x,m,e=>by
  show (q y).bind _=_
  rcases List.mem_cons.mp m with rfl|m
  ·rw[e];rfl
  ·rw[Mt m e]
   rcases q y with _|_<;>rfl
theorem P0{E:AV->A0->B7 AV}{u:AV}{κ:Type}{g:κ->AV}{q:κ->Option AV}{its:List κ}(hn:∀ h',Kp h.length h h'->∀ i:Nat,Bj u i h'=some (its.map g)[i]?)
  (hb:∀ z∈its,∀ h',Kp h.length h h'->NB (q z) k h' (E (g z) h')) (hl:its.length<=3000):∀ f i acc h',its.length<f+i->i<=its.length->acc.length<=i->Kp h.length h h' ->
   NB ((Df q (its.drop i)).bind fun ys=>some (acc++ys)) k h' (AG (fun v h=>(E v h).bind fun x h=>.ok (some x) h) u f i acc h')
 | 0,i,acc,h',h1,h2,_,_=>absurd (Nat.lt_of_lt_of_eq h1 (Nat.zero_add _)) (dP h2)
 | f+1,i,acc,h',h1,h2,h3,K=>by
  rw[H8,hn h' K]
  by_cases hk:i<its.length
  ·rw[aK,aF hk,List.drop_eq_getElem_cons hk]
   show NB (((q its[i]).bind fun y=>_).bind _) k h' (((E (g its[i]) h').bind fun x h=>B7.ok (some x) h).bind _)
   rcases (hb its[i] (bZ hk) h' K).is with ⟨v,h2,e,e0,K2⟩|⟨h2,e,e0,K2⟩<;>rw[e0]
   ·rw[e]
    show NB (((Df q (its.drop (i+1))).bind fun ys=>some (v :: ys)).bind _) k h' (if acc.length<Ab then AG _ u f (i+1) (acc++[v]) h2 else B7.bad)
    rw[if_pos (L8 (by exact ql (Ck _ _ _) [(BP,Aj),(AA,Af),(Aj,(qN 3000))] AA (qN 3000) rfl hk h3 hl))]
    have t0:=P0 hn hb hl f (i+1) (acc++[v]) h2 (rF h1) (hk) (by rw[aC];exact cK h3) (K.then K2)
    generalize AG _ u f (i+1) (acc++[v]) h2=rr at t0
    rcases ho:Df q (its.drop (i+1)) with _|ys
    ·rw[ho] at t0
     rcases t0 with ⟨_,_,e3,_⟩|⟨h4,_,K4⟩
     ·cases e3
     ·exact .no h4 rfl (K2.then K4)
    ·rw[ho] at t0
     rcases t0 with ⟨w,h4,e3,K4⟩|⟨_,e3,_⟩
     ·refine .ok w h4 ?_ (K2.then K4)
      rw[<- e3]
      show some (acc++v :: ys)=some (acc++[v]++ys)
      rw[bC];rfl
     ·cases e3
   ·rw[e]
    exact .no h2 rfl K2
  ·rw[cR (by rw[aB];exact bK hk),fE (bK hk)]
   exact .ok acc h' (by show some (acc++[])=_;rw[dC]) .refl
theorem Lc{c:CA}{x it:X}{l:Ah}{m j:Nat}{u:AV}{κ:Type}{g:κ->AV}{q:κ->Option AV}{its:List κ}{h0:A0}(hq:c.q=false)(ei:A1 c it l h0=.ok u h)(hF:50000<=c.fuel)(hn:∀ h',Kp h.length h h'->∀ i:Nat,Bj u i h'=some (its.map g)[i]?)
  (hb:∀ z∈its,∀ h',Kp h.length h h'->NB (q z) k h' (A1 c x (BC l m j (g z)) h')) (hl:its.length<=3000) :
  (∃ vs h',Df q its=some vs/\A1 c (.comp x m j it .nil) l h0=.ok (.loc h'.length) (h'++[.list vs])/\Kp h.length h h')\/(∃ h',Df q its=none/\A1 c (.comp x m j it .nil) l h0=.exc k h'/\Kp h.length h h'):=by
 have e:A1 c (.comp x m j it .nil) l h0=(AG (fun v h=>(A1 c x (BC l m j v) h).bind fun x h=>.ok (some x) h) u c.fuel 0 [] h).bind fun vs h=>Au vs h:=by
  rw[V2,ei,ZJ,Et,hq,if_neg aD];rfl
 have L:∀ {xs:List κ} {vs:List AV},Df q xs=some vs->vs.length=xs.length:=fun {xs}=>by
  induction xs with
  | nil=>intro vs e;cases e;rfl
  | cons z r ih=>
   intro vs e
   refine A9 (Option.bind_eq_some_iff.mp e) fun y _ e=>?_
   refine A9 (Option.bind_eq_some_iff.mp e) fun ys e1 e=>?_
   cases e
   exact congrArg Nat.succ (ih e1)
 have t0:=P0 (E:=fun v h=>A1 c x (BC l m j v) h) hn hb hl c.fuel 0 [] h (aP (l4 hl rfl) hF) (bE _) (bE _) .refl
 rw[List.drop_zero] at t0
 generalize AG (fun v h=>(A1 c x (BC l m j v) h).bind fun x h=>.ok (some x) h) u c.fuel 0 [] h=r at t0 e
 rcases t0 with ⟨w,h',e1,K⟩|⟨h',e1,K⟩
 ·refine A9 (Option.bind_eq_some_iff.mp e1) fun ys e2 e3=>?_
  cases e3
  refine .inl ⟨ys,h',e2,e.trans (HR (AM (by rw[dA,L e2];exact hl))),K⟩
 ·refine .inr ⟨h',?_,e,K⟩
  rcases ho:Df q its with _|_
  ·rfl
  ·rw[ho] at e1;cases e1
theorem Ld{c:CA}{x it:X}{l:Ah}{m j:Nat}{u:AV}{κ:Type}{g:κ->AV}(f:κ->AV){its:List κ}{h0:A0}(hq:c.q=false)(ei:A1 c it l h0=.ok u h)(hF:50000<=c.fuel)(hn:∀ h',Kp h.length h h'->∀ i:Nat,Bj u i h'=some (its.map g)[i]?)
  (hb:∀ z∈its,∀ h',Kp h.length h h'->∃ h'',A1 c x (BC l m j (g z)) h'=.ok (f z) h''/\Kp h'.length h' h'') (hl:its.length<=3000) :
  ∃ h',A1 c (.comp x m j it .nil) l h0=.ok (.loc h'.length) (h'++[.list (its.map f)])/\Kp h.length h h':=by
 have ea:Df (fun z=>some (f z)) its=some (its.map f):=Ms fun _ _=>rfl
 rcases Lc (k:="") (q:=fun z=>some (f z)) hq ei hF hn (fun z hz h' K=>A9 (hb z hz h' K) fun h'' e K'=>.of (.ok _ h'' rfl K') rfl e) hl with ⟨vs,h',e1,q,K⟩|⟨h',e1,q,K⟩
 ·rw[ea] at e1
  cases e1
  exact⟨h',q,K⟩
 ·rw[ea] at e1
  cases e1
end
end
section
open PySem
noncomputable def BG:List Nat:=[97,98,99,100,101,102,103,104,105,106,107,108,109,110,111,112,113,114,115,116,117,118,119,120,121,122,48,49,50,51,52,53,54,55,56,57]
noncomputable def E9:Ss:=
 (.cons (.iff (.cmp .notin (.loc 1) (.str BG))
  (.cons (.ret (.bool false))
  .nil)
  .nil)
 .nil)
noncomputable def IZ:Bz:=⟨1,2,
 (.cons (.iff (.or (.not (.isi (.loc 0) .str)) (.not (.cmp2 .le .le (.int 1) (.bi .len (.cons (.loc 0) .nil)) (.int 12))))
  (.cons (.ret (.bool false))
  .nil)
  .nil)
 (.cons (.forr 1 (.loc 0) E9)
 (.cons (.ret (.bool true))
 .nil)))⟩
noncomputable def Le:Ss:=
 (.cons (.asg 3 (.bin .mod (.bin .add (.bin .add (.bin .mul (.loc 3) (.loc 1)) (.bm .index (.str BG) (.cons (.loc 4) .nil))) (.int 1)) (.loc 2)))
 .nil)
noncomputable def QZ:Bz:=⟨3,5,
 (.cons (.asg 3 (.int 0))
 (.cons (.forr 4 (.loc 0) Le)
 (.cons (.ret (.loc 3))
 .nil)))⟩
noncomputable def Lf:Bz:=⟨3,3,
 (.cons (.ret (.and (.isi (.loc 0) .int) (.and (.not (.isi (.loc 0) .bool)) (.cmp2 .le .le (.loc 1) (.loc 0) (.loc 2)))))
 .nil)⟩
noncomputable def GG:Bz:=⟨1,1,
 (.cons (.iff (.not (.call "is_name" (.cons (.loc 0) .nil)))
  (.cons (.raise "NoName")
  .nil)
  .nil)
 .nil)⟩
noncomputable def FW:Bz:=⟨1,1,
 (.cons (.iff (.not (.call "is_whole" (.cons (.loc 0) (.cons (.neg (.int 1000000000)) (.cons (.int 1000000000) .nil)))))
  (.cons (.raise "NoValue")
  .nil)
  .nil)
 .nil)⟩
noncomputable def GH:Ss:=
 (.cons (.asgt [3,4] (.im "where" (.loc 0) (.cons (.loc 2) .nil)))
 (.cons (.expr (.bm .append (.loc 1) (.cons (.bin .add (.bin .add (.bin .add (.bin .add (.bin .add (.bin .add (.bi .str (.cons (.loc 3) .nil)) (.str [32])) (.bi .str (.cons (.loc 4) .nil))) (.str [32])) (.loc 2)) (.str [32])) (.bi .str (.cons (.im "value" (.loc 0) (.cons (.loc 2) .nil)) .nil))) .nil)))
 .nil))
noncomputable def Mu:Bz:=⟨1,5,
 (.cons (.asg 1 (.list (.cons (.bin .add (.bin .add (.bin .add (.bin .add (.bin .add (.str [110,101,115,116,115,32]) (.bi .str (.cons (.attr "count" (.loc 0)) .nil))) (.str [32])) (.bi .str (.cons (.attr "first" (.loc 0)) .nil))) (.str [32])) (.bi .str (.cons (.attr "second" (.loc 0)) .nil))) .nil)))
 (.cons (.forr 2 (.im "names" (.loc 0) .nil) GH)
 (.cons (.ret (.bm .join (.str []) (.cons (.comp (.bin .add (.loc 5) (.str [10])) 1 5 (.loc 1) .nil) .nil)))
 .nil)))⟩
noncomputable def DX:Ss:=
 (.cons (.iff (.cmp .notin (.loc 1) (.str [48,49,50,51,52,53,54,55,56,57]))
  (.cons (.raise "NoNote")
  .nil)
  .nil)
 .nil)
noncomputable def GI:Bz:=⟨1,2,
 (.cons (.iff (.or (.not (.cmp2 .le .le (.int 1) (.bi .len (.cons (.loc 0) .nil)) (.int 10))) (.and (.cmp .eq (.sub (.loc 0) (.int 0)) (.str [48])) (.cmp .ne (.loc 0) (.str [48]))))
  (.cons (.raise "NoNote")
  .nil)
  .nil)
 (.cons (.forr 1 (.loc 0) DX)
 (.cons (.ret (.bi .int (.cons (.loc 0) .nil)))
 .nil)))⟩
noncomputable def Lg:Bz:=⟨1,2,
 (.cons (.iff (.cmp .ne (.slice (.loc 0) .none (.int 1)) (.str [45]))
  (.cons (.ret (.call "number_of" (.cons (.loc 0) .nil)))
  .nil)
  .nil)
 (.cons (.asg 1 (.call "number_of" (.cons (.slice (.loc 0) (.int 1) .none) .nil)))
 (.cons (.iff (.cmp .eq (.loc 1) (.int 0))
  (.cons (.raise "NoNote")
  .nil)
  .nil)
 (.cons (.ret (.bin .sub (.int 0) (.loc 1)))
 .nil))))⟩
noncomputable def Lh:Bz:=⟨1,2,
 (.cons (.asg 1 (.bm .split (.loc 0) (.cons (.str [32]) .nil)))
 (.cons (.iff (.or (.cmp .ne (.bi .len (.cons (.loc 1) .nil)) (.int 4)) (.cmp .isin (.str []) (.loc 1)))
  (.cons (.raise "NoNote")
  .nil)
  .nil)
 (.cons (.ret (.loc 1))
 .nil)))⟩
noncomputable def Li:Bz:=⟨1,2,
 (.cons (.asg 1 (.call "words_of" (.cons (.loc 0) .nil)))
 (.cons (.ret (.tup (.cons (.tup (.cons (.call "number_of" (.cons (.sub (.loc 1) (.int 0)) .nil)) (.cons (.call "number_of" (.cons (.sub (.loc 1) (.int 1)) .nil)) .nil))) (.cons (.sub (.loc 1) (.int 2)) (.cons (.call "value_of" (.cons (.sub (.loc 1) (.int 3)) .nil)) .nil)))))
 .nil))⟩
noncomputable def GJ:Ss:=
 (.cons (.expr (.im "put_at" (.loc 5) (.cons (.loc 7) (.cons (.loc 8) (.cons (.loc 6) .nil)))))
 .nil)
noncomputable def R0:Bz:=⟨1,9,
 (.cons (.iff (.or (.not (.isi (.loc 0) .str)) (.cmp .ne (.slice (.loc 0) (.neg (.int 1)) .none) (.str [10])))
  (.cons (.raise "NoNote")
  .nil)
  .nil)
 (.cons (.asg 1 (.bm .split (.slice (.loc 0) .none (.neg (.int 1))) (.cons (.str [10]) .nil)))
 (.cons (.asg 2 (.call "words_of" (.cons (.sub (.loc 1) (.int 0)) .nil)))
 (.cons (.iff (.cmp .ne (.sub (.loc 2) (.int 0)) (.str [110,101,115,116,115]))
  (.cons (.raise "NoNote")
  .nil)
  .nil)
 (.cons (.asg 3 (.comp (.call "number_of" (.cons (.loc 9) .nil)) 1 9 (.slice (.loc 2) (.int 1) .none) .nil))
 (.cons (.asg 4 (.comp (.call "thing_of" (.cons (.loc 9) .nil)) 1 9 (.slice (.loc 1) (.int 1) .none) .nil))
 (.cons (.asg 5 (.new (.cons (.sub (.loc 3) (.int 0)) (.cons (.sub (.loc 3) (.int 1)) (.cons (.sub (.loc 3) (.int 2)) .nil)))))
 (.cons (.fort [6,7,8] (.loc 4) GJ)
 (.cons (.ret (.loc 5))
 .nil)))))))))⟩
noncomputable def GK:Bz:=⟨3,3,
 (.cons (.iff (.cmp .gt (.bi .len (.cons (.loc 0) .nil)) (.int 63))
  (.cons (.ret (.loc 2))
  .nil)
  .nil)
 (.cons (.ret (.loc 1))
 .nil))⟩
noncomputable def GL:Ss:=
 (.cons (.asg 3 (.bin .add (.loc 3) (.sub (.loc 2) (.bin .mod (.bin .div (.call "_law_mixed" (.cons (.loc 0) (.cons (.loc 4) .nil))) (.int 31)) (.int 36)))))
 .nil)
noncomputable def EM:Ss:=
 (.cons (.asg 7 (.call "_law_mixed" (.cons (.loc 0) (.cons (.bin .add (.int 50) (.loc 4)) .nil))))
 (.cons (.asg 8 (.sub (.loc 2) (.bin .mod (.bin .add (.bin .div (.loc 0) (.int 110)) (.loc 4)) (.int 36))))
 (.cons (.iff (.cmp .gt (.bin .mod (.bin .div (.loc 0) (.int 3960)) (.int 3)) (.int 0))
  (.cons (.asg 8 (.bin .add (.bin .add (.sub (.loc 2) (.bin .mod (.bin .div (.loc 7) (.int 7)) (.int 36))) (.sub (.loc 2) (.bin .mod (.bin .div (.loc 7) (.int 301)) (.int 36)))) (.loc 8)))
  .nil)
  .nil)
 (.cons (.expr (.bm .append (.loc 6) (.cons (.bin .add (.bin .add (.slice (.loc 3) .none (.loc 5)) (.loc 8)) (.slice (.loc 3) (.loc 5) .none)) .nil)))
 .nil))))
noncomputable def FY:Bz:=⟨2,9,
 (.cons (.asg 2 (.str BG))
 (.cons (.asg 3 (.str []))
 (.cons (.forr 4 (.range (.cons (.bin .mod (.loc 0) (.int 10)) .nil)) GL)
 (.cons (.asg 5 (.bin .mod (.bin .div (.loc 0) (.int 10)) (.int 11)))
 (.cons (.asg 6 (.list .nil))
 (.cons (.forr 4 (.range (.cons (.loc 1) .nil)) EM)
 (.cons (.ret (.loc 6))
 .nil)))))))⟩
noncomputable def Fc:Ss:=
 (.cons (.asg 4 (.bin .mod (.bin .add (.bin .add (.bin .mul (.loc 4) (.loc 1)) (.bm .index (.loc 3) (.cons (.loc 5) .nil))) (.int 1)) (.loc 2)))
 .nil)
noncomputable def GM:Bz:=⟨3,6,
 (.cons (.asg 3 (.str BG))
 (.cons (.asg 4 (.int 0))
 (.cons (.forr 5 (.loc 0) Fc)
 (.cons (.ret (.loc 4))
 .nil))))⟩
noncomputable def FZ:Bz:=⟨1,4,
 (.cons (.asg 1 (.bin .add (.int 1) (.bin .mod (.call "_law_cell_at" (.cons (.loc 0) (.cons (.int 0) .nil))) (.int 6))))
 (.cons (.iff (.cmp .eq (.bin .mod (.bin .div (.call "_law_cell_at" (.cons (.loc 0) (.cons (.int 0) .nil))) (.int 6)) (.int 8)) (.int 1))
  (.cons (.asg 1 (.bin .add (.int 1) (.bin .mod (.bin .div (.call "_law_cell_at" (.cons (.loc 0) (.cons (.int 0) .nil))) (.int 48)) (.int 1000))))
  .nil)
  .nil)
 (.cons (.asg 2 (.bin .add (.int 1) (.bin .mod (.call "_law_mixed" (.cons (.call "_law_cell_at" (.cons (.loc 0) (.cons (.int 1) .nil))) (.cons (.int 1) .nil))) (.sub (.list (.cons (.int 7) (.cons (.int 1000000) .nil))) (.bin .mod (.call "_law_cell_at" (.cons (.loc 0) (.cons (.int 1) .nil))) (.int 2))))))
 (.cons (.asg 3 (.bin .add (.int 1) (.bin .mod (.call "_law_mixed" (.cons (.call "_law_cell_at" (.cons (.loc 0) (.cons (.int 2) .nil))) (.cons (.int 2) .nil))) (.sub (.list (.cons (.int 9) (.cons (.int 1000000) .nil))) (.bin .mod (.call "_law_cell_at" (.cons (.loc 0) (.cons (.int 2) .nil))) (.int 2))))))
 (.cons (.ret (.tup (.cons (.loc 1) (.cons (.loc 2) (.cons (.loc 3) .nil)))))
 .nil)))))⟩
noncomputable def GN:Ss:=
 (.cons (.setitem (.loc 2) (.loc 3) (.tup (.cons (.tup (.cons (.int 0) (.cons (.call "_law_home" (.cons (.loc 3) (.cons (.sub (.loc 1) (.int 1)) (.cons (.sub (.loc 1) (.int 0)) .nil)))) .nil))) (.cons (.tup (.cons (.int 1) (.cons (.call "_law_home" (.cons (.loc 3) (.cons (.sub (.loc 1) (.int 2)) (.cons (.sub (.loc 1) (.int 0)) .nil)))) .nil))) .nil))))
 .nil)
noncomputable def Ir:Bz:=⟨2,4,
 (.cons (.asg 2 .dict0)
 (.cons (.forr 3 (.loc 0) GN)
 (.cons (.ret (.loc 2))
 .nil)))⟩
noncomputable def GO:Bz:=⟨1,2,
 (.cons (.asg 1 (.list (.cons (.isx (.loc 0) ["NoNests"]) (.cons (.isx (.loc 0) ["NoName"]) (.cons (.isx (.loc 0) ["NoValue"]) (.cons (.isx (.loc 0) ["NoNest"]) .nil))))))
 (.cons (.asg 1 (.bin .add (.loc 1) (.list (.cons (.isx (.loc 0) ["NoHome"]) (.cons (.isx (.loc 0) ["Taken"]) (.cons (.isx (.loc 0) ["Twice"]) (.cons (.isx (.loc 0) ["NoNote"]) .nil)))))))
 (.cons (.iff (.or (.not (.isx (.loc 0) ["NestError","NoNests","NoName","NoValue","NoNest","NoHome","Taken","Twice","NoRoom","Unknown","NoNote"])) (.or (.cmp .ne (.bm .count (.loc 1) (.cons (.bool true) .nil)) (.int 1)) (.isx (.loc 0) ["NoRoom","Unknown"])))
  (.cons (.ret (.str [111,116,104,101,114]))
  .nil)
  .nil)
 (.cons (.ret (.sub (.list (.cons (.str [110,101,115,116,115]) (.cons (.str [110,97,109,101]) (.cons (.str [118,97,108,117,101]) (.cons (.str [110,101,115,116]) (.cons (.str [104,111,109,101]) (.cons (.str [116,97,107,101,110]) (.cons (.str [116,119,105,99,101]) (.cons (.str [110,111,116,101]) .nil))))))))) (.bm .index (.loc 1) (.cons (.bool true) .nil))))
 .nil))))⟩
noncomputable def LQ:Ss:=
 (.cons (.expr (.call "read" (.cons (.loc 0) .nil)))
 .nil)
noncomputable def Hx:Ss:=
 (.cons (.ret (.call "_law_kind" (.cons (.loc 1) .nil)))
 .nil)
noncomputable def Jr:Bz:=⟨1,2,
 (.cons (.tryx LQ (.cons ["NestError","NoNests","NoName","NoValue","NoNest","NoHome","Taken","Twice","NoRoom","Unknown","NoNote"] 1 Hx .nil))
 (.cons (.ret (.str []))
 .nil))⟩
noncomputable def GP:Ss:=
 (.cons (.asg 7 (.call "_law_mixed" (.cons (.loc 6) (.cons (.bi .len (.cons (.loc 4) .nil)) .nil))))
 (.cons (.asg 8 (.sub (.loc 2) (.bin .mod (.loc 7) (.int 20))))
 (.cons (.asg 9 (.sub (.sub (.loc 3) (.loc 8)) (.bin .mod (.bin .div (.loc 7) (.int 20)) (.int 2))))
 (.cons (.iff (.and (.cmp .notin (.loc 9) (.loc 4)) (.cmp .notin (.loc 8) (.loc 5)))
  (.cons (.setitem (.loc 4) (.loc 9) (.loc 8))
  (.cons (.asg 10 (.bin .div (.loc 7) (.int 40)))
  (.cons (.setitem (.loc 5) (.loc 8) (.sub (.list (.cons (.bin .mod (.loc 10) (.int 10)) (.cons (.neg (.bin .add (.int 1) (.bin .mod (.loc 10) (.int 999)))) (.cons (.bin .pow (.int 10) (.int 9)) (.cons (.neg (.bin .pow (.int 10) (.int 9))) (.cons (.bin .mod (.loc 10) (.bin .pow (.int 10) (.int 9))) .nil)))))) (.bin .mod (.bin .div (.loc 7) (.int 5)) (.int 5))))
  .nil)))
  .nil)
 .nil))))
noncomputable def Is:Bz:=⟨4,11,
 (.cons (.asg 4 .dict0)
 (.cons (.asg 5 .dict0)
 (.cons (.forr 6 (.slice (.loc 0) (.int 9) (.bin .add (.int 9) (.call "_law_room" (.cons (.loc 0) (.cons (.int 14) (.cons (.int 40) .nil)))))) GP)
 (.cons (.ret (.tup (.cons (.loc 4) (.cons (.loc 5) .nil))))
 .nil))))⟩
noncomputable def Hy:Ss:=
 (.cons (.asg 4 (.list (.cons (.bi .str (.cons (.sub (.loc 3) (.int 0)) .nil)) (.cons (.bi .str (.cons (.sub (.loc 3) (.int 1)) .nil)) (.cons (.sub (.loc 0) (.loc 3)) (.cons (.bi .str (.cons (.sub (.loc 1) (.sub (.loc 0) (.loc 3))) .nil)) .nil))))))
 (.cons (.expr (.bm .append (.loc 2) (.cons (.bm .join (.str [32]) (.cons (.loc 4) .nil)) .nil)))
 .nil))
noncomputable def Js:Bz:=⟨2,5,
 (.cons (.asg 2 (.list .nil))
 (.cons (.forr 3 (.bi .sorted (.cons (.bi .list (.cons (.loc 0) .nil)) .nil)) Hy)
 (.cons (.ret (.loc 2))
 .nil)))⟩
noncomputable def Jt:Bz:=⟨1,1,
 (.cons (.ret (.bm .join (.str []) (.cons (.comp (.bin .add (.loc 1) (.str [10])) 1 1 (.loc 0) .nil) .nil)))
 .nil)⟩
noncomputable def GQ:Ss:=
 (.cons (.iff (.or (.cmp .ne (.im "at" (.loc 0) (.cons (.loc 4) .nil)) (.sub (.loc 2) (.loc 4))) (.cmp .ne (.im "value" (.loc 0) (.cons (.sub (.loc 2) (.loc 4)) .nil)) (.sub (.loc 3) (.sub (.loc 2) (.loc 4)))))
  (.cons (.ret (.bool false))
  .nil)
  .nil)
 .nil)
noncomputable def It:Bz:=⟨4,5,
 (.cons (.iff (.or (.cmp .ne (.tup (.cons (.attr "count" (.loc 0)) (.cons (.attr "first" (.loc 0)) (.cons (.attr "second" (.loc 0)) .nil)))) (.loc 1)) (.cmp .ne (.im "many" (.loc 0) .nil) (.bi .len (.cons (.loc 2) .nil))))
  (.cons (.ret (.bool false))
  .nil)
  .nil)
 (.cons (.forr 4 (.bi .list (.cons (.loc 2) .nil)) GQ)
 (.cons (.ret (.cmp .eq (.im "names" (.loc 0) .nil) (.comp (.sub (.loc 2) (.loc 5)) 1 5 (.bi .sorted (.cons (.bi .list (.cons (.loc 2) .nil)) .nil)) .nil)))
 .nil)))⟩
noncomputable def Hz:Bz:=⟨1,1,
 (.cons (.ret (.sub (.list (.cons (.str []) (.cons (.str [48,48]) (.cons (.str [48,48,55]) (.cons (.str [43,49]) (.cons (.str [49,95,48]) (.cons (.str [49,46]) (.cons (.str [48,120,49]) (.cons (.str [49,50,51,52,53,54,55,56,57,48,49]) (.cons (.str [32,49]) (.cons (.str [45,48]) (.cons (.str [45,45,49]) (.cons (.str [45]) (.cons (.str [111,110,101]) .nil)))))))))))))) (.bin .mod (.loc 0) (.int 13))))
 .nil)⟩
noncomputable def G8:Ss:=
 (.cons (.ret (.call "_law_text" (.cons (.bin .add (.bin .add (.slice (.loc 0) .none (.loc 3)) (.list (.cons (.loc 7) .nil))) (.slice (.loc 0) (.bin .add (.loc 3) (.int 1)) .none)) .nil)))
 .nil)
noncomputable def Fd:Bz:=⟨3,8,
 (.cons (.asg 3 (.bin .mod (.loc 2) (.bi .len (.cons (.loc 0) .nil))))
 (.cons (.asg 4 (.bm .split (.sub (.loc 0) (.loc 3)) (.cons (.str [32]) .nil)))
 (.cons (.asg 5 (.bin .mod (.bin .div (.loc 2) (.int 61)) (.int 4)))
 (.cons (.iff (.cmp .eq (.bin .mod (.loc 1) (.int 7)) (.int 0))
  (.cons (.setitem (.loc 4) (.loc 5) (.call "_law_number" (.cons (.bin .div (.loc 2) (.int 7)) .nil)))
  (.cons (.iff (.and (.cmp .gt (.loc 3) (.int 0)) (.cmp .eq (.loc 5) (.int 3)))
   (.cons (.setitem (.loc 4) (.int 3) (.sub (.list (.cons (.str [45,48]) (.cons (.str [45,48]) (.cons (.str [45,48,49]) (.cons (.str [45,45,49]) (.cons (.str [45]) (.cons (.str [43,53]) (.cons (.str [49,95,48]) (.cons (.str [49,50,51,52,53,54,55,56,57,48,49]) .nil))))))))) (.bin .mod (.bin .div (.loc 2) (.int 7)) (.int 8))))
   .nil)
   .nil)
  (.cons (.iff (.and (.cmp .gt (.loc 3) (.int 0)) (.cmp .eq (.loc 5) (.int 2)))
   (.cons (.setitem (.loc 4) (.int 2) (.sub (.list (.cons (.str []) (.cons (.str [32,97]) (.cons (.str [97,32]) (.cons (.str [97,32,98]) .nil))))) (.bin .mod (.bin .div (.loc 2) (.int 7)) (.int 4))))
   .nil)
   .nil)
  (.cons (.ret (.call "_law_text" (.cons (.bin .add (.bin .add (.slice (.loc 0) .none (.loc 3)) (.list (.cons (.bm .join (.str [32]) (.cons (.loc 4) .nil)) .nil))) (.slice (.loc 0) (.bin .add (.loc 3) (.int 1)) .none)) .nil)))
  .nil))))
  .nil)
 (.cons (.iff (.cmp .eq (.bin .mod (.loc 1) (.int 7)) (.int 1))
  (.cons (.ret (.bin .add (.slice (.call "_law_text" (.cons (.loc 0) .nil)) .none (.neg (.int 1))) (.sub (.list (.cons (.str []) (.cons (.str [32]) (.cons (.str [10,10]) (.cons (.str [120]) .nil))))) (.bin .mod (.loc 2) (.int 4)))))
  .nil)
  .nil)
 (.cons (.repl (.cmp .eq (.bin .mod (.loc 1) (.int 7)) (.int 2)) 6 (.cons (.str [32,32]) (.cons (.str [9]) (.cons (.str []) .nil))) (.bin .mod (.bin .div (.loc 2) (.int 61)) (.int 3)) 7 0 3 [32] (.bin .add (.int 1) (.bin .mod (.bin .div (.loc 2) (.int 183)) (.int 3))) G8)
 (.cons (.iff (.cmp .eq (.bin .mod (.loc 1) (.int 7)) (.int 3))
  (.cons (.ret (.call "_law_text" (.cons (.slice (.loc 0) (.int 1) .none) .nil)))
  .nil)
  .nil)
 (.cons (.iff (.cmp .eq (.bin .mod (.loc 1) (.int 7)) (.int 4))
  (.cons (.ret (.call "_law_text" (.cons (.bin .add (.loc 0) (.slice (.loc 0) .none (.int 1))) .nil)))
  .nil)
  .nil)
 (.cons (.iff (.cmp .eq (.bin .mod (.loc 1) (.int 7)) (.int 5))
  (.cons (.setitem (.loc 4) (.int 0) (.sub (.list (.cons (.sub (.list (.cons (.str [78,101,115,116,115]) (.cons (.str [110,101,115,116]) (.cons (.str []) (.cons (.str [110,101,115,116,115,32]) .nil))))) (.bin .mod (.bin .div (.loc 2) (.int 7)) (.int 4))) (.cons (.str [45,49]) (.cons (.str [97]) .nil)))) (.bi .min (.cons (.loc 3) (.cons (.bin .add (.int 1) (.bin .mod (.bin .div (.loc 2) (.int 61)) (.int 2))) .nil)))))
  (.cons (.ret (.call "_law_text" (.cons (.bin .add (.bin .add (.slice (.loc 0) .none (.loc 3)) (.list (.cons (.bm .join (.str [32]) (.cons (.loc 4) .nil)) .nil))) (.slice (.loc 0) (.bin .add (.loc 3) (.int 1)) .none)) .nil)))
  .nil))
  .nil)
 (.cons (.asg 7 (.sub (.list (.cons (.str []) (.cons (.str [32]) (.cons (.bin .add (.sub (.loc 0) (.loc 3)) (.str [32])) (.cons (.bin .add (.str [32]) (.sub (.loc 0) (.loc 3))) .nil))))) (.bin .mod (.bin .div (.loc 2) (.int 61)) (.int 4))))
 (.cons (.ret (.call "_law_text" (.cons (.bin .add (.bin .add (.slice (.loc 0) .none (.loc 3)) (.list (.cons (.loc 7) .nil))) (.slice (.loc 0) (.bin .add (.loc 3) (.int 1)) .none)) .nil)))
 .nil)))))))))))⟩
noncomputable def EN:Ss:=
 (.cons (.asg 13 (.cmp .isin (.bin .add (.bin .add (.str [32]) (.loc 12)) (.str [32])) (.bm .join (.str [32]) (.cons (.loc 0) .nil))))
 (.cons (.iff (.and (.cmp .eq (.bin .mod (.loc 4) (.int 8)) (.int 7)) (.and (.not (.loc 13)) (.cmp .eq (.sub (.sub (.sub (.loc 2) (.loc 12)) (.bi .int (.cons (.sub (.loc 8) (.int 0)) .nil))) (.int 1)) (.bi .int (.cons (.sub (.loc 8) (.int 1)) .nil)))))
  (.cons (.ret (.tup (.cons (.bin .add (.loc 0) (.list (.cons (.bin .add (.bin .add (.loc 11) (.loc 12)) (.str [32,49])) .nil))) (.cons (.str [116,97,107,101,110]) .nil))))
  .nil)
  .nil)
 .nil))
noncomputable def G0:Bz:=⟨6,14,
 (.cons (.asg 6 (.sub (.loc 0) (.int 0)))
 (.cons (.iff (.cmp .eq (.bin .mod (.loc 4) (.int 8)) (.int 0))
  (.cons (.asg 7 (.sub (.list (.cons (.tup (.cons (.int 0) (.cons (.int 1) (.cons (.int 1) .nil)))) (.cons (.tup (.cons (.int 1001) (.cons (.int 1) (.cons (.int 1) .nil)))) (.cons (.tup (.cons (.int 5) (.cons (.int 0) (.cons (.int 1) .nil)))) (.cons (.tup (.cons (.int 5) (.cons (.int 1) (.cons (.int 1000001) .nil)))) (.cons (.tup (.cons (.int 9999999999) (.cons (.int 1) (.cons (.int 1) .nil)))) .nil)))))) (.bin .mod (.loc 5) (.int 5))))
  (.cons (.asg 8 (.list (.cons (.str [110,101,115,116,115]) (.cons (.bi .str (.cons (.sub (.loc 7) (.int 0)) .nil)) (.cons (.bi .str (.cons (.sub (.loc 7) (.int 1)) .nil)) (.cons (.bi .str (.cons (.sub (.loc 7) (.int 2)) .nil)) .nil))))))
  (.cons (.ret (.tup (.cons (.bin .add (.list (.cons (.bm .join (.str [32]) (.cons (.loc 8) .nil)) .nil)) (.slice (.loc 0) (.int 1) .none)) (.cons (.str [110,101,115,116,115]) .nil))))
  .nil)))
  .nil)
 (.cons (.iff (.cmp .eq (.bin .mod (.loc 4) (.int 8)) (.int 1))
  (.cons (.ret (.tup (.cons (.bin .add (.loc 0) (.list (.cons (.bin .add (.bin .add (.str [48,32,48,32]) (.sub (.list (.cons (.str [65]) (.cons (.str [97,98,99,100,101,102,103,104,105,106,107,108,48]) (.cons (.str [97,95,98]) (.cons (.str [97,46]) .nil))))) (.bin .mod (.loc 5) (.int 4)))) (.str [32,57,57,57,57,57,57,57,57,57,57])) .nil))) (.cons (.str [110,97,109,101]) .nil))))
  .nil)
  .nil)
 (.cons (.iff (.cmp .eq (.bin .mod (.loc 4) (.int 8)) (.int 2))
  (.cons (.ret (.tup (.cons (.bin .add (.loc 0) (.list (.cons (.bin .add (.bin .add (.bin .add (.str [55,32,48,32]) (.loc 3)) (.str [32])) (.sub (.list (.cons (.str [49,48,48,48,48,48,48,48,48,49]) (.cons (.str [45,49,48,48,48,48,48,48,48,48,49]) (.cons (.str [57,57,57,57,57,57,57,57,57,57]) .nil)))) (.bin .mod (.loc 5) (.int 3)))) .nil))) (.cons (.str [118,97,108,117,101]) .nil))))
  .nil)
  .nil)
 (.cons (.iff (.cmp .eq (.bin .mod (.loc 4) (.int 8)) (.int 3))
  (.cons (.asg 8 (.list (.cons (.sub (.list (.cons (.str [50]) (.cons (.str [48]) (.cons (.str [49]) .nil)))) (.bin .mod (.loc 5) (.int 3))) (.cons (.bi .str (.cons (.sub (.list (.cons (.int 0) (.cons (.sub (.loc 1) (.int 0)) (.cons (.bin .add (.sub (.loc 1) (.int 0)) (.int 9)) .nil)))) (.bin .mod (.loc 5) (.int 3))) .nil)) (.cons (.loc 3) (.cons (.str [49]) .nil))))))
  (.cons (.ret (.tup (.cons (.bin .add (.loc 0) (.list (.cons (.bm .join (.str [32]) (.cons (.loc 8) .nil)) .nil))) (.cons (.str [110,101,115,116]) .nil))))
  .nil))
  .nil)
 (.cons (.iff (.and (.cmp .eq (.bin .mod (.loc 4) (.int 8)) (.int 4)) (.cmp .gt (.sub (.loc 1) (.int 0)) (.int 1)))
  (.cons (.asg 9 (.sub (.sub (.loc 2) (.loc 3)) (.bin .mod (.loc 5) (.int 2))))
  (.cons (.asg 10 (.bin .mod (.bin .add (.bin .add (.sub (.loc 9) (.int 1)) (.int 1)) (.bin .mod (.bin .div (.loc 5) (.int 2)) (.bin .sub (.sub (.loc 1) (.int 0)) (.int 1)))) (.sub (.loc 1) (.int 0))))
  (.cons (.asg 8 (.list (.cons (.bi .str (.cons (.sub (.loc 9) (.int 0)) .nil)) (.cons (.bi .str (.cons (.loc 10) .nil)) (.cons (.loc 3) (.cons (.str [49]) .nil))))))
  (.cons (.ret (.tup (.cons (.bin .add (.loc 0) (.list (.cons (.bm .join (.str [32]) (.cons (.loc 8) .nil)) .nil))) (.cons (.str [104,111,109,101]) .nil))))
  .nil))))
  .nil)
 (.cons (.iff (.cmp .eq (.bi .len (.cons (.loc 0) .nil)) (.int 1))
  (.cons (.asg 8 (.list (.cons (.str [48]) (.cons (.bi .str (.cons (.sub (.sub (.sub (.loc 2) (.loc 3)) (.int 0)) (.int 1)) .nil)) (.cons (.loc 3) (.cons (.str [49]) .nil))))))
  (.cons (.ret (.tup (.cons (.list (.cons (.loc 6) (.cons (.bm .join (.str [32]) (.cons (.loc 8) .nil)) (.cons (.bin .add (.bin .add (.str [57,32,57,32]) (.loc 3)) (.str [32,50])) .nil)))) (.cons (.str [116,119,105,99,101]) .nil))))
  .nil))
  .nil)
 (.cons (.asg 8 (.bm .split (.sub (.loc 0) (.bin .add (.int 1) (.bin .mod (.loc 5) (.bin .sub (.bi .len (.cons (.loc 0) .nil)) (.int 1))))) (.cons (.str [32]) .nil)))
 (.cons (.asg 11 (.bin .add (.bin .add (.bin .add (.sub (.loc 8) (.int 0)) (.str [32])) (.sub (.loc 8) (.int 1))) (.str [32])))
 (.cons (.forr 12 (.bi .list (.cons (.loc 2) .nil)) EN)
 (.cons (.ret (.tup (.cons (.bin .add (.loc 0) (.list (.cons (.bin .add (.bin .add (.sub (.list (.cons (.str [57,32,48,32]) (.cons (.loc 11) .nil))) (.bin .mod (.bin .div (.loc 5) (.int 61)) (.int 2))) (.sub (.loc 8) (.int 2))) (.str [32,49])) .nil))) (.cons (.str [116,119,105,99,101]) .nil))))
 .nil)))))))))))⟩
noncomputable def Fe:Ss:=
 (.cons (.expr (.im "put_at" (.loc 7) (.cons (.sub (.loc 2) (.loc 8)) (.cons (.sub (.loc 3) (.sub (.loc 2) (.loc 8))) (.cons (.loc 8) .nil)))))
 .nil)
noncomputable def Dm:Bz:=⟨7,17,
 (.cons (.asg 7 (.new (.cons (.sub (.loc 0) (.int 0)) (.cons (.sub (.loc 0) (.int 1)) (.cons (.sub (.loc 0) (.int 2)) .nil)))))
 (.cons (.forr 8 (.bi .list (.cons (.loc 2) .nil)) Fe)
 (.cons (.asg 9 (.call "written" (.cons (.loc 7) .nil)))
 (.cons (.iff (.or (.not (.isi (.loc 9) .str)) (.or (.cmp .ne (.loc 9) (.call "_law_text" (.cons (.loc 1) .nil))) (.cmp .ne (.call "written" (.cons (.loc 7) .nil)) (.loc 9))))
  (.cons (.ret (.bool false))
  .nil)
  .nil)
 (.cons (.asg 10 (.bin .add (.int 1) (.bin .mod (.loc 6) (.bi .len (.cons (.loc 1) .nil)))))
 (.cons (.asg 11 (.bin .add (.bin .add (.slice (.loc 1) .none (.int 1)) (.rev (.slice (.loc 1) (.loc 10) .none))) (.slice (.loc 1) (.int 1) (.loc 10))))
 (.cons (.asg 12 (.call "read" (.cons (.call "_law_text" (.cons (.loc 11) .nil)) .nil)))
 (.cons (.iff (.or (.not (.call "_law_alike" (.cons (.loc 12) (.cons (.loc 0) (.cons (.loc 2) (.cons (.loc 3) .nil)))))) (.not (.call "_law_alike" (.cons (.call "read" (.cons (.loc 9) .nil)) (.cons (.loc 0) (.cons (.loc 2) (.cons (.loc 3) .nil)))))))
  (.cons (.ret (.bool false))
  .nil)
  .nil)
 (.cons (.iff (.cmp .ne (.loc 2) .dict0)
  (.cons (.asg 13 (.sub (.bi .list (.cons (.loc 2) .nil)) (.bin .mod (.loc 6) (.bi .len (.cons (.loc 2) .nil)))))
  (.cons (.iff (.cmp .ne (.im "take_out" (.loc 12) (.cons (.sub (.loc 2) (.loc 13)) .nil)) (.sub (.loc 3) (.sub (.loc 2) (.loc 13))))
   (.cons (.ret (.bool false))
   .nil)
   .nil)
  (.cons (.asg 14 (.bi .dict (.cons (.comp (.tup (.cons (.loc 17) (.cons (.sub (.loc 2) (.loc 17)) .nil))) 1 17 (.bi .list (.cons (.loc 2) .nil)) (.cons (.cmp .ne (.loc 17) (.loc 13)) .nil)) .nil)))
  (.cons (.iff (.or (.cmp .ne (.call "written" (.cons (.loc 12) .nil)) (.call "_law_text" (.cons (.bin .add (.slice (.loc 1) .none (.int 1)) (.call "_law_rows" (.cons (.loc 14) (.cons (.loc 3) .nil)))) .nil))) (.cmp .ne (.call "written" (.cons (.loc 7) .nil)) (.loc 9)))
   (.cons (.ret (.bool false))
   .nil)
   .nil)
  (.cons (.expr (.im "put_at" (.loc 12) (.cons (.sub (.loc 2) (.loc 13)) (.cons (.int 7) (.cons (.loc 13) .nil)))))
  (.cons (.asg 15 (.bi .dict (.cons (.loc 3) .nil)))
  (.cons (.setitem (.loc 15) (.sub (.loc 2) (.loc 13)) (.int 7))
  (.cons (.ret (.cmp .eq (.call "written" (.cons (.loc 12) .nil)) (.call "_law_text" (.cons (.bin .add (.slice (.loc 1) .none (.int 1)) (.call "_law_rows" (.cons (.loc 2) (.cons (.loc 15) .nil)))) .nil))))
  .nil))))))))
  .nil)
 (.cons (.expr (.im "put_at" (.loc 7) (.cons (.loc 5) (.cons (.int 1) (.cons (.sub (.sub (.loc 4) (.loc 5)) (.int 0)) .nil)))))
 (.cons (.asg 16 (.list (.cons (.str [48]) (.cons (.bi .str (.cons (.sub (.sub (.sub (.loc 4) (.loc 5)) (.int 0)) (.int 1)) .nil)) (.cons (.loc 5) (.cons (.str [49]) .nil))))))
 (.cons (.ret (.cmp .eq (.call "written" (.cons (.loc 7) .nil)) (.call "_law_text" (.cons (.list (.cons (.sub (.loc 1) (.int 0)) (.cons (.bm .join (.str [32]) (.cons (.loc 16) .nil)) .nil))) .nil))))
 .nil))))))))))))⟩
noncomputable def GR:Bz:=⟨6,9,
 (.cons (.asg 6 (.call "_law_other" (.cons (.loc 0) (.cons (.loc 1) (.cons (.loc 2) (.cons (.loc 3) (.cons (.loc 4) (.cons (.loc 5) .nil))))))))
 (.cons (.asg 7 (.bin .add (.sub (.loc 6) (.int 0)) (.slice (.list (.cons (.str [57,32,57,32,66,32,49]) .nil)) .none (.bin .mod (.bin .div (.loc 5) (.int 7)) (.int 2)))))
 (.cons (.iff (.cmp .ne (.call "_law_told" (.cons (.call "_law_text" (.cons (.loc 7) .nil)) .nil)) (.sub (.loc 6) (.int 1)))
  (.cons (.ret (.bool false))
  .nil)
  .nil)
 (.cons (.asg 8 (.sub (.list (.cons (.str [120]) (.cons (.str []) (.cons (.str [49,32,49,32,97,32,48,49]) (.cons (.str [110,101,115,116,115,32,49,32,49,32,49]) .nil))))) (.bin .mod (.bin .div (.loc 5) (.int 14)) (.int 4))))
 (.cons (.ret (.cmp .eq (.call "_law_told" (.cons (.call "_law_text" (.cons (.bin .add (.loc 7) (.list (.cons (.loc 8) .nil))) .nil)) .nil)) (.str [110,111,116,101])))
 .nil)))))⟩
noncomputable def Iu:Ss:=
 (.cons (.asg 11 (.call "_law_mixed" (.cons (.call "_law_cell_at" (.cons (.loc 0) (.cons (.int 5) .nil))) (.cons (.loc 10) .nil))))
 (.cons (.asg 12 (.call "_law_mixed" (.cons (.call "_law_cell_at" (.cons (.loc 0) (.cons (.int 6) .nil))) (.cons (.loc 10) .nil))))
 (.cons (.iff (.cmp .eq (.loc 8) (.int 0))
  (.cons (.iff (.not (.call "_law_good" (.cons (.loc 1) (.cons (.loc 7) (.cons (.loc 4) (.cons (.loc 5) (.cons (.loc 3) (.cons (.loc 9) (.cons (.loc 12) .nil)))))))))
   (.cons (.ret (.bool false))
   .nil)
   .nil)
  .nil)
  .nil)
 (.cons (.iff (.and (.cmp .eq (.loc 8) (.int 1)) (.cmp .ne (.call "_law_told" (.cons (.call "_law_spoilt" (.cons (.loc 7) (.cons (.loc 11) (.cons (.loc 12) .nil)))) .nil)) (.str [110,111,116,101])))
  (.cons (.ret (.bool false))
  .nil)
  .nil)
 (.cons (.iff (.cmp .eq (.loc 8) (.int 2))
  (.cons (.iff (.not (.call "_law_refused" (.cons (.loc 7) (.cons (.loc 1) (.cons (.loc 3) (.cons (.loc 9) (.cons (.loc 11) (.cons (.loc 12) .nil))))))))
   (.cons (.ret (.bool false))
   .nil)
   .nil)
  .nil)
  .nil)
 .nil)))))
noncomputable def ZK:Bz:=⟨1,13,
 (.cons (.asg 1 (.call "_law_table" (.cons (.loc 0) .nil)))
 (.cons (.asg 2 (.call "_law_names" (.cons (.call "_law_cell_at" (.cons (.loc 0) (.cons (.int 3) .nil))) (.cons (.int 21) .nil))))
 (.cons (.asg 3 (.call "_law_homes" (.cons (.loc 2) (.cons (.loc 1) .nil))))
 (.cons (.asgt [4,5] (.call "_law_drawn" (.cons (.loc 0) (.cons (.loc 1) (.cons (.loc 2) (.cons (.loc 3) .nil))))))
 (.cons (.asg 6 (.list (.cons (.str [110,101,115,116,115]) (.cons (.bi .str (.cons (.sub (.loc 1) (.int 0)) .nil)) (.cons (.bi .str (.cons (.sub (.loc 1) (.int 1)) .nil)) (.cons (.bi .str (.cons (.sub (.loc 1) (.int 2)) .nil)) .nil))))))
 (.cons (.asg 7 (.bin .add (.list (.cons (.bm .join (.str [32]) (.cons (.loc 6) .nil)) .nil)) (.call "_law_rows" (.cons (.loc 4) (.cons (.loc 5) .nil)))))
 (.cons (.asg 8 (.bin .mod (.call "_law_cell_at" (.cons (.loc 0) (.cons (.int 4) .nil))) (.int 3)))
 (.cons (.asg 9 (.sub (.loc 2) (.int 20)))
 (.cons (.forr 10 (.range (.cons (.int 6) .nil)) Iu)
 (.cons (.ret (.bool true))
 .nil))))))))))⟩
noncomputable def Lj:Bz:=⟨4,4,
 (.cons (.iff (.not (.call "is_whole" (.cons (.loc 1) (.cons (.int 1) (.cons (.int 1000) .nil)))))
  (.cons (.raise "NoNests")
  .nil)
  .nil)
 (.cons (.iff (.or (.not (.call "is_whole" (.cons (.loc 2) (.cons (.int 1) (.cons (.int 1000000) .nil))))) (.not (.call "is_whole" (.cons (.loc 3) (.cons (.int 1) (.cons (.int 1000000) .nil))))))
  (.cons (.raise "NoNests")
  .nil)
  .nil)
 (.cons (.setattr "count" (.loc 0) (.loc 1))
 (.cons (.setattr "first" (.loc 0) (.loc 2))
 (.cons (.setattr "second" (.loc 0) (.loc 3))
 (.cons (.setattr "standing" (.loc 0) .dict0)
 (.cons (.setattr "things" (.loc 0) .dict0)
 .nil)))))))⟩
noncomputable def Sf:Bz:=⟨2,2,
 (.cons (.expr (.call "need_name" (.cons (.loc 1) .nil)))
 (.cons (.ret (.tup (.cons (.tup (.cons (.int 0) (.cons (.call "home" (.cons (.loc 1) (.cons (.attr "first" (.loc 0)) (.cons (.attr "count" (.loc 0)) .nil)))) .nil))) (.cons (.tup (.cons (.int 1) (.cons (.call "home" (.cons (.loc 1) (.cons (.attr "second" (.loc 0)) (.cons (.attr "count" (.loc 0)) .nil)))) .nil))) .nil))))
 .nil))⟩
noncomputable def Ju:Bz:=⟨2,2,
 (.cons (.iff (.or (.not (.isi (.loc 1) .tuple)) (.cmp .ne (.bi .len (.cons (.loc 1) .nil)) (.int 2)))
  (.cons (.raise "NoNest")
  .nil)
  .nil)
 (.cons (.iff (.or (.not (.call "is_whole" (.cons (.sub (.loc 1) (.int 0)) (.cons (.int 0) (.cons (.int 1) .nil))))) (.not (.call "is_whole" (.cons (.sub (.loc 1) (.int 1)) (.cons (.int 0) (.cons (.bin .sub (.attr "count" (.loc 0)) (.int 1)) .nil))))))
  (.cons (.raise "NoNest")
  .nil)
  .nil)
 .nil))⟩
noncomputable def qK:Bz:=⟨2,2,
 (.cons (.expr (.im "need_nest" (.loc 0) (.cons (.loc 1) .nil)))
 (.cons (.ret (.bm .get (.attr "standing" (.loc 0)) (.cons (.loc 1) .nil)))
 .nil))⟩
noncomputable def P9:Bz:=⟨4,4,
 (.cons (.expr (.call "need_name" (.cons (.loc 1) .nil)))
 (.cons (.expr (.call "need_value" (.cons (.loc 2) .nil)))
 (.cons (.iff (.cmp .isin (.loc 1) (.attr "things" (.loc 0)))
  (.cons (.raise "Twice")
  .nil)
  .nil)
 (.cons (.expr (.im "need_nest" (.loc 0) (.cons (.loc 3) .nil)))
 (.cons (.iff (.cmp .notin (.loc 3) (.im "homes" (.loc 0) (.cons (.loc 1) .nil)))
  (.cons (.raise "NoHome")
  .nil)
  .nil)
 (.cons (.iff (.cmp .isin (.loc 3) (.attr "standing" (.loc 0)))
  (.cons (.raise "Taken")
  .nil)
  .nil)
 (.cons (.setitem (.attr "standing" (.loc 0)) (.loc 3) (.loc 1))
 (.cons (.setitem (.attr "things" (.loc 0)) (.loc 1) (.loc 2))
 .nil))))))))⟩
noncomputable def Iv:Bz:=⟨2,2,
 (.cons (.iff (.or (.not (.isi (.loc 1) .str)) (.cmp .notin (.loc 1) (.attr "things" (.loc 0))))
  (.cons (.raise "Unknown")
  .nil)
  .nil)
 .nil)⟩
noncomputable def Lk:Bz:=⟨2,3,
 (.cons (.asg 2 (.im "where" (.loc 0) (.cons (.loc 1) .nil)))
 (.cons (.expr (.bm .pop (.attr "standing" (.loc 0)) (.cons (.loc 2) .nil)))
 (.cons (.ret (.bm .pop (.attr "things" (.loc 0)) (.cons (.loc 1) .nil)))
 .nil)))⟩
noncomputable def Si:Bz:=⟨2,2,
 (.cons (.expr (.im "need_there" (.loc 0) (.cons (.loc 1) .nil)))
 (.cons (.ret (.sub (.attr "things" (.loc 0)) (.loc 1)))
 .nil))⟩
noncomputable def Sj:Bz:=⟨2,4,
 (.cons (.expr (.im "need_there" (.loc 0) (.cons (.loc 1) .nil)))
 (.cons (.asgt [2,3] (.im "homes" (.loc 0) (.cons (.loc 1) .nil)))
 (.cons (.iff (.cmp .eq (.bm .get (.attr "standing" (.loc 0)) (.cons (.loc 2) .nil)) (.loc 1))
  (.cons (.ret (.loc 2))
  .nil)
  .nil)
 (.cons (.ret (.loc 3))
 .nil))))⟩
noncomputable def Sl:Bz:=⟨1,1,
 (.cons (.ret (.comp (.sub (.attr "standing" (.loc 0)) (.loc 1)) 1 1 (.bi .sorted (.cons (.attr "standing" (.loc 0)) .nil)) .nil))
 .nil)⟩
noncomputable def WF:Bz:=⟨1,1,
 (.cons (.ret (.bi .len (.cons (.attr "things" (.loc 0)) .nil)))
 .nil)⟩
noncomputable def WG:AI:=[(("is_name":Str),IZ),(("home":Str),QZ),(("is_whole":Str),Lf),(("need_name":Str),GG),(("need_value":Str),FW),(("written":Str),Mu),(("number_of":Str),GI),(("value_of":Str),Lg),(("words_of":Str),Lh),(("thing_of":Str),Li),(("read":Str),R0),(("_law_cell_at":Str),Dy),(("_law_mixed":Str),Em),(("_law_room":Str),GK),(("_law_names":Str),FY),(("_law_home":Str),GM),(("_law_table":Str),FZ),(("_law_homes":Str),Ir),(("_law_kind":Str),GO),(("_law_told":Str),Jr),(("_law_drawn":Str),Is),(("_law_rows":Str),Js),(("_law_text":Str),Jt),(("_law_alike":Str),It),(("_law_number":Str),Hz),(("_law_spoilt":Str),Fd),(("_law_other":Str),G0),(("_law_good":Str),Dm),(("_law_refused":Str),GR),(("law":Str),ZK),(("__init__":Str),Lj),(("homes":Str),Sf),(("need_nest":Str),Ju),(("at":Str),qK),(("put_at":Str),P9),(("need_there":Str),Iv),(("take_out":Str),Lk),(("value":Str),Si),(("where":Str),Sj),(("names":Str),Sl),(("many":Str),WF)]
structure CQ (p:AI):Prop where
 is_name:AI.has p "is_name" IZ
 home:AI.has p "home" QZ
 is_whole:AI.has p "is_whole" Lf
 need_name:AI.has p "need_name" GG
 need_value:AI.has p "need_value" FW
 written:AI.has p "written" Mu
 number_of:AI.has p "number_of" GI
 value_of:AI.has p "value_of" Lg
 words_of:AI.has p "words_of" Lh
 thing_of:AI.has p "thing_of" Li
 read:AI.has p "read" R0
 l_cell_at:AI.has p "_law_cell_at" Dy
 l_mixed:AI.has p "_law_mixed" Em
 l_room:AI.has p "_law_room" GK
 l_names:AI.has p "_law_names" FY
 l_home:AI.has p "_law_home" GM
 l_table:AI.has p "_law_table" FZ
 l_homes:AI.has p "_law_homes" Ir
 l_kind:AI.has p "_law_kind" GO
 l_told:AI.has p "_law_told" Jr
 l_drawn:AI.has p "_law_drawn" Is
 l_rows:AI.has p "_law_rows" Js
 l_text:AI.has p "_law_text" Jt
 l_alike:AI.has p "_law_alike" It
 l_number:AI.has p "_law_number" Hz
 l_spoilt:AI.has p "_law_spoilt" Fd
 l_other:AI.has p "_law_other" G0
 l_good:AI.has p "_law_good" Dm
 l_refused:AI.has p "_law_refused" GR
 law:AI.has p "law" ZK
 init:AI.has p "__init__" Lj
 homes:AI.has p "homes" Sf
 need_nest:AI.has p "need_nest" Ju
 at_:AI.has p "at" qK
 put_at:AI.has p "put_at" P9
 need_there:AI.has p "need_there" Iv
 take_out:AI.has p "take_out" Lk
 value:AI.has p "value" Si
 wher:AI.has p "where" Sj
 names:AI.has p "names" Sl
 many:AI.has p "many" WF
theorem qL:CQ WG:=by constructor<;>rfl
end
section
open PySem
section
variable {h:A0} {l:Ah} {c:CA}
theorem WH{k:B7 AV}:Km (some true) h k=k:=rfl
theorem qM{k:B7 AV}:Km (some false) h k=.ok (.bool false) h:=rfl
theorem NC{x:List Nat}(hl:x.length<=Ab):CI .len [.str x] h=.ok (.int x.length) h:=if_pos hl
theorem Sm{x:List Nat}{k:Nat}{d:Nat}(hl:x.length<=Ab)(hd:x[k]?=some d):Cc (.str x) (.int k) h=.ok (.str [d]) h:=
 Nw (x:=x.map fun c=>.str [c]) (by rw[aB];exact hl) (by rw[JR (aQ _),aK,bT,hd];rfl)
theorem lU{x y:List Nat}(hl:x.length+y.length<=Ab):Cz .add (.str x) (.str y) h=.ok (.str (x++y)) h:=if_pos hl
theorem GS{c:Nat}{y:List Nat}:B9 h .notin (.str [c]) (.str y)=some (!decide (c∈y)):=rfl
theorem Ll{x:List Nat}:Gc .index (.str x) h=true:=rfl
theorem Pa{x:List Nat}{c i:Nat}(hi:x.findIdx? (·==c)=some i):Cq .index (.str x) [.str [c]] h=.ok (.int i) h:=by
 show Ey ((x.findIdx? (·==c)).map _) h=_
 rw[hi];rfl
theorem GT{x:List Nat}{k:Nat}(hx:∀ c∈x,c<128):Bj (.str x) k h=some (x.map fun c=>AV.str [c])[k]?:=
 Nx (if_pos (List.all_eq_true.mpr fun c hc=>decide_eq_true (hx c hc)))
theorem GU{t:List Nat}{k:Nat}{v:AV}(hv:(t.map fun c=>AV.str [c])[k]?=some v):∃ hk:k<t.length,v=.str [t[k]]:=by
 rw[aK] at hv
 refine A9 (Option.map_eq_some_iff.mp hv) fun x hx A6=>?_;subst A6
 refine xE (List.getElem?_eq_some_iff.mp hx) fun hk A6=>?_;subst A6
 exact⟨hk,rfl⟩
end
theorem J0:BG.length=36:=rfl
theorem Ur:BG.length<=Ab:=by rw[J0];unfold Ab;exact bF rfl
theorem Pb:∀ c∈BG,c<128:=by decide
noncomputable def WI(c:Nat):Nat:=(BG.findIdx? (·==c)).getD 0
theorem Pc{c:Nat}(hc:c∈BG):BG.findIdx? (·==c)=some (WI c):=by
 unfold WI
 rcases hq:BG.findIdx? (·==c) with _|i
 case some=>rfl
 case none=>exact absurd ((List.findIdx?_eq_none_iff.mp hq) c hc) (by rw[beq_self_eq_true];exact Bool.noConfusion)
abbrev Nm:=List Nat
structure Dp (t:Nm):Prop where
 pos:1<=t.length
 len:t.length<=12
 all:∀ x∈t,x∈BG
theorem Dp.fit{t:Nm}(G:Dp t):t.length<=Ab:=by have t0:=G.len;unfold Ab;exact n3 t0 rfl
theorem Dp.small{t:Nm}(G:Dp t):∀ c∈t,c<128:=fun c hc=>Pb c (G.all c hc)
noncomputable def Pd(times count:Int)(acc:Int)(c:Nat):Int:=(acc*times+WI c+1).fmod count
noncomputable def EO(t:List Nat)(times count:Int):Int:=t.foldl (Pd times count) 0
theorem J1{t:List Nat}{times count:Int}{k:Nat}(hk:k<t.length):EO (t.take (k+1)) times count=Pd times count (EO (t.take k) times count) t[k]:=by
 unfold EO
 rw[cS,aF hk,eI,List.foldl_append,List.foldl_cons,List.foldl_nil]
theorem YY{t:List Nat}{times count:Int}(hc:0<count)(hl:1<=t.length):0<=EO t times count/\EO t times count<count:=by
 have t0:EO (t.take (t.length-1+1)) times count=_:=J1 (Nat.sub_lt hl Nat.one_pos)
 rw[bI hl,bS] at t0
 rw[t0]
 exact AK _ hc
section
variable {p:AI} {n:Nat} {h:A0}
theorem Pe(H:CQ p){t:Nm}(G:Dp t):AD p (n+1) false "is_name" [.str t] h=.ok (.bool true) h:=by
 refine A9 (BA (n:=n) (h:=h) H.is_name (as:=[.str t]) rfl) fun F hF e=>?_
 have u0:UU (.str t) .str=some true:=rfl
 have h1:=G.pos
 have h2:=G.len
 obtain⟨l',h',e2,rfl,_⟩:=Bh (i:=1) (src:=.str t) (items:=t.map fun c=>AV.str [c]) (body:=fun l h=>execSs (cF p n F) E9 l h)
  (fun k l h'=>h'=h/\∃ v,l=[some (.str t),v]) (fun k l h' _=>GT G.small) (fun k v l h' hv ⟨eh,v',el⟩=>by
   subst eh;subst el
   refine xE (GU hv) fun hk A6=>?_;subst A6
   refine⟨_,_,?_,rfl,some (.str [t[k]]),rfl⟩
   simp only[E9,C1,Eg,Hp,Hq,UX,Rv,BO,Ku,List.set,Jz,N4,Cl,Et,Jy,BJ,Dt,FL,IO,fU,GS,decide_eq_true (G.all _ (bZ hk))]) (f:=F) (l:=[some (.str t),none]) (h:=h) (by rw[aB];exact aP (l4 h2 rfl) hF) ⟨rfl,none,rfl⟩
 rw[e]
 simp only[IZ,C1,Eg,Hp,Hq,Ru,UX,Gm,BO,Kt,SW,N5,Y0,UZ,Gn,CY,aZ,eT,cP,dA,List.replicate,Jz,Cl,Et,Jy,BJ,Dt,fQ,cC,if_false,FL,FM,EB,IO,Rt,WH,fU,u0,NC G.fit,qG,decide_eq_true (show (1:Int)<=t.length by exact jl (CX _) [(jI,AC)] jI AC rfl (bN.2 h1)),decide_eq_true (show (t.length:Int)<=12 by exact jl (CX _) [(AC,(jN 12))] AC (jN 12) rfl (bN.2 h2)),e2]
theorem Pf(H:CQ p){t:Nm}(G:Dp t){times count:Int}(ht:times.natAbs<2 ^ 64)(hc:0<count):
  AD p (n+1) false "home" [.str t,.int times,.int count] h=.ok (.int (EO t times count)) h:=by
 refine A9 (BA (n:=n) (h:=h) H.home (as:=[.str t,.int times,.int count]) rfl) fun F hF e=>?_
 have h2:=G.len
 obtain⟨l',h',e2,rfl,v4,rfl⟩:=Bh (i:=4) (src:=.str t) (items:=t.map fun c=>AV.str [c]) (body:=fun l h=>execSs (cF p n F) Le l h)
  (fun k l h'=>h'=h/\∃ v4,l=[some (.str t),some (.int times),some (.int count),some (.int (EO (t.take k) times count)),v4]) (fun k l h' _=>GT G.small) (fun k v l h' hv ⟨eh,v4,el⟩=>by
   subst eh;subst el
   refine xE (GU hv) fun hk A6=>?_;subst A6
   refine⟨_,_,?_,rfl,some (.str [t[k]]),rfl⟩
   simp only[Le,C1,Eg,I6,Gm,Rv,BO,Ks,Y1,Gn,CY,List.set,Jz,N4,Cl,Et,Jy,BJ,CO,if_true,QW ht,Ll,Pa (Pc (G.all _ (bZ hk))),B1 (show count≠0 by exact j5 hc rfl),J1 hk]
   rfl) (f:=F) (l:=[some (.str t),some (.int times),some (.int count),some (.int 0),none]) (h:=h) (by rw[aB];exact aP (l4 h2 rfl) hF) ⟨rfl,none,rfl⟩
 rw[aB,bS] at e2
 rw[e]
 simp only[QZ,C1,Eg,Hp,I6,Ru,Gm,BO,aZ,eT,cP,dA,List.replicate,List.set,Jz,N4,Cl,Jy,BJ,Dt,cC,if_false,EB,e2]
theorem Iw(H:CQ p){t:Nm}(G:Dp t){times count:Int}(ht:times.natAbs<2 ^ 64)(hc:0<count):
  AD p (n+1) false "_law_home" [.str t,.int times,.int count] h=.ok (.int (EO t times count)) h:=by
 refine A9 (BA (n:=n) (h:=h) H.l_home (as:=[.str t,.int times,.int count]) rfl) fun F hF e=>?_
 have h2:=G.len
 obtain⟨l',h',e2,rfl,v4,rfl⟩:=Bh (i:=5) (src:=.str t) (items:=t.map fun c=>AV.str [c]) (body:=fun l h=>execSs (cF p n F) Fc l h)
  (fun k l h'=>h'=h/\∃ v4,l=[some (.str t),some (.int times),some (.int count),some (.str BG),some (.int (EO (t.take k) times count)),v4]) (fun k l h' _=>GT G.small) (fun k v l h' hv ⟨eh,v4,el⟩=>by
   subst eh;subst el
   refine xE (GU hv) fun hk A6=>?_;subst A6
   refine⟨_,_,?_,rfl,some (.str [t[k]]),rfl⟩
   simp only[Fc,C1,Eg,I6,Gm,BO,Ks,Y1,Gn,CY,List.set,Jz,N4,Cl,Et,Jy,BJ,CO,if_true,QW ht,Ll,Pa (Pc (G.all _ (bZ hk))),B1 (show count≠0 by exact j5 hc rfl),J1 hk]
   rfl) (f:=F) (l:=[some (.str t),some (.int times),some (.int count),some (.str BG),some (.int 0),none]) (h:=h) (by rw[aB];exact aP (l4 h2 rfl) hF) ⟨rfl,none,rfl⟩
 rw[aB,bS] at e2
 rw[e]
 simp only[GM,C1,Eg,Hp,I6,Ru,Gm,Rv,BO,aZ,eT,cP,dA,List.replicate,List.set,Jz,N4,Cl,Jy,BJ,Dt,cC,if_false,EB,e2]
theorem Mv(H:CQ p)(x a b:Int):AD p (n+1) false "is_whole" [.int x,.int a,.int b] h=.ok (.bool (decide (a<=x)&&decide (x<=b))) h:=by
 refine A9 (BA (n:=n) (h:=h) H.is_whole (as:=[.int x,.int a,.int b]) rfl) fun F hF e=>?_
 rw[e]
 exact AH (Ao (AZ (Cn (EK rfl rfl) (Cn (Io (EK rfl rfl)) (QY rfl rfl rfl)))))
theorem BE(H:CQ p){x a b:Int}(ha:a<=x)(hb:x<=b):AD p (n+1) false "is_whole" [.int x,.int a,.int b] h=.ok (.bool true) h:=by rw[Mv H,decide_eq_true ha,decide_eq_true hb];rfl
theorem C9(H:CQ p){x a b:Int}(hx:¬ (a<=x/\x<=b)):AD p (n+1) false "is_whole" [.int x,.int a,.int b] h=.ok (.bool false) h:=by rw[Mv H,<- eR,decide_eq_false hx]
theorem Ff(H:CQ p){t:Nm}(G:Dp t):AD p (n+2) false "need_name" [.str t] h=.ok .none h:=by
 refine A9 (BA (n:=n+1) (h:=h) H.need_name (as:=[.str t]) rfl) fun F hF e=>?_
 rw[e]
 simp only[GG,C1,Eg,Hq,BO,Kt,Kv,I7,Gn,CY,aZ,eT,cP,dA,Jz,Cl,Et,Jy,BJ,Kq,cC,if_false,FM,IP,IO,fU,Pe (n:=n) H G]
theorem GV(H:CQ p){v:Int}(h1:-1000000000<=v)(h2:v<=1000000000):AD p (n+2) false "need_value" [.int v] h=.ok .none h:=by
 refine A9 (BA (n:=n+1) (h:=h) H.need_value (as:=[.int v]) rfl) fun F hF e=>?_
 rw[e]
 simp only[FW,C1,Eg,Hq,Gm,BO,UY,Kt,Kv,I7,Gn,CY,aZ,eT,cP,dA,Jz,Cl,Et,Jy,BJ,Kq,cC,if_false,FM,SV,IP,IO,fU,BE (n:=n) H h1 h2]
theorem ND(H:CQ p){v:Int}(hv:¬ (-1000000000<=v/\v<=1000000000)):AD p (n+2) false "need_value" [.int v] h=.exc "NoValue" h:=by
 refine A9 (BA (n:=n+1) (h:=h) H.need_value (as:=[.int v]) rfl) fun F hF e=>?_
 rw[e]
 exact AR (BD rfl (Io (Ac (A4 rfl (A4 (IY rfl) (A3 rfl))) (C9 (n:=n) H hv))))
inductive ZL (t:Nm) (h:A0) (k:Nat):Ah->A0->Prop
 | mk (v:Option AV) (a:∀ c∈t.take k,c∈BG):ZL t h k [some (.str t),v] h
inductive WJ (h:A0):SR->Prop
 | mk (l:Ah):WJ h (.ok (.ret (.bool false)) l h)
theorem Pg(H:CQ p){t:Nm}(hx:∀ c∈t,c<128)(hl:t.length<=3000)(hg:¬ Dp t):AD p (n+2) false "need_name" [.str t] h=.exc "NoName" h:=by
 have e0:AD p (n+1) false "is_name" [.str t] h=.ok (.bool false) h:=by
  refine A9 (BS (n:=n) (h:=h) H.is_name (as:=[.str t]) [some (.str t),none] rfl rfl) fun F hF e=>?_
  rw[e]
  have t1:=QY (c:=cF p n F) (l:=[some (.str t),none]) (h:=h) (x:=.int 1) (y:=.bi .len (.cons (.loc 0) .nil)) (z:=.int 12) rfl (Bq rfl (A3 rfl) (NC (AM hl))) rfl
  rw[<- eR] at t1
  by_cases h1:(1:Int)<=t.length/\(t.length:Int)<=12
  ·rw[decide_eq_true h1] at t1
   have L:=Dj (put:=Jw 1) (src:=.str t) (items:=t.map fun c=>AV.str [c]) (body:=fun l h=>execSs (cF p n F) E9 l h) (ZL t h) (WJ h)
    (fun k l h' _=>GT hx) (fun k v l h' hv hI=>by
     cases hI with
     | mk v' ha=>
     refine xE (GU hv) fun hk A6=>?_;subst A6
     refine⟨_,rfl,?_⟩
     by_cases hf:t[k]∈BG
     ·refine .of (Aa (Al rfl rfl (GS.trans (by rw[decide_eq_true hf];rfl)))) (.next _ _ (.mk _ fun c hc=>?_))
      rw[cS,aF hk] at hc
      rcases List.mem_append.mp hc with q|q
      ·exact ha c q
      ·rcases List.mem_singleton.mp q with rfl;exact hf
     ·exact .of (JT (Al rfl rfl (GS.trans (by rw[decide_eq_false hf];rfl))) rfl) (.halt _ (.ret _ _ _) (.mk _))) F 0 [some (.str t),none] h (by rw[aB];exact bA.1 (jl (DT _ _) [(AC,(jN 12)),(jN 50000,BH)] Ca (jA BH jO) rfl h1.2 (bN.2 hF))) (bE _) (.mk none fun c hc=>nomatch hc)
   rcases L with ⟨l',h',e2,I2⟩|R
   ·cases I2 with
    | mk v ha=>
    rw[aB,bS] at ha
    exact absurd ⟨by exact bN.1 (jl (CX _) [(jI,AC)] jI AC rfl h1.1),by exact bN.1 (jl (CX _) [(AC,(jN 12))] AC (jN 12) rfl h1.2),ha⟩ hg
   ·generalize u0:AO (Jw 1) (fun l h=>execSs (cF p n F) E9 l h) (.str t) F 0 [some (.str t),none] h=r' at R
    cases R with
    | mk l=>exact AH ((Aa (Bg (Dl (EK rfl rfl)) (HS t1))).trans (DW (DQ rfl rfl u0)))
  ·rw[decide_eq_false h1] at t1
   exact AH (JT (Bg (Dl (EK rfl rfl)) (HS t1)) rfl)
 refine A9 (BA (n:=n+1) (h:=h) H.need_name (as:=[.str t]) rfl) fun F hF e=>?_
 rw[e]
 exact AR (BD rfl (Io (Ac (A3 rfl) e0)))
theorem WK(H:CQ p){xs:List Int}(hl:xs.length<=63){a b:Int}:AD p (n+1) false "_law_room" [.scr xs,.int a,.int b] h=.ok (.int a) h:=by
 refine A9 (BA (n:=n) (h:=h) H.l_room (as:=[.scr xs,.int a,.int b]) rfl) fun F hF e=>?_
 rw[e]
 simp only[GK,C1,Eg,Hp,Hq,Gm,BO,Ku,Y0,Gn,CY,aZ,eT,cP,dA,Jz,N4,Cl,Et,Jy,BJ,Dt,fQ,cC,if_false,FL,EB,IO,Sd (show xs.length<=Ab from AM (n3 hl rfl)),lQ,decide_eq_false (show ¬(63:Int)<xs.length by exact fun g=>jf (CX _) [(AC,(jN 63)),((jA (jN 63) jI),AC)] rfl (bN.2 hl) g)]
end
end
section
open PySem
noncomputable def dk{κ:Type}(f:κ->Bc)(g:κ->AV)(xs:List κ):List (Bc×AV):=xs.map fun x=>(f x,g x)
section
variable {κ:Type} {f:κ->Bc} {g:κ->AV} {xs:List κ} {k:Bc} {h:A0} {n ep:Nat} {kv v:AV} {x:κ}
theorem Ph:∀ {xs:List κ},(dk f g xs).lookup k=(xs.find? fun x=>k==f x).map g
 | []=>rfl
 | x :: r=>by
  show ((f x,g x) :: dk f g r).lookup k=_
  rw[cM,List.find?_cons]
  rcases k==f x with _|_
  ·exact Ph
  ·rfl
theorem Lm:(dk f g xs).length=xs.length:=aB ..
theorem NF(nd:(xs.map f).Nodup)(hx:x∈xs):(xs.find? fun y=>f x==f y)=some x:=by
 induction xs with
 | nil=>cases hx
 | cons y r ih=>
  rw[aZ,dM] at nd
  rw[List.find?_cons]
  rcases List.mem_cons.mp hx with rfl|hx
  ·rw[beq_self_eq_true]
  ·rw[beq_eq_false_iff_ne.mpr (show f x≠f y from fun e=>nd.1 (e▸List.mem_map.mpr ⟨x,hx,rfl⟩))]
   exact ih nd.2 hx
theorem Sn(nd:(xs.map f).Nodup)(hx:x∈xs):(dk f g xs).lookup (f x)=some (g x):=by rw[Ph,NF nd hx];rfl
theorem ZM(hk:k∉xs.map f):(dk f g xs).lookup k=none:=by
 rw[Ph,show (xs.find? fun x=>k==f x)=none from List.find?_eq_none.mpr fun x hx q=>hk (cA q▸List.mem_map.mpr ⟨x,hx,rfl⟩)];rfl
theorem qO:(dk f g xs).lookup k=none↔k∉xs.map f:=⟨fun e q=>by
 rw[Ph,Option.map_eq_none_iff] at e
 have e:=List.find?_eq_none.mp e
 refine A9 (List.mem_map.mp q) fun x hx e1=>?_
 exact e x hx (by rw[e1];exact beq_self_eq_true _),ZM⟩
theorem NG:((dk f g xs).lookup k).isSome=decide (k∈xs.map f):=by
 by_cases hk:k∈xs.map f
 ·rw[decide_eq_true hk,Option.isSome_iff_ne_none]
  exact fun e=>qO.mp e hk
 ·rw[decide_eq_false hk,ZM hk];rfl
theorem DA(hs:∀ x,(f x).sort=k.sort):Be (dk f g xs) k=true:=by
 unfold Be dk
 rw[List.all_map]
 exact List.all_eq_true.mpr fun x _=>beq_iff_eq.mpr (hs x)
theorem WL(hk:k∉xs.map f):BU (dk f g xs) k v=dk f g xs++[(k,v)]:=by
 refine if_neg fun q=>?_
 refine A9 (List.any_eq_true.mp q) fun y hy e=>?_
 refine A9 (List.mem_map.mp hy) fun x hx e1=>?_
 subst e1
 exact hk (List.mem_map.mpr ⟨x,hx,cA e⟩)
theorem Ln(hd:h[n]?=some (.dict (dk f g xs) ep))(hk:kv.key?=some (f x))(hs:∀ y,(f y).sort=(f x).sort)(hl:xs.length<=1000)(hx:f x∉xs.map f):∃ il,C7 (.loc n) kv (g x) h=some (h.set n (.dict (dk f g (xs++[x])) il)):=by
 refine xE (OX (v:=g x) hd hk (DA hs) (L8 (by rw[Lm];exact n3 hl rfl))) fun il e=>?_
 refine⟨il,?_⟩
 rw[e,WL hx,dk,dk,aU];rfl
theorem R1(hd:h[n]?=some (.dict (dk f g xs) ep))(hk:kv.key?=some (f x))(hs:∀ y,(f y).sort=(f x).sort)(nd:(xs.map f).Nodup)(hx:x∈xs):Cc (.loc n) kv h=.ok (g x) h:=Wx hd hk (DA hs) (Sn nd hx)
theorem Pi{kvs:List (Bc×AV)}(hd:h[n]?=some (.dict kvs ep)):CI .len [.loc n] h=.ok (.int kvs.length) h:=by
 show Gg (.loc n) h=_
 delta Gg
 dsimp only
 rw[hd]
theorem NH(hd:h[n]?=some (.dict (dk f g xs) ep)):Ch h n=some (xs.map fun x=>(f x).av):=by rw[Uq hd,dk,cO];rfl
theorem Pj{x:List AV}(hd:h[n]?=some (.list x)):Gc .append (.loc n) h=true:=by
 show (Am h n).isSome=true
 rw[B4 hd];rfl
theorem J2{c:CA}{l:Ah}{h1:A0}{o y:X}{ys zs:List AV}(eo:A1 c o l h=.ok (.loc n) h)(hd:h[n]?=some (.list ys))(ey:A1 c y l h=.ok v h1)(hd1:h1[n]?=some (.list zs))(hl:zs.length<=3000):AQ c (.expr (.bm .append o (.cons y .nil))) l h=.ok .next l (h1.set n (.list (zs++[v]))):=
 C2 (F2 eo (Pj hd) (A3 ey) (Up hd1 (L8 hl)))
theorem Pk{kvs:List (Bc×AV)}(hd:h[n]?=some (.dict kvs ep)):Gc .get (.loc n) h=true:=by
 show (Bi h n).isSome=true
 rw[CK hd];rfl
theorem Pl{kvs:List (Bc×AV)}(hd:h[n]?=some (.dict kvs ep)):Gc .pop (.loc n) h=true:=by
 show (Bi h n).isSome=true
 rw[CK hd];rfl
theorem WM(hd:h[n]?=some (.dict (dk f g xs) ep))(hk:kv.key?=some (f x))(hs:∀ y,(f y).sort=(f x).sort)(nd:(xs.map f).Nodup)(hx:x∈xs):∃ il,Cq .pop (.loc n) [kv] h=.ok (g x) (h.set n (.dict (dk f g (xs.filter fun y=>!(f y==f x))) il)):=by
 show ∃ il,M1 (.loc n) [kv] h=_
 delta M1
 dsimp only
 rw[CK hd]
 show ∃ il,ST h n (dk f g xs) ep kv.key?=_
 rw[hk]
 delta ST
 dsimp only
 rw[if_pos (DA hs),Sn nd hx]
 refine⟨ep+1,?_⟩
 dsimp only
 rw[EY,dk,dk,List.filter_map];rfl
end
section
variable {h:A0} {x y:Int} {s t:List Nat}
theorem So(q:x=y):B9 h .eq (.int x) (.int y)=some true:=by rw[OV,decide_eq_true q]
theorem Sq(q:x≠y):B9 h .eq (.int x) (.int y)=some false:=by rw[OV,decide_eq_false q]
theorem qP(q:x≠y):B9 h .ne (.int x) (.int y)=some true:=by rw[ZI,decide_eq_false q];rfl
theorem Mw(q:x=y):B9 h .ne (.int x) (.int y)=some false:=by rw[ZI,decide_eq_true q];rfl
theorem WN(q:y<x):B9 h .gt (.int x) (.int y)=some true:=by rw[lQ,decide_eq_true q]
theorem WO(q:¬ y<x):B9 h .gt (.int x) (.int y)=some false:=by rw[lQ,decide_eq_false q]
theorem Sr(q:s=t):B9 h .eq (.str s) (.str t)=some true:=by rw[Ww,decide_eq_true q]
theorem WP:B9 h .ne (.str s) (.str t)=some (!decide (s=t)):=rfl
theorem WQ(q:s≠t):B9 h .ne (.str s) (.str t)=some true:=by rw[WP,decide_eq_false q];rfl
theorem GW(q:s=t):B9 h .ne (.str s) (.str t)=some false:=by rw[WP,decide_eq_true q];rfl
end
section
variable {γ δ:Type} {xs ys:List γ} {a b c k:Nat}
theorem mT(h:xs.length<=b):(xs.take k).length<=b:=aR (List.length_take_le' k xs) h
theorem mU(h:xs.length<=b):(xs.drop k).length<=b:=aR (aR (aE cW) (dH _ _)) h
theorem rO{f:γ->δ}(h:xs.length<=b):(xs.map f).length<=b:=aR (aE (aB f)) h
theorem vS(h:xs.length<=b):xs.reverse.length<=b:=aR (aE List.length_reverse) h
theorem ZN{y:γ}(h:xs.length<=b):(xs.take k++[y]++xs.drop (k+1)).length<=b+1:=by
 have e:(xs.take k).length+(xs.drop k).length=xs.length:=by rw[<- aC,List.take_append_drop]
 have g:(xs.drop (k+1)).length<=(xs.drop k).length:=by rw[cW,cW];exact Nat.sub_le_sub_left (fZ k) _
 rw[aC,aC,Nat.add_right_comm]
 exact cK (aR (hY g _) (aR (aE e) h))
theorem vZ(h:xs.length<=a)(g:ys.length<=b)(e:Nat.ble (a+b) c=true):(xs++ys).length<=c:=aR (aE aC) (Zs h g e)
end
abbrev Fx:=Int×Int
noncomputable def sv(s:Fx):AV:=.tup [.int s.1,.int s.2]
noncomputable def kp(s:Fx):Bc:=.pair s.1 s.2
theorem WR{a b:Fx}(h:kp a=kp b):a=b:=by
 rcases a with ⟨_,_⟩;rcases b with ⟨_,_⟩;simp only[kp,Bc.pair.injEq] at h;rw[h.1,h.2]
theorem J3(s:Fx):(sv s).key?=some (kp s):=rfl
theorem Eo(t:Nm):(AV.str t).key?=some (.str t):=rfl
theorem WS{h:A0}{n:Nat}(a b:Fx):FI h (n+2) (sv a) (sv b)=some (decide (a=b)):=by
 rw[sv,sv,Wy]
 rcases a with ⟨_,_⟩;rcases b with ⟨_,_⟩
 simp only[Prod.mk.injEq,Option.some.injEq]
 rw[eR]
theorem Lo{h:A0}{κ:Type}[BEq κ][LawfulBEq κ][DecidableEq κ]{g:κ->AV}(hf:∀ a b,FI h Cg (g a) (g b)=some (decide (a=b)))(a:κ):∀ w:List κ,F8 h (g a) (w.map g)=some (decide (a∈w))
 | []=>rfl
 | b :: w=>by
  have e:F8 h (g a) ((b :: w).map g)=vH (FI h Cg (g b) (g a)) (F8 h (g a) (w.map g)):=rfl
  rw[e,Lo hf a w,hf]
  show some (decide (b=a)||decide (a∈w))=_
  simp only[bU,Bool.decide_or]
  congr 1
  by_cases h:a=b<;>simp[h,eq_comm]
theorem Mx{h:A0}{a:Fx}{w:List Fx}:B9 h .notin (sv a) (.tup (w.map sv))=some (!decide (a∈w)):=
 congrArg (Option.map not) (Lo (fun a b=>WS (n:=4) a b) a w)
structure Tb where
 c:Int
 f:Int
 s:Int
structure Tb.Ok (T:Tb):Prop where
 c1:1<=T.c
 c2:T.c<=1000
 f1:1<=T.f
 f2:T.f<=1000000
 s1:1<=T.s
 s2:T.s<=1000000
noncomputable def Tb.hm(T:Tb)(t:Nm)(r:Int):Fx:=(r,EO t (if r=0 then T.f else T.s) T.c)
noncomputable def Tb.homes(T:Tb)(t:Nm):AV:=.tup [sv (T.hm t 0),sv (T.hm t 1)]
noncomputable def Tb.av(T:Tb):AV:=.tup [.int T.c,.int T.f,.int T.s]
noncomputable def Tb.In(T:Tb)(s:Fx):Prop:=(s.1=0\/s.1=1)/\0<=s.2/\s.2<T.c
theorem Tb.hm_in{T:Tb}(ok:T.Ok){t:Nm}(G:Dp t){r:Int}(hr:r=0\/r=1):T.In (T.hm t r):=⟨hr,YY (by have t0:=ok.c1;exact t0) G.pos⟩
theorem GX{h:A0}{T:Tb}{nm:Nm}{r:Int}(hr:r=0\/r=1):Cc (T.homes nm) (.int r) h=.ok (sv (T.hm nm r)) h:=by
 rcases hr with rfl|rfl<;>rfl
theorem C3(x:Int){m:Int}(hm:0<m):∃ k:Nat,x.fmod m=k/\(k:Int)<m:=by
 have t0:=AK x hm
 exact⟨(x.fmod m).toNat,by exact sK t0,by exact sL t0⟩
theorem Ix(x:Int):x.fmod 2=0\/x.fmod 2=1:=have t0:=AK x (m:=2) (by decide)
 oQ ⟨t0.1,eX t0.2⟩
theorem WT{h:A0}{vs:List AV}{i:Nat}{v:AV}(hl:vs.length<=1000)(hv:vs[i]?=some v):Cc (.loc h.length) (.int i) (h++[.list vs])=.ok v (h++[.list vs]):=
 Bf (AM (n3 hl rfl)) Ae (aQ _) (by rw[bT];exact hv)
theorem CZ{c:CA}{ts:Xs}{x:X}{l:Ah}{h h1:A0}{vs:List AV}{i:Nat}{v:AV}(e:evalXs c ts l h=.ok vs h1)(ei:A1 c x l (h1++[.list vs])=.ok (.int i) (h1++[.list vs]))(hl:vs.length<=1000)(hv:vs[i]?=some v):A1 c (.sub (.list ts) x) l h=.ok v (h1++[.list vs]):=
 An (Bx e hl) ei (WT hl hv)
section
variable {p:AI} {n:Nat} {h:A0} {T:Tb}
theorem NI{c:CA}{l:Ah}{xs:List Int}(H:CQ p)(hc:c.F=AD p (n+1) false)(hl:xs.length<=63)(k:Nat)(e:BN l 0=some (.scr xs)):A1 c (.call "_law_cell_at" (.cons (.loc 0) (.cons (.int k) .nil))) l h=.ok (.int (Bl xs k)) h:=
 Ac (A4 (v:=.scr xs) (by rw[BO,e];rfl) (A3 rfl)) (by rw[hc];exact OZ H.l_cell_at hl k)
theorem LR(H:CQ p){xs:List Int}(hl:xs.length<=63):∃ T:Tb,T.Ok/\∃ a b,AD p (n+2) false "_law_table" [.scr xs] h=.ok T.av (h++[a,b]):=by
 refine A9 (BS (n:=n+1) (h:=h) H.l_table (as:=[.scr xs]) [some (.scr xs),none,none,none] rfl rfl) fun F hF e=>?_
 have u0:∀ {a b:Int} (x:Int) (h:A0),∃ m:Int,(m=a\/m=b)/\∀ {l:Ah} {c:CA} {y:X},A1 c y l (h++[.list [.int a,.int b]])=.ok (.int x) (h++[.list [.int a,.int b]])->A1 c (.sub (.list (.cons (.int a) (.cons (.int b) .nil))) (.bin .mod y (.int 2))) l h=.ok (.int m) (h++[.list [.int a,.int b]]):=fun {a b} x h=>by
  rcases Ix x with q|q
  ·exact⟨a,.inl rfl,fun ey=>CZ (i:=0) (A4 rfl (A3 rfl)) (A8 ey rfl ((B1 (by decide)).trans (by rw[q];rfl))) (by show 2<=1000;decide) rfl⟩
  ·exact⟨b,.inr rfl,fun ey=>CZ (i:=1) (A4 rfl (A3 rfl)) (A8 ey rfl ((B1 (by decide)).trans (by rw[q];rfl))) (by show 2<=1000;decide) rfl⟩
 refine A9 (u0 (a:=7) (b:=1000000) (Bl xs 1) h) fun m1 hm1 p1=>?_
 refine A9 (u0 (a:=9) (b:=1000000) (Bl xs 2) (h++[.list [.int 7,.int 1000000]])) fun m2 kh p2=>?_
 have b0:=AK (Bl xs 0) (m:=6) (by decide)
 have b3:=AK ((Bl xs 0).fdiv 48) (m:=1000) (by decide)
 have b1:=AK (G7 (Bl xs 1) 1) (m:=m1) (hm1.elim (fun g0=>jl (CX _) [(jN 7,AC)] (jA jO jI) AC rfl (aO (bO g0))) (fun g0=>jl (CX _) [(jN 1000000,AC)] (jA jO jI) AC rfl (aO (bO g0))))
 have b2:=AK (G7 (Bl xs 2) 2) (m:=m2) (kh.elim (fun g0=>jl (CX _) [(jN 9,AC)] (jA jO jI) AC rfl (aO (bO g0))) (fun g0=>jl (CX _) [(jN 1000000,AC)] (jA jO jI) AC rfl (aO (bO g0))))
 have c0:∀ {l:Ah} {h:A0} (k:Nat),A1 (cF p (n+1) F) (.call "_law_cell_at" (.cons (.loc 0) (.cons (.int k) .nil))) (some (.scr xs) :: l) h=.ok (.int (Bl xs k)) h:=fun k=>NI H rfl hl k rfl
 obtain⟨c,hc1,hc2,hc⟩:∃ c:Int,1<=c/\c<=1000/\AQ (cF p (n+1) F) (.iff (.cmp .eq (.bin .mod (.bin .div (.call "_law_cell_at" (.cons (.loc 0) (.cons (.int 0) .nil))) (.int 6)) (.int 8)) (.int 1))
  (.cons (.asg 1 (.bin .add (.int 1) (.bin .mod (.bin .div (.call "_law_cell_at" (.cons (.loc 0) (.cons (.int 0) .nil))) (.int 48)) (.int 1000)))) .nil) .nil) [some (.scr xs),some (.int (1+(Bl xs 0).fmod 6)),none,none] h=.ok .next [some (.scr xs),some (.int c),none,none] h:=by
  by_cases hq:((Bl xs 0).fdiv 6).fmod 8=1
  ·exact⟨1+((Bl xs 0).fdiv 48).fmod 1000,SN b3,pB b3,Ip (Al (A8 (A8 (c0 0) rfl (BX (by decide))) rfl (B1 (by decide))) rfl (So hq)) (Ao (Ak (A8 rfl (A8 (A8 (c0 0) rfl (BX (by decide))) rfl (B1 (by decide))) CO)))⟩
  ·exact⟨1+(Bl xs 0).fmod 6,SN b0,i3 (pB b0) rfl,qJ (Al (A8 (A8 (c0 0) rfl (BX (by decide))) rfl (B1 (by decide))) rfl (Sq hq)) rfl⟩
 refine⟨⟨c,1+(G7 (Bl xs 1) 1).fmod m1,1+(G7 (Bl xs 2) 2).fmod m2⟩,⟨hc1,hc2,?_,?_,?_,?_⟩,.list [.int 7,.int 1000000],.list [.int 9,.int 1000000],?_⟩
 ·show 1<=1+_;exact SN b1
 ·exact gI (pB b1) (hm1.elim (fun g=>i3 (aO g) rfl) fun g=>aO g)
 ·show 1<=1+_;exact SN b2
 ·exact gI (pB b2) (kh.elim (fun g=>i3 (aO g) rfl) fun g=>aO g)
 rw[e,FZ]
 refine(AH ((A5 (Ak (A8 rfl (A8 (c0 0) rfl (B1 (by decide))) CO))).trans ((A5 hc).trans
  ((A5 (Ak (A8 rfl (A8 (Ac (A4 (c0 1) (A3 rfl)) (DP (n:=n) H.l_mixed _ 1)) (p1 (c0 1)) (B1 (show m1≠0 by exact ZY b1))) CO))).trans
  ((A5 (Ak (A8 rfl (A8 (Ac (A4 (c0 2) (A3 rfl)) (DP (n:=n) H.l_mixed _ 2)) (p2 (c0 2)) (B1 (show m2≠0 by exact ZY b2))) CO))).trans
  (Ao (AZ (Dz (A4 rfl (A4 rfl (A3 rfl))) (by show 3<=1000;decide))))))))).trans (by rw[bC];rfl)
end
end
section
open PySem
section
variable {p:AI} {n:Nat} {h:A0} {T:Tb}
noncomputable def NW(x:Int):Nat:=BG.getD (x.fmod 36).toNat 0
theorem NJ(x:Int):BG[(x.fmod 36).toNat]?=some (NW x):=by
 refine A9 (C3 x (m:=36) (by decide)) fun k hk hl=>?_
 have u0:(x.fmod 36).toNat<BG.length:=by rw[J0];exact sM hk hl
 rw[NW,cV,aF u0];rfl
theorem lV(x:Int):NW x∈BG:=aX (NJ x)
theorem Iy(x:Int):Cc (.str BG) (.int (x.fmod 36)) h=.ok (.str [NW x]) h:=by
 have hb:=AK x (m:=36) (by decide)
 have t0:=Sm (h:=h) Ur (NJ x)
 rwa [cY hb.1] at t0
theorem YZ{x:Int}{i j:Nat}(hi:i<30)(hj:j<30)(e:NW (x+i)=NW (x+j)):i=j:=by
 have h1:=NJ (x+i)
 have h2:=NJ (x+j)
 have b1:=AK (x+i) (m:=36) (by decide)
 have b2:=AK (x+j) (m:=36) (by decide)
 rw[e,<- h2] at h1
 have t0:=(dW (by rw[J0];exact sN b1) (show BG.Nodup by decide)).mp h1
 have e3:(x+i).fmod 36=(x+j).fmod 36:=(cY b1.1).symm.trans ((congrArg Int.ofNat t0).trans (cY b2.1))
 rw[eN _ (by decide),eN _ (by decide)] at e3
 exact sO hj hi e3
theorem WU{γ:Type}{x:List γ}{k:Nat}(hl:x.length<=3000):Do x .none (.int k)=some (x.take k):=by
 delta Do
 rw[if_pos (AM hl)]
 show some (AL x 0 k)=_
 unfold AL
 rw[eF,show clipAt x.length 0=0 from eF x.length 0 |>.trans (Nat.zero_min _),List.drop_zero,List.take_eq_take_min (l:=x) (i:=k)]
theorem Pm{γ:Type}{x:List γ}{k:Nat}(hl:x.length<=3000):Do x (.int k) .none=some (x.drop k):=by
 delta Do
 rw[if_pos (AM hl)]
 show some (AL x k x.length)=_
 unfold AL
 rw[eF,eF,iC,bS]
 by_cases hk:k<=x.length
 ·rw[hO hk]
 ·rw[jC (gO hk),List.drop_length,fE (gO hk)]
theorem Z0{γ:Type}{x:List γ}{i k:Nat}(hl:x.length<=3000):Do x (.int i) (.int k)=some ((x.take k).drop i):=by
 delta Do
 rw[if_pos (AM hl)]
 show some (AL x i k)=_
 unfold AL
 rw[eF,eF,<- List.take_eq_take_min]
 by_cases hk:i<=x.length
 ·rw[hO hk]
 ·rw[jC (gO hk),fE (by rw[bY];exact cB _ _),fE (by rw[bY];exact sP hk)]
theorem Pn{x:List Nat}{k:Nat}(hl:x.length<=3000):C0 (.str x) .none (.int k) h=.ok (.str (x.take k)) h:=by
 show Ey ((Do x .none (.int k)).map .str) h=_
 rw[WU hl];rfl
theorem Lp{x:List Nat}{k:Nat}(hl:x.length<=3000):C0 (.str x) (.int k) .none h=.ok (.str (x.drop k)) h:=by
 show Ey ((Do x (.int k) .none).map .str) h=_
 rw[Pm hl];rfl
noncomputable def G9(t:Nm):Prop:=∀ x∈t,x∈BG
theorem G9.app{a b:Nm}(x:G9 a)(y:G9 b):G9 (a++b):=fun c hc=>(List.mem_append.mp hc).elim (x c) (y c)
theorem G9.one(x:Int):G9 [NW x]:=fun c hx=>by rcases List.mem_singleton.mp hx with rfl;exact lV x
theorem Cv{x y:List Nat}(h1:x.length<=3000)(h2:y.length<=3000):Cz .add (.str x) (.str y) h=.ok (.str (x++y)) h:=lU (by unfold Ab;exact ql (CW _ _) [(Af,(qN 3000)),(Aj,(qN 3000))] (qA Aj Af) (qN (2 ^ 20)) rfl h2 h1)
structure My (c:Int) (base:Nm) (at' k:Nat) (nm:Nm):Prop where
 good:Dp nm
 form:∃ pre:Nm,pre.length=(if 0<(c.fdiv 3960).fmod 3 then 2 else 0)/\nm=base.take at'++(pre++[NW (c.fdiv 110+k)])++base.drop at'
theorem My.inj{c:Int}{base:Nm}{at' i j:Nat}{nm:Nm}(a:My c base at' i nm)(b:My c base at' j nm)(hi:i<30)(hj:j<30):i=j:=by
 refine A9 a.form fun p1 l1 e1=>?_
 refine A9 b.form fun p2 l2 e2=>?_
 rw[e2] at e1
 have e3:=List.append_cancel_left (List.append_cancel_right e1)
 exact(YZ hj hi (List.cons.inj (List.append_inj e3 (l2.trans l1.symm)).2).1).symm
theorem Us(H:CQ p){c:Int}{F:Nat}{base:Nm}(hb:base.length<=9)(ab:G9 base){at':Nat}{j:Nat}{many k:Nat}{v7 v8:Option AV}{ns:List Nm}(hj:h[j]?=some (.list (ns.map .str)))(hl:ns.length<=900):
  ∃ nm,My c base at' k nm/\∃ v7' v8',execSs (cF p (n+1) F) EM [some (.int c),some (.int many),some (.str BG),some (.str base),some (.int k),some (.int at'),some (.loc j),v7,v8] h =
   .ok .next [some (.int c),some (.int many),some (.str BG),some (.str base),some (.int k),some (.int at'),some (.loc j),v7',v8'] (h.set j (.list ((ns++[nm]).map .str))):=by
 have em:=DP (n:=n) (h:=h) H.l_mixed c (50+k)
 generalize G7 c (50+k)=mx at em
 have tl:(base.take at').length<=9:=by rw[bY];exact sQ hb
 have u0:∀ pre:Nm,G9 pre->pre.length=(if 0<(c.fdiv 3960).fmod 3 then 2 else 0)->∃ nm,My c base at' k nm/\∀ v7:Option AV,AQ (cF p (n+1) F) (.expr (.bm .append (.loc 6) (.cons (.bin .add (.bin .add (.slice (.loc 3) .none (.loc 5)) (.loc 8)) (.slice (.loc 3) (.loc 5) .none)) .nil))) [some (.int c),some (.int many),some (.str BG),some (.str base),some (.int k),some (.int at'),some (.loc j),v7,some (.str (pre++[NW (c.fdiv 110+k)]))] h =
   .ok .next [some (.int c),some (.int many),some (.str BG),some (.str base),some (.int k),some (.int at'),some (.loc j),v7,some (.str (pre++[NW (c.fdiv 110+k)]))] (h.set j (.list ((ns++[nm]).map .str))):=by
  intro pre ag h3
  have l0:(pre++[NW (c.fdiv 110+k)]).length=pre.length+1:=aC
  have l3:pre.length<=2:=by rw[h3];split<;>exact bF rfl
  have l1:(base.take at'++(pre++[NW (c.fdiv 110+k)])).length<=12:=by rw[aC,l0];exact ql (CW _ _) [(Af,(qN 2)),(Aj,(qN 9))] (qA Aj BP) (qN 12) rfl l3 tl
  have l2:(base.take at'++(pre++[NW (c.fdiv 110+k)])++base.drop at').length=base.length+pre.length+1:=by
   rw[aC,aC,bY,cW,l0];exact sR
  refine⟨base.take at'++(pre++[NW (c.fdiv 110+k)])++base.drop at',⟨⟨by exact ql (Ck _ _ _) [((qA (qA Aj AA) qI),Af)] qI Af rfl (aE (bO l2)),by exact ql (Ck _ _ _) [(Af,(qA (qA Aj AA) qI)),(AA,(qN 2)),(Aj,(qN 9))] Af (qN 12) rfl (aE l2) l3 hb,G9.app (G9.app (fun x hx=>ab x (gW hx)) (ag.app (.one _))) fun x hx=>ab x (gX hx)⟩,pre,h3,rfl⟩,fun v7=>?_⟩
  refine(J2 rfl hj (A8 (A8 (Ba rfl rfl rfl (Pn (n3 hb rfl))) rfl (Cv (n3 tl rfl) (sS l0 l3))) (Ba rfl rfl rfl (Lp (n3 hb rfl))) (Cv (n3 l1 rfl) (by rw[cW];exact sT hb))) hj (by rw[aB];exact n3 hl rfl)).trans ?_
  rw[aU];rfl
 by_cases hq:0<(c.fdiv 3960).fmod 3
 ·refine A9 (u0 [NW (mx.fdiv 7),NW (mx.fdiv 301)] (G9.app (a:=[NW (mx.fdiv 7)]) (.one _) (.one _)) (by rw[if_pos hq];rfl)) fun nm G ef=>?_
  exact⟨nm,G,_,_,(A5 (Ak (Ac (A4 rfl (A3 (A8 rfl rfl CO))) em))).trans ((A5 (Ak (An rfl (A8 (A8 (A8 rfl rfl (BX (by decide))) rfl CO) rfl (B1 (by decide))) (Iy _)))).trans
   ((A5 (Ip (Al (A8 (A8 rfl rfl (BX (by decide))) rfl (B1 (by decide))) rfl (WN hq)) (Ao (Ak (A8 (A8 (An rfl (A8 (A8 rfl rfl (BX (by decide))) rfl (B1 (by decide))) (Iy _)) (An rfl (A8 (A8 rfl rfl (BX (by decide))) rfl (B1 (by decide))) (Iy _)) (Cv (by show 1<=3000;decide) (by show 1<=3000;decide))) rfl (Cv (by show 2<=3000;decide) (by show 1<=3000;decide))))))).trans (WA (ef _))))⟩
 ·refine A9 (u0 [] (fun x hx=>nomatch hx) (by rw[if_neg hq];rfl)) fun nm G ef=>?_
  exact⟨nm,G,_,_,(A5 (Ak (Ac (A4 rfl (A3 (A8 rfl rfl CO))) em))).trans ((A5 (Ak (An rfl (A8 (A8 (A8 rfl rfl (BX (by decide))) rfl CO) rfl (B1 (by decide))) (Iy _)))).trans
   ((Aa (Al (A8 (A8 rfl rfl (BX (by decide))) rfl (B1 (by decide))) rfl (WO hq))).trans (WA (ef _))))⟩
inductive JU (h:A0) (c:Int) (many:Nat) (k:Nat):Ah->A0->Prop
 | mk (base:Nm) (v4:Option AV) (hl:base.length=k) (ha:G9 base):JU h c many k [some (.int c),some (.int many),some (.str BG),some (.str base),v4,none,none,none,none] h
inductive NK (h:A0) (c:Int) (many:Nat) (base:Nm) (at':Nat) (k:Nat):Ah->A0->Prop
 | mk (ns:List Nm) (v4 v7 v8:Option AV) (hl:ns.length=k) (hg:∀ i nm,ns[i]?=some nm->My c base at' i nm):NK h c many base at' k [some (.int c),some (.int many),some (.str BG),some (.str base),v4,some (.int at'),some (.loc h.length),v7,v8] (h++[.list (ns.map .str)])
theorem LS(H:CQ p)(c:Int){many:Nat}(hm:many<=30):
  ∃ ns:List Nm,ns.length=many/\(∀ nm∈ns,Dp nm)/\ns.Nodup/\AD p (n+2) false "_law_names" [.int c,.int many] h=.ok (.loc h.length) (h++[.list (ns.map .str)]):=by
 refine aI fun gj=>?_
 refine A9 (BS (n:=n+1) (h:=h) H.l_names (as:=[.int c,.int many]) [some (.int c),some (.int many),none,none,none,none,none,none,none] rfl rfl) fun F hF e=>?_
 refine A9 (C3 c (m:=10) (by decide)) fun k0 hk0 hk0'=>?_
 refine A9 (C3 (c.fdiv 10) (m:=11) (by decide)) fun at' hat _=>?_
 refine gj ?_
 refine Av (Bh (i:=4) (src:=.rng k0) (items:=C6 k0) (body:=fun l h=>execSs (cF p (n+1) F) GL l h)
  (JU h c many) (fun k l h' _=>L9 (AM (sU hk0'))) (fun k v l h' hv hI=>by
   cases hI with
   | mk base v4 hbl hba=>
   refine xA (Ny hv) fun hk A6=>?_;subst A6
   refine⟨_,_,?_,JU.mk (base++[NW ((G7 c k).fdiv 31)]) (some (.int k)) (by rw[aC,hbl];rfl) (hba.app (.one _))⟩
   exact Ao (Ak (A8 rfl (An rfl (A8 (A8 (Ac (A4 rfl (A3 rfl)) (DP (n:=n) H.l_mixed c k)) rfl (BX (by decide))) rfl (B1 (by decide))) (Iy _)) (Cv (sV hk hbl hk0') (by show 1<=3000;decide))))) (f:=F)
  (l:=[some (.int c),some (.int many),some (.str BG),some (.str []),none,none,none,none,none]) (h:=h) (by rw[Fu];exact bA.1 (jl (DT _ _) [(Ca,(jN 10)),(jN 50000,BH)] Ca BH rfl hk0' (bN.2 hF))) (JU.mk [] none rfl (fun x hx=>nomatch hx))) fun l1 h1 e1 I1=>?_
 cases I1 with
 | mk base v4 hbl hba=>
 rw[Fu] at hbl
 have u0:base.length<=9:=by exact sW hbl hk0'
 refine Av (Bh (i:=4) (src:=.rng many) (items:=C6 many) (body:=fun l h=>execSs (cF p (n+1) F) EM l h)
  (NK h c many base at') (fun k l h' _=>L9 (AM (n3 hm rfl))) (fun k v l h' hv hI=>by
   cases hI with
   | mk ns v4 v7 v8 hnl hng=>
   refine xA (Ny hv) fun hk A6=>?_;subst A6
   refine Zq (Us (n:=n) (F:=F) (c:=c) (base:=base) (at':=at') (j:=h.length) (many:=many) (k:=k) (v7:=v7) (v8:=v8) (ns:=ns) H u0 hba Ae (ql (Ck _ _ _) [(BP,Aj),(AA,Af),(Aj,(qN 30))] AA (qN 900) rfl hk (aE hnl) hm)) fun nm G v7' v8' e3=>?_
   rw[NA] at e3
   refine⟨_,_,e3,NK.mk (ns++[nm]) (some (.int k)) v7' v8' (by rw[aC,hnl];rfl) fun i x hx=>?_⟩
   by_cases hi:i<ns.length
   ·rw[bB hi] at hx
    exact hng i x hx
   ·have t0:=(List.getElem?_eq_some_iff.mp hx).1
    rw[aC,bV] at t0
    have t1:i=ns.length:=by exact bM (ql (CW _ _) [(BP,Ee)] Af Aj rfl t0) (ql (CW _ _) [(Aj,Af)] Aj Af rfl (bK hi))
    subst t1
    rw[aY] at hx
    cases hx
    rw[hnl];exact G) (f:=F)
  (l:=[some (.int c),some (.int many),some (.str BG),some (.str base),v4,some (.int at'),some (.loc h.length),none,none]) (h:=h++[.list []]) (by rw[Fu];exact aP (l4 hm rfl) hF) (NK.mk (k:=0) [] v4 none none rfl (fun i nm kr=>nomatch kr))) fun l2 h2 e2 I2=>?_
 cases I2 with
 | mk ns v4' v7 v8 hnl hng=>
 rw[Fu] at hnl
 refine⟨ns,hnl,fun nm kr=>?_,?_,?_⟩
 ·refine xE (List.getElem?_of_mem kr) fun i hi=>(hng i nm hi).good
 ·refine List.pairwise_iff_getElem.mpr fun i j hi hj ig q=>?_
  have a:=hng i _ (aF hi)
  have b:=hng j _ (aF hj)
  rw[q] at a
  exact absurd (a.inj b (ql (Es _ _ _ _) [(BP,Aj),(HC,Af),(Aj,CS),(CS,(qN 30))] HC (qN 30) rfl hj ig (aE hnl) hm) (ql (Ck _ _ _) [(BP,Aj),(Aj,AA),(AA,(qN 30))] BP (qN 30) rfl hj (aE hnl) hm)) (cE ig)
 ·rw[e,FY]
  exact AH ((A5 (Ak rfl)).trans ((A5 (Ak rfl)).trans ((A5 (DQ rfl (Lb (A3 (A8 rfl rfl ((B1 (by decide)).trans (by rw[hk0])))) (La (by exact ql (CW _ _) [(Aj,Af),(Af,(qN 9))] Aj (qN 1000) rfl (aE (bO hbl)) u0))) e1)).trans ((A5 (Ak (A8 (A8 rfl rfl (BX (by decide))) rfl ((B1 (by decide)).trans (by rw[hat]))))).trans
   ((A5 (Ak (Bx rfl (bE _)))).trans ((A5 (DQ rfl (Lb (A3 rfl) (La (n3 hm rfl))) e2)).trans (Ao (AZ rfl))))))))
end
end
section
open PySem
structure En where
 s:Fx
 n:Nm
 v:Int
noncomputable def kS(e:En):Bc:=kp e.s
noncomputable def kN(e:En):Bc:=.str e.n
noncomputable def FC(es:List En):List (Bc×AV):=dk kS (fun e=>.str e.n) es
noncomputable def JC(es:List En):List (Bc×AV):=dk kN (fun e=>.int e.v) es
structure JD (T:Tb) (e:En):Prop where
 good:Dp e.n
 home:∃ r:Int,(r=0\/r=1)/\e.s=T.hm e.n r
 v1:-1000000000<=e.v
 v2:e.v<=1000000000
structure Ga (T:Tb) (es:List En):Prop where
 nds:(es.map kS).Nodup
 ndn:(es.map kN).Nodup
 all:∀ e∈es,JD T e
section
variable {T:Tb} {es:List En} {e:En}
theorem HT{h:A0}{i ep:Nat}(hd:h[i]?=some (.dict (FC es) ep))(nd:(es.map kS).Nodup)(hx:e∈es):Cc (.loc i) (sv e.s) h=.ok (.str e.n) h:=R1 (f:=kS) (g:=fun e:En=>AV.str e.n) hd (J3 e.s) (fun _=>rfl) nd hx
theorem Lq{h:A0}{i ep:Nat}(hd:h[i]?=some (.dict (JC es) ep))(nd:(es.map kN).Nodup)(hx:e∈es):Cc (.loc i) (.str e.n) h=.ok (.int e.v) h:=R1 (f:=kN) (g:=fun e:En=>AV.int e.v) hd (Eo e.n) (fun _=>rfl) nd hx
theorem R2{h:A0}{i ep:Nat}(hd:h[i]?=some (.dict (FC es) ep)):CI .len [.loc i] h=.ok (.int es.length) h:=by rw[Pi hd,FC,Lm]
theorem Ga.nil:Ga T []:=⟨.nil,.nil,fun _ h=>nomatch h⟩
theorem WV{κ:Type}{f:En->κ}(nd:(es.map f).Nodup)(h:f e∉es.map f):((es++[e]).map f).Nodup:=by
 rw[aU,dU]
 exact⟨nd,dE _ _,fun x hx y hy q=>by rcases List.mem_singleton.mp hy with rfl;subst q;exact h hx⟩
theorem Ga.add(O:Ga T es)(o:JD T e)(h1:kS e∉es.map kS)(h2:kN e∉es.map kN):Ga T (es++[e]):=
 ⟨WV O.nds h1,WV O.ndn h2,fun x hx=>(List.mem_append.mp hx).elim (O.all x) fun q=>by rcases List.mem_singleton.mp q with rfl;exact o⟩
end
section
variable {p:AI} {n:Nat} {h:A0} {T:Tb} {a:Nat} {ns:List Nm}
noncomputable def Ep(h:A0)(i:Nat)(T:Tb)(ns:List Nm):Prop:=∃ ep,h[i]?=some (.dict (dk .str T.homes ns) ep)
theorem lW(nd:ns.Nodup):(ns.map Bc.str).Nodup:=List.Pairwise.map Bc.str (fun a b h q=>h (Bc.str.inj q)) nd
theorem lX{nm:Nm}:Bc.str nm∈ns.map Bc.str↔nm∈ns:=⟨fun q=>by
 refine A9 (List.mem_map.mp q) fun x hx e=>?_
 cases e;exact hx,fun q=>List.mem_map.mpr ⟨nm,q,rfl⟩⟩
theorem Ep.get{i:Nat}(x:Ep h i T ns)(nd:ns.Nodup){nm:Nm}(hn:nm∈ns):Cc (.loc i) (.str nm) h=.ok (T.homes nm) h:=xE x fun ep hd=>R1 hd (Eo nm) (fun _=>rfl) (lW nd) hn
theorem Ep.kp{h':A0}{i b:Nat}(x:Ep h i T ns)(k:Kp b h h')(hb:i<b):Ep h' i T ns:=x.imp fun _ q=>k _ _ hb q
inductive NL (h:A0) (a:Nat) (T:Tb) (ns:List Nm) (k:Nat):Ah->A0->Prop
 | mk (v:Option AV) (ep:Nat):NL h a T ns k [some (.loc a),some T.av,some (.loc h.length),v] (h++[.dict (dk .str T.homes (ns.take k)) ep])
theorem LT(H:CQ p)(ok:T.Ok)(hn:∀ nm∈ns,Dp nm)(nd:ns.Nodup)(hl:ns.length<=100)(ha:h[a]?=some (.list (ns.map .str))):
  ∃ ep,AD p (n+2) false "_law_homes" [.loc a,T.av] h=.ok (.loc h.length) (h++[.dict (dk .str T.homes ns) ep]):=by
 refine A9 (BS (n:=n+1) (h:=h) H.l_homes (as:=[.loc a,T.av]) [some (.loc a),some T.av,none,none] rfl rfl) fun F hF e=>?_
 have t0:=ok.c1
 have t1:=ok.f1
 have t2:=ok.f2
 have t3:=ok.s1
 have t4:=ok.s2
 refine Av (Bh (i:=3) (src:=.loc a) (items:=ns.map AV.str) (body:=fun l h=>execSs (cF p (n+1) F) GN l h)
  (NL h a T ns) (fun k l h' hI=>by cases hI;exact Bw (AS ha)) (fun k v l h' hv hI=>by
   cases hI with
   | mk v' ep=>
   rw[aK] at hv
   refine A9 (Option.map_eq_some_iff.mp hv) fun nm kr A6=>?_;subst A6
   have G:=hn nm (aX kr)
   have u2:=(List.getElem?_eq_some_iff.mp kr).1
   have et:ns.take (k+1)=ns.take k++[nm]:=by rw[cS,kr];rfl
   have u1:nm∉ns.take k:=fun q=>by
    have u0:=nd.sublist (gH (k+1) ns)
    rw[et,dU] at u0
    exact u0.2.2 nm q nm aH rfl
   refine xE (Ln (h:=h++[.dict (dk .str T.homes (ns.take k)) ep]) (g:=T.homes) (x:=nm) Ae (Eo nm) (fun _=>rfl) (by rw[bY];exact sX hl) (fun q=>u1 (lX.mp q))) fun il hset=>?_
   rw[NA,<- et] at hset
   refine⟨_,_,?_,NL.mk (some (.str nm)) il⟩
   exact Ao (Fa (Dz (A4 (Dz (A4 rfl (A3 (Ac (A4 rfl (A4 rfl (A3 rfl))) (Iw (n:=n) H G (times:=T.f) (count:=T.c) (rG t2 t1) (t0))))) (by show 2<=1000;decide)) (A3 (Dz (A4 rfl (A3 (Ac (A4 rfl (A4 rfl (A3 rfl))) (Iw (n:=n) H G (times:=T.s) (count:=T.c) (rG t4 t3) (t0))))) (by show 2<=1000;decide)))) (by show 2<=1000;decide)) rfl rfl hset)) (f:=F)
  (l:=[some (.loc a),some T.av,some (.loc h.length),none]) (h:=h++[.dict [] 0]) (by rw[aB];exact aP (l4 hl rfl) hF) (NL.mk (k:=0) none 0)) fun l' h' e2 I2=>?_
 cases I2 with
 | mk v ep=>
 refine⟨ep,?_⟩
 rw[aB,bS] at e2
 rw[e]
 exact AH ((A5 (Ak rfl)).trans ((A5 (DQ rfl rfl e2)).trans (Ao (AZ rfl))))
structure qQ (h:A0) (i j:Nat) (T:Tb) (ns:List Nm) (es:List En):Prop where
 st:∃ ep,h[i]?=some (.dict (FC es) ep)
 th:∃ ep,h[j]?=some (.dict (JC es) ep)
 ok:Ga T es
 nm:∀ e∈es,e.n∈ns.take 20
 len:es.length<=14
theorem lY:Cz .pow (.int 10) (.int 9) h=.ok (.int 1000000000) h:=rfl
inductive Mz (h:A0) (xs:List Int) (a b:Nat) (T:Tb) (ns:List Nm) (k:Nat):Ah->A0->Prop
 | mk (h':A0) (es:List En) (v6 v7 v8 v9 v10:Option AV) (hl:es.length<=k) (D:qQ h' h.length (h.length+1) T ns es) (hc:h'[h.length+2]?=some (.list ((AL xs 9 23).map .int))) (K:Kp h.length h h'):Mz h xs a b T ns k [some (.scr xs),some T.av,some (.loc a),some (.loc b),some (.loc h.length),some (.loc (h.length+1)),v6,v7,v8,v9,v10] h'
theorem J4{xs:List Int}:(AL xs 9 23).length<=14:=by
 unfold AL
 rw[cW,bY,show clipAt xs.length 23=min 23 xs.length from eF xs.length 23,show clipAt xs.length 9=min 9 xs.length from eF xs.length 9]
 rcases Nat.le_total 9 xs.length with q|q
 ·rw[hO q]
  exact aR (Nat.sub_le_sub_right (aR (jR _ _) (jR _ _)) 9) (bF rfl)
 ·exact aR (dH _ _) (aR (cB _ _) (aR q (bF rfl)))
theorem Ut(H:CQ p){xs:List Int}{b:Nat}(hx:xs.length<=63)(ok:T.Ok)(hn:∀ nm∈ns,Dp nm)(nd:ns.Nodup)(hl:ns.length=21)(ha:h[a]?=some (.list (ns.map .str)))(hb:Ep h b T ns):
  ∃ i j h' es,AD p (n+2) false "_law_drawn" [.scr xs,T.av,.loc a,.loc b] h=.ok (.tup [.loc i,.loc j]) h'/\qQ h' i j T ns es/\Kp h.length h h':=by
 refine A9 (BS (n:=n+1) (h:=h) H.l_drawn (as:=[.scr xs,T.av,.loc a,.loc b]) [some (.scr xs),some T.av,some (.loc a),some (.loc b),none,none,none,none,none,none,none] rfl rfl) fun F hF e=>?_
 have l2:∀ a b:Ay,(h++[a]++[b]).length=h.length+2:=fun a b=>by rw[aC,aC];rfl
 refine Av (Bh (i:=6) (src:=.loc (h.length+2)) (items:=(AL xs 9 23).map AV.int) (body:=fun l h=>execSs (cF p (n+1) F) GP l h)
  (Mz h xs a b T ns) (fun k l h' hI=>by cases hI with|mk _ _ _ _ _ _ _ hl D hc K=>exact Bw hc) (fun k v l h' hv hI=>by
   cases hI with
   | mk _ es v6 v7 v8 v9 v10 jc D hc K=>
   rw[aK] at hv
   refine A9 (Option.map_eq_some_iff.mp hv) fun c kr A6=>?_;subst A6
   have hk:=(List.getElem?_eq_some_iff.mp kr).1
   have u3:=J4 (xs:=xs)
   obtain⟨⟨ep1,d1⟩,⟨ep2,d2⟩,O,hin,_⟩:=D
   have em:=DP (n:=n) (h:=h') H.l_mixed c es.length
   generalize G7 c es.length=mx at em
   refine A9 (C3 mx (m:=20) (by decide)) fun i hi hi2=>?_
   have v0:i<ns.length:=by exact sY hl hi2
   have u0:ns[i]∈ns:=bZ v0
   have s1:AQ (cF p (n+1) F) (.asg 7 (.call "_law_mixed" (.cons (.loc 6) (.cons (.bi .len (.cons (.loc 4) .nil)) .nil)))) [some (.scr xs),some T.av,some (.loc a),some (.loc b),some (.loc h.length),some (.loc (h.length+1)),some (.int c),v7,v8,v9,v10] h'=.ok .next [some (.scr xs),some T.av,some (.loc a),some (.loc b),some (.loc h.length),some (.loc (h.length+1)),some (.int c),some (.int mx),v8,v9,v10] h':=
    Ak (Ac (A4 rfl (A3 (Bq rfl (A3 rfl) (R2 d1)))) em)
   have s2:AQ (cF p (n+1) F) (.asg 8 (.sub (.loc 2) (.bin .mod (.loc 7) (.int 20)))) [some (.scr xs),some T.av,some (.loc a),some (.loc b),some (.loc h.length),some (.loc (h.length+1)),some (.int c),some (.int mx),v8,v9,v10] h'=.ok .next [some (.scr xs),some T.av,some (.loc a),some (.loc b),some (.loc h.length),some (.loc (h.length+1)),some (.int c),some (.int mx),some (.str ns[i]),v9,v10] h':=
    Ak (An rfl (A8 rfl rfl ((B1 (by decide)).trans (by rw[hi]))) (Bf (AM (by rw[aB];exact n3 (aE hl) rfl)) (K.all ha) (aQ _) (by rw[bT,aK,aF v0];rfl)))
   generalize u6:ns[i]=nm at s2 u0
   have u5:nm∈ns.take 20:=by rw[<- u6];exact List.mem_take_iff_getElem.mpr ⟨i,by rw[hl];exact sZ hi2,rfl⟩
   obtain⟨r,hr,er⟩:∃ r:Int,(r=0\/r=1)/\(mx.fdiv 20).fmod 2=r:=⟨_,Ix _,rfl⟩
   have s3:=Ak (i:=9) (An (An (c:=cF p (n+1) F) (l:=[some (.scr xs),some T.av,some (.loc a),some (.loc b),some (.loc h.length),some (.loc (h.length+1)),some (.int c),some (.int mx),some (.str nm),v9,v10]) (o:=.loc 3) (x:=.loc 8) rfl rfl ((hb.kp K (xE hb fun _ q=>EL q)).get nd u0)) (A8 (x:=.int 2) (A8 (op:=.div) (o:=.loc 7) (x:=.int 20) rfl rfl (BX (by decide))) rfl ((B1 (by decide)).trans (by rw[er]))) (GX hr))
   refine(fun (G:∃ l' h'',execSs _ _ _ _=_/\_)=>Av G fun l'' h'' q1 q2=>⟨l'',h'',(A5 s1).trans ((A5 s2).trans ((A5 s3).trans q1)),q2⟩) ?_
   have t1:=Jq d1 (J3 (T.hm nm r)) (DA fun _=>rfl)
   have t2:=Jq d2 (Eo nm) (DA fun _=>rfl)
   rw[show (FC es).lookup (kp (T.hm nm r))=_ from rfl,FC,NG] at t1
   rw[show (JC es).lookup (.str nm)=_ from rfl,JC,NG] at t2
   by_cases h1:kp (T.hm nm r)∈es.map kS
   ·rw[decide_eq_true h1] at t1
    exact⟨_,_,Aa (E8 (Al rfl rfl t1)),Mz.mk _ es _ _ _ _ _ (eS jc) ⟨⟨ep1,d1⟩,⟨ep2,d2⟩,O,hin,by exact nH hk jc u3⟩ hc K⟩
   by_cases h2:Bc.str nm∈es.map kN
   ·rw[decide_eq_false h1] at t1
    rw[decide_eq_true h2] at t2
    exact⟨_,_,Aa (Cn (Al rfl rfl t1) (Al rfl rfl t2)),Mz.mk _ es _ _ _ _ _ (eS jc) ⟨⟨ep1,d1⟩,⟨ep2,d2⟩,O,hin,by exact nH hk jc u3⟩ hc K⟩
   rw[decide_eq_false h1] at t1
   rw[decide_eq_false h2] at t2
   generalize ex:mx.fdiv 40=x10
   have u7:=AK x10 (m:=10) (by decide)
   have u8:=AK x10 (m:=999) (by decide)
   have u9:=AK x10 (m:=1000000000) (by decide)
   refine A9 (C3 (mx.fdiv 5) (m:=5) (by decide)) fun j hj hj2=>?_
   obtain⟨v,hv1,hv2,hv3⟩:∃ v:Int,([.int (x10.fmod 10),.int (-(1+x10.fmod 999)),.int 1000000000,.int (-1000000000),.int (x10.fmod 1000000000)]:List AV)[j]?=some (.int v)/\-1000000000<=v/\v<=1000000000:=by
    apply wO (bA.1 hj2)
    ·exact⟨_,rfl,j3 u7.1 rfl,i3 (eY u7.2) rfl⟩
    ·exact⟨_,rfl,Int.neg_le_neg (i3 (pB u8) rfl),i3 (Int.neg_nonpos_of_nonneg (j3 (SN u8) rfl)) rfl⟩
    ·exact⟨_,rfl,by exact nI,by exact tA⟩
    ·exact⟨_,rfl,by exact tB,by exact nI⟩
    ·exact⟨_,rfl,j3 u9.1 rfl,eY u9.2⟩
   have v3:∃ r':Int,(r'=0\/r'=1)/\T.hm nm r=T.hm nm r':=⟨r,hr,rfl⟩
   refine xE (Ln (x:=(⟨T.hm nm r,nm,v⟩:En)) d1 (J3 _) (fun _=>rfl) (nJ hk jc u3) h1) fun ii u1=>?_
   have u4:(h'.set h.length (.dict (dk kS (fun e=>.str e.n) (es++[(⟨T.hm nm r,nm,v⟩:En)])) ii))[h.length+1]?=_:=Bm d2 (cE (eB _))
   generalize hu:h'.set h.length (.dict (dk kS (fun e=>.str e.n) (es++[(⟨T.hm nm r,nm,v⟩:En)])) ii)=hA at u1 u4
   have v1:hA[h.length]?=some (.dict (FC (es++[(⟨T.hm nm r,nm,v⟩:En)])) ii):=by rw[<- hu];exact CL d1
   have v2:hA[h.length+2]?=some (.list ((AL xs 9 23).map .int)):=by rw[<- hu];exact Bm hc (fun g=>qf (IG _) [((qA Af (qN 2)),Af)] rfl (aE (bO g)))
   have KA:Kp h.length h hA:=by rw[<- hu];exact K.trans (.set (aS _))
   refine xE (Ln (h:=hA++[.list [.int (x10.fmod 10),.int (-(1+x10.fmod 999)),.int 1000000000,.int (-1000000000),.int (x10.fmod 1000000000)]]) (x:=(⟨T.hm nm r,nm,v⟩:En)) (AS u4) (Eo _) (fun _=>rfl) (nJ hk jc u3) h2) fun ep4 u2=>?_
   refine⟨_,_,Ao (Ip (Cn (Al rfl rfl t1) (Al rfl rfl t2)) ((A5 (Fa rfl rfl rfl u1)).trans ((A5 (Ak (A8 rfl rfl ((BX (by decide)).trans (by rw[ex]))))).trans (Ao (Fa (CZ (i:=j) (A4 (A8 rfl rfl (B1 (by decide))) (A4 (IY (A8 rfl (A8 rfl rfl (B1 (by decide))) CO)) (A4 (A8 rfl rfl lY) (A4 (IY (A8 rfl rfl lY)) (A3 (A8 rfl (A8 rfl rfl lY) (B1 (by decide)))))))) (A8 (A8 rfl rfl (BX (by decide))) rfl ((B1 (by decide)).trans (by rw[hj]))) (by show 5<=1000;decide) hv1) rfl rfl u2))))),?_⟩
   refine Mz.mk _ (es++[(⟨T.hm nm r,nm,v⟩:En)]) _ _ _ _ _ (by rw[aC,bV];exact cK jc) ⟨⟨ii,Bm (AS v1) (Nat.succ_ne_self _)⟩,⟨ep4,CL (AS u4)⟩,O.add ⟨hn nm u0,⟨r,hr,rfl⟩,hv2,hv3⟩ h1 h2,fun e he=>?_,by rw[aC,bV];exact ql (Ck _ _ _) [(BP,Aj),(AA,Af),(Aj,(qN 14))] HC (qN 14) rfl hk jc u3⟩ (Bm (AS v2) (fun g=>qf (IG _) [((qA Af (qN 2)),BP)] rfl (aE (bO g)))) (KA.trans (Kp.app.trans (.set (fZ _))))
   rcases List.mem_append.mp he with q|q
   ·exact hin e q
   ·rcases List.mem_singleton.mp q with rfl;exact u5) (f:=F)
  (l:=[some (.scr xs),some T.av,some (.loc a),some (.loc b),some (.loc h.length),some (.loc (h.length+1)),none,none,none,none,none]) (h:=h++[.dict [] 0]++[.dict [] 0]++[.list ((AL xs 9 23).map .int)]) (by rw[aB];have t0:=J4 (xs:=xs);exact aP (l4 t0 rfl) hF)
  (Mz.mk _ [] none none none none none (aS _) ⟨⟨0,AS (AS Ae)⟩,⟨0,AS (by rw[show h.length+1=(h++[Ay.dict [] 0]).length by rw[aC];rfl];exact Ae)⟩,.nil,(fun _ q=>nomatch q),bE _⟩ (by rw[<- l2 (.dict [] 0) (.dict [] 0)];exact Ae) (Kp.app.trans (Kp.app.trans Kp.app)))) fun l' h' e2 I2=>?_
 cases I2 with
 | mk _ es v6 v7 v8 v9 v10 jc D hc K=>
 refine⟨_,_,_,es,?_,D,K⟩
 have hs:C0 (.scr xs) (.int 9) (.int 23) (h++[.dict [] 0]++[.dict [] 0])=.ok (.loc (h.length+2)) (h++[.dict [] 0]++[.dict [] 0]++[.list ((AL xs 9 23).map .int)]):=by
  have q:AW ((Do xs (.int 9) (.int 23)).map fun ys=>ys.map AV.int) (h++[.dict [] 0]++[.dict [] 0])=.ok _ _:=BF (x:=(AL xs 9 23).map .int) (by delta Do;rw[if_pos (AM (n3 hx rfl))];rfl) (AM (by rw[aB];have t3:=J4 (xs:=xs);exact n3 t3 rfl))
  rw[l2] at q;exact q
 have l1:∀ a:Ay,(h++[a]).length=h.length+1:=fun a=>aC
 rw[e]
 exact AH ((A5 (Ak rfl)).trans ((A5 (Ak (N6.trans (by rw[l1])))).trans ((A5 (DQ rfl (Ba rfl rfl (A8 rfl (Ac (A4 rfl (A4 rfl (A3 rfl))) (WK (n:=n) H hx)) CO) hs) e2)).trans (Ao (AZ (Dz (A4 rfl (A3 rfl)) (by show 2<=1000;decide)))))))
end
end
section
open PySem
noncomputable def Cw(m:Nat):List Nat:=(Nat.toDigits 10 m).map Char.toNat
theorem HU{m:Nat}(h:m<10):Cw m=[(Nat.digitChar m).toNat]:=by rw[Cw,Nat.toDigits_of_lt_base h];rfl
theorem WW{m:Nat}(h:¬ m<10):Cw m=Cw (m / 10)++Cw (m % 10):=by
 have t:Nat.toDigits 10 (m / 10)++Nat.toDigits 10 (m % 10)=Nat.toDigits 10 (10*(m / 10)+m % 10):=Nat.toDigits_append_toDigits (by decide) (tC h) (Nat.mod_lt m (by decide))
 rw[Nat.div_add_mod] at t
 rw[Cw,Cw,Cw,<- t,aU]
theorem JV{m:Nat}:Cw m≠[]:=fun e=>by
 have h:=PySem.toDigits_len_ge 10 m
 rw[List.map_eq_nil_iff.mp e] at h
 exact absurd h (by decide)
theorem Uu:∀ {m:Nat},(Cw m).head?=some 48->m=0:=fun {m}=>by
 induction m using Nat.strongRecOn with
 | _ m ih=>
  intro h
  by_cases hm:m<10
  ·rw[HU hm] at h
   revert h hm
   have:∀ d:Nat,d<10->[(Nat.digitChar d).toNat].head?=some 48->d=0:=by decide
   exact fun h hm=>this m hm h
  ·rw[WW hm,List.head?_append,Option.or_of_isSome (by rcases hq:Cw (m / 10) with _|_;exact absurd hq JV;rfl)] at h
   have:=ih (m / 10) (tD hm) h
   exact tE this hm
theorem EP{m c:Nat}(h:c∈Cw m):48<=c/\c<=57:=by
 refine A9 (List.mem_map.mp h) fun ch hch e=>?_
 rw[<- e]
 exact PyProof.Rows.digit_range (Nat.isDigit_of_mem_toDigits (by decide) (by decide) hch)
theorem Po(m:Nat):EW (Cw m)=m:=PySem.W.KIN.val_back m
theorem Iz{m:Nat}(h:m<10 ^ 10):(Cw m).length<=10:=by
 rw[Cw,aB]
 exact PySem.toDigits_len_pow (by decide) (by decide) h
theorem Ea(m:Nat):Ad m=Cw m:=PySem.W.KIN.signs_num m
theorem IA(m:Nat):Ad (Int.negSucc m)=45 :: Cw (m+1):=by
 have e:toString (Int.negSucc m)="-"++toString (m+1):=rfl
 rw[Ad,PyProof.Rows.signs_ofString,e,String.toList_append,aU]
 show 45 :: ((Nat.repr (m+1)).toList.map Char.toNat)=_
 rw[Nat.toList_repr];rfl
noncomputable def MA(x:List Nat):Bool:=(decide (1<=x.length)&&decide (x.length<=10))&&(!(x.head?==some 48&&x != [48])&&x.all EX)
noncomputable def Ax(x:List Nat):Option Int:=if MA x then some ((EW x:Nat):Int) else none
theorem Lr{m:Nat}(h:m<10 ^ 10):Ax (Cw m)=some (m:Int):=by
 have h1:1<=(Cw m).length:=List.length_pos_iff.mpr JV
 have h2:(!((Cw m).head?==some 48&&Cw m != [48]))=true:=by
  by_cases q:(Cw m).head?=some 48
  ·rw[Uu q];rfl
  ·rw[beq_eq_false_iff_ne.mpr q];rfl
 have h3:(Cw m).all EX=true:=List.all_eq_true.mpr fun c hc=>by
  rw[EX,decide_eq_true (EP hc).1,decide_eq_true (EP hc).2];rfl
 rw[Ax,if_pos (by rw[MA,decide_eq_true h1,decide_eq_true (Iz h),h2,h3];rfl),Po]
noncomputable def valOf(x:List Nat):Option Int:=if x.head?=some 45 then (Ax x.tail).bind fun i=>if i=0 then none else some (0-i) else Ax x
theorem WX{v:Int}(h1:-1000000000<=v)(h2:v<=1000000000):valOf (Ad v)=some v:=by
 rcases v with m|m
 ·have e:Ad (Int.ofNat m)=Cw m:=Ea m
  rw[e,valOf,if_neg fun q=>?_,Lr (by have t0:(m:Int)<=1000000000:=h2;exact oH t0)]
  ·rfl
  ·have t1:=EP (List.mem_of_head? q)
   exact qf (IG 0) [(qN 48,(qN 45))] rfl t1.1
 ·rw[IA]
  show (Ax (Cw (m+1))).bind _=_
  rw[Lr (oH (a:=m+1) (Int.le_of_neg_le_neg h1)),aW,if_neg (tF)]
  exact congrArg some (Int.zero_sub _)
theorem Co{v:Int}(h1:0<=v)(h2:v<10000000000):Ax (Ad v)=some v:=by
 refine xE (fA h1) fun m A6=>?_;subst A6
 rw[show Ad (m:Int)=Cw m from Ea m,Lr (XK h2)]
noncomputable def B8:List Nat:=[110,101,115,116,115]
noncomputable def Ci(x:List Nat):Option (List (List Nat)):=if (Aq 32 x).length=4/\[]∉Aq 32 x then some (Aq 32 x) else none
noncomputable def BB(x:List Nat):Option Tb:=(Ci x).bind fun w=>if w.getD 0 []=B8 then (Ax (w.getD 1 [])).bind fun c=>(Ax (w.getD 2 [])).bind fun f=>(Ax (w.getD 3 [])).bind fun s=>some ⟨c,f,s⟩ else none
noncomputable def AE(x:List Nat):Option En:=(Ci x).bind fun w=>(Ax (w.getD 0 [])).bind fun i=>(Ax (w.getD 1 [])).bind fun j=>(valOf (w.getD 3 [])).bind fun v=>some ⟨(i,j),w.getD 2 [],v⟩
noncomputable def EQ:List (List Nat)->Option (Tb×List En)
 | []=>none
 | r :: rs=>(BB r).bind fun T=>(Df AE rs).bind fun es=>some (T,es)
noncomputable def Gb(x:List Nat):Option (Tb×List En):=if x.getLast?=some 10 then EQ (Aq 10 x.dropLast) else none
noncomputable def BY(a b c d:List Nat):List Nat:=Bv [32] [a,b,c,d]
noncomputable def CM(w:List Nat):Prop:=32∉w/\w≠[]
theorem CE(c:Nat):∀ x:List Nat,(Aq c x).length=x.count c+1
 | []=>rfl
 | y :: r=>by
  have ih:=CE c r
  show (if y=c then [] :: Aq c r else match Aq c r with
   | []=>[[y]]
   | w :: ws=>(y :: w) :: ws).length=_
  rw[List.count_cons]
  by_cases h:y=c
  ·rw[if_pos h,if_pos (by rw[h];exact beq_self_eq_true c),aN,ih]
  ·rw[if_neg h,if_neg fun q=>h (cA q),Nat.add_zero,<- ih]
   rcases hs:Aq c r with _|⟨w,ws⟩
   ·rw[hs] at ih;simp at ih
   ·rfl
theorem Eb{x:List Nat}(h:x.count 32≠3):Ci x=none:=if_neg fun q=>h (Nat.succ.inj ((CE 32 x).symm.trans q.1))
theorem R3{a b c d:List Nat}(ha:CM a)(hb:CM b)(hc:CM c)(hd:CM d):Ci (BY a b c d)=some [a,b,c,d]:=by
 have e:Aq 32 (BY a b c d)=[a,b,c,d]:=DL (fun q=>nomatch q) fun p hp=>by
  simp only[bU,cL,or_false] at hp
  rcases hp with rfl|rfl|rfl|rfl
  ·exact ha.1
  ·exact hb.1
  ·exact hc.1
  ·exact hd.1
 refine(if_pos ⟨by rw[e];rfl,fun q=>?_⟩).trans (by rw[e])
 rw[e] at q
 simp only[bU,cL,or_false] at q
 rcases q with q|q|q|q
 ·exact ha.2 q.symm
 ·exact hb.2 q.symm
 ·exact hc.2 q.symm
 ·exact hd.2 q.symm
theorem lZ{a b c d:List Nat}:(BY a b c d).count 32=a.count 32+b.count 32+c.count 32+d.count 32+3:=by
 show (a++[32]++(b++[32]++(c++[32]++d))).count 32=_
 simp only[fK,List.count_singleton,beq_self_eq_true,if_true]
 exact nK
theorem MB{a b c d:List Nat}{w:List (List Nat)}(h:Ci (BY a b c d)=some w):w=[a,b,c,d]/\CM a/\CM b/\CM c/\CM d:=by
 refine xA (Cr h) fun q e=>?_
 have hc:=CE 32 (BY a b c d)
 rw[lZ,q.1] at hc
 have z:∀ {x:List Nat},x.count 32=0->32∉x:=List.count_eq_zero.mp
 have e2:Aq 32 (BY a b c d)=[a,b,c,d]:=DL (fun q=>nomatch q) fun p hp=>by
  simp only[bU,cL,or_false] at hp
  rcases hp with rfl|rfl|rfl|rfl
  ·exact z (oJ hc)
  ·exact z (oN hc)
  ·exact z (oO hc)
  ·exact z (oP hc)
 cases e
 have n:=q.2
 rw[e2] at n
 simp only[bU,cL,or_false,not_or] at n
 exact⟨e2,⟨z (oJ hc),fun q=>n.1 q.symm⟩,⟨z (oN hc),fun q=>n.2.1 q.symm⟩,⟨z (oO hc),fun q=>n.2.2.1 q.symm⟩,⟨z (oP hc),fun q=>n.2.2.2 q.symm⟩⟩
theorem Fy{a b c d:List Nat}(h:Ax a=none\/Ax b=none\/¬ CM c\/valOf d=none):AE (BY a b c d)=none:=by
 rcases hw:Ci (BY a b c d) with _|w
 ·rw[AE,hw];rfl
 ·refine Ka (MB hw) fun e _ _ hc _=>?_
  subst e
  rw[AE,hw,aW]
  show (Ax a).bind (fun i=>(Ax b).bind fun j=>(valOf d).bind fun v=>some (⟨(i,j),c,v⟩:En))=none
  rcases h with h|h|h|h
  ·rw[h];rfl
  ·rw[h];rcases Ax a with _|_<;>rfl
  ·exact absurd hc h
  ·rw[h];rcases Ax a with _|_<;>rcases Ax b with _|_<;>rfl
theorem Hi{a b c d:List Nat}(h:a≠B8\/Ax b=none\/Ax c=none\/Ax d=none):BB (BY a b c d)=none:=by
 rcases hw:Ci (BY a b c d) with _|w
 ·rw[BB,hw];rfl
 ·refine Ka (MB hw) fun e _ _ _ _=>?_
  subst e
  rw[BB,hw,aW]
  show (if a=B8 then (Ax b).bind (fun c'=>(Ax c).bind fun f=>(Ax d).bind fun s=>some (⟨c',f,s⟩:Tb)) else none)=none
  rcases h with h|h|h|h
  ·exact if_neg h
  all_goals rw[h]
  all_goals split
  ·rfl
  ·rfl
  ·rcases Ax b with _|_<;>rfl
  ·rfl
  ·rcases Ax b with _|_<;>rcases Ax c with _|_<;>rfl
  ·rfl
theorem DB{a b c d:List Nat}{i j v:Int}(ha:CM a)(hb:CM b)(hc:CM c)(hd:CM d)(ei:Ax a=some i)(ej:Ax b=some j)(ev:valOf d=some v):AE (BY a b c d)=some ⟨(i,j),c,v⟩:=by
 rw[AE,R3 ha hb hc hd,aW]
 show (Ax a).bind (fun i=>(Ax b).bind fun j=>(valOf d).bind fun v=>some (⟨(i,j),c,v⟩:En))=_
 rw[ei,ej,ev];rfl
noncomputable def Br(e:En):List Nat:=BY (Ad e.s.1) (Ad e.s.2) e.n (Ad e.v)
noncomputable def AJ(T:Tb):List Nat:=BY B8 (Ad T.c) (Ad T.f) (Ad T.s)
theorem MD{m:Nat}:CM (Cw m):=⟨fun q=>absurd (EP q).1 (by decide),JV⟩
theorem AP(v:Int):CM (Ad v):=by
 rcases v with m|m
 ·rw[show Ad (Int.ofNat m)=Cw m from Ea m];exact MD
 ·rw[IA]
  exact⟨fun q=>(List.mem_cons.mp q).elim (fun q=>absurd q (by decide)) MD.1,fun q=>nomatch q⟩
theorem Dp.fine{t:Nm}(G:Dp t):CM t:=⟨fun q=>absurd (G.all _ q) (by decide),fun q=>by have:=G.pos;rw[q] at this;exact absurd this (by decide)⟩
noncomputable def AT(x:List Nat):Prop:=∀ c∈x,c<128/\c≠10
theorem Bp(v:Int):AT (Ad v):=by
 have f:∀ m,AT (Cw m):=fun m c hc=>by have t0:=EP hc;exact⟨ql (IG _) [(Af,(qN 57))] BP (qN 128) rfl t0.2,fun g=>qf (IG _) [(qN 48,Af),(Af,(qN 10))] rfl t0.1 (aE g)⟩
 rcases v with m|m
 ·rw[show Ad (Int.ofNat m)=Cw m from Ea m];exact f m
 ·rw[IA]
  exact fun c hc=>(List.mem_cons.mp hc).elim (fun q=>by subst q;decide) (f _ c)
theorem AB{v:Int}(h1:-10000000000<v)(h2:v<10000000000):(Ad v).length<=11:=by
 rcases v with m|m
 ·rw[show Ad (Int.ofNat m)=Cw m from Ea m]
  have:=Iz (m:=m) (by have:(m:Int)<10000000000:=h2;exact XK this)
  exact n3 this rfl
 ·rw[IA]
  exact cK (Iz (XK (a:=m+1) (Int.lt_of_neg_lt_neg h1)))
theorem Dp.ok{t:Nm}(G:Dp t):AT t:=fun c hc=>⟨G.small c hc,fun q=>absurd (G.all c hc) (by rw[q];decide)⟩
structure Bn (r:List Nat):Prop where
 len:r.length<=100
 ok:AT r
theorem WY{a b c d:List Nat}:(BY a b c d).length=a.length+b.length+c.length+d.length+3:=by
 show (a++[32]++(b++[32]++(c++[32]++d))).length=_
 simp only[aC,bV]
 exact nK
theorem By{a b c d:List Nat}(ha:AT a)(hb:AT b)(hc:AT c)(hd:AT d)(hl:a.length+b.length+c.length+d.length<=97):Bn (BY a b c d):=⟨by rw[WY];exact pC hl rfl,fun x hx=>by
 have hx:x∈a++[32]++(b++[32]++(c++[32]++d)):=hx
 simp only[dX,List.mem_singleton] at hx
 rcases hx with (q|q)|(q|q)|(q|q)|q
 ·exact ha x q
 ·subst q;decide
 ·exact hb x q
 ·subst q;decide
 ·exact hc x q
 ·subst q;decide
 ·exact hd x q⟩
theorem Pp:AT B8:=by unfold AT B8;decide
theorem Ls:CM B8:=by unfold CM B8;decide
section
variable {T:Tb} {e:En}
theorem JD.seat(o:JD T e)(ok:T.Ok):0<=e.s.1/\e.s.1<=1/\0<=e.s.2/\e.s.2<1000:=by
 refine A9 o.home fun r hr es=>?_
 have t0:=ok.c2
 refine JZ (Tb.hm_in ok o.good hr) fun q1 q2 q3=>?_
 rw[es]
 exact⟨by exact rH q1,by exact nL q1,q2,by exact jl (DT _ _) [(Ca,BH),(BH,(jN 1000))] Ca (jN 1000) rfl q3 t0⟩
theorem WZ(o:JD T e)(ok:T.Ok):Bn (Br e):=by
 have t0:=o.seat ok
 have t1:=o.v1
 have t2:=o.v2
 exact By (Bp _) (Bp _) o.good.ok (Bp _) (by have t3:=AB (v:=e.s.1) (tG t0) (ZZ t0);have t4:=AB (v:=e.s.2) (nM t0) (jU t0);have t5:=AB (v:=e.v) (j4 t1 rfl) (i5 t2 rfl);have t6:=o.good.len;exact ql (Es _ _ _ _) [(Af,(qN 11)),(Aj,(qN 11)),(AA,(qN 11)),(CS,(qN 12))] (qA (qA (qA Aj Af) CS) AA) (qN 97) rfl t4 t3 t5 t6)
theorem ME(o:JD T e)(ok:T.Ok):AE (Br e)=some e:=by
 have:=o.seat ok
 exact DB (AP _) (AP _) o.good.fine (AP _) (Co (this.1) (i5 this.2.1 rfl)) (Co (this.2.2.1) (i3 this.2.2.2 rfl)) (WX o.v1 o.v2)
structure Tb.Near (T:Tb):Prop where
 c1:0<=T.c
 c2:T.c<10000000000
 f1:0<=T.f
 f2:T.f<10000000000
 s1:0<=T.s
 s2:T.s<10000000000
theorem Tb.Ok.near(ok:T.Ok):T.Near:=by
 exact⟨j3 ok.c1 rfl,i5 ok.c2 rfl,j3 ok.f1 rfl,i5 ok.f2 rfl,j3 ok.s1 rfl,i5 ok.s2 rfl⟩
theorem Hj(k:T.Near):Bn (AJ T):=by
 have t0:=k.c1
 have t1:=k.f1
 have t2:=k.s1
 exact By Pp (Bp _) (Bp _) (Bp _) (by have t3:=AB (v:=T.c) (j4 t0 rfl) k.c2;have t4:=AB (v:=T.f) (j4 t1 rfl) k.f2;have t5:=AB (v:=T.s) (j4 t2 rfl) k.s2;show 5+_+_+_<=97;exact ql (Ck _ _ _) [(Af,(qN 11)),(Aj,(qN 11)),(AA,(qN 11))] (qA (qA (qA (qN 5) Aj) AA) Af) (qN 97) rfl t5 t3 t4)
theorem JW(k:T.Near):BB (AJ T)=some T:=by
 rw[BB,AJ,R3 Ls (AP _) (AP _) (AP _),aW]
 show (if B8=B8 then (Ax (Ad T.c)).bind (fun c'=>(Ax (Ad T.f)).bind fun f=>(Ax (Ad T.s)).bind fun s=>some (⟨c',f,s⟩:Tb)) else none)=_
 rw[if_pos rfl,Co k.c1 k.c2,Co k.f1 k.f2,Co k.s1 k.s2];rfl
end
noncomputable def B0(rows:List (List Nat)):List Nat:=Bv [] (rows.map fun r=>r++[10])
theorem J5{r:List Nat}{rows:List (List Nat)}:B0 (r :: rows)=r++10 :: B0 rows:=by
 rcases rows with _|⟨q,rs⟩
 ·rfl
 ·show (r++[10])++[]++B0 (q :: rs)=_
  rw[dC,bC];rfl
theorem J6:∀ {r:List Nat} {rows:List (List Nat)},B0 (r :: rows)=Bv [10] (r :: rows)++[10]
 | r,[]=>rfl
 | r,q :: rs=>by
  rw[J5,J6]
  show _=(r++[10]++Bv [10] (q :: rs))++[10]
  rw[bC,bC];rfl
theorem HV{rows:List (List Nat)}(h:∀ r∈rows,Bn r):Gb (B0 rows)=EQ rows:=by
 rcases rows with _|⟨r,rs⟩
 ·rfl
 ·rw[Gb,J6,eV,if_pos rfl,gZ,DL (ps:=r :: rs) (fun q=>nomatch q) fun p hp q=>((h p hp).ok 10 q).2 rfl]
theorem Fz:∀ {rows:List (List Nat)},(∀ r∈rows,Bn r)->(B0 rows).length<=101*rows.length
 | [],_=>aS _
 | r :: rs,h=>by
  rw[J5,aC,aN,aN]
  have t0:=(h r aH).len
  have t1:=Fz fun x hx=>h x (aL _ hx)
  exact ql (Ck _ _ _) [(Af,(.mulL 101 Aj)),(AA,(qN 100))] (qA AA BP) (.mulL 101 Ee) rfl t1 t0
theorem DS:∀ {rows:List (List Nat)},(∀ r∈rows,Bn r)->∀ c∈B0 rows,c<128
 | [],_,c,hc=>nomatch hc
 | r :: rs,h,c,hc=>by
  rw[J5] at hc
  rcases List.mem_append.mp hc with q|q
  ·exact((h r aH).ok c q).1
  ·rcases List.mem_cons.mp q with q|q
   ·subst q;decide
   ·exact DS (fun x hx=>h x (aL _ hx)) c q
theorem FA{c:Nat}{w:List Nat}:∀ {x:List Nat},w∈Aq c x->∀ y∈w,y∈x
 | [],h,y,hy=>by rcases List.mem_singleton.mp h with rfl;exact hy
 | z :: r,h,y,hy=>by
  have h:w∈(if z=c then [] :: Aq c r else match Aq c r with
   | []=>[[z]]
   | v :: ws=>(z :: v) :: ws):=h
  by_cases hz:z=c
  ·rw[if_pos hz] at h
   rcases List.mem_cons.mp h with rfl|h
   ·cases hy
   ·exact aL _ (FA h y hy)
  ·rw[if_neg hz] at h
   rcases hs:Aq c r with _|⟨v,ws⟩
   ·rw[hs] at h
    rcases List.mem_singleton.mp h with rfl
    rcases List.mem_singleton.mp hy with rfl
    exact aH
   ·rw[hs] at h
    rcases List.mem_cons.mp h with rfl|h
    ·rcases List.mem_cons.mp hy with rfl|hy
     ·exact aH
     ·exact aL _ (FA (by rw[hs];exact aH) y hy)
    ·exact aL _ (FA (by rw[hs];exact aL _ h) y hy)
theorem DE{r:List Nat}{rs:List (List Nat)}(h:BB r=none\/∃ x∈rs,AE x=none):EQ (r :: rs)=none:=by
 show (BB r).bind _=none
 rcases h with h|⟨x,hx,h⟩
 ·rw[h];rfl
 ·rw[Mt hx h]
  rcases BB r with _|_<;>rfl
end
section
open PySem
section
variable {p:AI} {n:Nat} {h:A0}
theorem X0{c:Nat}(h:c<128):decide (c∈([48,49,50,51,52,53,54,55,56,57]:List Nat))=EX c:=(by decide:∀ c<128,decide (c∈([48,49,50,51,52,53,54,55,56,57]:List Nat))=EX c) c h
inductive X1 (x:List Nat) (h:A0) (k:Nat):Ah->A0->Prop
 | mk (v:Option AV) (a:(x.take k).all EX=true):X1 x h k [some (.str x),v] h
inductive X2 (x:List Nat) (h:A0):SR->Prop
 | mk (l:Ah) (e:x.all EX=false):X2 x h (.exc "NoNote" l h)
theorem G1(H:CQ p){x:List Nat}(hx:∀ c∈x,c<128)(hl:x.length<=3000):NB ((Ax x).map .int) "NoNote" h (AD p (n+1) false "number_of" [.str x] h):=by
 refine A9 (BS (n:=n) (h:=h) H.number_of (as:=[.str x]) [some (.str x),none] rfl rfl) fun F hF e=>?_
 rw[e]
 have t1:=QY (c:=cF p n F) (l:=[some (.str x),none]) (h:=h) (x:=.int 1) (y:=.bi .len (.cons (.loc 0) .nil)) (z:=.int 10) rfl (Bq rfl (A3 rfl) (NC (AM hl))) rfl
 by_cases h1:1<=x.length/\x.length<=10
 case neg=>
  rw[show (decide ((1:Int)<=x.length)&&decide ((x.length:Int)<=10))=false by rw[<- eR];exact decide_eq_false (tH h1)] at t1
  refine .of (.no h rfl .refl) ?_ (AR (BD rfl (JS (HS t1))))
  rw[Ax,if_neg,jQ]
  rw[MA,<- eR,decide_eq_false h1];exact aD
 rw[show (decide ((1:Int)<=x.length)&&decide ((x.length:Int)<=10))=true by rw[<- eR];exact decide_eq_true (⟨jl (CX _) [(jI,AC)] jI AC rfl (bN.2 h1.1),jl (CX _) [(AC,(jN 10))] AC (jN 10) rfl (bN.2 h1.2)⟩)] at t1
 have e1:(decide (1<=x.length)&&decide (x.length<=10))=true:=by rw[<- eR];exact decide_eq_true h1
 rcases x with _|⟨d,r⟩
 ·exact absurd h1.1 (by decide)
 have t2:A1 (cF p n F) (.and (.cmp .eq (.sub (.loc 0) (.int 0)) (.str [48])) (.cmp .ne (.loc 0) (.str [48]))) [some (.str (d :: r)),none] h=.ok (.bool ((d :: r).head?==some 48&&(d :: r) != [48])) h:=by
  have t3:A1 (cF p n F) (.cmp .eq (.sub (.loc 0) (.int 0)) (.str [48])) [some (.str (d :: r)),none] h=.ok (.bool (decide ([d]=[48]))) h:=Al (An rfl rfl (Sm (k:=0) (AM hl) rfl)) rfl Ww
  have q:((d :: r).head?==some 48)=decide ([d]=[48]):=by
   by_cases hd:d=48
   ·subst hd;rfl
   ·rw[decide_eq_false fun q=>hd (List.cons.inj q).1]
    exact beq_eq_false_iff_ne.mpr fun q=>hd (Option.some.inj q)
  rw[q]
  rcases hq:decide ([d]=[48]) with _|_
  ·rw[hq] at t3;exact E8 t3
  ·rw[hq] at t3
   refine Cn t3 ((Al rfl rfl WP).trans ?_)
   rw[iX,bne,show ((d :: r)==[48])=decide (d :: r=[48]) from (Bool.beq_eq_decide_eq _ _)]
 rcases h2:((d :: r).head?==some 48&&(d :: r) != [48]) with _|_
 case true=>
  rw[h2] at t2
  refine .of (.no h rfl .refl) ?_ (AR (BD rfl (Bg (HS t1) t2)))
  rw[Ax,if_neg,jQ]
  rw[MA,h2,e1];exact aD
 rw[h2] at t2
 have L:=Dj (put:=Jw 1) (src:=.str (d :: r)) (items:=(d :: r).map fun c=>AV.str [c]) (body:=fun l h=>execSs (cF p n F) DX l h) (X1 (d :: r) h) (X2 (d :: r) h)
  (fun k l h' _=>GT hx) (fun k v l h' hv hI=>by
   cases hI with
   | mk v' ha=>
   refine xE (GU hv) fun hk A6=>?_;subst A6
   refine⟨_,rfl,?_⟩
   rcases hf:EX (d :: r)[k] with _|_
   ·refine .of (BD rfl (Al rfl rfl (GS.trans (by rw[X0 (hx _ (bZ hk)),hf];rfl)))) (.halt _ (.exc _ _ _) (.mk _ ?_))
    exact List.all_eq_false.mpr ⟨_,bZ hk,by rw[hf];exact aD⟩
   ·refine .of (Aa (Al rfl rfl (GS.trans (by rw[X0 (hx _ (bZ hk)),hf];rfl)))) (.next _ _ (.mk _ ?_))
    rw[cS,aF hk,List.all_append,ha,eI,iW,hf];rfl) F 0 [some (.str (d :: r)),none] h (by rw[aB];exact ql (CW _ _) [(Af,(qN 10)),(qN 50000,Aj)] BP (qA Aj (qN 0)) rfl h1.2 hF) (bE _) (.mk none rfl)
 have s0:∀ {r':SR},AO (Jw 1) (fun l h=>execSs (cF p n F) DX l h) (.str (d :: r)) F 0 [some (.str (d :: r)),none] h=r'->execSs (cF p n F) GI.body [some (.str (d :: r)),none] h=r'.turn fun l h=>execSs (cF p n F) (.cons (.ret (.bi .int (.cons (.loc 0) .nil))) .nil) l h:=fun eq=>
  (Aa (Bg (HS t1) t2)).trans (by rw[C1,DQ rfl rfl eq])
 rcases L with ⟨l',h',e2,I2⟩|R
 ·cases I2 with
  | mk v ha=>
  rw[aB,bS] at ha
  have s1:=s0 e2
  rw[BJ] at s1
  have ei:Zw (.str (d :: r)) h=.ok (.int (EW (d :: r))) h:=if_pos (by rw[ha,decide_eq_true (show (d :: r).length<=600 by exact n3 h1.2 rfl)];rfl)
  refine .of (.ok (.int (EW (d :: r))) h rfl .refl) ?_ (by rw[s1];exact AH (Ao (AZ (Bq rfl (A3 rfl) ei))))
  rw[Ax,if_pos,fF]
  rw[MA,h2,e1,ha];rfl
 ·generalize hg:AO (Jw 1) (fun l h=>execSs (cF p n F) DX l h) (.str (d :: r)) F 0 [some (.str (d :: r)),none] h=r' at R
  cases R with
  | mk l hn=>
  refine .of (.no h rfl .refl) ?_ (by rw[s0 hg];rfl)
  rw[Ax,if_neg,jQ]
  rw[MA,hn,fQ,fQ];exact aD
theorem NM(H:CQ p){x:List Nat}(hx:∀ c∈x,c<128)(hl:x.length<=3000):NB ((valOf x).map .int) "NoNote" h (AD p (n+2) false "value_of" [.str x] h):=by
 refine A9 (BS (n:=n+1) (h:=h) H.value_of (as:=[.str x]) [some (.str x),none] rfl rfl) fun F hF e=>?_
 rw[e]
 have hs:=Ba (c:=cF p (n+1) F) (l:=[some (.str x),none]) (h:=h) (o:=.loc 0) (x:=.none) (y:=.int 1) rfl rfl rfl (Pn (k:=1) hl)
 have ht:x.take 1=[45]↔x.head?=some 45:=by
  rcases x with _|⟨d,r⟩
  ·exact⟨(fun q=>nomatch q),(fun q=>nomatch q)⟩
  ·exact⟨fun q=>congrArg some (List.cons.inj q).1,fun q=>congrArg (fun z=>[z]) (Option.some.inj q)⟩
 by_cases hm:x.head?=some 45
 ·have t1:=Al (op:=.ne) (x:=.str [45]) (u:=.str [45]) (h2:=h) hs rfl (GW (ht.mpr hm))
  rw[valOf,if_pos hm]
  have en:=Ac (c:=cF p (n+1) F) (f:="number_of") (A3 (Ba (l:=[some (.str x),none]) (h:=h) (o:=.loc 0) (x:=.int 1) (y:=.none) rfl rfl rfl (Lp (k:=1) hl))) rfl
  rw[List.drop_one] at en
  rcases (G1 (n:=n) (h:=h) H (x:=x.tail) (fun c hc=>hx c (List.mem_of_mem_tail hc)) (by rw[List.length_tail];exact ql (CW _ _) [(Af,(qN 3000)),(Aj,Af)] Aj (qN 3000) rfl hl (dH _ _))).is with ⟨v,h',q1,q2,K⟩|⟨h',q1,q2,K⟩<;>rw[show CA.F (cF p (n+1) F) "number_of" [.str x.tail] h=_ from q2] at en
  ·refine A9 (Option.map_eq_some_iff.mp q1) fun i hi ev=>?_
   subst ev
   rw[hi,aW]
   by_cases h0:i=0
   ·rw[if_pos h0]
    exact .of (.no h' rfl K) rfl (AR ((Aa t1).trans ((A5 (Ak en)).trans (BD rfl (Al rfl rfl (So h0))))))
   ·rw[if_neg h0]
    exact .of (.ok (.int (0-i)) h' rfl K) rfl (AH ((Aa t1).trans ((A5 (Ak en)).trans ((Aa (Al rfl rfl (Sq h0))).trans (Ao (AZ (A8 rfl rfl OU)))))))
  ·rw[Option.map_eq_none_iff.mp q1]
   exact .of (.no h' rfl K) rfl (AR ((Aa t1).trans (Eh (Fw en))))
 ·have t1:=Al (op:=.ne) (x:=.str [45]) (u:=.str [45]) (h2:=h) hs rfl (WQ fun q=>hm (ht.mp q))
  rw[valOf,if_neg hm]
  rcases (G1 (n:=n) (h:=h) H hx hl).is with ⟨v,h',q1,q2,K⟩|⟨h',q1,q2,K⟩
  ·exact .of (.ok v h' rfl K) q1.symm (AH (JT t1 (Ac (A3 rfl) q2)))
  ·exact .of (.no h' rfl K) q1.symm (AR (Eh (Ip t1 (Ao (Iq (Ac (A3 rfl) q2))))))
theorem Su{a:Nat}{x:List Nat}{w:List (List Nat)}(hn:h[a]?=some (.list (w.map .str))):B9 h .isin (.str x) (.loc a)=some (decide (x∈w)):=by
 show LF h (.str x) (.loc a)=_
 delta LF
 dsimp only
 rw[hn]
 exact Lo (g:=AV.str) (fun a b=>rfl) x w
theorem IB{c:Nat}{x:List Nat}(hc:c<128)(hl:x.length<=3000):Cq .split (.str x) [.str [c]] h=.ok (.loc h.length) (h++[.list ((Aq c x).map .str)]):=by
 show N2 (.str x) [.str [c]] h=_
 delta N2
 dsimp only
 rw[if_pos (AM hl)]
 refine BF (x:=(Aq c x).map .str) (if_pos hc) (aR ?_ (show 3001<=Ab by decide))
 rw[aB,CE]
 have t0:=List.count_le_length (a:=c) (l:=x)
 exact ql (CW _ _) [(Af,Aj),(Aj,(qN 3000))] BP (qN 3001) rfl t0 hl
theorem MF(H:CQ p){x:List Nat}(hl:x.length<=3000):(∃ w,Ci x=some w/\AD p (n+1) false "words_of" [.str x] h=.ok (.loc h.length) (h++[.list (w.map .str)]))\/(Ci x=none/\∃ g,AD p (n+1) false "words_of" [.str x] h=.exc "NoNote" (h++g)):=by
 refine A9 (BS (n:=n) (h:=h) H.words_of (as:=[.str x]) [some (.str x),none] rfl rfl) fun F hF e=>?_
 rw[e]
 have s1:=Ak (c:=cF p n F) (i:=1) (F2 (l:=[some (.str x),none]) (h:=h) (o:=.loc 0) rfl rfl (A3 (x:=.str [32]) rfl) (IB (by decide) hl))
 have hw:(h++[Ay.list ((Aq 32 x).map .str)])[h.length]?=some (.list ((Aq 32 x).map .str)):=Ae
 by_cases h4:(Aq 32 x).length=4
 ·by_cases hm:[]∈Aq 32 x
  ·refine .inr ⟨if_neg fun q=>q.2 hm,_,AR ((A5 s1).trans (BD rfl (Bg (Al (Bq rfl (A3 rfl) (len_list hw)) rfl (Mw (by rw[aB,h4];rfl))) (Al rfl rfl ((Su hw).trans (by rw[decide_eq_true hm]))))))⟩
  ·refine .inl ⟨_,if_pos ⟨h4,hm⟩,AH ((A5 s1).trans ((Aa (Bg (Al (Bq rfl (A3 rfl) (len_list hw)) rfl (Mw (by rw[aB,h4];rfl))) (Al rfl rfl ((Su hw).trans (by rw[decide_eq_false hm]))))).trans (Ao (AZ rfl))))⟩
 ·refine .inr ⟨if_neg fun q=>h4 q.1,_,AR ((A5 s1).trans (BD rfl (JS (Al (Bq rfl (A3 rfl) (len_list hw)) rfl (qP (by rw[aB];exact(eJ h4).elim (fun g0=>fun g=>jf (CX _) [(Ca,(jN 4)),(jN 4,AC)] rfl (bA.2 g0) (aO (bO g))) (fun g0=>fun g=>jf (CX _) [((jA (jN 4) jI),AC),(AC,(jN 4))] rfl (bA.2 g0) (aO g))))))))⟩
noncomputable def Pq(e:En):AV:=.tup [sv e.s,.str e.n,.int e.v]
theorem J7{x:List Nat}{w:List (List Nat)}(e:Ci x=some w):∃ a b c d,w=[a,b,c,d]/\∀ y∈w,(∀ z∈y,z∈x)/\y.length<=x.length:=by
 refine xA (Cr e) fun q e=>?_
 cases e
 have hm:∀ y∈Aq 32 x,(∀ z∈y,z∈x)/\y.length<=x.length:=fun y hy=>⟨FA hy,split_le hy⟩
 rcases hs:Aq 32 x with _|⟨a,_|⟨b,_|⟨c,_|⟨d,_|⟨f,r⟩⟩⟩⟩⟩<;>rw[hs] at q hm
 case cons.cons.cons.cons.nil=>exact⟨a,b,c,d,rfl,hm⟩
 all_goals exact absurd q.1 (by simp)
where split_le {c:Nat} {w:List Nat}:∀ {x:List Nat},w∈Aq c x->w.length<=x.length
 | [],h=>by rcases List.mem_singleton.mp h with rfl;exact aS _
 | z :: r,h=>by
  have h:w∈(if z=c then [] :: Aq c r else match Aq c r with
   | []=>[[z]]
   | v :: ws=>(z :: v) :: ws):=h
  by_cases hz:z=c
  ·rw[if_pos hz] at h
   rcases List.mem_cons.mp h with rfl|h
   ·exact bE _
   ·exact eS (split_le h)
  ·rw[if_neg hz] at h
   rcases hs:Aq c r with _|⟨v,ws⟩
   ·rw[hs] at h
    rcases List.mem_singleton.mp h with rfl
    exact cK (bE _)
   ·rw[hs] at h
    rcases List.mem_cons.mp h with rfl|h
    ·exact cK (split_le (by rw[hs];exact aH))
    ·exact eS (split_le (by rw[hs];exact aL _ h))
theorem Uv(H:CQ p){x:List Nat}(hx:∀ c∈x,c<128)(hl:x.length<=3000):NB ((AE x).map Pq) "NoNote" h (AD p (n+3) false "thing_of" [.str x] h):=by
 refine A9 (BS (n:=n+2) (h:=h) H.thing_of (as:=[.str x]) [some (.str x),none] rfl rfl) fun F hF e=>?_
 rw[e]
 rcases MF (n:=n+1) (h:=h) H (x:=x) hl with ⟨w,ew,q⟩|⟨ew,g,q⟩
 case inr=>
  refine .of (.no (h++g) rfl .app) ?_ (AR (Eh (Fw (Ac (A3 rfl) q))))
  rw[AE,ew];rfl
 refine F7 (J7 ew) fun a b c d A6 hm=>?_;subst A6
 rw[AE,ew,aW]
 show NB (Option.map Pq ((Ax a).bind fun i=>(Ax b).bind fun j=>(valOf d).bind fun v=>some (⟨(i,j),c,v⟩:En))) _ _ _
 have u2:∀ y∈[a,b,c,d],(∀ z∈y,z<128)/\y.length<=3000:=fun y hy=>⟨fun z hz=>hx z ((hm y hy).1 z hz),aR (hm y hy).2 hl⟩
 have s1:=Ak (c:=cF p (n+2) F) (i:=1) (Ac (l:=[some (.str x),none]) (A3 (x:=.loc 0) rfl) q)
 have u1:(h++[Ay.list ([a,b,c,d].map .str)])[h.length]?=some (.list ([a,b,c,d].map .str)):=Ae
 have K0:Kp h.length h (h++[Ay.list ([a,b,c,d].map .str)]):=.app
 generalize h++[Ay.list ([a,b,c,d].map .str)]=h0 at u1 K0 s1
 have sub:∀ {h1:A0} {k:Nat} {y:List Nat},h1[h.length]?=some (.list ([a,b,c,d].map .str))->[a,b,c,d][k]?=some y->A1 (cF p (n+2) F) (.sub (.loc 1) (.int k)) [some (.str x),some (.loc h.length)] h1=.ok (.str y) h1:=fun hw hy=>An rfl rfl (Bf (AM (by show 4<=3000;decide)) hw (aQ _) (by rw[bT,aK,hy];rfl))
 have u4:∀ {h1:A0} {k:Nat} {y:List Nat},h1[h.length]?=some (.list ([a,b,c,d].map .str))->[a,b,c,d][k]?=some y->NB ((Ax y).map .int) "NoNote" h1 (A1 (cF p (n+2) F) (.call "number_of" (.cons (.sub (.loc 1) (.int k)) .nil)) [some (.str x),some (.loc h.length)] h1):=fun {h1 k y} hw hy=>by
  have t0:=u2 y (aX hy)
  exact .of (G1 (n:=n+1) (h:=h1) H t0.1 t0.2) rfl (Ac (A3 (sub hw hy)) rfl)
 rcases (u4 (k:=0) u1 rfl).is with ⟨v1,h1,e1,q1,K1⟩|⟨h1,e1,q1,K1⟩
 case inr=>
  rw[Option.map_eq_none_iff.mp e1]
  exact .of (.no h1 rfl (K0.then K1)) rfl (AR ((A5 s1).trans (Ao (Iq (GF (WD (GF (WD q1))))))))
 refine A9 (Option.map_eq_some_iff.mp e1) fun i hi ev=>?_
 subst ev
 rw[hi,aW]
 have u3:=K1.all u1
 rcases (u4 (k:=1) u3 rfl).is with ⟨v2,h2,e2,q2,K2⟩|⟨h2,e2,q2,K2⟩
 case inr=>
  rw[Option.map_eq_none_iff.mp e2]
  exact .of (.no h2 rfl (K0.then (K1.then K2))) rfl (AR ((A5 s1).trans (Ao (Iq (GF (WD (GF (lT q1 (WD q2)))))))))
 refine A9 (Option.map_eq_some_iff.mp e2) fun j hj ev=>?_
 subst ev
 rw[hj,aW]
 have u0:=K2.all u3
 have h3:=u2 d (by simp)
 rcases (NM (n:=n) (h:=h2) H h3.1 h3.2).is with ⟨v3,h3,e3,q3,K3⟩|⟨h3,e3,q3,K3⟩
 ·refine A9 (Option.map_eq_some_iff.mp e3) fun v hv ev=>?_
  subst ev
  rw[hv]
  exact .of (.ok _ h3 rfl (K0.then (K1.then (K2.then K3)))) rfl (AH ((A5 s1).trans (Ao (AZ (Dz (A4 (Dz (A4 q1 (A3 q2)) (by show 2<=1000;decide)) (A4 (sub (k:=2) u0 rfl) (A3 (Ac (A3 (sub (k:=3) u0 rfl)) q3)))) (by show 3<=1000;decide))))))
 ·rw[Option.map_eq_none_iff.mp e3]
  refine .of (.no h3 rfl (K0.then (K1.then (K2.then K3)))) rfl (AR ((A5 s1).trans (Ao (Iq ?_))))
  exact GF (lT (Dz (A4 q1 (A3 q2)) (by show 2<=1000;decide)) (lT (sub (k:=2) u0 rfl) (WD (Ac (A3 (sub (k:=3) u0 rfl)) q3))))
end
end
section
open PySem PySem.Spec PyProof.Rows PySem.W
section
variable {lt:Nat->Nat->Bool} {n:Nat} {p:Array Nat}
theorem Ex{α β:Type}{f:α->KasT β}:∀ t:KasT α,BR lt (t.bind f)=BR lt (f (BR lt t))
 | .ret _=>rfl
 | .ask i j k=>Ex (k (lt i j))
structure XI (lt:Nat->Nat->Bool) (n:Nat):Prop where
 tr:∀ i j k,i<n->j<n->k<n->lt i j=true->lt j k=true->lt i k=true
 tot:∀ i j,i<n->j<n->i≠j->lt i j=false->lt j i=true
abbrev D6(p:Array Nat)(i:Nat):Nat:=p.getD i 0
theorem R5(h:p[i]?=some x):D6 p i=x:=by rw[D6,cD,h];rfl
theorem Bd.ne(b:Bd n p)(hi:i<n)(hj:j<n)(h:i≠j):D6 p i≠D6 p j:=by
 have nd:p.toList.Nodup:=b.same.nodup_iff.mpr List.nodup_range
 have hs:=b.size
 intro e
 have e':p.toList[i]?=p.toList[j]?:=by
  have h1:=bW (xs:=p) (show i<p.size by exact Zn hi hs)
  have h2:=bW (xs:=p) (show j<p.size by exact Zn hj hs)
  rw[R5 h1,R5 h2] at e
  rw[bJ,bJ,h1,h2,e]
 exact h ((dW (by rw[bH];exact Zn hi hs) nd).mp e')
noncomputable def UG(lt:Nat->Nat->Bool)(p:Array Nat)(k:Nat):Prop:=∀ i j,i<j->j<k->lt (D6 p i) (D6 p j)=true
noncomputable def Uw(lt:Nat->Nat->Bool)(p:Array Nat)(k:Nat):Prop:=∀ i j,i<j->j<k->lt (D6 p j) (D6 p i)=true
theorem X3(L:XI lt n)(b:Bd n p)(h:UG lt p k)(h1:1<=k)(hk:k<n)(hq:lt (D6 p k) (D6 p (k-1))=false):UG lt p (k+1):=fun i j ig hj=>by
 by_cases e:j=k
 ·subst e
  have u0:lt (D6 p (j-1)) (D6 p j)=true:=L.tot _ _ (b.get _) (b.get _) (b.ne hk (ql (Ck _ _ _) [(BP,Aj),(AA,Af)] HC Aj rfl hk (dH _ _)) (nN h1)) hq
  by_cases ei:i=j-1
  ·rw[ei];exact u0
  ·exact L.tr _ _ _ (b.get _) (b.get _) (b.get _) (h i (j-1) (jV ig ei) (Nat.sub_lt h1 Nat.one_pos)) u0
 ·exact h i j ig (eK (dI hj) e)
theorem MG(L:XI lt n)(b:Bd n p)(h:Uw lt p k)(h1:1<=k)(hk:k<n)(hq:lt (D6 p k) (D6 p (k-1))=true):Uw lt p (k+1):=fun i j ig hj=>by
 by_cases e:j=k
 ·subst e
  by_cases ei:i=j-1
  ·rw[ei];exact hq
  ·exact L.tr _ _ _ (b.get _) (b.get _) (b.get _) hq (h i (j-1) (jV ig ei) (Nat.sub_lt h1 Nat.one_pos))
 ·exact h i j ig (eK (dI hj) e)
theorem NN(L:XI lt n)(b:Bd n p):∀ f m,1<=m->m+f<=n->UG lt p m->m<=BR lt (kas_asc p f m)/\BR lt (kas_asc p f m)<=m+f/\UG lt p (BR lt (kas_asc p f m))/\(BR lt (kas_asc p f m)=m+f\/lt (D6 p (BR lt (kas_asc p f m))) (D6 p (BR lt (kas_asc p f m)-1))=true)
 | 0,m,_,_,h=>⟨aS _,aS _,h,.inl rfl⟩
 | f+1,m,h1,hm,h=>by
  have e:BR lt (kas_asc p (f+1) m)=BR lt (if lt (D6 p m) (D6 p (m-1))=true then .ret m else kas_asc p f (m+1)):=rfl
  rcases hq:lt (D6 p m) (D6 p (m-1)) with _|_
  case true=>rw[hq] at e;rw[e];exact⟨aS _,dQ _ _,h,.inr hq⟩
  case false=>
   rw[hq] at e
   rw[show BR lt (kas_asc p (f+1) m)=BR lt (kas_asc p f (m+1)) from e]
   refine MS (NN L b f (m+1) (bF rfl) (nO hm) (X3 L b h h1 (jW hm) hq)) fun a1 a2 a3 a4=>?_
   exact⟨by exact n7 a1 rfl,by exact nP a2,a3,a4.imp (fun q=>by exact bM (ql (Ck _ _ _) [(Af,(qA Ee AA))] Af (qA Aj HC) rfl (aE q)) (ql (Ck _ _ _) [((qA Ee AA),Af)] (qA Aj HC) Af rfl (aE (bO q)))) id⟩
theorem Pr(L:XI lt n)(b:Bd n p):∀ f m,1<=m->m+f<=n->Uw lt p m->∃ r,BR lt (kas_desc f p m 0)=(p,r,0)/\m<=r/\r<=m+f/\Uw lt p r
 | 0,m,_,_,h=>⟨m,rfl,aS _,aS _,h⟩
 | f+1,m,h1,hm,h=>by
  rcases hq:lt (D6 p m) (D6 p (m-1)) with _|_
  case true=>
   have e:BR lt (kas_desc (f+1) p m 0)=BR lt (kas_desc f p (m+1) 0):=by
    show BR lt (if lt (D6 p m) (D6 p (m-1))=true then _ else _)=_
    rw[hq];rfl
   refine BT (Pr L b f (m+1) (bF rfl) (nO hm) (MG L b h h1 (jW hm) hq)) fun r a1 a2 a3 a4=>?_
   exact⟨r,e.trans a1,by exact n7 a2 rfl,by exact nP a3,a4⟩
  case false=>
   have hd:lt (D6 p (m-1)) (D6 p m)=true:=L.tot _ _ (b.get _) (b.get _) (b.ne (jW hm) (ql (Es _ _ _ _) [((qA Af Ee),AA),(CS,Af)] PK AA rfl hm (dH _ _)) (nN h1)) hq
   refine⟨m,?_,aS _,by exact dQ _ _,h⟩
   show BR lt (if lt (D6 p m) (D6 p (m-1))=true then _ else KasT.ask (D6 p (m-1)) (D6 p m) _)=_
   rw[hq]
   show BR lt (if lt (D6 p (m-1)) (D6 p m)=true then _ else _)=_
   rw[hd];rfl
theorem X4(hk:k<=p.size)(hi:i<k):D6 (kas_rev p 0 k) i=D6 p (k-1-i):=by
 have t0:=getElem?_mirror_all (xs:=p) (i:=0) (j:=k) hk i
 rw[if_pos ⟨bE _,hi⟩] at t0
 unfold kas_rev D6
 rw[cD,cD,t0]
 congr 2
 exact tI
theorem X5(L:XI lt n)(b:Bd n p){k:Nat}(h1:1<=k)(hk:k<=n)(h:Uw lt p k):∃ m q,BR lt (kas_tail3 k n p)=(m,q)/\Bd n q/\1<=m/\m<=n/\UG lt q m:=by
 have b':=b.rev 0 k
 have ha:UG lt (kas_rev p 0 k) k:=fun i j ig hj=>by
  rw[X4 (by rw[b.size];exact hk) (iD ig hj),X4 (by rw[b.size];exact hk) hj]
  exact h _ _ (tJ hj ig) (tK hj)
 refine MS (NN L b' (n-k) k h1 (aE (hW hk)) ha) fun a1 a2 a3 _=>?_
 refine⟨_,_,Ex _,b',by exact ql (CW _ _) [(Af,Aj),(qI,Af)] qI Aj rfl a1 h1,by exact tL hk a2,a3⟩
theorem Ux(L:XI lt n)(b:Bd n p):∃ m q,BR lt (kas_count n p)=(m,q)/\Bd n q/\1<=m/\m<=n/\UG lt q m:=by
 have hp:=b.pos
 have a0:UG lt p 1:=fun i j h k=>absurd (aP h (dI k)) (fV i)
 refine MS (NN L b (n-1) 1 (aS _) (tM hp) a0) fun a1 a2 a3 a4=>?_
 have e:BR lt (kas_count n p)=_:=Ex (kas_asc p (n-1) 1)
 rw[e]
 generalize BR lt (kas_asc p (n-1) 1)=r at a1 a2 a3 a4
 by_cases hr:r=n
 ·subst hr
  exact⟨r,p,by rw[if_pos (beq_self_eq_true r)];rfl,b,a1,aS _,a3⟩
 ·rw[if_neg (by simpa using hr)]
  by_cases h2:r > 1
  ·rw[if_pos h2]
   have hc:=a3 0 (r-1) (ql (CW _ _) [((qA qI qI),Af),(Af,Ee)] (qA (qN 0) qI) Aj rfl h2 SM) (tN h2)
   refine⟨r,p,?_,b,a1,by exact ql (Ck _ _ _) [(Af,(qA qI Aj)),(Ee,AA)] Af AA rfl a2 (aE (bI (ql (Ck _ _ _) [((qA qI qI),Af),(Af,(qA qI Aj)),(Aj,AA)] qI AA rfl h2 a2 (dH _ _)))),a3⟩
   show BR lt (if lt (D6 p 0) (D6 p (r-1))=true then _ else _)=_
   rw[hc];rfl
  ·rw[if_neg h2]
   have u0:r=1:=by exact bM (ql (IG _) [(Af,qI)] Af qI rfl (bK h2)) (ql (IG _) [(qI,Af)] qI Af rfl a1)
   subst u0
   have hq:=a4.resolve_left (tO hp hr)
   have d1:Uw lt p 1:=fun i j h k=>absurd (aP h (dI k)) (fV i)
   have d2:=MG L b d1 (aS _) ((eJ hr).elim (fun g0=>ql (IG _) [((qA qI qI),Af)] (qA qI qI) Af rfl g0) (fun g0=>ql (IG _) [((qA (qN 0) qI),Af),((qA (qN 0) qI),Af),(BP,qI)] (qA qI qI) Af rfl hp hp g0)) hq
   refine BT (Pr L b (n-(1+1)) (1+1) (bF rfl) (tP hp hr) d2) fun k e1 k1 k2 k3=>?_
   refine Av (X5 L b (k:=k) (n7 k1 rfl) (tQ k2 hp hr) k3) fun m q t1 t2=>?_
   refine⟨m,q,?_,t2⟩
   unfold kas_descPart
   rw[Ex,e1]
   exact t1
theorem J8(L:XI lt n)(b:Bd n p)(hk:k<n)(h:UG lt p k):∀ f l r,r-l<=f->l<=r->r<=k->(∀ i,i<l->lt (D6 p i) (D6 p k)=true)->(∀ i,r<=i->i<k->lt (D6 p k) (D6 p i)=true) ->
  BR lt (kas_place p k f l r)<=k/\(∀ i,i<BR lt (kas_place p k f l r)->lt (D6 p i) (D6 p k)=true)/\(∀ i,BR lt (kas_place p k f l r)<=i->i<k->lt (D6 p k) (D6 p i)=true)
 | 0,l,r,hf,hl,hr,h1,h2=>⟨by show l<=k;exact aR hl hr,h1,fun i hi jx=>h2 i (by have t0:l<=i:=hi;exact ql (Es _ _ _ _) [(Af,Aj),(AA,(qN 0)),(CS,(qA AA Af))] CS Aj rfl t0 hf SM) jx⟩
 | f+1,l,r,hf,hl,hr,h1,h2=>by
  unfold kas_place
  by_cases hlr:l >= r
  ·rw[if_pos hlr]
   exact⟨by show l<=k;exact aR hl hr,h1,fun i hi jx=>h2 i (by have t1:l<=i:=hi;exact ql (Ck _ _ _) [(Af,Aj),(AA,Af)] AA Aj rfl t1 hlr) jx⟩
  ·rw[if_neg hlr]
   generalize hm:(l+r) / 2=m
   have u1:l<=m:=by exact tR hm hlr
   have u0:m<r:=by exact tS hm hlr
   show BR lt (if lt (D6 p k) (D6 p m)=true then _ else _)<=k/\(∀ i,i<BR lt (if lt (D6 p k) (D6 p m)=true then _ else _)->_)/\(∀ i,BR lt (if lt (D6 p k) (D6 p m)=true then _ else _)<=i->_)
   rcases hq:lt (D6 p k) (D6 p m) with _|_
   case true=>
    exact J8 L b hk h f l m (tT u0 hf) u1 (dY (aP u0 hr)) h1 fun i hi jx=>by
     by_cases e:i=m
     ·rw[e];exact hq
     ·exact L.tr _ _ _ (b.get _) (b.get _) (b.get _) hq (h m i (eK hi (gF e)) jx)
   case false=>
    have u2:lt (D6 p m) (D6 p k)=true:=L.tot _ _ (b.get _) (b.get _) (b.ne hk (ql (Es _ _ _ _) [(BP,Aj),(HC,CS),(Aj,AA)] BP CS rfl u0 hk hr) (gG (aP u0 hr))) hq
    exact J8 L b hk h f (m+1) r (tU u1 hf) (u0) hr (fun i hi=>by
     by_cases e:i=m
     ·rw[e];exact u2
     ·exact L.tr _ _ _ (b.get _) (b.get _) (b.get _) (h i m (eK (dI hi) e) (aP u0 hr)) u2) h2
theorem MH(hk:k<p.size)(hl:l<=k):D6 (bubble p k (k-l)) i=if i=l then D6 p k else if l<i/\i<=k then D6 p (i-1) else D6 p i:=by
 have t0:=getElem?_bubble hk (k-l) (dH _ _) i
 rw[show k-(k-l)=l by exact Nat.sub_sub_self hl] at t0
 rw[D6,cD,t0]
 by_cases h1:i=l
 ·rw[if_pos h1,if_pos h1,D6,cD]
 ·rw[if_neg h1,if_neg h1]
  by_cases h2:l<i/\i<=k
  ·rw[if_pos h2,if_pos h2,D6,cD]
  ·rw[if_neg h2,if_neg h2,D6,cD]
theorem Sv(L:XI lt n):∀ f (p:Array Nat) k,Bd n p->1<=k->k+f=n->UG lt p k->UG lt (BR lt (kas_bin f p k)) n
 | 0,p,k,b,_,hk,h=>by rw[<- hk];exact h
 | f+1,p,k,b,h1,hk,h=>by
  have e:BR lt (kas_bin (f+1) p k)=BR lt (kas_bin f (bubble p k (k-BR lt (kas_place p k k 0 k))) (k+1)):=Ex _
  refine JZ (J8 L b (show k<n by exact nQ hk) h k 0 k (dH _ _) (bE _) (aS _) (fun i hi=>absurd hi (fV _)) (fun i hi jx=>absurd jx (dP hi))) fun x1 x2 x3=>?_
  rw[e]
  generalize BR lt (kas_place p k k 0 k)=l at x1 x2 x3
  refine Sv L f _ (k+1) (b.perm (bubble_perm ..)) (bF rfl) (bM (ql (Ck _ _ _) [((qA Af Ee),AA)] (qA BP Aj) AA rfl (aE hk)) (ql (Ck _ _ _) [(AA,(qA Af Ee))] AA (qA BP Aj) rfl (aE (bO hk)))) fun i j ig hj=>?_
  have hs:k<p.size:=by rw[b.size];exact nQ hk
  rw[MH hs x1,MH hs x1]
  by_cases i1:i=l
  ·rw[if_pos i1,if_neg (by exact fun g=>qf (Ck _ _ _) [(BP,Aj),(AA,Af),(Aj,AA)] rfl ig (aE (bO i1)) (aE g)),if_pos (by exact tV ig hj i1)]
   exact x3 _ (ql (Es _ _ _ _) [(BP,Aj),(AA,Af),(Aj,PK)] AA CS rfl ig (aE (bO i1)) SM) (tW ig hj)
  ·rw[if_neg i1]
   by_cases j1:j=l
   ·rw[if_pos j1,if_neg (tX ig j1)]
    exact x2 i (rV ig j1)
   ·rw[if_neg j1]
    by_cases i2:l<i/\i<=k
    ·rw[if_pos i2,if_pos (tY ig hj i2)]
     exact h _ _ (tZ ig i2) (uA hj i2)
    ·rw[if_neg i2]
     by_cases j2:l<j/\j<=k
     ·rw[if_pos j2]
      by_cases e2:i=j-1
      ·exact absurd ⟨eK (e2▸Nat.le_sub_one_of_lt j2.1) (gF i1),dY (aP ig j2.2)⟩ i2
      ·exact h _ _ (jV ig e2) (uC j2)
     ·rw[if_neg j2]
      exact h _ _ ig (uD hj x1 j1 j2)
theorem X6(L:XI lt n)(hn:0<n):UG lt (BR lt (kas_sort n)) n:=by
 refine JF (Ux L (p:=(List.range n).toArray) ⟨hn,List.Perm.refl _⟩) fun m q e b h1 h2 ha=>?_
 have e2:BR lt (kas_sort n)=_:=Ex (kas_count n (List.toArray (List.range n)))
 rw[e2,e]
 dsimp only
 split
 ·have hm:max m 1=m:=by exact Nat.max_eq_left h1
  rw[hm]
  exact Sv L _ _ _ b h1 (hW h2) ha
 ·rename_i hk
  have t0:m=n:=bM h2 (bK hk)
  subst t0
  exact ha
end
noncomputable def HA(ks:List (Int×Int)):List (Int×Int):=if ks.length<2 then ks else (EV ks).map (Jv ks)
theorem mB(h1:Cb a b=true)(h2:Cb b c=true):Cb a c=true:=by
 unfold Cb at *
 simp only[dN,aG,decide_eq_true_eq] at *
 exact uE h2 h1
theorem Z1(h:a≠b)(h1:Cb a b=false):Cb b a=true:=by
 have h:¬ (a.1=b.1/\a.2=b.2):=fun q=>h (Prod.ext q.1 q.2)
 unfold Cb at *
 simp only[dN,aG,decide_eq_true_eq,fP,Bool.and_eq_false_iff,decide_eq_false_iff_not] at *
 exact uF h1 h
theorem Ps(h1:Cb a b=true)(h2:Cb b a=true):False:=by
 unfold Cb at *
 simp only[dN,aG,decide_eq_true_eq] at *
 exact uG h2 h1
theorem R6(hi:i<ks.length):Jv ks i=ks[i]:=by
 unfold Jv
 rw[cV,aF hi];rfl
theorem Z2(nd:ks.Nodup):XI (fun i j=>Cb (Jv ks i) (Jv ks j)) ks.length:=
 ⟨fun i j k _ _ _ h1 h2=>mB h1 h2,fun i j hi hj hne h=>Z1 (fun e=>by
  rw[R6 hi,R6 hj] at e
  exact hne ((dW hi nd).mp (by rw[aF hi,aF hj,e]))) h⟩
theorem Lu(nd:ks.Nodup):(HA ks).Pairwise fun a b=>Cb a b=true:=by
 unfold HA
 split
 ·rename_i h
  match ks,h with
  | [],_=>exact .nil
  | [a],_=>exact dE _ _
  | _ :: _ :: _,h=>exact absurd h (by simp)
 ·rename_i h
  have A:=X6 (Z2 nd) (ZX h)
  have b:=(Hb (n:=ks.length) (ZX h)).run (lt:=fun i j=>Cb (Jv ks i) (Jv ks j))
  rw[List.pairwise_map,List.pairwise_iff_getElem]
  intro i j hi hj ig
  have hs:=b.size
  have u0:j<ks.length:=by rw[<- hs,<- bH];exact hj
  have h1:=A i j ig u0
  have g:∀ k (hk:k<(EV ks).length),(EV ks)[k]=D6 (BR (fun i j=>Cb (Jv ks i) (Jv ks j)) (kas_sort ks.length)) k:=fun k hk=>by
   refine(R5 ?_).symm
   rw[<- bJ]
   exact aF hk
  rw[g i hi,g j hj]
  exact h1
theorem G2:(HA ks).Perm ks:=by
 unfold HA
 split
 ·exact .refl _
 ·rename_i hk
  have t0:=(Qf (ps:=ks) (aP Nat.zero_lt_two (bK hk))).map (Jv ks)
  refine t0.trans (.of_eq ?_)
  refine List.ext_getElem? fun i=>?_
  rw[aK]
  by_cases hi:i<ks.length
  ·rw[List.getElem?_range hi,aF hi]
   exact congrArg some (R6 hi)
  ·rw[cR (by rw[eU];exact bK hi),cR (bK hi)];rfl
theorem mV(hp:ks.Perm js)(nd:ks.Nodup):HA ks=HA js:=
 List.Perm.eq_of_pairwise (fun a b _ _ h1 h2=>(Ps h1 h2).elim) (Lu nd) (Lu (hp.nodup_iff.mp nd)) (G2.trans (hp.trans G2.symm))
end
section
open PySem
noncomputable def LU(T:Tb)(d e:Nat):List (Str×AV):=[("things",.loc e),("standing",.loc d),("second",.int T.s),("first",.int T.f),("count",.int T.c)]
structure CF (h:A0) (t:Nat) (T:Tb) (d e:Nat):Prop where
 inst:∃ k,h[t]?=some (.inst k)/\h[k]?=some (.ns (LU T d e))
section
variable {h h':A0} {b t d e:Nat} {T:Tb}
theorem CF.at(x:CF h t T d e):FH h t=some (LU T d e):=by
 refine A9 x.inst fun k h1 h2=>?_
 delta FH;rw[h1];dsimp only;rw[h2]
theorem CF.attr(x:CF h t T d e){a:Str}{v:AV}(hv:(LU T d e).lookup a=some v):Ef a (.loc t) h=.ok v h:=by
 show Ey ((FH h t).bind fun fs=>fs.lookup a) h=_
 rw[x.at,aW,hv];rfl
theorem CF.cnt(x:CF h t T d e):Ef "count" (.loc t) h=.ok (.int T.c) h:=x.attr rfl
theorem CF.fst(x:CF h t T d e):Ef "first" (.loc t) h=.ok (.int T.f) h:=x.attr rfl
theorem CF.snd(x:CF h t T d e):Ef "second" (.loc t) h=.ok (.int T.s) h:=x.attr rfl
theorem CF.std(x:CF h t T d e):Ef "standing" (.loc t) h=.ok (.loc d) h:=x.attr rfl
theorem CF.thg(x:CF h t T d e):Ef "things" (.loc t) h=.ok (.loc e) h:=x.attr rfl
theorem CF.meth(x:CF h t T d e){m:Str}(hm:((LU T d e).lookup m).isNone=true):FJ m (.loc t) h=true:=by
 delta FJ;dsimp only;rw[x.at];exact hm
theorem CF.set(x:CF h t T d e){j ep:Nat}{kvs:List (Bc×AV)}{o:Ay}(hj:h[j]?=some (.dict kvs ep)):CF (h.set j o) t T d e:=by
 refine A9 x.inst fun m h1 h2=>?_
 refine⟨m,Bm h1 (fun q=>?_),Bm h2 (fun q=>?_)⟩
 ·subst q;rw[h1] at hj;cases hj
 ·subst q;rw[h2] at hj;cases hj
structure G3 (b:Nat) (h:A0) (t:Nat) (T:Tb) (es:List En) (d e:Nat):Prop where
 tab:CF h t T d e
 fd:∃ ep,h[d]?=some (.dict (FC es) ep)
 fe:∃ ep,h[e]?=some (.dict (JC es) ep)
 ne:d≠e
 bd:b<=d
 be:b<=e
 ok:T.Ok
 eo:Ga T es
 len:es.length<=60
theorem G3.keep{es:List En}(S:G3 b h t T es d e)(K:Kp h.length h h'):G3 b h' t T es d e:=
 ⟨A9 S.tab.inst fun k h1 h2=>⟨k,K.all h1,K.all h2⟩,S.fd.imp fun _ q=>K.all q,S.fe.imp fun _ q=>K.all q,S.ne,S.bd,S.be,S.ok,S.eo,S.len⟩
end
section
variable {p:AI} {n:Nat} {h:A0} {b t d e:Nat} {T:Tb} {es:List En}
theorem X7{fs fs':List (Str×AV)}{g:A0}:(h++.ns fs :: g).set h.length (.ns fs')=h++.ns fs' :: g:=by
 rw[gK _ _ (aS _),iB];rfl
theorem X8{a:Str}{v:AV}{fs:List (Str×AV)}{g:A0}:Fn a (.loc (h.length+1)) v (h++.ns fs :: .inst h.length :: g)=some (h++.ns ((a,v) :: fs) :: .inst h.length :: g):=by
 have h1:(h++.ns fs :: .inst h.length :: g)[h.length+1]?=some (.inst h.length):=by rw[cU (by exact fZ _),Nat.add_sub_cancel_left];rfl
 have h2:(h++.ns fs :: .inst h.length :: g)[h.length]?=some (.ns fs):=by rw[cU (aS _),iB];rfl
 show (SU _ _).map _=_
 delta SU;rw[h1];dsimp only;rw[h2]
 show some (List.set _ _ _)=_
 rw[X7]
theorem Pt(H:CQ p)(ok:T.Ok):AD p (n+2) false "__init__" [.loc (h.length+1),.int T.c,.int T.f,.int T.s] (HD h) =
  .ok .none (h++[.ns (LU T (h.length+2) (h.length+3)),.inst h.length,.dict [] 0,.dict [] 0]):=by
 refine A9 (BA (n:=n+1) (h:=HD h) H.init (as:=[.loc (h.length+1),.int T.c,.int T.f,.int T.s]) rfl) fun F hF e=>?_
 have em:HD h=h++.ns [] :: .inst h.length :: []:=rfl
 have l1:∀ a b:Ay,(h++a :: b :: []).length=h.length+2:=fun a b=>by rw[aC];rfl
 have l2:∀ a b c:Ay,(h++a :: b :: c :: []).length=h.length+3:=fun a b c=>by rw[aC];rfl
 rw[e,em]
 simp only[Lj,C1,Eg,Hq,UW,Gm,BO,Kt,SW,Kv,N6,I7,Gn,CY,aZ,eT,cP,dA,Jz,N4,Cl,Et,Jy,BJ,Kq,cC,if_false,PW,FM,IP,IO,Rt,fU,BE (n:=n) H ok.c1 ok.c2,BE (n:=n) H ok.f1 ok.f2,BE (n:=n) H ok.s1 ok.s2,X8,l1,l2,bC]
 rfl
theorem G3.start(ok:T.Ok):G3 h.length (h++[.ns (LU T (h.length+2) (h.length+3)),.inst h.length,.dict [] 0,.dict [] 0]) (h.length+1) T [] (h.length+2) (h.length+3):=by
 have g:∀ i,(h++[.ns (LU T (h.length+2) (h.length+3)),.inst h.length,.dict [] 0,.dict [] 0])[h.length+i]?=([.ns (LU T (h.length+2) (h.length+3)),.inst h.length,.dict [] 0,.dict [] 0]:A0)[i]?:=fun i=>by rw[cU (dQ _ _),Nat.add_sub_cancel_left]
 exact⟨⟨h.length,g 1,g 0⟩,⟨0,g 2⟩,⟨0,g 3⟩,by exact fun g=>qf (IG _) [((qA Af (qN 3)),(qA Af (qN 2)))] rfl (aE (bO g)),by exact dQ _ _,by exact dQ _ _,ok,.nil,bE _⟩
theorem NO(H:CQ p)(hT:¬ T.Ok):AD p (n+2) false "__init__" [.loc (h.length+1),.int T.c,.int T.f,.int T.s] (HD h)=.exc "NoNests" (HD h):=by
 refine A9 (BA (n:=n+1) (h:=HD h) H.init (as:=[.loc (h.length+1),.int T.c,.int T.f,.int T.s]) rfl) fun F hF e=>?_
 rw[e]
 by_cases hc:1<=T.c/\T.c<=1000
 ·refine AR ((Aa (Dl (Ac (A4 rfl (A4 rfl (A3 rfl))) (BE (n:=n) H hc.1 hc.2)))).trans (BD rfl ?_))
  by_cases hf:1<=T.f/\T.f<=1000000
  ·refine Bg (Dl (Ac (A4 rfl (A4 rfl (A3 rfl))) (BE (n:=n) H hf.1 hf.2))) (Io (Ac (A4 rfl (A4 rfl (A3 rfl))) (C9 (n:=n) H fun hs=>hT ⟨hc.1,hc.2,hf.1,hf.2,hs.1,hs.2⟩)))
  ·exact JS (Io (Ac (A4 rfl (A4 rfl (A3 rfl))) (C9 (n:=n) H hf)))
 ·exact AR (BD rfl (Io (Ac (A4 rfl (A4 rfl (A3 rfl))) (C9 (n:=n) H hc))))
theorem J9(H:CQ p)(ok:T.Ok)(x:CF h t T d e){nm:Nm}(G:Dp nm):AD p (n+3) false "homes" [.loc t,.str nm] h=.ok (T.homes nm) h:=by
 refine A9 (BA (n:=n+2) (h:=h) H.homes (as:=[.loc t,.str nm]) rfl) fun F hF e=>?_
 rw[e]
 have t0:=ok.c1
 have t1:=ok.f1
 have t2:=ok.f2
 have t3:=ok.s1
 have t4:=ok.s2
 exact AH ((A5 (C2 (Ac (A3 rfl) (Ff (n:=n) H G)))).trans (Ao (AZ (Dz (A4 (Dz (A4 rfl (A3 (Ac (A4 rfl (A4 (AU rfl x.fst) (A3 (AU rfl x.cnt)))) (Pf (n:=n+1) H G (rG t2 t1) (t0))))) (by show 2<=1000;decide)) (A3 (Dz (A4 rfl (A3 (Ac (A4 rfl (A4 (AU rfl x.snd) (A3 (AU rfl x.cnt)))) (Pf (n:=n+1) H G (rG t4 t3) (t0))))) (by show 2<=1000;decide)))) (by show 2<=1000;decide)))))
theorem Fg(H:CQ p)(x:CF h t T d e){s:Fx}(hs:T.In s):AD p (n+2) false "need_nest" [.loc t,sv s] h=.ok .none h:=by
 refine A9 (BA (n:=n+1) (h:=h) H.need_nest (as:=[.loc t,sv s]) rfl) fun F hF e=>?_
 rw[e]
 refine JZ hs fun h1 h2 h3=>?_
 exact(congrArg HF ((Aa (Bg (Dl (EK rfl rfl)) (Al (Bq rfl (A3 rfl) (rfl:CI .len [sv s] h=.ok (.int 2) h)) rfl rfl))).trans (Aa (Bg (Dl (Ac (A4 rfl (A4 rfl (A3 rfl))) (BE (n:=n) H (show 0<=s.1 by exact rH h1) (show s.1<=1 by exact nL h1)))) (Dl (Ac (A4 rfl (A4 rfl (A3 (A8 (AU rfl x.cnt) rfl OU)))) (BE (n:=n) H h2 (show s.2<=T.c-1 by exact jl (DT _ _) [(Ca,BH)] AC (.sub BH jI) rfl h3))))))))
theorem Pu(H:CQ p)(x:CF h t T d e){s:Fx}(hs:¬ T.In s):AD p (n+2) false "need_nest" [.loc t,sv s] h=.exc "NoNest" h:=by
 refine A9 (BA (n:=n+1) (h:=h) H.need_nest (as:=[.loc t,sv s]) rfl) fun F hF e=>?_
 rw[e]
 refine AR ((Aa (Bg (Dl (EK rfl rfl)) (Al (Bq rfl (A3 rfl) (rfl:CI .len [sv s] h=.ok (.int 2) h)) rfl rfl))).trans (BD rfl ?_))
 by_cases h1:0<=s.1/\s.1<=1
 ·exact Bg (Dl (Ac (A4 rfl (A4 rfl (A3 rfl))) (BE (n:=n) H h1.1 h1.2))) (Io (Ac (A4 rfl (A4 rfl (A3 (A8 (AU rfl x.cnt) rfl OU)))) (C9 (n:=n) H fun q=>hs ⟨by exact oQ h1,q.1,by exact jl (DT _ _) [(AC,(.sub BH jI))] Ca BH rfl q.2⟩)))
 ·exact JS (Io (Ac (A4 rfl (A4 rfl (A3 rfl))) (C9 (n:=n) H h1)))
theorem Z3(H:CQ p)(S:G3 b h t T es d e){x:En}(hx:x∈es):AD p (n+3) false "at" [.loc t,sv x.s] h=.ok (.str x.n) h:=by
 refine A9 (BA (n:=n+2) (h:=h) H.at_ (as:=[.loc t,sv x.s]) rfl) fun F hF e=>?_
 rw[e]
 have o:=S.eo.all x hx
 refine xE S.fd fun ep hd=>?_
 refine A9 o.home fun r hr es=>?_
 refine AH ((A5 (C2 (CD rfl (S.tab.meth rfl) (A3 rfl) (Fg (n:=n) H S.tab (by rw[es];exact Tb.hm_in S.ok o.good hr))))).trans (Ao (AZ (F2 (AU rfl S.tab.std) (Pk hd) (A3 rfl) ?_))))
 show Ji (.loc d) [sv x.s] h=_
 delta Ji;dsimp only
 rw[CK hd]
 show Ey (O5 (FC _) (some (kS x))) h=_
 delta O5;dsimp only
 rw[FC,if_pos (DA (f:=kS) (k:=kS x) fun _=>rfl),Sn S.eo.nds hx];rfl
inductive Uy (T:Tb) (es:List En) (x:En):Str->Prop
 | name (hs:∀ c∈x.n,c<128) (hl:x.n.length<=3000) (h:¬ Dp x.n):Uy T es x "NoName"
 | value (G:Dp x.n) (h:¬ (-1000000000<=x.v/\x.v<=1000000000)):Uy T es x "NoValue"
 | twice (G:Dp x.n) (h1:-1000000000<=x.v) (h2:x.v<=1000000000) (h:kN x∈es.map kN):Uy T es x "Twice"
 | nest (G:Dp x.n) (h1:-1000000000<=x.v) (h2:x.v<=1000000000) (hn:kN x∉es.map kN) (h:¬ T.In x.s):Uy T es x "NoNest"
 | home (G:Dp x.n) (h1:-1000000000<=x.v) (h2:x.v<=1000000000) (hn:kN x∉es.map kN) (hi:T.In x.s) (h:x.s∉[T.hm x.n 0,T.hm x.n 1]):Uy T es x "NoHome"
 | taken (o:JD T x) (hn:kN x∉es.map kN) (h:kS x∈es.map kS):Uy T es x "Taken"
theorem JD.in{x:En}(o:JD T x)(ok:T.Ok):T.In x.s/\x.s∈[T.hm x.n 0,T.hm x.n 1]:=by
 refine A9 o.home fun r hr es=>?_
 rw[es]
 exact⟨Tb.hm_in ok o.good hr,by rcases hr with rfl|rfl<;>simp⟩
theorem G3.inN(S:G3 b h t T es d e){nm:Nm}:B9 h .isin (.str nm) (.loc e)=some (decide (Bc.str nm∈es.map kN)):=by
 refine xE S.fe fun ep he=>?_
 rw[OW he (Eo nm) (DA fun _=>rfl),JC,NG]
theorem G3.inS(S:G3 b h t T es d e){s:Fx}:B9 h .isin (sv s) (.loc d)=some (decide (kp s∈es.map kS)):=by
 refine xE S.fd fun ep he=>?_
 rw[OW he (J3 s) (DA fun _=>rfl),FC,NG]
theorem Z4(H:CQ p)(S:G3 b h t T es d e){x:En}{k:Str}(B:Uy T es x k):AD p (n+4) false "put_at" [.loc t,.str x.n,.int x.v,sv x.s] h=.exc k h:=by
 refine A9 (BA (n:=n+3) (h:=h) H.put_at (as:=[.loc t,.str x.n,.int x.v,sv x.s]) rfl) fun F hF e1=>?_
 rw[e1]
 have s1:Dp x.n->AQ (cF p (n+3) F) (.expr (.call "need_name" (.cons (.loc 1) .nil))) [some (.loc t),some (.str x.n),some (.int x.v),some (sv x.s)] h=.ok .next [some (.loc t),some (.str x.n),some (.int x.v),some (sv x.s)] h:=fun G=>C2 (Ac (A3 rfl) (Ff (n:=n+1) H G))
 have s2:-1000000000<=x.v->x.v<=1000000000->AQ (cF p (n+3) F) (.expr (.call "need_value" (.cons (.loc 2) .nil))) [some (.loc t),some (.str x.n),some (.int x.v),some (sv x.s)] h=.ok .next [some (.loc t),some (.str x.n),some (.int x.v),some (sv x.s)] h:=fun h1 h2=>C2 (Ac (A3 rfl) (GV (n:=n+1) H h1 h2))
 have s3:kN x∉es.map kN->A1 (cF p (n+3) F) (.cmp .isin (.loc 1) (.attr "things" (.loc 0))) [some (.loc t),some (.str x.n),some (.int x.v),some (sv x.s)] h=.ok (.bool false) h:=fun hn=>Al rfl (AU rfl S.tab.thg) (S.inN.trans (by rw[decide_eq_false (show Bc.str x.n∉_ from hn)]))
 have s4:T.In x.s->AQ (cF p (n+3) F) (.expr (.im "need_nest" (.loc 0) (.cons (.loc 3) .nil))) [some (.loc t),some (.str x.n),some (.int x.v),some (sv x.s)] h=.ok .next [some (.loc t),some (.str x.n),some (.int x.v),some (sv x.s)] h:=fun hi=>C2 (CD rfl (S.tab.meth rfl) (A3 rfl) (Fg (n:=n+1) H S.tab hi))
 have s5:Dp x.n->A1 (cF p (n+3) F) (.cmp .notin (.loc 3) (.im "homes" (.loc 0) (.cons (.loc 1) .nil))) [some (.loc t),some (.str x.n),some (.int x.v),some (sv x.s)] h=.ok (.bool (!decide (x.s∈[T.hm x.n 0,T.hm x.n 1]))) h:=fun G=>Al rfl (CD rfl (S.tab.meth rfl) (A3 rfl) (J9 (n:=n) H S.ok S.tab G)) (Mx (w:=[T.hm x.n 0,T.hm x.n 1]))
 cases B with
 | name hs hl hg=>exact AR (Eh (Fv (Ac (A3 rfl) (Pg (n:=n+1) H hs hl hg))))
 | value G hv=>exact AR ((A5 (s1 G)).trans (Eh (Fv (Ac (A3 rfl) (ND (n:=n+1) H hv)))))
 | twice G h1 h2 hn=>exact AR ((A5 (s1 G)).trans ((A5 (s2 h1 h2)).trans (BD rfl (Al rfl (AU rfl S.tab.thg) (S.inN.trans (by rw[decide_eq_true (show Bc.str x.n∈_ from hn)]))))))
 | nest G h1 h2 hn hi=>exact AR ((A5 (s1 G)).trans ((A5 (s2 h1 h2)).trans ((Aa (s3 hn)).trans (Eh (Fv (CD rfl (S.tab.meth rfl) (A3 rfl) (Pu (n:=n+1) H S.tab hi)))))))
 | home G h1 h2 hn hi hh=>exact AR ((A5 (s1 G)).trans ((A5 (s2 h1 h2)).trans ((Aa (s3 hn)).trans ((A5 (s4 hi)).trans (BD rfl ((s5 G).trans (by rw[decide_eq_false hh];rfl)))))))
 | taken o hn hs=>exact AR ((A5 (s1 o.good)).trans ((A5 (s2 o.v1 o.v2)).trans ((Aa (s3 hn)).trans ((A5 (s4 (o.in S.ok).1)).trans ((Aa ((s5 o.good).trans (by rw[decide_eq_true (o.in S.ok).2];rfl))).trans (BD rfl (Al rfl (AU rfl S.tab.std) (S.inS.trans (by rw[decide_eq_true (show kp x.s∈_ from hs)])))))))))
theorem G4(H:CQ p)(S:G3 b h t T es d e){x:En}(o:JD T x)(hn:kN x∉es.map kN)(hs:kS x∉es.map kS)(hl:es.length<60):∃ h',AD p (n+4) false "put_at" [.loc t,.str x.n,.int x.v,sv x.s] h=.ok .none h'/\G3 b h' t T (es++[x]) d e/\Kp b h h'/\∀ (i:Nat) o,i≠d->i≠e->h[i]?=some o->h'[i]?=some o:=by
 refine A9 (BA (n:=n+3) (h:=h) H.put_at (as:=[.loc t,.str x.n,.int x.v,sv x.s]) rfl) fun F hF e1=>?_
 rw[e1]
 refine aI fun gj=>?_
 refine xE S.fd fun ep1 hd=>?_
 refine xE S.fe fun ep2 he=>?_
 refine xE (Ln (x:=x) (g:=fun e=>AV.str e.n) hd (J3 x.s) (fun _=>rfl) (l5 hl rfl) hs) fun ii u1=>?_
 refine gj ?_
 have u0:(h.set d (.dict (dk kS (fun e=>AV.str e.n) (es++[x])) ii))[e]?=_:=Bm he S.ne
 have x1:=S.tab.set (o:=.dict (dk kS (fun e=>AV.str e.n) (es++[x])) ii) hd
 have u3:(h.set d (.dict (dk kS (fun e=>AV.str e.n) (es++[x])) ii))[d]?=_:=CL hd
 have K1:Kp b h (h.set d (.dict (dk kS (fun e=>AV.str e.n) (es++[x])) ii)):=.set S.bd
 have Q1:∀ (i:Nat) o,i≠d->h[i]?=some o->(h.set d (.dict (dk kS (fun e=>AV.str e.n) (es++[x])) ii))[i]?=some o:=fun i o hi q=>Bm q hi.symm
 generalize h.set d (.dict (dk kS (fun e=>AV.str e.n) (es++[x])) ii)=h1 at u1 u0 x1 u3 K1 Q1
 refine xE (Ln (x:=x) (g:=fun e=>AV.int e.v) u0 (Eo x.n) (fun _=>rfl) (l5 hl rfl) hn) fun ep4 u2=>?_
 refine⟨_,congrArg HF ((A5 (C2 (Ac (A3 rfl) (Ff (n:=n+1) H o.good)))).trans ((A5 (C2 (Ac (A3 rfl) (GV (n:=n+1) H o.v1 o.v2)))).trans
  ((Aa (Al rfl (AU rfl S.tab.thg) (S.inN.trans (by rw[decide_eq_false (show Bc.str x.n∉_ from hn)])))).trans ((A5 (C2 (CD rfl (S.tab.meth rfl) (A3 rfl) (Fg (n:=n+1) H S.tab (o.in S.ok).1)))).trans
  ((Aa (Al rfl (CD rfl (S.tab.meth rfl) (A3 rfl) (J9 (n:=n) H S.ok S.tab o.good)) ((Mx (w:=[T.hm x.n 0,T.hm x.n 1])).trans (by rw[decide_eq_true (o.in S.ok).2];rfl)))).trans ((Aa (Al rfl (AU rfl S.tab.std) (S.inS.trans (by rw[decide_eq_false (show kp x.s∉_ from hs)])))).trans
  ((A5 (Fa rfl (AU rfl S.tab.std) rfl u1)).trans (Ao (Fa rfl (AU rfl x1.thg) rfl u2))))))))),⟨x1.set u0,⟨ii,Bm u3 S.ne.symm⟩,⟨ep4,CL u0⟩,S.ne,S.bd,S.be,S.ok,S.eo.add o hs hn,by rw[aC,bV];exact hl⟩,K1.trans (.set S.be),fun i o h1 h2 q=>Bm (Q1 i o h1 q) h2.symm⟩
end
end
section
open PySem
section
variable {T:Tb} {es fs:List En} {ks:List Fx} {h:A0} {i ep:Nat} {x:En}
theorem X9(hl:ks.length<64):M0 ks=some ((HA ks).map sv):=by
 unfold M0 HA
 split
 ·rfl
 ·rw[cO];rfl
theorem Pv:∀ ks:List Fx,DI Gh (ks.map sv)=some ks
 | []=>rfl
 | s :: r=>by
  show (DI Gh (r.map sv)).bind (fun ps=>some (s :: ps))=_
  rw[Pv r];rfl
noncomputable def Bb(es:List En):List En:=(HA (es.map (·.s))).filterMap fun s=>es.find? fun e=>kp s==kS e
theorem Z5(nd:(es.map kS).Nodup):(es.map (·.s)).Nodup:=by
 rw[show es.map kS=(es.map (·.s)).map kp by rw[cO];rfl] at nd
 exact List.Pairwise.of_map kp (fun a b q e=>q (by rw[e])) nd
theorem DG(nd:(es.map kS).Nodup):(Bb es).Perm es:=by
 refine(G2.filterMap _).trans (.of_eq ?_)
 rw[List.filterMap_map]
 have:∀ fs:List En,(∀ e∈fs,e∈es)->fs.filterMap ((fun s=>es.find? fun e=>kp s==kS e)∘(·.s))=fs:=fun fs=>by
  induction fs with
  | nil=>intro _;rfl
  | cons e r ih=>
   intro hm
   rw[List.filterMap_cons_some (a:=e) (b:=e) (show ((fun s=>es.find? fun e=>kp s==kS e)∘(·.s)) e=some e from NF nd (hm e aH)),ih fun y hy=>hm y (aL _ hy)]
 exact this es fun _ q=>q
theorem MI(nd:(es.map kS).Nodup):(Bb es).map (·.s)=HA (es.map (·.s)):=by
 have:∀ ss:List Fx,(∀ s∈ss,s∈es.map (·.s))->(ss.filterMap fun s=>es.find? fun e=>kp s==kS e).map (·.s)=ss:=fun ss=>by
  induction ss with
  | nil=>intro _;rfl
  | cons s r ih=>
   intro hm
   refine A9 (List.mem_map.mp (hm s aH)) fun e he kf=>?_
   subst kf
   rw[List.filterMap_cons_some (a:=e.s) (b:=e) (show (es.find? fun y=>kp e.s==kS y)=some e from NF nd he),aZ,ih fun y hy=>hm y (aL _ hy)]
 exact this _ fun s hs=>G2.mem_iff.mp hs
theorem Xa(nd:(es.map kS).Nodup):(Bb es).Pairwise fun a b=>Cb a.s b.s=true:=by
 have:=Lu (Z5 nd)
 rw[<- MI nd] at this
 exact List.pairwise_map.mp this
theorem NP(hp:es.Perm fs)(nd:(es.map kS).Nodup):Bb es=Bb fs:=by
 have u0:(fs.map kS).Nodup:=((hp.map kS).nodup_iff).mp nd
 exact List.Perm.eq_of_pairwise (fun a b _ _ h1 h2=>(Ps h1 h2).elim) (Xa nd) (Xa u0) ((DG nd).trans (hp.trans (DG u0).symm))
theorem Fh(nd:(es.map kS).Nodup):x∈Bb es↔x∈es:=(DG nd).mem_iff
theorem Cu(nd:(es.map kS).Nodup):(Bb es).length=es.length:=(DG nd).length_eq
theorem Ja(hw:Ch h i=some (es.map fun e=>sv e.s))(nd:(es.map kS).Nodup)(hl:es.length<64):CI .sorted [.loc i] h=.ok (.loc h.length) (h++[.list ((Bb es).map fun e=>sv e.s)]):=by
 refine BF (o:=O3 h i) ?_ (AM (by rw[aB,Cu nd];exact l5 hl rfl))
 have e1:(es.map fun e=>sv e.s)=(es.map (·.s)).map sv:=by rw[cO];rfl
 delta O3
 rw[hw,aW,e1,Pv,aW,X9 (by rw[aB];exact hl),<- MI nd,cO];rfl
noncomputable def Dg(es:List En)(x:En):List En:=es.filter fun y=>!(kS y==kS x)
theorem JX{κ:Type}[BEq κ][LawfulBEq κ]{f:En->κ}(nd:(es.map f).Nodup){y:En}(hx:x∈es)(hy:y∈es)(e:f y=f x):y=x:=by
 induction es with
 | nil=>cases hx
 | cons z r ih=>
  rw[aZ,dM] at nd
  rcases List.mem_cons.mp hx with q1|q1<;>rcases List.mem_cons.mp hy with q2|q2
  ·rw[q1,q2]
  ·exact absurd (List.mem_map.mpr ⟨y,q2,e.trans (by rw[q1])⟩) nd.1
  ·exact absurd (List.mem_map.mpr ⟨x,q1,e.symm.trans (by rw[q2])⟩) nd.1
  ·exact ih nd.2 q1 q2
theorem Ga.out(O:Ga T es)(hx:x∈es):(es.filter fun y=>!(kN y==kN x))=Dg es x:=List.filter_congr fun y hy=>by
 by_cases e:y=x
 ·subst e;rw[beq_self_eq_true,beq_self_eq_true]
 ·rw[beq_eq_false_iff_ne.mpr fun q=>e (JX O.ndn hx hy q),beq_eq_false_iff_ne.mpr fun q=>e (JX O.nds hx hy q)]
theorem Ga.sub{fs:List En}(O:Ga T es)(s:fs.Sublist es):Ga T fs:=⟨O.nds.sublist (s.map _),O.ndn.sublist (s.map _),fun e he=>O.all e (s.subset he)⟩
end
section
variable {p:AI} {n:Nat} {h:A0} {b t d e:Nat} {T:Tb} {es:List En} {x:En}
theorem G3.notN(S:G3 b h t T es d e){nm:Nm}:B9 h .notin (.str nm) (.loc e)=some (!decide (Bc.str nm∈es.map kN)):=congrArg (Option.map not) S.inN
theorem GY(H:CQ p)(S:G3 b h t T es d e)(hx:x∈es):AD p (n+1) false "need_there" [.loc t,.str x.n] h=.ok .none h:=by
 refine A9 (BA (n:=n) (h:=h) H.need_there (as:=[.loc t,.str x.n]) rfl) fun F hF e=>?_
 rw[e]
 exact congrArg HF (Aa (Bg (Dl (EK rfl rfl)) (Al rfl (AU rfl S.tab.thg) (S.notN.trans (by rw[decide_eq_true (show Bc.str x.n∈es.map kN from List.mem_map.mpr ⟨x,hx,rfl⟩)];rfl)))))
theorem MJ(H:CQ p)(S:G3 b h t T es d e)(hx:x∈es):AD p (n+2) false "value" [.loc t,.str x.n] h=.ok (.int x.v) h:=by
 refine A9 (BA (n:=n+1) (h:=h) H.value (as:=[.loc t,.str x.n]) rfl) fun F hF e=>?_
 rw[e]
 refine xE S.fe fun ep he=>?_
 exact AH ((A5 (C2 (CD rfl (S.tab.meth rfl) (A3 rfl) (GY (n:=n) H S hx)))).trans (Ao (AZ (An (AU rfl S.tab.thg) rfl (Lq he S.eo.ndn hx)))))
theorem MK(H:CQ p)(S:G3 b h t T es d e)(hx:x∈es):AD p (n+4) false "where" [.loc t,.str x.n] h=.ok (sv x.s) h:=by
 refine A9 (BA (n:=n+3) (h:=h) H.wher (as:=[.loc t,.str x.n]) rfl) fun F hF e=>?_
 rw[e]
 have o:=S.eo.all x hx
 refine xE S.fd fun ep hd=>?_
 have eg:∀ s:Fx,Cq .get (.loc d) [sv s] h=.ok (((FC es).lookup (kp s)).getD .none) h:=fun s=>by
  show Ji (.loc d) [sv s] h=_
  delta Ji;dsimp only
  rw[CK hd]
  show Ey (O5 (FC es) (some (kp s))) h=_
  delta O5;dsimp only
  rw[if_pos (show Be (FC es) (kp s)=true from DA (f:=kS) fun _=>rfl)];rfl
 have u0:∀ {r:Bool},B9 h .eq (((FC es).lookup (kp (T.hm x.n 0))).getD .none) (.str x.n)=some r->A1 (cF p (n+3) F) (.cmp .eq (.bm .get (.attr "standing" (.loc 0)) (.cons (.loc 2) .nil)) (.loc 1)) [some (.loc t),some (.str x.n),some (sv (T.hm x.n 0)),some (sv (T.hm x.n 1))] h=.ok (.bool r) h:=fun q=>Al (F2 (AU rfl S.tab.std) (Pk hd) (A3 rfl) (eg _)) rfl q
 have s1:=A5 (c:=cF p (n+3) F) (r:=(.cons (.asgt [2,3] (.im "homes" (.loc 0) (.cons (.loc 1) .nil))) (.cons (.iff (.cmp .eq (.bm .get (.attr "standing" (.loc 0)) (.cons (.loc 2) .nil)) (.loc 1)) (.cons (.ret (.loc 2)) .nil) .nil) (.cons (.ret (.loc 3)) .nil)))) (C2 (CD (c:=cF p (n+3) F) (l:=[some (.loc t),some (.str x.n),none,none]) (m:="need_there") (o:=.loc 0) rfl (S.tab.meth rfl) (A3 (x:=.loc 1) rfl) (GY (n:=n+2) H S hx)))
 have s2:=s1.trans (A5 (Nz (l':=[some (.loc t),some (.str x.n),some (sv (T.hm x.n 0)),some (sv (T.hm x.n 1))]) rfl (CD rfl (S.tab.meth rfl) (A3 rfl) (J9 (n:=n) H S.ok S.tab o.good)) rfl))
 refine A9 o.home fun r hr hs=>?_
 by_cases h0:r=0
 ·subst h0
  rw[hs]
  exact AH (s2.trans (JT (u0 (by rw[<- hs,show kp x.s=kS x from rfl,FC,Sn S.eo.nds hx];exact Sr rfl)) rfl))
 ·have h1:r=1:=hr.resolve_left h0
  subst h1
  rw[hs]
  refine AH (s2.trans ((Aa (u0 ?_)).trans (Ao (AZ rfl))))
  rw[FC,Ph]
  rcases hf:es.find? (fun y=>kp (T.hm x.n 0)==kS y) with _|y
  ·rfl
  ·have hy:=eQ hf
   have hk:kp (T.hm x.n 0)=kS y:=cA (hP (p:=fun y=>kp (T.hm x.n 0)==kS y) hf)
   show B9 h .eq (.str y.n) (.str x.n)=_
   rw[Ww,decide_eq_false fun q=>?_]
   have:=JX S.eo.ndn hx hy (congrArg Bc.str q)
   subst this
   have:=WR hk
   rw[hs] at this
   exact absurd (congrArg Prod.fst this) (by show (0:Int)≠1;decide)
theorem NQ(H:CQ p)(S:G3 b h t T es d e)(hx:x∈es):∃ h',AD p (n+5) false "take_out" [.loc t,.str x.n] h=.ok (.int x.v) h'/\G3 b h' t T (Dg es x) d e/\Kp b h h':=by
 refine A9 (BA (n:=n+4) (h:=h) H.take_out (as:=[.loc t,.str x.n]) rfl) fun F hF e1=>?_
 rw[e1]
 refine aI fun gj=>?_
 refine xE S.fd fun ep1 hd=>?_
 refine xE S.fe fun ep2 he=>?_
 refine xE (WM (x:=x) hd (J3 x.s) (fun _=>rfl) S.eo.nds hx) fun ii u1=>?_
 refine gj ?_
 have u0:(h.set d (.dict (dk kS (fun e=>AV.str e.n) (Dg es x)) ii))[e]?=_:=Bm he S.ne
 have x1:=S.tab.set (o:=.dict (dk kS (fun e=>AV.str e.n) (Dg es x)) ii) hd
 have u3:(h.set d (.dict (dk kS (fun e=>AV.str e.n) (Dg es x)) ii))[d]?=_:=CL hd
 have K1:Kp b h (h.set d (.dict (dk kS (fun e=>AV.str e.n) (Dg es x)) ii)):=.set S.bd
 have u1:Cq .pop (.loc d) [sv x.s] h=.ok (.str x.n) (h.set d (.dict (dk kS (fun e=>AV.str e.n) (Dg es x)) ii)):=u1
 generalize h.set d (.dict (dk kS (fun e=>AV.str e.n) (Dg es x)) ii)=h1 at u1 u0 x1 u3 K1
 refine xE (WM (x:=x) u0 (Eo x.n) (fun _=>rfl) S.eo.ndn hx) fun ep4 u2=>?_
 rw[S.eo.out hx] at u2
 refine⟨_,AH ((A5 (Ak (CD rfl (S.tab.meth rfl) (A3 rfl) (MK (n:=n) H S hx)))).trans ((A5 (C2 (F2 (AU rfl S.tab.std) (Pl hd) (A3 rfl) u1))).trans (Ao (AZ (F2 (AU rfl x1.thg) (Pl u0) (A3 rfl) u2))))),⟨x1.set u0,⟨ii,Bm u3 S.ne.symm⟩,⟨ep4,CL u0⟩,S.ne,S.bd,S.be,S.ok,S.eo.sub List.filter_sublist,aR (cZ _ _) S.len⟩,K1.trans (.set S.be)⟩
theorem Xb(H:CQ p)(S:G3 b h t T es d e):AD p (n+1) false "many" [.loc t] h=.ok (.int es.length) h:=by
 refine A9 (BA (n:=n) (h:=h) H.many (as:=[.loc t]) rfl) fun F hF e=>?_
 rw[e]
 refine xE S.fe fun ep he=>?_
 exact AH (Ao (AZ (Bq rfl (A3 (AU rfl S.tab.thg)) (by rw[Pi he,JC,Lm]))))
theorem G3.walk(S:G3 b h t T es d e):Ch h d=some (es.map fun e=>sv e.s):=xE S.fd fun ep hd=>NH hd
theorem ML(H:CQ p)(S:G3 b h t T es d e):∃ i h',AD p (n+1) false "names" [.loc t] h=.ok (.loc i) h'/\h'[i]?=some (.list ((Bb es).map fun e=>.str e.n))/\Kp h.length h h'/\h.length<=i:=by
 refine A9 (BS (n:=n) (h:=h) H.names (as:=[.loc t]) [some (.loc t)] rfl rfl) fun F hF e=>?_
 rw[e]
 have hl:=S.len
 have hs:=Ja S.walk S.eo.nds (l4 hl rfl)
 have S1:=S.keep (h':=h++[.list ((Bb es).map fun e=>sv e.s)]) .app
 have ei:A1 (cF p n F) (.bi .sorted (.cons (.attr "standing" (.loc 0)) .nil)) [some (.loc t)] h=.ok (.loc h.length) (h++[.list ((Bb es).map fun e=>sv e.s)]):=Bq rfl (A3 (AU rfl S.tab.std)) hs
 refine A9 (Ld (x:=.sub (.attr "standing" (.loc 0)) (.loc 1)) (m:=1) (j:=1) (g:=fun e:En=>sv e.s) (fun e=>.str e.n) (its:=Bb es) rfl ei hF (fun h' K i=>Bw (K.all Ae)) (fun z hz h' K=>by
   have S2:=S1.keep K
   refine xE S2.fd fun ep hd=>?_
   exact⟨h',An (AU rfl S2.tab.std) rfl (HT hd S.eo.nds ((Fh S.eo.nds).mp hz)),.refl⟩) (by rw[Cu S.eo.nds];exact n3 hl rfl)) fun h' q K=>?_
 exact⟨_,_,AH (Ao (AZ q)),Ae,Kp.app.on (K.on .app),(Kp.app.on K).len⟩
theorem Pw:∀ xs:List (List Nat),DI Gf (xs.map .str)=some xs
 | []=>rfl
 | x :: r=>by
  show (DI Gf (r.map .str)).bind (fun ps=>some (x :: ps))=_
  rw[Pw r];rfl
theorem NR{i:Nat}{sep:List Nat}{xs:List (List Nat)}(hi:h[i]?=some (.list (xs.map .str)))(hl:Da sep xs<=3000):Cq .join (.str sep) [.loc i] h=.ok (.str (Bv sep xs)) h:=by
 show Ey (((Am h i).bind (DI Gf)).bind fun xs=>if Da sep xs<=Ab then some (.str (Bv sep xs)) else none) h=_
 rw[B4 hi,aW,Pw,aW,if_pos (AM hl)];rfl
theorem Xc{l:Ah}{v:AV}{j:Nat}(hj:l.length=j):BN (BC l 1 j v) j=some v:=by
 subst hj
 have:BC l 1 l.length v=l++[some v]:=by
  show (l++[none]).set l.length (some v)=_
  rw[gK _ _ (aS _),iB];rfl
 rw[this]
 delta BN
 rw[aY]
theorem Sw{c:CA}{it:X}{l:Ah}{i j:Nat}{rows:List (List Nat)}{h0:A0}(hq:c.q=false)(hF:50000<=c.fuel)(ei:A1 c it l h0=.ok (.loc i) h)(hi:h[i]?=some (.list (rows.map .str)))(hj:l.length=j)(hr:∀ r∈rows,Bn r)(hl:rows.length<=25):
  ∃ h',A1 c (.bm .join (.str []) (.cons (.comp (.bin .add (.loc j) (.str [10])) 1 j it .nil) .nil)) l h0=.ok (.str (B0 rows)) h'/\Kp h.length h h':=by
 refine A9 (Ld (x:=.bin .add (.loc j) (.str [10])) (m:=1) (j:=j) (g:=AV.str) (fun r=>.str (r++[10])) (its:=rows) hq ei hF (fun h' K i=>Bw (K.all hi)) (fun z hz h' K=>⟨h',A8 (by rw[BO,Xc hj];rfl) rfl (Cv (by have:=(hr z hz).len;exact n3 this rfl) (by show 1<=3000;decide)),.refl⟩) (n3 hl rfl)) fun h' q K=>?_
 refine⟨_,F2 rfl rfl (A3 q) ((NR (xs:=rows.map fun r=>r++[10]) (by rw[Ae,cO];rfl) ?_).trans rfl),K.on .app⟩
 have:∀ rows:List (List Nat),(∀ r∈rows,Bn r)->Da [] (rows.map fun r=>r++[10])<=101*rows.length:=fun rows=>by
  induction rows with
  | nil=>intro _;exact aS _
  | cons r rs ih=>
   intro h
   have h1:=(h r aH).len
   have h2:=ih fun x hx=>h x (aL _ hx)
   show (r++[10]).length+0+Da [] (rs.map fun r=>r++[10])<=101*(rs.length+1)
   rw[aC]
   show r.length+1+0+_<=_
   exact ql (Ck _ _ _) [(Af,(.mulL 101 Aj)),(AA,(qN 100))] (qA (qA HC (qN 0)) Af) (.mulL 101 Ee) rfl h2 h1
 have:=this rows hr
 exact nR this hl
noncomputable def Ar(T:Tb)(es:List En):List (List Nat):=AJ T :: (Bb es).map Br
theorem F3(ok:T.Ok)(O:Ga T es):∀ r∈Ar T es,Bn r:=fun r hr=>by
 rcases List.mem_cons.mp hr with rfl|hr
 ·exact Hj ok.near
 ·refine A9 (List.mem_map.mp hr) fun e he q=>?_
  subst q
  exact WZ (O.all e ((Fh O.nds).mp he)) ok
theorem Cj{c:CA}{y:X}{l:Ah}{i:Int}(e:A1 c y l h=.ok (.int i) h)(hi:i.natAbs<2 ^ 64)(hq:c.q=false):A1 c (.bi .str (.cons y .nil)) l h=.ok (.str (Ad i)) h:=Bq hq (A3 e) (if_pos hi)
inductive Sx (h:A0) (t j:Nat) (T:Tb) (es:List En) (k:Nat):Ah->A0->Prop
 | mk (h':A0) (v2 v3 v4:Option AV) (h1:h'[h.length]?=some (.list ((AJ T :: ((Bb es).take k).map Br).map .str))) (h2:h'[j]?=some (.list ((Bb es).map fun e=>.str e.n))) (K:Kp h.length h h'):Sx h t j T es k [some (.loc t),some (.loc h.length),v2,v3,v4] h'
theorem Dn(H:CQ p)(S:G3 b h t T es d e)(hl:es.length<=20):∃ h',AD p (n+5) false "written" [.loc t] h=.ok (.str (B0 (Ar T es))) h'/\Kp h.length h h':=by
 refine A9 (BS (n:=n+4) (h:=h) H.written (as:=[.loc t]) [some (.loc t),none,none,none,none] rfl rfl) fun F hF e1=>?_
 rw[e1]
 have nr:=S.ok.near
 have lc:=AB (v:=T.c) (j4 nr.c1 rfl) nr.c2
 have lf:=AB (v:=T.f) (j4 nr.f1 rfl) nr.f2
 have ls:=AB (v:=T.s) (j4 nr.s1 rfl) nr.s2
 have eh:AJ T=[110,101,115,116,115,32]++Ad T.c++[32]++Ad T.f++[32]++Ad T.s:=by
  show B8++[32]++(Ad T.c++[32]++(Ad T.f++[32]++Ad T.s))=_
  simp only[bC];rfl
 have s1:=Ak (i:=1) (Bx (c:=cF p (n+4) F) (l:=[some (.loc t),none,none,none,none]) (h:=h) (A3 (A8 (A8 (A8 (A8 (A8 (o:=.str [110,101,115,116,115,32]) rfl (Cj (y:=.attr "count" (.loc 0)) (AU rfl S.tab.cnt) (na nr.c1 (eY nr.c2) rfl) rfl) (Cv (by show 6<=3000;decide) (n3 lc rfl))) (rfl:A1 _ (.str [32]) _ _=_) (Cv (by rw[aC];show 6+_<=3000;exact Zr lc rfl) (by show 1<=3000;decide))) (Cj (y:=.attr "first" (.loc 0)) (AU rfl S.tab.fst) (na nr.f1 (eY nr.f2) rfl) rfl) (Cv (by simp only[aC,aN,dB];exact ql (IG _) [(Af,(qN 11))] (qA (qA (qA (qA (qA (qA (qA (qA (qN 0) qI) qI) qI) qI) qI) qI) Af) (qA (qN 0) qI)) (qN 3000) rfl lc) (n3 lf rfl))) (rfl:A1 _ (.str [32]) _ _=_) (Cv (by simp only[aC,aN,dB];exact ql (CW _ _) [(Af,(qN 11)),(Aj,(qN 11))] (qA (qA (qA (qA (qA (qA (qA (qA (qA (qN 0) qI) qI) qI) qI) qI) qI) Aj) (qA (qN 0) qI)) Af) (qN 3000) rfl lf lc) (by show 1<=3000;decide))) (Cj (y:=.attr "second" (.loc 0)) (AU rfl S.tab.snd) (na nr.s1 (eY nr.s2) rfl) rfl) (Cv (by simp only[aC,aN,dB];exact ql (CW _ _) [(Af,(qN 11)),(Aj,(qN 11))] (qA (qA (qA (qA (qA (qA (qA (qA (qA (qA (qN 0) qI) qI) qI) qI) qI) qI) Aj) (qA (qN 0) qI)) Af) (qA (qN 0) qI)) (qN 3000) rfl lf lc) (n3 ls rfl)))) (by show 1<=1000;decide))
 rw[<- eh] at s1
 have S1:=S.keep (h':=h++[.list [.str (AJ T)]]) .app
 refine MT (ML (n:=n+3) H S1) fun j h2 en hj K2 hjl=>?_
 rw[aC,bV] at hjl
 have KK:Kp h.length h h2:=Kp.app.on K2
 have u0:=Cu S.eo.nds
 refine Av (Bh (i:=2) (src:=.loc j) (items:=(Bb es).map fun e=>AV.str e.n) (body:=fun l h=>execSs (cF p (n+4) F) GH l h)
  (Sx h t j T es) (fun k l h' hI=>by cases hI with|mk _ _ _ _ _ h2 _=>exact Bw h2) (fun k v l h' hv hI=>by
   cases hI with
   | mk _ v2 v3 v4 g1 g2 K=>
   rw[aK] at hv
   refine A9 (Option.map_eq_some_iff.mp hv) fun x hx A6=>?_;subst A6
   have hk:=(List.getElem?_eq_some_iff.mp hx).1
   have u1:x∈es:=(Fh S.eo.nds).mp (aX hx)
   have o:=S.eo.all x u1
   have sx:=o.seat S.ok
   have gl:=o.good.len
   have l1:=AB (v:=x.s.1) (j3 sx.1 rfl) (ZZ sx)
   have l2:=AB (v:=x.s.2) (nM sx) (jU sx)
   have l3:=AB (v:=x.v) (j4 o.v1 rfl) (i5 o.v2 rfl)
   have Sk:=S.keep K
   have er:Br x=Ad x.s.1++[32]++Ad x.s.2++[32]++x.n++[32]++Ad x.v:=by
    show Ad x.s.1++[32]++(Ad x.s.2++[32]++(x.n++[32]++Ad x.v))=_
    simp only[bC]
   have s2:execSs (cF p (n+4) F) GH [some (.loc t),some (.loc h.length),some (.str x.n),v3,v4] h'=.ok .next [some (.loc t),some (.loc h.length),some (.str x.n),some (.int x.s.1),some (.int x.s.2)] (h'.set h.length (.list ((AJ T :: ((Bb es).take k).map Br).map .str++[.str (Ad x.s.1++[32]++Ad x.s.2++[32]++x.n++[32]++Ad x.v)]))):=
    (A5 (Nz (l':=[some (.loc t),some (.loc h.length),some (.str x.n),some (.int x.s.1),some (.int x.s.2)]) rfl (CD rfl (Sk.tab.meth rfl) (A3 rfl) (MK (n:=n) H Sk u1)) rfl)).trans
     (Ao (J2 rfl g1 (A8 (A8 (A8 (A8 (A8 (A8 (Cj rfl (uH sx) rfl) rfl (Cv (n3 l1 rfl) (by show 1<=3000;decide))) (Cj rfl (uI sx) rfl) (Cv (by simp only[aC,aN,dB];exact uJ l1) (n3 l2 rfl))) rfl (Cv (by simp only[aC,aN,dB];exact uK l2 l1) (by show 1<=3000;decide))) rfl (Cv (by simp only[aC,aN,dB];exact uL l2 l1) (n3 gl rfl))) rfl (Cv (by simp only[aC,aN,dB];exact uM l2 l1 gl) (by show 1<=3000;decide))) (Cj (CD rfl (Sk.tab.meth rfl) (A3 rfl) (MJ (n:=n+2) H Sk u1)) (na o.v1 o.v2 rfl) rfl) (Cv (by simp only[aC,aN,dB];exact uN l2 l1 gl) (n3 l3 rfl))) g1 (by rw[aB,aN,aB,bY];exact uO u0 hl)))
   rw[<- er] at s2
   have u2:h.length≠j:=by exact fun g=>qf (CW _ _) [(BP,Aj),(Aj,Af)] rfl hjl (aE (bO g))
   refine⟨_,_,s2,Sx.mk _ _ _ _ ?_ (Bm g2 u2) (K.trans (.set (aS _)))⟩
   rw[CL g1,cS,hx,aU,<- cP,aU];rfl) (f:=F)
  (l:=[some (.loc t),some (.loc h.length),none,none,none]) (h:=h2) (by rw[aB,u0];exact aP (l4 hl rfl) hF) (Sx.mk (k:=0) _ none none none (K2.all Ae) hj KK)) fun l' h3 e3 I3=>?_
 cases I3 with
 | mk _ v2 v3 v4 g1 g2 K=>
 rw[aB,bS] at g1
 refine A9 (Sw (c:=cF p (n+4) F) (it:=.loc 1) (l:=[some (.loc t),some (.loc h.length),v2,v3,v4]) (j:=5) rfl hF rfl g1 rfl (F3 S.ok S.eo) (by rw[aN,aB,u0];exact pC hl rfl)) fun h4 e4 K4=>?_
 exact⟨h4,AH ((A5 s1).trans ((A5 (DQ rfl (CD rfl (S1.tab.meth rfl) rfl en) e3)).trans (Ao (AZ e4)))),K.on K4⟩
end
end
section
open PySem
section
variable {p:AI} {n:Nat} {h:A0} {b t d e:Nat} {T:Tb} {es:List En}
theorem MM{m:Nat}:clipAt m (-1)=m-1:=clipAt_neg m 1 (aS 1)
theorem R7{x:List Nat}(hl:x.length<=3000):C0 (.str x) (.int (-1)) .none h=.ok (.str (x.drop (x.length-1))) h:=by
 show Ey ((Do x (.int (-1)) .none).map .str) h=_
 delta Do
 rw[if_pos (AM hl)]
 show Ey (some (.str (AL x (-1) x.length))) h=_
 rw[AL,MM,eF,iC,bS];rfl
theorem Lv{x:List Nat}(hl:x.length<=3000):C0 (.str x) .none (.int (-1)) h=.ok (.str x.dropLast) h:=by
 show Ey ((Do x .none (.int (-1))).map .str) h=_
 delta Do
 rw[if_pos (AM hl)]
 show Ey (some (.str (AL x 0 (-1)))) h=_
 rw[AL,MM,show clipAt x.length 0=0 from eF x.length 0 |>.trans (Nat.zero_min _),List.drop_zero,List.dropLast_eq_take];rfl
theorem NS{x:List Nat}{c:Nat}:x.drop (x.length-1)=[c]↔x.getLast?=some c:=by
 rcases List.eq_nil_or_concat x with rfl|⟨r,d,rfl⟩
 ·exact⟨(fun q=>nomatch q),(fun q=>nomatch q)⟩
 ·rw[gM,eV,aC,bV,iH,List.drop_left]
  exact⟨fun q=>congrArg some (List.cons.inj q).1,fun q=>congrArg (fun z=>[z]) (Option.some.inj q)⟩
theorem Hk{i k:Nat}{xs:List AV}(hi:h[i]?=some (.list xs))(hl:xs.length<=3000):C0 (.loc i) (.int k) .none h=.ok (.loc h.length) (h++[.list (xs.drop k)]):=
 BF (o:=(Am h i).bind fun xs=>Do xs (.int k) .none) (by rw[B4 hi,aW,Pm hl]) (AM (by rw[cW];exact uP hl))
theorem Lw{α β γ:Type}{q:α->Option β}{f:β->γ}:∀ {xs:List α},Df (fun x=>(q x).map f) xs=(Df q xs).map (List.map f)
 | []=>rfl
 | x :: r=>by
  show ((q x).map f).bind _=((q x).bind _).map _
  rw[Lw]
  rcases q x with _|y
  ·rfl
  ·rcases Df q r with _|ys<;>rfl
noncomputable def Xd:Ss:=(.cons (.asg 5 (.new (.cons (.sub (.loc 3) (.int 0)) (.cons (.sub (.loc 3) (.int 1)) (.cons (.sub (.loc 3) (.int 2)) .nil)))))
 (.cons (.fort [6,7,8] (.loc 4) GJ)
 (.cons (.ret (.loc 5))
 .nil)))
theorem Uz{r wa wb wc wd:List Nat}(ew:Ci r=some [wa,wb,wc,wd])(hn:wa=B8):BB r=(Df Ax [wb,wc,wd]).bind fun ys=>some ⟨ys.getD 0 0,ys.getD 1 0,ys.getD 2 0⟩:=by
 rw[BB,ew,aW]
 show (if wa=B8 then (Ax wb).bind (fun c'=>(Ax wc).bind fun f=>(Ax wd).bind fun s=>some (⟨c',f,s⟩:Tb)) else none)=_
 rw[if_pos hn]
 show _=((Ax wb).bind fun y=>((Ax wc).bind fun y=>((Ax wd).bind fun y=>some [y]).bind fun ys=>some (y :: ys)).bind fun ys=>some (y :: ys)).bind _
 rcases Ax wb with _|_
 ·rfl
 rcases Ax wc with _|_
 ·rfl
 rcases Ax wd with _|_<;>rfl
theorem qR{wb wc wd:List Nat}{ys:List Int}(ey:Df Ax [wb,wc,wd]=some ys):∃ y0 y1 y2,ys=[y0,y1,y2]:=by
 revert ey
 show ((Ax wb).bind fun y=>((Ax wc).bind fun y=>((Ax wd).bind fun y=>some [y]).bind fun ys=>some (y :: ys)).bind fun ys=>some (y :: ys))=some ys->_
 rcases Ax wb with _|y0
 ·intro e;cases e
 rcases Ax wc with _|y1
 ·intro e;cases e
 rcases Ax wd with _|y2
 ·intro e;cases e
 ·intro e;cases e;exact⟨y0,y1,y2,rfl⟩
theorem Lx(H:CQ p){x:List Nat}(hx:∀ c∈x,c<128)(hl:x.length<=3000):
  (Gb x=none/\∃ h',AD p (n+4) false "read" [.str x] h=.exc "NoNote" h'/\Kp h.length h h') \/
  ∃ T es h' v1 v2 i j F,Gb x=some (T,es)/\50000<=F/\AD p (n+4) false "read" [.str x] h=HF (execSs (cF p (n+3) F) Xd [some (.str x),v1,v2,some (.loc i),some (.loc j),none,none,none,none] h') /\
   h'[i]?=some (.list [.int T.c,.int T.f,.int T.s])/\h'[j]?=some (.list (es.map Pq))/\Kp h.length h h':=by
 refine A9 (BS (n:=n+3) (h:=h) H.read (as:=[.str x]) [some (.str x),none,none,none,none,none,none,none,none] rfl rfl) fun F hF e=>?_
 rw[e]
 have t1:=Ba (c:=cF p (n+3) F) (l:=[some (.str x),none,none,none,none,none,none,none,none]) (h:=h) (o:=.loc 0) (x:=.neg (.int 1)) (y:=.none) rfl (IY rfl) rfl (R7 hl)
 by_cases hlast:x.getLast?=some 10
 case neg=>exact .inl ⟨if_neg hlast,h,AR (BD rfl (Bg (Dl (EK rfl rfl)) (Al t1 rfl (WQ fun q=>hlast (NS.mp q))))),.refl⟩
 rw[Gb,if_pos hlast]
 have u4:x.dropLast.length<=2999:=by rw[List.length_dropLast];exact uQ hl
 have tl:x.dropLast.length<=3000:=by exact n3 u4 rfl
 have u6:∀ c∈x.dropLast,c<128:=fun c hc=>hx c ((List.dropLast_sublist x).subset hc)
 have u0:=CE 10 x.dropLast
 have u3:(Aq 10 x.dropLast).length<=3000:=by rw[u0];have t0:=List.count_le_length (a:=10) (l:=x.dropLast);exact ql (CW _ _) [(Af,Aj),(Aj,(qN 2999))] BP (qN 3000) rfl t0 u4
 rcases hrows:Aq 10 x.dropLast with _|⟨r,rs⟩
 ·rw[hrows] at u0;cases u0
 refine aI fun no=>?_
 have hm:∀ y∈r :: rs,(∀ c∈y,c<128)/\y.length<=3000:=fun y hy=>by
  rw[<- hrows] at hy
  exact⟨fun c hc=>u6 c (FA hy c hc),aR (J7.split_le hy) tl⟩
 have s1:=Ak (i:=1) (F2 (m:=.split) (Ba (c:=cF p (n+3) F) (l:=[some (.str x),none,none,none,none,none,none,none,none]) (h:=h) (o:=.loc 0) (x:=.none) (y:=.neg (.int 1)) rfl rfl (IY rfl) (Lv hl)) rfl (A3 (x:=.str [10]) rfl) (IB (by decide) tl))
 rw[hrows] at s1
 have g1:(h++[Ay.list ((r :: rs).map .str)])[h.length]?=_:=Ae
 have K1:Kp h.length h (h++[Ay.list ((r :: rs).map .str)]):=.app
 generalize h++[Ay.list ((r :: rs).map .str)]=h1 at s1 g1 K1
 have er:A1 (cF p (n+3) F) (.sub (.loc 1) (.int 0)) [some (.str x),some (.loc h.length),none,none,none,none,none,none,none] h1=.ok (.str r) h1:=An rfl rfl (Bf (by rw[aB,<- hrows];exact aR u3 (by decide)) g1 (by decide) rfl)
 rcases MF (n:=n+2) (h:=h1) H (x:=r) (hm r aH).2 with ⟨w,ew,q⟩|⟨ew,g,q⟩
 case inr=>
  refine no (.inl ⟨DE (.inl (by rw[BB,ew];rfl)),_,AR ((Aa (Bg (Dl (EK rfl rfl)) (Al t1 rfl (GW (NS.mpr hlast))))).trans ((A5 s1).trans (Eh (Fw (Ac (A3 er) q))))),K1.on .app⟩)
 refine F7 (J7 ew) fun wa wb wc wd A6 hw=>?_;subst A6
 have s2:=Ak (i:=2) (Ac (A3 er) q)
 have g2:(h1++[Ay.list ([wa,wb,wc,wd].map .str)])[h1.length]?=_:=Ae
 have K2:Kp h1.length h1 (h1++[Ay.list ([wa,wb,wc,wd].map .str)]):=.app
 generalize h1++[Ay.list ([wa,wb,wc,wd].map .str)]=h2 at s2 g2 K2
 have e0:A1 (cF p (n+3) F) (.sub (.loc 2) (.int 0)) [some (.str x),some (.loc h.length),some (.loc h1.length),none,none,none,none,none,none] h2=.ok (.str wa) h2:=An rfl rfl (Bf (by show 4<=Ab;decide) g2 (by decide) rfl)
 have go:∀ {d:SR},execSs (cF p (n+3) F) (.cons (.iff (.cmp .ne (.sub (.loc 2) (.int 0)) (.str [110,101,115,116,115])) (.cons (.raise "NoNote") .nil) .nil)
  (.cons (.asg 3 (.comp (.call "number_of" (.cons (.loc 9) .nil)) 1 9 (.slice (.loc 2) (.int 1) .none) .nil)) (.cons (.asg 4 (.comp (.call "thing_of" (.cons (.loc 9) .nil)) 1 9 (.slice (.loc 1) (.int 1) .none) .nil)) Xd))) [some (.str x),some (.loc h.length),some (.loc h1.length),none,none,none,none,none,none] h2=d->execSs (cF p (n+3) F) R0.body [some (.str x),none,none,none,none,none,none,none,none] h=d:=fun q=>(Aa (Bg (Dl (EK rfl rfl)) (Al t1 rfl (GW (NS.mpr hlast))))).trans ((A5 s1).trans ((A5 s2).trans q))
 have K12:=K1.then K2
 by_cases hn:wa=B8
 case neg=>exact no (.inl ⟨DE (.inl (by rw[BB,ew];exact if_neg hn)),h2,AR (go (BD rfl (Al e0 rfl (WQ hn)))),K12⟩)
 have p3:∀ {d:Ss} {a:Ss},execSs (cF p (n+3) F) (.cons (.iff (.cmp .ne (.sub (.loc 2) (.int 0)) (.str [110,101,115,116,115])) a .nil) d) [some (.str x),some (.loc h.length),some (.loc h1.length),none,none,none,none,none,none] h2=execSs (cF p (n+3) F) d [some (.str x),some (.loc h.length),some (.loc h1.length),none,none,none,none,none,none] h2:=fun {d a}=>Aa (Al e0 rfl (GW hn))
 have hh:=Uz ew hn
 rcases Lc (k:="NoNote") (c:=cF p (n+3) F) (l:=[some (.str x),some (.loc h.length),some (.loc h1.length),none,none,none,none,none,none]) (x:=.call "number_of" (.cons (.loc 9) .nil)) (m:=1) (j:=9) (g:=AV.str) (q:=fun y=>(Ax y).map .int) (its:=[wb,wc,wd]) rfl (Ba (o:=.loc 2) (x:=.int 1) (y:=.none) (h:=h2) rfl rfl rfl (Hk (k:=1) g2 (by show 4<=3000;decide))) hF (fun h' K i=>Bw (K.all Ae)) (fun z hz h' K=>by
   have u1:=hw z (aL _ hz)
   have hr:=hm r aH
   exact .of (G1 (n:=n+2) (h:=h') H (fun c hc=>hr.1 c (u1.1 c hc)) (aR u1.2 hr.2)) rfl (Ac (A3 rfl) rfl)) (by show 3<=3000;decide) with ⟨vs,h3,ea,q3,K3⟩|⟨h3,ea,q3,K3⟩<;>rw[Lw] at ea
 case inr=>
  refine no (.inl ⟨DE (.inl ?_),h3,AR (go (p3.trans (Eh (Fw q3)))),K12.on (Kp.app.on K3)⟩)
  rw[hh,Option.map_eq_none_iff.mp ea];rfl
 refine A9 (Option.map_eq_some_iff.mp ea) fun ys ey ev=>?_
 subst ev
 rw[ey,aW] at hh
 obtain⟨y0,y1,y2,rfl⟩:=qR ey
 have g3:(h3++[Ay.list ([y0,y1,y2].map .int)])[h3.length]?=_:=Ae
 have u2:Kp h2.length h2 (h3++[Ay.list ([y0,y1,y2].map .int)]):=Kp.app.on (K3.on .app)
 generalize h3++[Ay.list ([y0,y1,y2].map .int)]=h4 at q3 g3 u2
 have u5:=u2.all (K2.all g1)
 rcases Lc (k:="NoNote") (c:=cF p (n+3) F) (l:=[some (.str x),some (.loc h.length),some (.loc h1.length),some (.loc h3.length),none,none,none,none,none]) (x:=.call "thing_of" (.cons (.loc 9) .nil)) (m:=1) (j:=9) (g:=AV.str) (q:=fun y=>(AE y).map Pq) (its:=rs) rfl (Ba (o:=.loc 1) (x:=.int 1) (y:=.none) (h:=h4) rfl rfl rfl (Hk (k:=1) u5 (by rw[aB,<- hrows];exact u3))) hF (fun h' K i=>Bw (K.all Ae)) (fun z hz h' K=>by
   have u1:=hm z (aL _ hz)
   exact .of (Uv (n:=n) (h:=h') H u1.1 u1.2) rfl (Ac (A3 rfl) rfl)) (by have t2:=u3;rw[hrows,aN] at t2;exact l5 t2 rfl) with ⟨vs,h5,ea2,q5,K5⟩|⟨h5,ea2,q5,K5⟩<;>rw[Lw] at ea2
 case inr=>
  refine no (.inl ⟨?_,h5,AR (go (p3.trans ((A5 (Ak q3)).trans (Eh (Fw q5))))),K12.on (u2.on (Kp.app.on K5))⟩)
  show (BB r).bind _=none
  rw[hh,Option.map_eq_none_iff.mp ea2];rfl
 refine A9 (Option.map_eq_some_iff.mp ea2) fun es ee ev=>?_
 subst ev
 refine no (.inr ⟨⟨y0,y1,y2⟩,es,h5++[Ay.list (es.map Pq)],some (.loc h.length),some (.loc h1.length),h3.length,h5.length,F,?_,hF,congrArg HF (go (p3.trans ((A5 (Ak q3)).trans (A5 (Ak q5))))),AS (K5.all (AS g3)),Ae,K12.on (u2.on (Kp.app.on (K5.on .app)))⟩)
 show (BB r).bind _=_
 rw[hh,ee];rfl
end
end
section
open PySem
section
variable {p:AI} {n:Nat} {h:A0} {b t d e:Nat} {T:Tb} {es pre post:List En}
theorem IC{κ:Type}{f:En->κ}{x:En}(nd:((es++[x]).map f).Nodup):f x∉es.map f:=fun q=>by
 rw[aU,dU] at nd
 exact nd.2.2 _ q _ aH rfl
inductive ZO (h:A0) (x:AV) (v1 v2:Option AV) (i j t b:Nat) (T:Tb) (pre:List En) (es:List En) (d e:Nat) (k:Nat):Ah->A0->Prop
 | mk (h':A0) (v6 v7 v8:Option AV) (hk:k<=pre.length) (S:G3 b h' t T (pre.take k) d e) (hj:h'[j]?=some (.list (es.map Pq))) (K:Kp b h h'):ZO h x v1 v2 i j t b T pre es d e k [some x,v1,v2,some (.loc i),some (.loc j),some (.loc t),v6,v7,v8] h'
inductive ZP (h:A0) (b:Nat) (k:Str):SR->Prop
 | mk (l:Ah) (h':A0) (K:Kp b h h'):ZP h b k (.exc k l h')
theorem UA(H:CQ p){x:AV}{v1 v2:Option AV}{i j F:Nat}{kx:Str}(S:G3 b h t T [] d e)(hj:h[j]?=some (.list ((pre++post).map Pq)))(hb:j<b)(O:Ga T pre)(hl:pre.length<=30)(hpl:post.length<=30)(hF:50000<=F)(hx:∀ y r,post=y :: r->Uy T pre y kx):
  (post=[]/\∃ l' h',AO (Jx [6,7,8]) (fun l h=>execSs (cF p (n+4) F) GJ l h) (.loc j) F 0 [some x,v1,v2,some (.loc i),some (.loc j),some (.loc t),none,none,none] h=.ok .next l' h'/\BN l' 5=some (.loc t)/\G3 b h' t T pre d e/\Kp b h h') \/
  ∃ l' h',AO (Jx [6,7,8]) (fun l h=>execSs (cF p (n+4) F) GJ l h) (.loc j) F 0 [some x,v1,v2,some (.loc i),some (.loc j),some (.loc t),none,none,none] h=.exc kx l' h'/\Kp b h h':=by
 have L:=Dj (put:=Jx [6,7,8]) (src:=.loc j) (items:=(pre++post).map Pq) (body:=fun l h=>execSs (cF p (n+4) F) GJ l h)
  (ZO h x v1 v2 i j t b T pre (pre++post) d e) (ZP h b kx) (fun k l h' hI=>by cases hI with|mk _ _ _ _ hk S hj K=>exact Bw hj) (fun k v l h' hv hI=>by
   cases hI with
   | mk _ v6 v7 v8 hk S hj K=>
   rw[aK] at hv
   refine A9 (Option.map_eq_some_iff.mp hv) fun y hy A6=>?_;subst A6
   refine⟨[some x,v1,v2,some (.loc i),some (.loc j),some (.loc t),some (sv y.s),some (.str y.n),some (.int y.v)],rfl,?_⟩
   by_cases hkp:k<pre.length
   ·rw[bB hkp] at hy
    have et:pre.take (k+1)=pre.take k++[y]:=by rw[cS,hy];rfl
    have O':=O.sub (gH (k+1) pre)
    rw[et] at O'
    have hS:=S.len
    refine BT (G4 (n:=n) H S (x:=y) (O'.all y (bQ _ aH)) (IC O'.ndn) (IC O'.nds) (by rw[bY];exact uR hl)) fun h2 e2 S2 K2 _=>?_
    refine .of (Ao (C2 (CD rfl (S.tab.meth rfl) (A4 rfl (A4 rfl (A3 rfl))) e2))) (.next _ _ (.mk _ _ _ _ hkp ?_ (K2 _ _ hb hj) (K.trans K2)))
    rw[et];exact S2
   ·have u0:k=pre.length:=by exact bM hk (bK hkp)
    subst u0
    rw[cU (aS _),iB] at hy
    rcases post with _|⟨z,r⟩
    ·cases hy
    ·cases hy
     rw[bS] at S
     exact .of (Ao (Fv (CD rfl (S.tab.meth rfl) (A4 rfl (A4 rfl (A3 rfl))) (Z4 (n:=n) H S (hx _ _ rfl))))) (.halt _ (.exc _ _ _) (.mk _ _ K))) F 0 [some x,v1,v2,some (.loc i),some (.loc j),some (.loc t),none,none,none] h (by rw[aB,aC];exact ql (Ck _ _ _) [(Af,(qN 30)),(Aj,(qN 30)),(qN 50000,AA)] (qA (qA Aj Af) qI) (qA AA (qN 0)) rfl hpl hl hF) (bE _) (.mk _ _ _ _ (bE _) S hj .refl)
 rcases L with ⟨l',h',e2,I2⟩|R
 ·cases I2 with
  | mk _ v6 v7 v8 hk S' hj' K=>
  rw[aB,aC] at hk
  have t0:post=[]:=gY (uS hk)
  subst t0
  refine .inl ⟨rfl,_,_,e2,rfl,?_,K⟩
  rw[dC,aB,bS] at S'
  exact S'
 ·generalize hg:AO _ _ _ _ _ _ _=r' at R
  cases R with
  | mk l h' K=>exact .inr ⟨l,h',rfl,K⟩
section
variable {x:List Nat} (H:CQ p) (hx:∀ c∈x,c<128) (hl:x.length<=3000)
include H hx hl
theorem HB(hp:Gb x=none):∃ h',AD p (n+5) false "read" [.str x] h=.exc "NoNote" h'/\Kp h.length h h':=by
 rcases Lx (n:=n+1) (h:=h) H hx hl with ⟨_,q⟩|⟨_,_,_,_,_,_,_,_,q,_⟩
 ·exact q
 ·rw[hp] at q;cases q
theorem Ly(hp:Gb x=some (T,es))(hT:¬ T.Ok):∃ h',AD p (n+5) false "read" [.str x] h=.exc "NoNests" h'/\Kp h.length h h':=by
 rcases Lx (n:=n+1) (h:=h) H hx hl with ⟨q,_⟩|⟨T',kf,h',v1,v2,i,j,F,q,hF,e,hi,hj,K⟩
 ·rw[hp] at q;cases q
 ·rw[hp] at q;cases q
  rw[e]
  have nr:=NO (n:=n+2) (h:=h') H hT
  exact⟨_,AR (Eh (Fw (WC (A4 (An rfl rfl (Bf (by show 3<=Ab;decide) hi (by decide) rfl)) (A4 (An rfl rfl (Bf (by show 3<=Ab;decide) hi (by decide) rfl)) (A3 (An rfl rfl (Bf (by show 3<=Ab;decide) hi (by decide) rfl))))) nr))),K.on .app⟩
theorem Px{kx:Str}(hp:Gb x=some (T,pre++post))(ok:T.Ok)(O:Ga T pre)(hl1:pre.length<=30)(hl2:post.length<=30)(hb:∀ y r,post=y :: r->Uy T pre y kx):
  (post=[]/\∃ t d e h',AD p (n+5) false "read" [.str x] h=.ok (.loc t) h'/\G3 h.length h' t T pre d e/\Kp h.length h h')\/∃ h',AD p (n+5) false "read" [.str x] h=.exc kx h'/\Kp h.length h h':=by
 rcases Lx (n:=n+1) (h:=h) H hx hl with ⟨q,_⟩|⟨T',kf,h',v1,v2,i,j,F,q,hF,e,hi,hj,K⟩
 ·rw[hp] at q;cases q
 ·rw[hp] at q;cases q
  rw[e]
  have ni:=Pt (n:=n+2) (h:=h') H ok
  have s1:=Ak (i:=5) (WB (c:=cF p (n+4) F) (l:=[some (.str x),v1,v2,some (.loc i),some (.loc j),none,none,none,none]) (as:=.cons (.sub (.loc 3) (.int 0)) (.cons (.sub (.loc 3) (.int 1)) (.cons (.sub (.loc 3) (.int 2)) .nil))) (A4 (An rfl rfl (Bf (by show 3<=Ab;decide) hi (by decide) rfl)) (A4 (An rfl rfl (Bf (by show 3<=Ab;decide) hi (by decide) rfl)) (A3 (An rfl rfl (Bf (by show 3<=Ab;decide) hi (by decide) rfl))))) ni)
  have S0:=G3.start (h:=h') ok
  have K0:Kp h'.length h' (h'++[.ns (LU T (h'.length+2) (h'.length+3)),.inst h'.length,.dict [] 0,.dict [] 0]):=.app
  have u0:=K.len
  rcases UA (n:=n) H (x:=.str x) (v1:=v1) (v2:=v2) (i:=i) (F:=F) S0 (K0.all hj) (EL hj) O hl1 hl2 hF hb with ⟨hp0,l',h2,e2,hl5,S2,K2⟩|⟨l',h2,e2,K2⟩
  ·refine .inl ⟨hp0,_,_,_,h2,AH ((A5 s1).trans ((A5 (Se rfl rfl e2)).trans (Ao (AZ (by rw[BO,hl5];rfl))))),⟨S2.tab,S2.fd,S2.fe,S2.ne,by exact ql (CW _ _) [(Af,Aj)] Af (qA Aj (qN 2)) rfl u0,by exact ql (CW _ _) [(Af,Aj)] Af (qA Aj (qN 3)) rfl u0,S2.ok,S2.eo,S2.len⟩,K.trans ((K0.low u0).trans (K2.low u0))⟩
  ·exact .inr ⟨h2,AR ((A5 s1).trans (Eh (Se rfl rfl e2))),K.trans ((K0.low u0).trans (K2.low u0))⟩
end
noncomputable def vT:List Str:=["NestError","NoNests","NoName","NoValue","NoNest","NoHome","Taken","Twice","NoRoom","Unknown","NoNote"]
noncomputable def MN(k:Str):List Bool:=[List.contains [("NoNests":Str)] k,List.contains [("NoName":Str)] k,List.contains [("NoValue":Str)] k,List.contains [("NoNest":Str)] k,List.contains [("NoHome":Str)] k,List.contains [("Taken":Str)] k,List.contains [("Twice":Str)] k,List.contains [("NoNote":Str)] k]
noncomputable def NT:List (List Nat):=[[110,101,115,116,115],[110,97,109,101],[118,97,108,117,101],[110,101,115,116],[104,111,109,101],[116,97,107,101,110],[116,119,105,99,101],[110,111,116,101]]
structure ID (k:Str) (w:List Nat) (i:Nat):Prop where
 a:List.contains vT k=true
 b:(MN k).count true=1
 c:List.contains [("NoRoom":Str),("Unknown":Str)] k=false
 d:(MN k).findIdx? (·==true)=some i
 e:NT[i]?=some w
theorem mC:ID "NoNests" [110,101,115,116,115] 0:=⟨rfl,rfl,rfl,rfl,rfl⟩
theorem qS:ID "NoName" [110,97,109,101] 1:=⟨rfl,rfl,rfl,rfl,rfl⟩
theorem mD:ID "NoValue" [118,97,108,117,101] 2:=⟨rfl,rfl,rfl,rfl,rfl⟩
theorem qT:ID "NoNest" [110,101,115,116] 3:=⟨rfl,rfl,rfl,rfl,rfl⟩
theorem qU:ID "NoHome" [104,111,109,101] 4:=⟨rfl,rfl,rfl,rfl,rfl⟩
theorem mE:ID "Taken" [116,97,107,101,110] 5:=⟨rfl,rfl,rfl,rfl,rfl⟩
theorem Xe:ID "Twice" [116,119,105,99,101] 6:=⟨rfl,rfl,rfl,rfl,rfl⟩
theorem ZQ:ID "NoNote" [110,111,116,101] 7:=⟨rfl,rfl,rfl,rfl,rfl⟩
theorem Fi{i:Nat}{k:Str}{ks:List Str}(hi:h[i]?=some (.exc k)):kO h (.loc i) ks=some (ks.contains k):=by
 delta kO;dsimp only;rw[hi]
theorem MO:∀ xs:List Bool,DI Gj (xs.map .bool)=some xs
 | []=>rfl
 | x :: r=>by
  show (DI Gj (r.map .bool)).bind (fun ps=>some (x :: ps))=_
  rw[MO r];rfl
theorem Sy{i:Nat}{bs:List Bool}(hi:h[i]?=some (.list (bs.map .bool))):Gk (Am h i) [.bool true]=some bs:=by
 show (Am h i).bind (DI Gj)=_
 rw[B4 hi,aW,MO]
theorem Xf(H:CQ p){i k:Nat}{s:Str}{w:List Nat}(Q:ID s w k)(hi:h[i]?=some (.exc s)):∃ h',AD p (n+1) true "_law_kind" [.loc i] h=.ok (.str w) h'/\Kp h.length h h':=by
 have e:AD p (n+1) true "_law_kind" [.loc i] h=HF (execSs ⟨AD p n true,AD p n true,true,EA⟩ GO.body [some (.loc i),none] h):=by
  rw[N7 H.l_kind]
  exact if_pos rfl
 rw[e]
 have s1:=Ak (i:=1) (Bx (c:=⟨AD p n true,AD p n true,true,EA⟩) (l:=[some (.loc i),none]) (A4 (x:=.isx (.loc 0) ["NoNests"]) (Fb rfl (Fi hi)) (A4 (x:=.isx (.loc 0) ["NoName"]) (Fb rfl (Fi hi)) (A4 (x:=.isx (.loc 0) ["NoValue"]) (Fb rfl (Fi hi)) (A3 (x:=.isx (.loc 0) ["NoNest"]) (Fb rfl (Fi hi)))))) (by show 4<=1000;decide))
 have K1:Kp h.length h (h++[.list [.bool (List.contains [("NoNests":Str)] s),.bool (List.contains [("NoName":Str)] s),.bool (List.contains [("NoValue":Str)] s),.bool (List.contains [("NoNest":Str)] s)]]):=.app
 have g1:(h++[Ay.list [.bool (List.contains [("NoNests":Str)] s),.bool (List.contains [("NoName":Str)] s),.bool (List.contains [("NoValue":Str)] s),.bool (List.contains [("NoNest":Str)] s)]])[h.length]?=_:=Ae
 generalize h++[Ay.list [.bool (List.contains [("NoNests":Str)] s),.bool (List.contains [("NoName":Str)] s),.bool (List.contains [("NoValue":Str)] s),.bool (List.contains [("NoNest":Str)] s)]]=h1 at s1 K1 g1
 have u0:=K1.all hi
 have e2:=Bx (c:=⟨AD p n true,AD p n true,true,EA⟩) (l:=[some (.loc i),some (.loc h.length)]) (A4 (x:=.isx (.loc 0) ["NoHome"]) (Fb rfl (Fi u0)) (A4 (x:=.isx (.loc 0) ["Taken"]) (Fb rfl (Fi u0)) (A4 (x:=.isx (.loc 0) ["Twice"]) (Fb rfl (Fi u0)) (A3 (x:=.isx (.loc 0) ["NoNote"]) (Fb rfl (Fi u0)))))) (by show 4<=1000;decide)
 have K2:Kp h1.length h1 (h1++[.list [.bool (List.contains [("NoHome":Str)] s),.bool (List.contains [("Taken":Str)] s),.bool (List.contains [("Twice":Str)] s),.bool (List.contains [("NoNote":Str)] s)]]):=.app
 have g2:(h1++[Ay.list [.bool (List.contains [("NoHome":Str)] s),.bool (List.contains [("Taken":Str)] s),.bool (List.contains [("Twice":Str)] s),.bool (List.contains [("NoNote":Str)] s)]])[h1.length]?=_:=Ae
 generalize h1++[Ay.list [.bool (List.contains [("NoHome":Str)] s),.bool (List.contains [("Taken":Str)] s),.bool (List.contains [("Twice":Str)] s),.bool (List.contains [("NoNote":Str)] s)]]=h2 at e2 K2 g2
 have ec:Cz .add (.loc h.length) (.loc h1.length) h2=.ok (.loc h2.length) (h2++[.list ((MN s).map .bool)]):=BF (o:=SS (Am h2 h.length) (Am h2 h1.length)) (by rw[B4 (K2.all g1),B4 g2];rfl) (by show 8<=Ab;decide)
 have s2:=Ak (i:=1) (A8 (op:=.add) (o:=.loc 1) rfl e2 ec)
 have K3:Kp h2.length h2 (h2++[.list ((MN s).map .bool)]):=.app
 have g3:(h2++[Ay.list ((MN s).map .bool)])[h2.length]?=_:=Ae
 generalize h2++[Ay.list ((MN s).map .bool)]=h3 at s2 K3 g3
 have u1:=K3.all (K2.all u0)
 have u2:Cq .count (.loc h2.length) [.bool true] h3=.ok (.int 1) h3:=by
  show Ey ((Gk (Am h3 h2.length) [.bool true]).map fun bs=>.int (bs.count true:Nat)) h3=_
  rw[Sy g3,fF,Q.b];rfl
 have idx:Cq .index (.loc h2.length) [.bool true] (h3++[.list (NT.map .str)])=.ok (.int k) (h3++[.list (NT.map .str)]):=by
  show Ey (((Gk (Am _ h2.length) [.bool true]).bind fun bs=>bs.findIdx? (·==true)).map fun (i:Nat)=>AV.int (i:Int)) _=_
  rw[Sy (AS g3),aW,Q.d];rfl
 have u4:∀ {g:A0},Gc .index (.loc h2.length) (h3++g)=true:=fun {g}=>by
  show (Am (h3++g) h2.length).isSome=true
  rw[B4 (AS g3)];rfl
 have u3:Gc .count (.loc h2.length) h3=true:=by
  show (Am h3 h2.length).isSome=true
  rw[B4 g3];rfl
 refine⟨_,AH ((A5 s1).trans ((A5 s2).trans ((Aa (Bg (Dl (Fb rfl ((Fi u1).trans (congrArg some Q.a)))) (Bg (Al (F2 rfl u3 (A3 rfl) u2) rfl (Mw rfl)) (Fb rfl ((Fi u1).trans (congrArg some Q.c)))))).trans (Ao (AZ (CZ (i:=k) (vs:=NT.map .str) rfl (F2 rfl u4 (A3 rfl) idx) (by show 8<=1000;decide) (by rw[aK,Q.e];rfl))))))),K1.then (K2.then (K3.then .app))⟩
theorem Lz(H:CQ p){x:AV}{s:Str}{w:List Nat}{k:Nat}(Q:ID s w k)(hr:∃ h',AD p (n+5) false "read" [x] h=.exc s h'/\Kp h.length h h'):∃ h',AD p (n+6) false "_law_told" [x] h=.ok (.str w) h'/\Kp h.length h h':=by
 refine aI fun gj=>?_
 refine A9 (BS (n:=n+5) (h:=h) H.l_told (as:=[x]) [some x,none] rfl rfl) fun F hF e=>?_
 refine A9 hr fun h1 er K1=>?_
 refine A9 (Xf (n:=n+4) H (h:=h1++[.exc s]) Q Ae) fun h2 e2 K2=>?_
 refine gj ?_
 rw[e]
 refine⟨h2,?_,K1.on (Kp.app.on K2)⟩
 have eb:execSs (CA.quiet (cF p (n+5) F)) Hx [some x,some (.loc h1.length)] (h1++[.exc s])=.ok (.ret (.str w)) [some x,some (.loc h1.length)] h2:=Ao (AZ (Ac (A3 rfl) e2))
 exact AH (l':=[none,none]) (DW (YX rfl (Ao (Fv (Ac (A3 rfl) er))) ((PY.trans (if_pos Q.a)).trans (congrArg (fun r=>(SR.noExc r).forget) eb))))
end
end
section
open PySem
section
variable {p:AI} {n:Nat} {h:A0} {b t d e i j:Nat} {T:Tb} {es fs:List En} {rows:List (List Nat)}
theorem CU(H:CQ p)(hi:h[i]?=some (.list (rows.map .str)))(hr:∀ r∈rows,Bn r)(hl:rows.length<=25):∃ h',AD p (n+1) false "_law_text" [.loc i] h=.ok (.str (B0 rows)) h'/\Kp h.length h h':=by
 refine A9 (BS (n:=n) (h:=h) H.l_text (as:=[.loc i]) [some (.loc i)] rfl rfl) fun F hF e=>?_
 rw[e]
 refine A9 (Sw (c:=cF p n F) (it:=.loc 0) (l:=[some (.loc i)]) (j:=1) rfl hF rfl hi rfl hr hl) fun h' e2 K=>?_
 exact⟨h',AH (Ao (AZ e2)),K⟩
structure F4 (h:A0) (i j:Nat) (T:Tb) (es fs:List En):Prop where
 st:∃ ep,h[i]?=some (.dict (FC es) ep)
 th:∃ ep,h[j]?=some (.dict (JC fs) ep)
 ok:T.Ok
 eo:Ga T es
 fo:Ga T fs
 sub:∀ e∈es,e∈fs
 len:es.length<=20
theorem F4.keep{h':A0}(D:F4 h i j T es fs)(K:Kp h.length h h'):F4 h' i j T es fs:=⟨D.st.imp fun _ q=>K.all q,D.th.imp fun _ q=>K.all q,D.ok,D.eo,D.fo,D.sub,D.len⟩
theorem vU{a b c d:List Nat}(h:a.length+b.length+c.length+d.length<=2900):Da [32] [a,b,c,d]<=3000:=by
 show a.length+1+(b.length+1+(c.length+1+(d.length+1+0)))<=3000
 exact ql (Es _ _ _ _) [((qA (qA (qA Af Aj) AA) CS),(qN 2900))] (qA BP (qA Ee (qA HC (qA PK (qN 0))))) (qN 3000) rfl h
theorem GZ{c:CA}{l:Ah}{k i:Nat}{a b c' d:List Nat}(el:BN l k=some (.loc i))(hi:h[i]?=some (.list ([a,b,c',d].map .str)))(hl:a.length+b.length+c'.length+d.length<=2900):A1 c (.bm .join (.str [32]) (.cons (.loc k) .nil)) l h=.ok (.str (BY a b c' d)) h:=
 F2 rfl rfl (A3 (v:=.loc i) (by rw[BO,el];rfl)) (NR hi (vU hl))
inductive NU (h:A0) (i j r q:Nat) (es:List En) (k:Nat):Ah->A0->Prop
 | mk (h':A0) (v3 v4:Option AV) (h1:h'[r]?=some (.list ((((Bb es).take k).map Br).map .str))) (h2:h'[q]?=some (.list ((Bb es).map fun e=>sv e.s))) (K:Kp h.length h h'):NU h i j r q es k [some (.loc i),some (.loc j),some (.loc r),v3,v4] h'
theorem Hl(D:∃ ep,h[i]?=some (.dict (FC es) ep)):Ch h i=some (es.map fun e=>sv e.s):=xE D fun ep hd=>NH hd
theorem Py(H:CQ p)(D:F4 h i j T es fs):∃ r h',AD p (n+1) false "_law_rows" [.loc i,.loc j] h=.ok (.loc r) h'/\h'[r]?=some (.list (((Bb es).map Br).map .str))/\Kp h.length h h':=by
 refine A9 (BS (n:=n) (h:=h) H.l_rows (as:=[.loc i,.loc j]) [some (.loc i),some (.loc j),none,none,none] rfl rfl) fun F hF e1=>?_
 rw[e1]
 have hl:=D.len
 have u1:=Cu D.eo.nds
 have s1:=Ak (i:=2) (Bx (c:=cF p n F) (l:=[some (.loc i),some (.loc j),none,none,none]) (as:=.nil) (h:=h) rfl (bE _))
 have K1:Kp h.length h (h++[.list []]):=.app
 have g1:(h++[Ay.list []])[h.length]?=_:=Ae
 generalize h++[Ay.list []]=h1 at s1 K1 g1
 have D1:=D.keep K1
 have e2:CI .list [.loc i] h1=.ok (.loc h1.length) (h1++[.list (es.map fun e=>sv e.s)]):=FU (Hl D1.st) (AM (by rw[aB];exact n3 hl rfl))
 have e3:=Ja (h:=h1++[.list (es.map fun e=>sv e.s)]) (Mq Ae) D.eo.nds (l4 hl rfl)
 have g3:(h1++[.list (es.map fun e=>sv e.s)]++[Ay.list ((Bb es).map fun e=>sv e.s)])[(h1++[Ay.list (es.map fun e=>sv e.s)]).length]?=_:=Ae
 have K3:Kp h1.length h1 (h1++[.list (es.map fun e=>sv e.s)]++[Ay.list ((Bb es).map fun e=>sv e.s)]):=Kp.app.trans .app
 have u2:h1.length<=(h1++[Ay.list (es.map fun e=>sv e.s)]).length:=by rw[aC];exact dQ _ _
 generalize h1++[.list (es.map fun e=>sv e.s)]++[Ay.list ((Bb es).map fun e=>sv e.s)]=h3 at e3 g3 K3
 generalize (h1++[Ay.list (es.map fun e=>sv e.s)]).length=q at e3 g3 u2
 have u3:h.length≠q:=by have t0:=EL g1;exact cE (aP t0 u2)
 refine Av (Bh (i:=3) (src:=.loc q) (items:=(Bb es).map fun e=>sv e.s) (body:=fun l h=>execSs (cF p n F) Hy l h)
  (NU h i j h.length q es) (fun k l h' hI=>by cases hI with|mk _ _ _ h1 h2 _=>exact Bw h2) (fun k v l h' hv hI=>by
   cases hI with
   | mk _ v3 v4 g1 g2 K=>
   rw[aK] at hv
   refine A9 (Option.map_eq_some_iff.mp hv) fun x hx A6=>?_;subst A6
   have hk:=(List.getElem?_eq_some_iff.mp hx).1
   have u0:x∈es:=(Fh D.eo.nds).mp (aX hx)
   have o:=D.eo.all x u0
   have sx:=o.seat D.ok
   have t1:=o.v1
   have t2:=o.v2
   have t3:=o.good.len
   have l1:=AB (v:=x.s.1) (j3 sx.1 rfl) (i5 sx.2.1 rfl)
   have l2:=AB (v:=x.s.2) (j3 sx.2.2.1 rfl) (i3 sx.2.2.2 rfl)
   have l3:=AB (v:=x.v) (j4 t1 rfl) (i5 t2 rfl)
   have Dk:=D.keep K
   refine xE Dk.st fun ep1 d1=>?_
   refine xE Dk.th fun ep2 d2=>?_
   have sb:∀ {l:Ah},BN l 0=some (.loc i)->BN l 3=some (sv x.s)->A1 (cF p n F) (.sub (.loc 0) (.loc 3)) l h'=.ok (.str x.n) h':=fun q1 q2=>An (v:=.loc i) (by rw[BO,q1];rfl) (u:=sv x.s) (by rw[BO,q2];rfl) (HT d1 D.eo.nds u0)
   have s2:=Ak (i:=4) (Bx (c:=cF p n F) (l:=[some (.loc i),some (.loc j),some (.loc h.length),some (sv x.s),v4]) (h:=h') (A4 (x:=.bi .str (.cons (.sub (.loc 3) (.int 0)) .nil)) (Cj (i:=x.s.1) (An rfl rfl rfl) (na sx.1 sx.2.1 rfl) rfl) (A4 (x:=.bi .str (.cons (.sub (.loc 3) (.int 1)) .nil)) (Cj (i:=x.s.2) (An rfl rfl rfl) (rY sx) rfl) (A4 (x:=.sub (.loc 0) (.loc 3)) (sb rfl rfl) (A3 (x:=.bi .str (.cons (.sub (.loc 1) (.sub (.loc 0) (.loc 3))) .nil)) (Cj (An rfl (sb rfl rfl) (Lq d2 D.fo.ndn (D.sub x u0))) (Rf (jl (CX _) [((.neg (jN 1000000000)),AC)] (jA (.neg (jN 18446744073709551616)) jI) AC rfl t1) (jl (CX _) [(AC,(jN 1000000000))] Ca (jN 18446744073709551616) rfl t2)) rfl))))) (by show 4<=1000;decide))
   have K2:Kp h'.length h' (h'++[.list [.str (Ad x.s.1),.str (Ad x.s.2),.str x.n,.str (Ad x.v)]]):=.app
   have g3:(h'++[Ay.list [.str (Ad x.s.1),.str (Ad x.s.2),.str x.n,.str (Ad x.v)]])[h'.length]?=some (.list ([Ad x.s.1,Ad x.s.2,x.n,Ad x.v].map .str)):=Ae
   generalize h'++[Ay.list [.str (Ad x.s.1),.str (Ad x.s.2),.str x.n,.str (Ad x.v)]]=h2 at s2 K2 g3
   have s3:=J2 (c:=cF p n F) (l:=[some (.loc i),some (.loc j),some (.loc h.length),some (sv x.s),some (.loc h'.length)]) (o:=.loc 2) rfl (K2.all g1) (GZ (k:=4) rfl g3 (uT l3 l1 l2 t3)) (K2.all g1) (by rw[aB,aB,bY];exact uU u1 hl)
   refine⟨_,_,(A5 s2).trans (Ao s3),NU.mk _ _ _ ?_ (Bm (K2.all g2) u3) (K.on K2 |>.trans (.set (aS _)))⟩
   rw[CL (K2.all g1),cS,hx,aU,aU];rfl) (f:=F)
  (l:=[some (.loc i),some (.loc j),some (.loc h.length),none,none]) (h:=h3) (by rw[aB,u1];exact aP (l4 hl rfl) hF) (NU.mk (k:=0) _ none none (K3.all g1) g3 (K1.then K3))) fun l' h4 e4 I4=>?_
 cases I4 with
 | mk _ v3 v4 g1 g2 K=>
 rw[aB,bS] at g1
 exact⟨_,_,AH ((A5 s1).trans ((A5 (DQ rfl (Bq rfl (A3 (Bq rfl (A3 rfl) e2)) e3) e4)).trans (Ao (AZ rfl)))),g1,K⟩
inductive Sz (h:A0) (t i j q:Nat) (T:Tb) (fs:List En) (k:Nat):Ah->A0->Prop
 | mk (h':A0) (v4:Option AV) (h2:h'[q]?=some (.list (fs.map fun e=>sv e.s))) (K:Kp h.length h h'):Sz h t i j q T fs k [some (.loc t),some T.av,some (.loc i),some (.loc j),v4] h'
theorem Z6{a b c:Int}:B9 h .ne (.tup [.int a,.int b,.int c]) (.tup [.int a,.int b,.int c])=some false:=by
 show some (!(decide (a=a)&&(decide (b=b)&&(decide (c=c)&&true))))=_
 rw[decide_eq_true rfl,decide_eq_true rfl,decide_eq_true rfl];rfl
theorem MP(H:CQ p)(S:G3 b h t T es d e)(D:F4 h i j T fs fs)(hp:es.Perm fs):∃ h',AD p (n+4) false "_law_alike" [.loc t,T.av,.loc i,.loc j] h=.ok (.bool true) h'/\Kp h.length h h':=by
 refine A9 (BS (n:=n+3) (h:=h) H.l_alike (as:=[.loc t,T.av,.loc i,.loc j]) [some (.loc t),some T.av,some (.loc i),some (.loc j),none] rfl rfl) fun F hF e1=>?_
 rw[e1]
 have hl:=D.len
 have u3:=Cu D.eo.nds
 refine xE D.st fun ep1 d1=>?_
 have t1:A1 (cF p (n+3) F) (.or (.cmp .ne (.tup (.cons (.attr "count" (.loc 0)) (.cons (.attr "first" (.loc 0)) (.cons (.attr "second" (.loc 0)) .nil)))) (.loc 1)) (.cmp .ne (.im "many" (.loc 0) .nil) (.bi .len (.cons (.loc 2) .nil)))) [some (.loc t),some T.av,some (.loc i),some (.loc j),none] h=.ok (.bool false) h:=
  Bg (Al (Dz (A4 (AU rfl S.tab.cnt) (A4 (AU rfl S.tab.fst) (A3 (AU rfl S.tab.snd)))) (by show 3<=1000;decide)) rfl Z6) (Al (CD rfl (S.tab.meth rfl) rfl (Xb (n:=n+2) H S)) (Bq rfl (A3 rfl) (R2 d1)) (Mw (by rw[hp.length_eq])))
 have e2:CI .list [.loc i] h=.ok (.loc h.length) (h++[.list (fs.map fun e=>sv e.s)]):=FU (Hl D.st) (AM (by rw[aB];exact n3 hl rfl))
 refine Av (Bh (i:=4) (src:=.loc h.length) (items:=fs.map fun e=>sv e.s) (body:=fun l h=>execSs (cF p (n+3) F) GQ l h)
  (Sz h t i j h.length T fs) (fun k l h' hI=>by cases hI with|mk _ _ h2 _=>exact Bw h2) (fun k v l h' hv hI=>by
   cases hI with
   | mk _ v4 g2 K=>
   rw[aK] at hv
   refine A9 (Option.map_eq_some_iff.mp hv) fun x hx A6=>?_;subst A6
   have u0:x∈fs:=aX hx
   have u1:x∈es:=hp.mem_iff.mpr u0
   have Dk:=D.keep K
   have Sk:=S.keep K
   refine xE Dk.st fun ep1 d1=>?_
   refine xE Dk.th fun ep2 d2=>?_
   have sb:A1 (cF p (n+3) F) (.sub (.loc 2) (.loc 4)) [some (.loc t),some T.av,some (.loc i),some (.loc j),some (sv x.s)] h'=.ok (.str x.n) h':=An rfl rfl (HT d1 D.eo.nds u0)
   exact⟨_,_,(Aa (Bg (Al (CD rfl (Sk.tab.meth rfl) (A3 rfl) (Z3 (n:=n) H Sk u1)) sb (GW rfl)) (Al (CD rfl (Sk.tab.meth rfl) (A3 sb) (MJ (n:=n+1) H Sk u1)) (An rfl sb (Lq d2 D.fo.ndn u0)) (Mw rfl)))),Sz.mk _ _ g2 K⟩) (f:=F)
  (l:=[some (.loc t),some T.av,some (.loc i),some (.loc j),none]) (h:=h++[.list (fs.map fun e=>sv e.s)]) (by rw[aB];exact aP (l4 hl rfl) hF) (Sz.mk (k:=0) _ none Ae .app)) fun l' h4 e4 I4=>?_
 cases I4 with
 | mk _ v4 g2 K=>
 have D4:=D.keep K
 have S4:=S.keep K
 refine MT (ML (n:=n+2) H S4) fun a h5 e5 g5 K5 _=>?_
 have D5:=D4.keep K5
 have e6:CI .list [.loc i] h5=.ok (.loc h5.length) (h5++[.list (fs.map fun e=>sv e.s)]):=FU (Hl D5.st) (AM (by rw[aB];exact n3 hl rfl))
 have e7:=Ja (h:=h5++[.list (fs.map fun e=>sv e.s)]) (Mq Ae) D.eo.nds (l4 hl rfl)
 have g7:(h5++[.list (fs.map fun e=>sv e.s)]++[Ay.list ((Bb fs).map fun e=>sv e.s)])[(h5++[Ay.list (fs.map fun e=>sv e.s)]).length]?=_:=Ae
 have K7:Kp h5.length h5 (h5++[.list (fs.map fun e=>sv e.s)]++[Ay.list ((Bb fs).map fun e=>sv e.s)]):=Kp.app.trans .app
 generalize h5++[.list (fs.map fun e=>sv e.s)]++[Ay.list ((Bb fs).map fun e=>sv e.s)]=h7 at e7 g7 K7
 generalize (h5++[Ay.list (fs.map fun e=>sv e.s)]).length=q at e7 g7
 have D7:=D5.keep K7
 refine A9 (Ld (c:=cF p (n+3) F) (l:=[some (.loc t),some T.av,some (.loc i),some (.loc j),v4]) (x:=.sub (.loc 2) (.loc 5)) (m:=1) (j:=5) (g:=fun e:En=>sv e.s) (fun e=>.str e.n) (its:=Bb fs) rfl (Bq rfl (A3 (Bq (as:=.cons (.loc 2) .nil) rfl (A3 rfl) e6)) e7) hF (fun h' K i=>Bw (K.all g7)) (fun z hz h' K=>by
   refine xE (D7.keep K).st fun ep hd=>?_
   exact⟨h',An rfl rfl (HT hd D.eo.nds ((Fh D.eo.nds).mp hz)),.refl⟩) (by rw[u3];exact n3 hl rfl)) fun h8 e8 K8=>?_
 have g8:(h8++[Ay.list ((Bb fs).map fun e=>.str e.n)])[h8.length]?=some (.list (((Bb fs).map (·.n)).map .str)):=by rw[Ae,cO];rfl
 have u2:(h8++[Ay.list ((Bb fs).map fun e=>.str e.n)])[a]?=some (.list (((Bb es).map (·.n)).map .str)):=by rw[AS (K8.all (K7.all g5)),cO];rfl
 have eq:=Wz (f:=5) (g:=AV.str) u2 g8 (fun a b=>rfl)
 rw[NP hp S.eo.nds,decide_eq_true rfl] at eq
 exact⟨_,AH ((Aa t1).trans ((A5 (DQ rfl (Bq rfl (A3 rfl) e2) e4)).trans (Ao (AZ (Al (CD rfl (S4.tab.meth rfl) rfl e5) e8 eq))))),K.on (K5.on (K7.on (K8.on .app)))⟩
end
end
section
open PySem
section
variable {sep:List Nat} {c:Nat}
theorem HW:∀ {q:List Nat} {ps:List (List Nat)},(Bv sep (q :: ps)).count c=((q :: ps).map (·.count c)).sum+ps.length*sep.count c
 | q,[]=>by show q.count c=q.count c+0+0*_;exact nS
 | q,r :: ps=>by
  show (q++sep++Bv sep (r :: ps)).count c=_
  rw[fK,fK,HW,aZ (l:=r :: ps),iU,aN,Nat.succ_mul]
  exact ZU
theorem LA:∀ {q:List Nat} {ps:List (List Nat)},(Bv sep (q :: ps)).length=((q :: ps).map (·.length)).sum+ps.length*sep.length
 | q,[]=>by show q.length=q.length+0+0*_;exact nS
 | q,r :: ps=>by
  show (q++sep++Bv sep (r :: ps)).length=_
  rw[aC,aC,LA,aZ (l:=r :: ps),iU,aN,Nat.succ_mul]
  exact ZU
theorem Pz{y:Nat}:∀ {ps:List (List Nat)},y∈Bv sep ps->y∈sep\/∃ p∈ps,y∈p
 | [],h=>nomatch h
 | [q],h=>.inr ⟨q,aH,h⟩
 | q :: r :: ps,h=>by
  have h:y∈q++sep++Bv sep (r :: ps):=h
  rcases List.mem_append.mp h with h|h
  ·rcases List.mem_append.mp h with h|h
   ·exact .inr ⟨q,aH,h⟩
   ·exact .inl h
  ·exact(Pz h).imp id fun ⟨p,hp,e⟩=>⟨p,aL _ hp,e⟩
theorem PA{y:Nat}:∀ {ps:List (List Nat)} {p:List Nat},p∈ps->y∈p->y∈Bv sep ps
 | [q],p,hp,h=>by rcases List.mem_singleton.mp hp with rfl;exact h
 | q :: r :: ps,p,hp,h=>by
  show y∈q++sep++Bv sep (r :: ps)
  rcases List.mem_cons.mp hp with rfl|hp
  ·exact cT _ (cT _ h)
  ·exact bQ _ (PA hp h)
theorem Xg{x z:List Nat}{k:Nat}(hk:1<=k)(hx:x.count 32=3)(hl:x.length<=60)(ho:AT x)(hz:AT z)(hz2:z.length<=2)(hc:z.count 32=2\/z.count 32=0):Ci (Jj x [32] z k)=none/\Bn (Jj x [32] z k):=by
 have hm:32∈x:=List.count_pos_iff.mp (ql (IG _) [(qN 3,Af)] (qA (qN 0) qI) Af rfl (aE (bO hx)))
 have h2:=OO hm hk
 have h3:=iG (⟨x.toArray⟩:Str) ⟨#[32]⟩ k
 have h4:=hV (⟨x.toArray⟩:Str) (Builtin.Str.occurrences ⟨x.toArray⟩ ⟨#[32]⟩ 0 (⟨x.toArray⟩:Str).length k) (⟨#[32]⟩:Str).length
 have e:Jj x [32] z k=(Builtin.Str.glued ⟨z.toArray⟩ (Builtin.Str.partsBetween ⟨x.toArray⟩ (Builtin.Str.occurrences ⟨x.toArray⟩ ⟨#[32]⟩ 0 (⟨x.toArray⟩:Str).length k) (⟨#[32]⟩:Str).length)).cps.toList:=rfl
 have h5:1<=(Builtin.Str.occurrences ⟨x.toArray⟩ ⟨#[32]⟩ 0 (⟨x.toArray⟩:Str).length k).length:=by
  rcases hq:Builtin.Str.occurrences ⟨x.toArray⟩ ⟨#[32]⟩ 0 (⟨x.toArray⟩:Str).length k with _|_
  ·rw[hq] at h2;cases h2
  ·exact cK (bE _)
 generalize Builtin.Str.partsBetween ⟨x.toArray⟩ (Builtin.Str.occurrences ⟨x.toArray⟩ ⟨#[32]⟩ 0 (⟨x.toArray⟩:Str).length k) (⟨#[32]⟩:Str).length=ps at h3 h4 e
 rw[StrLaws.glued_eq_join] at h3 e
 have h3:=congrArg (fun s:Str=>s.cps.toList) h3
 dsimp only at h3
 rw[Ic] at h3 e
 rcases ps with _|⟨q,ps⟩
 ·cases h4
 rw[aZ] at h3 e
 generalize q.cps.toList=q' at h3 e
 have u0:ps.length=(ps.map fun p=>p.cps.toList).length:=(aB ..).symm
 rw[aN,u0] at h4
 generalize ps.map (fun p=>p.cps.toList)=ps' at h3 e h4
 have h3:Bv [32] (q' :: ps')=x:=h3
 have e:Jj x [32] z k=Bv z (q' :: ps'):=e
 have c1:=HW (sep:=[32]) (c:=32) (q:=q') (ps:=ps')
 have c2:=HW (sep:=z) (c:=32) (q:=q') (ps:=ps')
 have l1:=LA (sep:=[32]) (q:=q') (ps:=ps')
 have l2:=LA (sep:=z) (q:=q') (ps:=ps')
 rw[h3,hx,show List.count 32 [32]=1 from rfl,Nat.mul_one] at c1
 rw[h3,show ([32]:List Nat).length=1 from rfl,Nat.mul_one] at l1
 rw[<- e] at c2 l2
 refine⟨Eb ?_,?_,fun y hy=>?_⟩
 ·rcases hc with hc|hc<;>rw[hc] at c2<;>lia
 ·have t0:ps'.length*z.length<=3*2:=Nat.mul_le_mul (ql (CW _ _) [((qA Af Aj),(qN 3))] Aj (qN 3) rfl (aE (bO c1))) hz2
  exact ql (Zm _ _ _ _ _) [(Af,(qA Aj AA)),((qA Aj Re),CS),(AA,(.mulL 3 (qN 2))),(CS,(qN 60))] Af (qN 100) rfl (aE l2) (aE (bO l1)) t0 hl
 ·rw[e] at hy
  rcases Pz hy with q|⟨p,hp,q⟩
  ·exact hz y q
  ·exact ho y (by rw[<- h3];exact PA hp q)
end
theorem HX{c:Nat}:∀ y:List Nat,Aq c (y++[c])=Aq c y++[[]]
 | []=>if_pos rfl
 | z :: r=>by
  show (if z=c then [] :: Aq c (r++[c]) else match Aq c (r++[c]) with
   | []=>[[z]]
   | w :: ws=>(z :: w) :: ws)=(if z=c then [] :: Aq c r else match Aq c r with
   | []=>[[z]]
   | w :: ws=>(z :: w) :: ws)++[[]]
  rw[HX]
  by_cases hz:z=c
  ·rw[if_pos hz,if_pos hz];rfl
  ·rw[if_neg hz,if_neg hz]
   have t0:=CE c r
   rcases hs:Aq c r with _|⟨w,ws⟩
   ·rw[hs] at t0;cases t0
   ·rfl
structure R4 (r a b c d:List Nat):Prop where
 e:r=BY a b c d
 fa:CM a
 fb:CM b
 fc:CM c
 fd:CM d
 oa:AT a
 ob:AT b
 oc:AT c
 od:AT d
 len:a.length+b.length+c.length+d.length<=57
theorem R4.ok{r a b c d:List Nat}(R:R4 r a b c d):Bn r:=by rw[R.e];exact By R.oa R.ob R.oc R.od (by have t0:=R.len;exact n3 t0 rfl)
theorem R4.l{r a b c d:List Nat}(R:R4 r a b c d):r.length<=60:=by rw[R.e,WY];have t0:=R.len;exact pC t0 rfl
theorem R4.split{r a b c d:List Nat}(R:R4 r a b c d):Aq 32 r=[a,b,c,d]:=by
 have t0:=R3 R.fa R.fb R.fc R.fd
 rw[<- R.e] at t0
 exact Option.some.inj (Cr t0).2
theorem R4.cnt{r a b c d:List Nat}(R:R4 r a b c d):r.count 32=3:=by
 have t0:=CE 32 r
 rw[R.split] at t0
 exact(Nat.succ.inj t0).symm
structure mF (r0:List Nat) (rs:List (List Nat)):Prop where
 w:∀ r∈r0 :: rs,∃ a b c d,R4 r a b c d
 h0:AE r0=none
 hs:∀ r∈rs,BB r=none
 len:rs.length<=20
theorem mF.ok{r0:List Nat}{rs:List (List Nat)}(W:mF r0 rs):∀ r∈r0 :: rs,Bn r:=fun r hr=>by
 refine Rh (W.w r hr) fun a b c d R=>?_
 exact R.ok
structure Jb (x:List Nat):Prop where
 no:Gb x=none
 sm:∀ c∈x,c<128
 len:x.length<=3000
theorem IE{rows:List (List Nat)}(hr:∀ r∈rows,Bn r)(hl:rows.length<=25)(hp:EQ rows=none):Jb (B0 rows):=
 ⟨(HV hr).trans hp,DS hr,by have t0:=Fz hr;exact nR t0 hl⟩
section
variable {r0:List Nat} {rs:List (List Nat)}
theorem PB(W:mF r0 rs){r:Nat}(hr:r<(r0 :: rs).length){new:List Nat}(ok:Bn new)(h0:r=0->BB new=none)(h1:0<r->AE new=none):Jb (B0 ((r0 :: rs).take r++[new]++(r0 :: rs).drop (r+1))):=by
 have hl:=W.len
 refine IE (fun x hx=>?_) ?_ ?_
 ·rcases List.mem_append.mp hx with hx|hx
  ·rcases List.mem_append.mp hx with hx|hx
   ·exact W.ok x (gW hx)
   ·rcases List.mem_singleton.mp hx with rfl;exact ok
  ·exact W.ok x (gX hx)
 ·exact n3 (ZN (xs:=r0 :: rs) (cK hl)) rfl
 ·rcases r with _|r
  ·exact DE (.inl (h0 rfl))
  ·show EQ (r0 :: (rs.take r++[new]++rs.drop (r+1)))=none
   exact DE (.inr ⟨new,cT _ (bQ _ aH),h1 (Nat.succ_pos _)⟩)
end
section
variable {p:AI} {n:Nat} {h:A0} {i:Nat} {c:CA} {l:Ah}
theorem qV(r:Nat):(r:Int)+1=((r+1:Nat):Int):=by exact cI (jl (CX _) [] Ca Ca rfl) (jl (CX _) [] Ca Ca rfl)
theorem mG{a b:Nat}{xs ys:List AV}(ha:h[a]?=some (.list xs))(hb:h[b]?=some (.list ys))(hl:xs.length+ys.length<=3000):Cz .add (.loc a) (.loc b) h=.ok (.loc h.length) (h++[.list (xs++ys)]):=
 BF (o:=SS (Am h a) (Am h b)) (by rw[B4 ha,B4 hb];rfl) (AM (by rw[aC];exact hl))
theorem H0{k:Nat}{xs:List AV}(hi:h[i]?=some (.list xs))(hl:xs.length<=3000):C0 (.loc i) .none (.int k) h=.ok (.loc h.length) (h++[.list (xs.take k)]):=
 BF (o:=(Am h i).bind fun xs=>Do xs .none (.int k)) (by rw[B4 hi,aW,WU hl]) (AM (by rw[bY];exact uV hl))
theorem Fj{x y:X}{h1 h2:A0}{a b:Nat}{xs ys:List AV}(e1:A1 c x l h=.ok (.loc a) h1)(g1:h1[a]?=some (.list xs))(K1:Kp h.length h h1)(e2:A1 c y l h1=.ok (.loc b) h2)(g2:h2[b]?=some (.list ys))(K2:Kp h1.length h1 h2)(hl:xs.length+ys.length<=3000):
  ∃ a h',A1 c (.bin .add x y) l h=.ok (.loc a) h'/\h'[a]?=some (.list (xs++ys))/\Kp h.length h h':=
 ⟨_,_,A8 e1 e2 (mG (K2.all g1) g2 hl),Ae,K1.on (K2.on .app)⟩
theorem SA(H:CQ p)(hF:c.F=AD p (n+1) false){rows:List (List Nat)}{r:Nat}{x:X}{new:List Nat}(hi:h[i]?=some (.list (rows.map .str)))(hr:∀ r∈rows,Bn r)(ok:Bn new)(hl:rows.length<=21)(l0:BN l 0=some (.loc i))(l3:BN l 3=some (.int r))(ex:∀ h',Kp h.length h h'->A1 c x l h'=.ok (.str new) h'):
  ∃ h',A1 c (.call "_law_text" (.cons (.bin .add (.bin .add (.slice (.loc 0) .none (.loc 3)) (.list (.cons x .nil))) (.slice (.loc 0) (.bin .add (.loc 3) (.int 1)) .none)) .nil)) l h=.ok (.str (B0 (rows.take r++[new]++rows.drop (r+1)))) h'/\Kp h.length h h':=by
 have e0:∀ h',A1 c (.loc 0) l h'=.ok (.loc i) h':=fun h'=>by rw[BO,l0];rfl
 have e3:∀ h',A1 c (.loc 3) l h'=.ok (.int r) h':=fun h'=>by rw[BO,l3];rfl
 have u0:(rows.map AV.str).length<=3000:=by rw[aB];exact n3 hl rfl
 refine AF (Fj (Ba (e0 h) Q0 (e3 h) (H0 hi u0)) Ae .app (Bx (A3 (ex _ .app)) (by show 1<=1000;decide)) Ae .app (Zs (mT (rO hl)) (aS 1) rfl)) fun a h1 q1 g1 K1=>?_
 refine AF (Fj q1 g1 K1 (Ba (e0 h1) (A8 (x:=.int 1) (e3 h1) rfl (CO.trans (by rw[qV]))) Q0 (Hk (k:=r+1) (K1.all hi) u0)) Ae .app (Zs (vZ (c:=22) (mT (rO hl)) (aS 1) rfl) (mU (rO hl)) rfl)) fun a h2 q2 g2 K2=>?_
 refine A9 (CU (n:=n) H (rows:=rows.take r++[new]++rows.drop (r+1)) (i:=a) (h:=h2) (by rw[g2,aU,aU,gR,iV];rfl) (fun x hx=>?_) ?_) fun h3 q3 K3=>⟨h3,Ac (A3 q2) (by rw[hF];exact q3),K2.on K3⟩
 ·rcases List.mem_append.mp hx with hx|hx
  ·rcases List.mem_append.mp hx with hx|hx
   ·exact hr x (gW hx)
   ·rcases List.mem_singleton.mp hx with rfl;exact ok
  ·exact hr x (gX hx)
 ·exact n3 (ZN hl) rfl
noncomputable def Xh:List (List Nat)->Xs
 | []=>.nil
 | z :: r=>.cons (.str z) (Xh r)
theorem SD:∀ zs:List (List Nat),evalXs c (Xh zs) l h=.ok (zs.map .str) h
 | []=>rfl
 | z :: r=>A4 rfl (SD r)
theorem CN(zs:List (List Nat)){x:X}{v:Int}{m:Nat}(ex:∀ h',A1 c x l h'=.ok (.int v) h')(hm:zs.length=m)(h0:0<m)(kh:m<=1000):∃ z∈zs,A1 c (.sub (.list (Xh zs)) (.bin .mod x (.int m))) l h=.ok (.str z) (h++[.list (zs.map .str)]):=by
 refine A9 (C3 v (m:=m) (bA.2 h0)) fun k hk hl=>?_
 have u0:k<zs.length:=by exact nT hm hl
 exact⟨zs[k],bZ u0,CZ (i:=k) (SD zs) (A8 (ex _) rfl ((B1 (by exact fun g=>jf (DT _ _) [(Ca,BH),(BH,jO),(jO,AC)] rfl hl (aO g) (aQ _))).trans (by rw[hk]))) (by rw[aB];exact n3 (aR (aE hm) kh) rfl) (by rw[aK,aF u0];rfl)⟩
end
end
section
open PySem
noncomputable def PC:List (List Nat):=[[],[48,48],[48,48,55],[43,49],[49,95,48],[49,46],[48,120,49],[49,50,51,52,53,54,55,56,57,48,49],[32,49],[45,48],[45,45,49],[45],[111,110,101]]
noncomputable def Xi:List (List Nat):=[[45,48],[45,48],[45,48,49],[45,45,49],[45],[43,53],[49,95,48],[49,50,51,52,53,54,55,56,57,48,49]]
noncomputable def Xj:List (List Nat):=[[],[32,97],[97,32],[97,32,98]]
noncomputable def Ec:Ss:=match Fd.body with
 | .cons _ (.cons _ (.cons _ r))=>r
 | r=>r
section
variable {p:AI} {n:Nat} {h:A0} {i:Nat}
theorem Z7:∀ z∈PC,Ax z=none/\z≠B8/\AT z/\z.length<=11:=by unfold AT PC;decide
theorem Z8:∀ z∈Xi,valOf z=none/\AT z/\z.length<=11:=by unfold AT Xi;decide
theorem Z9:∀ z∈Xj,¬ CM z/\AT z/\z.length<=11:=by unfold AT Xj CM;decide
theorem Xk(H:CQ p)(v:Int):∃ z∈PC,AD p (n+1) false "_law_number" [.int v] h=.ok (.str z) (h++[.list (PC.map .str)]):=by
 refine A9 (BS (n:=n) (h:=h) H.l_number (as:=[.int v]) [some (.int v)] rfl rfl) fun F hF e=>?_
 rw[e]
 refine A9 (CN (c:=cF p n F) (l:=[some (.int v)]) (h:=h) PC (x:=.loc 0) (v:=v) (fun _=>rfl) rfl (by decide) (by decide)) fun z hz q=>?_
 exact⟨z,hz,AH (Ao (AZ q))⟩
theorem IF{k:Nat}{xs:List AV}{v:AV}(hi:h[i]?=some (.list xs))(hk:k<xs.length):C7 (.loc i) (.int k) v h=some (h.set i (.list (xs.set k v))):=by
 delta C7
 dsimp only
 rw[hi]
 show US h i xs v (some (k:Int))=_
 delta US
 rw[aW,if_pos ⟨by exact aQ _,by exact bA.2 hk⟩,bT]
structure Sp (h:A0) (i w0:Nat) (r0:List Nat) (rs:List (List Nat)) (r:Nat) (row a b c d:List Nat):Prop where
 hi:h[i]?=some (.list ((r0 :: rs).map .str))
 lt:i<w0
 hw:h[w0]?=some (.list ([a,b,c,d].map .str))
 W:mF r0 rs
 hr:(r0 :: rs)[r]?=some row
 R:R4 row a b c d
noncomputable def Bt(c:CA)(ss:Ss)(l:Ah)(h:A0)(b:Nat):Prop:=∃ x l' h',execSs c ss l h=.ok (.ret (.str x)) l' h'/\Kp b h h'/\Jb x
variable {w0 r w F:Nat} {r0:List Nat} {rs:List (List Nat)} {row a b c d:List Nat} {cc o:Int}
theorem Sp.lt'(S:Sp h i w0 r0 rs r row a b c d):r<(r0 :: rs).length:=(List.getElem?_eq_some_iff.mp S.hr).1
theorem Sp.len(S:Sp h i w0 r0 rs r row a b c d):(r0 :: rs).length<=21:=by have t0:=S.W.len;rw[aN];exact l4 t0 rfl
theorem DH(H:CQ p)(S:Sp h i w0 r0 rs r row a b c d){h':A0}{a' b' c' d':List Nat}{v5 v6 v7:Option AV}(K:Kp w0 h h')(hw:h'[w0]?=some (.list ([a',b',c',d'].map .str)))(ok:Bn (BY a' b' c' d'))(h0:r=0->BB (BY a' b' c' d')=none)(h1:0<r->AE (BY a' b' c' d')=none):
  Bt (cF p (n+1) F) (.cons (.ret (.call "_law_text" (.cons (.bin .add (.bin .add (.slice (.loc 0) .none (.loc 3)) (.list (.cons (.bm .join (.str [32]) (.cons (.loc 4) .nil)) .nil))) (.slice (.loc 0) (.bin .add (.loc 3) (.int 1)) .none)) .nil))) .nil) [some (.loc i),some (.int cc),some (.int o),some (.int r),some (.loc w0),v5,v6,v7] h' w0:=by
 have hl:=ok.len
 rw[WY] at hl
 refine A9 (SA (c:=cF p (n+1) F) (l:=[some (.loc i),some (.int cc),some (.int o),some (.int r),some (.loc w0),v5,v6,v7]) H rfl (K _ _ S.lt S.hi) S.W.ok ok S.len rfl rfl (fun h2 K2=>GZ (k:=4) rfl (K2.all hw) (jX hl))) fun h3 e3 K3=>?_
 exact⟨_,_,h3,Ao (AZ e3),K3.low (by have t0:=EL hw;exact n7 t0 rfl),PB S.W S.lt' ok h0 h1⟩
theorem Bt.of{c:CA}{ss ss':Ss}{l l':Ah}{h h':A0}{b:Nat}(a:Bt c ss' l' h' b)(e:execSs c ss l h=execSs c ss' l' h')(K:Kp b h h'):Bt c ss l h b:=by
 refine B2 a fun x l2 h2 q K2 B=>?_;try clear a
 exact⟨x,l2,h2,e.trans q,K.trans K2,B⟩
theorem Bt.stop{c:CA}{ss:Ss}{t:X}{y r:Ss}{l:Ah}{h:A0}{b:Nat}(a:Bt c ss l h b)(e:A1 c t l h=.ok (.bool true) h):Bt c (.cons (.iff t ss y) r) l h b:=by
 refine B2 a fun x l2 h2 q K2 B=>?_;try clear a
 exact⟨x,l2,h2,DW (Ip e q),K2,B⟩
theorem Xl{l:Ah}{m k:Int}{y:X}{v:Int}{c:CA}(e:A1 c y l h=.ok (.int v) h)(hm:m≠0):A1 c (.cmp .eq (.bin .mod y (.int m)) (.int k)) l h=.ok (.bool (decide (v.fmod m=k))) h:=Al (A8 e rfl (B1 hm)) rfl OV
theorem xD(H:CQ p)(S:Sp h i w0 r0 rs r row a b c d)(hw:w<4)(hq:cc.fmod 7=0):Bt (cF p (n+1) F) Ec [some (.loc i),some (.int cc),some (.int o),some (.int r),some (.loc w0),some (.int w),none,none] h w0:=by
 have R:=S.R
 have hl:=R.len
 refine Bt.stop ?_ ((Xl rfl (by decide)).trans (by rw[decide_eq_true hq]))
 refine A9 (Xk (n:=n) (h:=h) H (o.fdiv 7)) fun z hz ez=>?_
 refine MS (Z7 z hz) fun z1 z2 z3 z4=>?_
 have s1:=Fa (c:=cF p (n+1) F) (l:=[some (.loc i),some (.int cc),some (.int o),some (.int r),some (.loc w0),some (.int w),none,none]) (o:=.loc 4) (y:=.loc 5) (Ac (f:="_law_number") (A3 (A8 (op:=.div) (o:=.loc 2) (x:=.int 7) rfl rfl (BX (by decide)))) ez) rfl rfl (IF (AS S.hw) (show w<([a,b,c,d].map AV.str).length from hw))
 have K1:Kp w0 h ((h++[Ay.list (PC.map .str)]).set w0 (.list (([a,b,c,d].map AV.str).set w (.str z)))):=Kp.app.trans (.set (aS _))
 have g1:((h++[Ay.list (PC.map .str)]).set w0 (.list (([a,b,c,d].map AV.str).set w (.str z))))[w0]?=some (.list (([a,b,c,d].map AV.str).set w (.str z))):=CL (AS S.hw)
 generalize (h++[Ay.list (PC.map .str)]).set w0 (.list (([a,b,c,d].map AV.str).set w (.str z)))=h1 at s1 K1 g1
 refine Bt.of ?_ (A5 s1) K1
 by_cases hr:0<r
 case neg=>
  have e0:∀ {y:X} {h:A0} {l:Ah} {c:CA},BN l 3=some (.int r)->A1 c (.and (.cmp .gt (.loc 3) (.int 0)) y) l h=.ok (.bool false) h:=fun q=>E8 (Al (by rw[BO,q];rfl) rfl (WO (fun g=>jf (CX _) [(AC,jO),((jA jO jI),AC)] rfl (bN.2 (bK hr)) g)))
  refine Bt.of ?_ ((Aa (e0 rfl)).trans (Aa (e0 rfl))) .refl
  revert g1
  apply rI hw
  ·exact fun g1=>DH H S K1 g1 (By z3 R.ob R.oc R.od (jY z4 hl)) (fun _=>Hi (.inl z2)) (fun q=>absurd q hr)
  ·exact fun g1=>DH H S K1 g1 (By R.oa z3 R.oc R.od (nU z4 hl)) (fun _=>Hi (.inr (.inl z1))) (fun q=>absurd q hr)
  ·exact fun g1=>DH H S K1 g1 (By R.oa R.ob z3 R.od (nV z4 hl)) (fun _=>Hi (.inr (.inr (.inl z1)))) (fun q=>absurd q hr)
  ·exact fun g1=>DH H S K1 g1 (By R.oa R.ob R.oc z3 (nW z4 hl)) (fun _=>Hi (.inr (.inr (.inr z1)))) (fun q=>absurd q hr)
 have e1:∀ {k:Int} {h:A0} {l:Ah} {c:CA},BN l 3=some (.int r)->BN l 5=some (.int w)->A1 c (.and (.cmp .gt (.loc 3) (.int 0)) (.cmp .eq (.loc 5) (.int k))) l h=.ok (.bool (decide ((w:Int)=k))) h:=fun q q2=>Cn (Al (by rw[BO,q];rfl) rfl (WN (bA.2 hr))) (Al (by rw[BO,q2];rfl) rfl OV)
 revert g1 e1
 apply rI hw
 ·exact fun g1 e1=>Bt.of (DH H S K1 g1 (By z3 R.ob R.oc R.od (jY z4 hl)) (fun q=>absurd (q▸hr) (fG 0)) (fun _=>Fy (.inl z1))) ((Aa (e1 rfl rfl)).trans (Aa (e1 rfl rfl))) .refl
 ·exact fun g1 e1=>Bt.of (DH H S K1 g1 (By R.oa z3 R.oc R.od (nU z4 hl)) (fun q=>absurd (q▸hr) (fG 0)) (fun _=>Fy (.inr (.inl z1)))) ((Aa (e1 rfl rfl)).trans (Aa (e1 rfl rfl))) .refl
 ·intro g1 e1
  refine A9 (CN (c:=cF p (n+1) F) (l:=[some (.loc i),some (.int cc),some (.int o),some (.int r),some (.loc w0),some (.int (2:Nat)),none,none]) (h:=h1) Xj (x:=.bin .div (.loc 2) (.int 7)) (v:=o.fdiv 7) (fun _=>A8 rfl rfl (BX (by decide))) rfl (by decide) (by decide)) fun y hy ey=>?_
  refine JZ (Z9 y hy) fun y1 y2 y3=>?_
  have s2:=Fa (o:=.loc 4) (y:=.int 2) ey rfl rfl (IF (k:=2) (AS g1) (by show 2<4;decide))
  have K2:Kp w0 h1 ((h1++[Ay.list (Xj.map .str)]).set w0 (.list ((([a,b,c,d].map AV.str).set 2 (.str z)).set 2 (.str y)))):=Kp.app.trans (.set (aS _))
  have g2:((h1++[Ay.list (Xj.map .str)]).set w0 (.list ((([a,b,c,d].map AV.str).set 2 (.str z)).set 2 (.str y))))[w0]?=some (.list ([a,b,y,d].map .str)):=CL (AS g1)
  exact Bt.of (DH H S (K1.trans K2) g2 (By R.oa R.ob y2 R.od (nV y3 hl)) (fun q=>absurd (q▸hr) (fG 0)) (fun _=>Fy (.inr (.inr (.inl y1))))) ((Aa (e1 rfl rfl)).trans (A5 (Ip (e1 rfl rfl) (Ao s2)))) K2
 ·intro g1 e1
  refine A9 (CN (c:=cF p (n+1) F) (l:=[some (.loc i),some (.int cc),some (.int o),some (.int r),some (.loc w0),some (.int (3:Nat)),none,none]) (h:=h1) Xi (x:=.bin .div (.loc 2) (.int 7)) (v:=o.fdiv 7) (fun _=>A8 rfl rfl (BX (by decide))) rfl (by decide) (by decide)) fun y hy ey=>?_
  refine JZ (Z8 y hy) fun y1 y2 y3=>?_
  have s2:=Fa (o:=.loc 4) (y:=.int 3) ey rfl rfl (IF (k:=3) (AS g1) (by show 3<4;decide))
  have K2:Kp w0 h1 ((h1++[Ay.list (Xi.map .str)]).set w0 (.list ((([a,b,c,d].map AV.str).set 3 (.str z)).set 3 (.str y)))):=Kp.app.trans (.set (aS _))
  have g2:((h1++[Ay.list (Xi.map .str)]).set w0 (.list ((([a,b,c,d].map AV.str).set 3 (.str z)).set 3 (.str y))))[w0]?=some (.list ([a,b,c,y].map .str)):=CL (AS g1)
  exact Bt.of (DH H S (K1.trans K2) g2 (By R.oa R.ob R.oc y2 (nW y3 hl)) (fun q=>absurd (q▸hr) (fG 0)) (fun _=>Fy (.inr (.inr (.inr y1))))) ((A5 (Ip (e1 rfl rfl) (Ao s2))).trans (Aa (e1 rfl rfl))) K2
end
end
section
open PySem
section
variable {p:AI} {n:Nat} {h:A0} {i w0 r w F:Nat} {r0:List Nat} {rs:List (List Nat)} {row a b c d:List Nat} {cc o:Int}
theorem SE(h:Ci x=none):BB x=none/\AE x=none:=⟨by rw[BB,h];rfl,by rw[AE,h];rfl⟩
theorem Za(W:mF r0 rs){z:List Nat}(hz:z∈([[],[32],[10,10],[120]]:List (List Nat))):Jb ((B0 (r0 :: rs)).dropLast++z):=by
 have hl:=W.len
 have tl:=Fz W.ok
 have ts:=DS W.ok
 rw[J6] at tl ts |-
 have u0:Aq 10 (Bv [10] (r0 :: rs))=r0 :: rs:=DL (fun q=>nomatch q) fun p hp q=>((W.ok p hp).ok 10 q).2 rfl
 rw[gZ]
 rw[aC,bV,aN] at tl
 generalize Bv [10] (r0 :: rs)=y at tl ts u0
 have sm:∀ z,(∀ c∈z,c<128)->∀ c∈y++z,c<128:=fun z hz c hc=>(List.mem_append.mp hc).elim (fun q=>ts c (cT _ q)) (hz c)
 have np:∀ c:Nat,c≠10->Gb (y++[c])=none:=fun c hc=>if_neg (by rw[eV];exact fun q=>hc (Option.some.inj q))
 simp only[bU,cL,or_false] at hz
 rcases hz with rfl|rfl|rfl|rfl
 ·refine⟨?_,sm _ (by decide),by rw[aC];show _+0<=_;exact ql (CW _ _) [(Ee,(.mulL 101 BP)),((.mulL 101 Af),(.mulL 101 (qN 20)))] (qA Aj (qN 0)) (qN 3000) rfl tl (cH 101 hl)⟩
  rw[dC,Gb]
  refine if_neg fun q=>?_
  rcases List.eq_nil_or_concat y with rfl|⟨y',e,rfl⟩
  ·cases q
  ·rw[gM,eV] at q
   cases q
   rw[gM,HX] at u0
   have hm:([]:List Nat)∈r0 :: rs:=by rw[<- u0];exact bQ _ aH
   refine Rh (W.w _ hm) fun a b c d R=>?_
   have t0:=R.cnt
   cases t0
 ·exact⟨np 32 (by decide),sm _ (by decide),by rw[aC];show _+1<=_;exact nX hl tl⟩
 ·refine⟨?_,sm _ (by decide),by rw[aC];show _+2<=_;exact ql (CW _ _) [(Ee,(.mulL 101 BP)),((.mulL 101 Af),(.mulL 101 (qN 20)))] (qA Aj (qN 2)) (qN 3000) rfl tl (cH 101 hl)⟩
  rw[show y++[10,10]=(y++[10])++[10] by rw[bC];rfl,Gb,eV,if_pos rfl,gZ,HX,u0]
  exact DE (.inr ⟨[],bQ _ aH,rfl⟩)
 ·exact⟨np 120 (by decide),sm _ (by decide),by rw[aC];show _+1<=_;exact nX hl tl⟩
theorem LV{l:Ah}{k:Int}{c:CA}(e:BN l 1=some (.int cc))(hq:cc.fmod 7≠k):A1 c (.cmp .eq (.bin .mod (.loc 1) (.int 7)) (.int k)) l h=.ok (.bool false) h:=(Xl (v:=cc) (by rw[BO,e];rfl) (by decide)).trans (by rw[decide_eq_false hq])
theorem Xm{l:Ah}{k:Int}{c:CA}(e:BN l 1=some (.int cc))(hq:cc.fmod 7=k):A1 c (.cmp .eq (.bin .mod (.loc 1) (.int 7)) (.int k)) l h=.ok (.bool true) h:=(Xl (v:=cc) (by rw[BO,e];rfl) (by decide)).trans (by rw[decide_eq_true hq])
theorem Hm{c:CA}{l:Ah}{t x m:X}{u v q s:Nat}{ts:Xs}{y:List Nat}{bd r:Ss}(e:A1 c t l h=.ok (.bool false) h):execSs c (.cons (.repl t u ts x v q s y m bd) r) l h=execSs c r l h:=A5 (by rw[PZ,e];rfl)
noncomputable abbrev R8(i:Nat)(cc o:Int)(r w0 w:Nat):Ah:=[some (.loc i),some (.int cc),some (.int o),some (.int r),some (.loc w0),some (.int w),none,none]
theorem xF(H:CQ p)(S:Sp h i w0 r0 rs r row a b c d)(hq:cc.fmod 7=1):Bt (cF p (n+1) F) Ec (R8 i cc o r w0 w) h w0:=by
 refine Bt.of ?_ (Aa (LV rfl (fun g=>absurd (hq.symm.trans g) (by decide)))) .refl
 refine Bt.stop ?_ (Xm rfl hq)
 have hl:=S.len
 refine A9 (CU (n:=n) H S.hi S.W.ok (n3 hl rfl)) fun h1 e1 K1=>?_
 have tl:=Fz S.W.ok
 refine A9 (CN (c:=cF p (n+1) F) (l:=R8 i cc o r w0 w) (h:=h1) [[],[32],[10,10],[120]] (x:=.loc 2) (v:=o) (fun _=>rfl) rfl (by decide) (by decide)) fun z hz ez=>?_
 have zl:z.length<=2:=by clear ez;revert z;decide
 exact⟨_,_,_,Ao (AZ (A8 (Ba (Ac (A3 rfl) e1) rfl (IY rfl) (Lv (ql (CW _ _) [(Af,(.mulL 101 Aj)),((.mulL 101 Aj),(.mulL 101 (qN 21)))] Af (qN 3000) rfl tl (cH 101 hl)))) ez (Cv (by rw[List.length_dropLast];exact ql (Ck _ _ _) [(Af,(.mulL 101 Aj)),(AA,Af),((.mulL 101 Aj),(.mulL 101 (qN 21)))] AA (qN 3000) rfl tl (dH _ _) (cH 101 hl)) (n3 zl rfl)))),(K1.low (by have t0:=EL S.hw;exact n7 t0 rfl)).trans .app,Za S.W hz⟩
theorem Xn(H:CQ p)(S:Sp h i w0 r0 rs r row a b c d){h':A0}{new:List Nat}{v4 v5 v6:Option AV}(K:Kp w0 h h')(hl:w0<=h'.length)(ok:Bn new)(hn:Ci new=none):
  Bt (cF p (n+1) F) G8 [some (.loc i),some (.int cc),some (.int o),some (.int r),v4,v5,v6,some (.str new)] h' w0:=by
 refine A9 (SA (c:=cF p (n+1) F) (l:=[some (.loc i),some (.int cc),some (.int o),some (.int r),v4,v5,v6,some (.str new)]) (x:=.loc 7) H rfl (K _ _ S.lt S.hi) S.W.ok ok S.len rfl rfl (fun h2 K2=>rfl)) fun h3 e3 K3=>?_
 exact⟨_,_,h3,Ao (AZ e3),K3.low hl,PB S.W S.lt' ok (fun _=>(SE hn).1) (fun _=>(SE hn).2)⟩
theorem Xo(S:Sp h i w0 r0 rs r row a b c d){h':A0}(K:Kp w0 h h'):Cc (.loc i) (.int r) h'=.ok (.str row) h':=Bf (AM (by rw[aB];have t0:=S.len;exact n3 t0 rfl)) (K _ _ S.lt S.hi) (aQ _) (by rw[bT,aK,S.hr];rfl)
theorem xG(H:CQ p)(S:Sp h i w0 r0 rs r row a b c d)(hq:cc.fmod 7=2):Bt (cF p (n+1) F) Ec (R8 i cc o r w0 w) h w0:=by
 refine Bt.of ?_ ((Aa (LV rfl (fun g=>absurd (hq.symm.trans g) (by decide)))).trans (Aa (LV rfl (fun g=>absurd (hq.symm.trans g) (by decide))))) .refl
 refine A9 (CN (c:=cF p (n+1) F) (l:=R8 i cc o r w0 w) (h:=h) [[32,32],[9],[]] (x:=.bin .div (.loc 2) (.int 61)) (v:=o.fdiv 61) (fun _=>A8 rfl rfl (BX (by decide))) rfl (by decide) (by decide)) fun z hz ez=>?_
 refine A9 (C3 (o.fdiv 183) (m:=3) (by decide)) fun k hk hk3=>?_
 have R:=S.R
 obtain⟨z1,z2,z3,z4⟩:AT z/\z.length<=2/\(z.count 32=2\/z.count 32=0)/\z≠[32]:=by unfold AT;clear ez;revert z;decide
 have rr:=Xg (k:=k+1) (bF rfl) R.cnt R.l R.ok.ok z1 z2 z3
 have hm:(32:Nat)∈row:=List.count_pos_iff.mp (by rw[R.cnt];decide)
 refine B2 (Xn (n:=n) (F:=F) (cc:=cc) (o:=o) (v4:=some (.loc w0)) (v5:=some (.int w)) (v6:=some (.str z)) H S (h':=h++[.list (([[32,32],[9],[]]:List (List Nat)).map .str)]) .app (by rw[aC];have t0:=EL S.hw;exact nY t0) rr.2 rr.1) fun x l2 h2 q K2 B=>?_
 refine⟨x,l2,h2,DW ?_,Kp.app.trans K2,B⟩
 have ez:A1 (cF p (n+1) F) (.sub (.list (.cons (.str [32,32]) (.cons (.str [9]) (.cons (.str []) .nil)))) (.bin .mod (.bin .div (.loc 2) (.int 61)) (.int 3))) (R8 i cc o r w0 w) h=_:=ez
 rw[PZ,Xm rfl hq,Jy,kP,ez,Jy,A8 (op:=.add) (o:=.int 1) (x:=.bin .mod (.bin .div (.loc 2) (.int 183)) (.int 3)) rfl (A8 (A8 rfl rfl (BX (by decide))) rfl (B1 (by decide))) CO,Jy]
 have ei:Ob ((R8 i cc o r w0 w).set 6 (some (.str z))) (h++[.list (([[32,32],[9],[]]:List (List Nat)).map .str)]) 0 3=some (.str row):=by
  show (Am _ i).bind (fun xs=>IN xs (some (r:Int)))=_
  rw[B4 (AS S.hi),aW]
  show (if ((r0 :: rs).map AV.str).length<=Ab then idx? ((r0 :: rs).map AV.str) r else none)=_
  rw[if_pos (AM (by rw[aB];have t1:=S.len;exact n3 t1 rfl)),JR (aQ _),bT,aK,S.hr];rfl
 have eo:Oa (.str row) [32] (.str z) (.int (1+(o.fdiv 183).fmod 3))=some (.str (Jj row [32] z (k+1))):=by
  show (if ([32]:List Nat).length=1/\[32]≠z/\row.length<=1000/\z.length<=10/\1<=1+(o.fdiv 183).fmod 3/\1+(o.fdiv 183).fmod 3<=1000/\(∀ c∈[32],c∈row) then some (AV.str (Jj row [32] z (1+(o.fdiv 183).fmod 3).toNat)) else none)=_
  have t2:=R.l
  rw[hk,if_pos ⟨rfl,gF z4,by exact n3 t2 rfl,by exact n3 z2 rfl,by exact jl (CX _) [(jO,AC)] jI (jA jI AC) rfl (aQ _),by exact jl (CX _) [(Ca,(jN 3))] (jA jI AC) (jN 1000) rfl hk3,fun c hc=>by rcases List.mem_singleton.mp hc with rfl;exact hm⟩,show (1+(k:Int)).toNat=k+1 by exact uW]
 rw[ei,aW,eo]
 exact q
theorem xH(H:CQ p)(S:Sp h i w0 r0 rs r row a b c d)(hq:cc.fmod 7=3):Bt (cF p (n+1) F) Ec (R8 i cc o r w0 w) h w0:=by
 refine Bt.of ?_ ((Aa (LV rfl (fun g=>absurd (hq.symm.trans g) (by decide)))).trans ((Aa (LV rfl (fun g=>absurd (hq.symm.trans g) (by decide)))).trans (Hm (LV rfl (fun g=>absurd (hq.symm.trans g) (by decide)))))) .refl
 refine Bt.stop ?_ (Xm rfl hq)
 have hl:=S.len
 have hr:∀ x∈rs,Bn x:=fun x hx=>S.W.ok x (aL _ hx)
 rw[aN] at hl
 refine A9 (CU (n:=n) H (h:=h++[.list (((r0 :: rs).map AV.str).drop 1)]) (rows:=rs) Ae hr (l5 hl rfl)) fun h1 e1 K1=>?_
 refine⟨_,_,h1,Ao (AZ (Ac (A3 (Ba rfl rfl rfl (Hk (k:=1) S.hi (by rw[aB,aN];exact n3 hl rfl)))) e1)),Kp.app.on K1,IE hr (l5 hl rfl) ?_⟩
 rcases hrs:rs with _|⟨x,q⟩
 ·rfl
 ·exact DE (.inl (S.W.hs x (by rw[hrs];exact aH)))
theorem xI(H:CQ p)(S:Sp h i w0 r0 rs r row a b c d)(hq:cc.fmod 7=4):Bt (cF p (n+1) F) Ec (R8 i cc o r w0 w) h w0:=by
 refine Bt.of ?_ ((Aa (LV rfl (fun g=>absurd (hq.symm.trans g) (by decide)))).trans ((Aa (LV rfl (fun g=>absurd (hq.symm.trans g) (by decide)))).trans ((Hm (LV rfl (fun g=>absurd (hq.symm.trans g) (by decide)))).trans (Aa (LV rfl (fun g=>absurd (hq.symm.trans g) (by decide))))))) .refl
 refine Bt.stop ?_ (Xm rfl hq)
 have hl:=S.len
 have hr:∀ x∈(r0 :: rs)++[r0],Bn x:=fun x hx=>(List.mem_append.mp hx).elim (S.W.ok x) fun q=>by rcases List.mem_singleton.mp q with rfl;exact S.W.ok x aH
 have u0:((r0 :: rs)++[r0]).length<=25:=by rw[aC];show _+1<=25;exact l4 hl rfl
 refine AF (Fj (c:=cF p (n+1) F) (l:=R8 i cc o r w0 w) (h:=h) (x:=.loc 0) (y:=.slice (.loc 0) .none (.int 1)) rfl S.hi .refl (Ba rfl rfl rfl (H0 (k:=1) S.hi (by rw[aB];exact n3 hl rfl))) Ae .app (by rw[aB];show _+1<=3000;exact l4 hl rfl)) fun x h1 e1 g1 K1=>?_
 refine A9 (CU (n:=n) H (h:=h1) (rows:=(r0 :: rs)++[r0]) (i:=x) (by rw[g1,aU];rfl) hr u0) fun h2 e2 K2=>?_
 exact⟨_,_,h2,Ao (AZ (Ac (A3 e1) e2)),(K1.on K2).low (by have t0:=EL S.hw;exact n7 t0 rfl),IE hr u0 (DE (.inr ⟨r0,bQ _ aH,S.W.h0⟩))⟩
theorem xJ(H:CQ p)(S:Sp h i w0 r0 rs r row a b c d)(hq:cc.fmod 7=5):Bt (cF p (n+1) F) Ec (R8 i cc o r w0 w) h w0:=by
 refine Bt.of ?_ ((Aa (LV rfl (fun g=>absurd (hq.symm.trans g) (by decide)))).trans ((Aa (LV rfl (fun g=>absurd (hq.symm.trans g) (by decide)))).trans ((Hm (LV rfl (fun g=>absurd (hq.symm.trans g) (by decide)))).trans ((Aa (LV rfl (fun g=>absurd (hq.symm.trans g) (by decide)))).trans (Aa (LV rfl (fun g=>absurd (hq.symm.trans g) (by decide)))))))) .refl
 refine Bt.stop ?_ (Xm rfl hq)
 have R:=S.R
 have hl:=R.len
 refine A9 (CN (c:=cF p (n+1) F) (l:=R8 i cc o r w0 w) (h:=h) [[78,101,115,116,115],[110,101,115,116],[],[110,101,115,116,115,32]] (x:=.bin .div (.loc 2) (.int 7)) (v:=o.fdiv 7) (fun _=>A8 rfl rfl (BX (by decide))) rfl (by decide) (by decide)) fun z hz ez=>?_
 obtain⟨z1,z2,z3⟩:AT z/\z.length<=11/\z≠B8:=by unfold AT B8;clear ez;revert z;decide
 have K0:Kp w0 h (h++[.list (([[78,101,115,116,115],[110,101,115,116],[],[110,101,115,116,115,32]]:List (List Nat)).map .str)]):=.app
 have gw:=AS (g:=[.list (([[78,101,115,116,115],[110,101,115,116],[],[110,101,115,116,115,32]]:List (List Nat)).map .str)]) S.hw
 generalize h++[Ay.list (([[78,101,115,116,115],[110,101,115,116],[],[110,101,115,116,115,32]]:List (List Nat)).map .str)]=h1 at ez K0 gw
 have b2:=AK (o.fdiv 61) (m:=2) (by decide)
 obtain⟨m,y,em,hy,y1,y2,y3,y4⟩:∃ (m:Nat) (y:List Nat),(if 1+(o.fdiv 61).fmod 2<(r:Int) then 1+(o.fdiv 61).fmod 2 else (r:Int))=m/\([.str z,.str [45,49],.str [97]]:List AV)[m]?=some (.str y)/\AT y/\y.length<=11/\(r=0->y≠B8)/\(0<r->Ax y=none):=by
  have s1:AT [45,49]:=by unfold AT;decide
  have s2:AT [97]:=by unfold AT;decide
  rcases r with _|r
  ·exact⟨0,z,by rw[if_neg (fO.2 (j3 (SN b2) rfl))],rfl,z1,z2,fun _=>z3,fun q=>absurd q (by decide)⟩
  ·rcases Ix (o.fdiv 61) with q|q
   ·exact⟨1,[45,49],by rw[q];exact wP,rfl,s1,(by decide),fun q=>absurd q (fun g=>qf (IG _) [(BP,(qN 0))] rfl (aE g)),fun _=>by decide⟩
   ·rcases r with _|r
    ·exact⟨1,[45,49],by rw[q];rfl,rfl,s1,(by decide),fun q=>absurd q (fun g=>qf (IG 0) [((qA (qN 0) qI),(qN 0))] rfl (aE g)),fun _=>by decide⟩
    ·exact⟨2,[97],by rw[q];exact wQ,rfl,s2,(by decide),fun q=>absurd q (fun g=>qf (IG _) [((qA BP qI),(qN 0))] rfl (aE g)),fun _=>by decide⟩
 have s1:=Fa (c:=cF p (n+1) F) (l:=R8 i cc o r w0 w) (o:=.loc 4) (y:=.int 0) (CZ (i:=m) (x:=.bi .min (.cons (.loc 3) (.cons (.bin .add (.int 1) (.bin .mod (.bin .div (.loc 2) (.int 61)) (.int 2))) .nil))) (A4 ez (A4 (x:=.str [45,49]) rfl (A3 (x:=.str [97]) rfl))) (Bq rfl (A4 rfl (A3 (A8 rfl (A8 (A8 rfl rfl (BX (by decide))) rfl (B1 (by decide))) CO))) (congrArg (fun q:Int=>B7.ok (AV.int q) _) em)) (by show 3<=1000;decide) hy) rfl rfl (IF (k:=0) (AS gw) (by show 0<4;decide))
 have K1:Kp w0 h1 ((h1++[Ay.list [.str z,.str [45,49],.str [97]]]).set w0 (.list (([a,b,c,d].map AV.str).set 0 (.str y)))):=Kp.app.trans (.set (aS _))
 have g1:((h1++[Ay.list [.str z,.str [45,49],.str [97]]]).set w0 (.list (([a,b,c,d].map AV.str).set 0 (.str y))))[w0]?=some (.list ([y,b,c,d].map .str)):=CL (AS gw)
 exact Bt.of (DH H S (K0.trans K1) g1 (By y1 R.ob R.oc R.od (jY y2 hl)) (fun q=>Hi (.inl (y3 q))) (fun q=>Fy (.inl (y4 q)))) (A5 s1) (K0.trans K1)
theorem xK(H:CQ p)(S:Sp h i w0 r0 rs r row a b c d)(hq:cc.fmod 7=6):Bt (cF p (n+1) F) Ec (R8 i cc o r w0 w) h w0:=by
 refine Bt.of ?_ ((Aa (LV rfl (fun g=>absurd (hq.symm.trans g) (by decide)))).trans ((Aa (LV rfl (fun g=>absurd (hq.symm.trans g) (by decide)))).trans ((Hm (LV rfl (fun g=>absurd (hq.symm.trans g) (by decide)))).trans ((Aa (LV rfl (fun g=>absurd (hq.symm.trans g) (by decide)))).trans ((Aa (LV rfl (fun g=>absurd (hq.symm.trans g) (by decide)))).trans (Aa (LV rfl (fun g=>absurd (hq.symm.trans g) (by decide))))))))) .refl
 have R:=S.R
 have hl:=R.l
 have hc:=R.cnt
 refine A9 (C3 (o.fdiv 61) (m:=4) (by decide)) fun k hk hk4=>?_
 obtain⟨y,hy,y1,y2⟩:∃ y:List Nat,([.str [],.str [32],.str (row++[32]),.str ([32]++row)]:List AV)[k]?=some (.str y)/\Ci y=none/\Bn y:=by
  have so:AT [32]:=by unfold AT;decide
  have ap:∀ {u v:List Nat},AT u->AT v->AT (u++v):=fun h1 h2 c hc=>(List.mem_append.mp hc).elim (h1 c) (h2 c)
  apply rI (bA.1 hk4)
  ·exact⟨[],rfl,Eb (by decide),by decide,fun c hc=>nomatch hc⟩
  ·exact⟨[32],rfl,Eb (by decide),by decide,so⟩
  ·exact⟨row++[32],rfl,Eb (by rw[fK,hc];decide),by rw[aC];show _+1<=100;exact l4 hl rfl,ap R.ok.ok so⟩
  ·exact⟨[32]++row,rfl,Eb (by rw[fK,hc];decide),by rw[aC];show 1+_<=100;exact Zr hl rfl,ap so R.ok.ok⟩
 have s1:=Ak (i:=7) (CZ (c:=cF p (n+1) F) (l:=R8 i cc o r w0 w) (h:=h) (i:=k) (x:=.bin .mod (.bin .div (.loc 2) (.int 61)) (.int 4)) (A4 (x:=.str []) rfl (A4 (x:=.str [32]) rfl (A4 (x:=.bin .add (.sub (.loc 0) (.loc 3)) (.str [32])) (A8 (An rfl rfl (Xo S .refl)) rfl (Cv (n3 hl rfl) (by show 1<=3000;decide))) (A3 (x:=.bin .add (.str [32]) (.sub (.loc 0) (.loc 3))) (A8 rfl (An rfl rfl (Xo S .refl)) (Cv (by show 1<=3000;decide) (n3 hl rfl))))))) (A8 (A8 rfl rfl (BX (by decide))) rfl ((B1 (by decide)).trans (by rw[hk]))) (by show 4<=1000;decide) hy)
 exact Bt.of (Xn H S .app (by rw[aC];have t0:=EL S.hw;exact nY t0) y2 y1) (A5 s1) .app
theorem R9(H:CQ p)(W:mF r0 rs)(hi:h[i]?=some (.list ((r0 :: rs).map .str))):∃ x h',AD p (n+2) false "_law_spoilt" [.loc i,.int cc,.int o] h=.ok (.str x) h'/\Kp h.length h h'/\Jb x:=by
 refine A9 (BS (n:=n+1) (h:=h) H.l_spoilt (as:=[.loc i,.int cc,.int o]) [some (.loc i),some (.int cc),some (.int o),none,none,none,none,none] rfl rfl) fun F hF e=>?_
 rw[e]
 have hl:=W.len
 have u1:((r0 :: rs).map AV.str).length=rs.length+1:=by rw[aB,aN]
 refine aI fun gj=>?_
 refine A9 (C3 o (m:=((r0 :: rs).map AV.str).length) (uX u1)) fun r hr u0=>?_
 have u0:r<(r0 :: rs).length:=by rw[aN];exact uY u1 u0
 refine Rh (W.w _ (bZ u0)) fun a b c d R=>?_
 refine A9 (C3 (o.fdiv 61) (m:=4) (by decide)) fun w hw hw4=>?_
 refine gj ?_
 have S:Sp (h++[.list ((Aq 32 (r0 :: rs)[r]).map .str)]) i h.length r0 rs r (r0 :: rs)[r] a b c d:=⟨AS hi,EL hi,by rw[R.split];exact Ae,W,aF u0,R⟩
 have hg:Bt (cF p (n+1) F) Ec (R8 i cc o r h.length w) (h++[.list ((Aq 32 (r0 :: rs)[r]).map .str)]) h.length:=by
  have b7:=AK cc (m:=7) (by decide)
  by_cases q0:cc.fmod 7=0
  ·exact xD H S (bA.1 (jl (CX _) [(Ca,(jN 4))] Ca (jN 4) rfl hw4)) q0
  by_cases q1:cc.fmod 7=1
  ·exact xF H S q1
  by_cases q2:cc.fmod 7=2
  ·exact xG H S q2
  by_cases q3:cc.fmod 7=3
  ·exact xH H S q3
  by_cases q4:cc.fmod 7=4
  ·exact xI H S q4
  by_cases q5:cc.fmod 7=5
  ·exact xJ H S q5
  ·exact xK H S (wR b7 q0 q1 q2 q3 q4 q5)
 refine B2 hg fun x l' h' q K B=>?_;try clear hg
 refine⟨x,h',AH ((A5 (Ak (A8 rfl (Bq rfl (A3 rfl) (len_list hi)) ((B1 (uZ u1)).trans (by rw[hr]))))).trans ((A5 (Ak (F2 (An rfl rfl (Bf (AM (ql (CW _ _) [(Af,Ee),(Aj,(qN 20))] Af (qN 3000) rfl (aE u1) hl)) hi (aQ _) (d:=.str (r0 :: rs)[r]) (by rw[bT,aK,aF u0];rfl))) rfl (A3 rfl) (IB (by decide) (by have t0:=R.l;exact n3 t0 rfl))))).trans ((A5 (Ak (A8 (A8 rfl rfl (BX (by decide))) rfl ((B1 (by decide)).trans (by rw[hw]))))).trans q))),Kp.app.trans K,B⟩
end
end
section
open PySem
theorem Xp{x u v:List Nat}:Jg x (u++x++v)=true:=by
 have hx:(⟨x.toArray⟩:Str).length=x.length:=bL
 refine(StrLaws.found_iff (⟨(u++x++v).toArray⟩:Str) ⟨x.toArray⟩).mpr ⟨u.length,?_,?_⟩
 ·show u.length+x.toArray.size<=(u++x++v).toArray.size
  rw[bL,bL,aC,aC]
  exact dQ _ _
 ·rw[StrLaws.subAt_eq,hx]
  show (((u++x++v).drop u.length).take x.length==x)=true
  rw[bC,List.drop_left,List.take_left]
  exact beq_self_eq_true x
theorem PD{sep p:List Nat}:∀ {ps:List (List Nat)},p∈ps->∃ u v,Bv sep ps=u++p++v
 | [q],hp=>by rcases List.mem_singleton.mp hp with rfl;exact⟨[],[],(dC _).symm⟩
 | q :: r :: ps,hp=>by
  rcases List.mem_cons.mp hp with rfl|hp
  ·exact⟨[],sep++Bv sep (r :: ps),by show p++sep++Bv sep (r :: ps)=_;rw[bC];rfl⟩
  ·refine PJ (PD (sep:=sep) hp) fun u v e=>⟨q++sep++u,v,?_⟩
   show q++sep++Bv sep (r :: ps)=_
   rw[e]
   simp only[bC]
theorem PE{α β:Type}{q:α->Option β}{ys:List α}{us vs:List β}:∀ {xs:List α} {us:List β},Df q xs=some us->Df q ys=some vs->Df q (xs++ys)=some (us++vs)
 | [],us,e1,e2=>by cases e1;exact e2
 | x :: r,us,e1,e2=>by
  refine A9 (Option.bind_eq_some_iff.mp e1) fun y h1 e1=>?_
  refine A9 (Option.bind_eq_some_iff.mp e1) fun zs h2 e1=>?_
  cases e1
  show (q x).bind (fun y=>(Df q (r++ys)).bind fun ys=>some (y :: ys))=_
  rw[h1,aW,PE (us:=us) h2 e2];rfl
theorem Jc{rows xs:List (List Nat)}{T:Tb}{es fs:List En}(e:EQ rows=some (T,es))(e2:Df AE xs=some fs):EQ (rows++xs)=some (T,es++fs):=by
 rcases rows with _|⟨r,rs⟩
 ·cases e
 ·refine A9 (Option.bind_eq_some_iff.mp e) fun T' h1 e=>?_
  refine A9 (Option.bind_eq_some_iff.mp e) fun kf h2 e=>?_
  cases e
  show (BB r).bind (fun T=>(Df AE (rs++xs)).bind fun es=>some (T,es))=_
  rw[h1,aW,PE (us:=[]) h2 e2];rfl
inductive vV (rows:List (List Nat)) (k:Str):Prop
 | nests (T:Tb) (es:List En) (e:EQ rows=some (T,es)) (no:¬ T.Ok) (hk:k="NoNests")
 | thing (T:Tb) (pre post:List En) (x:En) (e:EQ rows=some (T,pre++x :: post)) (ok:T.Ok) (O:Ga T pre) (l1:pre.length<=20) (l2:post.length<=2) (B:Uy T pre x k)
structure Xq (rows:List (List Nat)) (k:Str):Prop where
 ok:∀ r∈rows,Bn r
 len:rows.length<=22
 no:vV rows k
section
variable {p:AI} {n:Nat} {h:A0} {T:Tb} {es:List En} {k:Str} {rows:List (List Nat)}
theorem LB(ok:T.Ok)(O:Ga T es):EQ (Ar T es)=some (T,Bb es):=by
 show (BB (AJ T)).bind _=_
 rw[JW ok.near,aW]
 have t0:∀ xs:List En,(∀ e∈xs,e∈es)->Df AE (xs.map Br)=some xs:=fun xs=>by
  induction xs with
  | nil=>intro _;rfl
  | cons e r ih=>
   intro hm
   show (AE (Br e)).bind (fun y=>(Df AE (r.map Br)).bind fun ys=>some (y :: ys))=_
   rw[ME (O.all e (hm e aH)) ok,ih fun y hy=>hm y (aL _ hy)];rfl
 rw[t0 _ fun e he=>(Fh O.nds).mp he];rfl
theorem Ga.perm{fs:List En}(O:Ga T es)(hp:fs.Perm es):Ga T fs:=⟨((hp.map kS).nodup_iff).mpr O.nds,((hp.map kN).nodup_iff).mpr O.ndn,fun e he=>O.all e (hp.mem_iff.mp he)⟩
theorem Ga.ord(O:Ga T es):Ga T (Bb es):=O.perm (DG O.nds)
theorem JY{κ:Type}{f:En->κ}{y:κ}(O:Ga T es):y∈(Bb es).map f↔y∈es.map f:=((DG O.nds).map f).mem_iff
theorem H3(ok:T.Ok)(O:Ga T es)(hl:es.length<=14){r:List Nat}{x:En}(rk:Bn r)(e:AE r=some x)(B:Uy T (Bb es) x k):Xq (Ar T es++[r]) k:=by
 have u0:=Cu O.nds
 refine⟨fun y hy=>(List.mem_append.mp hy).elim (F3 ok O y) fun q=>by rcases List.mem_singleton.mp q with rfl;exact rk,?_,.thing T (Bb es) [] x (Jc (LB ok O) (by show (AE r).bind _=_;rw[e];rfl)) ok O.ord (n3 (aR (aE u0) hl) rfl) (bE _) B⟩
 rw[aC,Ar,aN,aB,u0]
 show es.length+1+1<=22
 exact ql (IG _) [(Af,(qN 14))] (qA BP qI) (qN 22) rfl hl
theorem Xr(H:CQ p)(R:Xq rows k){xs:List (List Nat)}{fs:List En}(hx:∀ r∈xs,Bn r)(xl:xs.length<=1)(fl:fs.length<=1)(ex:Df AE xs=some fs):∃ h',AD p (n+5) false "read" [.str (B0 (rows++xs))] h=.exc k h'/\Kp h.length h h':=by
 have hr:∀ r∈rows++xs,Bn r:=fun r hr=>(List.mem_append.mp hr).elim (R.ok r) (hx r)
 have hl:=Fz hr
 rw[aC] at hl
 have t0:=R.len
 have pt:=HV hr
 cases R.no with
 | nests T es e no hk=>
  rw[Jc e ex] at pt
  subst hk
  exact Ly H (DS hr) (nZ hl xl t0) pt no
 | thing T pre post x e ok O l1 l2 B=>
  rw[Jc e ex,bC] at pt
  rcases Px (n:=n) (h:=h) H (DS hr) (nZ hl xl t0) (kx:=k) pt ok O (n3 l1 rfl) (by rw[cP,aN,aC];exact ql (CW _ _) [(Af,qI),(Aj,(qN 2))] (qA (qA Aj Af) qI) (qN 30) rfl fl l2) (fun y r q=>by cases q;exact B) with ⟨q,_⟩|q
  ·cases q
  ·exact q
end
section
variable {h:A0} {c:CA} {l:Ah}
theorem G5{x:X}{y:X}{i:Nat}{rows:List (List Nat)}{r:List Nat}{h1:A0}(ei:A1 c x l h=.ok (.loc i) h)(hi:h[i]?=some (.list (rows.map .str)))(er:A1 c y l h=.ok (.str r) h1)(K:Kp h.length h h1)(hl:rows.length<=2000):
  ∃ a h',A1 c (.bin .add x (.list (.cons y .nil))) l h=.ok (.loc a) h'/\h'[a]?=some (.list ((rows++[r]).map .str))/\Kp h.length h h':=by
 refine AF (Fj ei hi .refl (Bx (A3 er) (by show 1<=1000;decide)) Ae (K.on .app) (by rw[aB];show _+1<=3000;exact l4 hl rfl)) fun a h' e g K'=>⟨a,h',e,?_,K'⟩
 rw[g,aU];rfl
end
end
section
open PySem
noncomputable def Ss.nth:Nat->Ss->Ss
 | 0,s=>s
 | n+1,s=>match s with
  | .cons _ r=>Ss.nth n r
  | .nil=>.nil
noncomputable def DY:Ss:=match G0.body with
 | .cons _ r=>r
 | r=>r
structure Ot (h:A0) (i k:Nat) (T:Tb) (ns:List Nm) (sp:Nm) (es:List En):Prop where
 hi:h[i]?=some (.list ((Ar T es).map .str))
 hk:Ep h k T ns
 nd:ns.Nodup
 good:∀ nm∈ns,Dp nm
 nl:ns.length<=30
 si:sp∈ns
 sn:Bc.str sp∉es.map kN
 ok:T.Ok
 O:Ga T es
 len:es.length<=14
noncomputable def Bu(c:CA)(ss:Ss)(l:Ah)(h:A0):Prop:=∃ a wd k kx rows l' h',execSs c ss l h=.ok (.ret (.tup [.loc a,.str wd])) l' h'/\h'[a]?=some (.list (rows.map .str))/\Kp h.length h h'/\Xq rows kx/\ID kx wd k
section
variable {p:AI} {n:Nat} {h:A0} {i k F:Nat} {T:Tb} {ns:List Nm} {sp:Nm} {es:List En} {cc o:Int} {c:CA} {l:Ah} {hd:List Nat}
theorem Ot.keep{h':A0}(D:Ot h i k T ns sp es)(K:Kp h.length h h'):Ot h' i k T ns sp es:=⟨K.all D.hi,D.hk.imp fun _ q=>K.all q,D.nd,D.good,D.nl,D.si,D.sn,D.ok,D.O,D.len⟩
theorem Ot.g(D:Ot h i k T ns sp es):Dp sp:=D.good sp D.si
theorem Ot.rl(D:Ot h i k T ns sp es):(Ar T es).length<=15:=by
 have:=D.len
 rw[Ar,aN,aB,Cu D.O.nds]
 exact l4 this rfl
theorem Bu.of{ss ss':Ss}{l':Ah}{h':A0}(a:Bu c ss' l' h')(e:execSs c ss l h=execSs c ss' l' h')(K:Kp h.length h h'):Bu c ss l h:=by
 obtain⟨a,wd,k,kx,rows,l2,h2,q,g,K2,R,Q⟩:=a
 exact⟨a,wd,k,kx,rows,l2,h2,e.trans q,g,K.on K2,R,Q⟩
theorem Bu.stop{ss:Ss}{t:X}{y r:Ss}(a:Bu c ss l h)(e:A1 c t l h=.ok (.bool true) h):Bu c (.cons (.iff t ss y) r) l h:=by
 obtain⟨a,wd,k,kx,rows,l2,h2,q,g,K2,R,Q⟩:=a
 exact⟨a,wd,k,kx,rows,l2,h2,DW (Ip e q),g,K2,R,Q⟩
theorem H4{x:X}{wd:List Nat}{j:Nat}{kx:Str}{rows:List (List Nat)}{r:Ss}(e:∃ a h',A1 c x l h=.ok (.loc a) h'/\h'[a]?=some (.list (rows.map .str))/\Kp h.length h h')(R:Xq rows kx)(Q:ID kx wd j):Bu c (.cons (.ret (.tup (.cons x (.cons (.str wd) .nil)))) r) l h:=by
 obtain⟨a,h',e,g,K⟩:=e
 exact⟨a,wd,j,kx,rows,l,h',DW (AZ (Dz (A4 e (A3 rfl)) (by show 2<=1000;decide))),g,K,R,Q⟩
theorem MQ{l:Ah}{k:Int}(e:BN l 4=some (.int cc))(hq:cc.fmod 8≠k):A1 c (.cmp .eq (.bin .mod (.loc 4) (.int 8)) (.int k)) l h=.ok (.bool false) h:=(Xl (v:=cc) (by rw[BO,e];rfl) (by decide)).trans (by rw[decide_eq_false hq])
theorem PF{l:Ah}{k:Int}(e:BN l 4=some (.int cc))(hq:cc.fmod 8=k):A1 c (.cmp .eq (.bin .mod (.loc 4) (.int 8)) (.int k)) l h=.ok (.bool true) h:=(Xl (v:=cc) (by rw[BO,e];rfl) (by decide)).trans (by rw[decide_eq_true hq])
noncomputable abbrev oL(i:Nat)(T:Tb)(k:Nat)(sp:Nm)(cc o:Int)(hd:List Nat):Ah:=[some (.loc i),some T.av,some (.loc k),some (.str sp),some (.int cc),some (.int o),some (.str hd),none,none,none,none,none,none,none]
noncomputable abbrev cG(p:AI)(n F:Nat):CA:=(cF p n F)
noncomputable def NV:List Tb:=[⟨0,1,1⟩,⟨1001,1,1⟩,⟨5,0,1⟩,⟨5,1,1000001⟩,⟨9999999999,1,1⟩]
theorem Zb:∀ T∈NV,T.Near/\¬ T.Ok:=by
 intro T hT
 simp only[NV,bU,cL,or_false] at hT
 rcases hT with rfl|rfl|rfl|rfl|rfl
 ·exact⟨⟨by decide,by decide,by decide,by decide,by decide,by decide⟩,fun q=>absurd q.c1 (by decide)⟩
 ·exact⟨⟨by decide,by decide,by decide,by decide,by decide,by decide⟩,fun q=>absurd q.c2 (by decide)⟩
 ·exact⟨⟨by decide,by decide,by decide,by decide,by decide,by decide⟩,fun q=>absurd q.f1 (by decide)⟩
 ·exact⟨⟨by decide,by decide,by decide,by decide,by decide,by decide⟩,fun q=>absurd q.s2 (by decide)⟩
 ·exact⟨⟨by decide,by decide,by decide,by decide,by decide,by decide⟩,fun q=>absurd q.c2 (by decide)⟩
theorem o0(D:Ot h i k T ns sp es)(hq:cc.fmod 8=0):Bu (cG p n F) DY (oL i T k sp cc o hd) h:=by
 refine Bu.stop ?_ (PF rfl hq)
 refine A9 (C3 o (m:=5) (by decide)) fun j hj hj5=>?_
 have u0:j<NV.length:=by show j<5;exact bA.1 (jl (CX _) [(Ca,(jN 5))] Ca (jN 5) rfl hj5)
 refine xA (Zb _ (bZ u0)) fun nr no=>?_
 have s1:=Ak (c:=cG p n F) (i:=7) (CZ (l:=oL i T k sp cc o hd) (h:=h) (i:=j) (v:=(NV[j]).av) (vs:=NV.map Tb.av) (ts:=.cons (.tup (.cons (.int 0) (.cons (.int 1) (.cons (.int 1) .nil)))) (.cons (.tup (.cons (.int 1001) (.cons (.int 1) (.cons (.int 1) .nil)))) (.cons (.tup (.cons (.int 5) (.cons (.int 0) (.cons (.int 1) .nil)))) (.cons (.tup (.cons (.int 5) (.cons (.int 1) (.cons (.int 1000001) .nil)))) (.cons (.tup (.cons (.int 9999999999) (.cons (.int 1) (.cons (.int 1) .nil)))) .nil))))) (x:=.bin .mod (.loc 5) (.int 5)) rfl (A8 rfl rfl ((B1 (by decide)).trans (by rw[hj]))) (by show 5<=1000;decide) (by rw[aK,aF u0];rfl))
 generalize NV[j]=T' at s1 nr no
 have t1:=nr.c1
 have t2:=nr.c2
 have t3:=nr.f1
 have t4:=nr.f2
 have t5:=nr.s1
 have t6:=nr.s2
 have D1:=D.keep (h':=h++[.list (NV.map Tb.av)]) .app
 have K1:Kp h.length h (h++[.list (NV.map Tb.av)]):=.app
 generalize h++[Ay.list (NV.map Tb.av)]=h1 at s1 D1 K1
 have s2:=Ak (c:=cG p n F) (i:=8) (Bx (l:=(oL i T k sp cc o hd).set 7 (some T'.av)) (h:=h1) (A4 (x:=.str B8) rfl (A4 (x:=.bi .str (.cons (.sub (.loc 7) (.int 0)) .nil)) (Cj (i:=T'.c) (An rfl rfl rfl) (Fk t2 t1) rfl) (A4 (x:=.bi .str (.cons (.sub (.loc 7) (.int 1)) .nil)) (Cj (i:=T'.f) (An rfl rfl rfl) (Fk t4 t3) rfl) (A3 (x:=.bi .str (.cons (.sub (.loc 7) (.int 2)) .nil)) (Cj (i:=T'.s) (An rfl rfl rfl) (Fk t6 t5) rfl))))) (by show 4<=1000;decide))
 have D2:=D1.keep (h':=h1++[.list [.str B8,.str (Ad T'.c),.str (Ad T'.f),.str (Ad T'.s)]]) .app
 have K2:Kp h1.length h1 (h1++[.list [.str B8,.str (Ad T'.c),.str (Ad T'.f),.str (Ad T'.s)]]):=.app
 have g2:(h1++[Ay.list [.str B8,.str (Ad T'.c),.str (Ad T'.f),.str (Ad T'.s)]])[h1.length]?=some (.list ([B8,Ad T'.c,Ad T'.f,Ad T'.s].map .str)):=Ae
 generalize h1++[Ay.list [.str B8,.str (Ad T'.c),.str (Ad T'.f),.str (Ad T'.s)]]=h2 at s2 D2 K2 g2
 refine Bu.of ?_ ((A5 s1).trans (A5 s2)) (K1.then K2)
 have hr:=D.rl
 have lh:=(Hj nr).len
 rw[AJ,WY] at lh
 refine H4 (rows:=AJ T' :: (Bb es).map Br) (AF (Fj (Bx (A3 (GZ (k:=8) rfl g2 (jX lh))) (by show 1<=1000;decide)) Ae .app (Ba rfl rfl rfl (Hk (k:=1) (AS D2.hi) (by rw[aB];exact n3 hr rfl))) Ae .app (by rw[cW,aB];show 1+_<=3000;exact ql (CW _ _) [(Af,(qN 15)),(Aj,Af)] (qA qI Aj) (qN 3000) rfl hr (dH _ _))) fun a h3 e g K=>⟨a,h3,e,g,K⟩) ⟨fun y hy=>?_,by rw[aN,aB,Cu D.O.nds];have t0:=D.len;exact l4 t0 rfl,?_⟩ mC
 ·rcases List.mem_cons.mp hy with rfl|hy
  ·exact Hj nr
  ·exact F3 D.ok D.O y (aL _ hy)
 ·refine .nests T' (Bb es) ?_ no rfl
  refine A9 (Option.bind_eq_some_iff.mp (LB D.ok D.O)) fun _ _ e=>?_
  refine A9 (Option.bind_eq_some_iff.mp e) fun kf h2 e=>?_
  cases e
  show (BB (AJ T')).bind (fun T=>(Df AE ((Bb es).map Br)).bind fun es=>some (T,es))=_
  rw[JW nr,h2];rfl
noncomputable def Xu:List (List Nat):=[[65],[97,98,99,100,101,102,103,104,105,106,107,108,48],[97,95,98],[97,46]]
theorem Xv:∀ z∈Xu,(¬ z.length<=12\/¬ ∀ x∈z,x∈BG)/\CM z/\AT z/\z.length<=13:=by unfold AT CM Xu;decide
noncomputable def LD:List Nat:=[57,57,57,57,57,57,57,57,57,57]
theorem CV(c:Nat)(h:c≠32):CM [c]:=⟨fun q=>h (List.mem_singleton.mp q).symm,fun q=>nomatch q⟩
theorem LW(c:Nat)(h:c<128/\c≠10):AT [c]:=fun x hx=>by rcases List.mem_singleton.mp hx with rfl;exact h
theorem o1(D:Ot h i k T ns sp es)(hq:cc.fmod 8=1):Bu (cG p n F) DY (oL i T k sp cc o hd) h:=by
 refine Bu.of ?_ (Aa (MQ rfl (fun g=>absurd (hq.symm.trans g) (by decide)))) .refl
 refine Bu.stop ?_ (PF rfl hq)
 refine A9 (CN (c:=cG p n F) (l:=oL i T k sp cc o hd) (h:=h) Xu (x:=.loc 5) (v:=o) (fun _=>rfl) rfl (by decide) (by decide)) fun z hz ez=>?_
 refine MS (Xv z hz) fun z1 z2 z3 z4=>?_
 have hr:=D.rl
 have nf:CM LD:=by unfold CM LD;decide
 have no:AT LD:=by unfold AT LD;decide
 have e:[48,32,48,32]++z++[32,57,57,57,57,57,57,57,57,57,57]=BY [48] [48] z LD:=by
  show [48,32,48,32]++z++([32]++LD)=[48]++[32]++([48]++[32]++(z++[32]++LD))
  simp only[bC];rfl
 refine H4 (G5 rfl D.hi (A8 (A8 rfl ez (Cv (by show 4<=3000;decide) (n3 z4 rfl))) rfl (Cv (by rw[aC];show 4+_<=3000;exact Zr z4 rfl) (by show 11<=3000;decide))) .app (n3 hr rfl)) ?_ qS
 rw[e]
 refine H3 D.ok D.O D.len (By (LW 48 (by decide)) (LW 48 (by decide)) z3 no (by show 1+1+_+10<=97;exact ql (IG _) [(Af,(qN 13))] (qA (qA (qA qI qI) Af) (qN 10)) (qN 97) rfl z4)) (x:=⟨(0,0),z,9999999999⟩) (DB (CV 48 (by decide)) (CV 48 (by decide)) z2 nf (by decide) (by decide) (by decide)) (.name (fun c hc=>(z3 c hc).1) (show z.length<=3000 by exact n3 z4 rfl) fun G=>?_)
 rcases z1 with q|q
 ·exact q G.len
 ·exact q G.all
noncomputable def Xw:List (List Nat):=[[49,48,48,48,48,48,48,48,48,49],[45,49,48,48,48,48,48,48,48,48,49],[57,57,57,57,57,57,57,57,57,57]]
theorem Xx:∀ z∈Xw,(valOf z=some 1000000001\/valOf z=some (-1000000001)\/valOf z=some 9999999999)/\CM z/\AT z/\z.length<=13:=by unfold AT CM Xw;decide
theorem o2(D:Ot h i k T ns sp es)(hq:cc.fmod 8=2):Bu (cG p n F) DY (oL i T k sp cc o hd) h:=by
 refine Bu.of ?_ ((Aa (MQ rfl (fun g=>absurd (hq.symm.trans g) (by decide)))).trans (Aa (MQ rfl (fun g=>absurd (hq.symm.trans g) (by decide))))) .refl
 refine Bu.stop ?_ (PF rfl hq)
 refine A9 (CN (c:=cG p n F) (l:=oL i T k sp cc o hd) (h:=h) Xw (x:=.loc 5) (v:=o) (fun _=>rfl) rfl (by decide) (by decide)) fun z hz ez=>?_
 refine MS (Xx z hz) fun z1 z2 z3 z4=>?_
 have hr:=D.rl
 have G:=D.g
 have gl:=G.len
 have e:[55,32,48,32]++sp++[32]++z=BY [55] [48] sp z:=by
  show _=[55]++[32]++([48]++[32]++(sp++[32]++z))
  simp only[bC];rfl
 refine H4 (G5 rfl D.hi (A8 (A8 (A8 rfl rfl (Cv (by show 4<=3000;decide) (n3 gl rfl))) rfl (Cv (by rw[aC];show 4+_<=3000;exact Zr gl rfl) (by show 1<=3000;decide))) ez (Cv (by rw[aC,aC];show 4+_+1<=3000;exact ql (IG _) [(Af,(qN 12))] (qA (qA (qN 4) Af) qI) (qN 3000) rfl gl) (n3 z4 rfl))) .app (n3 hr rfl)) ?_ mD
 rw[e]
 have rk:Bn (BY [55] [48] sp z):=By (LW 55 (by decide)) (LW 48 (by decide)) G.ok z3 (by show 1+1+_+_<=97;exact ql (CW _ _) [(Af,(qN 12)),(Aj,(qN 13))] (qA (qA (qA qI qI) Af) Aj) (qN 97) rfl gl z4)
 have u0:∀ {v:Int},valOf z=some v->¬ (-1000000000<=v/\v<=1000000000)->Xq (Ar T es++[BY [55] [48] sp z]) "NoValue":=fun {v} ev hv=>H3 D.ok D.O D.len rk (x:=⟨(7,0),sp,v⟩) (DB (CV 55 (by decide)) (CV 48 (by decide)) G.fine z2 (by decide) (by decide) ev) (.value G hv)
 rcases z1 with q|q|q
 ·exact u0 q (by decide)
 ·exact u0 q (by decide)
 ·exact u0 q (by decide)
theorem Xy(D:Ot h i k T ns sp es){a b:List Nat}{s:Fx}{kx:Str}(fa:CM a)(fb:CM b)(oa:AT a)(ob:AT b)(la:a.length<=11)(lb:b.length<=11)(ea:Ax a=some s.1)(eb:Ax b=some s.2)(B:Uy T (Bb es) ⟨s,sp,1⟩ kx):Xq (Ar T es++[BY a b sp [49]]) kx:=by
 have G:=D.g
 have gl:=G.len
 exact H3 D.ok D.O D.len (By oa ob G.ok (LW 49 (by decide)) (by show _+_+_+1<=97;exact oA lb la gl)) (DB fa fb G.fine (CV 49 (by decide)) ea eb (by decide)) B
theorem Ot.sno(D:Ot h i k T ns sp es){s:Fx}{v:Int}:kN ⟨s,sp,v⟩∉(Bb es).map kN:=fun q=>D.sn ((JY D.O).mp q)
theorem o3(D:Ot h i k T ns sp es)(hq:cc.fmod 8=3):Bu (cG p n F) DY (oL i T k sp cc o hd) h:=by
 refine Bu.of ?_ ((Aa (MQ rfl (fun g=>absurd (hq.symm.trans g) (by decide)))).trans ((Aa (MQ rfl (fun g=>absurd (hq.symm.trans g) (by decide)))).trans (Aa (MQ rfl (fun g=>absurd (hq.symm.trans g) (by decide)))))) .refl
 refine Bu.stop ?_ (PF rfl hq)
 have hr:=D.rl
 have c1:=D.ok.c1
 have c2:=D.ok.c2
 have gl:=D.g.len
 refine A9 (C3 o (m:=3) (by decide)) fun j hj hj3=>?_
 obtain⟨z,v,ez,ev,zf,zo,zl,v0,v1,s1,es1,hin⟩:∃ (z:List Nat) (v:Int),([.str [50],.str [48],.str [49]]:List AV)[j]?=some (.str z)/\([.int 0,.int T.c,.int (T.c+9)]:List AV)[j]?=some (.int v)/\CM z/\AT z/\z.length<=11/\0<=v/\v<10000/\∃ s1:Int,Ax z=some s1/\¬ T.In (s1,v):=by
  apply vY (bA.1 hj3)
  ·exact⟨[50],0,rfl,rfl,CV 50 (by decide),LW 50 (by decide),by decide,by exact vA,by exact vB,2,by decide,fun q=>by have t0:(2:Int)=0\/(2:Int)=1:=q.1;exact vC t0⟩
  ·exact⟨[48],T.c,rfl,rfl,CV 48 (by decide),LW 48 (by decide),by decide,by exact j3 c1 rfl,by exact i5 c2 rfl,0,by decide,fun q=>by have t1:T.c<T.c:=q.2.2;exact Int.lt_irrefl _ t1⟩
  ·exact⟨[49],T.c+9,rfl,rfl,CV 49 (by decide),LW 49 (by decide),by decide,by exact jl (CX _) [(jI,AC)] jO (jA AC (jN 9)) rfl c1,by exact jl (CX _) [(AC,(jN 1000))] (jA (jA AC (jN 9)) jI) (jN 10000) rfl c2,1,by decide,fun q=>by have t2:T.c+9<T.c:=q.2.2;exact jf (CX _) [((jA (jA AC (jN 9)) jI),AC)] rfl t2⟩
 have sl:=AB (v:=v) (j3 v0 rfl) (i3 v1 rfl)
 have mo:∀ {h:A0},A1 (cG p n F) (.bin .mod (.loc 5) (.int 3)) (oL i T k sp cc o hd) h=.ok (.int j) h:=fun {h}=>A8 rfl rfl ((B1 (by decide)).trans (by rw[hj]))
 have e1:=CZ (c:=cG p n F) (l:=oL i T k sp cc o hd) (h:=h) (ts:=.cons (.str [50]) (.cons (.str [48]) (.cons (.str [49]) .nil))) (A4 rfl (A4 rfl (A3 rfl))) mo (by show 3<=1000;decide) ez
 have K1:Kp h.length h (h++[.list [.str [50],.str [48],.str [49]]]):=.app
 generalize h++[Ay.list [.str [50],.str [48],.str [49]]]=h1 at e1 K1
 have e2:=CZ (c:=cG p n F) (l:=oL i T k sp cc o hd) (h:=h1) (ts:=.cons (.int 0) (.cons (.sub (.loc 1) (.int 0)) (.cons (.bin .add (.sub (.loc 1) (.int 0)) (.int 9)) .nil))) (A4 rfl (A4 (An rfl rfl rfl) (A3 (A8 (An rfl rfl rfl) rfl CO)))) mo (by show 3<=1000;decide) ev
 have K2:Kp h1.length h1 (h1++[.list [.int 0,.int T.c,.int (T.c+9)]]):=.app
 generalize h1++[Ay.list [.int 0,.int T.c,.int (T.c+9)]]=h2 at e2 K2
 have u0:=Ak (i:=8) (Bx (A4 e1 (A4 (Bq (b:=.str) rfl (A3 e2) (if_pos (show v.natAbs<2 ^ 64 by exact Rf (jl (CX _) [(jO,AC)] (jA (.neg (jN 18446744073709551616)) jI) AC rfl v0) (jl (CX _) [(Ca,(jN 10000))] Ca (jN 18446744073709551616) rfl v1)))) (A4 (x:=.loc 3) rfl (A3 (x:=.str [49]) rfl)))) (by show 4<=1000;decide))
 have D2:=(D.keep (K1.then K2)).keep (h':=h2++[.list [.str z,.str (Ad v),.str sp,.str [49]]]) .app
 have K3:Kp h.length h (h2++[.list [.str z,.str (Ad v),.str sp,.str [49]]]):=(K1.then K2).on .app
 have g3:(h2++[Ay.list [.str z,.str (Ad v),.str sp,.str [49]]])[h2.length]?=some (.list ([z,Ad v,sp,[49]].map .str)):=Ae
 generalize h2++[Ay.list [.str z,.str (Ad v),.str sp,.str [49]]]=h3 at u0 D2 K3 g3
 refine Bu.of ?_ (A5 u0) K3
 exact H4 (G5 rfl D2.hi (GZ (k:=8) rfl g3 (by show _+_+_+1<=2900;exact oB sl zl gl)) .refl (n3 hr rfl)) (Xy D (s:=(s1,v)) zf (AP v) zo (Bp v) zl sl es1 (Co v0 (jl (CX _) [(Ca,(jN 10000))] Ca (jN 10000000000) rfl v1)) (.nest D.g (show (-1000000000:Int)<=1 by decide) (show (1:Int)<=1000000000 by decide) D.sno hin)) qT
theorem o4(D:Ot h i k T ns sp es)(hq:cc.fmod 8=4)(hc:1<T.c):Bu (cG p n F) DY (oL i T k sp cc o hd) h:=by
 refine Bu.of ?_ ((Aa (MQ rfl (fun g=>absurd (hq.symm.trans g) (by decide)))).trans ((Aa (MQ rfl (fun g=>absurd (hq.symm.trans g) (by decide)))).trans ((Aa (MQ rfl (fun g=>absurd (hq.symm.trans g) (by decide)))).trans (Aa (MQ rfl (fun g=>absurd (hq.symm.trans g) (by decide))))))) .refl
 refine Bu.stop ?_ (Cn (PF rfl hq) (Al (An rfl rfl rfl) rfl (WN hc)))
 have hr:=D.rl
 have c2:=D.ok.c2
 have gl:=D.g.len
 obtain⟨r,hr2,er⟩:∃ r:Int,(r=0\/r=1)/\o.fmod 2=r:=⟨_,Ix _,rfl⟩
 have u1:=Tb.hm_in D.ok D.g hr2
 refine JZ u1 fun i1 i2 i3=>?_
 have s1:=Ak (c:=cG p n F) (i:=9) (An (l:=oL i T k sp cc o hd) (h:=h) (o:=.sub (.loc 2) (.loc 3)) (x:=.bin .mod (.loc 5) (.int 2)) (An rfl rfl (D.hk.get D.nd D.si)) (A8 rfl rfl ((B1 (by decide)).trans (by rw[er]))) (GX hr2))
 generalize hy:T.hm sp r=y at s1 i1 i2 i3
 have y1:y.1=r:=by rw[<- hy];rfl
 have bt:=AK (o.fdiv 2) (m:=T.c-1) (jl (CX _) [((jA jI jI),AC)] (jA jO jI) (.sub AC jI) rfl hc)
 have ba:=AK (y.2+1+(o.fdiv 2).fmod (T.c-1)) (m:=T.c) (j3 hc rfl)
 have u0:(y.2+1+(o.fdiv 2).fmod (T.c-1)).fmod T.c≠y.2:=by
  generalize (o.fdiv 2).fmod (T.c-1)=t at bt ba
  intro q
  rw[eN _ (j3 hc rfl)] at q
  by_cases hlt:y.2+1+t<T.c
  ·rw[Int.emod_eq_of_lt (Int.add_nonneg (Int.add_nonneg i2 (by decide)) bt.1) hlt] at q;exact vD q bt
  ·have:(y.2+1+t) % T.c=y.2+1+t-T.c:=by
    rw[<- Int.sub_emod_right]
    exact Int.emod_eq_of_lt (jl (LE _ _ _) [(AC,(jA H5 II))] jO (.sub (jA H5 II) AC) rfl (fO.1 hlt)) (jl (LE _ _ _) [(Ca,II),(H5,.sub II jI)] (jA (.sub (jA Ca BH) II) jI) II rfl i3 bt.2)
   exact jf (rE _ _ _ _) [(BH,AC),(AC,(.sub (jA H5 II) rD)),(XH,(.sub rD jI))] rfl (aO (bO q)) (aO this) bt.2
 have s2:=Ak (c:=cG p n F) (i:=10) (A8 (op:=.mod) (l:=(oL i T k sp cc o hd).set 9 (some (sv y))) (h:=h) (o:=.bin .add (.bin .add (.sub (.loc 9) (.int 1)) (.int 1)) (.bin .mod (.bin .div (.loc 5) (.int 2)) (.bin .sub (.sub (.loc 1) (.int 0)) (.int 1)))) (x:=.sub (.loc 1) (.int 0)) (A8 (A8 (v:=.int y.2) (An rfl rfl rfl) rfl CO) (A8 (A8 rfl rfl (BX (by decide))) (A8 (v:=.int T.c) (An rfl rfl rfl) rfl OU) (B1 (fun g=>jf (DT _ _) [(jO,AC),(Ca,(.sub BH jI)),((.sub BH jI),jO)] rfl bt.1 bt.2 (aO g)))) CO) (u:=.int T.c) (An rfl rfl rfl) (B1 (ZY ba)))
 generalize (y.2+1+(o.fdiv 2).fmod (T.c-1)).fmod T.c=at' at s2 ba u0
 have l1:=AB (v:=y.1) (i1.elim (fun g0=>jl (CX _) [(jO,AC)] (jA (.neg (jN 10000000000)) jI) AC rfl (aO (bO g0))) (fun g0=>jl (CX _) [(jI,AC)] (jA (.neg (jN 10000000000)) jI) AC rfl (aO (bO g0)))) (jZ i1)
 have l2:=AB (v:=at') (vE ba) (oC c2 ba)
 have s3:=Ak (c:=cG p n F) (i:=8) (Bx (l:=((oL i T k sp cc o hd).set 9 (some (sv y))).set 10 (some (.int at'))) (h:=h) (A4 (x:=.bi .str (.cons (.sub (.loc 9) (.int 0)) .nil)) (Cj (i:=y.1) (An rfl rfl rfl) (i1.elim (fun g0=>Rf (jl (CX _) [(jO,AC)] (jA (.neg (jN 18446744073709551616)) jI) AC rfl (aO (bO g0))) (jl (CX _) [(AC,jO)] Ca (jN 18446744073709551616) rfl (aO g0))) (fun g0=>Rf (jl (CX _) [(jI,AC)] (jA (.neg (jN 18446744073709551616)) jI) AC rfl (aO (bO g0))) (jl (CX _) [(AC,jI)] Ca (jN 18446744073709551616) rfl (aO g0)))) rfl) (A4 (x:=.bi .str (.cons (.loc 10) .nil)) (Cj (i:=at') rfl (oR c2 ba) rfl) (A4 (x:=.loc 3) rfl (A3 (x:=.str [49]) rfl)))) (by show 4<=1000;decide))
 have D2:=D.keep (h':=h++[.list [.str (Ad y.1),.str (Ad at'),.str sp,.str [49]]]) .app
 have K3:Kp h.length h (h++[.list [.str (Ad y.1),.str (Ad at'),.str sp,.str [49]]]):=.app
 have g3:(h++[Ay.list [.str (Ad y.1),.str (Ad at'),.str sp,.str [49]]])[h.length]?=some (.list ([Ad y.1,Ad at',sp,[49]].map .str)):=Ae
 generalize h++[Ay.list [.str (Ad y.1),.str (Ad at'),.str sp,.str [49]]]=h3 at s3 D2 K3 g3
 refine Bu.of ?_ ((A5 s1).trans ((A5 s2).trans (A5 s3))) K3
 refine H4 (G5 rfl D2.hi (GZ (k:=8) rfl g3 (by show _+_+_+1<=2900;exact oB l2 l1 gl)) .refl (n3 hr rfl)) (Xy D (s:=(y.1,at')) (AP _) (AP _) (Bp _) (Bp _) l1 l2 (Co (rH i1) (jZ i1)) (Co (ba.1) (oC c2 ba)) (.home D.g (show (-1000000000:Int)<=1 by decide) (show (1:Int)<=1000000000 by decide) D.sno ⟨i1,ba⟩ fun q=>?_)) qU
 have q:(y.1,at')∈[T.hm sp 0,T.hm sp 1]:=q
 simp only[bU,cL,or_false] at q
 have:(y.1,at')=T.hm sp r:=by
  rw[y1] at q |-
  rcases q with q|q
  ·have:r=0:=congrArg Prod.fst q
   rw[q,this]
  ·have:r=1:=congrArg Prod.fst q
   rw[q,this]
 rw[hy] at this
 exact u0 (congrArg Prod.snd this)
end
end
section
open PySem
section
variable {p:AI} {n:Nat} {h:A0} {i k F:Nat} {T:Tb} {ns:List Nm} {sp:Nm} {es:List En} {cc o:Int} {c:CA} {l:Ah} {hd:List Nat}
structure Zc (T:Tb) (cc:Int):Prop where
 a:cc.fmod 8≠0
 b:cc.fmod 8≠1
 c:cc.fmod 8≠2
 d:cc.fmod 8≠3
 e:¬ (cc.fmod 8=4/\1<T.c)
theorem qW(L:Zc T cc):A1 (cG p n F) (.and (.cmp .eq (.bin .mod (.loc 4) (.int 8)) (.int 4)) (.cmp .gt (.sub (.loc 1) (.int 0)) (.int 1))) (oL i T k sp cc o hd) h=.ok (.bool false) h:=by
 by_cases hq:cc.fmod 8=4
 ·exact Cn (PF rfl hq) (Al (An rfl rfl rfl) rfl (WO fun q=>L.e ⟨hq,q⟩))
 ·exact E8 (MQ rfl hq)
theorem o5(D:Ot h i k T ns sp [])(L:Zc T cc):Bu (cG p n F) DY (oL i T k sp cc o (AJ T)) h:=by
 refine Bu.of ?_ ((Aa (MQ rfl L.a)).trans ((Aa (MQ rfl L.b)).trans ((Aa (MQ rfl L.c)).trans ((Aa (MQ rfl L.d)).trans (Aa (qW L)))))) .refl
 refine Bu.stop ?_ (Al (Bq rfl (A3 rfl) (len_list D.hi)) rfl (So rfl))
 have G:=D.g
 have gl:=G.len
 have c2:=D.ok.c2
 refine JZ (Tb.hm_in D.ok G (r:=0) (.inl rfl)) fun _ i2 i3=>?_
 have l2:=AB (v:=(T.hm sp 0).2) (j3 i2 rfl) (kA i3 c2)
 have s3:=Ak (c:=cG p n F) (i:=8) (Bx (l:=oL i T k sp cc o (AJ T)) (h:=h) (A4 (x:=.str [48]) rfl (A4 (x:=.bi .str (.cons (.sub (.sub (.sub (.loc 2) (.loc 3)) (.int 0)) (.int 1)) .nil)) (Cj (i:=(T.hm sp 0).2) (An (An (An rfl rfl (D.hk.get D.nd D.si)) rfl (GX (.inl rfl))) rfl rfl) (oD i3 c2 i2) rfl) (A4 (x:=.loc 3) rfl (A3 (x:=.str [49]) rfl)))) (by show 4<=1000;decide))
 have D2:=D.keep (h':=h++[.list [.str [48],.str (Ad (T.hm sp 0).2),.str sp,.str [49]]]) .app
 have K3:Kp h.length h (h++[.list [.str [48],.str (Ad (T.hm sp 0).2),.str sp,.str [49]]]):=.app
 have g3:(h++[Ay.list [.str [48],.str (Ad (T.hm sp 0).2),.str sp,.str [49]]])[h.length]?=some (.list ([[48],Ad (T.hm sp 0).2,sp,[49]].map .str)):=Ae
 generalize h++[Ay.list [.str [48],.str (Ad (T.hm sp 0).2),.str sp,.str [49]]]=h3 at s3 D2 K3 g3
 refine Bu.of ?_ (A5 s3) K3
 have e2:[57,32,57,32]++sp++[32,50]=BY [57] [57] sp [50]:=by
  show [57,32,57,32]++sp++([32]++[50])=[57]++[32]++([57]++[32]++(sp++[32]++[50]))
  simp only[bC];rfl
 have k1:Bn (BY [48] (Ad (T.hm sp 0).2) sp [49]):=By (LW 48 (by decide)) (Bp _) G.ok (LW 49 (by decide)) (by show 1+_+_+1<=97;exact ql (CW _ _) [(Af,(qN 11)),(Aj,(qN 12))] (qA (qA (qA qI Af) Aj) qI) (qN 97) rfl l2 gl)
 have k2:Bn (BY [57] [57] sp [50]):=By (LW 57 (by decide)) (LW 57 (by decide)) G.ok (LW 50 (by decide)) (by show 1+1+_+1<=97;exact oE gl)
 refine H4 (rows:=[AJ T,BY [48] (Ad (T.hm sp 0).2) sp [49],BY [57] [57] sp [50]]) ⟨_,_,Bx (A4 rfl (A4 (GZ (k:=8) rfl g3 (by show 1+_+_+1<=2900;exact oF l2 gl)) (A3 (A8 (A8 rfl rfl (Cv (by show 4<=3000;decide) (n3 gl rfl))) rfl ((Cv (by rw[aC];show 4+_<=3000;exact Zr gl rfl) (by show 2<=3000;decide)).trans (by rw[e2])))))) (by show 3<=1000;decide),Ae,.app⟩ ⟨fun y hy=>?_,by show 3<=22;decide,?_⟩ Xe
 ·simp only[bU,cL,or_false] at hy
  rcases hy with rfl|rfl|rfl
  ·exact Hj D.ok.near
  ·exact k1
  ·exact k2
 ·have x1:=DB (CV 48 (by decide)) (AP (T.hm sp 0).2) G.fine (CV 49 (by decide)) (show Ax [48]=some 0 by decide) (Co i2 (kA i3 c2)) (show valOf [49]=some 1 by decide)
  have x2:=DB (CV 57 (by decide)) (CV 57 (by decide)) G.fine (CV 50 (by decide)) (show Ax [57]=some 9 by decide) (show Ax [57]=some 9 by decide) (show valOf [50]=some 2 by decide)
  refine .thing T [⟨T.hm sp 0,sp,1⟩] [] ⟨(9,9),sp,2⟩ ?_ D.ok ⟨dE _ _,dE _ _,fun e he=>?_⟩ (by show 1<=20;decide) (bE _) (.twice G (show (-1000000000:Int)<=2 by decide) (show (2:Int)<=1000000000 by decide) aH)
  ·show (BB (AJ T)).bind (fun T'=>((AE (BY [48] (Ad (T.hm sp 0).2) sp [49])).bind fun y=>((AE (BY [57] [57] sp [50])).bind fun y=>some [y]).bind fun ys=>some (y :: ys)).bind fun es=>some (T',es))=_
   rw[JW D.ok.near,aW,x1,x2];rfl
  ·rcases List.mem_singleton.mp he with rfl
   exact⟨G,⟨0,.inl rfl,rfl⟩,show (-1000000000:Int)<=1 by decide,show (1:Int)<=1000000000 by decide⟩
theorem PG{v:Int}(h1:0<=v)(h2:v<10000000000):CI .int [.str (Ad v)] h=.ok (.int v) h:=by
 refine xE (fA h1) fun m A6=>?_;subst A6
 rw[show Ad (m:Int)=Cw m from Ea m]
 have hl:=Iz (m:=m) (XK h2)
 have ha:(Cw m).all EX=true:=List.all_eq_true.mpr fun c hc=>by rw[EX,decide_eq_true (EP hc).1,decide_eq_true (EP hc).2];rfl
 have hn:(!(Cw m).isEmpty)=true:=by
  rcases hq:Cw m with _|_
  ·exact absurd hq JV
  ·rfl
 refine(if_pos (by rw[ha,hn,decide_eq_true (show (Cw m).length<=600 by exact n3 hl rfl)];rfl)).trans ?_
 rw[Po]
noncomputable def qX(h:A0)(r:SR):Prop:=∃ a wd k kx rows l' h',r=.ok (.ret (.tup [.loc a,.str wd])) l' h'/\h'[a]?=some (.list (rows.map .str))/\Kp h.length h h'/\Xq rows kx/\ID kx wd k
noncomputable abbrev oM(i:Nat)(T:Tb)(k:Nat)(sp:Nm)(cc o:Int)(hd:List Nat)(w:Nat)(sit:List Nat)(v12 v13:Option AV):Ah:=[some (.loc i),some T.av,some (.loc k),some (.str sp),some (.int cc),some (.int o),some (.str hd),none,some (.loc w),none,none,some (.str sit),v12,v13]
inductive Xz (h:A0) (i:Nat) (T:Tb) (k:Nat) (sp:Nm) (cc o:Int) (hd:List Nat) (w:Nat) (sit:List Nat) (j:Nat):Ah->A0->Prop
 | mk (v12 v13:Option AV):Xz h i T k sp cc o hd w sit j (oM i T k sp cc o hd w sit v12 v13) h
theorem SH(D:Ot h i k T ns sp es){x0:En}(hx:x0∈es){nm:Nm}{kx:Str}(G:Dp nm)(B:Uy T (Bb es) ⟨x0.s,nm,1⟩ kx):Xq (Ar T es++[BY (Ad x0.s.1) (Ad x0.s.2) nm [49]]) kx:=by
 have sx:=(D.O.all x0 hx).seat D.ok
 have gl:=G.len
 have l1:=AB (v:=x0.s.1) (j3 sx.1 rfl) (i5 sx.2.1 rfl)
 have l2:=AB (v:=x0.s.2) (j3 sx.2.2.1 rfl) (i3 sx.2.2.2 rfl)
 exact H3 D.ok D.O D.len (By (Bp _) (Bp _) G.ok (LW 49 (by decide)) (by show _+_+_+1<=97;exact oA l2 l1 gl)) (DB (AP _) (AP _) G.fine (CV 49 (by decide)) (Co (sx.1) (i5 sx.2.1 rfl)) (Co (sx.2.2.1) (i3 sx.2.2.2 rfl)) (by decide)) B
theorem XA(D:Ot h i k T ns sp es):Da [32] (Ar T es)<=3000:=by
 have:∀ rows:List (List Nat),(∀ r∈rows,Bn r)->Da [32] rows<=101*rows.length:=fun rows=>by
  induction rows with
  | nil=>intro _;exact aS _
  | cons r rs ih=>
   intro h
   have h1:=(h r aH).len
   have h2:=ih fun x hx=>h x (aL _ hx)
   show r.length+1+Da [32] rs<=101*(rs.length+1)
   exact ql (Ck _ _ _) [(Af,(.mulL 101 Aj)),(AA,(qN 100))] (qA HC Af) (.mulL 101 Ee) rfl h2 h1
 exact aR (this _ (F3 D.ok D.O)) (n3 (cH 101 D.rl) rfl)
theorem qY{nm x:List Nat}:B9 h .isin (.str ([32]++nm++[32])) (.str x)=some (Jg ([32]++nm++[32]) x):=by
 rcases nm with _|⟨c,r⟩
 ·rfl
 ·rfl
theorem mH(D:Ot h i k T ns sp es){x0:En}{nm:Nm}(hb:Jg ([32]++nm++[32]) (Bv [32] (Ar T es))=false):kN (⟨x0.s,nm,1⟩:En)∉(Bb es).map kN:=fun q=>by
 refine A9 (List.mem_map.mp ((JY D.O).mp q)) fun e he ee=>?_
 have ee:e.n=nm:=Bc.str.inj ee
 refine PJ (PD (sep:=[32]) (show Br e∈Ar T es from aL _ (List.mem_map.mpr ⟨e,(Fh D.O.nds).mpr he,rfl⟩))) fun u v ej=>?_
 have e5:Bv [32] (Ar T es)=(u++Ad e.s.1++[32]++Ad e.s.2)++([32]++nm++[32])++(Ad e.v++v):=by
  rw[ej,<- ee]
  show u++(Ad e.s.1++[32]++(Ad e.s.2++[32]++(e.n++[32]++Ad e.v)))++v=_
  simp only[bC]
 rw[e5,Xp] at hb
 cases hb
theorem XB{a b d e y:List Nat}{w m:Nat}(q:BN l 8=some (.loc w))(g:h[w]?=some (.list ([a,b,d,e].map .str)))(hy:[a,b,d,e][m]?=some y):A1 c (.sub (.loc 8) (.int m)) l h=.ok (.str y) h:=An (v:=.loc w) (by rw[BO,q];rfl) rfl (Bf (by show 4<=Ab;decide) g (aQ _) (by rw[bT,aK,hy];rfl))
section
variable {w j:Nat} {x0:En} {sit:List Nat} {nm:Nm} {v12 v13:Option AV}
theorem ZR(D:Ot h i k T ns sp es)(hx0:x0∈es)(g8:h[w]?=some (.list ([Ad x0.s.1,Ad x0.s.2,x0.n,Ad x0.v].map .str)))(hn:nm∈ns)(q7:cc.fmod 8=7){q:Bool}(hq:decide ((T.hm nm x0.s.1).2=x0.s.2)=q):A1 (cG p n F) (.and (.cmp .eq (.bin .mod (.loc 4) (.int 8)) (.int 7)) (.and (.not (.loc 13)) (.cmp .eq (.sub (.sub (.sub (.loc 2) (.loc 12)) (.bi .int (.cons (.sub (.loc 8) (.int 0)) .nil))) (.int 1)) (.bi .int (.cons (.sub (.loc 8) (.int 1)) .nil))))) (oM i T k sp cc o hd w sit (some (.str nm)) (some (.bool false))) h=.ok (.bool q) h:=by
 have sx:=(D.O.all x0 hx0).seat D.ok
 have u0:=Zo sx
 exact Cn (PF rfl q7) (Cn (Io rfl) (Al (v:=.int (T.hm nm x0.s.1).2) (An (An (An rfl rfl (D.hk.get D.nd hn)) (Bq rfl (A3 (XB (m:=0) rfl g8 rfl)) (PG (rH u0) (jZ u0))) (GX u0)) rfl rfl) (Bq rfl (A3 (XB (m:=1) rfl g8 rfl)) (PG (oS sx) (jU sx))) (OV.trans (by rw[hq]))))
theorem Zd(D:Ot h i k T ns sp es)(hx0:x0∈es)(hsl:sit.length<=24)(ie:∀ nm:Nm,sit++nm++[32,49]=BY (Ad x0.s.1) (Ad x0.s.2) nm [49])(g8:h[w]?=some (.list ([Ad x0.s.1,Ad x0.s.2,x0.n,Ad x0.v].map .str)))(hn:nm∈ns):QX (Xz h i T k sp cc o hd w sit j) (qX h) (execSs (cG p n F) EN (oM i T k sp cc o hd w sit (some (.str nm)) v13) h):=by
 have G:=D.good nm hn
 have u0:=G.len
 have s13:=Ak (c:=cG p n F) (i:=13) (Al (l:=oM i T k sp cc o hd w sit (some (.str nm)) v13) (h:=h) (op:=.isin) (o:=.bin .add (.bin .add (.str [32]) (.loc 12)) (.str [32])) (x:=.bm .join (.str [32]) (.cons (.loc 0) .nil)) (A8 (A8 rfl rfl (Cv (by show 1<=3000;decide) (n3 u0 rfl))) rfl (Cv (by rw[aC];show 1+_<=3000;exact Zr u0 rfl) (by show 1<=3000;decide))) (F2 rfl rfl (A3 rfl) (NR D.hi (XA D))) qY)
 by_cases q7:cc.fmod 8=7
 case neg=>exact .of ((A5 s13).trans (Aa (E8 (MQ rfl q7)))) (.next _ _ (.mk _ _))
 rcases hb:Jg ([32]++nm++[32]) (Bv [32] (Ar T es)) with _|_
 case true=>
  rw[hb] at s13
  exact .of ((A5 s13).trans (Aa (Cn (PF rfl q7) (E8 (Dl rfl))))) (.next _ _ (.mk _ _))
 rw[hb] at s13
 by_cases heq:(T.hm nm x0.s.1).2=x0.s.2
 case neg=>exact .of ((A5 s13).trans (Aa (ZR D hx0 g8 hn q7 (decide_eq_false heq)))) (.next _ _ (.mk _ _))
 have hs:x0.s=T.hm nm x0.s.1:=Prod.ext rfl heq.symm
 have rf:=SH D hx0 (nm:=nm) (kx:="Taken") G (.taken ⟨G,⟨x0.s.1,Zo ((D.O.all x0 hx0).seat D.ok),hs⟩,show (-1000000000:Int)<=1 by decide,show (1:Int)<=1000000000 by decide⟩ (mH D hb) ((JY D.O).mpr (List.mem_map.mpr ⟨x0,hx0,rfl⟩)))
 refine Ej (H4 (c:=cG p n F) (l:=oM i T k sp cc o hd w sit (some (.str nm)) (some (.bool false))) (r:=.nil) (G5 (x:=.loc 0) (y:=.bin .add (.bin .add (.loc 11) (.loc 12)) (.str [32,49])) rfl D.hi (A8 (A8 rfl rfl (Cv (n3 hsl rfl) (n3 u0 rfl))) rfl ((Cv (by rw[aC];exact Zs hsl u0 rfl) (by show 2<=3000;decide)).trans (by rw[ie]))) .refl (n3 D.rl rfl)) rf mE) fun a wd kk kx rows l' h' q g K R Q=>?_
 exact .of ((A5 s13).trans (DW (Ip (ZR D hx0 g8 hn q7 (decide_eq_true heq)) q))) (.halt _ (.ret _ _ _) ⟨a,wd,kk,kx,rows,l',h',rfl,g,K,R,Q⟩)
theorem UB(D:Ot h i k T ns sp es)(hx0:x0∈es)(ie:∀ nm:Nm,sit++nm++[32,49]=BY (Ad x0.s.1) (Ad x0.s.2) nm [49]){z:List Nat}(hz:z=[57,32,48,32]\/z=sit):Xq (Ar T es++[z++x0.n++[32,49]]) "Twice":=by
 have G:=(D.O.all x0 hx0).good
 have gl:=G.len
 have u0:kN (⟨x0.s,x0.n,1⟩:En)∈(Bb es).map kN:=(JY D.O).mpr (List.mem_map.mpr ⟨x0,hx0,rfl⟩)
 rcases hz with rfl|rfl
 ·have e5:[57,32,48,32]++x0.n++[32,49]=BY [57] [48] x0.n [49]:=by
   show [57,32,48,32]++x0.n++([32]++[49])=[57]++[32]++([48]++[32]++(x0.n++[32]++[49]))
   simp only[bC];rfl
  rw[e5]
  exact H3 D.ok D.O D.len (By (LW 57 (by decide)) (LW 48 (by decide)) G.ok (LW 49 (by decide)) (by show 1+1+_+1<=97;exact oE gl)) (x:=⟨(9,0),x0.n,1⟩) (DB (CV 57 (by decide)) (CV 48 (by decide)) G.fine (CV 49 (by decide)) (by decide) (by decide) (by decide)) (.twice G (show (-1000000000:Int)<=1 by decide) (show (1:Int)<=1000000000 by decide) u0)
 ·rw[ie]
  exact SH D hx0 G (.twice G (show (-1000000000:Int)<=1 by decide) (show (1:Int)<=1000000000 by decide) u0)
theorem Ze:∃ z,(z=[57,32,48,32]\/z=sit)/\A1 (cG p n F) (.sub (.list (.cons (.str [57,32,48,32]) (.cons (.loc 11) .nil))) (.bin .mod (.bin .div (.loc 5) (.int 61)) (.int 2))) (oM i T k sp cc o hd w sit v12 v13) h=.ok (.str z) (h++[.list [.str [57,32,48,32],.str sit]]):=by
 rcases Ix (o.fdiv 61) with q|q
 ·exact⟨_,.inl rfl,CZ (i:=0) (A4 rfl (A3 rfl)) (A8 (A8 rfl rfl (BX (by decide))) rfl ((B1 (by decide)).trans (by rw[q];rfl))) (by show 2<=1000;decide) rfl⟩
 ·exact⟨_,.inr rfl,CZ (i:=1) (A4 rfl (A3 rfl)) (A8 (A8 rfl rfl (BX (by decide))) rfl ((B1 (by decide)).trans (by rw[q];rfl))) (by show 2<=1000;decide) rfl⟩
theorem mI(D:Ot h i k T ns sp es)(hx0:x0∈es)(hsl:sit.length<=24)(ie:∀ nm:Nm,sit++nm++[32,49]=BY (Ad x0.s.1) (Ad x0.s.2) nm [49])(g8:h[w]?=some (.list ([Ad x0.s.1,Ad x0.s.2,x0.n,Ad x0.v].map .str))):Bu (cG p n F) (Ss.nth 9 DY) (oM i T k sp cc o hd w sit v12 v13) h:=by
 have gl:=(D.O.all x0 hx0).good.len
 refine A9 (Ze (p:=p) (n:=n) (F:=F) (i:=i) (T:=T) (k:=k) (sp:=sp) (cc:=cc) (o:=o) (hd:=hd) (w:=w) (sit:=sit) (v12:=v12) (v13:=v13) (h:=h)) fun z hz ez=>?_
 have zl:z.length<=24:=by
  rcases hz with rfl|rfl
  ·decide
  ·exact hsl
 exact H4 (G5 rfl D.hi (A8 (A8 ez (XB (m:=2) rfl (AS g8) rfl) (Cv (n3 zl rfl) (n3 gl rfl))) rfl (Cv (by rw[aC];exact Zs zl gl rfl) (by show 2<=3000;decide))) .app (n3 D.rl rfl)) (UB D hx0 ie hz) Xe
theorem Zf(D:Ot h i k T ns sp es)(hx0:x0∈es)(hsl:sit.length<=24)(ie:∀ nm:Nm,sit++nm++[32,49]=BY (Ad x0.s.1) (Ad x0.s.2) nm [49])(g8:h[w]?=some (.list ([Ad x0.s.1,Ad x0.s.2,x0.n,Ad x0.v].map .str)))(hF:50000<=F):Bu (cG p n F) (Ss.nth 8 DY) (oM i T k sp cc o hd w sit none none) h:=by
 have el:CI .list [.loc k] h=.ok (.loc h.length) (h++[.list (ns.map .str)]):=xE D.hk fun ep hd=>FU (NH hd) (AM (by rw[aB];exact n3 D.nl rfl))
 have D2:=D.keep (h':=h++[.list (ns.map .str)]) .app
 have K2:Kp h.length h (h++[.list (ns.map .str)]):=.app
 have g2:(h++[Ay.list (ns.map .str)])[h.length]?=some (.list (ns.map .str)):=Ae
 have g9:=K2.all g8
 generalize h++[Ay.list (ns.map .str)]=h2 at el D2 K2 g2 g9
 rcases Dj (put:=Jw 12) (src:=.loc h.length) (items:=ns.map AV.str) (body:=fun l h=>execSs (cG p n F) EN l h) (Xz h2 i T k sp cc o hd w sit) (qX h2)
  (fun k l h' hI=>by cases hI;exact Bw g2) (fun t v l h' hv hI=>by
   cases hI with
   | mk v12 v13=>
   rw[aK] at hv
   refine A9 (Option.map_eq_some_iff.mp hv) fun nm kr A6=>?_;subst A6
   exact⟨oM i T k sp cc o hd w sit (some (.str nm)) v13,rfl,Zd D2 hx0 hsl ie g9 (aX kr)⟩) F 0 (oM i T k sp cc o hd w sit none none) h2 (by rw[aB];exact aP (l4 D.nl rfl) hF) (bE _) (.mk none none) with ⟨l',h',e2,I2⟩|Q
 ·cases I2 with
  | mk v12 v13=>exact Bu.of (mI D2 hx0 hsl ie g9) (A5 (DQ rfl (Bq rfl (A3 rfl) el) e2)) K2
 ·obtain⟨a,wd,kk,kx,rows,l',h',q,g,K,R,Q⟩:=Q
  exact⟨a,wd,kk,kx,rows,l',h',DW (DQ rfl (Bq rfl (A3 rfl) el) q),g,K2.then K,R,Q⟩
end
theorem o6(D:Ot h i k T ns sp es)(L:Zc T cc)(hne:es≠[])(hF:50000<=F):Bu (cG p n F) DY (oL i T k sp cc o hd) h:=by
 refine Bu.of ?_ ((Aa (MQ rfl L.a)).trans ((Aa (MQ rfl L.b)).trans ((Aa (MQ rfl L.c)).trans ((Aa (MQ rfl L.d)).trans (Aa (qW L)))))) .refl
 have u5:=D.len
 have u8:=Cu D.O.nds
 have u1:0<es.length:=List.length_pos_iff.mpr hne
 have u3:((Ar T es).map AV.str).length=es.length+1:=by rw[aB,Ar,aN,aB,u8]
 have p5:A1 (cG p n F) (.cmp .eq (.bi .len (.cons (.loc 0) .nil)) (.int 1)) (oL i T k sp cc o hd) h=.ok (.bool false) h:=Al (Bq rfl (A3 rfl) (len_list D.hi)) rfl (Sq (by rw[u3];exact fun g=>jf (CX _) [((jA jO jI),AC),(Ca,jI)] rfl (bA.2 u1) (aO g)))
 refine A9 (C3 o (m:=es.length) (bA.2 u1)) fun j hj hj2=>?_
 have u7:j<(Bb es).length:=by exact nT u8 hj2
 have u6:(Bb es)[j]∈es:=(Fh D.O.nds).mp (bZ u7)
 have u2:(Ar T es)[j+1]?=some (Br (Bb es)[j]):=by
  show ((Bb es).map Br)[j]?=_
  rw[aK,aF u7];rfl
 generalize (Bb es)[j]=x0 at u6 u2
 have o0:=D.O.all x0 u6
 have sx:=o0.seat D.ok
 have v1:=o0.v1
 have v2:=o0.v2
 have gl:=o0.good.len
 have l1:=AB (v:=x0.s.1) (j3 sx.1 rfl) (i5 sx.2.1 rfl)
 have l2:=AB (v:=x0.s.2) (j3 sx.2.2.1 rfl) (i3 sx.2.2.2 rfl)
 have l3:=AB (v:=x0.v) (j3 v1 rfl) (i5 v2 rfl)
 have R:R4 (Br x0) (Ad x0.s.1) (Ad x0.s.2) x0.n (Ad x0.v):=⟨rfl,AP _,AP _,o0.good.fine,AP _,Bp _,Bp _,o0.good.ok,Bp _,by exact oG l3 l1 l2 gl⟩
 have u4:A1 (cG p n F) (.bin .add (.int 1) (.bin .mod (.loc 5) (.bin .sub (.bi .len (.cons (.loc 0) .nil)) (.int 1)))) (oL i T k sp cc o hd) h=.ok (.int ((j+1:Nat):Int)) h:=A8 rfl (A8 rfl (A8 (Bq rfl (A3 rfl) (len_list D.hi)) rfl OU) ((B1 (by rw[u3];exact fun g=>jf (DT _ _) [(Ca,BH),((.sub H5 jI),jO),(jO,AC)] rfl hj2 (aO g) (aQ _))).trans (by rw[u3,show ((es.length+1:Nat):Int)-1=(es.length:Int) by exact cI (jl (CX _) [] (.sub Ca jI) AC rfl) (jl (CX _) [] AC (.sub Ca jI) rfl),hj]))) (CO.trans (by rw[show (1:Int)+j=((j+1:Nat):Int) by exact rZ]))
 have s8:=Ak (c:=cG p n F) (i:=8) (F2 (l:=oL i T k sp cc o hd) (h:=h) (m:=.split) (o:=.sub (.loc 0) (.bin .add (.int 1) (.bin .mod (.loc 5) (.bin .sub (.bi .len (.cons (.loc 0) .nil)) (.int 1))))) (as:=.cons (.str [32]) .nil) (An rfl u4 (Bf (AM (ql (CW _ _) [(Af,Ee),(Aj,(qN 14))] Af (qN 3000) rfl (aE u3) u5)) D.hi (jl (CX _) [(jO,AC)] jO Ca rfl (aQ _)) (d:=.str (Br x0)) (by rw[bT,aK,u2];rfl))) rfl (A3 rfl) (IB (by decide) (by have t0:=R.l;exact n3 t0 rfl)))
 rw[R.split] at s8
 have D1:=D.keep (h':=h++[.list ([Ad x0.s.1,Ad x0.s.2,x0.n,Ad x0.v].map .str)]) .app
 have K1:Kp h.length h (h++[.list ([Ad x0.s.1,Ad x0.s.2,x0.n,Ad x0.v].map .str)]):=.app
 have g1:(h++[Ay.list ([Ad x0.s.1,Ad x0.s.2,x0.n,Ad x0.v].map .str)])[h.length]?=some (.list ([Ad x0.s.1,Ad x0.s.2,x0.n,Ad x0.v].map .str)):=Ae
 generalize h++[Ay.list ([Ad x0.s.1,Ad x0.s.2,x0.n,Ad x0.v].map .str)]=h1 at s8 D1 K1 g1
 have v0:=Ak (c:=cG p n F) (i:=11) (A8 (op:=.add) (l:=(oL i T k sp cc o hd).set 8 (some (.loc h.length))) (h:=h1) (o:=.bin .add (.bin .add (.sub (.loc 8) (.int 0)) (.str [32])) (.sub (.loc 8) (.int 1))) (x:=.str [32]) (A8 (A8 (XB (m:=0) rfl g1 rfl) rfl (Cv (n3 l1 rfl) (by show 1<=3000;decide))) (XB (m:=1) rfl g1 rfl) (Cv (by rw[aC];show _+1<=3000;exact pC l1 rfl) (n3 l2 rfl))) rfl (Cv (by rw[aC,aC];show _+1+_<=3000;exact ql (CW _ _) [(Af,(qN 11)),(Aj,(qN 11))] (qA Ee Af) (qN 3000) rfl l2 l1) (by show 1<=3000;decide)))
 have u9:(Ad x0.s.1++[32]++Ad x0.s.2++[32]).length<=24:=by simp only[aC,aN,dB];exact ql (CW _ _) [(Af,(qN 11)),(Aj,(qN 11))] (qA (qA (qA Aj (qA (qN 0) qI)) Af) (qA (qN 0) qI)) (qN 24) rfl l2 l1
 have u0:∀ nm:Nm,Ad x0.s.1++[32]++Ad x0.s.2++[32]++nm++[32,49]=BY (Ad x0.s.1) (Ad x0.s.2) nm [49]:=fun nm=>by
  show Ad x0.s.1++[32]++Ad x0.s.2++[32]++nm++([32]++[49])=Ad x0.s.1++[32]++(Ad x0.s.2++[32]++(nm++[32]++[49]))
  simp only[bC]
 generalize Ad x0.s.1++[32]++Ad x0.s.2++[32]=sit at v0 u9 u0
 exact Bu.of (Zf D1 u6 u9 u0 g1 hF) ((Aa p5).trans ((A5 s8).trans (A5 v0))) K1
theorem UC(H:CQ p)(D:Ot h i k T ns sp es):∃ a wd j kx rows h',AD p (n+1) false "_law_other" [.loc i,T.av,.loc k,.str sp,.int cc,.int o] h=.ok (.tup [.loc a,.str wd]) h'/\h'[a]?=some (.list (rows.map .str))/\Kp h.length h h'/\Xq rows kx/\ID kx wd j:=by
 refine A9 (BS (n:=n) (h:=h) H.l_other (as:=[.loc i,T.av,.loc k,.str sp,.int cc,.int o]) [some (.loc i),some T.av,some (.loc k),some (.str sp),some (.int cc),some (.int o),none,none,none,none,none,none,none,none] rfl rfl) fun F hF e=>?_
 rw[e]
 have s0:=Ak (c:=cG p n F) (i:=6) (An (l:=[some (.loc i),some T.av,some (.loc k),some (.str sp),some (.int cc),some (.int o),none,none,none,none,none,none,none,none]) (o:=.loc 0) (x:=.int 0) rfl rfl (Bf (AM (by rw[aB];have t0:=D.rl;exact n3 t0 rfl)) D.hi (by decide) (d:=.str (AJ T)) rfl))
 have G:Bu (cG p n F) DY (oL i T k sp cc o (AJ T)) h:=by
  have b8:=AK cc (m:=8) (by decide)
  by_cases q0:cc.fmod 8=0
  ·exact o0 D q0
  by_cases q1:cc.fmod 8=1
  ·exact o1 D q1
  by_cases q2:cc.fmod 8=2
  ·exact o2 D q2
  by_cases q3:cc.fmod 8=3
  ·exact o3 D q3
  by_cases q4:cc.fmod 8=4/\1<T.c
  ·exact o4 D q4.1 q4.2
  have L:Zc T cc:=⟨q0,q1,q2,q3,q4⟩
  by_cases he:es=[]
  ·subst he
   exact o5 D L
  ·exact o6 D L he hF
 refine Ej G fun a wd j kx rows l' h' q g K R Q=>?_;try clear G
 exact⟨a,wd,j,kx,rows,h',AH ((A5 s0).trans q),g,K,R,Q⟩
end
end
section
open PySem
section
variable {p:AI} {n:Nat} {h:A0} {i j k F:Nat} {T:Tb} {ns:List Nm} {sp:Nm} {es:List En} {cc o:Int} {c:CA} {l:Ah}
noncomputable def Er:List Nat:=BY [57] [57] [66] [49]
theorem Zg:Bn Er:=By (LW 57 (by decide)) (LW 57 (by decide)) (LW 66 (by decide)) (LW 49 (by decide)) (by decide)
theorem Zh:AE Er=some ⟨(9,9),[66],1⟩:=DB (CV 57 (by decide)) (CV 57 (by decide)) (CV 66 (by decide)) (CV 49 (by decide)) (by decide) (by decide) (by decide)
noncomputable def PH:List (List Nat):=[[120],[],[49,32,49,32,97,32,48,49],[110,101,115,116,115,32,49,32,49,32,49]]
theorem XC:∀ z∈PH,(AE z).isNone=true/\AT z/\z.length<=20:=by unfold AT PH;decide
theorem mJ{rows:List (List Nat)}{kx:Str}(R:Xq rows kx):rows≠[]:=fun q=>by
 subst q
 cases R.no with
 | nests T es e no hk=>cases e
 | thing T pre post x e ok O l1 l2 B=>cases e
theorem PI(H:CQ p)(D:Ot h i k T ns sp es):∃ h',AD p (n+7) false "_law_refused" [.loc i,T.av,.loc k,.str sp,.int cc,.int o] h=.ok (.bool true) h'/\Kp h.length h h':=by
 refine A9 (BS (n:=n+6) (h:=h) H.l_refused (as:=[.loc i,T.av,.loc k,.str sp,.int cc,.int o]) [some (.loc i),some T.av,some (.loc k),some (.str sp),some (.int cc),some (.int o),none,none,none] rfl rfl) fun F hF e=>?_
 rw[e]
 refine aI fun gj=>?_
 refine Jd (UC (n:=n+5) (cc:=cc) (o:=o) H D) fun a wd jk kx rows h1 e1 g1 K1 R Q=>?_
 have rl:=R.len
 have s1:=Ak (c:=cG p (n+6) F) (i:=6) (Ac (f:="_law_other") (l:=[some (.loc i),some T.av,some (.loc k),some (.str sp),some (.int cc),some (.int o),none,none,none]) (as:=.cons (.loc 0) (.cons (.loc 1) (.cons (.loc 2) (.cons (.loc 3) (.cons (.loc 4) (.cons (.loc 5) .nil)))))) rfl e1)
 refine A9 (C3 (o.fdiv 7) (m:=2) (by decide)) fun m hm kh=>?_
 refine AF (Fj (c:=cG p (n+6) F) (l:=[some (.loc i),some T.av,some (.loc k),some (.str sp),some (.int cc),some (.int o),some (.tup [.loc a,.str wd]),none,none]) (h:=h1) (x:=.sub (.loc 6) (.int 0)) (y:=.slice (.list (.cons (.str Er) .nil)) .none (.bin .mod (.bin .div (.loc 5) (.int 7)) (.int 2))) (An rfl rfl rfl) g1 .refl (Ba (Bx (A3 rfl) (by show 1<=1000;decide)) rfl (A8 (A8 rfl rfl (BX (by decide))) rfl ((B1 (by decide)).trans (by rw[hm]))) (H0 (k:=m) Ae (by show 1<=3000;decide))) Ae (Kp.app.trans .app) (by rw[aB,bY];show _+min m 1<=3000;exact oU rl)) fun a2 h2 e2 g2 K2=>?_
 refine gj ?_
 have g2:h2[a2]?=some (.list ((rows++[Er].take m).map .str)):=by rw[g2,aU,gR];rfl
 obtain⟨fs,xo,xl,fl,ex⟩:∃ fs:List En,(∀ r∈[Er].take m,Bn r)/\([Er].take m).length<=1/\fs.length<=1/\Df AE ([Er].take m)=some fs:=by
  apply vX (bA.1 kh)
  ·exact⟨[],(fun r hr=>nomatch hr),bE _,bE _,rfl⟩
  ·exact⟨[⟨(9,9),[66],1⟩],fun r hr=>by rcases List.mem_singleton.mp hr with rfl;exact Zg,by show 1<=1;decide,by show 1<=1;decide,by show (AE Er).bind _=_;rw[Zh];rfl⟩
 generalize [Er].take m=xs at g2 xo xl ex
 have s2:=Ak (i:=7) e2
 have u4:∀ r∈rows++xs,Bn r:=fun r hr=>(List.mem_append.mp hr).elim (R.ok r) (xo r)
 have u2:(rows++xs).length<=23:=by rw[aC];exact Zs rl xl rfl
 refine aI fun gj=>?_
 refine A9 (CU (n:=n+5) H g2 u4 (n3 u2 rfl)) fun h3 e3 K3=>?_
 refine A9 (Lz (n:=n) (h:=h3) H (x:=.str (B0 (rows++xs))) Q (Xr H R xo xl fl ex)) fun h4 e4 K4=>?_
 refine A9 (CN (c:=cG p (n+6) F) (l:=[some (.loc i),some T.av,some (.loc k),some (.str sp),some (.int cc),some (.int o),some (.tup [.loc a,.str wd]),some (.loc a2),none]) (h:=h4) PH (x:=.bin .div (.loc 5) (.int 14)) (v:=o.fdiv 14) (fun _=>A8 rfl rfl (BX (by decide))) rfl (by decide) (by decide)) fun z hz e5=>?_
 refine JZ (XC z hz) fun z1 z2 z3=>?_
 have u3:Kp h2.length h2 (h4++[.list (PH.map .str)]):=K3.on (K4.on .app)
 refine AF (G5 (c:=cG p (n+6) F) (l:=[some (.loc i),some T.av,some (.loc k),some (.str sp),some (.int cc),some (.int o),some (.tup [.loc a,.str wd]),some (.loc a2),some (.str z)]) (h:=h4++[.list (PH.map .str)]) (x:=.loc 7) (y:=.loc 8) (r:=z) rfl (u3.all g2) rfl .refl (n3 u2 rfl)) fun a6 h6 e6 g6 K6=>?_
 have u1:∀ r∈rows++xs++[z],Bn r:=fun r hr=>(List.mem_append.mp hr).elim (u4 r) fun q=>by rcases List.mem_singleton.mp q with rfl;exact⟨by exact n3 z3 rfl,z2⟩
 have u0:(rows++xs++[z]).length<=25:=by rw[aC];show _+1<=25;exact l4 u2 rfl
 refine A9 (CU (n:=n+5) H g6 u1 u0) fun h7 e7 K7=>?_
 refine gj ?_
 have bt:Jb (B0 (rows++xs++[z])):=IE u1 u0 (by
  have ne:=mJ R
  rcases rows with _|⟨r,rs⟩
  ·exact absurd rfl ne
  ·exact DE (.inr ⟨z,bQ _ aH,Option.isNone_iff_eq_none.mp z1⟩))
 refine A9 (Lz (n:=n) (h:=h7) H (x:=.str (B0 (rows++xs++[z]))) ZQ (HB H bt.sm bt.len bt.no)) fun h8 e8 K8=>?_
 exact⟨h8,AH ((A5 s1).trans ((A5 s2).trans ((Aa (Al (Ac (A3 (Ac (A3 rfl) e3)) e4) (An rfl rfl rfl) (GW rfl))).trans ((A5 (Ak e5)).trans (Ao (AZ (Al (Ac (A3 (Ac (A3 e6) e7)) e8) rfl (Sr rfl)))))))),K1.on (K2.on (u3.on (K6.on (K7.on K8))))⟩
noncomputable def UH(e:En):AV:=.tup [sv e.s,.str e.n]
theorem MR{m:Nat}:∀ {es pre:List En} {h:A0},m=h.length->((pre++es).map kS).Nodup->(pre++es).length<=1000->∀ ep,∃ il,E3 m (es.map UH) (h++[.dict (FC pre) ep])=some (h++[.dict (FC (pre++es)) il])
 | [],pre,h,e,nd,hl,ep=>⟨ep,by rw[dC];rfl⟩
 | x :: r,pre,h,e,nd,hl,ep=>by
  subst e
  have nd1:((pre++[x]).map kS).Nodup:=nd.sublist (List.Sublist.map _ (List.Sublist.append_left (List.singleton_sublist.mpr aH) _))
  have e2:pre++x :: r=pre++[x]++r:=by rw[bC];rfl
  rw[e2] at nd hl |-
  have u0:pre.length<1000:=by rw[aC,aC,bV] at hl;exact ql (CW _ _) [((qA BP Aj),(qN 1000))] BP (qN 1000) rfl hl
  have e1:I5 h.length (UH x) (h++[.dict (FC pre) ep])=some (h++[.dict (FC (pre++[x])) (if ((FC pre).lookup (kS x)).isSome then ep else ep+1)]):=by
   show (Bi (h++[.dict (FC pre) ep]) h.length).bind (fun d=>PU _ h.length d.1 d.2 (.str x.n) (some (kS x)))=_
   rw[CK Ae,aW]
   delta PU
   dsimp only
   rw[if_pos (by rw[show Be (FC pre) (kS x)=true from DA (f:=kS) fun _=>rfl,FC,Lm,decide_eq_true (L8 (l5 u0 rfl))];rfl),NA,FC,WL (IC nd1),FC,dk,dk,aU];rfl
  refine xE (MR (m:=h.length) (es:=r) (pre:=pre++[x]) (h:=h) rfl nd hl (if ((FC pre).lookup (kS x)).isSome then ep else ep+1)) fun il e3=>⟨il,?_⟩
  show (I5 h.length (UH x) _).bind (E3 h.length (r.map UH))=_
  rw[e1]
  exact e3
theorem Ra(nd:(es.map kS).Nodup)(hl:es.length<=1000)(hi:h[i]?=some (.list (es.map UH))):∃ ep,CI .dict [.loc i] h=.ok (.loc h.length) (h++[.dict (FC es) ep]):=by
 refine xE (MR (m:=h.length) (es:=es) (pre:=[]) (h:=h) rfl nd hl 0) fun ep e=>⟨ep,?_⟩
 show Gi h i=_
 delta Gi
 rw[B4 hi]
 show IM (es.map UH) h=_
 delta IM
 rw[show E3 h.length (es.map UH) (h++[.dict [] 0])=_ from e];rfl
theorem UD{fs:List En}{ep:Nat}(hi:h[i]?=some (.dict (JC fs) ep)):CI .dict [.loc i] h=.ok (.loc h.length) (h++[.dict (JC fs) 0]):=by
 show Gi h i=_
 delta Gi
 have t0:Am h i=none:=by delta Am;rw[hi]
 rw[t0]
 show O4 (Bi h i) h=_
 rw[CK hi]
 refine if_pos (List.all_eq_true.mpr fun q hq=>?_)
 refine A9 (List.mem_map.mp hq) fun e _ ee=>?_
 subst ee;rfl
theorem Rb{x t it:X}{m j:Nat}{u:AV}{κ:Type}{g:κ->AV}{f:κ->AV}{b:κ->Bool}{its:List κ}{h0:A0}(hq:c.q=false)(ei:A1 c it l h0=.ok u h)(hF:50000<=c.fuel)(hn:∀ i:Nat,Bj u i h=some (its.map g)[i]?)
  (ht:∀ z∈its,A1 c t (BC l m j (g z)) h=.ok (.bool (b z)) h) (hx:∀ z∈its,A1 c x (BC l m j (g z)) h=.ok (f z) h) (hl:its.length<=1000) :
  A1 c (.comp x m j it (.cons t .nil)) l h0=.ok (.loc h.length) (h++[.list ((its.filter b).map f)]):=by
 have L:AG (fun v h=>(evalConds c (.cons t .nil) (BC l m j v) h).noExc.bind fun b h=>pN b h (A1 c x (BC l m j v) h)) u c.fuel 0 [] h=.ok ((its.filter b).map f) h:=by
  refine AF (FV (src:=u) (items:=its.map g) (body:=fun v h=>(evalConds c (.cons t .nil) (BC l m j v) h).noExc.bind fun b h=>pN b h (A1 c x (BC l m j v) h)) (fun k a h'=>h'=h/\a=((its.take k).filter b).map f) (fun k a h' e=>by rw[e.1];exact hn k) (fun k v a h' hv hi=>by
   rw[aK] at hv
   refine A9 (Option.map_eq_some_iff.mp hv) fun z hz e=>?_
   subst e
   have hm:=aX hz
   refine xA hi fun e1 e2=>?_;try clear hi
   subst e1;subst e2
   have et:(evalConds c (.cons t .nil) (BC l m j (g z)) h').noExc=.ok (b z) h':=by
    show ((A1 c t (BC l m j (g z)) h').bind fun v h=>O8 v (.ok true h) (.ok false h)).noExc=_
    rw[ht z hm]
    rcases b z with _|_<;>rfl
   rcases hb:b z with _|_
   ·rw[hb] at et
    refine⟨none,h',by show (B7.noExc _).bind _=_;rw[et];rfl,rfl,?_⟩
    rw[cS,hz,iI,eI,jE,hb];simp
   ·rw[hb] at et
    refine⟨some (f z),h',by show (B7.noExc _).bind _=_;rw[et];show (A1 c x (BC l m j (g z)) h').bind _=_;rw[hx z hm];rfl,rfl,?_⟩
    rw[cS,hz,iI,eI,eI,jE,hb];simp) (by rw[aB];exact hl) c.fuel 0 [] h (by rw[aB];exact aP (l4 hl rfl) hF) (bE _) (aS _) ⟨rfl,rfl⟩) fun a h' e hi _=>?_
  rw[e,hi.1,hi.2,aB,bS]
 rw[V2,ei,ZJ,Et,hq,if_neg aD,L]
 exact HR (AM (by rw[aB];have t0:=cZ b its;exact n3 (aR t0 hl) rfl))
end
end
section
open PySem
section
variable {κ:Type} {f:κ->Bc} {g:κ->AV} {s t:List κ} {x:κ} {v:AV}
theorem mK(nd:((s++x :: t).map f).Nodup):BU (dk f g (s++x :: t)) (f x) v=dk f g s++(f x,v) :: dk f g t:=by
 have e:dk f g (s++x :: t)=dk f g s++(f x,g x) :: dk f g t:=by rw[dk,aU];rfl
 rw[aU,aZ,dU] at nd
 have n1:∀ y∈s,(f y==f x)=false:=fun y hy=>beq_eq_false_iff_ne.mpr fun q=>nd.2.2 _ (List.mem_map.mpr ⟨y,hy,rfl⟩) _ aH q
 have n2:∀ y∈t,(f y==f x)=false:=fun y hy=>beq_eq_false_iff_ne.mpr fun q=>(List.nodup_cons.mp nd.2.1).1 (q▸List.mem_map.mpr ⟨y,hy,rfl⟩)
 have u0:∀ ys:List κ,(∀ y∈ys,(f y==f x)=false)->(dk f g ys).map (fun p=>if p.1==f x then (p.1,v) else p)=dk f g ys:=fun ys h=>by
  rw[dk,cO]
  refine hZ fun y hy=>?_
  show (if (f y==f x)=true then _ else _)=_
  rw[h y hy];rfl
 rw[e]
 delta BU
 rw[if_pos (List.any_eq_true.mpr ⟨(f x,g x),bQ _ aH,(beq_self_eq_true (f x):(f x==f x)=true)⟩),aU,aZ,u0 s n1,u0 t n2]
 show dk f g s++(if (f x==f x)=true then (f x,v) else (f x,g x)) :: dk f g t=_
 rw[beq_self_eq_true];rfl
end
section
variable {T:Tb} {s t es fs:List En} {x:En}
theorem Zi(nd:((s++x :: t).map kS).Nodup):Dg (s++x :: t) x=s++t:=by
 rw[aU,aZ,dU] at nd
 have n1:∀ y∈s,(!(kS y==kS x))=true:=fun y hy=>by rw[beq_eq_false_iff_ne.mpr fun q=>nd.2.2 _ (List.mem_map.mpr ⟨y,hy,rfl⟩) _ aH q];rfl
 have n2:∀ y∈t,(!(kS y==kS x))=true:=fun y hy=>by rw[beq_eq_false_iff_ne.mpr (show kS y≠kS x from fun q=>(List.nodup_cons.mp nd.2.1).1 (q▸List.mem_map.mpr ⟨y,hy,rfl⟩))];rfl
 rw[Dg,iI,jE,List.filter_eq_self.mpr n1,List.filter_eq_self.mpr n2,beq_self_eq_true];rfl
noncomputable def ET(x:En):En:=⟨x.s,x.n,7⟩
theorem Ga.sev(O:Ga T (s++x :: t)):Ga T (s++ET x :: t):=by
 have e1:(s++ET x :: t).map kS=(s++x :: t).map kS:=by rw[aU,aU];rfl
 have e2:(s++ET x :: t).map kN=(s++x :: t).map kN:=by rw[aU,aU];rfl
 refine⟨by rw[e1];exact O.nds,by rw[e2];exact O.ndn,fun e he=>?_⟩
 have ox:=O.all x (bQ _ aH)
 rcases List.mem_append.mp he with q|q
 ·exact O.all e (cT _ q)
 ·rcases List.mem_cons.mp q with rfl|q
  ·exact⟨ox.good,ox.home,show (-1000000000:Int)<=7 by decide,show (7:Int)<=1000000000 by decide⟩
  ·exact O.all e (bQ _ (aL _ q))
end
section
variable {p:AI} {n:Nat} {h hR:A0} {i j k F hh vv b b1 b2 t d e t1 d1 e1 t2 d2 e2:Nat} {T:Tb} {ns:List Nm} {sp:Nm} {es fs:List En} {o:Int} {c:CA} {l:Ah}
noncomputable abbrev gL(T:Tb)(i hh vv k:Nat)(sp:Nm)(o:Int)(v7 v8 v9 v10 v11 v12 v13 v14 v15 v16:Option AV):Ah:=[some T.av,some (.loc i),some (.loc hh),some (.loc vv),some (.loc k),some (.str sp),some (.int o),v7,v8,v9,v10,v11,v12,v13,v14,v15,v16]
inductive SJ (h:A0) (L:Option AV->Ah) (b t q:Nat) (T:Tb) (es:List En) (d e:Nat) (k:Nat):Ah->A0->Prop
 | mk (h':A0) (v8:Option AV) (S:G3 b h' t T (es.take k) d e) (hq:h'[q]?=some (.list (es.map fun e=>sv e.s))) (K:Kp b h h'):SJ h L b t q T es d e k (L v8) h'
theorem Rc(H:CQ p)(S:G3 b h t T [] d e)(E:F4 hR hh vv T es es)(KR:Kp hR.length hR h)(hb:hR.length<=b)(hF:50000<=F){v9 v10 v11 v12 v13 v14 v15 v16:Option AV}:
  ∃ v8 h',AQ (cG p (n+4) F) (.forr 8 (.bi .list (.cons (.loc 2) .nil)) Fe) (gL T i hh vv k sp o (some (.loc t)) none v9 v10 v11 v12 v13 v14 v15 v16) h=.ok .next (gL T i hh vv k sp o (some (.loc t)) v8 v9 v10 v11 v12 v13 v14 v15 v16) h'/\G3 b h' t T es d e/\Kp b h h':=by
 have hl:=E.len
 have E1:=E.keep KR
 have e2:CI .list [.loc hh] h=.ok (.loc h.length) (h++[.list (es.map fun e=>sv e.s)]):=FU (Hl E1.st) (AM (by rw[aB];exact n3 hl rfl))
 have g2:(h++[Ay.list (es.map fun e=>sv e.s)])[h.length]?=some (.list (es.map fun e=>sv e.s)):=Ae
 have S1:=S.keep (h':=h++[.list (es.map fun e=>sv e.s)]) .app
 have K1:Kp b h (h++[.list (es.map fun e=>sv e.s)]):=.app
 generalize h++[Ay.list (es.map fun e=>sv e.s)]=h1 at e2 g2 S1 K1
 generalize h.length=q at e2 g2
 have u1:=KR.trans (K1.low hb)
 refine Av (Bh (i:=8) (src:=.loc q) (items:=es.map fun e=>sv e.s) (body:=fun l h=>execSs (cG p (n+4) F) Fe l h)
  (SJ h1 (fun v8=>gL T i hh vv k sp o (some (.loc t)) v8 v9 v10 v11 v12 v13 v14 v15 v16) b t q T es d e) (fun k l h' hI=>by cases hI with|mk _ _ _ hq _=>exact Bw hq) (fun m v l h' hv hI=>by
   cases hI with
   | mk _ v8 Sk hq K=>
   rw[aK] at hv
   refine A9 (Option.map_eq_some_iff.mp hv) fun y hy A6=>?_;subst A6
   have u0:=aX hy
   have et:es.take (m+1)=es.take m++[y]:=by rw[cS,hy];rfl
   have O':=E.eo.sub (gH (m+1) es)
   rw[et] at O'
   have Ek:=E.keep (u1.trans (K.low hb))
   refine xE Ek.st fun ep1 q1=>?_
   refine xE Ek.th fun ep2 q2=>?_
   refine BT (G4 (n:=n) H Sk (x:=y) (O'.all y (bQ _ aH)) (IC O'.ndn) (IC O'.nds) (by rw[bY];exact oV hl)) fun h2 e2 S2 K2 Q2=>?_
   have sb:A1 (cG p (n+4) F) (.sub (.loc 2) (.loc 8)) (gL T i hh vv k sp o (some (.loc t)) (some (sv y.s)) v9 v10 v11 v12 v13 v14 v15 v16) h'=.ok (.str y.n) h':=An rfl rfl (HT q1 E.eo.nds u0)
   refine⟨_,_,Ao (C2 (CD rfl (Sk.tab.meth rfl) (A4 sb (A4 (An rfl sb (Lq q2 E.fo.ndn u0)) (A3 rfl))) e2)),SJ.mk (L:=fun v8=>gL T i hh vv k sp o (some (.loc t)) v8 v9 v10 v11 v12 v13 v14 v15 v16) _ _ ?_ (Q2 _ _ ?_ ?_ hq) (K.trans K2)⟩
   ·rw[et];exact S2
   ·rintro rfl;refine xE Sk.fd fun ep q=>?_;rw[q] at hq;cases hq
   ·rintro rfl;refine xE Sk.fe fun ep q=>?_;rw[q] at hq;cases hq) (f:=F)
  (l:=gL T i hh vv k sp o (some (.loc t)) none v9 v10 v11 v12 v13 v14 v15 v16) (h:=h1) (by rw[aB];exact aP (l4 hl rfl) hF) (SJ.mk (L:=fun v8=>gL T i hh vv k sp o (some (.loc t)) v8 v9 v10 v11 v12 v13 v14 v15 v16) (k:=0) _ none S1 g2 .refl)) fun l' h' e4 I4=>?_
 cases I4 with
 | mk _ v8 Sk hq K=>
 rw[aB,bS] at Sk
 exact⟨v8,h',DQ rfl (Bq rfl (A3 rfl) e2) e4,Sk,K1.trans K⟩
theorem SK(H:CQ p)(hc:c.F=AD p (n+1) false){x y:X}{es gs:List En}(D:h[i]?=some (.list ((Ar T fs).map .str)))(fl:fs.length<=20)(fo:Ga T fs)(E:F4 h hh vv T es gs)(l1:BN l 1=some (.loc i))(ex:∀ h',A1 c x l h'=.ok (.loc hh) h')(ey:∀ h',A1 c y l h'=.ok (.loc vv) h'):
  ∃ h',A1 c (.call "_law_text" (.cons (.bin .add (.slice (.loc 1) .none (.int 1)) (.call "_law_rows" (.cons x (.cons y .nil)))) .nil)) l h=.ok (.str (B0 (Ar T es))) h'/\Kp h.length h h':=by
 have hl:=E.len
 have E1:=E.keep (h':=h++[.list (((Ar T fs).map AV.str).take 1)]) .app
 refine aI fun gj=>?_
 refine AF (Py (n:=n) H E1) fun r h1 er gr K1=>?_
 have lo:=Cu E.eo.nds
 refine AF (Fj (c:=c) (l:=l) (h:=h) (Ba (o:=.loc 1) (x:=.none) (y:=.int 1) (by rw[BO,l1];rfl) Q0 rfl (H0 (k:=1) D (by rw[aB,Ar,aN,aB,Cu fo.nds];exact l4 fl rfl))) Ae .app (Ac (f:="_law_rows") (A4 (ex _) (A3 (ey _))) (by rw[hc];exact er)) gr K1 (by rw[aB,aB,lo];show 1+_<=3000;exact Zr hl rfl)) fun a h2 e2 g2 K2=>?_
 have g2:h2[a]?=some (.list ((Ar T es).map .str)):=g2
 refine A9 (CU (n:=n) H g2 (F3 E.ok E.eo) (by rw[Ar,aN,aB,lo];exact l4 hl rfl)) fun h3 e3 K3=>?_
 refine gj ?_
 exact⟨h3,Ac (A3 e2) (by rw[hc];exact e3),K2.on K3⟩
end
end
section
open PySem
noncomputable def qZ:Ss:=match Ss.nth 8 Dm.body with
 | .cons s _=>match s with
  | .iff _ a _=>a
  | _=>.nil
 | .nil=>.nil
section
variable {p:AI} {n:Nat} {h hR:A0} {i j k F hh vv b b1 b2 t d e t1 d1 e1 t2 d2 e2:Nat} {T:Tb} {ns:List Nm} {sp:Nm} {es fs:List En} {o:Int} {c:CA} {l:Ah}
theorem mL{a b:Fx}:B9 h .ne (sv a) (sv b)=some (!decide (a=b)):=congrArg (Option.map not) (WS (h:=h) (n:=4) a b)
theorem XD(H:CQ p)(D0:Ot hR i k T ns sp es)(E0:F4 hR hh vv T es es)(S10:G3 b1 hR t1 T es d1 e1)(KR:Kp hR.length hR h)(S2:G3 b2 h t2 T fs d2 e2)(ji:hR.length<=b2)(hp:fs.Perm es)(hne:es≠[])(hF:50000<=F){v8 v10 v11:Option AV}:
  ∃ l' h',execSs (cG p (n+5) F) qZ (gL T i hh vv k sp o (some (.loc t1)) v8 (some (.str (B0 (Ar T es)))) v10 v11 (some (.loc t2)) none none none none) h=.ok (.ret (.bool true)) l' h'/\Kp hR.length hR h':=by
 have u0:=D0.len
 have v4:0<es.length:=List.length_pos_iff.mpr hne
 have E1:=E0.keep KR
 refine A9 (C3 o (m:=es.length) (bA.2 v4)) fun jj hj hj2=>?_
 have v3:jj<es.length:=by exact bA.1 hj2
 have u2:(es.map fun e=>sv e.s)[jj]?=some (sv es[jj].s):=by rw[aK,aF v3];rfl
 have u4:es[jj]∈es:=bZ v3
 generalize es[jj]=x at u2 u4
 have el:CI .list [.loc hh] h=.ok (.loc h.length) (h++[.list (es.map fun e=>sv e.s)]):=FU (Hl E1.st) (AM (by rw[aB];exact n3 u0 rfl))
 have E2:=E1.keep (h':=h++[.list (es.map fun e=>sv e.s)]) .app
 have g2:(h++[Ay.list (es.map fun e=>sv e.s)])[h.length]?=some (.list (es.map fun e=>sv e.s)):=Ae
 have v0:=S2.keep (h':=h++[.list (es.map fun e=>sv e.s)]) .app
 have u6:Kp hR.length hR (h++[.list (es.map fun e=>sv e.s)]):=KR.trans .app
 generalize h++[Ay.list (es.map fun e=>sv e.s)]=h1 at el E2 g2 v0 u6
 have z2:=Ak (c:=cG p (n+5) F) (i:=13) (An (l:=gL T i hh vv k sp o (some (.loc t1)) v8 (some (.str (B0 (Ar T es)))) v10 v11 (some (.loc t2)) none none none none) (o:=.bi .list (.cons (.loc 2) .nil)) (x:=.bin .mod (.loc 6) (.bi .len (.cons (.loc 2) .nil))) (Bq rfl (A3 rfl) el) (A8 rfl (xE E2.st fun ep q=>Bq rfl (A3 rfl) (R2 q)) ((B1 (by exact fun g=>jf (DT _ _) [(Ca,BH),(BH,jO),(jO,AC)] rfl (bA.2 v3) (aO g) (aQ _))).trans (by rw[hj]))) (Bf (AM (by rw[aB];exact n3 u0 rfl)) g2 (by exact aQ _) (by rw[bT];exact u2)))
 have u1:∀ {h':A0} {v12 v14 v15 v16:Option AV},Kp hR.length hR h'->A1 (cG p (n+5) F) (.sub (.loc 2) (.loc 13)) (gL T i hh vv k sp o (some (.loc t1)) v8 (some (.str (B0 (Ar T es)))) v10 v11 v12 (some (sv x.s)) v14 v15 v16) h'=.ok (.str x.n) h':=fun K=>xE (E0.keep K).st fun ep q=>An rfl rfl (HT q E0.eo.nds u4)
 have w4:x∈fs:=hp.mem_iff.mpr u4
 refine F5 (NQ (n:=n) H v0 w4) fun h2 et S3 K2=>?_
 have u5:=u6.trans (K2.low ji)
 have v5:∀ {h':A0} {v12 v14 v15 v16:Option AV},Kp hR.length hR h'->A1 (cG p (n+5) F) (.sub (.loc 3) (.sub (.loc 2) (.loc 13))) (gL T i hh vv k sp o (some (.loc t1)) v8 (some (.str (B0 (Ar T es)))) v10 v11 v12 (some (sv x.s)) v14 v15 v16) h'=.ok (.int x.v) h':=fun K=>xE (E0.keep K).th fun ep q=>An rfl (u1 K) (Lq q E0.fo.ndn u4)
 have p1:A1 (cG p (n+5) F) (.cmp .ne (.im "take_out" (.loc 12) (.cons (.sub (.loc 2) (.loc 13)) .nil)) (.sub (.loc 3) (.sub (.loc 2) (.loc 13)))) (gL T i hh vv k sp o (some (.loc t1)) v8 (some (.str (B0 (Ar T es)))) v10 v11 (some (.loc t2)) (some (sv x.s)) none none none) h1=.ok (.bool false) h2:=Al (CD rfl (v0.tab.meth rfl) (A3 (u1 u6)) et) (v5 u5) (Mw rfl)
 have w3:CI .list [.loc hh] h2=.ok (.loc h2.length) (h2++[.list (es.map fun e=>sv e.s)]):=FU (Hl (E0.keep u5).st) (AM (by rw[aB];exact n3 u0 rfl))
 have g3:(h2++[Ay.list (es.map fun e=>sv e.s)])[h2.length]?=some (.list (es.map fun e=>sv e.s)):=Ae
 have K3:Kp h2.length h2 (h2++[.list (es.map fun e=>sv e.s)]):=.app
 generalize h2++[Ay.list (es.map fun e=>sv e.s)]=h3 at w3 g3 K3
 have w6:=u5.on K3
 have v2:(es.filter fun z=>!decide (z.s=x.s))=Dg es x:=List.filter_congr fun y _=>by
  rw[show (kS y==kS x)=decide (y.s=x.s) from ?_]
  by_cases q:y.s=x.s
  ·rw[decide_eq_true q,kS,kS,q];exact beq_self_eq_true _
  ·rw[decide_eq_false q];exact beq_eq_false_iff_ne.mpr fun w=>q (WR w)
 have ec:=Rb (c:=cG p (n+5) F) (l:=gL T i hh vv k sp o (some (.loc t1)) v8 (some (.str (B0 (Ar T es)))) v10 v11 (some (.loc t2)) (some (sv x.s)) none none none) (h:=h3) (h0:=h2) (x:=.tup (.cons (.loc 17) (.cons (.sub (.loc 2) (.loc 17)) .nil))) (t:=.cmp .ne (.loc 17) (.loc 13)) (it:=.bi .list (.cons (.loc 2) .nil)) (m:=1) (j:=17) (g:=fun e:En=>sv e.s) (f:=UH) (b:=fun z=>!decide (z.s=x.s)) (its:=es) rfl (Bq rfl (A3 rfl) w3) hF (fun i=>Bw g3) (fun z hz=>Al rfl rfl mL) (fun z hz=>xE (E0.keep w6).st fun ep q=>Dz (A4 rfl (A3 (An rfl rfl (HT q E0.eo.nds hz)))) (by show 2<=1000;decide)) (n3 u0 rfl)
 rw[v2] at ec
 have g4:(h3++[Ay.list ((Dg es x).map UH)])[h3.length]?=some (.list ((Dg es x).map UH)):=Ae
 have K4:Kp h3.length h3 (h3++[.list ((Dg es x).map UH)]):=.app
 generalize h3++[Ay.list ((Dg es x).map UH)]=h4 at ec g4 K4
 have Oo:=E0.eo.sub (fs:=Dg es x) List.filter_sublist
 have ol:(Dg es x).length<=es.length:=cZ _ _
 refine xE (Ra Oo.nds (n3 (aR ol u0) rfl) g4) fun ep5 ed=>?_
 have g5:(h4++[Ay.dict (FC (Dg es x)) ep5])[h4.length]?=some (.dict (FC (Dg es x)) ep5):=Ae
 have K5:Kp h4.length h4 (h4++[.dict (FC (Dg es x)) ep5]):=.app
 generalize h4++[Ay.dict (FC (Dg es x)) ep5]=h5 at ed g5 K5
 have z3:=Ak (i:=14) (Bq (b:=.dict) rfl (A3 ec) ed)
 have v7:Kp h2.length h2 h5:=K3.on (K4.on K5)
 have w7:=u5.on v7
 have S5:=S3.keep v7
 have v1:fs.length=es.length:=hp.length_eq
 refine aI fun gj=>?_
 refine A9 (Dn (n:=n) H S5 (by have t0:=cZ (fun y=>!(kS y==kS x)) fs;show (fs.filter _).length<=20;exact ql (Ck _ _ _) [(Af,Aj),(AA,Af),(Aj,(qN 14))] AA (qN 20) rfl (aE v1) t0 u0)) fun h6 ew6 K6=>?_
 have u7:=w7.on K6
 refine A9 (SK (n:=n+4) (c:=cG p (n+5) F) (l:=gL T i hh vv k sp o (some (.loc t1)) v8 (some (.str (B0 (Ar T es)))) v10 v11 (some (.loc t2)) (some (sv x.s)) (some (.loc h4.length)) none none) (x:=.loc 14) (y:=.loc 3) H rfl (D0.keep u7).hi (n3 u0 rfl) D0.O (⟨⟨ep5,K6.all g5⟩,(E0.keep u7).th,E0.ok,Oo,E0.fo,fun e he=>(List.mem_filter.mp he).1,by exact n3 (aR ol u0) rfl⟩:F4 h6 h4.length vv T (Dg es x) es) rfl (fun _=>rfl) (fun _=>rfl)) fun h7 ew7 K7=>?_
 have v9:=u7.on K7
 refine A9 (Dn (n:=n) H (S10.keep v9) (n3 u0 rfl)) fun h8 ew8 K8=>?_
 refine gj ?_
 have w0:=v9.on K8
 have z0:Ar T (Dg fs x)=Ar T (Dg es x):=by rw[Ar,Ar,NP (show (Dg fs x).Perm (Dg es x) from hp.filter _) S3.eo.nds]
 have p2:A1 (cG p (n+5) F) (.or (.cmp .ne (.call "written" (.cons (.loc 12) .nil)) (.call "_law_text" (.cons (.bin .add (.slice (.loc 1) .none (.int 1)) (.call "_law_rows" (.cons (.loc 14) (.cons (.loc 3) .nil)))) .nil))) (.cmp .ne (.call "written" (.cons (.loc 7) .nil)) (.loc 9))) (gL T i hh vv k sp o (some (.loc t1)) v8 (some (.str (B0 (Ar T es)))) v10 v11 (some (.loc t2)) (some (sv x.s)) (some (.loc h4.length)) none none) h5=.ok (.bool false) h8:=
  Bg (Al (Ac (A3 rfl) ew6) ew7 (GW (by rw[z0]))) (Al (Ac (A3 rfl) ew8) rfl (GW rfl))
 have w5:Kp h5.length h5 h8:=K6.on (K7.on K8)
 have S8:=S5.keep w5
 -- the thing is put again
 have ox:=E0.eo.all x u4
 have u3:∀ {κ:Type} [BEq κ] [LawfulBEq κ] {f:En->κ},(fs.map f).Nodup->f (ET x)=f x->f (ET x)∉(Dg fs x).map f:=fun {κ _ _ f} nd ef q=>by
  refine A9 (List.mem_map.mp q) fun y hy ey=>?_
  have v6:=List.mem_filter.mp hy
  have t3:=JX nd w4 v6.1 (ey.trans ef)
  rw[t3,beq_self_eq_true] at v6
  cases v6.2
 have w1:=S2.eo
 refine BT (G4 (n:=n+1) H S8 (x:=ET x) ⟨ox.good,ox.home,show (-1000000000:Int)<=7 by decide,show (7:Int)<=1000000000 by decide⟩ (u3 w1.ndn rfl) (u3 w1.nds rfl) (by have t4:=cZ (fun y=>!(kS y==kS x)) fs;show (fs.filter _).length<60;exact ql (Ck _ _ _) [(Af,Aj),(AA,Af),(Aj,(qN 14))] HC (qN 60) rfl (aE v1) t4 u0)) fun h9 ep9 S9 K9 _=>?_
 have u8:=w0.trans (K9.low ji)
 refine xE ((E0.keep u8).th) fun ep0 gv=>?_
 have w2:=UD gv
 have gA:(h9++[Ay.dict (JC es) 0])[h9.length]?=some (.dict (JC es) 0):=Ae
 have KA:Kp h9.length h9 (h9++[.dict (JC es) 0]):=.app
 generalize h9++[Ay.dict (JC es) 0]=hA at w2 gA KA
 refine PJ (List.append_of_mem u4) fun s tt est=>?_
 have e7:BU (JC es) (kN x) (.int 7)=JC (s++ET x :: tt):=by
  have nd:=E0.eo.ndn
  rw[est] at nd |-
  rw[JC,mK nd,JC,dk,dk,dk,aU];rfl
 refine xE (OX (h:=hA) (n:=h9.length) (kv:=.str x.n) (v:=.int 7) gA (Eo x.n) (DA (f:=kN) fun _=>rfl) (L8 (by rw[JC,Lm];exact n3 u0 rfl))) fun epB uB=>?_
 rw[show BU (JC es) (.str x.n) (.int 7)=JC (s++ET x :: tt) from e7] at uB
 have gB:(hA.set h9.length (.dict (JC (s++ET x :: tt)) epB))[h9.length]?=some (.dict (JC (s++ET x :: tt)) epB):=CL gA
 have KB:Kp h9.length h9 (hA.set h9.length (.dict (JC (s++ET x :: tt)) epB)):=KA.trans (.set (aS _))
 generalize hA.set h9.length (.dict (JC (s++ET x :: tt)) epB)=hB at uB gB KB
 have w8:=u8.on KB
 have SB:=S9.keep KB
 have z1:(Dg fs x++[ET x]).length<=20:=by have t5:=cZ (fun y=>!(kS y==kS x)) fs;rw[aC];show (fs.filter _).length+1<=20;exact ql (Ck _ _ _) [(Af,Aj),(AA,Af),(Aj,(qN 14))] HC (qN 20) rfl (aE v1) t5 u0
 refine A9 (Dn (n:=n) H SB z1) fun hC ewC KC=>?_
 have u9:=w8.on KC
 have O7:Ga T (s++ET x :: tt):=Ga.sev (by rw[<- est];exact E0.eo)
 have l7:(s++ET x :: tt).length=es.length:=by rw[est,aC,aC];rfl
 have z4:FC (s++ET x :: tt)=FC es:=by rw[est,FC,FC,dk,dk,aU,aU];rfl
 refine A9 (SK (n:=n+4) (c:=cG p (n+5) F) (l:=gL T i hh vv k sp o (some (.loc t1)) v8 (some (.str (B0 (Ar T es)))) v10 v11 (some (.loc t2)) (some (sv x.s)) (some (.loc h4.length)) (some (.loc h9.length)) none) (x:=.loc 2) (y:=.loc 15) H rfl (D0.keep u9).hi (n3 u0 rfl) D0.O (⟨by rw[z4];exact(E0.keep u9).st,⟨epB,KC.all gB⟩,E0.ok,O7,O7,fun e he=>he,by exact n3 (aR (aE l7) u0) rfl⟩:F4 hC hh h9.length T (s++ET x :: tt) (s++ET x :: tt)) rfl (fun _=>rfl) (fun _=>rfl)) fun hD ewD KD=>?_
 have w9:Ar T (Dg fs x++[ET x])=Ar T (s++ET x :: tt):=by
  have pf:(Dg fs x++[ET x]).Perm (s++ET x :: tt):=by
   have p1:(Dg fs x).Perm (s++tt):=by
    have t6:=hp.filter (fun y=>!(kS y==kS x))
    have nd:=E0.eo.nds
    rw[est] at nd
    have om:=Zi nd
    rw[<- est] at om
    rw[<- om];exact t6
   exact(p1.append_right _).trans ((List.perm_append_singleton _ _).trans List.perm_middle.symm)
  rw[Ar,Ar,NP pf S9.eo.nds]
 exact⟨_,hD,(A5 z2).trans ((Aa p1).trans ((A5 z3).trans ((Aa p2).trans ((A5 (C2 (CD rfl (S8.tab.meth rfl) (A4 (u1 w0) (A4 rfl (A3 rfl))) ep9))).trans ((A5 (Ak (Bq rfl (A3 rfl) w2))).trans ((A5 (Fa rfl rfl (u1 (u8.on KA)) uB)).trans (Ao (AZ (Al (Ac (A3 rfl) ewC) ewD (Sr (by rw[w9]))))))))))) ,u9.on KD⟩
end
end
section
open PySem
section
variable {p:AI} {n:Nat} {h hR h0:A0} {i j k F hh vv b b1 t d e t1 d1 e1:Nat} {T:Tb} {ns:List Nm} {sp:Nm} {es:List En} {o:Int} {c:CA} {l:Ah}
theorem Zj(H:CQ p)(D:Ot h0 i k T ns sp [])(K0:Kp h0.length h0 h)(S1:G3 h0.length h t1 T [] d1 e1)(hF:50000<=F){v8 v9 v10 v11 v12:Option AV}:
  ∃ l' h',execSs (cG p (n+5) F) (Ss.nth 9 Dm.body) (gL T i hh vv k sp o (some (.loc t1)) v8 v9 v10 v11 v12 none none none none) h=.ok (.ret (.bool true)) l' h'/\Kp h0.length h0 h':=by
 have G:=D.g
 have gl:=G.len
 have c2:=D.ok.c2
 refine JZ (Tb.hm_in D.ok G (r:=0) (.inl rfl)) fun _ i2 i3=>?_
 have l2:=AB (v:=(T.hm sp 0).2) (j3 i2 rfl) (kA i3 c2)
 have ox:JD T ⟨T.hm sp 0,sp,1⟩:=⟨G,⟨0,.inl rfl,rfl⟩,show (-1000000000:Int)<=1 by decide,show (1:Int)<=1000000000 by decide⟩
 refine BT (G4 (n:=n+1) H S1 (x:=⟨T.hm sp 0,sp,1⟩) ox (fun q=>nomatch q) (fun q=>nomatch q) (by show 0<60;decide)) fun h1 e1 S2 K1 _=>?_
 have u0:=K0.trans K1
 have hs:∀ {h':A0} {v16:Option AV},Kp h0.length h0 h'->A1 (cG p (n+5) F) (.sub (.sub (.loc 4) (.loc 5)) (.int 0)) (gL T i hh vv k sp o (some (.loc t1)) v8 v9 v10 v11 v12 none none none v16) h'=.ok (sv (T.hm sp 0)) h':=fun K=>An (An rfl rfl ((D.keep K).hk.get D.nd D.si)) rfl (GX (.inl rfl))
 have u2:=Ak (i:=16) (Bx (c:=cG p (n+5) F) (l:=gL T i hh vv k sp o (some (.loc t1)) v8 v9 v10 v11 v12 none none none none) (h:=h1) (A4 (x:=.str [48]) rfl (A4 (x:=.bi .str (.cons (.sub (.sub (.sub (.loc 4) (.loc 5)) (.int 0)) (.int 1)) .nil)) (Cj (i:=(T.hm sp 0).2) (An (hs u0) rfl rfl) (oD i3 c2 i2) rfl) (A4 (x:=.loc 5) rfl (A3 (x:=.str [49]) rfl)))) (by show 4<=1000;decide))
 have g2:(h1++[Ay.list [.str [48],.str (Ad (T.hm sp 0).2),.str sp,.str [49]]])[h1.length]?=some (.list ([[48],Ad (T.hm sp 0).2,sp,[49]].map .str)):=Ae
 have K2:Kp h1.length h1 (h1++[.list [.str [48],.str (Ad (T.hm sp 0).2),.str sp,.str [49]]]):=.app
 generalize h1++[Ay.list [.str [48],.str (Ad (T.hm sp 0).2),.str sp,.str [49]]]=h2 at u2 g2 K2
 refine A9 (Dn (n:=n) H (S2.keep K2) (by show 1<=20;decide)) fun h3 e3 K3=>?_
 have u1:=(u0.on K2).on K3
 have D3:=D.keep u1
 have el:=Bx (c:=cG p (n+5) F) (l:=gL T i hh vv k sp o (some (.loc t1)) v8 v9 v10 v11 v12 none none none (some (.loc h1.length))) (h:=h3) (A4 (x:=.sub (.loc 1) (.int 0)) (An rfl rfl (Bf (by show 1<=Ab;decide) D3.hi (by decide) (d:=.str (AJ T)) rfl)) (A3 (GZ (k:=16) rfl (K3.all g2) (by show 1+_+_+1<=2900;exact oF l2 gl)))) (by show 2<=1000;decide)
 have eq:BY [48] (Ad (T.hm sp 0).2) sp [49]=Br ⟨T.hm sp 0,sp,1⟩:=by
  show _=BY (Ad 0) (Ad (T.hm sp 0).2) sp (Ad 1)
  rw[show Ad 0=[48] from (Ea 0).trans (HU (by decide)),show Ad 1=[49] from (Ea 1).trans (HU (by decide))]
 rw[eq] at el
 have eo:Bb [(⟨T.hm sp 0,sp,1⟩:En)]=[⟨T.hm sp 0,sp,1⟩]:=List.perm_singleton.mp (DG (dE _ _))
 have g4:(h3++[Ay.list [.str (AJ T),.str (Br ⟨T.hm sp 0,sp,1⟩)]])[h3.length]?=some (.list ((Ar T [⟨T.hm sp 0,sp,1⟩]).map .str)):=by rw[Ar,eo];exact Ae
 refine A9 (CU (n:=n+4) H g4 (F3 D.ok S2.eo) (by rw[Ar,eo];show 2<=25;decide)) fun h5 e5 K5=>?_
 exact⟨_,h5,(A5 (C2 (CD rfl (S1.tab.meth rfl) (A4 rfl (A4 rfl (A3 (hs K0)))) e1))).trans ((A5 u2).trans (Ao (AZ (Al (Ac (A3 rfl) e3) (Ac (A3 el) e5) (Sr rfl))))),u1.on (Kp.app.on K5)⟩
theorem Zk{m:Nat}{v7 v8 v9:Option AV}(hi:h[i]?=some (.list ((Ar T es).map .str)))(hl:(Ar T es).length<=20):
  ∃ a h',A1 (cG p (n+5) F) (.bin .add (.bin .add (.slice (.loc 1) .none (.int 1)) (.rev (.slice (.loc 1) (.loc 10) .none))) (.slice (.loc 1) (.int 1) (.loc 10))) (gL T i hh vv k sp o v7 v8 v9 (some (.int ((m+1:Nat):Int))) none none none none none none) h=.ok (.loc a) h'/\h'[a]?=some (.list ((AJ T :: (((Bb es).drop m).reverse++(Bb es).take m).map Br).map .str))/\Kp h.length h h':=by
 have u0:((Ar T es).map AV.str).length<=20:=rO hl
 have h3:((Ar T es).map AV.str).length<=3000:=n3 u0 rfl
 refine AF (Fj (c:=cG p (n+5) F) (l:=gL T i hh vv k sp o v7 v8 v9 (some (.int ((m+1:Nat):Int))) none none none none none none) (h:=h) (x:=.slice (.loc 1) .none (.int 1)) (y:=.rev (.slice (.loc 1) (.loc 10) .none)) (Ba rfl rfl rfl (H0 (k:=1) hi h3)) Ae .app (lS (Ba rfl rfl rfl (Hk (k:=m+1) (AS hi) h3)) (BF (o:=(Am _ _).map List.reverse) (by rw[B4 Ae];rfl) (AM (vS (mU h3))))) Ae (Kp.app.trans .app) (Zs (mT u0) (vS (mU u0)) rfl)) fun a1 h1 e1 g1 K1=>?_
 refine AF (Fj (c:=cG p (n+5) F) (y:=.slice (.loc 1) (.int 1) (.loc 10)) e1 g1 K1 (Ba rfl rfl rfl (BF (o:=(Am h1 i).bind fun xs=>Do xs (.int 1) (.int ((m+1:Nat):Int))) (by rw[B4 (K1.all hi),aW];exact Z0 (i:=1) h3) (AM (mU (mT h3))))) Ae .app (Zs (vZ (c:=40) (mT u0) (vS (mU u0)) rfl) (mU (mT u0)) rfl)) fun a2 h2 e2 g2 K2=>⟨a2,h2,e2,?_,K2⟩
 rw[g2]
 show some (Ay.list ([AV.str (AJ T)]++((((Bb es).map Br).map AV.str).drop m).reverse++(((Bb es).map Br).map AV.str).take m))=some (.list (AV.str (AJ T) :: ((((Bb es).drop m).reverse++(Bb es).take m).map Br).map .str))
 rw[aU,aU,List.map_reverse,List.map_reverse,iV,iV,gR,gR];rfl
theorem XE(H:CQ p)(D:Ot h i k T ns sp es)(E:F4 h hh vv T es es):∃ h',AD p (n+6) false "_law_good" [T.av,.loc i,.loc hh,.loc vv,.loc k,.str sp,.int o] h=.ok (.bool true) h'/\Kp h.length h h':=by
 refine A9 (BS (n:=n+5) (h:=h) H.l_good (as:=[T.av,.loc i,.loc hh,.loc vv,.loc k,.str sp,.int o]) (gL T i hh vv k sp o none none none none none none none none none none) rfl rfl) fun F hF e=>?_
 rw[e]
 have u1:=D.len
 have v1:=Cu D.O.nds
 have u7:((Ar T es).map AV.str).length=es.length+1:=by rw[aB,Ar,aN,aB,v1]
 have s7:=Ak (c:=cG p (n+5) F) (i:=7) (WB (l:=gL T i hh vv k sp o none none none none none none none none none none) (h:=h) (as:=.cons (.sub (.loc 0) (.int 0)) (.cons (.sub (.loc 0) (.int 1)) (.cons (.sub (.loc 0) (.int 2)) .nil))) rfl (Pt (n:=n+3) (h:=h) H D.ok))
 have S0:=G3.start (h:=h) D.ok
 have KA:Kp h.length h (h++[.ns (LU T (h.length+2) (h.length+3)),.inst h.length,.dict [] 0,.dict [] 0]):=.app
 refine aI fun gj=>?_
 refine AF (Rc (n:=n+1) (i:=i) (k:=k) (sp:=sp) (o:=o) (F:=F) (v9:=none) (v10:=none) (v11:=none) (v12:=none) (v13:=none) (v14:=none) (v15:=none) (v16:=none) H S0 E KA (aS _) hF) fun v8 hB s8 SB KB=>?_
 have v2:=KA.trans KB
 refine A9 (Dn (n:=n) H SB (n3 u1 rfl)) fun hC eC KC=>?_
 have u5:=v2.on KC
 have DC:=D.keep u5
 have EC:=E.keep u5
 have SC:=SB.keep KC
 refine A9 (CU (n:=n+4) H DC.hi (F3 D.ok D.O) (by have t0:=D.rl;exact n3 t0 rfl)) fun hD1 eD1 KD1=>?_
 refine A9 (Dn (n:=n) H (SC.keep KD1) (n3 u1 rfl)) fun hD eD KD=>?_
 refine gj ?_
 have u9:=KD1.on KD
 have DD:=DC.keep u9
 have t1:A1 (cG p (n+5) F) (.or (.not (.isi (.loc 9) .str)) (.or (.cmp .ne (.loc 9) (.call "_law_text" (.cons (.loc 1) .nil))) (.cmp .ne (.call "written" (.cons (.loc 7) .nil)) (.loc 9)))) (gL T i hh vv k sp o (some (.loc (h.length+1))) v8 (some (.str (B0 (Ar T es)))) none none none none none none none) hC=.ok (.bool false) hD:=
  Bg (Dl (EK rfl rfl)) (Bg (Al rfl (Ac (A3 rfl) eD1) (GW rfl)) (Al (Ac (A3 rfl) eD) rfl (GW rfl)))
 refine A9 (C3 o (m:=(es.length+1:Nat)) (jl (CX _) [(jO,AC)] (jA jO jI) Ca rfl (aQ _))) fun m hm kh=>?_
 have v4:=Ak (c:=cG p (n+5) F) (i:=10) (A8 (op:=.add) (l:=gL T i hh vv k sp o (some (.loc (h.length+1))) v8 (some (.str (B0 (Ar T es)))) none none none none none none none) (h:=hD) (o:=.int 1) (x:=.bin .mod (.loc 6) (.bi .len (.cons (.loc 1) .nil))) rfl (A8 rfl (Bq rfl (A3 rfl) (len_list DD.hi)) ((B1 (by rw[u7];exact oW)).trans (by rw[u7,hm]))) (CO.trans (by rw[show (1:Int)+m=((m+1:Nat):Int) by exact oX])))
 refine AF (Zk (p:=p) (n:=n) (F:=F) (m:=m) (i:=i) (vv:=vv) (hh:=hh) (k:=k) (sp:=sp) (o:=o) (v7:=some (.loc (h.length+1))) (v8:=v8) (v9:=some (.str (B0 (Ar T es)))) DD.hi (by rw[<- aB (f:=AV.str),u7];exact pC u1 rfl)) fun a2 hE eE gE KE=>?_
 let gs:=((Bb es).drop m).reverse++(Bb es).take m
 have gE:hE[a2]?=some (.list ((AJ T :: gs.map Br).map .str)):=gE
 have pg:gs.Perm es:=((List.reverse_perm _).append_right _).trans (List.perm_append_comm.trans ((List.Perm.of_eq (List.take_append_drop m (Bb es))).trans (DG D.O.nds)))
 have Og:Ga T gs:=D.O.perm pg
 have gl:gs.length=es.length:=pg.length_eq
 have ro:∀ r∈AJ T :: gs.map Br,Bn r:=fun r hr=>by
  rcases List.mem_cons.mp hr with rfl|hr
  ·exact Hj D.ok.near
  ·refine A9 (List.mem_map.mp hr) fun x hx q=>?_
   subst q
   exact WZ (Og.all x hx) D.ok
 have v3:(AJ T :: gs.map Br).length<=20:=by rw[aN,aB,gl];exact l4 u1 rfl
 have u0:∀ xs:List En,Ga T xs->EQ (AJ T :: xs.map Br)=some (T,xs):=fun xs O=>by
  show (BB (AJ T)).bind (fun T=>(Df AE (xs.map Br)).bind fun es=>some (T,es))=_
  rw[JW D.ok.near,aW]
  have t4:∀ ys:List En,(∀ e∈ys,JD T e)->Df AE (ys.map Br)=some ys:=fun ys=>by
   induction ys with
   | nil=>intro _;rfl
   | cons e r ih=>
    intro hm
    show (AE (Br e)).bind (fun y=>(Df AE (r.map Br)).bind fun ys=>some (y :: ys))=_
    rw[ME (hm e aH) D.ok,ih fun y hy=>hm y (aL _ hy)];rfl
  rw[t4 xs O.all];rfl
 refine A9 (CU (n:=n+4) H gE ro (n3 v3 rfl)) fun hF1 eF1 KF1=>?_
 have rd:∀ {h':A0} {xs:List En},Ga T xs->xs.length<=20->(∀ r∈AJ T :: xs.map Br,Bn r)->∃ t d e h2,AD p (n+5) false "read" [.str (B0 (AJ T :: xs.map Br))] h'=.ok (.loc t) h2/\G3 h'.length h2 t T xs d e/\Kp h'.length h' h2:=fun {h' xs} O hl ro=>by
  have tl:=Fz ro
  rw[aN,aB] at tl
  have go:∀ kx:Str,_:=fun kx=>Px (n:=n) (h:=h') (pre:=xs) (post:=[]) (kx:=kx) H (DS ro) (ql (CW _ _) [(Af,(.mulL 101 Ee)),((.mulL 101 Aj),(.mulL 101 (qN 20)))] Af (qN 3000) rfl tl (cH 101 hl)) ((HV ro).trans (by rw[u0 xs O,dC])) D.ok O (n3 hl rfl) (bE _) (fun y r q=>nomatch q)
  rcases go "a" with ⟨_,q⟩|⟨h1,q1,_⟩
  ·exact q
  ·rcases go "b" with ⟨_,q⟩|⟨h2,q2,_⟩
   ·exact q
   ·rw[q1] at q2
    injection q2 with q3 _
    exact absurd q3 (by decide)
 refine aI fun gj=>?_
 refine JG (rd (h':=hF1) Og (n3 (aR (aE gl) u1) rfl) ro) fun t2 d2 e2 hG eG SG KG=>?_
 have u3:Kp hC.length hC hF1:=u9.on (KE.on KF1)
 have DF:=DC.keep u3
 have EF:=EC.keep u3
 have SF:=SC.keep u3
 have u6:=u5.on u3
 refine A9 (MP (n:=n+1) H SG (EF.keep KG) pg) fun hH1 eH1 KH1=>?_
 have Oo:=D.O.ord
 refine JG (rd (h':=hH1) Oo (n3 (aR (aE v1) u1) rfl) (F3 D.ok D.O)) fun t3 d3 e3 hH2 eH2 SH2 KH2=>?_
 refine A9 (MP (n:=n+1) H SH2 ((EF.keep KG).keep (KH1.on KH2)) (DG D.O.nds)) fun hH eH KH=>?_
 refine gj ?_
 have v0:Kp hG.length hG hH:=KH1.on (KH2.on KH)
 have v5:A1 (cG p (n+5) F) (.or (.not (.call "_law_alike" (.cons (.loc 12) (.cons (.loc 0) (.cons (.loc 2) (.cons (.loc 3) .nil)))))) (.not (.call "_law_alike" (.cons (.call "read" (.cons (.loc 9) .nil)) (.cons (.loc 0) (.cons (.loc 2) (.cons (.loc 3) .nil))))))) (gL T i hh vv k sp o (some (.loc (h.length+1))) v8 (some (.str (B0 (Ar T es)))) (some (.int ((m+1:Nat):Int))) (some (.loc a2)) (some (.loc t2)) none none none none) hG=.ok (.bool false) hH:=
  Bg (Dl (Ac (A4 rfl (A4 rfl (A4 rfl (A3 rfl)))) eH1)) (Dl (Ac (A4 (Ac (A3 rfl) eH2) (A4 rfl (A4 rfl (A3 rfl)))) eH))
 have u4:Kp hF1.length hF1 (hH++[.dict [] 0]):=KG.on (v0.on .app)
 have u8:B9 (hH++[.dict [] 0]) .ne (.loc hh) (.loc hH.length)=some (!es.isEmpty):=by
  have e1:LZ (hH++[.dict [] 0]) (.loc hh) (.loc hH.length)=some (!es.isEmpty):=by
   refine xE (EF.keep u4).st fun ep q=>?_
   show (Bi _ hH.length).bind (fun d=>(vI (Bi _ hh) d.1).map not)=_
   rw[CK Ae,CK q]
   show some (!(FC es).isEmpty)=_
   rcases es with _|_<;>rfl
  show kK _ _ _=_
  delta kK
  rw[e1]
 have u2:∀ {r:SR},execSs (cG p (n+5) F) (Ss.nth 8 Dm.body) (gL T i hh vv k sp o (some (.loc (h.length+1))) v8 (some (.str (B0 (Ar T es)))) (some (.int ((m+1:Nat):Int))) (some (.loc a2)) (some (.loc t2)) none none none none) hH=r->execSs (cG p (n+5) F) Dm.body (gL T i hh vv k sp o none none none none none none none none none none) h=r:=fun q=>
  (A5 s7).trans ((A5 s8).trans ((A5 (Ak (Ac (A3 rfl) eC))).trans ((Aa t1).trans ((A5 v4).trans ((A5 (Ak eE)).trans ((A5 (Ak (Ac (A3 (Ac (A3 rfl) eF1)) eG))).trans ((Aa v5).trans q)))))))
 by_cases he:es=[]
 ·subst he
  refine Av (Zj (n:=n) (F:=F) (i:=i) (hh:=hh) (vv:=vv) (o:=o) (v8:=v8) (v9:=some (.str (B0 (Ar T [])))) (v10:=some (.int ((m+1:Nat):Int))) (v11:=some (.loc a2)) (v12:=some (.loc t2)) H D (u6.on u4) (SF.keep u4) hF) fun l' h' q K=>?_
  exact⟨h',AH (u2 ((Aa (Al rfl rfl u8)).trans q)),K⟩
 ·refine Av (XD (n:=n) (F:=F) (o:=o) (v8:=v8) (v10:=some (.int ((m+1:Nat):Int))) (v11:=some (.loc a2)) H DF EF SF u4 (SG.keep (v0.on .app)) (aS _) pg he hF) fun l' h' q K=>?_
  have tt:(!es.isEmpty)=true:=by
   rcases es with _|_
   ·exact absurd rfl he
   ·rfl
  rw[tt] at u8
  exact⟨h',AH (u2 (DW (Ip (Al rfl rfl u8) q))),u6.trans (K.low u6.len)⟩
end
end
section
open PySem
section
variable {p:AI} {n:Nat} {h:A0} {T:Tb} {es:List En} {xs:List Int}
theorem mM(ok:T.Ok)(O:Ga T es)(hl:es.length<=14):mF (AJ T) ((Bb es).map Br):=by
 have nr:=ok.near
 have t0:=nr.c1
 have t1:=nr.f1
 have t2:=nr.s1
 refine⟨fun r hr=>?_,Fy (.inl (by decide)),fun r hr=>?_,by rw[aB,Cu O.nds];exact n3 hl rfl⟩
 ·rcases List.mem_cons.mp hr with rfl|hr
  ·have l1:=AB (v:=T.c) (j4 t0 rfl) nr.c2
   have l2:=AB (v:=T.f) (j4 t1 rfl) nr.f2
   have l3:=AB (v:=T.s) (j3 t2 rfl) nr.s2
   exact⟨B8,Ad T.c,Ad T.f,Ad T.s,rfl,Ls,AP _,AP _,AP _,Pp,Bp _,Bp _,Bp _,by show 5+_+_+_<=57;exact ql (Ck _ _ _) [(Af,(qN 11)),(Aj,(qN 11)),(AA,(qN 11))] (qA (qA (qA (qN 5) Aj) AA) Af) (qN 57) rfl l3 l1 l2⟩
  ·refine A9 (List.mem_map.mp hr) fun x hx q=>?_
   subst q
   have o0:=O.all x ((Fh O.nds).mp hx)
   have sx:=o0.seat ok
   have v1:=o0.v1
   have v2:=o0.v2
   have gl:=o0.good.len
   have l1:=AB (v:=x.s.1) (j3 sx.1 rfl) (i5 sx.2.1 rfl)
   have l2:=AB (v:=x.s.2) (j3 sx.2.2.1 rfl) (i3 sx.2.2.2 rfl)
   have l3:=AB (v:=x.v) (j3 v1 rfl) (i5 v2 rfl)
   exact⟨Ad x.s.1,Ad x.s.2,x.n,Ad x.v,rfl,AP _,AP _,o0.good.fine,AP _,Bp _,Bp _,o0.good.ok,Bp _,by exact oG l3 l1 l2 gl⟩
 ·refine A9 (List.mem_map.mp hr) fun x hx q=>?_
  subst q
  have sx:=(O.all x ((Fh O.nds).mp hx)).seat ok
  refine Hi (.inl fun q=>?_)
  have t3:=Co (v:=x.s.1) (oY sx) (ZZ sx)
  rw[q,show Ax B8=none by decide] at t3
  cases t3
noncomputable abbrev wL(xs:List Int)(T:Tb)(a b i j:Nat)(w:Nat)(r:Nat)(q:Int)(sp:Nm)(v10 v11 v12:Option AV):Ah:=[some (.scr xs),some T.av,some (.loc a),some (.loc b),some (.loc i),some (.loc j),some (.loc w),some (.loc r),some (.int q),some (.str sp),v10,v11,v12]
inductive SL (h:A0) (xs:List Int) (T:Tb) (a b i j w r:Nat) (q:Int) (sp:Nm) (k:Nat):Ah->A0->Prop
 | mk (h':A0) (v10 v11 v12:Option AV) (K:Kp h.length h h'):SL h xs T a b i j w r q sp k (wL xs T a b i j w r q sp v10 v11 v12) h'
theorem XF(H:CQ p)(hl:xs.length<=63){a b i j w r k F:Nat}{q:Int}{ns:List Nm}{sp:Nm}{v11 v12:Option AV}(D:Ot h r b T ns sp es)(E:F4 h i j T es es)(hq:q=0\/q=1\/q=2):∃ l' h',execSs (cG p (n+7) F) Iu (wL xs T a b i j w r q sp (some (.int k)) v11 v12) h=.ok .next l' h'/\SL h xs T a b i j w r q sp 0 l' h':=by
 have u0:∀ {h:A0} {l:Ah} (k:Nat),A1 (cG p (n+7) F) (.call "_law_cell_at" (.cons (.loc 0) (.cons (.int k) .nil))) (some (.scr xs) :: l) h=.ok (.int (Bl xs k)) h:=fun k=>NI H rfl hl k rfl
 refine(fun (G:∃ l' h'',execSs (cG p (n+7) F) (Ss.nth 2 Iu) (wL xs T a b i j w r q sp (some (.int k)) (some (.int (G7 (Bl xs 5) k))) (some (.int (G7 (Bl xs 6) k)))) h=.ok .next l' h''/\_)=>Av G fun l'' h'' q1 q2=>⟨l'',h'',(A5 (Ak (Ac (A4 (u0 5) (A3 rfl)) (DP (n:=n+6) H.l_mixed _ _)))).trans ((A5 (Ak (Ac (A4 (u0 6) (A3 rfl)) (DP (n:=n+6) H.l_mixed _ _)))).trans q1),q2⟩) ?_
 clear u0
 generalize G7 (Bl xs 5) k=m5
 generalize G7 (Bl xs 6) k=m6
 have no:∀ {c:Int} {h:A0},q≠c->A1 (cG p (n+7) F) (.cmp .eq (.loc 8) (.int c)) (wL xs T a b i j w r q sp (some (.int k)) (some (.int m5)) (some (.int m6))) h=.ok (.bool false) h:=fun hc=>Al rfl rfl (Sq hc)
 have u1:∀ {c:Int} {h:A0},q=c->A1 (cG p (n+7) F) (.cmp .eq (.loc 8) (.int c)) (wL xs T a b i j w r q sp (some (.int k)) (some (.int m5)) (some (.int m6))) h=.ok (.bool true) h:=fun hc=>Al rfl rfl (So hc)
 rcases hq with hq|hq|hq
 ·refine A9 (XE (n:=n+1) (o:=m6) H D E) fun h9 e9 K9=>?_
  exact⟨_,h9,(A5 (Ip (u1 hq) (Aa (Dl (Ac (A4 rfl (A4 rfl (A4 rfl (A4 rfl (A4 rfl (A4 rfl (A3 rfl))))))) e9))))).trans ((Aa (E8 (no (by rw[hq];decide)))).trans (Aa (no (by rw[hq];decide)))),.mk _ _ _ _ K9⟩
 ·refine AF (R9 (n:=n+5) (cc:=m5) (o:=m6) H (mM D.ok D.O D.len) D.hi) fun x h9 e9 K9 B=>?_
  refine A9 (Lz (n:=n+1) (h:=h9) H (x:=.str x) ZQ (HB H B.sm B.len B.no)) fun h10 e10 K10=>?_
  exact⟨_,h10,(Aa (no (by rw[hq];decide))).trans ((Aa (Cn (u1 hq) (Al (Ac (A3 (Ac (A4 rfl (A4 rfl (A3 rfl))) e9)) e10) rfl (GW rfl)))).trans (Aa (no (by rw[hq];decide)))),.mk _ _ _ _ (K9.on K10)⟩
 ·refine A9 (PI (n:=n) (cc:=m5) (o:=m6) H D) fun h9 e9 K9=>?_
  exact⟨_,h9,(Aa (no (by rw[hq];decide))).trans ((Aa (E8 (no (by rw[hq];decide)))).trans (Ao (Ip (u1 hq) (Aa (Dl (Ac (A4 rfl (A4 rfl (A4 rfl (A4 rfl (A4 rfl (A3 rfl)))))) e9)))))),.mk _ _ _ _ K9⟩
theorem XG(H:CQ p)(hl:xs.length<=63){a b i j w r F:Nat}{q:Int}{ns:List Nm}{sp:Nm}(D:Ot h r b T ns sp es)(E:F4 h i j T es es)(hq:q=0\/q=1\/q=2)(hF:50000<=F):∃ l' h',AO (Jw 10) (fun l h=>execSs (cG p (n+7) F) Iu l h) (.rng (6:Nat)) F 0 (wL xs T a b i j w r q sp none none none) h=.ok .next l' h':=by
 refine Av (Bh (i:=10) (src:=.rng (6:Nat)) (items:=C6 (6:Nat)) (body:=fun l h=>execSs (cG p (n+7) F) Iu l h) (SL h xs T a b i j w r q sp) (fun k l h' _=>L9 (by decide)) (fun k v l h' hv hI=>by
   cases hI with
   | mk _ v10 v11 v12 K=>
   refine xA (Ny hv) fun hk A6=>?_;subst A6
   refine Av (XF (n:=n) (F:=F) (k:=k) (a:=a) (w:=w) (v11:=v11) (v12:=v12) H hl (D.keep K) (E.keep K) hq) fun l2 h2 e2 I2=>?_
   cases I2 with
   | mk _ u10 u11 u12 K2=>exact⟨_,_,e2,.mk _ _ _ _ (K.on K2)⟩) (f:=F) (l:=wL xs T a b i j w r q sp none none none) (h:=h) (by rw[Fu];exact aP (by decide) hF) (SL.mk (k:=0) _ none none none .refl)) fun l' h' e' _=>⟨l',h',e'⟩
theorem Zl(H:CQ p)(hl:xs.length<=63):∃ h',AD p (n+8) false "law" [.scr xs] h=.ok (.bool true) h':=by
 refine A9 (BS (n:=n+7) (h:=h) H.law (as:=[.scr xs]) [some (.scr xs),none,none,none,none,none,none,none,none,none,none,none,none] rfl rfl) fun F hF e=>?_
 rw[e]
 have u0:∀ {h:A0} {l:Ah} (k:Nat),A1 (cG p (n+7) F) (.call "_law_cell_at" (.cons (.loc 0) (.cons (.int k) .nil))) (some (.scr xs) :: l) h=.ok (.int (Bl xs k)) h:=fun k=>NI H rfl hl k rfl
 refine Zq (LR (n:=n+5) (h:=h) H hl) fun T ok oa ob e1=>?_
 have t0:=ok.near
 have c1:=t0.c1
 have c2:=t0.c2
 have f1:=t0.f1
 have f2:=t0.f2
 have s1:=t0.s1
 have s2:=t0.s2
 generalize h++[oa,ob]=h1 at e1
 refine BT (LS (n:=n+5) (h:=h1) H (Bl xs 3) (many:=21) (by decide)) fun ns nl ng nd e2=>?_
 have g2:(h1++[Ay.list (ns.map .str)])[h1.length]?=some (.list (ns.map .str)):=Ae
 generalize h1++[Ay.list (ns.map .str)]=h2 at e2 g2
 refine xE (LT (n:=n+5) (h:=h2) H ok ng nd (n3 (aE nl) rfl) g2) fun ii e3=>?_
 have u3:Ep (h2++[.dict (dk .str T.homes ns) ii]) h2.length T ns:=⟨ii,Ae⟩
 have g3:=AS (g:=[.dict (dk .str T.homes ns) ii]) g2
 generalize h2++[Ay.dict (dk .str T.homes ns) ii]=h3 at e3 u3 g3
 refine JG (Ut (n:=n+5) (h:=h3) H hl ok ng nd nl g3 u3) fun i j h4 es e4 DR K4=>?_
 have g4:=K4.all g3
 have u8:Ep h4 h2.length T ns:=u3.imp fun _ q=>K4.all q
 have dl:=DR.len
 have E4:F4 h4 i j T es es:=⟨DR.st,DR.th,ok,DR.ok,DR.ok,fun _ q=>q,by exact n3 dl rfl⟩
 have s6:=Ak (c:=cG p (n+7) F) (i:=6) (Bx (l:=[some (.scr xs),some T.av,some (.loc h1.length),some (.loc h2.length),some (.loc i),some (.loc j),none,none,none,none,none,none,none]) (h:=h4) (A4 (x:=.str B8) rfl (A4 (x:=.bi .str (.cons (.sub (.loc 1) (.int 0)) .nil)) (Cj (i:=T.c) (An rfl rfl rfl) (Fk c2 c1) rfl) (A4 (x:=.bi .str (.cons (.sub (.loc 1) (.int 1)) .nil)) (Cj (i:=T.f) (An rfl rfl rfl) (Fk f2 f1) rfl) (A3 (x:=.bi .str (.cons (.sub (.loc 1) (.int 2)) .nil)) (Cj (i:=T.s) (An rfl rfl rfl) (Fk s2 s1) rfl))))) (by show 4<=1000;decide))
 have g5:(h4++[Ay.list [.str B8,.str (Ad T.c),.str (Ad T.f),.str (Ad T.s)]])[h4.length]?=some (.list ([B8,Ad T.c,Ad T.f,Ad T.s].map .str)):=Ae
 have K5:Kp h4.length h4 (h4++[.list [.str B8,.str (Ad T.c),.str (Ad T.f),.str (Ad T.s)]]):=.app
 generalize h4++[Ay.list [.str B8,.str (Ad T.c),.str (Ad T.f),.str (Ad T.s)]]=h5 at s6 g5 K5
 have lh:=(Hj ok.near).len
 rw[AJ,WY] at lh
 refine AF (Py (n:=n+6) H ((E4.keep K5).keep (h':=h5++[.list [.str (AJ T)]]) .app)) fun r6 h6' e6 g6 K6=>?_
 refine AF (Fj (c:=cG p (n+7) F) (l:=[some (.scr xs),some T.av,some (.loc h1.length),some (.loc h2.length),some (.loc i),some (.loc j),some (.loc h4.length),none,none,none,none,none,none]) (h:=h5) (x:=.list (.cons (.bm .join (.str [32]) (.cons (.loc 6) .nil)) .nil)) (y:=.call "_law_rows" (.cons (.loc 4) (.cons (.loc 5) .nil))) (Bx (A3 (GZ (k:=6) rfl g5 (jX lh))) (by show 1<=1000;decide)) Ae .app (Ac (A4 rfl (A3 rfl)) e6) g6 K6 (by rw[aB,aB,Cu DR.ok.nds];show 1+_<=3000;exact Zr dl rfl)) fun r7 h7 e7 g7 K7=>?_
 have g7:h7[r7]?=some (.list ((Ar T es).map .str)):=g7
 have u2:Kp h4.length h4 h7:=K5.on K7
 have u7:=u2.all g4
 have u1:20<ns.length:=by exact ql (IG _) [(qN 21,Af)] (qA (qN 20) qI) Af rfl (aE (bO nl))
 have u4:Cc (.loc h1.length) (.int 20) h7=.ok (.str ns[20]) h7:=Bf (AM (by rw[aB];exact n3 (aE nl) rfl)) u7 (by decide) (by show (ns.map AV.str)[20]?=_;rw[aK,aF u1];rfl)
 have u6:Bc.str ns[20]∉es.map kN:=fun q=>by
  refine A9 (List.mem_map.mp q) fun x hx ex=>?_
  have ex:x.n=ns[20]:=Bc.str.inj ex
  have hm:=DR.nm x hx
  rw[ex] at hm
  refine xE (List.mem_take_iff_getElem.mp hm) fun m hm=>?_
  refine xE hm fun h1 h2=>?_;try clear hm
  have t1:=(dW u1 nd).mp (show ns[20]?=ns[m]? by rw[aF u1,aF (by exact ql (Ck _ _ _) [(BP,Aj),(Aj,AA)] BP AA rfl h1 (cB _ _)),h2])
  exact oZ h1 t1
 have u5:ns[20]∈ns:=bZ u1
 generalize ns[20]=sp at u4 u6 u5
 have D7:Ot h7 r7 h2.length T ns sp es:=⟨g7,u8.imp fun _ q=>u2.all q,nd,ng,by exact n3 (aE nl) rfl,u5,u6,ok,DR.ok,dl⟩
 have E7:=E4.keep u2
 generalize hq:(Bl xs 4).fmod 3=q
 refine PJ (XG (n:=n) (F:=F) (xs:=xs) (a:=h1.length) (w:=h4.length) (q:=q) H hl D7 E7 (hq▸wS (AK (Bl xs 4) (by decide))) hF) fun l8 h8 e8=>?_
 refine⟨h8,AH ((A5 (Ak (Ac (A3 rfl) e1))).trans ((A5 (Ak (Ac (A4 (u0 3) (A3 rfl)) e2))).trans ((A5 (Ak (Ac (A4 rfl (A3 rfl)) e3))).trans ((A5 (Nz (l':=[some (.scr xs),some T.av,some (.loc h1.length),some (.loc h2.length),some (.loc i),some (.loc j),none,none,none,none,none,none,none]) rfl (Ac (A4 rfl (A4 rfl (A4 rfl (A3 rfl)))) e4) rfl)).trans ((A5 s6).trans ((A5 (Ak e7)).trans ((A5 (Ak (A8 (u0 4) rfl ((B1 (by decide)).trans (by rw[hq]))))).trans ((A5 (Ak (An rfl rfl u4))).trans ((A5 (DQ rfl (Lb (A3 rfl) (La (m:=6) (by decide))) e8)).trans (Ao (AZ rfl))))))))))) ⟩
end
theorem wA{xs:List Int}(hl:xs.length<=63):∃ h',AD WG 16 false "law" [.scr xs] []=.ok (.bool true) h':=Zl (n:=8) qL hl
end
end Mine.Internal
open PySem PySem.W PyProof.Rows Mine.Internal
namespace Mine.Internal
section
noncomputable def mO:List Str:=["__init__","homes","need_nest","at","put_at","need_there","take_out","value","where","names","many"]
noncomputable def rA:List Str:=["count","first","second","standing","things"]
noncomputable def rB:List (Str×Const):=[("SIGNS",.str "abcdefghijklmnopqrstuvwxyz0123456789"),("MOST_SIGNS",.int 12),("MOST_COUNT",.int 1000),("MOST_TIMES",.int 1000000),("MOST_VALUE",.int 1000000000),("FIGURES",.str "0123456789"),("MOST_FIGURES",.int 10)]
noncomputable def vW:List Str:=["is_name","home","is_whole","need_name","need_value","written","number_of","value_of","words_of","thing_of","read","_law_cell_at","_law_mixed","_law_room","_law_names","_law_home","_law_table","_law_homes","_law_kind","_law_told","_law_drawn","_law_rows","_law_text","_law_alike","_law_number","_law_spoilt","_law_other","_law_good","_law_refused","law"]
noncomputable def Rd:Sh:=⟨vW++mO,mO,rA,"Nests",rB,kE⟩
theorem rP:∀ a∈Rd.attrs,typeLookup (.type "object") a=pure none:=by
 intro a h
 simp only[Rd,rA,bU,cL,or_false] at h
 rcases h with rfl|rfl|rfl|rfl|rfl<;>kernel_rfl
theorem rQ:∀ m∈Rd.meths,∃ y,typeLookup (.type "object") m=pure y:=by
 intro a h
 simp only[Rd,mO,bU,cL,or_false] at h
 rcases h with rfl|rfl|rfl|rfl|rfl|rfl|rfl|rfl|rfl|rfl|rfl
 ·exact⟨some (.builtin "object.__init__"),by kernel_rfl⟩
 all_goals exact⟨none,by kernel_rfl⟩
theorem rC:OT pD Rd:=by
 intro x k h
 simp only[Rd,rB,bU,Prod.mk.injEq,cL,or_false] at h
 rcases h with ⟨rfl,rfl⟩|⟨rfl,rfl⟩|⟨rfl,rfl⟩|⟨rfl,rfl⟩|⟨rfl,rfl⟩|⟨rfl,rfl⟩|⟨rfl,rfl⟩<;>exact⟨_,rfl,by kernel_rfl⟩
noncomputable def xZ:ClsRec:=(Nv pD Rd).getD ⟨"",none,[],[],0,[]⟩
noncomputable def xL(mg:Str->Option Value)(h:Heap):Prop:=XL pD [] mg h/\FD kE pE mg h
end
end Mine.Internal
set_option maxRecDepth 100000 in
set_option maxHeartbeats 8000000 in
theorem PySem.Challenge.cw_uf040007_11_holds : PySem.Challenge.rw_uf040007_11.Holds := by
 w_on
 refine PySem.W.holds_law (by decide +kernel) fun said=>?_
 refine holds_open (q:=Mine.Internal.pD) (loose:=[]) (Xt:=Mine.Internal.vF) (XP:=Mine.Internal.xL) (Yf:=Hook.obs Hook.none) (Ya:=Hook.val Hook.none) (YP:=Hook.says Hook.none) (N:=8358) Mine.Internal.vG (Hook.of Hook.none) (Hook.keeps Hook.none) (fun s e=>⟨xl_of s (Bool.and_eq_true_iff.mp (Bool.and_eq_true_iff.mp e).1).1,Mine.Internal.kD (Bool.and_eq_true_iff.mp e).2⟩) (fun mg h h' x k=>⟨XL.keeps mg h h' x.1 k,Mine.Internal.FD.keeps mg h h' x.2 k⟩) (by rfl) (by rfl) (by rfl) (fun s e=>recFacts_of (Bool.and_eq_true_iff.mp (Bool.and_eq_true_iff.mp e).1).2) (by rfl) (by first|assumption|decide +kernel) (by decide +kernel) ⟨rfl,rfl,rfl,rfl,rfl,by decide +kernel⟩ ?hw ?hc
 case hw=>w_witness2
 intro w s₀ s₁ mg mb G Y fa o pm cd jd dV kV ho hd hcd hD hmg hg args gy as hpre hlay hrd hwl hlo
 have X:=G.X
 refine Ground.open G ?_
 intro T B D TE TW
 clear hd hD hcd G Y
 wrow_args hpre hlay hrd hwl hlo
 rename_i xs _ _ _ _ _ _ _ a vs _ hL _ _ _ hI _ hlen _
 obtain⟨hp,kq⟩:=Mine.Internal.wA (xs:=xs) (bN.1 (jl (CX _) [(AC,(jN 63))] AC (jN 63) rfl (fO.1 hlen)))
 refine Mine.Internal.qF (sh:=Mine.Internal.Rd) (c:=Mine.Internal.xZ) T TE rfl (by decide +kernel) rfl (by decide +kernel) (by kernel_rfl) (by decide +kernel) Mine.Internal.rP Mine.Internal.rQ Mine.Internal.rC (all:=Mine.Internal.pE) (by decide +kernel) X.2 (pr:=Mine.Internal.WG) (by kernel_rfl) (by decide +kernel) (by decide +kernel) hmg hL hI kq ?_
 intro s' hk ho hgen
 exact GoodW.toG ⟨.inl ⟨_,.bool true,[],rfl,raisesW_false (by wrow_none_raised),.bool true,by wrow_post,by simp⟩,hk,ho,hgen.trans hg⟩
