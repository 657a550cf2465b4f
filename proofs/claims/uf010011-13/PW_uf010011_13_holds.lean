import PyProof.Rows.All
import KE.KDictList
import KE.KTryMore
import KE.KDictOf
import Wide.All
import PySem.Challenge.RW_uf010011_13
set_option linter.unusedVariables false
set_option linter.unusedSimpArgs false
set_option tactic.hygienic false
set_option compiler.extract_closed false
set_option bootstrap.genMatcherCode false
set_option genSizeOf false
set_option genSizeOfSpec false
set_option genInjectivity false
set_option backward.match.sparseCases false
open String renaming reduceBEq->Qa
open PySem.Str renaming ofString->Qb
open List renaming range->Qc, length_map->Qd, mem_map->Ql, mem_range->Qf, mem_filter->Qj, map_cons->Qo, mem_append_right->Qe, mem_singleton->Qh, mem_cons->Qw, mem_append->Qr, mem_append_left->Qk, nodup_cons->Qy, map_congr_left->Qm, getElem?_eq_getElem->Qg, getElem?_map->Qu, map_map->QE, nodup_append->Qv, all_eq_true->Qx, map_append->QD, length_range->QA, append_nil->QH, map->Kz, length_append->QG, mem_of_getElem?->QC, sum_cons->QY, getElem?_eq_some_iff->QF, take_length->Kh, any_eq_true->Ki, sum->Wo, nil_append->Kv, nodup_range->Kr, nodup_iff_pairwise_ne->QP, mem_cons_self->Ko, not_mem_nil->Ky, of_mem_zip->KC, filter->Wg, append_assoc->Kt, filter_cons_of_pos->Ke, filter_cons_of_neg->Kf, mem_cons_of_mem->Kn, drop->Wz, length_cons->KW, getElem?_set->KU, map_nil->WH, contains_cons->KZ, getElem_mem->Wj, sublist_cons_self->KI, length_nil->Ww, getElem_of_mem->Wi, getElem?_eq_none->KX, pairwise_map->Wl, length_set->Wx, length_filter_le->KY, sum_append->Yb, ext_getElem?->WD, getElem_map->WM, getElem?_range->Wp, lookup->YE, zip_cons_cons->Wt, length->YF, getElem_range->Wu, map_set->YA, filter_filter->Wv, map_eq_nil_iff->Wr, filter_eq_nil_iff->Wy, contains_nil->Yj, lookup_cons->Yp, countP_cons->Yq, find?_some->Yx, mem_of_find?_eq_some->Wm, length_singleton->WG, length_take->Yr, getElem?_append_left->Wn, take_sublist->Yk, filter_eq_self->WU, filter_congr->Yl, countP_append->Yd, length_eq_zero_iff->Yh, getD_eq_getElem?_getD->WN, exists_cons_of_ne_nil->WO, drop_eq_getElem_cons->WV, getElem?_eq_none_iff->WW, getElem?_append_right->WP, getElem?_of_mem->Yt, mem_of_mem_take->Yu, drop_eq_nil_iff->Yv
open Nat renaming le_trans->Qq, le_refl->Qz, zero_le->QS, not_lt->QW, le_of_eq->QV, add_right_comm->QI, lt_succ_self->QN, lt_of_lt_of_le->QJ, add_le_add->Kk, le_of_lt->Kw, lt_of_le_of_lt->Ka, le_of_succ_le->Kj, zero_add->KR, lt_irrefl->KJ, le_succ->Wf, succ_le_succ->Kx, add_le_add_right->Km, le_add_right->KG, add_le_add_left->KL, not_lt_zero->Wd, le_of_lt_succ->We, ne_of_lt->WI, ne_of_gt->WJ, add_assoc->WQ, le_of_ble_eq_true->Wk, succ_pos->Yz, lt_succ_of_lt->WC, le_succ_of_le->WE, mul_le_mul->Yi, mul_le_mul_left->WR, succ_lt_succ->Yo, le_antisymm->Yw, min_le_right->Ys, le_add_left->Yy
open Bool renaming and_eq_true_iff->Qi, false_ne_true->QB, and_eq_true->QL, not_eq_true'->QT, eq_iff_iff->Kq, or_eq_true->WZ, eq_false_iff->WF, or_eq_true_iff->Wq, true_and->Yn, and_false->YC
open Option renaming bind_eq_some_iff->Qn, map_eq_some_iff->Qt, map->Wa, bind_some->KF, isNone_iff_eq_none->Kg, map_some->Wc, isSome_iff_exists->Yc
open PySem.Heap renaming get?_push_of_some->Qs, lt_size->QO, get?_push_size->QK, SameBut->KM, get?_update_self->Kd, size_push->KN, get?_update_other->KH, get?_none_of_le->WK
open Int renaming le_trans->QQ, le_refl->QX, ofNat_lt->Kc, add_zero->Ks, natCast_nonneg->QU, not_lt->KQ, ofNat_le->KB, add_assoc->KS, toNat_lt->KV, ofNat_inj->KT, add_comm->Wh, le_add_of_nonneg_right->QZ, lt_of_lt_of_le->KO, sub_eq_add_neg->KP, zero_add->Ws, sub_sub->WX, sub_zero->Ye, le_of_lt->Yg, add_sub_assoc->WA, le_antisymm->WY, toNat_of_nonneg->WT, add_nonneg->YD, sub_nonneg_of_le->WL
open Array renaming getElem?_eq_getElem->Kl, getElem?_eq_some_iff->Ku, getElem?_eq_none->Ym, length_toList->YB, getElem?_setIfInBounds_self_of_lt->Wb
open PySem renaming wpAny_bind->YG, wpAny_pure->YH, wpAny_mono->YI, wpAny_holding->YJ, wpAny_standAt->YK, wpAny_field->YL, wpAny_call_entry->YM
set_option Elab.async false
set_option maxRecDepth 100000
set_option maxHeartbeats 0
set_option autoImplicit true
set_option relaxedAutoImplicit true
open Option renaming some->Ja, none->Jb
open Bool renaming true->Jc, false->Jd
open PySem
open PySem renaming Shared->Je,Value->Jf,Addr->Jg,wpAny->Jh,Heap->Ji,Around->Jj,Scope->Jk,Expr->Jl,World->Jm,Program->Jn,Stmt->Jo,Obj->Jp,Str->Jq,FuncData->Jr,Env->Js,model->Jt,truthy->Ju,mem_of_lookup->Jv,eval->Jw,rawInt->Jx,wpAny_loadPart_at->Jy,call_isinstance->Jz,mainGlobals->JA,wpAny_newObj_type->JB,sysModules->JC,starEach->JD,excClassObj->JE,wpAny_setField->JF,behindInMarks->JG,wpAny_dictEntries->JH,wpAny_Constant_none->JI,sizeLine->JJ,wpAny_execs_nil->JK,entryOfKey->JL,assignEach->JM,DictEntry->JN,cellsFrom->JO,isSubtype_type->JP,foldedSetIterable->JQ,swapsWith->JR,setFlight->JS,wpAny_typeNameOfWhole_keyiter->JT,wpAny_of_eq->JU,sizeLine_eq->JV,NameKind->JW,backTo->JX,wpAny_isTrue_BoolOp->JY,typeLookup->JZ,recursionLimit->J0,OwnTail->J1,spliced->J2,keywordEach->J3,ExceptHandler->J4,wpAny_execs_cons->J5,wpAny_Name->J6,wpAny_allTrue_And_cons->J7,wpAny_call->J8,size_of_entries->J9,isinstance_true->YN,wpAny_notOrdered_dict->YO,wpAny_allTrue_Or_cons->YQ,wpAny_isTrue_Compare1->YR,pyIter->YS,PyData->YT,wpAny_loadName_local->YU,compareOp->YV,isSubtype->YW,wpAny_isSubtype_exc->YX,atKey->YY,wpAny_setSeqItemAt->YZ,bootBuiltins->Y0,backToKw->Y1,bindArgs->Y2,plainObj_wpAny_Assign_Attribute->Y3,checkBuiltinCall->Y4,Pos->Y5,treeTable->Y6,pushCells->Y7,isTrue->Y8,handedOut->Y9,cLine->Ua,wpAny_Call_method_late->Ub
noncomputable section
namespace Vl.Internal
theorem Uc{p:Prop}[Decidable p](h:p):decide p=Jc:=decide_eq_true h
theorem Ud{p:Prop}[Decidable p](h:¬p):decide p=Jd:=decide_eq_false h
theorem Ue{p:Prop}[Decidable p](h:decide p=Jc):p:=of_decide_eq_true h
theorem Uf{c:Prop}{h:Decidable c}(k:¬c){α:Sort _}{t e:α}:ite c t e=e:=if_neg k
theorem Ug{c:Prop}{h:Decidable c}(k:c){α:Sort _}{t e:α}:ite c t e=t:=if_pos k
theorem Uh{α:Type _}[BEq α][LawfulBEq α]{a b:α}(h:(a==b)=Jc):a=b:=eq_of_beq h
theorem Ui{p:Prop}[Decidable p]:(decide p=Jc)=p:=decide_eq_true_eq
theorem Uj{α:Sort _}{β:Sort _}{a b:α}(f:α->β)(h:a=b):f a=f b:=congrArg f h
inductive X2{α β:Type}(P:α->β->Prop):Prop
 |mk (a:α) (b:β) (h:P a b):X2 P
inductive X3{α β γ:Type}(P:α->β->γ->Prop):Prop
 |mk (a:α) (b:β) (c:γ) (h:P a b c):X3 P
inductive X4{α β γ δ:Type}(P:α->β->γ->δ->Prop):Prop
 |mk (a:α) (b:β) (c:γ) (d:δ) (h:P a b c d):X4 P
inductive X5{α β γ δ ε:Type}(P:α->β->γ->δ->ε->Prop):Prop
 |mk (a:α) (b:β) (c:γ) (d:δ) (e:ε) (h:P a b c d e):X5 P
inductive X6{α β γ δ ε ζ:Type}(P:α->β->γ->δ->ε->ζ->Prop):Prop
 |mk (a:α) (b:β) (c:γ) (d:δ) (e:ε) (f:ζ) (h:P a b c d e f):X6 P
inductive A3(a b c:Prop):Prop
 |mk (p:a) (q:b) (r:c):A3 a b c
inductive A4(a b c d:Prop):Prop
 |mk (p:a) (q:b) (r:c) (s:d):A4 a b c d
inductive A5(a b c d e:Prop):Prop
 |mk (p:a) (q:b) (r:c) (s:d) (t:e):A5 a b c d e
inductive A6(a b c d e f:Prop):Prop
 |mk (p:a) (q:b) (r:c) (s:d) (t:e) (u:f):A6 a b c d e f
inductive A8(a b c d e f g h:Prop):Prop
 |mk (p:a) (q:b) (r:c) (s:d) (t:e) (u:f) (v:g) (w:h):A8 a b c d e f g h
inductive A9(a b c d e f g h i:Prop):Prop
 |mk (p:a) (q:b) (r:c) (s:d) (t:e) (u:f) (v:g) (w:h) (x:i):A9 a b c d e f g h i
theorem ns{L:Type _}{a:L}{P:Prop}(h:Jb=Ja a):P:=by cases h
theorem sn{L:Type _}{a:L}{P:Prop}(h:Ja a=Jb):P:=by cases h
theorem bS{L:Type _}{a:L}{P:Prop}(h:a∈([]:List L)):P:=by cases h
theorem ft{P:Prop}(h:Jd=Jc):P:=by cases h
theorem tf{P:Prop}(h:Jc=Jd):P:=by cases h
theorem sj{L:Type _}{a b:L}(h:Ja a=Ja b):a=b:=Option.some.inj h
theorem wn{L:Type}{M:Model}{A:Jj}{c:Prop}[i:Decidable c]{a b:Sem L}{Q:L->Je->Prop}{E:Jf->Je->Prop}{s:Je}(C:¬c)(h:Jh M A b Q E s):Jh M A (if c then a else b) Q E s:=by rw[Uf C];exact h
theorem wy{L:Type}{M:Model}{A:Jj}{c:Prop}[i:Decidable c]{a b:Sem L}{Q:L->Je->Prop}{E:Jf->Je->Prop}{s:Je}(C:c)(h:Jh M A a Q E s):Jh M A (if c then a else b) Q E s:=by rw[Ug C];exact h
theorem D8{a b c:Nat}(h:a<=b)(k:b<=c):a<=c:=Qq h k
theorem zl{a b c:Nat}(h:a<=b)(k:b<c):a<c:=Ka h k
theorem Fy{a b c:Nat}(h:a<b)(k:b<=c):a<c:=QJ h k
theorem zq{a b c:Nat}(h:a<b)(k:b=c):a<c:=Nat.lt_of_lt_of_eq h k
theorem zs(h:a<b+1):a<=b:=We h
theorem Ga(h:a<=b)(k:Nat.ble (b+1) c=Jc):a<c:=Ka h<|Wk k
theorem FS(h:a<=b)(k:Nat.ble b c=Jc):a<=c:=Qq h<|Wk k
theorem HA(n:Nat): -1000000<(n:Int):=KO (by decide)<|QU n
theorem Fh{a b:Nat}(h:a<=b)(k:b<=1000000:=by decide):(a:Int)<=1000000:=KB.mpr<|Qq h k
theorem zk1{a b c d e:Nat}(i:a<=8)(N:b<=8)(p:c+d=17)(h:e<=a+b)(w:(d:Int)<e):c=c-1+1:=by
 cases c with
 |zero=>exact absurd (QJ (Kc.mp w)<|Qq h (Kk i N))<|by rw[show d=17 from(KR d).symm.trans p];decide
 |succ c=>rfl
theorem ztn{x a y:Int}(h:x>0)(k:1<=a)(e:y=x-a):y.toNat<x.toNat:=(Int.toNat_lt_toNat h).mpr (by rw[e];exact Int.sub_lt_self x<|KO (by decide) k)
theorem zg1{a b c:Int}(h:a-b=0-c):a+c=b:=by rw[Int.zero_sub] at h;rw[<-Int.sub_neg,<-h,Int.sub_sub_self]
theorem zg2{a b c:Int}(h:a-b=c-0):a=b+c:=by rw[Ye] at h;rw[<-h,Wh,Int.sub_add_cancel]
theorem zg3{r n x a:Int}(e:n=x+a)(k:1<=a)(h:n<=r):(r-n).toNat<(r-x).toNat:=ztn (Int.sub_pos_of_lt<|KO (e▸Int.lt_add_of_pos_right x (KO (by decide) k)) h) k<|by rw[e,WX]
theorem zg4(h:a+ -x=b+0):x=a-b:=by rw[Ks] at h;rw[<-h,<-KP,Int.sub_sub_self]
theorem zh1(h:y<8):(8*x+y) / 8=x:=by rw[Nat.mul_add_div (by decide),Nat.div_eq_of_lt h,Nat.add_zero]
theorem zh2(h:y<8):(8*x+y) % 8=y:=by rw[Nat.mul_add_mod,Nat.mod_eq_of_lt h]
theorem zh3(h:x<8)(k:y<8):8*x+y<64:=QJ (Nat.add_lt_add_left k<|8*x)<|WR 8 (Nat.succ_le_of_lt h)
theorem zr1{a b c d:Int}(h:a+b=c):a+d+(b-d)=c:=by rw[KS,<-WA,Wh d b,Int.add_sub_cancel];exact h
theorem zr2{a b c:Int}(h:a+b=c):a+0+b=c:=by rw[Ks];exact h
theorem zr4(h:a+b+2<c):a+1+b<c:=Ka (Qq (QV<|QI a 1 b)<|Wf _) h
theorem zr6(h:a+30*(b+1)+300<c):a+3+30*b+300<c:=Ka (Km (by rw[QI];exact KL (by decide:3<=30)<|a+30*b) 300) h
theorem zr8(a b c d:Int):a+b+(c+d)=a+c+(b+d):=by rw[KS,Int.add_left_comm b,<-KS]
theorem zr9{a b:Int}(h:a>0):0<b+a-b:=by rw[Wh,Int.add_sub_cancel];exact h
theorem zr10(a b c:Int):a+b+c=a+(c+b*1):=by rw[Int.mul_one,KS,Wh b]
theorem zr11{a b c:Int}(h:0<=a)(k:¬a>0)(e:b+a=c):c=b:=by rw[<-e,WY (KQ.mp k) h,Ks]
theorem zr12(a b c:Int):a+b+(c+0)=a+c+b:=by rw[Ks,Int.add_right_comm]
theorem zr14(a b c d:Int):a+b-(c+d)=a-c+(b-d):=by rw[<-WX,WA,KP,KP,KP,KP];exact(Uj (· + -d) (by rw[KS,Wh b,<-KS]:a+(b+ -c)=a+ -c+b)).trans (KS _ _ _)
theorem zmn{a b c d:Nat}(h:a+100<b)(k:c<=50):a+min c d<b:=Ka (KL (Qq (Nat.min_le_left _ _)<|Qq k (by decide)) _) h
theorem zmn2{a b c d:Nat}(h:a+100<b)(k:c<=50):a+min c d+2<b:=Ka (Kk (KL (Qq (Nat.min_le_left c d) k) a) (by decide:2<=50)) h
theorem zpr(h:a<b):b=b-1+1:=(Nat.sub_add_cancel<|Ka (QS _) h).symm
theorem zng{a n:Int}(h:¬0<=a):a+n<n:=by have:=Int.add_lt_add_right (Int.not_le.mp h) n;rw[Ws] at this;exact this
theorem zi1{n:Nat}{k:Int}(h:n<=10000000)(b:k<n):k<2^63:=KO b<|QQ (KB.mpr h) (by decide)
theorem zi2{n:Nat}{k:Int}(h:n<=10000000)(b: -(n:Int)<=k): -(2^63)<=k:=QQ (Int.neg_le_neg<|QQ (KB.mpr h) (by decide:((10000000:Nat):Int)<=2^63)) b
theorem zi3{n:Nat}(h:n<=1000000):(n:Int)<2^63:=Int.lt_of_le_of_lt (KB.mpr h)<|by decide
theorem zw1{a b c:Int}(h:a-b=c-1):a+1-b=c-0:=by rw[Wh,WA,h,Wh,Int.sub_add_cancel,Ye]
theorem zw2{a b c:Int}(h:a-b=c):a+0-b=c:=by rw[Ks];exact h
theorem zw3{a b c:Int}(h:a-b=c-0):a-(b+1)=c-1:=by rw[<-WX,h,Ye]
theorem zw4{a b c:Int}(h:a-b=c):a-(b+0)=c:=by rw[Ks];exact h
theorem zw5{a b c:Int}(h:a-b=0-c):a+1-b=1-c:=by rw[Wh,WA,h,<-WA,Ks]
theorem zw7{a b c:Int}(h:a-b=1-c):a-(b+1)=0-c:=by rw[<-WX,h,WX,Wh,<-WX,Int.sub_self]
theorem zrs(n:Int):(if 0<n then n-0 else 0)=(n.toNat:Int):=by
 by_cases h:0<n
 .rw[Ug h,Ye,WT (Yg h)]
 .rw[Uf h,Int.toNat_of_nonpos (KQ.mp h)];rfl
theorem lp{L:Type}{M:Model}{A:Jj}{c:Sem L}{p:L->Je->Prop}{e:Jf->Je->Prop}{s:Je}(h:let P:=p;let R:=e;Jh M A c P R s):Jh M A c p e s:=h
set_option genCtorIdx false in
set_option genInjectivity true in
inductive KA where
 |n(i:Int)
 |t(s:String)
noncomputable abbrev KA.ctorIdx(x:KA):Nat:=KA.casesOn x (λo0=>0) (λo0=>1)
deriving instance DecidableEq for KA
theorem CV(h:Qb x=Qb y):x=y:=by
 rw[Str.ofString_eq_toList,Str.ofString_eq_toList] at h;have N:x.toList.map Char.toNat=y.toList.map Char.toNat:=by
  have:=Uj (λs:Jq=>s.cps.toList) h
  simpa using this
 have i:Function.Injective Char.toNat:=λa b e=>by
  have:a.val=b.val:=UInt32.toNat_inj.mp e;exact Char.ext this
 have p:x.toList=y.toList:=by
  have:∀ (l m:List Char),l.map Char.toNat=m.map Char.toNat->l=m:=by
   intro l
   induction l with
   |nil=>intro m e;induction m using List.casesOn with|nil=>rfl|cons=>cases e
   |cons a r W=>intro m e;induction m using List.casesOn with|nil=>cases e|cons b q=>simp only[Qo,List.cons.injEq] at e;rw[i e.1,W q e.2]
  exact this _ _ N
 exact String.toList_inj.mp p
noncomputable def GT:KA->Jf->Bool
 | .n i,v=>Value.isInt i v
 | .t s,v=>Value.isStrOf (Qb s) v
theorem gL(h:GT (.n i) v=Jc):∃t,v= .int i t:=Value.isInt_shape h
theorem gH(h:GT (.t s) v=Jc):∃t,v= .str (Qb s) t:=Value.isStrOf_shape h
theorem uD(i:Int)(t:Tok):GT (.n i) (.int i t)=Jc:=by simp[GT,Value.isInt]
theorem uc(s:String)(t:Tok):GT (.t s) (.str (Qb s) t)=Jc:=by simp[GT,Value.isStrOf]
def mk(prog:Jn)(w:Jm):KeyKind prog w KA where
 is:=GT
 hash:=λk=>match k with
  | .n i=>hashInt i
  | .t s=>hashStr w<|Qb s
 inj:=λv a b T R=>by
  induction a with
  |n i=>
   obtain⟨t,rfl⟩:=gL T
   induction b with
   |n j=>obtain⟨u,e⟩:=gL R;cases e;rfl
   |t s=>obtain⟨u,e⟩:=gH R;cases e
  |t s=>
   obtain⟨t,rfl⟩:=gH T
   induction b with
   |n j=>obtain⟨u,e⟩:=gL R;cases e
   |t G=>obtain⟨u,e⟩:=gH R;injection e with e;rw[CV e]
 byValue:=λk v h=>by
  induction k with
  |n i=>obtain⟨t,rfl⟩:=gL h;rfl
  |t s=>obtain⟨t,rfl⟩:=gH h;rfl
 pyHash:=λ{A E s k v Q} hv h=>by
  induction k with
  |n i=>obtain⟨t,rfl⟩:=gL hv;exact wpAny_pyHash_int h
  |t x=>obtain⟨t,rfl⟩:=gH hv;exact wpAny_pyHash_str h
 eqBool:=λ{A E s a b u v Q} p hv h=>by
  induction a with
  |n i=>
   obtain⟨t,rfl⟩:=gL p
   induction b with
   |n j=>
    obtain⟨g,rfl⟩:=gL hv;refine wpAny_eqBool_int ?_;have e:(i==j)=decide (KA.n i=KA.n j):=by rw[Kq];simp
    rw[e];exact h
   |t y=>obtain⟨g,rfl⟩:=gH hv;exact SeqAt.EqAt.int_str i t _ g prog w E Q<|by rw[Ud (λe=>by cases e)] at h;exact h
  |t x=>
   obtain⟨t,rfl⟩:=gH p
   induction b with
   |n j=>obtain⟨g,rfl⟩:=gL hv;exact SeqAt.EqAt.str_int _ t j g prog w E Q<|by rw[Ud (λe=>by cases e)] at h;exact h
   |t y=>
    obtain⟨g,rfl⟩:=gH hv;refine wpAny_eqBool_str ?_;have e:decide (Qb x=Qb y)=decide (KA.t x=KA.t y):=decide_eq_decide.mpr ⟨λe=>by rw[CV e],λe=>by cases e;rfl⟩;rw[e];exact h
 «strs»:=λk x t v h=>by
  induction k with
  |n i=>obtain⟨g,e⟩:=gL h;cases e
  |t s=>obtain⟨g,e⟩:=gH h;injection e with e;subst e;rcases v with⟨⟩<;>rfl
abbrev tk(prog:Jn)(w:Jm):HeapKind prog w (List KA):=tupleKind<|mk prog w
section
variable{prog:Jn}{w:Jm}{K:Type}[DecidableEq K]{knd:HeapKind prog w K}{A:Jj}{E:Jf->Je->Prop}{s:Je}
theorem iZ{d a:Jg}{xs:List (K×Jg×Jf)}{Q:Jf->Je->Prop}(u:knd.room A)(h:knd.is s.heap k a)(m:s.heap.DictOfH knd d xs)
  (N:∀p,YY xs k=Ja p->Q p.2 {s with toks:=s.toks+knd.draws k})
  (Y:YY xs k=Jb->∀S,S.DictOfH knd d (xs++[(k,a,v)])->KM d s.heap S->Q v {s with heap:=S,toks:=s.toks+knd.draws k})
  (hsz:xs.length<=JJ):Jh (Jt prog w) A (dictSetDefault d (.ref a) v) Q E s:=by
 obtain⟨o,U,I,T,c,q,O,i,g⟩:=m;unfold dictSetDefault
 try with_reducible refine YJ ?_
 refine YG<|knd.pyHash u h ?_;refine YG<|wpAny_dictFind_heap (s:={s with toks:=s.toks+knd.draws k}) u h T q O i g ?_ ?_
 .intro n;have t:k∉xs.map (·.1):=not_mem_keys_of_get n;refine YG (wpAny_rule (YG (wpAny_updateDictKeys (hz:=by have e:=J9 O;exact D8 (QV e) hsz) (s:={s with toks:=s.toks+knd.draws k}) T q (YH (Y (atKey_none_of_get n) _ ⟨_,_,I+1,Kd _ T (Obj.isFreed_of_dict (Obj.data_mapDictKeys q _)),
   c.mapDictKeys _,Obj.data_mapDictKeys q _,?_,?_,?_⟩ (KM.update ..))))))
  .simp[O,JL]
  .intro x hx
   rcases Qr.mp hx with hx|hx
   .exact knd.keeps (i x hx) T q<|KM.update ..
   .simp only[Qh] at hx;subst hx;exact knd.keeps h T q<|KM.update ..
  .rw[QD,Qv];refine⟨g,by simp,?_⟩;intro x hx y W;simp only[Qo,WH,Qh] at W;subst W;exact λe=>t<|e▸hx
 .intro j p H;refine YG<|wpAny_dictEntries (s:={s with toks:=s.toks+knd.draws k}) T q ?_;rw[entry_at O j,H];exact YG<|wpAny_rule (YH<|N p (atKey_of_get g H))
theorem kC{d a:Jg}{xs:List (K×Jg×Jf)}{Q:Jf->Je->Prop}(u:knd.room A.in1)(h:knd.is s.heap k a)(q:(d==JC)=Jd)(m:s.heap.DictOfH knd d xs)
  (N:∀p,YY xs k=Ja p->Q p.2 {s with toks:=s.toks+knd.draws k})
  (Y:YY xs k=Jb->∀S,S.DictOfH knd d (xs++[(k,a,v)])->KM d s.heap S->Q v {s with heap:=S,toks:=s.toks+knd.draws k})
  (hsz:xs.length<=JJ):Jh (Jt prog w) A (call (.builtin "dict.setdefault") [.ref d,.ref a,v]) Q E s:=by
 refine YM F.slot_dict_setdefault m.typeIs F.entry_dict_setdefault ?_<|F.args_dict_setdefault_3 _ _ _;unfold Builtin.«dict.setdefault»;refine YG ?_;unfold Builtin.Dict.keyAndDefault;refine YG<|wpAny_notOrdered_dict m.typeIs ?_;show Jh _ _ (pure (d,Value.ref a,Ja v)) _ _ s;refine YH ?_;refine wn (c:=(d==JC)=Jc) (by rw[q];exact QB) ?_;exact YG<|iZ u h m (λp D=>YH ⟨_,rfl,N p D⟩) (λo S n H=>YH ⟨_,rfl,Y o S n H⟩) hsz
def Gk(h:Ji)(d:Jg)(es:Array JN)(ep:Nat):Prop:=∃o,h.get? d=Ja o/\o.ExactDict/\o.data= .dict es ep
theorem Gk.typeIs{d:Jg}(x:Gk s.heap d es ep):s.TypeIs (.ref d) "dict":=by obtain⟨o,T,h,o0⟩:=x;exact⟨o,T,h.1⟩
theorem Gk.at{h S:Ji}{d:Jg}(x:Gk h d es ep)(k:∀o,h.get? d=Ja o->S.get? d=Ja o):Gk S d es ep:=by obtain⟨o,T,r⟩:=x;exact⟨o,k o T,r⟩
theorem qq{d:Jg}{es:Array JN}{Q:Jf->Je->Prop}(v:(d==JC)=Jd)(m:Gk s.heap d es ep)
  (X:Q (.ref s.heap.objs.size) {s with heap:=s.heap.push {cls:= .type "dict_keyiterator",data:= .fields #[.ref d,.int 0 0,.int es.size 0,.int ep 0]}}):
  Jh (Jt prog w) A (YS<|.ref d) Q E s:=by
 obtain⟨o,a,c,h⟩:=id m;have T:s.TypeIs (.ref d) "dict":=m.typeIs;refine wpAny_pyIter_slot T F.slot_dict_iter<|YM F.slot_dict_iter T F.entry_dict_iter ?_ (F.args_dict_iter_1 _);unfold Builtin.«dict.__iter__»;refine YG ?_;unfold Builtin.Dict.dictSlotNone;refine YG<|wpAny_notOrdered_dict T ?_;show Jh _ _ (pure<|Value.ref d) _ _ s;refine YH ?_;show Jh _ _ (Builtin.Dict.showsAll d>>=_) _ _ s;unfold Builtin.Dict.showsAll;refine YG<|wn (by rw[v];exact QB) (YH ?_);refine YG<|wpAny_dictEntries a h ?_;refine YG<|wpAny_dictEpoch a h ?_;refine YG<|wpAny_newObj_type (YH ⟨_,rfl,"dict_keyiterator",_,⟨_,QK _ rfl,rfl⟩,F.slot_dict_keyiterator_next.lookup,?_⟩)
 simpa [Jx] using X
theorem lq{t d:Jg}{es:Array JN}{Q:Option Jf->Je->Prop}(U:A.handled=Jb)(h:s.heap.IsKeyIter t d i es.size ep)(L:Gk s.heap d es ep)
  (q:∀e,es[i]? =Ja e->∀S,S.IsKeyIter t d (i+1) es.size ep->KM t s.heap S->Q (Ja e.key) {s with heap:=S})
  (p:es[i]? =Jb->∀S,Heap.ExtBut t s.heap S->Q Jb {s with heap:=S}):Jh (Jt prog w) A (pyNext<|.ref t) Q E s:=by
 obtain⟨o,x,C,v⟩:=id h;obtain⟨n,Y,W,I⟩:=id L;unfold pyNext;refine YG (wpAny_attempt (wpAny_callSpecial?_slot (name:=Qb "__next__") h.typeIs F.slot_dict_keyiterator_next
  (YM F.slot_dict_keyiterator_next h.typeIs F.entry_dict_keyiterator_next ?_ (F.args_dict_keyiterator_next_1 _))))
 refine YG<|YH ?_;refine YG ?_;refine YG ?_;refine YG<|wpAny_typeNameOfWhole_keyiter h.typeIs (YH ?_);refine YG<|wpAny_fieldsOf x v ?_;refine wn (c:=(Value.ref d==Value.none)=Jc) QB ?_;refine YG<|YH ?_;refine YG<|wpAny_dictEntries Y I ?_;refine wn (c:=((es.size:Int) !=es.size)=Jc) (by simp) ?_;refine YG<|YH ?_;refine YG<|wpAny_dictEpoch Y I ?_;refine wn (c:=((ep:Int) !=ep)=Jc) (by simp) ?_;refine YH ?_;by_cases N:i<es.size
 .have u:(if(i:Int)<0 then Jb else es[(i:Int).toNat]?)=Ja es[i]:=(Uf<|KQ.mpr (QU i)).trans (Kl N);dsimp only;rw[u];refine YG ?_;refine YG<|wpAny_typeNameOfWhole_keyiter h.typeIs (YH ?_);refine YG<|wpAny_isOneOf_keyiter h.typeIs ?_;show Jh _ _ (setField (.ref t) 1 (Jx<|(i:Int)+1)>>=_) _ _ s;refine YG<|wpAny_setField x v (by simp) ?_;have l:(s.heap.update t (Obj.mapFields (·.setIfInBounds 1 (Jx<|(i:Int)+1)))).IsKeyIter t d (i+1) es.size ep:=
   ⟨_,Kd _ x<|Obj.isFreed_of_fields (Obj.data_mapFields v _),(Obj.cls_mapFields ..).trans C,by rw[Obj.data_mapFields v];simp[Jx]⟩
  refine YG<|YJ ?_;refine YG (wpAny_isOneOf_keyiter (s:={s with heap:=s.heap.update t (Obj.mapFields (·.setIfInBounds 1 (Jx<|(i:Int)+1)))}) l.typeIs ?_);show Jh _ _ (pure es[i].key) _ _ _;exact YH<|YH ⟨_,rfl,YH<|q _ (Kl N) _ l (KM.update ..)⟩
 .have g:es.size<=i:=QW.mp N;have u:(if(i:Int)<0 then Jb else es[(i:Int).toNat]?)=Jb:=(Uf<|KQ.mpr (QU i)).trans (Ym g);dsimp only;rw[u];refine YG ?_;refine YG<|wpAny_typeNameOfWhole_keyiter h.typeIs (YH ?_);refine YG<|wpAny_setField (i:=0) x v (by simp) ?_;refine YG ?_;unfold newExc newTuple;refine YG<|wpAny_newObj_type ?_ (by size_fits);refine YG (m:=firstArgMember _ _)<|wpAny_of_eq (a:=Value.none) (by first|rfl|(simp only[firstArgMember];rfl)) ?_;refine JB ?_ (by size_fits);unfold raiseNew;refine YG<|wpAny_handled ?_;rw[show A.in1.handled=Jb from U];refine YG<|YH (wpAny_throw ?_);refine YG<|wpAny_isInstance (T:="StopIteration") (b:=Jc) ⟨_,QK _ rfl,rfl⟩ isSubtype_stop ?_;exact YH<|p (Ym g) _ (((KM.update ..).extBut.push _).push _)
theorem sF(U:A.handled=Jb)(g d:Jg)(n:d≠g)(es:Array JN)(ep:Nat):
  Walks prog w A g [g,d] [g] es.size (λi v=>∃e,es[i]? =Ja e/\v=e.key) (λi h=>h.IsKeyIter g d i es.size ep/\Gk h d es ep) where
 sub:=λb R=>by simp at R;simp[R]
 frame:=λo0 o0 o0 t k=>⟨by obtain⟨o,T,r⟩:=t.1;exact⟨o,k g (by simp) o T,r⟩,t.2.at λo e=>k d (by simp) o e⟩
 item:=λi s Q E V t X=>lq U t.1 t.2 (λe O S j H=>X _ S s.toks ⟨e,O,rfl⟩ ⟨j,t.2.at λo x=>H.extBut d o n x⟩ λb o R x=>H.extBut b o (λh=>R<|by simp[h]) x)
  (λq=>by exact sn<|(Kl V).symm.trans q)
 done:=λs Q E t X=>lq U t.1 t.2 (λe O=>by simp at O) λo0 S H=>X S s.toks λb o R x=>H b o (λh=>R<|by simp[h]) x
 self:=λo0 o0 o0 o0 t X=>by
  obtain⟨o,T,c,W⟩:=t.1;exact wpAny_pyIter_slot ⟨o,T,c⟩ F.slot_dict_keyiterator_iter<|YM F.slot_dict_keyiterator_iter ⟨o,T,c⟩ F.entry_dict_keyiterator_iter (YH ⟨_,rfl,_,_,⟨o,T,c⟩,F.slot_dict_keyiterator_next.lookup,X⟩) (F.args_dict_keyiterator_iter_1 _)
theorem xx{d:Jg}{es:Array JN}(l:(d==JC)=Jd):W.KdlSrc prog w "dict" d d es.size (λi v=>∃e,es[i]? =Ja e/\v=e.key) (λh=>Gk h d es ep) where
 type:=λo0 m=>m.typeIs
 there:=λo0 m=>by obtain⟨o,T,o0⟩:=m;exact⟨QO T,QO T⟩
 keep:=λo0 o0 m k=>m.at λo e=>k d (.inl rfl) o e
 notList:=by decide
 notTuple:=by decide
 hint:=λo0 o0 o0 o0 m q=>W.kdl_hint_dict m.typeIs q
 iter:=λo0 o0 U m=>⟨_,_,(λo0 o0 q=>qq l m q),sF U _ d (by obtain⟨o,T,o0⟩:=m;exact WI<|QO T) es ep,⟨⟨_,QK _ rfl,rfl,rfl⟩,m.at λo e=>Qs _ e⟩⟩
end
section
open PySem.W
noncomputable abbrev H2:List Jf:=[.type "ValueError",.type "Exception",.type "BaseException",.type "object"]
theorem pc(T:J1 h H2 bm)(self:Jf):refuseLoop self "__setattr__" bm=pure ():=by
 induction T with
 |base=>exact F.store_ValueError.passes self
 |own _ _ _ _ i=>rw[refuseLoop_ref];exact i
section
variable{prog:Jn}{w:Jm}{A:Jj}{E:Jf->Je->Prop}{h:Ji}{g:Array GenState}{d:Drawn}{t:Nat}{os:OsState}
variable{nm q:Jq}{C N x:Jg}{bs bm:List Jf}{sn:List Jq}{sub:List Jf}{ab:Bool}{col:Option Bool}{dd:Option Jg}{k0 k1 k2 k3 k5:Option Jf}{newId:String}
 {mA:Jq->Option Jf} {name:Jq} {v:Jf}
structure H8(h h':Ji)(x C:Jg)(name:Jq)(v:Jf)(mA:Jq->Option Jf):Prop where
 inst:h'.Inst x C (λy=>if y=name then Ja v else mA y)
 keep:∀b o,b≠x->(∀o₀ dx,h.get? x=Ja o₀->o₀.dict=Ja dx->b≠dx)->h.get? b=Ja o->h'.get? b=Ja o
 obj:∀o₀,h.get? x=Ja o₀->∃o₁,A5 (h'.get? x=Ja o₁) (o₁.cls=o₀.cls) (o₁.data=o₀.data) (o₁.slots=o₀.slots) (∀dx,o₀.dict=Ja dx->o₁.dict=Ja dx)
 fresh:∀o₁ dx,h'.get? x=Ja o₁->o₁.dict=Ja dx->h.get? dx=Jb\/∃o₀,h.get? x=Ja o₀/\o₀.dict=Ja dx
theorem pu{id o nm:String}{self:Jf}{Q:Unit->Je->Prop}{E:Jf->Je->Prop}(k:builtinKind id=Ja .slot)(H:splitId id=Ja (o,nm))(T:argsOk id ⟨self::rest,[]⟩)
  (hi:Jh M A (isInstance self<|.type o) (λb s'=>b=Jc/\Q () s') E s):Jh M A (Y4 id ⟨self::rest,[]⟩) Q E s:=by
 simp only[Y4,k,H];refine YG (YI hi (λb s' h=> ?_) λo0 o0 h=>h);obtain⟨rfl,h⟩:=h;refine wn QB ?_
 induction i:Manifest.signature? id with
 |none=>exact YH h
 |some y=>
  simp only[argsOk,i] at T;exact JU (a:=()) T h
theorem zd{tk:Tok}{Q:Fin->Je->Prop}{ns:List Jq}(T:J1 h H2 bm)
  (hC:h.get? C=Ja (JE nm q C N bs bm Jc sn sub ab col dd k0 k1 k2 k3 k5 newId))(L:Looks (Jt prog w) h (JZ (.ref C) name) Jb)
  (I:h.Inst x C mA)(hq:∀S z,H8 h S x C name v mA->Q (.done<|.ret .none) ⟨S,g,d,z,os⟩)(hw:Within mA ns)(hsz:ns.length<=JJ):
  Jh (Jt prog w) A (Builtin.«object.__setattr__» ⟨[.ref x,.str name tk,v],[]⟩) Q E ⟨h,g,d,t,os⟩:=by
 obtain⟨o,hx,m,R,hd⟩:=I;have a:=pc T<|.ref x;unfold Builtin.«object.__setattr__»
 repeat (first|rw[refuse_eq]|(rw[refuseLoop_ref,a])|(with_reducible refine Jy hx ?_;rw[m])|with_reducible refine wpAny_mroOf_exc hC ?_|with_reducible refine L.at ?_|wp_step)
 rcases hd with⟨u,J⟩|⟨l,K,σ,aa⟩
 .rw[u,Uf (by simp[typeHasDict])]
  split
  .rename_i P
   cases P
  split
  .rename_i c P
   exact absurd P<|R c
  .have j:(h.push {cls:= .type "dict",data:= .dict #[]}).get? x=Ja o:=Qs _ hx;have s:x≠h.objs.size:=WI<|QO hx;refine YG<|wpAny_alloc' ?_;refine YG<|wpAny_update' j ?_;refine YH ?_;have Y:((h.push {cls:= .type "dict",data:= .dict #[]}).update x λo=>{cls:=o.cls,dict:=Ja h.objs.size,data:=o.data,slots:=o.slots}).get? h.objs.size
     =Ja {cls:= .type "dict",data:= .dict #[]}:=
    (Heap.get?_update_ne _ _ _ _ s.symm).trans (Heap.get?_push_at rfl rfl)
   have X:((h.push {cls:= .type "dict",data:= .dict #[]}).update x λo=>{cls:=o.cls,dict:=Ja h.objs.size,data:=o.data,slots:=o.slots}).Ns h.objs.size (λo0=>Jb):=
    ⟨_,#[],_,Y,rfl,λe he=>absurd he<|by simp,λo0=>rfl⟩
   show Jh _ _ (Builtin.ObjectAttr.storeInDict h.objs.size (.str name tk) name v) _ _ _;unfold Builtin.ObjectAttr.storeInDict Builtin.ObjectAttr.newKeyGuard;refine YG<|YH (YG<|wpAny_nsSet1 (Heap.Ns1.of_empty X) λS n H=> ?_);obtain⟨oD,V,ac,M,D,i⟩:=n.count<|Within.cons name v Within.nil;refine YG<|wpAny_lookBehind M (by rw[D];exact pastItsLine_dict<|Qq i (by rw[KW,Ww,JV];decide)) ?_
   wp_walk
   have W:S.get? x=Ja {cls:=o.cls,dict:=Ja h.objs.size,data:=o.data,slots:=o.slots}:= ?_;refine hq S _ ⟨⟨{cls:=o.cls,dict:=Ja h.objs.size,data:=o.data,slots:=o.slots},W,m,R,.inr ⟨h.objs.size,rfl,s.symm,?_⟩⟩,(λb ob ad o0 B=> ?_),
    (λU k=>by obtain rfl:o=U:=Option.some.inj (hx.symm.trans k);exact⟨_,W,rfl,rfl,rfl,λl e=>by rw[u] at e;cases e⟩),λp l f F=>by rw[W] at f;cases f;cases F;exact .inl (WK (Qz _))⟩
   .obtain⟨o',es,ep,f,F,e3,eu,e4⟩:=n;exact⟨o',es,ep,f,F,e3,eu,λy=>by rw[e4 y];by_cases hy:y=name<;>simp[hy,J]⟩
   .exact(H.2 b<|WI (QO B)).trans ((Heap.get?_update_ne _ _ _ _ ad).trans (Qs _ B))
   .refine(H.2 x s).trans (Kd _ j ?_);have r:=(Heap.get?_some_iff.mp hx).2;obtain⟨oc,od,O,ae⟩:=o
    rcases O with⟨⟩<;>first|rfl|exact r
 .rw[K];refine YH ?_;show Jh _ _ (Builtin.ObjectAttr.storeInDict l (.str name tk) name v) _ _ _;unfold Builtin.ObjectAttr.storeInDict Builtin.ObjectAttr.newKeyGuard;refine YG<|YH (YG<|wpAny_nsSet1 aa λS n H=> ?_);obtain⟨oD,V,ac,M,D,i⟩:=n.count<|Within.cons name v hw;refine YG (wpAny_lookBehind M (by rw[D];exact pastItsLine_dict<|Qq i (by rw[KW];exact Kx hsz)) ?_)
  wp_walk
  refine hq S _ ⟨⟨o,(H.2 x σ.symm).trans hx,m,R,.inr ⟨l,K,σ,n⟩⟩,(λb ob o0 G B=> ?_),
   (λU k=>⟨U,(H.2 x σ.symm).trans k,rfl,rfl,rfl,λo0 e=>e⟩),λp l f F=> .inr ⟨p,(H.2 x σ.symm).symm.trans f,F⟩⟩
  exact(H.2 b<|G o l hx K).trans B
theorem Aj{o:Jp}{Q:Unit->Je->Prop}(T:J1 h H2 bm)
  (i:h.get? C=Ja (JE nm q C N bs bm Jc sn sub ab col dd k0 k1 k2 k3 k5 newId))(hx:h.get? x=Ja o)(σ:o.cls= .ref C)(z:Q () ⟨h,g,d,t,os⟩):
  Jh M A (Y4 "object.__setattr__" ⟨[.ref x,n,v],[]⟩) Q E ⟨h,g,d,t,os⟩:=by
 have c:(Value.ref C::bm).contains (.type "object")=Jc:=by rw[KZ,T.hasType F.store_ValueError.hasOwner,Bool.or_true]
 have a:=F.store_ValueError.args (.ref x) n v;have k:=F.store_ValueError.kind;have s:=F.store_ValueError.split;refine pu (id:="object.__setattr__") (self:= .ref x) (rest:=[n,v]) k s a ?_;unfold isInstance
 repeat (first|(with_reducible refine Jy hx ?_;rw[σ])|(with_reducible refine YX i ?_;rw[c])|wp_step)
 exact⟨rfl,z⟩
theorem s0{Q:Unit->Je->Prop}{ns:List Jq}(T:J1 h H2 bm)
  (M:h.get? C=Ja (JE nm q C N bs bm Jc sn sub ab col dd k0 k1 k2 k3 k5 newId))(L:Looks (Jt prog w) h (JZ (.ref C) name) Jb)
  (s:Looks (Jt prog w) h (JZ (.ref C) "__setattr__") (Ja<|.builtin "object.__setattr__"))(I:h.Inst x C mA)
  (z:∀W k,H8 h W x C name v mA->Q () ⟨W,g,d,k,os⟩)(H:Within mA ns)(hsz:ns.length<=JJ):
  Jh (Jt prog w) A (setAttr (.ref x) name v) Q E ⟨h,g,d,t,os⟩:=by
 obtain⟨o,hx,c,o0⟩:=id I;have f:=F.store_ValueError.slot.bind<|.ref x;unfold setAttr callSpecial? specialOf
 repeat (any_goals (first|assumption|(with_reducible refine Jy hx ?_;rw[c])|with_reducible refine s.at ?_|wp_step))
 refine codeAny_call_builtin F.store_ValueError.slot.plain F.store_ValueError.entry<|Aj T M hx c ?_;refine zd T M L I (λW k S=> ?_) H hsz
 repeat (any_goals (first|assumption|wp_step))
 exact z W k S
end
end
theorem cps{G:Prop}(h:(G->False)->False):G:=Classical.byContradiction h
theorem D6{P:Prop}(h:Jd=Jc):P:=by exact ft h
theorem Dw{P:Prop}{L:Type}{x:L}(h:(Jb:Option L)=Ja x):P:=by exact ns h
set_option genCtorIdx false in
inductive PV where
 |none
 |bool(b:Bool)
 |int(i:Int)
 |str(s:String)
 |tup(l:List PV)
 |ref(a:Jg)
 |scr(l:List Int)
noncomputable abbrev PV.ctorIdx(x:PV):Nat:=PV.casesOn x 0 (λo0=>1) (λo0=>2) (λo0=>3) (λo0=>4) (λo0=>5) (λo0=>6)
set_option genCtorIdx false in
inductive PO where
 |list(l:List PV)
 |dict(ks:List (List KA))(l:List PV)
 |fd(c:String)(fs:List PV)
 |inst(d:Jg)
 |exc(c:String)(d:Option Jg)
noncomputable abbrev PO.ctorIdx(x:PO):Nat:=PO.casesOn x (λo0=>0) (λo0 o0=>1) (λo0 o0=>2) (λo0=>3) (λo0 o0=>4)
noncomputable def PO.fixed:PO->Bool
 | .fd .. | .inst _| .exc .. =>Jc
 |_=>Jd
abbrev PH:=Jg->Option PO
noncomputable def PH.set(Z:PH)(a:Jg)(o:PO):PH:=λb=>if b=a then Ja o else Z b
theorem PH.set_same(Z:PH)(a:Jg)(o:PO):(Z.set a o) a=Ja o:=Ug rfl
theorem PH.set_ne(Z:PH)(o:PO)(h:b≠a):(Z.set a o) b=Z b:=Uf h
abbrev CH:=List<|String×Option PV
noncomputable def CH.get:CH->String->Option PV
 |[],_=>Option.none
 |(y,v)::r,x=>if y=x then v else CH.get r x
noncomputable def CH.put:CH->String->PV->CH
 |[],_,_=>[]
 |(y,o)::r,x,v=>if y=x then(y,Ja v)::r else(y,o)::CH.put r x v
theorem CH.get_c(y:String)(v:Option PV)(r:CH)(x:String):CH.get ((y,v)::r) x=if y=x then v else CH.get r x:=rfl
theorem CH.put_c(y:String)(o:Option PV)(r:CH)(x:String)(v:PV):CH.put ((y,o)::r) x v=if y=x then(y,Ja v)::r else(y,o)::CH.put r x v:=rfl
noncomputable def CH.wipe(ρ:CH):CH:=ρ.map λp=>(p.1,Option.none)
noncomputable def CH.puts:CH->List String->List PV->CH
 |ρ,x::P,v::s=>CH.puts (ρ.put x v) P s
 |ρ,_,_=>ρ
set_option genCtorIdx false in
inductive BOp where
 |add|sub|mul|fdiv|mod|pow(u:Unit)
set_option genCtorIdx false in
inductive HI where
 |eq|ne|lt|le|gt(u:Unit)|ge|in_|nin
set_option genCtorIdx false in
inductive BI where
 |len|all|sum|int|list|min|sorted|dict(u:Unit)|max|max2
inductive Me where
 |append|remove
inductive IK where
 |val|range|enum
set_option genCtorIdx false in
inductive Tg where
 |name(x:String)
 |tup(l:List String)
noncomputable abbrev Tg.ctorIdx(x:Tg):Nat:=Tg.casesOn x (λo0=>0) (λo0=>1)
set_option genCtorIdx false
inductive E where
 |none
 |bool(b:Bool)
 |int(i:Int)
 |str(s:String)
 |loc(x:String)
 |glob(x:String)
 |bin(op:BOp)(a b:E)
 |not_(a:E)
 |and_(a b:E)
 |or_(a b:E)
 |isNone(a:E)
 |notNone(a:E)
 |cmp(op:HI)(a b:E)
 |cmp2(a:E)(o1:HI)(b:E)(o2:HI)(c:E)
 |tup(l:List E)
 |list(l:List E)
 |sub(a i:E)
 |comp(elt:E)(tg:Tg)(k:IK)(it:List E)
 |compIf(elt:E)(tg:Tg)(k:IK)(it:List E)(cond:E)
 |call(f:String)(args:List E)
 |bi(b:BI)(args:List E)
 |isi(a:E)(ts:List String)
 |isx(x:String)(ts:List String)
 |cnt(ix:Bool)(a:E)
 |meth(o:E)(m:Me)(args:List E)
 |dict0
 |get(a k:E)
 |sd(a k:E)
 |attr(x f:String)
 |mcall(c f:String)(o:E)(args:List E)
inductive S where
 |assign(tg:Tg)(e:E)
 |setIdx(o i e:E)
 |expr(e:E)
 |ret(e:E)
 |if_(t:E)(b o:List S)
 |for_(tg:Tg)(k:IK)(it:List E)(b:List S)
 |while_(t:E)(b:List S)
 |raise(c:String)(args:List E)
 |try2(b:List S)(c x:String)(h:List S)(c2:String)(h2:List S)
set_option genCtorIdx true
set_option genCtorIdx false in
inductive Fl where
 |next
 |ret(v:PV)
structure PX where
 c:String
 fs:List PV
abbrev C9:=PV->PH->Prop
abbrev Dl:=PX->PH->Prop
abbrev Cl:=String->List PV->PH->C9->Dl->Prop
structure Gx where
 glob:String->Option PV
 sub:String->String->Bool
 full:Bool
 fn:String->Bool
 calm:Bool
 cs:List String
 mks:List String
 inis:List String
 flds:String->List String
noncomputable def Gx.isCls(G:Gx)(t:String):Bool:=(G.cs.contains t&& !["int","bool","list","tuple","dict"].contains t)||t=="ValueError"
noncomputable def stat(ts:List String):Bool:=ts.length==1&&ts.all λt=>["int","bool","list","tuple","dict"].contains t
noncomputable def Gx.un(G:Gx):Gx:={G with calm:=Jd}
noncomputable def Dg:Nat:=1000000
def Ex(o:PO)(Z:PH)(Q:C9):Prop:=∀a,Z a=Jb->Q (.ref a) (Z.set a o)
noncomputable def kaOf:PV->Option KA
 | .int i=>Ja<|.n i
 | .str s=>Ja<|.t s
 |_=>Jb
noncomputable def F6:List PV->Option (List KA)
 |[]=>Ja []
 |p::r=>(kaOf p).bind λk=>(F6 r).map (k:: ·)
def DM:PV->Option (List KA)
 | .tup l=>F6 l
 |_=>Jb
noncomputable def KA.pv:KA->PV
 | .n i=> .int i
 | .t s=> .str s
def Fd(k:List KA):PV:= .tup (k.map KA.pv)
noncomputable def C0:List (List KA)->List KA->Option Nat
 |[],_=>Jb
 |k::r,x=>if k=x then Ja 0 else(C0 r x).map (· +1)
def Dh(ks:List (List KA))(l:List PV)(k:List KA):Option PV:=(C0 ks k).bind λj=>l[j]?
def Fp(ks:List (List KA))(l:List PV)(k:List KA)(v:PV):PO:=match C0 ks k with
 |some j=> .dict ks (l.set j v)
 |none=> .dict (ks++[k]) (l++[v])
def Okl(l:List PV):Prop:=l.length<=Dg
def E9(l:List PV)(Z:PH)(Q:C9):Prop:=Okl l/\Ex (.list l) Z Q
mutual
noncomputable def Rd(Z:PH):YT->PV->Prop
 | .none,v=>v= .none
 | .bool b,v=>v= .bool b
 | .int i,v=>v= .int i
 | .str x,v=>∃s,v= .str s/\x=Qb s
 | .tuple ds,v=>∃l,v= .tup l/\Hi Z ds l
 | .list ds,v=>X2 λa l=>A3 (v= .ref a) (Z a=Ja (.list l))<|Hi Z ds l
 | .dict _,_=>False
noncomputable def Hi(Z:PH):List YT->List PV->Prop
 |[],l=>l=[]
 |d::ds,l=>X2 λp ps=>A3 (l=p::ps) (Rd Z d p)<|Hi Z ds ps
end
def G8(d:YT):Prop:=d.canLay0=Jc/\d.depth<=50
inductive GR{α β:Type}(f:α->β)(v:β)(K:α->Prop):Prop
 |mk (x:α) (e:v=f x) (k:K x):GR f v K
inductive WitL(Z:PH)(K:List PV->Prop)(v:PV):Prop
 |mk (a:Jg) (l:List PV) (e:v= .ref a) (s:Z a=Ja (.list l)) (k:K l):WitL Z K v
noncomputable def Df(K:Int->Prop):PV->Prop
 | .int x=>K x
 |_=>False
noncomputable def GN(K:List PV->Prop):Option PO->Prop
 |some (.list l)=>K l
 |_=>False
def Es(Z:PH)(K:List PV->Prop):PV->Prop
 | .ref a=>GN K<|Z a
 |_=>False
noncomputable def EK(K:List (List KA)->List PV->Prop):Option PO->Prop
 |some (.dict k l)=>K k l
 |_=>False
def G7(Z:PH)(K:List (List KA)->List PV->Prop):PV->Prop
 | .ref a=>EK K<|Z a
 |_=>False
noncomputable def oK(K:List KA->Prop):Option (List KA)->Prop
 |some k=>K k
 |none=>False
theorem jh{K:List KA->Prop}(h:oK K o):GR Ja o K:=by
 induction o with
 |none=>exact h.elim
 |some v=>exact⟨v,rfl,h⟩
inductive WitD(Z:PH)(K:List (List KA)->List PV->Prop)(v:PV):Prop
 |mk (a:Jg) (ks:List (List KA)) (l:List PV) (e:v= .ref a) (s:Z a=Ja (.dict ks l)) (k:K ks l):WitD Z K v
theorem kW{K:List (List KA)->List PV->Prop}(h:EK K v):∃ks l,v=Ja (.dict ks l)/\K ks l:=by
 induction v with
 |none=>exact h.elim
 |some o=>induction o with
  |dict ks l=>exact⟨ks,l,rfl,h⟩
  |_=>exact h.elim
theorem iN{K:List (List KA)->List PV->Prop}(h:G7 Z K v):WitD Z K v:=by
 induction v using PV.casesOn with
 |ref a=>obtain⟨k,l,e,h⟩:=kW (show EK K (Z a) from h);exact⟨a,k,l,rfl,e,h⟩
 |_=>exact h.elim
theorem dW{K:Int->Prop}(h:Df K v):GR PV.int v K:=by
 induction v using PV.casesOn with
 |int x=>exact⟨x,rfl,h⟩
 |_=>exact h.elim
theorem jj{K:List PV->Prop}(h:GN K v):∃l,v=Ja (.list l)/\K l:=by
 induction v with
 |none=>exact h.elim
 |some o=>induction o with
  |list l=>exact⟨l,rfl,h⟩
  |_=>exact h.elim
theorem eR{K:List PV->Prop}(h:Es Z K v):WitL Z K v:=by
 induction v using PV.casesOn with
 |ref a=>obtain⟨l,e,h⟩:=jj (show GN K (Z a) from h);exact⟨a,l,rfl,e,h⟩
 |_=>exact h.elim
theorem hH{K:List PV->Prop}(e:Z a=Ja (.list l)):Es Z K (.ref a)=K l:=by
 show GN K (Z a)=K l;rw[e];rfl
noncomputable def EF:Nat->List PV->List PV
 |_,[]=>[]
 |i,x::r=> .tup [.int (i:Nat),x]::EF (i+1) r
def src(k:IK)(vs:List PV)(Z:PH)(K:List PV->(PH->Prop)->Prop):Prop:=
 match k with
 | .val=>match vs with
  |[.tup l]=>K l λo0=>True
  |[.ref a]=>Es Z (λl=>K l λT=>T a=Ja (.list l))<|.ref a
  |_=>False
 | .range=>match vs with
  |[v]=>Df (λn=> -1000000<n/\K ((Qc n.toNat).map λ(i:Nat)=> .int i) λo0=>True) v
  |_=>False
 | .enum=>match vs with
  |[v]=>Es Z (λl=>K (EF 0 l) λT=>Es T (λw=>w=l) v) v
  |_=>False
noncomputable def bindT:Tg->PV->CH->Option CH
 | .name x,v,ρ=>Ja<|ρ.put x v
 | .tup P,.tup s,ρ=>if s.length=P.length then Ja (ρ.puts P s) else Jb
 |_,_,_=>Jb
noncomputable def Tg.isT:Tg->Bool
 | .name _=>Jd
 | .tup _=>Jc
noncomputable def Tg.names:Tg->List String
 | .name x=>[x]
 | .tup s=>s
noncomputable def Eg(tg:Tg)(ρ:CH):CH:=(".0",Jb)::((tg.names.map λx=>(x,Jb))++ρ)
def bindC(tg:Tg)(v:PV)(ρ:CH):Option CH:=bindT tg v<|Eg tg ρ
noncomputable def lenO:Option PO->Option Nat
 |some (.list l)=>Ja l.length
 |_=>Jb
theorem tP(h:lenO o=Ja k):∃l,o=Ja (.list l)/\l.length=k:=by
 rcases o with o0|o
 .exact ns h
 .induction o with
  |list l=>exact⟨l,rfl,sj h⟩
  |_=>exact ns h
def Gv(Z:PH):PV->Option Nat
 | .ref a=>lenO<|Z a
 | .tup l=>Ja l.length
 | .scr l=>Ja l.length
 |_=>Jb
noncomputable def CO(n:Nat)(i:Int):Option Nat:=
 if 0<=i then(if i<n then Ja i.toNat else Jb) else(if 0<=i+n then Ja (i+n).toNat else Jb)
def psubL(l:List PV):PV->Option PV
 | .int k=>(CO l.length k).bind λj=>l[j]?
 |_=>Jb
def G6(i:PV):Option PO->Option PV
 |some (.list l)=>psubL l i
 |_=>Jb
def Hr(Z:PH):PV->PV->Option PV
 | .ref a,i=>G6 i<|Z a
 | .tup l,.int k=>(CO l.length k).bind λj=>l[j]?
 | .scr l,.int k=>((CO l.length k).bind λj=>l[j]?).map .int
 |_,_=>Jb
noncomputable def dy:List PV->Option (List Int)
 |[]=>Ja []
 | .int i::r=>(dy r).map (i:: ·)
 |_=>Jb
noncomputable def eG:List PV->Option (List Bool)
 |[]=>Ja []
 | .bool i::r=>(eG r).map (i:: ·)
 |_=>Jb
def wadd(a b:PV)(Z:PH)(Q:C9):Prop:=
 match a with
 | .int x=>Df (λy=>Q (.int (x+y)) Z) b
 | .ref x=>Es Z (λl=>Es Z (λm=>E9 (l++m) Z Q) b) (.ref x)
 |_=>False
def wbin(o:BOp)(a b:PV)(Z:PH)(Q:C9):Prop:=
 match o with
 | .add=>wadd a b Z Q
 | .sub=>Df (λx=>Df (λy=>Q (.int (x-y)) Z) b) a
 | .mul=>Df (λx=>Df (λy=>(x.natAbs<2^64\/y.natAbs<2^64)/\Q (.int (x*y)) Z) b) a
 | .fdiv=>Df (λx=>Df (λy=>y≠0/\y.natAbs<1073741824/\Q (.int (x.fdiv y)) Z) b) a
 | .mod=>Df (λx=>Df (λy=>y≠0/\Q (.int (x.fmod y)) Z) b) a
 | .pow _=>Df (λx=>Df (λy=>0<=y/\y<=1000/\x.natAbs<2^64/\Q (.int (x^y.toNat)) Z) b) a
def weq(a b:PV)(Z:PH)(Q:Bool->PH->Prop):Prop:=X2 λc d=>A5 (Rd Z c a) (Rd Z d b) (G8 c) (G8 d)<|Q (PyData.eqv c d) Z
def win(a b:PV)(Z:PH)(Q:Bool->PH->Prop):Prop:=G7 Z (λi o0=>oK (λk=>Q (C0 i k).isSome Z) (DM a)) b\/Es Z (λl=>X2 λc s=>A5 (Rd Z c a) (Hi Z s l) (G8 c) ((∀d∈s,G8 d)) (Q (s.any λd=>PyData.eqv d c) Z)) b
def Hm(f:Int->Int->Bool)(a b:PV)(Z:PH)(Q:Bool->PH->Prop):Prop:=Df (λx=>Df (λy=>Q (f x y) Z) b) a
def Ho(o:HI)(a b:PV)(Z:PH)(Q:Bool->PH->Prop):Prop:=
 match o with
 | .eq=>weq a b Z Q
 | .ne=>weq a b Z λr Z=>Q (!r) Z
 | .in_=>win a b Z Q
 | .nin=>win a b Z λr Z=>Q (!r) Z
 | .lt=>Hm (λx y=>decide (x<y)) a b Z Q
 | .le=>Hm (λx y=>decide (x<=y)) a b Z Q
 | .gt _=>Hm (λx y=>decide (x>y)) a b Z Q
 | .ge=>Hm (λx y=>decide (x>=y)) a b Z Q
noncomputable def HC(K:PV->Prop):List PV->Prop
 |[v]=>K v
 |_=>False
theorem xH{K:PV->Prop}(h:HC K l):∃v,l=[v]/\K v:=by
 match l,h with
 |[v],h=>exact⟨v,rfl,h⟩
noncomputable def oBs(K:List Bool->Prop):Option (List Bool)->Prop
 |some bs=>K bs
 |none=>False
noncomputable def Gy(K:List Int->Prop):Option (List Int)->Prop
 |some is=>K is
 |none=>False
theorem kD{K:List Bool->Prop}(h:oBs K o):GR Ja o K:=by
 induction o with
 |none=>exact h.elim
 |some bs=>exact⟨bs,rfl,h⟩
theorem jq{K:List Int->Prop}(h:Gy K o):GR Ja o K:=by
 induction o with
 |none=>exact h.elim
 |some bs=>exact⟨bs,rfl,h⟩
noncomputable def EV(K:Nat->Prop):Option Nat->Prop
 |some n=>K n
 |none=>False
theorem gR{K:Nat->Prop}(h:EV K o):GR Ja o K:=by
 induction o with
 |none=>exact h.elim
 |some n=>exact⟨n,rfl,h⟩
noncomputable def dj(K:Bool->Prop):PV->Prop
 | .bool x=>K x
 |_=>False
theorem k9{K:Bool->Prop}(h:dj K v):GR PV.bool v K:=by
 induction v using PV.casesOn with
 |bool x=>exact⟨x,rfl,h⟩
 |_=>exact h.elim
def onS(Z:PH)(K:List PV->Prop):PV->Prop
 | .tup l=>K l
 | .ref a=>GN K<|Z a
 |_=>False
theorem wl{K:List PV->Prop}(h:onS Z K v):(∃l,v= .tup l/\K l)\/X2 λa l=>A3 (v= .ref a) (Z a=Ja (.list l)) (K l):=by
 induction v using PV.casesOn with
 |tup l=>exact .inl ⟨l,rfl,h⟩
 |ref a=>obtain⟨l,e,h⟩:=jj (show GN K (Z a) from h);exact .inr ⟨a,l,rfl,e,h⟩
 |_=>exact h.elim
noncomputable def E5:List Int->Int
 |[]=>0
 |x::r=>r.foldl min x
def wMin(Z:PH)(Q:C9)(args:List PV):Prop:=HC (Es Z λl=>Gy (λis=>is≠ []/\Q (.int (E5 is)) Z) (dy l)) args
noncomputable def ec:List KA->Bool
 |[.n i,.n j]=>decide (0<=i/\i<8)&&decide (0<=j/\j<8)
 |_=>Jd
theorem ju(h:ec k=Jc):X2 λa b=>A3 (k=[.n ((a:Nat):Int),.n ((b:Nat):Int)]) (a<8) (b<8):=by
 rcases k with o0|⟨i,o0|⟨j,o0|⟨o0,o0⟩⟩⟩
 .exact ft h
 .rcases i with⟨⟩<;>exact ft h
 .rcases i with i|o0
  .rcases j with j|o0
   .obtain⟨N,p⟩:=Qi.mp h;have N:=Ue N;have p:=Ue p;exact⟨i.toNat,j.toNat,by rw[WT N.1,WT p.1],(KV N.1).mpr N.2,(KV p.1).mpr p.2⟩
   .exact ft h
  .exact ft h
 .rcases i with⟨⟩<;>first|exact ft h|(rcases j with⟨⟩<;>exact ft h)
noncomputable def on2(K:PV->PV->Prop):List PV->Prop
 |[u,v]=>K u v
 |_=>False
theorem xa{K:PV->PV->Prop}(h:on2 K l):X2 λu v=>l=[u,v]/\K u v:=by
 rcases l with o0|⟨u,o0|⟨v,o0|⟨o0,o0⟩⟩⟩<;>first|exact h.elim|exact⟨u,v,rfl,h⟩
def wbi(b:BI)(args:List PV)(Z:PH)(Q:C9):Prop:=
 match b with
 | .len=>HC (λv=>EV (λn=>n<=Dg/\Q (.int n) Z) (Gv Z v)) args
 | .all=>HC (Es Z λl=>oBs (λbs=>Q (.bool (bs.all id)) Z) (eG l)) args
 | .sum=>HC (Es Z λl=>Gy (λis=>Q (.int is.sum) Z) (dy l)) args
 | .int=>HC (dj λx=>Q (.int (if x then 1 else 0)) Z) args
 | .list=>HC (λv=>G7 Z (λks o0=>E9 (ks.map Fd) Z Q) v\/onS Z (λl=>E9 l Z Q) v) args
 | .min=>wMin Z Q args
 | .max=>HC (Es Z λl=>Gy (λis=>is≠ []/\∀x∈is,Q (.int x) Z) (dy l)) args
 | .max2=>on2 (λa b=>Df (λx=>Df (λy=>∀z,x<=z->y<=z->Q (.int z) Z) b) a) args
 | .sorted=>HC (Es Z λl=>Gy (λis=>is.length<64/\∀js:List Int,js.Perm is->js.Pairwise (· <= ·)->E9 (js.map .int) Z Q) (dy l)) args
 | .dict _=>HC (G7 Z λks l=>(ks≠ []/\ks.length<=Dg/\∀k∈ks,ec k=Jc)/\Ex (.dict ks l) Z Q) args
noncomputable def isiO(G:Gx)(ts:List String):Option PO->Option Bool
 |some (.list _)=>Ja<|ts.contains "list"
 |_=>Jb
def isiV(G:Gx)(Z:PH)(v:PV)(ts:List String):Option Bool:=
 match v with
 | .none=>Ja Jd
 | .str _=>Ja Jd
 | .bool _=>Ja (ts.contains "bool"||ts.contains "int")
 | .int _=>Ja<|ts.contains "int"
 | .tup _=>Ja<|ts.contains "tuple"
 | .ref a=>isiO G ts<|Z a
 |_=>Jb
def HJ(m:Me)(o:PV)(args:List PV)(Z:PH)(Q:C9):Prop:=
 match o with
 | .ref a=>GN (λl=>match m,args with
  | .append,[v]=>l.length<Dg/\Q .none (Z.set a<|.list (l++[v]))
  | .remove,[v]=>X3 λc s j=>A6 (Rd Z c v) (Hi Z s l) (G8 c/\∀d∈s,G8 d) (l.length<=Dg) (s.findIdx? (λd=>PyData.eqv d c)=Ja j)<|Q .none (Z.set a<|.list (l.eraseIdx j))
  |_,_=>False) (Z a)
 |_=>False
def recv(m:Me)(Z:PH)(v:PV):Prop:=
 match m with
 |_=>Es Z (λo0=>True) v
noncomputable def oR(K:CH->Prop):Option CH->Prop
 |some v=>K v
 |none=>False
theorem qm{K:CH->Prop}(h:oR K o):GR Ja o K:=by
 induction o with
 |none=>exact h.elim
 |some v=>exact⟨v,rfl,h⟩
noncomputable def gE(chk:PH->Prop)(tg:Tg)(ρ:CH)(tst:CH->PH->(Bool->PH->Prop)->Prop)(el:CH->PH->C9->Prop):List PV->List PV->PH->(List PV->PH->Prop)->Prop
 |[],a,Z,K=>chk Z/\K a Z
 |x::s,a,Z,K=>chk Z/\oR (λh=>tst h Z λb m=>if b then el h m λv O=>gE chk tg ρ tst el s (a++[v]) O K else gE chk tg ρ tst el s a m K) (bindC tg x ρ)
noncomputable def oV(K:PV->Prop):Option PV->Prop
 |some v=>K v
 |none=>False
theorem kg{K:PV->Prop}(h:oV K o):GR Ja o K:=by
 induction o with
 |none=>exact h.elim
 |some v=>exact⟨v,rfl,h⟩
noncomputable def oB(K:Bool->Prop):Option Bool->Prop
 |some v=>K v
 |none=>False
theorem vN{K:Bool->Prop}(h:oB K o):GR Ja o K:=by
 induction o with
 |none=>exact h.elim
 |some v=>exact⟨v,rfl,h⟩
noncomputable def PV.isNone:PV->Bool
 | .none=>Jc
 |_=>Jd
def wget(o:Option PV)(Z:PH)(Q:C9):Prop:=match o with
 |some v=>Q v Z
 |none=>Ex (.list []) Z Q
def wsd(A:PV)(Z:PH)(Q:C9)(I:PV):Prop:=match A with
 | .ref a=>EK (λs l=>l.length<Dg/\oK (λk=>match Dh s l k with
  |some v=>Q v Z
  |none=>∀b,Z b=Jb->Q (.ref b) ((Z.set b (.list [])).set a (.dict (s++[k]) (l++[.ref b])))) (DM I)) (Z a)
 |_=>False
def Hn(i:Bool)(bs:List Bool)(K:Int->Prop):Prop:=cond i ((Jc∈bs/\bs.length<=1000)/\K (bs.idxOf Jc:Nat))<|K (bs.count Jc:Nat)
noncomputable def onXO(K:String->Prop):Option PO->Prop
 |some (.exc c _)=>K c
 |_=>False
def onX(Z:PH)(K:String->Prop):PV->Prop
 | .ref a=>onXO K<|Z a
 |_=>False
theorem xM{K:String->Prop}(h:onX Z K v):X3 λa c d=>A3 (v= .ref a) (Z a=Ja (.exc c d)) (K c):=by
 induction v using PV.casesOn with
 |ref a=>
  replace h:onXO K (Z a):=h
  induction e:Z a with
  |none=>rw[e] at h;exact h.elim
  |some o=>induction o with
   |exc c d=>rw[e] at h;exact⟨a,c,d,rfl,e,h⟩
   |_=>rw[e] at h;exact h.elim
 |_=>exact h.elim
noncomputable def pfd(G:Gx)(f:String):Option PO->Option PV
 |some (.fd c s)=>((G.flds c).idxOf? f).bind λj=>s[j]?
 |_=>Jb
def pfld(G:Gx)(Z:PH)(f:String):Option PO->Option PV
 |some (.inst d)=>pfd G f<|Z d
 |some (.exc _ (Ja d))=>pfd G f<|Z d
 |_=>Jb
def F5(G:Gx)(Z:PH)(f:String):PV->Option PV
 | .ref a=>pfld G Z f<|Z a
 |_=>Jb
noncomputable def onFd(c:String):Option PO->Prop
 |some (.fd K _)=>K=c
 |_=>False
def onIO(c:String)(Z:PH):Option PO->Prop
 |some (.inst d)=>onFd c<|Z d
 |_=>False
def onI(c:String)(Z:PH):PV->Prop
 | .ref a=>onIO c Z<|Z a
 |_=>False
theorem v5(h:onFd c o):∃f,o=Ja (.fd c f):=by
 induction o with
 |none=>exact h.elim
 |some p=>induction p with
  |fd K f=>obtain rfl:K=c:=h;exact⟨f,rfl⟩
  |_=>exact h.elim
theorem xf(h:onI c Z v):X3 λa d f=>A3 (v= .ref a) (Z a=Ja (.inst d)) (Z d=Ja (.fd c f)):=by
 induction v using PV.casesOn with
 |ref a=>
  replace h:onIO c Z (Z a):=h
  induction e:Z a with
  |none=>rw[e] at h;exact h.elim
  |some o=>induction o with
   |inst d=>
    rw[e] at h;obtain⟨f,q⟩:=v5 (show onFd c (Z d) from h);exact⟨a,d,f,rfl,e,q⟩
   |_=>rw[e] at h;exact h.elim
 |_=>exact h.elim
mutual
noncomputable def we(G:Gx)(cl:Cl):E->CH->PH->C9->Dl->Prop
 | .none,_,Z,Q,_=>Q .none Z
 | .bool b,_,Z,Q,_=>Q (.bool b) Z
 | .int i,_,Z,Q,_=>Q (.int i) Z
 | .str s,_,Z,Q,_=>Q (.str s) Z
 | .loc x,ρ,Z,Q,_=>oV (λv=>Q v Z) (ρ.get x)
 | .glob x,_,Z,Q,_=>oV (λv=>Q v Z) (G.glob x)
 | .bin p a b,ρ,Z,Q,X=>we G cl a ρ Z (λA Z1=>we G cl b ρ Z1 (λq O=>wbin p A q O Q) X) X
 | .not_ a,ρ,Z,Q,X=>we G cl a ρ Z (λv Z1=>dj (λb=>Q (.bool !b) Z1) v) X
 | .and_ a b,ρ,Z,Q,X=>we G cl a ρ Z (λv Z1=>dj (λy=>if y then we G cl b ρ Z1 Q X else Q (.bool Jd) Z1) v) X
 | .or_ a b,ρ,Z,Q,X=>we G cl a ρ Z (λv Z1=>dj (λy=>if y then Q (.bool Jc) Z1 else we G cl b ρ Z1 Q X) v) X
 | .isNone a,ρ,Z,Q,X=>we G cl a ρ Z (λv Z1=>Q (.bool v.isNone) Z1) X
 | .notNone a,ρ,Z,Q,X=>we G cl a ρ Z (λv Z1=>Q (.bool !v.isNone) Z1) X
 | .cmp p a b,ρ,Z,Q,X=>we G cl a ρ Z (λA Z1=>we G cl b ρ Z1 (λq O=>Ho p A q O λr Z3=>Q (.bool r) Z3) X) X
 | .cmp2 a h b D c,ρ,Z,Q,X=>we G cl a ρ Z (λA Z1=>we G cl b ρ Z1 (λq O=>Ho h A q O λr Z3=>
   if r then we G cl c ρ Z3 (λj N=>Ho D q j N λr P=>Q (.bool r) P) X else Q (.bool Jd) Z3) X) X
 | .tup l,ρ,Z,Q,X=>Fc G cl l ρ Z (λvs Z1=>Q (.tup vs) Z1) X
 | .list l,ρ,Z,Q,X=>Fc G cl l ρ Z (λvs Z1=>Ex (.list vs) Z1 Q) X
 | .sub a i,ρ,Z,Q,X=>we G cl a ρ Z (λA Z1=>we G cl i ρ Z1 (λC O=>G7 O (λks l=>oK (λk=>oV (λv=>Q v O) (Dh ks l k)) (DM C)) A\/EV (λk=>k<=Dg/\oV (λv=>Q v O) (Hr O A C)) (Gv O A)) X) X
 | .comp t tg k g,ρ,Z,Q,X=>G.calm=Jc/\Fc G cl g ρ Z (λvs Z1=>src k vs Z1 λxs chk=>xs.length<=Dg/\gE chk tg ρ (λo0 Z K=>K Jc Z) (λρ' Z K=>we G cl t ρ' Z K λo0 o0=>False) xs [] Z1 λB O=>Ex (.list B) O Q) X
 | .compIf t tg k g n,ρ,Z,Q,X=>G.calm=Jc/\Fc G cl g ρ Z (λvs Z1=>src k vs Z1 λxs chk=>xs.length<=Dg/\gE chk tg ρ (λρ' Z K=>we G cl n ρ' Z (λv Z'=>dj (λb=>K b Z') v) λo0 o0=>False) (λρ' Z K=>we G cl t ρ' Z K λo0 o0=>False) xs [] Z1 λB O=>Ex (.list B) O Q) X
 | .call f args,ρ,Z,Q,X=>G.fn f=Jc/\Fc G cl args ρ Z (λvs Z1=>cl f vs Z1 Q X) X
 | .bi b args,ρ,Z,Q,X=>G.calm=Jc/\Fc G cl args ρ Z (λvs Z1=>wbi b vs Z1 Q) X
 | .isi a ts,ρ,Z,Q,X=>stat ts=Jc/\we G cl a ρ Z (λv Z1=>oB (λb=>Q (.bool b) Z1) (isiV G Z1 v ts)) X
 | .isx x ts,ρ,Z,Q,_=>oV (λv=>onX Z (λc=>ts.all G.isCls=Jc/\Q (.bool (ts.any (G.sub c))) Z) v) (ρ.get x)
 | .cnt H a,ρ,Z,Q,X=>we G cl a ρ Z (λA Z1=>Es Z1 (λl=>oBs (λbs=>Hn H bs λi=>Q (.int i) Z1) (eG l)) A) X
 | .meth o m args,ρ,Z,Q,X=>we G cl o ρ Z (λW Z1=>recv m Z1 W/\Fc G cl args ρ Z1 (λvs O=>HJ m W vs O Q) X) X
 | .dict0,_,Z,Q,_=>G.full=Jc/\Ex (.dict [] []) Z Q
 | .get a k,ρ,Z,Q,X=>we G cl a ρ Z (λA Z1=>G7 Z1 (λo0 o0=>True) A/\we G cl k ρ Z1 (λI O=>G7 O (λks l=>oK (λk=>wget (Dh ks l k) O Q) (DM I)) A) X) X
 | .sd a k,ρ,Z,Q,X=>we G cl a ρ Z (λA Z1=>G7 Z1 (λo0 o0=>True) A/\we G cl k ρ Z1 (λI O=>wsd A O Q I) X) X
 | .attr x f,ρ,Z,Q,_=>oV (λv=>oV (λu=>Q u Z) (F5 G Z f v)) (ρ.get x)
 | .mcall c f o args,ρ,Z,Q,X=>G.fn f=Jc/\we G cl o ρ Z (λW Z1=>onI c Z1 W/\Fc G cl args ρ Z1 (λvs O=>cl f (W::vs) O Q X) X) X
noncomputable def Fc(G:Gx)(cl:Cl):List E->CH->PH->(List PV->PH->Prop)->Dl->Prop
 |[],_,Z,Q,_=>Q [] Z
 |e::es,ρ,Z,Q,X=>we G cl e ρ Z (λv Z1=>Fc G cl es ρ Z1 (λvs O=>Q (v::vs) O) X) X
end
abbrev DH:=Fl->CH->PH->Prop
abbrev gK:=PX->CH->PH->Prop
noncomputable def HR(K:CH->PH->Prop)(Q:DH):DH
 | .next,ρ,Z=>K ρ Z
 | .ret v,ρ,Z=>Q (.ret v) ρ Z
noncomputable def Hc(chk:PH->Prop)(tg:Tg)(body:CH->PH->DH->Prop)(Q:DH):List PV->CH->PH->Prop
 |[],ρ,Z=>chk Z/\Q .next ρ Z
 |x::s,ρ,Z=>chk Z/\oR (λh=>body h Z (HR (λD O=>Hc chk tg body Q s D O) Q)) (bindT tg x ρ)
def lb(e:PX)(Z:PH)(Q:C9):Prop:=
 ∀a,Z a=Jb->match e.fs with
  |[]=>Q (.ref a)<|Z.set a (.exc e.c Jb)
  |fs=>∀d,Z d=Jb->d≠a->Q (.ref a) ((Z.set d<|.fd e.c fs).set a (.exc e.c<|Ja d))
def wset(o i v:PV)(Z:PH)(K:PH->Prop):Prop:=
 match o with
 | .ref a=>EK (λs l=>l.length<Dg/\oK (λk=>K (Z.set a (Fp s l k v))) (DM i)) (Z a)\/GN (λl=>Df (λk=>EV (λj=>l.length<=Dg/\K (Z.set a (.list (l.set j v)))) (CO l.length k)) i) (Z a)
 |_=>False
noncomputable def HK(tst:CH->PH->(Bool->PH->Prop)->Prop)(body:CH->PH->DH->Prop)(Q:DH):Nat->CH->PH->Prop
 |0,_,_=>False
 |n+1,ρ,Z=>tst ρ Z λb m=>if b then body ρ m (HR (λD O=>HK tst body Q n D O) Q) else Q .next ρ m
mutual
noncomputable def ws(G:Gx)(cl cu:Cl):S->CH->PH->DH->gK->Prop
 | .assign (.name x) e,ρ,Z,Q,X=>we G cl e ρ Z (λv Z1=>Q .next (ρ.put x v) Z1) λx Z1=>X x ρ Z1
 | .assign (.tup xs) e,ρ,Z,Q,X=>G.calm=Jc/\we G cl e ρ Z (λv Z1=>oR (λρ'=>Q .next ρ' Z1) (bindT (.tup xs) v ρ)) λx Z1=>X x ρ Z1
 | .setIdx o i e,ρ,Z,Q,X=>we G cl e ρ Z (λv Z1=>we G cl o ρ Z1 (λW O=>we G cl i ρ O (λC Z3=>wset W C v Z3 λm=>Q .next ρ m) λx Z1=>X x ρ Z1) λx Z1=>X x ρ Z1) λx Z1=>X x ρ Z1
 | .expr e,ρ,Z,Q,X=>we G cl e ρ Z (λo0 Z1=>Q .next ρ Z1) λx Z1=>X x ρ Z1
 | .ret e,ρ,Z,Q,X=>we G cl e ρ Z (λv Z1=>Q (.ret v) ρ Z1) λx Z1=>X x ρ Z1
 | .if_ t b o,ρ,Z,Q,X=>we G cl t ρ Z (λv Z1=>dj (λc=>if c then E8 G cl cu b ρ Z1 Q X else E8 G cl cu o ρ Z1 Q X) v) λx Z1=>X x ρ Z1
 | .for_ tg k g b,ρ,Z,Q,X=>G.calm=Jc/\Fc G cl g ρ Z (λvs Z1=>src k vs Z1 λxs chk=>xs.length<=Dg/\Hc chk tg (λρ Z K=>E8 G cl cu b ρ Z K λo0 o0 o0=>False) Q xs ρ Z1) λx Z1=>X x ρ Z1
 | .while_ t b,ρ,Z,Q,X=>G.calm=Jc/\∃k,HK (λρ Z K=>we G cl t ρ Z (λv Z1=>dj (λc=>K c Z1) v) λx Z1=>X x ρ Z1) (λρ Z K=>E8 G cl cu b ρ Z K X) Q k ρ Z
 | .raise c args,ρ,Z,_,X=>(G.full=Jc/\G.calm=Jc/\(G.mks.contains c=Jc\/(G.inis.contains c=Jc/\args.length=(G.flds c).length)))/\Fc G cl args ρ Z (λvs Z1=>X ⟨c,vs.take (G.flds c).length⟩ ρ Z1) λx Z1=>X x ρ Z1
 | .try2 b c x h σ p,ρ,Z,Q,_=>(G.full=Jc/\G.calm=Jc/\G.cs.contains c=Jc/\G.cs.contains σ=Jc)/\E8 G cl cu b ρ Z Q λe j Z1=>cond (G.sub e.c c) (lb e Z1 λv O=>E8 G.un cu cu h (j.put x v) O (λfl D O=>Q fl D.wipe O) λo0 o0 o0=>False) (cond (G.sub e.c σ) (lb e Z1 λv O=>E8 G.un cu cu p (j.put x v) O (λfl D O=>Q fl D.wipe O) λo0 o0 o0=>False) False)
noncomputable def E8(G:Gx)(cl cu:Cl):List S->CH->PH->DH->gK->Prop
 |[],ρ,Z,Q,_=>Q .next ρ Z
 |s::r,ρ,Z,Q,X=>ws G cl cu s ρ Z (HR (λj Z1=>E8 G cl cu r j Z1 Q X) Q) X
end
section
variable{G:Gx}{cl cu:Cl}{ρ:CH}{Z:PH}
section
variable{Q:C9}{X:Dl}
end
section
variable{Q:List PV->PH->Prop}{X:Dl}
end
section
variable{Q:DH}{X:gK}
end
end
structure Cx where
 prog:Jn
 w:Jm
 B:Ji
 cls:String->Option Jg
 flds:String->List String
 fv:String->Option Jf
 ok:Prop
 calm:Prop
 K:List (Jg×Jp)
 icl:String->Option Jg
noncomputable def Cx.un(C:Cx):Cx:={C with calm:=False}
noncomputable abbrev Eu(vs:Array Jf)(n:Nat):Jp:={cls:= .type "tuple",dict:=Jb,data:= .seq vs n,slots:= #[]}
noncomputable abbrev D5(vs:Array Jf)(n:Nat):Jp:={cls:= .type "list",dict:=Jb,data:= .seq vs n,slots:= #[]}
mutual
noncomputable def VR(C:Cx)(Z:PH)(h:Ji):PV->Jf->Prop
 | .none,v=>v= .none
 | .bool b,v=>v= .bool b
 | .int i,v=>∃t,v= .int i t
 | .str s,v=>∃t,v= .str (Qb s) t
 | .tup l,v=>X3 λa n vs=>A4 (v= .ref a) (Z a=Jb) (h.get? a=Ja (Eu vs n))<|CZ C Z h l vs.toList
 | .ref a,v=>v= .ref a
 | .scr l,v=>X4 λa o n vs=>A6 (v= .ref a) (C.B.get? a=Ja o) (o.cls= .type "list") (o.data= .seq vs n) (vs.size=l.length) (∀ (i:Nat) (k:Int),l[i]? =Ja k->∃t,vs[i]? =Ja (Value.int k t))
noncomputable def CZ(C:Cx)(Z:PH)(h:Ji):List PV->List Jf->Prop
 |[],vs=>vs=[]
 |p::ps,vs=>X2 λv r=>A3 (vs=v::r) (VR C Z h p v)<|CZ C Z h ps r
end
inductive FD(C:Cx)(Z:PH)(h:Ji)(c:String)(fs:List PV)(o:Jp):Prop
 |mk (es:Array JN) (ep:Nat) (e:o.data= .dict es ep) (k:StrKeys es) (v:∀ (i:Nat) f p,(C.flds c)[i]? =Ja f->fs[i]? =Ja p->∃v,nsFind es (Qb f)=Ja v/\VR C Z h p v) (n:∀x,(∀f∈C.flds c,x≠Qb f)->nsFind es x=Option.none):FD C Z h c fs o
inductive D3(C:Cx)(Z:PH)(h:Ji)(k:List KA)(a:Jg):Prop
 |mk (n:Z a=Option.none) (vs:Array Jf) (m:Nat) (g:h.get? a=Ja (Eu vs m)) (i:ItemsAre (mk C.prog C.w) k vs.toList):D3 C Z h k a
inductive DR(C:Cx)(Z:PH)(h:Ji)(ks:List (List KA))(l:List PV)(o:Jp):Prop
 |mk (es:Array JN) (ep:Nat) (xs:List (List KA×Jg×Jf)) (x:o.ExactDict) (d:o.data= .dict es ep) (e:es.toList=xs.map (JL (tk C.prog C.w))) (k:xs.map (·.1)=ks) (nd:ks.Nodup)
  (ka:∀y∈xs,D3 C Z h y.1 y.2.1) (v:CZ C Z h l (xs.map (·.2.2))):DR C Z h ks l o
def OR(C:Cx)(Z:PH)(h:Ji):PO->Jp->Prop
 | .list l,o=>∃v n,o=D5 v n/\CZ C Z h l v.toList
 | .dict s l,o=>DR C Z h s l o
 | .fd c f,o=>FD C Z h c f o
 | .exc c d,o=>X2 λk v=>A6 (C.cls c=Ja k) (o.cls= .ref k) (o.data= .fields v) (v[2]? =Ja .none) (o.dict=d) (∀x,d=Ja x->∃f,Z x=Ja (.fd c f))
 | .inst d,o=>X2 λc k=>A5 (C.icl c=Ja k) (o.cls= .ref k) (∀c,o.data≠ .cls c) (o.dict=Ja d) (∃f,Z d=Ja (.fd c f))
noncomputable def PO.needs(o:Prop)(a:Jg):PO->Prop
 | .dict .. =>a≠JC
 | .exc .. =>o
 |_=>True
structure CP(C:Cx)(Z:PH)(h:Ji):Prop where
 base:∀b o,C.B.get? b=Ja o->h.get? b=Ja o
 new:∀a o,Z a=Ja o->C.B.get? a=Jb
 objs:∀a o,Z a=Ja o->∃ob,h.get? a=Ja ob/\OR C Z h o ob
 rich:∀a o,Z a=Ja o->o.needs C.ok a
def EP(o o':Jp):Prop:=o'.cls=o.cls/\o'.dict=o.dict/\o'.data=o.data/\((∀e n,o.data≠ .dict e n)->o'.slots=o.slots)
theorem EP.eq{o o':Jp}(x:EP o o')(h:∀es n,o.data≠ .dict es n):o'=o:=by
 obtain⟨c,d,R,l⟩:=o;obtain⟨Q,X,t,s⟩:=o';obtain⟨N,p,J,w⟩:=x;simp only at N p J w;subst N p J;rw[w h]
def isSeq(o:Jp):Prop:=∃x n,o.data= .seq x n
structure CF(S:Jg->Prop)(Z:PH)(h:Ji)(Z':PH)(h':Ji):Prop where
 keep:∀b o,h.get? b=Ja o->Z b=Jb->Z' b=Jb/\∃o',h'.get? b=Ja o'/\((S b->isSeq o)->EP o o')
 grow:∀b o,Z b=Ja o->∃o',Z' b=Ja o'
 fix:∀b o,Z b=Ja o->o.fixed=Jc->Z' b=Ja o
 live:∀b,h'.get? b=Jb->h.get? b=Jb
theorem EP.refl(o:Jp):EP o o:=⟨rfl,rfl,rfl,λo0=>rfl⟩
theorem EP.trans(x:EP a b)(y:EP b c):EP a c:=⟨y.1.trans x.1,y.2.1.trans x.2.1,y.2.2.1.trans x.2.2.1,λh=>(y.2.2.2 (λs n e=>h s n (x.2.2.1.symm.trans e))).trans (x.2.2.2 h)⟩
theorem EP.isSeq(x:EP a b)(y:isSeq a):isSeq b:=by obtain⟨s,n,e⟩:=y;exact⟨s,n,x.2.2.1.trans e⟩
theorem CF.refl(S:Jg->Prop)(Z:PH)(h:Ji):CF S Z h Z h:=⟨λo0 o e s=>⟨s,o,e,λo0=> .refl o⟩,λo0 o e=>⟨o,e⟩,λo0 o0 e o0=>e,λo0 e=>e⟩
theorem CF.trans{S:Jg->Prop}{d K W:PH}(x:CF S d V K p)(y:CF S K p W h):CF S d V W h where
 keep:=λb o e s=>by
  obtain⟨G,i,g,l⟩:=x.keep b o e s;obtain⟨C,z,H,w⟩:=y.keep b i g G;exact⟨C,z,H,λq=>(l q).trans (w λc=>(l q).isSeq (q c))⟩
 grow:=λb o e=>by obtain⟨i,g⟩:=x.grow b o e;exact y.grow b i g
 fix:=λb o e f=>y.fix b o (x.fix b o e f) f
 live:=λb e=>x.live b<|y.live b e
theorem CF.mono{S r:Jg->Prop}{h A:Ji}(x:CF S Z h Z' A)(k:∀b,(h.get? b).isSome->S b->r b):CF r Z h Z' A where
 keep:=λb o e s=>by obtain⟨G,i,g,l⟩:=x.keep b o e s;exact⟨G,i,g,λq=>l λf=>q<|k b (by simp[e]) f⟩
 grow:=x.grow
 fix:=x.fix
 live:=x.live
mutual
theorem VR.step{S:Jg->Prop}(st:CF S Z h Z' A):∀ (p:PV) (v:Jf),VR C Z h p v->VR C Z' A p v
 | .none=>λo0 e=>e
 | .bool _=>λo0 e=>e
 | .int _=>λo0 e=>e
 | .str _=>λo0 e=>e
 | .ref _=>λo0 e=>e
 | .scr _=>λo0 e=>e
 | .tup l=>λv e=>by
  obtain⟨a,n,vs,T,es,e2,V⟩:=e;obtain⟨s,o',o,k⟩:=st.keep a _ e2 es;rw[(k λo0=>⟨vs,n,rfl⟩).eq (by simp)] at o;exact⟨a,n,vs,T,s,o,CZ.step st l _ V⟩
theorem CZ.step{S:Jg->Prop}(st:CF S Z h Z' A):∀ (l:List PV) (vs:List Jf),CZ C Z h l vs->CZ C Z' A l vs
 |[]=>λo0 e=>e
 |p::ps=>λvs e=>by
  obtain⟨v,r,T,e2,X⟩:=e;exact⟨v,r,T,VR.step st p v e2,CZ.step st ps r X⟩
end
theorem D3.step{S:Jg->Prop}(st:CF S Z h Z' A)(x:D3 C Z h k a):D3 C Z' A k a:=by
 obtain⟨n,v,m,g,i⟩:=x;obtain⟨X,o,e,l⟩:=st.keep a _ g n;rw[(l λo0=>⟨v,m,rfl⟩).eq (by simp)] at e;exact⟨X,v,m,e,i⟩
theorem OR.step{S:Jg->Prop}(st:CF S Z h Z' W):∀ (p:PO) (o:Jp),OR C Z h p o->OR C Z' W p o:=λp o r=>by
 induction p with
 |list l=>obtain⟨J,n,F,X⟩:=r;exact⟨J,n,F,CZ.step st _ _ X⟩
 |dict=>obtain⟨s,H,P,x,d,e,k,nd,a,v⟩:=r;exact⟨s,H,P,x,d,e,k,nd,λy Q=>(a y Q).step st,CZ.step st _ _ v⟩
 |fd=>obtain⟨s,H,e,k,v,z⟩:=r;exact⟨s,H,e,k,λi f p N Y=>(v i f p N Y).imp λu q=>⟨q.1,VR.step st _ _ q.2⟩,z⟩
 |exc=>obtain⟨k,J,T,F,X,A,V,m⟩:=r;exact⟨k,J,T,F,X,A,V,λx q=>(m x q).imp λI w=>st.fix x _ w rfl⟩
 |inst d=>obtain⟨c,k,T,F,X,A,V⟩:=r;exact⟨c,k,T,F,X,A,V.imp λI w=>st.fix d _ w rfl⟩
def CS(s s':Je):Prop:=s'.gens=s.gens/\s'.os=s.os
theorem CS.refl(s:Je):CS s s:=⟨rfl,rfl⟩
theorem CS.trans(x:CS a b)(y:CS b c):CS a c:=⟨y.1.trans x.1,y.2.trans x.2⟩
noncomputable def CC:Jg->Prop:=λo0=>False
inductive FF(C:Cx)(x:PX)(Z:PH)(h₀ h:Ji)(od:Option Jg):Prop
 |no (f:x.fs=[]) (e:od=Option.none):FF C x Z h₀ h od
 |at_ (f:x.fs≠ []) (d:Jg) (o:Jp) (e:od=Ja d) (b:C.B.get? d=Option.none) (n:Z d=Option.none) (z:h₀.get? d=Option.none) (g:h.get? d=Ja o) (r:FD C Z h x.c x.fs o):FF C x Z h₀ h od
theorem FF.from{S:Jg->Prop}(f:FF C x Z V h od)(st:CF S B h₀ p V):FF C x Z h₀ h od:=by
 induction f with
 |no f e=>exact .no f e
 |at_ f d o e b n z g r=>exact .at_ f d o e b n (st.live _ z) g r
inductive Hl(C:Cx)(own:Option Jg)(x:PX)(e:Jf)(Z:PH)(h₀ h:Ji):Prop
 |mk (a:Jg) (o:Jp) (vs:Array Jf) (k:Jg) (q1:e= .ref a) (q2:C.B.get? a=Option.none) (q3:Z a=Option.none) (q4:h₀.get? a=Option.none) (q5:h.get? a=Ja o) (q6:C.cls x.c=Ja k) (q7:o.cls= .ref k) (q8:o.data= .fields vs) (q9:vs[2]? =Ja .none)
  (q10:vs[1]? =Ja .none\/X3 λT oT ts=>A8 (vs[1]? =Ja (.ref T)) (T≠a) (C.B.get? T=Option.none) (Z T=Option.none) (h₀.get? T=Option.none) (h.get? T=Ja oT) (oT.data= .fields ts)<|(ts[3]? =Ja .none\/∃L,own=Ja L/\ts[3]? =Ja (Jx L))) (q11:FF C x Z h₀ h o.dict):Hl C own x e Z h₀ h
theorem Hl.from{S:Jg->Prop}{own:Option Jg}{Z B d:PH}(f:Hl C own x e Z V h)(st:CF S B h₀ d V):Hl C own x e Z h₀ h:=by
 obtain⟨a,o,s,k,N,R,Q,F,G,σ,M,n,P,q,c⟩:=f;refine⟨a,o,s,k,N,R,Q,st.live _ F,G,σ,M,n,P,q.imp id ?_,c.from st⟩;rintro ⟨T,W,t,A,j,v,J,z,r,y,w⟩;exact⟨T,W,t,A,j,v,J,st.live _ z,r,y,w⟩
theorem Hl.weak{own:Option Jg}(f:Hl C Jb x e Z h₀ h):Hl C own x e Z h₀ h:=by
 obtain⟨a,o,v,k,N,R,Q,F,G,σ,M,n,P,q,c⟩:=f;refine⟨a,o,v,k,N,R,Q,F,G,σ,M,n,P,q.imp id ?_,c⟩;rintro ⟨T,W,t,A,j,B,J,d,r,y,w⟩;exact⟨T,W,t,A,j,B,J,d,r,y,w.imp id λV=>by obtain⟨L,z,o0⟩:=V;exact(ns z)⟩
inductive VP(C:Cx)(S:Jg->Prop)(Z:PH)(s:Je)(Q:C9)(v:Jf)(s':Je):Prop
 |mk (p:PV) (Z':PH) (a:VR C Z' s'.heap p v) (b:CP C Z' s'.heap) (c:CF S Z s.heap Z' s'.heap) (d:CS s s') (e:Q p Z'):VP C S Z s Q v s'
inductive VPs(C:Cx)(S:Jg->Prop)(Z:PH)(s:Je)(Q:List PV->PH->Prop)(v:List Jf)(s':Je):Prop
 |mk (p:List PV) (Z':PH) (a:CZ C Z' s'.heap p v) (b:CP C Z' s'.heap) (c:CF S Z s.heap Z' s'.heap) (d:CS s s') (e:Q p Z'):VPs C S Z s Q v s'
inductive XP(C:Cx)(S:Jg->Prop)(Z:PH)(s:Je)(X:Dl)(e:Jf)(s':Je):Prop
 |mk (x:PX) (Z':PH) (a:Hl C Option.none x e Z' s.heap s'.heap) (b:CP C Z' s'.heap) (c:CF S Z s.heap Z' s'.heap) (d:CS s s') (q:X x Z'):XP C S Z s X e s'
theorem VP.from{S:Jg->Prop}{s m:Je}(st:CF S Z s.heap o m.heap)(r:CS s m)(x:VP C S o m Q v s'):VP C S Z s Q v s':=
 by obtain⟨p,X,a,b,c,d,e⟩:=x;exact⟨p,X,a,b,st.trans c,r.trans d,e⟩
theorem XP.from{S:Jg->Prop}{s m:Je}(st:CF S Z s.heap o m.heap)(r:CS s m)(x:XP C S o m X v s'):XP C S Z s X v s':=
 by obtain⟨p,T,a,b,c,d,e⟩:=x;exact⟨p,T,a.from st,b,st.trans c,r.trans d,e⟩
def G3(C:Cx)(Z:PH)(h:Ji)(l:List Js):Prop:=
 ∀e∈l,e.scope.kind≠ .module/\X4 λL o s n=>A5 (e.frame=Ja L) (C.B.get? L=Jb) (Z L=Jb) (h.get? L=Ja o)<|o.data= .dict s n
theorem G3.step{S:Jg->Prop}(f:G3 C Z h l)(st:CF S Z h Z' A)(E:∀env∈l,∀L,env.frame=Ja L->¬S L):G3 C Z' A l:=λenv O=>by
 obtain⟨k,L,o,U,n,e,w,X,u,V⟩:=f env O;obtain⟨q,i,m,N⟩:=st.keep L o u X;have N:=N λs=>absurd s<|E env O L e;exact⟨k,L,i,U,n,e,w,q,m,N.2.2.1.trans V⟩
theorem G3.fun{C:Cx}{h:Ji}:∀ {l:List Js},G3 C Z h l->h.FunFrames C.B l
 |[]=>λo0=>trivial
 |env::r=>λf=>by
  obtain⟨k,L,o,s,n,T,w,X,u,V⟩:=f env<|.head _;exact⟨k,⟨L,o,T,w,u,λv q=>by rw[V] at q;cases q⟩,G3.fun λe O=>f e<|.tail _ O⟩
structure Dy(C:Cx)(n:Nat)(A:Jj)(l:List Js)(Z:PH)(h:Ji):Prop where
 depth:A.depth+n+2<J0
 units:A.units+30*n+300<Ua
 stack:A.frames=Ja l
 frs:G3 C Z h l
 calm:C.calm->A.handled=Jb
structure CU(C:Cx)(env:Js)(ρ:CH)(Z:PH)(h:Ji):Prop where
 fn:env.scope.kind= .function
 glob:env.globals=JA
 blt:env.builtins=builtinsNs
 ns:∃m,h.Ns env.locals m/\∀x p,ρ.get x=Ja p->env.kindOf (Qb x)=Ja .local->∃v,m (Qb x)=Ja v/\VR C Z h p v
 cell:∀x p,ρ.get x=Ja p->env.kindOf (Qb x)=Ja .cell\/env.kindOf (Qb x)=Ja .free->X2 λc v=>A3 (env.cells.lookup (Qb x)=Ja c) (h.IsCell c<|Ja v)<|VR C Z h p v
 newL:Z env.locals=Jb
 baseL:C.B.get? env.locals=Jb
 baseC:∀x c,env.cells.lookup x=Ja c->C.B.get? c=Jb
 newC:∀x c,env.cells.lookup x=Ja c->Z c=Jb/\∃v,h.IsCell c v
 apart:∀x y c,env.cells.lookup x=Ja c->env.cells.lookup y=Ja c->x=y
 hasC:∀x,env.kindOf x=Ja .cell\/env.kindOf x=Ja .free->∃c,env.cells.lookup x=Ja c
theorem Ns.like{h A:Ji}{m:Jq->Option Jf}(x:h.Ns a m)(k:∀o,h.get? a=Ja o->∃o',A.get? a=Ja o'/\EP o o'):A.Ns a m:=
 by obtain⟨o,s,p,e,r⟩:=x;obtain⟨o',g,l⟩:=k o e;exact⟨o',s,p,g,l.2.2.1.trans r.1,r.2⟩
theorem IsCell.like{h A:Ji}(x:h.IsCell a v)(k:∀o,h.get? a=Ja o->∃o',A.get? a=Ja o'/\EP o o'):A.IsCell a v:=
 by obtain⟨o,e,r⟩:=x;obtain⟨o',g,l⟩:=k o e;exact⟨o',g,l.2.2.1.trans r⟩
theorem CU.step(x:CU C env L Z h)(st:CF CC Z h Z' A):CU C env L Z' A where
 fn:=x.fn
 glob:=x.glob
 blt:=x.blt
 ns:=by
  obtain⟨m,n,hv⟩:=x.ns;refine⟨m,Ns.like n λo e=> ?_,λy p T w=>by obtain⟨v,a,b⟩:=hv y p T w;exact⟨v,a,b.step st⟩⟩;obtain⟨o0,i,g,l⟩:=st.keep _ o e x.newL;exact⟨i,g,l λf=>f.elim⟩
 cell:=λy p T w=>by
  obtain⟨c,v,a,b,d⟩:=x.cell y p T w;refine⟨c,v,a,IsCell.like b λo e=> ?_,d.step st⟩;obtain⟨o0,i,g,l⟩:=st.keep _ o e (x.newC _ c a).1;exact⟨i,g,l λf=>f.elim⟩
 newL:=by
  obtain⟨m,⟨o,s,H,e,o0⟩,o0⟩:=x.ns;exact(st.keep _ o e x.newL).1
 newC:=λy c e=>by
  obtain⟨a,v,o,b,d⟩:=x.newC y c e;obtain⟨q,i,g,l⟩:=st.keep _ o b a;exact⟨q,v,i,g,(l λf=>f.elim).2.2.1.trans d⟩
 baseL:=x.baseL
 baseC:=x.baseC
 apart:=x.apart
 hasC:=x.hasC
theorem Dy.step{h S:Ji}(x:Dy C n A l Z h)(st:CF CC Z h Z' S):Dy C n A l Z' S:=
 ⟨x.depth,x.units,x.stack,x.frs.step st λo0 o0 o0 o0 f=>f,x.calm⟩
noncomputable def nm(y:Jq)(x:String):Bool:=y==Qb x
noncomputable def Ds(sc:Jk)(y:Jq):Bool:=sc.names.lookup y==Ja .local||sc.names.lookup y==Ja .cell||sc.names.lookup y==Ja .free
noncomputable def EA(sc:Jk)(y:Jq):Bool:=sc.names.lookup y==Ja .local||sc.names.lookup y==Ja .cell
noncomputable def mP(sc:Jk)(y:Jq):Bool:=sc.names.lookup y==Ja .globalImplicit
noncomputable def bz(y:Jq):Bool:= !(y==("__debug__":Jq))&& !(y==("__classdict__":Jq))
noncomputable def BOp.py:BOp->Operator
 | .add=> .Add| .sub=> .Sub| .mul=> .Mult| .fdiv=> .FloorDiv| .mod=> .Mod| .pow _=> .Pow
noncomputable def HI.py:HI->CmpOp
 | .eq=> .Eq| .ne=> .NotEq| .lt=> .Lt| .le=> .LtE| .gt _=> .Gt| .ge=> .GtE| .in_=> .In| .nin=> .NotIn
noncomputable def mOp(a:BOp)(o:Operator):Bool:=decide<|o=a.py
noncomputable def mC(a:HI)(o:CmpOp):Bool:=decide<|o=a.py
noncomputable def BI.nm:BI->String
 | .len=>"len"| .all=>"all"| .sum=>"sum"| .int=>"int"| .list=>"list"| .min=>"min"| .sorted=>"sorted"| .dict _=>"dict"| .max=>"max"| .max2=>"max"
noncomputable def Me.nm:Me->String
 | .append=>"append"| .remove=>"remove"
def glb(sc:Jk)(x:String):Jl->Bool
 | .Name y _=>Vl.Internal.nm y x&&mP sc y&&bz y
 |_=>Jd
noncomputable def eZ(sc:Jk):List String->List Jl->Bool
 |[],[]=>Jc
 |x::s,.Name y _::r=>Vl.Internal.nm y x&&EA sc y&&bz y&& !s.contains x&&eZ sc s r
 |_,_=>Jd
def Fm(sc:Jk):Tg->Jl->Bool
 | .name x,.Name y _=>Vl.Internal.nm y x&&EA sc y&&bz y
 | .tup s,.Tuple e _ _=>eZ sc s e
 |_,_=>Jd
noncomputable def j9(sc:Jk):List String->List Jl->Bool
 |[],[]=>Jc
 |t::s,e::U=>glb sc t e&&j9 sc s U
 |_,_=>Jd
noncomputable def HQ(f:String->Bool):List String->Bool
 |[t]=>f t
 |_=>Jd
noncomputable def fA(sc s:Jk):Bool:=
 s.kind== .function&& !s.isGenerator&& !s.isCoroutine&&(s.names.all λ(n,k)=>k != .free||sc.names.lookup n==Ja .cell||sc.names.lookup n==Ja .free)&&
 (s.names.all λ(n,k)=>s.names.lookup n==Ja k)&&decide ((s.names.map (·.1)).Nodup)
def G9(sc:Jk)(ts:List String):Jl->Bool
 | .Tuple s _ _=>j9 sc ts s&&(decide (2<=s.length)&&decide (s.length<=100))
 |e=>HQ (λt=>glb sc t e) ts
noncomputable def El(tg:Tg)(s:Jk):Bool:=s.names.all λ(n,k)=>(k != .local&&k != .cell)||(".0"::tg.names).any λx=>Vl.Internal.nm n x
noncomputable def bQ(f:String):Bool:= !f.toList.contains '.'
noncomputable def ei:Jl->Bool
 | .Call _ [] _ _=>Jd
 |_=>Jc
noncomputable def xk:Jl->Nat
 | .Constant .. =>0| .Name .. =>1| .BinOp .. =>2| .UnaryOp .. =>3| .BoolOp .. =>4| .Compare .. =>5| .Tuple .. =>7| .List .. =>8| .Subscript .. =>10| .ListComp .. =>11| .Call .. =>12| .Attribute .. =>13| .Slice .. =>14| .Dict .. =>15
 |_=>99
def kz(x:Jl):Bool:= !(xk x==99)
noncomputable def sk:Jo->Nat
 | .Assign .. =>0| .Expr .. =>1| .Return .. =>2| .If .. =>3| .For .. =>4| .While .. =>5| .Raise .. =>6| .Try .. =>7
 |_=>99
abbrev XB:=Jl->Bool
noncomputable def uC(f:Const->Bool):XB| .Constant c _ _=>f c|_=>Jd
def HN(f:Jq->Bool)(x:String):XB| .Name y _=>Vl.Internal.nm y x&&f y&&bz y|_=>Jd
def qBin(p:BOp)(f g:XB):XB| .BinOp l o r _=>mOp p o&&f l&&g r|_=>Jd
noncomputable def qUn(u:UnaryOp)(f:XB):XB| .UnaryOp o x _=>decide (o=u)&&f x|_=>Jd
noncomputable def HO(u:BoolOp)(f g:XB):XB
 | .BoolOp o [x,y] _=>decide (o=u)&&(f x&&g y)
 | .BoolOp o (x::y::z::r) p=>decide (o=u)&&(f x&&g (.BoolOp o (y::z::r) p))
 |_=>Jd
noncomputable def qIs(u:CmpOp)(f g:XB):XB| .Compare l [o] [c] _=>decide (o=u)&&(f l&&g c)|_=>Jd
def qCmp(p:HI)(f g:XB):XB| .Compare l [o] [r] _=>mC p o&&f l&&g r&& !(JG o r)|_=>Jd
def qCmp2(o P:HI)(f g h:XB):XB| .Compare l [n,p] [m,r] _=>mC o n&&mC P p&&f l&&g m&&h r&& !(JG p r)|_=>Jd
noncomputable def qTup(f:List Jl->Bool):XB| .Tuple e _ _=>f e&&decide (e.length<=100)|_=>Jd
noncomputable def qList(f:List Jl->Bool):XB| .List es _=>f es&&decide (es.length<=100)|_=>Jd
noncomputable def qSub(f g:XB):XB| .Subscript x y _=>f x&&g y|_=>Jd
def qComp(sc:Jk)(tg:Tg)(f:XB)(g:Jk->XB):XB| .ListComp e [⟨t,i,[],a⟩] s _=>decide (a=0)&&(f i&&Fm s tg t&&g s e&&fA sc s&&El tg s)|_=>Jd
def qN(sc:Jk)(tg:Tg)(f:XB)(g h:Jk->XB):XB| .ListComp e [⟨t,i,[c],a⟩] s _=>decide (a=0)&&(f i&&Fm s tg t&&g s e&&h s c&&fA sc s&&El tg s)|_=>Jd
noncomputable def qCall(f:XB)(g:List Jl->Bool):XB| .Call x a [] _=>f x&&g a|_=>Jd
noncomputable def qMeth(f:Y5->XB)(g:List Jl->Bool):XB| .Call x a [] q=>f q x&&g a|_=>Jd
def qAttr(a:String)(f:XB)(g:Y5->Bool):XB| .Attribute x y p=>f x&&ei x&&Vl.Internal.nm y a&&g p|_=>Jd
noncomputable def one1(f:XB):List Jl->Bool|[x]=>f x|_=>Jd
noncomputable def HL(f g:XB):List Jl->Bool|[x,y]=>f x&&g y|_=>Jd
def Ht(c:Const):XB:=λx=>xk x==0&&uC (λd=>decide (d=c)) x
def HW:XB:=Ht .none
def EC(f:Jq->Bool)(x:String):XB:=λe=>xk e==1&&HN f x e
def hBin(o:BOp)(f g:XB):XB:=λx=>xk x==2&&qBin o f g x
def hNot(f:XB):XB:=λx=>xk x==3&&qUn .Not f x
def hAnd(f g:XB):XB:=λx=>xk x==4&&HO .And f g x
def hOr(f g:XB):XB:=λx=>xk x==4&&HO .Or f g x
def wE(f:XB):XB:=λx=>xk x==5&&qIs .Is f HW x
def vI(f:XB):XB:=λx=>xk x==5&&qIs .IsNot f HW x
def hCmp(o:HI)(f g:XB):XB:=λx=>xk x==5&&qCmp o f g x
def hCmp2(o P:HI)(f g h:XB):XB:=λx=>xk x==5&&qCmp2 o P f g h x
def hTup(f:List Jl->Bool):XB:=λx=>xk x==7&&qTup f x
def HX(f:List Jl->Bool):XB:=λx=>xk x==8&&qList f x
def hSub(f g:XB):XB:=λx=>xk x==10&&qSub f g x
def hComp(sc:Jk)(tg:Tg)(f:XB)(g:Jk->XB):XB:=λx=>xk x==11&&qComp sc tg f g x
def rc(sc:Jk)(tg:Tg)(f:XB)(g h:Jk->XB):XB:=λx=>xk x==11&&qN sc tg f g h x
def hCl(f:XB)(g:List Jl->Bool):XB:=λx=>xk x==12&&qCall f g x
def hCall(sc:Jk)(n:String)(f:List Jl->Bool):XB:=hCl (λx=>glb sc n x&&bQ n) λa=>f a&&decide (a.length<=20)
def hBi1(sc:Jk)(n:String)(f:List Jl->Bool):XB:=hCl (glb sc n) λa=>f a&&decide (a.length<=20)
def hIsi(sc:Jk)(ts:List String)(f:XB):XB:=hCl (glb sc "isinstance") (HL f λe=>HQ (λt=>glb sc t e) ts)
def hIsx(sc:Jk)(ts:List String)(f:XB):XB:=hCl (glb sc "isinstance")<|HL f (G9 sc ts)
def hAt(a:String)(f:XB)(g:Y5->Bool):XB:=λx=>xk x==13&&qAttr a f g x
noncomputable def uI:XB| .Dict [] [] _=>Jc|_=>Jd
def vL:XB:=λx=>xk x==15&&uI x
def hEmp:XB:=HX λe=>e.isEmpty
noncomputable def GO(f:String):String:=String.ofList ((f.toList.dropWhile (· !='.')).drop 1)
noncomputable def cOf(f:String):String:=String.ofList (f.toList.takeWhile (· !='.'))
def hMc(m:String)(f:XB)(g:List Jl->Bool):XB:=λx=>xk x==12&&qMeth (λq=>hAt m f λp=>p.endLine==q.line) g x
def Hb(a:String)(f:XB):XB:=hAt a f λo0=>Jc
noncomputable def Tg.isTup:Tg->Bool| .tup _=>Jc|_=>Jd
def qIt(sc:Jk)(k:IK)(tg:Tg)(f:List Jl->Bool):XB:=match k with
 | .val=>λx=>f [x]
 | .range=>hCl (glb sc "range") λa=>f a&&decide (a.length=1)
 | .enum=>hCl (glb sc "enumerate") λa=>f a&&(decide (a.length=1)&&tg.isTup)
mutual
noncomputable def mE(sc:Jk):E->Jl->Bool
 | .none=>HW
 | .bool b=>Ht<|.bool b
 | .int i=>Ht<|.int i
 | .str s=>Ht<|.str (Qb s)
 | .loc x=>EC (Ds sc) x
 | .glob x=>EC (mP sc) x
 | .bin op a b=>hBin op (mE sc a)<|mE sc b
 | .not_ a=>hNot<|mE sc a
 | .and_ a b=>hAnd (mE sc a)<|mE sc b
 | .or_ a b=>hOr (mE sc a)<|mE sc b
 | .isNone a=>wE<|mE sc a
 | .notNone a=>vI<|mE sc a
 | .cmp op a b=>hCmp op (mE sc a)<|mE sc b
 | .cmp2 a o1 b o2 c=>hCmp2 o1 o2 (mE sc a) (mE sc b)<|mE sc c
 | .tup l=>hTup<|GS sc l
 | .list l=>HX<|GS sc l
 | .sub a i=>hSub (mE sc a)<|mE sc i
 | .comp elt tg k it=>hComp sc tg (qIt sc k tg (GS sc it)) λsc'=>mE sc' elt
 | .compIf elt tg k it c=>rc sc tg (qIt sc k tg (GS sc it)) (λsc'=>mE sc' elt) λsc'=>mE sc' c
 | .call f args=>hCall sc f<|GS sc args
 | .bi b args=>hBi1 sc b.nm<|GS sc args
 | .isi a ts=>hIsi sc ts λx=>kz x&&mE sc a x
 | .isx x ts=>hIsx sc ts<|EC (Ds sc) x
 | .cnt ix a=>hMc (cond ix "index" "count") (mE sc a)<|one1 (Ht<|.bool Jc)
 | .meth o m args=>hMc m.nm (mE sc o) λas=>GS sc args as&&decide (as.length=1)
 | .dict0=>vL
 | .get a k=>hMc "get" (mE sc a) (HL (λx=>kz x&&mE sc k x) hEmp)
 | .sd a k=>hMc "setdefault" (mE sc a) (HL (λx=>kz x&&mE sc k x) hEmp)
 | .attr x f=>Hb f<|EC (Ds sc) x
 | .mcall c f o args=>hMc (GO f) (mE sc o) λas=>GS sc args as&&(decide (as.length<=20)&& !bQ f&&(cOf f==c))
noncomputable def GS(sc:Jk):List E->List Jl->Bool
 |[],[]=>Jc
 |a::as,x::xs=>(kz x&&mE sc a x)&&GS sc as xs
 |_,_=>Jd
end
def mIt(sc:Jk)(k:IK)(tg:Tg)(i:List E):XB:=qIt sc k tg<|GS sc i
noncomputable def E.isC:E->Bool
 | .comp .. | .compIf .. =>Jc
 |_=>Jd
abbrev SB:=Jo->Bool
abbrev SBs:=List Jo->Bool
noncomputable def rAsg(f h:XB):SB| .Assign [t] v _=>f t&&h v|_=>Jd
noncomputable def rExpr(f:XB):SB| .Expr v _=>f v|_=>Jd
noncomputable def rRet(f:XB):SB| .Return (Ja v) _=>f v|_=>Jd
noncomputable def rIf(f:XB)(g h:SBs):SB| .If x y z _=>f x&&g y&&h z|_=>Jd
noncomputable def rFor(f g:XB)(h:SBs):SB| .For t i y [] _=>f t&&g i&&h y|_=>Jd
noncomputable def tB(f:XB)(h:SBs):SB| .While t y [] _=>f t&&h y|_=>Jd
noncomputable def uk(f:XB):SB| .Raise (Ja x) Jb _=>f x|_=>Jd
noncomputable def rTry(f:SBs)(g:List J4->Bool):SB| .Try y h [] [] _=>f y&&g h|_=>Jd
def rHd(sc:Jk)(c x:String)(g:SBs):J4->Bool| .ExceptHandler (Ja t) (Ja y) (z::r) _=>glb sc c t&&(Vl.Internal.nm y x&&sc.names.lookup y==Ja .local)&&g (z::r)|_=>Jd
noncomputable def rH2(f g:J4->Bool):List J4->Bool|[h,k]=>f h&&g k|_=>Jd
def hOwn(sc:Jk)(x:String):XB:=λe=>xk e==1&&HN (EA sc) x e
noncomputable def qTupT(f:List Jl->Bool):XB| .Tuple e _ _=>f e|_=>Jd
def hTupT(f:List Jl->Bool):XB:=λe=>xk e==7&&qTupT f e
def Gf(f h:XB):SB:=λx=>sk x==0&&rAsg f h x
def kExpr(f:XB):SB:=λx=>sk x==1&&rExpr f x
def kRet(f:XB):SB:=λx=>sk x==2&&rRet f x
def kIf(f:XB)(g h:SBs):SB:=λx=>sk x==3&&rIf f g h x
def kFor(f g:XB)(h:SBs):SB:=λx=>sk x==4&&rFor f g h x
def tJ(f:XB)(h:SBs):SB:=λx=>sk x==5&&tB f h x
def vF(f:XB):SB:=λx=>sk x==6&&uk f x
def kTry(f:SBs)(g:List J4->Bool):SB:=λx=>sk x==7&&rTry f g x
mutual
noncomputable def mS(sc:Jk):S->Jo->Bool
 | .assign (.name x) e=>Gf (hOwn sc x) λv=>(kz v&&(!(xk v==11)||e.isC))&&mE sc e v
 | .assign (.tup xs) e=>Gf (hTupT (eZ sc xs)) λv=>(kz v&& !(xk v==7))&&mE sc e v
 | .setIdx o i e=>Gf (hSub (mE sc o) (mE sc i)) λv=>kz v&&mE sc e v
 | .expr e=>kExpr λv=>xk v==12&&mE sc e v
 | .ret e=>kRet<|mE sc e
 | .if_ t b o=>kIf (mE sc t) (Ha sc b)<|Ha sc o
 | .for_ tg k it b=>kFor (Fm sc tg) (mIt sc k tg it)<|Ha sc b
 | .while_ t b=>tJ (mE sc t)<|Ha sc b
 | .raise c args=>vF<|hBi1 sc c (GS sc args)
 | .try2 b c x h c2 h2=>kTry (Ha sc b)<|rH2 (rHd sc c x<|Ha sc h) (rHd sc c2 x<|Ha sc h2)
noncomputable def Ha(sc:Jk):List S->List Jo->Bool
 |[],[]=>Jc
 |a::as,x::xs=>mS sc a x&&Ha sc as xs
 |_,_=>Jd
end
section
open PySem.W PyProof.Rows
structure Fn where
 f:String
 ps:List String
 ls:List String
 b:List S
structure Fu where
 nm:String
 as:List String
 fs:List String
 es:List E
 ms:List Fn
structure DI where
 cs:List String
 mks:List String
 inis:List String
 flds:String->List String
 sub:String->String->Bool
 cl:List Fu
noncomputable def b9(K:Frag)(c:String):Option Jg:=match nsIn K JA (Qb c) with
 |some (Ja (.ref a))=>Ja a
 |_=>Jb
noncomputable def dS(K:Frag)(D:Jg):Bool:=
 ((findIn K (.ref D) "__getattribute__"==Ja (Ja<|.builtin "BaseException.__getattribute__"))&&(findIn K (.ref D) "__getattr__"==Ja Jb)&&(subIn K (.ref D) (.type "BaseException")==Ja Jc))&&hasDictIn K D&&(findIn K (.ref D) "__class__"==Ja (Ja<|.builtin "object.__class__"))&&(specialIn K (.builtin "object.__class__") "__get__"==Ja (Ja<|.builtin "getset_descriptor.__get__"))&&
 (takesIn K (.builtin "object.__class__")==Ja Jc)&&(mroIn K D (.type "object")==Ja Jc)&&(mroIn K D (.ref D)==Ja Jc)
def vy(K:Frag)(k:DI)(c:String):Bool:=match b9 K c with
 |some a=>dS K a&&(exmOne K (.ref a) (.type "ValueError")==Ja (k.sub c "ValueError"))&&((k.flds c).all λf=>findIn K (.ref a) (Qb f)==Ja Jb)&&k.cs.all λd=>match b9 K d with
  |some b=>exmOne K (.ref a) (.ref b)==Ja (k.sub c d)
  |none=>Jd
 |none=>Jd
def kG(K:Frag)(k:DI):Bool:=k.cs.all<|vy K k
noncomputable def zb(o:Jp):List Jg:=match o.data with
 | .cls cd=>[cd.ns]
 |_=>[]
def AO(h:Ji)(cs:List String):List Jg:=JA::cs.flatMap λc=>match h.nsMap JA (Qb c) with
 |some (.ref a)=>match h.get? a with
  |some o=>a::zb o
  |none=>[]
 |_=>[]
noncomputable def iC(h:Ji)(as:List Jg):Frag:=as.filterMap λa=>(h.get? a).map λo=>(a,o)
noncomputable def EW(sc:Jk):List String->List Jo->Bool
 |[],[]=>Jc
 |x::xs,y::ys=>Gf (Hb x<|EC (Ds sc) "self") (EC (Ds sc) x) y&&EW sc xs ys
 |_,_=>Jd
noncomputable def nJ(ps:List String):Arguments->Bool
 |⟨[],as,Jb,[],_,Jb,_⟩=>as.map (·.arg)==ps.map Qb
 |_=>Jd
noncomputable def FA:Option Jf->Option Jg
 |some (.ref a)=>Ja a
 |_=>Jb
noncomputable def GK:Data->Option ClassData
 | .cls cd=>Ja cd
 |_=>Jb
noncomputable def mY(h:Ji):List Jf->Bool
 |[]=>Jd
 |v::tl=>(v::tl==H2)||(FA (Ja v)).any λA=>(h.get? A).any λo=>(GK o.data).any λcd=>h.isNs cd.ns&&(h.nsMap cd.ns "__init__").isNone&&mY h tl
def fnIni(h:Ji)(fd:Jr)(names:List String)(body:List Jo):Bool:=
 (h.codeRecOk fd.code fd.qualname&&fd.closure.isEmpty&&(fd.defaults== .none))&&(nJ ("self"::names) fd.params&&(("self"::names).all λx=>fd.scope.names.lookup (Qb x)==Ja .local&& !(Qb x==("__debug__":Jq)))&&decide ("self"::names).Nodup)&&
  (!fd.scope.isCoroutine&& !fd.scope.isGenerator&&(fd.scope.kind== .function))&&EW fd.scope names body
noncomputable def qf:FuncBody->Option (List Jo)
 | .stmts b=>Ja b
 |_=>Jb
noncomputable def qw:Data->Option Jr
 | .func fd=>Ja fd
 |_=>Jb
def fnObj(h:Ji)(names:List String)(o:Jp):Bool:=(o.cls== .type "function")&&((qw o.data).any λfd=>(qf fd.body).any λbody=>fnIni h fd names body)
noncomputable def rZ(l:List (Option Jf)):Bool:=l==[l[0]?.getD Jb,l[1]?.getD Jb,l[2]?.getD Jb,l[3]?.getD Jb,Ja<|.builtin "ValueError.__new__",l[5]?.getD Jb]
def mroOK(h:Ji)(k:Jg):List Jf->Bool
 |v::bm=>(v== .ref k)&&mY h bm
 |[]=>Jd
def zQ(h:Ji)(k:Jg)(names:List String)(o:Jp)(cd:ClassData):Bool:=
 ((o.cls== .type "type")&&rZ o.slots.toList&&mroOK h k cd.mro)&&(cd.hasDict&& !cd.hasDel&&h.isNs cd.ns)&&((FA<|h.nsMap cd.ns "__init__").any λfI=>(h.get? fI).any (fnObj h names))
def iniOK(h:Ji)(K:Frag)(k:Jg)(names:List String):Bool:=
 ((h.get? k).any λo=>(GK o.data).any (zQ h k names o))&&(findIn K (.ref k) "__setattr__"==Ja (Ja<|.builtin "object.__setattr__"))&& !names.isEmpty&&decide (names.length<=50)
def zc(h:Ji)(K:Frag)(k:DI):Bool:=k.inis.all λc=>k.cs.contains c&&((b9 K c).any λa=>iniOK h K a (k.flds c))
def mAsg(sc:Jk)(f:String)(e:E):Jo->Bool:=Gf (Hb f (EC (Ds sc) "self")) λv=>kz v&&mE sc e v
def fnB(h:Ji)(ps:List String)(fd:Jr):Bool:=
 (h.codeRecOk fd.code fd.qualname&&fd.closure.isEmpty&&(fd.defaults== .none))&&(fd.globals==JA&&(fd.builtins==builtinsNs)&&nJ ps fd.params)&&
  ((ps.all λp=>fd.scope.names.lookup (Qb p)==Ja .local||fd.scope.names.lookup (Qb p)==Ja .cell)&&decide ps.Nodup&&(fd.scope.names.all λp=>p.2 != .free))&&(!fd.scope.isCoroutine&& !fd.scope.isGenerator&&(fd.scope.kind== .function))
def pZ(h:Ji)(ps:List String)(mt:Jk->List Jo->Bool)(a:Jg):Bool:=(h.get? a).any λo=>(o.cls== .type "function")&&((qw o.data).any λfd=>(qf fd.body).any λb=>fnB h ps fd&&mt fd.scope b)
noncomputable def GA(sc:Jk):List String->List E->List Jo->Bool
 |[],[],[]=>Jc
 |f::fs,e::es,y::ys=>mAsg sc f e y&&GA sc fs es ys
 |_,_,_=>Jd
def initM(c:Fu)(sc:Jk)(b:List Jo):Bool:=GA sc c.fs c.es b
noncomputable def tC(l:List (Option Jf)):Bool:=l==[l[0]?.getD Jb,l[1]?.getD Jb,l[2]?.getD Jb,l[3]?.getD Jb,Ja<|.builtin "object.__new__",l[5]?.getD Jb]
def Aq(h:Ji)(c:Fu)(a:Jg)(o:Jp)(cd:ClassData):Bool:=
 ((o.cls== .type "type")&&tC o.slots.toList&&(cd.mro==[.ref a,.type "object"]))&&(cd.hasDict&& !cd.hasDel&& !cd.abstract)&&(h.isNs cd.ns&&(h.nsMap cd.ns "__setattr__").isNone&&(c.fs.all λf=>(h.nsMap cd.ns<|Qb f).isNone&&(fastLookup "object" (Qb f)==Ja Jb)))&&
  ((FA<|h.nsMap cd.ns "__init__").any (pZ h ("self"::c.as)<|initM c))
def methB(h:Ji)(K:Frag)(c:Fu)(a:Jg)(t:Fn):Bool:=(!bQ t.f&&(cOf t.f==c.nm))&& !(c.fs.contains (GO t.f))&&((FA ((findIn K (.ref a) (Qb (GO t.f))).getD Jb)).any λm=>(typeIn K (.ref m)==Ja (.type "function"))&&pZ h t.ps (λsc b=>Ha sc t.b b) m)
def clsB(h:Ji)(K:Frag)(c:Fu)(a:Jg):Bool:=
 ((h.get? a).any λo=>(GK o.data).any (Aq h c a o))&&((findIn K (.ref a) "__getattribute__"==Ja (Ja<|.builtin "object.__getattribute__"))&&(findIn K (.ref a) "__getattr__"==Ja Jb)&&hasDictIn K a&&(c.fs.all λf=>findIn K (.ref a) (Qb f)==Ja Jb))&&
  c.ms.all (methB h K c a)&&(decide c.fs.Nodup&&bQ c.nm&&decide (c.fs.length<=50))
def wr(h:Ji)(c:Fu):List Jg:=((FA (h.nsMap JA (Qb c.nm))).bind λa=>(h.get? a).bind λo=>(GK o.data).map λcd=>c.ms.filterMap λt=>FA (h.nsMap cd.ns (Qb (GO t.f)))).getD []
def HU(h:Ji)(k:DI):Frag:=iC h (AO h (k.cs++k.cl.map (·.nm))++k.cl.flatMap (wr h))
def clsK(h:Ji)(K:Frag)(k:DI):Bool:=k.cl.all λc=>(b9 K c.nm).any (clsB h K c)
noncomputable def dw:Fn:=⟨"Bounds.greatest",["self","place","enough"],["counts","goal","came","raised","lowered","start","amount"],
 [.assign (.name "counts") (.bi (.dict ()) [.attr "self" "counts"]),
  .assign (.name "goal") (.tup [.glob "ROW",.sub (.loc "place") (.int 0)]),
  .while_ (.bool Jc) [.assign (.name "came") (.call "reached" [.attr "self" "near",.loc "counts",.list [.tup [.glob "COLUMN",.sub (.loc "place") (.int 1)]],.loc "place"]),.if_ (.or_ (.cmp .nin (.loc "goal") (.loc "came")) (.and_ (.notNone (.loc "enough")) (.cmp .ge (.sub (.loc "counts") (.loc "place")) (.loc "enough")))) [.ret (.tup [.loc "counts",.loc "came"])] [],.assign (.tup ["raised","lowered","start"]) (.call "way_to" [.loc "came",.loc "goal"]),.assign (.name "amount") (.bi .min [.comp (.sub (.loc "counts") (.loc "other")) (.name "other") .val [.loc "lowered"]]),.expr (.call "move" [.loc "counts",.bin .add (.loc "raised") (.list [.loc "place"]),.loc "lowered",.loc "amount"])]]⟩
noncomputable def eJ:Fn:=⟨"Bounds.least",["self","place","enough"],["counts","goal","came","raised","lowered","start","amount"],
 [.assign (.name "counts") (.bi (.dict ()) [.attr "self" "counts"]),
  .assign (.name "goal") (.tup [.glob "COLUMN",.sub (.loc "place") (.int 1)]),
  .while_ (.bool Jc) [.assign (.name "came") (.call "reached" [.attr "self" "near",.loc "counts",.list [.tup [.glob "ROW",.sub (.loc "place") (.int 0)]],.loc "place"]),.if_ (.or_ (.cmp .nin (.loc "goal") (.loc "came")) (.or_ (.cmp .eq (.sub (.loc "counts") (.loc "place")) (.int 0)) (.and_ (.notNone (.loc "enough")) (.cmp .le (.sub (.loc "counts") (.loc "place")) (.loc "enough"))))) [.ret (.tup [.loc "counts",.loc "came"])] [],.assign (.tup ["raised","lowered","start"]) (.call "way_to" [.loc "came",.loc "goal"]),.assign (.name "amount") (.bi .min [.comp (.sub (.loc "counts") (.loc "other")) (.name "other") .val [.bin .add (.loc "lowered") (.list [.loc "place"])]]),.expr (.call "move" [.loc "counts",.loc "raised",.bin .add (.loc "lowered") (.list [.loc "place"]),.loc "amount"])]]⟩
noncomputable def cH:Fn:=⟨"Bounds.is_given_away",["self","place","width"],["here","high"],
 [.assign (.name "here") (.sub (.attr "self" "counts") (.loc "place")),
  .assign (.name "high") (.sub (.sub (.mcall "Bounds" "Bounds.greatest" (.loc "self") [.loc "place",.bin .add (.loc "here") (.loc "width")])<|.int 0)<|.loc "place"),
  .if_ (.cmp .ge (.bin .sub (.loc "high")<|.loc "here")<|.loc "width") [.ret (.bool Jd)] [],
  .ret (.cmp .lt (.bin .sub (.loc "high") (.sub (.sub (.mcall "Bounds" "Bounds.least" (.loc "self") [.loc "place",.bin .sub (.loc "high") (.loc "width")]) (.int 0)) (.loc "place"))) (.loc "width"))]⟩
noncomputable def C7:Fn:=⟨"Bounds.walls",["self","place","many_rows","many_columns"],["counts","came","low","rows","columns"],
 [.assign (.tup ["counts","came"]) (.mcall "Bounds" "Bounds.least" (.loc "self") [.loc "place",.none]),
  .assign (.name "low") (.tup [.int 0,.list [],.list []]),
  .if_ (.cmp (.gt ()) (.sub (.loc "counts")<|.loc "place")<|.int 0) [.assign (.name "low") (.tup [.sub (.loc "counts") (.loc "place"),.call "numbers_of" [.loc "came",.glob "ROW"],.call "numbers_of" [.loc "came",.glob "COLUMN"]])] [],
  .assign (.tup ["counts","came"]) (.mcall "Bounds" "Bounds.greatest" (.loc "self") [.loc "place",.none]),
  .assign (.name "rows") (.compIf (.loc "row") (.name "row") .range [.loc "many_rows"] (.cmp .nin (.tup [.glob "ROW",.loc "row"])<|.loc "came")),
  .assign (.name "columns") (.compIf (.loc "column") (.name "column") .range [.loc "many_columns"] (.cmp .nin (.tup [.glob "COLUMN",.loc "column"])<|.loc "came")),
  .ret (.tup [.loc "low",.tup [.sub (.loc "counts") (.loc "place"),.loc "rows",.loc "columns"]])]⟩
noncomputable def fm:Fn:=⟨"Hider.small",["self","place"],[],
 [.ret (.call "is_small" [.attr "self" "table",.loc "place",.attr "self" "bound"])]⟩
noncomputable def dz:Fn:=⟨"Hider.bounds_of",["self","places"],["counts","row","column"],
 [.assign (.name "counts") (.dict0),
  .for_ (.tup ["row","column"]) .val [.loc "places"] [.setIdx (.loc "counts") (.tup [.loc "row",.loc "column"]) (.sub (.sub (.attr "self" "table")<|.loc "row")<|.loc "column")],
  .ret (.call "Bounds" [.loc "counts"])]⟩
noncomputable def eP:Fn:=⟨"Hider.peeled",["self","places"],["road","bounds","gone","place","low","high"],
 [.assign (.name "road") (.list []),
  .while_ (.bool Jc) [.assign (.name "bounds") (.mcall "Hider" "Hider.bounds_of" (.loc "self") [.loc "places"]),.assign (.name "gone") (.none),.for_ (.name "place") .val [.loc "places"] [.if_ (.and_ (.isNone (.loc "gone")) (.mcall "Bounds" "Bounds.is_given_away" (.loc "bounds") [.loc "place",.attr "self" "width"])) [.assign (.name "gone") (.loc "place")] []],.if_ (.isNone (.loc "gone")) [.ret (.tup [.loc "places",.loc "road"])] [],.assign (.tup ["low","high"]) (.mcall "Bounds" "Bounds.walls" (.loc "bounds") [.loc "gone",.bi .len [.attr "self" "table"],.bi .len [.sub (.attr "self" "table") (.int 0)]]),.expr (.meth (.loc "road") .append [.tup [.loc "gone",.loc "low",.loc "high"]]),.if_ (.mcall "Hider" "Hider.small" (.loc "self") [.loc "gone"]) [.ret (.tup [.none,.loc "road"])] [],.assign (.name "places") (.compIf (.loc "place") (.name "place") .val [.loc "places"] (.cmp .ne (.loc "place") (.loc "gone")))]]⟩
noncomputable def ej:Fn:=⟨"Hider.without",["self","places","place"],[],
 [.ret (.mcall "Hider" "Hider.peeled" (.loc "self") [.compIf (.loc "other") (.name "other") .val [.loc "places"] (.cmp .ne (.loc "other") (.loc "place"))])]⟩
noncomputable def eF:Fn:=⟨"Hider.fewest",["self","places"],["place","fewer"],
 [.for_ (.name "place") .val [.bi .list [.loc "places"]] [.if_ (.and_ (.cmp .in_ (.loc "place") (.loc "places")) (.not_ (.mcall "Hider" "Hider.small" (.loc "self") [.loc "place"]))) [.assign (.name "fewer") (.sub (.mcall "Hider" "Hider.without" (.loc "self") [.loc "places",.loc "place"]) (.int 0)),.if_ (.notNone (.loc "fewer")) [.assign (.name "places") (.loc "fewer")] []] []],
  .ret (.loc "places")]⟩
def Ep:Fu:=⟨"Bounds",["counts"],["counts","near"],[.loc "counts",.call "near_of" [.bi .list [.loc "counts"]]],[dw,eJ,cH,C7]⟩
def Gi:Fu:=⟨"Hider",["table","bound","width"],["table","bound","width"],[.loc "table",.loc "bound",.loc "width"],[fm,dz,eP,ej,eF]⟩
def kinds7:DI:=⟨["VeilError","BadTable","BadView","BadPlace","BadNumber","NoTable","NotHidden"],["BadTable","BadView","BadPlace","BadNumber"],["NoTable","NotHidden"],λc=>cond (c=="NoTable") ["rows","columns"] (cond (c=="NotHidden") ["road"] (cond (c=="Bounds") ["counts","near"] (cond (c=="Hider") ["table","bound","width"] []))),λc d=>c==d||d=="VeilError"||d=="ValueError",[Ep,Gi]⟩
noncomputable def kK(tb:String->Option Builtin)(p:Jn)(w:Jm)(n₀:Nat)(ann:Option Jf):Nat->SharedT->Thread->Option SharedT
 |0,_,_=>Jb
 |n+1,s,t=>cond (through t) (Ja s) (cond (stepOk n₀ ann t) ((stepT (denote tb) p w s t).bind λq=>kK tb p w n₀ ann n q.1 q.2) Jb)
noncomputable def nR:List Jp->BT->Nat->Option BT
 |[],t,_=>Ja t
 |o::os,t,n=>cond ((t.ins n o).get n).isSome (nR os (t.ins n o)<|n+1) Jb
def toT(s:Je):Option SharedT:=(nR s.heap.objs.toList .nil 0).map λt=>⟨t,s.heap.objs.size,s.heap.life,s.gens,s.drawn,s.toks,s.os⟩
def jv(tb:String->Option Builtin)(p:Jn)(w:Jm)(N:Nat)(s₀:Je):Option Je:=
 match s₀.heap.isNs JA&&s₀.gens.size==0 with
 |true=>((toT s₀).bind λsT=>kK tb p w s₀.heap.objs.size (s₀.heap.nsMap JA "__annotations__") N sT (topStub p)).bind λs₁=>match staticsOk (importedModules p.main.body) s₀.heap s₁.abs.heap&&namesBound p s₁.abs.heap&&gensDone s₁.abs&&laidKept s₀.heap s₁.abs.heap with
   |true=>Ja s₁.abs
   |false=>Jb
 |false=>Jb
noncomputable def wS:Jo->Bool
 | .Assign [.Name n _] _ _=> !(n==Qb "__name__")
 |_=>Jc
def view7:Jn:={PySem.Challenge.rw_uf010011_13.prog with main:={PySem.Challenge.rw_uf010011_13.prog.main with body:=PySem.Challenge.rw_uf010011_13.prog.main.body.filter wS}}
def obsE(k:DI)(s:Je):Bool:=kG (HU s.heap k) k&&zc s.heap (HU s.heap k) k&&clsK s.heap (HU s.heap k) k
noncomputable def sn8(s:Je):=openSeen view7 [] (importedModules PySem.Challenge.rw_uf010011_13.row.prog.main.body) (λs=>recOk (RowW.records (OpenRow.toRowW (OpenLaw.row PySem.Challenge.rw_uf010011_13))) s) Jc s
noncomputable def op8(w:Jm):Option Je:=(fencedOpening Y6 PySem.Challenge.rw_uf010011_13.row.prog w 20000).bind (jv Y6 PySem.Challenge.rw_uf010011_13.row.prog w 20000)
theorem hA8(w:Jm):Wa (λs=>((sn8 s).1,obsE kinds7 s)) (op8 w)=Ja ((openGood view7 []).1,Jc):=by kernel_rfl
theorem hB8(w:Jm):Wa (λs=>(sn8 s).2) (op8 w)=Ja (openGood view7 []).2:=by kernel_rfl
theorem hl8(w:Jm):Wa (λs=>(openSeen view7 [] (importedModules PySem.Challenge.rw_uf010011_13.row.prog.main.body) (λs=>recOk (RowW.records (OpenRow.toRowW (OpenLaw.row PySem.Challenge.rw_uf010011_13))) s) Jc s,obsE kinds7 s)) ((fencedOpening Y6 PySem.Challenge.rw_uf010011_13.row.prog w 20000).bind (jv Y6 PySem.Challenge.rw_uf010011_13.row.prog w 20000))=Ja (openGood view7 [],Jc):=by
 show Wa (λs=>(sn8 s,obsE kinds7 s)) (op8 w)=_
 have h1:=hA8 w
 have h2:=hB8 w
 generalize op8 w=x at h1 h2 ⊢
 rcases x with _|s
 . cases h1
 . have e1:=Option.some.inj h1
   have e2:=Option.some.inj h2
   exact congrArg some (Prod.ext (Prod.ext (congrArg (·.1) e1) e2) (congrArg (·.2) e1))
end
noncomputable abbrev Mo(C:Cx):Model:=Jt C.prog C.w
def Kp(C:Cx)(v:Jf):Prop:=∃k,(k=Keeper.frame\/k=Keeper.machine\/k=Keeper.boundFrame)/\W.Looks (Mo C) C.B (keeperOf v) k
noncomputable def Ef:List String:=["len","all","any","sum","abs","int","list","tuple","dict","isinstance","range","bool","min","sorted","enumerate","max"]
structure D4(C:Cx)(G:Gx)(mg mb:Jq->Option Jf):Prop where
 g:C.B.Ns JA mg
 b:C.B.Ns builtinsNs mb
 nolimit:C.B.NoLimit
 blt:∀x∈Ef,
  mg (Qb x)=Jb/\mb (Qb x)=Y0 (Qb x)
 glob:∀x p,G.glob x=Ja p->∃v,mg (Qb x)=Ja v/\∀Z h,VR C Z h p v
 full:G.full=Jc->C.ok
 calm:G.calm=Jc->C.calm
 fv:∀f v,bQ f=Jc->C.fv f=Ja v->mg (Qb f)=Ja v
 fn:∀f,G.fn f=Jc->∃v,C.fv f=Ja v/\Kp C v
def aN(C:Cx)(n:Nat):Cl:=λf args Z Q X=>
 ∃v,C.fv f=Ja v/\Kp C v/\∀ (A:Jj) (l:List Js) (s:Je) (w:List Jf),Dy C n A l Z s.heap->CP C Z s.heap->CZ C Z s.heap args w->
  Jh (Mo C) A (call v w) (VP C CC Z s Q) (XP C CC Z s X) s
section
variable{C:Cx}{A:Jj}{Er:Jf->Je->Prop}{Z:PH}{s:Je}
theorem VP.to{S:Jg->Prop}{R:Jf->Je->Prop}{E:Jf->Je->Prop}(h:Jh (Mo C) A t (VP C S Z s Q) E s)
  (k:∀v W p Z1,VR C Z1 W.heap p v->CP C Z1 W.heap->CF S Z s.heap Z1 W.heap->CS s W->Q p Z1->R v W)(m:∀e W,E e W->Er e W):Jh (Mo C) A t R Er s:=
 YI h (λv W z=>by obtain⟨p,Z1,a,b,c,d,e⟩:=z;exact k v W p Z1 a b c d e) m
theorem VP.here{S:Jg->Prop}{s':Je}(m:CP C Z s.heap)(h:s'.heap=s.heap)(r:CS s s')(hv:VR C Z s.heap p v)(q:Q p Z):VP C S Z s Q v s':=
 ⟨p,Z,by rw[h];exact hv,by rw[h];exact m,by rw[h];exact .refl _ _ _,r,q⟩
end
section
variable{C:Cx}{G:Gx}{mg mb:Jq->Option Jf}{A:Jj}{Er:Jf->Je->Prop}{env:Js}{ρ:CH}{Z:PH}{s:Je}
theorem mw{sc:Jk}(h:Ds sc y=Jc):sc.names.lookup y=Ja .local\/sc.names.lookup y=Ja .cell\/sc.names.lookup y=Ja .free:=by
 simp only[Ds,WZ,beq_iff_eq] at h
 rcases h with(h|h)|h
 .exact .inl h
 .exact .inr<|.inl h
 .exact .inr<|.inr h
theorem kU{Q:Jf->Je->Prop}(e:CU C env ρ Z s.heap)(l:Ds env.scope (Qb x)=Jc)(d:bz (Qb x)=Jc)(hx:ρ.get x=Ja p)
  (h:∀v,VR C Z s.heap p v->Q v s):Jh (Mo C) A (Jw (.Name (Qb x) pos) env) Q Er s:=by
 simp only[bz,QL,QT] at d;refine J6 ?_ d.1
 rcases mw l with k|k|k
 .obtain⟨m,n,hv⟩:=e.ns;obtain⟨v,T,w⟩:=hv x p hx k;exact YU e.fn k n T<|h v w
 .obtain⟨c,v,T,w,X⟩:=e.cell x p hx<|.inl k;exact wpAny_loadName_cell e.fn k T w<|h v X
 .obtain⟨c,v,T,w,X⟩:=e.cell x p hx<|.inr k;exact wpAny_loadName_free e.fn k T w (h v X) d.2
theorem gG{env:Js}(h:env.scope.kind= .function)(hx:env.kindOf x=Ja .globalImplicit):loadName env x=loadGlobal env x:=by
 unfold loadName;dsimp only[Env.blockKind];rw[h,hx];rfl
theorem iQ{sc:Jk}(h:glb sc x e=Jc):∃pos,e= .Name (Qb x) pos/\sc.names.lookup (Qb x)=Ja .globalImplicit/\bz (Qb x)=Jc:=by
 induction e using Expr.casesOn with
 |Name y p=>
  obtain⟨h1,h3⟩:=Qi.mp (show(Vl.Internal.nm y x&&mP sc y&&bz y)=Jc from h);obtain⟨h1,h2⟩:=Qi.mp h1;have h1:y=Qb x:=Uh h1;subst h1;exact⟨_,rfl,Uh h2,h3⟩
 |_=>exact D6 h
theorem gT{Q:Jf->Je->Prop}(g:D4 C G mg mb)(e:CU C env ρ Z s.heap)(m:CP C Z s.heap)
  (l:env.scope.names.lookup (Qb x)=Ja .globalImplicit)(d:bz (Qb x)=Jc)(hx:mg (Qb x)=Ja v)(h:Q v s):
  Jh (Mo C) A (Jw (.Name (Qb x) pos) env) Q Er s:=by
 simp only[bz,QL,QT] at d;refine J6 ?_ d.1;rw[gG e.fn l];refine Calls.loadGlobal_global ?_ hx h;rw[e.glob];exact g.g.keeps m.base
theorem gQ{Q:Jf->Je->Prop}(g:D4 C G mg mb)(e:CU C env ρ Z s.heap)(m:CP C Z s.heap)
  (l:env.scope.names.lookup (Qb x)=Ja .globalImplicit)(d:bz (Qb x)=Jc)
  (L:x∈Ef)
  (hx:Y0 (Qb x)=Ja v)(h:Q v s):
  Jh (Mo C) A (Jw (.Name (Qb x) pos) env) Q Er s:=by
 simp only[bz,QL,QT] at d;refine J6 ?_ d.1;rw[gG e.fn l];obtain⟨T,w⟩:=g.blt x L;refine Calls.loadGlobal_builtin (v:=v) ?_ T ?_ (w.trans hx) h
 .rw[e.glob];exact g.g.keeps m.base
 .rw[e.blt];exact g.b.keeps m.base
end
section
variable{C:Cx}{Z:PH}{h h':Ji}
theorem CP.lt(m:CP C Z h)(e:Z a=Ja o):a<h.objs.size:=by obtain⟨o0,d,o0⟩:=m.objs a o e;exact QO d
theorem CP.fresh(m:CP C Z h)(e:h.objs.size<=a):Z a=Jb:=by
 induction q:Z a with
 |none=>rfl
 |some o=>exact absurd (m.lt q)<|QW.mpr e
theorem CP.freshB(m:CP C Z h)(e:h.objs.size<=a):C.B.get? a=Jb:=by
 induction q:C.B.get? a with
 |none=>rfl
 |some o=>exact absurd (QO<|m.base a o q)<|QW.mpr e
theorem CF.more{S:Jg->Prop}(k:∀b o,h.get? b=Ja o->h'.get? b=Ja o):CF S Z h Z h':=
 ⟨λb o e s=>⟨s,o,k b o e,λo0=> .refl o⟩,λb o e=>⟨o,e⟩,λo0 o0 e o0=>e,λb e=>by
  induction q:h.get? b with
  |none=>rfl
  |some o=>exact sn ((k b o q).symm.trans e)⟩
theorem CF.push(S:Jg->Prop)(Z:PH)(h:Ji)(W:Jp):CF S Z h Z (h.push W):= .more (λb o e=>Qs W e)
theorem CF.old{S:Jg->Prop}{h₀:Ji}(st:CF S B h₀ Z h)(m:CP C Z h)(e:h.get? a=Jb):h₀.get? a=Jb:=by
 induction q:h₀.get? a with
 |none=>rfl
 |some o=>
  induction w:B a with
  |none=>obtain⟨o0,i,g,o0⟩:=st.keep a o q w;exact ns<|e.symm.trans g
  |some p=>obtain⟨Y,g⟩:=st.grow a p w;obtain⟨b,d,_⟩:=m.objs a Y g;exact ns<|e.symm.trans d
theorem CP.step{S:Jg->Prop}(m:CP C Z h)(st:CF S Z h Z h')(k:∀a o,Z a=Ja o->h'.get? a=h.get? a)(P:∀b o,C.B.get? b=Ja o->h'.get? b=Ja o):CP C Z h' where
 base:=P
 new:=m.new
 objs:=λa o e=>by obtain⟨W,N,p⟩:=m.objs a o e;exact⟨W,(k a o e).trans N,p.step st⟩
 rich:=m.rich
theorem CP.more(m:CP C Z h)(k:∀b o,h.get? b=Ja o->h'.get? b=Ja o):CP C Z h':=
 m.step (S:=CC) (.more k) (λa o e=>by obtain⟨W,N,o0⟩:=m.objs a o e;exact(k _ _ N).trans N.symm) λb o e=>k b o<|m.base b o e
theorem CP.push(m:CP C Z h)(W:Jp):CP C Z (h.push W):=m.more (λb o e=>Qs W e)
theorem CP.add{S:Jg->Prop}(m:CP C Z h){o:PO}(st:CF S Z h (Z.set a o) h')(k:∀x o',Z x=Ja o'->h'.get? x=h.get? x)(M:∀b o,C.B.get? b=Ja o->h'.get? b=Ja o)
  (e:h'.get? a=Ja W)(b:C.B.get? a=Jb)(r:OR C (Z.set a o) h' o W)(n:o.needs C.ok a):CP C (Z.set a o) h' where
 rich:=λx o' g=>by
  by_cases q:x=a
  .subst q;rw[PH.set_same] at g;obtain rfl:=sj g;exact n
  .rw[PH.set_ne _ _ q] at g;exact m.rich x o' g
 base:=M
 new:=λx o' g=>by
  by_cases q:x=a
  .subst q;exact b
  .rw[PH.set_ne _ _ q] at g;exact m.new x o' g
 objs:=λx o' g=>by
  by_cases q:x=a
  .subst q;rw[PH.set_same] at g;obtain rfl:=sj g;exact⟨W,e,r⟩
  .rw[PH.set_ne _ _ q] at g;obtain⟨P,N,p⟩:=m.objs x o' g;exact⟨P,(k x o' g).trans N,p.step st⟩
theorem CF.add{S:Jg->Prop}{h₀:Ji}(st:CF S B h₀ Z h)(o:PO)(f:h₀.get? a=Jb)(M:B a=Jb):CF S B h₀ (Z.set a o) h where
 keep:=λb W e s=>by
  obtain⟨x,i,y,z⟩:=st.keep b W e s;refine⟨?_,i,y,z⟩;rw[PH.set_ne]
  .exact x
  .rintro rfl;exact ns<|f.symm.trans e
 grow:=λb W e=>by
  obtain⟨i,g⟩:=st.grow b W e;by_cases q:b=a
  .subst q;exact⟨o,PH.set_same _ _ _⟩
  .exact⟨i,by rw[PH.set_ne _ _ q];exact g⟩
 fix:=λb o e q=>by
  rw[PH.set_ne]
  .exact st.fix b o e q
  .rintro rfl;exact ns<|M.symm.trans e
 live:=st.live
theorem CP.upd{S:Jg->Prop}(m:CP C Z h){o o':PO}(T:Z a=Ja o)(U:o.fixed=Jd)(f:KM a h h')(e:h'.get? a=Ja l)(r:OR C Z h o' l)(n:o'.needs C.ok a:=by trivial):
  CP C (Z.set a o') h'/\CF S Z h (Z.set a o') h':=by
 have t:CF S Z h (Z.set a o') h':=⟨λb W q s=>by
   have R:b≠a:=by rintro rfl;exact sn<|T.symm.trans s
   exact⟨by rw[PH.set_ne _ _ R];exact s,W,(f.2 b R).trans q,λo0=> .refl W⟩,
  λb W q=>by
   by_cases R:b=a
   .subst R;exact⟨o',PH.set_same _ _ _⟩
   .exact⟨W,by rw[PH.set_ne _ _ R];exact q⟩,
  λb W q w=>by
   have R:b≠a:=by rintro rfl;obtain rfl:=sj<|T.symm.trans q;exact ft<|U.symm.trans w
   rw[PH.set_ne _ _ R];exact q,
  λb q=>by
   by_cases R:b=a
   .subst R;exact sn<|e.symm.trans q
   .rw[<-f.2 b R];exact q⟩
 refine⟨⟨λb W q=> ?_,λx W q=> ?_,λx W q=> ?_,λx W q=> ?_⟩,t⟩
 .have R:b≠a:=by rintro rfl;have:=m.new _ _ T;exact sn (q.symm.trans this)
  exact(f.2 b R).trans (m.base b W q)
 .by_cases hx:x=a
  .subst hx;exact m.new _ _ T
  .rw[PH.set_ne _ _ hx] at q;exact m.new x W q
 .by_cases hx:x=a
  .subst hx;rw[PH.set_same] at q;obtain rfl:=sj q;exact⟨l,e,r.step t⟩
  .rw[PH.set_ne _ _ hx] at q;obtain⟨P,N,p⟩:=m.objs x W q;exact⟨P,(f.2 x hx).trans N,p.step t⟩
 .by_cases hx:x=a
  .subst hx;rw[PH.set_same] at q;obtain rfl:=sj q;exact n
  .rw[PH.set_ne _ _ hx] at q;exact m.rich x W q
end
section
variable{C:Cx}{A:Jj}{Er:Jf->Je->Prop}{Z:PH}{s:Je}
theorem VP.alloc{S:Jg->Prop}{o:PO}{W:Jp}{s':Je}(m:CP C Z s.heap)(U:s'.heap=s.heap.push W)(r:CS s s')(f:W.isFreed=Jd)(n:OR C Z s.heap o W)(q:Ex o Z Q)(d:o.needs C.ok s.heap.objs.size:=by trivial):
  VP C S Z s Q (.ref s.heap.objs.size) s':=by
 have t:CF S Z s.heap (Z.set s.heap.objs.size o) (s.heap.push W):=(CF.push S Z s.heap W).add o (by
  induction e:s.heap.get? s.heap.objs.size with
  |none=>rfl
  |some x=>exact absurd (QO e) (KJ _)) (m.fresh (Qz _))
 refine⟨.ref s.heap.objs.size,Z.set s.heap.objs.size o,rfl,?_,?_,r,q _<|m.fresh (Qz _)⟩
 .rw[U];exact m.add t (λx i e=>by obtain⟨P,N,o0⟩:=m.objs x i e;exact(Qs _ N).trans N.symm) (λb o e=>Qs _<|m.base b o e) (QK _ f) (m.freshB<|Qz _) (n.step t) d
 .rw[U];exact t
theorem VP.allocTup{S:Jg->Prop}{vs:Array Jf}{s':Je}(m:CP C Z s.heap)(U:s'.heap=s.heap.push (Eu vs n))(r:CS s s')(T:CZ C Z s.heap l vs.toList)(q:Q (.tup l) Z):
  VP C S Z s Q (.ref s.heap.objs.size) s':=by
 have N:=m.push<|Eu vs n;have t:=CF.push S Z s.heap<|Eu vs n;refine⟨.tup l,Z,?_,by rw[U];exact N,by rw[U];exact t,r,q⟩;rw[U];exact⟨_,n,vs,rfl,m.fresh<|Qz _,QK _ rfl,T.step t⟩
theorem CZ.append:∀ {l m:List PV} {vs ws:List Jf},CZ C Z h l vs->CZ C Z h m ws->CZ C Z h (l++m) (vs++ws)
 |[],m,vs,ws,a,b=>by change _=_ at a;subst a;exact b
 |p::l,m,vs,ws,a,b=>by
  obtain⟨v,r,rfl,N,Y⟩:=a;exact⟨v,r++ws,rfl,N,CZ.append Y b⟩
theorem CZ.length:∀ {l:List PV} {vs:List Jf},CZ C Z h l vs->vs.length=l.length
 |[]=>λa=>by change _=_ at a;subst a;rfl
 |p::l=>λa=>by
  obtain⟨v,r,rfl,N,Y⟩:=a;simp[CZ.length Y]
theorem CZ.get:∀ {l:List PV} {vs:List Jf},CZ C Z h l vs->∀ (i:Nat) (p:PV),l[i]? =Ja p->∃v,vs[i]? =Ja v/\VR C Z h p v
 |[]=>λa i p e=>by simp at e
 |q::l=>λa i p e=>by
  obtain⟨v,r,rfl,N,Y⟩:=a
  induction i using Nat.casesOn with
  |zero=>simp at e;subst e;exact⟨v,rfl,N⟩
  |succ j=>simp at e;simpa using CZ.get Y j p e
theorem CZ.of_get:∀ {l:List PV} {vs:List Jf},vs.length=l.length->(∀ (i:Nat) (p:PV) (v:Jf),l[i]? =Ja p->vs[i]? =Ja v->VR C Z h p v)->CZ C Z h l vs
 |[],vs=>λa e=>Yh.mp a
 |q::l,[]=>λa e=>by simp at a
 |q::l,v::r=>λa e=>by
  refine⟨v,r,rfl,e 0 q v rfl rfl,CZ.of_get (by simpa using a) λi p w N Y=>e (i+1) p w (by simpa using N)<|by simpa using Y⟩
theorem CZ.set{l:List PV}{vs:List Jf}(x:CZ C Z h l vs)(i:Nat)(r:VR C Z h p v):CZ C Z h (l.set i p) (vs.set i v):=by
 have H:=x.length;refine CZ.of_get (by simp[H]) λj q w N Y=> ?_;rw[KU] at N Y;by_cases D:i=j
 .subst D;rw[Ug rfl] at N Y
  split at N<;>split at Y<;>simp_all
 .rw[Uf D] at N Y;obtain⟨m,T,e⟩:=x.get j q N;obtain rfl:=sj<|Y.symm.trans T;exact e
end
section
variable{C:Cx}{A:Jj}{Er:Jf->Je->Prop}{Z:PH}{s:Je}{Q:C9}{n:Nat}{fr:List Js}
theorem dB(t:Tok):VR C Z h (.int i) (.int i t):=⟨t,rfl⟩
theorem gA:VR C Z h (.bool b) (.bool b):=rfl
theorem kQ:VR C Z h .none .none:=rfl
inductive LstAt(C:Cx)(Z:PH)(h:Ji)(a:Jg)(l:List PV):Prop
 |mk (vs:Array Jf) (n:Nat) (e:h.get? a=Ja (D5 vs n)) (r:CZ C Z h l vs.toList):LstAt C Z h a l
theorem CP.list(m:CP C Z h)(e:Z a=Ja (.list l)):LstAt C Z h a l:=by
 obtain⟨o,N,v,n,rfl,p⟩:=m.objs a _ e;exact⟨v,n,N,p⟩
theorem i4{z:Int}(hz:z.natAbs<2^64):Builtin.Int.intBits z<=64:=by
 unfold Builtin.Int.intBits
 split
 .exact QS _
 .rename_i h
  have:z.natAbs≠0:=by simpa using h
  exact(Nat.log2_lt this).mpr hz
theorem oE{vs:Array Jf}(h:vs.toList.length=n):vs.size=n:=h
theorem wU(m:CP C Z s.heap)(e:Z x=Ja (.list l))(e2:Z y=Ja (.list k))(w:E9 (l++k) Z Q):Jh (Mo C) A (binaryOp .Add (.ref x) (.ref y)) (VP C CC Z s Q) Er s:=by
 obtain⟨W,Y,h,r⟩:=m.list e;obtain⟨v,I,p,M⟩:=m.list e2;have U:=oE r.length;have K:=oE M.length;have z:l.length+k.length<=1000000:=by rw[<-QG];exact w.1
 exact P.add_list h p (VP.alloc (o:= .list (l++k)) m rfl ⟨rfl,rfl⟩ rfl ⟨_,_,rfl,by rw[Array.toList_append];exact r.append M⟩ w.2)<|by rw[U,K];exact Qq z<|by decide
theorem yY(d:mOp p o=Jc)(m:CP C Z s.heap)(r:VR C Z s.heap a v)(D:VR C Z s.heap b q)(w:wbin p a b Z Q):
  Jh (Mo C) A (binaryOp o v q) (VP C CC Z s Q) Er s:=by
 cases (Ue d);have two:∀ {K:Int->Int->Prop} {o:Operator},Df (λx=>Df (λy=>K x y) b) a->(∀x y t u,K x y->Jh (Mo C) A (binaryOp o (.int x t)<|.int y u) (VP C CC Z s Q) Er s)->Jh (Mo C) A (binaryOp o v q) (VP C CC Z s Q) Er s:=λw k=>by
  obtain⟨x,e,w⟩:=dW w;obtain⟨y,g,w⟩:=dW w;subst e g;obtain⟨t,rfl⟩:=r;obtain⟨u,rfl⟩:=D;exact k x y t u w
 induction p with
 |add=>
  induction a using PV.casesOn with
  |int x=>
   obtain⟨y,rfl,w⟩:=dW w;obtain⟨t,rfl⟩:=r;obtain⟨u,rfl⟩:=D;exact P.add_int<|VP.here m rfl ⟨rfl,rfl⟩ (dB _) w
  |ref x=>
   obtain⟨o0,l,e,T,w⟩:=eR (show Es Z (λl=>Es Z (λm=>E9 (l++m) Z Q) b) (.ref x) from w);cases e;obtain⟨y,k,rfl,F,j⟩:=eR w;rw[show v= .ref x from r,show q= .ref y from D];exact wU m T F j
  |_=>exact w.elim
 |mul=>exact two w λx y t u w=>P.mul_int (VP.here m rfl ⟨rfl,rfl⟩ (dB _) w.2) (w.1.elim (λh=>IntMulOk.of_left (i4 h)) λh=>IntMulOk.of_right (i4 h))
 |sub=>exact two w λx y t u w=>P.sub_int<|VP.here m rfl ⟨rfl,rfl⟩ (dB _) w
 |fdiv=>exact two w λx y t u w=>PyProof.Rows.floordiv_int w.1 (VP.here m rfl ⟨rfl,rfl⟩ (dB _) w.2.2)<|.inl (PyProof.noPylong_small w.2.1)
 |mod=>exact two w λx y t u w=>PyProof.Rows.mod_int' w.1<|VP.here m rfl ⟨rfl,rfl⟩ (dB _) w.2
 |pow=>exact two w λx y t u w=>PyProof.Rows.pow_int_small w.1 (by have:=w.2.1;exact QQ w.2.1 (by decide)) w.2.2.1 (VP.here m rfl ⟨rfl,rfl⟩ (dB _) w.2.2.2)
end
section
open PyProof.Rows
section
variable{C:Cx}{A:Jj}{Er:Jf->Je->Prop}{Z:PH}{s:Je}{h:Ji}
abbrev XS:=List<|List KA×Jg×Jf
structure DAt(C:Cx)(Z:PH)(h:Ji)(a:Jg)(ks:List (List KA))(l:List PV)(xs:XS):Prop where
 of:h.DictOfH (tk C.prog C.w) a xs
 ks:xs.map (·.1)=ks
 ka:∀y∈xs,D3 C Z h y.1 y.2.1
 v:CZ C Z h l (xs.map (·.2.2))
 sys:(a==JC)=Jd
theorem D3.is(x:D3 C Z h k a):(tk C.prog C.w).is h k a:=by obtain⟨o0,v,m,g,i⟩:=x;exact⟨_,v,m,g,rfl,rfl,i⟩
theorem CP.dict(m:CP C Z h)(e:Z a=Ja (.dict ks l)):∃xs,DAt C Z h a ks l xs:=by
 obtain⟨o,g,U,p,xs,x,d,T,k,nd,E,v⟩:=m.objs a _ e;exact⟨xs,⟨o,U,p,g,x,d,T,λy W=>(E y W).is,k▸nd⟩,k,E,v,beq_eq_false_iff_ne.mpr<|m.rich a _ e⟩
theorem o9:∀ {l:List PV} {vs:List Jf} {k:List KA},F6 l=Ja k->CZ C Z h l vs->ItemsAre (mk C.prog C.w) k vs
 |[],vs,k,e,r=>by change _=_ at r;subst r;obtain rfl:=sj e;exact .nil
 |p::l,vs,k,e,r=>by
  obtain⟨v,U,rfl,f,M⟩:=r;obtain⟨a,T,e⟩:=Qn.mp (show((kaOf p).bind λk=>(F6 l).map (k:: ·))=Ja k from e);obtain⟨r,w,e⟩:=Qt.mp e;subst e;refine .cons ?_<|o9 w M
  induction p using PV.casesOn with
  |int i=>obtain rfl:=sj T;obtain⟨t,rfl⟩:=f;exact uD i t
  |str i=>obtain rfl:=sj T;obtain⟨t,rfl⟩:=f;exact uc i t
  |_=>first|exact Dw T|cases T
theorem kZ(e:DM p=Ja k)(r:VR C Z h p v):∃b,v= .ref b/\D3 C Z h k b:=by
 induction p using PV.casesOn with
 |tup l=>
  obtain⟨a,n,w,T,F,X,u⟩:=r;exact⟨a,T,F,w,n,X,o9 e u⟩
 |_=>first|exact Dw e|cases e
theorem kJ:∀ {xs:XS},YY xs k=(C0 (xs.map (·.1)) k).bind λj=>xs[j]?.map (·.2)
 |[]=>rfl
 |x::xs=>by
  have i:=kJ (k:=k) (xs:=xs);show((x::xs).find? λy=>decide<|y.1=k).map (·.2)=(if x.1=k then Ja 0 else(C0 (xs.map (·.1)) k).map (· +1)).bind λj=>(x::xs)[j]?.map (·.2);by_cases q:x.1=k
  .rw[Ug q,List.find?_cons,Uc q];rfl
  .rw[Uf q,List.find?_cons,Ud q];show YY xs k=_;rw[i];cases C0 (xs.map (·.1)) k<;>rfl
theorem mR:∀ {ks:List (List KA)} {j:Nat},C0 ks k=Ja j->j<ks.length/\ks[j]? =Ja k
 |[],j,e=>by exact ns e
 |x::ks,j,e=>by
  replace e:(if x=k then Ja 0 else(C0 ks k).map (· +1))=Ja j:=e;by_cases q:x=k
  .obtain rfl:=sj<|(Ug q).symm.trans e;exact⟨Yz _,by rw[q];rfl⟩
  .rw[Uf q] at e;obtain⟨i,T,rfl⟩:=Qt.mp e;obtain⟨N,p⟩:=mR T;exact⟨Yo N,p⟩
theorem DAt.look{a:Jg}{ks:List (List KA)}{l:List PV}{xs:XS}(d:DAt C Z h a ks l xs){k:List KA}:
  (Dh ks l k=Jb/\YY xs k=Jb)\/X2 λp q=>A3 (Dh ks l k=Ja p) (YY xs k=Ja q) (VR C Z h p q.2):=by
 rw[kJ,d.ks];unfold Dh
 induction e:C0 ks k with
 |none=>exact .inl ⟨rfl,rfl⟩
 |some j=>
  have H:=(mR e).1;have r:=d.v.length;rw[Qd] at r;have M:xs.length=ks.length:=by rw[<-d.ks,Qd]
  have N:j<xs.length:=by exact zq H M.symm
  have Y:j<l.length:=by exact zq H<|M.symm.trans r
  obtain⟨v,T,w⟩:=d.v.get j l[j] (Qg Y);refine .inr ⟨l[j],xs[j].2,Qg Y,by show xs[j]?.map (·.2)=_;rw[Qg N];rfl,?_⟩;rw[Qu,Qg N] at T;obtain rfl:=sj T;exact w
theorem DAt.some_{a:Jg}{ks:List (List KA)}{l:List PV}{xs:XS}(d:DAt C Z h a ks l xs){k:List KA}:(C0 ks k).isSome=(YY xs k).isSome:=by
 rw[kJ,d.ks]
 induction e:C0 ks k with
 |none=>rfl
 |some j=>
  have H:=(mR e).1;have q:xs.length=ks.length:=by rw[<-d.ks,Qd]
  show Jc=(xs[j]?.map (·.2)).isSome;rw[Qg (by exact zq H q.symm)];rfl
theorem iJ(u:A.units+100<Ua):(tk C.prog C.w).room A.in1:=by show A.units+1<Ua;exact zl (KL (by decide) _) u
theorem rf(k:List KA)(v:Jf):∀ {xs:XS} {j:Nat},C0 (xs.map (·.1)) k=Ja j->(xs.map (·.1)).Nodup->(xs.map (putAt k v)).map (·.2.2)=(xs.map (·.2.2)).set j v
 |[],j,e,_=>by exact ns e
 |x::xs,j,e,nd=>by
  replace e:(if x.1=k then Ja 0 else(C0 (xs.map (·.1)) k).map (· +1))=Ja j:=e;rw[Qo,Qy] at nd;by_cases q:x.1=k
  .obtain rfl:=sj<|(Ug q).symm.trans e;rw[Qo,map_putAt_of_not_mem xs k v (q▸nd.1)];show(putAt k v x).2.2::_=v::_;rw[putAt,Ug q]
  .rw[Uf q] at e;obtain⟨i,T,rfl⟩:=Qt.mp e;rw[Qo];show(putAt k v x).2.2::(xs.map<|putAt k v).map (·.2.2)=x.2.2::(xs.map (·.2.2)).set i v;rw[rf k v T nd.2,putAt,Uf q]
theorem DAt.dict_data{a:Jg}{ks:List (List KA)}{l:List PV}{xs:XS}(d:DAt C Z h a ks l xs):X3 λo es ep=>h.get? a=Ja o/\o.data= .dict es ep:=by obtain⟨o,es,ep,g,o0,q,o0⟩:=d.of;exact⟨o,es,ep,g,q⟩
theorem DAt.set{a b:Jg}{ks:List (List KA)}{l:List PV}{xs:XS}{k:List KA}{p:PV}{v:Jf}{S:Ji}(m:CP C Z h)(e:Z a=Ja (.dict ks l))(d:DAt C Z h a ks l xs)(Y:D3 C Z h k b)(hv:VR C Z h p v)
  (G:S.DictOfH (tk C.prog C.w) a (storedH xs k b v))(H:KM a h S):CP C (Z.set a<|Fp ks l k p) S/\CF CC Z h (Z.set a<|Fp ks l k p) S:=by
 obtain⟨o,I,L,V,t⟩:=d.dict_data;obtain⟨i,g,c,J,M,E,x,o0,n⟩:=G;have F:(xs.map (·.1)).Nodup:=by obtain⟨o0,o0,o0,o0,o0,o0,o0,o0,q⟩:=d.of;exact q
 have r:OR C Z h (Fp ks l k p) i:=by
  unfold Fp
  induction q:C0 ks k with
  |none=>
   have U:YY xs k=Jb:=by rw[kJ,d.ks,q];rfl
   rw[storedH_new U] at x n;refine⟨g,c,_,M,E,x,by rw[QD,d.ks];rfl,by rw[QD,d.ks] at n;exact n,λy W=> ?_,?_⟩
   .rcases Qr.mp W with W|W
    .exact d.ka y W
    .cases Qh.mp W;exact Y
   .rw[QD];exact d.v.append ⟨v,[],rfl,hv,rfl⟩
  |some j=>
   have N:(YY xs k).isSome=Jc:=by rw[<-d.some_,q];rfl
   obtain⟨K,σ⟩:=Yc.mp N;rw[storedH_old σ] at x n;refine⟨g,c,_,M,E,x,by rw[keys_map_putAt,d.ks],d.ks▸F,λy W=> ?_,?_⟩
   .obtain⟨z,T,rfl⟩:=Ql.mp W;have:=d.ka z T;unfold putAt;by_cases w:z.1=k
    .rw[Ug w];exact this
    .rw[Uf w];exact this
   .rw[rf k v (d.ks▸q) F];exact d.v.set j hv
 have u:(Fp ks l k p).needs C.ok a:=by
  have:a≠JC:=m.rich a _ e;unfold Fp;cases C0 ks k<;>exact this
 exact CP.upd m e rfl H J r u
end
end
section
open PyProof.Rows
section
variable{C:Cx}{A:Jj}{Er:Jf->Je->Prop}{Z:PH}{s:Je}{Q:C9}{n:Nat}{fr:List Js}
mutual
theorem Rd.reads(m:CP C Z h):∀ (d:YT) (p:PV) (v:Jf),d.canLay0=Jc->Rd Z d p->VR C Z h p v->∃as,Reads h v d as
 | .none=>λp v o0 r x=>by change _=_ at r;subst r;change _=_ at x;subst x;exact⟨_,.none⟩
 | .bool b=>λp v o0 r x=>by change _=_ at r;subst r;change _=_ at x;subst x;exact⟨_,.bool b⟩
 | .int i=>λp v o0 r x=>by change _=_ at r;subst r;obtain⟨t,rfl⟩:=x;exact⟨_,.int i t⟩
 | .str y=>λp v o0 r x=>by obtain⟨z,rfl,rfl⟩:=r;obtain⟨t,rfl⟩:=x;exact⟨_,.str _ t⟩
 | .tuple ds=>λp v c r x=>by
  obtain⟨l,rfl,r⟩:=r;obtain⟨a,n,vs,rfl,O,N,Y⟩:=x;obtain⟨as,σ⟩:=Hi.reads m ds l vs.toList (by simpa [PyData.canLay0] using c) r Y;exact⟨_,.tuple N rfl rfl σ⟩
 | .list ds=>λp v c r x=>by
  obtain⟨a,l,rfl,e,r⟩:=r;change _=_ at x;subst x;obtain⟨vs,n,N,Y⟩:=m.list e;obtain⟨as,σ⟩:=Hi.reads m ds l vs.toList (by simpa [PyData.canLay0] using c) r Y;exact⟨_,.list N rfl rfl σ⟩
 | .dict ds=>λp v c r x=>r.elim
theorem Hi.reads(m:CP C Z h):∀ (ds:List YT) (l:List PV) (vs:List Jf),PyData.canLayAll0 ds=Jc->Hi Z ds l->CZ C Z h l vs->∃as,ReadsAll h vs ds as
 |[]=>λl vs o0 r x=>by change _=_ at r;subst r;change _=_ at x;subst x;exact⟨_,.nil⟩
 |d::ds=>λl vs c r x=>by
  obtain⟨p,ps,rfl,f,M⟩:=r;obtain⟨v,U,rfl,R,W⟩:=x;have K:d.canLay0=Jc/\PyData.canLayAll0 ds=Jc:=by simpa [PyData.canLayAll0] using c
  obtain⟨as,σ⟩:=Rd.reads m d p v K.1 f R;obtain⟨bs,D⟩:=Hi.reads m ds ps U K.2 M W;exact⟨_,.cons σ D⟩
end
theorem fK:∀ {ds:List YT},(∀d∈ds,d.canLay0=Jc)->PyData.canLayAll0 ds=Jc
 |[]=>λo0=>rfl
 |d::ds=>λh=>by simp only[PyData.canLayAll0,h d (.head _),fK λx hx=>h x (.tail _ hx),Bool.and_self]
theorem ij:∀ {ds:List YT},(∀d∈ds,d.depth<=n)->PyData.depthAll ds<=n
 |[]=>λo0=>by simp[PyData.depthAll]
 |d::ds=>λh=>by
  exact Nat.max_le.mpr ⟨h d<|.head _,ij λx hx=>h x<|.tail _ hx⟩
theorem VP.bool{S:Jg->Prop}{K:Bool->PH->Prop}(m:CP C Z s.heap)(q:K b Z):VP C S Z s (λv Z'=>∃b,v= .bool b/\K b Z') (.bool b) s:=
 VP.here m rfl (CS.refl s) gA ⟨b,rfl,q⟩
theorem vO{K:Bool->PH->Prop}{f:Bool->Bool}(m:CP C Z s.heap)(σ:VR C Z s.heap a M)(r:VR C Z s.heap b q)(w:G7 Z (λks o0=>oK (λk=>K (f (C0 ks k).isSome) Z) (DM a)) b)
  (k:∀E d xs i,(tk C.prog C.w).is s.heap i E->(d==JC)=Jd->s.heap.DictOfH (tk C.prog C.w) d xs->(∀tk,VP C CC Z s (λv Z'=>∃b,v= .bool b/\K b Z') (.bool (f (YY xs i).isSome)) {s with toks:=tk})->
   Jh (Mo C) A (YV o (.ref E) (.ref d)) (VP C CC Z s λv Z'=>∃b,v= .bool b/\K b Z') Er s):Jh (Mo C) A (YV o M q) (VP C CC Z s λv Z'=>∃b,v= .bool b/\K b Z') Er s:=by
 refine lp ?_;intro z R;obtain⟨d,ks,l,rfl,e,j⟩:=iN w;obtain⟨i,x,B⟩:=jh j;obtain⟨xs,D⟩:=m.dict e;obtain⟨P,rfl,h⟩:=kZ x σ;change _=_ at r;subst r;refine k P d xs i h.is D.sys D.of λtk=> ?_;exact VP.here (s:=s) m rfl ⟨rfl,rfl⟩ gA ⟨_,rfl,by rw[<-D.some_];exact B⟩
theorem An(ho:mC op o=Jc){K:Bool->PH->Prop}(m:CP C Z s.heap)(hu:A.units+100<Ua)(ra:VR C Z s.heap a va)(rb:VR C Z s.heap b vb)(w:Ho op a b Z K):
  Jh (Mo C) A (YV o va vb) (VP C CC Z s λv Z'=>∃b,v= .bool b/\K b Z') Er s:=by
 refine lp ?_;intro zP zR;cases (Ue ho);have two:∀ {f:Int->Int->Bool} {o:CmpOp},Hm f a b Z K->(∀x y t u,K (f x y) Z->Jh (Mo C) A (YV o (.int x t)<|.int y u) (VP C CC Z s λv Z'=>∃b,v= .bool b/\K b Z') Er s)->Jh (Mo C) A (YV o va vb) (VP C CC Z s λv Z'=>∃b,v= .bool b/\K b Z') Er s:=λw k=>by
  obtain⟨x,e,w⟩:=dW w;obtain⟨y,e',w⟩:=dW w;subst e e';obtain⟨t,rfl⟩:=ra;obtain⟨u,rfl⟩:=rb;exact k x y t u w
 have inn:∀ {K':Bool->PH->Prop},Es Z (λl=>X2 λc ds=>A5 (Rd Z c a) (Hi Z ds l) (G8 c) ((∀d∈ds,G8 d))<|K' (ds.any λd=>PyData.eqv d c) Z) b->X4 λc ds as bs=>A6 (Reads s.heap vb (.list ds) bs) (Reads s.heap va c as) (PyData.canLayAll0 ds=Jc) (c.canLay0=Jc) ((A.units+min (PyData.depthAll ds) c.depth+2<Ua)) (K' (ds.any λd=>PyData.eqv d c) Z):=λw=>by
  obtain⟨r,l,rfl,e,c,ds,r1,r2,k1,k2,w⟩:=eR w;obtain⟨as,q1⟩:=Rd.reads m c a va k1.1 r1 ra;obtain⟨bs,q2⟩:=Rd.reads m (.list ds) (.ref r) vb (fK λd hd=>(k2 d hd).1) ⟨r,l,rfl,e,r2⟩ rb;have h1:=ij λd hd=>(k2 d hd).2;exact⟨c,ds,as,bs,q2,q1,fK λd hd=>(k2 d hd).1,k1.1,by exact zmn2 hu h1,w⟩
 induction op with
 |eq=>
  obtain⟨c,d,r1,r2,k1,k2,w⟩:=w;obtain⟨as,q1⟩:=Rd.reads m c a va k1.1 r1 ra;obtain⟨bs,q2⟩:=Rd.reads m d b vb k2.1 r2 rb;have:=k1.2;exact SeqAt.compareEq_reads q1 q2 k1.1 k2.1 (by exact zmn hu this)<|VP.bool m w
 |ne=>
  obtain⟨c,d,r1,r2,k1,k2,w⟩:=w;obtain⟨as,q1⟩:=Rd.reads m c a va k1.1 r1 ra;obtain⟨bs,q2⟩:=Rd.reads m d b vb k2.1 r2 rb;exact SeqAt.compareNe_shaped q1 q2 (Qi.mpr ⟨k1.1,Uc<|FS k1.2 rfl⟩) (Qi.mpr ⟨k2.1,Uc<|FS k2.2 rfl⟩) (by exact zl (KL (by decide) _) hu)<|VP.bool m w
 |lt=>exact two w λx y t u w=>P.lt_int<|VP.bool m w
 |le=>exact two w λx y t u w=>P.le_int<|VP.bool m w
 |gt=>exact two w λx y t u w=>P.gt_int<|VP.bool m w
 |ge=>exact two w λx y t u w=>P.ge_int<|VP.bool m w
 |in_=>
  rcases w with w|w
  .exact vO (f:=id) m ra rb w λka d xs kk h1 h2 h3 h4=>wpAny_in_heap (iJ hu) h1 h2 h3<|h4 _
  obtain⟨c,ds,as,bs,q2,q1,h1,h2,h3,w⟩:=inn w;exact SeqAt.in_list_reads q2 q1 h1 h2 (by exact zr4 h3)<|VP.bool m w
 |nin=>
  rcases (show G7 Z (λks o0=>oK (λk=>K (!(C0 ks k).isSome) Z)<|DM a) b\/_ from w) with w|w
  .exact vO (f:=not) m ra rb w λka d xs kk h1 h2 h3 h4=>wpAny_notIn_heap (iJ hu) h1 h2 h3<|h4 _
  obtain⟨c,ds,as,bs,q2,q1,h1,h2,h3,w⟩:=inn (K':=λr Z=>K (!r) Z) w;exact SeqAt.notIn_list_reads q2 q1 h1 h2 (by exact zr4 h3)<|VP.bool m w
end
end
section
open PyProof.Rows
section
variable{C:Cx}{A:Jj}{Er:Jf->Je->Prop}{Z:PH}{s:Je}{Q:C9}{n:Nat}{fr:List Js}
theorem VP.kept{S:Jg->Prop}{s':Je}(m:CP C Z s.heap)(k:∀b o,s.heap.get? b=Ja o->s'.heap.get? b=Ja o)(r:CS s s')(hv:VR C Z s.heap p v)(q:Q p Z):VP C S Z s Q v s':=
 ⟨p,Z,hv.step<|CF.more (S:=CC) k,m.more k,.more k,r,q⟩
theorem VP.keptNew{S:Jg->Prop}{o:PO}{s':Je}(m:CP C Z s.heap)(k:∀b o,s.heap.get? b=Ja o->s'.heap.get? b=Ja o)(r:CS s s')(g:s.heap.get? a=Jb)
  (e:s'.heap.get? a=Ja W)(T:∀Z',CF S Z s.heap Z' s'.heap->OR C Z' s'.heap o W)(q:Ex o Z Q)(d:o.needs C.ok a):VP C S Z s Q (.ref a) s':=by
 have E:Z a=Jb:=by
  induction h:Z a with
  |none=>rfl
  |some p=>obtain⟨W,N,o0⟩:=m.objs a p h;exact ns<|g.symm.trans N
 have R:C.B.get? a=Jb:=by
  induction h:C.B.get? a with
  |none=>rfl
  |some p=>have:=m.base a p h;exact ns<|g.symm.trans this
 have t:CF S Z s.heap (Z.set a o) s'.heap:=(CF.more k).add o g E;exact⟨.ref a,Z.set a o,rfl,m.add t (λx i e=>by obtain⟨P,N,o0⟩:=m.objs x i e;exact(k _ _ N).trans N.symm) (λb o e=>k b o<|m.base b o e) e R (T _ t) d,t,r,q a E⟩
theorem kF(h:Ji):h.get? h.objs.size=Jb:=by
 induction e:h.get? h.objs.size with
 |none=>rfl
 |some x=>exact absurd (QO e)<|KJ _
theorem CZ.ints:∀ {l:List PV} {is:List Int} {vs:List Jf},dy l=Ja is->CZ C Z h l vs->∀ (i:Nat) (v:Jf),vs[i]? =Ja v->∃t,v= .int (is.getD i 0) t
 |[]=>λe r i v hv=>by change _=_ at r;subst r;simp at hv
 | .int k::l=>λe r i v hv=>by
  replace e:=Qt.mp e;obtain⟨j,T,rfl⟩:=e;obtain⟨w,ws,rfl,f,M⟩:=r
  induction i using Nat.casesOn with
  |zero=>simp at hv;subst hv;exact f
  |succ i=>simp at hv;simpa using CZ.ints T M i v hv
 | .none::l=>λe r i v hv=>Dw e
 | .bool b::l=>λe r i v hv=>Dw e
 | .str b::l=>λe r i v hv=>Dw e
 | .tup b::l=>λe r i v hv=>Dw e
 | .ref b::l=>λe r i v hv=>Dw e
 | .scr b::l=>λe r i v hv=>Dw e
theorem dD:∀ {l:List PV} {is:List Int},dy l=Ja is->is.length=l.length
 |[]=>λe=>by obtain rfl:=sj e;rfl
 | .int k::l=>λe=>by
  replace e:=Qt.mp e;obtain⟨j,T,rfl⟩:=e;simp[dD T]
 | .none::l=>λe=>Dw e
 | .bool b::l=>λe=>Dw e
 | .str b::l=>λe=>Dw e
 | .tup b::l=>λe=>Dw e
 | .ref b::l=>λe=>Dw e
 | .scr b::l=>λe=>Dw e
theorem CZ.bools:∀ {l:List PV} {is:List Bool} {vs:List Jf},eG l=Ja is->CZ C Z h l vs->is.length=l.length/\∀ (i:Nat) (v:Jf),vs[i]? =Ja v->v= .bool (is.getD i Jd)
 |[]=>λe r=>by obtain rfl:=sj e;change _=_ at r;subst r;simp
 | .bool k::l=>λe r=>by
  replace e:=Qt.mp e;obtain⟨j,T,rfl⟩:=e;obtain⟨w,ws,rfl,f,M⟩:=r;obtain⟨P,U⟩:=CZ.bools T M;refine⟨by simp[P],λi v hv=> ?_⟩
  induction i using Nat.casesOn with
  |zero=>simp at hv;subst hv;exact f
  |succ i=>simp at hv;simpa using U i v hv
 | .none::l=>λe r=>Dw e
 | .int b::l=>λe r=>Dw e
 | .str b::l=>λe r=>Dw e
 | .tup b::l=>λe r=>Dw e
 | .ref b::l=>λe r=>Dw e
 | .scr b::l=>λe r=>Dw e
theorem ku:∀ (is:List Int) (n:Nat),n<=is.length->preSum (λi=>is.getD i 0) n=(is.take n).sum
 |is,0=>λo0=>by simp[preSum]
 |is,n+1=>λh=>by
  rw[preSum,ku is n<|by exact Kj h,List.take_add_one,Yb];have:is[n]? =Ja is[n]:=Qg (by exact h);simp[List.getD,this]
theorem sS(bs:List Bool):((Qc bs.length).all λi=>bs.getD i Jd)=bs.all id:=by
 rw[Kq];simp only[Qx,Qf,id]
 constructor
 .intro h b R;obtain⟨i,t,rfl⟩:=Wi R;have:=h i t
  simpa [List.getD,t] using this
 .intro h i t;have:=h bs[i] (Wj t)
  simpa [List.getD,t] using this
theorem iG{R:Jf->Je->Prop}(T:s.heap.get? l=Ja (D5 vs k))
  (h:∀I,I=s.heap.objs.size->l≠I->(s.heap.push {cls:= .type "list_iterator",data:= .fields #[.ref l,.int 0 0]}).IsListIter I l 0->
   (s.heap.push {cls:= .type "list_iterator",data:= .fields #[.ref l,.int 0 0]}).IsList l vs->R (.ref I) {s with heap:=s.heap.push {cls:= .type "list_iterator",data:= .fields #[.ref l,.int 0 0]}}):
  Jh (Mo C) A (YS<|.ref l) R Er s:=
 wpAny_pyIter_list ⟨_,T,rfl,k,rfl⟩ (h _ rfl (WI<|QO T) ⟨_,QK _ rfl,rfl,rfl⟩ ⟨_,Qs _ T,rfl,k,rfl⟩)
theorem pS{h:Ji}(p:I=h.objs.size)(N:h.get? a=Ja o)(R:b∈ [I,a]):b<(h.push o').objs.size:=by
 rw[KN]
 rcases Qw.mp R with rfl|R
 .rw[p];exact QN _
 .rw[Qh.mp R];exact WC<|QO N
theorem kH{h:Ji}(p:I=h.objs.size)(e:h.get? b=Ja o):b∉ [I]:=λq=>by
 rw[Qh.mp q,p,kF] at e;exact ns e
theorem zV{is:List Int}(f:A.handled=Jb)(m:CP C Z s.heap)(e:Z a=Ja (.list l))(hi:dy l=Ja is)(q:Q (.int is.sum) Z):
  Jh (Mo C) A (call (.builtin "sum") [.ref a]) (VP C CC Z s Q) Er s:=by
 obtain⟨J,k,N,Y⟩:=m.list e;refine call_sum_walkAnyS (iG N λI p U h T=> ?_);have g:J.size=is.length:=by rw[dD hi];simpa using Y.length
 refine⟨I,_,_,_,_,_,_,λi=>is.getD i 0,rfl,(Walks.list (prog:=C.prog) (w:=C.w) (A:=A.in1) f I a U J).toS,⟨h,T⟩,?_,?_,λG t mv=> ?_⟩
 .exact λb R=>pS p N R
 .intro i v hv;exact CZ.ints hi Y i v<|by simpa using hv
 .rw[g,ku is _<|Qz _,List.take_of_length_le (Qz _)];refine VP.kept m (λb o σ=>mv.heap b o (kH p σ)<|Qs _ σ) ⟨mv.gens,mv.os⟩ (dB _) q
theorem z9{bs:List Bool}(f:A.handled=Jb)(m:CP C Z s.heap)(e:Z a=Ja (.list l))(hi:eG l=Ja bs)(q:Q (.bool (bs.all id)) Z):
  Jh (Mo C) A (call (.builtin "all") [.ref a]) (VP C CC Z s Q) Er s:=by
 obtain⟨J,k,N,p⟩:=m.list e;refine call_all_walk (iG N λI t U h T=> ?_);obtain⟨d,V⟩:=CZ.bools hi p;have g:J.size=bs.length:=by rw[d];simpa using p.length
 refine⟨I,_,_,_,_,_,λi=>bs.getD i Jd,rfl,Walks.list (prog:=C.prog) (w:=C.w) (A:=A.in1) f I a U J,⟨h,T⟩,?_,λS tk M=> ?_⟩
 .intro i v G r E hv X;rw[V i v (by simpa using hv)];exact wpAny_truthy_bool X
 .rw[g,sS];refine VP.kept m (λb o σ=>M b o (kH t σ)<|Qs _ σ) ⟨rfl,rfl⟩ gA q
set_option tactic.hygienic true in
theorem yR(m:CP C Z s.heap)(r:VR C Z s.heap p v)(e:Gv Z p=Ja k)(M:k<=Dg)(q:Q (.int k) Z):
  Jh (Mo C) A (call (.builtin "len") [v]) (VP C CC Z s Q) Er s:=by
 have R:k<=1000000:=M
 induction p using PV.casesOn with
 |ref a=>
  change _=_ at r;subst r;obtain⟨l,T,rfl⟩:=tP (show lenO (Z a)=Ja k from e);obtain⟨w,j,N,Y⟩:=m.list T;have h:w.size=l.length:=by simpa using Y.length
  refine Calls.call_len_list ⟨_,N,rfl,j,rfl⟩ (by rw[h];exact zi3 R) ?_;rw[h];exact VP.here m rfl ⟨rfl,rfl⟩ (dB _) q
 |tup l=>
  obtain rfl:=sj e;obtain⟨a,j,w,rfl,W,N,Y⟩:=r;have h:w.size=l.length:=by simpa using Y.length
  refine P.len_tuple N (by rw[h];exact Int.not_le.mpr<|zi3 R) ?_;rw[h];exact VP.here m rfl ⟨rfl,rfl⟩ (dB _) q
 |scr l=>
  obtain rfl:=sj e;obtain⟨a,o,j,w,rfl,N,Y,J,h,o0⟩:=r;refine Calls.call_len_list ⟨_,m.base _ _ N,Y,j,J⟩ (by rw[h];exact zi3 R) ?_;rw[h];exact VP.here m rfl ⟨rfl,rfl⟩ (dB _) q
 |_=>exact ns e
theorem iX:∀ {is:List Int},is≠ []->E5 is∈is/\∀a∈is,E5 is<=a
 |x::r,_=>by
  have key:∀ (r:List Int) (x:Int),(r.foldl min x=x\/r.foldl min x∈r)/\r.foldl min x<=x/\∀a∈r,r.foldl min x<=a:=by
   intro r
   induction r with
   |nil=>intro x;exact⟨.inl rfl,QX _,λa T=>(bS T)⟩
   |cons y r i=>
    intro x;obtain⟨N,p,J⟩:=i<|min x y;refine⟨?_,QQ p<|Int.min_le_left _ _,λa T=> ?_⟩
    .rcases N with N|N
     .show r.foldl min (min x y)=x\/r.foldl min (min x y)∈y::r;rw[N]
      rcases Int.le_total x y with q|q
      .exact .inl<|Int.min_eq_left q
      .rw[Int.min_eq_right q];exact .inr<|.head _
     .exact .inr<|.tail _ N
    .cases T with
     |head=>exact QQ p<|Int.min_le_right _ _
     |tail _ T=>exact J a T
  obtain⟨N,p,J⟩:=key r x;refine⟨N.elim (λh=>by show r.foldl min x∈x::r;rw[h];exact .head _)<|.tail _,λa T=> ?_⟩;cases T with
  |head=>exact p
  |tail _ T=>exact J a T
theorem yj{is:List Int}(h:M∈is)(p:∀a∈is,M<=a):E5 is=M:=by
 obtain⟨k,U⟩:=iX (is:=is) (λq=>by rw[q] at h;cases h);exact WY (U M h)<|p _ k
theorem Ai{is:List Int}(f:A.handled=Jb)(m:CP C Z s.heap)(e:Z a=Ja (.list l))(hi:dy l=Ja is)(U:is≠ [])(q:Q (.int (E5 is)) Z):
  Jh (Mo C) A (call (.builtin "min") [.ref a]) (VP C CC Z s Q) Er s:=by
 obtain⟨J,k,E,p⟩:=m.list e;refine call_min_walk (iG E λI H R L T=> ?_);have g:J.size=is.length:=by rw[dD hi];exact p.length
 have h:0<is.length:=List.length_pos_iff.mpr U;refine⟨I,_,_,_,_,_,_,rfl,Walks.list (prog:=C.prog) (w:=C.w) (A:=A.in1) f I a R J,⟨L,T⟩,?_,g▸h,CmpOf.ints_lt (λi=>is.getD i 0)<|λi v hv=>CZ.ints hi p i v<|by simpa using hv,λv W tk P M=> ?_⟩
 .exact λb S=>pS H E S
 .obtain⟨t,rfl⟩:=CZ.ints hi p _ v (by simpa using P);obtain⟨d,V⟩:=argBest_lt (λi=>is.getD i 0)<|J.size-1;have N:argBest (λi j=>decide<|is.getD i 0<is.getD j 0) (J.size-1)<is.length:=by exact zl d (zq (Nat.sub_lt (zq h g.symm) Nat.one_pos) g)
  have u:is.getD (argBest (λi j=>decide<|is.getD i 0<is.getD j 0)<|J.size-1) 0∈is:=by
   rw[WN,Qg N];exact Wj N
  rw[yj u λx hx=> ?_] at q
  .refine VP.kept m (λb o σ=>M b o (kH H σ)<|Qs _ σ) ⟨rfl,rfl⟩ (dB _) q
  .obtain⟨j,B,rfl⟩:=Wi hx;have:=V j (by exact Nat.le_sub_one_of_lt<|zq B g.symm);rw[WN (i:=j),Qg B] at this;exact this
theorem wa{is:List Int}(h:i<is.length):is.getD i 0∈is:=by
 rw[WN,Qg h];exact Wj h
theorem z6{is:List Int}(f:A.handled=Jb)(m:CP C Z s.heap)(e:Z a=Ja (.list l))(hi:dy l=Ja is)(U:is≠ [])(q:∀x∈is,Q (.int x) Z):
  Jh (Mo C) A (call (.builtin "max") [.ref a]) (VP C CC Z s Q) Er s:=by
 obtain⟨J,k,E,p⟩:=m.list e;refine call_max_walk (iG E λI H R j T=> ?_);have g:J.size=is.length:=by rw[dD hi];exact p.length
 have h:0<is.length:=List.length_pos_iff.mpr U;refine⟨I,_,_,_,_,_,_,rfl,Walks.list (prog:=C.prog) (w:=C.w) (A:=A.in1) f I a R J,⟨j,T⟩,λb S=>pS H E S,g▸h,CmpOf.ints_gt (λi=>is.getD i 0)<|λi v hv=>CZ.ints hi p i v<|by simpa using hv,λv W tk P M=> ?_⟩;obtain⟨t,rfl⟩:=CZ.ints hi p _ v (by simpa using P);have N:=zq (Ku.mp P).1 g;refine VP.kept m (λb o σ=>M b o (kH H σ)<|Qs _ σ) ⟨rfl,rfl⟩ (dB _)<|q _ (wa N)
theorem xW(U:A.handled=Jb)(m:CP C Z s.heap)(q:∀z,x<=z->y<=z->Q (.int z) Z):Jh (Mo C) A (call (.builtin "max") [.int x t,.int y u]) (VP C CC Z s Q) Er s:=by
 refine max_two_ints U λS tk h=> ?_;by_cases z:y>x
 .rw[Ug z];exact VP.kept m h ⟨rfl,rfl⟩ (dB _)<|q y (Yg z) (QX _)
 .rw[Uf z];exact VP.kept m h ⟨rfl,rfl⟩ (dB _)<|q x (QX _) (KQ.mp z)
theorem qP{vs:Array Jf}(Y:T="list"\/T="tuple")(m:CP C Z s.heap)(N:s.heap.get? a=Ja {cls:= .type T,data:= .seq vs k})(p:CZ C Z s.heap l vs.toList)
  (hz:Okl l) (q:Ex (.list l) Z Q):Jh (Mo C) A (call (.type "list") [.ref a]) (VP C CC Z s Q) Er s:=by
 have g:vs.size=l.length:=by simpa using p.length
 have h:l.length<=1000000:=hz;refine call_list_seq a Y N rfl rfl (λS c M e=> ?_) (by simp[JJ];exact D8 (QV g)<|FS h rfl);exact VP.keptNew (o:= .list l) m M ⟨rfl,rfl⟩ (kF _) e (λX t=>⟨vs,c,rfl,p.step t⟩) q trivial
theorem qK:∀ {xs:XS},(∀y∈xs,D3 C Z h y.1 y.2.1)->CZ C Z h ((xs.map (·.1)).map Fd) (xs.map λy=> .ref y.2.1)
 |[]=>λo0=>rfl
 |x::xs=>λk=>by
  obtain⟨n,w,m,g,i⟩:=k x<|.head _;refine⟨_,_,rfl,⟨_,m,w,rfl,n,g,?_⟩,qK λy S=>k y<|.tail _ S⟩;clear g;show CZ C Z h (x.1.map KA.pv) w.toList;generalize w.toList=l at i ⊢;generalize x.1=D at i ⊢
  induction i with
  |nil=>exact rfl
  |@cons a v L w N _ W=>
   refine⟨v,w,rfl,?_,W⟩
   induction a with
   |n j=>exact gL N
   |t s=>exact gH N
theorem uT{ks:List (List KA)}(f:A.handled=Jb)(m:CP C Z s.heap)(e:Z a=Ja (.dict ks l))(hz:Okl (ks.map Fd))(q:Ex (.list (ks.map Fd)) Z Q):
  Jh (Mo C) A (call (.type "list") [.ref a]) (VP C CC Z s Q) Er s:=by
 obtain⟨P,D⟩:=m.dict e;obtain⟨o,U,H,g,M,E,x,o0⟩:=D.of;have r:U.size=ks.length:=by rw[J9 x,<-D.ks,Qd]
 refine W.kdl_call (xx (es:=U) (ep:=H) D.sys) f ⟨o,g,M,E⟩ (by rw[r,JV];have:(ks.map Fd).length<=1000000:=hz;rw[Qd] at this;exact FS this rfl) λR tk c K k d h=> ?_;refine VP.keptNew (o:= .list (ks.map Fd)) m k ⟨rfl,rfl⟩ (kF _) d (λX σ=>⟨c,K,rfl,?_⟩) q trivial;have:c.toList=P.map λy=> .ref y.2.1:=by
  refine WD λi=> ?_;rw[Array.getElem?_toList,Qu];by_cases t:i<c.size
  .obtain⟨N,T,w⟩:=h.2 i c[i] (Kl t);rw[entry_at x] at T;obtain⟨y,S,u⟩:=Qt.mp T;rw[Kl t,S,w,<-u];rfl
  .have p:P.length<=i:=by rw[<-J9 x];have:=h.1;exact D8 (QV this.symm) (QW.mp t)
   rw[Ym (QW.mp t),KX p];rfl
 rw[this,<-D.ks];exact(qK D.ka).step σ
theorem oP:∀ {l:List PV} {is:List Int} {vs:List Jf},dy l=Ja is->CZ C Z h l vs->IntsAre vs is
 |[],is,vs,e,r=>by change _=_ at r;subst r;obtain rfl:=sj e;exact .nil
 |p::l,is,vs,e,r=>by
  obtain⟨v,U,rfl,f,M⟩:=r
  induction p using PV.casesOn with
  |int i=>
   obtain⟨j,T,rfl⟩:=Qt.mp (show(dy l).map (i:: ·)=Ja is from e);obtain⟨t,rfl⟩:=f;exact .cons i t<|oP T M
  |_=>first|exact Dw e|cases e
theorem yf:∀ {is:List Int} {vs:List Jf},IntsAre vs is->CZ C Z h (is.map .int) vs:=λr=>by
 induction r with
 |nil=>rfl
 |cons i t r W=>exact⟨_,_,rfl,⟨t,rfl⟩,W⟩
theorem sp{is:List Int}(m:CP C Z s.heap)(e:Z a=Ja (.list l))(hi:dy l=Ja is)(T:is.length<64)(q:∀j:List Int,j.Perm is->j.Pairwise (· <= ·)->E9 (j.map .int) Z Q):
  Jh (Mo C) A (call (.builtin "sorted") [.ref a]) (VP C CC Z s Q) Er s:=by
 obtain⟨v,k,N,h⟩:=m.list e;have g:v.toList.length=is.length:=by rw[dD hi];exact h.length
 refine sorted_ints (vs:=v.toList) (ns:=is) (by rw[Array.toArray_toList];exact⟨_,N,rfl,k,rfl⟩) (oP hi h) (by exact zl (QV g) T) λu f F L H=> ?_;obtain⟨S,O⟩:=sortedAll_at s.heap v.toList u;exact VP.keptNew (o:= .list (f.map .int)) m (λo0 o0=>sortedAll_old) ⟨rfl,rfl⟩ (WK<|Wf _) O (λX t=>⟨_,S,rfl,yf F⟩) (q f L H).2 trivial
end
end
section
open PySem.MeetsSeq PySem.SeqAt PySem.AutoSeq1
theorem xN(l:Jg)(t:Array Jf)(n:Nat)(x:Jf)(e:Jf->Bool)(j:Nat)(H:j<t.size)(L:e t[j]=Jc)(hz:t.size<=JJ):∀k i:Nat,i+k=j->(∀m (D:m<t.size),i<=m->m<j->e t[m]=Jd)->
  Meets (Builtin.«list.remove.loop» ⟨[.ref l,x,Jx i],[]⟩) (λA R s=>s.heap.get? l=Ja (D5 t n)/\(∀y,y∈t->EqAt A.in1 s y x (e y))/\R (.ok<|.ret .none) {s with heap:=s.heap.update l (Obj.mapSeq λxs=>xs.eraseIdxIfInBounds j)}):=by
 intro k
 induction k with
 |zero=>
  intro i q o p w A R s h;obtain⟨K,g,d,tk,c⟩:=s;obtain⟨T,O,h⟩:=h;obtain rfl:i=j:=q
  wp_walk using wpAny_loadPart' T
  rw[show t[((i:Nat):Int).toNat]? =Ja t[i] from Kl H];refine YG<|O _ (Array.getElem_mem H) p w _ _ ?_;rw[L]
  wp_walk using (wpAny_updateSeq T rfl (hz:=hz) (_hz':=Qq (size_erased t _)<|WE hz)),wpAny_loadPart' T
  exact h
 |succ k W=>
  intro i q o p w A R s h;obtain⟨K,g,d,tk,c⟩:=s;obtain⟨T,O,h⟩:=h;have N:i<j:=q▸Nat.lt_add_of_pos_right (Yz k);have V:i<t.size:=Nat.lt_trans N H
  wp_walk using wpAny_loadPart' T
  rw[show t[((i:Nat):Int).toNat]? =Ja t[i] from Kl V];refine YG<|O _ (Array.getElem_mem V) p w _ _ ?_;rw[o i V (Qz _) N]
  wp_walk
  exact⟨plainId_quiet plain_remove_loop _,codeAny_builtin entry_remove_loop (by
   rw[Around.under_plainId plain_remove_loop _];exact W (i+1) (by rw[<-q,QI];rfl) (λm D E Y=>o m D (Kj E) Y) p w A R _ ⟨T,O,h⟩)⟩
theorem BC(l:Jg)(i:Array Jf)(n:Nat)(x:Jf)(e:Jf->Bool)(j:Nat)(H:j<i.size)(t:e i[j]=Jc)(o:∀m (L:m<i.size),m<j->e i[m]=Jd)(hz:i.size<=JJ):
  Meets (Builtin.«list.remove» ⟨[.ref l,x],[]⟩) (λA R s=>s.heap.get? l=Ja (D5 i n)/\(∀y,y∈i->EqAt A.in1 s y x (e y))/\R (.ok<|.ret .none) {s with heap:=s.heap.update l (Obj.mapSeq λxs=>xs.eraseIdxIfInBounds j)}):=by
 intro p w A R s h;obtain⟨D,g,d,tk,c⟩:=s;obtain⟨T,O,h⟩:=h
 wp_walk using wpAny_loadPart' T
 exact⟨plainId_quiet plain_remove_loop _,codeAny_builtin entry_remove_loop (by
  rw[Around.under_plainId plain_remove_loop _];exact xN l i n x e j H t hz j 0 (KR j) (λm L o0 Y=>o m L Y) p w A R _ ⟨T,O,h⟩)⟩
end
section
variable{C:Cx}{A:Jj}{Er:Jf->Je->Prop}{Z:PH}{s:Je}{Q:C9}
theorem CZ.eraseIdx:∀ {l:List PV} {vs:List Jf},CZ C Z h l vs->∀j:Nat,CZ C Z h (l.eraseIdx j) (vs.eraseIdx j)
 |[],vs,r,j=>by obtain rfl:vs=[]:=r;exact rfl
 |p::l,vs,r,j=>by
  obtain⟨v,u,rfl,f,M⟩:=r
  induction j using Nat.casesOn with
  |zero=>exact M
  |succ j=>exact⟨v,u.eraseIdx j,rfl,f,CZ.eraseIdx M j⟩
theorem sw{l:List PV}{ds:List YT}(u:A.units+100<Ua)(m:CP C Z s.heap)(e:Z a=Ja (.list l))(D:VR C Z s.heap p v)(Y:Rd Z c p)(H:Hi Z ds l)(P:G8 c)(k:∀d∈ds,G8 d)(U:l.length<=Dg)(B:ds.findIdx? (λd=>PyData.eqv d c)=Ja j)
  (q:Q .none (Z.set a<|.list (l.eraseIdx j))):Jh (Mo C) A (call (.builtin "list.remove") [.ref a,v]) (VP C CC Z s Q) Er s:=by
 refine lp ?_;intro I zR;obtain⟨w,n,g,X⟩:=m.list e;have σ:=fK λd W=>(k d W).1;obtain⟨as,r⟩:=Rd.reads m c p v P.1 Y D;obtain⟨bs,b⟩:=Rd.reads m (.list ds) (.ref a) (.ref a) σ ⟨a,l,rfl,e,H⟩ rfl;cases b with
 |list E h2 G T=>
  obtain rfl:=sj<|g.symm.trans E;cases G;have L:w.toList.map (SeqAt.readOf s.heap)=ds:=SeqAt.readsAll_map ds _ _ σ T;obtain⟨K,M,O⟩:=List.findIdx?_eq_some_iff_getElem.mp B;have t:ds.length=w.size:=by rw[<-L,Qd,YB]
  have at_:∀i (h:i<w.size) (R:i<ds.length),SeqAt.readOf s.heap w[i]=ds[i]:=λi h R=>by
   have z:(w.toList.map<|SeqAt.readOf s.heap)[i]'(by rw[L];exact R)=ds[i]:=by simp only[L]
   rw[WM,Array.getElem_toList] at z;exact z
  have J:w.size<=JJ:=by
   have:w.size=l.length:=X.length;rw[this,JV];exact Qq U<|by decide
  refine call_meets F.slot_list_remove ⟨_,g,rfl⟩ F.entry_list_remove (F.args_list_remove_2 _ _) (BC a w n v (λy=>PyData.eqv (SeqAt.readOf s.heap y) c) j (t▸K) (by rw[at_ j _ K];exact M) (λi V N=>by rw[at_ i V (t▸V)];exact WF.mpr<|O i N) J)
   ⟨g,SeqAt.items_eqAt T r σ P.1<|by exact zr4<|zmn2 u (ij λd W=>(k d W).2),?_⟩
  have N:j<w.size:=t▸K;obtain⟨f,o⟩:=CP.upd (S:=CC) (o':= .list (l.eraseIdx j)) m e rfl (KM.update s.heap a (Obj.mapSeq λx=>x.eraseIdxIfInBounds j)) (Kd _ g rfl) ⟨w.eraseIdxIfInBounds j,_,rfl,by
   rw[show(w.eraseIdxIfInBounds j).toList=w.toList.eraseIdx j by unfold Array.eraseIdxIfInBounds;rw[dif_pos N,Array.toList_eraseIdx]];exact X.eraseIdx j⟩
  exact⟨.none,_,kQ,f,o,⟨rfl,rfl⟩,q⟩
end
section
open PySem.W
noncomputable def HE(i j:Int):Int:=reduceHash<|Builtin.Tuple.tupleHashOf [hashInt i,hashInt j]
theorem xc:((Qc 64).map λi=>HE ((i / 8:Nat):Int) ((i % 8:Nat):Int)).Nodup:=by decide+kernel
theorem uo{L:Type}{l:List L}(h:l.Nodup){i j:Nat}{a:L}(N:l[i]? =Ja a)(p:l[j]? =Ja a):i=j:=by
 obtain⟨o,q⟩:=QF.mp N;obtain⟨r,σ⟩:=QF.mp p;exact(List.getElem_inj h).mp (q.trans σ.symm)
theorem B0{a b c d:Nat}(h:a=c)(k:b=d):HE a b=HE c d:=by subst h k;rfl
theorem wY{a b Y c:Nat}(E:a<8)(p:b<8)(J:Y<8)(h:c<8)(e:HE a b=HE Y c):a=Y/\b=c:=by
 have N:=xc;generalize w:(λi:Nat=>HE ((i / 8:Nat):Int) ((i % 8:Nat):Int))=f at N;have at_:∀x y:Nat,x<8->y<8->((Qc 64).map f)[8*x+y]? =Ja (HE x y):=λx y hx W=>by
  have u:f (8*x+y)=HE x y:=(congrFun w<|8*x+y).symm.trans (B0 (zh1 W)<|zh2 W);have T:(Qc 64)[8*x+y]? =Ja (8*x+y):=Wp<|zh3 hx W;exact(Qu (f:=f) (l:=Qc 64) (i:=8*x+y)).trans ((Uj (Wa f) T).trans (Uj Ja u))
 have:=uo N (at_ a b E p)<|(at_ Y c J h).trans (Uj Ja e.symm);exact⟨(zh1 p).symm.trans ((Uj (· / 8) this).trans (zh1 h)),(zh2 p).symm.trans ((Uj (· % 8) this).trans (zh2 h))⟩
theorem vv{prog:Jn}{w:Jm}{k v:List KA}(h:ec k=Jc)(S:ec v=Jc)(e:(tk prog w).hash k=(tk prog w).hash v):k=v:=by
 obtain⟨a,b,rfl,N,p⟩:=ju h;obtain⟨Y,c,rfl,J,O⟩:=ju S;obtain⟨rfl,rfl⟩:=wY N p J O (show HE a b=HE Y c from e);rfl
theorem lH{L:Type}{f:L->Int}:∀ {l:List L},(l.map f).Nodup->(l.filter λx=>f x==c).length<=1
 |[]=>λo0=>QS _
 |a::l=>λh=>by
  obtain⟨N,Y⟩:=Qy.mp h;by_cases q:(f a==c)=Jc
  .rw[Ke (p:=λx=>f x==c) q];have:l.filter (λx=>f x==c)=[]:=Wy.mpr λx hx z=>N<|Ql.mpr ⟨x,hx,(Uh z).trans (Uh q).symm⟩;rw[this];exact Qz _
  .rw[Kf (p:=λx=>f x==c) q];exact lH Y
section
variable{C:Cx}{Z:PH}{s:Je}{A:Jj}{Er:Jf->Je->Prop}
theorem vC{Q:Bool->Je->Prop}(q:(tk C.prog C.w).is s.heap k a)(h:Q Jd s):Jh (Mo C) A (Builtin.Dict.quietEq (.ref a)) Q Er s:=by
 show Jh _ _ (specialOf (.ref a) "__eq__">>=_) _ _ _;exact YG<|wpAny_specialOf (show s.TypeIs (.ref a) "tuple" from IsTupleKey.typeIs q) F.slot_tuple_eq.lookup (YH h)
theorem p0{id:String}{d:Jg}{o:Jp}{es:Array JN}{ep:Nat}{xs:List (List KA×Jg×Jf)}{Q:Array JN->Je->Prop}(w:s.heap.get? d=Ja o)(v:o.data= .dict es ep)(O:es.toList=xs.map (JL (tk C.prog C.w)))(hi:∀x∈xs,(tk C.prog C.w).is s.heap x.1 x.2.1)
  (c:(xs.map (·.1)).Nodup)(E:∀x∈xs,ec x.1=Jc)(h:Q es s):Jh (Mo C) A (Builtin.Dict.entriesForEmpty id d) Q Er s:=by
 have n:(es.toList.map (·.hash)).Nodup:=by
  rw[O,QE];have:xs.map ((λx=>x.hash)∘JL (tk C.prog C.w))=(xs.map (·.1)).map (tk C.prog C.w).hash:=by rw[QE];rfl
  rw[this,QP,Wl];rw[QP] at c;refine c.imp_of_mem λ{a b} T R Y q=>Y ?_;obtain⟨x,hx,rfl⟩:=Ql.mp T;obtain⟨y,W,rfl⟩:=Ql.mp R;exact vv (E x hx) (E y W) q
 unfold Builtin.Dict.entriesForEmpty;refine YG<|wpAny_dictEntries w v ?_;refine YG ?_;rw[<-Array.forIn_toList];refine wpAny_forIn_list _ (λr o0 g=>g=s/\∀e∈r,e∈es.toList) _ ?_ ?_ _ _ ⟨rfl,λo0 e=>e⟩
 .rintro e r b g ⟨rfl,l⟩;obtain⟨x,hx,rfl⟩:=Ql.mp<|O▸l e Ko;refine YG<|vC (hi x hx) ?_;have D:¬ (es.filter (·.hash==(JL (tk C.prog C.w) x).hash)).size>1:=by
   rw[<-YB,Array.toList_filter];exact QW.mpr<|lH n
  refine wy rfl<|wn D (YH ⟨rfl,λN S=>l N<|Kn _ S⟩)
 .rintro b g ⟨rfl,o0⟩;exact YH h
theorem vr{nm:String}{d o:Jg}{od X:Jp}{es:Array JN}{xs:List (List KA×Jg×Jf)}{Q:Unit->Je->Prop}(V:d≠o)(S:(o==JC)=Jd)(Y:s.heap.get? d=Ja od)(I:od.data= .dict #[] p)
  (w:s.heap.get? o=Ja X)(v:X.data= .dict es ep)(O:es.toList=xs.map (JL<|tk C.prog C.w))(hi:∀x∈xs,(tk C.prog C.w).is s.heap x.1 x.2.1)(g:(xs.map (·.1)).Nodup)(E:∀x∈xs,ec x.1=Jc)(n:xs≠ [])(hsz:xs.length<=JJ)
  (h:Q () {s with heap:=s.heap.update d (Obj.mapDictKeys λo0=>es)}):Jh (Mo C) A (Builtin.Dict.mergeDict nm d o) Q Er s:=by
 have l:es.size=xs.length:=J9 O;have i:es.size≠0:=λq=>n<|Yh.mp (l.symm.trans q);unfold Builtin.Dict.mergeDict;refine wn (λq=>V<|eq_of_beq q) ?_;unfold Builtin.Dict.showsAll;refine YG<|wn (c:=(o==JC)=Jc) (by rw[S];exact QB) (YH ?_);refine YG<|wpAny_dictEntries w v ?_;have f:(es.all λe=>(keyPart e.key).isSome)=Jd:=by
  obtain⟨x,r,rfl⟩:=WO n;rw[<-Array.all_toList,O,Qo,List.all_cons];rfl
 refine wy (by rw[f,YC];rfl) ?_;refine YG<|wpAny_dictEntries Y I ?_;refine wy rfl ?_;refine YG<|p0 w v O hi g E ?_;refine wy (by rw[show es.isEmpty=Jd from by rw[Array.isEmpty_eq_false_iff];exact λq=>i (by rw[q];rfl)];rfl) ?_;exact YG<|wpAny_updateDictKeysTo Y I (YH h) (by rw[l];exact Qq hsz<|Wf _)
theorem tn{ks:List (List KA)}(m:CP C Z s.heap)(e:Z a=Ja (.dict ks l))(hz:ks≠ []/\ks.length<=Dg/\∀k∈ks,ec k=Jc)(q:Ex (.dict ks l) Z Q)(N:s.heap.objs.size≠JC):
  Jh (Mo C) A (call (.type "dict") [.ref a]) (VP C CC Z s Q) Er s:=by
 refine lp ?_;intro z j;obtain⟨P,D⟩:=m.dict e;obtain⟨o,U,p,g,R,E,J,L,M⟩:=D.of;have r:P.length=ks.length:=by rw[<-D.ks,Qd]
 have d:s.heap.objs.size≠a:=λq=>absurd (QO g) (by rw[q];exact KJ _);refine callType_codes (Q₁:=λobj w=>obj= .ref s.heap.objs.size/\w={s with heap:=s.heap.push {cls:= .type "dict",data:= .dict #[]}}) F.kt_called_dict (F.kt_typeCall_dict_1 _) F.entry_dict_init (kt_code_dict_new _ ⟨rfl,rfl⟩) ?_;rintro obj w ⟨rfl,rfl⟩;have Y:(⟨s.heap.push {cls:= .type "dict",data:= .dict #[]},s.gens,s.drawn,s.toks,s.os⟩:Je).TypeIs (.ref s.heap.objs.size) "dict":=⟨_,QK _ rfl,rfl⟩
 have X:(s.heap.push {cls:= .type "dict",data:= .dict #[]}).get? a=Ja o:=Qs _ g;have T:(⟨s.heap.push {cls:= .type "dict",data:= .dict #[]},s.gens,s.drawn,s.toks,s.os⟩:Je).TypeIs (.ref a) "dict":=⟨_,X,R.1⟩
 refine⟨Y,F.args_dict_init_2 _ _,?_⟩;unfold Builtin.«dict.__init__»;refine YG ?_;unfold Builtin.Dict.selfAndRest;refine YG<|wpAny_notOrdered_dict Y ?_;show Jh _ _ (pure (s.heap.objs.size,[Value.ref a])) _ _ _;refine YH ?_;show Jh _ _ (Builtin.Dict.updateFrom "dict.__init__" s.heap.objs.size (.ref a) [] .none) _ _ _;unfold Builtin.Dict.updateFrom;refine YG<|wpAny_typeOf T ?_;refine wn (by decide) ?_;refine YG ?_;unfold Builtin.Dict.merge;refine YG ?_;unfold Builtin.Dict.readDirectly;refine YG<|wpAny_isInstance T isSubtype_dict_dict ?_;refine wn (by decide) ?_;refine YG<|wpAny_specialOf T F.slot_dict_iter.lookup (YH ?_);refine wy (by decide+kernel) ?_;refine YG<|YH ?_;refine vr d D.sys (QK _ rfl) rfl X E J (λx hx=> ?_) M (λx hx=>hz.2.2 _<|D.ks▸Ql.mpr ⟨x,hx,rfl⟩) (λq=>hz.1<|by rw[<-D.ks,q];rfl) (by rw[r,JV];exact FS hz.2.1 rfl) ?_
 .exact((D.ka x hx).step (CF.push CC Z s.heap _)).is
 show Jh _ _ (Builtin.Dict.addKeywords s.heap.objs.size []>>=_) _ _ _;refine YG<|YH (YH ⟨rfl,?_⟩);have kp:∀b W,s.heap.get? b=Ja W->((s.heap.push {cls:= .type "dict",data:= .dict #[]}).update s.heap.objs.size (Obj.mapDictKeys λo0=>U)).get? b=Ja W:=λb W h=>(Heap.get?_update_ne _ _ _ _<|WI (QO h)).trans (Qs _ h);refine VP.keptNew (o:= .dict ks l) m kp ⟨rfl,rfl⟩ (kF _) (Kd _ (QK _ rfl) rfl) (λS t=> ?_) q N;exact⟨U,_,P,⟨rfl,rfl,rfl⟩,rfl,J,D.ks,D.ks▸M,λy K=>(D.ka y K).step t,D.v.step t⟩
end
end
noncomputable def Gj:List String:=["int","bool","list","tuple","dict"]
section
variable{C:Cx}{A:Jj}{Er:Jf->Je->Prop}{Z:PH}{s:Je}{Q:C9}{n:Nat}{fr:List Js}
theorem nq(h:T∈Gj):YW (.type "NoneType") (.type T)=pure Jd:=by
 rw[JP];simp only[Gj,Qw,Ky,or_false] at h
 rcases h with rfl|rfl|rfl|rfl|rfl<;>kernel_rfl
theorem wh(h:T∈Gj):YW (.type "str") (.type T)=pure Jd:=by
 rw[JP];simp only[Gj,Qw,Ky,or_false] at h
 rcases h with rfl|rfl|rfl|rfl|rfl<;>kernel_rfl
theorem sub_int(h:T∈Gj):YW (.type "int") (.type T)=pure (decide (T="int")):=by
 rw[JP];simp only[Gj,Qw,Ky,or_false] at h
 rcases h with rfl|rfl|rfl|rfl|rfl<;>kernel_rfl
theorem ot(h:T∈Gj):YW (.type "bool") (.type T)=pure (decide (T="bool")||decide (T="int")):=by
 rw[JP];simp only[Gj,Qw,Ky,or_false] at h
 rcases h with rfl|rfl|rfl|rfl|rfl<;>kernel_rfl
theorem n7(h:T∈Gj):YW (.type "list") (.type T)=pure (decide (T="list")):=by
 rw[JP];simp only[Gj,Qw,Ky,or_false] at h
 rcases h with rfl|rfl|rfl|rfl|rfl<;>kernel_rfl
theorem mj(h:T∈Gj):YW (.type "tuple") (.type T)=pure (decide (T="tuple")):=by
 rw[JP];simp only[Gj,Qw,Ky,or_false] at h
 rcases h with rfl|rfl|rfl|rfl|rfl<;>kernel_rfl
theorem d9(h:T∈Gj):typeOf (.type T)=pure (.type "type"):=by
 simp only[Gj,Qw,Ky,or_false] at h
 rcases h with rfl|rfl|rfl|rfl|rfl<;>kernel_rfl
theorem eE(h:U≠T):(Value.type T==Value.type U)=Jd:=by
 have:Value.type T≠Value.type U:=λe=>h<|by injection e with e;exact e.symm
 simpa using this
theorem AH(Y:T∈Gj)(m:CP C Z s.heap)(r:VR C Z s.heap p v)(H:isiV G Z p [T]=Ja b)(q:Q (.bool b) Z):
  Jh (Mo C) A (call (.builtin "isinstance") [v,.type T]) (VP C CC Z s Q) Er s:=by
 have fin:∀tk,VP C CC Z s Q (.bool b) {s with toks:=tk}:=λtk=>VP.here m rfl ⟨rfl,rfl⟩ gA q
 induction p using PV.casesOn with
 |none=>
  change _=_ at r;subst r;obtain rfl:=sj (show Ja Jd=Ja b from H);have ne:T≠"NoneType":=by rintro rfl;exact absurd Y<|by decide
  exact Jz (S:=λo0 R s=>(λs:Je=>s.TypeIs .none "NoneType") s/\∀K,R (.ok<|.ret (.bool Jd)) {s with toks:=K})
   (λo0 o0 o0 o0 o0 E=>isinstance_outer<|Answers.of_false_none (eE ne) (d9 Y) (nq Y) 0 0 _ _ _ _ _ E) ⟨rfl,fin⟩
 |str x=>
  obtain⟨t,rfl⟩:=r;obtain rfl:=sj (show Ja Jd=Ja b from H);have ne:T≠"str":=by rintro rfl;exact absurd Y<|by decide
  exact Jz (isinstance_false_str (eE ne) (d9 Y)<|wh Y)<|fin _
 |int i=>
  obtain⟨t,rfl⟩:=r;replace H:=Option.some.inj (show Ja ([T].contains "int")=Ja b from H);simp only[KZ,Yj,Bool.or_false] at H;by_cases h:T="int"
  .subst h;have:b=Jc:=by rw[<-H];decide
   subst this;exact Jz (YN (d9 Y)<|by rw[sub_int Y];rfl) ⟨typeIs_int _ _ _,fin _⟩
  .have:b=Jd:=by rw[<-H];simpa using λe=>h e.symm
   subst this;exact Jz (isinstance_false_int (eE h) (d9 Y)<|by rw[sub_int Y];simp[h])<|fin _
 |bool x=>
  change _=_ at r;subst r;replace H:=Option.some.inj (show Ja ([T].contains "bool"||[T].contains "int")=Ja b from H);simp only[KZ,Yj,Bool.or_false] at H;by_cases h:T="bool"\/T="int"
  .have:b=Jc:=by rw[<-H];rcases h with rfl|rfl<;>decide
   subst this;exact Jz (YN (Tx:="bool") (d9 Y) (by rw[ot Y];rcases h with rfl|rfl<;>rfl)) ⟨rfl,fin _⟩
  .have N:T≠"bool":=λe=>h<|.inl e;have B:T≠"int":=λe=>h<|.inr e;have:b=Jd:=by rw[<-H];simp[Ne.symm N,Ne.symm B]
   subst this;exact Jz (isinstance_false_bool (eE N) (d9 Y)<|by rw[ot Y];simp[N,B])<|fin _
 |tup l=>
  obtain⟨a,k,w,rfl,o0,N,o0⟩:=r;replace H:=Option.some.inj (show Ja ([T].contains "tuple")=Ja b from H);simp only[KZ,Yj,Bool.or_false] at H;by_cases h:T="tuple"
  .subst h;have:b=Jc:=by rw[<-H];decide
   subst this;exact Jz (YN (Tx:="tuple") (d9 Y)<|by rw[mj Y];rfl) ⟨⟨_,N,rfl⟩,fin _⟩
  .have:b=Jd:=by rw[<-H];simpa using λe=>h e.symm
   subst this;exact Jz (isinstance_false_tuple (eE h) (d9 Y)<|by rw[mj Y];simp[h]) ⟨⟨_,N,rfl⟩,fin _⟩
 |ref a=>
  change _=_ at r;subst r;replace H:isiO G [T] (Z a)=Ja b:=H
  induction M:Z a with
  |none=>rw[M] at H;exact Dw H
  |some o=>
  rw[M] at H
  induction o with
  |list l=>
   replace H:=Option.some.inj (show Ja ([T].contains "list")=Ja b from H);simp only[KZ,Yj,Bool.or_false] at H;obtain⟨w,k,N,o0⟩:=m.list M;by_cases h:T="list"
   .subst h;have:b=Jc:=by rw[<-H];decide
    subst this;exact Jz (YN (Tx:="list") (d9 Y)<|by rw[n7 Y];rfl) ⟨⟨_,N,rfl⟩,fin _⟩
   .have:b=Jd:=by rw[<-H];simpa using λe=>h e.symm
    subst this;exact Jz (isinstance_false_list (eE h) (d9 Y)<|by rw[n7 Y];simp[h]) ⟨⟨_,N,rfl⟩,fin _⟩
  |_=>exact Dw H
 |scr l=>exact Dw H
end
theorem mD(h:CO n k=Ja j):seqIndex? k n=Ja j/\j<n:=by
 unfold CO at h;unfold seqIndex?
 split at h
 .rename_i i
  split at h
  .rename_i N
   obtain rfl:=sj h;refine⟨?_,by exact(KV i).mpr N⟩;simp only[show ¬k<0 by exact KQ.mpr i,if_false];rw[Ug (by simp only[QL,Ui];exact⟨i,N⟩)]
  .exact ns h
 .rename_i i
  split at h
  .rename_i N
   obtain rfl:=sj h;refine⟨?_,by exact(KV N).mpr (zng i)⟩;simp only[show k<0 by exact Int.not_le.mp i,if_true];rw[Ug (by simp only[QL,Ui];exact⟨N,zng i⟩)]
  .exact ns h
theorem lK(h:CO n k=Ja j): -(n:Int)<=k/\k<n:=by
 unfold CO at h;by_cases i:0<=k
 .rw[Ug i] at h;by_cases N:k<n
  .exact⟨QQ (Int.neg_nonpos_of_nonneg<|QU _) i,N⟩
  .rw[Uf N] at h;exact ns h
 .rw[Uf i] at h;by_cases N:0<=k+n
  .exact⟨Int.add_nonneg_iff_neg_le.mp N,KO (Int.not_le.mp i)<|QU _⟩
  .rw[Uf N] at h;exact ns h
theorem lZ{k:Int}(i:0<=k)(h:CO n k=Ja j):j=k.toNat:=by
 unfold CO at h;rw[Ug i] at h
 split at h
 .obtain rfl:=sj h;rfl
 .exact ns h
theorem sY(i:¬0<=k)(h:CO n k=Ja j):j=(k+n).toNat:=by
 unfold CO at h;rw[Uf i] at h
 split at h
 .obtain rfl:=sj h;rfl
 .exact ns h
section
variable{C:Cx}{A:Jj}{Er:Jf->Je->Prop}{Z:PH}{s:Je}{Q:C9}{n:Nat}{fr:List Js}
theorem nG(slice:Jl)(o i:Jf):∃ops,subscripted slice Jd o i=operate ops (getItem o i):=by
 induction slice using Expr.casesOn with
 |Slice l u st p=>induction st with
  |none=>exact⟨_,rfl⟩
  |some x=>exact⟨_,rfl⟩
 |_=>exact⟨_,rfl⟩
theorem jn{vs:Array Jf}{R:Jf->Je->Prop}(l:s.heap.IsList a vs)(hz:vs.size<=10000000)(H:CO vs.size k=Ja j)(hx:vs[j]? =Ja x)(h:R x s):
  Jh (Mo C) A (getItem (.ref a)<|.int k t) R Er s:=by
 obtain⟨b,V⟩:=lK H;by_cases i:0<=k
 .have e:=lZ i H;subst e;exact wpAny_getItem_list l i (by exact zi1 hz V) hx h
 .have e:=sY i H;subst e;exact wpAny_getItem_list_neg l (by exact Int.not_le.mp i) b (by exact zi2 hz b) hx h
theorem wg(u:A.units+100<Ua)(m:CP C Z s.heap)(e:Z a=Ja (.dict ks l))(r:VR C Z s.heap i w)(M:DM i=Ja k)(hx:Dh ks l k=Ja x)
  (q:Q x Z):Jh (Mo C) A (PyProof.Rows.subscriptTail v c (.ref a) w) (VP C CC Z s Q) Er s:=by
 obtain⟨P,D⟩:=m.dict e;obtain⟨b,rfl,h⟩:=kZ M r
 rcases D.look (k:=k) with⟨z,o0⟩|⟨p,y,z1,z2,z3⟩
 .exact sn<|hx.symm.trans z
 .obtain rfl:=sj<|hx.symm.trans z1;obtain⟨o,d⟩:=nG c (.ref a)<|.ref b;exact PyProof.Rows.tail_any (T:="dict") D.of.typeIs slot_dict_getitem.lookup (wpAny_getItem_heap (iJ u) h.is D.of z2<|VP.here m rfl ⟨rfl,rfl⟩ z3 q) d
theorem zU(m:CP C Z s.heap)(r:VR C Z s.heap p v)(V:VR C Z s.heap i w)(e:Hr Z p i=Ja x)(hz:∀k,Gv Z p=Ja k->k<=10000000)
  (q:Q x Z):Jh (Mo C) A (PyProof.Rows.subscriptTail g c v w) (VP C CC Z s Q) Er s:=by
 refine lp ?_;intro I σ
 induction p using PV.casesOn with
 |ref a=>
  change _=_ at r;subst r;replace e:G6 i (Z a)=Ja x:=e
  induction M:Z a with
  |none=>rw[M] at e;exact Dw e
  |some o=>
  rw[M] at e
  induction o with
  |list l=>
   replace e:psubL l i=Ja x:=e
   induction i using PV.casesOn with
   |int k=>
   replace e:((CO l.length k).bind λj=>l[j]?)=Ja x:=e;obtain⟨t,rfl⟩:=V;obtain⟨J,X,N,Y⟩:=m.list M;have b:J.size=l.length:=by simpa using Y.length
   obtain⟨j,H,hx⟩:=Qn.mp e;obtain⟨K,L,R⟩:=Y.get j x hx;obtain⟨z,d⟩:=nG c (.ref a)<|.int k t;have h:=hz l.length (by show lenO (Z a)=_;rw[M];rfl);exact PyProof.Rows.tail_any (T:="list") ⟨_,N,rfl⟩ slot_list_getitem.lookup
    (jn ⟨_,N,rfl,X,rfl⟩ (by exact D8 (QV b) h) (by rw[b];exact H) (by simpa using L)<|VP.here m rfl (CS.refl s) R q) d
   |_=>exact Dw e
  |_=>exact Dw e
 |tup l=>
  induction i using PV.casesOn with
  |int k=>
   replace e:((CO l.length k).bind λj=>l[j]?)=Ja x:=e;obtain⟨a,X,J,rfl,f,N,Y⟩:=r;obtain⟨t,rfl⟩:=V;have b:J.size=l.length:=by simpa using Y.length
   obtain⟨j,H,hx⟩:=Qn.mp e;obtain⟨K,L,R⟩:=Y.get j x hx;obtain⟨z,d⟩:=nG c (.ref a)<|.int k t;have h:=hz l.length rfl;obtain⟨B,W⟩:=lK H;exact PyProof.Rows.tail_any (T:="tuple") ⟨_,N,rfl⟩ F.slot_tuple_getitem.lookup
    (P.getItem_tuple N (by exact zi2 h B) (by exact zi1 h W) (by rw[b];exact(mD H).1) (by simpa using L)<|VP.here m rfl (CS.refl s) R q) d
  |_=>first|exact D6 e|exact Dw e|cases e
 |scr l=>
  induction i using PV.casesOn with
  |int k=>
   replace e:(((CO l.length k).bind λj=>l[j]?).map PV.int)=Ja x:=e;obtain⟨a,o,X,J,rfl,N,Y,G,b,O⟩:=r;obtain⟨t,rfl⟩:=V;obtain⟨y,E,rfl⟩:=Qt.mp e;obtain⟨j,H,hx⟩:=Qn.mp E;obtain⟨u,D⟩:=O j y hx;obtain⟨z,d⟩:=nG c (.ref a)<|.int k t;have h:=hz l.length rfl;exact PyProof.Rows.tail_any (T:="list") ⟨_,m.base _ _ N,Y⟩ slot_list_getitem.lookup
    (jn ⟨_,m.base _ _ N,Y,X,G⟩ (by exact D8 (QV b) h) (by rw[b];exact H) D<|VP.here m rfl (CS.refl s) (dB _) q) d
  |_=>first|exact D6 e|exact Dw e|cases e
 |_=>first|exact D6 e|exact Dw e|cases e
theorem lX{vs:Array Jf}{R:Unit->Je->Prop}(T:s.heap.get? l=Ja (D5 vs X))(hz:vs.size<=10000000)(H:CO vs.size k=Ja j)
  (h:R () {s with heap:=s.heap.update l (Obj.mapSeq (·.setIfInBounds j v))}):Jh (Mo C) A (setItem (.ref l) (.int k t) v) R Er s:=by
 have Y:s.TypeIs (.ref l) "list":=⟨_,T,rfl⟩
 obtain⟨N,E⟩:=lK H;obtain⟨d,S⟩:=mD H;have hx:vs[j]? =Ja vs[j]:=Kl S;have V:Builtin.List.listFitsIndex k=Jc:=by
  unfold Builtin.List.listFitsIndex;simp only[QL,Ui];exact⟨zi2 hz N,zi1 hz E⟩
 unfold setItem
 try with_reducible refine YJ ?_
 first|refine YG (YH ?_)|skip
 refine YG (wpAny_sequenceKey Y (by decide) ?_);refine YG (wpAny_callSpecial?_slot (name:=Qb "__setitem__") Y slot_list_setitem
  (YM slot_list_setitem Y entry_list_setitem ?_ (args_list_setitem _ _ _)))
 show Jh _ _ (Builtin.List.listSubscript? (.int k t)>>=_) _ _ s;refine YG<|wpAny_listSubscript_int V ?_;have fin:Jh (Mo C) A.in1.in1 (setSeqItemAt l j v>>=λo0=>ret .none) (λf g=>∃w,f= .done (.ret w)/\Jh (Mo C) A (pure ()) R Er g) Er s:=
  YG (YZ T rfl<|YH ⟨.none,rfl,YH h⟩)
 clear V
 induction k with
 |ofNat i=>
  have b:j=i:=lZ (QU i) H;subst b;show Jh _ _ ((seqItemAt l j>>=λr=>pure (r.map (j,·)))>>=_) _ _ s;refine YG<|YG (wpAny_seqItemAt T rfl<|YH ?_);rw[hx];show Jh _ _ (setSeqItemAt l j v>>=_) _ _ s;refine YG<|wpAny_setSeqItemAt T rfl ?_
  first
   |exact YG<|YH (YH ⟨.none,rfl,YH h⟩)
   |exact YH ⟨.none,rfl,YH h⟩
 |negSucc i=>
  show Jh _ _ ((Builtin.List.listItems (.ref l)>>=λx=>pure ((seqIndex? (Int.negSucc i) x.size).bind λi=>x[i]?.map (i,·)))>>=_) _ _ s;refine YG<|YG ?_;show Jh _ _ (seqItems? (.ref l)>>=_) _ _ s;refine YG<|wpAny_seqItems T rfl (YH<|YH ?_);rw[d];simp only[KF,hx,Wc];refine YG<|wpAny_setSeqItemAt T rfl ?_
  first
   |exact YG<|YH (YH ⟨.none,rfl,YH h⟩)
   |exact YH ⟨.none,rfl,YH h⟩
end
abbrev Ei(C:Cx)(A:Jj)(Z:PH)(s:Je)(t:Sem Jf)(Q:C9)(X:Dl):Prop:=Jh (Mo C) A t (VP C CC Z s Q) (XP C CC Z s X) s
abbrev EOKs(C:Cx)(A:Jj)(Z:PH)(s:Je)(t:Sem (List Jf))(Q:List PV->PH->Prop)(X:Dl):Prop:=Jh (Mo C) A t (VPs C CC Z s Q) (XP C CC Z s X) s
section
variable{C:Cx}{A:Jj}{Z:PH}{s:Je}{Q:C9}{X:Dl}
theorem Ei.then{R:Jf->Je->Prop}(h:Ei C A Z s t Q' X)
  (k:∀v W p Z1,VR C Z1 W.heap p v->CP C Z1 W.heap->CF CC Z s.heap Z1 W.heap->CS s W->Q' p Z1->R v W):Jh (Mo C) A t R (XP C CC Z s X) s:=
 VP.to h k λo0 o0 x=>x
theorem Ei.after{d:PH}{m:Je}(st:CF CC Z s.heap d m.heap)(r:CS s m)(h:Ei C A d m t Q X):Jh (Mo C) A t (VP C CC Z s Q) (XP C CC Z s X) m:=
 YI h (λo0 o0 x=>VP.from st r x) λo0 o0 x=>XP.from st r x
end
section
variable{C:Cx}{G:Gx}{mg mb:Jq->Option Jf}{A:Jj}{env:Js}{ρ:CH}{Z:PH}{s:Je}{Q:C9}{X:Dl}
noncomputable def eC:List Jl->Bool
 |[]=>Jc
 | .Starred .. ::_=>Jd
 |_::r=>eC r
theorem eU(hy:∀z q,y≠ .Starred z q)(hr:eC r=Jc):eC (y::r)=Jc:=by
 induction y using Expr.casesOn with
 |Starred z q=>exact absurd rfl<|hy z q
 |_=>exact hr
theorem ck(h:∀x p,e≠ .Starred x p):JD (e::r) env=(Jd,Jw e env)::JD r env:=by
 rcases e with⟨⟩<;>first|rfl|exact absurd rfl<|h _ _
theorem jd:∀ {es:List Jl},eC es=Jc->(JX pos (JD es env)).any (·.1)=Jd
 |[]=>λo0=>rfl
 |e::r=>λh=>by
  have n:∀x p,e≠ .Starred x p:=by rintro x p rfl;exact ft h
  have T:eC r=Jc:=by rcases e with⟨⟩<;>first|exact h|exact ft h
  rw[ck n];have:=jd (pos:=pos) T;simp only[JX,Qo,List.any_cons,Bool.false_or] at this ⊢;exact this
theorem c8{R:Jf->Je->Prop}{Er:Jf->Je->Prop}(kp:Kp C f)(D:eC es=Jc)
  (h:Jh (Mo C) A (J2<|backTo pos (JD es env)) (λvs m=>(∀b o,C.B.get? b=Ja o->m.heap.get? b=Ja o)/\Jh (Mo C) A (call f<|first++vs) R Er m) Er s):
  Jh (Mo C) A (callWith pos f first (JX pos<|starEach es env)<|backToKw pos (J3 [] env)) R Er s:=by
 obtain⟨k,q,L⟩:=kp;refine W.callWith_of (P:=λh=>∀b o,C.B.get? b=Ja o->h.get? b=Ja o) ?_ (λh v=>⟨k,q,L.keeps v⟩) ?_
 .rw[jd D];rfl
 .induction es using List.casesOn with
  |nil=>
   show Jh (Mo C) A (evalArgs f Jc [] []) _ _ s;unfold evalArgs;show Jh (Mo C) A (J2 []>>=_) _ _ s;refine YG (YI h (λvs g S=> ?_) λo0 o0 x=>x);exact YG<|YH (YJ<|YG (YH<|YG (YH<|YH S)))
  |cons e r=>
   have n:∀x p,e≠ .Starred x p:=by rintro x p rfl;exact ft D
   rw[ck n] at h ⊢;exact Calls.evalArgs_plain h
end
noncomputable def BI.val:BI->Jf
 | .len=> .builtin "len"| .all=> .builtin "all"| .sum=> .builtin "sum"| .int=> .type "int"| .list=> .type "list"| .min=> .builtin "min"| .sorted=> .builtin "sorted"| .dict _=> .type "dict"| .max=> .builtin "max"| .max2=> .builtin "max"
theorem BI.kp(C:Cx)(b:BI):Kp C b.val:=by
 rcases b with o0|o0|o0|o0|o0|o0|o0|⟨⟨⟩⟩|o0|o0<;>exact⟨.machine,.inr<|.inl rfl,W.Looks.of_pure rfl⟩
theorem BI.boot(b:BI):Y0 (Qb b.nm)=Ja b.val:=by
 rcases b with o0|o0|o0|o0|o0|o0|o0|⟨⟨⟩⟩|o0|o0<;>decide+kernel
theorem BI.mem(b:BI):b.nm∈Ef:=by
 rcases b with o0|o0|o0|o0|o0|o0|o0|⟨⟨⟩⟩|o0|o0<;>decide
section
variable{C:Cx}{A:Jj}{Er:Jf->Je->Prop}{Z:PH}{s:Je}{Q:C9}
theorem CZ.one(r:CZ C Z h [p] vs):∃v,vs=[v]/\VR C Z h p v:=by
 obtain⟨v,q,rfl,N,rfl⟩:=r;exact⟨v,rfl,N⟩
theorem Cg{b:BI}{args:List PV}(U:A.handled=Jb)(d:A.units+100<Ua)(m:CP C Z s.heap)(r:CZ C Z s.heap args vs)(w:wbi b args Z Q)(W:s.heap.objs.size≠JC):
  Jh (Mo C) A (call b.val vs) (VP C CC Z s Q) Er s:=by
 have F:∀ {K:PV->Prop} {f:Jf},HC K args->(∀p v,K p->VR C Z s.heap p v->Jh (Mo C) A (call f [v]) (VP C CC Z s Q) Er s)->Jh (Mo C) A (call f vs) (VP C CC Z s Q) Er s:=λw k=>by
  obtain⟨p,rfl,w⟩:=xH w;obtain⟨v,rfl,S⟩:=r.one;exact k p v w S
 have E:∀ {K:List PV->Prop} {p:PV} {v:Jf} {f:Jf},Es Z K p->VR C Z s.heap p v->(∀a l,K l->Z a=Ja (.list l)->Jh (Mo C) A (call f [.ref a]) (VP C CC Z s Q) Er s)->Jh (Mo C) A (call f [v]) (VP C CC Z s Q) Er s:=λw S k=>by
  obtain⟨a,l,rfl,e,j⟩:=eR w;rw[show _=Value.ref a from S];exact k a l j e
 induction b with
 |len=>
  exact F w λp v w S=>by
   obtain⟨n,e,w⟩:=gR w;exact yR m S e w.1 w.2
 |all=>
  exact F w λp v w S=>E w S λa l w e=>by
   obtain⟨bs,h,w⟩:=kD w;exact z9 U m e h w
 |sum=>
  exact F w λp v w S=>E w S λa l w e=>by
   obtain⟨bs,h,w⟩:=jq w;exact zV U m e h w
 |int=>
  exact F w λp v w S=>by
   obtain⟨x,rfl,w⟩:=k9 w;rw[show v= .bool x from S];exact call_int_bool<|VP.here m rfl ⟨rfl,rfl⟩ (dB _) w
 |list=>
  exact F w λp v w S=>by
   rcases w with w|w
   .obtain⟨a,L,l,rfl,e,j⟩:=iN w;rw[show v= .ref a from S];exact uT U m e j.1 j.2
   rcases wl w with⟨l,rfl,w⟩|⟨a,l,rfl,e,B⟩
   .obtain⟨a,k,vs,rfl,O,N,Y⟩:=S;exact qP (.inr rfl) m N Y w.1 w.2
   .rw[show v= .ref a from S];obtain⟨vs,k,N,Y⟩:=m.list e;exact qP (.inl rfl) m N Y B.1 B.2
 |min=>
  exact F w λp v w S=>E w S λa l w e=>by
   obtain⟨is,i,w⟩:=jq w;exact Ai U m e i w.1 w.2
 |max=>
  exact F w λp v w S=>E w S λa l w e=>by
   obtain⟨is,i,w⟩:=jq w;exact z6 U m e i w.1 w.2
 |max2=>
  obtain⟨p,q,rfl,w⟩:=xa w;obtain⟨u,vs,rfl,P,r⟩:=r;obtain⟨v,rfl,S⟩:=CZ.one r;obtain⟨x,rfl,w⟩:=dW w;obtain⟨y,rfl,j⟩:=dW w;obtain⟨t,rfl⟩:=P;obtain⟨g,rfl⟩:=S;exact xW U m j
 |sorted=>
  exact F w λp v w S=>E w S λa l w e=>by
   obtain⟨is,i,w⟩:=jq w;exact sp m e i w.1 w.2
 |dict=>
  exact F w λp v w S=>by
   obtain⟨a,L,l,rfl,e,j⟩:=iN w;rw[show v= .ref a from S];exact tn m e j.1 j.2 W
end
section
set_option backward.match.sparseCases true
def Mv(F:Jg->Prop)(h h':Ji):Prop:=∀c o,¬F c->h.get? c=Ja o->h'.get? c=Ja o
def F9(C:Cx)(Z:PH)(h:Ji)(F:Jg->Prop):Prop:=
 ∀c,F c->A3 (C.B.get? c=Jb) (Z c=Jb) (∀v n,h.get? c≠Ja (Eu v n))
section
variable{C:Cx}{F:Jg->Prop}{Z:PH}{h h':Ji}
theorem Mv.refl:Mv F h h:=λo0 o0 o0 e=>e
theorem Mv.mono{I:Jg->Prop}(x:Mv F h h')(k:∀c,F c->I c):Mv I h h':=λc o f e=>x c o (λq=>f (k c q)) e
mutual
theorem VR.mv(mv:Mv F h h')(fo:F9 C Z h F):∀ (p:PV) (v:Jf),VR C Z h p v->VR C Z h' p v
 | .none=>λo0 e=>e
 | .bool _=>λo0 e=>e
 | .int _=>λo0 e=>e
 | .str _=>λo0 e=>e
 | .ref _=>λo0 e=>e
 | .scr _=>λo0 e=>e
 | .tup l=>λv e=>by
  obtain⟨a,n,vs,T,es,e2,V⟩:=e;refine⟨a,n,vs,T,es,mv a _ (λf=>by obtain⟨o0,o0,q⟩:=fo a f;exact q vs n e2) e2,CZ.mv mv fo l _ V⟩
theorem CZ.mv(mv:Mv F h h')(fo:F9 C Z h F):∀ (l:List PV) (vs:List Jf),CZ C Z h l vs->CZ C Z h' l vs
 |[]=>λo0 e=>e
 |p::ps=>λvs e=>by
  obtain⟨v,r,T,e2,X⟩:=e;exact⟨v,r,T,VR.mv mv fo p v e2,CZ.mv mv fo ps r X⟩
end
theorem D3.mv(mv:Mv F h h')(fo:F9 C Z h F)(x:D3 C Z h k a):D3 C Z h' k a:=by
 obtain⟨n,v,m,g,i⟩:=x;refine⟨n,v,m,mv a _ (λf=>by obtain⟨o0,o0,q⟩:=fo a f;exact q v m g) g,i⟩
theorem OR.mv(mv:Mv F h h')(fo:F9 C Z h F):∀ (p:PO) (o:Jp),OR C Z h p o->OR C Z h' p o:=λp o r=>by
 induction p with
 |list l=>obtain⟨w,n,m,X⟩:=r;exact⟨w,n,m,CZ.mv mv fo _ _ X⟩
 |dict=>obtain⟨s,H,P,x,d,e,k,nd,a,v⟩:=r;exact⟨s,H,P,x,d,e,k,nd,λy W=>(a y W).mv mv fo,CZ.mv mv fo _ _ v⟩
 |fd=>obtain⟨s,H,e,k,v,z⟩:=r;exact⟨s,H,e,k,λi f p N Y=>(v i f p N Y).imp λu q=>⟨q.1,VR.mv mv fo _ _ q.2⟩,z⟩
 |_=>exact r
theorem CP.mv(m:CP C Z h)(mv:Mv F h h')(fo:F9 C Z h F):CP C Z h' where
 base:=λb o e=>mv b o (λf=>by obtain⟨q,o0,o0⟩:=fo b f;exact sn<|e.symm.trans q)<|m.base b o e
 new:=m.new
 objs:=λa o e=>by
  obtain⟨W,N,p⟩:=m.objs a o e;by_cases f:F a
  .obtain⟨o0,q,o0⟩:=fo a f;exact ns<|q.symm.trans e
  .exact⟨W,mv a W f N,p.mv mv fo⟩
 rich:=m.rich
theorem CF.mv{S:Jg->Prop}{h₀:Ji}(st:CF S B h₀ Z h)(mv:Mv F h h')(W:∀c,F c->h₀.get? c=Jb):CF S B h₀ Z h' where
 keep:=λb o e s=>by
  obtain⟨G,i,g,l⟩:=st.keep b o e s;exact⟨G,i,mv b i (λf=>by exact ns<|(W b f).symm.trans e) g,l⟩
 grow:=st.grow
 fix:=st.fix
 live:=λb e=>by
  by_cases f:F b
  .exact W b f
  .refine st.live b ?_
   induction q:h.get? b with
   |none=>rfl
   |some o=>exact sn<|(mv b o f q).symm.trans e
theorem CF.mvS{S:Jg->Prop}{h₀:Ji}(st:CF S B h₀ Z h)(mv:Mv F h h')(W:∀c,F c->h₀.get? c=Jb\/(S c/\(∀o,h₀.get? c=Ja o->¬isSeq o)/\∃o,h'.get? c=Ja o)):CF S B h₀ Z h' where
 keep:=λb o e s=>by
  obtain⟨g,i,y,l⟩:=st.keep b o e s;by_cases f:F b
  .rcases W b f with q|⟨N,σ,P,Q⟩
   .exact ns<|q.symm.trans e
   .exact⟨g,P,Q,λx=>absurd (x N)<|σ o e⟩
  .exact⟨g,i,mv b i f y,l⟩
 grow:=st.grow
 fix:=st.fix
 live:=λb e=>by
  by_cases f:F b
  .rcases W b f with q|⟨o0,o0,P,Q⟩
   .exact q
   .exact sn<|Q.symm.trans e
  .refine st.live b ?_
   induction q:h.get? b with
   |none=>rfl
   |some o=>exact sn<|(mv b o f q).symm.trans e
theorem CU.mv{env:Js}(x:CU C env L Z h)(mv:Mv F h h')(fo:F9 C Z h F)(fl:¬F env.locals)(f:∀y c,env.cells.lookup y=Ja c->¬F c):CU C env L Z h' where
 fn:=x.fn
 glob:=x.glob
 blt:=x.blt
 ns:=by
  obtain⟨m,n,hv⟩:=x.ns;exact⟨m,Ns.like n λo e=>⟨o,mv _ o fl e,.refl o⟩,λy p T w=>by obtain⟨v,a,b⟩:=hv y p T w;exact⟨v,a,b.mv mv fo⟩⟩
 cell:=λy p T w=>by
  obtain⟨c,v,a,b,d⟩:=x.cell y p T w;exact⟨c,v,a,IsCell.like b λo e=>⟨o,mv _ o (f y c a) e,.refl o⟩,d.mv mv fo⟩
 newL:=x.newL
 newC:=λy c e=>by
  obtain⟨a,v,b⟩:=x.newC y c e;exact⟨a,v,IsCell.like b λo g=>⟨o,mv _ o (f y c e) g,.refl o⟩⟩
 baseL:=x.baseL
 baseC:=x.baseC
 apart:=x.apart
 hasC:=x.hasC
theorem G3.mv(f:G3 C Z h l)(mv:Mv F h h')(W:∀env∈l,∀L,env.frame=Ja L->¬F L):G3 C Z h' l:=λenv O=>by
 obtain⟨k,L,o,s,n,e,w,X,u,V⟩:=f env O;exact⟨k,L,o,s,n,e,w,X,mv L o (W env O L e) u,V⟩
theorem Dy.mv(x:Dy C n A l Z h)(mv:Mv F h h')(f:∀env∈l,∀L,env.frame=Ja L->¬F L):Dy C n A l Z h':=
 ⟨x.depth,x.units,x.stack,x.frs.mv mv f,x.calm⟩
theorem ib{o:Jp}(e:h.get? c=Ja o)(q:o.cls≠ .type "tuple"):∀vs n,h.get? c≠Ja (Eu vs n):=λvs n x=>by obtain rfl:=sj<|e.symm.trans x;exact q rfl
end
structure GZ(C:Cx)(A:Jj)(t:Jl)(I:Jg)(fp:List Jg)(xs:List PV)(chk:PH->Prop)(St:Nat->PH->Ji->Prop):Prop where
 hdn:A.handled=Jb
 step:∀ {i:Nat} {S:Jg->Prop} {Z:PH} {h:Ji} {Z':PH} {h':Ji},St i Z h->CF S Z h Z' h'->(∀b∈fp,¬S b)->St i Z' h'
 mv:∀ {i:Nat} {F:Jg->Prop} {Z:PH} {h h':Ji},St i Z h->Mv F h h'->F9 C Z h F->(∀b∈fp,¬F b)->St i Z h'
 fok:∀ {i:Nat} {Z:PH} {h:Ji},St i Z h->F9 C Z h (· ∈fp)
 item:∀ {i:Nat} {x:PV} {Z:PH} {s:Je} {R:Option Jf->Je->Prop} {Er:Jf->Je->Prop},xs[i]? =Ja x->CP C Z s.heap->chk Z->St i Z s.heap->
  (∀v s1,(∀ (K:Unit->Je->Prop) (Er':Jf->Je->Prop),(∀s2,VR C Z s2.heap x v->CP C Z s2.heap->Mv (· ∈fp) s.heap s2.heap->St (i+1) Z s2.heap->CS s s2->K () s2)->
   Jh (Mo C) A (letOwnedTupleGo t (.ref I) v) K Er' s1)->R (Ja v) s1)->Jh (Mo C) A (pyNext (.ref I)) R Er s
 done:∀ {Z:PH} {s:Je} {R:Option Jf->Je->Prop} {Er:Jf->Je->Prop},CP C Z s.heap->chk Z->St xs.length Z s.heap->
  (∀s2,CP C Z s2.heap->Mv (· ∈fp) s.heap s2.heap->CS s s2->R Jb s2)->Jh (Mo C) A (pyNext<|.ref I) R Er s
 self:∀ {i:Nat} {Z:PH} {s:Je} {R:Jf->Je->Prop} {Er:Jf->Je->Prop},St i Z s.heap->R (.ref I) s->Jh (Mo C) A (YS<|.ref I) R Er s
section
variable{C:Cx}{A:Jj}{Z:PH}{h h':Ji}
theorem fU{o:Jp}{s:Je}{K:Unit->Je->Prop}{Er:Jf->Je->Prop}(ho:s.heap.get? I=Ja o)(hc:o.cls= .type n)
  (hn:["enumerate","zip","dict_itemiterator","dict_reverseitemiterator","odict_iterator","itertools.zip_longest","itertools.pairwise"].contains n=Jd)(h:K () s):
  Jh (Mo C) A (letOwnedTupleGo t (.ref I) v) K Er s:=by
 have key:Jh (Mo C) A (do
   let(.ref r,.ref a):=(Value.ref I,v)|return
   let o<-load r
   match o.cls,o.data with
   | .type n,.fields vs=>
    if ["enumerate","zip","dict_itemiterator","dict_reverseitemiterator","odict_iterator","itertools.zip_longest","itertools.pairwise"].contains n&&vs[0]? ==Ja (Jx a) then
     rule "for.unpacks-the-owned-tuple"
     updateField r 0 .none
   |_,_=>pure ()) K Er s:=by
  induction v using Value.casesOn with
  |ref a=>
   refine YG<|wpAny_load ho ?_;rw[hc]
   induction hd:o.data with
   |fields vs=>
    dsimp only;rw[hn];simp only[Bool.false_and,Bool.false_eq_true,if_false];exact YH h
   |_=>exact YH h
  |_=>exact YH h
 induction t using Expr.casesOn with
 |Tuple a b c=>exact key
 |List a b=>exact key
 |_=>exact YH h
theorem fC(b:C.B.get? I=Jb)(N:Z I=Jb){o:Jp}(e:h.get? I=Ja o)(q:o.cls≠ .type "tuple"):F9 C Z h (· ∈ [I]):=λc f=>by
 have f:=Qh.mp f;subst f;exact⟨b,N,ib e q⟩
theorem hV(k:Heap.ExtBut I h h'):Mv (· ∈ [I]) h h':=λc o f e=>k c o (λq=>f (Qh.mpr q)) e
theorem GZ.list(U:A.handled=Jb)(t:Jl)(I a:Jg)(l:List PV):
  GZ C A t I [I] l (λZ=>Z a=Ja (.list l)) (λi Z h=>Z I=Jb/\C.B.get? I=Jb/\h.IsListIter I a i) where
 hdn:=U
 step:=λz M S=>by
  obtain⟨N,b,o,p,J,O⟩:=z;obtain⟨G,o',Y,V⟩:=M.keep _ o p N;have y:=V λx=>absurd x<|S _ (.head _);exact⟨G,b,o',Y,y.1.trans J,y.2.2.1.trans O⟩
 mv:=λz mv f W=>by obtain⟨N,b,o,p,J⟩:=z;exact⟨N,b,o,mv _ o (W _<|.head _) p,J⟩
 fok:=λz=>by obtain⟨N,b,o,p,J,O⟩:=z;exact fC b N p<|by rw[J];simp
 item:=λ{i x Z s R r} hx m c ⟨N,b,w⟩ X=>by
  obtain⟨D,n,g,k⟩:=m.list c;obtain⟨v,T,e2⟩:=k.get i x hx;refine wpAny_pyNext_list_item w ⟨_,g,rfl,n,rfl⟩ (x:=v) (by simpa using T) λh' H B=> ?_;obtain⟨L,σ,j,Q⟩:=id w;have f:=fC b N σ (by rw[j];simp);have mv:Mv (· ∈ [I]) s.heap h':=hV B.extBut;refine X v _ λK E P=> ?_;obtain⟨o2,u,d,w6⟩:=id H;exact fU u d (by decide)<|P _ (e2.mv mv f) (m.mv mv f) mv ⟨N,b,H⟩ ⟨rfl,rfl⟩
 done:=λ{Z s R r} m c ⟨N,b,w⟩ X=>by
  obtain⟨D,n,g,k⟩:=m.list c;have q:D.size=l.length:=by simpa using k.length
  refine wpAny_pyNext_list_end U w ⟨_,g,rfl,n,rfl⟩ (by simp[q]) λh' e=> ?_;obtain⟨L,σ,j,Q⟩:=w;exact X _ (m.mv (hV e)<|fC b N σ (by rw[j];simp)) (hV e) ⟨rfl,rfl⟩
 self:=λz X=>by obtain⟨o0,o0,w⟩:=z;exact wpAny_pyIter_listiter w X
theorem GZ.tuple(U:A.handled=Jb)(t:Jl)(I a:Jg)(l:List PV):
  GZ C A t I [I] l (λZ=>True) (λi Z h=>Z I=Jb/\C.B.get? I=Jb/\h.IsTupleIter I a i/\VR C Z h (.tup l) (.ref a)) where
 hdn:=U
 step:=λz M S=>by
  obtain⟨N,b,⟨o,p,J,O⟩,hv⟩:=z;obtain⟨k1,o',Y,V⟩:=M.keep _ o p N;have k:=V λx=>absurd x<|S _ (.head _);exact⟨k1,b,⟨o',Y,k.1.trans J,k.2.2.1.trans O⟩,hv.step M⟩
 mv:=λz mv f W=>by obtain⟨N,b,⟨o,p,J⟩,hv⟩:=z;exact⟨N,b,⟨o,mv _ o (W _<|.head _) p,J⟩,hv.mv mv f⟩
 fok:=λz=>by obtain⟨N,b,⟨o,p,J,O⟩,o0⟩:=z;exact fC b N p<|by rw[J];simp
 item:=λ{i x Z s R q} hx m Q ⟨N,b,w,hv⟩ X=>by
  have u:=hv;obtain⟨a',n,D,T,r,g,c⟩:=u;cases T;obtain⟨v,T,e2⟩:=c.get i x hx;refine wpAny_pyNext_tuple_item w ⟨_,g,rfl,n,rfl⟩ (x:=v) (by simpa using T) λh' H B=> ?_;obtain⟨L,σ,j,y⟩:=id w;have f:=fC b N σ (by rw[j];simp);have mv:Mv (· ∈ [I]) s.heap h':=hV B.extBut;refine X v _ λK E P=> ?_;obtain⟨o2,w4,d,w6⟩:=id H;exact fU w4 d (by decide)<|P _ (e2.mv mv f) (m.mv mv f) mv ⟨N,b,H,hv.mv mv f⟩ ⟨rfl,rfl⟩
 done:=λ{Z s R q} m Q ⟨N,b,w,hv⟩ X=>by
  obtain⟨a',n,D,T,r,g,c⟩:=hv;cases T;have G:D.size=l.length:=by simpa using c.length
  refine wpAny_pyNext_tuple_end U w ⟨_,g,rfl,n,rfl⟩ (by simp[G]) λh' e=> ?_;obtain⟨L,σ,j,y⟩:=w;exact X _ (m.mv (hV e)<|fC b N σ (by rw[j];simp)) (hV e) ⟨rfl,rfl⟩
 self:=λz X=>by obtain⟨o0,o0,w,o0⟩:=z;exact wpAny_pyIter_tupleiter w X
theorem GZ.range(U:A.handled=Jb)(t:Jl)(I:Jg)(n:Nat):
  GZ C A t I [I] ((Qc n).map λ(i:Nat)=> .int i) (λZ=>True) (λi Z h=>Z I=Jb/\C.B.get? I=Jb/\i<=n/\IsRangeIter h I i (n-i) 1) where
 hdn:=U
 step:=λz σ S=>by
  obtain⟨N,b,T,p⟩:=z;obtain⟨P,o,k,y⟩:=σ.keep _ _ p N;have a:=y λx=>absurd x<|S _ (.head _);rw[a.eq (by simp)] at k;exact⟨P,b,T,k⟩
 mv:=λz mv f j=>by obtain⟨N,b,T,p⟩:=z;exact⟨N,b,T,mv _ _ (j _<|.head _) p⟩
 fok:=λz=>by obtain⟨N,b,T,p⟩:=z;exact fC b N p<|by simp
 item:=λ{i x Z s R r} hx m c ⟨N,b,T,w⟩ X=>by
  have V:i<n:=by
   rcases Nat.lt_or_ge i n with q|q
   .exact q
   .exact ns<|(KX<|by simp;exact q).symm.trans hx
  have ex:x= .int i:=by
   rw[Qu,Wp V] at hx;simpa using hx.symm
  subst ex;refine wpAny_pyNext_range_item w (by exact Int.sub_pos_of_lt<|Kc.mpr V) λh' l B=> ?_;have f:=fC b N w (by simp);have mv:Mv (· ∈ [I]) s.heap h':=hV B.extBut;refine X _ _ λK E H=> ?_;refine fU l rfl (by decide)<|H _ ⟨_,rfl⟩ (m.mv mv f) mv ⟨N,b,V,?_⟩ ⟨rfl,rfl⟩;have:((n:Int)-(i:Int)-1)=(n:Int)-((i+1:Nat):Int):=by exact WX _ _ _
  rw[this] at l;exact l
 done:=λ{Z s R r} m c ⟨N,b,T,w⟩ X=>by
  refine wpAny_pyNext_range_end U w (by simp) λh' e=> ?_;exact X _ (m.mv (hV e)<|fC b N w (by simp)) (hV e) ⟨rfl,rfl⟩
 self:=λz X=>by obtain⟨o0,o0,o0,w⟩:=z;exact wpAny_pyIter_rangeiter w X
structure EnAt(C:Cx)(e it a:Jg)(i:Nat)(Z:PH)(h:Ji):Prop where
 ne:Z e=Jb
 ni:Z it=Jb
 be:C.B.get? e=Jb
 bi:C.B.get? it=Jb
 en:∃old,IsEnum h e it i old
 li:h.IsListIter it a i
theorem EnAt.fok(x:EnAt C e t a i Z h):F9 C Z h (· ∈ [e,t]):=λc f=>by
 obtain⟨old,N⟩:=x.en;obtain⟨o,p,J,o0⟩:=x.li
 rcases Qw.mp f with rfl|f
 .exact⟨x.be,x.ne,ib N<|by simp⟩
 .rw[Qh.mp f];exact⟨x.bi,x.ni,ib p<|by rw[J];simp⟩
theorem oG:∀ {l:List PV} {n i:Nat} {x:PV},(EF n l)[i]? =Ja x->∃p,l[i]? =Ja p/\x= .tup [.int ((n+i:Nat):Int),p]
 |[],_,_,_,h=>by exact ns h
 |p::r,n,i,x,h=>by
  induction i using Nat.casesOn with
  |zero=>obtain rfl:=sj h;exact⟨p,rfl,rfl⟩
  |succ i=>
   obtain⟨q,N,Y⟩:=oG (l:=r) (n:=n+1) (i:=i) h;exact⟨q,N,by rw[Y,QI];rfl⟩
theorem pI:∀ (l:List PV) (n:Nat),(EF n l).length=l.length
 |[],_=>rfl
 |_::r,n=>Uj (· +1)<|pI r (n+1)
theorem GZ.enum(U:A.handled=Jb)(E:List Jl)(tk:Nat)(pos:Y5)(e g a:Jg)(d:e≠g)(l:List PV):
  GZ C A (.Tuple E tk pos) e [e,g] (EF 0 l) (λZ=>Es Z (λT=>T=l)<|.ref a) (λi Z h=>EnAt C e g a i Z h) where
 hdn:=U
 step:=λx t S=>by
  obtain⟨old,N⟩:=x.en;obtain⟨o,Y,J,M⟩:=x.li;obtain⟨k1,o1,k,O⟩:=t.keep _ _ N x.ne;rw[(O λq=>absurd q<|S _ (.head _)).eq (by simp)] at k;obtain⟨H,u,j2,B⟩:=t.keep _ o Y x.ni;have y:=B λq=>absurd q<|S _ (.tail _<|.head _);exact⟨k1,H,x.be,x.bi,⟨old,k⟩,u,j2,y.1.trans J,y.2.2.1.trans M⟩
 mv:=λx mv z W=>by
  obtain⟨old,N⟩:=x.en;obtain⟨o,Y,J⟩:=x.li;exact⟨x.ne,x.ni,x.be,x.bi,⟨old,mv _ _ (W _<|.head _) N⟩,o,mv _ o (W _<|.tail _ (.head _)) Y,J⟩
 fok:=λx=>x.fok
 item:=λ{i x Z s R Er} hx m σ t X=>by
  obtain⟨o0,T,b,L,rfl⟩:=eR σ;cases b;obtain⟨p,hp,rfl⟩:=oG hx;obtain⟨D,n,P,j⟩:=m.list L;obtain⟨v,e2,r⟩:=j.get i p hp;obtain⟨old,N⟩:=t.en;refine wpAny_pyNext_enum_item N t.li ⟨_,P,rfl,n,rfl⟩ (x:=v) (by simpa using e2) d λh' y1 y2 y3 y4 y5=> ?_;refine X _ _ λK aa Q=> ?_;refine wpAny_letOwnedTupleGo_enum y1 λY z2 G=> ?_;have mv:Mv (· ∈ [e,g]) s.heap Y:=λc o f w=>G.extBut _ _ (λq=>f<|q▸ .head _)<|y5 c o (λq=>f<|q▸ .head _) (λq=>f<|q▸ .tail _ (.head _)) w;have z:=t.fok;have V:s.heap.objs.size≠e:=WJ<|QO N;obtain⟨u,f1,f2⟩:=y2;refine Q _ ⟨s.heap.objs.size,0,#[.int i s.toks,v],rfl,m.fresh<|Qz _,G.extBut _ _ V y3,.int i s.toks,[v],rfl,⟨s.toks,by rw[KR]⟩,v,[],rfl,r.mv mv z,rfl⟩ (m.mv mv z) mv ⟨t.ne,t.ni,t.be,t.bi,⟨v,z2⟩,u,G.extBut _ _ (Ne.symm d) f1,f2⟩ ⟨rfl,rfl⟩
 done:=λ{Z s R Er} m σ t X=>by
  obtain⟨o0,T,b,L,rfl⟩:=eR σ;cases b;obtain⟨D,n,P,j⟩:=m.list L;obtain⟨old,N⟩:=t.en;have hn:D.size=T.length:=by simpa using j.length
  rw[pI] at t N;refine wpAny_pyNext_enum_end U N t.li ⟨_,P,rfl,n,rfl⟩ (by simp[hn]) λh' I=> ?_;have mv:Mv (· ∈ [e,g]) s.heap h':=λc o f w=>I c o (λq=>f<|q▸ .tail _ (.head _)) w;exact X _ (m.mv mv t.fok) mv ⟨rfl,rfl⟩
 self:=λt X=>by obtain⟨old,N⟩:=t.en;exact wpAny_pyIter_enum N X
def qa(t:Jl):Prop:=X3 λe k p=>t= .Tuple e k p
def t1(C:Cx)(A:Jj)(k:IK)(v:List Jf)(R Er:Jf->Je->Prop)(s:Je):Prop:=
 match k with
 | .val=>Jh (Mo C) A (YS<|v.headD .none) R Er s
 | .range=>Jh (Mo C) A (call (.type "range") v) (λx W=>Jh (Mo C) A (YS x) R Er W) Er s
 | .enum=>Jh (Mo C) A (call (.type "enumerate") v) (λx W=>Jh (Mo C) A (YS x) R Er W) Er s
def mW(C:Cx)(k:IK):Prop:=∀ (A:Jj) (t:Jl) (w:List PV) (v:List Jf) (Z:PH) (s:Je) (K:List PV->(PH->Prop)->PH->Prop) (R E:Jf->Je->Prop),
 A.handled=Jb->(k= .enum->qa t)->CZ C Z s.heap w v->CP C Z s.heap->src k w Z (λx c=>x.length<=Dg/\K x c Z)->
 (∀x c I f S m W,GZ C A t I f x c S->S 0 m W.heap->CP C m W.heap->CF CC Z s.heap m W.heap->CS s W->(∀b∈f,s.heap.get? b=Jb/\b<W.heap.objs.size)->x.length<=Dg->K x c m->R (.ref I) W)->
 t1 C A k v R E s
theorem iS(h:Ji)(e:h.objs.size<=a):h.get? a=Jb:=by
 induction q:h.get? a with
 |none=>rfl
 |some o=>exact absurd (QO q)<|QW.mpr e
theorem yh{K:List PV->(PH->Prop)->Prop}(s:src .val vs Z K):(X2 λa l=>A3 (vs=[.ref a]) (Z a=Ja (.list l)) (K l λZ'=>Z' a=Ja (.list l)))\/(∃l,vs=[.tup l]/\K l λo0=>True):=by
 rcases vs with o0|⟨p,o0|⟨o0,o0⟩⟩
 .exact s.elim
 .rcases p with o0|o0|o0|o0|l|a|o0<;>first|exact s.elim|exact .inr ⟨l,rfl,s⟩|skip
  obtain⟨o0,l,e,T,w⟩:=eR (show Es Z (λl=>K l λZ'=>Z' a=Ja (.list l)) (.ref a) from s);cases e;exact .inl ⟨a,l,rfl,T,w⟩
 .rcases p with⟨⟩<;>exact s.elim
theorem mQ{h:Ji}{i:Ji}(n:i.objs.size<=h.objs.size)(R:b∈ [h.objs.size]):i.get? b=Jb/\b<(h.push o).objs.size:=by
 rw[Qh] at R;subst R;exact⟨iS _ n,by rw[KN];exact QN _⟩
theorem uB:mW C .val:=by
 intro A t J H Z s K R E U _ hv m G X;show Jh (Mo C) A (YS<|H.headD .none) R E s
 rcases yh G with⟨a,l,rfl,e,w⟩|⟨l,rfl,w⟩
 .obtain⟨v,rfl,d⟩:=hv.one;rw[show v= .ref a from d];obtain⟨J,n,g,c⟩:=m.list e;refine wpAny_pyIter_list ⟨_,g,rfl,n,rfl⟩ ?_;exact X _ _ s.heap.objs.size _ _ Z _ (GZ.list U t _ a l) ⟨m.fresh<|Qz _,m.freshB<|Qz _,⟨_,QK _ rfl,rfl,rfl⟩⟩ (m.push _) (.push _ _ _ _) ⟨rfl,rfl⟩ (λb o=>mQ (Qz _) o) w.1 w.2
 .obtain⟨v,rfl,d⟩:=hv.one;have hv:=d;obtain⟨a,n,J,rfl,I,g,c⟩:=d;refine wpAny_pyIter_tuple ⟨_,g,rfl,n,rfl⟩ ?_;exact X _ _ s.heap.objs.size _ _ Z _ (GZ.tuple U t _ a l) ⟨m.fresh<|Qz _,m.freshB<|Qz _,⟨_,QK _ rfl,rfl,rfl⟩,hv.step<|.push CC _ _ _⟩ (m.push _) (.push _ _ _ _) ⟨rfl,rfl⟩ (λb o=>mQ (Qz _) o) w.1 w.2
theorem qy:mW C .range:=by
 intro A t w a Z s K R r U _ hv m E X;show Jh (Mo C) A (call (.type "range") a) (λx W=>Jh (Mo C) A (YS x) R r W) r s
 match w,E with
 |[p],E=>
  obtain⟨n,rfl,q,l,H⟩:=dW (show Df (λn=> -1000000<n/\((Qc n.toNat).map λ(i:Nat)=>PV.int i).length<=Dg/\K ((Qc n.toNat).map λ(i:Nat)=>PV.int i) (λo0=>True) Z) p from E);obtain⟨v,rfl,tk,rfl⟩:=hv.one;have T:n<=1000000:=by
   simp only[Qd,QA,Dg] at l;exact Int.toNat_le.mp l
  have z:Builtin.Range.rangeSize 0 n 1=(n.toNat:Int):=by rw[rangeSize_one 0 n];exact zrs n
  refine call_range_1 ?_;refine wpAny_pyIter_range (IsRange.new ..) (small_one (by decide) (by decide) (by exact QQ (by decide)<|Yg q)<|by exact Int.lt_of_le_of_lt T<|by decide) ?_;rw[z];have c:=m.push {cls:= .type "range",data:= .fields #[.int 0 s.toks,.int n tk,.int 1 (s.toks+1)]};refine X _ _ _ _ _ Z _ (GZ.range U t _ n.toNat) ⟨c.fresh<|Qz _,c.freshB<|Qz _,QS _,?_⟩ (c.push _) ((CF.push _ _ _ _).trans (.push _ _ _ _)) ⟨rfl,rfl⟩ (λb g=>mQ (by rw[KN];exact Wf _) g) l H;have e:=QK (s.heap.push {cls:= .type "range",data:= .fields #[.int 0 s.toks,.int n tk,.int 1 (s.toks+1)]}) (o:={cls:= .type "range_iterator",data:= .fields #[Jx 0,Jx n.toNat,Jx 1]}) rfl
  simpa using e
theorem sv:mW C .enum:=by
 intro A t J H Z s K R r U L hv m E V;show Jh (Mo C) A (call (.type "enumerate") H) (λx W=>Jh (Mo C) A (YS x) R r W) r s;obtain⟨N,tk,q,rfl⟩:=L rfl
 match J,E with
 |[p],E=>
  obtain⟨a,l,rfl,e,w⟩:=eR (show Es Z (λl=>(EF 0 l).length<=Dg/\K (EF 0 l) (λX=>Es X (λT=>T=l) p) Z) p from E);obtain⟨v,rfl,d⟩:=hv.one;rw[show v= .ref a from d];obtain⟨J,n,P,j⟩:=m.list e;refine call_enumerate_list ⟨_,P,rfl,n,rfl⟩ λh' z1 z2 z k=> ?_;refine wpAny_pyIter_enum z1 ?_;have g:∀c,s.heap.objs.size<=c->s.heap.get? c=Jb:=λc σ=>iS _ σ;refine V _ _ (s.heap.objs.size+1) _ _ Z _ (GZ.enum U N tk q (s.heap.objs.size+1) s.heap.objs.size a (Nat.succ_ne_self _) l) ⟨m.fresh<|Wf _,m.fresh<|Qz _,m.freshB<|Wf _,m.freshB<|Qz _,⟨_,z1⟩,z2⟩ (m.more k) (.more k) ⟨rfl,rfl⟩ (λb o=> ?_) w.1 w.2
  rcases Qw.mp o with rfl|o
  .exact⟨g _<|Wf _,by show _<h'.objs.size;rw[z];exact QN _⟩
  .rw[Qh.mp o];exact⟨g _<|Qz _,by show _<h'.objs.size;rw[z];exact WC<|QN _⟩
end
end
theorem CH.get_put:∀ {ρ:CH} {y:String} {q:PV},(ρ.put x v).get y=Ja q->(y=x/\q=v)\/(y≠x/\ρ.get y=Ja q):=λ{ρ} y q=>by
 induction ρ with
 |nil=>exact λh=>ns h
 |cons p r i=>
  obtain⟨z,o⟩:=p;intro h;rw[CH.put_c] at h;rw[CH.get_c];by_cases T:z=x
  .rw[Ug T,CH.get_c] at h;by_cases W:z=y
   .rw[Ug W] at h;exact .inl ⟨W.symm.trans T,(sj h).symm⟩
   .rw[Uf W] at h;rw[Uf W];exact .inr ⟨λe=>W<|T.trans e.symm,h⟩
  .rw[Uf T,CH.get_c] at h;by_cases W:z=y
   .rw[Ug W] at h ⊢;exact .inr ⟨λe=>T<|W.trans e,h⟩
   .rw[Uf W] at h ⊢;exact i h
theorem CH.get_put_ne:∀ {ρ:CH} {y:String},y≠x->(ρ.put x v).get y=ρ.get y:=λ{ρ} y h=>by
 induction ρ with
 |nil=>rfl
 |cons p r i=>
  obtain⟨z,o⟩:=p;rw[CH.put_c,CH.get_c];by_cases T:z=x
  .rw[Ug T,CH.get_c,Uf λe=>h<|e.symm.trans T,Uf λe=>h (e.symm.trans T)]
  .rw[Uf T,CH.get_c,i]
theorem CH.get_puts_ne:∀ {xs:List String} {vs:List PV} {ρ:CH} {y:String},y∉xs->(ρ.puts xs vs).get y=ρ.get y
 |[],vs=>λh=>rfl
 |x::xs,[]=>λh=>rfl
 |x::xs,v::vs=>λh=>by
  show(CH.puts (CH.put _ x v) xs vs).get _=_;rw[CH.get_puts_ne (λe=>h<|Kn _ e),CH.get_put_ne (by rintro rfl;exact h Ko)]
theorem jZ{tg:Tg}{ρ:CH}(h:(Eg tg ρ).get y=Ja q):y≠".0"/\y∉tg.names/\ρ.get y=Ja q:=by
 have h:(if ".0"=y then Jb else CH.get ((tg.names.map λx=>(x,Jb))++ρ) y)=Ja q:=h;by_cases i:".0"=y
 .exact ns<|(Ug i).symm.trans h
 rw[Uf i] at h;refine⟨λe=>i e.symm,?_⟩;generalize tg.names=l at h
 induction l with
 |nil=>exact⟨by simp,h⟩
 |cons x r W=>
  have h:(if x=y then Jb else CH.get (r.map (λx=>(x,Jb))++ρ) y)=Ja q:=h;by_cases hx:x=y
  .exact ns<|(Ug hx).symm.trans h
  .rw[Uf hx] at h;obtain⟨a,b⟩:=W h;exact⟨by simp only[Qw,not_or];exact⟨λe=>hx e.symm,a⟩,b⟩
set_option tactic.hygienic true in
theorem sX{ρ ρ':CH}(h:bindC tg v ρ=Ja ρ')(e:(Eg tg ρ).get y=Ja q):ρ'.get y=Ja q:=by
 obtain⟨o0,n,o0⟩:=jZ e
 induction tg with
 |name x=>
  obtain rfl:=sj (show Ja ((Eg (.name x) ρ).put x v)=Ja ρ' from h);exact(CH.get_put_ne λq=>n<|Qh.mpr q).trans e
 |tup P=>
  induction v using PV.casesOn with
  |tup w=>
   have h:(if w.length=P.length then Ja ((Eg (.tup P) ρ).puts P w) else Jb)=Ja ρ':=h;by_cases l:w.length=P.length
   .obtain rfl:=sj<|(Ug l).symm.trans h;exact(CH.get_puts_ne n).trans e
   .exact ns<|(Uf l).symm.trans h
  |_=>exact ns h
section
variable{C:Cx}{A:Jj}{Er:Jf->Je->Prop}{env:Js}{ρ:CH}{Z:PH}{s:Je}
theorem CU.weak{ρ':CH}(x:CU C env ρ Z h)(k:∀y q,ρ'.get y=Ja q->ρ.get y=Ja q):CU C env ρ' Z h:=
 ⟨x.fn,x.glob,x.blt,by obtain⟨m,a,b⟩:=x.ns;exact⟨m,a,λy p e=>b y p<|k y p e⟩,λy p e=>x.cell y p<|k y p e,x.newL,x.baseL,x.baseC,x.newC,x.apart,x.hasC⟩
noncomputable def slot(env:Js)(xs:List String):Jg->Prop:=λb=>∃x∈xs,(env.kindOf (Qb x)=Ja .local/\b=env.locals)\/(env.kindOf (Qb x)=Ja .cell/\env.cells.lookup (Qb x)=Ja b)
structure GM(C:Cx)(env:Js)(F:Jg->Prop)(Z:PH)(h h':Ji):Prop where
 mv:Mv F h h'
 fok:F9 C Z h F
 frs:∀l,G3 C Z h l->G3 C Z h' l
 sim:CP C Z h'
 has:∀c,F c->(∀o,h.get? c=Ja o->¬isSeq o)/\∃o,h'.get? c=Ja o/\¬isSeq o
theorem cS{o:Jp}(h:o.data= .dict es n):¬isSeq o:=λz=>by obtain⟨x,n,e⟩:=z;rw[h] at e;cases e
theorem gy{o:Jp}(h:o.data= .cell v):¬isSeq o:=λz=>by obtain⟨x,n,e⟩:=z;rw[h] at e;cases e
theorem gU{h:Ji}(e:h.get? c=Ja o)(q:¬isSeq o):∀vs n,h.get? c≠Ja (Eu vs n):=λvs n x=>by obtain rfl:=sj<|e.symm.trans x;exact q ⟨vs,n,rfl⟩
theorem kX{K:Unit->Je->Prop}(W:CU C env ρ Z s.heap)(m:CP C Z s.heap)
  (hx:env.kindOf (Qb x)=Ja .local\/env.kindOf (Qb x)=Ja .cell)(hv:VR C Z s.heap p v)
  (hK:∀s',GM C env (slot env [x]) Z s.heap s'.heap->CU C env (ρ.put x p) Z s'.heap->CS s s'->K () s'):Jh (Mo C) A (storeName env (Qb x) v) K Er s:=by
 rcases hx with hx|hx
 .obtain⟨mm,g,I⟩:=W.ns;have hp:(env.scope.kind== .class||(env.scope.kind== .module&&env.locals !=env.globals))=Jd:=by rw[W.fn];rfl
  refine wpAny_storeName_local hx g (λH n h=> ?_) hp;have j:∀c,slot env [x] c->c=env.locals:=by
   rintro c ⟨y,Q,q|q⟩
   .exact q.2
   .rw[Qh] at Q;subst Q;rw[hx] at q;cases q.1
  obtain⟨o,es,ep,Y,G,o0⟩:=id g;obtain⟨i,aa,ab,J,S,o0⟩:=id n;have mv:Mv (slot env [x]) s.heap H:=λc o f e=>h.extBut c o (λq=>f ⟨x,Qh.mpr rfl,.inl ⟨hx,q⟩⟩) e;have N:F9 C Z s.heap (slot env [x]):=λc f=>by
   have:=j c f;subst this;exact⟨W.baseL,W.newL,gU Y<|cS G⟩
  refine hK _ ⟨mv,N,λl f=> ?_,m.mv mv N,λc f=> ?_⟩ ?_ ⟨rfl,rfl⟩
  .intro z O;obtain⟨k,L,P,B,D,T,F,X,u,V⟩:=f z O;by_cases q:L=env.locals
   .subst q;exact⟨k,_,i,aa,ab,T,F,X,J,S⟩
   .exact⟨k,L,P,B,D,T,F,X,h.extBut _ _ q u,V⟩
  .have:=j c f;subst this;exact⟨λP q=>by obtain rfl:=sj<|Y.symm.trans q;exact cS G,i,J,cS S⟩
  .have nc:∀y c,env.cells.lookup y=Ja c->c≠env.locals:=by
    rintro y c q rfl;obtain⟨o0,v1,P,U,R⟩:=W.newC y _ q;obtain rfl:=sj<|Y.symm.trans U;rw[G] at R;cases R
   refine⟨W.fn,W.glob,W.blt,⟨_,n,λy q T F=> ?_⟩,λy q T F=> ?_,W.newL,W.baseL,W.baseC,λy c e=> ?_,W.apart,W.hasC⟩
   .rcases CH.get_put T with⟨rfl,rfl⟩|⟨ne,T⟩
    .exact⟨v,Ug rfl,hv.mv mv N⟩
    .obtain⟨w,a,b⟩:=I y q T F;exact⟨w,by rw[Uf (λe=>ne<|CV e)];exact a,b.mv mv N⟩
   .rcases CH.get_put T with⟨rfl,rfl⟩|⟨ne,T⟩
    .rw[hx] at F;rcases F with F|F<;>cases F
    .obtain⟨c,w,a,b,d⟩:=W.cell y q T F;exact⟨c,w,a,b.sameBut h<|nc _ c a,d.mv mv N⟩
   .obtain⟨a,w,b⟩:=W.newC y c e;exact⟨a,w,b.sameBut h<|nc _ c e⟩
 .obtain⟨c,σ⟩:=W.hasC _<|.inl hx;obtain⟨M,ac,t⟩:=W.newC _ c σ;refine wpAny_storeName_cell W.fn hx σ t λH E h=> ?_;have j:∀d,slot env [x] d->d=c:=by
   rintro d ⟨y,Q,q|q⟩
   .rw[Qh] at Q;subst Q;rw[hx] at q;cases q.1
   .rw[Qh] at Q;subst Q;rw[σ] at q;obtain rfl:=sj q.2;rfl
  obtain⟨o,Y,G⟩:=id t;obtain⟨i,J,S⟩:=id E;have mv:Mv (slot env [x]) s.heap H:=λd o f e=>h.extBut d o (λq=>f ⟨x,Qh.mpr rfl,.inr ⟨hx,by rw[q];exact σ⟩⟩) e;have N:F9 C Z s.heap (slot env [x]):=λd f=>by
   have:=j d f;subst this;exact⟨W.baseC _ _ σ,M,gU Y<|gy G⟩
  refine hK _ ⟨mv,N,λl f=> ?_,m.mv mv N,λd f=> ?_⟩ ?_ ⟨rfl,rfl⟩
  .intro z O;obtain⟨k,L,P,B,D,T,F,X,u,V⟩:=f z O;have q:L≠c:=by rintro rfl;obtain rfl:=sj<|Y.symm.trans u;rw[G] at V;cases V
   exact⟨k,L,P,B,D,T,F,X,h.extBut _ _ q u,V⟩
  .have:=j d f;subst this;exact⟨λP q=>by obtain rfl:=sj<|Y.symm.trans q;exact gy G,i,J,gy S⟩
  .obtain⟨mm,g,I⟩:=W.ns;have nl:env.locals≠c:=by
    rintro q;obtain⟨P,es,ep,U,R,o0⟩:=g;rw[q,Y] at U;obtain rfl:=sj U;rw[G] at R;cases R
   refine⟨W.fn,W.glob,W.blt,⟨mm,Ns.like g λo e=>⟨o,h.extBut _ _ nl e,.refl o⟩,λy q T F=> ?_⟩,λy q T F=> ?_,W.newL,W.baseL,W.baseC,λy d e=> ?_,W.apart,W.hasC⟩
   .rcases CH.get_put T with⟨rfl,rfl⟩|⟨ne,T⟩
    .rw[hx] at F;cases F
    .obtain⟨w,a,b⟩:=I y q T F;exact⟨w,a,b.mv mv N⟩
   .rcases CH.get_put T with⟨rfl,rfl⟩|⟨ne,T⟩
    .exact⟨c,v,σ,E,hv.mv mv N⟩
    .obtain⟨d,w,a,b,r⟩:=W.cell y q T F;have:d≠c:=by rintro rfl;exact ne (CV<|W.apart _ _ _ a σ)
     exact⟨d,w,a,b.sameBut h this,r.mv mv N⟩
   .obtain⟨a,w,b⟩:=W.newC y d e;by_cases q:d=c
    .subst q;exact⟨a,Ja v,E⟩
    .exact⟨a,w,b.sameBut h q⟩
theorem GM.refl{F:Jg->Prop}{h:Ji}(m:CP C Z h)(fo:F9 C Z h F)(a:∀c,F c->∃o,h.get? c=Ja o/\¬isSeq o):GM C env F Z h h:=
 ⟨.refl,fo,λo0 f=>f,m,λc f=>by obtain⟨o,e,q⟩:=a c f;exact⟨λP T=>by obtain rfl:=sj<|e.symm.trans T;exact q,o,e,q⟩⟩
theorem GM.trans{F I:Jg->Prop}{h S H:Ji}(x:GM C env F Z h S)(y:GM C env I Z S H):GM C env (λc=>F c\/I c) Z h H where
 mv:=λc o f e=>y.mv c o (λq=>f<|.inr q)<|x.mv c o (λq=>f<|.inl q) e
 fok:=λc f=>by
  by_cases q:F c
  .exact x.fok c q
  .rcases f with f|f
   .exact absurd f q
   .obtain⟨a,d,V⟩:=y.fok c f;exact⟨a,d,λv n e=>V v n<|x.mv c _ q e⟩
 frs:=λl f=>y.frs l<|x.frs l f
 sim:=y.sim
 has:=λc f=>by
  by_cases q:I c
  .obtain⟨a,b⟩:=y.has c q;refine⟨λo e=> ?_,b⟩;by_cases σ:F c
   .exact(x.has c σ).1 o e
   .exact a o<|x.mv c o σ e
  .rcases f with f|f
   .obtain⟨a,o,e,b⟩:=x.has c f;exact⟨a,o,y.mv c o q e,b⟩
   .exact absurd f q
theorem GM.mono{F I:Jg->Prop}{h S:Ji}(x:GM C env F Z h S)(k:∀c,I c↔F c):GM C env I Z h S:=
 ⟨x.mv.mono λc f=>(k c).mpr f,λc f=>x.fok c<|(k c).mp f,x.frs,x.sim,λc f=>x.has c<|(k c).mp f⟩
theorem sh:slot env (x::xs) c↔(slot env [x] c\/slot env xs c):=by
 constructor
 .rintro ⟨y,h,q⟩
  rcases Qw.mp h with rfl|h
  .exact .inl ⟨y,Qh.mpr rfl,q⟩
  .exact .inr ⟨y,h,q⟩
 .rintro (⟨y,h,q⟩|⟨y,h,q⟩)
  .rw[Qh] at h;subst h;exact⟨y,Ko,q⟩
  .exact⟨y,Kn _ h,q⟩
theorem kr{K:Unit->Je->Prop}(e:CU C env ρ Z s.heap)(m:CP C Z s.heap)
  (hx:env.kindOf (Qb x)=Ja .local\/env.kindOf (Qb x)=Ja .cell)(hv:VR C Z s.heap p v)
  (h:∀s',GM C env (slot env [x]) Z s.heap s'.heap->CU C env (ρ.put x p) Z s'.heap->CS s s'->K () s'):Jh (Mo C) A (assign (.Name (Qb x) pos) env v) K Er s:=
 wpAny_assign_Name (kX e m hx hv h)
theorem qH(h:eZ sc (x::xs) (.Name y pos::es)=Jc):y=Qb x/\EA sc y=Jc/\eZ sc xs es=Jc:=by
 have h:=Qi.mp (show((((Vl.Internal.nm y x&&EA sc y)&&bz y)&& !xs.contains x)&&eZ sc xs es)=Jc from h);have N:=Qi.mp (Qi.mp (Qi.mp h.1).1).1;exact⟨beq_iff_eq.mp N.1,N.2,h.2⟩
theorem tI(h:Fm sc (.name x) (.Name y pos)=Jc):y=Qb x/\EA sc y=Jc:=by
 have h:=Qi.mp (Qi.mp (show((Vl.Internal.nm y x&&EA sc y)&&bz y)=Jc from h)).1;exact⟨beq_iff_eq.mp h.1,h.2⟩
theorem jw:∀ {xs:List String} {es:List Jl} {ps:List PV} {vs:List Jf} {ρ:CH} {s:Je} {K:Unit->Je->Prop},eZ sc xs es=Jc->CU C env ρ Z s.heap->CP C Z s.heap->
  (∀x∈xs,env.kindOf (Qb x)=Ja .local\/env.kindOf (Qb x)=Ja .cell)->CZ C Z s.heap ps vs->ps.length=xs.length->
  (∀s',GM C env (slot env xs) Z s.heap s'.heap->CU C env (ρ.puts xs ps) Z s'.heap->CS s s'->K () s')->Jh (Mo C) A (assignInOrder ((JM es env).map (·.2)) vs) K Er s
 |[],[],ps,vs,ρ,s,K,hm,ev,m,hx,hv,hl,hK=>by
  have:ps=[]:=Yh.mp hl;subst this;change _=_ at hv;subst hv;exact YH<|hK s (.refl m (λc z'=>by obtain⟨y,hy,o0⟩:=z';cases hy) (λc z'=>by obtain⟨y,hy,_⟩:=z';cases hy)) ev ⟨rfl,rfl⟩
 |[],_::_,_,_,_,_,_,hm,_,_,_,_,_,_=>by exact ft hm
 |x::xs,[],_,_,_,_,_,hm,_,_,_,_,_,_=>by exact ft hm
 |x::xs,e::es,ps,vs,ρ,s,K,hm,ev,m,hx,hv,hl,hK=>by
  induction e using Expr.casesOn with
  |Name y pos=>
   obtain⟨rfl,o0,hm⟩:=qH hm
   induction ps using List.casesOn with
   |nil=>simp at hl
   |cons p ps=>
    obtain⟨v,r,rfl,hv,hr⟩:=hv;show Jh _ _ (holding r (assign _ env v)>>=λo0=>assignInOrder ((JM es env).map (·.2)) r) K Er s;refine YG<|YJ (kr ev m (hx x Ko) hv λs1 a1 ev1 r1=> ?_);refine jw hm ev1 a1.sim (λy hy=>hx y<|Kn _ hy) (hr.mv a1.mv a1.fok) (by simpa using hl) λs2 a2 ev2 r2=> ?_;exact hK s2 ((a1.trans a2).mono λc=>sh) ev2<|r1.trans r2
  |_=>first|exact D6 hm|exact Dw hm|cases hm
theorem lj:∀ {xs:List String} {es:List Jl},eZ sc xs es=Jc->(JM es env).length=xs.length/\(JM es env).findIdx? (·.1)=Jb
 |[],[]=>λo0=>⟨rfl,rfl⟩
 |[],_::_=>λhm=>by exact ft hm
 |x::xs,[]=>λhm=>by exact ft hm
 |x::xs,e::es=>λhm=>by
  induction e using Expr.casesOn with
  |Name y pos=>
   obtain⟨a,b⟩:=lj (qH hm).2.2;refine⟨Uj (· +1) a,?_⟩;show List.findIdx? (·.1) ((Jd,_)::JM es env)=Jb;rw[List.findIdx?_cons,b];rfl
  |_=>first|exact D6 hm|exact Dw hm|cases hm
theorem iP{tg:Tg}{K:Unit->Je->Prop}(hh:tg.isT=Jc->A.handled=Jb)(ht:Fm sc tg t=Jc)(ev:CU C env ρ Z s.heap)(m:CP C Z s.heap)
  (hx:∀x∈tg.names,env.kindOf (Qb x)=Ja .local\/env.kindOf (Qb x)=Ja .cell)(hv:VR C Z s.heap p v)(hb:bindT tg p ρ=Ja ρ')
  (hK:∀s',GM C env (slot env tg.names) Z s.heap s'.heap->CU C env ρ' Z s'.heap->CS s s'->K () s'):Jh (Mo C) A (assign t env v) K Er s:=by
 induction tg with
 |name x=>
  induction t using Expr.casesOn with
  |Name y pos=>
   obtain⟨rfl,o0⟩:=tI ht;obtain rfl:=sj (show Ja (ρ.put x p)=Ja ρ' from hb);exact kr ev m (hx x<|Qh.mpr rfl) hv hK
  |_=>first|exact D6 ht|exact Dw ht|cases ht
 |tup xs=>
  induction t using Expr.casesOn with
  |Tuple es a b=>
   replace ht:eZ sc xs es=Jc:=ht
   induction p using PV.casesOn with
   |tup ps=>
    have hb:(if ps.length=xs.length then Ja (ρ.puts xs ps) else Jb)=Ja ρ':=hb;by_cases hl:ps.length=xs.length
    .obtain rfl:=sj<|(Ug hl).symm.trans hb;obtain⟨a,n,vs,rfl,es',g1,g2⟩:=hv;obtain⟨q1,q2⟩:=lj (env:=env) ht;have hsz:vs.size=ps.length:=by simpa using g2.length
     refine wpAny_assign_Tuple (hh rfl) ⟨_,g1,rfl,n,rfl⟩ (by rw[q1,hsz,hl]) q2 λh' he=> ?_;have kp:∀b o,s.heap.get? b=Ja o->h'.get? b=Ja o:=λb o e=>he b o (WI<|QO e) e;have st:CF CC Z s.heap Z h':= .more kp;refine jw (s:={s with heap:=h'}) ht (ev.step st) (m.more kp) hx (g2.step st) hl λs2 a2 ev2 r2=> ?_;refine hK s2 ⟨λc o f e=>a2.mv c o f<|kp c o e,λc f=> ?_,λl f=>a2.frs l<|f.step st λo0 o0 o0 o0 q=>q,a2.sim,λc f=> ?_⟩ ev2 r2
     .obtain⟨q3,b1,b2⟩:=a2.fok c f;exact⟨q3,b1,λvs n e=>b2 vs n<|kp c _ e⟩
     .obtain⟨q3,q4⟩:=a2.has c f;exact⟨λo e=>q3 o<|kp c o e,q4⟩
    .exact ns<|(Uf hl).symm.trans hb
   |_=>exact ns hb
  |_=>first|exact D6 ht|exact Dw ht|cases ht
end
theorem bT{L:Type}{x y:Jq}{v:L}{l:List (Jq×L)}(h:x≠y):YE x ((y,v)::l)=YE x l:=by
 rw[Yp,beq_eq_false_iff_ne.mpr h]
theorem CN{L:Type}{x:Jq}{v:L}{l:List (Jq×L)}:YE x ((x,v)::l)=Ja v:=by
 rw[Yp,beq_self_eq_true]
theorem ja{env:Js}:∀ (names:List (Jq×JW)) (acc:List (Jq×Jg)),(∀n,(n,NameKind.free)∈names->∃c,env.cells.lookup n=Ja c)->(∀x c,acc.lookup x=Ja c->env.cells.lookup x=Ja c)->
  ∃cl,(forIn names acc (λ(p:Jq×JW) (cs:List (Jq×Jg))=>if(p.2==NameKind.free)=Jc then do let a<-cellOf env p.1;pure (ForInStep.yield ((p.1,a)::cs)) else pure (ForInStep.yield cs)):Sem _)=pure cl/\
   (∀x c,cl.lookup x=Ja c->env.cells.lookup x=Ja c)/\(∀x,((x,NameKind.free)∈names\/(acc.lookup x).isSome)->(cl.lookup x).isSome)
 |[]=>λacc o0 ha=>⟨acc,rfl,ha,λx h=>h.elim (λq=>by cases q) id⟩
 |(n,k)::r=>λacc hf ha=>by
  by_cases hk:k= .free
  .subst hk;obtain⟨c,hc⟩:=hf n Ko;obtain⟨cl,e1,e2,e3⟩:=ja r ((n,c)::acc) (λy hy=>hf y (Kn _ hy)) (λx d hx=>by
    by_cases q:x=n
    .subst q;obtain rfl:=sj<|CN.symm.trans hx;exact hc
    .rw[bT q] at hx;exact ha x d hx)
   refine⟨cl,?_,e2,λx h=>e3 x ?_⟩
   .rw[List.forIn_cons];simp only[beq_self_eq_true,if_true];have:cellOf env n=pure c:=by unfold cellOf;rw[hc]
    rw[this];exact e1
   .rcases h with h|h
    .rcases Qw.mp h with h|h
     .cases h;right;rw[CN];rfl
     .exact .inl h
    .right
     by_cases q:x=n
     .subst q;rw[CN];rfl
     .rw[bT q];exact h
  .obtain⟨cl,e1,e2,e3⟩:=ja r acc (λy hy=>hf y<|Kn _ hy) ha;refine⟨cl,?_,e2,λx h=>e3 x ?_⟩
   .rw[List.forIn_cons];have:(k==NameKind.free)=Jd:=by simpa using hk
    simp only[this,Bool.false_eq_true,if_false];exact e1
   .rcases h with h|h
    .rcases Qw.mp h with h|h
     .cases h;exact absurd rfl hk
     .exact .inl h
    .exact .inr h
theorem lV{env:Js}{scope:Jk}(hf:∀n,(n,NameKind.free)∈scope.names->∃c,env.cells.lookup n=Ja c):
  ∃cl,closureFor scope env=pure cl/\(∀x c,cl.lookup x=Ja c->env.cells.lookup x=Ja c)/\(∀x,(x,NameKind.free)∈scope.names->∃c,cl.lookup x=Ja c):=by
 obtain⟨cl,e1,e2,e3⟩:=ja scope.names [] hf (λx c h=>by simp at h);refine⟨cl,?_,e2,λx h=>Yc.mp (e3 x (.inl h))⟩;simp only[closureFor];have:(forIn scope.names ([]:List (Jq×Jg)) (λ(x:Jq×JW) (cs:List (Jq×Jg))=>match x with
   |(name,kind)=>if(kind==NameKind.free)=Jc then do let a<-cellOf env name;pure (ForInStep.yield ((name,a)::cs)) else pure (ForInStep.yield cs)):Sem _)=pure cl:=e1
 first|exact this|(rw[this];rfl)
theorem gz:∀ (names:List (Jq×JW)) (n:Nat) (a:List (Jq×Jg)) (x:Jq),(x,NameKind.cell)∉names->(JO n names a).lookup x=a.lookup x
 |[]=>λo0 o0 o0 o0=>rfl
 |(y,k)::r=>λn a x h=>by
  have T:(x,NameKind.cell)∉r:=λq=>h<|Kn _ q;unfold JO
  split
  .rename_i M
   rw[gz r (n+1) _ x T,bT];rintro rfl;have:k= .cell:=by simpa using M
   subst this;exact h Ko
  .exact gz r n a x T
theorem fT:∀ (names:List (Jq×JW)) (n:Nat) (u:List (Jq×Jg)) (x:Jq),(x,NameKind.cell)∈names->∃c,n<=c/\(JO n names u).lookup x=Ja c
 |(y,k)::r,n,u,x,h=>by
  by_cases T:(x,NameKind.cell)∈r
  .unfold JO
   split
   .obtain⟨c,a,b⟩:=fT r (n+1) ((y,n)::u) x T;exact⟨c,Kj a,b⟩
   .exact fT r n u x T
  .rcases Qw.mp h with h|h
   .cases h;unfold JO;rw[Ug (by rfl)];refine⟨n,Qz _,?_⟩;rw[gz r (n+1) _ _ T,CN]
   .exact absurd h T
structure G4(h:Ji)(lo:Nat)(cs acc:List (Jq×Jg)):Prop where
 new:∀n c,cs.lookup n=Ja c->(lo<=c/\h.IsCell c Jb)\/acc.lookup n=Ja c
 apart:∀n n' c,lo<=c->cs.lookup n=Ja c->cs.lookup n'=Ja c->n=n'
theorem qi:∀ (names:List (Jq×JW)) (h:Ji) (v:Nat) (g u:List (Jq×Jg)),G4 h v u g->(∀n c,u.lookup n=Ja c->c<h.objs.size)->v<=h.objs.size->
  G4 (Y7 h names) v (JO h.objs.size names u) g
 |[]=>λo0 o0 o0 o0 x o0 o0=>x
 |(m,k)::r=>λh v g u x R l=>by
  unfold Y7 JO
  split
  .have:=qi r (h.push {cls:= .type "cell",data:= .cell Jb}) v g ((m,h.objs.size)::u)
    ⟨λn c L=>by
     by_cases q:n=m
     .subst q;obtain rfl:=sj<|CN.symm.trans L;exact .inl ⟨l,⟨_,QK _ rfl,rfl⟩⟩
     .rw[bT q] at L;exact(x.new n c L).imp (λz=>by obtain⟨a,b⟩:=z;exact⟨a,b.keeps λb o e=>Qs _ e⟩) id,
    λn X c σ N p=>by
     by_cases q:n=m
     .subst q;obtain rfl:=sj<|CN.symm.trans N;by_cases B:X=n
      .exact B.symm
      .rw[bT B] at p;exact absurd (R X _ p)<|KJ _
     .rw[bT q] at N;by_cases B:X=m
      .subst B;obtain rfl:=sj<|CN.symm.trans p;exact absurd (R n _ N)<|KJ _
      .rw[bT B] at p;exact x.apart n X c σ N p⟩
    (λn c L=>by
     rw[KN];by_cases q:n=m
     .subst q;obtain rfl:=sj<|CN.symm.trans L;exact QN _
     .rw[bT q] at L;exact WC (R n c L)) (by rw[KN];exact WE l)
   rwa [KN] at this
  .exact qi r h v g u x R l
section
variable{C:Cx}{A:Jj}{E:Jf->Je->Prop}{s:Je}
noncomputable def Hf(scope:Jk)(c:List (Jq×Jg))(L:Jg)(env:Js):Js:=
 {scope,locals:=L,globals:=env.globals,cells:=JO (L+1) scope.names c,qual:=env.qual,func:=Jb,code:=env.code,frame:=env.frame,builtins:=env.builtins}
theorem qe{env:Js}{scope:Jk}{Q:Js->Je->Prop}
  (h:Q (Hf scope l s.heap.objs.size env) {s with heap:=Y7 (s.heap.push {cls:= .type "dict",data:= .dict #[]}) scope.names}):
  Jh (Mo C) A (newFunctionEnv scope env.globals l [] env.qual Jb .none (Ja env)) Q E s:=by
 simp only[newFunctionEnv,Option.isSome_some,if_true];refine YG<|wpAny_alloc ?_;refine YG<|wpAny_layCells _ (λn k c=>by cases P:k==NameKind.cell<;>simp) _ _ _ _ ?_;rw[show({s with heap:=s.heap.push {cls:= .type "dict",data:= .dict #[]}}:Je).heap.objs.size=s.heap.objs.size+1 from KN ..];exact YG<|YH (YH h)
theorem hY{f:Jq×JW->JW}:∀ {names:List (Jq×JW)} {x:Jq},(names.map λp=>(p.1,f p)).lookup x=(names.lookup x).map λk=>f (x,k)
 |[],x=>rfl
 |(n,k)::r,x=>by
  by_cases q:x=n
  .subst q;simp only[Qo,CN,Wc]
  .simp only[Qo,bT q];exact hY
theorem nV{env c:Js}{scope:Jk}(h:env.scope.kind= .function):
  Env.kindOf {c with scope:=relabel scope env} x=(scope.names.lookup x).map λk=>if k= .free/\env.kindOf x=Ja .cell then .cell else k:=by
 show(relabel scope env).names.lookup x=_;have:(relabel scope env).names=scope.names.map λp=>(p.1,if(p.2== .free&&env.scope.kind== .function&&env.kindOf p.1==Ja .cell)=Jc then .cell else p.2):=by
  unfold relabel;refine Qm λp o0=> ?_;obtain⟨n,k⟩:=p;dsimp only
  split<;>rfl
 rw[this,hY]
 congr 1
 funext k;simp only[h,beq_self_eq_true,Bool.and_true,QL,beq_iff_eq]
theorem lD{sc c:Jk}(h:fA sc c=Jc):c.kind= .function/\(∀n,(n,NameKind.free)∈c.names->sc.names.lookup n=Ja .cell\/sc.names.lookup n=Ja .free)/\(∀n k,(n,k)∈c.names->c.names.lookup n=Ja k):=by
 simp only[fA,QL,beq_iff_eq,Qx,Ui] at h;obtain⟨⟨⟨⟨⟨N,o0⟩,o0⟩,p⟩,J⟩,o0⟩:=h;refine⟨N,λn o=> ?_,λn k o=>J (n,k) o⟩;have:=p (n,.free) o
 simpa [WZ] using this
structure Fg(sc:Jk)(env:Js):Prop where
 loc:∀y,sc.names.lookup y=Ja .local->env.kindOf y=Ja .local
 cell:∀y,sc.names.lookup y=Ja .cell->env.kindOf y=Ja .cell
 free:∀y,sc.names.lookup y=Ja .free->env.kindOf y=Ja .cell\/env.kindOf y=Ja .free
 glob:∀y,sc.names.lookup y=Ja .globalImplicit->env.kindOf y=Ja .globalImplicit
theorem Fg.self(env:Js):Fg env.scope env:=⟨λo0 h=>h,λo0 h=>h,λo0 h=> .inr h,λo0 h=>h⟩
theorem ve{env:Js}{scope:Jk}{j:List (Jq×Jg)}(W:CU C env L Z s.heap)(m:CP C Z s.heap)(t:Fg sc env)(H:fA sc scope=Jc)(U:El tg scope=Jc)
  (K:∀x c,j.lookup x=Ja c->env.cells.lookup x=Ja c)(g:∀x,(x,NameKind.free)∈scope.names->∃c,j.lookup x=Ja c)
  {i:Js}(σ:i={Hf scope j s.heap.objs.size env with scope:=relabel scope env}){S:Ji}(u:S=Y7 (s.heap.push {cls:= .type "dict",data:= .dict #[]}) scope.names):
  CU C i (Eg tg L) Z S/\(∀b o,s.heap.get? b=Ja o->S.get? b=Ja o)/\i.locals=s.heap.objs.size/\
  (∀x,scope.names.lookup x=Ja .local->i.kindOf x=Ja .local)/\(∀x,scope.names.lookup x=Ja .cell->i.kindOf x=Ja .cell/\∀c,i.cells.lookup x=Ja c->s.heap.objs.size<=c)/\
  (∀x k,scope.names.lookup x=Ja k->k≠ .free->i.kindOf x=Ja k)/\(∀x,scope.names.lookup x=Ja .free->i.kindOf x=Ja .cell\/i.kindOf x=Ja .free)/\(∀x c,i.cells.lookup x=Ja c->s.heap.objs.size<=c\/env.cells.lookup x=Ja c):=by
 obtain⟨k1,X,G⟩:=lD H;have X:∀n,(n,NameKind.free)∈scope.names->env.kindOf n=Ja .cell\/env.kindOf n=Ja .free:=λn hn=>(X n hn).elim (λq=> .inl (t.cell n q)) (t.free n);have z:∀x,i.kindOf x=(scope.names.lookup x).map λk=>if k= .free/\env.kindOf x=Ja .cell then .cell else k:=λx=>by rw[σ];exact nV W.fn
 have kp:∀b o,s.heap.get? b=Ja o->S.get? b=Ja o:=λb o e=>by rw[u];exact pushCells_keeps _ _ b o<|Qs _ e
 have r:i.locals=s.heap.objs.size:=by rw[σ];rfl
 have J:i.cells=JO (s.heap.objs.size+1) scope.names j:=by rw[σ];rfl
 have R:G4 S (s.heap.objs.size+1) i.cells j:=by
  have:=qi scope.names (s.heap.push {cls:= .type "dict",data:= .dict #[]}) (s.heap.objs.size+1) j j ⟨λn c h=> .inr h,λn n' c σ N Y=>by
   obtain⟨o0,v,o,q,o0⟩:=W.newC n c (K n c N);exact absurd (QO q) (QW.mpr (Kj σ))⟩ (λn c h=>by
    obtain⟨o0,v,o,q,o0⟩:=W.newC n c (K n c h);rw[KN];exact WC (QO q)) (by rw[KN];exact Qz _)
  rw[KN] at this;rw[J,u];exact this
 have old:∀x c,i.cells.lookup x=Ja c->c<s.heap.objs.size+1->env.cells.lookup x=Ja c:=λx c h q=>by
  rcases R.new x c h with⟨a,o0⟩|a
  .exact absurd q<|QW.mpr a
  .exact K x c a
 have P:∀x,scope.names.lookup x=Ja .cell->∃c,s.heap.objs.size+1<=c/\i.cells.lookup x=Ja c:=λx h=>by
  rw[J];exact fT _ _ _ _<|mem_of_lookup h
 have B:∀x,scope.names.lookup x=Ja .free->i.cells.lookup x=j.lookup x:=λx h=>by
  rw[J];refine gz _ _ _ _ λq=> ?_;have:=G x .cell q;rw[h] at this;cases this
 have I:CF CC Z s.heap Z S:= .more kp;refine⟨⟨?_,?_,?_,?_,?_,?_,?_,?_,?_,?_,?_⟩,kp,r,?_,?_,?_,?_,?_⟩
 .rw[σ];exact k1
 .rw[σ];exact W.glob
 .rw[σ];exact W.blt
 .refine⟨λo0=>Jb,?_,λx p T F=> ?_⟩
  .rw[r,u];exact(Heap.Ns.new s.heap<|.type "dict").keeps (pushCells_keeps _ _)
  .obtain⟨D,O,o0⟩:=jZ T;rw[z] at F;exfalso
   induction e:scope.names.lookup (Qb x) with
   |none=>rw[e] at F;exact ns F
   |some k=>
    rw[e] at F;simp only[Wc,Option.some.injEq] at F
    split at F
    .cases F
    .subst F;simp only[El,Qx] at U;have:=U _<|mem_of_lookup e;simp[Vl.Internal.nm] at this
     rcases this with this|⟨y,Q,this⟩
     .exact D<|CV this
     .exact O<|CV this▸Q
 .intro x p T F;obtain⟨D,O,T⟩:=jZ T;have f:scope.names.lookup (Qb x)=Ja .free:=by
   rw[z] at F
   induction e:scope.names.lookup (Qb x) with
   |none=>rw[e] at F;rcases F with F|F<;>exact ns F
   |some k=>
    rw[e] at F;simp only[Wc,Option.some.injEq] at F;by_cases M:k= .free
    .rw[M]
    .rw[Uf (λq=>M q.1)] at F
     rcases F with F|F
     .subst F;simp only[El,Qx] at U;have:=U _<|mem_of_lookup e;simp[Vl.Internal.nm] at this
      rcases this with this|⟨y,Q,this⟩
      .exact absurd (CV this) D
      .exact absurd (CV this▸Q) O
     .exact absurd F M
  obtain⟨c,l⟩:=g _<|mem_of_lookup f;have:=X _<|mem_of_lookup f;obtain⟨V,v,a,b,d⟩:=W.cell x p T this;have:V=c:=by have:=K _ _ l;obtain rfl:=sj<|a.symm.trans this;rfl
  subst this;exact⟨V,v,(B _ f).trans l,b.keeps kp,d.step I⟩
 .rw[r];exact m.fresh<|Qz _
 .rw[r];exact m.freshB<|Qz _
 .intro x c h;by_cases q:c<s.heap.objs.size+1
  .exact W.baseC x c<|old x c h q
  .exact m.freshB<|Kj (QW.mp q)
 .intro x c h
  rcases R.new x c h with⟨a,b⟩|a
  .exact⟨m.fresh<|Kj a,_,b⟩
  .obtain⟨q,v,b⟩:=W.newC x c<|K x c a;exact⟨q,v,b.keeps kp⟩
 .intro x y c N Y;by_cases q:c<s.heap.objs.size+1
  .exact W.apart x y c (old x c N q)<|old y c Y q
  .exact R.apart x y c (QW.mp q) N Y
 .intro x h;rw[z] at h
  induction e:scope.names.lookup x with
  |none=>rw[e] at h;rcases h with h|h<;>exact ns h
  |some k=>
   by_cases M:k= .free
   .subst M;obtain⟨c,l⟩:=g _<|mem_of_lookup e;exact⟨c,(B _ e).trans l⟩
   .rw[e] at h;simp only[Wc,Option.some.injEq] at h;rw[Uf (λq=>M q.1)] at h
    rcases h with h|h
    .subst h;obtain⟨c,o0,q⟩:=P _ e;exact⟨c,q⟩
    .exact absurd h M
 .intro x h;rw[z,h];rfl
 .intro x h;refine⟨by rw[z,h];rfl,λc hx=> ?_⟩;obtain⟨V,q1,q2⟩:=P x h;obtain rfl:=sj<|hx.symm.trans q2;exact Kj q1
 .intro x k h M;rw[z,h,Wc,Uf (λq=>M q.1)]
 .intro x h;rw[z,h,Wc];by_cases q:env.kindOf x=Ja .cell
  .rw[Ug ⟨rfl,q⟩];exact .inl rfl
  .rw[Uf (λw=>q w.2)];exact .inr rfl
 .intro x c h
  rcases R.new x c h with⟨a,o0⟩|a
  .exact .inl<|Kj a
  .exact .inr<|K x c a
end
section
variable{C:Cx}{A:Jj}{R:Result->Je->Prop}{s:Je}
noncomputable abbrev Fz(ifs:List Jl)(env:Js):Sem Bool:=forIn ifs Jc λc r=>if r=Jc then do let ok<-Y8 c env (Jw c env);pure (ForInStep.yield ok) else pure (ForInStep.yield r)
theorem mM{Er:Jf->Je->Prop}(hEr:Er=notedBy (Mo C) A env λe s'=>R (.error e) s')(I:Nat->Je->Prop)
  (turn:∀n s,I n s->Jh (Mo C) A (pyNext it) (λr s₁=>match r with
   |none=>R (.ok .next) s₁
   |some v=>Jh (Mo C) A (letOwnedTupleGo target it v) (λo0 s₁'=>Jh (Mo C) A (assign target env v) (λo0 s₂=>
     Jh (Mo C) A (Fz ifs env) (λok s₃=>
      if ok=Jc then Jh (Mo C) A (Jw elt env) (λx s₄=>
       Jh (Mo C) A (call (.builtin "list.append") [acc,x]) (λo0 s₅=>∃m,m<n/\I m s₅) Er s₄) Er s₃
      else∃m,m<n/\I m s₃) Er s₂) Er s₁') Er s₁) Er s)
  (n:Nat)(h:I n s):
  codeAny (Mo C) A (.compLoop (.ListComp elt [⟨target,iter,ifs,0⟩] scope pos) 0 it acc env) R s:=by
 subst hEr;refine codeAny_loop rfl I (λn s hI=> ?_) n h;show Jh _ A ((compTurn (.ListComp elt [⟨target,iter,ifs,0⟩] scope pos) 0 it acc env).onRaise (λx=>do noteFrame x env;theTreesLotGoes x)) _ _ s;refine wpAny_noted ?_;rw[compTurn_list];refine YG<|YK (YG<|YI (turn n s hI) (λr s₁ h₁=> ?_) λo0 o0 h'=>h')
 induction r with
 |none=>exact YH h₁
 |some v=>
  refine YG (YI h₁ (λo0 s₁' h₁'=> ?_) λo0 o0 h'=>h');refine YG<|YI h₁' (λo0 s₂ h₂=>YG<|YI h₂ (λok s₃ h₃=> ?_) λo0 o0 h'=>h') λo0 o0 h'=>h'
  induction ok with
  |false=>exact YH ⟨rfl,h₃⟩
  |true=>
   exact YG<|YG (YI h₃ (λx s₄ h₄=>YG<|YI h₄ (λo0 s₅ h₅=>YH<|YH ⟨rfl,h₅⟩) λo0 o0 h'=>h') λo0 o0 h'=>h')
theorem mI{h S:Ji}{D:Jg}(st:CF CC Z h Z' S)(g:h.get? D=Ja (D5 v n))(E:Z D=Jb):S.get? D=Ja (D5 v n)/\Z' D=Jb:=by
 obtain⟨a,o,b,c⟩:=st.keep D _ g E;rw[(c λf=>f.elim).eq (by simp)] at b;exact⟨b,a⟩
theorem tt(h:i<n):n-(i+1)+1<n-i+1:=Yo<|Nat.sub_succ_lt_self n i h
structure CompAt(C:Cx)(St:Nat->PH->Ji->Prop)(cenv:Js)(ρb:CH)(go:List PV->List PV->PH->Prop)(xs:List PV)(Z:PH)(s₀:Je)(D:Jg)(i:Nat)(acc:List PV)(Z':PH)(av:Array Jf)(nn:Nat)(s':Je):Prop where
 le:i<=xs.length
 ai:acc.length<=i
 st:St i Z' s'.heap
 m:CP C Z' s'.heap
 ev:CU C cenv ρb Z' s'.heap
 step:CF CC Z s₀.heap Z' s'.heap
 rest:CS s₀ s'
 hD:s'.heap.get? D=Ja (D5 av nn)
 nD:Z' D=Jb
 hacc:CZ C Z' s'.heap acc av.toList
 go:go (xs.drop i) acc Z'
theorem sE{I D:Jg}{St:Nat->PH->Ji->Prop}{xs:List PV}{chk:PH->Prop}{H:Js}{tg:Tg}
  {tst:CH->PH->(Bool->PH->Prop)->Prop}{el:CH->PH->C9->Prop}{B:List PV->PH->Prop}{s₀:Je}
  (S:GZ C A t I fp xs chk St)(ht:Fm sc tg t=Jc)(own:∀x∈tg.names,H.kindOf (Qb x)=Ja .local\/H.kindOf (Qb x)=Ja .cell)
  (al:∀c,slot H tg.names c->s₀.heap.get? c=Jb)(aw:∀b∈fp,s₀.heap.get? b=Jb)(DF:s₀.heap.get? D=Jb)(DB:C.B.get? D=Jb)
  (aj:H.locals∉fp)(ab:∀x c,H.cells.lookup x=Ja c->c∉fp)(an:D∉fp)(ak:Dy C n A l Z s₀.heap)(T:xs.length<=Dg)
  (aq:∀ρ' Z' s' Kb,CU C H ρ' Z' s'.heap->CP C Z' s'.heap->Dy C n A l Z' s'.heap->tst ρ' Z' Kb->∀am,Jh (Mo C) A (Fz a5 H) (λok ap=>∃j,A4 (CP C j ap.heap) (CF CC Z' s'.heap j ap.heap) (CS s' ap)<|Kb ok j) am s')
  (bf:∀ρ' Z' s' Q,CU C H ρ' Z' s'.heap->CP C Z' s'.heap->Dy C n A l Z' s'.heap->el ρ' Z' Q->∀am,Jh (Mo C) A (Jw a1 H) (VP C CC Z' s' Q) am s')
  (hR:∀a X z d E,CP C X z.heap->CF CC Z s₀.heap X z.heap->CS s₀ z->z.heap.get? D=Ja (D5 d E)->CZ C X z.heap a d.toList->X D=Jb->(∃m,z.heap.Ns H.locals m)->X H.locals=Jb->B a X->R (.ok .next) z)(O:St 0 Z1 s.heap)(m:CP C Z1 s.heap)(ev:CU C H (Eg tg ρ) Z1 s.heap)(st:CF CC Z s₀.heap Z1 s.heap)(r:CS s₀ s)(hD:s.heap.get? D=Ja (D5 #[] 0))(Y:Z1 D=Jb)
  (h:gE chk tg ρ tst el xs [] Z1 B):
  codeAny (Mo C) A (.compLoop (.ListComp a1 [⟨t,iter,a5,0⟩] scope pos) 0 (.ref I) (.ref D) H) R s:=by
 refine mM rfl (λk s'=>X5 λi a Z' d E=>k=xs.length-i+1/\CompAt C St H (Eg tg ρ) (λxs a Z=>gE chk tg ρ tst el xs a Z B) xs Z s₀ D i a Z' d E s') ?_ _
  ⟨0,[],Z1,#[],0,rfl,⟨QS _,QS _,O,m,ev,st,r,hD,Y,rfl,h⟩⟩
 clear O m ev st r hD Y h;intro k s' hI;obtain⟨i,a,Z',d,E,rfl,I⟩:=hI;have h:=I.go;have ac:=I.ai;have O:=I.st;have m:=I.m;have ev:=I.ev;have st:=I.step;have r:=I.rest;have hD:=I.hD;have Y:=I.nD;have W:=I.hacc;have hi:=I.le;clear I;by_cases N:i<xs.length
 .have hx:xs[i]? =Ja xs[i]:=Qg N;rw[WV N] at h;obtain⟨a4,h⟩:=h;obtain⟨ρ',hb,h⟩:=qm h;refine S.item hx m a4 O λv s1 a6=> ?_;refine a6 _ _ λz hv m2 G a2 r2=> ?_;have fo:=S.fok O
  .have bh:=ev.mv G fo aj ab;have a7:=G D _ an hD;have ae:=W.mv G fo;have ba:=st.mv G aw;refine iP (λo0=>S.hdn) ht bh m2 own hv hb λs3 L as r3=> ?_;have ar:¬slot H tg.names D:=λq=>by
    obtain⟨o0,o0⟩:=L.has D q;exact absurd ⟨d,E,rfl⟩<|(L.has D q).1 _ a7
   have az:∀b∈fp,¬slot H tg.names b:=λb hb=>by
    rintro ⟨x,o0,q|q⟩
    .exact aj<|q.2▸hb
    .exact ab _ _ q.2 hb
   have bc:=L.mv D _ ar a7;have ad:=ae.mv L.mv L.fok;have ay:=ba.mv L.mv al;have ax:=S.mv a2 L.mv L.fok az;have weak:∀ {u h4},CU C H ρ' u h4->CU C H (Eg tg ρ) u h4:=λx=>x.weak λy q e=>sX hb e;refine YI (aq ρ' Z' s3 _ as L.sim (ak.step ay) h _) (λok s4 h4=> ?_) λo0 o0 x=>x;obtain⟨u,m4,V,r4,h⟩:=h4;have F:=S.step ax V (λo0 o0 f=>f);obtain⟨a0,U⟩:=mI V bc Y;have ai:=as.step V;have M:=ad.step V;have ah:=ay.trans V
   induction ok with
   |false=>
    exact⟨xs.length-(i+1)+1,tt N,i+1,a,u,d,E,rfl,⟨N,WE ac,F,m4,weak ai,ah,((r.trans r2).trans r3).trans r4,a0,U,M,h⟩⟩
   |true=>
    refine YI (bf ρ' u s4 _ ai m4 (ak.step ah) h _) (λy s5 h5=> ?_) λo0 o0 x=>x;obtain⟨p,P,bd,m5,J,r5,h⟩:=h5;have au:=S.step F J (λo0 o0 f=>f);obtain⟨w,K⟩:=mI J a0 U;have ao:=ai.step J;have af:=M.step J;have be:=ah.trans J;have bg:d.size=a.length:=by simpa using W.length
    refine wpAny_list_append_plain ⟨E,w⟩ (λh6 aa bb=> ?_) (by rw[bg];simp only[Dg] at T;exact Qq (Qq ac<|Kw N)<|Qq T (by decide));obtain⟨n6,aa⟩:=aa;have g:Mv (· =D) s5.heap h6:=λc o f e=>bb.extBut c o f e;have σ:F9 C P s5.heap (· =D):=λc f=>by
     have f:c=D:=f;subst f;exact⟨DB,K,ib w<|by simp⟩
    have m6:CP C P h6:=m5.mv g σ;have a8:CU C H ρ' P h6:=ao.mv g σ (λq=>by
      obtain⟨o0,⟨o,es,ep,e,hd,o0⟩,o0⟩:=ao.ns;have q:H.locals=D:=q;rw[q,w] at e;obtain rfl:=sj e;cases hd) λy c hc q=>by
       have q:c=D:=q;subst q;obtain⟨o0,v1,o1,q1,q2⟩:=ao.newC y _ hc;obtain rfl:=sj<|w.symm.trans q1;cases q2
    refine⟨xs.length-(i+1)+1,tt N,i+1,a++[p],P,d.push y,n6,rfl,⟨N,by rw[QG];exact Kx ac,S.mv au g σ (λb hb q=>an (by rw[<-(q:b=D)];exact hb)),m6,weak a8,
     be.mv g (λc f=>by have f:c=D:=f;subst f;exact DF),(((r.trans r2).trans r3).trans r4).trans r5,aa,K,?_,h⟩⟩
    rw[Array.toList_push];exact(af.append<|by exact⟨y,[],rfl,bd,rfl⟩).mv g σ
 .have a9:i=xs.length:=Yw hi<|QW.mp N;subst a9;rw[List.drop_length] at h;refine S.done m h.1 O λz m2 G r2=> ?_;have fo:=S.fok O;refine hR a Z' z d E m2 (st.mv G aw) (r.trans r2) (G D _ an hD) (W.mv G fo) Y ?_ ev.newL h.2;obtain⟨mm,hn,o0⟩:=(ev.mv G fo aj ab).ns;exact⟨mm,hn⟩
end
def jD(C:Cx)(A:Jj)(env:Js)(t iter:Jl)(Z:PH)(s:Je)(K:List PV->(PH->Prop)->PH->Prop)(Er:Jf->Je->Prop):Prop:=
 ∀R:Jf->Je->Prop,(∀I f S m W P c,GZ C A t I f P c S->S 0 m W.heap->CP C m W.heap->CF CC Z s.heap m W.heap->CS s W->
  (∀b∈f,s.heap.get? b=Jb/\b<W.heap.objs.size)->P.length<=Dg->K P c m->R (.ref I) W)->
  Jh (Mo C) A (Jw iter env) (λx k=>Jh (Mo C) A (YS x) R Er k) Er s
section
variable{C:Cx}{Z:PH}{h:Ji}{D:Jg}{po:PO}
mutual
theorem VR.adopt(nt:∀vs n,h.get? D≠Ja (Eu vs n)):∀ (p:PV) (v:Jf),VR C Z h p v->VR C (Z.set D po) h p v
 | .none=>λo0 e=>e
 | .bool _=>λo0 e=>e
 | .int _=>λo0 e=>e
 | .str _=>λo0 e=>e
 | .ref _=>λo0 e=>e
 | .scr _=>λo0 e=>e
 | .tup l=>λv e=>by
  obtain⟨a,n,vs,T,es,e2,V⟩:=e;refine⟨a,n,vs,T,?_,e2,CZ.adopt nt l _ V⟩;rw[PH.set_ne]
  .exact es
  .rintro rfl;exact nt vs n e2
theorem CZ.adopt(nt:∀vs n,h.get? D≠Ja (Eu vs n)):∀ (l:List PV) (vs:List Jf),CZ C Z h l vs->CZ C (Z.set D po) h l vs
 |[]=>λo0 e=>e
 |p::ps=>λvs e=>by
  obtain⟨v,r,T,e2,X⟩:=e;exact⟨v,r,T,VR.adopt nt p v e2,CZ.adopt nt ps r X⟩
end
theorem OR.adopt(E:Z D=Jb)(nt:∀vs n,h.get? D≠Ja (Eu vs n)):∀ (p:PO) (o:Jp),OR C Z h p o->OR C (Z.set D po) h p o:=λp o r=>by
 have a:∀ {x:Jg} {q:PO},Z x=Ja q->(Z.set D po) x=Ja q:=λw=>(PH.set_ne _ _ λz=>ns<|E.symm.trans (z▸w)).trans w
 induction p with
 |list l=>obtain⟨vs,n,F,X⟩:=r;exact⟨vs,n,F,CZ.adopt nt _ _ X⟩
 |dict=>
  obtain⟨U,H,P,x,d,e,k,nd,L,v⟩:=r;refine⟨U,H,P,x,d,e,k,nd,λy W=> ?_,CZ.adopt nt _ _ v⟩;obtain⟨n,vs,m,g,i⟩:=L y W;exact⟨(PH.set_ne _ _ λz=>by rw[z] at g;exact nt vs m g).trans n,vs,m,g,i⟩
 |exc=>obtain⟨k,vs,T,F,X,I,V,Y⟩:=r;exact⟨k,vs,T,F,X,I,V,λx q=>(Y x q).imp λR w=>a w⟩
 |fd=>obtain⟨U,H,e,k,v,z⟩:=r;exact⟨U,H,e,k,λi f p N Q=>(v i f p N Q).imp λu q=>⟨q.1,VR.adopt nt _ _ q.2⟩,z⟩
 |inst d=>obtain⟨c,k,T,F,X,I,V⟩:=r;exact⟨c,k,T,F,X,I,V.imp λR w=>a w⟩
theorem CP.adopt(m:CP C Z h)(E:Z D=Jb)(nt:∀vs n,h.get? D≠Ja (Eu vs n))(e:h.get? D=Ja W)(b:C.B.get? D=Jb)(r:OR C Z h po W)(T:po.needs C.ok D:=by trivial):CP C (Z.set D po) h where
 rich:=λx o g=>by
  by_cases q:x=D
  .subst q;rw[PH.set_same] at g;obtain rfl:=sj g;exact T
  .rw[PH.set_ne _ _ q] at g;exact m.rich x o g
 base:=m.base
 new:=λx o g=>by
  by_cases q:x=D
  .subst q;exact b
  .rw[PH.set_ne _ _ q] at g;exact m.new x o g
 objs:=λx o g=>by
  by_cases q:x=D
  .subst q;rw[PH.set_same] at g;obtain rfl:=sj g;exact⟨W,e,r.adopt E nt⟩
  .rw[PH.set_ne _ _ q] at g;obtain⟨P,N,p⟩:=m.objs x o g;exact⟨P,N,p.adopt E nt⟩
end
theorem mB{sc:Jk}(h:EA sc y=Jc):sc.names.lookup y=Ja .local\/sc.names.lookup y=Ja .cell:=by
 simpa [EA,WZ] using h
theorem lG{sc:Jk}:∀ {xs:List String} {es:List Jl},eZ sc xs es=Jc->∀x∈xs,sc.names.lookup (Qb x)=Ja .local\/sc.names.lookup (Qb x)=Ja .cell
 |[],[]=>λo0 x hx=>by cases hx
 |[],_::_=>λhm o0 o0=>by exact ft hm
 |x::xs,[]=>λhm o0 o0=>by exact ft hm
 |x::xs,e::es=>λhm y hy=>by
  induction e using Expr.casesOn with
  |Name z pos=>
   obtain⟨rfl,h1,h2⟩:=qH hm
   rcases Qw.mp hy with rfl|hy
   .exact mB h1
   .exact lG h2 y hy
  |_=>first|exact D6 hm|exact Dw hm|cases hm
theorem rn{sc:Jk}{tg:Tg}(h:Fm sc tg t=Jc):∀x∈tg.names,sc.names.lookup (Qb x)=Ja .local\/sc.names.lookup (Qb x)=Ja .cell:=by
 induction tg with
 |name x=>
  induction t using Expr.casesOn with
  |Name y pos=>
   obtain⟨rfl,h1⟩:=tI h;intro z hz;simp only[Tg.names,Qh] at hz;subst hz;exact mB h1
  |_=>first|exact D6 h|exact Dw h|cases h
 |tup xs=>
  induction t using Expr.casesOn with
  |Tuple es a b=>exact lG (show eZ sc xs es=Jc from h)
  |_=>first|exact D6 h|exact Dw h|cases h
section
variable{C:Cx}{A:Jj}{s:Je}
theorem qM
  {tst:CH->PH->(Bool->PH->Prop)->Prop}{el:CH->PH->C9->Prop}{use:Option (Jf->Sem Unit)}{Q' Er:Jf->Je->Prop}
  (ev:CU C env ρ Z s.heap)(ak:Dy C n A l Z s.heap)(sr:Fg sc env)(ok:fA sc scope=Jc)(ow:El tg scope=Jc)(ht:Fm scope tg t=Jc)
  (hs:∀x,JQ iter env x=pure x)
  (ap:jD C A env t iter Z s (λxs chk Z1=>gE chk tg ρ tst el xs [] Z1 λa r=>Ex (.list a) r Q) Er)
  (u:∀H,Fg scope H->∀ρ' Z' s' Kb,CU C H ρ' Z' s'.heap->CP C Z' s'.heap->Dy C n A l Z' s'.heap->tst ρ' Z' Kb->∀F,Jh (Mo C) A (Fz σ H) (λok N=>∃j,A4 (CP C j N.heap) (CF CC Z' s'.heap j N.heap) (CS s' N)<|Kb ok j) F s')
  (ar:∀H,Fg scope H->∀ρ' Z' s' Q,CU C H ρ' Z' s'.heap->CP C Z' s'.heap->Dy C n A l Z' s'.heap->el ρ' Z' Q->∀F,Jh (Mo C) A (Jw al H) (VP C CC Z' s' Q) F s')
  (ac:∀D Z3 s3 L,CP C Z3 s3.heap->CF CC Z s.heap Z3 s3.heap->CS s s3->s.heap.get? L=Jb->Z3 L=Jb->C.B.get? L=Jb->(∃m,s3.heap.Ns L m)->Q (.ref D) Z3->compPost (Mo C) A Er use Q' (.ref D) L (.ok .next) s3):
  Jh (Mo C) A (comprehension (.ListComp al [⟨t,iter,σ,0⟩] scope pos) scope env ah (newList []) Jd (Jw iter env) use) Q' Er s:=by
 obtain⟨k1,k2,k3⟩:=lD ok;have am:∀n,(n,NameKind.free)∈scope.names->env.kindOf n=Ja .cell\/env.kindOf n=Ja .free:=λn hn=>(k2 n hn).elim (λq=> .inl (sr.cell n q)) (sr.free n);obtain⟨cl,c0,c1,c2⟩:=lV (env:=env) (scope:=scope) λn hn=>ev.hasC n<|am n hn;refine wpAny_comprehension_free (g:=⟨t,iter,σ,0⟩) (gs:=[]) rfl hs c0 k1 (λx hx hl=>by have:=k3 x.1 x.2 hx;rw[hl] at this;exact this) ?_;refine ap _ λI fp St Z1 W xs chk S aw M P r1 p ad an=> ?_;refine JB ?_;refine qe ?_;generalize aa:({W with heap:=W.heap.push {cls:= .type "list",dict:=Jb,data:= .seq ([]:List Jf).toArray}}:Je)=s2;have E:s2.heap=W.heap.push (D5 #[] 0):=by rw[<-aa]
 have G:CS W s2:=by rw[<-aa];exact⟨rfl,rfl⟩
 have k:∀b o,W.heap.get? b=Ja o->s2.heap.get? b=Ja o:=λb o e=>by rw[E];exact Qs _ e
 have m2:CP C Z1 s2.heap:=M.more k;have J:CF CC Z s.heap Z1 s2.heap:=P.trans<|.more k;have z:s2.heap.objs.size=W.heap.objs.size+1:=by rw[E,KN]
 obtain⟨K,U,T,q1,q2,q3,q4,q5⟩:=ve (s:=s2) (tg:=tg) (ev.step J) m2 sr ok ow c1 c2 rfl rfl;generalize ax:({Hf scope cl s2.heap.objs.size env with scope:=relabel scope env}:Js)=H at K T q1 q2 q3 q4 q5 ⊢;generalize ay:Y7 (s2.heap.push {cls:= .type "dict",data:= .dict #[]}) scope.names=h3 at K U ⊢;have ae:Fg scope H:=⟨q1,λy h=>(q2 y h).1,q4,λy h=>q3 y _ h<|by simp⟩
 have au:CF CC Z s.heap Z1 h3:=J.trans<|.more U;have m3:CP C Z1 h3:=m2.more U;have O:St 0 Z1 h3:=S.step (S:=CC) aw (.more λb o e=>U b o<|k b o e) (λo0 o0 f=>f);have e1:W.heap.get? W.heap.objs.size=Jb:=iS _<|Qz _;have e2:∀c,s2.heap.objs.size<=c->s.heap.get? c=Jb:=λc d=>J.old m2<|iS _ d;have af:s2.heap.get? W.heap.objs.size=Ja (D5 #[] 0):=by rw[E];exact QK _ rfl
 have own:∀x∈tg.names,scope.names.lookup (Qb x)=Ja .local\/scope.names.lookup (Qb x)=Ja .cell:=rn ht;have V:=λ(s':Je) (B:s'={s2 with heap:=h3})=>sE (s:=s') (scope:=scope) (iter:=iter) (pos:=pos) (R:=compPost (Mo C) A Er use Q' (.ref W.heap.objs.size) H.locals) (s₀:=s) S ht
  (λx hx=>(own x hx).imp (q1 _) λh=>(q2 _ h).1)
  (λc d=>by
   obtain⟨x,hx,w|w⟩:=d
   .rw[w.2,T];exact e2 _<|Qz _
   .rcases own x hx with h|h
    .rw[q1 _ h] at w;cases w.1
    .exact e2 _ ((q2 _ h).2 c w.2))
  (λb hb=>(p b hb).1) (P.old M e1) (M.freshB<|Qz _)
  (λX=>by rw[T] at X;exact absurd (p _ X).2 (QW.mpr<|by rw[z];exact Wf _))
  (λx c d X=>by
   rcases q5 x c d with w|w
   .exact absurd (p c X).2 (QW.mpr<|Qq (by rw[z];exact Wf _) w)
   .obtain⟨o0,v,o,e,o0⟩:=ev.newC x c w;exact ns (((p c X).1).symm.trans e))
  (λX=>absurd (p _ X).2 (KJ _)) ak ad (u H ae) (ar H ae)
  (λa r s4 av nn m4 as r4 aj ai Y z' ab hq=>by
   obtain⟨mm,hn⟩:=z';have ao:H.locals≠W.heap.objs.size:=by rw[T,z];exact Nat.succ_ne_self _
   have nt:=ib aj (by simp);refine ac W.heap.objs.size (r.set W.heap.objs.size<|.list a) s4 H.locals ?_ (as.add _ (P.old M e1) ?_) r4 (by rw[T];exact e2 _<|Qz _) (by rw[PH.set_ne _ _ ao];exact ab) (by rw[T];exact m2.freshB<|Qz _) ⟨mm,hn⟩<|hq _ Y
   .exact m4.adopt Y nt aj (M.freshB<|Qz _) ⟨av,nn,rfl,ai⟩
   .induction w:Z W.heap.objs.size with
    |none=>rfl
    |some o=>obtain⟨o',w'⟩:=P.grow _ o w;exact ns ((M.fresh (Qz _)).symm.trans w'))
  (Z1:=Z1) (by rw[B];exact O) (by rw[B];exact m3) (by rw[B];exact K) (by rw[B];exact au) (by rw[B];exact r1.trans G) (by rw[B];exact U _ _ af) (M.fresh<|Qz _) an
 have aq:(Hf scope cl s2.heap.objs.size env).locals=H.locals:=by rw[T];rfl
 rw[aq];exact codeAny_compStart_list (V _ rfl)<|S.self (Z:=Z1) (i:=0) O (V _ rfl)
theorem oq
  {tst:CH->PH->(Bool->PH->Prop)->Prop}{el:CH->PH->C9->Prop}
  (M:CU C env T Z s.heap)(ak:Dy C n A l Z s.heap)(V:Fg sc env)(k:fA sc scope=Jc)(σ:El tg scope=Jc)(I:Fm scope tg t=Jc)
  (G:∀x,JQ iter env x=pure x)
  (w:jD C A env t iter Z s (λxs chk Z1=>gE chk tg T tst el xs [] Z1 λa O=>Ex (.list a) O Q) (XP C CC Z s X))
  (P:∀v,Fg scope v->∀ρ' Z' s' K,CU C v ρ' Z' s'.heap->CP C Z' s'.heap->Dy C n A l Z' s'.heap->tst ρ' Z' K->∀E,Jh (Mo C) A (Fz i v) (λk W=>∃j,A4 (CP C j W.heap) (CF CC Z' s'.heap j W.heap) (CS s' W)<|K k j) E s')
  (q:∀v,Fg scope v->∀ρ' Z' s' Q,CU C v ρ' Z' s'.heap->CP C Z' s'.heap->Dy C n A l Z' s'.heap->el ρ' Z' Q->∀E,Jh (Mo C) A (Jw g v) (VP C CC Z' s' Q) E s'):
  Ei C A Z s (Jw (.ListComp g [⟨t,iter,i,0⟩] scope pos) env) Q X:=by
 refine lp ?_;intro zP zR;show Jh _ _ _ _ _ _;rw[eval_ListComp];refine qM (use:=Jb) M ak V k σ I G w P q λD p u L m y r Y F J R H=> ?_;obtain⟨z,b⟩:=R;refine⟨z,b,λS B=> ?_⟩;have mv:Mv (· =L) u.heap S:=λc o f e=>B.extBut c o f e;obtain⟨o,es,ep,U,d,o0⟩:=b;have N:F9 C p u.heap (· =L):=λc f=>by
  have f:c=L:=f;subst f;exact⟨J,F,gU U<|cS d⟩
 refine⟨.ref D,p,rfl,m.mv mv N,y.mv mv (λc f=>by have f:c=L:=f;subst f;exact Y),r,H⟩
end
noncomputable def v6(x:Jl):Nat->Prop
 |0=>X3 λc k p=>x= .Constant c k p
 |1=>∃y p,x= .Name y p
 |2=>X4 λl o r p=>x= .BinOp l o r p
 |3=>X3 λo y p=>x= .UnaryOp o y p
 |4=>X3 λo w p=>x= .BoolOp o w p
 |5=>X4 λl Q R p=>x= .Compare l Q R p
 |7=>X3 λs k p=>x= .Tuple s k p
 |8=>∃s p,x= .List s p
 |10=>X3 λu v p=>x= .Subscript u v p
 |11=>X4 λe g sc p=>x= .ListComp e g sc p
 |12=>X4 λf a F p=>x= .Call f a F p
 |13=>X3 λy z p=>x= .Attribute y z p
 |14=>X4 λV h t p=>x= .Slice V h t p
 |15=>X3 λi w p=>x= .Dict i w p
 |_=>True
theorem xinv(x:Jl):v6 x (xk x):=by
 induction x using Expr.casesOn with
 |Constant c k p=>exact(⟨c,k,p,rfl⟩:X3 λc' k' p'=>Expr.Constant c k p= .Constant c' k' p')
 |Name y p=>exact(⟨y,p,rfl⟩:∃y' p',Expr.Name y p= .Name y' p')
 |BinOp l o r p=>exact(⟨l,o,r,p,rfl⟩:X4 λl' o' r' p'=>Expr.BinOp l o r p= .BinOp l' o' r' p')
 |UnaryOp o y p=>exact(⟨o,y,p,rfl⟩:X3 λo' y' p'=>Expr.UnaryOp o y p= .UnaryOp o' y' p')
 |BoolOp o vs p=>exact(⟨o,vs,p,rfl⟩:X3 λo' vs' p'=>Expr.BoolOp o vs p= .BoolOp o' vs' p')
 |Compare l os cs p=>exact(⟨l,os,cs,p,rfl⟩:X4 λl' os' cs' p'=>Expr.Compare l os cs p= .Compare l' os' cs' p')
 |Tuple es k p=>exact(⟨es,k,p,rfl⟩:X3 λes' k' p'=>Expr.Tuple es k p= .Tuple es' k' p')
 |List es p=>exact(⟨es,p,rfl⟩:∃es' p',Expr.List es p= .List es' p')
 |Subscript u v p=>exact(⟨u,v,p,rfl⟩:X3 λu' v' p'=>Expr.Subscript u v p= .Subscript u' v' p')
 |ListComp e gs sc p=>exact(⟨e,gs,sc,p,rfl⟩:X4 λe' gs' sc' p'=>Expr.ListComp e gs sc p= .ListComp e' gs' sc' p')
 |Call f as kw p=>exact(⟨f,as,kw,p,rfl⟩:X4 λf' as' kw' p'=>Expr.Call f as kw p= .Call f' as' kw' p')
 |Attribute y z p=>exact(⟨y,z,p,rfl⟩:X3 λy' z' p'=>Expr.Attribute y z p= .Attribute y' z' p')
 |Slice lo hi st p=>exact(⟨lo,hi,st,p,rfl⟩:X4 λlo' hi' st' p'=>Expr.Slice lo hi st p= .Slice lo' hi' st' p')
 |Dict ks vs p=>exact(⟨ks,vs,p,rfl⟩:X3 λks' vs' p'=>Expr.Dict ks vs p= .Dict ks' vs' p')
 |_=>exact True.intro
noncomputable def uO(x:Jo):Nat->Prop
 |0=>X3 λs v p=>x= .Assign s v p
 |1=>∃v p,x= .Expr v p
 |2=>∃v p,x= .Return v p
 |3=>X4 λu y z p=>x= .If u y z p
 |4=>X5 λt i y z p=>x= .For t i y z p
 |5=>X4 λt y z p=>x= .While t y z p
 |6=>X3 λv c p=>x= .Raise v c p
 |7=>X5 λy h z w p=>x= .Try y h z w p
 |_=>True
theorem sinv(x:Jo):uO x (sk x):=by
 induction x using Stmt.casesOn with
 |Assign ts v p=>exact(⟨ts,v,p,rfl⟩:X3 λts' v' p'=>Stmt.Assign ts v p= .Assign ts' v' p')
 |Expr v p=>exact(⟨v,p,rfl⟩:∃v' p',Stmt.Expr v p= .Expr v' p')
 |Return v p=>exact(⟨v,p,rfl⟩:∃v' p',Stmt.Return v p= .Return v' p')
 |If u y z p=>exact(⟨u,y,z,p,rfl⟩:X4 λu' y' z' p'=>Stmt.If u y z p= .If u' y' z' p')
 |For t i y z p=>exact(⟨t,i,y,z,p,rfl⟩:X5 λt' i' y' z' p'=>Stmt.For t i y z p= .For t' i' y' z' p')
 |While t y z p=>exact(⟨t,y,z,p,rfl⟩:X4 λt' y' z' p'=>Stmt.While t y z p= .While t' y' z' p')
 |Raise v c p=>exact(⟨v,c,p,rfl⟩:X3 λv' c' p'=>Stmt.Raise v c p= .Raise v' c' p')
 |Try y hs z w p=>exact(⟨y,hs,z,w,p,rfl⟩:X5 λy' hs' z' w' p'=>Stmt.Try y hs z w p= .Try y' hs' z' w' p')
 |_=>exact True.intro
theorem eS(h:(xk x==k&&b)=Jc):v6 x k/\b=Jc:=by
 obtain⟨N,p⟩:=Qi.mp h;have:=xinv x;rw[beq_iff_eq.mp N] at this;exact⟨this,p⟩
theorem km(h:(sk x==k&&b)=Jc):uO x k/\b=Jc:=by
 obtain⟨N,p⟩:=Qi.mp h;have:=sinv x;rw[beq_iff_eq.mp N] at this;exact⟨this,p⟩
theorem CL(h:(a&&b)=Jc):a=Jc/\b=Jc:=Qi.mp h
theorem Dp(h:(a&&b&&c)=Jc):a=Jc/\b=Jc/\c=Jc:=⟨(CL (CL h).1).1,(CL (CL h).1).2,(CL h).2⟩
theorem FZ{a b c d:Bool}(h:(a&&b&&c&&d)=Jc):a=Jc/\b=Jc/\c=Jc/\d=Jc:=by obtain⟨N,p⟩:=CL h;exact by obtain⟨J,w,B⟩:=Dp N;exact⟨J,w,B,p⟩
theorem and5{a b c d e:Bool}(h:(a&&b&&c&&d&&e)=Jc):a=Jc/\b=Jc/\c=Jc/\d=Jc/\e=Jc:=by obtain⟨N,p⟩:=CL h;exact by obtain⟨J,w,B,W⟩:=FZ N;exact⟨J,w,B,W,p⟩
theorem and6{a b c d e f:Bool}(h:(a&&b&&c&&d&&e&&f)=Jc):a=Jc/\b=Jc/\c=Jc/\d=Jc/\e=Jc/\f=Jc:=by obtain⟨N,p⟩:=CL h;exact by obtain⟨J,w,B,W,S⟩:=and5 N;exact⟨J,w,B,W,S,p⟩
theorem nmE(h:Vl.Internal.nm y x=Jc):y=Qb x:=beq_iff_eq.mp h
section
variable{sc:Jk}{x:Jl}{P:Jl->Prop}
theorem hM(h:Ht c x=Jc)(k:∀n p,P (.Constant c n p)):P x:=by
 obtain⟨⟨c,n,p,rfl⟩,h⟩:=eS (k:=0) (b:=uC _ x) h;obtain rfl:=Ue h;exact k n p
theorem iy{f:Jq->Bool}(h:EC f y x=Jc)(k:∀p,f (Qb y)=Jc->bz (Qb y)=Jc->P (.Name (Qb y) p)):P x:=by
 obtain⟨⟨z,p,rfl⟩,h⟩:=eS (k:=1) (b:=HN f y x) h;have h:=Dp h;obtain rfl:=nmE h.1;exact k p h.2.1 h.2.2
theorem Bz(h:hBin V f g x=Jc)(k:∀l o r p,mOp V o=Jc->f l=Jc->g r=Jc->P (.BinOp l o r p)):P x:=by
 obtain⟨⟨l,o,r,p,rfl⟩,h⟩:=eS (k:=2) (b:=qBin V f g x) h;have h:=Dp h;exact k l o r p h.1 h.2.1 h.2.2
theorem Cr(h:(xk x==3&&qUn u f x)=Jc)(k:∀y p,f y=Jc->P (.UnaryOp u y p)):P x:=by
 obtain⟨⟨o,y,p,rfl⟩,h⟩:=eS h;have h:=CL h;obtain rfl:=Ue h.1;exact k y p h.2
theorem th(h:(xk x==4&&HO u f g x)=Jc)(k:∀y z p,f y=Jc->g z=Jc->P (.BoolOp u [y,z] p))(A:∀y z w r p,f y=Jc->g (.BoolOp u (z::w::r) p)=Jc->P (.BoolOp u (y::z::w::r) p)):P x:=by
 obtain⟨⟨o,v,p,rfl⟩,h⟩:=eS h
 rcases v with o0|⟨y,o0|⟨z,o0|⟨w,r⟩⟩⟩
 .exact ft h
 .exact ft h
 .have h:=CL h;obtain rfl:=Ue h.1;exact k y z p (CL h.2).1 (CL h.2).2
 .have h:=CL h;obtain rfl:=Ue h.1;exact A y z w r p (CL h.2).1 (CL h.2).2
theorem B7(h:(xk x==5&&qIs u f g x)=Jc)(k:∀l c p,f l=Jc->g c=Jc->P (.Compare l [u] [c] p)):P x:=by
 obtain⟨⟨l,Q,s,p,rfl⟩,h⟩:=eS h
 rcases Q with o0|⟨o,o0|⟨o0,o0⟩⟩<;>rcases s with _|⟨c,_|⟨_,_⟩⟩<;>first|exact ft h|skip
 have h:=CL h;obtain rfl:=Ue h.1;exact k l c p (CL h.2).1 (CL h.2).2
theorem fF(h:kz x=Jc):∀y p,x≠ .Starred y p:=by rintro y p rfl;exact ft h
theorem nt(h:(!b)=Jc):b=Jd:=(QT _).mp h
theorem BD(h:hCmp V f g x=Jc)(k:∀l o r p,mC V o=Jc->f l=Jc->g r=Jc->JG o r=Jd->P (.Compare l [o] [r] p)):P x:=by
 obtain⟨⟨l,Q,s,p,rfl⟩,h⟩:=eS (k:=5) (b:=qCmp V f g x) h
 rcases Q with o0|⟨o,o0|⟨o0,o0⟩⟩<;>rcases s with _|⟨c,_|⟨_,_⟩⟩<;>first|exact ft h|skip
 have h:=FZ h;exact k l o c p h.1 h.2.1 h.2.2.1<|nt h.2.2.2
theorem zy(h:hCmp2 v u f g e x=Jc)(k:∀l o r m M p,mC v o=Jc->mC u r=Jc->f l=Jc->g m=Jc->e M=Jc->JG r M=Jd->P (.Compare l [o,r] [m,M] p)):P x:=by
 obtain⟨⟨l,s,c,p,rfl⟩,h⟩:=eS (k:=5) (b:=qCmp2 v u f g e x) h
 rcases s with o0|⟨o,o0|⟨r,o0|⟨o0,o0⟩⟩⟩<;>first|exact ft h|skip
 rcases c with o0|⟨m,o0|⟨M,o0|⟨o0,o0⟩⟩⟩<;>first|exact ft h|skip
 have h:=and6 h;exact k l o r m M p h.1 h.2.1 h.2.2.1 h.2.2.2.1 h.2.2.2.2.1<|nt h.2.2.2.2.2
theorem BF{f:List Jl->Bool}(h:hTup f x=Jc)(k:∀es n p,f es=Jc->es.length<=100->P (.Tuple es n p)):P x:=by
 obtain⟨⟨es,n,p,rfl⟩,h⟩:=eS (k:=7) (b:=qTup f x) h;exact k es n p (CL h).1 (Ue (CL h).2)
theorem uw{f:List Jl->Bool}(h:HX f x=Jc)(k:∀es p,f es=Jc->es.length<=100->P (.List es p)):P x:=by
 obtain⟨⟨es,p,rfl⟩,h⟩:=eS (k:=8) (b:=qList f x) h;exact k es p (CL h).1 (Ue (CL h).2)
theorem yG(h:hSub f g x=Jc)(k:∀u v p,f u=Jc->g v=Jc->P (.Subscript u v p)):P x:=by
 obtain⟨⟨u,v,p,rfl⟩,h⟩:=eS (k:=10) (b:=qSub f g x) h;exact k u v p (CL h).1 (CL h).2
theorem uS{g:Jk->XB}(h:hComp sc tg f g x=Jc)(k:∀e t i s p,f i=Jc->Fm s tg t=Jc->g s e=Jc->fA sc s=Jc->El tg s=Jc->P (.ListComp e [⟨t,i,[],0⟩] s p)):P x:=by
 obtain⟨⟨e,y,s,p,rfl⟩,h⟩:=eS (k:=11) (b:=qComp sc tg f g x) h
 rcases y with o0|⟨⟨t,i,o0|⟨o0,o0⟩,a⟩,o0|⟨o0,o0⟩⟩<;>first|exact ft h|skip
 have h:=CL h;obtain rfl:=Ue h.1;have h:=and5 h.2;exact k e t i s p h.1 h.2.1 h.2.2.1 h.2.2.2.1 h.2.2.2.2
theorem oN{g c:Jk->XB}(h:rc sc tg f g c x=Jc)(k:∀e t i z s p,f i=Jc->Fm s tg t=Jc->g s e=Jc->c s z=Jc->fA sc s=Jc->El tg s=Jc->P (.ListComp e [⟨t,i,[z],0⟩] s p)):P x:=by
 obtain⟨⟨e,y,s,p,rfl⟩,h⟩:=eS (k:=11) (b:=qN sc tg f g c x) h
 rcases y with o0|⟨⟨t,i,o0|⟨z,o0|⟨o0,o0⟩⟩,a⟩,o0|⟨o0,o0⟩⟩<;>first|exact ft h|skip
 have h:=CL h;obtain rfl:=Ue h.1;have h:=and6 h.2;exact k e t i z s p h.1 h.2.1 h.2.2.1 h.2.2.2.1 h.2.2.2.2.1 h.2.2.2.2.2
theorem vl{g:List Jl->Bool}(h:hCl f g x=Jc)(k:∀y as p,f y=Jc->g as=Jc->P (.Call y as [] p)):P x:=by
 obtain⟨⟨y,as,w,p,rfl⟩,h⟩:=eS (k:=12) (b:=qCall f g x) h
 rcases w with o0|⟨o0,o0⟩
 .exact k y as p (CL h).1 (CL h).2
 .exact ft h
theorem sq{f:List Jl->Bool}(h:hCl (glb sc n) f x=Jc)(k:∀py as p,sc.names.lookup (Qb n)=Ja .globalImplicit->bz (Qb n)=Jc->f as=Jc->P (.Call (.Name (Qb n) py) as [] p)):P x:=
 vl h λy as p N Y=>by
  obtain⟨py,rfl,J,w⟩:=iQ N;exact k py as p J w Y
theorem wq{g:Y5->Bool}(h:hAt a f g x=Jc)(k:∀y p,f y=Jc->ei y=Jc->g p=Jc->P (.Attribute y (Qb a) p)):P x:=by
 obtain⟨⟨y,z,p,rfl⟩,h⟩:=eS (k:=13) (b:=qAttr a f g x) h;have h:=FZ h;obtain rfl:=nmE h.2.2.1;exact k y p h.1 h.2.1 h.2.2.2
theorem sD{g:List Jl->Bool}(h:hMc m f g x=Jc)(k:∀y as p q,f y=Jc->ei y=Jc->(p.endLine==q.line)=Jc->g as=Jc->P (.Call (.Attribute y (Qb m) p) as [] q)):P x:=by
 obtain⟨⟨u,as,w,q,rfl⟩,h⟩:=eS (k:=12) (b:=qMeth (λq=>hAt m f λp=>p.endLine==q.line) g x) h
 rcases w with o0|⟨o0,o0⟩
 .have h:=CL h;exact wq (P:=λu=>P<|.Call u as [] q) h.1 λy p N Y J=>k y as p q N Y J h.2
 .exact ft h
theorem rX{Q:List Jl->Prop}(h:HL f g l=Jc)(k:∀x y,f x=Jc->g y=Jc->Q [x,y]):Q l:=by
 rcases l with o0|⟨x,o0|⟨y,o0|⟨o0,o0⟩⟩⟩<;>first|exact ft h|exact k x y (CL h).1 (CL h).2
theorem yD(h:hEmp x=Jc)(k:∀p,P (.List [] p)):P x:=
 uw h λe p N o0=>by
  rcases e with o0|⟨o0,o0⟩
  .exact k p
  .exact ft N
theorem wV(h:vL x=Jc)(k:∀p,P (.Dict [] [] p)):P x:=by
 obtain⟨⟨s,v,p,rfl⟩,h⟩:=eS (k:=15) (b:=uI x) h
 rcases s with o0|⟨o0,o0⟩<;>rcases v with _|⟨_,_⟩<;>first|exact ft h|exact k p
theorem Bv{Q:List Jl->Prop}(h:one1 f l=Jc)(k:∀x,f x=Jc->Q [x]):Q l:=by
 rcases l with o0|⟨x,o0|⟨o0,o0⟩⟩<;>first|exact ft h|exact k x h
end
section
variable{sc:Jk}{x:Jo}{P:Jo->Prop}
theorem pD(h:Gf f g x=Jc)(k:∀t v pos,f t=Jc->g v=Jc->P (.Assign [t] v pos)):P x:=by
 obtain⟨⟨s,v,p,rfl⟩,h⟩:=km (k:=0) (b:=rAsg f g x) h
 rcases s with o0|⟨t,o0|⟨o0,o0⟩⟩<;>first|exact ft h|exact k t v p (CL h).1 (CL h).2
theorem Aa(h:Gf (hOwn sc y) f x=Jc)(k:∀z v pos,Fm sc (.name y) (.Name (Qb y) z)=Jc->f v=Jc->P (.Assign [.Name (Qb y) z] v pos)):P x:=
 pD h λt v pos N J=>iy (P:=λt=>P<|.Assign [t] v pos) N λp w B=>k p v pos (by show(Vl.Internal.nm _ _&&EA sc _&&bz _)=Jc;rw[w,B,Bool.and_true,Bool.and_true];exact beq_self_eq_true _) J
theorem AW(h:Gf (hTupT (eZ sc xs)) f x=Jc)(k:∀es a b v pos,Fm sc (.tup xs) (.Tuple es a b)=Jc->f v=Jc->P (.Assign [.Tuple es a b] v pos)):P x:=
 pD h λt v pos N J=>by
  obtain⟨⟨es,a,b,rfl⟩,N⟩:=eS (k:=7) (b:=qTupT (eZ sc xs) t) N;exact k es a b v pos N J
theorem zM(h:kExpr f x=Jc)(k:∀v pos,f v=Jc->P (.Expr v pos)):P x:=by
 obtain⟨⟨v,p,rfl⟩,h⟩:=km (k:=1) (b:=rExpr f x) h;exact k v p h
theorem AZ(h:kRet f x=Jc)(k:∀v pos,f v=Jc->P (.Return (Ja v) pos)):P x:=by
 obtain⟨⟨v,p,rfl⟩,h⟩:=km (k:=2) (b:=rRet f x) h
 rcases v with o0|v
 .exact ft h
 .exact k v p h
theorem Cs(h:kIf f g e x=Jc)(k:∀u y z pos,f u=Jc->g y=Jc->e z=Jc->P (.If u y z pos)):P x:=by
 obtain⟨⟨u,y,z,p,rfl⟩,h⟩:=km (k:=3) (b:=rIf f g e x) h;have h:=Dp h;exact k u y z p h.1 h.2.1 h.2.2
theorem By(h:kFor f g e x=Jc)(k:∀t i y pos,f t=Jc->g i=Jc->e y=Jc->P (.For t i y [] pos)):P x:=by
 obtain⟨⟨t,i,y,z,p,rfl⟩,h⟩:=km (k:=4) (b:=rFor f g e x) h
 rcases z with o0|⟨o0,o0⟩
 .have h:=Dp h;exact k t i y p h.1 h.2.1 h.2.2
 .exact ft h
theorem x8(h:tJ f e x=Jc)(k:∀u y pos,f u=Jc->e y=Jc->P (.While u y [] pos)):P x:=by
 obtain⟨⟨u,y,z,p,rfl⟩,h⟩:=km (k:=5) (b:=tB f e x) h
 rcases z with o0|⟨o0,o0⟩
 .exact k u y p (CL h).1 (CL h).2
 .exact ft h
theorem ya(h:vF f x=Jc)(k:∀v pos,f v=Jc->P (.Raise (Ja v) Jb pos)):P x:=by
 obtain⟨⟨v,c,pos,rfl⟩,h⟩:=km (k:=6) (b:=uk f x) h
 rcases v with o0|v<;>rcases c with _|_<;>first|exact ft h|exact k v pos h
theorem B2{c z:String}{Q:J4->Prop}(h:rHd sc c z g e=Jc)(k:∀t R r p,glb sc c t=Jc->sc.names.lookup (Qb z)=Ja .local->g (R::r)=Jc->Q (.ExceptHandler (Ja t) (Ja (Qb z)) (R::r) p)):Q e:=by
 obtain⟨t,n,b,q⟩:=e
 rcases t with o0|t<;>rcases n with _|n<;>rcases b with _|⟨R,r⟩<;>first|exact ft h|skip
 obtain⟨N,Y,J⟩:=Dp h;obtain⟨w,B⟩:=CL Y;rw[nmE w] at B ⊢;exact k t R r q N (beq_iff_eq.mp B) J
theorem zt{a b:J4->Bool}(h:kTry f (rH2 a b) x=Jc)(k:∀y u v pos,f y=Jc->a u=Jc->b v=Jc->P (.Try y [u,v] [] [] pos)):P x:=by
 obtain⟨⟨y,s,z,w,p,rfl⟩,h⟩:=km (k:=7) (b:=rTry f (rH2 a b) x) h
 rcases z with o0|⟨o0,o0⟩<;>rcases w with _|⟨_,_⟩<;>rcases s with _|⟨u,_|⟨v,_|⟨_,_⟩⟩⟩<;>first|exact ft h|exact ft (CL h).2|skip
 obtain⟨N,Y⟩:=CL h;exact k y u v p N (CL Y).1 (CL Y).2
end
section
set_option backward.match.sparseCases true
inductive BP(C:Cx)(Z:PH)(s:Je)(K:Bool->PH->Prop)(b:Bool)(s1:Je):Prop
 |mk (Z1:PH) (m:CP C Z1 s1.heap) (st:CF CC Z s.heap Z1 s1.heap) (r:CS s s1) (k:K b Z1):BP C Z s K b s1
structure At(C:Cx)(n:Nat)(sc:Jk)(env:Js)(ρ:CH)(A:Jj)(l:List Js)(Z:PH)(s:Je):Prop where
 sr:Fg sc env
 ev:CU C env ρ Z s.heap
 m:CP C Z s.heap
 ak:Dy C n A l Z s.heap
theorem At.step{s W:Je}(I:At C n sc env L A l Z s)(st:CF CC Z s.heap Z1 W.heap)(m:CP C Z1 W.heap):At C n sc env L A l Z1 W:=⟨I.sr,I.ev.step st,m,I.ak.step st⟩
def CM(C:Cx)(G:Gx)(n:Nat)(sc:Jk)(e:E)(x:Jl):Prop:=∀ {F:Js} {L:CH} {A:Jj} {l:List Js} {Z:PH} {s:Je} {Q:C9} {X:Dl},
 At C n sc F L A l Z s->we G (aN C n) e L Z Q X->Ei C A Z s (Jw x F) Q X
def Dz(C:Cx)(G:Gx)(n:Nat)(sc:Jk)(e:E)(x:Jl):Prop:=∀ {F:Js} {L:CH} {A:Jj} {l:List Js} {Z:PH} {s:Je} {K:Bool->PH->Prop} {X:Dl},
 At C n sc F L A l Z s->we G (aN C n) e L Z (λv m=>dj (λb=>K b m) v) X->Jh (Mo C) A (Y8 x F<|eval x F) (BP C Z s K) (XP C CC Z s X) s
noncomputable def EQ(C:Cx)(G:Gx)(n:Nat)(sc:Jk):List E->List Jl->Prop
 |[],P=>P=[]
 |e::U,P=>X2 λx r=>A4 (P=x::r) (kz x=Jc) (CM C G n sc e x)<|EQ C G n sc U r
section
variable{C:Cx}{G:Gx}{mg mb:Jq->Option Jf}{n:Nat}{A:Jj}{Z:PH}{s:Je}{X:Dl}
theorem Ei.seq{R:Jf->Je->Prop}{W:Je}(h:Ei C A Z1 W t Q' X)(st:CF CC Z s.heap Z1 W.heap)(r:CS s W)
  (k:∀v J p O,VR C O J.heap p v->CP C O J.heap->CF CC Z s.heap O J.heap->CF CC Z1 W.heap O J.heap->CS s J->Q' p O->R v J):Jh (Mo C) A t R (XP C CC Z s X) W:=
 YI h (λv J M=>by obtain⟨p,O,a,b,c,d,e⟩:=M;exact k v J p O a b (st.trans c) c (r.trans d) e) λo0 o0 x=>XP.from st r x
theorem EOKs.seq{Q':List PV->PH->Prop}{R:List Jf->Je->Prop}{W:Je}(h:EOKs C A Z1 W t Q' X)(st:CF CC Z s.heap Z1 W.heap)(r:CS s W)
  (k:∀v J p O,CZ C O J.heap p v->CP C O J.heap->CF CC Z s.heap O J.heap->CF CC Z1 W.heap O J.heap->CS s J->Q' p O->R v J):Jh (Mo C) A t R (XP C CC Z s X) W:=
 YI h (λv J M=>by obtain⟨p,O,a,b,c,d,e⟩:=M;exact k v J p O a b (st.trans c) c (r.trans d) e) λo0 o0 x=>XP.from st r x
theorem VP.to0{W:Je}{Er:Jf->Je->Prop}(st:CF CC Z s.heap Z1 W.heap)(r:CS s W)(h:Jh (Mo C) A t (VP C CC Z1 W Q) (λo0 o0=>False) W):Jh (Mo C) A t (VP C CC Z s Q) Er W:=
 YI h (λo0 o0 x=>VP.from st r x) λo0 o0 x=>x.elim
structure E6(C:Cx)(G:Gx)(n:Nat):Prop where
 isx:∀ {sc x t ts q py p},Ds sc (Qb x)=Jc->bz (Qb x)=Jc->sc.names.lookup (Qb "isinstance")=Ja .globalImplicit->bz (Qb "isinstance")=Jc->G9 sc ts t=Jc->CM C G n sc (.isx x ts) (.Call (.Name (Qb "isinstance") py) [.Name (Qb x) q,t] [] p)
 attr:∀ {sc x f q p},Ds sc (Qb x)=Jc->bz (Qb x)=Jc->CM C G n sc (.attr x f) (.Attribute (.Name (Qb x) q) (Qb f) p)
 mcall:∀ {sc c f o args y as p q},CM C G n sc o y->ei y=Jc->(p.endLine==q.line)=Jc->EQ C G n sc args as->as.length<=20->bQ f=Jd->cOf f=c->CM C G n sc (.mcall c f o args) (.Call (.Attribute y (Qb<|GO f) p) as [] q)
theorem Dy.u100(a:Dy C n A l Z h):A.units+100<Ua:=by have:=a.units;exact zl (Kk (KG _ _)<|by decide) this
theorem d8{R:Bool->Je->Prop}{Er:Jf->Je->Prop}(h:R b s):Jh (Mo C) A (Ju (.bool b)) R Er s:=wpAny_truthy_bool h
theorem yc{K:Bool->Prop}(hv:VR C Z h p v)(w:dj K p):∃b,v= .bool b/\K b:=by
 obtain⟨b,rfl,w⟩:=k9 w;exact⟨b,hv,w⟩
theorem yd{x:Jl}(hx:∀env,Y8 x env (Jw x env)=(do let v<-Jw x env;standAt x.pos;holding [v] (Ju v)))(h:CM C G n sc e x):Dz C G n sc e x:=by
 intro env ρ A l Z s K X I w;refine wpAny_isTrue_value (Ei.then (h I w) λv s1 p Z1 hv m1 st1 r1 q=> ?_)<|hx env;obtain⟨b,rfl,q⟩:=yc hv q;exact d8 ⟨Z1,m1,st1,r1,q⟩
theorem VP.now(I:At C n sc env L A l Z s)(hv:VR C Z s.heap p v)(q:Q p Z):VP C CC Z s Q v s:=VP.here I.m rfl ⟨rfl,rfl⟩ hv q
section
variable{sc:Jk}{a b c:E}{u v z:Jl}{p:Y5}{k:Nat}
theorem wR:CM C G n sc .none (.Constant .none k p):=λI w=>JI<|VP.now I kQ w
theorem xE{b:Bool}:CM C G n sc (.bool b) (.Constant (.bool b) k p):=λI w=>wpAny_Constant_bool<|VP.now I gA w
theorem zC{b:Int}:CM C G n sc (.int b) (.Constant (.int b) k p):=λI w=>wpAny_Constant_int<|VP.here I.m rfl ⟨rfl,rfl⟩ (dB _) w
theorem Ac{b:String}:CM C G n sc (.str b) (.Constant (.str (Qb b)) k p):=λI w=>wpAny_Constant_str (VP.here (p:= .str b) I.m rfl ⟨rfl,rfl⟩ ⟨_,rfl⟩ w)
theorem jK{env:Js}(r:Fg sc env)(h:Ds sc y=Jc):Ds env.scope y=Jc:=by
 have:∀k,env.kindOf y=Ja k->(k= .local\/k= .cell\/k= .free)->Ds env.scope y=Jc:=λk M σ=>by
  have M:env.scope.names.lookup y=Ja k:=M;unfold Ds;rw[M];rcases σ with rfl|rfl|rfl<;>rfl
 rcases mw h with q|q|q
 .exact this _ (r.loc y q)<|.inl rfl
 .exact this _ (r.cell y q)<|.inr (.inl rfl)
 .rcases r.free y q with q|q
  .exact this _ q<|.inr (.inl rfl)
  .exact this _ q<|.inr (.inr rfl)
theorem tO{b:String}(h:Ds sc (Qb b)=Jc)(Y:bz (Qb b)=Jc):CM C G n sc (.loc b) (.Name (Qb b) p):=λI w=>by
 obtain⟨v,e,w⟩:=kg w;exact kU I.ev (jK I.sr h) Y e λK hv=>VP.now I hv w
theorem xD(g:D4 C G mg mb){b:String}(h:mP sc (Qb b)=Jc)(Y:bz (Qb b)=Jc):CM C G n sc (.glob b) (.Name (Qb b) p):=λI w=>by
 obtain⟨v,e,w⟩:=kg w;obtain⟨K,T,F⟩:=g.glob b v e;exact gT g I.ev I.m (I.sr.glob _<|eq_of_beq h) Y T<|VP.now I (F _ _) w
theorem zA(N:mOp e o=Jc)(H:CM C G n sc a u)(R:CM C G n sc b v):CM C G n sc (.bin e a b) (.BinOp u o v p):=λI w=>
 wpAny_BinOp (Ei.then (H I w) λJ W j T h B P r w=>
  Ei.seq (R (I.step P B) w) P r λF x U O f m V t M w=>VP.to0 V M (yY N m (h.step t) f w))
theorem Ab(T:CM C G n sc a u):CM C G n sc (.not_ a) (.UnaryOp .Not u p):=λI w=>
 wpAny_UnaryOp (Ei.then (T I w) λf W o m h e t r w=>by
  obtain⟨b,rfl,w⟩:=yc h w;exact VP.to0 t r (not_value (d8 (VP.here e rfl ⟨rfl,rfl⟩ gA w))))
theorem wC(h:Dz C G n sc a u):Dz C G n sc (.not_ a) (.UnaryOp .Not u p):=λ{F L A l Z s K X} I w=>
 wpAny_isTrue_Not (YI (h (K:=λb m=>K (!b) m) I w) (λb W x=>by obtain⟨a,b,c,d,e⟩:=x;exact⟨a,b,c,d,e⟩) λo0 o0 x=>x)
theorem tQ{x y z:Jl}{Q Er:Jf->Je->Prop}
  (h:Jh (Mo C) A (Jw x env) (λv s₁=>Jh (Mo C) A (Ju v) (λt s₂=>if t then Jh (Mo C) A (Jw (.BoolOp .And (y::z::r) pos) env) Q Er s₂ else Q v s₂) Er s₁) Er s):
  Jh (Mo C) A (Jw (.BoolOp .And (x::y::z::r) pos) env) Q Er s:=by
 show Jh (Mo C) A (do
  let v<-Jw x env
  standAt pos
  let t<-holding [v] (Ju v)
  match BoolOp.And,t with
  | .And,Jd| .Or,Jc=>pure v
  |_,_=>boolOp pos .And (Jw y env::Jw z env::evalEach r env)) Q Er s
 refine YG<|YI h (λv s₁ h₁=>YG<|YK (YG<|YJ (YI h₁ (λt s₂ h₂=> ?_) λo0 o0 x=>x))) λo0 o0 x=>x
 induction t with
 |false=>exact YH h₂
 |true=>exact h₂
theorem xF{x y z:Jl}{Q Er:Jf->Je->Prop}
  (h:Jh (Mo C) A (Jw x env) (λv s₁=>Jh (Mo C) A (Ju v) (λt s₂=>if t then Q v s₂ else Jh (Mo C) A (Jw (.BoolOp .Or (y::z::r) pos) env) Q Er s₂) Er s₁) Er s):
  Jh (Mo C) A (Jw (.BoolOp .Or (x::y::z::r) pos) env) Q Er s:=by
 show Jh (Mo C) A (do
  let v<-Jw x env
  standAt pos
  let t<-holding [v] (Ju v)
  match BoolOp.Or,t with
  | .And,Jd| .Or,Jc=>pure v
  |_,_=>boolOp pos .Or (Jw y env::Jw z env::evalEach r env)) Q Er s
 refine YG<|YI h (λv s₁ h₁=>YG<|YK (YG<|YJ (YI h₁ (λt s₂ h₂=> ?_) λo0 o0 x=>x))) λo0 o0 x=>x
 induction t with
 |false=>exact h₂
 |true=>exact YH h₂
theorem rB(H:CM C G n sc a u)(R:CM C G n sc b v)(I:At C n sc env L A l Z s)(w:we G (aN C n) (.and_ a b) L Z Q X):
  Jh (Mo C) A (Jw u env) (λx m=>Jh (Mo C) A (Ju x) (λt j=>if t then Jh (Mo C) A (Jw v env) (VP C CC Z s Q) (XP C CC Z s X) j else VP C CC Z s Q x j) (XP C CC Z s X) m) (XP C CC Z s X) s:=
 Ei.then (H I w) λf W o T h e P r w=>by
  obtain⟨b,rfl,w⟩:=yc h w;refine d8 ?_
  induction b with
  |true=>exact Ei.after P r<|R (I.step P e) w
  |false=>exact VP.from P r<|VP.here e rfl ⟨rfl,rfl⟩ gA w
theorem vt(H:CM C G n sc a u)(R:CM C G n sc b v)(I:At C n sc env L A l Z s)(w:we G (aN C n) (.or_ a b) L Z Q X):
  Jh (Mo C) A (Jw u env) (λx m=>Jh (Mo C) A (Ju x) (λt j=>if t then VP C CC Z s Q x j else Jh (Mo C) A (Jw v env) (VP C CC Z s Q) (XP C CC Z s X) j) (XP C CC Z s X) m) (XP C CC Z s X) s:=
 Ei.then (H I w) λf W o T h e P r w=>by
  obtain⟨b,rfl,w⟩:=yc h w;refine d8 ?_
  induction b with
  |false=>exact Ei.after P r<|R (I.step P e) w
  |true=>exact VP.from P r<|VP.here e rfl ⟨rfl,rfl⟩ gA w
theorem BP.from{Z1:PH}{W:Je}{K:Bool->PH->Prop}{b:Bool}{J:Je}(st:CF CC Z s.heap Z1 W.heap)(r:CS s W)(x:BP C Z1 W K b J):BP C Z s K b J:=
 by obtain⟨O,a,b,c,d⟩:=x;exact⟨O,a,st.trans b,r.trans c,d⟩
theorem BP.after{W:Je}{K:Bool->PH->Prop}(st:CF CC Z s.heap Z1 W.heap)(r:CS s W)(h:Jh (Mo C) A t (BP C Z1 W K) (XP C CC Z1 W X) W):
  Jh (Mo C) A t (BP C Z s K) (XP C CC Z s X) W:=YI h (λo0 o0 x=>BP.from st r x) λo0 o0 x=>XP.from st r x
def Goes(C:Cx)(A:Jj)(t e:Sem Bool):Prop:=∀ (R:Bool->Je->Prop) (E:Jf->Je->Prop) (g:Je),Jh (Mo C) A e R E g->Jh (Mo C) A t R E g
theorem rJ{K:Bool->PH->Prop}(H:Dz C G n sc a u)(R:Dz C G n sc b v)(I:At C n sc env L A l Z s)(w:we G (aN C n) (.and_ a b) L Z (λv Z1=>dj (λb=>K b Z1) v) X)(W:Goes C A t (Y8 v env (Jw v env))):
  Jh (Mo C) A (Y8 u env<|eval u env) (λb m=>if b then Jh (Mo C) A t (BP C Z s K) (XP C CC Z s X) m else BP C Z s K Jd m) (XP C CC Z s X) s:=
 YI (H (K:=λT Z1=>if T then we G (aN C n) b L Z1 (λv Z1=>dj (λb=>K b Z1) v) X else K Jd Z1) I w) (λT O h=>by
  obtain⟨Z1,e,P,r,w⟩:=h
  induction T with
  |true=>exact W _ _ _<|BP.after P r (R (I.step P e) w)
  |false=>exact⟨Z1,e,P,r,w⟩) λo0 o0 x=>x
theorem u9{K:Bool->PH->Prop}(H:Dz C G n sc a u)(R:Dz C G n sc b v)(I:At C n sc env L A l Z s)(w:we G (aN C n) (.or_ a b) L Z (λv Z1=>dj (λb=>K b Z1) v) X)(W:Goes C A t (Y8 v env (Jw v env))):
  Jh (Mo C) A (Y8 u env<|eval u env) (λb m=>if b then BP C Z s K Jc m else Jh (Mo C) A t (BP C Z s K) (XP C CC Z s X) m) (XP C CC Z s X) s:=
 YI (H (K:=λT Z1=>if T then K Jc Z1 else we G (aN C n) b L Z1 (λv Z1=>dj (λb=>K b Z1) v) X) I w) (λT O h=>by
  obtain⟨Z1,e,P,r,w⟩:=h
  induction T with
  |false=>exact W _ _ _<|BP.after P r (R (I.step P e) w)
  |true=>exact⟨Z1,e,P,r,w⟩) λo0 o0 x=>x
theorem Ar(T:CM C G n sc a u/\Dz C G n sc a u)(H:CM C G n sc b v/\Dz C G n sc b v):CM C G n sc (.and_ a b) (.BoolOp .And [u,v] p)/\Dz C G n sc (.and_ a b) (.BoolOp .And [u,v] p):=
 ⟨λI w=>wpAny_And2 (rB T.1 H.1 I w),λI w=>JY (J7 (rJ T.2 H.2 I w λR E g h=>J7 (YI h (λb W H=>by
  induction b with
  |true=>exact wpAny_allTrue_And_nil H
  |false=>exact H) λo0 o0 x=>x)))⟩
theorem ye(T:CM C G n sc a u/\Dz C G n sc a u)(H:CM C G n sc b (.BoolOp .And (v::z::r) p)/\Dz C G n sc b (.BoolOp .And (v::z::r) p)):CM C G n sc (.and_ a b) (.BoolOp .And (u::v::z::r) p)/\Dz C G n sc (.and_ a b) (.BoolOp .And (u::v::z::r) p):=
 ⟨λI w=>tQ<|rB T.1 H.1 I w,λI w=>JY<|wpAny_allTrue_And_cons (rJ T.2 H.2 I w λR E g h=>h)⟩
theorem Bm(T:CM C G n sc a u/\Dz C G n sc a u)(H:CM C G n sc b v/\Dz C G n sc b v):CM C G n sc (.or_ a b) (.BoolOp .Or [u,v] p)/\Dz C G n sc (.or_ a b) (.BoolOp .Or [u,v] p):=
 ⟨λI w=>wpAny_Or2 (vt T.1 H.1 I w),λI w=>JY (YQ (u9 T.2 H.2 I w λR E g h=>YQ (YI h (λb W H=>by
  induction b with
  |true=>exact H
  |false=>exact wpAny_allTrue_Or_nil H) λo0 o0 x=>x)))⟩
theorem zY(T:CM C G n sc a u/\Dz C G n sc a u)(H:CM C G n sc b (.BoolOp .Or (v::z::r) p)/\Dz C G n sc b (.BoolOp .Or (v::z::r) p)):CM C G n sc (.or_ a b) (.BoolOp .Or (u::v::z::r) p)/\Dz C G n sc (.or_ a b) (.BoolOp .Or (u::v::z::r) p):=
 ⟨λI w=>xF<|vt T.1 H.1 I w,λI w=>JY<|wpAny_allTrue_Or_cons (u9 T.2 H.2 I w λR E g h=>h)⟩
theorem jE{Z:PH}{h:Ji}{p:PV}{v:Jf}(hv:VR C Z h p v):(v==Value.none)=p.isNone:=by
 induction p using PV.casesOn with
 |none=>rw[show v=_ from hv];rfl
 |bool=>rw[show v=_ from hv];rfl
 |int=>obtain⟨t,rfl⟩:=hv;rfl
 |str=>obtain⟨t,rfl⟩:=hv;rfl
 |tup=>obtain⟨a,o0,o0,rfl,o0⟩:=hv;rfl
 |ref=>rw[show v=_ from hv];rfl
 |scr=>obtain⟨a,o0,o0,o0,rfl,o0⟩:=hv;rfl
theorem sJ(T:CM C G n sc a u):CM C G n sc (.isNone a) (.Compare u [.Is] [.Constant .none k q] p):=λI w=>
 wpAny_Compare1 (Ei.then (T I w) λf W o m h e t r w=>JI<|is_none (by rw[jE h];exact⟨.bool _,m,rfl,e,t,r,w⟩))
theorem pR(T:CM C G n sc a u):Dz C G n sc (.isNone a) (.Compare u [.Is] [.Constant .none k q] p):=λI w=>
 YR (Ei.then (T I w) λf W o m h e t r w=>JI<|is_none (d8<|by rw[jE h];exact⟨m,e,t,r,w⟩))
theorem pY(T:CM C G n sc a u):CM C G n sc (.notNone a) (.Compare u [.IsNot] [.Constant .none k q] p):=λI w=>
 wpAny_Compare1 (Ei.then (T I w) λf W o m h e t r w=>JI<|isNot_none (by rw[jE h];exact⟨.bool _,m,rfl,e,t,r,w⟩))
theorem oL(T:CM C G n sc a u):Dz C G n sc (.notNone a) (.Compare u [.IsNot] [.Constant .none k q] p):=λI w=>
 YR (Ei.then (T I w) λf W o m h e t r w=>JI<|isNot_none (d8<|by rw[jE h];exact⟨m,e,t,r,w⟩))
theorem iM{W:Je}{K:PV->Bool->PH->Prop}{R:Jf->Jf->Je->Prop}(N:mC e o=Jc)(g:CM C G n sc b v)(I:At C n sc env L A l Z1 W)(P:CF CC Z s.heap Z1 W.heap)(B:CS s W)(Q:VR C Z1 W.heap M J)
  (w:we G (aN C n) b L Z1 (λq O=>Ho e M q O<|K q) X)(D:∀T r H Z3 σ,VR C Z3 σ.heap r H->CP C Z3 σ.heap->CF CC Z s.heap Z3 σ.heap->CS s σ->K r T Z3->R H (.bool T) σ):
  Jh (Mo C) A (Jw v env) (λy j=>Jh (Mo C) A (YV o J y) (R y) (XP C CC Z s X) j) (XP C CC Z s X) W:=
 Ei.seq (g I w) P B λH s2 r O f m V t d w=>YI (An N m I.ak.u100 (Q.step t) f w) (λv σ h=>by
  obtain⟨Y,Z3,i,U,E,F,T,rfl,S⟩:=h;rw[show v= .bool T from i];exact D T r H Z3 σ (f.step E) U (V.trans E) (d.trans F) S) λo0 o0 x=>x
theorem zz(N:mC V o=Jc)(O:JG o v=Jd)(S:CM C G n sc a u)(H:CM C G n sc b v):CM C G n sc (.cmp V a b) (.Compare u [o] [v] p)/\Dz C G n sc (.cmp V a b) (.Compare u [o] [v] p):=
 ⟨λ{F L A l Z s Q X} I w=>wpAny_Compare1 (Ei.then (S I w) λf W j T h e t r w=>iM (R:=λo0=>VP C CC Z s Q) N H (I.step t e) t r h w λM U x D σ o0 m y d q=>⟨.bool M,D,rfl,m,y,d,q⟩) O,
  λ{F L A l Z s K X} I w=>YR (Ei.then (S I w) λf W j T h e t r w=>iM (R:=λo0 c σ=>Jh (Mo C) A (Ju c) (BP C Z s K) (XP C CC Z s X) σ) N H (I.step t e) t r h w λM U x D σ o0 m y d q=>d8 ⟨D,m,y,d,q⟩) O⟩
theorem lB(h:JG r M=Jd):lastMarks [o,r] [f,M]=Jd:=by
 simpa [lastMarks] using h
theorem ww(N:mC o M=Jc)(Y:mC O r=Jc)(K:JG r z=Jd)(S:CM C G n sc a u)(H:CM C G n sc b v)(σ:CM C G n sc c z):CM C G n sc (.cmp2 a o b O c) (.Compare u [M,r] [v,z] p):=λ{F E A l Z s Q X} I w=>
 PyProof.Rows.Compare_chain (Ei.then (S I w) λv1 g U j h e P f w=>PyProof.Rows.chain_link (iM N H (I.step P e) P f h w λT J v2 D L d m t y w=>d8 (by
  induction T with
  |false=>exact⟨.bool Jd,D,rfl,m,t,y,w⟩
  |true=>exact PyProof.Rows.chain_last (iM (R:=λo0=>VP C CC Z s Q) Y σ (I.step t m) t y d w λT q4 V i s5 o0 W x B q=>⟨.bool T,i,rfl,W,x,B,q⟩)))) (lB K)
theorem tU(N:mC o M=Jc)(Y:mC O r=Jc)(B:JG r z=Jd)(S:CM C G n sc a u)(H:CM C G n sc b v)(g:CM C G n sc c z):Dz C G n sc (.cmp2 a o b O c) (.Compare u [M,r] [v,z] p):=λ{F E A l Z s K X} I w=>
 PyProof.Rows.isTrue_chain (Ei.then (S I w) λv1 V U j h e P f w=>PyProof.Rows.test_link (iM N H (I.step P e) P f h w λT L v2 D σ d m t y w=>d8 (by
  induction T with
  |false=>exact⟨D,m,t,y,w⟩
  |true=>exact PyProof.Rows.test_last (iM (R:=λo0 c σ=>Jh (Mo C) A (Ju c) (BP C Z s K) (XP C CC Z s X) σ) Y g (I.step t m) t y d w λT q4 J i s5 o0 W x Q q=>d8 ⟨i,W,x,Q,q⟩)))) (lB B)
end
end
end
theorem AA(h:kz x=Jc)(env:Js):∀v,JQ x env v=pure v:=by
 intro v
 induction x using Expr.casesOn with
 |Set es k p=>exact ft h
 |_=>rfl
section
variable{C:Cx}{G:Gx}{mg mb:Jq->Option Jf}{n:Nat}
theorem EQ.plain:∀ {es:List E} {xs:List Jl},EQ C G n sc es xs->eC xs=Jc
 |[],_=>λh=>by rw[show _=[] from h];rfl
 |_::_,_=>λh=>by
  obtain⟨x,r,rfl,N,o0,J⟩:=h;exact eU (fF N)<|EQ.plain J
theorem EQ.length:∀ {es:List E} {xs:List Jl},EQ C G n sc es xs->xs.length=es.length
 |[],_=>λh=>by rw[show _=[] from h];rfl
 |_::_,_=>λh=>by
  obtain⟨x,r,rfl,o0,o0,J⟩:=h;exact Uj (· +1)<|EQ.length J
theorem jL:∀ {es:List E} {xs:List Jl} {Z:PH} {s:Je} {Q:List PV->PH->Prop},
  EQ C G n sc es xs->At C n sc env L A l Z s->Fc G (aN C n) es L Z Q X->EOKs C A Z s (J2<|backTo pos (JD xs env)) (λps Z1=>ps.length=es.length/\Q ps Z1) X
 |[],_,Z,s,Q=>λh I w=>by
  rw[show _=[] from h];exact Calls.spliced_nil ⟨[],Z,rfl,I.m,.refl _ _ _,⟨rfl,rfl⟩,rfl,w⟩
 |e::es,_,Z,s,Q=>λh I w=>by
  obtain⟨x,r,rfl,N,Y,J⟩:=h;rw[ck (fF N)];show Jh _ _ (J2 ((Jd,Jw x env)::JX pos (JD r env))) _ _ s;refine Calls.spliced_cons (Ei.then (Y I w) λW D d Z1 K B P f w=> ?_);refine EOKs.seq (jL J (I.step P B) w) P f λj R ps O T m o t M w=> ?_;exact⟨d::ps,O,⟨W,j,rfl,K.step t,T⟩,m,o,M,Uj (· +1) w.1,w.2⟩
section
variable{sc:Jk}{a b:E}{es:List E}{u v:Jl}{xs:List Jl}{p:Y5}{k:Nat}
theorem yZ(h:EQ C G n sc es xs)(Y:xs.length<=100):CM C G n sc (.tup es) (.Tuple xs k p):=λI w=>
 wpAny_Tuple_spliced (YI (jL h I w) (λJ W s=>by
  obtain⟨Q,m,hv,B,t,f,o,w⟩:=s;refine⟨?_,VP.from t f (VP.allocTup (vs:=J.toArray) (n:=0) B rfl ⟨rfl,rfl⟩ hv w)⟩;rw[hv.length,o,<-h.length];exact Qq Y (by decide)) λo0 o0 x=>x)
theorem xt(h:EQ C G n sc es xs)(Y:xs.length<=100):CM C G n sc (.list es) (.List xs p):=λI w=>
 wpAny_List_spliced (YI (jL h I w) (λJ W s=>by
  obtain⟨Q,m,hv,B,t,f,g,w⟩:=s;refine⟨?_,VP.from t f (VP.alloc (o:= .list Q) B rfl ⟨rfl,rfl⟩ rfl ⟨J.toArray,0,rfl,hv⟩ w)⟩;rw[hv.length,g,<-h.length];exact Qq Y (by decide)) λo0 o0 x=>x)
theorem yT(D:CM C G n sc a u)(H:CM C G n sc b v):CM C G n sc (.sub a b) (.Subscript u v p):=λI w=>by
 refine lp ?_;intro P V;refine PyProof.Rows.Subscript_ (Ei.then (D I w) λW Y S g h Q t d w=> ?_);refine Ei.seq (H (I.step t Q) w) t d λK X U O f m o s R j=> ?_;refine VP.to0 o R ?_
 rcases j with j|j
 .obtain⟨r,i,N,rfl,e,J⟩:=iN j;obtain⟨k,M,z⟩:=jh J;obtain⟨q,T,B⟩:=kg z;rw[show W= .ref r from h];exact wg I.ak.u100 m e f M T B
 obtain⟨k,F,j,B⟩:=gR j;obtain⟨q,T,B⟩:=kg B;refine zU m (h.step s) f T (λE M=> ?_) B;obtain rfl:=sj<|F.symm.trans M;exact Qq j<|by decide
end
section
variable{sc:Jk}{a b:E}{es:List E}{u v:Jl}{xs:List Jl}{p q:Y5}
theorem fi{py p:Y5}:Jw (.Call (.Name f py) xs [] p) env=(do callWith p (<-Jw (.Name f py) env) [] (JX p (JD xs env)) (Y1 p (J3 [] env))):=rfl
theorem iH{env:Js}{L:CH}{Z:PH}{s:Je}{A:Jj}{l:List Js}{X:Dl}{x:String}{v:Jf}{py:Y5}{Q':List PV->PH->Prop}{R:Jf->Je->Prop}
  (h:EQ C G n sc es xs)(I:At C n sc env L A l Z s)
  (d:∀ (R:Jf->Je->Prop) (Er:Jf->Je->Prop),R v s->Jh (Mo C) A (Jw (.Name (Qb x) py) env) R Er s)(kp:Kp C v)(w:Fc G (aN C n) es L Z Q' X)
  (k:∀vs W ps Z1,CZ C Z1 W.heap ps vs->CP C Z1 W.heap->CF CC Z s.heap Z1 W.heap->CS s W->ps.length=es.length->Q' ps Z1->Jh (Mo C) A (call v vs) R (XP C CC Z s X) W):
  Jh (Mo C) A (Jw (.Call (.Name (Qb x) py) xs [] p) env) R (XP C CC Z s X) s:=by
 rw[fi];refine YG<|d _ _ (c8 (first:=[]) kp h.plain ?_);refine YI (jL h I w) (λvs W T=> ?_) λo0 o0 x=>x;obtain⟨ps,Z1,hv,m,t,f,o,w⟩:=T;exact⟨m.base,k vs W ps Z1 hv m t f o w⟩
theorem wK(g:D4 C G mg mb){py:Y5}(D:bQ f=Jc)(O:sc.names.lookup (Qb f)=Ja .globalImplicit)(d:bz (Qb f)=Jc)(h:EQ C G n sc es xs):CM C G n sc (.call f es) (.Call (.Name (Qb f) py) xs [] p):=λI w=>by
 obtain⟨v,hv,kp⟩:=g.fn f w.1;refine iH h I (λR E X=>gT g I.ev I.m (I.sr.glob _ O) d (g.fv f v D hv) X) kp w.2 λJ W t j T B s m o w=> ?_;obtain⟨K,e,o0,w⟩:=w;obtain rfl:=sj<|hv.symm.trans e;exact YI (w _ _ W J (I.ak.step s) B T) (λo0 o0 x=>VP.from s m x) λo0 o0 x=>XP.from s m x
end
theorem D4.noSys(g:D4 C G mg mb){h:Ji}(m:CP C Z h):h.objs.size≠JC:=λq=>by
 obtain⟨o,es,s,e,o0⟩:=g.g;have:=QO<|m.base _ _ e;rw[q] at this;exact absurd this<|by decide
theorem BO(g:D4 C G mg mb){sc:Jk}{b:BI}{py p:Y5}(d:sc.names.lookup (Qb b.nm)=Ja .globalImplicit)(W:bz (Qb b.nm)=Jc)(h:EQ C G n sc es xs):CM C G n sc (.bi b es) (.Call (.Name (Qb b.nm) py) xs [] p):=λI w=>
 iH h I (λR o X=>gQ g I.ev I.m (I.sr.glob _ d) W b.mem b.boot X) (b.kp C) w.2 λJ O Q T s m t f F B=>
  VP.to0 t f (Cg (I.ak.calm<|g.calm w.1) I.ak.u100 m s B<|g.noSys m)
theorem uX(h:T∈Gj):Y0 (Qb T)=Ja (.type T)/\T∈Ef:=by
 simp only[Gj,Qw,Ky,or_false] at h
 rcases h with rfl|rfl|rfl|rfl|rfl<;>exact⟨by decide+kernel,by decide⟩
theorem n5{L:Type}{l:List L}(h:l.length=1):∃a,l=[a]:=by
 induction l using List.casesOn with
 |nil=>cases h
 |cons a r=>induction r using List.casesOn with
  |nil=>exact⟨a,rfl⟩
  |cons=>cases h
theorem lA:∀ {ts:List String} {es:List Jl},j9 sc ts es=Jc->es.length=ts.length
 |[],[]=>λo0=>rfl
 |[],_::_=>λh=>by exact ft h
 |_::_,[]=>λh=>by exact ft h
 |_::_,_::_=>λh=>Uj (· +1)<|lA (CL h).2
inductive MTy(sc:Jk)(ts:List String)(t:Jl):Prop
 |tup (es:List Jl) (k:Nat) (p:Y5) (e:t= .Tuple es k p) (h:j9 sc ts es=Jc) (h2:2<=es.length) (h3:es.length<=100):MTy sc ts t
 |one (d:String) (e:ts=[d]) (h:glb sc d t=Jc):MTy sc ts t
theorem nX{f:String->Bool}(h:HQ f ts=Jc):∃d,ts=[d]/\f d=Jc:=by
 induction ts using List.casesOn with
 |nil=>exact D6 h
 |cons d r=>induction r using List.casesOn with
  |nil=>exact⟨d,rfl,h⟩
  |cons=>exact D6 h
theorem mf(h:G9 sc ts t=Jc):MTy sc ts t:=by
 have one:∀t,HQ (λd=>glb sc d t) ts=Jc->MTy sc ts t:=λt h=>by obtain⟨d,e,h⟩:=nX h;exact .one d e h
 induction t using Expr.casesOn with
 |Tuple es k p=>
  obtain⟨h1,h2⟩:=CL (show(j9 sc ts es&&(decide (2<=es.length)&&decide (es.length<=100)))=Jc from h);exact .tup es k p rfl h1 (Ue (CL h2).1)<|of_decide_eq_true (CL h2).2
 |_=>exact one _ h
theorem zh(g:D4 C G mg mb){sc:Jk}{py p:Y5}(M:sc.names.lookup (Qb "isinstance")=Ja .globalImplicit)(K:bz (Qb "isinstance")=Jc)(S:kz y=Jc)(J:HQ (λd=>glb sc d t) ts=Jc)(i:CM C G n sc a y):
  CM C G n sc (.isi a ts) (.Call (.Name (Qb "isinstance") py) [y,t] [] p):=λ{F Y A l Z s Q X} I w=>by
 refine lp ?_;intro z j;obtain⟨f,w⟩:=w;obtain⟨R,rfl,D⟩:=nX J;have H:R∈Gj:=by
  have f:(Jc&&(Gj.contains R&&Jc))=Jc:=f
  simpa using f
 obtain⟨L,rfl,σ,O⟩:=iQ D;obtain⟨N,V⟩:=uX H;rw[fi];refine YG<|gQ g I.ev I.m (I.sr.glob _ M) K (by decide) (v:= .builtin "isinstance") (by decide+kernel) (c8 (first:=[]) ⟨.machine,.inr<|.inl rfl,W.Looks.of_pure rfl⟩ (eU (fF S) rfl) ?_);rw[ck (fF S)];show Jh _ _ (J2 [(Jd,Jw y F),(Jd,Jw (.Name (Qb R) L) F)]) _ _ s;refine Calls.spliced_cons (Ei.then (i I w) λv1 o U T h m P B w=> ?_);refine Calls.spliced_cons<|gQ g (I.ev.step P) m (I.sr.glob _ σ) O V N (Calls.spliced_nil ⟨m.base,?_⟩);obtain⟨b,e,w⟩:=vN w;exact VP.to0 P B<|AH H m h e w
theorem jl{nm:Jq}(h:ei x=Jc):attributeBase x nm env (Jw x env)=Jw x env:=by
 induction x using Expr.casesOn with
 |Call f as kw q=>induction as using List.casesOn with
  |nil=>exact D6 h
  |cons a as=>rcases f with⟨⟩<;>rfl
 |_=>rfl
theorem sB{xs:List Jl}{p q:Y5}(h2:ei y=Jc)(h5:(p.endLine==q.line)=Jc)(h6:xs.length=1)(ho:CM C G n sc o y)(h:EQ C G n sc es xs):CM C G n sc (.meth o .append es) (.Call (.Attribute y (Qb "append") p) xs [] q):=λ{F ρ A l Z s Q X} I w=>by
 refine lp ?_;intro zP zR;obtain⟨e,rfl⟩:=n5<|h.length.symm.trans h6;obtain⟨z,r,rfl,hz,h3,rfl⟩:=h;have D:JD [z] F=[(Jd,Jw z F)]:=by rw[ck (fF hz)];rfl
 refine wpAny_Call_append (jl h2) ?_ h5 (by rw[D];rfl) ?_
 .rw[D];rfl
 refine Ei.then (ho I w) λv1 s1 p1 T K L t r1 σ=> ?_;obtain⟨a,l1,rfl,N,o0⟩:=eR (show Es T (λo0=>True) p1 from σ.1);rw[show v1= .ref a from K];obtain⟨W,k1,g1,g2⟩:=L.list N;refine⟨a,W,rfl,⟨_,k1,g1,rfl,rfl,rfl⟩,?_⟩;refine Ei.seq (h3 (I.step t L) σ.2) t r1 λR s2 U O f M V i r2 j=> ?_;obtain⟨Y,P,j,w3⟩:=jj (show GN (λl=>l.length<Dg/\Q .none (O.set a<|.list (l++[U]))) (O a) from j);obtain⟨m,k2,g3,d⟩:=M.list P;have J:m.size=Y.length:=d.length;refine VP.to0 V r2<|wpAny_list_append_plain ⟨k2,g3⟩ (λh' g B=> ?_) (by rw[J];exact Qq (Kw j)<|by decide);obtain⟨H,g⟩:=g;obtain⟨u1,u2⟩:=CP.upd (S:=CC) (o':= .list (Y++[U])) M P rfl B g ⟨m.push R,H,rfl,by rw[Array.toList_push];exact d.append ⟨R,[],rfl,f,rfl⟩⟩;exact⟨.none,_,kQ,u1,u2,⟨rfl,rfl⟩,w3⟩
theorem sb{xs:List Jl}{p q:Y5}(h2:ei y=Jc)(h5:(p.endLine==q.line)=Jc)(h6:xs.length=1)(ho:CM C G n sc o y)(h:EQ C G n sc es xs):CM C G n sc (.meth o .remove es) (.Call (.Attribute y (Qb "remove") p) xs [] q):=λ{Y ρ A l Z s Q X} I w=>by
 refine lp ?_;intro zP zR;obtain⟨e,rfl⟩:=n5<|h.length.symm.trans h6;obtain⟨z,r,rfl,T,h3,rfl⟩:=h;have D:JD [z] Y=[(Jd,Jw z Y)]:=by rw[ck (fF T)];rfl
 refine Ub (jl h2) (by rw[D];rfl) h5 rfl ?_;refine Ei.then (ho I w) λv1 s1 p1 m K B t H σ=> ?_;obtain⟨a,l1,rfl,L,o0⟩:=eR (show Es m (λo0=>True) p1 from σ.1);rw[show v1= .ref a from K];obtain⟨aa,k1,P,g2⟩:=B.list L;refine⟨"list","list.remove",F.plainAttrs_list,F.slot_list_remove,F.type_list_remove,⟨_,P,rfl⟩,(λb' g=>by injection g with g;subst g;exact⟨_,P,rfl⟩),?_⟩;refine c8 (first:=[.ref a]) ⟨.machine,.inr<|.inl rfl,W.Looks.of_pure rfl⟩ (eU (fF T) rfl) ?_;rw[D];show Jh _ _ (J2 [(Jd,Jw z Y)]) _ _ s1;refine Calls.spliced_cons (Ei.seq (h3 (I.step t B) σ.2) t H λv2 s2 J O U M V i r2 w2=>Calls.spliced_nil ⟨M.base,?_⟩);obtain⟨l2,e2,c,f,j,q1,R,N,q4,q5,S⟩:=jj (show GN (λl=>X3 λc f j=>A6 (Rd O c J) (Hi O f l) (G8 c/\∀d∈f,G8 d) (l.length<=Dg) (f.findIdx? (λd=>PyData.eqv d c)=Ja j)<|Q .none (O.set a<|.list (l.eraseIdx j))) (O a) from w2);exact VP.to0 V r2<|sw I.ak.u100 M e2 U q1 R N.1 N.2 q4 q5 S
theorem vS:∀k,mW C k
 | .val=>uB
 | .range=>qy
 | .enum=>sv
theorem t6{tg:Tg}(h:Fm sc tg t=Jc)(h2:tg.isTup=Jc):qa t:=by
 induction tg with
 |name x=>exact ft h2
 |tup xs=>
  induction t using Expr.casesOn with
  |Tuple es a b=>exact⟨es,a,b,rfl⟩
  |_=>first|exact D6 h|exact Dw h|cases h
def E7(C:Cx)(G:Gx)(n:Nat)(sc:Jk)(tg:Tg):IK->List E->Jl->Prop
 | .val,es,i=>EQ C G n sc es [i]
 | .range,es,i=>X3 λpy s q=>A4 (i= .Call (.Name (Qb "range") py) s [] q) (sc.names.lookup (Qb "range")=Ja .globalImplicit) (bz (Qb "range")=Jc)<|EQ C G n sc es s
 | .enum,es,i=>X3 λpy s q=>A5 (i= .Call (.Name (Qb "enumerate") py) s [] q) (sc.names.lookup (Qb "enumerate")=Ja .globalImplicit) (bz (Qb "enumerate")=Jc) (EQ C G n sc es s)<|tg.isTup=Jc
theorem E7.of(h:mIt sc k tg es i=Jc)(H:∀xs,GS sc es xs=Jc->EQ C G n sc es xs):E7 C G n sc tg k es i:=by
 induction k with
 |val=>exact H _ h
 |range=>exact sq (P:=E7 C G n sc tg .range es) (f:=λs=>GS sc es s&&decide (s.length=1)) h λpy s q N Y J=>⟨py,s,q,rfl,N,Y,H _ (CL J).1⟩
 |enum=>exact sq (P:=E7 C G n sc tg .enum es) (f:=λs=>GS sc es s&&(decide (s.length=1)&&tg.isTup)) h λpy s q N Y J=>⟨py,s,q,rfl,N,Y,H _ (CL J).1,(CL (CL J).2).2⟩
theorem EQ.one(h:EQ C G n sc es [x]):∃a,A3 (es=[a]) (kz x=Jc) (CM C G n sc a x):=by
 rcases es with o0|⟨a,es⟩
 .cases h
 obtain⟨x,r,e,N,Y,J⟩:=h;cases e
 rcases es with o0|⟨o0,o0⟩
 .exact⟨a,rfl,N,Y⟩
 .obtain⟨o0,o0,e,o0⟩:=J;cases e
theorem E7.fold(h:E7 C G n sc tg k es i)(env:Js):∀v,JQ i env v=pure v:=by
 induction k with
 |val=>obtain⟨a,rfl,N,o0⟩:=EQ.one h;exact AA N env
 |range=>obtain⟨o0,o0,o0,rfl,o0⟩:=h;intro v;rfl
 |enum=>obtain⟨o0,o0,o0,rfl,o0⟩:=h;intro v;rfl
theorem lC(g:D4 C G mg mb){K:List PV->(PH->Prop)->PH->Prop}
  (hk:G.calm=Jc)(hi:E7 C G n sc tg k es i)(ht:Fm H tg t=Jc)(I:At C n sc env Y A l Z s)
  (w:Fc G (aN C n) es Y Z (λvs Z1=>src k vs Z1 λxs chk=>xs.length<=Dg/\K xs chk Z1) X):
  jD C A env t i Z s K (XP C CC Z s X):=by
 intro R V;have fin:∀vs O h Z1,(k= .enum->qa t)->CZ C Z1 O.heap h vs->CP C Z1 O.heap->CF CC Z s.heap Z1 O.heap->CS s O->(src k h Z1 λxs chk=>xs.length<=Dg/\K xs chk Z1)->t1 C A k vs R (XP C CC Z s X) O:=λvs O h Z1 hz hv m P f w=>
  vS k A t h vs Z1 O K R _ (I.ak.calm<|g.calm hk) hz hv m w λxs chk I fp N L s2 S z F o r2 j hl U=>
   V I fp N L s2 xs chk S z F (P.trans o) (f.trans r2) (λb D=>⟨P.old m (j b D).1,(j b D).2⟩) hl U
 induction k with
 |val=>
  obtain⟨a,rfl,o0,B⟩:=EQ.one hi;exact Ei.then (B I w) λJ O p1 Z1 Q m P f w=>fin [J] O [p1] Z1 (λq=>by cases q) ⟨J,[],rfl,Q,rfl⟩ m P f w
 |range=>
  obtain⟨py,as,q,rfl,M,d,σ⟩:=hi;exact iH σ I (λR Er V=>gQ g I.ev I.m (I.sr.glob _ M) d (by decide) (v:= .type "range") (by decide+kernel) V) ⟨.machine,.inr<|.inl rfl,W.Looks.of_pure rfl⟩
   w λvs O h Z1 T m P f hn w=>fin vs O h Z1 (λq=>by cases q) T m P f w
 |enum=>
  obtain⟨py,as,q,rfl,M,d,σ,h8⟩:=hi;exact iH σ I (λR Er V=>gQ g I.ev I.m (I.sr.glob _ M) d (by decide) (v:= .type "enumerate") (by decide+kernel) V) ⟨.machine,.inr<|.inl rfl,W.Looks.of_pure rfl⟩
   w λvs O h Z1 T m P f hn w=>fin vs O h Z1 (λo0=>t6 ht h8) T m P f w
theorem XP.none{P:Prop}(x:XP C CC Z1 s (λo0 o0=>False) e s'):P:=by obtain⟨o0,o0,o0,o0,o0,o0,q⟩:=x;exact q.elim
section
variable{sc:Jk}{e c:E}{x y:Jl}{A:Jj}{l:List Js}
theorem qV(h:CM C G n sc e x)(i:Js)(K:Fg sc i)(L:CH)(Z:PH)(s:Je)(Q:C9)(W:CU C i L Z s.heap)(m:CP C Z s.heap)(t:Dy C n A l Z s.heap)(w:we G (aN C n) e L Z Q λo0 o0=>False)(Er:Jf->Je->Prop):Jh (Mo C) A (Jw x i) (VP C CC Z s Q) Er s:=
 YI (h ⟨K,W,m,t⟩ w) (λo0 o0 x=>x) λo0 o0 x=>XP.none x
theorem tS(i:Js)(V:Fg sc i)(L:CH)(Z:PH)(s:Je)(K:Bool->PH->Prop)(W:CU C i L Z s.heap)(m:CP C Z s.heap)(h:Dy C n A l Z s.heap)(w:K Jc Z)(Er:Jf->Je->Prop):Jh (Mo C) A (Fz [] i) (λo s'=>∃Z',A4 (CP C Z' s'.heap) (CF CC Z s.heap Z' s'.heap) (CS s s') (K o Z')) Er s:=
 wpAny_tests_nil ⟨Z,m,.refl _ _ _,⟨rfl,rfl⟩,w⟩
theorem tZ(h:Dz C G n sc e x)(i:Js)(V:Fg sc i)(L:CH)(Z:PH)(s:Je)(K:Bool->PH->Prop)(W:CU C i L Z s.heap)(m:CP C Z s.heap)(t:Dy C n A l Z s.heap)(w:we G (aN C n) e L Z (λv Z'=>dj (λb=>K b Z') v) λo0 o0=>False)(Er:Jf->Je->Prop):Jh (Mo C) A (Fz [x] i) (λo s'=>∃Z',A4 (CP C Z' s'.heap) (CF CC Z s.heap Z' s'.heap) (CS s s') (K o Z')) Er s:=
 wpAny_tests_one (YI (h ⟨V,W,m,t⟩ w) (λb D x=>by obtain⟨T,F,j,H,O⟩:=x;exact⟨T,F,j,H,O⟩) λo0 o0 x=>XP.none x)
theorem xz(g:D4 C G mg mb)(N:E7 C G n sc tg k es i)(Y:Fm M tg t=Jc)(O:fA sc M=Jc)(B:El tg M=Jc)(V:CM C G n M e x):CM C G n sc (.comp e tg k es) (.ListComp x [⟨t,i,[],0⟩] M p):=λ{F L A l W s Q X} I w=>
 oq (tst:=λo0 W K=>K Jc W) (el:=λh W K=>we G (aN C n) e h W K λo0 o0=>False) I.ev I.ak I.sr O B Y (N.fold F) (lC g w.1 N Y I w.2) tS (qV V)
theorem sV(g:D4 C G mg mb)(N:E7 C G n sc tg k es i)(Y:Fm M tg t=Jc)(O:fA sc M=Jc)(B:El tg M=Jc)(V:CM C G n M e x)(σ:Dz C G n M c y):CM C G n sc (.compIf e tg k es c) (.ListComp x [⟨t,i,[y],0⟩] M p):=λ{F L A l W s Q X} I w=>
 oq (tst:=λh W K=>we G (aN C n) c h W (λv T=>dj (λb=>K b T) v) λo0 o0=>False) (el:=λh W K=>we G (aN C n) e h W K λo0 o0=>False) I.ev I.ak I.sr O B Y (N.fold F) (lC g w.1 N Y I w.2) (tZ σ) (qV V)
end
theorem tG(g:D4 C G mg mb):CM C G n sc .dict0 (.Dict [] [] p):=λ{F L A l t s Q X} I w=>by
 show Jh _ _ (Jw (.Dict [] [] p) F) _ _ s;rw[arm_eval_Dict];refine YG<|YK ?_;show Jh _ _ newDict _ _ s;exact JB<|VP.alloc (o:= .dict [] []) I.m rfl ⟨rfl,rfl⟩ rfl ⟨#[],0,[],⟨rfl,rfl,rfl⟩,rfl,rfl,rfl,.nil,λy h=>(bS h),rfl⟩ w.2 (g.noSys I.m)
theorem pJ(h:kz y=Jc):JD [y,.List [] r] env=[(Jd,Jw y env),(Jd,Jw (.List [] r) env)]:=by
 rw[ck (fF h)];rfl
section
variable{sc:Jk}{a k:E}{y kx:Jl}{p q r:Y5}
theorem tR{m:String}{id:String}{env:Js}{L:CH}{Z:PH}{s:Je}{A:Jj}{l:List Js}{X:Dl}{P:PV->PH->PV->PH->Prop}{R:Jf->Je->Prop}(slot:Slot "dict" (Qb m) id)(z:typeOf (.builtin id)=pure (.type "method_descriptor"))
  (kp:Kp C (.builtin id))(Q:ei y=Jc)(T:(p.endLine==q.line)=Jc)(hz:kz kx=Jc)(I:At C n sc env L A l Z s)(S:CM C G n sc a y)(E:CM C G n sc k kx)
  (w:we G (aN C n) a L Z (λY Z1=>G7 Z1 (λo0 o0=>True) Y/\we G (aN C n) k L Z1 (λd O=>P Y Z1 d O) X) X)
  (fin:∀r Z1 d O H J,P (.ref r) Z1 d O->VR C O J.heap d H->CP C O J.heap->CF CC Z s.heap O J.heap->CS s J->
   Jh (Mo C) A (call (.builtin id) [.ref r,H,.ref J.heap.objs.size]) R (XP C CC Z s X) {J with heap:=J.heap.push (D5 #[] 0)}):Jh (Mo C) A (Jw (.Call (.Attribute y (Qb m) p) [kx,.List [] r] [] q) env) R (XP C CC Z s X) s:=by
 refine lp ?_;intro zP zR;refine Ub (jl Q) (by rw[pJ hz];rfl) T rfl ?_;refine Ei.then (S I w) λN g p1 Z1 h B t K σ=> ?_;obtain⟨b,ks,ll,rfl,e,o0⟩:=iN σ.1;rw[show N= .ref b from h];obtain⟨xs,D⟩:=B.dict e;refine⟨"dict",id,F.plainAttrs_dict,slot,z,D.of.typeIs,PyProof.Rows.dictOfH_noDict D.of,?_⟩;refine c8 (first:=[.ref b]) kp (eU (fF hz) rfl) ?_;rw[pJ hz];show Jh _ _ (J2 [(Jd,Jw kx env),(Jd,Jw (.List [] r) env)]) _ _ g;refine Calls.spliced_cons (Ei.seq (E (I.step t B) σ.2) t K λH J U O f M V i W j=> ?_);refine Calls.spliced_cons<|wpAny_List_spliced (Calls.spliced_nil ⟨QS _,Calls.spliced_nil ⟨λb o q=>Qs _<|M.base b o q,?_⟩⟩);exact fin b Z1 U O H J j f M V W
theorem Af(Y:ei y=Jc)(z:(p.endLine==q.line)=Jc)(hz:kz kx=Jc)(H:CM C G n sc a y)(K:CM C G n sc k kx):CM C G n sc (.get a k) (.Call (.Attribute y (Qb "get") p) [kx,.List [] r] [] q):=λ{V N A l Z s Q X} I w=>by
 refine lp ?_;intro U zR;refine tR (m:="get") (P:=λE T d O=>G7 O (λL l=>oK (λk=>wget (Dh L l k) O Q)<|DM d) E) F.slot_dict_get F.type_dict_get ⟨.machine,.inr<|.inl rfl,W.Looks.of_pure rfl⟩ Y z hz I H K w ?_;intro r T d O v2 σ w hv M t R;obtain⟨b,L,ll,g,e,j⟩:=iN w;cases g;obtain⟨i,h,B⟩:=jh j;have J:=M.push<|D5 #[] 0;obtain⟨xs,D⟩:=J.dict e;obtain⟨S,rfl,f⟩:=kZ h<|hv.step (CF.push CC O σ.heap<|D5 #[] 0);refine call_meetsIn F.slot_dict_get D.of.typeIs F.entry_dict_get (F.args_dict_get_3 _ _ _) (meetsH_dict_get_default (tk C.prog C.w) r S D.sys _) ⟨iJ I.ak.u100,i,xs,f.is,D.of,?_⟩
 rcases D.look (k:=i) with⟨z1,z2⟩|⟨p,y,z1,z2,z3⟩
 .rw[z2];rw[z1] at B;exact VP.from t R<|VP.alloc (o:= .list []) M rfl ⟨rfl,rfl⟩ rfl ⟨#[],0,rfl,rfl⟩ B
 .rw[z2];rw[z1] at B;exact⟨p,O,z3,J,t.trans<|.push _ _ _ _,R.trans ⟨rfl,rfl⟩,B⟩
theorem Cb(h:ei y=Jc)(h4:(p.endLine==q.line)=Jc)(hz:kz kx=Jc)(ha:CM C G n sc a y)(hk:CM C G n sc k kx):CM C G n sc (.sd a k) (.Call (.Attribute y (Qb "setdefault") p) [kx,.List [] r] [] q):=λ{al ρ A l Z s Q X} I w=>by
 refine lp ?_;intro zP zR;refine tR (m:="setdefault") (P:=λva ac vk O=>wsd va O Q vk) F.slot_dict_setdefault F.type_dict_setdefault ⟨.machine,.inr (.inl rfl),W.Looks.of_pure rfl⟩ h h4 hz I ha hk w ?_;intro r ac vk O v2 J w hv Y V r2;obtain⟨K,T,e,ad,w2⟩:=kW (show EK (λK l=>l.length<Dg/\oK (λk=>match Dh K l k with
  |some v=>Q v O
  |none=>∀b,O b=Jb->Q (.ref b) ((O.set b (.list [])).set r (.dict (K++[k]) (l++[.ref b])))) (DM vk)) (O r) from w)
 obtain⟨t,E,B⟩:=jh w2;have m3:=Y.push<|D5 #[] 0;have af:=hv.step<|CF.push CC O J.heap (D5 #[] 0);obtain⟨xs,D⟩:=m3.dict e;obtain⟨kb,rfl,f⟩:=kZ E af;have ae:xs.length<=JJ:=by
  have N:=D.v.length;rw[Qd] at N;rw[N,JV];exact Qq (Kw ad)<|by decide
 refine kC (iJ I.ak.u100) f.is D.sys D.of (λy z2=> ?_) (λz2 h' hd hs=> ?_) ae
 .rcases D.look (k:=t) with⟨o0,z⟩|⟨p,y',z1,U,z4⟩
  .exact sn<|z2.symm.trans z
  .obtain rfl:=sj<|z2.symm.trans U;rw[z1] at B;exact⟨p,O,z4,m3,V.trans<|.push _ _ _ _,r2.trans ⟨rfl,rfl⟩,B⟩
 .have z1:Dh K T t=Jb:=by
   rcases D.look (k:=t) with⟨z,o0⟩|⟨p,y',o0,U,o0⟩
   .exact z
   .exact ns<|z2.symm.trans U
  rw[z1] at B;have hL:O J.heap.objs.size=Jb:=Y.fresh<|Qz _;have M:r≠J.heap.objs.size:=λq=>by rw[q,hL] at e;exact ns e
  obtain⟨p4,an,a1,m4,aa,r4,⟨b4,a5,a6⟩⟩:=VP.alloc (S:=CC) (Q:=λv ah=>∃b,v= .ref b/\ah=O.set b (.list [])) (s:=J) (s':={J with heap:=J.heap.push (D5 #[] 0)}) (o:= .list []) Y rfl ⟨rfl,rfl⟩ rfl ⟨#[],0,rfl,rfl⟩ λb hb=>⟨b,rfl,rfl⟩
  .subst a5 a6;cases (show Value.ref J.heap.objs.size= .ref b4 from a1);have e4:(O.set J.heap.objs.size<|.list []) r=Ja (.dict K T):=by rw[PH.set_ne _ _ M];exact e
   obtain⟨L,H⟩:=m4.dict e4;have ab:L=xs:=by
    obtain⟨o1,ai,am,g1,o0,d1,x1,o0⟩:=D.of;obtain⟨o2,ak,aj,g2,o0,d2,x2,o0⟩:=H.of;obtain rfl:=sj<|g1.symm.trans g2;rw[d1] at d2;cases d2;rw[x1] at x2;have d:=H.ks.trans D.ks.symm;refine WD λi=> ?_;have N:(L.map (·.1))[i]? =(xs.map (·.1))[i]? :=by rw[d]
    have h:(xs.map<|entryOfKey (tk C.prog C.w))[i]? =(L.map<|entryOfKey (tk C.prog C.w))[i]? :=by rw[x2]
    rw[Qu,Qu] at N h
    induction c1:L[i]? with
    |none=>rw[c1] at h;induction σ:xs[i]? with
     |none=>rfl
     |some y=>rw[σ] at h;exact sn h
    |some z=>induction σ:xs[i]? with
     |none=>rw[c1,σ] at N;exact sn N
     |some y=>
      rw[c1,σ] at N h;obtain⟨z1,z2,U⟩:=z;obtain⟨y1,y2,y3⟩:=y;have N:z1=y1:=Option.some.inj N;have h:=Option.some.inj h;simp only[JL,DictEntry.mk.injEq,Value.ref.injEq] at h;rw[N,h.2.1,h.2.2]
   subst ab;have R:D3 C (O.set J.heap.objs.size<|.list []) (J.heap.push<|D5 #[] 0) t kb:=by
    obtain⟨n',vs,mm,g,i⟩:=f;refine⟨?_,vs,mm,g,i⟩;rw[PH.set_ne]
    .exact n'
    .intro q;rw[q,QK _ rfl] at g;exact absurd (Uj (Wa Obj.cls) g)<|by simp
   obtain⟨u1,u2⟩:=H.set (p:= .ref J.heap.objs.size) (v:= .ref J.heap.objs.size) m4 e4 R rfl (by rw[storedH_new z2];exact hd) hs;have ek:Fp K T t (.ref J.heap.objs.size)= .dict (K++[t]) (T++[.ref J.heap.objs.size]):=by
    unfold Fp;have:C0 K t=Jb:=by
     induction q:C0 K t with
     |none=>rfl
     |some j=>
      have:=H.some_ (k:=t);rw[q,z2] at this;exact tf this
    rw[this]
   rw[ek] at u1 u2;exact⟨.ref J.heap.objs.size,_,rfl,u1,(V.trans aa).trans u2,(r2.trans r4).trans ⟨rfl,rfl⟩,B _ hL⟩
end
theorem CZ.bs:∀ {l:List PV} {bs:List Bool} {vs:List Jf},eG l=Ja bs->CZ C Z h l vs->vs=bs.map .bool
 |[],bs,vs=>λe r=>by rw[show vs=[] from r,<-sj e];rfl
 |p::l,bs,vs=>λe r=>by
  obtain⟨v,vs,rfl,f,M⟩:=r
  induction p using PV.casesOn with
  |bool b=>
   obtain⟨s,T,rfl⟩:=Qt.mp (show(eG l).map (b:: ·)=Ja bs from e);rw[show v= .bool b from f,CZ.bs T M];rfl
  |_=>exact ns e
theorem pE:∀bs:List Bool,(bs.map Value.bool).countP (PyProof.Rows.isBoolOf Jc)=bs.count Jc
 |[]=>rfl
 |b::bs=>by rw[Qo,Yq,List.count_cons,pE bs];rcases b with⟨⟩<;>rfl
theorem yn(bs:List Bool):∀y,y∈(bs.map Value.bool).toArray->SeqAt.EqAt A s y (.bool Jc) (PyProof.Rows.isBoolOf Jc y):=λy h=>by
 obtain⟨b,o0,rfl⟩:=Ql.mp (show y∈bs.map Value.bool by simpa using h);exact SeqAt.EqAt.bool_bool b Jc
theorem AI{p q r:Y5}(h2:ei y=Jc)(f:(p.endLine==q.line)=Jc)(ha:CM C G n sc a y):CM C G n sc (.cnt H a) (.Call (.Attribute y (Qb (cond H "index" "count")) p) [.Constant (.bool Jc) k r] [] q):=λ{Y ρ A l t s Q X} I w=>by
 refine lp ?_;intro zP zR;have w:we G (aN C n) a ρ t (λva T=>Es T (λl=>oBs (λbs=>Hn H bs λi=>Q (.int i) T)<|eG l) va) X:=w;refine Ub (jl h2) rfl f rfl ?_;refine Ei.then (ha I w) λv1 O p1 T K L P U σ=> ?_;obtain⟨b,ll,rfl,e,w2⟩:=eR σ;obtain⟨bs,hb,B⟩:=kD w2;rw[show v1= .ref b from K];obtain⟨vs,z,g,g2⟩:=L.list e;obtain rfl:vs=(bs.map Value.bool).toArray:=by rw[<-g2.bs hb]
 have nd:∀M,Value.ref b= .ref M->∃R,O.heap.get? M=Ja R/\R.dict=Jb:=λM d=>by injection d with d;subst d;exact⟨_,g,rfl⟩
 have fin:∀ {i:Int},Q (.int i) T->VP C CC t s Q (.int i O.toks) {O with toks:=O.toks+1}:=λq=>⟨.int _,T,⟨_,rfl⟩,L,P,U.trans ⟨rfl,rfl⟩,q⟩
 have o:∀ {S:String} (kp:Kp C (.builtin S)),Jh (Mo C) A (call (.builtin S) [.ref b,.bool Jc]) (VP C CC t s Q) (XP C CC t s X) O->Jh (Mo C) A (callWith q (.builtin S) [.ref b] (JX q<|starEach [.Constant (.bool Jc) k r] Y) (Y1 q<|keywordEach [] Y)) (VP C CC t s Q) (XP C CC t s X) O:=λkp h=>
  c8 (first:=[.ref b]) kp rfl (show Jh _ _ (J2 [(Jd,Jw (.Constant (.bool Jc) k r) Y)]) _ _ O from Calls.spliced_cons<|wpAny_Constant_bool (Calls.spliced_nil ⟨L.base,h⟩))
 induction H with
 |false=>
  refine⟨"list","list.count",F.plainAttrs_list,F.slot_list_count,F.type_list_count,⟨_,g,rfl⟩,nd,o ⟨.machine,.inr<|.inl rfl,W.Looks.of_pure rfl⟩ ?_⟩;refine call_meets F.slot_list_count ⟨_,g,rfl⟩ F.entry_list_count (F.args_list_count_2 _ _) (SeqAt.list_countAt b _ z Jb #[] (.bool Jc) (PyProof.Rows.isBoolOf Jc)) ⟨g,yn bs,?_⟩;show VP C CC t s Q (.int ((bs.map Value.bool).countP (PyProof.Rows.isBoolOf Jc):Nat) O.toks) _;rw[pE];exact fin B
 |true=>
  obtain⟨⟨hm,D⟩,B⟩:=(show(Jc∈bs/\bs.length<=1000)/\Q (.int (bs.idxOf Jc:Nat)) T from B)
  have J:∀m (h:m<(bs.map Value.bool).toArray.size) (V:m<bs.length),PyProof.Rows.isBoolOf Jc (bs.map Value.bool).toArray[m]=bs[m]:=λm h V=>by
   rw[List.getElem_toArray,WM];cases bs[m]<;>rfl
  have j:bs.idxOf Jc<bs.length:=List.idxOf_lt_length_of_mem hm;refine⟨"list","list.index",F.plainAttrs_list,F.slot_list_index,F.type_list_index,⟨_,g,rfl⟩,nd,o ⟨.machine,.inr<|.inl rfl,W.Looks.of_pure rfl⟩ ?_⟩;refine call_meets F.slot_list_index ⟨_,g,rfl⟩ F.entry_list_index (F.args_list_index_2 _ _) (SeqAt.list_indexAt b _ z Jb #[] (.bool Jc) (PyProof.Rows.isBoolOf Jc) (bs.idxOf Jc) (by simpa using j) ?_ ?_ ?_) ⟨g,yn bs,fin B⟩
  .exact KO (Kc.mpr<|QJ j D)<|by decide
  .rw[J _ _ j];exact List.getElem_idxOf j
  .intro m h N;rw[J m h (Nat.lt_trans N j)];have:=List.not_of_lt_findIdx (p:=(· ==Jc)) N
   simpa using this
def EY(C:Cx)(G:Gx)(n:Nat)(sc:Jk)(e:E)(x:Jl):Prop:=CM C G n sc e x/\Dz C G n sc e x
theorem pl{x:Jl}(h:CM C G n sc e x)(hx:∀env,Y8 x env (Jw x env)=(do let v<-Jw x env;standAt x.pos;holding [v] (Ju v))):EY C G n sc e x:=⟨h,yd hx h⟩
def WB(C:Cx)(G:Gx)(n:Nat)(e:E):Prop:=∀ (sc:Jk) (x:Jl),mE sc e x=Jc->EY C G n sc e x
def WBs(C:Cx)(G:Gx)(n:Nat)(es:List E):Prop:=∀ (sc:Jk) (xs:List Jl),GS sc es xs=Jc->EQ C G n sc es xs
mutual
theorem bP(T:E6 C G n)(g:D4 C G mg mb):∀e:E,WB C G n e
 | .none=>λo0 o0 h=>hM h λo0 o0=>pl wR λo0=>rfl
 | .bool _=>λo0 o0 h=>hM h λo0 o0=>pl xE λo0=>rfl
 | .int _=>λo0 o0 h=>hM h λo0 o0=>pl zC λo0=>rfl
 | .str _=>λo0 o0 h=>hM h λo0 o0=>pl Ac λo0=>rfl
 | .loc _=>λo0 o0 h=>iy h λo0 h1 h2=>pl (tO h1 h2) λo0=>rfl
 | .glob _=>λo0 o0 h=>iy h λo0 h1 h2=>pl (xD g h1 h2) λo0=>rfl
 | .bin _ a b=>λo0 o0 h=>Bz h λo0 o0 o0 o0 h1 h2 h3=>pl (zA h1 (bP T g a _ _ h2).1 (bP T g b _ _ h3).1) λo0=>rfl
 | .not_ a=>λo0 o0 h=>Cr h λo0 o0 h=>⟨Ab (bP T g a _ _ h).1,wC (bP T g a _ _ h).2⟩
 | .and_ a b=>λo0 o0 h=>th h (λo0 o0 o0 h1 h2=>Ar (bP T g a _ _ h1) (bP T g b _ _ h2)) λo0 o0 o0 o0 o0 h1 h2=>ye (bP T g a _ _ h1)<|bP T g b _ _ h2
 | .or_ a b=>λo0 o0 h=>th h (λo0 o0 o0 h1 h2=>Bm (bP T g a _ _ h1) (bP T g b _ _ h2)) λo0 o0 o0 o0 o0 h1 h2=>zY (bP T g a _ _ h1)<|bP T g b _ _ h2
 | .isNone a=>λo0 o0 h=>B7 h λl c p h1 h2=>hM (P:=λc=>EY C G n _ _ (.Compare l [_] [c] p)) h2 λo0 o0=>⟨sJ (bP T g a _ _ h1).1,pR (bP T g a _ _ h1).1⟩
 | .notNone a=>λo0 o0 h=>B7 h λl c p h1 h2=>hM (P:=λc=>EY C G n _ _ (.Compare l [_] [c] p)) h2 λo0 o0=>⟨pY (bP T g a _ _ h1).1,oL (bP T g a _ _ h1).1⟩
 | .cmp _ a b=>λo0 o0 h=>BD h λo0 o0 o0 o0 h1 h2 h3 h4=>zz h1 h4 (bP T g a _ _ h2).1 (bP T g b _ _ h3).1
 | .cmp2 a _ b _ c=>λo0 o0 h=>zy h λo0 o0 o0 o0 o0 o0 h1 h2 h3 h4 h5 h6=>⟨ww h1 h2 h6 (bP T g a _ _ h3).1 (bP T g b _ _ h4).1 (bP T g c _ _ h5).1,tU h1 h2 h6 (bP T g a _ _ h3).1 (bP T g b _ _ h4).1 (bP T g c _ _ h5).1⟩
 | .tup es=>λo0 o0 h=>BF h λo0 o0 o0 h1 h2=>pl (yZ (dq T g es _ _ h1) h2) λo0=>rfl
 | .list es=>λo0 o0 h=>uw h λo0 o0 h1 h2=>pl (xt (dq T g es _ _ h1) h2) λo0=>rfl
 | .sub a b=>λo0 o0 h=>yG h λo0 o0 o0 h1 h2=>pl (yT (bP T g a _ _ h1).1 (bP T g b _ _ h2).1) λo0=>rfl
 | .comp elt _ _ it=>λo0 o0 h=>uS h λo0 o0 o0 o0 o0 h1 h2 h3 h4 h5=>pl (xz g (.of h1 (dq T g it _)) h2 h4 h5 (bP T g elt _ _ h3).1) λo0=>rfl
 | .compIf elt _ _ it c=>λo0 o0 h=>oN h λo0 o0 o0 o0 o0 o0 h1 h2 h3 h6 h4 h5=>pl (sV g (.of h1 (dq T g it _)) h2 h4 h5 (bP T g elt _ _ h3).1 (bP T g c _ _ h6).2) λo0=>rfl
 | .call f args=>λsc o0 h=>vl (f:=λx=>glb sc f x&&bQ f) h λy as p h1 h2=>by
  obtain⟨py,rfl,h3,h4⟩:=iQ (CL h1).1;exact pl (wK g (CL h1).2 h3 h4 (dq T g args _ _ (CL h2).1)) λo0=>rfl
 | .bi _ args=>λo0 o0 h=>sq h λo0 o0 o0 h1 h2 h3=>pl (BO g h1 h2 (dq T g args _ _ (CL h3).1)) λo0=>rfl
 | .isi a ts=>λsc o0 h=>sq h λpy as p h1 h2 h3=>rX (Q:=λas=>EY C G n sc (.isi a ts) (.Call (.Name (Qb "isinstance") py) as [] p)) h3 λo0 o0 h3 h4=>pl (zh g h1 h2 (CL h3).1 h4 (bP T g a _ _ (CL h3).2).1) λo0=>rfl
 | .isx x ts=>λsc o0 h=>sq h λpy as p h1 h2 h3=>rX (Q:=λas=>EY C G n sc (.isx x ts) (.Call (.Name (Qb "isinstance") py) as [] p)) h3 λo0 t h3 h4=>iy (P:=λy=>EY C G n sc (.isx x ts) (.Call (.Name (Qb "isinstance") py) [y,t] [] p)) h3 λo0 h5 h6=>pl (T.isx h5 h6 h1 h2 h4) λo0=>rfl
 | .cnt ix a=>λo0 o0 h=>sD h λy o0 p q h1 h2 h3 h4=>Bv (Q:=λas=>EY C G n _ _ (.Call (.Attribute y _ p) as [] q)) h4 λo0 h5=>hM (P:=λz=>EY C G n _ _ (.Call (.Attribute y _ p) [z] [] q)) h5 λo0 o0=>pl (AI h2 h3 (bP T g a _ _ h1).1) λo0=>rfl
 | .meth o .remove args=>λo0 o0 h=>sD h λo0 o0 o0 o0 h1 h2 h3 h4=>pl (sb h2 h3 (Ue (CL h4).2) (bP T g o _ _ h1).1 (dq T g args _ _ (CL h4).1)) λo0=>rfl
 | .meth o .append args=>λo0 o0 h=>sD h λo0 o0 o0 o0 h1 h2 h3 h4=>pl (sB h2 h3 (Ue (CL h4).2) (bP T g o _ _ h1).1 (dq T g args _ _ (CL h4).1)) λo0=>rfl
 | .dict0=>λo0 o0 h=>wV h λo0=>pl (tG g) λo0=>rfl
 | .get a k=>λo0 o0 h=>sD h λy o0 p q h1 h2 h3 h4=>rX (Q:=λas=>EY C G n _ _ (.Call (.Attribute y _ p) as [] q)) h4 λkx o0 h4 h5=>yD (P:=λz=>EY C G n _ _ (.Call (.Attribute y _ p) [kx,z] [] q)) h5 λo0=>pl (Af h2 h3 (CL h4).1 (bP T g a _ _ h1).1 (bP T g k _ _ (CL h4).2).1) λo0=>rfl
 | .sd a k=>λo0 o0 h=>sD h λy o0 p q h1 h2 h3 h4=>rX (Q:=λas=>EY C G n _ _ (.Call (.Attribute y _ p) as [] q)) h4 λkx o0 h4 h5=>yD (P:=λz=>EY C G n _ _ (.Call (.Attribute y _ p) [kx,z] [] q)) h5 λo0=>pl (Cb h2 h3 (CL h4).1 (bP T g a _ _ h1).1 (bP T g k _ _ (CL h4).2).1) λo0=>rfl
 | .attr _ _=>λo0 o0 h=>wq h λo0 p h1 o0 o0=>iy (P:=λy=>EY C G n _ _ (.Attribute y _ p)) h1 λo0 h1 h2=>pl (T.attr h1 h2) λo0=>rfl
 | .mcall _ _ o args=>λo0 o0 h=>sD h λo0 o0 o0 o0 h1 h2 h3 h4=>pl (T.mcall (bP T g o _ _ h1).1 h2 h3 (dq T g args _ _ (CL h4).1) (Ue (Dp (CL h4).2).1) (nt (Dp (CL h4).2).2.1) (Uh (Dp (CL h4).2).2.2)) λo0=>rfl
theorem dq(T:E6 C G n)(g:D4 C G mg mb):∀es:List E,WBs C G n es
 |[]=>λo0 xs h=>by
  rcases xs with o0|⟨o0,o0⟩
  .rfl
  .exact ft h
 |a::r=>λo0 xs h=>by
  rcases xs with o0|⟨x,xs⟩
  .exact ft h
  .have h:=CL h;exact⟨x,xs,rfl,(CL h.1).1,(bP T g a _ _ (CL h.1).2).1,dq T g r _ _ h.2⟩
end
end
noncomputable def Ej(env:Js):Jg->Prop:=λb=>b=env.locals\/∃x,env.cells.lookup x=Ja b
def FR(C:Cx)(Z:PH)(h:Ji):Fl->Flow->Prop
 | .next,f=>f= .next
 | .ret p,f=>∃v,f= .ret v/\VR C Z h p v
inductive SP(C:Cx)(n:Nat)(A:Jj)(l:List Js)(env:Js)(Z:PH)(s:Je)(Q:DH)(f:Flow)(s':Je):Prop
 |mk (fl:Fl) (ρ':CH) (Z':PH) (a:FR C Z' s'.heap fl f) (b:CU C env ρ' Z' s'.heap) (c:CP C Z' s'.heap) (d:CF (Ej env) Z s.heap Z' s'.heap) (e:CS s s') (k:Dy C n A l Z' s'.heap) (q:Q fl ρ' Z'):SP C n A l env Z s Q f s'
inductive SX(C:Cx)(n:Nat)(A:Jj)(l:List Js)(env:Js)(Z:PH)(s:Je)(X:gK)(e:Jf)(s':Je):Prop
 |mk (x:PX) (ρ':CH) (Z':PH) (a:Hl C env.frame x e Z' s.heap s'.heap) (b:CU C env ρ' Z' s'.heap) (c:CP C Z' s'.heap) (d:CF (Ej env) Z s.heap Z' s'.heap) (r:CS s s') (k:Dy C n A l Z' s'.heap) (q:X x ρ' Z'):SX C n A l env Z s X e s'
def TopF(env:Js)(l:List Js):Prop:=∃K,l=env::K/\env.frame=Ja env.locals
structure AtS(C:Cx)(n:Nat)(sc:Jk)(env:Js)(ρ:CH)(A:Jj)(l:List Js)(Z:PH)(s:Je):Prop extends At C n sc env ρ A l Z s where
 tf:TopF env l
def EH(C:Cx)(G:Gx)(n:Nat)(sc:Jk)(st:S)(x:Jo):Prop:=∀ {env:Js} {L:CH} {A:Jj} {l:List Js} {Z:PH} {s:Je} {Q:DH} {X:gK},
 AtS C n sc env L A l Z s->ws G (aN C n) (aN C.un n) st L Z Q X->Jh (Mo C) A (exec x env) (SP C n A l env Z s Q) (SX C n A l env Z s X) s
def Ek(C:Cx)(G:Gx)(n:Nat)(sc:Jk)(t:List S)(xs:List Jo):Prop:=∀ {env:Js} {L:CH} {A:Jj} {l:List Js} {Z:PH} {s:Je} {Q:DH} {X:gK},
 AtS C n sc env L A l Z s->E8 G (aN C n) (aN C.un n) t L Z Q X->Jh (Mo C) A (execs xs env) (SP C n A l env Z s Q) (SX C n A l env Z s X) s
structure FN(C:Cx)(G:Gx)(n:Nat):Prop where
 while_:∀ {sc t b u y p},Dz C G n sc t u->Ek C G n sc b y->EH C G n sc (.while_ t b) (.While u y [] p)
 raise:C.ok->C.calm->∀ {sc c args py as p q},sc.names.lookup (Qb c)=Ja .globalImplicit->bz (Qb c)=Jc->as.length<=20->EQ C G n sc args as->EH C G n sc (.raise c args) (.Raise (Ja<|.Call (.Name (Qb c) py) as [] p) Jb q)
 try2:C.ok->C.calm->∀ {sc b c x h c2 h2 y t hb hr t2 hb2 hr2 p p2 q},glb sc c t=Jc->glb sc c2 t2=Jc->sc.names.lookup (Qb x)=Ja .local->Ek C G n sc b y->Ek C.un G.un n sc h (hb::hr)->Ek C.un G.un n sc h2 (hb2::hr2)->EH C G n sc (.try2 b c x h c2 h2) (.Try y [.ExceptHandler (Ja t) (Ja<|Qb x) (hb::hr) p,.ExceptHandler (Ja t2) (Ja<|Qb x) (hb2::hr2) p2] [] [] q)
section
variable{C:Cx}{G:Gx}{mg mb:Jq->Option Jf}{n:Nat}{A:Jj}{env:Js}{l:List Js}{Z:PH}{s:Je}
theorem CF.own{h S:Ji}(st:CF CC Z h Z' S):CF (Ej env) Z h Z' S:=st.mono λo0 o0 f=>f.elim
theorem XP.stmt(W:CU C env L Z s.heap)(k:Dy C n A l Z s.heap)(x:XP C CC Z s (λx Z1=>X x L Z1) e s'):SX C n A l env Z s X e s':=
 by obtain⟨x,T,a,b,c,d,q⟩:=x;exact⟨x,L,T,a.weak,W.step c,b,c.own,d,k.step c,q⟩
theorem SX.none{P:Prop}(x:SX C n A l env Z1 W (λo0 o0 o0=>False) e s'):P:=by obtain⟨o0,o0,o0,o0,o0,o0,o0,o0,o0,q⟩:=x;exact q.elim
theorem SP.from{W:Je}(st:CF (Ej env) Z s.heap Z1 W.heap)(r:CS s W)(x:SP C n A l env Z1 W Q f s'):SP C n A l env Z s Q f s':=
 by obtain⟨fl,L,X,a,b,c,d,e,q,w⟩:=x;exact⟨fl,L,X,a,b,c,st.trans d,r.trans e,q,w⟩
theorem SX.from{W:Je}(st:CF (Ej env) Z s.heap Z1 W.heap)(r:CS s W)(x:SX C n A l env Z1 W X f s'):SX C n A l env Z s X f s':=
 by obtain⟨fl,L,T,a,b,c,d,e,q,w⟩:=x;exact⟨fl,L,T,a.from st,b,c,st.trans d,r.trans e,q,w⟩
theorem jG(h:slot env xs c):Ej env c:=by
 obtain⟨x,o0,q|q⟩:=h
 .exact .inl q.2
 .exact .inr ⟨_,q.2⟩
theorem mO{h:Ji}(W:CU C env L Z h)(q:Ej env c):∃o,h.get? c=Ja o/\¬isSeq o:=by
 rcases q with rfl|⟨x,q⟩
 .obtain⟨o0,⟨o,U,H,e,d,o0⟩,o0⟩:=W.ns;exact⟨o,e,cS d⟩
 .obtain⟨o0,v,o,e,d⟩:=W.newC x c q;exact⟨o,e,gy d⟩
theorem GM.step{S:CH}(a:GM C env (slot env xs) Z h W)(P:CU C env S B h₀)(st:CF (Ej env) B h₀ Z h):CF (Ej env) B h₀ Z W:=
 st.mvS a.mv λc f=> .inr ⟨jG f,λo e=>by obtain⟨i,g,q⟩:=mO P<|jG f;obtain rfl:=sj<|e.symm.trans g;exact q,by obtain⟨o,e,_⟩:=(a.has c f).2;exact⟨o,e⟩⟩
theorem Dy.asg{F:Jg->Prop}{h S:Ji}(k:Dy C n A l Z h)(a:GM C env F Z h S):Dy C n A l Z S:=⟨k.depth,k.units,k.stack,a.frs l k.frs,k.calm⟩
theorem pW{tg:Tg}(r:Fg sc env)(h:Fm sc tg t=Jc):∀x∈tg.names,env.kindOf (Qb x)=Ja .local\/env.kindOf (Qb x)=Ja .cell:=
 λx hx=>(rn h x hx).imp (r.loc _) (r.cell _)
theorem pw{tg:Tg}{W:Je}{Er:Jf->Je->Prop}(U:tg.isT=Jc->A.handled=Jb)(k:Fg sc env)(h:Fm sc tg t=Jc)(X:CU C env L Z s.heap)(q:Dy C n A l Z s.heap)
  (st:CF CC Z s.heap Z1 W.heap)(r:CS s W)(m:CP C Z1 W.heap)(hv:VR C Z1 W.heap p v)(b:bindT tg p L=Ja ρ')(w:Q .next ρ' Z1):
  Jh (Mo C) A (assign t env v) (λo0 J=>SP C n A l env Z s Q .next J) Er W:=
 iP U h (X.step st) m (pW k h) hv b λJ a x M=>⟨.next,ρ',Z1,rfl,x,a.sim,a.step X st.own,r.trans M,(q.step st).asg a,w⟩
theorem p6{py:Y5}(h:kz x=Jc):JR x (Ja (.Name y py)) ln env=pure Jd\/(JR x (Ja (.Name y py)) ln env=pure Jc/\xk x=11):=by
 induction x using Expr.casesOn with
 |ListComp a b c d=>
  have:∃bb,JR (.ListComp a b c d) (Ja<|.Name y py) ln env=pure bb:=⟨_,rfl⟩
  obtain⟨bb,hb⟩:=this
  induction bb with
  |true=>exact .inr ⟨hb,rfl⟩
  |false=>exact .inl hb
 |SetComp=>exact ft h
 |DictComp=>exact ft h
 |_=>exact .inl rfl
theorem iB(h:kz x=Jc)(ht:(xk t==1)=Jd):JR x (Ja t) ln env=pure Jd:=by
 induction x using Expr.casesOn with
 |ListComp a b c d=>rcases t with⟨⟩<;>first|rfl|exact tf ht
 |SetComp=>exact ft h
 |DictComp=>exact ft h
 |_=>rfl
theorem p9(h:xk x=12):JR x Jb ln env=pure Jd:=by
 obtain⟨f,a,k,p,rfl⟩:=h▸xinv x;rfl
section
variable{sc:Jk}{e:E}{v:Jl}{p:Y5}
theorem wN(hx:xk v=12)(c:CM C G n sc e v):EH C G n sc (.expr e) (.Expr v p):=λ{env L A l Z s Q X} I w=>by
 refine wpAny_Expr_any (YI (c I.toAt w) (λv W hv=> ?_) λo0 o0 x=>XP.stmt I.ev I.ak x) ?_<|p9 hx
 .obtain⟨p,m,N,Y,h,O,B⟩:=hv;exact⟨.next,L,m,rfl,I.ev.step h,Y,h.own,O,I.ak.step h,B⟩
 .simp[interactive,I.ev.fn]
theorem Ax(c:CM C G n sc e v):EH C G n sc (.ret e) (.Return (Ja v) p):=λ{env L A l Z s Q X} I w=>by
 refine wpAny_Return_some (YI (c I.toAt w) (λv W hv=> ?_) λo0 o0 x=>XP.stmt I.ev I.ak x);obtain⟨p,m,N,Y,h,O,B⟩:=hv;exact⟨.ret p,L,m,⟨v,rfl,N⟩,I.ev.step h,Y,h.own,O,I.ak.step h,B⟩
theorem AtS.step{W:Je}(I:AtS C n sc env L A l Z s)(st:CF CC Z s.heap Z1 W.heap)(m:CP C Z1 W.heap):AtS C n sc env L A l Z1 W:=⟨I.toAt.step st m,I.tf⟩
theorem Ek.after{W:Je}(h:Ek C G n sc t xs)(I:AtS C n sc env j A l Z1 W)(w:E8 G (aN C n) (aN C.un n) t j Z1 Q X)(st:CF (Ej env) Z s.heap Z1 W.heap)(r:CS s W):
  Jh (Mo C) A (execs xs env) (SP C n A l env Z s Q) (SX C n A l env Z s X) W:=YI (h I w) (λo0 o0 x=>SP.from st r x) λo0 o0 x=>SX.from st r x
theorem A1{y z:List Jo}(W:Dz C G n sc e v)(R:Ek C G n sc b y)(d:Ek C G n sc o z):EH C G n sc (.if_ e b o) (.If v y z p):=λ{env L A l Z s Q X} I w=>by
 refine lp ?_;intro P j;refine wpAny_If (YI (W (K:=λT m=>if T then E8 G (aN C n) (aN C.un n) b L m Q X else E8 G (aN C n) (aN C.un n) o L m Q X) I.toAt w) (λT O h=> ?_) λo0 o0 x=>XP.stmt I.ev I.ak x);obtain⟨m,c,t,r,w⟩:=h
 induction T with
 |true=>exact R.after (I.step t c) w t.own r
 |false=>exact d.after (I.step t c) w t.own r
theorem wj:Ek C G n sc [] []:=λI w=>JK ⟨.next,_,_,rfl,I.ev,I.m,.refl _ _ _,⟨rfl,rfl⟩,I.ak,w⟩
theorem vm(H:EH C G n sc a x)(z:Ek C G n sc r xs):Ek C G n sc (a::r) (x::xs):=λ{env L A l Z s Q X} I w=>by
 refine lp ?_;intro P R;refine J5 (YI (H I w) (λf O W=> ?_) λo0 o0 x=>x);obtain⟨fl,j,T,h,m,c,t,B,k,w⟩:=W
 induction fl with
 |next=>
  cases (show f= .next from h);exact z.after ⟨⟨I.sr,m,c,k⟩,I.tf⟩ w t B
 |ret p=>
  obtain⟨v,rfl,hv⟩:=h;exact⟨.ret p,j,T,⟨v,rfl,hv⟩,m,c,t,B,k,w⟩
end
end
section
end
section
variable{C:Cx}{Z:PH}{h:Ji}
mutual
theorem i0:∀ (p:PV) (v:Jf),VR C.un Z h p v=VR C Z h p v
 | .none=>λv=>rfl
 | .bool _=>λv=>rfl
 | .int _=>λv=>rfl
 | .str _=>λv=>rfl
 | .ref _=>λv=>rfl
 | .scr l=>λv=>rfl
 | .tup l=>λv=>propext ⟨λz=>by obtain⟨a,n,vs,T,e2,e,u⟩:=z;exact⟨a,n,vs,T,e2,e,(iE l _).mp u⟩,λz=>by obtain⟨a,n,vs,T,e2,e,u⟩:=z;exact⟨a,n,vs,T,e2,e,(iE l _).mpr u⟩⟩
theorem iE:∀ (l:List PV) (vs:List Jf),CZ C.un Z h l vs=CZ C Z h l vs
 |[]=>λvs=>rfl
 |p::ps=>λvs=>propext ⟨λz=>by obtain⟨v,r,T,e2,e⟩:=z;exact⟨v,r,T,(i0 p _).mp e2,(iE ps _).mp e⟩,λz=>by obtain⟨v,r,T,e2,e⟩:=z;exact⟨v,r,T,(i0 p _).mpr e2,(iE ps _).mpr e⟩⟩
end
theorem yy(p:PO)(o:Jp):OR C.un Z h p o=OR C Z h p o:=by
 induction p with
 |dict L l=>exact propext ⟨λM=>by obtain⟨s,H,P,x,d,e,k,nd,E,v⟩:=M;exact⟨s,H,P,x,d,e,k,nd,λy W=>by obtain⟨a,b,c,d,e⟩:=E y W;exact⟨a,b,c,d,e⟩,(iE _ _).mp v⟩,
   λM=>by obtain⟨s,H,P,x,d,e,k,nd,E,v⟩:=M;exact⟨s,H,P,x,d,e,k,nd,λy W=>by obtain⟨a,b,c,d,e⟩:=E y W;exact⟨a,b,c,d,e⟩,(iE _ _).mpr v⟩⟩
 |fd c V=>exact propext ⟨λM=>by obtain⟨s,H,e,k,v,z⟩:=M;exact⟨s,H,e,k,λi f p N Y=>(v i f p N Y).imp λo0 q=>⟨q.1,(i0 _ _).mp q.2⟩,z⟩,λM=>by obtain⟨s,H,e,k,v,z⟩:=M;exact⟨s,H,e,k,λi f p N Y=>(v i f p N Y).imp λo0 q=>⟨q.1,(i0 _ _).mpr q.2⟩,z⟩⟩
 |list l=>exact propext ⟨λM=>by obtain⟨w,n,e,r⟩:=M;exact⟨w,n,e,(iE _ _).mp r⟩,λM=>by obtain⟨w,n,e,r⟩:=M;exact⟨w,n,e,(iE _ _).mpr r⟩⟩
 |_=>rfl
end
section
variable{C:Cx}{G:Gx}{mg mb:Jq->Option Jf}{Z:PH}{h:Ji}{env:Js}{ρ:CH}{n:Nat}{A:Jj}{l:List Js}
theorem CP.un(m:CP C Z h):CP C.un Z h:=⟨m.base,m.new,λa o e=>by simpa only[yy] using m.objs a o e,m.rich⟩
theorem CP.re(m:CP C.un Z h):CP C Z h:=⟨m.base,m.new,λa o e=>by simpa only[yy] using m.objs a o e,m.rich⟩
theorem CU.un(x:CU C env ρ Z h):CU C.un env ρ Z h:=⟨x.fn,x.glob,x.blt,by simpa only[i0] using x.ns,by simpa only[i0] using x.cell,x.newL,x.baseL,x.baseC,x.newC,x.apart,x.hasC⟩
theorem CU.re(x:CU C.un env ρ Z h):CU C env ρ Z h:=⟨x.fn,x.glob,x.blt,by simpa only[i0] using x.ns,by simpa only[i0] using x.cell,x.newL,x.baseL,x.baseC,x.newC,x.apart,x.hasC⟩
theorem Dy.un(x:Dy C n A l Z h):Dy C.un n (A.mark e) l Z h:=⟨x.depth,x.units,x.stack,x.frs,(λh=>h.elim)⟩
theorem Dy.re{S:Ji}(x:Dy C.un n (A.mark e) l Z' S)(y:Dy C n A l Z h):Dy C n A l Z' S:=⟨x.depth,x.units,x.stack,x.frs,y.calm⟩
theorem D4.un(g:D4 C G mg mb):D4 C.un G.un mg mb:=⟨g.g,g.b,g.nolimit,g.blt,λx p e=>by simpa only[i0] using g.glob x p e,g.full,(λh=>by exact ft h),g.fv,g.fn⟩
end
section
variable{C:Cx}{G:Gx}{mg mb:Jq->Option Jf}{n:Nat}
theorem pi{s:Je}{T:CH}
  {tst:CH->PH->(Bool->PH->Prop)->Prop}{el:CH->PH->C9->Prop}
  (Y:CU C env T Z s.heap)(m:Dy C n A l Z s.heap)(r:Fg sc env)(k:fA sc scope=Jc)(ow:El tg scope=Jc)(ht:Fm scope tg t=Jc)(hx:Fm sc (.name x) (.Name (Qb x) I)=Jc)
  (hs:∀x,JQ iter env x=pure x)
  (w:jD C A env t iter Z s (λxs chk Z1=>gE chk tg T tst el xs [] Z1 λu O=>Ex (.list u) O λv Z3=>Q .next (T.put x v) Z3) (SX C n A l env Z s X))
  (P:∀i,Fg scope i->∀ρ' Z' s' H,CU C i ρ' Z' s'.heap->CP C Z' s'.heap->Dy C n A l Z' s'.heap->tst ρ' Z' H->∀E,Jh (Mo C) A (Fz K i) (λk W=>∃j,A4 (CP C j W.heap) (CF CC Z' s'.heap j W.heap) (CS s' W)<|H k j) E s')
  (S:∀i,Fg scope i->∀ρ' Z' s' Q,CU C i ρ' Z' s'.heap->CP C Z' s'.heap->Dy C n A l Z' s'.heap->el ρ' Z' Q->∀E,Jh (Mo C) A (Jw g i) (VP C CC Z' s' Q) E s'):
  Jh (Mo C) A (comprehension (.ListComp g [⟨t,iter,K,0⟩] scope pos) scope env J (newList []) Jd (Jw iter env)<|Ja (assign (.Name (Qb x) I) env)) (λo0 s'=>SP C n A l env Z s Q .next s') (SX C n A l env Z s X) s:=by
 refine lp ?_;intro zP zR;refine qM (Q:=λv Z3=>Q .next (T.put x v) Z3) Y m r k ow ht hs w P S λD Z3 s3 L m3 a r3 d h2 h3 ⟨z,hn⟩ hq=> ?_;show Jh _ A (assign (.Name (Qb x) I) env<|.ref D) _ _ _;refine iP (tg:= .name x) (ρ':=T.put x<|.ref D) (λq=>ft q) hx (Y.step a) m3 (pW r hx) (p:= .ref D) rfl rfl λR b N r4=> ?_;have h:¬Ej env L:=λq=>by obtain⟨o,e,o0⟩:=mO Y q;exact ns<|d.symm.trans e
 have V:R.heap.Ns L z:=Ns.like hn λo e=>⟨o,b.mv L o (λf=>h<|jG f) e,.refl o⟩
 refine⟨z,V,λh' B=> ?_⟩;have mv:Mv (· =L) R.heap h':=λc o f e=>B.extBut c o f e;obtain⟨o,es,ep,ho,U,o0⟩:=V;have σ:F9 C Z3 R.heap (· =L):=λc f=>by
  have f:c=L:=f;subst f;exact⟨h3,h2,gU ho<|cS U⟩
 refine⟨.next,T.put x (.ref D),Z3,rfl,N.mv mv σ (λq=>h (.inl (q:env.locals=L).symm)) (λy c M q=>h (.inr ⟨y,(q:c=L)▸M⟩)),b.sim.mv mv σ,
  (b.step Y a.own).mv mv (λc f=>by have f:c=L:=f;subst f;exact d),r3.trans r4,((m.step a).asg b).mv mv (λen he Lf F q=> ?_),hq⟩
 obtain⟨o0,L',o',o0,o0,e1,o0,o0,e4,o0⟩:=m.frs en he;obtain rfl:=sj<|F.symm.trans e1;have q:Lf=L:=q;subst q;exact ns<|d.symm.trans e4
theorem kc(g:D4 C G mg mb){K:List PV->(PH->Prop)->PH->Prop}
  (q:G.calm=Jc)(hi:E7 C G n sc tg k es i)(h:Fm c tg t=Jc)(I:At C n sc env L A l Z s)
  (w:Fc G (aN C n) es L Z (λvs Z1=>src k vs Z1 λxs chk=>xs.length<=Dg/\K xs chk Z1) λx Z1=>X x L Z1):jD C A env t i Z s K (SX C n A l env Z s X):=λR b=>
 YI (lC g q hi h I w R b) (λo0 o0 x=>YI x (λo0 o0 y=>y) λo0 o0 y=>XP.stmt I.ev I.ak y) λo0 o0 y=>XP.stmt I.ev I.ak y
theorem kT{pos:Y5}{Q:Flow->Je->Prop}{Er:Jf->Je->Prop}(E:JR v (Ja t) pos.line env=pure Jd)(w:swappedStores [t] v env=pure Jb)
  (W:kz t=Jc)(h:Jh (Mo C) A (Jw v env) (λx m=>Jh (Mo C) A (assign t env x) (λo0=>Q .next) Er m) Er s):Jh (Mo C) A (exec (.Assign [t] v pos) env) Q Er s:=by
 refine wpAny_Assign_stores (YI h (λx m V=> ?_) λo0 o0 x=>x) E w;have:(JM [t] env).map (·.2)=[assign t env]:=by rcases t with⟨⟩<;>first|rfl|exact ft W
 rw[this];exact V
theorem pA(h:xk v≠7):swappedStores [.Tuple es k p] v env=pure Jb:=by
 induction v using Expr.casesOn with
 |Tuple a b c=>exact absurd rfl h
 |_=>rfl
section
variable{sc:Jk}{e:E}{v:Jl}{pos:Y5}
theorem yW(g:D4 C G mg mb)(hx:Fm sc (.tup xs) (.Tuple es a b)=Jc)(hz:kz v=Jc)(o:xk v≠7)(O:CM C G n sc e v):EH C G n sc (.assign (.tup xs) e) (.Assign [.Tuple es a b] v pos):=λ{F L A l E s Q X} I w=>by
 refine lp ?_;intro P j;refine kT (iB hz rfl) (pA o) rfl (YI (O I.toAt w.2) (λJ W hv=> ?_) λo0 o0 x=>XP.stmt I.ev I.ak x);obtain⟨p,T,h,m,t,r,f⟩:=hv;obtain⟨z,R,f⟩:=qm f;exact pw (λo0=>I.ak.calm<|g.calm w.1) I.sr hx I.ev I.ak t r m h R f
theorem oW{R:Je->Prop}{Q:Flow->Je->Prop}{Er:Jf->Je->Prop}(hQ:∀s',R s'->Q .next s')
  (hs:JR (.ListComp elt [⟨t,iter,ifs,0⟩] scope p) (Ja<|.Name y pz) pos.line env=pure Jc)
  (h:Jh (Mo C) A (comprehension (.ListComp elt [⟨t,iter,ifs,0⟩] scope p) scope env (firstIterPos [⟨t,iter,ifs,0⟩] p) (newList []) Jd (Jw iter env)<|Ja (assign (.Name y pz) env)) (λo0 s'=>R s') Er s):
  Jh (Mo C) A (exec (.Assign [.Name y pz] (.ListComp elt [⟨t,iter,ifs,0⟩] scope p) pos) env) Q Er s:=by
 rw[exec_Assign_Name_used _ _ _ _ hs];refine YG<|YK (YG ?_);show Jh _ A (do let _<-comprehension (.ListComp elt [⟨t,iter,ifs,0⟩] scope p) scope env _ (newList []) Jd (Jw iter env) (Ja<|assign (.Name y pz) env)) _ _ s;exact YG<|YI h (λo0 s' hq=>YH<|YH (hQ s' hq)) λo0 o0 e=>e
theorem E.comp_of{P:E->Prop}{e:E}(h:e.isC=Jc)(k:∀l tg k i,P (.comp l tg k i))(A:∀l tg k i c,P (.compIf l tg k i c)):P e:=by
 induction e using E.casesOn with
 |comp l tg j i=>exact k l tg j i
 |compIf l tg j i c=>exact A l tg j i c
 |_=>exact ft h
theorem xC(T:E6 C G n)(g:D4 C G mg mb)(hx:Fm sc (.name y) (.Name (Qb y) pz)=Jc)(hz:kz v=Jc)(hc:xk v=11->e.isC=Jc)(hm:mE sc e v=Jc):EH C G n sc (.assign (.name y) e) (.Assign [.Name (Qb y) pz] v pos):=λ{env ρ A l Z s Q X} I w=>by
 rcases p6 (env:=env) (y:=Qb y) (py:=pz) (ln:=pos.line) hz with hs|⟨hs,hl⟩
 .refine kT hs rfl rfl (YI ((bP T g e sc v hm).1 I.toAt w) (λv1 s1 hv=> ?_) λo0 o0 x=>XP.stmt I.ev I.ak x);obtain⟨p1,Z1,hv1,m1,st1,r1,w1⟩:=hv;exact pw (tg:= .name y) (λq=>ft q) I.sr hx I.ev I.ak st1 r1 m1 hv1 rfl w1
 .revert hm w
  refine E.comp_of (P:=λe=>mE sc e v=Jc->ws G (aN C n) (aN C.un n) (.assign (.name y) e) ρ Z Q X->Jh (Mo C) A (exec (.Assign [.Name (Qb y) pz] v pos) env) (SP C n A l env Z s Q) (SX C n A l env Z s X) s) (hc hl) (λelt tg k it hm w=> ?_) λelt tg k it c hm w=> ?_
  .refine uS (P:=λv=>JR v (Ja<|.Name (Qb y) pz) pos.line env=pure Jc->Jh (Mo C) A (exec (.Assign [.Name (Qb y) pz] v pos) env) (SP C n A l env Z s Q) (SX C n A l env Z s X) s) hm (λe t i sc' p h1 h2 h3 h4 h5 hs=>oW (λo0 q=>q) hs ?_) hs;have h1:=E7.of h1<|dq T g it sc;exact pi (tst:=λo0 Z K=>K Jc Z) (el:=λρ' Z K=>we G (aN C n) elt ρ' Z K λo0 o0=>False) I.ev I.ak I.sr h4 h5 h2 hx (h1.fold env) (kc g w.1 h1 h2 I.toAt w.2) tS<|qV (bP T g elt _ _ h3).1
  .refine oN (P:=λv=>JR v (Ja<|.Name (Qb y) pz) pos.line env=pure Jc->Jh (Mo C) A (exec (.Assign [.Name (Qb y) pz] v pos) env) (SP C n A l env Z s Q) (SX C n A l env Z s X) s) hm (λe t i z sc' p h1 h2 h3 h6 h4 h5 hs=>oW (λo0 q=>q) hs ?_) hs;have h1:=E7.of h1<|dq T g it sc;exact pi (tst:=λρ' Z K=>we G (aN C n) c ρ' Z (λv Z'=>dj (λb=>K b Z') v) λo0 o0=>False) (el:=λρ' Z K=>we G (aN C n) elt ρ' Z K λo0 o0=>False) I.ev I.ak I.sr h4 h5 h2 hx (h1.fold env) (kc g w.1 h1 h2 I.toAt w.2) (tZ (bP T g c _ _ h6).2)<|qV (bP T g elt _ _ h3).1
theorem y8(hz:kz v=Jc)(ho:CM C G n sc o u)(hi:CM C G n sc i y)(he:CM C G n sc e v):EH C G n sc (.setIdx o i e) (.Assign [.Subscript u y p] v pos):=λ{ab z A l Z s Q X} I w=>by
 refine lp ?_;intro zP zR;refine wpAny_Assign_Subscript (YI (he I.toAt w) (λJ s1 hv=> ?_) λo0 o0 x=>XP.stmt I.ev I.ak x)<|iB hz rfl;obtain⟨r,ac,K,m1,P,r1,w1⟩:=hv;refine YI (Ei.seq (ho (I.toAt.step P m1) w1) P r1 λv2 s2 p2 aa U m2 W m r2 w2=> ?_) (λo0 o0 x=>x) λo0 o0 x=>XP.stmt I.ev I.ak x;refine YI (Ei.seq (hi (I.toAt.step W m2) w2) W r2 λv3 σ p3 V d Y q T r3 B=> ?_) (λo0 o0 x=>x) λo0 o0 x=>XP.stmt I.ev I.ak x
 induction p2 using PV.casesOn with
 |ref a=>
  rw[show v2= .ref a from U];have h:=(K.step m).step T
  rcases (show EK (λks l=>l.length<Dg/\oK (λk=>Q .next z<|V.set a (Fp ks l k r)) (DM p3)) (V a)\/_ from B) with B|B
  .obtain⟨ks,O,L,N,B⟩:=kW B;obtain⟨kk,H,c⟩:=jh B;obtain⟨xs,D⟩:=Y.dict L;obtain⟨kb,rfl,f⟩:=kZ H d;have R:xs.length<=JJ:=by
    have h1:=D.v.length;rw[Qd] at h1;rw[h1,JV];exact Qq (Kw N)<|by decide
   refine wpAny_setItem_heap (hsz:=R) (iJ I.ak.u100) f.is D.of λh' hd hs=> ?_;obtain⟨F,u2⟩:=D.set (p:=r) (v:=J) Y L f h hd hs;have t:=q.trans u2;exact⟨.next,z,_,rfl,I.ev.step t,F,t.own,r3.trans ⟨rfl,rfl⟩,I.ak.step t,c⟩
  obtain⟨O,L,B⟩:=jj (show GN (λl=>Df (λk=>EV (λj=>l.length<=Dg/\Q .next z (V.set a<|.list (l.set j r)))<|CO l.length k) p3) (V a) from B);obtain⟨k,rfl,B⟩:=dW B;obtain⟨j,hj,B,c⟩:=gR B;obtain⟨tk,rfl⟩:=d;obtain⟨vs,k',g1,g2⟩:=Y.list L;have hn:vs.size=O.length:=g2.length;refine lX g1 (by rw[hn];exact Qq B<|by decide) (by rw[hn];exact hj) ?_;have M:KM a σ.heap (σ.heap.update a (Obj.mapSeq (·.setIfInBounds j J))):=KM.update ..;have b:∃g,(σ.heap.update a (Obj.mapSeq (·.setIfInBounds j J))).get? a=Ja (D5 (vs.setIfInBounds j J) g):=by
   refine⟨?_,?_⟩
   rotate_left
   .rw[Kd _ g1 rfl];simp only[Obj.mapSeq,D5];rfl
  obtain⟨g,b⟩:=b;obtain⟨F,u2⟩:=CP.upd (S:=CC) (o':= .list (O.set j r)) Y L rfl M b ⟨_,g,rfl,by rw[Array.toList_setIfInBounds];exact g2.set j h⟩;have t:=q.trans u2;exact⟨.next,z,_,rfl,I.ev.step t,F,t.own,r3.trans ⟨rfl,rfl⟩,I.ak.step t,c⟩
 |_=>exact B.elim
structure ForAt(C:Cx)(St:Nat->PH->Ji->Prop)(env:Js)(n:Nat)(A:Jj)(l:List Js)(go:List PV->CH->PH->Prop)(xs:List PV)(Z:PH)(s:Je)(i:Nat)(ρ':CH)(Z':PH)(s':Je):Prop where
 le:i<=xs.length
 st:St i Z' s'.heap
 m:CP C Z' s'.heap
 ev:CU C env ρ' Z' s'.heap
 step:CF (Ej env) Z s.heap Z' s'.heap
 rest:CS s s'
 ak:Dy C n A l Z' s'.heap
 go:go (xs.drop i) ρ' Z'
theorem zI(g:D4 C G mg mb)(h1:Fm sc tg t=Jc)(h2:E7 C G n sc tg k es i)(R:Ek C G n sc b y):EH C G n sc (.for_ tg k es b) (.For t i y [] pos):=λ{F ρ A l Z s Q X} I w=>by
 refine lp ?_;intro zP zR;refine wpAny_For ?_<|h2.fold F;refine kc (t:=t) g w.1 h2 h1 I.toAt w.2 _ λII fp St aq s1 P ao r O m1 H r1 j av h=> ?_;have M:∀b∈fp,¬Ej F b:=λb R q=>by obtain⟨o,e,o0⟩:=mO I.ev q;exact ns<|((j b R).1).symm.trans e
 have aa:∀d∈l,∀L,d.frame=Ja L->L∉fp:=λd he L W q=>by
  obtain⟨o0,L',o',o0,o0,e1,o0,o0,e4,o0⟩:=I.ak.frs d he;obtain rfl:=sj<|W.symm.trans e1;exact ns<|((j L q).1).symm.trans e4
 refine codeAny_forLoop_any (λkk s'=>X3 λi z T=>kk=P.length-i+1/\ForAt C St F n A l (Hc ao tg (λρ Z K=>E8 G (aN C n) (aN C.un n) b ρ Z K λo0 o0 o0=>False) Q) P Z s i z T s') ?_ _
  ⟨0,ρ,aq,rfl,⟨QS _,O,m1,I.ev.step H,H.own,r1,I.ak.step H,h⟩⟩
 clear O m1 h;intro kk s' hI;obtain⟨i,z,T,rfl,J⟩:=hI;have O:=J.st;have m':=J.m;have u:=J.ev;have ah:=J.step;have r':=J.rest;have ad:=J.ak;have h:=J.go;have hi:=J.le;clear J;have fo:=r.fok O;by_cases N:i<P.length
 .have hx:P[i]? =Ja P[i]:=Qg N;rw[WV N] at h;obtain⟨af,h⟩:=h;obtain⟨aw,au,h⟩:=qm h;refine r.item hx m' af O λv s1 ai=> ?_;refine ai _ _ λs2 hv m2 m ae r2=> ?_
  .have ar:=u.mv m fo (λq=>M _ q<|.inl rfl) λy c σ q=>M _ q<|.inr ⟨y,σ⟩;have am:=ah.mv m (λc σ=>(j c σ).1);have as:=ad.mv m (λd he L W q=>aa d he L W q);refine iP (λo0=>r.hdn) h1 ar m2 (pW I.sr h1) hv au λs3 a an r3=> ?_;have D:=a.step I.ev am;have ak:=as.asg a;have U:=r.mv ae a.mv a.fok λb R q=>M b R<|jG q;refine YI (R ⟨⟨I.sr,an,a.sim,ak⟩,I.tf⟩ h) (λf s4 h4=> ?_) λo0 o0 x=>SX.none x;obtain⟨fl,Y,aj,f4,ac,m4,V,r4,B,h⟩:=h4;have ab:=r.step U V M
   induction fl with
   |next=>
    simp only[FR] at f4;subst f4;exact⟨P.length-(i+1)+1,tt N,i+1,Y,aj,rfl,⟨N,ab,m4,ac,D.trans V,((r'.trans r2).trans r3).trans r4,B,h⟩⟩
   |ret p=>
    obtain⟨v4,rfl,ap⟩:=f4;exact⟨.ret p,Y,aj,⟨v4,rfl,ap⟩,ac,m4,D.trans V,((r'.trans r2).trans r3).trans r4,B,h⟩
 .have al:i=P.length:=Yw hi<|QW.mp N;subst al;rw[List.drop_length] at h;refine r.done m' h.1 O λs2 m2 m r2=> ?_;refine JK ?_;exact⟨.next,z,T,rfl,u.mv m fo (λq=>M _ q<|.inl rfl)<|λy c σ q=>M _ q<|.inr ⟨y,σ⟩,m2,ah.mv m<|λc σ=>(j c σ).1,r'.trans r2,ad.mv m<|λd he L W q=>aa d he L W q,h.2⟩
end
end
section
variable{mg mb:Jq->Option Jf}{n:Nat}
def WS(n:Nat)(mg mb:Jq->Option Jf)(st:S):Prop:=∀ (C:Cx) (G:Gx),E6 C G n->FN C G n->E6 C.un G.un n->FN C.un G.un n->D4 C G mg mb->∀ (sc:Jk) (x:Jo),mS sc st x=Jc->EH C G n sc st x
def WSs(n:Nat)(mg mb:Jq->Option Jf)(s:List S):Prop:=∀ (C:Cx) (G:Gx),E6 C G n->FN C G n->E6 C.un G.un n->FN C.un G.un n->D4 C G mg mb->∀ (sc:Jk) (x:List Jo),Ha sc s x=Jc->Ek C G n sc s x
theorem lor(h:(!a||b)=Jc)(T:a=Jc):b=Jc:=by rw[T] at h;exact h
theorem bne7(h:(!(xk x==k))=Jc):xk x≠k:=λq=>by rw[q,beq_self_eq_true] at h;exact ft h
mutual
theorem BE:∀st:S,WS n mg mb st
 | .assign (.name y) e=>λC G T σ X d g sc o0 h=>Aa (P:=EH C G n sc (.assign (.name y) e)) h λo0 o0 o0 N Y=>xC T g N (CL (CL Y).1).1 (λq=>lor (CL (CL Y).1).2 (beq_iff_eq.mpr q)) (CL Y).2
 | .assign (.tup xs) e=>λC G T σ X d g sc o0 h=>AW (P:=EH C G n sc (.assign (.tup xs) e)) h λo0 o0 o0 o0 o0 N Y=>yW g N (CL (CL Y).1).1 (bne7 (CL (CL Y).1).2) (bP T g e _ _ (CL Y).2).1
 | .setIdx o i e=>λC G T σ X d g sc o0 h=>pD (P:=EH C G n sc (.setIdx o i e)) h λt v p N Y=>yG (P:=λt=>EH C G n sc (.setIdx o i e) (.Assign [t] v p)) N λo0 o0 o0 J O=>y8 (CL Y).1 (bP T g o _ _ J).1 (bP T g i _ _ O).1 (bP T g e _ _ (CL Y).2).1
 | .expr e=>λC G T σ X d g sc o0 h=>zM (P:=EH C G n sc (.expr e)) h λo0 o0 h=>wN (Uh (CL h).1) (bP T g e _ _ (CL h).2).1
 | .ret e=>λC G T σ X d g sc o0 h=>AZ (P:=EH C G n sc (.ret e)) h λo0 o0 h=>Ax (bP T g e _ _ h).1
 | .if_ t b o=>λC G T σ X d g sc o0 h=>Cs (P:=EH C G n sc (.if_ t b o)) h λo0 o0 o0 o0 N Y J=>A1 (bP T g t _ _ N).2 (gW b C G T σ X d g _ _ Y) (gW o C G T σ X d g _ _ J)
 | .for_ tg k V b=>λC G T σ X d g sc o0 h=>By (P:=EH C G n sc (.for_ tg k V b)) h λo0 o0 o0 o0 N Y J=>zI g N (.of Y<|dq T g V _)<|gW b C G T σ X d g _ _ J
 | .while_ t b=>λC G T σ X d g sc o0 h=>x8 (P:=EH C G n sc (.while_ t b)) h λo0 o0 o0 N Y=>σ.while_ (bP T g t _ _ N).2 (gW b C G T σ X d g _ _ Y)
 | .raise c args=>λC G T σ X d g sc o0 h=>ya (P:=EH C G n sc (.raise c args)) h λv q h=>sq (P:=λv=>EH C G n sc (.raise c args) (.Raise (Ja v) Jb q)) h λo0 o0 o0 N Y J=>λI w=>σ.raise (g.full w.1.1) (g.calm w.1.2.1) N Y (Ue (CL J).2) (dq T g args _ _ (CL J).1) I w
 | .try2 b c x h U Y=>λC G T σ X d g sc o0 m=>zt (P:=EH C G n sc (.try2 b c x h U Y)) m λy u v pos N H hv=>B2 (Q:=λu=>EH C G n sc (.try2 b c x h U Y) (.Try y [u,v] [] [] pos)) H λt R f p M K F=>B2 (Q:=λv=>EH C G n sc (.try2 b c x h U Y) (.Try y [.ExceptHandler (Ja t) (Ja (Qb x)) (R::f) p,v] [] [] pos)) hv λo0 o0 o0 o0 D o0 l=>λI w=>
  σ.try2 (g.full w.1.1) (g.calm w.1.2.1) M D K (gW b C G T σ X d g _ _ N) (gW h _ _ X d X d g.un _ _ F) (gW Y _ _ X d X d g.un _ _ l) I w
theorem gW:∀s:List S,WSs n mg mb s
 |[]=>λC G T σ X d g o0 xs h=>by
  rcases xs with o0|⟨o0,o0⟩
  .exact wj
  .exact ft h
 |a::r=>λC G T σ X d g o0 xs h=>by
  rcases xs with o0|⟨x,xs⟩
  .exact ft h
  .exact vm (BE a C G T σ X d g _ _ (CL h).1)<|gW r C G T σ X d g _ _ (CL h).2
end
end
section
variable{M:Model}{A:Jj}{E:Jf->Je->Prop}{s:Je}
noncomputable def GE(l:List Js):List Jg:=l.filterMap (·.frame)
structure Hj(l:List Js)(e:Jg)(oe:Jp)(vs:Array Jf)(fo:Option Jg)(F:Jg->Prop)(h h':Ji):Prop where
 same:∀b o,¬F b->b∉GE l->h.get? b=Ja o->h'.get? b=Ja o
 slots:∀b o,¬F b->h.get? b=Ja o->∃sl,h'.get? b=Ja {o with slots:=sl}
 exc:∃T oT ts o' vs',(h.get? T=Jb\/(F T/\vs[1]? =Ja (.ref T)))/\T≠e/\h'.get? e=Ja o'/\o'.cls=oe.cls/\o'.dict=oe.dict/\o'.data= .fields vs'/\vs'[1]? =Ja (.ref T)/\vs'[2]? =vs[2]? /\
  h'.get? T=Ja oT/\oT.data= .fields ts/\ts[3]? =Ja (fo.elim Value.none λf=>Jx f)
 alive:∀b,F b->(∃o,h.get? b=Ja o)->∃o,h'.get? b=Ja o
theorem sy{o:Jp}(f:Array Jf->Array Jf):(o.mapFields f).dict=o.dict:=by
 obtain⟨c,d,t,l⟩:=o;rcases t with⟨⟩<;>rfl
theorem mo{o W:Jp}{vs ts:Array Jf}{fo:Option Jg}{Q:Unit->Je->Prop}(O:s.heap.get? e=Ja o)(v:o.data= .fields vs)(N:vs[1]? =Ja (.ref T))(Y:s.heap.get? T=Ja W)(d:W.data= .fields ts)(J:3<ts.size)
  (h:Q () {s with heap:=s.heap.update T (Obj.mapFields (·.setIfInBounds 3 (fo.elim Value.none λf=>Jx f)))}):Jh M A (JS (.ref e) fo) Q E s:=by
 unfold JS;refine YG<|YL O v N ?_;rw[Ug (show(Value.ref T !=Value.none)=Jc from by simp)];exact JF Y d J h
theorem pO{env:Js}{oe:Jp}{vs:Array Jf}{Q:Unit->Je->Prop}
  (hfr:A.frames=Ja (env::outer))(hl:s.heap.FunFrames base (env::outer))(hf:env.frame=Ja L)(he:s.heap.get? e=Ja oe)(hd:oe.data= .fields vs)(hsz:1<vs.size)
  (hK:∀s' o' vs' T,s'.heap.get? e=Ja o'->o'.data= .fields vs'->vs'[1]? =Ja (.ref T)->Jh M A (JS (.ref e) fo) Q E s'->Jh M A K Q E s')
  (h:∀h',Hj (env::outer) e oe vs fo (· =e) s.heap h'->Q () {s with heap:=h'}):
  Jh M A (do let a<-frameOf env;let pl<-entryPlaceOf L hadNext;let b<-EntryCells.newEntry head a .none (Jx L) .none pl;setField (.ref e) 1 b) (λo0 s'=>Jh M A K Q E s') E s:=by
 refine lp ?_;intro zP zR;have hene:e∉GE (env::outer):=λhm=>by
  obtain⟨o0,o,ho,hnf⟩:=hl.mem hm;rw[he] at ho;injection ho with ho;subst ho;exact hnf vs hd
 refine YG (wpAny_frameOf_fun hfr hl hf λh1 hs1=> ?_);refine YG (wpAny_entryPlaceOf λpl hpl=> ?_);unfold EntryCells.newEntry newFields;refine YG<|wpAny_newObj_type ?_ (hpl.sizeOk5 _ _ _ _ _);generalize hob:({cls:= .type "traceback",dict:=Jb,data:= .fields ([head,.ref L,.none,Jx L,.none]++(if pl.isEmpty then List.replicate 6 Value.none else pl)).toArray}:Jp)=ob;have hod:ob.data= .fields ([head,.ref L,.none,Jx L,.none]++(if pl.isEmpty then List.replicate 6 Value.none else pl)).toArray:=by rw[<-hob]
 have hfb:ob.isFreed=Jd:=by rw[<-hob];rfl
 have he1:h1.get? e=Ja oe:=(hs1.2.1 e hene).trans he;have he2:=Qs (h:=h1) ob he1;refine JF he2 hd hsz ?_;have hTe:h1.objs.size≠e:=WJ<|QO he1;have hd3:=Obj.data_mapFields hd (·.setIfInBounds 1 (Value.ref h1.objs.size));have he3:=Kd (Obj.mapFields (·.setIfInBounds 1 (Value.ref h1.objs.size))) he2<|Obj.isFreed_of_fields hd3;have hT3:=(KH (h1.push ob) (Obj.mapFields (·.setIfInBounds 1 (Value.ref h1.objs.size)))<|Ne.symm hTe).trans (QK h1 hfb);have h3s:3<(([head,.ref L,.none,Jx L,.none]++(if pl.isEmpty then List.replicate 6 Value.none else pl)).toArray:Array Jf).size:=by
  simp only[List.size_toArray,QG,KW,Ww];exact Fy (by decide)<|KG _ _
 have hv1:(vs.setIfInBounds 1<|Value.ref h1.objs.size)[1]? =Ja (.ref h1.objs.size):=by rw[Wb hsz]
 refine hK _ _ _ _ he3 hd3 hv1<|mo he3 hd3 hv1 hT3 hod h3s (h _ ?_);have hdT:=Obj.data_mapFields hod (·.setIfInBounds 3 (fo.elim Value.none λf=>Jx f));have keep:∀b o,b≠e->h1.get? b=Ja o->
   (((h1.push ob).update e (Obj.mapFields (·.setIfInBounds 1 (Value.ref h1.objs.size)))).update h1.objs.size
    (Obj.mapFields (·.setIfInBounds 3 (fo.elim Value.none λf=>Jx f)))).get? b=Ja o:=λb o hbe hb=>by
  have hbT:h1.objs.size≠b:=WJ<|QO hb;rw[KH _ _ hbT,KH _ _ (Ne.symm hbe)];exact Qs _ hb
 have hee:(((h1.push ob).update e (Obj.mapFields (·.setIfInBounds 1 (Value.ref h1.objs.size)))).update h1.objs.size
    (Obj.mapFields (·.setIfInBounds 3 (fo.elim Value.none λf=>Jx f)))).get? e=Ja (oe.mapFields (·.setIfInBounds 1 (.ref h1.objs.size))):=by
  rw[KH _ _ hTe];exact he3
 refine⟨λb o hb hm e1=>keep b o hb ((hs1.2.1 b hm).trans e1),λb o hb e1=> ?_,⟨h1.objs.size,_,_,_,_,.inl ?_,hTe,hee,Obj.cls_mapFields _ _,sy _,hd3,hv1,?_,Kd _ hT3 (Obj.isFreed_of_fields hdT),hdT,?_⟩,λb hb o0=>by
  have hb:b=e:=hb;subst hb;exact⟨_,hee⟩⟩
 .obtain⟨sl,q⟩:=hs1.2.2 b o e1;exact⟨sl,keep b _ hb q⟩
 .induction q:s.heap.get? h1.objs.size with
  |none=>rfl
  |some o=>obtain⟨sl,w⟩:=hs1.2.2 _ o q;exact absurd (QO w)<|KJ _
 .rw[Array.getElem?_setIfInBounds_ne (by decide)]
 .show(Array.setIfInBounds _ 3<|fo.elim Value.none λf=>Jx f)[3]? =Ja _;rw[Wb h3s]
theorem xL{env:Js}{oe:Jp}{Q:Unit->Je->Prop}
  (hfr:A.frames=Ja (env::outer))(hl:s.heap.FunFrames base (env::outer))(hf:env.frame=Ja L)(he:s.heap.get? e=Ja oe)(hd:oe.data= .fields vs)
  (hK:∀s' o' vs' T,s'.heap.get? e=Ja o'->o'.data= .fields vs'->vs'[1]? =Ja (.ref T)->Jh M A (JS (.ref e) fo) Q E s'->Jh M A K Q E s')
  (hv:vs[1]? =Ja .none\/∃T oT ts,vs[1]? =Ja (.ref T)/\T≠e/\s.heap.get? T=Ja oT/\oT.data= .fields ts/\(ts[3]? =Ja .none\/ts[3]? =Ja (Jx L)))
  (h:∀h',Hj (env::outer) e oe vs fo (λb=>b=e\/vs[1]? =Ja (.ref b)) s.heap h'->Q () {s with heap:=h'}):
  Jh M A (noteFrame (.ref e) env) (λo0 s'=>Jh M A K Q E s') E s:=by
 refine lp ?_;intro zP zR;unfold noteFrame;simp only[hf]
 rcases hv with h1|⟨T,oT,ts,h1,hTe,hT,hdT,h3|h3⟩
 .refine YG<|YL he hd h1 ?_;rw[Uf (by decide)];refine pO hfr hl hf he hd (Ku.mp h1).1 hK λh' N=>h h' ⟨λb o hb=>N.same b o λq=>hb<|.inl q,λb o hb=>N.slots b o λq=>hb<|.inl q,?_,λb hb=> ?_⟩
  .obtain⟨T',oT',ts',o',vs',q1,q2⟩:=N.exc;exact⟨T',oT',ts',o',vs',q1.imp id λz=>⟨.inl z.1,z.2⟩,q2⟩
  .rcases hb with hb|hb
   .exact N.alive b hb
   .rw[h1] at hb;cases hb
 .refine YG<|YL he hd h1 ?_;rw[Ug (show(Value.ref T !=Value.none)=Jc from by simp)];refine YG<|YL hT hdT h3 ?_;rw[Uf (show ¬ ((Value.none==Jx L)=Jc) from by simp[Jx])];refine YG<|wpAny_setField hT hdT (Ku.mp h3).1 ?_;have other:∀b,b≠T->(s.heap.update T (Obj.mapFields (·.setIfInBounds 3 Value.none))).get? b=s.heap.get? b:=λb hb=>KH _ _<|Ne.symm hb;have noRecord:∀b o,s.heap.get? b=Ja o->(∀vs,o.data≠ .fields vs)->b≠T:=λb o hb hnf q=>by
   rw[q,hT] at hb;injection hb with hb;subst hb;exact hnf ts hdT
  refine pO hfr (hl.of_keeps λb o hb hnf=>⟨o,(other b<|noRecord b o hb hnf).trans hb,rfl⟩) hf ((other e<|Ne.symm hTe).trans he) hd (Ku.mp h1).1 hK λh' N=>h h' ?_;have hTu:(s.heap.update T (Obj.mapFields (·.setIfInBounds 3 Value.none))).get? T=Ja (oT.mapFields (·.setIfInBounds 3 Value.none)):=Kd _ hT<|Obj.isFreed_of_fields (Obj.data_mapFields hdT _);refine⟨λb o hb hm e1=>N.same b o (λq=>hb<|.inl q) hm<|(other b λq=>hb<|.inr (by rw[q];exact h1)).trans e1,λb o hb e1=>N.slots b o (λq=>hb<|.inl q)<|(other b λq=>hb<|.inr (by rw[q];exact h1)).trans e1,?_,λb hb ho=> ?_⟩
  .obtain⟨T',oT',ts',o',vs',q1,q2⟩:=N.exc;refine⟨T',oT',ts',o',vs',.inl ?_,q2⟩
   rcases q1 with q1|q1
   .rw[<-other T' λq=>by rw[q,hTu] at q1;exact sn q1];exact q1
   .exact absurd q1.1 q2.1
  .rcases hb with hb|hb
   .exact N.alive b hb<|by subst hb;exact⟨_,(other b<|Ne.symm hTe).trans he⟩
   .rw[h1] at hb;cases hb;obtain⟨sl,q⟩:=N.slots T _ hTe hTu;exact⟨_,q⟩
 .refine YG<|YL he hd h1 ?_;rw[Ug (show(Value.ref T !=Value.none)=Jc from by simp)];refine YG<|YL hT hdT h3 ?_;rw[Ug (show((Jx L==Jx L)=Jc) from beq_self_eq_true _)];refine YH ?_;have h3s:=(Ku.mp h3).1;refine hK _ _ _ _ he hd h1<|mo he hd h1 hT hdT h3s (h _ ?_);have hdT':=Obj.data_mapFields hdT (·.setIfInBounds 3 (fo.elim Value.none λf=>Jx f));have other:∀b,b≠T->(s.heap.update T (Obj.mapFields (·.setIfInBounds 3 (fo.elim Value.none λf=>Jx f)))).get? b=s.heap.get? b:=λb hb=>KH _ _<|Ne.symm hb;have hTu:=Kd (Obj.mapFields (·.setIfInBounds 3 (fo.elim Value.none λf=>Jx f))) hT<|Obj.isFreed_of_fields hdT';refine⟨λb o hb o0 e1=>(other b λq=>hb<|.inr (by rw[q];exact h1)).trans e1,λb o hb e1=>⟨o.slots,(other b λq=>hb<|.inr (by rw[q];exact h1)).trans e1⟩,⟨T,_,_,oe,vs,.inr ⟨.inr h1,h1⟩,hTe,(other e<|Ne.symm hTe).trans he,rfl,rfl,hd,h1,rfl,hTu,hdT',?_⟩,λb hb ho=> ?_⟩
  .rw[Wb h3s]
  .obtain⟨o,eo⟩:=ho;by_cases q:b=T
   .subst q;exact⟨_,hTu⟩
   .exact⟨o,(other b q).trans eo⟩
end
section
variable{C:Cx}{Z:PH}{A:Jj}{Er:Jf->Je->Prop}{s:Je}{l:List Js}
theorem Hj.facts{F:Jg->Prop}{W:Ji}{S:Jg->Prop}{h₀:Ji}(N:Hj l e g vs fo F s.heap W)(m:CP C Z s.heap)(r:G3 C Z s.heap l)
  (J:∀b,F b->C.B.get? b=Jb/\Z b=Jb/\h₀.get? b=Jb/\∀o,s.heap.get? b=Ja o->∃vs,o.data= .fields vs)(st:CF S B h₀ Z s.heap):
  CP C Z W/\CF S B h₀ Z W/\(∀b o,¬F b->s.heap.get? b=Ja o->∃o',W.get? b=Ja o'/\EP o o'):=by
 have Q:∀b,b∈GE l->Z b=Jb/\C.B.get? b=Jb/\X3 λo U n=>s.heap.get? b=Ja o/\o.data= .dict U n:=λb h=>by
  obtain⟨Y,O,q⟩:=List.mem_filterMap.mp h;obtain⟨o0,L,o,U,n,T,j,X,u,I⟩:=r Y O;obtain rfl:=sj<|q.symm.trans T;exact⟨X,j,o,U,n,u,I⟩
 have y:∀b o,¬F b->s.heap.get? b=Ja o->∃o',W.get? b=Ja o'/\EP o o':=λb o h T=>by
  by_cases v:b∈GE l
  .obtain⟨o0,o0,P,U,n,j,X⟩:=Q b v;obtain rfl:=sj<|T.symm.trans j;obtain⟨M,q⟩:=N.slots b o h T;exact⟨_,q,rfl,rfl,rfl,λk=>absurd X<|k U n⟩
  .exact⟨o,N.same b o h v T,.refl o⟩
 have H:∀b o,s.heap.get? b=Ja o->∃o',W.get? b=Ja o':=λb o T=>by
  by_cases h:F b
  .exact N.alive b h ⟨o,T⟩
  .obtain⟨o',q,o0⟩:=y b o h T;exact⟨o',q⟩
 have V:CF S B h₀ Z W:=by
  refine⟨λb o T j=> ?_,st.grow,st.fix,λb T=> ?_⟩
  .obtain⟨c,o',σ,K⟩:=st.keep b o T j;have h:¬F b:=λf=>by exact ns (((J b f).2.2.1).symm.trans T)
   obtain⟨P,z,G⟩:=y b o' h σ;exact⟨c,P,z,λk=>(K k).trans G⟩
  .refine st.live b ?_
   induction q:s.heap.get? b with
   |none=>rfl
   |some o=>obtain⟨o',w⟩:=H b o q;exact ns<|T.symm.trans w
 have t:CF F Z s.heap Z W:=by
  refine⟨λb o T j=> ?_,λb o T=>⟨o,T⟩,λb o T o0=>T,λb T=> ?_⟩
  .by_cases h:F b
   .obtain⟨o',w⟩:=N.alive b h ⟨o,T⟩;exact⟨j,o',w,λk=>by obtain⟨x,n,q⟩:=k h;obtain⟨vs,σ⟩:=(J b h).2.2.2 o T;rw[q] at σ;cases σ⟩
   .obtain⟨o',w,q⟩:=y b o h T;exact⟨j,o',w,λo0=>q⟩
  .induction q:s.heap.get? b with
   |none=>rfl
   |some o=>obtain⟨o',w⟩:=H b o q;exact ns<|T.symm.trans w
 have same:∀b o,¬F b->b∉GE l->s.heap.get? b=Ja o->W.get? b=Ja o:=N.same;refine⟨m.step t (λa o T=> ?_)<|λb o T=> ?_,V,y⟩
 .obtain⟨R,j,o0⟩:=m.objs a o T;rw[j];exact same a R (λf=>by exact ns<|((J a f).2.1).symm.trans T) (λf=>by exact ns<|((Q a f).1).symm.trans T) j
 .exact same b o (λf=>by exact ns<|((J b f).1).symm.trans T) (λf=>by exact ns<|((Q b f).2.1).symm.trans T)<|m.base b o T
theorem jR{own fo:Option Jg}{env:Js}{S:Jg->Prop}{Q:Unit->Je->Prop}(ad:A.frames=Ja (env::t))(fr:G3 C Z s.heap (env::t))(hf:env.frame=Ja L)(m:CP C Z s.heap)
  (f:Hl C own x e Z h₀ s.heap)(ho:∀σ,own=Ja σ->σ=L)(st:CF S B h₀ Z s.heap)
  (hK:∀a s' o' U T,e= .ref a->s'.heap.get? a=Ja o'->o'.data= .fields U->U[1]? =Ja (.ref T)->Jh (Mo C) A (JS e fo) Q Er s'->Jh (Mo C) A K Q Er s')
  (h:∀W,CP C Z W->Hl C fo x e Z h₀ W->CF S B h₀ Z W->(∃F:Jg->Prop,CF F Z s.heap Z W/\∀b o,F b->s.heap.get? b=Ja o->∃vs,o.data= .fields vs)->(X6 λa oe vs T I ts=>A8 (e= .ref a) (W.get? a=Ja oe) (oe.data= .fields vs) (vs[1]? =Ja (.ref T)) (T≠a) (W.get? T=Ja I) (I.data= .fields ts)<|ts[3]? =Ja (fo.elim Value.none λf=>Jx f))->Q () {s with heap:=W}):
  Jh (Mo C) A (noteFrame e env) (λo0 s'=>Jh (Mo C) A K Q Er s') Er s:=by
 obtain⟨a,o,vs,k,rfl,D,q3,q4,q5,q6,q7,q8,q9,J,ac⟩:=f;refine xL ad fr.fun hf q5 q8 (λs' o' U T=>hK a s' o' U T rfl) (J.imp id λhq=>by obtain⟨T,I,ts,v,X,H,w4,E,V,y,Y⟩:=hq;exact⟨T,I,ts,v,X,V,y,Y.imp id λz'=>by obtain⟨σ,z1,z2⟩:=z';rw[<-ho σ z1];exact z2⟩) λW N=> ?_;have j:∀b,(b=a\/vs[1]? =Ja (.ref b))->C.B.get? b=Jb/\Z b=Jb/\h₀.get? b=Jb/\∀o,s.heap.get? b=Ja o->∃vs,o.data= .fields vs:=λb R=>by
  rcases R with rfl|R
  .exact⟨D,q3,q4,λo' e'=>by obtain rfl:=sj<|q5.symm.trans e';exact⟨vs,q8⟩⟩
  .rcases J with J|⟨T,I,ts,v,X,H,w4,E,V,y,Y⟩
   .rw[J] at R;cases R
   .rw[v] at R;cases R;exact⟨H,w4,E,λo' e'=>by obtain rfl:=sj<|V.symm.trans e';exact⟨ts,y⟩⟩
 obtain⟨m',ae,lk⟩:=N.facts m fr j st;have aa:∀b o,s.heap.get? b=Ja o->(∀vs,o.data≠ .fields vs)->¬ (b=a\/vs[1]? =Ja (.ref b)):=λb o P e2 f=>by
  obtain⟨vs,e3⟩:=(j b f).2.2.2 o P;exact e2 vs e3
 have F4:CF (λb=>b=a\/vs[1]? =Ja (.ref b)) Z s.heap Z W:=by
  refine⟨λb O P e2=> ?_,λb o P=>⟨o,P⟩,λb o P o0=>P,λb P=> ?_⟩
  .by_cases R:b=a\/vs[1]? =Ja (.ref b)
   .obtain⟨o',w⟩:=N.alive b R ⟨O,P⟩;exact⟨e2,o',w,λk=>by obtain⟨xs,n,q⟩:=k R;obtain⟨vs,D⟩:=(j b R).2.2.2 O P;rw[q] at D;cases D⟩
   .obtain⟨o',w,q⟩:=lk b O R P;exact⟨e2,o',w,λo0=>q⟩
  .induction q:s.heap.get? b with
   |none=>rfl
   |some O=>
    by_cases R:b=a\/vs[1]? =Ja (.ref b)
    .obtain⟨o',w⟩:=N.alive b R ⟨O,q⟩;exact ns<|P.symm.trans w
    .obtain⟨o',w,o0⟩:=lk b O R q;exact ns<|P.symm.trans w
 refine h W m' ?_ ae ⟨_,F4,λb o f P=>(j b f).2.2.2 o P⟩ ?_
 rotate_left
 .obtain⟨T,I,ts,o',U,v,X,H,w4,E,V,y,Y,w9,M,G⟩:=N.exc;exact⟨a,_,_,T,I,ts,rfl,H,V,y,X,w9,M,G⟩
 obtain⟨T,I,ts,o',U,v,X,H,w4,E,V,y,Y,w9,M,G⟩:=N.exc;have c:C.B.get? T=Jb/\Z T=Jb/\h₀.get? T=Jb:=by
  rcases v with v|⟨v,o0⟩
  .refine⟨?_,?_,st.live T v⟩
   .induction q:C.B.get? T with
    |none=>rfl
    |some o=>exact sn<|(m.base T o q).symm.trans v
   .induction q:Z T with
    |none=>rfl
    |some o=>obtain⟨O,P,o0⟩:=m.objs T o q;exact ns<|v.symm.trans P
  .exact⟨(j T v).1,(j T v).2.1,(j T v).2.2.1⟩
 refine⟨a,_,_,k,rfl,D,q3,q4,H,q6,w4.trans q7,V,Y.trans q9,.inr ⟨T,I,ts,y,X,c.1,c.2.1,c.2.2,w9,M,?_⟩,?_⟩
 .induction fo with
  |none=>exact .inl G
  |some σ=>exact .inr ⟨σ,rfl,G⟩
 .rw[E]
  induction ac with
  |no f e=>exact .no f e
  |at_ f d od e b n z g r=>
   obtain⟨es,ep,r1,r2,r3,r4⟩:=r;obtain⟨o',g',ab⟩:=lk d od (aa d od g λvs q=>by rw[r1] at q;cases q) g;exact .at_ f d o' e b n z g' ⟨es,ep,ab.2.2.1.trans r1,r2,λi f p h1 h2=>by obtain⟨u,a,b⟩:=r3 i f p h1 h2;exact⟨u,a,VR.step F4 _ _ b⟩,r4⟩
theorem tw{own:Option Jg}{env:Js}{S:Jg->Prop}{Q:Unit->Je->Prop}(r:A.frames=Ja (env::o))(O:G3 C Z s.heap (env::o))(w:env.frame=Ja L)(m:CP C Z s.heap)
  (f:Hl C own x e Z h₀ s.heap)(d:∀σ,own=Ja σ->σ=L)(st:CF S B h₀ Z s.heap)
  (h:∀W,CP C Z W->Hl C Jb x e Z h₀ W->CF S B h₀ Z W->Q () {s with heap:=W}):
  Jh (Mo C) A (leaving env e) Q Er s:=by
 unfold leaving;exact YG<|jR (K:=JS e Jb) r O w m f d st (λo0 o0 o0 o0 o0 o0 o0 o0 o0 z=>z) λW a b c o0 o0=>h W a b c
end
section
set_option backward.match.sparseCases true
noncomputable def Ec(ps l:List String)(args:List PV):CH:=ps.zip (args.map Ja)++l.map λx=>(x,Jb)
theorem mr{l:List String}{P:Prop}(h:CH.get (l.map λx=>(x,Jb)) x=Ja p):P:=by
 induction l with
 |nil=>exact ns h
 |cons y r i=>
  have h:(if y=x then Jb else CH.get (r.map λx=>(x,Jb)) x)=Ja p:=h;by_cases e:y=x
  .exact ns<|(Ug e).symm.trans h
  .exact i<|(Uf e).symm.trans h
theorem pf{args:List PV}:(Ec ps l args).get x=Ja p->∃i:Nat,ps[i]? =Ja x/\args[i]? =Ja p:=by
 induction ps generalizing args with
 |nil=>exact λh=>mr h
 |cons q ps W=>
  rcases args with o0|⟨a,args⟩
  .exact λh=>mr h
  intro h;have h:(if q=x then Ja a else(Ec ps l args).get x)=Ja p:=h;by_cases e:q=x
  .rw[e,<-sj ((Ug e).symm.trans h)];exact⟨0,rfl,rfl⟩
  .obtain⟨i,N,Y⟩:=W<|(Uf e).symm.trans h;exact⟨i+1,N,Y⟩
section
variable{k:Jq->Option JW}
theorem pN:∀ (b:List (Jq×Jf)) (m:Jq->Option Jf) (x:Jq),x∉b.map (·.1)->bindL k b m x=m x
 |[]=>λm x h=>rfl
 |(n,v)::r=>λm x h=>by
  simp only[Qo,Qw,not_or] at h;unfold bindL;rw[pN r _ x h.2]
  split
  .exact Uf h.1
  .rfl
theorem oJ:∀ (b:List (Jq×Jf)) (m:Jq->Option Jf) (x:Jq),x∉b.map (·.1)->PySem.bindC k b m x=m x
 |[]=>λm x h=>rfl
 |(n,v)::r=>λm x h=>by
  simp only[Qo,Qw,not_or] at h;unfold PySem.bindC;rw[oJ r _ x h.2]
  split
  .rfl
  .exact Uf h.1
theorem lw:∀ (ns:List Jq) (vs:List Jf) (m:Jq->Option Jf) (i:Nat) (x:Jq) (v:Jf),ns.Nodup->ns[i]? =Ja x->vs[i]? =Ja v->k x=Ja .local->bindL k (ns.zip vs) m x=Ja v
 |[],_=>λo0 i x v o0 h o0 o0=>by simp at h
 |_::_,[]=>λo0 i x v o0 o0 h o0=>by simp at h
 |n::ns,w::vs=>λm i x v d N Y M=>by
  rw[Qy] at d;simp only[Wt];unfold bindL
  induction i using Nat.casesOn with
  |zero=>
   simp at N Y;subst N Y;rw[pN _ _ _ (by rintro q;obtain⟨p,D,e⟩:=Ql.mp q;have:=(KC (show(p.1,p.2)∈_ from D)).1;rw[e] at this;exact d.1 this),Ug M,Ug rfl]
  |succ j=>exact lw ns vs _ j x v d.2 (by simpa using N) (by simpa using Y) M
theorem oQ:∀ (ns:List Jq) (vs:List Jf) (m:Jq->Option Jf) (i:Nat) (x:Jq) (v:Jf),ns.Nodup->ns[i]? =Ja x->vs[i]? =Ja v->k x=Ja .cell->PySem.bindC k (ns.zip vs) m x=Ja v
 |[],_=>λo0 i x v o0 h o0 o0=>by simp at h
 |_::_,[]=>λo0 i x v o0 o0 h o0=>by simp at h
 |n::ns,w::vs=>λm i x v d N Y M=>by
  rw[Qy] at d;simp only[Wt];unfold PySem.bindC
  induction i using Nat.casesOn with
  |zero=>
   simp at N Y;subst N Y;rw[oJ _ _ _ (by rintro q;obtain⟨p,D,e⟩:=Ql.mp q;have:=(KC (show(p.1,p.2)∈_ from D)).1;rw[e] at this;exact d.1 this),Uf<|by rw[M];simp,Ug rfl]
  |succ j=>exact oQ ns vs _ j x v d.2 (by simpa using N) (by simpa using Y) M
end
structure FnIn(B:Ji)(ps:List String)(a:Jg)(o:Jp)(fd:Jr)(body:List Jo):Prop where
 ho:B.get? a=Ja o
 hd:o.data= .func fd
 cd:B.CodeRec fd.code fd.qualname
 hb:fd.body= .stmts body
 clo:fd.closure=[]
 glb:fd.globals=JA
 blt:fd.builtins=builtinsNs
 bind:∀vals:List Jf,vals.length=ps.length->Y2 fd ⟨vals,[]⟩=pure ((ps.map Qb).zip vals)
 par:(ps.all λp=>fd.scope.names.lookup (Qb p)==Ja .local||fd.scope.names.lookup (Qb p)==Ja .cell)=Jc
 nd:ps.Nodup
 co:fd.scope.isCoroutine=Jd
 gen:fd.scope.isGenerator=Jd
 kind:fd.scope.kind= .function
 free:(fd.scope.names.all λp=>p.2 != .free)=Jc
theorem FnIn.keeps{B e:Ji}(F:FnIn B ps a o f body)(kp:∀b o,B.get? b=Ja o->e.get? b=Ja o):FnIn e ps a o f body:=
 ⟨kp _ _ F.ho,F.hd,F.cd.keeps kp,F.hb,F.clo,F.glb,F.blt,F.bind,F.par,F.nd,F.co,F.gen,F.kind,F.free⟩
structure FO(C:Cx)(f:String)(ps:List String)(sts:List S)(a:Jg)(o:Jp)(fd:Jr)(body:List Jo):Prop extends FnIn C.B ps a o fd body where
 fv:C.fv f=Ja (.ref a)
 kp:Kp C (.ref a)
 mat:Ha fd.scope sts body=Jc
section
variable{C:Cx}{G:Gx}{mg mb:Jq->Option Jf}{n:Nat}
theorem c3{l:List String}(h:l.Nodup):(l.map Qb).Nodup:=by
 induction l with
 |nil=>exact List.nodup_nil
 |cons x r i=>
  rw[Qy] at h;rw[Qo,Qy];exact⟨λq=>by obtain⟨y,W,e⟩:=Ql.mp q;rw[CV e] at W;exact h.1 W,i h.2⟩
theorem pG(g:D4 C G mg mb){ps:List String}{d:Jr}(F:FnIn C.B ps a o d body){args:List PV}(ls:List String)(j:args.length=ps.length){A:Jj}{s:Je}(H:Dy C (n+1) A l Z s.heap)(m:CP C Z s.heap)(hv:CZ C Z s.heap args vs){R:Result->Je->Prop}
  (k:∀env w,Fg d.scope env->CU C env (Ec ps ls args) Z w.heap->CP C Z w.heap->CF CC Z s.heap Z w.heap->CS s w->Dy C n (A.deeper env) (env::l) Z w.heap->env.frame=Ja env.locals->env.locals=s.heap.objs.size->(∀x c,env.cells.lookup x=Ja c->s.heap.objs.size<=c)->
   (∀ {Z':PH} {s':Je},CF (Ej env) Z w.heap Z' s'.heap->CF CC Z s.heap Z' s'.heap)->
   Jh (Mo C) (A.deeper env) (execs body env) (λf s'=>R (.ok (.ret (match f with| .ret v=>v|_=> .none))) s') (λe s'=>Jh (Mo C) (A.deeper env) (leaving env e) (λo0 W=>R (.error e) W) (λe' W=>R (.error e') W) s') w):codeAny (Mo C) A (.call (.ref a) ⟨vs,[]⟩) R s:=by
 have V:vs.length=ps.length:=hv.length.trans j;have N:A.depth<J0:=by have:=H.depth;exact zl (D8 (KG _ _)<|KG _ _) this
 have U:∀p∈ps,d.scope.names.lookup (Qb p)=Ja .local\/d.scope.names.lookup (Qb p)=Ja .cell:=λp I=>by
  have:=Qx.mp F.par p I;simpa [WZ] using this
 refine codeAny_call_cells N (m.base _ _ F.ho) F.hd (g.nolimit.keeps m.base) (F.cd.keeps m.base) F.hb (F.bind vs V) F.clo (λx hx=> ?_) (λw r=> ?_) F.co F.gen F.kind
 .have M:x.1∈ps.map Qb:=(KC (show(x.1,x.2)∈_ from hx)).1;obtain⟨p,I,e⟩:=Ql.mp M;rw[<-e];refine(U p I).imp id λq=>⟨q,?_⟩
  obtain⟨c,o0,σ⟩:=fT d.scope.names (s.heap.objs.size+1) [] _ (Jv q);rw[σ];rfl
 generalize O:callEnvC d s.heap.objs.size a=env at r ⊢;have Y:env.locals=s.heap.objs.size:=by rw[<-O];rfl
 have T:∀x,env.kindOf x=d.scope.names.lookup x:=λx=>by rw[<-O];rfl
 have E:env.cells=JO (s.heap.objs.size+1) d.scope.names []:=by rw[<-O];rfl
 have z:∀x c,env.cells.lookup x=Ja c->s.heap.objs.size<=c:=λx c h=>by
  have:=r.above x c<|mem_of_lookup h;rw[Y] at this;exact Kw this
 have kp:∀b o,s.heap.get? b=Ja o->w.heap.get? b=Ja o:=r.toInCall.keep;have P:CF CC Z s.heap Z w.heap:= .more kp;have m1:CP C Z w.heap:=m.more kp;have r1:CS s w:=by obtain⟨h',tk,e⟩:=r.toInCall.same;rw[e];exact⟨rfl,rfl⟩
 have u:=hv.step P;have ev:CU C env (Ec ps ls args) Z w.heap:=by
  refine⟨by rw[<-O];exact F.kind,by rw[<-O];exact F.glb,by rw[<-O];exact F.blt,⟨_,r.toInCall.ns,λx p L e2=> ?_⟩,λx p L e2=> ?_,by rw[Y];exact m.fresh (Qz _),by rw[Y];exact m.freshB (Qz _),
   λx c h=>m.freshB (z x c h),λx c h=>⟨m.fresh (z x c h),_,r.cell x c h⟩,λx y c D Q=>name_of_addr r.apart (Jv D) (Jv Q),λx h=> ?_⟩
  .obtain⟨i,D,Q⟩:=pf L;obtain⟨v,J,S⟩:=u.get i p Q;refine⟨v,lw _ _ _ i _ v (c3 F.nd) (by rw[Qu,D];rfl) J e2,S⟩
  .obtain⟨i,D,Q⟩:=pf L;obtain⟨v,J,S⟩:=u.get i p Q;have t:env.kindOf (Qb x)=Ja .cell:=e2.resolve_right λq=>by
    rw[T] at q;have:=Qx.mp F.free _<|mem_of_lookup q;simp at this
   obtain⟨c,o0,σ⟩:=fT d.scope.names (s.heap.objs.size+1) [] _ (Jv<|by rw[<-T];exact t);rw[<-E] at σ;refine⟨c,v,σ,?_,S⟩;have:=r.cell _ c σ;rw[oQ _ _ _ i _ v (c3 F.nd) (by rw[Qu,D];rfl) J t] at this;exact this
  .rcases h with h|h
   .obtain⟨c,o0,σ⟩:=fT d.scope.names (s.heap.objs.size+1) [] _ (Jv<|by rw[<-T];exact h);exact⟨c,by rw[E];exact σ⟩
   .rw[T] at h;have:=Qx.mp F.free _<|mem_of_lookup h;simp at this
 have B:Dy C n (A.deeper env) (env::l) Z w.heap:=by
  refine⟨?_,?_,?_,?_,H.calm⟩
  .have:=H.depth;show A.depth+1+n+2<_;exact zl (Km (QV<|QI _ _ _) 2) this
  .have:=H.units;show A.units+3+30*n+300<_;exact zr6 this
  .show A.frames.map (env:: ·)=_;rw[H.stack];rfl
  .intro en K
   rcases Qw.mp K with rfl|K
   .obtain⟨o',es,ep,q1,q2,o0⟩:=r.toInCall.ns;refine⟨by rw[ev.fn];simp,en.locals,o',es,ep,by rw[<-O];rfl,by rw[Y];exact m.freshB<|Qz _,by rw[Y];exact m.fresh<|Qz _,q1,q2⟩
   .exact(H.step P).frs en K
 have sr:Fg d.scope env:=by
  have:d.scope=env.scope:=by rw[<-O];rfl
  rw[this];exact .self env
 have back:∀ {Z':PH} {s':Je},CF (Ej env) Z w.heap Z' s'.heap->CF CC Z s.heap Z' s'.heap:=λ{Z' s'} st=>(P.own.trans st).mono λb hb q=>by
  have X:b<s.heap.objs.size:=by
   induction e:s.heap.get? b with
   |none=>rw[e] at hb;exact ft hb
   |some o=>exact QO e
  rcases q with q|⟨x,q⟩
  .rw[q,Y] at X;exact(KJ _ X).elim
  .exact(KJ _<|QJ X (z x b q)).elim
 exact k env w sr ev m1 P r1 B (by rw[<-O];rfl) Y z back
theorem B1(T:E6 C G n)(T2:FN C G n)(Tu:E6 C.un G.un n)(T2u:FN C.un G.un n)(g:D4 C G mg mb){ps:List String}(F:FO C f ps sts a o fd body)
  {args:List PV}(ls:List String)(hlen:args.length=ps.length)
  (w:E8 G (aN C n) (aN C.un n) sts (Ec ps ls args) Z (λfl o0 Z'=>match fl with
   | .next=>Q .none Z'
   | .ret v=>Q v Z') λx o0 Z'=>X x Z'):aN C (n+1) f args Z Q X:=by
 refine⟨.ref a,F.fv,F.kp,λA l s vs ak m hv=>J8<|pG g F.toFnIn ls hlen ak m hv λenv s₁ sr ev m1 st1 r1 ak1 hfr hloc habove back=> ?_⟩;refine YI (gW sts C G T T2 Tu T2u g fd.scope body F.mat ⟨⟨sr,ev,m1,ak1⟩,l,rfl,hfr⟩ w) (λfl s' h=> ?_) λx s' h=> ?_
 .obtain⟨f',ρ',Z',h1,o0,m',st',r',o0,w⟩:=h
  induction f' with
  |next=>
   simp only[FR] at h1;subst h1;exact⟨.none,Z',kQ,m',back st',r1.trans r',w⟩
  |ret p=>
   obtain⟨v,rfl,hv'⟩:=h1;exact⟨p,Z',hv',m',back st',r1.trans r',w⟩
 .obtain⟨x,ρ',Z',fl,o0,m',st',r',ak',w⟩:=h;have fl0:Hl C env.frame x _ Z' s.heap s'.heap:=fl.from st1;exact tw ak'.stack ak'.frs hfr m' fl0 (λL' q=>by obtain rfl:=sj<|hfr.symm.trans q;rfl) (back st') λh' m2 fl2 st2=>⟨x,Z',fl2,m2,st2,r1.trans r',w⟩
end
end
section
open PySem.W PyProof.Rows
theorem sx{K:Frag}{D:Jg}{od:Option Jp}{name:Jq}{a g:Jf}(h:(clsIn K D).isSome=Jc)(T:findIn K (.ref D) name=Ja (Ja a))(S:specialIn K a "__get__"=Ja (Ja g))(t:takesIn K a=Ja Jc):
  findObj K D od name=Ja (.bind g a):=by
 obtain⟨c,h⟩:=Yc.mp h;unfold findObj;rw[h,KF,T,KF];show(specialIn K a "__get__").bind _=_;rw[S];show(takesIn K a).bind _=_;rw[t];rfl
theorem lP{K:Frag}{D:Jg}(f:dS K D=Jc):A9 (findIn K (.ref D) "__getattribute__"=Ja (Ja (.builtin "BaseException.__getattribute__"))) (findIn K (.ref D) "__getattr__"=Ja Jb) (subIn K (.ref D) (.type "BaseException")=Ja Jc) (hasDictIn K D=Jc)
  (findIn K (.ref D) "__class__"=Ja (Ja<|.builtin "object.__class__")) (specialIn K (.builtin "object.__class__") "__get__"=Ja (Ja<|.builtin "getset_descriptor.__get__")) (takesIn K (.builtin "object.__class__")=Ja Jc) (mroIn K D (.type "object")=Ja Jc) (mroIn K D (.ref D)=Ja Jc):=by
 simp only[dS,QL,beq_iff_eq] at f;obtain⟨⟨⟨⟨⟨⟨⟨⟨a,b⟩,c⟩,d⟩,e⟩,f⟩,g⟩,h⟩,i⟩:=f;exact⟨a,b,c,d,e,f,g,h,i⟩
theorem vZ{prog:Jn}{w:Jm}{A:Jj}{E:Jf->Je->Prop}{Q:Jf->Je->Prop}{s:Je}{K:Frag}{x D:Jg}{ox:Jp}{o:Option Jp}{u:Jf}{i ex:Bool}(f:dS K D=Jc)(X:K.In s.heap)(I:InstAt s.heap x ox D o)
  (h:Jh (Jt prog w) A.in1 (Builtin.«object.__getattribute__» ⟨[.ref x,u],[]⟩) (λfin s'=>∃v,fin= .done (.ret v)/\Jh (Jt prog w) A (Y9 v) Q E s') (λo0 o0=>False) s):Jh (Jt prog w) A (getAttrBy (.ref x) u i ex) Q E s:=by
 obtain⟨a,S,b,o0,o0,o0,o0,o0,o0⟩:=lP f;obtain⟨U,g,d,t,m⟩:=s;have L:=I.type (M:=Jt prog w);have σ:¬ (onTheHeap (Value.ref D)&&(Value.builtin "BaseException.__getattribute__"==Value.builtin "object.__getattribute__"))=Jc:=by rw[show(Value.builtin "BaseException.__getattribute__"==Value.builtin "object.__getattribute__")=Jd by decide+kernel,YC];exact QB
 unfold getAttrBy;refine YJ<|YG (L.at<|YG ((looks_findIn (M:=Jt prog w) X a).at (wn σ ?_)));unfold getAttrByItsOwn;refine YG<|wy (c:=onTheHeap (Value.ref D)=Jc) rfl ((looks_findIn (M:=Jt prog w) X S).at (YG<|wpAny_attempt (YJ ?_)));unfold callGetattribute;refine wn (c:=(ex&&onTheHeap (Value.builtin "BaseException.__getattribute__"))=Jc) (by rw[show onTheHeap (Value.builtin "BaseException.__getattribute__")=Jd from rfl,YC];exact QB) ?_;unfold boundAndCalled;refine YG ?_;rw[PySem.F.attr_ValueError.ga.bind];have k:builtinKind "BaseException.__getattribute__"=Ja .slot:=by decide+kernel
 have p:splitId "BaseException.__getattribute__"=Ja ("BaseException","__getattribute__"):=by decide+kernel
 have T:=PySem.F.args_bexc_ga (.ref x) u;refine YH<|wpAny_call (codeAny_call_builtin PySem.F.attr_ValueError.ga.plain PySem.F.entry_bexc_ga ?_);refine pu (id:="BaseException.__getattribute__") (self:= .ref x) (rest:=[u]) k p T ?_;refine(L.andThen (looks_subIn (M:=Jt prog w) X b):Looks (Jt prog w) U (isInstance (.ref x)<|.type "BaseException") Jc).at ⟨rfl,YI h (λfin s' q=> ?_) λo0 o0 q=>q.elim⟩;obtain⟨v,rfl,q⟩:=q;exact q
theorem sZ{E:Jf->Je->Prop}{Q:Option Jf->Je->Prop}{s:Je}{K:Frag}{x D:Jg}
  (f:dS K D=Jc)(j:findObj K D o "__class__"=Ja (.bind (.builtin "getset_descriptor.__get__")<|.builtin "object.__class__"))(L:mroIn K D (.type "object")=Ja Jc)
  (X:K.In s.heap)(I:InstAt s.heap x ox D o)(h:Q (Ja<|.ref D) {s with toks:=s.toks+1}):Jh (Jt prog w) A (getAttr? (.ref x) "__class__") Q E s:=by
 obtain⟨U,g,d,t,m⟩:=s;unfold getAttr? getAttrBy?;refine YG<|wpAny_mkText (YG<|wpAny_attempt (vZ (s:=⟨U,g,d,t+1,m⟩) f X I ?_));unfold Builtin.«object.__getattribute__»;refine YG<|YH (YG<|YH (YG<|(I.type (M:=Jt prog w)).at (YG<|(looks_find (M:=Jt prog w) X I j).at ?_)));refine YG<|YJ (J8<|class_get (ox:=ox) (od:=o) X I L ?_);exact YH ⟨_,rfl,handed_on rfl<|YH h⟩
theorem mi{K:Frag}{D:Jg}(h:clsIn K D=Ja I):X3 λc d l=>K.lookup D=Ja ⟨c,d,.cls I,l⟩:=by
 unfold clsIn at h
 induction q:K.lookup D with
 |none=>rw[q] at h;exact ns h
 |some o=>
  obtain⟨c,d,t,l⟩:=o;rw[q] at h
  induction t with
  |cls p=>obtain rfl:=sj h;exact⟨c,d,l,rfl⟩
  |_=>exact ns h
theorem uY{K:Frag}{x D:Jg}{ox:Jp}{o:Option Jp}(f:dS K D=Jc):KitX K (.ref x) (.ref D) (λh=>InstAt h x ox D o):=by
 obtain⟨o0,o0,o0,t,a,g,p,m,o0⟩:=lP f;have d:=t;obtain⟨v,c,o0⟩:=any_some d;have S:=c;refine⟨λo0 o0 o0 I=>I.type,λo0 o0 X o0=> ?_,λh u U i n b X W=> ?_,λ{r w A E Q s} X I k=> ?_⟩
 .obtain⟨M,L,l,T⟩:=mi c;intro y P B H k q;unfold isType loadHead;exact YG<|wpAny_loadPart (k _ _<|X _ _ T) (YH q)
 .refine WF.mpr λq=> ?_;have e:D=u:=Value.ref.inj<|beq_iff_eq.mp q;subst e;obtain⟨M,L,l,T⟩:=mi c;have z:=(X _ _ T).symm.trans W;cases z
 .have j:findObj K D o "__class__"=Ja (.bind (.builtin "getset_descriptor.__get__")<|.builtin "object.__class__"):=sx (by rw[S];rfl) a g p;exact sZ f j m X I k
noncomputable abbrev bmV:List Jf:=[.type "ValueError",.type "Exception",.type "BaseException",.type "object"]
inductive EI(B:Ji)(K:Frag)(k:Jg)(names:List String):Prop
 |mk (bm:List Jf) (N:Jg) (nm q:Jq) (bs:List Jf) (sn:List Jq) (sub:List Jf) (ab:Bool) (col:Option Bool) (dd:Option Jg) (k0 k1 k2 k3 k5:Option Jf) (mN:Jq->Option Jf) (fI:Jg) (oI:Jp) (fd:Jr) (body:List Jo)
  (hC:B.get? k=Ja (JE nm q k N bs bm Jc sn sub ab col dd k0 k1 k2 k3 k5 "ValueError.__new__")) (hN:B.Ns N mN) (hi:mN "__init__"=Ja (.ref fI)) (T:J1 B H2 bm) (ho:B.get? fI=Ja oI) (hfc:oI.cls= .type "function") (hd:oI.data= .func fd)
  (cd:B.CodeRec fd.code fd.qualname) (hb:fd.body= .stmts body) (clo:fd.closure=[]) (bind:∀vals:List Jf,vals.length=names.length+1->Y2 fd ⟨vals,[]⟩=pure ((("self"::names).map Qb).zip vals))
  (par:∀x∈"self"::names,fd.scope.names.lookup (Qb x)=Ja .local/\(Qb x==("__debug__":Jq))=Jd) (nd:("self"::names).Nodup) (co:fd.scope.isCoroutine=Jd) (gen:fd.scope.isGenerator=Jd) (kind:fd.scope.kind= .function)
  (mat:EW fd.scope names body=Jc) (sa:findIn K (.ref k) "__setattr__"=Ja (Ja<|.builtin "object.__setattr__")) (len:names≠ []/\names.length<=50):EI B K k names
structure InstK(C:Cx)(G:Gx)(c:String)(k:Jg):Prop where
 ga:findIn C.K (.ref k) "__getattribute__"=Ja (Ja<|.builtin "object.__getattribute__")
 gh:findIn C.K (.ref k) "__getattr__"=Ja Jb
 dct:hasDictIn C.K k=Jc
 fl:∀f∈G.flds c,findIn C.K (.ref k) (Qb f)=Ja Jb
 me:∀f v,bQ f=Jd->cOf f=c->C.fv f=Ja v->∃a,A4 (v= .ref a) (findIn C.K (.ref k) (Qb<|GO f)=Ja (Ja<|.ref a)) (typeIn C.K (.ref a)=Ja (.type "function")) (∀x∈C.flds c,Qb (GO f)≠Qb x)
structure Dm(C:Cx)(G:Gx)(mg mb:Jq->Option Jf):Prop where
 kin:Frag.In C.K C.B
 cls:∀c k,C.cls c=Ja k->mg (Qb c)=Ja (.ref k)
 has:∀c,G.cs.contains c=Jc->∃k,C.cls c=Ja k
 hasM:∀c,G.mks.contains c=Jc->∃k,C.cls c=Ja k
 sub:∀c k d kd,C.cls c=Ja k->C.cls d=Ja kd->exmOne C.K (.ref k) (.ref kd)=Ja (G.sub c d)
 fl:∀c,G.flds c=C.flds c
 flm:∀c,G.mks.contains c=Jc->G.flds c=[]
 fld:∀c k f,C.cls c=Ja k->f∈G.flds c->findIn C.K (.ref k) (Qb f)=Ja Jb
 ini:∀c,G.inis.contains c=Jc->∃k,C.cls c=Ja k/\EI C.B C.K k (G.flds c)
 make:∀c k,C.cls c=Ja k->G.mks.contains c=Jc->OwnCls (Qb c) k bmV "ValueError.__new__" mg C.B
 ins:∀c k,C.icl c=Ja k->InstK C G c k
 cf:∀c k,C.cls c=Ja k->dS C.K k=Jc
 subV:∀c k,C.cls c=Ja k->exmOne C.K (.ref k) (.type "ValueError")=Ja (G.sub c "ValueError")
 valV:C.cls "ValueError"=Jb/\mg (Qb "ValueError")=Jb/\mb (Qb "ValueError")=Ja (.type "ValueError")
theorem Dm.un{C:Cx}{G:Gx}{mg mb:Jq->Option Jf}(X:Dm C G mg mb):Dm C.un G.un mg mb:=⟨X.kin,X.cls,X.has,X.hasM,X.sub,X.fl,X.flm,X.fld,X.ini,X.make,λc k h=>⟨(X.ins c k h).ga,(X.ins c k h).gh,(X.ins c k h).dct,(X.ins c k h).fl,(X.ins c k h).me⟩,X.cf,X.subV,X.valV⟩
noncomputable def iA(C:Cx)(d:String):Jf:=match C.cls d with
 |some k=> .ref k
 |none=> .type "ValueError"
section
variable{C:Cx}{G:Gx}{mg mb:Jq->Option Jf}{n:Nat}{A:Jj}{Er:Jf->Je->Prop}{env:Js}{ρ:CH}{Z:PH}{s:Je}
theorem iV{d:String}(h:G.isCls d=Jc):G.cs.contains d=Jc\/d="ValueError":=by
 simp only[Gx.isCls,WZ,QL,beq_iff_eq] at h;exact h.imp (·.1) id
theorem Dm.exm(X:Dm C G mg mb){c d:String}(σ:C.cls c=Ja k)(v:G.cs.contains d=Jc\/d="ValueError"):exmOne C.K (.ref k) (iA C d)=Ja (G.sub c d):=by
 rcases v with h|rfl
 .obtain⟨z,p⟩:=X.has d h;simp only[iA,p];exact X.sub c k d z σ p
 .simp only[iA,X.valV.1];exact X.subV c k σ
theorem oO(g:D4 C G mg mb)(X:Dm C G mg mb)(e:CU C env ρ Z s.heap)(m:CP C Z s.heap){d:String}{Q:Jf->Je->Prop}(c:G.cs.contains d=Jc\/d="ValueError")
  (l:env.scope.names.lookup (Qb d)=Ja .globalImplicit)(q:bz (Qb d)=Jc)(h:Q (iA C d) s):Jh (Mo C) A (Jw (.Name (Qb d) pos) env) Q Er s:=by
 rcases c with N|rfl
 .obtain⟨k,p⟩:=X.has d N;simp only[iA,p] at h;exact gT g e m l q (X.cls d k p) h
 .simp only[bz,QL,QT] at q;simp only[iA,X.valV.1] at h;refine J6 ?_ q.1;rw[gG e.fn l];refine Calls.loadGlobal_builtin (v:= .type "ValueError") ?_ X.valV.2.1 ?_ X.valV.2.2 h
  .rw[e.glob];exact g.g.keeps m.base
  .rw[e.blt];exact g.b.keeps m.base
theorem lR{K:Frag}{k:Jg}{v:Jf}{b:Bool}(M:dS K k=Jc)(h:exmOne K (.ref k) v=Ja b):kitOne K (.ref k) v=Ja b:=by
 unfold exmOne at h
 split at h
 .unfold kitOne
  split
  .rename_i q
   have e:Value.ref k=v:=beq_iff_eq.mp q;subst e;simp only[dS,QL,beq_iff_eq] at M;have p:=kitCls_self h;rw[M.2] at p;exact p
  .exact h
 .exact ns h
where
 kitCls_self {K:Frag} {k:Jg} {b:Bool} (h:kitCls K (.ref k) (.ref k)=Ja b):mroIn K k (.ref k)=Ja b:=by
  unfold kitCls at h;simp only at h
  split at h
  .exact h
  .exact ns h
theorem rE(X:Dm C G mg mb){c:String}{k:Jg}(σ:C.cls c=Ja k):∀ {ts:List String},(∀d∈ts,G.isCls d=Jc)->kitAny C.K (.ref k) (ts.map (iA C))=Ja (ts.any (G.sub c))
 |[]=>λo0=>rfl
 |d::r=>λh=>by
  have N:=lR (X.cf c k σ)<|X.exm σ (iV<|h d Ko);have p:=rE X σ (ts:=r) λd v=>h d<|Kn _ v;simp only[Qo,kitAny,N,List.any_cons];cases G.sub c d with
  |true=>rfl
  |false=>exact p
theorem pH(g:D4 C G mg mb)(X:Dm C G mg mb)(v:CU C env ρ Z s.heap)(m:CP C Z s.heap)(r:Fg sc env):∀ {ts:List String} {es:List Jl} {R:List Jf->Je->Prop},j9 sc ts es=Jc->(∀d∈ts,G.isCls d=Jc)->
  R (ts.map<|iA C) s->Jh (Mo C) A (J2<|backTo pos (JD es env)) R Er s
 |[],[]=>λo0 o0 h=>Calls.spliced_nil h
 |[],_::_=>λL o0 o0=>by exact ft L
 |_::_,[]=>λL o0 o0=>by exact ft L
 |d::ts,e::es=>λL c h=>by
  replace L:=CL L;obtain⟨py,rfl,B,K⟩:=iQ L.1;rw[ck (λx p q=>by cases q)];show Jh _ _ (J2 ((Jd,Jw (.Name (Qb d) py) env)::JX pos (JD es env))) _ _ s;refine Calls.spliced_cons<|oO g X v m (iV<|c d Ko) (r.glob _ B) K ?_;exact pH g X v m r L.2 (λd W=>c d<|Kn _ W) h
theorem CP.inst{h:Ji}(m:CP C Z h)(e:Z b=Ja (.exc c od)):X3 λW k D=>A3 (h.get? b=Ja W) (C.cls c=Ja k) (InstAt h b W k D):=by
 obtain⟨W,F,k,v,X,u,V,q,N,U⟩:=m.objs _ _ e
 induction od with
 |none=>exact⟨W,k,Jb,F,X,F,u,by simp[notCls,V],by rw[N];trivial⟩
 |some d=>
  obtain⟨f,w⟩:=U d rfl;obtain⟨o,g,o0⟩:=m.objs _ _ w;exact⟨W,k,Ja o,F,X,F,u,by simp[notCls,V],by rw[N];exact g⟩
theorem _root_.PySem.W.InstAt.keeps{h S:Ji}{x D:Jg}(I:InstAt h x ox D od)(k:∀b o,h.get? b=Ja o->S.get? b=Ja o):InstAt S x ox D od:=by
 refine⟨k _ _ I.at_,I.cls,I.no,?_⟩;have:=I.dict;cases N:ox.dict<;>rcases od with⟨⟩<;>rw[N] at this<;>first|exact this|exact k _ _ this
theorem mu(r:VR C Z h p v):Y9 v=pure v:=by
 induction p using PV.casesOn with
 |none=>cases (show v= .none from r);rfl
 |bool b=>cases (show v= .bool b from r);rfl
 |int i=>obtain⟨t,rfl⟩:=r;rfl
 |str i=>obtain⟨t,rfl⟩:=r;rfl
 |tup l=>obtain⟨a,n,w,rfl,o0⟩:=r;rfl
 |ref a=>cases (show v= .ref a from r);rfl
 |scr l=>obtain⟨a,o,n,w,rfl,o0⟩:=r;rfl
theorem xb{c:String}{l:List PV}{o:Jp}{h:Ji}{j:Nat}{f:String}{p:PV}(r:FD C Z h c l o)(E:(C.flds c)[j]? =Ja f)(Y:l[j]? =Ja p):∃v,lookIn (Qb f) o=Ja (Ja v)/\VR C Z h p v:=by
 obtain⟨U,H,e,k,v,o0⟩:=r;obtain⟨u,a,b⟩:=v j f p E Y;refine⟨u,?_,b⟩;unfold nsFind findBy at a;rw[<-Array.find?_toList] at a;obtain⟨d,N,q⟩:=Qt.mp a;unfold lookIn;rw[e];show(match U.toList.find? (·.key.isStr (Qb f)) with
   |some e=>Ja<|Ja e.val
   |none=>if U.toList.any (·.refKey) then Jb else Ja Jb)=_
 rw[N,<-q]
theorem xm(h:pfd G f o=Ja u):X3 λc l j=>A3 (o=Ja (.fd c l)) ((G.flds c).idxOf? f=Ja j) (l[j]? =Ja u):=by
 induction o with
 |none=>exact Dw h
 |some P=>
  induction P with
  |fd c l=>
   obtain⟨j,J,w⟩:=Qn.mp (show((G.flds c).idxOf? f).bind (λj=>l[j]?)=Ja u from h);exact⟨c,l,j,rfl,J,w⟩
  |_=>exact Dw h
theorem ue{E:Jf->Je->Prop}{Q:Jf->Je->Prop}{s:Je}{K:Frag}{x D:Jg}(c:dS K D=Jc)
  (j:findObj K D o f=Ja (.value v))(hv:Y9 v=pure v)(X:K.In s.heap)(I:InstAt s.heap x ox D o)(h:Q v {s with toks:=s.toks+1}):Jh (Jt prog w) A (getAttr (.ref x) f Jc) Q E s:=by
 obtain⟨U,g,d,t,m⟩:=s;unfold getAttr;refine YG<|wpAny_mkText (vZ (s:=⟨U,g,d,t+1,m⟩) c X I ?_);unfold Builtin.«object.__getattribute__»;refine YG<|YH (YG<|YH (YG<|(I.type (M:=Jt prog w)).at (YG<|(looks_find (M:=Jt prog w) X I j).at ?_)));refine YH ⟨v,rfl,?_⟩;rw[hv];exact YH h
theorem vP(h:F5 G Z f v=Ja u):X3 λb d o=>A4 (v= .ref b) (Z b=Ja o) ((∃c,o= .exc c (Ja d))\/o= .inst d) (pfd G f (Z d)=Ja u):=by
 induction v using PV.casesOn with
 |ref b=>
  replace h:pfld G Z f (Z b)=Ja u:=h
  induction e:Z b with
  |none=>rw[e] at h;exact Dw h
  |some o=>
   rw[e] at h
   induction o with
   |exc c d=>
    induction d with
    |none=>exact Dw h
    |some d=>exact⟨b,d,_,rfl,e,.inl ⟨c,rfl⟩,h⟩
   |inst d=>exact⟨b,d,_,rfl,e,.inr rfl,h⟩
   |_=>exact Dw h
 |_=>exact Dw h
theorem n9{K:Frag}{D:Jg}{o:Jp}{f:Jq}{v:Jf}(h:hasDictIn K D=Jc)(i:findIn K (.ref D) f=Ja Jb)(l:lookIn f o=Ja (Ja v)):findObj K D (Ja o) f=Ja (.value v):=by
 obtain⟨I,c,d⟩:=any_some h;unfold findObj;rw[c,KF,i,KF,KF,KF];show(W.ownOf I (Ja o) f).bind _=_;unfold W.ownOf;rw[Ug d];show(lookIn f o).bind _=_;rw[l];rfl
theorem wM{l:List String}(h:l.idxOf? f=Ja j):l[j]? =Ja f:=by
 obtain⟨T,e⟩:=List.idxOf?_eq_some_iff.mp h;rw[Qg T];exact Uj Ja e.1
theorem su{E:Jf->Je->Prop}{Q:Jf->Je->Prop}{s:Je}{K:Frag}{x D:Jg}(a:findIn K (.ref D) "__getattribute__"=Ja (Ja (.builtin "object.__getattribute__")))
  (j:findObj K D o f=Ja (.value v))(hv:Y9 v=pure v)(X:K.In s.heap)(I:InstAt s.heap x ox D o)(h:Q v {s with toks:=s.toks+1}):Jh (Jt prog w) A (getAttr (.ref x) f Jc) Q E s:=by
 refine get_open X I a ?_;obtain⟨H,g,d,t,m⟩:=s;refine YG<|YH (YG<|(I.type (M:=Jt prog w)).at (YG<|(looks_find (M:=Jt prog w) X I j).at ?_));refine YH ?_;show Jh _ _ (Y9 v) _ _ _;rw[hv];exact YH h
theorem sg{o:Jp}(h:∀c,o.data≠ .cls c):notCls o=Jc:=by
 obtain⟨a,b,d,e⟩:=o
 rcases d with⟨⟩<;>first|rfl|exact absurd rfl<|h _
theorem s9(X:Dm C G mg mb){sc:Jk}{x f:String}{q p:Y5}(M:Ds sc (Qb x)=Jc)(h2:bz (Qb x)=Jc):CM C G n sc (.attr x f) (.Attribute (.Name (Qb x) q) (Qb f) p):=λ{env ρ A l Z s Q X'} R w=>by
 refine lp ?_;intro zP zR;have m:=R.m;obtain⟨v,hx,w⟩:=kg (show oV (λv=>oV (λu=>Q u Z)<|F5 G Z f v) (ρ.get x) from w);obtain⟨u,hu,L⟩:=kg w;obtain⟨b,d,po,rfl,T,S,z⟩:=vP hu;obtain⟨N,fs,j,e,i,Y⟩:=xm z;obtain⟨o,J,r⟩:=m.objs _ _ e;have H:(G.flds N)[j]? =Ja f:=wM i;obtain⟨v,h,hv⟩:=xb r ((X.fl N)▸H) Y;rw[arm_eval_Attribute];show Jh (Mo C) A (Jw (.Name (Qb x) q) env>>=_) _ _ s;refine YG (kU R.ev (jK R.sr M) h2 hx λσ B=> ?_);rw[show σ= .ref b from B];refine YG<|YK (YG<|YJ ?_)
 rcases S with⟨c,rfl⟩|rfl
 .obtain⟨W,g,k,vs,P,U,V,k4,O,y⟩:=m.objs _ _ T;obtain⟨E,F⟩:=y d rfl;rw[e] at F;cases F;have I:InstAt s.heap b W k (Ja o):=⟨g,U,by simp[notCls,V],by rw[O];exact J⟩
  have D:=X.cf _ k P;obtain⟨o0,o0,o0,t,o0⟩:=lP D;exact ue D (n9 t (X.fld _ k f P<|QC H) h) (mu hv) (X.kin.keeps m.base) I<|YG (JU (a:=()) rfl<|YH (VP.here m rfl ⟨rfl,rfl⟩ hv L))
 .obtain⟨W,g,ci,k,P,U,V,O,E,F⟩:=m.objs _ _ T;rw[e] at F;cases F;have I:InstAt s.heap b W k (Ja o):=⟨g,U,sg V,by rw[O];exact J⟩
  have K:=X.ins _ k P;exact su K.ga (n9 K.dct (K.fl f<|QC H) h) (mu hv) (X.kin.keeps m.base) I<|YG (JU (a:=()) rfl<|YH (VP.here m rfl ⟨rfl,rfl⟩ hv L))
theorem getM{E:Jf->Je->Prop}{h:Ji}{K:Frag}{x k d a:Jg}{ox:Jp}{pl:Sem Bool}{mm:Jq->Option Jf}{Q:Jf×List Jf->Je->Prop}(X:K.In h)(hx:h.get? x=Ja ox)(σ:ox.cls= .ref k)(O:ox.dict=Ja d)(m:h.Ns d mm)(HE:mm name=Jb)
  (V:findIn K (.ref k) "__getattribute__"=Ja (Ja<|.builtin "object.__getattribute__"))(T:findIn K (.ref k) "__getattr__"=Ja Jb)(f:findIn K (.ref k) name=Ja (Ja<|.ref a))(W:typeIn K (.ref a)=Ja (.type "function"))(q:Q (.ref a,[.ref x]) ⟨h,g,r,t,o⟩):
  Jh (Jt prog w) A (getMethod (.ref x) name pl) Q E ⟨h,g,r,t,o⟩:=by
 have c:=F.canon_object_ga;have U:=looks_findIn (M:=Jt prog w) X V;have z:=looks_findIn (M:=Jt prog w) X T;have R:=looks_findIn (M:=Jt prog w) X f;have p:=looks_typeIn (M:=Jt prog w) X W;unfold getMethod specialOf;have L:Looks (Jt prog w) h (typeOf<|.ref x) (.ref k):=σ▸(Looks.ld hx).andThen .now;refine YG<|YG (L.at<|U.at ?_);simp only[c,Bool.false_eq_true,if_false];refine YG<|YG (L.at<|z.at ?_);refine wn QB ?_;refine YG<|YG (L.at<|R.at ?_);dsimp only;refine YG<|p.at ?_;refine wn (by decide) ?_;refine YG<|wpAny_loadPart_at hx ?_;rw[O];refine YG<|wpAny_nsGet m ?_;rw[HE];refine wn QB ?_;exact YG<|wpAny_rule (YH q)
theorem ul(g:D4 C G mg mb)(X:Dm C G mg mb){sc:Jk}{U py p:Y5}(N:Ds sc (Qb x)=Jc)(h2:bz (Qb x)=Jc)(h5:sc.names.lookup (Qb "isinstance")=Ja .globalImplicit)(h6:bz (Qb "isinstance")=Jc)(J:G9 sc ts t=Jc):
  CM C G n sc (.isx x ts) (.Call (.Name (Qb "isinstance") py) [.Name (Qb x) U,t] [] p):=λ{env ρ A l Z s Q X'} R w=>by
 refine lp ?_;intro zP zR;rw[fi];have H:(∀z q,t≠ .Starred z q):=by
  rintro z q rfl;cases mf J with
  |tup L k p e=>cases e
  |one d e h=>exact D6 h
 have S:(∀z q,Expr.Name (Qb x) U≠ .Starred z q):=λz q e=>by cases e
 refine YG<|gQ g R.ev R.m (R.sr.glob _ h5) h6 (by decide) (v:= .builtin "isinstance") (by decide+kernel) (c8 (first:=[]) ⟨.machine,.inr<|.inl rfl,W.Looks.of_pure rfl⟩ (eU S<|eU H rfl) ?_);rw[ck S,ck H];show Jh _ _ (J2 [(Jd,Jw (.Name (Qb x) U) env),(Jd,Jw t env)]) _ _ s;refine Calls.spliced_cons (Ei.then (tO (G:=G) N h2 (Q:=λv m=>onX m (λc=>ts.all G.isCls=Jc/\Q (.bool<|ts.any (G.sub c)) m) v) R w) λv1 D p1 m u B P M w=> ?_);obtain⟨b,c,od,rfl,T,f,j⟩:=xM w;have f:∀d∈ts,G.isCls d=Jc:=λd a=>Qx.mp f d a;change _=_ at u;subst u;obtain⟨ob,k,o,e2,E,I⟩:=B.inst T;have σ:KitX C.K (.ref b) (.ref k) (λh=>InstAt h b ob k o):=uY<|X.cf c k E;have i:Frag.In C.K D.heap:=X.kin.keeps B.base;cases mf J with
 |tup L K pp et O aa r=>
  subst et;refine Calls.spliced_cons<|wpAny_Tuple_spliced (pH g X (R.ev.step P) B R.sr O f ⟨?_,Calls.spliced_nil ⟨λy F q=>Qs _<|B.base y F q,?_⟩⟩)
  .rw[Qd,<-lA O];exact Qq r<|by decide
  .refine kia_tup (s:={D with heap:=D.heap.push _}) σ (i.keeps λy F q=>Qs _ q) (I.keeps λy F q=>Qs _ q) (QK _ rfl) (rE X E f) (by simp) λtk=> ?_;exact⟨.bool _,m,rfl,B.push _,P.trans<|.push _ _ _ _,M.trans ⟨rfl,rfl⟩,j⟩
 |one d ed O=>
  subst ed;obtain⟨pd,rfl,h7,Y⟩:=iQ O;refine Calls.spliced_cons<|oO g X (R.ev.step P) B (iV<|f d Ko) (R.sr.glob _ h7) Y (Calls.spliced_nil ⟨B.base,?_⟩);have K:=lR (X.cf c k E)<|X.exm E (iV<|f d Ko);refine kia_one σ i I K (by simp) λtk=> ?_;have V:Q (.bool<|G.sub c d) m:=by simpa using j
  exact⟨.bool _,m,rfl,B,P,M.trans ⟨rfl,rfl⟩,V⟩
end
end
section
open PySem.W PyProof.Rows
section
variable{C:Cx}{G:Gx}{mg mb:Jq->Option Jf}{n:Nat}
theorem sQ{E:Jf->Je->Prop}{a pos:Y5}{args:List Jl}{Q:Jf->Je->Prop}(O:attributeBase o name env (Jw o env)=Jw o env)
  (f:methodCallForm (args.length+([]:List Keyword).length) (JX pos<|starEach args env) (Y1 pos<|keywordEach [] env)=Jc)(l:(a.endLine==pos.line)=Jc)
  (h:Jh (Jt prog w) A (Jw o env) (λv m=>∀pl:Sem Bool,Jh (Jt prog w) A (getMethod v name pl) (λr b=>Jh (Jt prog w) A (callWith pos r.1 r.2 (JX pos<|starEach args env)<|backToKw pos (J3 [] env)) Q E b) E m) E s):
  Jh (Jt prog w) A (Jw (.Call (.Attribute o name a) args [] pos) env) Q E s:=by
 rw[arm_eval_Call,O];refine YG (YI h (λv m V=> ?_) λo0 o0 e=>e);refine YG<|YK ?_;have M:methodCallPos Jc o env a pos=pure pos:=by unfold methodCallPos;simp[l]
 unfold methodCall;rw[f];refine YG<|YJ (YI (V _) (λr b p=> ?_) λo0 o0 e=>e);exact YG<|wpAny_of_eq M p
theorem ux{as:List Jl}(h:eC as=Jc)(l:as.length<=20):methodCallForm (as.length+([]:List Keyword).length) (JX pos (JD as env)) (Y1 pos (J3 [] env))=Jc:=by
 have s:=jd (pos:=pos) (env:=env) h;show((JX pos<|starEach as env).all (λx=> !x.1)&&Jc&&decide (as.length+0+0<30))=Jc;rw[<-List.not_any_eq_all_not,s,Uc (show as.length+0+0<30 from Ga l rfl)];rfl
theorem qb(g:D4 C G mg mb)(X:Dm C G mg mb){args:List E}{as:List Jl}{p q:Y5}(ho:CM C G n sc o y)(Y:ei y=Jc)(S:(p.endLine==q.line)=Jc)(J:EQ C G n sc args as)(h4:as.length<=20)(h6:bQ f=Jd)(h7:cOf f=c):CM C G n sc (.mcall c f o args) (.Call (.Attribute y (Qb (GO f)) p) as [] q):=λ{H ρ A l Z s Q X'} I w=>by
 refine lp ?_;intro zP zR;obtain⟨v,hv,kp⟩:=g.fn f w.1;refine sQ (jl Y) (ux J.plain h4) S ?_;refine Ei.then (ho I w.2) λv1 s1 p1 aa h m t r σ=> ?_;obtain⟨b,d,fs,rfl,e1,D⟩:=xf σ.1;rw[show v1= .ref b from h];obtain⟨ob,R,ci,k,P,k2,k3,k5,ab,N⟩:=m.objs _ _ e1;rw[D] at N;cases N;obtain⟨od,K,j,ep,W,hk,o0,u⟩:=m.objs _ _ D;obtain⟨a,rfl,B,f2,f3⟩:=(X.ins _ k P).me f v h6 h7 hv;intro pl;obtain⟨hh,gg,dr,tk,os⟩:=s1;refine getM (X.kin.keeps m.base) R k2 k5 (mm:=λz=>nsFind j z) ⟨od,j,ep,K,W,hk,λo0=>rfl⟩ (u _ f3) (X.ins _ k P).ga (X.ins _ k P).gh B f2 ?_;refine c8 (first:=[.ref b]) kp J.plain ?_;refine YI (jL J (I.step t m) σ.2) (λO s2 T=> ?_) λo0 o0 x=>XP.from t r x;obtain⟨ps,L,U,F,V,M,hn,i⟩:=T;obtain⟨v',e,o0,w3⟩:=i;obtain rfl:=sj<|hv.symm.trans e;exact⟨F.base,YI (w3 A l s2 (.ref b::O) ((I.ak.step t).step V) F ⟨.ref b,O,rfl,rfl,U⟩) (λo0 o0 x=>VP.from t r<|VP.from V M x) λo0 o0 x=>XP.from t r<|XP.from V M x⟩
end
end
section
open PySem.W PyProof.Rows
section
variable{C:Cx}{G:Gx}{mg mb:Jq->Option Jf}{n:Nat}{A:Jj}{env:Js}{ρ:CH}{Z:PH}{s:Je}{l:List Js}
theorem dZ{h:Ji}(m:CP C Z h)(n:h.get? e=Jb):C.B.get? e=Jb/\Z e=Jb:=by
 constructor
 .induction q:C.B.get? e with
  |none=>rfl
  |some o=>exact ns<|n.symm.trans (m.base e o q)
 .induction q:Z e with
  |none=>rfl
  |some o=>obtain⟨b,z,o0⟩:=m.objs e o q;exact ns<|n.symm.trans z
inductive EJ(h:Ji)(k:Jg):Prop
 |mk (nm q:Jq) (N:Jg) (bs bm:List Jf) (hdct:Bool) (sn:List Jq) (sub:List Jf) (ab:Bool) (col:Option Bool) (dd:Option Jg) (k0 k1 k2 k3 k5:Option Jf) (newId:String) (hC:h.get? k=Ja (JE nm q k N bs bm hdct sn sub ab col dd k0 k1 k2 k3 k5 newId)) (hb:bm.contains (.type "BaseException")=Jc):EJ h k
theorem EJ.keeps{h S:Ji}(x:EJ h k)(kp:∀b o,h.get? b=Ja o->S.get? b=Ja o):EJ S k:=by
 obtain⟨nm,q,N,bs,m,d,sn,sub,a,c,f,W,P,U,F,O,e,M,R⟩:=x;exact⟨nm,q,N,bs,m,d,sn,sub,a,c,f,W,P,U,F,O,e,kp _ _ M,R⟩
theorem EJ.kp(x:EJ C.B k):Kp C (.ref k):=by
 obtain⟨nm,B,N,bs,m,h,sn,sub,a,c,d,S,P,U,F,O,e,M,b⟩:=x;exact⟨.machine,.inr<|.inl rfl,λA Q E s kp q=>wpAny_keeperOf_exc (kp _ _ M) q⟩
inductive RP(k:Jg)(E:Jf->Je->Prop)(v:Jf)(s:Je):Prop
 |mk (e t:Jg) (dx:Option Jg) (hv:v= .ref e) (x:EJ s.heap k) (he:s.heap.get? e=Ja {cls:= .ref k,dict:=dx,data:= .fields #[.ref t,.none,.none,.none,.bool Jd,.none]}) (hE:E (.ref e) s):RP k E v s
theorem qv{E:Jf->Je->Prop}{Q:Flow->Je->Prop}(U:A.handled=Jb)(h:Jh M A x (RP k E) E s):
  Jh M A (raiseStmt env (Ja x) Jb) Q E s:=by
 unfold raiseStmt;refine YG (YI h (λv m V=> ?_) λo0 o0 x=>x);obtain⟨e,t,u,rfl,x,O,I⟩:=V;obtain⟨nm,q,N,bs,σ,y,sn,sub,a,o,f,S,P,X,F,T,w,i,b⟩:=x;have c:(Value.ref k::σ).contains (.type "BaseException")=Jc:=by rw[KZ,b,Bool.or_true]
 obtain⟨p,g,d,tk,R⟩:=m
 repeat (first|with_reducible refine Jy O ?_|with_reducible refine Jy i ?_|(with_reducible refine YX i ?_;rw[c])|wp_step)
 exact wpAny_raiseNew_none U I
theorem vW{E:Jf->Je->Prop}{Q:Flow->Je->Prop}(U:A.handled=Jb)(h:Jh M A (Jw e env) (RP k E) E s):Jh M A (exec (.Raise (Ja e) Jb pos) env) Q E s:=by
 rw[arm_exec_Raise];exact YG<|YK (qv U<|YG (YI h (λv p B=>YG<|YK (YH B)) λo0 o0 x=>x))
inductive RM(C:Cx)(c:String)(k:Jg)(ps:List PV)(Z:PH)(h₀:Ji)(s:Je)(v:Jf)(s':Je):Prop
 |mk (e t:Jg) (dx:Option Jg) (hv:v= .ref e) (new:s.heap.get? e=Option.none) (go:s'.heap.get? e=Ja {cls:= .ref k,dict:=dx,data:= .fields #[.ref t,.none,.none,.none,.bool Jd,.none]})
  (keep:∀b o,s.heap.get? b=Ja o->s'.heap.get? b=Ja o) (rest:CS s s') (ff:FF C ⟨c,ps⟩ Z h₀ s'.heap dx):RM C c k ps Z h₀ s v s'
theorem RM.raise{m j:Je}(r:RM C c k ps Z1 s.heap m v j)(x:EJ C.B k)(h:C.cls c=Ja k)(B:CP C Z1 m.heap)(P:CF CC Z s.heap Z1 m.heap)(f:CS s m)(W:CU C env ρ Z s.heap)(a:Dy C n A l Z s.heap)(w:X ⟨c,ps⟩ ρ Z1):RP k (SX C n A l env Z s X) v j:=by
 obtain⟨e,t,d,rfl,new,g,keep,y,H⟩:=r;have V:CF CC Z s.heap Z1 j.heap:=P.trans<|.more keep;exact⟨e,t,d,rfl,x.keeps λb o q=>keep b o<|B.base b o q,g,⟨c,ps⟩,ρ,Z1,⟨e,_,_,k,rfl,(dZ B new).1,(dZ B new).2,P.live e new,g,h,rfl,rfl,rfl,.inl rfl,H⟩,W.step V,B.more keep,V.own,f.trans y,a.step V,w⟩
def MkOK(C:Cx)(G:Gx)(n:Nat)(c:String)(k:Jg)(N:Nat):Prop:=∀ (A:Jj) (l:List Js) (Z T:PH) (s m:Je) (p:List PV) (v:List Jf) (E:Jf->Je->Prop),Dy C n A l Z s.heap->CZ C T m.heap p v->CP C T m.heap->CF CC Z s.heap T m.heap->p.length=N->v.length<=JJ->
 Jh (Mo C) A (call (.ref k) v) (RM C c k (p.take (G.flds c).length) T s.heap m) E m
theorem ma(g:D4 C G mg mb)(X:Dm C G mg mb)(h:C.calm){args:List E}(M:C.cls c=Ja k)(x:EJ C.B k)(mk:MkOK C G n c k args.length){sc:Jk}{as:List Jl}{py p q:Y5}(B:sc.names.lookup (Qb c)=Ja .globalImplicit)(W:bz (Qb c)=Jc)(J:as.length<=20)(a:EQ C G n sc args as):
  EH C G n sc (.raise c args) (.Raise (Ja<|.Call (.Name (Qb c) py) as [] p) Jb q):=λ{env ρ A l Z s Q F} I w=>by
 refine vW (k:=k) (I.ak.calm h) ?_;rw[fi];refine YG<|gT g I.ev I.m (I.sr.glob _ B) W (X.cls c k M) (c8 (first:=[]) x.kp a.plain ?_);refine YI (jL a I.toAt w.2) (λj D T=> ?_) λo0 o0 x=>XP.stmt I.ev I.ak x;obtain⟨i,O,hv,m,t,f,o,w⟩:=T;have H:j.length<=JJ:=by rw[hv.length,o,<-a.length];exact Qq J<|by decide
 exact⟨m.base,YI (mk _ _ _ _ _ _ _ _ _ I.ak hv m t o H) (λv R r=>r.raise x M m t f I.ev I.ak w) λo0 o0 x=>x⟩
theorem oS(g:D4 C G mg mb)(X:Dm C G mg mb)(a:C.calm){args:List E}(w:G.mks.contains c=Jc){sc:Jk}{as:List Jl}{py p q:Y5}(d:sc.names.lookup (Qb c)=Ja .globalImplicit)(W:bz (Qb c)=Jc)(J:as.length<=20)(D:EQ C G n sc args as):EH C G n sc (.raise c args) (.Raise (Ja (.Call (.Name (Qb c) py) as [] p)) Jb q):=by
 obtain⟨k,x⟩:=X.hasM c w;obtain⟨H,N,nm,B,bs,h,sn,sub,b,o,f,S,Y,U,F,K,u,M,j,i,T⟩:=(X.make c k x w).obj;refine ma g X a x ⟨nm,B,N,bs,H,h,sn,sub,b,o,f,S,Y,U,F,K,_,M,T.hasType<|by decide+kernel⟩ ?_ d W J D;intro A l Z O s σ z v E y hv m P I r;refine wpAny_call_exc_subT (hrest:=r) PySem.F.excBase_ValueError (T.keeps m.base) (m.base _ _ M) (j.keeps m.base) i λR e hx=> ?_;obtain⟨t,L,V,Q⟩:=hx.there;exact⟨e,t,_,rfl,hx.new,L,hx.keeps,⟨rfl,rfl⟩,.no (by rw[X.flm c w];rfl) rfl⟩
end
end
section
open PySem.W PyProof.Rows
theorem vH(h:EW sc [] b=Jc):b=[]:=by
 induction b using List.casesOn with
 |nil=>rfl
 |cons=>exact ft h
theorem so(h:EW sc (x::xs) b=Jc):
  X5 λo U J B r=>b= .Assign [.Attribute (.Name (Qb "self") o) (Qb x) U] (.Name (Qb x) J) B::r/\EW sc xs r=Jc:=by
 induction b using List.casesOn with
 |nil=>exact ft h
 |cons y T=>
  obtain⟨Y,Q⟩:=CL (show(Gf (Hb x<|EC (Ds sc) "self") (EC (Ds sc) x) y&&EW sc xs T)=Jc from h);refine pD (P:=λy=>X5 λo U J B r=>y::T= .Assign [.Attribute (.Name (Qb "self") o) (Qb x) U] (.Name (Qb x) J) B::r/\EW sc xs r=Jc) Y λt v s H O=> ?_;refine wq (P:=λt=>X5 λo U J B r=> .Assign [t] v s::T= .Assign [.Attribute (.Name (Qb "self") o) (Qb x) U] (.Name (Qb x) J) B::r/\EW sc xs r=Jc) H λz p n o0 o0=> ?_;refine iy (P:=λz=>X5 λo U J B r=> .Assign [.Attribute z (Qb x) p] v s::T= .Assign [.Attribute (.Name (Qb "self") o) (Qb x) U] (.Name (Qb x) J) B::r/\EW sc xs r=Jc) n λq o0 o0=> ?_;exact iy (P:=λv=>X5 λo U J B r=> .Assign [.Attribute (.Name (Qb "self") q) (Qb x) p] v s::T= .Assign [.Attribute (.Name (Qb "self") o) (Qb x) U] (.Name (Qb x) J) B::r/\EW sc xs r=Jc) O λσ o0 o0=>⟨_,_,_,_,_,rfl,Q⟩
noncomputable def H4(m:Jq->Option Jf)(names:List String)(v:Jq->Option Jf):Jq->Option Jf:=names.foldl (λa x=>λy=>if y=Qb x then m (Qb x) else a y) v
theorem jS(m:Jq->Option Jf)(x:String)(xs:List String)(v:Jq->Option Jf):H4 m (x::xs) v=H4 m xs (λy=>if y=Qb x then m (Qb x) else v y):=rfl
theorem oy(m:Jq->Option Jf):∀ (names:List String) (v:Jq->Option Jf) (y:Jq),(y∈names.map Qb\/v y=m y)->H4 m names v y=m y
 |[]=>λv y h=>by rcases h with h|h;cases h;exact h
 |x::s=>λv y h=>by
  rw[jS];refine oy m s _ y ?_;by_cases e:y=Qb x
  .exact .inr<|by rw[Ug e,e]
  .refine h.imp (λh=> ?_) λh=>by rw[Uf e];exact h
   rcases Qw.mp h with h|h
   .exact absurd h e
   .exact h
theorem rM(m:Jq->Option Jf):∀ (names:List String) (v:Jq->Option Jf) (y:Jq),(∀f∈names,y≠Qb f)->v y=Jb->H4 m names v y=Jb
 |[]=>λv y o0 h=>h
 |x::s=>λv y q h=>by
  rw[jS];refine rM m s _ y (λf j=>q f<|.tail _ j) ?_;rw[Uf (q x<|.head _)];exact h
section
variable{prog:Jn}{w:Jm}{A:Jj}{E:Jf->Je->Prop}
variable{nm q:Jq}{C N x:Jg}{bs bm:List Jf}{sn:List Jq}{sub:List Jf}{ab:Bool}{col:Option Bool}{dd:Option Jg}{k0 k1 k2 k3 k5:Option Jf}{newId:String}
structure Made(h₀:Ji)(e C:Jg)(vs:Array Jf)(mA:Jq->Option Jf)(h:Ji):Prop where
 keep:∀b o,b≠e->h₀.get? b=Ja o->h.get? b=Ja o
 inst:h.Inst e C mA
 obj:∃dx,h.get? e=Ja {cls:= .ref C,dict:=dx,data:= .fields vs,slots:= #[]}
 own:∀o dx,h.get? e=Ja o->o.dict=Ja dx->h₀.get? dx=Jb
theorem pr{env:Js}{m:Jq->Option Jf}{h₀ B:Ji}(j:env.scope.kind= .function)(hl:env.kindOf (Qb "self")=Ja .local)(R:env.locals=L)(hs:m (Qb "self")=Ja (.ref e))
  (n:h₀.Ns L m)(G:L≠e)(T:J1 B H2 bm)(u:B.get? C=Ja (JE nm q C N bs bm Jc sn sub ab col dd k0 k1 k2 k3 k5 newId))
  (Ls:Looks (Jt prog w) B (JZ (.ref C) "__setattr__") (Ja<|.builtin "object.__setattr__"))(c:∀b o,B.get? b=Ja o->b≠e/\h₀.get? b=Ja o){Q:Flow->Je->Prop}:
  ∀ (names:List String) (body:List Jo) (K:Jq->Option Jf) (ns:List Jq) (s:Je),EW sc names body=Jc->Made h₀ e C vs K s.heap->Within K ns->ns.length+names.length<=100->
   (∀x∈names,env.kindOf (Qb x)=Ja .local/\(∃v,m (Qb x)=Ja v)/\((Qb x==("__debug__":Jq))=Jd)/\Looks (Jt prog w) B (JZ (.ref C)<|Qb x) Jb)->
   (∀W tk,Made h₀ e C vs (H4 m names K) W->Q .next {s with heap:=W,toks:=tk})->Jh (Jt prog w) A (execs body env) Q E s
 |[]=>λbody K ns s D M H J hx k=>by
  rw[vH D];exact JK<|k s.heap s.toks M
 |x::xs=>λbody K ns s D M H J hx k=>by
  obtain⟨p1,p2,p3,p4,r,rfl,i⟩:=so D;obtain⟨x1,⟨v,O⟩,x3,x4⟩:=hx x<|.head _;have hn:=n.at' λo σ=>M.keep L o G σ;refine J5<|plainObj_wpAny_Assign_Attribute ?_ ?_
  .refine J6 (YU j x1 (R▸hn) O ?_) x3;refine J6 (YU j hl (R▸hn) hs ?_) (by decide+kernel);obtain⟨h,g,d,tk,os⟩:=s;have p:∀b o,B.get? b=Ja o->h.get? b=Ja o:=λb o σ=>M.keep b o (c b o σ).1 (c b o σ).2;refine s0 (ns:=ns) (T.keeps p) (p _ _ u) (x4.keeps p) (Ls.keeps p) M.inst (λW Y S=> ?_) H (by rw[JV];exact D8 (KG _ _)<|FS J rfl);refine pr (vs:=vs) j hl R hs n G T u Ls c xs r (λy=>if y=Qb x then Ja v else K y) (Qb x::ns) {heap:=W,gens:=g,drawn:=d,toks:=Y,os:=os} i ?_ (Within.cons _ v H) (by simp only[KW] at J ⊢;exact D8 (QV<|QI _ _ _) J) (λy hy=>hx y<|.tail _ hy) (λI t M'=> ?_)
   .refine⟨λb o a σ=>S.keep b o a (λU l P F q=> ?_)<|M.keep b o a σ,S.inst,?_,λo l σ ed=> ?_⟩
    .subst q;rw[M.own U _ P F] at σ;cases σ
    .obtain⟨d0,h0⟩:=M.obj;obtain⟨⟨c1,d1,aa,ac⟩,P,F,V,e4,o0⟩:=S.obj _ h0;refine⟨d1,?_⟩;rw[P];simp only at F V e4;rw[F,V,e4]
    .obtain⟨o',f,o0⟩:=M.inst
     rcases S.fresh o l σ ed with q|⟨U,q1,q2⟩
     .induction z:h₀.get? l with
      |none=>rfl
      |some oz=>
       by_cases X:l=e
       .subst X;rw[f] at q;cases q
       .rw[M.keep l oz X z] at q;cases q
     .exact M.own U l q1 q2
   .rw[jS,O] at k;exact k I t M'
  .rfl
theorem lY{h:Ji}{d:Drawn}(T:J1 h H2 bm){m:Jq->Option Jf}{rest:List Jf}{S:Jp}{Q:Fin->Je->Prop}
  (M:h.get? C=Ja (JE nm q C N bs bm y sn sub ab col dd k0 k1 k2 k3 k5 "ValueError.__new__"))(n:h.Ns N m)(hi:m "__init__"=Ja (.ref I))(p:h.get? I=Ja S)(f:S.cls= .type "function")
  (z:∀W e,Heap.MadeExcOf h W e (.ref C) rest->Jh (Jt prog w) A (call (.ref I) (.ref e::rest)) (λr s'=>r= .none/\Q (.done<|.ret (.ref e)) s') E ⟨W,g,d,t,s⟩)(hrest:rest.length<=JJ):
  Jh (Jt prog w) A (Builtin.«type.__call__» ⟨.ref C::rest,[]⟩) Q E ⟨h,g,d,t,s⟩:=by
 have F:=PySem.F.excBase_ValueError
 repeat (first|with_reducible refine Jy M ?_|with_reducible refine wpAny_madeBy_exc M ?_|wp_step)
 refine codeAny_call_builtin_code (Code.quiet_builtin _ F.quiet) (wpAny_check_new_subT F T M ?_);refine codeAny_exc_new_subT F T M ?_ hrest;show Jh _ _ _ _ _ _;have kp:∀b o,h.get? b=Ja o->((h.push {cls:= .type "tuple",data:= .seq rest.toArray}).push {cls:= .ref C,data:= .fields #[.ref h.objs.size,.none,.none,.none,.bool Jd,.none]}).get? b=Ja o:=λb o e=>Qs _ (Qs _ e);have l:=kp _ _ M;have c:((h.push {cls:= .type "tuple",data:= .seq rest.toArray}).push
   {cls:= .ref C,data:= .fields #[.ref h.objs.size,.none,.none,.none,.bool Jd,.none]}).get? (h.objs.size+1)=Ja
   {cls:= .ref C,data:= .fields #[.ref h.objs.size,.none,.none,.none,.bool Jd,.none]}:=by heap_get
 have i:(Value.ref C::bm).contains (.ref C)=Jc:=by simp
 unfold isInstance
 repeat (first|with_reducible refine Jy c ?_|(with_reducible refine YX l ?_;rw[i])|wp_step)
 show Jh _ _ (JZ (.ref C) _) _ _ _;refine wpAny_typeLookup_tail l (n.keeps kp) (T.keeps kp) F.mroIs F.init.lookup ?_;rw[hi];refine YJ<|YG ?_;unfold bindSpecial;refine YG<|wpAny_typeOf (T:="function") ⟨_,kp _ _ p,f⟩ ?_;rw[Ug (by decide)];refine YH<|YG (YI (z _ (h.objs.size+1) ⟨kp,WK<|Wf _,h.objs.size,c,WK<|Qz _,?_⟩) (λr s' σ=> ?_) λo0 o0 x=>x)
 .exact Qs _<|Heap.get?_push_at rfl rfl
 .obtain⟨rfl,X⟩:=σ
  wp_walk
  exact X
theorem vg{h:Ji}{d:Drawn}(T:J1 h H2 bm){m:Jq->Option Jf}{rest:List Jf}{V:Jp}{Q:Jf->Je->Prop}
  (M:h.get? C=Ja (JE nm q C N bs bm c sn sub ab col dd k0 k1 k2 k3 k5 "ValueError.__new__"))(n:h.Ns N m)(hi:m "__init__"=Ja (.ref I))(p:h.get? I=Ja V)(f:V.cls= .type "function")
  (z:∀S e,Heap.MadeExcOf h S e (.ref C) rest->
   Jh (Jt prog w) (A.under (.builtin "type.__call__" ⟨.ref C::rest,[]⟩)) (call (.ref I) (.ref e::rest)) (λr s'=>r= .none/\Q (.ref e) s') E ⟨S,g,d,t,o⟩)(hrest:rest.length<=JJ):
  Jh (Jt prog w) A (call (.ref C) rest) Q E ⟨h,g,d,t,o⟩:=by
 have B:=tc_lookup;have R:=tc_bind<|.ref C;have Y:(⟨h,g,d,t,o⟩:Je).TypeIs (.ref C) "type":=⟨_,M,rfl⟩
 refine J8<|codeAny_of_tree ?_;show Jh _ _ (callAny (.ref C) _) _ _ _
 repeat (any_goals (first|assumption|with_reducible refine Jy M ?_|wp_step))
 refine⟨rfl,?_⟩;refine codeAny_call_builtin_at (Code.quiet_builtin _<|by decide+kernel) entry_typeCall<|wpAny_check_type_call_sub M (lY T M n hi p f (λS e L=> ?_) hrest);exact z S e L
end
section
theorem l0{h S:Ji}(k:∀b o,h.get? b=Ja o->S.get? b=Ja o)(n:S.get? e=Jb):h.get? e=Jb:=by
 induction q:h.get? e with
 |none=>rfl
 |some o=>exact ns<|n.symm.trans (k e o q)
theorem zf{C:Cx}{H D Y:Ji}{fl:List String}{ps:List PV}{m:Jq->Option Jf}(j:fl=C.flds c)(U:fl≠ [])(l:ps.length=fl.length)(k:(g=Jb/\∀n,m n=Jb)\/∃d,g=Ja d/\d≠e/\Y.Ns1 d m)
  (L:∀ (i:Nat) f v,fl[i]? =Ja f->vs[i]? =Ja v->m (Qb f)=Ja v)(hv:CZ C Z1 D ps vs)(kp:∀p v,VR C Z1 D p v->VR C Z1 Y p v)(T:∀x,(∀f∈fl,x≠Qb f)->m x=Jb)(r:∀d,g=Ja d->A3 (C.B.get? d=Jb) (Z1 d=Jb) (H.get? d=Jb)):FF C ⟨c,ps⟩ Z1 H Y g:=by
 have K:ps≠ []:=λq=>U<|List.eq_nil_of_length_eq_zero (l.symm.trans<|congrArg YF q)
 rcases k with⟨o0,F⟩|⟨d,rfl,o0,P,b,I,o,X,s,o0,S⟩
 .exfalso;obtain⟨z,zs,rfl⟩:=WO U;obtain⟨p,σ,rfl⟩:=WO K;obtain⟨v,h,o0⟩:=hv.get 0 p rfl;exact ns<|(F _).symm.trans (L 0 z v rfl h)
 .obtain⟨B,Q,G⟩:=r d rfl;refine .at_ K d P rfl B Q G o ⟨b,I,X,s,λi f p D Y=> ?_,λx q=>(S x).trans (T x λf R=>q f<|j▸R)⟩;obtain⟨v,h,a⟩:=hv.get i p Y;exact⟨v,(S _).trans (L i f v (j▸D) h),kp _ _ a⟩
theorem AG(h:a+n+2<L):a+1<L:=Ka (Kk (KG a n)<|by decide) h
theorem xi(q:n<=50):([]:List Jq).length+n<=100:=(KR n).symm▸Qq q (by decide)
theorem EI.ex{B:Ji}{K:Frag}{k:Jg}{names:List String}(x:EI B K k names):EJ B k:=by
 obtain⟨bm,N,nm,q,bs,sn,sub,ab,col,dd,k0,k1,k2,k3,k5,m,I,o,f,b,h,a,i,T⟩:=x;exact⟨nm,q,N,bs,bm,Jc,sn,sub,ab,col,dd,k0,k1,k2,k3,k5,_,h,T.hasType<|by decide+kernel⟩
inductive IM(h₁:Ji)(e k:Jg)(names:List String)(vs:List Jf)(s₁ s₂:Je):Prop
 |mk (t:Jg) (dx:Option Jg) (mA:Jq->Option Jf) (go:s₂.heap.get? e=Ja {cls:= .ref k,dict:=dx,data:= .fields #[.ref t,.none,.none,.none,.bool Jd,.none]}) (keep:∀b o,b≠e->h₁.get? b=Ja o->s₂.heap.get? b=Ja o)
  (hdi:(dx=Option.none/\∀n,mA n=Option.none)\/∃d,dx=Ja d/\d≠e/\s₂.heap.Ns1 d mA) (own:∀d,dx=Ja d->h₁.get? d=Option.none) (hm:∀ (i:Nat) f v,names[i]? =Ja f->vs[i]? =Ja v->mA (Qb f)=Ja v) (ho:∀x,(∀f∈names,x≠Qb f)->mA x=Option.none) (rest:CS s₁ s₂):IM h₁ e k names vs s₁ s₂
theorem IM.rm{C:Cx}{W:Ji}{s m u l:Je}{names:List String}{ps:List PV}(i:IM W e k names vs u l)(R:CS m u)(kp:∀b o,m.heap.get? b=Ja o->W.get? b=Ja o)(new:m.heap.get? e=Jb)(B:CP C Z1 m.heap)(P:CF CC Z s.heap Z1 m.heap)(hv:CZ C Z1 m.heap ps vs)(f:names=C.flds c)(n:names≠ [])(T:ps.length=names.length):RM C c k (ps.take names.length) Z1 s.heap m (.ref e) l:=by
 obtain⟨t,D,v,g,keep,h,own,L,a,y⟩:=i;have p:∀b o,m.heap.get? b=Ja o->l.heap.get? b=Ja o:=λb o q=>keep b o (λz=>ns<|new.symm.trans (z▸q))<|kp b o q;rw[List.take_of_length_le (QV T)];refine⟨e,t,D,rfl,new,g,p,R.trans y,zf f n T h L hv (λo0 o0 r=>r.step<|CF.more (S:=CC) p) a λd q=> ?_⟩;have dH:=l0 kp<|own d q;exact⟨(dZ B dH).1,(dZ B dH).2,P.live _ dH⟩
theorem vT{C:Cx}{A:Jj}{nm q:Jq}{bs bm:List Jf}{sn:List Jq}{sub:List Jf}{oI:Jp}{S:Jr}{names:List String}{vs:List Jf}{s:Je}{E:Jf->Je->Prop}
  (kB:∀b o,C.B.get? b=Ja o->b≠e/\s.heap.get? b=Ja o)(K:s.heap.get? e=Ja {cls:= .ref k,data:= .fields #[.ref t,.none,.none,.none,.bool Jd,.none]})(P:A.depth<J0)(y:C.B.NoLimit)(V:vs.length=names.length)(j:Frag.In C.K C.B)(U:∀f∈names,findIn C.K (.ref k) (Qb f)=Ja Jb)
  (hC:C.B.get? k=Ja (JE nm q k N bs bm Jc sn sub ab col dd k0 k1 k2 k3 k5 newId)) (T:J1 C.B H2 bm) (af:C.B.get? I=Ja oI) (aj:oI.data= .func S) (an:C.B.CodeRec S.code S.qualname) (J:S.body= .stmts body) (σ:S.closure=[]) (l:Y2 S ⟨.ref e::vs,[]⟩=pure ((("self"::names).map Qb).zip (.ref e::vs)))
  (h:∀x∈"self"::names,S.scope.names.lookup (Qb x)=Ja .local/\(Qb x==("__debug__":Jq))=Jd) (ad:("self"::names).Nodup) (am:S.scope.isCoroutine=Jd) (Q:S.scope.isGenerator=Jd) (O:S.scope.kind= .function)
  (D:EW S.scope names body=Jc) (ae:findIn C.K (.ref k) "__setattr__"=Ja (Ja<|.builtin "object.__setattr__")) (u:names.length<=50):
  Jh (Mo C) A (call (.ref I) (.ref e::vs)) (λr s'=>r= .none/\IM s.heap e k names vs s s') E s:=by
 refine lp ?_;intro zP zR;have p:∀b o,C.B.get? b=Ja o->s.heap.get? b=Ja o:=λb o q=>(kB b o q).2;refine J8<|codeAny_call_cells P (p _ _ af) aj (y.keeps p) (an.keeps p) J l σ (λx al=> ?_) (λm X=> ?_) am Q O
 .have aa:x.1∈("self"::names).map Qb:=(KC (show(x.1,x.2)∈_ from al)).1;obtain⟨z,R,ez⟩:=Ql.mp aa;rw[<-ez];exact .inl (h z R).1
 generalize L:callEnvC S s.heap.objs.size I=n at X ⊢;have c:n.locals=s.heap.objs.size:=by rw[<-L];rfl
 have g:∀x,n.kindOf x=S.scope.names.lookup x:=λx=>by rw[<-L];rfl
 have ah:n.scope.kind= .function:=by rw[<-L];exact O
 have kp:∀b o,s.heap.get? b=Ja o->m.heap.get? b=Ja o:=X.toInCall.keep;have a:∀i z v,("self"::names)[i]? =Ja z->(Value.ref e::vs)[i]? =Ja v->bindL n.kindOf ((("self"::names).map Qb).zip (Value.ref e::vs)) (λo0=>Jb) (Qb z)=Ja v:=λi z v Y F=>
  lw _ _ _ i _ v (c3 ad) (by rw[Qu,Y];rfl) F (by rw[g];exact(h z<|QC Y).1)
 have ai:n.locals≠e:=by rw[c];exact WJ<|QO K
 refine pr (sc:=S.scope) (vs:= #[.ref t,.none,.none,.none,.bool Jd,.none]) (h₀:=m.heap) (B:=C.B) (C:=k) (e:=e) ah (by rw[g];exact(h _<|.head _).1) rfl (a 0 "self" (.ref e) rfl rfl) X.toInCall.ns ai T hC (looks_findIn j ae) (λb o q=>⟨(kB b o q).1,kp b o (kB b o q).2⟩)
  names body (λo0=>Jb) [] m D ⟨λb o o0 eo=>eo,⟨_,kp _ _ K,rfl,(λcc q=>by cases q),.inl ⟨rfl,λo0=>rfl⟩⟩,⟨Jb,kp _ _ K⟩,λo dx eo ed=>by obtain rfl:=sj<|(kp _ _ K).symm.trans eo;exact ns ed⟩ Within.nil (xi u) (λz R=> ?_) (λF aq M=> ?_)
 .obtain⟨i,G,rfl⟩:=Wi R;have ac:i<vs.length:=V.symm▸G;refine⟨by rw[g];exact(h _<|.tail _ R).1,⟨vs[i],a (i+1) _ _ (by rw[List.getElem?_cons_succ];exact Qg G)<|by rw[List.getElem?_cons_succ];exact Qg ac⟩,(h _<|.tail _ R).2,looks_findIn j<|U _ R⟩
 .obtain⟨dx,W⟩:=M.obj;obtain⟨ao,ap,H⟩:=X.toInCall.same;obtain⟨oi,gi,o0,o0,ak⟩:=M.inst;obtain rfl:=sj<|W.symm.trans gi;exact⟨rfl,t,dx,_,W,λb o hb q=>M.keep b o hb<|kp b o q,ak,λd q=>l0 kp<|M.own _ d W q,λi f v Y F=>(oy _ _ _ _<|.inl (Ql.mpr ⟨f,QC Y,rfl⟩)).trans (a (i+1) f v Y F),λx q=>rM _ _ _ _ q rfl,⟨by rw[H],by rw[H]⟩⟩
theorem s7{C:Cx}{G:Gx}{mg S:Jq->Option Jf}(g:D4 C G mg S)(X:Dm C G mg S)(z:C.calm){args:List E}(w3:G.inis.contains c=Jc)(U:args.length=(G.flds c).length){sc:Jk}{as:List Jl}{py p q:Y5}(h5:sc.names.lookup (Qb c)=Ja .globalImplicit)(h6:bz (Qb c)=Jc)(h3:as.length<=20)(ha:EQ C G n sc args as):EH C G n sc (.raise c args) (.Raise (Ja (.Call (.Name (Qb c) py) as [] p)) Jb q):=by
 obtain⟨k,Y,I⟩:=X.ini c w3;refine ma g X z Y I.ex ?_ h5 h6 h3 ha;obtain⟨bm,N,nm,q',bs,sn,sub,ab,col,dd,k0,k1,k2,k3,k5,mN,fI,oI,fd,L,K,hN,hi,T,D,σ,J,W,R,u,i,a,O,M,Q,d,B,V,H⟩:=I;intro A l Z aa s j ps vs E ak hv m P F hl;have v:vs.length=(G.flds c).length:=(hv.length.trans F).trans U;refine vg (T.keeps m.base) (m.base _ _ K) (hN.keeps m.base) hi (m.base _ _ D) σ (λh' e hx=> ?_) hl;obtain⟨t,e1,o0,o0⟩:=hx.there;refine YI (vT (e:=e) (λb o y=>⟨λq=>ns<|(dZ m hx.new).1.symm.trans (q▸y),hx.keeps b o<|m.base b o y⟩) e1 (AG ak.depth) g.nolimit v X.kin (λf hf=>X.fld c k _ Y hf) K T D J W R u (i _ (Uj (· +1) v)) a O M Q d B V H.2) (λr s2 h=>⟨h.1,h.2.rm ⟨rfl,rfl⟩ hx.keeps hx.new m P hv (X.fl c) H.1<|F.trans U⟩) λo0 o0 x=>x
theorem qp{C:Cx}{U m:Jq->Option Jf}(g:D4 C G U m)(X:Dm C G U m)(a:C.calm){args:List E}{sc:Jk}{as:List Jl}{py p q:Y5}(B:sc.names.lookup (Qb c)=Ja .globalImplicit)(W:bz (Qb c)=Jc)(J:as.length<=20)(T:EQ C G n sc args as):EH C G n sc (.raise c args) (.Raise (Ja (.Call (.Name (Qb c) py) as [] p)) Jb q):=λI w=>by
 rcases w.1.2.2 with h|h
 .exact oS g X a h B W J T I w
 .exact s7 g X a h.1 h.2 B W J T I w
end
end
section
open PySem.W PyProof.Rows
section
variable{C:Cx}{G:Gx}{mg mb:Jq->Option Jf}{n:Nat}{A:Jj}{Er:Jf->Je->Prop}{env:Js}{ρ:CH}{Z:PH}{s:Je}{l:List Js}
theorem sP{g W:Jp}{Q:Unit->Je->Prop}(O:s.heap.get? a=Ja g)(v:g.data= .fields vs)(N:vs[1]? =Ja (.ref T))(Y:s.heap.get? T=Ja W)(U:W.data= .fields ts)
  (J:ts[3]? =Ja .none)(h:∀S,(∀b o,s.heap.get? b=Ja o->S.get? b=Ja o)->Q () {s with heap:=S}):Jh (Mo C) A (JS (.ref a) Jb) Q Er s:=by
 have z:=(Ku.mp J).1;refine wpAny_setFlight_none O v N Y U z (h _ λb o e=> ?_);have same:ts.setIfInBounds 3 .none=ts:=by
  apply Array.ext
  .simp
  .intro i N p;rw[Array.getElem_setIfInBounds]
   split
   .rename_i q;subst q;exact((Ku.mp J).2).symm
   .rfl
 have P:W.mapFields (·.setIfInBounds 3 .none)=W:=by
  obtain⟨c,d,t,B⟩:=W;simp only at U;subst U;simp only[Obj.mapFields,same]
 by_cases q:b=T
 .subst q;obtain rfl:=sj<|Y.symm.trans e;rw[Kd _ Y (Obj.isFreed_of_fields<|Obj.data_mapFields U _),P]
 .rw[KH _ _ (λe=>q e.symm)];exact e
theorem CU.stepF{S:Jg->Prop}{h u:Ji}(x:CU C env ρ Z h)(st:CF S Z h Z' u)(R:∀b o,S b->h.get? b=Ja o->∃vs,o.data= .fields vs):CU C env ρ Z' u where
 fn:=x.fn
 glob:=x.glob
 blt:=x.blt
 ns:=by
  obtain⟨m,F,hv⟩:=x.ns;refine⟨m,Ns.like F λo e=> ?_,λy p T w=>by obtain⟨v,a,b⟩:=hv y p T w;exact⟨v,a,b.step st⟩⟩;obtain⟨o0,i,g,k⟩:=st.keep _ o e x.newL;obtain⟨P,U,H,w,W,o0⟩:=F;obtain rfl:=sj<|e.symm.trans w;exact⟨i,g,k λf=>by obtain⟨vs,q⟩:=R _ o f e;rw[W] at q;cases q⟩
 cell:=λy p T w=>by
  obtain⟨c,v,a,b,d⟩:=x.cell y p T w;refine⟨c,v,a,IsCell.like b λo e=> ?_,d.step st⟩;obtain⟨o0,i,g,k⟩:=st.keep _ o e (x.newC _ c a).1;obtain⟨P,w,W⟩:=b;obtain rfl:=sj<|e.symm.trans w;exact⟨i,g,k λf=>by obtain⟨vs,q⟩:=R _ o f e;rw[W] at q;cases q⟩
 newL:=by
  obtain⟨m,⟨o,U,H,e,o0⟩,o0⟩:=x.ns;exact(st.keep _ o e x.newL).1
 newC:=λy c e=>by
  obtain⟨a,v,o,b,d⟩:=x.newC y c e;obtain⟨q,i,g,k⟩:=st.keep _ o b a;exact⟨q,v,i,g,(k λf=>by obtain⟨vs,q⟩:=R _ o f b;rw[d] at q;cases q).2.2.1.trans d⟩
 baseL:=x.baseL
 baseC:=x.baseC
 apart:=x.apart
 hasC:=x.hasC
theorem Dy.stepF{S:Jg->Prop}{h W:Ji}(x:Dy C n A l Z h)(st:CF S Z h Z' W)(R:∀b o,S b->h.get? b=Ja o->∃vs,o.data= .fields vs):Dy C n A l Z' W:=
 ⟨x.depth,x.units,x.stack,(x.frs.step st λd O L w f=>by
  obtain⟨o0,r,i,U,m,e,o0,o0,u,V⟩:=x.frs d O;obtain rfl:=sj (w.symm.trans e);obtain⟨vs,q⟩:=R L i f u;rw[V] at q;cases q),x.calm⟩
theorem CU.adopt{h:Ji}{D:Jg}(x:CU C env ρ Z h)(nt:∀ws k,h.get? D≠Ja (Eu ws k))(T:env.locals≠D)(σ:∀y c,env.cells.lookup y=Ja c->c≠D):CU C env ρ (Z.set D po) h:=by
 refine⟨x.fn,x.glob,x.blt,?_,λy p e w=> ?_,?_,x.baseL,x.baseC,λy c q=> ?_,x.apart,x.hasC⟩
 .obtain⟨m,g,hv⟩:=x.ns;exact⟨m,g,λy p e w=>by obtain⟨v,a,b⟩:=hv y p e w;exact⟨v,a,VR.adopt nt _ _ b⟩⟩
 .obtain⟨c,v,a,b,d⟩:=x.cell y p e w;exact⟨c,v,a,b,VR.adopt nt _ _ d⟩
 .rw[PH.set_ne _ _ T];exact x.newL
 .obtain⟨a,v,o,b,d⟩:=x.newC y c q;exact⟨by rw[PH.set_ne _ _ (σ y c q)];exact a,v,o,b,d⟩
theorem Dy.adopt{D:Jg}(x:Dy C n A l Z h)(f:∀e∈l,∀L,e.frame=Ja L->L≠D):Dy C n A l (Z.set D po) h:=
 ⟨x.depth,x.units,x.stack,(λe O=>by
  obtain⟨k,L,o,U,m,T,w,X,u,V⟩:=x.frs e O;exact⟨k,L,o,U,m,T,w,by rw[PH.set_ne _ _ (f e O L T)];exact X,u,V⟩),x.calm⟩
theorem lg:∀ {ρ:CH} {x:String} {p:PV},ρ.wipe.get x=Ja p->False
 |[],x,p,h=>by exact ns h
 |(y,o)::r,x,p,h=>by
  have h:(if y=x then Jb else CH.get (CH.wipe r) x)=Ja p:=h
  split at h
  .exact ns h
  .exact lg h
theorem sK{K:Unit->Je->Prop}(v:CU C env ρ Z s.heap)(m:CP C Z s.heap)(hx:env.kindOf (Qb x)=Ja .local)
  (H:∀s',GM C env (slot env [x]) Z s.heap s'.heap->CU C env ρ.wipe Z s'.heap->CS s s'->K () s'):Jh (Mo C) A (do bindName env (Qb x) .none;unbindBehindTheSuite env (Qb x) pos) K Er s:=by
 obtain⟨z,I,hm⟩:=v.ns;have D:(env.scope.kind== .class||(env.scope.kind== .module&&env.locals !=env.globals))=Jd:=by rw[v.fn];rfl
 refine wpAny_nameGoes hx I D λR r B h=> ?_;have F:∀c,slot env [x] c->c=env.locals:=by
  rintro c ⟨y,S,q|q⟩
  .exact q.2
  .rw[Qh] at S;subst S;rw[hx] at q;cases q.1
 obtain⟨o,es,ep,Y,W,o0⟩:=id I;obtain⟨i,g,p,J,d,o0⟩:=id B;have mv:Mv (slot env [x]) s.heap R:=λc o f e=>h.extBut c o (λq=>f ⟨x,Qh.mpr rfl,.inl ⟨hx,q⟩⟩) e;have N:F9 C Z s.heap (slot env [x]):=λc f=>by
  have:=F c f;subst this;exact⟨v.baseL,v.newL,gU Y<|cS W⟩
 have t:∀y c,env.cells.lookup y=Ja c->c≠env.locals:=by
  rintro y c q rfl;obtain⟨o0,v1,P,U,σ⟩:=v.newC y _ q;obtain rfl:=sj<|Y.symm.trans U;rw[W] at σ;cases σ
 refine H _ ⟨mv,N,λl f=> ?_,m.mv mv N,λc f=> ?_⟩ ?_ ⟨rfl,rfl⟩
 .intro M O;obtain⟨k,L,P,u,Q,T,j,X,E,V⟩:=f M O;by_cases q:L=env.locals
  .subst q;exact⟨k,_,i,g,p,T,j,X,J,d⟩
  .exact⟨k,L,P,u,Q,T,j,X,h.extBut _ _ q E,V⟩
 .have:=F c f;subst this;exact⟨λP q=>by obtain rfl:=sj<|Y.symm.trans q;exact cS W,i,J,cS d⟩
 .exact⟨v.fn,v.glob,v.blt,⟨_,B,λy q T o0=>(lg T).elim⟩,λy q T o0=>(lg T).elim,v.newL,v.baseL,v.baseC,λy c e=>by
   obtain⟨a,w,b⟩:=v.newC y c e;exact⟨a,w,b.sameBut h (t _ c e)⟩,v.apart,v.hasC⟩
theorem FR.mv{F:Jg->Prop}{h S:Ji}{fl:Fl}(x:FR C Z h fl f)(mv:Mv F h S)(fo:F9 C Z h F):FR C Z S fl f:=by
 induction fl with
 |next=>exact x
 |ret p=>obtain⟨v,e,hv⟩:=x;exact⟨v,e,hv.mv mv fo⟩
theorem Ba{fl:Fl}(x:FR C.un Z h fl f):FR C Z h fl f:=by
 induction fl with
 |next=>exact x
 |ret p=>obtain⟨v,e,hv⟩:=x;exact⟨v,e,by rw[i0] at hv;exact hv⟩
end
end
section
open PySem.W PyProof.Rows
noncomputable def came(e:Jf)(env:Js):Sem Unit:=do
 if(<-field e 1)== .none then unsupported "frame.own-activation:exception-without-traceback"
 JS e env.frame
section
variable{C:Cx}{G:Gx}{mg mb:Jq->Option Jf}{n:Nat}{A:Jj}{env:Js}{ρ:CH}{Z:PH}{s:Je}{l:List Js}
theorem SX.pass(tf:TopF env l)(x:SX C n A l env Z s X e s'):notedBy (Mo C) A env (cameBackBy (Mo C) A env (SX C n A l env Z s X)) e s':=by
 obtain⟨D,j,m,fl,v,c,P,r,k,w⟩:=x;obtain⟨b,rfl,h⟩:=id tf;have key:=jR (fo:=env.frame) (K:=came e env) (Er:=λo0 o0=>False) (Q:=λo0 W=>SX C n A (env::b) env Z s X e W) k.stack k.frs h c fl (λL q=>by obtain rfl:=sj<|h.symm.trans q;rfl) P (λa t i U T y N p H R=> ?_) λS M f o O E=> ?_
 .exact YI key (λo0 B p=>YI p (λo0 o0 z=>z) λo0 o0 z=>z.elim) λo0 o0 z=>z.elim
 .subst y;unfold came;refine YG<|YL N p H ?_;rw[Uf (show ¬ ((Value.ref T==Value.none)=Jc) from QB)];exact R
 .obtain⟨F,F4,J⟩:=O;exact⟨D,j,m,f,v.stepF F4 J,M,o,r,k.stepF F4 J,w⟩
structure WhAt(C:Cx)(env:Js)(n:Nat)(A:Jj)(l:List Js)(go:CH->PH->Prop)(Z:PH)(s:Je)(ρ':CH)(Z':PH)(s':Je):Prop where
 m:CP C Z' s'.heap
 ev:CU C env ρ' Z' s'.heap
 step:CF (Ej env) Z s.heap Z' s'.heap
 rest:CS s s'
 ak:Dy C n A l Z' s'.heap
 go:go ρ' Z'
theorem uz(ht:Dz C G n sc t u)(hb:Ek C G n sc b y):EH C G n sc (.while_ t b) (.While u y [] pos):=λ{env ρ A l Z s Q X} R w=>by
 refine lp ?_;intro zP zR;obtain⟨o0,k,w⟩:=w;refine wpAny_While<|codeAny_whileLoop (λB s'=>∃O T,WhAt C env n A l (HK (λρ Z K=>we G (aN C n) t ρ Z (λv m=>dj (λc=>K c m) v) λx m=>X x ρ m) (λρ Z K=>E8 G (aN C n) (aN C.un n) b ρ Z K X) Q B) Z s O T s') ?_ k ⟨ρ,Z,R.m,R.ev,.refl _ _ _,.refl s,R.ak,w⟩;intro B s' hI;obtain⟨O,T,I⟩:=hI
 induction B using Nat.casesOn with
 |zero=>exact I.go.elim
 |succ j=>
  have J:∀ {m:PH} {W:Je} {e:Jf} {g:Je},CF (Ej env) Z s.heap m W.heap->CS s W->SX C n A l env m W X e g->notedBy (Mo C) A env (cameBackBy (Mo C) A env<|SX C n A l env Z s X) e g:=λst r z=>SX.pass R.tf (SX.from st r z);refine YI (ht (K:=λc m=>if c then E8 G (aN C n) (aN C.un n) b O m (HR (λσ L=>HK (λρ Z K=>we G (aN C n) t ρ Z (λv m=>dj (λc=>K c m) v) λx m=>X x ρ m) (λρ Z K=>E8 G (aN C n) (aN C.un n) b ρ Z K X) Q j σ L) Q) X else Q .next O m) (X:=λx m=>X x O m) ⟨R.sr,I.ev,I.m,I.ak⟩ I.go) (λc W h=> ?_) λe g z=>J I.step I.rest<|XP.stmt I.ev I.ak z
  .obtain⟨m,U,P,r1,w1⟩:=h;have d:=I.ev.step P;have a:=I.ak.step P;have o:=I.step.trans P.own;have M:=I.rest.trans r1
   induction c with
   |false=>exact JK ⟨.next,O,m,rfl,d,U,o,M,a,w1⟩
   |true=>
    refine YI (hb ⟨⟨R.sr,d,U,a⟩,R.tf⟩ w1) (λf s3 hf=> ?_) λe s3 z=>J o M z;obtain⟨fl,i,D,V,Y,N,H,r3,F,q⟩:=hf
    induction fl with
    |next=>
     simp only[FR] at V;subst V;exact⟨j,QN j,i,D,N,Y,o.trans H,M.trans r3,F,q⟩
    |ret p=>
     obtain⟨v,rfl,hv⟩:=V;exact⟨.ret p,i,D,⟨v,rfl,hv⟩,Y,N,o.trans H,M.trans r3,F,q⟩
end
end
section
open PySem.W PyProof.Rows
structure Go(C:Cx)(G:Gx)(n:Nat)(A:Jj)(l:List Js)(env:Js)(Z:PH)(s:Je)(px:PX)(ρ1:CH)(Z1:PH)(s1:Je)(a:Jg)(oe:Jp)(vs:Array Jf)(T:Jg)(oT:Jp)(ts:Array Jf)(k:Jg):Prop where
 at_:s1.heap.get? a=Ja oe
 dat:oe.data= .fields vs
 tb:vs[1]? =Ja (.ref T)
 hT:s1.heap.get? T=Ja oT
 dT:oT.data= .fields ts
 nT:ts[3]? =Ja Value.none
 cls:C.cls px.c=Ja k
 ocl:oe.cls= .ref k
 ctx:vs[2]? =Ja .none
 odi:FF C px Z1 s.heap s1.heap oe.dict
 fr0:∀en∈l,∀L,en.frame=Ja L->∃o,s.heap.get? L=Ja o
 tf:TopF env l
 base:C.B.get? a=Jb
 new:Z1 a=Jb
 new0:s.heap.get? a=Jb
 nw:Z a=Jb
 m:CP C Z1 s1.heap
 ev:CU C env ρ1 Z1 s1.heap
 ak:Dy C n A l Z1 s1.heap
 st:CF (Ej env) Z s.heap Z1 s1.heap
 rest:CS s s1
section
variable{C:Cx}{G:Gx}{mg mb:Jq->Option Jf}{n:Nat}{A:Jj}{l:List Js}{env:Js}{Z:PH}{s:Je}{px:PX}{ρ1:CH}{Z1:PH}{s1:Je}{a:Jg}{oe:Jp}{vs:Array Jf}{T:Jg}{oT:Jp}{ts:Array Jf}{k:Jg}
structure Landed(C:Cx)(n:Nat)(A:Jj)(l:List Js)(env:Js)(Z:PH)(s:Je)(ρ1:CH)(Z2:PH)(h2:Ji):Prop where
 m:CP C Z2 h2
 ev:CU C env ρ1 Z2 h2
 st:CF (Ej env) Z s.heap Z2 h2
 ak:Dy C n A l Z2 h2
theorem FF.inst{h₀ h:Ji}{oe:Jp}(f:FF C x Z h₀ h oe.dict)(g:h.get? a=Ja oe)(v:oe.data= .fields vs)(c:oe.cls= .ref k):∃D,InstAt h a oe k D:=by
 induction f with
 |no _ e=>exact⟨Jb,g,c,by simp[notCls,v],by rw[e];trivial⟩
 |at_ _ d o e _ _ _ t _=>exact⟨Ja o,g,c,by simp[notCls,v],by rw[e];exact t⟩
theorem Go.land(c:Go C G n A l env Z s px ρ1 Z1 s1 a oe vs T oT ts k)(N:C.ok):∃O,(∀Q:C9,lb px Z1 Q->Q (.ref a) O)/\
  ∀h,(∀b o,s1.heap.get? b=Ja o->h.get? b=Ja o)->Landed C n A l env Z s ρ1 O h:=by
 have B:∀D,s.heap.get? D=Jb->(∀X∈l,∀L,X.frame=Ja L->L≠D):=λD U X he L j q=>by
  obtain⟨o,e⟩:=c.fr0 X he L j;rw[q,U] at e;exact ns e
 have S:∀D,s.heap.get? D=Jb->env.locals≠D:=λD U=>by
  obtain⟨l',e,j⟩:=c.tf;exact B D U env (e▸ .head _) _ j
 have I:∀D o,s1.heap.get? D=Ja o->(∀v,o.data≠ .cell v)->∀y e,env.cells.lookup y=Ja e->e≠D:=λD o U hn y e q w=>by
  obtain⟨o0,v,o',g,dd⟩:=c.ev.newC y e q;rw[w,U] at g;obtain rfl:=sj g;exact hn v dd
 have W:=I a oe c.at_ λv q=>by rw[c.dat] at q;cases q
 have ho:=c.odi
 induction ho with
 |no f R=>
  refine⟨Z1.set a<|.exc px.c Jb,λQ w=> ?_,λh kp=> ?_⟩
  .have:=w a c.new;rw[f] at this;exact this
  .have Y:CP C Z1 h:=c.m.more kp;have sk:CF CC Z1 s1.heap Z1 h:= .more kp;have nt:∀ws k,h.get? a≠Ja (Eu ws k):=λws k z=>by obtain rfl:=sj<|(kp a _ c.at_).symm.trans z;cases c.dat
   exact⟨Y.adopt c.new nt (kp a _ c.at_) c.base ⟨k,vs,c.cls,c.ocl,c.dat,c.ctx,R,λx q=>(ns q)⟩ N,(c.ev.step sk).adopt nt (S a c.new0) W,(c.st.trans sk.own).add _ c.new0 c.nw,(c.ak.step sk).adopt (B a c.new0)⟩
 |at_ f d od R b E z t r=>
  obtain⟨P,ep,m,r2,M,r4⟩:=r;have F:d≠a:=λq=>by rw[q,c.at_] at t;obtain rfl:=sj t;rw[c.dat] at m;cases m
  have H:Z d=Jb:=by
   induction q:Z d with
   |none=>rfl
   |some o=>obtain⟨o',w⟩:=c.st.grow d o q;exact ns<|E.symm.trans w
  refine⟨(Z1.set d<|.fd px.c px.fs).set a (.exc px.c<|Ja d),λQ w=> ?_,λh kp=> ?_⟩
  .have:=w a c.new
   revert this f
   induction px.fs using List.casesOn with
   |nil=>intro f;exact absurd rfl f
   |cons p ps=>intro _ this;exact this d E F
  .have Y:CP C Z1 h:=c.m.more kp;have sk:CF CC Z1 s1.heap Z1 h:= .more kp;have J:∀ws k,h.get? d≠Ja (Eu ws k):=λws k z=>by obtain rfl:=sj<|(kp d _ t).symm.trans z;cases m
   have nt:∀ws k,h.get? a≠Ja (Eu ws k):=λws k z=>by obtain rfl:=sj<|(kp a _ c.at_).symm.trans z;cases c.dat
   have m4:CP C (Z1.set d<|.fd px.c px.fs) h:=Y.adopt E J (kp d _ t) b ⟨P,ep,m,r2,λi f p V h=>by obtain⟨u,a,b⟩:=M i f p V h;exact⟨u,a,VR.step sk _ _ b⟩,r4⟩;have K:(Z1.set d<|.fd px.c px.fs) a=Jb:=by rw[PH.set_ne _ _ (Ne.symm F)];exact c.new
   have σ:=(c.ev.step sk).adopt (po:= .fd px.c px.fs) J (S d z) (I d od t λv q=>by rw[m] at q;cases q);exact⟨m4.adopt K nt (kp a _ c.at_) c.base ⟨k,vs,c.cls,c.ocl,c.dat,c.ctx,R,λx q=>by obtain rfl:=sj q;exact⟨_,PH.set_same _ _ _⟩⟩ N,σ.adopt nt (S a c.new0) W,((c.st.trans sk.own).add _ z H).add _ c.new0 c.nw,((c.ak.step sk).adopt (B d z)).adopt (B a c.new0)⟩
theorem qL(g:D4 C G mg mb)(X:Dm C G mg mb)(N:C.ok){sc:Jk}{W:Prop}(hh:Ek C.un G.un n sc h (y::hr))(ev:CU C env ρ Z s.heap)(r:Fg sc env)(tf:TopF env l)
  (u:Go C G n A l env Z s px ρ1 Z1 s1 a oe vs T oT ts k)(w3:G.cs.contains c=Jc)(Y:glb sc c t=Jc)(U:sc.names.lookup (Qb x)=Ja .local)
  (w:cond (G.sub px.c c) (lb px Z1 λv O=>E8 G.un (aN C.un n) (aN C.un n) h (ρ1.put x v) O (λfl D O=>Q fl D.wipe O) λo0 o0 o0=>False) W)
  (wn:W->Jh (Mo C) A (handleBy (.ref a) env rest) (SP C n A l env Z s Q) (SX C n A l env Z s X') s1):
  Jh (Mo C) A (handleBy (.ref a) env (.ExceptHandler (Ja t) (Ja<|Qb x) (y::hr) p::rest)) (SP C n A l env Z s Q) (SX C n A l env Z s X') s1:=by
 obtain⟨pt,rfl,h5,h6⟩:=iQ Y;obtain⟨aa,I⟩:=u.odi.inst u.at_ u.dat u.ocl;obtain⟨kd,d⟩:=X.has c w3;refine wpAny_handleBy_cons (codeAny_handlers_test<|gT g u.ev u.m (r.glob _ h5) h6 (X.cls c kd d) ((exm_one (M:=Mo C) (X.kin.keeps u.m.base) I.type<|X.sub _ _ _ _ u.cls d).here ?_))<|by intro q;cases q
 induction b:G.sub px.c c with
 |false=>rw[b] at w;exact wn w
 |true=>
  rw[b] at w;obtain⟨O,K,land⟩:=u.land N;have hw:E8 G.un (aN C.un n) (aN C.un n) h (ρ1.put x<|.ref a) O (λfl D O=>Q fl D.wipe O) (λo0 o0 o0=>False):=K (λv O=>E8 G.un (aN C.un n) (aN C.un n) h (ρ1.put x v) O (λfl D O=>Q fl D.wipe O) λo0 o0 o0=>False) w;refine codeAny_handlers_suite_as (sP (C:=C) u.at_ u.dat u.tb u.hT u.dT u.nT λY kp=> ?_);have L:=land Y kp;have o:=r.loc _ U;refine kX (C:=C) (s:={s1 with heap:=Y}) (p:= .ref a) L.ev L.m (.inl o) rfl λs3 H e r3=> ?_;have V:=H.step ev L.st;have B:=L.ak.asg H;refine YI (hh (A:=A.mark<|Ja (.ref a)) ⟨⟨r,e.un,H.sim.un,B.un⟩,tf⟩ hw) (λf s5 hf=> ?_) λo0 o0 z=>SX.none z;obtain⟨m,E,j,f5,i,m5,F,r5,σ,q⟩:=hf;have J:=σ.re B;refine sK (C:=C) i.re m5.re o λs6 P R r6=> ?_;exact⟨m,E.wipe,j,(Ba f5).mv P.mv P.fok,R,P.sim,P.step ev<|V.trans F,((u.rest.trans r3).trans r5).trans r6,J.asg P,q⟩
theorem xd{E:CH}{D:List J4}(hb:Ek C G n sc b y)(I:AtS C n sc env E A l Z s)
  (w:E8 G (aN C n) (aN C.un n) b E Z Q W)
  (d:∀px ρ1 Z1 s1 a oe vs T oT ts k,Go C G n A l env Z s px ρ1 Z1 s1 a oe vs T oT ts k->W px ρ1 Z1->Jh (Mo C) A (handleBy (.ref a) env (i::D)) (SP C n A l env Z s Q) (SX C n A l env Z s X) s1):
  Jh (Mo C) A (exec (.Try y (i::D) [] [] pos) env) (SP C n A l env Z s Q) (SX C n A l env Z s X) s:=by
 refine lp ?_;intro zP zR;refine wpAny_Try_except ?_;refine YI (hb I w) (λf s1 j=> ?_) λe s1 hx=> ?_
 .obtain⟨fl,ρ1,Z1,H,m,c,t,M,B,q⟩:=j
  induction fl with
  |next=>
   simp only[FR] at H;subst H;exact JK ⟨.next,ρ1,Z1,rfl,m,c,t,M,B,q⟩
  |ret v=>
   obtain⟨v',rfl,hv⟩:=H;exact⟨.ret v,ρ1,Z1,⟨v',rfl,hv⟩,m,c,t,M,B,q⟩
 .obtain⟨px,ρ1,Z1,fl,m,c,t,M,B,w⟩:=hx;obtain⟨l',rfl,r⟩:=id I.tf;refine jR (K:=JS e Jb) B.stack B.frs r c fl (λL' q=>by obtain rfl:=sj<|r.symm.trans q;rfl) t (λo0 o0 o0 o0 o0 o0 o0 o0 o0 z=>z) λh' u σ V O P=> ?_;obtain⟨F,F4,J⟩:=O;obtain⟨a,oe,vs,T,oT,ts,rfl,p,R,e3,e4,e5,e6,e7⟩:=P;obtain⟨a',o,ab,k,g,q2,x,N,q5,q6,q7,U,q9,aa,Y⟩:=σ;cases g;obtain rfl:=sj<|p.symm.trans q5;rw[R] at U;cases U;have h:Z a=Jb:=by
   induction z:Z a with
   |none=>rfl
   |some o'=>obtain⟨ob,z1,o0⟩:=I.m.objs a o' z;exact ns<|N.symm.trans z1
  exact d px ρ1 Z1 {s1 with heap:=h'} a oe vs T oT ts k ⟨p,R,e3,e5,e6,e7,q6,q7,q9,Y,λen he L j=>(by obtain⟨o0,L',o,o0,o0,z1,o0,o0,z4,o0⟩:=I.ak.frs en he;exact⟨o,by obtain rfl:=sj<|j.symm.trans z1;exact z4⟩),I.tf,q2,x,N,h,u,m.stepF F4 J,B.stepF F4 J,V,M⟩ w
end
section
variable{C:Cx}{G:Gx}{mg mb:Jq->Option Jf}{n:Nat}
theorem vR(g:D4 C G mg mb)(X:Dm C G mg mb)(o:C.ok){sc:Jk}(P:glb sc c t=Jc)(K:glb sc σ M=Jc)(hx:sc.names.lookup (Qb x)=Ja .local)(R:Ek C G n sc b y)(u:Ek C.un G.un n sc h (U::f))(L:Ek C.un G.un n sc Y (v::r)):
  EH C G n sc (.try2 b c x h σ Y) (.Try y [.ExceptHandler (Ja t) (Ja<|Qb x) (U::f) p,.ExceptHandler (Ja M) (Ja<|Qb x) (v::r) J] [] [] q):=λ{env z A l Z s Q H} I w=>
 xd R I w.2 λpx ρ1 Z1 s1 a oe vs T oT ts k W m=>qL g X o u I.ev I.sr I.tf W w.1.2.2.1 P hx m λj=>qL g X o L I.ev I.sr I.tf W w.1.2.2.2 K hx j λB=>B.elim
theorem Gs(g:D4 C G mg mb)(X:Dm C G mg mb):E6 C G n:=⟨ul g X,s9 X,qb g X⟩
theorem t4(g:D4 C G mg mb)(X:Dm C G mg mb):FN C G n:=⟨uz,λo0 c=>qp g X c,λh o0=>vR g X h⟩
end
end
section
open PySem.W PyProof.Rows
theorem tW{P:Jo->Prop}(h:mAsg sc f e x=Jc)(k:∀I r g v,Ds sc (Qb "self")=Jc->bz (Qb "self")=Jc->kz v=Jc->mE sc e v=Jc->P (.Assign [.Attribute (.Name (Qb "self") I) (Qb f) r] v g)):P x:=
 pD h λt v o J w=>wq (P:=λt=>P<|.Assign [t] v o) J λz p B o0 o0=>iy (P:=λz=>P<|.Assign [.Attribute z (Qb f) p] v o) B λq W S=>k q p o v W S (CL w).1 (CL w).2
structure Gm(h:Ji)(x dx k:Jg)(mA:Jq->Option Jf):Prop where
 obj:∃o,A4 (h.get? x=Ja o) (o.cls= .ref k) (o.dict=Ja dx) (∀c,o.data≠ .cls c)
 ne:dx≠x
 ns:h.Ns1 dx mA
section
variable{C:Cx}{G:Gx}{mg mb:Jq->Option Jf}{n:Nat}{x dx k:Jg}{mA:Jq->Option Jf}{h h':Ji}{Z Z':PH}
theorem Gm.inst(a:Gm h x dx k mA):h.Inst x k mA:=by obtain⟨o,T,w,e,u⟩:=a.obj;exact⟨o,T,w,u,.inr ⟨dx,e,a.ne,a.ns⟩⟩
theorem Gm.step(a:Gm h x dx k mA)(st:CF CC Z h Z' h')(i:Z x=Jb)(nd:Z dx=Jb):Gm h' x dx k mA/\Z' x=Jb/\Z' dx=Jb:=by
 obtain⟨o,N,σ,q,t⟩:=a.obj;obtain⟨W,R,e,F⟩:=st.keep x _ N i;obtain⟨U,K,P,o0⟩:=F λf=>f.elim;obtain⟨v,s,p,T,w,X⟩:=a.ns;obtain⟨V,d,u,l⟩:=st.keep dx _ T nd;exact⟨⟨⟨R,e,U.trans σ,K.trans q,λc z=>t c<|P.symm.trans z⟩,a.ne,d,s,p,u,(l λf=>f.elim).2.2.1.trans w,X⟩,W,V⟩
theorem Gm.noTup(a:Gm h x dx k mA):∀vs n,h.get? dx≠Ja (Eu vs n):=λvs n q=>by
 obtain⟨o,s,p,e,w,o0⟩:=a.ns;obtain rfl:=sj<|e.symm.trans q;cases w
inductive Ew(B:Ji)(k fI:Jg)(fl:List String):Prop
 |mk (nm q:Jq) (N:Jg) (bs:List Jf) (sn:List Jq) (sub:List Jf) (col:Option Bool) (dd:Option Jg) (k0 k1 k2 k3 k5:Option Jf) (mN:Jq->Option Jf) (hC:B.get? k=Ja (JE nm q k N bs [.type "object"] Jc sn sub Jd col dd k0 k1 k2 k3 k5 "object.__new__")) (hN:B.Ns N mN)
  (hi:mN "__init__"=Ja (.ref fI)) (hs:mN "__setattr__"=Option.none) (hf:∀f∈fl,mN (Qb f)=Option.none/\JZ (.type "object") (Qb f)=pure Option.none):Ew B k fI fl
theorem Ew.keeps{B e:Ji}{fl:List String}(N:Ew B k f fl)(kp:∀b o,B.get? b=Ja o->e.get? b=Ja o):Ew e k f fl:=by
 obtain⟨nm,q,a,bs,sn,sub,c,d,S,P,U,F,O,m,M,W,i,s,w⟩:=N;exact⟨nm,q,a,bs,sn,sub,c,d,S,P,U,F,O,m,kp _ _ M,W.keeps kp,i,s,w⟩
theorem Ew.kp{fl:List String}(N:Ew C.B k f fl):Kp C (.ref k):=by
 obtain⟨nm,q,a,bs,sn,sub,c,d,S,P,U,F,O,m,M,o0⟩:=N;exact⟨.machine,.inr<|.inl rfl,λA Q E s kp q=>wpAny_keeperOf_exc (kp _ _ M) q⟩
structure Ini(C:Cx)(n:Nat)(A:Jj)(l:List Js)(env:Js)(ρ:CH)(x dx k:Jg)(σ₀:PH)(s₀:Je)(mA:Jq->Option Jf)(ns:List Jq)(Z:PH)(s:Je):Prop where
 ev:CU C env ρ Z s.heap
 m:CP C Z s.heap
 ak:Dy C n A l Z s.heap
 st:CF CC σ₀ s₀.heap Z s.heap
 r:CS s₀ s
 hf:Gm s.heap x dx k mA
 nx:Z x=Jb
 nd:Z dx=Jb
 wi:Within mA ns
theorem t5{env:Js}{S:CH}{s₀ s:Je}{ns:List Jq}{fl:List String}{P:PV->PH->Prop}{R:Flow->Je->Prop}{Er:Jf->Je->Prop}
  (hE:WB C G n e)(hm:mAsg sc f e y=Jc)(sr:Fg sc env)(I:Ini C n A l env S x dx k B s₀ mA ns Z s)(U:S.get "self"=Ja (.ref x))(N:Ew C.B k fI fl)(i:f∈fl)(hz:ns.length<=100)(bd:C.B.get? dx=Jb)(bx:C.B.get? x=Jb)
  (d0:s₀.heap.get? dx=Jb)(fL:env.locals≠dx)(fc:∀y c,env.cells.lookup y=Ja c->c≠dx)(ff:∀X∈l,∀L,X.frame=Ja L->L≠dx)(w:we G (aN C n) e S Z P λo0 o0=>False)
  (kk:∀p v Z1 W,P p Z1->VR C Z1 W.heap p v->(∀q u,VR C Z s.heap q u->VR C Z1 W.heap q u)->Ini C n A l env S x dx k B s₀ (λz=>if z=Qb f then Ja v else mA z) (Qb f::ns) Z1 W->R .next W):Jh (Mo C) A (exec y env) R Er s:=by
 refine tW (P:=λy=>Jh (Mo C) A (exec y env) R Er s) hm λp1 p2 p4 v h1 h2 aa h3=> ?_;obtain⟨nm,q,Na,bs,sn,sub,af,dd,k0,k1,k2,k3,k5,mN,hC,hN,hi,hs,hf⟩:=N;refine Y3 ?_<|iB aa rfl;refine YI ((hE sc v h3).1 ⟨sr,I.ev,I.m,I.ak⟩ w) (λv W hv=> ?_) λo0 o0 z=>XP.none z;obtain⟨p,Z1,K,M,H,r1,w1⟩:=hv;have m:=I.ev.step H;obtain⟨T,O,j⟩:=I.hf.step H I.nx I.nd;refine kU m (jK sr h1) h2 U λu hu=> ?_;rw[show u= .ref x from hu];obtain⟨V,g,d,t,os⟩:=W;have Y:x≠k:=λz=>by rw[z,hC] at bx;exact Vl.Internal.sn bx
 refine store_attr F.store_object (M.base _ _ hC) (hN.keeps M.base) hs (hf f i).1 (hf f i).2 Y T.inst (λh' D I' keep same=> ?_) I.wi (D8 hz<|by rw[JV];decide);obtain⟨ob,J,q2,Q,q4⟩:=T.obj;obtain⟨b,a,o2,o3,o4,o5⟩:=same _ J;obtain rfl:b=ob:=by
  have o6:=(o5 dx Q).trans Q.symm;obtain⟨c1,d1,ah,ai⟩:=b;obtain⟨c2,d2,aj,ae⟩:=ob;simp only at o2 o3 o4 o6;subst o2 o3 o4 o6;rfl
 have ab:h'.get? x=V.get? x:=a.trans J.symm;have mv:Mv (· ∈ [dx]) V h':=λc o f e=>by
  by_cases z:c=x
  .rw[z] at e ⊢;exact ab.trans e
  .exact keep c o z (λac ad e0 e1 q=>by obtain rfl:=sj<|J.symm.trans e0;obtain rfl:=sj<|Q.symm.trans e1;exact f<|Qh.mpr q) e
 have σ:F9 C Z1 V (· ∈ [dx]):=λc f=>by have f:=Qh.mp f;subst f;exact⟨bd,j,T.noTup⟩
 have ne:∀ {c:Jg},c≠dx->¬c∈ [dx]:=λz q=>z<|Qh.mp q;refine kk p v Z1 ⟨h',g,d,D,os⟩ w1 (K.mv mv σ) (λq u r=>(r.step H).mv mv σ) ⟨m.mv mv σ (ne fL) λy c q=>ne<|fc y c q,M.mv mv σ,(I.ak.step H).mv mv λX he L q=>ne<|ff X he L q,(I.st.trans H).mv mv λc f=>by rw[Qh.mp f];exact d0,I.r.trans ⟨r1.1,r1.2⟩,⟨⟨b,a,q2,Q,q4⟩,T.ne,?_⟩,O,j,Within.cons _ v I.wi⟩;obtain⟨o,e1,e2,e3,e4⟩:=I';obtain rfl:=sj<|a.symm.trans e1
 rcases e4 with⟨q,o0⟩|⟨d',q,o0,e5⟩
 .exact Vl.Internal.sn<|Q.symm.trans q
 .obtain rfl:=sj<|Q.symm.trans q;exact e5
theorem Dy.call{A:Jj}(a:Dy C (n+2) A l Z h)(st:CF CC Z h Z' h'):Dy C (n+1) (A.under (.builtin "type.__call__" ⟨.ref k::vs,[]⟩)) l Z' h':=by
 have a:=a.step st;refine⟨?_,?_,a.stack,a.frs,a.calm⟩
 .show A.depth+(0+1+0+0)+(n+1)+2<_;exact Ka (Km (QV<|by rw[QI,WQ A.depth (n+1)]) 2) a.depth
 .have:=a.units;show A.units+_+30*(n+1)+300<_;refine Ka (Km ?_ 300) this;rw[QI];exact KL (show _<=30 from Wk rfl)<|A.units+30*(n+1)
theorem oF{env:Js}{d:CH}{s₀:Je}{fl:List String}{R:Flow->Je->Prop}{Er:Jf->Je->Prop}(K:Fg sc env)(U:d.get "self"=Ja (.ref x))(N:Ew C.B k fI fl)(bd:C.B.get? dx=Jb)(X:C.B.get? x=Jb)
  (d0:s₀.heap.get? dx=Jb)(b:env.locals≠dx)(σ:∀y c,env.cells.lookup y=Ja c->c≠dx)(F:∀en∈l,∀L,en.frame=Ja L->L≠dx):∀ (V:List String) (es:List E) (ys:List Jo) (mA:Jq->Option Jf) (ns:List Jq) (Z:PH) (s:Je) (P:List PV->PH->Prop),GA sc V es ys=Jc->(∀e∈es,WB C G n e)->(∀f∈V,f∈fl)->ns.length+V.length<=100->V.Nodup->
  Ini C n A l env d x dx k a s₀ mA ns Z s->Fc G (aN C n) es d Z P (λo0 o0=>False)->
  (∀ps vs Z1 W m J,P ps Z1->CZ C Z1 W.heap ps vs->(∀q u,VR C Z s.heap q u->VR C Z1 W.heap q u)->(∀ (i:Nat) f p,V[i]? =Ja f->ps[i]? =Ja p->∃u,m (Qb f)=Ja u/\VR C Z1 W.heap p u)->(∀z,(∀f∈V,z≠Qb f)->m z=mA z)->Ini C n A l env d x dx k a s₀ m J Z1 W->R .next W)->Jh (Mo C) A (execs ys env) R Er s
 |[],es,ys=>λmA ns Z s P Q o0 o0 o0 o0 I w D=>by
  rcases es with o0|⟨o0,o0⟩<;>rcases ys with _|⟨_,_⟩<;>try exact ft Q
  exact JK<|D [] [] Z s mA ns w rfl (λo0 o0 r=>r) (λi f p q=>by rw[List.getElem?_nil] at q;exact Vl.Internal.ns q) (λo0 o0=>rfl) I
 |f::V,es,ys=>λmA ns Z s P Q M Y T nd I w D=>by
  rcases es with o0|⟨e,es⟩<;>rcases ys with _|⟨y,ys⟩<;>try exact ft Q
  obtain⟨h1,h2⟩:=Qi.mp (show(mAsg sc f e y&&GA sc V es ys)=Jc from Q);obtain⟨nf,nd⟩:=Qy.mp nd;refine J5 (t5 (M e<|.head _) h1 K I U N (Y f<|.head _) (Qq (KG _ _) T) bd X d0 b σ F w λp v Z1 W w1 j keep I1=> ?_);refine oF K U N bd X d0 b σ F V es ys _ _ _ _ _ h2 (λe he=>M e<|.tail _ he) (λf hf=>Y f<|.tail _ hf) (by rw[KW] at T ⊢;exact Qq (QV<|Nat.succ_add _ _) T) nd I1 w1 λps vs O s2 m J hp hv B t o I2=> ?_;refine D (p::ps) (v::vs) O s2 m J hp ⟨v,vs,rfl,B _ _ j,hv⟩ (λq u r=>B _ _<|keep _ _ r) (λi g q S H=> ?_) (λz T=> ?_) I2
  .induction i using Nat.casesOn with
   |zero=>
    obtain rfl:=sj S;obtain rfl:=sj H;exact⟨v,(o (Qb f) λg S z=>nf<|by rw[CV z];exact S).trans (Ug rfl),B _ _ j⟩
   |succ i=>exact t i g q S H
  .exact(o z λg S=>T g<|.tail _ S).trans (Uf<|T f (.head _))
theorem p8(g:D4 C G mg mb){oI:Jp}{fd:Jr}{r as:List String}(S:C.icl c=Ja k)(ae:C.fv c=Ja (.ref k))(kp:Kp C (.ref k))(N:Ew C.B k fI r)(F:FnIn C.B ("self"::as) fI oI fd ys)(ac:oI.cls= .type "function")(aj:GA fd.scope r es ys=Jc)
  (W:C.flds c=r)(aa:r.Nodup)(au:r.length<=50)(V:∀e∈es,WB C G n e){ps:List PV}(hl:ps.length=as.length)(B:List String)
  (w:∀x,Z x=Jb->Fc G (aN C n) es (Ec ("self"::as) B (.ref x::ps)) Z (λJ O=>∀d a,O d=Jb->O a=Jb->d≠a->Q (.ref a) ((O.set d<|.fd c J).set a (.inst d))) λo0 o0=>False):aN C (n+2) c ps Z Q X:=by
 refine⟨.ref k,ae,kp,λA l s T ak m hv=> ?_⟩;obtain⟨nm,q,Na,bs,sn,sub,av,dd,k0,k1,k2,k3,k5,mN,hC,hN,hi,hs,hf⟩:=id N;obtain⟨hp,gg,dr,tk,os⟩:=s;refine wpAny_call_obj_init PySem.F.objNew (m.base _ _ hC) (hN.keeps m.base) hi (m.base _ _ F.ho) ac λh' x dx D=>J8 ?_;have bx:C.B.get? x=Jb:=(dZ m D.newX).1;have bd:C.B.get? dx=Jb:=(dZ m D.newD).1;have t:CF CC Z hp Z h':= .more D.keeps;have m0:CP C Z h':=m.more D.keeps;obtain⟨o,ox,oc,am,od⟩:=D.inst;have ad:Dy C (n+1) (A.under<|.builtin "type.__call__" ⟨.ref k::T,[]⟩) l Z h':=ak.call t;refine pG g F B (Uj (· +1) hl) (s:=⟨h',gg,dr,tk,os⟩) (vs:= .ref x::T) (args:= .ref x::ps) ad m0 ⟨.ref x,T,rfl,rfl,hv.step t⟩ λv σ sr ev m1 H r1 ao ah Y b back=> ?_;have K:=D.dict o ox;obtain⟨ab,P⟩:dx≠x/\h'.Ns1 dx λo0=>Jb:=by
  rcases od with⟨q,o0⟩|⟨d',q,z1,z2⟩
  .exact Vl.Internal.sn<|K.symm.trans q
  .obtain rfl:=sj<|K.symm.trans q;exact⟨z1,z2⟩
 have nx:Z x=Jb:=(dZ m D.newX).2;have nd:Z dx=Jb:=(dZ m D.newD).2;obtain⟨an,ai,ar⟩:=(Gm.mk (k:=k) ⟨o,ox,oc,K,am⟩ ab P).step H nx nd;have R:dx<h'.objs.size:=by obtain⟨o0,o0,o0,z,o0⟩:=P;exact QO z
 have fL:v.locals≠dx:=by rw[Y];exact WJ R
 have fc:∀y c,v.cells.lookup y=Ja c->c≠dx:=λy c q=>WJ<|QJ R (b y c q);have ff:∀en∈v::l,∀L,en.frame=Ja L->L≠dx:=λen V L q=>by
  rcases Qw.mp V with rfl|V
  .obtain rfl:=sj<|ah.symm.trans q;exact fL
  .obtain⟨o0,L',o',es,ep,z1,z2,z3,z4,z5⟩:=ak.frs en V;obtain rfl:=sj<|z1.symm.trans q;exact λz=>by rw[z,D.newD] at z4;exact Vl.Internal.ns z4
 have U:(Ec ("self"::as) B (.ref x::ps)).get "self"=Ja (.ref x):=Ug rfl;have I0:Ini C n ((A.under<|.builtin "type.__call__" ⟨.ref k::T,[]⟩).deeper v) (v::l) v (Ec ("self"::as) B (.ref x::ps)) x dx k Z ⟨hp,gg,dr,tk,os⟩ (λo0=>Jb) [] Z σ:=⟨ev,m1,ao,t.trans H,⟨r1.1,r1.2⟩,an,ai,ar,Within.nil⟩
 refine oF sr U N bd bx D.newD fL fc ff r es ys _ _ _ _ _ aj V (λo0 q=>q) (Qq (QV<|KR _)<|Qq au (by decide)) aa I0 (w x nx) λJ us O s2 aw ax w2 rv keep ap ho I=>⟨rfl,?_⟩
 obtain⟨af,aq,ep,g1,g2,g3,g4,g5⟩:=I.hf.ns;obtain⟨o2,b1,b2,b3,b4⟩:=I.hf.obj;have M:FD C O s2.heap c J af:=by
  refine⟨aq,ep,g2,g3,λi f p h1 h2=> ?_,λz hz=> ?_⟩
  .rw[W] at h1;obtain⟨u,z1,z2⟩:=ap i f p h1 h2;exact⟨u,(g5 _).trans z1,z2⟩
  .rw[W] at hz;exact(g5 z).trans (ho z hz)
 have m3:=I.m.adopt (po:= .fd c J) I.nd I.hf.noTup g1 bd M;have al:(O.set dx<|.fd c J) x=Jb:=(PH.set_ne _ _<|Ne.symm I.hf.ne).trans I.nx;have m4:=m3.adopt (po:= .inst dx) al (λws j z=>by obtain rfl:=sj<|b1.symm.trans z;cases b2) b1 bx ⟨c,k,S,b2,b4,b3,_,PH.set_same _ _ _⟩;exact⟨.ref x,_,rfl,m4,(I.st.add _ D.newD nd).add _ D.newX nx,I.r,w2 dx x I.nd I.nx I.hf.ne⟩
end
end
section
open PySem.W PyProof.Rows
theorem jO:∀ {as:List Jg},(iC h as).In h
 |[]=>λa o e=>by exact ns e
 |b::r=>λa o e=>by
  induction R:h.get? b with
  |none=>
   have:iC h (b::r)=iC h r:=by simp[iC,R]
   rw[this] at e;exact jO (as:=r) a o e
  |some C=>
   have:iC h (b::r)=(b,C)::iC h r:=by simp[iC,R]
   rw[this,Yp] at e;by_cases q:a=b
   .subst q;rw[beq_self_eq_true] at e;obtain rfl:=sj e;exact R
   .rw[beq_eq_false_iff_ne.mpr q] at e;exact jO (as:=r) a o e
theorem xR{K:Frag}{h:Ji}{m:Jq->Option Jf}(X:K.In h)(N:h.Ns a m)(e:nsIn K a x=Ja (Ja v)):m x=Ja v:=by
 obtain⟨o,s,H,w,W,o0,f⟩:=N;unfold nsIn at e
 induction l:K.lookup a with
 |none=>rw[l] at e;exact ns e
 |some b=>
  obtain⟨c,d,t,B⟩:=b;rw[l] at e;have:=X _ _ l;obtain rfl:=sj<|w.symm.trans this;cases W;dsimp only at e
  induction n:s.toList.find? (·.key.isStr x) with
  |some p=>
   rw[n] at e;cases e;rw[<-f];unfold nsFind findBy;rw[<-Array.find?_toList,n];rfl
  |none=>
   rw[n] at e;dsimp only at e;by_cases q:s.toList.any (·.refKey)=Jc
   .exact ns<|(Ug q).symm.trans e
   .rw[Uf q] at e;cases e
end
theorem pT{ns:List Jq}:∀ {vs:List Jf},vs.length=ns.length->ns.Nodup->∀n∈ns,((ns.zip vs).lookup n).isSome=Jc:=by
 induction ns with
 |nil=>intro vs _ _ n h;cases h
 |cons a r i=>
  intro vs l d n h
  induction vs using List.casesOn with
  |nil=>simp at l
  |cons v vs=>
   simp only[Wt];by_cases q:n=a
   .subst q;rw[CN];rfl
   .rw[bT q];exact i (by simpa using l) (Qy.mp d).2 n ((Qw.mp h).resolve_left q)
theorem lW{ns:List Jq}:∀ {vs:List Jf},vs.length=ns.length->ns.Nodup->ns.filterMap (λn=>((ns.zip vs).lookup n).map (n,·))=ns.zip vs:=by
 induction ns with
 |nil=>intro vs _ _;rfl
 |cons a r W=>
  intro vs T d
  induction vs using List.casesOn with
  |nil=>simp at T
  |cons v vs=>
   simp only[Wt,List.filterMap_cons,CN,Wc]
   congr 1
   have key:∀l:List Jq,a∉l->l.filterMap (λn=>(YE n ((a,v)::r.zip vs)).map (n,·))=l.filterMap (λn=>((r.zip vs).lookup n).map (n,·)):=by
    intro l
    induction l with
    |nil=>intro _;rfl
    |cons b q i=>
     intro h;simp only[Qw,not_or] at h;simp only[List.filterMap_cons,bT (λe=>h.1 e.symm:b≠a),i h.2]
   rw[key r (Qy.mp d).1];exact W (by simpa using T) (Qy.mp d).2
theorem qT{L:Type}{a b:Sem L}(h:c=Jd):(if c=Jc then a else b)=b:=by rw[h];rfl
theorem je{f:Jr}{as:List Arg}{z:List (Option Jl)}{ds:List Jl}{v:List Jf}(N:f.params={posonlyargs:=[],args:=as,vararg:=Jb,kwonlyargs:=[],kw_defaults:=z,kwarg:=Jb,defaults:=ds})
  (q:f.defaults= .none) (nd:(as.map (·.arg)).Nodup) (l:v.length=as.length):Y2 f ⟨v,[]⟩=pure ((as.map (·.arg)).zip v):=by
 have h:v.length=(as.map (·.arg)).length:=by simpa using l
 have e:((as.map (·.arg)).filter λn=>(((as.map (·.arg)).zip v).lookup n).isNone)=[]:=by
  rw[Wy];intro n o;have:=pT h nd n o;simp[Option.isSome_iff_ne_none.mp this]
 have w:=lW h nd;have d:∀k,Wz k ([]:List Jf)=[]:=λk=>List.drop_nil;obtain⟨o0,o0,o0,o0,o0,o0,o0,o0,o0,o0,o0,o0,o0,o0,o0⟩:=f;cases N;cases q;unfold Y2;dsimp only[WH,Kv];refine(qT (c:=decide (v.length>(as.map (·.arg)).length)&&Jc)<|by rw[h,Ud (KJ _)];rfl).trans ?_;refine(qT (c:= !(Wg (λn=>(((as.map (·.arg)).zip v).lookup n).isNone) (List.take ((as.map (·.arg)).length-(Wz (0-(as.map (·.arg)).length) ([]:List Jf)).length) (as.map (·.arg)))).isEmpty)<|by rw[d,Ww,Nat.sub_zero,Kh,e];rfl).trans ?_;dsimp only[Option.getD_none];rw[d,List.zip_nil_right];show(pure (List.filterMap (λn=>Wa (λx=>(n,x)) (YE n ((as.map (·.arg)).zip v))) (as.map (·.arg)++[])):Sem (List<|Str×Jf))=_;rw[QH];exact Uj pure w
section
open PySem.W PyProof.Rows
theorem jf{ps:List String}(h:nJ ps a=Jc):X3 λas k ds=>a={posonlyargs:=[],args:=as,vararg:=Jb,kwonlyargs:=[],kw_defaults:=k,kwarg:=Jb,defaults:=ds}/\as.map (·.arg)=ps.map Qb:=by
 obtain⟨p,as,v,o,k,w,ds⟩:=a
 induction p using List.casesOn with
 |cons=>exact D6 h
 |nil=>induction v with
  |some=>exact D6 h
  |none=>induction o with
   |cons=>exact D6 h
   |nil=>induction w with
    |some=>exact D6 h
    |none=>exact⟨as,k,ds,rfl,Uh h⟩
theorem cN{L:Type}{o:Option L}{p:L->Bool}(h:o.any p=Jc):∃x,o=Ja x/\p x=Jc:=by
 induction o with
 |none=>exact ft h
 |some x=>exact⟨x,rfl,h⟩
theorem kN(h:FA o=Ja a):o=Ja (.ref a):=by
 induction o with
 |none=>exact ns h
 |some v=>induction v using Value.casesOn with
  |ref b=>obtain rfl:=sj h;rfl
  |_=>exact ns h
theorem na{d:Data}(h:GK d=Ja c):d= .cls c:=by
 induction d with
 |cls b=>obtain rfl:=sj h;rfl
 |_=>exact ns h
theorem xP:mY h b=Jc->J1 h H2 b:=by
 induction b with
 |nil=>exact λe=>ft e
 |cons v l i=>
  intro e
  rcases Wq.mp e with e|e
  .rw[Uh e];exact .base
  .obtain⟨A,r,e⟩:=cN e;obtain⟨⟨W,U,t,s⟩,o,e⟩:=cN e;obtain⟨d,c,e⟩:=cN e;obtain⟨T,w,X⟩:=Dp e;rw[sj (kN r)];have c:t= .cls d:=na c;subst c;exact .own o (.of_isNs T) (Kg.mp w)<|i X
theorem sO(h:rZ l=Jc):X5 λS P U k O=>l=[S,P,U,k,Ja (.builtin "ValueError.__new__"),O]:=⟨_,_,_,_,_,Uh h⟩
theorem wp(e:mroOK h k l=Jc):∃b,l= .ref k::b/\mY h b=Jc:=by
 induction l using List.casesOn with
 |nil=>exact ft e
 |cons v b=>
  obtain⟨c,σ⟩:=Qi.mp e;exact⟨b,by rw[Uh c],σ⟩
theorem oA{d:Data}(h:qw d=Ja f):d= .func f:=by
 induction d with
 |func T=>obtain rfl:=sj h;rfl
 |_=>exact ns h
theorem pg{d:FuncBody}(h:qf d=Ja b):d= .stmts b:=by
 induction d with
 |stmts c=>obtain rfl:=sj h;rfl
 |_=>exact ns h
theorem uK{o:Jp}{c:ClassData}{S P U F O:Option Jf}(N:o.cls= .type "type")(p:o.data= .cls c)(J:c.mro= .ref k::b)(w:c.hasDict=Jc)(B:c.hasDel=Jd)(W:o.slots.toList=[S,P,U,F,Ja (.builtin n),O]):
  o=JE c.name c.qualname k c.ns c.bases b Jc c.slotNames c.subclasses c.abstract c.collection o.dict S P U F O n:=by
 obtain⟨M,f,t,⟨s⟩⟩:=o;obtain⟨nm,bs,m,ns,q,h,sn,sub,a,l,d⟩:=c;cases N;cases p;cases J;cases w;cases B;cases W;rfl
inductive Ib(h:Ji)(names:List String)(oI:Jp):Prop
 |mk (fd:Jr) (body:List Jo) (hfc:oI.cls= .type "function") (hd:oI.data= .func fd) (cd:h.CodeRec fd.code fd.qualname) (hb:fd.body= .stmts body) (clo:fd.closure=[]) (bind:∀vals:List Jf,vals.length=names.length+1->Y2 fd ⟨vals,[]⟩=pure ((("self"::names).map Qb).zip vals))
  (par:∀x∈"self"::names,fd.scope.names.lookup (Qb x)=Ja .local/\(Qb x==("__debug__":Jq))=Jd) (nd:("self"::names).Nodup) (co:fd.scope.isCoroutine=Jd) (gen:fd.scope.isGenerator=Jd) (kind:fd.scope.kind= .function) (mat:EW fd.scope names body=Jc):Ib h names oI
theorem x7{names:List String}(m:fnObj h names o=Jc):Ib h names o:=by
 obtain⟨J,z⟩:=Qi.mp m;obtain⟨d,f,s⟩:=cN z;obtain⟨b,R,V⟩:=cN s;obtain⟨F,L,a,D⟩:=FZ V;have K:=Dp F;have c:=Dp L;have O:=Dp a;obtain⟨M,k,E,N,q⟩:=jf c.1;have nd:("self"::names).Nodup:=Ue c.2.2;refine⟨d,b,Uh J,oA f,.of_ok K.1,pg R,List.isEmpty_iff.mp K.2.1,λv T=> ?_,λx hx=> ?_,nd,(QT _).mp O.1,(QT _).mp O.2.1,Uh O.2.2,D⟩
 .have l:v.length=M.length:=by
   have:=Uj YF q;rw[Qd,Qd,KW] at this;rw[this];exact T
  rw[<-q];exact je N (Uh K.2.2) (by rw[q];exact c3 nd) l
 .obtain⟨Y,t⟩:=Qi.mp<|Qx.mp c.2.1 x hx;exact⟨Uh Y,(QT _).mp t⟩
theorem zr{h:Ji}{K:Frag}{k:Jg}{names:List String}(e:iniOK h K k names=Jc):EI h K k names:=by
 obtain⟨p,y,W,u⟩:=FZ e;obtain⟨o,a,E⟩:=cN p;obtain⟨c,d,V⟩:=cN E;obtain⟨A,R,j⟩:=Dp V;have g:=Dp A;have X:=Dp R;obtain⟨f,w,B⟩:=cN j;obtain⟨S,I,m⟩:=cN B;obtain⟨r,b,Y,z,i,v,L,U,M,J,O,N,n,T⟩:=x7 m;obtain⟨σ,Q,t⟩:=wp g.2.2;obtain⟨H,P,D,F,G,s⟩:=sO g.2.1;have C:=a.trans<|congrArg Ja (uK (Uh g.1) (na d) Q X.1 ((QT _).mp X.2.1) s);exact⟨σ,c.ns,c.name,c.qualname,c.bases,c.slotNames,c.subclasses,c.abstract,c.collection,o.dict,H,P,D,F,G,h.nsMap c.ns,f,S,r,b,C,.of_isNs X.2.2,kN w,xP t,I,Y,z,i,v,L,U,M,J,O,N,n,T,Uh y,(λq=>by rw[q] at W;exact ft W),Ue u⟩
theorem EI.keeps{h A:Ji}{K:Frag}{k:Jg}{names:List String}(I:EI h K k names)(kp:∀b o,h.get? b=Ja o->A.get? b=Ja o):EI A K k names:=by
 obtain⟨M,N,nm,q,bs,sn,sub,a,D,R,v,P,U,F,O,Y,H,S,r,d,C,L,t,T,G,f,J,W,B,c,i,p,u,x,g,n,m,s,l⟩:=I;exact⟨M,N,nm,q,bs,sn,sub,a,D,R,v,P,U,F,O,Y,H,S,r,d,kp _ _ C,L.keeps kp,t,T.keeps kp,kp _ _ G,f,J,W.keeps kp,B,c,i,p,u,x,g,n,m,s,l⟩
end
section
open PySem.W PyProof.Rows
theorem y6{h:Ji}{o:Jp}{f:Jr}(w:h.get? a=Ja o)(d:o.data= .func f)(R:f.body= .stmts body)(e:fnB h ps f=Jc):FnIn h ps a o f body:=by
 obtain⟨F,L,H,D⟩:=FZ e;have b:=Dp F;have c:=Dp L;have O:=Dp H;have Q:=Dp D;obtain⟨s,k,z,N,q⟩:=jf c.2.2;have nd:ps.Nodup:=Ue O.2.1;refine⟨w,d,.of_ok b.1,R,List.isEmpty_iff.mp b.2.1,Uh c.1,Uh c.2.1,λv T=> ?_,O.1,nd,(QT _).mp Q.1,(QT _).mp Q.2.1,Uh Q.2.2,O.2.2⟩;have l:v.length=s.length:=by
  have:=Uj YF q;rw[Qd,Qd] at this;exact T.trans this.symm
 rw[<-q];exact je N (Uh b.2.2) (by rw[q];exact c3 nd) l
inductive FnS(h:Ji)(ps:List String)(mt:Jk->List Jo->Bool)(a:Jg):Prop
 |mk (o:Jp) (fd:Jr) (body:List Jo) (F:FnIn h ps a o fd body) (c:o.cls= .type "function") (m:mt fd.scope body=Jc):FnS h ps mt a
theorem r8{m:Jk->List Jo->Bool}(e:pZ h ps m a=Jc):FnS h ps m a:=by
 obtain⟨o,w,T⟩:=cN e;obtain⟨F,X⟩:=Qi.mp T;obtain⟨d,f,u⟩:=cN X;obtain⟨b,R,V⟩:=cN u;obtain⟨q,N⟩:=Qi.mp V;exact⟨o,d,b,y6 w (oA f) (pg R) q,Uh F,N⟩
theorem FnS.keeps{h A:Ji}{t:Jk->List Jo->Bool}(x:FnS h ps t a)(kp:∀b o,h.get? b=Ja o->A.get? b=Ja o):FnS A ps t a:=by obtain⟨o,f,b,F,c,m⟩:=x;exact⟨o,f,b,F.keeps kp,c,m⟩
inductive Gl(h:Ji)(K:Frag)(c:Fu)(a:Jg)(t:Fn):Prop
 |mk (m:Jg) (p:bQ t.f=Jd) (cn:cOf t.f=c.nm) (n:GO t.f∉c.fs) (e:findIn K (.ref a) (Qb (GO t.f))=Ja (Ja (.ref m))) (ty:typeIn K (.ref m)=Ja (.type "function")) (F:FnS h t.ps (λsc b=>Ha sc t.b b) m):Gl h K c a t
inductive Dq(h:Ji)(K:Frag)(c:Fu)(a:Jg):Prop
 |mk (fI:Jg) (N:Ew h a fI c.fs) (F:FnS h ("self"::c.as) (initM c) fI) (ga:findIn K (.ref a) "__getattribute__"=Ja (Ja (.builtin "object.__getattribute__"))) (gh:findIn K (.ref a) "__getattr__"=Ja Option.none) (dct:hasDictIn K a=Jc)
  (fl:∀f∈c.fs,findIn K (.ref a) (Qb f)=Ja Option.none) (ms:∀t∈c.ms,Gl h K c a t) (ne:c.fs.Nodup) (pn:bQ c.nm=Jc) (h50:c.fs.length<=50):Dq h K c a
theorem pV(h:tC l=Jc):X5 λS P U k O=>l=[S,P,U,k,Ja (.builtin "object.__new__"),O]:=⟨_,_,_,_,_,Uh h⟩
theorem wk{h:Ji}{K:Frag}{c:Fu}{a:Jg}{t:Fn}(e:methB h K c a t=Jc):Gl h K c a t:=by
 obtain⟨T,F,X⟩:=Dp e;obtain⟨T,b⟩:=CL T;obtain⟨m,N,p⟩:=cN X;obtain⟨J,w⟩:=Qi.mp p;have B:=kN N;refine⟨m,(QT _).mp T,Uh b,by simpa using F,?_,Uh J,r8 w⟩
 induction q:findIn K (.ref a) (Qb<|GO t.f) with
 |none=>rw[q] at B;exact ns B
 |some u=>rw[q] at B;exact Uj Ja B
theorem z8{h:Ji}{K:Frag}{c:Fu}{a:Jg}(e:clsB h K c a=Jc):Dq h K c a:=by
 obtain⟨p,j,W,u⟩:=FZ e;obtain⟨o,Y,V⟩:=cN p;obtain⟨d,v,q⟩:=cN V;obtain⟨L,Q,G,P⟩:=FZ q;have g:=Dp L;have X:=Dp Q;have T:=Dp G;obtain⟨I,w,B⟩:=cN P;obtain⟨S,b,U,F,O,s⟩:=pV g.2.1;have C:=Y.trans<|congrArg Ja (uK (Uh g.1) (na v) (Uh g.2.2) X.1 ((QT _).mp X.2.1) s);rw[(QT _).mp X.2.2] at C;have k:=FZ j;refine⟨I,⟨d.name,d.qualname,d.ns,d.bases,d.slotNames,d.subclasses,d.collection,o.dict,S,b,U,F,O,h.nsMap d.ns,C,.of_isNs T.1,kN w,Kg.mp T.2.1,λf m=> ?_⟩,r8 B,Uh k.1,Uh k.2.1,k.2.2.1,λf m=>Uh<|Qx.mp k.2.2.2 f m,λt H=>wk<|Qx.mp W t H,Ue (Dp u).1,(Dp u).2.1,Ue (Dp u).2.2⟩;obtain⟨z1,z2⟩:=Qi.mp<|Qx.mp T.2.2 f m;exact⟨Kg.mp z1,by rw[typeLookup_type,builtinLookup_eq_fast,Uh z2]⟩
theorem Dq.keeps{h A:Ji}{K:Frag}{c:Fu}{a:Jg}(x:Dq h K c a)(kp:∀b o,h.get? b=Ja o->A.get? b=Ja o):Dq A K c a:=by
 obtain⟨f,N,F,g,L,d,fl,s,ne,T,E⟩:=x;exact⟨f,N.keeps kp,F.keeps kp,g,L,d,fl,λt W=>by obtain⟨m,p,Y,n,e,y,F⟩:=s t W;exact⟨m,p,Y,n,e,y,F.keeps kp⟩,ne,T,E⟩
structure Seen(h:Ji)(K:Frag)(k:DI):Prop where
 kin:K.In h
 ok:kG K k=Jc
 ini:∀c∈k.inis,k.cs.contains c=Jc/\∃a,b9 K c=Ja a/\EI h K a (k.flds c)
 cls:∀c∈k.cl,∃a,b9 K c.nm=Ja a/\Dq h K c a
def hookE(k:DI):Hook where
 α:=Bool
 obs:=obsE k
 val:=λo0=>Jc
 says:=λo0 h=>∃K:Frag,Seen h K k
 of:=λo0 s e=>⟨_,jO,(Dp e).1,λc C=>by
  obtain⟨N,p⟩:=Qi.mp<|Qx.mp (Dp e).2.1 c C;obtain⟨a,J,w⟩:=cN p;exact⟨N,a,J,zr w⟩,λc C=>by
  obtain⟨a,J,w⟩:=cN (Qx.mp (Dp e).2.2 c C);exact⟨a,J,z8 w⟩⟩
 keeps:=λo0 h A z kp=>by obtain⟨K,a⟩:=z;exact⟨K,a.kin.keeps kp,a.ok,λc C=>by obtain⟨N,b,p,J⟩:=a.ini c C;exact⟨N,b,p,J.keeps kp⟩,λc C=>by obtain⟨b,p,J⟩:=a.cls c C;exact⟨b,p,J.keeps kp⟩⟩
end
section
open PySem.W PyProof.Rows
def HZ(p:Jn)(t:Fn):Bool:=
 match (recsOf p).find? λd=>d.name==Qb t.f with
 |some d=>nJ t.ps d.params&&(t.ps.all λp=>d.scope.names.lookup (Qb p)==Ja .local||d.scope.names.lookup (Qb p)==Ja .cell)&&decide t.ps.Nodup&& !d.scope.isCoroutine&& !d.scope.isGenerator&&
   d.scope.kind== .function&&(d.scope.names.all λp=>p.2 != .free)&&Ha d.scope t.b d.body&&bQ t.f
 |none=>Jd
noncomputable def valIs:Option YT->PV->Bool
 |some (.int j),.int i=>j==i
 |some (.str j),.str i=>j==Qb i
 |_,_=>Jd
def Gr(p:Jn)(loose:List Jq)(gl:List (String×PV))(tab:List Fn):Bool:=
 (tab.all (HZ p))&&(Ef.all λx=> !startupNames.contains (Qb x)&& !loose.contains (Qb x)&& !((recsOf p).map (·.name)).contains (Qb x)&& !((litsOf p).map (·.1)).contains (Qb x)&&
  !((clssOf p loose).map (·.name)).contains (Qb x))&&gl.all λq=>valIs (valOf p (Qb q.1)) q.2
def rK(p:Jn)(loose:List Jq)(k:DI):Bool:=
 (k.mks.all λc=>k.cs.contains c&&specOf p (Qb c)==Ja ("ValueError.__new__",bmV)&&(k.flds c).isEmpty)&& !k.cs.contains "ValueError"&&
 (!startupNames.contains (Qb "ValueError")&& !loose.contains (Qb "ValueError")&& !((recsOf p).map (·.name)).contains (Qb "ValueError")&& !((litsOf p).map (·.1)).contains (Qb "ValueError")&&
  !((clssOf p loose).map (·.name)).contains (Qb "ValueError"))
def HF(K:Frag)(k:DI)(f:String):Option Jf:=(k.cl.find? λc=>f==c.nm||c.ms.any (·.f==f)).bind λc=>(b9 K c.nm).bind λa=>if f=c.nm then Ja (.ref a) else(findIn K (.ref a)<|Qb (GO f)).getD Jb
def GQ(prog:Jn)(w:Jm)(B:Ji)(mg:Jq->Option Jf)(tab:List Fn)(K:Frag)(k:DI):Cx:=
 {prog,w,B,cls:=λc=>if k.cs.contains c then b9 K c else Jb,fv:=λf=>if tab.any (·.f==f) then mg (Qb f) else HF K k f,ok:=True,calm:=True,K,flds:=k.flds,icl:=λn=>if k.cl.any (·.nm==n) then b9 K n else Jb}
noncomputable def gxE(gl:List (String×PV))(tab:List Fn)(k:DI):Gx:=
 {glob:=λx=>gl.lookup x,sub:=k.sub,full:=Jc,fn:=λf=>tab.any (·.f==f)||k.cl.any λc=>f==c.nm||c.ms.any (·.f==f),calm:=Jc,cs:=k.cs,mks:=k.mks,inis:=k.inis,flds:=k.flds}
theorem oh{h:Ji}{o:Jp}(T:h.get? a=Ja o)(d:o.data= .func f):Looks M h (keeperOf (.ref a)) .frame:=by
 intro A Q E s q X;unfold keeperOf;refine YG<|wpAny_load (q a o T) ?_;rw[d];exact YH X
section
variable{prog p:Jn}{w:Jm}{B:Ji}{mg mb:Jq->Option Jf}{loose:List Jq}{mean:ExcName->Option Jf}{gl:List (String×PV)}{tab:List Fn}{K:Frag}{k:DI}
theorem yI(T:Top p loose mean mg mb B){t:Fn}(H:t∈tab)(h:HZ p t=Jc):X4 λa o f body=>FO (GQ prog w B mg tab K k) t.f t.ps t.b a o f body/\mg (Qb t.f)=Ja (.ref a):=by
 unfold HZ at h
 induction q:(recsOf p).find? λd=>d.name==Qb t.f with
 |none=>rw[q] at h;exact ft h
 |some d=>
  rw[q] at h;simp only[QL,QT,Ui,beq_iff_eq] at h;obtain⟨⟨⟨⟨⟨⟨⟨⟨E,Y⟩,J⟩,O⟩,u⟩,W⟩,S⟩,y⟩,i⟩:=h;have n:d.name=Qb t.f:=by simpa using Yx q
  obtain⟨a,o,m,c,P,e,F,X,A⟩:=T.fn d<|Wm q;obtain⟨s,z,I,N,σ⟩:=jf E;rw[n] at e;refine⟨a,o,_,d.body,⟨⟨F,X,A,rfl,rfl,rfl,rfl,λv r=> ?_,Y,J,O,u,W,S⟩,?_,⟨.frame,.inl rfl,oh F X⟩,y⟩,e⟩
  rotate_left
  .show(if tab.any (·.f==t.f) then mg (Qb t.f) else HF K k t.f)=_;rw[Ug (Ki.mpr ⟨t,H,by simp⟩)];exact e
  .have l:v.length=s.length:=by
    have:=Uj YF σ;simp only[Qd] at this;exact r.trans this.symm
   rw[<-σ];exact je N rfl (by rw[σ];exact c3 J) l
theorem nU(X:K.In B)(N:B.Ns JA mg)(e:b9 K c=Ja a):mg (Qb c)=Ja (.ref a):=by
 unfold b9 at e
 induction h:nsIn K JA (Qb c) with
 |none=>rw[h] at e;exact ns e
 |some o=>induction o with
  |none=>rw[h] at e;exact ns e
  |some v=>
   rw[h] at e
   induction v using Value.casesOn with
   |ref b=>obtain rfl:=sj e;exact xR X N h
   |_=>exact ns e
theorem sm{tab:List Fn}(h:tab.all (HZ p)=Jc)(j:tab.any (·.f==f)=Jc):bQ f=Jc:=by
 obtain⟨t,W,e⟩:=Ki.mp j;have e:t.f=f:=Uh e;subst e;have h:=Qx.mp h t W;unfold HZ at h
 induction v:(recsOf p).find? λd=>d.name==Qb t.f with
 |none=>rw[v] at h;exact ft h
 |some d=>rw[v] at h;exact(Qi.mp h).2
inductive FvS(B:Ji)(K:Frag)(k:DI)(f:String)(v:Jf):Prop
 |cls (c:Fu) (a:Jg) (h:c∈k.cl) (ha:b9 K c.nm=Ja a) (S:Dq B K c a) (e:f=c.nm) (ev:v= .ref a):FvS B K k f v
 |me (c:Fu) (a m:Jg) (t:Fn) (h:c∈k.cl) (ha:b9 K c.nm=Ja a) (S:Dq B K c a) (ht:t∈c.ms) (e:t.f=f) (p:bQ f=Jd) (cn:cOf f=c.nm) (n:GO f∉c.fs) (q:findIn K (.ref a) (Qb (GO f))=Ja (Ja (.ref m))) (ty:typeIn K (.ref m)=Ja (.type "function")) (F:FnS B t.ps (λsc b=>Ha sc t.b b) m) (ev:v= .ref m):FvS B K k f v
theorem Dq.pn'{c:Fu}(S:Dq B K c a):bQ c.nm=Jc:=by obtain⟨f,N,F,V,g,d,fl,m,ne,n,h⟩:=S;exact n
theorem Dq.me{c:Fu}(S:Dq B K c a)(h:t∈c.ms):Gl B K c a t:=by obtain⟨f,N,F,V,g,d,fl,m,ne,n,E⟩:=S;exact m t h
theorem qY(l:∀c∈k.cl,∃a,b9 K c.nm=Ja a/\Dq B K c a)(h:HF K k f=Ja v):FvS B K k f v:=by
 obtain⟨c,σ,h⟩:=Qn.mp h;obtain⟨a,T,h⟩:=Qn.mp h;have C:=Wm σ;have D:=Yx σ;obtain⟨i,X,S⟩:=l c C;obtain rfl:=sj<|T.symm.trans X;by_cases q:f=c.nm
 .rw[Ug q] at h;exact .cls c a C T S q (sj h).symm
 .rw[Uf q] at h;have z:c.ms.any (·.f==f)=Jc:=(Wq.mp D).resolve_left λz=>q<|eq_of_beq z;obtain⟨t,W,e⟩:=Ki.mp z;have e:t.f=f:=Uh e;subst e;obtain⟨m,p,Y,n,e,y,F⟩:=S.me W;rw[e] at h;exact .me c a m t C T S W rfl p Y n e y F (sj h).symm
theorem t7{c:Fu}(h:∀c∈k.cl,∃a,b9 K c.nm=Ja a/\Dq B K c a)(C:c∈k.cl)(j:(f=c.nm/\bQ f=Jc)\/(bQ f=Jd/\cOf f=c.nm/\∃t∈c.ms,t.f=f)):HF K k f=(b9 K c.nm).bind λa=>if f=c.nm then Ja (.ref a) else(findIn K (.ref a) (Qb (GO f))).getD Jb:=by
 have b:(f==c.nm||c.ms.any (·.f==f))=Jc:=by
  rcases j with⟨rfl,o0⟩|⟨o0,o0,t,W,rfl⟩
  .rw[beq_self_eq_true];rfl
  .rw[Ki.mpr ⟨t,W,beq_self_eq_true t.f⟩,Bool.or_true]
 unfold HF
 induction q:k.cl.find? (λc=>f==c.nm||c.ms.any (·.f==f)) with
 |none=>exact absurd b<|List.find?_eq_none.mp q c C
 |some Q=>
  have L:=Wm q;have D:=Yx q;obtain⟨o0,o0,S⟩:=h Q L;have e:Q.nm=c.nm:=by
   rcases Wq.mp D with z|z
   .have z:f=Q.nm:=Uh z
    rcases j with⟨z2,o0⟩|⟨z2,o0⟩
    .exact z.symm.trans z2
    .rw[z,S.pn'] at z2;exact tf z2
   .obtain⟨t,W,z⟩:=Ki.mp z;have z:t.f=f:=Uh z;obtain⟨m,p,n,o0⟩:=S.me W;rw[z] at p n
    rcases j with⟨o0,z2⟩|⟨o0,z2,o0⟩
    .exact tf<|z2.symm.trans p
    .exact n.symm.trans z2
  rw[KF,e]
theorem rp{c:Fu}(h:∀c∈k.cl,∃a,b9 K c.nm=Ja a/\Dq B K c a)(C:c∈k.cl)(T:b9 K c.nm=Ja a)(S:Dq B K c a):HF K k c.nm=Ja (.ref a):=by
 rw[t7 h C (.inl ⟨rfl,S.pn'⟩),T,KF];exact Ug rfl
theorem vQ{c:Fu}{t:Fn}(h:∀c∈k.cl,∃a,b9 K c.nm=Ja a/\Dq B K c a)(C:c∈k.cl)(T:b9 K c.nm=Ja a)(S:Dq B K c a)(W:t∈c.ms)(p:bQ t.f=Jd)(n:cOf t.f=c.nm)(e:findIn K (.ref a) (Qb (GO t.f))=Ja (Ja (.ref m))):HF K k t.f=Ja (.ref m):=by
 rw[t7 h C (.inr ⟨p,n,t,W,rfl⟩),T,KF,Uf<|λq=>by rw[q,S.pn'] at p;exact tf p,e];rfl
theorem yH{C:Cx}{t:Jk->List Jo->Bool}(F:FnS C.B ps t m):Kp C (.ref m):=by obtain⟨o,f,b,F,o0,o0⟩:=F;exact⟨.frame,.inl rfl,oh F.ho F.hd⟩
theorem AM(T:Top p loose mean mg mb B)(X:K.In B)(l:∀c∈k.cl,∃a,b9 K c.nm=Ja a/\Dq B K c a)(h:Gr p loose gl tab=Jc):D4 (GQ prog w B mg tab K k) (gxE gl tab k) mg mb:=by
 unfold Gr at h;simp only[QL] at h;obtain⟨⟨Y,Q⟩,J⟩:=h;refine⟨T.g,T.b,T.nolimit,λx hx=> ?_,λx q U=> ?_,(λo0=>trivial),λo0=>trivial,λf v I W=> ?_,λf W=> ?_⟩
 .have:=Qx.mp Q x hx;simp only[QL,QT,List.contains_eq_mem,decide_eq_false_iff_not] at this;obtain⟨⟨⟨⟨a,b⟩,c⟩,d⟩,e⟩:=this;refine⟨T.free _ a b c d e,T.builtins _ λq=> ?_⟩;exact absurd (show "__name__"∈Ef from CV q▸hx)<|by decide
 .have V:gl.lookup x=Ja q:=U;have O:(x,q)∈gl:=by
   clear J Y Q U
   induction gl with
   |nil=>simp at V
   |cons a r A=>
    obtain⟨y,j⟩:=a;by_cases e:x=y
    .subst e;simp at V;subst V;exact Ko
    .rw[Yp,beq_eq_false_iff_ne.mpr e] at V;exact Kn _<|A V
  have:=Qx.mp J _ O
  induction E:valOf p (Qb x) with
  |none=>rw[E] at this;exact ft this
  |some d=>
   rw[E] at this;obtain⟨v,L,e2⟩:=T.const _ _ E;refine⟨v,L,λZ h=> ?_⟩;have s:=e2 h
   induction d using PyData.casesOn with
   |int j=>induction q using PV.casesOn with
    |int i=>
     have e:j=i:=Uh this;subst e;cases s;exact⟨_,rfl⟩
    |_=>exact ft this
   |str j=>induction q using PV.casesOn with
    |str i=>
     have e:j=Qb i:=Uh this;subst e;cases s;exact⟨_,rfl⟩
    |_=>exact ft this
   |_=>exact ft this
 .show mg _=_;replace W:(if tab.any (·.f==f) then mg (Qb f) else HF K k f)=Ja v:=W;by_cases q:tab.any (·.f==f)=Jc
  .rw[Ug q] at W;exact W
  .rw[Uf q] at W
   rcases qY l W with⟨c,a,h,D,S,rfl,rfl⟩|⟨c,a,m,t,h,D,S,H,e,P,o0⟩
   .exact nU X T.g D
   .exact tf<|I.symm.trans P
 .by_cases q:tab.any (·.f==f)=Jc
  .obtain⟨t,H,e⟩:=Ki.mp q;have e:t.f=f:=by simpa using e
   subst e;obtain⟨a,o,fd,M,F,L⟩:=yI (prog:=prog) (w:=w) (tab:=tab) (K:=K) (k:=k) T H<|Qx.mp Y t H;exact⟨.ref a,F.fv,F.kp⟩
  .have W:k.cl.any (λc=>f==c.nm||c.ms.any (·.f==f))=Jc:=(Wq.mp W).resolve_left q;have G:∀v,HF K k f=Ja v->(GQ prog w B mg tab K k).fv f=Ja v:=λv e=>(Uf q).trans e;obtain⟨c,σ,W⟩:=Ki.mp W;obtain⟨a,D,S⟩:=l c σ;obtain⟨fI,N,F,ga,gh,R,fl,g,ne,pn,aa⟩:=id S
   rcases Wq.mp W with z|z
   .obtain rfl:=Uh z;exact⟨.ref a,G _<|rp l σ D S,Ew.kp (C:=GQ prog w B mg tab K k) N⟩
   .obtain⟨t,H,e⟩:=Ki.mp z;have e:t.f=f:=Uh e;subst e;obtain⟨m,p,u,n,e,ty,F⟩:=g t H;exact⟨.ref m,G _<|vQ l σ D S H p u e,yH (C:=GQ prog w B mg tab K k) F⟩
end
section
variable{prog p:Jn}{w:Jm}{B:Ji}{mg mb:Jq->Option Jf}{loose:List Jq}{mean:ExcName->Option Jf}{gl:List (String×PV)}{tab:List Fn}{K:Frag}{k:DI}
theorem lJ{l:List Jq}(h:(!l.contains x)=Jc):x∉l:=λq=>by rw[List.contains_iff_mem.mpr q] at h;exact ft h
theorem iq(h:kG K k=Jc)(C:k.cs.contains c=Jc):∃a,A5 (b9 K c=Ja a) (dS K a=Jc) (exmOne K (.ref a) (.type "ValueError")=Ja (k.sub c "ValueError")) (∀f∈k.flds c,findIn K (.ref a) (Qb f)=Ja Jb) (∀d b,k.cs.contains d=Jc->b9 K d=Ja b->exmOne K (.ref a) (.ref b)=Ja (k.sub c d)):=by
 have N:=Qx.mp h c (by simpa using C);unfold vy at N
 induction e:b9 K c with
 |none=>rw[e] at N;exact ft N
 |some a=>
  rw[e] at N;obtain⟨Y,J,W,O⟩:=FZ N;refine⟨a,rfl,Y,beq_iff_eq.mp J,λf j=>beq_iff_eq.mp<|Qx.mp W f j,λd b v R=> ?_⟩;have n:=Qx.mp O d (by simpa using v);rw[R] at n;exact beq_iff_eq.mp n
theorem yK(T:Top p loose mean mg mb B)(X:K.In B)(h:kG K k=Jc)(i:∀c∈k.inis,k.cs.contains c=Jc/\∃a,b9 K c=Ja a/\EI B K a (k.flds c))(hp:rK p loose k=Jc)(g:∀c∈k.cl,∃a,b9 K c.nm=Ja a/\Dq B K c a)(j:∀c∈k.cl,k.flds c.nm=c.fs)(I:∀f,tab.any (·.f==f)=Jc->bQ f=Jc):Dm (GQ prog w B mg tab K k) (gxE gl tab k) mg mb:=by
 obtain⟨o,H,G⟩:=Dp hp;have l:∀ {c:String} {a:Jg},(GQ prog w B mg tab K k).cls c=Ja a->k.cs.contains c=Jc/\b9 K c=Ja a:=λ{c a} e=>by
  have e:(if k.cs.contains c then b9 K c else Jb)=Ja a:=e;by_cases q:k.cs.contains c=Jc
  .rw[Ug q] at e;exact⟨q,e⟩
  .exact ns<|(Uf q).symm.trans e
 have s:∀c,k.cs.contains c=Jc->∃a,(GQ prog w B mg tab K k).cls c=Ja a:=λc C=>by
  obtain⟨a,e,o0⟩:=iq h C;exact⟨a,(Ug C).trans e⟩
 refine⟨X,λc a e=>nU X T.g (l e).2,s,λc C=> ?_,λc a d b L R=> ?_,λc=>rfl,λc C=> ?_,λc a f e r=> ?_,λc C=> ?_,λc a e P=> ?_,λE a e=> ?_,λc a e=> ?_,λc a e=> ?_,?_⟩
 .have C:k.mks.contains c=Jc:=C;exact s c (Dp<|Qx.mp o c (by simpa using C)).1
 .obtain⟨Y,σ⟩:=l L;obtain⟨q3,q4⟩:=l R;obtain⟨M,W,o0,o0,o0,u⟩:=iq h Y;obtain rfl:=sj<|σ.symm.trans W;exact u d b q3 q4
 .have C:k.mks.contains c=Jc:=C;exact List.isEmpty_iff.mp (Dp<|Qx.mp o c (by simpa using C)).2.2
 .obtain⟨Y,σ⟩:=l e;obtain⟨M,W,o0,o0,u,o0⟩:=iq h Y;obtain rfl:=sj<|σ.symm.trans W;exact u f r
 .have C:k.inis.contains c=Jc:=C;obtain⟨h1,a,h2,h3⟩:=i c (by simpa using C);exact⟨a,(Ug h1).trans h2,h3⟩
 .have P:k.mks.contains c=Jc:=P;have hs:=beq_iff_eq.mp (Dp<|Qx.mp o c (by simpa using P)).2.1;obtain⟨C',O,o0⟩:=T.ownAt hs;have L:=nU X T.g (l e).2;have R:=O.bound;rw[L] at R;cases R;exact O.own
 .have e:(if k.cl.any (·.nm==E) then b9 K E else Jb)=Ja a:=e;by_cases z:k.cl.any (·.nm==E)=Jc
  rotate_left
  .exact ns<|(Uf z).symm.trans e
  have ha:b9 K E=Ja a:=(Ug z).symm.trans e;obtain⟨c,C,z⟩:=Ki.mp z;obtain rfl:=Uh z;obtain⟨M,A,S⟩:=g c C;obtain rfl:=sj<|ha.symm.trans A;obtain⟨fI,N,F,ga,gh,J,fl,ms,ne,pn,aa⟩:=S;refine⟨ga,gh,J,λf r=>fl f<|j c C▸r,λf v y U hv=> ?_⟩;have hv:(if tab.any (·.f==f) then mg (Qb f) else HF K k f)=Ja v:=hv;by_cases q:tab.any (·.f==f)=Jc
  .exact tf<|(I f q).symm.trans y
  .rw[Uf q] at hv
   rcases qY g hv with⟨Q,D,h,V,S,rfl,rfl⟩|⟨Q,D,m,t,h,V,S,ht,e,pp,cn,n,q,ty,F,rfl⟩
   .exact tf<|S.pn'.symm.trans y
   .have en:Q.nm=c.nm:=cn.symm.trans U;have ef:Q.fs=c.fs:=(j Q h).symm.trans ((Uj k.flds en).trans (j c C));rw[en] at V;obtain rfl:=sj<|ha.symm.trans V;exact⟨m,rfl,q,ty,λx hx z=>n<|ef▸CV z▸(j c C▸hx:x∈c.fs)⟩
 .obtain⟨Y,σ⟩:=l e;obtain⟨M,L,R,o0⟩:=iq h Y;obtain rfl:=sj<|σ.symm.trans L;exact R
 .obtain⟨Y,σ⟩:=l e;obtain⟨M,W,o0,u,o0⟩:=iq h Y;obtain rfl:=sj<|σ.symm.trans W;exact u
 .have hv:k.cs.contains "ValueError"=Jd:=by simpa using H
  obtain⟨z1,z2,z3,z4,z5⟩:=and5 G;refine⟨by show(if k.cs.contains "ValueError" then _ else _)=_;rw[hv];rfl,T.free _ (lJ z1) (lJ z2) (lJ z3) (lJ z4)<|lJ z5,(T.builtins _<|by decide+kernel).trans (by decide+kernel)⟩
end
end
section
set_option backward.match.sparseCases true
open PySem.W PyProof.Rows
theorem mq:∀ {xs:List WData},WShape.hasItems [] xs .int=Jc->∃ns:List Int,xs=ns.map .int
 |[]=>λo0=>⟨[],rfl⟩
 |x::xs=>λh=>by
  have h:(WShape.has [] x .int&&WShape.hasItems [] xs .int)=Jc:=h;obtain⟨N,p⟩:=Qi.mp h;obtain⟨ns,rfl⟩:=mq p;have:∃i,x= .int i:=by
   exact hasW_int N
  obtain⟨i,rfl⟩:=this;exact⟨i::ns,rfl⟩
theorem vh:WShape.has [] (.bool Jc) .bool=Jc:=by decide+kernel
theorem ss:WTm.holds [] (.eq .res (.lit (.bool Jc))) {args:=a,res:=Ja (.bool Jc),after:=b}=Jc:=by
 have h:W.same (.bool Jc) (.bool Jc)=Jc:=by decide+kernel
 show(match Ja (WData.bool (W.same (.bool Jc) (.bool Jc))) with
  |some (.bool Jc)=>Jc
  |_=>Jd)=Jc
 rw[h]
theorem AR{xs:List WData}(h:63<xs.length):WTm.holds [] (.and (.not (.lt (.lit (.int (63:Nat))) (.len (.arg 0)))) (.lit (.bool Jc))) {args:=[.list xs]}=Jd:=by
 have e:less? (.int (63:Nat)) (.int (xs.length:Nat))=Ja Jc:=by simp[less?,Num.less?];exact Kc.mpr h
 have v:WTm.value [] (.lt (.lit<|.int (63:Nat))<|.len (.arg 0)) {args:=[.list xs]}=Ja (.bool Jc):=Uj (Wa WData.bool) e;have n:WTm.value [] (.not<|.lt (.lit<|.int (63:Nat)) (.len<|.arg 0)) {args:=[.list xs]}=Ja (.bool Jd):=by
  show(match WTm.value [] (.lt (.lit (.int (63:Nat))) (.len (.arg 0))) {args:=[.list xs]} with
   |some (.bool b)=>Ja<|WData.bool (!b)
   |_=>Jb)=_
  rw[v];rfl
 have M:WTm.value [] (.and (.not<|.lt (.lit<|.int (63:Nat)) (.len<|.arg 0))<|.lit (.bool Jc)) {args:=[.list xs]}=Ja (.bool Jd):=by
  show(match WTm.value [] (.not (.lt (.lit (.int (63:Nat))) (.len (.arg 0)))) {args:=[.list xs]} with
   |some (.bool Jd)=>Ja<|WData.bool Jd
   |some (.bool Jc)=>(match WTm.value [] (.lit (.bool Jc)) {args:=[.list xs]} with
    |some (.bool x)=>Ja<|.bool x
    |_=>Jb)
   |_=>Jb)=_
  rw[n]
 unfold WTm.holds;rw[M]
theorem uJ{l:OpenLaw}(m:l.most=Ja 63)(b:l.bound=Jb){args:List WData}(h:l.row.toRowW.claim.pre args=Jc):∃ns:List Int,args=[.list (ns.map .int)]/\ns.length<=63:=by
 have h:(WShape.hasAll [] args [.list .int]&&(OpenLaw.pre l).holds [] {args:=args})=Jc:=h;simp only[QL] at h;obtain⟨N,p⟩:=h
 match args,N with
 |[x],N=>
  have hx:∃s,x= .list s/\WShape.hasItems [] s .int=Jc:=by
   have N:(WShape.has [] x (.list .int)&&WShape.hasAll [] [] [])=Jc:=N;have N:=(Qi.mp N).1;exact hasW_list N
  obtain⟨s,rfl,hx⟩:=hx;obtain⟨ns,rfl⟩:=mq hx;refine⟨ns,rfl,?_⟩;unfold OpenLaw.pre at p;rw[m,b] at p;by_cases T:ns.length<=63
  .exact T
  .rw[AR (by rw[Qd];exact Nat.not_le.mp T)] at p;exact ft p
 |[],N=>exact absurd N QB
 |x::y::r,N=>
  have N:(WShape.has [] x (.list .int)&&WShape.hasAll [] (y::r) [])=Jc:=N;exact absurd (Qi.mp N).2 QB
theorem kS{c:Jq->Option Jg}:∀ {ns:List Int} {vs:List Jf} {as:List Jg},ReadsAllW [] c h vs (ns.map .int) as->vs.length=ns.length/\∀ (i:Nat) (k:Int),ns[i]? =Ja k->∃t,vs[i]? =Ja (Value.int k t)
 |[]=>λr=>by cases r;exact⟨rfl,λi k e=>by simp at e⟩
 |n::ns=>λr=>by
  cases r with
  |cons f M=>
   cases f;obtain⟨a,b⟩:=kS M;refine⟨by simp[a],λi k e=> ?_⟩
   induction i using Nat.casesOn with
   |zero=>simp at e;subst e;exact⟨_,rfl⟩
   |succ j=>simpa using b j k (by simpa using e)
noncomputable def Ge:PH:=λo0=>Jb
inductive DL(C:Cx)(c:Fu):Prop
 |mk (a:Jg) (icl:C.icl c.nm=Ja a) (fv:C.fv c.nm=Ja (.ref a)) (S:Dq C.B C.K c a) (fl:C.flds c.nm=c.fs) (ms:∀t∈c.ms,X4 λa o fd body=>FO C t.f t.ps t.b a o fd body):DL C c
theorem B5{prog:Jn}{w:Jm}{B:Ji}{g:Jq->Option Jf}{tab:List Fn}{K:Frag}{k:DI}{c:Fu}(σ:c∈k.cl)(h:∀c∈k.cl,∃a,b9 K c.nm=Ja a/\Dq B K c a)(j:∀c∈k.cl,k.flds c.nm=c.fs)(l:∀f,tab.any (·.f==f)=Jc->bQ f=Jc)(Y:∀c∈k.cl,tab.any (·.f==c.nm)=Jd):DL (GQ prog w B g tab K k) c:=by
 obtain⟨a,T,S⟩:=h c σ;refine⟨a,?_,?_,S,j c σ,λt W=> ?_⟩
 .show(if k.cl.any (·.nm==c.nm) then b9 K c.nm else Jb)=_;rw[Ug (Ki.mpr ⟨c,σ,beq_self_eq_true c.nm⟩)];exact T
 .show(if tab.any (·.f==c.nm) then g (Qb c.nm) else HF K k c.nm)=_;rw[Uf (by rw[Y c σ];exact QB)];exact rp h σ T S
 .obtain⟨m,p,G,n,e,y,F⟩:=S.me W;obtain⟨o,d,b,I,V,L⟩:=id F;refine⟨m,o,d,b,I,?_,yH (C:=GQ prog w B g tab K k) F,L⟩;show(if tab.any (·.f==t.f) then g (Qb t.f) else HF K k t.f)=_;rw[Uf (λq=>QB<|p.symm.trans (l _ q))];exact vQ h σ T S W p G e
set_option tactic.hygienic true in
theorem law_walk{l:OpenLaw}{XP:(Jq->Option Jf)->Ji->Prop}{d:DefRec}(R:List (String×PV))(tab:List Fn)(k:DI)
  (hm:l.most=Ja 63)(hb:l.bound=Jb)(hn:d.name=Qb "law")(h:Gr q (looseW q loose) R tab=Jc)(Q:rK q (looseW q loose) k=Jc)(u:tab.any (·.f=="law")=Jc)(P:N<=300)(j:∀c∈k.cl,k.flds c.nm=c.fs)(M:∀c∈k.cl,tab.any (·.f==c.nm)=Jd)
  (A:∀ (C:Cx) (g D:Jq->Option Jf),D4 C (gxE R tab k) g D->Dm C (gxE R tab k) g D->C.ok->(∀t∈tab,X4 λa o S body=>FO C t.f t.ps t.b a o S body)->(∀c∈k.cl,DL C c)->∀ns:List Int,ns.length<=63->aN C N "law" [.scr ns] Ge (λv o0=>v= .bool Jc) λo0 o0=>False):
  WalkO q loose XP (Hook.says<|hookE k) l.row.toRowW d X λf vs=>PySem.call f vs:=by
 intro w J s g D G Y fa o pm cd ah dV kV ho hd ae hD σ hg args aa as r ab V af ad;refine Ground.open G λT o0 o0 o0 o0=> ?_;obtain⟨K,z,E,H,B⟩:=Y;have y:∀f,tab.any (·.f==f)=Jc->bQ f=Jc:=λf hf=>by
  unfold Gr at h;simp only[QL] at h;exact sm h.1.1 hf
 obtain⟨ns,rfl,L⟩:=uJ hm hb r;have hG:D4 (GQ l.row.toRowW.prog w s.heap g tab K k) (gxE R tab k) g D:=AM T z B h;have hF:∀t∈tab,X4 λa o S body=>FO (GQ l.row.toRowW.prog w s.heap g tab K k) t.f t.ps t.b a o S body:=λt W=>by
  unfold Gr at h;simp only[QL] at h;obtain⟨a,o,S,body,F,o0⟩:=yI (prog:=l.row.toRowW.prog) (w:=w) (tab:=tab) (K:=K) (k:=k) T W<|Qx.mp h.1.1 t W;exact⟨a,o,S,body,F⟩
 obtain⟨v,hv,o0,U⟩:=A _ g D hG (yK T z E H Q B j y) trivial hF (λc hc=>B5 hc B j y M) ns L;have hv:g (Qb "law")=Ja v:=by
  simp only[GQ] at hv;rw[Ug u] at hv;exact hv
 rw[hn] at σ;obtain rfl:=sj<|σ.symm.trans hv;cases V with
 |cons r1 r2=>
  cases r2;cases r1 with
  |list e1 e2 e3 e4=>
   rename_i O o' vs n aj
   obtain⟨e5,e6⟩:=kS e4;have m:CP (GQ l.row.toRowW.prog w s.heap g tab K k) Ge s.heap:=⟨λb o e=>e,λa o e=>by simp[Ge] at e,λa o e=>by simp[Ge] at e,λa o e=>by simp[Ge] at e⟩
   have ak:Dy (GQ l.row.toRowW.prog w s.heap g tab K k) N callerA [] Ge s.heap:=by
    refine⟨?_,?_,rfl,λen he=>by simp at he,λo0=>rfl⟩
    .show 1+claimMargin+N+2<J0;unfold claimMargin J0;exact zl (Km (KL P _) 2)<|by decide
    .show 4+30*N+300<Ua;unfold Ua;exact zl (Km (KL (WR 30 P) 4) 300)<|by decide
   have I:CZ (GQ l.row.toRowW.prog w s.heap g tab K k) Ge s.heap [.scr ns] [.ref O]:=by
    refine⟨_,_,rfl,⟨O,o',n,vs,rfl,e1,e2,e3,by simpa using e5,λi k e=> ?_⟩,rfl⟩;obtain⟨t,W⟩:=e6 i k e;exact⟨t,by simpa using W⟩
   refine YI (U callerA [] s [.ref O] ak m I) (λv s' hv=> ?_) λo0 o0 x=>Vl.Internal.XP.none x;obtain⟨p,ai,h1,h2,h3,h4,rfl⟩:=hv;change _=_ at h1;subst h1;refine GoodW.toG ⟨.inl ⟨.bool Jc,.bool Jc,[],rfl,λac=>rfl,.bool Jc,?_,λo0=>⟨List.nodup_nil,λa ha=>by cases ha⟩⟩,λb o e=>h2.base b o e,h4.2,h4.1.trans hg⟩;show(WShape.has [] (.bool Jc) .bool&&WTm.holds [] (.eq .res<|.lit (.bool Jc)) _)=Jc;rw[vh,ss];rfl
end
set_option genCtorIdx false in
inductive D where
 |none
 |bool(b:Bool)
 |int(i:Int)
 |str(s:String)
 |tup(l:List D)
 |list(l:List D)
 |scr(l:List Int)
 |hole
 |dict(ks:List (List KA))(l:List D)
 |inst(c:String)(l:List D)
 |exc(c:String)(l:List D)
noncomputable abbrev D.ctorIdx(x:D):Nat:=D.casesOn x 0 (λo0=>1) (λo0=>2) (λo0=>3) (λo0=>4) (λo0=>5) (λo0=>6) 7 (λo0 o0=>8) (λo0 o0=>9) (λo0 o0=>10)
mutual
noncomputable def D.atom:D->Bool
 | .tup l=>D.atoms l
 | .list _=>Jd
 | .inst _ l=>D.atoms l
 | .exc _ l=>D.atoms l
 | .dict _ _=>Jd
 |_=>Jc
noncomputable def D.atoms:List D->Bool
 |[]=>Jc
 |d::ds=>D.atom d&&D.atoms ds
end
def ExcF(Z:PH)(a:Jg)(c:String)(d:Jg)(l:List PV):Prop:=(Z a=Ja (.exc c<|Ja d)/\Z d=Ja (.fd c l))\/(Z a=Ja (.exc c Jb)/\l=[])
mutual
noncomputable def C5(Z:PH):D->PV->List Jg->Prop
 | .none,v,F=>v= .none/\F=[]
 | .bool b,v,F=>v= .bool b/\F=[]
 | .int i,v,F=>v= .int i/\F=[]
 | .str s,v,F=>v= .str s/\F=[]
 | .scr l,v,F=>(v= .scr l/\l.length<=Dg)/\F=[]
 | .hole,_,F=>F=[]
 | .exc c ds,v,F=>X3 λa d l=>A3 (v= .ref a) (ExcF Z a c d l)<|CJ Z ds l F
 | .inst c ds,v,F=>X3 λa d l=>A4 (v= .ref a) (Z a=Ja (.inst d)) (Z d=Ja (.fd c l))<|CJ Z ds l F
 | .dict ks ds,v,F=>X3 λa l G=>A5 (v= .ref a) (Z a=Ja (.dict ks l)) ((l.length<=Dg/\ks.length=l.length)) (F=a::G)<|CJ Z ds l G
 | .tup ds,v,F=>∃l,v= .tup l/\l.length<=Dg/\CJ Z ds l F
 | .list ds,v,F=>X3 λa l G=>A5 (v= .ref a) (Z a=Ja (.list l)) (l.length<=Dg) (F=a::G)<|CJ Z ds l G
noncomputable def CJ(Z:PH):List D->List PV->List Jg->Prop
 |[],l,F=>l=[]/\F=[]
 |d::ds,l,F=>X4 λp ps j N=>A4 (l=p::ps) (F=j++N) (C5 Z d p j)<|CJ Z ds ps N
end
noncomputable abbrev MO:={o:PO // o.fixed=Jd}
def Di(Z Z':PH):Prop:=∀a o,Z a=Ja o->Z' a=Ja o
theorem Di.refl(Z:PH):Di Z Z:=λo0 o0 h=>h
theorem Di.trans(x:Di a b)(y:Di b c):Di a c:=λp o h=>y p o<|x p o h
theorem Di.set{Z:PH}(h:Z a=Jb)(o:PO):Di Z (Z.set a o):=λb p e=>by
 rw[PH.set_ne]
 .exact e
 .rintro rfl;exact ns<|h.symm.trans e
structure Ag(F:List Jg)(Z Z':PH):Prop where
 at_:∀a∈F,Z' a=Z a
 oth:∀a o,Z a=Ja o->o.fixed=Jc->Z' a=Ja o
theorem Ag.left(x:Ag (F++G) Z Z'):Ag F Z Z':=⟨λa h=>x.at_ a (Qk _ h),x.oth⟩
theorem Ag.right(x:Ag (F++G) Z Z'):Ag G Z Z':=⟨λa h=>x.at_ a (Qe _ h),x.oth⟩
theorem Ag.tail(x:Ag (a::G) Z Z'):Ag G Z Z':=⟨λb h=>x.at_ b (.tail _ h),x.oth⟩
mutual
theorem C5.ag:∀ {d:D} {v:PV} {F:List Jg},C5 Z d v F->Ag F Z Z'->C5 Z' d v F
 | .none=>λr o0=>r
 | .bool _=>λr o0=>r
 | .int _=>λr o0=>r
 | .str _=>λr o0=>r
 | .scr _=>λr o0=>r
 | .hole=>λr o0=>r
 | .exc _ _=>λN x=>by obtain⟨a,d,l,E,Y,h⟩:=N;exact⟨a,d,l,E,Y.imp (λq=>⟨x.oth a _ q.1 rfl,x.oth d _ q.2 rfl⟩) λq=>⟨x.oth a _ q.1 rfl,q.2⟩,CJ.ag h x⟩
 | .inst _ _=>λN x=>by obtain⟨a,d,l,E,Y,J,h⟩:=N;exact⟨a,d,l,E,x.oth a _ Y rfl,x.oth d _ J rfl,CJ.ag h x⟩
 | .dict _ _=>λN x=>by obtain⟨a,l,G,E,Y,J,h,B⟩:=N;exact⟨a,l,G,E,(x.at_ a<|h▸ .head _).trans Y,J,h,CJ.ag B (h▸x).tail⟩
 | .tup _=>λN x=>by obtain⟨l,E,Y,J⟩:=N;exact⟨l,E,Y,CJ.ag J x⟩
 | .list _=>λN x=>by obtain⟨a,l,G,E,Y,J,h,B⟩:=N;exact⟨a,l,G,E,(x.at_ a<|h▸ .head _).trans Y,J,h,CJ.ag B (h▸x).tail⟩
theorem CJ.ag:∀ {ds:List D} {l:List PV} {F:List Jg},CJ Z ds l F->Ag F Z Z'->CJ Z' ds l F
 |[]=>λr o0=>r
 |_::_=>λN x=>by obtain⟨p,ps,j,P,E,Y,J,h⟩:=N;exact⟨p,ps,j,P,E,Y,C5.ag J (Y▸x).left,CJ.ag h (Y▸x).right⟩
end
mutual
theorem C5.dom:∀ {d:D} {v:PV} {F:List Jg},C5 Z d v F->∀a∈F,∃l:MO,Z a=Ja l.1
 | .none=>λr a h=>by rw[r.2] at h;cases h
 | .bool _=>λr a h=>by rw[r.2] at h;cases h
 | .int _=>λr a h=>by rw[r.2] at h;cases h
 | .str _=>λr a h=>by rw[r.2] at h;cases h
 | .scr _=>λr a h=>by rw[r.2] at h;cases h
 | .hole=>λr a h=>by rw[show _=[] from r] at h;cases h
 | .exc _ _=>λN a h=>by obtain⟨o0,o0,l,E,Y,w⟩:=N;exact CJ.dom w a h
 | .inst _ _=>λN a h=>by obtain⟨o0,o0,l,E,Y,J,w⟩:=N;exact CJ.dom w a h
 | .dict _ _=>λN a h=>by
  obtain⟨b,l,G,E,Y,J,w,B⟩:=N;rw[w] at h;cases h with
  |head=>exact⟨⟨_,rfl⟩,Y⟩
  |tail _ h=>exact CJ.dom B a h
 | .tup _=>λN a h=>by obtain⟨l,E,Y,J⟩:=N;exact CJ.dom J a h
 | .list _=>λN a h=>by
  obtain⟨b,l,G,E,Y,J,w,B⟩:=N;rw[w] at h;cases h with
  |head=>exact⟨⟨_,rfl⟩,Y⟩
  |tail _ h=>exact CJ.dom B a h
theorem CJ.dom:∀ {ds:List D} {l:List PV} {F:List Jg},CJ Z ds l F->∀a∈F,∃l:MO,Z a=Ja l.1
 |[]=>λr a h=>by rw[r.2] at h;cases h
 |_::_=>λN a h=>by
  obtain⟨p,ps,j,q,E,Y,J,w⟩:=N;rw[Y] at h
  rcases Qr.mp h with h|h
  .exact C5.dom J a h
  .exact CJ.dom w a h
end
theorem Ag.of_ext(x:Di Z Z')(h:∀a∈F,∃l:MO,Z a=Ja l.1):Ag F Z Z':=⟨λa T=>by obtain⟨l,e⟩:=h a T;exact(x a _ e).trans e.symm,λa o0 e o0=>x a _ e⟩
theorem C5.ext{d:D}(r:C5 Z d v F)(x:Di Z Z'):C5 Z' d v F:=r.ag<|.of_ext x r.dom
theorem CJ.ext{d:List D}(r:CJ Z d v F)(x:Di Z Z'):CJ Z' d v F:=r.ag<|.of_ext x r.dom
mutual
theorem C5.atom:∀ {d:D} {v:PV} {F:List Jg},C5 Z d v F->d.atom=Jc->F=[]
 | .none=>λr o0=>r.2
 | .bool _=>λr o0=>r.2
 | .int _=>λr o0=>r.2
 | .str _=>λr o0=>r.2
 | .scr _=>λr o0=>r.2
 | .hole=>λr o0=>r
 | .exc _ _=>λN h=>by obtain⟨o0,o0,l,E,Y,w⟩:=N;exact CJ.atom w h
 | .inst _ _=>λN h=>by obtain⟨o0,o0,l,E,Y,J,w⟩:=N;exact CJ.atom w h
 | .dict _ _=>λo0 h=>ft h
 | .tup _=>λN h=>by obtain⟨l,E,Y,J⟩:=N;exact CJ.atom J h
 | .list _=>λo0 h=>ft h
theorem CJ.atom:∀ {d:List D} {v:List PV} {F:List Jg},CJ Z d v F->D.atoms d=Jc->F=[]
 |[]=>λr o0=>r.2
 |_::_=>λN h=>by
  obtain⟨p,ps,j,q,E,Y,J,w⟩:=N;obtain⟨a,b⟩:=Qi.mp h;rw[Y,C5.atom J a,CJ.atom w b];rfl
end
abbrev Dc:=Option<|List String
noncomputable def tj:Dc->Dc->Dc
 |none,t=>t
 |some a,Jb=>Ja a
 |some a,Ja b=>Ja<|a++b
noncomputable def tg0(d:D)(t:Dc):Dc:=cond d.atom Jb t
def tgl(l:List D)(t:Dc):Dc:=cond (D.atoms l) Jb t
noncomputable def EU:List (D×Dc)->Dc
 |[]=>Jb
 |p::r=>tj p.2<|EU r
noncomputable abbrev CE(l:List (D×Dc)):List D:=l.map (·.1)
noncomputable abbrev CD(l:List (D×Dc)):List (D×Bool):=l.map λp=>(p.1,p.2.isNone)
abbrev CB:=List<|String×Option (D×Bool)
noncomputable def CB.get:CB->String->Option (D×Bool)
 |[],_=>Option.none
 |(y,v)::r,x=>cond (y==x) v<|CB.get r x
noncomputable def CB.put:CB->String->D×Bool->CB
 |[],_,_=>[]
 |(y,o)::r,x,v=>cond (y==x) ((y,Ja v)::r) ((y,o)::CB.put r x v)
theorem CB.get_if(y:String)(v:Option (D×Bool))(r:CB)(x:String):CB.get ((y,v)::r) x=if y=x then v else CB.get r x:=by
 show cond (y==x) _ _=_;by_cases h:y=x
 .rw[Ug h,beq_iff_eq.mpr h];rfl
 .rw[Uf h,beq_eq_false_iff_ne.mpr h];rfl
theorem CB.put_if(y:String)(o:Option (D×Bool))(r:CB)(x:String)(v:D×Bool):CB.put ((y,o)::r) x v=if y=x then(y,Ja v)::r else(y,o)::CB.put r x v:=by
 show cond (y==x) _ _=_;by_cases h:y=x
 .rw[Ug h,beq_iff_eq.mpr h];rfl
 .rw[Uf h,beq_eq_false_iff_ne.mpr h];rfl
noncomputable def Gh:List String->String->Bool
 |[],_=>Jd
 |y::r,x=>y==x||Gh r x
theorem mV(x:String):∀xs:List String,Gh xs x=xs.contains x
 |[]=>rfl
 |y::r=>by rw[KZ,<-mV x r,Bool.beq_comm];rfl
noncomputable def CB.puts:CB->List String->List D->Bool->CB
 |L,x::P,v::s,b=>CB.puts (L.put x (v,b)) P s b
 |L,_,_,_=>L
def CB.frz(L:CB):Dc->CB
 |Option.none=>L
 |some x=>L.map λp=>(p.1,cond (Gh x p.1) (p.2.map λq=>(q.1,q.1.atom&&q.2)) p.2)
noncomputable def Nb(x:String)(b:Bool)(v:D)(r:CB):CB:=(x,Ja (v,b))::r
noncomputable def No(x:String)(o:Option (D×Bool))(r:CB):CB:=(x,o)::r
abbrev DQ:=D->Dc->Prop
abbrev DX:=String->List D->Prop
structure E3 where
 c:String->List (D×Bool)->(D->Bool->Prop)->DX->Prop
 io:String->Nat->List (D×Bool)->(D->Prop)->Prop
instance:CoeFun E3 λo0=>String->List (D×Bool)->(D->Bool->Prop)->DX->Prop:=⟨E3.c⟩
def C8(l:List D)(t:Dc)(Q:DQ):Prop:=l.length<=Dg/\Q (.list l) t
def C2(l:List D)(t:Dc)(Q:DQ):Prop:=l.length<=Dg/\Q (.tup l) t
noncomputable def DY(K:Int->Prop):D->Prop
 | .int x=>K x
 |_=>False
noncomputable def DO(K:Bool->Prop):D->Prop
 | .bool x=>K x
 |_=>False
noncomputable def GX(K:List (List KA)->List D->Prop):D->Prop
 | .dict k l=>K k l
 |_=>False
inductive WitDD(K:List (List KA)->List D->Prop)(v:D):Prop
 |mk (ks:List (List KA)) (l:List D) (e:v= .dict ks l) (k:K ks l):WitDD K v
theorem o7{K:List (List KA)->List D->Prop}(h:GX K v):WitDD K v:=by
 induction v using D.casesOn with
 |dict k l=>exact⟨k,l,rfl,h⟩
 |_=>exact h.elim
noncomputable def DS(K:List D->Prop):D->Prop
 | .list x=>K x
 |_=>False
theorem eQ{K:Int->Prop}(h:DY K v):GR D.int v K:=by
 induction v using D.casesOn with
 |int x=>exact⟨x,rfl,h⟩
 |_=>exact h.elim
theorem eX{K:Bool->Prop}(h:DO K v):GR D.bool v K:=by
 induction v using D.casesOn with
 |bool x=>exact⟨x,rfl,h⟩
 |_=>exact h.elim
theorem fu{K:List D->Prop}(h:DS K v):GR D.list v K:=by
 induction v using D.casesOn with
 |list x=>exact⟨x,rfl,h⟩
 |_=>exact h.elim
def dadd(a b:D)(F t:Dc)(Q:DQ):Prop:=
 match a with
 | .int x=>DY (λy=>Q (.int (x+y)) Jb) b
 | .list x=>DS (λy=>C8 (x++y) (tgl (x++y) (tj F t)) Q) b
 |_=>False
def FX(o:BOp)(a b:D)(F t:Dc)(Q:DQ):Prop:=
 match o with
 | .add=>dadd a b F t Q
 | .sub=>DY (λx=>DY (λy=>Q (.int (x-y)) Jb) b) a
 | .mul=>DY (λx=>DY (λy=>(x.natAbs<2^64\/y.natAbs<2^64)/\Q (.int (x*y)) Jb) b) a
 | .fdiv=>DY (λx=>DY (λy=>y≠0/\y.natAbs<1073741824/\Q (.int (x.fdiv y)) Jb) b) a
 | .mod=>DY (λx=>DY (λy=>y≠0/\Q (.int (x.fmod y)) Jb) b) a
 | .pow _=>DY (λx=>DY (λy=>0<=y/\y<=1000/\x.natAbs<2^64/\Q (.int (x^y.toNat)) Jb) b) a
mutual
noncomputable def D.okd:Nat->D->Bool
 |_,.none=>Jc
 |_,.bool _=>Jc
 |_,.int _=>Jc
 |_,.str s=>PyData.strOk<|Qb s
 |n+1,.tup l=>D.okds n l
 |n+1,.list l=>D.okds n l
 |_,_=>Jd
noncomputable def D.okds:Nat->List D->Bool
 |_,[]=>Jc
 |n,d::ds=>D.okd n d&&D.okds n ds
end
mutual
noncomputable def D.py:D->YT
 | .none=> .none
 | .bool b=> .bool b
 | .int i=> .int i
 | .str s=> .str (Qb s)
 | .tup l=> .tuple (D.pys l)
 | .list l=> .list (D.pys l)
 |_=> .none
noncomputable def D.pys:List D->List YT
 |[]=>[]
 |d::ds=>D.py d::D.pys ds
end
noncomputable def D.eqv(a b:D):Bool:=PyData.eqv a.py b.py
def DP(a b:D)(Q:Bool->Prop):Prop:=(a.okd 40=Jc/\b.okd 40=Jc)/\Q (D.eqv a b)
noncomputable def kaD:D->Option KA
 | .int i=>Ja<|.n i
 | .str s=>Ja<|.t s
 |_=>Jb
noncomputable def kasD:List D->Option (List KA)
 |[]=>Ja []
 |p::r=>(kaD p).bind λk=>(kasD r).map (k:: ·)
def DC:D->Option (List KA)
 | .tup l=>kasD l
 |_=>Jb
noncomputable def KA.d:KA->D
 | .n i=> .int i
 | .t s=> .str s
def GB(k:List KA):D:= .tup (k.map KA.d)
def DE(ks:List (List KA))(l:List D)(k:List KA):Option D:=(C0 ks k).bind λj=>l[j]?
def F7(ks:List (List KA))(l:List D)(k:List KA)(v:D):D:=match C0 ks k with
 |some j=> .dict ks (l.set j v)
 |none=> .dict (ks++[k]) (l++[v])
def din(a b:D)(Q:Bool->Prop):Prop:=match b with
 | .list l=>(a.okd 40=Jc/\D.okds 40 l=Jc)/\Q (l.any λd=>D.eqv d a)
 | .dict s _=>oK (λk=>Q (C0 s k).isSome) (DC a)
 |_=>False
def H1(f:Int->Int->Bool)(a b:D)(Q:Bool->Prop):Prop:=DY (λx=>DY (λy=>Q (f x y)) b) a
def EM(o:HI)(a b:D)(Q:Bool->Prop):Prop:=
 match o with
 | .eq=>DP a b Q
 | .ne=>DP a b λr=>Q<|!r
 | .in_=>din a b Q
 | .nin=>din a b λr=>Q<|!r
 | .lt=>H1 (λx y=>decide (x<y)) a b Q
 | .le=>H1 (λx y=>decide (x<=y)) a b Q
 | .gt _=>H1 (λx y=>decide (x>y)) a b Q
 | .ge=>H1 (λx y=>decide (x>=y)) a b Q
noncomputable def Hv:D->Option Nat
 | .list l=>Ja l.length
 | .tup l=>Ja l.length
 | .scr l=>Ja l.length
 |_=>Jb
def C4:D->D->Option D
 | .list l,.int k=>(CO l.length k).bind λj=>l[j]?
 | .tup l,.int k=>(CO l.length k).bind λj=>l[j]?
 | .scr l,.int k=>((CO l.length k).bind λj=>l[j]?).map .int
 | .dict s l,i=>(DC i).bind λk=>DE s l k
 |_,_=>Jb
noncomputable def DG:List D->Option (List Int)
 |[]=>Ja []
 | .int i::r=>(DG r).map (i:: ·)
 |_=>Jb
noncomputable def hS:List D->Option (List Bool)
 |[]=>Ja []
 | .bool i::r=>(hS r).map (i:: ·)
 |_=>Jb
noncomputable def d1(K:D->Dc->Prop):List (D×Dc)->Prop
 |[(d,t)]=>K d t
 |_=>False
theorem zw{K:D->Dc->Prop}(h:d1 K l):∃d t,l=[(d,t)]/\K d t:=by
 rcases l with o0|⟨⟨d,t⟩,o0|⟨o0,o0⟩⟩<;>first|exact h.elim|exact⟨d,t,rfl,h⟩
noncomputable def dSeq(K:List D->Prop):D->Prop
 | .tup l=>K l
 | .list l=>K l
 |_=>False
def He(Q:DQ)(t:Dc):D->Prop
 | .tup l=>Q (.list l)<|tgl l t
 | .list l=>Q (.list l)<|tgl l t
 | .dict s _=>(s.length<=Dg/\∀k∈s,k.length<=Dg)/\Q (.list<|s.map GB) Jb
 |_=>False
def dMin(Q:DQ)(args:List (D×Dc)):Prop:=d1 (λv o0=>DS (λl=>Gy (λis=>is≠ []/\Q (.int (E5 is)) Jb) (DG l)) v) args
noncomputable def dT2(K:D->D->Prop):List D->Prop
 |[v,w]=>K v w
 |_=>False
theorem xp{K:D->D->Prop}(h:dT2 K l):X2 λv w=>l=[v,w]/\K v w:=by
 rcases l with o0|⟨v,o0|⟨w,o0|⟨o0,o0⟩⟩⟩<;>first|exact h.elim|exact⟨v,w,rfl,h⟩
def Hw(b:BI)(args:List (D×Dc))(Q:DQ):Prop:=
 match b with
 | .len=>d1 (λd o0=>EV (λn=>Q (.int n) Jb) (Hv d)) args
 | .all=>d1 (λd o0=>DS (λl=>oBs (λbs=>Q (.bool (bs.all id)) Jb) (hS l)) d) args
 | .sum=>d1 (λd o0=>DS (λl=>Gy (λis=>Q (.int is.sum) Jb) (DG l)) d) args
 | .int=>d1 (λd o0=>DO (λx=>Q (.int (if x then 1 else 0)) Jb) d) args
 | .list=>d1 (λd t=>He Q t d) args
 | .min=>dMin Q args
 | .max=>d1 (λv o0=>DS (λl=>Gy (λis=>is≠ []/\∀x∈is,Q (.int x) Jb) (DG l)) v) args
 | .max2=>dT2 (λa b=>DY (λx=>DY (λy=>∀z,x<=z->y<=z->Q (.int z) Jb) b) a) (CE args)
 | .sorted=>d1 (λd o0=>DS (λl=>Gy (λis=>is.length<64/\∀js:List Int,js.Perm is->js.Pairwise (· <= ·)->Q (.list (js.map .int)) Jb) (DG l)) d) args
 | .dict _=>d1 (λd o0=>GX (λks l=>(ks≠ []/\(∀k∈ks,ec k=Jc)/\D.atoms l=Jc)/\Q (.dict ks l) Jb) d) args
noncomputable def FK(G:Gx)(d:D)(ts:List String):Option Bool:=
 match d with
 | .none=>Ja Jd
 | .str _=>Ja Jd
 | .bool _=>Ja (ts.contains "bool"||ts.contains "int")
 | .int _=>Ja<|ts.contains "int"
 | .tup _=>Ja<|ts.contains "tuple"
 | .list _=>Ja<|ts.contains "list"
 |_=>Jb
noncomputable def dS1(K:D->Prop):List D->Prop
 |[v]=>K v
 |_=>False
theorem nC{K:D->Prop}(h:dS1 K l):∃v,l=[v]/\K v:=by
 rcases l with o0|⟨v,o0|⟨o0,o0⟩⟩<;>first|exact h.elim|exact⟨v,rfl,h⟩
noncomputable def GG:Nat->List D->List D
 |_,[]=>[]
 |i,x::r=> .tup [.int (i:Nat),x]::GG (i+1) r
def FH(k:IK)(vs:List D)(K:List D->Prop):Prop:=
 match k with
 | .val=>dS1 (λv=>dSeq K v) vs
 | .range=>dS1 (λv=>DY (λn=>(-1000000<n/\n<=1000000)/\K ((Qc n.toNat).map λ(i:Nat)=> .int i)) v) vs
 | .enum=>dS1 (λv=>DS (λl=>K (GG 0 l)) v) vs
noncomputable def eY:Tg->D->Bool->CB->Option CB
 | .name x,v,b,L=>Ja<|L.put x (v,b)
 | .tup P,.tup s,b,L=>if s.length=P.length then Ja (L.puts P s b) else Jb
 |_,_,_,_=>Jb
noncomputable def ig(tg:Tg)(L:CB):CB:=(".0",Jb)::((tg.names.map λx=>(x,Jb))++L)
def bw(tg:Tg)(v:D)(L:CB):Option CB:=eY tg v Jd<|ig tg L
noncomputable def FQ(K:CB->Prop):Option CB->Prop
 |some v=>K v
 |none=>False
theorem gx{K:CB->Prop}(h:FQ K o):GR Ja o K:=by
 induction o with
 |none=>exact h.elim
 |some v=>exact⟨v,rfl,h⟩
noncomputable def FL(K:D->Prop):Option D->Prop
 |some v=>K v
 |none=>False
theorem gV{K:D->Prop}(h:FL K o):GR Ja o K:=by
 induction o with
 |none=>exact h.elim
 |some v=>exact⟨v,rfl,h⟩
noncomputable def Et(K:D×Bool->Prop):Option (D×Bool)->Prop
 |some v=>K v
 |none=>False
theorem eh{K:D×Bool->Prop}(h:Et K o):GR Ja o K:=by
 induction o with
 |none=>exact h.elim
 |some v=>exact⟨v,rfl,h⟩
noncomputable def i7:D->Bool
 | .hole=>Jc
 |_=>Jd
noncomputable def D.isNone:D->Bool
 | .none=>Jc
 |_=>Jd
noncomputable def F8(Q:DQ):Option PV->Prop
 |some (.int i)=>Q (.int i) Jb
 |some (.str i)=>Q (.str i) Jb
 |_=>False
def Hp(ns:List String)(ts:Dc):Dc->Dc
 |none=>Jb
 |some s=>tj (Ja (s.filter λx=> !ns.contains x)) ts
noncomputable def DN(tg:Tg)(L:CB)(ts:Dc)(tst:CB->(Bool->Prop)->Prop)(el:CB->DQ->Prop):List D->List D->Dc->(List D->Dc->Prop)->Prop
 |[],a,t,K=>K a t
 |x::s,a,t,K=>FQ (λP=>tst P λb=>cond b (el P λd u=>DN tg L ts tst el s (a++[d]) (tj t (Hp tg.names ts u)) K) (DN tg L ts tst el s a t K)) (bw tg x L)
def dget(t:Dc)(Q:DQ):Option D->Prop
 |some d=>Q d<|tg0 d t
 |none=>Q (.list []) Jb
noncomputable def Fr(G:Gx)(f:String):D->Option D
 | .inst c l=>((G.flds c).idxOf? f).bind λj=>l[j]?
 | .exc c l=>((G.flds c).idxOf? f).bind λj=>l[j]?
 |_=>Jb
noncomputable def dIns(c:String):D->Prop
 | .inst Q _=>Q=c
 |_=>False
noncomputable def dXc(K:String->Prop):D->Prop
 | .exc c _=>K c
 |_=>False
mutual
noncomputable def CY(G:Gx)(cl:E3):E->CB->DQ->DX->Prop
 | .none,_,Q,_=>Q .none Jb
 | .bool b,_,Q,_=>Q (.bool b) Jb
 | .int i,_,Q,_=>Q (.int i) Jb
 | .str s,_,Q,_=>Q (.str s) Jb
 | .loc x,Δ,Q,_=>Et (λp=>Q p.1 (tg0 p.1 (Ja [x]))) (Δ.get x)
 | .glob x,_,Q,_=>F8 Q<|G.glob x
 | .bin op a b,Δ,Q,X=>CY G cl a Δ (λva ta=>CY G cl b Δ (λvb tb=>FX op va vb ta tb Q) X) X
 | .not_ a,Δ,Q,X=>CY G cl a Δ (λv o0=>DO (λb=>Q (.bool !b) Jb) v) X
 | .and_ a b,Δ,Q,X=>CY G cl a Δ (λv o0=>DO (λb'=>cond b' (CY G cl b Δ Q X) (Q (.bool Jd) Jb)) v) X
 | .or_ a b,Δ,Q,X=>CY G cl a Δ (λv o0=>DO (λb'=>cond b' (Q (.bool Jc) Jb) (CY G cl b Δ Q X)) v) X
 | .isNone a,Δ,Q,X=>CY G cl a Δ (λv o0=>i7 v=Jd/\Q (.bool v.isNone) Jb) X
 | .notNone a,Δ,Q,X=>CY G cl a Δ (λv o0=>i7 v=Jd/\Q (.bool !v.isNone) Jb) X
 | .cmp op a b,Δ,Q,X=>CY G cl a Δ (λva o0=>CY G cl b Δ (λvb o0=>EM op va vb λr=>Q (.bool r) Jb) X) X
 | .cmp2 a o1 b o2 c,Δ,Q,X=>CY G cl a Δ (λva o0=>CY G cl b Δ (λvb o0=>EM o1 va vb λr=>
   cond r (CY G cl c Δ (λvc o0=>EM o2 vb vc λr=>Q (.bool r) Jb) X) (Q (.bool Jd) Jb)) X) X
 | .tup l,Δ,Q,X=>Dx G cl l Δ (λvs=>C2 (CE vs) (EU vs) Q) X
 | .list l,Δ,Q,X=>Dx G cl l Δ (λvs=>C8 (CE vs) (EU vs) Q) X
 | .sub a i,Δ,Q,X=>CY G cl a Δ (λva ta=>CY G cl i Δ (λvi o0=>FL (λv=>Q v (tg0 v ta)) (C4 va vi)) X) X
 | .comp elt tg k it,Δ,Q,X=>G.calm=Jc/\Dx G cl it Δ (λvs=>FH k (CE vs) λxs=>
   DN tg Δ (EU vs) (λo0 K=>K Jc) (λΔ' K=>CY G cl elt Δ' K λo0 o0=>False) xs [] Jb λacc t=>Q (.list acc) t) X
 | .compIf elt tg k it cond,Δ,Q,X=>G.calm=Jc/\Dx G cl it Δ (λvs=>FH k (CE vs) λxs=>
   DN tg Δ (EU vs) (λΔ' K=>CY G cl cond Δ' (λv o0=>DO K v) λo0 o0=>False) (λΔ' K=>CY G cl elt Δ' K λo0 o0=>False) xs [] Jb λacc t=>Q (.list acc) t) X
 | .call f args,Δ,Q,X=>G.fn f=Jc/\Dx G cl args Δ (λvs=>cl f (CD vs) (λd b=>Q d (tg0 d (cond b Jb (tj (Ja []) (EU vs))))) X) X
 | .bi b args,Δ,Q,X=>G.calm=Jc/\Dx G cl args Δ (λvs=>Hw b vs Q) X
 | .isi a ts,Δ,Q,X=>stat ts=Jc/\CY G cl a Δ (λv o0=>oB (λb=>Q (.bool b) Jb) (FK G v ts)) X
 | .isx x ts,Δ,Q,_=>Et (λp=>dXc (λc=>ts.all G.isCls=Jc/\Q (.bool (ts.any (G.sub c))) Jb) p.1) (Δ.get x)
 | .cnt ix a,Δ,Q,X=>CY G cl a Δ (λva o0=>DS (λl=>oBs (λbs=>Hn ix bs λi=>Q (.int i) Jb) (hS l)) va) X
 | .meth ..,_,_,_=>False
 | .dict0,_,Q,_=>G.full=Jc/\Q (.dict [] []) Jb
 | .get a k,Δ,Q,X=>CY G cl a Δ (λva ta=>GX (λks l=>CY G cl k Δ (λvk o0=>oK (λk=>dget ta Q (DE ks l k)) (DC vk)) X) va) X
 | .sd ..,_,_,_=>False
 | .attr x f,Δ,Q,_=>Et (λp=>FL (λd=>Q d (tg0 d (Ja [x]))) (Fr G f p.1)) (Δ.get x)
 | .mcall c f o args,Δ,Q,X=>G.fn f=Jc/\CY G cl o Δ (λdr tr=>dIns c dr/\Dx G cl args Δ (λvs=>cl f (CD ((dr,tr)::vs)) (λd b=>Q d (tg0 d (cond b Jb (tj (Ja []) (EU ((dr,tr)::vs)))))) X) X) X
noncomputable def Dx(G:Gx)(cl:E3):List E->CB->(List (D×Dc)->Prop)->DX->Prop
 |[],_,Q,_=>Q []
 |e::es,Δ,Q,X=>CY G cl e Δ (λv t=>Dx G cl es Δ (λvs=>Q ((v,t)::vs)) X) X
end
noncomputable abbrev Eb(F G:List Jg):Prop:=∀a∈F,a∉G
structure CG(Z:PH)(fp:String->List Jg)(t:Dc)(F:List Jg):Prop where
 own:t=Jb->F.Nodup/\∀a∈F,Z a=Jb
 al:∀xs,t=Ja xs->∀a∈F,Z a=Jb\/∃x∈xs,a∈fp x
structure ER(Z:PH)(fp:String->List Jg)(Z':PH)(d:D)(t:Dc)(v:PV)(F:List Jg):Prop where
 rd:C5 Z' d v F
 ext:Di Z Z'
 part:CG Z fp t F
noncomputable def FE(f:String->List Jg)(x:String)(F:List Jg):String->List Jg:=λy=>if y=x then F else f y
theorem du{f:String->List Jg}:FE f x F x=F:=Ug rfl
theorem cB{f:String->List Jg}(h:y≠x):FE f x F y=f y:=Uf h
structure DD(Z:PH)(Δ:CB)(ρ:CH)(fp:String->List Jg):Prop where
 at_:∀x d b,Δ.get x=Ja (d,b)->∃v,ρ.get x=Ja v/\C5 Z d v (fp x)
 dom:∀x,∀a∈fp x,∃l:MO,Z a=Ja l.1
 keys:Δ.map (·.1)=ρ.map (·.1)
theorem DD.ext{f:String->List Jg}(h:DD Z j L f)(x:Di Z Z'):DD Z' j L f:=⟨λy d b e=>by obtain⟨v,N,p⟩:=h.at_ y d b e;exact⟨v,N,p.ext x⟩,λy a T=>by obtain⟨l,e⟩:=h.dom y a T;exact⟨l,x a _ e⟩,h.keys⟩
theorem Di.new(x:Di Z Z')(h:Z' a=Jb):Z a=Jb:=by
 induction e:Z a with
 |none=>rfl
 |some o=>exact sn<|(x a o e).symm.trans h
theorem CG.nil{f:String->List Jg}:CG Z f t []:=⟨λo0=>⟨.nil,λa h=>(bS h)⟩,λx o0 a h=>(bS h)⟩
theorem CG.from{f:String->List Jg}(h:CG Z1 f t F)(x:Di Z Z1):CG Z f t F:=
 ⟨λe=>⟨(h.own e).1,λa T=>x.new<|(h.own e).2 a T⟩,λs e a T=>(h.al s e a T).imp_left x.new⟩
theorem ER.from{f:String->List Jg}{d:D}(h:ER Z1 f Z' d t v F)(x:Di Z Z1):ER Z f Z' d t v F:=⟨h.rd,x.trans h.ext,h.part.from x⟩
theorem ER.at0{f:String->List Jg}{d:D}(x:Di Z Z')(r:C5 Z' d v []):ER Z f Z' d t v []:=⟨r,x,.nil⟩
theorem CG.tg0{f:String->List Jg}{d:D}(h:CG Z f t F)(r:C5 Z' d v F):CG Z f (tg0 d t) F:=by
 unfold Vl.Internal.tg0
 induction e:d.atom with
 |true=>rw[r.atom e];exact .nil
 |false=>exact h
theorem CG.tgl{f:String->List Jg}{d:List D}(h:CG Z f t F)(r:CJ Z' d v F):CG Z f (tgl d t) F:=by
 unfold Vl.Internal.tgl
 induction e:D.atoms d with
 |true=>rw[r.atom e];exact .nil
 |false=>exact h
theorem nI(h:tj a b=Jb):a=Jb/\b=Jb:=by
 induction a with
 |none=>exact⟨rfl,h⟩
 |some x=>rcases b with⟨⟩<;>exact sn h
theorem ua(h:tj a b=Ja xs):(∀ys,a=Ja ys->∀y∈ys,y∈xs)/\(∀ys,b=Ja ys->∀y∈ys,y∈xs):=by
 induction a with
 |none=>exact⟨λys e=>(ns e),λys e y W=>by cases h.symm.trans e;exact W⟩
 |some x=>induction b with
  |none=>obtain rfl:=sj h;exact⟨λys e y W=>by obtain rfl:=sj e;exact W,λys e=>(ns e)⟩
  |some y=>obtain rfl:=sj h;exact⟨λys e z v=>by obtain rfl:=sj e;exact Qk _ v,λys e z v=>by obtain rfl:=sj e;exact Qe _ v⟩
theorem CG.wide{f:String->List Jg}(h:CG Z f t F)(k:∀ys,t=Ja ys->∀y∈ys,y∈xs):CG Z f (Ja xs) F:=
 ⟨λe=>(sn e),λzs e a T=>by
  obtain rfl:=sj e
  induction W:t with
  |none=>exact .inl<|(h.own W).2 a T
  |some ys=>exact(h.al ys W a T).imp_right λz=>by obtain⟨x,hx,w⟩:=z;exact⟨x,k ys W x hx,w⟩⟩
theorem CG.join{f:String->List Jg}(h:CG Z f s F)(k:CG Z f t G)(d:s=Jb->t=Jb->Eb F G):CG Z f (tj s t) (F++G):=by
 refine⟨λe=> ?_,λx e a T=> ?_⟩
 .obtain⟨p,w⟩:=nI e;refine⟨Qv.mpr ⟨(h.own p).1,(k.own w).1,λa T b R q=>d p w a T<|q▸R⟩,λa T=> ?_⟩
  rcases Qr.mp T with T|T
  .exact(h.own p).2 a T
  .exact(k.own w).2 a T
 .obtain⟨c,m⟩:=ua e
  rcases Qr.mp T with T|T
  .exact(h.wide c).al x rfl a T
  .exact(k.wide m).al x rfl a T
theorem CG.sub{f:String->List Jg}{F G:List Jg}(h:CG Z f t F)(s:G.Sublist F):CG Z f t G:=
 ⟨λe=>⟨(h.own e).1.sublist s,λa T=>(h.own e).2 a (s.subset T)⟩,λx e a T=>h.al x e a<|s.subset T⟩
theorem CG.cons{fp:String->List Jg}(h:CG Z fp t F)(ha:Z a=Jb)(hf:a∉F):CG Z fp t (a::F):=
 ⟨λe=>⟨Qy.mpr ⟨hf,(h.own e).1⟩,λb hb=>by cases hb with|head=>exact ha|tail _ hb=>exact(h.own e).2 b hb⟩,
  λxs e b hb=>by cases hb with|head=>exact .inl ha|tail _ hb=>exact h.al xs e b hb⟩
inductive E2(Z:PH)(fp:String->List Jg)(Z':PH):List (D×Dc)->List PV->List (List Jg)->Prop
 |nil:E2 Z fp Z' [] [] []
 |cons {d:D} {t:Dc} {v:PV} {F:List Jg} {ds:List (D×Dc)} {vs:List PV} {Fs:List (List Jg)}:C5 Z' d v F->CG Z fp t F->
   (∀p∈ds.zip Fs,(t=Option.none\/p.1.2=Option.none)->Eb F p.2)->E2 Z fp Z' ds vs Fs->E2 Z fp Z' ((d,t)::ds) (v::vs) (F::Fs)
theorem E2.rds{f:String->List Jg}{F:List (List Jg)}(h:E2 Z f Z' ds vs F):CJ Z' (CE ds) vs F.flatten:=by
 induction h with
 |nil=>exact⟨rfl,rfl⟩
 |cons r p q h i=>exact⟨_,_,_,_,rfl,rfl,r,i⟩
theorem E2.lens{f:String->List Jg}{ds:List (D×Dc)}{vs:List PV}{F:List (List Jg)}(h:E2 Z f Z' ds vs F):vs.length=ds.length/\F.length=ds.length:=by
 induction h with
 |nil=>exact⟨rfl,rfl⟩
 |cons r p q h i=>exact⟨Uj (· +1) i.1,Uj (· +1) i.2⟩
theorem E2.part{f:String->List Jg}{s:List (List Jg)}(h:E2 Z f Z' ds vs s):CG Z f (EU ds) s.flatten:=by
 induction h with
 |nil=>exact .nil
 |@cons d t v F ds vs s r p q h W=>
  refine p.join W λe w a T b=> ?_;obtain⟨G,C,b⟩:=List.mem_flatten.mp b;obtain⟨i,V,rfl⟩:=Wi C;have l:=h.lens.2;exact q (ds[i],s[i]) (List.mem_iff_getElem.mpr ⟨i,by rw[List.length_zip];exact Nat.lt_min.mpr ⟨zq V l,V⟩,List.getElem_zip⟩) (.inl e) a T b
def jp(O:List Jg)(Z Z':PH):Prop:=∀a o,Z a=Ja o->a∉O->Z' a=Ja o
structure ResOK(Z:PH)(O As:List Jg)(Z':PH)(d:D)(b:Bool)(v:PV)(F:List Jg):Prop where
 rd:C5 Z' d v F
 kept:jp O Z Z'
 own:b=Jc->F.Nodup/\∀a∈F,Z a=Jb\/a∈O
 al:∀a∈F,Z a=Jb\/a∈As
structure ResX(Z:PH)(O:List Jg)(Z':PH)(ds:List D)(ws:List PV)(F:List Jg):Prop where
 rd:CJ Z' ds ws F
 kept:jp O Z Z'
 nd:F.Nodup
 own:∀a∈F,Z a=Jb\/a∈O
structure XOK(Z Z':PH)(ds:List D)(ws:List PV)(F:List Jg):Prop where
 rd:CJ Z' ds ws F
 ext:Di Z Z'
 nd:F.Nodup
 own:∀a∈F,Z a=Jb
theorem XOK.from{ws:List PV}(h:XOK Z1 Z' ds ws F)(x:Di Z Z1):XOK Z Z' ds ws F:=⟨h.rd,x.trans h.ext,h.nd,λa T=>x.new (h.own a T)⟩
inductive C3(Z:PH):List (D×Bool)->List PV->List (List Jg)->Prop
 |nil:C3 Z [] [] []
 |cons {d:D} {b:Bool} {v:PV} {F:List Jg} {ds:List (D×Bool)} {vs:List PV} {Fs:List (List Jg)}:C5 Z d v F->(b=Jc->F.Nodup)->
   (∀p∈ds.zip Fs,(b=Jc\/p.1.2=Jc)->Eb F p.2)->C3 Z ds vs Fs->C3 Z ((d,b)::ds) (v::vs) (F::Fs)
noncomputable def owned:List (D×Bool)->List (List Jg)->List Jg
 |(_,b)::d,F::s=>(if b then F else [])++owned d s
 |_,_=>[]
def ES(cv:Cl)(f:String)(args:List (D×Bool))(Q:D->Bool->Prop)(X:DX):Prop:=∀ (t:PH) (w:List PV) (s:List (List Jg)) (r:C9) (H:Dl),C3 t args w s->
 (∀d b v T F,Q d b->ResOK t (owned args s) s.flatten T d b v F->r v T)->(∀c z ws T F,X c z->ResX t (owned args s) T z ws F->H ⟨c,ws⟩ T)->cv f w t r H
theorem ES.low{args:List (D×Bool)}{Q:D->Bool->Prop}(h:ES cv f args (λd b=>Q d b\/Q d Jd) X):ES cv f args Q X:=λW w s t H a k x=>
 h W w s t H a (λd b v T F q r=>q.elim (λq=>k d b v T F q r) λq=>k d Jd v T F q ⟨r.rd,r.kept,λz=>ft z,r.al⟩) x
structure IoOK(Z:PH)(O:List Jg)(Z':PH)(d:D)(v:PV)(F:List Jg):Prop where
 rd:C5 Z' d v F
 nd:F.Nodup
 own:∀a∈F,Z a=Jb\/a∈O
 kept:jp O Z Z'
def y7(cv:Cl)(f:String)(i:Nat)(args:List (D×Bool))(Q:D->Prop):Prop:=∀ (t:PH) (s:List PV) (w:List (List Jg)) (r:C9) (H:Dl) (v:PV),C3 t args s w->s[i]? =Ja v->
 (∀d X F,Q d->IoOK t (owned args w) X d v F->r .none X)->cv f s t r H
noncomputable def aR(cv:Cl):E3:=⟨ES cv,y7 cv⟩
theorem E2.args{f:String->List Jg}(h:E2 Z f Z' ds vs s):C3 Z' (CD ds) vs s:=by
 induction h with
 |nil=>exact .nil
 |@cons d t v F ds vs s r p q h i=>
  refine .cons r (λe=>(p.own<|Kg.mp e).1) (λx hx e=> ?_) i;rw[List.zip_map_left] at hx;obtain⟨y,W,rfl⟩:=Ql.mp hx;exact q y W<|e.imp Kg.mp Kg.mp
theorem E2.owned{f:String->List Jg}(h:E2 Z f Z' ds vs s):∀a∈owned (CD ds) s,Z a=Jb:=by
 induction h with
 |nil=>intro a T;cases T
 |@cons d t v F ds vs s r p q h i=>
  intro a T
  rcases Qr.mp (show a∈(if t.isNone then F else [])++Vl.Internal.owned (CD ds) s from T) with T|T
  .induction t with
   |none=>exact(p.own rfl).2 a T
   |some x=>cases T
  .exact i a T
section
variable(G:Gx)(cv:Cl)
def DV(e:E):Prop:=∀ (j:CB) (L:CH) (f:String->List Jg) (W:PH) (Q:DQ) (X:DX) (r:C9) (H:Dl),DD W j L f->CY G (aR cv) e j Q X->
 (∀d t v T F,Q d t->ER W f T d t v F->r v T)->(∀c s ws T F,X c s->XOK W T s ws F->H ⟨c,ws⟩ T)->we G cv e L W r H
def GL(es:List E):Prop:=∀ (j:CB) (L:CH) (f:String->List Jg) (t:PH) (Q:List (D×Dc)->Prop) (X:DX) (r:List PV->PH->Prop) (H:Dl),DD t j L f->Dx G (aR cv) es j Q X->
 (∀d v T s,Q d->Di t T->E2 t f T d v s->r v T)->(∀c d ws T F,X c d->XOK t T d ws F->H ⟨c,ws⟩ T)->Fc G cv es L t r H
end
noncomputable abbrev D2(L:CB):List String:=L.map (·.1)
noncomputable abbrev EX(L:CH):List String:=L.map (·.1)
theorem CB.get_put_ne(h:y≠x):∀ (L:CB),(L.put x v).get y=L.get y
 |[]=>rfl
 |(z,o)::r=>by
  by_cases T:z=x
  .have:z≠y:=λq=>h<|q.symm.trans T;simp only[CB.put_if,T,if_true,CB.get_if];rw[Uf (λq=>h q.symm),Uf (λq=>h q.symm)]
  .simp only[CB.put_if,T,if_false,CB.get_if,CB.get_put_ne h r]
theorem CB.get_put:∀ (L:CB),x∈D2 L->(L.put x v).get x=Ja v
 |(z,o)::r,h=>by
  by_cases T:z=x
  .simp only[CB.put_if,T,if_true,CB.get_if]
  .simp only[CB.put_if,T,if_false,CB.get_if];exact CB.get_put r<|by simpa [Ne.symm T] using h
theorem CB.get_mem:∀ (L:CB),L.get x=Ja v->x∈D2 L
 |(z,o)::r,h=>by
  by_cases T:z=x
  .subst T;exact .head _
  .simp only[CB.get_if,T,if_false] at h;exact .tail _<|CB.get_mem r h
theorem CB.put_keys:∀ (L:CB),D2 (L.put x v)=D2 L
 |[]=>rfl
 |(z,o)::r=>by
  by_cases h:z=x
  .simp only[CB.put_if,h,if_true,D2,Qo]
  .simp only[CB.put_if,h,if_false,D2,Qo];exact Uj _<|CB.put_keys r
theorem CH.gput_ne(h:y≠x):∀ (L:CH),(L.put x v).get y=L.get y
 |[]=>rfl
 |(z,o)::r=>by
  by_cases T:z=x
  .simp only[CH.put_c,T,if_true,CH.get_c];rw[Uf (λq=>h q.symm),Uf (λq=>h q.symm)]
  .simp only[CH.put_c,T,if_false,CH.get_c,CH.gput_ne h r]
theorem CH.gput:∀ (L:CH),x∈EX L->(L.put x v).get x=Ja v
 |(z,o)::r,h=>by
  by_cases T:z=x
  .simp only[CH.put_c,T,if_true,CH.get_c]
  .simp only[CH.put_c,T,if_false,CH.get_c];exact CH.gput r<|by simpa [Ne.symm T] using h
theorem CH.put_keys:∀ (L:CH),EX (L.put x v)=EX L
 |[]=>rfl
 |(z,o)::r=>by
  by_cases h:z=x
  .simp only[CH.put_c,h,if_true,EX,Qo]
  .simp only[CH.put_c,h,if_false,EX,Qo];exact Uj _<|CH.put_keys r
theorem DD.put{L:CB}{A:CH}{f:String->List Jg}(h:DD Z L A f){d:D}(r:C5 Z d v F):
  DD Z (L.put x (d,b)) (A.put x v) (FE f x F):=by
 refine⟨λy X c e=> ?_,λy a T=> ?_,(CB.put_keys _).trans (h.keys.trans (CH.put_keys _).symm)⟩
 rotate_left
 .by_cases W:y=x
  .subst W;rw[du] at T;exact r.dom a T
  .rw[cB W] at T;exact h.dom y a T
 by_cases W:y=x
 .subst W;rw[du];have m:y∈D2 L:=by
   have:=CB.get_mem _ e
   rwa [CB.put_keys] at this
  rw[CB.get_put _ m] at e;cases e;exact⟨v,CH.gput _<|by rw[show EX A=D2 L from h.keys.symm];exact m,r⟩
 .rw[cB W];rw[CB.get_put_ne W] at e;rw[CH.gput_ne W];exact h.at_ y X c e
theorem DD.puts:∀ (xs:List String) (ds:List D) (vs:List PV) (F:List Jg) (Δ:CB) (ρ:CH) (fp:String->List Jg),DD Z Δ ρ fp->xs.length=ds.length->CJ Z ds vs F->
  vs.length=xs.length/\∃fp',DD Z (Δ.puts xs ds b) (ρ.puts xs vs) fp'/\D2 (Δ.puts xs ds b)=D2 Δ/\∀y a,a∈fp' y->(y∈xs/\a∈F)\/(y∉xs/\a∈fp y):=by
 intro xs
 induction xs with
 |nil=>
  intro ds vs F Δ ρ fp h hl r
  induction ds using List.casesOn with
  |cons=>cases hl
  |nil=>
   obtain⟨rfl,rfl⟩:=r;exact⟨rfl,fp,h,rfl,λy a ha=> .inr ⟨Ky,ha⟩⟩
 |cons x xs ih=>
  intro ds vs F Δ ρ fp h hl rr0
  induction ds using List.casesOn with
  |nil=>cases hl
  |cons d ds=>
   obtain⟨p,ps,F1,F2,e1,e2,r1,r2⟩:=rr0;subst e1 e2;obtain⟨l1,fp',h1,h3,h4⟩:=ih ds ps F2 _ _ _ (h.put (b:=b) r1) (Nat.succ.inj hl) r2;refine⟨Uj (· +1) l1,fp',h1,h3.trans<|CB.put_keys _,λy a ha=> ?_⟩
   rcases h4 y a ha with⟨q1,q2⟩|⟨q1,q2⟩
   .exact .inl ⟨.tail _ q1,Qe _ q2⟩
   .by_cases hy:y=x
    .rw[hy,du] at q2;exact .inl ⟨hy▸ .head _,Qk _ q2⟩
    .rw[cB hy] at q2;exact .inr ⟨λm=>by cases m with|head=>exact hy rfl|tail _ m=>exact q1 m,q2⟩
theorem DD.bindT{tg:Tg}{d:D}{p:String->List Jg}(h:DD Z L A p)(r:C5 Z d v F)(e:eY tg d b L=Ja P):
  X2 λρ' f=>A4 (bindT tg v A=Ja ρ') (DD Z P ρ' f) (D2 P=D2 L) (∀y a,a∈f y->(y∈tg.names/\a∈F)\/(y∉tg.names/\a∈p y)):=by
 induction tg with
 |name x=>
  obtain rfl:=sj e;refine⟨_,_,rfl,h.put r,CB.put_keys _,λy a T=> ?_⟩;by_cases W:y=x
  .rw[W,du] at T;exact .inl ⟨W▸ .head _,T⟩
  .rw[cB W] at T;exact .inr ⟨λm=>W<|Qh.mp m,T⟩
 |tup s=>
  induction d using D.casesOn with
  |tup z=>
   obtain⟨l,rfl,H,r⟩:=r;by_cases q:z.length=s.length
   .have g:Ja (L.puts s z b)=Ja P:=by rw[<-e];exact(Ug q).symm
    obtain rfl:=sj g;obtain⟨U,f,N,J,w⟩:=DD.puts (b:=b) s z l F L A p h q.symm r;exact⟨_,f,Ug U,N,J,w⟩
   .have g:Jb=Ja P:=by rw[<-e];exact(Uf q).symm
    exact ns g
  |_=>first|exact D6 e|exact Dw e|cases e
theorem CB.get_app:∀ (xs:List String) (Δ:CB),CB.get ((xs.map λx=>(x,Option.none))++Δ) y=Ja q->y∉xs/\Δ.get y=Ja q
 |[]=>λΔ e=>⟨Ky,e⟩
 |x::xs=>λΔ e=>by
  by_cases hx:x=y
  .simp[CB.get_if,hx] at e
  .simp only[Qo,List.cons_append,CB.get_if,hx,if_false] at e;obtain⟨h1,h2⟩:=CB.get_app xs Δ e;exact⟨λm=>by cases m with|head=>exact hx rfl|tail _ m=>exact h1 m,h2⟩
theorem CH.get_app:∀ (xs:List String) (L:CH),y∉xs->CH.get ((xs.map λx=>(x,Option.none))++L) y=L.get y
 |[]=>λL e=>rfl
 |x::xs=>λL e=>by
  have hx:x≠y:=λq=>e<|q▸ .head _;simp only[Qo,List.cons_append,CH.get_c,hx,if_false];exact CH.get_app xs L λm=>e<|.tail _ m
theorem DD.bindC{tg:Tg}{d:D}{p:String->List Jg}(h:DD Z j L p)(r:C5 Z d v F)(e:bw tg d j=Ja P):
  X2 λρ' f=>A3 (bindC tg v L=Ja ρ') (DD Z P ρ' f) (∀y a,a∈f y->(y∈tg.names/\a∈F)\/(y∉tg.names/\a∈p y)):=by
 have k:D2 (ig tg j)=EX (Eg tg L):=by
  simp only[D2,EX,ig,Eg,Qo,QD,QE];rw[show Kz (λx=>x.fst) j=Kz (λx=>x.fst) L from h.keys];rfl
 have i:DD Z (ig tg j) (Eg tg L) p:=by
  refine⟨λy d b e=> ?_,h.dom,k⟩;by_cases W:".0"=y
  .simp[ig,CB.get_if,W] at e
  .simp only[ig,CB.get_if,W,if_false] at e;obtain⟨N,Y⟩:=CB.get_app _ _ e;obtain⟨v,J,w⟩:=h.at_ y d b Y;refine⟨v,?_,w⟩;simp only[Eg,CH.get_c,W,if_false];rw[CH.get_app _ _ N];exact J
 obtain⟨ρ',f,N,Y,o0,w⟩:=i.bindT r e;exact⟨ρ',f,N,Y,w⟩
mutual
theorem C5.py:∀ {d:D} {n:Nat} {v:PV} {F:List Jg},C5 Z d v F->d.okd n=Jc->Rd Z d.py v/\d.py.canLay0=Jc/\d.py.depth<=n
 | .none,_,_,_,r,_=>⟨r.1,rfl,QS _⟩
 | .bool _,_,_,_,r,_=>⟨r.1,rfl,QS _⟩
 | .int _,_,_,_,r,_=>⟨r.1,rfl,QS _⟩
 | .str _,n,_,_,r,h=>⟨⟨_,r.1,rfl⟩,by rcases n with⟨⟩<;>exact h,QS _⟩
 | .tup l,n,_,_,r,h=>by
  induction n using Nat.casesOn with
  |zero=>exact D6 h
  |succ n=>
   obtain⟨vs,N,o0,Y⟩:=r;obtain⟨P,U,k⟩:=CJ.py Y (show D.okds n l=Jc from h);exact⟨⟨vs,N,P⟩,U,Kx k⟩
 | .list l,n,_,_,r,h=>by
  induction n using Nat.casesOn with
  |zero=>exact D6 h
  |succ n=>
   obtain⟨a,vs,o0,N,Y,o0,o0,J⟩:=r;obtain⟨P,U,k⟩:=CJ.py J (show D.okds n l=Jc from h);exact⟨⟨a,vs,N,Y,P⟩,U,Kx k⟩
 | .scr _,n,_,_,_,h=>by rcases n with⟨⟩<;>exact D6 h
 | .hole,n,_,_,_,h=>by rcases n with⟨⟩<;>exact D6 h
 | .exc _ _,n,_,_,_,h=>by rcases n with⟨⟩<;>exact D6 h
 | .inst _ _,n,_,_,_,h=>by rcases n with⟨⟩<;>exact D6 h
 | .dict _ _,n,_,_,_,h=>by rcases n with⟨⟩<;>exact D6 h
theorem CJ.py:∀ {ds:List D} {n:Nat} {l:List PV} {F:List Jg},CJ Z ds l F->D.okds n ds=Jc->Hi Z (D.pys ds) l/\PyData.canLayAll0 (D.pys ds)=Jc/\PyData.depthAll (D.pys ds)<=n
 |[],_,_,_,r,_=>⟨r.1,rfl,QS _⟩
 |d::ds,n,_,_,r,h=>by
  obtain⟨p,ps,o0,o0,N,o0,Y,J⟩:=r;obtain⟨e,e2⟩:=Qi.mp (show(D.okd n d&&D.okds n ds)=Jc from h);obtain⟨P,U,k⟩:=C5.py Y e;obtain⟨c,m,q⟩:=CJ.py J e2;exact⟨⟨p,ps,N,P,c⟩,Qi.mpr ⟨U,m⟩,Nat.max_le.mpr ⟨k,q⟩⟩
end
theorem A0{d:D}(r:C5 Z d v F)(h:kaD d=Ja k):kaOf v=Ja k:=by
 induction d using D.casesOn with
 |int i=>rw[r.1];exact h
 |str i=>rw[r.1];exact h
 |_=>first|exact D6 h|exact Dw h|cases h
theorem vp:∀ {ds:List D} {l:List PV} {F:List Jg} {k:List KA},CJ Z ds l F->kasD ds=Ja k->F6 l=Ja k
 |[],_,_,_,r,h=>by rw[r.1];exact h
 |d::ds,_,_,k,r,h=>by
  obtain⟨p,s,o0,o0,N,o0,Y,J⟩:=r;obtain⟨a,e,h⟩:=Qn.mp (show((kaD d).bind λk=>(kasD ds).map (k:: ·))=Ja k from h);obtain⟨b,w,rfl⟩:=Qt.mp h;rw[N];show((kaOf p).bind λk=>(F6 s).map (k:: ·))=_;rw[A0 Y e,vp J w];rfl
theorem nF{d:D}(r:C5 Z d v F)(h:DC d=Ja k):DM v=Ja k:=by
 induction d using D.casesOn with
 |tup l=>obtain⟨m,rfl,o0,r⟩:=r;exact vp r h
 |_=>first|exact D6 h|exact Dw h|cases h
theorem vo{d:D}{K K':List KA->Prop}(r:C5 Z d v F)(h:oK K (DC d))(k:∀x,K x->K' x):oK K' (DM v):=by
 obtain⟨x,e,h⟩:=jh h;rw[nF r e];exact k x h
theorem vD:∀k:List KA,CJ Z (k.map KA.d) (k.map KA.pv) []
 |[]=>⟨rfl,rfl⟩
 |a::k=>⟨_,_,[],[],rfl,rfl,by rcases a with⟨⟩<;>exact⟨rfl,rfl⟩,vD k⟩
section
variable{Z Z1 Z2 Z':PH}{fp:String->List Jg}{Δ:CB}{ρ:CH}
theorem CG.apart(f:∀x,∀a∈fp x,∃l:MO,Z a=Ja l.1)(M:Di Z Z1)(pa:CG Z fp k F)(d:∀a∈F,∃l:MO,Z1 a=Ja l.1)(pb:CG Z1 fp t b)(h:k=Jb\/t=Jb):Eb F b:=λa T R=>by
 obtain⟨l,e⟩:=d a T
 induction t with
 |none=>have:=(pb.own rfl).2 a R;exact sn<|e.symm.trans this
 |some s=>
  have n:=(pa.own<|h.resolve_right λq=>by exact sn q).2 a T
  rcases pb.al s rfl a R with q|⟨x,o0,q⟩
  .exact sn<|e.symm.trans q
  .obtain⟨K,g⟩:=f x a q;exact ns<|n.symm.trans g
theorem eL{t:Dc}{ds:List D}{l:List PV}{F:List Jg}{Q:DQ}{Q':C9}(x:Di Z Z')(r:CJ Z' ds l F)(H:l.length<=Dg)(p:CG Z fp t F)(q:Q (.list ds) t)
  (k:∀d t v Z' F,Q d t->ER Z fp Z' d t v F->Q' v Z'):Ex (.list l) Z' Q':=λa T=>by
 refine k _ _ _ _ (a::F) q ⟨⟨a,l,F,rfl,PH.set_same _ _ _,H,rfl,r.ext<|Di.set T _⟩,x.trans<|Di.set T _,p.cons (x.new T) λh=> ?_⟩;obtain⟨K,e⟩:=r.dom a h;exact ns<|T.symm.trans e
theorem CJ.app{d e:List D}:∀ {l:List PV} {F:List Jg},CJ Z d l F->CJ Z e m G->CJ Z (d++e) (l++m) (F++G):=by
 induction d with
 |nil=>intro l F h k;obtain⟨rfl,rfl⟩:=h;exact k
 |cons d f i=>
  intro l F h k;obtain⟨p,s,j,N,E,Y,J,w⟩:=h;subst E Y;exact⟨p,s++m,j,N++G,rfl,Kt _ _ _,J,i w k⟩
theorem CJ.len{d:List D}:∀ {l:List PV} {F:List Jg},CJ Z d l F->l.length=d.length:=by
 induction d with
 |nil=>intro l F h;rw[h.1];rfl
 |cons d f i=>intro l F h;obtain⟨p,s,j,q,N,Y,J,w⟩:=h;rw[N];exact Uj (· +1)<|i w
theorem yl(xs:List String)(t:Dc):∃ys,tj (Ja xs) t=Ja ys/\∀zs,t=Ja zs->∀z∈zs,z∈ys:=by
 induction t with
 |none=>exact⟨xs,rfl,λzs e=>ns e⟩
 |some y=>exact⟨xs++y,rfl,λzs e z h=>by obtain rfl:=sj e;exact Qe _ h⟩
theorem wv(x:Di Z Z')(r:C5 Z' a A O)(e:C5 Z' b σ I)(pa:CG Z fp R O)(pb:CG Z fp B I)
  (J:R=Jb->B=Jb->Eb O I)(h:dadd a b R B Q)(k:∀d t v Z' F,Q d t->ER Z fp Z' d t v F->Q' v Z'):wadd A σ Z' Q':=by
 induction a using D.casesOn with
 |int i=>
  obtain⟨j,rfl,h⟩:=eQ h;obtain⟨rfl,rfl⟩:=r;obtain⟨rfl,rfl⟩:=e;exact k _ _ _ _ _ h<|.at0 x ⟨rfl,rfl⟩
 |list l=>
  obtain⟨m,rfl,h⟩:=fu h;obtain⟨p,K,F,rfl,T,H,rfl,r⟩:=r;obtain⟨q,N,G,rfl,w,L,rfl,e⟩:=e;have z:(K++N).length<=Dg:=by rw[(r.app e).len];exact h.1
  show Es Z' (λl=>Es Z' (λm=>E9 (l++m) Z' Q')<|.ref q) (.ref p);rw[hH T,hH w];exact⟨z,eL x (r.app e) z (((pa.sub<|KI _ _).join (pb.sub<|KI _ _) λT w c C W=>J T w c (.tail _ C)<|.tail _ W).tgl (r.app e)) h.2 k⟩
 |_=>exact h.elim
theorem yg(x:Di Z Z')(r:C5 Z' a A O)(J:C5 Z' b q I)(pa:CG Z fp B O)(pb:CG Z fp l I)
  (P:B=Jb->l=Jb->Eb O I)(h:FX o a b B l Q)(k:∀d t v Z' F,Q d t->ER Z fp Z' d t v F->Q' v Z'):wbin o A q Z' Q':=by
 have two:∀ {K:Int->Int->Prop} {W:Int->Int->Prop},DY (λx=>DY (λy=>K x y) b) a->(∀x y,K x y->W x y)->Df (λx=>Df (λy=>W x y) q) A:=λw k=>by
  obtain⟨i,e,w⟩:=eQ w;obtain⟨j,g,w⟩:=eQ w;subst e g;obtain⟨rfl,o0⟩:=r;obtain⟨rfl,o0⟩:=J;exact k i j w
 induction o with
 |add=>exact wv x r J pa pb P h k
 |mul=>exact two h λi j h=>⟨h.1,k _ _ _ _ _ h.2<|.at0 x ⟨rfl,rfl⟩⟩
 |sub=>exact two h λi j h=>k _ _ _ _ _ h<|.at0 x ⟨rfl,rfl⟩
 |fdiv=>exact two h λi j h=>⟨h.1,h.2.1,k _ _ _ _ _ h.2.2<|.at0 x ⟨rfl,rfl⟩⟩
 |mod=>exact two h λi j h=>⟨h.1,k _ _ _ _ _ h.2<|.at0 x ⟨rfl,rfl⟩⟩
 |pow=>exact two h λi j h=>⟨h.1,h.2.1,h.2.2.1,k _ _ _ _ _ h.2.2.2<|.at0 x ⟨rfl,rfl⟩⟩
theorem k8{d:D}(r:C5 Z d v F)(h:d.okd n=Jc)(o:n<=50):Rd Z d.py v/\G8 d.py:=by
 obtain⟨N,p,J⟩:=r.py h;exact⟨N,p,Qq J o⟩
theorem nE:∀l:List D,D.pys l=l.map D.py
 |[]=>rfl
 |d::s=>Uj _<|nE s
theorem ry:∀ {vs:List PV} {F:List Jg} {n:Nat},CJ Z l vs F->D.okds n l=Jc->n<=50->∀d∈D.pys l,G8 d:=by
 induction l with
 |nil=>intro vs F n _ _ _ e O;cases O
 |cons d s i=>
  intro vs F n r h o e O;obtain⟨p,I,j,N,E,Y,J,w⟩:=r;obtain⟨P,k⟩:=Qi.mp (show(D.okd n d&&D.okds n s)=Jc from h);cases O with
  |head=>exact(k8 J P o).2
  |tail _ O=>exact i w k o e O
theorem vd{Q:Bool->Prop}{Q':Bool->PH->Prop}(C:C5 Z a v F)(l:C5 Z b q I)(h:DP a b Q)(k:∀r,Q r->Q' r Z):weq v q Z Q':=by
 obtain⟨N,p⟩:=k8 C h.1.1 (by decide);obtain⟨J,w⟩:=k8 l h.1.2 (by decide);exact⟨_,_,N,J,p,w,k _ h.2⟩
theorem rH{Q:Bool->Prop}{Q':Bool->PH->Prop}(C:C5 Z a v O)(e:C5 Z b B F)(h:din a b Q)(k:∀r,Q r->Q' r Z):win v B Z Q':=by
 induction b using D.casesOn with
 |list l=>
  obtain⟨p,m,G,rfl,T,H,rfl,e⟩:=e;obtain⟨N,Y⟩:=k8 C h.1.1 (by decide);refine .inr ?_;rw[hH T];refine⟨_,_,N,(e.py h.1.2).1,Y,ry e h.1.2<|by decide,k _ ?_⟩;rw[nE,List.any_map];exact h.2
 |dict s l=>
  obtain⟨p,m,G,rfl,T,H,rfl,e⟩:=e;refine .inl ?_;show EK _ (Z p);rw[T];exact vo C h λx q=>k _ q
 |_=>exact h.elim
theorem kL{f:Int->Int->Bool}{Q:Bool->Prop}{Q':Bool->PH->Prop}(C:C5 Z a v O)(l:C5 Z b q F)(h:H1 f a b Q)(k:∀r,Q r->Q' r Z):Hm f v q Z Q':=by
 obtain⟨i,e,h⟩:=eQ (show DY (λx=>DY (λy=>Q<|f x y) b) a from h);obtain⟨j,g,h⟩:=eQ h;subst e g;obtain⟨rfl,o0⟩:=C;obtain⟨rfl,o0⟩:=l;exact k _ h
theorem nv{Q:Bool->Prop}{Q':Bool->PH->Prop}(C:C5 Z a v F)(l:C5 Z b m I)(h:EM o a b Q)(k:∀r,Q r->Q' r Z):Ho o v m Z Q':=by
 induction o with
 |eq=>exact vd C l h k
 |ne=>exact vd (Q:=λr=>Q (!r)) (Q':=λr Z=>Q' (!r) Z) C l h λr q=>k _ q
 |in_=>exact rH C l h k
 |nin=>exact rH (Q:=λr=>Q (!r)) (Q':=λr Z=>Q' (!r) Z) C l h λr q=>k _ q
 |lt=>exact kL C l h k
 |le=>exact kL C l h k
 |gt=>exact kL C l h k
 |ge=>exact kL C l h k
end
section
variable{Z Z1 Z2 Z':PH}{fp:String->List Jg}{Δ:CB}{ρ:CH}
theorem w7{d:D}(r:C5 Z d v F)(h:Hv d=Ja n):Gv Z v=Ja n/\n<=Dg:=by
 induction d using D.casesOn with
 |list l=>
  obtain⟨a,m,G,rfl,e,T,rfl,r⟩:=r;obtain rfl:=sj h;refine⟨?_,r.len▸T⟩;show(match Z a with
   |some (.list l)=>Ja l.length
   |_=>Jb)=_
  rw[e];exact Uj Ja r.len
 |tup l=>
  obtain⟨m,rfl,T,r⟩:=r;obtain rfl:=sj h;exact⟨Uj Ja r.len,r.len▸T⟩
 |scr l=>
  obtain⟨⟨rfl,T⟩,o0⟩:=r;obtain rfl:=sj h;exact⟨rfl,T⟩
 |_=>first|exact D6 h|exact Dw h|cases h
theorem jC:∀ {l:List D} {vs:List PV} {F:List Jg} {is:List Int},CJ Z l vs F->DG l=Ja is->dy vs=Ja is
 |[],vs,F,is,r,h=>by rw[r.1];exact h
 |d::s,vs,F,is,N,h=>by
  obtain⟨p,I,Q,q,E,Y,J,w⟩:=N
  induction d using D.casesOn with
  |int i=>
   obtain⟨j,e,rfl⟩:=Qt.mp (show(DG s).map (i:: ·)=Ja is from h);rw[E,J.1];exact Qt.mpr ⟨j,jC w e,rfl⟩
  |_=>first|exact D6 h|exact Dw h|cases h
theorem lS:∀ {l:List D} {vs:List PV} {F:List Jg} {is:List Bool},CJ Z l vs F->hS l=Ja is->eG vs=Ja is
 |[],vs,F,is,r,h=>by rw[r.1];exact h
 |d::s,vs,F,is,N,h=>by
  obtain⟨p,I,Q,q,E,Y,J,w⟩:=N
  induction d using D.casesOn with
  |bool i=>
   obtain⟨j,e,rfl⟩:=Qt.mp (show(hS s).map (i:: ·)=Ja is from h);rw[E,J.1];exact Qt.mpr ⟨j,lS w e,rfl⟩
  |_=>first|exact D6 h|exact Dw h|cases h
theorem E2.one{d:D}(h:E2 Z fp Z' ds vs s)(e:ds=[(d,t)]):X2 λv F=>A3 (vs=[v]) (C5 Z' d v F) (CG Z fp t F):=by
 cases h with
 |nil=>cases e
 |cons r p q h=>
  cases e;cases h;exact⟨_,_,rfl,r,p⟩
theorem lu{d:D}{K:List D->Prop}{K':List PV->Prop}(r:C5 Z d v F)(h:DS K d)(k:∀l vs G,K l->CJ Z l vs G->vs.length<=Dg->(G.Sublist F)->K' vs):Es Z K' v:=by
 obtain⟨l,rfl,h⟩:=fu h;obtain⟨a,m,G,rfl,e,T,rfl,r⟩:=r;rw[hH e];exact k _ _ _ h r T<|KI _ _
theorem kM{K K':List Int->Prop}(h:Gy K o)(e:∀is,o=Ja is->o'=Ja is)(k:∀is,K is->K' is):Gy K' o':=by
 obtain⟨is,N,p⟩:=jq h;rw[e is N];exact k is p
theorem rQ:∀ks:List (List KA),(∀k∈ks,k.length<=Dg)->CJ Z (ks.map GB) (ks.map Fd) []
 |[]=>λo0=>⟨rfl,rfl⟩
 |k::ks=>λh=>⟨_,_,[],[],rfl,rfl,⟨_,rfl,(by rw[Qd];exact h k (.head _)),vD k⟩,rQ ks λx hx=>h x (.tail _ hx)⟩
theorem rC:∀is:List Int,CJ Z (is.map D.int) (is.map PV.int) []
 |[]=>⟨rfl,rfl⟩
 |i::is=>⟨_,_,[],[],rfl,rfl,⟨rfl,rfl⟩,rC is⟩
theorem zZ(x:Di Z Z')(r:E2 Z fp Z' ds vs Fs)(h:Hw b ds Q)
  (k:∀d t v Z' F,Q d t->ER Z fp Z' d t v F->Q' v Z'):wbi b vs Z' Q':=by
 have at1:∀ {K:D->Dc->Prop} {K':PV->Prop},d1 K ds->(∀d t v F,K d t->C5 Z' d v F->CG Z fp t F->K' v)->HC K' vs:=λw k=>by
  obtain⟨d,t,e,w⟩:=zw w;obtain⟨v,F,rfl,rv,p⟩:=r.one e;exact k d t v F w rv p
 induction b with
 |len=>
  exact at1 h λd t v F w rv p=>by
   obtain⟨n,e,w⟩:=gR w;obtain⟨h1,h2⟩:=w7 rv e;rw[h1];exact⟨h2,k _ _ _ _ _ w<|.at0 x ⟨rfl,rfl⟩⟩
 |all=>
  exact at1 h λd t v F w rv p=>lu rv w λl vs G w r o0 o0=>by
   obtain⟨bs,e,w⟩:=kD w;rw[lS r e];exact k _ _ _ _ _ w<|.at0 x ⟨rfl,rfl⟩
 |sum=>
  exact at1 h λd t v F w rv p=>lu rv w λl vs G w r o0 o0=>kM w (λis e=>jC r e) λis w=>k _ _ _ _ _ w<|.at0 x ⟨rfl,rfl⟩
 |int=>
  exact at1 h λd t v F w rv p=>by
   obtain⟨i,rfl,w⟩:=eX w;rw[rv.1];exact k _ _ _ _ _ w<|.at0 x ⟨rfl,rfl⟩
 |list=>
  exact at1 h λd t v F w rv p=>by
   induction d using D.casesOn with
   |tup l=>obtain⟨m,rfl,hl,r⟩:=rv;exact .inr ⟨hl,eL x r hl (p.tgl r) w k⟩
   |list l=>
    obtain⟨a,m,G,rfl,e,hl,rfl,r⟩:=rv;refine .inr ?_;show GN _ (Z' a);rw[e];exact⟨hl,eL x r hl ((p.sub<|KI _ _).tgl r) w k⟩
   |dict ks l=>
    obtain⟨a,m,G,rfl,e,hl,rfl,r⟩:=rv;refine .inl ?_;show EK _ (Z' a);rw[e];have hk:(ks.map Fd).length<=Dg:=by rw[Qd];exact w.1.1
    exact⟨hk,eL x (rQ ks w.1.2) hk .nil w.2 k⟩
   |_=>exact w.elim
 |min=>
  exact at1 h λd t v F w rv p=>lu rv w λl vs G w r o0 o0=>kM w (λis e=>jC r e) λis w=>⟨w.1,k _ _ _ _ _ w.2<|.at0 x ⟨rfl,rfl⟩⟩
 |max=>
  exact at1 h λd t v F w rv p=>lu rv w λl vs G w r o0 o0=>kM w (λis e=>jC r e) λis w=>⟨w.1,λz hz=>k _ _ _ _ _ (w.2 z hz)<|.at0 x ⟨rfl,rfl⟩⟩
 |max2=>
  obtain⟨a,b,e,w⟩:=xp h;have rr:=r.rds;rw[e] at rr;obtain⟨va,vs',o0,o0,rfl,o0,ra,vb,vs'',o0,o0,rfl,o0,rb,rfl,o0⟩:=rr;obtain⟨i,rfl,w1⟩:=eQ w;obtain⟨j,rfl,w2⟩:=eQ w1;rw[ra.1,rb.1];exact λz h1 h2=>k _ _ _ _ _ (w2 z h1 h2)<|.at0 x ⟨rfl,rfl⟩
 |sorted=>
  exact at1 h λd t v F w rv p=>lu rv w λl vs G w r o0 o0=>kM w (λis e=>jC r e) λis w=>⟨w.1,λjs hp hs=>by
   have hl:(js.map PV.int).length<=Dg:=by
    rw[Qd,hp.length_eq];exact Qq (Kw w.1)<|by decide
   exact⟨hl,eL x (rC js) hl .nil (w.2 js hp hs) k⟩⟩
 |dict=>
  exact at1 h λd t v F w rv p=>by
   induction d using D.casesOn with
   |dict ks l=>
    obtain⟨a,m,G,rfl,e,hl,rfl,r⟩:=rv;show EK _ (Z' a);rw[e];refine⟨⟨w.1.1,by rw[hl.2];exact hl.1,w.1.2.1⟩,λb hb=> ?_⟩;have hG:G=[]:=r.atom w.1.2.2;subst hG;refine k _ _ _ _ [b] w.2 ⟨⟨b,m,[],rfl,PH.set_same _ _ _,hl,rfl,r.ext<|Di.set hb _⟩,x.trans<|Di.set hb _,CG.nil.cons (x.new hb) λq=>(bS q)⟩
   |_=>exact w.elim
end
section
variable{Z Z1 Z2 Z':PH}{fp:String->List Jg}{Δ:CB}{ρ:CH}
theorem Am{d:D}(r:C5 Z d v F)(h:FK G d ts=Ja b):isiV G Z v ts=Ja b:=by
 have key:FK G d ts=Ja b->isiV G Z v ts=Ja b:=λh=>by
  induction d using D.casesOn with
  |none=>rw[r.1];exact h
  |bool=>rw[r.1];exact h
  |int=>rw[r.1];exact h
  |str=>rw[r.1];exact h
  |scr=>exact ns h
  |hole=>exact ns h
  |tup l=>obtain⟨m,rfl,o0⟩:=r;exact h
  |list l=>
   obtain⟨a,m,o0,rfl,e,o0⟩:=r;show isiO G ts (Z a)=_;rw[e];exact h
  |dict k l=>exact ns h
  |inst c l=>exact ns h
  |exc c l=>exact ns h
 exact key h
theorem CJ.get:∀ {l:List PV} {F:List Jg},CJ Z ds l F->∀ (j:Nat) (d:D),ds[j]? =Ja d->X2 λp G=>A3 (l[j]? =Ja p) (C5 Z d p G) (G.Sublist F):=by
 induction ds with
 |nil=>intro l F _ j d O;exact ns O
 |cons d ds i=>
  intro l F h j e O;obtain⟨p,s,Q,t,N,Y,J,w⟩:=h;subst N Y
  induction j using Nat.casesOn with
  |zero=>obtain rfl:=sj O;exact⟨p,Q,rfl,J,List.sublist_append_left _ _⟩
  |succ j=>
   obtain⟨q,G,P,U,k⟩:=i w j e O;exact⟨q,G,P,U,k.trans<|List.sublist_append_right _ _⟩
theorem CJ.take{ds:List D}:∀ {l:List PV} {F:List Jg},CJ Z ds l F->∀ (j:Nat),∃G,CJ Z (ds.take j) (l.take j) G/\G.Sublist F:=by
 induction ds with
 |nil=>intro l F h j;obtain⟨rfl,rfl⟩:=h;rw[List.take_nil,List.take_nil];exact⟨[],⟨rfl,rfl⟩,List.nil_sublist _⟩
 |cons d ds i=>
  intro l F h j
  induction j using Nat.casesOn with
  |zero=>exact⟨[],⟨rfl,rfl⟩,List.nil_sublist _⟩
  |succ j=>
   obtain⟨p,s,Q,q,N,Y,J,w⟩:=h;subst N Y;obtain⟨G,k,U⟩:=i w j;exact⟨Q++G,⟨p,s.take j,Q,G,rfl,rfl,J,k⟩,List.Sublist.append (List.Sublist.refl _) U⟩
abbrev wsub(Z:PH)(v i:PV)(Q:PV->Prop):Prop:=G7 Z (λs l=>oK (λk=>oV Q (Dh s l k)) (DM i)) v\/EV (λk=>k<=Dg/\oV Q (Hr Z v i)) (Gv Z v)
theorem ie(e:Gv Z v=Ja n)(e2:n<=Dg)(X:Hr Z v i=Ja p)(Q:PV->Prop)(q:Q p):wsub Z v i Q:=by
 refine .inr ?_;rw[e,X];exact⟨e2,q⟩
theorem CJ.look(h:CJ Z ds l F){d:D}(e:DE ks ds k=Ja d):X3 λj p G=>A6 (C0 ks k=Ja j) (ds[j]? =Ja d) (l[j]? =Ja p) (Dh ks l k=Ja p) (C5 Z d p G) (G.Sublist F):=by
 obtain⟨j,N,Y⟩:=Qn.mp e;obtain⟨p,G,g,c,H⟩:=h.get j d Y;exact⟨j,p,G,N,Y,g,Qn.mpr ⟨j,N,g⟩,c,H⟩
theorem nZ(e:Z a=Ja (.dict ks l))(T:DM v=Ja k)(e2:Dh ks l k=Ja p)(Q:PV->Prop)(q:Q p):wsub Z (.ref a) v Q:=by
 refine .inl ?_;show EK _ (Z a);rw[e];show oK _ (DM v);rw[T];show oV Q (Dh ks l k);rw[e2];exact q
inductive SubS(Z:PH)(va vi:PV)(x:D)(Fa:List Jg):Prop
 |mk (p:PV) (G:List Jg) (e:∀Q:PV->Prop,Q p->wsub Z va vi Q) (r:C5 Z x p G) (s:G.Sublist Fa):SubS Z va vi x Fa
theorem AC(C:C5 Z a A F)(V:C5 Z i v I)(h:C4 a i=Ja x):SubS Z A v x F:=by
 induction a using D.casesOn with
 |list l=>
  induction i using D.casesOn with
  |int n=>
   obtain⟨rfl,o0⟩:=V;obtain⟨a,m,G,rfl,e,T,rfl,r⟩:=C;obtain⟨j,N,Y⟩:=Qn.mp (show((CO l.length n).bind λj=>l[j]?)=Ja x from h);obtain⟨p,b,g,c,H⟩:=r.get j x Y;refine⟨p,b,ie (n:=m.length) ?_ T ?_,c,H.trans<|KI _ _⟩
   .show(match Z a with
     |some (.list l)=>Ja l.length
     |_=>Jb)=_
    rw[e]
   .show G6 (.int n) (Z a)=_;rw[e];show((CO m.length n).bind λj=>m[j]?)=Ja p;rw[r.len,N];exact g
  |_=>first|exact D6 h|exact Dw h|cases h
 |tup l=>
  induction i using D.casesOn with
  |int n=>
   obtain⟨rfl,o0⟩:=V;obtain⟨m,rfl,T,r⟩:=C;obtain⟨j,N,Y⟩:=Qn.mp (show((CO l.length n).bind λj=>l[j]?)=Ja x from h);obtain⟨p,b,g,c,H⟩:=r.get j x Y;refine⟨p,b,ie (n:=m.length) rfl T ?_,c,H⟩;show((CO m.length n).bind λj=>m[j]?)=Ja p;rw[r.len,N];exact g
  |_=>first|exact D6 h|exact Dw h|cases h
 |scr l=>
  induction i using D.casesOn with
  |int n=>
   obtain⟨rfl,o0⟩:=V;obtain⟨⟨rfl,T⟩,rfl⟩:=C;obtain⟨y,N,rfl⟩:=Qt.mp (show((CO l.length n).bind λj=>l[j]?).map D.int=Ja x from h);exact⟨.int y,[],ie (n:=l.length) rfl T<|Qt.mpr ⟨y,N,rfl⟩,⟨rfl,rfl⟩,List.Sublist.refl _⟩
  |_=>first|exact D6 h|exact Dw h|cases h
 |dict s l=>
  obtain⟨k,N,Y⟩:=Qn.mp (show((DC i).bind λk=>DE s l k)=Ja x from h);obtain⟨a,m,G,rfl,e,T,rfl,r⟩:=C;obtain⟨j,p,b,o0,o0,o0,g,c,H⟩:=r.look Y;exact⟨p,b,nZ e (nF V N) g,c,H.trans<|KI _ _⟩
 |_=>first|exact D6 h|exact Dw h|cases h
theorem v9(n:Nat):CJ Z ((Qc n).map λ(i:Nat)=>D.int i) ((Qc n).map λ(i:Nat)=>PV.int i) []:=by
 generalize Qc n=l
 induction l with
 |nil=>exact⟨rfl,rfl⟩
 |cons i r h=>exact⟨_,_,[],[],rfl,rfl,⟨rfl,rfl⟩,h⟩
theorem CJ.one1{d:D}(r:CJ Z [d] vs F):∃v,vs=[v]/\C5 Z d v F:=by
 obtain⟨p,s,j,N,e,w,f,X,u⟩:=r;exact⟨p,by rw[e,X],by rw[w,u,QH];exact f⟩
abbrev SrcC(Z':PH)(FF:List Jg)(K:List D->Prop)(K':List PV->(PH->Prop)->Prop):Prop:=∀x l c G,K x->CJ Z' x l G->l.length<=Dg->(∀a∈G,a∈FF)->(∀j,(∀a∈FF,j a=Z' a)->c j)->K' l c
theorem Bq{d:D}{FF:List Jg}{K:List D->Prop}{K':List PV->(PH->Prop)->Prop}(f:C5 Z' d v FF)(h:dSeq K d)(c:SrcC Z' FF K K'):src .val [v] Z' K':=by
 induction d using D.casesOn with
 |tup l=>
  obtain⟨m,u,T,r⟩:=f;rw[u];exact c l m _ _ h r T (λa H=>H) λo0 o0=>trivial
 |list l=>
  obtain⟨a,m,G,u,e,T,p,r⟩:=f;rw[u];show Es Z' (λl=>K' l λZ'=>Z' a=Ja (.list l)) (.ref a);rw[hH e];exact c l m _ G h r T (λb R=>by rw[p];exact .tail _ R) λj s=>(s a<|by rw[p];exact .head _).trans e
 |_=>exact h.elim
theorem rY:∀ {ds:List D} {l:List PV} {F:List Jg} (n:Nat),CJ Z ds l F->CJ Z (GG n ds) (EF n l) F/\(EF n l).length=l.length
 |[],l,F,n,r=>by obtain⟨rfl,rfl⟩:=r;exact⟨⟨rfl,rfl⟩,rfl⟩
 |d::ds,l,F,n,r=>by
  obtain⟨p,s,j,N,rfl,rfl,f,M⟩:=r;obtain⟨y,e⟩:=rY (n+1) M;exact⟨⟨_,_,j,N,rfl,rfl,⟨_,rfl,Wk rfl,_,_,[],j,rfl,rfl,⟨rfl,rfl⟩,_,_,j,[],rfl,(QH _).symm,f,rfl,rfl⟩,y⟩,Uj (· +1) e⟩
theorem AP{FF:List Jg}{K:List D->Prop}{K':List PV->(PH->Prop)->Prop}(r:CJ Z' ds vs FF)(h:FH k ds K)(c:SrcC Z' FF K K'):src k vs Z' K':=by
 induction k with
 |val=>
  obtain⟨d,rfl,i⟩:=nC h;obtain⟨v,e,f⟩:=r.one1;rw[e];exact Bq f i c
 |range=>
  obtain⟨d,rfl,i⟩:=nC h;obtain⟨n,rfl,N,p⟩:=eQ i;obtain⟨v,e,f⟩:=r.one1;rw[e,f.1];exact⟨N.1,c _ _ _ [] p (v9 _) (by rw[Qd,QA];exact Int.toNat_le.mpr N.2) (λa σ=>(bS σ)) λo0 o0=>trivial⟩
 |enum=>
  obtain⟨d,rfl,i⟩:=nC h;obtain⟨v,e,f⟩:=r.one1;obtain⟨l,rfl,N⟩:=fu i;obtain⟨a,m,G,u,F,H,T,C⟩:=f;rw[e,u];show Es Z' (λl=>K' (EF 0 l) λZ'=>Es Z' (λw=>w=l)<|.ref a) (.ref a);rw[hH F];obtain⟨y,X⟩:=rY 0 C;refine c _ _ _ G N y (by rw[X];exact H) (λb R=>by rw[T];exact .tail _ R) λj s=> ?_;have z:j a=Ja (.list m):=(s a<|by rw[T];exact .head _).trans F;show Es j (λw=>w=m) (.ref a);rw[hH z]
theorem p7{F:List (List Jg)}{K:List D->Prop}{K':List PV->(PH->Prop)->Prop}(r:E2 Z fp Z' ds vs F)(h:FH k (CE ds) K)
  (c:∀xs l chk G,K xs->CJ Z' xs l G->l.length<=Dg->(∀a∈G,a∈F.flatten)->(∀j,(∀a∈F.flatten,j a=Z' a)->chk j)->K' l chk):src k vs Z' K':=AP r.rds h c
end
section
variable{Z Z1 Z2 Z':PH}{fp:String->List Jg}{Δ:CB}{ρ:CH}
theorem wJ{ns:List String}{f:String->List Jg}(h:CG Z1 f u F)(x:Di Z Z1)(E:CG Z fp ts G)(w:∀y a,a∈f y->(y∈ns/\a∈G)\/(y∉ns/\a∈fp y)):CG Z fp (Hp ns ts u) F:=by
 induction u with
 |none=>exact⟨λo0=>⟨(h.own rfl).1,λa T=>x.new ((h.own rfl).2 a T)⟩,λs e=>nomatch e⟩
 |some s=>
  refine⟨λe=> ?_,λzs e a T=> ?_⟩
  .exact sn (nI e).1
  obtain⟨c,m⟩:=ua (a:=Ja<|s.filter λx=> !ns.contains x) (b:=ts) e
  rcases h.al s rfl a T with q|⟨y,W,q⟩
  .exact .inl<|x.new q
  .rcases w y a q with⟨o0,q⟩|⟨N,σ⟩
   .exact(E.wide m).al zs rfl a q
   .exact .inr ⟨y,c _ rfl y<|Qj.mpr ⟨W,by simpa using N⟩,σ⟩
theorem pP{tst:CB->(Bool->Prop)->Prop}{el:CB->DQ->Prop}{s:CH->PH->(Bool->PH->Prop)->Prop}{g:CH->PH->C9->Prop}{chk:PH->Prop}
  (env:DD Z Δ ρ fp)(n:CG Z fp ts A)
  (X:∀P ρ' f Z1 K K',DD Z1 P ρ' f->tst P K->(∀b Z2,K b->Di Z1 Z2->K' b Z2)->s ρ' Z1 K')
  (B:∀P ρ' f Z1 K K',DD Z1 P ρ' f->el P K->(∀d t v Z2 F,K d t->ER Z1 f Z2 d t v F->K' v Z2)->g ρ' Z1 K'):
  ∀ (xs:List D) (vs:List PV) (Gx:List Jg) (m:List D) (c:List PV) (O:List Jg) (t:Dc) (Z1:PH) (K:List D->Dc->Prop) (K':List PV->PH->Prop),CJ Z1 xs vs Gx->(∀a∈Gx,a∈A)->Di Z Z1->(∀Z2,Di Z1 Z2->chk Z2)->
   CJ Z1 m c O->CG Z fp t O->c.length+vs.length<=Dg->DN tg Δ ts tst el xs m t K->
   (∀m t c Z2 O,K m t->Di Z Z2->CJ Z2 m c O->CG Z fp t O->c.length<=Dg->K' c Z2)->gE chk tg ρ s g vs c Z1 K':=by
 intro xs
 induction xs with
 |nil=>
  intro vs Gx m c O t Z1 K K' r _ x C σ Y H h k;obtain⟨rfl,o0⟩:=r;exact⟨C Z1<|.refl _,k _ _ _ _ _ h x σ Y H⟩
 |cons d ds i=>
  intro vs Gx m c O t Z1 K K' N S x C σ Y H h k;obtain⟨p,I,F1,L,o,w,Q,R⟩:=N;subst o w;refine⟨C Z1<|.refl _,?_⟩;obtain⟨P,e,h⟩:=gx h;obtain⟨ρ',f,b1,E,b3⟩:=(env.ext x).bindC Q e;rw[b1];refine X P ρ' f Z1 _ _ E h λb Z2 h W=> ?_;have U:c.length+(I.length+1)<=Dg:=H
  induction b with
  |false=>exact i I L m c O t Z2 K K' (R.ext W) (λa T=>S a<|Qe _ T) (x.trans W) (λV J=>C V<|W.trans J) (σ.ext W) Y (by exact Kj U) h k
  |true=>
   refine B P ρ' f Z2 _ _ (E.ext W) h λe u v V F h j=> ?_;have J:=W.trans j.ext;have po:CG Z fp (Hp tg.names ts u) F:=wJ j.part (x.trans W) n λy a T=>(b3 y a T).imp_left λq=>⟨q.1,S a<|Qk _ q.2⟩
   refine i I L (m++[e]) (c++[v]) (O++F) (tj t<|Hp tg.names ts u) V K K' (R.ext J) (λa T=>S a<|Qe _ T) (x.trans J) (λM x4=>C M<|J.trans x4)
    ((σ.ext J).app ⟨v,[],F,[],rfl,(QH _).symm,j.rd,rfl,rfl⟩) (Y.join po λo0 w a T z=> ?_) (by rw[QG,WG];exact D8 (QV<|QI _ _ _) U) h k
   have hu:u=Jb:=by
    induction u with
    |none=>rfl
    |some xs=>exact sn (nI w).1
   obtain⟨l,el⟩:=(σ.ext W).dom a T;have:=(j.part.own hu).2 a z;exact sn<|el.symm.trans this
end
theorem E2.from{fp:String->List Jg}(h:E2 Z1 fp Z' ds vs F)(x:Di Z Z1):E2 Z fp Z' ds vs F:=by
 induction h with
 |nil=>exact .nil
 |cons r p q h i=>exact .cons r (p.from x) q i
theorem E2.mem{fp:String->List Jg}{ds:List (D×Dc)}(h:E2 Z fp Z' ds vs F):∀p∈ds.zip F,CG Z fp p.1.2 p.2:=by
 induction h with
 |nil=>intro p K;cases K
 |cons r p q h i=>
  intro x hx;cases hx with
  |head=>exact p
  |tail _ hx=>exact i x hx
theorem pe{fp:String->List Jg}{d:D}(env:DD Z Δ ρ fp)(r:ER Z fp Z1 d t v F)(x:Di Z1 Z2)(j:E2 Z1 fp Z2 ds vs s):
  E2 Z fp Z2 ((d,t)::ds) (v::vs) (F::s):=
 .cons (r.rd.ext x) r.part (λp h e=>r.part.apart env.dom r.ext r.rd.dom (j.mem p h) e) (j.from r.ext)
section
variable{G:Gx}{cv:Cl}
theorem AN:DV G cv (.glob x):=λΔ ρ fp Z Q X r H n h k N=>by
 have h:F8 Q (G.glob x):=h;show oV _ (G.glob x)
 induction e:G.glob x with
 |none=>rw[e] at h;exact h.elim
 |some v=>
  rw[e] at h
  induction v using PV.casesOn with
  |int i=>exact k _ _ _ _ _ h<|.at0 (.refl Z) ⟨rfl,rfl⟩
  |str i=>exact k _ _ _ _ _ h<|.at0 (.refl Z) ⟨rfl,rfl⟩
  |_=>exact h.elim
theorem BQ:DV G cv (.loc x):=λΔ ρ fp Z Q X t H n h k N=>by
 obtain⟨⟨d,b⟩,e,h⟩:=eh (show Et (λp=>Q p.1<|tg0 p.1 (Ja [x])) (Δ.get x) from h);obtain⟨v,g,r⟩:=n.at_ x d b e;show oV _ (ρ.get x);rw[g];refine k _ _ _ _ _ h ⟨r,.refl Z,CG.tg0 ⟨λe=>(sn e),λs e a T=> ?_⟩ r⟩;obtain rfl:=sj e;exact .inr ⟨x,.head _,T⟩
theorem BK(T:DV G cv a)(R:DV G cv b):DV G cv (.bin o a b):=λΔ ρ fp Z Q X t H n h k N=>
 T Δ ρ fp Z _ X _ H n h (λu B v Z1 O h r=>R Δ ρ fp Z1 _ X _ H (n.ext r.ext) h (λσ l m Z2 I h D=>
  yg (r.ext.trans D.ext) (r.rd.ext D.ext) D.rd r.part (D.part.from r.ext) (λe o0=>r.part.apart n.dom r.ext r.rd.dom D.part (.inl e)) h k) λc d ws Z' F q x=>N c d ws Z' F q (x.from r.ext)) N
theorem AU(T:DV G cv a):DV G cv (.not_ a):=λΔ ρ fp Z Q X t H e h k x=>
 T Δ ρ fp Z _ X _ H e h (λd l v Z1 F h r=>by
  obtain⟨i,rfl,h⟩:=eX h;rw[r.rd.1];exact k _ _ _ _ _ h (.at0 r.ext ⟨rfl,rfl⟩)) x
theorem BL(T:DV G cv a)(R:DV G cv b):DV G cv (.and_ a b):=λΔ ρ fp Z Q X M H e h k N=>
 T Δ ρ fp Z _ X _ H e h (λu l A Z1 O h C=>by
  obtain⟨i,rfl,h⟩:=eX h;rw[C.rd.1]
  induction i with
  |true=>exact R Δ ρ fp Z1 _ X _ H (e.ext C.ext) h (λd t v Z2 F h r=>k _ _ _ _ _ h<|r.from C.ext) λc s ws Z' F q x=>N c s ws Z' F q<|x.from C.ext
  |false=>exact k _ _ _ _ _ h (.at0 C.ext ⟨rfl,rfl⟩)) N
theorem Cv(T:DV G cv a)(R:DV G cv b):DV G cv (.or_ a b):=λΔ ρ fp Z Q X M H e h k N=>
 T Δ ρ fp Z _ X _ H e h (λu l A Z1 O h C=>by
  obtain⟨i,rfl,h⟩:=eX h;rw[C.rd.1]
  induction i with
  |false=>exact R Δ ρ fp Z1 _ X _ H (e.ext C.ext) h (λd t v Z2 F h r=>k _ _ _ _ _ h<|r.from C.ext) λc s ws Z' F q x=>N c s ws Z' F q<|x.from C.ext
  |true=>exact k _ _ _ _ _ h (.at0 C.ext ⟨rfl,rfl⟩)) N
theorem mn{d:D}{v:PV}(r:C5 Z d v F)(h:i7 d=Jd):v.isNone=d.isNone:=by
 induction d using D.casesOn with
 |none=>rw[r.1];rfl
 |bool=>rw[r.1];rfl
 |int=>rw[r.1];rfl
 |str=>rw[r.1];rfl
 |scr=>rw[r.1.1];rfl
 |hole=>exact tf h
 |tup l=>obtain⟨m,rfl,o0⟩:=r;rfl
 |list l=>obtain⟨a,m,G,rfl,o0⟩:=r;rfl
 |dict k l=>obtain⟨a,m,G,rfl,o0⟩:=r;rfl
 |exc c l=>obtain⟨a,d,m,rfl,o0⟩:=r;rfl
 |inst c l=>obtain⟨a,d,m,rfl,o0⟩:=r;rfl
theorem vj(T:DV G cv a):DV G cv (.isNone a):=λΔ ρ fp Z Q X t H e h k x=>
 T Δ ρ fp Z _ X _ H e h (λd l v Z1 F h r=>by
  rw[mn r.rd h.1];exact k _ _ _ _ _ h.2 (.at0 r.ext ⟨rfl,rfl⟩)) x
theorem sI(T:DV G cv a):DV G cv (.notNone a):=λΔ ρ fp Z Q X t H e h k x=>
 T Δ ρ fp Z _ X _ H e h (λd l v Z1 F h r=>by
  rw[mn r.rd h.1];exact k _ _ _ _ _ h.2 (.at0 r.ext ⟨rfl,rfl⟩)) x
theorem Bh(T:DV G cv a)(R:DV G cv b):DV G cv (.cmp o a b):=λΔ ρ fp Z Q X t H e h k N=>
 T Δ ρ fp Z _ X _ H e h (λu B v Z1 O h C=>R Δ ρ fp Z1 _ X _ H (e.ext C.ext) h (λσ l m Z2 I h D=>
  nv (C.rd.ext D.ext) D.rd h λr q=>k _ _ _ _ _ q (.at0 (C.ext.trans D.ext) ⟨rfl,rfl⟩)) λc d ws Z' F q x=>N c d ws Z' F q (x.from C.ext)) N
theorem zu(T:DV G cv a)(R:DV G cv b)(σ:DV G cv c):DV G cv (.cmp2 a o b P c):=λΔ ρ fp Z Q X t H e h k N=>
 T Δ ρ fp Z _ X _ H e h (λM B A Z1 O h C=>R Δ ρ fp Z1 _ X _ H (e.ext C.ext) h (λi l m Z2 I h D=>
  nv (C.rd.ext D.ext) D.rd h λr q=>by
   have W:=C.ext.trans D.ext
   induction r with
   |false=>exact k _ _ _ _ _ q<|.at0 W ⟨rfl,rfl⟩
   |true=>exact σ Δ ρ fp Z2 _ X _ H (e.ext W) q (λz f v p g h u=>nv (D.rd.ext u.ext) u.rd h λr q=>k _ _ _ _ _ q (.at0 (W.trans u.ext) ⟨rfl,rfl⟩)) λc d ws Z' F q x=>N c d ws Z' F q (x.from W)) λc d ws Z' F q x=>N c d ws Z' F q (x.from C.ext)) N
theorem BS(T:GL G cv l):DV G cv (.tup l):=λΔ ρ fp Z Q X t H e h k N=>
 T Δ ρ fp Z _ X _ H e h (λd v Z1 F h x r=>k _ _ _ _ _ h.2 ⟨⟨v,rfl,by rw[r.rds.len];exact h.1,r.rds⟩,x,r.part⟩) N
theorem AD(T:GL G cv l):DV G cv (.list l):=λΔ ρ fp Z Q X t H e h k N=>
 T Δ ρ fp Z _ X _ H e h (λd v Z1 F h x r=>eL x r.rds (by rw[r.rds.len];exact h.1) r.part h.2 k) N
theorem Bo(w:DV G cv a)(R:DV G cv i):DV G cv (.sub a i):=λΔ ρ fp Z Q X t H n h k N=>
 w Δ ρ fp Z _ X _ H n h (λM B v Z1 O h r=>R Δ ρ fp Z1 _ X _ H (n.ext r.ext) h (λσ l m Z2 I h b=>by
  obtain⟨d,e,h⟩:=gV h;obtain⟨p,F,T,u,V⟩:=AC (r.rd.ext b.ext) b.rd e;exact T _ (k _ _ _ _ _ h ⟨u,r.ext.trans b.ext,(r.part.sub V).tg0 u⟩)) λc s ws Z' F q x=>N c s ws Z' F q (x.from r.ext)) N
theorem vG{Z1 Z2 Z3:PH}{F:List (List Jg)}{fp:String->List Jg}{chk:PH->Prop}(r:E2 Z fp Z1 ds vs F)(h:∀j,(∀a∈F.flatten,j a=Z1 a)->chk j)(x:Di Z1 Z2):chk Z2:=
 h Z2 λa T=>by obtain⟨l,e⟩:=r.rds.dom a T;exact(x a _ e).trans e.symm
theorem zG(V:DV G cv e)(hi:GL G cv i):DV G cv (.comp e tg k i):=λΔ ρ fp Z Q X M H n h L N=>
 ⟨h.1,hi Δ ρ fp Z _ X _ H n h.2 (λd w Z1 F h x r=>p7 r h λs l z Gx h U T g c=>⟨T,
  pP n r.part (λP O f Z1 K W o0 h k=>k _ _ h<|.refl _) (λP O f Z1 K W v h k=>V P O f Z1 K _ W _ v h k λo0 o0 o0 o0 o0 q o0=>q)
   s l Gx [] [] [] Jb Z1 _ _ U g x (λD J=>vG (Z3:=D) r c J) ⟨rfl,rfl⟩ .nil (by rw[Ww,KR];exact T) h λb t a Z2 I h x r p T=>eL x r T p h L⟩) N⟩
theorem uA(V:DV G cv e)(g:DV G cv c)(hi:GL G cv i):DV G cv (.compIf e tg k i c):=λΔ ρ fp Z Q X M H n h L N=>
 ⟨h.1,hi Δ ρ fp Z _ X _ H n h.2 (λI j Z1 w h x r=>p7 r h λs l z Gx h U T S σ=>⟨T,
  pP n r.part (λP O f Z1 K C W h k=>g P O f Z1 _ _ _ _ W h (λd t v Z2 F h r=>by
    obtain⟨b,rfl,h⟩:=eX h;rw[r.rd.1];exact k _ _ h r.ext) λo0 o0 o0 o0 o0 q o0=>q) (λP O f Z1 K C W h k=>V P O f Z1 K _ C _ W h k λo0 o0 o0 o0 o0 q o0=>q)
   s l Gx [] [] [] Jb Z1 _ _ U S x (λD J=>vG (Z3:=D) r σ J) ⟨rfl,rfl⟩ .nil (by rw[Ww,KR];exact T) h λu t a Z2 Y h x r p T=>eL x r T p h L⟩) N⟩
theorem ou{f:String}{ds:List (D×Dc)}{vs:List PV}{s:List (List Jg)}{Z Z1:PH}{fp:String->List Jg}{Q:DQ}{X:DX}{Q':C9}{H:Dl}(h:aR cv f (CD ds) (λd b=>Q d (tg0 d (cond b Jb (tj (Ja []) (EU ds))))) X)(x:Di Z Z1)(r:E2 Z fp Z1 ds vs s)
  (k:∀d t v Z' F,Q d t->ER Z fp Z' d t v F->Q' v Z')(N:∀c ds ws Z' F,X c ds->XOK Z Z' ds ws F->H ⟨c,ws⟩ Z'):cv f vs Z1 Q' H:=
 h Z1 vs s Q' H r.args (λd b v Z2 F q C=>by
   have W:Di Z Z2:=λa o e=>C.kept a o (x a o e) λw=>by have:=r.owned a w;exact sn<|e.symm.trans this
   refine k _ _ _ _ _ q ⟨C.rd,W,CG.tg0 ?_ C.rd⟩
   induction b with
   |true=>exact⟨λo0=>⟨(C.own rfl).1,λa T=>((C.own rfl).2 a T).elim x.new (r.owned a)⟩,λP e=>(ns e)⟩
   |false=>
    obtain⟨y,p,m⟩:=yl [] (EU ds);show CG Z fp (tj (Ja []) (EU ds)) F;rw[p];refine⟨λe=>(sn e),λzs e a T=> ?_⟩;obtain rfl:=sj e;exact(C.al a T).elim (λq=> .inl (x.new q)) λq=>(r.part.wide m).al y rfl a q)
  λc U ws Z2 F q E=>N c U ws Z2 F q ⟨E.rd,λa o e=>E.kept a o (x a o e) (λw=>by have:=r.owned a w;exact sn<|e.symm.trans this),E.nd,λa T=>(E.own a T).elim x.new (r.owned a)⟩
theorem zv{args:List E}(a:GL G cv args):DV G cv (.call f args):=λΔ ρ fp Z Q X t H e h k N=>
 ⟨h.1,a Δ ρ fp Z _ X _ H e h.2 (λd v Z1 F h x r=>ou h x r k N) N⟩
theorem Aw{d:D}(r:C5 Z d v F)(h:dIns c d):onI c Z v:=by
 induction d using D.casesOn with
 |inst Q l=>
  obtain rfl:Q=c:=h;obtain⟨a,b,m,rfl,e,w,o0⟩:=r;show onIO Q Z (Z a);rw[e];show onFd Q (Z b);rw[w];rfl
 |_=>exact h.elim
theorem wH{args:List E}(w:DV G cv o)(a:GL G cv args):DV G cv (.mcall c f o args):=λΔ ρ fp Z Q X M H e h k N=>
 ⟨h.1,w Δ ρ fp Z _ X _ H e h.2 (λd t v Z1 F h r=>⟨Aw r.rd h.1,a Δ ρ fp Z1 _ X _ H (e.ext r.ext) h.2 (λs J Z2 i h x j=>ou h (r.ext.trans x) (pe e r x j) k N) λc s ws Z' F q x=>N c s ws Z' F q<|x.from r.ext⟩) N⟩
theorem Ck{args:List E}(a:GL G cv args):DV G cv (.bi b args):=λΔ ρ fp Z Q X t H e h k N=>
 ⟨h.1,a Δ ρ fp Z _ X _ H e h.2 (λd v Z1 F h x r=>zZ x r h k) N⟩
theorem Ca(T:DV G cv a):DV G cv (.isi a ts):=λΔ ρ fp Z Q X t H n h k x=>
 ⟨h.1,T Δ ρ fp Z _ X _ H n h.2 (λd l v Z1 F h r=>by
  obtain⟨b,e,h⟩:=vN h;rw[Am r.rd e];exact k _ _ _ _ _ h (.at0 r.ext ⟨rfl,rfl⟩)) x⟩
theorem j5(h:CJ Z ds l F)(e:DE ks ds k=Jb):Dh ks l k=Jb:=by
 unfold Dh;unfold DE at e
 induction T:C0 ks k with
 |none=>rfl
 |some j=>
  rw[T] at e;show l[j]? =Jb;have e:ds[j]? =Jb:=e;rw[WW] at e ⊢;rw[h.len];exact e
theorem vE{d y:D}(r:C5 Z d v F)(h:Fr G f d=Ja y):X2 λp z=>A3 (F5 G Z f v=Ja p) (C5 Z y p z) (z.Sublist F):=by
 induction d using D.casesOn with
 |exc c l=>
  obtain⟨a,b,m,rfl,S,r⟩:=r;obtain⟨j,N,Y⟩:=Qn.mp (show(((G.flds c).idxOf? f).bind λj=>l[j]?)=Ja y from h);obtain⟨p,z,g,X,H⟩:=r.get j y Y;refine⟨p,z,?_,X,H⟩
  rcases S with⟨e,w⟩|⟨e,rfl⟩
  rotate_left
  .exact ns g
  show pfld G Z f (Z a)=_;rw[e];show pfd G f (Z b)=_;rw[w];exact Qn.mpr ⟨j,N,g⟩
 |inst c l=>
  obtain⟨a,b,m,rfl,e,w,r⟩:=r;obtain⟨j,N,Y⟩:=Qn.mp (show(((G.flds c).idxOf? f).bind λj=>l[j]?)=Ja y from h);obtain⟨p,z,g,X,H⟩:=r.get j y Y;refine⟨p,z,?_,X,H⟩;show pfld G Z f (Z a)=_;rw[e];show pfd G f (Z b)=_;rw[w];exact Qn.mpr ⟨j,N,g⟩
 |_=>first|exact D6 h|exact Dw h|cases h
theorem xV:DV G cv .dict0:=λΔ ρ fp Z Q X r H e h k x=>
 ⟨h.1,λa T=>k _ _ _ _ [a] h.2 ⟨⟨a,[],[],rfl,PH.set_same _ _ _,⟨QS _,rfl⟩,rfl,rfl,rfl⟩,Di.set T _,CG.nil.cons T λq=>(bS q)⟩⟩
theorem A2(ha:DV G cv a)(hb:DV G cv i):DV G cv (.get a i):=λΔ ρ fp Z Q X Q' X' env h k kx=>
 ha Δ ρ fp Z _ X _ X' env h (λda ta va Z1 Fa h ra=>by
  obtain⟨ks,l,rfl,h⟩:=o7 h;obtain⟨b,m,G0,rfl,e,hl,rfl,r⟩:=ra.rd;have at_:∀ {Z2:PH} {K:List (List KA)->List PV->Prop},Di Z1 Z2->K ks m->G7 Z2 K (.ref b):=λ{Z2 K} x h=>by
   show EK K (Z2 b);rw[x b _ e];exact h
  refine⟨at_ (.refl _) trivial,hb Δ ρ fp Z1 _ X _ X' (env.ext ra.ext) h (λdb tb vb Z2 Fb h rb=>at_ rb.ext<|vo rb.rd h λx h=> ?_) λc ds ws Z' F q x=>kx c ds ws Z' F q<|x.from ra.ext⟩;have r2:=r.ext rb.ext
  induction e:DE ks l x with
  |some d=>
   rw[e] at h;obtain⟨j,p,G',o0,o0,o0,g1,g2,g3⟩:=r2.look e;rw[g1];exact k _ _ _ _ _ h ⟨g2,ra.ext.trans rb.ext,(ra.part.sub<|g3.trans (KI _ _)).tg0 g2⟩
  |none=>
   rw[e] at h;rw[j5 r2 e];exact eL (ra.ext.trans rb.ext) (ds:=[]) (l:=[]) (F:=[]) ⟨rfl,rfl⟩ (QS _) .nil h k) kx
theorem zH:DV G cv (.attr x f):=λΔ ρ fp Z Q X t H n h k N=>by
 obtain⟨⟨d,b⟩,e,h⟩:=eh (show Et (λp=>FL (λd=>Q d<|tg0 d (Ja [x]))<|Fr G f p.1) (Δ.get x) from h);obtain⟨y,w,h⟩:=gV h;obtain⟨v,g,r⟩:=n.at_ x d b e;show oV _ (ρ.get x);rw[g];obtain⟨p,F,W,M,s⟩:=vE r w;show oV _ (F5 G Z f v);rw[W];refine k _ _ _ _ _ h ⟨M,.refl Z,CG.tg0 ⟨λe=>(sn e),λP e a T=> ?_⟩ M⟩;obtain rfl:=sj e;exact .inr ⟨x,.head _,s.subset T⟩
theorem Bw:DV G cv (.isx x ts):=λΔ ρ fp Z Q X t H n h k N=>by
 obtain⟨⟨d,b⟩,e,h⟩:=eh (show Et (λp=>dXc (λc=>ts.all G.isCls=Jc/\Q (.bool<|ts.any (G.sub c)) Jb) p.1) (Δ.get x) from h);obtain⟨v,g,r⟩:=n.at_ x d b e;show oV _ (ρ.get x);rw[g]
 induction d using D.casesOn with
 |exc c l=>
  obtain⟨a,o0,o0,rfl,y,o0⟩:=r;have z:=k _ _ _ Z [] h.2 (.at0 (.refl Z) ⟨rfl,rfl⟩);show onXO _ (Z a)
  rcases y with y|y<;>rw[y.1]<;>exact⟨h.1,z⟩
 |_=>exact h.elim
theorem AV(T:DV G cv a):DV G cv (.cnt i a):=λΔ ρ fp Z Q X t H e h k x=>
 T Δ ρ fp Z _ X _ H e h (λd B v Z1 F h C=>by
  obtain⟨l,rfl,h⟩:=fu h;obtain⟨bs,b,h⟩:=kD h;obtain⟨p,q,n,rfl,y,M,o0,r⟩:=C.rd;show Es Z1 _ (.ref p);rw[hH y,lS r b]
  induction i with
  |false=>exact k _ _ _ _ _ h<|.at0 C.ext ⟨rfl,rfl⟩
  |true=>exact⟨h.1,k _ _ _ _ _ h.2 (.at0 C.ext ⟨rfl,rfl⟩)⟩) x
mutual
theorem br:∀e:E,DV G cv e
 | .none=>λΔ ρ fp Z Q X Q' H env h k N=>k _ _ _ _ _ h<|.at0 (.refl Z) ⟨rfl,rfl⟩
 | .bool _=>λΔ ρ fp Z Q X Q' H env h k N=>k _ _ _ _ _ h<|.at0 (.refl Z) ⟨rfl,rfl⟩
 | .int _=>λΔ ρ fp Z Q X Q' H env h k N=>k _ _ _ _ _ h<|.at0 (.refl Z) ⟨rfl,rfl⟩
 | .str _=>λΔ ρ fp Z Q X Q' H env h k N=>k _ _ _ _ _ h<|.at0 (.refl Z) ⟨rfl,rfl⟩
 | .loc _=>BQ
 | .glob _=>AN
 | .bin _ a b=>BK (br a)<|br b
 | .not_ a=>AU<|br a
 | .and_ a b=>BL (br a)<|br b
 | .or_ a b=>Cv (br a)<|br b
 | .isNone a=>vj<|br a
 | .notNone a=>sI<|br a
 | .cmp _ a b=>Bh (br a)<|br b
 | .cmp2 a _ b _ c=>zu (br a) (br b)<|br c
 | .tup l=>BS<|dU l
 | .list l=>AD<|dU l
 | .sub a b=>Bo (br a)<|br b
 | .comp e _ _ l=>zG (br e)<|dU l
 | .compIf e _ _ l c=>uA (br e) (br c)<|dU l
 | .call _ l=>zv<|dU l
 | .bi _ l=>Ck<|dU l
 | .isi a _=>Ca<|br a
 | .isx _ _=>Bw
 | .cnt _ a=>AV<|br a
 | .meth .. =>λΔ ρ fp Z Q X Q' H env h k N=>h.elim
 | .dict0=>xV
 | .get a b=>A2 (br a)<|br b
 | .sd .. =>λΔ ρ fp Z Q X Q' H env h k N=>h.elim
 | .attr _ _=>zH
 | .mcall _ _ o l=>wH (br o)<|dU l
theorem dU:∀es:List E,GL G cv es
 |[]=>λΔ ρ fp Z Q X Q' H env h k N=>k _ _ _ _ h (.refl Z) .nil
 |e::es=>λΔ ρ fp Z Q X Q' H env h k N=>br e Δ ρ fp Z _ X _ H env h (λd t v Z1 F h r=>
   dU es Δ ρ fp Z1 _ X _ H (env.ext r.ext) h (λds vs Z2 i h x s=>k _ _ _ _ h (r.ext.trans x) (pe env r x s)) λc ds ws Z' F q x=>N c ds ws Z' F q (x.from r.ext)) N
end
end
set_option genCtorIdx false in
inductive DFl where
 |next
 |ret(d:D)(b:Bool)
abbrev bU:=DFl->CB->Prop
abbrev Gq:=String->List D->CB->Prop
noncomputable def Ez:E->Option String
 | .loc x=>Ja x
 |_=>Jb
mutual
noncomputable def FW(G:Gx)(c:E3):E->CB->(D->CB->Prop)->Prop
 | .loc x,L,Q=>Et (λp=>cond p.1.atom (Q p.1 L) (p.2=Jc/\Q p.1 (L.put x (.hole,Jc)))) (L.get x)
 | .tup l,L,Q=>FV G c l L (λds P=>ds.length<=Dg/\Q (.tup ds) P)
 | .attr x f,L,Q=>Et (λp=>p.2=Jc/\FL (λd=>Q d (L.put x (.hole,Jc))) (Fr G f p.1)) (L.get x)
 |e,L,Q=>CY G c e L (λd t=>t=Jb/\Q d L) λo0 o0=>False
noncomputable def FV(G:Gx)(c:E3):List E->CB->(List D->CB->Prop)->Prop
 |[],L,Q=>Q [] L
 |e::es,L,Q=>FW G c e L (λd i=>FV G c es i (λds J=>Q (d::ds) J))
end
noncomputable def HV:D->Bool
 | .scr _=>Jc
 |_=>Jd
noncomputable def FJ(G:Gx)(c:E3):E->CB->(String->List D->D->Prop)->DX->Prop
 | .loc x,L,Q,_=>Et (λp=>p.2=Jc/\Q x [] p.1) (L.get x)
 | .sub a i,L,Q,X=>FJ G c a L (λx s n=>CY G c i L (λj o0=>HV n=Jd/\FL (λd=>Q x (s++[j]) d) (C4 n j)) X) X
 |_,_,_,_=>False
def Ee(i:D)(f:D->Option D):D->Option D
 | .list l=>match i with
  | .int n=>(CO l.length n).bind λj=>(l[j]?).bind λx=>(f x).map λy=> .list (l.set j y)
  |_=>Jb
 | .tup l=>match i with
  | .int n=>(CO l.length n).bind λj=>(l[j]?).bind λx=>(f x).map λy=> .tup (l.set j y)
  |_=>Jb
 | .dict s l=>(DC i).bind λk=>(C0 s k).bind λj=>(l[j]?).bind λx=>(f x).map λy=> .dict s (l.set j y)
 |_=>Jb
noncomputable def ET:List D->(D->Option D)->D->Option D
 |[],f=>f
 |i::is,f=>Ee i<|ET is f
def dput(L:CB)(x:String)(ps:List D)(dn':D)(K:CB->Prop):Prop:=
 Et (λp=>FL (λd=>K<|L.put x (d,Jc))<|ET ps (λo0=>Ja dn') p.1) (L.get x)
noncomputable def DU(K:CB->Prop)(Q:bU):bU
 | .next,L=>K L
 | .ret d b,L=>Q (.ret d b) L
noncomputable def GH(Q:bU):bU
 | .next,_=>False
 | .ret d b,L=>Q (.ret d b) L
noncomputable def gX(tg:Tg)(body:CB->bU->Prop)(Q:bU):List D->CB->Prop
 |[],L=>Q .next L
 |x::s,L=>FQ (λP=>body P (DU (λJ=>gX tg body Q s J) Q)) (eY tg x x.atom L)
def Fe(m:Me)(args:List D)(n:D)(K:D->Prop):Prop:=
 match m with
 | .append=>match args with
  |[d]=>DS (λl=>l.length<Dg/\K (.list<|l++[d])) n
  |_=>False
 | .remove=>match args with
  |[d]=>DS (λl=>((d.okd 40=Jc/\D.okds 40 l=Jc)/\D.atoms l=Jc)/\EV (λj=>K<|.list (l.eraseIdx j)) (l.findIdx? λy=>D.eqv y d)) n
  |_=>False
def FI(m:Me)(d:D):Prop:=
 match m with
 |_=>DS (λo0=>True) d
noncomputable def ownD:Option (D×Bool)->Bool
 |some (d,b)=> !d.atom&&b
 |none=>Jd
def splO(L:CB)(r:List E)(k:Option (List E×String×List E)):Option String->Option (List E×String×List E)
 |some x=>cond (ownD<|L.get x) (Ja ([],x,r)) k
 |none=>k
noncomputable def HB(L:CB):List E->Option (List E×String×List E)
 |[]=>Jb
 |e::r=>splO L r ((HB L r).map λq=>(e::q.1,q.2)) (Ez e)
def offT(x:String):Dc->Bool
 |none=>Jc
 |some s=> !Gh s x
def Hs(x:String)(vs:List (D×Dc)):Bool:=vs.all λp=>offT x p.2
noncomputable abbrev Fo(vs:List (D×Dc)):List (D×Bool):=vs.map λp=>(p.1,Jd)
def dio(G:Gx)(c:E3)(f:String)(L:CB)(K:CB->Prop):Option (List E×String×List E)->Prop
 |some (a,x,b)=>G.fn f=Jc/\Dx G c a L (λv=>Hs x v=Jc/\Et (λp=>p.2=Jc/\Dx G c b L (λq=>Hs x q=Jc/\
   c.io f v.length (Fo v++(p.1,Jc)::Fo q) λd=>K (L.put x (d,Jc))) λo0 o0=>False) (L.get x)) λo0 o0=>False
 |none=>False
def Hd(n i d:D)(K:D->Prop):Prop:=
 match n with
 | .list l=>DY (λk=>EV (λj=>K (.list (l.set j d))) (CO l.length k)) i
 | .dict s l=>l.length<Dg/\oK (λk=>K (F7 s l k d)) (DC i)
 |_=>False
def GW(ks:List (List KA))(l:List D)(k:List KA):D:=match DE ks l k with
 |some _=> .dict ks l
 |none=> .dict (ks++[k]) (l++[.list []])
def dsd(G:Gx)(c:E3)(m:Me)(args:List E)(L:CB)(K:CB->Prop)(x:String)(k:E):Prop:=
 Et (λp=>p.2=Jc/\GX (λs l=>CY G c k L (λj o0=>l.length<Dg/\oK (λkey=>(λσ=>FL (λr=>FI m r/\Dx G c args (L.put x (σ,Jc)) (λv=>EU v=Jb/\Fe m (CE v) r λn=>FL (λd=>K<|L.put x (d,Jc))<|Ee j (λo0=>Ja n) σ) λo0 o0=>False)<|C4 σ j)<|GW s l key) (DC j)) λo0 o0=>False) p.1) (L.get x)
noncomputable def sdOf:E->Option (E×E)
 | .sd a k=>Ja (a,k)
 |_=>Jb
noncomputable def dsdL(G:Gx)(c:E3)(m:Me)(args:List E)(L:CB)(K:CB->Prop)(k:E):Option String->Prop
 |some x=>dsd G c m args L K x k
 |none=>False
def dmeE(G:Gx)(c:E3)(m:Me)(args:List E)(L:CB)(K:CB->Prop)(o:E):Option String->Option (E×E)->Prop
 |some x,_=>Et (λp=>FI m p.1) (L.get x)/\FV G c args L (λs i=>Et (λp=>p.2=Jc/\Fe m s p.1 λd=>K (i.put x (d,Jc))) (i.get x))
 |none,Ja a=>dsdL G c m args L K a.2<|Ez a.1
 |none,Jb=>m= .append/\CY G c o L (λd t=>t=Jb/\FI m d/\Dx G c args L (λv=>Fe m (CE v) d λo0=>K L) λo0 o0=>False) λo0 o0=>False
def GI(G:Gx)(M:E3):E->CB->(CB->Prop)->Gq->Prop
 | .meth o m args,L,K,X=>dmeE G M m args L K o (Ez o)<|sdOf o
 | .call f args,L,K,X=>dio G M f L K (HB L args)\/CY G M (.call f args) L (λo0 o0=>K L) λc l=>X c l L
 |e,L,K,X=>CY G M e L (λo0 o0=>K L) λc l=>X c l L
mutual
noncomputable def S.noas(x:String):S->Bool
 | .assign tg _=> !tg.names.contains x
 | .if_ _ b o=>S.noass x b&&S.noass x o
 | .for_ tg _ _ b=> !tg.names.contains x&&S.noass x b
 | .while_ _ b=>S.noass x b
 | .try2 .. =>Jd
 |_=>Jc
noncomputable def S.noass(x:String):List S->Bool
 |[]=>Jc
 |s::r=>S.noas x s&&S.noass x r
end
noncomputable def FG(tst:CB->(Bool->Prop)->Prop)(body:CB->bU->Prop)(Q:bU):Nat->CB->Prop
 |0,_=>False
 |n+1,L=>tst L λb=>cond b (body L (DU (λJ=>FG tst body Q n J) Q)) (Q .next L)
mutual
noncomputable def dws(G:Gx)(M f:E3):S->CB->bU->Gq->Prop
 | .assign (.name x) e,L,Q,X=>CY G M e L (λd t=>Q .next ((L.frz t).put x (d,t.isNone))) λc l=>X c l L
 | .assign (.tup xs) e,L,Q,X=>G.calm=Jc/\CY G M e L (λd t=>FQ (λP=>Q .next P) (eY (.tup xs) d t.isNone (L.frz t))) λc l=>X c l L
 | .setIdx o i e,L,Q,X=>FW G M e L (λd u=>FJ G M o u (λx ps n=>CY G M i u (λj o0=>Hd n j d λdn'=>dput u x ps dn' λP=>Q .next P) λo0 o0=>False) λo0 o0=>False)
 | .expr e,L,Q,X=>GI G M e L (λP=>Q .next P) X
 | .ret e,L,Q,X=>FW G M e L (λd P=>Q (.ret d Jc) P)\/CY G M e L (λd t=>Q (.ret d t.isNone) L) λc l=>X c l L
 | .if_ t b o,L,Q,X=>CY G M t L (λv o0=>DO (λc=>cond c (CQ G M f b L Q X) (CQ G M f o L Q X)) v) λc l=>X c l L
 | .for_ tg k g b,L,Q,X=>G.calm=Jc/\Dx G M g L (λvs=>FH k (CE vs) λxs=>gX tg (λL K=>CQ G M f b L K λo0 o0 o0=>False) Q xs (L.frz (EU vs))) λc l=>X c l L
 | .while_ t b,L,Q,X=>G.calm=Jc/\∃k,FG (λL K=>CY G M t L (λv o0=>DO K v) λc l=>X c l L) (λL K=>CQ G M f b L K X) Q k L
 | .raise c args,L,_,X=>(G.full=Jc/\G.calm=Jc/\(G.mks.contains c=Jc\/(G.inis.contains c=Jc/\args.length=(G.flds c).length)))/\FV G M args L (λds u=>X c (ds.take (G.flds c).length) u)
 | .try2 b c x h σ p,L,Q,_=>(G.full=Jc/\G.calm=Jc/\G.cs.contains c=Jc/\G.cs.contains σ=Jc)/\CQ G M f b L Q λe es u=>cond (G.sub e c) (CQ G.un f f h (u.put x (.exc e es,Jc)) (GH Q) λo0 o0 o0=>False) (cond (G.sub e σ) (CQ G.un f f p (u.put x (.exc e es,Jc)) (GH Q) λo0 o0 o0=>False) False)
noncomputable def CQ(G:Gx)(M f:E3):List S->CB->bU->Gq->Prop
 |[],L,Q,_=>Q .next L
 |s::r,L,Q,X=>dws G M f s L (DU (λu=>CQ G M f r u Q X) Q) X
end
structure DZ where
 S:Jg->Prop
 pin:String->Option PV
instance:CoeFun DZ λo0=>Jg->Prop:=⟨DZ.S⟩
structure Dd(N:PH)(S:DZ)(P:List Jg)(Δ:CB)(ρ:CH)(Z:PH)(fp:String->List Jg):Prop where
 env:DD Z Δ ρ fp
 sep:∀x d,Δ.get x=Ja (d,Jc)->∀y,y≠x->Eb (fp x) (fp y)
 own:∀x d,Δ.get x=Ja (d,Jc)->(fp x).Nodup/\∀a∈fp x,N a=Jb
 src:∀x,∀a∈fp x,S a
 kept:Di N Z
 pend:∀a∈P,(∃l:MO,Z a=Ja l.1)/\∀x,a∉fp x
 newS:∀a,N a=Jb->S a
 pin:∀x v,S.pin x=Ja v->ρ.get x=Ja v
theorem CH.gget_mem:∀ρ:CH,ρ.get x=Ja v->x∈EX ρ
 |(y,o)::r,h=>by
  by_cases W:y=x
  .subst W;exact .head _
  .simp only[CH.get_c,W,if_false] at h;exact .tail _<|CH.gget_mem r h
section
variable{N Z Z':PH}{S:DZ}{P:List Jg}{Δ:CB}{ρ:CH}{fp:String->List Jg}
theorem Dd.ext(h:Dd N S P Δ ρ Z fp)(x:Di Z Z'):Dd N S P Δ ρ Z' fp:=
 ⟨h.env.ext x,h.sep,h.own,h.src,h.kept.trans x,λa T=>by obtain⟨⟨l,e⟩,p⟩:=h.pend a T;exact⟨⟨l,x a _ e⟩,p⟩,h.newS,h.pin⟩
theorem Dd.weak(h:Dd N S P Δ ρ Z fp)(k:∀a∈P',a∈P):Dd N S P' Δ ρ Z fp:=⟨h.env,h.sep,h.own,h.src,h.kept,λa T=>h.pend a (k a T),h.newS,h.pin⟩
theorem Dd.put(h:Dd N S P Δ ρ Z fp){d:D}{F:List Jg}(r:C5 Z d v F)(H:b=Jc->(F.Nodup/\∀a∈F,N a=Jb)/\∀y,y≠x->Eb F (fp y))
  (o:∀y e,y≠x->Δ.get y=Ja (e,Jc)->Eb (fp y) F)(s:∀a∈F,S a)(p:∀a∈P,a∉F)(n:∀w,S.pin x=Ja w->v=w):Dd N S P (Δ.put x (d,b)) (ρ.put x v) Z (FE fp x F):=by
 have g:∀e,(Δ.put x (d,b)).get x=Ja (e,Jc)->b=Jc:=λe q=>by
  have m:=CB.get_mem _ q;rw[CB.put_keys] at m;rw[CB.get_put _ m] at q;cases q;rfl
 refine⟨h.env.put r,λy e q z R=> ?_,λy e q=> ?_,λy a T=> ?_,h.kept,λa T=>⟨(h.pend a T).1,λy W=> ?_⟩,h.newS,λy w q=> ?_⟩
 .by_cases W:y=x
  .subst W;have:=g e q;rw[du,cB R];exact(H this).2 z R
  .rw[CB.get_put_ne W] at q;rw[cB W];by_cases f:z=x
   .subst f;rw[du];exact o y e W q
   .rw[cB f];exact h.sep y e q z R
 .by_cases W:y=x
  .subst W;rw[du];exact(H<|g e q).1
  .rw[CB.get_put_ne W] at q;rw[cB W];exact h.own y e q
 .by_cases W:y=x
  .subst W;rw[du] at T;exact s a T
  .rw[cB W] at T;exact h.src y a T
 .by_cases Q:y=x
  .subst Q;rw[du] at W;exact p a T W
  .rw[cB Q] at W;exact(h.pend a T).2 y W
 .by_cases W:y=x
  .subst W;rw[CH.gput _ (CH.gget_mem _<|h.pin y w q),n w q]
  .rw[CH.gput_ne W];exact h.pin y w q
structure F3(N:PH)(P:List Jg)(fp:String->List Jg)(F:List Jg):Prop where
 nd:F.Nodup
 own:∀a∈F,N a=Jb
 out:∀a∈F,∀y,a∉fp y
 pend:Eb P F
theorem F3.sub{F I:List Jg}(m:F3 N P fp F)(s:I.Sublist F):F3 N P fp I:=⟨m.nd.sublist s,λa h=>m.own a (s.subset h),λa h=>m.out a (s.subset h),λa h A=>m.pend a h (s.subset A)⟩
theorem F3.nil:F3 N P fp []:=⟨.nil,λa h=>(bS h),λa h=>(bS h),λa o0 h=>(bS h)⟩
theorem CB.get_map(f:String->D×Bool->D×Bool)(x:String):∀Δ:CB,CB.get (Δ.map λp=>(p.1,p.2.map (f p.1))) x=(Δ.get x).map (f x)
 |[]=>rfl
 |(y,o)::r=>by
  by_cases h:y=x
  .subst h;simp only[Qo,CB.get_if,if_true]
  .simp only[Qo,CB.get_if,h,if_false];exact CB.get_map f x r
theorem uy(Δ:CB)(xs:List String):Δ.frz (Ja xs)=Δ.map λp=>(p.1,p.2.map λq=>if xs.contains p.1 then(q.1,q.1.atom&&q.2) else q):=by
 refine Qm λp o0=> ?_;rw[mV]
 induction xs.contains p.1 with
 |true=>rfl
 |false=>exact Uj (Prod.mk p.1) (congrFun Option.map_id p.2).symm
theorem Dd.map(h:Dd N S P Δ ρ Z fp)(f:String->D×Bool->D×Bool)(j:∀x q,(f x q).1=q.1/\((f x q).2=Jc->q.2=Jc)):Dd N S P (Δ.map λp=>(p.1,p.2.map (f p.1))) ρ Z fp:=by
 have g:∀x d b,CB.get (Δ.map λp=>(p.1,p.2.map<|f p.1)) x=Ja (d,b)->∃c,Δ.get x=Ja (d,c)/\(b=Jc->c=Jc)/\f x (d,c)=(d,b):=λx d b e=>by
  rw[CB.get_map] at e;obtain⟨⟨X,c⟩,T,w⟩:=Qt.mp e;have E:=(j x (X,c)).1;have Y:=(j x (X,c)).2;rw[w] at E Y;cases E;exact⟨c,T,Y,w⟩
 refine⟨⟨λx d b e=> ?_,h.env.dom,?_⟩,λx d e=> ?_,λx d e=> ?_,h.src,h.kept,h.pend,h.newS,h.pin⟩
 .obtain⟨c,T,o0⟩:=g x d b e;exact h.env.at_ x d c T
 .rw[<-h.env.keys,QE];rfl
 .obtain⟨c,T,w,o0⟩:=g x d Jc e;cases w rfl;exact h.sep x d T
 .obtain⟨c,T,w,o0⟩:=g x d Jc e;cases w rfl;exact h.own x d T
theorem Dd.frz(h:Dd N S P Δ ρ Z fp)(t:Dc):Dd N S P (Δ.frz t) ρ Z fp:=by
 induction t with
 |none=>exact h
 |some s=>
  rw[uy];refine h.map (λx q=>if s.contains x then(q.1,q.1.atom&&q.2) else q) λx q=> ?_;by_cases hx:s.contains x=Jc
  .rw[Ug hx];exact⟨rfl,λe=>(Qi.mp e).2⟩
  .rw[Uf hx];exact⟨rfl,id⟩
end
theorem CH.put_self:∀ρ:CH,ρ.get x=Ja v->ρ.put x v=ρ
 |(y,o)::r,h=>by
  by_cases W:y=x
  .simp only[CH.get_c,W,if_true] at h;simp only[CH.put_c,W,if_true,h]
  .simp only[CH.get_c,W,if_false] at h;simp only[CH.put_c,W,if_false,CH.put_self r h]
theorem set_same{L:Type}{l:List L}{j:Nat}{p:L}(h:l[j]? =Ja p):l.set j p=l:=by
 refine WD λi=> ?_;rw[KU]
 split
 .subst_vars
  rw[h];split
  .rfl
  .rename_i t;exact ns<|(KX<|by exact QW.mp t).symm.trans h
 .rfl
theorem CJ.split:∀ {ds:List D} {l:List PV} {F:List Jg},CJ Z ds l F->∀ (j:Nat) (d:D),ds[j]? =Ja d->X4 λp A B y=>A4 (l[j]? =Ja p) (F=A++(y++B)) (C5 Z d p y) (∀Z' d' q I,Ag A Z Z'->Ag B Z Z'->C5 Z' d' q I->CJ Z' (ds.set j d') (l.set j q) (A++(I++B)))
 |d::ds,l,F,a,0,e,O=>by
  obtain⟨p,s,Q,t,E,Y,J,h⟩:=a;subst E Y;obtain rfl:=sj O;exact⟨p,[],t,Q,rfl,rfl,J,λZ' d' q I o0 ag r=>⟨q,s,I,t,rfl,rfl,r,h.ag ag⟩⟩
 |d::ds,l,F,a,j+1,e,O=>by
  obtain⟨p,s,Q,t,E,Y,J,h⟩:=a;subst E Y;obtain⟨q,A,B,y,T,U,k,R⟩:=CJ.split h j e O;subst U;refine⟨q,Q++A,B,y,T,(Kt _ _ _).symm,k,λZ' d' q I g b r=> ?_⟩;exact⟨p,s.set j q,Q,A++(I++B),rfl,Kt _ _ _,J.ag g.left,R Z' d' q I g.right b r⟩
section
variable{N Z Z':PH}{S:DZ}{P:List Jg}{Δ:CB}{ρ:CH}{fp:String->List Jg}
theorem Ag.refl:Ag F Z Z:=⟨λo0 o0=>rfl,λo0 o0 e o0=>e⟩
theorem Ag.trans(x:Ag F a b)(y:Ag F b c):Ag F a c:=⟨λp h=>(y.at_ p h).trans (x.at_ p h),λp o e k=>y.oth p o (x.oth p o e k) k⟩
theorem Dd.agP(h:Dd N S P Δ ρ Z fp)(x:Di Z Z'):Ag P Z Z':= .of_ext x λa T=>(h.pend a T).1
theorem Dd.new0(h:Dd N S P Δ ρ Z fp)(e:Z a=Jb):N a=Jb:=h.kept.new e
theorem Dd.move(h:Dd N S P Δ ρ Z fp){d d':D}(e:Δ.get x=Ja (d,Jc))(X:ρ.get x=Ja v)(r:C5 Z d' v (A++B))(J:fp x=A++(F++B)):
  Dd N S P (Δ.put x (d',Jc)) ρ Z (FE fp x<|A++B)/\F3 N P (FE fp x<|A++B) F:=by
 obtain⟨nd,o⟩:=h.own x d e;rw[J] at nd o;have sub:∀a,a∈A++B->a∈fp x:=λa T=>by
  rw[J]
  rcases Qr.mp T with q|q
  .exact Qk _ q
  .exact Qe _<|Qe _ q
 have s:∀a,a∈F->a∈fp x:=λa T=>by rw[J];exact Qe _<|Qk _ T
 have n:=Qv.mp nd;have K:=Qv.mp n.2.1;have i:=h.put (x:=x) (b:=Jc) r (λo0=>⟨⟨Qv.mpr ⟨n.1,K.2.1,λa T b R=>n.2.2 a T b<|Qe _ R⟩,λa T=>(h.own x d e).2 a (sub a T)⟩,λy W a T=>h.sep x d e y W a<|sub a T⟩)
  (λy g W q a T R=>h.sep y g q x (λz=>W z.symm) a T<|sub a R) (λa T=>h.src x a<|sub a T) (λa T R=>(h.pend a T).2 x (sub a R)) (λw q=>by have:=h.pin x w q;obtain rfl:=sj<|X.symm.trans this;rfl)
 rw[CH.put_self _ X] at i;refine⟨i,⟨K.1,λa T=>(h.own x d e).2 a (s a T),λa T y W=> ?_,λa T R=>(h.pend a T).2 x (s a R)⟩⟩;by_cases q:y=x
 .subst q;rw[du] at W
  rcases Qr.mp W with q|q
  .exact n.2.2 a q a (Qk _ T) rfl
  .exact K.2.2 a T a q rfl
 .rw[cB q] at W;exact h.sep x d e y q a (s a T) W
theorem Dd.fresh(h:Dd N S P Δ ρ Z fp)(p:CG Z fp t F)(e:t=Jb):F3 N P fp F:=
 ⟨(p.own e).1,λa T=>h.new0<|(p.own e).2 a T,λa T y W=>(by obtain⟨l,q⟩:=h.env.dom y a W;exact ns<|((p.own e).2 a T).symm.trans q),λa T b=>(by obtain⟨⟨l,q⟩,_⟩:=h.pend a T;exact ns<|((p.own e).2 a b).symm.trans q)⟩
end
section
variable(G:Gx)(cv:Cl)
def Ia(e:E):Prop:=∀ (N:PH) (S:DZ) (P:List Jg) (Δ:CB) (ρ:CH) (fp:String->List Jg) (Z:PH) (Q:D->CB->Prop) (r:C9) (X:Dl),Dd N S P Δ ρ Z fp->FW G (aR cv) e Δ Q->
 (∀d H f v Z' F,Q d H->Dd N S P H ρ Z' f->C5 Z' d v F->F3 N P f F->Ag P Z Z'->r v Z')->we G cv e ρ Z r X
def Hk(es:List E):Prop:=∀ (N:PH) (S:DZ) (P:List Jg) (Δ:CB) (ρ:CH) (fp:String->List Jg) (Z:PH) (Q:List D->CB->Prop) (r:List PV->PH->Prop) (X:Dl),Dd N S P Δ ρ Z fp->FV G (aR cv) es Δ Q->
 (∀s H f v Z' F,Q s H->Dd N S P H ρ Z' f->C3 Z' (s.map λd=>(d,Jc)) v F->F3 N P f F.flatten->Ag P Z Z'->r v Z')->Fc G cv es ρ Z r X
end
section
variable{G:Gx}{cv:Cl}
theorem bW(O:DV G cv e){S:DZ}{fp:String->List Jg}{Q:D->CB->Prop}(i:Dd N S P Δ ρ Z fp)
  (h:CY G (aR cv) e Δ (λd t=>t=Jb/\Q d Δ) λo0 o0=>False)(k:∀d H f v Z' F,Q d H->Dd N S P H ρ Z' f->C5 Z' d v F->F3 N P f F->Ag P Z Z'->Q' v Z'):we G cv e ρ Z Q' X:=
 O Δ ρ fp Z _ _ Q' X i.env h (λd t v Z' F q r=>k d Δ fp v Z' F q.2 (i.ext r.ext) r.rd (i.fresh r.part q.1)<|i.agP r.ext) λo0 o0 o0 o0 o0 q o0=>q.elim
theorem B4:Ia G cv (.loc x):=λN S P Δ ρ fp Z Q t X i h k=>by
 obtain⟨⟨d,b⟩,e,h⟩:=eh (show Et (λp=>cond p.1.atom (Q p.1 Δ)<|p.2=Jc/\Q p.1 (Δ.put x (.hole,Jc))) (Δ.get x) from h);obtain⟨v,g,r⟩:=i.env.at_ x d b e;show oV _ (ρ.get x);rw[g];show t v Z
 induction a:d.atom with
 |true=>
  simp only[a,cond_true] at h;refine k d Δ fp v Z [] h i ?_ .nil .refl;rw[r.atom a] at r;exact r
 |false=>
  simp only[a,cond_false] at h;obtain⟨rfl,h⟩:=h;obtain⟨w,m⟩:=i.move (d':= .hole) (A:=[]) (B:=[]) (F:=fp x) e g rfl (by rw[QH,Kv]);exact k d _ _ v Z (fp x) h w r m .refl
theorem zn{x f:String}:Ia G cv (.attr x f):=λN S P Δ ρ fp Z Q t X i h k=>by
 obtain⟨⟨d,b⟩,e,h⟩:=eh (show Et (λp=>p.2=Jc/\FL (λd=>Q d<|Δ.put x (.hole,Jc)) (Fr G f p.1)) (Δ.get x) from h);obtain⟨rfl,h⟩:=h;obtain⟨y,a,h⟩:=gV h;obtain⟨v,W,r⟩:=i.env.at_ x d _ e;obtain⟨p,j,g,c,H⟩:=vE r a;obtain⟨w,m⟩:=i.move (d':= .hole) (A:=[]) (B:=[]) (F:=fp x) e W rfl (by rw[QH,Kv]);show oV _ (ρ.get x);rw[W];show oV _ (F5 G Z f v);rw[g];exact k y _ _ p Z j h w c (m.sub H) .refl
theorem j3(h:Ez a=Ja x):a= .loc x:=by
 induction a using E.casesOn with
 |loc y=>obtain rfl:=sj h;rfl
 |_=>first|exact D6 h|exact Dw h|cases h
theorem C3.rd:∀ {ds:List D} {vs:List PV} {F:List (List Jg)},C3 Z (ds.map λd=>(d,Jc)) vs F->CJ Z ds vs F.flatten:=λ{ds}=>by
 induction ds with
 |nil=>intro vs F r;cases r;exact⟨rfl,rfl⟩
 |cons d ds h=>intro vs F r;cases r with|cons f M y i=>exact⟨_,_,_,_,rfl,rfl,f,h i⟩
theorem BV(T:Hk G cv l):Ia G cv (.tup l):=λN S P Δ ρ fp Z Q t X i h k=>
 T N S P Δ ρ fp Z _ _ X i h λd H f v Z' F q w r m ag=>by
  have K:=C3.rd r;exact k _ _ _ _ _ _ q.2 w ⟨v,rfl,by rw[K.len];exact q.1,K⟩ m ag
theorem C3.lens{ds:List (D×Bool)}{vs:List PV}{F:List (List Jg)}(h:C3 Z ds vs F):vs.length=ds.length/\F.length=ds.length:=by
 induction h with
 |nil=>exact⟨rfl,rfl⟩
 |cons r p q h i=>exact⟨Uj (· +1) i.1,Uj (· +1) i.2⟩
theorem Dd.called{S:DZ}{fp:String->List Jg}(i:Dd N S P Δ ρ Z fp)(m:F3 N P fp M)(σ:∀a∈M,∃l:MO,Z a=Ja l.1)(k:jp M Z Z'):
  Dd N S P Δ ρ Z' fp/\Ag P Z Z':=by
 have ag:∀F:List Jg,(∀a∈F,(∃l:MO,Z a=Ja l.1)/\a∉M)->Ag F Z Z':=λF J=>⟨λa h=>by
   obtain⟨⟨l,e⟩,c⟩:=J a h;exact(k a _ e c).trans e.symm,λa o e n=>k a o e λq=>by
   obtain⟨l,A⟩:=σ a q;obtain rfl:=sj (e.symm.trans A);exact ft (l.2.symm.trans n)⟩
 have g:∀x,Ag (fp x) Z Z':=λx=>ag _ λa h=>⟨i.env.dom x a h,λq=>m.out a q x h⟩
 have agP:Ag P Z Z':=ag _ λa h=>⟨(i.pend a h).1,m.pend a h⟩
 refine⟨⟨⟨λx d b e=> ?_,λx a h=> ?_,i.env.keys⟩,i.sep,i.own,i.src,λa o e=> ?_,λa h=>⟨?_,(i.pend a h).2⟩,i.newS,i.pin⟩,agP⟩
 .obtain⟨v,E,p⟩:=i.env.at_ x d b e;exact⟨v,E,p.ag<|g x⟩
 .obtain⟨l,e⟩:=i.env.dom x a h;exact⟨l,((g x).at_ a h).trans e⟩
 .refine k a o (i.kept a o e) λC=> ?_;exact ns<|(m.own a C).symm.trans e
 .obtain⟨l,e⟩:=(i.pend a h).1;exact⟨l,(agP.at_ a h).trans e⟩
theorem zN(V:Ia G cv e)(A:Hk G cv es):Hk G cv (e::es):=λN S P Δ ρ fp Z Q t X i h k=>
 V N S P Δ ρ fp Z _ _ X i h λd u W v j F Y w B c r=>
  A N S (F++P) u ρ W j _ _ X ⟨w.env,w.sep,w.own,w.src,w.kept,λa T=>by
   rcases Qr.mp T with T|T
   .exact⟨B.dom a T,c.out a T⟩
   .exact w.pend a T,w.newS,w.pin⟩ Y λz J H I O s K l M m g=>by
  have U:Eb F s.flatten:=λa T R=>m.pend a (Qk _ T) R;refine k _ J H _ O (F::s) K (l.weak λa T=>Qe _ T) (.cons (B.ag g.left) (λo0=>c.nd) (λp D o0 a T R=> ?_) M) ⟨?_,?_,?_,?_⟩<|r.trans g.right
  .exact U a T<|List.mem_flatten.mpr ⟨p.2,(KC D).2,R⟩
  .exact Qv.mpr ⟨c.nd,m.nd,λa T b R q=>U a T<|q▸R⟩
  .intro a T
   rcases Qr.mp T with T|T
   .exact c.own a T
   .exact m.own a T
  .intro a T y x
   rcases Qr.mp T with T|T
   .exact(l.pend a<|Qk _ T).2 y x
   .exact m.out a T y x
  .intro a T f
   rcases Qr.mp f with f|f
   .exact c.pend a T f
   .exact m.pend a (Qe _ T) f
mutual
theorem qc:∀e:E,Ia G cv e
 | .loc _=>B4
 | .sub .. =>λo0 o0 o0 o0 o0 o0 o0 o0 o0 o0 i h k=>bW (br _) i h k
 | .tup l=>BV<|kP l
 | .call .. =>λo0 o0 o0 o0 o0 o0 o0 o0 o0 o0 i h k=>bW (br _) i h k
 | .none=>λo0 o0 o0 o0 o0 o0 o0 o0 o0 o0 i h k=>bW (br _) i h k
 | .bool _=>λo0 o0 o0 o0 o0 o0 o0 o0 o0 o0 i h k=>bW (br _) i h k
 | .int _=>λo0 o0 o0 o0 o0 o0 o0 o0 o0 o0 i h k=>bW (br _) i h k
 | .str _=>λo0 o0 o0 o0 o0 o0 o0 o0 o0 o0 i h k=>bW (br _) i h k
 | .glob _=>λo0 o0 o0 o0 o0 o0 o0 o0 o0 o0 i h k=>bW (br _) i h k
 | .bin .. =>λo0 o0 o0 o0 o0 o0 o0 o0 o0 o0 i h k=>bW (br _) i h k
 | .not_ _=>λo0 o0 o0 o0 o0 o0 o0 o0 o0 o0 i h k=>bW (br _) i h k
 | .and_ .. =>λo0 o0 o0 o0 o0 o0 o0 o0 o0 o0 i h k=>bW (br _) i h k
 | .or_ .. =>λo0 o0 o0 o0 o0 o0 o0 o0 o0 o0 i h k=>bW (br _) i h k
 | .isNone _=>λo0 o0 o0 o0 o0 o0 o0 o0 o0 o0 i h k=>bW (br _) i h k
 | .notNone _=>λo0 o0 o0 o0 o0 o0 o0 o0 o0 o0 i h k=>bW (br _) i h k
 | .cmp .. =>λo0 o0 o0 o0 o0 o0 o0 o0 o0 o0 i h k=>bW (br _) i h k
 | .cmp2 .. =>λo0 o0 o0 o0 o0 o0 o0 o0 o0 o0 i h k=>bW (br _) i h k
 | .list _=>λo0 o0 o0 o0 o0 o0 o0 o0 o0 o0 i h k=>bW (br _) i h k
 | .comp .. =>λo0 o0 o0 o0 o0 o0 o0 o0 o0 o0 i h k=>bW (br _) i h k
 | .compIf .. =>λo0 o0 o0 o0 o0 o0 o0 o0 o0 o0 i h k=>bW (br _) i h k
 | .bi .. =>λo0 o0 o0 o0 o0 o0 o0 o0 o0 o0 i h k=>bW (br _) i h k
 | .isi .. =>λo0 o0 o0 o0 o0 o0 o0 o0 o0 o0 i h k=>bW (br _) i h k
 | .meth .. =>λo0 o0 o0 o0 o0 o0 o0 o0 o0 o0 i h k=>bW (br _) i h k
 | .dict0=>λo0 o0 o0 o0 o0 o0 o0 o0 o0 o0 i h k=>bW (br _) i h k
 | .get .. =>λo0 o0 o0 o0 o0 o0 o0 o0 o0 o0 i h k=>bW (br _) i h k
 | .sd .. =>λo0 o0 o0 o0 o0 o0 o0 o0 o0 o0 i h k=>bW (br _) i h k
 | .mcall .. =>λo0 o0 o0 o0 o0 o0 o0 o0 o0 o0 i h k=>bW (br _) i h k
 | .attr _ _=>zn
 | .isx .. =>λo0 o0 o0 o0 o0 o0 o0 o0 o0 o0 i h k=>bW (br _) i h k
 | .cnt .. =>λo0 o0 o0 o0 o0 o0 o0 o0 o0 o0 i h k=>bW (br _) i h k
theorem kP:∀es:List E,Hk G cv es
 |[]=>λN S P Δ ρ fp Z Q Q' X i h k=>k [] Δ fp [] Z [] h i .nil .nil .refl
 |e::es=>zN (qc e)<|kP es
end
end
structure Gp(Z:PH)(dx:D)(vx:PV)(A Fn B:List Jg)(ps:List D)(dn:D)(vn:PV):Prop where
 rd:C5 Z dn vn Fn
 da:∀a∈A,∃l:MO,Z a=Ja l.1
 db:∀a∈B,∃l:MO,Z a=Ja l.1
 upd:∀ (Z':PH) (f:D->Option D) (dn':D) (Fn':List Jg),Ag A Z Z'->Ag B Z Z'->C5 Z' dn' vn Fn'->f dn=Ja dn'->∃dx',ET ps f dx=Ja dx'/\C5 Z' dx' vx (A++(Fn'++B))
theorem Gp.ext{A Fn B:List Jg}(z:Gp Z g L A Fn B ps n v)(x:Di Z Z1):Gp Z1 g L A Fn B ps n v:=
 ⟨z.rd.ext x,λa h=>by obtain⟨l,e⟩:=z.da a h;exact⟨l,x a _ e⟩,λa h=>by obtain⟨l,e⟩:=z.db a h;exact⟨l,x a _ e⟩,λX f d F V b r e=>z.upd X f d F ((Ag.of_ext x z.da).trans V) ((Ag.of_ext x z.db).trans b) r e⟩
theorem Gp.here{d:D}(r:C5 Z d v F):Gp Z d v [] F [] [] d v:=
 ⟨r,λa h=>(bS h),λa h=>(bS h),λX f n A o0 o0 r e=>⟨n,e,by rw[Kv,QH];exact r⟩⟩
theorem jV:∀ (ps:List D) (i:D) (f:D->Option D),ET (ps++[i]) f=ET ps (Ee i f)
 |[]=>λi f=>rfl
 |p::ps=>λi f=>by
  show Ee p (ET (ps++[i]) f)=Ee p (ET ps<|Ee i f);rw[jV ps i f]
inductive ZipS(Z:PH)(dx:D)(vx:PV)(T:List Jg)(qs:List D)(d:D)(W:PV->Prop):Prop
 |mk (p:PV) (A' Fj B':List Jg) (e:W p) (e4:T=A'++(Fj++B')) (z:Gp Z dx vx A' Fj B' qs d p):ZipS Z dx vx T qs d W
theorem Gp.obj{o:MO}(z:Gp Z u L A (a::(Q++(j++O))) B ps n (.ref a)){i d:D}(e:Z a=Ja o.1)(J:C5 Z d p j)
  (v:∀b∈Q++(j++O),∃l:MO,Z b=Ja l.1)
  (W:∀ (Z':PH) (f:D->Option D) (dn':D) (F:List Jg),Ag Q Z Z'->Ag O Z Z'->Z' a=Ja o.1->C5 Z' dn' p F->f d=Ja dn'->∃w,Ee i f n=Ja w/\C5 Z' w (.ref a) (a::(Q++(F++O)))):
  Gp Z u L (A++(a::Q)) j (O++B) (ps++[i]) d p:=by
 refine⟨J,λb h=> ?_,λb h=> ?_,λZ' f dn' F g T r X=> ?_⟩
 .rcases Qr.mp h with h|h
  .exact z.da b h
  .cases h with
   |head=>exact⟨o,e⟩
   |tail _ h=>exact v b<|Qk _ h
 .rcases Qr.mp h with h|h
  .exact v b<|Qe _ (Qe _ h)
  .exact z.db b h
 .obtain⟨w,k,M⟩:=W Z' f dn' F g.right.tail T.left ((g.at_ a<|Qe _ (.head _)).trans e) r X;obtain⟨x,Y,σ⟩:=z.upd Z' (Ee i f) w (a::(Q++(F++O))) g.left T.right M k;refine⟨x,by rw[jV];exact Y,?_⟩;have:A++(a::(Q++(F++O))++B)=(A++(a::Q))++(F++(O++B)):=by simp
  rw[<-this];exact σ
theorem Gp.key{A Fn B:List Jg}(z:Gp Z g L A Fn B ps (.dict ks l) I){d:D}(Y:DC i=Ja k)(h:DE ks l k=Ja d):
  ZipS Z g L (A++(Fn++B)) (ps++[i]) d λp=>X2 λa v=>A3 (I= .ref a) (Z a=Ja (.dict ks v)) (Dh ks v k=Ja p):=by
 obtain⟨a,v,G,rfl,e,T,rfl,r⟩:=z.rd;obtain⟨j,H,q⟩:=Qn.mp h;obtain⟨p,Q,O,t,c,rfl,J,m⟩:=r.split j d q;refine⟨p,A++(a::Q),t,O++B,⟨a,v,rfl,e,Qn.mpr ⟨j,H,c⟩⟩,by simp,z.obj (o:=⟨.dict ks v,rfl⟩) e J r.dom λX f n F V b σ U w=> ?_⟩;have M:=m X n p F V b U;rw[set_same c] at M;refine⟨.dict ks<|l.set j n,?_,a,v,_,rfl,σ,T,rfl,M⟩;show((DC i).bind λk=>(C0 ks k).bind λj=>(l[j]?).bind λx=>(f x).map λy=>D.dict ks<|l.set j y)=_;rw[Y];show((C0 ks k).bind λj=>(l[j]?).bind λx=>(f x).map λy=>D.dict ks<|l.set j y)=_;rw[H];show((l[j]?).bind λx=>(f x).map λy=>D.dict ks<|l.set j y)=_;rw[q];show((f d).map λy=>D.dict ks<|l.set j y)=_;rw[w];rfl
theorem Gp.sub{S:D}{A Fn B:List Jg}(z:Gp Z S s A Fn B ps σ u){d:D}(V:C5 Z i C Fi)(hs:HV σ=Jd)(h:C4 σ i=Ja d):
  ZipS Z S s (A++(Fn++B)) (ps++[i]) d λp=>∀Q:PV->Prop,Q p->wsub Z u C Q:=by
 induction σ using D.casesOn with
 |list l=>
  induction i using D.casesOn with
  |int n=>
   obtain⟨rfl,o0⟩:=V;obtain⟨a,v,G,rfl,e,T,rfl,r⟩:=z.rd;obtain⟨j,H,q⟩:=Qn.mp (show((CO l.length n).bind λj=>l[j]?)=Ja d from h);obtain⟨p,W,O,Y,c,rfl,J,L⟩:=r.split j d q;have K:Hr Z (.ref a) (.int n)=Ja p:=by
    show G6 (.int n) (Z a)=_;rw[e];show((CO v.length n).bind λj=>v[j]?)=Ja p;rw[r.len,H];exact c
   have hq:Gv Z (.ref a)=Ja v.length:=by
    show(match Z a with
     |some (.list l)=>Ja l.length
     |_=>Jb)=_
    rw[e]
   refine⟨p,A++(a::W),Y,O++B,ie hq T K,by simp,z.obj (o:=⟨.list v,rfl⟩) e J r.dom λX f I F g m ea U w=> ?_⟩;have M:=L X I p F g m U;rw[set_same c] at M;refine⟨.list<|l.set j I,?_,a,v,_,rfl,ea,T,rfl,M⟩;show((CO l.length n).bind λj=>(l[j]?).bind λx=>(f x).map λy=>D.list<|l.set j y)=_;rw[H];show((l[j]?).bind λx=>(f x).map λy=>D.list<|l.set j y)=_;rw[q];show((f d).map λy=>D.list<|l.set j y)=_;rw[w];rfl
  |_=>first|exact D6 h|exact Dw h|cases h
 |tup l=>
  induction i using D.casesOn with
  |int n=>
   obtain⟨rfl,o0⟩:=V;obtain⟨v,rfl,T,r⟩:=z.rd;obtain⟨j,H,q⟩:=Qn.mp (show((CO l.length n).bind λj=>l[j]?)=Ja d from h);obtain⟨p,W,O,Y,c,rfl,J,L⟩:=r.split j d q;have K:Hr Z (.tup v) (.int n)=Ja p:=by
    show((CO v.length n).bind λj=>v[j]?)=Ja p;rw[r.len,H];exact c
   refine⟨p,A++W,Y,O++B,ie (n:=v.length) rfl T K,by simp,⟨J,λb R=> ?_,λb R=> ?_,λX f I F g m U w=> ?_⟩⟩
   .rcases Qr.mp R with R|R
    .exact z.da b R
    .exact r.dom b<|Qk _ R
   .rcases Qr.mp R with R|R
    .exact r.dom b<|Qe _ (Qe _ R)
    .exact z.db b R
   .have M:=L X I p F g.right m.left U;rw[set_same c] at M;obtain⟨t,u1,u2⟩:=z.upd X (Ee (.int n) f) (.tup (l.set j I)) (W++(F++O)) g.left m.right ⟨v,rfl,T,M⟩ (by
     show((CO l.length n).bind λj=>(l[j]?).bind λx=>(f x).map λy=>D.tup (l.set j y))=_;rw[H];show((l[j]?).bind λx=>(f x).map λy=>D.tup (l.set j y))=_;rw[q];show((f d).map λy=>D.tup (l.set j y))=_;rw[w];rfl)
    refine⟨t,by rw[jV];exact u1,?_⟩;have:A++((W++(F++O))++B)=(A++W)++(F++(O++B)):=by simp
    rw[<-this];exact u2
  |_=>first|exact D6 h|exact Dw h|cases h
 |scr l=>exact tf hs
 |dict ks l=>
  obtain⟨k,N,h2⟩:=Qn.mp (show((DC i).bind λk=>DE ks l k)=Ja d from h);obtain⟨p,A',Y,P,⟨a,v,e0,E,e2⟩,e3,z'⟩:=z.key N h2;subst e0;exact⟨p,A',Y,P,nZ E (nF V N) e2,e3,z'⟩
 |_=>first|exact D6 h|exact Dw h|cases h
section
variable{G:Gx}{cv:Cl}
theorem oH{j:CB}{L:CH}{f:String->List Jg}(env:DD Z j L f):∀ (o:E) (Q:String->List D->D->Prop) (Q':C9),FJ G (aR cv) o j Q (λo0 o0=>False)->
  (∀x ps σ Z' I g n A Fn B,Q x ps σ->Di Z Z'->j.get x=Ja (g,Jc)->L.get x=Ja n->f x=A++(Fn++B)->Gp Z' g n A Fn B ps σ I->Q' I Z')->we G cv o L Z Q' X
 |o,Q,Q',h,k=>by
  induction o using E.casesOn with
  |loc x=>
   obtain⟨⟨d,b⟩,e,N,Y⟩:=eh (show Et (λp=>p.2=Jc/\Q x [] p.1) (j.get x) from h);cases N;obtain⟨v,W,r⟩:=env.at_ x d Jc e;show oV (λv=>Q' v Z) (L.get x);rw[W];exact k x [] d Z v d v [] (f x) [] Y (.refl Z) e W (by rw[QH,Kv]) (.here r)
  |sub a i=>
   refine oH env a _ _ h λx ps σ m I g n A Fn B h M e W F z=> ?_;refine br i j L f m _ _ _ X (env.ext M) h (λs t C O R h V=> ?_) λo0 o0 o0 o0 o0 q o0=>q.elim;obtain⟨N,Y⟩:=h;obtain⟨d,w,Y⟩:=gV Y;obtain⟨p,y,l,K,S,c,T⟩:=(z.ext V.ext).sub V.rd N w;exact S _<|k x _ d O p g n y l K Y (M.trans V.ext) e W (F.trans c) T
  |_=>exact h.elim
theorem CB.put_put:∀L:CB,(L.put x u).put x v=L.put x v
 |[]=>rfl
 |(y,o)::r=>by
  by_cases h:y=x
  .simp only[CB.put_if,h,if_true]
  .simp only[CB.put_if,h,if_false,CB.put_put r]
theorem mF{f:String->List Jg}{x:String}{F G:List Jg}:FE (FE f x F) x G=FE f x G:=by
 funext y;by_cases h:y=x
 .subst h;rw[du,du]
 .rw[cB h,cB h,cB h]
theorem Dd.upd{N Z:PH}{S:DZ}{p:CB}{L:CH}{f:String->List Jg}(i:Dd N S P p L Z f)(e:p.get x=Ja (g,Jc))(r:L.get x=Ja vx)
  (J:f x=A++((a::σ)++B))(z:Gp Z g vx A (a::σ) B ps dn (.ref a)){G':List Jg}(r':∀Z',Ag G' Z Z'->Z' a=Ja o'->C5 Z' dn' (.ref a) (a::G'))(T:G'.Nodup)(sub:∀b∈G',b∈σ\/b∈Fv)(m:F3 N [] f Fv):
  ∃n,ET ps (λo0=>Ja dn') g=Ja n/\Dd N S [] (p.put x (n,Jc)) L (Z.set a o') (FE f x<|A++((a::G')++B)):=by
 obtain⟨K,O⟩:=i.own x g e;have l:a∈f x:=by rw[J];exact Qe _<|.head _
 rw[J] at K;have Y:=Qv.mp K;have I:=Qy.mp Y.2.1;have H:=Qv.mp I.2;have v:a∉A:=λq=>Y.2.2 a q a (.head _) rfl;have X:a∉B:=λq=>I.1 (Qe _ q);have Q:a∉σ:=λq=>I.1 (Qk _ q);have V:a∉Fv:=λq=>m.out a q x l;have E:a∉G':=λq=>(sub a q).elim Q V;obtain⟨la,ea⟩:=i.env.dom x a l;have ag:∀F:List Jg,a∉F->Ag F Z (Z.set a o'):=λF M=>⟨λb R=>PH.set_ne _ _ λq=>M (q▸R),λb o k s=>by
  rw[PH.set_ne]
  .exact k
  .rintro rfl;obtain rfl:=sj (ea.symm.trans k);exact ft (la.2.symm.trans s)⟩
 obtain⟨n,u1,u2⟩:=z.upd (Z.set a o') (λo0=>Ja dn') dn' (a::G') (ag A v) (ag B X) (r' _ (ag G' E)<|PH.set_same _ _ _) rfl;refine⟨n,u1,?_⟩;obtain⟨i1,m1⟩:=i.move (d':= .hole) (A:=[]) (B:=[]) (F:=f x) e r rfl (by rw[QH,Kv]);obtain⟨i2,o0⟩:=i1.called m1 (i.env.dom x) (Z':=Z.set a o') λb o eb M=>by
  rw[PH.set_ne]
  .exact eb
  .rintro rfl;exact M l
 have j:∀b∈A++((a::G')++B),b∈f x\/b∈Fv:=λb R=>by
  rw[J]
  rcases Qr.mp R with q|q
  .exact .inl<|Qk _ q
  .rcases Qr.mp q with q|q
   .cases q with
    |head=>exact .inl<|Qe _ (.head _)
    |tail _ q=>exact(sub b q).imp_left λq=>Qe _<|.tail _ (Qk _ q)
   .exact .inl<|Qe _ (.tail _<|Qe _ q)
 have U:∀b∈Fv,b∉A/\b∉B:=λb R=>⟨λq=>m.out b R x<|by rw[J];exact Qk _ q,λq=>m.out b R x<|by rw[J];exact Qe _<|.tail _ (Qe _ q)⟩
 have u:∀y,y≠x->∀b∈A++((a::G')++B),b∉f y:=λy W b R q=>by
  rcases j b R with w|w
  .exact i.sep x g e y W b w q
  .exact m.out b w y q
 have t:(A++((a::G')++B)).Nodup:=by
  refine Qv.mpr ⟨Y.1,Qy.mpr ⟨λq=>(Qr.mp q).elim E X,Qv.mpr ⟨T,H.2.1,λb R c C q=> ?_⟩⟩,λb R c C q=> ?_⟩
  .subst q
   rcases sub b R with w|w
   .exact H.2.2 b w b C rfl
   .exact(U b w).2 C
  .subst q
   rcases Qr.mp (show b∈(a::G')++B from C) with w|w
   .cases w with
    |head=>exact v R
    |tail _ w=>
     rcases sub b w with w|w
     .exact Y.2.2 b R b (.tail _<|Qk _ w) rfl
     .exact(U b w).1 R
   .exact Y.2.2 b R b (.tail _<|Qe _ w) rfl
 have i3:=(i2.weak (P':=[]) λa h=>(bS h)).put (x:=x) (b:=Jc) u2 (λo0=>⟨⟨t,λb R=>(j b R).elim (O b) (m.own b)⟩,λy W b R q=>by
   rw[cB W] at q;exact u y W b R q⟩) (λy d W o0 b R q=>by rw[cB W] at R;exact u y W b q R) (λb R=>(j b R).elim (i.src x b) λq=>i.newS b (m.own b q)) (λb R=>(bS R)) (λw q=>by have:=i.pin x w q;obtain rfl:=sj (r.symm.trans this);rfl)
 rw[CB.put_put,CH.put_self _ r,mF] at i3;exact i3
end
structure Hh(N:PH)(S:DZ)(Z':PH)(d:D)(b:Bool)(v:PV)(F:List Jg):Prop where
 rd:C5 Z' d v F
 kept:Di N Z'
 own:b=Jc->F.Nodup/\∀a∈F,N a=Jb
 src:∀a∈F,S a
structure QR(N:PH)(S:DZ)(Q:bU)(Q':DH):Prop where
 next:∀Δ ρ Z fp,Q .next Δ->Dd N S [] Δ ρ Z fp->Q' .next ρ Z
 ret:∀d b Δ v ρ Z F,Q (.ret d b) Δ->Hh N S Z d b v F->Q' (.ret v) ρ Z
def XR(N:PH)(S:DZ)(X:Gq)(H:gK):Prop:=∀c d ws Δ ρ Z fp F,X c d Δ->Dd N S [] Δ ρ Z fp->CJ Z d ws F->F3 N [] fp F->H ⟨c,ws⟩ ρ Z
section
variable{N Z Z':PH}{S:DZ}{P:List Jg}{Δ:CB}{ρ:CH}{fp:String->List Jg}
theorem Dd.less(h:Dd X S P Δ ρ Z fp)(x:Di N X)(q:∀a,N a=Jb->S a):Dd N S P Δ ρ Z fp:=
 ⟨h.env,h.sep,λn d e=>⟨(h.own n d e).1,λa T=>x.new<|(h.own n d e).2 a T⟩,h.src,x.trans h.kept,h.pend,q,h.pin⟩
theorem Hh.less{d:D}(h:Hh X S Z d b v F)(x:Di N X):Hh N S Z d b v F:=
 ⟨h.rd,x.trans h.kept,λe=>⟨(h.own e).1,λa T=>x.new<|(h.own e).2 a T⟩,h.src⟩
theorem xl{e:D}(h:(Δ.frz t).get y=Ja (e,Jc)):Δ.get y=Ja (e,Jc)/\∀xs,t=Ja xs->y∈xs->e.atom=Jc:=by
 induction t with
 |none=>exact⟨h,λxs q=>(ns q)⟩
 |some xs=>
  rw[uy,CB.get_map (λx q=>if xs.contains x then(q.1,q.1.atom&&q.2) else q)] at h;obtain⟨⟨d,c⟩,T,w⟩:=Qt.mp h;by_cases hx:xs.contains y=Jc
  .rw[Ug hx] at w
   induction C:d.atom with
   |false=>simp only[C,Bool.false_and] at w;cases w
   |true=>simp only[C,Yn] at w;cases w;exact⟨T,λo0 o0 o0=>C⟩
  .rw[Uf hx] at w;cases w;refine⟨T,λs q W=> ?_⟩;obtain rfl:=sj q;exact absurd (by simpa using W) hx
theorem Dd.away(h:Dd N S P Δ ρ Z fp)(p:CG Z fp t F)(q:(Δ.frz t).get y=Ja (e,Jc)):Eb (fp y) F:=λa T b=>by
 obtain⟨c,σ⟩:=xl q;obtain⟨l,x⟩:=h.env.dom y a T
 induction t with
 |none=>have:=(p.own rfl).2 a b;exact sn<|x.symm.trans this
 |some s=>
  rcases p.al s rfl a b with w|⟨z,R,w⟩
  .exact sn<|x.symm.trans w
  .by_cases V:z=y
   .subst V;obtain⟨v,o0,r⟩:=h.env.at_ z e Jc c;rw[r.atom (σ s rfl R)] at T;cases T
   .exact h.sep y e c z V a T w
theorem Dd.srcP(h:Dd N S P Δ ρ Z fp)(p:CG Z fp t F):∀a∈F,S a:=λa T=>by
 induction t with
 |none=>exact h.newS a<|h.new0 ((p.own rfl).2 a T)
 |some x=>
  rcases p.al x rfl a T with w|⟨z,o0,w⟩
  .exact h.newS a<|h.new0 w
  .exact h.src z a w
theorem Dd.puts:∀ (xs:List String) (ds:List D) (vs:List PV) (F:List Jg) (Δ:CB) (ρ:CH) (fp:String->List Jg),Dd N S [] Δ ρ Z fp->ds.length=xs.length->CJ Z ds vs F->(b=Jc->F3 N [] fp F)->
  (∀y e,Δ.get y=Ja (e,Jc)->Eb (fp y) F)->(∀a∈F,S a)->(∀x∈xs,S.pin x=Jb)->vs.length=xs.length/\∃f,Dd N S [] (Δ.puts xs ds b) (ρ.puts xs vs) Z f:=by
 intro xs
 induction xs with
 |nil=>
  intro ds vs F Δ ρ fp h l r _ _ _ _
  induction ds using List.casesOn with
  |cons=>cases l
  |nil=>obtain⟨rfl,rfl⟩:=r;exact⟨rfl,fp,h⟩
 |cons x xs i=>
  intro ds vs F Δ ρ fp h l V R o s n
  induction ds using List.casesOn with
  |nil=>cases l
  |cons d ds=>
   obtain⟨p,I,X,t,L,σ,v,M⟩:=V;subst L σ;have A:=h.put (x:=x) (b:=b) v (λq=>⟨⟨(Qv.mp (R q).nd).1,λa T=>(R q).own a (Qk _ T)⟩,λy W a T=>(R q).out a (Qk _ T) y⟩)
    (λy e W q a T j=>o y e q a T<|Qk _ j) (λa T=>s a<|Qk _ T) (λa T=>(bS T)) (λw q=>by exact ns<|(n x<|.head _).symm.trans q)
   have hx:∀e,(Δ.put x (d,b)).get x=Ja (e,Jc)->b=Jc:=λe q=>by
    have m:=CB.get_mem _ q;rw[CB.put_keys] at m;rw[CB.get_put _ m] at q;cases q;rfl
   have J:b=Jc->Eb X t:=λq a T j=>(Qv.mp (R q).nd).2.2 a T a j rfl;obtain⟨U,f,E⟩:=i ds I t _ _ _ A (Nat.succ.inj l) M (λq=>⟨(Qv.mp (R q).nd).2.1,λa T=>(R q).own a (Qe _ T),λa T y W=>by
     by_cases Q:y=x
     .subst Q;rw[du] at W;exact J q a W T
     .rw[cB Q] at W;exact(R q).out a (Qe _ T) y W,λa T=>(bS T)⟩)
    (λy e q a T j=>by
     by_cases Q:y=x
     .subst Q;rw[du] at T;exact J (hx e q) a T j
     .rw[cB Q] at T;rw[CB.get_put_ne Q] at q;exact o y e q a T (Qe _ j)) (λa T=>s a (Qe _ T)) (λy W=>n y (.tail _ W))
   exact⟨Uj (· +1) U,f,E⟩
theorem Dd.bindT{tg:Tg}{d:D}(h:Dd N S [] Δ ρ Z fp)(r:C5 Z d v F)(e:eY tg d b Δ=Ja H)(R:b=Jc->F3 N [] fp F)(o:∀y e,Δ.get y=Ja (e,Jc)->Eb (fp y) F)(E:∀a∈F,S a)(n:∀x∈tg.names,S.pin x=Jb):
  ∃ρ' f,bindT tg v ρ=Ja ρ'/\Dd N S [] H ρ' Z f:=by
 induction tg with
 |name x=>
  obtain rfl:=sj e;exact⟨_,_,rfl,h.put r (λq=>⟨⟨(R q).nd,(R q).own⟩,λy o0 a T=>(R q).out a T y⟩) (λy e o0 q=>o y e q) E (λa T=>(bS T)) λw q=>by exact ns<|(n x<|.head _).symm.trans q⟩
 |tup s=>
  induction d using D.casesOn with
  |tup z=>
   obtain⟨l,rfl,M,r⟩:=r;by_cases q:z.length=s.length
   .have g:Ja (Δ.puts s z b)=Ja H:=by rw[<-e];exact(Ug q).symm
    obtain rfl:=sj g;obtain⟨p,f,Y⟩:=Dd.puts (b:=b) s z l F Δ ρ fp h q r R o E n;exact⟨_,f,Ug p,Y⟩
   .have g:Jb=Ja H:=by rw[<-e];exact(Uf q).symm
    exact ns g
  |_=>first|exact D6 e|exact Dw e|cases e
end
def G2(P:DZ)(f:String->Bool):Prop:=∀x v,P.pin x=Ja v->f x=Jc
theorem G2.off{P:DZ}{f:String->Bool}(h:G2 P f)(hx:f x=Jd):P.pin x=Jb:=by
 induction e:P.pin x with
 |none=>rfl
 |some v=>exact tf<|(h x v e).symm.trans hx
theorem G2.imp{f g:String->Bool}(h:G2 P f)(k:∀x,f x=Jc->g x=Jc):G2 P g:=λx v e=>k x<|h x v e
section
variable(G:Gx)(cv cu:Cl)
def EN(s:S):Prop:=∀ (N:PH) (P:DZ) (Δ:CB) (ρ:CH) (fp:String->List Jg) (Z:PH) (Q:bU) (X:Gq) (r:DH) (H:gK),Dd N P [] Δ ρ Z fp->G2 P (S.noas · s)->dws G (aR cv) (aR cu) s Δ Q X->
 QR N P Q r->XR N P X H->ws G cv cu s ρ Z r H
def Eo(s:List S):Prop:=∀ (N:PH) (P:DZ) (Δ:CB) (ρ:CH) (fp:String->List Jg) (Z:PH) (Q:bU) (X:Gq) (r:DH) (H:gK),Dd N P [] Δ ρ Z fp->G2 P (S.noass · s)->CQ G (aR cv) (aR cu) s Δ Q X->
 QR N P Q r->XR N P X H->E8 G cv cu s ρ Z r H
end
section
variable{G:Gx}{cv cu:Cl}
theorem XR.ext{fp:String->List Jg}(h:XR N P X H)(i:Dd N P [] Δ ρ Z fp){ws:List PV}(q:X c ds Δ)(x:XOK Z Z' ds ws F):H ⟨c,ws⟩ ρ Z':=
 h c ds ws Δ ρ Z' fp F q (i.ext x.ext) x.rd ⟨x.nd,λa T=>i.new0<|x.own a T,λa T y W=>(by obtain⟨l,e⟩:=i.env.dom y a W;exact ns<|(x.own a T).symm.trans e),λa T=>(bS T)⟩
theorem AL:EN G cv cu (.assign (.name x) e):=λN P Δ ρ fp Z Q X M H i p h q s=>
 br e Δ ρ fp Z _ _ _ _ i.env h (λd t v O F h r=>q.next _ _ _ _ h (((i.ext r.ext).frz t).put r.rd (λb=>by
   have m:=i.fresh r.part (Kg.mp b);exact⟨⟨m.nd,m.own⟩,λy o0 a T=>m.out a T y⟩)
  (λy e o0 w=>i.away r.part w) (i.srcP r.part) (λa T=>(bS T)) λw e=>by rw[p.off (show(!(Tg.name x).names.contains x)=Jd by simp[Tg.names])] at e;exact ns e)) λo0 o0 o0 o0 o0 w x=>s.ext i w x
theorem Bi:EN G cv cu (.assign (.tup xs) e):=λN P Δ ρ fp Z Q X M K i p h q s=>
 ⟨h.1,br e Δ ρ fp Z _ _ _ _ i.env h.2 (λd t v m F h r=>by
  obtain⟨H,T,h⟩:=gx h;obtain⟨O,f,j,n⟩:=((i.ext r.ext).frz t).bindT r.rd T (λb=>i.fresh r.part (Kg.mp b)) (λy e w=>i.away r.part w) (i.srcP r.part) (λy W=>p.off (show(!(Tg.tup xs).names.contains y)=Jd by simpa using W));rw[j];exact q.next _ _ _ _ h n) λo0 o0 o0 o0 o0 w x=>s.ext i w x⟩
theorem Bx:EN G cv cu (.ret e):=λN P Δ ρ fp Z Q X M O i U h q s=>by
 rcases h with h|h
 .exact qc e N P [] Δ ρ fp Z _ _ _ i h λd p f v Z' F h n r m o0=>q.ret _ _ _ _ _ _ F h ⟨r,n.kept,λo0=>⟨m.nd,m.own⟩,λa H=>n.newS a<|m.own a H⟩
 .exact br e Δ ρ fp Z _ _ _ _ i.env h (λd t v T F h r=>q.ret _ _ _ _ _ _ F h ⟨r.rd,i.kept.trans r.ext,λb=>by
   have m:=i.fresh r.part (Kg.mp b);exact⟨m.nd,m.own⟩,i.srcP r.part⟩) λo0 o0 o0 o0 o0 w x=>s.ext i w x
theorem Cy(R:Eo G cv cu b)(T:Eo G cv cu o):EN G cv cu (.if_ t b o):=λN P Δ ρ fp Z Q X M H i p h q s=>
 br t Δ ρ fp Z _ _ _ _ i.env h (λd g v m F h r=>by
  obtain⟨c,rfl,h⟩:=eX h;rw[r.rd.1]
  induction c with
  |true=>exact R N P Δ ρ fp m Q X M H (i.ext r.ext) (p.imp λx e=>(Qi.mp (show(S.noass x b&&S.noass x o)=Jc from e)).1) h q s
  |false=>exact T N P Δ ρ fp m Q X M H (i.ext r.ext) (p.imp λx e=>(Qi.mp (show(S.noass x b&&S.noass x o)=Jc from e)).2) h q s) λo0 o0 o0 o0 o0 w x=>s.ext i w x
theorem xe{args:List E}:EN G cv cu (.raise c args):=λN P Δ ρ fp Z Q X t H i p h q x=>
 ⟨h.1,kP args N P [] Δ ρ fp Z _ _ _ i h.2 λd u f v m b h w r s o0=>by
  obtain⟨F,g,j⟩:=(C3.rd r).take (G.flds c).length;exact x c _ _ u ρ m f F h w g (s.sub j)⟩
theorem QR.fl{K:CB->Prop}{K':CH->PH->Prop}(q:QR N P Q Q')(k:∀Δ ρ Z fp,K Δ->Dd N P [] Δ ρ Z fp->K' ρ Z):QR N P (DU K Q) (HR K' Q'):=⟨k,q.ret⟩
theorem z7:Eo G cv cu []:=λN P Δ ρ fp Z Q X r H i p h q x=>q.next _ _ _ _ h i
theorem wz(U:EN G cv cu s)(n:Eo G cv cu r):Eo G cv cu (s::r):=λN P Δ ρ fp Z Q X t H i p h q O=>
 U N P Δ ρ fp Z _ X _ H i (p.imp λx e=>(Qi.mp (show(S.noas x s&&S.noass x r)=Jc from e)).1) h (q.fl λu j m f E w=>n N P u j f m Q X t H w (p.imp λx e=>(Qi.mp (show(S.noas x s&&S.noass x r)=Jc from e)).2) E q O) O
end
section
variable{G:Gx}{cv cu:Cl}
theorem F3.one{fp:String->List Jg}(m:F3 N P fp F):F3 N [] fp F:=⟨m.nd,m.own,m.out,λa h=>(bS h)⟩
theorem rl{ds:List D}{l:List PV}{F:List Jg}(r:CJ Z ds l F){d:D}{Fv:List Jg}(S:C5 Z d v Fv)(x:F.Nodup)(V:Fv.Nodup)(J:Eb Fv F):
  ∃G',CJ Z (ds.set j d) (l.set j v) G'/\G'.Nodup/\∀b∈G',b∈F\/b∈Fv:=by
 by_cases H:j<ds.length
 rotate_left
 .rw[List.set_eq_of_length_le (Nat.le_of_not_lt H),List.set_eq_of_length_le (by rw[r.len];exact Nat.le_of_not_lt H)];exact⟨F,r,x,λb h=> .inl h⟩
 obtain⟨p,A,B,y,I,rfl,L,g⟩:=r.split j ds[j] (Qg H);have n:=Qv.mp x;have z:=Qv.mp n.2.1;refine⟨A++(Fv++B),g Z d v Fv .refl .refl S,Qv.mpr ⟨n.1,Qv.mpr ⟨V,z.2.1,λa T b h q=> ?_⟩,λa T b h q=> ?_⟩,λb h=> ?_⟩
 .subst q;exact J a T<|Qe _ (Qe _ h)
 .subst q
  rcases Qr.mp h with w|w
  .exact J a w<|Qk _ T
  .exact n.2.2 a T a (Qe _ w) rfl
 .rcases Qr.mp h with w|w
  .exact .inl<|Qk _ w
  .rcases Qr.mp w with w|w
   .exact .inr w
   .exact .inl<|Qe _ (Qe _ w)
theorem CJ.snoc(r:CJ Z ds l F){d:D}(S:C5 Z d v Fv):CJ Z (ds++[d]) (l++[v]) (F++Fv):=r.app ⟨v,[],Fv,[],rfl,(QH _).symm,S,rfl,rfl⟩
theorem ug{ks:List (List KA)}{l:List PV}{F:List Jg}(r:CJ Z ds l F)(T:l.length<Dg)(M:ks.length=l.length){d:D}{Fv:List Jg}(S:C5 Z d v Fv)(x:F.Nodup)(V:Fv.Nodup)(J:Eb Fv F):
  ∃G',(∀Z',Ag G' Z Z'->Z' a=Ja (Fp ks l k v)->C5 Z' (F7 ks ds k d) (.ref a) (a::G'))/\G'.Nodup/\∀b∈G',b∈F\/b∈Fv:=by
 unfold Fp F7;cases C0 ks k with
 |some j=>
  obtain⟨G',g,X,H⟩:=rl (j:=j) r S x V J;exact⟨G',λZ' ag e=>⟨a,_,G',rfl,e,by rw[Wx];exact⟨Kw T,M⟩,rfl,g.ag ag⟩,X,H⟩
 |none=>
  refine⟨F++Fv,λZ' ag e=>⟨a,_,_,rfl,e,by rw[QG,QG,M];exact⟨T,rfl⟩,rfl,(r.snoc S).ag ag⟩,Qv.mpr ⟨x,V,λb h c C q=>J c C<|q▸h⟩,λb h=>Qr.mp h⟩
theorem lc(h:CO n k=Ja j):j<n:=by
 unfold CO at h;by_cases i:0<=k
 .rw[Ug i] at h;by_cases E:k<n
  .rw[Ug E] at h;obtain rfl:=sj h;exact(KV i).mpr E
  .rw[Uf E] at h;exact ns h
 .rw[Uf i] at h;by_cases E:0<=k+n
  .rw[Ug E] at h;obtain rfl:=sj h;exact(KV E).mpr (zng i)
  .rw[Uf E] at h;exact ns h
theorem Bc:EN G cv cu (.setIdx o i e):=λN P Δ ρ fp Z Q X Q' X' iv pn h q xr=>
 qc e N P [] Δ ρ fp Z _ _ _ iv h λd u L v ac F h M rv m o0=>
 oH M.env o _ _ h λx ps dn O vn dx vx A Fn B h x2 ex ev J z=>
 br i u ρ L O _ _ _ _ (M.env.ext x2) h (λdi t vi p Fi h U=>by
  have i3:=M.ext<|x2.trans U.ext;have s:=z.ext U.ext;have nd:=(i3.own x dx ex).1;rw[J] at nd;have c:=rv.ext<|x2.trans U.ext;have fin:∀ {I:D} {W:D} {f:PH} {C:String->List Jg},dput u x ps I (λaa=>Q .next aa)->ET ps (λo0=>Ja I) dx=Ja W->Dd N P [] (u.put x (W,Jc)) ρ f C->Q' .next ρ f:=λh Y σ=>by
   obtain⟨⟨H,b⟩,e1,h⟩:=eh h;rw[ex] at e1;cases e1;obtain⟨H,e2,h⟩:=gV h;obtain rfl:=sj<|Y.symm.trans e2;exact q.next _ _ _ _ h σ
  induction dn using D.casesOn with
  |list l=>
   obtain⟨n,rfl,h⟩:=eQ h;obtain⟨j,hj,h⟩:=gR h;have hv:=U.rd.1;obtain⟨a,K,Gn,e3,y,T,e4,r⟩:=s.rd;subst e3 e4 hv;refine .inr ?_;show GN _ (p a);rw[y];show EV _ (CO K.length n);rw[r.len,hj];refine⟨r.len▸T,?_⟩;have R:=(Qy.mp (Qv.mp nd).2.1).2;obtain⟨G',g,g2,g3⟩:=rl (j:=j) r c (Qv.mp R).1 m.nd λb hb S=>m.out b hb x (by rw[J];exact Qe _<|.tail _ (Qk _ S));obtain⟨W,Y,σ⟩:=i3.upd ex ev J s (dn':= .list (l.set j d)) (o':= .list (K.set j v)) (λab ag e=>⟨a,_,G',rfl,e,by rw[Wx];exact T,rfl,g.ag ag⟩) g2 g3 m.one;exact fin h Y σ
  |dict ks l=>
   obtain⟨a,K,Gn,e3,y,T,e4,r⟩:=s.rd;subst e3 e4;refine .inl ?_;show EK _ (p a);rw[y];have V:K.length<Dg:=by rw[r.len];exact h.1
   refine⟨V,vo U.rd h.2 λkey h=> ?_⟩;have R:=(Qy.mp (Qv.mp nd).2.1).2;obtain⟨G',g,g2,g3⟩:=ug (ks:=ks) (a:=a) (k:=key) r V T.2 c (Qv.mp R).1 m.nd λb hb S=>m.out b hb x (by rw[J];exact Qe _<|.tail _ (Qk _ S));obtain⟨W,Y,σ⟩:=i3.upd ex ev J s g g2 g3 m.one;exact fin h Y σ
  |_=>exact h.elim) λo0 o0 o0 o0 o0 w o0=>w.elim
theorem CJ.eraseIdx:∀ {ds:List D} {l:List PV},CJ Z ds l []->∀j:Nat,CJ Z (ds.eraseIdx j) (l.eraseIdx j) []
 |[],l,r,j=>by obtain⟨rfl,o0⟩:=r;exact⟨rfl,rfl⟩
 |d::ds,l,r,j=>by
  obtain⟨p,s,F,q,rfl,e,f,M⟩:=r;obtain⟨rfl,rfl⟩:=List.append_eq_nil_iff.mp e.symm
  induction j using Nat.casesOn with
  |zero=>exact M
  |succ j=>exact⟨p,s.eraseIdx j,[],[],rfl,rfl,f,CJ.eraseIdx M j⟩
theorem qO{S:DZ}{Δ:CB}{ρ:CH}{fp:String->List Jg}(i:Dd N S P Δ ρ Z fp){A Fn B:List Jg}
  (ex:Δ.get x=Ja (u,Jc))(C:ρ.get x=Ja L)(F:fp x=A++(Fn++B))(z:Gp Z u L A Fn B ps J V)(g:CJ Z ds vs Fv)(mv:F3 N [] fp Fv){K:D->Prop}
  (h:Fe m ds J K)(k:∀dn' n M Z' f,K dn'->ET ps (λo0=>Ja dn') u=Ja n->Dd N S [] (Δ.put x (n,Jc)) ρ Z' f->K' M Z'):HJ m V vs Z K':=by
 have nd:=(i.own x u ex).1;rw[F] at nd
 induction m with
 |append=>
  match ds,h,g with
  |[d],h,g=>
   obtain⟨l,rfl,E,p⟩:=fu h;obtain⟨a,s,H,X,y,T,I,r⟩:=z.rd;subst X I;have hv:=g.len
   match vs,hv,g with
   |[v],_,g=>
    show GN _ (Z a);rw[y];have t:s.length<Dg:=by rw[r.len];exact E
    have O:=(Qy.mp (Qv.mp nd).2.1).2;obtain⟨W,Y,σ⟩:=i.upd ex C F z (dn':= .list (l++[d])) (o':= .list (s++[v])) (λZ' ag e=>⟨a,_,_,rfl,e,by rw[QG];exact t,rfl,(r.app g).ag ag⟩) (Qv.mpr ⟨(Qv.mp O).1,mv.nd,λb R c w q=>by
      subst q;exact mv.out b w x (by rw[F];exact Qe _ (.tail _ (Qk _ R)))⟩) (λb R=>Qr.mp R) mv
    exact⟨t,k _ _ _ _ _ p Y σ⟩
 |remove=>
  match ds,h,g with
  |[d],h,g=>
   obtain⟨l,rfl,E,p⟩:=fu h;obtain⟨a,s,H,X,y,T,I,r⟩:=z.rd;subst X I;obtain⟨v,rfl,rd⟩:=g.one1;obtain⟨j,hj,p⟩:=gR p;obtain rfl:=r.atom E.2;obtain⟨p1,U⟩:=k8 rd E.1.1 (by decide);show GN _ (Z a);rw[y];obtain⟨W,Y,σ⟩:=i.upd ex C F z (dn':= .list (l.eraseIdx j)) (o':= .list (s.eraseIdx j)) (G':=[]) (λZ' ag e=>⟨a,_,[],rfl,e,Qq (List.length_eraseIdx_le ..) T,rfl,(r.eraseIdx j).ag ag⟩) .nil (λb R=>bS R) mv;exact⟨d.py,D.pys l,j,p1,(r.py E.1.2).1,⟨U,ry r E.1.2<|by decide⟩,T,by rw[nE,List.findIdx?_map];exact hj,k _ _ _ _ _ p Y σ⟩
theorem C3.rds{ds:List D}{F:List (List Jg)}(r:C3 Z (ds.map λd=>(d,Jc)) vs F):CJ Z ds vs F.flatten:=by
 induction ds generalizing vs F with
 |nil=>cases r;exact⟨rfl,rfl⟩
 |cons d ds h=>cases r with|cons f M y i=>exact⟨_,_,_,_,rfl,rfl,f,h i⟩
theorem lF{d:D}(r:C5 Z d v F)(h:FI m d):recv m Z v:=by
 have h:DS (λo0=>True) d/\(recv m Z v=Es Z (λo0=>True) v):=by
  induction m with
  |_=>exact⟨h,rfl⟩
 rw[h.2];obtain⟨l,rfl,o0⟩:=fu h.1;obtain⟨a,k,G,rfl,e,o0⟩:=r;show Es Z _ _;rw[hH e];trivial
theorem mc:∀ks:List (List KA),C0 ks k=Jb->C0 (ks++[k]) k=Ja ks.length
 |[]=>λo0=>Ug rfl
 |y::r=>λh=>by
  have h:(if y=k then Ja 0 else(C0 r k).map (· +1))=Jb:=h;by_cases e:y=k
  .exact sn<|(Ug e).symm.trans h
  .rw[Uf e] at h;show(if y=k then Ja 0 else(C0 (r++[k]) k).map (· +1))=_;rw[Uf e,mc r (Option.map_eq_none_iff.mp h)];rfl
theorem vz:∀ {ks:List (List KA)},C0 ks k=Ja j->j<ks.length:=λ{ks}=>by
 induction ks generalizing j with
 |nil=>intro h;exact ns h
 |cons y r W=>
  intro h;have h:(if y=k then Ja 0 else(C0 r k).map (· +1))=Ja j:=h;by_cases e:y=k
  .obtain rfl:=sj<|(Ug e).symm.trans h;exact Yz _
  .rw[Uf e] at h;obtain⟨i,E,rfl⟩:=Qt.mp h;exact Yo<|W E
theorem sC{ks:List (List KA)}{l:List PV}(T:ks.length=l.length)(h:Dh ks l k=Jb):Dh (ks++[k]) (l++[v]) k=Ja v:=by
 have q:C0 ks k=Jb:=by
  induction e:C0 ks k with
  |none=>rfl
  |some j=>
   unfold Dh at h;rw[e] at h;have h:l[j]? =Jb:=h;rw[WW] at h;have:=vz e;exact absurd this<|QW.mpr (D8 (QV T) h)
 unfold Dh;rw[mc ks q];show(l++[v])[ks.length]? =_;rw[T,WP<|Qz _,Nat.sub_self];rfl
theorem CB.put_self:∀ρ:CB,ρ.get x=Ja v->ρ.put x v=ρ
 |(y,o)::r,h=>by
  by_cases W:y=x
  .simp only[CB.get_if,W,if_true] at h;simp only[CB.put_if,W,if_true,h]
  .simp only[CB.get_if,W,if_false] at h;simp only[CB.put_if,W,if_false,CB.put_self r h]
theorem yt{Δ:CB}{ρ:CH}{fp:String->List Jg}{args:List E}{key:List KA}(i:Dd N P [] Δ ρ Z fp)(q:QR N P Q Q')
  (ex:Δ.get x=Ja (.dict ks l,Jc))(W:ρ.get x=Ja (.ref a))(y:Z a=Ja (.dict ks K))(v:DC dk=Ja key)(el:Dh ks K key=Ja p)
  (h:FL (λn=>FI m n/\Dx G (aR cv) args Δ (λvs=>EU vs=Jb/\Fe m (CE vs) n λdn'=>FL (λd=>Q .next<|Δ.put x (d,Jc))<|Ee dk (λo0=>Ja dn') (.dict ks l)) λo0 o0=>False) (C4 (.dict ks l) dk)):
  recv m Z p/\Fc G cv args ρ Z (λvs O=>HJ m p vs O λo0 Z1=>Q' .next ρ Z1) X':=by
 obtain⟨n,L,Y,R⟩:=gV h;obtain⟨g,j,t⟩:=Qn.mp (show((DC dk).bind λk=>DE ks l k)=Ja n from L);obtain rfl:=sj<|v.symm.trans j;obtain⟨M,e,r⟩:=i.env.at_ x _ _ ex;obtain rfl:=sj<|W.symm.trans e;obtain⟨p',f,I,B,⟨a',u,c,σ,A⟩,J,z⟩:=(Gp.here r).key v t;cases c;rw[y] at σ;cases σ;obtain rfl:=sj<|el.symm.trans A;refine⟨lF z.rd Y,?_⟩;refine dU args Δ ρ fp Z _ _ _ _ i.env R (λds vs O H h S s=> ?_) λo0 o0 o0 o0 o0 w o0=>w.elim;have F:fp x=f++(I++B):=by rw[<-J,QH,Kv]
 exact qO (i.ext S) ex W F (z.ext S) s.rds (i.fresh s.part h.1) h.2 λdn' b M X C T U V=>by
  obtain⟨d2,j,T⟩:=gV T;have U:Ee dk (λo0=>Ja dn') (.dict ks l)=Ja b:=U;obtain rfl:=sj<|U.symm.trans j;exact q.next _ _ _ _ T V
theorem Cm{args:List E}{fp:String->List Jg}(i:Dd N P [] Δ ρ Z fp)(h:dsd G (aR cv) m args Δ (λL=>Q .next L) x k)(q:QR N P Q Q'):
  ws G cv cu (.expr<|.meth (.sd (.loc x) k) m args) ρ Z Q' X':=by
 obtain⟨⟨d,b⟩,e,g,h⟩:=eh h;cases g;obtain⟨s,l,g,h⟩:=o7 h;cases g;obtain⟨v,X,a,K,n,rfl,I,H,F,r⟩:=i.env.at_ x _ _ e;show oV _ (ρ.get x);rw[X];refine⟨?_,br k Δ ρ fp Z _ _ _ _ i.env h (λdk t vk T Fk h W=> ?_) λo0 o0 o0 o0 o0 w o0=>w.elim⟩
 .show EK _ (Z a);rw[I];trivial
 have B:=W.ext a _ I;have f:=r.ext W.ext;have S:=i.ext W.ext;obtain⟨V,h⟩:=h;have D:K.length<Dg:=by rw[r.len];exact V
 obtain⟨key,U,h⟩:=jh h;show EK _ (T a);rw[B];refine⟨D,?_⟩;rw[nF W.rd U]
 induction σ:DE s l key with
 |some dn=>
  have A:GW s l key= .dict s l:=by unfold GW;rw[σ]
  rw[A,CB.put_self _ e] at h;obtain⟨j,p,G',o0,o0,o0,g1,o0,o0⟩:=f.look σ;show(match Dh s K key with
   |some v=>_
   |none=>_)
  rw[g1];exact yt S q e X B U g1 h
 |none=>
  have A:GW s l key= .dict (s++[key]) (l++[.list []]):=by unfold GW;rw[σ]
  rw[A] at h;show(match Dh s K key with
   |some v=>_
   |none=>_)
  rw[j5 f σ];intro b R;have Y:b∉fp x:=λw=>by obtain⟨o,u⟩:=S.env.dom x b w;exact ns<|R.symm.trans u
  have M:Di T (T.set b (.list [])):=Di.set R _;have i2:=S.ext M;have ac:b≠a:=λw=>Y (by rw[F,w];exact .head _);have J:F3 N [] fp [b]:=⟨Qy.mpr ⟨λw=>(bS w),.nil⟩,λc C=>(Qh.mp C)▸S.new0 R,λc C y hy=>(by
   rw[Qh.mp C] at hy;obtain⟨o,u⟩:=S.env.dom y b hy;exact ns (R.symm.trans u)),λc C=>(bS C)⟩
  have rb:C5 (T.set b<|.list []) (.list []) (.ref b) [b]:=⟨b,[],[],rfl,PH.set_same _ _ _,QS _,rfl,rfl,rfl⟩
  have r2:=(f.ext M).snoc rb;have nd:=(i.own x _ e).1;rw[F] at nd;have z:Gp (T.set b<|.list []) (.dict s l) (.ref a) [] (a::n) [] [] (.dict s l) (.ref a):= .here ⟨a,K,n,rfl,M a _ B,H,rfl,f.ext M⟩;obtain⟨ab,u1,u2⟩:=i2.upd e X (by rw[F,QH,Kv]) z (dn':= .dict (s++[key]) (l++[.list []])) (o':= .dict (s++[key]) (K++[.ref b])) (G':=n++[b]) (Fv:=[b])
   (λaa ag e=>⟨a,_,_,rfl,e,by rw[QG,QG,H.2];exact⟨D,rfl⟩,rfl,r2.ag ag⟩) (Qv.mpr ⟨(Qy.mp nd).2,J.nd,λc C c' O w=>by
    rw[Qh.mp O] at w;exact Y (by rw[F,<-w];exact .tail _ C)⟩) (λc C=>Qr.mp C) J
  obtain rfl:=sj u1;have hm:x∈D2 Δ:=CB.get_mem _ e;refine yt u2 q (CB.get_put _ hm) X (PH.set_same _ _ _) U (p:= .ref b) (sC H.2<|j5 f σ) ?_;simp only[CB.put_put];exact h
section
variable{o:E}{m:Me}{args:List E}{N:PH}{P:DZ}{Δ:CB}{ρ:CH}{fp:String->List Jg}{Z:PH}{Q:bU}{Q':DH}{X':gK}
theorem Ae(i:Dd N P [] Δ ρ Z fp)(h:dmeE G (aR cv) m args Δ (λH=>Q .next H) (.loc x) (Ja x) Jb)(q:QR N P Q Q'):ws G cv cu (.expr (.meth (.loc x) m args)) ρ Z Q' X':=by
 obtain⟨⟨σ,b⟩,u,t⟩:=eh h.1;obtain⟨v,W,r⟩:=i.env.at_ x σ b u;show oV _ (ρ.get x);rw[W];refine⟨lF r t,?_⟩;refine kP args N P [] Δ ρ fp Z _ _ _ i h.2 λz D p J O F h w s L o0=> ?_;obtain⟨⟨d1,a⟩,T,E,Y⟩:=eh h;cases E;obtain⟨K,e,f⟩:=w.env.at_ x d1 Jc T;obtain rfl:=sj<|W.symm.trans e;exact qO w T W (A:=[]) (B:=[]) (by rw[QH,Kv]) (.here f) s.rds L Y λn d K X V M U k=>by obtain rfl:=sj U;exact q.next _ _ _ _ M k
end
theorem t0{t:E×E}(h:sdOf o=Ja t):o= .sd t.1 t.2:=by
 induction o using E.casesOn with
 |sd a k=>obtain rfl:=sj h;rfl
 |_=>first|exact D6 h|exact Dw h|cases h
theorem Ap(i:Dd N P [] Δ ρ Z fp)(h:dmeE G (aR cv) m args Δ (λH=>Q .next H) o Jb Jb)(q:QR N P Q Q'):ws G cv cu (.expr (.meth o m args)) ρ Z Q' X':=by
 obtain⟨rfl,h⟩:=h;exact br o Δ ρ fp Z _ _ _ _ i.env h (λd t v T F h r=>⟨lF r.rd h.2.1,dU args Δ ρ fp T _ _ _ _ (i.env.ext r.ext) h.2.2 (λs f O I p x j=>by
  obtain⟨W,o0,o0⟩:=h;have p:Fe .append (CE s) d (λo0=>Q .next Δ):=p;have M:=j.rds.len;generalize CE s=U at p M
  match U,p,f,M with
  |[e],p,[u],_=>
   obtain⟨l,rfl,E,J⟩:=fu p;obtain⟨a,k,n,rfl,y,o0,g,c⟩:=r.rd;have D:Z a=Jb:=(r.part.own W).2 a (g▸ .head _);show GN _ (O a);rw[x a _ y];refine⟨by rw[c.len];exact E,q.next _ _ _ _ J<|i.ext λb R C=> ?_⟩;rw[PH.set_ne]
   .exact x b R<|r.ext b R C
   .rintro rfl;exact ns (D.symm.trans C)) λo0 o0 o0 o0 o0 w o0=>w.elim⟩) λo0 o0 o0 o0 o0 w o0=>w.elim
theorem yN{args:List E}:EN G cv cu (.expr (.meth o m args)):=λN P Δ ρ fp Z Q X Q' X' i p h q r=>by
 have h:dmeE G (aR cv) m args Δ (λH=>Q .next H) o (Ez o) (sdOf o):=h
 induction l:Ez o with
 |some x=>
  cases j3 l;exact Ae i h q
 |none=>
  rw[l] at h
  induction s:sdOf o with
  |some a=>
   rw[s] at h;have h:dsdL G (aR cv) m args Δ (λH=>Q .next H) a.2 (Ez a.1):=h
   induction T:Ez a.1 with
   |none=>rw[T] at h;exact h.elim
   |some x=>
    rw[T] at h;rw[t0 s,j3 T];exact Cm i h q
  |none=>
   rw[s] at h;exact Ap i h q
theorem xj(O:∀Δ K X,GI G (aR cv) e Δ K X=CY G (aR cv) e Δ (λo0 o0=>K Δ) λc l=>X c l Δ):EN G cv cu (.expr e):=λN P Δ ρ fp Z Q X Q' X' i p h q s=>by
 have h:GI G (aR cv) e Δ (λH=>Q .next H) X:=h;rw[O] at h;exact br e Δ ρ fp Z _ _ _ _ i.env h (λd t v T F h r=>q.next _ _ _ _ h<|i.ext r.ext) λo0 o0 o0 o0 o0 w x=>s.ext i w x
theorem qZ(b:List E):∀ (a:List E) (Z:PH) (Q:List PV->PH->Prop),Fc G c (a++b) ρ Z Q X=Fc G c a ρ Z (λvs Z1=>Fc G c b ρ Z1 (λws O=>Q (vs++ws) O) X) X
 |[]=>λZ Q=>rfl
 |e::s=>λZ Q=>by
  have:(λv Z1=>Fc G c (s++b) ρ Z1 (λvs O=>Q (v::vs) O) X)=λv Z1=>Fc G c s ρ Z1 (λvs Z1=>Fc G c b ρ Z1 (λws O=>Q (v::(vs++ws)) O) X) X:=by
   funext v Z1;exact qZ b s Z1 _
  exact Uj (λK=>we G c e ρ Z K X) this
theorem x9:∀ {l a:List E} {x:String} {b:List E},HB Δ l=Ja (a,x,b)->l=a++ .loc x::b:=λ{l}=>by
 induction l with
 |nil=>exact λh=>ns h
 |cons e r i=>
  intro a x b h;have t:(HB Δ r).map (λq=>(e::q.1,q.2))=Ja (a,x,b)->e::r=a++ .loc x::b:=λh=>by
   obtain⟨⟨Y,n,c⟩,p,w⟩:=Qt.mp h;cases w;exact Uj (e:: ·)<|i p
  replace h:splO Δ r ((HB Δ r).map λq=>(e::q.1,q.2)) (Ez e)=_:=h
  induction T:Ez e with
  |none=>rw[T] at h;exact t h
  |some y=>
   rw[T] at h;replace h:cond (ownD<|Δ.get y) _ _=_:=h;by_cases d:ownD (Δ.get y)=Jc
   .rw[d] at h;cases h;rw[j3 T];rfl
   .rw[Bool.not_eq_true] at d;rw[d] at h;exact t h
theorem q0{S:DZ}{Δ:CB}{fp:String->List Jg}{d:D}(i:Dd N S P Δ ρ Z fp)(ex:Δ.get x=Ja (d,Jc))(r:E2 Z fp Z' ds vs s):
  Hs x ds=Jc->C3 Z' (Fo ds) vs s/\owned (Fo ds) s=[]/\∀F∈s,Eb (fp x) F:=by
 induction r with
 |nil=>exact λo0=>⟨.nil,rfl,λF h=>(bS h)⟩
 |@cons X t v F ds vs s r p q h W=>
  intro j;obtain⟨k,u⟩:=Qi.mp (show(offT x t&&Hs x ds)=Jc from j);obtain⟨E,Y,H⟩:=W u;refine⟨.cons r (λe=>(ft e)) (λp U e=> ?_) E,Y,λI J=> ?_⟩
  .obtain⟨y,K⟩:=Ql.mp (KC U).1
   rcases e with e|e
   .exact ft e
   .rw[<-K.2] at e;exact ft e
  .cases J with
   |tail _ J=>exact H I J
   |head=>
    intro a T b;obtain⟨l,c⟩:=i.env.dom x a T
    induction t with
    |none=>have:=(p.own rfl).2 a b;exact sn<|c.symm.trans this
    |some σ=>
     rcases p.al σ rfl a b with w|⟨z,R,w⟩
     .exact sn<|c.symm.trans w
     .have n:z≠x:=by rintro rfl;simp[offT,mV,R] at k
      exact i.sep x d ex z n a T w
theorem C3.ext(C:C3 Z a v F)(x:Di Z Z'):C3 Z' a v F:=by
 induction C with
 |nil=>exact .nil
 |cons r n d h i=>exact .cons (r.ext x) n d i
theorem C3.app{a b:List (D×Bool)}(C:C3 Z a A O)(l:C3 Z b B I)(h:∀p∈a.zip O,∀q∈b.zip I,(p.1.2=Jc\/q.1.2=Jc)->Eb p.2 q.2):C3 Z (a++b) (A++B) (O++I):=by
 induction C with
 |nil=>exact l
 |@cons d c v F f w s r n j S i=>
  refine .cons r n (λp K e=> ?_) (i λp K q z=>h p (.tail _ K) q z);replace K:p∈(f++b).zip (s++I):=K;rw[List.zip_append (S.lens.2.symm)] at K
  rcases Qr.mp K with K|K
  .exact j p K e
  .exact h _ (.head _) p K e
theorem sH{a b:List (D×Bool)}{O I:List (List Jg)}(h:O.length=a.length):owned (a++b) (O++I)=owned a O++owned b I:=by
 induction a generalizing O with
 |nil=>induction O using List.casesOn with
  |nil=>rfl
  |cons=>cases h
 |cons p r i=>induction O using List.casesOn with
  |nil=>cases h
  |cons F s=>
   show(if p.2 then F else [])++owned (r++b) (s++I)=((if p.2 then F else [])++owned r s)++owned b I;rw[i (Nat.succ.inj h),Kt]
theorem Dd.back{S:DZ}{Δ:CB}{ρ:CH}{fp:String->List Jg}(i:Dd N S [] Δ ρ Z fp){d d':D}(e:Δ.get x=Ja (d,Jc))(X:ρ.get x=Ja v)(o:IoOK Z (fp x) Z' d' v F):
  Dd N S [] (Δ.put x (d',Jc)) ρ Z' (FE fp x F):=by
 obtain⟨j,c⟩:=i.move (d':= .hole) (A:=[]) (B:=[]) (F:=fp x) e X rfl (by rw[QH,Kv]);obtain⟨u,o0⟩:=j.called c (i.env.dom x) o.kept;have T:=u.put (x:=x) (b:=Jc) o.rd (λo0=>⟨⟨o.nd,λb h=>(o.own b h).elim i.new0 ((i.own x d e).2 b)⟩,λy W b h q=>by
   rw[cB W] at q
   rcases o.own b h with w|w
   .obtain⟨l,p⟩:=i.env.dom y b q;exact ns<|w.symm.trans p
   .exact i.sep x d e y W b w q⟩) (λy g W o0 b h q=>by
   rw[cB W] at h
   rcases o.own b q with w|w
   .obtain⟨l,p⟩:=i.env.dom y b h;exact ns<|w.symm.trans p
   .exact i.sep x d e y W b w h) (λb h=>(o.own b h).elim (λw=>i.newS b (i.new0 w)) (i.src x b)) (λb h=>(bS h)) (λw q=>by have:=i.pin x w q;obtain rfl:=sj (X.symm.trans this);rfl)
 rw[CB.put_put,CH.put_self _ X,mF] at T;exact T
theorem Ct{args:List E}{fp:String->List Jg}(i:Dd N P [] Δ ρ Z fp)(h:dio G (aR cv) f Δ (λL=>Q .next L) (HB Δ args))(q:QR N P Q Q'):
  ws G cv cu (.expr<|.call f args) ρ Z Q' X':=by
 induction s:HB Δ args with
 |none=>rw[s] at h;exact h.elim
 |some t=>
  obtain⟨a,x,b⟩:=t;rw[s] at h;rw[x9 s];refine⟨h.1,?_⟩;rw[qZ];refine dU a Δ ρ fp Z _ _ _ _ i.env h.2 (λu A T M h x1 V=> ?_) λo0 o0 o0 o0 o0 w o0=>w.elim;obtain⟨⟨d,o⟩,e,J,Y⟩:=eh h.2;cases J;obtain⟨v,W,o0⟩:=i.env.at_ x d Jc e;show oV _ (ρ.get x);rw[W];have S:=i.ext x1;refine dU b Δ ρ fp T _ _ _ _ S.env Y (λσ vb O I Y j rb=> ?_) λo0 o0 o0 o0 o0 w o0=>w.elim;have R:=S.ext j;obtain⟨v',n,r⟩:=R.env.at_ x d Jc e;obtain rfl:=sj<|W.symm.trans n;obtain⟨B,a2,C⟩:=q0 i e V h.1;obtain⟨b1,b2,b3⟩:=q0 S e rb Y.1;have ow:owned (Fo u++(d,Jc)::Fo σ) (M++fp x::I)=fp x:=by
   rw[sH B.lens.2,a2];show fp x++owned (Fo σ) I=fp x;rw[b2,QH]
  have ar:C3 O (Fo u++(d,Jc)::Fo σ) (A++v::vb) (M++fp x::I):=by
   refine(B.ext j).app (.cons r (λo0=>(i.own x d e).1) (λp K o0=>b3 _ (KC K).2) b1) λp K w H U=> ?_;cases H with
   |head=>exact λc g k=>C _ (KC K).2 c k g
   |tail _ H=>
    have X:∀ (l:List (D×Dc)),∀y∈Fo l,y.2=Jd:=λl y hy=>by
     obtain⟨z,o0,rfl⟩:=Ql.mp hy;rfl
    rw[X _ _ (KC K).1,X _ _ (KC H).1] at U
    rcases U with U|U<;>exact ft U
  refine Y.2 O _ _ _ _ v ar (by
   have:A.length=u.length:=by have:=B.lens.1;rwa [Qd] at this
   rw[<-this,WP (Qz _),Nat.sub_self];rfl) λd' aa F hq o=> ?_
  rw[ow] at o;exact q.next _ _ _ _ hq<|R.back e W o
theorem z0{args:List E}:EN G cv cu (.expr (.call f args)):=λN P Δ ρ fp Z Q X Q' X' i p h q s=>by
 rcases (show dio G (aR cv) f Δ (λH=>Q .next H) (HB Δ args)\/CY G (aR cv) (.call f args) Δ (λo0 o0=>Q .next Δ) (λc l=>X c l Δ) from h) with h|h
 .exact Ct i h q
 .exact br _ Δ ρ fp Z _ _ _ _ i.env h (λd t v T F h r=>q.next _ _ _ _ h<|i.ext r.ext) λo0 o0 o0 o0 o0 w x=>s.ext i w x
theorem yP(e:E):EN G cv cu (.expr e):=by
 induction e using E.casesOn with
 |meth o m args=>exact yN
 |call f args=>exact z0
 |_=>exact xj λo0 o0 o0=>rfl
theorem zj{P:DZ}{tg:Tg}{body:CB->bU->Prop}{body':CH->PH->DH->Prop}{chk:PH->Prop}
  (R:∀Δ ρ Z fp K K',Dd N P [] Δ ρ Z fp->body Δ K->QR N P K K'->body' ρ Z K')(σ:∀Z,Di N Z->chk Z)(q:QR N P Q Q')(s:∀a o,Z1 a=Ja o->o.fixed=Jc->N a=Ja o)(B:∀x∈tg.names,P.pin x=Jb):
  ∀ (xs:List D) (l:List PV) (Gx:List Jg) (Δ:CB) (ρ:CH) (Z:PH) (fp:String->List Jg),Dd N P [] Δ ρ Z fp->CJ Z1 xs l Gx->(∀a∈Gx,N a=Z1 a/\P a)->gX tg body Q xs Δ->Hc chk tg body' Q' l ρ Z:=by
 intro xs
 induction xs with
 |nil=>
  intro l Gx Δ ρ Z fp i r C h;obtain⟨rfl,o0⟩:=r;exact⟨σ Z i.kept,q.next _ _ _ _ h i⟩
 |cons d X E=>
  intro l Gx Δ ρ Z fp i V C h;obtain⟨p,U,F,u,L,j,f,M⟩:=V;subst L j;refine⟨σ Z i.kept,?_⟩;obtain⟨H,e,h⟩:=gx h;have v:∀a∈F,N a=Z1 a/\P a:=λa T=>C a (Qk _ T);have b:C5 Z d p F:=f.ag ⟨λa T=>by
    obtain⟨l,c⟩:=f.dom a T;rw[c];exact i.kept a _ ((v a T).1.trans c),λa o k n=>i.kept a o (s a o k n)⟩
  have away:∀y e,Δ.get y=Ja (e,Jc)->Eb (fp y) F:=λy e w a T W=>by
   obtain⟨l,c⟩:=f.dom a W;have:=(i.own y e w).2 a T;rw[(v a W).1,c] at this;exact sn this
  obtain⟨z,A,j,S⟩:=i.bindT b e (λR=>by rw[b.atom R];exact .nil) away (λa T=>(v a T).2) B;rw[j];exact R H z Z A _ _ S h<|q.fl λJ t O g Y I=>E U u J t O g I M (λa T=>C a<|Qe _ T) Y
theorem Bd(hb:Eo G cv cu b):EN G cv cu (.for_ tg k V b):=λN P Δ ρ fp Z Q X Q' X' i t h q O=>
 ⟨h.1,dU V Δ ρ fp Z _ _ _ _ i.env h.2 (λf vs T s h x r=>p7 r h λR l z Gx h M J g C=>⟨J,by
  have A:=(i.ext x).frz (EU f)
  let U:PH:=open Classical in λa=>if a∈s.flatten\/¬ (∃l:MO,T a=Ja l.1) then T a else N a
  have Y:∀a∈s.flatten,U a=T a:=λa H=>Ug<|.inl H;have I:∀a o,T a=Ja o->o.fixed=Jc->U a=Ja o:=λa o σ n=>(Ug (.inr λz'=>by obtain⟨l,e⟩:=z';obtain rfl:=sj<|σ.symm.trans e;exact ft<|l.2.symm.trans n)).trans σ;have u:Di N T:=i.kept.trans x;have L:Di N U:=λa o e=>by
   by_cases c:a∈s.flatten\/¬ (∃l:MO,T a=Ja l.1)
   .exact(Ug c).trans (u a o e)
   .exact(Uf c).trans e
  have n4:Di U T:=λa o e=>by
   by_cases c:a∈s.flatten\/¬ (∃l:MO,T a=Ja l.1)
   .exact(Ug c).symm.trans e
   .exact u a o<|(Uf c).symm.trans e
  have W:Dd U P [] (Δ.frz<|EU f) ρ T fp:=by
   refine(Dd.mk A.env A.sep (λy d e=>⟨(A.own y d e).1,λa H=> ?_⟩) A.src n4 (λa H=>(bS H)) (λa H=>i.newS a<|L.new H) A.pin:Dd U P [] (Δ.frz<|EU f) ρ T fp);have hn:=(A.own y d e).2 a H;have:¬ (a∈s.flatten\/¬ (∃l:MO,T a=Ja l.1)):=by
    rintro (c|c)
    .exact i.away r.part e a H c
    .exact c<|A.env.dom y a H
   exact(Uf this).trans hn
  have fin:=zj (N:=U) (P:=P) (tg:=tg) (chk:=z) (Q:=Q) (Q':=Q') (Z1:=T) (body:=λΔ K=>CQ G (aR cv) (aR cu) b Δ K λo0 o0 o0=>False) (body':=λρ Z K=>E8 G cv cu b ρ Z K λo0 o0 o0=>False)
   (λΔ ρ Z fp K D i h q=>hb U P Δ ρ fp Z K _ D _ i (t.imp λx e=>(Qi.mp (show(!tg.names.contains x&&S.noass x b)=Jc from e)).2) h q λo0 o0 o0 o0 o0 o0 o0 o0 w o0 o0 o0=>w) (λp k=>C p λa H=>by
    obtain⟨l,j⟩:=r.rds.dom a H;rw[j];exact k a _ ((Y a H).trans j))
   ⟨λΔ ρ Z fp w i=>q.next _ _ _ _ w<|i.less L A.newS,λd b Δ v ρ Z F w r=>q.ret _ _ _ _ _ _ _ w<|r.less L⟩ I (λy B=>t.off (show(!tg.names.contains y&&S.noass y b)=Jd by simp[B])) R l Gx (Δ.frz<|EU f) ρ T fp W M (λa H=>⟨Y a<|g a H,?_⟩) h
  .exact fin
  .exact i.srcP r.part a (g a H)⟩) λo0 o0 o0 o0 o0 w x=>O.ext i w x⟩
theorem oY{P:DZ}(U:Eo G.un cu cu h){Δ:CB}{ρ:CH}{fp:String->List Jg}{ws:List PV}(i:Dd N P [] Δ ρ Z fp)(r:CJ Z ds ws F)(m:F3 N [] fp F)(n:∀x,P.pin x=Jb)(q:QR N P Q Q')
  (w:CQ G.un (aR cu) (aR cu) h (Δ.put x (.exc c ds,Jc)) (GH Q) λo0 o0 o0=>False):
  lb ⟨c,ws⟩ Z λv O=>E8 G.un cu cu h (ρ.put x v) O (λfl J O=>Q' fl J.wipe O) λo0 o0 o0=>False:=λa T=>by
 have fin:∀O d l,Di Z O->ExcF O a c d l->CJ Z ds l F->E8 G.un cu cu h (ρ.put x<|.ref a) O (λfl J O=>Q' fl J.wipe O) λo0 o0 o0=>False:=λO d l k σ r=>by
  have u:=(i.ext k).put (x:=x) (d:= .exc c ds) (b:=Jc) (v:= .ref a) (F:=F) ⟨a,d,l,rfl,σ,r.ext k⟩ (λo0=>⟨⟨m.nd,m.own⟩,λy o0 b R=>m.out b R y⟩) (λy e o0 o0 b R f=>m.out b f y R) (λb R=>i.newS b<|m.own b R) (λa h=>(bS h)) λw e=>by rw[n] at e;exact ns e
  exact U N P _ _ _ _ _ _ _ _ u (λx v e=>by rw[n] at e;exact ns e) w ⟨λo0 o0 o0 o0 w o0=>w.elim,λd b Δ v ρ Z F w r=>q.ret _ _ _ _ _ _ F w r⟩ λo0 o0 o0 o0 o0 o0 o0 o0 w o0 o0 o0=>w
 induction ws using List.casesOn with
 |nil=>exact fin (Z.set a<|.exc c Jb) a [] (Di.set T _) (.inr ⟨PH.set_same _ _ _,rfl⟩) r
 |cons g s=>
  intro d W H;have X:(Z.set d<|.fd c (g::s)) a=Jb:=(PH.set_ne _ _<|Ne.symm H).trans T;exact fin _ d (g::s) ((Di.set W _).trans (Di.set X _)) (.inl ⟨PH.set_same _ _ _,(PH.set_ne _ _ H).trans (PH.set_same _ _ _)⟩) r
theorem yS(R:Eo G cv cu b)(U:Eo G.un cu cu h)(L:Eo G.un cu cu Y):EN G cv cu (.try2 b c x h σ Y):=λN P Δ ρ fp Z Q X Q' X' i p w q O=>
 ⟨w.1,R N P Δ ρ fp Z Q _ Q' _ i (λx v e=>by exact ns ((p.off rfl).symm.trans e)) w.2 q λe l ws u j T f F w A r m=>by
  show cond (G.sub e c) _ (cond (G.sub e σ) _ _)
  induction E:G.sub e c with
  |true=>rw[E] at w;exact oY U A r m (λx=>p.off rfl) q w
  |false=>
   rw[E] at w
   induction s:G.sub e σ with
   |true=>rw[s] at w;exact oY L A r m (λx=>p.off rfl) q w
   |false=>rw[s] at w;exact w.elim⟩
theorem yv{tst:CB->(Bool->Prop)->Prop}{body:CB->bU->Prop}{t:CH->PH->(Bool->PH->Prop)->Prop}{body':CH->PH->DH->Prop}
  (W:∀Δ ρ Z fp (K:Bool->Prop) (K':Bool->PH->Prop),Dd N P [] Δ ρ Z fp->tst Δ K->(∀b Z',K b->Di Z Z'->K' b Z')->t ρ Z K')
  (R:∀Δ ρ Z fp K K',Dd N P [] Δ ρ Z fp->body Δ K->QR N P K K'->body' ρ Z K')(q:QR N P Q Q'):∀ (k:Nat) (Δ:CB) (ρ:CH) (Z:PH) (fp:String->List Jg),Dd N P [] Δ ρ Z fp->FG tst body Q k Δ->HK t body' Q' k ρ Z
 |0=>λo0 o0 o0 o0 o0 h=>h.elim
 |k+1=>λΔ ρ Z fp i h=>W Δ ρ Z fp _ _ i h λb Z' w x=>by
  induction b with
  |false=>exact q.next _ _ _ _ w<|i.ext x
  |true=>exact R Δ ρ Z' fp _ _ (i.ext x) w<|q.fl λJ D O f p u=>yv W R q k J D O f u p
theorem xg(R:Eo G cv cu b):EN G cv cu (.while_ t b):=λN P Δ ρ fp Z Q X Q' X' i p h q s=>by
 obtain⟨Y,k,h⟩:=(show G.calm=Jc/\∃k,FG (λΔ K=>CY G (aR cv) t Δ (λv o0=>DO K v) λc l=>X c l Δ) (λΔ K=>CQ G (aR cv) (aR cu) b Δ K X) Q k Δ from h)
 refine⟨Y,k,yv (λΔ ρ Z fp K W i h n=> ?_) (λΔ ρ Z fp K W i h q=>R N P Δ ρ fp Z K X W X' i (p.imp λx e=>e) h q s) q k Δ ρ Z fp i h⟩;exact br t Δ ρ fp Z _ _ _ _ i.env h (λd g v T F h r=>by
  obtain⟨c,rfl,h⟩:=eX h;rw[r.rd.1];exact n _ _ h r.ext) λo0 o0 o0 o0 o0 w x=>s.ext i w x
end
mutual
theorem yV:∀ (s:S) (G:Gx) (cv cu:Cl),EN G cv cu s
 | .assign (.name _) _=>λo0 o0 o0=>AL
 | .assign (.tup _) _=>λo0 o0 o0=>Bi
 | .setIdx _ _ _=>λo0 o0 o0=>Bc
 | .expr e=>λo0 o0 o0=>yP e
 | .ret _=>λo0 o0 o0=>Bx
 | .if_ _ b o=>λG cv cu=>Cy (fk b G cv cu)<|fk o G cv cu
 | .for_ _ _ _ b=>λG cv cu=>Bd<|fk b G cv cu
 | .while_ _ b=>λG cv cu=>xg<|fk b G cv cu
 | .raise _ _=>λo0 o0 o0=>xe
 | .try2 b _ _ h _ p=>λG cv cu=>yS (fk b G cv cu) (fk h G.un cu cu)<|fk p G.un cu cu
theorem fk:∀ (s:List S) (G:Gx) (cv cu:Cl),Eo G cv cu s
 |[]=>λo0 o0 o0=>z7
 |s::r=>λG cv cu=>wz (yV s G cv cu)<|fk r G cv cu
end
noncomputable def Du(ps l:List String)(args:List (D×Bool)):CB:=ps.zip (args.map Ja)++l.map λx=>(x,Jb)
noncomputable def fpz:List String->List (List Jg)->String->List Jg
 |x::P,F::s,y=>if y=x then F else fpz P s y
 |_,_,_=>[]
theorem pM(x:String):∀l:List String,CB.get (l.map λx=>(x,Jb)) x=Jb
 |[]=>rfl
 |y::r=>by
  by_cases h:y=x
  .simp[CB.get_if,h]
  .simp only[Qo,CB.get_if,h,if_false];exact pM x r
structure Ent(Z:PH)(args:List (D×Bool))(Fs:List (List Jg))(Δ:CB)(ρ:CH)(fp:String->List Jg):Prop where
 env:DD Z Δ ρ fp
 at_:∀x d b,Δ.get x=Ja (d,b)->∃p∈args.zip Fs,p.1=(d,b)/\p.2=fp x
 any:∀x,∀a∈fp x,∃p∈args.zip Fs,a∈p.2
 sep:∀x d,Δ.get x=Ja (d,Jc)->∀y,y≠x->Eb (fp x) (fp y)
theorem ent(l:List String):∀ (ps:List String) (args:List (D×Bool)) (vs:List PV) (s:List (List Jg)),ps.length=args.length->C3 Z args vs s->Ent Z args s (Du ps l args) (ps.zip (vs.map Ja)++l.map λx=>(x,Jb)) (fpz ps s)
 |[]=>λargs vs s H i=>by
  cases i with
  |cons=>cases H
  |nil=>
   have S:∀x q,CB.get (Du [] l []) x≠Ja q:=λx q e=>by
    rw[show CB.get (Du [] l []) x=Jb from pM x l] at e;exact ns e
   refine⟨⟨λx d b e=>absurd e<|S x _,λx a T=>(bS T),?_⟩,λx d b e=>absurd e<|S x _,λx a T=>(bS T),λx d e=>absurd e<|S x _⟩;simp only[Du,List.zip_nil_left,Kv,QE];rfl
 |x::ps=>λargs vs s H i=>by
  cases i with
  |nil=>cases H
  |@cons d b v F E vs s r nd j h=>
   have e:=ent l ps E vs s (Nat.succ.inj H) h;have g:CB.get (Du (x::ps) l ((d,b)::E)) x=Ja (d,b):=by simp[Du,CB.get_if]
   have S:∀y,y≠x->CB.get (Du (x::ps) l ((d,b)::E)) y=CB.get (Du ps l E) y:=λy W=>by
    show CB.get ((x,Ja (d,b))::Du ps l E) y=_;rw[CB.get_if,Uf λq=>W q.symm]
   have K:fpz (x::ps) (F::s) x=F:=Ug rfl;have f:∀y,y≠x->fpz (x::ps) (F::s) y=fpz ps s y:=λy W=>Uf W;refine⟨⟨λy X G q=> ?_,λy a T=> ?_,?_⟩,λy X G q=> ?_,λy a T=> ?_,λy X q z A a T R=> ?_⟩
   .by_cases W:y=x
    .subst W;rw[g] at q;cases q;rw[K];exact⟨v,by simp[CH.get_c],r⟩
    .rw[S y W] at q;rw[f y W];obtain⟨w,N,Y⟩:=e.env.at_ y X G q;refine⟨w,?_,Y⟩;show(if x=y then Ja v else _)=_;rw[Uf λq=>W q.symm];exact N
   .by_cases W:y=x
    .subst W;rw[K] at T;exact r.dom a T
    .rw[f y W] at T;exact e.env.dom y a T
   .have:=e.env.keys;simp only[Du,Qo,Wt,List.cons_append] at this ⊢;exact Uj _ this
   .by_cases W:y=x
    .subst W;rw[g] at q;cases q;exact⟨((d,b),F),.head _,rfl,K.symm⟩
    .rw[S y W] at q;obtain⟨p,N,Y,J⟩:=e.at_ y X G q;exact⟨p,.tail _ N,Y,J.trans (f y W).symm⟩
   .by_cases W:y=x
    .subst W;rw[K] at T;exact⟨((d,b),F),.head _,T⟩
    .rw[f y W] at T;obtain⟨p,N,Y⟩:=e.any y a T;exact⟨p,.tail _ N,Y⟩
   .by_cases W:y=x
    .subst W;rw[g] at q;cases q;rw[K] at T;rw[f z A] at R;obtain⟨p,N,Y⟩:=e.any z a R;exact j p N (.inl rfl) a T Y
    .rw[S y W] at q;rw[f y W] at T;by_cases c:z=x
     .subst c;rw[K] at R;obtain⟨p,N,Y,J⟩:=e.at_ y X Jc q;exact j p N (.inr<|by rw[Y]) a R<|by rw[J];exact T
     .rw[f z c] at R;exact e.sep y X q z A a T R
theorem l9:∀ (args:List (D×Bool)) (s:List (List Jg)) (a:Jg),(∃p∈args.zip s,p.1.2=Jc/\a∈p.2)->a∈owned args s
 |[],_=>λa r=>by obtain⟨p,h,o0⟩:=r;cases h
 |_::_,[]=>λa r=>by obtain⟨p,h,o0⟩:=r;cases h
 |(d,b)::f,F::s=>λa r=>by
  obtain⟨p,h,N,Y⟩:=r;cases h with
  |head=>cases N;exact Qk _ Y
  |tail _ h=>exact Qe _<|l9 f s a ⟨p,h,N,Y⟩
theorem C3.nd{args:List (D×Bool)}(h:C3 Z args vs F):∀p∈args.zip F,p.1.2=Jc->p.2.Nodup:=by
 induction h with
 |nil=>intro p K;cases K
 |cons r nd d h i=>
  intro p K e;cases K with
  |head=>exact nd e
  |tail _ K=>exact i p K e
noncomputable def keep(Z:PH)(O:List Jg):PH:=λa=>if a∈O then Jb else Z a
theorem ji(h:keep Z O a=Jb):Z a=Jb\/a∈O:=by
 by_cases q:a∈O
 .exact .inr q
 .exact .inl<|(Uf q).symm.trans h
theorem jA(x:Di (keep Z O) Z'):jp O Z Z':=λa o e h=>x a o<|(Uf h).trans e
theorem qo:∀ (args:List (D×Bool)) (s:List (List Jg)),∀a∈owned args s,a∈s.flatten:=λargs=>by
 induction args with
 |nil=>intro s a h;cases h
 |cons p r i=>
  intro s a h
  induction s using List.casesOn with
  |nil=>cases h
  |cons F s=>
   rcases Qr.mp (show a∈(if p.2 then F else [])++owned r s from h) with q|q
   .induction K:p.2 with
    |true=>rw[K] at q;exact Qk _ q
    |false=>rw[K] at q;cases q
   .exact Qe _<|i s a q
theorem inv0{ps:List String}(l:List String){args:List (D×Bool)}{vs:List PV}{F:List (List Jg)}(H:ps.length=args.length)(r:C3 Z args vs F)(i:String->Option PV)
  (K:∀x v,i x=Ja v->CH.get (ps.zip (vs.map Ja)++l.map λx=>(x,Jb)) x=Ja v):
  Dd (keep Z<|owned args F) ⟨λa=>Z a=Jb\/a∈F.flatten,i⟩ [] (Du ps l args) (ps.zip (vs.map Ja)++l.map λx=>(x,Jb)) Z (fpz ps F):=by
 have e:=ent l ps args vs F H r;refine⟨e.env,e.sep,λx d q=> ?_,λx a T=> ?_,λa o h=> ?_,λa T=>(bS T),λa h=>(ji h).imp_right (qo args F a),K⟩
 .obtain⟨p,N,Y,J⟩:=e.at_ x d Jc q;rw[<-J];exact⟨r.nd p N<|by rw[Y],λa T=>Ug<|l9 _ _ a ⟨p,N,by rw[Y],T⟩⟩
 .obtain⟨p,N,Y⟩:=e.any x a T;exact .inr<|List.mem_flatten.mpr ⟨p.2,(KC N).2,Y⟩
 .by_cases q:a∈owned args F
  .rw[keep,Ug q] at h;exact ns h
  .rw[keep,Uf q] at h;exact h
abbrev Runs(G:Gx)(J c w:Cl)(f:String)(ps l:List String)(b:List S):Prop:=
 ∀ (t:PH) (s:List PV) (Q:C9) (H:Dl),s.length=ps.length->E8 G J c b (ps.zip (s.map Ja)++l.map λx=>(x,Jb)) t (λfl o0 X=>match fl with
   | .next=>Q .none X
   | .ret v=>Q v X) (λx o0 X=>H x X)->w f s t Q H
noncomputable def dend(Q:D->Bool->Prop):bU:=λfl o0=>match fl with
 | .next=>Q .none Jc
 | .ret d b=>Q d b
theorem Au{ps s:List String}{args:List (D×Bool)}{Q:D->Bool->Prop}(M:ps.length=args.length)
  (w:CQ G (aR J) (aR u) b (Du ps s args) (dend Q) λc l o0=>X c l)(n:Runs G J u W f ps s b):aR W f args Q X:=λt I Y P O U k N=>by
 have i:=inv0 s M U (λo0=>Jb) λo0 o0 q=>(ns q)
 refine n t I P O (U.lens.1.trans M.symm)<|fk b G J u _ _ _ _ _ t _ _ _ _ i (λx v q=>(ns q)) w ⟨λK L T p h j=> ?_,λd b K v L T F h r=> ?_⟩ λc z ws K L T p F h j r m=>N c z ws T F h ⟨r,jA j.kept,m.nd,λa H=>ji<|m.own a H⟩
 .exact k _ _ _ _ [] h ⟨⟨rfl,rfl⟩,jA j.kept,λo0=>⟨.nil,λa h=>(bS h)⟩,λa h=>(bS h)⟩
 .exact k _ _ _ _ F h ⟨r.rd,jA r.kept,λe=>⟨(r.own e).1,λa H=>ji<|(r.own e).2 a H⟩,r.src⟩
def dendI(x:String)(Q:D->Prop):bU:=λfl L=>match fl with
 | .next=>Et (λp=>p.2=Jc/\Q p.1) (L.get x)
 | .ret _ _=>False
theorem vX:∀ (ps:List String) (vs:List PV) (i:Nat),ps.Nodup->ps[i]? =Ja x->vs[i]? =Ja v->CH.get (ps.zip (vs.map Ja)++r) x=Ja v
 |p::ps,[],i,_,_,h=>by exact ns h
 |p::ps,w::vs,0,_,N,Y=>by obtain rfl:=sj N;obtain rfl:=sj Y;simp[CH.get_c]
 |p::ps,w::vs,i+1,o,N,Y=>by
  have n:p≠x:=by
   rintro rfl;exact(Qy.mp o).1 (QC (show ps[i]? =Ja p from N))
  show(if p=x then Ja w else _)=_;rw[Uf n];exact vX ps vs i (Qy.mp o).2 N Y
theorem wf{ps l:List String}{args:List (D×Bool)}{Q:D->Prop}(H:ps.length=args.length)(I:ps.Nodup)(hx:ps[i]? =Ja x)(T:S.noass x b=Jc)
  (w:CQ G (aR J) (aR c) b (Du ps l args) (dendI x Q) λo0 o0 o0=>False)(K:Runs G J c m f ps l b):(aR m).io f i args Q:=λt s j M O v U Y k=>by
 have B:=inv0 l H U (λy=>if y=x then Ja v else Jb) λy u q=>by
  by_cases W:y=x
  .obtain rfl:=sj<|(Ug W).symm.trans q;subst W;exact vX ps s i I hx Y
  .exact ns<|(Uf W).symm.trans q
 refine K t s M O (U.lens.1.trans H.symm)<|fk b G J c _ _ _ _ _ t _ _ _ _ B (λy u q=> ?_) w ⟨λL A X σ h n=> ?_,λd b L v A X F h r=>h.elim⟩ λo0 o0 o0 o0 o0 o0 o0 o0 h o0 o0 o0=>h.elim
 .by_cases W:y=x
  .subst W;exact T
  .replace q:(if y=x then Ja v else Jb)=Ja u:=q;exact ns<|(Uf W).symm.trans q
 .obtain⟨⟨d,o⟩,e,g,z⟩:=eh (show Et (λp=>p.2=Jc/\Q p.1) (L.get x) from h);cases g;obtain⟨u,R,r⟩:=n.env.at_ x d Jc e;have:=n.pin x v<|if_pos rfl;obtain rfl:=sj<|R.symm.trans this;exact k d X _ z ⟨r,(n.own x d e).1,λa T=>ji<|(n.own x d e).2 a T,jA n.kept⟩
section
variable{G:Gx}{cl cu:E3}{Δ:CB}{X:DX}
section
variable{Q:DQ}
theorem fq:CY G cl (.none) Δ Q X=(Q .none Jb):=rfl
theorem c4(b):CY G cl (.bool b) Δ Q X=(Q (.bool b) Jb):=rfl
theorem aM(i):CY G cl (.int i) Δ Q X=(Q (.int i) Jb):=rfl
theorem eK(s):CY G cl (.str s) Δ Q X=(Q (.str s) Jb):=rfl
theorem aD(x):CY G cl (.loc x) Δ Q X=(Et (λp=>Q p.1 (tg0 p.1 (Ja [x]))) (Δ.get x)):=rfl
theorem ct(x):CY G cl (.glob x) Δ Q X=(F8 Q (G.glob x)):=rfl
theorem bp(op a b):CY G cl (.bin op a b) Δ Q X=(CY G cl a Δ (λv t=>CY G cl b Δ (λq l=>FX op v q t l Q) X) X):=rfl
theorem bO(a):CY G cl (.not_ a) Δ Q X=(CY G cl a Δ (λv o0=>DO (λb=>Q (.bool !b) Jb) v) X):=rfl
theorem cp(a b):CY G cl (.and_ a b) Δ Q X=(CY G cl a Δ (λv o0=>DO (λc=>cond c (CY G cl b Δ Q X) (Q (.bool Jd) Jb)) v) X):=rfl
theorem cy(a b):CY G cl (.or_ a b) Δ Q X=(CY G cl a Δ (λv o0=>DO (λc=>cond c (Q (.bool Jc) Jb) (CY G cl b Δ Q X)) v) X):=rfl
theorem dK(a):CY G cl (.isNone a) Δ Q X=(CY G cl a Δ (λv o0=>i7 v=Jd/\Q (.bool v.isNone) Jb) X):=rfl
theorem dG(a):CY G cl (.notNone a) Δ Q X=(CY G cl a Δ (λv o0=>i7 v=Jd/\Q (.bool !v.isNone) Jb) X):=rfl
theorem aW(op a b):CY G cl (.cmp op a b) Δ Q X=(CY G cl a Δ (λv o0=>CY G cl b Δ (λq o0=>EM op v q λr=>Q (.bool r) Jb) X) X):=rfl
theorem ir(a o1 b o2 c):CY G cl (.cmp2 a o1 b o2 c) Δ Q X=(CY G cl a Δ (λA o0=>CY G cl b Δ (λv o0=>EM o1 A v λr=>cond r (CY G cl c Δ (λj o0=>EM o2 v j λr=>Q (.bool r) Jb) X) (Q (.bool Jd) Jb)) X) X):=rfl
theorem bG(l):CY G cl (.tup l) Δ Q X=(Dx G cl l Δ (λvs=>C2 (CE vs) (EU vs) Q) X):=rfl
theorem bE(l):CY G cl (.list l) Δ Q X=(Dx G cl l Δ (λvs=>C8 (CE vs) (EU vs) Q) X):=rfl
theorem aQ(a i):CY G cl (.sub a i) Δ Q X=(CY G cl a Δ (λA t=>CY G cl i Δ (λC o0=>FL (λv=>Q v (tg0 v t)) (C4 A C)) X) X):=rfl
theorem aP(f args):CY G cl (.call f args) Δ Q X=(G.fn f=Jc/\Dx G cl args Δ (λvs=>cl f (CD vs) (λd b=>Q d (tg0 d (cond b Jb (tj (Ja []) (EU vs))))) X) X):=rfl
theorem bj(b args):CY G cl (.bi b args) Δ Q X=(G.calm=Jc/\Dx G cl args Δ (λvs=>Hw b vs Q) X):=rfl
theorem cZ(a ts):CY G cl (.isi a ts) Δ Q X=(stat ts=Jc/\CY G cl a Δ (λv o0=>oB (λb=>Q (.bool b) Jb) (FK G v ts)) X):=rfl
theorem qW(x ts):CY G cl (.isx x ts) Δ Q X=(Et (λp=>dXc (λc=>ts.all G.isCls=Jc/\Q (.bool (ts.any (G.sub c))) Jb) p.1) (Δ.get x)):=rfl
theorem rz(ix a):CY G cl (.cnt ix a) Δ Q X=(CY G cl a Δ (λv o0=>DS (λl=>oBs (λbs=>Hn ix bs λi=>Q (.int i) Jb) (hS l)) v) X):=rfl
theorem iW:CY G cl (.dict0) Δ Q X=(G.full=Jc/\Q (.dict [] []) Jb):=rfl
theorem wT(a k):CY G cl (.get a k) Δ Q X=(CY G cl a Δ (λv t=>GX (λks l=>CY G cl k Δ (λI o0=>oK (λk=>dget t Q (DE ks l k)) (DC I)) X) v) X):=rfl
theorem eI(x f):CY G cl (.attr x f) Δ Q X=(Et (λp=>FL (λd=>Q d (tg0 d (Ja [x]))) (Fr G f p.1)) (Δ.get x)):=rfl
theorem b7(c f o args):CY G cl (.mcall c f o args) Δ Q X=(G.fn f=Jc/\CY G cl o Δ (λr t=>dIns c r/\Dx G cl args Δ (λvs=>cl f (CD ((r,t)::vs)) (λd b=>Q d (tg0 d (cond b Jb (tj (Ja []) (EU ((r,t)::vs)))))) X) X) X):=rfl
end
section
variable{Q:List (D×Dc)->Prop}
theorem aE:Dx G cl [] Δ Q X=(Q []):=rfl
theorem aC(e es):Dx G cl (e::es) Δ Q X=(CY G cl e Δ (λv t=>Dx G cl es Δ (λvs=>Q ((v,t)::vs)) X) X):=rfl
end
end
section
variable{G:Gx}{cl cu:E3}{Δ:CB}{Q:bU}{X:Gq}
end
section
variable{G:Gx}{cl cu:E3}{Δ:CB}{Q:bU}{X:Gq}{r:List S}
theorem bq(h:CY G cl e Δ (λd t=>CQ G cl cu r ((Δ.frz t).put x (d,t.isNone)) Q X) λc l=>X c l Δ):CQ G cl cu (.assign (.name x) e::r) Δ Q X:=h
theorem c9(C:G.calm=Jc)(h:CY G cl e Δ (λd t=>FQ (λP=>CQ G cl cu r P Q X) (eY (.tup xs) d t.isNone (Δ.frz t))) λc l=>X c l Δ):CQ G cl cu (.assign (.tup xs) e::r) Δ Q X:=⟨C,h⟩
theorem cb(h:CY G cl t Δ (λv o0=>DO (λc=>cond c (CQ G cl cu b Δ (DU (λi=>CQ G cl cu r i Q X) Q) X) (CQ G cl cu o Δ (DU (λi=>CQ G cl cu r i Q X) Q) X)) v) λc l=>X c l Δ):CQ G cl cu (.if_ t b o::r) Δ Q X:=h
theorem bI(h:CY G cl e Δ (λd t=>Q (.ret d t.isNone) Δ) λc l=>X c l Δ):CQ G cl cu (.ret e::r) Δ Q X:= .inr h
theorem cW(h:FW G cl e Δ λd P=>Q (.ret d Jc) P):CQ G cl cu (.ret e::r) Δ Q X:= .inl h
theorem uF(h:GI G cl e Δ (λP=>CQ G cl cu r P Q X) X):CQ G cl cu (.expr e::r) Δ Q X:=h
theorem l7(h:FW G cl e Δ (λd u=>FJ G cl o u (λx ps n=>CY G cl i u (λj o0=>Hd n j d λdn'=>dput u x ps dn' λP=>CQ G cl cu r P Q X) λo0 o0=>False) λo0 o0=>False)):CQ G cl cu (.setIdx o i e::r) Δ Q X:=h
theorem iO(C:G.calm=Jc)(k:Nat)(h:FG (λΔ K=>CY G cl t Δ (λv o0=>DO K v) λc l=>X c l Δ) (λΔ K=>CQ G cl cu b Δ K X) (DU (λi=>CQ G cl cu r i Q X) Q) k Δ):CQ G cl cu (.while_ t b::r) Δ Q X:=⟨C,k,h⟩
theorem d7(C:G.calm=Jc)(h:Dx G cl t Δ (λvs=>FH k (CE vs) λxs=>gX tg (λΔ K=>CQ G cl cu b Δ K λo0 o0 o0=>False) (DU (λi=>CQ G cl cu r i Q X) Q) xs (Δ.frz (EU vs))) λc l=>X c l Δ):
  CQ G cl cu (.for_ tg k t b::r) Δ Q X:=⟨C,h⟩
theorem ia{K:CB->Prop}(h:K Δ):DU K Q .next Δ:=h
end
theorem jU{L:Type}{el:CB->DQ->Prop}{K:List D->Dc->Prop}(g f:L->D)(h:L->Prop)(U:∀a,h a->∀K:DQ,K (f a) Jb->FQ (λP=>el P K) (bw tg (g a) Δ)):
  ∀ (l:List L) (c:List D),(∀a∈l,h a)->K (c++l.map f) Jb->DN tg Δ ts (λo0 K=>K Jc) el (l.map g) c Jb K
 |[]=>λc o0 k=>by rw[WH,QH] at k;exact k
 |a::l=>λc T k=>by
  obtain⟨P,e,w⟩:=gx (U a (T a (.head _)) (λd u=>DN tg Δ ts (λo0 K=>K Jc) el (l.map g) (c++[d]) (tj Jb (Hp tg.names ts u)) K)
   (jU g f h U l (c++[f a]) (λb R=>T b (.tail _ R)) (by rw[Kt];exact k)))
  show FQ _ (bw tg (g a) Δ);rw[e];exact w
theorem fE{L:Type}{tst:CB->(Bool->Prop)->Prop}{el:CB->DQ->Prop}{K:List D->Dc->Prop}(g f:L->D)(p:L->Bool)(h:L->Prop)
  (u:∀a,h a->FQ (λP=>(∀T:Bool->Prop,T (p a)->tst P T)/\(p a=Jc->∀K:DQ,K (f a) Jb->el P K)) (bw tg (g a) Δ)):
  ∀ (l:List L) (c:List D),(∀a∈l,h a)->K (c++(l.filter p).map f) Jb->DN tg Δ ts tst el (l.map g) c Jb K
 |[]=>λc o0 k=>by rw[List.filter_nil,WH,QH] at k;exact k
 |a::l=>λc H k=>by
  obtain⟨P,e,w,j⟩:=gx<|u a (H a<|.head _);show FQ _ (bw tg (g a) Δ);rw[e];refine w _ ?_
  induction U:p a with
  |true=>
   rw[Ke U] at k;exact j U _<|fE g f p h u l (c++[f a]) (λb R=>H b<|.tail _ R) (by rw[Kt];exact k)
  |false=>
   rw[Kf (by rw[U];exact QB)] at k;exact fE g f p h u l c (λb R=>H b<|.tail _ R) k
theorem n8{L:Type}{body:CB->bU->Prop}(g:L->D)(I:Nat->CB->Prop)(R:Nat->D->Bool->Prop):∀ (l:List L) (i:Nat) (Δ:CB),I i Δ->
  (∀ (j:Nat) (a:L) (Δ:CB),l[j]? =Ja a->I (i+j) Δ->∀K:bU,(∀P,I (i+j+1) P->K .next P)->(∀d b P,R (i+j) d b->K (.ret d b) P)->FQ (λP=>body P K) (eY tg (g a) (g a).atom Δ))->
  (∀P,I (i+l.length) P->Q .next P)->(∀j d b P,j<l.length->R (i+j) d b->Q (.ret d b) P)->gX tg body Q (l.map g) Δ
 |[]=>λi Δ U o0 q o0=>q Δ U
 |a::l=>λi Δ U h q σ=>by
  obtain⟨P,e,w⟩:=gx (h 0 a Δ rfl U (DU (λJ=>gX tg body Q (l.map g) J) Q) (λJ Y=>n8 g I R l (i+1) J Y (λj b Δ H p K N k=>by
    rw[QI] at p;exact h (j+1) b Δ H p K (λP z=>N P (by rw[QI i 1 j];exact z)) λd b P z=>k d b P (by rw[QI i 1 j];exact z))
   (λP z=>q P (by rw[KW,<-WQ,<-QI];exact z)) λj d b P H z=>σ (j+1) d b P (Yo H) (by rw[<-WQ,<-QI];exact z)) λd b P z=>σ 0 d b P (Yz _) z)
  show FQ _ (eY tg (g a) (g a).atom Δ);rw[e];exact w
theorem cX{L:Type}{body:CB->bU->Prop}(g:L->D)(I:Nat->CB->Prop)(l:List L)(Δ:CB)(i:I 0 Δ)
  (h:∀ (j:Nat) (a:L) (Δ:CB),l[j]? =Ja a->I j Δ->∀K:bU,(∀P,I (j+1) P->K .next P)->FQ (λP=>body P K) (eY tg (g a) (g a).atom Δ))(q:∀P,I l.length P->Q .next P):gX tg body Q (l.map g) Δ:=
 n8 g I (λo0 o0 o0=>False) l 0 Δ i (λj a Δ e p K k o0=>by rw[KR] at p k;exact h j a Δ e p K k) (λP z=>by rw[KR] at z;exact q P z) λo0 o0 o0 o0 o0 z=>z.elim
section
variable{Q:DQ}{K:Bool->Prop}{ta tb:Dc}
theorem d4(x y:Int):FX .add (.int x) (.int y) ta tb Q=Q (.int (x+y)) Jb:=rfl
theorem eA(x y:Int):FX .sub (.int x) (.int y) ta tb Q=Q (.int (x-y)) Jb:=rfl
theorem lM(x y:Int):FX .mul (.int x) (.int y) ta tb Q=((x.natAbs<2^64\/y.natAbs<2^64)/\Q (.int (x*y)) Jb):=rfl
theorem cY(x y:Int):FX .fdiv (.int x) (.int y) ta tb Q=(y≠0/\y.natAbs<1073741824/\Q (.int (x.fdiv y)) Jb):=rfl
theorem cm(x y:Int):FX .mod (.int x) (.int y) ta tb Q=(y≠0/\Q (.int (x.fmod y)) Jb):=rfl
theorem qk(x y:Int):FX (.pow ()) (.int x) (.int y) ta tb Q=(0<=y/\y<=1000/\x.natAbs<2^64/\Q (.int (x^y.toNat)) Jb):=rfl
theorem jB(x y:List D):FX .add (.list x) (.list y) ta tb Q=C8 (x++y) (tgl (x++y) (tj ta tb)) Q:=rfl
theorem rV(x y:Int):EM .lt (.int x) (.int y) K=K (decide (x<y)):=rfl
theorem ko(x y:Int):EM .le (.int x) (.int y) K=K (decide (x<=y)):=rfl
theorem kl(x y:Int):EM (.gt ()) (.int x) (.int y) K=K (decide (x>y)):=rfl
theorem ru(x y:Int):EM .ge (.int x) (.int y) K=K (decide (x>=y)):=rfl
theorem bR(x y:Int):D.eqv (.int x) (.int y)=decide (x=y):=rfl
theorem uu(x y:Bool):D.eqv (.bool x) (.bool y)=(x==y):=by rcases x with⟨⟩<;>rcases y with⟨⟩<;>rfl
theorem lO{n:Nat}{k:Int}(i:0<=k)(h:k<n):CO n k=Ja k.toNat:=by unfold CO;rw[Ug i,Ug h]
theorem e8(h:i<n):CO n (i:Int)=Ja i:=by rw[lO (by exact QU _) (by exact Kc.mpr h)];rfl
end
theorem fx{a b:Int}(h:0<b):0<=a.fmod b/\a.fmod b<b:=⟨Int.fmod_nonneg_of_pos a h,Int.fmod_lt_of_pos a h⟩
theorem cG{p:Prop}[Decidable p]{a b:Prop}(N:p->a)(Y:¬p->b):cond (decide p) a b:=by
 by_cases h:p
 .rw[Uc h];exact N h
 .rw[Ud h];exact Y h
theorem aY(p:String)(ps l:List String)(a:D×Bool)(as:List (D×Bool)):Du (p::ps) l (a::as)=Nb p a.2 a.1 (Du ps l as):=rfl
theorem b0(p:String)(l:List String):Du [] (p::l) []=No p Jb (Du [] l []):=rfl
theorem bo:Du [] [] []=[]:=rfl
theorem cP(x:String)(Δ:CB):ig (.name x) Δ=No ".0" Jb (No x Jb Δ):=rfl
theorem CA(x y:String)(Δ:CB):ig (.tup [x,y]) Δ=No ".0" Jb (No x Jb (No y Jb Δ)):=rfl
theorem aG{L u:Type}(f:L->u)(a:L)(l:List L):(a::l).map f=f a::l.map f:=rfl
theorem aI{L u:Type}(f:L->u):([]:List L).map f=[]:=rfl
theorem aT{L:Type}(a:L)(l:List L):(a::l).length=l.length+1:=rfl
theorem aV{L:Type}:([]:List L).length=0:=rfl
theorem em{L:Type}(a:L)(l m:List L):(a::l)++m=a::(l++m):=rfl
theorem bL{L:Type}(m:List L):[]++m=m:=rfl
theorem cV{L u:Type}(f:L->u):(Jb:Option L).map f=Jb:=rfl
theorem aS{L:Type}(a:L):(Ja a).isNone=Jd:=rfl
theorem aH{L:Type}:(Jb:Option L).isNone=Jc:=rfl
theorem aA{L:Sort u}(a b:L):cond Jc a b=a:=rfl
theorem aB{L:Sort u}(a b:L):cond Jd a b=b:=rfl
theorem cx:(!Jc)=Jd:=rfl
theorem lU:(!Jd)=Jc:=rfl
theorem cr(b:Bool):(Jc&&b)=b:=rfl
theorem bJ(b:Bool):(Jd&&b)=Jd:=rfl
theorem gb(b:Bool):(Jc||b)=Jc:=rfl
theorem f7(b:Bool):(Jd||b)=b:=rfl
theorem yb{l:List Int}{i:Int}(U:0<=i)(h:i<l.length):C4 (.scr l) (.int i)=Ja (.int (l[i.toNat]?.getD 0)):=by
 show((CO l.length i).bind λj=>l[j]?).map D.int=_;rw[lO U h];show(l[i.toNat]?).map D.int=_;rw[Qg (show i.toNat<l.length by exact(KV U).mpr h)];rfl
theorem gS{l:List Int}{i:Int}(U:0<=i)(h:i<l.length):C4 (.list (l.map .int)) (.int i)=Ja (.int (l[i.toNat]?.getD 0)):=by
 show((CO (l.map D.int).length i).bind λj=>(l.map D.int)[j]?)=_;rw[Qd,lO U h];show(l.map D.int)[i.toNat]? =_;rw[Qu,Qg (show i.toNat<l.length by exact(KV U).mpr h)];rfl
theorem jc{l:List D}{j:Nat}{v:D}(h:l[j]? =Ja v):C4 (.list l) (.int j)=Ja v:=by
 have H:j<l.length:=by
  rcases Nat.lt_or_ge j l.length with q|q
  .exact q
  .exact ns<|(KX q).symm.trans h
 show((CO l.length (j:Int)).bind λj=>l[j]?)=_;rw[e8 H];exact h
section
variable{G:Gx}
theorem yo(i:Int):FK G (.int i) ["int"]=Ja Jc:=rfl
theorem yr(i:Int):FK G (.int i) ["bool"]=Ja Jd:=rfl
theorem B9(i:Bool):FK G (.bool i) ["bool"]=Ja Jc:=rfl
theorem oU(l:List D):FK G (.list l) ["list"]=Ja Jc:=rfl
theorem lI(l:List D):FK G (.tup l) ["tuple"]=Ja Jc:=rfl
theorem BH(i:Bool):FK G (.bool i) ["int"]=Ja Jc:=rfl
end
theorem kI{p:Prop}[Decidable p]{a b:Prop}(N:p->b)(Y:¬p->a):cond (!decide p) a b:=by
 by_cases h:p
 .rw[Uc h];exact N h
 .rw[Ud h];exact Y h
theorem jx{a b:Prop}(h:c=Jc->a)(p:c=Jd->b):cond c a b:=by
 induction c with
 |true=>exact h rfl
 |false=>exact p rfl
theorem lQ{a b:Prop}(h:c=Jc->b)(p:c=Jd->a):cond (!c) a b:=by
 induction c with
 |true=>exact h rfl
 |false=>exact p rfl
theorem m8{G:Gx}{args:List E}(h:G.full=Jc/\G.calm=Jc/\(G.mks.contains c=Jc\/(G.inis.contains c=Jc/\args.length=(G.flds c).length)))
  (w:FV G cl args Δ (λds i=>X c (ds.take (G.flds c).length) i)):CQ G cl cu (.raise c args::r) Δ Q X:=⟨h,w⟩
section
variable{Q:DQ}{t ta tb:Dc}{Δ:CB}
theorem aK(K:D×Bool->Prop)(v:D×Bool):Et K (Ja v)=K v:=rfl
theorem cE(K:D->Prop)(v:D):FL K (Ja v)=K v:=rfl
theorem bK(K:CB->Prop)(v:CB):FQ K (Ja v)=K v:=rfl
theorem cQ(K:Nat->Prop)(v:Nat):EV K (Ja v)=K v:=rfl
theorem BJ(K:List Int->Prop)(v:List Int):Gy K (Ja v)=K v:=rfl
theorem i8(K:Bool->Prop)(v:Bool):oB K (Ja v)=K v:=rfl
theorem x5(K:Int->Prop)(x:Int):DY K (.int x)=K x:=rfl
theorem bv(K:Bool->Prop)(x:Bool):DO K (.bool x)=K x:=rfl
theorem dl(K:List D->Prop)(x:List D):DS K (.list x)=K x:=rfl
theorem cI(K:List D->Prop)(x:List D):dSeq K (.list x)=K x:=rfl
theorem b6(K:D->Dc->Prop)(d:D)(t:Dc):d1 K [(d,t)]=K d t:=rfl
theorem bX(args:List (D×Dc)):Hw .len args Q=d1 (λd o0=>EV (λn=>Q (.int n) Jb) (Hv d)) args:=rfl
theorem ik(args:List (D×Dc)):Hw .all args Q=d1 (λd o0=>DS (λl=>oBs (λbs=>Q (.bool (bs.all id)) Jb) (hS l)) d) args:=rfl
theorem gF(args:List (D×Dc)):Hw .sum args Q=d1 (λd o0=>DS (λl=>Gy (λis=>Q (.int is.sum) Jb) (DG l)) d) args:=rfl
theorem tK(args:List (D×Dc)):Hw .int args Q=d1 (λd o0=>DO (λx=>Q (.int (if x then 1 else 0)) Jb) d) args:=rfl
theorem fj(args:List (D×Dc)):Hw .list args Q=d1 (λd t=>He Q t d) args:=rfl
theorem sU(l:List D):He Q t (.list l)=Q (.list l) (tgl l t):=rfl
theorem BZ(ks:List (List KA))(l:List D):He Q t (.dict ks l)=((ks.length<=Dg/\∀k∈ks,k.length<=Dg)/\Q (.list (ks.map GB)) Jb):=rfl
theorem sz(args:List (D×Dc)):Hw .sorted args Q=d1 (λd o0=>DS (λl=>Gy (λis=>is.length<64/\∀j:List Int,j.Perm is->j.Pairwise (· <= ·)->Q (.list (j.map .int)) Jb) (DG l)) d) args:=rfl
theorem lT(a:D)(l:List D)(K:Bool->Prop):din a (.list l) K=((a.okd 40=Jc/\D.okds 40 l=Jc)/\K (l.any λd=>D.eqv d a)):=rfl
theorem te(a:D)(ks:List (List KA))(l:List D)(K:Bool->Prop):din a (.dict ks l) K=oK (λk=>K (C0 ks k).isSome) (DC a):=rfl
theorem xy(K:List (List KA)->List D->Prop)(ks:List (List KA))(l:List D):GX K (.dict ks l)=K ks l:=rfl
theorem ov(K:List KA->Prop)(k:List KA):oK K (Ja k)=K k:=rfl
theorem d5(ks:List (List KA))(l:List D):tg0 (.dict ks l) t=t:=rfl
theorem er(ks:List (List KA))(l:List D):D.atom (.dict ks l)=Jd:=rfl
theorem Co(d:D):dget t Q (Ja d)=Q d (tg0 d t):=rfl
theorem xS(l:List D)(i d:D)(K:D->Prop):Hd (.list l) i d K=DY (λk=>EV (λj=>K (.list (l.set j d))) (CO l.length k)) i:=rfl
theorem Cu(ks:List (List KA))(l:List D)(i d:D)(K:D->Prop):Hd (.dict ks l) i d K=(l.length<Dg/\oK (λk=>K (F7 ks l k d)) (DC i)):=rfl
theorem Cn:dget t Q Jb=Q (.list []) Jb:=rfl
theorem qQ(args:List (D×Dc)):Hw (.dict ()) args Q=d1 (λd o0=>GX (λks l=>(ks≠ []/\(∀k∈ks,ec k=Jc)/\D.atoms l=Jc)/\Q (.dict ks l) Jb) d) args:=rfl
theorem gM(c:String)(l:List D):tg0 (.inst c l) t=tgl l t:=rfl
theorem ny(c:String)(l:List D):D.atom (.inst c l)=D.atoms l:=rfl
theorem eT(c K:String)(l:List D):dIns c (.inst K l)=(K=c):=rfl
theorem tL(args:List (D×Dc)):Hw .max args Q=d1 (λv o0=>DS (λl=>Gy (λis=>is≠ []/\∀x∈is,Q (.int x) Jb) (DG l)) v) args:=rfl
theorem wm(x y:Int)(t u:Dc):Hw .max2 [(.int x,t),(.int y,u)] Q=∀z,x<=z->y<=z->Q (.int z) Jb:=rfl
theorem nQ(args:List (D×Dc)):Hw .min args Q=dMin Q args:=rfl
theorem BX(c:String)(l:List D):tg0 (.exc c l) t=tgl l t:=rfl
theorem BG(bs:List Bool)(K:Int->Prop):Hn Jd bs K=K (bs.count Jc:Nat):=rfl
theorem Ce(bs:List Bool)(K:Int->Prop):Hn Jc bs K=((Jc∈bs/\bs.length<=1000)/\K (bs.idxOf Jc:Nat)):=rfl
theorem Bg(c:String)(l:List D)(K:String->Prop):dXc K (.exc c l)=K c:=rfl
theorem fz(a b:D)(K:Bool->Prop):EM .nin a b K=din a b λr=>K (!r):=rfl
theorem cK(l:List D):Hv (.list l)=Ja l.length:=rfl
theorem ml(l:List D):Hv (.tup l)=Ja l.length:=rfl
theorem yq(l:List Int):Hv (.scr l)=Ja l.length:=rfl
theorem cM(a b:D)(K:Bool->Prop):EM .eq a b K=DP a b K:=rfl
theorem fw(a b:D)(K:Bool->Prop):EM .ne a b K=DP a b λr=>K (!r):=rfl
theorem ky(a b:D)(K:Bool->Prop):EM .in_ a b K=din a b K:=rfl
theorem BU(i:Int):F8 Q (Ja (.int i))=Q (.int i) Jb:=rfl
theorem cJ(v:D)(K:List D->Prop):FH .val [v] K=dSeq K v:=rfl
theorem Cj(a:List D)(K:List D->Prop):FH .enum [.list a] K=K (GG 0 a):=rfl
theorem h9(n:Int)(K:List D->Prop):FH .range [.int n] K=((-1000000<n/\n<=1000000)/\K ((Qc n.toNat).map λ(i:Nat)=> .int i)):=rfl
theorem bA:Δ.frz Jb=Δ:=rfl
theorem f8(y:String)(b:Bool)(v:D)(r:CB)(xs:List String):CB.frz (Nb y b v r) (Ja xs)=No y (cond (Gh xs y) (Ja (v,v.atom&&b)) (Ja (v,b))) (CB.frz r (Ja xs)):=rfl
theorem gN(y:String)(o:Option (D×Bool))(r:CB)(xs:List String):CB.frz (No y o r) (Ja xs)=No y (cond (Gh xs y) (o.map λq=>(q.1,q.1.atom&&q.2)) o) (CB.frz r (Ja xs)):=rfl
theorem gc(y:String)(b:Bool)(v:D)(r:CB):No y (Ja (v,b)) r=Nb y b v r:=rfl
theorem f6(xs:List String):CB.frz [] (Ja xs)=[]:=rfl
theorem bu(i:Int):tg0 (.int i) t=Jb:=rfl
theorem Cq:tg0 .none t=Jb:=rfl
theorem Cw(s:String):tg0 (.str s) t=Jb:=rfl
theorem f9(s:List Int):tg0 (.scr s) t=Jb:=rfl
theorem bk(l:List D):tg0 (.list l) t=t:=rfl
theorem bV(l:List D):tg0 (.tup l) t=tgl l t:=rfl
theorem bt:tj Jb t=t:=rfl
theorem bH(xs:List String):tj (Ja xs) Jb=Ja xs:=rfl
theorem ch(xs ys:List String):tj (Ja xs) (Ja ys)=Ja (xs++ys):=rfl
theorem aU:EU []=Jb:=rfl
theorem aX(p:D×Dc)(r:List (D×Dc)):EU (p::r)=tj p.2 (EU r):=rfl
theorem fO(x y:String)(u v:D)(b:Bool):eY (.tup [x,y]) (.tup [u,v]) b Δ=Ja ((Δ.put x (u,b)).put y (v,b)):=rfl
theorem sR(x y z:String)(u v w:D)(b:Bool):eY (.tup [x,y,z]) (.tup [u,v,w]) b Δ=Ja (((Δ.put x (u,b)).put y (v,b)).put z (w,b)):=rfl
theorem wL(v:D):dMin Q [(v,t)]=DS (λl=>Gy (λis=>is≠ []/\Q (.int (E5 is)) Jb) (DG l)) v:=rfl
theorem cj(x:String)(v:D)(b:Bool):eY (.name x) v b Δ=Ja (Δ.put x (v,b)):=rfl
theorem f0(x:String):Gh [] x=Jd:=rfl
theorem gf(y:String)(r:List String)(x:String):Gh (y::r) x=(y==x||Gh r x):=rfl
theorem bM(l:List D):D.atom (.list l)=Jd:=rfl
theorem cA(i:Int):D.atom (.int i)=Jc:=rfl
theorem Cf(i:Bool):D.atom (.bool i)=Jc:=rfl
theorem Cp(i:List Int):D.atom (.scr i)=Jc:=rfl
theorem B6:D.atom .none=Jc:=rfl
theorem sW(s:String):D.atom (.str s)=Jc:=rfl
theorem hU(l:List D):D.atom (.tup l)=D.atoms l:=rfl
theorem bD:D.atoms []=Jc:=rfl
theorem bC(d:D)(l:List D):D.atoms (d::l)=(d.atom&&D.atoms l):=rfl
theorem get_c(y:String)(v:Option (D×Bool))(r:CB)(x:String):CB.get ((y,v)::r) x=cond (y==x) v (CB.get r x):=rfl
theorem put_c(y:String)(o:Option (D×Bool))(r:CB)(x:String)(v:D×Bool):CB.put ((y,o)::r) x v=cond (y==x) ((y,Ja v)::r) ((y,o)::CB.put r x v):=rfl
theorem aF(y:String)(b:Bool)(v:D)(r:CB)(x:String):CB.get (Nb y b v r) x=cond (y==x) (Ja (v,b)) (CB.get r x):=rfl
theorem aJ(y:String)(o:Option (D×Bool))(r:CB)(x:String):CB.get (No y o r) x=cond (y==x) o (CB.get r x):=rfl
theorem aL(y:String)(b:Bool)(v:D)(r:CB)(x:String)(p:D×Bool):CB.put (Nb y b v r) x p=cond (y==x) (Nb y p.2 p.1 r) (Nb y b v (CB.put r x p)):=rfl
theorem aO(y:String)(o:Option (D×Bool))(r:CB)(x:String)(p:D×Bool):CB.put (No y o r) x p=cond (y==x) (Nb y p.2 p.1 r) (No y o (CB.put r x p)):=rfl
end
def D0(G:Gx)(cl:E3)(e:E):CB->DQ->Prop:=λP K=>CY G cl e P K λo0 o0=>False
def Ey(G:Gx)(cl:E3)(e:E):CB->(Bool->Prop)->Prop:=λP K=>CY G cl e P (λv o0=>DO K v) λo0 o0=>False
section
variable{G:Gx}{cl cu:E3}{Δ:CB}{Q:DQ}{X:DX}
theorem ca(c:G.calm=Jc)(h:Dx G cl i Δ (λvs=>FH k (CE vs) λxs=>DN tg Δ (EU vs) (λo0 K=>K Jc) (D0 G cl e) xs [] Jb λa t=>Q (.list a) t) X):CY G cl (.comp e tg k i) Δ Q X:=⟨c,h⟩
theorem cL(C:G.calm=Jc)(h:Dx G cl i Δ (λvs=>FH k (CE vs) λxs=>DN tg Δ (EU vs) (Ey G cl c) (D0 G cl e) xs [] Jb λa t=>Q (.list a) t) X):CY G cl (.compIf e tg k i c) Δ Q X:=⟨C,h⟩
variable{QM:D->CB->Prop}
theorem xX(x f):FW G cl (.attr x f) Δ QM=Et (λp=>p.2=Jc/\FL (λd=>QM d (Δ.put x (.hole,Jc))) (Fr G f p.1)) (Δ.get x):=rfl
theorem nY(o a b):FW G cl (.bin o a b) Δ QM=CY G cl (.bin o a b) Δ (λd t=>t=Jb/\QM d Δ) λo0 o0=>False:=rfl
theorem lE(a b c d):FW G cl (.comp a b c d) Δ QM=CY G cl (.comp a b c d) Δ (λd t=>t=Jb/\QM d Δ) λo0 o0=>False:=rfl
theorem dQ(l):FW G cl (.tup l) Δ QM=FV G cl l Δ (λds P=>ds.length<=Dg/\QM (.tup ds) P):=rfl
theorem cq(x):FW G cl (.loc x) Δ QM=Et (λp=>cond p.1.atom (QM p.1 Δ) (p.2=Jc/\QM p.1 (Δ.put x (.hole,Jc)))) (Δ.get x):=rfl
theorem pj(h:CY G cl (.call f l) Δ (λd t=>t=Jb/\QM d Δ) λo0 o0=>False):FW G cl (.call f l) Δ QM:=h
theorem c5{Q:List D->CB->Prop}:FV G cl [] Δ Q=Q [] Δ:=rfl
theorem cD{Q:List D->CB->Prop}(e es):FV G cl (e::es) Δ Q=FW G cl e Δ (λd i=>FV G cl es i (λds J=>Q (d::ds) J)):=rfl
theorem Ch{Q:bU}{X:Gq}{r:List S}{x:String}{e:E}(h:Et (λp=>DS (λo0=>True) p.1) (Δ.get x)/\FW G cl e Δ (λd i=>Et (λp=>p.2=Jc/\DS (λl=>((d.okd 40=Jc/\D.okds 40 l=Jc)/\D.atoms l=Jc)/\EV (λj=>CQ G cl cu r (i.put x (.list (l.eraseIdx j),Jc)) Q X) (l.findIdx? λy=>D.eqv y d)) p.1) (i.get x))):
  CQ G cl cu (.expr (.meth (.loc x) .remove [e])::r) Δ Q X:=h
theorem i6{Q:bU}{X:Gq}{r:List S}{x:String}{e:E}(h:Et (λp=>DS (λo0=>True) p.1) (Δ.get x)/\FW G cl e Δ (λd i=>Et (λp=>p.2=Jc/\DS (λl=>l.length<Dg/\CQ G cl cu r (i.put x (.list (l++[d]),Jc)) Q X) p.1) (i.get x))):
  CQ G cl cu (.expr (.meth (.loc x) .append [e])::r) Δ Q X:=h
end
theorem hZ(n:Nat):((n:Int)).toNat=n:=rfl
theorem eW{body:CB->bU->Prop}(I:Nat->CB->Prop)(U:I 0 Δ)(h:∀ (j:Nat) (Δ:CB),j<n->I j Δ->∀K:bU,(∀P,I (j+1) P->K .next P)->FQ (λP=>body P K) (eY tg (.int j) Jc Δ))
  (q:∀P,I n P->Q .next P):gX tg body Q ((Qc n).map λ(i:Nat)=> .int i) Δ:=
 cX (λ(i:Nat)=> .int i) I _ _ U (λj a Δ e H K k=>by
  obtain⟨N,p⟩:=QF.mp e;rw[QA] at N;rw[Wu] at p;subst p;exact h j Δ N H K k) (by rw[QA];exact q)
theorem c7{el:CB->DQ->Prop}{K:List D->Dc->Prop}(f:Nat->D)(U:∀i,i<n->∀K:DQ,K (f i) Jb->FQ (λP=>el P K) (bw tg (.int i) Δ))(k:K ((Qc n).map f) Jb):
  DN tg Δ ts (λo0 K=>K Jc) el ((Qc n).map λ(i:Nat)=> .int i) [] Jb K:=
 jU (λ(i:Nat)=> .int i) f (· <n) U _ [] (λa h=>Qf.mp h) k
theorem bN{L:Type}{l:List L}{el:CB->DQ->Prop}{K:List D->Dc->Prop}(g f:L->D)(h:∀a,a∈l->∀K:DQ,K (f a) Jb->FQ (λP=>el P K) (bw tg (g a) Δ))(k:K (l.map f) Jb):
  DN tg Δ ts (λo0 K=>K Jc) el (l.map g) [] Jb K:=jU g f (· ∈l) h l [] (λa T=>T) k
theorem il{L u:Type}(f:L->u)(l:List L)(a:L):l.map f++[f a]=(l++[a]).map f:=by rw[QD];rfl
theorem hW{L:Type}(f:Nat->L)(n:Nat):(Qc n).map f++[f n]=(Qc (n+1)).map f:=by rw[List.range_succ,QD];rfl
theorem eO(a b c:D):C4 (.tup [a,b,c]) (.int 0)=Ja a:=rfl
theorem j6(a b c:D):C4 (.tup [a,b,c]) (.int 1)=Ja b:=rfl
theorem jX(a b c:D):C4 (.tup [a,b,c]) (.int 2)=Ja c:=rfl
theorem d6(a b:D):C4 (.tup [a,b]) (.int 0)=Ja a:=rfl
theorem eN(a b:D):C4 (.tup [a,b]) (.int 1)=Ja b:=rfl
theorem aZ{K:D->Prop}(e:t=Ja v)(k:K v):FL K t:=by subst e;exact k
theorem fX{K:List Int->Prop}(e:t=Ja v)(k:K v):Gy K t:=by subst e;exact k
theorem jy{K:List Bool->Prop}(e:t=Ja v)(k:K v):oBs K t:=by subst e;exact k
noncomputable def dP(p:Nat×Nat):D:= .tup [.int p.1,.int p.2]
noncomputable abbrev dI(l:List Int):D:= .list (l.map .int)
abbrev dT(t:List (List Int)):D:= .list (t.map dI)
noncomputable def dO:Option Int->D
 |some i=> .int i
 |none=> .none
abbrev dR(r:List (Option Int)):D:= .list (r.map dO)
abbrev dC(c:List (List (Option Int))):D:= .list (c.map dR)
theorem xZ(l:List Int)(i:Int):dI (l++[i])= .list (l.map .int++[.int i]):=by
 show D.list (Kz _<|_++_)=_;rw[QD];rfl
theorem eH(l:List Int):DG (l.map .int)=Ja l:=by
 induction l with
 |nil=>rfl
 |cons a l i=>show(DG<|l.map .int).map (a:: ·)=_;rw[i];rfl
theorem eD{L:Type}(g:L->Int)(l:List L):DG (l.map λa=> .int (g a))=Ja (l.map g):=by
 rw[show(l.map λa=>D.int<|g a)=(l.map g).map .int from(QE).symm];exact eH _
theorem ew{L:Type}(g:L->Bool)(l:List L):hS (l.map λa=> .bool (g a))=Ja (l.map g):=by
 induction l with
 |nil=>rfl
 |cons a l i=>show(hS (l.map λa=> .bool (g a))).map (g a:: ·)=_;rw[i];rfl
theorem i9{L:Type}(g:L->Bool)(l:List L):(l.map g).all id=l.all g:=by rw[List.all_map];rfl
theorem c6{L:Type}(f:L->D)(h:∀a,(f a).atom=Jc)(l:List L):D.atoms (l.map f)=Jc:=by
 induction l with
 |nil=>rfl
 |cons a l i=>show((f a).atom&&D.atoms (l.map f))=Jc;rw[h a,i];rfl
theorem zL(m:Nat):D.okds m []=Jc:=rfl
theorem b8{L:Type}(f:L->D)(h:∀a,(f a).okd m=Jc)(l:List L):D.okds m (l.map f)=Jc:=by
 induction l with
 |nil=>exact zL m
 |cons a l i=>show(D.okd m (f a)&&D.okds m (l.map f))=Jc;rw[h a,i];rfl
theorem dA(p:Nat×Nat):(dP p).atom=Jc:=rfl
theorem wb(p:Option Int):(dO p).atom=Jc:=by rcases p with⟨⟩<;>rfl
theorem o8(i:Int):(D.int i).atom=Jc:=rfl
structure CI{α:Type}(t:List (List α))(h w:Nat):Prop where
 len:t.length=h
 row:∀r∈t,r.length=w
 h1:1<=h
 h8:h<=8
 w1:1<=w
 w8:w<=8
noncomputable def CK{L:Type}(t:List (List L))(i:Nat):List L:=t[i]?.getD []
def cell(t:List (List Int))(r c:Nat):Int:=(CK t r)[c]?.getD 0
theorem CI.at_{L:Type}{t:List (List L)}(R:CI t h w)(hi:i<h):t[i]? =Ja (CK t i)/\(CK t i).length=w:=by
 have:i<t.length:=by rw[R.len];exact hi
 rw[CK,Qg this];exact⟨rfl,R.row _<|Wj this⟩
theorem hA{t:List (List Int)}{h w:Nat}(R:CI t h w){i:Nat}(hi:i<h):C4 (dT t) (.int i)=Ja (dI (CK t i)):=jc<|by rw[Qu,(R.at_ hi).1];rfl
theorem iw(R:CI t h w):C4 (dT t) (.int 0)=Ja (dI (CK t 0)):=hA R (i:=0) R.h1
theorem CI.len0{t:List (List Int)}{h w:Nat}(R:CI t h w):((CK t 0).map D.int).length=w:=by rw[Qd];exact(R.at_ R.h1).2
theorem CI.lenD{t:List (List Int)}(R:CI t h w):(t.map dI).length=h:=by rw[Qd];exact R.len
theorem im{t:List (List Int)}{h w:Nat}(R:CI t h w){i c:Nat}(hi:i<h)(C:c<w):C4 (dI (CK t i)) (.int c)=Ja (.int (cell t i c)):=by
 rw[gS (by exact QU _) (by rw[(R.at_ hi).2];exact Kc.mpr C)];rfl
theorem gJ{r:List Int}(h:c<r.length):C4 (dI r) (.int c)=Ja (.int (r[c]?.getD 0)):=by
 rw[gS (by exact QU _) (by exact Kc.mpr h)];rfl
theorem dJ(h:k<=1000):k<=Dg:=Qq h<|by decide
theorem df(h:k<1000):k<Dg:=QJ h<|by decide
noncomputable def Eh:Nat->Nat->List (Nat×Nat)
 |0,_=>[]
 |h+1,w=>Eh h w++(Qc w).map λc=>(h,c)
theorem nS(h w:Nat):Eh (h+1) w=Eh h w++(Qc w).map λc=>(h,c):=rfl
theorem jo(h w:Nat):(Eh h w).length=h*w:=by
 induction h with
 |zero=>rw[Nat.zero_mul];rfl
 |succ h i=>rw[nS,QG,i,Qd,QA,Nat.succ_mul]
theorem Dk{p:Nat×Nat}:p∈Eh h w↔p.1<h/\p.2<w:=by
 induction h with
 |zero=>exact⟨λx=>(bS x),λx=>absurd x.1 (Wd _)⟩
 |succ h i=>
  rw[nS,Qr,i,Ql]
  constructor
  .rintro (⟨a,b⟩|⟨c,C,rfl⟩)
   .exact⟨by exact WC a,b⟩
   .exact⟨QN _,Qf.mp C⟩
  .rintro ⟨a,b⟩;by_cases q:p.1<h
   .exact .inl ⟨q,b⟩
   .exact .inr ⟨p.2,Qf.mpr b,by rw[<-show p.1=h by exact Yw (zs a) (QW.mp q)]⟩
theorem uG(h w:Nat):(Eh h w).map dP++((Qc w).map λ(c:Nat)=> .tup [.int h,.int c])=(Eh (h+1) w).map dP:=by
 rw[nS,QD,QE];rfl
noncomputable def Gb(t:List (List Int)):List Int:=t.map Wo
noncomputable def FM(t:List (List Int))(w:Nat):List Int:=(Qc w).map λc=>(t.map λr=>r[c]?.getD 0).sum
theorem gj{tst:CB->(Bool->Prop)->Prop}{el:CB->DQ->Prop}{K:List D->Dc->Prop}(f:Nat->D)(p:Nat->Bool)
  (U:∀i,i<n->FQ (λP=>(∀T:Bool->Prop,T (p i)->tst P T)/\(p i=Jc->∀K:DQ,K (f i) Jb->el P K)) (bw tg (.int i) L))(k:K (((Qc n).filter p).map f) Jb):
  DN tg L ts tst el ((Qc n).map λ(i:Nat)=> .int i) [] Jb K:=fE (λ(i:Nat)=> .int i) f p (· <n) U _ [] (λa h=>Qf.mp h) k
theorem cz{L:Type}{l:List L}{tst:CB->(Bool->Prop)->Prop}{el:CB->DQ->Prop}{K:List D->Dc->Prop}(g f:L->D)(p:L->Bool)
  (U:∀a,a∈l->FQ (λP=>(∀T:Bool->Prop,T (p a)->tst P T)/\(p a=Jc->∀K:DQ,K (f a) Jb->el P K)) (bw tg (g a) j))(k:K ((l.filter p).map f) Jb):
  DN tg j ts tst el (l.map g) [] Jb K:=fE g f p (· ∈l) U _ [] (λa h=>h) k
noncomputable abbrev dL(l:List (List D)):D:= .list (l.map .list)
theorem Cd(t:List (List (Option Int))):dC t=dL (t.map λr=>r.map dO):=by
 show D.list _=D.list (Kz _<|Kz _ _);rw[QE];rfl
def GC(l:List (List D)):Bool:=decide (1<=l.length/\l.length<=8)&&(decide (1<=(CK l 0).length/\(CK l 0).length<=8)&&l.all λr=>decide (r.length=(CK l 0).length))
theorem CI.grid{L:Type}{t:List (List L)}{h w:Nat}(R:CI t h w)(f:L->D):GC (t.map λr=>r.map f)=Jc:=by
 have b:CK (t.map λr=>r.map f) 0=(CK t 0).map f:=by
  rw[CK,Qu,(R.at_ R.h1).1];rfl
 have e:(CK (t.map λr=>r.map f) 0).length=w:=by rw[b,Qd];exact(R.at_ R.h1).2
 rw[GC,e,Qd,R.len,Uc ⟨R.h1,R.h8⟩,Uc ⟨R.w1,R.w8⟩,Yn,Yn,Qx];intro r n;obtain⟨y,H,rfl⟩:=Ql.mp n;rw[Qd,R.row y H];exact Uc rfl
def Gg(ps:List (Nat×Nat))(r c:Nat):Bool:=(ps.map dP).any λd=>D.eqv d<|dP (r,c)
def EG(t:List (List Int))(h:Nat->Nat->Bool)(r c:Nat):Option Int:=cond (h r c) Jb<|Ja (cell t r c)
def Dt(t:List (List Int))(i:Nat->Nat->Bool)(h w:Nat):List (List (Option Int)):=(Qc h).map λr=>(Qc w).map λc=>EG t i r c
theorem qI(t:List (List Int))(h:Nat->Nat->Bool)(w j:Nat):dC (Dt t h (j+1) w)= .list ((Dt t h j w).map dR++[.list ((Qc w).map λ(c:Nat)=>dO (EG t h j c))]):=by
 rw[show Dt t h (j+1) w=Dt t h j w++[(Qc w).map λc=>EG t h j c] from(hW _ _).symm];show D.list (Kz dR<|_++_)=_;rw[QD];show D.list (_++[D.list (Kz _<|Kz _ _)])=_;rw[QE];rfl
abbrev G5(t:List (List Int))(i:Nat->Nat->Bool)(h w:Nat):D:= .tup [dC (Dt t i h w),dI<|Gb t,dI (FM t w)]
theorem mx{L:Type}(g:L->Option Int)(l:List L):DG ((l.filter λa=>(g a).isSome).map λa=>dO (g a))=Ja (l.filterMap g):=by
 induction l with
 |nil=>rfl
 |cons a l W=>
  induction h:g a with
  |none=>rw[Kf (by rw[h];exact QB),W,List.filterMap_cons_none h]
  |some i=>
   rw[Ke (by rw[h];rfl),Qo,List.filterMap_cons_some h,h];show(DG _).map (i:: ·)=_;rw[W];rfl
theorem nb{r:List (Option Int)}(h:c<r.length):C4 (dR r) (.int c)=Ja (dO (r[c]?.getD Jb)):=jc<|by rw[Qu,Qg h];rfl
theorem gP{t:List (List (Option Int))}{h w:Nat}(R:CI t h w){i:Nat}(hi:i<h):C4 (dC t) (.int i)=Ja (dR (CK t i)):=jc<|by rw[Qu,(R.at_ hi).1];rfl
theorem l8(R:CI t h w):C4 (dC t) (.int 0)=Ja (dR (CK t 0)):=gP R (i:=0) R.h1
def E0(c:List (List (Option Int)))(r:List Int)(k:Nat):Int:=r[k]?.getD 0-((CK c k).filterMap id).sum
noncomputable def FB(c:List (List (Option Int)))(s:List Int)(k:Nat):Int:=s[k]?.getD 0-(c.filterMap λr=>r[k]?.getD Jb).sum
theorem fB(o:Option Int):i7 (dO o)=Jd/\(dO o).isNone= !o.isSome:=by rcases o with⟨⟩<;>exact⟨rfl,rfl⟩
theorem xv{p:Prop}[Decidable p]{a b:Prop}(Y:¬p->a)(h:p->b):cond (!decide p) a b:=kI h Y
theorem gk{args:List E}(h:CY G M (.call f args) L (λo0 o0=>CQ G M u r L Q X) λc l=>X c l L):CQ G M u (.expr (.call f args)::r) L Q X:= .inr h
theorem kR{args:List E}(h:dio G c f L (λP=>CQ G c u r P Q X) (HB L args)):CQ G c u (.expr (.call f args)::r) L Q X:= .inl h
def D.eqvs(a b:List D):Bool:=PyData.eqvAll (D.pys a)<|D.pys b
theorem wc(a b:List D):D.eqv (.tup a) (.tup b)=D.eqvs a b:=rfl
theorem j4(x y:D)(a b:List D):D.eqvs (x::a) (y::b)=(D.eqv x y&&D.eqvs a b):=rfl
theorem uE:D.eqvs [] []=Jc:=rfl
theorem Bf(a b c d:D):D.eqv (.tup [a,b]) (.tup [c,d])=(D.eqv a c&&D.eqv b d):=by rw[wc,j4,j4,uE,Bool.and_true]
mutual
theorem bZ:∀d:D,D.eqv d d=Jc
 | .none=>rfl
 | .bool b=>by rw[uu];exact beq_self_eq_true b
 | .int i=>by rw[bR];exact Uc rfl
 | .str s=>by show(Qb s==Qb s)=Jc;exact beq_self_eq_true _
 | .tup l=>j7 l
 | .list l=>j7 l
 | .scr _=>rfl
 | .hole=>rfl
 | .exc _ _=>rfl
 | .inst _ _=>rfl
 | .dict _ _=>rfl
theorem j7:∀l:List D,D.eqvs l l=Jc
 |[]=>rfl
 |d::l=>by rw[j4,bZ d,j7 l];rfl
end
theorem dt(m:Nat)(i:Int):D.okd m (.int i)=Jc:=by rcases m with⟨⟩<;>rfl
theorem cU(m:Nat)(l:List D):D.okd (m+1) (.list l)=D.okds m l:=rfl
theorem iU(m:Nat)(l:List D):D.okd (m+1) (.tup l)=D.okds m l:=rfl
theorem Bk(m:Nat)(l:List Int):D.okd (m+1) (dI l)=Jc:=by rw[cU];exact b8 _ (dt m) l
theorem kA(m:Nat)(l:List (List Int)):D.okd (m+2) (dT l)=Jc:=by rw[cU];exact b8 _ (Bk m) l
theorem cg(m:Nat)(d:D)(l:List D):D.okds m (d::l)=(d.okd m&&D.okds m l):=rfl
theorem tu(m:Nat):D.okds m []=Jc:=rfl
def HM(t:List (List Int))(i j:Nat)(v:Int):List (List Int):=t.set i<|(CK t i).set j v
theorem CI.set(R:CI t h w)(hi:i<h):CI (HM t i j v) h w:=by
 refine⟨by rw[HM,Wx];exact R.len,λr n=> ?_,R.h1,R.h8,R.w1,R.w8⟩
 rcases List.mem_or_eq_of_mem_set n with q|rfl
 .exact R.row r q
 .rw[Wx];exact(R.at_ hi).2
theorem u8(R:CI t h w)(hi:i<h)(E:j<w)(a b:Nat):cell (HM t i j v) a b=if a=i/\b=j then v else cell t a b:=by
 have l:i<t.length:=by rw[R.len];exact hi
 have r:=(R.at_ hi).2;unfold cell CK HM;rw[KU];by_cases T:i=a
 .subst T;rw[Ug rfl,Ug l];show((CK t i).set j v)[b]?.getD 0=_;rw[KU];by_cases H:j=b
  .subst H;rw[Ug rfl,Ug<|by exact zq E r.symm,Ug ⟨rfl,rfl⟩];rfl
  .rw[Uf H,Uf λq=>H q.2.symm];rfl
 .rw[Uf T,Uf λq=>T q.1.symm]
theorem lz(R:CI t h w):(∀r∈t,∀i∈r,0<=i)↔∀a b,a<h->b<w->0<=cell t a b:=by
 constructor
 .intro N a b T v;have E:=(R.at_ T)
  have m:=QC E.1;refine N _ m _ ?_;rw[cell,Qg (by rw[E.2];exact v)];exact Wj _
 .intro N r n i V;obtain⟨a,T,rfl⟩:=Wi n;obtain⟨b,v,rfl⟩:=Wi V;have:=N a b (by rw[<-R.len];exact T) (by rw[<-R.row _ n];exact v);rw[cell,CK,Qg T] at this;rw[show(Ja t[a]).getD []=t[a] from rfl,Qg v] at this;exact this
theorem zi{l:List D}(p:CO l.length k=Ja j)(h:l[j]? =Ja v):C4 (.list l) (.int k)=Ja v:=by
 show((CO l.length k).bind λj=>l[j]?)=_;rw[p];exact h
theorem vq(R:CI t h w)(p:CO h k=Ja i):C4 (dT t) (.int k)=Ja (dI (CK t i)):=by
 have V:i<h:=lc p;exact zi (by rw[Qd,R.len];exact p)<|by rw[Qu,(R.at_ V).1];rfl
theorem BM{t:List (List Int)}(R:CI t h w)(p:CO h k=Ja i)(r:List Int):ET [.int k] (λo0=>Ja (dI r)) (dT t)=Ja (dT (t.set i r)):=by
 show(CO (t.map dI).length k).bind (λj=>((t.map dI)[j]?).bind λx=>Wa (λy=>D.list<|(t.map dI).set j y)<|Ja (dI r))=_;rw[R.lenD,p];show((t.map dI)[i]?).bind (λx=>Ja<|D.list ((t.map dI).set i (dI r)))=_;rw[Qu,(R.at_<|lc p).1];show Ja (D.list<|(t.map dI).set i (dI r))=_;rw[<-YA]
section
variable{G:Gx}{cl cu:E3}{Δ:CB}{X:DX}{Qp:String->List D->D->Prop}
theorem jT(x):FJ G cl (.loc x) Δ Qp X=Et (λp=>p.2=Jc/\Qp x [] p.1) (Δ.get x):=rfl
theorem uj(a i):FJ G cl (.sub a i) Δ Qp X=FJ G cl a Δ (λx ps n=>CY G cl i Δ (λj o0=>HV n=Jd/\FL (λd=>Qp x (ps++[j]) d) (C4 n j)) X) X:=rfl
theorem Al{Q:bU}{X:Gq}{r:List S}{x:String}{s c e:E}{t:List (List Int)}{h w:Nat}(R:CI t h w){ki kj:Int}{i j:Nat}{v:Int}(hx:Δ.get x=Ja (dT t,Jc))(hi:CO h ki=Ja i)(H:CO w kj=Ja j)
  (O:∀Q:D->CB->Prop,Q (.int v) Δ->FW G cl e Δ Q)(n:∀ (Q:DQ) X,Q (.int ki) Jb->CY G cl s Δ Q X)(C:∀ (Q:DQ) X,Q (.int kj) Jb->CY G cl c Δ Q X)
  (k:CQ G cl cu r (Δ.put x (dT<|HM t i j v,Jc)) Q X):CQ G cl cu (.setIdx (.sub (.loc x) s) c e::r) Δ Q X:=by
 refine l7<|O _ ?_;rw[uj,jT,hx,aK];refine⟨rfl,n _ _ ⟨rfl,?_⟩⟩;rw[vq R hi,cE];refine C _ _ ?_;rw[xS,x5,Qd,(R.at_<|lc hi).2,H,cQ];show Et _ (Δ.get x);rw[hx,aK];show FL _ (ET [.int ki] (λo0=>Ja<|.list (((CK t i).map D.int).set j (.int v))) (dT t));rw[<-YA,show D.list (Kz D.int<|(CK t i).set j v)=dI ((CK t i).set j v) from rfl,BM R hi,cE];exact k
end
theorem jJ{a:Int}{b:Nat}(h:1<=b):∃i:Nat,a.fmod b=i/\i<b:=by
 obtain⟨N,p⟩:=fx (a:=a) (b:=b) (by exact Kc.mpr h);exact⟨(a.fmod b).toNat,by exact(WT N).symm,by exact(KV N).mpr p⟩
structure FP(tab:List Fn)(C:Cx)(G:Gx)(mg mb:Jq->Option Jf):Prop where
 g:D4 C G mg mb
 x:Dm C G mg mb
 ok:C.ok
 F:∀t∈tab,X4 λa o fd body=>FO C t.f t.ps t.b a o fd body
theorem FO.un{C:Cx}{d:Jr}(F:FO C f ps s a o d body):FO C.un f ps s a o d body:=
 ⟨⟨F.ho,F.hd,F.cd,F.hb,F.clo,F.glb,F.blt,F.bind,F.par,F.nd,F.co,F.gen,F.kind,F.free⟩,F.fv,F.kp,F.mat⟩
theorem FP.un{tab:List Fn}{C:Cx}{G:Gx}{mg mb:Jq->Option Jf}(e:FP tab C G mg mb):FP tab C.un G.un mg mb:=⟨e.g.un,e.x.un,e.ok,λt h=>by obtain⟨a,o,f,b,F⟩:=e.F t h;exact⟨a,o,f,b,F.un⟩⟩
section
variable{tab:List Fn}{C:Cx}{G:Gx}{mg mb:Jq->Option Jf}{n:Nat}
theorem FP.runs(e:FP tab C G mg mb)(t:Fn)(W:t∈tab):Runs G (aN C n) (aN C.un n) (aN C (n+1)) t.f t.ps t.ls t.b:=λE v Q X h w=>by
 obtain⟨a,o,f,b,F⟩:=e.F t W;exact B1 (Gs e.g e.x) (t4 e.g e.x) (Gs e.g.un e.x.un) (t4 e.g.un e.x.un) e.g F t.ls h w
structure Gen(C:Cx)(n:Nat)(Q:D->Bool->Prop)(X:DX)(cl cu:E3)(PQ:bU)(PX:Gq):Prop where
 hc:∀ {f as R Y},aR (aN C n) f as R Y->cl f as R Y
 io:∀ {f i as R},(aR<|aN C n).io f i as R->cl.io f i as R
 hu:∀ {f as R Y},aR (aN C.un n) f as R Y->cu f as R Y
 qn:∀ {Δ},Q .none Jc->PQ .next Δ
 qr:∀ {d b Δ},Q d b->PQ (.ret d b) Δ
 qx:∀ {c l Δ},X c l->PX c l Δ
theorem FP.fn(e:FP tab C G mg mb)(t:Fn)(W:t∈tab){args:List (D×Bool)}{Q:D->Bool->Prop}(h:t.ps.length=args.length)
  (w:∀l c P PX,Gen C n Q X l c P PX->CQ G l c t.b (Du t.ps t.ls args) P PX):aR (aN C<|n+1) t.f args Q X:=Au h (w _ _ _ _ ⟨id,id,id,id,id,id⟩)<|e.runs t W
theorem FP.fnI(e:FP tab C G mg mb)(t:Fn)(h:t∈tab){args:List (D×Bool)}{Q:D->Prop}{x:String}{i:Nat}(l:t.ps.length=args.length)(o:t.ps.Nodup)(hx:t.ps[i]? =Ja x)(a:S.noass x t.b=Jc)
  (w:CQ G (aR<|aN C n) (aR<|aN C.un n) t.b (Du t.ps t.ls args) (dendI x Q) λo0 o0 o0=>False):(aR<|aN C (n+1)).io t.f i args Q:=wf l o hx a w<|e.runs t h
end
section
variable{C:Cx}{G:Gx}{mg mb:Jq->Option Jf}{n:Nat}
theorem xn(g:D4 C G mg mb)(T:E6 C G n){c:Fu}(K:DL C c)(s:c.as=[a1])(p:c.es=[.loc a1,e2])(l:"self"≠a1){d:D}{Q:D->Bool->Prop}
  (w:CY G (aR<|aN C n) e2 [("self",Jb),(a1,Ja (d,Jd))] (λB L=>L=Jb/\Q (.inst c.nm [d,B]) Jc) λo0 o0=>False):aR (aN C<|n+2) c.nm [(d,Jc)] Q X:=by
 intro t vs Fs Q' X' J k kx;cases J with
 |@cons _ _ v F _ ac ab r nd _ J=>
 cases J;obtain⟨a,i,fv,S,fl,o0⟩:=K;obtain⟨fI,N,F0,o0,o0,o0,o0,o0,ne,o0,u⟩:=S;obtain⟨oI,fd,A,Fn,f,hm⟩:=F0;refine p8 g i fv N.kp N Fn f hm fl ne u (λe o0=>bP T g e) (by rw[s];rfl) [] λx hx=> ?_;rw[p,s];have hr:(Ec ["self",a1] [] [.ref x,v]).get a1=Ja v:=(Uf l).trans (Ug rfl);show oV _ ((Ec ["self",a1] [] [.ref x,v]).get a1);rw[hr];have ee:DD t [("self",Jb),(a1,Ja (d,Jd))] (Ec ["self",a1] [] [.ref x,v]) (λy=>if y=a1 then F else []):=by
  refine⟨λy d' b e=> ?_,λy a H=> ?_,rfl⟩
  .by_cases q:y=a1
   .subst y;have e1:CB.get [("self",Jb),(a1,Ja (d,Jd))] a1=Ja (d,Jd):=by
     rw[get_c,beq_eq_false_iff_ne.mpr l,get_c,beq_self_eq_true];rfl
    obtain⟨rfl,rfl⟩:=Prod.mk.inj<|sj (e1.symm.trans e);exact⟨v,hr,by rw[Ug rfl];exact r⟩
   .rw[get_c,get_c,beq_eq_false_iff_ne.mpr (Ne.symm q)] at e;by_cases z:("self"==y)=Jc
    .rw[z] at e;exact ns e
    .rw[WF.mpr z] at e;exact ns e
  .by_cases q:y=a1
   .rw[Ug q] at H;exact r.dom a H
   .rw[Uf q] at H;cases H
 refine br e2 _ _ _ t _ (λo0 o0=>False) _ _ ee w (λB L R O P m W=> ?_) λo0 o0 o0 o0 o0 h o0=>h.elim;intro U I h1 h2 σ;obtain⟨rfl,m⟩:=m;have V:Di O ((O.set U<|.fd c.nm [v,R]).set I (.inst U)):=(Di.set h1 _).trans (Di.set ((PH.set_ne _ _<|Ne.symm σ).trans h2) _);have M:=W.part.own rfl;have j:∀a∈F,a∈owned [(d,Jc)] [F]:=λa H=>Qk _ H;have Y:Di t ((O.set U<|.fd c.nm [v,R]).set I (.inst U)):=W.ext.trans V;refine k (.inst c.nm [d,B]) Jc (.ref I) _ (F++P) m ⟨⟨I,U,[v,R],rfl,PH.set_same _ _ _,(PH.set_ne _ _ σ).trans (PH.set_same _ _ _),v,[R],F,P,rfl,rfl,r.ext Y,R,[],P,[],rfl,(QH _).symm,W.rd.ext V,rfl,rfl⟩,λa o e o0=>Y a o e,λo0=>⟨?_,λa H=> ?_⟩,λa H=> ?_⟩
 .refine Qv.mpr ⟨nd rfl,M.1,λa H b hb q=> ?_⟩;subst q;obtain⟨o,e⟩:=r.dom a H;exact ns<|(M.2 a hb).symm.trans e
 .rcases Qr.mp H with H|H
  .exact .inr<|j a H
  .exact .inl<|M.2 a H
 .rcases Qr.mp H with H|H
  .exact .inr<|Qk _ H
  .exact .inl<|M.2 a H
theorem v0(g:D4 C G mg mb)(T:E6 C G n){c:Fu}(K:DL C c)(s:c.as=[a1])(p:c.es=[.loc a1,e2])(L:"self"≠a1){d:D}{Q:D->Bool->Prop}
  (w:CY G (aR<|aN C n) e2 [("self",Jb),(a1,Ja (d,Jd))] (λB u=>u=Jb/\Q (.inst c.nm [d,B]) Jd) λo0 o0=>False):aR (aN C<|n+2) c.nm [(d,b)] Q X:=by
 intro t vs Fs Q' X' J k kx;cases J with
 |@cons _ _ v F _ ac ab r nd _ J=>
 cases J;obtain⟨a,i,fv,S,fl,o0⟩:=K;obtain⟨fI,N,F0,o0,o0,o0,o0,o0,ne,o0,j⟩:=S;obtain⟨oI,fd,A,Fn,f,hm⟩:=F0;refine p8 g i fv N.kp N Fn f hm fl ne j (λe o0=>bP T g e) (by rw[s];rfl) [] λx hx=> ?_;rw[p,s];have l:(Ec ["self",a1] [] [.ref x,v]).get a1=Ja v:=(Uf L).trans (Ug rfl);show oV _ ((Ec ["self",a1] [] [.ref x,v]).get a1);rw[l];have ee:DD t [("self",Jb),(a1,Ja (d,Jd))] (Ec ["self",a1] [] [.ref x,v]) (λy=>if y=a1 then F else []):=by
  refine⟨λy d' b e=> ?_,λy a H=> ?_,rfl⟩
  .by_cases q:y=a1
   .subst y;have e1:CB.get [("self",Jb),(a1,Ja (d,Jd))] a1=Ja (d,Jd):=by
     rw[get_c,beq_eq_false_iff_ne.mpr L,get_c,beq_self_eq_true];rfl
    obtain⟨rfl,rfl⟩:=Prod.mk.inj<|sj (e1.symm.trans e);exact⟨v,l,by rw[Ug rfl];exact r⟩
   .rw[get_c,get_c,beq_eq_false_iff_ne.mpr (Ne.symm q)] at e;by_cases z:("self"==y)=Jc
    .rw[z] at e;exact ns e
    .rw[WF.mpr z] at e;exact ns e
  .by_cases q:y=a1
   .rw[Ug q] at H;exact r.dom a H
   .rw[Uf q] at H;cases H
 refine br e2 _ _ _ t _ (λo0 o0=>False) _ _ ee w (λB u R O P m W=> ?_) λo0 o0 o0 o0 o0 h o0=>h.elim;intro U I h1 h2 σ;obtain⟨rfl,m⟩:=m;have V:Di O ((O.set U<|.fd c.nm [v,R]).set I (.inst U)):=(Di.set h1 _).trans (Di.set ((PH.set_ne _ _<|Ne.symm σ).trans h2) _);have M:=W.part.own rfl;have Y:Di t ((O.set U<|.fd c.nm [v,R]).set I (.inst U)):=W.ext.trans V;refine k (.inst c.nm [d,B]) Jd (.ref I) _ (F++P) m ⟨⟨I,U,[v,R],rfl,PH.set_same _ _ _,(PH.set_ne _ _ σ).trans (PH.set_same _ _ _),v,[R],F,P,rfl,rfl,r.ext Y,R,[],P,[],rfl,(QH _).symm,W.rd.ext V,rfl,rfl⟩,λa o e o0=>Y a o e,λq=>ft q,λa H=> ?_⟩
 rcases Qr.mp H with H|H
 .exact .inr<|Qk _ H
 .exact .inl<|M.2 a H
theorem up(g:D4 C G mg mb)(T:E6 C G n){c:Fu}(K:DL C c)(h:c.as=[a1,a2,a3])(s:c.es=[.loc a1,.loc a2,.loc a3])(M:["self",a1,a2,a3].Nodup){d1 d B:D}{Q:D->Bool->Prop}
  (w:Q (.inst c.nm [d1,d,B]) Jd):aR (aN C<|n+2) c.nm [(d1,b1),(d,b2),(B,b3)] Q X:=by
 intro W vs Fs Q' X' r k kx;cases r with
 |@cons _ _ f I _ _ _ m ad _ r=>
 cases r with
 |@cons _ _ b t _ _ _ J ac _ r=>
 cases r with
 |@cons _ _ v F _ _ _ A ab _ r=>
 cases r;obtain⟨a,i,z,S,fl,o0⟩:=K;obtain⟨fI,N,p,o0,o0,o0,o0,o0,ne,o0,j⟩:=S;obtain⟨oI,fd,y,Fn,σ,hm⟩:=p;refine p8 g i z N.kp N Fn σ hm fl ne j (λe o0=>bP T g e) (by rw[h];rfl) [] λx hx=> ?_;rw[s,h];simp only[Qy,Qw,Ky,or_false,not_or] at M;obtain⟨⟨Y,R,n3⟩,⟨n4,L⟩,O,o0⟩:=M;have l:(Ec ["self",a1,a2,a3] [] [.ref x,f,b,v]).get a1=Ja f:=(Uf Y).trans (Ug rfl);have g2:(Ec ["self",a1,a2,a3] [] [.ref x,f,b,v]).get a2=Ja b:=(Uf R).trans ((Uf n4).trans (Ug rfl));have g3:(Ec ["self",a1,a2,a3] [] [.ref x,f,b,v]).get a3=Ja v:=(Uf n3).trans ((Uf L).trans ((Uf O).trans (Ug rfl)));show oV _ ((Ec ["self",a1,a2,a3] [] [.ref x,f,b,v]).get a1);rw[l];show oV _ ((Ec ["self",a1,a2,a3] [] [.ref x,f,b,v]).get a2);rw[g2];show oV _ ((Ec ["self",a1,a2,a3] [] [.ref x,f,b,v]).get a3);rw[g3];intro u E H V U;have P:Di W ((W.set u<|.fd c.nm [f,b,v]).set E (.inst u)):=(Di.set H _).trans (Di.set ((PH.set_ne _ _<|Ne.symm U).trans V) _);exact k (.inst c.nm [d1,d,B]) Jd (.ref E) _ (I++(t++(F++[]))) w ⟨⟨E,u,[f,b,v],rfl,PH.set_same _ _ _,(PH.set_ne _ _ U).trans (PH.set_same _ _ _),f,[b,v],I,_,rfl,rfl,m.ext P,b,[v],t,_,rfl,rfl,J.ext P,v,[],F,[],rfl,rfl,A.ext P,rfl,rfl⟩,λa o e o0=>P a o e,λq=>ft q,λa ha=> .inr ha⟩
end
noncomputable def iF:Fn:=⟨"near_of",["places"],["found","place"],
 [.assign (.name "found") (.dict0),
  .for_ (.name "place") .val [.loc "places"] [.expr (.meth (.sd (.loc "found")<|.tup [.glob "ROW",.sub (.loc "place") (.int 0)]) .append [.tup [.tup [.glob "COLUMN",.sub (.loc "place") (.int 1)],.loc "place"]]),.expr (.meth (.sd (.loc "found")<|.tup [.glob "COLUMN",.sub (.loc "place") (.int 1)]) .append [.tup [.tup [.glob "ROW",.sub (.loc "place") (.int 0)],.loc "place"]])],
  .ret (.loc "found")]⟩
noncomputable def fS:Fn:=⟨"reached",["near","counts","starts","banned"],["came","waiting","start","at","here","other","place"],
 [.assign (.name "came") (.dict0),
  .assign (.name "waiting") (.list []),
  .for_ (.name "start") .val [.loc "starts"] [.setIdx (.loc "came") (.loc "start") (.none),.expr (.meth (.loc "waiting") .append [.loc "start"])],
  .assign (.name "at") (.int 0),
  .while_ (.cmp .lt (.loc "at")<|.bi .len [.loc "waiting"]) [.assign (.name "here") (.sub (.loc "waiting")<|.loc "at"),.assign (.name "at")<|.bin .add (.loc "at") (.int 1),.for_ (.tup ["other","place"]) .val [.get (.loc "near") (.loc "here")] [.if_ (.and_ (.cmp .nin (.loc "other")<|.loc "came")<|.and_ (.cmp .ne (.loc "place")<|.loc "banned") (.or_ (.cmp .eq (.sub (.loc "here")<|.int 0)<|.glob "ROW")<|.cmp (.gt ()) (.sub (.loc "counts")<|.loc "place") (.int 0))) [.setIdx (.loc "came") (.loc "other") (.tup [.loc "here",.loc "place"]),.expr (.meth (.loc "waiting") .append [.loc "other"])] []]],
  .ret (.loc "came")]⟩
noncomputable def jr:Fn:=⟨"way_to",["came","goal"],["raised","lowered","here","ahead","place"],
 [.assign (.name "raised") (.list []),
  .assign (.name "lowered") (.list []),
  .assign (.name "here") (.loc "goal"),
  .while_ (.notNone<|.sub (.loc "came") (.loc "here")) [.assign (.tup ["ahead","place"]) (.sub (.loc "came")<|.loc "here"),.if_ (.cmp .eq (.sub (.loc "here")<|.int 0)<|.glob "COLUMN") [.expr (.meth (.loc "raised") .append [.loc "place"])] [.expr (.meth (.loc "lowered") .append [.loc "place"])],.assign (.name "here") (.loc "ahead")],
  .ret (.tup [.loc "raised",.loc "lowered",.loc "here"])]⟩
noncomputable def ng:Fn:=⟨"move",["counts","raised","lowered","amount"],["place"],
 [.for_ (.name "place") .val [.loc "raised"] [.setIdx (.loc "counts") (.loc "place") (.bin .add (.sub (.loc "counts") (.loc "place")) (.loc "amount"))],
  .for_ (.name "place") .val [.loc "lowered"] [.setIdx (.loc "counts") (.loc "place") (.bin .sub (.sub (.loc "counts") (.loc "place")) (.loc "amount"))]]⟩
noncomputable def fJ:Fn:=⟨"numbers_of",["came","kind"],[],
 [.ret (.bi .sorted [.compIf (.loc "number") (.tup ["word","number"]) .val [.bi .list [.loc "came"]] (.cmp .eq (.loc "word") (.loc "kind"))])]⟩
noncomputable def dM:Fn:=⟨"is_count",["thing"],[],
 [.ret (.and_ (.isi (.loc "thing") ["int"]) (.and_ (.not_ (.isi (.loc "thing") ["bool"])) (.cmp .ge (.loc "thing") (.int 0))))]⟩
noncomputable def iK:Fn:=⟨"is_grid",["thing"],[],
 [.if_ (.or_ (.not_ (.isi (.loc "thing") ["list"])) (.not_ (.cmp2 (.int 1) .le (.bi .len [.loc "thing"]) .le (.glob "MOST")))) [.ret (.bool Jd)] [],
  .if_ (.or_ (.not_<|.bi .all [.comp (.isi (.loc "row") ["list"]) (.name "row") .val [.loc "thing"]])<|.not_ (.cmp2 (.int 1) .le (.bi .len [.sub (.loc "thing") (.int 0)]) .le<|.glob "MOST")) [.ret (.bool Jd)] [],
  .ret (.bi .all [.comp (.cmp .eq (.bi .len [.loc "row"]) (.bi .len [.sub (.loc "thing") (.int 0)])) (.name "row") .val [.loc "thing"]])]⟩
noncomputable def fD:Fn:=⟨"are_counts",["row"],[],
 [.ret (.bi .all [.comp (.call "is_count" [.loc "count"]) (.name "count") .val [.loc "row"]])]⟩
noncomputable def e9:Fn:=⟨"is_table",["thing"],[],
 [.ret (.and_ (.call "is_grid" [.loc "thing"]) (.bi .all [.comp (.call "are_counts" [.loc "row"]) (.name "row") .val [.loc "thing"]]))]⟩
noncomputable def dX:Fn:=⟨"need_table",["thing"],[],
 [.if_ (.not_ (.call "is_table" [.loc "thing"])) [.raise "BadTable" [.str "no table"]] []]⟩
noncomputable def dm:Fn:=⟨"need_number",["thing"],[],
 [.if_ (.or_ (.not_ (.call "is_count" [.loc "thing"])) (.cmp .eq (.loc "thing") (.int 0))) [.raise "BadNumber" [.str "no number from 1 on"]] []]⟩
noncomputable def iY:Fn:=⟨"sums_of",["table"],["columns"],
 [.assign (.name "columns") (.comp (.bi .sum [.comp (.sub (.loc "row") (.loc "column")) (.name "row") .val [.loc "table"]]) (.name "column") .range [.bi .len [.sub (.loc "table") (.int 0)]]),
  .ret (.tup [.comp (.bi .sum [.loc "row"]) (.name "row") .val [.loc "table"],.loc "columns"])]⟩
noncomputable def gC:Fn:=⟨"places_of",["grid"],["found","row","column"],
 [.assign (.name "found") (.list []),
  .for_ (.name "row") .range [.bi .len [.loc "grid"]] [.for_ (.name "column") .range [.bi .len [.sub (.loc "grid") (.int 0)]] [.expr (.meth (.loc "found") .append [.tup [.loc "row",.loc "column"]])]],
  .ret (.loc "found")]⟩
noncomputable def hJ:Fn:=⟨"is_small",["table","place","bound"],[],
 [.ret (.cmp2 (.int 1) .le (.sub (.sub (.loc "table") (.sub (.loc "place") (.int 0))) (.sub (.loc "place") (.int 1))) .le (.loc "bound"))]⟩
noncomputable def gY:Fn:=⟨"rests_of",["view"],["cells","rows","columns","found","others","k"],
 [.assign (.tup ["cells","rows","columns"]) (.loc "view"),
  .assign (.name "found") (.comp (.bin .sub (.sub (.loc "rows")<|.loc "k")<|.bi .sum [.compIf (.loc "count") (.name "count") .val [.sub (.loc "cells") (.loc "k")] (.notNone<|.loc "count")]) (.name "k") .range [.bi .len [.loc "rows"]]),
  .assign (.name "others") (.list []),
  .for_ (.name "k") .range [.bi .len [.loc "columns"]] [.expr (.meth (.loc "others") .append [.bin .sub (.sub (.loc "columns")<|.loc "k") (.bi .sum [.compIf (.sub (.loc "row")<|.loc "k") (.name "row") .val [.loc "cells"] (.notNone<|.sub (.loc "row") (.loc "k"))])])],
  .ret (.tup [.loc "found",.loc "others"])]⟩
noncomputable def gZ:Fn:=⟨"are_sums",["thing","many"],[],
 [.ret (.and_ (.isi (.loc "thing") ["list"]) (.and_ (.cmp .eq (.bi .len [.loc "thing"]) (.loc "many")) (.bi .all [.comp (.call "is_count" [.loc "one"]) (.name "one") .val [.loc "thing"]])))]⟩
noncomputable def iT:Fn:=⟨"is_view",["thing"],["row","rows","columns"],
 [.if_ (.or_ (.not_ (.isi (.loc "thing") ["tuple"])) (.or_ (.cmp .ne (.bi .len [.loc "thing"]) (.int 3)) (.not_ (.call "is_grid" [.sub (.loc "thing") (.int 0)])))) [.ret (.bool Jd)] [],
  .for_ (.name "row") .val [.sub (.loc "thing") (.int 0)] [.if_ (.not_<|.bi .all [.comp (.or_ (.isNone<|.loc "count")<|.call "is_count" [.loc "count"]) (.name "count") .val [.loc "row"]]) [.ret (.bool Jd)] []],
  .if_ (.or_ (.not_<|.call "are_sums" [.sub (.loc "thing") (.int 1),.bi .len [.sub (.loc "thing") (.int 0)]])<|.not_ (.call "are_sums" [.sub (.loc "thing") (.int 2),.bi .len [.sub (.sub (.loc "thing")<|.int 0) (.int 0)]])) [.ret (.bool Jd)] [],
  .assign (.tup ["rows","columns"]) (.call "rests_of" [.loc "thing"]),
  .ret (.and_ (.cmp .ge (.bi .min [.loc "rows"]) (.int 0)) (.and_ (.cmp .ge (.bi .min [.loc "columns"]) (.int 0)) (.cmp .eq (.bi .sum [.loc "rows"]) (.bi .sum [.loc "columns"]))))]⟩
noncomputable def gr:Fn:=⟨"need_view",["thing"],[],
 [.if_ (.not_ (.call "is_view" [.loc "thing"])) [.raise "BadView" [.str "no view"]] []]⟩
noncomputable def hP:Fn:=⟨"is_place",["thing","grid"],[],
 [.if_ (.or_ (.not_ (.isi (.loc "thing") ["tuple"])) (.or_ (.cmp .ne (.bi .len [.loc "thing"]) (.int 2)) (.or_ (.not_ (.call "is_count" [.sub (.loc "thing") (.int 0)])) (.not_ (.call "is_count" [.sub (.loc "thing") (.int 1)]))))) [.ret (.bool Jd)] [],
  .ret (.and_ (.cmp .lt (.sub (.loc "thing") (.int 0)) (.bi .len [.loc "grid"])) (.cmp .lt (.sub (.loc "thing") (.int 1)) (.bi .len [.sub (.loc "grid") (.int 0)])))]⟩
noncomputable def nL:Fn:=⟨"seen",["table","places"],["cells","row","column","sums"],
 [.assign (.name "cells") (.comp (.bi .list [.loc "row"]) (.name "row") .val [.loc "table"]),
  .for_ (.tup ["row","column"]) .val [.loc "places"] [.setIdx (.sub (.loc "cells")<|.loc "row") (.loc "column") (.none)],
  .assign (.name "sums") (.call "sums_of" [.loc "table"]),
  .ret (.tup [.loc "cells",.sub (.loc "sums") (.int 0),.sub (.loc "sums") (.int 1)])]⟩
noncomputable def gp:Fn:=⟨"hidden_in",["cells"],[],
 [.ret (.compIf (.loc "place") (.name "place") .val [.call "places_of" [.loc "cells"]] (.isNone (.sub (.sub (.loc "cells") (.sub (.loc "place") (.int 0))) (.sub (.loc "place") (.int 1)))))]⟩
noncomputable def gD:Fn:=⟨"counts_of",["view"],["places","near","counts","place","rows","columns","came","goals","raised","lowered","start","amount"],
 [.assign (.name "places") (.call "hidden_in" [.sub (.loc "view") (.int 0)]),
  .assign (.name "near") (.call "near_of" [.loc "places"]),
  .assign (.name "counts") (.dict0),
  .for_ (.name "place") .val [.loc "places"] [.setIdx (.loc "counts") (.loc "place") (.int 0)],
  .assign (.tup ["rows","columns"]) (.call "rests_of" [.loc "view"]),
  .while_ (.cmp (.gt ()) (.bi .sum [.loc "rows"])<|.int 0) [.assign (.name "came") (.call "reached" [.loc "near",.loc "counts",.compIf (.tup [.glob "ROW",.loc "k"]) (.name "k") .range [.bi .len [.loc "rows"]] (.cmp (.gt ()) (.sub (.loc "rows")<|.loc "k")<|.int 0),.none]),.assign (.name "goals")<|.compIf (.loc "k") (.name "k") .val [.call "numbers_of" [.loc "came",.glob "COLUMN"]] (.cmp (.gt ()) (.sub (.loc "columns")<|.loc "k")<|.int 0),.if_ (.cmp .eq (.loc "goals")<|.list []) [.raise "NoTable" [.call "numbers_of" [.loc "came",.glob "ROW"],.call "numbers_of" [.loc "came",.glob "COLUMN"]]] [],.assign (.tup ["raised","lowered","start"])<|.call "way_to" [.loc "came",.tup [.glob "COLUMN",.sub (.loc "goals") (.int 0)]],.assign (.name "amount")<|.bi .min [.bin .add (.list [.sub (.loc "rows") (.sub (.loc "start")<|.int 1),.sub (.loc "columns") (.sub (.loc "goals")<|.int 0)]) (.comp (.sub (.loc "counts")<|.loc "place") (.name "place") .val [.loc "lowered"])],.expr<|.call "move" [.loc "counts",.loc "raised",.loc "lowered",.loc "amount"],.setIdx (.loc "rows") (.sub (.loc "start")<|.int 1)<|.bin .sub (.sub (.loc "rows")<|.sub (.loc "start") (.int 1)) (.loc "amount"),.setIdx (.loc "columns") (.sub (.loc "goals")<|.int 0) (.bin .sub (.sub (.loc "columns")<|.sub (.loc "goals") (.int 0))<|.loc "amount")],
  .ret (.loc "counts")]⟩
noncomputable def fh:Fn:=⟨"with_counts",["view","counts"],["table","row","column"],
 [.assign (.name "table") (.comp (.bi .list [.loc "row"]) (.name "row") .val [.sub (.loc "view") (.int 0)]),
  .for_ (.tup ["row","column"]) .val [.bi .list [.loc "counts"]] [.setIdx (.sub (.loc "table")<|.loc "row") (.loc "column") (.sub (.loc "counts")<|.tup [.loc "row",.loc "column"])],
  .ret (.loc "table")]⟩
noncomputable def gv:Fn:=⟨"bounds_at",["view","place"],[],
 [.expr (.call "need_view" [.loc "view"]),
  .if_ (.or_ (.not_<|.call "is_place" [.loc "place",.sub (.loc "view") (.int 0)])<|.cmp .nin (.loc "place") (.call "hidden_in" [.sub (.loc "view") (.int 0)])) [.raise "BadPlace" [.str "no hidden place"]] [],
  .ret (.call "Bounds" [.call "counts_of" [.loc "view"]])]⟩
noncomputable def nH:Fn:=⟨"ends",["view","place"],["bounds","low","high"],
 [.assign (.name "bounds") (.call "bounds_at" [.loc "view",.loc "place"]),
  .assign (.name "low") (.sub (.mcall "Bounds" "Bounds.least" (.loc "bounds") [.loc "place",.none])<|.int 0),
  .assign (.name "high") (.sub (.mcall "Bounds" "Bounds.greatest" (.loc "bounds") [.loc "place",.none])<|.int 0),
  .ret (.tup [.call "with_counts" [.loc "view",.loc "low"],.call "with_counts" [.loc "view",.loc "high"]])]⟩
noncomputable def ic:Fn:=⟨"hide",["table","bound","width"],["hider","first","places","road","others","view","pairs","place","low","high"],
 [.expr (.call "need_table" [.loc "table"]),
  .expr (.call "need_number" [.loc "bound"]),
  .expr (.call "need_number" [.loc "width"]),
  .assign (.name "hider") (.call "Hider" [.loc "table",.loc "bound",.loc "width"]),
  .assign (.name "first") (.compIf (.loc "place") (.name "place") .val [.call "places_of" [.loc "table"]] (.mcall "Hider" "Hider.small" (.loc "hider") [.loc "place"])),
  .if_ (.cmp .eq (.loc "first")<|.list []) [.ret (.tup [.list [],.list [],.list [],.list []])] [],
  .assign (.tup ["places","road"]) (.mcall "Hider" "Hider.peeled" (.loc "hider") [.call "places_of" [.loc "table"]]),
  .if_ (.isNone<|.loc "places") [.raise "NotHidden" [.loc "road"]] [],
  .assign (.name "places") (.mcall "Hider" "Hider.fewest" (.loc "hider") [.loc "places"]),
  .assign (.name "others") (.compIf (.loc "place") (.name "place") .val [.loc "places"] (.not_<|.mcall "Hider" "Hider.small" (.loc "hider") [.loc "place"])),
  .assign (.name "view") (.call "seen" [.loc "table",.loc "places"]),
  .assign (.name "pairs") (.list []),
  .for_ (.name "place") .val [.loc "places"] [.assign (.tup ["low","high"]) (.call "ends" [.loc "view",.loc "place"]),.expr (.meth (.loc "pairs") .append [.tup [.loc "place",.loc "low",.loc "high"]])],
  .ret (.tup [.loc "first",.loc "others",.loc "pairs",.comp (.tup [.loc "place",.sub (.mcall "Hider" "Hider.without" (.loc "hider") [.loc "places",.loc "place"]) (.int 1)]) (.name "place") .val [.loc "others"]])]⟩
noncomputable def DJ:Fn:=⟨"_law_mix",["_law_script","_law_k"],["_law_cell","_law_number"],
 [.assign (.name "_law_cell") (.int 0),
  .if_ (.cmp (.gt ()) (.bi .len [.loc "_law_script"])<|.int 0) [.assign (.name "_law_cell") (.bin .add (.sub (.loc "_law_script")<|.bin .mod (.loc "_law_k") (.bi .len [.loc "_law_script"]))<|.bin .fdiv (.loc "_law_k") (.bi .len [.loc "_law_script"]))] [],
  .assign (.name "_law_number") (.bin .mod (.bin .mul (.bin .add (.loc "_law_cell")<|.bin .mul (.int 7919) (.bin .add (.loc "_law_k")<|.int 1))<|.int 48271)<|.int 2147483647),
  .ret (.bin .mod (.bin .mul (.loc "_law_number") (.loc "_law_number")) (.int 2147483629))]⟩
noncomputable def fN:Fn:=⟨"_law_count",["_law_script","_law_k"],["_law_number","_law_more","_law_some"],
 [.assign (.name "_law_number") (.call "_law_mix" [.loc "_law_script",.loc "_law_k"]),
  .assign (.name "_law_more") (.bin .fdiv (.loc "_law_number")<|.int 8),
  .if_ (.cmp .eq (.bin .mod (.loc "_law_number")<|.int 8)<|.int 0) [.ret (.int 0)] [],
  .assign (.name "_law_some") (.list [.bin .mod (.loc "_law_more") (.int 3),.bin .mod (.loc "_law_more")<|.int 5,.bin .mod (.loc "_law_more")<|.int 12,.sub (.list [.int 0,.int 1,.int 2,.int 40])<|.bin .mod (.loc "_law_more") (.int 4),.bin .mod (.loc "_law_more")<|.int 1000,.bin .add (.bin .mul (.loc "_law_more")<|.bin (.pow ()) (.int 10) (.int 11)) (.bin .mod (.loc "_law_more")<|.int 7)]),
  .ret (.sub (.loc "_law_some") (.bin .mod (.call "_law_mix" [.loc "_law_script",.int 2]) (.int 6)))]⟩
noncomputable def Dn:Fn:=⟨"_law_sides",["_law_script"],["_law_number","_law_high","_law_wide"],
 [.assign (.name "_law_number") (.call "_law_mix" [.loc "_law_script",.int 5]),
  .assign (.name "_law_high") (.bin .add (.int 2)<|.bin .mod (.call "_law_mix" [.loc "_law_script",.int 0]) (.int 3)),
  .assign (.name "_law_wide") (.bin .add (.int 2)<|.bin .mod (.call "_law_mix" [.loc "_law_script",.int 1]) (.int 3)),
  .if_ (.cmp .eq (.bin .mod (.loc "_law_number")<|.int 9)<|.int 0) [.assign (.tup ["_law_high","_law_wide"]) (.sub (.list [.tup [.int 5,.bin .add (.int 2) (.bin .mod (.loc "_law_wide")<|.int 2)],.tup [.bin .add (.int 2) (.bin .mod (.loc "_law_high")<|.int 2),.int 5]])<|.bin .mod (.bin .fdiv (.loc "_law_number")<|.int 9) (.int 2))] [],
  .if_ (.cmp .eq (.bin .mod (.bin .fdiv (.loc "_law_number")<|.int 64)<|.int 9)<|.int 0) [.assign (.tup ["_law_high","_law_wide"]) (.sub (.list [.tup [.int 1,.bin .add (.int 1) (.bin .mod (.bin .fdiv (.loc "_law_number")<|.int 1152)<|.int 8)],.tup [.bin .add (.int 1) (.bin .mod (.bin .fdiv (.loc "_law_number")<|.int 1152)<|.int 8),.int 1]])<|.bin .mod (.bin .fdiv (.loc "_law_number")<|.int 576) (.int 2))] [],
  .ret (.tup [.loc "_law_high",.loc "_law_wide"])]⟩
noncomputable def dp:Fn:=⟨"_law_hide_count",["_law_script","_law_k"],["_law_number","_law_more","_law_some"],
 [.assign (.name "_law_number") (.call "_law_mix" [.loc "_law_script",.loc "_law_k"]),
  .assign (.name "_law_more") (.bin .fdiv (.loc "_law_number")<|.int 8),
  .if_ (.cmp .eq (.bin .mod (.bin .fdiv (.call "_law_mix" [.loc "_law_script",.int 2])<|.int 6)<|.int 9)<|.int 0) [.ret (.call "_law_count" [.loc "_law_script",.loc "_law_k"])] [],
  .assign (.name "_law_some") (.list [.int 0,.bin .add (.int 1)<|.bin .mod (.loc "_law_more") (.int 4),.bin .add (.int 1)<|.bin .mod (.loc "_law_more") (.int 4),.bin .add (.int 5)<|.bin .mod (.loc "_law_more") (.int 9),.bin .add (.int 5)<|.bin .mod (.loc "_law_more") (.int 9),.bin .add (.int 5)<|.bin .mod (.loc "_law_more") (.int 16),.bin .add (.int 4)<|.bin .mod (.loc "_law_more") (.int 9),.bin .mod (.loc "_law_more") (.int 40)]),
  .ret (.sub (.loc "_law_some") (.bin .mod (.loc "_law_number") (.int 8)))]⟩
noncomputable def Do:Fn:=⟨"_law_drawn",["_law_script"],["_law_high","_law_wide","_law_table","_law_row","_law_number"],
 [.assign (.tup ["_law_high","_law_wide"]) (.call "_law_sides" [.loc "_law_script"]),
  .if_ (.cmp .eq (.bin .mod (.call "_law_mix" [.loc "_law_script",.int 7])<|.int 5)<|.int 0) [.assign (.tup ["_law_high","_law_wide"]) (.sub (.list [.tup [.int 1,.loc "_law_wide"],.tup [.loc "_law_high",.int 1]])<|.bin .mod (.bin .fdiv (.call "_law_mix" [.loc "_law_script",.int 7])<|.int 5) (.int 2))] [],
  .assign (.name "_law_table") (.list []),
  .for_ (.name "_law_row") .range [.loc "_law_high"] [.expr (.meth (.loc "_law_table") .append [.comp (.call "_law_hide_count" [.loc "_law_script",.bin .add (.bin .add (.int 8)<|.bin .mul (.loc "_law_wide") (.loc "_law_row")) (.loc "_law_column")]) (.name "_law_column") .range [.loc "_law_wide"]])],
  .assign (.name "_law_number") (.call "_law_mix" [.loc "_law_script",.int 79]),
  .if_ (.cmp (.gt ()) (.bin .mod (.loc "_law_number")<|.int 4)<|.int 0) [.setIdx (.sub (.loc "_law_table")<|.bin .mod (.call "_law_mix" [.loc "_law_script",.int 77]) (.loc "_law_high")) (.bin .mod (.call "_law_mix" [.loc "_law_script",.int 78])<|.loc "_law_wide") (.bin .add (.int 1)<|.bin .mod (.bin .fdiv (.loc "_law_number")<|.int 4) (.int 2))] [],
  .ret (.loc "_law_table")]⟩
noncomputable def fH:Fn:=⟨"_law_bound",["_law_script"],["_law_number"],
 [.assign (.name "_law_number") (.call "_law_mix" [.loc "_law_script",.int 3]),
  .if_ (.cmp .eq (.bin .mod (.loc "_law_number")<|.int 12)<|.int 0) [.ret (.bin .add (.int 1)<|.bin .mod (.bin .fdiv (.loc "_law_number")<|.int 12) (.bin (.pow ()) (.int 10)<|.int 9))] [],
  .ret (.bin .add (.int 1) (.bin .mod (.bin .fdiv (.loc "_law_number") (.int 12)) (.int 4)))]⟩
noncomputable def hX:Fn:=⟨"_law_all",["_law_table"],["_law_found","_law_row"],
 [.assign (.name "_law_found") (.list []),
  .for_ (.name "_law_row") .range [.bi .len [.loc "_law_table"]] [.assign (.name "_law_found") (.bin .add (.loc "_law_found")<|.comp (.tup [.loc "_law_row",.loc "_law_column"]) (.name "_law_column") .range [.bi .len [.sub (.loc "_law_table") (.int 0)]])],
  .ret (.loc "_law_found")]⟩
noncomputable def dc:Fn:=⟨"_law_column_sums",["_law_table"],[],
 [.ret (.comp (.bi .sum [.comp (.sub (.loc "_law_row") (.loc "_law_column")) (.name "_law_row") .val [.loc "_law_table"]]) (.name "_law_column") .range [.bi .len [.sub (.loc "_law_table") (.int 0)]])]⟩
noncomputable def gu:Fn:=⟨"_law_view",["_law_table","_law_places"],["_law_cells","_law_row"],
 [.assign (.name "_law_cells") (.list []),
  .for_ (.name "_law_row") .range [.bi .len [.loc "_law_table"]] [.expr (.meth (.loc "_law_cells") .append [.comp (.sub (.list [.sub (.sub (.loc "_law_table")<|.loc "_law_row") (.loc "_law_at"),.none])<|.bi .int [.cmp .in_ (.tup [.loc "_law_row",.loc "_law_at"]) (.loc "_law_places")]) (.name "_law_at") .range [.bi .len [.sub (.loc "_law_table") (.int 0)]]])],
  .ret (.tup [.loc "_law_cells",.comp (.bi .sum [.loc "_law_row"]) (.name "_law_row") .val [.loc "_law_table"],.call "_law_column_sums" [.loc "_law_table"]])]⟩
noncomputable def fQ:Fn:=⟨"_law_small",["_law_table","_law_bound_here"],[],
 [.ret (.compIf (.loc "_law_place") (.name "_law_place") .val [.call "_law_all" [.loc "_law_table"]] (.cmp2 (.int 1) .le (.sub (.sub (.loc "_law_table") (.sub (.loc "_law_place") (.int 0))) (.sub (.loc "_law_place") (.int 1))) .le (.loc "_law_bound_here")))]⟩
noncomputable def fP:Fn:=⟨"_law_rests",["_law_view_here"],["_law_cells","_law_left","_law_shown"],
 [.assign (.name "_law_cells") (.comp (.comp (.sub (.list [.loc "_law_count_here",.int 0]) (.bi .int [.isNone (.loc "_law_count_here")])) (.name "_law_count_here") .val [.loc "_law_row"]) (.name "_law_row") .val [.sub (.loc "_law_view_here") (.int 0)]),
  .assign (.name "_law_left") (.comp (.bin .sub (.sub (.sub (.loc "_law_view_here")<|.int 1)<|.loc "_law_row")<|.bi .sum [.sub (.loc "_law_cells") (.loc "_law_row")]) (.name "_law_row") .range [.bi .len [.loc "_law_cells"]]),
  .assign (.name "_law_shown") (.call "_law_column_sums" [.loc "_law_cells"]),
  .ret (.tup [.loc "_law_left",.comp (.bin .sub (.sub (.sub (.loc "_law_view_here") (.int 2)) (.loc "_law_column")) (.sub (.loc "_law_shown") (.loc "_law_column"))) (.name "_law_column") .range [.bi .len [.loc "_law_shown"]]])]⟩
noncomputable def fR:Fn:=⟨"_law_whole",["_law_thing"],[],
 [.ret (.and_ (.isi (.loc "_law_thing") ["int"]) (.not_ (.isi (.loc "_law_thing") ["bool"])))]⟩
noncomputable def eM:Fn:=⟨"_law_numbers",["_law_thing","_law_many"],[],
 [.if_ (.or_ (.not_ (.isi (.loc "_law_thing") ["list"])) (.not_ (.bi .all [.comp (.call "_law_whole" [.loc "_law_one"]) (.name "_law_one") .val [.loc "_law_thing"]]))) [.ret (.bool Jd)] [],
  .ret (.cmp .eq (.loc "_law_thing") (.compIf (.loc "_law_number") (.name "_law_number") .range [.loc "_law_many"] (.cmp .in_ (.loc "_law_number") (.loc "_law_thing"))))]⟩
noncomputable def fb:Fn:=⟨"_law_hidden",["_law_view_here"],[],
 [.ret (.compIf (.loc "_law_place") (.name "_law_place") .val [.call "_law_all" [.sub (.loc "_law_view_here") (.int 0)]] (.isNone (.sub (.sub (.sub (.loc "_law_view_here") (.int 0)) (.sub (.loc "_law_place") (.int 0))) (.sub (.loc "_law_place") (.int 1)))))]⟩
noncomputable def g8:Fn:=⟨"_law_gap",["_law_view_here","_law_rows","_law_columns"],["_law_left","_law_below"],
 [.assign (.tup ["_law_left","_law_below"]) (.call "_law_rests" [.loc "_law_view_here"]),
  .ret (.bin .sub (.bi .sum [.comp (.sub (.loc "_law_left") (.loc "_law_row")) (.name "_law_row") .val [.loc "_law_rows"]]) (.bi .sum [.comp (.sub (.loc "_law_below") (.loc "_law_column")) (.name "_law_column") .val [.loc "_law_columns"]]))]⟩
noncomputable def C1:Fn:=⟨"_law_fence",["_law_view_here","_law_place","_law_shut","_law_high"],["_law_number","_law_rows","_law_columns","_law_row","_law_column"],
 [.if_ (.or_ (.not_ (.isi (.loc "_law_shut") ["tuple"])) (.or_ (.cmp .ne (.bi .len [.loc "_law_shut"]) (.int 3)) (.not_ (.call "_law_whole" [.sub (.loc "_law_shut") (.int 0)])))) [.ret (.bool Jd)] [],
  .assign (.tup ["_law_number","_law_rows","_law_columns"]) (.loc "_law_shut"),
  .if_ (.or_ (.not_<|.call "_law_numbers" [.loc "_law_rows",.bi .len [.sub (.loc "_law_view_here") (.int 1)]])<|.not_ (.call "_law_numbers" [.loc "_law_columns",.bi .len [.sub (.loc "_law_view_here") (.int 2)]])) [.ret (.bool Jd)] [],
  .if_ (.and_ (.not_<|.loc "_law_high")<|.cmp .eq (.loc "_law_shut") (.tup [.int 0,.list [],.list []])) [.ret (.bool Jc)] [],
  .if_ (.or_ (.cmp .nin (.sub (.loc "_law_place")<|.int 0)<|.loc "_law_rows")<|.cmp .in_ (.sub (.loc "_law_place")<|.int 1) (.loc "_law_columns")) [.ret (.bool Jd)] [],
  .for_ (.tup ["_law_row","_law_column"]) .val [.call "_law_hidden" [.loc "_law_view_here"]] [.if_ (.and_ (.loc "_law_high")<|.and_ (.cmp .in_ (.loc "_law_column")<|.loc "_law_columns") (.cmp .nin (.loc "_law_row")<|.loc "_law_rows")) [.ret (.bool Jd)] [],.if_ (.and_ (.not_<|.loc "_law_high")<|.and_ (.cmp .in_ (.loc "_law_row")<|.loc "_law_rows") (.and_ (.cmp .nin (.loc "_law_column")<|.loc "_law_columns")<|.cmp .ne (.tup [.loc "_law_row",.loc "_law_column"]) (.loc "_law_place"))) [.ret (.bool Jd)] []],
  .ret (.cmp .eq (.loc "_law_number") (.call "_law_gap" [.loc "_law_view_here",.loc "_law_rows",.loc "_law_columns"]))]⟩
noncomputable def gn:Fn:=⟨"_law_step",["_law_table","_law_hidden_here","_law_step_here","_law_width_here"],["_law_view_here"],
 [.if_ (.or_ (.not_ (.isi (.loc "_law_step_here") ["tuple"])) (.or_ (.cmp .ne (.bi .len [.loc "_law_step_here"]) (.int 3)) (.cmp .nin (.sub (.loc "_law_step_here") (.int 0)) (.loc "_law_hidden_here")))) [.ret (.bool Jd)] [],
  .assign (.name "_law_view_here") (.call "_law_view" [.loc "_law_table",.loc "_law_hidden_here"]),
  .if_ (.or_ (.not_<|.call "_law_fence" [.loc "_law_view_here",.sub (.loc "_law_step_here")<|.int 0,.sub (.loc "_law_step_here")<|.int 1,.bool Jd])<|.not_ (.call "_law_fence" [.loc "_law_view_here",.sub (.loc "_law_step_here")<|.int 0,.sub (.loc "_law_step_here")<|.int 2,.bool Jc])) [.ret (.bool Jd)] [],
  .ret (.cmp .lt (.bin .sub (.sub (.sub (.loc "_law_step_here") (.int 2)) (.int 0)) (.sub (.sub (.loc "_law_step_here") (.int 1)) (.int 0))) (.loc "_law_width_here"))]⟩
noncomputable def eg:Fn:=⟨"_law_is_place",["_law_thing"],[],
 [.ret (.and_ (.isi (.loc "_law_thing") ["tuple"]) (.and_ (.cmp .eq (.bi .len [.loc "_law_thing"]) (.int 2)) (.and_ (.call "_law_whole" [.sub (.loc "_law_thing") (.int 0)]) (.call "_law_whole" [.sub (.loc "_law_thing") (.int 1)]))))]⟩
noncomputable def gm:Fn:=⟨"_law_road",["_law_table","_law_places","_law_bound_here","_law_width_here","_law_road_here"],["_law_hidden_here","_law_number","_law_step_here","_law_small_here"],
 [.if_ (.or_ (.not_ (.isi (.loc "_law_road_here") ["list"])) (.cmp .eq (.bi .len [.loc "_law_road_here"]) (.int 0))) [.ret (.bool Jd)] [],
  .assign (.name "_law_hidden_here") (.bi .list [.loc "_law_places"]),
  .for_ (.tup ["_law_number","_law_step_here"]) .enum [.loc "_law_road_here"] [.if_ (.or_ (.not_<|.call "_law_step" [.loc "_law_table",.loc "_law_hidden_here",.loc "_law_step_here",.loc "_law_width_here"])<|.not_ (.call "_law_is_place" [.sub (.loc "_law_step_here") (.int 0)])) [.ret (.bool Jd)] [],.assign (.name "_law_small_here")<|.cmp2 (.int 1) .le (.sub (.sub (.loc "_law_table")<|.sub (.sub (.loc "_law_step_here")<|.int 0) (.int 0))<|.sub (.sub (.loc "_law_step_here")<|.int 0) (.int 1)) .le (.loc "_law_bound_here"),.if_ (.cmp .ne (.loc "_law_small_here")<|.cmp .eq (.loc "_law_number") (.bin .sub (.bi .len [.loc "_law_road_here"])<|.int 1)) [.ret (.bool Jd)] [],.expr (.meth (.loc "_law_hidden_here") .remove [.sub (.loc "_law_step_here") (.int 0)])],
  .ret (.bool Jc)]⟩
noncomputable def fM:Fn:=⟨"_law_width",["_law_script","_law_table"],["_law_number","_law_greatest"],
 [.assign (.name "_law_number") (.call "_law_mix" [.loc "_law_script",.int 4]),
  .assign (.name "_law_greatest") (.bi .max [.comp (.bi .max [.loc "_law_row"]) (.name "_law_row") .val [.loc "_law_table"]]),
  .if_ (.cmp (.gt ()) (.bin .mul (.bi .len [.loc "_law_table"])<|.bi .len [.sub (.loc "_law_table") (.int 0)])<|.int 9) [.ret (.bin .add (.int 1)<|.bin .mod (.bin .fdiv (.loc "_law_number")<|.int 8) (.int 3))] [],
  .ret (.sub (.list [.bin .add (.int 1) (.bin .mod (.bin .fdiv (.loc "_law_number") (.int 8)) (.int 3)),.bi .max2 [.int 1,.loc "_law_greatest"],.bin .add (.int 1) (.loc "_law_greatest"),.bin .add (.int 1) (.bin .mod (.bin .fdiv (.loc "_law_number") (.int 8)) (.bin (.pow ()) (.int 10) (.int 9)))]) (.bin .mod (.loc "_law_number") (.int 4)))]⟩
noncomputable def fG:Fn:=⟨"_law_class",["_law_e"],["_law_some"],
 [.assign (.name "_law_some") (.list [.isx "_law_e" ["BadTable"],.isx "_law_e" ["BadNumber"],.isx "_law_e" ["NotHidden"]]),
  .if_ (.or_ (.isx "_law_e" ["BadPlace","BadView","NoTable"])<|.or_ (.cmp .ne (.cnt Jd<|.loc "_law_some")<|.int 1) (.not_<|.isx "_law_e" ["ValueError"])) [.ret (.str "other")] [],
  .ret (.sub (.list [.str "table",.str "number",.str "not hidden"]) (.cnt Jc (.loc "_law_some")))]⟩
noncomputable def eB:Fn:=⟨"_law_told",["_law_table","_law_bound_here","_law_width_here"],["_law_e"],
 [.try2 [.ret (.tup [.str "paper",.call "hide" [.loc "_law_table",.loc "_law_bound_here",.loc "_law_width_here"]])] "NotHidden" "_law_e" [.if_ (.cmp .ne (.call "_law_class" [.loc "_law_e"]) (.str "not hidden")) [.ret (.tup [.str "other"])] [],.ret (.tup [.str "road",.attr "_law_e" "road"])] "VeilError" [.ret (.tup [.call "_law_class" [.loc "_law_e"]])]]⟩
noncomputable def g7:Fn:=⟨"_law_bad",["_law_number"],[],
 [.ret (.sub (.list [.int 0,.bin .sub (.bin .sub (.int 0) (.int 1)) (.bin .fdiv (.loc "_law_number") (.int 8)),.bool Jc,.bool Jd,.none,.str "1",.list [.int 1],.tup [.int 1]]) (.bin .mod (.loc "_law_number") (.int 8)))]⟩
noncomputable def EE:Fn:=⟨"law",["_law_script"],["_law_table","_law_bound_here","_law_width_here","_law_handed","_law_number","_law_some","_law_found","_law_kept"],
 [.assign (.name "_law_table") (.call "_law_drawn" [.loc "_law_script"]),
  .assign (.name "_law_bound_here") (.call "_law_bound" [.loc "_law_script"]),
  .assign (.name "_law_width_here") (.call "_law_width" [.loc "_law_script",.loc "_law_table"]),
  .assign (.name "_law_handed") (.comp (.bi .list [.loc "_law_row"]) (.name "_law_row") .val [.loc "_law_table"]),
  .assign (.name "_law_number") (.call "_law_mix" [.loc "_law_script",.int 72]),
  .if_ (.cmp .eq (.bin .mod (.loc "_law_number")<|.int 8)<|.int 0) [.if_ (.cmp .eq (.bin .mod (.bin .fdiv (.loc "_law_number")<|.int 8)<|.int 3)<|.int 0) [.ret (.cmp .eq (.call "_law_told" [.sub (.list [.loc "_law_handed",.list [.list [.int 1],.list []]]) (.int 1),.call "_law_bad" [.bin .fdiv (.loc "_law_number") (.int 24)],.loc "_law_width_here"])<|.tup [.str "table"])] [],.assign (.name "_law_some")<|.list [.loc "_law_bound_here",.loc "_law_width_here"],.setIdx (.loc "_law_some") (.bin .sub (.bin .mod (.bin .fdiv (.loc "_law_number")<|.int 8)<|.int 3)<|.int 1)<|.call "_law_bad" [.bin .fdiv (.loc "_law_number") (.int 24)],.ret (.and_ (.cmp .eq (.call "_law_told" [.loc "_law_handed",.sub (.loc "_law_some")<|.int 0,.sub (.loc "_law_some") (.int 1)])<|.tup [.str "number"])<|.cmp .eq (.loc "_law_handed") (.loc "_law_table"))] [],
  .assign (.name "_law_found") (.call "_law_told" [.loc "_law_handed",.loc "_law_bound_here",.loc "_law_width_here"]),
  .if_ (.or_ (.cmp .ne (.loc "_law_handed")<|.loc "_law_table")<|.cmp .ne (.call "_law_told" [.loc "_law_handed",.loc "_law_bound_here",.loc "_law_width_here"]) (.loc "_law_found")) [.ret (.bool Jd)] [],
  .if_ (.cmp .eq (.sub (.loc "_law_found")<|.int 0)<|.str "road") [.assign (.name "_law_kept") (.bi .list [.sub (.loc "_law_found") (.int 1)]),.expr<|.meth (.sub (.call "_law_told" [.loc "_law_handed",.loc "_law_bound_here",.loc "_law_width_here"])<|.int 1) .append [.int 0],.if_ (.or_ (.cmp .ne (.call "_law_told" [.loc "_law_handed",.loc "_law_bound_here",.loc "_law_width_here"])<|.tup [.str "road",.loc "_law_kept"])<|.cmp .ne (.sub (.loc "_law_found")<|.int 1) (.loc "_law_kept")) [.ret (.bool Jd)] [],.ret (.call "_law_road" [.loc "_law_table",.call "_law_all" [.loc "_law_table"],.loc "_law_bound_here",.loc "_law_width_here",.sub (.loc "_law_found") (.int 1)])] [],
  .ret (.and_ (.cmp .eq (.sub (.loc "_law_found") (.int 0)) (.str "paper")) (.and_ (.isi (.sub (.loc "_law_found") (.int 1)) ["tuple"]) (.cmp .eq (.sub (.sub (.loc "_law_found") (.int 1)) (.int 0)) (.call "_law_small" [.loc "_law_table",.loc "_law_bound_here"]))))]⟩
def tab0:List Fn:=[iF,fS,jr,ng,fJ,dM,iK,fD,e9,dX,dm,iY,gC,hJ,gY,gZ,iT,gr,hP,nL,gp,gD,fh,gv,nH,ic,DJ,fN,Dn,dp,Do,fH,hX,dc,gu,fQ,fP,fR,eM,fb,g8,C1,gn,eg,gm,fM,fG,eB,g7,EE]
def tab:List Fn:=[iF,fS,jr,ng,fJ,dM,iK,fD,e9,dX,dm,iY,gC,hJ,gY,gZ,iT,gr,hP,nL,gp,gD,fh,gv,nH,ic,DJ,fN,Dn,dp,Do,fH,hX,dc,gu,fQ,fP,fR,eM,fb,g8,C1,gn,eg,gm,fM,fG,eB,g7,EE,dw,eJ,cH,C7,fm,dz,eP,ej,eF]
abbrev G1:Gx:=gxE [("MOST",.int 8),("ROW",.str "row"),("COLUMN",.str "column")] tab0 kinds7
theorem most:G1.glob "MOST"=Ja (.int 8):=rfl
theorem ip(h:Q (.str "row") Jb):F8 Q (G1.glob "ROW"):=h
theorem g9(h:Q (.str "column") Jb):F8 Q (G1.glob "COLUMN"):=h
abbrev CR(C:Cx)(G:Gx)(m b:Jq->Option Jf):Prop:=FP tab C G m b
theorem bl(i:Nat)(h:tab[i]? =Ja t):t∈tab:=QC h
theorem rg{n:Nat}(h:n<=8): -1000000<(n:Int)/\(n:Int)<=1000000:=⟨KO (by decide)<|QU n,KB.mpr<|Qq h (by decide)⟩
section
variable{C:Cx}{mg mb:Jq->Option Jf}{n:Nat}{Q:D->Bool->Prop}{X:DX}
noncomputable def Hg(ns:List Int)(k:Int):Int:=if 0<ns.length then(ns[(k.fmod ns.length).toNat]?.getD 0)+k.fdiv ns.length else 0
def Db(ns:List Int)(k:Int):Int:=
 let m:=((Hg ns k+7919*(k+1))*48271).fmod 2147483647
 (m*m).fmod 2147483629
theorem ey(e:CR C G1 mg mb){ns:List Int}(s:ns.length<=63)(h:Q (.int (Db ns k)) Jc):aR (aN C (n+1)) "_law_mix" [(.scr ns,b),(.int k,G)] Q X:=by
 refine e.fn DJ (bl 26 rfl) rfl λl u P PX g=> ?_;dsimp only[DJ];dsimp only[aY,b0,bo];refine bq ?_;dsimp only[aM,bA,aH,aL,Qa,aO,aB,aA];refine cb ?_
 (dsimp only[aW,bv,aM,bj,bX,kl,aC,aE,b6,aD,aF,Qa,aJ,aB,aA,aK,yq,cQ];refine⟨rfl,?_⟩)
 have fin:∀c:Int,c=Hg ns k->CQ G1 l u (DJ.b.drop 2) (Nb "_law_script" b (D.scr ns)<|Nb "_law_k" G (D.int k)<|Nb "_law_cell" Jc (D.int c)<|No "_law_number" Jb<|[]) P PX:=λc σ=>by
  dsimp only[DJ,Wz];refine bq ?_
  (dsimp only[bp,aM,aD,aF,Qa,aJ,aB,aA,aK,bu,d4,lM,cm,bA,aH,aL,aO];refine⟨.inl<|by decide,.inr<|by decide,by decide,?_⟩)
  refine bI ?_;dsimp only[bp,aM,aD,aF,Qa,aA,aB,aK,bu,lM,cm,aH];refine⟨.inl ?_,by decide,?_⟩
  .have:=fx (a:=(c+7919*(k+1))*48271) (b:=2147483647) (by decide);exact Nat.lt_trans (Int.natAbs_lt_natAbs_of_nonneg_of_lt this.1 this.2)<|by decide
  .rw[σ];exact g.qr h
 refine cG (λi=> ?_) λi=> ?_
 .refine bq ?_;have M:=fx (a:=k) (b:=ns.length) i
  (dsimp only[bp,bj,bX,aC,aE,b6,aD,aF,Qa,aJ,aB,aA,aK,yq,cQ,bu,cY,aQ,cm,f9];refine⟨rfl,?_⟩)
  refine⟨by exact Int.ne_of_gt i,?_⟩;refine aZ (yb M.1 M.2) ?_
  (dsimp only[bu,d4,bA,aH,aL,Qa,aO,aB,aA];refine⟨rfl,?_⟩)
  refine⟨by exact Int.ne_of_gt i,by exact Ga s rfl,fin _ ?_⟩;rw[Hg,Ug (by exact Kc.mp i)]
 .exact fin 0<|by rw[Hg,Uf (by exact λq=>i<|Kc.mpr q)]
theorem ui(ns:List Int)(k:Int):0<=Db ns k/\Db ns k<2147483629:=fx<|by decide
def lm(ns:List Int)(k:Int):Int:=
 let m:=Db ns k
 let r:=m.fdiv 8
 if m.fmod 8=0 then 0 else [r.fmod 3,r.fmod 5,r.fmod 12,[0,1,2,40][(r.fmod 4).toNat]?.getD 0,r.fmod 1000,r*10^11+r.fmod 7][((Db ns 2).fmod 6).toNat]?.getD 0
theorem tY(e:CR C G1 mg mb){ns:List Int}(s:ns.length<=63)(h:Q (.int (lm ns k)) Jc):aR (aN C (n+2)) "_law_count" [(.scr ns,b),(.int k,G)] Q X:=by
 refine e.fn fN (bl 27 rfl) rfl λM u P PX g=> ?_;dsimp only[fN];dsimp only[aY,b0,bo];refine bq ?_
 (dsimp only[aP,CD,aC,aG,aX,aE,aI,aU,aD,aF,Qa,aJ,aB,aA,aK,bu,aH,bt,f9,bH];refine⟨rfl,?_⟩)
 refine g.hc<|ey e s ?_;dsimp only[aA,bu,bA,aH,aL,Qa,aO,aB];refine bq ?_
 (dsimp only[bp,aM,aD,aF,Qa,aJ,aB,aA,aK,bu,cY,bA,aH,aL,aO];refine⟨by decide,by decide,?_⟩)
 refine cb ?_
 (dsimp only[aW,bv,cM,DP,aM,bp,aD,aF,Qa,aJ,aB,aA,aK,bu,cm,bR];refine⟨by decide,⟨rfl,rfl⟩,?_⟩)
 rw[lm] at h;generalize Db ns k=m at h ⊢;refine cG (λi=> ?_) λi=> ?_
 .refine bI ?_;dsimp only[aM,aH];rw[Ug i] at h;exact g.qr h
 .refine bq ?_
  (dsimp only[bE,CE,C8,aC,aG,aT,aX,aE,aI,aV,aU,bp,aM,aD,aF,Qa,aJ,aB,aA,aK,bu,cm,qk,lM,d4,bt,aQ];refine⟨by decide,by decide,by decide,by decide,by decide,?_⟩)
  have N:=fx (a:=m.fdiv 8) (b:=4) (by decide);refine aZ (show C4 (.list [.int 0,.int 1,.int 2,.int 40]) (.int<|(m.fdiv 8).fmod 4)=_ from gS (l:=[0,1,2,40]) N.1 N.2) ?_
  (dsimp only[bu,bt,bA,aH,aL,Qa,aO,aA,aB];refine⟨by decide,by decide,by decide,by decide,.inr<|by decide,by decide,by decide,?_⟩)
  refine bI ?_
  (dsimp only[aQ,bp,aM,aP,CD,aC,aG,aX,aE,aI,aU,aH,bt,aD,aF,Qa,aB,aA,aK,f9,bH,bk];refine⟨rfl,?_⟩)
  refine g.hc<|ey e s ?_
  (dsimp only[cm];refine⟨by decide,?_⟩)
  have q:=fx (a:=Db ns 2) (b:=6) (by decide);rw[show∀a b c d e f:Int,C4 (.list [.int a,.int b,.int c,.int d,.int e,.int f]) (.int<|(Db ns 2).fmod 6)=_ from λa b c d e f=>gS (l:=[a,b,c,d,e,f]) q.1 q.2];dsimp only[cE,bu,aH];rw[Uf i] at h;exact g.qr h
theorem tA(ns:List Int)(k:Int):0<=lm ns k:=by
 unfold lm;have U:=(ui ns k).1;generalize Db ns k=m at U ⊢;dsimp only
 split
 .exact QX 0
 .have y:0<=m.fdiv 8:=Int.fdiv_nonneg U (by decide);generalize m.fdiv 8=r at y ⊢;generalize ((Db ns 2).fmod 6).toNat=j;have h:∀b:Int,0<b->0<=r.fmod b:=λb R=>(fx R).1;have w:0<=([0,1,2,40][(r.fmod 4).toNat]?.getD 0:Int):=by
   generalize (r.fmod 4).toNat=i
   match i with
   |0|1|2|3=>decide
   |_+4=>exact QX 0
  match j with
  |0=>exact h 3<|by decide
  |1=>exact h 5<|by decide
  |2=>exact h 12<|by decide
  |3=>exact w
  |4=>exact h 1000<|by decide
  |5=>exact YD (Int.mul_nonneg y<|by decide)<|h 7 (by decide)
  |_+6=>exact QX 0
end
section
variable{C:Cx}{mg mb:Jq->Option Jf}{n:Nat}{Q:D->Bool->Prop}{X:DX}
theorem r9{L:Type}{t:List (List L)}(R:CI t h w)(g:L->D):C4 (.list (t.map λr=> .list (r.map g))) (.int 0)=Ja (.list ((CK t 0).map g)):=jc (j:=0) (by rw[Qu,(R.at_ R.h1).1];rfl)
theorem tD(e:CR C G1 mg mb){q:Type}{t:List (List q)}(R:CI t h w)(g:q->D)(k:Q (.list ((Eh h w).map dP)) Jc):aR (aN C (n+1)) "_law_all" [(.list (t.map λr=> .list (r.map g)),b)] Q X:=by
 refine e.fn hX (bl 32 rfl) rfl λl u P PX F=> ?_;dsimp only[hX];dsimp only[aY,b0,bo];have U:=R.h8;have d:=R.w8;have s:h*w<=8*8:=Yi U d;refine bq ?_
 (dsimp only[bE,CE,C8,aE,aI,aV,aU,bA,aH,aL,Qa,aO,aB,aA];refine⟨by decide,?_⟩)
 refine d7 rfl ?_
 (dsimp only[CE,aC,aG,aX,aE,aI,aU,bj,bX,bt,bA,h9,hZ,b6,aD,aF,Qa,aJ,aB,aA,aK,cK,cQ];refine⟨rfl,?_⟩)
 rw[Qd,R.len];refine⟨⟨by exact HA _,by exact Fh U⟩,?_⟩;refine eW (λi L=>∃v c,L=(Nb "_law_table" c (.list<|t.map λr=> .list (r.map g))<|Nb "_law_found" Jc (.list<|(Eh i w).map dP)<|No "_law_row" v<|[])) ⟨_,_,rfl⟩ ?_ ?_
 .rintro j L H ⟨v,c,rfl⟩ K m;dsimp only[cj,aL,Qa,aO,aA,aB,bK];refine bq ?_;dsimp only[bp,aD,aF,Qa,aB,aA,aK,bk];refine ca rfl ?_
  (dsimp only[CE,jB,tgl,C8,aC,aG,aX,aE,aI,aU,bj,bX,bt,h9,hZ,b6,aQ,aM,aD,aF,Qa,aB,aA,aK];refine⟨rfl,?_⟩)
  refine aZ (r9 R g) ?_;dsimp only[cK,cQ];rw[Qd,(R.at_ R.h1).2];refine⟨⟨by exact HA _,by exact Fh d⟩,c7 (λ(c:Nat)=> .tup [.int j,.int c]) (λc σ K k=> ?_) ?_⟩
  .dsimp only[bw,cP,cj,aO,Qa,aL,aB,aA,bK];dsimp only[D0]
   (dsimp only[bG,CE,C2,aC,aG,aT,aX,aE,aI,aV,aU,aD,aJ,Qa,aF,aB,aA,aK,bu,bt];refine⟨by decide,?_⟩)
   exact k
  .dsimp only[bH];rw[uG,c6 _ dA];dsimp only[aA,bA,aH,aL,Qa,aB];refine⟨?_,?_⟩
   .rw[Qd,jo];refine dJ<|Qq (Yi (show j+1<=8 by exact D8 H U) d) (by decide)
   .exact m _ ⟨_,_,rfl⟩
 .rintro L ⟨v,c,rfl⟩;refine cW ?_
  (dsimp only[cq,aL,Qa,aO,aB,aA,aF,aJ,aK,bM];refine⟨rfl,?_⟩)
  exact F.qr k
end
section
variable{C:Cx}{mg mb:Jq->Option Jf}{n:Nat}{Q:D->Bool->Prop}{X:DX}
theorem Be(e:CR C G1 mg mb)(R:CI t h w)(k:Q (dI (FM t w)) Jc):aR (aN C (n+1)) "_law_column_sums" [(dT t,b)] Q X:=by
 refine e.fn dc (bl 33 rfl) rfl λl u P PX g=> ?_;dsimp only[dc];dsimp only[aY,b0,bo];have d:=R.w8;refine bI ?_;refine ca rfl ?_
 (dsimp only[CE,aC,aG,aX,aE,aI,aU,bj,bX,bt,h9,hZ,b6,aQ,aM,aD,aF,Qa,aA,aK];refine⟨rfl,?_⟩)
 refine aZ (iw R) ?_;dsimp only[cK,cQ];rw[R.len0];refine⟨⟨by exact HA _,by exact Fh d⟩,c7 (λ(c:Nat)=> .int ((t.map λr=>r[c]?.getD 0).sum)) (λc σ K k=> ?_) ?_⟩
 .dsimp only[bw,cP,cj,aO,Qa,aL,aB,aA,bK];dsimp only[D0]
  (dsimp only[bj,gF,aC,aE,b6];refine⟨rfl,?_⟩)
  refine ca rfl ?_;dsimp only[CE,dl,aC,aG,aX,aE,aI,aU,cJ,aD,aJ,Qa,aF,aA,aB,aK,bk,bH,cI];refine bN dI (λr=> .int (r[c]?.getD 0)) (λr T K k=> ?_) ?_
  .dsimp only[bw,cP,cj,aO,Qa,aL,aB,aA,bK];dsimp only[D0];dsimp only[aQ,aD,aJ,Qa,aF,aB,aA,aK,bk];refine aZ (gJ<|by rw[R.row r T];exact σ) ?_;exact k
  .refine fX (eD _ _) ?_;exact k
 .dsimp only[aH];rw[FM,dI,QE] at k;exact g.qr k
theorem zT(e:CR C G1 mg mb)(R:CI t h w){ps:List (Nat×Nat)}(k:Q (G5 t (Gg ps) h w) Jc):aR (aN C (n+2)) "_law_view" [(dT t,b),(.list (ps.map dP),G)] Q X:=by
 refine e.fn gu (bl 34 rfl) rfl λl u P PX g=> ?_;dsimp only[gu];dsimp only[aY,b0,bo];have U:=R.h8;have d:=R.w8;refine bq ?_
 (dsimp only[bE,CE,C8,aE,aI,aV,aU,bA,aH,aL,Qa,aO,aB,aA];refine⟨by decide,?_⟩)
 refine d7 rfl ?_
 (dsimp only[CE,aC,aG,aX,aE,aI,aU,bj,bX,bt,bA,h9,hZ,b6,aD,aF,Qa,aJ,aB,aA,aK,cK,cQ];refine⟨rfl,?_⟩)
 rw[R.lenD];refine⟨⟨by exact HA _,by exact Fh U⟩,?_⟩;refine eW (λi L=>∃v,L=(Nb "_law_table" b (dT t)<|Nb "_law_places" G (.list<|ps.map dP)<|Nb "_law_cells" Jc (dC<|Dt t (Gg ps) i w)<|No "_law_row" v<|[])) ⟨_,rfl⟩ ?_ ?_
 .rintro j L H ⟨v,rfl⟩ K m;dsimp only[cj,aL,Qa,aO,aA,aB,bK];refine i6 ?_
  (dsimp only[aF,Qa,aB,aA,aK,dl,lE,aL];refine⟨trivial,?_⟩)
  refine ca rfl ?_
  (dsimp only[CE,aC,aG,aX,aE,aI,aU,bj,bX,bt,h9,hZ,b6,aQ,aM,aD,aF,Qa,aB,aA,aK];refine⟨rfl,?_⟩)
  refine aZ (iw R) ?_;dsimp only[cK,cQ];rw[R.len0];refine⟨⟨by exact HA _,by exact Fh d⟩,c7 (λ(c:Nat)=>dO<|EG t (Gg ps) j c) (λc σ K k=> ?_) ?_⟩
  .dsimp only[bw,cP,cj,aO,Qa,aL,aB,aA,bK];dsimp only[D0];dsimp only[aQ,bj,tK,aC,aE,b6,aW,bv,ky,aD,aJ,Qa,aF,aB,aA,aK,bG,CE,C2,aG,aT,aI,aV,bE,C8,aX,aU,fq,bt,bk];refine aZ (hA R H) ?_;dsimp only[bk];refine aZ (im R H σ) ?_
   (dsimp only[bu,bt];refine⟨by decide,rfl,by decide,?_⟩)
   rw[lT];refine⟨⟨rfl,b8 dP (λp=>rfl) ps⟩,?_⟩;change K (dO<|cond (Gg ps j c) Jb (Ja<|cell t j c)) Jb at k;change FL _ (C4 (.list [.int (cell t j c),.none])<|.int (if Gg ps j c=Jc then 1 else 0))
   revert k
   cases Gg ps j c with
   |true=>exact λk=>k
   |false=>exact λk=>k
  .refine⟨rfl,rfl,?_,m _ ⟨Ja (.int j,Jc),?_⟩⟩
   .rw[Qd,Dt,Qd,QA];exact df<|by exact Fy H<|FS U rfl
   .rw[qI];rfl
 .rintro L ⟨v,rfl⟩;refine cW ?_
  (dsimp only[dQ,cD,aT,c5,aV,lE,cq,aL,Qa,aO,aB,aA,aF,aJ,aK,bM];refine⟨rfl,?_⟩)
  refine ca rfl ?_;dsimp only[CE,aC,aG,aX,aE,aI,aU,cJ,aD,aF,Qa,aJ,aB,aA,aK,bk,bH,cI];refine bN dI (λr=> .int r.sum) (λr T K k=> ?_) ?_
  .dsimp only[bw,cP,cj,aO,Qa,aL,aA,aB,bK];dsimp only[D0]
   (dsimp only[bj,gF,aC,aE,b6,aD,aJ,Qa,aF,aA,aB,aK,dl];refine⟨rfl,?_⟩)
   refine fX (eH _) ?_;exact k
  .refine⟨rfl,?_⟩;refine pj ?_
   (dsimp only[aP,CD,aC,aG,aX,aE,aI,aU,aD,aF,Qa,aJ,aB,aA,aK,bk,aS,bH,ch,bL];refine⟨rfl,?_⟩)
   refine g.hc<|Be e R ?_
   (dsimp only[aA,bk];refine⟨rfl,by decide,?_⟩)
   rw[G5,Gb,dI,QE] at k;exact g.qr k
end
section
variable{C:Cx}{mg mb:Jq->Option Jf}{n:Nat}{Q:D->Bool->Prop}{X:DX}
theorem gq(e:CR C G1 mg mb)(k:Q (.bool (decide (i>=0))) Jc):aR (aN C (n+1)) "is_count" [(.int i,b)] Q X:=by
 refine e.fn dM (bl 5 rfl) rfl λl c P PX g=> ?_;dsimp only[dM];dsimp only[aY,b0,bo];refine bI ?_
 (dsimp only[cp,aW,aH,aM,aD,aF,Qa,aA,aK,ru,bO,bv,cZ,yr,i8,lU,yo];refine⟨rfl,rfl,?_⟩)
 exact g.qr k
theorem uP(e:CR C G1 mg mb)(k:Q (.bool (GC l)) Jc):aR (aN C (n+1)) "is_grid" [(dL l,b)] Q X:=by
 refine e.fn iK (bl 6 rfl) rfl λM c P PX g=> ?_;dsimp only[iK];dsimp only[aY,b0,bo];unfold GC at k;refine cb ?_
 (dsimp only[cy,bv,aA,bO,ir,ct,lU,bj,bX,aC,aE,b6,aD,aF,Qa,aK,cK,cQ,aM,ko,cZ,oU,i8,cx,aB];refine⟨rfl,rfl,?_⟩)
 dsimp only[most];dsimp only[BU,ko];rw[Qd];have no:¬ (1<=l.length/\l.length<=8)->Q (.bool Jd) Jc:=λh=>by rw[Ud h] at k;exact k
 refine cG (λN=> ?_) λN=> ?_
 .refine kI (λp=> ?_) λp=> ?_
  .have T:1<=l.length/\l.length<=8:=by exact⟨KB.mp N,KB.mp p⟩
   rw[Uc T,Yn] at k;clear no;have W:l[0]? =Ja (CK l 0):=by rw[CK,Qg (by exact KB.mp N)];rfl
   have s:C4 (dL l) (.int 0)=Ja (.list<|CK l 0):=jc (j:=0) (by rw[Qu,W];rfl);refine cb ?_
   (dsimp only[cy,bv,aA,bO,ir,ct,lU,bj,bX,aC,aE,b6,aQ,aM,aD,aF,Qa,aK,ko,ik];refine⟨rfl,?_⟩)
   refine ca rfl ?_;dsimp only[CE,dl,aC,aG,aX,aE,aI,aU,cJ,aD,aF,Qa,aA,aK,bk,bH,cI];refine bN D.list (λo0=> .bool Jc) (λr f K k=> ?_) ?_
   .dsimp only[bw,cP,cj,aO,Qa,aL,aB,aA,bK];dsimp only[D0]
    (dsimp only[cZ,aD,aJ,Qa,aF,aB,aA,aK,oU,i8];refine⟨rfl,?_⟩)
    exact k
   .refine jy (ew _ _) ?_;rw[show(Kz (λo0=>Jc) l).all id=Jc from by rw[i9];exact Qx.mpr λo0 o0=>rfl]
    (dsimp only[cx,aB];refine⟨rfl,?_⟩)
    refine aZ s ?_;dsimp only[cK,cQ];dsimp only[most];dsimp only[BU,ko];have no:¬ (1<=(CK l 0).length/\(CK l 0).length<=8)->Q (.bool Jd) Jc:=λh=>by rw[Ud h] at k;exact k
    refine cG (λN=> ?_) λN=> ?_
    .refine kI (λp=> ?_) λp=> ?_
     .rw[Uc (by exact⟨KB.mp N,KB.mp p⟩),Yn] at k;refine bI ?_
      (dsimp only[bj,ik,aH,aC,aE,b6];refine⟨rfl,?_⟩)
      refine ca rfl ?_;dsimp only[CE,dl,aC,aG,aX,aE,aI,aU,cJ,aD,aF,Qa,aA,aK,bk,bH,cI];refine bN D.list (λr=> .bool (decide<|r.length=(CK l 0).length)) (λr f K k=> ?_) ?_
      .dsimp only[bw,cP,cj,aO,Qa,aL,aB,aA,bK];dsimp only[D0]
       (dsimp only[aW,cM,DP,bj,bX,aC,aE,b6,aQ,aM,aD,aJ,Qa,aF,aA,aB,aK,bR,cK,cQ];refine⟨rfl,rfl,?_⟩)
       refine aZ s ?_
       (dsimp only[cK,cQ];refine⟨⟨rfl,rfl⟩,?_⟩)
       rw[show decide ((r.length:Int)=((CK l 0).length:Int))=decide (r.length=(CK l 0).length) from decide_eq_decide.mpr (by exact KT)];exact k
      .refine jy (ew _ _) ?_;rw[i9];exact g.qr k
     .refine bI ?_;dsimp only[c4,aH];exact g.qr<|no (by exact λq=>p<|KB.mpr q.2)
    .refine bI ?_;dsimp only[c4,aH];exact g.qr<|no (by exact λq=>N<|KB.mpr q.1)
  .refine bI ?_;dsimp only[c4,aH];exact g.qr<|no (by exact λq=>p<|KB.mpr q.2)
 .refine bI ?_;dsimp only[c4,aH];exact g.qr<|no (by exact λq=>N<|KB.mpr q.1)
theorem rO(e:CR C G1 mg mb)(R:CI t h w)(k:Q (.bool Jc) Jc):aR (aN C (n+1)) "is_grid" [(dC t,b)] Q X:=by
 rw[Cd];exact uP e<|by rw[R.grid];exact k
def NN(t:List (List Int)):Prop:=∀r∈t,∀i∈r,0<=i
end
section
variable{C:Cx}{mg mb:Jq->Option Jf}{n:Nat}{Q:D->Bool->Prop}{X:DX}
theorem lL(e:CR C G1 mg mb)(R:CI t h w)(k:Q (.list ((Eh h w).map dP)) Jc):aR (aN C (n+1)) "places_of" [(dC t,b)] Q X:=by
 refine e.fn gC (bl 12 rfl) rfl λl f P PX g=> ?_;dsimp only[gC];dsimp only[aY,b0,bo];have U:=R.h8;have d:=R.w8;refine bq ?_
 (dsimp only[bE,CE,C8,aE,aI,aV,aU,bA,aH,aL,Qa,aO,aB,aA];refine⟨by decide,?_⟩)
 refine d7 rfl ?_
 (dsimp only[CE,aC,aG,aX,aE,aI,aU,bj,bX,bt,bA,h9,hZ,b6,aD,aF,Qa,aJ,aB,aA,aK,cK,cQ];refine⟨rfl,?_⟩)
 rw[Qd,R.len];refine⟨⟨by exact HA _,by exact Fh U⟩,?_⟩;refine eW (λi L=>∃u v,L=(Nb "grid" b (dC t)<|Nb "found" Jc (.list<|(Eh i w).map dP)<|No "row" u<|No "column" v<|[])) ⟨_,_,rfl⟩ ?_ ?_
 .rintro j L H ⟨u,v,rfl⟩ K m;dsimp only[cj,aL,Qa,aO,aB,aA,bK];refine d7 rfl ?_
  (dsimp only[CE,aC,aG,aX,aE,aI,aU,bj,bX,bt,bA,h9,hZ,b6,aQ,aM,aD,aF,Qa,aJ,aB,aA,aK];refine⟨rfl,?_⟩)
  refine aZ (l8 R) ?_;dsimp only[cK,cQ];rw[Qd,(R.at_ R.h1).2];refine⟨⟨by exact HA _,by exact Fh d⟩,?_⟩;refine eW (λi L=>∃v,L=(Nb "grid" b (dC t)<|Nb "found" Jc (.list<|(Eh j w++(Qc i).map λc=>(j,c)).map dP)<|Nb "row" Jc (.int j)<|No "column" v<|[])) ⟨v,by rw[List.range_zero,WH,QH]⟩ ?_ ?_
  .rintro i L V ⟨v,rfl⟩ K m;dsimp only[cj,aL,Qa,aO,aA,aB,bK];refine i6 ?_
   (dsimp only[aF,Qa,aB,aA,aK,dl,dQ,cD,aT,c5,aV,cq,aL,cA];refine⟨trivial,by decide,rfl,?_⟩)
   refine⟨?_,m _ ⟨Ja (.int i,Jc),?_⟩⟩
   .rw[Qd,QG,jo,Qd,QA];have:=Yi (show j<=8 by exact Kw<|Fy H U) d;exact df<|by exact Ga (Kk this<|Kw (Fy V d)) rfl
   .rw[<-hW,<-Kt,QD (l₂:=[(j,i)])];rfl
  .rintro L ⟨v,rfl⟩;exact m _ ⟨_,_,rfl⟩
 .rintro L ⟨u,v,rfl⟩;refine cW ?_
  (dsimp only[cq,aL,Qa,aO,aB,aA,aF,aJ,aK,bM];refine⟨rfl,?_⟩)
  exact g.qr k
theorem qJ(e:CR C G1 mg mb)(R:CI c h w){r s:List Int}(z:r.length=h)(E:s.length=w)(k:Q (.tup [dI ((Qc h).map (E0 c r)),dI ((Qc w).map (FB c s))]) Jc):
  aR (aN C<|n+1) "rests_of" [(.tup [dC c,dI r,dI s],b)] Q X:=by
 refine e.fn gY (bl 14 rfl) rfl λl u P PX g=> ?_;dsimp only[gY];dsimp only[aY,b0,bo];have U:=R.h8;have d:=R.w8;refine c9 rfl ?_;dsimp only[aD,aF,Qa,aJ,aB,aA,aK,bV,tgl,bC,bM,bD,bJ,aS,f8,gf,f0,gb,hU,gN,f7,cV,f6,gc,sR,aL,aO,bK];refine bq ?_;refine ca rfl ?_
 (dsimp only[CE,aC,aG,aX,aE,aI,aU,bj,bX,bt,h9,hZ,b6,aD,aF,Qa,aJ,aB,aA,aK,cK,cQ];refine⟨rfl,?_⟩)
 rw[Qd,z];refine⟨⟨by exact HA _,by exact Fh U⟩,c7 (λk=> .int (E0 c r k)) (λi V K k=> ?_) ?_⟩
 .dsimp only[bw,cP,cj,aO,Qa,aL,aA,aB,bK];dsimp only[D0];dsimp only[bp,bj,gF,aC,aE,b6,aQ,aD,aJ,Qa,aF,aA,aB,aK,bk];refine aZ (gJ<|by exact zq V z.symm) ?_
  (dsimp only[bu,eA];refine⟨rfl,?_⟩)
  refine cL rfl ?_;dsimp only[CE,dl,aC,aG,aX,aE,aI,aU,cJ,aQ,aD,aJ,Qa,aF,aA,aB,aK,bk];refine aZ (gP R V) ?_;dsimp only[cI,bk,bH];refine cz dO dO (λo=>o.isSome) (λo a=> ?_) ?_
  .dsimp only[bw,cP,cj,aO,Qa,aL,aB,aA,bK];refine⟨λT Y=> ?_,λo0 K k=> ?_⟩
   .dsimp only[Ey];dsimp only[dG,bv,aD,aJ,Qa,aF,aB,aA,aK];refine⟨(fB o).1,?_⟩;rw[(fB o).2,Bool.not_not];exact Y
   .dsimp only[D0];dsimp only[aD,aJ,Qa,aF,aB,aA,aK];rw[show tg0 (dO o) (Ja ["count"])=Jb from by rcases o with⟨⟩<;>rfl];exact k
  .rw[show((CK c i).filter λo=>o.isSome).map dO=((CK c i).filter λo=>(id o).isSome).map (λo=>dO<|id o) from rfl,mx];exact k
 .dsimp only[bA,aH,aL,Qa,aO,aB,aA];refine bq ?_
  (dsimp only[bE,CE,C8,aE,aI,aV,aU,bA,aH,aL,Qa,aO,aB,aA];refine⟨by decide,?_⟩)
  refine d7 rfl ?_
  (dsimp only[CE,aC,aG,aX,aE,aI,aU,bj,bX,bt,bA,h9,hZ,b6,aD,aF,Qa,aJ,aB,aA,aK,cK,cQ];refine⟨rfl,?_⟩)
  rw[Qd,E];refine⟨⟨by exact HA _,by exact Fh d⟩,?_⟩;refine eW (λi L=>∃v,L=(Nb "view" Jd (.tup [dC c,dI r,dI s])<|Nb "cells" Jd (dC c)<|Nb "rows" Jd (dI r)<|Nb "columns" Jd (dI s)<|Nb "found" Jc (.list<|(Qc h).map λk=> .int (E0 c r k))<|Nb "others" Jc (dI<|(Qc i).map (FB c s))<|No "k" v<|[])) ⟨_,rfl⟩ ?_ ?_
  .rintro j L H ⟨v,rfl⟩ K m;dsimp only[cj,aL,Qa,aO,aA,aB,bK];refine i6 ?_
   (dsimp only[aF,Qa,aB,aA,aK,dl,nY,aL,bp,bj,gF,aC,aE,b6,aQ,aD,bk];refine⟨trivial,?_⟩)
   refine aZ (gJ<|by exact zq H E.symm) ?_
   (dsimp only[bu,eA];refine⟨rfl,?_⟩)
   refine cL rfl ?_;dsimp only[CE,dl,aC,aG,aX,aE,aI,aU,cJ,aD,aF,Qa,aB,aA,aK,bk,bH,cI];refine cz dR (λσ=>dO<|σ[j]?.getD Jb) (λσ=>(σ[j]?.getD Jb).isSome) (λσ f=> ?_) ?_
   .dsimp only[bw,cP,cj,aO,Qa,aL,aB,aA,bK];refine⟨λT Y=> ?_,λo0 K k=> ?_⟩
    .dsimp only[Ey];dsimp only[dG,bv,aQ,aD,aJ,Qa,aF,aA,aB,aK];refine aZ (nb<|by rw[R.row σ f];exact H) ?_;refine⟨(fB _).1,?_⟩;rw[(fB _).2,Bool.not_not];exact Y
    .dsimp only[D0];dsimp only[aQ,aD,aJ,Qa,aF,aA,aB,aK,bk];refine aZ (nb<|by rw[R.row σ f];exact H) ?_;rw[show∀o t,tg0 (dO o) t=Jb from λo t=>by rcases o with⟨⟩<;>rfl];exact k
   .refine fX (mx _ _) ?_;refine⟨rfl,rfl,?_⟩;refine⟨?_,m _ ⟨Ja (.int j,Jc),?_⟩⟩
    .rw[Qd,Qd,QA];exact df<|by exact Fy H<|FS d rfl
    .rw[<-hW,xZ];rfl
  .rintro L ⟨v,rfl⟩;refine cW ?_
   (dsimp only[dQ,cD,aT,c5,aV,cq,aL,Qa,aO,aB,aA,aF,aJ,aK,bM];refine⟨rfl,rfl,by decide,?_⟩)
   rw[dI,QE] at k;exact g.qr k
end
structure H7(c:List (List (Option Int)))(r s:List Int)(h w:Nat):Prop where
 R:CI c h w
 hr:r.length=h
 hs:s.length=w
 nc:∀row∈c,∀i,Ja i∈row->0<=i
 nr:∀i∈r,0<=i
 ns:∀i∈s,0<=i
 n1:∀k,k<h->0<=E0 c r k
 n2:∀k,k<w->0<=FB c s k
 eq:((Qc h).map (E0 c r)).sum=((Qc w).map (FB c s)).sum
theorem rq{f:Nat->Int}(N:1<=n)(h:∀k,k<n->0<=f k):(Qc n).map f≠ []/\0<=E5 ((Qc n).map f):=by
 have U:(Qc n).map f≠ []:=by
  intro q;have:=Uj YF q;rw[Qd,QA,Ww] at this;exact WJ N this
 refine⟨U,?_⟩;obtain⟨a,T,e⟩:=Ql.mp (iX U).1;rw[<-e];exact h a<|Qf.mp T
section
variable{C:Cx}{mg mb:Jq->Option Jf}{n:Nat}{Q:D->Bool->Prop}{X:DX}
theorem l6(e:CR C G1 mg mb){l:List Int}(T:l.length=m)(o:∀i∈l,0<=i)(k:Q (.bool Jc) Jc):aR (aN C (n+2)) "are_sums" [(dI l,b),(.int m,c)] Q X:=by
 refine e.fn gZ (bl 15 rfl) rfl λM u P PX g=> ?_;dsimp only[gZ];dsimp only[aY,b0,bo];refine bI ?_
 (dsimp only[cp,bj,ik,aH,aC,aE,b6,aW,bv,cM,DP,aD,aF,Qa,aA,aB,aK,bX,bR,cK,cQ,cZ,oU,i8];refine⟨rfl,rfl,⟨rfl,rfl⟩,?_⟩)
 rw[Qd,T,Uc rfl]
 (dsimp only[aA];refine⟨rfl,?_⟩)
 refine ca rfl ?_;dsimp only[CE,dl,aC,aG,aX,aE,aI,aU,cJ,aD,aF,Qa,aB,aA,aK,bk,bH,cI];refine bN D.int (λi=> .bool (decide<|i>=0)) (λi h K k=> ?_) ?_
 .dsimp only[bw,cP,cj,aO,Qa,aL,aB,aA,bK];dsimp only[D0]
  (dsimp only[aP,CD,aC,aG,aX,aE,aI,aU,aD,aJ,Qa,aF,aB,aA,aK,bu,aH,bt,bH];refine⟨rfl,?_⟩)
  exact g.hc<|gq e k
 .refine jy (ew _ _) ?_;rw[i9,Qx.mpr λi h=>Uc (o i h)];exact g.qr k
theorem t8(e:CR C G1 mg mb)(V:H7 c r s h w)(k:Q (.bool Jc) Jc):aR (aN C (n+3)) "is_view" [(.tup [dC c,dI r,dI s],b)] Q X:=by
 refine e.fn iT (bl 16 rfl) rfl λl u P PX g=> ?_;dsimp only[iT];dsimp only[aY,b0,bo];refine cb ?_
 (dsimp only[cy,bv,aA,bO,aP,CD,aC,aG,aE,aI,aQ,aM,aD,aF,Qa,aJ,aB,aK,bV,tgl,bC,bM,bD,bJ,eO,cE,bk,aS,aW,fw,DP,bj,bX,bR,b6,ml,aT,aV,cQ,cZ,lI,i8,cx];refine⟨rfl,rfl,⟨rfl,rfl⟩,?_⟩)
 refine kI (λo0=> ?_) λh=>absurd rfl h;refine⟨rfl,?_⟩;refine g.hc<|rO e V.R ?_;dsimp only[bv,cx,aB];refine d7 rfl ?_;dsimp only[CE,aC,aG,aX,aE,aI,aU,cJ,aQ,aM,aD,aF,Qa,aJ,aB,aA,aK,bV,tgl,bC,bM,bD,bJ,eO,cE,bk,bH,f8,gf,f0,gb,hU,gN,f7,cV,f6,gc,cI];refine cX dR (λo0 L=>∃v,L=(Nb "thing" Jd (.tup [dC c,dI r,dI s])<|No "row" v<|No "rows" Jb<|No "columns" Jb<|[])) _ _ ⟨_,rfl⟩ ?_ ?_
 .rintro j σ L f ⟨v,rfl⟩ K d;have f:σ∈c:=QC f;dsimp only[bM,cj,aL,Qa,aO,aB,aA,bK];refine cb ?_
  (dsimp only[bO,bv,bj,ik,aC,aE,b6];refine⟨rfl,?_⟩)
  refine ca rfl ?_;dsimp only[CE,dl,aC,aG,aX,aE,aI,aU,cJ,aD,aF,Qa,aJ,aB,aA,aK,bk,bH,cI];refine bN dO (λo0=> .bool Jc) (λo T K k=> ?_) ?_
  .dsimp only[bw,cP,cj,aO,Qa,aL,aB,aA,bK];dsimp only[D0];dsimp only[cy,aP,CD,aC,aG,aX,aE,aI,aU,aD,aJ,Qa,aF,aB,aA,aK,dK,bv];refine⟨(fB o).1,?_⟩;rw[(fB o).2]
   induction o with
   |none=>exact k
   |some i=>
    refine⟨rfl,?_⟩;refine g.hc<|gq e ?_;rw[Uc (V.nc σ f i T)];exact k
  .refine jy (ew _ _) ?_;rw[i9,Qx.mpr λo0 o0=>rfl];dsimp only[cx,aB];exact d _ ⟨_,rfl⟩
 .rintro L ⟨v,rfl⟩;refine ia ?_;refine cb ?_
  (dsimp only[cy,bv,aA,bO,aP,CD,aC,aG,aE,aI,bj,bX,aH,b6,aQ,aM,aD,aF,Qa,aJ,aB,aK,eO,cE,bV,tgl,bC,bM,bD,bJ,jX,bk,aS,cK,cQ,j6];refine⟨rfl,rfl,?_⟩)
  rw[Qd,V.R.len];refine g.hc<|l6 e V.hr V.nr ?_
  (dsimp only[bv,cx,aB];refine⟨rfl,rfl,?_⟩)
  refine aZ (l8 V.R) ?_;dsimp only[cK,cQ];rw[Qd,(V.R.at_ V.R.h1).2];refine g.hc<|l6 e V.hs V.ns ?_;dsimp only[bv,cx,aB];refine c9 rfl ?_
  (dsimp only[aP,CD,aC,aG,aX,aE,aI,aU,aD,aF,Qa,aJ,aB,aA,aK,bV,tgl,bC,bM,bD,bJ,aS,bH,ch,bL];refine⟨rfl,?_⟩)
  refine g.hc<|qJ e V.R V.hr V.hs ?_;dsimp only[aA,bV,tgl,bC,bM,bD,bJ,aB,aH,bA,fO,aL,Qa,aO,bK];refine bI ?_
  (dsimp only[cp,aW,aH,cM,DP,bj,gF,aC,aE,b6,aD,aF,Qa,aJ,aA,aB,aK,dl,bR,bv,aM,nQ,wL,ru];refine⟨rfl,?_⟩)
  rw[eH,eH];dsimp only[BJ];have B:=rq V.R.h1 V.n1;have m:=rq V.R.w1 V.n2;refine⟨B.1,?_⟩;rw[Uc (show E5 ((Qc h).map (E0 c r))>=0 from B.2)]
  (dsimp only[aA];refine⟨rfl,?_⟩)
  refine⟨m.1,?_⟩;rw[Uc (show E5 ((Qc w).map (FB c s))>=0 from m.2)]
  (dsimp only[aA];refine⟨rfl,rfl,⟨rfl,rfl⟩,?_⟩)
  rw[Uc V.eq];exact g.qr k
theorem qA(e:CR C G1 mg mb)(V:H7 c r s h w)(k:Q .none Jc):aR (aN C (n+4)) "need_view" [(.tup [dC c,dI r,dI s],b)] Q X:=by
 refine e.fn gr (bl 17 rfl) rfl λl u P PX g=> ?_;dsimp only[gr];dsimp only[aY,b0,bo];refine cb ?_
 (dsimp only[bO,bv,aP,CD,aC,aG,aE,aI,aD,aF,Qa,aA,aK,bV,tgl,bC,bM,bD,bJ,aB,aS];refine⟨rfl,?_⟩)
 refine g.hc<|t8 e V ?_;dsimp only[bv,cx,aB];exact g.qn k
end
theorem jM{L:Type}{f:L->Int}{l:List L}(h:∀a∈l,0<=f a):0<=(l.map f).sum:=by
 induction l with
 |nil=>exact QX 0
 |cons a l i=>rw[Qo,QY];exact YD (h a (.head _)) (i λb R=>h b (.tail _ R))
theorem qX{L:Type}(f g:L->Int)(l:List L):(l.map f).sum-(l.map g).sum=(l.map λa=>f a-g a).sum:=by
 induction l with
 |nil=>rfl
 |cons a l i=>rw[Qo,Qo,Qo,QY,QY,QY,<-i];exact zr14 _ _ _ _
theorem np{L:Type}(f g:L->Int)(l:List L):(l.map f).sum+(l.map g).sum=(l.map λa=>f a+g a).sum:=by
 induction l with
 |nil=>rfl
 |cons a l i=>rw[Qo,Qo,Qo,QY,QY,QY,<-i];exact zr8 _ _ _ _
theorem mU{L:Type}(g:L->Option Int)(l:List L):(l.filterMap g).sum=(l.map λa=>(g a).getD 0).sum:=by
 induction l with
 |nil=>rfl
 |cons a l W=>
  induction h:g a with
  |none=>rw[List.filterMap_cons_none h,Qo,QY,h,W];exact(Ws _).symm
  |some i=>rw[List.filterMap_cons_some h,Qo,QY,QY,h,W];rfl
theorem ii{L:Type}(l:List L):(l.map λo0=>(0:Int)).sum=0:=by
 induction l with
 |nil=>rfl
 |cons a l i=>rw[Qo,QY,i];rfl
theorem oX(f:Nat->Nat->Int)(h w:Nat):((Qc h).map λr=>((Qc w).map λc=>f r c).sum).sum=((Qc w).map λc=>((Qc h).map λr=>f r c).sum).sum:=by
 induction h with
 |zero=>exact(ii _).symm
 |succ h i=>
  rw[List.range_succ,QD,Yb,i];have:(λc=>((Qc h++[h]).map λr=>f r c).sum)=λc=>((Qc h).map λr=>f r c).sum+f h c:=by
   funext c;rw[QD,Yb];show _+(f h c+0)=_;rw[Ks]
  rw[this,<-np];show _+(((Qc w).map λc=>f h c).sum+0)=_;rw[Ks]
theorem zo(R:CI t h w)(n:r<h):CK t r=(Qc w).map (cell t r):=by
 have l:=(R.at_ n).2;refine List.ext_getElem (by rw[l,Qd,QA]) λi N p=> ?_;rw[WM,Wu,cell,Qg N];rfl
theorem v7{L:Type}{t:List (List L)}(R:CI t h w):t=(Qc h).map (CK t):=by
 refine List.ext_getElem (by rw[R.len,Qd,QA]) λi N p=> ?_;rw[WM,Wu,CK,Qg N];rfl
theorem CI.range{L:Type}(f:Nat->Nat->L)(N:1<=h)(y:h<=8)(A:1<=w)(T:w<=8):CI ((Qc h).map λr=>(Qc w).map λc=>f r c) h w:=by
 refine⟨by rw[Qd,QA],λr n=> ?_,N,y,A,T⟩;obtain⟨i,o0,rfl⟩:=Ql.mp n;rw[Qd,QA]
theorem kv{L:Type}(f:Nat->List L)(n:r<h):CK ((Qc h).map f) r=f r:=by
 rw[CK,Qu,Wp n];rfl
theorem fW{L:Type}(f:Nat->L)(h:c<w)(d:L):((Qc w).map f)[c]?.getD d=f c:=by
 rw[Qu,Wp h];rfl
def hv(t:List (List Int))(h:Nat->Nat->Bool)(r c:Nat):Int:=cond (h r c) (cell t r c) 0
theorem yB(t:List (List Int))(h:Nat->Nat->Bool)(r c:Nat):cell t r c-(EG t h r c).getD 0=hv t h r c:=by
 unfold EG hv;cases h r c with
 |true=>exact Ye _
 |false=>exact Int.sub_self _
theorem um(R:CI t h w)(i:Nat->Nat->Bool)(q:k<h):E0 (Dt t i h w) (Gb t) k=((Qc w).map λc=>hv t i k c).sum:=by
 rw[E0,Gb,Qu,(R.at_ q).1,Dt,kv _ q];show(CK t k).sum-_=_;rw[zo R q,List.filterMap_map,mU,qX]
 congr 2
 funext c;exact yB t i k c
theorem t9{t:List (List Int)}{h w:Nat}(R:CI t h w)(i:Nat->Nat->Bool){k:Nat}(q:k<w):FB (Dt t i h w) (FM t w) k=((Qc h).map λr=>hv t i r k).sum:=by
 rw[FB,FM,fW _ q,Dt,List.filterMap_map,mU];have e:(t.map λr=>r[k]?.getD 0).sum=((Qc h).map λr=>cell t r k).sum:=by
  conv=>lhs;rw[v7 R]
  rw[QE];rfl
 rw[e,qX]
 congr 1
 refine Qm λr n=> ?_;show cell t r k-(((Qc w).map λc=>EG t i r c)[k]?.getD Jb).getD 0=_;rw[fW _ q];exact yB t i r k
theorem yz(R:CI t h w)(N:NN t)(i:Nat->Nat->Bool)(n:r<h)(C:c<w):0<=hv t i r c:=by
 unfold hv;cases i r c with
 |true=>exact(lz R).mp N r c n C
 |false=>exact QX 0
theorem vok(R:CI t h w)(N:NN t)(d:Nat->Nat->Bool):H7 (Dt t d h w) (Gb t) (FM t w) h w:=by
 refine⟨CI.range _ R.h1 R.h8 R.w1 R.w8,by rw[Gb,Qd];exact R.len,by rw[FM,Qd,QA],λσ o i V=> ?_,λi V=> ?_,λi V=> ?_,λk q=> ?_,λk q=> ?_,?_⟩
 .obtain⟨r,n,rfl⟩:=Ql.mp o;obtain⟨c,C,e⟩:=Ql.mp V;unfold EG at e
  induction U:d r c with
  |true=>rw[U] at e;exact ns e
  |false=>rw[U] at e;obtain rfl:=sj e;exact(lz R).mp N r c (Qf.mp n) (Qf.mp C)
 .obtain⟨r,n,rfl⟩:=Ql.mp V;have:=jM (f:=id) (l:=r) λa T=>N r n a T
  rwa [List.map_id] at this
 .obtain⟨c,C,rfl⟩:=Ql.mp V;refine jM λr n=> ?_;refine N r n _ ?_;rw[Qg (by rw[R.row r n];exact Qf.mp C)];exact Wj _
 .rw[um R d q];exact jM λc C=>yz R N d q<|Qf.mp C
 .rw[t9 R d q];exact jM λr n=>yz R N d (Qf.mp n) q
 .rw[Qm λk q=>um R d<|Qf.mp q,Qm λk q=>t9 R d (Qf.mp q)];exact oX _ h w
def cO(c:List (List (Option Int)))(a b:Nat):Option Int:=(CK c a)[b]?.getD Jb
section
variable{C:Cx}{mg mb:Jq->Option Jf}{n:Nat}{Q:D->Bool->Prop}{X:DX}
theorem jz(e:CR C G1 mg mb)(k:Q (.bool Jc) Jc):aR (aN C (n+1)) "_law_whole" [(.int i,b)] Q X:=by
 refine e.fn fR (bl 37 rfl) rfl λl c P PX g=> ?_;dsimp only[fR];dsimp only[aY,b0,bo];refine bI ?_
 (dsimp only[cp,bO,aH,cZ,bv,aD,aF,Qa,aA,aK,yr,i8,lU,yo];refine⟨rfl,rfl,?_⟩)
 exact g.qr k
end
def DW(c:List (List (Option Int)))(h w:Nat):List (Nat×Nat):=(Eh h w).filter λp=> !(cO c p.1 p.2).isSome
theorem ke{p:Nat×Nat}(D:p∈DW c h w):p.1<h/\p.2<w/\cO c p.1 p.2=Jb:=by
 obtain⟨N,Y⟩:=Qj.mp D;refine⟨(Dk.mp N).1,(Dk.mp N).2,?_⟩
 induction e:cO c p.1 p.2 with
 |none=>rfl
 |some i=>rw[e] at Y;exact ft Y
theorem uH(R:CI c h w)(T:a<h)(v:b<w):C4 (dR (CK c a)) (.int b)=Ja (dO (cO c a b)):=nb<|by rw[(R.at_ T).2];exact v
noncomputable abbrev Ft(l:List Nat):D:= .list (l.map λ(k:Nat)=> .int (k:Int))
noncomputable def zF(c:List (List (Option Int))):List (List Int):=c.map λr=>r.map λo=>o.getD 0
theorem CI.z(R:CI c h w):CI (zF c) h w:=by
 refine⟨by rw[zF,Qd];exact R.len,λr T=> ?_,R.h1,R.h8,R.w1,R.w8⟩;obtain⟨y,H,rfl⟩:=Ql.mp T;rw[Qd];exact R.row y H
theorem z1(R:CI c h w)(r:List Int)(q:k<h):r[k]?.getD 0-(CK (zF c) k).sum=E0 c r k:=by
 unfold E0;rw[mU,show CK (zF c) k=(CK c k).map λo=>o.getD 0 from by rw[CK,zF,Qu,(R.at_ q).1];rfl];rfl
theorem z2(R:CI c h w)(s:List Int)(q:k<w):s[k]?.getD 0-(FM (zF c) w)[k]?.getD 0=FB c s k:=by
 unfold FB FM;rw[fW _ q,mU,zF,QE]
 congr 2
 refine Qm λr T=> ?_;show(r.map λo=>o.getD 0)[k]?.getD 0=_;rw[Qu,Qg (by rw[R.row r T];exact q)];rfl
section
variable{C:Cx}{mg mb:Jq->Option Jf}{n:Nat}{Q:D->Bool->Prop}{X:DX}
theorem lN(e:CR C G1 mg mb)(R:CI c h w)(k:Q (.list ((DW c h w).map dP)) Jc):aR (aN C (n+2)) "hidden_in" [(dC c,b)] Q X:=by
 refine e.fn gp (bl 20 rfl) rfl λl u P PX g=> ?_;dsimp only[gp];dsimp only[aY,b0,bo];refine bI ?_;refine cL rfl ?_
 (dsimp only[CE,aC,aG,aX,aE,aI,aU,cJ,aP,CD,aD,aF,Qa,aA,aK,bk,aS,bH,ch,bL];refine⟨rfl,?_⟩)
 refine g.hc<|lL e R ?_;dsimp only[cI,aA,bk,bt];refine cz dP dP (λp=> !(cO c p.1 p.2).isSome) (λp D=> ?_) ?_
 .obtain⟨N,B⟩:=Dk.mp D;dsimp only[dP];dsimp only[bw,cP,cj,aO,Qa,aL,aB,aA,bK];refine⟨λT Y=> ?_,λo0 K k=> ?_⟩
  .dsimp only[Ey];dsimp only[dK,bv,aQ,aM,aD,aJ,Qa,aF,aB,aA,aK,eN,cE,d6];refine aZ (gP R N) ?_;refine aZ (uH R N B) ?_;refine⟨(fB _).1,?_⟩;rw[(fB _).2];exact Y
  .dsimp only[D0];dsimp only[aD,aJ,Qa,aF,aB,aA,aK,bV,tgl,bC,cA,bD,cr];exact k
 .dsimp only[aH];exact g.qr k
theorem on(e:CR C G1 mg mb)(R:CI c h w)(k:Q (.list ((DW c h w).map dP)) Jc):aR (aN C (n+2)) "_law_hidden" [(.tup [dC c,dI r,dI s],b)] Q X:=by
 refine e.fn fb (bl 39 rfl) rfl λl u P PX g=> ?_;dsimp only[fb];dsimp only[aY,b0,bo];refine bI ?_;refine cL rfl ?_
 (dsimp only[CE,aC,aG,aX,aE,aI,aU,cJ,aP,CD,aQ,aM,aD,aF,Qa,aA,aK,bV,tgl,bC,bM,bD,bJ,aB,eO,cE,bk,aS,bH,ch,bL];refine⟨rfl,?_⟩)
 refine g.hc<|tD e R dO ?_;dsimp only[cI,aA,bk,bt];refine cz dP dP (λp=> !(cO c p.1 p.2).isSome) (λp D=> ?_) ?_
 .obtain⟨N,Y⟩:=Dk.mp D;dsimp only[dP];dsimp only[bw,cP,cj,aO,Qa,aL,aB,aA,bK];refine⟨λT q=> ?_,λo0 K k=> ?_⟩
  .dsimp only[Ey];dsimp only[dK,bv,aQ,aM,aD,aJ,Qa,aF,aB,aA,aK,eN,cE,d6,eO];refine aZ (gP R N) ?_;refine aZ (uH R N Y) ?_;refine⟨(fB _).1,?_⟩;rw[(fB _).2];exact q
  .dsimp only[D0];dsimp only[aD,aJ,Qa,aF,aB,aA,aK,bV,tgl,bC,cA,bD,cr];exact k
 .dsimp only[aH];exact g.qr k
theorem iR(e:CR C G1 mg mb){p:Nat->Bool}(L:m<=8)(k:Q (.bool Jc) Jc):aR (aN C (n+2)) "_law_numbers" [(Ft ((Qc m).filter p),b),(.int m,c)] Q X:=by
 refine e.fn eM (bl 38 rfl) rfl λl u P PX g=> ?_;dsimp only[eM];dsimp only[aY,b0,bo];refine cb ?_
 (dsimp only[cy,bv,aA,bO,bj,ik,aC,aE,b6,cZ,aD,aF,Qa,aB,aK,oU,i8,cx];refine⟨rfl,rfl,?_⟩)
 refine ca rfl ?_;dsimp only[CE,dl,aC,aG,aX,aE,aI,aU,cJ,aD,aF,Qa,aB,aA,aK,bk,bH,cI];refine bN (λ(k:Nat)=> .int (k:Int)) (λo0=> .bool Jc) (λi t K k=> ?_) ?_
 .dsimp only[bw,cP,cj,aO,Qa,aL,aB,aA,bK];dsimp only[D0]
  (dsimp only[aP,CD,aC,aG,aX,aE,aI,aU,aD,aJ,Qa,aF,aB,aA,aK,bu,aH,bt,bH];refine⟨rfl,?_⟩)
  exact g.hc<|jz e k
 .refine jy (ew _ _) ?_;rw[i9,Qx.mpr λo0 o0=>rfl];dsimp only[cx,aB];refine bI ?_;dsimp only[aW,aH,cM,DP,aD,aF,Qa,aB,aA,aK];refine cL rfl ?_;dsimp only[CE,aC,aG,aX,aE,aI,aU,aD,aF,Qa,aA,aB,aK,bu,bt,h9,hZ];refine⟨rg L,gj (λ(k:Nat)=> .int (k:Int)) p (λi t=> ?_) ?_⟩
  .dsimp only[bw,cP,cj,aO,Qa,aL,aB,aA,bK];refine⟨λT Y=> ?_,λo0 K k=> ?_⟩
   .dsimp only[Ey];dsimp only[aW,bv,ky,aD,aJ,Qa,aF,aB,aA,aK];rw[lT];refine⟨⟨rfl,b8 _ (λa=>dt _ _) _⟩,?_⟩;rw[List.any_map];rw[show((Qc m).filter p).any ((λd=>D.eqv d<|.int i)∘λ(k:Nat)=> .int (k:Int))=p i from ?_]
    .exact Y
    .rw[Kq,Ki]
     constructor
     .rintro ⟨x,hx,h⟩;have h:D.eqv (.int (x:Int)) (.int (i:Int))=Jc:=h;rw[bR,Ui] at h;have:x=i:=by exact KT.mp h
      rw[<-this];exact(Qj.mp hx).2
     .intro U;exact⟨i,Qj.mpr ⟨Qf.mpr t,U⟩,bZ _⟩
   .dsimp only[D0];dsimp only[aD,aJ,Qa,aF,aB,aA,aK,bu];exact k
  .refine⟨⟨by rw[cU];exact b8 _ (λa=>dt _ _) _,by rw[cU];exact b8 _ (λa=>dt _ _) _⟩,?_⟩;rw[bZ];exact g.qr k
theorem qF(e:CR C G1 mg mb){r s:List Int}(R:CI c h w)(T:r.length=h)(E:s.length=w)(k:Q (.tup [dI ((Qc h).map (E0 c r)),dI ((Qc w).map (FB c s))]) Jc):
  aR (aN C<|n+2) "_law_rests" [(.tup [dC c,dI r,dI s],b)] Q X:=by
 refine e.fn fP (bl 36 rfl) rfl λM u P PX g=> ?_;dsimp only[fP];dsimp only[aY,b0,bo];have σ:=R.z;refine bq ?_;refine ca rfl ?_;dsimp only[CE,aC,aG,aX,aE,aI,aU,cJ,aQ,aM,aD,aF,Qa,aJ,aB,aA,aK,bV,tgl,bC,bM,bD,bJ,eO,cE,bk,bH,cI];refine bN dR (λH=>dI<|H.map λo=>o.getD 0) (λH f K k=> ?_) ?_
 .dsimp only[bw,cP,cj,aO,Qa,aL,aB,aA,bK];dsimp only[D0];refine ca rfl ?_;dsimp only[CE,aC,aG,aX,aE,aI,aU,cJ,aD,aJ,Qa,aF,aB,aA,aK,bk,bH,cI];refine bN dO (λo=> .int (o.getD 0)) (λo d K k=> ?_) ?_
  .dsimp only[bw,cP,cj,aO,Qa,aL,aB,aA,bK];dsimp only[D0]
   (dsimp only[aQ,bj,tK,aC,aE,b6,dK,bv,aD,aJ,Qa,aF,aB,aA,aK,bE,CE,C8,aG,aT,aX,aI,aV,aU,aM,bt];refine⟨by decide,rfl,?_⟩)
   refine⟨(fB _).1,?_⟩;rw[(fB _).2]
   induction o with
   |none=>exact k
   |some i=>exact k
  .rw[dI,QE] at k;exact k
 dsimp only[bA,aH,aL,Qa,aO,aB,aA];rw[show(c.map λH=>dI<|H.map λo=>o.getD 0)=(zF c).map dI from by rw[zF,QE];rfl];refine bq ?_;refine ca rfl ?_
 (dsimp only[CE,aC,aG,aX,aE,aI,aU,bj,bX,bt,h9,hZ,b6,aD,aF,Qa,aJ,aB,aA,aK,cK,cQ];refine⟨rfl,?_⟩)
 rw[σ.lenD];refine⟨rg R.h8,c7 (λk=> .int (E0 c r k)) (λi t K k=> ?_) ?_⟩
 .dsimp only[bw,cP,cj,aO,Qa,aL,aB,aA,bK];dsimp only[D0];dsimp only[bp,bj,gF,aC,aE,b6,aQ,aD,aJ,Qa,aF,aB,aA,aK,aM,bV,tgl,bC,bM,bD,bJ,j6,cE,bk];refine aZ (gJ<|by rw[T];exact t) ?_
  (dsimp only[bu,eA];refine⟨rfl,?_⟩)
  refine aZ (hA σ t) ?_;dsimp only[dl];refine fX (eH _) ?_;rw[z1 R r t];exact k
 dsimp only[bA,aH,aL,Qa,aO,aB,aA];refine bq ?_
 (dsimp only[aP,CD,aC,aG,aX,aE,aI,aU,aD,aF,Qa,aJ,aB,aA,aK,bk,aS,bH,ch,bL];refine⟨rfl,?_⟩)
 refine g.hc<|Be e σ ?_;dsimp only[aA,bk,bA,aH,aL,Qa,aO,aB];refine cW ?_
 (dsimp only[dQ,cD,aT,c5,aV,lE,cq,aL,Qa,aB,aA,aF,aK,bM];refine⟨rfl,?_⟩)
 refine ca rfl ?_
 (dsimp only[CE,aC,aG,aX,aE,aI,aU,bj,bX,bt,h9,hZ,b6,aD,aF,Qa,aA,aB,aK,cK,cQ];refine⟨rfl,?_⟩)
 have l:(FM (zF c) w).length=w:=by rw[FM,Qd,QA]
 rw[Qd,l];refine⟨rg R.w8,c7 (λk=> .int (FB c s k)) (λi t K k=> ?_) ?_⟩
 .dsimp only[bw,cP,cj,aO,Qa,aL,aB,aA,bK];dsimp only[D0];dsimp only[bp,aQ,aD,aJ,Qa,aF,aB,aA,aK,bk,aM,bV,tgl,bC,bM,bD,bJ,jX,cE];rw[gJ (by rw[l];exact t)];dsimp only[cE,bu];refine aZ (gJ<|by rw[E];exact t) ?_;dsimp only[eA];rw[z2 R s t];exact k
 .refine⟨rfl,by decide,?_⟩;rw[dI,dI,QE,QE] at k;exact g.qr k
theorem BB(e:CR C G1 mg mb){r s:List Int}(R:CI c h w)(T:r.length=h)(H:s.length=w){A B:List Nat}(E:∀a∈A,a<h)(M:∀a∈B,a<w)(k:Q (.int ((A.map (E0 c r)).sum-(B.map (FB c s)).sum)) Jc):
  aR (aN C<|n+3) "_law_gap" [(.tup [dC c,dI r,dI s],b),(Ft A,G),(Ft B,P)] Q X:=by
 refine e.fn g8 (bl 40 rfl) rfl λl u N PX g=> ?_;dsimp only[g8];dsimp only[aY,b0,bo];refine c9 rfl ?_
 (dsimp only[aP,CD,aC,aG,aX,aE,aI,aU,aD,aF,Qa,aJ,aB,aA,aK,bV,tgl,bC,bM,bD,bJ,aS,bH,ch,bL];refine⟨rfl,?_⟩)
 refine g.hc<|qF e R T H ?_;dsimp only[aA,bV,tgl,bC,bM,bD,bJ,aB,aH,bA,fO,aL,Qa,aO,bK];refine bI ?_
 (dsimp only[bp,bj,gF,aC,aE,b6,eA,aH];refine⟨rfl,?_⟩)
 refine ca rfl ?_;dsimp only[CE,dl,aC,aG,aX,aE,aI,aU,cJ,aD,aF,Qa,aB,aA,aK,bk,bH,cI];refine bN (λ(k:Nat)=> .int (k:Int)) (λk=> .int (E0 c r k)) (λi t K k=> ?_) ?_
 .dsimp only[bw,cP,cj,aO,Qa,aL,aB,aA,bK];dsimp only[D0];dsimp only[aQ,aD,aJ,Qa,aF,aB,aA,aK,bk];rw[gJ (by rw[Qd,QA];exact E i t),fW _ (E i t)];exact k
 refine fX (eD _ _) ?_;refine⟨rfl,?_⟩;refine ca rfl ?_;dsimp only[CE,dl,aC,aG,aX,aE,aI,aU,cJ,aD,aF,Qa,aB,aA,aK,bk,bH,cI];refine bN (λ(k:Nat)=> .int (k:Int)) (λk=> .int (FB c s k)) (λi t K k=> ?_) ?_
 .dsimp only[bw,cP,cj,aO,Qa,aL,aB,aA,bK];dsimp only[D0];dsimp only[aQ,aD,aJ,Qa,aF,aB,aA,aK,bk];rw[gJ (by rw[Qd,QA];exact M i t),fW _ (M i t)];exact k
 refine fX (eD _ _) ?_;exact g.qr k
theorem iL(A:List Nat)(i:Nat):((A.map λ(k:Nat)=>D.int (k:Int)).any λd=>D.eqv d (.int (i:Int)))=decide (i∈A):=by
 rw[List.any_map,Kq,Ki,Ui]
 constructor
 .rintro ⟨x,hx,h⟩;have h:D.eqv (.int (x:Int)) (.int (i:Int))=Jc:=h;rw[bR,Ui] at h;rw[show i=x by exact(KT.mp h).symm];exact hx
 .exact λt=>⟨i,t,bZ _⟩
end
noncomputable def upd{α u:Type}[DecidableEq α](g:α->u)(x:α)(v:u):α->u:=λy=>if y=x then v else g y
theorem bY{α u:Type}[DecidableEq α](g:α->u)(x:α)(v:u):upd g x v x=v:=Ug rfl
theorem cF{α u:Type}[DecidableEq α](g:α->u){x y:α}(v:u)(h:y≠x):upd g x v y=g y:=Uf h
theorem oj{α u t:Type}[DecidableEq α](f:u->t)(g:α->u)(x:α)(v:u):upd (λy=>f (g y)) x (f v)=λy=>f (upd g x v y):=by
 funext y;by_cases h:y=x
 .subst h;rw[bY,bY]
 .rw[cF _ _ h,cF _ _ h]
noncomputable abbrev md{α:Type}(kf:α->List KA)(g:α->D)(xs:List α):D:= .dict (xs.map kf) (xs.map g)
noncomputable def Dr{α:Type}[DecidableEq α](xs:List α)(x:α):List α:=if x∈xs then xs else xs++[x]
section
variable{α:Type}[DecidableEq α]{kf:α->List KA}(inj:∀a b,kf a=kf b->a=b){g:α->D}
include inj
theorem k6:∀ {xs:List α},x∈xs->∃j,C0 (xs.map kf) (kf x)=Ja j/\xs[j]? =Ja x
 |y::r,h=>by
  by_cases e:y=x
  .subst e;exact⟨0,Ug rfl,rfl⟩
  .obtain⟨j,N,p⟩:=k6 ((Qw.mp h).resolve_left λq=>e q.symm);refine⟨j+1,?_,p⟩;show(if kf y=kf x then Ja 0 else(C0 (r.map kf)<|kf x).map (· +1))=_;rw[Uf λq=>e<|inj _ _ q,N];rfl
theorem rs:∀ {xs:List α},x∉xs->C0 (xs.map kf) (kf x)=Jb
 |[]=>λo0=>rfl
 |y::r=>λh=>by
  show(if kf y=kf x then Ja 0 else(C0 (r.map kf)<|kf x).map (· +1))=_;rw[Uf λq=>h<|by rw[inj y x q];exact .head _,rs λq=>h (.tail _ q)];rfl
theorem n0{xs:List α}:(C0 (xs.map kf) (kf x)).isSome=decide (x∈xs):=by
 by_cases h:x∈xs
 .obtain⟨j,N,o0⟩:=k6 inj h;rw[N,Uc h];rfl
 .rw[rs inj h,Ud h];rfl
theorem nu{xs:List α}(h:x∈xs):DE (xs.map kf) (xs.map g) (kf x)=Ja (g x):=by
 obtain⟨j,N,p⟩:=k6 inj h;unfold DE;rw[N];show(xs.map g)[j]? =_;rw[Qu,p];rfl
theorem og{xs:List α}(h:x∉xs):DE (xs.map kf) (xs.map g) (kf x)=Jb:=by
 unfold DE;rw[rs inj h];rfl
omit inj in
theorem map_set{xs:List α}(nd:xs.Nodup){x:α}{j:Nat}(h:xs[j]? =Ja x)(v:D):(xs.map g).set j v=xs.map (upd g x v):=by
 refine WD λi=> ?_;have H:j<xs.length:=(QF.mp h).1;rw[KU,Qd,Ug H,Qu,Qu];by_cases e:j=i
 .subst e;rw[Ug rfl,h];show Ja v=Ja (upd g x v x);rw[bY]
 .rw[Uf e]
  induction t:xs[i]? with
  |none=>rfl
  |some y=>
   have:y≠x:=by
    rintro rfl;exact e<|(List.getElem?_inj H nd).mp (h.trans t.symm)
   show Ja (g y)=Ja (upd g x v y);rw[cF _ _ this]
omit inj in
theorem qR{xs:List α}{x:α}(h:x∉xs)(v:D):xs.map g++[v]=(xs++[x]).map (upd g x v):=by
 rw[QD];show _=xs.map (upd g x v)++[upd g x v x]
 rw[bY]
 congr 1
 exact Qm λy W=>(cF g v λq=>h<|by rw[<-q];exact W).symm
theorem zx{xs:List α}(nd:xs.Nodup)(v:D):F7 (xs.map kf) (xs.map g) (kf x) v=md kf (upd g x v) (Dr xs x):=by
 unfold F7 Dr md;by_cases h:x∈xs
 .obtain⟨j,N,p⟩:=k6 inj h;rw[N,Ug h,<-map_set nd p]
 .rw[rs inj h,Uf h,<-qR h,QD];rfl
theorem zB{xs:List α}:GW (xs.map kf) (xs.map g) (kf x)=if x∈xs then md kf g xs else md kf (upd g x (.list [])) (xs++[x]):=by
 unfold GW;by_cases h:x∈xs
 .rw[nu inj h,Ug h]
 .rw[og inj h,Uf h];unfold md;rw[<-qR h,QD];rfl
theorem dh{d:D}(v:DC d=Ja (kf x))(h:x∈xs):C4 (md kf g xs) d=Ja (g x):=by
 show((DC d).bind λk=>DE (xs.map kf) (xs.map g) k)=_;rw[v];exact nu inj h
theorem zO{xs:List α}(nd:xs.Nodup){d v:D}(q:DC d=Ja (kf x))(h:x∈xs):Ee d (λo0=>Ja v) (md kf g xs)=Ja (md kf (upd g x v) xs):=by
 obtain⟨j,N,p⟩:=k6 inj h;show((DC d).bind λk=>(C0 (xs.map kf) k).bind λj=>((xs.map g)[j]?).bind λx=>Wa (λy=>D.dict (xs.map kf)<|(xs.map g).set j y)<|Ja v)=_;rw[q];show((C0 (xs.map kf)<|kf x).bind λj=>((xs.map g)[j]?).bind λx=>Wa (λy=>D.dict (xs.map kf)<|(xs.map g).set j y)<|Ja v)=_;rw[N];show(((xs.map g)[j]?).bind λx=>Wa (λy=>D.dict (xs.map kf)<|(xs.map g).set j y)<|Ja v)=_;rw[Qu,p];show Ja (D.dict (xs.map kf)<|(xs.map g).set j v)=_;rw[map_set nd p]
end
theorem jI{α:Type}[DecidableEq α]{xs:List α}(nd:xs.Nodup)(x:α):(Dr xs x).Nodup:=by
 unfold Dr
 split
 .exact nd
 .rename_i h
  exact Qv.mpr ⟨nd,Qy.mpr ⟨λq=>(bS q),.nil⟩,λa T b R q=>h<|by rw[Qh.mp R] at q;exact q▸T⟩
theorem E4{α:Type}[DecidableEq α]{xs:List α}{x y:α}:y∈Dr xs x↔y∈xs\/y=x:=by
 unfold Dr
 split
 .rename_i h
  exact⟨.inl,λq=>q.elim id λq=>q▸h⟩
 .rw[Qr,Qh]
theorem yJ{α:Type}(kf:α->List KA)(g:α->D)(xs:List α):md kf g xs= .dict (xs.map kf) (xs.map g):=rfl
section
variable{G:Gx}{cl cu:E3}{Δ:CB}{Q:bU}{X:Gq}{r:List S}{α:Type}[DecidableEq α]{kf:α->List KA}{g:α->D}{xs:List α}
theorem td(inj:∀a b,kf a=kf b->a=b){x:String}{k e:E}{a:α}{old:List D}{dk dv:D}(hx:Δ.get x=Ja (md kf g xs,Jc))(nd:xs.Nodup)(l:xs.length<Dg)(M:DC dk=Ja (kf a))(Y:old.length<Dg)
  (S:a∈xs->g a= .list old)(o:a∉xs->old=[])
  (N:∀ (Q:DQ) (X:DX),Q dk Jb->CY G cl k Δ Q X)(we:∀ (z:D) (Q:DQ) (X:DX),Q dv Jb->CY G cl e (Δ.put x (z,Jc)) Q X)
  (h:CQ G cl cu r (Δ.put x (md kf (upd g a<|.list (old++[dv]))<|Dr xs a,Jc)) Q X):CQ G cl cu (.expr (.meth (.sd (.loc x) k) .append [e])::r) Δ Q X:=by
 refine uF ?_;show dsd G cl .append [e] Δ (λP=>CQ G cl cu r P Q X) x k;unfold dsd;rw[hx,aK];refine⟨rfl,?_⟩;rw[yJ,xy];refine N _ _ ⟨by rw[Qd];exact l,?_⟩;rw[M,ov,zB inj];dsimp only;have fin:∀ (i:α->D) (s:List α),s.Nodup->a∈s->i a= .list old->md kf (upd i a<|.list (old++[dv])) s=md kf (upd g a<|.list (old++[dv])) (Dr xs a)->
   FL (λσ=>FI .append σ/\Dx G cl [e] (Δ.put x (md kf i s,Jc)) (λJ=>EU J=Jb/\Fe .append (CE J) σ λB=>FL (λd=>CQ G cl cu r (Δ.put x (d,Jc)) Q X)<|Ee dk (λo0=>Ja B) (md kf i s)) λo0 o0=>False) (C4 (md kf i s) dk):=λi s T m v q=>by
  rw[dh inj M m,cE,v];refine⟨trivial,?_⟩;rw[aC];refine we _ _ _ ?_;rw[aE];refine⟨rfl,Y,?_⟩;dsimp only;rw[zO inj T M m,cE,q];exact h
 by_cases m:a∈xs
 .rw[Ug m];exact fin g xs nd m (S m)<|by unfold Dr;rw[Ug m]
 .rw[Uf m];have w:Dr xs a=xs++[a]:=by unfold Dr;rw[Uf m]
  refine fin _ (xs++[a]) (w▸jI nd a) (Qe _<|.head _) (by rw[bY,o m]) ?_;rw[w]
  congr 1
  funext y;by_cases W:y=a
  .subst W;rw[bY,bY]
  .rw[cF _ _ W,cF _ _ W,cF _ _ W]
theorem j8(inj:∀a b,kf a=kf b->a=b)(hx:Δ.get x=Ja (md kf g xs,Jc))(nd:xs.Nodup)(l:xs.length<Dg)(q:DC dk=Ja (kf a))
  (we:∀ (Q:D->CB->Prop),Q dv Δ->FW G cl e Δ Q)(w:∀ (Q:DQ) (X:DX),Q dk Jb->CY G cl k Δ Q X)
  (h:CQ G cl cu r (Δ.put x (md kf (upd g a dv)<|Dr xs a,Jc)) Q X):CQ G cl cu (.setIdx (.loc x) k e::r) Δ Q X:=by
 refine l7<|we _ ?_;rw[jT,hx,aK];refine⟨rfl,w _ _ ?_⟩;rw[yJ,Cu];refine⟨by rw[Qd];exact l,?_⟩;rw[q,ov,zx inj nd];show Et _ (Δ.get x);rw[hx,aK];exact h
end
set_option genCtorIdx false in set_option genInjectivity true in
inductive Nd where
 |r(i:Nat)|c(j:Nat)
noncomputable abbrev Nd.ctorIdx(x:Nd):Nat:=Nd.casesOn x (λo0=>0) (λo0=>1)
deriving instance DecidableEq for Nd
abbrev Pl:=Nat×Nat
noncomputable def Nd.key:Nd->List KA
 | .r i=>[.t "row",.n i]
 | .c j=>[.t "column",.n j]
noncomputable def dN:Nd->D
 | .r i=> .tup [.str "row",.int i]
 | .c j=> .tup [.str "column",.int j]
noncomputable def Gw(p:Pl):List KA:=[.n p.1,.n p.2]
theorem gI(x:Nd):DC (dN x)=Ja x.key:=by rcases x with⟨⟩<;>rfl
theorem de(p:Pl):DC (dP p)=Ja (Gw p):=rfl
theorem dY:∀a b:Nd,a.key=b.key->a=b
 | .r i,.r j=>λh=>by injection h with _ h;injection h with h;injection h with h;rw[KT.mp h]
 | .c i,.c j=>λh=>by injection h with _ h;injection h with h;injection h with h;rw[KT.mp h]
 | .r i,.c j=>λh=>by injection h with h;injection h with h;exact absurd h<|by decide
 | .c i,.r j=>λh=>by injection h with h;injection h with h;exact absurd h<|by decide
theorem ce(a b:Pl)(h:Gw a=Gw b):a=b:=by
 injection h with h1 h;injection h1 with h1;injection h with h2;injection h2 with h2;exact Prod.ext (KT.mp h1)<|KT.mp h2
def dE(e:Nd×Pl):D:= .tup [dN e.1,dP e.2]
noncomputable def Dj(ps:List Pl):Nd->List (Nd×Pl)
 | .r i=>(ps.filter λp=>decide (p.1=i)).map λp=>(.c p.2,p)
 | .c j=>(ps.filter λp=>decide (p.2=j)).map λp=>(.r p.1,p)
def D1(ps:List Pl)(x:Nd):D:= .list ((Dj ps x).map dE)
theorem fg(x:Nd):(dN x).atom=Jc:=by rcases x with⟨⟩<;>rfl
theorem mH(ps:List Pl)(p:Pl)(x:Nd):Dj (ps++[p]) x=Dj ps x++(if x= .r p.1 then [(.c p.2,p)] else if x= .c p.2 then [(.r p.1,p)] else []):=by
 induction x with
 |r i=>
  show Kz _ (Wg _ _)=_;rw[List.filter_append,QD];by_cases h:p.1=i
  .subst h;rw[Ug rfl,Ke (by simp)];rfl
  .rw[Uf (λq=>h (Nd.r.inj q).symm),Uf (λq=>nomatch q),Kf (by simpa using h)];rfl
 |c j=>
  show Kz _ (Wg _ _)=_;rw[List.filter_append,QD];by_cases h:p.2=j
  .subst h;rw[Uf (λq=>nomatch q),Ug rfl,Ke (by simp)];rfl
  .rw[Uf (λq=>nomatch q),Uf<|λq=>h (Nd.c.inj q).symm,Kf (by simpa using h)];rfl
theorem tm(ps:List Pl)(x:Nd):(Dj ps x).length<=ps.length:=by
 induction x with
 |r i=>show(Kz _ _).length<=_;rw[Qd];exact KY _ _
 |c i=>show(Kz _ _).length<=_;rw[Qd];exact KY _ _
structure D7(ps:List Pl)(xs:List Nd):Prop where
 nd:xs.Nodup
 len:xs.length<=2*ps.length
 out:∀x,x∉xs->Dj ps x=[]
theorem kh{α:Type}[DecidableEq α](xs:List α)(x:α):(Dr xs x).length<=xs.length+1:=by
 unfold Dr
 split
 .exact Wf _
 .rw[QG];exact Qz _
theorem D7.snoc{ps:List Pl}{xs:List Nd}(h:D7 ps xs)(p:Pl):D7 (ps++[p]) (Dr (Dr xs (.r p.1)) (.c p.2)):=by
 refine⟨jI (jI h.nd _) _,?_,λx hx=> ?_⟩
 .have N:=kh (Dr xs<|.r p.1)<|.c p.2;have Y:=kh xs<|.r p.1;have J:=h.len;rw[QG,WG];exact D8 N<|Kx (D8 Y<|Kx J)
 .rw[E4,E4,not_or,not_or] at hx;rw[mH,h.out x hx.1.1,Uf hx.1.2,Uf hx.2];rfl
theorem sN(ps:List Pl)(p:Pl):upd (upd (D1 ps) (.r p.1) (.list ((Dj ps (.r p.1)).map dE++[dE (.c p.2,p)]))) (.c p.2) (.list ((Dj ps (.c p.2)).map dE++[dE (.r p.1,p)]))=D1 (ps++[p]):=by
 funext x;unfold D1;rw[mH,QD];by_cases Y:x= .c p.2
 .subst Y;rw[bY,Uf (λq=>nomatch q),Ug rfl];rfl
 .rw[cF _ _ Y];by_cases h:x= .r p.1
  .subst h;rw[bY,Ug rfl];rfl
  .rw[cF _ _ h,Uf h,Uf Y,WH,QH]
section
variable{C:Cx}{mg mb:Jq->Option Jf}{n:Nat}{Q:D->Bool->Prop}{X:DX}
theorem qh(e:CR C G1 mg mb){ps:List Pl}(D:ps.length<=64){b:Bool}(k:∀xs,D7 ps xs->Q (md Nd.key (D1 ps) xs) Jc):aR (aN C (n+1)) "near_of" [(.list (ps.map dP),b)] Q X:=by
 refine e.fn iF (bl 0 rfl) rfl λcl cu P PX F=> ?_;dsimp only[iF];dsimp only[aY,b0,bo];refine bq ?_
 (dsimp only[iW,bA,aH,aL,Qa,aO,aB,aA];refine⟨rfl,?_⟩)
 refine d7 rfl ?_;dsimp only[CE,aC,aG,aX,aE,aI,aU,cJ,aD,aF,Qa,aJ,aB,aA,aK,bk,bH,f8,gf,f0,gb,bM,bJ,f7,er,gN,cV,f6,gc,cI];refine cX dP (λi Δ=>X3 λv xs c=>D7 (ps.take i) xs/\Δ=(Nb "places" c (.list<|ps.map dP)<|Nb "found" Jc (md Nd.key (D1<|ps.take i) xs)<|No "place" v<|[])) _ _ ⟨_,[],_,⟨.nil,QS _,λx o0=>by rcases x with⟨⟩<;>rfl⟩,rfl⟩ ?_ ?_
 .rintro j p Δ H ⟨v,xs,c,N,rfl⟩ K m;have E:ps.take (j+1)=ps.take j++[p]:=by rw[List.take_add_one,H];rfl
  have l:(ps.take j).length<=64:=by rw[Yr];exact D8 (Ys _ _) D
  have h:=N.len;generalize ps.take j=s at N E l h ⊢;have R:∀x,((Dj s x).map dE).length<Dg:=λx=>by rw[Qd];exact df (by have:=tm s x;exact Ga (D8 this l) rfl)
  dsimp only[cj,aL,Qa,aO,aA,aB,bK];refine td dY (a:= .r p.1) (g:=D1 s) (xs:=xs) (dk:=dN<|.r p.1) (dv:=dE (.c p.2,p)) (old:=(Dj s<|.r p.1).map dE) rfl N.nd (df<|by exact Ga (D8 h<|WR 2 l) rfl) (gI _) (R _) (λo0=>rfl) (λq=>by rw[N.out _ q];rfl) (λQ X q=> ?_) (λd Q X q=> ?_) ?_
  .dsimp only[dP];dsimp only[hU,bC,cA,bD,cr,bG,CE,C2,aC,aG,aT,aX,aE,aI,aV,aU,aQ,aM,aD,aF,Qa,aA,aB,aK,bV,tgl,d6,cE,bu,bt,ct];refine ip ?_
   (dsimp only[bt];refine⟨by decide,?_⟩)
   exact q
  .dsimp only[dP];dsimp only[hU,bC,cA,bD,cr,aL,Qa,aB,aA,bG,CE,C2,aC,aG,aT,aX,aE,aI,aV,aU,aD,aF,aK,bV,tgl,bt,aQ,aM,eN,cE,bu,ct];refine g9 ?_
   (dsimp only[bt];refine⟨by decide,by decide,?_⟩)
   exact q
  dsimp only[aL,Qa,aB,aA];have Y:=kh xs<|.r p.1;refine td dY (a:= .c p.2) (dk:=dN<|.c p.2) (dv:=dE (.r p.1,p)) (old:=(Dj s<|.c p.2).map dE) rfl (jI N.nd _) (df<|by exact Ga (D8 Y<|Kx (D8 h<|WR 2 l)) rfl) (gI _) (R _) (λo0=>cF (D1 s) (y:=Nd.c p.2) _ (λq=>nomatch q)) (λq=>by rw[N.out _ λz=>q (E4.mpr<|.inl z)];rfl) (λQ X q=> ?_) (λd Q X q=> ?_) ?_
  .dsimp only[dP];dsimp only[hU,bC,cA,bD,cr,bG,CE,C2,aC,aG,aT,aX,aE,aI,aV,aU,aQ,aM,aD,aF,Qa,aA,aB,aK,bV,tgl,eN,cE,bu,bt,ct];refine g9 ?_
   (dsimp only[bt];refine⟨by decide,?_⟩)
   exact q
  .dsimp only[dP];dsimp only[hU,bC,cA,bD,cr,aL,Qa,aB,aA,bG,CE,C2,aC,aG,aT,aX,aE,aI,aV,aU,aD,aF,aK,bV,tgl,bt,aQ,aM,d6,cE,bu,ct];refine ip ?_
   (dsimp only[bt];refine⟨by decide,by decide,?_⟩)
   exact q
  dsimp only[aL,Qa,aB,aA];rw[sN];exact m _ ⟨_,_,_,E▸N.snoc p,by rw[E];rfl⟩
 .rintro Δ ⟨v,xs,c,N,rfl⟩;rw[Kh] at N;refine cW ?_;rw[Kh]
  (dsimp only[cq,aL,Qa,aO,aB,aA,aF,aJ,aK,er];refine⟨rfl,?_⟩)
  exact F.qr<|k xs N
end
theorem uZ{L:Type}[DecidableEq L]:∀ {xs ys:List L},xs.Nodup->(∀x∈xs,x∈ys)->xs.length<=ys.length:=λ{xs}=>by
 induction xs with
 |nil=>exact λ{ys} _ _=>QS _
 |cons x xs i=>
  intro ys nd h;obtain⟨n,z⟩:=Qy.mp nd;have hx:=h x<|.head _;have:=i (ys:=ys.erase x) z λy W=>(List.mem_erase_of_ne<|λ(q:y=x)=>n<|q▸W).mpr (h y<|.tail _ W);rw[List.length_erase_of_mem hx] at this;exact Nat.add_le_of_le_sub (List.length_pos_of_mem hx) this
abbrev Par:=Nd->Option (Nd×Pl)
abbrev Bs:=List Nd×Par
noncomputable def Nd.isR:Nd->Bool
 | .r _=>Jc
 | .c _=>Jd
noncomputable def HD(x:Pl->Int)(z:Nd)(p:Pl):Bool:=z.isR||decide (x p>0)
def stp(x:Pl->Int)(z:Nd)(s:Bs)(e:Nd×Pl):Bs:=if e.1∉s.1/\HD x z e.2=Jc then(s.1++[e.1],upd s.2 e.1<|Ja (z,e.2)) else s
noncomputable def bfsO(s:Bs)(f:Nd->Bs):Option Nd->Bs
 |some z=>f z
 |none=>s
noncomputable def HH(ps:List Pl)(x:Pl->Int):Nat->Nat->Bs->Bs
 |0,_,s=>s
 |k+1,i,s=>bfsO s (λz=>HH ps x k (i+1) ((Dj ps z).foldl (stp x z) s)) s.1[i]?
theorem uq(ps:List Pl)(x:Pl->Int)(k i:Nat)(s:Bs):HH ps x (k+1) i s=bfsO s (λz=>HH ps x k (i+1) ((Dj ps z).foldl (stp x z) s)) s.1[i]? :=rfl
noncomputable def GY(h w:Nat):List Nd:=(Qc h).map .r++(Qc w).map .c
structure Fx(ps:List Pl)(x:Pl->Int)(st:List Nd)(h w:Nat)(s:Bs):Prop where
 nd:s.1.Nodup
 val:∀y∈s.1,y∈GY h w
 has:∀y∈st,y∈s.1
 par:∀ (j:Nat) (y:Nd),s.1[j]? =Ja y->(s.2 y=Jb/\y∈st)\/X3 λ(z:Nd) (p:Pl) (i:Nat)=>A5 (s.2 y=Ja (z,p)) (i<j) (s.1[i]? =Ja z) ((y,p)∈Dj ps z)<|HD x z p=Jc
theorem Fx.len{x:Pl->Int}{s:Bs}(b:Fx ps x st h w s):s.1.length<=h+w:=by
 have:=uZ b.nd b.val
 rwa [GY,QG,Qd,Qd,QA,QA] at this
def Clo(ps:List Pl)(x:Pl->Int)(n:Nat)(s:Bs):Prop:=∀i z,i<n->s.1[i]? =Ja z->∀e∈Dj ps z,HD x z e.2=Jc->e.1∈s.1
theorem rj(x:Pl->Int)(z:Nd)(s:Bs)(e:Nd×Pl):s.1<+:(stp x z s e).1:=by
 unfold stp
 split
 .exact List.prefix_append _ _
 .exact List.prefix_refl _
theorem jH(x:Pl->Int)(z:Nd):∀ (es:List (Nd×Pl)) (s:Bs),s.1<+:(es.foldl (stp x z) s).1
 |[]=>λs=>List.prefix_refl _
 |e::es=>λs=>(rj x z s e).trans (jH x z es _)
theorem vJ(x:Pl->Int)(z:Nd):∀ (es:List (Nd×Pl)) (s:Bs),∀e∈es,HD x z e.2=Jc->e.1∈(es.foldl (stp x z) s).1:=λes=>by
 induction es with
 |nil=>exact λs f j=>bS j
 |cons e es i=>
  intro s f j o
  rcases Qw.mp j with rfl|j
  .refine(jH x z es _).subset ?_;unfold stp;by_cases q:f.1∉s.1/\HD x z f.2=Jc
   .rw[Ug q];exact Qe _<|.head _
   .rw[Uf q];exact Classical.byContradiction λw=>q ⟨w,o⟩
  .exact i _ f j o
theorem rL{L:Type}{l m:List L}(h:l<+:m){i:Nat}{a:L}(e:l[i]? =Ja a):m[i]? =Ja a:=by
 obtain⟨t,rfl⟩:=h;rw[Wn (QF.mp e).1];exact e
theorem qS(D:∀p∈ps,p.1<h/\p.2<w){z:Nd}{e:Nd×Pl}(O:e∈Dj ps z):e.2∈ps/\e.1∈GY h w:=by
 induction z with
 |r i=>
  obtain⟨p,N,rfl⟩:=Ql.mp O;have N:=(Qj.mp N).1;exact⟨N,Qe _<|Ql.mpr ⟨_,Qf.mpr (D p N).2,rfl⟩⟩
 |c j=>
  obtain⟨p,N,rfl⟩:=Ql.mp O;have N:=(Qj.mp N).1;exact⟨N,Qk _<|Ql.mpr ⟨_,Qf.mpr (D p N).1,rfl⟩⟩
section
variable{ps:List Pl}{x:Pl->Int}{st:List Nd}{h w:Nat}
theorem Fx.stp(D:∀p∈ps,p.1<h/\p.2<w){s:Bs}(b:Fx ps x st h w s){z:Nd}{i:Nat}(hz:s.1[i]? =Ja z){e:Nd×Pl}(O:e∈Dj ps z):Fx ps x st h w (stp x z s e):=by
 unfold Vl.Internal.stp;by_cases q:e.1∉s.1/\HD x z e.2=Jc
 .rw[Ug q];refine⟨?_,λy W=> ?_,λy W=>Qk _<|b.has y W,λj y H=> ?_⟩
  .exact Qv.mpr ⟨b.nd,Qy.mpr ⟨λq=>(bS q),.nil⟩,λa σ c C r=>q.1<|by rw[Qh.mp C] at r;exact r▸σ⟩
  .rcases Qr.mp W with W|W
   .exact b.val y W
   .rw[Qh.mp W];exact(qS D O).2
  .have l:i<s.1.length:=(QF.mp hz).1
   rcases Nat.lt_or_ge j s.1.length with M|M
   .rw[Wn M] at H;have W:y≠e.1:=λr=>q.1 (r▸QC H)
    rcases b.par j y H with⟨N,Y⟩|⟨A,p,G,N,Y,J,T,B⟩
    .exact .inl ⟨(cF s.2 _ W).trans N,Y⟩
    .exact .inr ⟨A,p,G,(cF s.2 _ W).trans N,Y,by rw[Wn (by exact Nat.lt_trans Y M)];exact J,T,B⟩
   .rw[WP M] at H;have:j-s.1.length=0:=by
     rcases Nat.eq_zero_or_pos (j-s.1.length) with r|r
     .exact r
     .rw[KX (show [e.1].length<=_ from r)] at H;exact ns H
    rw[this] at H;obtain rfl:=sj H;exact .inr ⟨z,e.2,i,bY _ _ _,by exact Fy l M,by rw[Wn l];exact hz,O,q.2⟩
 .rw[Uf q];exact b
theorem Fx.fold(D:∀p∈ps,p.1<h/\p.2<w){z:Nd}{i:Nat}:∀ (es:List (Nd×Pl)) {s:Bs},Fx ps x st h w s->s.1[i]? =Ja z->(∀e∈es,e∈Dj ps z)->Fx ps x st h w (es.foldl (Vl.Internal.stp x z) s):=λes=>by
 induction es with
 |nil=>exact λb o0 o0=>b
 |cons e es W=>exact λ{s} b v O=>W (b.stp D v (O e (.head _))) (rL (rj x z s e) v) λf j=>O f<|.tail _ j
theorem ql(D:∀p∈ps,p.1<h/\p.2<w)(X:h+w<=16):∀ (k i:Nat) (s:Bs),Fx ps x st h w s->Clo ps x i s->i<=s.1.length->16<i+k->Fx ps x st h w (HH ps x k i s)/\∀z∈(HH ps x k i s).1,∀e∈Dj ps z,HD x z e.2=Jc->e.1∈(HH ps x k i s).1
 |0=>λi s b o0 t g=>by have:=b.len;exact absurd g<|QW.mpr (D8 t<|D8 this X)
 |k+1=>λi s b c t g=>by
  rw[uq]
  induction e:s.1[i]? with
  |none=>
   have:s.1.length<=i:=WW.mp e;show Fx ps x st h w s/\∀z∈s.1,_;refine⟨b,λz v f W o=> ?_⟩;obtain⟨j,H⟩:=Yt v;exact c j z (Fy (QF.mp H).1 this) H f W o
  |some z=>
   have r:=jH x z (Dj ps z) s;have l:i<s.1.length:=(QF.mp e).1;refine ql D X k (i+1) _ (Fx.fold D _ b e λf W=>W) (λj y H S f W o=> ?_) (D8 l r.length_le)<|Nat.lt_of_lt_of_eq g (QI i 1 k).symm;have M:j<s.1.length:=by exact zl (zs H) l
   have R:s.1[j]? =Ja y:=by
    have J:=rL r<|Qg M;rw[Qg M,<-J];exact S
   by_cases q:j=i
   .subst q;obtain rfl:=sj<|e.symm.trans R;exact vJ x z _ _ f W o
   .exact r.subset<|c j y (by exact Nat.lt_of_le_of_ne (zs H) q) R f W o
end
theorem fY{tst:CB->(Bool->Prop)->Prop}{body:CB->bU->Prop}(I:Nat->CB->Prop)
  (h:∀ (k:Nat) (L:CB),I k L->∀K:CB->Prop,(∀j P,j<k->I j P->K P)->tst L λb=>cond b (body L<|DU K Q)<|Q .next L):∀ (n k:Nat) (L:CB),k<n->I k L->FG tst body Q n L
 |0=>λk o0 q o0=>absurd q<|Wd _
 |n+1=>λk L q i=>h k L i (λJ=>FG tst body Q n J) λj P H w=>fY I h n j P (QJ H<|We q) w
def dV:Option (Nd×Pl)->D
 |none=> .none
 |some e=> .tup [dN e.1,dP e.2]
abbrev GP(s:Bs):D:=md Nd.key (λy=>dV (s.2 y)) s.1
abbrev E1(ps:List Pl)(x:Pl->Int):D:=md Gw (λp=> .int (x p)) ps
noncomputable def Nd.wd:Nd->String
 | .r _=>"row"
 | .c _=>"column"
noncomputable def Nd.no:Nd->Nat
 | .r i=>i
 | .c i=>i
theorem r7(z:Nd):C4 (dN z) (.int 0)=Ja (.str z.wd):=by rcases z with⟨⟩<;>rfl
theorem ri(z:Nd):C4 (dN z) (.int 1)=Ja (.int z.no):=by rcases z with⟨⟩<;>rfl
theorem Bu(z:Nd):dN z= .tup [.str z.wd,.int z.no]:=by rcases z with⟨⟩<;>rfl
theorem nz:D.okd 40 (.str "row")=Jc:=by decide+kernel
theorem nB:D.okd 40 (.str "column")=Jc:=by decide+kernel
theorem yM:D.eqv (.str "row") (.str "row")=Jc:=bZ _
theorem Az:D.eqv (.str "column") (.str "column")=Jc:=bZ _
theorem Ah:D.eqv (.str "row") (.str "column")=Jd:=by decide+kernel
theorem Ay:D.eqv (.str "column") (.str "row")=Jd:=by decide+kernel
theorem qz(z:Nd):D.okd 40 (.str z.wd)=Jc:=by
 induction z with
 |r i=>exact nz
 |c i=>exact nB
theorem rG(z:Nd):D.eqv (.str z.wd) (.str "row")=z.isR:=by
 induction z with
 |r i=>exact yM
 |c i=>exact Ay
theorem rN(z:Nd):D.eqv (.str z.wd) (.str "column")= !z.isR:=by
 induction z with
 |r i=>exact Ah
 |c i=>exact Az
theorem ti(p:Pl):D.okd 40 (dP p)=Jc:=rfl
theorem ly{L:Type}[DecidableEq L]{xs:List L}{x:L}(h:x∉xs):Dr xs x=xs++[x]:=Uf h
theorem vK{s:Bs}{a:Nd}(h:a∉s.1)(v:Option (Nd×Pl)):md Nd.key (upd (λy=>dV (s.2 y)) a (dV v)) (Dr s.1 a)=GP (s.1++[a],upd s.2 a v):=by
 rw[ly h,oj dV s.2 a v]
theorem eV{L:Type}{l:List L}{j:Nat}{a:L}(h:l[j]? =Ja a):l.take (j+1)=l.take j++[a]:=by rw[List.take_add_one,h];rfl
theorem mK{L:Type}{l:List L}(nd:l.Nodup){j:Nat}{a:L}(h:l[j]? =Ja a):a∉l.take j:=λq=>by
 have:=nd.sublist<|Yk (j+1) l;rw[eV h] at this;exact(Qv.mp this).2.2 a q a (.head _) rfl
theorem zD{x:Pl->Int}{s:Bs}{z:Nd}(h:s.1[i]? =Ja z):HH ps x (k+1) i s=HH ps x k (i+1) ((Dj ps z).foldl (stp x z) s):=by
 rw[uq,h];rfl
theorem x6{x:Pl->Int}{s:Bs}(h:s.1.length<=i):HH ps x k i s=s:=by
 induction k using Nat.casesOn with
 |zero=>rfl
 |succ k=>
  rw[uq,KX h];rfl
theorem gO{L u:Type}(f:u->L->u)(s:u){l:List L}{j:Nat}{a:L}(h:l[j]? =Ja a):(l.take (j+1)).foldl f s=f ((l.take j).foldl f s) a:=by
 rw[eV h,List.foldl_append];rfl
def Hy(ps:List Pl)(x:Pl->Int)(st:List Nd):Bs:=HH ps x 17 0 (st,λo0=>Jb)
theorem Fx.start{x:Pl->Int}{st:List Nd}(nd:st.Nodup)(hv:∀y∈st,y∈GY h w):Fx ps x st h w (st,λo0=>Jb):=
 ⟨nd,hv,λy W=>W,λj y H=> .inl ⟨rfl,QC H⟩⟩
noncomputable def bn(ban:Option Pl)(ps:List Pl):List Pl:=ps.filter λq=> !decide (ban=Ja q)
def HG:Option Pl->D
 |none=> .none
 |some p=>dP p
theorem xU(ps:List Pl):bn Jb ps=ps:=WU.mpr λq o0=>by rw[Ud (λz=>ns z)];rfl
theorem Ev:q∈bn ban ps↔q∈ps/\ban≠Ja q:=by
 rw[bn,Qj];exact and_congr_right λo0=>⟨λh z=>by rw[Uc z] at h;exact ft h,λh=>by rw[Ud h];rfl⟩
theorem wX(ban:Option Pl):D.okd 40 (HG ban)=Jc:=by rcases ban with⟨⟩<;>rfl
theorem iu(p q:Pl):D.eqv (dP p) (dP q)=decide (p=q):=by
 show D.eqv (.tup [_,_]) (.tup [_,_])=_;rw[Bf,bR,bR,Kq,QL,Ui,Ui,Ui];exact⟨λh=>Prod.ext (KT.mp h.1)<|KT.mp h.2,λh=>h▸⟨rfl,rfl⟩⟩
theorem wx(p:Pl)(ban:Option Pl):D.eqv (dP p) (HG ban)=decide (ban=Ja p):=by
 induction ban with
 |none=>rw[Ud (λz=>ns z)];rfl
 |some q=>exact(iu p q).trans (decide_eq_decide.mpr ⟨λh=>h▸rfl,λh=>(sj h).symm⟩)
theorem mJ(ban:Option Pl)(ps:List Pl)(z:Nd):Dj (bn ban ps) z=(Dj ps z).filter λe=> !decide (ban=Ja e.2):=by
 induction z with
 |r i=>
  show Kz _ (Wg _<|Wg _ _)=Wg _ (Kz _<|Wg _ _);rw[List.filter_map,Wv,Wv];refine Uj _ (Yl λq o0=> ?_);exact Bool.and_comm _ _
 |c i=>
  show Kz _ (Wg _<|Wg _ _)=Wg _ (Kz _<|Wg _ _);rw[List.filter_map,Wv,Wv];refine Uj _ (Yl λq o0=> ?_);exact Bool.and_comm _ _
def FT(ban:Option Pl)(x:Pl->Int)(z:Nd)(s:Bs)(e:Nd×Pl):Bs:=if !decide (ban=Ja e.2) then stp x z s e else s
theorem rh(ban:Option Pl)(x:Pl->Int)(z:Nd)(s:Bs)(l:List (Nd×Pl)):l.foldl (FT ban x z) s=(l.filter λe=> !decide (ban=Ja e.2)).foldl (stp x z) s:=List.foldl_filter.symm
noncomputable def whB(f:Fn):List S:=match (f.b[4]? :Option S) with
 |some (.while_ _ [_,_,.for_ _ _ _ b])=>b
 |_=>[]
section
variable{C:Cx}{mg mb:Jq->Option Jf}{n:Nat}{Q:D->Bool->Prop}{X:DX}
theorem AT{A U:E3}{ban:Option Pl}{ps:List Pl}{x:Pl->Int}{st:List Nd}{h w:Nat}(O:∀p∈ps,p.1<h/\p.2<w){s:Bs}{z:Nd}{i:Nat}(b:Fx (bn ban ps) x st h w s)(hz:s.1[i]? =Ja z)(m:h+w<=16){σ V c Y:Bool}{R M u2 u3:Option (D×Bool)}{d1 d:D}{Kp:bU}
  (hK:∀u v,Kp .next (Nb "near" σ d1<|Nb "counts" V (E1 ps x)<|Nb "starts" c d<|Nb "banned" Y (HG ban)<|Nb "came" Jc (GP<|(Dj (bn ban ps) z).foldl (stp x z) s)<|Nb "waiting" Jc (.list<|((Dj (bn ban ps) z).foldl (stp x z) s).1.map dN)<|No "start" M<|No "at" R<|Nb "here" Jc (dN z)<|No "other" u<|No "place" v<|[])):
  gX (.tup ["other","place"]) (λL K=>CQ G1 A U (whB fS) L K λo0 o0 o0=>False) Kp ((Dj ps z).map dE)
   (Nb "near" σ d1<|Nb "counts" V (E1 ps x)<|Nb "starts" c d<|Nb "banned" Y (HG ban)<|Nb "came" Jc (GP s)<|Nb "waiting" Jc (.list<|s.1.map dN)<|No "start" M<|No "at" R<|Nb "here" Jc (dN z)<|No "other" u2<|No "place" u3<|[]):=by
 have tz:∀y t,tg0 (dN y) t=Jb:=λy t=>by unfold tg0;rw[fg];rfl
 have tp:∀y t,tg0 (dP y) t=Jb:=λy t=>rfl;refine cX dE (λj L=>∃u v,L=(Nb "near" σ d1<|Nb "counts" V (E1 ps x)<|Nb "starts" c d<|Nb "banned" Y (HG ban)<|Nb "came" Jc (GP<|((Dj ps z).take j).foldl (FT ban x z) s)<|Nb "waiting" Jc (.list<|(((Dj ps z).take j).foldl (FT ban x z) s).1.map dN)<|No "start" M<|No "at" R<|Nb "here" Jc (dN z)<|No "other" u<|No "place" v<|[])) _ _ ⟨_,_,rfl⟩ ?_ ?_
 .rintro j f L hj ⟨u,v,rfl⟩ K k;have hm:=QC hj;have e:Fx (bn ban ps) x st h w (((Dj ps z).take j).foldl (FT ban x z) s):=by
   rw[rh];refine b.fold (λp B=>O p (Ev.mp B).1) _ hz λg E=> ?_;rw[mJ];exact Qj.mpr ⟨Yu (Qj.mp E).1,(Qj.mp E).2⟩
  have l:=e.len;rw[gO (FT ban x z) s hj] at k;generalize ((Dj ps z).take j).foldl (FT ban x z) s=t at e k l ⊢;obtain⟨o,p⟩:=f;have F:=(qS O hm).1;dsimp only[dE,whB,fS];dsimp only[hU,bC,bD,fO,aL,Qa,aO,aB,aA,bK];refine cb ?_;dsimp only[cp,cy,bv,aA,aW,aM,aQ,aD,aF,Qa,aJ,aB,aK,cM,DP,ct,fw,fz];rw[te,gI,ov,n0 dY,fg,dA];dsimp only[cr];refine xv (λN=> ?_) λN=> ?_
  .refine⟨⟨ti p,wX ban⟩,?_⟩;rw[wx];refine xv (λH=> ?_) λH=> ?_
   rotate_left
   .rw[show FT ban x z t (o,p)=t from Uf (by rw[Uc H];exact QB)] at k;exact k _ ⟨_,_,rfl⟩
   rw[show FT ban x z t (o,p)=stp x z t (o,p) from Ug (by rw[Ud H];rfl)] at k;refine aZ (r7 _) ?_;refine ip ?_;refine⟨⟨qz z,nz⟩,?_⟩;rw[rG];have W:HD x z p=Jc->∀ (r:List S) (X:Gq) (J:bU),(∀P,(∃u v,P=(Nb "near" σ d1<|Nb "counts" V (E1 ps x)<|Nb "starts" c d<|Nb "banned" Y (HG ban)<|Nb "came" Jc (GP<|stp x z t (o,p))<|Nb "waiting" Jc (.list<|(stp x z t (o,p)).1.map dN)<|No "start" M<|No "at" R<|Nb "here" Jc (dN z)<|No "other" u<|No "place" v<|[]))->J .next P)->
     CQ G1 A U [.setIdx (.loc "came") (.loc "other") (.tup [.loc "here",.loc "place"]),.expr (.meth (.loc "waiting") .append [.loc "other"])] (Nb "near" σ d1<|Nb "counts" V (E1 ps x)<|Nb "starts" c d<|Nb "banned" Y (HG ban)<|Nb "came" Jc (GP t)<|Nb "waiting" Jc (.list<|t.1.map dN)<|No "start" M<|No "at" R<|Nb "here" Jc (dN z)<|Nb "other" Jc (dN o)<|Nb "place" Jc (dP p)<|[]) J X:=λho r X J I=>by
    have hs:stp x z t (o,p)=(t.1++[o],upd t.2 o<|Ja (z,p)):=Ug ⟨N,ho⟩;rw[hs] at I;refine j8 dY (a:=o) (g:=λy=>dV<|t.2 y) (xs:=t.1) (dk:=dN o) (dv:=dV<|Ja (z,p)) rfl e.nd (df<|by exact Ga (D8 l m) rfl) (gI _) (λQ q=> ?_) (λQ X q=> ?_) ?_
    .dsimp only[dQ,cD,aT,c5,aV,cq,aL,Qa,aO,aA,aB,aF,aJ,aK];rw[fg,dA]
     (dsimp only[aA];refine⟨by decide,?_⟩)
     exact q
    .dsimp only[aD,aF,Qa,aJ,aB,aA,aK];rw[tz];exact q
    .dsimp only[aL,Qa,aO,aB,aA];refine i6 ?_
     (dsimp only[aF,Qa,aJ,aB,aA,aK,dl,cq,aL,aO];refine⟨trivial,?_⟩)
     rw[fg]
     (dsimp only[aA];refine⟨rfl,?_⟩)
     refine⟨by rw[Qd];exact df<|by exact Ga (D8 l m) rfl,I _ ⟨Ja (dN o,Jc),Ja (dP p,Jc),?_⟩⟩;rw[vK N,QD];rfl
   refine jx (λT=> ?_) λT=> ?_
   .exact W (by unfold HD;rw[T];rfl) [] _ _ λP q=>k P q
   .refine aZ (dh ce (de p) F) ?_;dsimp only[kl];refine cG (λhx=> ?_) λhx=> ?_
    .exact W (by unfold HD;rw[T];exact Uc hx) [] _ _ λP q=>k P q
    .rw[show stp x z t (o,p)=t from Uf λq=>by
      have G:(z.isR||decide (x p>0))=Jc:=q.2;rw[T,Ud hx] at G;exact ft G] at k
     exact k _ ⟨_,_,rfl⟩
  .rw[show FT ban x z t (o,p)=t by rw[FT,show stp x z t (o,p)=t from Uf λq=>q.1 N,ite_self]] at k;exact k _ ⟨_,_,rfl⟩
 .rintro L ⟨u,v,rfl⟩;rw[Kh,rh,<-mJ];exact hK u v
theorem j0(e:CR C G1 mg mb){ban:Option Pl}{ps:List Pl}{x:Pl->Int}{ns st:List Nd}{h w:Nat}(N:D7 ps ns)(W:∀p∈ps,p.1<h/\p.2<w)(O:h<=8)(U:w<=8)(nd:st.Nodup)(hv:∀y∈st,y∈GY h w){M V b3 Y:Bool}(kq:Q (GP (Hy (bn ban ps) x st)) Jc):
  aR (aN C<|n+1) "reached" [(md Nd.key (D1 ps) ns,M),(E1 ps x,V),(.list<|st.map dN,b3),(HG ban,Y)] Q X:=by
 refine e.fn fS (bl 1 rfl) rfl λcl cu PQ PX gg=> ?_;dsimp only[fS];dsimp only[aY,b0,bo];refine bq ?_
 (dsimp only[iW,bA,aH,aL,Qa,aO,aB,aA];refine⟨rfl,?_⟩)
 refine bq ?_
 (dsimp only[bE,CE,C8,aE,aI,aV,aU,bA,aH,aL,Qa,aO,aB,aA];refine⟨by decide,?_⟩)
 refine d7 rfl ?_;dsimp only[CE,aC,aG,aX,aE,aI,aU,cJ,aD,aF,Qa,aJ,aB,aA,aK,bk,bH,f8,gf,f0,f7,er,bJ,gb,bM,gN,cV,f6,gc,cI];have R:Fx (bn ban ps) x st h w (st,λo0=>Jb):= .start nd hv;refine cX dN (λi L=>∃v c,L=(Nb "near" M (md Nd.key (D1 ps) ns)<|Nb "counts" V (E1 ps x)<|Nb "starts" c (.list<|st.map dN)<|Nb "banned" Y (HG ban)<|Nb "came" Jc (GP (st.take i,λo0=>Jb))<|Nb "waiting" Jc (.list<|(st.take i).map dN)<|No "start" v<|No "at" Jb<|No "here" Jb<|No "other" Jb<|No "place" Jb<|[])) _ _ ⟨_,_,rfl⟩ ?_ ?_
 .rintro j y L r ⟨v,c,rfl⟩ K m;dsimp only[cj,aL,Qa,aO,aB,aA,bK];have l:(st.take j).length<=16:=by
   rw[Yr];have:st.length<=h+w:=R.len;exact D8 (Ys _ _)<|D8 this (Kk O U)
  have o:=mK nd r;refine j8 dY (a:=y) (g:=λy=>dV<|(λo0=>Jb:Par) y) (xs:=st.take j) (dk:=dN y) (dv:= .none) rfl (nd.sublist<|Yk _ _) (df<|by exact Ga l rfl) (gI _) (λQ q=> ?_) (λQ X q=> ?_) ?_
  .exact⟨rfl,q⟩
  .dsimp only[aD,aF,Qa,aJ,aB,aA,aK];rw[show tg0 (dN y) (Ja ["start"])=Jb by unfold tg0;rw[fg];rfl];exact q
  .dsimp only[aL,Qa,aO,aB,aA];refine i6 ?_
   (dsimp only[aF,Qa,aJ,aB,aA,aK,dl,cq,aL,aO];refine⟨trivial,?_⟩)
   rw[fg]
   (dsimp only[aA];refine⟨rfl,?_⟩)
   refine⟨by rw[Qd];exact df<|by exact Ga l rfl,m _ ⟨Ja (dN y,Jc),c,?_⟩⟩;have J:=vK (s:=(st.take j,λo0=>Jb)) (a:=y) o Jb;rw[show upd ((st.take j,(λo0=>Jb:Par)):Bs).2 y Jb=λo0=>Jb from by funext z;unfold upd;split<;>rfl] at J;rw[eV r,QD];exact Uj (λd=>(Nb "near" M (md Nd.key (D1 ps) ns)<|Nb "counts" V (E1 ps x)<|Nb "starts" c (D.list<|st.map dN)<|Nb "banned" Y (HG ban)<|Nb "came" Jc d<|Nb "waiting" Jc (D.list<|(st.take j).map dN++[dN y])<|Nb "start" Jc (dN y)<|No "at" Jb<|No "here" Jb<|No "other" Jb<|No "place" Jb<|[])) J
 rintro L ⟨G,c,rfl⟩;rw[Kh];refine ia ?_;refine bq ?_;dsimp only[aM,bA,aH,aL,Qa,aO,aB,aA];refine iO rfl 18 ?_;refine fY (λk L=>X6 λ(i:Nat) (s:Bs) (B:Bool) (S A P:Option (D×Bool))=>A5 (k+i=17) (i<=s.1.length) (Fx (bn ban ps) x st h w s) (HH (bn ban ps) x k i s=Hy (bn ban ps) x st)<|L=(Nb "near" B (md Nd.key (D1 ps) ns)<|Nb "counts" V (E1 ps x)<|Nb "starts" c (.list<|st.map dN)<|Nb "banned" Y (HG ban)<|Nb "came" Jc (GP s)<|Nb "waiting" Jc (.list<|s.1.map dN)<|No "start" G<|Nb "at" Jc (.int i)<|No "here" S<|No "other" A<|No "place" P<|[])) ?_ 18 17 _ (by decide) ⟨0,(st,λo0=>Jb),M,Jb,Jb,Jb,rfl,QS _,R,rfl,rfl⟩;rintro k L ⟨i,s,B,S,A,P,hk,hi,b,F,rfl⟩ K m;have l:=b.len
 (dsimp only[aW,bv,bj,bX,aC,aE,b6,aD,aF,Qa,aJ,aB,aA,aK,cK,cQ,rV];refine⟨rfl,?_⟩)
 rw[Qd];refine cG (λE=> ?_) λE=> ?_
 rotate_left
 .have:HH (bn ban ps) x k i s=s:=x6 (by exact QW.mp λq=>E<|Kc.mpr q);rw[this] at F;refine ia ?_;refine cW ?_
  (dsimp only[cq,aL,Qa,aO,aB,aA,aF,aJ,aK,er];refine⟨rfl,?_⟩)
  rw[F];exact gg.qr kq
 obtain⟨z,T⟩:∃z,s.1[i]? =Ja z:=⟨_,Qg<|by exact Kc.mp E⟩
 obtain⟨k,rfl⟩:∃k',k=k'+1:=⟨k-1,by exact zk1 O U hk l E⟩
 rw[zD T] at F;have bF:Fx (bn ban ps) x st h w ((Dj (bn ban ps) z).foldl (stp x z) s):=b.fold (λp H=>W p (Ev.mp H).1) _ T λf hf=>hf;have pF:=(jH x z (Dj (bn ban ps) z) s).length_le;have tz:∀y t,tg0 (dN y) t=Jb:=λy t=>by unfold tg0;rw[fg];rfl
 refine bq ?_;dsimp only[aQ,aD,aF,Qa,aJ,aB,aA,aK,bk];refine aZ (jc (v:=dN z)<|by rw[Qu,T];rfl) ?_;rw[tz];dsimp only[bA,aH,aL,Qa,aO,aB,aA];refine bq ?_;dsimp only[bp,aM,aD,aF,Qa,aJ,aB,aA,aK,bu,d4,bA,aH,aL,aO];refine d7 rfl ?_;dsimp only[CE,aC,aG,aX,aE,aI,aU,cJ,wT,aD,aF,Qa,aJ,aB,aA,aK,d5,xy];rw[gI,ov];have fin:∀u v σ,K (Nb "near" σ (md Nd.key (D1 ps) ns)<|Nb "counts" V (E1 ps x)<|Nb "starts" c (.list<|st.map dN)<|Nb "banned" Y (HG ban)<|Nb "came" Jc (GP<|(Dj (bn ban ps) z).foldl (stp x z) s)<|Nb "waiting" Jc (.list<|((Dj (bn ban ps) z).foldl (stp x z) s).1.map dN)<|No "start" G<|Nb "at" Jc (.int<|(i:Int)+1)<|Nb "here" Jc (dN z)<|No "other" u<|No "place" v<|[]):=λu v σ=>
  m k _ (by exact QN _) ⟨i+1,_,σ,_,_,_,by exact(QI _ _ _).symm.trans hk,by exact D8 (Kc.mp E) pF,bF,F,rfl⟩
 by_cases I:z∈ns
 .rw[nu dY I];dsimp only[Co];exact AT W b T (by exact Kk O U) λu v=>fin u v _
 .rw[og dY I];dsimp only[Cn,bt,bA,cI];have:=fin A P B;rw[mJ,N.out z I] at this;exact this
end
structure H6 where
 R:List Pl
 L:List Pl
 E:Nd
noncomputable def wayO(w:H6)(k:Nd->Pl->H6):Option (Nd×Pl)->H6
 |none=>w
 |some e=>k e.1 e.2
noncomputable def Da(s:Bs):Nat->Nd->H6
 |0,y=>⟨[],[],y⟩
 |k+1,y=>wayO ⟨[],[],y⟩ (λz p=>bif y.isR then⟨(Da s k z).R,p::(Da s k z).L,(Da s k z).E⟩ else⟨p::(Da s k z).R,(Da s k z).L,(Da s k z).E⟩) (s.2 y)
theorem lx{s:Bs}(h:s.2 y=Jb):Da s k y=⟨[],[],y⟩:=by
 induction k using Nat.casesOn with
 |zero=>rfl
 |succ k=>show wayO _ _ (s.2 y)=_;rw[h];rfl
theorem lh{s:Bs}{y z:Nd}(h:s.2 y=Ja (z,p)):Da s (k+1) y=bif y.isR then⟨(Da s k z).R,p::(Da s k z).L,(Da s k z).E⟩ else⟨p::(Da s k z).R,(Da s k z).L,(Da s k z).E⟩:=by
 show wayO _ _ (s.2 y)=_;rw[h];rfl
noncomputable def EB(p:Prop)[Decidable p]:Int:=if p then 1 else 0
theorem fV{p:Prop}[Decidable p](h:p):EB p=1:=Ug h
theorem d3{p:Prop}[Decidable p](h:¬p):EB p=0:=Uf h
noncomputable abbrev cR(l:List Pl)(i:Nat):Int:=(l.countP λp=>decide (p.1=i):Nat)
noncomputable abbrev cC(l:List Pl)(i:Nat):Int:=(l.countP λp=>decide (p.2=i):Nat)
theorem nO(p:Pl)(l:List Pl)(i:Nat):cR (p::l) i=cR l i+EB (p.1=i):=by
 unfold cR EB;rw[Yq];by_cases h:p.1=i
 .rw[Ug h,Ug (Uc h)];exact rfl
 .rw[Uf h,Uf (by simpa using h)];exact rfl
theorem nk(p:Pl)(l:List Pl)(i:Nat):cC (p::l) i=cC l i+EB (p.2=i):=by
 unfold cC EB;rw[Yq];by_cases h:p.2=i
 .rw[Ug h,Ug (Uc h)];exact rfl
 .rw[Uf h,Uf (by simpa using h)];exact rfl
structure H5(ps:List Pl)(x:Pl->Int)(st:List Nd)(s:Bs)(j:Nat)(y:Nd)(W:H6):Prop where
 e:W.E∈st
 r:∀p∈W.R,p∈ps
 l:∀p∈W.L,p∈ps/\0<x p
 nd:W.L.Nodup
 at_:∀p∈W.L,∃i,i<=j/\s.1[i]? =Ja (.r p.1)
 row:∀i,cR W.R i-cR W.L i=EB (W.E= .r i)-EB (y= .r i)
 col:∀i,cC W.R i-cC W.L i=EB (y= .c i)-EB (W.E= .c i)
theorem yi{y z:Nd}{p:Pl}(h:(y,p)∈Dj ps z):p∈ps/\((y= .c p.2/\z= .r p.1)\/(y= .r p.1/\z= .c p.2)):=by
 induction z with
 |r i=>
  obtain⟨q,N,Y⟩:=Ql.mp h;cases Y;obtain⟨J,w⟩:=Qj.mp N;exact⟨J,.inl ⟨rfl,by rw[Ue w]⟩⟩
 |c i=>
  obtain⟨q,N,Y⟩:=Ql.mp h;cases Y;obtain⟨J,w⟩:=Qj.mp N;exact⟨J,.inr ⟨rfl,by rw[Ue w]⟩⟩
theorem pU{x:Pl->Int}{s:Bs}(b:Fx ps x st h w s):∀ (k j:Nat) (y:Nd),s.1[j]? =Ja y->j<k->H5 ps x st s j y (Da s k y)
 |0=>λj y o0 M=>absurd M<|Wd _
 |k+1=>λj y Q M=>by
  rcases b.par j y Q with⟨N,Y⟩|⟨z,p,i,N,Y,J,O,B⟩
  .rw[lx N];exact⟨Y,λp D=>(bS D),λp D=>(bS D),.nil,λp D=>(bS D),λi=>(Int.sub_self _).symm,λi=>(Int.sub_self _).symm⟩
  .have W:=pU b k i z J (by exact Fy Y<|zs M);rw[lh N];generalize Da s k z=V at W ⊢;obtain⟨D,⟨rfl,rfl⟩|⟨rfl,rfl⟩⟩:=yi O
   .show H5 ps x st s j (.c p.2) ⟨p::V.R,V.L,V.E⟩;refine⟨W.e,λq o=> ?_,W.l,W.nd,λq o=> ?_,λm=> ?_,λm=> ?_⟩
    .cases o with
     |head=>exact D
     |tail _ o=>exact W.r q o
    .obtain⟨G,C,S⟩:=W.at_ q o;exact⟨G,by exact D8 C<|Kw Y,S⟩
    .have:=W.row m;dsimp only;rw[nO,d3 (p:=Nd.c p.2= .r m) (λq=>nomatch q)];by_cases q:p.1=m
     .subst q;rw[fV (p:=Nd.r p.1= .r p.1) rfl] at this;rw[fV (p:=p.1=p.1) rfl];exact zw1 this
     .rw[d3 (p:=Nd.r p.1= .r m) (λz=>q<|Nd.r.inj z)] at this;rw[d3 q];exact zw2 this
    .have:=W.col m;dsimp only;rw[nk];rw[d3 (p:=Nd.r p.1= .c m) (λq=>nomatch q)] at this;by_cases q:p.2=m
     .subst q;rw[fV (p:=Nd.c p.2= .c p.2) rfl,fV (p:=p.2=p.2) rfl];exact zw5 this
     .rw[d3 (p:=Nd.c p.2= .c m) (λz=>q<|Nd.c.inj z),d3 q];exact zw2 this
   .show H5 ps x st s j (.r p.1) ⟨V.R,p::V.L,V.E⟩;have hx:0<x p:=by
     have B:(Nd.isR (.c p.2)||decide (x p>0))=Jc:=B;exact Ue B
    refine⟨W.e,W.r,λq o=> ?_,Qy.mpr ⟨λq=> ?_,W.nd⟩,λq o=> ?_,λm=> ?_,λm=> ?_⟩
    .cases o with
     |head=>exact⟨D,hx⟩
     |tail _ o=>exact W.l q o
    .obtain⟨G,C,S⟩:=W.at_ p q;have:=(List.getElem?_inj (QF.mp Q).1 b.nd).mp (Q.trans S.symm);exact KJ _<|Fy Y (D8 (QV this) C)
    .cases o with
     |head=>exact⟨j,Qz _,Q⟩
     |tail _ o=>obtain⟨G,C,S⟩:=W.at_ q o;exact⟨G,by exact D8 C<|Kw Y,S⟩
    .have:=W.row m;dsimp only;rw[nO];rw[d3 (p:=Nd.c p.2= .r m) (λq=>nomatch q)] at this;by_cases q:p.1=m
     .subst q;rw[fV (p:=Nd.r p.1= .r p.1) rfl,fV (p:=p.1=p.1) rfl];exact zw3 this
     .rw[d3 (p:=Nd.r p.1= .r m) (λz=>q<|Nd.r.inj z),d3 q];exact zw4 this
    .have:=W.col m;dsimp only;rw[nk,d3 (p:=Nd.r p.1= .c m) (λq=>nomatch q)];by_cases q:p.2=m
     .subst q;rw[fV (p:=Nd.c p.2= .c p.2) rfl] at this;rw[fV (p:=p.2=p.2) rfl];exact zw7 this
     .rw[d3 (p:=Nd.c p.2= .c m) (λz=>q<|Nd.c.inj z)] at this;rw[d3 q];exact zw4 this
def De(δ:Int)(R:List Pl)(x:Pl->Int):Pl->Int:=R.foldl (λx p=>upd x p (x p+δ)) x
noncomputable def CW(f:Pl->Bool)(ps:List Pl)(x:Pl->Int):Int:=((ps.filter f).map x).sum
theorem pL{f:Pl->Bool}{x y:Pl->Int}(h:∀p∈ps,x p=y p):CW f ps x=CW f ps y:=by
 unfold CW;rw[Qm λp D=>h p (Qj.mp D).1]
theorem dg(f:Pl->Bool)(q:Pl)(ps:List Pl)(x:Pl->Int):CW f (q::ps) x=(if f q then x q else 0)+CW f ps x:=by
 unfold CW;by_cases h:f q=Jc
 .rw[Ke h,Ug h];rfl
 .rw[Kf h,Uf h,Ws]
theorem jN{f:Pl->Bool}{x:Pl->Int}:∀ {ps:List Pl},ps.Nodup->p∈ps->CW f ps (upd x p (x p+δ))=CW f ps x+if f p then δ else 0:=λ{ps}=>by
 induction ps with
 |nil=>exact λo0 h=>bS h
 |cons q ps i=>
  intro nd D;obtain⟨n,I⟩:=Qy.mp nd;rw[dg,dg];by_cases e:q=p
  .subst e;rw[pL (y:=x) λr T=>cF _ _ λ(z:r=q)=>n<|z▸T,bY];by_cases z:f q=Jc
   .rw[Ug z,Ug z,Ug z];exact Int.add_right_comm _ _ _
   .rw[Uf z,Uf z,Uf z,Ks]
  .rw[cF _ _ e,i I ((Qw.mp D).resolve_left λz=>e z.symm)];exact(KS _ _ _).symm
theorem fZ{f:Pl->Bool}{ps:List Pl}(nd:ps.Nodup):∀ {R:List Pl} {x:Pl->Int},(∀p∈R,p∈ps)->CW f ps (De δ R x)=CW f ps x+δ*(R.countP f:Nat)
 |[],x,_=>by show _=_+δ*0;rw[Int.mul_zero,Ks];rfl
 |p::R,x,h=>by
  show CW f ps (De δ R<|upd x p (x p+δ))=_;rw[fZ nd λq o=>h q<|.tail _ o,jN nd<|h p (.head _),Yq]
  split
  .rw[Int.natCast_add,Int.mul_add];show _=_+(_+δ*1);exact zr10 _ _ _
  .rw[Nat.add_zero];exact Uj (· +_)<|Ks _
theorem m9(h:0<=δ):∀ {R:List Pl} {x:Pl->Int} (q:Pl),x q<=De δ R x q
 |[],x,q=>QX _
 |p::R,x,q=>by
  refine QQ ?_<|m9 h (R:=R) (x:=upd x p<|x p+δ) q;by_cases e:q=p
  .subst e;rw[bY];exact QZ h
  .rw[cF _ _ e];exact QX _
theorem fy:∀ {R:List Pl} {x:Pl->Int} {q:Pl},q∉R->De δ R x q=x q
 |[],x,q,_=>rfl
 |p::R,x,q,h=>(fy (R:=R) (x:=upd x p (x p+δ)) λz=>h (.tail _ z)).trans (cF _ _ λ(z:q=p)=>h (z▸ .head _))
theorem oM:∀ {R:List Pl} {x:Pl->Int} {q:Pl},R.Nodup->q∈R->De δ R x q=x q+δ:=λ{R}=>by
 induction R with
 |nil=>exact λo0 h=>bS h
 |cons p R i=>
  intro x q nd h;obtain⟨n,z⟩:=Qy.mp nd;show De δ R (upd x p<|x p+δ) q=_;by_cases e:q=p
  .subst e;rw[fy n,bY]
  .rw[i z ((Qw.mp h).resolve_left e),cF _ _ e]
theorem mG(δ:Int){R:List Pl}(x:Pl->Int)(h:R[j]? =Ja p):De δ (R.take (j+1)) x=upd (De δ (R.take j) x) p (De δ (R.take j) x p+δ):=gO _ x h
theorem Ao{xs:List Nd}(nd:xs.Nodup):((xs.filter λy=>y.isR==b).map Nd.no).Nodup:=by
 rw[QP,Wl];refine(QP.mp nd).filter _|>.imp_of_mem λ{u v} d hv h q=>h ?_
 have N:(u.isR==b)=Jc:=(Qj.mp d).2;have p:(v.isR==b)=Jc:=(Qj.mp hv).2;have J:=Uh N;have w:=Uh p
 rcases u with⟨⟩<;>rcases v with⟨⟩<;>first|(subst J;cases w;done)|(subst J;cases w;done)|(have:_=_:=q;cases this;rfl)
theorem tX(y:Nd)(t:Dc):tg0 (dN y) t=Jb:=by unfold tg0;rw[fg];rfl
theorem ym(y:Pl)(t:Dc):tg0 (dP y) t=Jb:=rfl
theorem uQ{L:Type}[DecidableEq L]{xs:List L}{x:L}(h:x∈xs):Dr xs x=xs:=Ug h
theorem tV{ps:List Pl}{x:Pl->Int}{p:Pl}(h:p∈ps)(v:Int):md Gw (upd (λp=>D.int (x p)) p (.int v)) (Dr ps p)=E1 ps (upd x p v):=by
 rw[uQ h,oj D.int x p v]
noncomputable def wB(b:Bool):String:=bif b then "row" else "column"
noncomputable def mkN(b:Bool)(k:Nat):Nd:=bif b then .r k else .c k
theorem zW{y:Nd}(h:y.isR=b):mkN b y.no=y:=by subst h;rcases y with⟨⟩<;>rfl
theorem uV(b:Bool)(k:Nat):(mkN b k).no=k/\(mkN b k).isR=b:=by rcases b with⟨⟩<;>exact⟨rfl,rfl⟩
theorem zE(y:Nd)(b:Bool):D.eqv (.str y.wd) (.str (wB b))=(y.isR==b):=by
 induction b with
 |true=>exact(rG y).trans (by cases y.isR<;>rfl)
 |false=>exact(rN y).trans (by cases y.isR<;>rfl)
theorem Ak(b:Bool):D.okd 40 (.str (wB b))=Jc:=by
 induction b with
 |true=>exact nz
 |false=>exact nB
def Gz(b:Bool)(m:Nat)(xs:List Nd):List Nat:=(Qc m).filter λk=>decide<|mkN b k∈xs
theorem xw{xs:List Nd}(nd:xs.Nodup)(L:∀y∈xs,y.isR=b->y.no<m){j:List Int}(D:j.Perm ((xs.filter λy=>y.isR==b).map λy=>(y.no:Int)))(s:j.Pairwise (· <= ·)):j=(Gz b m xs).map λ(k:Nat)=>(k:Int):=by
 have Y:((xs.filter λy=>y.isR==b).map λy=>(y.no:Int)).Nodup:=by
  rw[show((xs.filter λy=>y.isR==b).map λy=>(y.no:Int))=((xs.filter λy=>y.isR==b).map Nd.no).map λ(k:Nat)=>(k:Int) from by rw[QE];rfl];rw[QP,Wl];exact(QP.mp<|Ao nd).imp λh q=>h<|KT.mp q
 have r:((Gz b m xs).map λ(k:Nat)=>(k:Int)).Pairwise (· < ·):=by
  rw[Wl];exact(List.pairwise_lt_range.filter _).imp λh=>Kc.mpr h
 have z:((Gz b m xs).map λ(k:Nat)=>(k:Int)).Nodup:=QP.mpr (r.imp λh=>Int.ne_of_lt h);refine List.Perm.eq_of_pairwise (le:=(· <= ·)) (λa b o0 o0 N p=>WY N p) s (r.imp λh=>Yg h)<|D.trans ((List.perm_ext_iff_of_nodup Y z).mpr λa=> ?_);rw[Ql,Ql]
 constructor
 .rintro ⟨y,W,rfl⟩;obtain⟨N,p⟩:=Qj.mp W;have p:=Uh p;exact⟨y.no,Qj.mpr ⟨Qf.mpr<|L y N p,Uc<|by rw[zW p];exact N⟩,rfl⟩
 .rintro ⟨k,M,rfl⟩;have N:=Ue (Qj.mp M).2;exact⟨mkN b k,Qj.mpr ⟨N,by rw[(uV b k).2];exact beq_self_eq_true b⟩,by rw[(uV b k).1]⟩
theorem wP(xs:List Nd):(xs.map Nd.key).map GB=xs.map dN:=by
 rw[QE];refine Qm λy o0=> ?_
 rcases y with⟨⟩<;>rfl
theorem wt(y:Nd):y.key.length=2:=by rcases y with⟨⟩<;>rfl
section
variable{C:Cx}{mg mb:Jq->Option Jf}{n:Nat}{Q:D->Bool->Prop}{X:DX}
theorem qE(e:CR C G1 mg mb){s:Bs}(nd:s.1.Nodup)(h:s.1.length<=16)(L:∀y∈s.1,y.isR=b->y.no<m){d V:Bool}(k:Q (Ft (Gz b m s.1)) Jc):aR (aN C (n+1)) "numbers_of" [(GP s,d),(.str (wB b),V)] Q X:=by
 refine e.fn fJ (bl 4 rfl) rfl λc u P PX g=> ?_;dsimp only[fJ];dsimp only[aY,b0,bo];refine bI ?_
 (dsimp only[bj,sz,aH,aC,aE,b6];refine⟨rfl,?_⟩)
 refine cL rfl ?_
 (dsimp only[CE,dl,aC,aG,aX,aE,aI,aU,cJ,bj,fj,b6,aD,aF,Qa,aB,aA,aK,d5,BZ,bt,cI];refine⟨rfl,?_⟩)
 refine⟨⟨by rw[Qd];exact dJ<|by exact FS h rfl,λq o=> ?_⟩,?_⟩
 .obtain⟨y,o0,rfl⟩:=Ql.mp o;rw[wt];exact dJ<|by decide
 rw[wP];refine cz dN (λy=> .int (y.no:Int)) (λy=>y.isR==b) (λy W=> ?_) ?_
 .rw[Bu];dsimp only[bw,CA,fO,aO,Qa,aL,aB,aA,bK];refine⟨λT Y=> ?_,λo0 K k=> ?_⟩
  .dsimp only[Ey];dsimp only[aW,bv,cM,DP,aD,aJ,Qa,aF,aA,aB,aK];refine⟨⟨qz y,Ak b⟩,?_⟩;rw[zE];exact Y
  .dsimp only[D0];dsimp only[aD,aJ,Qa,aF,aB,aA,aK,bu];exact k
 .refine fX (eD _ _) ?_;refine⟨?_,λj N p=> ?_⟩
  .rw[Qd];exact Ka (KY _ _)<|by exact Ga h rfl
  .rw[xw nd L N p,QE];exact g.qr k
theorem uf(e:CR C G1 mg mb){ps:List Pl}{x:Pl->Int}{st:List Nd}{h w:Nat}{s:Bs}(b:Fx ps x st h w s)(m:h+w<=16){j:Nat}{y:Nd}(S:s.1[j]? =Ja y){M V:Bool}(q:Q (.tup [.list ((Da s 17 y).R.map dP),.list ((Da s 17 y).L.map dP),dN (Da s 17 y).E]) Jc):
  aR (aN C<|n+1) "way_to" [(GP s,M),(dN y,V)] Q X:=by
 refine e.fn jr (bl 2 rfl) rfl λH I P PX g=> ?_;dsimp only[jr];dsimp only[aY,b0,bo];refine bq ?_
 (dsimp only[bE,CE,C8,aE,aI,aV,aU,bA,aH,aL,Qa,aO,aB,aA];refine⟨by decide,?_⟩)
 refine bq ?_
 (dsimp only[bE,CE,C8,aE,aI,aV,aU,bA,aH,aL,Qa,aO,aB,aA];refine⟨by decide,?_⟩)
 refine bq ?_;dsimp only[aD,aF,Qa,aJ,aB,aA,aK];rw[tX];dsimp only[bA,aH,aL,Qa,aO,aB,aA];have T:=b.len;have c:j<s.1.length:=(QF.mp S).1;refine iO rfl 18 ?_;refine fY (λk B=>X6 λ(f:Nat) (z:Nd) (a L:List Pl) (u A:Option (D×Bool))=>A6 (k<f) (s.1[k]? =Ja z) (f<=17) (a.length+f<=17/\L.length+f<=17) (Da s 17 y=⟨a++(Da s f z).R,L++(Da s f z).L,(Da s f z).E⟩)<|B=(Nb "came" M (GP s)<|Nb "goal" V (dN y)<|Nb "raised" Jc (.list<|a.map dP)<|Nb "lowered" Jc (.list<|L.map dP)<|Nb "here" Jc (dN z)<|No "ahead" u<|No "place" A<|[])) ?_ 18 j _ (by exact Fy c<|D8 T (FS m rfl)) ⟨17,y,[],[],Jb,Jb,by exact Fy c<|D8 T (FS m rfl),S,Qz _,⟨by simp,by simp⟩,rfl,rfl⟩;rintro k B ⟨f,z,a,L,u,A,W,v,E,⟨l,U⟩,d,rfl⟩ K t;have σ:=QC v;dsimp only[dG,bv,aQ,aD,aF,Qa,aJ,aB,aA,aK];refine aZ (dh dY (gI z) σ) ?_;skip
 rcases b.par k z v with⟨N,Y⟩|⟨o,p,i,N,Y,J,O,R⟩
 .rw[N];rw[lx N,QH,QH] at d;rw[d] at q;refine⟨rfl,?_⟩;dsimp only[dV,D.isNone];dsimp only[cx,aB];refine ia ?_;refine cW ?_
  (dsimp only[dQ,cD,aT,c5,aV,cq,aL,Qa,aO,aB,aA,aF,aJ,aK,bM];refine⟨rfl,rfl,?_⟩)
  rw[fg]
  (dsimp only[aA];refine⟨by decide,?_⟩)
  exact g.qr q
 .rw[N];refine⟨rfl,?_⟩;dsimp only[dV,D.isNone];dsimp only[lU,aA];obtain⟨f,rfl⟩:∃G,f=G+1:=⟨f-1,by exact zpr W⟩
  rw[lh N] at d;refine c9 rfl ?_;dsimp only[aQ,aD,aF,Qa,aJ,aB,aA,aK,d5];rw[dh dY (gI z) σ,N];dsimp only[dV];dsimp only[cE,bV,tgl,bC,bD,fO,bK];rw[fg,dA];dsimp only[cr,aA,bA,aH,aL,Qa,aO,aB];refine cb ?_;dsimp only[aW,bv,cM,DP,ct,aQ,aM,aD,aF,Qa,aB,aA,aK];refine aZ (r7 _) ?_;refine g9 ?_;refine⟨⟨qz z,nB⟩,?_⟩;rw[rN];refine lQ (λr=> ?_) λr=> ?_
  .rw[r] at d;refine i6 ?_
   (dsimp only[aF,Qa,aB,aA,aK,dl,cq,aL];refine⟨trivial,?_⟩)
   rw[dA]
   (dsimp only[aA];refine⟨rfl,?_⟩)
   refine⟨by rw[Qd];exact df<|by exact Ga (D8 (KG _ _) U) rfl,?_⟩;refine ia ?_;refine bq ?_;dsimp only[aD,aF,Qa,aB,aA,aK];rw[tX];dsimp only[bA,aH,aL,Qa,aB,aA];refine t i _ Y ⟨f,o,a,L++[p],Ja (dN o,Jc),Ja (dP p,Jc),by exact Fy Y<|zs W,J,by exact Kj E,⟨by exact Kj l,by rw[QG,WG];exact D8 (QV<|QI _ _ _) U⟩,?_,?_⟩
   .rw[Kt];exact d
   .rw[QD];rfl
  .rw[r] at d;refine i6 ?_
   (dsimp only[aF,Qa,aB,aA,aK,dl,cq,aL];refine⟨trivial,?_⟩)
   rw[dA]
   (dsimp only[aA];refine⟨rfl,?_⟩)
   refine⟨by rw[Qd];exact df<|by exact Ga (D8 (KG _ _) l) rfl,?_⟩;refine ia ?_;refine bq ?_;dsimp only[aD,aF,Qa,aB,aA,aK];rw[tX];dsimp only[bA,aH,aL,Qa,aB,aA];refine t i _ Y ⟨f,o,a++[p],L,Ja (dN o,Jc),Ja (dP p,Jc),by exact Fy Y<|zs W,J,by exact Kj E,⟨by rw[QG,WG];exact D8 (QV<|QI _ _ _) l,by exact Kj U⟩,?_,?_⟩
   .rw[Kt];exact d
   .rw[QD];rfl
theorem qu(e:CR C G1 mg mb){ps:List Pl}(nd:ps.Nodup)(l:ps.length<=64){x:Pl->Int}{R L:List Pl}(P:∀p∈R,p∈ps)(o:∀p∈L,p∈ps){d V b:Bool}{Q:D->Prop}(T:Q (E1 ps (De (-a) L (De a R x)))):
  (aR<|aN C (n+1)).io "move" 0 [(E1 ps x,Jc),(.list<|R.map dP,d),(.list<|L.map dP,V),(.int a,b)] Q:=by
 refine e.fnI ng (bl 3 rfl) (x:="counts") rfl (by decide) rfl rfl ?_;dsimp only[ng];dsimp only[aY,b0,bo];refine d7 rfl ?_;dsimp only[CE,aC,aG,aX,aE,aI,aU,cJ,aD,aF,Qa,aJ,aB,aA,aK,bk,bH,f8,gf,f0,f7,er,bJ,gb,bM,cA,cr,gN,cV,f6,gc,cI];refine cX dP (λi A=>∃u c,A=(Nb "counts" Jc (E1 ps<|De a (R.take i) x)<|Nb "raised" c (.list<|R.map dP)<|Nb "lowered" V (.list<|L.map dP)<|Nb "amount" b (.int a)<|No "place" u<|[])) _ _ ⟨_,_,rfl⟩ ?_ ?_
 .rintro j p A H ⟨u,c,rfl⟩ K k;rw[mG a x H] at k;have h:=P p<|QC H;generalize De a (R.take j) x=x at k ⊢;dsimp only[cj,aL,Qa,aO,aA,aB,bK];refine j8 ce (a:=p) (g:=λp=> .int (x p)) (xs:=ps) (dk:=dP p) (dv:= .int (x p+a)) rfl nd (df<|by exact Ga l rfl) (de p) (λQ q=> ?_) (λQ X q=> ?_) ?_
  .dsimp only[nY,bp,aD,aF,Qa,aB,aA,aK,bu,aQ,d5];refine aZ (dh ce (de p) h) ?_
   (dsimp only[d4];refine⟨rfl,?_⟩)
   exact q
  .dsimp only[aD,aF,Qa,aA,aB,aK];exact q
  .dsimp only[aL,Qa,aB,aA];rw[tV h];exact k _ ⟨_,_,rfl⟩
 rintro A ⟨u,c,rfl⟩;rw[Kh];generalize De a R x=x at T ⊢;refine ia ?_;refine d7 rfl ?_;dsimp only[CE,aC,aG,aX,aE,aI,aU,cJ,aD,aF,Qa,aJ,aB,aA,aK,bk,bH,f8,gf,f0,f7,er,bJ,bM,gb,cA,cr,gN,f6,gc,cI];refine cX dP (λi A=>∃u σ,A=(Nb "counts" Jc (E1 ps<|De (-a) (L.take i) x)<|Nb "raised" c (.list<|R.map dP)<|Nb "lowered" σ (.list<|L.map dP)<|Nb "amount" b (.int a)<|No "place" u<|[])) _ _ ⟨_,_,rfl⟩ ?_ ?_
 .rintro j p A H ⟨u,σ,rfl⟩ K k;rw[mG (-a) x H] at k;have h:=o p<|QC H;generalize De (-a) (L.take j) x=x at k ⊢;dsimp only[cj,aL,Qa,aO,aA,aB,bK];refine j8 ce (a:=p) (g:=λp=> .int (x p)) (xs:=ps) (dk:=dP p) (dv:= .int (x p+ -a)) rfl nd (df<|by exact Ga l rfl) (de p) (λQ q=> ?_) (λQ X q=> ?_) ?_
  .dsimp only[nY,bp,aD,aF,Qa,aB,aA,aK,bu,aQ,d5];refine aZ (dh ce (de p) h) ?_
   (dsimp only[eA];refine⟨rfl,?_⟩)
   rw[KP];exact q
  .dsimp only[aD,aF,Qa,aA,aB,aK];exact q
  .dsimp only[aL,Qa,aB,aA];rw[tV h];exact k _ ⟨_,_,rfl⟩
 rintro A ⟨u,σ,rfl⟩;rw[Kh];exact⟨rfl,T⟩
end
theorem lv{r:Nat->Int}:∀ {l:List Nat},l.Nodup->(l.map (upd r i (r i+δ))).sum=(l.map r).sum+if i∈l then δ else 0
 |[]=>λo0=>rfl
 |k::l=>λnd=>by
  obtain⟨n,I⟩:=Qy.mp nd;rw[Qo,QY,Qo,QY,lv I];by_cases e:k=i
  .subst e;rw[bY,Uf n,Ug (.head _)];exact zr12 _ _ _
  .rw[cF _ _ e];by_cases q:i∈l
   .rw[Ug q,Ug (.tail _ q)];exact(KS _ _ _).symm
   .rw[Uf q,Uf (λz=>(Qw.mp z).elim (λz=>e z.symm) q)];exact(KS _ _ _).symm
theorem nN{q:Nat}{v:Int}:∀ {l:List Nat},l.Nodup->(l.map λi=>if q=i then v else 0).sum=if q∈l then v else 0
 |[]=>λo0=>rfl
 |k::l=>λnd=>by
  obtain⟨n,I⟩:=Qy.mp nd;rw[Qo,QY,nN I];by_cases e:q=k
  .subst e;rw[Ug rfl,Uf n,Ug (.head _)];exact Ks _
  .rw[Uf e];by_cases z:q∈l
   .rw[Ug z,Ug (.tail _ z)];exact Ws _
   .rw[Uf z,Uf (λy=>(Qw.mp y).elim e z)];exact rfl
theorem dF{f:Pl->Nat}{x:Pl->Int}{l:List Nat}(nd:l.Nodup):∀ps:List Pl,(l.map λi=>CW (λp=>decide (f p=i)) ps x).sum=CW (λp=>decide (f p∈l)) ps x
 |[]=>ii l
 |p::ps=>by
  rw[dg,<-dF nd ps,show(l.map λi=>CW (λp=>decide<|f p=i) (p::ps) x)=l.map λi=>(if f p=i then x p else 0)+CW (λp=>decide<|f p=i) ps x from Qm λi o0=> ?_,<-np,nN nd]
  .by_cases h:f p∈l
   .rw[Ug h,Ug (Uc h)]
   .rw[Uf h,Uf (by simpa using h)]
  .rw[dg];by_cases h:f p=i
   .rw[Ug h,Ug (Uc h)]
   .rw[Uf h,Uf (by simpa using h)]
theorem iD{f g:Pl->Bool}{x:Pl->Int}:∀ {ps:List Pl},(∀p∈ps,f p=g p\/x p=0)->CW f ps x=CW g ps x
 |[]=>λo0=>rfl
 |p::ps=>λh=>by
  rw[dg,dg,iD λq o=>h q (.tail _ o)]
  rcases h p (.head _) with e|e
  .rw[e]
  .rw[e];split<;>split<;>rfl
theorem rP{L:Type}{f:L->Int}:∀ {l:List L},(∀a∈l,0<=f a)->(l.map f).sum<=0->∀a∈l,f a=0:=λ{l} h i a T=>by
 induction l with
 |nil=>exact bS T
 |cons b l W=>
  rw[Qo,QY] at i;have N:=h b<|.head _;have p:=jM λc σ=>h c<|.tail _ σ
  rcases Qw.mp T with e|T
  .rw[e];exact WY (QQ (QZ p) i) N
  .exact W (λc σ=>h c<|.tail _ σ) (QQ (Int.le_add_of_nonneg_left N) i) T
theorem om{f:Nat->Int}{p:Nat->Bool}:∀ {l:List Nat},(∀a∈l,p a=Jd->f a=0)->((l.filter p).map f).sum=(l.map f).sum
 |[]=>λo0=>rfl
 |a::l=>λh=>by
  rw[Qo,QY];have i:=om λb v=>h b<|.tail _ v
  induction D:p a with
  |true=>rw[Ke D,Qo,QY,i]
  |false=>rw[Kf (by rw[D];exact QB),i,h a (.head _) D,Ws]
set_option genCtorIdx false in
inductive H9 where
 |tab(x:Pl->Int)
 |no(pa pb:Nat->Bool)
noncomputable abbrev H9.ctorIdx(x:H9):Nat:=H9.casesOn x (λo0=>0) (λo0 o0=>1)
noncomputable def F4(h:Nat)(r:Nat->Int):List Nd:=((Qc h).filter λi=>decide (r i>0)).map .r
abbrev CX(ps:List Pl)(h:Nat)(x:Pl->Int)(r:Nat->Int):Bs:=Hy ps x<|F4 h r
def ED(w:Nat)(c:Nat->Int)(B:Bs):List Nat:=(Gz Jd w B.1).filter λj=>decide<|c j>0
abbrev C6(B:Bs)(g:Nat):H6:=Da B 17<|.c g
def Ff(x:Pl->Int)(r c:Nat->Int)(W:H6)(g:Nat):Int:=E5 (r W.E.no::c g::W.L.map x)
noncomputable def outG(o:H9)(k:Nat->H9):List Nat->H9
 |[]=>o
 |g::_=>k g
noncomputable def Gd(ps:List Pl)(h w:Nat):Nat->(Pl->Int)->(Nat->Int)->(Nat->Int)->H9
 |0,x,_,_=> .tab x
 |k+1,x,r,c=>if((Qc h).map r).sum>0 then
   outG (.no (λi=>decide (Nd.r i∈(CX ps h x r).1)) (λj=>decide (Nd.c j∈(CX ps h x r).1))) (λg=>Gd ps h w k (De (-Ff x r c (C6 (CX ps h x r) g) g) (C6 (CX ps h x r) g).L (De (Ff x r c (C6 (CX ps h x r) g) g) (C6 (CX ps h x r) g).R x))
    (upd r (C6 (CX ps h x r) g).E.no (r (C6 (CX ps h x r) g).E.no-Ff x r c (C6 (CX ps h x r) g) g)) (upd c g (c g-Ff x r c (C6 (CX ps h x r) g) g))) (ED w c (CX ps h x r))
  else .tab x
abbrev Gu(ps:List Pl)(x:Pl->Int)(i:Nat):Int:=CW (λp=>decide (p.1=i)) ps x
abbrev GJ(ps:List Pl)(x:Pl->Int)(j:Nat):Int:=CW (λp=>decide (p.2=j)) ps x
structure Hz(ps:List Pl)(h w:Nat)(R C:Nat->Int)(x:Pl->Int)(r c:Nat->Int):Prop where
 x0:∀p∈ps,0<=x p
 r0:∀i,i<h->0<=r i
 c0:∀j,j<w->0<=c j
 row:∀i,i<h->Gu ps x i+r i=R i
 col:∀j,j<w->GJ ps x j+c j=C j
 eq:((Qc h).map r).sum=((Qc w).map c).sum
structure Sz(ps:List Pl)(h w:Nat):Prop where
 nd:ps.Nodup
 mem:∀p∈ps,p.1<h/\p.2<w
 h8:h<=8
 w8:w<=8
def DA(ps:List Pl)(h w:Nat)(R C:Nat->Int):H9->Prop
 | .tab x=>(∀p∈ps,0<=x p)/\(∀i,i<h->Gu ps x i=R i)/\∀j,j<w->GJ ps x j=C j
 | .no a b=>(∀p∈ps,a p.1=Jc->b p.2=Jc)/\0<(((Qc h).filter a).map R).sum-(((Qc w).filter b).map C).sum
theorem yE(h:Nat)(r:Nat->Int):(F4 h r).Nodup:=by
 unfold F4;rw[QP,Wl];exact((QP.mp Kr).filter _).imp λh q=>h<|Nd.r.inj q
theorem tN{r:Nat->Int}(W:y∈F4 h r):∃i,y= .r i/\i<h/\0<r i:=by
 obtain⟨i,t,rfl⟩:=Ql.mp W;obtain⟨N,p⟩:=Qj.mp t;exact⟨i,rfl,Qf.mp N,Ue p⟩
theorem tq{r:Nat->Int}:∀y∈F4 h r,y∈GY h w:=λy W=>by
 obtain⟨i,rfl,N,o0⟩:=tN W;exact Qk _<|Ql.mpr ⟨i,Qf.mpr N,rfl⟩
section
variable{ps:List Pl}{h w:Nat}{R C:Nat->Int}{x:Pl->Int}{r c:Nat->Int}
theorem mZ(S:Sz ps h w):Fx ps x (F4 h r) h w (CX ps h x r)/\∀z∈(CX ps h x r).1,∀e∈Dj ps z,HD x z e.2=Jc->e.1∈(CX ps h x r).1:=
 ql S.mem (Kk S.h8 S.w8) 17 0 _ (.start (yE h r) tq) (λi z t=>absurd t<|Wd _) (QS _) (by decide)
theorem Bl(S:Sz ps h w)(F:Hz ps h w R C x r c)(s:((Qc h).map r).sum>0)(g:ED w c (CX ps h x r)=[]):
  DA ps h w R C (.no (λi=>decide<|Nd.r i∈(CX ps h x r).1) λj=>decide<|Nd.c j∈(CX ps h x r).1):=by
 obtain⟨b,M⟩:=mZ (x:=x) (r:=r) S;generalize CX ps h x r=B at b M g ⊢;have σ:∀p∈ps,Nd.r p.1∈B.1->Nd.c p.2∈B.1:=λp D n=>M _ n (.c p.2,p) (Ql.mpr ⟨p,Qj.mpr ⟨D,Uc rfl⟩,rfl⟩) rfl;have X:∀p∈ps,0<x p->Nd.c p.2∈B.1->Nd.r p.1∈B.1:=λp D hx n=>M _ n (.r p.1,p) (Ql.mpr ⟨p,Qj.mpr ⟨D,Uc rfl⟩,rfl⟩)<|decide_eq_true hx;refine⟨λp D n=>Uc<|σ p D (Ue n),?_⟩;have A:((Qc h).filter λi=>decide<|Nd.r i∈B.1).Nodup:=Kr.filter _;have O:((Qc w).filter λj=>decide<|Nd.c j∈B.1).Nodup:=Kr.filter _;have e:(((Qc h).filter λi=>decide<|Nd.r i∈B.1).map R).sum=CW (λp=>decide<|p.1∈(Qc h).filter λi=>decide<|Nd.r i∈B.1) ps x+((Qc h).map r).sum:=by
  rw[<-dF (f:=(·.1)) A,<-om (p:=λi=>decide<|Nd.r i∈B.1) (f:=r) (l:=Qc h),np]
  .exact Uj Wo<|Qm λi t=>(F.row i<|Qf.mp (Qj.mp t).1).symm
  .intro i t D;have N:=F.r0 i (Qf.mp t)
   rcases Int.lt_or_eq_of_le N with q|q
   .exact absurd (b.has _<|Ql.mpr ⟨i,Qj.mpr ⟨t,Uc q⟩,rfl⟩)<|of_decide_eq_false D
   .exact q.symm
 have m:(((Qc w).filter λj=>decide<|Nd.c j∈B.1).map C).sum=CW (λp=>decide<|p.2∈(Qc w).filter λj=>decide<|Nd.c j∈B.1) ps x:=by
  rw[<-dF (f:=(·.2)) O];refine Uj Wo (Qm λj H=> ?_);have K:=Qf.mp (Qj.mp H).1;have N:=F.c0 j K;have Y:¬c j>0:=λq=>by
   have:j∈ED w c B:=Qj.mpr ⟨H,Uc q⟩;rw[g] at this;cases this
  have:=F.col j K;show C j=GJ ps x j;exact zr11 N Y this
 have W:CW (λp=>decide<|p.1∈(Qc h).filter λi=>decide<|Nd.r i∈B.1) ps x=CW (λp=>decide<|p.2∈(Qc w).filter λj=>decide<|Nd.c j∈B.1) ps x:=by
  refine iD λp D=> ?_;obtain⟨o,U⟩:=S.mem p D
  rcases Int.lt_or_eq_of_le (F.x0 p D) with q|q
  .refine .inl<|decide_eq_decide.mpr ?_;rw[Qj,Qj,Qf,Qf,Ui,Ui];exact⟨λz=>⟨U,σ p D z.2⟩,λz=>⟨o,X p D q z.2⟩⟩
  .exact .inr q.symm
 rw[e,m,W];exact zr9 s
structure Turn(ps:List Pl)(h w:Nat)(R C:Nat->Int)(x:Pl->Int)(r c:Nat->Int)(B:Bs)(g:Nat):Prop where
 gw:g<w
 gB:∃j:Nat,B.1[j]? =Ja (Nd.c g)
 ih:(C6 B g).E= .r (C6 B g).E.no/\(C6 B g).E.no<h
 inR:∀p∈(C6 B g).R,p∈ps
 inL:∀p∈(C6 B g).L,p∈ps
 len:(C6 B g).L.length<=ps.length
 a1:1<=Ff x r c (C6 B g) g
 ar:Ff x r c (C6 B g) g<=r (C6 B g).E.no
 fill:Hz ps h w R C (De (-Ff x r c (C6 B g) g) (C6 B g).L (De (Ff x r c (C6 B g) g) (C6 B g).R x)) (upd r (C6 B g).E.no (r (C6 B g).E.no-Ff x r c (C6 B g) g)) (upd c g<|c g-Ff x r c (C6 B g) g)
 less:((Qc h).map (upd r (C6 B g).E.no (r (C6 B g).E.no-Ff x r c (C6 B g) g))).sum=((Qc h).map r).sum-Ff x r c (C6 B g) g
theorem rR(S:Sz ps h w)(F:Hz ps h w R C x r c)(P:ED w c (CX ps h x r)=g::gs):Turn ps h w R C x r c (CX ps h x r) g:=by
 obtain⟨b,o0⟩:=mZ (x:=x) (r:=r) S;generalize CX ps h x r=B at b P ⊢;have X:=S.h8;have E:=S.w8;have hm:g∈ED w c B:=P▸ .head _;obtain⟨G,Q⟩:=Qj.mp hm;obtain⟨L,g4⟩:=Qj.mp G;have v:=Qf.mp L;have O:0<c g:=Ue Q;have d:Nd.c g∈B.1:=Ue g4;obtain⟨j,H⟩:=Yt d;have m:=b.len;have σ:=(QF.mp H).1;have W:=pU b 17 j (.c g) H (by exact Fy σ<|D8 m (FS (Kk X E) rfl));generalize o:Da B 17 (.c g)=V at W;obtain⟨i,t,l,I⟩:=tN W.e;have n:V.E.no=i:=by rw[t];rfl
 have u:r V.E.no::c g::V.L.map x≠ []:=λq=>nomatch q
 have A:=iX u;have U:1<=Ff x r c V g:=by
  rcases Qw.mp A.1 with q|q
  .unfold Ff;rw[q,n];exact I
  .rcases Qw.mp q with q|q
   .unfold Ff;rw[q];exact O
   .obtain⟨p,D,e⟩:=Ql.mp q;unfold Ff;rw[<-e];exact(W.l p D).2
 have J:Ff x r c V g<=r V.E.no:=A.2 _<|.head _;have K:Ff x r c V g<=c g:=A.2 _<|.tail _ (.head _);have y:∀p∈V.L,Ff x r c V g<=x p:=λp D=>A.2 _<|.tail _ (.tail _<|Ql.mpr ⟨p,D,rfl⟩);generalize T:Ff x r c V g=a at U J K y;have s:∀f:Pl->Bool,CW f ps (De (-a) V.L<|De a V.R x)=CW f ps x+a*((V.R.countP f:Nat)-(V.L.countP f:Nat):Int):=λf=>by
  rw[fZ S.nd λp D=>(W.l p D).1,fZ S.nd W.r,Int.mul_sub,Int.neg_mul];exact KS _ _ _
 have less:((Qc h).map (upd r V.E.no<|r V.E.no-a)).sum=((Qc h).map r).sum-a:=by
  rw[KP,lv Kr,Ug (Qf.mpr<|by rw[n];exact l)];exact rfl
 refine⟨v,⟨j,H⟩,?_,?_,?_,?_,?_,?_,?_,?_⟩<;>(try rw[C6])<;>rw[o]
 .exact⟨by rw[n];exact t,by rw[n];exact l⟩
 .exact W.r
 .exact λp D=>(W.l p D).1
 .exact uZ W.nd λp D=>(W.l p D).1
 .rw[T];exact U
 .rw[T];exact J
 .rw[T];refine⟨λp D=> ?_,λk M=> ?_,λk M=> ?_,λk M=> ?_,λk M=> ?_,?_⟩
  .have N:=m9 (δ:=a) (by exact QQ (by decide) U) (R:=V.R) (x:=x) p;have Y:=F.x0 p D;by_cases q:p∈V.L
   .rw[oM W.nd q];have:=y p q;exact WL<|QQ this N
   .rw[fy q];exact QQ Y N
  .by_cases q:k=V.E.no
   .subst q;rw[bY];exact WL J
   .rw[cF _ _ q];exact F.r0 k M
  .by_cases q:k=g
   .subst q;rw[bY];exact WL K
   .rw[cF _ _ q];exact F.c0 k M
  .have N:=W.row k;dsimp only[cR] at N;rw[d3 (p:=Nd.c g= .r k) (λq=>nomatch q)] at N;have Y:=F.row k M;unfold Gu at Y ⊢;rw[s];by_cases q:k=V.E.no
   .subst q;rw[bY];rw[fV (by rw[n];exact t)] at N;rw[show((V.R.countP λp=>decide (p.1=V.E.no):Nat)-(V.L.countP λp=>decide (p.1=V.E.no):Nat):Int)=1 by exact N,Int.mul_one];exact zr1 Y
   .rw[cF _ _ q];rw[d3 (λz=>q<|by rw[n];rw[t] at z;exact(Nd.r.inj z).symm)] at N;rw[show((V.R.countP λp=>decide (p.1=k):Nat)-(V.L.countP λp=>decide (p.1=k):Nat):Int)=0 by exact N,Int.mul_zero];exact zr2 Y
  .have N:=W.col k;dsimp only[cC] at N;rw[d3 (p:=V.E= .c k) (λq=>by rw[t] at q;cases q)] at N;have Y:=F.col k M;unfold GJ at Y ⊢;rw[s];by_cases q:k=g
   .subst q;rw[bY];rw[fV rfl] at N;rw[show((V.R.countP λp=>decide (p.2=k):Nat)-(V.L.countP λp=>decide (p.2=k):Nat):Int)=1 by exact N,Int.mul_one];exact zr1 Y
   .rw[cF _ _ q];rw[d3 (λz=>q (Nd.c.inj z).symm)] at N;rw[show((V.R.countP λp=>decide (p.2=k):Nat)-(V.L.countP λp=>decide (p.2=k):Nat):Int)=0 by exact N,Int.mul_zero];exact zr2 Y
  .rw[less,show c g-a=c g+ -a from KP,lv Kr,Ug<|Qf.mpr v,F.eq];exact rfl
 .rw[T];exact less
theorem qj(S:Sz ps h w):∀ (f:Nat) (x:Pl->Int) (r c:Nat->Int),Hz ps h w R C x r c->((Qc h).map r).sum.toNat<f->DA ps h w R C (Gd ps h w f x r c)
 |0=>λx r c o0 j=>absurd j<|Wd _
 |f+1=>λx r c F j=>by
  show DA ps h w R C (if((Qc h).map r).sum>0 then outG _ _ _ else .tab x);by_cases s:((Qc h).map r).sum>0
  .rw[Ug s]
   induction e:ED w c (CX ps h x r) using List.casesOn with
   |nil=>exact Bl S F s e
   |cons g y=>
    have T:=rR S F e;refine qj S f _ _ _ T.fill ?_;exact Fy (ztn s T.a1 T.less)<|zs j
  .rw[Uf s];have z1:=rP (f:=r) (l:=Qc h) (λi t=>F.r0 i<|Qf.mp t) (by exact KQ.mp s);have z2:=rP (f:=c) (l:=Qc w) (λi t=>F.c0 i<|Qf.mp t) (by rw[<-F.eq];exact KQ.mp s);refine⟨F.x0,λi t=> ?_,λi t=> ?_⟩
   .have:=F.row i t;rw[z1 i (Qf.mpr t)] at this;exact(Ks _).symm.trans this
   .have:=F.col i t;rw[z2 i (Qf.mpr t)] at this;exact(Ks _).symm.trans this
end
theorem v8{G:Gx}{c:E3}{L:CB}{K:CB->Prop}(a:List E)(x:String)(b:List E):dio G c f L K (Ja (a,x,b))=(G.fn f=Jc/\Dx G c a L (λv=>Hs x v=Jc/\Et (λp=>p.2=Jc/\Dx G c b L (λq=>Hs x q=Jc/\
   c.io f v.length (Fo v++(p.1,Jc)::Fo q) λd=>K (L.put x (d,Jc))) λo0 o0=>False) (L.get x)) λo0 o0=>False):=rfl
theorem zX(d:D)(l:List D):D.eqv (.list (d::l)) (.list [])=Jd:=rfl
theorem qt(d:D)(l:List D):C4 (.list (d::l)) (.int 0)=Ja d:=jc (l:=d::l) (j:=0) rfl
theorem ints2{L:Type}(g:L->Int)(a b:Int)(l:List L):DG (.int a:: .int b::l.map λp=> .int (g p))=Ja (a::b::l.map g):=by
 show((DG<|l.map λp=> .int (g p)).map (b:: ·)).map (a:: ·)=_;rw[eD];rfl
theorem oo{L:CB}{d:D}{K:CB->Prop}:dput L x [] d K=Et (λo0=>K (L.put x (d,Jc))) (L.get x):=rfl
theorem l5{r:Nat->Int}(hi:i<h)(v:Int):D.list ((((Qc h).map r).map D.int).set i (.int v))=dI ((Qc h).map (upd r i v)):=by
 rw[<-YA]
 congr 2
 refine WD λk=> ?_;rw[KU,Qd,QA,Ug hi,Qu,Qu];by_cases q:i=k
 .subst q;rw[Ug rfl,Wp hi];show Ja v=Ja (upd r i v i);rw[bY]
 .rw[Uf q]
  induction M:(Qc h)[k]? with
  |none=>rfl
  |some m=>
   have L:m=k:=by
    obtain⟨N,p⟩:=QF.mp M;rw[Wu] at p;exact p.symm
   show Ja (r m)=Ja (upd r i v m);rw[cF _ _ (by rw[L];exact λz=>q z.symm)]
theorem iI{r:Nat->Int}(hi:i<h):C4 (dI ((Qc h).map r)) (.int i)=Ja (.int (r i)):=by
 rw[gJ (by rw[Qd,QA];exact hi),fW _ hi]
theorem BW(c:List (List (Option Int)))(h w:Nat):(DW c h w).Nodup:=by
 refine List.Pairwise.filter _ ?_;show(Eh h w).Nodup
 induction h with
 |zero=>exact .nil
 |succ h i=>
  refine Qv.mpr ⟨i,?_,λa T b R q=> ?_⟩
  .rw[QP,Wl];exact(QP.mp Kr).imp λh q=>h (Prod.mk.inj q).2
  .subst q;obtain⟨j,o0,rfl⟩:=Ql.mp R;exact absurd (Dk.mp T).1 (KJ _)
theorem mL(y:h<=8)(T:w<=8):(DW c h w).length<=64:=by
 refine Qq (KY _ _) ?_;rw[jo];exact Yi y T
theorem i5(R:CI c h w):Sz (DW c h w) h w:=⟨BW c h w,λp D=>⟨(ke D).1,(ke D).2.1⟩,R.h8,R.w8⟩
def FC(c:List (List (Option Int)))(r s:List Int)(h w:Nat):H9:=Gd (DW c h w) h w (((Qc h).map (E0 c r)).sum.toNat+1) (λo0=>0) (E0 c r) (FB c s)
theorem uh(f:Pl->Bool)(ps:List Pl):CW f ps (λo0=>0)=0:=ii _
theorem H0(V:H7 c r s h w):Hz (DW c h w) h w (E0 c r) (FB c s) (λo0=>0) (E0 c r) (FB c s):=
 ⟨λp o0=>QX _,V.n1,V.n2,λi o0=>by rw[Gu,uh,Ws],λi o0=>by rw[GJ,uh,Ws],V.eq⟩
theorem qB{y:Nd}(W:y∈GY h w):(y.isR=Jc->y.no<h)/\(y.isR=Jd->y.no<w):=by
 rcases Qr.mp W with q|q
 .obtain⟨i,t,rfl⟩:=Ql.mp q;exact⟨λo0=>Qf.mp t,λz=>(tf z)⟩
 .obtain⟨i,t,rfl⟩:=Ql.mp q;exact⟨λz=>(ft z),λo0=>Qf.mp t⟩
theorem AJ{x:Pl->Int}{r c:Nat->Int}(s:((Qc h).map r).sum>0)(g:ED w c (CX ps h x r)=[]):
  Gd ps h w (f+1) x r c= .no (λi=>decide<|Nd.r i∈(CX ps h x r).1) (λj=>decide<|Nd.c j∈(CX ps h x r).1):=by
 refine(Ug s).trans ?_;rw[g];rfl
theorem y9{x:Pl->Int}{r c:Nat->Int}(s:((Qc h).map r).sum>0)(S:ED w c (CX ps h x r)=g::gs):
  Gd ps h w (f+1) x r c=Gd ps h w f (De (-Ff x r c (C6 (CX ps h x r) g) g) (C6 (CX ps h x r) g).L (De (Ff x r c (C6 (CX ps h x r) g) g) (C6 (CX ps h x r) g).R x))
    (upd r (C6 (CX ps h x r) g).E.no (r (C6 (CX ps h x r) g).E.no-Ff x r c (C6 (CX ps h x r) g) g)) (upd c g<|c g-Ff x r c (C6 (CX ps h x r) g) g):=by
 refine(Ug s).trans ?_;rw[S];rfl
theorem wZ{x:Pl->Int}{r c:Nat->Int}(s:¬ ((Qc h).map r).sum>0):Gd ps h w (f+1) x r c= .tab x:=by
 exact Uf s
inductive CtI(ps:List Pl)(h w:Nat)(Rr Cc:Nat->Int)(O:H9)(vw pl nr:D)(k:Nat)(Δ:CB):Prop
 |mk (x:Pl->Int) (ρ γ:Nat->Int) (f:Nat) (cv cn:Bool) (u1 u2 u3 u4 u5 u6 u7:Option (D×Bool)) (F:Hz ps h w Rr Cc x ρ γ) (hk:((Qc h).map ρ).sum.toNat=k) (hf:k<f) (hO:Gd ps h w f x ρ γ=O)
  (e:Δ=(Nb "view" cv vw<|Nb "places" Jd pl<|Nb "near" cn nr<|Nb "counts" Jc (E1 ps x)<|No "place" u7<|Nb "rows" Jc (dI<|(Qc h).map ρ)<|Nb "columns" Jc (dI<|(Qc w).map γ)<|No "came" u1<|No "goals" u2<|No "raised" u3<|No "lowered" u4<|No "start" u5<|No "amount" u6<|[])):CtI ps h w Rr Cc O vw pl nr k Δ
section
variable{C:Cx}{mg mb:Jq->Option Jf}{n:Nat}{Q:D->Bool->Prop}{X:DX}
theorem qD(e:CR C G1 mg mb)(V:H7 c r s h w)(J:∀x,FC c r s h w= .tab x->Q (E1 (DW c h w) x) Jc)
  (v:∀pa pb,FC c r s h w≠ .no pa pb):aR (aN C<|n+3) "counts_of" [(.tup [dC c,dI r,dI s],b)] Q X:=by
 refine e.fn gD (bl 21 rfl) rfl λcl cu PQ PX G=> ?_;dsimp only[gD];dsimp only[aY,b0,bo];have S:=i5 V.R;have W:=H0 V;have l:(DW c h w).length<=64:=mL V.R.h8 V.R.w8;unfold FC at J v;refine bq ?_
 (dsimp only[aP,CD,aC,aG,aX,aE,aI,aU,aQ,aM,aD,aF,Qa,aJ,aB,aA,aK,bV,tgl,bC,bM,bD,bJ,eO,cE,bk,aS,bH,ch,bL];refine⟨rfl,?_⟩)
 refine G.hc<|lN e V.R ?_;dsimp only[aA,bk,bA,aH,aL,Qa,aO,aB];generalize DW c h w=I at S W l J v ⊢;generalize hR:E0 c r=σ at W J v ⊢;generalize hC:FB c s=Cc at W J v ⊢;generalize U:Gd I h w (((Qc h).map σ).sum.toNat+1) (λo0=>0) σ Cc=O at J v;have P:h+w<=16:=Kk S.h8 S.w8;refine bq ?_
 (dsimp only[aP,CD,aC,aG,aX,aE,aI,aU,aD,aF,Qa,aJ,aB,aA,aK,bk,aS,bH,ch,bL];refine⟨rfl,?_⟩)
 refine G.hc (qh e l λns N=> ?_);dsimp only[aA,d5,bA,aH,aL,Qa,aO,aB];refine bq ?_
 (dsimp only[iW,bA,aH,aL,Qa,aO,aB,aA];refine⟨rfl,?_⟩)
 refine d7 rfl ?_;dsimp only[CE,aC,aG,aX,aE,aI,aU,cJ,aD,aF,Qa,aJ,aB,aA,aK,bk,bH,f8,gf,f0,f7,hU,bC,bM,bD,bJ,gb,er,gN,cV,f6,gc,cI];refine cX dP (λi Δ=>∃u,Δ=(Nb "view" b (.tup [dC c,dI r,dI s])<|Nb "places" Jd (.list<|I.map dP)<|Nb "near" Jc (md Nd.key (D1 I) ns)<|Nb "counts" Jc (E1 (I.take i)<|λo0=>0)<|No "place" u<|No "rows" Jb<|No "columns" Jb<|No "came" Jb<|No "goals" Jb<|No "raised" Jb<|No "lowered" Jb<|No "start" Jb<|No "amount" Jb<|[])) _ _ ⟨_,rfl⟩ ?_ ?_
 .rintro j p Δ d ⟨u,rfl⟩ K kn;have ab:=mK S.nd d;dsimp only[cj,aL,Qa,aO,aB,aA,bK];refine j8 ce (a:=p) (g:=λo0=> .int 0) (xs:=I.take j) (dk:=dP p) (dv:= .int 0) rfl (S.nd.sublist<|Yk _ _) (df<|by rw[Yr];exact zl (Ys _ _)<|Ga l rfl) (de p) (λQ q=> ?_) (λQ X q=> ?_) ?_
  .exact⟨rfl,q⟩
  .dsimp only[aD,aF,Qa,aJ,aB,aA,aK];exact q
  .dsimp only[aL,Qa,aO,aB,aA];refine kn _ ⟨Ja (dP p,Jc),?_⟩;rw[eV d,ly ab,show upd (λo0=>D.int 0) p (.int 0)=λo0=>D.int 0 from by funext z;unfold upd;split<;>rfl];rfl
 rintro Δ ⟨u0,rfl⟩;rw[Kh];refine ia ?_;refine c9 rfl ?_
 (dsimp only[aP,CD,aC,aG,aX,aE,aI,aU,aD,aF,Qa,aJ,aB,aA,aK,bV,tgl,bC,bM,bD,bJ,aS,bH,ch,bL];refine⟨rfl,?_⟩)
 refine G.hc<|qJ e V.R V.hr V.hs ?_;dsimp only[aA,bV,tgl,bC,bM,bD,bJ,aB,aH,bA,fO,aL,Qa,aO,bK];rw[hR,hC];refine iO rfl (((Qc h).map σ).sum.toNat+1) ?_;refine fY (CtI I h w σ Cc O (.tup [dC c,dI r,dI s]) (.list<|I.map dP)<|md Nd.key (D1 I) ns)
  ?_ _ ((Qc h).map σ).sum.toNat _ (QN _) ⟨λo0=>0,σ,Cc,_,_,_,_,_,_,_,_,_,_,W,rfl,QN _,U,rfl⟩
 rintro k Δ ⟨x,L,t,f,cv,cn,u1,u2,u3,u4,u5,u6,u7,F,hk,hf,U,rfl⟩ K kn;clear W;obtain⟨f,rfl⟩:∃f',f=f'+1:=⟨f-1,by exact zpr hf⟩
 (dsimp only[aW,bv,aM,bj,gF,kl,aC,aE,b6,aD,aF,Qa,aJ,aB,aA,aK,dl];refine⟨rfl,?_⟩)
 refine fX (eH _) ?_;refine cG (λA=> ?_) λA=> ?_
 rotate_left
 .rw[wZ A] at U;refine ia ?_;refine cW ?_
  (dsimp only[cq,aL,Qa,aO,aB,aA,aF,aJ,aK,er];refine⟨rfl,?_⟩)
  exact G.qr<|J x U.symm
 have bB:Fx I x (F4 h L) h w (Hy I x<|F4 h L):=(mZ (x:=x) (r:=L) S).1;have Y:=bB.len;refine bq ?_
 (dsimp only[aP,CD,aC,aG,aX,aE,aI,aU,fq,aH,bt,aD,aF,Qa,aJ,aB,aA,aK,d5,aS];refine⟨rfl,?_⟩)
 refine cL rfl ?_
 (dsimp only[CE,aC,aG,aX,aE,aI,aU,bj,bX,bt,h9,hZ,b6,aD,aF,Qa,aJ,aB,aA,aK,cK,cQ];refine⟨rfl,?_⟩)
 rw[Qd,Qd,QA];refine⟨rg S.h8,gj (λk=>dN<|.r k) (λi=>decide<|L i>0) (λi hi=> ?_) ?_⟩
 .dsimp only[bw,cP,cj,aO,Qa,aL,aB,aA,bK];refine⟨λT hT=> ?_,λo0 K k=> ?_⟩
  .dsimp only[Ey];dsimp only[aW,bv,aM,aQ,aD,aJ,Qa,aF,aB,aA,aK];refine aZ (iI hi) ?_;dsimp only[kl];exact hT
  .dsimp only[D0];dsimp only[bG,CE,C2,aC,aG,aT,aX,aE,aI,aV,aU,aD,aJ,Qa,aF,aB,aA,aK,bu,bt,ct];refine ip ?_
   (dsimp only[bt];refine⟨by decide,?_⟩)
   exact k
 rw[show(((Qc h).filter λi=>decide<|L i>0).map λk=>dN<|.r k)=(F4 h L).map dN from by rw[F4,QE];rfl];dsimp only[aH,bt,bH,ch,em,bL];refine G.hc<|j0 (ban:=Jb) e N S.mem S.h8 S.w8 (yE h L) tq ?_;rw[xU];dsimp only[aA,d5,bA,aH,aL,Qa,aO,aB];generalize hB:Hy I x (F4 h L)=B at bB Y ⊢;refine bq ?_;refine cL rfl ?_
 (dsimp only[CE,aC,aG,aX,aE,aI,aU,cJ,aP,CD,ct,aD,aF,Qa,aJ,aB,aA,aK,d5,aS];refine⟨rfl,?_⟩)
 refine g9 ?_;dsimp only[aH,bt,bH,ch,bL];refine G.hc<|qE (b:=Jd) (m:=w) e bB.nd (by exact D8 Y P) (λy hy hr=>(qB<|bB.val y hy).2 hr) ?_;dsimp only[cI,aA,bk,bt];refine cz (λ(k:Nat)=> .int (k:Int)) (λ(k:Nat)=> .int (k:Int)) (λj=>decide<|t j>0) (λj d=> ?_) ?_
 .have d:=Qf.mp (Qj.mp d).1;dsimp only[bw,cP,cj,aO,Qa,aL,aB,aA,bK];refine⟨λT hT=> ?_,λo0 K k=> ?_⟩
  .dsimp only[Ey];dsimp only[aW,bv,aM,aQ,aD,aJ,Qa,aF,aB,aA,aK];refine aZ (iI d) ?_;dsimp only[kl];exact hT
  .dsimp only[D0];dsimp only[aD,aJ,Qa,aF,aB,aA,aK,bu];exact k
 dsimp only[bA,aH,aL,Qa,aO,aB,aA];have o:((Gz Jd w B.1).filter λj=>decide<|t j>0)=ED w t (CX I h x L):=by rw[show CX I h x L=B from hB];rfl
 rw[o]
 induction hg:ED w t (CX I h x L) using List.casesOn with
 |nil=>
  rw[AJ A hg,show CX I h x L=B from hB] at U;exact(v _ _ U.symm).elim
 |cons g gs=>
  have T:=rR S F hg;rw[y9 A hg] at U;rw[show CX I h x L=B from hB] at T U;have ad:=P;obtain⟨jg,ac⟩:=T.gB;refine cb ?_
  (dsimp only[aG,aW,bv,cM,DP,bE,CE,C8,aE,aI,aV,aD,aF,Qa,aJ,aB,aA,aK];refine⟨by decide,?_⟩)
  refine⟨⟨by rw[cU];exact b8 _ (λa=>dt _ _) _,rfl⟩,?_⟩;rw[zX];dsimp only[aB];refine c9 rfl ?_
  (dsimp only[aP,CD,aC,aG,aX,aE,aI,aU,bG,CE,C2,aT,aV,aQ,aM,aD,aF,Qa,aJ,aB,aA,aK,bk,ct,d5,aS];refine⟨rfl,?_⟩)
  refine g9 ?_;dsimp only[bt];refine aZ (qt _ _) ?_
  (dsimp only[bu,bt,aH,bH,ch,bL];refine⟨by decide,?_⟩)
  refine G.hc<|uf (y:= .c g) e bB P ac ?_;dsimp only[aA,bV,tgl,bC,bM,bD,bJ,aB,aH,bA,sR,aL,Qa,aO,bK];refine bq ?_
  (dsimp only[bj,nQ,aC,aE,wL,bA,aH,aL,Qa,aO,aA,aB,bp,bE,CE,C8,aG,aT,aX,aI,aV,aU,aQ,aM,aD,aF,aJ,aK,bk];refine⟨rfl,?_⟩)
  refine aZ (ri _) ?_;refine aZ (iI T.ih.2) ?_;dsimp only[bu,bt];refine aZ (qt _ _) ?_;refine aZ (iI T.gw) ?_
  (dsimp only[bu,bt];refine⟨by decide,?_⟩)
  refine ca rfl ?_;dsimp only[CE,jB,em,bL,bt,tgl,bC,cA,cr,C8,aT,dl,aC,aG,aX,aE,aI,aU,cJ,aD,aF,Qa,aJ,aB,aA,aK,bk,bH,cI];refine bN dP (λp=> .int (x p)) (λp hp K k=> ?_) ?_
  .dsimp only[bw,cP,cj,aO,Qa,aL,aB,aA,bK];dsimp only[D0];dsimp only[aQ,aD,aJ,Qa,aF,aB,aA,aK,d5];refine aZ (dh ce (de p)<|T.inL p hp) ?_;dsimp only[bu];exact k
  refine⟨by rw[Qd];exact dJ (by have:(Da B 17<|.c g).L.length<=I.length:=T.len;exact FS (Km (D8 this l) 2) rfl),?_⟩;refine fX (ints2 _ _ _ _) ?_;refine⟨λq=>(nomatch q),?_⟩;rw[show E5 (L (C6 B g).E.no::t g::(Da B 17<|.c g).L.map x)=Ff x L t (C6 B g) g from rfl];have aa:=T.ar;have H:=T.a1;have E:=T.less;have M:=T.fill;have R:=T.ih.2;generalize Ff x L t (C6 B g) g=a at U aa H E M ⊢;refine kR ?_;rw[show HB _ _=Ja ([],"counts",[.loc "raised",.loc "lowered",.loc "amount"]) from rfl,v8]
  (dsimp only[aL,Qa,aO,aB,aA,aC,aG,aE,aI,aD,aF,aJ,aK,bu,bk,aV,bL];refine⟨rfl,rfl,rfl,rfl,?_⟩)
  refine G.io<|qu e S.nd l T.inR T.inL ?_;refine l7 ?_;dsimp only[aQ,aM,aD,nY,aF,Qa,aJ,aB,aA,aK,bp,bu,bk];rw[ri];dsimp only[cE];refine aZ (iI R) ?_
  (dsimp only[eA];refine⟨rfl,?_⟩)
  rw[jT]
  (dsimp only[aF,Qa,aJ,aB,aA,aK];refine⟨rfl,?_⟩)
  rw[xS,x5,Qd,Qd,QA,e8 (show(Da B 17<|.c g).E.no<h from R),cQ,l5 (show(Da B 17<|.c g).E.no<h from R),oo];dsimp only[aL,Qa,aO,aB,aA,aF,aJ,aK];refine l7 ?_;dsimp only[aQ,aM,aD,nY,aF,Qa,aJ,aB,aA,aK,bp,bu,bk];rw[qt];dsimp only[cE];refine aZ (iI T.gw) ?_
  (dsimp only[eA];refine⟨rfl,?_⟩)
  rw[jT]
  (dsimp only[aF,Qa,aJ,aB,aA,aK];refine⟨rfl,?_⟩)
  rw[xS,x5,Qd,Qd,QA,e8 T.gw,cQ,l5 T.gw,oo];dsimp only[aL,Qa,aO,aB,aA,aF,aJ,aK];refine kn _ _ ?_ ⟨_,_,_,f,cv,cn,_,_,_,_,_,_,_,M,rfl,?_,U,rfl⟩
  .exact zq (ztn A H E) hk
  .exact Fy (ztn A H E)<|D8 (QV hk) (zs hf)
end
def setG{L:Type}(t:List (List L))(i j:Nat)(v:L):List (List L):=t.set i<|(CK t i).set j v
theorem CI.setG{L:Type}{t:List (List L)}(R:CI t h w)(hi:i<h){v:L}:CI (setG t i j v) h w:=by
 refine⟨by rw[Vl.Internal.setG,Wx];exact R.len,λr T=> ?_,R.h1,R.h8,R.w1,R.w8⟩
 rcases List.mem_or_eq_of_mem_set T with q|rfl
 .exact R.row r q
 .rw[Wx];exact(R.at_ hi).2
theorem tT(R:CI t h w)(hi:i<h)(E:j<w)(a b:Nat):cO (setG t i j v) a b=if(a,b)=(i,j) then v else cO t a b:=by
 have l:i<t.length:=by rw[R.len];exact hi
 have r:=(R.at_ hi).2;unfold cO CK setG;rw[KU];by_cases T:i=a
 .subst T;rw[Ug rfl,Ug l];show((CK t i).set j v)[b]?.getD Jb=_;rw[KU];by_cases H:j=b
  .subst H;rw[Ug rfl,Ug<|by exact zq E r.symm,Ug rfl];rfl
  .rw[Uf H,Uf λq=>H (Prod.mk.inj q).2.symm];rfl
 .rw[Uf T,Uf λq=>T (Prod.mk.inj q).1.symm]
section
variable{G:Gx}{cl cu:E3}{Δ:CB}
theorem tc(R:CI t h w)(hx:Δ.get x=Ja (dC t,Jc))(hi:i<h)(N:j<w)
  (O:∀Q:D->CB->Prop,Q (dO v) Δ->FW G cl e Δ Q)(T:∀ (Q:DQ) X,Q (.int i) Jb->CY G cl s Δ Q X)(σ:∀ (Q:DQ) X,Q (.int j) Jb->CY G cl c Δ Q X)
  (k:CQ G cl cu r (Δ.put x (dC<|setG t i j v,Jc)) Q X):CQ G cl cu (.setIdx (.sub (.loc x) s) c e::r) Δ Q X:=by
 refine l7<|O _ ?_;rw[uj,jT,hx,aK];refine⟨rfl,T _ _ ⟨rfl,?_⟩⟩;rw[gP R hi,cE];refine σ _ _ ?_;rw[xS,x5,Qd,(R.at_ hi).2,e8 N,cQ];show Et _ (Δ.get x);rw[hx,aK];show FL _ (ET [.int i] (λo0=>Ja<|.list (((CK t i).map dO).set j (dO v))) (dC t));have u:ET [.int i] (λo0=>Ja<|.list (((CK t i).map dO).set j (dO v))) (dC t)=Ja (dC<|setG t i j v):=by
  show(CO (t.map dR).length (i:Int)).bind (λH=>((t.map dR)[H]?).bind λx=>Wa (λy=>D.list<|(t.map dR).set H y)<|Ja (.list<|((CK t i).map dO).set j (dO v)))=_;rw[Qd,R.len,e8 hi];show((t.map dR)[i]?).bind (λx=>Ja<|D.list ((t.map dR).set i (.list<|((CK t i).map dO).set j (dO v))))=_;rw[Qu,(R.at_ hi).1];show Ja (D.list<|(t.map dR).set i (.list<|((CK t i).map dO).set j (dO v)))=_;rw[<-YA (f:=dO),show D.list (Kz dO<|(CK t i).set j v)=dR ((CK t i).set j v) from rfl,<-YA];rfl
 rw[u,cE];exact k
end
def fcF(x:Pl->Int)(c:List (List (Option Int)))(ps:List Pl):List (List (Option Int)):=ps.foldl (λt p=>setG t p.1 p.2 (Ja (x p))) c
theorem vM{h w:Nat}{x:Pl->Int}:∀ {ps:List Pl} {c:List (List (Option Int))},CI c h w->(∀p∈ps,p.1<h/\p.2<w)->CI (fcF x c ps) h w/\∀a b,cO (fcF x c ps) a b=if(a,b)∈ps then Ja (x (a,b)) else cO c a b
 |[]=>λR o0=>⟨R,λa b=>rfl⟩
 |p::ps=>λR D=>by
  obtain⟨o,r⟩:=D p<|.head _;obtain⟨N,Y⟩:=vM (x:=x) (ps:=ps) (R.setG (j:=p.2) (v:=Ja<|x p) o) λq m=>D q<|.tail _ m;refine⟨N,λa b=>(Y a b).trans ?_⟩;rw[tT R o r];by_cases q:(a,b)∈ps
  .rw[Ug q,Ug (.tail _ q)]
  .rw[Uf q];by_cases z:(a,b)=p
   .rw[Ug z,Ug<|z▸ .head _,z]
   .rw[Uf z,Uf λy=>(Qw.mp y).elim z q]
def Hq(c:List (List (Option Int)))(x:Pl->Int)(h w:Nat):List (List Int):=(Qc h).map λa=>(Qc w).map λb=>(cO c a b).getD (x (a,b))
theorem qU(R:CI t h w):t=(Qc h).map λa=>(Qc w).map λb=>cO t a b:=by
 refine(v7 R).trans (Qm λa T=> ?_);have l:=(R.at_<|Qf.mp T).2;refine List.ext_getElem (by rw[l,Qd,QA]) λi N p=> ?_;rw[WM,Wu,cO,Qg N];rfl
theorem zm(R:CI c h w)(x:Pl->Int):dC (fcF x c (DW c h w))=dT (Hq c x h w):=by
 obtain⟨N,p⟩:=vM (x:=x) (ps:=DW c h w) R (i5 R).mem;have T:fcF x c (DW c h w)=(Qc h).map λa=>(Qc w).map λb=>Ja ((cO c a b).getD (x (a,b))):=by
  refine(qU N).trans (Qm λa D=>Qm λb H=> ?_);rw[p];by_cases q:(a,b)∈DW c h w
  .rw[Ug q,(ke q).2.2];rfl
  .rw[Uf q]
   induction e:cO c a b with
   |some v=>rfl
   |none=>
    refine absurd (Qj.mpr ⟨Dk.mpr ⟨Qf.mp D,Qf.mp H⟩,?_⟩) q;show(!(cO c a b).isSome)=Jc;rw[e];rfl
 rw[T,Hq,dC,dT,QE,QE]
 congr 1
 refine Qm λa o0=> ?_;show dR _=dI _;rw[dR,dI,QE,QE];rfl
theorem nh(ps:List Pl):(ps.map Gw).map GB=ps.map dP:=by rw[QE];rfl
theorem zk{M:D->CB->Prop}(a:E)(l:List E):FW G cl (.sub a (.tup l)) Δ M=CY G cl (.sub a (.tup l)) Δ (λd t=>t=Jb/\M d Δ) λo0 o0=>False:=rfl
section
variable{C:Cx}{mg mb:Jq->Option Jf}{n:Nat}{Q:D->Bool->Prop}{X:DX}
theorem jt(e:CR C G1 mg mb)(R:CI c h w){x:Pl->Int}{d V:Bool}(T:Q (dT (Hq c x h w)) Jc):aR (aN C (n+1)) "with_counts" [(.tup [dC c,dI r,dI s],d),(E1 (DW c h w) x,V)] Q X:=by
 refine e.fn fh (bl 22 rfl) rfl λcl cu P PX g=> ?_;dsimp only[fh];dsimp only[aY,b0,bo];have S:=i5 R;have l:(DW c h w).length<=64:=mL R.h8 R.w8;rw[<-zm R] at T;refine bq ?_;refine ca rfl ?_;dsimp only[CE,aC,aG,aX,aE,aI,aU,cJ,aQ,aM,aD,aF,Qa,aJ,aB,aA,aK,bV,tgl,bC,bM,bD,bJ,eO,cE,bk,bH,cI];refine bN dR dR (λσ f K k=> ?_) ?_
 .dsimp only[bw,cP,cj,aO,Qa,aL,aB,aA,bK];dsimp only[D0]
  (dsimp only[bj,fj,aC,aE,b6,aD,aJ,Qa,aF,aB,aA,aK,bk,sU,tgl];refine⟨rfl,?_⟩)
  rw[c6 _ wb];exact k
 dsimp only[bA,aH,aL,Qa,aO,aB,aA];generalize DW c h w=I at S l T ⊢;refine d7 rfl ?_
 (dsimp only[CE,aC,aG,aX,aE,aI,aU,cJ,bj,fj,b6,aD,aF,Qa,aJ,aB,aA,aK,d5,BZ,bt,bA,cI];refine⟨rfl,?_⟩)
 refine⟨⟨by rw[Qd];exact dJ<|by exact FS l rfl,λq o=> ?_⟩,?_⟩
 .obtain⟨y,o0,rfl⟩:=Ql.mp o;exact dJ (show 2<=1000 by decide)
 rw[nh];refine cX dP (λi Δ=>∃u v,Δ=(Nb "view" d (.tup [dC c,dI r,dI s])<|Nb "counts" V (E1 I x)<|Nb "table" Jc (dC<|fcF x c (I.take i))<|No "row" u<|No "column" v<|[])) _ _ ⟨_,_,rfl⟩ ?_ ?_
 .rintro j p Δ H ⟨u,v,rfl⟩ K m;have D:=QC H;obtain⟨b,o0⟩:=vM (x:=x) (ps:=I.take j) R λq o=>S.mem q<|Yu o;rw[show fcF x c (I.take<|j+1)=setG (fcF x c<|I.take j) p.1 p.2 (Ja<|x p) from gO _ c H] at m;generalize fcF x c (I.take j)=t at b m ⊢;obtain⟨a,U⟩:=S.mem p D;dsimp only[dP];dsimp only[hU,bC,cA,bD,cr,fO,aL,Qa,aO,aB,aA,bK];refine tc (i:=p.1) (j:=p.2) (v:=Ja<|x p) b rfl a U (λQ q=> ?_) (λQ X q=> ?_) (λQ X q=> ?_) ?_
  .rw[zk]
   (dsimp only[aQ,bG,CE,C2,aC,aG,aT,aE,aI,aV,aD,aF,Qa,aA,aB,aK,d5];refine⟨by decide,?_⟩)
   refine aZ (dh ce (show DC (.tup [.int (p.1:Int),.int (p.2:Int)])=Ja (Gw p) from rfl) D) ?_
   (dsimp only[bu];refine⟨rfl,?_⟩)
   exact q
  .dsimp only[aD,aF,Qa,aB,aA,aK,bu];exact q
  .dsimp only[aD,aF,Qa,aA,aB,aK,bu];exact q
  .dsimp only[aL,Qa,aB,aA];exact m _ ⟨_,_,rfl⟩
 .rintro Δ ⟨u,v,rfl⟩;rw[Kh];refine ia ?_;refine cW ?_
  (dsimp only[cq,aL,Qa,aO,aB,aA,aF,aJ,aK,bM];refine⟨rfl,?_⟩)
  exact g.qr T
theorem uL{G:Gx}{cl cu:E3}{Δ:CB}{Q:bU}{X:Gq}{b h p r:List S}{c x σ:String}(U:G.full=Jc/\G.calm=Jc/\G.cs.contains c=Jc/\G.cs.contains σ=Jc)
  (w:CQ G cl cu b Δ (DU (λi=>CQ G cl cu r i Q X) Q) λe es i=>cond (G.sub e c) (CQ G.un cu cu h (i.put x (.exc e es,Jc)) (GH<|DU (λi=>CQ G cl cu r i Q X) Q) λo0 o0 o0=>False)<|cond (G.sub e σ) (CQ G.un cu cu p (i.put x (.exc e es,Jc)) (GH<|DU (λi=>CQ G cl cu r i Q X) Q) λo0 o0 o0=>False) False):CQ G cl cu (.try2 b c x h σ p::r) Δ Q X:=⟨U,w⟩
end
theorem get_mem{l:List Int}(h:k<l.length):l[k]?.getD 0∈l:=by rw[Qg h];exact Wj _
section
variable{C:Cx}{mg mb:Jq->Option Jf}{n:Nat}{Q:D->Bool->Prop}{X:DX}
end
theorem ro(F:Pl->Int)(h w:Nat):((Eh h w).map F).sum=((Qc h).map λa=>((Qc w).map λb=>F (a,b)).sum).sum:=by
 induction h with
 |zero=>rfl
 |succ h i=>
  rw[nS,QD,Yb,i,List.range_succ,QD,Yb,QE];show _+_=_+(((Qc w).map λb=>F (h,b)).sum+0)
  rw[Ks];rfl
theorem g6(f g:Pl->Bool)(x:Pl->Int):∀l:List Pl,CW f (l.filter g) x=(l.map λp=>if g p then(if f p then x p else 0) else 0).sum
 |[]=>rfl
 |p::l=>by
  rw[Qo,QY,<-g6 f g x l];by_cases h:g p=Jc
  .rw[Ke h,dg,Ug h]
  .rw[Kf h,Uf h,Ws]
theorem oZ{v:Nat->Int}{l:List Nat}(nd:l.Nodup)(o:q∈l):(l.map λi=>if i=q then v i else 0).sum=v q:=by
 rw[show(l.map λi=>if i=q then v i else 0)=l.map λi=>if q=i then v q else 0 from Qm λi o0=> ?_,nN nd,Ug o];by_cases e:i=q
 .subst e;rw[Ug rfl]
 .rw[Uf e,Uf λz=>e z.symm]
def hx(c:List (List (Option Int)))(x:Pl->Int)(a b:Nat):Int:=if !(cO c a b).isSome then x (a,b) else 0
section
variable{c:List (List (Option Int))}{r s:List Int}{h w:Nat}{x:Pl->Int}
theorem wI(T:a<h):Gu (DW c h w) x a=((Qc w).map λb=>hx c x a b).sum:=by
 rw[Gu,DW,g6,ro];rw[show((Qc h).map λY=>((Qc w).map λb=>if !(cO c Y b).isSome then(if decide (Y=a) then x (Y,b) else 0) else 0).sum)=(Qc h).map λY=>if Y=a then((Qc w).map λb=>hx c x Y b).sum else 0 from Qm λY o0=> ?_]
 .exact oZ (v:=λY=>((Qc w).map λb=>hx c x Y b).sum) Kr<|Qf.mpr T
 .by_cases e:Y=a
  .rw[Ug e];refine Uj Wo (Qm λb o0=> ?_);rw[Ug (Uc e)];rfl
  .rw[Uf e];refine(Uj Wo<|Qm λb o0=> ?_).trans (ii<|Qc w);rw[show decide (Y=a)=Jd from Ud e];split<;>rfl
theorem wA(R:b<w):GJ (DW c h w) x b=((Qc h).map λa=>hx c x a b).sum:=by
 rw[GJ,DW,g6,ro,oX (λa G=>if !(cO c a G).isSome then(if decide (G=b) then x (a,G) else 0) else 0)];rw[show((Qc w).map λG=>((Qc h).map λa=>if !(cO c a G).isSome then(if decide (G=b) then x (a,G) else 0) else 0).sum)=(Qc w).map λG=>if G=b then((Qc h).map λa=>hx c x a G).sum else 0 from Qm λG o0=> ?_]
 .exact oZ (v:=λG=>((Qc h).map λa=>hx c x a G).sum) Kr<|Qf.mpr R
 .by_cases e:G=b
  .rw[Ug e];refine Uj Wo (Qm λa o0=> ?_);rw[Ug (Uc e)];rfl
  .rw[Uf e];refine(Uj Wo<|Qm λa o0=> ?_).trans (ii<|Qc h);rw[show decide (G=b)=Jd from Ud e];split<;>rfl
end
noncomputable def stG(hi:Bool)(p:Pl):Nd:=bif hi then .c p.2 else .r p.1
noncomputable def Fq(hi:Bool)(p:Pl):Nd:=bif hi then .r p.1 else .c p.2
abbrev Ea(ps:List Pl)(hi:Bool)(p:Pl)(x:Pl->Int):Bs:=Hy (bn (Ja p) ps) x [stG hi p]
noncomputable def upR(hi:Bool)(p:Pl)(W:H6):List Pl:=bif hi then W.R++[p] else W.R
noncomputable def dnL(hi:Bool)(p:Pl)(W:H6):List Pl:=bif hi then W.L else W.L++[p]
def H3(hi:Bool)(p:Pl)(x:Pl->Int)(W:H6):Int:=E5<|(dnL hi p W).map x
def HS(hi:Bool)(p:Pl)(x:Pl->Int)(W:H6):Pl->Int:=De (-H3 hi p x W) (dnL hi p W)<|De (H3 hi p x W) (upR hi p W) x
noncomputable def FY(ps:List Pl)(hi:Bool)(p:Pl):Nat->(Pl->Int)->(Pl->Int)
 |0,x=>x
 |k+1,x=>if Fq hi p∈(Ea ps hi p x).1/\(hi=Jd->x p≠0) then FY ps hi p k (HS hi p x<|Da (Ea ps hi p x) 17 (Fq hi p)) else x
noncomputable def HT(R:Nat->Int)(hi:Bool)(p:Pl)(x:Pl->Int):Nat:=bif hi then(R p.1-x p).toNat else(x p).toNat
theorem kE{x:Pl->Int}(h:¬ (Fq hi p∈(Ea ps hi p x).1/\(hi=Jd->x p≠0))):FY ps hi p k x=x:=by
 induction k using Nat.casesOn with
 |zero=>rfl
 |succ k=>exact Uf h
theorem nW{x:Pl->Int}(h:Fq hi p∈(Ea ps hi p x).1/\(hi=Jd->x p≠0)):FY ps hi p (k+1) x=FY ps hi p k (HS hi p x (Da (Ea ps hi p x) 17 (Fq hi p))):=Ug h
theorem lr(s:Bs):∀ (k:Nat) (y:Nd),(Da s k y).R.length<=k/\(Da s k y).L.length<=k
 |0=>λy=>⟨Qz _,Qz _⟩
 |k+1=>λy=>by
  induction h:s.2 y with
  |none=>rw[lx h];exact⟨QS _,QS _⟩
  |some e=>
   obtain⟨N,Y⟩:=lr s k e.1;rw[lh (z:=e.1) (p:=e.2) h]
   induction y.isR with
   |true=>exact⟨WE N,Kx Y⟩
   |false=>exact⟨Kx N,WE Y⟩
theorem rk(l:List Pl)(p:Pl)(i:Nat):cR (l++[p]) i=cR l i+EB (p.1=i):=by
 have:=nO p l i;unfold cR at this ⊢;rw[Yd,Nat.add_comm,<-Yd];exact this
theorem rW(l:List Pl)(p:Pl)(i:Nat):cC (l++[p]) i=cC l i+EB (p.2=i):=by
 have:=nk p l i;unfold cC at this ⊢;rw[Yd,Nat.add_comm,<-Yd];exact this
theorem ol(δ:Int)(R:List Pl)(p:Pl)(x:Pl->Int):De δ (R++[p]) x p=De δ R x p+δ:=by
 unfold De;rw[List.foldl_append];exact bY _ _ _
theorem yp(a i:Nat):EB (Nd.r a= .r i)=EB (a=i):=by
 by_cases h:a=i
 .rw[fV h,fV (h▸rfl)]
 .rw[d3 h,d3 λq=>h (Nd.r.inj q)]
theorem yw(a i:Nat):EB (Nd.c a= .c i)=EB (a=i):=by
 by_cases h:a=i
 .rw[fV h,fV (h▸rfl)]
 .rw[d3 h,d3 λq=>h (Nd.c.inj q)]
theorem qg(a i:Nat):EB (Nd.r a= .c i)=0:=d3 λq=>nomatch q
theorem vf(a i:Nat):EB (Nd.c a= .r i)=0:=d3 λq=>nomatch q
section
variable{ps:List Pl}{h w:Nat}{R C:Nat->Int}{x:Pl->Int}{hi:Bool}{p:Pl}
theorem oa(S:Sz ps h w)(D:p∈ps):Fx (bn (Ja p) ps) x [stG hi p] h w (Ea ps hi p x)/\∀z∈(Ea ps hi p x).1,∀e∈Dj (bn (Ja p) ps) z,HD x z e.2=Jc->e.1∈(Ea ps hi p x).1:=by
 obtain⟨N,Y⟩:=S.mem p D;refine ql (λq o=>S.mem q (Ev.mp o).1) (Kk S.h8 S.w8) 17 0 _ (.start (Qy.mpr ⟨λq=>(bS q),.nil⟩) λy W=> ?_) (λi z hi=>absurd hi<|Wd _) (QS _) (by decide);rw[Qh.mp W]
 induction hi with
 |true=>exact Qe _<|Ql.mpr ⟨_,Qf.mpr Y,rfl⟩
 |false=>exact Qk _<|Ql.mpr ⟨_,Qf.mpr N,rfl⟩
theorem wu(S:Sz ps h w)(F:DA ps h w R C (.tab x)){U L:List Pl}(Y:∀q∈U,q∈ps)(K:∀q∈L,q∈ps)(nd:L.Nodup)(P:0<=a)(l:∀q∈L,a<=x q)(r:∀i,cR U i=cR L i)(c:∀i,cC U i=cC L i):
  DA ps h w R C (.tab<|De (-a) L (De a U x)):=by
 have s:∀f:Pl->Bool,((U.countP f:Nat):Int)=(L.countP f:Nat)->CW f ps (De (-a) L<|De a U x)=CW f ps x:=λf e=>by
  rw[fZ S.nd K,fZ S.nd Y,Int.neg_mul,e];exact Int.add_neg_cancel_right _ _
 refine⟨λq o=> ?_,λi hi=>(s _<|r i).trans (F.2.1 i hi),λi hi=>(s _<|c i).trans (F.2.2 i hi)⟩;have N:=m9 P (R:=U) (x:=x) q;by_cases m:q∈L
 .rw[oM nd m];exact WL<|QQ (l q m) N
 .rw[fy m];exact QQ (F.1 q o) N
structure TurnG(ps:List Pl)(h w:Nat)(R C:Nat->Int)(hi:Bool)(p:Pl)(x:Pl->Int):Prop where
 gB:∃j:Nat,(Ea ps hi p x).1[j]? =Ja (Fq hi p)
 inR:∀q∈upR hi p (Da (Ea ps hi p x) 17<|Fq hi p),q∈ps
 inL:∀q∈dnL hi p (Da (Ea ps hi p x) 17<|Fq hi p),q∈ps
 ne:dnL hi p (Da (Ea ps hi p x) 17<|Fq hi p)≠ []
 fe:DA ps h w R C (.tab<|HS hi p x (Da (Ea ps hi p x) 17<|Fq hi p))
 ms:HT R hi p (HS hi p x<|Da (Ea ps hi p x) 17 (Fq hi p))<HT R hi p x
theorem ze(F:DA ps h w R C (.tab x))(D:p∈ps)(N:p.1<h):x p<=R p.1:=by
 rw[<-F.2.1 p.1 N];unfold Gu CW;have n:∀q∈ps.filter λq=>decide<|q.1=p.1,0<=x q:=λq o=>F.1 q (Qj.mp o).1;have m:p∈ps.filter λq=>decide (q.1=p.1):=Qj.mpr ⟨D,Uc rfl⟩;generalize ps.filter (λq=>decide<|q.1=p.1)=l at n m
 induction l with
 |nil=>cases m
 |cons a l i=>
  rw[Qo,QY];have Y:=n a<|.head _;have z:=jM (f:=x) λq o=>n q<|.tail _ o;cases m with
  |head=>exact QZ z
  |tail _ m=>exact QQ (i (λq o=>n q<|.tail _ o) m)<|Int.le_add_of_nonneg_left Y
theorem jm(S:Sz ps h w)(F:DA ps h w R C (.tab x))(D:p∈ps)(P:Fq hi p∈(Ea ps hi p x).1)(hx:hi=Jd->x p≠0):TurnG ps h w R C hi p x:=by
 obtain⟨b,o0⟩:=oa (x:=x) (hi:=hi) S D;obtain⟨j,E⟩:=Yt P;have H:=b.len;have M:=(QF.mp E).1;have W:=pU b 17 j _ E (by exact Fy M<|D8 H (FS (Kk S.h8 S.w8) rfl));generalize y:Da (Ea ps hi p x) 17 (Fq hi p)=V at W;have k:=Qh.mp W.e;have g:p∉V.R:=λq=>(Ev.mp<|W.r p q).2 rfl;have L:p∉V.L:=λq=>(Ev.mp (W.l p q).1).2 rfl;have s:∀q∈V.R,q∈ps:=λq o=>(Ev.mp<|W.r q o).1;have K:∀q∈V.L,q∈ps:=λq o=>(Ev.mp (W.l q o).1).1;have sn:∀l:List Pl,(∀q∈l,q∈ps)->∀q∈l++[p],q∈ps:=λl H q o=>(Qr.mp o).elim (H q) λz=>by rw[Qh.mp z];exact D
 have r:=W.row;have c:=W.col;rw[k] at r c;have fin:dnL hi p V≠ []->(dnL hi p V).Nodup->(∀q∈dnL hi p V,q∈ps/\0<x q)->(∀q∈upR hi p V,q∈ps)->(∀i,cR (upR hi p V) i=cR (dnL hi p V) i)->(∀i,cC (upR hi p V) i=cC (dnL hi p V) i)->(1<=H3 hi p x V->DA ps h w R C (.tab<|HS hi p x V)->HT R hi p (HS hi p x V)<HT R hi p x)->TurnG ps h w R C hi p x:=λQ I n X σ U t=>by
  have A:=iX (is:=(dnL hi p V).map x) λq=>Q<|Wr.mp q;have B:1<=H3 hi p x V:=by
   obtain⟨q,o,e⟩:=Ql.mp A.1;unfold H3;rw[<-e];exact(n q o).2
  have G:DA ps h w R C (.tab<|HS hi p x V):=wu S F X (λq o=>(n q o).1) I (QQ (by decide) B) (λq o=>A.2 _<|Ql.mpr ⟨q,o,rfl⟩) σ U;refine⟨⟨j,E⟩,?_,?_,?_,?_,?_⟩<;>rw[y]
  .exact X
  .exact λq o=>(n q o).1
  .exact Q
  .exact G
  .exact t B G
 clear y
 induction hi with
 |true=>
  refine fin (λq=> ?_) W.nd (λq o=>⟨K q o,(W.l q o).2⟩) (sn _ s) (λi=> ?_) (λi=> ?_) λB G=> ?_
  .have N:=c p.2;rw[show V.L=[] from q] at N;rw[show EB (Fq Jc p=Nd.c p.2)=0 from qg _ _,show EB (stG Jc p=Nd.c p.2)=1 from fV rfl] at N;have Y:(0:Int)<=cC V.R p.2:=QU _;have J:cC V.R p.2-0=0-1:=N;rw[Ye] at J;rw[J] at Y;exact absurd Y<|by decide
  .have N:=r i;rw[show EB (stG Jc p=Nd.r i)=0 from vf _ _,show EB (Fq Jc p=Nd.r i)=EB (p.1=i) from yp _ _] at N;show cR (V.R++[p]) i=cR V.L i;rw[rk];exact zg1 N
  .have N:=c i;rw[show EB (Fq Jc p=Nd.c i)=0 from qg _ _,show EB (stG Jc p=Nd.c i)=EB (p.2=i) from yw _ _] at N;show cC (V.R++[p]) i=cC V.L i;rw[rW];exact zg1 N
  .have T:HS Jc p x V p=x p+H3 Jc p x V:=by
    show De (-H3 Jc p x V) V.L (De (H3 Jc p x V) (V.R++[p]) x) p=_;rw[fy L,ol,fy g]
   have Y:=ze G D (S.mem p D).1;show(R p.1-HS Jc p x V p).toNat<(R p.1-x p).toNat;exact zg3 T B Y
 |false=>
  have hx:=hx rfl;have m:=F.1 p D;refine fin (λq=>by cases List.append_eq_nil_iff.mp q with|intro _ q=>exact nomatch q) (Qv.mpr ⟨W.nd,Qy.mpr ⟨λq=>(nomatch q),.nil⟩,λa d b v q=>L<|by rw[Qh.mp v] at q;exact q▸d⟩) (λq o=> ?_) s (λi=> ?_) (λi=> ?_) λB G=> ?_
  .rcases Qr.mp o with z|z
   .exact⟨K q z,(W.l q z).2⟩
   .rw[Qh.mp z];exact⟨D,Int.lt_iff_le_and_ne.mpr ⟨m,Ne.symm hx⟩⟩
  .have N:=r i;rw[show EB (Fq Jd p=Nd.r i)=0 from vf _ _,show EB (stG Jd p=Nd.r i)=EB (p.1=i) from yp _ _] at N;show cR V.R i=cR (V.L++[p]) i;rw[rk];exact zg2 N
  .have N:=c i;rw[show EB (stG Jd p=Nd.c i)=0 from qg _ _,show EB (Fq Jd p=Nd.c i)=EB (p.2=i) from yw _ _] at N;show cC V.R i=cC (V.L++[p]) i;rw[rW];exact zg2 N
  .have T:HS Jd p x V p=x p+ -H3 Jd p x V:=by
    show De (-H3 Jd p x V) (V.L++[p]) (De (H3 Jd p x V) V.R x) p=_;rw[ol,fy L,fy g]
   have Y:=G.1 p D;show(HS Jd p x V p).toNat<(x p).toNat;exact ztn (Int.lt_iff_le_and_ne.mpr ⟨m,Ne.symm hx⟩) B T
theorem ut(S:Sz ps h w)(D:p∈ps):∀ (k:Nat) (x:Pl->Int),DA ps h w R C (.tab x)->HT R hi p x<k->DA ps h w R C (.tab (FY ps hi p k x))/\¬ (Fq hi p∈(Ea ps hi p (FY ps hi p k x)).1/\(hi=Jd->FY ps hi p k x p≠0))
 |0=>λx o0 M=>absurd M<|Wd _
 |k+1=>λx F M=>by
  by_cases q:Fq hi p∈(Ea ps hi p x).1/\(hi=Jd->x p≠0)
  .have T:=jm S F D q.1 q.2;rw[nW q];exact ut S D k _ T.fe<|Fy T.ms (zs M)
  .rw[kE q];exact⟨F,q⟩
theorem ud(S:Sz ps h w)(F:DA ps h w R C (.tab x))(D:p∈ps){pa pb:Nat->Bool}(σ:∀q∈ps,q≠p->pa q.1=pb q.2\/x q=0)(N:pa p.1=Jc)(Y:pb p.2=Jd):
  x p=(((Qc h).filter pa).map R).sum-(((Qc w).filter pb).map C).sum:=by
 have T:(((Qc h).filter pa).map R).sum=CW (λq=>decide<|q.1∈(Qc h).filter pa) ps x:=by
  rw[<-dF (f:=(·.1)) (Kr.filter _)];exact Uj Wo<|Qm λi hi=>(F.2.1 i<|Qf.mp (Qj.mp hi).1).symm
 have j:(((Qc w).filter pb).map C).sum=CW (λq=>decide<|q.2∈(Qc w).filter pb) ps x:=by
  rw[<-dF (f:=(·.2)) (Kr.filter _)];exact Uj Wo<|Qm λi hi=>(F.2.2 i<|Qf.mp (Qj.mp hi).1).symm
 have c:∀q∈ps,decide (q.1∈(Qc h).filter pa)=pa q.1:=λq o=>by
  rw[Kq,Ui,Qj,Qf];exact⟨λz=>z.2,λz=>⟨(S.mem q o).1,z⟩⟩
 have m:∀q∈ps,decide (q.2∈(Qc w).filter pb)=pb q.2:=λq o=>by
  rw[Kq,Ui,Qj,Qf];exact⟨λz=>z.2,λz=>⟨(S.mem q o).2,z⟩⟩
 have k:CW (λq=>decide<|q.1∈(Qc h).filter pa) ps (upd x p<|x p+ -x p)=CW (λq=>decide<|q.2∈(Qc w).filter pb) ps (upd x p<|x p+ -x p):=by
  refine iD λq o=> ?_;by_cases e:q=p
  .subst e;exact .inr<|(bY _ _ _).trans (Int.add_right_neg _)
  .rw[c q o,m q o,cF _ _ e];exact σ q o e
 rw[jN S.nd D,jN S.nd D,c p D,m p D,N,Y,Ug rfl,Uf QB] at k;rw[T,j];exact zg4 k
theorem t3(S:Sz ps h w)(F:DA ps h w R C (.tab x))(D:p∈ps):stG hi p∈(Ea ps hi p x).1/\∀q∈ps,q≠p->(Nd.r q.1∈(Ea ps hi p x).1->Nd.c q.2∈(Ea ps hi p x).1)/\(decide (Nd.r q.1∈(Ea ps hi p x).1)=decide (Nd.c q.2∈(Ea ps hi p x).1)\/x q=0):=by
 obtain⟨b,l⟩:=oa (x:=x) (hi:=hi) S D;refine⟨b.has _<|.head _,λq o n=> ?_⟩;have Q:q∈bn (Ja p) ps:=Ev.mpr ⟨o,λz=>n (sj z).symm⟩;have c:Nd.r q.1∈(Ea ps hi p x).1->Nd.c q.2∈(Ea ps hi p x).1:=λr=>l _ r (.c q.2,q) (Ql.mpr ⟨q,Qj.mpr ⟨Q,Uc rfl⟩,rfl⟩) rfl;refine⟨c,?_⟩
 rcases Int.lt_or_eq_of_le (F.1 q o) with z|z
 .exact .inl<|decide_eq_decide.mpr ⟨c,λr=>l _ r (.r q.1,q) (Ql.mpr ⟨q,Qj.mpr ⟨Q,Uc rfl⟩,rfl⟩)<|decide_eq_true z⟩
 .exact .inr z.symm
end
abbrev Hx(ps:List Pl)(x:Pl->Int)(xs:List Nd):D:= .inst "Bounds" [E1 ps x,md Nd.key (D1 ps) xs]
theorem qd(a b:D):Fr G1 "counts" (.inst "Bounds" [a,b])=Ja a:=rfl
theorem rx(a b:D):Fr G1 "near" (.inst "Bounds" [a,b])=Ja b:=rfl
theorem j1(p:Pl):C4 (dP p) (.int 0)=Ja (.int p.1):=rfl
theorem jP(p:Pl):C4 (dP p) (.int 1)=Ja (.int p.2):=rfl
theorem uN{p:Pl}(h:p.1<8)(Y:p.2<8):ec (Gw p)=Jc:=by
 show(decide _&&decide _)=Jc;rw[Uc ⟨QU _,Kc.mpr h⟩,Uc ⟨QU _,Kc.mpr Y⟩];rfl
def Ed(ps:List Pl)(R:Nat->Int)(hi:Bool)(p:Pl)(x:Pl->Int):Pl->Int:=FY ps hi p (HT R hi p x+1) x
inductive EnK:Option Int->D->Prop
 |none:EnK Option.none .none
 |some (v:Int):EnK (Ja v) (.int v)
theorem Br{d:D}(E:EnK e d){A B:Prop}(N:∀v,e=Ja v->d= .int v->A->B)(h:A):i7 d=Jd/\cond (!d.isNone) B A:=by
 induction E with
 |none=>exact⟨rfl,h⟩
 |some v=>exact⟨rfl,N v rfl rfl h⟩
theorem cw{K:CB->Prop}(h:K L):CQ G l c [] L (DU K Q) X:=h
def leG(hi:Bool)(a b:Int):Prop:=bif hi then a<=b else b<=a
def EnR(hi:Bool)(p:Pl)(e:Option Int)(O y:Pl->Int):Prop:=y=O\/∃v,e=Ja v/\leG hi v (y p)/\leG hi (y p) (O p)
theorem EnR.no{O y:Pl->Int}(h:EnR hi p Jb O y):y=O:=h.elim id λ⟨_,q,_⟩=>ns q
theorem iz{R C:Nat->Int}(S:Sz ps h w)(D:p∈ps):∀ (k:Nat) (x:Pl->Int),DA ps h w R C (.tab x)->leG hi (x p) (FY ps hi p k x p)
 |0=>λx o0=>by
  rcases hi with⟨⟩
  .exact QX _
  .exact QX _
 |k+1=>λx F=>by
  by_cases q:Fq hi p∈(Ea ps hi p x).1/\(hi=Jd->x p≠0)
  .have T:=jm S F D q.1 q.2;have I:=iz (hi:=hi) S D k _ T.fe;have m:=T.ms;rw[nW q]
   rcases hi with⟨⟩
   .exact QQ I<|KQ.mp λz=>QW.mpr (Int.toNat_le_toNat<|Yg z) m
   .exact QQ (KQ.mp λz=>QW.mpr (Int.toNat_le_toNat<|Int.sub_le_sub_left (Yg z) (R p.1)) m) I
  .rw[kE q]
   rcases hi with⟨⟩
   .exact QX _
   .exact QX _
inductive GlI(ps:List Pl)(h w:Nat)(R Cc:Nat->Int)(hi:Bool)(p:Pl)(O:Pl->Int)(sf gd dE:D)(b1 b2 b3:Bool)(k:Nat)(Δ:CB):Prop
 |mk (x:Pl->Int) (f:Nat) (u1 u2 u3 u4 u5:Option (D×Bool)) (F:DA ps h w R Cc (.tab x)) (hk:HT R hi p x=k) (hf:k<f) (hO:FY ps hi p f x=O)
  (e:Δ=(Nb "self" b1 sf<|Nb "place" b2 (dP p)<|Nb "enough" b3 dE<|Nb "counts" Jc (E1 ps x)<|Nb "goal" Jc gd<|No "came" u1<|No "raised" u2<|No "lowered" u3<|No "start" u4<|No "amount" u5<|[])):GlI ps h w R Cc hi p O sf gd dE b1 b2 b3 k Δ
section
variable{C:Cx}{mg mb:Jq->Option Jf}{n:Nat}{Q:D->Bool->Prop}{X:DX}
theorem jb(e:CR C G1 mg mb){ps:List Pl}{R c:Nat->Int}{L:Pl->Int}(S:Sz ps h w)(N:D7 ps xs)(l:ps.length<=64)(s:DA ps h w R c (.tab L))(t:p∈ps){G V z:Bool}
  {d:Option Int}{dE:D}(I:EnK d dE)(m:∀y,EnR Jc p d (Ed ps R Jc p L) y->Q (.tup [E1 ps y,GP (Ea ps Jc p y)]) Jc):aR (aN C<|n+2) "Bounds.greatest" [(Hx ps L xs,G),(dP p,V),(dE,z)] Q X:=by
 refine e.fn dw (bl 50 rfl) rfl λr cu PQ PX g=> ?_;dsimp only[dw];dsimp only[aY,b0,bo];have P:h+w<=16:=Kk S.h8 S.w8;refine bq ?_
 (dsimp only[bj,qQ,bA,aH,aL,Qa,aO,aB,aA,aC,aE,b6,eI,aF,aJ,aK];refine⟨rfl,?_⟩)
 refine aZ (qd _ _) ?_;dsimp only[xy];refine⟨⟨λq=>(by rw[Wr.mp q] at t;cases t),λk M=> ?_,c6 (λp=>D.int<|L p) (λa=>rfl) _⟩,?_⟩
 .obtain⟨q,o,rfl⟩:=Ql.mp M;obtain⟨E,Y⟩:=S.mem q o;exact uN (QJ E S.h8)<|QJ Y S.w8
 refine bq ?_;dsimp only[bG,CE,C2,aC,aG,aT,aX,aE,aI,aV,aU,aQ,aM,aD,aF,Qa,aJ,aB,aA,aK,ct];refine ip ?_;dsimp only[bt];refine aZ (j1 p) ?_
 (dsimp only[bu,bt,bA,aH,aL,Qa,aO,aB,aA];refine⟨by decide,?_⟩)
 generalize U:Ed ps R Jc p L=O at m;refine iO rfl (HT R Jc p L+1) ?_;refine fY (GlI ps h w R c Jc p O (Hx ps L xs) (dN<|.r p.1) dE G V z) ?_ _ (HT R Jc p L) _ (QN _) ⟨L,_,_,_,_,_,_,s,rfl,QN _,U,rfl⟩;rintro k Δ ⟨x,f,u1,u2,u3,J,u5,F,M,W,U,rfl⟩ K i;clear s;dsimp only[c4,bv,aA];obtain⟨f,rfl⟩:∃B,f=B+1:=⟨f-1,by exact zpr W⟩
 obtain⟨b,o0⟩:=oa (x:=x) (hi:=Jc) S t;have T:=jm (hi:=Jc) S F t;refine bq ?_
 (dsimp only[aP,CD,aC,aG,aX,aE,aI,aU,aD,aF,Qa,aJ,aB,aA,aK,bE,CE,C8,aT,aV,bG,C2,aQ,aM,ct,d5,aS,eI];refine⟨rfl,?_⟩)
 refine aZ (rx _ _) ?_;dsimp only[d5,aS];refine g9 ?_;dsimp only[bt];refine aZ (jP p) ?_
 (dsimp only[bu,bt,aH];refine⟨by decide,by decide,?_⟩)
 refine g.hc<|j0 (ban:=Ja p) (st:=[.c p.2]) e N S.mem S.h8 S.w8 (Qy.mpr ⟨λq=>(bS q),.nil⟩) (λy u=>b.val y<|b.has y u) ?_;dsimp only[aA,d5,bA,aH,aL,Qa,aO,aB];refine cb ?_;dsimp only[cy,bv,aA,cp,aW,aD,aF,Qa,aJ,aB,aK,aQ,dG,fz];rw[te,gI,ov,n0 dY];refine xv (λE=> ?_) λE=> ?_
 .rw[kE λq=>E q.1] at U;refine cW ?_
  (dsimp only[dQ,cD,aT,c5,aV,cq,aL,Qa,aO,aB,aA,aF,aJ,aK,er];refine⟨rfl,rfl,by decide,?_⟩)
  exact g.qr<|m _ (.inl U)
 refine Br I (λv hv A σ=> ?_) ?_
 .subst A;refine aZ (dh ce (de p) t) ?_;dsimp only[ru];refine cG (λY=> ?_) λo0=>σ;refine cW ?_
  (dsimp only[dQ,cD,aT,c5,aV,cq,aL,Qa,aO,aB,aA,aF,aJ,aK,er];refine⟨rfl,rfl,by decide,?_⟩)
  exact g.qr<|m _ (.inr ⟨v,hv,Y,U▸iz S t _ _ F⟩)
 have T:=T E λq=>Bool.noConfusion q;rw[nW (hi:=Jc) ⟨E,λq=>Bool.noConfusion q⟩] at U;obtain⟨j,H⟩:=T.gB;refine cw ?_;refine c9 rfl ?_
 (dsimp only[aP,CD,aC,aG,aX,aE,aI,aU,aD,aF,Qa,aJ,aB,aA,aK,d5,aS];refine⟨rfl,?_⟩)
 refine g.hc<|uf (y:= .r p.1) e b P H ?_;dsimp only[aA,bV,tgl,bC,bM,bD,bJ,aB,aH,bA,sR,aL,Qa,aO,bK];refine bq ?_
 (dsimp only[bj,nQ,aC,aE,wL,bA,aH,aL,Qa,aO,aA,aB];refine⟨rfl,?_⟩)
 refine ca rfl ?_;dsimp only[CE,dl,aC,aG,aX,aE,aI,aU,cJ,aD,aF,Qa,aJ,aB,aA,aK,bk,bH,cI];refine bN dP (λp=> .int (x p)) (λq o K k=> ?_) ?_
 .dsimp only[bw,cP,cj,aO,Qa,aL,aB,aA,bK];dsimp only[D0];dsimp only[aQ,aD,aJ,Qa,aF,aB,aA,aK,d5];refine aZ (dh ce (de q)<|T.inL q o) ?_;dsimp only[bu];exact k
 refine fX (eD _ _) ?_;refine⟨λq=>T.ne<|Wr.mp q,?_⟩;refine kR ?_;rw[show HB _ _=Ja ([],"counts",[.bin .add (.loc "raised") (.list [.loc "place"]),.loc "lowered",.loc "amount"]) from rfl,v8]
 (dsimp only[aL,Qa,aB,aA,aC,aG,aE,aI,aD,aF,aK,bu,bk,bp,bE,CE,C8,aT,aX,aV,aU,jB,tgl,bL];refine⟨rfl,rfl,rfl,by decide,?_⟩)
 refine⟨dJ<|by rw[QG,Qd];exact FS (Km (lr _ 17 _).1 1) rfl,?_⟩;rw[il dP,c6 dP dA]
 (dsimp only[aA];refine⟨rfl,?_⟩)
 refine g.io<|qu e S.nd l T.inR T.inL ?_;exact i _ _ (zq T.ms M) ⟨_,f,_,_,_,_,_,T.fe,rfl,Fy (zq T.ms M)<|zs W,U,rfl⟩
theorem nK(e:CR C G1 mg mb){ps:List Pl}{R c:Nat->Int}{L:Pl->Int}(S:Sz ps h w)(N:D7 ps xs)(H:ps.length<=64)(s:DA ps h w R c (.tab L))(t:p∈ps){G V z:Bool}
  {d:Option Int}{dE:D}(I:EnK d dE)(m:∀y,EnR Jd p d (Ed ps R Jd p L) y->Q (.tup [E1 ps y,GP (Ea ps Jd p y)]) Jc):aR (aN C<|n+2) "Bounds.least" [(Hx ps L xs,G),(dP p,V),(dE,z)] Q X:=by
 refine e.fn eJ (bl 51 rfl) rfl λr cu PQ PX g=> ?_;dsimp only[eJ];dsimp only[aY,b0,bo];have P:h+w<=16:=Kk S.h8 S.w8;refine bq ?_
 (dsimp only[bj,qQ,bA,aH,aL,Qa,aO,aB,aA,aC,aE,b6,eI,aF,aJ,aK];refine⟨rfl,?_⟩)
 refine aZ (qd _ _) ?_;dsimp only[xy];refine⟨⟨λq=>(by rw[Wr.mp q] at t;cases t),λk M=> ?_,c6 (λp=>D.int<|L p) (λa=>rfl) _⟩,?_⟩
 .obtain⟨q,o,rfl⟩:=Ql.mp M;obtain⟨E,Y⟩:=S.mem q o;exact uN (QJ E S.h8)<|QJ Y S.w8
 refine bq ?_;dsimp only[bG,CE,C2,aC,aG,aT,aX,aE,aI,aV,aU,aQ,aM,aD,aF,Qa,aJ,aB,aA,aK,ct];refine g9 ?_;dsimp only[bt];refine aZ (jP p) ?_
 (dsimp only[bu,bt,bA,aH,aL,Qa,aO,aB,aA];refine⟨by decide,?_⟩)
 generalize U:Ed ps R Jd p L=O at m;refine iO rfl (HT R Jd p L+1) ?_;refine fY (GlI ps h w R c Jd p O (Hx ps L xs) (dN<|.c p.2) dE G V z) ?_ _ (HT R Jd p L) _ (QN _) ⟨L,_,_,_,_,_,_,s,rfl,QN _,U,rfl⟩;rintro k Δ ⟨x,f,u1,u2,u3,u4,u5,F,M,W,U,rfl⟩ K i;clear s;dsimp only[c4,bv,aA];obtain⟨f,rfl⟩:∃B,f=B+1:=⟨f-1,by exact zpr W⟩
 obtain⟨b,o0⟩:=oa (x:=x) (hi:=Jd) S t;have T:=jm (hi:=Jd) S F t;refine bq ?_
 (dsimp only[aP,CD,aC,aG,aX,aE,aI,aU,aD,aF,Qa,aJ,aB,aA,aK,bE,CE,C8,aT,aV,bG,C2,aQ,aM,ct,d5,aS,eI];refine⟨rfl,?_⟩)
 refine aZ (rx _ _) ?_;dsimp only[d5,aS];refine ip ?_;dsimp only[bt];refine aZ (j1 p) ?_
 (dsimp only[bu,bt,aH];refine⟨by decide,by decide,?_⟩)
 refine g.hc<|j0 (ban:=Ja p) (st:=[.r p.1]) e N S.mem S.h8 S.w8 (Qy.mpr ⟨λq=>(bS q),.nil⟩) (λy u=>b.val y<|b.has y u) ?_;dsimp only[aA,d5,bA,aH,aL,Qa,aO,aB];have fin:¬ (Fq Jd p∈(Ea ps Jd p x).1/\(Jd=Jd->x p≠0))->Q (.tup [E1 ps x,GP (Ea ps Jd p x)]) Jc:=λq=>by
  rw[kE q] at U;exact m _<|.inl U
 refine cb ?_;dsimp only[cy,bv,aA,cp,aW,aD,aF,Qa,aJ,aB,aK,aQ,dG,cM,DP,aM,fz];rw[te,gI,ov,n0 dY];refine xv (λE=> ?_) λE=> ?_
 .refine cW ?_
  (dsimp only[dQ,cD,aT,c5,aV,cq,aL,Qa,aO,aB,aA,aF,aJ,aK,er];refine⟨rfl,rfl,by decide,?_⟩)
  exact g.qr<|fin λq=>E q.1
 refine aZ (dh ce (de p) t) ?_
 (dsimp only[bR];refine⟨⟨rfl,rfl⟩,?_⟩)
 refine cG (λY=> ?_) λY=> ?_
 .refine cW ?_
  (dsimp only[dQ,cD,aT,c5,aV,cq,aL,Qa,aO,aB,aA,aF,aJ,aK,er];refine⟨rfl,rfl,by decide,?_⟩)
  exact g.qr<|fin λq=>q.2 rfl Y
 refine Br I (λv hv A σ=> ?_) ?_
 .subst A;refine aZ (dh ce (de p) t) ?_;dsimp only[ko];refine cG (λY=> ?_) λo0=>σ;refine cW ?_
  (dsimp only[dQ,cD,aT,c5,aV,cq,aL,Qa,aO,aB,aA,aF,aJ,aK,er];refine⟨rfl,rfl,by decide,?_⟩)
  exact g.qr<|m _ (.inr ⟨v,hv,Y,U▸iz S t _ _ F⟩)
 have T:=T E λo0=>Y;rw[nW ⟨E,λo0=>Y⟩] at U;obtain⟨j,J⟩:=T.gB;refine cw ?_;refine c9 rfl ?_
 (dsimp only[aP,CD,aC,aG,aX,aE,aI,aU,aD,aF,Qa,aJ,aB,aA,aK,d5,aS];refine⟨rfl,?_⟩)
 refine g.hc<|uf (y:= .c p.2) e b P J ?_;dsimp only[aA,bV,tgl,bC,bM,bD,bJ,aB,aH,bA,sR,aL,Qa,aO,bK];have l:=(lr (Ea ps Jd p x) 17<|.c p.2).2;refine bq ?_
 (dsimp only[bj,nQ,aC,aE,wL,bA,aH,aL,Qa,aO,aA,aB];refine⟨rfl,?_⟩)
 refine ca rfl ?_
 (dsimp only[CE,dl,aC,aG,aX,aE,aI,aU,cJ,bp,bE,C8,aT,aV,aD,aF,Qa,aJ,aB,aA,aK,bk,jB,tgl,cI];refine⟨by decide,?_⟩)
 refine⟨dJ<|by rw[QG,Qd];exact FS (Km l 1) rfl,?_⟩;rw[il dP];refine bN dP (λp=> .int (x p)) (λq o K k=> ?_) ?_
 .dsimp only[bw,cP,cj,aO,Qa,aL,aB,aA,bK];dsimp only[D0];dsimp only[aQ,aD,aJ,Qa,aF,aB,aA,aK,d5];refine aZ (dh ce (de q)<|T.inL q o) ?_;dsimp only[bu];exact k
 refine fX (eD _ _) ?_;refine⟨λq=>T.ne<|Wr.mp q,?_⟩;refine kR ?_;rw[show HB _ _=Ja ([],"counts",[.loc "raised",.bin .add (.loc "lowered")<|.list [.loc "place"],.loc "amount"]) from rfl,v8]
 (dsimp only[aL,Qa,aB,aA,aC,aG,aE,aI,aD,aF,aK,bu,bp,bE,CE,C8,aT,aX,aV,aU,bk,jB,tgl,bL];refine⟨rfl,rfl,rfl,by decide,?_⟩)
 refine⟨dJ<|by rw[QG,Qd];exact FS (Km l 1) rfl,?_⟩;rw[il dP,c6 dP dA]
 (dsimp only[aA];refine⟨rfl,?_⟩)
 refine g.io<|qu e S.nd H T.inR T.inL ?_;exact i _ _ (zq T.ms M) ⟨_,f,_,_,_,_,_,T.fe,rfl,Fy (zq T.ms M)<|zs W,U,rfl⟩
end
theorem B3(ps:List Pl)(q:Pl):((ps.map dP).any λd=>D.eqv d (dP q))=decide (q∈ps):=by
 rw[List.any_map,Kq,Ki,Ui]
 constructor
 .rintro ⟨x,hx,h⟩;have h:D.eqv (dP x) (dP q)=Jc:=h;rw[iu,Ui] at h;exact h▸hx
 .exact λi=>⟨q,i,bZ _⟩
theorem rT(d:D):tg0 d Jb=Jb:=by unfold tg0;cases d.atom<;>rfl
theorem tv{a b:D}(h:c=Jc->a.atom=v)(p:c=Jd->b.atom=v):(cond c a b).atom=v:=by
 induction c with
 |true=>exact h rfl
 |false=>exact p rfl
theorem uW{M:D->CB->Prop}(a i:E):FW G c (.sub a i) L M=CY G c (.sub a i) L (λd t=>t=Jb/\M d L) λo0 o0=>False:=rfl
def EL(ps:List Pl)(h w:Nat)(p:Pl)(x:Pl->Int):D:=cond (decide<|x p>0) (.tup [.int (x p),Ft<|Gz Jc h (Ea ps Jd p x).1,Ft (Gz Jd w (Ea ps Jd p x).1)])<|.tup [.int 0,.list [],.list []]
def GU(ps:List Pl)(h w:Nat)(p:Pl)(x:Pl->Int):D:= .tup [.int (x p),Ft ((Qc h).filter λk=> !decide (Nd.r k∈(Ea ps Jc p x).1)),Ft ((Qc w).filter λk=> !decide (Nd.c k∈(Ea ps Jc p x).1))]
theorem zgw1{y x w H L:Int}(h:y-x>=w)(a:y<=H)(b:L<=x):w<=H-L:=QQ h<|Int.sub_le_sub a b
theorem zgw2{y x w:Int}(h:x+w<=y):y-x>=w:=Int.le_sub_left_of_add_le h
theorem zgw3{z y w L:Int}(h:z<=y-w)(b:L<=z):w<=y-L:=Int.le_sub_right_of_add_le<|Wh L w▸Int.add_le_of_le_sub_right (QQ b h)
theorem zgw4{z y w:Int}(h:z<=y-w):w<=y-z:=zgw3 h<|QX z
section
variable{C:Cx}{mg mb:Jq->Option Jf}{n:Nat}{Q:D->Bool->Prop}{X:DX}
theorem xQ(e:CR C G1 mg mb)(R:CI c h w){p:Pl}(h1:p.1<h)(h2:p.2<w)(k:Q (.bool Jc) Jc):aR (aN C (n+2)) "is_place" [(dP p,b),(dC c,b')] Q X:=by
 refine e.fn hP (bl 18 rfl) rfl λcl cu PQ PX gg=> ?_;dsimp only[hP];unfold dP;dsimp only[aY,b0,bo];refine cb ?_
 (dsimp only[cy,bv,aA,bO,aP,CD,aC,aG,aE,aI,aQ,aM,aD,aF,Qa,aB,aK,bV,tgl,bC,cA,bD,cr,eN,cE,bu,aH,d6,aW,fw,DP,bj,bX,bR,b6,ml,aT,aV,cQ,cZ,lI,i8,cx];refine⟨rfl,rfl,⟨rfl,rfl⟩,?_⟩)
 rw[show decide (((0+1+1:Nat):Int)=2)=Jc from rfl]
 (dsimp only[cx,aB];refine⟨rfl,?_⟩)
 refine gg.hc<|gq e ?_;rw[Uc (show(p.1:Int)>=0 from QU _)]
 (dsimp only[bv,cx,aB];refine⟨rfl,?_⟩)
 refine gg.hc<|gq e ?_;rw[Uc (show(p.2:Int)>=0 from QU _)];dsimp only[bv,cx,aB];refine bI ?_
 (dsimp only[cp,aW,aH,bj,bX,aC,aE,b6,aQ,aM,aD,aF,Qa,aA,aB,aK,eN,cE,rV,bv,cK,cQ,d6];refine⟨rfl,?_⟩)
 rw[Qd,R.len,Uc (Kc.mpr h1)]
 (dsimp only[aA];refine⟨rfl,?_⟩)
 refine aZ (gP (i:=0) R<|QJ Nat.zero_lt_one R.h1) ?_;dsimp only[cK,cQ];rw[Qd,(R.at_<|QJ Nat.zero_lt_one R.h1).2,Uc (Kc.mpr h2)];exact gg.qr k
theorem zg(e:CR C G1 mg mb)(K:DL C Ep){ps:List Pl}{x:Pl->Int}(h:ps.length<=64)(k:∀xs,D7 ps xs->Q (Hx ps x xs) Jc):aR (aN C (n+3)) "Bounds" [(E1 ps x,Jc)] Q X:=by
 refine xn (c:=Ep) (a1:="counts") (e2:= .call "near_of" [.bi .list [.loc "counts"]]) e.g (Gs e.g e.x) K rfl rfl (by decide) ?_
 (dsimp only[aP,CD,aC,aG,aX,aE,aI,aU,bj,fj,b6,aD];refine⟨rfl,rfl,?_⟩)
 refine⟨⟨by rw[Qd];exact dJ<|by exact FS h rfl,λq o=> ?_⟩,?_⟩
 .obtain⟨y,o0,rfl⟩:=Ql.mp o;exact dJ (show 2<=1000 by decide)
 rw[nh];refine qh (n:=n) e h λxs N=> ?_;exact⟨rfl,k xs N⟩
theorem A7(e:CR C G1 mg mb)(K:DL C Ep)(V:H7 c r s h w)(hT:∀pa pb,FC c r s h w≠ .no pa pb)(hp:p∈DW c h w)
  (kt:∀x xs,FC c r s h w= .tab x->D7 (DW c h w) xs->Q (Hx (DW c h w) x xs) Jc):aR (aN C<|n+5) "bounds_at" [(.tup [dC c,dI r,dI s],b),(dP p,b')] Q X:=by
 refine e.fn gv (bl 23 rfl) rfl λcl cu PQ PX gg=> ?_;dsimp only[gv];dsimp only[aY,b0,bo];refine gk ?_
 (dsimp only[aP,CD,aC,aG,aE,aI,aD,aF,Qa,aB,aA,aK,bV,tgl,bC,bM,bD,bJ,aS];refine⟨rfl,?_⟩)
 refine gg.hc<|qA e V ?_;obtain⟨p1,p2,o0⟩:=ke hp;refine cb ?_
 (dsimp only[cy,bv,aA,aW,fz,aP,CD,aC,aG,aE,aI,aQ,aM,aD,aF,Qa,aB,aK,bV,tgl,bC,bM,bD,bJ,eO,cE,bk,aS,bO];refine⟨rfl,?_⟩)
 refine gg.hc<|xQ e V.R p1 p2 ?_
 (dsimp only[bv,cx,aB];refine⟨rfl,?_⟩)
 refine gg.hc<|lN e V.R ?_;rw[lT];refine⟨⟨ti p,b8 dP (λp=>rfl) _⟩,?_⟩;rw[B3,Uc hp];dsimp only[cx,aB];refine cw ?_;refine bI ?_
 (dsimp only[aP,CD,aC,aG,aX,aE,aI,aU,aD,aF,Qa,aB,aA,aK,bV,tgl,bC,bM,bD,bJ,aS,bH,ch,bL];refine⟨rfl,rfl,?_⟩)
 refine gg.hc<|qD e V (λx hx=> ?_) hT;dsimp only[aA,d5,aH,bt,bH];exact gg.hc<|zg e K (mL V.R.h8 V.R.w8) λxs N=>gg.qr<|kt x xs hx N
theorem zJ(e:CR C G1 mg mb)(K:DL C Ep)(V:H7 c r s h w)(T:∀pa pb,FC c r s h w≠ .no pa pb)(D:p∈DW c h w)
  (k:∀x,FC c r s h w= .tab x->Q (.tup [dT (Hq c (Ed (DW c h w) (E0 c r) Jd p x) h w),dT (Hq c (Ed (DW c h w) (E0 c r) Jc p x) h w)]) Jc):aR (aN C<|n+6) "ends" [(.tup [dC c,dI r,dI s],b),(dP p,q)] Q X:=by
 refine e.fn nH (bl 24 rfl) rfl λM u P PX g=> ?_;dsimp only[nH];dsimp only[aY,b0,bo];have G:DA (DW c h w) h w (E0 c r) (FB c s) (FC c r s h w):=qj (i5 V.R) _ _ _ _ (H0 V)<|QN _;refine bq ?_
 (dsimp only[aP,CD,aC,aG,aX,aE,aI,aU,aD,aF,Qa,aJ,aB,aA,aK,bV,tgl,bC,bM,bD,bJ,aS];refine⟨rfl,?_⟩)
 refine g.hc (A7 e K V T D λx H hx N=> ?_);rw[hx] at G;dsimp only[aA,gM,tgl,bC,er,bD,bJ,aB,bA,aH,aL,Qa,aO];have S:=i5 V.R;have l:=mL (c:=c) V.R.h8 V.R.w8;refine bq ?_
 (dsimp only[aQ,aM,b7,aG,aX,aC,aE,aI,aU,fq,aH,bt,aD,aF,Qa,aJ,aB,aA,aK,eT,gM,tgl,bC,er,bD,bJ,aS];refine⟨rfl,rfl,?_⟩)
 refine g.hc (nK e S N l G D .none λy W=> ?_);rw[W.no];dsimp only[aA,bV,tgl,bC,er,bD,bJ,aB,d6,cE,d5,bA,aH,aL,Qa,aO];refine bq ?_
 (dsimp only[aQ,aM,b7,aG,aX,aC,aE,aI,aU,fq,aH,bt,aD,aF,Qa,aJ,aB,aA,aK,eT,gM,tgl,bC,er,bD,bJ,aS];refine⟨rfl,rfl,?_⟩)
 refine g.hc (jb e S N l G D .none λy W=> ?_);rw[W.no];dsimp only[aA,bV,tgl,bC,er,bD,bJ,aB,d6,cE,d5,bA,aH,aL,Qa,aO];refine bI ?_
 (dsimp only[bG,CE,C2,aC,aG,aT,aX,aE,aI,aV,aU,aP,CD,aD,aF,Qa,aA,aB,aK,d5,aS,bH,bV,tgl,bC,bM,bD,bJ,ch,em,bL];refine⟨rfl,?_⟩)
 refine g.hc<|jt e V.R ?_
 (dsimp only[aA,bk,bt];refine⟨rfl,?_⟩)
 refine g.hc<|jt e V.R ?_
 (dsimp only[aA,bk,bt,aH];refine⟨by decide,?_⟩)
 exact g.qr<|k x hx
theorem uR(e:CR C G1 mg mb){ps:List Pl}{R P:Nat->Int}{L:Pl->Int}(S:Sz ps h w)(N:D7 ps xs)(l:ps.length<=64)(F:DA ps h w R P (.tab L))(D:p∈ps){a H z V:Bool}
  (q:Q (.tup [EL ps h w p (Ed ps R Jd p L),GU ps h w p (Ed ps R Jc p L)]) Jc):aR (aN C<|n+3) "Bounds.walls" [(Hx ps L xs,a),(dP p,H),(.int h,z),(.int w,V)] Q X:=by
 refine e.fn C7 (bl 53 rfl) rfl λc j G PX g=> ?_;dsimp only[C7];dsimp only[aY,b0,bo];have U:h+w<=16:=Kk S.h8 S.w8;refine c9 rfl ?_
 (dsimp only[b7,aG,aX,aC,aE,aI,aU,fq,aH,bt,aD,aF,Qa,aJ,aB,aA,aK,eT,gM,tgl,bC,er,bD,bJ,aS];refine⟨rfl,rfl,?_⟩)
 refine g.hc (nK e S N l F D .none λy W=> ?_);rw[W.no];dsimp only[aA,bV,tgl,bC,er,bD,bJ,aB,aH,bA,fO,aL,Qa,aO,bK];generalize Ed ps R Jd p L=x at q ⊢;obtain⟨B,o0⟩:=oa (x:=x) (hi:=Jd) S D;have σ:=B.len;have fin:∀d u o,d=EL ps h w p x->CQ G1 c j (C7.b.drop 3) (Nb "self" a (Hx ps L xs)<|Nb "place" H (dP p)<|Nb "many_rows" z (.int h)<|Nb "many_columns" V (.int w)<|No "counts" u<|No "came" o<|Nb "low" Jc d<|No "rows" Jb<|No "columns" Jb<|[]) G PX:=λd u o r=>by
  dsimp only[C7,Wz];have A:d.atom=Jd:=by
   rw[r];unfold EL;exact tv (λo0=>rfl) λo0=>rfl
  rw[<-r] at q;clear r;refine c9 rfl ?_
  (dsimp only[b7,aG,aX,aC,aE,aI,aU,fq,aH,bt,aD,aF,Qa,aJ,aB,aA,aK,eT,gM,tgl,bC,er,bD,bJ,aS];refine⟨rfl,rfl,?_⟩)
  refine g.hc (jb e S N l F D .none λy W=> ?_);rw[W.no];dsimp only[aA,bV,tgl,bC,er,bD,bJ,aB,aH,bA,fO,aL,Qa,aO,bK];generalize Ed ps R Jc p L=y at q ⊢;unfold GU at q;refine bq ?_;refine cL rfl ?_;dsimp only[CE,aC,aG,aX,aE,aI,aU,aD,aF,Qa,aJ,aB,aA,aK,bu,bt,h9,hZ];refine⟨rg S.h8,gj (λ(k:Nat)=> .int (k:Int)) (λk=> !decide (Nd.r k∈(Ea ps Jc p y).1)) (λi t=> ?_) ?_⟩
  .dsimp only[bw,cP,cj,aO,Qa,aL,aB,aA,bK];refine⟨λT Y=> ?_,λo0 K k=> ?_⟩
   .dsimp only[Ey];dsimp only[aW,bv,fz,aD,aJ,Qa,aF,aB,aA,aK,bG,CE,C2,aC,aG,aT,aE,aI,aV,ct];refine ip ?_;refine⟨by decide,?_⟩;rw[te,show DC (.tup [.str "row",.int i])=Ja (Nd.key<|.r i) from rfl,ov,n0 dY];exact Y
   .dsimp only[D0];dsimp only[aD,aJ,Qa,aF,aB,aA,aK,bu];exact k
  dsimp only[bA,aH,aL,Qa,aO,aB,aA];refine bq ?_;refine cL rfl ?_;dsimp only[CE,aC,aG,aX,aE,aI,aU,aD,aF,Qa,aJ,aB,aA,aK,bu,bt,h9,hZ];refine⟨rg S.w8,gj (λ(k:Nat)=> .int (k:Int)) (λk=> !decide (Nd.c k∈(Ea ps Jc p y).1)) (λi t=> ?_) ?_⟩
  .dsimp only[bw,cP,cj,aO,Qa,aL,aB,aA,bK];refine⟨λT Y=> ?_,λo0 K k=> ?_⟩
   .dsimp only[Ey];dsimp only[aW,bv,fz,aD,aJ,Qa,aF,aB,aA,aK,bG,CE,C2,aC,aG,aT,aE,aI,aV,ct];refine g9 ?_;refine⟨by decide,?_⟩;rw[te,show DC (.tup [.str "column",.int i])=Ja (Nd.key<|.c i) from rfl,ov,n0 dY];exact Y
   .dsimp only[D0];dsimp only[aD,aJ,Qa,aF,aB,aA,aK,bu];exact k
  dsimp only[bA,aH,aL,Qa,aO,aA,aB];refine cW ?_;dsimp only[dQ,cD,aT,c5,aV,cq,aL,Qa,aB,aA,aF,aK];rw[A]
  (dsimp only[aB];refine⟨rfl,?_⟩)
  rw[uW];dsimp only[aL,Qa,aA,aB,aF,aK,bM,aQ,aD,d5];refine aZ (dh ce (de p) D) ?_
  (dsimp only[bu];refine⟨rfl,rfl,rfl,by decide,by decide,?_⟩)
  exact g.qr q
 refine bq ?_
 (dsimp only[bG,CE,C2,aC,aG,aT,aX,aE,aI,aV,aU,bE,C8,bt,aM,bA,aH,aL,Qa,aO,aB,aA];refine⟨by decide,by decide,by decide,?_⟩)
 refine cb ?_;dsimp only[aW,bv,aM,aQ,aD,aF,Qa,aJ,aB,aA,aK];refine aZ (dh ce (de p) D) ?_;dsimp only[kl];refine cG (λE=> ?_) λE=> ?_
 .refine bq ?_;dsimp only[bG,CE,C2,aC,aG,aT,aX,aE,aI,aV,aU,aP,CD,ct,aD,aF,Qa,aJ,aB,aA,aK,d5,aS,aQ];refine aZ (dh ce (de p) D) ?_
  (dsimp only[bu,bt];refine⟨rfl,?_⟩)
  refine ip ?_;dsimp only[aH,bt,bH,ch,bL];refine g.hc<|qE (b:=Jc) (m:=h) e B.nd (by exact D8 σ U) (λy W f=>(qB<|B.val y W).1 f) ?_
  (dsimp only[aA,bk,bt];refine⟨rfl,?_⟩)
  refine g9 ?_;dsimp only[aH,bt,bH,ch,bL];refine g.hc<|qE (b:=Jd) (m:=w) e B.nd (by exact D8 σ U) (λy W f=>(qB<|B.val y W).2 f) ?_
  (dsimp only[aA,bk,bt,bA,aH,aL,Qa,aO,aB];refine⟨by decide,?_⟩)
  refine fin _ _ _ ?_;unfold EL;rw[Uc E];rfl
 .refine fin _ _ _ ?_;unfold EL;rw[Ud E];rfl
theorem jY(e:CR C G1 mg mb)(hi:1<=i)(k:Q .none Jc):aR (aN C (n+2)) "need_number" [(.int i,b)] Q X:=by
 refine e.fn dm (bl 10 rfl) rfl λl c P PX g=> ?_;dsimp only[dm];dsimp only[aY,b0,bo];refine cb ?_
 (dsimp only[cy,bv,aA,aW,cM,DP,aM,aD,aF,Qa,aK,bR,bO,aP,CD,aC,aG,aE,aI,bu,aH];refine⟨rfl,?_⟩)
 refine g.hc<|gq e ?_;dsimp only[bv];rw[Uc (show i>=0 from QQ (by decide) hi)]
 (dsimp only[cx,aB];refine⟨⟨rfl,rfl⟩,?_⟩)
 rw[Ud (λq:i=0=>by rw[q] at hi;exact absurd hi<|by decide)];exact g.qn k
def gwF(ps:List Pl)(R:Nat->Int)(x:Pl->Int)(wd:Int)(p:Pl):Bool:=decide<|Ed ps R Jc p x p-Ed ps R Jd p x p<wd
theorem sA(e:CR C G1 mg mb){ps:List Pl}{R u:Nat->Int}{x:Pl->Int}(S:Sz ps h w)(N:D7 ps xs)(l:ps.length<=64)(F:DA ps h w R u (.tab x))(D:p∈ps){wd:Int}{d V b:Bool}
  (k:Q (.bool<|gwF ps R x wd p) Jc):aR (aN C<|n+3) "Bounds.is_given_away" [(Hx ps x xs,d),(dP p,V),(.int wd,b)] Q X:=by
 refine e.fn cH (bl 52 rfl) rfl λM j P PX g=> ?_;dsimp only[cH];dsimp only[aY,b0,bo];have m:Ed ps R Jd p x p<=x p:=iz (hi:=Jd) S D _ x F;have B:x p<=Ed ps R Jc p x p:=iz (hi:=Jc) S D _ x F;unfold gwF at k;generalize Y:Ed ps R Jc p x=H at k B;generalize K:Ed ps R Jd p x=L at k m;refine bq ?_;dsimp only[aQ,aD,aF,Qa,aJ,aB,aA,aK,eI];refine aZ (qd _ _) ?_;dsimp only[d5];refine aZ (dh ce (de p) D) ?_;dsimp only[bu,bA,aH,aL,Qa,aO,aB,aA];refine bq ?_
 (dsimp only[aQ,aD,aF,Qa,aJ,aB,aA,aK,aM,b7,aG,aX,aC,aE,aI,aU,bp,bu,d4,aH,bt,eT,gM,tgl,bC,er,bD,bJ,aS];refine⟨rfl,rfl,?_⟩)
 refine g.hc (jb e S N l F D (.some _) λy W=> ?_);rw[Y] at W;dsimp only[aA,bV,tgl,bC,er,bD,bJ,aB,d6,cE,d5];refine aZ (dh ce (de p) D) ?_;dsimp only[bu,bA,aH,aL,Qa,aO,aA,aB];refine cb ?_;dsimp only[aW,bv,aD,aF,Qa,aB,aA,aK,bp,bu,eA,ru];have t:y p<=H p:=W.elim (λq=>q▸QX _) λ⟨_,_,_,q⟩=>q;refine cG (λE=> ?_) λE=> ?_
 .rw[Ud (KQ.mpr<|zgw1 E t m)] at k;refine bI ?_;dsimp only[c4,aH];exact g.qr k
 have f:y=H:=W.elim id λ⟨v,c,σ,_⟩=>absurd (sj c▸σ:x p+wd<=y p) λq=>E<|zgw2 q;subst f;refine cw ?_;refine bI ?_
 (dsimp only[aW,aH,aD,aF,Qa,aB,aA,aK,bp,aQ,aM,b7,aG,aX,aC,aE,aI,aU,bu,eA,bt,eT,gM,tgl,bC,er,bD,bJ,aS];refine⟨rfl,rfl,?_⟩)
 refine g.hc (nK e S N l F D (.some _) λz T=> ?_);rw[K] at T;dsimp only[aA,bV,tgl,bC,er,bD,bJ,aB,d6,cE,d5];refine aZ (dh ce (de p) D) ?_;dsimp only[eA,rV]
 rcases T with rfl|⟨v,c,σ,o⟩
 .exact g.qr k
 .have σ:z p<=y p-wd:=sj c▸σ;have o:L p<=z p:=o;rw[Ud (KQ.mpr<|zgw3 σ o)] at k;rw[Ud (KQ.mpr<|zgw4 σ)];exact g.qr k
end
theorem ph{f g:Pl->Bool}{x:Pl->Int}:∀ {ps:List Pl},(∀p∈ps,0<=x p)->(∀p∈ps,f p=Jc->g p=Jc\/x p=0)->CW f ps x<=CW g ps x
 |[]=>λo0 o0=>QX _
 |q::ps=>λi h=>by
  rw[dg,dg];refine Int.add_le_add ?_ (ph (λp D=>i p<|.tail _ D) λp D=>h p<|.tail _ D);have M:=i q<|.head _;have z1:=h q<|.head _
  induction j:f q with
  |false=>
   induction g q with
   |false=>exact QX _
   |true=>exact M
  |true=>
   rcases z1 j with z|z
   .rw[z];exact QX _
   .rw[z]
    induction g q with
    |false=>exact QX _
    |true=>exact QX _
section
variable{ps:List Pl}{h w:Nat}{R C:Nat->Int}{x y:Pl->Int}{hi:Bool}{p:Pl}
theorem AE(S:Sz ps h w)(F:DA ps h w R C (.tab y))(pa pb:Nat->Bool):(((Qc h).filter pa).map R).sum-(((Qc w).filter pb).map C).sum=CW (λq=>pa q.1) ps y-CW (λq=>pb q.2) ps y:=by
 have e:(((Qc h).filter pa).map R).sum=CW (λq=>decide<|q.1∈(Qc h).filter pa) ps y:=by
  rw[<-dF (f:=(·.1)) (Kr.filter _)];exact Uj Wo<|Qm λi hi=>(F.2.1 i<|Qf.mp (Qj.mp hi).1).symm
 have m:(((Qc w).filter pb).map C).sum=CW (λq=>decide<|q.2∈(Qc w).filter pb) ps y:=by
  rw[<-dF (f:=(·.2)) (Kr.filter _)];exact Uj Wo<|Qm λi hi=>(F.2.2 i<|Qf.mp (Qj.mp hi).1).symm
 rw[e,m]
 congr 1
 .refine iD λq o=> .inl ?_;rw[Kq,Ui,Qj,Qf];exact⟨λz=>z.2,λz=>⟨(S.mem q o).1,z⟩⟩
 .refine iD λq o=> .inl ?_;rw[Kq,Ui,Qj,Qf];exact⟨λz=>z.2,λz=>⟨(S.mem q o).2,z⟩⟩
theorem yA{q:Prop}[Decidable q](h:q):(!decide q)=Jd:=by rw[Uc h];rfl
theorem vu{q:Prop}[Decidable q](h:¬q):(!decide q)=Jc:=by rw[Ud h];rfl
theorem Av(S:Sz ps h w){pa pb:Nat->Bool}(N:DA ps h w R C (.no pa pb))(F:DA ps h w R C (.tab y)):False:=by
 have z:=N.2;rw[AE S F pa pb] at z;exact absurd (Int.lt_of_sub_pos z)<|KQ.mpr (ph F.1 λq o f=> .inl (N.1 q o f))
end
theorem vB(l:List Nat):D.okd 39 (Ft l)=Jc:=by rw[cU];exact b8 _ (λa=>dt _ _) _
section
variable{C:Cx}{mg mb:Jq->Option Jf}{n:Nat}{Q:D->Bool->Prop}{X:DX}
theorem wF(e:CR C G1 mg mb){r s:List Int}(R:CI c h w)(f:r.length=h)(E:s.length=w){p:Pl}(t:p∈DW c h w){pa pb:Nat->Bool}(S:pa p.1=Jc)(B:pb p.2=Jd)
  (J:∀q∈DW c h w,(hi=Jc->pb q.2=Jc->pa q.1=Jc)/\(hi=Jd->q≠p->pa q.1=Jc->pb q.2=Jc))(hv:v=(((Qc h).filter pa).map (E0 c r)).sum-(((Qc w).filter pb).map (FB c s)).sum)(k:Q (.bool Jc) Jc):
  aR (aN C<|n+4) "_law_fence" [(.tup [dC c,dI r,dI s],b),(dP p,V),(.tup [.int v,Ft<|(Qc h).filter pa,Ft ((Qc w).filter pb)],O),(.bool hi,Y)] Q X:=by
 refine e.fn C1 (bl 41 rfl) rfl λM W y PX g=> ?_;dsimp only[C1];dsimp only[aY,b0,bo];refine cb ?_
 (dsimp only[cy,bv,aA,bO,aP,CD,aC,aG,aE,aI,aQ,aM,aD,aF,Qa,aJ,aB,aK,bV,tgl,bC,cA,bM,bD,bJ,cr,eO,cE,bu,aH,aW,fw,DP,bj,bX,bR,b6,ml,aT,aV,cQ,cZ,lI,i8,cx];refine⟨rfl,rfl,⟨rfl,rfl⟩,?_⟩)
 rw[show decide (((0+1+1+1:Nat):Int)=3)=Jc from rfl]
 (dsimp only[cx,aB];refine⟨rfl,?_⟩)
 refine g.hc<|jz e ?_;dsimp only[bv,cx,aB];refine c9 rfl ?_;dsimp only[aD,aF,Qa,aJ,aB,aA,aK,bV,tgl,bC,cA,bM,bD,bJ,cr,aS,f8,gf,f0,f7,hU,gb,Cf,gN,cV,f6,gc,sR,aL,aO,bK];refine cb ?_
 (dsimp only[cy,bv,aA,bO,aP,CD,aC,aG,aE,aI,bj,bX,aH,b6,aQ,aM,aD,aF,Qa,aJ,aB,aK,jX,cE,cK,cQ,bk,aS,j6];refine⟨rfl,rfl,?_⟩)
 rw[Qd,f];refine g.hc<|iR e R.h8 ?_
 (dsimp only[bv,cx,aB];refine⟨rfl,rfl,?_⟩)
 rw[Qd,E];refine g.hc<|iR e R.w8 ?_;dsimp only[bv,cx,aB];obtain⟨p1,p2,o0⟩:=ke t;have o:∀l:List Nat,D.okds 40 (l.map λ(k:Nat)=>D.int (k:Int))=Jc:=λl=>b8 _ (λa=>dt _ _) _;have fin:∀d,CQ G1 M W (C1.b.drop 4) (Nb "_law_view_here" b (.tup [dC c,dI r,dI s])<|Nb "_law_place" V (dP p)<|Nb "_law_shut" d (.tup [.int v,Ft<|(Qc h).filter pa,Ft ((Qc w).filter pb)])<|Nb "_law_high" Y (.bool hi)<|Nb "_law_number" Jd (.int v)<|Nb "_law_rows" Jd (Ft<|(Qc h).filter pa)<|Nb "_law_columns" Jd (Ft<|(Qc w).filter pb)<|No "_law_row" Jb<|No "_law_column" Jb<|[]) y PX:=λd=>by
  dsimp only[C1,Wz];refine cb ?_;dsimp only[cy,bv,aA,aW,ky,aD,aF,Qa,aJ,aB,aK,aQ,aM,fz];refine aZ (j1 p) ?_;rw[lT];refine⟨⟨rfl,o _⟩,?_⟩;rw[iL,Uc (Qj.mpr ⟨Qf.mpr p1,S⟩)];dsimp only[cx,aB];refine aZ (jP p) ?_;rw[lT];refine⟨⟨rfl,o _⟩,?_⟩;rw[iL,Ud (λq=>by rw[(Qj.mp q).2] at B;exact ft B.symm)];dsimp only[aB];refine d7 rfl ?_
  (dsimp only[CE,aC,aG,aX,aE,aI,aU,cJ,aP,CD,aD,aF,Qa,aJ,aB,aA,aK,bV,tgl,bC,bM,bD,bJ,aS,bH,ch,bL];refine⟨rfl,?_⟩)
  refine g.hc<|on e R ?_;dsimp only[cI,aA,bk,bt,bA];refine cX dP (λo0 L=>∃u σ,L=(Nb "_law_view_here" b (.tup [dC c,dI r,dI s])<|Nb "_law_place" V (dP p)<|Nb "_law_shut" d (.tup [.int v,Ft<|(Qc h).filter pa,Ft ((Qc w).filter pb)])<|Nb "_law_high" Y (.bool hi)<|Nb "_law_number" Jd (.int v)<|Nb "_law_rows" Jd (Ft<|(Qc h).filter pa)<|Nb "_law_columns" Jd (Ft<|(Qc w).filter pb)<|No "_law_row" u<|No "_law_column" σ<|[])) _ _ ⟨_,_,rfl⟩ ?_ ?_
  .rintro j q L x ⟨u,σ,rfl⟩ K m;have x:=QC x;obtain⟨I,G,o0⟩:=ke x;obtain⟨F,i⟩:=J q x;dsimp only[dP];dsimp only[hU,bC,cA,bD,cr,fO,aL,Qa,aO,aB,aA,bK];have A:decide (q.1∈(Qc h).filter pa)=pa q.1:=by
    rw[Kq,Ui,Qj,Qf];exact⟨λz=>z.2,λz=>⟨I,z⟩⟩
   have P:decide (q.2∈(Qc w).filter pb)=pb q.2:=by
    rw[Kq,Ui,Qj,Qf];exact⟨λz=>z.2,λz=>⟨G,z⟩⟩
   have m:=m _ ⟨Ja (.int q.1,Jc),Ja (.int q.2,Jc),rfl⟩;refine cb ?_;dsimp only[cp,aW,bv,fz,aD,aF,Qa,aB,aA,aK,ky];refine jx (λU=> ?_) λU=> ?_
   .subst U;rw[lT];refine⟨⟨rfl,o _⟩,?_⟩;rw[iL,P];refine jx (λH=> ?_) λH=> ?_
    .rw[lT];refine⟨⟨rfl,o _⟩,?_⟩;rw[iL,A,F rfl H];dsimp only[cx,aB];refine cb ?_;dsimp only[cp,aW,bv,fw,DP,aD,aF,Qa,aB,aA,aK,bG,CE,C2,aC,aG,aT,aE,aI,aV,fz,ky,bO,cx];exact m
    .refine cb ?_;dsimp only[cp,aW,bv,fw,DP,aD,aF,Qa,aB,aA,aK,bG,CE,C2,aC,aG,aT,aE,aI,aV,fz,ky,bO,cx];exact m
   .subst U;refine cb ?_;dsimp only[cp,aW,bv,fw,DP,aD,aF,Qa,aB,aA,aK,bG,CE,C2,aC,aG,aT,aE,aI,aV,fz,ky,bO,lU];rw[lT];refine⟨⟨rfl,o _⟩,?_⟩;rw[iL,A];refine jx (λT=> ?_) λT=> ?_
    .rw[lT];refine⟨⟨rfl,o _⟩,?_⟩;rw[iL,P];refine lQ (λH=> ?_) λH=> ?_
     .exact m
     .have N:q=p:=Classical.byContradiction λz=>by rw[i rfl z T] at H;exact ft H.symm
      refine⟨by decide,⟨rfl,rfl⟩,?_⟩;rw[show D.eqv (D.tup [.int (q.1:Int),.int (q.2:Int)]) (D.tup [.int (p.1:Int),.int (p.2:Int)])=decide (q=p) from iu q p,Uc N];dsimp only[cx,aB];exact m
    .exact m
  .rintro L ⟨u,σ,rfl⟩;refine ia ?_;refine bI ?_
   (dsimp only[aW,aH,cM,DP,aP,CD,aC,aG,aE,aI,aD,aF,Qa,aJ,aB,aA,aK,bk,aS,bV,tgl,bC,bM,bD,bJ];refine⟨rfl,?_⟩)
   refine g.hc<|BB e R f E (λa T=>Qf.mp (Qj.mp T).1) (λa T=>Qf.mp (Qj.mp T).1) ?_
   (dsimp only[bR];refine⟨⟨rfl,rfl⟩,?_⟩)
   rw[Uc hv];exact g.qr k
 refine cb ?_;dsimp only[cp,aW,bv,cM,DP,bG,CE,C2,aC,aG,aT,aE,aI,aV,bE,C8,aM,aD,aF,Qa,aJ,aB,aA,aK,bO];refine lQ (λU=>fin _) λU=> ?_;refine⟨by decide,by decide,by decide,?_⟩;refine⟨⟨?_,rfl⟩,?_⟩
 .rw[iU,cg,cg,cg,tu,dt,vB,vB];rfl
 refine jx (λU=> ?_) λU=>fin _;refine bI ?_;dsimp only[c4,aH];exact g.qr k
theorem uU(e:CR C G1 mg mb){r s:List Int}(R:CI c h w)(T:r.length=h)(E:s.length=w){d:D}(k:Q (.bool Jc) Jc):
  aR (aN C<|n+4) "_law_fence" [(.tup [dC c,dI r,dI s],b),(d,V),(.tup [.int 0,.list [],.list []],W),(.bool Jd,U)] Q X:=by
 refine e.fn C1 (bl 41 rfl) rfl λl u P PX g=> ?_;dsimp only[C1];dsimp only[aY,b0,bo];have nil:∀m,D.list []=Ft ((Qc m).filter λo0=>Jd):=λm=>by rw[Wy.mpr λo0 o0=>QB];rfl
 refine cb ?_
 (dsimp only[cy,bv,aA,bO,aP,CD,aC,aG,aE,aI,aQ,aM,aD,aF,Qa,aJ,aB,aK,bV,tgl,bC,cA,bM,bD,bJ,cr,eO,cE,bu,aH,aW,fw,DP,bj,bX,bR,b6,ml,aT,aV,cQ,cZ,lI,i8,cx];refine⟨rfl,rfl,⟨rfl,rfl⟩,?_⟩)
 rw[show decide (((0+1+1+1:Nat):Int)=3)=Jc from rfl]
 (dsimp only[cx,aB];refine⟨rfl,?_⟩)
 refine g.hc<|jz e ?_;dsimp only[bv,cx,aB];refine c9 rfl ?_;dsimp only[aD,aF,Qa,aJ,aB,aA,aK,bV,tgl,bC,cA,bM,bD,bJ,cr,aS,f8,gf,f0,f7,hU,gb,Cf,gN,cV,f6,gc,sR,aL,aO,bK];refine cb ?_
 (dsimp only[cy,bv,aA,bO,aP,CD,aC,aG,aE,aI,bj,bX,aH,b6,aQ,aM,aD,aF,Qa,aJ,aB,aK,jX,cE,cK,cQ,bk,aS,j6];refine⟨rfl,rfl,?_⟩)
 rw[Qd,T];have N:∀ (R:D->Bool->Prop) (Y:DX),R (.bool Jc) Jc->aR (aN C<|n+3) "_law_numbers" [(D.list [],Jd),(.int h,Jc)] R Y:=λt Y q=>by
  rw[nil h];exact iR e R.h8 q
 have σ:∀ (R:D->Bool->Prop) (Y:DX),R (.bool Jc) Jc->aR (aN C<|n+3) "_law_numbers" [(D.list [],Jd),(.int w,Jc)] R Y:=λt Y q=>by
  rw[nil w];exact iR e R.w8 q
 refine g.hc<|N _ _ ?_
 (dsimp only[bv,cx,aB];refine⟨rfl,rfl,?_⟩)
 rw[Qd,E];refine g.hc<|σ _ _ ?_;dsimp only[bv,cx,aB];refine cb ?_
 (dsimp only[cp,aW,bv,cM,DP,bG,CE,C2,aC,aG,aT,aE,aI,aV,bE,C8,aM,aD,aF,Qa,aJ,aB,aA,aK,bO,lU];refine⟨by decide,by decide,by decide,⟨rfl,rfl⟩,?_⟩)
 rw[bZ];dsimp only[aA];refine bI ?_;dsimp only[c4,aH];exact g.qr k
end
inductive FnK(c:List (List (Option Int)))(r s:List Int)(h w:Nat)(p:Pl)(v:Int):Bool->D->Prop
 |zero (e0:v=0):FnK c r s h w p v Jd (.tup [.int 0,.list [],.list []])
 |cut {hi:Bool} {pa pb:Nat->Bool} (h1:pa p.1=Jc) (h2:pb p.2=Jd)
  (hcl:∀q∈DW c h w,(hi=Jc->pb q.2=Jc->pa q.1=Jc)/\(hi=Jd->q≠p->pa q.1=Jc->pb q.2=Jc)) (hv:v=(((Qc h).filter pa).map (E0 c r)).sum-(((Qc w).filter pb).map (FB c s)).sum):
  FnK c r s h w p v hi (.tup [.int v,Ft<|(Qc h).filter pa,Ft ((Qc w).filter pb)])
section
variable{c:List (List (Option Int))}{r s:List Int}{h w:Nat}{p:Pl}{v:Int}{hi:Bool}{d:D}
theorem FnK.shape(k:FnK c r s h w p v hi d):∃A B,d= .tup [.int v,Ft A,Ft B]/\A.length<=h:=by
 induction k with
 |zero e=>subst e;exact⟨[],[],rfl,QS _⟩
 |cut=>exact⟨_,_,rfl,Qq (KY _ _)<|QV QA⟩
theorem lowK{x:Pl->Int}(V:H7 c r s h w)(D:p∈DW c h w)(F:DA (DW c h w) h w (E0 c r) (FB c s) (.tab x))(E:¬ (Fq Jd p∈(Ea (DW c h w) Jd p x).1/\(Jd=Jd->x p≠0))):FnK c r s h w p (x p) Jd (EL (DW c h w) h w p x):=by
 have S:=i5 V.R;unfold EL;by_cases i:x p>0
 .rw[Uc i];obtain⟨b,σ⟩:=t3 (hi:=Jd) S F D;have O:Nd.c p.2∉(Ea (DW c h w) Jd p x).1:=λq=>E ⟨q,λo0 z=>by rw[z] at i;exact absurd i<|Int.lt_irrefl 0⟩;refine .cut (Uc b) (Ud O) (λq o=>⟨λz=>ft z,λo0 e z=>Uc<|(σ q o e).1 (Ue z)⟩) ?_;exact ud S F D (λq o e=>(σ q o e).2) (Uc b)<|decide_eq_false O
 .rw[Ud i];exact .zero<|WY (KQ.mp i) (F.1 p D)
theorem higK{x:Pl->Int}(V:H7 c r s h w)(D:p∈DW c h w)(F:DA (DW c h w) h w (E0 c r) (FB c s) (.tab x))(E:¬ (Fq Jc p∈(Ea (DW c h w) Jc p x).1/\(Jc=Jd->x p≠0))):FnK c r s h w p (x p) Jc (GU (DW c h w) h w p x):=by
 have S:=i5 V.R;obtain⟨b,σ⟩:=t3 (hi:=Jc) S F D;have O:Nd.r p.1∉(Ea (DW c h w) Jc p x).1:=λq=>E ⟨q,λz=>tf z⟩;have T:=yA (q:=Nd.c p.2∈(Ea (DW c h w) Jc p x).1) b;refine .cut (vu O) T (λq o=>⟨λo0 z=> ?_,λz=>tf z⟩) ?_
 .by_cases e:q=p
  .subst e;rw[T] at z;exact ft z
  .refine vu λy=> ?_;rw[yA ((σ q o e).1 y)] at z;exact ft z
 .exact ud S F D (λq o e=>(σ q o e).2.imp (λz=>Uj (!·) z) id) (vu O) T
end
section
variable{C:Cx}{mg mb:Jq->Option Jf}{n:Nat}{Q:D->Bool->Prop}{X:DX}
theorem pq(e:CR C G1 mg mb)(V:H7 c r s h w)(K:p∈DW c h w){d:D}(z:FnK c r s h w p v hi d)(k:Q (.bool Jc) Jc):
  aR (aN C<|n+4) "_law_fence" [(.tup [dC c,dI r,dI s],b),(dP p,H),(d,W),(.bool hi,Y)] Q X:=by
 induction z with
 |zero u=>exact uU e V.R V.hr V.hs k
 |cut N B l hv=>exact wF e V.R V.hr V.hs K N B l hv k
end
def cT(t:List (List Int))(h w:Nat)(g:Pl->Bool):List (List (Option Int)):=Dt t (λa b=>g (a,b)) h w
def PS(h w:Nat)(g:Pl->Bool):List Pl:=(Eh h w).filter g
def xT(t:List (List Int))(p:Pl):Int:=cell t p.1 p.2
theorem BA{g:Pl->Bool}(T:a<h)(R:b<w):cO (cT t h w g) a b=EG t (λa b=>g (a,b)) a b:=by
 rw[cO,cT,Dt,kv _ T,fW _ R]
theorem rD{g:Pl->Bool}(T:a<h)(R:b<w):(!(cO (cT t h w g) a b).isSome)=g (a,b):=by
 rw[BA T R];show(!(cond (g (a,b)) Jb<|Ja (cell t a b)).isSome)=g (a,b);cases g (a,b)<;>rfl
theorem jF(t:List (List Int))(h w:Nat)(g:Pl->Bool):DW (cT t h w g) h w=PS h w g:=
 Yl λp D=>rD (Dk.mp D).1 (Dk.mp D).2
theorem DK{g:Pl->Bool}{p:Pl}:p∈PS h w g↔(p.1<h/\p.2<w)/\g p=Jc:=by rw[PS,Qj,Dk]
section
variable{t:List (List Int)}{h w:Nat}{g g':Pl->Bool}
theorem Bt{x:Pl->Int}(T:a<h)(R:b<w):hx (cT t h w g) x a b=cond (g (a,b)) (x (a,b)) 0:=by
 rw[hx,rD T R];cases g (a,b)<;>rfl
theorem vokT(R:CI t h w)(N:NN t)(g:Pl->Bool):H7 (cT t h w g) (Gb t) (FM t w) h w:=vok R N _
abbrev RT(t:List (List Int))(h w:Nat)(g:Pl->Bool):Nat->Int:=E0 (cT t h w g)<|Gb t
abbrev CT(t:List (List Int))(h w:Nat)(g:Pl->Bool):Nat->Int:=FB (cT t h w g)<|FM t w
theorem rowT(x:Pl->Int)(T:a<h):Gu (PS h w g) x a=((Qc w).map λb=>cond (g (a,b)) (x (a,b)) 0).sum:=by
 rw[<-jF [],wI T];exact Uj Wo<|Qm λb R=>Bt T<|Qf.mp R
theorem colT(x:Pl->Int)(R:b<w):GJ (PS h w g) x b=((Qc h).map λa=>cond (g (a,b)) (x (a,b)) 0).sum:=by
 rw[<-jF [],wA R];exact Uj Wo<|Qm λa T=>Bt (Qf.mp T) R
theorem B8(R:CI t h w)(N:NN t){p:Pl}(D:p.1<h/\p.2<w):0<=xT t p:=(lz R).mp N p.1 p.2 D.1 D.2
theorem HY(R:CI t h w)(N:NN t)(g:Pl->Bool):DA (PS h w g) h w (RT t h w g) (CT t h w g) (.tab (xT t)):=
 ⟨λp D=>B8 R N (DK.mp D).1,λi V=>(rowT _ V).trans (um R (λa b=>g (a,b)) V).symm,λj H=>(colT _ H).trans (t9 R (λa b=>g (a,b)) H).symm⟩
theorem szT(R:CI t h w)(g:Pl->Bool):Sz (PS h w g) h w:=by
 rw[<-jF t];exact i5<|CI.range _ R.h1 R.h8 R.w1 R.w8
abbrev Hu(t:List (List Int))(h w:Nat)(g:Pl->Bool)(hi:Bool)(p:Pl):Pl->Int:=Ed (PS h w g) (RT t h w g) hi p<|xT t
theorem rF(R:CI t h w)(N:NN t)(D:p∈PS h w g)(hi:Bool):DA (PS h w g) h w (RT t h w g) (CT t h w g) (.tab (Hu t h w g hi p))/\¬ (Fq hi p∈(Ea (PS h w g) hi p (Hu t h w g hi p)).1/\(hi=Jd->Hu t h w g hi p p≠0)):=
 ut (szT R g) D _ _ (HY R N g) (QN _)
def GV(t:List (List Int))(h w:Nat)(wd:Int)(g:Pl->Bool)(p:Pl):Bool:=gwF (PS h w g) (RT t h w g) (xT t) wd p
end
def EZ(t:List (List Int))(bd:Int)(p:Pl):Bool:=decide (1<=xT t p)&&decide (xT t p<=bd)
noncomputable def Gc(g:Pl->Bool)(q:Pl)(p:Pl):Bool:=g p&& !decide (p=q)
theorem nA(h w:Nat)(g:Pl->Bool)(q:Pl):PS h w (Gc g q)=(PS h w g).filter λp=> !decide (p=q):=by
 rw[PS,PS,Wv];exact Yl λp o0=>Bool.and_comm _ _
section
variable(t:List (List Int))(h w:Nat)(wd bd:Int)
def GD(g:Pl->Bool):Option Pl:=(PS h w g).find? (GV t h w wd g)
noncomputable def DT:Nat->(Pl->Bool)->Option (Pl->Bool)×List ((Pl->Bool)×Pl)
 |0,g=>(Jb,[])
 |k+1,g=>match GD t h w wd g with
  |none=>(Ja g,[])
  |some q=>cond (EZ t bd q) (Jb,[(g,q)]) ((DT k<|Gc g q).1,(g,q)::(DT k<|Gc g q).2)
inductive EO:(Pl->Bool)->List ((Pl->Bool)×Pl)->Option (Pl->Bool)->Prop
 |stop {g:Pl->Bool} (s:∀p∈PS h w g,GV t h w wd g p=Jd):EO g [] (Ja g)
 |hit {g:Pl->Bool} {q:Pl} (m:q∈PS h w g) (v:GV t h w wd g q=Jc) (s:EZ t bd q=Jc):EO g [(g,q)] Option.none
 |go {g:Pl->Bool} {q:Pl} {l:List ((Pl->Bool)×Pl)} {r:Option (Pl->Bool)} (m:q∈PS h w g) (v:GV t h w wd g q=Jc) (s:EZ t bd q=Jd) (n:EO (Gc g q) l r):EO g ((g,q)::l) r
end
section
variable{t:List (List Int)}{h w:Nat}{wd bd:Int}
theorem jQ{g:Pl->Bool}(e:GD t h w wd g=Jb):DT t h w wd bd (k+1) g=(Ja g,[]):=by rw[DT,e]
theorem k7{g:Pl->Bool}(e:GD t h w wd g=Ja q)(s:EZ t bd q=Jc):DT t h w wd bd (k+1) g=(Jb,[(g,q)]):=by rw[DT,e];dsimp only;rw[s];rfl
theorem nM{g:Pl->Bool}(e:GD t h w wd g=Ja q)(s:EZ t bd q=Jd):DT t h w wd bd (k+1) g=((DT t h w wd bd k (Gc g q)).1,(g,q)::(DT t h w wd bd k (Gc g q)).2):=by rw[DT,e];dsimp only;rw[s];rfl
theorem pQ{g:Pl->Bool}(e:GD t h w wd g=Ja q):q∈PS h w g/\GV t h w wd g q=Jc:=⟨Wm e,Yx e⟩
theorem rA{g:Pl->Bool}(m:q∈PS h w g):(PS h w (Gc g q)).length<(PS h w g).length:=by
 rw[nA];refine List.length_filter_lt_length_iff_exists.mpr ⟨q,m,?_⟩;rw[Uc rfl];exact QB
theorem mh:∀ (k:Nat) (g:Pl->Bool),(PS h w g).length<k->EO t h w wd bd g (DT t h w wd bd k g).2 (DT t h w wd bd k g).1
 |0=>λg M=>absurd M<|Wd _
 |k+1=>λg M=>by
  induction e:GD t h w wd g with
  |none=>rw[jQ e];exact .stop λp D=>WF.mpr<|List.find?_eq_none.mp e p D
  |some q=>
   obtain⟨m,v⟩:=pQ e
   induction s:EZ t bd q with
   |true=>rw[k7 e s];exact .hit m v s
   |false=>rw[nM e s];exact .go m v s<|mh k (Gc g q) (QJ (rA m)<|We M)
theorem nj(h w:Nat)(y:h<=8)(T:w<=8)(g:Pl->Bool):(PS h w g).length<65:=by
 have:(Eh h w).length<=64:=by rw[jo];exact Yi y T
 exact Nat.lt_succ_of_le<|Qq (KY _ _) this
abbrev D9(t:List (List Int))(h w:Nat)(wd bd:Int)(g:Pl->Bool):Option (Pl->Bool)×List ((Pl->Bool)×Pl):=DT t h w wd bd 65 g
theorem xO(R:CI t h w)(g:Pl->Bool):EO t h w wd bd g (D9 t h w wd bd g).2 (D9 t h w wd bd g).1:=mh 65 g<|nj h w R.h8 R.w8 g
noncomputable def fewO(g:Pl->Bool):Option (Pl->Bool)->Pl->Bool
 |some S=>S
 |none=>g
def GF(t:List (List Int))(h w:Nat)(wd bd:Int)(g:Pl->Bool)(p:Pl):Pl->Bool:=cond (g p&& !EZ t bd p) (fewO g (D9 t h w wd bd<|Gc g p).1) g
end
theorem tE(t:List (List Int)):dT t=dC (t.map λr=>r.map Ja):=by
 show D.list _=D.list (Kz _<|Kz _ _);rw[QE];refine Uj D.list (Qm λr o0=> ?_);show D.list _=D.list (Kz _<|Kz _ _);rw[QE];rfl
theorem CI.some{t:List (List Int)}(R:CI t h w):CI (t.map λr=>r.map Ja) h w:=
 ⟨by rw[Qd];exact R.len,λr T=>by obtain⟨q,o,rfl⟩:=Ql.mp T;rw[Qd];exact R.row q o,R.h1,R.h8,R.w1,R.w8⟩
theorem xB{t:List (List Int)}(R:CI t h w)(T:a<h)(v:b<w):cO (t.map λr=>r.map Ja) a b=Ja (cell t a b):=by
 have e:CK (t.map λr=>r.map Ja) a=(CK t a).map Ja:=by rw[CK,Qu,(R.at_ T).1];rfl
 rw[cO,e,Qu,cell];rw[Qg (by rw[(R.at_ T).2];exact v)];rfl
def hdF(c:List (List (Option Int)))(ps:List Pl):List (List (Option Int)):=ps.foldl (λt p=>setG t p.1 p.2 Jb) c
theorem tx:∀ {ps:List Pl} {c:List (List (Option Int))},CI c h w->(∀p∈ps,p.1<h/\p.2<w)->CI (hdF c ps) h w/\∀a b,cO (hdF c ps) a b=if(a,b)∈ps then Jb else cO c a b
 |[]=>λR o0=>⟨R,λa b=>rfl⟩
 |p::ps=>λR D=>by
  obtain⟨o,r⟩:=D p<|.head _;obtain⟨N,Y⟩:=tx (ps:=ps) (R.setG (j:=p.2) (v:=Jb) o) λq m=>D q<|.tail _ m;refine⟨N,λa b=>(Y a b).trans ?_⟩;rw[tT R o r];by_cases q:(a,b)∈ps
  .rw[Ug q,Ug (.tail _ q)]
  .rw[Uf q];by_cases z:(a,b)=p
   .rw[Ug z,Ug (z▸ .head _)]
   .rw[Uf z,Uf λy=>(Qw.mp y).elim z q]
theorem Ci{t:List (List Int)}(R:CI t h w)(g:Pl->Bool):hdF (t.map λr=>r.map Ja) (PS h w g)=cT t h w g:=by
 obtain⟨N,Y⟩:=tx R.some (ps:=PS h w g) λp D=>(DK.mp D).1;rw[qU N];refine Qm λa T=>Qm λb v=> ?_;have T:=Qf.mp T;have v:=Qf.mp v;rw[Y,xB R T v];show _=cond (g (a,b)) Jb (Ja<|cell t a b)
 induction q:g (a,b) with
 |true=>rw[Ug (DK.mpr ⟨⟨T,v⟩,q⟩)];rfl
 |false=>rw[Uf λz=>by rw[(DK.mp z).2] at q;exact tf q];rfl
section
variable{C:Cx}{mg mb:Jq->Option Jf}{n:Nat}{Q:D->Bool->Prop}{X:DX}
theorem w5(e:CR C G1 mg mb)(R:CI t h w)(k:Q (.bool Jc) Jc):aR (aN C (n+1)) "is_grid" [(dT t,b)] Q X:=by
 rw[tE];exact rO e R.some k
theorem ur(e:CR C G1 mg mb){r:List Int}(k:Q (.bool (r.all λi=>decide (i>=0))) Jc):aR (aN C (n+2)) "are_counts" [(dI r,b)] Q X:=by
 refine e.fn fD (bl 7 rfl) rfl λl c P PX g=> ?_;dsimp only[fD];dsimp only[aY,b0,bo];refine bI ?_
 (dsimp only[bj,ik,aH,aC,aE,b6];refine⟨rfl,?_⟩)
 refine ca rfl ?_;dsimp only[CE,dl,aC,aG,aX,aE,aI,aU,cJ,aD,aF,Qa,aA,aK,bk,bH,cI];refine bN D.int (λi=> .bool (decide<|i>=0)) (λi h K k=> ?_) ?_
 .dsimp only[bw,cP,cj,aO,Qa,aL,aB,aA,bK];dsimp only[D0]
  (dsimp only[aP,CD,aC,aG,aX,aE,aI,aU,aD,aJ,Qa,aF,aB,aA,aK,bu,aH,bt,bH];refine⟨rfl,?_⟩)
  exact g.hc<|gq e k
 .refine jy (ew _ _) ?_;rw[i9];exact g.qr k
theorem xh(e:CR C G1 mg mb)(R:CI t h w)(N:NN t)(k:Q (.bool Jc) Jc):aR (aN C (n+3)) "is_table" [(dT t,b)] Q X:=by
 refine e.fn e9 (bl 8 rfl) rfl λc u P PX g=> ?_;dsimp only[e9];dsimp only[aY,b0,bo];refine bI ?_
 (dsimp only[cp,bj,ik,aH,aC,aE,b6,aP,CD,aG,aI,aD,aF,Qa,aA,aK,bk,aS];refine⟨rfl,?_⟩)
 refine g.hc<|w5 e R ?_
 (dsimp only[bv,aA];refine⟨rfl,?_⟩)
 refine ca rfl ?_;dsimp only[CE,dl,aC,aG,aX,aE,aI,aU,cJ,aD,aF,Qa,aA,aK,bk,bH,cI];refine bN dI (λr=> .bool (r.all λi=>decide<|i>=0)) (λr T K k=> ?_) ?_
 .dsimp only[bw,cP,cj,aO,Qa,aL,aB,aA,bK];dsimp only[D0]
  (dsimp only[aP,CD,aC,aG,aX,aE,aI,aU,aD,aJ,Qa,aF,aB,aA,aK,bk,aS,bH,ch,bL];refine⟨rfl,?_⟩)
  exact g.hc<|ur e k
 .refine jy (ew _ _) ?_;rw[i9,Qx.mpr λr T=>Qx.mpr λi V=>Uc (N r T i V)];exact g.qr k
theorem vY(e:CR C G1 mg mb)(R:CI t h w)(N:NN t)(k:Q .none Jc):aR (aN C (n+4)) "need_table" [(dT t,b)] Q X:=by
 refine e.fn dX (bl 9 rfl) rfl λl c P PX g=> ?_;dsimp only[dX];dsimp only[aY,b0,bo];refine cb ?_
 (dsimp only[bO,bv,aP,CD,aC,aG,aE,aI,aD,aF,Qa,aA,aK,bk,aS];refine⟨rfl,?_⟩)
 refine g.hc<|xh e R N ?_;dsimp only[bv,cx,aB];exact g.qn k
theorem AK(e:CR C G1 mg mb)(R:CI t h w)(k:Q (.tup [dI (Gb t),dI (FM t w)]) Jc):aR (aN C (n+1)) "sums_of" [(dT t,b)] Q X:=by
 refine e.fn iY (bl 11 rfl) rfl λl u P PX g=> ?_;dsimp only[iY];dsimp only[aY,b0,bo];have d:=R.w8;refine bq ?_;refine ca rfl ?_
 (dsimp only[CE,aC,aG,aX,aE,aI,aU,bj,bX,bt,h9,hZ,b6,aQ,aM,aD,aF,Qa,aJ,aB,aA,aK];refine⟨rfl,?_⟩)
 refine aZ (iw R) ?_;dsimp only[cK,cQ];rw[R.len0];refine⟨⟨by exact HA _,by exact Fh d⟩,c7 (λ(c:Nat)=> .int ((t.map λr=>r[c]?.getD 0).sum)) (λc σ K k=> ?_) ?_⟩
 .dsimp only[bw,cP,cj,aO,Qa,aL,aB,aA,bK];dsimp only[D0]
  (dsimp only[bj,gF,aC,aE,b6];refine⟨rfl,?_⟩)
  refine ca rfl ?_;dsimp only[CE,dl,aC,aG,aX,aE,aI,aU,cJ,aD,aJ,Qa,aF,aB,aA,aK,bk,bH,cI];refine bN dI (λr=> .int (r[c]?.getD 0)) (λr T K k=> ?_) ?_
  .dsimp only[bw,cP,cj,aO,Qa,aL,aB,aA,bK];dsimp only[D0];dsimp only[aQ,aD,aJ,Qa,aF,aB,aA,aK,bk];refine aZ (gJ<|by rw[R.row r T];exact σ) ?_;exact k
  .refine fX (eD _ _) ?_;exact k
 .dsimp only[bA,aH,aL,Qa,aO,aA,aB];refine cW ?_;dsimp only[dQ,cD,aT,c5,aV,cq,lE,aL,Qa,aA,aB,aF,aK,bM];refine ca rfl ?_;dsimp only[CE,aC,aG,aX,aE,aI,aU,cJ,aD,aF,Qa,aB,aA,aK,bk,bH,cI];refine bN dI (λr=> .int r.sum) (λr T K k=> ?_) ?_
  .dsimp only[bw,cP,cj,aO,Qa,aL,aB,aA,bK];dsimp only[D0]
   (dsimp only[bj,gF,aC,aE,b6,aD,aJ,Qa,aF,aB,aA,aK,dl];refine⟨rfl,?_⟩)
   refine fX (eH _) ?_;exact k
  .refine⟨rfl,rfl,by decide,?_⟩;rw[Gb,FM,dI,dI,QE,QE] at k;exact g.qr k
theorem l4(e:CR C G1 mg mb)(R:CI t h w)(k:Q (.list ((Eh h w).map dP)) Jc):aR (aN C (n+1)) "places_of" [(dT t,b)] Q X:=by
 rw[tE];exact lL e R.some k
theorem wW(e:CR C G1 mg mb)(R:CI t h w){p:Pl}(D:p.1<h/\p.2<w){d V b:Bool}(k:Q (.bool (EZ t bd p)) Jc):aR (aN C (n+1)) "is_small" [(dT t,d),(dP p,V),(.int bd,b)] Q X:=by
 refine e.fn hJ (bl 13 rfl) rfl λc u P PX g=> ?_;dsimp only[hJ];dsimp only[aY,b0,bo];refine bI ?_;dsimp only[ir,aH,aD,aF,Qa,aA,aB,aK,aQ,aM];refine aZ (j1 p) ?_;refine aZ (hA R D.1) ?_;refine aZ (jP p) ?_;refine aZ (im R D.1 D.2) ?_;dsimp only[ko];have k:Q (.bool<|decide (1<=cell t p.1 p.2)&&decide (cell t p.1 p.2<=bd)) Jc:=k;refine cG (λN=> ?_) λN=> ?_
 .rw[Uc N] at k;exact g.qr k
 .rw[Ud N] at k;exact g.qr k
theorem Ad(e:CR C G1 mg mb)(R:CI t h w)(g:Pl->Bool)(k:Q (.tup [dC (cT t h w g),dI (Gb t),dI (FM t w)]) Jd):aR (aN C (n+2)) "seen" [(dT t,b),(.list ((PS h w g).map dP),G)] Q X:=by
 refine e.fn nL (bl 19 rfl) rfl λl f P PX z=> ?_;dsimp only[nL];dsimp only[aY,b0,bo];rw[<-Ci R g] at k;have U:∀p∈PS h w g,p.1<h/\p.2<w:=λp U=>(DK.mp U).1;generalize PS h w g=s at U k ⊢;refine bq ?_;refine ca rfl ?_;dsimp only[CE,aC,aG,aX,aE,aI,aU,cJ,aD,aF,Qa,aJ,aB,aA,aK,bk,bH,cI];refine bN dI dI (λr E K k=> ?_) ?_
 .dsimp only[bw,cP,cj,aO,Qa,aL,aB,aA,bK];dsimp only[D0]
  (dsimp only[bj,fj,aC,aE,b6,aD,aJ,Qa,aF,aB,aA,aK,bk,sU,tgl];refine⟨rfl,?_⟩)
  rw[c6 _ o8];exact k
 dsimp only[bA,aH,aL,Qa,aO,aB,aA];refine d7 rfl ?_;dsimp only[CE,aC,aG,aX,aE,aI,aU,cJ,aD,aF,Qa,aJ,aB,aA,aK,bk,bH,f8,gf,f0,f7,bM,bJ,gb,gN,cV,f6,gc,cI];rw[show D.list (t.map dI)=dC (t.map λr=>r.map Ja) from tE t];refine cX dP (λi L=>∃u v F σ,L=(Nb "table" F (dT t)<|Nb "places" σ (.list<|s.map dP)<|Nb "cells" Jc (dC<|hdF (t.map λr=>r.map Ja) (s.take i))<|No "row" u<|No "column" v<|No "sums" Jb<|[])) _ _ ⟨_,_,_,_,rfl⟩ ?_ ?_
 .rintro j p L H ⟨u,v,F,σ,rfl⟩ K m;obtain⟨T,o0⟩:=tx (ps:=s.take j) R.some λq o=>U q<|Yu o;rw[show hdF (t.map λr=>r.map Ja) (s.take<|j+1)=setG (hdF (t.map λr=>r.map Ja)<|s.take j) p.1 p.2 Jb from gO _ _ H] at m;generalize hdF (t.map λr=>r.map Ja) (s.take j)=c at T m ⊢;obtain⟨I,J⟩:=U p<|QC H;dsimp only[dP];dsimp only[hU,bC,cA,bD,cr,fO,aL,Qa,aO,aB,aA,bK];refine tc (i:=p.1) (j:=p.2) (v:=Jb) T rfl I J (λQ q=>⟨rfl,q⟩) (λQ X q=> ?_) (λQ X q=> ?_) ?_
  .dsimp only[aD,aF,Qa,aJ,aB,aA,aK,bu];exact q
  .dsimp only[aD,aF,Qa,aJ,aB,aA,aK,bu];exact q
  .dsimp only[aL,Qa,aO,aB,aA];exact m _ ⟨Ja (.int p.1,Jc),Ja (.int p.2,Jc),_,_,rfl⟩
 .rintro L ⟨u,v,F,σ,rfl⟩;rw[Kh];refine ia ?_;refine bq ?_
  (dsimp only[aP,CD,aC,aG,aX,aE,aI,aU,aD,aF,Qa,aJ,aB,aA,aK,bk,aS,bH,ch,bL];refine⟨rfl,?_⟩)
  refine z.hc<|AK e R ?_;dsimp only[aA,bV,tgl,bC,bM,bD,bJ,aB,bA,aH,aL,Qa,aO];refine bI ?_
  (dsimp only[bG,CE,C2,aC,aG,aT,aX,aE,aI,aV,aU,aQ,aM,aD,aF,Qa,aJ,aA,aB,aK,bV,tgl,bC,bM,bD,bJ,eN,cE,bk,bH,d6,ch,em,bL,aS];refine⟨by decide,?_⟩)
  exact z.qr k
end
abbrev dH(t:List (List Int))(bd wd:Int):D:= .inst "Hider" [dT t,.int bd,.int wd]
theorem mX(a b c:D):Fr G1 "table" (.inst "Hider" [a,b,c])=Ja a:=rfl
theorem AX(a b c:D):Fr G1 "bound" (.inst "Hider" [a,b,c])=Ja b:=rfl
theorem Bj(a b c:D):Fr G1 "width" (.inst "Hider" [a,b,c])=Ja c:=rfl
def dGo:Option Pl->D
 |some q=>dP q
 |none=> .none
def dOp(h w:Nat):Option (Pl->Bool)->D
 |some S=> .list ((PS h w S).map dP)
 |none=> .none
def En(t:List (List Int))(h w:Nat)(x:(Pl->Bool)×Pl):D:= .tup [dP x.2,EL (PS h w x.1) h w x.2<|Hu t h w x.1 Jd x.2,GU (PS h w x.1) h w x.2 (Hu t h w x.1 Jc x.2)]
abbrev Dv(t:List (List Int))(h w:Nat)(l:List ((Pl->Bool)×Pl)):D:= .list (l.map<|En t h w)
theorem rt:D.isNone .none=Jc:=rfl
theorem yx(q:Pl):D.isNone (dP q)=Jd:=rfl
theorem qC(ps:List Pl)(h w:Nat)(p:Pl)(x:Pl->Int):D.atom (EL ps h w p x)=Jd:=by
 unfold EL;cases decide (x p>0)<;>rfl
theorem zS(ps:List Pl)(h w:Nat)(p:Pl)(x:Pl->Int):D.atom (GU ps h w p x)=Jd:=rfl
theorem AQ{L u:Type}[DecidableEq L](g:L->u)(x:L):upd g x (g x)=g:=by
 funext z;by_cases q:z=x
 .rw[q];exact bY g x _
 .exact cF g _ q
theorem sM{L:Type}(f:L->Bool){l:List L}{j:Nat}{a:L}(H:l[j]? =Ja a):(l.take (j+1)).find? f=((l.take j).find? f).or (cond (f a) (Ja a) Jb):=by
 rw[eV H,List.find?_append,List.find?_cons];cases f a<;>rfl
theorem psl(R:CI t h w)(g:Pl->Bool):(PS h w g).length<=64:=We<|nj h w R.h8 R.w8 g
inductive PlI(t:List (List Int))(h w:Nat)(wd bd:Int)(r:Option (Pl->Bool))(rd:List ((Pl->Bool)×Pl))(k:Nat)(Δ:CB):Prop
 |mk (g:Pl->Bool) (pre:List ((Pl->Bool)×Pl)) (c1 c2:Bool) (u1 u2 u3 u4 u5:Option (D×Bool)) (hk:(PS h w g).length<k) (hp:pre.length+k=65) (hr:(DT t h w wd bd k g).1=r) (hl:pre++(DT t h w wd bd k g).2=rd)
  (e:Δ=(Nb "self" c1 (dH t bd wd)<|Nb "places" c2 (.list<|(PS h w g).map dP)<|Nb "road" Jc (Dv t h w pre)<|No "bounds" u1<|No "gone" u2<|No "place" u3<|No "low" u4<|No "high" u5<|[])):PlI t h w wd bd r rd k Δ
section
variable{C:Cx}{mg mb:Jq->Option Jf}{n:Nat}{Q:D->Bool->Prop}{X:DX}{t:List (List Int)}{h w:Nat}{wd bd:Int}
theorem jk(e:CR C G1 mg mb)(R:CI t h w){p:Pl}(D:p.1<h/\p.2<w){d b:Bool}(k:Q (.bool (EZ t bd p)) Jc):aR (aN C (n+2)) "Hider.small" [(dH t bd wd,d),(dP p,b)] Q X:=by
 refine e.fn fm (bl 54 rfl) rfl λl c P PX g=> ?_;dsimp only[fm];dsimp only[aY,b0,bo];refine bI ?_
 (dsimp only[aP,CD,aC,aG,aX,aE,aI,aU,eI,aF,Qa,aB,aA,aK,aD];refine⟨rfl,?_⟩)
 refine aZ (mX _ _ _) ?_;dsimp only[bk,aS];refine aZ (AX _ _ _) ?_;dsimp only[bu,aH,bt];refine g.hc<|wW e R D ?_;exact g.qr k
theorem AS(e:CR C G1 mg mb)(K:DL C Ep){ps:List Pl}{x:Pl->Int}(l:ps.length<=64)(k:∀xs,D7 ps xs->Q (Hx ps x xs) Jd):aR (aN C (n+3)) "Bounds" [(E1 ps x,b)] Q X:=by
 refine v0 (c:=Ep) (a1:="counts") (e2:= .call "near_of" [.bi .list [.loc "counts"]]) e.g (Gs e.g e.x) K rfl rfl (by decide) ?_
 (dsimp only[aP,CD,aC,aG,aX,aE,aI,aU,bj,fj,b6,aD];refine⟨rfl,rfl,?_⟩)
 refine⟨⟨by rw[Qd];exact dJ<|by exact FS l rfl,λq o=> ?_⟩,?_⟩
 .obtain⟨y,o0,rfl⟩:=Ql.mp o;exact dJ (show 2<=1000 by decide)
 rw[nh];refine qh (n:=n) e l λxs N=> ?_;exact⟨rfl,k xs N⟩
theorem p5(e:CR C G1 mg mb)(K:DL C Ep)(R:CI t h w)(g:Pl->Bool){d V:Bool}(k:∀xs,D7 (PS h w g) xs->Q (Hx (PS h w g) (xT t) xs) Jd):aR (aN C (n+4)) "Hider.bounds_of" [(dH t bd wd,d),(.list ((PS h w g).map dP),V)] Q X:=by
 refine e.fn dz (bl 55 rfl) rfl λM f P PX F=> ?_;dsimp only[dz];dsimp only[aY,b0,bo];have S:=szT R g;have l:=psl R g;generalize PS h w g=s at S l k ⊢;refine bq ?_
 (dsimp only[iW,bA,aH,aL,Qa,aO,aB,aA];refine⟨rfl,?_⟩)
 refine d7 rfl ?_;dsimp only[CE,aC,aG,aX,aE,aI,aU,cJ,aD,aF,Qa,aJ,aB,aA,aK,bk,bH,f8,gf,f0,f7,ny,bC,bM,cA,bD,cr,bJ,gb,er,gN,cV,f6,gc,cI];refine cX dP (λi L=>∃u v b c,L=(Nb "self" b (dH t bd wd)<|Nb "places" c (.list<|s.map dP)<|Nb "counts" Jc (E1 (s.take i)<|xT t)<|No "row" u<|No "column" v<|[])) _ _ ⟨_,_,_,_,rfl⟩ ?_ ?_
 .rintro j p L H ⟨u,v,b,c,rfl⟩ K m;have o:=mK S.nd H;obtain⟨I,r⟩:=S.mem p<|QC H;dsimp only[dP];dsimp only[hU,bC,cA,bD,cr,fO,aL,Qa,aO,aB,aA,bK];refine j8 ce (a:=p) (g:=λq=> .int (xT t q)) (xs:=s.take j) (dk:=dP p) (dv:= .int (xT t p)) rfl (S.nd.sublist<|Yk _ _) (df<|by rw[Yr];exact zl (Ys _ _)<|Ga l rfl) (de p) (λQ q=> ?_) (λQ X q=> ?_) ?_
  .rw[uW];dsimp only[aQ,aD,aF,Qa,aA,aB,aK,eI];refine aZ (mX _ _ _) ?_;dsimp only[bk];refine aZ (hA R I) ?_;dsimp only[bk];refine aZ (im R I r) ?_;exact⟨rfl,q⟩
  ·(dsimp only[bG,CE,C2,aC,aG,aT,aX,aE,aI,aV,aU,aD,aF,Qa,aA,aB,aK,bu,bt];refine⟨by decide,?_⟩)
   exact q
  .dsimp only[aL,Qa,aB,aA];refine m _ ⟨Ja (.int p.1,Jc),Ja (.int p.2,Jc),b,c,?_⟩;rw[eV H,ly o,AQ (λq=>D.int<|xT t q) p];rfl
 .rintro L ⟨u,v,b,c,rfl⟩;rw[Kh];refine ia ?_;refine bI ?_
  (dsimp only[aP,CD,aC,aG,aX,aE,aI,aU,aD,aF,Qa,aJ,aB,aA,aK,d5,aS,bH,ch,bL];refine⟨rfl,?_⟩)
  refine F.hc (AS e K l λxs N=> ?_);exact F.qr<|k xs N
theorem pB(e:CR C G1 mg mb)(K:DL C Ep)(R:CI t h w)(N:NN t)(g:Pl->Bool){d V:Bool}(k:Q (.tup [dOp h w (D9 t h w wd bd g).1,Dv t h w (D9 t h w wd bd g).2]) (D9 t h w wd bd g).1.isNone):aR (aN C (n+5)) "Hider.peeled" [(dH t bd wd,d),(.list ((PS h w g).map dP),V)] Q X:=by
 refine e.fn eP (bl 56 rfl) rfl λcl cu PQ PX F=> ?_;dsimp only[eP];dsimp only[aY,b0,bo];refine bq ?_
 (dsimp only[bE,CE,C8,aE,aI,aV,aU,bA,aH,aL,Qa,aO,aB,aA];refine⟨by decide,?_⟩)
 generalize σ:(D9 t h w wd bd g).1=r at k;generalize l:(D9 t h w wd bd g).2=rd at k;refine iO rfl 66 ?_;refine fY (PlI t h w wd bd r rd) ?_ _ 65 _ (QN _) ⟨g,[],_,_,_,_,_,_,_,nj h w R.h8 R.w8 g,rfl,σ,l,rfl⟩;clear σ l g;rintro f L ⟨g,O,c,J,u1,u2,u3,I,a,A,E,σ,l,rfl⟩ KK m;obtain⟨f,rfl⟩:∃B,f=B+1:=⟨f-1,by exact zpr A⟩
 have S:=szT R g;have H:=psl R g;have G:=HY R N g;dsimp only[c4,bv,aA];refine bq ?_
 (dsimp only[b7,aG,aX,aC,aE,aI,aU,aD,aF,Qa,aJ,aB,aA,aK,bk,aS,bH,eT,gM,tgl,bC,bM,cA,bD,cr,bJ,ch,em,bL];refine⟨rfl,rfl,?_⟩)
 refine F.hc (p5 e K R g λM b=> ?_);dsimp only[aB,gM,tgl,bC,er,bD,bJ,f8,gf,Qa,f0,f7,gb,ny,bM,cA,cr,aA,gN,f6,gc,aS,aL,aO];refine bq ?_;dsimp only[fq,bA,aH,aL,Qa,aO,aB,aA];refine d7 rfl ?_;dsimp only[CE,aC,aG,aX,aE,aI,aU,cJ,aD,aF,Qa,aJ,aB,aA,aK,bk,bH,f8,gf,f0,f7,ny,bC,bM,cA,bD,cr,bJ,gb,er,B6,gN,f6,gc,cI];refine cX dP (λi L=>∃u c J,L=(Nb "self" c (dH t bd wd)<|Nb "places" J (.list<|(PS h w g).map dP)<|Nb "road" Jc (Dv t h w O)<|Nb "bounds" Jd (Hx (PS h w g) (xT t) M)<|Nb "gone" Jc (dGo<|((PS h w g).take i).find? (GV t h w wd g))<|No "place" u<|No "low" I<|No "high" a<|[])) _ _ ⟨_,_,_,rfl⟩ ?_ ?_
 .rintro j p L v ⟨u,c,J,rfl⟩ K m;rw[sM (GV t h w wd g) v] at m;have U:=QC v;dsimp only[cj,aL,Qa,aO,aB,aA,bK];refine cb ?_;dsimp only[cp,b7,aG,aC,aE,aI,eI,aF,Qa,aJ,aB,aA,aK,aD,eT,gM,tgl,bC,er,bD,bJ,aS,bv,dK]
  induction q:((PS h w g).take j).find? (GV t h w wd g) with
  |some y=>
   rw[q] at m;dsimp only[dGo];refine⟨rfl,?_⟩;rw[yx];dsimp only[aB];exact m _ ⟨Ja (dP p,Jc),c,J,rfl⟩
  |none=>
   rw[q] at m;dsimp only[dGo];refine⟨rfl,?_⟩;rw[rt]
   (dsimp only[aA];refine⟨rfl,rfl,?_⟩)
   refine aZ (Bj _ _ _) ?_;dsimp only[bu,aH];refine F.hc<|sA e S b H G U ?_;dsimp only[bv];have m:∀P,(∃u c J,P=(Nb "self" c (dH t bd wd)<|Nb "places" J (.list<|(PS h w g).map dP)<|Nb "road" Jc (Dv t h w O)<|Nb "bounds" Jd (Hx (PS h w g) (xT t) M)<|Nb "gone" Jc (dGo<|cond (GV t h w wd g p) (Ja p) Jb)<|No "place" u<|No "low" I<|No "high" a<|[]))->K .next P:=m;show cond (GV t h w wd g p) _ _
   induction z:GV t h w wd g p with
   |true=>
    rw[z] at m;refine bq ?_;dsimp only[aD,aF,Qa,aJ,aB,aA,aK];exact m _ ⟨Ja (dP p,Jc),c,J,rfl⟩
   |false=>
    rw[z] at m;exact m _ ⟨Ja (dP p,Jc),c,J,rfl⟩
 .rintro L ⟨u,c,J,rfl⟩;rw[Kh];refine ia ?_;refine cb ?_;dsimp only[dK,bv,aD,aF,Qa,aJ,aB,aA,aK];change _=_ at σ
  induction q:GD t h w wd g with
  |none=>
   rw[jQ q] at σ l;rw[show(PS h w g).find? (GV t h w wd g)=Jb from q];dsimp only[dGo];refine⟨rfl,?_⟩;rw[rt];dsimp only[aA];refine bI ?_
   (dsimp only[bG,CE,C2,aC,aG,aT,aX,aE,aI,aV,aU,aD,aF,Qa,aJ,aB,aA,aK,bk,bH,ch,em,bL,aS];refine⟨by decide,?_⟩)
   rw[QH] at l;rw[<-σ,<-l] at k;exact F.qr k
  |some y=>
   obtain⟨W,hv⟩:=pQ q;rw[show(PS h w g).find? (GV t h w wd g)=Ja y from q];dsimp only[dGo];refine⟨rfl,?_⟩;rw[yx];dsimp only[aB];refine c9 rfl ?_
   (dsimp only[b7,aG,aX,aC,aE,aI,aU,bj,bX,aH,bt,b6,aQ,aM,eI,aF,Qa,aJ,aB,aA,aK,aD,eT,gM,tgl,bC,er,bD,bJ,aS];refine⟨rfl,rfl,rfl,?_⟩)
   refine aZ (mX _ _ _) ?_
   (dsimp only[cK,cQ];refine⟨rfl,?_⟩)
   refine aZ (mX _ _ _) ?_;refine aZ (iw R) ?_;dsimp only[cK,cQ];rw[R.lenD,R.len0];refine F.hc<|uR e S b H G W ?_;dsimp only[aA,bV,tgl,bC,bD,fO,bK];rw[qC];dsimp only[bJ,aB,bA,aH,aL,Qa,aO,aA];refine i6 ?_
   (dsimp only[aF,Qa,aJ,aB,aA,aK,dl,dQ,cD,aT,c5,aV,cq,aL,aO];refine⟨trivial,?_⟩)
   rw[qC,zS];dsimp only[aB];rw[dA];have Y:(O.map (En t h w)++[D.tup [dP y,EL (PS h w g) h w y<|Ed (PS h w g) (RT t h w g) Jd y (xT t),GU (PS h w g) h w y (Ed (PS h w g) (RT t h w g) Jc y<|xT t)]])=(O++[(g,y)]).map (En t h w):=il (En t h w) O (g,y);rw[Y];have x:O.length<65:=QJ (Nat.lt_add_of_pos_right<|Yz f)<|QV E;refine⟨rfl,rfl,dJ<|by decide,rfl,by rw[Qd];exact df<|Fy x (by decide),?_⟩;refine cb ?_
   (dsimp only[b7,aG,aC,aE,aI,aD,aF,Qa,aJ,aB,aA,aK,eT,gM,tgl,bC,bM,cA,bD,cr,bJ,aS];refine⟨rfl,rfl,?_⟩)
   refine F.hc<|jk e R (DK.mp W).1 ?_;dsimp only[bv]
   induction s:EZ t bd y with
   |true=>
    rw[k7 q s] at σ l;dsimp only[aA];refine cW ?_;dsimp only[dQ,cD,aT,c5,aV,cq];refine⟨rfl,rfl,dJ<|by decide,?_⟩;rw[<-σ,<-l] at k;exact F.qr k
   |false=>
    rw[nM q s] at σ l;dsimp only[aB];refine cw ?_;refine bq ?_;refine cL rfl ?_;dsimp only[CE,aC,aG,aX,aE,aI,aU,cJ,aD,aF,Qa,aJ,aB,aA,aK,bk,bH,cI];refine cz dP dP (λq=> !decide (q=y)) (λq hq=> ?_) ?_
    .dsimp only[bw,cP,cj,aO,Qa,aL,aB,aA,bK];refine⟨λT o=> ?_,λo0 K k=> ?_⟩
     .dsimp only[Ey]
      (dsimp only[aW,bv,fw,DP,aD,aJ,Qa,aF,aB,aA,aK];refine⟨⟨rfl,rfl⟩,?_⟩)
      rw[iu];exact o
     .dsimp only[D0];dsimp only[aD,aJ,Qa,aF,aB,aA,aK];exact k
    dsimp only[bA,aH,aL,Qa,aO,aB,aA];rw[<-nA];refine m _ _ (QN f) ⟨Gc g y,O++[(g,y)],c,Jc,_,_,_,_,_,QJ (rA W)<|We A,?_,σ,?_,rfl⟩
    .rw[QG,<-E];exact(WQ _ 1 f).trans (Uj (O.length+ ·)<|Nat.add_comm 1 f)
    .rw[<-l,Kt];rfl
end
theorem yF(l:List D):D.isNone (.list l)=Jd:=rfl
theorem sG{L u:Type}(f:u->L->u)(b:u){l:List L}{j:Nat}{a:L}(H:l[j]? =Ja a):(l.take (j+1)).foldl f b=f ((l.take j).foldl f b) a:=gO f b H
theorem uv{g:Pl->Bool}{p:Pl}(K:p.1<h/\p.2<w):(((PS h w g).map dP).any λd=>D.eqv d (dP p))=g p:=by
 rw[Kq,Ki]
 constructor
 .rintro ⟨d,v,z⟩;obtain⟨q,o,rfl⟩:=Ql.mp v;rw[iu] at z;rw[<-Ue z];exact(DK.mp o).2
 .exact λz=>⟨dP p,Ql.mpr ⟨p,DK.mpr ⟨K,z⟩,rfl⟩,by rw[iu];exact Uc rfl⟩
section
variable{C:Cx}{mg mb:Jq->Option Jf}{n:Nat}{Q:D->Bool->Prop}{X:DX}{t:List (List Int)}{h w:Nat}{wd bd:Int}
theorem l3(e:CR C G1 mg mb)(K:DL C Ep)(R:CI t h w)(N:NN t)(g:Pl->Bool)(p:Pl){d b W:Bool}(k:Q (.tup [dOp h w (D9 t h w wd bd (Gc g p)).1,Dv t h w (D9 t h w wd bd (Gc g p)).2]) Jd):aR (aN C (n+6)) "Hider.without" [(dH t bd wd,d),(.list ((PS h w g).map dP),b),(dP p,W)] Q X:=by
 refine ES.low ?_;refine e.fn ej (bl 57 rfl) rfl λl c P PX F=> ?_;dsimp only[ej];dsimp only[aY,b0,bo];refine bI ?_
 (dsimp only[b7,aG,aX,aC,aE,aI,aU,aD,aF,Qa,aB,aA,aK,eT,gM,tgl,bC,bM,cA,bD,cr,bJ,aS];refine⟨rfl,rfl,?_⟩)
 refine cL rfl ?_;dsimp only[CE,aC,aG,aX,aE,aI,aU,cJ,aD,aF,Qa,aB,aA,aK,bk,bH,cI];refine cz dP dP (λq=> !decide (q=p)) (λq o=> ?_) ?_
 .dsimp only[bw,cP,cj,aO,Qa,aL,aB,aA,bK];refine⟨λT Y=> ?_,λo0 K k=> ?_⟩
  .dsimp only[Ey]
   (dsimp only[aW,bv,fw,DP,aD,aJ,Qa,aF,aA,aB,aK];refine⟨⟨rfl,rfl⟩,?_⟩)
   rw[iu];exact Y
  .dsimp only[D0];dsimp only[aD,aJ,Qa,aF,aB,aA,aK];exact k
 dsimp only[aH,bt,bH,ch,bL];rw[<-nA];refine F.hc<|pB e K R N (Gc g p) ?_;exact F.qr<|.inr k
theorem vU(e:CR C G1 mg mb)(K:DL C Ep)(R:CI t h w)(N:NN t)(g:Pl->Bool){d V:Bool}(k:Q (.list ((PS h w ((PS h w g).foldl (GF t h w wd bd) g)).map dP)) Jd):aR (aN C (n+7)) "Hider.fewest" [(dH t bd wd,d),(.list ((PS h w g).map dP),V)] Q X:=by
 refine e.fn eF (bl 58 rfl) rfl λl f P PX F=> ?_;dsimp only[eF];dsimp only[aY,b0,bo];refine d7 rfl ?_
 (dsimp only[CE,aC,aG,aX,aE,aI,aU,cJ,bj,fj,b6,aD,aF,Qa,aJ,aB,aA,aK,bk,sU,tgl,cI];refine⟨rfl,?_⟩)
 rw[c6 dP dA];dsimp only[aA,bt,bA];refine cX dP (λi L=>∃u v b c,L=(Nb "self" b (dH t bd wd)<|Nb "places" c (.list<|(PS h w<|((PS h w g).take i).foldl (GF t h w wd bd) g).map dP)<|No "place" u<|No "fewer" v<|[])) _ _ ⟨_,_,_,_,rfl⟩ ?_ ?_
 .rintro j p L H ⟨u,v,b,c,rfl⟩ o m;have D:=(DK.mp<|QC H).1;rw[sG (GF t h w wd bd) g H] at m;generalize ((PS h w g).take j).foldl (GF t h w wd bd) g=a at m ⊢;unfold GF at m;dsimp only[cj,aL,Qa,aO,aB,aA,bK];refine cb ?_;dsimp only[cp,bO,bv,b7,aG,aC,aE,aI,aD,aF,Qa,aJ,aB,aA,aK,eT,gM,tgl,bC,bM,cA,bD,cr,bJ,aS,aW,ky];rw[lT];refine⟨⟨rfl,b8 dP (λp=>rfl) _⟩,?_⟩;rw[uv D];skip
  induction q:a p with
  |false=>
   rw[q] at m;dsimp only[aB];exact m _ ⟨Ja (dP p,Jc),v,b,c,rfl⟩
  |true=>
   rw[q] at m
   (dsimp only[aA];refine⟨rfl,rfl,?_⟩)
   refine F.hc<|jk e R D ?_;dsimp only[bv]
   induction s:EZ t bd p with
   |true=>
    rw[s] at m;dsimp only[cx,aB];exact m _ ⟨Ja (dP p,Jc),v,b,c,rfl⟩
   |false=>
    rw[s] at m;dsimp only[lU,aA];refine bq ?_
    (dsimp only[aQ,aM,b7,aG,aX,aC,aE,aI,aU,aD,aF,Qa,aJ,aB,aA,aK,bk,aS,eT,gM,tgl,bC,bM,cA,bD,cr,bJ];refine⟨rfl,rfl,?_⟩)
    refine F.hc<|l3 e K R N a p ?_;dsimp only[aB,bV,tgl,bC,bM,bD,bJ,d6,cE];rw[YC,ym,dA]
    induction z:(D9 t h w wd bd<|Gc a p).1 with
    |none=>
     rw[z] at m;dsimp only[dOp];dsimp only[bt,bH,ch,em,bL,aB,Cq,bA,aH,aL,Qa,aO,aA];refine cb ?_
     (dsimp only[dG,bv,aD,aF,Qa,aA,aB,aK];refine⟨rfl,?_⟩)
     rw[rt];dsimp only[cx,aB];refine cw ?_;exact m _ ⟨Ja (dP p,Jc),_,b,c,rfl⟩
    |some S=>
     rw[z] at m;dsimp only[dOp];dsimp only[bt,bH,ch,em,bL,aB,bk,f8,gf,Qa,f0,f7,gb,ny,bC,bM,cA,bD,cr,bJ,aA,gN,f6,gc,aS,aL,aO];refine cb ?_
     (dsimp only[dG,bv,aD,aF,Qa,aA,aB,aK];refine⟨rfl,?_⟩)
     rw[yF];dsimp only[lU,aA];refine bq ?_;dsimp only[aD,aF,Qa,aA,aB,aK,bk,f8,gf,f0,f7,ny,bC,bM,cA,bD,cr,bJ,gb,f6,gc,aS,aL];refine cw ?_;exact m _ ⟨Ja (dP p,Jc),_,_,_,rfl⟩
 .rintro L ⟨u,v,b,c,rfl⟩;rw[Kh];refine ia ?_;refine bI ?_;dsimp only[aD,aF,Qa,aJ,aB,aA,aK,bk,aS];exact F.qr k
end
def HP(t:List (List Int))(h w:Nat)(bd:Int)(P:Pl->Bool):List Pl:=(PS h w P).filter λp=> !EZ t bd p
def outX:H9->Pl->Int
 | .tab x=>x
 | .no _ _=>λo0=>0
def edT(t:List (List Int))(h w:Nat)(P:Pl->Bool)(hi:Bool)(p:Pl):List (List Int):=Hq (cT t h w P) (Ed (DW (cT t h w P) h w) (E0 (cT t h w P)<|Gb t) hi p<|outX (FC (cT t h w P) (Gb t) (FM t w) h w)) h w
def prD(t:List (List Int))(h w:Nat)(P:Pl->Bool)(p:Pl):D:= .tup [dP p,dT<|edT t h w P Jd p,dT (edT t h w P Jc p)]
def rdD(t:List (List Int))(h w:Nat)(wd bd:Int)(P:Pl->Bool)(p:Pl):D:= .tup [dP p,Dv t h w (D9 t h w wd bd<|Gc P p).2]
def FU(t:List (List Int))(h w:Nat)(wd bd:Int)(P:Pl->Bool):D:=
 .tup [.list ((PS h w<|EZ t bd).map dP),.list<|(HP t h w bd P).map dP,.list<|(PS h w P).map (prD t h w P),.list ((HP t h w bd P).map (rdD t h w wd bd P))]
abbrev finP(t:List (List Int))(h w:Nat)(wd bd:Int)(S:Pl->Bool):Pl->Bool:=(PS h w S).foldl (GF t h w wd bd) S
def Em(t:List (List Int))(h w:Nat)(wd bd:Int):Option D:=cond (decide (PS h w (EZ t bd)=[])) (Ja (.tup [.list [],.list [],.list [],.list []])) ((D9 t h w wd bd λo0=>Jc).1.map λS=>FU t h w wd bd (finP t h w wd bd S))
theorem jW{q:Type}{tst:CB->(Bool->Prop)->Prop}{el:CB->DQ->Prop}{K:List D->Dc->Prop}(g f:q->D)(p:q->Bool)(U:∀a,FQ (λP=>(∀T:Bool->Prop,T (p a)->tst P T)/\∀K:DQ,(∀t,K (f a) t)->el P K) (bw tg (g a) L)):
  ∀ (l:List q) (c:List D) (t:Dc),(∀t,K (c++(l.filter p).map f) t)->DN tg L ts tst el (l.map g) c t K
 |[]=>λc t k=>by rw[List.filter_nil,WH,QH] at k;exact k t
 |a::l=>λc t k=>by
  obtain⟨P,e,A,j⟩:=gx<|U a;show FQ _ (bw tg (g a) L);rw[e];refine A _ ?_
  induction N:p a with
  |true=>
   rw[Ke N] at k;exact j _ λu=>jW g f p U l (c++[f a]) _<|by rw[Kt];exact k
  |false=>
   rw[Kf (by rw[N];exact QB)] at k;exact jW g f p U l c t k
theorem uM(h w:Nat):PS h w (λo0=>Jc)=Eh h w:=WU.mpr λo0 o0=>rfl
theorem wQ(l:List Pl):D.eqv (.list (l.map dP)) (.list [])=decide (l=[]):=by
 rcases l with o0|⟨a,l⟩
 .rfl
 .rw[Ud (by simp)];rfl
section
variable{C:Cx}{mg mb:Jq->Option Jf}{n:Nat}{Q:D->Bool->Prop}{X:DX}{t:List (List Int)}{h w:Nat}{wd bd:Int}
theorem za(e:CR C G1 mg mb)(K:DL C Ep)(O:DL C Gi)(R:CI t h w)(N:NN t)(B:1<=bd)(I:1<=wd){M E W:Bool}
  (m:∀d,Em t h w wd bd=Ja d->Q d Jd)(x:Em t h w wd bd=Jb->X "NotHidden" [Dv t h w (D9 t h w wd bd λo0=>Jc).2]):aR (aN C<|n+8) "hide" [(dT t,M),(.int bd,E),(.int wd,W)] Q X:=by
 refine ES.low ?_;refine e.fn ic (bl 25 rfl) rfl λA cu PQ PX g=> ?_;dsimp only[ic];dsimp only[aY,b0,bo];refine gk ?_
 (dsimp only[aP,CD,aC,aG,aE,aI,aD,aF,Qa,aJ,aB,aA,aK,bk,aS];refine⟨rfl,?_⟩)
 refine g.hc<|vY e R N ?_;refine gk ?_
 (dsimp only[aP,CD,aC,aG,aE,aI,aD,aF,Qa,aJ,aB,aA,aK,bu,aH];refine⟨rfl,?_⟩)
 refine g.hc<|jY e B ?_;refine gk ?_
 (dsimp only[aP,CD,aC,aG,aE,aI,aD,aF,Qa,aJ,aB,aA,aK,bu,aH];refine⟨rfl,?_⟩)
 refine g.hc<|jY e I ?_;refine bq ?_
 (dsimp only[aP,CD,aC,aG,aX,aE,aI,aU,aD,aF,Qa,aJ,aB,aA,aK,bu,aH,bt,bk,aS,bH,ch,bL];refine⟨rfl,?_⟩)
 refine g.hc<|up (c:=Gi) (n:=n+5) (a1:="table") (a2:="bound") (a3:="width") e.g (Gs e.g e.x) O rfl rfl (by decide) ?_;dsimp only[aB,gM,tgl,bC,bM,cA,bD,cr,bJ,f8,gf,Qa,f0,gb,aA,f7,gN,cV,f6,gc,aS,aL,aO];refine bq ?_;refine cL rfl ?_
 (dsimp only[CE,aC,aG,aX,aE,aI,aU,cJ,aP,CD,aD,aF,Qa,aJ,aB,aA,aK,bk,aS,bH,ch,bL];refine⟨rfl,?_⟩)
 refine g.hc<|l4 e R ?_;dsimp only[cI,aA,bk,bt];refine cz dP dP (EZ t bd) (λq o=> ?_) ?_
 .dsimp only[bw,cP,cj,aO,Qa,aL,aB,aA,bK];refine⟨λT Y=> ?_,λo0 K k=> ?_⟩
  .dsimp only[Ey]
   (dsimp only[b7,aG,aC,aE,aI,aD,aJ,Qa,aF,aB,aA,aK,eT,gM,tgl,bC,bM,cA,bD,cr,bJ,aS];refine⟨rfl,rfl,?_⟩)
   exact g.hc<|jk e R (Dk.mp o) Y
  .dsimp only[D0];dsimp only[aD,aJ,Qa,aF,aB,aA,aK];exact k
 dsimp only[bA,aH,aL,Qa,aO,aB,aA];rw[show(Eh h w).filter (EZ t bd)=PS h w (EZ t bd) from rfl];refine cb ?_
 (dsimp only[aW,bv,cM,DP,bE,CE,C8,aE,aI,aV,aD,aF,Qa,aJ,aB,aA,aK];refine⟨by decide,?_⟩)
 refine⟨⟨by rw[cU];exact b8 dP (λp=>rfl) _,rfl⟩,?_⟩;rw[wQ];refine cG (λf=> ?_) λf=> ?_
 .rw[Em,Uc f] at m;refine bI ?_
  (dsimp only[bG,CE,C2,aC,aG,aT,aX,aE,aI,aV,aU,bE,C8,bt,aH];refine⟨by decide,by decide,by decide,by decide,by decide,?_⟩)
  exact g.qr<|.inr (m _ rfl)
 rw[Em,Ud f] at m x;refine cw ?_;refine c9 rfl ?_
 (dsimp only[b7,aG,aX,aC,aE,aI,aU,aP,CD,aD,aF,Qa,aJ,aB,aA,aK,bk,aS,bH,ch,bL,eT,gM,tgl,bC,bM,cA,bD,cr,bJ];refine⟨rfl,rfl,rfl,?_⟩)
 refine g.hc<|l4 e R ?_;dsimp only[aA,bk,aH,bt,bH,ch,bL];rw[<-uM];refine g.hc<|pB e K R N (λo0=>Jc) ?_
 induction z:(D9 t h w wd bd λo0=>Jc).1 with
 |none=>
  rw[z] at x;dsimp only[dOp,Option.isNone];dsimp only[aA,bV,tgl,bC,B6,bM,bD,bJ,cr,aB,bA,fO,aL,Qa,aO,bK];refine cb ?_
  (dsimp only[dK,bv,aD,aF,Qa,aJ,aB,aA,aK];refine⟨rfl,?_⟩)
  rw[rt];dsimp only[aA];refine m8 ⟨rfl,rfl,.inr ⟨rfl,rfl⟩⟩ ?_
  (dsimp only[cD,c5,cq,aL,Qa,aO,aB,aA,aF,aJ,aK,bM];refine⟨rfl,?_⟩)
  exact g.qx<|x rfl
 |some S=>
  rw[z] at m;replace m:Q (FU t h w wd bd<|(PS h w S).foldl (GF t h w wd bd) S) Jd:=m _ rfl;dsimp only[dOp,Option.isNone];dsimp only[aB,bV,tgl,bC,bM,bD,bJ,f8,gf,Qa,f0,f7,cA,cr,gb,ny,aA,gN,cV,f6,gc,fO,aL,aO,bK];refine cb ?_
  (dsimp only[dK,bv,aD,aF,Qa,aJ,aB,aA,aK];refine⟨rfl,?_⟩)
  rw[yF];dsimp only[aB];refine cw ?_;refine bq ?_
  (dsimp only[b7,aG,aX,aC,aE,aI,aU,aD,aF,Qa,aJ,aB,aA,aK,bk,aS,bH,eT,gM,tgl,bC,bM,cA,bD,cr,bJ,ch,em,bL];refine⟨rfl,rfl,?_⟩)
  refine g.hc<|vU e K R N S ?_;generalize (PS h w S).foldl (GF t h w wd bd) S=P at m ⊢;dsimp only[aB,bk,f8,gf,Qa,f0,f7,bM,bJ,cA,cr,gb,ny,bC,bD,aA,gN,cV,f6,gc,aS,aL,aO];refine bq ?_;refine cL rfl ?_;dsimp only[CE,aC,aG,aX,aE,aI,aU,cJ,aD,aF,Qa,aJ,aB,aA,aK,bk,bH,cI];refine cz dP dP (λp=> !EZ t bd p) (λq o=> ?_) ?_
  .dsimp only[bw,cP,cj,aO,Qa,aL,aB,aA,bK];refine⟨λT Y=> ?_,λo0 K k=> ?_⟩
   .dsimp only[Ey]
    (dsimp only[bO,bv,b7,aG,aC,aE,aI,aD,aJ,Qa,aF,aB,aA,aK,eT,gM,tgl,bC,bM,cA,bD,cr,bJ,aS];refine⟨rfl,rfl,?_⟩)
    refine g.hc<|jk e R (DK.mp o).1 ?_;exact Y
   .dsimp only[D0];dsimp only[aD,aJ,Qa,aF,aB,aA,aK];exact k
  dsimp only[bA,aH,aL,Qa,aO,aB,aA];rw[show(PS h w P).filter (λp=> !EZ t bd p)=HP t h w bd P from rfl];refine bq ?_
  (dsimp only[aP,CD,aC,aG,aX,aE,aI,aU,aD,aF,Qa,aJ,aB,aA,aK,bk,aS,bH,ch,em,bL];refine⟨rfl,?_⟩)
  refine g.hc<|Ad e R P ?_;dsimp only[aB,bV,tgl,bC,bM,bD,bJ,f8,gf,Qa,f0,f7,gb,aA,cA,cr,ny,gN,cV,f6,gc,aS,aL,aO];refine bq ?_
  (dsimp only[bE,CE,C8,aE,aI,aV,aU,bA,aH,aL,Qa,aO,aB,aA];refine⟨by decide,?_⟩)
  refine d7 rfl ?_;dsimp only[CE,aC,aG,aX,aE,aI,aU,cJ,aD,aF,Qa,aJ,aB,aA,aK,bk,bH,f8,gf,f0,f7,bM,bJ,cA,cr,ny,bC,bD,gb,hU,gN,cV,f6,gc,cI];have V:=vokT R N P;have Y:∀D σ,FC (cT t h w P) (Gb t) (FM t w) h w≠ .no D σ:=λD σ F=>by
   have U:DA (DW (cT t h w P) h w) h w (RT t h w P) (CT t h w P) (FC (cT t h w P) (Gb t) (FM t w) h w):=qj (i5 V.R) _ _ _ _ (H0 V)<|QN _;rw[F] at U;have G:=HY R N P;rw[<-jF t] at G;exact Av (i5 V.R) U G
  refine cX dP (λi L=>∃u v b,L=(Nb "table" Jd (dT t)<|Nb "bound" E (.int bd)<|Nb "width" W (.int wd)<|Nb "hider" Jd (dH t bd wd)<|Nb "first" Jc (.list<|(PS h w<|EZ t bd).map dP)<|Nb "places" Jd (.list<|(PS h w P).map dP)<|Nb "road" Jd (Dv t h w (D9 t h w wd bd λo0=>Jc).2)<|Nb "others" Jc (.list<|(HP t h w bd P).map dP)<|Nb "view" Jd (.tup [dC (cT t h w P),dI<|Gb t,dI (FM t w)])<|Nb "pairs" Jc (.list<|((PS h w P).take i).map (prD t h w P))<|No "place" u<|No "low" v<|No "high" b<|[])) _ _ ⟨_,_,_,rfl⟩ ?_ ?_
  .rintro j p L H ⟨u,v,b,rfl⟩ KK s;have o:p∈DW (cT t h w P) h w:=by rw[jF];exact QC H
   have r:j<64:=QJ (QF.mp H).1 (psl R P);dsimp only[cj,aL,Qa,aO,aB,aA,bK];refine c9 rfl ?_
   (dsimp only[aP,CD,aC,aG,aX,aE,aI,aU,aD,aF,Qa,aJ,aB,aA,aK,bV,tgl,bC,bM,bD,bJ,aS];refine⟨rfl,?_⟩)
   refine g.hc (zJ e K V Y o λy F=> ?_);dsimp only[aA,bV,tgl,bC,bM,bD,bJ,aB,aH,bA,fO,aL,Qa,aO,bK];refine i6 ?_
   (dsimp only[aF,Qa,aB,aA,aK,dl,dQ,cD,aT,c5,aV,cq,aL,bM];refine⟨trivial,?_⟩)
   rw[dA];have l:(((PS h w P).take j).map (prD t h w P)).length<Dg:=by rw[Qd];exact Ka (List.length_take_le _ _)<|df (Fy r<|by decide)
   refine⟨rfl,rfl,dJ<|by decide,rfl,l,?_⟩;refine s _ ⟨Ja (dP p,Jc),Ja (.hole,Jc),Ja (.hole,Jc),?_⟩;rw[eV H,QD];rw[show([p].map (prD t h w P))=[prD t h w P p] from rfl,prD,edT,edT,F];rfl
  .rintro L ⟨u,v,b,rfl⟩;rw[Kh];refine ia ?_;refine bI ?_;dsimp only[bG,CE,C2,aC,aG,aT,aX,aE,aI,aV,aU,aD,aF,Qa,aJ,aB,aA,aK,bk];refine ca rfl ?_;dsimp only[CE,aC,aG,aX,aE,aI,aU,cJ,aD,aF,Qa,aJ,aB,aA,aK,bk,bH,cI];refine jW dP (λp=> .tup [dP p,Dv t h w (D9 t h w wd bd<|Gc P p).2]) (λo0=>Jc) (λa=> ?_) _ [] Jb (λu=> ?_)
   .dsimp only[bw,cP,cj,aO,Qa,aL,aB,aA,bK];refine⟨λT Y=>Y,λKD J=> ?_⟩;dsimp only[D0]
    (dsimp only[bG,CE,C2,aC,aG,aT,aX,aE,aI,aV,aU,aQ,aM,b7,aD,aJ,Qa,aF,aB,aA,aK,bk,aS,eT,gM,tgl,bC,bM,cA,bD,cr,bJ];refine⟨rfl,rfl,?_⟩)
    refine g.hc<|l3 e K R N P a ?_
    (dsimp only[aB,bV,tgl,bC,bM,bD,bJ,eN,cE,bk];refine⟨by decide,?_⟩)
    exact J _
   .refine⟨dJ<|by decide,?_⟩;rw[Kv,WU.mpr λo0 o0=>rfl];exact g.qr<|.inr m
end
def hcF(ns:List Int)(k:Int):Int:=
 if((Db ns 2).fdiv 6).fmod 9=0 then lm ns k else
  [0,1+((Db ns k).fdiv 8).fmod 4,1+((Db ns k).fdiv 8).fmod 4,5+((Db ns k).fdiv 8).fmod 9,5+((Db ns k).fdiv 8).fmod 9,5+((Db ns k).fdiv 8).fmod 16,4+((Db ns k).fdiv 8).fmod 9,((Db ns k).fdiv 8).fmod 40][((Db ns k).fmod 8).toNat]?.getD 0
theorem Bn(ns:List Int)(k:Int):0<=hcF ns k:=by
 unfold hcF
 split
 .exact tA ns k
 .have q:=fx (a:=Db ns k) (b:=8) (by decide);generalize (Db ns k).fdiv 8=m;have L:∀b:Int,0<b->0<=m.fmod b:=λb R=>(fx R).1;have h:∀ (a b:Int),0<=a->0<b->0<=a+m.fmod b:=λa b N p=>YD N<|L b p;have t:=(KV q.1).mpr q.2;generalize ((Db ns k).fmod 8).toNat=i at t ⊢
  match i,t with
  |0,_=>exact QX 0
  |1,_=>exact h 1 4 (by decide)<|by decide
  |2,_=>exact h 1 4 (by decide)<|by decide
  |3,_=>exact h 5 9 (by decide)<|by decide
  |4,_=>exact h 5 9 (by decide)<|by decide
  |5,_=>exact h 5 16 (by decide)<|by decide
  |6,_=>exact h 4 9 (by decide)<|by decide
  |7,_=>exact L 40<|by decide
  |i+8,t=>exact absurd t<|QW.mpr (Yy 8 i)
def hcT(ns:List Int)(h w:Nat):List (List Int):=(Qc h).map λr=>(Qc w).map λc=>hcF ns<|8+(w:Int)*(r:Nat)+(c:Nat)
theorem tF(ns:List Int)(w j:Nat):dT (hcT ns (j+1) w)= .list ((hcT ns j w).map dI++[.list ((Qc w).map λ(c:Nat)=> .int (hcF ns (8+(w:Int)*(j:Nat)+(c:Nat))))]):=by
 rw[show hcT ns (j+1) w=hcT ns j w++[(Qc w).map λc=>hcF ns (8+(w:Int)*(j:Nat)+(c:Nat))] from(hW _ _).symm];rw[dT,QD,List.map_singleton,dI,QE];rfl
theorem yQ(ns:List Int)(h w:Nat):NN (hcT ns h w):=λr T i t=>by
 obtain⟨a,o0,rfl⟩:=Ql.mp T;obtain⟨b,o0,rfl⟩:=Ql.mp t;exact Bn _ _
theorem nP(a b:D)(k:Int):C4 (.list [a,b]) (.int (k.fmod 2))=Ja (cond (decide (k.fmod 2=0)) a b):=by
 obtain⟨i,e,h⟩:=jJ (a:=k) (b:=2) (by decide);rw[show k.fmod 2=(i:Int) from e]
 match i,h with
 |0,_=>rfl
 |1,_=>rfl
 |i+2,h=>exact absurd h<|QW.mpr (Yy 2 i)
theorem lf(c:Nat)(a:Int)(b:Nat)(R:1<=b):∃i:Nat,(c:Int)+a.fmod b=(i:Nat)/\c<=i/\i<c+b:=by
 obtain⟨i,e,h⟩:=jJ (a:=a) R;exact⟨c+i,by rw[e];rfl,KG c i,Nat.add_lt_add_left h c⟩
section
variable{C:Cx}{mg mb:Jq->Option Jf}{n:Nat}{Q:D->Bool->Prop}{X:DX}
theorem Cz(e:CR C G1 mg mb){ns:List Int}(s:ns.length<=63)(h:Q (.int (hcF ns k)) Jc):aR (aN C (n+3)) "_law_hide_count" [(.scr ns,b),(.int k,c)] Q X:=by
 refine e.fn dp (bl 29 rfl) rfl λM u P PX g=> ?_;dsimp only[dp];dsimp only[aY,b0,bo];refine bq ?_
 (dsimp only[aP,CD,aC,aG,aX,aE,aI,aU,aD,aF,Qa,aJ,aB,aA,aK,bu,aH,bt,f9,bH];refine⟨rfl,?_⟩)
 refine g.hc<|ey e s ?_;dsimp only[aA,bu,bA,aH,aL,Qa,aO,aB];refine bq ?_
 (dsimp only[bp,aM,aD,aF,Qa,aJ,aB,aA,aK,bu,cY,bA,aH,aL,aO];refine⟨by decide,by decide,?_⟩)
 refine cb ?_
 (dsimp only[aW,bv,cM,DP,aM,bp,aP,CD,aC,aG,aX,aE,aI,aU,aH,bt,aD,aF,Qa,aJ,aB,aA,aK,f9,bH];refine⟨rfl,?_⟩)
 refine g.hc<|ey e s ?_
 (dsimp only[cY,cm,bR];refine⟨by decide,by decide,by decide,⟨rfl,rfl⟩,?_⟩)
 unfold hcF at h;refine cG (λi=> ?_) λi=> ?_
 .rw[Ug i] at h;refine bI ?_
  (dsimp only[aP,CD,aC,aG,aX,aE,aI,aU,aD,aF,Qa,aJ,aB,aA,aK,bu,aH,bt,f9,bH];refine⟨rfl,?_⟩)
  exact g.hc<|tY e s (g.qr h)
 .rw[Uf i] at h;refine cw ?_;refine bq ?_
  (dsimp only[bE,CE,C8,aC,aG,aT,aX,aE,aI,aV,aU,bp,aM,aD,aF,Qa,aJ,aB,aA,aK,bu,cm,bt,d4,bA,aH,aL,aO];refine⟨by decide,by decide,by decide,by decide,by decide,by decide,by decide,by decide,?_⟩)
  refine bI ?_
  (dsimp only[aQ,bp,aM,aD,aF,Qa,aB,aA,aK,bu,cm,bk];refine⟨by decide,?_⟩)
  have q:=fx (a:=Db ns k) (b:=8) (by decide);generalize (Db ns k).fdiv 8=m at h ⊢;refine aZ (gS (l:=[0,1+m.fmod 4,1+m.fmod 4,5+m.fmod 9,5+m.fmod 9,5+m.fmod 16,4+m.fmod 9,m.fmod 40]) q.1 q.2) ?_;dsimp only[bu,aH];exact g.qr h
theorem xJ(e:CR C G1 mg mb){ns:List Int}(h:ns.length<=63)(k:∀bd:Int,1<=bd->Q (.int bd) Jc):aR (aN C (n+2)) "_law_bound" [(.scr ns,b)] Q X:=by
 refine e.fn fH (bl 31 rfl) rfl λl c P PX g=> ?_;dsimp only[fH];dsimp only[aY,b0,bo];refine bq ?_
 (dsimp only[aP,CD,aC,aG,aX,aE,aI,aU,aM,aH,bt,aD,aF,Qa,aJ,aB,aA,aK,f9,bH];refine⟨rfl,?_⟩)
 refine g.hc<|ey e h ?_;dsimp only[aA,bu,bA,aH,aL,Qa,aO,aB];refine cb ?_
 (dsimp only[aW,bv,cM,DP,aM,bp,aD,aF,Qa,aA,aB,aK,bu,cm,bR];refine⟨by decide,⟨rfl,rfl⟩,?_⟩)
 refine cG (λi=> ?_) λi=> ?_
 .refine bI ?_
  (dsimp only[bp,aM,qk,aD,aF,Qa,aA,aB,aK,bu,cY,cm,d4,aH];refine⟨by decide,by decide,by decide,by decide,by decide,by decide,?_⟩)
  exact g.qr<|k _ (QZ (fx<|by decide).1)
 .refine cw ?_;refine bI ?_
  (dsimp only[bp,aM,aD,aF,Qa,aA,aB,aK,bu,cY,cm,d4,aH];refine⟨by decide,by decide,by decide,?_⟩)
  exact g.qr<|k _ (QZ (fx<|by decide).1)
theorem oC{E:Type}{el:CB->DQ->Prop}{K:List D->Dc->Prop}(g:E->D):∀ (l:List E) (c:List Int),(∀a∈l,∀K:DQ,(∀i:Int,0<=i->K (.int i) Jb)->FQ (λP=>el P K) (bw tg (g a) L))->(∀i∈c,0<=i)->
  (∀is:List Int,is.length=c.length+l.length->(∀i∈is,0<=i)->K (is.map .int) Jb)->DN tg L ts (λo0 K=>K Jc) el (l.map g) (c.map .int) Jb K
 |[]=>λc o0 h k=>k c rfl h
 |a::l=>λc U h k=>by
  obtain⟨P,e,w⟩:=gx (U a (.head _) (λd u=>DN tg L ts (λo0 K=>K Jc) el (l.map g) (c.map .int++[d]) (tj Jb (Hp tg.names ts u)) K) λi t=>by
   rw[show c.map D.int++[.int i]=(c++[i]).map .int from il D.int c i];refine oC g l (c++[i]) (λb R=>U b<|.tail _ R) (λx hx=> ?_) λis N p=>k is (N.trans ?_) p
   .rcases Qr.mp hx with q|q
    .exact h x q
    .rw[Qh.mp q];exact t
   .rw[QG];exact(WQ c.length 1 l.length).trans (Uj (c.length+ ·) (Nat.add_comm 1 l.length)))
  show FQ _ (bw tg (g a) L);rw[e];exact w
theorem xo(e:CR C G1 mg mb){ns:List Int}(s:ns.length<=63)(R:CI t h w)(N:NN t)(k:∀wd:Int,1<=wd->Q (.int wd) Jc):aR (aN C (n+2)) "_law_width" [(.scr ns,b),(dT t,c)] Q X:=by
 refine e.fn fM (bl 45 rfl) rfl λM u P PX F=> ?_;dsimp only[fM];dsimp only[aY,b0,bo];refine bq ?_
 (dsimp only[aP,CD,aC,aG,aX,aE,aI,aU,aM,aH,bt,aD,aF,Qa,aJ,aB,aA,aK,f9,bH];refine⟨rfl,?_⟩)
 refine F.hc<|ey e s ?_;dsimp only[aA,bu,bA,aH,aL,Qa,aO,aB];refine bq ?_
 (dsimp only[bj,tL,bA,aH,aL,Qa,aO,aA,aB,aC,aE,b6];refine⟨rfl,?_⟩)
 refine ca rfl ?_;dsimp only[CE,dl,aC,aG,aX,aE,aI,aU,cJ,aD,aF,Qa,aJ,aB,aA,aK,bk,bH,cI];refine oC dI t [] (λr f K k=> ?_) (λo0 q=>bS q) λis E p=> ?_
 .dsimp only[bw,cP,cj,aO,Qa,aL,aB,aA,bK];dsimp only[D0]
  (dsimp only[bj,tL,aC,aE,b6,aD,aJ,Qa,aF,aB,aA,aK,dl];refine⟨rfl,?_⟩)
  refine fX (eH _) ?_;have T:=R.row r f;exact⟨λq=>by rw[q] at T;rw[<-T] at R;exact absurd R.w1<|by decide,λi V=>k i<|N r f i V⟩
 refine fX (eH _) ?_;refine⟨λq=>by rw[q,R.len] at E;exact WI R.h1<|(show 0=0+h from E).trans (KR h),λg S=> ?_⟩;have S:=p g S;refine cb ?_
 (dsimp only[aW,bv,aM,bp,bj,bX,aC,aE,b6,aQ,aD,aF,Qa,aB,aA,aK,lM,kl,cK,cQ];refine⟨rfl,rfl,?_⟩)
 refine aZ (iw R) ?_;dsimp only[cK,cQ];rw[R.lenD,R.len0];refine⟨.inl<|Ga R.h8 rfl,?_⟩;refine cG (λH=> ?_) λH=> ?_
 .refine bI ?_
  (dsimp only[bp,aM,aD,aF,Qa,aB,aA,aK,bu,cY,cm,d4,aH];refine⟨by decide,by decide,by decide,?_⟩)
  exact F.qr<|k _ (QZ (fx<|by decide).1)
 .refine cw ?_;refine bI ?_
  (dsimp only[aQ,bp,aM,aD,aF,Qa,aB,aA,aK,bu,cm,bE,CE,C8,aC,aG,aT,aX,aE,aI,aV,aU,qk,cY,d4,bt,bj,wm];refine⟨by decide,by decide,by decide,rfl,?_⟩)
  intro z z1 _;refine⟨by decide,by decide,by decide,by decide,by decide,by decide,by decide,by decide,?_⟩;have U:=fx (a:=Db ns 4) (b:=4) (by decide);have m:∀i∈ [1+((Db ns 4).fdiv 8).fmod 3,z,1+g,1+((Db ns 4).fdiv 8).fmod (10^9)],1<=i:=λi V=>by
   rcases Qw.mp V with rfl|V
   .exact QZ (fx<|by decide).1
   rcases Qw.mp V with rfl|V
   .exact z1
   rcases Qw.mp V with rfl|V
   .exact QZ S
   rw[Qh.mp V];exact QZ (fx<|by decide).1
  refine aZ (gS (l:=[1+((Db ns 4).fdiv 8).fmod 3,z,1+g,1+((Db ns 4).fdiv 8).fmod (10^9)]) U.1 U.2) ?_;exact F.qr<|k _ (m _<|get_mem ((KV U.1).mpr U.2))
theorem xA(e:CR C G1 mg mb){ns:List Int}(h:ns.length<=63)(k:∀x y:Nat,1<=x/\x<=8->1<=y/\y<=8->Q (.tup [.int x,.int y]) Jc):aR (aN C (n+2)) "_law_sides" [(.scr ns,b)] Q X:=by
 refine e.fn Dn (bl 28 rfl) rfl λc f P PX g=> ?_;dsimp only[Dn];dsimp only[aY,b0,bo];refine bq ?_
 (dsimp only[aP,CD,aC,aG,aX,aE,aI,aU,aM,aH,bt,aD,aF,Qa,aJ,aB,aA,aK,f9,bH];refine⟨rfl,?_⟩)
 refine g.hc<|ey e h ?_;dsimp only[aA,bu,bA,aH,aL,Qa,aO,aB];generalize Db ns 5=m;have fin:∀x y:Nat,(1<=x/\x<=8)->(1<=y/\y<=8)->CQ G1 c f (Dn.b.drop 4) (Nb "_law_script" b (.scr ns)<|Nb "_law_number" Jc (.int m)<|Nb "_law_high" Jc (.int x)<|Nb "_law_wide" Jc (.int y)<|[]) P PX:=λx y hx W=>by
  dsimp only[Dn,Wz];refine cb ?_
  (dsimp only[aW,bv,cM,DP,aM,bp,aD,aF,Qa,aB,aA,aK,bu,cY,cm,bR];refine⟨by decide,by decide,by decide,⟨rfl,rfl⟩,?_⟩)
  refine cG (λi=> ?_) λi=> ?_
  .obtain⟨z,G,z1,z2⟩:=lf 1 (m.fdiv 1152) 8 (by decide);refine c9 rfl ?_
   (dsimp only[aQ,bp,aM,aD,aF,Qa,aB,aA,aK,bu,cY,cm,bE,CE,C8,aC,aG,aT,aX,aE,aI,aV,aU,bG,C2,bt,d4];refine⟨by decide,by decide,by decide,by decide,by decide,by decide,by decide,by decide,by decide,by decide,by decide,by decide,?_⟩)
   refine aZ (nP _ _ _) ?_;have G:(1:Int)+(m.fdiv 1152).fmod 8=(z:Nat):=G;rw[G]
   induction decide ((m.fdiv 576).fmod 2=0) with
   |true=>
    dsimp only[aA,bV,tgl,bC,cA,bD,cr,aH,bA,fO,aL,Qa,aB,bK];refine cw ?_;refine bI ?_
    (dsimp only[bG,CE,C2,aC,aG,aT,aX,aE,aI,aV,aU,aD,aF,Qa,aA,aB,aK,bu,bt,aH];refine⟨by decide,?_⟩)
    exact g.qr<|k 1 z ⟨by decide,by decide⟩ ⟨z1,We z2⟩
   |false=>
    dsimp only[aB,bV,tgl,bC,cA,bD,cr,aA,aH,bA,fO,aL,Qa,bK];refine cw ?_;refine bI ?_
    (dsimp only[bG,CE,C2,aC,aG,aT,aX,aE,aI,aV,aU,aD,aF,Qa,aA,aB,aK,bu,bt,aH];refine⟨by decide,?_⟩)
    exact g.qr<|k z 1 ⟨z1,We z2⟩ ⟨by decide,by decide⟩
  .refine cw ?_;refine bI ?_
   (dsimp only[bG,CE,C2,aC,aG,aT,aX,aE,aI,aV,aU,aD,aF,Qa,aA,aB,aK,bu,bt,aH];refine⟨by decide,?_⟩)
   exact g.qr<|k x y hx W
 obtain⟨x,ex,M,E⟩:=lf 2 (Db ns 0) 3 (by decide);obtain⟨y,s,R,A⟩:=lf 2 (Db ns 1) 3 (by decide);refine bq ?_
 (dsimp only[bp,aM,aP,CD,aC,aG,aX,aE,aI,aU,aH,bt,aD,aF,Qa,aJ,aB,aA,aK,f9,bH];refine⟨rfl,?_⟩)
 refine g.hc<|ey e h ?_
 (dsimp only[cm,d4,bA,aH,aL,Qa,aO,aB,aA];refine⟨by decide,?_⟩)
 refine bq ?_
 (dsimp only[bp,aM,aP,CD,aC,aG,aX,aE,aI,aU,aH,bt,aD,aF,Qa,aJ,aB,aA,aK,f9,bH];refine⟨rfl,?_⟩)
 refine g.hc<|ey e h ?_
 (dsimp only[cm,d4,bA,aH,aL,Qa,aO,aA,aB];refine⟨by decide,?_⟩)
 rw[show(2:Int)+(Db ns 0).fmod 3=(x:Nat) from ex,show(2:Int)+(Db ns 1).fmod 3=(y:Nat) from s];have hx:1<=x/\x<=8:=⟨Qq (by decide) M,Qq (Kw E)<|by decide⟩
 have W:1<=y/\y<=8:=⟨Qq (by decide) R,Qq (Kw A)<|by decide⟩
 refine cb ?_
 (dsimp only[aW,bv,cM,DP,aM,bp,aD,aF,Qa,aB,aA,aK,bu,cm,bR];refine⟨by decide,⟨rfl,rfl⟩,?_⟩)
 refine cG (λi=> ?_) λi=> ?_
 .obtain⟨u,L,F,o⟩:=lf 2 (x:Int) 2 (by decide);obtain⟨v,Y,J,r⟩:=lf 2 (y:Int) 2 (by decide);refine c9 rfl ?_
  (dsimp only[aQ,bp,aM,aD,aF,Qa,aB,aA,aK,bu,cY,cm,bE,CE,C8,aC,aG,aT,aX,aE,aI,aV,aU,bG,C2,bt,d4];refine⟨by decide,by decide,by decide,by decide,by decide,by decide,by decide,by decide,?_⟩)
  refine aZ (nP _ _ _) ?_;rw[show(2:Int)+(x:Int).fmod 2=(u:Nat) from L,show(2:Int)+(y:Int).fmod 2=(v:Nat) from Y]
  induction decide ((m.fdiv 9).fmod 2=0) with
  |true=>
   dsimp only[aA,bV,tgl,bC,cA,bD,cr,aH,bA,fO,aL,Qa,aB,bK];refine cw ?_;exact fin 5 v ⟨by decide,by decide⟩ ⟨Qq (by decide) J,Qq (Kw r)<|by decide⟩
  |false=>
   dsimp only[aB,bV,tgl,bC,cA,bD,cr,aA,aH,bA,fO,aL,Qa,bK];refine cw ?_;exact fin u 5 ⟨Qq (by decide) F,Qq (Kw o)<|by decide⟩ ⟨by decide,by decide⟩
 .refine cw ?_;exact fin x y hx W
theorem w0(e:CR C G1 mg mb){ns:List Int}(s:ns.length<=63)(k:∀t h w,CI t h w->NN t->Q (dT t) Jc):aR (aN C (n+4)) "_law_drawn" [(.scr ns,b)] Q X:=by
 refine e.fn Do (bl 30 rfl) rfl λl W P PX g=> ?_;dsimp only[Do];dsimp only[aY,b0,bo];have fin:∀h w:Nat,1<=h/\h<=8->1<=w/\w<=8->CQ G1 l W (Do.b.drop 2) (Nb "_law_script" b (.scr ns)<|Nb "_law_high" Jc (.int h)<|Nb "_law_wide" Jc (.int w)<|No "_law_table" Jb<|No "_law_row" Jb<|No "_law_number" Jb<|[]) P PX:=λh w z u=>by
  have f:=z.2;have d:=u.2;dsimp only[Do,Wz];refine bq ?_
  (dsimp only[bE,CE,C8,aE,aI,aV,aU,bA,aH,aL,Qa,aO,aB,aA];refine⟨by decide,?_⟩)
  refine d7 rfl ?_;dsimp only[CE,aC,aG,aX,aE,aI,aU,aD,aF,Qa,aJ,aB,aA,aK,bu,bt,bA,h9,hZ];refine⟨⟨by exact HA _,by exact Fh f⟩,?_⟩;refine eW (λi L=>∃v,L=(Nb "_law_script" b (.scr ns)<|Nb "_law_high" Jc (.int h)<|Nb "_law_wide" Jc (.int w)<|Nb "_law_table" Jc (dT<|hcT ns i w)<|No "_law_row" v<|No "_law_number" Jb<|[])) ⟨_,rfl⟩ ?_ ?_
  .rintro j L H ⟨v,rfl⟩ K m;dsimp only[cj,aL,Qa,aO,aB,aA,bK];refine i6 ?_
   (dsimp only[aF,Qa,aJ,aB,aA,aK,dl,lE,aL,aO];refine⟨trivial,?_⟩)
   refine ca rfl ?_;dsimp only[CE,aC,aG,aX,aE,aI,aU,aD,aF,Qa,aJ,aB,aA,aK,bu,bt,h9,hZ];refine⟨⟨by exact HA _,by exact Fh d⟩,c7 (λ(c:Nat)=> .int (hcF ns<|8+(w:Int)*j+c)) (λc σ K k=> ?_) ?_⟩
   .dsimp only[bw,cP,cj,aO,Qa,aL,aB,aA,bK];dsimp only[D0]
    (dsimp only[aP,CD,aC,aG,aX,aE,aI,aU,bp,aD,aJ,Qa,aF,aB,aA,aK,bu,lM,aM,d4,aH,bt,f9,bH];refine⟨rfl,?_⟩)
    refine⟨.inl<|by exact Ga d rfl,?_⟩;exact g.hc<|Cz e s k
   .refine⟨rfl,rfl,?_,m _ ⟨Ja (.int j,Jc),?_⟩⟩
    .rw[Qd,hcT,Qd,QA];unfold Dg;exact Fy H<|FS f rfl
    .rw[tF];rfl
  .rintro L ⟨v,rfl⟩;refine ia ?_;have R:CI (hcT ns h w) h w:=CI.range _ z.1 f u.1 d;have N:=yQ ns h w;generalize hcT ns h w=t at R N ⊢;refine bq ?_
   (dsimp only[aP,CD,aC,aG,aX,aE,aI,aU,aM,aH,bt,aD,aF,Qa,aJ,aB,aA,aK,f9,bH];refine⟨rfl,?_⟩)
   refine g.hc<|ey e s ?_;dsimp only[aA,bu,bA,aH,aL,Qa,aO,aB];refine cb ?_
   (dsimp only[aW,bv,aM,bp,aD,aF,Qa,aJ,aA,aB,aK,bu,cm,kl];refine⟨by decide,?_⟩)
   refine cG (λU=> ?_) λU=> ?_
   .obtain⟨i,D,V⟩:=jJ (a:=Db ns 77) (b:=h) z.1;obtain⟨j,y,H⟩:=jJ (a:=Db ns 78) (b:=w) u.1;refine Al R (ki:=(i:Int)) (kj:=(j:Int)) (i:=i) (j:=j) (v:=1+((Db ns 79).fdiv 4).fmod 2) rfl (e8 V) (e8 H) (λQ q=> ?_) (λQ X q=> ?_) (λQ X q=> ?_) ?_
    .exact⟨by decide,by decide,by decide,rfl,q⟩
    ·(dsimp only[bp,aD,aF,Qa,aJ,aB,aA,aK,bu,aP,CD,aC,aG,aX,aE,aI,aU,aM,aH,bt,f9,bH];refine⟨rfl,?_⟩)
     refine g.hc<|ey e s ?_;dsimp only[cm];exact⟨by exact Int.ne_of_gt<|Kc.mpr z.1,by rw[D];exact q⟩
    ·(dsimp only[bp,aD,aF,Qa,aJ,aB,aA,aK,bu,aP,CD,aC,aG,aX,aE,aI,aU,aM,aH,bt,f9,bH];refine⟨rfl,?_⟩)
     refine g.hc<|ey e s ?_;dsimp only[cm];exact⟨by exact Int.ne_of_gt<|Kc.mpr u.1,by rw[y];exact q⟩
    .dsimp only[aL,Qa,aO,aB,aA];refine cw ?_;refine cW ?_
     (dsimp only[cq,aL,Qa,aO,aB,aA,aF,aJ,aK,bM];refine⟨rfl,?_⟩)
     refine g.qr<|k _ h w (R.set V) ((lz<|R.set V).mpr λa c T σ=> ?_);rw[u8 R V H]
     split
     .exact YD (by decide) (fx<|by decide).1
     .exact(lz R).mp N a c T σ
   .refine cw ?_;refine cW ?_
    (dsimp only[cq,aL,Qa,aO,aB,aA,aF,aJ,aK,bM];refine⟨rfl,?_⟩)
    exact g.qr<|k t h w R N
 refine c9 rfl ?_
 (dsimp only[aP,CD,aC,aG,aX,aE,aI,aU,aD,aF,Qa,aJ,aB,aA,aK,f9,aH,bt,bH];refine⟨rfl,?_⟩)
 refine g.hc (xA e s λh w z u=> ?_);dsimp only[aA,bV,tgl,bC,cA,bD,cr,aH,bA,fO,aL,Qa,aO,aB,bK];refine cb ?_
 (dsimp only[aW,bv,cM,DP,aM,bp,aP,CD,aC,aG,aX,aE,aI,aU,aH,bt,aD,aF,Qa,aJ,aB,aA,aK,f9,bH];refine⟨rfl,?_⟩)
 refine g.hc<|ey e s ?_
 (dsimp only[cm,bR];refine⟨by decide,⟨rfl,rfl⟩,?_⟩)
 refine cG (λU=> ?_) λU=> ?_
 .refine c9 rfl ?_
  (dsimp only[aQ,bp,aM,aP,CD,aC,aG,aX,aE,aI,aU,aH,bt,aD,aF,Qa,aJ,aB,aA,aK,f9,bH,bE,CE,C8,aT,aV,bG,C2,bu];refine⟨by decide,by decide,by decide,rfl,?_⟩)
  refine g.hc<|ey e s ?_
  (dsimp only[cY,cm];refine⟨by decide,by decide,by decide,?_⟩)
  refine aZ (nP _ _ _) ?_
  induction decide (((Db ns 7).fdiv 5).fmod 2=0) with
  |true=>
   dsimp only[aA,bV,tgl,bC,cA,bD,cr,aH,bA,fO,aL,Qa,aO,aB,bK];refine cw ?_;exact fin 1 w ⟨by decide,by decide⟩ u
  |false=>
   dsimp only[aB,bV,tgl,bC,cA,bD,cr,aA,aH,bA,fO,aL,Qa,aO,bK];refine cw ?_;exact fin h 1 z ⟨by decide,by decide⟩
 .refine cw ?_;exact fin h w z u
end
theorem y0{g:Pl->Bool}(T:a<h)(R:b<w):Gg (PS h w g) a b=g (a,b):=uv (p:=(a,b)) ⟨T,R⟩
theorem yX(t:List (List Int))(h w:Nat)(g:Pl->Bool):G5 t (Gg (PS h w g)) h w= .tup [dC (cT t h w g),dI (Gb t),dI (FM t w)]:=by
 rw[G5,show Dt t (Gg<|PS h w g) h w=cT t h w g from ?_];refine Qm λa T=>Qm λb R=> ?_;unfold EG;rw[y0 (Qf.mp T) (Qf.mp R)]
section
variable{t:List (List Int)}{h w:Nat}{g:Pl->Bool}{q:Pl}
theorem lowT(R:CI t h w)(N:NN t)(o:q∈PS h w g):FnK (cT t h w g) (Gb t) (FM t w) h w q (Hu t h w g Jd q q) Jd (EL (PS h w g) h w q (Hu t h w g Jd q)):=by
 have z:=lowK (x:=Hu t h w g Jd q) (vokT R N g) (p:=q) (by rw[jF];exact o) (by rw[jF];exact(rF R N o Jd).1) (by rw[jF];exact(rF R N o Jd).2);rw[jF] at z;exact z
theorem higT(R:CI t h w)(N:NN t)(o:q∈PS h w g):FnK (cT t h w g) (Gb t) (FM t w) h w q (Hu t h w g Jc q q) Jc (GU (PS h w g) h w q (Hu t h w g Jc q)):=by
 have z:=higK (x:=Hu t h w g Jc q) (vokT R N g) (p:=q) (by rw[jF];exact o) (by rw[jF];exact(rF R N o Jc).1) (by rw[jF];exact(rF R N o Jc).2);rw[jF] at z;exact z
end
section
variable{C:Cx}{mg mb:Jq->Option Jf}{n:Nat}{Q:D->Bool->Prop}{X:DX}{t:List (List Int)}{h w:Nat}{wd bd:Int}
theorem yU(e:CR C G1 mg mb)(R:CI t h w)(N:NN t){g:Pl->Bool}(o:q∈PS h w g)(hv:GV t h w wd g q=Jc){d E b Y:Bool}(k:Q (.bool Jc) Jc):aR (aN C (n+5)) "_law_step" [(dT t,d),(.list ((PS h w g).map dP),E),(En t h w (g,q),b),(.int wd,Y)] Q X:=by
 refine e.fn gn (bl 42 rfl) rfl λc u P PX F=> ?_;dsimp only[gn,En];dsimp only[aY,b0,bo];have V:=vokT R N g;have D:q∈DW (cT t h w g) h w:=by rw[jF];exact o
 have l:=lowT R N o;have v:=higT R N o;have hv:decide (Hu t h w g Jc q q-Hu t h w g Jd q q<wd)=Jc:=hv;obtain⟨A,B,L,o0⟩:=l.shape;obtain⟨y,x,H,o0⟩:=v.shape;rw[L] at l ⊢;rw[H] at v ⊢;refine cb ?_
 (dsimp only[cy,bv,aA,aW,fz,aD,aF,Qa,aJ,aB,aK,aQ,aM,eO,cE,fw,DP,bj,bX,bR,aC,aE,b6,ml,aT,aV,cQ,bO,cZ,lI,i8,cx];refine⟨rfl,rfl,⟨rfl,rfl⟩,?_⟩)
 rw[show(!decide (((0+1+1+1:Nat):Int)=3))=Jd from rfl];dsimp only[aB];rw[lT];refine⟨⟨rfl,b8 dP (λp=>rfl) _⟩,?_⟩;rw[uv (DK.mp o).1,(DK.mp o).2];dsimp only[cx,aB];refine cw ?_;refine bq ?_
 (dsimp only[aP,CD,aC,aG,aX,aE,aI,aU,aD,aF,Qa,aJ,aB,aA,aK,bk,aS,bH,ch,em,bL];refine⟨rfl,?_⟩)
 refine F.hc<|zT e R ?_;rw[yX];dsimp only[aA,bV,tgl,bC,bM,bD,bJ,aB,bA,aH,aL,Qa,aO];refine cb ?_
 (dsimp only[cy,bv,aA,bO,aP,CD,aC,aG,aE,aI,c4,aH,aQ,aM,aD,aF,Qa,aB,aK,bV,tgl,bC,hU,cA,bM,bD,bJ,cr,jX,cE,eO,aS,j6];refine⟨rfl,?_⟩)
 refine F.hc<|pq e V D l ?_
 (dsimp only[bv,cx,aB];refine⟨rfl,?_⟩)
 refine F.hc<|pq e V D v ?_;dsimp only[bv,cx,aB];refine cw ?_;refine bI ?_;dsimp only[aW,aH,aD,aF,Qa,aB,aA,aK,bp,aQ,aM,bV,tgl,bC,hU,cA,bM,bD,bJ,cr,j6,cE,eO,bu,jX,eA,rV];rw[hv];exact F.qr k
theorem se(e:CR C G1 mg mb)(p:Pl)(k:Q (.bool Jc) Jc):aR (aN C (n+2)) "_law_is_place" [(dP p,b)] Q X:=by
 refine e.fn eg (bl 43 rfl) rfl λl c P PX F=> ?_;dsimp only[eg,dP];dsimp only[aY,b0,bo];refine bI ?_
 (dsimp only[cp,aP,CD,aC,aG,aX,aE,aI,aU,aQ,aM,aD,aF,Qa,aA,aK,bV,tgl,bC,cA,bD,cr,eN,cE,bu,aH,bt,bH,d6,aW,bv,cM,DP,bj,bX,bR,b6,ml,aT,aV,cQ,cZ,lI,i8];refine⟨rfl,rfl,⟨rfl,rfl⟩,?_⟩)
 rw[show decide (((0+1+1:Nat):Int)=2)=Jc from rfl]
 (dsimp only[aA];refine⟨rfl,?_⟩)
 refine F.hc<|jz e ?_
 (dsimp only[bv,aA];refine⟨rfl,?_⟩)
 refine F.hc<|jz e ?_;exact F.qr k
theorem pC{L:Type}(f:L->D):∀ (l:List L) (n:Nat),GG n (l.map f)=(l.zipIdx n).map λp=> .tup [.int (p.2:Nat),f p.1]
 |[],_=>rfl
 |a::l,n=>by rw[Qo,List.zipIdx_cons,Qo,<-pC f l (n+1)];rfl
theorem EO.ne{g:Pl->Bool}{l:List ((Pl->Bool)×Pl)}(x:EO t h w wd bd g l Jb):l≠ []:=by
 cases x with
 |hit=>exact λq=>nomatch q
 |go=>exact λq=>nomatch q
theorem EO.next{g:Pl->Bool}{l:List ((Pl->Bool)×Pl)}(x:EO t h w wd bd g l Jb){i:Pl->Bool}{r:List ((Pl->Bool)×Pl)}(e:l=(i,q)::r):A5 (i=g) (q∈PS h w g) (GV t h w wd g q=Jc) (EZ t bd q=decide (r=[])) (r≠ []->EO t h w wd bd (Gc g q) r Jb):=by
 cases x with
 |hit m v s=>cases e;exact⟨rfl,m,v,s.trans (Uc rfl).symm,λz=>absurd rfl z⟩
 |go m v s n=>cases e;exact⟨rfl,m,v,s.trans (Ud n.ne).symm,λo0=>n⟩
theorem rS:∀ {ps:List Pl} {q:Pl},q∈ps->ps.Nodup->∃j,((ps.map dP).findIdx? λy=>D.eqv y (dP q))=Ja j/\(ps.map dP).eraseIdx j=(ps.filter λp=> !decide (p=q)).map dP
 |[],q,o,_=>(bS o)
 |a::ps,q,o,nd=>by
  obtain⟨l,nd⟩:=Qy.mp nd;rw[Qo,List.findIdx?_cons,iu];by_cases z:a=q
  .subst z;refine⟨0,by rw[Uc rfl];rfl,?_⟩;rw[Kf (by rw[Uc rfl];exact QB),WU.mpr λp K=>by rw[Ud (λy:p=a=>l<|y▸K)];rfl];rfl
  .obtain⟨j,N,Y⟩:=rS ((Qw.mp o).resolve_left λy=>z y.symm) nd;refine⟨j+1,by rw[Ud z,N];rfl,?_⟩;rw[Ke (by rw[Ud z];rfl),Qo,<-Y];rfl
theorem rU(t:List (List Int))(h w:Nat)(x:(Pl->Bool)×Pl):D.atom (En t h w x)=Jd:=by
 show(Jc&&(D.atom (EL _ _ _ _ _)&&_))=Jd;rw[qC];rfl
theorem kO(t:List (List Int))(h w:Nat)(x:(Pl->Bool)×Pl):C4 (En t h w x) (.int 0)=Ja (dP x.2):=rfl
theorem xq{P:Prop}[Decidable P](h:P↔j+1=n):decide ((j:Int)=(n:Int)-1)=decide P:=decide_eq_decide.mpr ⟨λq=>h.mpr (KT.mp (by rw[Int.natCast_succ,q,Int.sub_add_cancel])),λq=>by rw[<-h.mp q,Int.natCast_succ,Int.add_sub_cancel]⟩
theorem zK(e:CR C G1 mg mb)(R:CI t h w)(N:NN t){g:Pl->Bool}{l:List ((Pl->Bool)×Pl)}(x:EO t h w wd bd g l Jb)(hl:l.length<=1000)(k:Q (.bool Jc) Jc):aR (aN C (n+6)) "_law_road" [(dT t,b1),(.list ((PS h w g).map dP),b2),(.int bd,b3),(.int wd,b4),(Dv t h w l,b5)] Q X:=by
 refine e.fn gm (bl 44 rfl) rfl λcl cu PQ PX gg=> ?_;dsimp only[gm];dsimp only[aY,b0,bo];have hne:=x.ne;have hpos:0<l.length:=List.length_pos_iff.mpr hne;refine cb ?_
 (dsimp only[cy,bv,aA,aW,cM,DP,aM,bj,bX,bR,aC,aE,b6,aD,aF,Qa,aJ,aB,aK,cK,cQ,bO,cZ,oU,i8,cx];refine⟨rfl,rfl,⟨rfl,rfl⟩,?_⟩)
 rw[Qd,Ud (show ¬ ((l.length:Int)=0) from λq=>by rw[Int.ofNat_eq_zero.mp q] at hpos;exact absurd hpos<|by decide)];dsimp only[aB];refine cw ?_;refine bq ?_
 (dsimp only[bj,fj,aC,aE,b6,aD,aF,Qa,aJ,aB,aA,aK,bk,sU,tgl];refine⟨rfl,?_⟩)
 rw[c6 dP dA];dsimp only[aA,bA,aH,aL,Qa,aO,aB];refine d7 rfl ?_;dsimp only[CE,aC,aG,aX,aE,aI,aU,aD,aF,Qa,aJ,aB,aA,aK,bk,bH,f8,gf,f0,f7,bM,bJ,cA,cr,gb,gN,cV,f6,gc,Cj];rw[pC];refine cX (λp:((Pl->Bool)×Pl)×Nat=>D.tup [.int (p.2:Nat),En t h w p.1]) (λj Δ=>∃hd u1 u2 u3,Δ=(Nb "_law_table" b1 (dT t)<|Nb "_law_places" b2 (.list<|(PS h w g).map dP)<|Nb "_law_bound_here" b3 (.int bd)<|Nb "_law_width_here" b4 (.int wd)<|Nb "_law_road_here" Jd (Dv t h w l)<|Nb "_law_hidden_here" Jc (.list hd)<|No "_law_number" u1<|No "_law_step_here" u2<|No "_law_small_here" u3<|[])/\(j<l.length->∃g',hd=(PS h w g').map dP/\EO t h w wd bd g' (l.drop j) Jb)) _ _ ⟨_,_,_,_,rfl,λo0=>⟨g,rfl,x⟩⟩ ?_ ?_
 .rintro j a Δ hj ⟨hd,u1,u2,u3,rfl,hr⟩ K kn;rw[List.getElem?_zipIdx] at hj;obtain⟨s,hs,rfl⟩:=Qt.mp hj;obtain⟨hjl,es⟩:=QF.mp hs;obtain⟨g',rfl,y⟩:=hr hjl;obtain⟨gs,q⟩:=s;obtain⟨rfl,hq,hv,hsm,hnx⟩:=y.next (show l.drop j=(gs,q)::l.drop (j+1) by rw[WV hjl,es]);obtain⟨i,f1,f2⟩:=rS hq (szT R gs).nd;rw[<-nA] at f2;rw[KR];dsimp only[hU,bC,cA,bD,cr,fO,aL,Qa,aO,aB,aA,bK];rw[rU];dsimp only[bJ];refine cb ?_
  (dsimp only[cy,bv,aA,bO,aP,CD,aC,aG,aE,aI,aQ,aM,aD,aF,Qa,aJ,aB,aK,bu,aH,bk,aS];refine⟨rfl,?_⟩)
  refine gg.hc<|yU e R N hq hv ?_
  (dsimp only[bv,cx,aB];refine⟨rfl,?_⟩)
  refine aZ (kO _ _ _ _) ?_;dsimp only[];refine gg.hc<|se e q ?_;dsimp only[bv,cx,aB];refine cw ?_;refine bq ?_;dsimp only[ir,bA,aH,aL,Qa,aO,aA,aB,aD,aF,aJ,aK,aQ,aM];obtain⟨q1,q2⟩:=(DK.mp hq).1;refine aZ (kO _ _ _ _) ?_;dsimp only[];refine aZ (j1 q) ?_;refine aZ (hA R q1) ?_;refine aZ (kO _ _ _ _) ?_;dsimp only[];refine aZ (jP q) ?_;refine aZ (im R q1 q2) ?_;dsimp only[ko];have hAB:(decide (1<=cell t q.1 q.2)&&decide (cell t q.1 q.2<=bd))=decide (l.drop (j+1)=[]):=hsm;generalize decide (1<=cell t q.1 q.2)=A at hAB ⊢;generalize decide (cell t q.1 q.2<=bd)=B at hAB ⊢;have fin:∀bb:Bool,bb=decide (l.drop (j+1)=[])->CQ G1 cl cu [.if_ (.cmp .ne (.loc "_law_small_here")<|.cmp .eq (.loc "_law_number") (.bin .sub (.bi .len [.loc "_law_road_here"])<|.int 1)) [.ret (.bool Jd)] [],.expr (.meth (.loc "_law_hidden_here") .remove [.sub (.loc "_law_step_here") (.int 0)])]
    (Nb "_law_table" b1 (dT t)<|Nb "_law_places" b2 (.list<|(PS h w g).map dP)<|Nb "_law_bound_here" b3 (.int bd)<|Nb "_law_width_here" b4 (.int wd)<|Nb "_law_road_here" Jd (Dv t h w l)<|Nb "_law_hidden_here" Jc (.list<|(PS h w gs).map dP)<|Nb "_law_number" Jd (.int (j:Nat))<|Nb "_law_step_here" Jd (En t h w (gs,q))<|Nb "_law_small_here" Jc (.bool bb)<|[]) K λo0 o0 o0=>False:=λbb eb=>by
   refine cb ?_
   (dsimp only[aW,bv,fw,DP,cM,bp,aM,bj,bX,eA,aC,aE,b6,aD,aF,Qa,aB,aA,aK,cK,cQ,bR];refine⟨rfl,⟨rfl,rfl⟩,⟨rfl,rfl⟩,?_⟩)
   rw[Qd,xq (P:=l.drop (j+1)=[]) ⟨λz=>Yw hjl<|Yv.mp z,λz=>Yv.mpr<|QV z.symm⟩,<-eb,bZ];dsimp only[cx,aB];refine cw ?_;refine Ch ?_
   (dsimp only[aF,Qa,aB,aA,aK,dl];refine⟨trivial,?_⟩)
   rw[uW];dsimp only[aL,Qa,aB,aA,aF,aK,dl,aQ,aM,aD];refine aZ (kO _ _ _ _) ?_;rw[ym]
   (dsimp only[];refine⟨rfl,rfl,?_⟩)
   refine⟨⟨⟨rfl,b8 dP (λp=>rfl) _⟩,c6 dP dA _⟩,?_⟩;rw[f1,cQ,f2];exact kn _ ⟨_,_,_,_,rfl,λz=>⟨Gc gs q,rfl,hnx λy=>absurd (Yv.mp y)<|Nat.not_le.mpr z⟩⟩
  induction A with
  |true=>exact fin B hAB
  |false=>exact fin Jd hAB
 .rintro Δ ⟨hd,u1,u2,u3,rfl,o0⟩;refine ia ?_;refine bI ?_;dsimp only[c4,aH];exact gg.qr k
end
inductive Fw:D->Bool->Prop
 |zero:Fw (.int 0) Jc
 |neg {i:Int} (h:decide (i>=0)=Jd):Fw (.int i) Jd
 |ni {d:D} (h:FK G1 d ["int"]=Ja Jd):Fw d Jd
 |bool (b:Bool):Fw (.bool b) Jd
theorem AY{K:Bool->Prop}(e:t=Ja v)(k:K v):oB K t:=by subst e;exact k
theorem AF{M:D->CB->Prop}(s:String):FW G c (.str s) L M=(Jb=(Jb:Dc)/\M (.str s) L):=rfl
section
variable{C:Cx}{mg mb:Jq->Option Jf}{n:Nat}{Q:D->Bool->Prop}{X:DX}{t:List (List Int)}{h w:Nat}{wd bd:Int}
theorem vV(e:CR C G1 mg mb){d:D}(q:Fw d v)(k:Q (.bool v) Jc):aR (aN C (n+1)) "is_count" [(d,b)] Q X:=by
 induction q with
 |zero=>exact gq e k
 |neg h=>refine gq e ?_;rw[h];exact k
 |ni h=>
  refine e.fn dM (bl 5 rfl) rfl λl c P PX g=> ?_;dsimp only[dM];dsimp only[aY,b0,bo];refine bI ?_
  (dsimp only[cp,aW,aH,aM,aD,aF,Qa,aA,aK,bO,bv,cZ];refine⟨rfl,?_⟩)
  refine AY h ?_;dsimp only[aB];exact g.qr k
 |bool b=>
  refine e.fn dM (bl 5 rfl) rfl λl c P PX g=> ?_;dsimp only[dM];dsimp only[aY,b0,bo];refine bI ?_
  (dsimp only[cp,aW,aH,aM,aD,aF,Qa,aA,aK,bO,bv,cZ,B9,i8,cx,aB,BH];refine⟨rfl,rfl,?_⟩)
  exact g.qr k
theorem tH(e:CR C G1 mg mb){d:D}(q:Fw d v)(k:X "BadNumber" []):aR (aN C (n+2)) "need_number" [(d,b)] Q X:=by
 refine e.fn dm (bl 10 rfl) rfl λl c P PX g=> ?_;dsimp only[dm];dsimp only[aY,b0,bo];have fin:CQ G1 l c [.raise "BadNumber" [.str "no number from 1 on"]] (Nb "thing" b d []) (DU (λi=>CQ G1 l c [] i P PX) P) PX:=by
  refine m8 ⟨rfl,rfl,.inl rfl⟩ ?_;dsimp only[cD,c5];exact⟨rfl,g.qx k⟩
 refine cb ?_
 (dsimp only[cy,bv,aA,aW,cM,DP,aM,aD,aF,Qa,aK,bO,aP,CD,aC,aG,aE,aI];refine⟨rfl,?_⟩)
 refine g.hc<|vV e q ?_
 induction q with
 |zero=>exact⟨⟨rfl,rfl⟩,fin⟩
 |neg h=>exact fin
 |ni h=>exact fin
 |bool b=>exact fin
theorem yL(e:CR C G1 mg mb)(k:X "BadTable" []):aR (aN C (n+3)) "need_table" [(dL [[.int 1],[]],b)] Q X:=by
 refine e.fn dX (bl 9 rfl) rfl λM f N PX g=> ?_;dsimp only[dX];dsimp only[aY,b0,bo];refine cb ?_
 (dsimp only[bO,bv,aP,CD,aC,aG,aE,aI,aD,aF,Qa,aA,aK,bk,aS];refine⟨rfl,?_⟩)
 refine g.hc ?_;refine e.fn e9 (bl 8 rfl) rfl λl u V P c=> ?_;dsimp only[e9];dsimp only[aY,b0,bo];refine bI ?_
 (dsimp only[cp,bj,ik,aH,aC,aE,b6,aP,CD,aG,aI,aD,aF,Qa,aA,aK,bk,aS];refine⟨rfl,?_⟩)
 refine c.hc<|uP e ?_;rw[show GC [[D.int 1],[]]=Jd from rfl];dsimp only[bv,aB];refine c.qr ?_;dsimp only[bv,lU,aA];refine m8 ⟨rfl,rfl,.inl rfl⟩ ?_;dsimp only[cD,c5];exact⟨rfl,g.qx k⟩
theorem xI(e:CR C G1 mg mb){d B:D}(k:X "BadTable" []):aR (aN C (n+4)) "hide" [(dL [[.int 1],[]],N),(d,b),(B,W)] Q X:=by
 refine e.fn ic (bl 25 rfl) rfl λl c P PX g=> ?_;dsimp only[ic];dsimp only[aY,b0,bo];refine gk ?_
 (dsimp only[aP,CD,aC,aG,aE,aI,aD,aF,Qa,aJ,aB,aA,aK,bk,aS];refine⟨rfl,?_⟩)
 exact g.hc<|yL e (g.qx k)
theorem wO(e:CR C G1 mg mb)(R:CI t h w)(N:NN t)(d:(∃v,Fw T v)\/(∃bd:Int,T= .int bd/\1<=bd)/\∃v,Fw B v)(k:X "BadNumber" []):aR (aN C (n+5)) "hide" [(dT t,a),(T,b),(B,W)] Q X:=by
 refine e.fn ic (bl 25 rfl) rfl λl c P PX g=> ?_;dsimp only[ic];dsimp only[aY,b0,bo];refine gk ?_
 (dsimp only[aP,CD,aC,aG,aE,aI,aD,aF,Qa,aJ,aB,aA,aK,bk,aS];refine⟨rfl,?_⟩)
 refine g.hc<|vY e R N ?_;refine gk ?_
 (dsimp only[aP,CD,aC,aG,aE,aI,aD,aF,Qa,aJ,aB,aA,aK];refine⟨rfl,?_⟩)
 rcases d with⟨v,d⟩|⟨⟨bd,rfl,H⟩,v,d⟩
 .exact g.hc<|tH e d (g.qx k)
 refine g.hc<|jY e H ?_;refine gk ?_
 (dsimp only[aP,CD,aC,aG,aE,aI,aD,aF,Qa,aJ,aB,aA,aK];refine⟨rfl,?_⟩)
 exact g.hc<|tH e d (g.qx k)
theorem mT(e:FP tab C G1.un mg mb)(N:["BadTable"].any (G1.un.sub c)=f)(p:["BadNumber"].any (G1.un.sub c)=r)(J:["NotHidden"].any (G1.un.sub c)=M)(O:["BadPlace","BadView","NoTable"].any (G1.un.sub c)=Jd)(B:["ValueError"].any (G1.un.sub c)=Jc)
  (W:(([f,r,M].count Jc:Nat):Int)=1)(S:Jc∈ [f,r,M])(y:C4 (.list [.str "table",.str "number",.str "not hidden"]) (.int ([f,r,M].idxOf Jc:Nat))=Ja (.str s))(k:Q (.str s) Jc):aR (aN C<|n+1) "_law_class" [(.exc c l,b)] Q X:=by
 refine e.fn fG (bl 46 rfl) rfl λj u P PX g=> ?_;dsimp only[fG];dsimp only[aY,b0,bo];refine bq ?_
 (dsimp only[bE,CE,C8,aC,aG,aT,aX,aE,aI,aV,aU,qW,bt,aF,Qa,aJ,aB,aA,aK,Bg,bA,aH,aL,aO];refine⟨rfl,rfl,rfl,by decide,?_⟩)
 rw[N,p,J];refine cb ?_
 (dsimp only[cy,bv,aA,bO,qW,aF,Qa,aB,aK,Bg,aW,fw,DP,aM,rz,bR,BG,aD,dl];refine⟨rfl,?_⟩)
 rw[O];dsimp only[aB];refine jy (v:=[f,r,M]) rfl ?_;refine⟨⟨rfl,rfl⟩,?_⟩;rw[Uc W]
 (dsimp only[cx,aB];refine⟨rfl,?_⟩)
 rw[B];dsimp only[cx,aB];refine cw ?_;refine bI ?_
 (dsimp only[aQ,rz,Ce,aD,aF,Qa,aA,aB,aK,dl,bE,CE,C8,aC,aG,aT,aX,aE,aI,aV,aU,eK,bt];refine⟨by decide,?_⟩)
 refine jy (v:=[f,r,M]) rfl ?_;dsimp only[aT,aV];refine⟨⟨S,Wk rfl⟩,?_⟩;refine aZ y ?_;exact g.qr k
end
section
variable{t:List (List Int)}{h w:Nat}{wd bd:Int}{P:Pl->Bool}
theorem my(m:Nat)(p:Pl):D.okd (m+1) (dP p)=Jc:=by show D.okds m [.int _,.int _]=Jc;rw[cg,cg,dt,dt];rfl
theorem m7(m:Nat)(l:List Nat):D.okd (m+1) (Ft l)=Jc:=by rw[cU];exact b8 _ (λo0=>dt m _) l
theorem pK{a b c:D}(T:a.okd m=Jc)(R:b.okd m=Jc)(σ:c.okd m=Jc):D.okd (m+1) (.tup [a,b,c])=Jc:=by rw[iU,cg,cg,cg,T,R,σ];rfl
theorem yk(ps:List Pl)(h w:Nat)(p:Pl)(x:Pl->Int)(m:Nat):D.okd (m+2) (EL ps h w p x)=Jc:=by
 unfold EL
 induction decide (x p>0) with
 |true=>exact pK (dt _ _) (m7 m _)<|m7 m _
 |false=>exact pK (dt _ _) rfl rfl
theorem kY(t:List (List Int))(h w m:Nat)(l:List ((Pl->Bool)×Pl)):D.okd (m+4) (Dv t h w l)=Jc:=by
 rw[Dv,cU];exact b8 _ (λx=>pK (my (m+1) _) (yk _ _ _ _ _ m)<|pK (dt _ _) (m7 m _) (m7 m _)) _
theorem yO(t:List (List Int))(h w:Nat)(wd bd:Int)(P:Pl->Bool)(m:Nat)(p:Pl):D.okd (m+5) (rdD t h w wd bd P p)=Jc:=by
 rw[rdD,iU,cg,cg,my<|m+3,kY t h w m];rfl
theorem zp(t:List (List Int))(h w:Nat)(P:Pl->Bool)(m:Nat)(p:Pl):D.okd (m+3) (prD t h w P p)=Jc:=pK (my (m+1) _) (kA m _)<|kA m _
theorem xu(t:List (List Int))(h w:Nat)(wd bd:Int)(P:Pl->Bool):D.okd 39 (FU t h w wd bd P)=Jc:=by
 rw[FU,iU,cg,cg,cg,cg,cU,cU,cU,cU,b8 _<|my 36,b8 _<|my 36,b8 _<|zp t h w P 34,b8 _ (yO t h w wd bd P 32)];rfl
theorem yC:D.okd 40 (.str "not hidden")=Jc:=by decide+kernel
theorem vA{d:D}(e:Em t h w wd bd=Ja d):∃P,d=FU t h w wd bd P:=by
 unfold Em at e;by_cases s:PS h w (EZ t bd)=[]
 .rw[Uc s] at e;obtain rfl:=sj e;have i:PS h w (λo0=>Jd)=[]:=Wy.mpr λo0 o0=>QB;exact⟨λo0=>Jd,by rw[FU,s,i,HP,i];rfl⟩
 .rw[Ud s] at e;obtain⟨S,o0,e⟩:=Qt.mp (show Wa _ _=_ from e);exact⟨_,e.symm⟩
theorem si(R:CI t h w)(e:Em t h w wd bd=Jb):EO t h w wd bd (λo0=>Jc) (D9 t h w wd bd λo0=>Jc).2 Jb:=by
 unfold Em at e;by_cases s:PS h w (EZ t bd)=[]
 .rw[Uc s] at e;exact sn e
 .rw[Ud s] at e;have z:=xO (wd:=wd) (bd:=bd) R (λo0=>Jc);rw[Option.map_eq_none_iff.mp (show Wa _ _=_ from e)] at z;exact z
end
section
variable{C:Cx}{mg mb:Jq->Option Jf}{n:Nat}{Q:D->Bool->Prop}{X:DX}{t:List (List Int)}{h w:Nat}{wd bd:Int}
theorem tM(e:CR C G1 mg mb)(R:CI t h w){d b:Bool}(k:Q (.list ((PS h w (EZ t bd)).map dP)) Jc):aR (aN C (n+2)) "_law_small" [(dT t,d),(.int bd,b)] Q X:=by
 refine e.fn fQ (bl 35 rfl) rfl λl c y PX g=> ?_;dsimp only[fQ];dsimp only[aY,b0,bo];refine bI ?_;refine cL rfl ?_
 (dsimp only[CE,aC,aG,aX,aE,aI,aU,cJ,aP,CD,aD,aF,Qa,aB,aA,aK,bk,aS,bH,ch,bL];refine⟨rfl,?_⟩)
 refine g.hc<|tD e R D.int ?_;dsimp only[cI,aA,bk,bt];refine cz dP dP (EZ t bd) (λp U=> ?_) ?_
 .obtain⟨o,r⟩:=Dk.mp U;dsimp only[bw,cP,cj,aO,Qa,aL,aB,aA,bK];refine⟨λT Y=> ?_,λo0 K k=> ?_⟩
  .dsimp only[Ey];dsimp only[ir,bv,aD,aJ,Qa,aF,aA,aB,aK,aQ,aM];refine aZ (j1 p) ?_;refine aZ (hA R o) ?_;refine aZ (jP p) ?_;refine aZ (im R o r) ?_;dsimp only[ko];have Y:T (decide (1<=cell t p.1 p.2)&&decide (cell t p.1 p.2<=bd)):=Y;refine cG (λN=> ?_) λN=> ?_
   .rw[Uc N] at Y;exact Y
   .rw[Ud N] at Y;exact Y
  .dsimp only[D0];dsimp only[aD,aJ,Qa,aF,aB,aA,aK];exact k
 .exact g.qr k
theorem pX(e:CR C G1 mg mb)(K:DL C Ep)(E:DL C Gi)(R:CI t h w)(N:NN t)(b:1<=bd)(H:1<=wd)
  (k:∀d,Em t h w wd bd=Ja d->Q (.tup [.str "paper",d]) Jd)(m:Em t h w wd bd=Jb->Q (.tup [.str "road",Dv t h w (D9 t h w wd bd λo0=>Jc).2]) Jc):aR (aN C<|n+9) "_law_told" [(dT t,a),(.int bd,V),(.int wd,W)] Q X:=by
 refine ES.low ?_;refine e.fn eB (bl 47 rfl) rfl λc u y PX g=> ?_;dsimp only[eB];dsimp only[aY,b0,bo];refine uL ⟨rfl,rfl,rfl,rfl⟩ ?_;refine bI ?_
 (dsimp only[aL,Qa,aO,aA,aB,bG,CE,C2,aC,aG,aT,aX,aE,aI,aV,aU,aP,CD,aD,aF,aJ,aK,bu,aH,bt,bk,aS,bH,ch,bL,eK];refine⟨rfl,?_⟩)
 refine g.hc<|za e K E R N b H (λd q=> ?_) λo=> ?_
 ·(dsimp only[aB];refine⟨by decide,?_⟩)
  exact g.qr<|.inr (k d q)
 .rw[show G1.sub "NotHidden" "NotHidden"=Jc from rfl];dsimp only[aA];refine cb ?_
  (dsimp only[aW,bv,fw,DP,eK,aP,CD,aC,aG,aE,aI,aD,aF,Qa,aA,aB,aK,BX,tgl,bC,bM,bD,bJ,aS];refine⟨rfl,?_⟩)
  refine g.hu<|mT e.un (s:="not hidden") rfl rfl rfl rfl rfl rfl (by decide) rfl ?_;refine⟨⟨yC,yC⟩,?_⟩;rw[bZ];dsimp only[cx,aB];refine cw ?_;refine cW ?_;dsimp only[dQ,cD,aT,c5,aV,xX];rw[AF];refine⟨rfl,?_⟩
  (dsimp only[aL,Qa,aA,aB,aF,aK];refine⟨rfl,?_⟩)
  refine aZ (v:=Dv t h w (D9 t h w wd bd λo0=>Jc).2) rfl ?_;refine⟨by decide,?_⟩;exact g.qr<|.inl (m o)
theorem rI(e:CR C G1 mg mb){d1 T B:D}(U:∀ {d V W:Bool} {Q:D->Bool->Prop} {X:DX},X c []->aR (aN C (n+5)) "hide" [(d1,d),(T,V),(B,W)] Q X)(O:G1.sub c "NotHidden"=Jd)(J:G1.sub c "VeilError"=Jc)
  (σ:∀ {b:Bool} {Q:D->Bool->Prop} {X:DX},Q (.str s) Jc->aR (aN C.un<|n+5) "_law_class" [(.exc c [],b)] Q X){d V W:Bool}(k:Q (.tup [.str s]) Jc):aR (aN C<|n+6) "_law_told" [(d1,d),(T,V),(B,W)] Q X:=by
 refine e.fn eB (bl 47 rfl) rfl λl u N PX g=> ?_;dsimp only[eB];dsimp only[aY,b0,bo];refine uL ⟨rfl,rfl,rfl,rfl⟩ ?_;refine bI ?_
 (dsimp only[aL,Qa,aO,aA,aB,bG,CE,C2,aC,aG,aT,aX,aE,aI,aV,aU,aP,CD,aD,aF,aJ,aK,eK,bt];refine⟨rfl,?_⟩)
 refine g.hc<|U ?_;rw[O,J];dsimp only[aA,aB];refine bI ?_
 (dsimp only[bG,CE,C2,aC,aG,aT,aX,aE,aI,aV,aU,aP,CD,aD,aF,Qa,aA,aB,aK,BX,tgl,bD,aH,bt,bH];refine⟨rfl,?_⟩)
 refine g.hu<|σ ?_
 (dsimp only[aA,Cw,bt,aH];refine⟨by decide,?_⟩)
 exact g.qr k
theorem yu(e:CR C G1 mg mb)(hi:0<=i)(k:∀d v,Fw d v->Q d Jc):aR (aN C (n+1)) "_law_bad" [(.int i,b)] Q X:=by
 refine e.fn g7 (bl 48 rfl) rfl λl c N PX g=> ?_;dsimp only[g7];dsimp only[aY,b0,bo];refine bI ?_
 (dsimp only[aQ,bp,aM,aD,aF,Qa,aA,aK,bu,cm,bE,CE,C8,aC,aG,aT,aX,aE,aI,aV,aU,bG,C2,bt,eK,fq,c4,cY,eA];refine⟨by decide,by decide,by decide,by decide,by decide,by decide,?_⟩)
 obtain⟨j,y,H⟩:=jJ (a:=i) (b:=8) (by decide);rw[show i.fmod 8=(j:Int) from y];have o:decide ((0:Int)-1-i.fdiv 8>=0)=Jd:=Ud λz=>absurd (QQ z<|Int.sub_le_self _ (Int.fdiv_nonneg hi (show(0:Int)<=8 by decide))) (by decide);have fin:∀d v,Fw d v->N (.ret d (tg0 d Jb).isNone) (Nb "_law_number" b (.int i) []):=λd v q=>by rw[rT];exact g.qr<|k d v q
 match j,H with
 |0,_=>exact fin _ _ .zero
 |1,_=>exact fin _ _<|.neg o
 |2,_=>exact fin _ _<|.bool Jc
 |3,_=>exact fin _ _<|.bool Jd
 |4,_=>exact fin _ _<|.ni rfl
 |5,_=>exact fin _ _<|.ni rfl
 |6,_=>exact fin _ _<|.ni rfl
 |7,_=>exact fin _ _<|.ni rfl
 |j+8,H=>exact absurd H<|QW.mpr (Yy 8 j)
end
theorem AB{K:CB->Prop}(f:String)(as:List E)(i:E)(args:List E):GI G c (.meth (.sub (.call f as) i) .append args) L K X=(Me.append= .append/\CY G c (.sub (.call f as) i) L (λd t=>t=Jb/\FI .append d/\Dx G c args L (λvs=>Fe .append (CE vs) d λo0=>K L) λo0 o0=>False) λo0 o0=>False):=rfl
noncomputable def ifB:List S->List S
 | .if_ _ b _::_=>b
 |_=>[]
theorem wD(h:PyData.strOk (Qb s)=Jc):D.okd 40 (.tup [.str s])=Jc:=by
 rw[iU,cg,show D.okd 39 (.str s)=PyData.strOk (Qb s) from rfl,h];rfl
theorem Bb{d:D}(h:PyData.strOk (Qb s)=Jc)(v:D.okd 39 d=Jc):D.okd 40 (.tup [.str s,d])=Jc:=by
 rw[iU,cg,cg,show D.okd 39 (.str s)=PyData.strOk (Qb s) from rfl,h,v];rfl
theorem BR:PyData.strOk (Qb "table")=Jc:=by decide+kernel
theorem BN:PyData.strOk (Qb "number")=Jc:=by decide+kernel
theorem wo:PyData.strOk (Qb "paper")=Jc:=by decide+kernel
theorem xK:PyData.strOk (Qb "road")=Jc:=by decide+kernel
theorem Bp:D.eqv (.str "paper") (.str "road")=Jd:=by decide+kernel
theorem xG{l:List ((Pl->Bool)×Pl)}(T:l≠ []):D.atoms (l.map (En t h w))=Jd:=by
 rcases l with o0|⟨a,l⟩
 .exact absurd rfl T
 .show(D.atom (En t h w a)&&_)=Jd;rw[rU];rfl
section
variable{C:Cx}{mg mb:Jq->Option Jf}{n:Nat}{Q:D->Bool->Prop}{X:DX}{t:List (List Int)}{h w:Nat}{wd bd:Int}
theorem pk:∀ (k:Nat) (g:Pl->Bool),(DT t h w wd bd k g).2.length<=k
 |0=>λg=>Qz 0
 |k+1=>λg=>by
  induction e:GD t h w wd g with
  |none=>rw[jQ e];exact QS _
  |some q=>
   induction s:EZ t bd q with
   |true=>rw[k7 e s];exact Kx<|QS k
   |false=>rw[nM e s];exact Kx<|pk k (Gc g q)
abbrev Δ0(b K σ O c A:Bool)(ns:List Int)(t:List (List Int))(bd wd m:Int)(r:CB):CB:=Nb "_law_script" b (.scr ns)<|Nb "_law_table" K (dT t)<|Nb "_law_bound_here" σ (.int bd)<|Nb "_law_width_here" O (.int wd)<|Nb "_law_handed" c (dT t)<|Nb "_law_number" A (.int m)<|r
theorem xY(e:CR C G1 mg mb)(R:CI t h w)(N:NN t)(o:1<=bd)(I:1<=wd)(D:0<=m){ns:List Int}{PX:Gq}(g:Gen C (n+9) Q X l u y PX)(z:∀d b L,y (.ret d b) L->P (.ret d b) L)(k:Q (.bool Jc) Jc):
  CQ G1 l u (ifB<|EE.b.drop 5) (Δ0 b K σ O V A ns t bd wd m<|No "_law_some" Jb<|No "_law_found" Jb<|No "_law_kept" Jb<|[]) P PX:=by
 dsimp only[EE,Wz,ifB];have p:=Int.fdiv_nonneg D (show(0:Int)<=24 by decide);have r:∀ {L},P (.ret (.bool Jc) Jc) L:=z _ _ _<|g.qr k;refine cb ?_
 (dsimp only[aW,bv,cM,DP,aM,bp,aD,aF,Qa,aJ,aB,aA,aK,bu,cY,cm,bR];refine⟨by decide,by decide,by decide,⟨rfl,rfl⟩,?_⟩)
 refine cG (λE=> ?_) λE=> ?_
 .refine bI ?_
  (dsimp only[aW,aH,cM,DP,bG,CE,C2,aC,aG,aT,aE,aI,aV,eK,aP,CD,aD,aF,Qa,aJ,aB,aA,aK,bu,aX,aU,bp,aM,cY,bt,bH,aQ,bE,C8,bk];refine⟨rfl,by decide,by decide,by decide,by decide,?_⟩)
  refine aZ (v:=dL [[.int 1],[]]) rfl ?_
  (dsimp only[bk,aS];refine⟨rfl,by decide,by decide,?_⟩)
  refine g.hc (yu e p λd v q=> ?_);dsimp only[aA];refine g.hc<|rI (n:=n+3) e (c:="BadTable") (s:="table") (λk=>xI e k) rfl rfl (λk=>mT e.un (s:="table") rfl rfl rfl rfl rfl rfl (by decide) rfl k) ?_;refine⟨by decide,?_⟩;refine⟨⟨wD BR,wD BR⟩,?_⟩;rw[bZ];exact r
 refine cw ?_;refine bq ?_
 (dsimp only[bE,CE,C8,aC,aG,aT,aX,aE,aI,aV,aU,aD,aF,Qa,aJ,aB,aA,aK,bu,bt,bA,aH,aL,aO];refine⟨by decide,?_⟩)
 refine l7<|pj ?_
 (dsimp only[bp,aM,aD,aF,Qa,aJ,aB,aA,aK,bu,cY,cm,eA,aP,CD,aC,aG,aX,aE,aI,aU,aH,bt,bH];refine⟨rfl,by decide,by decide,?_⟩)
 refine g.hc (yu e p λd v q=> ?_);dsimp only[aA];rw[rT,jT];refine⟨rfl,?_⟩
 (dsimp only[aF,Qa,aJ,aB,aA,aK];refine⟨rfl,by decide,by decide,by decide,?_⟩)
 obtain⟨j,F,H⟩:=jJ (a:=m.fdiv 8) (b:=3) (by decide);rw[show(m.fdiv 8).fmod 3=(j:Int) from F] at E ⊢;have fin:∀T B,((∃v,Fw T v)\/(∃bd:Int,T= .int bd/\1<=bd)/\∃v,Fw B v)->CQ G1 l u [.ret (.and_ (.cmp .eq (.call "_law_told" [.loc "_law_handed",.sub (.loc "_law_some")<|.int 0,.sub (.loc "_law_some") (.int 1)])<|.tup [.str "number"])<|.cmp .eq (.loc "_law_handed") (.loc "_law_table"))]
   (Δ0 b K σ O V A ns t bd wd m<|Nb "_law_some" Jc (.list [T,B])<|No "_law_found" Jb<|No "_law_kept" Jb<|[]) P PX:=λT B q=>by
  refine bI ?_
  (dsimp only[cp,aW,aH,cM,DP,aD,aF,Qa,aJ,aB,aA,aK,bv,bG,CE,C2,aC,aG,aT,aE,aI,aV,eK,aP,CD,aQ,aM,bk,aS];refine⟨rfl,?_⟩)
  refine aZ (v:=T) rfl ?_;refine aZ (v:=B) rfl ?_;refine g.hc<|rI (n:=n+3) e (c:="BadNumber") (s:="number") (λk=>wO e R N q k) rfl rfl (λk=>mT e.un (s:="number") rfl rfl rfl rfl rfl rfl (by decide) rfl k) ?_;refine⟨by decide,?_⟩;refine⟨⟨wD BN,wD BN⟩,?_⟩;rw[bZ];dsimp only[aA];refine⟨⟨kA 38 t,kA 38 t⟩,?_⟩;rw[bZ];exact r
 match j,H,E with
 |0,_,E=>exact absurd rfl E
 |1,_,_=>exact fin d (.int wd)<|.inl ⟨v,q⟩
 |2,_,_=>exact fin (.int bd) d<|.inr ⟨⟨bd,rfl,o⟩,v,q⟩
 |j+3,H,_=>exact absurd H<|QW.mpr (Yy 3 j)
end
section
variable{C:Cx}{mg mb:Jq->Option Jf}{n:Nat}{Q:D->Bool->Prop}{X:DX}{t:List (List Int)}{h w:Nat}{wd bd:Int}
theorem sL(e:CR C G1 mg mb)(K:DL C Ep)(E:DL C Gi)(R:CI t h w)(N:NN t)(S:1<=bd)(H:1<=wd){ns:List Int}{PX:Gq}(g:Gen C (n+9) Q X c u y PX)(k:Q (.bool Jc) Jc){P:Pl->Bool}(O:Em t h w wd bd=Ja (FU t h w wd bd P)):
  CQ G1 c u (EE.b.drop 7) (Δ0 b F σ M V s ns t bd wd m<|No "_law_some" Jb<|Nb "_law_found" l (.tup [.str "paper",FU t h w wd bd P])<|No "_law_kept" Jb<|[]) y PX:=by
 dsimp only[EE,Wz];have A:D.okd 40 (.tup [.str "paper",FU t h w wd bd P])=Jc:=Bb wo<|xu t h w wd bd P;refine cb ?_;dsimp only[cy,bv,aA,aW,fw,DP,aD,aF,Qa,aJ,aB,aK,aP,CD,aC,aG,aE,aI,bu,aH,bk,aS];refine⟨⟨kA 38 t,kA 38 t⟩,?_⟩;rw[bZ]
 (dsimp only[cx,aB];refine⟨rfl,?_⟩)
 refine g.hc (pX e K E R N S H (λd W=> ?_) λq=>by rw[O] at q;exact sn q);obtain rfl:=sj<|W.symm.trans O;refine⟨⟨A,A⟩,?_⟩;rw[bZ];dsimp only[cx,aB];refine cw ?_;refine cb ?_;dsimp only[aW,bv,cM,DP,eK,aQ,aM,aD,aF,Qa,aJ,aB,aA,aK,d6,cE];refine⟨⟨wo,xK⟩,?_⟩;rw[Bp];dsimp only[aB];refine cw ?_;refine bI ?_;dsimp only[cp,aW,aH,cM,DP,aP,CD,aC,aG,aE,aI,aD,aF,Qa,aJ,aB,aA,aK,bu,bk,aS,aQ,aM,eN,cE,cZ,bv,eK,d6];refine⟨⟨wo,wo⟩,?_⟩;rw[bZ];unfold FU
 (dsimp only[lI,i8,aA];refine⟨rfl,?_⟩)
 refine aZ (v:= .list ((PS h w<|EZ t bd).map dP)) rfl ?_;refine⟨rfl,?_⟩;refine g.hc<|tM e R ?_;have o:D.okd 40 (.list<|(PS h w<|EZ t bd).map dP)=Jc:=by rw[cU];exact b8 dP (my 38) _
 refine⟨⟨o,o⟩,?_⟩;rw[bZ];exact g.qr k
theorem ub(e:CR C G1 mg mb)(K:DL C Ep)(E:DL C Gi)(R:CI t h w)(N:NN t)(B:1<=bd)(H:1<=wd){ns:List Int}{PX:Gq}(g:Gen C (n+9) Q X c u P PX)(k:Q (.bool Jc) Jc){l:List ((Pl->Bool)×Pl)}(el:(D9 t h w wd bd λo0=>Jc).2=l)(x:EO t h w wd bd (λo0=>Jc) l Jb)(O:Em t h w wd bd=Jb):
  CQ G1 c u (EE.b.drop 7) (Δ0 b F σ M V s ns t bd wd m<|No "_law_some" Jb<|Nb "_law_found" Jc (.tup [.str "road",Dv t h w l])<|No "_law_kept" Jb<|[]) P PX:=by
 dsimp only[EE,Wz];have A:D.okd 40 (.tup [.str "road",Dv t h w l])=Jc:=Bb xK<|kY t h w 35 l;have T:l.length<=65:=el▸pk 65 _;have S:∀ {Q:D->Bool->Prop} {X:DX} {a J W:Bool},Q (.tup [.str "road",Dv t h w l]) Jc->aR (aN C<|n+9) "_law_told" [(dT t,a),(.int bd,J),(.int wd,W)] Q X:=λq=>pX e K E R N B H (λd v=>by rw[O] at v;cases v) λo0=>by rw[el];exact q
 refine cb ?_;dsimp only[cy,bv,aA,aW,fw,DP,aD,aF,Qa,aJ,aB,aK,aP,CD,aC,aG,aE,aI,bu,aH,bk,aS];refine⟨⟨kA 38 t,kA 38 t⟩,?_⟩;rw[bZ]
 (dsimp only[cx,aB];refine⟨rfl,?_⟩)
 refine g.hc<|S ?_;refine⟨⟨A,A⟩,?_⟩;rw[bZ];dsimp only[cx,aB];refine cw ?_;refine cb ?_;dsimp only[aW,bv,cM,DP,eK,aQ,aM,aD,aF,Qa,aJ,aB,aA,aK,d6,cE];refine⟨⟨xK,xK⟩,?_⟩;rw[bZ];dsimp only[aA];refine bq ?_
 (dsimp only[bj,fj,aC,aE,b6,aQ,aM,aD,aF,Qa,aJ,aB,aA,aK,bV,tgl,bC,sW,bM,bD,bJ,cr,eN,cE,bk,sU];refine⟨rfl,?_⟩)
 rw[xG x.ne];dsimp only[aB,f8,gf,Qa,f0,f7,Cp,cr,bM,bJ,cA,gN,cV,gb,hU,bC,sW,bD,aA,f6,gc,aS,aL,aO];refine uF ?_;rw[AB];refine⟨rfl,?_⟩
 (dsimp only[aQ,CE,aC,aG,aE,aI,aM,aP,CD,aX,aU,aD,aF,Qa,aJ,aB,aA,aK,bu,aH,bt,bk,aS,bH,ch,bL];refine⟨rfl,?_⟩)
 refine g.hc<|S ?_
 (dsimp only[aA,bV,tgl,bC,sW,bM,bD,bJ,cr,aB,eN,cE,bk];refine⟨rfl,trivial,?_⟩)
 refine⟨by rw[Qd];exact df<|Ka T (by decide),?_⟩;have o:D.okd 40 (Dv t h w l)=Jc:=kY t h w 36 l;refine cb ?_
 (dsimp only[cy,bv,aA,aW,fw,DP,aD,aF,Qa,aJ,aB,aK,aQ,aM,eN,cE,bG,CE,C2,aC,aG,aT,aE,aI,aV,eK,aP,CD,bu,aH,bk,aS];refine⟨rfl,?_⟩)
 refine g.hc<|S ?_;refine⟨by decide,?_⟩;refine⟨⟨A,A⟩,?_⟩;rw[bZ];dsimp only[cx,aB];refine⟨⟨o,o⟩,?_⟩;rw[bZ];dsimp only[cx,aB];refine cw ?_;refine bI ?_
 (dsimp only[aP,CD,aC,aG,aX,aE,aI,aU,aQ,aM,aD,aF,Qa,aJ,aB,aA,aK,bV,tgl,bC,sW,bM,bD,bJ,cr,eN,cE,bk,aS,bH,bu,aH,bt,ch,bL];refine⟨rfl,rfl,?_⟩)
 refine g.hc<|tD e R D.int ?_;dsimp only[aA,bk,aH,bt,ch,em,bL];rw[<-uM];refine g.hc<|zK e R N x (Qq T<|by decide) ?_;exact g.qr k
theorem BY(e:CR C G1 mg mb)(K:DL C Ep)(E:DL C Gi){ns:List Int}(s:ns.length<=63)(k:Q (.bool Jc) Jc):aR (aN C (n+10)) "law" [(.scr ns,b)] Q X:=by
 refine e.fn EE (bl 49 rfl) rfl λl u y PX g=> ?_;dsimp only[EE];dsimp only[aY,b0,bo];refine bq ?_
 (dsimp only[aP,CD,aC,aG,aX,aE,aI,aU,aD,aF,Qa,aJ,aB,aA,aK,f9,aH,bt,bH];refine⟨rfl,?_⟩)
 refine g.hc (w0 e s λt h w R N=> ?_);dsimp only[aA,bk,bA,aH,aL,Qa,aO,aB];refine bq ?_
 (dsimp only[aP,CD,aC,aG,aX,aE,aI,aU,aD,aF,Qa,aJ,aB,aA,aK,f9,aH,bt,bH];refine⟨rfl,?_⟩)
 refine g.hc (xJ e s λbd v=> ?_);dsimp only[aA,bu,bA,aH,aL,Qa,aO,aB];refine bq ?_
 (dsimp only[aP,CD,aC,aG,aX,aE,aI,aU,aD,aF,Qa,aJ,aB,aA,aK,bk,aS,bH,f9,aH,bt,ch,bL];refine⟨rfl,?_⟩)
 refine g.hc (xo e s R N λwd H=> ?_);dsimp only[aA,bu,bA,aH,aL,Qa,aO,aB];refine bq ?_;refine ca rfl ?_;dsimp only[CE,aC,aG,aX,aE,aI,aU,cJ,aD,aF,Qa,aJ,aB,aA,aK,bk,bH,cI];refine bN dI dI (λr T K k=> ?_) ?_
 .dsimp only[bw,cP,cj,aO,Qa,aL,aB,aA,bK];dsimp only[D0]
  (dsimp only[bj,fj,aC,aE,b6,aD,aJ,Qa,aF,aB,aA,aK,bk,sU,tgl];refine⟨rfl,?_⟩)
  rw[c6 _ o8];exact k
 dsimp only[bA,aH,aL,Qa,aO,aB,aA];refine bq ?_
 (dsimp only[aP,CD,aC,aG,aX,aE,aI,aU,aM,aH,bt,aD,aF,Qa,aJ,aB,aA,aK,f9,bH];refine⟨rfl,?_⟩)
 refine g.hc<|ey e s ?_;dsimp only[aA,bu,bA,aH,aL,Qa,aO,aB];have L:=(ui ns 72).1;generalize Db ns 72=m at L ⊢;refine cb ?_
 (dsimp only[aW,bv,cM,DP,aM,bp,aD,aF,Qa,aJ,aB,aA,aK,bu,cm,bR];refine⟨by decide,⟨rfl,rfl⟩,?_⟩)
 refine cG (λi=> ?_) λi=> ?_
 .exact xY e R N v H L g (λo0 o0 o0 q=>q) k
 refine cw ?_;refine bq ?_
 (dsimp only[aP,CD,aC,aG,aX,aE,aI,aU,aD,aF,Qa,aJ,aB,aA,aK,bu,aH,bt,bk,aS,bH,ch,bL];refine⟨rfl,?_⟩)
 refine g.hc<|pX e K E R N v H (λd c=> ?_) λo=> ?_
 .obtain⟨P,rfl⟩:=vA c;dsimp only[aB,bV,tgl,bC,sW,bD,cr];exact sL e K E R N v H g k c
 .dsimp only[aA,bV,tgl,bC,sW,bM,bD,bJ,cr,aB,bA,aH,aL,Qa,aO];exact ub e K E R N v H g k rfl (si R o) o
theorem pure13(C:Cx)(mg mb:Jq->Option Jf)(g:D4 C G1 mg mb)(x:Dm C G1 mg mb)(k:C.ok)(J:∀t∈tab0,X4 λa o f body=>FO C t.f t.ps t.b a o f body)(l:∀c∈kinds7.cl,DL C c)(ns:List Int)(s:ns.length<=63):
  aN C 20 "law" [.scr ns] Ge (λv o0=>v= .bool Jc) λo0 o0=>False:=by
 have K:DL C Ep:=l _<|.head _;have E:DL C Gi:=l _<|.tail _ (.head _);have Y:∀t∈tab,X4 λa o f body=>FO C t.f t.ps t.b a o f body:=λt W=>by
  rcases Qr.mp (show t∈tab0++(Ep.ms++Gi.ms) from W) with q|q
  .exact J t q
  .rcases Qr.mp q with q|q
   .obtain⟨o0,o0,o0,o0,o0,m⟩:=K;exact m t q
   .obtain⟨o0,o0,o0,o0,o0,m⟩:=E;exact m t q
 exact BY (n:=10) (b:=Jd) (Q:=λd o0=>d= .bool Jc) (X:=λo0 o0=>False) ⟨g,x,k,Y⟩ K E s rfl Ge [.scr ns] [[]] _ _ (.cons ⟨⟨rfl,Qq s (by decide)⟩,rfl⟩ (λq=>(nomatch q)) (λp D=>(nomatch D)) .nil) (λd b v T F q r=>by
  subst q;exact r.rd.1) λo0 o0 o0 o0 o0 q o0=>q
theorem hcf12:∀c∈kinds7.cl,kinds7.flds c.nm=c.fs:=λc σ=>by
 rcases Qw.mp σ with rfl|σ
 .rfl
 .rw[Qh.mp σ];rfl
theorem hnb12:∀c∈kinds7.cl,tab0.any (·.f==c.nm)=Jd:=λc σ=>by
 rcases Qw.mp σ with rfl|σ
 .decide+kernel
 .rw[Qh.mp σ];decide+kernel
end
section
open PySem.W PyProof.Rows
section
variable{tb:String->Option Builtin}{p:Jn}{w:Jm}{n₀:Nat}{ann:Option Jf}
theorem s8{n:Nat}:∀ {s s':SharedT} {t:Thread},kK tb p w n₀ ann n s t=Ja s'->topRun tb p w n₀ ann n s.abs t=Ja s'.abs:=by
 induction n with
 |zero=>exact λh=>ns h
 |succ n ih=>
  intro s s' t h;replace h:cond (through t) (Ja s) (cond (stepOk n₀ ann t) ((stepT (denote tb) p w s t).bind λq=>kK tb p w n₀ ann n q.1 q.2) Jb)=Ja s':=h;unfold topRun
  induction ht:through t with
  |true=>rw[ht] at h;exact Uj (λz=>Ja<|SharedT.abs z)<|sj h
  |false=>
   rw[ht] at h
   induction ho:stepOk n₀ ann t with
   |false=>rw[ho] at h;exact ns h
   |true=>
    rw[ho] at h;obtain⟨q,hs,h⟩:=Qn.mp h;rw[stepT_spec hs];exact ih h
theorem mz{life:Life}:∀ (os:List Jp) (t:BT) (n:Nat) (t':BT),nR os t n=Ja t'->absHeap t' (n+os.length) life=⟨(absHeap t n life).objs++os.toArray,life⟩
 |[],t,n,t',h=>by cases h;rw[Array.append_empty];rfl
 |o::os,t,n,t',h=>by
  have h:cond ((t.ins n o).get n).isSome (nR os (t.ins n o)<|n+1) Jb=Ja t':=h;cases g:((t.ins n o).get n).isSome with
  |false=>rw[g] at h;cases h
  |true=>
   rw[g] at h;have z:=mz (life:=life) os (t.ins n o) (n+1) t' h;rw[absHeap_ins g] at z;rw[KW,<-WQ,QI,z];show Heap.mk ((absHeap t n life).objs.push o++os.toArray) life=_
   congr 1
   apply Array.ext';simp
theorem wG{s:Je}{sT:SharedT}(h:toT s=Ja sT):sT.abs=s:=by
 obtain⟨t,e,rfl⟩:=Qt.mp h;have z:=mz (life:=s.heap.life) _ _ _ _ e;obtain⟨⟨objs,life⟩,gens,drawn,toks,os⟩:=s;dsimp only at z ⊢;rw[KR,YB] at z;unfold SharedT.abs;dsimp only;rw[z]
 congr 2
 simp[absHeap,BT.list]
theorem qG{N:Nat}{s₀ s:Je}(h:jv tb p w N s₀=Ja s):topFrom tb p w N s₀=Ja s:=by
 unfold jv at h;unfold topFrom;cases e1:(s₀.heap.isNs JA&&s₀.gens.size==0) with
 |false=>rw[e1] at h;cases h
 |true=>
  rw[e1] at h;dsimp only at h ⊢;obtain⟨s₁,h1,h2⟩:=Qn.mp h;obtain⟨sT,h3,h4⟩:=Qn.mp h1;have z:=s8 h4;rw[wG h3] at z;rw[z];exact h2
theorem left_T{q:Jn}{loose:List Jq}{Xt:Je->Bool}{α:Type}{Yf:Je->α}{Ya:Jm->α}{N:Nat}{g0:Bool}
  (h:∀w:Jm,((fencedOpening Y6 p w N).bind (jv Y6 p w N)).map (λs=>(openSeen q loose (importedModules p.main.body) Xt g0 s,Yf s))=Ja (openGood q loose,Ya w)):LeftO p q loose Xt Yf Ya N g0:=λw=>by
 obtain⟨s,e,a⟩:=Qt.mp<|h w;obtain⟨s₀,e1,e2⟩:=Qn.mp e;unfold openEnds;rw[e1];show Wa _ (topFrom Y6 p w N s₀)=_;rw[qG e2];exact Uj Ja a
end
end
end Vl.Internal
end
open PySem.W PyProof.Rows
set_option maxRecDepth 100000 in
set_option maxHeartbeats 0 in
theorem PySem.Challenge.cw_uf010011_13_holds : PySem.Challenge.rw_uf010011_13.Holds := by
 w_on
 refine holds_law (by decide+kernel) λsaid=> ?_;refine holds_open (q:=Vl.Internal.view7) (loose:=[]) (Xt:=λs=>recOk (RowW.records<|OpenRow.toRowW (OpenLaw.row PySem.Challenge.rw_uf010011_13)) s) (XP:=λo0 o0=>True) (Yf:=Hook.obs<|Vl.Internal.hookE Vl.Internal.kinds7) (Ya:=Hook.val<|Vl.Internal.hookE Vl.Internal.kinds7) (YP:=Hook.says<|Vl.Internal.hookE Vl.Internal.kinds7) (N:=20000) ?hl (Hook.of<|Vl.Internal.hookE Vl.Internal.kinds7) (Hook.keeps<|Vl.Internal.hookE Vl.Internal.kinds7) (λo0 o0=>trivial) (λo0 o0 o0 o0 o0=>trivial) (by rfl) (by rfl) (by rfl) (λs e=>recFacts_of e) (by rfl) (by assumption) (by decide+kernel) ⟨rfl,rfl,rfl,rfl,rfl,by decide+kernel⟩ ?hw ?hc
 case hl=>exact Vl.Internal.left_T Vl.Internal.hl8
 case hw=>w_witness2
 case hc=>exact Vl.Internal.law_walk (N:=20) [("MOST",.int 8),("ROW",.str "row"),("COLUMN",.str "column")] Vl.Internal.tab0 Vl.Internal.kinds7 rfl rfl rfl (by decide+kernel) (by decide+kernel) (by decide+kernel) (by decide) Vl.Internal.hcf12 Vl.Internal.hnb12 Vl.Internal.pure13
